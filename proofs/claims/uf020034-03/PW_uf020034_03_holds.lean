import PyProof.Rows.All
import Wide.All
import OpenK.AllK
import Wide.FinOn
import KE.KIsAll
import PyProof.Rows.CallKwBuiltin
import PyProof.Rows.SortRev
import PySem.Challenge.RW_uf020034_03

section
set_option autoImplicit false
set_option linter.all false
set_option genSizeOf false
set_option genInjectivity false
namespace Mine
open PySem (Str)

/-! Abstract values, cells, heaps. -/
inductive B where
  | int | bool | list | range
  | len | isinstance | max | min | sorted

inductive V where
  | none
  | bool (b : Bool)
  | int (i : Int)
  | str (s : Str)
  | tup (xs : List V)
  | lst (xs : List V)
  | rng (b : Int)
  | ref (i : Nat)
  | bt (b : B)
  | fn (k : Nat)
  | cls (k : Nat)

inductive C where
  | list (xs : List V)
  | dict (kvs : List (V × V))
  | inst (k : Nat) (fs : List (Nat × V))

structure Hp where
  next : Nat
  get : Nat → Option C

noncomputable def Hp.set (H : Hp) (i : Nat) (c : C) : Hp := ⟨H.next, fun j => if j = i then some c else H.get j⟩
noncomputable def Hp.new (H : Hp) (c : C) : Hp := ⟨H.next + 1, fun j => if j = H.next then some c else H.get j⟩
noncomputable def Hp.del (H : Hp) (i : Nat) : Hp := ⟨H.next, fun j => if j = i then none else H.get j⟩

abbrev Loc := Nat → Option V
noncomputable def upd (m : Loc) (i : Nat) (v : V) : Loc := fun j => if j = i then some v else m j
noncomputable def unb (m : Loc) (i : Nat) : Loc := fun j => if j = i then none else m j
noncomputable def unbs (ts : List Nat) (m : Loc) : Loc := fun j => if ts.contains j then none else m j

structure St where
  H : Hp
  loc : Loc
noncomputable def St.setH (σ : St) (H : Hp) : St := ⟨H, σ.loc⟩
noncomputable def St.put (σ : St) (i : Nat) (v : V) : St := ⟨σ.H, upd σ.loc i v⟩

inductive Flow where
  | next
  | ret (v : V)

noncomputable def lk {α : Type} : List (Nat × α) → Nat → Option α
  | [], _ => none
  | p :: r, n => cond (Nat.beq p.1 n) (some p.2) (lk r n)
noncomputable def st {α : Type} : List (Nat × α) → Nat → α → List (Nat × α)
  | [], n, v => [(n, v)]
  | p :: r, n, v => cond (Nat.beq p.1 n) ((p.1, v) :: r) (p :: st r n v)

/-- the largest size of a list, a text, a dict -/
noncomputable def SZ : Nat := 1048576
/-- a thing that must be there -/
noncomputable def need {α : Type} (o : Option α) (k : α → Prop) : Prop := match o with
  | some a => k a
  | none => False
/-- a demand on the way -/
noncomputable def Nd (p t : Prop) : Prop := p ∧ t
/-- two ways -/
noncomputable def Br (b : Bool) (t e : Prop) : Prop := match b with
  | true => t
  | false => e

/-! How things are seen. -/
noncomputable def cL : Option C → Option (List V)
  | some (.list xs) => some xs
  | _ => none
noncomputable def cD : Option C → Option (List (V × V))
  | some (.dict kvs) => some kvs
  | _ => none
noncomputable def cI : Option C → Option (Nat × List (Nat × V))
  | some (.inst k fs) => some (k, fs)
  | _ => none
noncomputable def mL (o : Option (List V)) : Option V := match o with
  | some xs => some (.lst xs)
  | none => none
/-- data, and lists of the heap as frozen ones -/
noncomputable def see (H : Hp) : V → Option V
  | .ref i => mL (cL (H.get i))
  | .bt _ => none
  | .fn _ => none
  | .cls _ => none
  | .rng _ => none
  | x => some x
noncomputable def aRef : V → Option Nat
  | .ref i => some i
  | _ => none
noncomputable def aInt : V → Option Int
  | .int i => some i
  | _ => none
noncomputable def aStr : V → Option Str
  | .str s => some s
  | _ => none
noncomputable def aLst : V → Option (List V)
  | .lst xs => some xs
  | _ => none
noncomputable def aTup : V → Option (List V)
  | .tup xs => some xs
  | _ => none
noncomputable def rngL (a : Int) : Nat → List V
  | 0 => []
  | n + 1 => .int a :: rngL (a + 1) n
/-- the items of data -/
noncomputable def itV : V → Option (List V)
  | .lst xs => some xs
  | .rng b => some (rngL 0 b.toNat)
  | _ => none

/-! Data, to a depth, the heap's lists resolved. -/
noncomputable def deepL (f : V → Option V) : List V → Option (List V)
  | [] => some []
  | x :: r => match f x with
    | some y => (match deepL f r with | some ys => some (y :: ys) | none => none)
    | none => none
noncomputable def mT (o : Option (List V)) : Option V := match o with
  | some xs => some (.tup xs)
  | none => none
noncomputable def bindL (o : Option (List V)) (f : List V → Option V) : Option V := match o with
  | some xs => f xs
  | none => none
noncomputable def deepN (H : Hp) : Nat → V → Option V
  | 0, x => (match x with
    | .none => some .none
    | .bool b => some (.bool b)
    | .int i => some (.int i)
    | .str s => some (.str s)
    | _ => none)
  | n + 1, x => (match x with
    | .none => some .none
    | .bool b => some (.bool b)
    | .int i => some (.int i)
    | .str s => some (.str s)
    | .tup xs => mT (deepL (deepN H n) xs)
    | .lst xs => mL (deepL (deepN H n) xs)
    | .ref i => bindL (cL (H.get i)) fun xs => mL (deepL (deepN H n) xs)
    | _ => none)
noncomputable def deep (H : Hp) (v : V) : Option V := deepN H 12 v
noncomputable def bI (b : Bool) : Int := cond b 1 0
noncomputable def isNone : V → Bool
  | .none => true
  | _ => false
noncomputable def eqB (a : Bool) : V → Bool
  | .bool b => a == b
  | .int i => decide (bI a = i)
  | _ => false
noncomputable def eqI (a : Int) : V → Bool
  | .bool b => decide (a = bI b)
  | .int i => decide (a = i)
  | _ => false
noncomputable def eqS (a : Str) : V → Bool
  | .str b => decide (a = b)
  | _ => false
mutual
noncomputable def eqD : V → V → Bool
  | .none, y => isNone y
  | .bool a, y => eqB a y
  | .int a, y => eqI a y
  | .str a, y => eqS a y
  | .tup a, y => (match y with | .tup b => eqDs a b | _ => false)
  | .lst a, y => (match y with | .lst b => eqDs a b | _ => false)
  | _, _ => false
noncomputable def eqDs : List V → List V → Bool
  | [], y => y.isEmpty
  | a :: r, y => (match y with | b :: t => eqD a b && eqDs r t | [] => false)
end

/-! Operations, as demands. -/
inductive BOp where
  | add | sub | mul | fdiv | mod
inductive COp where
  | eq | ne | lt | le | gt | ge | isIn | notIn | is | isNot
inductive LV where
  | val (v : V)
  | newList (xs : List V)

noncomputable def addK (x y : V) (k : LV → Prop) : Prop := match x with
  | .int a => need (aInt y) fun b => k (.val (.int (a + b)))
  | .str a => need (aStr y) fun b => Nd (a.length + b.length ≤ SZ) (k (.val (.str (a ++ b))))
  | _ => False
noncomputable def intK (x y : V) (k : Int → Int → Prop) : Prop := need (aInt x) fun a => need (aInt y) fun b => k a b
noncomputable def binK (op : BOp) (x y : V) (k : LV → Prop) : Prop := match op with
  | .add => addK x y k
  | .mul => intK x y fun a b => Nd (a.natAbs < 4611686018427387904 ∨ b.natAbs < 4611686018427387904) (k (.val (.int (a * b))))
  | .sub => intK x y fun a b => k (.val (.int (a - b)))
  | .fdiv => intK x y fun a b => Nd (b ≠ 0 ∧ b.natAbs < 1073741824) (k (.val (.int (Int.fdiv a b))))
  | .mod => intK x y fun a b => Nd (b ≠ 0) (k (.val (.int (Int.fmod a b))))
/-- < and ≤ (e) on ints, and on pairs of ints -/
noncomputable def cmpI (e : Bool) (a b : Int) : Bool := cond e (decide (a ≤ b)) (decide (a < b))
noncomputable def ltK (e : Bool) (x y : V) (k : Bool → Prop) : Prop := match x with
  | .int a => need (aInt y) fun b => k (cmpI e a b)
  | _ => False
noncomputable def isI : V → Bool
  | .int _ => true
  | _ => false
/-- a key that fits a dict: all ints -/
noncomputable def keyOk (ks : List V) (k : V) : Bool := isI k && ks.all isI
noncomputable def dGet {α : Type} : List (V × α) → V → Option α
  | [], _ => none
  | p :: r, k => cond (eqD p.1 k) (some p.2) (dGet r k)
noncomputable def dSet {α : Type} : List (V × α) → V → α → List (V × α)
  | [], k, v => [(k, v)]
  | p :: r, k, v => cond (eqD p.1 k) ((p.1, v) :: r) (p :: dSet r k v)
noncomputable def dKeys {α : Type} (kvs : List (V × α)) : List V := kvs.map (·.1)
/-- things that are looked at as objects -/
noncomputable def solid : V → Bool
  | .rng _ => false
  | .bt _ => false
  | .fn _ => false
  | .cls _ => false
  | _ => true
noncomputable def isB (c : Bool) : V → Bool
  | .bool d => d == c
  | _ => false
/-- the right side of «is»: None, True, False -/
noncomputable def isK (a b : V) (k : Bool → Prop) : Prop := match b with
  | .none => Nd (solid a = true) (k (isNone a))
  | .bool c => Nd (solid a = true) (k (isB c a))
  | _ => False

/-- insertion into a rising list (sorting) -/
noncomputable def ins (x : Int) : List Int → List Int
  | [] => [x]
  | y :: r => if x ≤ y then x :: y :: r else y :: ins x r
noncomputable def srt : List Int → List Int
  | [] => []
  | x :: r => ins x (srt r)
noncomputable def intsOf : List V → Option (List Int)
  | [] => some []
  | x :: r => (match aInt x with | some i => (match intsOf r with | some l => some (i :: l) | none => none) | none => none)
noncomputable def intsK (x : V) (k : List Int → Prop) : Prop := need (aLst x) fun xs => need (intsOf xs) k

noncomputable def pyIdx (i : Int) (n : Nat) : Option Nat := if 0 ≤ i then (if i < n then some i.toNat else none) else none
noncomputable def atK (xs : List V) (i : Int) (k : V → Prop) : Prop := need (pyIdx i xs.length) fun n => need xs[n]? k
noncomputable def idxK (x y : V) (k : V → Prop) : Prop := need (aInt y) fun i => match x with
  | .lst xs => atK xs i k
  | .tup xs => atK xs i k
  | .str s => Nd (0 ≤ i) (need s.cps[i.toNat]? fun c => k (.str ⟨#[c]⟩))
  | _ => False
/-- slices with bounds that are not negative -/
noncomputable def slL (xs : List V) (a b : Int) : List V := (xs.drop a.toNat).take (b.toNat - a.toNat)
/-- the first items of a tuple, not all -/
noncomputable def slT (xs : List V) (lo : Option Int) (hi : Int) : Option (List V) := match lo with
  | some _ => none
  | none => cond (Nat.blt hi.toNat xs.length) (some (xs.take hi.toNat)) none
noncomputable def slK (x : V) (lo : Option Int) (hi : Int) (k : LV → Prop) : Prop := Nd (0 ≤ lo.getD 0 ∧ 0 ≤ hi) (match x with
  | .lst xs => k (.newList (slL xs (lo.getD 0) hi))
  | .tup xs => need (slT xs lo hi) fun ys => k (.val (.tup ys))
  | _ => False)
noncomputable def trK (x : V) (k : Bool → Prop) : Prop := match x with
  | .none => k false
  | .bool b => k b
  | .int i => k (decide (i ≠ 0))
  | .str s => k (decide (s.length ≠ 0))
  | .lst xs => k (!xs.isEmpty)
  | _ => False
noncomputable def lenV : V → Option Nat
  | .str s => some s.length
  | .lst xs => some xs.length
  | _ => none

/-- kinds, for isinstance -/
inductive Kd where
  | none | bool | int | str | tuple | list
noncomputable def kdV : V → Option Kd
  | .none => some .none
  | .bool _ => some .bool
  | .int _ => some .int
  | .str _ => some .str
  | .tup _ => some .tuple
  | .lst _ => some .list
  | _ => none
noncomputable def kdC : Option C → Option Kd
  | some (.list _) => some .list
  | _ => none
noncomputable def kind (H : Hp) : V → Option Kd
  | .ref i => kdC (H.get i)
  | x => kdV x
noncomputable def lenH (H : Hp) : V → Option Nat
  | .ref i => (match H.get i with
    | some (.list xs) => some xs.length
    | _ => none)
  | x => lenV x
/-- the items that a loop over a value sees -/
noncomputable def items (H : Hp) : V → Option (List V)
  | .ref i => cL (H.get i)
  | x => itV x

/-! The program text without places. fz: a list made here is never changed. -/
mutual
inductive PE where
  | cst (v : V)
  | loc (i : Nat)
  | glob (i : Nat)
  | attr (e : PE) (n : Nat)
  | bin (fz : Bool) (op : BOp) (l r : PE)
  | neg (e : PE)
  | not (e : PE)
  | cmp (op : COp) (l r : PE)
  | and (es : PEs)
  | ite (t : PC) (a b : PE)
  | list (fz : Bool) (es : PEs)
  | tup (es : PEs)
  | dict
  | idx (e i : PE)
  | sl (fz : Bool) (e : PE) (lo hi : PEo)
  | call (fz : Bool) (f : PE) (as : PEs)
  | sortedRev (fz : Bool) (i : Nat) (e : PE)
  | meth (fz : Bool) (o : PE) (n : Nat) (as : PEs)
  | comp (fz : Bool) (elt : PE) (ts : List Nat) (it : PE) (cond : PCo)
inductive PEs where
  | nil
  | cons (e : PE) (r : PEs)
inductive PEo where
  | none
  | some (e : PE)
/-- tests -/
inductive PC where
  | e (e : PE)
  | not (c : PC)
  | and (cs : PCs)
  | or (cs : PCs)
inductive PCs where
  | nil
  | cons (c : PC) (r : PCs)
inductive PCo where
  | none
  | some (c : PC)
end
inductive PT where
  | loc (i : Nat)
  | attr (o : PE) (n : Nat)
  | idx (o i : PE)
  | tup (is : List Nat)
mutual
inductive PS where
  | expr (e : PE)
  | assign (t : PT) (e : PE)
  | augLoc (i : Nat) (op : BOp) (e : PE)
  | augAttr (o : PE) (n : Nat) (op : BOp) (e : PE)
  | ret (e : PEo)
  | ite (t : PC) (a b : PSs)
  | loop (ts : List Nat) (it : PE) (body : PSs)
  | while_ (t : PC) (body : PSs)
  | raise
inductive PSs where
  | nil
  | cons (s : PS) (r : PSs)
end

structure Fn where
  params : List Nat
  body : PSs
structure Cl where
  init : Option Nat
  meths : List (Nat × Nat)
  attrs : List Nat
structure Prog where
  fn : Nat → Option Fn
  cls : Nat → Option Cl
  glob : Nat → Option V
  /-- names of built-in methods -/
  nAppend : Nat
  nPop : Nat
  nGet : Nat

noncomputable def bKd : B → Option Kd
  | .int => some .int
  | .bool => some .bool
  | .list => some .list
  | _ => none
/-- the kinds of data, numbered -/
noncomputable def kNo : Kd → Nat
  | .none => 0
  | .bool => 1
  | .int => 2
  | .str => 3
  | .list => 4
  | .tuple => 5
noncomputable def isi1 (k : Kd) (t : V) : Option Bool := match t with
  | .bt b => (match bKd b with | some j => some (Nat.beq (kNo k) (kNo j) || (Nat.beq (kNo k) 1 && Nat.beq (kNo j) 2)) | none => none)
  | _ => none

/-- built-in functions: of one thing, as it is seen, and its length; of two -/
noncomputable def b1K (b : B) (s : Option V) (n : Option Nat) (k : LV → Prop) : Prop := match b with
  | .len => need n fun n => k (.val (.int n))
  | .list => need s fun x => need (aLst x) fun xs => k (.newList xs)
  | .range => need s fun x => need (aInt x) fun n => Nd (n.natAbs ≤ SZ) (k (.val (.rng n)))
  | _ => False
noncomputable def b2K (b : B) (x y : V) (k : LV → Prop) : Prop := match b with
  | .max => intK x y fun a b => k (.val (.int (if b > a then b else a)))
  | .min => intK x y fun a b => k (.val (.int (if b < a then b else a)))
  | _ => False
noncomputable def isIsi : B → Bool
  | .isinstance => true
  | _ => false
noncomputable def callB (H : Hp) (b : B) (as : List V) (k : LV → Prop) : Prop := match as with
  | [v] => b1K b (see H v) (lenH H v) k
  | [v, w] => Br (isIsi b) (need (kind H v) fun q => need (isi1 q w) fun r => k (.val (.bool r))) (need (see H v) fun x => need (see H w) fun y => b2K b x y k)
  | _ => False

/-- hand on a made value -/
noncomputable def give (fz : Bool) (σ : St) (Q : V → St → Prop) : LV → Prop
  | .val v => Q v σ
  | .newList xs => Nd (xs.length ≤ SZ) (Br fz (Q (.lst xs) σ) (Q (.ref σ.H.next) (σ.setH (σ.H.new (.list xs)))))
/-- a call's answer; a list that only the answer names may be frozen -/
noncomputable def giveV (fz : Bool) (σ : St) (Q : V → St → Prop) (v : V) : Prop := Br fz (match aRef v with
    | some i => (match cL (σ.H.get i) with | some xs => Q (.lst xs) (σ.setH (σ.H.del i)) | none => Q v σ)
    | none => Q v σ) (Q v σ)

abbrev CT := Nat → List V → Hp → (V → Hp → Prop) → Prop

noncomputable def bindGo : List Nat → List V → St → (St → Prop) → Prop
  | [], ys, σ, K => (match ys with | [] => K σ | _ => False)
  | i :: is, ys, σ, K => (match ys with | x :: xs => bindGo is xs (σ.put i x) K | [] => False)
noncomputable def bindT (ts : List Nat) (v : V) (σ : St) (K : St → Prop) : Prop := match ts with
  | [i] => K (σ.put i v)
  | _ => False

/-- the methods of lists and dicts -/
noncomputable def one {α : Type} : List α → Option α
  | [x] => some x
  | _ => none
noncomputable def methL (P : Prog) (σ : St) (i : Nat) (n : Nat) (as : List V) (xs : List V) (Q : V → St → Prop) : Prop := need (one as) fun a =>
  Br (Nat.beq n P.nAppend) (Nd (xs.length < SZ) (Q .none (σ.setH (σ.H.set i (.list (xs ++ [a])))))) <|
  need (aInt a) fun k => need (pyIdx k xs.length) fun j => need xs[j]? fun v => Q v (σ.setH (σ.H.set i (.list (xs.take j ++ xs.drop (j + 1)))))
/-- a key, and what stands for it if it is not there -/
noncomputable def keyD : List V → Option (V × V)
  | [k] => some (k, .none)
  | [k, d] => some (k, d)
  | _ => none
noncomputable def methD (P : Prog) (σ : St) (i : Nat) (n : Nat) (as : List V) (kvs : List (V × V)) (Q : V → St → Prop) : Prop := need (keyD as) fun t => Nd (keyOk (dKeys kvs) t.1 = true) (Q ((dGet kvs t.1).getD t.2) σ)

noncomputable def callF (P : Prog) (K : CT) (fz : Bool) (σ : St) (f : V) (as : List V) (Q : V → St → Prop) : Prop := match f with
  | .bt b => callB σ.H b as (give fz σ Q)
  | .fn k => K k as σ.H (fun v H => giveV fz (σ.setH H) Q v)
  | .cls k => need (P.cls k) fun c => need c.init fun f =>
      K f (.ref σ.H.next :: as) (σ.H.new (.inst k [])) (fun v H => Nd (isNone v = true) (Q (.ref σ.H.next) (σ.setH H)))
  | _ => False

/-- a comprehension's turns -/
noncomputable def compGo (tst : St → (Bool → St → Prop) → Prop) (elt : St → (V → St → Prop) → Prop) (ts : List Nat) (chk : Hp → Prop) : List V → List V → St → (List V → St → Prop) → Prop
  | [], acc, σ, Q => chk σ.H ∧ acc.length ≤ SZ ∧ Q acc σ
  | v :: vs, acc, σ, Q => chk σ.H ∧ acc.length < SZ ∧ bindT ts v σ fun σ₁ => tst σ₁ fun b σ₂ => Br b (elt σ₂ fun x σ₃ => compGo tst elt ts chk vs (acc ++ [x]) σ₃ Q) (compGo tst elt ts chk vs acc σ₂ Q)
/-- the list that a loop runs over stands as it was -/
noncomputable def still (v : V) (xs : List V) (H : Hp) : Prop := items H v = some xs

/-- two things compared -/
noncomputable def cmpK (H : Hp) (op : COp) (a b : V) (k : Bool → Prop) : Prop := match op with
  | .eq => need (deep H a) fun x => need (deep H b) fun y => k (eqD x y)
  | .ne => need (deep H a) fun x => need (deep H b) fun y => k (!eqD x y)
  | .lt => need (see H a) fun x => need (see H b) fun y => ltK false x y k
  | .le => need (see H a) fun x => need (see H b) fun y => ltK true x y k
  | .gt => need (see H a) fun x => need (see H b) fun y => ltK false y x k
  | .ge => need (see H a) fun x => need (see H b) fun y => ltK true y x k
  | .isIn => inK H a b k
  | .notIn => inK H a b fun r => k (!r)
  | .is => isK a b k
  | .isNot => isK a b fun r => k (!r)
where
  anyK (H : Hp) (a : V) (xs : List V) (k : Bool → Prop) : Prop := need (deep H a) fun y => need (deepL (deepN H 11) xs) fun ys => k (ys.any fun z => eqD z y)
  inK (H : Hp) (a b : V) (k : Bool → Prop) : Prop := match b with
    | .ref i => (match H.get i with
      | some (.list xs) => anyK H a xs k
      | _ => False)
    | .lst xs => anyK H a xs k
    | _ => False

/-- the built-in «sorted» -/
noncomputable def isSrt : V → Bool
  | .bt b => (match b with | .sorted => true | _ => false)
  | _ => false
/-- an item, of a dict too -/
noncomputable def idxH (H : Hp) (a b : V) (k : V → Prop) : Prop := match aRef a with
  | some i => (match H.get i with
    | some (.list xs) => idxK (.lst xs) b k
    | _ => False)
  | none => idxK a b k
noncomputable def optI : Option V → Option (Option Int)
  | none => some none
  | some x => (match aInt x with | some i => some (some i) | none => none)
noncomputable def hiI : Option V → Option Int
  | none => none
  | some x => aInt x
/-- an object's parts -/
noncomputable def instK (H : Hp) (a : V) (k : Nat → Nat → List (Nat × V) → Prop) : Prop := need (aRef a) fun i => need (cI (H.get i)) fun t => k i t.1 t.2
noncomputable def truK (H : Hp) (v : V) (k : Bool → Prop) : Prop := need (see H v) fun x => trK x k

mutual
noncomputable def wpE (P : Prog) (K : CT) : PE → St → (V → St → Prop) → Prop
  | .cst v, σ, Q => Q v σ
  | .loc i, σ, Q => need (σ.loc i) fun v => Q v σ
  | .glob i, σ, Q => need (P.glob i) fun v => Q v σ
  | .attr e n, σ, Q => wpE P K e σ fun o σ₁ => instK σ₁.H o fun _ _ fs => need (lk fs n) fun v => Q v σ₁
  | .bin fz op l r, σ, Q => wpE P K l σ fun a σ₁ => wpE P K r σ₁ fun b σ₂ => need (see σ₂.H a) fun x => need (see σ₂.H b) fun y => binK op x y (give fz σ₂ Q)
  | .neg e, σ, Q => wpE P K e σ fun a σ₁ => need (aInt a) fun i => Q (.int (-i)) σ₁
  | .not e, σ, Q => wpE P K e σ fun v σ₁ => truK σ₁.H v fun b => Q (.bool (!b)) σ₁
  | .cmp op l r, σ, Q => wpE P K l σ fun a σ₁ => wpE P K r σ₁ fun b σ₂ => cmpK σ₂.H op a b fun c => Q (.bool c) σ₂
  | .and es, σ, Q => wpAnd P K es σ Q
  | .ite t a b, σ, Q => wpT P K t σ fun c σ₁ => Br c (wpE P K a σ₁ Q) (wpE P K b σ₁ Q)
  | .list fz es, σ, Q => wpEs P K es σ fun vs σ₁ => give fz σ₁ Q (.newList vs)
  | .tup es, σ, Q => wpEs P K es σ fun vs σ₁ => Nd (vs.length ≤ SZ) (Q (.tup vs) σ₁)
  | .dict, σ, Q => Q (.ref σ.H.next) (σ.setH (σ.H.new (.dict [])))
  | .idx e i, σ, Q => wpE P K e σ fun a σ₁ => wpE P K i σ₁ fun b σ₂ => idxH σ₂.H a b fun v => Q v σ₂
  | .sl fz e lo hi, σ, Q => wpE P K e σ fun a σ₁ => wpO P K lo σ₁ fun l σ₂ => wpO P K hi σ₂ fun h σ₃ =>
      need (optI l) fun l => need (hiI h) fun h => need (see σ₃.H a) fun x => slK x l h (give fz σ₃ Q)
  | .call fz f as, σ, Q => wpE P K f σ fun g σ₁ => wpEs P K as σ₁ fun vs σ₂ => callF P K fz σ₂ g vs Q
  | .sortedRev fz i e, σ, Q => need (P.glob i) fun g => Nd (isSrt g = true) (wpE P K e σ fun a σ₁ => need (see σ₁.H a) fun x => intsK x fun l => Nd (l.length < 64) (give fz σ₁ Q (.newList ((srt l).reverse.map .int))))
  | .meth fz o n as, σ, Q => wpE P K o σ fun a σ₁ => need (aRef a) fun i => match σ₁.H.get i with
    | some (.inst k _) => need (P.cls k) fun c => need (lk c.meths n) fun f => wpEs P K as σ₁ fun vs σ₂ => callF P K fz σ₂ (.fn f) (.ref i :: vs) Q
    | some (.list _) => Nd ((Nat.beq n P.nAppend || Nat.beq n P.nPop) = true) (wpEs P K as σ₁ fun vs σ₂ => need (cL (σ₂.H.get i)) fun xs => methL P σ₂ i n vs xs Q)
    | some (.dict _) => Nd (Nat.beq n P.nGet = true) (wpEs P K as σ₁ fun vs σ₂ => need (cD (σ₂.H.get i)) fun kvs => methD P σ₂ i n vs kvs Q)
    | _ => False
  | .comp fz elt ts it cond, σ, Q => wpE P K it σ fun v σ₁ => need (items σ₁.H v) fun xs =>
      compGo (fun σ₂ k => wpC P K cond σ₂ k) (fun σ₂ k => wpE P K elt σ₂ k) ts (still v xs) xs [] ⟨σ₁.H, unbs ts σ₁.loc⟩ fun ys σ₂ => give fz ⟨σ₂.H, σ₁.loc⟩ Q (.newList ys)
noncomputable def wpT (P : Prog) (K : CT) : PC → St → (Bool → St → Prop) → Prop
  | .not e, σ, Q => wpT P K e σ fun b σ₁ => Q (!b) σ₁
  | .and es, σ, Q => wpAllT P K es σ Q
  | .or es, σ, Q => wpAnyT P K es σ Q
  | .e e, σ, Q => wpE P K e σ fun v σ₁ => truK σ₁.H v fun b => Q b σ₁
noncomputable def wpAllT (P : Prog) (K : CT) : PCs → St → (Bool → St → Prop) → Prop
  | .nil, σ, Q => Q true σ
  | .cons e r, σ, Q => wpT P K e σ fun b σ₁ => Br b (wpAllT P K r σ₁ Q) (Q false σ₁)
noncomputable def wpAnyT (P : Prog) (K : CT) : PCs → St → (Bool → St → Prop) → Prop
  | .nil, σ, Q => Q false σ
  | .cons e r, σ, Q => wpT P K e σ fun b σ₁ => Br b (Q true σ₁) (wpAnyT P K r σ₁ Q)
/-- b: the way that goes on («and»: true; «or»: false) -/
noncomputable def wpAnd (P : Prog) (K : CT) : PEs → St → (V → St → Prop) → Prop
  | .nil, _, _ => False
  | .cons e r, σ, Q => wpE P K e σ fun v σ₁ => (match r with
    | .nil => Q v σ₁
    | .cons _ _ => truK σ₁.H v fun b => Br b (wpAnd P K r σ₁ Q) (Q v σ₁))
noncomputable def wpEs (P : Prog) (K : CT) : PEs → St → (List V → St → Prop) → Prop
  | .nil, σ, Q => Q [] σ
  | .cons e r, σ, Q => wpE P K e σ fun v σ₁ => wpEs P K r σ₁ fun vs σ₂ => Q (v :: vs) σ₂
noncomputable def wpO (P : Prog) (K : CT) : PEo → St → (Option V → St → Prop) → Prop
  | .none, σ, Q => Q none σ
  | .some e, σ, Q => wpE P K e σ fun v σ₁ => Q (some v) σ₁
noncomputable def wpC (P : Prog) (K : CT) : PCo → St → (Bool → St → Prop) → Prop
  | .none, σ, Q => Q true σ
  | .some e, σ, Q => wpT P K e σ Q
end

/-- the sums of ints that «+=» makes -/
noncomputable def augK (op : BOp) (a b : V) (k : V → Prop) : Prop := match op with
  | .add => intK a b fun x y => k (.int (x + y))
  | _ => False
/-- a thing stored in an object -/
noncomputable def putA (P : Prog) (a : V) (n : Nat) (v : V) (σ : St) (Q : St → Prop) : Prop := instK σ.H a fun i k fs => need (P.cls k) fun c => Nd (c.attrs.contains n = true) (Nd (fs.length < 1000) (Q (σ.setH (σ.H.set i (.inst k (st fs n v))))))
noncomputable def asgn (P : Prog) (K : CT) (t : PT) (v : V) (σ : St) (Q : St → Prop) : Prop := match t with
  | .loc i => Q (σ.put i v)
  | .attr o n => wpE P K o σ fun a σ₁ => putA P a n v σ₁ Q
  | .idx o x => wpE P K o σ fun a σ₁ => wpE P K x σ₁ fun b σ₂ => need (aRef a) fun i => need (cD (σ₂.H.get i)) fun kvs => Nd (keyOk (dKeys kvs) b = true) (Nd (kvs.length < SZ) (Q (σ₂.setH (σ₂.H.set i (.dict (dSet kvs b v))))))
  | .tup is => need (aTup v) fun xs => bindGo is xs σ Q
/-- what a statement's end leads to -/
noncomputable def seqK (fl : Flow) (σ : St) (go : St → Prop) (Q : Flow → St → Prop) : Prop := match fl with
  | .next => go σ
  | .ret r => Q (.ret r) σ
/-- a loop's turns -/
noncomputable def loopGo (turn : V → St → (Flow → St → Prop) → Prop) (chk : Hp → Prop) : List V → St → (Flow → St → Prop) → Prop
  | [], σ, Q => chk σ.H ∧ Q .next σ
  | v :: vs, σ, Q => chk σ.H ∧ turn v σ fun fl σ₁ => seqK fl σ₁ (fun σ₂ => loopGo turn chk vs σ₂ Q) Q
noncomputable def whileGo (tst : St → (Bool → St → Prop) → Prop) (body : St → (Flow → St → Prop) → Prop) : Nat → St → (Flow → St → Prop) → Prop
  | 0, _, _ => False
  | n + 1, σ, Q => tst σ fun b σ₁ => Br b (body σ₁ fun fl σ₂ => seqK fl σ₂ (fun σ₃ => whileGo tst body n σ₃ Q) Q) (Q .next σ₁)

mutual
noncomputable def wpS (P : Prog) (K : CT) : PS → St → (Flow → St → Prop) → Prop
  | .expr e, σ, Q => wpE P K e σ fun _ σ₁ => Q .next σ₁
  | .assign t e, σ, Q => wpE P K e σ fun v σ₁ => asgn P K t v σ₁ fun σ₂ => Q .next σ₂
  | .augLoc i op e, σ, Q => need (σ.loc i) fun a => wpE P K e σ fun b σ₁ => augK op a b fun v => Q .next (σ₁.put i v)
  | .augAttr o n op e, σ, Q => wpE P K o σ fun a σ₁ => instK σ₁.H a fun _ _ fs => need (lk fs n) fun x => wpE P K e σ₁ fun b σ₂ => augK op x b fun v => putA P a n v σ₂ fun σ₃ => Q .next σ₃
  | .ret e, σ, Q => wpO P K e σ fun v σ₁ => Q (.ret (v.getD .none)) σ₁
  | .ite t a b, σ, Q => wpT P K t σ fun c σ₁ => Br c (wpSs P K a σ₁ Q) (wpSs P K b σ₁ Q)
  | .loop ts it body, σ, Q => wpE P K it σ fun v σ₁ => need (items σ₁.H v) fun xs =>
      loopGo (fun v σ₂ k => bindT ts v σ₂ fun σ₃ => wpSs P K body σ₃ k) (still v xs) xs σ₁ Q
  | .while_ t body, σ, Q => ∃ n, whileGo (fun σ₁ k => wpT P K t σ₁ k) (fun σ₁ k => wpSs P K body σ₁ k) n σ Q
  | .raise, _, _ => False
noncomputable def wpSs (P : Prog) (K : CT) : PSs → St → (Flow → St → Prop) → Prop
  | .nil, σ, Q => Q .next σ
  | .cons s r, σ, Q => wpS P K s σ (fun fl σ₁ => seqK fl σ₁ (fun σ₂ => wpSs P K r σ₂ Q) Q)
end

noncomputable def bindP : List Nat → List V → Loc → Option Loc
  | [], vs, m => (match vs with | [] => some m | _ => none)
  | p :: ps, vs, m => (match vs with | a :: as => bindP ps as (upd m p a) | [] => none)
noncomputable def retV : Flow → V
  | .ret v => v
  | _ => .none
/-- calls to depth n -/
noncomputable def CW (P : Prog) : Nat → CT
  | 0 => fun _ _ _ _ => False
  | n + 1 => fun f as H Q => need (P.fn f) fun d => need (bindP d.params as fun _ => none) fun m =>
      wpSs P (CW P n) d.body ⟨H, m⟩ (fun fl σ => Q (retV fl) σ.H)
end Mine

end

section
set_option autoImplicit false
set_option linter.all false
set_option genSizeOf false
set_option genInjectivity false
namespace Mine
open PySem (Str)
/-- where a def stands: at the top, or in a class -/
inductive Src where
  | g (x : Str)
  | m (c x : Str)
/-- the tables of a text: names, defs, global names, classes -/
structure Tb where
  nms : List (Nat × Str)
  fns : List (Nat × Src × Fn)
  globs : List (Nat × V)
  clss : List (Nat × Str × Cl)
  nAppend : Nat
  nPop : Nat
  nGet : Nat
noncomputable def mp2 {α β : Type} : Option (α × β) → Option β
  | some y => some y.2
  | none => none
noncomputable def isSm {α : Type} : Option α → Bool
  | some _ => true
  | none => false
noncomputable def Tb.P (t : Tb) : Prog where
  fn := fun k => mp2 (lk t.fns k)
  cls := fun k => mp2 (lk t.clss k)
  glob := fun i => lk t.globs i
  nAppend := t.nAppend
  nPop := t.nPop
  nGet := t.nGet
end Mine

end

section
set_option autoImplicit false
set_option linter.all false
set_option genSizeOf false
set_option genInjectivity false
namespace Mine
theorem ins_perm (x : Int) (l : List Int) : (ins x l).Perm (x :: l) := by
  induction l with
  | nil => exact .refl _
  | cons y r ih =>
    show (if x ≤ y then x :: y :: r else y :: ins x r).Perm _
    by_cases h : x ≤ y
    · rw [if_pos h]
    · rw [if_neg h]; exact (ih.cons y).trans (.swap x y r)
theorem srt_perm (l : List Int) : (srt l).Perm l := by
  induction l with
  | nil => exact .refl _
  | cons x r ih => exact (ins_perm x _).trans (ih.cons x)
theorem ins_sorted (x : Int) {l : List Int} (h : l.Pairwise (· ≤ ·)) : (ins x l).Pairwise (· ≤ ·) := by
  induction l with
  | nil => exact List.pairwise_singleton _ _
  | cons y r ih =>
    have h' := List.pairwise_cons.mp h
    show (if x ≤ y then x :: y :: r else y :: ins x r).Pairwise _
    by_cases c : x ≤ y
    · rw [if_pos c]
      refine List.pairwise_cons.mpr ⟨fun z hz => ?_, h⟩
      rcases List.mem_cons.mp hz with q | q
      · rw [q]; exact c
      · exact Int.le_trans c (h'.1 z q)
    · rw [if_neg c]
      refine List.pairwise_cons.mpr ⟨fun z hz => ?_, ih h'.2⟩
      rcases List.mem_cons.mp ((ins_perm x r).mem_iff.mp hz) with q | q
      · rw [q]; exact Int.le_of_lt (Int.not_le.mp c)
      · exact h'.1 z q
theorem srt_sorted (l : List Int) : (srt l).Pairwise (· ≤ ·) := by
  induction l with
  | nil => exact .nil
  | cons x r ih => exact ins_sorted x ih
theorem srt_uniq {a b : List Int} (h : a.Perm b) (ha : a.Pairwise (· ≤ ·)) : a = srt b :=
  (h.trans (srt_perm b).symm).eq_of_pairwise (le := (· ≤ ·)) (fun _ _ _ _ p q => Int.le_antisymm p q) ha (srt_sorted b)
end Mine

end

section
set_option autoImplicit false
set_option linter.all false
set_option genSizeOf false
set_option genInjectivity false
namespace Mine
open PySem PySem.Calls PyProof.Rows

noncomputable def bval : B → Value
  | .int => .type "int"
  | .bool => .type "bool"
  | .list => .type "list"
  | .range => .type "range"
  | .len => .builtin "len"
  | .isinstance => .builtin "isinstance"
  | .max => .builtin "max"
  | .min => .builtin "min"
  | .sorted => .builtin "sorted"

/-- what stands fast during the call -/
structure Cx where
  prog : Program
  w : World
  P : Prog
  nm : Nat → Str
  fnA : Nat → Option Addr
  clA : Nat → Option Addr
  hb : Heap

/-- the frozen objects, and where the cells lie -/
structure Wd where
  Z : Addr → Option Obj
  φ : Nat → Option (Addr × Addr)

abbrev tupO (vs : Array Value) (n : Nat) : Obj := { cls := .type "tuple", data := .seq vs n }
abbrev lstO (vs : Array Value) (n : Nat) : Obj := { cls := .type "list", data := .seq vs n }

mutual
inductive VR (X : Cx) (W : Wd) : Value → V → Prop
  | none : VR X W .none .none
  | bool (b : Bool) : VR X W (.bool b) (.bool b)
  | int (i : Int) (t : Tok) : VR X W (.int i t) (.int i)
  | str (s : Str) (t : Tok) : PyData.strOk s = true → s.length ≤ SZ → VR X W (.str s t) (.str s)
  | tup {a : Addr} {vs : Array Value} {n : Nat} {xs : List V} : W.Z a = some (tupO vs n) → VRs X W vs.toList xs → xs.length ≤ SZ → VR X W (.ref a) (.tup xs)
  | lst {a : Addr} {vs : Array Value} {n : Nat} {xs : List V} : W.Z a = some (lstO vs n) → VRs X W vs.toList xs → xs.length ≤ SZ → VR X W (.ref a) (.lst xs)
  | rng {r : Addr} {b : Int} {t u v : Tok} : W.Z r = some { cls := .type "range", dict := none, data := .fields #[.int 0 t, .int b u, .int 1 v], slots := #[] } → b.natAbs ≤ SZ → VR X W (.ref r) (.rng b)
  | ref {i : Nat} {l : Addr × Addr} : W.φ i = some l → VR X W (.ref l.1) (.ref i)
  | bt (b : B) : VR X W (bval b) (.bt b)
  | fn {k : Nat} {a : Addr} : X.fnA k = some a → VR X W (.ref a) (.fn k)
  | cls {k : Nat} {a : Addr} : X.clA k = some a → VR X W (.ref a) (.cls k)
inductive VRs (X : Cx) (W : Wd) : List Value → List V → Prop
  | nil : VRs X W [] []
  | cons {v : Value} {vs : List Value} {x : V} {xs : List V} : VR X W v x → VRs X W vs xs → VRs X W (v :: vs) (x :: xs)
end

structure Wd.Le (W W' : Wd) : Prop where
  zz : ∀ a o, W.Z a = some o → W'.Z a = some o
  ff : ∀ i l, W.φ i = some l → W'.φ i = some l
theorem Wd.Le.refl (W : Wd) : Wd.Le W W := ⟨fun _ _ e => e, fun _ _ e => e⟩
theorem Wd.Le.trans {W W' W'' : Wd} (a : Wd.Le W W') (b : Wd.Le W' W'') : Wd.Le W W'' := ⟨fun _ _ e => b.zz _ _ (a.zz _ _ e), fun _ _ e => b.ff _ _ (a.ff _ _ e)⟩

theorem VR.le2 {X : Cx} {W W' : Wd} (h : Wd.Le W W') : (∀ {v : Value} {x : V}, VR X W v x → VR X W' v x) ∧ ∀ {vs : List Value} {xs : List V}, VRs X W vs xs → VRs X W' vs xs := by
  constructor
  · intro v x r
    exact VR.rec (motive_1 := fun v x _ => VR X W' v x) (motive_2 := fun vs xs _ => VRs X W' vs xs) .none .bool .int .str (fun z _ q ih => .tup (h.zz _ _ z) ih q) (fun z _ q ih => .lst (h.zz _ _ z) ih q) (fun z p => .rng (h.zz _ _ z) p) (fun e => .ref (h.ff _ _ e)) .bt .fn .cls .nil (fun _ _ a b => .cons a b) r
  · intro v x r
    exact VRs.rec (motive_1 := fun v x _ => VR X W' v x) (motive_2 := fun vs xs _ => VRs X W' vs xs) .none .bool .int .str (fun z _ q ih => .tup (h.zz _ _ z) ih q) (fun z _ q ih => .lst (h.zz _ _ z) ih q) (fun z p => .rng (h.zz _ _ z) p) (fun e => .ref (h.ff _ _ e)) .bt .fn .cls .nil (fun _ _ a b => .cons a b) r
theorem VR.le {X : Cx} {W W' : Wd} (h : Wd.Le W W') {v : Value} {x : V} (r : VR X W v x) : VR X W' v x := (VR.le2 h).1 r
theorem VRs.le {X : Cx} {W W' : Wd} (h : Wd.Le W W') {vs : List Value} {xs : List V} (r : VRs X W vs xs) : VRs X W' vs xs := (VR.le2 h).2 r
/-- things one by one: nothing, or one more -/
theorem VRs.ind {X : Cx} {W : Wd} {p : List Value → List V → Prop} (h0 : p [] []) (h1 : ∀ {v : Value} {vs : List Value} {x : V} {xs : List V}, VR X W v x → VRs X W vs xs → p vs xs → p (v :: vs) (x :: xs)) {vs : List Value} {xs : List V} (r : VRs X W vs xs) : p vs xs :=
  VRs.rec (motive_1 := fun _ _ _ => True) (motive_2 := fun vs xs _ => p vs xs) trivial (fun _ => trivial) (fun _ _ => trivial) (fun _ _ _ _ => trivial) (fun _ _ _ _ => trivial) (fun _ _ _ _ => trivial) (fun _ _ => trivial) (fun _ => trivial) (fun _ => trivial) (fun _ => trivial) (fun _ => trivial) h0 (fun a b _ ih => h1 a b ih) r

theorem VRs.length {X : Cx} {W : Wd} {vs : List Value} {xs : List V} (r : VRs X W vs xs) : vs.length = xs.length := VRs.ind (p := fun vs xs => vs.length = xs.length) rfl (fun _ _ ih => congrArg (· + 1) ih) r
theorem VRs.append {X : Cx} {W : Wd} {vs ws : List Value} {xs ys : List V} (r : VRs X W vs xs) (h : VRs X W ws ys) : VRs X W (vs ++ ws) (xs ++ ys) := VRs.ind (p := fun vs xs => VRs X W (vs ++ ws) (xs ++ ys)) h (fun a _ ih => .cons a ih) r
theorem VRs.get {X : Cx} {W : Wd} {vs : List Value} {xs : List V} (r : VRs X W vs xs) {k : Nat} {x : V} (e : xs[k]? = some x) : ∃ v, vs[k]? = some v ∧ VR X W v x :=
  VRs.ind (p := fun vs xs => ∀ (k : Nat) x, xs[k]? = some x → ∃ v, vs[k]? = some v ∧ VR X W v x) (fun _ _ e => (nomatch e)) (fun {v _ _ _} a _ ih k x e => by
    cases k with
    | zero => exact ⟨v, rfl, Option.some.inj e ▸ a⟩
    | succ k => exact ih k x e) r k x e
theorem VRs.take {X : Cx} {W : Wd} {vs : List Value} {xs : List V} (k : Nat) (r : VRs X W vs xs) : VRs X W (vs.take k) (xs.take k) :=
  VRs.ind (p := fun vs xs => ∀ k : Nat, VRs X W (vs.take k) (xs.take k)) (fun k => by cases k <;> exact .nil) (fun a _ ih k => by
    cases k with
    | zero => exact .nil
    | succ k => exact .cons a (ih k)) r k
theorem VRs.drop {X : Cx} {W : Wd} {vs : List Value} {xs : List V} (k : Nat) (r : VRs X W vs xs) : VRs X W (vs.drop k) (xs.drop k) :=
  VRs.ind (p := fun vs xs => ∀ k : Nat, VRs X W (vs.drop k) (xs.drop k)) (fun k => by cases k <;> exact .nil) (fun a b ih k => by
    cases k with
    | zero => exact .cons a b
    | succ k => exact ih k) r k
theorem VRs.reverse {X : Cx} {W : Wd} {vs : List Value} {xs : List V} (r : VRs X W vs xs) : VRs X W vs.reverse xs.reverse :=
  VRs.ind (p := fun vs xs => VRs X W vs.reverse xs.reverse) .nil (fun a _ ih => by rw [List.reverse_cons, List.reverse_cons]; exact VRs.append ih (.cons a .nil)) r
theorem VRs.set {X : Cx} {W : Wd} {vs : List Value} {xs : List V} (k : Nat) {v : Value} {x : V} (r : VRs X W vs xs) (h : VR X W v x) : VRs X W (vs.set k v) (xs.set k x) :=
  VRs.ind (p := fun vs xs => ∀ k : Nat, VRs X W (vs.set k v) (xs.set k x)) (fun k => .nil) (fun a b ih k => by
    cases k with
    | zero => exact .cons h b
    | succ k => exact .cons a (ih k)) r k

/-- the entries of a dict made in the call: by ints -/
inductive KVs (X : Cx) (W : Wd) : List (Int × Value) → List (V × V) → Prop
  | nil : KVs X W [] []
  | cons {i : Int} {v : Value} {x : V} {es : List (Int × Value)} {kvs : List (V × V)} : VR X W v x → KVs X W es kvs → KVs X W ((i, v) :: es) ((.int i, x) :: kvs)
/-- the entries of an object's own dict -/
inductive FVs (X : Cx) (W : Wd) : List DictEntry → List (Nat × V) → Prop
  | nil : FVs X W [] []
  | cons {i : Nat} {hh : Int} {t : Tok} {v : Value} {x : V} {es : List DictEntry} {fs : List (Nat × V)} : VR X W v x → FVs X W es fs → FVs X W (⟨hh, .str (X.nm i) t, v⟩ :: es) ((i, x) :: fs)

theorem KVs.le {X : Cx} {W W' : Wd} (h : Wd.Le W W') {es : List (Int × Value)} {kvs : List (V × V)} (r : KVs X W es kvs) : KVs X W' es kvs := by
  induction r with
  | nil => exact .nil
  | cons a _ ih => exact .cons (a.le h) ih
theorem FVs.le {X : Cx} {W W' : Wd} (h : Wd.Le W W') {es : List DictEntry} {fs : List (Nat × V)} (r : FVs X W es fs) : FVs X W' es fs := by
  induction r with
  | nil => exact .nil
  | cons a _ ih => exact .cons (a.le h) ih

abbrev dictO (es : Array DictEntry) (n : Nat) : Obj := { cls := .type "dict", data := .dict es n }
abbrev instO (c dx : Addr) : Obj := { cls := .ref c, dict := some dx, data := .plain }

/-- a cell lies in the heap -/
inductive LstCell (X : Cx) (W : Wd) (h : Heap) (l : Addr × Addr) (xs : List V) : Prop
  | mk (vs : Array Value) (n : Nat) (a : h.get? l.1 = some (lstO vs n)) (b : VRs X W vs.toList xs) (e : l.2 = l.1) (z : xs.length ≤ SZ)
inductive DicCell (X : Cx) (W : Wd) (h : Heap) (l : Addr × Addr) (kvs : List (V × V)) : Prop
  | mk (es : List (Int × Value)) (a : h.DictOf (intKind X.prog X.w) l.1 es) (k : KVs X W es kvs) (e : l.2 = l.1) (ne : (l.1 == sysModules) = false) (z : kvs.length ≤ SZ)
inductive InsCell (X : Cx) (W : Wd) (h : Heap) (l : Addr × Addr) (k : Nat) (fs : List (Nat × V)) : Prop
  | mk (c : Addr) (cl : Cl) (es : Array DictEntry) (n : Nat) (a : X.clA k = some c) (a' : X.P.cls k = some cl) (b : h.get? l.1 = some (instO c l.2)) (d : h.get? l.2 = some (dictO es n)) (f : FVs X W es.toList fs) (ne : l.2 ≠ l.1) (p : ∀ p ∈ fs, p.1 ∈ cl.attrs) (z : fs.length ≤ 1000)
noncomputable def CellAt (X : Cx) (W : Wd) (h : Heap) (l : Addr × Addr) : C → Prop
  | .list xs => LstCell X W h l xs
  | .dict kvs => DicCell X W h l kvs
  | .inst k fs => InsCell X W h l k fs

theorem CellAt.keeps {X : Cx} {W W' : Wd} {h h' : Heap} {l : Addr × Addr} {c : C} (hc : CellAt X W h l c) (hw : Wd.Le W W')
    (h1 : ∀ o, h.get? l.1 = some o → h'.get? l.1 = some o) (h2 : ∀ o, h.get? l.2 = some o → h'.get? l.2 = some o) : CellAt X W' h' l c := by
  cases c with
  | list xs => obtain ⟨vs, n, a, b, e, z⟩ := hc; exact ⟨vs, n, h1 _ a, b.le hw, e, z⟩
  | dict kvs => obtain ⟨es, a, k, e, n, z⟩ := hc; exact ⟨es, a.at h1, k.le hw, e, n, z⟩
  | inst k fs => obtain ⟨c, cl, es, n, a, a', b, d, f, ne, p, z⟩ := hc; exact ⟨c, cl, es, n, a, a', h1 _ b, h2 _ d, f.le hw, ne, p, z⟩
theorem CellAt.there {X : Cx} {W : Wd} {h : Heap} {l : Addr × Addr} {c : C} (hc : CellAt X W h l c) : (∃ o, h.get? l.1 = some o) ∧ ∃ o, h.get? l.2 = some o := by
  cases c with
  | list xs => obtain ⟨vs, n, a, b, e, _⟩ := hc; exact ⟨⟨_, a⟩, by rw [e]; exact ⟨_, a⟩⟩
  | dict kvs => obtain ⟨es, ⟨o, _, _, g, _⟩, k, e, _⟩ := hc; exact ⟨⟨o, g⟩, by rw [e]; exact ⟨o, g⟩⟩
  | inst k fs => obtain ⟨c, cl, es, n, a, a', b, d, f, _⟩ := hc; exact ⟨⟨_, b⟩, _, d⟩

inductive Own (W : Wd) (H : Hp) (a : Addr) : Prop
  | mk (i : Nat) (c : C) (l : Addr × Addr) (h : H.get i = some c) (p : W.φ i = some l) (e : a = l.1 ∨ a = l.2)
inductive CellIn (X : Cx) (W : Wd) (h : Heap) (i : Nat) (c : C) : Prop
  | mk (l : Addr × Addr) (p : W.φ i = some l) (r : CellAt X W h l c)

structure RelH (X : Cx) (W : Wd) (H : Hp) (h : Heap) : Prop where
  z : ∀ a o, W.Z a = some o → h.get? a = some o
  base : ∀ a o, X.hb.get? a = some o → W.Z a = some o
  cell : ∀ i c, H.get i = some c → CellIn X W h i c
  off : ∀ a, Own W H a → W.Z a = none
  sep : ∀ i j ci cj li lj, H.get i = some ci → H.get j = some cj → W.φ i = some li → W.φ j = some lj → i ≠ j → li.1 ≠ lj.1 ∧ li.1 ≠ lj.2 ∧ li.2 ≠ lj.1 ∧ li.2 ≠ lj.2
  dom : ∀ i, H.next ≤ i → H.get i = none ∧ W.φ i = none

theorem RelH.own_there {X : Cx} {W : Wd} {H : Hp} {h : Heap} (R : RelH X W H h) {a : Addr} (o : Own W H a) : ∃ ob, h.get? a = some ob := by
  obtain ⟨i, c, l, hc, hl, ha⟩ := o
  obtain ⟨l', hl', hcell⟩ := R.cell i c hc
  have : l' = l := Option.some.inj (hl'.symm.trans hl)
  subst this
  rcases ha with rfl | rfl
  · exact hcell.there.1
  · exact hcell.there.2
theorem RelH.own_lt {X : Cx} {W : Wd} {H : Hp} {h : Heap} (R : RelH X W H h) {a : Addr} (o : Own W H a) : a < h.objs.size := let ⟨_, e⟩ := R.own_there o; Heap.lt_size e
theorem RelH.bkeep {X : Cx} {W : Wd} {H : Hp} {h : Heap} (R : RelH X W H h) : ∀ a o, X.hb.get? a = some o → h.get? a = some o := fun a o e => R.z _ _ (R.base a o e)

/-- what a step may do: all that is neither owned nor private stands as it stood -/
structure Stp (Pv : Addr → Prop) (W : Wd) (H : Hp) (h : Heap) (W' : Wd) (H' : Hp) (h' : Heap) : Prop where
  le : Wd.Le W W'
  keep : ∀ a o, h.get? a = some o → ¬ Own W H a → ¬ Pv a → h'.get? a = some o
  own : ∀ a o, h.get? a = some o → ¬ Own W H a → ¬ Own W' H' a
  znew : ∀ a o, W'.Z a = some o → W.Z a = some o ∨ Own W H a ∨ h.get? a = none
  there : ∀ a o, h.get? a = some o → ∃ o', h'.get? a = some o'

noncomputable def noPv : Addr → Prop := fun _ => False

theorem Stp.refl {Pv : Addr → Prop} {W : Wd} {H : Hp} {h : Heap} : Stp Pv W H h W H h :=
  ⟨.refl _, fun _ o e _ _ => e, fun _ _ _ n => n, fun _ _ e => .inl e, fun _ o e => ⟨o, e⟩⟩
theorem Stp.trans {Pv : Addr → Prop} {W W' W'' : Wd} {H H' H'' : Hp} {h h' h'' : Heap} (a : Stp Pv W H h W' H' h') (b : Stp Pv W' H' h' W'' H'' h'') : Stp Pv W H h W'' H'' h'' where
  le := a.le.trans b.le
  keep := fun x o e n p => b.keep x o (a.keep x o e n p) (a.own x o e n) p
  own := fun x o e n => let ⟨_, e'⟩ := a.there x o e; b.own x _ e' (a.own x o e n)
  znew := fun x o e => by
    rcases b.znew x o e with q | q | q
    · exact a.znew x o q
    · by_cases ho : Own W H x
      · exact .inr (.inl ho)
      · cases hx : h.get? x with
        | none => exact .inr (.inr rfl)
        | some o' => exact absurd q (a.own x o' hx ho)
    · cases hx : h.get? x with
      | none => exact .inr (.inr rfl)
      | some o' => obtain ⟨_, e'⟩ := a.there x o' hx; rw [e'] at q; cases q
  there := fun x o e => let ⟨_, e'⟩ := a.there x o e; b.there x _ e'
theorem Stp.mono {Pv Pv' : Addr → Prop} {W W' : Wd} {H H' : Hp} {h h' : Heap} (a : Stp Pv W H h W' H' h') (hp : ∀ x, Pv x → Pv' x) : Stp Pv' W H h W' H' h' :=
  ⟨a.le, fun x o e n p => a.keep x o e n fun q => p (hp x q), a.own, a.znew, a.there⟩

/-- a step whose private things are new -/
theorem Stp.transFresh {Pv Pv' : Addr → Prop} {W W' W'' : Wd} {H H' H'' : Hp} {h h' h'' : Heap} (a : Stp Pv W H h W' H' h') (b : Stp Pv' W' H' h' W'' H'' h'') (hf : ∀ x, Pv' x → h.get? x = none ∨ Pv x) : Stp Pv W H h W'' H'' h'' where
  le := a.le.trans b.le
  keep := fun x o e n p => b.keep x o (a.keep x o e n p) (a.own x o e n) fun q => (hf x q).elim (fun z => by rw [z] at e; cases e) p
  own := fun x o e n => let ⟨_, e'⟩ := a.there x o e; b.own x _ e' (a.own x o e n)
  znew := fun x o e => by
    rcases b.znew x o e with q | q | q
    · exact a.znew x o q
    · by_cases ho : Own W H x
      · exact .inr (.inl ho)
      · cases hx : h.get? x with
        | none => exact .inr (.inr rfl)
        | some o' => exact absurd q (a.own x o' hx ho)
    · cases hx : h.get? x with
      | none => exact .inr (.inr rfl)
      | some o' => obtain ⟨_, e'⟩ := a.there x o' hx; rw [e'] at q; cases q
  there := fun x o e => let ⟨_, e'⟩ := a.there x o e; b.there x _ e'

/-- nothing of the layer's moves: more objects, or the private ones changed -/
theorem Stp.quiet {Pv : Addr → Prop} {W : Wd} {H : Hp} {h h' : Heap} (hk : ∀ a o, h.get? a = some o → ¬ Pv a → h'.get? a = some o) (ht : ∀ a o, h.get? a = some o → ∃ o', h'.get? a = some o') :
    Stp Pv W H h W H h' := ⟨.refl _, fun x o e _ p => hk x o e p, fun _ _ _ n => n, fun _ _ e => .inl e, ht⟩
theorem RelH.quiet {Pv : Addr → Prop} {X : Cx} {W : Wd} {H : Hp} {h h' : Heap} (R : RelH X W H h) (hk : ∀ a o, h.get? a = some o → ¬ Pv a → h'.get? a = some o) (hp : ∀ a, Pv a → ¬ Own W H a ∧ W.Z a = none) : RelH X W H h' where
  z := fun a o e => hk a o (R.z a o e) fun p => by rw [(hp a p).2] at e; cases e
  base := R.base
  cell := fun i c e => by
    obtain ⟨l, hl, hc⟩ := R.cell i c e
    exact ⟨l, hl, hc.keeps (.refl _) (fun o q => hk _ o q fun p => (hp _ p).1 ⟨i, c, l, e, hl, .inl rfl⟩) fun o q => hk _ o q fun p => (hp _ p).1 ⟨i, c, l, e, hl, .inr rfl⟩⟩
  off := R.off
  sep := R.sep
  dom := R.dom

noncomputable def Wd.addZ (W : Wd) (a : Addr) (o : Obj) : Wd := ⟨fun b => if b = a then some o else W.Z b, W.φ⟩
noncomputable def Wd.addφ (W : Wd) (i : Nat) (l : Addr × Addr) : Wd := ⟨W.Z, fun j => if j = i then some l else W.φ j⟩

theorem Own.addZ {W : Wd} {H : Hp} {a b : Addr} {o : Obj} : Own (W.addZ a o) H b ↔ Own W H b := ⟨fun ⟨i, c, l, x, y, z⟩ => ⟨i, c, l, x, y, z⟩, fun ⟨i, c, l, x, y, z⟩ => ⟨i, c, l, x, y, z⟩⟩
section
variable {X : Cx} {W : Wd} {H : Hp} {h h' : Heap} (R : RelH X W H h)
include R
theorem RelH.leZ {a : Addr} {o : Obj} (hn : h.get? a = none) : Wd.Le W (W.addZ a o) :=
  ⟨fun b ob e => (by
    show (if b = a then some o else W.Z b) = some ob
    rw [if_neg]
    · exact e
    · rintro rfl; rw [R.z _ _ e] at hn; cases hn), fun _ _ e => e⟩
/-- a new frozen object -/
theorem RelH.frozen {a : Addr} {o : Obj} (hk : ∀ b ob, h.get? b = some ob → h'.get? b = some ob) (hn : h.get? a = none) (ha : h'.get? a = some o) :
    RelH X (W.addZ a o) H h' ∧ Stp noPv W H h (W.addZ a o) H h' := by
  have L : Wd.Le W (W.addZ a o) := R.leZ hn
  refine ⟨⟨fun b ob e => ?_, fun b ob e => L.zz _ _ (R.base b ob e), fun i c e => ?_, fun b hb => ?_, R.sep, R.dom⟩, ⟨L, fun x ob e _ _ => hk x ob e, fun _ _ _ n z => n (Own.addZ.mp z), fun x ob e => ?_, fun x ob e => ⟨ob, hk x ob e⟩⟩⟩
  · have e' : (if b = a then some o else W.Z b) = some ob := e
    by_cases hb : b = a
    · subst hb; rw [if_pos rfl] at e'; cases e'; exact ha
    · rw [if_neg hb] at e'; exact hk _ _ (R.z _ _ e')
  · obtain ⟨l, hl, hc⟩ := R.cell i c e
    exact ⟨l, hl, hc.keeps L (fun o q => hk _ _ q) fun o q => hk _ _ q⟩
  · show (if b = a then some o else W.Z b) = none
    have hb' : Own W H b := Own.addZ.mp hb
    rw [if_neg]
    · exact R.off b hb'
    · rintro rfl
      obtain ⟨_, q⟩ := R.own_there hb'
      rw [q] at hn; cases hn
  · have e' : (if x = a then some o else W.Z x) = some ob := e
    by_cases hb : x = a
    · subst hb; exact .inr (.inr hn)
    · rw [if_neg hb] at e'; exact .inl e'
theorem RelH.leF {l : Addr × Addr} : Wd.Le W (W.addφ H.next l) :=
  ⟨fun _ _ e => e, fun i k e => by
    show (if i = H.next then some l else W.φ i) = some k
    rw [if_neg]
    · exact e
    · rintro rfl; rw [(R.dom _ (Nat.le_refl _)).2] at e; cases e⟩
theorem RelH.own_new {l : Addr × Addr} {c : C} {a : Addr} (ho : Own (W.addφ H.next l) (H.new c) a) : Own W H a ∨ a = l.1 ∨ a = l.2 := by
  obtain ⟨i, ci, li, hi, hl, ha⟩ := ho
  have hi' : (if i = H.next then some c else H.get i) = some ci := hi
  have hl' : (if i = H.next then some l else W.φ i) = some li := hl
  by_cases hn : i = H.next
  · rw [if_pos hn] at hl'; cases hl'; exact .inr ha
  · rw [if_neg hn] at hi' hl'; exact .inl ⟨i, ci, li, hi', hl', ha⟩
/-- a new cell -/
theorem RelH.fresh {l : Addr × Addr} {c : C} (hk : ∀ b ob, h.get? b = some ob → h'.get? b = some ob) (h1 : h.get? l.1 = none) (h2 : h.get? l.2 = none)
    (hc : CellAt X (W.addφ H.next l) h' l c) : RelH X (W.addφ H.next l) (H.new c) h' ∧ Stp noPv W H h (W.addφ H.next l) (H.new c) h' := by
  have L : Wd.Le W (W.addφ H.next l) := R.leF
  have nZ : ∀ b, h.get? b = none → W.Z b = none := fun b e => by
    cases q : W.Z b with
    | none => rfl
    | some o => rw [R.z _ _ q] at e; cases e
  have ne : ∀ i ci li, H.get i = some ci → W.φ i = some li → (li.1 ≠ l.1 ∧ li.1 ≠ l.2 ∧ li.2 ≠ l.1 ∧ li.2 ≠ l.2) := fun i ci li hi hl => by
    obtain ⟨o1, q1⟩ := R.own_there ⟨i, ci, li, hi, hl, .inl rfl⟩
    obtain ⟨o2, q2⟩ := R.own_there ⟨i, ci, li, hi, hl, .inr rfl⟩
    refine ⟨fun e => ?_, fun e => ?_, fun e => ?_, fun e => ?_⟩
    · rw [e, h1] at q1; cases q1
    · rw [e, h2] at q1; cases q1
    · rw [e, h1] at q2; cases q2
    · rw [e, h2] at q2; cases q2
  refine ⟨⟨fun b ob e => hk _ _ (R.z b ob e), R.base, fun i ci e => ?_, fun b hb => ?_, fun i j ci cj li lj hi hj hli hlj nij => ?_, fun i hi => ?_⟩, ⟨L, fun x ob e _ _ => hk x ob e, fun x ob e n o => ?_, fun _ _ e => .inl e, fun x ob e => ⟨ob, hk x ob e⟩⟩⟩
  · have e' : (if i = H.next then some c else H.get i) = some ci := e
    by_cases hn : i = H.next
    · rw [if_pos hn] at e'; cases e'
      exact ⟨l, by show (if i = H.next then some l else W.φ i) = some l; rw [if_pos hn], hc⟩
    · rw [if_neg hn] at e'
      obtain ⟨k, hl, q⟩ := R.cell i ci e'
      exact ⟨k, L.ff _ _ hl, q.keeps L (fun o q => hk _ _ q) fun o q => hk _ _ q⟩
  · rcases R.own_new hb with q | rfl | rfl
    · exact R.off b q
    · exact nZ _ h1
    · exact nZ _ h2
  · have hi' : (if i = H.next then some c else H.get i) = some ci := hi
    have hj' : (if j = H.next then some c else H.get j) = some cj := hj
    have hli' : (if i = H.next then some l else W.φ i) = some li := hli
    have hlj' : (if j = H.next then some l else W.φ j) = some lj := hlj
    by_cases hn : i = H.next
    · have hm : ¬ j = H.next := fun q => nij (hn.trans q.symm)
      rw [if_pos hn] at hli'; cases hli'
      rw [if_neg hm] at hj' hlj'
      obtain ⟨a, b, c, d⟩ := ne j cj lj hj' hlj'
      exact ⟨a.symm, c.symm, b.symm, d.symm⟩
    · rw [if_neg hn] at hi' hli'
      by_cases hm : j = H.next
      · rw [if_pos hm] at hlj'; cases hlj'
        obtain ⟨a, b, c, d⟩ := ne i ci li hi' hli'
        exact ⟨a, b, c, d⟩
      · rw [if_neg hm] at hj' hlj'
        exact R.sep i j ci cj li lj hi' hj' hli' hlj' nij
  · have hi2 : H.next + 1 ≤ i := hi
    have : ¬ i = H.next := by omega
    constructor
    · show (if i = H.next then some c else H.get i) = none
      rw [if_neg this]; exact (R.dom i (by omega)).1
    · show (if i = H.next then some l else W.φ i) = none
      rw [if_neg this]; exact (R.dom i (by omega)).2
  · rcases R.own_new o with q | rfl | rfl
    · exact n q
    · rw [h1] at e; cases e
    · rw [h2] at e; cases e
theorem RelH.own_set {i : Nat} {c c' : C} {a : Addr} (hi : H.get i = some c) : Own W (H.set i c') a ↔ Own W H a := by
  constructor
  · rintro ⟨j, cj, lj, hj, hl, ha⟩
    have hj' : (if j = i then some c' else H.get j) = some cj := hj
    by_cases hn : j = i
    · exact ⟨j, c, lj, hn ▸ hi, hl, ha⟩
    · rw [if_neg hn] at hj'; exact ⟨j, cj, lj, hj', hl, ha⟩
  · rintro ⟨j, cj, lj, hj, hl, ha⟩
    by_cases hn : j = i
    · exact ⟨j, c', lj, by show (if j = i then some c' else H.get j) = some c'; rw [if_pos hn], hl, ha⟩
    · exact ⟨j, cj, lj, by show (if j = i then some c' else H.get j) = some cj; rw [if_neg hn]; exact hj, hl, ha⟩
/-- a cell changed -/
theorem RelH.upd {i : Nat} {l : Addr × Addr} {c c' : C} (hi : H.get i = some c) (hl : W.φ i = some l) (hk : ∀ b ob, h.get? b = some ob → b ≠ l.1 → b ≠ l.2 → h'.get? b = some ob)
    (hc : CellAt X W h' l c') : RelH X W (H.set i c') h' ∧ Stp noPv W H h W (H.set i c') h' := by
  have ow : ∀ b, b = l.1 ∨ b = l.2 → Own W H b := fun b e => ⟨i, c, l, hi, hl, e⟩
  have hk' : ∀ b ob, h.get? b = some ob → ¬ Own W H b → h'.get? b = some ob := fun b ob e n => hk b ob e (fun q => n (ow b (.inl q))) fun q => n (ow b (.inr q))
  refine ⟨⟨fun b ob e => hk' _ _ (R.z b ob e) fun o => ?_, R.base, fun j cj e => ?_, fun b hb => R.off b ((R.own_set hi).mp hb), fun j k cj ck lj lk hj hk₂ hlj hlk nij => ?_, fun j hj => ?_⟩,
    ⟨.refl _, fun x ob e n _ => hk' x ob e n, fun x ob _ n o => n ((R.own_set hi).mp o), fun _ _ e => .inl e, fun x ob e => ?_⟩⟩
  · rw [R.off _ o] at e; cases e
  · have e' : (if j = i then some c' else H.get j) = some cj := e
    by_cases hn : j = i
    · rw [if_pos hn] at e'; cases e'; subst hn; exact ⟨l, hl, hc⟩
    · rw [if_neg hn] at e'
      obtain ⟨k, hlj, q⟩ := R.cell j cj e'
      obtain ⟨a, b, c₁, d⟩ := R.sep j i cj c k l e' hi hlj hl hn
      exact ⟨k, hlj, q.keeps (.refl _) (fun o q => hk _ _ q a b) fun o q => hk _ _ q c₁ d⟩
  · have g : ∀ j cj, (H.set i c').get j = some cj → ∃ c₂, H.get j = some c₂ := fun j cj e => by
      have e' : (if j = i then some c' else H.get j) = some cj := e
      by_cases hn : j = i
      · exact ⟨c, hn ▸ hi⟩
      · rw [if_neg hn] at e'; exact ⟨_, e'⟩
    obtain ⟨_, a⟩ := g j cj hj
    obtain ⟨_, b⟩ := g k ck hk₂
    exact R.sep j k _ _ lj lk a b hlj hlk nij
  · have hj' : H.next ≤ j := hj
    have hn : ¬ j = i := by rintro rfl; rw [(R.dom j hj').1] at hi; cases hi
    refine ⟨?_, (R.dom j hj').2⟩
    show (if j = i then some c' else H.get j) = none
    rw [if_neg hn]; exact (R.dom j hj').1
  · by_cases h1 : x = l.1
    · subst h1; exact hc.there.1
    · by_cases h2 : x = l.2
      · subst h2; exact hc.there.2
      · exact ⟨ob, hk x ob e h1 h2⟩
/-- a list that is changed no more -/
theorem RelH.freeze {i : Nat} {xs : List V} {l : Addr × Addr} (hi : H.get i = some (.list xs)) (hl : W.φ i = some l) :
    ∃ o, RelH X (W.addZ l.1 o) (H.del i) h ∧ Stp noPv W H h (W.addZ l.1 o) (H.del i) h ∧ VR X (W.addZ l.1 o) (.ref l.1) (.lst xs) := by
  obtain ⟨l', hl', vs, n, hg, hv, he, hsz⟩ := R.cell i _ hi
  have : l' = l := Option.some.inj (hl'.symm.trans hl)
  subst this
  have own_i : ∀ b, b = l'.1 ∨ b = l'.2 → Own W H b := fun b e => ⟨i, _, l', hi, hl, e⟩
  have L : Wd.Le W (W.addZ l'.1 (lstO vs n)) := ⟨fun b ob e => (by
    show (if b = l'.1 then some (lstO vs n) else W.Z b) = some ob
    rw [if_neg]
    · exact e
    · rintro rfl; rw [R.off _ (own_i _ (.inl rfl))] at e; cases e), fun _ _ e => e⟩
  have od : ∀ b, Own (W.addZ l'.1 (lstO vs n)) (H.del i) b → Own W H b ∧ b ≠ l'.1 := fun b ⟨j, cj, lj, hj, hlj, ha⟩ => by
    have hj' : (if j = i then none else H.get j) = some cj := hj
    by_cases hn : j = i
    · rw [if_pos hn] at hj'; cases hj'
    · rw [if_neg hn] at hj'
      refine ⟨⟨j, cj, lj, hj', hlj, ha⟩, ?_⟩
      obtain ⟨a, b, c, d⟩ := R.sep j i cj _ lj l' hj' hi hlj hl hn
      rcases ha with rfl | rfl
      · exact a
      · exact c
  refine ⟨lstO vs n, ⟨fun b ob e => ?_, fun b ob e => L.zz _ _ (R.base b ob e), fun j cj e => ?_, fun b hb => ?_, fun j k cj ck lj lk hj hk hlj hlk nij => ?_, fun j hj => ?_⟩,
    ⟨L, fun x ob e _ _ => e, fun x ob e no o => no (od x o).1, fun x ob e => ?_, fun x ob e => ⟨ob, e⟩⟩, .lst (n := n) ?_ (hv.le L) hsz⟩
  · have e' : (if b = l'.1 then some (lstO vs n) else W.Z b) = some ob := e
    by_cases hb : b = l'.1
    · rw [if_pos hb] at e'; cases e'; rw [hb]; exact hg
    · rw [if_neg hb] at e'; exact R.z _ _ e'
  · have e' : (if j = i then none else H.get j) = some cj := e
    by_cases hn : j = i
    · rw [if_pos hn] at e'; cases e'
    · rw [if_neg hn] at e'
      obtain ⟨k, hlj, q⟩ := R.cell j cj e'
      exact ⟨k, hlj, q.keeps L (fun _ q => q) fun _ q => q⟩
  · obtain ⟨a, b'⟩ := od b hb
    show (if b = l'.1 then some (lstO vs n) else W.Z b) = none
    rw [if_neg b']; exact R.off _ a
  · have g : ∀ j cj, (H.del i).get j = some cj → H.get j = some cj := fun j cj e => by
      have e' : (if j = i then none else H.get j) = some cj := e
      by_cases hn : j = i
      · rw [if_pos hn] at e'; cases e'
      · rw [if_neg hn] at e'; exact e'
    exact R.sep j k cj ck lj lk (g _ _ hj) (g _ _ hk) hlj hlk nij
  · have hj' : H.next ≤ j := hj
    refine ⟨?_, (R.dom j hj').2⟩
    show (if j = i then none else H.get j) = none
    rw [(R.dom j hj').1]; simp
  · have e' : (if x = l'.1 then some (lstO vs n) else W.Z x) = some ob := e
    by_cases hb : x = l'.1
    · exact .inr (.inl (own_i _ (.inl hb)))
    · rw [if_neg hb] at e'; exact .inl e'
  · show (if l'.1 = l'.1 then some (lstO vs n) else W.Z l'.1) = _
    rw [if_pos rfl]
end
end Mine

end

section
set_option autoImplicit false
set_option linter.all false
set_option genSizeOf false
set_option genInjectivity false
namespace Mine
open PySem PySem.Calls PyProof.Rows

structure Rest (s s' : Shared) : Prop where
  gens : s'.gens = s.gens
  drawn : s'.drawn = s.drawn
  os : s'.os = s.os
theorem Rest.refl (s : Shared) : Rest s s := ⟨rfl, rfl, rfl⟩
theorem Rest.trans {a b c : Shared} (x : Rest a b) (y : Rest b c) : Rest a c := ⟨y.gens.trans x.gens, y.drawn.trans x.drawn, y.os.trans x.os⟩
theorem Rest.mk' {s : Shared} {h : Heap} {t : Nat} : Rest s { s with heap := h, toks := t } := ⟨rfl, rfl, rfl⟩

theorem ns_same {h h' : Heap} {a : Addr} {m : Str → Option Value} (hn : h.Ns a m) (hk : ∀ o, h.get? a = some o → h'.get? a = some o) : h'.Ns a m := by
  obtain ⟨o, es, ep, ho, r⟩ := hn
  exact ⟨o, es, ep, hk o ho, r⟩
theorem cell_same {h h' : Heap} {a : Addr} {v : Option Value} (hn : h.IsCell a v) (hk : ∀ o, h.get? a = some o → h'.get? a = some o) : h'.IsCell a v := by
  obtain ⟨o, ho, hd⟩ := hn
  exact ⟨o, hk o ho, hd⟩

inductive MmR (X : Cx) (W : Wd) (m : Str → Option Value) (i : Nat) (v : V) : Prop
  | mk (cv : Value) (e : m (X.nm i) = some cv) (r : VR X W cv v)
inductive NsR (X : Cx) (W : Wd) (h : Heap) (env : Env) (loc : Loc) : Prop
  | mk (m : Str → Option Value) (hn : h.Ns env.locals m) (hv : ∀ i v, loc i = some v → env.kindOf (X.nm i) = some .local → MmR X W m i v)
inductive ClR (X : Cx) (W : Wd) (h : Heap) (env : Env) (i : Nat) (v : V) : Prop
  | mk (c : Addr) (cv : Value) (e : env.cells.lookup (X.nm i) = some c) (hc : h.IsCell c (some cv)) (r : VR X W cv v)
/-- the frame at hand -/
structure FrR (X : Cx) (W : Wd) (H : Hp) (h : Heap) (env : Env) (Pv : Addr → Prop) (loc : Loc) : Prop where
  ns : NsR X W h env loc
  cells : ∀ i v, loc i = some v → (env.kindOf (X.nm i) = some .cell ∨ env.kindOf (X.nm i) = some .free) → ClR X W h env i v
  hasCell : ∀ x, env.func ≠ none → env.kindOf x = some .cell → ∃ c v, env.cells.lookup x = some c ∧ h.IsCell c v ∧ Pv c
  cellEq : ∀ x y c, env.cells.lookup x = some c → env.cells.lookup y = some c → x = y
  cellNs : ∀ x c, env.cells.lookup x = some c → c ≠ env.locals ∧ ¬ Own W H c ∧ ∃ o, h.get? c = some o
  pvL : Pv env.locals
  priv : ∀ a, Pv a → ¬ Own W H a ∧ W.Z a = none
  pvAt : ∀ a, Pv a → ∃ o, h.get? a = some o

theorem FrR.step {X : Cx} {W W' : Wd} {H H' : Hp} {h h' : Heap} {env : Env} {Pv : Addr → Prop} {Pv' : Addr → Prop} {loc : Loc} (F : FrR X W H h env Pv loc) (S : Stp Pv' W H h W' H' h') (hp : ∀ a, Pv' a → h.get? a = none) : FrR X W' H' h' env Pv loc := by
  have kp : ∀ a, Pv a → ∀ o, h.get? a = some o → h'.get? a = some o := fun a p o e => S.keep a o e (F.priv a p).1 fun q => by rw [hp a q] at e; cases e
  have kc : ∀ x c, env.cells.lookup x = some c → ∀ o, h.get? c = some o → h'.get? c = some o := fun x c q o e => S.keep c o e (F.cellNs x c q).2.1 fun q => by rw [hp c q] at e; cases e
  refine ⟨?_, fun i v e k => ?_, fun x ef e => ?_, F.cellEq, fun x c e => ?_, F.pvL, fun a p => ?_, fun a p => ?_⟩
  · obtain ⟨m, hn, hv⟩ := F.ns
    exact ⟨m, ns_same hn (kp _ F.pvL), fun i v e k => let ⟨cv, q, r⟩ := hv i v e k; ⟨cv, q, r.le S.le⟩⟩
  · obtain ⟨c, cv, q, r, t⟩ := F.cells i v e k
    exact ⟨c, cv, q, cell_same r (kc _ _ q), t.le S.le⟩
  · obtain ⟨c, v, q, r, t⟩ := F.hasCell x ef e
    exact ⟨c, v, q, cell_same r (kc _ _ q), t⟩
  · obtain ⟨a, b, ob, q⟩ := F.cellNs x c e
    exact ⟨a, S.own c ob q b, S.there c ob q⟩
  · obtain ⟨o, e⟩ := F.pvAt a p
    refine ⟨S.own a o e (F.priv a p).1, ?_⟩
    cases hq : W'.Z a with
    | none => rfl
    | some ob =>
      rcases S.znew a ob hq with q | q | q
      · rw [(F.priv a p).2] at q; cases q
      · exact absurd q (F.priv a p).1
      · rw [e] at q; cases q
  · obtain ⟨o, e⟩ := F.pvAt a p
    exact S.there a o e

/-- storing a name of the frame's -/
theorem FrR.storeL {X : Cx} {W : Wd} {H : Hp} {h h' : Heap} {env : Env} {Pv : Addr → Prop} {loc : Loc} {i : Nat} {cv : Value} {v : V} {m : Str → Option Value} (F : FrR X W H h env Pv loc) (hn : h.Ns env.locals m)
    (hm : ∀ j v, loc j = some v → env.kindOf (X.nm j) = some .local → MmR X W m j v) (hinj : ∀ j, X.nm j = X.nm i → j = i)
    (hk : env.kindOf (X.nm i) = some .local) (hv : VR X W cv v) (hn' : h'.Ns env.locals (fun x => if x = X.nm i then some cv else m x)) (hs : Heap.SameBut env.locals h h') : FrR X W H h' env Pv (upd loc i v) := by
  refine ⟨⟨_, hn', fun j u e k => ?_⟩, fun j u e k => ?_, fun x ef e => ?_, F.cellEq, fun x c e => ?_, F.pvL, F.priv, fun a p => ?_⟩
  · have e' : (if j = i then some v else loc j) = some u := e
    by_cases hj : j = i
    · rw [if_pos hj] at e'; cases e'; exact ⟨cv, by rw [hj, if_pos rfl], hv⟩
    · rw [if_neg hj] at e'
      obtain ⟨cu, q, r⟩ := hm j u e' k
      exact ⟨cu, by rw [if_neg fun z => hj (hinj j z)]; exact q, r⟩
  · have e' : (if j = i then some v else loc j) = some u := e
    by_cases hj : j = i
    · subst hj; rw [hk] at k; rcases k with k | k <;> cases k
    · rw [if_neg hj] at e'
      obtain ⟨c, cu, q, r, t⟩ := F.cells j u e' k
      exact ⟨c, cu, q, r.sameBut hs (F.cellNs _ _ q).1, t⟩
  · obtain ⟨c, u, q, r, t⟩ := F.hasCell x ef e
    exact ⟨c, u, q, r.sameBut hs (F.cellNs _ _ q).1, t⟩
  · obtain ⟨a, b, o, q⟩ := F.cellNs x c e
    exact ⟨a, b, o, (hs.2 c a).trans q⟩
  · by_cases ha : a = env.locals
    · subst ha; obtain ⟨o, _, _, ho, _⟩ := hn'; exact ⟨o, ho⟩
    · obtain ⟨o, q⟩ := F.pvAt a p; exact ⟨o, (hs.2 a ha).trans q⟩
theorem FrR.storeC {X : Cx} {W : Wd} {H : Hp} {h h' : Heap} {env : Env} {Pv : Addr → Prop} {loc : Loc} {i : Nat} {cv : Value} {v : V} {c : Addr} (F : FrR X W H h env Pv loc) (hinj : ∀ j, X.nm j = X.nm i → j = i)
    (hk : env.kindOf (X.nm i) = some .cell) (hc : env.cells.lookup (X.nm i) = some c) (hv : VR X W cv v) (hn' : h'.IsCell c (some cv)) (hs : Heap.SameBut c h h') : FrR X W H h' env Pv (upd loc i v) := by
  obtain ⟨m, hn, hm⟩ := F.ns
  have ne := (F.cellNs _ _ hc).1
  refine ⟨⟨m, hn.sameBut hs (Ne.symm ne), fun j u e k => ?_⟩, fun j u e k => ?_, fun x ef e => ?_, F.cellEq, fun x d e => ?_, F.pvL, F.priv, fun a p => ?_⟩
  · have e' : (if j = i then some v else loc j) = some u := e
    by_cases hj : j = i
    · subst hj; rw [hk] at k; cases k
    · rw [if_neg hj] at e'; exact hm j u e' k
  · have e' : (if j = i then some v else loc j) = some u := e
    by_cases hj : j = i
    · rw [if_pos hj] at e'; cases e'; exact ⟨c, cv, hj ▸ hc, hn', hv⟩
    · rw [if_neg hj] at e'
      obtain ⟨d, cu, q, r, t⟩ := F.cells j u e' k
      exact ⟨d, cu, q, r.sameBut hs fun z => hj (hinj j (F.cellEq _ _ d q (z ▸ hc))), t⟩
  · obtain ⟨d, u, q, r, t⟩ := F.hasCell x ef e
    by_cases hd : d = c
    · subst hd; exact ⟨d, _, q, hn', t⟩
    · exact ⟨d, u, q, r.sameBut hs hd, t⟩
  · obtain ⟨a, b, o, q⟩ := F.cellNs x d e
    refine ⟨a, b, ?_⟩
    by_cases hd : d = c
    · subst hd; obtain ⟨o', ho', _⟩ := hn'; exact ⟨o', ho'⟩
    · exact ⟨o, (hs.2 d hd).trans q⟩
  · by_cases ha : a = c
    · subst ha; obtain ⟨o', ho', _⟩ := hn'; exact ⟨o', ho'⟩
    · obtain ⟨o, q⟩ := F.pvAt a p; exact ⟨o, (hs.2 a ha).trans q⟩

structure At (X : Cx) (env : Env) (Pv : Addr → Prop) (W : Wd) (σ : St) (s : Shared) : Prop where
  rel : RelH X W σ.H s.heap
  fr : FrR X W σ.H s.heap env Pv σ.loc
structure Tf (X : Cx) (env : Env) (Pv : Addr → Prop) (W : Wd) (σ : St) (s : Shared) (W' : Wd) (σ' : St) (s' : Shared) : Prop where
  stp : Stp Pv W σ.H s.heap W' σ'.H s'.heap
  at_ : At X env Pv W' σ' s'
  rest : Rest s s'
theorem Tf.refl {X : Cx} {env : Env} {Pv : Addr → Prop} {W : Wd} {σ : St} {s : Shared} (a : At X env Pv W σ s) : Tf X env Pv W σ s W σ s := ⟨.refl, a, .refl _⟩
theorem Tf.trans {X : Cx} {env : Env} {Pv : Addr → Prop} {W W' W'' : Wd} {σ σ' σ'' : St} {s s' s'' : Shared} (a : Tf X env Pv W σ s W' σ' s') (b : Tf X env Pv W' σ' s' W'' σ'' s'') : Tf X env Pv W σ s W'' σ'' s'' :=
  ⟨a.stp.trans b.stp, b.at_, a.rest.trans b.rest⟩
/-- op level: nothing private -/
structure Tc (X : Cx) (W : Wd) (H : Hp) (s : Shared) (W' : Wd) (H' : Hp) (s' : Shared) : Prop where
  stp : Stp noPv W H s.heap W' H' s'.heap
  rel : RelH X W' H' s'.heap
  rest : Rest s s'
theorem Tc.refl {X : Cx} {W : Wd} {H : Hp} {s : Shared} (a : RelH X W H s.heap) : Tc X W H s W H s := ⟨.refl, a, .refl _⟩
theorem Tc.trans {X : Cx} {W W' W'' : Wd} {H H' H'' : Hp} {s s' s'' : Shared} (a : Tc X W H s W' H' s') (b : Tc X W' H' s' W'' H'' s'') : Tc X W H s W'' H'' s'' :=
  ⟨a.stp.trans b.stp, b.rel, a.rest.trans b.rest⟩
theorem Tc.tf {X : Cx} {env : Env} {Pv : Addr → Prop} {W W' : Wd} {σ : St} {H' : Hp} {s s' : Shared} (a : At X env Pv W σ s) (t : Tc X W σ.H s W' H' s') : Tf X env Pv W σ s W' ⟨H', σ.loc⟩ s' :=
  ⟨t.stp.mono fun _ z => z.elim, ⟨t.rel, a.fr.step t.stp fun _ z => z.elim⟩, t.rest⟩

inductive Go {α : Type} (X : Cx) (env : Env) (Pv : Addr → Prop) (W : Wd) (σ : St) (s : Shared) (R : α → Wd → St → Shared → Prop) (a : α) (s' : Shared) : Prop
  | mk (W' : Wd) (σ' : St) (t : Tf X env Pv W σ s W' σ' s') (r : R a W' σ' s')
inductive GoC {α : Type} (X : Cx) (W : Wd) (H : Hp) (s : Shared) (R : α → Wd → Hp → Shared → Prop) (a : α) (s' : Shared) : Prop
  | mk (W' : Wd) (H' : Hp) (t : Tc X W H s W' H' s') (r : R a W' H' s')
inductive VQ (X : Cx) (Q : V → St → Prop) (v : Value) (W' : Wd) (σ' : St) (s' : Shared) : Prop
  | mk (av : V) (r : VR X W' v av) (h : Q av σ')
/-- no exception leaves -/
noncomputable def noEx : Value → Shared → Prop := fun _ _ => False
noncomputable def Ew {α : Type} (X : Cx) (A : Around) (env : Env) (Pv : Addr → Prop) (t : Sem α) (W : Wd) (σ : St) (s : Shared) (R : α → Wd → St → Shared → Prop) : Prop :=
  wpAny (model X.prog X.w) A t (Go X env Pv W σ s R) noEx s

section
variable {α β : Type} {X : Cx} {A : Around} {env : Env} {Pv : Addr → Prop} {W : Wd} {σ : St} {s : Shared}
theorem Ew.from {t : Sem α} {W' : Wd} {σ' : St} {s' : Shared} {R : α → Wd → St → Shared → Prop} (T : Tf X env Pv W σ s W' σ' s') (h : Ew X A env Pv t W' σ' s' R) :
    wpAny (model X.prog X.w) A t (Go X env Pv W σ s R) noEx s' :=
  wpAny_mono h (fun _ _ ⟨W₂, σ₂, a, b⟩ => ⟨W₂, σ₂, T.trans a, b⟩) fun _ _ x => x
theorem Ew.bind {m : Sem α} {f : α → Sem β} {R : β → Wd → St → Shared → Prop} (h : Ew X A env Pv m W σ s (fun a W₁ σ₁ s₁ => Ew X A env Pv (f a) W₁ σ₁ s₁ R)) : Ew X A env Pv (m >>= f) W σ s R :=
  wpAny_bind (wpAny_mono h (fun _ _ ⟨_, _, T, h'⟩ => Ew.from T h') fun _ _ x => x)
theorem Ew.pure {a : α} {R : α → Wd → St → Shared → Prop} (at_ : At X env Pv W σ s) (h : R a W σ s) : Ew X A env Pv (pure a) W σ s R := wpAny_pure ⟨W, σ, .refl at_, h⟩
theorem Ew.mono {t : Sem α} {R R' : α → Wd → St → Shared → Prop} (h : Ew X A env Pv t W σ s R) (hr : ∀ a W' σ' s', At X env Pv W' σ' s' → R a W' σ' s' → R' a W' σ' s') : Ew X A env Pv t W σ s R' :=
  wpAny_mono h (fun _ _ ⟨W', σ', T, r⟩ => ⟨W', σ', T, hr _ _ _ _ T.at_ r⟩) fun _ _ x => x
/-- a transition is known -/
theorem Ew.bindT {m : Sem α} {f : α → Sem β} {R : β → Wd → St → Shared → Prop} (h : Ew X A env Pv m W σ s (fun a W₁ σ₁ s₁ => At X env Pv W₁ σ₁ s₁ → Wd.Le W W₁ → Ew X A env Pv (f a) W₁ σ₁ s₁ R)) : Ew X A env Pv (m >>= f) W σ s R :=
  wpAny_bind (wpAny_mono h (fun _ _ ⟨_, _, T, h'⟩ => Ew.from T (h' T.at_ T.stp.le)) fun _ _ x => x)
theorem Ew.holding {vs : List Value} {m : Sem α} {R : α → Wd → St → Shared → Prop} (h : Ew X A env Pv m W σ s R) : Ew X A env Pv (holding vs m) W σ s R := wpAny_holding h
theorem Ew.standAt {pos : Pos} {f : Unit → Sem β} {R : β → Wd → St → Shared → Prop} (h : Ew X A env Pv (f ()) W σ s R) : Ew X A env Pv (standAt pos >>= f) W σ s R := wpAny_bind (wpAny_standAt h)
theorem Ew.rule {tag : String} {f : Unit → Sem β} {R : β → Wd → St → Shared → Prop} (h : Ew X A env Pv (f ()) W σ s R) : Ew X A env Pv (rule tag >>= f) W σ s R := wpAny_bind (wpAny_rule h)
theorem Ew.operate {vs : List Value} {m : Sem Value} {R : Value → Wd → St → Shared → Prop} (h : Ew X A env Pv m W σ s R) : Ew X A env Pv (operate vs m) W σ s R := by
  intro Γ p hΓ
  rw [Sem.wp_operate]; exact h Γ p hΓ

/-- an operation of the level below -/
noncomputable def Ow (X : Cx) (A : Around) (t : Sem α) (W : Wd) (H : Hp) (s : Shared) (R : α → Wd → Hp → Shared → Prop) : Prop :=
  ∀ E : Value → Shared → Prop, wpAny (model X.prog X.w) A t (GoC X W H s R) E s
theorem Ow.ew {t : Sem α} {R : α → Wd → St → Shared → Prop} (at_ : At X env Pv W σ s) (h : Ow X A t W σ.H s (fun a W' H' s' => R a W' ⟨H', σ.loc⟩ s')) : Ew X A env Pv t W σ s R :=
  wpAny_mono (h _) (fun _ _ ⟨W', H', T, r⟩ => ⟨W', ⟨H', σ.loc⟩, T.tf at_, r⟩) fun _ _ x => x
theorem Ow.bind {H : Hp} {m : Sem α} {f : α → Sem β} {R : β → Wd → Hp → Shared → Prop} (h : Ow X A m W H s (fun a W₁ H₁ s₁ => Ow X A (f a) W₁ H₁ s₁ R)) : Ow X A (m >>= f) W H s R :=
  fun E => wpAny_bind (wpAny_mono (h E) (fun _ _ ⟨_, _, T, h'⟩ => wpAny_mono (h' E) (fun _ _ ⟨W₂, H₂, a, b⟩ => ⟨W₂, H₂, T.trans a, b⟩) fun _ _ x => x) fun _ _ x => x)
theorem Ow.pure {H : Hp} {a : α} {R : α → Wd → Hp → Shared → Prop} (r : RelH X W H s.heap) (h : R a W H s) : Ow X A (pure a) W H s R := fun _ => wpAny_pure ⟨W, H, .refl r, h⟩
/-- the heap stays -/
theorem Ow.same {H : Hp} {t : Sem α} {R : α → Wd → Hp → Shared → Prop} (r : RelH X W H s.heap)
    (h : ∀ E : Value → Shared → Prop, wpAny (model X.prog X.w) A t (fun a s' => (∃ tk, s' = { s with toks := tk }) ∧ R a W H s') E s) : Ow X A t W H s R :=
  fun E => wpAny_mono (h E) (fun _ _ ⟨⟨tk, e⟩, q⟩ => ⟨W, H, by subst e; exact ⟨.refl, r, ⟨rfl, rfl, rfl⟩⟩, q⟩) fun _ _ x => x
/-- a new frozen object -/
theorem Tc.frozen {H : Hp} {a : Addr} {o : Obj} {h' : Heap} {tk : Nat} (r : RelH X W H s.heap) (hk : ∀ b ob, s.heap.get? b = some ob → h'.get? b = some ob) (hn : s.heap.get? a = none) (ha : h'.get? a = some o) :
    Tc X W H s (W.addZ a o) H { s with heap := h', toks := tk } := let ⟨x, y⟩ := r.frozen hk hn ha; ⟨y, x, ⟨rfl, rfl, rfl⟩⟩
theorem push_none (h : Heap) : h.get? h.objs.size = none := by
  cases q : h.get? h.objs.size with
  | none => rfl
  | some o => exact absurd (Heap.lt_size q) (Nat.lt_irrefl _)
theorem Tc.pushZ {H : Hp} {o : Obj} {tk : Nat} (r : RelH X W H s.heap) (hf : o.isFreed = false) : Tc X W H s (W.addZ s.heap.objs.size o) H { s with heap := s.heap.push o, toks := tk } :=
  Tc.frozen r (fun _ _ e => Heap.get?_push_of_some _ e) (push_none _) (Heap.get?_push_size _ hf)
theorem addZ_self {a : Addr} {o : Obj} : (W.addZ a o).Z a = some o := by show (if a = a then some o else W.Z a) = some o; rw [if_pos rfl]
theorem addφ_self {i : Nat} {l : Addr × Addr} : (W.addφ i l).φ i = some l := by show (if i = i then some l else W.φ i) = some l; rw [if_pos rfl]
end
end Mine

end

section
set_option autoImplicit false
set_option linter.all false
set_option genSizeOf false
set_option genInjectivity false
namespace Mine
open PySem PySem.W PySem.Calls PyProof.Rows

theorem need_e {α : Type} {o : Option α} {k : α → Prop} {G : Prop} (h : need o k) (g : ∀ a, o = some a → k a → G) : G := by
  cases o with
  | none => exact h.elim
  | some a => exact g a rfl h
theorem need_i {α : Type} {o : Option α} {a : α} {k : α → Prop} (e : o = some a) (h : k a) : need o k := by subst e; exact h
theorem Br_e {b : Bool} {t e G : Prop} (h : Br b t e) (g1 : b = true → t → G) (g2 : b = false → e → G) : G := by
  cases b with
  | true => exact g1 rfl h
  | false => exact g2 rfl h

section
variable {X : Cx} {W : Wd} {H : Hp}
/-- a value as it is seen in the heap -/
inductive Sn (X : Cx) (W : Wd) (h : Heap) : Value → V → Prop
  | none : Sn X W h .none .none
  | bool (b : Bool) : Sn X W h (.bool b) (.bool b)
  | int (i : Int) (t : Tok) : Sn X W h (.int i t) (.int i)
  | str (s : Str) (t : Tok) (o : PyData.strOk s = true) (z : s.length ≤ SZ) : Sn X W h (.str s t) (.str s)
  | tup {a : Addr} {vs : Array Value} {n : Nat} {xs : List V} (g : h.get? a = some (tupO vs n)) (r : VRs X W vs.toList xs) (q : xs.length ≤ SZ) (z : vs.size = xs.length) : Sn X W h (.ref a) (.tup xs)
  | lst {a : Addr} {vs : Array Value} {n : Nat} {xs : List V} (g : h.get? a = some (lstO vs n)) (r : VRs X W vs.toList xs) (q : xs.length ≤ SZ) (z : vs.size = xs.length) : Sn X W h (.ref a) (.lst xs)
theorem VRs.toArr {vs : Array Value} {xs : List V} (h : VRs X W vs.toList xs) : vs.size = xs.length := by rw [← h.length, Array.length_toList]
/-- where a cell lies -/
theorem RelH.at_ {h : Heap} (R : RelH X W H h) {i : Nat} {c : C} {l : Addr × Addr} (hi : H.get i = some c) (hl : W.φ i = some l) : CellAt X W h l c := by
  obtain ⟨l', hl', q⟩ := R.cell i c hi
  exact Option.some.inj (hl'.symm.trans hl) ▸ q
theorem mL_e {o : Option (List V)} {v : V} (h : mL o = some v) : ∃ a, o = some a ∧ v = .lst a := by
  cases o with
  | none => cases h
  | some a => exact ⟨a, rfl, (Option.some.inj h).symm⟩
theorem cL_e {o : Option C} {xs : List V} (h : cL o = some xs) : o = some (.list xs) := by
  cases o with
  | none => cases h
  | some c =>
    cases c with
    | list ys => exact congrArg (some ∘ C.list) (Option.some.inj h)
    | _ => cases h
theorem cD_e {o : Option C} {xs : List (V × V)} (h : cD o = some xs) : o = some (.dict xs) := by
  cases o with
  | none => cases h
  | some c =>
    cases c with
    | dict ys => exact congrArg (some ∘ C.dict) (Option.some.inj h)
    | _ => cases h
theorem cI_e {o : Option C} {t : Nat × List (Nat × V)} (h : cI o = some t) : o = some (.inst t.1 t.2) := by
  cases o with
  | none => cases h
  | some c =>
    cases c with
    | inst k fs => rw [← Option.some.inj h]
    | _ => cases h
theorem see_ok {h : Heap} (R : RelH X W H h) {v : Value} {x y : V} (r : VR X W v x) (e : see H x = some y) : Sn X W h v y := by
  cases r with
  | none => cases e; exact .none
  | bool b => cases e; exact .bool b
  | int i t => cases e; exact .int i t
  | str s t o z => cases e; exact .str s t o z
  | tup z r q => cases e; exact .tup (R.z _ _ z) r q r.toArr
  | lst z r q => cases e; exact .lst (R.z _ _ z) r q r.toArr
  | ref hl =>
    obtain ⟨xs, e', rfl⟩ := mL_e e
    obtain ⟨vs, n, g, r, _, z⟩ := R.at_ (cL_e e') hl
    exact .lst g r z r.toArr
  | _ => cases e
theorem aRef_e {v : Value} {x : V} {i : Nat} (r : VR X W v x) (e : aRef x = some i) {G : Prop} (g : ∀ l, v = .ref l.1 → W.φ i = some l → x = .ref i → G) : G := by
  cases x with
  | ref j => cases e; cases r with | ref hl => exact g _ rfl hl rfl
  | _ => cases e

section
variable {h : Heap} {v : Value}
theorem Sn.toInt {x : V} {i : Int} (r : Sn X W h v x) (e : aInt x = some i) : ∃ t, v = .int i t := by
  cases r with
  | int i t => exact ⟨t, Option.some.inj e ▸ rfl⟩
  | _ => cases e
theorem Sn.toStr {x : V} {s : Str} (r : Sn X W h v x) (e : aStr x = some s) : ∃ t, v = .str s t ∧ PyData.strOk s = true ∧ s.length ≤ SZ := by
  cases r with
  | str s t o z => cases e; exact ⟨t, rfl, o, z⟩
  | _ => cases e
/-- a sequence in the heap -/
inductive SqL (X : Cx) (W : Wd) (h : Heap) (v : Value) (xs : List V) : Prop
  | mk (a : Addr) (vs : Array Value) (n : Nat) (e : v = .ref a) (g : h.get? a = some (lstO vs n)) (r : VRs X W vs.toList xs) (q : xs.length ≤ SZ) (z : vs.size = xs.length)
inductive SqT (X : Cx) (W : Wd) (h : Heap) (v : Value) (xs : List V) : Prop
  | mk (a : Addr) (vs : Array Value) (n : Nat) (e : v = .ref a) (g : h.get? a = some (tupO vs n)) (r : VRs X W vs.toList xs) (q : xs.length ≤ SZ) (z : vs.size = xs.length)
theorem Sn.toLst {x : V} {xs : List V} (r : Sn X W h v x) (e : aLst x = some xs) : SqL X W h v xs := by
  cases r with
  | lst g r q z => cases e; exact ⟨_, _, _, rfl, g, r, q, z⟩
  | _ => cases e
theorem Sn.toTup {x : V} {xs : List V} (r : Sn X W h v x) (e : aTup x = some xs) : SqT X W h v xs := by
  cases r with
  | tup g r q z => cases e; exact ⟨_, _, _, rfl, g, r, q, z⟩
  | _ => cases e
end

theorem sz63 {n : Nat} (h : n ≤ SZ) : (n : Int) < 2 ^ 63 := Int.lt_of_le_of_lt (Int.ofNat_le.mpr h) (by decide)
theorem szLine {n : Nat} (h : n ≤ SZ) : n ≤ sizeLine := Nat.le_trans h (by decide)
theorem isList_of {h : Heap} {a : Addr} {vs : Array Value} {n : Nat} (e : h.get? a = some (lstO vs n)) : h.IsList a vs := ⟨_, e, rfl, _, rfl⟩
theorem isTup_of {h : Heap} {a : Addr} {vs : Array Value} {n : Nat} (e : h.get? a = some (tupO vs n)) : IsTup h a vs := ⟨_, e, rfl, _, rfl⟩
end

/-! the answers of operations -/
section
variable {X : Cx} {A : Around} {W : Wd} {H : Hp} {s : Shared} {E : Value → Shared → Prop}
/-- the answer of an operation: a value, or a new list -/
noncomputable def Res (X : Cx) (fz : Bool) (H : Hp) (r : LV) (v : Value) (W' : Wd) (H' : Hp) : Prop := match r with
  | .val x => VR X W' v x ∧ H' = H
  | .newList xs => match fz with
    | true => VR X W' v (.lst xs) ∧ H' = H
    | false => VR X W' v (.ref H.next) ∧ H' = H.new (.list xs)
/-- what an operation leads to -/
structure OpQ (X : Cx) (fz : Bool) (W : Wd) (H : Hp) (s : Shared) (k : LV → Prop) (Q : Value → Shared → Prop) : Prop where
  out : ∀ r v' s' W' H', Tc X W H s W' H' s' → Res X fz H r v' W' H' → k r → Q v' s'
  sz : ∀ xs, k (.newList xs) → xs.length ≤ SZ
section
variable {fz : Bool} {k : LV → Prop} {Q : Value → Shared → Prop} (o : OpQ X fz W H s k Q) (R : RelH X W H s.heap)
include o R
theorem OpQ.val {x : V} {v : Value} {tk : Nat} (hv : VR X W v x) (h : k (.val x)) : Q v { s with toks := tk } := o.out (.val x) v _ W H ⟨.refl, R, ⟨rfl, rfl, rfl⟩⟩ ⟨hv, rfl⟩ h
/-- more objects, of no account -/
theorem OpQ.more {x : V} {v : Value} {h' : Heap} {tk : Nat} (hk : ∀ b ob, s.heap.get? b = some ob → h'.get? b = some ob) (hv : VR X W v x) (h : k (.val x)) : Q v { s with heap := h', toks := tk } :=
  o.out (.val x) v _ W H ⟨.quiet (fun a o q _ => hk a o q) fun a o q => ⟨o, hk a o q⟩, R.quiet (Pv := noPv) (fun a o q _ => hk a o q) fun _ z => z.elim, ⟨rfl, rfl, rfl⟩⟩ ⟨hv, rfl⟩ h
/-- a new list at a new place -/
theorem OpQ.list {vs : Array Value} {n : Nat} {xs : List V} {h' : Heap} {tk : Nat} {a : Addr} (hv : VRs X W vs.toList xs) (hk : ∀ b ob, s.heap.get? b = some ob → h'.get? b = some ob) (hn : s.heap.get? a = none) (ha : h'.get? a = some (lstO vs n)) (h : k (.newList xs)) : Q (.ref a) { s with heap := h', toks := tk } := by
  have hz := o.sz _ h
  cases fz with
  | true => exact o.out (.newList xs) _ _ _ _ (Tc.frozen R hk hn ha) ⟨.lst addZ_self (hv.le (R.leZ hn)) hz, rfl⟩ h
  | false =>
    obtain ⟨r, t⟩ := R.fresh (l := (a, a)) (c := .list xs) hk hn hn ⟨vs, n, ha, hv.le R.leF, rfl, hz⟩
    exact o.out (.newList xs) _ _ _ _ ⟨t, r, ⟨rfl, rfl, rfl⟩⟩ ⟨VR.ref (l := (a, a)) addφ_self, rfl⟩ h
theorem OpQ.push {vs : Array Value} {n : Nat} {xs : List V} {tk : Nat} (hv : VRs X W vs.toList xs) (h : k (.newList xs)) : Q (.ref s.heap.objs.size) { s with heap := s.heap.push (lstO vs n), toks := tk } :=
  o.list R hv (fun _ _ e => Heap.get?_push_of_some _ e) (push_none _) (Heap.get?_push_size _ rfl) h
/-- a new frozen object -/
theorem OpQ.fro {x : V} {ob : Obj} {h' : Heap} {tk : Nat} {a : Addr} (hk : ∀ b ob, s.heap.get? b = some ob → h'.get? b = some ob) (hn : s.heap.get? a = none) (ha : h'.get? a = some ob) (hv : VR X (W.addZ a ob) (.ref a) x) (h : k (.val x)) : Q (.ref a) { s with heap := h', toks := tk } :=
  o.out (.val x) _ _ _ _ (Tc.frozen R hk hn ha) ⟨hv, rfl⟩ h
end
theorem strOk_append {a b : Str} (ha : PyData.strOk a = true) (hb : PyData.strOk b = true) : PyData.strOk (a ++ b) = true := by
  unfold PyData.strOk at *
  rw [Array.all_eq_true] at *
  rw [show (a ++ b).cps = a.cps ++ b.cps from rfl]
  intro i hi
  rw [Array.getElem_append]
  split
  · exact ha i _
  · exact hb _ _
theorem len_append (a b : Str) : (a ++ b).length = a.length + b.length := by
  show (a.cps ++ b.cps).size = _
  rw [Array.size_append]; rfl

theorem isEmpty_len {vs : Array Value} {xs : List V} (z : vs.size = xs.length) : vs.isEmpty = xs.isEmpty := by
  show decide (vs.size = 0) = _
  rw [z]
  cases xs <;> rfl
theorem decide_bne {i : Int} : decide (i ≠ 0) = (i != 0) := by
  by_cases h : i = 0
  · subst h; rfl
  · rw [decide_eq_true h]; exact (bne_iff_ne.mpr h).symm
theorem truth_ok {v : Value} {x y : V} {k : Bool → Prop} {Q : Bool → Shared → Prop} (R : RelH X W H s.heap) (hv : VR X W v x) (e : truK H x k) (h : ∀ b tk, k b → Q b { s with toks := tk }) : wpAny (model X.prog X.w) A (truthy v) Q E s := by
  refine need_e e fun y ey e => ?_
  cases see_ok R hv ey with
  | none => exact truthy_none (h _ s.toks e)
  | bool c => exact wpAny_truthy_bool (h _ s.toks e)
  | int i t => exact truthy_int (decide_bne ▸ h _ s.toks e)
  | str t u ok z =>
    refine P.truthy_str (Int.not_le.mpr (sz63 z)) ?_
    have : (decide (t.length ≠ 0)) = (((t.length : Nat) : Int) != 0) := by rw [← decide_bne]; exact decide_eq_decide.mpr (by omega)
    exact this ▸ h _ (s.toks + 1 + 1) e
  | lst g r q z =>
    refine wpAny_truthy_list (isList_of g) (by rw [z]; exact sz63 q) ?_
    rw [isEmpty_len z]; exact h _ _ e
  | _ => exact e.elim
noncomputable def opOf : BOp → Operator
  | .add => .Add
  | .sub => .Sub
  | .mul => .Mult
  | .fdiv => .FloorDiv
  | .mod => .Mod
noncomputable def cmpOf : COp → CmpOp
  | .eq => .Eq
  | .ne => .NotEq
  | .lt => .Lt
  | .le => .LtE
  | .gt => .Gt
  | .ge => .GtE
  | .isIn => .In
  | .notIn => .NotIn
  | .is => .Is
  | .isNot => .IsNot
theorem nsome {α : Type} {a : α} {p : Prop} (h : (none : Option α) = some a) : p := by cases h

section
variable {a b : Value} {x y : V} {fz : Bool} {k : LV → Prop} {Q : Value → Shared → Prop} (o : OpQ X fz W H s k Q) (R : RelH X W H s.heap) (ha : Sn X W s.heap a x) (hb : Sn X W s.heap b y)
include o R ha hb
theorem add_ok (e : addK x y k) : wpAny (model X.prog X.w) A (binaryOp .Add a b) Q E s := by
  cases ha with
  | int i t => exact need_e e fun j ej e => (hb.toInt ej).elim fun u q => q ▸ add_int (o.val R (.int ..) e)
  | str i t o1 z1 => exact need_e e fun j ej e => (hb.toStr ej).elim fun u q => q.1 ▸ PyProof.Rows.add_str (fun t' tk => o.val R (.str _ _ (strOk_append o1 q.2.1) (by rw [len_append]; exact e.1)) e.2) (szLine e.1)
  | _ => exact e.elim
theorem bin_ok {op : BOp} (e : binK op x y k) : wpAny (model X.prog X.w) A (binaryOp (opOf op) a b) Q E s := by
  cases op with
  | add => exact add_ok o R ha hb e
  | mul => exact need_e e fun i ei e => need_e e fun j ej e => (ha.toInt ei).elim fun t q => (hb.toInt ej).elim fun u q' => q ▸ q' ▸ PyProof.Rows.mul_int (o.val R (.int ..) e.2) (e.1.elim (fun h => IntMulOk.of_left (intBits_le_64 (by omega) (by omega))) fun h => IntMulOk.of_right (intBits_le_64 (by omega) (by omega)))
  | sub => exact need_e e fun i ei e => need_e e fun j ej e => (ha.toInt ei).elim fun t q => (hb.toInt ej).elim fun u q' => q ▸ q' ▸ sub_int (o.val R (.int ..) e)
  | fdiv => exact need_e e fun i ei e => need_e e fun j ej e => (ha.toInt ei).elim fun t q => (hb.toInt ej).elim fun u q' => q ▸ q' ▸ floordiv_int e.1.1 (o.val R (.int ..) e.2) (.inl (PyProof.noPylong_small (Nat.lt_of_lt_of_le e.1.2 (by decide))))
  | mod => exact need_e e fun i ei e => need_e e fun j ej e => (ha.toInt ei).elim fun t q => (hb.toInt ej).elim fun u q' => q ▸ q' ▸ mod_int' e.1 (o.val R (.int ..) e.2)
end
end
end Mine

end

section
set_option autoImplicit false
set_option linter.all false
set_option genSizeOf false
set_option genInjectivity false
namespace Mine
open PySem PySem.W PySem.Calls PyProof.Rows

/-! data -/
mutual
noncomputable def toPy : V → PyData
  | .bool b => .bool b
  | .int i => .int i
  | .str s => .str s
  | .tup xs => .tuple (toPys xs)
  | .lst xs => .list (toPys xs)
  | _ => .none
noncomputable def toPys : List V → List PyData
  | [] => []
  | x :: r => toPy x :: toPys r
end
mutual
noncomputable def isD : V → Bool
  | .none => true
  | .bool _ => true
  | .int _ => true
  | .str _ => true
  | .tup xs => isDs xs
  | .lst xs => isDs xs
  | _ => false
noncomputable def isDs : List V → Bool
  | [] => true
  | x :: r => isD x && isDs r
end
theorem beq_dec {α : Type} [DecidableEq α] {a b : α} : (a == b) = decide (a = b) := by
  by_cases h : a = b
  · rw [decide_eq_true h, h]; exact beq_self_eq_true _
  · rw [decide_eq_false h]; exact beq_false_of_ne h
mutual
theorem eqD_eqv : ∀ x y : V, isD x = true → isD y = true → eqD x y = PyData.eqv (toPy x) (toPy y)
  | .none, y, _, h => by cases y <;> first | rfl | cases h
  | .bool a, y, _, h => by cases y <;> first | rfl | exact beq_dec.symm | (cases a <;> exact beq_dec.symm) | (cases h; done)
  | .int a, y, _, h => by cases y <;> first | rfl | exact beq_dec.symm | (rename_i b; cases b <;> exact beq_dec.symm) | (cases h; done)
  | .str a, y, _, h => by cases y <;> first | rfl | exact beq_dec.symm | cases h
  | .tup a, y, hx, h => by cases y <;> first | exact eqDs_eqv a _ hx h | rfl | cases h
  | .lst a, y, hx, h => by cases y <;> first | exact eqDs_eqv a _ hx h | rfl | cases h
  | .rng _, _, h, _ => by cases h
  | .ref _, _, h, _ => by cases h
  | .bt _, _, h, _ => by cases h
  | .fn _, _, h, _ => by cases h
  | .cls _, _, h, _ => by cases h
theorem eqDs_eqv : ∀ x y : List V, isDs x = true → isDs y = true → eqDs x y = PyData.eqvAll (toPys x) (toPys y)
  | [], y, _, _ => by cases y <;> rfl
  | a :: r, y, hx, hy => by
    cases y with
    | nil => rfl
    | cons b t =>
      have hx := Bool.and_eq_true_iff.mp hx
      have hy := Bool.and_eq_true_iff.mp hy
      exact (congrArg (· && eqDs r t) (eqD_eqv a b hx.1 hy.1)).trans (congrArg (PyData.eqv (toPy a) (toPy b) && ·) (eqDs_eqv r t hx.2 hy.2))
end
theorem reads_tuple' {h : Heap} {a : Addr} {vs : Array Value} {n : Nat} {xs : List PyData} {as : List Addr} (e : h.get? a = some (tupO vs n)) (r : ReadsAll h vs.toList xs as) : Reads h (.ref a) (.tuple xs) as := .tuple e rfl rfl r
theorem reads_list' {h : Heap} {a : Addr} {vs : Array Value} {n : Nat} {xs : List PyData} {as : List Addr} (e : h.get? a = some (lstO vs n)) (r : ReadsAll h vs.toList xs as) : Reads h (.ref a) (.list xs) (a :: as) := .list e rfl rfl r
section
variable {X : Cx} {W : Wd} {H : Hp} {h : Heap}
inductive Dt (h : Heap) (n : Nat) (v : Value) (y : V) : Prop
  | mk (as : List Addr) (rd : Reads h v (toPy y) as) (lay : (toPy y).canLay0 = true) (dp : (toPy y).depth ≤ n) (d : isD y = true)
inductive Dts (h : Heap) (n : Nat) (vs : List Value) (ys : List V) : Prop
  | mk (as : List Addr) (rd : ReadsAll h vs (toPys ys) as) (lay : PyData.canLayAll0 (toPys ys) = true) (dp : PyData.depthAll (toPys ys) ≤ n) (d : isDs ys = true)
theorem deepL_cons {f : V → Option V} {x : V} {r ys : List V} {G : Prop} (h : deepL f (x :: r) = some ys) (g : ∀ y zs, f x = some y → deepL f r = some zs → ys = y :: zs → G) : G := by
  have h : (match f x with | some y => (match deepL f r with | some ys => some (y :: ys) | none => none) | none => none) = some ys := h
  generalize f x = p at h g
  cases p with
  | none => cases h
  | some v =>
    generalize deepL f r = q at h g
    cases q with
    | none => cases h
    | some ws => exact g v ws rfl rfl (Option.some.inj h).symm
theorem deepL_data {f : V → Option V} {n : Nat} (hf : ∀ v x y, VR X W v x → f x = some y → Dt h n v y) {vs : List Value} {xs : List V} (r : VRs X W vs xs) {ys : List V} (e : deepL f xs = some ys) : Dts h n vs ys :=
  VRs.ind (p := fun vs xs => ∀ ys, deepL f xs = some ys → Dts h n vs ys) (fun ys e => Option.some.inj e ▸ ⟨[], .nil, rfl, Nat.zero_le _, rfl⟩) (fun a _ ih ys e => deepL_cons e fun y zs ey ez ee => by
    subst ee
    obtain ⟨as, ra, la, da, ia⟩ := hf _ _ _ a ey
    obtain ⟨bs, rb, lb, db, ib⟩ := ih _ ez
    exact ⟨as ++ bs, .cons ra rb, Bool.and_eq_true_iff.mpr ⟨la, lb⟩, Nat.max_le.mpr ⟨da, db⟩, Bool.and_eq_true_iff.mpr ⟨ia, ib⟩⟩) r ys e
theorem mT_e {o : Option (List V)} {v : V} (h : mT o = some v) : ∃ a, o = some a ∧ v = .tup a := by
  cases o with
  | none => cases h
  | some a => exact ⟨a, rfl, (Option.some.inj h).symm⟩
theorem dt_lst {n : Nat} {a : Addr} {vs : Array Value} {k : Nat} {ys : List V} (g : h.get? a = some (lstO vs k)) (B : Dts h n vs.toList ys) : Dt h (n + 1) (.ref a) (.lst ys) := by
  obtain ⟨as, rb, l, d, i⟩ := B
  exact ⟨_, reads_list' g rb, l, Nat.succ_le_succ d, i⟩
theorem deepN_data (R : RelH X W H h) (n : Nat) : ∀ (v : Value) (x y : V), VR X W v x → deepN H n x = some y → Dt h n v y := by
  induction n with
  | zero =>
    intro v x y r e
    cases r with
    | none => cases e; exact ⟨_, .none, rfl, Nat.zero_le _, rfl⟩
    | bool b => cases e; exact ⟨_, .bool b, rfl, Nat.zero_le _, rfl⟩
    | int i t => cases e; exact ⟨_, .int i t, rfl, Nat.zero_le _, rfl⟩
    | str s t o z => cases e; exact ⟨_, .str s t, o, Nat.zero_le _, rfl⟩
    | _ => cases e
  | succ n ih =>
    intro v x y r e
    cases r with
    | none => cases e; exact ⟨_, .none, rfl, Nat.zero_le _, rfl⟩
    | bool b => cases e; exact ⟨_, .bool b, rfl, Nat.zero_le _, rfl⟩
    | int i t => cases e; exact ⟨_, .int i t, rfl, Nat.zero_le _, rfl⟩
    | str s t o z => cases e; exact ⟨_, .str s t, o, Nat.zero_le _, rfl⟩
    | tup z r q =>
      obtain ⟨ys, ey, rfl⟩ := mT_e e
      obtain ⟨as, rb, l, d, i⟩ := deepL_data ih r ey
      exact ⟨_, reads_tuple' (R.z _ _ z) rb, l, Nat.succ_le_succ d, i⟩
    | lst z r q =>
      obtain ⟨ys, ey, rfl⟩ := mL_e e
      exact dt_lst (R.z _ _ z) (deepL_data ih r ey)
    | @ref i l hl =>
      have e : bindL (cL (H.get i)) (fun xs => mL (deepL (deepN H n) xs)) = some y := e
      cases ec : cL (H.get i) with
      | none => rw [ec] at e; cases e
      | some xs =>
        rw [ec] at e
        obtain ⟨ys, ey, rfl⟩ := mL_e e
        obtain ⟨vs, k, g, r, _, _⟩ := R.at_ (cL_e ec) hl
        exact dt_lst g (deepL_data ih r ey)
    | _ => cases e
end
/-- room below on the C stack -/
noncomputable def Room (A : Around) : Prop := A.units + 80 < cLine
section
variable {X : Cx} {A : Around} {W : Wd} {H : Hp} {s : Shared} {E : Value → Shared → Prop} {a b : Value} {x y : V} {k : Bool → Prop} {Q : Value → Shared → Prop} (R : RelH X W H s.heap) (hu : Room A) (ha : VR X W a x) (hb : VR X W b y) (h : ∀ r tk, k r → Q (.bool r) { s with toks := tk })
include R hu ha h
theorem any_ok {vs : Array Value} {xs : List V} (hv : VRs X W vs.toList xs) (e : cmpK.anyK H x xs k) {G : Prop} (g : ∀ as bs d ds, Reads s.heap a d as → ReadsAll s.heap vs.toList ds bs → d.canLay0 = true → PyData.canLayAll0 ds = true → A.units + 1 + min (PyData.depthAll ds) d.depth < cLine → k (ds.any fun y => PyData.eqv y d) → G) : G := by
  refine need_e e fun u eu e => need_e e fun v ev e => ?_
  obtain ⟨as, ra, la, da, ia⟩ := deepN_data R _ _ _ _ ha eu
  obtain ⟨bs, rb, lb, db, ib⟩ := deepL_data (deepN_data R 11) hv ev
  have hd : (v.any fun z => eqD z u) = ((toPys v).any fun y => PyData.eqv y (toPy u)) := by
    clear rb ev lb db e
    induction v with
    | nil => rfl
    | cons z zs ih =>
      have ib := Bool.and_eq_true_iff.mp ib
      rw [List.any_cons, ih ib.2, eqD_eqv z u ib.1 ia]; rfl
  refine g as bs _ _ ra rb la lb ?_ (hd ▸ e)
  have : min (PyData.depthAll (toPys v)) (toPy u).depth ≤ 12 := Nat.le_trans (Nat.min_le_right _ _) da
  unfold Room at hu; omega
include hb
theorem eq_ok (e : cmpK H .eq x y k) : wpAny (model X.prog X.w) A (compareOp .Eq a b) Q E s := by
  refine need_e e fun u eu e => need_e e fun v ev e => ?_
  obtain ⟨as, ra, la, da, ia⟩ := deepN_data R _ _ _ _ ha eu
  obtain ⟨bs, rb, lb, db, ib⟩ := deepN_data R _ _ _ _ hb ev
  refine SeqAt.compareEq_reads ra rb la lb ?_ ?_
  · unfold Room at hu; omega
  · rw [← eqD_eqv _ _ ia ib]; exact h _ s.toks e
theorem ne_ok (e : cmpK H .ne x y k) : wpAny (model X.prog X.w) A (compareOp .NotEq a b) Q E s := by
  refine need_e e fun u eu e => need_e e fun v ev e => ?_
  obtain ⟨as, ra, la, da, ia⟩ := deepN_data R _ _ _ _ ha eu
  obtain ⟨bs, rb, lb, db, ib⟩ := deepN_data R _ _ _ _ hb ev
  refine ne_dataH ra rb ?_ ?_ ?_ ?_
  · simp [SeqAt.shaped, la]; omega
  · simp [SeqAt.shaped, lb]; omega
  · unfold Room at hu; omega
  · rw [← eqD_eqv _ _ ia ib]; exact h _ s.toks e
end
end Mine

end

section
set_option autoImplicit false
set_option linter.all false
set_option genSizeOf false
set_option genInjectivity false
namespace Mine
open PySem PySem.W PySem.Calls PyProof.Rows
section
variable {prog : Program} {w : World} {A : Around} {E : Value → Shared → Prop} {s : Shared}
theorem adjust_to (j n : Nat) (h : j ≤ n) : Builtin.Slice.sliceAdjust none (some (j : Int)) 1 (n : Int) = (0, (j : Int)) := by
  unfold Builtin.Slice.sliceAdjust
  have h1 : ¬ ((1 : Int) < 0) := by omega
  have h2 : ¬ ((j : Int) < 0) := by omega
  simp only [h1, h2, if_false]
  congr 1
  omega
theorem places_to (j : Nat) : Builtin.Slice.slicePlaces 0 (j : Int) 1 = j := by
  unfold Builtin.Slice.slicePlaces
  have h1 : (1 : Int) > 0 := by omega
  simp only [h1, if_true, Int.ediv_one]
  split <;> omega
theorem sliceApplied_to {sl : Addr} {j n : Nat} {u : Tok} {Q : Int × Int × Nat → Shared → Prop} (hs : s.heap.IsSliceOf sl .none (.int j u) .none) (hj : j ≤ n) (h : Q ((0 : Int), 1, j) s) :
    wpAny (model prog w) A (Builtin.Slice.sliceApplied (.ref sl) (pure (n : Int))) Q E s := by
  obtain ⟨os, hos, hcs, hds⟩ := id hs
  unfold Builtin.Slice.sliceApplied Builtin.Slice.sliceFields
  refine wpAny_bind (wpAny_bind (wpAny_field hos hds (x := .none) rfl (wpAny_bind (wpAny_field hos hds (x := .int j u) rfl (wpAny_bind (wpAny_field hos hds (x := .none) rfl (wpAny_pure ?_)))))))
  refine wpAny_bind (slicePart_none ?_)
  show wpAny _ _ (if ((1 : Int) == 0) = true then _ else _) _ _ s
  rw [if_neg (by decide)]
  refine wpAny_bind (slicePart_none (wpAny_bind (slicePart_int (wpAny_bind (wpAny_pure ?_)))))
  show wpAny _ _ (match Builtin.Slice.sliceAdjust none (some (j : Int)) 1 (n : Int) with | (lo, hi) => pure (lo, (1 : Int), Builtin.Slice.slicePlaces lo hi 1)) _ _ s
  rw [adjust_to j n hj]
  show wpAny _ _ (pure ((0 : Int), (1 : Int), Builtin.Slice.slicePlaces 0 (j : Int) 1)) _ _ s
  rw [places_to j]
  exact wpAny_pure h
theorem take_run {α : Type} (l : List α) (j : Nat) (h : j ≤ l.length) : (List.range j).filterMap (fun k => l[k]?) = l.take j := by
  induction j with
  | zero => rfl
  | succ j ih =>
    rw [List.range_succ, List.filterMap_append, ih (Nat.le_of_succ_le h), List.take_succ, List.getElem?_eq_getElem h]
    show _ ++ (match l[j]? with | none => _ | some b => b :: _) = _
    rw [List.getElem?_eq_getElem h]; rfl
theorem pick_to (xs : Array Value) (j : Nat) (h : j ≤ xs.size) : ((List.range j).filterMap fun (k : Nat) => xs[((0 : Int) + (k : Int) * 1).toNat]?).toArray = (xs.toList.take j).toArray := by
  have e : (fun (k : Nat) => xs[((0 : Int) + (k : Int) * 1).toNat]?) = fun k => xs.toList[k]? := by
    funext k
    rw [show ((0 : Int) + (k : Int) * 1).toNat = k by omega, Array.getElem?_toList]
  rw [e, take_run _ _ (by rw [Array.length_toList]; exact h)]
theorem getItem_tuple_to {t sl : Addr} {items : Array Value} {j : Nat} {u : Tok} {Q : Value → Shared → Prop} (ht : IsTup s.heap t items) (hs : s.heap.IsSliceOf sl .none (.int j u) .none) (hj : j < items.size)
    (h : Q (.ref s.heap.objs.size) { s with heap := s.heap.push { cls := .type "tuple", data := .seq (items.toList.take j).toArray } })
    (hsz : items.size ≤ sizeLine) : wpAny (model prog w) A (getItem (.ref t) (.ref sl)) Q E s := by
  have htake : sizeOk (.seq (items.toList.take j).toArray) := by
    show (items.toList.take j).toArray.size ≤ sizeLine
    rw [List.size_toArray, List.length_take, Array.length_toList]
    omega
  obtain ⟨os, hos, hcs, hds⟩ := id hs
  have hTs : s.TypeIs (.ref sl) "slice" := ⟨os, hos, hcs⟩
  unfold getItem
  try with_reducible refine wpAny_holding ?_
  first | refine wpAny_bind (wpAny_pure ?_) | skip
  refine wpAny_bind (wpAny_sequenceKey ht.typeIs (by decide) ?_)
  refine wpAny_bind (wpAny_callSpecial?_slot (name := Str.ofString "__getitem__") ht.typeIs slot_tuple_getitem
    (wpAny_call_entry slot_tuple_getitem ht.typeIs entry_tuple_getitem ?_ (args_tuple_getitem _ _)))
  show wpAny _ _ (Builtin.Tuple.tupleItemsOf (.ref t) >>= _) _ _ s
  refine wpAny_bind (tupleItemsOf_ ht ?_)
  refine wpAny_bind (wpAny_typeOf hTs ?_)
  rw [if_pos (by decide)]
  refine wpAny_bind (sliceApplied_to hs (Nat.le_of_lt hj) ?_)
  have hno : ¬ (((0 : Int) == 0 && (1 : Int) == 1 && j == items.size) = true) := by
    have : (j == items.size) = false := by rw [beq_eq_false_iff_ne]; omega
    rw [this]; simp
  show wpAny _ _ (if ((0 : Int) == 0 && (1 : Int) == 1 && j == items.size) = true then _ else _) _ _ s
  rw [if_neg hno, pick_to items j (Nat.le_of_lt hj)]
  first
    | exact wpAny_bind (m := Builtin.Tuple.tupleExact _) (wpAny_newObj_type (wpAny_pure ⟨_, rfl, wpAny_pure h⟩) htake)
    | exact wpAny_bind (m := Builtin.Tuple.tupleExact _) (wpAny_newObj_type (wpAny_bind (wpAny_pure (wpAny_pure ⟨_, rfl, wpAny_pure h⟩))) htake)
    | exact wpAny_bind (wpAny_bind (m := Builtin.Tuple.tupleExact _) (wpAny_newObj_type (wpAny_pure (wpAny_pure ⟨_, rfl, wpAny_pure h⟩)) htake))
    | exact wpAny_bind (wpAny_bind (m := Builtin.Tuple.tupleExact _) (wpAny_newObj_type (wpAny_pure ⟨_, rfl, wpAny_pure h⟩) htake))
end
end Mine

end

section
set_option autoImplicit false
set_option linter.all false
set_option genSizeOf false
set_option genInjectivity false
namespace Mine
open PySem PySem.W PySem.Calls PyProof.Rows
section
variable {X : Cx} {W : Wd} {es : List (Int × Value)} {kvs : List (V × V)}
theorem dKey {i j : Int} : eqD (.int j) (.int i) = decide (j = i) := rfl
theorem val_cons {i j : Int} {v : Value} : valueAt ((j, v) :: es) i = cond (decide (j = i)) (some v) (valueAt es i) := by
  unfold valueAt
  rw [List.find?_cons]
  cases decide (j = i) <;> rfl
inductive DGv (X : Cx) (W : Wd) : Option Value → Option V → Prop
  | none : DGv X W none none
  | some {v : Value} {x : V} : VR X W v x → DGv X W (some v) (some x)
theorem KVs.val {i : Int} (r : KVs X W es kvs) : DGv X W (valueAt es i) (dGet kvs (.int i)) := by
  induction r with
  | nil => exact .none
  | @cons j v x es kvs a r ih =>
    rw [val_cons]
    show DGv X W _ (cond (eqD (.int j) (.int i)) (some x) (dGet kvs (.int i)))
    rw [dKey]
    cases decide (j = i) with
    | true => exact .some a
    | false => exact ih
theorem KVs.len (r : KVs X W es kvs) : es.length = kvs.length := by
  induction r with
  | nil => rfl
  | cons a r ih => exact congrArg (· + 1) ih
theorem KVs.put {i : Int} {v : Value} {x : V} (hv : VR X W v x) (r : KVs X W es kvs) (hn : (es.map (·.1)).Nodup) : KVs X W (stored es i v) (dSet kvs (.int i) x) := by
  induction r with
  | nil => exact .cons hv .nil
  | @cons j u y es kvs a r ih =>
    rw [List.map_cons, List.nodup_cons] at hn
    show KVs X W _ (cond (eqD (.int j) (.int i)) ((.int j, x) :: kvs) ((.int j, y) :: dSet kvs (.int i) x))
    rw [dKey]
    unfold stored
    by_cases h : j = i
    · subst h
      rw [List.any_cons, decide_eq_true rfl, List.map_cons, if_pos rfl, map_store_of_not_mem es j v hn.1]
      exact .cons hv r
    · have ih := ih hn.2
      unfold stored at ih
      rw [List.any_cons, decide_eq_false h, Bool.false_or, List.map_cons, if_neg h]
      by_cases q : es.any (fun kv => decide (kv.1 = i)) = true
      · rw [if_pos q] at ih ⊢; exact .cons a ih
      · rw [if_neg q] at ih ⊢; exact .cons a ih
theorem key_e {a : Value} {x : V} {ks : List V} {G : Prop} (ha : VR X W a x) (h : keyOk ks x = true) (g : ∀ i t, a = .int i t → x = .int i → G) : G := by
  have h := (and_eq h).1
  cases x with
  | int i => cases ha with | int _ t => exact g i t rfl rfl
  | _ => cases h
where and_eq {a b : Bool} (h : (a && b) = true) : a = true ∧ b = true := by cases a <;> cases b <;> first | exact ⟨rfl, rfl⟩ | cases h
end
end Mine

end

section
set_option autoImplicit false
set_option linter.all false
set_option genSizeOf false
set_option genInjectivity false
namespace Mine
open PySem PySem.W PySem.Calls PyProof.Rows
section
variable {X : Cx} {W : Wd}
theorem ints_are {vs : List Value} {xs : List V} (r : VRs X W vs xs) : ∀ {l : List Int}, intsOf xs = some l → IntsAre vs l := by
  refine VRs.ind (p := fun vs xs => ∀ {l : List Int}, intsOf xs = some l → IntsAre vs l) (fun e => by cases e; exact .nil) (fun {v vs x xs} a _ ih l e => ?_) r
  have e : (match aInt x with | some i => (match intsOf xs with | some l => some (i :: l) | none => none) | none => none) = some l := e
  cases hx : aInt x with
  | none => rw [hx] at e; cases e
  | some i =>
    rw [hx] at e
    have e : (match intsOf xs with | some l => some (i :: l) | none => none) = some l := e
    cases hr : intsOf xs with
    | none => rw [hr] at e; cases e
    | some m =>
      rw [hr] at e; cases e
      cases x with
      | int j => cases hx; cases a with | int _ t => exact .cons _ t (ih hr)
      | _ => cases hx
theorem of_ints {vs : List Value} {l : List Int} (h : IntsAre vs l) : VRs X W vs (l.map .int) := by
  induction h with
  | nil => exact .nil
  | cons n t _ ih => exact .cons (.int n t) ih
end
end Mine

end

section
set_option autoImplicit false
set_option linter.all false
namespace Mine
open PySem PySem.W PySem.Calls PyProof.Rows

theorem rng_size {b : Int} : Builtin.Range.rangeSize 0 b 1 = b.toNat := by
  unfold Builtin.Range.rangeSize
  simp only [show (1 : Int) > 0 by decide, if_true, Int.ediv_one]
  split <;> omega
end Mine

end

section
set_option autoImplicit false
set_option linter.all false
set_option genSizeOf false
set_option genInjectivity false
namespace Mine
open PySem PySem.W PySem.Calls PyProof.Rows
section
variable {X : Cx} {A : Around} {W : Wd} {H : Hp} {s : Shared} {E : Value → Shared → Prop}
/-- a search, and its reverse -/
structure InQ (X : Cx) (A : Around) (E : Value → Shared → Prop) (s : Shared) (a b : Value) (k : Bool → Prop) : Prop where
  yes : ∀ Q : Value → Shared → Prop, (∀ r tk, k r → Q (.bool r) { s with toks := tk }) → wpAny (model X.prog X.w) A (compareOp .In a b) Q E s
  no : ∀ Q : Value → Shared → Prop, (∀ r tk, k r → Q (.bool (!r)) { s with toks := tk }) → wpAny (model X.prog X.w) A (compareOp .NotIn a b) Q E s
theorem InQ.of {a b : Value} {k : Bool → Prop} (h : ∀ Q : Bool → Shared → Prop, (∀ r tk, k r → Q r { s with toks := tk }) → wpAny (model X.prog X.w) A (contains b a) Q E s) : InQ X A E s a b k :=
  ⟨fun Q g => show wpAny _ _ (contains _ _ >>= _) _ _ _ from wpAny_bind (h _ fun r tk z => wpAny_pure (g r tk z)), fun Q g => show wpAny _ _ (contains _ _ >>= _) _ _ _ from wpAny_bind (h _ fun r tk z => wpAny_pure (g r tk z))⟩
theorem inL_ok {a : Value} {x : V} {l : Addr} {vs : Array Value} {n : Nat} {xs : List V} {k : Bool → Prop} (R : RelH X W H s.heap) (hu : Room A) (ha : VR X W a x) (g : s.heap.get? l = some (lstO vs n)) (r : VRs X W vs.toList xs) (e : cmpK.anyK H x xs k) : InQ X A E s a (.ref l) k :=
  ⟨fun Q h => any_ok (Q := Q) R hu ha h r e fun as bs d ds ra rb c1 c2 hu' z => SeqAt.in_list_reads (reads_list' g rb) ra c2 c1 hu' (h _ s.toks z),
   fun Q h => any_ok (Q := fun _ _ => True) R hu ha (fun _ _ _ => trivial) r e fun as bs d ds ra rb c1 c2 hu' z => SeqAt.notIn_list_reads (reads_list' g rb) ra c2 c1 hu' (h _ s.toks z)⟩
theorem in_ok {a b : Value} {x y : V} {k : Bool → Prop} (R : RelH X W H s.heap) (hu : Room A) (ha : VR X W a x) (hb : VR X W b y) (e : cmpK.inK H x y k) : InQ X A E s a b k := by
  cases hb with
  | lst z r q => exact inL_ok R hu ha (R.z _ _ z) r e
  | @ref i l hl =>
    have e : (match H.get i with | some (.list xs) => cmpK.anyK H x xs k | _ => False) := e
    cases hc : H.get i with
    | none => rw [hc] at e; exact e.elim
    | some c =>
      rw [hc] at e
      have q := R.at_ hc hl
      cases c with
      | list xs => obtain ⟨vs, n, g, r, _, _⟩ := q; exact inL_ok R hu ha g r e
      | _ => exact e.elim
  | _ => exact e.elim
theorem is_ok {a b : Value} {x y : V} {k : Bool → Prop} (ha : VR X W a x) (hb : VR X W b y) (e : isK x y k) : ∃ r, plainIs a b = true ∧ (a == b) = r ∧ k r := by
  cases hb with
  | none => cases ha <;> first | exact ⟨_, rfl, rfl, e.2⟩ | exact nomatch e.1
  | bool c =>
    cases ha with
    | bool d => exact ⟨_, rfl, by cases c <;> cases d <;> rfl, e.2⟩
    | _ => first | exact ⟨_, rfl, rfl, e.2⟩ | exact nomatch e.1
  | _ => exact e.elim
section
variable {a b : Value} {x y : V} {k : Bool → Prop} {Q : Value → Shared → Prop} (R : RelH X W H s.heap) (hu : Room A) (ha : VR X W a x) (hb : VR X W b y) (h : ∀ r tk, k r → Q (.bool r) { s with toks := tk })
include R ha hb
theorem ints_ok {k : Int → Int → Prop} (e : need (see H x) fun x => need (see H y) fun y => need (aInt x) fun i => need (aInt y) fun j => k i j) {G : Prop} (g : ∀ i j t u, a = .int i t → b = .int j u → k i j → G) : G :=
  need_e e fun x ex e => need_e e fun y ey e => need_e e fun i ei e => need_e e fun j ej e => ((see_ok R ha ex).toInt ei).elim fun t q => ((see_ok R hb ey).toInt ej).elim fun u q' => g i j t u q q' e
theorem lt_ints {e' : Bool} {k : Bool → Prop} (e : need (see H x) fun x => need (see H y) fun y => ltK e' x y k) {G : Prop} (g : ∀ i j t u, a = .int i t → b = .int j u → k (cmpI e' i j) → G) : G :=
  ints_ok R ha hb (k := fun i j => k (cmpI e' i j)) (need_e e fun x ex e => need_i ex (need_e e fun y ey e => need_i ey (by
    cases x with
    | int i => exact need_i rfl e
    | _ => exact e.elim))) g
include hu h
theorem cmp_ok {op : COp} (e : cmpK H op x y k) : wpAny (model X.prog X.w) A (compareOp (cmpOf op) a b) Q E s := by
  cases op with
  | eq => exact eq_ok R hu ha hb h e
  | ne => exact ne_ok R hu ha hb h e
  | lt => exact lt_ints R ha hb e fun i j t u q q' z => by subst q q'; exact lt_int (h _ s.toks z)
  | le => exact lt_ints R ha hb e fun i j t u q q' z => by subst q q'; exact le_int (h _ s.toks z)
  | gt =>
    refine lt_ints R hb ha (need_e e fun x ex e => need_e e fun y ey e => need_i ey (need_i ex e)) fun i j t u q q' z => ?_
    subst q q'; exact gt_int (h _ s.toks z)
  | ge =>
    refine lt_ints R hb ha (need_e e fun x ex e => need_e e fun y ey e => need_i ey (need_i ex e)) fun i j t u q q' z => ?_
    subst q q'; exact ge_int (h _ s.toks z)
  | isIn => exact (in_ok R hu ha hb e).yes Q h
  | notIn => exact (in_ok (k := fun r => k (!r)) R hu ha hb e).no Q fun r tk z => h _ tk z
  | is => exact (is_ok ha hb e).elim fun r q => wpAny_is_plain q.1 (by rw [q.2.1]; exact h _ s.toks q.2.2)
  | isNot => exact (is_ok (k := fun r => k (!r)) ha hb e).elim fun r q => wpAny_isNot_plain q.1 (by rw [q.2.1]; exact h _ s.toks q.2.2)
end
end
end Mine

end

section
set_option autoImplicit false
set_option linter.all false
set_option genSizeOf false
set_option genInjectivity false
set_option maxRecDepth 100000
namespace Mine
open PySem PySem.W PySem.Calls PyProof.Rows Builtin Builtin.ObjectAttr Builtin.Getset_descriptor

/-- the type of a kind -/
noncomputable def kdT : Kd → Value
  | .none => .type "NoneType"
  | .bool => .type "bool"
  | .int => .type "int"
  | .str => .type "str"
  | .list => .type "list"
  | .tuple => .type "tuple"
theorem isi_one {k : Kd} {c : B} {b : Bool} (e : isi1 k (.bt c) = some b) : kitOne [] (kdT k) (bval c) = some b := by
  rw [← e]
  cases c <;> first | exact nsome e | (cases k <;> decide +kernel)
section
variable {X : Cx} {A : Around} {W : Wd} {H : Hp} {s : Shared} {E : Value → Shared → Prop}
theorem isi_then {v t : Value} {k : Kd} {y : V} {b : Bool} {Hh : Heap → Prop} {Q : Value → Shared → Prop} (Z : KitX [] v (kdT k) Hh) (hh : Hh s.heap) (hv : v ≠ .builtin "__main__.__loader__#opaque") (ht : VR X W t y) (e : isi1 k y = some b) (h : ∀ tk, Q (.bool b) { s with toks := tk }) :
    wpAny (model X.prog X.w) A (call (.builtin "isinstance") [v, t]) Q E s := by
  cases ht with
  | bt bb => exact kia_one Z (fun x o q => nsome q) hh (isi_one e) hv h
  | _ => exact nsome e
theorem isi_ok {v t : Value} {x y : V} {k : Bool → Prop} {Q : Value → Shared → Prop} (R : RelH X W H s.heap) (hv : VR X W v x) (ht : VR X W t y) (e : need (kind H x) fun q => need (isi1 q y) k) (h : ∀ b tk, k b → Q (.bool b) { s with toks := tk }) :
    wpAny (model X.prog X.w) A (call (.builtin "isinstance") [v, t]) Q E s := by
  refine need_e e fun q ek e => need_e e fun b e z => ?_
  have h := fun tk => h b tk z
  cases hv with
  | none => cases ek; exact isi_then kitx_none trivial (fun q => nomatch q) ht e h
  | bool c => cases ek; exact isi_then kitx_bool trivial (fun q => nomatch q) ht e h
  | int i u => cases ek; exact isi_then kitx_int trivial (fun q => nomatch q) ht e h
  | str c u _ _ => cases ek; exact isi_then kitx_str trivial (fun q => nomatch q) ht e h
  | tup z r q => cases ek; exact isi_then kitx_tuple ⟨_, R.z _ _ z, rfl⟩ (fun q => nomatch q) ht e h
  | lst z r q => cases ek; exact isi_then kitx_list ⟨_, R.z _ _ z, rfl⟩ (fun q => nomatch q) ht e h
  | @ref i l hl =>
    have ek : kdC (H.get i) = some q := ek
    cases hg : H.get i with
    | none => rw [hg] at ek; cases ek
    | some c =>
      rw [hg] at ek
      have hcell := R.at_ hg hl
      cases c with
      | list xs => cases ek; obtain ⟨vs, k, hgg, _, _, _⟩ := hcell; exact isi_then kitx_list ⟨_, hgg, rfl⟩ (fun q => nomatch q) ht e h
      | _ => cases ek
  | _ => cases ek
end
end Mine

end

section
set_option autoImplicit false
set_option linter.all false
set_option genSizeOf false
set_option genInjectivity false
namespace Mine
open PySem PySem.W PySem.Calls PyProof.Rows

section
variable {X : Cx} {A : Around} {W : Wd} {H : Hp} {s : Shared} {E : Value → Shared → Prop}
theorem arr_get {vs : Array Value} {xs : List V} (h : VRs X W vs.toList xs) {k : Nat} {x : V} (e : xs[k]? = some x) : ∃ v, vs[k]? = some v ∧ VR X W v x := (h.get e).imp fun v q => ⟨by rw [← Array.getElem?_toList]; exact q.1, q.2⟩
theorem pyIdx_pos {i : Int} {n k : Nat} (e : pyIdx i n = some k) : 0 ≤ i ∧ i < n ∧ k = i.toNat := by
  unfold pyIdx at e
  by_cases h : 0 ≤ i
  · rw [if_pos h] at e
    by_cases c : i < n
    · rw [if_pos c] at e; exact ⟨h, c, (Option.some.inj e).symm⟩
    · rw [if_neg c] at e; cases e
  · rw [if_neg h] at e; cases e
theorem pyIdx_seq {i : Int} {n k : Nat} (e : pyIdx i n = some k) : seqIndex? i n = some k := by
  obtain ⟨h, hk, rfl⟩ := pyIdx_pos e
  unfold seqIndex?
  simp [Int.not_lt.mpr h, h, hk]
theorem pyIdx_63 {i : Int} {n k : Nat} (e : pyIdx i n = some k) (q : n ≤ SZ) : i < 2 ^ 63 := Int.lt_trans (pyIdx_pos e).2.1 (sz63 q)
theorem sub_tail {o i : Value} {value slice : Expr} {T id : String} {Q : Value → Shared → Prop} (hT : s.TypeIs o T) (hl : typeLookup (.type T) "__getitem__" = pure (some (.builtin id)))
    (h : wpAny (model X.prog X.w) A (getItem o i) Q E s) : wpAny (model X.prog X.w) A (subscriptTail value slice o i) Q E s := by
  unfold subscriptTail
  refine wpAny_bind ?_
  rw [getitemInPython_of_ne hT.not_modules]
  refine wpAny_bind (wpAny_specialOf hT hl ?_)
  have fin : wpAny (model X.prog X.w) A (subscripted slice false o i) (fun r s₃ => wpAny (model X.prog X.w) A (letTemporaryGo value o r >>= fun _ => pure r) Q E s₃) E s := by
    have key : wpAny (model X.prog X.w) A (getItem o i) (fun r s₃ => wpAny (model X.prog X.w) A (letTemporaryGo value o r >>= fun _ => pure r) Q E s₃) E s :=
      wpAny_mono h (fun r s₃ h₃ => wpAny_bind (wpAny_letTemporaryGo (wpAny_pure h₃))) fun _ _ x => x
    unfold subscripted
    split
    · exact wpAny_operating key
    · cases ‹_ = true›
    · exact wpAny_operating key
  first
    | exact wpAny_pure (wpAny_bind fin)
    | exact wpAny_bind (wpAny_pure (wpAny_bind fin))
    | exact wpAny_bind fin
theorem str_one {t : Str} {i c : Nat} (ok : PyData.strOk t = true) (hc : t.cps[i]? = some c) : PyData.strOk ⟨#[c]⟩ = true := by
  have hok : (t.cps.all (· < 0x110000)) = true := ok
  rw [Array.all_eq_true] at hok
  have := hok i (Array.getElem?_eq_some_iff.mp hc).1
  rw [(Array.getElem?_eq_some_iff.mp hc).2] at this
  show ((#[c] : Array Nat).all (· < 0x110000)) = true
  simpa using this
section
variable {a b : Value} {x y : V} {value slice : Expr} {k : V → Prop} {Q : Value → Shared → Prop} (h : ∀ v r tk, VR X W v r → k r → Q v { s with toks := tk })
include h
theorem idxL_ok {l : Addr} {vs : Array Value} {n : Nat} {xs : List V} {i : Int} {t : Tok} (g : s.heap.get? l = some (lstO vs n)) (r : VRs X W vs.toList xs) (q : xs.length ≤ SZ) (e : atK xs i k) : wpAny (model X.prog X.w) A (subscriptTail value slice (.ref l) (.int i t)) Q E s := by
  refine need_e e fun m em e => need_e e fun x ex e => ?_
  obtain ⟨v, hx, hr⟩ := arr_get r ex
  have hf := h v x s.toks hr e
  obtain ⟨h0, _, rfl⟩ := pyIdx_pos em
  exact sub_tail ⟨_, g, rfl⟩ list_getitem_lookup (wpAny_getItem_list (isList_of g) h0 (pyIdx_63 em q) hx hf)
theorem idx_ok (R : RelH X W H s.heap) (ha : VR X W a x) (hb : VR X W b y) (e : idxH H x y k) : wpAny (model X.prog X.w) A (subscriptTail value slice a b) Q E s := by
  have key : ∀ i, aInt y = some i → ∃ t, b = .int i t := fun i ei => by cases hb <;> first | (cases ei; exact ⟨_, rfl⟩) | cases ei
  cases ha with
  | @ref j l hl =>
    have e : (match H.get j with | some (.list xs) => idxK (.lst xs) y k | _ => False) := e
    cases hc : H.get j with
    | none => rw [hc] at e; exact e.elim
    | some c =>
      rw [hc] at e
      have q := R.at_ hc hl
      cases c with
      | list xs =>
        refine need_e e fun i ei e => (key i ei).elim fun t et => ?_
        subst et
        obtain ⟨vs, n, g, r, _, z⟩ := q
        exact idxL_ok h g r z e
      | _ => exact e.elim
  | lst z r q => exact need_e e fun i ei e => (key i ei).elim fun t et => by subst et; exact idxL_ok h (R.z _ _ z) r q e
  | @tup l vs n xs z r q =>
    refine need_e e fun i ei e => (key i ei).elim fun t et => need_e e fun m em e => need_e e fun x ex e => ?_
    subst et
    obtain ⟨v, hx, hr⟩ := arr_get r ex
    exact sub_tail (isTup_of (R.z _ _ z)).typeIs slot_tuple_getitem.lookup (getItem_tuple (isTup_of (R.z _ _ z)) (Int.le_trans (by decide) (pyIdx_pos em).1) (pyIdx_63 em q) (by rw [r.toArr]; exact pyIdx_seq em) hx (h v x s.toks hr e))
  | str t u ok z =>
    refine need_e e fun i ei e => (key i ei).elim fun tk et => ?_
    subst et
    obtain ⟨h0, e⟩ := e
    refine need_e e fun c hc e => ?_
    have hlt : i.toNat < t.cps.size := (Array.getElem?_eq_some_iff.mp hc).1
    have hL : t.length = t.cps.size := rfl
    have h1 : i < t.cps.size := (Int.toNat_lt h0).mp hlt
    have h2 : i < 2 ^ 63 := Int.lt_trans h1 (sz63 z)
    refine sub_tail (typeIs_str s _ _) slot_str_getitem.lookup (PyProof.Rows.getItem_str ?_ ?_ ?_ (c := c))
    · simp; omega
    · rw [pyIdx_seq (show pyIdx i t.length = some i.toNat by unfold pyIdx; rw [if_pos h0]; exact if_pos h1)]; exact hc
    · exact h _ _ _ (.str _ _ (str_one ok hc) (by show 1 ≤ SZ; decide)) e
  | _ => exact need_e e fun _ _ e => e.elim
end

/-! slices -/
theorem clamp_eq {x : Int} {n : Nat} (h : 0 ≤ x) : min x (n : Int) = ((min x.toNat n : Nat) : Int) := by omega
theorem max0 {n : Nat} : max 0 (n : Int) = n := Int.max_eq_right (Int.natCast_nonneg n)
theorem take_cut {α : Type} (l : List α) (a b : Nat) : (l.drop (min a l.length)).take (min b l.length - min a l.length) = (l.drop a).take (b - a) := by
  rw [kmk_drop_min]
  by_cases c1 : a ≤ l.length
  · rw [Nat.min_eq_left c1]
    by_cases c2 : b ≤ l.length
    · rw [Nat.min_eq_left c2]
    · rw [Nat.min_eq_right (Nat.le_of_not_le c2), List.take_of_length_le (by rw [List.length_drop]; exact Nat.le_refl _), List.take_of_length_le (by rw [List.length_drop]; exact Nat.sub_le_sub_right (Nat.le_of_not_le c2) _)]
  · rw [List.drop_of_length_le (Nat.le_of_not_le c1), List.take_nil, List.take_nil]
theorem pick_list {vs : Array Value} {xs : List V} (hv : VRs X W vs.toList xs) {lo : Option Int} {hi : Int} (h1 : 0 ≤ lo.getD 0) (h2 : 0 ≤ hi) : VRs X W (slicePick vs lo (some hi) none).toList (slL xs (lo.getD 0) hi) := by
  have neg : ∀ {x : Int}, 0 ≤ x → ¬ x < 0 := fun h => Int.not_lt.mpr h
  have e : sliceBounds lo (some hi) none vs.size = (((min (lo.getD 0).toNat vs.size : Nat) : Int), ((min hi.toNat vs.size : Nat) : Int), 1) := by
    cases lo with
    | none =>
      rw [show min (Option.getD none (0 : Int)).toNat vs.size = 0 from Nat.zero_min _]
      simp only [sliceBounds, Option.getD_none, show (1 : Int) > 0 by decide, if_true, if_neg (neg h2), clamp_eq h2]
      rfl
    | some x => simp only [sliceBounds, Option.getD_none, Option.getD_some, show (1 : Int) > 0 by decide, if_true, if_neg (neg (x := x) h1), if_neg (neg h2), clamp_eq (x := x) h1, clamp_eq h2, max0]
  rw [kmk_pick_nat _ e, hv.toArr]
  have := (hv.drop (min (lo.getD 0).toNat xs.length)).take (min hi.toNat xs.length - min (lo.getD 0).toNat xs.length)
  rw [take_cut xs] at this
  exact this
theorem part_of {v : Value} {o : Option V} {i : Option Int} (hv : VR X W v (o.getD .none)) (e : optI o = some i) : IsPart v i := by
  cases o with
  | none => cases e; cases hv; exact .none
  | some x =>
    cases x with
    | int i => cases e; cases hv; exact .int _ _
    | _ => cases e
theorem hi_of {v : Value} {o : Option V} {a : Int} (hv : VR X W v (o.getD .none)) (e : hiI o = some a) : IsPart v (some a) := by
  cases o with
  | none => cases e
  | some x =>
    cases x with
    | int i => cases e; cases hv; exact .int _ _
    | _ => cases e
abbrev slO (a b c : Value) : Obj := { cls := .type "slice", data := .fields #[a, b, c] }
theorem cond_s {b : Bool} {x y : List V} {G : Prop} (h : cond b (some x) none = some y) (g : b = true → y = x → G) : G := by
  cases b with
  | true => exact g rfl (Option.some.inj h).symm
  | false => cases h
section
variable {fz : Bool} {k : LV → Prop} {Q : Value → Shared → Prop} (o : OpQ X fz W H s k Q) (R : RelH X W H s.heap)
include o R
/-- behind a new slice object -/
theorem OpQ.behind {ob : Obj} : OpQ X fz W H { s with heap := s.heap.push ob } k Q ∧ RelH X W H (s.heap.push ob) := by
  have hp : ∀ b o, s.heap.get? b = some o → (s.heap.push ob).get? b = some o := fun _ _ q => Heap.get?_push_of_some _ q
  have S₁ : Stp noPv W H s.heap W H (s.heap.push ob) := .quiet (fun a o q _ => hp a o q) fun a o q => ⟨o, hp a o q⟩
  exact ⟨⟨fun r v' s' W' H' T z q => o.out r v' s' W' H' ⟨S₁.trans T.stp, T.rel, ⟨T.rest.gens, T.rest.drawn, T.rest.os⟩⟩ z q, o.sz⟩, R.quiet (Pv := noPv) (fun a o q _ => hp a o q) fun _ z => z.elim⟩
theorem sl_ok {a vl vu : Value} {x : V} {lo : Option Int} {hi : Int} {value slice : Expr} (ha : Sn X W s.heap a x) (pl : IsPart vl lo) (pu : IsPart vu (some hi)) (e : slK x lo hi k) :
    wpAny (model X.prog X.w) A (newFields "slice" [vl, vu, .none]) (fun i s₁ => wpAny (model X.prog X.w) A (subscriptTail value slice a i) Q E s₁) E s := by
  obtain ⟨⟨h1, h2⟩, e⟩ := e
  obtain ⟨o₁, R₁⟩ := o.behind R (ob := slO vl vu .none)
  refine wpAny_newObj_type ?_
  cases ha with
  | lst g r q z =>
    have hg₁ := Heap.get?_push_of_some (slO vl vu .none) g
    exact sub_tail (s := { s with heap := s.heap.push (slO vl vu .none) }) ⟨_, hg₁, rfl⟩ list_getitem_lookup
      (wpAny_getItem_list_slice (isList_of hg₁) (Heap.IsSliceOf.new ..) pl pu .none (by simp) (o₁.push (n := 0) R₁ (pick_list r h1 h2) e) (by rw [z]; exact szLine q))
  | @tup l vs n xs g r q z =>
    have hg₁ := Heap.get?_push_of_some (slO vl vu .none) g
    refine need_e e fun ys ey e => ?_
    cases lo with
    | some _ => cases ey
    | none =>
      obtain ⟨j, rfl⟩ := Int.eq_ofNat_of_zero_le h2
      refine cond_s ey fun hj e3 => ?_
      subst e3
      cases pl
      cases pu with
      | int _ t =>
        refine sub_tail (s := { s with heap := s.heap.push (slO .none (.int j t) .none) }) ⟨_, hg₁, rfl⟩ slot_tuple_getitem.lookup (getItem_tuple_to (isTup_of hg₁) (Heap.IsSliceOf.new ..) (by rw [z]; exact Nat.le_of_ble_eq_true hj) ?_ (by rw [z]; exact szLine q))
        exact o₁.fro (tk := s.toks) R₁ (fun _ _ e => Heap.get?_push_of_some _ e) (push_none _) (Heap.get?_push_size _ rfl) (.tup (n := 0) addZ_self ((r.take j).le (R₁.leZ (push_none _))) (Nat.le_trans (by rw [List.length_take]; exact Nat.min_le_right _ _) q)) e
  | _ => exact e.elim
end

/-! built-in functions -/
theorem rngL_get (n : Nat) : ∀ (a : Int) (k : Nat), k < n → (rngL a n)[k]? = some (.int (a + k)) := by
  induction n with
  | zero => intro a k h; exact absurd h (Nat.not_lt_zero _)
  | succ n ih =>
    intro a k h
    cases k with
    | zero => show some (V.int a) = _; rw [Int.natCast_zero, Int.add_zero]
    | succ k =>
      show (rngL (a + 1) n)[k]? = _
      rw [ih (a + 1) k (Nat.lt_of_succ_lt_succ h), Int.natCast_succ, Int.add_assoc, Int.add_comm 1]
theorem rngL_length (n : Nat) : ∀ a : Int, (rngL a n).length = n := by
  induction n with
  | zero => intro a; rfl
  | succ n ih => intro a; exact congrArg (· + 1) (ih (a + 1))
theorem fitsLong {x : Int} (hx : x.natAbs ≤ 4194304) : Builtin.Range.rangeFitsLong x = true := by
  unfold Builtin.Range.rangeFitsLong
  simp
  omega
theorem rng_small {b : Int} (hb : b.natAbs ≤ SZ) : Builtin.Range.small 0 b 1 = true := by
  unfold Builtin.Range.small
  rw [rng_size]
  unfold SZ at *
  rw [fitsLong (x := 0) (by decide), fitsLong (x := b) (by omega), fitsLong (x := ((b.toNat : Nat) : Int)) (by omega), fitsLong (x := 1) (by decide)]
  simp only [show (1 : Int) > 0 by decide, if_true, Bool.true_and, Bool.or_eq_true]
  exact .inr (fitsLong (by omega))
theorem len_ok {v : Value} {x : V} {n : Nat} {fz : Bool} {k : LV → Prop} {Q : Value → Shared → Prop} (o : OpQ X fz W H s k Q) (R : RelH X W H s.heap) (hv : VR X W v x) (e : lenH H x = some n) (h : k (.val (.int n))) : wpAny (model X.prog X.w) A (call (bval .len) [v]) Q E s := by
  have lst : ∀ {l : Addr} {vs : Array Value} {m : Nat} {xs : List V}, s.heap.get? l = some (lstO vs m) → VRs X W vs.toList xs → xs.length ≤ SZ → some xs.length = some n → wpAny (model X.prog X.w) A (call (bval .len) [.ref l]) Q E s := fun {l vs m xs} g r q e => by
    refine call_len_list (isList_of g) (by rw [r.toArr]; exact sz63 q) ?_
    rw [r.toArr, Option.some.inj e]; exact o.val R (.int ..) h
  cases hv with
  | str t u ok z => exact PySem.P.len_str (Int.not_le.mpr (sz63 z)) (by rw [Option.some.inj e]; exact o.val R (.int ..) h)
  | lst z r q => exact lst (R.z _ _ z) r q e
  | @ref i l hl =>
    have e : (match H.get i with | some (.list xs) => some xs.length | _ => none) = some n := e
    cases hc : H.get i with
    | none => rw [hc] at e; cases e
    | some c =>
      rw [hc] at e
      have q := R.at_ hc hl
      cases c with
      | list xs => obtain ⟨vs, m, g, r, _, z⟩ := q; exact lst g r z e
      | _ => cases e
  | _ => cases e
theorem b1_ok {b : B} {v : Value} {x : V} {fz : Bool} {k : LV → Prop} {Q : Value → Shared → Prop} (o : OpQ X fz W H s k Q) (R : RelH X W H s.heap) (hv : VR X W v x) (e : b1K b (see H x) (lenH H x) k) : wpAny (model X.prog X.w) A (call (bval b) [v]) Q E s := by
  cases b with
  | len => exact need_e e fun n en e => len_ok o R hv en e
  | list =>
    refine need_e e fun y ey e => need_e e fun xs ex e => ?_
    cases see_ok R hv ey with
    | lst g r q z => cases ex; exact call_list_seq _ (.inl rfl) g rfl rfl (fun h' c' hk ha => o.list R r hk (push_none _) ha e) (by rw [z]; exact szLine q)
    | _ => cases ex
  | range => exact need_e e fun y ey e => need_e e fun n en e => ((see_ok R hv ey).toInt en).elim fun t q => q ▸ call_range_1 (o.fro R (fun _ _ e => Heap.get?_push_of_some _ e) (push_none _) (Heap.get?_push_size _ rfl) (.rng addZ_self e.1) e.2)
  | _ => exact e.elim
theorem b2_ok {b : B} {v w : Value} {x y : V} {fz : Bool} {k : LV → Prop} {Q : Value → Shared → Prop} (o : OpQ X fz W H s k Q) (hh : A.handled = none) (R : RelH X W H s.heap) (h1 : VR X W v x) (h2 : VR X W w y) (e : need (see H x) fun x => need (see H y) fun y => b2K b x y k) : wpAny (model X.prog X.w) A (call (bval b) [v, w]) Q E s := by
  cases b with
  | max =>
    refine ints_ok R h1 h2 e fun i j t u q q' e => ?_
    subst q q'
    refine max_two_ints hh fun h' tk hk => ?_
    split
    · rename_i c; exact o.more R hk (x := .int (if j > i then j else i)) (by rw [if_pos c]; exact .int _ _) e
    · rename_i c; exact o.more R hk (x := .int (if j > i then j else i)) (by rw [if_neg c]; exact .int _ _) e
  | min =>
    refine ints_ok R h1 h2 e fun i j t u q q' e => ?_
    subst q q'
    refine min_two_ints hh fun h' tk hk => ?_
    split
    · rename_i c; exact o.more R hk (x := .int (if j < i then j else i)) (by rw [if_pos c]; exact .int _ _) e
    · rename_i c; exact o.more R hk (x := .int (if j < i then j else i)) (by rw [if_neg c]; exact .int _ _) e
  | _ => exact need_e e fun _ _ e => need_e e fun _ _ e => e.elim
theorem callB_ok {b : B} {vs : List Value} {xs : List V} {fz : Bool} {k : LV → Prop} {Q : Value → Shared → Prop} (o : OpQ X fz W H s k Q) (hh : A.handled = none) (R : RelH X W H s.heap) (hv : VRs X W vs xs) (e : callB H b xs k) : wpAny (model X.prog X.w) A (call (bval b) vs) Q E s := by
  cases hv with
  | nil => exact e.elim
  | cons h1 r =>
    cases r with
    | nil => exact b1_ok o R h1 e
    | cons h2 r =>
      cases r with
      | nil =>
        refine Br_e e (fun q e => ?_) fun _ e => b2_ok o hh R h1 h2 e
        cases b with
        | isinstance => exact isi_ok R h1 h2 e fun r tk z => o.val R (.bool _) z
        | _ => cases q
      | cons h3 r => exact e.elim
end
end Mine

end

section
set_option autoImplicit false
set_option linter.all false
set_option genSizeOf false
set_option genInjectivity false
namespace Mine
open PySem

/-! The P-text is the text's: a look, place by place. -/
noncomputable def nkNo : NameKind → Nat
  | .local => 1
  | .cell => 2
  | .free => 3
  | .globalImplicit => 4
  | _ => 0
noncomputable def knd (sc : Scope) (x : Str) : Nat := match sc.names.lookup x with
  | some k => nkNo k
  | none => 0
noncomputable def kLoc (sc : Scope) (x : Str) : Bool := Nat.ble 1 (knd sc x) && Nat.ble (knd sc x) 3
noncomputable def kLocal (sc : Scope) (x : Str) : Bool := Nat.beq (knd sc x) 1
noncomputable def kStore (sc : Scope) (x : Str) : Bool := Nat.beq (knd sc x) 1 || Nat.beq (knd sc x) 2
noncomputable def kGlob (sc : Scope) (x : Str) : Bool := Nat.beq (knd sc x) 4
noncomputable def nkOf : Nat → NameKind
  | 1 => .local
  | 2 => .cell
  | 3 => .free
  | _ => .globalImplicit
theorem nk_of {k : NameKind} (h : nkNo k ≠ 0) : k = nkOf (nkNo k) := by cases k <;> first | rfl | exact absurd rfl h
theorem knd_of {sc : Scope} {x : Str} {n : Nat} (h : knd sc x = n) (hn : n ≠ 0) : sc.names.lookup x = some (nkOf n) := by
  have h : (match sc.names.lookup x with | some k => nkNo k | none => 0) = n := h
  cases q : sc.names.lookup x with
  | none => rw [q] at h; exact absurd h.symm hn
  | some k => rw [q] at h; rw [← h, ← nk_of (fun z => hn (h.symm.trans z))]
noncomputable def nDbg (x : Str) : Bool := !(x == ("__debug__" : Str)) && !(x == ("__classdict__" : Str))

/-! a text taken apart -/
structure XU where
  tag : Nat
  a : Expr
  b : Expr
  c : Expr
  l : List Expr
  os : List (Option Expr)
  s : Str
  v : Const
  o : Operator
  u : UnaryOp
  cs : List CmpOp
  bo : BoolOp
  kw : List Keyword
  gs : List Comprehension
  sc : Option Scope
  k : Nat
  o0 : Option Expr
  o1 : Option Expr
  o2 : Option Expr
  p : Pos
noncomputable def X0 (e : Expr) (p : Pos) : XU := ⟨0, e, e, e, [], [], Str.empty, .none, .Add, .Not, [], .And, [], [], none, 0, none, none, none, p⟩
noncomputable def xu (e : Expr) : XU := match e with
  | .Constant v k p => { X0 e p with tag := 1, v := v, k := k }
  | .Name x p => { X0 e p with tag := 2, s := x }
  | .Attribute a x p => { X0 e p with tag := 3, a := a, s := x }
  | .BinOp a o b p => { X0 e p with tag := 4, a := a, o := o, b := b }
  | .UnaryOp u a p => { X0 e p with tag := 5, u := u, a := a }
  | .Compare a cs l p => { X0 e p with tag := 6, a := a, cs := cs, l := l }
  | .BoolOp bo l p => { X0 e p with tag := 7, bo := bo, l := l }
  | .IfExp a b c p => { X0 e p with tag := 8, a := a, b := b, c := c }
  | .List l p => { X0 e p with tag := 9, l := l }
  | .Tuple l k p => { X0 e p with tag := 10, l := l, k := k }
  | .Dict os l p => { X0 e p with tag := 11, os := os, l := l }
  | .Subscript a b p => { X0 e p with tag := 12, a := a, b := b }
  | .Slice o0 o1 o2 p => { X0 e p with tag := 13, o0 := o0, o1 := o1, o2 := o2 }
  | .Call a l kw p => { X0 e p with tag := 14, a := a, l := l, kw := kw }
  | .ListComp a gs sc p => { X0 e p with tag := 15, a := a, gs := gs, sc := some sc }
  | .Lambda _ _ _ p => { X0 e p with tag := 16 }
  | .Set _ _ p => { X0 e p with tag := 17 }
  | .NamedExpr _ _ p => X0 e p
  | .SetComp _ _ _ p => X0 e p
  | .DictComp _ _ _ _ p => X0 e p
  | .GeneratorExp _ _ _ p => X0 e p
  | .Await _ p => X0 e p
  | .Yield _ p => X0 e p
  | .YieldFrom _ p => X0 e p
  | .FormattedValue _ _ _ p => X0 e p
  | .JoinedStr _ p => X0 e p
  | .Starred _ p => X0 e p
noncomputable def scOf (t : XU) : Scope := t.sc.getD ⟨.function, [], false, false, []⟩
/-- the text again -/
noncomputable def backs (t : XU) : List Expr := [t.a, .Constant t.v t.k t.p, .Name t.s t.p, .Attribute t.a t.s t.p, .BinOp t.a t.o t.b t.p, .UnaryOp t.u t.a t.p, .Compare t.a t.cs t.l t.p, .BoolOp t.bo t.l t.p, .IfExp t.a t.b t.c t.p, .List t.l t.p, .Tuple t.l t.k t.p, .Dict t.os t.l t.p, .Subscript t.a t.b t.p, .Slice t.o0 t.o1 t.o2 t.p, .Call t.a t.l t.kw t.p, .ListComp t.a t.gs (scOf t) t.p]
noncomputable def back (t : XU) (n : Nat) : Expr := (backs t)[n]?.getD t.a
theorem xu_ok (e : Expr) : Nat.blt (xu e).tag 16 = true → e = back (xu e) (xu e).tag := by
  cases e <;> first | exact fun _ => rfl | exact fun h => nomatch h
theorem xu_is {e : Expr} {n : Nat} (h : Nat.beq (xu e).tag n = true) (hn : Nat.blt n 16 = true) : e = back (xu e) n := by
  have h := Nat.eq_of_beq_eq_true h
  rw [← h] at hn
  exact (xu_ok e hn).trans (by rw [h])
noncomputable def on {α : Type} (o : Option α) (f : α → Bool) : Bool := match o with
  | some a => f a
  | none => false
noncomputable def chkC (v : V) : Const → Bool
  | .none => isNone v
  | .bool b => isB b v
  | .int i => on (aInt v) fun c => decide (c = i)
  | .str s => on (aStr v) fun c => decide (c = s) && PyData.strOk s && decide (s.length ≤ SZ)
  | _ => false
noncomputable def notSuper (e : Expr) : Bool := !(Nat.beq (xu e).tag 14 && (xu e).l.isEmpty && (xu e).kw.isEmpty && Nat.beq (xu (xu e).a).tag 2)
noncomputable def uniq : List (Str × NameKind) → Bool
  | [] => true
  | y :: r => r.all (fun z => !(z.1 == y.1)) && uniq r
/-- a comprehension's scope: its own name, names from around, global names -/
noncomputable def chkSc (nm : Nat → Str) (sc : Scope) (sc' : Scope) (ts : List Nat) : Bool := (match sc'.kind with | .function => true | _ => false) && uniq sc'.names &&
  sc'.names.all fun y => match nkNo y.2 with
    | 1 => y.1 == (".0" : Str) || ts.any (fun i => decide (y.1 = nm i))
    | 3 => Nat.beq (knd sc y.1) 2 || Nat.beq (knd sc y.1) 3
    | 4 => true
    | _ => false

inductive A3 (a b c : Bool) : Prop
  | mk (x : a = true) (y : b = true) (z : c = true)
theorem and2 {a b : Bool} (h : (a && b) = true) : a = true ∧ b = true := by cases a <;> cases b <;> first | exact ⟨rfl, rfl⟩ | cases h
/-- what stands behind «and», one by one -/
theorem and_e {a b : Bool} {G : Prop} (h : (a && b) = true) (g : a = true → b = true → G) : G := g (and2 h).1 (and2 h).2
theorem and3_e {a b c : Bool} {G : Prop} (h : (a && b && c) = true) (g : a = true → b = true → c = true → G) : G := and_e h fun h z => and_e h fun x y => g x y z
theorem and4_e {a b c d : Bool} {G : Prop} (h : (a && b && c && d) = true) (g : a = true → b = true → c = true → d = true → G) : G := and_e h fun h u => and3_e h fun x y z => g x y z u
theorem and5_e {a b c d e : Bool} {G : Prop} (h : (a && b && c && d && e) = true) (g : a = true → b = true → c = true → d = true → e = true → G) : G := and_e h fun h v => and4_e h fun x y z u => g x y z u v
theorem and6_e {a b c d e f : Bool} {G : Prop} (h : (a && b && c && d && e && f) = true) (g : a = true → b = true → c = true → d = true → e = true → f = true → G) : G := and_e h fun h w => and5_e h fun x y z u v => g x y z u v w
theorem on_e {α : Type} {o : Option α} {f : α → Bool} {G : Prop} (h : on o f = true) (g : ∀ a, o = some a → f a = true → G) : G := by
  cases o with
  | none => cases h
  | some a => exact g a rfl h
noncomputable def x0 {α : Type} : Option α → Bool | none => true | _ => false
theorem one_ok {α : Type} {l : List α} {a : α} (h : one l = some a) : l = [a] := by
  match l, h with
  | [_], h => cases h; rfl
theorem x0_ok {α : Type} {o : Option α} (h : x0 o = true) : o = none := by
  cases o with
  | none => rfl
  | some _ => cases h
theorem head_ok {α : Type} {l : List α} {x : α} (h : l.head? = some x) : l = x :: l.tail := by
  cases l with
  | nil => cases h
  | cons a r => cases h; rfl
theorem empty_ok {α : Type} {l : List α} (h : l.isEmpty = true) : l = [] := by
  cases l with
  | nil => rfl
  | cons a r => cases h
noncomputable def tg (e : Expr) (n : Nat) : Bool := Nat.beq (xu e).tag n
/-- «reverse=True» -/
noncomputable def isRv (kw : List Keyword) : Bool := on (one kw) fun k => decide (k.arg = some (Str.ofString "reverse")) && tg k.value 1 && decide ((xu k.value).v = .bool true)
/-- a test that is no «not», no «and», no «or», no «if» -/
noncomputable def plainTest (e : Expr) : Bool := !(tg e 5 && decide ((xu e).u = .Not)) && !tg e 7 && !tg e 8
/-- names to be bound, one by one -/
noncomputable def tgts (nm : Nat → Str) (sc : Scope) : List Nat → List Expr → Bool
  | [], l => l.isEmpty
  | i :: is, l => on l.head? fun t => tg t 2 && decide ((xu t).s = nm i) && kLocal sc (xu t).s && tgts nm sc is l.tail
/-- what is bound: a name, or some in a tuple -/
noncomputable def chkTgt (nm : Nat → Str) (sc : Scope) (ts : List Nat) (t : Expr) : Bool := tg t 2 && on (one ts) fun j => decide ((xu t).s = nm j) && kLocal sc (xu t).s
noncomputable def dcO (a b : Operator) : Bool := decide (a = b)

mutual
noncomputable def chkE (c : Nat → Str) (sc : Scope) : PE → Expr → Bool
  | .cst v, e => tg e 1 && chkC v (xu e).v
  | .loc i, e => tg e 2 && decide ((xu e).s = c i) && kLoc sc (xu e).s && nDbg (xu e).s
  | .glob i, e => tg e 2 && decide ((xu e).s = c i) && kGlob sc (xu e).s && nDbg (xu e).s
  | .attr o n, e => tg e 3 && chkE c sc o (xu e).a && decide ((xu e).s = c n) && notSuper (xu e).a
  | .bin _ op l r, e => tg e 4 && decide ((xu e).o = opOf op) && chkE c sc l (xu e).a && chkE c sc r (xu e).b
  | .neg a, e => tg e 5 && decide ((xu e).u = .USub) && chkE c sc a (xu e).a
  | .not a, e => tg e 5 && decide ((xu e).u = .Not) && chkE c sc a (xu e).a
  | .cmp op l r, e => tg e 6 && on (one (xu e).cs) fun o => on (one (xu e).l) fun r' => decide (o = cmpOf op) && chkE c sc l (xu e).a && chkE c sc r r'
  | .and es, e => tg e 7 && decide ((xu e).bo = .And) && chkEs c sc es (xu e).l
  | .ite d a b, e => tg e 8 && chkT c sc d (xu e).a && chkE c sc a (xu e).b && chkE c sc b (xu e).c
  | .list _ es, e => tg e 9 && chkEs c sc es (xu e).l
  | .tup es, e => tg e 10 && chkEs c sc es (xu e).l
  | .dict, e => tg e 11 && (xu e).os.isEmpty && (xu e).l.isEmpty
  | .idx a i, e => tg e 12 && chkE c sc a (xu e).a && chkE c sc i (xu e).b
  | .sl _ a lo hi, e => tg e 12 && tg (xu e).b 13 && chkE c sc a (xu e).a && chkO c sc lo (xu (xu e).b).o0 && chkO c sc hi (xu (xu e).b).o1 && x0 (xu (xu e).b).o2
  | .call _ f as, e => tg e 14 && tg (xu e).a 2 && chkE c sc f (xu e).a && chkEs c sc as (xu e).l && (xu e).kw.isEmpty
  | .sortedRev _ i a, e => tg e 14 && tg (xu e).a 2 && (decide ((xu (xu e).a).s = c i) && kGlob sc (xu (xu e).a).s && nDbg (xu (xu e).a).s) && (on (one (xu e).l) fun y => chkE c sc a y) && isRv (xu e).kw
  | .meth _ o n as, e => tg e 14 && tg (xu e).a 3 && chkE c sc o (xu (xu e).a).a && decide ((xu (xu e).a).s = c n) && chkEs c sc as (xu e).l && (notSuper (xu (xu e).a).a && Nat.ble (xu e).l.length 20 && (xu e).kw.isEmpty && Nat.beq (xu (xu e).a).p.endLine (xu e).p.line)
  | .comp _ elt ts it cond, e => tg e 15 && on (one (xu e).gs) fun g =>
      chkE c (scOf (xu e)) elt (xu e).a && chkTgt c (scOf (xu e)) ts g.target && chkE c sc it g.iter && chkIf c (scOf (xu e)) cond g.ifs && chkSc c sc (scOf (xu e)) ts && decide (g.is_async = 0)
noncomputable def chkT (c : Nat → Str) (sc : Scope) : PC → Expr → Bool
  | .not d, e => tg e 5 && decide ((xu e).u = .Not) && chkT c sc d (xu e).a
  | .and cs, e => tg e 7 && decide ((xu e).bo = .And) && chkTs c sc cs (xu e).l
  | .or cs, e => tg e 7 && decide ((xu e).bo = .Or) && chkTs c sc cs (xu e).l
  | .e a, e => plainTest e && chkE c sc a e
noncomputable def chkTs (c : Nat → Str) (sc : Scope) : PCs → List Expr → Bool
  | .nil, l => l.isEmpty
  | .cons d r, l => on l.head? fun x => chkT c sc d x && chkTs c sc r l.tail
noncomputable def chkEs (c : Nat → Str) (sc : Scope) : PEs → List Expr → Bool
  | .nil, l => l.isEmpty
  | .cons e r, l => on l.head? fun x => chkE c sc e x && chkEs c sc r l.tail
noncomputable def chkO (c : Nat → Str) (sc : Scope) : PEo → Option Expr → Bool
  | .none, o => x0 o
  | .some e, o => on o fun x => chkE c sc e x
noncomputable def chkIf (c : Nat → Str) (sc : Scope) : PCo → List Expr → Bool
  | .none, l => l.isEmpty
  | .some d, l => on (one l) fun x => chkT c sc d x
end
/-- only the kinds of expression that are told apart -/
theorem chk_tag {c : Nat → Str} {sc : Scope} {p : PE} {e : Expr} (h : chkE c sc p e = true) : Nat.ble 1 (xu e).tag = true ∧ Nat.ble (xu e).tag 15 = true := by
  have k : ∀ n, tg e n = true → (Nat.ble 1 n && Nat.ble n 15) = true → Nat.ble 1 (xu e).tag = true ∧ Nat.ble (xu e).tag 15 = true := fun n h q => by
    rw [show (xu e).tag = n from Nat.eq_of_beq_eq_true h]; exact and2 q
  cases p with
  | cst _ => exact k 1 (and2 h).1 rfl
  | loc _ => exact and4_e h fun a _ _ _ => k 2 a rfl
  | glob _ => exact and4_e h fun a _ _ _ => k 2 a rfl
  | attr _ _ => exact and4_e h fun a _ _ _ => k 3 a rfl
  | bin _ _ _ _ => exact and4_e h fun a _ _ _ => k 4 a rfl
  | neg _ => exact and3_e h fun a _ _ => k 5 a rfl
  | not _ => exact and3_e h fun a _ _ => k 5 a rfl
  | cmp _ _ _ => exact k 6 (and2 h).1 rfl
  | and _ => exact and3_e h fun a _ _ => k 7 a rfl
  | ite _ _ _ => exact and4_e h fun a _ _ _ => k 8 a rfl
  | list _ _ => exact k 9 (and2 h).1 rfl
  | tup _ => exact k 10 (and2 h).1 rfl
  | dict => exact and3_e h fun a _ _ => k 11 a rfl
  | idx _ _ => exact and3_e h fun a _ _ => k 12 a rfl
  | sl _ _ _ _ => exact and6_e h fun a _ _ _ _ _ => k 12 a rfl
  | call _ _ _ => exact and5_e h fun a _ _ _ _ => k 14 a rfl
  | sortedRev _ _ _ => exact and5_e h fun a _ _ _ _ => k 14 a rfl
  | meth _ _ _ _ => exact and6_e h fun a _ _ _ _ _ => k 14 a rfl
  | comp _ _ _ _ _ => exact k 15 (and2 h).1 rfl

/-! statements -/
structure SU where
  tag : Nat
  a : Expr
  b : Expr
  l : List Expr
  o : Operator
  o0 : Option Expr
  b0 : List Stmt
  b1 : List Stmt
  p : Pos
noncomputable def e0 : Expr := .Name Str.empty ⟨0, 0, 0, 0⟩
noncomputable def S0 (p : Pos) : SU := ⟨0, e0, e0, [], .Add, none, [], [], p⟩
noncomputable def su (s : Stmt) : SU := match s with
  | .Expr a p => { S0 p with tag := 1, a := a }
  | .Assign l a p => { S0 p with tag := 3, l := l, a := a }
  | .Return o p => { S0 p with tag := 4, o0 := o }
  | .If a b0 b1 p => { S0 p with tag := 5, a := a, b0 := b0, b1 := b1 }
  | .For a b b0 b1 p => { S0 p with tag := 6, a := a, b := b, b0 := b0, b1 := b1 }
  | .AugAssign a o b p => { S0 p with tag := 9, a := a, o := o, b := b }
  | .While a b0 b1 p => { S0 p with tag := 10, a := a, b0 := b0, b1 := b1 }
  | _ => S0 ⟨0, 0, 0, 0⟩
noncomputable def sbacks (t : SU) : List Stmt := [.Pass t.p, .Expr t.a t.p, .Pass t.p, .Assign t.l t.a t.p, .Return t.o0 t.p, .If t.a t.b0 t.b1 t.p, .For t.a t.b t.b0 t.b1 t.p, .Pass t.p, .Pass t.p, .AugAssign t.a t.o t.b t.p, .While t.a t.b0 t.b1 t.p]
noncomputable def sback (t : SU) (n : Nat) : Stmt := (sbacks t)[n]?.getD (.Pass t.p)
theorem su_ok (s : Stmt) : Nat.ble 1 (su s).tag = true → s = sback (su s) (su s).tag := by
  cases s <;> first | exact fun _ => rfl | exact fun h => nomatch h
noncomputable def sg (s : Stmt) (n : Nat) : Bool := Nat.beq (su s).tag n
theorem su_is {s : Stmt} {n : Nat} (h : sg s n = true) (hn : Nat.ble 1 n = true) : s = sback (su s) n := by
  have h := Nat.eq_of_beq_eq_true h
  rw [← h] at hn
  exact (su_ok s hn).trans (by rw [h])

/-- a name that may be stored -/
noncomputable def chkNm (c : Nat → Str) (sc : Scope) (i : Nat) (e : Expr) : Bool := tg e 2 && decide ((xu e).s = c i) && kStore sc (xu e).s
noncomputable def chkPT1 (c : Nat → Str) (sc : Scope) : PT → Expr → Bool
  | .loc i, e => chkNm c sc i e
  | .attr o n, e => tg e 3 && decide ((xu e).s = c n) && chkE c sc o (xu e).a
  | .idx o i, e => tg e 12 && chkE c sc o (xu e).a && chkE c sc i (xu e).b
  | .tup is, e => tg e 10 && Nat.ble 2 is.length && tgts c sc is (xu e).l
/-- a tuple's names are stored out of no display, out of no comprehension -/
noncomputable def tupOk : PT → Expr → Bool
  | .tup _, x => !tg x 10 && Nat.ble (xu x).tag 14
  | _, _ => true
mutual
noncomputable def chkS (c : Nat → Str) (sc : Scope) : PS → Stmt → Bool
  | .expr e, s => sg s 1 && chkE c sc e (su s).a && tg (su s).a 14
  | .assign t e, s => sg s 3 && on (one (su s).l) fun y => chkPT1 c sc t y && chkE c sc e (su s).a && tupOk t (su s).a
  | .augLoc i op e, s => sg s 9 && chkNm c sc i (su s).a && kLoc sc (xu (su s).a).s && nDbg (xu (su s).a).s && decide ((su s).o = opOf op) && chkE c sc e (su s).b
  | .augAttr o n op e, s => sg s 9 && tg (su s).a 3 && decide ((xu (su s).a).s = c n) && decide ((su s).o = opOf op) && chkE c sc o (xu (su s).a).a && chkE c sc e (su s).b
  | .ret e, s => sg s 4 && chkO c sc e (su s).o0
  | .ite d a b, s => sg s 5 && chkT c sc d (su s).a && chkSs c sc a (su s).b0 && chkSs c sc b (su s).b1
  | .loop ts it body, s => sg s 6 && (on (one ts) fun j => chkNm c sc j (su s).a) && chkE c sc it (su s).b && chkSs c sc body (su s).b0 && (su s).b1.isEmpty
  | .while_ d body, s => sg s 10 && chkT c sc d (su s).a && chkSs c sc body (su s).b0 && (su s).b1.isEmpty
  | .raise, _ => true
noncomputable def chkSs (c : Nat → Str) (sc : Scope) : PSs → List Stmt → Bool
  | .nil, l => l.isEmpty
  | .cons s r, l => on l.head? fun x => chkS c sc s x && chkSs c sc r l.tail
end
end Mine

end

section
set_option autoImplicit false
set_option linter.all false
set_option genSizeOf false
set_option genInjectivity false
namespace Mine
open PySem PySem.W PySem.Calls PyProof.Rows

/-- room for n more calls -/
structure AOk (A : Around) (n : Nat) : Prop where
  depth : A.depth + 4 * n + 4 < recursionLimit
  units : A.units + 20 * n + 100 < cLine
/-- the same for a body that calls -/
structure AOk2 (A : Around) (n : Nat) : Prop where
  depth : A.depth + 4 * n + 6 < recursionLimit
  units : A.units + 20 * n + 110 < cLine
theorem AOk2.room {A : Around} {n : Nat} (h : AOk2 A n) : Room A := by have := h.units; unfold Room; omega
theorem AOk2.call {A : Around} {n : Nat} (h : AOk2 A n) : AOk A n := ⟨by have := h.depth; omega, by have := h.units; omega⟩

structure EnvOk (X : Cx) (A : Around) (env : Env) (Pv : Addr → Prop) (n : Nat) (sc : Scope) : Prop where
  ok : AOk2 A n
  hh : A.handled = none
  kind : env.scope.kind = .function
  glob : env.globals = mainGlobals
  bi : env.builtins = builtinsNs
  names : ∀ x k, sc.names.lookup x = some k → env.kindOf x = some k ∨ (k = .free ∧ env.kindOf x = some .cell)
  cl : ∀ x, env.kindOf x = some .cell ∨ env.kindOf x = some .free → ∃ c, env.cells.lookup x = some c

/-- a def of the text's stands in the base heap -/
structure FnAt (X : Cx) (fn : Fn) (a : Addr) (o : Obj) (fd : FuncData) (body : List Stmt) : Prop where
  at_ : X.hb.get? a = some o
  data : o.data = .func fd
  code : X.hb.CodeRec fd.code fd.qualname
  body_ : fd.body = .stmts body
  bind : ∀ vs : List Value, vs.length = fn.params.length → bindArgs fd ⟨vs, []⟩ = pure ((fn.params.map X.nm).zip vs)
  clo : fd.closure = []
  co : fd.scope.isCoroutine = false
  gen : fd.scope.isGenerator = false
  kind : fd.scope.kind = .function
  glob : fd.globals = mainGlobals
  bi : fd.builtins = builtinsNs
  par : ∀ i ∈ fn.params, kStore fd.scope (X.nm i) = true
  free : ∀ x ∈ fd.scope.names, x.2 ≠ .free
  chk : chkSs X.nm fd.scope fn.body body = true
inductive FnIn (X : Cx) (fn : Fn) (a : Addr) : Prop
  | mk (o : Obj) (fd : FuncData) (body : List Stmt) (h : FnAt X fn a o fd body)
inductive FnOb (X : Cx) (a : Addr) : Prop
  | mk (o : Obj) (fd : FuncData) (h : X.hb.get? a = some o) (hd : o.data = .func fd)

/-- a global name's value -/
inductive GlAt (X : Cx) (i : Nat) (v : V) : Prop
  | main (cv : Value) (mg : Str → Option Value) (ng : X.hb.Ns mainGlobals mg) (h : mg (X.nm i) = some cv) (r : ∀ W, VR X W cv v)
  | bi (cv : Value) (mg mb : Str → Option Value) (ng : X.hb.Ns mainGlobals mg) (nb : X.hb.Ns builtinsNs mb) (h : mg (X.nm i) = none) (hb : mb (X.nm i) = some cv) (r : ∀ W, VR X W cv v)
/-- what stands fast -/
structure CxOk (X : Cx) : Prop where
  inj : ∀ i j, X.nm i = X.nm j → i = j
  dot : ∀ i, X.nm i ≠ (".0" : Str)
  noLim : X.hb.NoLimit
  glob : ∀ i v, X.P.glob i = some v → GlAt X i v
  nAppend : X.nm X.P.nAppend = Str.ofString "append"
  nPop : X.nm X.P.nPop = Str.ofString "pop"
  nGet : X.nm X.P.nGet = Str.ofString "get"
  fnAt : ∀ k a, X.fnA k = some a → FnOb X a
  fn : ∀ k a d, X.fnA k = some a → X.P.fn k = some d → FnIn X d a
  main : ∃ o, X.hb.get? mainGlobals = some o

inductive COk (X : Cx) (W : Wd) (H : Hp) (s : Shared) (Q : V → Hp → Prop) (v : Value) (s' : Shared) : Prop
  | mk (W' : Wd) (H' : Hp) (av : V) (t : Tc X W H s W' H' s') (r : VR X W' v av) (h : Q av H')
noncomputable def CPost (X : Cx) (W : Wd) (H : Hp) (s : Shared) (Q : V → Hp → Prop) (r : Result) (s' : Shared) : Prop := match r with
  | .ok (.ret v) => COk X W H s Q v s'
  | _ => False
noncomputable def CallM (X : Cx) (n : Nat) : Prop := ∀ (A : Around) (k : Nat) (a : Addr) (as : List V) (vs : List Value) (W : Wd) (H : Hp) (s : Shared) (Q : V → Hp → Prop),
  AOk A n → A.handled = none → RelH X W H s.heap → VRs X W vs as → X.fnA k = some a → CW X.P n k as H Q → codeAny (model X.prog X.w) A (.call (.ref a) ⟨vs, []⟩) (CPost X W H s Q) s

theorem vNone {v : V} (h : isNone v = true) : v = .none := by cases v <;> first | rfl | cases h
theorem vBool {v : V} {b : Bool} (h : isB b v = true) : v = .bool b := by
  cases v with
  | bool c => rw [beq_iff_eq.mp h]
  | _ => cases h
theorem vInt {v : V} {b : Int} (h : aInt v = some b) : v = .int b := by cases v <;> first | (cases h; rfl) | cases h
theorem vStr {v : V} {b : Str} (h : aStr v = some b) : v = .str b := by cases v <;> first | (cases h; rfl) | cases h

section
variable {X : Cx} {n : Nat} {sc : Scope}

noncomputable def SE (X : Cx) (n : Nat) (sc : Scope) (p : PE) (e : Expr) : Prop := ∀ (A : Around) (env : Env) (Pv : Addr → Prop) (W : Wd) (σ : St) (s : Shared) (Q : V → St → Prop),
  EnvOk X A env Pv n sc → At X env Pv W σ s → wpE X.P (CW X.P n) p σ Q → Ew X A env Pv (eval e env) W σ s (VQ X Q)
noncomputable def BQ (Q : Bool → St → Prop) (b : Bool) (_ : Wd) (σ : St) (_ : Shared) : Prop := Q b σ
noncomputable def ST (X : Cx) (n : Nat) (sc : Scope) (p : PC) (e : Expr) : Prop := ∀ (A : Around) (env : Env) (Pv : Addr → Prop) (W : Wd) (σ : St) (s : Shared) (Q : Bool → St → Prop),
  EnvOk X A env Pv n sc → At X env Pv W σ s → wpT X.P (CW X.P n) p σ Q → Ew X A env Pv (isTrue e env (eval e env)) W σ s (BQ Q)
inductive VsQ (X : Cx) (Q : List V → St → Prop) (vs : List Value) (W' : Wd) (σ' : St) (s' : Shared) : Prop
  | mk (avs : List V) (r : VRs X W' vs avs) (h : Q avs σ')
noncomputable def SEs (X : Cx) (n : Nat) (sc : Scope) (p : PEs) (es : List Expr) : Prop := ∀ (A : Around) (env : Env) (Pv : Addr → Prop) (W : Wd) (σ : St) (s : Shared) (Q : List V → St → Prop),
  EnvOk X A env Pv n sc → At X env Pv W σ s → wpEs X.P (CW X.P n) p σ Q → Ew X A env Pv (spliced (es.map fun e => (false, eval e env))) W σ s (VsQ X Q)

section
variable {A : Around} {env : Env} {Pv : Addr → Prop} {W : Wd} {σ : St} {s : Shared}

/-- only tokens were drawn -/
theorem At.toks {tk : Nat} (at_ : At X env Pv W σ s) : At X env Pv W σ { s with toks := tk } := ⟨at_.rel, at_.fr⟩
theorem At.tf {tk : Nat} (at_ : At X env Pv W σ s) : Tf X env Pv W σ s W σ { s with toks := tk } := ⟨.refl, at_.toks, ⟨rfl, rfl, rfl⟩⟩
theorem At.fin {α : Type} {R : α → Wd → St → Shared → Prop} {v : α} {tk : Nat} (at_ : At X env Pv W σ s) (h : R v W σ { s with toks := tk }) : Go X env Pv W σ s R v { s with toks := tk } := ⟨W, σ, at_.tf, h⟩
theorem At.val {Q : V → St → Prop} {v : Value} {x : V} {tk : Nat} (at_ : At X env Pv W σ s) (r : VR X W v x) (h : Q x σ) : Go X env Pv W σ s (VQ X Q) v { s with toks := tk } := at_.fin ⟨x, r, h⟩
theorem At.bl {Q : Bool → St → Prop} {b : Bool} {tk : Nat} (at_ : At X env Pv W σ s) (h : Q b σ) : Go X env Pv W σ s (BQ Q) b { s with toks := tk } := at_.fin (R := BQ Q) h
/-- an operation's answer -/
theorem At.op {fz : Bool} {Q : V → St → Prop} (at_ : At X env Pv W σ s) : OpQ X fz W σ.H s (give fz σ Q) (Go X env Pv W σ s (VQ X Q)) where
  sz := fun _ h => h.1
  out := fun r v' s' W' H' T q g => by
    have t := T.tf at_
    cases r with
    | val x => obtain ⟨a, rfl⟩ := q; exact ⟨_, _, t, x, a, g⟩
    | newList xs => cases fz <;> (obtain ⟨a, rfl⟩ := q; exact ⟨_, _, t, _, a, g.2⟩)
theorem VQ.e {Q : V → St → Prop} {v : Value} {G : Prop} (q : VQ X Q v W σ s) (g : ∀ x, VR X W v x → Q x σ → G) : G := by obtain ⟨x, r, h⟩ := q; exact g x r h
theorem VsQ.e {Q : List V → St → Prop} {v : List Value} {G : Prop} (q : VsQ X Q v W σ s) (g : ∀ x, VRs X W v x → Q x σ → G) : G := by obtain ⟨x, r, h⟩ := q; exact g x r h
theorem Go.e {α : Type} {R : α → Wd → St → Shared → Prop} {a : α} {s' : Shared} {G : Prop} (q : Go X env Pv W σ s R a s') (g : ∀ W' σ', Tf X env Pv W σ s W' σ' s' → R a W' σ' s' → G) : G := by obtain ⟨W', σ', t, r⟩ := q; exact g W' σ' t r

theorem SE.bind {β : Type} {p : PE} {e : Expr} {Q : V → St → Prop} {f : Value → Sem β} {R : β → Wd → St → Shared → Prop} (he : SE X n sc p e) (ok : EnvOk X A env Pv n sc) (at_ : At X env Pv W σ s) (hw : wpE X.P (CW X.P n) p σ Q)
    (g : ∀ v W₁ σ₁ s₁ x, At X env Pv W₁ σ₁ s₁ → Wd.Le W W₁ → VR X W₁ v x → Q x σ₁ → Ew X A env Pv (f v) W₁ σ₁ s₁ R) : Ew X A env Pv (eval e env >>= f) W σ s R :=
  Ew.bindT ((he A env Pv W σ s _ ok at_ hw).mono fun v W₁ σ₁ s₁ _ q at₁ le => q.e fun x r h => g v W₁ σ₁ s₁ x at₁ le r h)
theorem SE.hold {β : Type} {p : PE} {e : Expr} {Q : V → St → Prop} {f : Value → Sem β} {vs : List Value} {R : β → Wd → St → Shared → Prop} (he : SE X n sc p e) (ok : EnvOk X A env Pv n sc) (at_ : At X env Pv W σ s) (hw : wpE X.P (CW X.P n) p σ Q)
    (g : ∀ v W₁ σ₁ s₁ x, At X env Pv W₁ σ₁ s₁ → Wd.Le W W₁ → VR X W₁ v x → Q x σ₁ → Ew X A env Pv (f v) W₁ σ₁ s₁ R) : Ew X A env Pv (holding vs (eval e env) >>= f) W σ s R :=
  Ew.bindT (Ew.holding ((he A env Pv W σ s _ ok at_ hw).mono fun v W₁ σ₁ s₁ _ q at₁ le => q.e fun x r h => g v W₁ σ₁ s₁ x at₁ le r h))
/-- one after the other -/
theorem SE.two {β : Type} {l r : PE} {l' r' : Expr} {Q : V → V → St → Prop} {f : Value → Value → Sem β} {R : β → Wd → St → Shared → Prop} (hl : SE X n sc l l') (hr : SE X n sc r r') (ok : EnvOk X A env Pv n sc) (at_ : At X env Pv W σ s) (hw : wpE X.P (CW X.P n) l σ fun x σ₁ => wpE X.P (CW X.P n) r σ₁ (Q x))
    (g : ∀ a b W₁ σ₁ s₁ x y, At X env Pv W₁ σ₁ s₁ → VR X W₁ a x → VR X W₁ b y → Q x y σ₁ → Ew X A env Pv (f a b) W₁ σ₁ s₁ R) : Ew X A env Pv (eval l' env >>= fun a => holding [a] (eval r' env) >>= f a) W σ s R :=
  hl.bind ok at_ hw fun a W₁ σ₁ s₁ x at₁ le hx h₁ => hr.hold ok at₁ h₁ fun b W₂ σ₂ s₂ y at₂ le₂ hy h₂ => g a b W₂ σ₂ s₂ x y at₂ (hx.le le₂) hy h₂

theorem bk (K : CxOk X) (R : RelH X W σ.H s.heap) {a : Addr} {m : Str → Option Value} (h : X.hb.Ns a m) : s.heap.Ns a m := h.keeps R.bkeep

theorem snd_cst {v : V} {c : Const} {k : Nat} {pos : Pos} (hc : chkC v c = true) : SE X n sc (.cst v) (.Constant c k pos) := by
  intro A env Pv W σ s Q ok at_ h
  show wpAny _ A (constValue env c) _ _ s
  cases c with
  | none => cases vNone hc; exact wpAny_pure (at_.val (tk := s.toks) .none h)
  | bool b => cases vBool hc; exact wpAny_pure (at_.val (tk := s.toks) (.bool _) h)
  | int i => exact on_e (o := aInt v) (f := fun c => decide (c = i)) hc fun c e q => by cases vInt e; cases of_decide_eq_true q; exact wpAny_mkInt (at_.val (.int _ _) h)
  | str t => exact on_e (o := aStr v) (f := fun c => decide (c = t) && PyData.strOk t && decide (t.length ≤ SZ)) hc fun c e q => and3_e q fun q1 q2 q3 => by cases vStr e; cases of_decide_eq_true q1; exact wpAny_mkText (at_.val (.str _ _ q2 (of_decide_eq_true q3)) h)
  | _ => cases hc

theorem load_loc {i : Nat} {v : V} {Ex : Value → Shared → Prop} {Q : Value → Shared → Prop} (ok : EnvOk X A env Pv n sc) (at_ : At X env Pv W σ s) (hk : kLoc sc (X.nm i) = true) (hd : nDbg (X.nm i) = true) (ev : σ.loc i = some v)
    (fin : ∀ cv, VR X W cv v → Q cv s) : wpAny (model X.prog X.w) A (loadName env (X.nm i)) Q Ex s := by
  have hd := (and2 hd).2
  have cellc : env.kindOf (X.nm i) = some .cell → wpAny (model X.prog X.w) A (loadName env (X.nm i)) Q Ex s := fun q => by
    obtain ⟨c, cv, a, b, r⟩ := at_.fr.cells i v ev (.inl q)
    exact wpAny_loadName_cell ok.kind q a b (fin cv r)
  have key : ∀ k, sc.names.lookup (X.nm i) = some k → nkNo k ≠ 0 → nkNo k ≠ 4 → wpAny (model X.prog X.w) A (loadName env (X.nm i)) Q Ex s := fun k e h0 h4 => by
    rcases ok.names _ _ e with q | ⟨_, q⟩
    · cases k with
      | «local» =>
        obtain ⟨m, hn, hm⟩ := at_.fr.ns
        obtain ⟨cv, hcv, r⟩ := hm i v ev q
        exact wpAny_loadName_local ok.kind q hn hcv (fin cv r)
      | cell => exact cellc q
      | free =>
        obtain ⟨c, cv, a, b, r⟩ := at_.fr.cells i v ev (.inr q)
        exact wpAny_loadName_free ok.kind q a b (fin cv r) (Bool.not_eq_true' _ ▸ hd)
      | globalExplicit => exact absurd rfl h0
      | globalImplicit => exact absurd rfl h4
    · exact cellc q
  exact and_e hk fun h1 h2 => by
    have h1 := Nat.le_of_ble_eq_true h1
    have h2 := Nat.le_of_ble_eq_true h2
    cases q : sc.names.lookup (X.nm i) with
    | none => have e : knd sc (X.nm i) = 0 := by unfold knd; rw [q]
              rw [e] at h1; exact absurd h1 (by decide)
    | some k => have e : knd sc (X.nm i) = nkNo k := by unfold knd; rw [q]
                rw [e] at h1 h2
                exact key k q (fun z => by rw [z] at h1; exact absurd h1 (by decide)) fun z => by rw [z] at h2; exact absurd h2 (by decide)
theorem dbg_no {x : Str} (h : nDbg x = true) : (x == ("__debug__" : Str)) = false := Bool.not_eq_true' _ ▸ (and2 h).1
theorem snd_loc {i : Nat} {x : Str} {pos : Pos} (hx : x = X.nm i) (hk : kLoc sc x = true) (hd : nDbg x = true) : SE X n sc (.loc i) (.Name x pos) := by
  intro A env Pv W σ s Q ok at_ h
  subst hx
  exact need_e h fun v ev hq => wpAny_Name (load_loc ok at_ hk hd ev fun cv r => at_.val (tk := s.toks) r hq) (dbg_no hd)

theorem load_glob (K : CxOk X) {i : Nat} {x : Str} {pos : Pos} {v : V} {Ex : Value → Shared → Prop} {Q : Value → Shared → Prop} (ok : EnvOk X A env Pv n sc) (at_ : At X env Pv W σ s) (hx : x = X.nm i) (hk : kGlob sc x = true) (hd : nDbg x = true) (ev : X.P.glob i = some v)
    (fin : ∀ cv, (∀ W, VR X W cv v) → Q cv s) : wpAny (model X.prog X.w) A (eval (.Name x pos) env) Q Ex s := by
  subst hx
  refine wpAny_Name ?_ (dbg_no hd)
  have e := knd_of (Nat.eq_of_beq_eq_true hk) (by decide)
  have q : env.kindOf (X.nm i) = some .globalImplicit := (ok.names _ _ e).elim id fun z => nomatch z.1
  rw [loadName_read ok.kind q]
  cases K.glob i v ev with
  | main cv mg ng hv r => exact loadGlobal_global (by rw [ok.glob]; exact bk K at_.rel ng) hv (fin cv r)
  | bi cv mg mb ng nb hv hb r => exact loadGlobal_builtin (by rw [ok.glob]; exact bk K at_.rel ng) hv (by rw [ok.bi]; exact bk K at_.rel nb) hb (fin cv r)
theorem snd_glob (K : CxOk X) {i : Nat} {x : Str} {pos : Pos} (hx : x = X.nm i) (hk : kGlob sc x = true) (hd : nDbg x = true) : SE X n sc (.glob i) (.Name x pos) :=
  fun A env Pv W σ s Q ok at_ h => need_e h fun v ev hq => load_glob K ok at_ hx hk hd ev fun cv r => at_.val (tk := s.toks) (r W) hq

theorem wpAny_op {M : Model} {A : Around} {Ex : Value → Shared → Prop} {vs : List Value} {m : Sem Value} {Q : Value → Shared → Prop} (h : wpAny M A m Q Ex s) : wpAny M A (operate vs m) Q Ex s := by
  intro Γ p hΓ
  rw [Sem.wp_operate]; exact h Γ p hΓ
theorem snd_bin {fz : Bool} {op : BOp} {l r : PE} {l' r' : Expr} {pos : Pos} (hl : SE X n sc l l') (hr : SE X n sc r r') : SE X n sc (.bin fz op l r) (.BinOp l' (opOf op) r' pos) := by
  intro A env Pv W σ s Q ok at_ h
  rw [eval_BinOp]
  exact hl.two hr ok at_ h fun a b W₁ σ₁ s₁ x y at₁ hx hy h₁ => Ew.standAt (Ew.operate (need_e h₁ fun x' ex h₁ => need_e h₁ fun y' ey h₁ => bin_ok at₁.op at₁.rel (see_ok at₁.rel hx ex) (see_ok at₁.rel hy ey) h₁))
theorem aInt_of {v : Value} {x : V} {i : Int} (r : VR X W v x) (e : aInt x = some i) {G : Prop} (g : ∀ t, v = .int i t → G) : G := by
  cases vInt e; cases r with | int i t => exact g t rfl
theorem snd_neg {e : PE} {x : Expr} {pos : Pos} (he : SE X n sc e x) : SE X n sc (.neg e) (.UnaryOp .USub x pos) := fun A env Pv W σ s Q ok at_ h =>
  he.bind (f := fun v => do standAt pos; holding [v] (unaryOp .USub v)) ok at_ h fun a W₁ σ₁ s₁ y at₁ _ hy h₁ => need_e h₁ fun i ei h₁ => aInt_of hy ei fun t q => by
    subst q; exact Ew.standAt (Ew.holding (neg_int (at₁.val (.int _ _) h₁)))
theorem snd_not {e : PE} {x : Expr} {pos : Pos} (he : SE X n sc e x) : SE X n sc (.not e) (.UnaryOp .Not x pos) := fun A env Pv W σ s Q ok at_ h =>
  he.bind (f := fun v => do standAt pos; holding [v] (unaryOp .Not v)) ok at_ h fun a W₁ σ₁ s₁ y at₁ _ hy h₁ =>
    Ew.standAt (Ew.holding (not_of (truth_ok (y := y) at₁.rel hy h₁ fun b tk q => at₁.val (.bool _) q)))

/-! comparisons -/
theorem marks_of {op : CmpOp} {e : Expr} (h : Nat.ble (xu e).tag 15 = true) : behindInMarks op e = false := by
  cases e <;> first | rfl | cases h
theorem At.cmp {op : COp} {a b : Value} {x y : V} {k : Bool → Prop} {Q : Value → Shared → Prop} {Ex : Value → Shared → Prop} (at_ : At X env Pv W σ s) (ok : EnvOk X A env Pv n sc) (hx : VR X W a x) (hy : VR X W b y) (h : cmpK σ.H op x y k) (g : ∀ c tk, k c → Q (.bool c) { s with toks := tk }) : wpAny (model X.prog X.w) A (compareOp (cmpOf op) a b) Q Ex s :=
  cmp_ok at_.rel ok.ok.room hx hy g h
theorem snd_cmp {op : COp} {l r : PE} {l' r' : Expr} {pos : Pos} (hl : SE X n sc l l') (hr : SE X n sc r r') (hs : Nat.ble (xu r').tag 15 = true) : SE X n sc (.cmp op l r) (.Compare l' [cmpOf op] [r'] pos) := by
  intro A env Pv W σ s Q ok at_ h
  rw [eval_Compare1, markedBehindIn_of_false (marks_of hs)]
  exact hl.two hr ok at_ h fun a b W₁ σ₁ s₁ x y at₁ hx hy h₁ => Ew.standAt (Ew.operate (at₁.cmp ok hx hy h₁ fun c tk q => at₁.val (.bool _) q))
theorem snd_cmpT {op : COp} {l r : PE} {l' r' : Expr} {pos : Pos} (hl : SE X n sc l l') (hr : SE X n sc r r') (hs : Nat.ble (xu r').tag 15 = true) : ST X n sc (.e (.cmp op l r)) (.Compare l' [cmpOf op] [r'] pos) := by
  intro A env Pv W σ s Q ok at_ h
  rw [isTrue_Compare1, markedBehindIn_of_false (marks_of hs)]
  exact hl.two hr ok at_ h fun a b W₁ σ₁ s₁ x y at₁ hx hy h₁ => Ew.standAt (wpAny_bind (wpAny_op (at₁.cmp ok hx hy h₁ fun c tk q => wpAny_holding (wpAny_truthy_bool (at₁.bl q)))))

end
end
end Mine

end

section
set_option autoImplicit false
set_option linter.all false
set_option genSizeOf false
set_option genInjectivity false
namespace Mine
open PySem PySem.W PySem.Calls PyProof.Rows

section
variable {X : Cx} {n : Nat} {sc : Scope}

/-- a test that is any other expression -/
theorem isTrue_plain' {e : Expr} {env : Env} {t : Sem Value} (h : plainTest e = true) (h6 : tg e 6 = false) :
    isTrue e env t = (do let v ← t; standAt e.pos; holding [v] (truthy v)) := by
  cases e with
  | UnaryOp op x p =>
    cases op with
    | Not => cases h
    | _ => rfl
  | Compare _ _ _ _ => cases h6
  | BoolOp _ _ _ => cases h
  | IfExp _ _ _ _ => cases h
  | _ => rfl
theorem snd_T {e : PE} {x : Expr} (he : SE X n sc e x) (h : plainTest x = true) (h6 : tg x 6 = false) : ST X n sc (.e e) x := by
  intro A env Pv W σ s Q ok at_ hw
  rw [isTrue_plain' h h6]
  exact he.bind ok at_ hw fun a W₁ σ₁ s₁ y at₁ _ hy h₁ => Ew.standAt (Ew.holding (truth_ok (y := y) at₁.rel hy h₁ fun b tk q => at₁.bl q))
theorem ST.bind {β : Type} {A : Around} {env : Env} {Pv : Addr → Prop} {W : Wd} {σ : St} {s : Shared} {p : PC} {e : Expr} {Q : Bool → St → Prop} {f : Bool → Sem β} {R : β → Wd → St → Shared → Prop} (he : ST X n sc p e) (ok : EnvOk X A env Pv n sc) (at_ : At X env Pv W σ s) (hw : wpT X.P (CW X.P n) p σ Q)
    (g : ∀ b W₁ σ₁ s₁, At X env Pv W₁ σ₁ s₁ → Q b σ₁ → Ew X A env Pv (f b) W₁ σ₁ s₁ R) : Ew X A env Pv (isTrue e env (eval e env) >>= f) W σ s R :=
  Ew.bindT ((he A env Pv W σ s _ ok at_ hw).mono fun v W₁ σ₁ s₁ _ q at₁ le => g v W₁ σ₁ s₁ at₁ q)
theorem snd_notT {c : PC} {x : Expr} {pos : Pos} (hc : ST X n sc c x) : ST X n sc (.not c) (.UnaryOp .Not x pos) := fun A env Pv W σ s Q ok at_ h =>
  hc.bind (f := fun b => pure (!b)) ok at_ h fun b W₁ σ₁ s₁ at₁ h₁ => Ew.pure (R := BQ Q) at₁ h₁

noncomputable def SAll (X : Cx) (n : Nat) (sc : Scope) (p : PCs) (es : List Expr) : Prop := ∀ (A : Around) (env : Env) (Pv : Addr → Prop) (W : Wd) (σ : St) (s : Shared) (Q : Bool → St → Prop),
  EnvOk X A env Pv n sc → At X env Pv W σ s → (wpAllT X.P (CW X.P n) p σ Q → Ew X A env Pv (allTrue .And es env) W σ s (BQ Q)) ∧ (wpAnyT X.P (CW X.P n) p σ Q → Ew X A env Pv (allTrue .Or es env) W σ s (BQ Q))
theorem snd_all_nil : SAll X n sc .nil [] := fun A env Pv W σ s Q ok at_ => ⟨fun h => Ew.pure (R := BQ Q) at_ h, fun h => Ew.pure (R := BQ Q) at_ h⟩
theorem snd_all_cons {c : PC} {r : PCs} {x : Expr} {xs : List Expr} (hc : ST X n sc c x) (hr : SAll X n sc r xs) : SAll X n sc (.cons c r) (x :: xs) := fun A env Pv W σ s Q ok at_ =>
  ⟨fun h => hc.bind (f := fun b => match BoolOp.And, b with | .And, false => pure false | .Or, true => pure true | _, _ => allTrue .And xs env) ok at_ h fun b W₁ σ₁ s₁ at₁ h₁ => by
    cases b with
    | false => exact Ew.pure (R := BQ Q) at₁ h₁
    | true => exact (hr A env Pv W₁ σ₁ s₁ Q ok at₁).1 h₁,
  fun h => hc.bind (f := fun b => match BoolOp.Or, b with | .And, false => pure false | .Or, true => pure true | _, _ => allTrue .Or xs env) ok at_ h fun b W₁ σ₁ s₁ at₁ h₁ => by
    cases b with
    | true => exact Ew.pure (R := BQ Q) at₁ h₁
    | false => exact (hr A env Pv W₁ σ₁ s₁ Q ok at₁).2 h₁⟩
theorem snd_andT {cs : PCs} {xs : List Expr} {pos : Pos} (h : SAll X n sc cs xs) : ST X n sc (.and cs) (.BoolOp .And xs pos) := fun A env Pv W σ s Q ok at_ hw => (h A env Pv W σ s Q ok at_).1 hw
theorem snd_orT {cs : PCs} {xs : List Expr} {pos : Pos} (h : SAll X n sc cs xs) : ST X n sc (.or cs) (.BoolOp .Or xs pos) := fun A env Pv W σ s Q ok at_ hw => (h A env Pv W σ s Q ok at_).2 hw

/-- and, or as values -/
noncomputable def SBool (X : Cx) (n : Nat) (sc : Scope) (p : PEs) (es : List Expr) : Prop := ∀ (A : Around) (env : Env) (Pv : Addr → Prop) (W : Wd) (σ : St) (s : Shared) (Q : V → St → Prop) (pos : Pos),
  EnvOk X A env Pv n sc → At X env Pv W σ s → wpAnd X.P (CW X.P n) p σ Q → Ew X A env Pv (boolOp pos .And (evalEach es env)) W σ s (VQ X Q)
theorem snd_bool_nil {es : List Expr} : SBool X n sc .nil es := fun A env Pv W σ s Q pos ok at_ h => h.elim
theorem snd_bool_one {e : PE} {x : Expr} (he : SE X n sc e x) : SBool X n sc (.cons e .nil) [x] := fun A env Pv W σ s Q pos ok at_ h => he A env Pv W σ s Q ok at_ h
theorem snd_bool_cons {e f : PE} {r : PEs} {x y : Expr} {xs : List Expr} (he : SE X n sc e x) (hr : SBool X n sc (.cons f r) (y :: xs)) : SBool X n sc (.cons e (.cons f r)) (x :: y :: xs) := fun A env Pv W σ s Q pos ok at_ h =>
  he.bind (f := fun v => standAt pos >>= fun _ => holding [v] (truthy v) >>= fun t => match BoolOp.And, t with
      | .And, false | .Or, true => pure v
      | _, _ => boolOp pos .And (evalEach (y :: xs) env)) ok at_ h fun v W₁ σ₁ s₁ z at₁ _ hz h₁ => Ew.standAt (wpAny_bind (wpAny_holding (truth_ok (y := z) at₁.rel hz h₁ fun b tk q => Ew.from at₁.tf (by
    cases b with
    | false => exact Ew.pure at₁.toks ⟨z, hz, q⟩
    | true => exact hr A env Pv W₁ σ₁ _ Q pos ok at₁.toks q))))

theorem snd_ite {t : PC} {a b : PE} {t' a' b' : Expr} {pos : Pos} (ht : ST X n sc t t') (ha : SE X n sc a a') (hb : SE X n sc b b') : SE X n sc (.ite t a b) (.IfExp t' a' b' pos) := fun A env Pv W σ s Q ok at_ h =>
  ht.bind (f := fun c => if c = true then eval a' env else eval b' env) ok at_ h fun c W₁ σ₁ s₁ at₁ h₁ => by
    cases c with
    | true => exact ha A env Pv W₁ σ₁ s₁ Q ok at₁ h₁
    | false => exact hb A env Pv W₁ σ₁ s₁ Q ok at₁ h₁

theorem snd_es_nil : SEs X n sc .nil [] := fun A env Pv W σ s Q ok at_ h => spliced_nil ⟨W, σ, .refl at_, [], .nil, h⟩
theorem snd_es_cons {e : PE} {r : PEs} {x : Expr} {xs : List Expr} (he : SE X n sc e x) (hr : SEs X n sc r xs) : SEs X n sc (.cons e r) (x :: xs) := fun A env Pv W σ s Q ok at_ h =>
  spliced_cons (wpAny_mono (he A env Pv W σ s _ ok at_ h) (fun v s₁ q => q.e fun W₁ σ₁ T q => q.e fun z hz h₁ =>
    wpAny_mono (hr A env Pv W₁ σ₁ s₁ _ ok T.at_ h₁) (fun vs s₂ q => q.e fun W₂ σ₂ T₂ q => q.e fun zs hzs h₂ => ⟨W₂, σ₂, T.trans T₂, z :: zs, .cons (hz.le T₂.stp.le) hzs, h₂⟩) fun _ _ x => x) fun _ _ x => x)

theorem star_one {x : Expr} {env : Env} {xs : List Expr} (h : Nat.ble 1 (xu x).tag = true) : starEach (x :: xs) env = (false, eval x env) :: starEach xs env := by
  cases x <;> first | rfl | cases h
theorem star_plain {c : Nat → Str} {env : Env} : ∀ {p : PEs} {es : List Expr}, chkEs c sc p es = true → starEach es env = es.map fun e => (false, eval e env)
  | .nil, es, h => by rw [empty_ok h]; rfl
  | .cons e r, es, h => on_e h fun x hx h => and_e h fun h1 h2 => by rw [head_ok hx, star_one (chk_tag h1).1, star_plain h2, List.map_cons]
theorem back_plain {c : Nat → Str} {env : Env} {pos : Pos} {p : PEs} {es : List Expr} (h : chkEs c sc p es = true) : backTo pos (starEach es env) = es.map fun e => (false, eval e env) := by
  rw [star_plain h]
  unfold backTo
  rw [List.map_map]
  rfl

theorem SEs.bind {β : Type} {A : Around} {env : Env} {Pv : Addr → Prop} {W : Wd} {σ : St} {s : Shared} {p : PEs} {es : List Expr} {Q : List V → St → Prop} {f : List Value → Sem β} {R : β → Wd → St → Shared → Prop} (he : SEs X n sc p es) (ok : EnvOk X A env Pv n sc) (at_ : At X env Pv W σ s) (hw : wpEs X.P (CW X.P n) p σ Q)
    (g : ∀ v W₁ σ₁ s₁ x, At X env Pv W₁ σ₁ s₁ → VRs X W₁ v x → Q x σ₁ → Ew X A env Pv (f v) W₁ σ₁ s₁ R) : Ew X A env Pv (spliced (es.map fun e => (false, eval e env)) >>= f) W σ s R :=
  Ew.bindT ((he A env Pv W σ s _ ok at_ hw).mono fun v W₁ σ₁ s₁ _ q at₁ le => q.e fun x r h => g v W₁ σ₁ s₁ x at₁ r h)
theorem size_ok {W : Wd} {vs : List Value} {xs : List V} (hv : VRs X W vs xs) (hz : xs.length ≤ SZ) : vs.toArray.size ≤ sizeLine := by rw [List.size_toArray, hv.length]; exact szLine hz
theorem snd_list {fz : Bool} {c : Nat → Str} {es : PEs} {xs : List Expr} {pos : Pos} (he : SEs X n sc es xs) (hc : chkEs c sc es xs = true) : SE X n sc (.list fz es) (.List xs pos) := by
  intro A env Pv W σ s Q ok at_ h
  show Ew X A env Pv (standAt pos >>= fun _ => spliced (backTo pos (starEach xs env)) >>= fun vs => newList vs) W σ s _
  rw [back_plain hc]
  exact Ew.standAt (he.bind ok at_ h fun vs W₁ σ₁ s₁ zs at₁ hzs h₁ => wpAny_newObj_type (at₁.op.push (n := 0) (vs := vs.toArray) (tk := s₁.toks) at₁.rel hzs h₁) (size_ok hzs h₁.1))
theorem snd_tup {c : Nat → Str} {es : PEs} {xs : List Expr} {k : Nat} {pos : Pos} (he : SEs X n sc es xs) (hc : chkEs c sc es xs = true) : SE X n sc (.tup es) (.Tuple xs k pos) := by
  intro A env Pv W σ s Q ok at_ h
  show Ew X A env Pv (standAt pos >>= fun _ => spliced (backTo pos (starEach xs env)) >>= fun vs => newTuple vs) W σ s _
  rw [back_plain hc]
  exact Ew.standAt (he.bind ok at_ h fun vs W₁ σ₁ s₁ zs at₁ hzs h₁ => wpAny_newObj_type ((at₁.op (fz := true)).fro (x := .tup zs) (ob := tupO vs.toArray 0) (tk := s₁.toks) at₁.rel (fun _ _ e => Heap.get?_push_of_some _ e) (push_none _) (Heap.get?_push_size _ rfl) (.tup addZ_self (hzs.le (at₁.rel.leZ (push_none _))) h₁.1) h₁.2) (size_ok hzs h₁.1))

theorem not_sys (K : CxOk X) {W : Wd} {H : Hp} {s : Shared} (R : RelH X W H s.heap) : (s.heap.objs.size == sysModules) = false := by
  obtain ⟨o, e⟩ := K.main
  have lt : mainGlobals < s.heap.objs.size := Heap.lt_size (R.bkeep _ _ e)
  exact beq_eq_false_iff_ne.mpr fun z => absurd (z ▸ lt : mainGlobals < sysModules) (by decide)
theorem snd_dict0 (K : CxOk X) {pos : Pos} : SE X n sc .dict (.Dict [] [] pos) := by
  intro A env Pv W σ s Q ok at_ h
  rw [eval_Dict_empty]
  refine Ew.standAt (wpAny_newObj_type ?_)
  have hn := push_none s.heap
  obtain ⟨r, t⟩ := at_.rel.fresh (h' := s.heap.push (dictO #[] 0)) (l := (s.heap.objs.size, s.heap.objs.size)) (c := .dict []) (fun _ _ e => Heap.get?_push_of_some _ e) hn hn ⟨[], Heap.DictOf.new s.heap, .nil, rfl, not_sys K at_.rel, Nat.zero_le _⟩
  have T : Tc X W σ.H s _ (σ.H.new (.dict [])) { s with heap := s.heap.push (dictO #[] 0) } := ⟨t, r, ⟨rfl, rfl, rfl⟩⟩
  exact ⟨_, ⟨_, σ.loc⟩, T.tf at_, _, VR.ref (l := (s.heap.objs.size, s.heap.objs.size)) addφ_self, h⟩

theorem snd_idx {e i : PE} {v x : Expr} {pos : Pos} (he : SE X n sc e v) (hi : SE X n sc i x) : SE X n sc (.idx e i) (.Subscript v x pos) := by
  intro A env Pv W σ s Q ok at_ h
  rw [eval_Subscript]
  exact he.two hi ok at_ h fun a b W₁ σ₁ s₁ y z at₁ hy hz h₁ => Ew.standAt (idx_ok (fun v r tk q h => at₁.val q h) at₁.rel hy hz h₁)

inductive OQ (X : Cx) (Q : Option V → St → Prop) (v : Value) (W' : Wd) (σ' : St) (s' : Shared) : Prop
  | mk (o : Option V) (r : VR X W' v (o.getD .none)) (h : Q o σ')
noncomputable def SO (X : Cx) (n : Nat) (sc : Scope) (p : PEo) (e : Option Expr) : Prop := ∀ (A : Around) (env : Env) (Pv : Addr → Prop) (W : Wd) (σ : St) (s : Shared) (Q : Option V → St → Prop),
  EnvOk X A env Pv n sc → At X env Pv W σ s → wpO X.P (CW X.P n) p σ Q → Ew X A env Pv (valueOrNone (evalOpt e env)) W σ s (OQ X Q)
theorem snd_o_none : SO X n sc .none none := fun A env Pv W σ s Q ok at_ h => Ew.pure at_ ⟨none, .none, h⟩
theorem snd_o_some {e : PE} {x : Expr} (he : SE X n sc e x) : SO X n sc (.some e) (some x) := fun A env Pv W σ s Q ok at_ h =>
  (he A env Pv W σ s _ ok at_ h).mono fun v W₁ σ₁ s₁ _ q => q.e fun z hz h₁ => ⟨some z, hz, h₁⟩
theorem OQ.e {Q : Option V → St → Prop} {v : Value} {W : Wd} {σ : St} {s : Shared} {G : Prop} (q : OQ X Q v W σ s) (g : ∀ x, VR X W v (x.getD .none) → Q x σ → G) : G := by obtain ⟨x, r, h⟩ := q; exact g x r h
/-- a slice's bound: an optional expression, seen from where the whole began -/
theorem SO.then {β : Type} {A : Around} {env : Env} {Pv : Addr → Prop} {W₀ W : Wd} {σ₀ σ : St} {s₀ s : Shared} {p : PEo} {e : Option Expr} {Q : Option V → St → Prop} {f : Value → Sem β} {vs : List Value} {Ro : β → Shared → Prop} (he : SO X n sc p e) (ok : EnvOk X A env Pv n sc) (T₀ : Tf X env Pv W₀ σ₀ s₀ W σ s) (hw : wpO X.P (CW X.P n) p σ Q)
    (g : ∀ v W₁ σ₁ s₁ o, Tf X env Pv W₀ σ₀ s₀ W₁ σ₁ s₁ → Wd.Le W W₁ → VR X W₁ v (o.getD .none) → Q o σ₁ → wpAny (model X.prog X.w) A (f v) Ro noEx s₁) : wpAny (model X.prog X.w) A (holding vs (valueOrNone (evalOpt e env)) >>= f) Ro noEx s :=
  wpAny_bind (wpAny_holding (wpAny_mono (he A env Pv W σ s _ ok T₀.at_ hw) (fun v s₁ q => q.e fun W₁ σ₁ T q => q.e fun o r h => g v W₁ σ₁ s₁ o (T₀.trans T) T.stp.le r h) fun _ _ x => x))
/-- seen from before -/
theorem OpQ.from {A : Around} {env : Env} {Pv : Addr → Prop} {W₀ W : Wd} {σ₀ σ : St} {s₀ s : Shared} {fz : Bool} {Q : V → St → Prop} (T : Tf X env Pv W₀ σ₀ s₀ W σ s) : OpQ X fz W σ.H s (give fz σ Q) (Go X env Pv W₀ σ₀ s₀ (VQ X Q)) where
  sz := fun _ h => h.1
  out := fun r v' s' W' H' t q g => ((T.at_.op (fz := fz)).out r v' s' W' H' t q g).e fun W₂ σ₂ T₂ q => ⟨W₂, σ₂, T.trans T₂, q⟩
theorem snd_sl {fz : Bool} {e : PE} {lo hi : PEo} {v : Expr} {l u : Option Expr} {p pos : Pos} (he : SE X n sc e v) (hl : SO X n sc lo l) (hu : SO X n sc hi u) : SE X n sc (.sl fz e lo hi) (.Subscript v (.Slice l u none p) pos) := by
  intro A env Pv W σ s Q ok at_ h
  rw [eval_Subscript]
  refine he.bind ok at_ h fun a W₁ σ₁ s₁ y at₁ _ hy h₁ => ?_
  show wpAny _ A (holding [a] (valueOrNone (evalOpt l env) >>= fun l => holding [l] (valueOrNone (evalOpt u env)) >>= fun u => holding [l, u] (valueOrNone (evalOpt none env)) >>= fun s => newFields "slice" [l, u, s]) >>= fun i => standAt pos >>= fun _ => subscriptTail v (.Slice l u none p) a i) _ _ s₁
  refine wpAny_bind (wpAny_holding (wpAny_bind (wpAny_mono (hl A env Pv W₁ σ₁ s₁ _ ok at₁ h₁) (fun b s₂ q => q.e fun W₂ σ₂ T₂ q => q.e fun o₂ hb h₂ => ?_) fun _ _ x => x)))
  refine hu.then ok T₂ h₂ fun c W₃ σ₃ s₃ o₃ T₃ le₃ hc h₃ => wpAny_bind (wpAny_holding (wpAny_pure ?_))
  exact need_e h₃ fun i₁ e₁ h₄ => need_e h₄ fun i₂ e₂ h₅ => need_e h₅ fun x ex hr => wpAny_mono (sl_ok (value := v) (slice := .Slice l u none p) (OpQ.from (A := A) T₃) T₃.at_.rel (see_ok T₃.at_.rel (hy.le T₃.stp.le) ex) (part_of (hb.le le₃) e₁) (hi_of hc e₂) hr)
    (fun i s' h' => wpAny_bind (wpAny_standAt h')) fun _ _ x => x
end
end Mine

end

section
set_option autoImplicit false
set_option linter.all false
set_option genSizeOf false
set_option genInjectivity false
namespace Mine
open PySem PySem.W PySem.Calls PyProof.Rows

section
variable {X : Cx} {n : Nat} {sc : Scope}

theorem evalArgs_all {M : Model} {A : Around} {E : Value → Shared → Prop} {s : Shared} {f : Value} {ts : List (Bool × Sem Value)} {Q : Args → Shared → Prop} (hp : ∀ t ∈ ts, t.1 = false)
    (h : wpAny M A (spliced ts) (fun vs s' => Q ⟨vs, []⟩ s') E s) : wpAny M A (evalArgs f true ts []) Q E s := by
  cases ts with
  | nil => exact wpAny_bind (wpAny_mono h (fun vs s' h' => wpAny_bind (wpAny_pure (wpAny_holding (wpAny_bind (wpAny_pure (wpAny_bind (wpAny_pure (wpAny_pure h'))))))))  fun _ _ x => x)
  | cons t r =>
    obtain ⟨b, x⟩ := t
    cases (hp (b, x) (.head _) : b = false)
    exact evalArgs_plain h

/-- a frozen answer -/
theorem giveV_ok {fz : Bool} {σ : St} {Q : V → St → Prop} {v : Value} {av : V} {W : Wd} {s : Shared} (R : RelH X W σ.H s.heap) (hv : VR X W v av) (g : giveV fz σ Q av) {G : Prop}
    (k : ∀ W' H' av', Tc X W σ.H s W' H' s → VR X W' v av' → Q av' ⟨H', σ.loc⟩ → G) : G := by
  have no : Q av σ → G := fun g => k W σ.H av (.refl R) hv g
  refine Br_e g (fun _ g => ?_) fun _ g => no g
  cases q : aRef av with
  | none => rw [q] at g; exact no g
  | some i =>
    rw [q] at g
    have g : (match cL (σ.H.get i) with | some xs => Q (.lst xs) (σ.setH (σ.H.del i)) | none => Q av σ) := g
    cases q2 : cL (σ.H.get i) with
    | none => rw [q2] at g; exact no g
    | some xs =>
      rw [q2] at g
      refine aRef_e hv q fun l e hl _ => ?_
      obtain ⟨o, r, t, z⟩ := R.freeze (cL_e q2) hl
      exact k _ _ _ ⟨t, r, .refl _⟩ (e ▸ z) g

theorem plain_any {env : Env} {vs : List Expr} : ((vs.map fun e => ((false : Bool), eval e env)).any (·.1)) = false := by
  induction vs with
  | nil => rfl
  | cons x r ih => exact ih
theorem plain_all {env : Env} {vs : List Expr} : ∀ t ∈ (vs.map fun e => ((false : Bool), eval e env)), t.1 = false := fun t ht =>
  (List.mem_map.mp ht).elim fun e q => q.2 ▸ rfl

/-- the arguments, then the call -/
theorem args_then {A : Around} {env : Env} {Pv : Addr → Prop} {W : Wd} {σ : St} {s : Shared} {as : PEs} {vs : List Expr} {f : Value} {Qv : List V → St → Prop} {Q : Args → Shared → Prop} (has : SEs X n sc as vs) (ok : EnvOk X A env Pv n sc) (at_ : At X env Pv W σ s) (h : wpEs X.P (CW X.P n) as σ Qv)
    (hq : ∀ cvs avs W' σ' s', Tf X env Pv W σ s W' σ' s' → VRs X W' cvs avs → Qv avs σ' → Q ⟨cvs, []⟩ s') :
    wpAny (model X.prog X.w) A (evalArgs f true (vs.map fun e => (false, eval e env)) []) Q noEx s :=
  evalArgs_all plain_all (wpAny_mono (has A env Pv W σ s _ ok at_ h) (fun cvs s' q => q.e fun W' σ' T q => q.e fun avs hv h => hq cvs avs W' σ' s' T hv h) fun _ _ x => x)

theorem Go.from {α : Type} {env : Env} {Pv : Addr → Prop} {W W' : Wd} {σ σ' : St} {s s' s'' : Shared} {R : α → Wd → St → Shared → Prop} {a : α} (T : Tf X env Pv W σ s W' σ' s') (q : Go X env Pv W' σ' s' R a s'') : Go X env Pv W σ s R a s'' := q.e fun W₂ σ₂ T₂ r => ⟨W₂, σ₂, T.trans T₂, r⟩
/-- a call of a def of the text's -/
theorem fn_call (hK : CallM X n) {A : Around} {env : Env} {Pv : Addr → Prop} {W W₀ : Wd} {σ σ₀ : St} {s s₀ : Shared} {fz : Bool} {k : Nat} {a : Addr} {cvs : List Value} {avs : List V} {Q : V → St → Prop} (T₀ : Tf X env Pv W₀ σ₀ s₀ W σ s) (ok : AOk A n) (hq : A.handled = none) (hv : VRs X W cvs avs) (ha : X.fnA k = some a)
    (h : CW X.P n k avs σ.H (fun v H => giveV fz (σ.setH H) Q v)) :
    wpAny (model X.prog X.w) A (call (.ref a) cvs []) (Go X env Pv W₀ σ₀ s₀ (VQ X Q)) noEx s := by
  refine wpAny_call (codeAny_mono (hK A k a avs cvs W σ.H s _ ok hq T₀.at_.rel hv ha h) fun r s' hr => ?_)
  cases r with
  | ok fl =>
    cases fl with
    | ret v =>
      obtain ⟨W', H', av, T, hv', g⟩ := hr
      exact giveV_ok (σ := σ.setH H') T.rel hv' g fun W₂ H₂ av₂ T₂ hv₂ hq => ⟨W₂, ⟨H₂, σ.loc⟩, T₀.trans ((T.trans T₂).tf T₀.at_), av₂, hv₂, hq⟩
    | _ => exact hr.elim
  | error e => exact hr.elim

inductive BvC (b : B) : Prop
  | ty (T : String) (e : bval b = .type T)
  | fn (id : String) (e : bval b = .builtin id)
theorem bval_cases (b : B) : BvC b := by
  cases b <;> first | exact .ty _ rfl | exact .fn _ rfl

theorem callW_fail {A : Around} {M : Model} {E : Value → Shared → Prop} {s : Shared} {pos : Pos} {f : Value} {first : List Value} {args : List (Bool × Sem Value)} {Q : Value → Shared → Prop} (h : wpAny M A (evalArgs f true args []) (fun _ _ => False) E s) :
    wpAny M A (callWith pos f first args []) Q E s := by
  unfold callWith
  exact wpAny_bind (wpAny_holding (wpAny_mono h (fun _ _ h₁ => h₁.elim) fun _ _ x => x))

theorem eval_Call_Name (x : Str) (p : Pos) (args : List Expr) (pos : Pos) (env : Env) : eval (.Call (.Name x p) args [] pos) env = (eval (.Name x p) env >>= fun f => callWith pos f [] (backTo pos (starEach args env)) []) := rfl

/-- what may be called -/
theorem callee_e {W : Wd} {cf : Value} {g : V} {P : Prog} {K : CT} {fz : Bool} {Q : V → St → Prop} {G : Prop} (hg : VR X W cf g) (hb : ∀ b, g = .bt b → cf = bval b → G) (hf : ∀ k a, g = .fn k → cf = .ref a → X.fnA k = some a → G) (hc : ∀ k a, g = .cls k → cf = .ref a → X.clA k = some a → G)
    (no : (∀ σ as, callF P K fz σ g as Q → False) → G) : G := by
  cases hg with
  | bt b => exact hb b rfl rfl
  | fn ha => exact hf _ _ rfl rfl ha
  | cls ha => exact hc _ _ rfl rfl ha
  | _ => exact no fun _ _ q => q
theorem call_rest (K : CxOk X) (hK : CallM X n) {A : Around} {env : Env} {Pv : Addr → Prop} {W : Wd} {σ : St} {s : Shared} {Q : V → St → Prop} {fz : Bool} {as : PEs} {vs : List Expr} {pos : Pos} {cf : Value} {g : V} (ok : EnvOk X A env Pv n sc) (at₁ : At X env Pv W σ s) (has : SEs X n sc as vs) (hg : VR X W cf g)
    (h₁ : wpEs X.P (CW X.P n) as σ fun vs σ₂ => callF X.P (CW X.P n) fz σ₂ g vs Q)
    (hcls : ∀ k a, g = .cls k → cf = .ref a → X.clA k = some a → Ew X A env Pv (callWith pos cf [] (vs.map fun e => (false, eval e env)) []) W σ s (VQ X Q)) : Ew X A env Pv (callWith pos cf [] (vs.map fun e => (false, eval e env)) []) W σ s (VQ X Q) := by
  refine callee_e (P := X.P) (K := CW X.P n) (fz := fz) (Q := Q) hg (fun b e e' => ?_) (fun k a e e' ha => ?_) hcls fun hb => callW_fail (args_then has ok at₁ h₁ fun cvs avs W' σ' s' T hv hq => hb _ _ hq)
  · subst e e'
    have key : ∀ cvs avs W' σ' s', Tf X env Pv W σ s W' σ' s' → VRs X W' cvs avs → callF X.P (CW X.P n) fz σ' (.bt b) avs Q →
        wpAny (model X.prog X.w) A (call (bval b) cvs []) (Go X env Pv W σ s (VQ X Q)) noEx s' := fun cvs avs W' σ' s' T hv hq' =>
      callB_ok (OpQ.from (A := A) T) ok.hh T.at_.rel hv hq'
    cases bval_cases b with
    | ty T e => rw [e] at key ⊢; exact PyProof.Rows.callWith_type plain_any (args_then has ok at₁ h₁ key)
    | fn id e => rw [e] at key ⊢; exact callWith_builtin plain_any (args_then has ok at₁ h₁ key)
  · subst e e'
    obtain ⟨o, fd, ho, hd⟩ := K.fnAt _ _ ha
    exact callWith_function (o := o) (fd := fd) (args_then has ok at₁ h₁ fun cvs avs W' σ' s' T hv hq' => ⟨⟨T.at_.rel.bkeep _ _ ho, hd⟩, fn_call hK T ok.ok.call ok.hh hv ha hq'⟩)
theorem base_plain {o : Expr} {a : Str} {env : Env} {t : Sem Value} (h : notSuper o = true) : attributeBase o a env t = t := by
  cases o with
  | Call f l kw p =>
    cases f with
    | Name x p =>
      cases l with
      | nil => cases kw with
        | nil => cases h
        | cons _ _ => rfl
      | cons _ _ => rfl
    | _ => rfl
  | _ => rfl
theorem form_plain {env : Env} {vs : List Expr} {pos : Pos} (h : vs.length ≤ 20) : methodCallForm (vs.length + ([] : List Keyword).length) (vs.map fun e => ((false : Bool), eval e env)) (backToKw pos (keywordEach [] env)) = true := by
  unfold methodCallForm
  have : ((vs.map fun e => ((false : Bool), eval e env)).all (!·.1)) = true := by
    rw [List.all_eq_true]
    intro t ht
    rw [plain_all t ht]; rfl
  rw [this]
  exact decide_eq_true (p := vs.length + 0 + 0 < 30) (Nat.lt_of_le_of_lt h (by decide))
end
end Mine

end

section
set_option autoImplicit false
set_option linter.all false
set_option genSizeOf false
set_option genInjectivity false
namespace Mine
open PySem PySem.W PySem.Calls PyProof.Rows
section
variable {X : Cx} {n : Nat} {sc : Scope}
theorem srt_down {a b : List Int} (h : a.Perm b) (ha : Ordered true a) : a = (srt b).reverse := by
  have ha : a.Pairwise (· ≥ ·) := ha
  have := srt_uniq ((List.reverse_perm a).trans h) (List.pairwise_reverse.mpr ha)
  rw [← this, List.reverse_reverse]
theorem isSrt_e {g : V} (h : isSrt g = true) : g = .bt .sorted := by
  cases g with
  | bt b => cases b <;> first | rfl | (cases h; done)
  | _ => cases h
theorem snd_srv (K : CxOk X) {c : Nat → Str} {fz : Bool} {i k : Nat} {a : PE} {x : Str} {p p' kp pos : Pos} {y : Expr} (hf : SE X n sc (.glob i) (.Name x p)) (ha : SE X n sc a y) (hc : chkE c sc a y = true) : SE X n sc (.sortedRev fz i a) (.Call (.Name x p) [y] [⟨some (Str.ofString "reverse"), .Constant (.bool true) k p', kp⟩] pos) := by
  intro A env Pv W σ s Q ok at_ h
  refine need_e h fun g hg h => ?_
  cases isSrt_e h.1
  refine wpAny_Call_Name_kw ?_
  refine wpAny_mono (hf A env Pv W σ s (fun v σ₁ => v = .bt .sorted ∧ σ₁ = σ) ok at_ (need_i hg ⟨rfl, rfl⟩)) (fun cf s₁ q => q.e fun W₁ σ₁ T₁ q => q.e fun v hv q => ?_) fun _ _ z => z
  obtain ⟨rfl, rfl⟩ := q
  cases hv
  have hc' : chkEs c sc (.cons a .nil) [y] = true := by show (chkE c sc a y && true) = true; rw [hc]; rfl
  rw [back_plain hc']
  show wpAny _ A (callWith pos (.builtin "sorted") [] _ _) _ _ _
  refine callWith_builtin_kwB rfl rfl ?_
  refine evalArgs_kwB rfl ?_
  refine spliced_cons ?_
  refine wpAny_mono (ha A env Pv W₁ σ₁ s₁ _ ok T₁.at_ h.2) (fun v s₂ q => q.e fun W₂ σ₂ T₂ q => q.e fun z hz h => spliced_nil ?_) fun _ _ z => z
  refine kws_cons ?_
  refine wpAny_pure ?_
  refine kws_nil ?_
  have T := T₁.trans T₂
  refine need_e h fun y ey e => need_e e fun xs ex e => need_e e fun is ei e => ?_
  obtain ⟨l, vs, m, rfl, g, r, q, z⟩ := (see_ok T.at_.rel hz ey).toLst ex
  have I := ints_are r ei
  refine sorted_ints_rev (vs := vs.toList) (b := true) (by simpa using isList_of g) I (by rw [I.length]; exact e.1) fun out ns' ho hp hs => ?_
  rw [srt_down hp hs] at ho
  exact (sortedAll_at s₂.heap vs.toList out).elim fun c hc => (OpQ.from (A := A) T).list T.at_.rel (of_ints ho) (fun _ _ q => sortedAll_old q) (Heap.get?_none_of_le (Nat.le_succ _)) hc e.2
end
end Mine

end

section
set_option autoImplicit false
set_option linter.all false
set_option genSizeOf false
set_option genInjectivity false
namespace Mine
open PySem PySem.W PySem.Calls PyProof.Rows

section
variable {X : Cx} {n : Nat} {sc : Scope}
theorem VRs.one_e {W : Wd} {vs : List Value} {x : V} {G : Prop} (h : VRs X W vs [x]) (g : ∀ v, vs = [v] → VR X W v x → G) : G := by
  cases h with | cons a b => cases b; exact g _ rfl a

section
variable {A : Around} {E : Value → Shared → Prop} {W : Wd} {H : Hp} {s : Shared} {i : Nat} {l : Addr × Addr} {xs : List V} {Q : Value → Shared → Prop} (R : RelH X W H s.heap) (hi : H.get i = some (.list xs)) (hl : W.φ i = some l)
include R hi hl
/-- a list's items are others now -/
theorem RelH.lset {ys : List V} {h' : Heap} {vs' : Array Value} {k' tk : Nat} (he : l.2 = l.1) (hk : ∀ b ob, s.heap.get? b = some ob → b ≠ l.1 → h'.get? b = some ob) (ha : h'.get? l.1 = some (lstO vs' k')) (hv : VRs X W vs'.toList ys) (hz : ys.length ≤ SZ) : Tc X W H s W (H.set i (.list ys)) { s with heap := h', toks := tk } :=
  let ⟨r, t⟩ := R.upd (h' := h') (c' := .list ys) hi hl (fun b ob e n1 _ => hk b ob e n1) ⟨vs', k', ha, hv, he, hz⟩
  ⟨t, r, ⟨rfl, rfl, rfl⟩⟩
theorem append_ok {v : Value} {x : V} (hv : VR X W v x) (hz : xs.length < SZ)
    (h : ∀ s', Tc X W H s W (H.set i (.list (xs ++ [x]))) s' → Q .none s') : wpAny (model X.prog X.w) A (call (.builtin "list.append") [.ref l.1, v]) Q E s := by
  obtain ⟨vs, k, hg, hvs, he, _⟩ := R.at_ hi hl
  exact append_at hg (fun h' hs ha => h _ (R.lset (tk := s.toks) hi hl he (fun b ob e n1 => (hs.2 b n1).trans e) ha (by rw [Array.toList_push]; exact hvs.append (.cons hv .nil)) (by rw [List.length_append]; exact hz))) (by rw [hvs.toArr]; exact szLine (Nat.le_of_lt hz))
theorem pop_ok {k : Int} {t : Tok} {j : Nat} {x : V} (hj : pyIdx k xs.length = some j) (hx : xs[j]? = some x)
    (h : ∀ v s', Tc X W H s W (H.set i (.list (xs.take j ++ xs.drop (j + 1)))) s' → VR X W v x → Q v s') : wpAny (model X.prog X.w) A (call (.builtin "list.pop") [.ref l.1, .int k t]) Q E s := by
  obtain ⟨vs, m, hg, hvs, he, hz⟩ := R.at_ hi hl
  have z := hvs.toArr
  obtain ⟨v, hv, hr⟩ := arr_get hvs hx
  have hfit : Builtin.List.listFitsIndex k = true := by
    have := pyIdx_63 hj hz
    unfold Builtin.List.listFitsIndex
    rw [decide_eq_true (Int.le_trans (by decide) (pyIdx_pos hj).1), decide_eq_true this]; rfl
  refine call_meets F.slot_list_pop ⟨_, hg, rfl⟩ F.entry_list_pop (F.args_list_pop_2 _ _) (MeetsSeq.list_pop_at l.1 vs m k t j v hfit (by rw [z]; exact pyIdx_seq hj) hv (by rw [z]; exact szLine hz)) ⟨hg, h v _ ?_ hr⟩
  refine R.lset hi hl he (fun b ob q n1 => (Heap.get?_update_other _ _ (Ne.symm n1)).trans q) (Heap.get?_update_self _ hg rfl) ?_ ?_
  · show VRs X W (vs.eraseIdxIfInBounds j).toList _
    rw [Array.toList_eraseIdxIfInBounds, List.eraseIdx_eq_take_drop_succ]
    exact (hvs.take j).append (hvs.drop (j + 1))
  · have := (List.getElem?_eq_some_iff.mp hx).1
    rw [List.length_append, List.length_take, List.length_drop]; omega
end

section
variable {A : Around} {env : Env} {Pv : Addr → Prop} {W : Wd} {σ : St} {s : Shared} {m : Nat} {as : PEs} {v : Expr} {ap pos : Pos} {vs : List Expr}
/-- the call of a method, behind its object -/
abbrev mcall (X : Cx) (env : Env) (m : Nat) (v : Expr) (ap pos : Pos) (vs : List Expr) (a : Addr) : Sem Value := methodCall v (X.nm m) ap pos env (.ref a) (vs.length + ([] : List Keyword).length) (vs.map fun e => (false, eval e env)) (backToKw pos (keywordEach [] env))
/-- a built-in type's method -/
theorem meth_bi {T id : String} {a : Addr} {ob : Obj} {Q : V → St → Prop} {Qv : List V → St → Prop} (ok : EnvOk X A env Pv n sc) (at_ : At X env Pv W σ s) (has : SEs X n sc as vs) (hlen : vs.length ≤ 20) (hline : (ap.endLine == pos.line) = true)
    (pa : PlainAttrs T) (slot : Slot T (X.nm m) id) (hty : typeOf (.builtin id) = pure (.type "method_descriptor")) (hg : s.heap.get? a = some ob) (hT : s.TypeIs (.ref a) T) (hd : ob.dict = none) (h : wpEs X.P (CW X.P n) as σ Qv)
    (hcall : ∀ cvs avs W' σ' s', Tf X env Pv W σ s W' σ' s' → VRs X W' cvs avs → Qv avs σ' → wpAny (model X.prog X.w) A (call (.builtin id) ([.ref a] ++ cvs) []) (Go X env Pv W σ s (VQ X Q)) noEx s') :
    Ew X A env Pv (mcall X env m v ap pos vs a) W σ s (VQ X Q) := by
  have hpos : methodCallPos true v env ap pos = pure pos := by unfold methodCallPos; simp [hline]
  unfold mcall methodCall
  rw [form_plain hlen]
  exact wpAny_bind (wpAny_holding (getMethod_builtin hT pa slot hty (fun b e => by cases e; exact ⟨ob, hg, hd⟩) (wpAny_bind (wpAny_of_eq hpos (callWith_builtin plain_any (args_then has ok at_ h hcall))))))
theorem Br_t {b : Bool} {t e : Prop} (h : Br b t e) (q : b = true) : t := by subst q; exact h
theorem Br_f {b : Bool} {t e : Prop} (h : Br b t e) (q : b = false) : e := by subst q; exact h
theorem nb_ne {X : Cx} (K : CxOk X) {m k : Nat} {a b : Str} (ha : X.nm m = a) (hb : X.nm k = b) (hn : a ≠ b) : Nat.beq m k = false := by
  cases q : Nat.beq m k with
  | false => rfl
  | true => have := Nat.eq_of_beq_eq_true q; subst this; exact absurd (ha.symm.trans hb) hn
theorem nm_of {X : Cx} {m k : Nat} {a : Str} (h : Nat.beq m k = true) (e : X.nm k = a) : X.nm m = a := by
  rw [Nat.eq_of_beq_eq_true h]; exact e
theorem meth_list (K : CxOk X) {Q : V → St → Prop} {i : Nat} {l : Addr × Addr} {xs : List V} (ok : EnvOk X A env Pv n sc) (at_ : At X env Pv W σ s) (has : SEs X n sc as vs) (hlen : vs.length ≤ 20) (hline : (ap.endLine == pos.line) = true) (hl : W.φ i = some l) (hgi : σ.H.get i = some (.list xs))
    (h : Nd ((Nat.beq m X.P.nAppend || Nat.beq m X.P.nPop) = true) (wpEs X.P (CW X.P n) as σ fun vs σ₂ => need (cL (σ₂.H.get i)) fun xs => methL X.P σ₂ i m vs xs Q)) :
    Ew X A env Pv (mcall X env m v ap pos vs l.1) W σ s (VQ X Q) := by
  obtain ⟨ws, k, hg, hvs, he, hz⟩ := at_.rel.at_ hgi hl
  have fin : ∀ {W₂ : Wd} {σ₂ : St} {s₂ s' : Shared} {H' : Hp} {v : Value} {x : V}, Tf X env Pv W σ s W₂ σ₂ s₂ → Tc X W₂ σ₂.H s₂ W₂ H' s' → VR X W₂ v x → Q x (σ₂.setH H') → Go X env Pv W σ s (VQ X Q) v s' := fun T T' r q => ⟨_, _, T.trans (T'.tf T.at_), _, r, q⟩
  refine (Bool.or_eq_true_iff.mp h.1).elim (fun hA => ?_) fun hP => ?_
  · have e := nm_of hA K.nAppend
    refine meth_bi ok at_ has hlen hline F.plainAttrs_list (e ▸ F.slot_list_append) F.type_list_append hg ⟨_, hg, rfl⟩ rfl h.2 fun cvs avs W₂ σ₂ s₂ T hv hq => need_e hq fun ys ey hq => need_e hq fun a ea hq => ?_
    have hq := Br_t hq hA
    rw [one_ok ea] at hv
    exact hv.one_e fun cv ec hcv => by
      subst ec
      exact append_ok T.at_.rel (cL_e ey) (T.stp.le.ff _ _ hl) hcv hq.1 fun s' T' => fin T T' .none hq.2
  · have e := nm_of hP K.nPop
    refine meth_bi ok at_ has hlen hline F.plainAttrs_list (e ▸ F.slot_list_pop) F.type_list_pop hg ⟨_, hg, rfl⟩ rfl h.2 fun cvs avs W₂ σ₂ s₂ T hv hq => need_e hq fun ys ey hq => need_e hq fun a ea hq => ?_
    have hq := Br_f hq (nb_ne K e K.nAppend (by decide +kernel))
    rw [one_ok ea] at hv
    exact hv.one_e fun cv ec hcv => need_e hq fun kk ek hq => need_e hq fun j hj hq => need_e hq fun x hx hq => aInt_of hcv ek fun t et => by
      subst ec et
      exact pop_ok T.at_.rel (cL_e ey) (T.stp.le.ff _ _ hl) hj hx fun v s' T' hv => fin T T' hv hq
theorem DGv.get {o : Option Value} {p : Option V} {v : Value} {x : V} {W : Wd} (h : DGv X W o p) (hv : VR X W v x) : VR X W (o.getD v) (p.getD x) := by
  cases h with
  | none => exact hv
  | some r => exact r
theorem meth_dict (K : CxOk X) {Q : V → St → Prop} {i : Nat} {l : Addr × Addr} {xs : List (V × V)} (ok : EnvOk X A env Pv n sc) (at_ : At X env Pv W σ s) (has : SEs X n sc as vs) (hlen : vs.length ≤ 20) (hline : (ap.endLine == pos.line) = true) (hl : W.φ i = some l) (hgi : σ.H.get i = some (.dict xs))
    (h : Nd (Nat.beq m X.P.nGet = true) (wpEs X.P (CW X.P n) as σ fun vs σ₂ => need (cD (σ₂.H.get i)) fun xs => methD X.P σ₂ i m vs xs Q)) :
    Ew X A env Pv (mcall X env m v ap pos vs l.1) W σ s (VQ X Q) := by
  obtain ⟨es0, d0, _⟩ := at_.rel.at_ hgi hl
  obtain ⟨ob, _, _, hg, ex, _⟩ := d0
  have e := nm_of h.1 K.nGet
  refine meth_bi ok at_ has hlen hline F.plainAttrs_dict (e ▸ F.slot_dict_get) F.type_dict_get hg ⟨ob, hg, ex.1⟩ ex.2.1 h.2 fun cvs avs W₂ σ₂ s₂ T hv hq => need_e hq fun ys ey hq => need_e hq fun t et hq => ?_
  obtain ⟨es, d, r, _, ne, _⟩ := T.at_.rel.at_ (cD_e ey) (T.stp.le.ff _ _ hl)
  have fin : ∀ {w : Value} {x : V}, VR X W₂ w x → Q x σ₂ → Go X env Pv W σ s (VQ X Q) w { s₂ with toks := s₂.toks + 1 } := fun r q => Go.from T (T.at_.val r q)
  cases hv with
  | nil => cases et
  | cons a b =>
    cases b with
    | nil =>
      cases et
      refine key_e a hq.1 fun j tk e1 e2 => ?_
      subst e1 e2
      exact call_meetsIn F.slot_dict_get d.typeIs F.entry_dict_get (F.args_dict_get_2 _ _) (meets_dict_get (intKind X.prog X.w) l.1 (intKind_is _ _ j tk) ne) ⟨_, d.mapOf, fin (DGv.get (r.val (i := j)) .none) hq.2⟩
    | cons b c =>
      cases c with
      | nil =>
        cases et
        refine key_e a hq.1 fun j tk e1 e2 => ?_
        subst e1 e2
        exact call_meetsIn F.slot_dict_get d.typeIs F.entry_dict_get (F.args_dict_get_3 _ _ _) (meets_dict_get_default (intKind X.prog X.w) l.1 (intKind_is _ _ j tk) ne _) ⟨_, d.mapOf, fin (DGv.get (r.val (i := j)) b) hq.2⟩
      | cons _ _ => cases et
end
theorem snd_meth (K : CxOk X) {c : Nat → Str} {fz : Bool} {o : PE} {m : Nat} {as : PEs} {v : Expr} {ap pos : Pos} {vs : List Expr} (ho : SE X n sc o v) (has : SEs X n sc as vs) (hc : chkEs c sc as vs = true) (hns : notSuper v = true) (hlen : vs.length ≤ 20) (hline : (ap.endLine == pos.line) = true)
    (hinst : ∀ (A : Around) (env : Env) (Pv : Addr → Prop) (W : Wd) (σ : St) (s : Shared) (Q : V → St → Prop) (i : Nat) (l : Addr × Addr) (k : Nat) (fs : List (Nat × V)), EnvOk X A env Pv n sc → At X env Pv W σ s → W.φ i = some l → σ.H.get i = some (.inst k fs) →
      (need (X.P.cls k) fun c => need (lk c.meths m) fun f => wpEs X.P (CW X.P n) as σ fun vs σ₂ => callF X.P (CW X.P n) fz σ₂ (.fn f) (.ref i :: vs) Q) →
      Ew X A env Pv (mcall X env m v ap pos vs l.1) W σ s (VQ X Q)) :
    SE X n sc (.meth fz o m as) (.Call (.Attribute v (X.nm m) ap) vs [] pos) := by
  intro A env Pv W σ s Q ok at_ h
  rw [arm_eval_Call, base_plain hns, back_plain hc]
  refine ho.bind ok at_ h fun cf W₁ σ₁ s₁ g at₁ _ hg h₁ => Ew.standAt (need_e h₁ fun i ei h₁ => aRef_e hg ei fun l e hl _ => ?_)
  subst e
  cases hgi : σ₁.H.get i with
  | none => rw [hgi] at h₁; exact h₁.elim
  | some c =>
    rw [hgi] at h₁
    cases c with
    | inst k fs => exact hinst A env Pv W₁ σ₁ s₁ Q i l k fs ok at₁ hl hgi h₁
    | dict _ => exact meth_dict K ok at₁ has hlen hline hl hgi h₁
    | list xs => exact meth_list K ok at₁ has hlen hline hl hgi h₁
end
end Mine

end

section
set_option autoImplicit false
set_option linter.all false
set_option genSizeOf false
set_option genInjectivity false
namespace Mine
open PySem PySem.Calls PyProof.Rows

noncomputable def isL : V → Bool
  | .lst _ => true
  | .ref _ => true
  | _ => false
theorem isL_see {H : Hp} {v : V} {xs : List V} (q : isL v = true) (h : items H v = some xs) : see H v = some (.lst xs) := by
  cases v with
  | lst ys => exact congrArg (some ∘ V.lst) (Option.some.inj h)
  | ref i => show mL (cL (H.get i)) = _; rw [show cL (H.get i) = some xs from h]; rfl
  | _ => cases q
/-- the iterator at I stands at place k of what v holds -/
inductive ItAt (X : Cx) (W : Wd) (h : Heap) (I : Addr) (v : V) (k : Nat) : Prop
  | lst (a : Addr) (r : VR X W (.ref a) v) (q : isL v = true) (it : h.IsListIter I a k)
  | rng (b : Int) (e : v = .rng b) (it : IsRangeIter h I (k : Nat) ((b.toNat : Int) - (k : Nat)) 1)

section
variable {X : Cx} {A : Around} {E : Value → Shared → Prop} {W : Wd} {H : Hp} {s : Shared}

theorem ItAt.keep {W' : Wd} {h h' : Heap} {I : Addr} {v : V} {k : Nat} (it : ItAt X W h I v k) (le : Wd.Le W W') (hk : ∀ o, h.get? I = some o → h'.get? I = some o) : ItAt X W' h' I v k := by
  cases it with
  | lst a r q it => obtain ⟨o, ho, hc, hd⟩ := it; exact .lst a (r.le le) q ⟨o, hk o ho, hc, hd⟩
  | rng b e it => exact .rng b e (hk _ it)
theorem ItAt.there {h : Heap} {I : Addr} {v : V} {k : Nat} (it : ItAt X W h I v k) : ∃ o, h.get? I = some o := by
  cases it with
  | lst a r q it => exact it.elim fun o q => ⟨o, q.1⟩
  | rng b e it => exact ⟨_, it⟩

theorem iter_ok {cv : Value} {v : V} {xs : List V} {Q : Value → Shared → Prop} (R : RelH X W H s.heap) (hv : VR X W cv v) (hi : items H v = some xs)
    (h : ∀ o, o.isFreed = false → ItAt X W (s.heap.push o) s.heap.objs.size v 0 → Q (.ref s.heap.objs.size) { s with heap := s.heap.push o }) : wpAny (model X.prog X.w) A (pyIter cv) Q E s := by
  have lst : isL v = true → wpAny (model X.prog X.w) A (pyIter cv) Q E s := fun q => by
    obtain ⟨a, vs, n, rfl, hg, r, _, _⟩ := (see_ok R hv (isL_see q hi)).toLst rfl
    exact wpAny_pyIter_list (items := vs) (isList_of hg) (h _ rfl (.lst a hv q ⟨_, Heap.get?_push_size _ rfl, rfl, rfl⟩))
  cases v with
  | lst ys => exact lst rfl
  | ref i => exact lst rfl
  | rng b =>
    cases hv with
    | rng z hb =>
      refine wpAny_pyIter_range (R.z _ _ z) (rng_small hb) (h _ rfl (.rng b rfl ?_))
      rw [rng_size, show (b.toNat : Int) - ((0 : Nat) : Int) = b.toNat from Int.sub_zero _]
      exact Heap.get?_push_size _ rfl
  | _ => cases hi

theorem next_item {I : Addr} {v x : V} {xs : List V} {k : Nat} {Q : Option Value → Shared → Prop} (R : RelH X W H s.heap) (it : ItAt X W s.heap I v k) (hi : items H v = some xs) (hx : xs[k]? = some x)
    (h : ∀ cv h' tk, VR X W cv x → ItAt X W h' I v (k + 1) → Heap.ExtBut I s.heap h' → Q (some cv) { s with heap := h', toks := tk }) : wpAny (model X.prog X.w) A (pyNext (.ref I)) Q E s := by
  cases it with
  | lst a r q it =>
    obtain ⟨a', vs, n, e, hg, rs, _, _⟩ := (see_ok R r (isL_see q hi)).toLst rfl
    cases e
    exact (arr_get rs hx).elim fun cv z => wpAny_pyNext_list_item it (items := vs) (isList_of hg) z.1 fun h' hit' hs => h cv h' s.toks z.2 (.lst a r q hit') hs.extBut
  | rng b e it =>
    subst e
    have e : rngL 0 b.toNat = xs := Option.some.inj hi
    have hk : k < b.toNat := by
      have := (List.getElem?_eq_some_iff.mp hx).1
      rw [← e, rngL_length] at this; exact this
    rw [← e, rngL_get _ 0 k hk, Int.zero_add] at hx
    cases hx
    refine wpAny_pyNext_range_item it (by omega) fun h' hit' hs => h _ h' _ (.int _ _) (.rng b rfl ?_) hs.extBut
    rw [Int.natCast_succ, ← Int.sub_sub]; exact hit'

theorem next_end {I : Addr} {v : V} {xs : List V} {Q : Option Value → Shared → Prop} (hh : A.handled = none) (R : RelH X W H s.heap) (it : ItAt X W s.heap I v xs.length) (hi : items H v = some xs)
    (h : ∀ h', Heap.ExtBut I s.heap h' → Q none { s with heap := h' }) : wpAny (model X.prog X.w) A (pyNext (.ref I)) Q E s := by
  have no : ∀ vs : Array Value, vs.size = xs.length → vs[xs.length]? = none := fun vs z => by rw [← z]; exact Array.getElem?_eq_none (Nat.le_refl _)
  cases it with
  | lst a r q it =>
    obtain ⟨a', vs, n, e, hg, rs, _, z⟩ := (see_ok R r (isL_see q hi)).toLst rfl
    cases e
    exact wpAny_pyNext_list_end hh it (items := vs) (isList_of hg) (no vs z) h
  | rng b e it =>
    subst e
    have hk : xs.length = b.toNat := by rw [← (Option.some.inj hi : rngL 0 b.toNat = xs), rngL_length]
    exact wpAny_pyNext_range_end hh it (by rw [hk]; omega) h

/-- an object of no one's: an iterator, a list in the making -/
structure Lone (X : Cx) (env : Env) (Pv : Addr → Prop) (W : Wd) (H : Hp) (h : Heap) (I : Addr) : Prop where
  own : ¬ Own W H I
  z : W.Z I = none
  pv : ¬ Pv I
  cell : ∀ x c, env.cells.lookup x = some c → c ≠ I
  at_ : ∃ o, h.get? I = some o
theorem Lone.step {env : Env} {Pv : Addr → Prop} {Pv' : Addr → Prop} {W' : Wd} {H' : Hp} {h h' : Heap} {I : Addr} (L : Lone X env Pv W H h I) (S : Stp Pv' W H h W' H' h') : Lone X env Pv W' H' h' I := by
  obtain ⟨o, e⟩ := L.at_
  refine ⟨S.own I o e L.own, ?_, L.pv, L.cell, S.there I o e⟩
  cases q : W'.Z I with
  | none => rfl
  | some ob =>
    rcases S.znew I ob q with r | r | r
    · rw [L.z] at r; cases r
    · exact absurd r L.own
    · rw [e] at r; cases r
theorem Lone.keep {env : Env} {Pv : Addr → Prop} {W' : Wd} {H' : Hp} {h h' : Heap} {I : Addr} (L : Lone X env Pv W H h I) (S : Stp Pv W H h W' H' h') : ∀ o, h.get? I = some o → h'.get? I = some o := fun o e => S.keep I o e L.own L.pv
/-- a lone object is changed, others are made -/
theorem At.poke {env : Env} {Pv : Addr → Prop} {σ : St} {I : Addr} {h' : Heap} {tk : Nat} (a : At X env Pv W σ s) (L : Lone X env Pv W σ.H s.heap I) (hs : Heap.ExtBut I s.heap h') : At X env Pv W σ { s with heap := h', toks := tk } := by
  refine ⟨a.rel.quiet (Pv := fun b => b = I) (fun b o e n => hs b o n e) (fun b e => by subst e; exact ⟨L.own, L.z⟩), ?_⟩
  have F := a.fr
  have nl : env.locals ≠ I := fun e => L.pv (e ▸ F.pvL)
  refine ⟨?_, fun i v e k => ?_, fun x ef e => ?_, F.cellEq, fun x c e => ?_, F.pvL, F.priv, fun b p => ?_⟩
  · obtain ⟨m, hn, hm⟩ := F.ns
    exact ⟨m, hn.extBut hs nl, hm⟩
  · obtain ⟨c, cv, q, ⟨o, ho, hd⟩, r⟩ := F.cells i v e k
    exact ⟨c, cv, q, ⟨o, hs c o (L.cell _ _ q) ho, hd⟩, r⟩
  · obtain ⟨c, cv, q, ⟨o, ho, hd⟩, r⟩ := F.hasCell x ef e
    exact ⟨c, cv, q, ⟨o, hs c o (L.cell _ _ q) ho, hd⟩, r⟩
  · obtain ⟨p, q, o, ho⟩ := F.cellNs x c e
    exact ⟨p, q, o, hs c o (L.cell _ _ e) ho⟩
  · obtain ⟨o, ho⟩ := F.pvAt b p
    exact ⟨o, hs b o (fun e => L.pv (e ▸ p)) ho⟩
/-- seen from before the object was made -/
theorem Stp.poke {Pv : Addr → Prop} {W' : Wd} {H' : Hp} {h h' h'' : Heap} {I : Addr} (S : Stp Pv W H h W' H' h') (hn : h.get? I = none) (hs : Heap.ExtBut I h' h'') : Stp Pv W H h W' H' h'' where
  le := S.le
  keep := fun x o e n p => hs x o (fun z => by subst z; rw [hn] at e; cases e) (S.keep x o e n p)
  own := S.own
  znew := S.znew
  there := fun x o e => (S.there x o e).elim fun o' e' => ⟨o', hs x o' (fun z => by subst z; rw [hn] at e; cases e) e'⟩
theorem Tf.poke {env : Env} {Pv : Addr → Prop} {σ σ' : St} {W' : Wd} {s' : Shared} {I : Addr} {h'' : Heap} {tk : Nat} (T : Tf X env Pv W σ s W' σ' s') (hn : s.heap.get? I = none) (L : Lone X env Pv W' σ'.H s'.heap I) (hs : Heap.ExtBut I s'.heap h'') : Tf X env Pv W σ s W' σ' { s' with heap := h'', toks := tk } :=
  ⟨T.stp.poke hn hs, T.at_.poke L hs, ⟨T.rest.gens, T.rest.drawn, T.rest.os⟩⟩
/-- a new object of no one's -/
theorem Lone.new {env : Env} {Pv : Addr → Prop} {σ : St} {h' : Heap} (a : At X env Pv W σ s) {I : Addr} (hn : s.heap.get? I = none) (hI : ∃ o, h'.get? I = some o) : Lone X env Pv W σ.H h' I := by
  have no : ∀ {o : Obj} {G : Prop}, s.heap.get? I = some o → G := fun e => by rw [hn] at e; cases e
  refine ⟨fun o => (a.rel.own_there o).elim fun _ e => no e, ?_, fun p => (a.fr.pvAt I p).elim fun _ e => no e, fun x c e q => ?_, hI⟩
  · cases q : W.Z I with
    | none => rfl
    | some o => exact no (a.rel.z _ _ q)
  · subst q
    exact (a.fr.cellNs x c e).2.2.elim fun _ e => no e
theorem Tf.push {env : Env} {Pv : Addr → Prop} {σ : St} {o : Obj} {tk : Nat} (a : At X env Pv W σ s) : Tf X env Pv W σ s W σ { s with heap := s.heap.push o, toks := tk } := by
  have hk : ∀ b ob, s.heap.get? b = some ob → (s.heap.push o).get? b = some ob := fun b ob e => Heap.get?_push_of_some _ e
  have S : Stp noPv W σ.H s.heap W σ.H (s.heap.push o) := .quiet (fun b ob e _ => hk b ob e) fun b ob e => ⟨ob, hk b ob e⟩
  exact ⟨S.mono fun _ z => z.elim, ⟨a.rel.quiet (Pv := noPv) (fun b ob e _ => hk b ob e) fun _ z => z.elim, a.fr.step S fun _ z => z.elim⟩, ⟨rfl, rfl, rfl⟩⟩
end
end Mine

end

section
set_option autoImplicit false
set_option linter.all false
set_option genSizeOf false
set_option genInjectivity false
namespace Mine
open PySem PySem.W PySem.Calls PyProof.Rows

inductive FR (X : Cx) (W : Wd) : PySem.Flow → Flow → Prop
  | next : FR X W .next .next
  | ret {v : Value} {x : V} : VR X W v x → FR X W (.ret v) (.ret x)
inductive FQ (X : Cx) (Q : Flow → St → Prop) (fl : PySem.Flow) (W' : Wd) (σ' : St) (s' : Shared) : Prop
  | mk (af : Flow) (r : FR X W' fl af) (h : Q af σ')

section
variable {X : Cx} {n : Nat} {sc : Scope}
theorem FQ.e {Q : Flow → St → Prop} {v : PySem.Flow} {W : Wd} {σ : St} {s : Shared} {G : Prop} (q : FQ X Q v W σ s) (g : ∀ x, FR X W v x → Q x σ → G) : G := by obtain ⟨x, r, h⟩ := q; exact g x r h

noncomputable def S1 (X : Cx) (n : Nat) (sc : Scope) (p : PS) (st : Stmt) : Prop := ∀ (A : Around) (env : Env) (Pv : Addr → Prop) (W : Wd) (σ : St) (s : Shared) (Q : Flow → St → Prop),
  EnvOk X A env Pv n sc → env.func ≠ none → At X env Pv W σ s → wpS X.P (CW X.P n) p σ Q → Ew X A env Pv (exec st env) W σ s (FQ X Q)
noncomputable def SS (X : Cx) (n : Nat) (sc : Scope) (p : PSs) (st : List Stmt) : Prop := ∀ (A : Around) (env : Env) (Pv : Addr → Prop) (W : Wd) (σ : St) (s : Shared) (Q : Flow → St → Prop),
  EnvOk X A env Pv n sc → env.func ≠ none → At X env Pv W σ s → wpSs X.P (CW X.P n) p σ Q → Ew X A env Pv (execs st env) W σ s (FQ X Q)

section
variable {A : Around} {env : Env} {Pv : Addr → Prop} {W : Wd} {σ : St} {s : Shared} {Ex : Value → Shared → Prop}
/-- an expression ahead of a statement's end -/
theorem SE.post {p : PE} {e : Expr} {Q : V → St → Prop} {R : Value → Shared → Prop} (he : SE X n sc p e) (ok : EnvOk X A env Pv n sc) (at_ : At X env Pv W σ s) (hw : wpE X.P (CW X.P n) p σ Q)
    (g : ∀ v W₁ σ₁ s₁ x, Tf X env Pv W σ s W₁ σ₁ s₁ → VR X W₁ v x → Q x σ₁ → R v s₁) : wpAny (model X.prog X.w) A (eval e env) R noEx s :=
  wpAny_mono (he A env Pv W σ s _ ok at_ hw) (fun v s₁ q => q.e fun W₁ σ₁ T q => q.e fun x r h => g v W₁ σ₁ s₁ x T r h) fun _ _ x => x
theorem Tf.flow {W' : Wd} {σ' : St} {s' : Shared} {Q : Flow → St → Prop} {fl : PySem.Flow} {af : Flow} (T : Tf X env Pv W σ s W' σ' s') (r : FR X W' fl af) (h : Q af σ') : Go X env Pv W σ s (FQ X Q) fl s' := ⟨W', σ', T, af, r, h⟩

theorem fn_hp (ok : EnvOk X A env Pv n sc) : (env.scope.kind == .class || (env.scope.kind == .module && env.locals != env.globals)) = false := by rw [ok.kind]; rfl
theorem kind_of {x : Str} {k : Nat} (ok : EnvOk X A env Pv n sc) (h : Nat.beq (knd sc x) k = true) (hk : k ≠ 0) (h3 : nkOf k ≠ .free) : env.kindOf x = some (nkOf k) :=
  (ok.names _ _ (knd_of (Nat.eq_of_beq_eq_true h) hk)).elim id fun z => absurd z.1 h3
theorem local_of {x : Str} (ok : EnvOk X A env Pv n sc) (h : kLocal sc x = true) : env.kindOf x = some .local := kind_of ok h (by decide) (by decide)

/-- a private object was changed -/
theorem store_tf {a : Addr} {h' : Heap} {loc' : Loc} {tk : Nat} (at_ : At X env Pv W σ s) (hp : Pv a) (hs : Heap.SameBut a s.heap h') (ha : ∃ o, h'.get? a = some o) (F : FrR X W σ.H h' env Pv loc') : Tf X env Pv W σ s W ⟨σ.H, loc'⟩ { s with heap := h', toks := tk } := by
  have hkp : ∀ b o, s.heap.get? b = some o → ¬ Pv b → h'.get? b = some o := fun b o e p => (hs.2 b fun q => p (q ▸ hp)).trans e
  refine ⟨.quiet hkp fun b o e => ?_, ⟨at_.rel.quiet hkp at_.fr.priv, F⟩, ⟨rfl, rfl, rfl⟩⟩
  by_cases hb : b = a
  · subst hb; exact ha
  · exact ⟨o, (hs.2 b hb).trans e⟩
theorem store_local {Q : Unit → Shared → Prop} {i : Nat} {cv : Value} {v : V} (K : CxOk X) (ok : EnvOk X A env Pv n sc) (at_ : At X env Pv W σ s) (hk : env.kindOf (X.nm i) = some .local) (hv : VR X W cv v)
    (h : ∀ s', Tf X env Pv W σ s W (σ.put i v) s' → Q () s') : wpAny (model X.prog X.w) A (storeName env (X.nm i) cv) Q Ex s := by
  obtain ⟨m, hn, hm⟩ := at_.fr.ns
  exact wpAny_storeName_local hk hn (fun h' hn' hs => h _ (store_tf at_ at_.fr.pvL hs (hn'.elim fun o q => ⟨o, q.elim fun _ q => q.elim fun _ q => q.1⟩) (at_.fr.storeL hn hm (fun j q => K.inj _ _ q) hk hv hn' hs))) (fn_hp ok)
theorem store_ok {Q : Unit → Shared → Prop} {i : Nat} {cv : Value} {v : V} (K : CxOk X) (ok : EnvOk X A env Pv n sc) (hf : env.func ≠ none) (at_ : At X env Pv W σ s) (hk : kStore sc (X.nm i) = true) (hv : VR X W cv v)
    (h : ∀ s', Tf X env Pv W σ s W (σ.put i v) s' → Q () s') : wpAny (model X.prog X.w) A (storeName env (X.nm i) cv) Q Ex s := by
  rcases Bool.or_eq_true_iff.mp hk with q | q
  · exact store_local K ok at_ (local_of ok q) hv h
  · have q : env.kindOf (X.nm i) = some .cell := kind_of ok q (by decide) (by decide)
    obtain ⟨c, v₀, hc, hi, hp⟩ := at_.fr.hasCell _ hf q
    exact wpAny_storeName_cell ok.kind q hc hi fun h' hi' hs => h _ (store_tf at_ hp hs (hi'.elim fun o q => ⟨o, q.1⟩) (at_.fr.storeC (fun j q => K.inj _ _ q) q hc hv hi' hs))
end

theorem fn_inter {A : Around} {env : Env} {Pv : Addr → Prop} (ok : EnvOk X A env Pv n sc) : interactive env = false := by unfold interactive; rw [ok.kind]; rfl
theorem snd_expr {e : PE} {x : Expr} {pos : Pos} (he : SE X n sc e x) (hx : tg x 14 = true) : S1 X n sc (.expr e) (.Expr x pos) := fun A env Pv W σ s Q ok hf at_ h =>
  wpAny_Expr_any (he.post ok at_ h fun v W₁ σ₁ s₁ y T _ q => T.flow .next q) (fn_inter ok) (by rw [xu_is hx rfl]; rfl)
theorem swaps_no {x : Expr} {t : Option Expr} {l : Nat} {env : Env} (h : Nat.ble 1 (xu x).tag = true) (h' : Nat.ble (xu x).tag 14 = true) : swapsWith x t l env = pure false := by
  cases x <;> first | rfl | (cases h; done) | (cases h'; done)
theorem snd_assign_loc (K : CxOk X) {i : Nat} {e : PE} {x : Expr} {y : Str} {p pos : Pos} (he : SE X n sc e x) (hy : y = X.nm i) (hk : kStore sc y = true) (h1 : Nat.ble 1 (xu x).tag = true) (h2 : Nat.ble (xu x).tag 14 = true) : S1 X n sc (.assign (.loc i) e) (.Assign [.Name y p] x pos) := by
  intro A env Pv W σ s Q ok hf at_ h
  subst hy
  exact wpAny_Assign_Name (he.post ok at_ h fun v W₁ σ₁ s₁ y T hv q => store_ok K ok hf T.at_ hk hv fun s'' T' => (T.trans T').flow .next q) (swaps_no h1 h2)
theorem snd_ret_none {pos : Pos} : S1 X n sc (.ret .none) (.Return none pos) := fun A env Pv W σ s Q ok hf at_ h => wpAny_Return_none ((Tf.refl at_).flow (.ret .none) h)
theorem snd_ret {e : PE} {x : Expr} {pos : Pos} (he : SE X n sc e x) : S1 X n sc (.ret (.some e)) (.Return (some x) pos) := fun A env Pv W σ s Q ok hf at_ h =>
  wpAny_Return_some (he.post ok at_ h fun v W₁ σ₁ s₁ y T hv q => T.flow (.ret hv) q)
theorem snd_if {t : PC} {a b : PSs} {x : Expr} {u v : List Stmt} {pos : Pos} (ht : ST X n sc t x) (ha : SS X n sc a u) (hb : SS X n sc b v) : S1 X n sc (.ite t a b) (.If x u v pos) := fun A env Pv W σ s Q ok hf at_ h =>
  wpAny_If (wpAny_mono (ht A env Pv W σ s _ ok at_ h) (fun c s' q => q.e fun W' σ' T q => by
    cases c with
    | true => exact Ew.from T (ha A env Pv W' σ' s' Q ok hf T.at_ q)
    | false => exact Ew.from T (hb A env Pv W' σ' s' Q ok hf T.at_ q)) fun _ _ y => y)
theorem snd_ss_nil : SS X n sc .nil [] := fun A env Pv W σ s Q ok hf at_ h => wpAny_execs_nil ((Tf.refl at_).flow .next h)
theorem snd_ss_cons {p : PS} {ps : PSs} {st : Stmt} {sts : List Stmt} (h1 : S1 X n sc p st) (h2 : SS X n sc ps sts) : SS X n sc (.cons p ps) (st :: sts) := fun A env Pv W σ s Q ok hf at_ h =>
  wpAny_execs_cons (wpAny_mono (h1 A env Pv W σ s _ ok hf at_ h) (fun fl s' q => q.e fun W' σ' T q => q.e fun af r q => by
    cases r with
    | next => exact Ew.from T (h2 A env Pv W' σ' s' Q ok hf T.at_ q)
    | ret hv => exact T.flow (.ret hv) q) fun _ _ y => y)

/-! binding -/
section
variable {A : Around} {env : Env} {Pv : Addr → Prop} {Ex : Value → Shared → Prop} {W : Wd} {Q : Unit → Shared → Prop}
theorem tgt_e {i : Nat} {is : List Nat} {elts : List Expr} {G : Prop} (h : tgts X.nm sc (i :: is) elts = true) (g : ∀ p, elts = .Name (X.nm i) p :: elts.tail → kLocal sc (X.nm i) = true → tgts X.nm sc is elts.tail = true → G) : G :=
  on_e h fun t ht h => and4_e h fun a b c d => g (xu t).p (by
    have e : t = .Name (X.nm i) (xu t).p := (xu_is a rfl).trans (of_decide_eq_true b ▸ rfl)
    exact (head_ok ht).trans (congrArg (· :: elts.tail) e)) (of_decide_eq_true b ▸ c) d
theorem bind_len (ts : List Nat) : ∀ (elts : List Expr) (xs : List V) (cvs : List Value) (σ : St) (Kk : St → Prop), tgts X.nm sc ts elts = true → VRs X W cvs xs → bindGo ts xs σ Kk → (assignEach elts env).length = cvs.length ∧ (assignEach elts env).findIdx? (·.1) = none := by
  induction ts with
  | nil =>
    intro elts xs cvs σ Kk hc hv hb
    cases empty_ok hc
    cases hv with
    | nil => exact ⟨rfl, rfl⟩
    | cons _ _ => exact hb.elim
  | cons i is ih =>
    intro elts xs cvs σ Kk hc hv hb
    refine tgt_e hc fun p e _ h3 => ?_
    rw [e]
    cases hv with
    | nil => exact hb.elim
    | cons a r =>
      have k := ih elts.tail _ _ (σ.put i _) Kk h3 r hb
      refine ⟨congrArg (· + 1) k.1, ?_⟩
      show List.findIdx? _ ((false, assign (.Name (X.nm i) p) env) :: assignEach elts.tail env) = none
      rw [List.findIdx?_cons, k.2]; rfl
theorem bind_each (K : CxOk X) (ok : EnvOk X A env Pv n sc) (ts : List Nat) : ∀ (elts : List Expr) (xs : List V) (cvs : List Value) (σ : St) (s : Shared) (Kk : St → Prop), tgts X.nm sc ts elts = true → At X env Pv W σ s → VRs X W cvs xs → bindGo ts xs σ Kk →
    (∀ s' σ', Tf X env Pv W σ s W σ' s' → Kk σ' → Q () s') → wpAny (model X.prog X.w) A (assignInOrder ((assignEach elts env).map (·.2)) cvs) Q Ex s := by
  induction ts with
  | nil =>
    intro elts xs cvs σ s Kk hc at_ hv hb h
    cases empty_ok hc
    cases hv with
    | nil => exact assignInOrder_nil (h s σ (.refl at_) hb)
    | cons _ _ => exact hb.elim
  | cons i is ih =>
    intro elts xs cvs σ s Kk hc at_ hv hb h
    refine tgt_e hc fun p e h2 h3 => ?_
    rw [e]
    cases hv with
    | nil => exact hb.elim
    | cons a r => exact assignInOrder_cons (wpAny_assign_Name (store_local K ok at_ (local_of ok h2) a fun s₁ T₁ => ih elts.tail _ _ _ s₁ Kk h3 T₁.at_ r hb fun s' σ' T' q => h s' σ' (T₁.trans T') q))
/-- more objects, of no account -/
theorem Tf.more {σ : St} {s : Shared} {h' : Heap} {tk : Nat} (at_ : At X env Pv W σ s) (kp : ∀ b o, s.heap.get? b = some o → h'.get? b = some o) : Tf X env Pv W σ s W σ { s with heap := h', toks := tk } := by
  have S : Stp noPv W σ.H s.heap W σ.H h' := .quiet (fun b ob e _ => kp b ob e) fun b ob e => ⟨ob, kp b ob e⟩
  exact ⟨S.mono fun _ z => z.elim, ⟨at_.rel.quiet (Pv := noPv) (fun b ob e _ => kp b ob e) fun _ z => z.elim, at_.fr.step S fun _ z => z.elim⟩, ⟨rfl, rfl, rfl⟩⟩
/-- several names, out of a tuple -/
theorem bind_tup (K : CxOk X) {ts : List Nat} {elts : List Expr} {k : Nat} {p : Pos} {v : V} {cv : Value} {σ : St} {s : Shared} {Kk : St → Prop} (ok : EnvOk X A env Pv n sc) (hh : A.handled = none) (at_ : At X env Pv W σ s) (hv : VR X W cv v) (hc : tgts X.nm sc ts elts = true) (hb : need (aTup v) fun xs => bindGo ts xs σ Kk)
    (h : ∀ s' σ', Tf X env Pv W σ s W σ' s' → Kk σ' → Q () s') : wpAny (model X.prog X.w) A (assign (.Tuple elts k p) env cv) Q Ex s := by
  refine need_e hb fun xs ex hgo => ?_
  have ev : v = .tup xs := by cases v <;> first | (cases ex; rfl) | cases ex
  subst ev
  obtain ⟨a, vs, m, rfl, hg, hvs, _, hz⟩ := (see_ok at_.rel hv rfl).toTup rfl
  have len := bind_len (env := env) ts elts xs vs.toList σ Kk hc hvs hgo
  refine assign_Tuple_tuple hh (isTup_of hg) (by rw [len.1, Array.length_toList]) len.2 fun h' he => ?_
  have T : Tf X env Pv W σ s W σ { s with heap := h' } := Tf.more (tk := s.toks) at_ fun b o q => he b o (fun z => by rw [z, push_none] at q; cases q) q
  exact bind_each K ok ts elts xs vs.toList σ _ Kk hc T.at_ hvs hgo fun s' σ' T' q => h s' σ' (T.trans T') q
theorem bind_ok (K : CxOk X) {ts : List Nat} {t : Expr} {v : V} {cv : Value} {σ : St} {s : Shared} {Kk : St → Prop} (ok : EnvOk X A env Pv n sc) (at_ : At X env Pv W σ s) (hv : VR X W cv v) (hc : chkTgt X.nm sc ts t = true) (hb : bindT ts v σ Kk)
    (h : ∀ s' σ', Tf X env Pv W σ s W σ' s' → Kk σ' → Q () s') : wpAny (model X.prog X.w) A (assign t env cv) Q Ex s := by
  refine and_e hc fun ht hc => on_e hc fun j hj hc => and_e hc fun h1 h2 => ?_
  cases one_ok hj
  have e : t = .Name (X.nm j) (xu t).p := (xu_is ht rfl).trans (of_decide_eq_true h1 ▸ rfl)
  rw [e]
  exact wpAny_assign_Name (store_local K ok at_ (local_of ok (of_decide_eq_true h1 ▸ h2)) hv fun s' T => h s' _ T hb)
end

/-- an iterator that owns no tuple -/
theorem go_ok {A : Around} {E : Value → Shared → Prop} {s : Shared} {I : Addr} {o : Obj} {nm : String} {t : Expr} {cv : Value} {Q : Unit → Shared → Prop} (ho : s.heap.get? I = some o) (hc : o.cls = .type nm)
    (hn : (["enumerate", "zip", "dict_itemiterator", "dict_reverseitemiterator", "odict_iterator", "itertools.zip_longest", "itertools.pairwise"].contains nm) = false) (h : Q () s) : wpAny (model X.prog X.w) A (letOwnedTupleGo t (.ref I) cv) Q E s := by
  have key : ∀ a, wpAny (model X.prog X.w) A (do
      let o ← load I
      match o.cls, o.data with
      | .type n, .fields vs =>
        if ["enumerate", "zip", "dict_itemiterator", "dict_reverseitemiterator", "odict_iterator", "itertools.zip_longest", "itertools.pairwise"].contains n && vs[0]? == some (rawInt a) then
          rule "for.unpacks-the-owned-tuple"
          updateField I 0 .none
      | _, _ => pure ()) Q E s := fun a => by
    refine wpAny_bind (wpAny_load ho ?_)
    rw [hc]
    cases o.data with
    | fields vs =>
      simp only [hn, Bool.false_and, Bool.false_eq_true, if_false]
      exact wpAny_pure h
    | _ => exact wpAny_pure h
  unfold letOwnedTupleGo
  cases t <;> first | exact wpAny_pure h | skip
  all_goals (cases cv <;> first | exact wpAny_pure h | exact key _)
theorem it_go {A : Around} {E : Value → Shared → Prop} {W : Wd} {s : Shared} {I : Addr} {v : V} {k : Nat} {t : Expr} {cv : Value} {Q : Unit → Shared → Prop} (it : ItAt X W s.heap I v k) (h : Q () s) : wpAny (model X.prog X.w) A (letOwnedTupleGo t (.ref I) cv) Q E s := by
  cases it with
  | lst a r q it => obtain ⟨o, ho, hc, hd⟩ := it; exact go_ok ho hc (by decide) h
  | rng b e it => exact go_ok it rfl (by decide) h
theorem folded_no {x : Expr} {env : Env} (hx : Nat.ble (xu x).tag 15 = true) : ∀ z, foldedSetIterable x env z = pure z := fun z => by
  cases x <;> first | rfl | cases hx
end
end Mine

end

section
set_option autoImplicit false
set_option linter.all false
set_option genSizeOf false
set_option genInjectivity false
namespace Mine
open PySem PySem.W PySem.Calls PyProof.Rows

theorem drop_cons {α : Type} {l : List α} {k : Nat} {x : α} {r : List α} (h : l.drop k = x :: r) : l[k]? = some x ∧ l.drop (k + 1) = r := by
  constructor
  · have := congrArg List.head? h
    rw [List.head?_drop] at this; exact this
  · have := congrArg List.tail h
    rw [List.tail_drop] at this; exact this
/-- where a run over a list stands: at place k; ys are left -/
structure Stand (xs : List V) (k : Nat) (ys : List V) (m : Nat) : Prop where
  d : xs.drop k = ys
  l : k + ys.length = xs.length
  m : m = ys.length
theorem Stand.nil {xs : List V} {k m : Nat} (h : Stand xs k [] m) : k = xs.length := h.l
theorem Stand.cons {xs : List V} {k : Nat} {u : V} {us : List V} {m : Nat} (h : Stand xs k (u :: us) m) : xs[k]? = some u ∧ us.length < m ∧ Stand xs (k + 1) us us.length :=
  ⟨(drop_cons h.d).1, h.m ▸ Nat.lt_succ_self _, (drop_cons h.d).2, (Nat.succ_add_eq_add_succ k us.length).trans h.l, rfl⟩

section
variable {X : Cx} {n : Nat} {sc : Scope}
/-- a run's state -/
inductive LpI (X : Cx) (env : Env) (Pv : Addr → Prop) (W : Wd) (σ : St) (s : Shared) (I : Addr) (v : V) (xs : List V) (go : List V → St → Prop) (m : Nat) (s' : Shared) : Prop
  | mk (k : Nat) (W' : Wd) (σ' : St) (ys : List V) (t : Tf X env Pv W σ s W' σ' s') (it : ItAt X W' s'.heap I v k) (L : Lone X env Pv W' σ'.H s'.heap I) (st : Stand xs k ys m) (q : go ys σ')
/-- what binds the names of a loop -/
noncomputable def Bnd (X : Cx) (n : Nat) (sc : Scope) (ts : List Nat) (t : Expr) : Prop := ∀ (A : Around) (env : Env) (Pv : Addr → Prop) (W : Wd) (σ : St) (s : Shared) (cv : Value) (v : V) (Kk : St → Prop) (Q : Unit → Shared → Prop) (Ex : Value → Shared → Prop),
  EnvOk X A env Pv n sc → env.func ≠ none → At X env Pv W σ s → VR X W cv v → bindT ts v σ Kk → (∀ s' σ', Tf X env Pv W σ s W σ' s' → Kk σ' → Q () s') → wpAny (model X.prog X.w) A (assign t env cv) Q Ex s
theorem bnd_name (K : CxOk X) {i : Nat} {y : Str} {p : Pos} (hy : y = X.nm i) (hk : kStore sc y = true) : Bnd X n sc [i] (.Name y p) := fun A env Pv W σ s cv v Kk Q Ex ok hf at_ hv hb h => by
  subst hy
  exact wpAny_assign_Name (store_ok K ok hf at_ hk hv fun s' T => h s' _ T hb)
theorem not_there {h h' : Heap} {I : Addr} (hn : h'.get? I = none) (k : ∀ a o, h.get? a = some o → ∃ o', h'.get? a = some o') : h.get? I = none := by
  cases hq : h.get? I with
  | none => rfl
  | some o => exact (k _ _ hq).elim fun o' e => by rw [hn] at e; cases e

theorem snd_loop (K : CxOk X) {ts : List Nat} {it : PE} {body : PSs} {t : Expr} {pos : Pos} {x : Expr} {b : List Stmt} (hi : SE X n sc it x) (hb : SS X n sc body b) (ht : Bnd X n sc ts t) (hx : Nat.ble (xu x).tag 15 = true) : S1 X n sc (.loop ts it body) (.For t x b [] pos) := fun A env Pv W σ s Q ok hf at_ h =>
  wpAny_For (hi.post ok at_ h fun cv W₁ σ₁ s₁ v T₁ hv q => need_e q fun xs hxs q => iter_ok T₁.at_.rel hv hxs fun o hfo hit => by
    have nI : s₁.heap.get? s₁.heap.objs.size = none := push_none _
    have T₂ : Tf X env Pv W σ s W₁ σ₁ { s₁ with heap := s₁.heap.push o } := T₁.trans (Tf.push (tk := s₁.toks) T₁.at_)
    have L₂ : Lone X env Pv W₁ σ₁.H (s₁.heap.push o) s₁.heap.objs.size := Lone.new T₁.at_ nI ⟨o, Heap.get?_push_size _ hfo⟩
    have nI₀ := not_there nI T₁.stp.there
    generalize s₁.heap.objs.size = I at nI₀ L₂ hit ⊢
    refine codeAny_forLoop_any (LpI X env Pv W σ s I v xs fun ys σ' => loopGo (fun v σ₂ k => bindT ts v σ₂ fun σ₃ => wpSs X.P (CW X.P n) body σ₃ k) (still v xs) ys σ' Q) (fun m s' hI => ?_) xs.length ⟨0, W₁, σ₁, xs, T₂, hit, L₂, ⟨rfl, Nat.zero_add _, rfl⟩, q⟩
    obtain ⟨k, W', σ', ys, T, hit', L, st, q⟩ := hI
    cases ys with
    | nil =>
      cases st.nil
      exact next_end ok.hh T.at_.rel hit' q.1 fun h' hs => wpAny_execs_nil ((T.poke (tk := s'.toks) nI₀ L hs).flow .next q.2)
    | cons u us =>
      obtain ⟨hu, lt, st'⟩ := st.cons
      refine next_item T.at_.rel hit' q.1 hu fun cu h' tk hcu hit'' hs => it_go hit'' ?_
      have T' := T.poke (tk := tk) nI₀ L hs
      have L' : Lone X env Pv W' σ'.H h' I := ⟨L.own, L.z, L.pv, L.cell, hit''.there⟩
      refine ht A env Pv W' σ' _ cu u _ _ _ ok hf T'.at_ hcu q.2 fun s₃ σ₃ T₃ q => ?_
      have L₃ := L'.step T₃.stp
      have it₃ := hit''.keep T₃.stp.le (L'.keep T₃.stp)
      refine wpAny_mono (hb A env Pv W' _ s₃ _ ok hf T₃.at_ q) (fun fl s₄ q => q.e fun W₄ σ₄ T₄ q => q.e fun af hfr q₄ => ?_) fun _ _ z => z.elim
      have T'' := (T'.trans T₃).trans T₄
      cases hfr with
      | next => exact ⟨us.length, lt, k + 1, W₄, σ₄, us, T'', it₃.keep T₄.stp.le (L₃.keep T₄.stp), L₃.step T₄.stp, st', q₄⟩
      | ret hr => exact T''.flow (.ret hr) q₄) (folded_no hx)

inductive WhI (X : Cx) (env : Env) (Pv : Addr → Prop) (W : Wd) (σ : St) (s : Shared) (go : Nat → St → Prop) (m : Nat) (s' : Shared) : Prop
  | mk (W' : Wd) (σ' : St) (t : Tf X env Pv W σ s W' σ' s') (q : go m σ')
theorem snd_while {t : PC} {body : PSs} {x : Expr} {b : List Stmt} {pos : Pos} (ht : ST X n sc t x) (hb : SS X n sc body b) : S1 X n sc (.while_ t body) (.While x b [] pos) := fun A env Pv W σ s Q ok hf at_ h => h.elim fun k h =>
  wpAny_While (codeAny_whileLoop (WhI X env Pv W σ s fun m σ' => whileGo (fun σ₁ k => wpT X.P (CW X.P n) t σ₁ k) (fun σ₁ k => wpSs X.P (CW X.P n) body σ₁ k) m σ' Q) (fun m s' hI => by
    obtain ⟨W', σ', T, q⟩ := hI
    cases m with
    | zero => exact q.elim
    | succ m =>
      refine wpAny_mono (ht A env Pv W' σ' s' _ ok T.at_ q) (fun c s₁ q => q.e fun W₁ σ₁ T₁ q₁ => ?_) fun _ _ z => z.elim
      cases c with
      | false => exact wpAny_execs_nil ((T.trans T₁).flow .next q₁)
      | true =>
        refine wpAny_mono (hb A env Pv W₁ σ₁ s₁ _ ok hf T₁.at_ q₁) (fun fl s₂ q => q.e fun W₂ σ₂ T₂ q => q.e fun af hfr q₂ => ?_) fun _ _ z => z.elim
        have T' := (T.trans T₁).trans T₂
        cases hfr with
        | next => exact ⟨m, Nat.lt_succ_self _, W₂, σ₂, T', q₂⟩
        | ret hr => exact T'.flow (.ret hr) q₂) k ⟨W, σ, .refl at_, h⟩)
end
end Mine

end

section
set_option autoImplicit false
set_option linter.all false
set_option genSizeOf false
set_option genInjectivity false
namespace Mine
open PySem PySem.W PySem.Calls PyProof.Rows

section
variable {X : Cx} {n : Nat} {sc : Scope}

/-- a name's kind, in a comprehension -/
noncomputable def rl (env : Env) (x : Str) (k : NameKind) : NameKind := if (k == NameKind.free && env.scope.kind == .function && env.kindOf x == some .cell) then NameKind.cell else k
theorem rl_local {env : Env} {x : Str} {k : NameKind} (h : rl env x k = .local) : k = .local := by
  cases k with
  | «local» => rfl
  | free =>
    unfold rl at h
    split at h
    · cases h
    · exact h
  | _ => cases h
theorem rl_free {env : Env} {x : Str} {k : NameKind} (nk : k ≠ .cell) (h : rl env x k = .cell ∨ rl env x k = .free) : k = .free := by
  cases k with
  | free => rfl
  | cell => exact absurd rfl nk
  | _ => rcases h with h | h <;> cases h
theorem rl_is {env : Env} {x : Str} (k : NameKind) : rl env x k = k ∨ (k = .free ∧ rl env x k = .cell) := by
  cases k with
  | free =>
    unfold rl
    split
    · exact .inr ⟨rfl, rfl⟩
    · exact .inl rfl
  | _ => exact .inl rfl
theorem lookup_relabel {env : Env} (x : Str) (names : List (Str × NameKind)) : (names.map fun (n, k) => if (k == NameKind.free && env.scope.kind == .function && env.kindOf n == some .cell) then (n, NameKind.cell) else (n, k)).lookup x = (names.lookup x).map (rl env x) := by
  induction names with
  | nil => rfl
  | cons p r ih =>
    obtain ⟨y, k⟩ := p
    have e : (if (k == NameKind.free && env.scope.kind == .function && env.kindOf y == some .cell) = true then (y, NameKind.cell) else (y, k)) = (y, rl env y k) := by unfold rl; split <;> rfl
    rw [List.map_cons]
    show List.lookup x ((if (k == NameKind.free && env.scope.kind == .function && env.kindOf y == some .cell) = true then (y, NameKind.cell) else (y, k)) :: _) = _
    rw [e, List.lookup_cons, List.lookup_cons, ih]
    cases hx : x == y with
    | true => rw [eq_of_beq hx]; rfl
    | false => rfl
theorem lookup_mem {α β : Type} [BEq α] [LawfulBEq α] {l : List (α × β)} {x : α} {k : β} (h : l.lookup x = some k) : (x, k) ∈ l := by
  induction l with
  | nil => cases h
  | cons p r ih =>
    obtain ⟨y, j⟩ := p
    rw [List.lookup_cons] at h
    cases hb : x == y with
    | true => rw [hb] at h; cases h; rw [eq_of_beq hb]; exact .head _
    | false => rw [hb] at h; exact .tail _ (ih h)
theorem uniq_lookup {l : List (Str × NameKind)} (hu : uniq l = true) {x : Str} {k : NameKind} (h : (x, k) ∈ l) : l.lookup x = some k := by
  induction l with
  | nil => cases h
  | cons p r ih =>
    obtain ⟨y, j⟩ := p
    refine and_e hu fun h1 h2 => ?_
    rw [List.lookup_cons]
    rcases List.mem_cons.mp h with q | q
    · cases q; rw [beq_self_eq_true]
    · rw [show (x == y) = false from Bool.not_eq_true' _ ▸ List.all_eq_true.mp h1 _ q]; exact ih h2 q

/-- what is known of a comprehension's names -/
structure ScOk (X : Cx) (sc : Scope) (sc' : Scope) (ts : List Nat) : Prop where
  kind : sc'.kind = .function
  uniq : uniq sc'.names = true
  cell : ∀ x, (x, NameKind.cell) ∉ sc'.names
  free : ∀ x, (x, NameKind.free) ∈ sc'.names → (Nat.beq (knd sc x) 2 || Nat.beq (knd sc x) 3) = true
  loc : ∀ i, (X.nm i, NameKind.local) ∈ sc'.names → X.nm i = (".0" : Str) ∨ ∃ j ∈ ts, X.nm i = X.nm j
theorem sc_ok {sc' : Scope} {ts : List Nat} (h : chkSc X.nm sc sc' ts = true) : ScOk X sc sc' ts := and3_e h fun h1 h2 h3 => by
  have a := List.all_eq_true.mp h3
  refine ⟨?_, h2, fun x hx => (nomatch a _ hx), fun x hx => a _ hx, fun i hx => ?_⟩
  · cases e : sc'.kind <;> rw [e] at h1 <;> first | rfl | cases h1
  · rcases Bool.or_eq_true_iff.mp (a _ hx) with q | q
    · exact .inl (eq_of_beq q)
    · obtain ⟨j, hj, q⟩ := List.any_eq_true.mp q
      exact .inr ⟨j, hj, of_decide_eq_true q⟩
section
variable {A : Around} {env : Env} {Pv : Addr → Prop} {sc' : Scope} {ts : List Nat}
theorem out_of {x : Str} (ok : EnvOk X A env Pv n sc) (h : (Nat.beq (knd sc x) 2 || Nat.beq (knd sc x) 3) = true) : env.kindOf x = some .cell ∨ env.kindOf x = some .free := by
  rcases Bool.or_eq_true_iff.mp h with q | q
  · exact .inl (kind_of ok q (by decide) (by decide))
  · exact (ok.names _ _ (knd_of (Nat.eq_of_beq_eq_true q) (by decide))).elim .inr fun z => .inl z.2

/-- the closure of a comprehension -/
inductive ClO (env : Env) (names : List (Str × NameKind)) (cs : List (Str × Addr)) (f : Str × NameKind → List (Str × Addr) → Sem (ForInStep (List (Str × Addr)))) : Prop
  | mk (cl : List (Str × Addr)) (h1 : forIn names cs f = (pure cl : Sem (List (Str × Addr)))) (h2 : ∀ x c, cl.lookup x = some c → env.cells.lookup x = some c) (h3 : ∀ x, (x, NameKind.free) ∈ names → ∃ c, cl.lookup x = some c) (h4 : ∀ x c, cs.lookup x = some c → ∃ c', cl.lookup x = some c')
theorem lookup_eq {α : Type} {x y : Str} {c : α} {r : List (Str × α)} (h : (x == y) = true) : ((y, c) :: r).lookup x = some c := by rw [List.lookup_cons, h]
theorem lookup_ne {α : Type} {x y : Str} {c : α} {r : List (Str × α)} (h : (x == y) = false) : ((y, c) :: r).lookup x = r.lookup x := by rw [List.lookup_cons, h]
theorem closure_go {env : Env} {f : Str × NameKind → List (Str × Addr) → Sem (ForInStep (List (Str × Addr)))} (hf : ∀ x k r, f (x, k) r = if (k == NameKind.free) = true then (do let c ← cellOf env x; pure (.yield ((x, c) :: r))) else pure (.yield r))
    (names : List (Str × NameKind)) : ∀ cs : List (Str × Addr), (∀ x, (x, NameKind.free) ∈ names → ∃ c, env.cells.lookup x = some c) → (∀ x c, cs.lookup x = some c → env.cells.lookup x = some c) → ClO env names cs f := by
  induction names with
  | nil => exact fun cs _ hc => ⟨cs, rfl, hc, fun _ h => (nomatch h), fun _ c e => ⟨c, e⟩⟩
  | cons p r ih =>
    intro cs hn hc
    obtain ⟨y, k⟩ := p
    have hn' : ∀ x, (x, NameKind.free) ∈ r → ∃ c, env.cells.lookup x = some c := fun x h => hn x (.tail _ h)
    by_cases hk : (k == NameKind.free) = true
    · have e : k = .free := by cases k <;> first | rfl | cases hk
      subst e
      obtain ⟨c, ec⟩ := hn y (.head _)
      obtain ⟨cl, h1, h2, h3, h4⟩ := ih ((y, c) :: cs) hn' fun x d q => by
        cases hb : x == y with
        | true => rw [lookup_eq hb] at q; cases q; rw [eq_of_beq hb]; exact ec
        | false => rw [lookup_ne hb] at q; exact hc x d q
      refine ⟨cl, ?_, h2, fun x hx => ?_, fun x d q => ?_⟩
      · rw [List.forIn_cons, hf, if_pos hk, show cellOf env y = pure c by unfold cellOf; rw [ec], ← h1]; rfl
      · rcases List.mem_cons.mp hx with q | q
        · cases q; exact h4 y c (lookup_eq (beq_self_eq_true y))
        · exact h3 x q
      · cases hb : x == y with
        | true => exact h4 x c (lookup_eq hb)
        | false => exact h4 x d ((lookup_ne hb).trans q)
    · obtain ⟨cl, h1, h2, h3, h4⟩ := ih cs hn' hc
      refine ⟨cl, ?_, h2, fun x hx => ?_, h4⟩
      · rw [List.forIn_cons, hf, if_neg hk, ← h1]; rfl
      · rcases List.mem_cons.mp hx with q | q
        · cases q; exact absurd rfl hk
        · exact h3 x q
/-- what a comprehension's frame is made of -/
structure CompFacts (X : Cx) (sc : Scope) (sc' : Scope) (env : Env) (ts : List Nat) (cl : List (Str × Addr)) : Prop extends ScOk X sc sc' ts where
  clos : closureFor sc' env = pure cl
  h2 : ∀ x c, cl.lookup x = some c → env.cells.lookup x = some c
  h3 : ∀ x, (x, NameKind.free) ∈ sc'.names → ∃ c, cl.lookup x = some c
theorem comp_facts (ok : EnvOk X A env Pv n sc) (hsc : chkSc X.nm sc sc' ts = true) : ∃ cl, CompFacts X sc sc' env ts cl := by
  have S := sc_ok hsc
  obtain ⟨cl, h1, h2, h3, _⟩ := closure_go (env := env) (f := fun (x : Str × NameKind) r => if (x.2 == NameKind.free) = true then (do let c ← cellOf env x.1; pure (.yield ((x.1, c) :: r))) else pure (.yield r)) (fun _ _ _ => rfl) sc'.names [] (fun x hx => ok.cl x (out_of ok (S.free x hx))) (fun x c q => by cases q)
  refine ⟨cl, S, ?_, h2, h3⟩
  show (forIn sc'.names [] (fun (x : Str × NameKind) r => if (x.2 == NameKind.free) = true then (do let c ← cellOf env x.1; pure (.yield ((x.1, c) :: r))) else pure (.yield r)) >>= fun r => pure r) = pure cl
  rw [h1]; rfl

/-- the place of a comprehension's own names -/
noncomputable def only (C : Addr) (a : Addr) : Prop := a = C
theorem kind_in {cl : List (Str × Addr)} {C : Addr} (x : Str) : (compEnvC sc' cl C env).kindOf x = (sc'.names.lookup x).map (rl env x) := lookup_relabel x sc'.names
/-- a name from around -/
theorem CompFacts.out {cl : List (Str × Addr)} {C : Addr} {x : Str} (F : CompFacts X sc sc' env ts cl) (e : (compEnvC sc' cl C env).kindOf x = some .cell ∨ (compEnvC sc' cl C env).kindOf x = some .free) : (x, NameKind.free) ∈ sc'.names := by
  rw [kind_in] at e
  cases hq : sc'.names.lookup x with
  | none => rw [hq] at e; rcases e with e | e <;> cases e
  | some k =>
    rw [hq] at e
    have m := lookup_mem hq
    cases rl_free (fun z => F.cell x (z ▸ m)) (e.imp Option.some.inj Option.some.inj)
    exact m
theorem comp_env {cl : List (Str × Addr)} {C : Addr} (ok : EnvOk X A env Pv n sc) (F : CompFacts X sc sc' env ts cl) : EnvOk X A (compEnvC sc' cl C env) (only C) n sc' := by
  refine ⟨ok.ok, ok.hh, F.kind, ok.glob, ok.bi, fun x k e => ?_, fun x e => F.h3 x (F.out e)⟩
  rw [kind_in, show sc'.names.lookup x = some k from e]
  exact (rl_is k).imp (congrArg some) fun z => ⟨z.1, congrArg some z.2⟩

/-- the comprehension's frame at its start -/
theorem comp_at (K : CxOk X) {W : Wd} {σ : St} {s : Shared} {cl : List (Str × Addr)} {C : Addr} {h' : Heap} {tk : Nat} (ok : EnvOk X A env Pv n sc) (at_ : At X env Pv W σ s) (F' : CompFacts X sc sc' env ts cl)
    (hn : s.heap.get? C = none) (hk : ∀ b o, s.heap.get? b = some o → h'.get? b = some o) (hC : ∃ m, h'.Ns C m) : At X (compEnvC sc' cl C env) (only C) W ⟨σ.H, unbs ts σ.loc⟩ { s with heap := h', toks := tk } := by
  have F := at_.fr
  have L : Lone X env Pv W σ.H h' C := Lone.new at_ hn (let ⟨_, o, _, _, ho, _⟩ := hC; ⟨o, ho⟩)
  have ub : ∀ i v, unbs ts σ.loc i = some v → i ∉ ts ∧ σ.loc i = some v := fun i v e => by
    have e' : (if ts.contains i then none else σ.loc i) = some v := e
    by_cases hi : i ∈ ts
    · rw [if_pos (List.contains_iff_mem.mpr hi)] at e'; cases e'
    · rw [if_neg (fun z => hi (List.contains_iff_mem.mp z))] at e'; exact ⟨hi, e'⟩
  refine ⟨at_.rel.quiet (Pv := noPv) (fun b o e _ => hk b o e) fun _ z => z.elim, ?_, fun i v e k => ?_, fun x ef _ => absurd rfl ef, fun x y c e e' => F.cellEq x y c (F'.h2 _ _ e) (F'.h2 _ _ e'), fun x c e => ?_, rfl, fun a e => ?_, fun a e => ?_⟩
  · obtain ⟨m, hm⟩ := hC
    refine ⟨m, hm, fun i v e k => ?_⟩
    rw [kind_in] at k
    cases hq : sc'.names.lookup (X.nm i) with
    | none => rw [hq] at k; cases k
    | some kk =>
      rw [hq] at k
      cases rl_local (Option.some.inj k)
      rcases F'.loc i (lookup_mem hq) with q | ⟨j, hj, q⟩
      · exact absurd q (K.dot i)
      · exact absurd (K.inj _ _ q ▸ hj) (ub i v e).1
  · have hm := F'.out k
    obtain ⟨c, cv, hc, ⟨o, ho, hd⟩, hv⟩ := F.cells i v (ub i v e).2 (out_of ok (F'.free _ hm))
    obtain ⟨c', hc'⟩ := F'.h3 _ hm
    cases Option.some.inj ((F'.h2 _ _ hc').symm.trans hc)
    exact ⟨c, cv, hc', ⟨o, hk _ _ ho, hd⟩, hv⟩
  · obtain ⟨p, q, o, ho⟩ := F.cellNs x c (F'.h2 _ _ e)
    exact ⟨fun z => (by rw [show c = C from z, hn] at ho; cases ho), q, o, hk _ _ ho⟩
  · rw [show a = C from e]; exact ⟨L.own, L.z⟩
  · rw [show a = C from e]; exact L.at_
end

/-- a lone list is taken up -/
inductive AdL (X : Cx) (fz : Bool) (W : Wd) (H : Hp) (s : Shared) (W' : Wd) (H' : Hp) (s' : Shared) (D : Addr) (xs : List V) : Prop
  | mk (W'' : Wd) (H'' : Hp) (t : Tc X W H s W'' H'' s') (r : Res X fz H' (.newList xs) (.ref D) W'' H'') (o : ∀ b, b ≠ D → ¬ Own W' H' b → W'.Z b = none → ¬ Own W'' H'' b ∧ W''.Z b = none)
theorem adopt_list {W W' : Wd} {H H' : Hp} {s s' : Shared} {D : Addr} {vs : Array Value} {k : Nat} {xs : List V} {fz : Bool} (T : Tc X W H s W' H' s') (hn : s.heap.get? D = none) (ho : ¬ Own W' H' D) (hz : W'.Z D = none)
    (hg : s'.heap.get? D = some (lstO vs k)) (hv : VRs X W' vs.toList xs) (hl : xs.length ≤ SZ) : AdL X fz W H s W' H' s' D xs := by
  have hD : (hideAll s'.heap [D]).get? D = none := hideAll_none _ (.head _)
  have of : ∀ b o, (hideAll s'.heap [D]).get? b = some o → s'.heap.get? b = some o := fun b o e => of_hideAll _ e
  have to : ∀ b o, b ≠ D → s'.heap.get? b = some o → (hideAll s'.heap [D]).get? b = some o := fun b o n e => hideAll_get _ e (by simpa using n)
  have R : RelH X W' H' (hideAll s'.heap [D]) := T.rel.quiet (Pv := fun a => a = D) (fun a o e n => to a o n e) fun a e => by subst e; exact ⟨ho, hz⟩
  have S : Stp noPv W H s.heap W' H' (hideAll s'.heap [D]) := T.stp.poke hn fun b o n e => to b o n e
  cases fz with
  | true =>
    obtain ⟨r, t⟩ := R.frozen of hD hg
    exact ⟨_, _, ⟨S.trans t, r, T.rest⟩, ⟨.lst addZ_self (hv.le t.le) hl, rfl⟩, fun b nb ob zb => ⟨fun z => ob (Own.addZ.mp z), (if_neg nb).trans zb⟩⟩
  | false =>
    obtain ⟨r, t⟩ := R.fresh (l := (D, D)) (c := .list xs) of hD hD ⟨vs, k, hg, hv.le R.leF, rfl, hl⟩
    exact ⟨_, _, ⟨S.trans t, r, T.rest⟩, ⟨VR.ref (l := (D, D)) addφ_self, rfl⟩, fun b nb ob zb => ⟨fun q => (R.own_new q).elim ob fun q => q.elim nb nb, zb⟩⟩
end
end Mine

end

section
set_option autoImplicit false
set_option linter.all false
set_option genSizeOf false
set_option genInjectivity false
namespace Mine
open PySem PySem.W PySem.Calls PyProof.Rows

section
variable {X : Cx} {n : Nat} {sc : Scope}

theorem iter_self {A : Around} {E : Value → Shared → Prop} {W : Wd} {s : Shared} {I : Addr} {v : V} {k : Nat} {Q : Value → Shared → Prop} (it : ItAt X W s.heap I v k) (h : Q (.ref I) s) : wpAny (model X.prog X.w) A (pyIter (.ref I)) Q E s := by
  cases it with
  | lst a r q it => exact wpAny_pyIter_listiter it h
  | rng b e it => exact wpAny_pyIter_rangeiter it h
/-- the ifs of a comprehension -/
abbrev ifsT (ifs : List Expr) (env : Env) : Sem Bool := forIn ifs true fun c r => if r = true then do let ok ← isTrue c env (eval c env); pure (ForInStep.yield ok) else pure (ForInStep.yield r)
noncomputable def SCo (X : Cx) (n : Nat) (sc : Scope) (p : PCo) (ifs : List Expr) : Prop := ∀ (A : Around) (env : Env) (Pv : Addr → Prop) (W : Wd) (σ : St) (s : Shared) (Q : Bool → St → Prop),
  EnvOk X A env Pv n sc → At X env Pv W σ s → wpC X.P (CW X.P n) p σ Q → Ew X A env Pv (ifsT ifs env) W σ s (BQ Q)
theorem snd_c_nil : SCo X n sc .none [] := fun A env Pv W σ s Q ok at_ h => wpAny_pure (at_.bl (tk := s.toks) h)
theorem snd_c_one {t : PC} {x : Expr} (ht : ST X n sc t x) : SCo X n sc (.some t) [x] := fun A env Pv W σ s Q ok at_ h => by
  unfold ifsT
  rw [List.forIn_cons, if_pos rfl]
  exact wpAny_bind (wpAny_bind (wpAny_mono (ht A env Pv W σ s _ ok at_ h) (fun b s' q => wpAny_pure (wpAny_pure q)) fun _ _ y => y))

/-- the turns of a comprehension, the target any -/
theorem comp_turns {A : Around} {s : Shared} {R : Result → Shared → Prop} {elt target iter : Expr} {ifs : List Expr} {scope : Scope} {pos : Pos} {it acc : Value} {env : Env} (J : Nat → Shared → Prop)
    (turn : ∀ k s, J k s → wpAny (model X.prog X.w) A (pyNext it) (fun r s₁ => match r with
      | none => R (.ok .next) s₁
      | some v => wpAny (model X.prog X.w) A (letOwnedTupleGo target it v) (fun _ s₁ => wpAny (model X.prog X.w) A (assign target env v) (fun _ s₂ =>
          wpAny (model X.prog X.w) A (ifsT ifs env) (fun ok s₃ =>
            if ok = true then wpAny (model X.prog X.w) A (eval elt env) (fun x s₄ =>
              wpAny (model X.prog X.w) A (call (.builtin "list.append") [acc, x]) (fun _ s₅ => ∃ m, m < k ∧ J m s₅) (fun _ _ => False) s₄) (fun _ _ => False) s₃
            else ∃ m, m < k ∧ J m s₃) (fun _ _ => False) s₂) (fun _ _ => False) s₁) (fun _ _ => False) s₁) (fun _ _ => False) s)
    (k : Nat) (h : J k s) : codeAny (model X.prog X.w) A (.compLoop (.ListComp elt [⟨target, iter, ifs, 0⟩] scope pos) 0 it acc env) R s := by
  refine codeAny_loop rfl J (fun k s hJ => ?_) k h
  show wpAny _ A ((compTurn (.ListComp elt [⟨target, iter, ifs, 0⟩] scope pos) 0 it acc env).onRaise _) _ _ s
  refine wpAny_noted (wpAny_mono (E := fun _ _ => False) ?_ (fun _ _ z => z) fun _ _ z => z.elim)
  rw [compTurn_list]
  refine wpAny_bind (wpAny_standAt (wpAny_bind (wpAny_mono (turn k s hJ) (fun r s₁ h₁ => ?_) fun _ _ z => z)))
  cases r with
  | none => exact wpAny_pure h₁
  | some v =>
    refine wpAny_bind (wpAny_mono h₁ (fun _ s₁' h₁' => wpAny_bind (wpAny_mono h₁' (fun _ s₂ h₂ => wpAny_bind (wpAny_mono h₂ (fun ok s₃ h₃ => ?_) fun _ _ z => z)) fun _ _ z => z)) fun _ _ z => z)
    cases ok with
    | false => exact wpAny_pure ⟨rfl, h₃⟩
    | true => exact wpAny_bind (wpAny_bind (wpAny_mono h₃ (fun x s₄ h₄ => wpAny_bind (wpAny_mono h₄ (fun _ s₅ h₅ => wpAny_pure (wpAny_pure ⟨rfl, h₅⟩)) fun _ _ z => z)) fun _ _ z => z))

/-- the iterator and the list in the making -/
structure Dp (X : Cx) (env : Env) (Pv : Addr → Prop) (W : Wd) (H : Hp) (h : Heap) (I D : Addr) (v : V) (k : Nat) (cvs : Array Value) (nn : Nat) (acc : List V) : Prop where
  it : ItAt X W h I v k
  LI : Lone X env Pv W H h I
  LD : Lone X env Pv W H h D
  g : h.get? D = some (lstO cvs nn)
  acc : VRs X W cvs.toList acc
theorem Dp.step {env : Env} {Pv : Addr → Prop} {W W' : Wd} {H H' : Hp} {h h' : Heap} {I D : Addr} {v : V} {k : Nat} {cvs : Array Value} {nn : Nat} {acc : List V} (P : Dp X env Pv W H h I D v k cvs nn acc) (S : Stp Pv W H h W' H' h') : Dp X env Pv W' H' h' I D v k cvs nn acc :=
  ⟨P.it.keep S.le (P.LI.keep S), P.LI.step S, P.LD.step S, P.LD.keep S _ P.g, P.acc.le S.le⟩
theorem Lone.at' {env : Env} {Pv : Addr → Prop} {W : Wd} {H : Hp} {h h' : Heap} {I : Addr} (L : Lone X env Pv W H h I) (h : ∃ o, h'.get? I = some o) : Lone X env Pv W H h' I := ⟨L.own, L.z, L.pv, L.cell, h⟩
/-- seen from outside, and from inside -/
structure Inn (X : Cx) (W : Wd) (H : Hp) (s : Shared) (env : Env) (C : Addr) (W' : Wd) (σ' : St) (s' : Shared) : Prop where
  tc : Tc X W H s W' σ'.H s'
  at_ : At X env (only C) W' σ' s'
section
variable {W W' W'' : Wd} {H : Hp} {σ' σ'' : St} {s s' s'' : Shared} {env : Env} {C : Addr}
theorem Inn.step (P : Inn X W H s env C W' σ' s') (T' : Tf X env (only C) W' σ' s' W'' σ'' s'') (hn : s.heap.get? C = none) : Inn X W H s env C W'' σ'' s'' :=
  ⟨⟨P.tc.stp.transFresh T'.stp fun x e => .inl (by rw [show x = C from e]; exact hn), T'.at_.rel, P.tc.rest.trans T'.rest⟩, T'.at_⟩
theorem Tc.poke {H' : Hp} {I : Addr} {h'' : Heap} {tk : Nat} (T : Tc X W H s W' H' s') (hn : s.heap.get? I = none) (ho : ¬ Own W' H' I) (hz : W'.Z I = none) (hs : Heap.ExtBut I s'.heap h'') : Tc X W H s W' H' { s' with heap := h'', toks := tk } :=
  ⟨T.stp.poke hn hs, T.rel.quiet (Pv := fun b => b = I) (fun b o e m => hs b o m e) (fun b e => by subst e; exact ⟨ho, hz⟩), ⟨T.rest.gens, T.rest.drawn, T.rest.os⟩⟩
theorem Inn.poke {I : Addr} {h'' : Heap} {tk : Nat} (P : Inn X W H s env C W' σ' s') (hn : s.heap.get? I = none) (L : Lone X env (only C) W' σ'.H s'.heap I) (hs : Heap.ExtBut I s'.heap h'') : Inn X W H s env C W' σ' { s' with heap := h'', toks := tk } :=
  ⟨P.tc.poke hn L.own L.z hs, P.at_.poke L hs⟩
end
/-- the state of the turns -/
inductive CpI (X : Cx) (W : Wd) (H : Hp) (s : Shared) (env : Env) (C : Addr) (I D : Addr) (v : V) (xs : List V) (go : List V → List V → St → Prop) (m : Nat) (s' : Shared) : Prop
  | mk (k : Nat) (W' : Wd) (σ' : St) (ys acc : List V) (cvs : Array Value) (nn : Nat) (T : Inn X W H s env C W' σ' s') (P : Dp X env (only C) W' σ'.H s'.heap I D v k cvs nn acc) (sd : Stand xs k ys m) (q : go ys acc σ')
/-- at the end -/
inductive CpE (X : Cx) (W : Wd) (H : Hp) (s : Shared) (D C : Addr) (W' : Wd) (H' : Hp) (s' : Shared) (ys : List V) : Prop
  | mk (cvs : Array Value) (k : Nat) (m : Str → Option Value) (t : Tc X W H s W' H' s') (sD : s.heap.get? D = none) (sC : s.heap.get? C = none) (ne : D ≠ C) (oD : ¬ Own W' H' D) (zD : W'.Z D = none) (oC : ¬ Own W' H' C) (zC : W'.Z C = none) (g : s'.heap.get? D = some (lstO cvs k)) (hv : VRs X W' cvs.toList ys) (hz : ys.length ≤ SZ) (ns : s'.heap.Ns C m)

section
variable {A : Around} {env : Env} {Pv : Addr → Prop} {W : Wd} {σ : St} {s : Shared} {v : V} {xs : List V} {ts : List Nat} {elt : PE} {cond : PCo} {e x : Expr} {ifs : List Expr} {y : Expr} {pos : Pos} {sc' : Scope} {cl : List (Str × Addr)} {Qc : List V → St → Prop}
/-- what a comprehension computes -/
abbrev cgo (X : Cx) (n : Nat) (elt : PE) (ts : List Nat) (cond : PCo) (v : V) (xs : List V) (Qc : List V → St → Prop) (ys acc : List V) (σ : St) : Prop := compGo (fun σ₂ k => wpC X.P (CW X.P n) cond σ₂ k) (fun σ₂ k => wpE X.P (CW X.P n) elt σ₂ k) ts (still v xs) ys acc σ Qc
theorem comp_loop (K : CxOk X) {cenv : Env} {C I D : Addr} {R : Result → Shared → Prop} {s₀ : Shared} {m : Nat} (okc : EnvOk X A cenv (only C) n sc') (he : SE X n sc' elt e) (hc : SCo X n sc' cond ifs) (hct : chkTgt X.nm sc' ts y = true)
    (sI : s.heap.get? I = none) (sD : s.heap.get? D = none) (sC : s.heap.get? C = none) (nDI : D ≠ I) (nDC : D ≠ C) (lC : cenv.locals = C) (h : CpI X W σ.H s cenv C I D v xs (cgo X n elt ts cond v xs Qc) m s₀)
    (hR : ∀ W' H' loc' s' ys, CpE X W σ.H s D C W' H' s' ys → Qc ys ⟨H', loc'⟩ → R (.ok .next) s') :
    codeAny (model X.prog X.w) A (.compLoop (.ListComp e [⟨y, x, ifs, 0⟩] sc' pos) 0 (.ref I) (.ref D) cenv) R s₀ := by
  have hh := okc.hh
  refine comp_turns _ (fun m s' hI => ?_) m h
  obtain ⟨k, W', σ', ys, acc, cvs, nn, T, P, sd, q⟩ := hI
  cases ys with
  | nil =>
    cases sd.nil
    refine next_end hh T.at_.rel P.it q.1 fun h' hs => ?_
    have a := T.poke (tk := s'.toks) sI P.LI hs
    have pvC := T.at_.fr.priv C rfl
    obtain ⟨m', hm', _⟩ := a.at_.fr.ns
    exact hR W' σ'.H σ'.loc _ acc ⟨cvs, nn, m', a.tc, sD, sC, nDC, P.LD.own, P.LD.z, pvC.1, pvC.2, hs D _ nDI P.g, P.acc, q.2.1, lC ▸ hm'⟩ q.2.2
  | cons u us =>
    obtain ⟨hu, lt, sd'⟩ := sd.cons
    have hsz := q.2.1
    refine next_item T.at_.rel P.it q.1 hu fun cu h' tk hcu hit hs => it_go hit ?_
    have T₁ := T.poke (tk := tk) sI P.LI hs
    have P₁ : Dp X cenv (only C) W' σ'.H h' I D v (k + 1) cvs nn acc := ⟨hit, P.LI.at' hit.there, P.LD.at' ⟨_, hs D _ nDI P.g⟩, hs D _ nDI P.g, P.acc⟩
    refine bind_ok K okc T₁.at_ hcu hct q.2.2 fun s₃ σ₃ T₃ q => ?_
    have P₃ := P₁.step T₃.stp
    have C₃ := T₁.step T₃ sC
    refine wpAny_mono (hc A cenv (only C) W' _ s₃ _ okc T₃.at_ q) (fun b s₄ q => q.e fun W₄ σ₄ T₄ q₄ => ?_) fun _ _ z => z
    have P₄ := P₃.step T₄.stp
    have C₄ := C₃.step T₄ sC
    cases b with
    | false => exact ⟨us.length, lt, k + 1, W₄, σ₄, us, acc, cvs, nn, C₄, P₄, sd', q₄⟩
    | true =>
      refine wpAny_mono (he A cenv (only C) W₄ σ₄ s₄ _ okc T₄.at_ q₄) (fun r s₅ q => q.e fun W₅ σ₅ T₅ q => q.e fun ar hr q₅ => ?_) fun _ _ z => z
      have P₅ := P₄.step T₅.stp
      refine append_at P₅.g (fun h₆ hs₆ hg₆ => ?_) (by rw [P₅.acc.toArr]; exact szLine (Nat.le_of_lt hsz))
      have it₆ := P₅.it.keep (.refl _) fun o z => hs₆.extBut I o (Ne.symm nDI) z
      exact ⟨us.length, lt, k + 1, W₅, σ₅, us, acc ++ [ar], cvs.push r, nn + 1, (C₄.step T₅ sC).poke (tk := s₅.toks) sD P₅.LD hs₆.extBut, ⟨it₆, P₅.LI.at' it₆.there, P₅.LD.at' ⟨_, hg₆⟩, hg₆, by rw [Array.toList_push]; exact P₅.acc.append (.cons hr .nil)⟩, sd', q₅⟩

theorem comp_block (K : CxOk X) {Ex : Value → Shared → Prop} {cv : Value} {RR : Value → Addr → Result → Shared → Prop}
    (ok : EnvOk X A env Pv n sc) (at_ : At X env Pv W σ s) (he : SE X n sc' elt e) (hc : SCo X n sc' cond ifs) (hct : chkTgt X.nm sc' ts y = true) (F : CompFacts X sc sc' env ts cl)
    (hv : VR X W cv v) (hxs : items σ.H v = some xs) (hgo : cgo X n elt ts cond v xs Qc xs [] ⟨σ.H, unbs ts σ.loc⟩)
    (hRR : ∀ D C W' H' loc' s' ys, CpE X W σ.H s D C W' H' s' ys → Qc ys ⟨H', loc'⟩ → RR (.ref D) C (.ok .next) s') :
    wpAny (model X.prog X.w) A (pyIter cv) (fun it s₂ => wpAny (model X.prog X.w) A (newList []) (fun acc s₃ => wpAny (model X.prog X.w) A (newFunctionEnv sc' env.globals cl [] env.qual none .none (some env)) (fun cenv s₄ =>
      codeAny (model X.prog X.w) A (.compStart (.ListComp e [⟨y, x, ifs, 0⟩] sc' pos) 0 it acc { cenv with scope := relabel sc' env }) (RR acc cenv.locals) s₄) Ex s₃) Ex s₂) Ex s := by
  refine iter_ok at_.rel hv hxs fun oI hfo hit => wpAny_newObj_type (wpAny_newFunctionEnv (fun z hz q => F.cell z.1 (q ▸ hz)) (fun z hz => nomatch hz) (fun h₁ hns hsb => ?_) F.kind)
  dsimp only at hns hsb ⊢
  have eD : (s.heap.push oI).objs.size = s.heap.objs.size + 1 := Heap.size_push ..
  have eC : ((s.heap.push oI).push { cls := .type "list", dict := none, data := .seq ([] : List Value).toArray }).objs.size = s.heap.objs.size + 1 + 1 := (Heap.size_push ..).trans (congrArg (· + 1) eD)
  have k1 : ∀ b o, ((s.heap.push oI).push { cls := .type "list", dict := none, data := .seq ([] : List Value).toArray }).get? b = some o → h₁.get? b = some o := fun b o q => hsb.extBut b o (Nat.ne_of_lt (Heap.lt_size q)) (Heap.get?_push_of_some _ q)
  have gD : h₁.get? (s.heap.push oI).objs.size = some (lstO #[] 0) := k1 _ _ (Heap.get?_push_size _ rfl)
  generalize ((s.heap.push oI).push { cls := .type "list", dict := none, data := .seq ([] : List Value).toArray }).objs.size = C at hns hsb eC ⊢
  generalize (s.heap.push oI).objs.size = D at gD hns hsb eD ⊢
  have sI := push_none s.heap
  have k0 : ∀ b o, s.heap.get? b = some o → h₁.get? b = some o := fun b o q => k1 b o (Heap.get?_push_of_some _ (Heap.get?_push_of_some _ q))
  have gI : ItAt X W h₁ s.heap.objs.size v 0 := hit.keep (.refl _) fun o q => k1 _ _ (Heap.get?_push_of_some _ q)
  have sD : s.heap.get? D = none := Heap.get?_none_of_le (by rw [eD]; exact Nat.le_succ _)
  have sC : s.heap.get? C = none := Heap.get?_none_of_le (by rw [eC]; exact Nat.le_succ_of_le (Nat.le_succ _))
  have nDC : D ≠ C := by rw [eC, eD]; exact Nat.ne_of_lt (Nat.lt_succ_self _)
  have nIC : s.heap.objs.size ≠ C := by rw [eC]; exact Nat.ne_of_lt (Nat.lt_succ_of_lt (Nat.lt_succ_self _))
  have nDI : D ≠ s.heap.objs.size := by rw [eD]; exact Nat.ne_of_gt (Nat.lt_succ_self _)
  have lone : ∀ b, s.heap.get? b = none → b ≠ C → (∃ o, h₁.get? b = some o) → Lone X (compEnvC sc' cl C env) (only C) W σ.H h₁ b := fun b hb ne hat =>
    have L := Lone.new (h' := h₁) at_ hb hat
    ⟨L.own, L.z, fun q => ne q, fun z c q => L.cell z c (F.h2 _ _ q), hat⟩
  have loop : codeAny (model X.prog X.w) A (.compLoop (.ListComp e [⟨y, x, ifs, 0⟩] sc' pos) 0 (.ref s.heap.objs.size) (.ref D) (compEnvC sc' cl C env)) (RR (.ref D) C) { s with heap := h₁, toks := s.toks + ([] : List (Str × Value)).length } :=
    comp_loop K (comp_env ok F ) he hc hct sI sD sC nDI nDC rfl ⟨0, W, ⟨σ.H, unbs ts σ.loc⟩, xs, [], #[], 0, ⟨⟨.quiet (fun b o q _ => k0 b o q) fun b o q => ⟨o, k0 b o q⟩, at_.rel.quiet (Pv := noPv) (fun b o q _ => k0 b o q) fun _ z => z.elim, ⟨rfl, rfl, rfl⟩⟩, comp_at K ok at_ F sC k0 ⟨_, hns⟩⟩, ⟨gI, lone _ sI nIC gI.there, lone D sD nDC ⟨_, gD⟩, gD, .nil⟩, ⟨rfl, Nat.zero_add _, rfl⟩, hgo⟩ (hRR D C)
  exact codeAny_compStart_list loop (iter_self gI loop)
end

theorem res_give {fz : Bool} {σ : St} {Q : V → St → Prop} {r : LV} {v : Value} {W' : Wd} {H' : Hp} (g : give fz σ Q r) (h : Res X fz σ.H r v W' H') {s' : Shared} : VQ X Q v W' ⟨H', σ.loc⟩ s' := by
  cases r with
  | val x => obtain ⟨a, rfl⟩ := h; exact ⟨x, a, g⟩
  | newList xs => cases fz <;> (obtain ⟨a, rfl⟩ := h; exact ⟨_, a, g.2⟩)
section
variable {fz : Bool} {elt it : PE} {ts : List Nat} {cond : PCo} {e x : Expr} {ifs : List Expr} {y : Expr} {pos : Pos} {sc' : Scope} (hi : SE X n sc it x) (he : SE X n sc' elt e) (hc : SCo X n sc' cond ifs) (hct : chkTgt X.nm sc' ts y = true) (hsc : chkSc X.nm sc sc' ts = true) (hx : Nat.ble (xu x).tag 15 = true)
include hi he hc hct hsc  hx
theorem snd_comp (K : CxOk X) : SE X n sc (.comp fz elt ts it cond) (.ListComp e [⟨y, x, ifs, 0⟩] sc' pos) := by
  intro A env Pv W σ s Q ok at_ h
  obtain ⟨cl, F⟩ := comp_facts ok hsc
  rw [eval_ListComp]
  refine wpAny_comprehension_free (use := none) rfl (folded_no hx) F.clos F.kind (fun x hx hl => by obtain ⟨x, k⟩ := x; subst hl; exact uniq_lookup F.uniq hx) (hi.post ok at_ h fun cv W₁ σ₁ s₁ v T₁ hv q => need_e q fun xs hxs q => comp_block K ok T₁.at_ he hc hct F  hv hxs q fun D C W' H' loc' s' ys z hg => ?_)
  obtain ⟨cvs, k, m, T, sD, sC, ne, oD, zD, oC, zC, gD, hys, hsz, hm⟩ := z
  refine ⟨m, hm, fun h' hs => ?_⟩
  obtain ⟨W'', H'', T'', res, _⟩ := adopt_list (fz := fz) (T.poke (tk := s'.toks) sC oC zC hs.extBut) sD oD zD (hs.extBut D _ ne gD) hys hsz
  exact ⟨_, _, T₁.trans (T''.tf T₁.at_), res_give (σ := ⟨H', σ₁.loc⟩) hg res⟩
end
end
end Mine

end

section
set_option autoImplicit false
set_option linter.all false
set_option genSizeOf false
set_option genInjectivity false
namespace Mine
open PySem PySem.W PySem.Calls PyProof.Rows

section
variable {X : Cx} {n : Nat} {sc : Scope}
section
variable {fz : Bool} {elt it : PE} {ts : List Nat} {cond : PCo} {e x : Expr} {ifs : List Expr} {y : Expr} {pos : Pos} {sc' : Scope} (hi : SE X n sc it x) (he : SE X n sc' elt e) (hc : SCo X n sc' cond ifs) (hct : chkTgt X.nm sc' ts y = true) (hsc : chkSc X.nm sc sc' ts = true) (hx : Nat.ble (xu x).tag 15 = true)
include hi he hc hct hsc  hx
/-- the list is stored ahead of the frame's end -/
theorem comp_store (K : CxOk X) {i : Nat} {pz pf : Pos} {A : Around} {env : Env} {Pv : Addr → Prop} {W : Wd} {σ : St} {s : Shared} {Q : Flow → St → Prop} (hk : kStore sc (X.nm i) = true) (ok : EnvOk X A env Pv n sc) (hf : env.func ≠ none) (at_ : At X env Pv W σ s)
    (h : wpE X.P (CW X.P n) (.comp fz elt ts it cond) σ fun v σ₁ => Q .next (σ₁.put i v)) :
    wpAny (model X.prog X.w) A (comprehension (.ListComp e [⟨y, x, ifs, 0⟩] sc' pos) sc' env pf (newList []) false (eval x env) (some (assign (.Name (X.nm i) pz) env))) (fun _ s' => Go X env Pv W σ s (FQ X Q) PySem.Flow.next s') noEx s := by
  obtain ⟨cl, F⟩ := comp_facts ok hsc
  refine wpAny_comprehension_free (use := some (assign (.Name (X.nm i) pz) env)) rfl (folded_no hx) F.clos F.kind (fun x hx hl => by obtain ⟨x, k⟩ := x; subst hl; exact uniq_lookup F.uniq hx) (hi.post ok at_ h fun cv W₁ σ₁ s₁ v T₁ hv q => need_e q fun xs hxs q => comp_block K ok T₁.at_ he hc hct F  hv hxs q fun D C W' H' loc' s' ys z hg => ?_)
  obtain ⟨cvs, k, m, T, sD, sC, ne, oD, zD, oC, zC, gD, hys, hsz, hm⟩ := z
  obtain ⟨W'', H'', T'', res, oth⟩ := adopt_list (fz := fz) T sD oD zD gD hys hsz
  have T₂ : Tf X env Pv W₁ σ₁ s₁ W'' ⟨H'', σ₁.loc⟩ s' := T''.tf T₁.at_
  have L := Lone.new (h' := s'.heap) T₁.at_ sC (let ⟨o, _, _, ho, _⟩ := hm; ⟨o, ho⟩)
  have o := oth C (Ne.symm ne) oC zC
  have LC : Lone X env Pv W'' H'' s'.heap C := ⟨o.1, o.2, L.pv, L.cell, L.at_⟩
  exact (res_give (s' := s) (σ := ⟨H', σ₁.loc⟩) hg res).e fun av hav hq => wpAny_assign_Name (store_ok K ok hf T₂.at_ hk hav fun s₃ T₃ =>
    ⟨m, ns_same hm fun o ho => T₃.stp.keep C o ho LC.own LC.pv, fun h'' hs => (((T₁.trans T₂).trans T₃).poke (tk := s₃.toks) (not_there sC T₁.stp.there) (LC.step T₃.stp) hs.extBut).flow .next hq⟩)
theorem snd_assign_comp (K : CxOk X) {i : Nat} {z : Str} {pz pos' : Pos} (hz : z = X.nm i) (hk : kStore sc z = true) : S1 X n sc (.assign (.loc i) (.comp fz elt ts it cond)) (.Assign [.Name z pz] (.ListComp e [⟨y, x, ifs, 0⟩] sc' pos) pos') := by
  intro A env Pv W σ s Q ok hf at_ h
  subst hz
  have sw : swapsWith (.ListComp e [⟨y, x, ifs, 0⟩] sc' pos) (some (.Name (X.nm i) pz)) pos'.line env = pure (env.blockKind == .function && env.kindOf (X.nm i) == some .local && pz.line == pos.line && !(sc'.names.any fun (n, k) => n == X.nm i && (k == .local || k == .cell))) := rfl
  generalize (env.blockKind == .function && env.kindOf (X.nm i) == some .local && pz.line == pos.line && !(sc'.names.any fun (n, k) => n == X.nm i && (k == .local || k == .cell))) = b at sw
  cases b with
  | false => exact wpAny_Assign_Name ((snd_comp hi he hc hct hsc  hx K).post ok at_ h fun v W₁ σ₁ s₁ y T hv q => store_ok K ok hf T.at_ hk hv fun s'' T' => (T.trans T').flow .next q) sw
  | true =>
    unfold Ew
    rw [exec_Assign_Name_used _ _ _ _ sw]
    exact wpAny_bind (wpAny_standAt (wpAny_bind (wpAny_bind (wpAny_mono (comp_store hi he hc hct hsc  hx K hk ok hf at_ h) (fun _ s' q => wpAny_pure (wpAny_pure q)) fun _ _ z => z))))
end
end
end Mine

end

section
set_option autoImplicit false
set_option linter.all false
set_option genSizeOf false
set_option genInjectivity false
namespace Mine
open PySem PySem.W PySem.Calls PyProof.Rows
section
variable {X : Cx} {n : Nat} {sc : Scope}
theorem swaps_sub {x o i : Expr} {p : Pos} {l : Nat} {env : Env} : swapsWith x (some (.Subscript o i p)) l env = pure false := by
  cases x <;> rfl
/-- a thing stored in a dict -/
theorem put_item {A : Around} {env : Env} {Pv : Addr → Prop} {W : Wd} {σ : St} {s : Shared} {Ex : Value → Shared → Prop} {ov iv v : Value} {g y x : V} {Q : Unit → Shared → Prop} {q : St → Prop} (at_ : At X env Pv W σ s) (ho : VR X W ov g) (hi : VR X W iv y) (hv : VR X W v x)
    (h : need (aRef g) fun i => need (cD (σ.H.get i)) fun kvs => Nd (keyOk (dKeys kvs) y = true) (Nd (kvs.length < SZ) (q (σ.setH (σ.H.set i (.dict (dSet kvs y x)))))))
    (hq : ∀ W' σ' s', Tf X env Pv W σ s W' σ' s' → q σ' → Q () s') : wpAny (model X.prog X.w) A (setItem ov iv v) Q Ex s :=
  need_e h fun i ei h => need_e h fun kvs ek h => aRef_e ho ei fun l e hl _ => key_e hi h.1 fun j t e1 e2 => by
    subst e e1 e2
    obtain ⟨es, d, r, e, ne, z⟩ := at_.rel.at_ (cD_e ek) hl
    have hn : (es.map (·.1)).Nodup := d.elim fun _ d => d.elim fun _ d => d.elim fun _ d => d.2.2.2.2.2
    refine wpAny_setItem_pairs (intKind_is _ _ j t) d (fun h' d' hs => hq W _ _ (Tc.tf at_ (W' := W) (H' := σ.H.set i (.dict (dSet kvs (.int j) x))) ?_) h.2.2) (by rw [r.len]; exact szLine z)
    have len : (dSet kvs (.int j) x).length ≤ SZ := by rw [← (r.put (i := j) hv hn).len]; exact Nat.le_trans (stored_length_le _ _ _) (by rw [r.len]; exact h.2.1)
    obtain ⟨R, S⟩ := at_.rel.upd (h' := h') (c' := .dict (dSet kvs (.int j) x)) (cD_e ek) hl (fun b ob q n1 _ => (hs.2 b n1).trans q) ⟨stored es j v, d', r.put hv hn, e, ne, len⟩
    exact ⟨S, R, ⟨rfl, rfl, rfl⟩⟩
theorem snd_assign_idx {o i e : PE} {v u x : Expr} {p pos : Pos} (he : SE X n sc e x) (ho : SE X n sc o v) (hi : SE X n sc i u) : S1 X n sc (.assign (.idx o i) e) (.Assign [.Subscript v u p] x pos) := fun A env Pv W σ s Q ok hf at_ h =>
  wpAny_Assign_Subscript (he.post ok at_ h fun cv W₁ σ₁ s₁ x T₁ hv h₁ => wpAny_mono (ho.post ok T₁.at_ h₁ fun ov W₂ σ₂ s₂ g T₂ hg h₂ => wpAny_mono (hi.post ok T₂.at_ h₂ fun iv W₃ σ₃ s₃ y T₃ hy h₃ =>
    put_item (Q := fun _ s' => Go X env Pv W σ s (FQ X Q) PySem.Flow.next s') (Ex := noEx) T₃.at_ (hg.le T₃.stp.le) hy (hv.le (T₂.stp.le.trans T₃.stp.le)) h₃ fun W' σ' s' T hq => (((T₁.trans T₂).trans T₃).trans T).flow .next hq) (fun _ _ q => q) fun _ _ y => y) (fun _ _ q => q) fun _ _ y => y) swaps_sub
theorem snd_assign_tup (K : CxOk X) {is : List Nat} {elts : List Expr} {k : Nat} {p pos : Pos} {e : PE} {x : Expr} (he : SE X n sc e x) (ht : tgts X.nm sc is elts = true) (h15 : Nat.ble 1 (xu x).tag = true) (h14 : Nat.ble (xu x).tag 14 = true) (h10 : tg x 10 = false) : S1 X n sc (.assign (.tup is) e) (.Assign [.Tuple elts k p] x pos) := fun A env Pv W σ s Q ok hf at_ h =>
  wpAny_Assign_stores (he.post ok at_ h fun cv W₁ σ₁ s₁ v T₁ hv h₁ => show wpAny _ A (assign (.Tuple elts k p) env cv) _ _ s₁ from bind_tup K ok ok.hh T₁.at_ hv ht h₁ fun s' σ' T' q => (T₁.trans T').flow .next q) (by
    cases x <;> first | rfl | (cases h15; done) | (cases h14; done)) (by
    cases x <;> first | rfl | (cases h10; done))
end
end Mine

end

section
set_option autoImplicit false
set_option linter.all false
set_option genSizeOf false
set_option genInjectivity false
namespace Mine
open PySem PySem.W PySem.Calls PyProof.Rows

section
variable {X : Cx} {n : Nat}

/-- the cases of classes and instances, to be given -/
structure Objs (X : Cx) (n : Nat) : Prop where
  call : ∀ (sc : Scope) (fz : Bool) (f : PE) (as : PEs) (x : Str) (p : Pos) (vs : List Expr) (pos : Pos), SE X n sc f (.Name x p) → SEs X n sc as vs → chkEs X.nm sc as vs = true → SE X n sc (.call fz f as) (.Call (.Name x p) vs [] pos)
  meth : ∀ (sc : Scope) (fz : Bool) (o : PE) (m : Nat) (as : PEs) (v : Expr) (ap pos : Pos) (vs : List Expr), SE X n sc o v → SEs X n sc as vs → chkEs X.nm sc as vs = true → notSuper v = true → vs.length ≤ 20 → (ap.endLine == pos.line) = true → SE X n sc (.meth fz o m as) (.Call (.Attribute v (X.nm m) ap) vs [] pos)
  attr : ∀ (sc : Scope) (e : PE) (m : Nat) (v : Expr) (pos : Pos), SE X n sc e v → notSuper v = true → SE X n sc (.attr e m) (.Attribute v (X.nm m) pos)
  asgA : ∀ (sc : Scope) (o e : PE) (m : Nat) (v x : Expr) (p pos : Pos), SE X n sc e x → SE X n sc o v → S1 X n sc (.assign (.attr o m) e) (.Assign [.Attribute v (X.nm m) p] x pos)
  augL : ∀ (sc : Scope) (i : Nat) (op : BOp) (e : PE) (x : Expr) (p pos : Pos), SE X n sc e x → kStore sc (X.nm i) = true → kLoc sc (X.nm i) = true → nDbg (X.nm i) = true → S1 X n sc (.augLoc i op e) (.AugAssign (.Name (X.nm i) p) (opOf op) x pos)
  augA : ∀ (sc : Scope) (o e : PE) (m : Nat) (op : BOp) (v x : Expr) (p pos : Pos), SE X n sc e x → SE X n sc o v → S1 X n sc (.augAttr o m op e) (.AugAssign (.Attribute v (X.nm m) p) (opOf op) x pos)

/-- what is shown of an expression: as a value, as a test, as what is stored -/
structure PO (X : Cx) (n : Nat) (sc : Scope) (p : PE) (e : Expr) : Prop where
  se : SE X n sc p e
  st : plainTest e = true → ST X n sc (.e p) e
  as : ∀ (i : Nat) (y : Str) (q pos : Pos), y = X.nm i → kStore sc y = true → S1 X n sc (.assign (.loc i) p) (.Assign [.Name y q] e pos)
theorem xu_to {P : Expr → Prop} {e : Expr} {k : Nat} (t : tg e k = true) (hk : Nat.blt k 16 = true) (h : P (back (xu e) k)) : P e := @Eq.subst Expr P _ _ (xu_is t hk).symm h
theorem tag_eq {e : Expr} {k : Nat} (t : tg e k = true) : (xu e).tag = k := Nat.eq_of_beq_eq_true t
theorem e_of (K : CxOk X) {sc : Scope} {p : PE} {e : Expr} {k : Nat} (t : tg e k = true) (hk : (Nat.blt k 16 && Nat.ble 1 k && Nat.ble k 14 && !Nat.beq k 6) = true) (h : SE X n sc p (back (xu e) k)) : PO X n sc p e := and4_e hk fun h1 h2 h3 h4 =>
  have s : SE X n sc p e := xu_to (P := SE X n sc p) t h1 h
  ⟨s, fun q => snd_T s q (by unfold tg; rw [tag_eq t]; exact Bool.not_eq_true' _ ▸ h4), fun i y q pos hy hk => snd_assign_loc K s hy hk (by rw [tag_eq t]; exact h2) (by rw [tag_eq t]; exact h3)⟩
theorem kw_one {kw : List Keyword} {G : List Keyword → Prop} (h : isRv kw = true) (g : ∀ k p kp, G [⟨some (Str.ofString "reverse"), .Constant (.bool true) k p, kp⟩]) : G kw := on_e h fun w hw h => and3_e h fun h1 h2 h3 => by
  obtain ⟨a, v, kp⟩ := w
  cases (of_decide_eq_true h1 : a = some (Str.ofString "reverse"))
  rw [one_ok hw]
  refine xu_to (P := fun b => G [⟨_, b, kp⟩]) h2 rfl ?_
  have h3 : (xu v).v = .bool true := of_decide_eq_true h3
  show G [⟨_, .Constant (xu v).v _ _, kp⟩]
  rw [h3]
  exact g _ _ _
theorem e_cmp (K : CxOk X) {sc : Scope} {p : PE} {e : Expr} (t : tg e 6 = true) (h : SE X n sc p (back (xu e) 6)) (h' : ST X n sc (.e p) (back (xu e) 6)) : PO X n sc p e :=
  have s : SE X n sc p e := xu_to (P := SE X n sc p) t rfl h
  ⟨s, fun _ => xu_to (P := ST X n sc (.e p)) t rfl h', fun i y q pos hy hk => snd_assign_loc K s hy hk (by rw [tag_eq t]; rfl) (by rw [tag_eq t]; rfl)⟩

noncomputable def gE (X : Cx) (n : Nat) (p : PE) : Prop := ∀ (sc : Scope) (e : Expr), chkE X.nm sc p e = true → PO X n sc p e
structure PL (X : Cx) (n : Nat) (sc : Scope) (p : PEs) (es : List Expr) : Prop where
  ls : SEs X n sc p es
  bo : SBool X n sc p es
noncomputable def gEs (X : Cx) (n : Nat) (p : PEs) : Prop := ∀ (sc : Scope) (es : List Expr), chkEs X.nm sc p es = true → PL X n sc p es
noncomputable def gO (X : Cx) (n : Nat) (p : PEo) : Prop := ∀ (sc : Scope) (e : Option Expr), chkO X.nm sc p e = true → SO X n sc p e
noncomputable def gT (X : Cx) (n : Nat) (p : PC) : Prop := ∀ (sc : Scope) (e : Expr), chkT X.nm sc p e = true → ST X n sc p e
noncomputable def gTs (X : Cx) (n : Nat) (p : PCs) : Prop := ∀ (sc : Scope) (es : List Expr), chkTs X.nm sc p es = true → SAll X n sc p es
noncomputable def gC (X : Cx) (n : Nat) (p : PCo) : Prop := ∀ (sc : Scope) (es : List Expr), chkIf X.nm sc p es = true → SCo X n sc p es

section
variable (K : CxOk X) (O : Objs X n)
include K
theorem e_cst (v : V) : gE X n (.cst v) := fun sc e h => and_e h fun t c => e_of K t rfl (snd_cst c)
theorem e_loc (i : Nat) : gE X n (.loc i) := fun sc e h => and4_e h fun t a b c => e_of K t rfl (snd_loc (of_decide_eq_true a) b c)
theorem e_glob (i : Nat) : gE X n (.glob i) := fun sc e h => and4_e h fun t a b c => e_of K t rfl (snd_glob K (of_decide_eq_true a) b c)
theorem e_bin (fz : Bool) (op : BOp) (l r : PE) (hl : gE X n l) (hr : gE X n r) : gE X n (.bin fz op l r) := fun sc e h => and4_e h fun t o a b => e_of K t rfl (by
  show SE X n sc _ (.BinOp (xu e).a (xu e).o (xu e).b (xu e).p)
  rw [of_decide_eq_true o]; exact snd_bin (hl sc _ a).se (hr sc _ b).se)
theorem e_neg (a : PE) (ha : gE X n a) : gE X n (.neg a) := fun sc e h => and3_e h fun t o a => e_of K t rfl (by
  show SE X n sc _ (.UnaryOp (xu e).u (xu e).a (xu e).p)
  rw [of_decide_eq_true o]; exact snd_neg (ha sc _ a).se)
theorem e_not (a : PE) (ha : gE X n a) : gE X n (.not a) := fun sc e h => and3_e h fun t o a => e_of K t rfl (by
  show SE X n sc _ (.UnaryOp (xu e).u (xu e).a (xu e).p)
  rw [of_decide_eq_true o]; exact snd_not (ha sc _ a).se)
theorem e_cmp1 (op : COp) (l r : PE) (hl : gE X n l) (hr : gE X n r) : gE X n (.cmp op l r) := fun sc e h => and_e h fun t h => on_e h fun o ho h => on_e h fun r' hr' h => and3_e h fun h0 h1 h2 => by
  have f : ∀ {P : Expr → Prop}, P (.Compare (xu e).a [cmpOf op] [r'] (xu e).p) → P (back (xu e) 6) := fun {P} q => by
    show P (Expr.Compare (xu e).a (xu e).cs (xu e).l (xu e).p)
    rw [one_ok ho, one_ok hr', of_decide_eq_true h0]; exact q
  exact e_cmp K t (f (snd_cmp (hl sc _ h1).se (hr sc _ h2).se (chk_tag h2).2)) (f (snd_cmpT (hl sc _ h1).se (hr sc _ h2).se (chk_tag h2).2))
theorem e_and (es : PEs) (he : gEs X n es) : gE X n (.and es) := fun sc e h => and3_e h fun t o a => e_of K t rfl (by
  show SE X n sc _ (.BoolOp (xu e).bo (xu e).l (xu e).p)
  rw [of_decide_eq_true o]; exact fun A env Pv W σ s Q ok at_ hw => (he sc _ a).bo A env Pv W σ s Q _ ok at_ hw)
theorem e_ite (c : PC) (a b : PE) (hc : gT X n c) (ha : gE X n a) (hb : gE X n b) : gE X n (.ite c a b) := fun sc e h => and4_e h fun t h0 h1 h2 => e_of K t rfl (snd_ite (hc sc _ h0) (ha sc _ h1).se (hb sc _ h2).se)
theorem e_list (fz : Bool) (es : PEs) (he : gEs X n es) : gE X n (.list fz es) := fun sc e h => and_e h fun t h0 => e_of K t rfl (snd_list (he sc _ h0).ls h0)
theorem e_tup (es : PEs) (he : gEs X n es) : gE X n (.tup es) := fun sc e h => and_e h fun t h0 => e_of K t rfl (snd_tup (he sc _ h0).ls h0)
theorem e_dict : gE X n .dict := fun sc e h => and3_e h fun t h2 h3 => e_of K t rfl (by
  show SE X n sc _ (.Dict (xu e).os (xu e).l (xu e).p)
  rw [empty_ok h2, empty_ok h3]
  exact snd_dict0 K)
theorem e_idx (a i : PE) (ha : gE X n a) (hi : gE X n i) : gE X n (.idx a i) := fun sc e h => and3_e h fun t h0 h1 => e_of K t rfl (snd_idx (ha sc _ h0).se (hi sc _ h1).se)
theorem e_sl (fz : Bool) (a : PE) (lo hi : PEo) (ha : gE X n a) (hl : gO X n lo) (hh : gO X n hi) : gE X n (.sl fz a lo hi) := fun sc e h => and6_e h fun t t' h0 h1 h2 h3 => e_of K t rfl (by
  show SE X n sc _ (.Subscript (xu e).a (xu e).b (xu e).p)
  refine xu_to (P := fun b => SE X n sc _ (.Subscript (xu e).a b (xu e).p)) t' rfl ?_
  show SE X n sc _ (.Subscript (xu e).a (.Slice (xu (xu e).b).o0 (xu (xu e).b).o1 (xu (xu e).b).o2 (xu (xu e).b).p) (xu e).p)
  rw [x0_ok h3]; exact snd_sl (ha sc _ h0).se (hl sc _ h1) (hh sc _ h2))
theorem e_comp (fz : Bool) (elt : PE) (ts : List Nat) (it : PE) (cond : PCo) (he : gE X n elt) (hi : gE X n it) (hc : gC X n cond) : gE X n (.comp fz elt ts it cond) := fun sc e h => and_e h fun t h => on_e h fun g hg h => and6_e h fun h1 h2 h3 h4 h5 h7 => by
  have f : ∀ {P : Expr → Prop}, P (.ListComp (xu e).a [⟨g.target, g.iter, g.ifs, 0⟩] (scOf (xu e)) (xu e).p) → P e := fun {P} q => xu_to (P := P) t rfl (by
    show P (.ListComp (xu e).a (xu e).gs (scOf (xu e)) (xu e).p)
    have h7 : g.is_async = 0 := of_decide_eq_true h7
    rw [one_ok hg]
    cases g
    cases h7
    exact q)
  have s : SE X n sc (.comp fz elt ts it cond) e := f (P := SE X n sc _) (snd_comp (hi sc _ h3).se (he _ _ h1).se (hc _ _ h4) h2 h5 (chk_tag h3).2 K)
  exact ⟨s, fun q => snd_T s q (by unfold tg; rw [tag_eq t]; rfl), fun i y q pos hy hk => f (P := fun e => S1 X n sc _ (.Assign [.Name y q] e pos)) (snd_assign_comp (hi sc _ h3).se (he _ _ h1).se (hc _ _ h4) h2 h5 (chk_tag h3).2 K hy hk)⟩
include O
theorem e_attr (o : PE) (m : Nat) (ho : gE X n o) : gE X n (.attr o m) := fun sc e h => and4_e h fun t a b c => e_of K t rfl (by
  show SE X n sc _ (.Attribute (xu e).a (xu e).s (xu e).p)
  rw [of_decide_eq_true b]; exact O.attr sc o m _ _ (ho sc _ a).se c)
theorem e_call (fz : Bool) (f : PE) (as : PEs) (hf : gE X n f) (ha : gEs X n as) : gE X n (.call fz f as) := fun sc e h => and5_e h fun t t' h0 h1 h2 => e_of K t rfl (by
  show SE X n sc _ (.Call (xu e).a (xu e).l (xu e).kw (xu e).p)
  have s := (hf sc _ h0).se
  rw [xu_is t' rfl] at s
  refine xu_to (P := fun b => SE X n sc _ (.Call b (xu e).l (xu e).kw (xu e).p)) t' rfl ?_
  rw [empty_ok h2]; exact O.call sc fz f as _ _ _ _ s (ha sc _ h1).ls h1)
theorem e_srv (fz : Bool) (i : Nat) (a : PE) (ha : gE X n a) : gE X n (.sortedRev fz i a) := fun sc e h => and5_e h fun t t' h0 h1 h2 => and3_e h0 fun g1 g2 g3 => on_e h1 fun y hy h1 => e_of K t rfl (by
  show SE X n sc _ (.Call (xu e).a (xu e).l (xu e).kw (xu e).p)
  rw [one_ok hy]
  refine xu_to (P := fun b => SE X n sc _ (.Call b [y] (xu e).kw (xu e).p)) t' rfl ?_
  exact kw_one (G := fun kw => SE X n sc _ (.Call (.Name (xu (xu e).a).s (xu (xu e).a).p) [y] kw (xu e).p)) h2 fun k p kp => snd_srv K (snd_glob K (of_decide_eq_true g1) g2 g3) (ha sc y h1).se h1)
theorem e_meth (fz : Bool) (o : PE) (m : Nat) (as : PEs) (ho : gE X n o) (ha : gEs X n as) : gE X n (.meth fz o m as) := fun sc e h => and6_e h fun t t' h0 h1 h2 h3 => and4_e h3 fun g1 g2 g3 g4 => e_of K t rfl (by
  show SE X n sc _ (.Call (xu e).a (xu e).l (xu e).kw (xu e).p)
  refine xu_to (P := fun b => SE X n sc _ (.Call b (xu e).l (xu e).kw (xu e).p)) t' rfl ?_
  show SE X n sc _ (.Call (.Attribute (xu (xu e).a).a (xu (xu e).a).s (xu (xu e).a).p) (xu e).l (xu e).kw (xu e).p)
  rw [empty_ok g3, of_decide_eq_true h1]
  exact O.meth sc fz o m as _ _ _ _ (ho sc _ h0).se (ha sc _ h2).ls h2 g1 (Nat.le_of_ble_eq_true g2) (beq_iff_eq.mpr (Nat.eq_of_beq_eq_true g4)))
end
theorem es_nil : gEs X n .nil := fun sc es h => by rw [empty_ok h]; exact ⟨snd_es_nil, snd_bool_nil⟩
theorem es_cons (c : PE) (r : PEs) (hc : gE X n c) (hr : gEs X n r) : gEs X n (.cons c r) := fun sc es h => on_e h fun x hx h => and_e h fun h1 h2 => by
  have ih := hr sc _ h2
  have hc := (hc sc x h1).se
  rw [head_ok hx]
  refine ⟨snd_es_cons hc ih.ls, ?_⟩
  cases r with
  | nil => rw [empty_ok h2]; exact snd_bool_one hc
  | cons d r' =>
    refine on_e h2 fun y hy _ => ?_
    have b := ih.bo
    rw [head_ok hy] at b ⊢
    exact snd_bool_cons hc b
theorem o_none : gO X n .none := fun sc e h => by rw [x0_ok h]; exact snd_o_none
theorem o_some (a : PE) (ha : gE X n a) : gO X n (.some a) := fun sc e h => on_e h fun x hx h => by rw [hx]; exact snd_o_some (ha sc x h).se
theorem t_e (a : PE) (ha : gE X n a) : gT X n (.e a) := fun sc e h => and_e h fun h0 h1 => (ha sc e h1).st h0
theorem t_not (c : PC) (hc : gT X n c) : gT X n (.not c) := fun sc e h => and3_e h fun t o a => xu_to (P := ST X n sc _) t rfl (by
  show ST X n sc _ (.UnaryOp (xu e).u (xu e).a (xu e).p)
  rw [of_decide_eq_true o]; exact snd_notT (hc sc _ a))
theorem t_and (cs : PCs) (hc : gTs X n cs) : gT X n (.and cs) := fun sc e h => and3_e h fun t o a => xu_to (P := ST X n sc _) t rfl (by
  show ST X n sc _ (.BoolOp (xu e).bo (xu e).l (xu e).p)
  rw [of_decide_eq_true o]; exact snd_andT (hc sc _ a))
theorem t_or (cs : PCs) (hc : gTs X n cs) : gT X n (.or cs) := fun sc e h => and3_e h fun t o a => xu_to (P := ST X n sc _) t rfl (by
  show ST X n sc _ (.BoolOp (xu e).bo (xu e).l (xu e).p)
  rw [of_decide_eq_true o]; exact snd_orT (hc sc _ a))
theorem ts_nil : gTs X n .nil := fun sc es h => by rw [empty_ok h]; exact snd_all_nil
theorem ts_cons (c : PC) (r : PCs) (hc : gT X n c) (hr : gTs X n r) : gTs X n (.cons c r) := fun sc es h => on_e h fun x hx h => and_e h fun h1 h2 => by
  rw [head_ok hx]; exact snd_all_cons (hc sc x h1) (hr sc _ h2)
theorem c_none : gC X n .none := fun sc es h => by rw [empty_ok h]; exact snd_c_nil
theorem c_some (c : PC) (hc : gT X n c) : gC X n (.some c) := fun sc es h => on_e h fun x hx h => by rw [one_ok hx]; exact snd_c_one (hc sc x h)
section
variable (K : CxOk X) (O : Objs X n)
include K O
theorem sndE (p : PE) : gE X n p :=
  PE.rec (motive_1 := gE X n) (motive_2 := gEs X n) (motive_3 := gO X n) (motive_4 := gT X n) (motive_5 := gTs X n) (motive_6 := gC X n)
    (e_cst K) (e_loc K) (e_glob K) (e_attr K O) (e_bin K) (e_neg K) (e_not K) (e_cmp1 K) (e_and K) (e_ite K) (e_list K) (e_tup K) (e_dict K) (e_idx K) (e_sl K) (e_call K O) (e_srv K O) (e_meth K O) (e_comp K)
    es_nil es_cons o_none o_some t_e t_not t_and t_or ts_nil ts_cons c_none c_some p
theorem sndT (p : PC) : gT X n p :=
  PC.rec (motive_1 := gE X n) (motive_2 := gEs X n) (motive_3 := gO X n) (motive_4 := gT X n) (motive_5 := gTs X n) (motive_6 := gC X n)
    (e_cst K) (e_loc K) (e_glob K) (e_attr K O) (e_bin K) (e_neg K) (e_not K) (e_cmp1 K) (e_and K) (e_ite K) (e_list K) (e_tup K) (e_dict K) (e_idx K) (e_sl K) (e_call K O) (e_srv K O) (e_meth K O) (e_comp K)
    es_nil es_cons o_none o_some t_e t_not t_and t_or ts_nil ts_cons c_none c_some p
theorem sndO (p : PEo) : gO X n p := by
  cases p with
  | none => exact o_none
  | some a => exact o_some a (sndE K O a)
end
end
end Mine

end

section
set_option autoImplicit false
set_option linter.all false
set_option genSizeOf false
set_option genInjectivity false
namespace Mine
open PySem PySem.W PySem.Calls PyProof.Rows

section
variable {X : Cx} {n : Nat}
noncomputable def gS (X : Cx) (n : Nat) (p : PS) : Prop := ∀ (sc : Scope) (e : Stmt), chkS X.nm sc p e = true → S1 X n sc p e
noncomputable def gSs (X : Cx) (n : Nat) (p : PSs) : Prop := ∀ (sc : Scope) (es : List Stmt), chkSs X.nm sc p es = true → SS X n sc p es
theorem su_to {P : Stmt → Prop} {e : Stmt} {k : Nat} (t : sg e k = true) (hk : Nat.ble 1 k = true) (h : P (sback (su e) k)) : P e := @Eq.subst Stmt P _ _ (su_is t hk).symm h
theorem nm_e {c : Nat → Str} {sc : Scope} {i : Nat} {e : Expr} {G : Prop} (h : chkNm c sc i e = true) (g : e = .Name (c i) (xu e).p → (xu e).s = c i → kStore sc (c i) = true → G) : G := and3_e h fun t a b =>
  have a := of_decide_eq_true a
  g ((xu_is t rfl).trans (congrArg (Expr.Name · (xu e).p) a)) a (a ▸ b)
section
variable (K : CxOk X) (O : Objs X n)
include K O
theorem s_expr (a : PE) : gS X n (.expr a) := fun sc e h => and3_e h fun t h1 h2 => su_to t rfl (snd_expr (sndE K O a sc _ h1).se h2)
theorem s_assign (t : PT) (a : PE) : gS X n (.assign t a) := fun sc e h => and_e h fun tt h => on_e h fun y hy h => and3_e h fun h1 h2 h9 => su_to tt rfl (by
  show S1 X n sc _ (.Assign (su e).l (su e).a (su e).p)
  rw [one_ok hy]
  cases t with
  | loc i => exact nm_e h1 fun e1 e2 hk => e1 ▸ (sndE K O a sc _ h2).as i _ _ _ rfl hk
  | attr o m =>
    refine and3_e h1 fun t h3 h4 => xu_to (P := fun y => S1 X n sc _ (.Assign [y] (su e).a (su e).p)) t rfl ?_
    show S1 X n sc _ (.Assign [.Attribute (xu y).a (xu y).s (xu y).p] (su e).a (su e).p)
    rw [of_decide_eq_true h3]
    exact O.asgA sc o a m _ _ _ _ (sndE K O a sc _ h2).se (sndE K O o sc _ h4).se
  | idx o i => exact and3_e h1 fun t h3 h4 => xu_to (P := fun y => S1 X n sc _ (.Assign [y] (su e).a (su e).p)) t rfl (snd_assign_idx (sndE K O a sc _ h2).se (sndE K O o sc _ h3).se (sndE K O i sc _ h4).se)
  | tup is => exact and3_e h1 fun t _ h3 => and_e h9 fun g1 g2 => xu_to (P := fun y => S1 X n sc _ (.Assign [y] (su e).a (su e).p)) t rfl (snd_assign_tup K (sndE K O a sc _ h2).se h3 (chk_tag h2).1 g2 (Bool.not_eq_true' _ ▸ g1)))
theorem s_augL (i : Nat) (op : BOp) (a : PE) : gS X n (.augLoc i op a) := fun sc e h => and6_e h fun t h1 h2 h3 h4 h5 => su_to t rfl (by
  show S1 X n sc _ (.AugAssign (su e).a (su e).o (su e).b (su e).p)
  refine nm_e h1 fun e1 e2 hk => ?_
  rw [e2] at h2 h3
  rw [e1, of_decide_eq_true h4]
  exact O.augL sc i op a _ _ _ (sndE K O a sc _ h5).se hk h2 h3)
theorem s_augA (o : PE) (m : Nat) (op : BOp) (a : PE) : gS X n (.augAttr o m op a) := fun sc e h => and6_e h fun t t' h1 h2 h3 h4 => su_to t rfl (by
  show S1 X n sc _ (.AugAssign (su e).a (su e).o (su e).b (su e).p)
  rw [of_decide_eq_true h2]
  refine xu_to (P := fun y => S1 X n sc _ (.AugAssign y (opOf op) (su e).b (su e).p)) t' rfl ?_
  show S1 X n sc _ (.AugAssign (.Attribute (xu (su e).a).a (xu (su e).a).s (xu (su e).a).p) (opOf op) (su e).b (su e).p)
  rw [of_decide_eq_true h1]
  exact O.augA sc o a m op _ _ _ _ (sndE K O a sc _ h4).se (sndE K O o sc _ h3).se)
theorem s_ret (a : PEo) : gS X n (.ret a) := fun sc e h => and_e h fun t h => su_to t rfl (by
  show S1 X n sc _ (.Return (su e).o0 (su e).p)
  cases a with
  | none => rw [x0_ok h]; exact snd_ret_none
  | some a => exact on_e h fun x hx h => hx ▸ snd_ret (sndE K O a sc x h).se)
theorem s_ite (c : PC) (a b : PSs) (ha : gSs X n a) (hb : gSs X n b) : gS X n (.ite c a b) := fun sc e h => and4_e h fun t h1 h2 h3 => su_to t rfl (snd_if (sndT K O c sc _ h1) (ha sc _ h2) (hb sc _ h3))
theorem s_loop (ts : List Nat) (it : PE) (body : PSs) (hb : gSs X n body) : gS X n (.loop ts it body) := fun sc e h => and5_e h fun t h1 h2 h3 h4 => su_to t rfl (by
  show S1 X n sc _ (.For (su e).a (su e).b (su e).b0 (su e).b1 (su e).p)
  rw [empty_ok h4]
  refine on_e h1 fun j hj h1 => nm_e h1 fun e1 e2 hk => snd_loop K (sndE K O it sc _ h2).se (hb sc _ h3) ?_ (chk_tag h2).2
  rw [one_ok hj, e1]
  exact bnd_name K rfl hk)
theorem s_while (c : PC) (body : PSs) (hb : gSs X n body) : gS X n (.while_ c body) := fun sc e h => and4_e h fun t h1 h2 h3 => su_to t rfl (by
  show S1 X n sc _ (.While (su e).a (su e).b0 (su e).b1 (su e).p)
  rw [empty_ok h3]; exact snd_while (sndT K O c sc _ h1) (hb sc _ h2))
theorem s_raise : gS X n .raise := fun sc e _ A env Pv W σ s Q ok hf at_ h => h.elim
end
theorem ss_nil : gSs X n .nil := fun sc es h => by rw [empty_ok h]; exact snd_ss_nil
theorem ss_cons (c : PS) (r : PSs) (hc : gS X n c) (hr : gSs X n r) : gSs X n (.cons c r) := fun sc es h => on_e h fun x hx h => and_e h fun h1 h2 => by
  rw [head_ok hx]; exact snd_ss_cons (hc sc x h1) (hr sc _ h2)
theorem sndSs (K : CxOk X) (O : Objs X n) (p : PSs) : gSs X n p :=
  PSs.rec (motive_1 := gS X n) (motive_2 := gSs X n) (s_expr K O) (s_assign K O) (s_augL K O) (s_augA K O) (s_ret K O) (s_ite K O) (s_loop K O) (s_while K O) (s_raise K O) ss_nil ss_cons p
end
end Mine

end

section
set_option autoImplicit false
set_option linter.all false
set_option genSizeOf false
set_option genInjectivity false
namespace Mine
open PySem PySem.W PySem.Calls PyProof.Rows

section
variable {X : Cx} {n : Nat}

theorem cells_some (names : List (Str × NameKind)) : ∀ (k : Nat) (acc : List (Str × Addr)) (x : Str), ((x, NameKind.cell) ∈ names ∨ ∃ c, acc.lookup x = some c) → ∃ c, (cellsFrom k names acc).lookup x = some c := by
  induction names with
  | nil => exact fun _ _ _ h => h.elim (fun q => (nomatch q)) id
  | cons p r ih =>
    intro k acc x h
    obtain ⟨y, kd⟩ := p
    unfold cellsFrom
    split
    · refine ih (k + 1) ((y, k) :: acc) x ?_
      rcases h with h | ⟨c, h⟩
      · rcases List.mem_cons.mp h with q | q
        · cases q; exact .inr ⟨k, lookup_eq (beq_self_eq_true x)⟩
        · exact .inl q
      · cases hb : x == y with
        | true => exact .inr ⟨k, lookup_eq hb⟩
        | false => exact .inr ⟨c, (lookup_ne hb).trans h⟩
    · rename_i hk
      refine ih k acc x (h.imp (fun h => ?_) id)
      rcases List.mem_cons.mp h with q | q
      · cases q; exact absurd rfl hk
      · exact q

/-- the names bound at a call's start -/
structure BR (X : Cx) (W : Wd) (kd : Str → Option NameKind) (loc : Loc) (m cm : Str → Option Value) : Prop where
  l : ∀ i v, loc i = some v → kd (X.nm i) = some .local → MmR X W m i v
  c : ∀ i v, loc i = some v → kd (X.nm i) ≠ some .local → MmR X W cm i v
theorem bindP_e {ps : List Nat} {p : Nat} {as : List V} {l₀ l : Loc} {G : Prop} (h : bindP (p :: ps) as l₀ = some l) (g : ∀ a as', as = a :: as' → bindP ps as' (upd l₀ p a) = some l → G) : G := by
  cases as with
  | nil => cases h
  | cons a as => exact g a as rfl h
theorem bindP_nil {as : List V} {l₀ l : Loc} (h : bindP [] as l₀ = some l) : as = [] ∧ l = l₀ := by
  cases as with
  | nil => exact ⟨rfl, (Option.some.inj h).symm⟩
  | cons _ _ => cases h
theorem bind_rel (K : CxOk X) {W : Wd} {kd : Str → Option NameKind} (ps : List Nat) : ∀ (vs : List Value) (as : List V) (l₀ l : Loc) (m cm : Str → Option Value), VRs X W vs as → bindP ps as l₀ = some l → BR X W kd l₀ m cm → BR X W kd l (PySem.bindL kd ((ps.map X.nm).zip vs) m) (PySem.bindC kd ((ps.map X.nm).zip vs) cm) := by
  induction ps with
  | nil =>
    intro vs as l₀ l m cm hv hb h
    rw [(bindP_nil hb).2]; exact h
  | cons p ps ih =>
    intro vs as l₀ l m cm hv hb h
    refine bindP_e hb fun a as' e hb' => ?_
    subst e
    cases hv with
    | @cons v vs _ _ hv hvs =>
      have key : ∀ i u, upd l₀ p a i = some u → (i = p ∧ u = a) ∨ (X.nm i ≠ X.nm p ∧ l₀ i = some u) := fun i u e => by
        have e' : (if i = p then some a else l₀ i) = some u := e
        by_cases hi : i = p
        · rw [if_pos hi] at e'; exact .inl ⟨hi, (Option.some.inj e').symm⟩
        · rw [if_neg hi] at e'; exact .inr ⟨fun q => hi (K.inj _ _ q), e'⟩
      refine ih vs as' (upd l₀ p a) l _ _ hvs hb' ⟨fun i u e q => ?_, fun i u e q => ?_⟩
      · rcases key i u e with ⟨rfl, rfl⟩ | ⟨ne, e⟩
        · exact ⟨v, by rw [if_pos q, if_pos rfl], hv⟩
        · obtain ⟨cv, a1, a2⟩ := h.l i u e q
          refine ⟨cv, ?_, a2⟩
          split
          · exact (if_neg ne).trans a1
          · exact a1
      · rcases key i u e with ⟨rfl, rfl⟩ | ⟨ne, e⟩
        · exact ⟨v, by rw [if_neg q, if_pos rfl], hv⟩
        · obtain ⟨cv, a1, a2⟩ := h.c i u e q
          refine ⟨cv, ?_, a2⟩
          split
          · exact a1
          · exact (if_neg ne).trans a1
theorem bindP_len (ps : List Nat) : ∀ (as : List V) (l₀ l : Loc), bindP ps as l₀ = some l → as.length = ps.length := by
  induction ps with
  | nil => exact fun as l₀ l h => by rw [(bindP_nil h).1]; rfl
  | cons p ps ih => exact fun as l₀ l h => bindP_e h fun a as' e h => by rw [e]; exact congrArg (· + 1) (ih as' _ l h)

/-- a new place is no one's -/
theorem RelH.fresh_no {W : Wd} {H : Hp} {h : Heap} (R : RelH X W H h) {b : Addr} (hb : h.get? b = none) : ¬ Own W H b ∧ W.Z b = none := by
  refine ⟨fun q => (R.own_there q).elim fun _ e => (by rw [hb] at e; cases e), ?_⟩
  cases q : W.Z b with
  | none => rfl
  | some ob => have := R.z _ _ q; rw [hb] at this; cases this
/-- the private places of a call -/
noncomputable def callPv (fd : FuncData) (L a : Addr) (b : Addr) : Prop := b = L ∨ ∃ x, (callEnvC fd L a).cells.lookup x = some b
section
variable {A : Around} {k : Nat} {a : Addr} {as : List V} {vs : List Value} {W : Wd} {H : Hp} {s : Shared} {d : Fn} {m : Loc} {o : Obj} {fd : FuncData} {body : List Stmt}
theorem call_step (K : CxOk X) (O : Objs X n) : CallM X (n + 1) := by
  intro A k a as vs W H s Q hA hq R hv ha h
  refine need_e h fun d hd h => need_e h fun m hm h => ?_
  obtain ⟨o, fd, body, F⟩ := K.fn k a d ha hd
  have hlen : vs.length = d.params.length := by rw [hv.length]; exact bindP_len _ _ _ _ hm
  have cs : ∀ (N : Nat) x, fd.scope.names.lookup x = some .cell → ∃ c, (cellsFrom N fd.scope.names []).lookup x = some c := fun N x q => cells_some _ _ _ _ (.inl (lookup_mem q))
  refine codeAny_call_cells (by have := hA.depth; omega) (R.bkeep _ _ F.at_) F.data (K.noLim.keeps R.bkeep) (F.code.keeps R.bkeep) F.body_ (F.bind vs hlen) F.clo (fun x hx => ?_) (fun s₁ ic => ?_) F.co F.gen F.kind
  · obtain ⟨i, hi, e⟩ := List.mem_map.mp (List.of_mem_zip (show (x.1, x.2) ∈ _ from hx)).1
    rw [← e]
    rcases Bool.or_eq_true_iff.mp (F.par i hi) with q | q
    · exact .inl (knd_of (sc := fd.scope) (Nat.eq_of_beq_eq_true q) (by decide))
    · have q : fd.scope.names.lookup (X.nm i) = some .cell := knd_of (sc := fd.scope) (Nat.eq_of_beq_eq_true q) (by decide)
      exact (cs (s.heap.objs.size + 1) _ q).elim fun c hc => .inr ⟨q, by rw [hc]; rfl⟩
  generalize hL : s.heap.objs.size = L at ic ⊢
  have sn : ∀ b, L ≤ b → s.heap.get? b = none := fun b hb => Heap.get?_none_of_le (by rw [hL]; exact hb)
  obtain ⟨h₁, tk, rfl, keep⟩ := ic.done
  have ab : ∀ x c, (callEnvC fd L a).cells.lookup x = some c → L < c := fun x c q => ic.above x c (lookup_mem q)
  have pvN : ∀ b, callPv fd L a b → s.heap.get? b = none := fun b hb => hb.elim (fun q => by rw [q]; exact sn L (Nat.le_refl _)) fun ⟨x, q⟩ => sn b (Nat.le_of_lt (ab x b q))
  have S0 : Stp noPv W H s.heap W H h₁ := .quiet (fun b ob e _ => keep b ob e) fun b ob e => ⟨ob, keep b ob e⟩
  have br := bind_rel K (kd := (callEnvC fd L a).kindOf) d.params vs as (fun _ => none) m (fun _ => none) (fun _ => none) hv hm ⟨fun i v e => (by cases e), fun i v e => (by cases e)⟩
  have kc : ∀ x, (callEnvC fd L a).kindOf x = some .cell → ∃ c, (callEnvC fd L a).cells.lookup x = some c := fun x q => cs (L + 1) x q
  have kf : ∀ x, (callEnvC fd L a).kindOf x ≠ some .free := fun x q => F.free _ (lookup_mem (show fd.scope.names.lookup x = some .free from q)) rfl
  have fr : FrR X W H h₁ (callEnvC fd L a) (callPv fd L a) m := by
    refine ⟨⟨_, ic.toInCall.ns, br.l⟩, fun i v e q => ?_, fun x _ q => ?_, fun x y c q q' => name_of_addr ic.apart (lookup_mem q) (lookup_mem q'), fun x c q => ?_, .inl rfl, fun b hb => R.fresh_no (pvN b hb), fun b hb => ?_⟩
    · have q' : (callEnvC fd L a).kindOf (X.nm i) = some .cell := q.elim id fun z => absurd z (kf _)
      obtain ⟨c, hc⟩ := kc _ q'
      obtain ⟨cv, h1, h2⟩ := br.c i v e (by rw [q']; intro z; cases z)
      have hcell := ic.cell _ c hc
      rw [h1] at hcell
      exact ⟨c, cv, hc, hcell, h2⟩
    · exact (kc _ q).elim fun c hc => ⟨c, _, hc, ic.cell _ c hc, .inr ⟨x, hc⟩⟩
    · exact (ic.cell _ c q).elim fun ob ho => ⟨Nat.ne_of_gt (ab x c q), (R.fresh_no (pvN c (.inr ⟨x, q⟩))).1, ob, ho.1⟩
    · rcases hb with rfl | ⟨x, q⟩
      · obtain ⟨ob, _, _, ho, _⟩ := ic.toInCall.ns; exact ⟨ob, ho⟩
      · exact (ic.cell _ b q).elim fun ob ho => ⟨ob, ho.1⟩
  refine wpAny_mono (sndSs K O d.body fd.scope body F.chk (A.deeper (callEnvC fd L a)) (callEnvC fd L a) (callPv fd L a) W ⟨H, m⟩ { s with heap := h₁, toks := tk } _
    ⟨⟨by have := hA.depth; show A.depth + 1 + 4 * n + 6 < _; omega, by have := hA.units; show A.units + 3 + 20 * n + 110 < _; omega⟩, hq, F.kind, F.glob, F.bi, fun x k q => .inl q, fun x q => q.elim (kc x) fun z => absurd z (kf x)⟩ (by intro z; cases z) ⟨R.quiet (Pv := noPv) (fun b ob e _ => keep b ob e) fun _ z => z.elim, fr⟩ h) (fun fl s' qq => qq.e fun W' σ' T qq => qq.e fun af hfr q => ?_) fun e s' x => x.elim
  have Tc' : Tc X W H s W' σ'.H s' := ⟨S0.transFresh T.stp fun b hb => .inl (pvN b hb), T.at_.rel, ⟨T.rest.gens, T.rest.drawn, T.rest.os⟩⟩
  cases hfr with
  | ret hr => exact ⟨W', σ'.H, _, Tc', hr, q⟩
  | _ => exact ⟨W', σ'.H, _, Tc', .none, q⟩
end
theorem call_zero : CallM X 0 := fun A k a as vs W H s Q hA hq R hv ha h => h.elim
end
end Mine

end

section
set_option autoImplicit false
set_option linter.all false
set_option genSizeOf false
set_option genInjectivity false
namespace Mine
open PySem PySem.W PySem.Calls PyProof.Rows

/-- a def that a class names -/
inductive FnIs (X : Cx) (K : Frag) (c : Addr) (x : Str) (f : Nat) : Prop
  | mk (a : Addr) (ha : X.fnA f = some a) (hf : findIn K (.ref c) x = some (some (.ref a))) (ht : typeIn K (.ref a) = some (.type "function"))
/-- a class of the text's -/
structure ClAt (X : Cx) (K : Frag) (c : Addr) (cl : Cl) : Prop where
  mks : makesIn K c = true
  ga : findIn K (.ref c) "__getattribute__" = some (some (.builtin "object.__getattribute__"))
  gh : findIn K (.ref c) "__getattr__" = some none
  sa : findIn K (.ref c) "__setattr__" = some (some (.builtin "object.__setattr__"))
  po : plainOver K c = true
  hd : hasDictIn K c = true
  kp : keepIn K (.ref c) = true
  init : ∀ f, cl.init = some f → FnIs X K c "__init__" f
  meth : ∀ n f, lk cl.meths n = some f → FnIs X K c (X.nm n) f
  attr : ∀ n, n ∈ cl.attrs → findIn K (.ref c) (X.nm n) = some none
  dis : ∀ n f, lk cl.meths n = some f → n ∉ cl.attrs
/-- the classes that are made -/
structure ClsOk (X : Cx) (K : Frag) : Prop where
  inn : K.In X.hb
  cls : ∀ k c cl, X.clA k = some c → X.P.cls k = some cl → ClAt X K c cl

theorem lk_cons {α : Type} {i n : Nat} {x : α} {r : List (Nat × α)} {G : Prop} {o : Option α} (h : lk ((i, x) :: r) n = o) (g1 : i = n → o = some x → G) (g2 : i ≠ n → lk r n = o → G) : G := by
  have h : cond (Nat.beq i n) (some x) (lk r n) = o := h
  cases e : Nat.beq i n with
  | true => rw [e] at h; exact g1 (Nat.eq_of_beq_eq_true e) h.symm
  | false => rw [e] at h; exact g2 (Nat.ne_of_beq_eq_false e) h
theorem lk_in {α : Type} {l : List (Nat × α)} {i : Nat} {v : α} (h : lk l i = some v) : (i, v) ∈ l := by
  induction l with
  | nil => cases h
  | cons p r ih =>
    obtain ⟨j, u⟩ := p
    exact lk_cons h (fun e q => by cases q; subst e; exact .head _) fun _ q => .tail _ (ih q)
theorem st_cons {i n : Nat} {x y : V} {r : List (Nat × V)} {P : List (Nat × V) → Prop} (g1 : i = n → P ((i, x) :: r)) (g2 : i ≠ n → P ((i, y) :: st r n x)) : P (st ((i, y) :: r) n x) := by
  show P (cond (Nat.beq i n) ((i, x) :: r) ((i, y) :: st r n x))
  cases e : Nat.beq i n with
  | true => exact g1 (Nat.eq_of_beq_eq_true e)
  | false => exact g2 (Nat.ne_of_beq_eq_false e)
theorem st_len (n : Nat) (x : V) (fs : List (Nat × V)) : (st fs n x).length ≤ fs.length + 1 := by
  induction fs with
  | nil => exact Nat.le_refl _
  | cons p r ih =>
    obtain ⟨i, y⟩ := p
    exact st_cons (P := fun l => l.length ≤ ((i, y) :: r).length + 1) (fun _ => Nat.le_succ _) fun _ => Nat.succ_le_succ ih
theorem st_mem {n : Nat} {x : V} {fs : List (Nat × V)} {p : Nat × V} : p ∈ st fs n x → p.1 = n ∨ ∃ q ∈ fs, q.1 = p.1 := by
  induction fs with
  | nil => exact fun h => by cases List.mem_singleton.mp h; exact .inl rfl
  | cons q r ih =>
    obtain ⟨i, y⟩ := q
    refine st_cons (P := fun l => p ∈ l → p.1 = n ∨ ∃ q ∈ (i, y) :: r, q.1 = p.1) (fun e h => ?_) fun _ h => ?_
    · rcases List.mem_cons.mp h with rfl | h
      · exact .inl e
      · exact .inr ⟨p, .tail _ h, rfl⟩
    · rcases List.mem_cons.mp h with rfl | h
      · exact .inr ⟨_, .head _, rfl⟩
      · exact (ih h).imp id fun ⟨q, hq, e⟩ => ⟨q, .tail _ hq, e⟩
section
variable {X : Cx} {K : Frag} {W : Wd}
theorem str_yes {x : Str} {t : Tok} : (Value.str x t).isStr x = true := beq_self_eq_true x
theorem str_no {x y : Str} {t : Tok} (h : x ≠ y) : (Value.str x t).isStr y = false := beq_eq_false_iff_ne.mpr h
inductive Fnd (X : Cx) (W : Wd) (es : List DictEntry) (y : Str) (x : V) : Prop
  | mk (e : DictEntry) (h : es.find? (fun d => d.key.isStr y) = some e) (r : VR X W e.val x)
theorem FVs.find {n : Nat} (inj : ∀ i j, X.nm i = X.nm j → i = j) {es : List DictEntry} {fs : List (Nat × V)} (h : FVs X W es fs) : (∀ x, lk fs n = some x → Fnd X W es (X.nm n) x) ∧ (lk fs n = none → es.find? (fun d => d.key.isStr (X.nm n)) = none) := by
  induction h with
  | nil => exact ⟨fun _ e => by (cases e), fun _ => rfl⟩
  | @cons i hh t v x es fs a r ih =>
    refine ⟨fun y e => lk_cons e (fun q z => ?_) fun q z => ?_, fun e => lk_cons e (fun q z => by cases z) fun q z => ?_⟩
    · cases z; subst q; exact ⟨_, by rw [List.find?_cons, str_yes], a⟩
    · obtain ⟨en, he, r⟩ := ih.1 y z
      exact ⟨en, by rw [List.find?_cons, str_no fun w => q (inj _ _ w)]; exact he, r⟩
    · rw [List.find?_cons, str_no fun w => q (inj _ _ w)]; exact ih.2 z
theorem FVs.noRef {es : List DictEntry} {fs : List (Nat × V)} (h : FVs X W es fs) : es.any (·.refKey) = false := by
  induction h with
  | nil => rfl
  | cons a r ih => rw [List.any_cons, ih]; rfl
theorem FVs.put {n : Nat} {hsh : Int} {t : Tok} {v : Value} {x : V} (inj : ∀ i j, X.nm i = X.nm j → i = j) (hv : VR X W v x) {es : List DictEntry} {fs : List (Nat × V)} (h : FVs X W es fs) : FVs X W (putL (X.nm n) hsh (.str (X.nm n) t) v es) (st fs n x) := by
  induction h with
  | nil => exact .cons hv .nil
  | @cons i hh t' v' x' es fs a r ih =>
    refine st_cons (P := FVs X W (putL (X.nm n) hsh (.str (X.nm n) t) v (⟨hh, .str (X.nm i) t', v'⟩ :: es))) (fun q => ?_) fun q => ?_
    · subst q
      rw [putL, if_pos str_yes]; exact .cons hv r
    · rw [putL, if_neg (fun z => by rw [str_no fun w => q (inj _ _ w)] at z; cases z)]; exact .cons a ih
theorem FVs.len {es : List DictEntry} {fs : List (Nat × V)} (h : FVs X W es fs) : es.length = fs.length := by
  induction h with
  | nil => rfl
  | cons a r ih => exact congrArg (· + 1) ih

/-- what is known of an object of the text's -/
structure Inst (X : Cx) (K : Frag) (W : Wd) (h : Heap) (l : Addr × Addr) (k : Nat) (fs : List (Nat × V)) (c : Addr) (cl : Cl) (es : Array DictEntry) (n : Nat) : Prop where
  ca : X.clA k = some c
  cl_ : X.P.cls k = some cl
  ob : h.get? l.1 = some (instO c l.2)
  dc : h.get? l.2 = some (dictO es n)
  fv : FVs X W es.toList fs
  ne : l.2 ≠ l.1
  at_ : ∀ p ∈ fs, p.1 ∈ cl.attrs
  sz : fs.length ≤ 1000
  ok : ClAt X K c cl
  inn : K.In h
theorem Inst.of {H : Hp} {h : Heap} {i : Nat} {l : Addr × Addr} {k : Nat} {fs : List (Nat × V)} (C : ClsOk X K) (R : RelH X W H h) (hi : H.get i = some (.inst k fs)) (hl : W.φ i = some l) {G : Prop} (g : ∀ c cl es n, Inst X K W h l k fs c cl es n → G) : G := by
  obtain ⟨c, cl, es, n, a, a', b, d, f, ne, gg, z⟩ := R.at_ hi hl
  exact g c cl es n ⟨a, a', b, d, f, ne, gg, z, C.cls _ _ _ a a', fun x o q => R.bkeep x o (C.inn x o q)⟩
theorem Inst.inst {h : Heap} {l : Addr × Addr} {k : Nat} {fs : List (Nat × V)} {c : Addr} {cl : Cl} {es : Array DictEntry} {n : Nat} (I : Inst X K W h l k fs c cl es n) : InstAt h l.1 (instO c l.2) c (some (dictO es n)) := ⟨I.ob, rfl, rfl, I.dc⟩
theorem bval_handed (b : B) : handedIn (bval b) = true := by cases b <;> decide +kernel
theorem handed {v : Value} {x : V} (h : VR X W v x) : handedIn v = true := by
  cases h with
  | bt b => exact bval_handed b
  | _ => rfl

section
variable {A : Around} {H : Hp} {s : Shared} {E : Value → Shared → Prop} {l : Addr × Addr} {k : Nat} {fs : List (Nat × V)} {c : Addr} {cl : Cl} {es : Array DictEntry} {n : Nat} (inj : ∀ i j, X.nm i = X.nm j → i = j) (I : Inst X K W s.heap l k fs c cl es n)
include inj I
/-- reading a thing of an object's own -/
theorem get_ok {m : Nat} {x : V} {ex : Bool} {Q : Value → Shared → Prop} (e : lk fs m = some x)
    (h : ∀ v, VR X W v x → Q v { s with toks := s.toks + 1 }) : wpAny (model X.prog X.w) A (getAttr (.ref l.1) (X.nm m) ex) Q E s := by
  obtain ⟨en, he, hv⟩ := (I.fv.find inj (n := m)).1 x e
  have hl : lookIn (X.nm m) (dictO es n) = some (some en.val) := by
    unfold lookIn
    simp only [he]
  exact get_value I.inn I.inst I.ok.ga (findObj_own I.ok.hd (I.ok.attr m (I.at_ _ (lk_in e))) rfl hl) (handed hv) (h _ hv)
theorem none_ok {m : Nat} (e : lk fs m = none) : lookIn (X.nm m) (dictO es n) = some none := by
  unfold lookIn
  simp only [(I.fv.find inj (n := m)).2 e, I.fv.noRef]
  rfl
/-- a method of the class -/
theorem meth_ok {m f : Nat} {pl : Sem Bool} {Q : Value × List Value → Shared → Prop} (e : lk cl.meths m = some f)
    (h : ∀ a, X.fnA f = some a → Q (.ref a, [.ref l.1]) s) : wpAny (model X.prog X.w) A (getMethod (.ref l.1) (X.nm m) pl) Q E s := by
  obtain ⟨a, ha, hf, ht⟩ := I.ok.meth m f e
  have hn : lk fs m = none := by
    cases q : lk fs m with
    | none => rfl
    | some x => exact absurd (I.at_ _ (lk_in q)) (I.ok.dis m f e)
  exact method_fn I.inn I.inst I.ok.ga I.ok.gh hf ht (by show (lookIn _ _).map _ = _; rw [none_ok inj I hn]; rfl) (h a ha)
/-- storing a thing of an object's own -/
theorem osa_ok {m : Nat} {v : Value} {x : V} {tk : Tok} {R : Result → Shared → Prop} (hm : m ∈ cl.attrs) (hz : fs.length < 1000) (hv : VR X W v x)
    (h : ∀ h' es' n', h'.get? l.2 = some (dictO es' n') → FVs X W es'.toList (st fs m x) → Heap.SameBut l.2 s.heap h' → R (.ok (.ret .none)) { s with heap := h', toks := s.toks + 1 }) :
    codeAny (model X.prog X.w) A (.call (.builtin "object.__setattr__") ⟨[.ref l.1, .str (X.nm m) tk, v], []⟩) R s := by
  have fi := I.ok.attr m hm
  refine osa_open I.inn I.inst I.ok.po (r := none) (by unfold takerIn; rw [fi]; rfl) fun b => ?_
  obtain ⟨cd, hc, hd'⟩ := any_some I.ok.hd
  refine wpAny_bind (wpAny_pure (wpAny_bind (wpAny_bind (wpAny_loadPart I.ob (wpAny_bind ((looks_clsIn I.inn hc).here ?_))))))
  rw [hd']
  refine wpAny_pure (a := some l.2) (wpAny_bind (wpAny_pure (wpAny_bind ?_)))
  unfold nsSet
  refine wpAny_bind (wpAny_bind (wpAny_askSetting (wpAny_pure (wpAny_bind (wpAny_mkText (wpAny_bind (wpAny_loadPart I.dc ?_)))))))
  dsimp only
  have c0 : (!es.any (·.key.isStr (X.nm m)) && es.any (·.refKey)) = false := by
    rw [← Array.any_toList (p := fun d : DictEntry => d.refKey), I.fv.noRef, Bool.and_false]
  rw [aRefKeyMayBeTheName_at, c0]
  have P := putName_dict (X.nm m) (PyData.keyHash X.w.params (X.nm m)) (.str (X.nm m) s.toks) v es.toList n
  have F := I.fv.put inj hv (n := m) (hsh := PyData.keyHash X.w.params (X.nm m)) (t := s.toks)
  have e0 : dictOf es.toList n = dictO es n := rfl
  rw [e0] at P
  have D' : (s.heap.update l.2 (Obj.putName (X.nm m) (PyData.keyHash X.w.params (X.nm m)) (.str (X.nm m) s.toks) v)).get? l.2 = some (dictO (putL (X.nm m) (PyData.keyHash X.w.params (X.nm m)) (.str (X.nm m) s.toks) v es.toList).toArray (putN (X.nm m) es.toList n)) := by
    rw [Heap.get?_update_self _ I.dc (by rw [P]; rfl), P]
  refine wpAny_updatePart I.dc ?_
  refine wpAny_bind (wpAny_lookBehind D' (pastItsLine_dict ?_) ?_)
  · rw [List.size_toArray, F.len, sizeLine_eq]
    have := st_len m x fs; omega
  · exact wpAny_pure (h _ _ _ D' F ⟨Heap.size_update _ _ _, fun b hb => Heap.get?_update_other _ _ (Ne.symm hb)⟩)
theorem set_ok {i m : Nat} {v : Value} {x : V} {Q : Unit → Shared → Prop} (R : RelH X W H s.heap) (hi : H.get i = some (.inst k fs)) (hl : W.φ i = some l) (hm : m ∈ cl.attrs) (hz : fs.length < 1000) (hv : VR X W v x)
    (h : ∀ s', Tc X W H s W (H.set i (.inst k (st fs m x))) s' → Q () s') : wpAny (model X.prog X.w) A (setAttr (.ref l.1) (X.nm m) v) Q E s := by
  refine set_plain I.inn I.inst I.ok.sa (osa_ok (s := { s with toks := s.toks + 1 }) inj ⟨I.ca, I.cl_, I.ob, I.dc, I.fv, I.ne, I.at_, I.sz, I.ok, I.inn⟩ hm hz hv fun h' es' n' hd hf hs => ?_)
  obtain ⟨r, t⟩ := R.upd (h' := h') (c' := .inst k (st fs m x)) hi hl (fun b ob e _ n2 => (hs.2 b n2).trans e)
    ⟨c, cl, es', n', I.ca, I.cl_, (hs.2 _ (Ne.symm I.ne)).trans I.ob, hd, hf, I.ne, fun p hp => (st_mem hp).elim (fun e => e ▸ hm) fun ⟨q, hq, e⟩ => e ▸ I.at_ q hq, Nat.le_trans (st_len m x fs) hz⟩
  exact h _ ⟨t, r, ⟨rfl, rfl, rfl⟩⟩
end
/-- an object, of the text's -/
theorem inst_e {H : Hp} {cf : Value} {g : V} {k : Nat → Nat → List (Nat × V) → Prop} {G : Prop} (hg : VR X W cf g) (h : instK H g k) (q : ∀ i (l : Addr × Addr) (t : Nat × List (Nat × V)), cf = .ref l.1 → W.φ i = some l → H.get i = some (.inst t.1 t.2) → k i t.1 t.2 → g = .ref i → G) : G :=
  need_e h fun i ei h => need_e h fun t et h => aRef_e hg ei fun l e hl eg => q i l t e hl (cI_e et) h eg
theorem snd_attr {n : Nat} {sc : Scope} (K0 : CxOk X) (C : ClsOk X K) {e : PE} {m : Nat} {v : Expr} {pos : Pos} (he : SE X n sc e v) (hs : notSuper v = true) : SE X n sc (.attr e m) (.Attribute v (X.nm m) pos) := by
  intro A env Pv W σ s Q ok at_ h
  rw [arm_eval_Attribute, base_plain hs]
  refine he.bind ok at_ h fun cf W₁ σ₁ s₁ g at₁ _ hg h₁ => Ew.standAt (inst_e hg h₁ fun i l t e hl hi h₁ _ => need_e h₁ fun x hx hq => Inst.of C at₁.rel hi hl fun c cl es k' I => ?_)
  subst e
  exact wpAny_bind (wpAny_holding (get_ok K0.inj I hx fun v hv => wpAny_bind (wpAny_letTemporaryGo (wpAny_pure (at₁.val hv hq)))))
end
end Mine

end

section
set_option autoImplicit false
set_option linter.all false
set_option genSizeOf false
set_option genInjectivity false
namespace Mine
open PySem PySem.W PySem.Calls PyProof.Rows

section
variable {X : Cx} {K : Frag} {n : Nat} {sc : Scope}

theorem under_type {A : Around} {n : Nat} {c : Addr} {rest : List Value} {kw : List (Str × Value)} (h : AOk2 A n) : AOk (A.under (.builtin "type.__call__" ⟨.ref c :: rest, kw⟩)) n := by
  have h1 := h.depth
  have h2 := h.units
  refine ⟨?_, ?_⟩
  · show A.depth + (Code.builtin "type.__call__" ⟨.ref c :: rest, kw⟩).weight + 4 * n + 4 < _
    rw [show (Code.builtin "type.__call__" ⟨.ref c :: rest, kw⟩).weight = 1 from rfl]; omega
  · show A.units + (Code.builtin "type.__call__" ⟨.ref c :: rest, kw⟩).cUnits + 20 * n + 100 < _
    rw [show (Code.builtin "type.__call__" ⟨.ref c :: rest, kw⟩).cUnits = 1 from rfl]; omega
/-- a method of the text's is called -/
theorem meth_case (K0 : CxOk X) (C : ClsOk X K) (hK : CallM X n) {fz : Bool} {m : Nat} {as : PEs} {v : Expr} {ap pos : Pos} {vs : List Expr} (has : SEs X n sc as vs) (hlen : vs.length ≤ 20) (hline : (ap.endLine == pos.line) = true)
    (A : Around) (env : Env) (Pv : Addr → Prop) (W : Wd) (σ : St) (s : Shared) (Q : V → St → Prop) (i : Nat) (l : Addr × Addr) (k : Nat) (fs : List (Nat × V)) (ok : EnvOk X A env Pv n sc) (at_ : At X env Pv W σ s) (hl : W.φ i = some l) (hgi : σ.H.get i = some (.inst k fs))
    (h : need (X.P.cls k) fun c => need (lk c.meths m) fun f => wpEs X.P (CW X.P n) as σ fun vs σ₂ => callF X.P (CW X.P n) fz σ₂ (.fn f) (.ref i :: vs) Q) :
    Ew X A env Pv (mcall X env m v ap pos vs l.1) W σ s (VQ X Q) := by
  refine need_e h fun cl hcl h => need_e h fun f hf hw => Inst.of C at_.rel hgi hl fun c cl' es k' I => ?_
  cases Option.some.inj (I.cl_.symm.trans hcl)
  have hpos : methodCallPos true v env ap pos = pure pos := by unfold methodCallPos; simp [hline]
  unfold mcall methodCall
  rw [form_plain hlen]
  refine wpAny_bind (wpAny_holding (meth_ok K0.inj I hf fun a ha => wpAny_bind (wpAny_of_eq hpos ?_)))
  obtain ⟨o, fd, ho, hd⟩ := K0.fnAt _ _ ha
  exact callWith_function (o := o) (fd := fd) (args_then has ok at_ hw fun cvs avs W' σ' s' T hv hq => ⟨⟨T.at_.rel.bkeep _ _ ho, hd⟩, fn_call hK T ok.ok.call ok.hh (cvs := .ref l.1 :: cvs) (.cons (.ref (T.stp.le.ff _ _ hl)) hv) ha hq⟩)

/-- a new object of the text's -/
theorem make_ok (K0 : CxOk X) (C : ClsOk X K) (hK : CallM X n) {A : Around} {env : Env} {Pv : Addr → Prop} {W : Wd} {σ : St} {s : Shared} {fz : Bool} {k : Nat} {c : Addr} {cvs : List Value} {avs : List V} {Q : V → St → Prop} (ok : AOk2 A n) (hhd : A.handled = none) (at_ : At X env Pv W σ s) (hv : VRs X W cvs avs) (hc : X.clA k = some c)
    (h : callF X.P (CW X.P n) fz σ (.cls k) avs Q) :
    wpAny (model X.prog X.w) A (call (.ref c) cvs []) (Go X env Pv W σ s (VQ X Q)) noEx s := by
  refine need_e h fun cl hcl h => need_e h fun f hf h => ?_
  have O := C.cls k c cl hc hcl
  obtain ⟨a, ha, hfi, hft⟩ := O.init f hf
  have inn : K.In s.heap := fun x o q => at_.rel.bkeep x o (C.inn x o q)
  obtain ⟨hh, g, d, t, os⟩ := s
  have R : RelH X W σ.H hh := at_.rel
  refine wpAny_call (make_core (makes_of inn O.mks) (looks_findIn inn hfi) (fun self => bind_fn inn self hft) (.inl rfl) ?_)
  have k1 : ∀ b o, hh.get? b = some o → ((hh.push emptyDict).push (instObj c hh.objs.size)).get? b = some o := fun b o e => Heap.get?_push_of_some _ (Heap.get?_push_of_some _ e)
  have g1 : ((hh.push emptyDict).push (instObj c hh.objs.size)).get? (hh.objs.size + 1) = some (instObj c hh.objs.size) := by
    have := Heap.get?_push_size (hh.push emptyDict) (o := instObj c hh.objs.size) rfl
    rwa [Heap.size_push] at this
  obtain ⟨r, t1⟩ := R.fresh (l := (hh.objs.size + 1, hh.objs.size)) (c := .inst k []) k1 (Heap.get?_none_of_le (Nat.le_succ _)) (push_none _)
    ⟨c, cl, #[], 0, hc, hcl, g1, Heap.get?_push_of_some _ (Heap.get?_push_size _ rfl), .nil, Nat.ne_of_lt (Nat.lt_succ_self _), fun _ q => (List.not_mem_nil q).elim, Nat.zero_le _⟩
  have T : Tc X W σ.H ⟨hh, g, d, t, os⟩ (W.addφ σ.H.next (hh.objs.size + 1, hh.objs.size)) (σ.H.new (.inst k [])) ⟨(hh.push emptyDict).push (instObj c hh.objs.size), g, d, t, os⟩ := ⟨t1, r, ⟨rfl, rfl, rfl⟩⟩
  have e : (W.addφ σ.H.next (hh.objs.size + 1, hh.objs.size)).φ σ.H.next = some (hh.objs.size + 1, hh.objs.size) := addφ_self
  refine codeAny_mono (hK _ f a (.ref σ.H.next :: avs) (.ref (hh.objs.size + 1) :: cvs) _ _ _ _ (under_type ok) hhd r (.cons (VR.ref e) (hv.le t1.le)) ha h) fun rr s' hr => ?_
  cases rr with
  | ok fl =>
    cases fl with
    | ret v =>
      obtain ⟨W', H', av, T', hv', q⟩ := hr
      cases vNone q.1
      cases hv'
      exact ⟨rfl, W', ⟨H', σ.loc⟩, (T.trans T').tf at_, _, VR.ref (T'.stp.le.ff _ _ e), q.2⟩
    | _ => exact hr.elim
  | error e => exact hr.elim
theorem snd_call1 (K0 : CxOk X) (C : ClsOk X K) (hK : CallM X n) {c : Nat → Str} {fz : Bool} {f : PE} {as : PEs} {x : Str} {p : Pos} {vs : List Expr} {pos : Pos} (hf : SE X n sc f (.Name x p)) (has : SEs X n sc as vs) (hc : chkEs c sc as vs = true) : SE X n sc (.call fz f as) (.Call (.Name x p) vs [] pos) := by
  intro A env Pv W σ s Q ok at_ h
  rw [eval_Call_Name, back_plain hc]
  refine hf.bind ok at_ h fun cf W₁ σ₁ s₁ g at₁ _ hg h₁ => call_rest K0 hK ok at₁ has hg h₁ fun k a e e' ha => ?_
  subst e e'
  cases hcl : X.P.cls k with
  | none => exact callW_fail (args_then has ok at₁ h₁ fun cvs avs W' σ' s' T hv hq' => need_e (o := X.P.cls k) hq' fun cl e _ => by rw [hcl] at e; cases e)
  | some cl => exact callWith_of (P := K.In) (by rw [plain_any]; rfl) (keeps_K (C.cls _ _ _ ha hcl).kp) (args_then has ok at₁ h₁ fun cvs avs W' σ' s' T hv hq' => ⟨fun x o q => T.at_.rel.bkeep x o (C.inn x o q),
      wpAny_mono (make_ok K0 C hK ok.ok ok.hh T.at_ hv ha hq') (fun v s'' q => Go.from T q) fun _ _ x => x⟩)
end
end Mine

end

section
set_option autoImplicit false
set_option linter.all false
set_option genSizeOf false
set_option genInjectivity false
namespace Mine
open PySem PySem.W PySem.Calls PyProof.Rows

section
variable {X : Cx} {K : Frag} {n : Nat} {sc : Scope}

theorem swaps_attr {x o : Expr} {a : Str} {p : Pos} {l : Nat} {env : Env} : swapsWith x (some (.Attribute o a p)) l env = pure false := by
  cases x <;> rfl
/-- a thing stored in an object -/
theorem put_attr (K0 : CxOk X) (C : ClsOk X K) {A : Around} {env : Env} {Pv : Addr → Prop} {W : Wd} {σ : St} {s : Shared} {Ex : Value → Shared → Prop} {ov v : Value} {g x : V} {m : Nat} {Q : Unit → Shared → Prop} {q : St → Prop} (at_ : At X env Pv W σ s) (ho : VR X W ov g) (hv : VR X W v x)
    (h : putA X.P g m x σ q) (hq : ∀ W' σ' s', Tf X env Pv W σ s W' σ' s' → q σ' → Q () s') : wpAny (model X.prog X.w) A (setAttr ov (X.nm m) v) Q Ex s :=
  inst_e ho h fun i l t e hl hi h _ => need_e h fun cl hcl h => Inst.of C at_.rel hi hl fun c cl' es k' I => by
    subst e
    cases Option.some.inj (I.cl_.symm.trans hcl)
    exact set_ok K0.inj I at_.rel hi hl (List.contains_iff_mem.mp h.1) h.2.1 hv fun s' T => hq _ ⟨_, σ.loc⟩ _ (T.tf at_) h.2.2
theorem snd_assign_attr (K0 : CxOk X) (C : ClsOk X K) {o e : PE} {m : Nat} {v x : Expr} {p pos : Pos} (he : SE X n sc e x) (ho : SE X n sc o v) : S1 X n sc (.assign (.attr o m) e) (.Assign [.Attribute v (X.nm m) p] x pos) := fun A env Pv W σ s Q ok hf at_ h =>
  plainObj_wpAny_Assign_Attribute (he.post ok at_ h fun cv W₁ σ₁ s₁ x T₁ hv h₁ => wpAny_mono (ho.post ok T₁.at_ h₁ fun ov W₂ σ₂ s₂ g T₂ hg h₂ =>
    put_attr K0 C (Q := fun _ s' => Go X env Pv W σ s (FQ X Q) PySem.Flow.next s') (Ex := noEx) T₂.at_ hg (hv.le T₂.stp.le) h₂ fun W' σ' s' T hq => ((T₁.trans T₂).trans T).flow .next hq) (fun _ _ q => q) fun _ _ y => y) swaps_attr
theorem aug_ok {A : Around} {W : Wd} {s : Shared} {E : Value → Shared → Prop} {op : BOp} {a b : Value} {x y : V} {k : V → Prop} {Q : Value → Shared → Prop} (ha : VR X W a x) (hb : VR X W b y) (h : augK op x y k)
    (hq : ∀ v z tk, VR X W v z → k z → Q v { s with toks := tk }) : wpAny (model X.prog X.w) A (inplaceOp (opOf op) a b) Q E s := by
  cases op with
  | add =>
    refine need_e h fun i ei h => need_e h fun j ej h => aInt_of ha ei fun t e => aInt_of hb ej fun u e' => ?_
    subst e e'; exact PyProof.Rows.iadd_int (hq _ _ _ (.int _ _) h)
  | _ => exact h.elim
theorem snd_aug_loc (K0 : CxOk X) {i : Nat} {op : BOp} {e : PE} {x : Expr} {p pos : Pos} (he : SE X n sc e x) (hk : kStore sc (X.nm i) = true) (hl : kLoc sc (X.nm i) = true) (hd : nDbg (X.nm i) = true) : S1 X n sc (.augLoc i op e) (.AugAssign (.Name (X.nm i) p) (opOf op) x pos) := fun A env Pv W σ s Q ok hf at_ h =>
  need_e h fun x ev h₁ => wpAny_AugAssign_Name (load_loc ok at_ hl hd ev fun a hx => he.post ok at_ h₁ fun b W₂ σ₂ s₂ y T₂ hy h₂ =>
    aug_ok (hx.le T₂.stp.le) hy h₂ fun v z tk hv hq => store_ok K0 ok hf (T₂.at_.toks (tk := tk)) hk hv fun s'' T' => ((T₂.trans (T₂.at_.tf (tk := tk))).trans T').flow .next hq)
theorem snd_aug_attr (K0 : CxOk X) (C : ClsOk X K) {o e : PE} {m : Nat} {op : BOp} {v x : Expr} {p pos : Pos} (he : SE X n sc e x) (ho : SE X n sc o v) : S1 X n sc (.augAttr o m op e) (.AugAssign (.Attribute v (X.nm m) p) (opOf op) x pos) := fun A env Pv W σ s Q ok hf at_ h =>
  wpAny_AugAssign_AttributeAny (ho.post ok at_ h fun ov W₁ σ₁ s₁ g T₁ hg h₁ => inst_e hg h₁ fun i l t e hl hi h₁ eg => need_e h₁ fun x hx h₁ => Inst.of C T₁.at_.rel hi hl fun c cl es k' I => by
    subst e
    refine get_ok K0.inj I hx fun a ha => ?_
    have T₂ := T₁.trans (T₁.at_.tf (tk := s₁.toks + 1))
    refine wpAny_mono (he.post ok T₂.at_ h₁ fun b W₃ σ₃ s₃ y T₃ hy h₃ => aug_ok (Q := fun v s' => wpAny (model X.prog X.w) A (setAttr (.ref l.1) (X.nm m) v) (fun _ s' => Go X env Pv W σ s (FQ X Q) PySem.Flow.next s') noEx s') (ha.le T₃.stp.le) hy h₃ fun v z tk hv hq =>
      put_attr K0 C (T₃.at_.toks (tk := tk)) (hg.le T₃.stp.le) hv hq fun W' σ' s' T hq => (((T₂.trans T₃).trans (T₃.at_.tf (tk := tk))).trans T).flow .next hq) (fun _ _ q => q) fun _ _ y => y)
end
end Mine

end

section
set_option autoImplicit false
set_option linter.all false
set_option genSizeOf false
set_option genInjectivity false
namespace Mine
open PySem PySem.W PySem.Calls PyProof.Rows

section
variable {X : Cx} {K : Frag} {n : Nat} {sc : Scope}
theorem objs1 (K0 : CxOk X) (C : ClsOk X K) (hK : CallM X n) : Objs X n where
  call := fun sc fz f as x p vs pos hf has hc => snd_call1 K0 C hK hf has hc
  meth := fun sc fz o m as v ap pos vs ho has hc hns hlen hline => snd_meth K0 ho has hc hns hlen hline (meth_case K0 C hK has hlen hline)
  attr := fun sc e m v pos he hns => snd_attr K0 C he hns
  asgA := fun sc o e m v x p pos he ho => snd_assign_attr K0 C he ho
  augL := fun sc i op e x p pos he hk hl hd => snd_aug_loc K0 he hk hl hd
  augA := fun sc o e m op v x p pos he ho => snd_aug_attr K0 C he ho
theorem callM (K0 : CxOk X) (C : ClsOk X K) (n : Nat) : CallM X n := by
  induction n with
  | zero => exact call_zero
  | succ n ih => exact call_step K0 (objs1 K0 C ih)
end
end Mine

end

section
set_option autoImplicit false
set_option linter.all false
set_option genSizeOf false
set_option genInjectivity false
namespace Mine
open PySem PySem.W PySem.Calls PyProof.Rows

/-- plain positional parameters alone -/
noncomputable def plainArgs (p : Arguments) : Bool := p.posonlyargs.isEmpty && p.vararg.isNone && p.kwonlyargs.isEmpty && p.kwarg.isNone

theorem lookup_zip {ns : List Str} : ∀ {vs : List Value}, ns.length = vs.length → ∀ n ∈ ns, ∃ v, (ns.zip vs).lookup n = some v := by
  induction ns with
  | nil => exact fun _ n h => (nomatch h)
  | cons a r ih =>
    intro vs hl n h
    cases vs with
    | nil => cases hl
    | cons v vs =>
      rw [List.zip_cons_cons]
      cases hb : n == a with
      | true => exact ⟨v, lookup_eq hb⟩
      | false =>
        rw [lookup_ne hb]
        rcases List.mem_cons.mp h with q | q
        · subst q; rw [beq_self_eq_true] at hb; cases hb
        · exact ih (Nat.succ.inj hl) n q
theorem filterMap_zip {ns : List Str} : ∀ {vs : List Value}, ns.length = vs.length → ∀ (f : Str → Option Value), (∀ n v, (n, v) ∈ ns.zip vs → f n = some v) → ns.filterMap (fun n => (f n).map (n, ·)) = ns.zip vs := by
  induction ns with
  | nil => exact fun _ _ _ => rfl
  | cons a r ih =>
    intro vs hl f hf
    cases vs with
    | nil => cases hl
    | cons v vs =>
      rw [List.filterMap_cons, hf a v (.head _)]
      exact congrArg ((a, v) :: ·) (ih (Nat.succ.inj hl) f fun n w h => hf n w (.tail _ h))
theorem lookup_nodup {ns : List Str} : ∀ {vs : List Value}, ns.length = vs.length → ns.Nodup → ∀ n v, (n, v) ∈ ns.zip vs → (ns.zip vs).lookup n = some v := by
  induction ns with
  | nil => exact fun _ _ n v h => (nomatch h)
  | cons a r ih =>
    intro vs hl hn n v h
    cases vs with
    | nil => cases hl
    | cons w vs =>
      rw [List.zip_cons_cons] at h ⊢
      rcases List.mem_cons.mp h with q | q
      · cases q; exact lookup_eq (beq_self_eq_true _)
      · have ne : (n == a) = false := by
          cases hb : n == a with
          | false => rfl
          | true => exact absurd (eq_of_beq hb ▸ (List.of_mem_zip q).1) (List.nodup_cons.mp hn).1
        rw [lookup_ne ne]
        exact ih (Nat.succ.inj hl) (List.nodup_cons.mp hn).2 n v q


theorem bind_plain {fd : FuncData} {vs : List Value} (hp : plainArgs fd.params = true) (hd : fd.defaults = .none) (hn : (fd.params.args.map (·.arg)).Nodup) (hl : (fd.params.args.map (·.arg)).length = vs.length) :
    bindArgs fd ⟨vs, []⟩ = pure ((fd.params.args.map (·.arg)).zip vs) := by
  obtain ⟨name, qual, params, body, scope, globals, closure, defaults, kwdefaults, doc, pm, ann, code, ct, bi⟩ := fd
  obtain ⟨po, as, va, ko, kd, kw, df⟩ := params
  cases hd
  cases po with | cons => cases hp | nil =>
  cases va with | some => cases hp | none =>
  cases ko with | cons => cases hp | nil =>
  cases kw with | some => cases hp | none =>
  generalize hns : as.map (·.arg) = ns at hn hl
  have hmiss : (ns.filter fun n => ((ns.zip vs).lookup n).isNone) = [] := List.filter_eq_nil_iff.mpr fun n hm => (lookup_zip (vs := vs) hl n hm).elim fun v e => by rw [e]; exact Bool.false_ne_true
  have hbinds := filterMap_zip hl (fun n => (ns.zip vs).lookup n) fun n v h => lookup_nodup hl hn n v h
  have htake : ns.take vs.length = ns := by rw [← hl]; exact List.take_length
  have hlt : ¬ vs.length > vs.length := Nat.lt_irrefl _
  refine Eq.trans (if_neg (c := (decide (vs.length > (as.map (·.arg)).length) && Option.isNone (none : Option Arg)) = true) (by rw [hns, hl, decide_eq_false hlt]; exact Bool.false_ne_true)) ?_
  have hd : ∀ k, List.drop k ((none : Option (Array Value)).getD #[]).toList = [] := fun k => List.drop_nil
  rw [hd]
  refine Eq.trans (if_neg (c := (!(((as.map (·.arg)).take ((as.map (·.arg)).length - 0)).filter fun n => (((as.map (·.arg)).zip vs).lookup n).isNone).isEmpty) = true) (by rw [hns, Nat.sub_zero, hl, htake, hmiss]; exact Bool.false_ne_true)) ?_
  rw [List.zip_nil_right]
  refine Eq.trans (b := pure (List.filterMap (fun n => Option.map (fun x => (n, x)) (List.lookup n ((as.map (·.arg)).zip vs))) (as.map (·.arg) ++ []))) rfl ?_
  rw [hns, List.append_nil, hbinds]
end Mine

end

section
set_option autoImplicit false
set_option linter.all false
set_option genSizeOf false
set_option genInjectivity false
namespace Mine
open PySem PySem.W PySem.Calls PyProof.Rows

theorem lk_uniq {l : List (Nat × Str)} (hn : (l.map (·.2)).Nodup) {i j : Nat} {s : Str} (h : (i, s) ∈ l) (h' : (j, s) ∈ l) : i = j := by
  induction l with
  | nil => cases h
  | cons p r ih =>
    rw [List.map_cons, List.nodup_cons] at hn
    rcases List.mem_cons.mp h with q | q
    · rcases List.mem_cons.mp h' with q' | q'
      · exact congrArg (·.1) (q.trans q'.symm)
      · subst q; exact absurd (List.mem_map.mpr ⟨_, q', rfl⟩) hn.1
    · rcases List.mem_cons.mp h' with q' | q'
      · subst q'; exact absurd (List.mem_map.mpr ⟨_, q, rfl⟩) hn.1
      · exact ih hn.2 q q'
noncomputable def Tb.nm (t : Tb) (i : Nat) : Str := (lk t.nms i).getD ⟨Array.replicate (i + 1) 0⟩
noncomputable def fst0 (s : Str) : Option Nat := s.cps[0]?
noncomputable def goodNm (s : Str) : Bool := on (fst0 s) fun c => !Nat.beq c 0 && !(s == (".0" : Str))
noncomputable def distinct : List Str → Bool
  | [] => true
  | x :: r => !(r.contains x) && distinct r
theorem distinct_nodup {l : List Str} (h : distinct l = true) : l.Nodup := by
  induction l with
  | nil => exact List.nodup_nil
  | cons x r ih => exact and_e h fun a b => List.nodup_cons.mpr ⟨fun m => (by rw [List.contains_iff_mem.mpr m] at a; cases a), ih b⟩
theorem nm_some {t : Tb} {i : Nat} {s : Str} (h : lk t.nms i = some s) : t.nm i = s := by unfold Tb.nm; rw [h]; rfl
theorem nm_none {t : Tb} {i : Nat} (h : lk t.nms i = none) : t.nm i = Str.mk (Array.replicate (i + 1) 0) := by unfold Tb.nm; rw [h]; rfl
theorem fst_zero (k : Nat) : fst0 (Str.mk (Array.replicate (k + 1) 0)) = some 0 := by
  show (Array.replicate (k + 1) 0)[0]? = some 0
  rw [Array.getElem?_replicate, if_pos (Nat.succ_pos k)]
theorem good_ne {s : Str} (h : goodNm s = true) : fst0 s ≠ some 0 ∧ s ≠ (".0" : Str) := on_e h fun c e h => and_e h fun a b => ⟨fun z => (by rw [e] at z; cases z; cases a), fun z => (by subst z; cases b)⟩
theorem nm_inj {t : Tb} (hg : (t.nms.map (·.2)).all goodNm = true) (hd : distinct (t.nms.map (·.2)) = true) : ∀ i j, t.nm i = t.nm j → i = j := by
  have first : ∀ i s, lk t.nms i = some s → ∀ k : Nat, s ≠ Str.mk (Array.replicate (k + 1) 0) := fun i s e k q =>
    (good_ne (List.all_eq_true.mp hg s (List.mem_map.mpr ⟨_, lk_in e, rfl⟩))).1 (by rw [q]; exact fst_zero k)
  intro i j h
  cases hi : lk t.nms i with
  | some a =>
    rw [nm_some hi] at h
    cases hj : lk t.nms j with
    | some b =>
      rw [nm_some hj] at h
      subst h
      exact lk_uniq (distinct_nodup hd) (lk_in hi) (lk_in hj)
    | none => rw [nm_none hj] at h; exact absurd h (first i a hi j)
  | none =>
    rw [nm_none hi] at h
    cases hj : lk t.nms j with
    | some b => rw [nm_some hj] at h; exact absurd h.symm (first j b hj i)
    | none =>
      rw [nm_none hj] at h
      have := congrArg (fun s => s.cps.size) h
      rw [Array.size_replicate, Array.size_replicate] at this
      exact Nat.succ.inj this
theorem nm_dot {t : Tb} (hg : (t.nms.map (·.2)).all goodNm = true) (i : Nat) : t.nm i ≠ (".0" : Str) := by
  cases hi : lk t.nms i with
  | some a => rw [nm_some hi]; exact (good_ne (List.all_eq_true.mp hg a (List.mem_map.mpr ⟨_, lk_in hi, rfl⟩))).2
  | none =>
    rw [nm_none hi]
    intro q
    have h0 := fst_zero i
    rw [q] at h0
    revert h0
    decide

noncomputable def usedNames (p : Program) (loose : List Str) : List Str := startupNames ++ loose ++ (recsOf p).map (·.name) ++ (litsOf p).map (·.1) ++ (clssOf p loose).map (·.name)
noncomputable def chkNms (t : Tb) : Bool := (t.nms.map (·.2)).all goodNm && distinct (t.nms.map (·.2)) && decide (t.nm t.nAppend = Str.ofString "append") && decide (t.nm t.nPop = Str.ofString "pop") && decide (t.nm t.nGet = Str.ofString "get")
/-- an address -/
noncomputable def adr : Value → Option Addr
  | .ref a => some a
  | _ => none
theorem adr_e {v : Value} {a : Addr} (h : adr v = some a) : v = .ref a := by cases v <;> first | (cases h; rfl) | cases h
noncomputable def rf (o : Option (Option Value)) : Option Addr := match o with
  | some (some v) => adr v
  | _ => none
theorem rf_e {o : Option (Option Value)} {a : Addr} (h : rf o = some a) : o = some (some (.ref a)) := by
  cases o with
  | none => cases h
  | some o => cases o with
    | none => cases h
    | some v => rw [adr_e h]
noncomputable def topA (K : Frag) (x : Str) : Option Addr := rf (nsIn K mainGlobals x)
noncomputable def inCls (K : Frag) (a : Addr) (x : Str) : Option Addr := rf (findIn K (.ref a) x)
/-- one after the other -/
noncomputable def thn {α β : Type} (o : Option α) (f : α → Option β) : Option β := match o with
  | some a => f a
  | none => none
theorem thn_e {α β : Type} {o : Option α} {f : α → Option β} {b : β} {G : Prop} (h : thn o f = some b) (g : ∀ a, o = some a → f a = some b → G) : G := by
  cases o with
  | none => cases h
  | some a => exact g a rfl h
theorem thn_i {α β : Type} {o : Option α} {a : α} {f : α → Option β} {b : Option β} (e : o = some a) (h : f a = b) : thn o f = b := by subst e; exact h
noncomputable def srcA (K : Frag) : Src → Option Addr
  | .g x => topA K x
  | .m c x => thn (topA K c) fun a => inCls K a x
noncomputable def Tb.fnA (t : Tb) (K : Frag) (k : Nat) : Option Addr := thn (lk t.fns k) fun y => srcA K y.1
noncomputable def Tb.clA (t : Tb) (K : Frag) (k : Nat) : Option Addr := thn (lk t.clss k) fun y => topA K y.1
noncomputable def mkCx (p : Program) (w : World) (t : Tb) (K : Frag) (h : Heap) : Cx where
  prog := p
  w := w
  P := t.P
  nm := t.nm
  fnA := t.fnA K
  clA := t.clA K
  hb := h

/-! the looks -/
noncomputable def kFn (sc : Scope) : Bool := match sc.kind with
  | .function => true
  | _ => false
noncomputable def isNoneV : Value → Bool
  | .none => true
  | _ => false
noncomputable def fncD : Data → Option FuncData
  | .func fd => some fd
  | _ => none
noncomputable def stmB : FuncBody → Option (List Stmt)
  | .stmts b => some b
  | _ => none
noncomputable def fdOf (K : Frag) (a : Addr) : Option (FuncData × List Stmt) := thn (K.lookup a) fun o => thn (fncD o.data) fun fd => thn (stmB fd.body) fun b => some (fd, b)
noncomputable def chkFd (t : Tb) (K : Frag) (f : Fn) (y : FuncData × List Stmt) : Bool :=
  (plainArgs y.1.params && decide (y.1.params.args.map (·.arg) = f.params.map t.nm) && distinct (y.1.params.args.map (·.arg)) && kFn y.1.scope && !y.1.scope.isCoroutine && !y.1.scope.isGenerator) &&
  (f.params.all (fun i => kStore y.1.scope (t.nm i)) && y.1.scope.names.all (fun x => !(x.2 == NameKind.free)) && y.1.closure.isEmpty && decide (y.1.globals = mainGlobals) && decide (y.1.builtins = builtinsNs) && isNoneV y.1.defaults) &&
  codeIn K y.1.code y.1.qualname && chkSs t.nm y.1.scope f.body y.2
noncomputable def chkFn (t : Tb) (K : Frag) (e : Nat × Src × Fn) : Bool := on (srcA K e.2.1) fun a => on (fdOf K a) fun y => chkFd t K e.2.2 y
noncomputable def chkMeth (t : Tb) (K : Frag) (c : Addr) (x : Str) (f : Nat) : Bool := on (inCls K c x) fun a => decide (t.fnA K f = some a) && decide (typeIn K (.ref a) = some (.type "function"))
noncomputable def chkIni (t : Tb) (K : Frag) (c : Addr) : Option Nat → Bool
  | some f => chkMeth t K c "__init__" f
  | none => true
noncomputable def chkCl (t : Tb) (K : Frag) (e : Nat × Str × Cl) : Bool := on (topA K e.2.1) fun c =>
  (makesIn K c && decide (findIn K (.ref c) "__getattribute__" = some (some (.builtin "object.__getattribute__"))) && decide (findIn K (.ref c) "__getattr__" = some none) && decide (findIn K (.ref c) "__setattr__" = some (some (.builtin "object.__setattr__"))) && plainOver K c && hasDictIn K c) &&
  keepIn K (.ref c) && chkIni t K c e.2.2.init && e.2.2.meths.all (fun y => chkMeth t K c (t.nm y.1) y.2 && !(e.2.2.attrs.contains y.1)) && e.2.2.attrs.all (fun n => decide (findIn K (.ref c) (t.nm n) = some none))
/-- a built-in value -/
noncomputable def bvO (b : B) (o : Option Value) : Bool := on o fun v => v == bval b
noncomputable def srcG : Src → Option Str
  | .g x => some x
  | _ => none
noncomputable def vI : Value → Option Int
  | .int i _ => some i
  | _ => none
noncomputable def chkGlob (t : Tb) (K : Frag) (used : List Str) (e : Nat × V) : Bool := match e.2 with
  | .fn k => on (lk t.fns k) fun y => on (srcG y.1) fun x => decide (x = t.nm e.1) && isSm (topA K x)
  | .cls k => on (lk t.clss k) fun y => decide (y.1 = t.nm e.1) && isSm (topA K y.1)
  | .int v => on (nsIn K mainGlobals (t.nm e.1)) fun o => on o fun u => decide (vI u = some v)
  | .bt b => !(used.contains (t.nm e.1)) && !(t.nm e.1 == ("__name__" : Str)) && bvO b (bootBuiltins (t.nm e.1))
  | _ => false
/-- all that hangs on the heap -/
noncomputable def chkAll (t : Tb) (K : Frag) : Bool := t.fns.all (chkFn t K) && t.clss.all (chkCl t K)
end Mine

end

section
set_option autoImplicit false
set_option linter.all false
set_option genSizeOf false
set_option genInjectivity false
namespace Mine
open PySem PySem.W PySem.Calls PyProof.Rows

section
variable {p q : Program} {loose : List Str} {mean : ExcName → Option Value} {mg mb : Str → Option Value} {h : Heap} {w : World} {t : Tb} {K : Frag}

/-- a def of the table's, and its look -/
inductive FnOf (t : Tb) (K : Frag) (k : Nat) (a : Addr) : Prop
  | mk (y : Src × Fn) (z : FuncData × List Stmt) (hk : lk t.fns k = some y) (hz : fdOf K a = some z) (hc : chkFd t K y.2 z = true)
theorem fn_of {k : Nat} {a : Addr} (h2 : t.fns.all (chkFn t K) = true) (e : t.fnA K k = some a) : FnOf t K k a :=
  thn_e e fun y hk ha => on_e (List.all_eq_true.mp h2 _ (lk_in hk)) fun a' ha' h => on_e h fun z hz hc => by
    cases Option.some.inj (ha'.symm.trans ha)
    exact ⟨y, z, hk, hz, hc⟩
theorem fdOf_ok {a : Addr} {y : FuncData × List Stmt} {G : Prop} (h : fdOf K a = some y) (g : ∀ o, K.lookup a = some o → o.data = .func y.1 → y.1.body = .stmts y.2 → G) : G :=
  thn_e h fun o ho h => thn_e h fun fd hd h => thn_e h fun b hb h => by
    cases h
    refine g o ho ?_ ?_
    · generalize o.data = d at hd
      cases d <;> first | (cases hd; rfl) | cases hd
    · generalize fd.body = d at hb
      cases d <;> first | (cases hb; rfl) | cases hb
theorem isS_e {α : Type} {o : Option α} (h : isSm o = true) : ∃ a, o = some a := by
  cases o with
  | none => cases h
  | some a => exact ⟨a, rfl⟩
theorem mp2_e {α β : Type} {o : Option (α × β)} {b : β} {G : Prop} (h : mp2 o = some b) (g : ∀ a, o = some (a, b) → G) : G := by
  cases o with
  | none => cases h
  | some y => cases h; exact g y.1 rfl
theorem cls_nm {k : Nat} {y : Str × Cl} (hk : lk t.clss k = some y) : t.clA K k = topA K y.1 := by
  unfold Tb.clA
  rw [hk]; rfl
theorem cl_e {c : Nat × Str × Cl → Addr → Bool} {k : Nat} {a : Addr} {cl : Cl} {G : Prop} (h3 : (t.clss.all fun e => on (topA K e.2.1) (c e)) = true) (e : t.clA K k = some a) (hcl : mp2 (lk t.clss k) = some cl) (g : ∀ x, c (k, x, cl) a = true → G) : G :=
  mp2_e hcl fun x hk => by
    rw [cls_nm hk] at e
    exact on_e (List.all_eq_true.mp h3 _ (lk_in hk)) fun a' ha' h => g x (Option.some.inj (ha'.symm.trans e) ▸ h)

theorem meth_of {c : Addr} {x : Str} {f : Nat} (e : chkMeth t K c x f = true) : FnIs (mkCx p w t K h) K c x f :=
  on_e e fun a ha e => and_e e fun e1 e2 => ⟨a, of_decide_eq_true e1, rf_e ha, of_decide_eq_true e2⟩
theorem cls_ok (X : K.In h) (h3 : t.clss.all (chkCl t K) = true) : ClsOk (mkCx p w t K h) K := by
  refine ⟨X, fun k c cl hc hcl => cl_e h3 hc hcl fun x this => and5_e this fun g1 g2 g3 g4 g5 => and6_e g1 fun a1 a2 a3 a4 a5 a6 =>
    ⟨a1, of_decide_eq_true a2, of_decide_eq_true a3, of_decide_eq_true a4, a5, a6, g2, fun f hf => ?_, fun n f hf => meth_of (and2 (List.all_eq_true.mp g4 _ (lk_in hf))).1, fun n hn => of_decide_eq_true (List.all_eq_true.mp g5 _ hn), fun n f hf hn => ?_⟩⟩
  · have g3 : chkIni t K c cl.init = true := g3
    rw [hf] at g3
    exact meth_of g3
  · have := (and2 (List.all_eq_true.mp g4 _ (lk_in hf))).2
    rw [List.contains_iff_mem.mpr hn] at this; cases this

end
end Mine

end

section
set_option autoImplicit false
set_option linter.all false
set_option genSizeOf false
set_option genInjectivity false
namespace Mine
open PySem PySem.W PySem.Calls PyProof.Rows

section
variable {p q : Program} {loose : List Str} {mean : ExcName → Option Value} {mg mb : Str → Option Value} {h : Heap} {w : World} {t : Tb} {K : Frag}
theorem top_gl {i : Nat} {v : V} {x : Str} {a : Addr} (T : Top q loose mean mg mb h) (X : K.In h) (hx : x = t.nm i) (ha : topA K x = some a) (r : ∀ W, VR (mkCx p w t K h) W (.ref a) v) : GlAt (mkCx p w t K h) i v :=
  .main (.ref a) mg T.g (by show mg (t.nm i) = _; rw [← hx]; exact mg_of X T.g (rf_e ha)) r
theorem glob_ok {used : List Str} {i : Nat} {v : V} (T : Top q loose mean mg mb h) (X : K.In h) (hu : used = usedNames q loose) (hm : chkGlob t K used (i, v) = true) : GlAt (mkCx p w t K h) i v := by
  cases v with
  | fn k =>
    refine on_e hm fun y hk hm => on_e hm fun x hx hm => and_e hm fun m1 m2 => ?_
    obtain ⟨a, ha⟩ := isS_e m2
    refine top_gl T X (of_decide_eq_true m1) ha fun W => .fn (thn_i hk ?_)
    generalize y.1 = s at hx
    cases s with
    | g z => cases hx; exact ha
    | m _ _ => cases hx
  | cls k =>
    refine on_e hm fun x hx hm => and_e hm fun m1 m2 => ?_
    obtain ⟨a, ha⟩ := isS_e m2
    exact top_gl T X (of_decide_eq_true m1) ha fun W => .cls (thn_i hx ha)
  | int v =>
    refine on_e hm fun o ho hm => on_e hm fun u eo m1 => ?_
    have m1 := of_decide_eq_true m1
    subst eo
    cases u with
    | int u tk => cases m1; exact .main (.int v tk) mg T.g (mg_of X T.g ho) fun W => .int v tk
    | _ => cases m1
  | bt b =>
    refine and3_e hm fun m1 m2 m3 => ?_
    subst hu
    have nu : t.nm i ∉ usedNames q loose := fun z => by rw [List.contains_iff_mem.mpr z] at m1; cases m1
    unfold usedNames at nu
    simp only [List.mem_append, not_or] at nu
    obtain ⟨⟨⟨⟨n1, n2⟩, n3⟩, n4⟩, n5⟩ := nu
    refine .bi (bval b) mg mb T.g T.b (T.free _ n1 n2 n3 n4 n5) ?_ fun W => .bt b
    show mb (t.nm i) = _
    rw [T.builtins _ (fun z => by rw [z] at m2; cases m2)]
    exact on_e m3 fun u eu m3 => eu.trans (congrArg some (beq_iff_eq.mp m3))
  | _ => cases hm
theorem noneV {v : Value} (h : isNoneV v = true) : v = .none := by cases v <;> first | rfl | cases h
theorem fnKind {s : Scope} (h : kFn s = true) : s.kind = .function := by
  unfold kFn at h
  cases hk : s.kind <;> rw [hk] at h <;> first | rfl | cases h
theorem fn_at {k : Nat} {a : Addr} {d : Fn} (X : K.In h) (h2 : t.fns.all (chkFn t K) = true) (e : t.fnA K k = some a) (ed : mp2 (lk t.fns k) = some d) : FnIn (mkCx p w t K h) d a := by
  obtain ⟨y, z, hk, hz, hc⟩ := fn_of h2 e
  rw [hk] at ed
  cases ed
  refine fdOf_ok hz fun o ho hd hb => and4_e hc fun c1 c2 c3 c4 => and6_e c1 fun a1 a2 a3 a4 a5 a6 => and6_e c2 fun b1 b2 b3 b4 b5 b6 => ?_
  have a2 := of_decide_eq_true a2
  refine ⟨o, z.1, z.2, X _ _ ho, hd, codeRec_of X c3, hb, fun vs hl => ?_, empty_ok b3, Bool.not_eq_true' _ ▸ a5, Bool.not_eq_true' _ ▸ a6, fnKind a4, of_decide_eq_true b4, of_decide_eq_true b5, fun i hi => List.all_eq_true.mp b1 i hi, fun u hu zz => ?_, c4⟩
  · have := bind_plain (fd := z.1) (vs := vs) a1 (noneV b6) (distinct_nodup a3) (by rw [a2, List.length_map, hl])
    rw [this, a2]; rfl
  · have := List.all_eq_true.mp b2 u hu
    rw [zz] at this
    cases this
theorem fn_ob {k : Nat} {a : Addr} (X : K.In h) (h2 : t.fns.all (chkFn t K) = true) (e : t.fnA K k = some a) : FnOb (mkCx p w t K h) a := by
  obtain ⟨y, z, hk, hz, hc⟩ := fn_of h2 e
  exact fdOf_ok hz fun o ho hd hb => ⟨o, z.1, X _ _ ho, hd⟩
theorem cx_ok (T : Top q loose mean mg mb h) (X : K.In h) (h1 : chkNms t = true) (h2 : chkAll t K = true) (h3 : t.globs.all (chkGlob t K (usedNames q loose)) = true) : CxOk (mkCx p w t K h) :=
  and5_e h1 fun g1 g2 g3 g4 g6 => and_e h2 fun h2 hcl =>
    ⟨nm_inj g1 g2, nm_dot g1, T.nolimit, fun i v e => glob_ok T X rfl (List.all_eq_true.mp h3 _ (lk_in e)), of_decide_eq_true g3, of_decide_eq_true g4, of_decide_eq_true g6,
      fun k a e => fn_ob X h2 e, fun k a d e ed => fn_at X h2 e ed, T.g.elim fun o q => ⟨o, q.elim fun _ q => q.elim fun _ q => q.1⟩⟩
end

/-- the state at the call -/
noncomputable def W0 (h : Heap) : Wd := ⟨fun a => h.get? a, fun _ => none⟩
noncomputable def H0 : Hp := ⟨0, fun _ => none⟩
theorem rel0 {X : Cx} : RelH X (W0 X.hb) H0 X.hb :=
  ⟨fun _ _ e => e, fun _ _ e => e, fun _ _ e => (by cases e), fun a ⟨i, c, l, e, _, _⟩ => (by cases e), fun i j ci cj li lj e => (by cases e), fun _ _ => ⟨rfl, rfl⟩⟩
theorem vrs_ints {X : Cx} {W : Wd} {P : Params} {h : Heap} {is : List Int} : ∀ {vs : List Value}, WellAll P h vs (ofPys (is.map PyData.int)) → VRs X W vs (is.map V.int) := by
  induction is with
  | nil => intro vs r; cases r; exact .nil
  | cons i is ih =>
    intro vs r
    have r' : WellAll P h vs (.int i :: ofPys (is.map PyData.int)) := r
    cases r' with
    | cons a b =>
      cases a with
      | int _ t => exact .cons (.int i t) (ih b)

theorem law_end {p : Program} {w : World} {t : Tb} {K : Frag} {mg : Str → Option Value} {s₁ : Shared} {c : ClaimW} {cl : Str → Option Addr} {mean : ExcName → Option Value} {args : List WData} {k : Nat} {fa a : Addr} {is : List Int} {q : Program} {loose : List Str} {mean' : ExcName → Option Value} {mb : Str → Option Value} {P : Params}
    (T : Top q loose mean' mg mb s₁.heap) (X : K.In s₁.heap) (h1 : chkNms t = true) (h2 : chkAll t K = true) (h3 : t.globs.all (chkGlob t K (usedNames q loose)) = true)
    (hg : s₁.gens = #[]) (x : Str) (hk : (thn (lk t.fns k) fun y => srcG y.1) = some x) (hs : isSm (topA K x) = true) (hmg : mg x = some (.ref fa)) (hw : Well P s₁.heap (.ref a) (ofPy (.list (is.map PyData.int)))) (hlen : ¬ ((63 : Nat) : Int) < (is.length : Nat))
    (hr : ∀ cls, c.raises args cls = false) (hp : c.post args (.bool true) args = true)
    (n : Nat) (hA : AOk callerA n)
    (main : ∀ is : List Int, is.length ≤ 63 → CW t.P n k [.lst (is.map V.int)] H0 (fun v _ => v = .bool true)) :
    wpAny (model p w) callerA (call (.ref fa) [.ref a]) (fun v s' => GoodWG c cl mean args s₁ (.ok (.ret v)) s') (fun e s' => GoodWG c cl mean args s₁ (.error e) s') s₁ := by
  have K0 : CxOk (mkCx p w t K s₁.heap) := cx_ok T X h1 h2 h3
  have C : ClsOk (mkCx p w t K s₁.heap) K := cls_ok X (and2 h2).2
  have hl : is.length ≤ 63 := Int.ofNat_le.mp (Int.not_lt.mp hlen)
  cases hw with
  | list hgt hall =>
    have hv : VR (mkCx p w t K s₁.heap) (W0 s₁.heap) (.ref a) (.lst (is.map V.int)) := VR.lst (n := 0) hgt (vrs_ints hall) (by rw [List.length_map]; exact Nat.le_trans hl (by decide))
    have hfn : (mkCx p w t K s₁.heap).fnA k = some fa := by
      obtain ⟨a', ha'⟩ := isS_e hs
      have := mg_of X T.g (rf_e ha')
      rw [hmg] at this
      cases this
      refine thn_e hk fun y hy hx => thn_i hy ?_
      generalize y.1 = s at hx
      cases s with
      | g z => cases hx; exact ha'
      | m _ _ => cases hx
    refine wpAny_call (codeAny_mono (callM K0 C n callerA k fa [.lst (is.map V.int)] [.ref a] (W0 s₁.heap) H0 s₁ _ hA rfl rel0 (.cons hv .nil) hfn (main is hl)) fun r s' hr' => ?_)
    cases r with
    | ok fl =>
      cases fl with
      | ret v =>
        obtain ⟨W', H', av, TT, hv', rfl⟩ := hr'
        cases hv'
        exact GoodW.toG ⟨.inl ⟨_, .bool true, [], rfl, hr, .bool _, hp, fun _ => ⟨List.nodup_nil, fun _ z => (nomatch z)⟩⟩, TT.rel.bkeep, TT.rest.os, TT.rest.gens.trans hg⟩
      | _ => exact hr'.elim
    | error e => exact hr'.elim
end Mine

end

section
set_option autoImplicit false
set_option linter.all false
set_option genSizeOf false
set_option genInjectivity false
namespace Mine
open PySem (Str)

/-! A text is run on symbolic states: the objects at hand are numbered. -/
inductive SA where
  | v (x : V)
  | s (j : Nat)
inductive SV where
  | v (x : V)
  | s (j : Nat)
  | l (xs : List SA)
noncomputable def SA.sv : SA → SV
  | .v x => .v x
  | .s j => .s j
inductive SC where
  | list (xs : List V)
  | dict (kvs : List (V × SV))
  | inst (k : Nat) (fs : List (Nat × SV))
  | dead
  | w (k : Nat) (fs : List (Nat × V))
structure Sy (Ω : Type) where
  cs : List SC
  loc : List (Nat × SV)
  w : Ω
inductive FX where
  | next
  | ret (v : SV)

noncomputable def rm {α : Type} : List (Nat × α) → Nat → List (Nat × α)
  | [], _ => []
  | p :: r, n => cond (Nat.beq p.1 n) (rm r n) (p :: rm r n)
noncomputable def rms {α : Type} (l : List (Nat × α)) : List Nat → List (Nat × α)
  | [] => l
  | n :: r => rms (rm l n) r
noncomputable def at_ : List SC → Nat → Option SC
  | [], _ => none
  | c :: r, n => (match n with | 0 => some c | m + 1 => at_ r m)
noncomputable def setAt : List SC → Nat → SC → List SC
  | [], _, _ => []
  | c :: r, n, d => (match n with | 0 => d :: r | m + 1 => c :: setAt r m d)
noncomputable def scL : Option SC → Option (List V)
  | some (.list xs) => some xs
  | _ => none
noncomputable def scD : Option SC → Option (List (V × SV))
  | some (.dict kvs) => some kvs
  | _ => none
/-- yes, or nothing goes on -/
noncomputable def Ys (b : Bool) (t : Prop) : Prop := Br b t False

section
variable {Ω : Type}
noncomputable def Sy.put (s : Sy Ω) (i : Nat) (v : SV) : Sy Ω := ⟨s.cs, st s.loc i v, s.w⟩
noncomputable def Sy.setC (s : Sy Ω) (j : Nat) (c : SC) : Sy Ω := ⟨setAt s.cs j c, s.loc, s.w⟩
noncomputable def Sy.new (s : Sy Ω) (c : SC) : Sy Ω := ⟨s.cs ++ [c], s.loc, s.w⟩
noncomputable def Sy.nx (s : Sy Ω) : Nat := s.cs.length
/-- stores that are laid out at once -/
noncomputable def stK {α : Type} : List (Nat × α) → Nat → α → (List (Nat × α) → Prop) → Prop
  | [], n, v, k => k [(n, v)]
  | p :: r, n, v, k => Br (Nat.beq p.1 n) (k ((p.1, v) :: r)) (stK r n v fun r' => k (p :: r'))
noncomputable def setK : List SC → Nat → SC → (List SC → Prop) → Prop
  | [], _, _, k => k []
  | c :: r, n, d, k => (match n with | 0 => k (d :: r) | m + 1 => setK r m d fun r' => k (c :: r'))
noncomputable def snK : List SC → Nat → SC → (Nat → List SC → Prop) → Prop
  | [], n, c, k => k n [c]
  | x :: r, n, c, k => snK r (n + 1) c fun m r' => k m (x :: r')
noncomputable def putS (s : Sy Ω) (i : Nat) (v : SV) (k : Sy Ω → Prop) : Prop := match s with
  | ⟨cs, l, w⟩ => stK l i v fun l => k ⟨cs, l, w⟩
noncomputable def setS (s : Sy Ω) (j : Nat) (c : SC) (k : Sy Ω → Prop) : Prop := match s with
  | ⟨cs, l, w⟩ => setK cs j c fun cs => k ⟨cs, l, w⟩
noncomputable def newS (s : Sy Ω) (c : SC) (k : Nat → Sy Ω → Prop) : Prop := match s with
  | ⟨cs, l, w⟩ => snK cs 0 c fun n cs => k n ⟨cs, l, w⟩
noncomputable def Sy.withLoc (s : Sy Ω) (l : List (Nat × SV)) : Sy Ω := match s with
  | ⟨cs, _, w⟩ => ⟨cs, l, w⟩

/-- data is seen as it is -/
noncomputable def seeV : V → Option V
  | .ref _ => none
  | .bt _ => none
  | .fn _ => none
  | .cls _ => none
  | .rng _ => none
  | x => some x
noncomputable def svS : SV → Option Nat
  | .s j => some j
  | _ => none
noncomputable def svV : SV → Option V
  | .v x => some x
  | _ => none
noncomputable def seeS (s : Sy Ω) : SV → Option V
  | .v x => seeV x
  | .s j => mL (scL (at_ s.cs j))
  | _ => none
noncomputable def datN : Nat → V → Bool
  | 0, x => (match x with
    | .none => true
    | .bool _ => true
    | .int _ => true
    | .str _ => true
    | _ => false)
  | n + 1, x => (match x with
    | .none => true
    | .bool _ => true
    | .int _ => true
    | .str _ => true
    | .tup xs => xs.all (datN n)
    | .lst xs => xs.all (datN n)
    | _ => false)
noncomputable def deepK (s : Sy Ω) (a : SV) (k : V → Prop) : Prop := match a with
  | .v x => Ys (datN 12 x) (k x)
  | .s j => need (scL (at_ s.cs j)) fun xs => Ys (xs.all (datN 11)) (k (.lst xs))
  | .l _ => False
noncomputable def kindS (s : Sy Ω) : SV → Option Kd
  | .v x => kdV x
  | .s j => (match at_ s.cs j with
    | some (.list _) => some .list
    | _ => none)
  | .l _ => none
noncomputable def lenS (s : Sy Ω) : SV → Option Nat
  | .v x => lenV x
  | .s j => (match at_ s.cs j with
    | some (.list xs) => some xs.length
    | _ => none)
  | .l _ => none
noncomputable def itemsS (s : Sy Ω) : SV → Option (List V)
  | .v x => itV x
  | .s j => (match at_ s.cs j with
    | some (.list xs) => some xs
    | _ => none)
  | _ => none
noncomputable def allV : List SV → Option (List V)
  | [] => some []
  | a :: r => (match svV a with
    | some x => (match allV r with | some xs => some (x :: xs) | none => none)
    | none => none)

noncomputable def anyS (s : Sy Ω) (a : SV) (xs : List V) (k : Bool → Prop) : Prop := deepK s a fun y => Ys (xs.all (datN 11)) (k (xs.any fun z => eqD z y))
noncomputable def inS (s : Sy Ω) (a b : SV) (k : Bool → Prop) : Prop := match b with
  | .s j => (match at_ s.cs j with
    | some (.list xs) => anyS s a xs k
    | _ => False)
  | .v (.lst xs) => anyS s a xs k
  | _ => False
noncomputable def isF (f : V → Bool) (a : SV) (k : Bool → Prop) : Prop := match a with
  | .v x => Ys (solid x) (k (f x))
  | .s _ => k false
  | .l _ => False
noncomputable def isS (a b : SV) (k : Bool → Prop) : Prop := need (svV b) fun y => match y with
  | .none => isF isNone a k
  | .bool c => isF (isB c) a k
  | _ => False
noncomputable def cmpS (s : Sy Ω) (op : COp) (a b : SV) (k : Bool → Prop) : Prop := match op with
  | .eq => deepK s a fun x => deepK s b fun y => k (eqD x y)
  | .ne => deepK s a fun x => deepK s b fun y => k (!eqD x y)
  | .lt => need (seeS s a) fun x => need (seeS s b) fun y => ltK false x y k
  | .le => need (seeS s a) fun x => need (seeS s b) fun y => ltK true x y k
  | .gt => need (seeS s a) fun x => need (seeS s b) fun y => ltK false y x k
  | .ge => need (seeS s a) fun x => need (seeS s b) fun y => ltK true y x k
  | .isIn => inS s a b k
  | .notIn => inS s a b fun r => k (!r)
  | .is => isS a b k
  | .isNot => isS a b fun r => k (!r)
noncomputable def truS (s : Sy Ω) (a : SV) (k : Bool → Prop) : Prop := need (seeS s a) fun x => trK x k

/-- a made value is handed on -/
noncomputable def giveS (fz : Bool) (s : Sy Ω) (k : SV → Sy Ω → Prop) : LV → Prop
  | .val x => k (.v x) s
  | .newList xs => Nd (xs.length ≤ SZ) (Br fz (k (.v (.lst xs)) s) (newS s (.list xs) fun n s' => k (.s n) s'))
noncomputable def noRef : V → Bool
  | .ref _ => false
  | _ => true
noncomputable def giveVS (fz : Bool) (k : SV → Sy Ω → Prop) (r : SV) (s : Sy Ω) : Prop := Br fz (match r with
    | .v x => Ys (noRef x) (k (.v x) s)
    | .s j => (match at_ s.cs j with
      | some (.list xs) => setS s j .dead fun s' => k (.v (.lst xs)) s'
      | some .dead => False
      | _ => k (.s j) s)
    | .l _ => False) (k r s)

abbrev XT (Ω : Type) := Nat → List SV → Sy Ω → (SV → Sy Ω → Prop) → Prop

noncomputable def bS (s : Sy Ω) (b : B) (as : List SV) (k : LV → Prop) : Prop := match as with
  | [v] => b1K b (seeS s v) (lenS s v) k
  | [v, w] => Br (isIsi b) (need (kindS s v) fun q => need (svV w) fun t => need (isi1 q t) fun r => k (.val (.bool r))) (need (seeS s v) fun x => need (seeS s w) fun y => b2K b x y k)
  | _ => False
noncomputable def svN : SV → Bool
  | .v x => isNone x
  | _ => false
noncomputable def callS (P : Prog) (C : XT Ω) (fz : Bool) (f : SV) (as : List SV) (s : Sy Ω) (k : SV → Sy Ω → Prop) : Prop := need (svV f) fun g => match g with
  | .bt b => bS s b as (giveS fz s k)
  | .fn g => C g as s (giveVS fz k)
  | .cls c => need (P.cls c) fun cl => need cl.init fun g => newS s (.inst c []) fun n s₁ => C g (.s n :: as) s₁ (fun r s' => Ys (svN r) (k (.s n) s'))
  | _ => False
noncomputable def idxS (s : Sy Ω) (a b : SV) (k : SV → Prop) : Prop := need (svV b) fun y => match a with
  | .s j => (match at_ s.cs j with
    | some (.list xs) => idxK (.lst xs) y fun v => k (.v v)
    | _ => False)
  | .l xs => need (aInt y) fun i => need (pyIdx i xs.length) fun n => need xs[n]? fun v => k v.sv
  | .v x => Ys (noRef x) (idxK x y fun v => k (.v v))
noncomputable def optIS : Option SV → Option (Option Int)
  | none => some none
  | some a => (match svV a with | some x => (match aInt x with | some i => some (some i) | none => none) | none => none)
noncomputable def hiIS : Option SV → Option Int
  | none => none
  | some a => (match svV a with | some x => aInt x | none => none)

/-- the methods of lists and dicts -/
noncomputable def methLS (P : Prog) (s : Sy Ω) (j n : Nat) (xs : List V) (as : List SV) (k : SV → Sy Ω → Prop) : Prop := need (one as) fun a =>
  Br (Nat.beq n P.nAppend) (need (svV a) fun x => Nd (xs.length < SZ) (setS s j (.list (xs ++ [x])) fun s' => k (.v .none) s')) <|
  need (svV a) fun x => need (aInt x) fun i => need (pyIdx i xs.length) fun m => need xs[m]? fun v => setS s j (.list (xs.take m ++ xs.drop (m + 1))) fun s' => k (.v v) s'
noncomputable def keyDS : List SV → Option (V × SV)
  | [a] => (match svV a with | some x => some (x, .v .none) | none => none)
  | [a, d] => (match svV a with | some x => some (x, d) | none => none)
  | _ => none
noncomputable def methDS (P : Prog) (s : Sy Ω) (j n : Nat) (kvs : List (V × SV)) (as : List SV) (k : SV → Sy Ω → Prop) : Prop := need (keyDS as) fun t => Ys (keyOk (dKeys kvs) t.1) (need (some ((dGet kvs t.1).getD t.2)) fun v => k v s)

/-- names bound one by one -/
noncomputable def bindGoS : List Nat → List V → Sy Ω → (Sy Ω → Prop) → Prop
  | [], ys, s, k => (match ys with | [] => k s | _ => False)
  | i :: is, ys, s, k => (match ys with | x :: xs => putS s i (.v x) fun s' => bindGoS is xs s' k | [] => False)
noncomputable def bindTS (ts : List Nat) (x : V) (s : Sy Ω) (k : Sy Ω → Prop) : Prop := match ts with
  | [i] => putS s i (.v x) k
  | _ => False
noncomputable def seqS (fl : FX) (s : Sy Ω) (go : Sy Ω → Prop) (k : FX → Sy Ω → Prop) : Prop := match fl with
  | .next => go s
  | .ret v => k (.ret v) s

/-- a loop, by what holds of the items left and the state -/
structure LoopI (a : SV) (all : List V) (turn : V → Sy Ω → (FX → Sy Ω → Prop) → Prop) (k : FX → Sy Ω → Prop) (inv : List V → Sy Ω → Prop) : Prop where
  still : ∀ r s', inv r s' → itemsS s' a = some all
  stop : ∀ s', inv [] s' → k .next s'
  turn : ∀ x r s', inv (x :: r) s' → turn x s' fun fl s₁ => seqS fl s₁ (inv r) k
/-- a cell without numbers of others -/
noncomputable def dry : SC → Bool
  | .dict _ => false
  | .inst _ _ => false
  | _ => true
noncomputable def low (n : Nat) : SV → Bool
  | .v _ => true
  | .s j => Nat.blt j n
  | _ => false
/-- the last cells and the last names are forgotten -/
inductive Gb (s s₂ : Sy Ω) (p : Sy Ω → Prop) : Prop
  | mk (cs t : List SC) (l u : List (Nat × SV)) (w : Ω) (e : s₂ = ⟨cs ++ t, l ++ u, w⟩) (n : s.cs.length ≤ cs.length) (hc : cs.all dry = true) (hl : (l.all fun q => low cs.length q.2) = true) (h : p ⟨cs, l, w⟩)
structure LoopG (a : SV) (all : List V) (turn : V → Sy Ω → (FX → Sy Ω → Prop) → Prop) (k : FX → Sy Ω → Prop) (inv : List V → Sy Ω → Prop) : Prop where
  still : ∀ r s', inv r s' → itemsS s' a = some all
  stop : ∀ s', inv [] s' → k .next s'
  turn : ∀ x r s', inv (x :: r) s' → turn x s' fun fl s₁ => seqS fl s₁ (fun s₂ => Gb s' s₂ (inv r)) k
inductive LoopX (a : SV) (all : List V) (turn : V → Sy Ω → (FX → Sy Ω → Prop) → Prop) (xs : List V) (s : Sy Ω) (k : FX → Sy Ω → Prop) : Prop
  | mk (inv : List V → Sy Ω → Prop) (h : inv xs s) (i : LoopI a all turn k inv)
  | gb (inv : List V → Sy Ω → Prop) (h : inv xs s) (i : LoopG a all turn k inv)
/-- a comprehension, by what holds of the items left, the items made and the state -/
structure CompI (a : SV) (all : List V) (turn : V → Sy Ω → (Bool → Sy Ω → Prop) → Prop) (elt : Sy Ω → (SV → Sy Ω → Prop) → Prop) (k : List V → Sy Ω → Prop) (inv : List V → List V → Sy Ω → Prop) : Prop where
  still : ∀ r acc s', inv r acc s' → itemsS s' a = some all
  len : ∀ r acc s', inv r acc s' → acc.length + r.length ≤ SZ
  stop : ∀ acc s', inv [] acc s' → k acc s'
  turn : ∀ x r acc s', inv (x :: r) acc s' → turn x s' fun b s₁ => Br b (elt s₁ fun y s₂ => need (svV y) fun z => inv r (acc ++ [z]) s₂) (inv r acc s₁)
inductive CompX (a : SV) (all : List V) (turn : V → Sy Ω → (Bool → Sy Ω → Prop) → Prop) (elt : Sy Ω → (SV → Sy Ω → Prop) → Prop) (xs : List V) (s : Sy Ω) (k : List V → Sy Ω → Prop) : Prop
  | mk (inv : List V → List V → Sy Ω → Prop) (h : inv xs [] s) (i : CompI a all turn elt k inv)
/-- an attribute is read -/
noncomputable def attrS (s : Sy Ω) (a : SV) (n : Nat) (k : SV → Prop) : Prop := need (svS a) fun j => match at_ s.cs j with
  | some (.inst _ fs) => need (lk fs n) k
  | some (.w _ fs) => need (lk fs n) fun v => k (.v v)
  | _ => False
/-- a tuple is made -/
noncomputable def tupS (vs : List SV) (k : SV → Prop) : Prop := match allV vs with
  | some xs => Ys (Nat.ble xs.length 100) (k (.v (.tup xs)))
  | none => False
noncomputable def instS (s : Sy Ω) (a : SV) (k : Nat → Nat → List (Nat × SV) → Prop) : Prop := need (svS a) fun j => match at_ s.cs j with
  | some (.inst c fs) => k j c fs
  | _ => False

variable (P : Prog) (C : XT Ω)
mutual
noncomputable def sxE : PE → Sy Ω → (SV → Sy Ω → Prop) → Prop
  | .cst v, s, k => k (.v v) s
  | .loc i, s, k => need (lk s.loc i) fun v => k v s
  | .glob i, s, k => need (P.glob i) fun v => k (.v v) s
  | .attr e n, s, k => sxE e s (fun o s₁ => attrS s₁ o n fun v => k v s₁)
  | .bin fz op l r, s, k => sxE l s (fun a s₁ => sxE r s₁ (fun b s₂ => need (seeS s₂ a) fun x => need (seeS s₂ b) fun y => binK op x y (giveS fz s₂ k)))
  | .neg e, s, k => sxE e s (fun a s₁ => need (svV a) fun x => need (aInt x) fun i => k (.v (.int (-i))) s₁)
  | .not e, s, k => sxE e s (fun a s₁ => truS s₁ a fun b => k (.v (.bool (!b))) s₁)
  | .cmp op l r, s, k => sxE l s (fun a s₁ => sxE r s₁ (fun b s₂ => cmpS s₂ op a b fun c => k (.v (.bool c)) s₂))
  | .and es, s, k => sxAnd es s k
  | .ite t a b, s, k => sxT t s (fun c s₁ => Br c (sxE a s₁ k) (sxE b s₁ k))
  | .list fz es, s, k => sxEs es s (fun vs s₁ => need (allV vs) fun xs => giveS fz s₁ k (.newList xs))
  | .tup es, s, k => sxEs es s (fun vs s₁ => tupS vs fun a => k a s₁)
  | .dict, s, k => newS s (.dict []) fun n s' => k (.s n) s'
  | .idx e i, s, k => sxE e s (fun a s₁ => sxE i s₁ (fun b s₂ => idxS s₂ a b fun v => k v s₂))
  | .sl fz e lo hi, s, k => sxE e s (fun a s₁ => sxO lo s₁ (fun l s₂ => sxO hi s₂ (fun h s₃ => need (optIS l) fun l => need (hiIS h) fun h => need (seeS s₃ a) fun x => slK x l h (giveS fz s₃ k))))
  | .call fz f as, s, k => sxE f s (fun g s₁ => sxEs as s₁ (fun vs s₂ => callS P C fz g vs s₂ k))
  | .sortedRev fz i e, s, k => need (P.glob i) fun g => Ys (isSrt g) (sxE e s (fun a s₁ => need (seeS s₁ a) fun x => intsK x fun l => Nd (l.length < 64) (giveS fz s₁ k (.newList ((srt l).reverse.map .int)))))
  | .meth fz o n as, s, k => sxE o s (fun a s₁ => match a with
    | .s j => (match at_ s₁.cs j with
      | some (.inst c _) => need (P.cls c) fun cl => need (lk cl.meths n) fun f => sxEs as s₁ (fun vs s₂ => C f (.s j :: vs) s₂ (giveVS fz k))
      | some (.list _) => Ys (Nat.beq n P.nAppend || Nat.beq n P.nPop) (sxEs as s₁ (fun vs s₂ => need (scL (at_ s₂.cs j)) fun xs => methLS P s₂ j n xs vs k))
      | some (.dict _) => Ys (Nat.beq n P.nGet) (sxEs as s₁ (fun vs s₂ => need (scD (at_ s₂.cs j)) fun kvs => methDS P s₂ j n kvs vs k))
      | some (.w c _) => need (P.cls c) fun cl => need (lk cl.meths n) fun f => sxEs as s₁ (fun vs s₂ => C f (.s j :: vs) s₂ (giveVS fz k))
      | _ => False)
    | _ => False)
  | .comp fz elt ts it cond, s, k => sxE it s (fun a s₁ => need (itemsS s₁ a) fun xs =>
      CompX a xs (fun x s₂ k₁ => bindTS ts x s₂ fun s₃ => sxC cond s₃ k₁) (fun s₂ k₁ => sxE elt s₂ k₁) xs (s₁.withLoc (rms s₁.loc ts)) fun ys s₂ => giveS fz (s₂.withLoc s₁.loc) k (.newList ys))
noncomputable def sxT : PC → Sy Ω → (Bool → Sy Ω → Prop) → Prop
  | .not e, s, k => sxT e s (fun b s₁ => k (!b) s₁)
  | .and es, s, k => sxAllT es s k
  | .or es, s, k => sxAnyT es s k
  | .e e, s, k => sxE e s (fun v s₁ => truS s₁ v fun b => k b s₁)
noncomputable def sxAllT : PCs → Sy Ω → (Bool → Sy Ω → Prop) → Prop
  | .nil, s, k => k true s
  | .cons e r, s, k => sxT e s (fun b s₁ => Br b (sxAllT r s₁ k) (k false s₁))
noncomputable def sxAnyT : PCs → Sy Ω → (Bool → Sy Ω → Prop) → Prop
  | .nil, s, k => k false s
  | .cons e r, s, k => sxT e s (fun b s₁ => Br b (k true s₁) (sxAnyT r s₁ k))
noncomputable def sxAnd : PEs → Sy Ω → (SV → Sy Ω → Prop) → Prop
  | .nil, _, _ => False
  | .cons e r, s, k => sxE e s (fun v s₁ => (match r with
    | .nil => k v s₁
    | .cons _ _ => truS s₁ v fun b => Br b (sxAnd r s₁ k) (k v s₁)))
noncomputable def sxEs : PEs → Sy Ω → (List SV → Sy Ω → Prop) → Prop
  | .nil, s, k => k [] s
  | .cons e r, s, k => sxE e s (fun v s₁ => sxEs r s₁ (fun vs s₂ => k (v :: vs) s₂))
noncomputable def sxO : PEo → Sy Ω → (Option SV → Sy Ω → Prop) → Prop
  | .none, s, k => k none s
  | .some e, s, k => sxE e s (fun v s₁ => k (some v) s₁)
noncomputable def sxC : PCo → Sy Ω → (Bool → Sy Ω → Prop) → Prop
  | .none, s, k => k true s
  | .some e, s, k => sxT e s k
end

/-- a thing stored in an object -/
noncomputable def putAS (a : SV) (n : Nat) (v : SV) (s : Sy Ω) (k : Sy Ω → Prop) : Prop := instS s a fun j c fs => need (P.cls c) fun cl => Ys (cl.attrs.contains n) (Ys (Nat.blt fs.length 1000) (stK fs n v fun gs => setS s j (.inst c gs) k))
noncomputable def asgnS (t : PT) (v : SV) (s : Sy Ω) (k : Sy Ω → Prop) : Prop := match t with
  | .loc i => putS s i v k
  | .attr o n => sxE P C o s (fun a s₁ => putAS P a n v s₁ k)
  | .idx o x => sxE P C o s (fun a s₁ => sxE P C x s₁ (fun b s₂ => need (svS a) fun j => need (svV b) fun y => need (scD (at_ s₂.cs j)) fun kvs => Ys (keyOk (dKeys kvs) y) (Nd (kvs.length < SZ) (setS s₂ j (.dict (dSet kvs y v)) k))))
  | .tup is => need (svV v) fun x => need (aTup x) fun xs => bindGoS is xs s k
noncomputable def augS (op : BOp) (a b : SV) (k : SV → Prop) : Prop := need (svV a) fun x => need (svV b) fun y => augK op x y fun v => k (.v v)

mutual
noncomputable def sxS : PS → Sy Ω → (FX → Sy Ω → Prop) → Prop
  | .expr e, s, k => sxE P C e s (fun _ s₁ => k .next s₁)
  | .assign t e, s, k => sxE P C e s (fun v s₁ => asgnS P C t v s₁ (fun s₂ => k .next s₂))
  | .augLoc i op e, s, k => need (lk s.loc i) fun a => sxE P C e s (fun b s₁ => augS op a b fun v => putS s₁ i v fun s₂ => k .next s₂)
  | .augAttr o n op e, s, k => sxE P C o s (fun a s₁ => instS s₁ a fun _ _ fs => need (lk fs n) fun x => sxE P C e s₁ (fun b s₂ => augS op x b fun v => putAS P a n v s₂ fun s₃ => k .next s₃))
  | .ret e, s, k => sxO P C e s (fun v s₁ => k (.ret (v.getD (.v .none))) s₁)
  | .ite t a b, s, k => sxT P C t s (fun c s₁ => Br c (sxSs a s₁ k) (sxSs b s₁ k))
  | .loop ts it body, s, k => sxE P C it s (fun a s₁ => need (itemsS s₁ a) fun xs =>
      LoopX a xs (fun x s₂ k₁ => bindTS ts x s₂ fun s₃ => sxSs body s₃ k₁) xs s₁ k)
  | .while_ _ _, _, _ => False
  | .raise, _, _ => False
noncomputable def sxSs : PSs → Sy Ω → (FX → Sy Ω → Prop) → Prop
  | .nil, s, k => k .next s
  | .cons c r, s, k => sxS c s (fun fl s₁ => seqS fl s₁ (fun s₂ => sxSs r s₂ k) k)
end

/-- the things of a call are bound to its names -/
noncomputable def bindPS : List Nat → List SV → List (Nat × SV) → Option (List (Nat × SV))
  | [], as, m => (match as with | [] => some m | _ => none)
  | p :: ps, as, m => (match as with | a :: as => bindPS ps as (st m p a) | [] => none)
noncomputable def retX : FX → SV
  | .ret v => v
  | _ => .v .none
/-- what is known of a def: how deep it calls, what it does -/
abbrev Spc (Ω : Type) := Nat → Option (Nat × (List SV → Sy Ω → (SV → Sy Ω → Prop) → Prop))
end
/-- a call: by what is known of it, else by its text -/
noncomputable def callX {Ω : Type} (P : Prog) (sp : Spc Ω) : Nat → XT Ω
  | 0, _, _, _, _ => False
  | m + 1, f, as, s, k => match sp f with
    | some (d, r) => Ys (Nat.ble d (m + 1)) (r as s k)
    | none => need (P.fn f) fun d => need (bindPS d.params as []) fun l =>
        (match s with
        | ⟨cs, lo, w⟩ => sxSs P (callX P sp m) d.body ⟨cs, l, w⟩ fun fl s₁ => k (retX fl) (s₁.withLoc lo))
end Mine

end

section
set_option autoImplicit false
set_option linter.all false
set_option genSizeOf false
set_option genInjectivity false
namespace Mine
open PySem (Str)

theorem Br_i {b : Bool} {t e : Prop} (h1 : b = true → t) (h2 : b = false → e) : Br b t e := by
  cases b with
  | true => exact h1 rfl
  | false => exact h2 rfl
theorem Br_m {b : Bool} {t e t' e' : Prop} (h : Br b t e) (h1 : t → t') (h2 : e → e') : Br b t' e' := by
  cases b with
  | true => exact h1 h
  | false => exact h2 h
theorem Ys_e {b : Bool} {t G : Prop} (h : Ys b t) (g : b = true → t → G) : G := Br_e h g fun _ h => h.elim
theorem Ys_i {b : Bool} {t : Prop} (e : b = true) (h : t) : Ys b t := by subst e; exact h

/-- what else the heap holds -/
structure MEnv (Ω : Type) where
  I : Ω → Hp → (Nat → Prop) → Prop
  Is : Ω → Nat → Nat → List (Nat × V) → List (Nat × V) → Prop
  keep : ∀ w H H' F, I w H F → (∀ a, F a → H'.get a = H.get a) → H.next ≤ H'.next → I w H' F
  obj : ∀ w a c fs fs', Is w a c fs fs' → ∀ n v, lk fs n = some v → lk fs' n = some v

section
variable {Ω : Type}
noncomputable def mR (o : Option Nat) : Option V := match o with
  | some a => some (.ref a)
  | none => none
noncomputable def dnA (ad : List Nat) : SA → Option V
  | .v x => some x
  | .s j => mR ad[j]?
noncomputable def dnAs (ad : List Nat) : List SA → Option (List V)
  | [] => some []
  | a :: r => (match dnA ad a with
    | some v => (match dnAs ad r with | some vs => some (v :: vs) | none => none)
    | none => none)
noncomputable def dn (ad : List Nat) : SV → Option V
  | .v x => some x
  | .s j => mR ad[j]?
  | .l xs => mL (dnAs ad xs)
inductive DnL (ad : List Nat) : List SV → List V → Prop
  | nil : DnL ad [] []
  | cons {a : SV} {v : V} {r : List SV} {vs : List V} : dn ad a = some v → DnL ad r vs → DnL ad (a :: r) (v :: vs)
inductive DnF {κ : Type} (ad : List Nat) : List (κ × SV) → List (κ × V) → Prop
  | nil : DnF ad [] []
  | cons {k : κ} {a : SV} {v : V} {r : List (κ × SV)} {vs : List (κ × V)} : dn ad a = some v → DnF ad r vs → DnF ad ((k, a) :: r) ((k, v) :: vs)
inductive CR (D : Nat → List (Nat × V) → List (Nat × V) → Prop) (ad : List Nat) : SC → C → Prop
  | list (xs : List V) : CR D ad (.list xs) (.list xs)
  | dict {kvs : List (V × SV)} {kvs' : List (V × V)} : DnF ad kvs kvs' → CR D ad (.dict kvs) (.dict kvs')
  | inst {k : Nat} {fs : List (Nat × SV)} {fs' : List (Nat × V)} : DnF ad fs fs' → CR D ad (.inst k fs) (.inst k fs')
  | w {k : Nat} {fs fs' : List (Nat × V)} : D k fs fs' → CR D ad (.w k fs) (.inst k fs')
inductive CA (D : Nat → Nat → List (Nat × V) → List (Nat × V) → Prop) (ad : List Nat) (H : Hp) (a : Nat) : SC → Prop
  | dead : CA D ad H a .dead
  | mk {c : SC} (d : C) (g : H.get a = some d) (r : CR (D a) ad c d) : CA D ad H a c
structure Mt (M : MEnv Ω) (ad : List Nat) (s : Sy Ω) (σ : St) : Prop where
  len : ad.length = s.cs.length
  cell : ∀ (j a : Nat) (c : SC), ad[j]? = some a → at_ s.cs j = some c → CA (M.Is s.w) ad σ.H a c
  nd : ∀ (i j a : Nat), ad[i]? = some a → ad[j]? = some a → i = j
  lt : ∀ (j a : Nat), ad[j]? = some a → a < σ.H.next
  loc : ∀ i sv, lk s.loc i = some sv → ∃ v, dn ad sv = some v ∧ σ.loc i = some v
  res : ∃ F, M.I s.w σ.H F ∧ (∀ (j a : Nat), ad[j]? = some a → ¬ F a) ∧ ∀ a, F a → a < σ.H.next
noncomputable def Ext (ad ad' : List Nat) : Prop := ∃ t, ad' = ad ++ t
theorem Ext.refl (ad : List Nat) : Ext ad ad := ⟨[], (List.append_nil _).symm⟩
theorem Ext.trans {a b c : List Nat} (x : Ext a b) (y : Ext b c) : Ext a c := x.elim fun t e => y.elim fun u e' => ⟨t ++ u, by rw [e', e, List.append_assoc]⟩
theorem Ext.at_ {a b : List Nat} (x : Ext a b) {j n : Nat} (h : a[j]? = some n) : b[j]? = some n := x.elim fun t e => by
  rw [e, List.getElem?_append_left (List.getElem?_eq_some_iff.mp h).1]; exact h
theorem mR_e {o : Option Nat} {v : V} (h : mR o = some v) : ∃ a, o = some a ∧ v = .ref a := by
  cases o with
  | none => cases h
  | some a => exact ⟨a, rfl, (Option.some.inj h).symm⟩
theorem mR_at {ad ad' : List Nat} (x : Ext ad ad') {j : Nat} {v : V} (h : mR ad[j]? = some v) : mR ad'[j]? = some v := (mR_e h).elim fun a e => by rw [x.at_ e.1, e.2]; rfl
theorem dnA_mono {ad ad' : List Nat} (x : Ext ad ad') {a : SA} {v : V} (h : dnA ad a = some v) : dnA ad' a = some v := by
  cases a with
  | v y => exact h
  | s j => exact mR_at x h
theorem dnAs_cons {ad : List Nat} {a : SA} {r : List SA} {vs : List V} {G : Prop} (h : dnAs ad (a :: r) = some vs) (g : ∀ v ws, dnA ad a = some v → dnAs ad r = some ws → vs = v :: ws → G) : G := by
  have h : (match dnA ad a with | some v => (match dnAs ad r with | some vs => some (v :: vs) | none => none) | none => none) = some vs := h
  generalize dnA ad a = p at h g
  cases p with
  | none => cases h
  | some v =>
    generalize dnAs ad r = q at h g
    cases q with
    | none => cases h
    | some ws => exact g v ws rfl rfl (Option.some.inj h).symm
theorem dnAs_i {ad : List Nat} {a : SA} {r : List SA} {v : V} {ws : List V} (h1 : dnA ad a = some v) (h2 : dnAs ad r = some ws) : dnAs ad (a :: r) = some (v :: ws) := by
  show (match dnA ad a with | some v => (match dnAs ad r with | some vs => some (v :: vs) | none => none) | none => none) = _
  rw [h1, h2]
theorem dnAs_mono {ad ad' : List Nat} (x : Ext ad ad') : ∀ {a : List SA} {v : List V}, dnAs ad a = some v → dnAs ad' a = some v
  | [], _, h => h
  | a :: r, vs, h => dnAs_cons h fun v ws h1 h2 e => e ▸ dnAs_i (dnA_mono x h1) (dnAs_mono x h2)
theorem dnAs_len {ad : List Nat} : ∀ {a : List SA} {v : List V}, dnAs ad a = some v → v.length = a.length
  | [], _, h => (Option.some.inj h) ▸ rfl
  | a :: r, vs, h => dnAs_cons h fun v ws h1 h2 e => e ▸ congrArg (· + 1) (dnAs_len h2)
theorem dnAs_at {ad : List Nat} : ∀ {a : List SA} {v : List V} {n : Nat} {x : SA}, dnAs ad a = some v → a[n]? = some x → ∃ w, v[n]? = some w ∧ dnA ad x = some w
  | [], _, _, _, h, e => by cases e
  | a :: r, vs, 0, x, h, e => dnAs_cons h fun v ws h1 h2 e' => ⟨v, by rw [e']; rfl, Option.some.inj e ▸ h1⟩
  | a :: r, vs, n + 1, x, h, e => dnAs_cons h fun v ws h1 h2 e' => (dnAs_at h2 e).elim fun w q => ⟨w, by rw [e']; exact q.1, q.2⟩
theorem dn_mono {ad ad' : List Nat} (x : Ext ad ad') {a : SV} {v : V} (h : dn ad a = some v) : dn ad' a = some v := by
  cases a with
  | v y => exact h
  | l xs => exact (mL_e h).elim fun vs e => by show mL (dnAs ad' xs) = _; rw [dnAs_mono x e.1, e.2]; rfl
  | s j => exact mR_at x h
theorem DnL.mono {ad ad' : List Nat} (x : Ext ad ad') {a : List SV} {v : List V} (h : DnL ad a v) : DnL ad' a v := by
  induction h with
  | nil => exact .nil
  | cons d _ ih => exact .cons (dn_mono x d) ih
theorem DnF.mono {κ : Type} {ad ad' : List Nat} (x : Ext ad ad') {a : List (κ × SV)} {v : List (κ × V)} (h : DnF ad a v) : DnF ad' a v := by
  induction h with
  | nil => exact .nil
  | cons d _ ih => exact .cons (dn_mono x d) ih
theorem CR.mono {D : Nat → List (Nat × V) → List (Nat × V) → Prop} {ad ad' : List Nat} (x : Ext ad ad') {c : SC} {d : C} (h : CR D ad c d) : CR D ad' c d := by
  cases h with
  | list xs => exact .list xs
  | dict h => exact .dict (h.mono x)
  | inst h => exact .inst (h.mono x)
  | w h => exact .w h
theorem dn_at {ad : List Nat} {j a : Nat} (h : ad[j]? = some a) : dn ad (.s j) = some (.ref a) := by show mR ad[j]? = _; rw [h]; rfl
theorem beq_nat {a b : Nat} : Nat.beq a b = true → a = b := Nat.eq_of_beq_eq_true
theorem beq_no {a b : Nat} : Nat.beq a b = false → a ≠ b := Nat.ne_of_beq_eq_false
theorem at_eq {cs : List SC} : ∀ {j : Nat}, at_ cs j = cs[j]? := by
  induction cs with
  | nil => intro j; rfl
  | cons c r ih =>
    intro j
    cases j with
    | zero => rfl
    | succ n => exact ih
theorem setAt_eq {cs : List SC} {d : SC} : ∀ {j : Nat}, setAt cs j d = cs.set j d := by
  induction cs with
  | nil => intro j; rfl
  | cons c r ih =>
    intro j
    cases j with
    | zero => rfl
    | succ n => exact congrArg (c :: ·) ih
theorem at_len {cs : List SC} {j : Nat} {c : SC} (h : at_ cs j = some c) : j < cs.length := by rw [at_eq] at h; exact (List.getElem?_eq_some_iff.mp h).1
theorem cond_e {α : Type} {b : Bool} {x y z : α} {G : Prop} (h : cond b x y = z) (g1 : b = true → x = z → G) (g2 : b = false → y = z → G) : G := by
  cases b with
  | true => exact g1 rfl h
  | false => exact g2 rfl h
theorem cond_t {α : Type} {b : Bool} {x y : α} (h : b = true) : cond b x y = x := by rw [h]; rfl
theorem cond_f {α : Type} {b : Bool} {x y : α} (h : b = false) : cond b x y = y := by rw [h]; rfl
theorem beq_t {a : Nat} : Nat.beq a a = true := Nat.beq_refl a
theorem beq_f {a b : Nat} (h : a ≠ b) : Nat.beq a b = false := by
  cases e : Nat.beq a b with
  | true => exact absurd (beq_nat e) h
  | false => rfl
theorem lk_st {α : Type} {l : List (Nat × α)} {i : Nat} {v : α} {j : Nat} {w : α} (h : lk (st l i v) j = some w) : (j = i ∧ w = v) ∨ (j ≠ i ∧ lk l j = some w) := by
  induction l with
  | nil => exact cond_e h (fun e q => .inl ⟨(beq_nat e).symm, (Option.some.inj q).symm⟩) fun _ q => (nomatch q)
  | cons p r ih =>
    have h : lk (cond (Nat.beq p.1 i) ((p.1, v) :: r) (p :: st r i v)) j = some w := h
    cases e : Nat.beq p.1 i with
    | true =>
      rw [e] at h
      refine cond_e (h : cond (Nat.beq p.1 j) (some v) (lk r j) = some w) (fun e2 q => .inl ⟨(beq_nat e2).symm.trans (beq_nat e), (Option.some.inj q).symm⟩) fun e2 q => .inr ⟨fun z => beq_no e2 (beq_nat e ▸ z.symm), ?_⟩
      show cond (Nat.beq p.1 j) _ _ = _
      rw [e2]; exact q
    | false =>
      rw [e] at h
      refine cond_e (h : cond (Nat.beq p.1 j) (some p.2) (lk (st r i v) j) = some w) (fun e2 q => .inr ⟨fun z => beq_no e ((beq_nat e2).trans z), ?_⟩) fun e2 q => (ih q).imp id fun ⟨a, b⟩ => ⟨a, ?_⟩
      · show cond (Nat.beq p.1 j) _ _ = _
        rw [e2]; exact q
      · show cond (Nat.beq p.1 j) _ _ = _
        rw [e2]; exact b
theorem lk_rm {α : Type} {l : List (Nat × α)} {i j : Nat} {w : α} (h : lk (rm l i) j = some w) : j ≠ i ∧ lk l j = some w := by
  induction l with
  | nil => cases h
  | cons p r ih =>
    have h : lk (cond (Nat.beq p.1 i) (rm r i) (p :: rm r i)) j = some w := h
    show _ ∧ cond (Nat.beq p.1 j) (some p.2) (lk r j) = some w
    cases e : Nat.beq p.1 i with
    | true =>
      rw [e] at h
      obtain ⟨a, b⟩ := ih h
      rw [beq_f (a := p.1) (b := j) fun z => a (z.symm.trans (beq_nat e))]
      exact ⟨a, b⟩
    | false =>
      rw [e] at h
      refine cond_e (h : cond (Nat.beq p.1 j) (some p.2) (lk (rm r i) j) = some w) (fun e2 q => ⟨fun z => beq_no e ((beq_nat e2).trans z), by rw [e2]; exact q⟩) fun e2 q => ?_
      rw [e2]; exact ih q
theorem lk_rms {α : Type} {ts : List Nat} : ∀ {l : List (Nat × α)} {j : Nat} {w : α}, lk (rms l ts) j = some w → j ∉ ts ∧ lk l j = some w := by
  induction ts with
  | nil => intro l j w h; exact ⟨List.not_mem_nil, h⟩
  | cons t ts ih =>
    intro l j w h
    obtain ⟨a, b⟩ := ih h
    obtain ⟨c, d⟩ := lk_rm b
    exact ⟨fun z => (List.mem_cons.mp z).elim c a, d⟩
theorem DnF.lk {ad : List Nat} {fs : List (Nat × SV)} {fs' : List (Nat × V)} (h : DnF ad fs fs') {n : Nat} {a : SV} (e : Mine.lk fs n = some a) : ∃ v, dn ad a = some v ∧ Mine.lk fs' n = some v := by
  induction h with
  | nil => cases e
  | @cons k b v r vs hd _ ih =>
    refine cond_e (e : cond (Nat.beq k n) (some b) (Mine.lk r n) = some a) (fun e2 q => ⟨v, Option.some.inj q ▸ hd, ?_⟩) fun e2 q => (ih q).imp fun w q => ⟨q.1, ?_⟩
    · show cond (Nat.beq k n) _ _ = _; rw [e2]; rfl
    · show cond (Nat.beq k n) _ _ = _; rw [e2]; exact q.2
theorem DnF.st {ad : List Nat} {n : Nat} {a : SV} {v : V} (hv : dn ad a = some v) {fs : List (Nat × SV)} {fs' : List (Nat × V)} (h : DnF ad fs fs') : DnF ad (Mine.st fs n a) (Mine.st fs' n v) := by
  induction h with
  | nil => exact .cons hv .nil
  | @cons k b w r vs hd hr ih =>
    show DnF ad (cond (Nat.beq k n) ((k, a) :: r) ((k, b) :: Mine.st r n a)) (cond (Nat.beq k n) ((k, v) :: vs) ((k, w) :: Mine.st vs n v))
    cases Nat.beq k n with
    | true => exact .cons hv hr
    | false => exact .cons hd ih
theorem DnF.len {κ : Type} {ad : List Nat} {fs : List (κ × SV)} {fs' : List (κ × V)} (h : DnF ad fs fs') : fs'.length = fs.length := by
  induction h with
  | nil => rfl
  | cons _ _ ih => exact congrArg (· + 1) ih
theorem DnF.keys {ad : List Nat} {fs : List (V × SV)} {fs' : List (V × V)} (h : DnF ad fs fs') : dKeys fs' = dKeys fs := by
  induction h with
  | nil => rfl
  | @cons k _ _ _ _ _ _ ih => exact congrArg (k :: ·) ih
inductive DG (ad : List Nat) (o : Option SV) (o' : Option V) : Prop
  | none (a : o = none) (b : o' = none)
  | some (x : SV) (v : V) (a : o = some x) (b : o' = some v) (d : dn ad x = some v)
theorem DnF.dGet {ad : List Nat} {x : V} {kvs : List (V × SV)} {kvs' : List (V × V)} (h : DnF ad kvs kvs') : DG ad (Mine.dGet kvs x) (Mine.dGet kvs' x) := by
  induction h with
  | nil => exact .none rfl rfl
  | @cons k b w r vs hd hr ih =>
    show DG ad (cond (eqD k x) (some b) (Mine.dGet r x)) (cond (eqD k x) (some w) (Mine.dGet vs x))
    cases eqD k x with
    | true => exact .some b w rfl rfl hd
    | false => exact ih
theorem DnF.dSet {ad : List Nat} {x : V} {a : SV} {v : V} (hv : dn ad a = some v) {kvs : List (V × SV)} {kvs' : List (V × V)} (h : DnF ad kvs kvs') : DnF ad (Mine.dSet kvs x a) (Mine.dSet kvs' x v) := by
  induction h with
  | nil => exact .cons hv .nil
  | @cons k b w r vs hd hr ih =>
    show DnF ad (cond (eqD k x) ((k, a) :: r) ((k, b) :: Mine.dSet r x a)) (cond (eqD k x) ((k, v) :: vs) ((k, w) :: Mine.dSet vs x v))
    cases eqD k x with
    | true => exact .cons hv hr
    | false => exact .cons hd ih
theorem stK_iff {α : Type} {n : Nat} {v : α} : ∀ {fs : List (Nat × α)} {k : List (Nat × α) → Prop}, stK fs n v k = k (st fs n v)
  | [], _ => rfl
  | p :: r, k => by
    show Br (Nat.beq p.1 n) (k ((p.1, v) :: r)) (stK r n v fun r' => k (p :: r')) = k (cond (Nat.beq p.1 n) ((p.1, v) :: r) (p :: st r n v))
    rw [stK_iff]
    cases Nat.beq p.1 n <;> rfl
theorem setK_iff {d : SC} : ∀ {cs : List SC} {n : Nat} {k : List SC → Prop}, setK cs n d k = k (setAt cs n d)
  | [], _, _ => rfl
  | c :: r, 0, k => rfl
  | c :: r, n + 1, k => setK_iff (cs := r) (n := n) (k := fun r' => k (c :: r'))
theorem snK_iff {c : SC} : ∀ {cs : List SC} {n : Nat} {k : Nat → List SC → Prop}, snK cs n c k = k (n + cs.length) (cs ++ [c])
  | [], _, _ => rfl
  | x :: r, n, k => by
    refine (snK_iff (cs := r) (n := n + 1) (k := fun m r' => k m (x :: r'))).trans ?_
    show k (n + 1 + r.length) _ = k (n + (r.length + 1)) _
    rw [Nat.add_assoc, Nat.add_comm 1]; rfl
theorem putS_iff {s : Sy Ω} {i : Nat} {v : SV} {k : Sy Ω → Prop} : putS s i v k = k (s.put i v) := by cases s; exact stK_iff
theorem setS_iff {s : Sy Ω} {j : Nat} {c : SC} {k : Sy Ω → Prop} : setS s j c k = k (s.setC j c) := by cases s; exact setK_iff
theorem newS_iff {s : Sy Ω} {c : SC} {k : Nat → Sy Ω → Prop} : newS s c k = k s.nx (s.new c) := by
  cases s
  refine (snK_iff (k := fun n cs => k n ⟨cs, _, _⟩)).trans ?_
  rw [Nat.zero_add]; rfl
theorem putS_i {s : Sy Ω} {i : Nat} {v : SV} {k : Sy Ω → Prop} (h : k (s.put i v)) : putS s i v k := Eq.mpr putS_iff h
theorem setS_i {s : Sy Ω} {j : Nat} {c : SC} {k : Sy Ω → Prop} (h : k (s.setC j c)) : setS s j c k := Eq.mpr setS_iff h
theorem newS_i {s : Sy Ω} {c : SC} {k : Nat → Sy Ω → Prop} (h : k s.nx (s.new c)) : newS s c k := Eq.mpr newS_iff h
theorem bind1_i {s : Sy Ω} {i : Nat} {x : V} {k : Sy Ω → Prop} (h : k (s.put i (.v x))) : bindTS [i] x s k := putS_i h
theorem putS_ok {s : Sy Ω} {i : Nat} {v : SV} {k : Sy Ω → Prop} (h : putS s i v k) : k (s.put i v) := Eq.mp putS_iff h
theorem setS_ok {s : Sy Ω} {j : Nat} {c : SC} {k : Sy Ω → Prop} (h : setS s j c k) : k (s.setC j c) := Eq.mp setS_iff h
theorem newS_ok {s : Sy Ω} {c : SC} {k : Nat → Sy Ω → Prop} (h : newS s c k) : k s.nx (s.new c) := Eq.mp newS_iff h
end
end Mine

end

section
set_option autoImplicit false
set_option linter.all false
set_option genSizeOf false
set_option genInjectivity false
namespace Mine
open PySem (Str)
section
variable {Ω : Type} {M : MEnv Ω}
section
variable {ad : List Nat} {s : Sy Ω} {σ : St} (m : Mt M ad s σ)
include m
theorem Mt.there {j a : Nat} (ha : ad[j]? = some a) {G : Prop} (g : ∀ c, at_ s.cs j = some c → CA (M.Is s.w) ad σ.H a c → G) : G := by
  have hl : j < s.cs.length := by rw [← m.len]; exact (List.getElem?_eq_some_iff.mp ha).1
  have e : at_ s.cs j = some s.cs[j] := by rw [at_eq]; exact List.getElem?_eq_getElem hl
  exact g _ e (m.cell j a _ ha e)
theorem Mt.list {j a : Nat} {xs : List V} (h : Mine.at_ s.cs j = some (.list xs)) (ha : ad[j]? = some a) : σ.H.get a = some (.list xs) := by
  cases m.cell j a _ ha h with
  | mk d g r => cases r; exact g
theorem Mt.dict {j a : Nat} {kvs : List (V × SV)} {G : Prop} (h : Mine.at_ s.cs j = some (.dict kvs)) (ha : ad[j]? = some a) (g : ∀ kvs', σ.H.get a = some (.dict kvs') → DnF ad kvs kvs' → G) : G := by
  cases m.cell j a _ ha h with
  | mk d q r => cases r with | dict r => exact g _ q r
theorem Mt.inst {j a k : Nat} {fs : List (Nat × SV)} {G : Prop} (h : Mine.at_ s.cs j = some (.inst k fs)) (ha : ad[j]? = some a) (g : ∀ fs', σ.H.get a = some (.inst k fs') → DnF ad fs fs' → G) : G := by
  cases m.cell j a _ ha h with
  | mk d q r => cases r with | inst r => exact g _ q r
theorem Mt.put {i : Nat} {a : SV} {v : V} (h : dn ad a = some v) : Mt M ad (s.put i a) (σ.put i v) :=
  ⟨m.len, m.cell, m.nd, m.lt, fun j b hb => (lk_st hb).elim (fun q => ⟨v, q.2 ▸ h, by show (if j = i then some v else _) = _; rw [if_pos q.1]⟩) fun q => (m.loc j b q.2).imp fun w z => ⟨z.1, by show (if j = i then some v else _) = _; rw [if_neg q.1]; exact z.2⟩, m.res⟩
theorem Mt.withLoc {l : List (Nat × SV)} {lo : Loc} (h : ∀ i sv, Mine.lk l i = some sv → ∃ v, dn ad sv = some v ∧ lo i = some v) : Mt M ad (s.withLoc l) ⟨σ.H, lo⟩ :=
  ⟨m.len, m.cell, m.nd, m.lt, h, m.res⟩
/-- a cell is changed, or let go -/
theorem Mt.chg {j a : Nat} {c' : SC} {H' : Hp} (ha : ad[j]? = some a) (hn : H'.next = σ.H.next) (ho : ∀ b, b ≠ a → H'.get b = σ.H.get b) (h : CA (M.Is s.w) ad H' a c') : Mt M ad (s.setC j c') (σ.setH H') := by
  refine ⟨?_, fun i b d hb hd => ?_, m.nd, fun j a q => hn ▸ m.lt j a q, m.loc, m.res.imp fun F f => ⟨M.keep _ _ _ _ f.1 (fun x hx => ho x fun z => f.2.1 j a ha (z ▸ hx)) (Nat.le_of_eq hn.symm), f.2.1, fun x hx => hn ▸ f.2.2 x hx⟩⟩
  · show _ = (setAt s.cs j c').length
    rw [setAt_eq, List.length_set]; exact m.len
  · have hd : Mine.at_ (setAt s.cs j c') i = some d := hd
    rw [setAt_eq, at_eq, List.getElem?_set] at hd
    by_cases e : j = i
    · subst e
      have hb : b = a := Option.some.inj (hb.symm.trans ha)
      rw [if_pos rfl, if_pos (by rw [← m.len]; exact (List.getElem?_eq_some_iff.mp ha).1)] at hd
      rw [hb, ← Option.some.inj hd]; exact h
    · rw [if_neg e] at hd
      cases m.cell i b d hb (by rw [at_eq]; exact hd) with
      | dead => exact .dead
      | mk c2 q1 q2 => exact .mk c2 ((ho b fun z => e (m.nd j i a ha (z ▸ hb))).trans q1) q2
theorem Mt.setC {j a : Nat} {c' : SC} {c : C} (ha : ad[j]? = some a) (h : CR (M.Is s.w a) ad c' c) : Mt M ad (s.setC j c') (σ.setH (σ.H.set a c)) :=
  m.chg ha rfl (fun b hb => if_neg hb) (.mk c (if_pos rfl) h)
theorem Mt.dead {j a : Nat} (ha : ad[j]? = some a) : Mt M ad (s.setC j .dead) (σ.setH (σ.H.del a)) := m.chg ha rfl (fun b hb => if_neg hb) .dead
theorem Mt.ext : Ext ad (ad ++ [σ.H.next]) := ⟨_, rfl⟩
theorem Mt.newAt : (ad ++ [σ.H.next])[s.nx]? = some σ.H.next := by
  rw [show s.nx = ad.length from m.len.symm, List.getElem?_append_right (Nat.le_refl _), Nat.sub_self]; rfl
theorem Mt.newDn : dn (ad ++ [σ.H.next]) (.s s.nx) = some (.ref σ.H.next) := dn_at m.newAt
theorem Mt.new {c' : SC} {c : C} (h : CR (M.Is s.w σ.H.next) (ad ++ [σ.H.next]) c' c) : Mt M (ad ++ [σ.H.next]) (s.new c') (σ.setH (σ.H.new c)) := by
  have hx : ∀ {i a}, (ad ++ [σ.H.next])[i]? = some a → (ad[i]? = some a) ∨ (i = ad.length ∧ a = σ.H.next) := fun {i a} h => by
    rw [List.getElem?_append] at h
    by_cases q : i < ad.length
    · rw [if_pos q] at h; exact .inl h
    · rw [if_neg q] at h
      have z : i - ad.length = 0 := Nat.lt_one_iff.mp (List.getElem?_eq_some_iff.mp h).1
      rw [z] at h
      exact .inr ⟨Nat.le_antisymm (Nat.sub_eq_zero_iff_le.mp z) (Nat.le_of_not_lt q), (Option.some.inj h).symm⟩
  have old : ∀ x, x < σ.H.next → (σ.H.new c).get x = σ.H.get x := fun x hx => if_neg (Nat.ne_of_lt hx)
  refine ⟨?_, fun i b d hb hd => ?_, fun i j a hi hj => ?_, fun j a hj => (hx hj).elim (fun q => Nat.lt_succ_of_lt (m.lt j a q)) fun q => q.2 ▸ Nat.lt_succ_self _, fun i sv h => (m.loc i sv h).imp fun v q => ⟨dn_mono m.ext q.1, q.2⟩,
    m.res.imp fun F f => ⟨M.keep _ _ _ _ f.1 (fun x hx => old x (f.2.2 x hx)) (Nat.le_succ _), fun j a hj => (hx hj).elim (f.2.1 j a) fun q z => Nat.lt_irrefl _ (f.2.2 _ (q.2 ▸ z)), fun a ha => Nat.lt_succ_of_lt (f.2.2 a ha)⟩⟩
  · show _ = (s.cs ++ [c']).length
    rw [List.length_append, List.length_append, m.len]; rfl
  · have hd : Mine.at_ (s.cs ++ [c']) i = some d := hd
    rw [at_eq] at hd
    rcases hx hb with q | ⟨rfl, rfl⟩
    · rw [List.getElem?_append_left (by rw [← m.len]; exact (List.getElem?_eq_some_iff.mp q).1)] at hd
      cases m.cell i b d q (by rw [at_eq]; exact hd) with
      | dead => exact .dead
      | mk c2 q1 q2 => exact .mk c2 ((old b (m.lt i b q)).trans q1) (q2.mono m.ext)
    · rw [List.getElem?_append_right (by rw [m.len]; exact Nat.le_refl _), m.len, Nat.sub_self] at hd
      rw [← Option.some.inj hd]
      exact .mk c (if_pos rfl) h
  · rcases hx hi with q | q <;> rcases hx hj with q' | q'
    · exact m.nd i j a q q'
    · exact absurd (m.lt i a q) (by rw [q'.2]; exact Nat.lt_irrefl _)
    · exact absurd (m.lt j a q') (by rw [q.2]; exact Nat.lt_irrefl _)
    · exact q.1.trans q'.1.symm
end

/-! how things are seen -/
theorem seeV_ok {H : Hp} {x y : V} (h : seeV x = some y) : see H x = some y := by cases x <;> first | exact h | (cases h; done)
theorem seeS_ok {ad : List Nat} {s : Sy Ω} {σ : St} (m : Mt M ad s σ) {a : SV} {v x : V} (d : dn ad a = some v) (h : seeS s a = some x) : see σ.H v = some x := by
  cases a with
  | v y => exact Option.some.inj d ▸ seeV_ok h
  | s j =>
    obtain ⟨n, hn, rfl⟩ := mR_e d
    have h : mL (scL (at_ s.cs j)) = some x := h
    show mL (cL (σ.H.get n)) = _
    refine m.there hn fun c hc r => ?_
    rw [hc] at h
    cases r with
    | dead => cases h
    | mk c' g r =>
      rw [g]
      cases r with
      | list ys => exact h
      | _ => cases h
  | _ => cases h
theorem kindS_ok {ad : List Nat} {s : Sy Ω} {σ : St} (m : Mt M ad s σ) {a : SV} {v : V} {q : Kd} (d : dn ad a = some v) (h : kindS s a = some q) : kind σ.H v = some q := by
  cases a with
  | v y =>
    cases d
    cases v <;> first | exact h | (cases h; done)
  | s j =>
    obtain ⟨n, hn, rfl⟩ := mR_e d
    show kdC (σ.H.get n) = _
    refine m.there hn fun c hc r => ?_
    have h : (match at_ s.cs j with | some (.list _) => some Kd.list | _ => none) = some q := h
    rw [hc] at h
    cases r with
    | dead => cases h
    | mk c' g r => rw [g]; cases r <;> exact h
  | l xs => cases h
theorem lenS_ok {ad : List Nat} {s : Sy Ω} {σ : St} (m : Mt M ad s σ) {a : SV} {v : V} {q : Nat} (d : dn ad a = some v) (h : lenS s a = some q) : lenH σ.H v = some q := by
  cases a with
  | v y =>
    cases d
    cases v <;> first | exact h | (cases h; done)
  | s j =>
    obtain ⟨n, hn, rfl⟩ := mR_e d
    refine m.there hn fun c hc r => ?_
    have h : (match at_ s.cs j with | some (.list xs) => some xs.length | _ => none) = some q := h
    show (match σ.H.get n with | some (.list xs) => some xs.length | _ => none) = some q
    rw [hc] at h
    cases r with
    | dead => cases h
    | mk c' g r =>
      rw [g]
      cases r with
      | list xs => exact h
      | _ => cases h
  | l xs => cases h
theorem itemsS_ok {ad : List Nat} {s : Sy Ω} {σ : St} (m : Mt M ad s σ) {a : SV} {v : V} {q : List V} (d : dn ad a = some v) (h : itemsS s a = some q) : items σ.H v = some q := by
  cases a with
  | v y =>
    cases d
    cases v <;> first | exact h | (cases h; done)
  | s j =>
    obtain ⟨n, hn, rfl⟩ := mR_e d
    refine m.there hn fun c hc r => ?_
    have h : (match at_ s.cs j with | some (.list xs) => some xs | _ => none) = some q := h
    show cL (σ.H.get n) = some q
    rw [hc] at h
    cases r with
    | dead => cases h
    | mk c' g r =>
      rw [g]
      cases r with
      | list xs => exact h
      | _ => cases h
  | _ => cases h
theorem datL_deep {H : Hp} {n : Nat} (ih : ∀ v, datN n v = true → deepN H n v = some v) (xs : List V) (h : xs.all (datN n) = true) : deepL (deepN H n) xs = some xs := by
  induction xs with
  | nil => rfl
  | cons x r ihr =>
    rw [List.all_cons, Bool.and_eq_true] at h
    show (match deepN H n x with | some y => (match deepL (deepN H n) r with | some ys => some (y :: ys) | none => none) | none => none) = _
    rw [ih x h.1, ihr h.2]
theorem dat_deep {H : Hp} (n : Nat) : ∀ v, datN n v = true → deepN H n v = some v := by
  induction n with
  | zero => intro v h; cases v <;> first | rfl | cases h
  | succ n ih =>
    intro v h
    cases v with
    | tup xs => exact congrArg mT (datL_deep ih xs h)
    | lst xs => exact congrArg mL (datL_deep ih xs h)
    | _ => first | rfl | cases h
theorem deepK_ok {ad : List Nat} {s : Sy Ω} {σ : St} (m : Mt M ad s σ) {a : SV} {v : V} {k : V → Prop} (d : dn ad a = some v) (h : deepK s a k) : need (deep σ.H v) k := by
  cases a with
  | v y => exact Ys_e h fun e h => need_i (dat_deep 12 v (by rw [← Option.some.inj d]; exact e)) (by rw [← Option.some.inj d]; exact h)
  | s j =>
    obtain ⟨n, hn, rfl⟩ := mR_e d
    refine need_e h fun xs e h => Ys_e h fun e2 h => need_i ?_ h
    refine m.there hn fun c hc r => ?_
    rw [hc] at e
    show bindL (cL (σ.H.get n)) _ = _
    cases r with
    | dead => cases e
    | mk c' g r =>
      rw [g]
      cases r with
      | list ys =>
        cases e
        exact congrArg mL (datL_deep (dat_deep 11) xs e2)
      | _ => cases e
  | l _ => exact h.elim
theorem need_m {α : Type} {o o' : Option α} {k k' : α → Prop} (h : need o k) (e : ∀ a, o = some a → o' = some a) (g : ∀ a, k a → k' a) : need o' k' := need_e h fun a q z => need_i (e a q) (g a z)
theorem b1K_m {b : B} {o o' : Option V} {n n' : Option Nat} {k : LV → Prop} (h : b1K b o n k) (e : ∀ x, o = some x → o' = some x) (e' : ∀ x, n = some x → n' = some x) : b1K b o' n' k := by
  cases b with
  | len => exact need_m h e' fun _ z => z
  | list => exact need_m h e fun _ z => z
  | range => exact need_m h e fun _ z => z
  | _ => exact h.elim
section
variable {ad : List Nat} {s : Sy Ω} {σ : St} (m : Mt M ad s σ) {a b : SV} {v w : V} (ha : dn ad a = some v)
include m ha
theorem see_m {k : V → Prop} (h : need (seeS s a) k) : need (see σ.H v) k := need_m h (fun _ e => seeS_ok m ha e) fun _ z => z
theorem truS_ok {k : Bool → Prop} (h : truS s a k) : truK σ.H v k := see_m m ha h
theorem anyS_ok {xs : List V} {k : Bool → Prop} (h : anyS s a xs k) : cmpK.anyK σ.H v xs k := need_e (deepK_ok m ha h) fun y e h => need_i e (Ys_e h fun e2 h => need_i (datL_deep (dat_deep 11) xs e2) h)
variable (hb : dn ad b = some w)
include hb
theorem see2_m {k : V → V → Prop} (h : need (seeS s a) fun x => need (seeS s b) fun y => k x y) : need (see σ.H v) fun x => need (see σ.H w) fun y => k x y :=
  need_m h (fun _ e => seeS_ok m ha e) fun _ z => see_m m hb z
theorem inS_ok {k : Bool → Prop} (h : inS s a b k) : cmpK.inK σ.H v w k := by
  cases b with
  | s j =>
    obtain ⟨n, hn, rfl⟩ := mR_e hb
    refine m.there hn fun c hc r => ?_
    have h : (match at_ s.cs j with | some (.list xs) => anyS s a xs k | _ => False) := h
    show (match σ.H.get n with | some (.list xs) => cmpK.anyK σ.H v xs k | _ => False)
    rw [hc] at h
    cases r with
    | dead => exact h.elim
    | mk c' g r =>
      rw [g]
      cases r with
      | list xs => exact anyS_ok m ha h
      | _ => exact h.elim
  | v y =>
    cases hb
    cases w with
    | lst xs => exact anyS_ok m ha h
    | _ => exact h.elim
  | _ => exact h.elim
theorem isS_ok {k : Bool → Prop} (h : isS a b k) : isK v w k := by
  cases b with
  | v y =>
    cases hb
    have key : ∀ f : V → Bool, (∀ n, f (.ref n) = false) → isF f a k → Nd (solid v = true) (k (f v)) := fun f f1 h => by
      cases a with
      | v x => cases ha; exact Ys_e h fun e h => ⟨e, h⟩
      | s j => obtain ⟨n, _, rfl⟩ := mR_e ha; exact ⟨rfl, by rw [f1]; exact h⟩
      | l j => exact h.elim
    cases w with
    | none => exact key isNone (fun _ => rfl) h
    | bool c => exact key (isB c) (fun _ => rfl) h
    | _ => exact h.elim
  | _ => exact h.elim
theorem cmpS_ok {op : COp} {k : Bool → Prop} (h : cmpS s op a b k) : cmpK σ.H op v w k := by
  cases op with
  | eq => exact need_m (deepK_ok m ha h) (fun _ e => e) fun _ z => deepK_ok m hb z
  | ne => exact need_m (deepK_ok m ha h) (fun _ e => e) fun _ z => deepK_ok m hb z
  | lt => exact see2_m m ha hb h
  | le => exact see2_m m ha hb h
  | gt => exact see2_m m ha hb h
  | ge => exact see2_m m ha hb h
  | isIn => exact inS_ok m ha hb h
  | notIn => exact inS_ok (k := fun r => k (!r)) m ha hb h
  | is => exact isS_ok m ha hb h
  | isNot => exact isS_ok (k := fun r => k (!r)) m ha hb h
theorem idxS_ok {k : SV → Prop} {Q : V → Prop} (h : idxS s a b k) (g : ∀ sv r, dn ad sv = some r → k sv → Q r) : idxH σ.H v w Q := by
  have km : ∀ x, idxK x w (fun v => k (.v v)) → idxK x w Q := fun x h => need_m h (fun _ e => e) fun i z => by
    cases x with
    | lst xs => exact need_m z (fun _ e => e) fun n z => need_m z (fun _ e => e) fun v z => g (.v v) v rfl z
    | tup xs => exact need_m z (fun _ e => e) fun n z => need_m z (fun _ e => e) fun v z => g (.v v) v rfl z
    | str t => exact ⟨z.1, need_m z.2 (fun _ e => e) fun v z => g (.v _) _ rfl z⟩
    | _ => exact z.elim
  refine need_e h fun y e h => ?_
  cases b with
  | v z =>
    cases hb
    have e : w = y := Option.some.inj e
    subst e
    cases a with
    | s j =>
      obtain ⟨n, hn, rfl⟩ := mR_e ha
      refine m.there hn fun c hc r => ?_
      have h : (match at_ s.cs j with | some (.list xs) => idxK (.lst xs) w fun v => k (.v v) | _ => False) := h
      show (match σ.H.get n with | some (.list xs) => idxK (.lst xs) w Q | _ => False)
      rw [hc] at h
      cases r with
      | dead => exact h.elim
      | mk c' g' r =>
        rw [g']
        cases r with
        | list xs => exact km _ h
        | _ => exact h.elim
    | l xs =>
      obtain ⟨vs, q, rfl⟩ := mL_e ha
      refine need_m h (fun _ e => e) fun i z => ?_
      show need (pyIdx i vs.length) _
      rw [dnAs_len q]
      refine need_m z (fun _ e => e) fun n z => need_e z fun x e z => (dnAs_at q e).elim fun u e' => need_i e'.1 (g x.sv u (by cases x <;> exact e'.2) z)
    | v x =>
      cases ha
      refine Ys_e h fun e h => ?_
      cases v <;> first | exact km _ h | (cases e; done)
  | _ => cases e
end
theorem bS_ok {ad : List Nat} {s : Sy Ω} {σ : St} (m : Mt M ad s σ) {b : B} {as : List SV} {vs : List V} {k : LV → Prop} (d : DnL ad as vs) (h : bS s b as k) : callB σ.H b vs k := by
  cases d with
  | nil => exact h.elim
  | cons d1 r =>
    cases r with
    | nil => exact b1K_m h (fun _ e => seeS_ok m d1 e) fun _ e => lenS_ok m d1 e
    | @cons a2 _ _ _ d2 r =>
      cases r with
      | nil =>
        refine Br_m h (fun h => need_m h (fun _ e => kindS_ok m d1 e) fun q z => need_e z fun t e z => ?_) fun h => see2_m m d1 d2 h
        cases a2 with
        | v x => cases d2; cases e; exact z
        | _ => cases e
      | cons d3 r => exact h.elim
end
end Mine

end

section
set_option autoImplicit false
set_option linter.all false
set_option genSizeOf false
set_option genInjectivity false
namespace Mine
open PySem (Str)
section
variable {Ω : Type} (M : MEnv Ω)
/-- the rest goes on, whatever the state is then -/
noncomputable def PW {α β : Type} (D : List Nat → α → β → Prop) (ad : List Nat) (k : α → Sy Ω → Prop) (Q : β → St → Prop) : Prop := ∀ a s' ad' σ' v, Ext ad ad' → Mt M ad' s' σ' → D ad' a v → k a s' → Q v σ'
noncomputable def DV (ad : List Nat) (a : SV) (v : V) : Prop := dn ad a = some v
noncomputable def DI {α : Type} (_ : List Nat) (a b : α) : Prop := b = a
noncomputable def CallOk (C : XT Ω) (K : CT) : Prop := ∀ f as s k ad σ vs Q, C f as s k → Mt M ad s σ → DnL ad as vs → PW M DV ad k (fun v σ' => σ'.loc = σ.loc → Q v σ'.H) → K f vs σ.H Q
inductive DO (ad : List Nat) : Option SV → Option V → Prop
  | none : DO ad none none
  | some {a : SV} {v : V} (d : dn ad a = some v) : DO ad (some a) (some v)
variable {M}
theorem PW.mono {α β : Type} {D : List Nat → α → β → Prop} {ad ad' : List Nat} {k : α → Sy Ω → Prop} {Q : β → St → Prop} (h : PW M D ad k Q) (x : Ext ad ad') : PW M D ad' k Q := fun a s' ad'' σ' v y => h a s' ad'' σ' v (x.trans y)
theorem PW.now {α β : Type} {D : List Nat → α → β → Prop} {ad : List Nat} {k : α → Sy Ω → Prop} {Q : β → St → Prop} (h : PW M D ad k Q) {s : Sy Ω} {σ : St} (m : Mt M ad s σ) {a : α} {v : β} (d : D ad a v) (z : k a s) : Q v σ := h a s ad σ v (.refl _) m d z
theorem Mt.back {ad : List Nat} {s : Sy Ω} {σ σ' : St} (m : Mt M ad s σ') (e : σ'.loc = σ.loc) : Mt M ad s (σ.setH σ'.H) := ⟨m.len, m.cell, m.nd, m.lt, e ▸ m.loc, m.res⟩
section
variable {ad : List Nat} {s : Sy Ω} {σ : St} (m : Mt M ad s σ)
include m
theorem giveS_ok {fz : Bool} {k : SV → Sy Ω → Prop} {Q : V → St → Prop} {r : LV} (h : giveS fz s k r) (hk : PW M DV ad k Q) : give fz σ Q r := by
  cases r with
  | val x => exact hk.now m (a := .v x) rfl h
  | newList xs => exact ⟨h.1, Br_m h.2 (fun h => hk.now m (a := .v (.lst xs)) rfl h) fun h => (hk.mono m.ext).now (m.new (.list xs)) m.newDn (newS_ok h)⟩
theorem giveVS_ok {fz : Bool} {k : SV → Sy Ω → Prop} {Q : V → St → Prop} {r : SV} {v : V} (d : dn ad r = some v) (h : giveVS fz k r s) (hk : PW M DV ad k Q) : giveV fz σ Q v := by
  refine Br_m h (fun h => ?_) fun h => hk.now m d h
  cases r with
  | v x =>
    cases d
    refine Ys_e h fun e h => ?_
    have := hk.now m (a := .v v) (v := v) rfl h
    cases v <;> first | exact this | (cases e; done)
  | s j =>
    obtain ⟨n, hn, rfl⟩ := mR_e d
    show (match cL (σ.H.get n) with | some xs => Q (.lst xs) (σ.setH (σ.H.del n)) | none => Q (.ref n) σ)
    have h : (match at_ s.cs j with | some (.list xs) => setS s j .dead fun s' => k (.v (.lst xs)) s' | some .dead => False | _ => k (.s j) s) := h
    refine m.there hn fun c hc r => ?_
    rw [hc] at h
    cases r with
    | dead => exact h.elim
    | mk c' g r =>
      rw [g]
      cases r with
      | list xs => exact hk.now (m.dead hn) (a := .v (.lst xs)) (v := .lst xs) rfl (setS_ok h)
      | _ => exact hk.now m d h
  | l xs => exact h.elim
theorem attrS_ok {a : SV} {v : V} {n : Nat} {k : SV → Prop} {Q : V → Prop} (d : dn ad a = some v) (h : attrS s a n k) (g : ∀ sv r, dn ad sv = some r → k sv → Q r) : instK σ.H v fun _ _ fs => need (lk fs n) Q := by
  refine need_e h fun j e h => ?_
  cases a with
  | s i =>
    cases e
    obtain ⟨x, hn, rfl⟩ := mR_e d
    refine need_i rfl (m.there hn fun c hc r => ?_)
    have h : (match at_ s.cs j with | some (.inst _ fs) => need (lk fs n) k | some (.w _ fs) => need (lk fs n) fun v => k (.v v) | _ => False) := h
    rw [hc] at h
    cases r with
    | dead => exact h.elim
    | mk c' q r =>
      cases r with
      | inst r => exact need_i (congrArg cI q) (need_e h fun sv e h => (r.lk e).elim fun w q => need_i q.2 (g _ _ q.1 h))
      | w r => exact need_i (congrArg cI q) (need_e h fun v e h => need_i (M.obj _ _ _ _ _ r n v e) (g (.v v) v rfl h))
      | _ => exact h.elim
  | _ => cases e
theorem instS_ok {a : SV} {v : V} {k : Nat → Nat → List (Nat × SV) → Prop} {Q : Nat → Nat → List (Nat × V) → Prop} (d : dn ad a = some v) (h : instS s a k) (g : ∀ j n c fs fs', ad[j]? = some n → σ.H.get n = some (.inst c fs') → DnF ad fs fs' → k j c fs → Q n c fs') : instK σ.H v Q := by
  refine need_e h fun j e h => ?_
  cases a with
  | s i =>
    cases e
    obtain ⟨n, hn, rfl⟩ := mR_e d
    refine need_i rfl (m.there hn fun c hc r => ?_)
    have h : (match at_ s.cs j with | some (.inst c fs) => k j c fs | _ => False) := h
    rw [hc] at h
    cases r with
    | dead => exact h.elim
    | mk c' q r =>
      cases r with
      | inst r => exact need_i (congrArg cI q) (g _ _ _ _ _ hn q r h)
      | _ => exact h.elim
  | _ => cases e
theorem methLS_ok {P : Prog} {j n a : Nat} (ha : ad[j]? = some a) {xs : List V} {as : List SV} {vs : List V} {k : SV → Sy Ω → Prop} {Q : V → St → Prop} (d : DnL ad as vs) (h : methLS P s j n xs as k) (hk : PW M DV ad k Q) : methL P σ a n vs xs Q := by
  cases d with
  | nil => exact h.elim
  | @cons b v _ _ d1 r =>
    cases r with
    | cons _ _ => exact h.elim
    | nil =>
      have vv : ∀ {x : V}, svV b = some x → v = x := fun {x} e => by
        cases b with
        | v y => cases e; exact (Option.some.inj d1).symm
        | _ => cases e
      refine Br_m h (fun h => need_e h fun x e h => ⟨h.1, ?_⟩) fun h => need_e h fun x e h => ?_
      · rw [vv e]; exact hk.now (m.setC ha (.list _)) (a := .v .none) rfl (setS_ok h.2)
      · rw [vv e]
        exact need_m h (fun _ e => e) fun i z => need_m z (fun _ e => e) fun l z => need_m z (fun _ e => e) fun u z => hk.now (m.setC ha (.list _)) (a := .v u) rfl (setS_ok z)
theorem methDS_ok {P : Prog} {j n a : Nat} (ha : ad[j]? = some a) {kvs : List (V × SV)} {kvs' : List (V × V)} {as : List SV} {vs : List V} {k : SV → Sy Ω → Prop} {Q : V → St → Prop} (hd : DnF ad kvs kvs') (d : DnL ad as vs) (h : methDS P s j n kvs as k) (hk : PW M DV ad k Q) : methD P σ a n vs kvs' Q := by
  have key : ∀ t : V × SV, keyDS as = some t → ∃ d', keyD vs = some (t.1, d') ∧ dn ad t.2 = some d' := fun t e => by
    cases d with
    | nil => cases e
    | @cons b v _ _ d1 r =>
      cases b with
      | v x =>
        cases d1
        cases r with
        | nil => cases e; exact ⟨_, rfl, rfl⟩
        | cons d2 r =>
          cases r with
          | nil => cases e; exact ⟨_, rfl, d2⟩
          | cons _ _ => cases e
      | _ =>
        cases r with
        | nil => cases e
        | cons d2 r => cases r <;> cases e
  refine need_e h fun t e h => (key t e).elim fun d' q => need_i q.1 (Ys_e h fun e h => ⟨by rw [hd.keys]; exact e, ?_⟩)
  have G := hd.dGet (x := t.1)
  cases G with
  | none q1 q2 => rw [q1] at h; show Q ((dGet kvs' t.1).getD d') σ; rw [q2]; exact hk.now m q.2 h
  | some x u q1 q2 q3 => rw [q1] at h; show Q ((dGet kvs' t.1).getD d') σ; rw [q2]; exact hk.now m q3 h
end
theorem allV_ok {ad : List Nat} {as : List SV} {vs : List V} (d : DnL ad as vs) : ∀ {xs : List V}, allV as = some xs → vs = xs := by
  induction d with
  | nil => intro xs h; exact Option.some.inj h
  | @cons a v r ws d _ ih =>
    intro xs h
    cases a with
    | v x =>
      have h : (match allV r with | some xs => some (x :: xs) | none => none) = some xs := h
      cases q : allV r with
      | none => rw [q] at h; cases h
      | some ys => rw [q] at h; rw [ih q, ← Option.some.inj h, Option.some.inj d]
    | _ => cases h
theorem tupS_ok {ad : List Nat} {as : List SV} {vs : List V} (d : DnL ad as vs) {k : SV → Prop} {Q : V → Prop} (h : tupS as k) (g : k (.v (.tup vs)) → Q (.tup vs)) : Nd (vs.length ≤ SZ) (Q (.tup vs)) := by
  have h : (match allV as with | some xs => Ys (Nat.ble xs.length 100) (k (.v (.tup xs))) | none => False) := h
  cases q : allV as with
  | some xs =>
    rw [q] at h
    have q := allV_ok d q
    subst q
    exact Ys_e h fun e h => ⟨Nat.le_trans (Nat.ble_eq.mp e) (by decide), g h⟩
  | none => rw [q] at h; exact h.elim
theorem DO.mono {ad ad' : List Nat} (x : Ext ad ad') {a : Option SV} {v : Option V} (d : DO ad a v) : DO ad' a v := by
  cases d with
  | none => exact .none
  | some d => exact .some (dn_mono x d)
theorem optIS_ok {ad : List Nat} {a : Option SV} {v : Option V} {o : Option Int} (d : DO ad a v) (h : optIS a = some o) : optI v = some o := by
  cases d with
  | none => exact h
  | @some b w d =>
    cases b with
    | v x => cases d; exact h
    | _ => cases h
theorem hiIS_ok {ad : List Nat} {a : Option SV} {v : Option V} {o : Int} (d : DO ad a v) (h : hiIS a = some o) : hiI v = some o := by
  cases d with
  | none => exact h
  | @some b w d =>
    cases b with
    | v x => cases d; exact h
    | _ => cases h
theorem bindGoS_ok {k : Sy Ω → Prop} {ad : List Nat} {is : List Nat} : ∀ {xs : List V} {s : Sy Ω} {σ : St} {K : St → Prop}, Mt M ad s σ → bindGoS is xs s k → (∀ s' σ', Mt M ad s' σ' → k s' → K σ') → bindGo is xs σ K := by
  induction is with
  | nil =>
    intro xs s σ K m h hk
    cases xs with
    | nil => exact hk s σ m h
    | cons _ _ => exact h.elim
  | cons i is ih =>
    intro xs s σ K m h hk
    cases xs with
    | nil => exact h.elim
    | cons x xs => exact ih (m.put (i := i) (a := .v x) rfl) (putS_ok (s := s) (i := i) (v := .v x) (k := fun s' => bindGoS is xs s' k) h) hk
theorem bindTS_ok {k : Sy Ω → Prop} {ad : List Nat} {ts : List Nat} {x : V} {s : Sy Ω} {σ : St} {K : St → Prop} (m : Mt M ad s σ) (h : bindTS ts x s k) (hk : ∀ s' σ', Mt M ad s' σ' → k s' → K σ') : bindT ts x σ K := by
  cases ts with
  | nil => exact h.elim
  | cons i r =>
    cases r with
    | nil => exact hk _ _ (m.put (a := .v x) rfl) (putS_ok h)
    | cons j r => exact h.elim
theorem Comp_ok {a : SV} {all : List V} {v : V} {ts : List Nat} {turn : V → Sy Ω → (Bool → Sy Ω → Prop) → Prop} {elt : Sy Ω → (SV → Sy Ω → Prop) → Prop} {tst : St → (Bool → St → Prop) → Prop} {el : St → (V → St → Prop) → Prop} {k : List V → Sy Ω → Prop} {Q : List V → St → Prop}
    (ht : ∀ x s' ad' σ' k' Q', turn x s' k' → Mt M ad' s' σ' → PW M DI ad' k' Q' → bindT ts x σ' fun σ₁ => tst σ₁ Q')
    (he : ∀ s' ad' σ' k' Q', elt s' k' → Mt M ad' s' σ' → PW M DV ad' k' Q' → el σ' Q')
    {inv : List V → List V → Sy Ω → Prop} (I : CompI a all turn elt k inv) {xs : List V} : ∀ {acc : List V} {s : Sy Ω} {ad : List Nat} {σ : St}, Mt M ad s σ → dn ad a = some v → inv xs acc s → PW M DI ad k Q → compGo tst el ts (still v all) xs acc σ Q := by
  induction xs with
  | nil => intro acc s ad σ m d hi hk; exact ⟨itemsS_ok m d (I.still _ _ _ hi), I.len _ _ _ hi, hk.now m rfl (I.stop _ _ hi)⟩
  | cons x r ih =>
    intro acc s ad σ m d hi hk
    refine ⟨itemsS_ok m d (I.still _ _ _ hi), Nat.lt_of_lt_of_le (Nat.lt_add_of_pos_right (Nat.succ_pos _)) (I.len _ _ _ hi), ht x s ad σ _ _ (I.turn x r acc s hi) m fun b s₁ ad₁ σ₁ b' e m₁ eb q => ?_⟩
    cases eb
    refine Br_m q (fun q => he s₁ ad₁ σ₁ _ _ q m₁ fun y s₂ ad₂ σ₂ w e₂ m₂ dy q => need_e q fun z ez q => ?_) fun q => ih m₁ (dn_mono e d) q (hk.mono e)
    cases y with
    | v y => cases dy; cases ez; exact ih m₂ (dn_mono (e.trans e₂) d) q (hk.mono (e.trans e₂))
    | _ => cases ez
variable {P : Prog} {C : XT Ω} {K : CT}
theorem callS_ok (hC : CallOk M C K) {fz : Bool} {f : SV} {g : V} {as : List SV} {vs : List V} {s : Sy Ω} {k : SV → Sy Ω → Prop} {ad : List Nat} {σ : St} {Q : V → St → Prop}
    (h : callS P C fz f as s k) (m : Mt M ad s σ) (df : dn ad f = some g) (d : DnL ad as vs) (hk : PW M DV ad k Q) : callF P K fz σ g vs Q := by
  refine need_e h fun y e h => ?_
  cases f with
  | v x =>
    cases df
    have e : g = y := Option.some.inj e
    subst e
    cases g with
    | bt b => exact bS_m (bS_ok m d h) fun r z => giveS_ok m z hk
    | fn g => exact hC _ _ _ _ _ _ _ _ h m d fun sv s' ad' σ' v x m' dv h e => giveVS_ok (m'.back e) dv h (hk.mono x)
    | cls c =>
      refine need_m h (fun _ e => e) fun cl h => need_m h (fun _ e => e) fun g h => ?_
      have h := newS_ok h
      refine hC _ _ _ _ _ (σ.setH (σ.H.new (.inst c []))) _ _ h (m.new (.inst .nil)) (.cons m.newDn (d.mono m.ext)) fun sv s' ad' σ' v x m' dv h e => ?_
      refine Ys_e h fun e' h => ⟨?_, hk _ _ _ _ _ (m.ext.trans x) (m'.back e) (dn_mono x m.newDn) h⟩
      cases sv with
      | v y => cases dv; exact e'
      | _ => cases e'
    | _ => exact h.elim
  | _ => cases e
where
  bS_m {H : Hp} {b : B} {vs : List V} {k k' : LV → Prop} (h : callB H b vs k) (g : ∀ r, k r → k' r) : callB H b vs k' := by
    have e1 : ∀ {x y : V} {k k' : Int → Int → Prop}, (∀ a b, k a b → k' a b) → intK x y k → intK x y k' := fun g h => need_m h (fun _ e => e) fun a z => need_m z (fun _ e => e) fun b z => g a b z
    match vs with
    | [] => exact h.elim
    | [v] =>
      cases b with
      | len => exact need_m h (fun _ e => e) fun _ z => g _ z
      | list => exact need_m h (fun _ e => e) fun _ z => need_m z (fun _ e => e) fun _ z => g _ z
      | range => exact need_m h (fun _ e => e) fun _ z => need_m z (fun _ e => e) fun _ z => ⟨z.1, g _ z.2⟩
      | _ => exact h.elim
    | [v, w] =>
      refine Br_m h (fun h => need_m h (fun _ e => e) fun _ z => need_m z (fun _ e => e) fun _ z => g _ z) fun h => need_m h (fun _ e => e) fun _ z => need_m z (fun _ e => e) fun _ z => ?_
      cases b with
      | max => exact e1 (fun _ _ => g _) z
      | min => exact e1 (fun _ _ => g _) z
      | _ => exact z.elim
    | _ :: _ :: _ :: _ => exact h.elim
end
end Mine

end

section
set_option autoImplicit false
set_option linter.all false
set_option genSizeOf false
set_option genInjectivity false
namespace Mine
open PySem (Str)
section
variable {Ω : Type} {M : MEnv Ω} {P : Prog} {C : XT Ω} {K : CT}
theorem bin_m {op : BOp} {x y : V} {k k' : LV → Prop} (h : binK op x y k) (g : ∀ r, k r → k' r) : binK op x y k' := by
  have e1 : ∀ {x y : V} {k k' : Int → Int → Prop}, (∀ a b, k a b → k' a b) → intK x y k → intK x y k' := fun g h => need_m h (fun _ e => e) fun a z => need_m z (fun _ e => e) fun b z => g a b z
  cases op with
  | add => cases x <;> first | exact h.elim | exact need_m h (fun _ e => e) fun _ z => g _ z | exact need_m h (fun _ e => e) fun _ z => ⟨z.1, g _ z.2⟩
  | mul => exact e1 (fun _ _ z => ⟨z.1, g _ z.2⟩) h
  | sub => exact e1 (fun _ _ => g _) h
  | fdiv => exact e1 (fun _ _ z => ⟨z.1, g _ z.2⟩) h
  | mod => exact e1 (fun _ _ z => ⟨z.1, g _ z.2⟩) h
theorem sl_m {x : V} {l : Option Int} {h' : Int} {k k' : LV → Prop} (h : slK x l h' k) (g : ∀ r, k r → k' r) : slK x l h' k' := ⟨h.1, by cases x <;> first | exact g _ h.2 | exact need_m h.2 (fun _ e => e) (fun _ z => g _ z) | exact h.2.elim⟩
theorem ints_m {x : V} {k k' : List Int → Prop} (h : intsK x k) (g : ∀ r, k r → k' r) : intsK x k' := need_m h (fun _ e => e) fun _ z => need_m z (fun _ e => e) fun _ z => g _ z
theorem tr_m {x : V} {k k' : Bool → Prop} (h : trK x k) (g : ∀ r, k r → k' r) : trK x k' := by cases x <;> first | exact g _ h | exact h.elim
theorem tru_m {H : Hp} {v : V} {k k' : Bool → Prop} (h : truK H v k) (g : ∀ r, k r → k' r) : truK H v k' := need_m h (fun _ e => e) fun _ z => tr_m z g
theorem lt_m {e : Bool} {x y : V} {k k' : Bool → Prop} (h : ltK e x y k) (g : ∀ r, k r → k' r) : ltK e x y k' := by
  cases x <;> first | exact h.elim | exact need_m h (fun _ e => e) fun _ z => g _ z | exact need_m h (fun _ e => e) fun _ z => need_m z (fun _ e => e) fun _ z => g _ z
theorem cmp_m {H : Hp} {op : COp} {a b : V} {k k' : Bool → Prop} (h : cmpK H op a b k) (g : ∀ r, k r → k' r) : cmpK H op a b k' := by
  have ak : ∀ {xs : List V} {k k' : Bool → Prop}, (∀ r, k r → k' r) → cmpK.anyK H a xs k → cmpK.anyK H a xs k' := fun g h => need_m h (fun _ e => e) fun _ z => need_m z (fun _ e => e) fun _ z => g _ z
  have ik : ∀ {k k' : Bool → Prop}, (∀ r, k r → k' r) → cmpK.inK H a b k → cmpK.inK H a b k' := fun {k k'} g h => by
    cases b with
    | ref i =>
      have h : (match H.get i with | some (.list xs) => cmpK.anyK H a xs k | _ => False) := h
      show (match H.get i with | some (.list xs) => cmpK.anyK H a xs k' | _ => False)
      generalize H.get i = o at h
      cases o with
      | none => exact h
      | some c => cases c <;> first | exact ak g h | exact h
    | lst xs => exact ak g h
    | _ => exact h.elim
  have sk : ∀ {k k' : Bool → Prop}, (∀ r, k r → k' r) → isK a b k → isK a b k' := fun g h => by cases b <;> first | exact ⟨h.1, g _ h.2⟩ | exact h.elim
  cases op with
  | eq => exact need_m h (fun _ e => e) fun _ z => need_m z (fun _ e => e) fun _ z => g _ z
  | ne => exact need_m h (fun _ e => e) fun _ z => need_m z (fun _ e => e) fun _ z => g _ z
  | lt => exact need_m h (fun _ e => e) fun _ z => need_m z (fun _ e => e) fun _ z => lt_m z g
  | le => exact need_m h (fun _ e => e) fun _ z => need_m z (fun _ e => e) fun _ z => lt_m z g
  | gt => exact need_m h (fun _ e => e) fun _ z => need_m z (fun _ e => e) fun _ z => lt_m z g
  | ge => exact need_m h (fun _ e => e) fun _ z => need_m z (fun _ e => e) fun _ z => lt_m z g
  | isIn => exact ik g h
  | notIn => exact ik (fun _ => g _) h
  | is => exact sk g h
  | isNot => exact sk (fun _ => g _) h

mutual
theorem sxE_ok (hC : CallOk M C K) : ∀ (e : PE) {s : Sy Ω} {k : SV → Sy Ω → Prop} {ad : List Nat} {σ : St} {Q : V → St → Prop}, sxE P C e s k → Mt M ad s σ → PW M DV ad k Q → wpE P K e σ Q
  | .cst v, s, k, ad, σ, Q, h, m, hk => hk.now m (a := .v v) rfl h
  | .loc i, s, k, ad, σ, Q, h, m, hk => need_e h fun sv e h => (m.loc i sv e).elim fun v q => need_i q.2 (hk.now m q.1 h)
  | .glob i, s, k, ad, σ, Q, h, m, hk => need_m h (fun _ e => e) fun v h => hk.now m (a := .v v) rfl h
  | .attr e n, s, k, ad, σ, Q, h, m, hk =>
    sxE_ok hC e h m (fun o s₁ ad₁ σ₁ v x m₁ d h => attrS_ok m₁ d h fun sv r dr h => hk _ _ _ _ _ x m₁ dr h)
  | .bin fz op l r, s, k, ad, σ, Q, h, m, hk =>
    sxE_ok hC l h m (fun a s₁ ad₁ σ₁ v x m₁ d h => sxE_ok hC r h m₁ (fun b s₂ ad₂ σ₂ w y m₂ d₂ h => need_m (see2_m m₂ (dn_mono y d) d₂ h) (fun _ e => e) fun _ z => need_m z (fun _ e => e) fun _ z => bin_m z fun r z => giveS_ok m₂ z (hk.mono (x.trans y))))
  | .neg e, s, k, ad, σ, Q, h, m, hk =>
    sxE_ok hC e h m (fun o s₁ ad₁ σ₁ v x m₁ d h => need_e h fun z ez h => by
      cases o with
      | v y => cases d; cases ez; exact need_m h (fun _ e => e) fun i z => hk _ _ _ _ _ x m₁ (show DV ad₁ (.v _) _ from rfl) z
      | _ => cases ez)
  | .not e, s, k, ad, σ, Q, h, m, hk =>
    sxE_ok hC e h m (fun o s₁ ad₁ σ₁ v x m₁ d h => tru_m (truS_ok m₁ d h) fun b z => hk _ _ _ _ _ x m₁ (show DV ad₁ (.v _) _ from rfl) z)
  | .cmp op l r, s, k, ad, σ, Q, h, m, hk =>
    sxE_ok hC l h m (fun a s₁ ad₁ σ₁ v x m₁ d h => sxE_ok hC r h m₁ (fun b s₂ ad₂ σ₂ w y m₂ d₂ h => cmp_m (cmpS_ok m₂ (dn_mono y d) d₂ h) fun b z => hk _ _ _ _ _ (x.trans y) m₂ (show DV ad₂ (.v _) _ from rfl) z))
  | .and es, s, k, ad, σ, Q, h, m, hk => sxAnd_ok hC es h m hk
  | .ite t a b, s, k, ad, σ, Q, h, m, hk =>
    sxT_ok hC t h m (fun c s₁ ad₁ σ₁ c' x m₁ ec h => by cases ec; exact Br_m h (fun h => sxE_ok hC a h m₁ (hk.mono x)) fun h => sxE_ok hC b h m₁ (hk.mono x))
  | .list fz es, s, k, ad, σ, Q, h, m, hk =>
    sxEs_ok hC es h m (fun as s₁ ad₁ σ₁ vs x m₁ d h => need_e h fun xs e h => by rw [allV_ok d e]; exact giveS_ok m₁ h (hk.mono x))
  | .tup es, s, k, ad, σ, Q, h, m, hk =>
    sxEs_ok hC es h m (fun as s₁ ad₁ σ₁ vs x m₁ d h => tupS_ok (Q := fun v => Q v σ₁) d h fun h => hk _ _ _ _ _ x m₁ (show DV ad₁ (.v _) _ from rfl) h)
  | .dict, s, k, ad, σ, Q, h, m, hk => hk _ _ _ _ _ m.ext (m.new (.dict .nil)) m.newDn (newS_ok h)
  | .idx e i, s, k, ad, σ, Q, h, m, hk =>
    sxE_ok hC e h m (fun a s₁ ad₁ σ₁ v x m₁ d h => sxE_ok hC i h m₁ (fun b s₂ ad₂ σ₂ w y m₂ d₂ h => idxS_ok m₂ (dn_mono y d) d₂ h fun sv r dr h => hk _ _ _ _ _ (x.trans y) m₂ dr h))
  | .sl fz e lo hi, s, k, ad, σ, Q, h, m, hk =>
    sxE_ok hC e h m (fun a s₁ ad₁ σ₁ v x m₁ d h => sxO_ok hC lo h m₁ (fun b s₂ ad₂ σ₂ w y m₂ d₂ h => sxO_ok hC hi h m₂ (fun c s₃ ad₃ σ₃ u z m₃ d₃ h =>
      need_e h fun l e1 h => need_i (optIS_ok (DO.mono z d₂) e1) (need_e h fun g e2 h => need_i (hiIS_ok d₃ e2) (need_m (see_m m₃ (dn_mono (y.trans z) d) h) (fun _ e => e) fun _ q => sl_m q fun r q => giveS_ok m₃ q (hk.mono ((x.trans y).trans z)))))))
  | .call fz f as, s, k, ad, σ, Q, h, m, hk =>
    sxE_ok hC f h m (fun a s₁ ad₁ σ₁ v x m₁ d h => sxEs_ok hC as h m₁ (fun as s₂ ad₂ σ₂ vs y m₂ d₂ h => callS_ok hC h m₂ (dn_mono y d) d₂ (hk.mono (x.trans y))))
  | .sortedRev fz i e, s, k, ad, σ, Q, h, m, hk => need_m h (fun _ e => e) fun g h => Ys_e h fun eg h => ⟨eg,
    sxE_ok hC e h m (fun o s₁ ad₁ σ₁ v x m₁ d h => need_m (see_m m₁ d h) (fun _ e => e) fun _ z => ints_m z fun _ z => ⟨z.1, giveS_ok m₁ z.2 (hk.mono x)⟩)⟩
  | .meth fz o n as, s, k, ad, σ, Q, h, m, hk =>
    sxE_ok hC o h m (fun o s₁ ad₁ σ₁ v x m₁ d h => by
      have call : ∀ (f : Nat) (c : SV), dn ad₁ c = some v → sxEs P C as s₁ (fun vs s₂ => C f (c :: vs) s₂ (giveVS fz k)) → wpEs P K as σ₁ fun vs σ₂ => callF P K fz σ₂ (.fn f) (v :: vs) Q := fun f c dc h =>
        sxEs_ok hC as h m₁ (fun bs s₂ ad₂ σ₂ vs y m₂ d₂ h => hC _ _ _ _ _ _ _ _ h m₂ (.cons (dn_mono y dc) d₂) fun sv s' ad' σ' v z m' dv h e => giveVS_ok (m'.back e) dv h (hk.mono ((x.trans y).trans z)))
      cases o with
      | s j =>
        obtain ⟨a, ha, rfl⟩ := mR_e d
        refine need_i rfl (m₁.there ha fun c hc r => ?_)
        simp only [hc] at h
        cases r with
        | dead => exact h.elim
        | mk c' g r =>
          simp only [g]
          cases r with
          | inst r => exact need_m h (fun _ e => e) fun cl h => need_m h (fun _ e => e) fun f h => call f _ d h
          | list xs =>
            refine Ys_e h fun e h => ⟨e, sxEs_ok hC as h m₁ (fun bs s₂ ad₂ σ₂ vs y m₂ d₂ h => need_e h fun xs e h => m₂.there (y.at_ ha) fun c hc r => ?_)⟩
            rw [hc] at e
            cases r with
            | dead => cases e
            | mk c' g r =>
              cases r with
              | list ys => cases e; exact need_i (congrArg cL g) (methLS_ok m₂ (y.at_ ha) d₂ h (hk.mono (x.trans y)))
              | _ => cases e
          | dict r =>
            refine Ys_e h fun e h => ⟨e, sxEs_ok hC as h m₁ (fun bs s₂ ad₂ σ₂ vs y m₂ d₂ h => need_e h fun xs e h => m₂.there (y.at_ ha) fun c hc r => ?_)⟩
            rw [hc] at e
            cases r with
            | dead => cases e
            | mk c' g r =>
              cases r with
              | dict r => cases e; exact need_i (congrArg cD g) (methDS_ok m₂ (y.at_ ha) r d₂ h (hk.mono (x.trans y)))
              | _ => cases e
          | w r => exact need_m h (fun _ e => e) fun cl h => need_m h (fun _ e => e) fun f h => call f _ d h
      | _ => exact h.elim)
  | .comp fz elt ts it cond, s, k, ad, σ, Q, h, m, hk =>
    sxE_ok hC it h m (fun a s₁ ad₁ σ₁ v x m₁ d h => need_e h fun xs e h => need_i (itemsS_ok m₁ d e) (by
      obtain ⟨inv, i0, I⟩ := h
      have m₁' : Mt M ad₁ (s₁.withLoc (rms s₁.loc ts)) ⟨σ₁.H, unbs ts σ₁.loc⟩ := m₁.withLoc fun i sv h => (m₁.loc i sv (lk_rms h).2).imp fun w q => ⟨q.1, by
        show (if ts.contains i then none else _) = _
        rw [if_neg (by simpa using (lk_rms h).1)]; exact q.2⟩
      exact Comp_ok (turn := fun x s₂ k₁ => bindTS ts x s₂ fun s₃ => sxC P C cond s₃ k₁) (elt := fun s₂ k₁ => sxE P C elt s₂ k₁) (fun x s' ad' σ' k' Q' h m hb => bindTS_ok m h fun s₂ σ₂ m₂ h => sxC_ok hC cond h m₂ hb) (fun s' ad' σ' k' Q' h m hk' => sxE_ok hC elt h m hk') I m₁' d i0 fun ys s' ad' σ' ys' y m' ey h => by
        cases ey
        exact giveS_ok (m'.withLoc (l := s₁.loc) (lo := σ₁.loc) fun i sv h => (m₁.loc i sv h).imp fun w q => ⟨dn_mono y q.1, q.2⟩) h (hk.mono (x.trans y))))
theorem sxT_ok (hC : CallOk M C K) : ∀ (e : PC) {s : Sy Ω} {k : Bool → Sy Ω → Prop} {ad : List Nat} {σ : St} {Q : Bool → St → Prop}, sxT P C e s k → Mt M ad s σ → PW M DI ad k Q → wpT P K e σ Q
  | .not e, s, k, ad, σ, Q, h, m, hk => sxT_ok hC e h m (fun b s₁ ad₁ σ₁ b' x m₁ eb h => by cases eb; exact hk _ _ _ _ _ x m₁ rfl h)
  | .and es, s, k, ad, σ, Q, h, m, hk => sxAllT_ok hC es h m hk
  | .or es, s, k, ad, σ, Q, h, m, hk => sxAnyT_ok hC es h m hk
  | .e e, s, k, ad, σ, Q, h, m, hk => sxE_ok hC e h m (fun o s₁ ad₁ σ₁ v x m₁ d h => tru_m (truS_ok m₁ d h) fun b z => hk _ _ _ _ _ x m₁ rfl z)
theorem sxAllT_ok (hC : CallOk M C K) : ∀ (e : PCs) {s : Sy Ω} {k : Bool → Sy Ω → Prop} {ad : List Nat} {σ : St} {Q : Bool → St → Prop}, sxAllT P C e s k → Mt M ad s σ → PW M DI ad k Q → wpAllT P K e σ Q
  | .nil, s, k, ad, σ, Q, h, m, hk => hk.now m rfl h
  | .cons e r, s, k, ad, σ, Q, h, m, hk => sxT_ok hC e h m (fun b s₁ ad₁ σ₁ b' x m₁ eb h => by cases eb; exact Br_m h (fun h => sxAllT_ok hC r h m₁ (hk.mono x)) fun h => hk _ _ _ _ _ x m₁ rfl h)
theorem sxAnyT_ok (hC : CallOk M C K) : ∀ (e : PCs) {s : Sy Ω} {k : Bool → Sy Ω → Prop} {ad : List Nat} {σ : St} {Q : Bool → St → Prop}, sxAnyT P C e s k → Mt M ad s σ → PW M DI ad k Q → wpAnyT P K e σ Q
  | .nil, s, k, ad, σ, Q, h, m, hk => hk.now m rfl h
  | .cons e r, s, k, ad, σ, Q, h, m, hk => sxT_ok hC e h m (fun b s₁ ad₁ σ₁ b' x m₁ eb h => by cases eb; exact Br_m h (fun h => hk _ _ _ _ _ x m₁ rfl h) fun h => sxAnyT_ok hC r h m₁ (hk.mono x))
theorem sxAnd_ok (hC : CallOk M C K) : ∀ (e : PEs) {s : Sy Ω} {k : SV → Sy Ω → Prop} {ad : List Nat} {σ : St} {Q : V → St → Prop}, sxAnd P C e s k → Mt M ad s σ → PW M DV ad k Q → wpAnd P K e σ Q
  | .nil, s, k, ad, σ, Q, h, m, hk => h.elim
  | .cons e .nil, s, k, ad, σ, Q, h, m, hk => sxE_ok hC e h m hk
  | .cons e (.cons f r), s, k, ad, σ, Q, h, m, hk =>
    sxE_ok hC e h m (fun o s₁ ad₁ σ₁ v x m₁ d h => tru_m (truS_ok m₁ d h) fun b z => Br_m z (fun h => sxAnd_ok hC (.cons f r) h m₁ (hk.mono x)) fun h => hk _ _ _ _ _ x m₁ d h)
theorem sxEs_ok (hC : CallOk M C K) : ∀ (e : PEs) {s : Sy Ω} {k : List SV → Sy Ω → Prop} {ad : List Nat} {σ : St} {Q : List V → St → Prop}, sxEs P C e s k → Mt M ad s σ → PW M DnL ad k Q → wpEs P K e σ Q
  | .nil, s, k, ad, σ, Q, h, m, hk => hk.now m .nil h
  | .cons e r, s, k, ad, σ, Q, h, m, hk =>
    sxE_ok hC e h m (fun a s₁ ad₁ σ₁ v x m₁ d h => sxEs_ok hC r h m₁ (fun as s₂ ad₂ σ₂ vs y m₂ d₂ h => hk _ _ _ _ _ (x.trans y) m₂ (.cons (dn_mono y d) d₂) h))
theorem sxO_ok (hC : CallOk M C K) : ∀ (e : PEo) {s : Sy Ω} {k : Option SV → Sy Ω → Prop} {ad : List Nat} {σ : St} {Q : Option V → St → Prop}, sxO P C e s k → Mt M ad s σ → PW M DO ad k Q → wpO P K e σ Q
  | .none, s, k, ad, σ, Q, h, m, hk => hk.now m .none h
  | .some e, s, k, ad, σ, Q, h, m, hk => sxE_ok hC e h m (fun a s₁ ad₁ σ₁ v x m₁ d h => hk _ _ _ _ _ x m₁ (.some d) h)
theorem sxC_ok (hC : CallOk M C K) : ∀ (e : PCo) {s : Sy Ω} {k : Bool → Sy Ω → Prop} {ad : List Nat} {σ : St} {Q : Bool → St → Prop}, sxC P C e s k → Mt M ad s σ → PW M DI ad k Q → wpC P K e σ Q
  | .none, s, k, ad, σ, Q, h, m, hk => hk.now m rfl h
  | .some e, s, k, ad, σ, Q, h, m, hk => sxT_ok hC e h m hk
end
end
end Mine

end

section
set_option autoImplicit false
set_option linter.all false
set_option genSizeOf false
set_option genInjectivity false
namespace Mine
open PySem (Str)
section
variable {Ω : Type} (M : MEnv Ω)
inductive DFl (ad : List Nat) : FX → Flow → Prop
  | next : DFl ad .next .next
  | ret {a : SV} {v : V} : dn ad a = some v → DFl ad (.ret a) (.ret v)
variable {M} {P : Prog} {C : XT Ω} {K : CT}
theorem seqS_ok {ad : List Nat} {s : Sy Ω} {σ : St} (m : Mt M ad s σ) {fl : FX} {fl' : Flow} (d : DFl ad fl fl') {go : Sy Ω → Prop} {go' : St → Prop} {k : FX → Sy Ω → Prop} {Q : Flow → St → Prop} (h : seqS fl s go k) (hk : PW M DFl ad k Q) (g : go s → go' σ) : seqK fl' σ go' Q := by
  cases d with
  | next => exact g h
  | ret d => exact hk.now m (.ret d) h
theorem Loop_ok {a : SV} {all : List V} {v : V} {turn : V → Sy Ω → (FX → Sy Ω → Prop) → Prop} {t : V → St → (Flow → St → Prop) → Prop} {k : FX → Sy Ω → Prop} {Q : Flow → St → Prop}
    (ht : ∀ x s' ad' σ' k' Q', turn x s' k' → Mt M ad' s' σ' → PW M DFl ad' k' Q' → t x σ' Q')
    {inv : List V → Sy Ω → Prop} (I : LoopI a all turn k inv) {xs : List V} : ∀ {s : Sy Ω} {ad : List Nat} {σ : St}, Mt M ad s σ → dn ad a = some v → inv xs s → PW M DFl ad k Q → loopGo t (still v all) xs σ Q := by
  induction xs with
  | nil => intro s ad σ m d hi hk; exact ⟨itemsS_ok m d (I.still _ _ hi), hk.now m .next (I.stop _ hi)⟩
  | cons x r ih =>
    intro s ad σ m d hi hk
    exact ⟨itemsS_ok m d (I.still _ _ hi), ht x s ad σ _ _ (I.turn x r s hi) m fun fl s₁ ad₁ σ₁ fl' e m₁ df q => seqS_ok m₁ df q (hk.mono e) fun q => ih m₁ (dn_mono e d) q (hk.mono e)⟩
theorem lk_left {α : Type} : ∀ {l u : List (Nat × α)} {i : Nat} {v : α}, lk l i = some v → lk (l ++ u) i = some v
  | [], _, _, _, h => by cases h
  | p :: r, u, i, v, h => by
    have h : cond (Nat.beq p.1 i) (some p.2) (lk r i) = some v := h
    show cond (Nat.beq p.1 i) (some p.2) (lk (r ++ u) i) = some v
    cases q : Nat.beq p.1 i with
    | true => rw [q] at h; exact h
    | false => rw [q] at h; exact lk_left h
theorem lk_all {α : Type} {f : α → Bool} : ∀ {l : List (Nat × α)} {i : Nat} {v : α}, (l.all fun q => f q.2) = true → lk l i = some v → f v = true
  | [], _, _, _, h => by cases h
  | p :: r, i, v, ha, h => by
    have h : cond (Nat.beq p.1 i) (some p.2) (lk r i) = some v := h
    have ha := (Bool.and_eq_true ..).mp ha
    cases q : Nat.beq p.1 i with
    | true => rw [q] at h; cases h; exact ha.1
    | false => rw [q] at h; exact lk_all ha.2 h
theorem Mt.forget {ad : List Nat} {cs t : List SC} {l u : List (Nat × SV)} {w : Ω} {σ : St} (m : Mt M ad ⟨cs ++ t, l ++ u, w⟩ σ) (hc : cs.all dry = true) (hl : (l.all fun q => low cs.length q.2) = true) : Mt M (ad.take cs.length) ⟨cs, l, w⟩ σ := by
  have e : ad.length = (cs ++ t).length := m.len
  rw [List.length_append] at e
  have tk : ∀ {j a : Nat}, (ad.take cs.length)[j]? = some a → j < cs.length ∧ ad[j]? = some a := fun {j a} h => by
    rw [List.getElem?_take] at h
    by_cases q : j < cs.length
    · rw [if_pos q] at h; exact ⟨q, h⟩
    · rw [if_neg q] at h; cases h
  refine ⟨by rw [List.length_take]; show _ = cs.length; omega, fun j a c h hj => ?_, fun i j a hi hj => m.nd i j a (tk hi).2 (tk hj).2, fun j a h => m.lt j a (tk h).2, fun i sv h => ?_, m.res.elim fun F f => ⟨F, f.1, fun j a h => f.2.1 j a (tk h).2, f.2.2⟩⟩
  · have hj : at_ cs j = some c := hj
    have d : dry c = true := List.all_eq_true.mp hc c (by rw [at_eq] at hj; exact List.mem_of_getElem? hj)
    cases m.cell j a c (tk h).2 (by show at_ (cs ++ t) j = _; rw [at_eq, List.getElem?_append_left (tk h).1, ← at_eq]; exact hj) with
    | dead => exact .dead
    | mk d' g r =>
      refine .mk d' g ?_
      cases r with
      | list xs => exact .list xs
      | dict r => cases d
      | inst r => cases d
      | w r => exact .w r
  · have h : lk l i = some sv := h
    have q : low cs.length sv = true := lk_all hl h
    obtain ⟨v, e1, e2⟩ := m.loc i sv (lk_left h)
    refine ⟨v, ?_, e2⟩
    cases sv with
    | v x => exact e1
    | s j =>
      show mR (ad.take cs.length)[j]? = some v
      rw [List.getElem?_take, if_pos (Nat.blt_eq.mp q)]; exact e1
    | _ => cases q
theorem LoopG_ok {a : SV} {all : List V} {v : V} {turn : V → Sy Ω → (FX → Sy Ω → Prop) → Prop} {t : V → St → (Flow → St → Prop) → Prop} {k : FX → Sy Ω → Prop} {Q : Flow → St → Prop}
    (ht : ∀ x s' ad' σ' k' Q', turn x s' k' → Mt M ad' s' σ' → PW M DFl ad' k' Q' → t x σ' Q')
    {inv : List V → Sy Ω → Prop} (I : LoopG a all turn k inv) {xs : List V} : ∀ {s : Sy Ω} {ad : List Nat} {σ : St}, Mt M ad s σ → dn ad a = some v → inv xs s → PW M DFl ad k Q → loopGo t (still v all) xs σ Q := by
  induction xs with
  | nil => intro s ad σ m d hi hk; exact ⟨itemsS_ok m d (I.still _ _ hi), hk.now m .next (I.stop _ hi)⟩
  | cons x r ih =>
    intro s ad σ m d hi hk
    refine ⟨itemsS_ok m d (I.still _ _ hi), ht x s ad σ _ _ (I.turn x r s hi) m fun fl s₁ ad₁ σ₁ fl' e m₁ df q => seqS_ok m₁ df q (hk.mono e) fun q => ?_⟩
    obtain ⟨cs, t', l, u, w, rfl, n, hc, hl, h⟩ := q
    have e' : Ext ad (ad₁.take cs.length) := e.elim fun y ey => ⟨y.take (cs.length - ad.length), by rw [ey, List.take_append, List.take_of_length_le (Nat.le_trans (Nat.le_of_eq m.len) n)]⟩
    exact ih (m₁.forget hc hl) (dn_mono e' d) h (hk.mono e')
theorem LoopX_ok {a : SV} {all : List V} {v : V} {turn : V → Sy Ω → (FX → Sy Ω → Prop) → Prop} {t : V → St → (Flow → St → Prop) → Prop} {k : FX → Sy Ω → Prop} {Q : Flow → St → Prop}
    (ht : ∀ x s' ad' σ' k' Q', turn x s' k' → Mt M ad' s' σ' → PW M DFl ad' k' Q' → t x σ' Q')
    {xs : List V} {s : Sy Ω} {ad : List Nat} {σ : St} (h : LoopX a all turn xs s k) (m : Mt M ad s σ) (d : dn ad a = some v) (hk : PW M DFl ad k Q) : loopGo t (still v all) xs σ Q := by
  cases h with
  | mk inv h i => exact Loop_ok ht i m d h hk
  | gb inv h i => exact LoopG_ok ht i m d h hk
theorem putAS_ok {ad : List Nat} {s : Sy Ω} {σ : St} (m : Mt M ad s σ) {n : Nat} {a b : SV} {u v : V} {k : Sy Ω → Prop} {Q : St → Prop} (ha : dn ad a = some u) (d : dn ad b = some v) (h : putAS P a n b s k) (hk : ∀ s' σ', Mt M ad s' σ' → k s' → Q σ') : putA P u n v σ Q :=
  instS_ok m ha h fun j i c fs fs' hj hi df h => need_m h (fun _ e => e) fun cl h => Ys_e h fun e1 h => Ys_e h fun e2 h => ⟨e1, by rw [df.len]; exact Nat.blt_eq.mp e2, hk _ _ (m.setC hj (.inst (df.st d))) (setS_ok (Eq.mp stK_iff h))⟩
theorem svV_dn {ad : List Nat} {a : SV} {v x : V} (d : dn ad a = some v) (e : svV a = some x) : v = x := by
  cases a with
  | v y => cases d; exact Option.some.inj e
  | _ => cases e
theorem asgnS_ok (hC : CallOk M C K) {t : PT} {b : SV} {v : V} {s : Sy Ω} {k : Sy Ω → Prop} {ad : List Nat} {σ : St} {Q : St → Prop} (h : asgnS P C t b s k) (m : Mt M ad s σ) (d : dn ad b = some v)
    (hk : ∀ s' ad' σ', Ext ad ad' → Mt M ad' s' σ' → k s' → Q σ') : asgn P K t v σ Q := by
  cases t with
  | loc i => exact hk _ _ _ (.refl _) (m.put d) (putS_ok h)
  | attr o n => exact sxE_ok hC o h m (fun o s₁ ad₁ σ₁ w x m₁ d₁ h => putAS_ok m₁ d₁ (dn_mono x d) h fun s' σ' m' h => hk _ _ _ x m' h)
  | idx o i =>
    refine sxE_ok hC o h m (fun o s₁ ad₁ σ₁ w x m₁ d₁ h => sxE_ok hC i h m₁ (fun i s₂ ad₂ σ₂ u y m₂ d₂ h => need_e h fun j ej h => need_e h fun z ez h3 => ?_))
    rw [svV_dn d₂ ez]
    cases o with
    | s j' =>
      cases ej
      obtain ⟨a, ha, rfl⟩ := mR_e d₁
      have ha := y.at_ ha
      have d := dn_mono (x.trans y) d
      refine need_i rfl (need_e h3 fun kvs ek h => m₂.there ha fun c hc r => ?_)
      rw [hc] at ek
      cases r with
      | dead => cases ek
      | mk c' g r =>
        cases r with
        | dict r => cases ek; exact need_i (congrArg cD g) (Ys_e h fun e h => ⟨by rw [r.keys]; exact e, by rw [r.len]; exact h.1, hk _ _ _ (x.trans y) (m₂.setC ha (.dict (r.dSet d))) (setS_ok h.2)⟩)
        | _ => cases ek
    | _ => cases ej
  | tup is => exact need_e h fun x e h => by rw [svV_dn d e]; exact need_m h (fun _ e => e) fun xs h => bindGoS_ok m h fun s' σ' m' h => hk _ _ _ (.refl _) m' h
theorem augS_ok {op : BOp} {a b : SV} {v w : V} {ad : List Nat} {k : SV → Prop} {Q : V → Prop} (d : dn ad a = some v) (d' : dn ad b = some w) (h : augS op a b k) (hk : ∀ x, k (.v x) → Q x) : augK op v w Q :=
  need_e h fun x e h => need_e h fun y e' h => by
    rw [svV_dn d e, svV_dn d' e']
    cases op with
    | add => exact need_m h (fun _ e => e) fun _ z => need_m z (fun _ e => e) fun _ z => hk _ z
    | _ => exact h.elim
mutual
theorem sxS_ok (hC : CallOk M C K) : ∀ (e : PS) {s : Sy Ω} {k : FX → Sy Ω → Prop} {ad : List Nat} {σ : St} {Q : Flow → St → Prop}, sxS P C e s k → Mt M ad s σ → PW M DFl ad k Q → wpS P K e σ Q
  | .expr e, s, k, ad, σ, Q, h, m, hk => sxE_ok hC e h m (fun a s₁ ad₁ σ₁ v x m₁ d h => hk _ _ _ _ _ x m₁ .next h)
  | .assign t e, s, k, ad, σ, Q, h, m, hk =>
    sxE_ok hC e h m (fun a s₁ ad₁ σ₁ v x m₁ d h => asgnS_ok hC h m₁ d (fun s' ad' σ' y m' h => hk _ _ _ _ _ (x.trans y) m' .next h))
  | .augLoc i op e, s, k, ad, σ, Q, h, m, hk => need_e h fun sv e1 h => (m.loc i sv e1).elim fun v q =>
    need_i q.2 (sxE_ok hC e h m (fun a s₁ ad₁ σ₁ w x m₁ d₁ h => augS_ok (dn_mono x q.1) d₁ h fun y h => hk _ _ _ _ _ x (m₁.put (a := .v y) rfl) .next (putS_ok h)))
  | .augAttr o n op e, s, k, ad, σ, Q, h, m, hk =>
    sxE_ok hC o h m (fun o s₁ ad₁ σ₁ v x m₁ d h => instS_ok m₁ d h fun j i c fs fs' hj hi df h => need_e h fun sv e1 h => (df.lk e1).elim fun w q => need_i q.2
      (sxE_ok hC e h m₁ (fun b s₂ ad₂ σ₂ u y m₂ d₂ h => augS_ok (dn_mono y q.1) d₂ h fun z h => putAS_ok m₂ (dn_mono y d) (b := .v z) rfl h fun s' σ' m' h => hk _ _ _ _ _ (x.trans y) m' .next h)))
  | .ret e, s, k, ad, σ, Q, h, m, hk =>
    sxO_ok hC e h m (fun a s₁ ad₁ σ₁ v x m₁ d h => by
      cases d with
      | none => exact hk _ _ _ _ _ x m₁ (.ret rfl) h
      | some d => exact hk _ _ _ _ _ x m₁ (.ret d) h)
  | .ite t a b, s, k, ad, σ, Q, h, m, hk =>
    sxT_ok hC t h m (fun c s₁ ad₁ σ₁ c' x m₁ ec h => by cases ec; exact Br_m h (fun h => sxSs_ok hC a h m₁ (hk.mono x)) fun h => sxSs_ok hC b h m₁ (hk.mono x))
  | .loop ts it body, s, k, ad, σ, Q, h, m, hk =>
    sxE_ok hC it h m (fun a s₁ ad₁ σ₁ v x m₁ d h => need_e h fun xs e h => need_i (itemsS_ok m₁ d e) (by
      exact LoopX_ok (turn := fun x s₂ k₁ => bindTS ts x s₂ fun s₃ => sxSs P C body s₃ k₁) (fun x s' ad' σ' k' Q' h m hb => bindTS_ok m h fun s₂ σ₂ m₂ h => sxSs_ok hC body h m₂ hb) h m₁ d (hk.mono x)))
  | .while_ t body, s, k, ad, σ, Q, h, m, hk => h.elim
  | .raise, s, k, ad, σ, Q, h, m, hk => h.elim
theorem sxSs_ok (hC : CallOk M C K) : ∀ (e : PSs) {s : Sy Ω} {k : FX → Sy Ω → Prop} {ad : List Nat} {σ : St} {Q : Flow → St → Prop}, sxSs P C e s k → Mt M ad s σ → PW M DFl ad k Q → wpSs P K e σ Q
  | .nil, s, k, ad, σ, Q, h, m, hk => hk.now m .next h
  | .cons c r, s, k, ad, σ, Q, h, m, hk =>
    sxS_ok hC c h m (fun fl s₁ ad₁ σ₁ fl' x m₁ df h => by
      cases df with
      | next => exact sxSs_ok hC r h m₁ (hk.mono x)
      | ret d => exact hk _ _ _ _ _ x m₁ (.ret d) h)
end

theorem bindP_ok {ad : List Nat} {ps : List Nat} : ∀ {as : List SV} {vs : List V} {l l' : List (Nat × SV)} {lo : Loc}, DnL ad as vs → bindPS ps as l = some l' → (∀ i sv, lk l i = some sv → ∃ v, dn ad sv = some v ∧ lo i = some v) →
    ∃ lo', bindP ps vs lo = some lo' ∧ ∀ i sv, lk l' i = some sv → ∃ v, dn ad sv = some v ∧ lo' i = some v := by
  induction ps with
  | nil =>
    intro as vs l l' lo d h hl
    cases d with
    | nil => exact ⟨lo, rfl, Option.some.inj h ▸ hl⟩
    | cons _ _ => cases h
  | cons p ps ih =>
    intro as vs l l' lo d h hl
    cases d with
    | nil => cases h
    | @cons a v _ _ d r => exact ih (lo := upd lo p v) r h fun i sv q => (lk_st q).elim (fun q => ⟨v, q.2 ▸ d, if_pos q.1⟩) fun q => (hl i sv q.2).imp fun w z => ⟨z.1, (if_neg q.1).trans z.2⟩
variable (M)
/-- what is known of a def holds -/
noncomputable def SpOk (P : Prog) (sp : Spc Ω) : Prop := ∀ f d r, sp f = some (d, r) → ∀ n, CallOk M (fun g as s k => g = f ∧ r as s k) (CW P (d + n))
variable {M}
theorem ret_dn {ad : List Nat} {fl : FX} {fl' : Flow} (h : DFl ad fl fl') : DV ad (retX fl) (retV fl') := by
  cases h with
  | ret d => exact d
  | _ => rfl
theorem call_body {n f : Nat} {C : XT Ω} {as : List SV} {s : Sy Ω} {k : SV → Sy Ω → Prop} {ad : List Nat} {σ : St} {vs : List V} {Q : V → Hp → Prop} (hC : CallOk M C (CW P n))
    (h : need (P.fn f) fun d => need (bindPS d.params as []) fun l => sxSs P C d.body (s.withLoc l) fun fl s₁ => k (retX fl) (s₁.withLoc s.loc))
    (mt : Mt M ad s σ) (d : DnL ad as vs) (hk : PW M DV ad k (fun v σ' => σ'.loc = σ.loc → Q v σ'.H)) : CW P (n + 1) f vs σ.H Q :=
  have back : ∀ {s' : Sy Ω} {ad' : List Nat} {σ' : St}, Ext ad ad' → Mt M ad' s' σ' → Mt M ad' (s'.withLoc s.loc) (σ.setH σ'.H) := fun x m' => m'.withLoc fun i sv h => (mt.loc i sv h).imp fun w q => ⟨dn_mono x q.1, q.2⟩
  need_m h (fun _ e => e) fun fd h => need_e h fun l e2 h => (bindP_ok (lo := fun _ => none) d e2 fun i sv q => (nomatch q)).elim fun lo q => need_i q.1
    (sxSs_ok hC fd.body h (mt.withLoc q.2) fun fl s' ad' σ' fl' x m' df h => hk _ _ _ (σ.setH σ'.H) _ x (back x m') (ret_dn df) h rfl)
theorem callX_ok {sp : Spc Ω} (hs : SpOk M P sp) (n : Nat) : ∀ m, CallOk M (callX P sp m) (CW P (m + n))
  | 0 => fun f as s k ad σ vs Q h => h.elim
  | m + 1 => fun f as s k ad σ vs Q h mt d hk => by
    have h : (match sp f with
      | some (d, r) => Ys (Nat.ble d (m + 1)) (r as s k)
      | none => need (P.fn f) fun d => need (bindPS d.params as []) fun l => sxSs P (callX P sp m) d.body (s.withLoc l) fun fl s₁ => k (retX fl) (s₁.withLoc s.loc)) := h
    cases q : sp f with
    | some x =>
      rw [q] at h
      refine Ys_e h fun h1 h => ?_
      have := hs f x.1 x.2 q (m + 1 - x.1 + n) f as s k ad σ vs Q ⟨rfl, h⟩ mt d hk
      rw [← Nat.add_assoc, Nat.add_sub_cancel' (Nat.ble_eq.mp h1)] at this
      exact this
    | none =>
      rw [q] at h
      rw [Nat.add_right_comm]
      exact call_body (callX_ok hs n m) h mt d hk
end
end Mine

end

section
set_option autoImplicit false
set_option linter.all false
set_option genSizeOf false
set_option genInjectivity false
namespace Mine
open PySem (Str)

/-! The folk, plainly. -/
structure Msg where
  h : Int
  n : Int
  w : Str
noncomputable def Msg.v (m : Msg) : V := .tup [.int m.h, .int m.n, .str m.w]
abbrev Bal := Int × Int
noncomputable def balV (b : Bal) : V := .tup [.int b.1, .int b.2]
noncomputable def iV (l : List Int) : List V := l.map .int
noncomputable def mV (l : List Msg) : List V := l.map Msg.v
structure Val where
  hands : List Int
  row : List Msg
noncomputable def Val.v (x : Val) : V := .tup [.lst (iV x.hands), .lst (mV x.row)]
noncomputable def agV : Option (Bal × Val) → V
  | none => .none
  | some x => .tup [balV x.1, x.2.v]
structure News where
  place : Int
  hands : List Int
  row : List Msg
  wit : List Int
noncomputable def News.v (x : News) : V := .tup [.int x.place, .lst (iV x.hands), .lst (mV x.row), .lst (iV x.wit)]
noncomputable def nwV : Option News → V
  | none => .none
  | some x => x.v
noncomputable def plV : Option Int → V
  | none => .none
  | some i => .int i
structure OfferS where
  ballot : Bal
  hands : List Int
  promises : List (Int × (List Msg × Option (Bal × Val)))
  value : Option Val
  agrees : List Int
  over : Bool
structure HandS where
  number : Int
  place : Option Int
  highest : Int
  members : List Int
  said : Int
  up : Bool
  gone : List (Int × List Int × List Msg)
  news : Option News
  row : List Msg
  took : Int
  still : Bool
  ballot : Bal
  agreed : Option (Bal × Val)
  offer : Option OfferS
  holds : List (Int × Int)
noncomputable def goV (x : Int × List Int × List Msg) : V := .tup [.int x.1, .lst (iV x.2.1), .lst (mV x.2.2)]
inductive Cont where
  | wish (m : Msg)
  | hold (m : Msg) (p : Int)
  | have_ (n : Int)
  | take (n : Int)
  | prepare (b : Bal)
  | promise (b : Bal) (row : List Msg) (a : Option (Bal × Val))
  | accept (b : Bal) (x : Val)
  | agree (b : Bal)
  | enter (x : News)
structure Letter where
  from_ : Int
  to : Int
  place : Int
  c : Cont
noncomputable def w_wish : Str := ⟨#[119, 105, 115, 104]⟩
noncomputable def w_hold : Str := ⟨#[104, 111, 108, 100]⟩
noncomputable def w_have : Str := ⟨#[104, 97, 118, 101]⟩
noncomputable def w_take : Str := ⟨#[116, 97, 107, 101]⟩
noncomputable def w_prepare : Str := ⟨#[112, 114, 101, 112, 97, 114, 101]⟩
noncomputable def w_promise : Str := ⟨#[112, 114, 111, 109, 105, 115, 101]⟩
noncomputable def w_accept : Str := ⟨#[97, 99, 99, 101, 112, 116]⟩
noncomputable def w_agree : Str := ⟨#[97, 103, 114, 101, 101]⟩
noncomputable def w_enter : Str := ⟨#[101, 110, 116, 101, 114]⟩
noncomputable def Cont.word : Cont → Str
  | .wish _ => w_wish
  | .hold _ _ => w_hold
  | .have_ _ => w_have
  | .take _ => w_take
  | .prepare _ => w_prepare
  | .promise _ _ _ => w_promise
  | .accept _ _ => w_accept
  | .agree _ => w_agree
  | .enter _ => w_enter
noncomputable def Cont.v : Cont → V
  | .wish m => m.v
  | .hold m p => .tup [m.v, .int p]
  | .have_ n => .int n
  | .take n => .int n
  | .prepare b => balV b
  | .promise b r a => .tup [balV b, .lst (mV r), agV a]
  | .accept b x => .tup [balV b, x.v]
  | .agree b => balV b
  | .enter x => x.v
noncomputable def Letter.v (l : Letter) : V := .tup [.str l.c.word, .int l.from_, .int l.to, .int l.place, l.c.v]
noncomputable def lV (l : List Letter) : List V := l.map Letter.v
structure FolkS where
  hands : List HandS
  under : List Letter

/-! The same in cells: the folk 0, the letters 1, a hand 2, its past 3, its row 4, what others hold 5, its offer 6, its promises 7, its agrees 8. -/
noncomputable def hoV (l : List (Int × Int)) : List (V × V) := l.map fun x => (.int x.1, .int x.2)
noncomputable def prV (x : List Msg × Option (Bal × Val)) : V := .tup [.lst (mV x.1), agV x.2]
noncomputable def pmV (l : List (Int × (List Msg × Option (Bal × Val)))) : List (V × V) := l.map fun x => (.int x.1, prV x.2)
noncomputable def agsV (l : List Int) : List (V × V) := l.map fun x => (.int x, .bool true)
noncomputable def svs (l : List (V × V)) : List (V × SV) := l.map fun x => (x.1, .v x.2)
noncomputable def vaV : Option Val → V
  | none => .none
  | some x => x.v
noncomputable def handF {α : Type} (v : V → α) (h : HandS) (g r d o : α) : List (Nat × α) := [(109, v (.int h.number)), (110, v (plV h.place)), (111, v (.int h.highest)), (17, v (.lst (iV h.members))), (112, v (.int h.said)), (113, v (.bool h.up)), (114, g), (115, v (nwV h.news)), (23, r), (116, v (.int h.took)), (117, v (.bool h.still)), (118, v (balV h.ballot)), (119, v (agV h.agreed)), (120, o), (121, d)]
noncomputable def offF {α : Type} (v : V → α) (x : OfferS) (p q : α) : List (Nat × α) := [(118, v (balV x.ballot)), (123, v (.lst (iV x.hands))), (146, p), (147, v (vaV x.value)), (149, q), (148, v (.bool x.over))]
noncomputable def folkC (m : Int) (hs : List SA) : SC := .inst 60 [(18, .v (.int m)), (123, .l hs), (124, .s 1)]
noncomputable def handC (h : HandS) (g r d : Nat) (o : SV) : SC := .inst 59 (handF .v h (.s g) (.s r) (.s d) o)
noncomputable def gnC (h : HandS) : SC := .list (h.gone.map goV)
noncomputable def offC (x : OfferS) (p q : Nat) : SC := .inst 155 (offF .v x (.s p) (.s q))
/-- the cells of a hand in focus -/
noncomputable def hcs (h : HandS) : List SC := match h.offer with
  | none => [handC h 3 4 5 (.v .none), gnC h, .list (mV h.row), .dict (svs (hoV h.holds))]
  | some x => [handC h 3 4 5 (.s 6), gnC h, .list (mV h.row), .dict (svs (hoV h.holds)), offC x 7 8, .dict (svs (pmV x.promises)), .dict (svs (agsV x.agrees))]
noncomputable def fcs (m : Int) (hs : List SA) (U : List Letter) (r : List SC) : List SC := folkC m hs :: .list (lV U) :: r
end Mine

end

section
set_option autoImplicit false
set_option linter.all false
set_option genSizeOf false
set_option genInjectivity false
namespace Mine
open PySem (Str)

/-! The folk in the heap. -/
structure HA where
  r : Nat
  g : Nat
  w : Nat
  d : Nat
  o : Option (Nat × Nat × Nat)
noncomputable def oL : Option (Nat × Nat × Nat) → List Nat
  | none => []
  | some t => [t.1, t.2.1, t.2.2]
noncomputable def oVl : Option (Nat × Nat × Nat) → V
  | none => .none
  | some t => .ref t.1
noncomputable def HA.l (a : HA) : List Nat := a.r :: a.g :: a.w :: a.d :: oL a.o
inductive OR (H : Hp) : Option OfferS → Option (Nat × Nat × Nat) → Prop
  | none : OR H none none
  | some {x : OfferS} {i p q : Nat} : H.get i = some (.inst 155 (offF id x (.ref p) (.ref q))) → H.get p = some (.dict (pmV x.promises)) → H.get q = some (.dict (agsV x.agrees)) → OR H (some x) (some (i, p, q))
structure HR (H : Hp) (h : HandS) (a : HA) : Prop where
  r : H.get a.r = some (.inst 59 (handF id h (.ref a.g) (.ref a.w) (.ref a.d) (oVl a.o)))
  g : H.get a.g = some (.list (h.gone.map goV))
  w : H.get a.w = some (.list (mV h.row))
  d : H.get a.d = some (.dict (hoV h.holds))
  o : OR H h.offer a.o
theorem OR.keep {H H' : Hp} {x : Option OfferS} {o : Option (Nat × Nat × Nat)} (h : OR H x o) (e : ∀ y ∈ oL o, H'.get y = H.get y) : OR H' x o := by
  cases h with
  | none => exact .none
  | some a b c => exact .some ((e _ (.head _)).trans a) ((e _ (.tail _ (.head _))).trans b) ((e _ (.tail _ (.tail _ (.head _)))).trans c)
theorem HR.keep {H H' : Hp} {h : HandS} {a : HA} (r : HR H h a) (e : ∀ y ∈ a.l, H'.get y = H.get y) : HR H' h a :=
  ⟨(e _ (.head _)).trans r.r, (e _ (.tail _ (.head _))).trans r.g, (e _ (.tail _ (.tail _ (.head _)))).trans r.w, (e _ (.tail _ (.tail _ (.tail _ (.head _))))).trans r.d, r.o.keep fun y hy => e y (.tail _ (.tail _ (.tail _ (.tail _ hy))))⟩
/-- the folk, with the places of its parts -/
structure FolkW where
  S : FolkS
  f : Nat
  u : Nat
  as : List HA
noncomputable def FolkW.l (w : FolkW) : List Nat := w.u :: w.as.flatMap HA.l
noncomputable def folkF (w : FolkW) : List (Nat × V) := [(18, .int w.S.hands.length), (123, .lst (w.as.map fun a => .ref a.r)), (124, .ref w.u)]
structure RepW (w : FolkW) (H : Hp) : Prop where
  und : H.get w.u = some (.list (lV w.S.under))
  len : w.as.length = w.S.hands.length
  hand : ∀ (k : Nat) (a : HA) (h : HandS), w.as[k]? = some a → w.S.hands[k]? = some h → HR H h a
  nd : w.l.Nodup
/-- R, g: what else stands in the heap, and as what -/
noncomputable def wI (R : Nat → Prop) (g : Nat → Option C) : Option FolkW → Hp → (Nat → Prop) → Prop
  | none, H, F => (∀ x, F x ↔ R x) ∧ ∀ x, R x → H.get x = g x
  | some w, H, F => RepW w H ∧ (∀ x, F x ↔ (x ∈ w.l ∨ R x)) ∧ ∀ x, R x → x ∉ w.l ∧ H.get x = g x
inductive wIs (o : Option FolkW) (a c : Nat) (fs fs' : List (Nat × V)) : Prop
  | mk (w : FolkW) (ho : o = some w) (ha : a = w.f) (hc : c = 60) (hf : fs = [(18, .int w.S.hands.length)]) (hf' : fs' = folkF w)
theorem mem_l {w : FolkW} {k : Nat} {a : HA} (ha : w.as[k]? = some a) {x : Nat} (hx : x ∈ a.l) : x ∈ w.l := .tail _ (List.mem_flatMap.mpr ⟨a, List.mem_of_getElem? ha, hx⟩)
theorem RepW.keep {w : FolkW} {H H' : Hp} (r : RepW w H) (e : ∀ x ∈ w.l, H'.get x = H.get x) : RepW w H' :=
  ⟨(e _ (.head _)).trans r.und, r.len, fun k a h ha hh => (r.hand k a h ha hh).keep fun y hy => e y (mem_l ha hy), r.nd⟩
/-- the folk is the world -/
noncomputable def MF (R : Nat → Prop) (g : Nat → Option C) : MEnv (Option FolkW) where
  I := wI R g
  Is := wIs
  keep := fun w H H' F h e _ => by
    cases w with
    | none => exact ⟨h.1, fun x hx => (e x ((h.1 x).mpr hx)).trans (h.2 x hx)⟩
    | some w => exact ⟨h.1.keep fun x hx => e x ((h.2.1 x).mpr (.inl hx)), h.2.1, fun x hx => ⟨(h.2.2 x hx).1, (e x ((h.2.1 x).mpr (.inr hx))).trans (h.2.2 x hx).2⟩⟩
  obj := fun w a c fs fs' h n v e => by
    cases h with
    | mk w ho ha hc hf hf' => subst hf hf'; exact cond_e e (fun q z => (cond_t q).trans z) fun q z => nomatch z
/-- the rest of the heap stands -/
structure FrI (H : Hp) (ad : List Nat) (H' : Hp) (F : Nat → Prop) : Prop where
  is : ∀ x, F x ↔ x < H.next ∧ x ∉ ad
  eq : ∀ x, F x → H'.get x = H.get x
  le : H.next ≤ H'.next
noncomputable def MFr (H : Hp) (ad : List Nat) : MEnv Unit where
  I := fun _ => FrI H ad
  Is := fun _ _ _ _ _ => False
  keep := fun _ H' H'' F h e n => ⟨h.is, fun x hx => (e x hx).trans (h.eq x hx), Nat.le_trans h.le n⟩
  obj := fun _ _ _ _ _ h => h.elim

theorem DnF_v {κ : Type} {ad : List Nat} : ∀ (l : List (κ × V)), DnF ad (l.map fun x => (x.1, SV.v x.2)) l
  | [] => .nil
  | _ :: r => .cons rfl (DnF_v r)
/-- the hands as the focus sees them -/
noncomputable def hsA (k : Nat) : Nat → List HA → List SA
  | _, [] => []
  | i, a :: r => (if i = k then .s 2 else .v (.ref a.r)) :: hsA k (i + 1) r
theorem hsA_len {k : Nat} {as : List HA} : ∀ {i : Nat}, (hsA k i as).length = as.length := by
  induction as with
  | nil => intro i; rfl
  | cons a r ih => intro i; exact congrArg (· + 1) ih
theorem hsA_at {k : Nat} {as : List HA} : ∀ {i j : Nat}, i + j = k → j < as.length → (hsA k i as)[j]? = some (.s 2) := by
  induction as with
  | nil => intro i j _ h; exact absurd h (Nat.not_lt_zero _)
  | cons a r ih =>
    intro i j e h
    cases j with
    | zero => exact congrArg some (if_pos e)
    | succ j => exact ih (i := i + 1) (by rw [← e]; exact Nat.succ_add_eq_add_succ i j) (Nat.lt_of_succ_lt_succ h)
theorem hsA_dn {k x : Nat} {ad : List Nat} (h2 : ad[2]? = some x) {as : List HA} : ∀ {i : Nat}, (∀ (j : Nat) (a : HA), i + j = k → as[j]? = some a → a.r = x) → dnAs ad (hsA k i as) = some (as.map fun a => .ref a.r) := by
  induction as with
  | nil => intro i _; rfl
  | cons a r ih =>
    intro i h
    refine dnAs_i ?_ (ih fun j b e q => h (j + 1) b (by rw [← e]; exact (Nat.succ_add_eq_add_succ i j).symm) q)
    show dnA ad (if i = k then .s 2 else .v (.ref a.r)) = some (.ref a.r)
    by_cases e : i = k
    · rw [if_pos e, h 0 a e rfl]
      show mR ad[2]? = _
      rw [h2]; rfl
    · rw [if_neg e]; rfl

theorem nodup_inj {l : List Nat} (h : l.Nodup) {i j a : Nat} (hi : l[i]? = some a) (hj : l[j]? = some a) : i = j :=
  (List.getElem?_eq_some_iff.mp hi).elim fun l1 e1 => (List.getElem?_eq_some_iff.mp hj).elim fun l2 e2 => (List.getElem_inj h).mp (e1.trans e2.symm)
theorem nd_sub {w : FolkW} {k : Nat} {a : HA} (h : w.l.Nodup) (ha : w.as[k]? = some a) : (w.u :: a.l).Nodup := by
  have hs : (a.l).Sublist (w.as.flatMap HA.l) := by
    obtain ⟨s, t, e⟩ := List.append_of_mem (List.mem_of_getElem? ha)
    rw [e, List.flatMap_append, List.flatMap_cons]
    exact (List.sublist_append_left _ _).trans (List.sublist_append_right _ _)
  exact h.sublist (.cons₂ _ hs)
/-- a hand's cells -/
theorem hcs_ok {D : Nat → Nat → List (Nat × V) → List (Nat × V) → Prop} {f u : Nat} {t : List Nat} {H : Hp} {h : HandS} {a : HA} (r : HR H h a) : ∀ (j x : Nat) (c : SC), a.l[j]? = some x → at_ (hcs h) j = some c → CA D (f :: u :: (a.l ++ t)) H x c := by
  obtain ⟨ar, ag, aw, ad, ao⟩ := a
  intro j x c hx hc
  have ro : OR H h.offer ao := r.o
  unfold hcs at hc
  generalize ho : h.offer = ho' at hc ro
  cases ro with
  | none =>
    match j, hx, hc with
    | 0, hx, hc => cases hx; cases hc; exact .mk _ r.r (.inst (.cons rfl (.cons rfl (.cons rfl (.cons rfl (.cons rfl (.cons rfl (.cons rfl (.cons rfl (.cons rfl (.cons rfl (.cons rfl (.cons rfl (.cons rfl (.cons rfl (.cons rfl .nil))))))))))))))))
    | 1, hx, hc => cases hx; cases hc; exact .mk _ r.g (.list _)
    | 2, hx, hc => cases hx; cases hc; exact .mk _ r.w (.list _)
    | 3, hx, hc => cases hx; cases hc; exact .mk _ r.d (.dict (DnF_v _))
  | some o1 o2 o3 =>
    match j, hx, hc with
    | 0, hx, hc => cases hx; cases hc; exact .mk _ r.r (.inst (.cons rfl (.cons rfl (.cons rfl (.cons rfl (.cons rfl (.cons rfl (.cons rfl (.cons rfl (.cons rfl (.cons rfl (.cons rfl (.cons rfl (.cons rfl (.cons rfl (.cons rfl .nil))))))))))))))))
    | 1, hx, hc => cases hx; cases hc; exact .mk _ r.g (.list _)
    | 2, hx, hc => cases hx; cases hc; exact .mk _ r.w (.list _)
    | 3, hx, hc => cases hx; cases hc; exact .mk _ r.d (.dict (DnF_v _))
    | 4, hx, hc => cases hx; cases hc; exact .mk _ o1 (.inst (.cons rfl (.cons rfl (.cons rfl (.cons rfl (.cons rfl (.cons rfl .nil)))))))
    | 5, hx, hc => cases hx; cases hc; exact .mk _ o2 (.dict (DnF_v _))
    | 6, hx, hc => cases hx; cases hc; exact .mk _ o3 (.dict (DnF_v _))
theorem hcs_len {h : HandS} {H : Hp} {a : HA} (o : OR H h.offer a.o) : a.l.length = (hcs h).length := by
  obtain ⟨ar, ag, aw, ad, ao⟩ := a
  have ro : OR H h.offer ao := o
  unfold hcs
  generalize h.offer = ho at ro
  cases ro <;> rfl

/-- a list of the caller's that is read -/
abbrev Exl := Option (Nat × List V)
noncomputable def exA : Exl → List Nat
  | none => []
  | some e => [e.1]
noncomputable def exC : Exl → List SC
  | none => []
  | some e => [.list e.2]
inductive XlAt (ad : List Nat) (cs : List SC) : Exl → Prop
  | none : XlAt ad cs none
  | some {n b : Nat} {xs : List V} : ad[n]? = some b → at_ cs n = some (.list xs) → XlAt ad cs (some (b, xs))
/-- the places in focus -/
noncomputable def FolkW.ad (w : FolkW) (a : HA) (ex : Exl) : List Nat := w.f :: w.u :: (a.l ++ exA ex)
section
variable {R : Nat → Prop} {g : Nat → Option C} {ad : List Nat} {s : Sy (Option FolkW)} {σ : St} (m : Mt (MF R g) ad s σ) {w : FolkW} (hw : s.w = some w)
include m hw
theorem Mt.folk {j : Nat} {fs : List (Nat × V)} (hj : at_ s.cs j = some (.w 60 fs)) : ad[j]? = some w.f ∧ σ.H.get w.f = some (.inst 60 (folkF w)) := by
  have hl : j < ad.length := by rw [m.len]; exact at_len hj
  have ha : ad[j]? = some ad[j] := List.getElem?_eq_getElem hl
  cases m.cell j _ _ ha hj with
  | mk d g r =>
    cases r with
    | w r =>
      cases r with
      | mk w' ho q1 q2 q3 q4 =>
        cases hw.symm.trans ho
        rw [q1] at ha g
        rw [q4] at g
        exact ⟨ha, g⟩
theorem Mt.rep {G : Prop} (g : RepW w σ.H → (∀ x ∈ w.l, x < σ.H.next) → (∀ (j a : Nat), ad[j]? = some a → a ∉ w.l) → G) : G := by
  obtain ⟨F, f1, f2, f3⟩ := m.res
  rw [hw] at f1
  exact g f1.1 (fun x hx => f3 x ((f1.2.1 x).mpr (.inl hx))) fun j a h q => f2 j a h ((f1.2.1 a).mpr (.inl q))
/-- what else stands -/
theorem Mt.rx {x : Nat} (hx : R x) : x ∉ w.l ∧ σ.H.get x = g x ∧ x < σ.H.next ∧ ∀ j : Nat, ad[j]? ≠ some x := by
  obtain ⟨F, f1, f2, f3⟩ := m.res
  rw [hw] at f1
  have hF := (f1.2.1 x).mpr (.inr hx)
  exact ⟨(f1.2.2 x hx).1, (f1.2.2 x hx).2, f3 x hF, fun j q => f2 j x q hF⟩
theorem xlAt_out {ex : Exl} (X : XlAt ad s.cs ex) {b : Nat} (hb : b ∈ exA ex) : ∃ n xs, ad[n]? = some b ∧ at_ s.cs n = some (.list xs) ∧ ex = some (b, xs) := by
  cases X with
  | none => cases hb
  | @some n b' xs h1 h2 =>
    rcases List.mem_cons.mp hb with rfl | hb
    · exact ⟨n, xs, h1, h2, rfl⟩
    · cases hb
variable {j : Nat} {fs : List (Nat × V)} (hj : at_ s.cs j = some (.w 60 fs)) {i : Nat} {a : HA} {h : HandS} (ha : w.as[i]? = some a) (hh : w.S.hands[i]? = some h) {ex : Exl} (X : XlAt ad s.cs ex)
include hj ha X
theorem foc_nd : (w.ad a ex).Nodup := m.rep hw fun R _ q => by
  have fj := (m.folk hw hj).1
  refine List.nodup_cons.mpr ⟨fun z => ?_, List.nodup_cons.mpr ⟨fun z => ?_, List.nodup_append.mpr ⟨(List.nodup_cons.mp (nd_sub R.nd ha)).2, ?_, fun x hx y hy e => ?_⟩⟩⟩
  · rcases List.mem_cons.mp z with e | z
    · exact q j _ fj (e ▸ .head _)
    rcases List.mem_append.mp z with z | z
    · exact q j _ fj (mem_l ha z)
    · obtain ⟨n, xs, h1, h2, _⟩ := xlAt_out m hw X z
      cases m.nd j n _ fj h1
      cases hj.symm.trans h2
  · rcases List.mem_append.mp z with z | z
    · exact (List.nodup_cons.mp (nd_sub R.nd ha)).1 z
    · obtain ⟨n, xs, h1, h2, _⟩ := xlAt_out m hw X z
      exact q n _ h1 (.head _)
  · cases X with
    | none => exact .nil
    | some => exact List.nodup_cons.mpr ⟨fun h => (nomatch h), .nil⟩
  · subst e
    obtain ⟨n, xs, h1, h2, _⟩ := xlAt_out m hw X hy
    exact q n _ h1 (mem_l ha hx)
theorem foc_lt : ∀ x ∈ w.ad a ex, x < σ.H.next := m.rep hw fun R l q x hx => by
  rcases List.mem_cons.mp hx with e | hx
  · exact e ▸ m.lt j _ (m.folk hw hj).1
  rcases List.mem_cons.mp hx with e | hx
  · exact l _ (e ▸ .head _)
  rcases List.mem_append.mp hx with hx | hx
  · exact l _ (mem_l ha hx)
  · obtain ⟨n, xs, h1, h2, _⟩ := xlAt_out m hw X hx
    exact m.lt n _ h1
include hh
theorem foc_mt (lo : Loc) : Mt (MFr σ.H (w.ad a ex)) (w.ad a ex) ⟨fcs w.S.hands.length (hsA i 0 w.as) w.S.under (hcs h ++ exC ex), [], ()⟩ ⟨σ.H, lo⟩ := m.rep hw fun R l q => by
  have r := R.hand i a h ha hh
  have nd := foc_nd m hw hj ha X
  have lt := foc_lt m hw hj ha X
  have el : (exA ex).length = (exC ex).length := by cases ex <;> rfl
  refine ⟨?_, fun j x c hx hc => ?_, fun i j x hi hj => nodup_inj nd hi hj, fun j x hx => lt x (List.mem_of_getElem? hx), fun i sv h => (nomatch h), fun x => x < σ.H.next ∧ x ∉ w.ad a ex, ⟨fun _ => Iff.rfl, fun _ _ => rfl, Nat.le_refl _⟩, fun j x hx hF => hF.2 (List.mem_of_getElem? hx), fun x hx => hx.1⟩
  · refine congrArg (· + 1 + 1) ?_
    show (a.l ++ exA ex).length = (hcs h ++ exC ex).length
    rw [List.length_append, List.length_append, hcs_len r.o, el]
  match j, hx, hc with
  | 0, hx, hc =>
    cases hx; cases hc
    refine .mk _ (m.folk hw hj).2 (.inst (.cons rfl (.cons ?_ (.cons rfl .nil))))
    exact congrArg mL (hsA_dn (k := i) (x := a.r) rfl fun j b e q => by
      have : j = i := (Nat.zero_add j).symm.trans e
      subst this
      rw [Option.some.inj (q.symm.trans ha)])
  | 1, hx, hc => cases hx; cases hc; exact .mk _ R.und (.list _)
  | j + 2, hx, hc =>
    have hx : (a.l ++ exA ex)[j]? = some x := hx
    have hc : at_ (hcs h ++ exC ex) j = some c := hc
    by_cases lj : j < a.l.length
    · rw [List.getElem?_append_left lj] at hx
      rw [at_eq, List.getElem?_append_left (by rw [← hcs_len r.o]; exact lj), ← at_eq] at hc
      exact hcs_ok r j x c hx hc
    · have lj := Nat.le_of_not_lt lj
      rw [List.getElem?_append_right lj] at hx
      rw [at_eq, List.getElem?_append_right (by rw [← hcs_len r.o]; exact lj), ← hcs_len r.o] at hc
      cases X with
      | none => cases hx
      | @some n b xs h1 h2 =>
        generalize j - a.l.length = p at hx hc
        cases p with
        | zero => cases hx; cases hc; exact .mk _ (m.list h2 h1) (.list _)
        | succ p => cases hx
end
end Mine

end

section
set_option autoImplicit false
set_option linter.all false
set_option genSizeOf false
set_option genInjectivity false
namespace Mine
open PySem (Str)

/-- the cells at the end of a run in focus -/
inductive OffIn (cs : List SC) : Option OfferS → SV → Option (Nat × Nat × Nat) → Prop
  | none : OffIn cs none (.v .none) none
  | some {x : OfferS} {i p q : Nat} : at_ cs i = some (offC x p q) → at_ cs p = some (.dict (svs (pmV x.promises))) → at_ cs q = some (.dict (svs (agsV x.agrees))) → OffIn cs (some x) (.s i) (some (i, p, q))
/-- a hand among the cells -/
structure HandIn (cs : List SC) (h : HandS) (js : HA) (o : SV) : Prop where
  c2 : at_ cs js.r = some (handC h js.g js.w js.d o)
  c3 : at_ cs js.g = some (gnC h)
  c4 : at_ cs js.w = some (.list (mV h.row))
  c5 : at_ cs js.d = some (.dict (svs (hoV h.holds)))
  o : OffIn cs h.offer o js.o
/-- the caller's list stands as it was -/
inductive ExIn (cs : List SC) (js : HA) (n : Nat) : Exl → Prop
  | none : ExIn cs js n none
  | some {b : Nat} {xs : List V} : at_ cs n = some (.list xs) → n ∉ js.l → ExIn cs js n (some (b, xs))
structure FinOk (m : Int) (hs : List SA) (n : Nat) (ex : Exl) (h : HandS) (U : List Letter) (cs : List SC) (js : HA) (o : SV) : Prop where
  c0 : at_ cs 0 = some (folkC m hs)
  c1 : at_ cs 1 = some (.list (lV U))
  hd : HandIn cs h js o
  nd : (0 :: 1 :: js.l).Nodup
  r2 : js.r = 2
  ex : ExIn cs js n ex
theorem DnF_u {κ : Type} {ad : List Nat} : ∀ {l : List (κ × V)} {l' : List (κ × V)}, DnF ad (l.map fun x => (x.1, SV.v x.2)) l' → l' = l
  | [], _, h => by cases h; rfl
  | x :: r, l', h => by
    cases h with
    | cons d h => rw [DnF_u h, ← Option.some.inj d]
theorem DnF_un {κ : Type} {ad : List Nat} {l : List (κ × SV)} {a b : List (κ × V)} (h : DnF ad l a) : DnF ad l b → a = b := by
  induction h generalizing b with
  | nil => intro h; cases h; rfl
  | cons d _ ih =>
    intro h
    cases h with
    | cons d' h' => rw [ih h', Option.some.inj (d.symm.trans d')]
inductive Al (ad : List Nat) : List Nat → List Nat → Prop
  | nil : Al ad [] []
  | cons {j x : Nat} {js xs : List Nat} : ad[j]? = some x → Al ad js xs → Al ad (j :: js) (x :: xs)
theorem Al.mem {ad js xs : List Nat} (h : Al ad js xs) {x : Nat} : x ∈ xs → ∃ j, j ∈ js ∧ ad[j]? = some x := by
  induction h with
  | nil => intro h; cases h
  | cons d _ ih => exact fun h => (List.mem_cons.mp h).elim (fun e => ⟨_, .head _, e ▸ d⟩) fun h => (ih h).imp fun j q => ⟨.tail _ q.1, q.2⟩
theorem Al.nodup {ad js xs : List Nat} (h : Al ad js xs) (nd : ∀ (i j a : Nat), ad[i]? = some a → ad[j]? = some a → i = j) : js.Nodup → xs.Nodup := by
  induction h with
  | nil => exact fun h => h
  | cons d h ih =>
    intro q
    have q := List.nodup_cons.mp q
    exact List.nodup_cons.mpr ⟨fun z => (h.mem z).elim fun j w => q.1 (nd _ _ _ d w.2 ▸ w.1), ih q.2⟩
section
variable {Ω : Type} {M : MEnv Ω} {ad : List Nat} {s : Sy Ω} {σ : St} (m : Mt M ad s σ)
include m
theorem Mt.ex {j : Nat} {c : SC} (h : at_ s.cs j = some c) : ∃ a, ad[j]? = some a := ⟨_, List.getElem?_eq_getElem (by rw [m.len]; exact at_len h)⟩
theorem Mt.dictV {j a : Nat} {l : List (V × V)} (h : at_ s.cs j = some (.dict (svs l))) (ha : ad[j]? = some a) : σ.H.get a = some (.dict l) := m.dict h ha fun kvs' e d => by rw [e, DnF_u d]
theorem Mt.instV {j a k : Nat} {fs : List (Nat × SV)} {fs' : List (Nat × V)} (h : at_ s.cs j = some (.inst k fs)) (ha : ad[j]? = some a) (d : DnF ad fs fs') : σ.H.get a = some (.inst k fs') := m.inst h ha fun gs e d' => by rw [e, DnF_un d' d]
/-- a hand's parts are found -/
theorem HandIn.hr {h : HandS} {js : HA} {o : SV} (F : HandIn s.cs h js o) : ∃ a : HA, ad[js.r]? = some a.r ∧ HR σ.H h a ∧ Al ad js.l a.l := by
  obtain ⟨jr, jg, jw, jd, jo⟩ := js
  obtain ⟨r, hr⟩ := m.ex F.c2
  obtain ⟨g, hg⟩ := m.ex F.c3
  obtain ⟨w, hw⟩ := m.ex F.c4
  obtain ⟨d, hd⟩ := m.ex F.c5
  have c3 := m.list F.c3 hg
  have c4 := m.list F.c4 hw
  have c5 := m.dictV F.c5 hd
  have c2 := F.c2
  have fo : OffIn s.cs h.offer o jo := F.o
  have key : ∀ v, dn ad o = some v → σ.H.get r = some (.inst 59 (handF id h (.ref g) (.ref w) (.ref d) v)) := fun v e => m.instV c2 hr (.cons rfl (.cons rfl (.cons rfl (.cons rfl (.cons rfl (.cons rfl (.cons (dn_at hg) (.cons rfl (.cons (dn_at hw) (.cons rfl (.cons rfl (.cons rfl (.cons rfl (.cons e (.cons (dn_at hd) .nil)))))))))))))))
  generalize ho : h.offer = hoo at fo
  cases fo with
  | none => exact ⟨⟨r, g, w, d, none⟩, hr, ⟨key _ rfl, c3, c4, c5, ho ▸ .none⟩, .cons hr (.cons hg (.cons hw (.cons hd .nil)))⟩
  | @some x i p q o1 o2 o3 =>
    obtain ⟨ai, hi⟩ := m.ex o1
    obtain ⟨ap, hp⟩ := m.ex o2
    obtain ⟨aq, hq⟩ := m.ex o3
    exact ⟨⟨r, g, w, d, some (ai, ap, aq)⟩, hr, ⟨key _ (dn_at hi), c3, c4, c5, ho ▸ .some (m.instV o1 hi (.cons rfl (.cons rfl (.cons (dn_at hp) (.cons rfl (.cons (dn_at hq) (.cons rfl .nil))))))) (m.dictV o2 hp) (m.dictV o3 hq)⟩, .cons hr (.cons hg (.cons hw (.cons hd (.cons hi (.cons hp (.cons hq .nil))))))⟩
end
noncomputable def FolkW.upd (w : FolkW) (i : Nat) (h : HandS) (U : List Letter) (a : HA) : FolkW := ⟨⟨w.S.hands.set i h, U⟩, w.f, w.u, w.as.set i a⟩
section
variable {R : Nat → Prop} {g : Nat → Option C} {ad : List Nat} {s : Sy (Option FolkW)} {σ : St} (m : Mt (MF R g) ad s σ) {w : FolkW} (hw : s.w = some w)
  {j : Nat} {fs : List (Nat × V)} (hj : at_ s.cs j = some (.w 60 fs)) {i : Nat} {a : HA} {h : HandS} (ha : w.as[i]? = some a) (hh : w.S.hands[i]? = some h) {ex : Exl} (X : XlAt ad s.cs ex)
  {ad₁ : List Nat} {s₁ : Sy Unit} {σ₁ : St} (x : Ext (w.ad a ex) ad₁) (m₁ : Mt (MFr σ.H (w.ad a ex)) ad₁ s₁ σ₁)
include m hw hj ha hh X x m₁
theorem unf_fr : (∀ (k b : Nat), ad₁[k]? = some b → σ.H.next ≤ b ∨ b ∈ w.ad a ex) ∧ (∀ b, b < σ.H.next → b ∉ w.ad a ex → σ₁.H.get b = σ.H.get b) ∧ σ.H.next ≤ σ₁.H.next := by
  obtain ⟨F, f1, f2, f3⟩ := m₁.res
  exact ⟨fun k b hb => (Nat.lt_or_ge b σ.H.next).elim (fun l => Decidable.byContradiction fun z => f2 k b hb ((f1.is b).mpr ⟨l, fun q => z (.inr q)⟩)) .inl, fun b l z => f1.eq b ((f1.is b).mpr ⟨l, z⟩), f1.le⟩
theorem unfoc {h' : HandS} {U' : List Letter} {js : HA} {o : SV} (F : FinOk w.S.hands.length (hsA i 0 w.as) ((hcs h).length + 2) ex h' U' s₁.cs js o) :
    ∃ a', Mt (MF R g) ad ⟨s.cs, s.loc, some (w.upd i h' U' a')⟩ (σ.setH σ₁.H) ∧ ∀ n b, n ∉ 0 :: 1 :: js.l → ad₁[n]? = some b → b ∉ (w.upd i h' U' a').l := by
  have e0 : ad₁[0]? = some w.f := x.at_ rfl
  have e1 : ad₁[1]? = some w.u := x.at_ rfl
  have e2 : ad₁[2]? = some a.r := x.at_ rfl
  obtain ⟨a', r', hr, al⟩ := F.hd.hr m₁
  rw [F.r2] at r'
  have r' : a'.r = a.r := Option.some.inj (r'.symm.trans e2)
  obtain ⟨fr1, fr2, fr3⟩ := unf_fr m hw hj ha hh X x m₁
  obtain ⟨fj, ff⟩ := m.folk hw hj
  have hi : i < w.as.length := (List.getElem?_eq_some_iff.mp ha).1
  have nd0 := foc_nd m hw hj ha X
  refine m.rep hw fun RW lt out => ?_
  have ess : ∀ b : HA, (w.as.set i b).flatMap HA.l = (w.as.take i).flatMap HA.l ++ (b.l ++ (w.as.drop (i + 1)).flatMap HA.l) := fun b => by
    rw [List.set_eq_take_append_cons_drop, if_pos hi, List.flatMap_append, List.flatMap_cons]
  have eo : w.as.flatMap HA.l = (w.as.take i).flatMap HA.l ++ (a.l ++ (w.as.drop (i + 1)).flatMap HA.l) := by
    have : w.as.set i a = w.as := by rw [← (List.getElem?_eq_some_iff.mp ha).2]; exact List.set_getElem_self hi
    rw [← ess, this]
  have N : (w.u :: w.as.flatMap HA.l).Nodup := RW.nd
  have lt : ∀ y ∈ w.u :: w.as.flatMap HA.l, y < σ.H.next := lt
  have fo : ∀ y ∈ w.u :: w.as.flatMap HA.l, y ≠ w.f := fun y hy e => out j _ fj (e ▸ hy)
  have es := ess a'
  have oth : ∀ (k : Nat) (b : HA), k ≠ i → w.as[k]? = some b → ∀ y ∈ b.l, y ∈ (w.as.take i).flatMap HA.l ∨ y ∈ (w.as.drop (i + 1)).flatMap HA.l := fun k b hk hb y hy => by
    rcases Nat.lt_or_gt_of_ne hk with l | l
    · exact .inl (List.mem_flatMap.mpr ⟨b, List.mem_of_getElem? (i := k) (by rw [List.getElem?_take, if_pos l]; exact hb), hy⟩)
    · exact .inr (List.mem_flatMap.mpr ⟨b, List.mem_of_getElem? (i := k - (i + 1)) (by rw [List.getElem?_drop, Nat.add_sub_cancel' l]; exact hb), hy⟩)
  rw [eo] at N lt fo
  generalize (w.as.take i).flatMap HA.l = A at es N lt fo eo oth
  generalize (w.as.drop (i + 1)).flatMap HA.l = B at es N lt fo eo oth
  obtain ⟨n1, N⟩ := List.nodup_cons.mp N
  obtain ⟨nA, nB, nAB⟩ := List.nodup_append.mp N
  obtain ⟨na, nB, naB⟩ := List.nodup_append.mp nB
  have hAB : ∀ y, (y ∈ A ∨ y ∈ B) → y < σ.H.next ∧ y ∉ w.ad a ex := fun y hy => by
    have q : y ∈ A ++ (a.l ++ B) := hy.elim (fun h => List.mem_append_left _ h) fun h => List.mem_append_right _ (List.mem_append_right _ h)
    refine ⟨lt y (.tail _ q), fun z => ?_⟩
    rcases List.mem_cons.mp z with z | z
    · exact fo y (.tail _ q) z
    rcases List.mem_cons.mp z with z | z
    · exact n1 (z ▸ q)
    rcases List.mem_append.mp z with z | z
    rotate_left
    · obtain ⟨p, _, hp, _, _⟩ := xlAt_out m hw X z
      have ob : y ∉ w.u :: w.as.flatMap HA.l := out p y hp
      rw [eo] at ob
      exact ob (.tail _ q)
    · exact hy.elim (fun h => nAB y h y (List.mem_append_left _ z) rfl) fun h => naB y z y h rfl
  have no : ∀ (k y : Nat), ad₁[k]? = some y → ¬ (y ∈ A ∨ y ∈ B) := fun k y hk hy => (fr1 k y hk).elim (fun q => absurd (hAB y hy).1 (Nat.not_lt.mpr q)) (hAB y hy).2
  obtain ⟨j0, jn⟩ := List.nodup_cons.mp F.nd
  obtain ⟨j1, jn⟩ := List.nodup_cons.mp jn
  have mem' : ∀ y, y ∈ (w.upd i h' U' a').l → y = w.u ∨ (y ∈ A ∨ y ∈ B) ∨ y ∈ a'.l := fun y hy => by
    have hy : y ∈ w.u :: (w.as.set i a').flatMap HA.l := hy
    rw [es] at hy
    rcases List.mem_cons.mp hy with z | z
    · exact .inl z
    rcases List.mem_append.mp z with z | z
    · exact .inr (.inl (.inl z))
    · exact (List.mem_append.mp z).elim (fun z => .inr (.inr z)) fun z => .inr (.inl (.inr z))
  have le : a.l.length = (hcs h).length := hcs_len (RW.hand i a h ha hh).o
  have eat : ∀ b, b ∈ exA ex → ad₁[(hcs h).length + 2]? = some b ∧ ∃ xs, ex = some (b, xs) ∧ at_ s₁.cs ((hcs h).length + 2) = some (.list xs) ∧ (hcs h).length + 2 ∉ js.l := fun b hb => by
    obtain ⟨p, xs, h1, h2, rfl⟩ := xlAt_out m hw X hb
    refine ⟨x.at_ ?_, xs, rfl, ?_⟩
    · show (a.l ++ [b])[(hcs h).length]? = some b
      rw [← le, List.getElem?_append_right (Nat.le_refl _), Nat.sub_self]; rfl
    · cases F.ex with
      | some q1 q2 => exact ⟨q1, q2⟩
  have exn : ∀ b, b ∈ exA ex → ∀ n, n ∈ js.l → ad₁[n]? = some b → False := fun b hb n hn hq => by
    obtain ⟨q1, xs, _, _, q2⟩ := eat b hb
    exact q2 (m₁.nd _ n b q1 hq ▸ hn)
  have un : w.u ∉ a'.l := fun z => (al.mem z).elim fun k q => j1 (m₁.nd 1 k _ e1 q.2 ▸ q.1)
  have fn : w.f ∉ a'.l := fun z => (al.mem z).elim fun k q => j0 (.tail _ (m₁.nd 0 k _ e0 q.2 ▸ q.1))
  have free : ∀ n b, n ∉ 0 :: 1 :: js.l → ad₁[n]? = some b → b ∉ (w.upd i h' U' a').l := fun n b hn hb z => by
    rcases mem' b z with z | z | z
    · exact hn (m₁.nd n 1 b hb (z ▸ e1) ▸ .tail _ (.head _))
    · exact no n b hb z
    · exact (al.mem z).elim fun k q => hn (m₁.nd n k b hb q.2 ▸ .tail _ (.tail _ q.1))
  have lt' : ∀ y, y ∈ (w.upd i h' U' a').l → y < σ₁.H.next := fun y hy => by
    rcases mem' y hy with z | z | z
    · exact z ▸ Nat.lt_of_lt_of_le (lt w.u (.head _)) fr3
    · exact Nat.lt_of_lt_of_le (hAB y z).1 fr3
    · exact (al.mem z).elim fun k q => m₁.lt k y q.2
  have out' : ∀ (k b : Nat), ad[k]? = some b → b ∉ (w.upd i h' U' a').l := fun k b hb z => by
    have ob : b ∉ w.u :: w.as.flatMap HA.l := out k b hb
    rw [eo] at ob
    rcases mem' b z with z | z | z
    · exact ob (z ▸ .head _)
    · exact ob (.tail _ (z.elim (fun h => List.mem_append_left _ h) fun h => List.mem_append_right _ (List.mem_append_right _ h)))
    · refine (al.mem z).elim fun n q => (fr1 n b q.2).elim (fun l => absurd (m.lt k b hb) (Nat.not_lt.mpr l)) fun l => ?_
      rcases List.mem_cons.mp l with l | l
      · exact fn (l ▸ z)
      rcases List.mem_cons.mp l with l | l
      · exact un (l ▸ z)
      rcases List.mem_append.mp l with l | l
      · exact ob (.tail _ (List.mem_append_right _ (List.mem_append_left _ l)))
      · exact exn b l n q.1 q.2
  have keep : ∀ (k b : Nat), ad[k]? = some b → b ≠ w.f → b ∉ exA ex → σ₁.H.get b = σ.H.get b := fun k b hb hf nex => fr2 b (m.lt k b hb) fun l => by
    have ob : b ∉ w.u :: w.as.flatMap HA.l := out k b hb
    rw [eo] at ob
    rcases List.mem_cons.mp l with l | l
    · exact hf l
    rcases List.mem_cons.mp l with l | l
    · exact ob (l ▸ .head _)
    rcases List.mem_append.mp l with l | l
    · exact ob (.tail _ (List.mem_append_right _ (List.mem_append_left _ l)))
    · exact nex l
  have sa : w.as.set i a = w.as := by rw [← (List.getElem?_eq_some_iff.mp ha).2]; exact List.set_getElem_self hi
  have ef : σ₁.H.get w.f = some (.inst 60 (folkF (w.upd i h' U' a'))) := by
    have q := m₁.instV F.c0 e0 (.cons rfl (.cons (congrArg mL (hsA_dn e2 fun n b e q => by
      have : n = i := (Nat.zero_add n).symm.trans e
      subst this
      rw [Option.some.inj (q.symm.trans ha)])) (.cons (dn_at e1) .nil)))
    rw [q]
    have q2 : (w.as.set i a').map (fun a => V.ref a.r) = w.as.map fun a => V.ref a.r := by
      rw [List.map_set, r', ← List.map_set (f := fun a : HA => V.ref a.r), sa]
    show _ = some (C.inst 60 [(18, .int (w.S.hands.set i h').length), (123, .lst ((w.as.set i a').map fun a => .ref a.r)), (124, .ref w.u)])
    rw [q2, List.length_set]
  have rx0 : ∀ y, R y → y ∉ w.ad a ex := fun y hy l => by
    obtain ⟨q1, q2, q3, q4⟩ := m.rx hw hy
    rcases List.mem_cons.mp l with l | l
    · exact q4 j (l ▸ fj)
    rcases List.mem_cons.mp l with l | l
    · exact q1 (l ▸ .head _)
    rcases List.mem_append.mp l with l | l
    · exact q1 (mem_l ha l)
    · obtain ⟨p, _, hp, _, _⟩ := xlAt_out m hw X l
      exact q4 p hp
  have rx2 : ∀ y, R y → σ₁.H.get y = g y := fun y hy => (fr2 y (m.rx hw hy).2.2.1 (rx0 y hy)).trans (m.rx hw hy).2.1
  have rx1 : ∀ y, R y → y ∉ (w.upd i h' U' a').l := fun y hy z => by
    obtain ⟨q1, q2, q3, q4⟩ := m.rx hw hy
    have q1 : y ∉ w.u :: w.as.flatMap HA.l := q1
    rw [eo] at q1
    rcases mem' y z with z | z | z
    · exact q1 (z ▸ .head _)
    · exact q1 (.tail _ (z.elim (fun h => List.mem_append_left _ h) fun h => List.mem_append_right _ (List.mem_append_right _ h)))
    · exact (al.mem z).elim fun n q => (fr1 n y q.2).elim (fun l => absurd q3 (Nat.not_lt.mpr l)) (rx0 y hy)
  refine ⟨a', ⟨m.len, fun k b c hb hc => ?_, m.nd, fun k b hb => Nat.lt_of_lt_of_le (m.lt k b hb) fr3, m.loc, fun y => y ∈ (w.upd i h' U' a').l ∨ R y, ⟨⟨m₁.list F.c1 e1, ?_, fun k b g hb hg => ?_, ?_⟩, fun _ => Iff.rfl, fun y hy => ⟨rx1 y hy, rx2 y hy⟩⟩, fun k b hb z => z.elim (out' k b hb) fun z => (m.rx hw z).2.2.2 k hb, fun y hy => hy.elim (lt' y) fun z => Nat.lt_of_lt_of_le (m.rx hw z).2.2.1 fr3⟩, free⟩
  · have kj : c ≠ .w 60 fs → b ≠ w.f := fun hne z => hne (by
      have := m.nd k j w.f (z ▸ hb) fj
      subst this
      exact Option.some.inj (hc.symm.trans hj))
    by_cases bx : b ∈ exA ex
    · obtain ⟨q1, xs, q2, q3, _⟩ := eat b bx
      obtain ⟨p, ys, h1, h2, h3⟩ := xlAt_out m hw X bx
      cases m.nd k p b hb h1
      cases hc.symm.trans h2
      have : ys = xs := by
        have := Option.some.inj (h3.symm.trans q2)
        exact congrArg Prod.snd this
      subst this
      exact .mk _ (m₁.list q3 q1) (.list _)
    cases m.cell k b c hb hc with
    | dead => exact .dead
    | mk d g r =>
      cases r with
      | list xs => exact .mk _ ((keep k b hb (kj fun z => nomatch z) bx).trans g) (.list xs)
      | dict r => exact .mk _ ((keep k b hb (kj fun z => nomatch z) bx).trans g) (.dict r)
      | inst r => exact .mk _ ((keep k b hb (kj fun z => nomatch z) bx).trans g) (.inst r)
      | w r =>
        cases r with
        | mk w₂ ho q1 q2 q3 q4 =>
          cases hw.symm.trans ho
          subst q1 q2
          exact .mk _ ef (.w ⟨_, rfl, rfl, rfl, by rw [q3]; show _ = [(18, V.int (w.S.hands.set i h').length)]; rw [List.length_set], rfl⟩)
  · show (w.as.set i a').length = (w.S.hands.set i h').length
    rw [List.length_set, List.length_set]; exact RW.len
  · have hb : (w.as.set i a')[k]? = some b := hb
    have hg : (w.S.hands.set i h')[k]? = some g := hg
    rw [List.getElem?_set] at hb hg
    by_cases e : i = k
    · rw [if_pos e, if_pos (e ▸ hi)] at hb
      rw [if_pos e, if_pos (by rw [← RW.len]; exact hi)] at hg
      rw [← Option.some.inj hb, ← Option.some.inj hg]; exact hr
    · rw [if_neg e] at hb hg
      exact (RW.hand k b g hb hg).keep fun y hy => have q := hAB y (oth k b (fun z => e z.symm) hb y hy); fr2 y q.1 q.2
  · show (w.u :: (w.as.set i a').flatMap HA.l).Nodup
    rw [es]
    refine List.nodup_cons.mpr ⟨fun z => ?_, List.nodup_append.mpr ⟨nA, List.nodup_append.mpr ⟨al.nodup m₁.nd jn, nB, fun y hy z hz e => ?_⟩, fun y hy z hz e => ?_⟩⟩
    · exact (List.mem_append.mp z).elim (fun z => n1 (List.mem_append_left _ z)) fun z => (List.mem_append.mp z).elim un fun z => n1 (List.mem_append_right _ (List.mem_append_right _ z))
    · exact (al.mem hy).elim fun k q => no k y q.2 (.inr (e ▸ hz))
    · subst e
      exact (List.mem_append.mp hz).elim (fun z => (al.mem z).elim fun k q => no k y q.2 (.inl hy)) fun z => nAB y hy y (List.mem_append_right _ z) rfl
end
end Mine

end

section
set_option autoImplicit false
set_option linter.all false
set_option genSizeOf false
set_option genInjectivity false
namespace Mine
open PySem (Str)

/-- a cell that nobody knew is known -/
theorem Mt.add {Ω : Type} {M : MEnv Ω} {ad : List Nat} {s : Sy Ω} {σ : St} (m : Mt M ad s σ) {b : Nat} {c : SC} (F : Nat → Prop) (f1 : M.I s.w σ.H F) (f2 : ∀ (j a : Nat), ad[j]? = some a → ¬ F a) (f3 : ∀ a, F a → a < σ.H.next)
    (hb : b < σ.H.next) (ho : ∀ j : Nat, ad[j]? ≠ some b) (hF : ¬ F b) (hc : CA (M.Is s.w) (ad ++ [b]) σ.H b c) : Mt M (ad ++ [b]) (s.new c) σ := by
  have hx : ∀ {i a}, (ad ++ [b])[i]? = some a → (ad[i]? = some a) ∨ (i = ad.length ∧ a = b) := fun {i a} h => by
    rw [List.getElem?_append] at h
    by_cases q : i < ad.length
    · rw [if_pos q] at h; exact .inl h
    · rw [if_neg q] at h
      have z : i - ad.length = 0 := Nat.lt_one_iff.mp (List.getElem?_eq_some_iff.mp h).1
      rw [z] at h
      exact .inr ⟨Nat.le_antisymm (Nat.sub_eq_zero_iff_le.mp z) (Nat.le_of_not_lt q), (Option.some.inj h).symm⟩
  refine ⟨?_, fun i a d ha hd => ?_, fun i j a hi hj => ?_, fun j a hj => (hx hj).elim (m.lt j a) fun q => q.2 ▸ hb, fun i sv h => (m.loc i sv h).imp fun v q => ⟨dn_mono ⟨_, rfl⟩ q.1, q.2⟩, F, f1, fun j a hj => (hx hj).elim (f2 j a) fun q => q.2 ▸ hF, f3⟩
  · show _ = (s.cs ++ [c]).length
    rw [List.length_append, List.length_append, m.len]; rfl
  · have hd : Mine.at_ (s.cs ++ [c]) i = some d := hd
    rw [at_eq] at hd
    rcases hx ha with q | ⟨rfl, rfl⟩
    · rw [List.getElem?_append_left (by rw [← m.len]; exact (List.getElem?_eq_some_iff.mp q).1)] at hd
      cases m.cell i a d q (by rw [at_eq]; exact hd) with
      | dead => exact .dead
      | mk c2 q1 q2 => exact .mk c2 q1 (q2.mono ⟨_, rfl⟩)
    · rw [List.getElem?_append_right (by rw [m.len]; exact Nat.le_refl _), m.len, Nat.sub_self] at hd
      rw [← Option.some.inj hd]; exact hc
  · rcases hx hi with q | q <;> rcases hx hj with q' | q'
    · exact m.nd i j a q q'
    · exact absurd (q'.2 ▸ q) (ho i)
    · exact absurd (q.2 ▸ q') (ho j)
    · exact q.1.trans q'.1.symm

/-- what a deed gives back: data, a new list, a pair of data and a new list -/
inductive RV where
  | v (x : V)
  | new (xs : List V)
noncomputable def giveR {Ω : Type} (r : RV) (s : Sy Ω) (k : SV → Sy Ω → Prop) : Prop := match r with
  | .v x => k (.v x) s
  | .new xs => newS s (.list xs) fun n s' => k (.s n) s'
theorem giveR_new {Ω : Type} {xs : List V} {s : Sy Ω} {k : SV → Sy Ω → Prop} (h : giveR (.new xs) s k) : k (.s s.nx) (s.new (.list xs)) := newS_ok (k := fun n s' => k (.s n) s') h
/-- a cell that is none of the folk's -/
structure New (h : HandS) (ex : Exl) (js : HA) (n : Nat) : Prop where
  le : (hcs h).length + 2 + (exA ex).length ≤ n
  out : n ∉ 0 :: 1 :: js.l
inductive ResIn (h : HandS) (ex : Exl) (js : HA) (cs : List SC) : SV → RV → Prop
  | v (x : V) : ResIn h ex js cs (.v x) (.v x)
  | new {n : Nat} {xs : List V} : at_ cs n = some (.list xs) → New h ex js n → ResIn h ex js cs (.s n) (.new xs)
inductive FinV (m : Int) (hs : List SA) (ex : Exl) (h : HandS) (G : RV → HandS → List Letter → Prop) (r : SV) (s : Sy Unit) : Prop
  | mk {h' : HandS} {U' : List Letter} {js : HA} {o : SV} {rv : RV} (fin : FinOk m hs ((hcs h).length + 2) ex h' U' s.cs js o) (res : ResIn h ex js s.cs r rv) (g : G rv h' U')
theorem DnL_v {ad : List Nat} : ∀ (vs : List V), DnL ad (vs.map .v) vs
  | [] => .nil
  | _ :: r => .cons rfl (DnL_v r)
theorem set_same {α : Type} {l : List α} {i : Nat} {x : α} (h : l[i]? = some x) : l.set i x = l :=
  (List.getElem?_eq_some_iff.mp h).elim fun hi e => by rw [← e]; exact List.set_getElem_self hi
section
variable {R : Nat → Prop} {g : Nat → Option C} {ad : List Nat} {s : Sy (Option FolkW)} {σ : St} (m : Mt (MF R g) ad s σ) {w : FolkW} (hw : s.w = some w)
  {j : Nat} {fs : List (Nat × V)} (hj : at_ s.cs j = some (.w 60 fs)) {i : Nat} {a : HA} {h : HandS} (ha : w.as[i]? = some a) (hh : w.S.hands[i]? = some h) {ex : Exl} (X : XlAt ad s.cs ex)
include m hw hj ha hh X
theorem unf_add {ad₁ : List Nat} {s₁ : Sy Unit} {σ₁ : St} (x : Ext (w.ad a ex) ad₁) (m₁ : Mt (MFr σ.H (w.ad a ex)) ad₁ s₁ σ₁) {w' : FolkW} (m' : Mt (MF R g) ad ⟨s.cs, s.loc, some w'⟩ (σ.setH σ₁.H)) {js : HA} (free : ∀ n b, n ∉ 0 :: 1 :: js.l → ad₁[n]? = some b → b ∉ w'.l)
    {n b : Nat} {c : SC} (hb : ad₁[n]? = some b) (hn : New h ex js n) (hc : ∀ ad', CA ((MF R g).Is (some w')) ad' σ₁.H b c) : Mt (MF R g) (ad ++ [b]) ⟨s.cs ++ [c], s.loc, some w'⟩ (σ.setH σ₁.H) := by
  obtain ⟨fr1, _, _⟩ := unf_fr m hw hj ha hh X x m₁
  have key : b < σ.H.next → False := fun lk => by
    refine (fr1 n b hb).elim (fun l => Nat.not_lt.mpr l lk) fun l => ?_
    obtain ⟨p, hp⟩ := List.getElem?_of_mem l
    have := m₁.nd p n b (x.at_ hp) hb
    subst this
    have hl : p < (w.ad a ex).length := (List.getElem?_eq_some_iff.mp hp).1
    have q : (w.ad a ex).length = (hcs h).length + 2 + (exA ex).length := m.rep hw fun R _ _ => by
      show (a.l ++ exA ex).length + 2 = _
      rw [List.length_append, hcs_len (R.hand i a h ha hh).o, Nat.add_right_comm]
    exact Nat.lt_irrefl _ (Nat.lt_of_lt_of_le (q ▸ hl) hn.le)
  exact m'.rep rfl fun RW lt out => m'.add (fun y => y ∈ w'.l ∨ R y) ⟨RW, fun _ => Iff.rfl, fun y hy => ⟨(m'.rx rfl hy).1, (m'.rx rfl hy).2.1⟩⟩ (fun k a hk z => z.elim (out k a hk) fun z => (m'.rx rfl z).2.2.2 k hk) (fun y z => z.elim (lt y) fun z => (m'.rx rfl z).2.2.1) (m₁.lt n b hb) (fun k hk => key (m.lt k b hk)) (fun z => z.elim (free n b hn.out hb) fun z => key (m.rx hw z).2.2.1) (hc _)
theorem meth_foc {P : Prog} {sp : Spc Unit} (hs : ∀ M : MEnv Unit, SpOk M P sp) {d f : Nat} (n : Nat) {as : List SV} {vs : List V} (hvs : DnL (w.ad a ex) as vs) {G : RV → HandS → List Letter → Prop} {k : SV → Sy (Option FolkW) → Prop} {Q : V → Hp → Prop}
    (run : callX P sp d f (.s 0 :: as) ⟨fcs w.S.hands.length (hsA i 0 w.as) w.S.under (hcs h ++ exC ex), [], ()⟩ (FinV w.S.hands.length (hsA i 0 w.as) ex h G))
    (hG : ∀ rv h' U', G rv h' U' → ∀ w' : FolkW, w'.S = ⟨w.S.hands.set i h', U'⟩ → giveR rv ⟨s.cs, s.loc, some w'⟩ k)
    (hk : PW (MF R g) DV ad k (fun v σ' => σ'.loc = σ.loc → Q v σ'.H)) : CW P (d + n) f (.ref w.f :: vs) σ.H Q := by
  have hk' : PW (MFr σ.H (w.ad a ex)) DV (w.ad a ex) (FinV w.S.hands.length (hsA i 0 w.as) ex h G) (fun v σ' => σ'.loc = σ.loc → Q v σ'.H) := fun r s₁ ad₁ σ₁ v x m₁ dv z e => by
    cases z with
    | mk fin res g =>
      obtain ⟨a', m', free⟩ := unfoc m hw hj ha hh X x m₁ fin
      have hg := hG _ _ _ g (w.upd i _ _ a') rfl
      cases res with
      | v y => exact hk (.v y) _ ad (σ.setH σ₁.H) _ (.refl _) m' dv hg rfl
      | new hc hn =>
        obtain ⟨b, hb, rfl⟩ := mR_e dv
        have m'' := unf_add m hw hj ha hh X x m₁ m' free hb hn fun _ => .mk _ (m₁.list hc hb) (.list _)
        exact hk _ _ _ (σ.setH σ₁.H) _ ⟨_, rfl⟩ m'' (dn_at (by show (ad ++ [b])[s.cs.length]? = _; rw [← m.len, List.getElem?_append_right (Nat.le_refl _), Nat.sub_self]; rfl)) (giveR_new hg) rfl
  exact callX_ok (hs _) n d f _ _ _ _ ⟨σ.H, σ.loc⟩ _ Q run (foc_mt m hw hj ha hh X σ.loc) (.cons rfl hvs) hk'
end
end Mine

end

section
set_option autoImplicit false
set_option linter.all false
set_option genSizeOf false
set_option genInjectivity false
namespace Mine
open PySem (Str)
/-! Tables of what is known of defs. -/
abbrev Sr (Ω : Type) := List SV → Sy Ω → (SV → Sy Ω → Prop) → Prop
noncomputable def spL {Ω : Type} (l : List (Nat × (Nat × Sr Ω))) : Spc Ω := fun f => lk l f
section
variable {Ω : Type} {M : MEnv Ω} {P : Prog}
/-- what is known of one def holds -/
noncomputable def EnOk (M : MEnv Ω) (P : Prog) (f d : Nat) (r : Sr Ω) : Prop := ∀ n, CallOk M (fun g as s k => g = f ∧ r as s k) (CW P (d + n))
theorem SpOk.nil : SpOk M P (spL []) := fun f d r h => nomatch h
theorem SpOk.cons {l : List (Nat × (Nat × Sr Ω))} {f d : Nat} {r : Sr Ω} (e : EnOk M P f d r) (h : SpOk M P (spL l)) : SpOk M P (spL ((f, d, r) :: l)) := fun g d' r' q =>
  cond_e (show cond (Nat.beq f g) (some (d, r)) (lk l g) = some (d', r') from q) (fun q1 q2 => by cases Nat.eq_of_beq_eq_true q1; cases q2; exact e) fun _ q2 => h g d' r' q2
theorem EnOk.run {sp : Spc Ω} (hs : SpOk M P sp) {f d : Nat} {r : Sr Ω} (h : ∀ as s k, r as s k → callX P sp d f as s k) : EnOk M P f d r := fun n g as s k ad σ vs Q q => by
  obtain ⟨rfl, q⟩ := q
  exact callX_ok hs n d g as s k ad σ vs Q (h as s k q)
/-- the heap grows -/
theorem Mt.grow {ad : List Nat} {s : Sy Ω} {σ : St} (m : Mt M ad s σ) {H' : Hp} (e : ∀ x, x < σ.H.next → H'.get x = σ.H.get x) (l : σ.H.next ≤ H'.next) : Mt M ad s (σ.setH H') :=
  ⟨m.len, fun j a c ha hc => by
    cases m.cell j a c ha hc with
    | dead => exact .dead
    | mk d g r => exact .mk d ((e a (m.lt j a ha)).trans g) r, m.nd, fun j a ha => Nat.lt_of_lt_of_le (m.lt j a ha) l, m.loc, m.res.imp fun F f => ⟨M.keep _ _ _ _ f.1 (fun x hx => e x (f.2.2 x hx)) l, f.2.1, fun x hx => Nat.lt_of_lt_of_le (f.2.2 x hx) l⟩⟩
inductive ResP (cs : List SC) : SV → RV → Prop
  | v (x : V) : ResP cs (.v x) (.v x)
  | new {n : Nat} {xs : List V} : at_ cs n = some (.list xs) → ResP cs (.s n) (.new xs)
inductive FinP (G : RV → Prop) (r : SV) (s : Sy Unit) : Prop
  | mk {rv : RV} (res : ResP s.cs r rv) (g : G rv)
theorem mt0 (H : Hp) (lo : Loc) : Mt (MFr H []) [] ⟨[], [], ()⟩ ⟨H, lo⟩ := ⟨rfl, fun j a c h => (nomatch h), fun i j a h => (nomatch h), fun j a h => (nomatch h), fun i sv h => (nomatch h), fun x => x < H.next ∧ x ∉ [], ⟨fun _ => Iff.rfl, fun _ _ => rfl, Nat.le_refl _⟩, fun j a h => (nomatch h), fun a h => h.1⟩
/-- a def that knows nothing of the caller's things -/
theorem fun_foc {ad : List Nat} {s : Sy Ω} {σ : St} (m : Mt M ad s σ) {sp : Spc Unit} (hs : ∀ M : MEnv Unit, SpOk M P sp) {d f : Nat} (n : Nat) {vs : List V} {G : RV → Prop} {k : SV → Sy Ω → Prop} {Q : V → Hp → Prop}
    (run : callX P sp d f (vs.map .v) ⟨[], [], ()⟩ (FinP G)) (hG : ∀ rv, G rv → giveR rv s k) (hk : PW M DV ad k (fun v σ' => σ'.loc = σ.loc → Q v σ'.H)) : CW P (d + n) f vs σ.H Q := by
  refine callX_ok (hs (MFr σ.H [])) n d f _ _ _ [] ⟨σ.H, σ.loc⟩ vs Q run (mt0 _ _) (DnL_v vs) fun r s₁ ad₁ σ₁ v x m₁ dv z e => ?_
  obtain ⟨F, f1, f2, f3⟩ := m₁.res
  have hF : ∀ y, y < σ.H.next → F y := fun y l => (f1.is y).mpr ⟨l, fun h => nomatch h⟩
  have m' : Mt M ad s (σ.setH σ₁.H) := m.grow (fun y l => f1.eq y (hF y l)) f1.le
  cases z with
  | mk res g =>
    have hg := hG _ g
    cases res with
    | v y => exact hk (.v y) _ ad (σ.setH σ₁.H) _ (.refl _) m' dv hg rfl
    | new hc =>
      obtain ⟨b, hb, rfl⟩ := mR_e dv
      obtain ⟨F', g1, g2, g3⟩ := m.res
      have lb : ¬ b < σ.H.next := fun l => f2 _ b hb (hF b l)
      have m'' := m'.add F' (M.keep _ _ _ _ g1 (fun y hy => f1.eq y (hF y (g3 y hy))) f1.le) g2 (fun y hy => Nat.lt_of_lt_of_le (g3 y hy) f1.le) (m₁.lt _ b hb) (fun k hk => lb (m.lt k b hk)) (fun z => lb (g3 b z)) (c := .list _) (.mk _ (m₁.list hc hb) (.list _))
      exact hk _ _ _ (σ.setH σ₁.H) _ ⟨_, rfl⟩ m'' (dn_at (by show (ad ++ [b])[s.cs.length]? = _; rw [← m.len, List.getElem?_append_right (Nat.le_refl _), Nat.sub_self]; rfl)) (giveR_new hg) rfl
end
end Mine

end

section
set_option autoImplicit false
set_option linter.all false
namespace Mine
open PySem (Str)
noncomputable def s_wish : Str := ⟨#[119, 105, 115, 104]⟩
noncomputable def s_enter : Str := ⟨#[101, 110, 116, 101, 114]⟩
noncomputable def s_hold : Str := ⟨#[104, 111, 108, 100]⟩
noncomputable def s_have : Str := ⟨#[104, 97, 118, 101]⟩
noncomputable def s_take : Str := ⟨#[116, 97, 107, 101]⟩
noncomputable def s_prepare : Str := ⟨#[112, 114, 101, 112, 97, 114, 101]⟩
noncomputable def s_promise : Str := ⟨#[112, 114, 111, 109, 105, 115, 101]⟩
noncomputable def s_accept : Str := ⟨#[97, 99, 99, 101, 112, 116]⟩
noncomputable def s_empty : Str := ⟨#[]⟩
noncomputable def s_x : Str := ⟨#[97, 98, 99, 100, 101, 102, 103, 104, 105, 106, 107, 108, 109, 110, 111, 112, 113, 114, 115, 116, 117, 118, 119, 120, 121, 122, 123, 124, 125, 126]⟩
noncomputable def s_x2 : Str := ⟨#[32, 33, 34, 35, 36, 38, 39, 40, 41, 42, 43, 44, 45, 46, 47, 48, 49, 50, 51, 52, 53, 54, 55, 56, 57, 58, 59, 60, 61, 62, 63, 64, 65, 66, 67, 68, 69, 70, 71, 72, 73, 74, 75, 76, 77, 78, 79, 80, 81, 82, 83, 84, 85, 86, 87, 88, 89, 90, 91, 92, 93, 94, 95]⟩
noncomputable def F_whole : Fn := ⟨[16], (.cons (.ret (.some (.and (.cons (.call true (.glob 42) (.cons (.loc 16) (.cons (.glob 43) .nil))) (.cons (.not (.call true (.glob 42) (.cons (.loc 16) (.cons (.glob 47) .nil)))) .nil)))))
  .nil)⟩
noncomputable def F_enough : Fn := ⟨[17], (.cons (.ret (.some (.bin true .add (.bin true .fdiv (.call true (.glob 46) (.cons (.loc 17) .nil)) (.cst (.int 2))) (.cst (.int 1)))))
  .nil)⟩
noncomputable def L_is_list_1 : PSs := (.cons (.ite (.or (.cons (.not (.e (.call true (.glob 5) (.cons (.loc 20) .nil)))) (.cons (.e (.cmp .le (.loc 20) (.loc 19))) (.cons (.e (.cmp .ge (.loc 20) (.loc 18))) .nil)))) (.cons (.ret (.some (.cst (.bool false))))
  .nil) .nil)
  (.cons (.assign (.loc 19) (.loc 20))
  .nil))
noncomputable def F_is_list : Fn := ⟨[16, 18], (.cons (.ite (.or (.cons (.not (.e (.call true (.glob 42) (.cons (.loc 16) (.cons (.glob 41) .nil))))) (.cons (.e (.cmp .eq (.call true (.glob 46) (.cons (.loc 16) .nil)) (.cst (.int 0)))) .nil))) (.cons (.ret (.some (.cst (.bool false))))
  .nil) .nil)
  (.cons (.assign (.loc 19) (.neg (.cst (.int 1))))
  (.cons (.loop [20] (.loc 16) L_is_list_1)
  (.cons (.ret (.some (.cst (.bool true))))
  .nil))))⟩
noncomputable def F_Hand___init__ : Fn := ⟨[108, 109], (.cons (.assign (.attr (.loc 108) 109) (.loc 109))
  (.cons (.assign (.attr (.loc 108) 110) (.cst .none))
  (.cons (.assign (.attr (.loc 108) 111) (.neg (.cst (.int 1))))
  (.cons (.assign (.attr (.loc 108) 17) (.list true .nil))
  (.cons (.assign (.attr (.loc 108) 112) (.cst (.int 0)))
  (.cons (.assign (.attr (.loc 108) 113) (.cst (.bool true)))
  (.cons (.assign (.attr (.loc 108) 114) (.list false .nil))
  (.cons (.assign (.attr (.loc 108) 115) (.cst .none))
  (.cons (.expr (.meth true (.loc 108) 66 .nil))
  .nil)))))))))⟩
noncomputable def F_Hand_begin : Fn := ⟨[108], (.cons (.assign (.attr (.loc 108) 23) (.list false .nil))
  (.cons (.assign (.attr (.loc 108) 116) (.cst (.int 0)))
  (.cons (.assign (.attr (.loc 108) 117) (.cst (.bool false)))
  (.cons (.assign (.attr (.loc 108) 118) (.tup (.cons (.cst (.int 0)) (.cons (.neg (.cst (.int 1))) .nil))))
  (.cons (.assign (.attr (.loc 108) 119) (.cst .none))
  (.cons (.assign (.attr (.loc 108) 120) (.cst .none))
  (.cons (.assign (.attr (.loc 108) 121) .dict)
  .nil)))))))⟩
noncomputable def F_Hand_goes_into : Fn := ⟨[108, 110, 17, 115], (.cons (.expr (.meth true (.loc 108) 66 .nil))
  (.cons (.assign (.attr (.loc 108) 110) (.loc 110))
  (.cons (.assign (.attr (.loc 108) 17) (.call true (.glob 41) (.cons (.loc 17) .nil)))
  (.cons (.assign (.attr (.loc 108) 115) (.loc 115))
  (.cons (.ite (.e (.cmp .isNot (.loc 110) (.cst .none))) (.cons (.assign (.attr (.loc 108) 111) (.loc 110))
  .nil) .nil)
  .nil)))))⟩
noncomputable def F_Hand_others : Fn := ⟨[108], (.cons (.ret (.some (.comp true (.loc 20) [20] (.attr (.loc 108) 17) (.some (.e (.cmp .ne (.loc 20) (.attr (.loc 108) 109)))))))
  .nil)⟩
noncomputable def L_Hand_held_by_enough_1 : PSs := (.cons (.expr (.meth true (.loc 143) 0 (.cons (.meth true (.attr (.loc 108) 121) 3 (.cons (.loc 20) (.cons (.cst (.int 0)) .nil))) .nil)))
  .nil)
noncomputable def F_Hand_held_by_enough : Fn := ⟨[108], (.cons (.assign (.loc 143) (.list false (.cons (.call true (.glob 46) (.cons (.attr (.loc 108) 23) .nil)) .nil)))
  (.cons (.loop [20] (.meth true (.loc 108) 68 .nil) L_Hand_held_by_enough_1)
  (.cons (.ret (.some (.idx (.sortedRev true 150 (.loc 143)) (.bin true .sub (.call true (.glob 6) (.cons (.attr (.loc 108) 17) .nil)) (.cst (.int 1))))))
  .nil)))⟩
noncomputable def L_Folk___init___1 : PSs := (.cons (.expr (.meth true (.idx (.attr (.loc 108) 123) (.loc 109)) 67 (.cons (.cst (.int 0)) (.cons (.loc 122) (.cons (.cst .none) .nil)))))
  .nil)
noncomputable def F_Folk___init__ : Fn := ⟨[108, 18, 122], (.cons (.ite (.or (.cons (.not (.e (.call true (.glob 5) (.cons (.loc 18) .nil)))) (.cons (.e (.cmp .lt (.loc 18) (.cst (.int 1)))) (.cons (.e (.cmp .gt (.loc 18) (.glob 71))) .nil)))) (.cons .raise
  .nil) .nil)
  (.cons (.ite (.not (.e (.call true (.glob 7) (.cons (.loc 122) (.cons (.loc 18) .nil))))) (.cons .raise
  .nil) .nil)
  (.cons (.assign (.attr (.loc 108) 18) (.loc 18))
  (.cons (.assign (.attr (.loc 108) 123) (.comp true (.call true (.glob 59) (.cons (.loc 109) .nil)) [109] (.call true (.glob 44) (.cons (.loc 18) .nil)) .none))
  (.cons (.assign (.attr (.loc 108) 124) (.list false .nil))
  (.cons (.loop [109] (.loc 122) L_Folk___init___1)
  .nil))))))⟩
noncomputable def F_Folk_hand_of : Fn := ⟨[108, 20], (.cons (.ite (.or (.cons (.not (.e (.call true (.glob 5) (.cons (.loc 20) .nil)))) (.cons (.e (.cmp .lt (.loc 20) (.cst (.int 0)))) (.cons (.e (.cmp .ge (.loc 20) (.attr (.loc 108) 18))) .nil)))) (.cons .raise
  .nil) .nil)
  (.cons (.ret (.some (.idx (.attr (.loc 108) 123) (.loc 20))))
  .nil))⟩
noncomputable def F_Folk_able : Fn := ⟨[108, 20], (.cons (.assign (.loc 125) (.meth true (.loc 108) 72 (.cons (.loc 20) .nil)))
  (.cons (.ite (.not (.e (.attr (.loc 125) 113))) (.cons .raise
  .nil) .nil)
  (.cons (.ite (.e (.cmp .is (.attr (.loc 125) 110) (.cst .none))) (.cons .raise
  .nil) .nil)
  (.cons (.ret (.some (.loc 125)))
  .nil))))⟩
noncomputable def F_Folk_inside : Fn := ⟨[108, 20], (.cons (.assign (.loc 125) (.meth true (.loc 108) 72 (.cons (.loc 20) .nil)))
  (.cons (.ite (.e (.cmp .is (.attr (.loc 125) 110) (.cst .none))) (.cons .raise
  .nil) .nil)
  (.cons (.ret (.some (.loc 125)))
  .nil)))⟩
noncomputable def L_Folk_send_1 : PSs := (.cons (.expr (.meth true (.attr (.loc 108) 124) 0 (.cons (.tup (.cons (.loc 126) (.cons (.attr (.loc 125) 109) (.cons (.loc 20) (.cons (.attr (.loc 125) 110) (.cons (.loc 128) .nil)))))) .nil)))
  .nil)
noncomputable def F_Folk_send : Fn := ⟨[108, 126, 125, 127, 128], (.cons (.loop [20] (.loc 127) L_Folk_send_1)
  .nil)⟩
noncomputable def F_Folk_say : Fn := ⟨[108, 20, 126], (.cons (.assign (.loc 125) (.meth true (.loc 108) 73 (.cons (.loc 20) .nil)))
  (.cons (.assign (.loc 131) (.tup (.cons (.loc 20) (.cons (.attr (.loc 125) 112) (.cons (.loc 126) .nil)))))
  (.cons (.augAttr (.loc 125) 112 .add (.cst (.int 1)))
  (.cons (.expr (.meth true (.loc 108) 75 (.cons (.cst (.str s_wish)) (.cons (.loc 125) (.cons (.sl true (.attr (.loc 125) 17) .none (.some (.cst (.int 1)))) (.cons (.loc 131) .nil))))))
  .nil))))⟩
noncomputable def F_Folk_fall : Fn := ⟨[108, 20], (.cons (.assign (.loc 125) (.meth true (.loc 108) 72 (.cons (.loc 20) .nil)))
  (.cons (.ite (.not (.e (.attr (.loc 125) 113))) (.cons .raise
  .nil) .nil)
  (.cons (.assign (.attr (.loc 125) 113) (.cst (.bool false)))
  .nil)))⟩
noncomputable def F_Folk_letter_at : Fn := ⟨[108, 110], (.cons (.ite (.or (.cons (.not (.e (.call true (.glob 5) (.cons (.loc 110) .nil)))) (.cons (.e (.cmp .lt (.loc 110) (.cst (.int 0)))) (.cons (.e (.cmp .ge (.loc 110) (.call true (.glob 46) (.cons (.attr (.loc 108) 124) .nil)))) .nil)))) (.cons .raise
  .nil) .nil)
  (.cons (.ret (.some (.idx (.attr (.loc 108) 124) (.loc 110))))
  .nil))⟩
noncomputable def F_Folk_come : Fn := ⟨[108, 110], (.cons (.assign (.tup [126, 130, 127, 109, 128]) (.meth true (.loc 108) 81 (.cons (.loc 110) .nil)))
  (.cons (.expr (.meth true (.attr (.loc 108) 124) 1 (.cons (.loc 110) .nil)))
  (.cons (.assign (.loc 125) (.idx (.attr (.loc 108) 123) (.loc 127)))
  (.cons (.ite (.not (.e (.attr (.loc 125) 113))) (.cons (.ret .none)
  .nil) .nil)
  (.cons (.ite (.e (.cmp .eq (.loc 126) (.cst (.str s_enter)))) (.cons (.expr (.meth true (.loc 108) 94 (.cons (.loc 125) (.cons (.loc 128) .nil))))
  .nil) (.cons (.ite (.and (.cons (.e (.cmp .isNot (.attr (.loc 125) 110) (.cst .none))) (.cons (.e (.cmp .eq (.attr (.loc 125) 110) (.loc 109))) .nil))) (.cons (.expr (.meth true (.loc 108) 86 (.cons (.loc 126) (.cons (.loc 125) (.cons (.loc 130) (.cons (.loc 128) .nil))))))
  .nil) .nil)
  .nil))
  .nil)))))⟩
noncomputable def L_Folk_calm_1 : PSs := (.cons (.expr (.meth true (.loc 108) 84 (.cons (.cst (.int 0)) .nil)))
  (.cons (.augLoc 18 .add (.cst (.int 1)))
  .nil))
noncomputable def F_Folk_calm : Fn := ⟨[108], (.cons (.assign (.loc 18) (.cst (.int 0)))
  (.cons (.while_ (.e (.attr (.loc 108) 124)) L_Folk_calm_1)
  (.cons (.ret (.some (.loc 18)))
  .nil)))⟩
noncomputable def F_Folk_taken_up : Fn := ⟨[108, 126, 125, 130, 128], (.cons (.ite (.e (.cmp .eq (.loc 126) (.cst (.str s_wish)))) (.cons (.expr (.meth true (.loc 108) 87 (.cons (.loc 125) (.cons (.loc 128) .nil))))
  .nil) (.cons (.ite (.e (.cmp .eq (.loc 126) (.cst (.str s_hold)))) (.cons (.expr (.meth true (.loc 108) 88 (.cons (.loc 125) (.cons (.loc 130) (.cons (.loc 128) .nil)))))
  .nil) (.cons (.ite (.e (.cmp .eq (.loc 126) (.cst (.str s_have)))) (.cons (.assign (.idx (.attr (.loc 125) 121) (.loc 130)) (.call true (.glob 151) (.cons (.loc 128) (.cons (.meth true (.attr (.loc 125) 121) 3 (.cons (.loc 130) (.cons (.cst (.int 0)) .nil))) .nil))))
  (.cons (.expr (.meth true (.loc 108) 89 (.cons (.loc 125) .nil)))
  .nil)) (.cons (.ite (.e (.cmp .eq (.loc 126) (.cst (.str s_take)))) (.cons (.assign (.attr (.loc 125) 116) (.call true (.glob 151) (.cons (.attr (.loc 125) 116) (.cons (.call true (.glob 154) (.cons (.loc 128) (.cons (.call true (.glob 46) (.cons (.attr (.loc 125) 23) .nil)) .nil))) .nil))))
  .nil) (.cons (.ite (.e (.cmp .eq (.loc 126) (.cst (.str s_prepare)))) (.cons (.expr (.meth true (.loc 108) 90 (.cons (.loc 125) (.cons (.loc 130) (.cons (.loc 128) .nil)))))
  .nil) (.cons (.ite (.e (.cmp .eq (.loc 126) (.cst (.str s_promise)))) (.cons (.expr (.meth true (.loc 108) 91 (.cons (.loc 125) (.cons (.loc 130) (.cons (.loc 128) .nil)))))
  .nil) (.cons (.ite (.e (.cmp .eq (.loc 126) (.cst (.str s_accept)))) (.cons (.expr (.meth true (.loc 108) 92 (.cons (.loc 125) (.cons (.loc 130) (.cons (.loc 128) .nil)))))
  .nil) (.cons (.expr (.meth true (.loc 108) 93 (.cons (.loc 125) (.cons (.loc 130) (.cons (.loc 128) .nil)))))
  .nil))
  .nil))
  .nil))
  .nil))
  .nil))
  .nil))
  .nil))
  .nil)⟩
noncomputable def F_Folk_wished : Fn := ⟨[108, 125, 131], (.cons (.ite (.or (.cons (.e (.attr (.loc 125) 117)) (.cons (.e (.cmp .isIn (.loc 131) (.attr (.loc 125) 23))) .nil))) (.cons (.ret .none)
  .nil) .nil)
  (.cons (.expr (.meth true (.attr (.loc 125) 23) 0 (.cons (.loc 131) .nil)))
  (.cons (.expr (.meth true (.loc 108) 75 (.cons (.cst (.str s_hold)) (.cons (.loc 125) (.cons (.meth true (.loc 125) 68 .nil) (.cons (.tup (.cons (.loc 131) (.cons (.bin true .sub (.call true (.glob 46) (.cons (.attr (.loc 125) 23) .nil)) (.cst (.int 1))) .nil))) .nil))))))
  (.cons (.expr (.meth true (.loc 108) 89 (.cons (.loc 125) .nil)))
  .nil))))⟩
noncomputable def F_Folk_held : Fn := ⟨[108, 125, 130, 128], (.cons (.assign (.tup [131, 110]) (.loc 128))
  (.cons (.ite (.or (.cons (.e (.attr (.loc 125) 117)) (.cons (.e (.cmp .gt (.loc 110) (.call true (.glob 46) (.cons (.attr (.loc 125) 23) .nil)))) .nil))) (.cons (.ret .none)
  .nil) .nil)
  (.cons (.ite (.e (.cmp .eq (.loc 110) (.call true (.glob 46) (.cons (.attr (.loc 125) 23) .nil)))) (.cons (.expr (.meth true (.attr (.loc 125) 23) 0 (.cons (.loc 131) .nil)))
  .nil) .nil)
  (.cons (.expr (.meth true (.loc 108) 75 (.cons (.cst (.str s_have)) (.cons (.loc 125) (.cons (.list true (.cons (.loc 130) .nil)) (.cons (.call true (.glob 46) (.cons (.attr (.loc 125) 23) .nil)) .nil))))))
  .nil))))⟩
noncomputable def F_Folk_look : Fn := ⟨[108, 125], (.cons (.assign (.loc 18) (.meth true (.loc 125) 69 .nil))
  (.cons (.ite (.e (.cmp .gt (.loc 18) (.attr (.loc 125) 116))) (.cons (.assign (.attr (.loc 125) 116) (.loc 18))
  (.cons (.expr (.meth true (.loc 108) 75 (.cons (.cst (.str s_take)) (.cons (.loc 125) (.cons (.meth true (.loc 125) 68 .nil) (.cons (.loc 18) .nil))))))
  .nil)) .nil)
  .nil))⟩
noncomputable def F_Folk_letters : Fn := ⟨[108], (.cons (.ret (.some (.comp false (.sl true (.loc 134) .none (.some (.cst (.int 3)))) [134] (.attr (.loc 108) 124) .none)))
  .nil)⟩
noncomputable def F_Folk_list_of : Fn := ⟨[108, 20], (.cons (.assign (.loc 125) (.meth true (.loc 108) 74 (.cons (.loc 20) .nil)))
  (.cons (.ret (.some (.tup (.cons (.attr (.loc 125) 110) (.cons (.call true (.glob 41) (.cons (.attr (.loc 125) 17) .nil)) .nil)))))
  .nil))⟩
noncomputable def F_Folk_taken : Fn := ⟨[108, 20], (.cons (.assign (.loc 125) (.meth true (.loc 108) 74 (.cons (.loc 20) .nil)))
  (.cons (.ret (.some (.call false (.glob 41) (.cons (.sl true (.attr (.loc 125) 23) .none (.some (.attr (.loc 125) 116))) .nil))))
  .nil))⟩
noncomputable def F_Folk_is_still : Fn := ⟨[108, 20], (.cons (.ret (.some (.attr (.meth true (.loc 108) 74 (.cons (.loc 20) .nil)) 117)))
  .nil)⟩
noncomputable def F__law_draw : Fn := ⟨[24, 25], (.cons (.ret (.some (.ite (.e (.cmp .gt (.call true (.glob 46) (.cons (.loc 24) .nil)) (.loc 25))) (.idx (.loc 24) (.loc 25)) (.cst (.int 0)))))
  .nil)⟩
noncomputable def F__law_is_number : Fn := ⟨[26], (.cons (.ite (.or (.cons (.e (.cmp .is (.loc 26) (.cst (.bool true)))) (.cons (.e (.cmp .is (.loc 26) (.cst (.bool false)))) .nil))) (.cons (.ret (.some (.cst (.bool false))))
  .nil) .nil)
  (.cons (.ret (.some (.call true (.glob 42) (.cons (.loc 26) (.cons (.glob 43) .nil)))))
  .nil))⟩
noncomputable def L__law_hands_1 : PSs := (.cons (.ite (.e (.cmp .eq (.bin true .mod (.loc 27) (.cst (.int 2))) (.cst (.int 1)))) (.cons (.expr (.meth true (.loc 26) 0 (.cons (.loc 29) .nil)))
  .nil) .nil)
  (.cons (.assign (.loc 27) (.bin true .fdiv (.loc 27) (.cst (.int 2))))
  .nil))
noncomputable def F__law_hands : Fn := ⟨[27, 28], (.cons (.assign (.loc 26) (.list false .nil))
  (.cons (.loop [29] (.call true (.glob 44) (.cons (.loc 28) .nil)) L__law_hands_1)
  (.cons (.ret (.some (.loc 26)))
  .nil)))⟩
noncomputable def L__law_word_1 : PSs := (.cons (.assign (.loc 138) (.bin true .add (.loc 138) (.idx (.loc 132) (.bin true .mod (.bin true .add (.bin true .fdiv (.loc 137) (.cst (.int 4))) (.bin true .mul (.bin true .mul (.cst (.int 31)) (.loc 25)) (.loc 25))) (.call true (.glob 46) (.cons (.loc 132) .nil))))))
  .nil)
noncomputable def F__law_word : Fn := ⟨[137], (.cons (.assign (.loc 132) (.cst (.str s_x2)))
  (.cons (.assign (.loc 132) (.bin true .add (.loc 132) (.cst (.str s_x))))
  (.cons (.assign (.loc 138) (.cst (.str s_empty)))
  (.cons (.loop [25] (.call true (.glob 44) (.cons (.bin true .mod (.loc 137) (.cst (.int 4))) .nil)) L__law_word_1)
  (.cons (.ret (.some (.loc 138)))
  .nil)))))⟩
noncomputable def F__law_said : Fn := ⟨[106, 29, 139, 140, 13], (.cons (.ite (.e (.cmp .isIn (.loc 29) (.loc 140))) (.cons (.assign (.loc 138) (.call true (.glob 135) (.cons (.loc 139) .nil)))
  (.cons (.ite (.e (.cmp .isNot (.meth true (.loc 106) 76 (.cons (.loc 29) (.cons (.loc 138) .nil))) (.cst .none))) (.cons (.ret (.some (.cst (.bool false))))
  .nil) .nil)
  (.cons (.expr (.meth true (.loc 13) 0 (.cons (.tup (.cons (.loc 29) (.cons (.call true (.glob 46) (.cons (.comp true (.loc 153) [153] (.loc 13) (.some (.e (.cmp .eq (.idx (.loc 153) (.cst (.int 0))) (.loc 29))))) .nil)) (.cons (.loc 138) .nil)))) .nil)))
  .nil))) .nil)
  (.cons (.ite (.e (.cmp .eq (.bin true .mod (.loc 139) (.cst (.int 2))) (.cst (.int 1)))) (.cons (.expr (.meth true (.loc 106) 85 .nil))
  .nil) .nil)
  (.cons (.ret (.some (.cst (.bool true))))
  .nil)))⟩
noncomputable def L_law_1 : PSs := (.cons (.ite (.e (.cmp .notIn (.loc 29) (.loc 140))) (.cons (.expr (.meth true (.loc 106) 80 (.cons (.loc 29) .nil)))
  .nil) .nil)
  .nil)
noncomputable def L_law_2 : PSs := (.cons (.ite (.not (.e (.call true (.glob 136) (.cons (.loc 106) (.cons (.idx (.loc 105) (.bin true .mod (.loc 137) (.call true (.glob 46) (.cons (.loc 105) .nil)))) (.cons (.bin true .fdiv (.loc 137) (.cst (.int 9))) (.cons (.loc 140) (.cons (.loc 13) .nil)))))))) (.cons (.ret (.some (.cst (.bool false))))
  .nil) .nil)
  .nil)
noncomputable def L_law_3 : PSs := (.cons (.assign (.loc 26) (.meth false (.loc 106) 98 (.cons (.loc 29) .nil)))
  (.cons (.ite (.or (.cons (.not (.e (.call true (.glob 42) (.cons (.loc 26) (.cons (.glob 41) .nil))))) (.cons (.e (.cmp .ne (.loc 26) (.loc 13))) .nil))) (.cons (.ret (.some (.cst (.bool false))))
  .nil) .nil)
  (.cons (.expr (.meth true (.loc 26) 0 (.cons (.cst (.int 1)) .nil)))
  (.cons (.ite (.or (.cons (.e (.cmp .ne (.meth true (.loc 106) 98 (.cons (.loc 29) .nil)) (.loc 13))) (.cons (.e (.cmp .isNot (.meth true (.loc 106) 99 (.cons (.loc 29) .nil)) (.cst (.bool false)))) (.cons (.e (.cmp .ne (.meth true (.loc 106) 97 (.cons (.loc 29) .nil)) (.tup (.cons (.cst (.int 0)) (.cons (.loc 105) .nil))))) .nil)))) (.cons (.ret (.some (.cst (.bool false))))
  .nil) .nil)
  .nil))))
noncomputable def S_law_0 : PS := (.assign (.loc 28) (.bin true .add (.cst (.int 1)) (.bin true .mod (.call true (.glob 9) (.cons (.loc 24) (.cons (.cst (.int 0)) .nil))) (.cst (.int 9)))))
noncomputable def S_law_1 : PS := (.assign (.loc 105) (.call true (.glob 11) (.cons (.bin true .add (.cst (.int 1)) (.call true (.glob 9) (.cons (.loc 24) (.cons (.cst (.int 1)) .nil)))) (.cons (.loc 28) .nil))))
noncomputable def S_law_2 : PS := (.ite (.e (.cmp .eq (.loc 105) (.list true .nil))) (.cons (.assign (.loc 105) (.list true (.cons (.bin true .sub (.loc 28) (.cst (.int 1))) .nil)))
  .nil) .nil)
noncomputable def S_law_3 : PS := (.assign (.loc 106) (.call true (.glob 60) (.cons (.loc 28) (.cons (.call true (.glob 41) (.cons (.loc 105) .nil)) .nil))))
noncomputable def S_law_4 : PS := (.assign (.loc 140) (.call true (.glob 41) (.cons (.loc 105) .nil)))
noncomputable def S_law_5 : PS := (.ite (.e (.cmp .eq (.bin true .mod (.call true (.glob 9) (.cons (.loc 24) (.cons (.cst (.int 2)) .nil))) (.cst (.int 2))) (.cst (.int 1)))) (.cons (.assign (.loc 140) (.comp true (.idx (.loc 105) (.loc 25)) [25] (.call true (.glob 44) (.cons (.call true (.glob 46) (.cons (.loc 105) .nil)) .nil)) (.some (.e (.cmp .gt (.bin true .mod (.bin true .fdiv (.call true (.glob 9) (.cons (.loc 24) (.cons (.cst (.int 2)) .nil))) (.bin true .add (.cst (.int 2)) (.loc 25))) (.cst (.int 3))) (.cst (.int 0)))))))
  (.cons (.loop [29] (.loc 105) L_law_1)
  .nil)) .nil)
noncomputable def S_law_6 : PS := (.assign (.loc 13) (.list false .nil))
noncomputable def S_law_7 : PS := (.loop [137] (.sl true (.loc 24) (.some (.cst (.int 3))) (.some (.cst (.int 14)))) L_law_2)
noncomputable def S_law_8 : PS := (.assign (.loc 141) (.call true (.glob 46) (.cons (.meth true (.loc 106) 95 .nil) .nil)))
noncomputable def S_law_9 : PS := (.assign (.loc 142) (.meth true (.loc 106) 85 .nil))
noncomputable def S_law_10 : PS := (.ite (.or (.cons (.not (.e (.call true (.glob 10) (.cons (.loc 142) .nil)))) (.cons (.e (.cmp .lt (.loc 142) (.loc 141))) (.cons (.e (.cmp .ne (.meth true (.loc 106) 95 .nil) (.list true .nil))) (.cons (.e (.cmp .ne (.meth true (.loc 106) 85 .nil) (.cst (.int 0)))) .nil))))) (.cons (.ret (.some (.cst (.bool false))))
  .nil) .nil)
noncomputable def S_law_11 : PS := (.ite (.or (.cons (.e (.cmp .notIn (.idx (.loc 105) (.cst (.int 0))) (.loc 140))) (.cons (.e (.cmp .le (.bin true .mul (.cst (.int 2)) (.call true (.glob 46) (.cons (.loc 140) .nil))) (.call true (.glob 46) (.cons (.loc 105) .nil)))) .nil))) (.cons (.assign (.loc 13) (.list false .nil))
  .nil) .nil)
noncomputable def S_law_12 : PS := (.loop [29] (.loc 140) L_law_3)
noncomputable def S_law_13 : PS := (.ret (.some (.cst (.bool true))))
noncomputable def F_law : Fn := ⟨[24], (.cons S_law_0 (.cons S_law_1 (.cons S_law_2 (.cons S_law_3 (.cons S_law_4 (.cons S_law_5 (.cons S_law_6 (.cons S_law_7 (.cons S_law_8 (.cons S_law_9 (.cons S_law_10 (.cons S_law_11 (.cons S_law_12 (.cons S_law_13 .nil))))))))))))))⟩
noncomputable def tb : Tb where
  nms := [(0, "append"), (1, "pop"), (2, "extend"), (3, "get"), (4, "setdefault"), (5, "whole"), (6, "enough"), (7, "is_list"), (9, "_law_draw"), (10, "_law_is_number"), (11, "_law_hands"), (13, "_law_due"), (14, "law"), (16, "thing"), (17, "members"), (18, "many"), (19, "ahead"), (20, "hand"), (23, "row"), (24, "_law_script"), (25, "_law_k"), (26, "_law_found"), (27, "_law_bits"), (28, "_law_many"), (29, "_law_hand"), (41, "list"), (42, "isinstance"), (43, "int"), (44, "range"), (46, "len"), (47, "bool"), (52, "BadHand"), (53, "BadList"), (54, "NoLetter"), (55, "Fallen"), (56, "Outside"), (59, "Hand"), (60, "Folk"), (65, "__init__"), (66, "begin"), (67, "goes_into"), (68, "others"), (69, "held_by_enough"), (71, "MOST"), (72, "hand_of"), (73, "able"), (74, "inside"), (75, "send"), (76, "say"), (80, "fall"), (81, "letter_at"), (84, "come"), (85, "calm"), (86, "taken_up"), (87, "wished"), (88, "held"), (89, "look"), (90, "prepared"), (91, "promised"), (92, "accepted"), (93, "agreed_to"), (94, "entered"), (95, "letters"), (97, "list_of"), (98, "taken"), (99, "is_still"), (105, "_law_first"), (106, "_law_folk"), (108, "self"), (109, "number"), (110, "place"), (111, "highest"), (112, "said"), (113, "up"), (114, "gone"), (115, "news"), (116, "took"), (117, "still"), (118, "ballot"), (119, "agreed"), (120, "offer"), (121, "holds"), (122, "first"), (123, "hands"), (124, "under"), (125, "one"), (126, "word"), (127, "to"), (128, "content"), (130, "sender"), (131, "message"), (132, "_law_some"), (134, "letter"), (135, "_law_word"), (136, "_law_said"), (137, "_law_cell"), (138, "_law_word_here"), (139, "_law_more"), (140, "_law_up"), (141, "_law_waits"), (142, "_law_came"), (143, "counts"), (150, "sorted"), (151, "max"), (153, "_law_message"), (154, "min")].map fun x => (x.1, Str.ofString x.2)
  fns := [(5, .g "whole", F_whole),
    (6, .g "enough", F_enough),
    (7, .g "is_list", F_is_list),
    (237, .m "Hand" "__init__", F_Hand___init__),
    (238, .m "Hand" "begin", F_Hand_begin),
    (239, .m "Hand" "goes_into", F_Hand_goes_into),
    (240, .m "Hand" "others", F_Hand_others),
    (241, .m "Hand" "held_by_enough", F_Hand_held_by_enough),
    (243, .m "Folk" "__init__", F_Folk___init__),
    (244, .m "Folk" "hand_of", F_Folk_hand_of),
    (245, .m "Folk" "able", F_Folk_able),
    (246, .m "Folk" "inside", F_Folk_inside),
    (247, .m "Folk" "send", F_Folk_send),
    (248, .m "Folk" "say", F_Folk_say),
    (249, .m "Folk" "fall", F_Folk_fall),
    (250, .m "Folk" "letter_at", F_Folk_letter_at),
    (251, .m "Folk" "come", F_Folk_come),
    (252, .m "Folk" "calm", F_Folk_calm),
    (253, .m "Folk" "taken_up", F_Folk_taken_up),
    (254, .m "Folk" "wished", F_Folk_wished),
    (255, .m "Folk" "held", F_Folk_held),
    (256, .m "Folk" "look", F_Folk_look),
    (262, .m "Folk" "letters", F_Folk_letters),
    (264, .m "Folk" "list_of", F_Folk_list_of),
    (265, .m "Folk" "taken", F_Folk_taken),
    (266, .m "Folk" "is_still", F_Folk_is_still),
    (9, .g "_law_draw", F__law_draw),
    (10, .g "_law_is_number", F__law_is_number),
    (11, .g "_law_hands", F__law_hands),
    (135, .g "_law_word", F__law_word),
    (136, .g "_law_said", F__law_said),
    (14, .g "law", F_law)]
  globs := [(5, .fn 5), (6, .fn 6), (7, .fn 7), (9, .fn 9), (10, .fn 10), (11, .fn 11), (135, .fn 135), (136, .fn 136), (14, .fn 14), (59, .cls 59), (60, .cls 60), (71, .int 9), (43, .bt .int), (47, .bt .bool), (41, .bt .list), (44, .bt .range), (46, .bt .len), (42, .bt .isinstance), (151, .bt .max), (154, .bt .min), (150, .bt .sorted)]
  clss := [(59, "Hand", ⟨some 237, [(66, 238), (67, 239), (68, 240), (69, 241)], [109, 110, 111, 17, 112, 113, 114, 115, 23, 116, 117, 118, 119, 120, 121]⟩),
    (60, "Folk", ⟨some 243, [(72, 244), (73, 245), (74, 246), (75, 247), (76, 248), (80, 249), (81, 250), (84, 251), (85, 252), (86, 253), (87, 254), (88, 255), (89, 256), (95, 262), (97, 264), (98, 265), (99, 266)], [18, 123, 124]⟩)]
  nAppend := 0
  nPop := 1
  nGet := 3
end Mine

end

section
set_option autoImplicit false
set_option linter.all false
set_option genSizeOf false
set_option genInjectivity false
namespace Mine
open PySem (Str)
noncomputable def dr (is : List Int) (k : Nat) : Int := is.getD k 0
section
variable {Ω : Type} {M : MEnv Ω}
noncomputable def drawR : Sr Ω := fun as s k => ∃ (is : List Int) (n : Nat), as = [.v (.lst (is.map .int)), .v (.int n)] ∧ k (.v (.int (dr is n))) s
theorem pyIdx_nat {n m : Nat} (h : n < m) : pyIdx (n : Int) m = some n := by
  unfold pyIdx
  rw [if_pos (Int.natCast_nonneg n), if_pos (Int.ofNat_lt.mpr h), Int.toNat_natCast]
theorem draw_e : EnOk M tb.P 9 1 drawR := EnOk.run SpOk.nil fun as s k h => by
  obtain ⟨is, n, rfl, h⟩ := h
  refine Br_i (fun c => ?_) (fun c => ?_)
  · have c : n < (is.map V.int).length := by have := of_decide_eq_true c; omega
    refine need_i (pyIdx_nat c) ?_
    rw [List.length_map] at c
    refine need_i (a := .int (dr is n)) (by rw [List.getElem?_map, List.getElem?_eq_getElem c]; unfold dr; rw [List.getD_eq_getElem?_getD, List.getElem?_eq_getElem c]; rfl) ?_
    exact h
  · have c : ¬ n < (is.map V.int).length := by have := of_decide_eq_false c; omega
    rw [List.length_map] at c
    have : dr is n = 0 := by unfold dr; rw [List.getD_eq_getElem?_getD, List.getElem?_eq_none (by omega)]; rfl
    rw [this] at h
    exact h
theorem lk_self {α : Type} {i : Nat} {v : α} : ∀ (l : List (Nat × α)), lk (st l i v) i = some v
  | [] => cond_t beq_t
  | p :: r => by
    show lk (cond (Nat.beq p.1 i) ((p.1, v) :: r) (p :: st r i v)) i = _
    cases q : Nat.beq p.1 i with
    | true => exact cond_t q
    | false => exact (cond_f q).trans (lk_self r)
theorem DnL_u {ad : List Nat} : ∀ {vs ws : List V}, DnL ad (vs.map .v) ws → ws = vs
  | [], _, h => by cases h; rfl
  | _ :: _, _, h => by
    cases h with
    | cons d h => rw [DnL_u h, Option.some.inj d]
/-- a def of data, by a run of its own -/
theorem EnOk.fn {P : Prog} {sp : Spc Unit} (hs : ∀ M : MEnv Unit, SpOk M P sp) {f d : Nat} {r : Sr Ω} (h : ∀ as s k, r as s k → ∃ (vs : List V) (G : RV → Prop), as = vs.map .v ∧ callX P sp d f (vs.map .v) ⟨[], [], ()⟩ (FinP G) ∧ ∀ rv, G rv → giveR rv s k) : EnOk M P f d r := fun n g as s k ad σ vs Q q m dl hk => by
  obtain ⟨rfl, q⟩ := q
  obtain ⟨ws, G, rfl, run, hG⟩ := h as s k q
  rw [DnL_u dl]
  exact fun_foc m hs n run hG hk
noncomputable def handsF : Nat → Int → Int → List Int
  | 0, _, _ => []
  | n + 1, b, k => cond (decide (Int.fmod b 2 = 1)) [k] [] ++ handsF n (Int.fdiv b 2) (k + 1)
noncomputable def handsR : Sr Ω := fun as s k => ∃ (b : Int) (n : Nat), n ≤ 100 ∧ as = [.v (.int b), .v (.int n)] ∧ newS s (.list (iV (handsF n b 0))) fun n s' => k (.s n) s'
theorem rngN_nat (n : Nat) : (n : Int).toNat = n := Int.toNat_natCast n
inductive HandsI (n : Nat) (b : Int) (r : List V) (s : Sy Unit) : Prop
  | mk (j : Nat) (b' k : Int) (acc : List Int) (t : List (Nat × SV)) (hr : r = rngL k j) (ha : acc ++ handsF j b' k = handsF n b 0) (hs : s = ⟨[.list (iV acc)], (27, .v (.int b')) :: (28, .v (.int n)) :: (26, .s 0) :: t, ()⟩) (hl : acc.length + j ≤ 100)
theorem hands_e : EnOk M tb.P 11 1 handsR := EnOk.fn (fun _ => SpOk.nil) fun as s k h => by
  obtain ⟨b, n, hn, rfl, h⟩ := h
  refine ⟨[.int b, .int n], fun rv => rv = .new (iV (handsF n b 0)), rfl, ?_, fun rv e => e ▸ h⟩
  refine ⟨Nat.zero_le _, ?_⟩
  refine ⟨by show ((n : Int)).natAbs ≤ 1048576; omega, ?_⟩
  refine .mk (HandsI n b) ⟨n, b, 0, [], [], by rw [rngN_nat], rfl, rfl, by show 0 + n ≤ 100; omega⟩ ⟨fun r s' i => rfl, fun s' i => ?_, fun x r s' i => ?_⟩
  · obtain ⟨j, b', k', acc, t, hr, ha, rfl, hl⟩ := i
    cases j with
    | zero => 
      rw [show handsF 0 b' k' = [] from rfl, List.append_nil] at ha
      exact .mk (.new rfl) (by rw [ha])
    | succ j => cases hr
  · obtain ⟨j, b', k', acc, t, hr, ha, rfl, hl⟩ := i
    cases j with
    | zero => cases hr
    | succ j =>
      cases hr
      refine bind1_i ?_
      refine ⟨by decide, ?_⟩
      have ha : acc ++ (cond (decide (Int.fmod b' 2 = 1)) [k'] [] ++ handsF j (Int.fdiv b' 2) (k' + 1)) = handsF n b 0 := ha
      refine Br_i (fun c => ?_) (fun c => ?_)
      · rw [show decide (Int.fmod b' 2 = 1) = true from c, ← List.append_assoc] at ha
        refine need_i (lk_self t) ?_
        refine ⟨by show (iV acc).length < 1048576; unfold iV; rw [List.length_map]; omega, ?_⟩
        refine ⟨by decide, ?_⟩
        exact ⟨j, _, _, acc ++ [k'], _, rfl, ha, by unfold iV; rw [List.map_append]; rfl, by rw [List.length_append]; show acc.length + 1 + j ≤ 100; omega⟩
      · rw [show decide (Int.fmod b' 2 = 1) = false from c] at ha
        refine ⟨by decide, ?_⟩
        exact ⟨j, _, _, acc, _, rfl, ha, rfl, by omega⟩
end
end Mine

end

section
set_option autoImplicit false
set_option linter.all false
set_option genSizeOf false
set_option genInjectivity false
namespace Mine
open PySem (Str)
/-- a list among the things at hand -/
inductive LstIn {Ω : Type} (s : Sy Ω) : SV → List V → Prop
  | v (xs : List V) : LstIn s (.v (.lst xs)) xs
  | s {n : Nat} {xs : List V} : at_ s.cs n = some (.list xs) → LstIn s (.s n) xs
section
variable {Ω : Type} {M : MEnv Ω} {s : Sy Ω} {a : SV} {xs : List V} (h : LstIn s a xs) (l : List (Nat × SV))
include h
theorem LstIn.kd : kindS ⟨s.cs, l, s.w⟩ a = some .list := by
  cases h with
  | v => rfl
  | s h => show (match at_ s.cs _ with | some (.list _) => some Kd.list | _ => none) = _; rw [h]
theorem LstIn.len : lenS ⟨s.cs, l, s.w⟩ a = some xs.length := by
  cases h with
  | v => rfl
  | s h => show (match at_ s.cs _ with | some (.list xs) => some xs.length | _ => none) = _; rw [h]
theorem LstIn.its : itemsS ⟨s.cs, l, s.w⟩ a = some xs := by
  cases h with
  | v => rfl
  | s h => show (match at_ s.cs _ with | some (.list xs) => some xs | _ => none) = _; rw [h]
theorem LstIn.see : seeS ⟨s.cs, l, s.w⟩ a = some (.lst xs) := by
  cases h with
  | v => rfl
  | s h => show mL (scL (at_ s.cs _)) = _; rw [h]; rfl
end
noncomputable def isIB : V → Bool
  | .int _ => true
  | _ => false
/-- rising numbers, above a and below m -/
noncomputable def ris (m : Int) : Int → List V → Bool
  | _, [] => true
  | a, x :: r => match x with
    | .int x => cond (decide (x ≤ a)) false (cond (decide (m ≤ x)) false (ris m x r))
    | _ => false
noncomputable def okL (m : Int) (xs : List V) : Bool := cond xs.isEmpty false (ris m (-1) xs)
section
variable {Ω : Type} {M : MEnv Ω}
inductive IslR (as : List SV) (s : Sy Ω) (k : SV → Sy Ω → Prop) : Prop
  | lst {a : SV} {xs : List V} (m : Int) (he : as = [a, .v (.int m)]) (h : LstIn s a xs) (hx : xs.all isIB = true) (hk : k (.v (.bool (okL m xs))) s)
inductive IslI (s : Sy Ω) (a : SV) (m : Int) (xs : List V) (r : List V) (s' : Sy Ω) : Prop
  | mk (b : Int) (t : List (Nat × SV)) (hs : s' = ⟨s.cs, (16, a) :: (18, .v (.int m)) :: (19, .v (.int b)) :: t, s.w⟩) (hx : r.all isIB = true) (hr : ris m b r = ris m (-1) xs)
theorem isl_e : EnOk M tb.P 7 2 IslR := EnOk.run SpOk.nil fun as s k h => by
  cases h with
  | @lst a xs m he h hx hk =>
    subst he
    refine need_i (h.kd _) (need_i rfl (need_i rfl ?_))
    refine need_i (h.len _) ?_
    refine Br_i (fun c => ?_) (fun c => ?_)
    · cases xs with
      | nil => exact hk
      | cons x r => exact absurd (of_decide_eq_true (p := ((r.length + 1 : Nat) : Int) = 0) c) (by omega)
    · have e : okL m xs = ris m (-1) xs := by
        cases xs with
        | nil => cases c
        | cons x r => rfl
      rw [e] at hk
      refine need_i (h.its _) ?_
      refine .mk (IslI s a m xs) ⟨-1, [], rfl, hx, rfl⟩ ⟨fun r s' i => ?_, fun s' i => ?_, fun x r s' i => ?_⟩
      · obtain ⟨b, t, rfl, _, _⟩ := i
        exact h.its _
      · obtain ⟨b, t, rfl, _, hr⟩ := i
        rw [← hr] at hk
        exact hk
      · obtain ⟨b, t, rfl, hx, hr⟩ := i
        rw [List.all_cons, Bool.and_eq_true] at hx
        refine bind1_i ?_
        refine need_i (lk_self t) ?_
        cases x with
        | int x =>
          have hr : cond (decide (x ≤ b)) false (cond (decide (m ≤ x)) false (ris m x r)) = ris m (-1) xs := hr
          refine need_i (lk_self t) ?_
          refine Br_i (fun c => ?_) (fun c => ?_)
          · rw [show decide (x ≤ b) = true from c] at hr
            rw [← hr] at hk; exact hk
          rw [show decide (x ≤ b) = false from c] at hr
          refine need_i (lk_self t) ?_
          refine Br_i (fun c => ?_) (fun c => ?_)
          · rw [show decide (m ≤ x) = true from c] at hr
            rw [← hr] at hk; exact hk
          rw [show decide (m ≤ x) = false from c] at hr
          refine need_i (lk_self t) ?_
          exact ⟨x, _, rfl, hx.2, hr⟩
        | _ => cases hx.1
end
end Mine

end

section
set_option autoImplicit false
set_option linter.all false
set_option genSizeOf false
set_option genInjectivity false
namespace Mine
open PySem (Str)
/-- a hand in no list; a hand of the first list -/
noncomputable def hand0 (k : Int) : HandS := ⟨k, none, -1, [], 0, true, [], none, [], 0, false, (0, -1), none, none, []⟩
noncomputable def hand1 (k : Int) (fi : List Int) : HandS := ⟨k, some 0, 0, fi, 0, true, [], none, [], 0, false, (0, -1), none, none, []⟩
theorem mt1 {H : Hp} {r : Nat} {c : SC} {d : C} (lo : Loc) (hr : H.get r = some d) (hc : CR (fun _ _ _ => False) [r] c d) (hl : r < H.next) : Mt (MFr H [r]) [r] ⟨[c], [], ()⟩ ⟨H, lo⟩ := by
  refine ⟨rfl, fun j a e h q => ?_, fun i j a h q => ?_, fun j a h => ?_, fun i sv h => (nomatch h), fun x => x < H.next ∧ x ∉ [r], ⟨fun _ => Iff.rfl, fun _ _ => rfl, Nat.le_refl _⟩, fun j a h z => z.2 (List.mem_of_getElem? h), fun a h => h.1⟩
  · cases j with
    | zero => cases h; cases q; exact .mk _ hr hc
    | succ j => cases h
  · cases i with
    | zero =>
      cases j with
      | zero => rfl
      | succ j => cases q
    | succ i => cases h
  · cases j with
    | zero => cases h; exact hl
    | succ j => cases h
/-- what a new hand is in the heap -/
structure NewHand (H : Hp) (r : Nat) (h : HandS) (a : HA) (H' : Hp) : Prop where
  isr : a.r = r
  hr : HR H' h a
  ge : ∀ y ∈ a.l, y = r ∨ H.next ≤ y
  lt : ∀ y ∈ a.l, y < H'.next
  nd : a.l.Nodup
  eq : ∀ x, x < H.next → x ≠ r → H'.get x = H.get x
  le : H.next ≤ H'.next
theorem hinit_w (n r : Nat) (k : Int) (H : Hp) (Q : V → Hp → Prop) (hr : H.get r = some (.inst 59 [])) (hl : r < H.next) (h : ∀ H' a, NewHand H r (hand0 k) a H' → Q .none H') : CW tb.P (n + 2) 237 [.ref r, .int k] H Q := by
  rw [Nat.add_comm]
  refine callX_ok (M := MFr H [r]) (sp := spL []) SpOk.nil n 2 237 [.s 0, .v (.int k)] ⟨[.inst 59 []], [], ()⟩ (fun x s' => x = .v .none ∧ s'.cs = [handC (hand0 k) 1 2 3 (.v .none), .list [], .list [], .dict []]) [r] ⟨H, fun _ => none⟩ _ Q ?_ (mt1 _ hr (.inst .nil) hl) (.cons rfl (.cons rfl .nil)) fun x s₁ ad₁ σ₁ v xt m₁ dv z _ => ?_
  · refine ⟨Nat.zero_le _, ?_⟩
    refine ⟨Nat.zero_le _, ?_⟩
    refine ⟨Nat.zero_le _, ?_⟩
    exact ⟨rfl, rfl⟩
  · obtain ⟨rfl, hc⟩ := z
    cases dv
    obtain ⟨F, f1, f2, f3⟩ := m₁.res
    have hi : HandIn s₁.cs (hand0 k) ⟨0, 1, 2, 3, none⟩ (.v .none) := by rw [hc]; exact ⟨rfl, rfl, rfl, rfl, .none⟩
    obtain ⟨a, h0, hr', al⟩ := hi.hr m₁
    have e0 : ad₁[0]? = some r := xt.at_ rfl
    have ar : a.r = r := Option.some.inj (h0.symm.trans e0)
    refine h _ a ⟨ar, hr', fun y hy => (al.mem hy).elim fun j q => ?_, fun y hy => (al.mem hy).elim fun j q => m₁.lt j y q.2, al.nodup m₁.nd (by decide), fun x l ne => f1.eq x ((f1.is x).mpr ⟨l, fun z => ne (List.mem_singleton.mp z)⟩), f1.le⟩
    exact (Nat.lt_or_ge y H.next).elim (fun l => .inl (Decidable.byContradiction fun ne => f2 j y q.2 ((f1.is y).mpr ⟨l, fun z => ne (List.mem_singleton.mp z)⟩))) .inr
/-- the hands that are made -/
structure Made (lo : Nat) (H : Hp) (as : List HA) : Prop where
  hand : ∀ (k : Nat) (a : HA), as[k]? = some a → HR H (hand0 k) a
  nd : (as.flatMap HA.l).Nodup
  ge : ∀ y ∈ as.flatMap HA.l, lo ≤ y
  lt : ∀ y ∈ as.flatMap HA.l, y < H.next
theorem made {K : CT} (hI : ∀ (r : Nat) (k : Int) (H : Hp) (Q : V → Hp → Prop), H.get r = some (.inst 59 []) → r < H.next → (∀ H' a, NewHand H r (hand0 k) a H' → Q .none H') → K 237 [.ref r, .int k] H Q) (lo : Nat) (v : V) (all : List V) (Q : List V → St → Prop) (j : Nat) : ∀ (k : Nat) (as : List HA) (σ : St) (acc xs : List V), xs = rngL k j → acc = as.map (fun a => .ref a.r) → (∀ H, still v all H) → as.length = k → k + j ≤ 100 → Made lo σ.H as → lo ≤ σ.H.next →
    (∀ (as' : List HA) (σ' : St), as'.length = k + j → Made lo σ'.H as' → (∀ x, x < lo → σ'.H.get x = σ.H.get x) → σ.H.next ≤ σ'.H.next → Q (as'.map fun a => .ref a.r) σ') →
    compGo (fun σ₂ k => wpC tb.P K .none σ₂ k) (fun σ₂ k => wpE tb.P K (.call true (.glob 59) (.cons (.loc 109) .nil)) σ₂ k) [109] (still v all) xs acc σ Q := by
  induction j with
  | zero =>
    intro k as σ acc xs e ea hs hl hz M l h
    subst e ea
    exact ⟨hs _, by rw [List.length_map, hl]; exact Nat.le_trans hz (by decide), h as σ hl M (fun _ _ => rfl) (Nat.le_refl _)⟩
  | succ j ih =>
    intro k as σ acc xs e ea hs hl hz M l h
    subst e ea
    refine ⟨hs _, by rw [List.length_map, hl]; exact Nat.lt_of_lt_of_le (by omega : k < 101) (by decide), ?_⟩
    refine hI σ.H.next k (σ.H.new (.inst 59 [])) _ (if_pos rfl) (Nat.lt_succ_self _) fun H' a N => ⟨rfl, ?_⟩
    have old : ∀ x, x < σ.H.next → H'.get x = σ.H.get x := fun x lx => (N.eq x (Nat.lt_succ_of_lt lx) (Nat.ne_of_lt lx)).trans (if_neg (Nat.ne_of_lt lx))
    have le : σ.H.next + 1 ≤ H'.next := N.le
    have ge : ∀ y ∈ a.l, σ.H.next ≤ y := fun y hy => (N.ge y hy).elim (fun e => Nat.le_of_eq e.symm) fun l => Nat.le_of_succ_le l
    have mem : ∀ y, y ∈ (as ++ [a]).flatMap HA.l → y ∈ as.flatMap HA.l ∨ y ∈ a.l := fun y hy => by
      rw [List.flatMap_append, List.flatMap_cons, List.flatMap_nil, List.append_nil] at hy
      exact List.mem_append.mp hy
    refine ih (k + 1) (as ++ [a]) ⟨H', _⟩ _ _ rfl ?_ hs (by rw [List.length_append, hl]; rfl) (by omega) ⟨fun i b hb => ?_, ?_, fun y hy => ?_, fun y hy => ?_⟩ (by show lo ≤ H'.next; omega) fun as' σ' q1 q2 q3 q4 => ?_
    · rw [List.map_append, List.map_cons, N.isr]; rfl
    · rw [List.getElem?_append] at hb
      by_cases c : i < as.length
      · rw [if_pos c] at hb
        exact (M.hand i b hb).keep fun y hy => old y (M.lt y (List.mem_flatMap.mpr ⟨b, List.mem_of_getElem? hb, hy⟩))
      · rw [if_neg c] at hb
        have z : i - as.length = 0 := Nat.lt_one_iff.mp (List.getElem?_eq_some_iff.mp hb).1
        rw [z] at hb
        have : i = k := by omega
        subst this
        cases hb
        exact N.hr
    · rw [List.flatMap_append, List.flatMap_cons, List.flatMap_nil, List.append_nil]
      exact List.nodup_append.mpr ⟨M.nd, N.nd, fun y hy z hz e => Nat.lt_irrefl _ (Nat.lt_of_lt_of_le (M.lt y hy) (e ▸ ge z hz))⟩
    · exact (mem y hy).elim (M.ge y) fun z => Nat.le_trans l (ge y z)
    · exact (mem y hy).elim (fun z => Nat.lt_of_lt_of_le (M.lt y z) (by show σ.H.next ≤ H'.next; omega)) (N.lt y)
    · have q3 : ∀ x, x < lo → σ'.H.get x = H'.get x := q3
      have q4 : H'.next ≤ σ'.H.next := q4
      exact h as' σ' (by omega) q2 (fun x lx => (q3 x lx).trans (old x (by omega))) (by omega)
end Mine

end

section
set_option autoImplicit false
set_option linter.all false
set_option genSizeOf false
set_option genInjectivity false
namespace Mine
open PySem (Str)
/-- the folk when some went into the first list -/
noncomputable def beg (mm : Nat) (fi pr : List Int) : FolkS := ⟨(List.range mm).map fun (k : Nat) => cond (pr.contains (k : Int)) (hand1 k fi) (hand0 k), []⟩
theorem inst_i {Ω : Type} {s : Sy Ω} {j c : Nat} {fs : List (Nat × SV)} {k : Nat → Nat → List (Nat × SV) → Prop} (e : at_ s.cs j = some (.inst c fs)) (h : k j c fs) : instS s (.s j) k := by
  show (match at_ s.cs j with | some (.inst c fs) => k j c fs | _ => False)
  rw [e]; exact h
theorem ss_x {Ω : Type} {M : MEnv Ω} {P : Prog} {C : XT Ω} {K : CT} (hC : CallOk M C K) {c : PS} {r : PSs} {s : Sy Ω} {σ : St} {ad : List Nat} {Q : Flow → St → Prop} (m : Mt M ad s σ) (S : Sy Ω) (run : sxS P C c s (fun fl s' => fl = .next ∧ s' = S)) (h : ∀ ad' σ', Ext ad ad' → Mt M ad' S σ' → wpSs P K r σ' Q) : wpSs P K (.cons c r) σ Q :=
  sxS_ok hC c run m (fun fl s₁ ad₁ σ₁ fl' x m₁ df z => by obtain ⟨rfl, rfl⟩ := z; cases df; exact h _ _ x m₁)
theorem at_set {cs : List SC} {j : Nat} {c d : SC} (h : at_ cs j = some d) : at_ (setAt cs j c) j = some c := by
  have := at_len h
  rw [setAt_eq, at_eq, List.getElem?_set, if_pos rfl, if_pos this]
theorem at_ne {cs : List SC} {j k : Nat} {c : SC} (h : j ≠ k) : at_ (setAt cs j c) k = at_ cs k := by
  rw [setAt_eq, at_eq, List.getElem?_set, if_neg h, at_eq]
theorem at_app {cs t : List SC} {j : Nat} {d : SC} (h : at_ cs j = some d) : at_ (cs ++ t) j = some d := by
  rw [at_eq, List.getElem?_append_left (at_len h), ← at_eq]; exact h
theorem CR_un {D D' : Nat → List (Nat × V) → List (Nat × V) → Prop} {ad ad' : List Nat} (x : Ext ad ad') {c : SC} {d d' : C} (h : CR D ad c d) (h' : CR D' ad' c d') (no : ∀ k fs fs', ¬ D k fs fs') : d = d' := by
  cases h with
  | list xs => cases h'; rfl
  | dict r => cases h' with | dict r' => rw [DnF_un (r.mono x) r']
  | inst r => cases h' with | inst r' => rw [DnF_un (r.mono x) r']
  | w r => exact (no _ _ _ r).elim
theorem all_iV : ∀ (l : List Int), (iV l).all isIB = true
  | [] => rfl
  | _ :: r => all_iV r
theorem set_map {mm : Nat} {fi pr : List Int} (k : Nat) : (beg mm fi pr).hands.set k (hand1 k fi) = (beg mm fi (pr ++ [(k : Int)])).hands := by
  refine List.ext_getElem? fun i => ?_
  show ((List.map _ (List.range mm)).set k _)[i]? = (List.map _ (List.range mm))[i]?
  rw [List.getElem?_set, List.getElem?_map, List.getElem?_map, List.length_map, List.length_range]
  by_cases e : k = i
  · subst e
    rw [if_pos rfl]
    by_cases l : k < mm
    · rw [if_pos l, List.getElem?_range l]
      show _ = some (cond ((pr ++ [(k : Int)]).contains (k : Int)) _ _)
      rw [show (pr ++ [(k : Int)]).contains (k : Int) = true by simp]; rfl
    · rw [if_neg l, List.getElem?_eq_none (by rw [List.length_range]; omega)]; rfl
  · rw [if_neg e]
    by_cases l : i < mm
    · rw [List.getElem?_range l]
      show some (cond (pr.contains (i : Int)) _ _) = some (cond ((pr ++ [(k : Int)]).contains (i : Int)) _ _)
      rw [show (pr ++ [(k : Int)]).contains (i : Int) = pr.contains (i : Int) by
        have : (i : Int) ≠ k := by omega
        simp [this]]
    · rw [List.getElem?_eq_none (by rw [List.length_range]; omega)]; rfl
set_option maxRecDepth 20000 in
/-- a hand goes into the first list -/
theorem go_run {len : Int} {as : List HA} {k : Nat} (hk : k < as.length) {U : List Letter} {h : HandS} {fi : List Int} (hz : fi.length ≤ 100) (hh : h = hand0 k ∨ h = hand1 k fi) {ex : Exl} {a : SV} (ha : (a = .v (.lst (iV fi)) ∧ ex = none) ∨ (a = .s 6 ∧ ∃ b, ex = some (b, iV fi))) :
    sxSs tb.P (callX tb.P (spL []) 3) L_Folk___init___1 ⟨fcs len (hsA k 0 as) U (hcs h ++ exC ex), [(108, .s 0), (122, a), (109, .v (.int k))], ()⟩ (fun fl s' => fl = .next ∧ s'.loc = [(108, .s 0), (122, a), (109, .v (.int k))] ∧ ∃ js o, FinOk len (hsA k 0 as) ((hcs h).length + 2) ex (hand1 k fi) U s'.cs js o) := by
  have hk' : (hsA k 0 as)[k]? = some (.s 2) := hsA_at (Nat.zero_add k) hk
  have hl : k < (hsA k 0 as).length := by rw [hsA_len]; exact hk
  have hz' : (iV fi).length ≤ SZ := by unfold iV SZ; rw [List.length_map]; omega
  rcases ha with ⟨rfl, rfl⟩ | ⟨rfl, b, rfl⟩
  · rcases hh with rfl | rfl
    · refine need_i (pyIdx_nat hl) (need_i hk' ?_)
      refine ⟨Nat.zero_le _, ?_⟩
      refine ⟨hz', ?_⟩
      exact ⟨rfl, rfl, ⟨2, 3, 6, 7, none⟩, .v .none, rfl, rfl, ⟨rfl, rfl, rfl, rfl, .none⟩, by decide, rfl, .none⟩
    · refine need_i (pyIdx_nat hl) (need_i hk' ?_)
      refine ⟨Nat.zero_le _, ?_⟩
      refine ⟨hz', ?_⟩
      exact ⟨rfl, rfl, ⟨2, 3, 6, 7, none⟩, .v .none, rfl, rfl, ⟨rfl, rfl, rfl, rfl, .none⟩, by decide, rfl, .none⟩
  · rcases hh with rfl | rfl
    · refine need_i (pyIdx_nat hl) (need_i hk' ?_)
      refine ⟨Nat.zero_le _, ?_⟩
      refine ⟨hz', ?_⟩
      exact ⟨rfl, rfl, ⟨2, 3, 7, 8, none⟩, .v .none, rfl, rfl, ⟨rfl, rfl, rfl, rfl, .none⟩, by decide, rfl, .some rfl (by show (6 : Nat) ∉ [2, 3, 7, 8]; decide)⟩
    · refine need_i (pyIdx_nat hl) (need_i hk' ?_)
      refine ⟨Nat.zero_le _, ?_⟩
      refine ⟨hz', ?_⟩
      exact ⟨rfl, rfl, ⟨2, 3, 7, 8, none⟩, .v .none, rfl, rfl, ⟨rfl, rfl, rfl, rfl, .none⟩, by decide, rfl, .some rfl (by show (6 : Nat) ∉ [2, 3, 7, 8]; decide)⟩
end Mine

end

section
set_option autoImplicit false
set_option linter.all false
set_option genSizeOf false
set_option genInjectivity false
namespace Mine
open PySem (Str)
theorem lk3 {a b c i : Nat} {x y z sv : SV} {G : Prop} (h : lk [(a, x), (b, y), (c, z)] i = some sv) (g1 : i = a → sv = x → G) (g2 : i = b → sv = y → G) (g3 : i = c → sv = z → G) : G :=
  cond_e h (fun e q => g1 (beq_nat e).symm (Option.some.inj q).symm) fun _ h => cond_e h (fun e q => g2 (beq_nat e).symm (Option.some.inj q).symm) fun _ h => cond_e h (fun e q => g3 (beq_nat e).symm (Option.some.inj q).symm) fun _ h => nomatch h
theorem beg_at {mm : Nat} {fi pr : List Int} {k : Nat} (h : k < mm) : (beg mm fi pr).hands[k]? = some (cond (pr.contains (k : Int)) (hand1 k fi) (hand0 k)) := by
  show (List.map _ (List.range mm))[k]? = _
  rw [List.getElem?_map, List.getElem?_range h]; rfl
theorem beg_len {mm : Nat} {fi pr : List Int} : (beg mm fi pr).hands.length = mm := by
  show (List.map _ (List.range mm)).length = _
  rw [List.length_map, List.length_range]
section
variable {R : Nat → Prop} {g : Nat → Option C} {K : CT} (hK : ∀ M : MEnv Unit, CallOk M (callX tb.P (spL []) 3) K) {mm : Nat} {fi : List Int} (hz : fi.length ≤ 100) {ad : List Nat} {cs : List SC} {j f : Nat} {fs : List (Nat × V)} (hj : at_ cs j = some (.w 60 fs)) (hf : ad[j]? = some f) {a : SV} {v : V} (dv : dn ad a = some v) (hl : LstIn (⟨cs, [], none⟩ : Sy (Option FolkW)) a (iV fi)) {Q : Flow → St → Prop}
include hK hz hj hf dv hl
theorem go_turn {pr : List Int} {w : FolkW} {σ : St} (m : Mt (MF R g) ad ⟨cs, [], some w⟩ σ) (hS : w.S = beg mm fi pr) (l1 : σ.loc 108 = some (.ref f)) (l2 : σ.loc 122 = some v) {k : Nat} (hk : k < mm) (hq : ∀ (w' : FolkW) (σ' : St), Mt (MF R g) ad ⟨cs, [], some w'⟩ σ' → w'.S = beg mm fi (pr ++ [(k : Int)]) → σ'.loc 108 = some (.ref f) → σ'.loc 122 = some v → Q .next σ') :
    wpSs tb.P K L_Folk___init___1 (σ.put 109 (.int k)) Q := by
  have wf : ad[j]? = some w.f := (m.folk rfl hj).1
  have ef : f = w.f := Option.some.inj (hf.symm.trans wf)
  have hh : w.S.hands[k]? = some (cond (pr.contains (k : Int)) (hand1 k fi) (hand0 k)) := by rw [hS]; exact beg_at hk
  refine m.rep rfl fun RW lt out => ?_
  have hka : k < w.as.length := by rw [RW.len, hS, beg_len]; exact hk
  obtain ⟨ha, eha⟩ : ∃ b, w.as[k]? = some b := ⟨_, List.getElem?_eq_getElem hka⟩
  have key : ∀ (ex : Exl) (X : XlAt ad cs ex) (a' : SV), dn (w.ad ha ex) a' = some v → ((a' = .v (.lst (iV fi)) ∧ ex = none) ∨ (a' = .s 6 ∧ ∃ b, ex = some (b, iV fi))) → wpSs tb.P K L_Folk___init___1 (σ.put 109 (.int k)) Q := fun ex X a' da hx => by
    have m0 := (foc_mt (σ := σ.put 109 (.int k)) (s := ⟨cs, [], some w⟩) (m.withLoc (l := []) (lo := (σ.put 109 (.int k)).loc) fun i sv h => (nomatch h)) rfl hj eha hh X (σ.put 109 (.int k)).loc).withLoc (l := [(108, .s 0), (122, a'), (109, .v (.int k))]) (lo := (σ.put 109 (.int k)).loc) fun i sv h => lk3 h (fun e q => ⟨.ref f, by rw [q, ef]; rfl, by rw [e]; exact l1⟩) (fun e q => ⟨v, by rw [q]; exact da, by rw [e]; exact l2⟩) fun e q => ⟨.int k, by rw [q]; rfl, by rw [e]; rfl⟩
    refine sxSs_ok (hK _) L_Folk___init___1 (go_run (len := w.S.hands.length) (U := w.S.under) hka hz ?_ hx) m0 (fun fl s₁ ad₁ σ₁ fl' x m₁ df z => ?_)
    · cases pr.contains (k : Int)
      · exact .inl rfl
      · exact .inr rfl
    · obtain ⟨rfl, hloc, js, o, F⟩ := z
      cases df
      obtain ⟨a'', m', _⟩ := unfoc (σ := σ.put 109 (.int k)) (s := ⟨cs, [], some w⟩) (m.withLoc (l := []) (lo := (σ.put 109 (.int k)).loc) fun i sv h => (nomatch h)) rfl hj eha hh X x m₁ F
      refine hq _ _ (m'.withLoc (l := []) (lo := σ₁.loc) fun i sv h => (nomatch h)) ?_ ?_ ?_
      · show (⟨w.S.hands.set k (hand1 k fi), w.S.under⟩ : FolkS) = _
        rw [hS, set_map]; rfl
      · obtain ⟨u, q1, q2⟩ := m₁.loc 108 (.s 0) (by rw [hloc]; rfl)
        rw [q2, ← q1, ef]
        exact congrArg mR (x.at_ (j := 0) rfl)
      · obtain ⟨u, q1, q2⟩ := m₁.loc 122 a' (by rw [hloc]; rfl)
        rw [q2, ← q1]
        exact dn_mono x da
  cases hl with
  | v => exact key none .none (.v (.lst (iV fi))) dv (.inl ⟨rfl, rfl⟩)
  | @s p _ hp =>
    obtain ⟨b, hb, rfl⟩ := mR_e dv
    refine key (some (b, iV fi)) (.some hb hp) (.s 6) ?_ (.inr ⟨rfl, b, rfl⟩)
    have le : ha.l.length = 4 := by
      rw [hcs_len (RW.hand k ha _ eha hh).o]
      cases pr.contains (k : Int) <;> rfl
    show mR (ha.l ++ [b])[4]? = _
    rw [List.getElem?_append_right (by rw [le]; exact Nat.le_refl _), le]; rfl
theorem go_in : ∀ (xs pr : List Int) (w : FolkW) (σ : St), Mt (MF R g) ad ⟨cs, [], some w⟩ σ → w.S = beg mm fi pr → σ.loc 108 = some (.ref f) → σ.loc 122 = some v → (∀ x ∈ xs, ∃ k : Nat, x = k ∧ k < mm) →
    (∀ (w' : FolkW) (σ' : St), Mt (MF R g) ad ⟨cs, [], some w'⟩ σ' → w'.S = beg mm fi (pr ++ xs) → Q .next σ') → loopGo (fun v σ₂ k => bindT [109] v σ₂ fun σ₃ => wpSs tb.P K L_Folk___init___1 σ₃ k) (still v (iV fi)) (iV xs) σ Q
  | [], pr, w, σ, m, hS, l1, l2, hx, hq => ⟨itemsS_ok m dv (hl.its []), hq w σ m (by rw [List.append_nil]; exact hS)⟩
  | x :: xs, pr, w, σ, m, hS, l1, l2, hx, hq => by
    obtain ⟨k, rfl, hk⟩ := hx x (.head _)
    refine ⟨itemsS_ok m dv (hl.its []), ?_⟩
    refine go_turn hK hz hj hf dv hl m hS l1 l2 hk fun w' σ' m' hS' q1 q2 => ?_
    exact go_in xs (pr ++ [(k : Int)]) w' σ' m' hS' q1 q2 (fun y hy => hx y (.tail _ hy)) fun w'' σ'' m'' h'' => hq w'' σ'' m'' (by rw [h'', List.append_assoc]; rfl)
end
end Mine

end

section
set_option autoImplicit false
set_option linter.all false
set_option genSizeOf false
set_option genInjectivity false
namespace Mine
open PySem (Str)
theorem ris_rng {m : Int} : ∀ {xs : List Int} {a : Int}, ris m a (iV xs) = true → ∀ x ∈ xs, a < x ∧ x < m
  | [], _, _, x, hx => by cases hx
  | y :: r, a, h, x, hx => by
    have h : cond (decide (y ≤ a)) false (cond (decide (m ≤ y)) false (ris m y (iV r))) = true := h
    refine cond_e h (fun _ z => nomatch z) fun e1 h => cond_e h (fun _ z => nomatch z) fun e2 h => ?_
    have e1 := of_decide_eq_false e1
    have e2 := of_decide_eq_false e2
    rcases List.mem_cons.mp hx with rfl | hx
    · omega
    · have := ris_rng h x hx; omega
theorem ris_len {m : Int} : ∀ {xs : List Int} {a : Int}, ris m a (iV xs) = true → a < m → (xs.length : Int) ≤ m - a - 1
  | [], a, _, h => by show (0 : Int) ≤ _; omega
  | y :: r, a, h, ha => by
    have h : cond (decide (y ≤ a)) false (cond (decide (m ≤ y)) false (ris m y (iV r))) = true := h
    refine cond_e h (fun _ z => nomatch z) fun e1 h => cond_e h (fun _ z => nomatch z) fun e2 h => ?_
    have e1 := of_decide_eq_false e1
    have e2 := of_decide_eq_false e2
    have := ris_len h (by omega)
    show ((r.length + 1 : Nat) : Int) ≤ _
    omega
noncomputable def sp7 {Ω : Type} : Spc Ω := spL [(7, 2, IslR)]
theorem sp7_ok {Ω : Type} {M : MEnv Ω} : SpOk M tb.P sp7 := .cons isl_e .nil
/-- the last slot is the world's -/
theorem Ext.one {ad ad' : List Nat} (x : Ext ad ad') {n : Nat} (h : ad.length = n) (h' : ad'.length = n + 1) : ∃ u, ad' = ad ++ [u] := by
  obtain ⟨t, rfl⟩ := x
  rw [List.length_append, h] at h'
  match t, h' with
  | [u], _ => exact ⟨u, rfl⟩
  | [], h' => simp at h'
  | _ :: _ :: _, h' => simp at h'
theorem Ext.same {ad ad' : List Nat} (x : Ext ad ad') {n : Nat} (h : ad.length = n) (h' : ad'.length = n) : ad' = ad := by
  obtain ⟨t, rfl⟩ := x
  rw [List.length_append, h] at h'
  match t, h' with
  | [], _ => exact List.append_nil _
  | _ :: _, h' => simp at h'
theorem setAt_len {cs : List SC} {j : Nat} {c : SC} : (setAt cs j c).length = cs.length := by rw [setAt_eq, List.length_set]
theorem set2 {cs : List SC} {j : Nat} {c d : SC} : setAt (setAt cs j c) j d = setAt cs j d := by rw [setAt_eq, setAt_eq, setAt_eq, List.set_set]
theorem set_app {cs t : List SC} {j : Nat} {c : SC} (h : j < cs.length) : setAt (cs ++ t) j c = setAt cs j c ++ t := by rw [setAt_eq, setAt_eq, List.set_append_left _ _ h]
/-- the folk's parts become the world -/
theorem to_world {R : Nat → Prop} {g : Nat → Option C} {ad : List Nat} {cs : List SC} {l : List (Nat × SV)} {σ : St} (m : Mt (MF R g) ad ⟨cs, l, none⟩ σ) {j f : Nat} {fs0 : List (Nat × SV)} (hj : at_ cs j = some (.inst 60 fs0)) (hf : ad[j]? = some f) {mm u : Nat} {as : List HA} {l' : List (Nat × SV)} {σ' : St}
    (m' : Mt (MF R g) (ad ++ [u]) ⟨setAt cs j (.inst 60 [(18, .v (.int mm)), (123, .v (.lst (as.map fun a => .ref a.r))), (124, .s cs.length)]) ++ [.list []], l', none⟩ σ') (la : as.length = mm) {fi : List Int} (M : Made σ.H.next σ'.H as) (hu : ∀ y ∈ as.flatMap HA.l, y ≠ u) (hn : σ.H.next ≤ u) :
    ∃ w : FolkW, w.S = beg mm fi [] ∧ Mt (MF R g) ad ⟨setAt cs j (.w 60 [(18, .int mm)]), [], some w⟩ σ' := by
  have jl := at_len hj
  have hjl : at_ (setAt cs j (.inst 60 [(18, .v (.int mm)), (123, .v (.lst (as.map fun a => .ref a.r))), (124, .s cs.length)]) ++ [.list []]) j = some (.inst 60 [(18, .v (.int mm)), (123, .v (.lst (as.map fun a => .ref a.r))), (124, .s cs.length)]) := at_app (at_set hj)
  have le : ad.length = cs.length := m.len
  have hu' : (ad ++ [u])[cs.length]? = some u := by rw [← le, List.getElem?_append_right (Nat.le_refl _), Nat.sub_self]; rfl
  have x : Ext ad (ad ++ [u]) := ⟨_, rfl⟩
  have nw : ∀ a k fs fs', ¬ (MF R g).Is none a k fs fs' := fun a k fs fs' h => by
    obtain ⟨w, h, _⟩ := h
    cases h
  have lu : u < σ'.H.next := m'.lt _ _ hu'
  obtain ⟨F, f1, f2, f3⟩ := m.res
  obtain ⟨F', g1, g2, g3⟩ := m'.res
  have rx0 : ∀ y, R y → y < σ.H.next := fun y hy => f3 y ((f1.1 y).mpr hy)
  have rx1 : ∀ y, R y → y ∉ u :: as.flatMap HA.l := fun y hy z => by
    have := rx0 y hy
    rcases List.mem_cons.mp z with z | z
    · omega
    · have := M.ge y z; omega
  have rx2 : ∀ y, R y → σ'.H.get y = g y := g1.2
  have rx3 : ∀ y, R y → y < σ'.H.next := fun y hy => g3 y ((g1.1 y).mpr hy)
  have rx4 : ∀ (k b : Nat), ad[k]? = some b → ¬ R b := fun k b hb z => f2 k b hb ((f1.1 b).mpr z)
  refine ⟨⟨beg mm fi [], f, u, as⟩, rfl, ?_⟩
  refine ⟨?_, fun k b c hb hc => ?_, m.nd, fun k b hb => m'.lt k b (x.at_ hb), fun i sv h => (nomatch h), fun y => y ∈ u :: as.flatMap HA.l ∨ R y, ⟨⟨?_, ?_, fun k a h ha hh => ?_, ?_⟩, fun _ => Iff.rfl, fun y hy => ⟨rx1 y hy, rx2 y hy⟩⟩, fun k b hb z => z.elim (fun z => ?_) fun z => rx4 k b hb z, fun y hy => hy.elim (fun hy => ?_) (rx3 y)⟩
  · show _ = (setAt cs j _).length
    rw [setAt_len]; exact le
  · have hc : at_ (setAt cs j (.w 60 [(18, .int mm)])) k = some c := hc
    by_cases e : j = k
    · subst e
      rw [at_set hj] at hc
      cases hc
      cases Option.some.inj (hb.symm.trans hf)
      refine .mk _ (m'.instV hjl (x.at_ hf) (.cons rfl (.cons rfl (.cons (dn_at hu') .nil)))) (.w ⟨_, rfl, rfl, rfl, ?_, ?_⟩)
      · rw [beg_len]
      · show _ = [(18, V.int (beg mm fi []).hands.length), (123, .lst (as.map fun a => .ref a.r)), (124, .ref u)]
        rw [beg_len]
    · rw [at_ne e] at hc
      have hc' : at_ (setAt cs j (.inst 60 [(18, .v (.int mm)), (123, .v (.lst (as.map fun a => .ref a.r))), (124, .s cs.length)]) ++ [.list []]) k = some c := at_app (by rw [at_ne e]; exact hc)
      cases m.cell k b c hb hc with
      | dead => exact .dead
      | mk d g r =>
        cases m'.cell k b c (x.at_ hb) hc' with
        | dead => exact .dead
        | mk d' g' r' =>
          cases CR_un x r r' (nw b)
          refine .mk d g' ?_
          cases r with
          | list xs => exact .list xs
          | dict r => exact .dict r
          | inst r => exact .inst r
          | w r => exact (nw _ _ _ _ r).elim
  · refine m'.list (xs := []) (j := cs.length) ?_ hu'
    show at_ (setAt cs j _ ++ [_]) cs.length = _
    rw [at_eq, List.getElem?_append_right (by rw [setAt_len]; exact Nat.le_refl _), setAt_len, Nat.sub_self]; rfl
  · show as.length = (beg mm fi []).hands.length
    rw [beg_len]; exact la
  · have hk : k < mm := by
      have ha : as[k]? = some a := ha
      rw [← la]; exact (List.getElem?_eq_some_iff.mp ha).1
    have hh : (beg mm fi []).hands[k]? = some h := hh
    rw [beg_at hk] at hh
    cases hh
    exact M.hand k a ha
  · exact List.nodup_cons.mpr ⟨fun z => hu u z rfl, M.nd⟩
  · have l := m.lt k b hb
    rcases List.mem_cons.mp z with z | z
    · omega
    · have := M.ge b z; omega
  · rcases List.mem_cons.mp hy with z | z
    · rw [z]; exact lu
    · exact M.lt y z
end Mine

end

section
set_option autoImplicit false
set_option linter.all false
set_option genSizeOf false
set_option genInjectivity false
namespace Mine
open PySem (Str)
theorem asg_h {K : CT} {σ : St} {f n : Nat} {v : V} {Q : St → Prop} {fs : List (Nat × V)} (l1 : σ.loc 108 = some (.ref f)) (g : σ.H.get f = some (.inst 60 fs)) (hn : [18, 123, 124].contains n = true) (hl : fs.length < 1000) (h : Q (σ.setH (σ.H.set f (.inst 60 (st fs n v))))) : asgn tb.P K (.attr (.loc 108) n) v σ Q :=
  need_i l1 (need_i (congrArg cI g) (need_i rfl ⟨hn, hl, h⟩))
theorem Made.keep {lo : Nat} {H H' : Hp} {as : List HA} (M : Made lo H as) (e : ∀ y ∈ as.flatMap HA.l, H'.get y = H.get y) (l : H.next ≤ H'.next) : Made lo H' as :=
  ⟨fun k a ha => (M.hand k a ha).keep fun y hy => e y (List.mem_flatMap.mpr ⟨a, List.mem_of_getElem? ha, hy⟩), M.nd, M.ge, fun y hy => Nat.lt_of_lt_of_le (M.lt y hy) l⟩
theorem iV_len (l : List Int) : (iV l).length = l.length := List.length_map ..
theorem finit_ok {R : Nat → Prop} {g : Nat → Option C} {K : CT} (hI : ∀ (r : Nat) (k : Int) (H : Hp) (Q : V → Hp → Prop), H.get r = some (.inst 59 []) → r < H.next → (∀ H' a, NewHand H r (hand0 k) a H' → Q .none H') → K 237 [.ref r, .int k] H Q)
    (hC : CallOk (MF R g) (callX tb.P sp7 3) K) (hK : ∀ M : MEnv Unit, CallOk M (callX tb.P (spL []) 3) K)
    {ad : List Nat} {cs : List SC} {l0 : List (Nat × SV)} {σ : St} (m : Mt (MF R g) ad ⟨cs, l0, none⟩ σ) {j f : Nat} (hj : at_ cs j = some (.inst 60 [])) (hf : ad[j]? = some f) {a : SV} {v : V} (dv : dn ad a = some v) {fi : List Int} (hl : LstIn (⟨cs, [], none⟩ : Sy (Option FolkW)) a (iV fi)) {mm : Nat} (h1 : 1 ≤ mm) (h9 : mm ≤ 9) (hok : okL mm (iV fi) = true)
    {lo : Loc} (hlo : ∀ i sv, lk [(108, .s j), (18, .v (.int mm)), (122, a)] i = some sv → ∃ u, dn ad sv = some u ∧ lo i = some u) {Q : V → Hp → Prop}
    (h : ∀ (w : FolkW) (H' : Hp), w.S = beg mm fi fi → Mt (MF R g) ad ⟨setAt cs j (.w 60 [(18, .int mm)]), l0, some w⟩ (σ.setH H') → Q .none H') :
    wpSs tb.P K F_Folk___init__.body ⟨σ.H, lo⟩ (fun fl σ' => Q (retV fl) σ'.H) := by
  have jl := at_len hj
  have le : ad.length = cs.length := m.len
  have er : ris mm (-1) (iV fi) = true := by
    cases fi with
    | nil => cases hok
    | cons x r => exact hok
  have hx : ∀ x ∈ fi, ∃ k : Nat, x = k ∧ k < mm := fun x hx => by
    have := ris_rng er x hx
    exact ⟨x.toNat, by omega, by omega⟩
  have hz : fi.length ≤ 100 := by have := ris_len er (by omega); omega
  have m0 : Mt (MF R g) ad ⟨cs, [(108, .s j), (18, .v (.int mm)), (122, a)], none⟩ ⟨σ.H, lo⟩ := m.withLoc hlo
  refine ss_x hC m0 ⟨cs, [(108, .s j), (18, .v (.int mm)), (122, a)], none⟩ ?_ fun ad₁ σ₁ x₁ m₁ => ?_
  · refine Br_i (fun c => ?_) (fun c => ?_)
    · exact absurd (of_decide_eq_true (p := (mm : Int) < 1) c) (by omega)
    refine Br_i (fun c => ?_) (fun c => ?_)
    · exact absurd (of_decide_eq_true (p := 9 < (mm : Int)) c) (by omega)
    exact ⟨rfl, rfl⟩
  cases x₁.same le m₁.len
  refine ss_x hC m₁ ⟨cs, [(108, .s j), (18, .v (.int mm)), (122, a)], none⟩ ?_ fun ad₂ σ₂ x₂ m₂ => ?_
  · refine IslR.lst (xs := iV fi) mm rfl ?_ (all_iV fi) ?_
    · cases hl with
      | v => exact .v _
      | s h => exact .s h
    · rw [hok]; exact ⟨rfl, rfl⟩
  cases x₂.same le m₂.len
  have l1 : σ₂.loc 108 = some (.ref f) := by
    obtain ⟨u, q1, q2⟩ := m₂.loc 108 (.s j) rfl
    rw [q2, ← q1]; exact dn_at hf
  have l2 : σ₂.loc 122 = some v := by
    obtain ⟨u, q1, q2⟩ := m₂.loc 122 a rfl
    rw [q2, ← q1]; exact dv
  have l3 : σ₂.loc 18 = some (.int mm) := by
    obtain ⟨u, q1, q2⟩ := m₂.loc 18 (.v (.int mm)) rfl
    rw [q2, ← q1]; rfl
  refine need_i l3 (asg_h (fs := []) l1 (m₂.instV hj hf .nil) rfl (by decide) ?_)
  have m₃ := m₂.setC hf (c' := .inst 60 [(18, .v (.int mm))]) (c := .inst 60 [(18, .int mm)]) (.inst (.cons rfl .nil))
  show wpSs tb.P K _ (σ₂.setH (σ₂.H.set f (.inst 60 [(18, .int mm)]))) _
  generalize hσ : σ₂.setH (σ₂.H.set f (.inst 60 [(18, .int mm)])) = σ₃ at m₃
  have l1 : σ₃.loc 108 = some (.ref f) := hσ ▸ l1
  have l2 : σ₃.loc 122 = some v := hσ ▸ l2
  have l3 : σ₃.loc 18 = some (.int mm) := hσ ▸ l3
  clear hσ
  have hj₃ : at_ (setAt cs j (.inst 60 [(18, .v (.int mm))])) j = some (.inst 60 [(18, .v (.int mm))]) := at_set hj
  have lf : f < σ₃.H.next := m₃.lt j f hf
  have g₃ : σ₃.H.get f = some (.inst 60 [(18, .int mm)]) := m₃.instV hj₃ hf (.cons rfl .nil)
  refine need_i l3 ⟨by show ((mm : Int)).natAbs ≤ 1048576; omega, ?_⟩
  refine made hI σ₃.H.next _ _ _ mm 0 [] ⟨σ₃.H, _⟩ _ _ (by rw [rngN_nat]; rfl) rfl (fun H => rfl) rfl (by omega) ⟨fun k a h => (nomatch h), .nil, fun y h => (nomatch h), fun y h => (nomatch h)⟩ (Nat.le_refl _) fun as σ₄ la M e4 n4 => ?_
  have e4 : ∀ x, x < σ₃.H.next → σ₄.H.get x = σ₃.H.get x := e4
  have n4 : σ₃.H.next ≤ σ₄.H.next := n4
  have la : as.length = mm := la.trans (Nat.zero_add mm)
  refine ⟨by rw [List.length_map, la]; exact Nat.le_trans h9 (by decide), ?_⟩
  show asgn tb.P K (.attr (.loc 108) 123) _ ⟨σ₄.H, σ₃.loc⟩ _
  refine asg_h (σ := ⟨σ₄.H, σ₃.loc⟩) (fs := [(18, .int mm)]) l1 ((e4 f lf).trans g₃) rfl (by show 1 < 1000; decide) ?_
  have m₄ : Mt (MF R g) ad ⟨setAt cs j (.inst 60 [(18, .v (.int mm)), (123, .v (.lst (as.map fun a => .ref a.r)))]), [(108, .s j), (18, .v (.int mm)), (122, a)], none⟩ ⟨σ₄.H.set f (.inst 60 [(18, .int mm), (123, .lst (as.map fun a => .ref a.r))]), σ₃.loc⟩ := by
    have := (m₃.grow e4 n4).setC hf (c' := .inst 60 [(18, .v (.int mm)), (123, .v (.lst (as.map fun a => .ref a.r)))]) (c := .inst 60 [(18, .int mm), (123, .lst (as.map fun a => .ref a.r))]) (.inst (.cons rfl (.cons rfl .nil)))
    have e : setAt (setAt cs j (.inst 60 [(18, .v (.int mm))])) j (.inst 60 [(18, .v (.int mm)), (123, .v (.lst (as.map fun a => .ref a.r)))]) = _ := set2
    rw [← e]; exact this
  refine ⟨Nat.zero_le _, ?_⟩
  show asgn tb.P K (.attr (.loc 108) 124) _ _ _
  refine asg_h (fs := [(18, .int mm), (123, .lst (as.map fun a => .ref a.r))]) l1 ?_ rfl (by show 2 < 1000; decide) ?_
  · show (if f = σ₄.H.next then _ else (if f = f then _ else _)) = _
    rw [if_neg (by omega), if_pos rfl]; rfl
  have m₅ : Mt (MF R g) (ad ++ [σ₄.H.next]) ⟨setAt (setAt cs j (.inst 60 [(18, .v (.int mm))])) j (.inst 60 [(18, .v (.int mm)), (123, .v (.lst (as.map fun a => .ref a.r))), (124, .s (setAt cs j (.inst 60 [(18, .v (.int mm))])).length)]) ++ [.list []], [(108, .s j), (18, .v (.int mm)), (122, a)], none⟩ ⟨((σ₄.H.set f (.inst 60 [(18, .int mm), (123, .lst (as.map fun a => .ref a.r))])).new (.list [])).set f (.inst 60 [(18, .int mm), (123, .lst (as.map fun a => .ref a.r)), (124, .ref σ₄.H.next)]), σ₃.loc⟩ := by
    have hd : dn (ad ++ [σ₄.H.next]) (.s (setAt cs j (.inst 60 [(18, .v (.int mm))])).length) = some (.ref σ₄.H.next) := dn_at (by rw [setAt_len, ← le, List.getElem?_append_right (Nat.le_refl _), Nat.sub_self]; rfl)
    have := (m₄.new (c' := .list []) (.list [])).setC (m₄.ext.at_ hf) (c' := .inst 60 [(18, .v (.int mm)), (123, .v (.lst (as.map fun a => .ref a.r))), (124, .s (setAt cs j (.inst 60 [(18, .v (.int mm))])).length)]) (c := .inst 60 [(18, .int mm), (123, .lst (as.map fun a => .ref a.r)), (124, .ref σ₄.H.next)]) (.inst (.cons rfl (.cons rfl (.cons hd .nil))))
    have e : setAt (setAt cs j (.inst 60 [(18, .v (.int mm)), (123, .v (.lst (as.map fun a => .ref a.r)))]) ++ [.list []]) j (.inst 60 [(18, .v (.int mm)), (123, .v (.lst (as.map fun a => .ref a.r))), (124, .s (setAt cs j (.inst 60 [(18, .v (.int mm))])).length)]) = setAt (setAt cs j (.inst 60 [(18, .v (.int mm))])) j (.inst 60 [(18, .v (.int mm)), (123, .v (.lst (as.map fun a => .ref a.r))), (124, .s (setAt cs j (.inst 60 [(18, .v (.int mm))])).length)]) ++ [.list []] := by
      rw [set_app (by rw [setAt_len]; exact jl), set2, set2]
    rw [← e]; exact this
  have lt5 : ∀ y ∈ as.flatMap HA.l, y < σ₄.H.next := M.lt
  obtain ⟨w, hS, m₆⟩ := to_world (fi := fi) m₃ hj₃ hf m₅ la (M.keep (fun y hy => by
    have q := M.ge y hy
    have q2 := lt5 y hy
    show (if y = f then _ else (if y = σ₄.H.next then _ else (if y = f then _ else _))) = _
    rw [if_neg (by omega), if_neg (by omega), if_neg (by omega)]) (Nat.le_succ _)) (fun y hy => Nat.ne_of_lt (lt5 y hy)) n4
  rw [set2] at m₆
  have hjw : at_ (setAt cs j (.w 60 [(18, .int mm)])) j = some (.w 60 [(18, .int mm)]) := at_set hj
  have hlw : ∀ o : Option FolkW, LstIn (⟨setAt cs j (.w 60 [(18, .int mm)]), [], o⟩ : Sy (Option FolkW)) a (iV fi) := fun o => by
    cases hl with
    | v => exact .v _
    | @s p _ hp =>
      refine .s (hp ▸ at_ne fun e => ?_)
      subst e
      cases hj.symm.trans hp
  refine need_i l2 (need_i (itemsS_ok m₆ dv ((hlw _).its [])) ?_)
  refine go_in hK hz hjw hf dv (hlw _) fi [] w _ m₆ hS l1 l2 hx fun w' σ' m' hS' => ?_
  exact h w' σ'.H hS' (m'.withLoc m.loc)
end Mine

end

section
set_option autoImplicit false
set_option linter.all false
set_option genSizeOf false
set_option genInjectivity false
namespace Mine
open PySem (Str)
noncomputable def Sy.withW {Ω : Type} (s : Sy Ω) (w : Ω) : Sy Ω := match s with
  | ⟨cs, l, _⟩ => ⟨cs, l, w⟩
inductive InitR (as : List SV) (s : Sy (Option FolkW)) (k : SV → Sy (Option FolkW) → Prop) : Prop
  | ok {j mm : Nat} {a : SV} {fi : List Int} (he : as = [.s j, .v (.int mm), a]) (hw : s.w = none) (hj : at_ s.cs j = some (.inst 60 [])) (hl : LstIn s a (iV fi)) (h1 : 1 ≤ mm) (h9 : mm ≤ 9) (ho : okL mm (iV fi) = true) (h : ∀ w : FolkW, w.S = beg mm fi fi → setS s j (.w 60 [(18, .int mm)]) fun s' => k (.v .none) (s'.withW (some w)))
theorem CW_s {P : Prog} {n f : Nat} {as : List V} {H : Hp} {Q : V → Hp → Prop} (h : need (P.fn f) fun d => need (bindP d.params as fun _ => none) fun m => wpSs P (CW P n) d.body ⟨H, m⟩ (fun fl σ => Q (retV fl) σ.H)) : CW P (n + 1) f as H Q := h
theorem init_e {R : Nat → Prop} {g : Nat → Option C} : EnOk (MF R g) tb.P 243 4 InitR := fun n f as s k ad σ vs Q q m d hk => by
  obtain ⟨rfl, q⟩ := q
  cases q with
  | @ok j mm a fi he hw hj hl h1 h9 ho h =>
    subst he
    obtain ⟨cs, l0, w0⟩ := s
    cases hw
    rw [Nat.add_comm]
    cases d with
    | cons d1 d =>
    cases d with
    | cons d2 d =>
    cases d with
    | cons d3 d =>
    cases d with
    | nil =>
    obtain ⟨f, hf, rfl⟩ := mR_e d1
    cases d2
    obtain ⟨lo, q1, q2⟩ := bindP_ok (ps := [108, 18, 122]) (l := []) (lo := fun _ => none) (.cons d1 (.cons (a := .v (.int mm)) rfl (.cons d3 .nil))) rfl fun i sv q => (nomatch q)
    refine CW_s (n := n + 3) ?_
    refine need_i (a := F_Folk___init__) rfl (need_i q1 ?_)
    refine finit_ok (K := CW tb.P (n + 3)) (fun r k H Q h1 h2 h3 => hinit_w (n + 1) r k H Q h1 h2 h3) (Nat.add_comm 3 n ▸ callX_ok sp7_ok n 3) (fun M => Nat.add_comm 3 n ▸ callX_ok SpOk.nil n 3) m hj hf d3 ?_ h1 h9 ho q2 fun w H' hS m' => ?_
    · cases hl with
      | v => exact .v _
      | s h => exact .s h
    · exact hk (.v .none) _ ad (σ.setH H') _ (.refl _) m' rfl (setS_ok (h w hS)) rfl
end Mine

end

section
set_option autoImplicit false
set_option linter.all false
set_option genSizeOf false
set_option genInjectivity false
namespace Mine
open PySem (Str)
section
variable {Ω : Type} {M : MEnv Ω}
/-- letters to some -/
noncomputable def ltr (wd : Str) (n p c : V) (t : V) : V := .tup [.str wd, n, t, p, c]
inductive SendR (as : List SV) (s : Sy Ω) (k : SV → Sy Ω → Prop) : Prop
  | mk {m : Int} {hs : List SA} {U to : List V} {fs : List (Nat × SV)} {r : List SC} {l : List (Nat × SV)} {w : Ω} {wd : Str} {n p c : V} (he : as = [.s 0, .v (.str wd), .s 2, .v (.lst to), .v c]) (es : s = ⟨folkC m hs :: .list U :: .inst 59 fs :: r, l, w⟩)
    (h1 : lk fs 109 = some (.v n)) (h2 : lk fs 110 = some (.v p)) (hz : U.length + to.length ≤ SZ) (h : k (.v .none) ⟨folkC m hs :: .list (U ++ to.map (ltr wd n p c)) :: .inst 59 fs :: r, l, w⟩)
inductive SendI (m : Int) (hs : List SA) (U to : List V) (fs : List (Nat × SV)) (r : List SC) (w : Ω) (wd : Str) (n p c : V) (xs : List V) (s : Sy Ω) : Prop
  | mk (done : List V) (t : List (Nat × SV)) (hd : done ++ xs = to) (hs' : s = ⟨folkC m hs :: .list (U ++ done.map (ltr wd n p c)) :: .inst 59 fs :: r, (108, .s 0) :: (126, .v (.str wd)) :: (125, .s 2) :: (127, .v (.lst to)) :: (128, .v c) :: t, w⟩)
theorem send_e : EnOk M tb.P 247 1 SendR := EnOk.run SpOk.nil fun as s k q => by
  obtain ⟨he, es, h1, h2, hz, h⟩ := q
  rename_i m hs U to fs r l w wd n p c
  subst he es
  refine .mk (SendI m hs U to fs r w wd n p c) ⟨[], [], rfl, by rw [List.map_nil, List.append_nil]; rfl⟩ ⟨fun r s' i => ?_, fun s' i => ?_, fun x xs s' i => ?_⟩
  · obtain ⟨done, t, _, rfl⟩ := i; rfl
  · obtain ⟨done, t, hd, rfl⟩ := i
    rw [List.append_nil] at hd
    subst hd
    exact h
  · obtain ⟨done, t, hd, rfl⟩ := i
    refine bind1_i ?_
    refine need_i h1 (need_i (lk_self t) (need_i h2 ?_))
    refine ⟨?_, ?_⟩
    · subst hd
      rw [List.length_append, List.length_map]
      rw [List.length_append] at hz
      exact Nat.lt_of_lt_of_le (by show _ < U.length + (done.length + (xs.length + 1)); omega) hz
    · exact ⟨done ++ [x], _, by rw [← hd, List.append_assoc]; rfl, by rw [List.map_append, ← List.append_assoc]; rfl⟩
/-- the others -/
noncomputable def oth (n : Int) (ms : List Int) : List Int := ms.filter fun x => !decide (x = n)
inductive OthR (as : List SV) (s : Sy Ω) (k : SV → Sy Ω → Prop) : Prop
  | mk {a b : SC} {fs : List (Nat × SV)} {r : List SC} {l : List (Nat × SV)} {w : Ω} {ms : List Int} {n : Int} (he : as = [.s 2]) (es : s = ⟨a :: b :: .inst 59 fs :: r, l, w⟩)
    (h1 : lk fs 17 = some (.v (.lst (iV ms)))) (h2 : lk fs 109 = some (.v (.int n))) (hz : ms.length ≤ 100) (h : k (.v (.lst (iV (oth n ms)))) s)
inductive OthI (a b : SC) (fs : List (Nat × SV)) (r : List SC) (w : Ω) (ms : List Int) (n : Int) (xs acc : List V) (s : Sy Ω) : Prop
  | mk (done rest : List Int) (t : List (Nat × SV)) (hd : done ++ rest = ms) (hx : xs = iV rest) (ha : acc = iV (oth n done)) (hs : s = ⟨a :: b :: .inst 59 fs :: r, (108, .s 2) :: t, w⟩)
theorem oth_app (n : Int) (a b : List Int) : oth n (a ++ b) = oth n a ++ oth n b := List.filter_append ..
theorem oth_len (n : Int) (a : List Int) : (oth n a).length ≤ a.length := List.length_filter_le ..
theorem others_e : EnOk M tb.P 240 1 OthR := EnOk.run SpOk.nil fun as s k q => by
  obtain ⟨he, es, h1, h2, hz, h⟩ := q
  rename_i a b fs r l w ms n
  subst he es
  refine need_i h1 ?_
  refine .mk (OthI a b fs r w ms n) ⟨[], ms, [], rfl, rfl, rfl, rfl⟩ ⟨fun r acc s' i => rfl, fun r acc s' i => ?_, fun acc s' i => ?_, fun x r acc s' i => ?_⟩
  · obtain ⟨done, rest, t, hd, rfl, rfl, rfl⟩ := i
    have := oth_len n done
    rw [iV_len, iV_len]
    subst hd
    rw [List.length_append] at hz
    unfold SZ; omega
  · obtain ⟨done, rest, t, hd, hx, rfl, rfl⟩ := i
    cases rest with
    | cons _ _ => cases hx
    | nil =>
      rw [List.append_nil] at hd
      subst hd
      refine ⟨by rw [iV_len]; have := oth_len n done; unfold SZ; omega, ?_⟩
      exact h
  · obtain ⟨done, rest, t, hd, hx, rfl, rfl⟩ := i
    cases rest with
    | nil => cases hx
    | cons y rest =>
      cases hx
      refine bind1_i ?_
      refine need_i (lk_self t) (need_i h2 ?_)
      have ho : oth n (done ++ [y]) = oth n done ++ cond (decide (y = n)) [] [y] := by
        rw [oth_app]
        congr 1
        show (List.filter (fun x => !decide (x = n)) [y]) = _
        cases e : decide (y = n) with
        | true => rw [List.filter_cons, e]; rfl
        | false => rw [List.filter_cons, e]; rfl
      refine Br_i (fun c => ?_) (fun c => ?_)
      · have c : decide (y = n) = false := Bool.not_eq_true' _ ▸ c
        refine need_i (lk_self t) ?_
        exact ⟨done ++ [y], rest, _, by rw [List.append_assoc]; exact hd, rfl, by rw [ho, c]; show _ = (oth n done ++ [y]).map V.int; rw [List.map_append]; rfl, rfl⟩
      · have c : decide (y = n) = true := by cases q : decide (y = n) with | true => rfl | false => rw [show eqD (.int y) (.int n) = decide (y = n) from rfl, q] at c; cases c
        exact ⟨done ++ [y], rest, _, by rw [List.append_assoc]; exact hd, rfl, by rw [ho, c]; show _ = (oth n done ++ []).map V.int; rw [List.append_nil]; rfl, rfl⟩
end
end Mine

end

section
set_option autoImplicit false
set_option linter.all false
set_option genSizeOf false
set_option genInjectivity false
namespace Mine
open PySem (Str)
/-- what a hand is known to hold -/
noncomputable def hoD : List (Int × Int) → Int → Int
  | [], _ => 0
  | p :: r, x => cond (decide (p.1 = x)) p.2 (hoD r x)
theorem keyOk_ho (hd : List (Int × Int)) (x : Int) : keyOk (dKeys (svs (hoV hd))) (.int x) = true := by
  have : ∀ hd : List (Int × Int), (dKeys (svs (hoV hd))).all isI = true := fun hd => by
    induction hd with
    | nil => rfl
    | cons p r ih => exact ih
  exact this hd
theorem dGet_ho (x : Int) : ∀ hd : List (Int × Int), (dGet (svs (hoV hd)) (.int x)).getD (.v (.int 0)) = .v (.int (hoD hd x))
  | [] => rfl
  | p :: r => by
    show Option.getD (cond (decide (p.1 = x)) (some (SV.v (.int p.2))) (dGet (svs (hoV r)) (.int x))) _ = .v (.int (cond (decide (p.1 = x)) p.2 (hoD r x)))
    cases decide (p.1 = x) with
    | true => rfl
    | false => exact dGet_ho x r
theorem intsOf_iV : ∀ l : List Int, intsOf (iV l) = some l
  | [] => rfl
  | x :: r => by
    show (match intsOf (iV r) with | some l => some (x :: l) | none => none) = _
    rw [intsOf_iV r]
/-- the counts that the first hand looks at -/
noncomputable def cnts (n : Int) (ms : List Int) (len : Nat) (hd : List (Int × Int)) : List Int := (len : Int) :: (oth n ms).map (hoD hd)
noncomputable def hbe (n : Int) (ms : List Int) (len : Nat) (hd : List (Int × Int)) : Int := ((srt (cnts n ms len hd)).reverse)[ms.length / 2]?.getD 0
theorem half_idx (n : Nat) : Int.fdiv (n : Int) 2 + 1 - 1 = ((n / 2 : Nat) : Int) := by
  have : Int.fdiv (n : Int) 2 = ((n / 2 : Nat) : Int) := by rw [Int.fdiv_eq_ediv_of_nonneg _ (by decide)]; rfl
  omega
theorem ins_len (x : Int) : ∀ l : List Int, (ins x l).length = l.length + 1
  | [] => rfl
  | y :: r => by
    show (if x ≤ y then x :: y :: r else y :: ins x r).length = _
    by_cases h : x ≤ y
    · rw [if_pos h]; rfl
    · rw [if_neg h]; exact congrArg (· + 1) (ins_len x r)
theorem srt_len : ∀ l : List Int, (srt l).length = l.length
  | [] => rfl
  | x :: r => (ins_len x _).trans (congrArg (· + 1) (srt_len r))
section
variable {Ω : Type} {M : MEnv Ω}
inductive HbeR (as : List SV) (s : Sy Ω) (k : SV → Sy Ω → Prop) : Prop
  | mk {a b g : SC} {fs : List (Nat × SV)} {rw : List V} {hd : List (Int × Int)} {l : List (Nat × SV)} {w : Ω} {ms : List Int} {n : Int} (he : as = [.s 2]) (es : s = ⟨[a, b, .inst 59 fs, g, .list rw, .dict (svs (hoV hd))], l, w⟩)
    (h1 : lk fs 17 = some (.v (.lst (iV ms)))) (h2 : lk fs 109 = some (.v (.int n))) (h3 : lk fs 23 = some (.s 4)) (h4 : lk fs 121 = some (.s 5)) (hz : ms.length ≤ 50) (hn : ms.length / 2 < (oth n ms).length + 1)
    (h : k (.v (.int (hbe n ms rw.length hd))) ⟨[a, b, .inst 59 fs, g, .list rw, .dict (svs (hoV hd)), .list (iV (cnts n ms rw.length hd))], l, w⟩)
inductive HbeI (cs : List SC) (w : Ω) (n : Int) (ms : List Int) (len : Nat) (hd : List (Int × Int)) (xs : List V) (s : Sy Ω) : Prop
  | mk (done rest : List Int) (t : List (Nat × SV)) (hd' : done ++ rest = oth n ms) (hx : xs = iV rest) (hs : s = ⟨cs ++ [.list (iV ((len : Int) :: done.map (hoD hd)))], (108, .s 2) :: (143, .s 6) :: t, w⟩)
noncomputable def spO : Spc Ω := spL [(240, 1, OthR)]
theorem spO_ok : SpOk M tb.P spO := .cons others_e .nil
theorem hbe_e : EnOk M tb.P 241 2 HbeR := EnOk.run spO_ok fun as s k q => by
  obtain ⟨he, es, h1, h2, h3, h4, hz, hn, h⟩ := q
  rename_i a b g fs rw hd l w ms n
  subst he es
  have lo := oth_len n ms
  refine need_i h3 ?_
  refine ⟨by show 1 ≤ 1048576; decide, ?_⟩
  refine OthR.mk rfl rfl h1 h2 (by omega) ?_
  refine .mk (HbeI [a, b, .inst 59 fs, g, .list rw, .dict (svs (hoV hd))] w n ms rw.length hd) ⟨[], oth n ms, [], rfl, rfl, rfl⟩ ⟨fun r s' i => rfl, fun s' i => ?_, fun x xs s' i => ?_⟩
  · obtain ⟨done, rest, t, hd', hx, rfl⟩ := i
    cases rest with
    | cons _ _ => cases hx
    | nil =>
      rw [List.append_nil] at hd'
      subst hd'
      have ln : (cnts n ms rw.length hd).length = (oth n ms).length + 1 := congrArg (· + 1) (List.length_map ..)
      refine need_i (intsOf_iV (cnts n ms rw.length hd)) ?_
      refine ⟨by rw [ln]; omega, ?_⟩
      refine ⟨by rw [List.length_map, List.length_reverse, srt_len, ln]; unfold SZ; omega, ?_⟩
      refine need_i h1 ?_
      refine ⟨by decide, ?_⟩
      have hl : ms.length / 2 < ((srt (cnts n ms rw.length hd)).reverse.map V.int).length := by rw [List.length_map, List.length_reverse, srt_len, ln]; exact hn
      have hl' : ms.length / 2 < (srt (cnts n ms rw.length hd)).reverse.length := by rw [List.length_map] at hl; exact hl
      have hi : pyIdx (Int.fdiv ((iV ms).length : Int) 2 + 1 - 1) ((srt (cnts n ms rw.length hd)).reverse.map V.int).length = some (ms.length / 2) := by rw [iV_len, half_idx]; exact pyIdx_nat hl
      refine need_i hi (need_i (a := .int (hbe n ms rw.length hd)) ?_ ?_)
      · rw [List.getElem?_map, List.getElem?_eq_getElem hl']
        unfold hbe
        rw [List.getElem?_eq_getElem hl']; rfl
      · exact h
  · obtain ⟨done, rest, t, hd', hx, rfl⟩ := i
    cases rest with
    | nil => cases hx
    | cons y rest =>
      cases hx
      refine bind1_i ?_
      refine need_i h4 (need_i (lk_self t) ?_)
      refine Ys_i (keyOk_ho hd y) ?_
      refine need_i (congrArg some (dGet_ho y hd)) ?_
      refine ⟨?_, ?_⟩
      · rw [iV_len, List.length_cons, List.length_map]
        have : done.length ≤ (oth n ms).length := by rw [← hd', List.length_append]; omega
        unfold SZ; omega
      · exact ⟨done ++ [y], rest, _, by rw [List.append_assoc]; exact hd', rfl, by rw [List.map_append]; unfold iV; rw [List.map_cons, List.map_cons, List.map_append]; rfl⟩
end
end Mine

end

section
set_option autoImplicit false
set_option linter.all false
set_option genSizeOf false
set_option genInjectivity false
namespace Mine
open PySem (Str)
/-- what changes in a hand of the first list -/
structure H3 where
  said : Int
  up : Bool
  row : List Msg
  took : Int
  holds : List (Int × Int)
noncomputable def h3 (k : Int) (fi : List Int) (x : H3) : HandS := ⟨k, some 0, 0, fi, x.said, x.up, [], none, x.row, x.took, false, (0, -1), none, none, x.holds⟩
/-- a letter of the first list -/
noncomputable def l3 (n t : Int) (c : Cont) : Letter := ⟨n, t, 0, c⟩
noncomputable def spC {Ω : Type} : Spc Ω := spL [(247, 1, SendR), (240, 1, OthR), (241, 2, HbeR)]
theorem spC_ok {Ω : Type} {M : MEnv Ω} : SpOk M tb.P spC := .cons send_e (.cons others_e (.cons hbe_e .nil))
theorem lV_send {U : List Letter} {n : Int} {ts : List Int} {c : Cont} : lV U ++ (iV ts).map (ltr c.word (.int n) (.int 0) c.v) = lV (U ++ ts.map fun t => l3 n t c) := by
  unfold lV iV
  rw [List.map_append, List.map_map, List.map_map]; rfl
end Mine

end

section
set_option autoImplicit false
set_option linter.all false
set_option genSizeOf false
set_option genInjectivity false
namespace Mine
open PySem (Str)
noncomputable def mx (a b : Int) : Int := if b > a then b else a
noncomputable def mn (a b : Int) : Int := if b < a then b else a
noncomputable def hoS : List (Int × Int) → Int → Int → List (Int × Int)
  | [], x, v => [(x, v)]
  | p :: r, x, v => cond (decide (p.1 = x)) ((p.1, v) :: r) (p :: hoS r x v)
theorem dSet_ho (x v : Int) : ∀ hd : List (Int × Int), dSet (svs (hoV hd)) (.int x) (.v (.int v)) = svs (hoV (hoS hd x v))
  | [] => rfl
  | p :: r => by
    show cond (decide (p.1 = x)) _ (_ :: dSet (svs (hoV r)) (.int x) (.v (.int v))) = svs (hoV (cond (decide (p.1 = x)) ((p.1, v) :: r) (p :: hoS r x v)))
    rw [dSet_ho x v r]
    cases decide (p.1 = x) <;> rfl
theorem hoV_len (hd : List (Int × Int)) : (svs (hoV hd)).length = hd.length := by unfold svs hoV; rw [List.length_map, List.length_map]
theorem mV_len (l : List Msg) : (mV l).length = l.length := List.length_map ..
theorem lV_len (l : List Letter) : (lV l).length = l.length := List.length_map ..
theorem mV_dat : ∀ l : List Msg, (mV l).all (datN 11) = true
  | [] => rfl
  | _ :: r => mV_dat r
/-- the look of the first hand -/
noncomputable def lookF (k : Int) (fi : List Int) (x : H3) (U : List Letter) : H3 × List Letter :=
  cond (decide (x.took < hbe k fi x.row.length x.holds)) ({ x with took := hbe k fi x.row.length x.holds }, U ++ (oth k fi).map fun t => l3 k t (.take (hbe k fi x.row.length x.holds))) (x, U)
end Mine

end

section
set_option autoImplicit false
set_option linter.all false
set_option genSizeOf false
set_option genInjectivity false
namespace Mine
open PySem (Str)
/-- the cells of the folk and a hand of the first list -/
noncomputable def f3 (len : Int) (hs : List SA) (U : List Letter) (k : Int) (fi : List Int) (x : H3) (r : List SC) : List SC := folkC len hs :: .list (lV U) :: handC (h3 k fi x) 3 4 5 (.v .none) :: .list [] :: .list (mV x.row) :: .dict (svs (hoV x.holds)) :: r
section
variable {Ω : Type} {M : MEnv Ω}
inductive LookR (as : List SV) (s : Sy Ω) (k : SV → Sy Ω → Prop) : Prop
  | mk {len : Int} {hs : List SA} {U : List Letter} {n : Int} {fi : List Int} {x : H3} {l : List (Nat × SV)} {w : Ω} (he : as = [.s 0, .s 2]) (es : s = ⟨f3 len hs U n fi x [], l, w⟩) (hz : fi.length ≤ 50) (hn : fi.length / 2 < (oth n fi).length + 1) (hU : U.length + 50 ≤ SZ)
    (h : ∀ c, k (.v .none) ⟨f3 len hs (lookF n fi x U).2 n fi (lookF n fi x U).1 [c], l, w⟩)
theorem gv_int {fz : Bool} {k : SV → Sy Ω → Prop} {i : Int} {s : Sy Ω} (h : k (.v (.int i)) s) : giveVS fz k (.v (.int i)) s := by cases fz <;> exact h
theorem look_e : EnOk M tb.P 256 4 LookR := EnOk.run spC_ok fun as s k q => by
  obtain ⟨he, es, hz, hn, hU, h⟩ := q
  rename_i len hs U n fi x l w
  subst he es
  have lo := oth_len n fi
  have eb : hbe n fi (mV x.row).length x.holds = hbe n fi x.row.length x.holds := by rw [mV_len]
  unfold lookF at h
  rw [← eb] at h
  refine HbeR.mk rfl rfl rfl rfl rfl rfl hz hn (gv_int ?_)
  refine Br_i (fun c => ?_) (fun c => ?_)
  · have c : decide (x.took < hbe n fi (mV x.row).length x.holds) = true := c
    rw [c] at h
    refine OthR.mk (ms := fi) (n := n) rfl rfl rfl rfl (by omega) ?_
    refine SendR.mk rfl rfl rfl rfl (by show (lV U).length + (iV (oth n fi)).length ≤ SZ; rw [lV_len, iV_len]; omega) ?_
    have h := h (.list (iV (cnts n fi (mV x.row).length x.holds)))
    have e : lV U ++ (iV (oth n fi)).map (ltr w_take (.int n) (.int 0) (.int (hbe n fi (mV x.row).length x.holds))) = lV (U ++ (oth n fi).map fun t => l3 n t (.take (hbe n fi (mV x.row).length x.holds))) := lV_send (c := .take (hbe n fi (mV x.row).length x.holds))
    have h : k (.v .none) ⟨folkC len hs :: .list (lV (U ++ (oth n fi).map fun t => l3 n t (.take (hbe n fi (mV x.row).length x.holds)))) :: handC (h3 n fi { x with took := hbe n fi (mV x.row).length x.holds }) 3 4 5 (.v .none) :: .list [] :: .list (mV x.row) :: .dict (svs (hoV x.holds)) :: [.list (iV (cnts n fi (mV x.row).length x.holds))], l, w⟩ := h
    rw [← e] at h
    exact h
  · have c : decide (x.took < hbe n fi (mV x.row).length x.holds) = false := c
    rw [c] at h
    exact h _
end
end Mine

end

section
set_option autoImplicit false
set_option linter.all false
set_option genSizeOf false
set_option genInjectivity false
namespace Mine
open PySem (Str)
theorem eq2 {α β : Type} {f : α → α → β} {a a' b b' : α} (h : a = a') (h' : b = b') : f a b = f a' b' := by subst h; subst h'; rfl
noncomputable def spD {Ω : Type} : Spc Ω := spL [(247, 1, SendR), (240, 1, OthR), (256, 4, LookR)]
theorem spD_ok {Ω : Type} {M : MEnv Ω} : SpOk M tb.P spD := .cons send_e (.cons others_e (.cons look_e .nil))
section
variable {len : Int} {as : List HA} {i : Nat} (hi : i < as.length) {U : List Letter} {fi : List Int} {x : H3}
include hi
theorem come_down {n : Int} {c : Cont} (hu : x.up = false) : callX tb.P spD 7 251 [.s 0, .v (.int 0)] ⟨fcs len (hsA i 0 as) (l3 n i c :: U) (hcs (h3 i fi x) ++ exC none), [], ()⟩ (FinV len (hsA i 0 as) none (h3 i fi x) fun rv h' U' => rv = .v .none ∧ h' = h3 i fi x ∧ U' = U) := by
  have hk' : (hsA i 0 as)[i]? = some (.s 2) := hsA_at (Nat.zero_add i) hi
  have hl : i < (hsA i 0 as).length := by rw [hsA_len]; exact hi
  obtain ⟨sd, up, row, took, hd⟩ := x
  cases hu
  refine need_i (pyIdx_nat (n := 0) (Nat.succ_pos _)) (need_i (a := (l3 n i c).v) rfl ?_)
  refine need_i (pyIdx_nat (n := 0) (Nat.succ_pos _)) (need_i (a := (l3 n i c).v) rfl ?_)
  refine need_i (pyIdx_nat hl) (need_i hk' ?_)
  exact .mk (js := ⟨2, 3, 4, 5, none⟩) (o := .v .none) ⟨rfl, rfl, ⟨rfl, rfl, rfl, rfl, .none⟩, by decide, rfl, .none⟩ (.v _) ⟨rfl, rfl, rfl⟩
end
section
variable {len : Int} {as : List HA} {i : Nat} (hi : i < as.length) {U : List Letter} {fi : List Int} {x : H3} (hu : x.up = true)
include hi hu
set_option maxRecDepth 20000 in
theorem come_take {n m : Int} : callX tb.P spD 7 251 [.s 0, .v (.int 0)] ⟨fcs len (hsA i 0 as) (l3 n i (.take m) :: U) (hcs (h3 i fi x) ++ exC none), [], ()⟩ (FinV len (hsA i 0 as) none (h3 i fi x) fun rv h' U' => rv = .v .none ∧ h' = h3 i fi { x with took := mx x.took (mn m x.row.length) } ∧ U' = U) := by
  have hk' : (hsA i 0 as)[i]? = some (.s 2) := hsA_at (Nat.zero_add i) hi
  have hl : i < (hsA i 0 as).length := by rw [hsA_len]; exact hi
  obtain ⟨sd, up, row, took, hd⟩ := x
  cases hu
  refine need_i (pyIdx_nat (n := 0) (Nat.succ_pos _)) (need_i (a := (l3 n i (.take m)).v) rfl ?_)
  refine need_i (pyIdx_nat (n := 0) (Nat.succ_pos _)) (need_i (a := (l3 n i (.take m)).v) rfl ?_)
  refine need_i (pyIdx_nat hl) (need_i hk' ?_)
  exact .mk (js := ⟨2, 3, 4, 5, none⟩) (o := .v .none) (h' := h3 i fi ⟨sd, true, row, mx took (mn m (mV row).length), hd⟩) ⟨rfl, rfl, ⟨rfl, rfl, rfl, rfl, .none⟩, by decide, rfl, .none⟩ (.v _) ⟨rfl, by rw [mV_len], rfl⟩
set_option maxRecDepth 20000 in
theorem come_hold {n : Int} {m : Msg} (hz : U.length + 1 ≤ SZ) (hr : x.row.length < 1000) : callX tb.P spD 7 251 [.s 0, .v (.int 0)] ⟨fcs len (hsA i 0 as) (l3 n i (.hold m x.row.length) :: U) (hcs (h3 i fi x) ++ exC none), [], ()⟩ (FinV len (hsA i 0 as) none (h3 i fi x) fun rv h' U' => rv = .v .none ∧ h' = h3 i fi { x with row := x.row ++ [m] } ∧ U' = U ++ [l3 i n (.have_ (x.row.length + 1))]) := by
  have hk' : (hsA i 0 as)[i]? = some (.s 2) := hsA_at (Nat.zero_add i) hi
  have hl : i < (hsA i 0 as).length := by rw [hsA_len]; exact hi
  obtain ⟨sd, up, row, took, hd⟩ := x
  cases hu
  refine need_i (pyIdx_nat (n := 0) (Nat.succ_pos _)) (need_i (a := (l3 n i (.hold m row.length)).v) rfl ?_)
  refine need_i (pyIdx_nat (n := 0) (Nat.succ_pos _)) (need_i (a := (l3 n i (.hold m row.length)).v) rfl ?_)
  refine need_i (pyIdx_nat hl) (need_i hk' ?_)
  refine Br_i (fun c => ?_) (fun c => ?_)
  · have c := of_decide_eq_true (p := ((mV row).length : Int) < (row.length : Int)) c
    rw [mV_len] at c; omega
  refine Br_i (fun c => ?_) (fun c => ?_)
  · refine ⟨by rw [mV_len]; exact Nat.lt_trans hr (by decide), ?_⟩
    refine ⟨by show 1 ≤ 1048576; decide, ?_⟩
    refine SendR.mk rfl rfl rfl rfl (by show (lV U).length + 1 ≤ SZ; rw [lV_len]; exact hz) ?_
    refine .mk (js := ⟨2, 3, 4, 5, none⟩) (o := .v .none) (h' := h3 i fi ⟨sd, true, row ++ [m], took, hd⟩) (U' := U ++ [l3 i n (.have_ (row.length + 1))]) ⟨rfl, ?_, ⟨rfl, rfl, ?_, rfl, .none⟩, by decide, rfl, .none⟩ (.v _) ⟨rfl, rfl, rfl⟩
    · show some (SC.list (lV U ++ [ltr w_have (.int i) (.int 0) (.int ((mV row ++ [m.v]).length)) (.int n)])) = some (SC.list (lV (U ++ [l3 i n (.have_ (row.length + 1))])))
      rw [List.length_append, mV_len]
      unfold lV
      rw [List.map_append]; rfl
    · show some (SC.list (mV row ++ [m.v])) = some (SC.list (mV (row ++ [m])))
      unfold mV
      rw [List.map_append]; rfl
  · have : decide ((row.length : Int) = ((mV row).length : Int)) = true := by rw [mV_len]; exact decide_eq_true rfl
    cases this.symm.trans c
end
section
variable {len : Int} {as : List HA} {i : Nat} (hi : i < as.length) {U : List Letter} {fi : List Int} {x : H3} (hu : x.up = true) (hz : fi.length ≤ 50) (hn : fi.length / 2 < (oth i fi).length + 1)
include hi hu hz hn
set_option maxRecDepth 20000 in
theorem come_have {n m : Int} (hU : U.length + 50 ≤ SZ) (hh : x.holds.length < 1000) : callX tb.P spD 7 251 [.s 0, .v (.int 0)] ⟨fcs len (hsA i 0 as) (l3 n i (.have_ m) :: U) (hcs (h3 i fi x) ++ exC none), [], ()⟩ (FinV len (hsA i 0 as) none (h3 i fi x) fun rv h' U' => rv = .v .none ∧ h' = h3 i fi (lookF i fi { x with holds := hoS x.holds n (mx m (hoD x.holds n)) } U).1 ∧ U' = (lookF i fi { x with holds := hoS x.holds n (mx m (hoD x.holds n)) } U).2) := by
  have hk' : (hsA i 0 as)[i]? = some (.s 2) := hsA_at (Nat.zero_add i) hi
  have hl : i < (hsA i 0 as).length := by rw [hsA_len]; exact hi
  obtain ⟨sd, up, row, took, hd⟩ := x
  cases hu
  refine need_i (pyIdx_nat (n := 0) (Nat.succ_pos _)) (need_i (a := (l3 n i (.have_ m)).v) rfl ?_)
  refine need_i (pyIdx_nat (n := 0) (Nat.succ_pos _)) (need_i (a := (l3 n i (.have_ m)).v) rfl ?_)
  refine need_i (pyIdx_nat hl) (need_i hk' ?_)
  refine Ys_i (keyOk_ho hd n) ?_
  refine need_i (congrArg some (dGet_ho n hd)) ?_
  refine Ys_i (keyOk_ho hd n) ?_
  refine ⟨by rw [hoV_len]; exact Nat.lt_trans hh (by decide), ?_⟩
  refine LookR.mk (len := len) (hs := hsA i 0 as) (U := U) (n := i) (fi := fi) (x := ⟨sd, true, row, took, hoS hd n (mx m (hoD hd n))⟩) (w := ()) rfl
    (congrArg (fun D => (⟨folkC len (hsA i 0 as) :: .list (lV U) :: handC (h3 i fi ⟨sd, true, row, took, hd⟩) 3 4 5 (.v .none) :: .list [] :: .list (mV row) :: .dict D :: [], _, ()⟩ : Sy Unit)) (dSet_ho n (mx m (hoD hd n)) hd)) hz hn hU fun c => ?_
  have key : ∀ y : H3, ∀ V', (lookF i fi ⟨sd, true, row, took, hoS hd n (mx m (hoD hd n))⟩ U) = (y, V') → FinOk len (hsA i 0 as) 6 none (h3 i fi y) V' (f3 len (hsA i 0 as) V' i fi y [c]) ⟨2, 3, 4, 5, none⟩ (.v .none) := fun y V' _ => ⟨rfl, rfl, ⟨rfl, rfl, rfl, rfl, .none⟩, by decide, rfl, .none⟩
  exact .mk (key _ _ rfl) (.v _) ⟨rfl, rfl, rfl⟩
set_option maxRecDepth 20000 in
theorem come_wish {n : Int} {m : Msg} (hU : U.length + 100 ≤ SZ) (hr : x.row.length < 1000) (hnew : ((mV x.row).any fun z => eqD z m.v) = false) : callX tb.P spD 7 251 [.s 0, .v (.int 0)] ⟨fcs len (hsA i 0 as) (l3 n i (.wish m) :: U) (hcs (h3 i fi x) ++ exC none), [], ()⟩ (FinV len (hsA i 0 as) none (h3 i fi x) fun rv h' U' => rv = .v .none ∧ h' = h3 i fi (lookF i fi { x with row := x.row ++ [m] } (U ++ (oth i fi).map fun t => l3 i t (.hold m x.row.length))).1 ∧ U' = (lookF i fi { x with row := x.row ++ [m] } (U ++ (oth i fi).map fun t => l3 i t (.hold m x.row.length))).2) := by
  have hk' : (hsA i 0 as)[i]? = some (.s 2) := hsA_at (Nat.zero_add i) hi
  have hl : i < (hsA i 0 as).length := by rw [hsA_len]; exact hi
  have lo := oth_len i fi
  obtain ⟨sd, up, row, took, hd⟩ := x
  cases hu
  have eA : lV U ++ (iV (oth i fi)).map (ltr w_hold (.int i) (.int 0) (.tup [m.v, .int (((mV row ++ [m.v]).length : Int) - 1)])) = lV (U ++ (oth i fi).map fun t => l3 i t (.hold m row.length)) := by
    rw [show (((mV row ++ [m.v]).length : Int) - 1) = row.length by rw [List.length_append, mV_len]; show ((row.length + 1 : Nat) : Int) - 1 = _; omega]
    exact lV_send (c := .hold m row.length)
  have eB : mV row ++ [m.v] = mV (row ++ [m]) := by unfold mV; rw [List.map_append]; rfl
  refine need_i (pyIdx_nat (n := 0) (Nat.succ_pos _)) (need_i (a := (l3 n i (.wish m)).v) rfl ?_)
  refine need_i (pyIdx_nat (n := 0) (Nat.succ_pos _)) (need_i (a := (l3 n i (.wish m)).v) rfl ?_)
  refine need_i (pyIdx_nat hl) (need_i hk' ?_)
  refine Ys_i (mV_dat row) ?_
  refine Br_i (fun c => nomatch hnew.symm.trans c) (fun c => ?_)
  refine ⟨by rw [mV_len]; exact Nat.lt_trans hr (by decide), ?_⟩
  refine OthR.mk (ms := fi) (n := i) rfl rfl rfl rfl (by omega) ?_
  refine SendR.mk rfl rfl rfl rfl (by show (lV U).length + (iV (oth i fi)).length ≤ SZ; rw [lV_len, iV_len]; omega) ?_
  refine LookR.mk (len := len) (hs := hsA i 0 as) (U := U ++ (oth i fi).map fun t => l3 i t (.hold m row.length)) (n := i) (fi := fi) (x := ⟨sd, true, row ++ [m], took, hd⟩) (w := ()) rfl
    (eq2 (f := fun A B => (⟨folkC len (hsA i 0 as) :: .list A :: handC (h3 i fi ⟨sd, true, row, took, hd⟩) 3 4 5 (.v .none) :: .list [] :: .list B :: .dict (svs (hoV hd)) :: [], _, ()⟩ : Sy Unit)) eA eB) hz hn (by rw [List.length_append, List.length_map]; omega) fun c => ?_
  have key : ∀ y : H3, ∀ V', (lookF i fi ⟨sd, true, row ++ [m], took, hd⟩ (U ++ (oth i fi).map fun t => l3 i t (.hold m row.length))) = (y, V') → FinOk len (hsA i 0 as) 6 none (h3 i fi y) V' (f3 len (hsA i 0 as) V' i fi y [c]) ⟨2, 3, 4, 5, none⟩ (.v .none) := fun y V' _ => ⟨rfl, rfl, ⟨rfl, rfl, rfl, rfl, .none⟩, by decide, rfl, .none⟩
  exact .mk (key _ _ rfl) (.v _) ⟨rfl, rfl, rfl⟩
end
end Mine

end

section
set_option autoImplicit false
set_option linter.all false
set_option genSizeOf false
set_option genInjectivity false
namespace Mine
open PySem (Str)
abbrev St3 := Nat → H3
noncomputable def up3 (st : St3) (i : Nat) (x : H3) : St3 := fun j => if j = i then x else st j
/-- the folk of the first list -/
noncomputable def folk3 (mm : Nat) (fi : List Int) (st : St3) (U : List Letter) : FolkS := ⟨(List.range mm).map fun (k : Nat) => cond (fi.contains (k : Int)) (h3 k fi (st k)) (hand0 k), U⟩
theorem f3_at {mm : Nat} {fi : List Int} {st : St3} {U : List Letter} {i : Nat} (hi : i < mm) (hc : fi.contains (i : Int) = true) : (folk3 mm fi st U).hands[i]? = some (h3 i fi (st i)) := by
  show (List.map _ (List.range mm))[i]? = _
  rw [List.getElem?_map, List.getElem?_range hi]
  show some (cond (fi.contains (i : Int)) _ _) = _
  rw [hc]; rfl
theorem f3_len {mm : Nat} {fi : List Int} {st : St3} {U : List Letter} : (folk3 mm fi st U).hands.length = mm := by
  show (List.map _ (List.range mm)).length = _
  rw [List.length_map, List.length_range]
theorem f3_set {mm : Nat} {fi : List Int} {st : St3} {U U' : List Letter} {i : Nat} {x : H3} (hi : i < mm) (hc : fi.contains (i : Int) = true) : (⟨(folk3 mm fi st U).hands.set i (h3 i fi x), U'⟩ : FolkS) = folk3 mm fi (up3 st i x) U' := by
  refine congrArg (fun h => (⟨h, U'⟩ : FolkS)) (List.ext_getElem? fun j => ?_)
  show ((List.map _ (List.range mm)).set i _)[j]? = (List.map _ (List.range mm))[j]?
  rw [List.getElem?_set, List.getElem?_map, List.getElem?_map, List.length_map, List.length_range]
  by_cases e : i = j
  · subst e
    rw [if_pos rfl, if_pos hi, List.getElem?_range hi]
    show _ = some (cond (fi.contains (i : Int)) (h3 i fi (if i = i then x else st i)) _)
    rw [hc, if_pos rfl]; rfl
  · rw [if_neg e]
    by_cases l : j < mm
    · rw [List.getElem?_range l]
      show some (cond _ (h3 j fi (st j)) _) = some (cond _ (h3 j fi (if j = i then x else st j)) _)
      rw [if_neg fun z => e z.symm]
    · rw [List.getElem?_eq_none (by rw [List.length_range]; omega)]; rfl
/-- a letter comes -/
inductive Step3 (fi : List Int) (st : St3) (U : List Letter) (i : Nat) (n : Int) : Cont → St3 → List Letter → Prop
  | down (c : Cont) (h : (st i).up = false) : Step3 fi st U i n c (up3 st i (st i)) U
  | take (m : Int) (h : (st i).up = true) : Step3 fi st U i n (.take m) (up3 st i { st i with took := mx (st i).took (mn m (st i).row.length) }) U
  | hold (m : Msg) (h : (st i).up = true) : Step3 fi st U i n (.hold m (st i).row.length) (up3 st i { st i with row := (st i).row ++ [m] }) (U ++ [l3 i n (.have_ ((st i).row.length + 1))])
  | have_ (m : Int) (h : (st i).up = true) : Step3 fi st U i n (.have_ m) (up3 st i (lookF i fi { st i with holds := hoS (st i).holds n (mx m (hoD (st i).holds n)) } U).1) (lookF i fi { st i with holds := hoS (st i).holds n (mx m (hoD (st i).holds n)) } U).2
  | wish (m : Msg) (h : (st i).up = true) (hn : ((mV (st i).row).any fun z => eqD z m.v) = false) : Step3 fi st U i n (.wish m) (up3 st i (lookF i fi { st i with row := (st i).row ++ [m] } (U ++ (oth i fi).map fun t => l3 i t (.hold m (st i).row.length))).1) (lookF i fi { st i with row := (st i).row ++ [m] } (U ++ (oth i fi).map fun t => l3 i t (.hold m (st i).row.length))).2
/-- the folk at a slot -/
structure F3At (s : Sy (Option FolkW)) (j mm : Nat) (fi : List Int) (st : St3) (U : List Letter) (w : FolkW) : Prop where
  hw : s.w = some w
  hj : ∃ fs, at_ s.cs j = some (.w 60 fs)
  hS : w.S = folk3 mm fi st U
theorem F3At.dn {R : Nat → Prop} {g : Nat → Option C} {s : Sy (Option FolkW)} {j mm : Nat} {fi : List Int} {st : St3} {U : List Letter} {w : FolkW} (B : F3At s j mm fi st U w) {ad : List Nat} {σ : St} (m : Mt (MF R g) ad s σ) : ad[j]? = some w.f := B.hj.elim fun fs h => (m.folk B.hw h).1
theorem F3At.foc {R : Nat → Prop} {g : Nat → Option C} {s : Sy (Option FolkW)} {j mm : Nat} {fi : List Int} {st : St3} {U : List Letter} {w : FolkW} (B : F3At s j mm fi st U w) {ad : List Nat} {σ : St} (m : Mt (MF R g) ad s σ) {i : Nat} (hi : i < mm) (hc : fi.contains (i : Int) = true) :
    ∃ a, w.as[i]? = some a ∧ i < w.as.length ∧ (w.as.length : Int) = w.S.hands.length ∧ w.S.hands[i]? = some (h3 i fi (st i)) := m.rep B.hw fun RW _ _ => by
  have e : w.as.length = mm := by rw [RW.len, B.hS, f3_len]
  have l : i < w.as.length := by omega
  exact ⟨_, List.getElem?_eq_getElem l, l, by rw [RW.len], by rw [B.hS]; exact f3_at hi hc⟩
inductive ComeR (as : List SV) (s : Sy (Option FolkW)) (k : SV → Sy (Option FolkW) → Prop) : Prop
  | mk {j mm i : Nat} {n : Int} {c : Cont} {fi : List Int} {st st' : St3} {U U' : List Letter} {w : FolkW} (he : as = [.s j, .v (.int 0)]) (B : F3At s j mm fi st (l3 n i c :: U) w) (hi : i < mm) (hc : fi.contains (i : Int) = true) (hz : fi.length ≤ 50) (hn : fi.length / 2 < (oth i fi).length + 1)
    (hU : U.length + 100 ≤ SZ) (hr : (st i).row.length < 1000) (hh : (st i).holds.length < 1000) (q : Step3 fi st U i n c st' U') (h : ∀ w' : FolkW, w'.S = folk3 mm fi st' U' → k (.v .none) (s.withW (some w')))
theorem dnf' {ad : List Nat} {j f : Nat} {x : V} {vs : List V} {G : List V → Prop} (h : ad[j]? = some f) (d : DnL ad [.s j, .v x] vs) (g : G [.ref f, x]) : G vs := by
  cases d with | cons d1 d =>
  cases d with | cons d2 d =>
  cases d
  cases d1.symm.trans (dn_at h)
  cases d2
  exact g
theorem come_e {R : Nat → Prop} {g : Nat → Option C} : EnOk (MF R g) tb.P 251 7 ComeR := fun n' f' as s k ad σ vs Q q m d hk => by
  obtain ⟨rfl, q⟩ := q
  obtain ⟨cs, l0, w0⟩ := s
  obtain ⟨he, B, hi, hc, hz, hn, hU, hr, hh, q, h⟩ := q
  rename_i j mm i n c fi st st' U U' w
  subst he
  obtain ⟨a, ha, hl, e1, hh'⟩ := B.foc m hi hc
  have hd := B.dn m
  obtain ⟨fs, hj⟩ := B.hj
  have eU : w.S.under = l3 n i c :: U := by rw [B.hS]; rfl
  refine dnf' (G := fun vs => CW tb.P (7 + n') 251 vs σ.H Q) hd d ?_
  have fin : ∀ {y : H3} {V' : List Letter} {w' : FolkW}, w'.S = ⟨w.S.hands.set i (h3 i fi y), V'⟩ → w'.S = folk3 mm fi (up3 st i y) V' := fun {y V' w'} hS => hS.trans (by rw [B.hS]; exact f3_set hi hc)
  have go : ∀ {y : H3} {V' : List Letter}, callX tb.P spD 7 251 [.s 0, .v (.int 0)] ⟨fcs w.S.hands.length (hsA i 0 w.as) w.S.under (hcs (h3 i fi (st i)) ++ exC none), [], ()⟩ (FinV w.S.hands.length (hsA i 0 w.as) none (h3 i fi (st i)) fun rv h' U' => rv = .v .none ∧ h' = h3 i fi y ∧ U' = V') →
      st' = up3 st i y → U' = V' → CW tb.P (7 + n') 251 [.ref w.f, .int 0] σ.H Q := fun {y V'} run e1 e2 => by
    refine meth_foc m B.hw hj ha hh' .none (fun _ => spD_ok) n' (as := [.v (.int 0)]) (.cons rfl .nil) run (fun rv h' U' G w' hS => ?_) hk
    obtain ⟨rfl, rfl, rfl⟩ := G
    exact h w' (by rw [e1, e2]; exact fin hS)
  rw [eU] at go
  cases q with
  | down c hu => exact go (come_down hl hu) rfl rfl
  | take v hu => exact go (come_take hl hu) rfl rfl
  | hold v hu => exact go (come_hold hl hu (by omega) hr) rfl rfl
  | have_ v hu => exact go (come_have hl hu hz hn (by omega) hh) rfl rfl
  | wish v hu hw => exact go (come_wish hl hu hz hn hU hr hw) rfl rfl
end Mine

end

section
set_option autoImplicit false
set_option linter.all false
set_option genSizeOf false
set_option genInjectivity false
namespace Mine
open PySem (Str)
/-- letters come till none is under way -/
inductive Runs3 (mm : Nat) (fi : List Int) : St3 → List Letter → Nat → St3 → Prop
  | nil (st : St3) : Runs3 mm fi st [] 0 st
  | step {st st₁ st' : St3} {U U₁ : List Letter} {i k : Nat} {n : Int} {c : Cont} (hi : i < mm) (hc : fi.contains (i : Int) = true) (hn : fi.length / 2 < (oth i fi).length + 1) (hU : U.length + 100 ≤ SZ) (hr : (st i).row.length < 1000) (hh : (st i).holds.length < 1000) (q : Step3 fi st U i n c st₁ U₁) (r : Runs3 mm fi st₁ U₁ k st') : Runs3 mm fi st (l3 n i c :: U) (k + 1) st'
theorem meth_w {P : Prog} {K : CT} {fz : Bool} {l n f k fn : Nat} {as : PEs} {σ : St} {fs : List (Nat × V)} {cl : Cl} {Q : V → St → Prop} (h1 : σ.loc l = some (.ref f)) (h2 : σ.H.get f = some (.inst k fs)) (h3 : P.cls k = some cl) (h4 : lk cl.meths n = some fn) (h : wpEs P K as σ fun vs σ₂ => callF P K fz σ₂ (.fn fn) (.ref f :: vs) Q) : wpE P K (.meth fz (.loc l) n as) σ Q := by
  refine need_i h1 (need_i (o := aRef (.ref f)) rfl ?_)
  show (match σ.H.get f with
    | some (.inst k _) => need (P.cls k) fun c => need (lk c.meths n) fun f' => wpEs P K as σ fun vs σ₂ => callF P K fz σ₂ (.fn f') (.ref f :: vs) Q
    | some (.list _) => Nd ((Nat.beq n P.nAppend || Nat.beq n P.nPop) = true) (wpEs P K as σ fun vs σ₂ => need (cL (σ₂.H.get f)) fun xs => methL P σ₂ f n vs xs Q)
    | some (.dict _) => Nd (Nat.beq n P.nGet = true) (wpEs P K as σ fun vs σ₂ => need (cD (σ₂.H.get f)) fun kvs => methD P σ₂ f n vs kvs Q)
    | _ => False)
  rw [h2]
  exact need_i h3 (need_i h4 h)
section
variable {R : Nat → Prop} {g : Nat → Option C} {K : CT} (hK : CallOk (MF R g) (fun g' as s k => g' = 251 ∧ ComeR as s k) K) {mm : Nat} {fi : List Int} (hz : fi.length ≤ 50) {ad : List Nat} {cs : List SC} {j f : Nat} {fs : List (Nat × V)} (hj : at_ cs j = some (.w 60 fs)) (hf : ad[j]? = some f)
include hK hz hj hf
theorem calm_go {st st' : St3} {U : List Letter} {k : Nat} (r : Runs3 mm fi st U k st') : ∀ {w : FolkW} {σ : St} {z : Int} {Q : Flow → St → Prop}, Mt (MF R g) ad ⟨cs, [], some w⟩ σ → w.S = folk3 mm fi st U → σ.loc 108 = some (.ref f) → σ.loc 18 = some (.int z) →
    (∀ (w' : FolkW) (σ' : St), Mt (MF R g) ad ⟨cs, [], some w'⟩ σ' → w'.S = folk3 mm fi st' [] → σ'.loc 18 = some (.int (z + k)) → Q .next σ') →
    whileGo (fun σ₁ k => wpT tb.P K (.e (.attr (.loc 108) 124)) σ₁ k) (fun σ₁ k => wpSs tb.P K L_Folk_calm_1 σ₁ k) (k + 1) σ Q := by
  induction r with
  | nil st =>
    intro w σ z Q m hS l1 l2 h
    have ff := m.folk rfl hj
    have ef : f = w.f := Option.some.inj (hf.symm.trans ff.1)
    refine m.rep rfl fun RW _ _ => ?_
    have hu : σ.H.get w.u = some (.list []) := by rw [RW.und, hS]; rfl
    refine need_i l1 (need_i (o := aRef (.ref f)) rfl (need_i (a := (60, folkF w)) (by rw [ef, ff.2]; rfl) (need_i (a := .ref w.u) rfl ?_)))
    refine need_i (a := .lst []) (by show mL (cL (σ.H.get w.u)) = _; rw [hu]; rfl) ?_
    exact h w σ m hS (by rw [l2]; congr 2; omega)
  | @step st st₁ st' U U₁ i k n c hi hc hn hU hr hh q r ih =>
    intro w σ z Q m hS l1 l2 h
    have ff := m.folk rfl hj
    have ef : f = w.f := Option.some.inj (hf.symm.trans ff.1)
    refine m.rep rfl fun RW _ _ => ?_
    have hu : σ.H.get w.u = some (.list (lV (l3 n i c :: U))) := by rw [RW.und, hS]; rfl
    refine need_i l1 (need_i (o := aRef (.ref f)) rfl (need_i (a := (60, folkF w)) (by rw [ef, ff.2]; rfl) (need_i (a := .ref w.u) rfl ?_)))
    refine need_i (a := .lst (lV (l3 n i c :: U))) (by show mL (cL (σ.H.get w.u)) = _; rw [hu]; rfl) ?_
    show wpSs tb.P K L_Folk_calm_1 σ _
    refine meth_w (f := f) (fn := 251) l1 (by rw [ef]; exact ff.2) rfl rfl ?_
    refine hK 251 [.s j, .v (.int 0)] ⟨cs, [], some w⟩ (fun v s' => v = .v .none ∧ ∃ w', s' = ⟨cs, [], some w'⟩ ∧ w'.S = folk3 mm fi st₁ U₁) ad σ _ _ ⟨rfl, ComeR.mk rfl ⟨rfl, ⟨_, hj⟩, hS⟩ hi hc hz hn hU hr hh q fun w' hS' => ⟨rfl, w', rfl, hS'⟩⟩ m (.cons (dn_at hf) (.cons rfl .nil)) (fun v s' ad' σ' u x m' dv q e => ?_)
    obtain ⟨rfl, w', rfl, hS'⟩ := q
    cases dv
    cases x.same (n := cs.length) m.len m'.len
    have m'' : Mt (MF R g) ad ⟨cs, [], some w'⟩ (σ.setH σ'.H) := m'.withLoc fun i sv h => (nomatch h)
    refine need_i l2 ?_
    refine ih (σ := (σ.setH σ'.H).put 18 (.int (z + 1))) (z := z + 1) (m''.withLoc fun i sv h => (nomatch h)) hS' l1 rfl fun w₂ σ₂ m₂ hS₂ l₂ => h w₂ σ₂ m₂ hS₂ (by rw [l₂]; congr 2; omega)
end
end Mine

end

section
set_option autoImplicit false
set_option linter.all false
set_option genSizeOf false
set_option genInjectivity false
namespace Mine
open PySem (Str)
inductive CalmR (as : List SV) (s : Sy (Option FolkW)) (k : SV → Sy (Option FolkW) → Prop) : Prop
  | mk {j mm n : Nat} {fi : List Int} {st st' : St3} {U : List Letter} {w : FolkW} (he : as = [.s j]) (B : F3At s j mm fi st U w) (hz : fi.length ≤ 50) (r : Runs3 mm fi st U n st') (h : ∀ w' : FolkW, w'.S = folk3 mm fi st' [] → k (.v (.int n)) (s.withW (some w')))
theorem calm_e {R : Nat → Prop} {g : Nat → Option C} : EnOk (MF R g) tb.P 252 8 CalmR := fun n' f' as s k ad σ vs Q q m d hk => by
  obtain ⟨rfl, q⟩ := q
  obtain ⟨cs, l0, w0⟩ := s
  obtain ⟨he, B, hz, r, h⟩ := q
  rename_i j mm n fi st st' U w
  subst he
  cases B.hw
  have hd := B.dn m
  obtain ⟨fs, hj⟩ := B.hj
  cases d with | cons d1 d =>
  cases d
  cases d1.symm.trans (dn_at hd)
  rw [Nat.add_comm]
  refine CW_s (n := n' + 7) ?_
  refine need_i (a := F_Folk_calm) rfl (need_i (a := upd (fun _ => none) 108 (.ref w.f)) rfl ?_)
  have m0 : Mt (MF R g) ad ⟨cs, [], some w⟩ ⟨σ.H, upd (upd (fun _ => none) 108 (.ref w.f)) 18 (.int 0)⟩ := m.withLoc fun i sv h => (nomatch h)
  refine ⟨n + 1, calm_go (K := CW tb.P (n' + 7)) (Nat.add_comm 7 n' ▸ come_e n') hz hj hd r m0 B.hS rfl rfl fun w' σ' m' hS' l => ?_⟩
  refine need_i l ?_
  rw [Int.zero_add] at *
  exact hk (.v (.int n)) _ ad (σ.setH σ'.H) _ (.refl _) (m'.withLoc m.loc) rfl (h w' hS') rfl
section
variable {len : Int} {as : List HA} {i : Nat} (hi : i < as.length) (hl : (as.length : Int) = len) {U : List Letter} {fi : List Int} {x : H3}
include hi hl
theorem say_x {a : Int} {r : List Int} {wd : Str} (hf : fi = a :: r) (hu : x.up = true) (hU : U.length + 1 ≤ SZ) : callX tb.P spD 4 248 [.s 0, .v (.int i), .v (.str wd)] ⟨fcs len (hsA i 0 as) U (hcs (h3 i fi x) ++ exC none), [], ()⟩ (FinV len (hsA i 0 as) none (h3 i fi x) fun rv h' U' => rv = .v .none ∧ h' = h3 i fi { x with said := x.said + 1 } ∧ U' = U ++ [l3 i a (.wish ⟨i, x.said, wd⟩)]) := by
  have hk' : (hsA i 0 as)[i]? = some (.s 2) := hsA_at (Nat.zero_add i) hi
  have hl' : i < (hsA i 0 as).length := by rw [hsA_len]; exact hi
  obtain ⟨sd, up, row, took, hd⟩ := x
  cases hu
  subst hf
  refine Br_i (fun c => absurd (of_decide_eq_true (p := len ≤ (i : Int)) c) (by omega)) (fun c => ?_)
  refine need_i (pyIdx_nat hl') (need_i hk' ?_)
  refine ⟨⟨by decide, by decide⟩, ?_⟩
  refine ⟨by show 1 ≤ 1048576; decide, ?_⟩
  refine SendR.mk rfl rfl rfl rfl (by show (lV U).length + 1 ≤ SZ; rw [lV_len]; exact hU) ?_
  refine .mk (js := ⟨2, 3, 4, 5, none⟩) (o := .v .none) (h' := h3 i (a :: r) ⟨sd + 1, true, row, took, hd⟩) (U' := U ++ [l3 i a (.wish ⟨i, sd, wd⟩)]) ⟨rfl, ?_, ⟨rfl, rfl, rfl, rfl, .none⟩, by decide, rfl, .none⟩ (.v _) ⟨rfl, rfl, rfl⟩
  show some (SC.list (lV U ++ [ltr w_wish (.int i) (.int 0) (Msg.v ⟨i, sd, wd⟩) (.int a)])) = some (SC.list (lV (U ++ [l3 i a (.wish ⟨i, sd, wd⟩)])))
  unfold lV
  rw [List.map_append]; rfl
theorem fall_x (hu : x.up = true) : callX tb.P spD 3 249 [.s 0, .v (.int i)] ⟨fcs len (hsA i 0 as) U (hcs (h3 i fi x) ++ exC none), [], ()⟩ (FinV len (hsA i 0 as) none (h3 i fi x) fun rv h' U' => rv = .v .none ∧ h' = h3 i fi { x with up := false } ∧ U' = U) := by
  have hk' : (hsA i 0 as)[i]? = some (.s 2) := hsA_at (Nat.zero_add i) hi
  have hl' : i < (hsA i 0 as).length := by rw [hsA_len]; exact hi
  obtain ⟨sd, up, row, took, hd⟩ := x
  cases hu
  refine Br_i (fun c => absurd (of_decide_eq_true (p := len ≤ (i : Int)) c) (by omega)) (fun c => ?_)
  refine need_i (pyIdx_nat hl') (need_i hk' ?_)
  exact .mk (js := ⟨2, 3, 4, 5, none⟩) (o := .v .none) (h' := h3 i fi ⟨sd, false, row, took, hd⟩) ⟨rfl, rfl, ⟨rfl, rfl, rfl, rfl, .none⟩, by decide, rfl, .none⟩ (.v _) ⟨rfl, rfl, rfl⟩
theorem taken_x (ht : 0 ≤ x.took) (hr : x.row.length < 1000) : callX tb.P spD 4 265 [.s 0, .v (.int i)] ⟨fcs len (hsA i 0 as) U (hcs (h3 i fi x) ++ exC none), [], ()⟩ (FinV len (hsA i 0 as) none (h3 i fi x) fun rv h' U' => rv = .new ((mV x.row).take x.took.toNat) ∧ h' = h3 i fi x ∧ U' = U) := by
  have hk' : (hsA i 0 as)[i]? = some (.s 2) := hsA_at (Nat.zero_add i) hi
  have hl' : i < (hsA i 0 as).length := by rw [hsA_len]; exact hi
  have hz : ((mV x.row).take x.took.toNat).length ≤ SZ := by rw [List.length_take, mV_len]; unfold SZ; omega
  refine Br_i (fun c => absurd (of_decide_eq_true (p := len ≤ (i : Int)) c) (by omega)) (fun c => ?_)
  refine need_i (pyIdx_nat hl') (need_i hk' ?_)
  refine ⟨⟨Int.le_refl _, ht⟩, hz, ?_⟩
  refine ⟨hz, ?_⟩
  exact .mk (js := ⟨2, 3, 4, 5, none⟩) (o := .v .none) ⟨rfl, rfl, ⟨rfl, rfl, rfl, rfl, .none⟩, by decide, rfl, .none⟩ (.new rfl ⟨Nat.le_refl _, by decide⟩) ⟨rfl, rfl, rfl⟩
theorem still_x : callX tb.P spD 4 266 [.s 0, .v (.int i)] ⟨fcs len (hsA i 0 as) U (hcs (h3 i fi x) ++ exC none), [], ()⟩ (FinV len (hsA i 0 as) none (h3 i fi x) fun rv h' U' => rv = .v (.bool false) ∧ h' = h3 i fi x ∧ U' = U) := by
  have hk' : (hsA i 0 as)[i]? = some (.s 2) := hsA_at (Nat.zero_add i) hi
  have hl' : i < (hsA i 0 as).length := by rw [hsA_len]; exact hi
  refine Br_i (fun c => absurd (of_decide_eq_true (p := len ≤ (i : Int)) c) (by omega)) (fun c => ?_)
  refine need_i (pyIdx_nat hl') (need_i hk' ?_)
  exact .mk (js := ⟨2, 3, 4, 5, none⟩) (o := .v .none) ⟨rfl, rfl, ⟨rfl, rfl, rfl, rfl, .none⟩, by decide, rfl, .none⟩ (.v _) ⟨rfl, rfl, rfl⟩
theorem listof_x (hz : fi.length ≤ 50) : callX tb.P spD 4 264 [.s 0, .v (.int i)] ⟨fcs len (hsA i 0 as) U (hcs (h3 i fi x) ++ exC none), [], ()⟩ (FinV len (hsA i 0 as) none (h3 i fi x) fun rv h' U' => rv = .v (.tup [.int 0, .lst (iV fi)]) ∧ h' = h3 i fi x ∧ U' = U) := by
  have hk' : (hsA i 0 as)[i]? = some (.s 2) := hsA_at (Nat.zero_add i) hi
  have hl' : i < (hsA i 0 as).length := by rw [hsA_len]; exact hi
  refine Br_i (fun c => absurd (of_decide_eq_true (p := len ≤ (i : Int)) c) (by omega)) (fun c => ?_)
  refine need_i (pyIdx_nat hl') (need_i hk' ?_)
  refine ⟨by show (iV fi).length ≤ SZ; rw [iV_len]; unfold SZ; omega, ?_⟩
  exact .mk (js := ⟨2, 3, 4, 5, none⟩) (o := .v .none) ⟨rfl, rfl, ⟨rfl, rfl, rfl, rfl, .none⟩, by decide, rfl, .none⟩ (.v _) ⟨rfl, rfl, rfl⟩
end
end Mine

end

section
set_option autoImplicit false
set_option linter.all false
set_option genSizeOf false
set_option genInjectivity false
namespace Mine
open PySem (Str)
/-- a deed or an asking, by its run in focus -/
inductive DeedR (d f : Nat) (as : List SV) (s : Sy (Option FolkW)) (k : SV → Sy (Option FolkW) → Prop) : Prop
  | mk {j mm i : Nat} {fi : List Int} {st : St3} {U V' : List Letter} {w : FolkW} {vs : List V} {y : H3} {rv : RV} (he : as = .s j :: vs.map .v) (B : F3At s j mm fi st U w) (hi : i < mm) (hc : fi.contains (i : Int) = true)
    (run : ∀ {len : Int} {hs : List HA}, i < hs.length → (hs.length : Int) = len → callX tb.P spD d f (.s 0 :: vs.map .v) ⟨fcs len (hsA i 0 hs) U (hcs (h3 i fi (st i)) ++ exC none), [], ()⟩ (FinV len (hsA i 0 hs) none (h3 i fi (st i)) fun rv' h' U' => rv' = rv ∧ h' = h3 i fi y ∧ U' = V'))
    (h : ∀ w' : FolkW, w'.S = folk3 mm fi (up3 st i y) V' → giveR rv (s.withW (some w')) k)
theorem dnv {ad : List Nat} {j f : Nat} {xs vs : List V} {G : List V → Prop} (h : ad[j]? = some f) (d : DnL ad (.s j :: xs.map .v) vs) (g : G (.ref f :: xs)) : G vs := by
  cases d with | cons d1 d =>
  cases d1.symm.trans (dn_at h)
  rw [DnL_u d]; exact g
theorem deed_e {R : Nat → Prop} {g : Nat → Option C} (d f : Nat) : EnOk (MF R g) tb.P f d (DeedR d f) := fun n' f' as s k ad σ vs Q q m dl hk => by
  obtain ⟨rfl, q⟩ := q
  obtain ⟨cs, l0, w0⟩ := s
  obtain ⟨he, B, hi, hc, run, h⟩ := q
  rename_i j mm i fi st U V' w xs y rv
  subst he
  obtain ⟨a, ha, hl, e1, hh'⟩ := B.foc m hi hc
  have hd := B.dn m
  obtain ⟨fs, hj⟩ := B.hj
  have eU : w.S.under = U := by rw [B.hS]; rfl
  refine dnv (G := fun vs => CW tb.P (d + n') f' vs σ.H Q) hd dl ?_
  refine meth_foc m B.hw hj ha hh' .none (fun _ => spD_ok) n' (as := xs.map .v) (DnL_v xs)  (by rw [eU]; exact run hl e1) (fun rv h' U' G w' hS => ?_) hk
  obtain ⟨rfl, rfl, rfl⟩ := G
  exact h w' (hS.trans (by rw [B.hS]; exact f3_set hi hc))
theorem up3_self (st : St3) (i : Nat) : up3 st i (st i) = st := funext fun j => by
  show (if j = i then st i else st j) = st j
  by_cases e : j = i
  · rw [if_pos e, e]
  · rw [if_neg e]
/-- what is told of a letter -/
noncomputable def tri (l : Letter) : V := .tup [.str l.c.word, .int l.from_, .int l.to]
inductive LetI (cs : List SC) (U : List Letter) (r acc : List V) (s : Sy Unit) : Prop
  | mk (done rest : List Letter) (t : List (Nat × SV)) (hd : done ++ rest = U) (hr : r = lV rest) (ha : acc = done.map tri) (hs : s = ⟨cs, (108, .s 0) :: t, ()⟩)
theorem letters_x {len : Int} {as : List HA} {i : Nat} {U : List Letter} {fi : List Int} {x : H3} (hU : U.length ≤ SZ) : callX tb.P spD 1 262 [.s 0] ⟨fcs len (hsA i 0 as) U (hcs (h3 i fi x) ++ exC none), [], ()⟩ (FinV len (hsA i 0 as) none (h3 i fi x) fun rv h' U' => rv = .new (U.map tri) ∧ h' = h3 i fi x ∧ U' = U) := by
  refine .mk (LetI (fcs len (hsA i 0 as) U (hcs (h3 i fi x) ++ exC none)) U) ⟨[], U, [], rfl, rfl, rfl, rfl⟩ ⟨fun r acc s' j => ?_, fun r acc s' j => ?_, fun acc s' j => ?_, fun y r acc s' j => ?_⟩
  · obtain ⟨done, rest, t, hd, hr, ha, rfl⟩ := j; rfl
  · obtain ⟨done, rest, t, hd, rfl, rfl, rfl⟩ := j
    rw [List.length_map, lV_len, ← List.length_append, hd]; exact hU
  · obtain ⟨done, rest, t, hd, hr, rfl, rfl⟩ := j
    cases rest with
    | cons _ _ => cases hr
    | nil =>
      rw [List.append_nil] at hd
      subst hd
      refine ⟨by rw [List.length_map]; exact hU, ?_⟩
      exact .mk (js := ⟨2, 3, 4, 5, none⟩) (o := .v .none) ⟨rfl, rfl, ⟨rfl, rfl, rfl, rfl, .none⟩, by decide, rfl, .none⟩ (.new rfl ⟨Nat.le_refl _, by decide⟩) ⟨rfl, rfl, rfl⟩
  · obtain ⟨done, rest, t, hd, hr, rfl, rfl⟩ := j
    cases rest with
    | nil => cases hr
    | cons L rest =>
      cases hr
      refine bind1_i ?_
      refine need_i (lk_self t) ?_
      refine ⟨⟨by decide, by decide⟩, ?_⟩
      exact ⟨done ++ [L], rest, _, by rw [List.append_assoc]; exact hd, rfl, by rw [List.map_append]; rfl, rfl⟩
end Mine

end

section
set_option autoImplicit false
set_option linter.all false
set_option genSizeOf false
set_option genInjectivity false
namespace Mine
open PySem (Str)
/-! The greatest number that enough hands hold. -/
/-- in a falling list -/
theorem fall_at (t : Int) : ∀ (s : List Int), s.Pairwise (· ≥ ·) → ∀ (e : Nat) (v : Int), s[e]? = some v → (t ≤ v ↔ e < s.countP fun x => decide (t ≤ x))
  | [], _, e, v, h => by cases h
  | a :: r, hp, e, v, h => by
    have hp := List.pairwise_cons.mp hp
    by_cases c : t ≤ a
    · rw [List.countP_cons_of_pos (by exact decide_eq_true c)]
      cases e with
      | zero => cases h; exact ⟨fun _ => Nat.succ_pos _, fun _ => c⟩
      | succ e =>
        have := fall_at t r hp.2 e v h
        omega
    · have z : (a :: r).countP (fun x => decide (t ≤ x)) = 0 := List.countP_eq_zero.mpr fun x hx => by
        have : x ≤ a := (List.mem_cons.mp hx).elim (fun q => Int.le_of_eq q) fun q => hp.1 x q
        intro z
        have := of_decide_eq_true z
        omega
      rw [z]
      have hv : v ≤ a := by
        cases e with
        | zero => cases h; exact Int.le_refl _
        | succ e => exact hp.1 v (List.mem_of_getElem? h)
      omega
theorem hbe_iff {n : Int} {ms : List Int} {len : Nat} {hd : List (Int × Int)} (hn : ms.length / 2 < (oth n ms).length + 1) (t : Int) : t ≤ hbe n ms len hd ↔ ms.length / 2 < (cnts n ms len hd).countP fun x => decide (t ≤ x) := by
  have hl : ms.length / 2 < (srt (cnts n ms len hd)).reverse.length := by
    rw [List.length_reverse, srt_len]
    show _ < ((oth n ms).map (hoD hd)).length + 1
    rw [List.length_map]; exact hn
  have := fall_at t (srt (cnts n ms len hd)).reverse (List.pairwise_reverse.mpr (srt_sorted _)) (ms.length / 2) (hbe n ms len hd) (by unfold hbe; rw [List.getElem?_eq_getElem hl]; rfl)
  rw [this, ((List.reverse_perm _).trans (srt_perm _)).countP_eq]
end Mine

end

section
set_option autoImplicit false
set_option linter.all false
set_option genSizeOf false
set_option genInjectivity false
namespace Mine
open PySem (Str)
/-! What the letters under way will bring. -/
/-- to another hand: its row and what it takes -/
noncomputable def rp1 (p : List Msg × Int) : Cont → Option (List Msg × Int)
  | .hold m q => if q = (p.1.length : Int) then some (p.1 ++ [m], p.2) else none
  | .take n => some (p.1, mx p.2 (mn n p.1.length))
  | _ => none
noncomputable def rp (h : Int) : List Letter → List Msg × Int → Option (List Msg × Int)
  | [], p => some p
  | L :: U, p => if L.to = h then (match rp1 p L.c with | some q => rp h U q | none => none) else rp h U p
/-- from another hand: how many it holds -/
noncomputable def hv1 (h : Int) (L : Letter) (v : Int) : Int := match L.c with
  | .have_ n => if L.from_ = h then mx n v else v
  | _ => v
noncomputable def hv (h : Int) : List Letter → Int → Int
  | [], v => v
  | L :: U, v => hv h U (hv1 h L v)
/-- the messages wished -/
noncomputable def wm : List Letter → List Msg
  | [] => []
  | L :: U => (match L.c with | .wish m => m :: wm U | _ => wm U)
noncomputable def wgt (L : Letter) : Nat := match L.c with
  | .wish _ => 89
  | .hold _ _ => 10
  | .have_ _ => 9
  | _ => 1
noncomputable def wgts : List Letter → Nat
  | [] => 0
  | L :: U => wgt L + wgts U
theorem rp_app (h : Int) : ∀ (A B : List Letter) (p : List Msg × Int), rp h (A ++ B) p = (match rp h A p with | some q => rp h B q | none => none)
  | [], B, p => rfl
  | L :: A, B, p => by
    show (if L.to = h then (match rp1 p L.c with | some q => rp h (A ++ B) q | none => none) else rp h (A ++ B) p) = (match (if L.to = h then (match rp1 p L.c with | some q => rp h A q | none => none) else rp h A p) with | some q => rp h B q | none => none)
    by_cases c : L.to = h
    · rw [if_pos c, if_pos c]
      cases rp1 p L.c with
      | none => rfl
      | some q => exact rp_app h A B q
    · rw [if_neg c, if_neg c]; exact rp_app h A B p
theorem rp_skip {h : Int} {A : List Letter} (hA : ∀ L ∈ A, L.to ≠ h) (p : List Msg × Int) : rp h A p = some p := by
  induction A with
  | nil => rfl
  | cons L A ih =>
    show (if L.to = h then _ else rp h A p) = _
    rw [if_neg (hA L (.head _))]
    exact ih fun L hL => hA L (.tail _ hL)
theorem hv_app (h : Int) : ∀ (A B : List Letter) (v : Int), hv h (A ++ B) v = hv h B (hv h A v)
  | [], _, _ => rfl
  | L :: A, B, v => hv_app h A B (hv1 h L v)
theorem hv_skip {h : Int} {A : List Letter} (hA : ∀ L ∈ A, ∀ v, hv1 h L v = v) (v : Int) : hv h A v = v := by
  induction A with
  | nil => rfl
  | cons L A ih =>
    show hv h A (hv1 h L v) = v
    rw [hA L (.head _) v]
    exact ih fun L hL => hA L (.tail _ hL)
theorem mx_ge (a b : Int) : a ≤ mx a b ∧ b ≤ mx a b := by unfold mx; by_cases c : b > a <;> simp only [c, if_true, if_false] <;> omega
theorem hv1_ge (h : Int) (L : Letter) (v : Int) : v ≤ hv1 h L v := by
  obtain ⟨f, t, p, c⟩ := L
  cases c with
  | have_ n =>
    show v ≤ (if f = h then mx n v else v)
    by_cases e : f = h
    · rw [if_pos e]; exact (mx_ge n v).2
    · rw [if_neg e]; exact Int.le_refl _
  | _ => exact Int.le_refl _
theorem hv_ge (h : Int) : ∀ (U : List Letter) (v : Int), v ≤ hv h U v
  | [], v => Int.le_refl _
  | L :: U, v => Int.le_trans (hv1_ge h L v) (hv_ge h U _)
theorem rp1_len {p q : List Msg × Int} {c : Cont} (h : rp1 p c = some q) : p.1.length ≤ q.1.length := by
  cases c with
  | hold m n =>
    have h : (if n = (p.1.length : Int) then some (p.1 ++ [m], p.2) else none) = some q := h
    by_cases e : n = (p.1.length : Int)
    · rw [if_pos e] at h; cases h; show _ ≤ (p.1 ++ [m]).length; rw [List.length_append]; exact Nat.le_add_right _ _
    · rw [if_neg e] at h; cases h
  | take n => cases h; exact Nat.le_refl _
  | _ => cases h
theorem rp_len (h : Int) : ∀ (U : List Letter) (p q : List Msg × Int), rp h U p = some q → p.1.length ≤ q.1.length
  | [], p, q, e => by cases e; exact Nat.le_refl _
  | L :: U, p, q, e => by
    have e : (if L.to = h then (match rp1 p L.c with | some q => rp h U q | none => none) else rp h U p) = some q := e
    by_cases c : L.to = h
    · rw [if_pos c] at e
      cases z : rp1 p L.c with
      | none => rw [z] at e; cases e
      | some r => rw [z] at e; exact Nat.le_trans (rp1_len z) (rp_len h U r q e)
    · rw [if_neg c] at e; exact rp_len h U p q e
theorem wm_app : ∀ (A B : List Letter), wm (A ++ B) = wm A ++ wm B
  | [], _ => rfl
  | L :: A, B => by
    obtain ⟨f, t, p, c⟩ := L
    cases c with
    | wish m => exact congrArg (m :: ·) (wm_app A B)
    | _ => exact wm_app A B
theorem wgts_app : ∀ (A B : List Letter), wgts (A ++ B) = wgts A + wgts B
  | [], B => (Nat.zero_add _).symm
  | L :: A, B => by
    show wgt L + wgts (A ++ B) = wgt L + wgts A + wgts B
    rw [wgts_app A B, Nat.add_assoc]
theorem wgts_map (f : Int → Letter) (k : Nat) (hf : ∀ t, wgt (f t) = k) : ∀ l : List Int, wgts (l.map f) = k * l.length
  | [] => rfl
  | t :: l => by
    show wgt (f t) + wgts (l.map f) = k * (l.length + 1)
    rw [hf, wgts_map f k hf l, Nat.mul_add, Nat.add_comm, Nat.mul_one]
theorem wgt_pos (L : Letter) : 1 ≤ wgt L := by
  obtain ⟨f, t, p, c⟩ := L
  cases c with
  | wish m => exact Nat.succ_pos 88
  | hold m q => exact Nat.succ_pos 9
  | have_ n => exact Nat.succ_pos 8
  | _ => exact Nat.succ_pos 0
theorem len_wgts : ∀ U : List Letter, U.length ≤ wgts U
  | [] => Nat.le_refl _
  | L :: U => by
    have := wgt_pos L
    have := len_wgts U
    show U.length + 1 ≤ wgt L + wgts U
    omega
/-- a letter to each of some, exactly one to h -/
theorem rp_each {h : Int} {c : Cont} {n : Int} : ∀ {l : List Int} {p q : List Msg × Int}, l.Nodup → h ∈ l → rp1 p c = some q → rp h (l.map fun t => l3 n t c) p = some q
  | [], _, _, _, hm, _ => by cases hm
  | t :: l, p, q, nd, hm, e => by
    have nd := List.nodup_cons.mp nd
    show (if t = h then (match rp1 p c with | some q => rp h (l.map fun t => l3 n t c) q | none => none) else rp h (l.map fun t => l3 n t c) p) = some q
    by_cases z : t = h
    · rw [if_pos z, e]
      refine rp_skip (fun L hL => ?_) q
      obtain ⟨t', ht, rfl⟩ := List.mem_map.mp hL
      intro z'
      exact nd.1 (z ▸ (show t' = h from z') ▸ ht)
    · rw [if_neg z]
      exact rp_each nd.2 ((List.mem_cons.mp hm).resolve_left fun q => z q.symm) e
theorem hoD_S (x v y : Int) : ∀ hd : List (Int × Int), hoD (hoS hd x v) y = if y = x then v else hoD hd y
  | [] => by
    show cond (decide (x = y)) v 0 = _
    by_cases c : y = x
    · rw [if_pos c, decide_eq_true c.symm]; rfl
    · rw [if_neg c, decide_eq_false fun z => c z.symm]; rfl
  | p :: r => by
    have ih := hoD_S x v y r
    show hoD (cond (decide (p.1 = x)) ((p.1, v) :: r) (p :: hoS r x v)) y = if y = x then v else cond (decide (p.1 = y)) p.2 (hoD r y)
    by_cases c : p.1 = x
    · rw [decide_eq_true c]
      show cond (decide (p.1 = y)) v (hoD r y) = _
      by_cases d : y = x
      · rw [if_pos d, decide_eq_true (c.trans d.symm)]; rfl
      · rw [if_neg d, decide_eq_false fun z => d (z.symm.trans c)]
        rfl
    · rw [decide_eq_false c]
      show cond (decide (p.1 = y)) p.2 (hoD (hoS r x v) y) = _
      rw [ih]
      by_cases d : y = x
      · rw [if_pos d, if_pos d, decide_eq_false fun z => c (z.trans d)]; rfl
      · rw [if_neg d, if_neg d]
theorem hoS_len (x v : Int) : ∀ hd : List (Int × Int), (hoS hd x v).length ≤ hd.length + 1
  | [] => Nat.le_refl _
  | p :: r => by
    show (cond (decide (p.1 = x)) ((p.1, v) :: r) (p :: hoS r x v)).length ≤ r.length + 2
    cases decide (p.1 = x) with
    | true => exact Nat.le_succ _
    | false => exact Nat.succ_le_succ (hoS_len x v r)
end Mine

end

section
set_option autoImplicit false
set_option linter.all false
set_option genSizeOf false
set_option genInjectivity false
namespace Mine
open PySem (Str)
theorem mem_oth {n y : Int} {l : List Int} : y ∈ oth n l ↔ y ∈ l ∧ y ≠ n := by
  unfold oth
  rw [List.mem_filter]
  constructor
  · intro h
    refine ⟨h.1, fun z => ?_⟩
    have := h.2
    rw [decide_eq_true z] at this
    cases this
  · intro h
    refine ⟨h.1, ?_⟩
    rw [decide_eq_false h.2]; rfl
theorem oth_nd {n : Int} {l : List Int} (h : l.Nodup) : (oth n l).Nodup := h.sublist List.filter_sublist
theorem oth_no {n : Int} : ∀ {l : List Int}, n ∉ l → oth n l = l
  | [], _ => rfl
  | x :: r, h => by
    show List.filter _ (x :: r) = _
    have hx : ¬ x = n := fun z => h (by rw [z]; exact .head _)
    rw [List.filter_cons, decide_eq_false hx]
    exact congrArg (x :: ·) (oth_no fun z => h (.tail _ z))
theorem cnt_oth {n : Int} (p : Int → Bool) : ∀ {l : List Int}, l.Nodup → n ∈ l → l.countP p = (oth n l).countP p + cond (p n) 1 0
  | [], _, h => by cases h
  | x :: r, nd, h => by
    have nd := List.nodup_cons.mp nd
    by_cases e : x = n
    · subst e
      have : oth x (x :: r) = r := by
        show List.filter _ (x :: r) = _
        rw [List.filter_cons, decide_eq_true rfl]
        exact oth_no nd.1
      rw [this, List.countP_cons]
      cases p x <;> rfl
    · have : oth n (x :: r) = x :: oth n r := by
        show List.filter _ (x :: r) = _
        rw [List.filter_cons, decide_eq_false e]; rfl
      rw [this, List.countP_cons, List.countP_cons, cnt_oth p nd.2 ((List.mem_cons.mp h).resolve_left fun z => e z.symm)]
      omega
theorem len_oth {n : Int} {l : List Int} (nd : l.Nodup) (h : n ∈ l) : (oth n l).length + 1 = l.length := by
  have := cnt_oth (fun _ => true) nd h
  rw [List.countP_true] at this
  exact this.symm
/-- the first list -/
structure Fi3 (mm : Nat) (fi : List Int) (F : Nat) : Prop where
  nd : fi.Nodup
  mem : (F : Int) ∈ fi
  nat : ∀ x ∈ fi, ∃ k : Nat, x = k ∧ k < mm
  len : fi.length ≤ 9
inductive LOk (fi : List Int) (F : Nat) (up : Nat → Bool) : Letter → Prop
  | wish (n : Int) (m : Msg) : LOk fi F up (l3 n F (.wish m))
  | have_ (h : Nat) (n : Int) (hm : (h : Int) ∈ fi) (hF : h ≠ F) (hu : up h = true) : LOk fi F up (l3 h F (.have_ n))
  | hold (i : Nat) (m : Msg) (p : Int) (hm : (i : Int) ∈ fi) (hF : i ≠ F) : LOk fi F up (l3 F i (.hold m p))
  | take (i : Nat) (n : Int) (hm : (i : Int) ∈ fi) (hF : i ≠ F) : LOk fi F up (l3 F i (.take n))
noncomputable def upI (up : Nat → Bool) (x : Int) : Bool := up x.toNat
structure Core3 (fi : List Int) (F : Nat) (up : Nat → Bool) (due : List Msg) (st : St3) (U : List Letter) : Prop where
  ups : ∀ i, (st i).up = up i
  lok : ∀ L ∈ U, LOk fi F up L
  msg : (st F).row ++ wm U = due
  oth : ∀ h : Nat, (h : Int) ∈ fi → h ≠ F → up h = true → rp h U ((st h).row, (st h).took) = some ((st F).row, (st F).took) ∧ hv h U (hoD (st F).holds h) = (st h).row.length
  dn : ∀ h : Nat, (h : Int) ∈ fi → h ≠ F → up h = false → hoD (st F).holds h = 0
  nn : ∀ h, 0 ≤ hoD (st F).holds h
  t0 : 0 ≤ (st F).took
  t1 : (st F).took ≤ (st F).row.length
  t2 : fi.countP (upI up) ≤ fi.length / 2 → (st F).took = 0
  oh : ∀ h, h ≠ F → (st h).holds = []
  dr : ∀ h, up h = false → (st h).row = []
section
variable {mm : Nat} {fi : List Int} {F : Nat} {up : Nat → Bool} {due : List Msg} {st : St3} {U : List Letter} (A : Fi3 mm fi F) (hF : up F = true) (I : Core3 fi F up due st U)
include A hF I
theorem Core3.hd_le {h : Int} (hm : h ∈ Mine.oth F fi) : hoD (st F).holds h ≤ (st F).row.length ∧ (1 ≤ hoD (st F).holds h → upI up h = true) := by
  obtain ⟨hm, hne⟩ := mem_oth.mp hm
  obtain ⟨k, rfl, hk⟩ := A.nat h hm
  have hne : k ≠ F := fun z => hne (z ▸ rfl)
  have e : upI up k = up k := congrArg up (Int.toNat_natCast k)
  cases q : up k with
  | false =>
    have := I.dn k hm hne q
    rw [this]
    exact ⟨Int.natCast_nonneg _, fun z => absurd z (by decide)⟩
  | true =>
    obtain ⟨h1, h2⟩ := I.oth k hm hne q
    have h3 := rp_len _ _ _ _ h1
    have h4 := hv_ge k U (hoD (st F).holds k)
    rw [h2] at h4
    have h3 : (st k).row.length ≤ (st F).row.length := h3
    exact ⟨by omega, fun _ => e.trans q⟩
theorem Core3.hn : fi.length / 2 < (Mine.oth F fi).length + 1 := by
  have := len_oth A.nd A.mem
  omega
theorem Core3.v_le : hbe F fi (st F).row.length (st F).holds ≤ (st F).row.length := by
  refine Int.not_lt.mp fun c => ?_
  have q := (hbe_iff (len := (st F).row.length) (hd := (st F).holds) (I.hn A hF) ((st F).row.length + 1)).mp c
  have z : (cnts F fi (st F).row.length (st F).holds).countP (fun x => decide (((st F).row.length : Int) + 1 ≤ x)) = 0 := List.countP_eq_zero.mpr fun x hx z => by
    have z := of_decide_eq_true z
    rcases List.mem_cons.mp hx with e | hx
    · omega
    · obtain ⟨h, hm, rfl⟩ := List.mem_map.mp hx
      have := (I.hd_le A hF hm).1
      omega
  omega
theorem Core3.v_up (c : 1 ≤ hbe F fi (st F).row.length (st F).holds) : fi.length / 2 < fi.countP (upI up) := by
  have q := (hbe_iff (len := (st F).row.length) (hd := (st F).holds) (I.hn A hF) 1).mp c
  have e : fi.countP (upI up) = (Mine.oth F fi).countP (upI up) + 1 := by
    have := cnt_oth (upI up) A.nd A.mem
    rw [show upI up F = true from (congrArg up (Int.toNat_natCast F)).trans hF] at this
    exact this
  have l : ((Mine.oth F fi).map (hoD (st F).holds)).countP (fun x => decide (1 ≤ x)) ≤ (Mine.oth F fi).countP (upI up) := by
    rw [List.countP_map]
    refine List.countP_mono_left fun h hm z => (I.hd_le A hF hm).2 (of_decide_eq_true z)
  have q2 : (cnts F fi (st F).row.length (st F).holds).countP (fun x => decide (1 ≤ x)) ≤ ((Mine.oth F fi).map (hoD (st F).holds)).countP (fun x => decide (1 ≤ x)) + 1 := by
    unfold cnts
    rw [List.countP_cons]
    by_cases z : decide ((1 : Int) ≤ ((st F).row.length : Int)) = true
    · rw [if_pos z]; exact Nat.le_refl _
    · rw [if_neg z]; exact Nat.le_succ _
  omega
end
end Mine

end

section
set_option autoImplicit false
set_option linter.all false
set_option genSizeOf false
set_option genInjectivity false
namespace Mine
open PySem (Str)
structure Inv3 (fi : List Int) (F : Nat) (up : Nat → Bool) (due : List Msg) (B : Nat) (st : St3) (U : List Letter) : Prop where
  core : Core3 fi F up due st U
  tk : hbe F fi (st F).row.length (st F).holds ≤ (st F).took
  pot : wgts U + (st F).row.length + (st F).holds.length ≤ B
theorem up3_at (st : St3) (i : Nat) (x : H3) : up3 st i x i = x := if_pos rfl
theorem up3_ne {st : St3} {i j : Nat} {x : H3} (h : j ≠ i) : up3 st i x j = st j := if_neg h
theorem up3_up3 (st : St3) (i : Nat) (x y : H3) : up3 (up3 st i x) i y = up3 st i y := funext fun j => by
  by_cases e : j = i
  · subst e; rw [up3_at, up3_at]
  · rw [up3_ne e, up3_ne e, up3_ne e]
theorem wm_map (f : Int → Letter) (hf : ∀ t, ∀ m, (f t).c ≠ .wish m) : ∀ l : List Int, wm (l.map f) = []
  | [] => rfl
  | t :: l => by
    have ih := wm_map f hf l
    have h := hf t
    show (match (f t).c with | .wish m => m :: wm (l.map f) | _ => wm (l.map f)) = []
    generalize (f t).c = c at h
    cases c with
    | wish m => exact absurd rfl (h m)
    | _ => exact ih
theorem hv_map (h : Int) (f : Int → Letter) (hf : ∀ t, ∀ n, (f t).c ≠ .have_ n) (l : List Int) (v : Int) : hv h (l.map f) v = v := hv_skip (fun L hL v => by
  obtain ⟨t, _, rfl⟩ := List.mem_map.mp hL
  have h' := hf t
  show (match (f t).c with | .have_ n => _ | _ => v) = v
  generalize (f t).c = c at h'
  cases c with
  | have_ m => exact absurd rfl (h' m)
  | _ => rfl) v
section
variable {mm : Nat} {fi : List Int} {F : Nat} {up : Nat → Bool} {due : List Msg} {B : Nat} (A : Fi3 mm fi F) (hF : up F = true)
include A hF
theorem look_ok {st : St3} {U : List Letter} (I : Core3 fi F up due st U) (hp : wgts U + 8 + (st F).row.length + (st F).holds.length ≤ B) : Inv3 fi F up due B (up3 st F (lookF F fi (st F) U).1) (lookF F fi (st F) U).2 := by
  have v1 := I.v_le A hF
  have v2 := I.v_up A hF
  have lo := len_oth A.nd A.mem
  have l9 := A.len
  unfold lookF
  cases q : decide ((st F).took < hbe F fi (st F).row.length (st F).holds) with
  | false =>
    show Inv3 fi F up due B (up3 st F (st F)) U
    rw [up3_self]
    have := of_decide_eq_false q
    exact ⟨I, by omega, by omega⟩
  | true =>
    have q := of_decide_eq_true q
    generalize hv' : hbe F fi (st F).row.length (st F).holds = v at q v1 v2
    show Inv3 fi F up due B (up3 st F { st F with took := v }) (U ++ (oth F fi).map fun t => l3 F t (.take v))
    have t0 := I.t0
    have e : mx (st F).took (mn v (st F).row.length) = v := by
      unfold mx mn
      by_cases c : ((st F).row.length : Int) < v
      · omega
      · rw [if_neg c, if_pos q]
    refine ⟨⟨fun i => ?_, fun L hL => ?_, ?_, fun h hm hne hu => ?_, fun h hm hne hu => ?_, fun h => ?_, ?_, ?_, fun z => ?_, fun h hne => by rw [up3_ne hne]; exact I.oh h hne, fun h hu => by rw [up3_ne fun z => by rw [z, hF] at hu; cases hu]; exact I.dr h hu⟩, ?_, ?_⟩
    · by_cases z : i = F
      · subst z; rw [up3_at]; exact I.ups i
      · rw [up3_ne z]; exact I.ups i
    · rcases List.mem_append.mp hL with hL | hL
      · exact I.lok L hL
      · obtain ⟨t, ht, rfl⟩ := List.mem_map.mp hL
        obtain ⟨hm, hne⟩ := mem_oth.mp ht
        obtain ⟨k, rfl, _⟩ := A.nat t hm
        exact .take k v hm fun z => hne (z ▸ rfl)
    · rw [up3_at, wm_app, wm_map _ (fun t m => by intro z; cases z), List.append_nil]; exact I.msg
    · obtain ⟨h1, h2⟩ := I.oth h hm hne hu
      rw [up3_at, up3_ne hne, rp_app, h1, hv_app, h2]
      refine ⟨?_, hv_map _ _ (fun t m => by intro z; cases z) _ _⟩
      exact rp_each (oth_nd A.nd) (mem_oth.mpr ⟨hm, fun z => hne (by omega)⟩) (by show some ((st F).row, mx (st F).took (mn v (st F).row.length)) = _; rw [e])
    · rw [up3_at]; exact I.dn h hm hne hu
    · rw [up3_at]; exact I.nn h
    · rw [up3_at]; show 0 ≤ v; omega
    · rw [up3_at]; exact v1
    · exact absurd (v2 (by omega)) (by omega)
    · rw [up3_at]; show hbe F fi (st F).row.length (st F).holds ≤ v; omega
    · rw [up3_at, wgts_app, wgts_map _ 1 (fun _ => rfl)]
      show wgts U + 1 * (oth F fi).length + (st F).row.length + (st F).holds.length ≤ B
      omega
/-- the step of a letter -/
inductive Goes (mm : Nat) (fi : List Int) (F : Nat) (up : Nat → Bool) (due : List Msg) (B : Nat) (st : St3) (U : List Letter) (L : Letter) : Prop
  | mk {i : Nat} {n : Int} {c : Cont} {st₁ : St3} {U₁ : List Letter} (e : L = l3 n i c) (hm : (i : Int) ∈ fi) (q : Step3 fi st U i n c st₁ U₁) (I : Inv3 fi F up due B st₁ U₁) (hw : wgts U₁ < wgts (L :: U)) (hl : U.length ≤ U₁.length)
/-- letters to a hand that fell, and takes -/
theorem go_other {st : St3} {U : List Letter} {i : Nat} {c : Cont} (I : Inv3 fi F up due B st (l3 F i c :: U)) (hm : (i : Int) ∈ fi) (hne : i ≠ F) (hc : (∃ m p, c = .hold m p) ∨ ∃ n, c = .take n) : Goes mm fi F up due B st U (l3 F i c) := by
  have C := I.core
  have w1 : wm (l3 F i c :: U) = wm U := by rcases hc with ⟨m, p, rfl⟩ | ⟨n, rfl⟩ <;> rfl
  have h1 : ∀ (h : Int) v, hv1 h (l3 F i c) v = v := fun h v => by rcases hc with ⟨m, p, rfl⟩ | ⟨n, rfl⟩ <;> rfl
  have msg : (st F).row ++ wm U = due := w1 ▸ C.msg
  have lok : ∀ L ∈ U, LOk fi F up L := fun L hL => C.lok L (.tail _ hL)
  have far : ∀ h : Nat, (h : Int) ∈ fi → h ≠ F → up h = true → h ≠ i → rp h U ((st h).row, (st h).took) = some ((st F).row, (st F).took) ∧ hv h U (hoD (st F).holds h) = (st h).row.length := fun h hm hF hu ne => by
    obtain ⟨q1, q2⟩ := C.oth h hm hF hu
    have q1 : (if (i : Int) = h then _ else rp h U ((st h).row, (st h).took)) = some ((st F).row, (st F).took) := q1
    rw [if_neg (by omega)] at q1
    have q2 : hv h U (hv1 h (l3 F i c) (hoD (st F).holds h)) = (st h).row.length := q2
    rw [h1] at q2
    exact ⟨q1, q2⟩
  have wg : wgts (l3 F i c :: U) = wgt (l3 F i c) + wgts U := rfl
  have p := I.pot
  have wp := wgt_pos (l3 F i c)
  cases hu : up i with
  | false =>
    refine .mk rfl hm (.down c ((C.ups i).trans hu)) ⟨?_, ?_, ?_⟩ (by omega) (Nat.le_refl _)
    · rw [up3_self]
      exact ⟨C.ups, lok, msg, fun h hm hF hu' => far h hm hF hu' (fun z => by rw [z, hu] at hu'; cases hu'), C.dn, C.nn, C.t0, C.t1, C.t2, C.oh, C.dr⟩
    · rw [up3_self]; exact I.tk
    · rw [up3_self]; omega
  | true =>
    obtain ⟨q1, q2⟩ := C.oth i hm hne hu
    have q1 : (if (i : Int) = i then (match rp1 ((st i).row, (st i).took) c with | some q => rp i U q | none => none) else rp i U ((st i).row, (st i).took)) = some ((st F).row, (st F).took) := q1
    rw [if_pos rfl] at q1
    have q2 : hv i U (hv1 i (l3 F i c) (hoD (st F).holds i)) = (st i).row.length := q2
    rw [h1] at q2
    have eF : ∀ y, up3 st i y F = st F := fun y => up3_ne fun z => hne z.symm
    rcases hc with ⟨m, p', rfl⟩ | ⟨n, rfl⟩
    · have q1 : (match (if p' = ((st i).row.length : Int) then some ((st i).row ++ [m], (st i).took) else none) with | some q => rp i U q | none => none) = some ((st F).row, (st F).took) := q1
      by_cases z : p' = ((st i).row.length : Int)
      · rw [if_pos z] at q1
        have r1 : rp i U ((st i).row ++ [m], (st i).took) = some ((st F).row, (st F).took) := q1
        have r2 : hv i U (hoD (st F).holds i) = (st i).row.length := q2
        clear q1 q2
        subst z
        have wg' : wgts (l3 F i (.hold m (st i).row.length) :: U) = 10 + wgts U := rfl
        refine .mk rfl hm (.hold m ((C.ups i).trans hu)) ⟨⟨fun j => ?_, fun L hL => ?_, ?_, fun h hm' hF' hu' => ?_, fun h hm' hF' hu' => ?_, fun h => ?_, ?_, ?_, ?_, fun h hne' => ?_, fun h hu' => ?_⟩, ?_, ?_⟩ ?_ ?_
        · by_cases z : j = i
          · subst z; rw [up3_at]; exact C.ups j
          · rw [up3_ne z]; exact C.ups j
        · rcases List.mem_append.mp hL with hL | hL
          · exact lok L hL
          · rw [List.mem_singleton.mp hL]; exact .have_ i _ hm hne hu
        · rw [eF, wm_app]; show (st F).row ++ (wm U ++ []) = due; rw [List.append_nil]; exact msg
        · rw [eF]
          by_cases z : h = i
          · subst z
            rw [up3_at, rp_app, hv_app, r2]
            refine ⟨?_, ?_⟩
            · show (match rp h U ((st h).row ++ [m], (st h).took) with | some q => rp h [l3 h F (.have_ ((st h).row.length + 1))] q | none => none) = _
              rw [r1]
              exact rp_skip (fun L hL => by rw [List.mem_singleton.mp hL]; show (F : Int) ≠ h; omega) _
            show hv1 h (l3 h F (.have_ ((st h).row.length + 1))) ((st h).row.length : Int) = (((st h).row ++ [m]).length : Int)
            show (if (h : Int) = h then mx ((st h).row.length + 1) (st h).row.length else _) = _
            rw [if_pos rfl, List.length_append]
            unfold mx
            rw [if_neg (by omega)]; rfl
          · obtain ⟨f1, f2⟩ := far h hm' hF' hu' z
            rw [up3_ne z, rp_app, f1, hv_app, f2]
            refine ⟨rp_skip (fun L hL => by rw [List.mem_singleton.mp hL]; show (F : Int) ≠ h; omega) _, ?_⟩
            show (if (i : Int) = h then _ else ((st h).row.length : Int)) = _
            rw [if_neg (by omega)]
        · rw [eF]; exact C.dn h hm' hF' hu'
        · rw [eF]; exact C.nn h
        · rw [eF]; exact C.t0
        · rw [eF]; exact C.t1
        · rw [eF]; exact C.t2
        · by_cases z : h = i
          · subst z; rw [up3_at]; exact C.oh h hne'
          · rw [up3_ne z]; exact C.oh h hne'
        · rw [up3_ne fun z => by rw [z, hu] at hu'; cases hu']; exact C.dr h hu'
        · rw [eF]; exact I.tk
        · rw [eF, wgts_app]; show wgts U + 9 + _ + _ ≤ B; omega
        · rw [wgts_app]; show wgts U + 9 < 10 + wgts U; omega
        · rw [List.length_append]; exact Nat.le_add_right _ _
      · rw [if_neg z] at q1; cases q1
    · have r1 : rp i U ((st i).row, mx (st i).took (mn n (st i).row.length)) = some ((st F).row, (st F).took) := q1
      have r2 : hv i U (hoD (st F).holds i) = (st i).row.length := q2
      clear q1 q2
      have wg' : wgts (l3 F i (.take n) :: U) = 1 + wgts U := rfl
      refine .mk rfl hm (.take n ((C.ups i).trans hu)) ⟨⟨fun j => ?_, lok, ?_, fun h hm' hF' hu' => ?_, fun h hm' hF' hu' => ?_, fun h => ?_, ?_, ?_, ?_, fun h hne' => ?_, fun h hu' => ?_⟩, ?_, ?_⟩ (by omega) (Nat.le_refl _)
      · by_cases z : j = i
        · subst z; rw [up3_at]; exact C.ups j
        · rw [up3_ne z]; exact C.ups j
      · rw [eF]; exact msg
      · rw [eF]
        by_cases z : h = i
        · subst z; rw [up3_at]; exact ⟨r1, r2⟩
        · rw [up3_ne z]; exact far h hm' hF' hu' z
      · rw [eF]; exact C.dn h hm' hF' hu'
      · rw [eF]; exact C.nn h
      · rw [eF]; exact C.t0
      · rw [eF]; exact C.t1
      · rw [eF]; exact C.t2
      · by_cases z : h = i
        · subst z; rw [up3_at]; exact C.oh h hne'
        · rw [up3_ne z]; exact C.oh h hne'
      · rw [up3_ne fun z => by rw [z, hu] at hu'; cases hu']; exact C.dr h hu'
      · rw [eF]; exact I.tk
      · rw [eF]; omega
end
end Mine

end

section
set_option autoImplicit false
set_option linter.all false
set_option genSizeOf false
set_option genInjectivity false
namespace Mine
open PySem (Str)
/-- no message is said twice -/
noncomputable def Dis (due : List Msg) : Prop := due.Pairwise fun a b => ¬ (a.h = b.h ∧ a.n = b.n)
theorem eq_msg {a b : Msg} (h : eqD a.v b.v = true) : a.h = b.h ∧ a.n = b.n := by
  have h : (decide (a.h = b.h) && (decide (a.n = b.n) && (decide (a.w = b.w) && true))) = true := h
  rw [Bool.and_eq_true, Bool.and_eq_true] at h
  exact ⟨of_decide_eq_true h.1, of_decide_eq_true h.2.1⟩
theorem msg_new {D R : List Msg} {m : Msg} (h : Dis (D ++ m :: R)) : ((mV D).any fun z => eqD z m.v) = false := by
  have h := (List.pairwise_append.mp h).2.2
  cases q : ((mV D).any fun z => eqD z m.v) with
  | false => rfl
  | true =>
    obtain ⟨z, hz, e⟩ := List.any_eq_true.mp q
    obtain ⟨a, ha, rfl⟩ := List.mem_map.mp hz
    exact absurd (eq_msg e) (h a ha m (.head _))
theorem look_wgt {k : Int} {fi : List Int} {x : H3} {V : List Letter} (hl : (oth k fi).length ≤ 8) : wgts (lookF k fi x V).2 ≤ wgts V + 8 ∧ V.length ≤ (lookF k fi x V).2.length := by
  unfold lookF
  cases decide (x.took < hbe k fi x.row.length x.holds) with
  | false => exact ⟨Nat.le_add_right _ _, Nat.le_refl _⟩
  | true =>
    show wgts (V ++ _) ≤ _ ∧ _ ≤ (V ++ _).length
    rw [wgts_app, wgts_map _ 1 (fun _ => rfl), List.length_append]
    omega
section
variable {mm : Nat} {fi : List Int} {F : Nat} {up : Nat → Bool} {due : List Msg} {B : Nat} (A : Fi3 mm fi F) (hF : up F = true)
include A hF
theorem go_wish {st : St3} {U : List Letter} {n : Int} {m : Msg} (hd : Dis due) (I : Inv3 fi F up due B st (l3 n F (.wish m) :: U)) : Goes mm fi F up due B st U (l3 n F (.wish m)) := by
  have C := I.core
  have msg : (st F).row ++ (m :: wm U) = due := C.msg
  have lo := len_oth A.nd A.mem
  have l9 := A.len
  have p : 89 + wgts U + (st F).row.length + (st F).holds.length ≤ B := I.pot
  have far : ∀ h : Nat, (h : Int) ∈ fi → h ≠ F → up h = true → rp h U ((st h).row, (st h).took) = some ((st F).row, (st F).took) ∧ hv h U (hoD (st F).holds h) = (st h).row.length := fun h hm hne hu => by
    obtain ⟨q1, q2⟩ := C.oth h hm hne hu
    have q1 : (if (F : Int) = h then _ else rp h U ((st h).row, (st h).took)) = some ((st F).row, (st F).took) := q1
    rw [if_neg (by omega)] at q1
    exact ⟨q1, q2⟩
  have core : Core3 fi F up due (up3 st F { st F with row := (st F).row ++ [m] }) (U ++ (oth F fi).map fun t => l3 F t (.hold m (st F).row.length)) := by
    refine ⟨fun i => ?_, fun L hL => ?_, ?_, fun h hm hne hu => ?_, fun h hm hne hu => ?_, fun h => ?_, ?_, ?_, fun z => ?_, fun h hne => by rw [up3_ne hne]; exact C.oh h hne, fun h hu => by rw [up3_ne fun z => by rw [z, hF] at hu; cases hu]; exact C.dr h hu⟩
    · by_cases z : i = F
      · subst z; rw [up3_at]; exact C.ups i
      · rw [up3_ne z]; exact C.ups i
    · rcases List.mem_append.mp hL with hL | hL
      · exact C.lok L (.tail _ hL)
      · obtain ⟨t, ht, rfl⟩ := List.mem_map.mp hL
        obtain ⟨hm, hne⟩ := mem_oth.mp ht
        obtain ⟨k, rfl, _⟩ := A.nat t hm
        exact .hold k m _ hm fun z => hne (z ▸ rfl)
    · rw [up3_at, wm_app, wm_map _ (fun t m => by intro z; cases z), List.append_nil]
      show (st F).row ++ [m] ++ wm U = due
      rw [List.append_assoc]; exact msg
    · obtain ⟨f1, f2⟩ := far h hm hne hu
      rw [up3_at, up3_ne hne, rp_app, f1, hv_app, f2]
      refine ⟨?_, hv_map _ _ (fun t m => by intro z; cases z) _ _⟩
      exact rp_each (oth_nd A.nd) (mem_oth.mpr ⟨hm, fun z => hne (by omega)⟩) (by show (if ((st F).row.length : Int) = ((st F).row.length : Int) then _ else _) = _; rw [if_pos rfl])
    · rw [up3_at]; exact C.dn h hm hne hu
    · rw [up3_at]; exact C.nn h
    · rw [up3_at]; exact C.t0
    · rw [up3_at]
      have := C.t1
      show (st F).took ≤ (((st F).row ++ [m]).length : Int)
      rw [List.length_append]
      show _ ≤ (((st F).row.length + 1 : Nat) : Int)
      omega
    · rw [up3_at]; exact C.t2 z
  have wU : wgts (U ++ (oth F fi).map fun t => l3 F t (.hold m (st F).row.length)) = wgts U + 10 * (oth F fi).length := by rw [wgts_app, wgts_map _ 10 (fun _ => rfl)]
  have L := look_ok (B := B) A hF core (by
    rw [up3_at, wU]
    show _ + ((st F).row ++ [m]).length + (st F).holds.length ≤ B
    rw [List.length_append]
    show _ + ((st F).row.length + 1) + _ ≤ B
    omega)
  rw [up3_at, up3_up3] at L
  obtain ⟨w1, w2⟩ := look_wgt (k := F) (fi := fi) (x := { st F with row := (st F).row ++ [m] }) (V := U ++ (oth F fi).map fun t => l3 F t (.hold m (st F).row.length)) (by omega)
  refine .mk rfl A.mem (.wish m ((C.ups F).trans hF) (msg_new (msg ▸ hd))) L ?_ (Nat.le_trans (by rw [List.length_append]; exact Nat.le_add_right _ _) w2)
  show _ < 89 + wgts U
  omega
theorem go_have {st : St3} {U : List Letter} {h : Nat} {m : Int} (hm : (h : Int) ∈ fi) (hne : h ≠ F) (hu : up h = true) (I : Inv3 fi F up due B st (l3 h F (.have_ m) :: U)) : Goes mm fi F up due B st U (l3 h F (.have_ m)) := by
  have C := I.core
  have lo := len_oth A.nd A.mem
  have l9 := A.len
  have p : 9 + wgts U + (st F).row.length + (st F).holds.length ≤ B := I.pot
  have core : Core3 fi F up due (up3 st F { st F with holds := hoS (st F).holds h (mx m (hoD (st F).holds h)) }) U := by
    refine ⟨fun i => ?_, fun L hL => C.lok L (.tail _ hL), ?_, fun k hk hkne hku => ?_, fun k hk hkne hku => ?_, fun k => ?_, ?_, ?_, fun z => ?_, fun h hne => by rw [up3_ne hne]; exact C.oh h hne, fun h hu => by rw [up3_ne fun z => by rw [z, hF] at hu; cases hu]; exact C.dr h hu⟩
    · by_cases z : i = F
      · subst z; rw [up3_at]; exact C.ups i
      · rw [up3_ne z]; exact C.ups i
    · rw [up3_at]; exact C.msg
    · obtain ⟨q1, q2⟩ := C.oth k hk hkne hku
      have q1 : (if (F : Int) = k then _ else rp k U ((st k).row, (st k).took)) = some ((st F).row, (st F).took) := q1
      rw [if_neg (by omega)] at q1
      have q2 : hv k U (if (h : Int) = k then mx m (hoD (st F).holds k) else hoD (st F).holds k) = (st k).row.length := q2
      rw [up3_at, up3_ne hkne]
      refine ⟨q1, ?_⟩
      show hv k U (hoD (hoS (st F).holds h (mx m (hoD (st F).holds h))) k) = _
      rw [hoD_S]
      by_cases z : (k : Int) = h
      · rw [if_pos z.symm, z] at q2
        rw [if_pos z, z]; exact q2
      · rw [if_neg fun y => z y.symm] at q2
        rw [if_neg z]; exact q2
    · rw [up3_at]
      show hoD (hoS (st F).holds h _) k = 0
      rw [hoD_S, if_neg fun z => by
        have : k = h := by omega
        rw [this, hu] at hku; cases hku]
      exact C.dn k hk hkne hku
    · rw [up3_at]
      show 0 ≤ hoD (hoS (st F).holds h _) k
      rw [hoD_S]
      by_cases z : k = h
      · rw [if_pos z]; exact Int.le_trans (C.nn h) (mx_ge _ _).2
      · rw [if_neg z]; exact C.nn k
    · rw [up3_at]; exact C.t0
    · rw [up3_at]; exact C.t1
    · rw [up3_at]; exact C.t2 z
  have hs := hoS_len h (mx m (hoD (st F).holds h)) (st F).holds
  have L := look_ok (B := B) A hF core (by
    rw [up3_at]
    show _ + (st F).row.length + (hoS (st F).holds h (mx m (hoD (st F).holds h))).length ≤ B
    omega)
  rw [up3_at, up3_up3] at L
  obtain ⟨w1, w2⟩ := look_wgt (k := F) (fi := fi) (x := { st F with holds := hoS (st F).holds h (mx m (hoD (st F).holds h)) }) (V := U) (by omega)
  refine .mk rfl A.mem (.have_ m ((C.ups F).trans hF)) L ?_ w2
  show _ < 9 + wgts U
  omega
theorem goes {st : St3} {U : List Letter} {L : Letter} (hd : Dis due) (I : Inv3 fi F up due B st (L :: U)) : Goes mm fi F up due B st U L := by
  cases I.core.lok L (.head _) with
  | wish n m => exact go_wish A hF hd I
  | have_ h n hm hne hu => exact go_have A hF hm hne hu I
  | hold i m p hm hne => exact go_other A hF I hm hne (.inl ⟨m, p, rfl⟩)
  | take i n hm hne => exact go_other A hF I hm hne (.inr ⟨n, rfl⟩)
/-- letters come till none is left -/
theorem runs3 (hd : Dis due) (hB : B ≤ 990) (W : Nat) : ∀ (st : St3) (U : List Letter), wgts U ≤ W → Inv3 fi F up due B st U → ∃ n st', Runs3 mm fi st U n st' ∧ U.length ≤ n ∧ Inv3 fi F up due B st' [] := by
  induction W with
  | zero =>
    intro st U hw I
    cases U with
    | nil => exact ⟨0, st, .nil st, Nat.le_refl _, I⟩
    | cons L U => have := wgt_pos L; exact absurd hw (by show ¬ (wgt L + wgts U ≤ 0); omega)
  | succ W ih =>
    intro st U hw I
    cases U with
    | nil => exact ⟨0, st, .nil st, Nat.le_refl _, I⟩
    | cons L U =>
      obtain ⟨e, hm, q, I₁, hw₁, hl⟩ := goes A hF hd I
      rename_i i n c st₁ U₁
      obtain ⟨k, st', r, hk, I'⟩ := ih st₁ U₁ (by omega) I₁
      have p := I.pot
      have pw : wgts (L :: U) = wgt L + wgts U := rfl
      have wp := wgt_pos L
      have ul := len_wgts U
      have hrow : (st i).row.length < 1000 := by
        by_cases z : i = F
        · subst z; omega
        · cases hu : up i with
          | false => rw [I.core.dr i hu]; exact Nat.succ_pos _
          | true =>
            have : (st i).row.length ≤ (st F).row.length := rp_len _ _ _ _ (I.core.oth i hm z hu).1
            omega
      have hhol : (st i).holds.length < 1000 := by
        by_cases z : i = F
        · subst z; omega
        · rw [I.core.oh i z]; exact Nat.succ_pos _
      obtain ⟨k', e', hk'⟩ := A.nat i hm
      have hi : i < mm := by omega
      subst e
      have := len_oth A.nd hm
      exact ⟨k + 1, st', .step hi (List.contains_iff_mem.mpr hm) (by omega) (by unfold SZ; omega) hrow hhol q r, by show U.length + 1 ≤ k + 1; omega, I'⟩
end
end Mine

end

section
set_option autoImplicit false
set_option linter.all false
set_option genSizeOf false
set_option genInjectivity false
namespace Mine
open PySem (Str)
theorem look_said {k : Int} {fi : List Int} {x : H3} {V : List Letter} : (lookF k fi x V).1.said = x.said := by
  unfold lookF
  cases decide (x.took < hbe k fi x.row.length x.holds) <;> rfl
theorem up3_said {st : St3} {i j : Nat} {x : H3} (h : x.said = (st i).said) : (up3 st i x j).said = (st j).said := by
  by_cases z : j = i
  · subst z; rw [up3_at]; exact h
  · rw [up3_ne z]
theorem Step3.said {fi : List Int} {st st' : St3} {U U' : List Letter} {i : Nat} {n : Int} {c : Cont} (q : Step3 fi st U i n c st' U') (j : Nat) : (st' j).said = (st j).said := by
  cases q with
  | down => exact up3_said rfl
  | take => exact up3_said rfl
  | hold => exact up3_said rfl
  | have_ => exact up3_said look_said
  | wish => exact up3_said look_said
theorem Runs3.said {mm n : Nat} {fi : List Int} {st st' : St3} {U : List Letter} (r : Runs3 mm fi st U n st') (j : Nat) : (st' j).said = (st j).said := by
  induction r with
  | nil => rfl
  | step _ _ _ _ _ _ q r ih => exact ih.trans (q.said j)
/-- how many words a hand said -/
noncomputable def sdn (due : List Msg) (h : Int) : Nat := due.countP fun m => decide (m.h = h)
structure DueOk (due : List Msg) : Prop where
  dis : Dis due
  lt : ∀ a ∈ due, a.n < sdn due a.h
theorem DueOk.add {due : List Msg} (D : DueOk due) (h : Int) (w : Str) : DueOk (due ++ [⟨h, sdn due h, w⟩]) := by
  have e : ∀ x, sdn (due ++ [⟨h, sdn due h, w⟩]) x = sdn due x + (if h = x then 1 else 0) := fun x => by
    unfold sdn
    rw [List.countP_append, List.countP_singleton]
    by_cases z : h = x
    · rw [if_pos z, if_pos (decide_eq_true z)]
    · rw [if_neg z, if_neg (by rw [decide_eq_false z]; decide)]
  refine ⟨List.pairwise_append.mpr ⟨D.dis, List.pairwise_singleton _ _, fun a ha b hb q => ?_⟩, fun a ha => ?_⟩
  · rw [List.mem_singleton.mp hb] at q
    have := D.lt a ha
    rw [q.1, q.2] at this
    exact absurd this (Int.lt_irrefl _)
  · rw [e]
    rcases List.mem_append.mp ha with ha | ha
    · have := D.lt a ha; omega
    · rw [List.mem_singleton.mp ha]
      show (sdn due h : Int) < ((sdn due h + if h = h then 1 else 0 : Nat) : Int)
      rw [if_pos rfl]; omega
/-- between the deeds -/
inductive Mid (fi : List Int) (F : Nat) (up : Nat → Bool) (due : List Msg) (st : St3) (U : List Letter) : Prop
  | a (hF : up F = true) (I : Inv3 fi F up due (89 * due.length) st U)
  | b (hF : up F = false) (hs : ∀ i, (st i).up = up i ∧ (st i).row = [] ∧ (st i).took = 0 ∧ (st i).holds = []) (hU : ∀ L ∈ U, ∃ n m, L = l3 n F (.wish m)) (hl : U.length ≤ 89 * due.length)
structure Law3 (fi : List Int) (F : Nat) (up : Nat → Bool) (due : List Msg) (st : St3) (U : List Letter) : Prop where
  mid : Mid fi F up due st U
  ok : DueOk due
  sd : ∀ h : Nat, (st h).said = sdn due h
section
variable {mm : Nat} {fi : List Int} {F : Nat} {up : Nat → Bool} {due : List Msg} {st : St3} {U : List Letter} (A : Fi3 mm fi F)
theorem Law3.len (I : Law3 fi F up due st U) : U.length ≤ 89 * due.length := by
  cases I.mid with
  | a hF I =>
    have := I.pot
    have := len_wgts U
    omega
  | b hF hs hU hl => exact hl
theorem Law3.ups (I : Law3 fi F up due st U) (i : Nat) : (st i).up = up i := by
  cases I.mid with
  | a hF I => exact I.core.ups i
  | b hF hs hU hl => exact (hs i).1
include A
theorem down_go (hs : ∀ i, (st i).row = [] ∧ (st i).holds = []) (hF : (st F).up = false) (U : List Letter) (hU : ∀ L ∈ U, ∃ n m, L = l3 n F (.wish m)) (hl : U.length ≤ 1000) : Runs3 mm fi st U U.length st := by
  have := len_oth A.nd A.mem
  obtain ⟨k, e, hk⟩ := A.nat F A.mem
  induction U with
  | nil => exact .nil st
  | cons L U ih =>
    obtain ⟨n, m, rfl⟩ := hU L (.head _)
    have hl : U.length + 1 ≤ 1000 := hl
    refine .step (by omega) (List.contains_iff_mem.mpr A.mem) (by omega) (by unfold SZ; omega) (by rw [(hs F).1]; exact Nat.succ_pos _) (by rw [(hs F).2]; exact Nat.succ_pos _) (.down _ hF) ?_
    rw [up3_self]
    exact ih (fun L hL => hU L (.tail _ hL)) (by omega)
theorem Law3.calm (I : Law3 fi F up due st U) (hd : due.length ≤ 11) : ∃ n st', Runs3 mm fi st U n st' ∧ U.length ≤ n ∧ Law3 fi F up due st' [] := by
  cases I.mid with
  | a hF J =>
    obtain ⟨n, st', r, hn, J'⟩ := runs3 A hF I.ok.dis (by omega) (wgts U) st U (Nat.le_refl _) J
    exact ⟨n, st', r, hn, .a hF J', I.ok, fun h => (r.said h).trans (I.sd h)⟩
  | b hF hs hU hl => exact ⟨_, st, down_go A (fun i => ⟨(hs i).2.1, (hs i).2.2.2⟩) ((hs F).1.trans hF) U hU (by omega), Nat.le_refl _, .b hF hs (fun L hL => nomatch hL) (Nat.zero_le _), I.ok, I.sd⟩
theorem Law3.say (I : Law3 fi F up due st U) (i : Nat) (w : Str) : Law3 fi F up (due ++ [⟨i, (st i).said, w⟩]) (up3 st i { st i with said := (st i).said + 1 }) (U ++ [l3 i F (.wish ⟨i, (st i).said, w⟩)]) := by
  have z : ∀ (p : H3 → Prop), (∀ x : H3, p x → p { x with said := x.said + 1 }) → ∀ j, p (st j) → p (up3 st i { st i with said := (st i).said + 1 } j) := fun p hp j hj => by
    by_cases z : j = i
    · subst z; rw [up3_at]; exact hp _ hj
    · rw [up3_ne z]; exact hj
  have ez : ∀ {α : Type} (f : H3 → α), (∀ x : H3, f { x with said := x.said + 1 } = f x) → ∀ j, f (up3 st i { st i with said := (st i).said + 1 } j) = f (st j) := fun f hf j => by
    by_cases z : j = i
    · subst z; rw [up3_at]; exact hf _
    · rw [up3_ne z]
  have e1 := ez H3.row fun _ => rfl
  have e2 := ez H3.took fun _ => rfl
  have e3 := ez H3.holds fun _ => rfl
  have e4 := ez H3.up fun _ => rfl
  have hl : (due ++ [(⟨i, (st i).said, w⟩ : Msg)]).length = due.length + 1 := by rw [List.length_append]; rfl
  refine ⟨?_, by rw [I.sd i]; exact I.ok.add i w, fun h => ?_⟩
  · cases I.mid with
    | a hF J =>
      have C := J.core
      refine .a hF ⟨⟨fun i => by rw [e4]; exact C.ups i, fun L hL => ?_, ?_, fun h hm hne hu => ?_, fun h hm hne hu => by rw [e3]; exact C.dn h hm hne hu, fun h => by rw [e3]; exact C.nn h, by rw [e2]; exact C.t0, by rw [e2, e1]; exact C.t1, fun q => by rw [e2]; exact C.t2 q, fun h hne => by rw [e3]; exact C.oh h hne, fun h hu => by rw [e1]; exact C.dr h hu⟩, by rw [e1, e2, e3]; exact J.tk, ?_⟩
      · rcases List.mem_append.mp hL with hL | hL
        · exact C.lok L hL
        · rw [List.mem_singleton.mp hL]; exact .wish i _
      · rw [e1, wm_app, ← List.append_assoc, C.msg]; rfl
      · rw [e1, e1, e2, e2, e3, rp_app, hv_app, (C.oth h hm hne hu).1, (C.oth h hm hne hu).2]
        refine ⟨rp_skip (fun L hL => ?_) _, rfl⟩
        rw [List.mem_singleton.mp hL]; show (F : Int) ≠ h; omega
      · rw [e1, e3, wgts_app, hl]
        have := J.pot
        show wgts U + 89 + _ + _ ≤ _
        omega
    | b hF hs hU hn =>
      refine .b hF (fun j => by rw [e1, e2, e3, e4]; exact hs j) (fun L hL => ?_) (by rw [List.length_append, hl]; show U.length + 1 ≤ _; omega)
      rcases List.mem_append.mp hL with hL | hL
      · exact hU L hL
      · exact ⟨_, _, List.mem_singleton.mp hL⟩
  · unfold sdn
    rw [List.countP_append, List.countP_singleton]
    have e := I.sd h
    unfold sdn at e
    by_cases q : h = i
    · subst q
      rw [up3_at, if_pos (decide_eq_true rfl)]
      show (st h).said + 1 = _
      rw [e]; rfl
    · rw [up3_ne q, if_neg (by rw [decide_eq_false (by show ¬ (i : Int) = h; omega)]; decide)]
      exact e
theorem Law3.beg (hs : ∀ i, st i = ⟨0, up i, [], 0, []⟩) : Law3 fi F up [] st [] := by
  refine ⟨?_, ⟨.nil, fun a ha => nomatch ha⟩, fun h => by rw [hs]; rfl⟩
  cases hF : up F with
  | false => exact .b hF (fun i => by rw [hs]; exact ⟨rfl, rfl, rfl, rfl⟩) (fun L hL => nomatch hL) (Nat.zero_le _)
  | true =>
    refine .a hF ⟨⟨fun i => by rw [hs], fun L hL => (nomatch hL), by rw [hs]; rfl, fun h _ _ _ => by rw [hs, hs]; exact ⟨rfl, rfl⟩, fun h _ _ _ => by rw [hs]; rfl, fun h => by rw [hs]; exact Int.le_refl 0, by rw [hs]; exact Int.le_refl 0, by rw [hs]; exact Int.le_refl 0, fun _ => by rw [hs], fun h _ => by rw [hs], fun h _ => by rw [hs]⟩, ?_, by rw [hs]; exact Nat.le_refl 0⟩
    rw [hs]
    have hn : fi.length / 2 < (oth F fi).length + 1 := by have := len_oth A.nd A.mem; omega
    refine Int.not_lt.mp fun c => ?_
    have c : 1 ≤ hbe F fi 0 [] := c
    have q := (hbe_iff (len := 0) (hd := []) hn 1).mp c
    rw [List.countP_eq_zero.mpr] at q
    · omega
    · intro x hx z
      have z := of_decide_eq_true z
      rcases List.mem_cons.mp hx with e | hx
      · omega
      · obtain ⟨h, hm, rfl⟩ := List.mem_map.mp hx
        exact absurd z (by show ¬ (1 ≤ (0 : Int)); decide)
/-- what must be taken in the end -/
noncomputable def due3 (fi : List Int) (F : Nat) (up : Nat → Bool) (due : List Msg) : List Msg := cond (up F && decide (fi.length / 2 < fi.countP (upI up))) due []
theorem Law3.fin (I : Law3 fi F up due st []) {i : Nat} (hm : (i : Int) ∈ fi) (hu : up i = true) : 0 ≤ (st i).took ∧ (st i).row.length ≤ due.length ∧ (mV (st i).row).take (st i).took.toNat = mV (due3 fi F up due) := by
  cases I.mid with
  | b hF hs _ _ =>
    obtain ⟨_, h1, h2, _⟩ := hs i
    rw [h1, h2]
    unfold due3
    rw [hF]
    exact ⟨Int.le_refl _, Nat.zero_le _, rfl⟩
  | a hF J =>
    have C := J.core
    have er : (st F).row = due := (List.append_nil _).symm.trans C.msg
    have e : (st i).row = due ∧ (st i).took = (st F).took := by
      by_cases z : i = F
      · subst z; exact ⟨er, rfl⟩
      · have q := (C.oth i hm z hu).1
        have q := Option.some.inj (show some ((st i).row, (st i).took) = some ((st F).row, (st F).took) from q)
        exact ⟨(congrArg Prod.fst q).trans er, congrArg Prod.snd q⟩
    rw [e.1, e.2]
    refine ⟨C.t0, Nat.le_refl _, ?_⟩
    unfold due3
    rw [hF]
    by_cases q : fi.length / 2 < fi.countP (upI up)
    · rw [decide_eq_true q]
      show _ = mV due
      have hn := C.hn A hF
      have c : ((st F).row.length : Int) ≤ hbe F fi (st F).row.length (st F).holds := by
        refine (hbe_iff hn _).mpr (Nat.lt_of_lt_of_le q ?_)
        have e2 := cnt_oth (upI up) A.nd A.mem
        have e3 : cond (upI up F) 1 0 ≤ 1 := by cases upI up F <;> decide
        have e4 : (oth F fi).countP (upI up) ≤ ((oth F fi).map (hoD (st F).holds)).countP fun x => decide (((st F).row.length : Int) ≤ x) := by
          rw [List.countP_map]
          refine List.countP_mono_left fun h hm hu => decide_eq_true ?_
          obtain ⟨hm, hne⟩ := mem_oth.mp hm
          obtain ⟨k, rfl, hk⟩ := A.nat h hm
          have hne : k ≠ F := fun z => hne (z ▸ rfl)
          have hu : up k = true := (congrArg up (Int.toNat_natCast k)).symm.trans hu
          obtain ⟨q1, q2⟩ := C.oth k hm hne hu
          have q2 : hoD (st F).holds k = (st k).row.length := q2
          have q1 : some ((st k).row, (st k).took) = some ((st F).row, (st F).took) := q1
          have q1 : (st k).row = (st F).row := congrArg Prod.fst (Option.some.inj q1)
          show ((st F).row.length : Int) ≤ hoD (st F).holds k
          rw [q2, q1]; exact Int.le_refl _
        show _ ≤ List.countP _ (((st F).row.length : Int) :: (oth F fi).map (hoD (st F).holds))
        rw [List.countP_cons, if_pos (decide_eq_true (Int.le_refl _))]
        omega
      have t1 := C.t1
      have tk := J.tk
      have : (st F).took = due.length := by rw [← er]; omega
      rw [this, Int.toNat_natCast]
      exact List.take_of_length_le (by rw [mV_len]; exact Nat.le_refl _)
    · rw [decide_eq_false q, C.t2 (by omega)]
      rfl
end
end Mine

end

section
set_option autoImplicit false
set_option linter.all false
set_option genSizeOf false
set_option genInjectivity false
namespace Mine
open PySem (Str)
/-- some word -/
noncomputable def wordR {Ω : Type} : Sr Ω := fun as s k => ∃ c : Int, as = [.v (.int c)] ∧ ∀ w : Str, k (.v (.str w)) s
inductive WordI (c : Int) (T : Str) (r : List V) (s : Sy Unit) : Prop
  | mk (j k : Nat) (w : Str) (t : List (Nat × SV)) (hj : k + j ≤ 4) (hr : r = rngL k j) (hw : w.length = k) (hs : s = ⟨[], (137, .v (.int c)) :: (132, .v (.str T)) :: (138, .v (.str w)) :: t, ()⟩)
theorem str_at {T : Str} {n : Nat} (hn : T.length = n) (hp : 0 < n) (b : Int) {K : Nat → Prop} (h : ∀ c, K c) : Nd (0 ≤ Int.fmod b n) (need T.cps[(Int.fmod b n).toNat]? K) := by
  have h0 : (0 : Int) ≤ Int.fmod b n := Int.fmod_nonneg_of_pos b (by omega)
  have h1 : Int.fmod b n < n := Int.fmod_lt_of_pos b (by omega)
  have h2 : (Int.fmod b n).toNat < T.cps.size := by show _ < T.length; omega
  exact ⟨h0, need_i (Array.getElem?_eq_getElem h2) (h _)⟩
set_option maxRecDepth 20000 in
theorem word_e {Ω : Type} {M : MEnv Ω} : EnOk M tb.P 135 1 wordR := EnOk.fn (fun _ => SpOk.nil) fun as s k h => by
  obtain ⟨c, rfl, h⟩ := h
  refine ⟨[.int c], fun rv => ∃ w : Str, rv = .v (.str w), rfl, ?_, fun rv e => e.elim fun w e => e ▸ h w⟩
  have lT : (s_x2 ++ s_x).length = 93 := (Array.size_append (xs := s_x2.cps) (ys := s_x.cps)).trans (by decide)
  refine ⟨by show s_x2.length + s_x.length ≤ 1048576; decide, ?_⟩
  generalize hT : s_x2 ++ s_x = T at lT
  refine ⟨by decide, ?_⟩
  have h0 : (0 : Int) ≤ Int.fmod c 4 := Int.fmod_nonneg_of_pos c (by decide)
  have h1 : Int.fmod c 4 < 4 := Int.fmod_lt_of_pos c (by decide)
  obtain ⟨n, en⟩ := Int.eq_ofNat_of_zero_le h0
  rw [en] at h1
  rw [en]
  refine ⟨by show ((n : Int)).natAbs ≤ 1048576; omega, ?_⟩
  refine .mk (WordI c T) ⟨n, 0, s_empty, [], by omega, by rw [rngN_nat]; rfl, rfl, rfl⟩ ⟨fun r s' i => rfl, fun s' i => ?_, fun x r s' i => ?_⟩
  · obtain ⟨j, k', w, t, hj, hr, hw, rfl⟩ := i
    exact .mk (.v _) ⟨w, rfl⟩
  · obtain ⟨j, k', w, t, hj, hr, hw, rfl⟩ := i
    cases j with
    | zero => cases hr
    | succ j =>
      cases hr
      refine bind1_i ?_
      refine ⟨by decide, ?_⟩
      refine need_i (lk_self t) ?_
      refine ⟨.inl (by decide), ?_⟩
      refine need_i (lk_self t) ?_
      refine ⟨.inr (by show ((k' : Int)).natAbs < 4611686018427387904; omega), ?_⟩
      refine ⟨by rw [lT]; decide, ?_⟩
      rw [lT]
      refine str_at lT (by decide) _ fun q => ?_
      refine ⟨by rw [hw]; show k' + 1 ≤ 1048576; omega, ?_⟩
      exact ⟨j, k' + 1, _, _, by omega, rfl, by show (w ++ (⟨#[q]⟩ : Str)).length = _; exact (Array.size_append).trans (by show w.length + 1 = _; rw [hw]), rfl⟩
end Mine

end

section
set_option autoImplicit false
set_option linter.all false
set_option genSizeOf false
set_option genInjectivity false
namespace Mine
open PySem (Str)
theorem ris_i {m a y : Int} {r : List V} (h1 : a < y) (h2 : y < m) (h : ris m y r = true) : ris m a (.int y :: r) = true := by
  show cond (decide (y ≤ a)) false (cond (decide (m ≤ y)) false (ris m y r)) = true
  rw [decide_eq_false (by omega), decide_eq_false (by omega)]; exact h
theorem ris_mono {m a b : Int} (h : b ≤ a) : ∀ {r : List V}, ris m a r = true → ris m b r = true
  | [], _ => rfl
  | x :: r, q => by
    cases x with
    | int y =>
      refine cond_e (show cond (decide (y ≤ a)) false (cond (decide (m ≤ y)) false (ris m y r)) = true from q) (fun _ z => nomatch z) fun e1 q => cond_e q (fun _ z => nomatch z) fun e2 q => ?_
      have e1 := of_decide_eq_false e1
      have e2 := of_decide_eq_false e2
      exact ris_i (by omega) (by omega) q
    | _ => cases q
theorem hands_ris : ∀ (n : Nat) (b k : Int), ris (k + n) (k - 1) (iV (handsF n b k)) = true
  | 0, _, _ => rfl
  | n + 1, b, k => by
    have ih := hands_ris n (Int.fdiv b 2) (k + 1)
    rw [show k + 1 + (n : Int) = k + ((n + 1 : Nat) : Int) by omega, show k + 1 - 1 = k by omega] at ih
    show ris _ _ (iV (cond (decide (Int.fmod b 2 = 1)) [k] [] ++ handsF n (Int.fdiv b 2) (k + 1))) = true
    cases decide (Int.fmod b 2 = 1) with
    | true => exact ris_i (by omega) (by omega) ih
    | false => exact ris_mono (by omega) ih
theorem okL_one {mm : Nat} (h : 1 ≤ mm) : okL mm (iV [(mm : Int) - 1]) = true := ris_i (m := mm) (a := -1) (y := (mm : Int) - 1) (r := []) (by omega) (by omega) rfl
theorem okL_e {mm : Nat} {fi : List Int} (h : okL mm (iV fi) = true) : fi ≠ [] ∧ ris mm (-1) (iV fi) = true := by
  cases fi with
  | nil => cases h
  | cons x r => exact ⟨fun z => (nomatch z), h⟩
theorem ris_nd {m : Int} : ∀ {xs : List Int} {a : Int}, ris m a (iV xs) = true → xs.Nodup
  | [], _, _ => .nil
  | y :: r, a, h => by
    have h : cond (decide (y ≤ a)) false (cond (decide (m ≤ y)) false (ris m y (iV r))) = true := h
    refine cond_e h (fun _ z => nomatch z) fun e1 h => cond_e h (fun _ z => nomatch z) fun e2 h => ?_
    exact List.nodup_cons.mpr ⟨fun z => Int.lt_irrefl _ (ris_rng h y z).1, ris_nd h⟩
/-- the first list is one -/
theorem fi_ok {mm : Nat} {fi : List Int} (h1 : 1 ≤ mm) (h9 : mm ≤ 9) (ho : okL mm (iV fi) = true) : ∃ (F : Nat) (r : List Int), fi = (F : Int) :: r ∧ Fi3 mm fi F := by
  obtain ⟨hne, hr⟩ := okL_e ho
  have hn : ∀ x ∈ fi, ∃ k : Nat, x = k ∧ k < mm := fun x hx => by
    have := ris_rng hr x hx
    obtain ⟨k, rfl⟩ := Int.eq_ofNat_of_zero_le (show 0 ≤ x by omega)
    exact ⟨k, rfl, by omega⟩
  have hl := ris_len hr (by omega)
  cases fi with
  | nil => exact absurd rfl hne
  | cons x r =>
    obtain ⟨F, rfl, hF⟩ := hn x (.head _)
    exact ⟨F, r, rfl, ris_nd hr, .head _, hn, by omega⟩
noncomputable def spZ : Spc (Option FolkW) := spL [(9, 1, drawR), (11, 1, handsR), (135, 1, wordR), (243, 4, InitR), (252, 8, CalmR), (248, 4, DeedR 4 248), (249, 3, DeedR 3 249), (262, 1, DeedR 1 262), (264, 4, DeedR 4 264), (265, 4, DeedR 4 265), (266, 4, DeedR 4 266)]
theorem spZ_ok (R : Nat → Prop) (g : Nat → Option C) : SpOk (MF R g) tb.P spZ := .cons draw_e (.cons hands_e (.cons word_e (.cons init_e (.cons calm_e (.cons (deed_e 4 248) (.cons (deed_e 3 249) (.cons (deed_e 1 262) (.cons (deed_e 4 264) (.cons (deed_e 4 265) (.cons (deed_e 4 266) .nil))))))))))
theorem stm {Ω : Type} {P : Prog} {C : XT Ω} {c : PS} {r : PSs} {s : Sy Ω} {K : FX → Sy Ω → Prop} (h : sxS P C c s (fun fl s₁ => seqS fl s₁ (fun s₂ => sxSs P C r s₂ K) K)) : sxSs P C (.cons c r) s K := h
theorem nxt {Ω : Type} {S : Sy Ω} {f : Sy Ω → Prop} {K : FX → Sy Ω → Prop} (h : f S) : seqS .next S f K := h
theorem at_mod {xs : List V} {n : Nat} (hn : xs.length = n) {b : Int} (hp : 0 < n) {k : V → Prop} (h : ∀ v, v ∈ xs → k v) : atK xs (Int.fmod b n) k := by
  have h0 : (0 : Int) ≤ Int.fmod b n := Int.fmod_nonneg_of_pos b (by omega)
  have h1 : Int.fmod b n < n := Int.fmod_lt_of_pos b (by omega)
  obtain ⟨m, e⟩ := Int.eq_ofNat_of_zero_le h0
  have hm : m < xs.length := by omega
  rw [e]
  exact need_i (pyIdx_nat hm) (need_i (List.getElem?_eq_getElem hm) (h _ (List.getElem_mem hm)))
theorem iV_dat (n : Nat) : ∀ (l : List Int), (iV l).all (datN n) = true
  | [] => rfl
  | _ :: r => (Bool.and_eq_true ..).mpr ⟨by cases n <;> rfl, iV_dat n r⟩
theorem iV_any (x : Int) : ∀ (l : List Int), ((iV l).any fun z => eqD z (.int x)) = l.contains x
  | [] => rfl
  | y :: r => by
    show (decide (y = x) || (iV r).any fun z => eqD z (.int x)) = (y :: r).contains x
    rw [iV_any x r, List.contains_cons]
    congr 1
    by_cases e : y = x
    · rw [decide_eq_true e, e]; exact (beq_self_eq_true x).symm
    · rw [decide_eq_false e]; exact (beq_eq_false_iff_ne.mpr fun z => e z.symm).symm
theorem eqDs_iV : ∀ (l : List Int), eqDs (iV l) (iV l) = true
  | [] => rfl
  | x :: r => (Bool.and_eq_true ..).mpr ⟨decide_eq_true rfl, eqDs_iV r⟩
abbrev CZ : XT (Option FolkW) := callX tb.P spZ 9
section
variable {is : List Int} {K : FX → Sy (Option FolkW) → Prop} {mm : Nat} {fi : List Int}
theorem c0 (h : ∀ mm : Nat, 1 ≤ mm → mm ≤ 9 → K .next ⟨[], [(24, .v (.lst (is.map .int))), (28, .v (.int mm))], none⟩) : sxS tb.P CZ S_law_0 ⟨[], [(24, .v (.lst (is.map .int)))], none⟩ K := by
  refine ⟨is, 0, rfl, ?_⟩
  refine ⟨by decide, ?_⟩
  have h0 : (0 : Int) ≤ Int.fmod (dr is 0) 9 := Int.fmod_nonneg_of_pos _ (by decide)
  have h1 : Int.fmod (dr is 0) 9 < 9 := Int.fmod_lt_of_pos _ (by decide)
  obtain ⟨n, en⟩ := Int.eq_ofNat_of_zero_le h0
  rw [en] at h1
  have e : (1 : Int) + Int.fmod (dr is 0) 9 = ((n + 1 : Nat) : Int) := by rw [en]; show 1 + (n : Int) = _; omega
  have := h (n + 1) (by omega) (by omega)
  rw [← e] at this
  exact this
theorem c1 (h9 : mm ≤ 9) (h : K .next ⟨[.dead], [(24, .v (.lst (is.map .int))), (28, .v (.int mm)), (105, .v (.lst (iV (handsF mm (1 + dr is 1) 0))))], none⟩) : sxS tb.P CZ S_law_1 ⟨[], [(24, .v (.lst (is.map .int))), (28, .v (.int mm))], none⟩ K := by
  refine ⟨is, 1, rfl, ?_⟩
  refine ⟨1 + dr is 1, mm, by omega, rfl, ?_⟩
  exact h
theorem c2 {l : List Int} (hl : l = [] ∨ okL mm (iV l) = true) (h1 : 1 ≤ mm) (h : ∀ fi : List Int, okL mm (iV fi) = true → K .next ⟨[.dead], [(24, .v (.lst (is.map .int))), (28, .v (.int mm)), (105, .v (.lst (iV fi)))], none⟩) : sxS tb.P CZ S_law_2 ⟨[.dead], [(24, .v (.lst (is.map .int))), (28, .v (.int mm)), (105, .v (.lst (iV l)))], none⟩ K := by
  refine ⟨Nat.zero_le _, ?_⟩
  refine Ys_i (iV_dat 11 l) ?_
  cases l with
  | nil =>
    refine ⟨by show 1 ≤ 1048576; decide, ?_⟩
    exact h [(mm : Int) - 1] (okL_one h1)
  | cons y r => exact h (y :: r) (hl.resolve_left fun e => nomatch e)
/-- the folk at the beginning -/
noncomputable def st0 : St3 := fun _ => ⟨0, true, [], 0, []⟩
theorem c3 (h1 : 1 ≤ mm) (h9 : mm ≤ 9) (ho : okL mm (iV fi) = true) (hz : fi.length ≤ 9) (h : ∀ w : FolkW, w.S = folk3 mm fi st0 [] → K .next ⟨[.dead, .w 60 [(18, .int mm)]], [(24, .v (.lst (is.map .int))), (28, .v (.int mm)), (105, .v (.lst (iV fi))), (106, .s 1)], some w⟩) : sxS tb.P CZ S_law_3 ⟨[.dead], [(24, .v (.lst (is.map .int))), (28, .v (.int mm)), (105, .v (.lst (iV fi)))], none⟩ K := by
  refine ⟨by rw [iV_len]; unfold SZ; omega, ?_⟩
  refine InitR.ok rfl rfl rfl (.v _) h1 h9 ho fun w hS => ?_
  exact h w hS
theorem c4 (hz : fi.length ≤ 9) {fs : List (Nat × V)} {w : FolkW} (h : K .next ⟨[.dead, .w 60 fs], [(24, .v (.lst (is.map .int))), (28, .v (.int mm)), (105, .v (.lst (iV fi))), (106, .s 1), (140, .v (.lst (iV fi)))], some w⟩) : sxS tb.P CZ S_law_4 ⟨[.dead, .w 60 fs], [(24, .v (.lst (is.map .int))), (28, .v (.int mm)), (105, .v (.lst (iV fi))), (106, .s 1)], some w⟩ K := by
  refine ⟨by rw [iV_len]; unfold SZ; omega, ?_⟩
  exact h
end
end Mine

end

section
set_option autoImplicit false
set_option linter.all false
set_option genSizeOf false
set_option genInjectivity false
namespace Mine
open PySem (Str)
/-- those that stand -/
noncomputable def upF (d : Int) : List Int → Nat → List Int
  | [], _ => []
  | x :: r, k => cond (decide (0 < Int.fmod (Int.fdiv d (2 + k)) 3)) [x] [] ++ upF d r (k + 1)
theorem upF_sub (d : Int) : ∀ (l : List Int) (k : Nat), (upF d l k).Sublist l
  | [], _ => .slnil
  | x :: r, k => by
    show (cond (decide (0 < Int.fmod (Int.fdiv d (2 + k)) 3)) [x] [] ++ upF d r (k + 1)).Sublist (x :: r)
    cases decide (0 < Int.fmod (Int.fdiv d (2 + k)) 3) with
    | true => exact (upF_sub d r (k + 1)).cons₂ x
    | false => exact (upF_sub d r (k + 1)).cons x
noncomputable def upB (ul pr : List Int) (k : Nat) : Bool := !pr.contains (k : Int) || ul.contains (k : Int)
noncomputable def stF (ul pr : List Int) : St3 := fun k => ⟨0, upB ul pr k, [], 0, []⟩
theorem stF_app {ul pr : List Int} {i : Nat} {b : Bool} (hb : b = ul.contains (i : Int)) : up3 (stF ul pr) i ⟨0, b, [], 0, []⟩ = stF ul (pr ++ [(i : Int)]) := funext fun j => by
  have e : (pr ++ [(i : Int)]).contains (j : Int) = (pr.contains (j : Int) || decide (j = i)) := by
    rw [List.contains_append, List.contains_cons]
    congr 1
    by_cases z : j = i
    · rw [decide_eq_true z, z, beq_self_eq_true]; rfl
    · rw [decide_eq_false z, beq_eq_false_iff_ne.mpr (by omega)]; rfl
  show _ = (⟨0, !(pr ++ [(i : Int)]).contains (j : Int) || ul.contains (j : Int), [], 0, []⟩ : H3)
  rw [e]
  by_cases z : j = i
  · subst z
    rw [up3_at, decide_eq_true rfl, hb, Bool.or_true]; rfl
  · rw [up3_ne z, decide_eq_false z, Bool.or_false]; rfl
theorem stF_all (fi : List Int) : st0 = stF fi fi := funext fun k => by
  show (⟨0, true, [], 0, []⟩ : H3) = ⟨0, !fi.contains (k : Int) || fi.contains (k : Int), [], 0, []⟩
  rw [Bool.not_or_self]
theorem stF_nil (ul : List Int) : st0 = stF ul [] := rfl
section
variable {is : List Int} {K : FX → Sy (Option FolkW) → Prop} {mm : Nat} {fi : List Int} {fs : List (Nat × V)}
inductive C5A (is : List Int) (mm : Nat) (fi : List Int) (fs : List (Nat × V)) (w : FolkW) (r acc : List V) (s : Sy (Option FolkW)) : Prop
  | mk (n k : Nat) (a l : List Int) (t : List (Nat × SV)) (hn : n = l.length) (hd : fi.drop k = l) (hr : r = rngL k n) (ha : acc = iV a) (hl : a.length ≤ k) (hk : k ≤ 9) (hu : a ++ upF (dr is 2) l k = upF (dr is 2) fi 0) (hs : s = ⟨[.dead, .w 60 fs], (24, .v (.lst (is.map .int))) :: (28, .v (.int mm)) :: (105, .v (.lst (iV fi))) :: (106, .s 1) :: (140, .v (.lst (iV fi))) :: t, some w⟩)
inductive C5B (is : List Int) (mm : Nat) (fi ul : List Int) (fs : List (Nat × V)) (r : List V) (s : Sy (Option FolkW)) : Prop
  | mk (pr l : List Int) (w : FolkW) (hd : pr ++ l = fi) (hr : r = iV l) (hS : w.S = folk3 mm fi (stF ul pr) []) (hs : s = ⟨[.dead, .w 60 fs], [(24, .v (.lst (is.map .int))), (28, .v (.int mm)), (105, .v (.lst (iV fi))), (106, .s 1), (140, .v (.lst (iV ul)))], some w⟩)
theorem rngL_len : ∀ (k : Int) (m : Nat), (rngL k m).length = m
  | _, 0 => rfl
  | k, m + 1 => congrArg (· + 1) (rngL_len (k + 1) m)
theorem c5 {F : Nat} (A : Fi3 mm fi F) {w : FolkW} (hS : w.S = folk3 mm fi st0 []) (h : ∀ (ul : List Int) (w : FolkW), ul.Sublist fi → w.S = folk3 mm fi (stF ul fi) [] → K .next ⟨[.dead, .w 60 fs], [(24, .v (.lst (is.map .int))), (28, .v (.int mm)), (105, .v (.lst (iV fi))), (106, .s 1), (140, .v (.lst (iV ul)))], some w⟩) : sxS tb.P CZ S_law_5 ⟨[.dead, .w 60 fs], [(24, .v (.lst (is.map .int))), (28, .v (.int mm)), (105, .v (.lst (iV fi))), (106, .s 1), (140, .v (.lst (iV fi)))], some w⟩ K := by
  have l9 := A.len
  refine ⟨is, 2, rfl, ?_⟩
  refine ⟨by decide, ?_⟩
  refine Br_i (fun c => ?_) (fun c => ?_)
  · refine ⟨by rw [iV_len]; show ((fi.length : Int)).natAbs ≤ 1048576; omega, ?_⟩
    refine .mk (C5A is mm fi fs w) ⟨fi.length, 0, [], fi, [], rfl, rfl, by rw [iV_len, rngN_nat]; rfl, rfl, Nat.zero_le _, by decide, rfl, rfl⟩ ⟨fun r acc s' i => rfl, fun r acc s' i => ?_, fun acc s' i => ?_, fun x r acc s' i => ?_⟩
    · obtain ⟨n, k, a, l, t, hn, hd, rfl, rfl, hl, hk, hu, rfl⟩ := i
      have : l.length = fi.length - k := by rw [← hd, List.length_drop]
      rw [iV_len, rngL_len]; unfold SZ; omega
    · obtain ⟨n, k, a, l, t, hn, hd, hr, rfl, hl, hk, hu, rfl⟩ := i
      cases n with
      | succ n => cases hr
      | zero =>
      cases List.length_eq_zero_iff.mp hn.symm
      rw [show upF (dr is 2) [] k = [] from rfl, List.append_nil] at hu
      refine ⟨by rw [iV_len]; unfold SZ; omega, ?_⟩
      have hsub : a.Sublist fi := by rw [hu]; exact upF_sub _ _ _
      refine .gb (C5B is mm fi a fs) ⟨[], fi, w, rfl, rfl, hS, rfl⟩ ⟨fun r s' i => ?_, fun s' i => ?_, fun x r s' i => ?_⟩
      · obtain ⟨pr, l, w', hd, rfl, hS', rfl⟩ := i; rfl
      · obtain ⟨pr, l, w', hd, hr, hS', rfl⟩ := i
        cases l with
        | cons y l => cases hr
        | nil =>
          rw [List.append_nil] at hd
          subst hd
          exact h a w' hsub hS'
      · obtain ⟨pr, l, w', hd, hr, hS', rfl⟩ := i
        cases l with
        | nil => cases hr
        | cons y l =>
          cases hr
          have hm : y ∈ fi := by rw [← hd]; exact List.mem_append_right _ (.head _)
          obtain ⟨i, rfl, hi⟩ := A.nat y hm
          have hd' : pr ++ [(i : Int)] ++ l = fi := by rw [List.append_assoc]; exact hd
          have hne : pr.contains (i : Int) = false := by
            cases q : pr.contains (i : Int) with
            | false => rfl
            | true =>
              have nd := A.nd
              rw [← hd] at nd
              exact absurd rfl ((List.nodup_append.mp nd).2.2 _ (List.contains_iff_mem.mp q) _ (.head _))
          refine Ys_i (iV_dat 11 a) ?_
          refine Br_i (fun c => ?_) (fun c => ?_)
          · have c : (!(iV a).any fun z => eqD z (.int i)) = true := c
            rw [iV_any] at c
            have c : a.contains (i : Int) = false := by cases q : a.contains (i : Int) with | false => rfl | true => rw [q] at c; cases c
            refine DeedR.mk (vs := [.int i]) (i := i) rfl ⟨rfl, ⟨_, rfl⟩, hS'⟩ hi (List.contains_iff_mem.mpr hm) (fun h1 h2 => fall_x h1 h2 (by show (!pr.contains (i : Int) || a.contains (i : Int)) = true; rw [hne]; rfl)) fun w2 hS2 => ?_
            refine ⟨[.dead, .w 60 fs], [], _, [_], some w2, rfl, Nat.le_refl _, rfl, rfl, pr ++ [(i : Int)], l, w2, hd', rfl, hS2.trans ?_, rfl⟩
            exact congrArg (folk3 mm fi · []) (stF_app c.symm)
          · have c : (!(iV a).any fun z => eqD z (.int i)) = false := c
            rw [iV_any] at c
            have c : a.contains (i : Int) = true := by cases q : a.contains (i : Int) with | true => rfl | false => rw [q] at c; cases c
            refine ⟨[.dead, .w 60 fs], [], _, [_], some w', rfl, Nat.le_refl _, rfl, rfl, pr ++ [(i : Int)], l, w', hd', rfl, hS'.trans ?_, rfl⟩
            rw [← stF_app c.symm]
            have e : stF a pr i = ⟨0, true, [], 0, []⟩ := by show (⟨0, !pr.contains (i : Int) || a.contains (i : Int), [], 0, []⟩ : H3) = _; rw [hne]; rfl
            rw [← e, up3_self]
    · obtain ⟨n, k, a, l, t, hn, hd, hr, rfl, hl, hk, hu, rfl⟩ := i
      cases l with
      | nil => cases hn; cases hr
      | cons y l =>
      cases hn
      cases hr
      have kl : k < fi.length := by
        have : (fi.drop k).length = l.length + 1 := by rw [hd]; rfl
        rw [List.length_drop] at this; omega
      have hy : (iV fi)[k]? = some (.int y) := by
        show (fi.map V.int)[k]? = _
        have : (fi.drop k)[0]? = some y := by rw [hd]; rfl
        rw [List.getElem?_drop, Nat.add_zero] at this
        rw [List.getElem?_map, this]; rfl
      have hd' : fi.drop (k + 1) = l := by rw [← List.drop_drop, hd]; rfl
      refine bind1_i ?_
      refine ⟨is, 2, rfl, ?_⟩
      refine need_i (lk_self t) ?_
      refine ⟨⟨by show (2 : Int) + k ≠ 0; omega, by show ((2 : Int) + k).natAbs < 1073741824; omega⟩, ?_⟩
      refine ⟨by decide, ?_⟩
      have hu : a ++ (cond (decide (0 < Int.fmod (Int.fdiv (dr is 2) (2 + k)) 3)) [y] [] ++ upF (dr is 2) l (k + 1)) = upF (dr is 2) fi 0 := hu
      refine Br_i (fun c => ?_) (fun c => ?_)
      · rw [show decide (0 < Int.fmod (Int.fdiv (dr is 2) (2 + k)) 3) = true from c, ← List.append_assoc] at hu
        refine need_i (lk_self t) ?_
        refine need_i (a := .int k) rfl (need_i (a := (k : Int)) rfl (need_i (pyIdx_nat (by rw [iV_len]; exact kl)) (need_i hy ?_)))
        exact ⟨l.length, k + 1, a ++ [y], l, _, rfl, hd', rfl, by unfold iV; rw [List.map_append]; rfl, by rw [List.length_append]; show a.length + 1 ≤ _; omega, by omega, hu, rfl⟩
      · rw [show decide (0 < Int.fmod (Int.fdiv (dr is 2) (2 + k)) 3) = false from c] at hu
        exact ⟨l.length, k + 1, a, l, _, rfl, hd', rfl, rfl, by omega, by omega, hu, rfl⟩
  · exact h fi w (List.Sublist.refl _) (hS.trans (by rw [← stF_all]))
end
end Mine

end

section
set_option autoImplicit false
set_option linter.all false
set_option genSizeOf false
set_option genInjectivity false
namespace Mine
open PySem (Str)
/-- the words of a hand are counted -/
inductive CntI (cs : List SC) (l : List (Nat × SV)) (i : Int) (due : List Msg) (w : Option FolkW) (r acc : List V) (s : Sy (Option FolkW)) : Prop
  | mk (d1 d2 : List Msg) (t : List (Nat × SV)) (hd : d1 ++ d2 = due) (hr : r = mV d2) (ha : acc.length = sdn d1 i) (hs : s = ⟨cs, l ++ t, w⟩)
theorem sdn_le (l : List Msg) (i : Int) : sdn l i ≤ l.length := List.countP_le_length
/-- what goes on between -/
structure G3 (mm : Nat) (fi : List Int) (F : Nat) (up : Nat → Bool) (n : Nat) (due : List Msg) (st : St3) (U : List Letter) (w : FolkW) : Prop where
  hS : w.S = folk3 mm fi st U
  I : Law3 fi F up due st U
  hn : due.length ≤ n
section
variable {K : SV → Sy (Option FolkW) → Prop} {mm : Nat} {fi : List Int} {fs : List (Nat × V)} {F : Nat} {up : Nat → Bool} (A : Fi3 mm fi F) {w : FolkW} {due : List Msg} {st : St3} {U : List Letter} {L : List (Nat × SV)}
include A
theorem calm_r {n : Nat} {cs : List SC} (hj : at_ cs 1 = some (.w 60 fs)) (G : G3 mm fi F up n due st U w) (hn : n ≤ 11) {l : List (Nat × SV)} {k : SV → Sy (Option FolkW) → Prop} (h : ∀ (n' : Nat) (st' : St3) (w' : FolkW), U.length ≤ n' → G3 mm fi F up n due st' [] w' → k (.v (.int n')) ⟨cs, l, some w'⟩) : CalmR [.s 1] ⟨cs, l, some w⟩ k := by
  obtain ⟨n', st', r, hl, I'⟩ := G.I.calm A (Nat.le_trans G.hn hn)
  exact .mk rfl ⟨rfl, ⟨_, hj⟩, G.hS⟩ (Nat.le_trans A.len (by decide)) r fun w' hS' => h n' st' w' hl ⟨hS', I', G.hn⟩
set_option maxRecDepth 20000 in
theorem said_r {rr : List Int} (hf : fi = (F : Int) :: rr) {n : Nat} (G : G3 mm fi F up n due st U w) (hn : n < 11) {i : Nat} (hm : (i : Int) ∈ fi) {ul : List Int} (hu : ∀ k : Nat, (k : Int) ∈ fi → up k = ul.contains (k : Int)) {m : Int} (h : ∀ (w' : FolkW) (due' : List Msg) (st' : St3) (U' : List Letter), G3 mm fi F up (n + 1) due' st' U' w' → K (.v (.bool true)) ⟨[.dead, .w 60 fs, .list (mV due')], L, some w'⟩) :
    callX tb.P spZ 9 136 [.s 1, .v (.int i), .v (.int m), .v (.lst (iV ul)), .s 2] ⟨[.dead, .w 60 fs, .list (mV due)], L, some w⟩ K := by
  obtain ⟨k', e, hi⟩ := A.nat i hm
  have hi : i < mm := by omega
  refine Ys_i (iV_dat 11 ul) ?_
  refine Br_i (fun c => ?_) (fun c => ?_)
  · have c : ((iV ul).any fun z => eqD z (.int i)) = true := c
    rw [iV_any] at c
    refine ⟨m, rfl, fun wd => ?_⟩
    have hup : (st i).up = true := (G.I.ups i).trans ((hu i hm).trans c)
    have hl := G.I.len
    have hn' := G.hn
    have hS1 := G.I.say A i wd
    have hsd := G.I.sd i
    generalize hdu : due ++ [(⟨i, (st i).said, wd⟩ : Msg)] = due1 at hS1
    have hd1 : due1.length ≤ n + 1 := by rw [← hdu, List.length_append]; show due.length + 1 ≤ _; omega
    refine DeedR.mk (vs := [.int i, .str wd]) (i := i) rfl ⟨rfl, ⟨_, rfl⟩, G.hS⟩ hi (List.contains_iff_mem.mpr hm) (fun h1 h2 => say_x h1 h2 hf hup (by unfold SZ; omega)) fun w1 hw1 => ?_
    generalize up3 st i _ = st1 at hS1 hw1
    generalize U ++ [_] = U1 at hS1 hw1
    refine .mk (CntI [.dead, .w 60 fs, .list (mV due)] [(106, .s 1), (29, .v (.int i)), (139, .v (.int m)), (140, .v (.lst (iV ul))), (13, .s 2), (138, .v (.str wd))] i due (some w1)) ⟨[], due, [], rfl, rfl, rfl, rfl⟩ ⟨fun r acc s' j => ?_, fun r acc s' j => ?_, fun acc s' j => ?_, fun x r acc s' j => ?_⟩
    · obtain ⟨d1, d2, t, hd, rfl, ha, rfl⟩ := j; rfl
    · obtain ⟨d1, d2, t, hd, rfl, ha, rfl⟩ := j
      have := sdn_le d1 i
      have e2 : d1.length + d2.length = due.length := by rw [← hd, List.length_append]
      rw [mV_len, ha]; unfold SZ; omega
    · obtain ⟨d1, d2, t, hd, hr, ha, rfl⟩ := j
      cases d2 with
      | cons y d2 => cases hr
      | nil =>
      rw [List.append_nil] at hd
      subst hd
      have := sdn_le d1 i
      refine ⟨by rw [ha]; unfold SZ; omega, ?_⟩
      refine ⟨by show (mV d1).length < 1048576; rw [mV_len]; omega, ?_⟩
      rw [show mV d1 ++ [V.tup [.int i, .int acc.length, .str wd]] = mV due1 by rw [← hdu, hsd, ha]; unfold mV; rw [List.map_append]; rfl]
      refine ⟨by decide, ?_⟩
      refine Br_i (fun c => ?_) (fun c => ?_)
      · refine calm_r A rfl (n := n + 1) ⟨hw1, hS1, hd1⟩ (by omega) fun n' st' w' hl G' => ?_
        exact h w' due1 st' [] G'
      · exact h w1 due1 st1 U1 ⟨hw1, hS1, hd1⟩
    · obtain ⟨d1, d2, t, hd, hr, ha, rfl⟩ := j
      cases d2 with
      | nil => cases hr
      | cons y d2 =>
      cases hr
      refine bind1_i ?_
      refine need_i (lk_self t) ?_
      have e : sdn (d1 ++ [y]) i = sdn d1 i + cond (decide (y.h = i)) 1 0 := by
        unfold sdn
        rw [List.countP_append, List.countP_singleton]
        cases decide (y.h = (i : Int)) <;> rfl
      refine Br_i (fun c => ?_) (fun c => ?_)
      · refine need_i (lk_self t) ?_
        rw [show decide (y.h = (i : Int)) = true from c] at e
        exact ⟨d1 ++ [y], d2, _, by rw [List.append_assoc]; exact hd, rfl, by rw [List.length_append, ha, e]; rfl, rfl⟩
      · rw [show decide (y.h = (i : Int)) = false from c] at e
        exact ⟨d1 ++ [y], d2, _, by rw [List.append_assoc]; exact hd, rfl, by rw [ha, e]; rfl, rfl⟩
  · refine ⟨by decide, ?_⟩
    refine Br_i (fun c => ?_) (fun c => ?_)
    · refine calm_r A rfl (n := n) G (by omega) fun n' st' w' hl G' => ?_
      exact h w' due st' [] ⟨G'.hS, G'.I, Nat.le_succ_of_le G'.hn⟩
    · exact h w due st U ⟨G.hS, G.I, Nat.le_succ_of_le G.hn⟩
end
end Mine

end

section
set_option autoImplicit false
set_option linter.all false
set_option genSizeOf false
set_option genInjectivity false
namespace Mine
open PySem (Str)
section
variable {is : List Int} {K : FX → Sy (Option FolkW) → Prop} {mm : Nat} {fi ul : List Int} {fs : List (Nat × V)} {F : Nat} {up : Nat → Bool} (A : Fi3 mm fi F) {w : FolkW} {due : List Msg} {st : St3} {U : List Letter}
/-- the names of the law -/
noncomputable def lc (is : List Int) (mm : Nat) (fi ul : List Int) (j : Nat) (t : List (Nat × SV)) : List (Nat × SV) := (24, .v (.lst (is.map .int))) :: (28, .v (.int mm)) :: (105, .v (.lst (iV fi))) :: (106, .s 1) :: (140, .v (.lst (iV ul))) :: (13, .s j) :: t
theorem c6 (h : K .next ⟨[.dead, .w 60 fs, .list []], lc is mm fi ul 2 [], some w⟩) : sxS tb.P CZ S_law_6 ⟨[.dead, .w 60 fs], [(24, .v (.lst (is.map .int))), (28, .v (.int mm)), (105, .v (.lst (iV fi))), (106, .s 1), (140, .v (.lst (iV ul)))], some w⟩ K := by
  refine ⟨Nat.zero_le _, ?_⟩
  exact h
inductive C7I (is : List Int) (mm : Nat) (fi ul : List Int) (fs : List (Nat × V)) (F : Nat) (up : Nat → Bool) (r : List V) (s : Sy (Option FolkW)) : Prop
  | mk (n : Nat) (l : List Int) (due : List Msg) (st : St3) (U : List Letter) (w : FolkW) (hn : n + l.length ≤ 11) (hr : r = l.map .int) (G : G3 mm fi F up n due st U w) (hs : s = ⟨[.dead, .w 60 fs, .list (mV due)], lc is mm fi ul 2 [], some w⟩)
include A
theorem c7 {rr : List Int} (hf : fi = (F : Int) :: rr) (hu : ∀ k : Nat, (k : Int) ∈ fi → up k = ul.contains (k : Int)) (G : G3 mm fi F up 0 [] st U w) (h : ∀ (due : List Msg) (st : St3) (U : List Letter) (w : FolkW), G3 mm fi F up 11 due st U w → K .next ⟨[.dead, .w 60 fs, .list (mV due)], lc is mm fi ul 2 [], some w⟩) :
    sxS tb.P CZ S_law_7 ⟨[.dead, .w 60 fs, .list []], lc is mm fi ul 2 [], some w⟩ K := by
  refine ⟨⟨by decide, by decide⟩, ?_⟩
  have e : slL (is.map V.int) 3 14 = ((is.drop 3).take 11).map .int := by
    show ((is.map V.int).drop 3).take 11 = _
    rw [← List.map_drop, ← List.map_take]
  have hl : ((is.drop 3).take 11).length ≤ 11 := List.length_take_le _ _
  refine ⟨by show (slL (is.map V.int) 3 14).length ≤ _; rw [e, List.length_map]; unfold SZ; omega, ?_⟩
  refine .gb (C7I is mm fi ul fs F up) ⟨0, (is.drop 3).take 11, [], st, U, w, by omega, e, G, rfl⟩ ⟨fun r s' i => rfl, fun s' i => ?_, fun x r s' i => ?_⟩
  · obtain ⟨n, l, due, st', U', w', hn, hr, G', rfl⟩ := i
    exact h due st' U' w' ⟨G'.hS, G'.I, by have := G'.hn; omega⟩
  · obtain ⟨n, l, due, st', U', w', hn, hr, G', rfl⟩ := i
    cases l with
    | nil => cases hr
    | cons c l =>
    cases hr
    have hn : n + (l.length + 1) ≤ 11 := hn
    have hz : (iV fi).length = fi.length := iV_len fi
    have hp : 0 < fi.length := by rw [hf]; exact Nat.succ_pos _
    refine ⟨by rw [hz]; show (fi.length : Int) ≠ 0; omega, ?_⟩
    refine at_mod (n := (iV fi).length) rfl (by rw [hz]; exact hp) fun v hv => ?_
    obtain ⟨x, hx, rfl⟩ := List.mem_map.mp hv
    obtain ⟨i, rfl, hi⟩ := A.nat x hx
    refine ⟨by decide, ?_⟩
    refine said_r A hf G' (by omega) hx hu fun w2 due2 st2 U2 G2 => ?_
    exact ⟨[.dead, .w 60 fs, .list (mV due2)], [], lc is mm fi ul 2 [], [_], some w2, rfl, Nat.le_refl _, rfl, rfl, n + 1, l, due2, st2, U2, w2, by omega, rfl, G2, rfl⟩
theorem c8 {n : Nat} (hn : n ≤ 11) (G : G3 mm fi F up n due st U w) (h : ∀ w : FolkW, G3 mm fi F up n due st U w → K .next ⟨[.dead, .w 60 fs, .list (mV due), .dead], lc is mm fi ul 2 [(141, .v (.int U.length))], some w⟩) : sxS tb.P CZ S_law_8 ⟨[.dead, .w 60 fs, .list (mV due)], lc is mm fi ul 2 [], some w⟩ K := by
  obtain ⟨k', e, hi⟩ := A.nat F A.mem
  have hi : F < mm := by omega
  have hl := G.I.len
  have hn' := G.hn
  refine DeedR.mk (vs := []) (i := F) rfl ⟨rfl, ⟨_, rfl⟩, G.hS⟩ hi (List.contains_iff_mem.mpr A.mem) (fun _ _ => letters_x (by unfold SZ; omega)) fun w1 hw1 => ?_
  rw [up3_self] at hw1
  have := h w1 ⟨hw1, G.I, G.hn⟩
  rw [← List.length_map (f := tri)] at this
  exact this
theorem c9 {n : Nat} (hn : n ≤ 11) (G : G3 mm fi F up n due st U w) (h : ∀ (w : FolkW) (st' : St3) (m : Nat), U.length ≤ m → G3 mm fi F up n due st' [] w → K .next ⟨[.dead, .w 60 fs, .list (mV due), .dead], lc is mm fi ul 2 [(141, .v (.int U.length)), (142, .v (.int m))], some w⟩) : sxS tb.P CZ S_law_9 ⟨[.dead, .w 60 fs, .list (mV due), .dead], lc is mm fi ul 2 [(141, .v (.int U.length))], some w⟩ K := by
  refine calm_r A rfl (n := n) G hn fun m st' w' hl G' => ?_
  exact h w' st' m hl G'
theorem c10 {n m k : Nat} (hm : k ≤ m) (hn : n ≤ 11) (G : G3 mm fi F up n due st [] w) (h : ∀ (w : FolkW) (st' : St3), G3 mm fi F up n due st' [] w → K .next ⟨[.dead, .w 60 fs, .list (mV due), .dead, .dead], lc is mm fi ul 2 [(141, .v (.int k)), (142, .v (.int m))], some w⟩) : sxS tb.P CZ S_law_10 ⟨[.dead, .w 60 fs, .list (mV due), .dead], lc is mm fi ul 2 [(141, .v (.int k)), (142, .v (.int m))], some w⟩ K := by
  obtain ⟨k', e, hi⟩ := A.nat F A.mem
  have hi : F < mm := by omega
  refine Br_i (fun c => absurd (of_decide_eq_true (p := (m : Int) < k) c) (by omega)) (fun c => ?_)
  refine DeedR.mk (vs := []) (i := F) rfl ⟨rfl, ⟨_, rfl⟩, G.hS⟩ hi (List.contains_iff_mem.mpr A.mem) (fun _ _ => letters_x (Nat.zero_le _)) fun w1 hw1 => ?_
  rw [up3_self] at hw1
  refine ⟨Nat.zero_le _, ?_⟩
  refine CalmR.mk (st := st) (st' := st) rfl ⟨rfl, ⟨_, rfl⟩, hw1⟩ (Nat.le_trans A.len (by decide)) (.nil st) fun w2 hw2 => ?_
  exact h w2 st ⟨hw2, G.I, G.hn⟩
end
end Mine

end

section
set_option autoImplicit false
set_option linter.all false
set_option genSizeOf false
set_option genInjectivity false
namespace Mine
open PySem (Str)
theorem cnt_sub : ∀ {fi ul : List Int}, ul.Sublist fi → fi.Nodup → fi.countP (fun x => ul.contains x) = ul.length
  | [], _, h, _ => by cases h; rfl
  | y :: fi, ul, h, nd => by
    have nd := List.nodup_cons.mp nd
    cases h with
    | cons _ h =>
      rw [List.countP_cons, if_neg fun z => nd.1 (h.subset (List.contains_iff_mem.mp z))]
      exact cnt_sub h nd.2
    | @cons_cons l _ _ h =>
      rw [List.countP_cons, if_pos (List.contains_iff_mem.mpr (.head _))]
      show _ = l.length + 1
      rw [← cnt_sub h nd.2]
      congr 1
      refine List.countP_congr fun x hx => ?_
      show (y :: l).contains x = true ↔ l.contains x = true
      rw [List.contains_cons, beq_eq_false_iff_ne.mpr fun z : x = y => nd.1 (z ▸ hx)]
      exact Iff.rfl
theorem upB_mem {ul fi : List Int} {k : Nat} (h : (k : Int) ∈ fi) : upB ul fi k = ul.contains (k : Int) := by
  show (!fi.contains (k : Int) || ul.contains (k : Int)) = _
  rw [List.contains_iff_mem.mpr h]; rfl
theorem upB_cnt {mm : Nat} {ul fi : List Int} {F : Nat} (A : Fi3 mm fi F) (h : ul.Sublist fi) : fi.countP (upI (upB ul fi)) = ul.length := by
  rw [← cnt_sub h A.nd]
  refine List.countP_congr fun x hx => ?_
  obtain ⟨k, rfl, hk⟩ := A.nat x hx
  show upB ul fi (k : Int).toNat = true ↔ _
  rw [Int.toNat_natCast, upB_mem hx]
theorem eqDs_mV : ∀ (l : List Msg), eqDs (mV l) (mV l) = true
  | [] => rfl
  | m :: r => by
    show ((decide (m.h = m.h) && (decide (m.n = m.n) && (decide (m.w = m.w) && true))) && eqDs (mV r) (mV r)) = true
    rw [decide_eq_true rfl, decide_eq_true rfl, decide_eq_true rfl, eqDs_mV r]; rfl
theorem ne_off {x : V} (h : eqD x x = true) {t e : Prop} (g : e) : Br (!eqD x x) t e := by rw [h]; exact g
theorem taken_y {len : Int} {as : List HA} {i : Nat} (hi : i < as.length) (hl : (as.length : Int) = len) {U : List Letter} {fi : List Int} {x : H3} {xs : List V} (hx : (mV x.row).take x.took.toNat = xs) (ht : 0 ≤ x.took) (hr : x.row.length < 1000) : callX tb.P spD 4 265 [.s 0, .v (.int i)] ⟨fcs len (hsA i 0 as) U (hcs (h3 i fi x) ++ exC none), [], ()⟩ (FinV len (hsA i 0 as) none (h3 i fi x) fun rv h' U' => rv = .new xs ∧ h' = h3 i fi x ∧ U' = U) := hx ▸ taken_x hi hl ht hr
section
variable {is : List Int} {K : FX → Sy (Option FolkW) → Prop} {mm : Nat} {fi ul : List Int} {fs : List (Nat × V)} {F : Nat} (A : Fi3 mm fi F) (hs : ul.Sublist fi) {w : FolkW} {due : List Msg} {st : St3} {x y : V}
include A hs
theorem c11 {rr : List Int} (hf : fi = (F : Int) :: rr) (h2 : due3 fi F (upB ul fi) due = due → K .next ⟨[.dead, .w 60 fs, .list (mV due), .dead, .dead], lc is mm fi ul 2 [(141, .v x), (142, .v y)], some w⟩) (h5 : due3 fi F (upB ul fi) due = [] → K .next ⟨[.dead, .w 60 fs, .list (mV due), .dead, .dead, .list []], lc is mm fi ul 5 [(141, .v x), (142, .v y)], some w⟩) :
    sxS tb.P CZ S_law_11 ⟨[.dead, .w 60 fs, .list (mV due), .dead, .dead], lc is mm fi ul 2 [(141, .v x), (142, .v y)], some w⟩ K := by
  have e1 : upB ul fi F = ul.contains (F : Int) := upB_mem A.mem
  have e2 := upB_cnt A hs
  have l1 := hs.length_le
  have l2 := A.len
  unfold due3 at h2 h5
  rw [e1, e2] at h2 h5
  have hp : 0 < (iV fi).length := by rw [hf]; exact Nat.succ_pos _
  have hv : (iV fi)[0]? = some (.int F) := by rw [hf]; rfl
  refine need_i (a := 0) (pyIdx_nat (n := 0) hp) (need_i hv ?_)
  refine Ys_i (iV_dat 11 ul) ?_
  refine Br_i (fun c => ?_) (fun c => ?_)
  · have c : (!(iV ul).any fun z => eqD z (.int F)) = true := c
    rw [iV_any] at c
    have c : ul.contains (F : Int) = false := by cases q : ul.contains (F : Int) with | false => rfl | true => rw [q] at c; cases c
    refine ⟨Nat.zero_le _, ?_⟩
    exact h5 (by rw [c]; rfl)
  · have c : (!(iV ul).any fun z => eqD z (.int F)) = false := c
    rw [iV_any] at c
    have c : ul.contains (F : Int) = true := by cases q : ul.contains (F : Int) with | true => rfl | false => rw [q] at c; cases c
    rw [c] at h2 h5
    refine ⟨.inl (by decide), ?_⟩
    refine Br_i (fun c => ?_) (fun c => ?_)
    · have c := of_decide_eq_true (p := (2 : Int) * ((iV ul).length : Int) ≤ ((iV fi).length : Int)) c
      rw [iV_len, iV_len] at c
      refine ⟨Nat.zero_le _, ?_⟩
      exact h5 (by rw [decide_eq_false (by omega)]; rfl)
    · have c := of_decide_eq_false (p := (2 : Int) * ((iV ul).length : Int) ≤ ((iV fi).length : Int)) c
      rw [iV_len, iV_len] at c
      exact h2 (by rw [decide_eq_true (by omega)]; rfl)
end
end Mine

end

section
set_option autoImplicit false
set_option linter.all false
set_option genSizeOf false
set_option genInjectivity false
namespace Mine
open PySem (Str)
/-- what is taken by those that stand -/
structure T3 (mm : Nat) (fi : List Int) (st : St3) (ul : List Int) (D : List Msg) : Prop where
  mem : ∀ x ∈ ul, ∃ i : Nat, x = i ∧ i < mm ∧ fi.contains (i : Int) = true ∧ 0 ≤ (st i).took ∧ (st i).row.length < 1000 ∧ (mV (st i).row).take (st i).took.toNat = mV D
  len : D.length ≤ 11
  fl : fi.length ≤ 50
inductive C12I (is : List Int) (mm : Nat) (fi ul : List Int) (st : St3) (cs : List SC) (l : List (Nat × SV)) (r : List V) (s : Sy (Option FolkW)) : Prop
  | mk (q : List Int) (w : FolkW) (hq : ∀ x ∈ q, x ∈ ul) (hr : r = iV q) (hS : w.S = folk3 mm fi st []) (hs : s = ⟨cs, l, some w⟩)
section
variable {is : List Int} {K : FX → Sy (Option FolkW) → Prop} {mm : Nat} {fi ul : List Int} {fs : List (Nat × V)} {w : FolkW} {a : SC} {D : List Msg} {st : St3} {x y : V} (T : T3 mm fi st ul D) (hS : w.S = folk3 mm fi st [])
include T hS
set_option maxRecDepth 20000 in
theorem c12a (h : ∀ w, K .next ⟨[.dead, .w 60 fs, .list (mV D), .dead, .dead], lc is mm fi ul 2 [(141, .v x), (142, .v y)], some w⟩) : sxS tb.P CZ S_law_12 ⟨[.dead, .w 60 fs, .list (mV D), .dead, .dead], lc is mm fi ul 2 [(141, .v x), (142, .v y)], some w⟩ K := by
  have hd : datN 12 (.tup [.int 0, .lst (iV fi)]) = true := by show (true && ((iV fi).all (datN 10) && true)) = true; rw [iV_dat]; rfl
  have he : eqD (.tup [.int 0, .lst (iV fi)]) (.tup [.int 0, .lst (iV fi)]) = true := by show (true && (eqDs (iV fi) (iV fi) && true)) = true; rw [eqDs_iV]; rfl
  refine .gb (C12I is mm fi ul st [.dead, .w 60 fs, .list (mV D), .dead, .dead] (lc is mm fi ul 2 [(141, .v x), (142, .v y)])) ⟨ul, w, fun _ h => h, rfl, hS, rfl⟩ ⟨fun r s' i => ?_, fun s' i => ?_, fun v r s' i => ?_⟩
  · rfl
  · obtain ⟨q, w', hq, hr, hS', rfl⟩ := i
    exact h w'
  · obtain ⟨q, w', hq, hr, hS', rfl⟩ := i
    cases q with
    | nil => cases hr
    | cons z q =>
    cases hr
    obtain ⟨i, rfl, hi, hc, ht, hr, hx⟩ := T.mem z (hq z (.head _))
    refine DeedR.mk (vs := [.int i]) (i := i) rfl ⟨rfl, ⟨_, rfl⟩, hS'⟩ hi hc (fun h1 h2 => taken_y h1 h2 hx ht hr) fun w1 hw1 => ?_
    rw [up3_self] at hw1
    refine Ys_i (mV_dat D) ?_
    refine Ys_i (mV_dat D) ?_
    refine ne_off (x := .lst (mV D)) (eqDs_mV D) ?_
    refine ⟨by rw [mV_len]; unfold SZ; have := T.len; omega, ?_⟩
    refine DeedR.mk (vs := [.int i]) (i := i) rfl ⟨rfl, ⟨_, rfl⟩, hw1⟩ hi hc (fun h1 h2 => taken_y h1 h2 hx ht hr) fun w2 hw2 => ?_
    rw [up3_self] at hw2
    refine Ys_i (mV_dat D) ?_
    refine Ys_i (mV_dat D) ?_
    refine ne_off (x := .lst (mV D)) (eqDs_mV D) ?_
    refine DeedR.mk (vs := [.int i]) (i := i) rfl ⟨rfl, ⟨_, rfl⟩, hw2⟩ hi hc (fun h1 h2 => still_x h1 h2) fun w3 hw3 => ?_
    rw [up3_self] at hw3
    refine DeedR.mk (vs := [.int i]) (i := i) rfl ⟨rfl, ⟨_, rfl⟩, hw3⟩ hi hc (fun h1 h2 => listof_x h1 h2 T.fl) fun w4 hw4 => ?_
    rw [up3_self] at hw4
    refine Ys_i hd ?_
    refine Ys_i hd ?_
    refine ne_off he ?_
    exact ⟨[.dead, .w 60 fs, .list (mV D), .dead, .dead], [_, _], lc is mm fi ul 2 [(141, .v x), (142, .v y)], [_, _], some w4, rfl, Nat.le_refl _, rfl, rfl, q, w4, fun z hz => hq z (.tail _ hz), rfl, hw4, rfl⟩
set_option maxRecDepth 20000 in
theorem c12b (ha : dry a = true) (h : ∀ w, K .next ⟨[.dead, .w 60 fs, a, .dead, .dead, .list (mV D)], lc is mm fi ul 5 [(141, .v x), (142, .v y)], some w⟩) : sxS tb.P CZ S_law_12 ⟨[.dead, .w 60 fs, a, .dead, .dead, .list (mV D)], lc is mm fi ul 5 [(141, .v x), (142, .v y)], some w⟩ K := by
  have hd : datN 12 (.tup [.int 0, .lst (iV fi)]) = true := by show (true && ((iV fi).all (datN 10) && true)) = true; rw [iV_dat]; rfl
  have he : eqD (.tup [.int 0, .lst (iV fi)]) (.tup [.int 0, .lst (iV fi)]) = true := by show (true && (eqDs (iV fi) (iV fi) && true)) = true; rw [eqDs_iV]; rfl
  refine .gb (C12I is mm fi ul st [.dead, .w 60 fs, a, .dead, .dead, .list (mV D)] (lc is mm fi ul 5 [(141, .v x), (142, .v y)])) ⟨ul, w, fun _ h => h, rfl, hS, rfl⟩ ⟨fun r s' i => ?_, fun s' i => ?_, fun v r s' i => ?_⟩
  · rfl
  · obtain ⟨q, w', hq, hr, hS', rfl⟩ := i
    exact h w'
  · obtain ⟨q, w', hq, hr, hS', rfl⟩ := i
    cases q with
    | nil => cases hr
    | cons z q =>
    cases hr
    obtain ⟨i, rfl, hi, hc, ht, hr, hx⟩ := T.mem z (hq z (.head _))
    refine DeedR.mk (vs := [.int i]) (i := i) rfl ⟨rfl, ⟨_, rfl⟩, hS'⟩ hi hc (fun h1 h2 => taken_y h1 h2 hx ht hr) fun w1 hw1 => ?_
    rw [up3_self] at hw1
    refine Ys_i (mV_dat D) ?_
    refine Ys_i (mV_dat D) ?_
    refine ne_off (x := .lst (mV D)) (eqDs_mV D) ?_
    refine ⟨by rw [mV_len]; unfold SZ; have := T.len; omega, ?_⟩
    refine DeedR.mk (vs := [.int i]) (i := i) rfl ⟨rfl, ⟨_, rfl⟩, hw1⟩ hi hc (fun h1 h2 => taken_y h1 h2 hx ht hr) fun w2 hw2 => ?_
    rw [up3_self] at hw2
    refine Ys_i (mV_dat D) ?_
    refine Ys_i (mV_dat D) ?_
    refine ne_off (x := .lst (mV D)) (eqDs_mV D) ?_
    refine DeedR.mk (vs := [.int i]) (i := i) rfl ⟨rfl, ⟨_, rfl⟩, hw2⟩ hi hc (fun h1 h2 => still_x h1 h2) fun w3 hw3 => ?_
    rw [up3_self] at hw3
    refine DeedR.mk (vs := [.int i]) (i := i) rfl ⟨rfl, ⟨_, rfl⟩, hw3⟩ hi hc (fun h1 h2 => listof_x h1 h2 T.fl) fun w4 hw4 => ?_
    rw [up3_self] at hw4
    refine Ys_i hd ?_
    refine Ys_i hd ?_
    refine ne_off he ?_
    exact ⟨[.dead, .w 60 fs, a, .dead, .dead, .list (mV D)], [_, _], lc is mm fi ul 5 [(141, .v x), (142, .v y)], [_, _], some w4, rfl, Nat.le_refl _, by show (dry a && true) = true; rw [ha]; rfl, rfl, q, w4, fun z hz => hq z (.tail _ hz), rfl, hw4, rfl⟩
end
end Mine

end

section
set_option autoImplicit false
set_option linter.all false
set_option genSizeOf false
set_option genInjectivity false
namespace Mine
open PySem (Str)
section
variable {is : List Int} {K : FX → Sy (Option FolkW) → Prop} (hK : ∀ s, K (.ret (.v (.bool true))) s)
include hK
theorem law_end3 {mm : Nat} {fi ul rr : List Int} {fs : List (Nat × V)} {F : Nat} (A : Fi3 mm fi F) (hf : fi = (F : Int) :: rr) (hs : ul.Sublist fi) {w : FolkW} (hS : w.S = folk3 mm fi (stF ul fi) []) :
    sxSs tb.P CZ (.cons S_law_6 (.cons S_law_7 (.cons S_law_8 (.cons S_law_9 (.cons S_law_10 (.cons S_law_11 (.cons S_law_12 (.cons S_law_13 .nil)))))))) ⟨[.dead, .w 60 fs], [(24, .v (.lst (is.map .int))), (28, .v (.int mm)), (105, .v (.lst (iV fi))), (106, .s 1), (140, .v (.lst (iV ul)))], some w⟩ K := by
  have I0 : Law3 fi F (upB ul fi) [] (stF ul fi) [] := Law3.beg A fun i => rfl
  refine stm (c6 (nxt ?_))
  refine stm (c7 A hf (fun k hk => upB_mem hk) ⟨hS, I0, Nat.zero_le _⟩ fun due st U w G => nxt ?_)
  refine stm (c8 A (Nat.le_refl _) G fun w G => nxt ?_)
  refine stm (c9 A (Nat.le_refl _) G fun w st m hm G => nxt ?_)
  refine stm (c10 A hm (Nat.le_refl _) G fun w st G => nxt ?_)
  have T : T3 mm fi st ul (due3 fi F (upB ul fi) due) := by
    refine ⟨fun x hx => ?_, ?_, Nat.le_trans A.len (by decide)⟩
    · have hx' := hs.subset hx
      obtain ⟨i, rfl, hi⟩ := A.nat x hx'
      obtain ⟨h1, h2, h3⟩ := G.I.fin A hx' ((upB_mem hx').trans (List.contains_iff_mem.mpr hx))
      exact ⟨i, rfl, hi, List.contains_iff_mem.mpr hx', h1, by have := G.hn; omega, h3⟩
    · unfold due3
      cases upB ul fi F && decide (fi.length / 2 < fi.countP (upI (upB ul fi))) with
      | true => exact G.hn
      | false => exact Nat.zero_le _
  refine stm (c11 A hs hf (fun e => nxt ?_) fun e => nxt ?_)
  · rw [e] at T
    refine stm (c12a T G.hS fun w => nxt ?_)
    exact hK _
  · rw [e] at T
    refine stm (c12b (D := []) T G.hS rfl fun w => nxt ?_)
    exact hK _
theorem law_run : sxSs tb.P CZ F_law.body ⟨[], [(24, .v (.lst (is.map .int)))], none⟩ K := by
  refine stm (c0 fun mm h1 h9 => nxt ?_)
  refine stm (c1 h9 (nxt ?_))
  have hl : handsF mm (1 + dr is 1) 0 = [] ∨ okL mm (iV (handsF mm (1 + dr is 1) 0)) = true := by
    have := hands_ris mm (1 + dr is 1) 0
    rw [Int.zero_add, Int.zero_sub] at this
    generalize handsF mm (1 + dr is 1) 0 = l at this
    cases l with
    | nil => exact .inl rfl
    | cons y r => exact .inr this
  refine stm (c2 hl h1 fun fi ho => nxt ?_)
  obtain ⟨F, rr, hf, A⟩ := fi_ok h1 h9 ho
  refine stm (c3 h1 h9 ho A.len fun w hS => nxt ?_)
  refine stm (c4 A.len (nxt ?_))
  refine stm (c5 A hS fun ul w hs hS => nxt ?_)
  exact law_end3 hK A hf hs hS
end
theorem mtZ (H : Hp) (lo : Loc) : Mt (MF (fun _ => False) fun _ => none) [] ⟨[], [], none⟩ ⟨H, lo⟩ := ⟨rfl, fun j a c h => (nomatch h), fun i j a h => (nomatch h), fun j a h => (nomatch h), fun i sv h => (nomatch h), fun _ => False, ⟨fun _ => Iff.rfl, fun _ h => h.elim⟩, fun j a h => (nomatch h), fun a h => h.elim⟩
theorem main03 (H : Hp) (is : List Int) : CW tb.P 10 14 [.lst (is.map .int)] H (fun v _ => v = .bool true) := by
  refine callX_ok (spZ_ok (fun _ => False) fun _ => none) 0 10 14 [.v (.lst (is.map .int))] ⟨[], [], none⟩ (fun r _ => r = .v (.bool true)) [] ⟨H, fun _ => none⟩ _ _ ?_ (mtZ H _) (.cons rfl .nil) fun r s₁ ad₁ σ₁ v x m₁ dv z e => ?_
  · exact law_run (K := fun fl s₁ => retX fl = .v (.bool true)) fun s => rfl
  · subst z; exact (Option.some.inj dv).symm
end Mine

end

section
open PySem PySem.W PyProof.Rows
set_option maxRecDepth 100000
set_option maxHeartbeats 8000000
namespace Mine
theorem head03.tw10044012975148902986 : True := trivial
theorem head03.tw10070800084339938721 : True := trivial
theorem head03.tw10078516235440985130 : True := trivial
theorem head03.tw10091852684893105166 : True := trivial
theorem head03.tw10102392212512284199 : True := trivial
theorem head03.tw10112601511452614557 : True := trivial
theorem head03.tw10117608417918366751 : True := trivial
theorem head03.tw10157901039404908665 : True := trivial
theorem head03.tw10180813453941022488 : True := trivial
theorem head03.tw10185266614526501622 : True := trivial
theorem head03.tw10198183471936153941 : True := trivial
theorem head03.tw10223123013679106105 : True := trivial
theorem head03.tw10261753507630337118 : True := trivial
theorem head03.tw10263178209047292860 : True := trivial
theorem head03.tw10274206393116383934 : True := trivial
theorem head03.tw10288400538840643886 : True := trivial
theorem head03.tw1034171905333427079 : True := trivial
theorem head03.tw10406573621088303048 : True := trivial
theorem head03.tw10410986698057921555 : True := trivial
theorem head03.tw10426139175324835073 : True := trivial
theorem head03.tw10563275872395112017 : True := trivial
theorem head03.tw10563570110008509550 : True := trivial
theorem head03.tw10588003361851746533 : True := trivial
theorem head03.tw1074500291099974902 : True := trivial
theorem head03.tw10767645675981399978 : True := trivial
theorem head03.tw10788975816631596126 : True := trivial
theorem head03.tw10832406586295330083 : True := trivial
theorem head03.tw10842581093863190147 : True := trivial
theorem head03.tw10846097414822179799 : True := trivial
theorem head03.tw10881554625510430402 : True := trivial
theorem head03.tw10896790630242518677 : True := trivial
theorem head03.tw10897101257754539080 : True := trivial
theorem head03.tw10907516813097965556 : True := trivial
theorem head03.tw10973257721474938707 : True := trivial
theorem head03.tw10975637060636417836 : True := trivial
theorem head03.tw10993918360818511703 : True := trivial
theorem head03.tw11013128417129506434 : True := trivial
theorem head03.tw11112902809140084487 : True := trivial
theorem head03.tw1112215316012953191 : True := trivial
theorem head03.tw1120580828835789164 : True := trivial
theorem head03.tw1123084053369293492 : True := trivial
theorem head03.tw11260285298000027290 : True := trivial
theorem head03.tw11296792921123886453 : True := trivial
theorem head03.tw1131173595486757790 : True := trivial
theorem head03.tw11312676181742573422 : True := trivial
theorem head03.tw11330326618701704224 : True := trivial
theorem head03.tw11354227667833317452 : True := trivial
theorem head03.tw11387802457002803178 : True := trivial
theorem head03.tw11420824929403033288 : True := trivial
theorem head03.tw11458571640454021831 : True := trivial
theorem head03.tw11468087807632785348 : True := trivial
theorem head03.tw11478330410170571798 : True := trivial
theorem head03.tw11496404799069729041 : True := trivial
theorem head03.tw11542093661138435972 : True := trivial
theorem head03.tw11634324894571337834 : True := trivial
theorem head03.tw11643196730221259283 : True := trivial
theorem head03.tw11753544311187843535 : True := trivial
theorem head03.tw1176304097265434037 : True := trivial
theorem head03.tw11814686776474236988 : True := trivial
theorem head03.tw11828519029600796099 : True := trivial
theorem head03.tw11863638122044765475 : True := trivial
theorem head03.tw11876237841679835030 : True := trivial
theorem head03.tw11925793331575660807 : True := trivial
theorem head03.tw11926579108415153440 : True := trivial
theorem head03.tw11930929952863551502 : True := trivial
theorem head03.tw11952022761067543705 : True := trivial
theorem head03.tw11961158060305949176 : True := trivial
theorem head03.tw11965531017986100476 : True := trivial
theorem head03.tw11967884883656427265 : True := trivial
theorem head03.tw12035520067747480932 : True := trivial
theorem head03.tw12037571446749093691 : True := trivial
theorem head03.tw12044441213581109385 : True := trivial
theorem head03.tw12047365399284099232 : True := trivial
theorem head03.tw12048150536939090020 : True := trivial
theorem head03.tw12076605717827761859 : True := trivial
theorem head03.tw12079049447061921582 : True := trivial
theorem head03.tw12106326318114650108 : True := trivial
theorem head03.tw12109065482013091776 : True := trivial
theorem head03.tw12142518726520644062 : True := trivial
theorem head03.tw12219525214212964967 : True := trivial
theorem head03.tw12229299344533072372 : True := trivial
theorem head03.tw12304267941930684277 : True := trivial
theorem head03.tw12332656216339654145 : True := trivial
theorem head03.tw12338620724503861165 : True := trivial
theorem head03.tw12370529333891575695 : True := trivial
theorem head03.tw12377255090913101241 : True := trivial
theorem head03.tw12447761588326783736 : True := trivial
theorem head03.tw12465711612838486336 : True := trivial
theorem head03.tw12508024201486324686 : True := trivial
theorem head03.tw12535532515377514557 : True := trivial
theorem head03.tw12549587428022507545 : True := trivial
theorem head03.tw12593639649602563630 : True := trivial
theorem head03.tw1259987588423592934 : True := trivial
theorem head03.tw12612277150426662821 : True := trivial
theorem head03.tw12613329813230931701 : True := trivial
theorem head03.tw12651749937330907581 : True := trivial
theorem head03.tw12658545357952165651 : True := trivial
theorem head03.tw12674463120188244557 : True := trivial
theorem head03.tw12680423634872730646 : True := trivial
theorem head03.tw12688655661306780286 : True := trivial
theorem head03.tw1269434193807036026 : True := trivial
theorem head03.tw12710887244153473792 : True := trivial
theorem head03.tw12744448585589361620 : True := trivial
theorem head03.tw12856929832990577702 : True := trivial
theorem head03.tw12875627844519827206 : True := trivial
theorem head03.tw12879067676070159555 : True := trivial
theorem head03.tw12903837919295863669 : True := trivial
theorem head03.tw12907509744855508442 : True := trivial
theorem head03.tw12964575578741584459 : True := trivial
theorem head03.tw13076800141307645710 : True := trivial
theorem head03.tw13080753878671470259 : True := trivial
theorem head03.tw13147028123861457424 : True := trivial
theorem head03.tw13175910262579143835 : True := trivial
theorem head03.tw13229213033761901779 : True := trivial
theorem head03.tw13246943026435651707 : True := trivial
theorem head03.tw13258114696715274153 : True := trivial
theorem head03.tw13297872866660532975 : True := trivial
theorem head03.tw13332330989451987691 : True := trivial
theorem head03.tw13334146053214502250 : True := trivial
theorem head03.tw13334349280147345018 : True := trivial
theorem head03.tw13354822981232737992 : True := trivial
theorem head03.tw13415394431795159108 : True := trivial
theorem head03.tw13459482067926974788 : True := trivial
theorem head03.tw13475432666013970707 : True := trivial
theorem head03.tw13475633465521216135 : True := trivial
theorem head03.tw13513430411444717707 : True := trivial
theorem head03.tw13529952103870895472 : True := trivial
theorem head03.tw1354583179084119027 : True := trivial
theorem head03.tw13548376359343275065 : True := trivial
theorem head03.tw13553807615351105895 : True := trivial
theorem head03.tw13626043239457705043 : True := trivial
theorem head03.tw13639650637489459168 : True := trivial
theorem head03.tw13656464131314915044 : True := trivial
theorem head03.tw1370820122165310611 : True := trivial
theorem head03.tw1373061077637572458 : True := trivial
theorem head03.tw13742241363118117009 : True := trivial
theorem head03.tw13753118359869199906 : True := trivial
theorem head03.tw13770358543094194118 : True := trivial
theorem head03.tw13849822050388692591 : True := trivial
theorem head03.tw1391669719253018831 : True := trivial
theorem head03.tw13922230694910947311 : True := trivial
theorem head03.tw13933771110559650614 : True := trivial
theorem head03.tw13971389075274775712 : True := trivial
theorem head03.tw14084802578068908104 : True := trivial
theorem head03.tw14090440331756630052 : True := trivial
theorem head03.tw14094113066768389190 : True := trivial
theorem head03.tw14144152832279954036 : True := trivial
theorem head03.tw14147397144360159768 : True := trivial
theorem head03.tw14182307047921118511 : True := trivial
theorem head03.tw14196229857298791069 : True := trivial
theorem head03.tw14205226698309723666 : True := trivial
theorem head03.tw142170180290557995 : True := trivial
theorem head03.tw14233093308103281337 : True := trivial
theorem head03.tw14259995660548837830 : True := trivial
theorem head03.tw14268294454265085050 : True := trivial
theorem head03.tw14413147372726152598 : True := trivial
theorem head03.tw14462179443024451723 : True := trivial
theorem head03.tw1446487017492665740 : True := trivial
theorem head03.tw14487464701443509181 : True := trivial
theorem head03.tw14541520538425627141 : True := trivial
theorem head03.tw14583136750890056396 : True := trivial
theorem head03.tw14625714345844104940 : True := trivial
theorem head03.tw14659301386602205137 : True := trivial
theorem head03.tw14662875518253675582 : True := trivial
theorem head03.tw14677771112318347750 : True := trivial
theorem head03.tw14719159731755056701 : True := trivial
theorem head03.tw14767901125770149963 : True := trivial
theorem head03.tw14824140567999935245 : True := trivial
theorem head03.tw14850328982995703322 : True := trivial
theorem head03.tw14916877084483237730 : True := trivial
theorem head03.tw14978393036465404827 : True := trivial
theorem head03.tw15026683570516895996 : True := trivial
theorem head03.tw15059844363077293201 : True := trivial
theorem head03.tw15087491464808142992 : True := trivial
theorem head03.tw15100657793747182014 : True := trivial
theorem head03.tw15111295057521343396 : True := trivial
theorem head03.tw15125440857283774221 : True := trivial
theorem head03.tw15177618746891829264 : True := trivial
theorem head03.tw15196617049798696995 : True := trivial
theorem head03.tw15211155821341313135 : True := trivial
theorem head03.tw15236943512767642072 : True := trivial
theorem head03.tw15276066073466203400 : True := trivial
theorem head03.tw1529668115480081239 : True := trivial
theorem head03.tw15320042402330589928 : True := trivial
theorem head03.tw15351581581721824170 : True := trivial
theorem head03.tw15382189976750499865 : True := trivial
theorem head03.tw15392202067190096885 : True := trivial
theorem head03.tw15405535866400467528 : True := trivial
theorem head03.tw15430187002686974784 : True := trivial
theorem head03.tw15434067587237934242 : True := trivial
theorem head03.tw15472656103295305794 : True := trivial
theorem head03.tw1549984728333307355 : True := trivial
theorem head03.tw15520547014627085664 : True := trivial
theorem head03.tw15590671278985761478 : True := trivial
theorem head03.tw15603490663161558052 : True := trivial
theorem head03.tw15606304577654373092 : True := trivial
theorem head03.tw1566152106050716075 : True := trivial
theorem head03.tw1567819799578504230 : True := trivial
theorem head03.tw15693941313246713260 : True := trivial
theorem head03.tw15741238718745749418 : True := trivial
theorem head03.tw15817458307520510331 : True := trivial
theorem head03.tw15864688399107008038 : True := trivial
theorem head03.tw1587807874452002377 : True := trivial
theorem head03.tw1590901113225301394 : True := trivial
theorem head03.tw15913611723325928093 : True := trivial
theorem head03.tw15929135579983894787 : True := trivial
theorem head03.tw15961785767719672106 : True := trivial
theorem head03.tw15995348365144501183 : True := trivial
theorem head03.tw1608700938542434991 : True := trivial
theorem head03.tw1615982079879706536 : True := trivial
theorem head03.tw16171158832809592725 : True := trivial
theorem head03.tw16175811550334743662 : True := trivial
theorem head03.tw16188137013203298552 : True := trivial
theorem head03.tw16222934052077635046 : True := trivial
theorem head03.tw16261780741131811228 : True := trivial
theorem head03.tw16268787980625642533 : True := trivial
theorem head03.tw16288083390848884760 : True := trivial
theorem head03.tw1629435766551992247 : True := trivial
theorem head03.tw16392228218744088780 : True := trivial
theorem head03.tw16399737654109003361 : True := trivial
theorem head03.tw1650266316306696935 : True := trivial
theorem head03.tw16568203543572082016 : True := trivial
theorem head03.tw16601859729250619389 : True := trivial
theorem head03.tw16611627897222607038 : True := trivial
theorem head03.tw16616523896772411063 : True := trivial
theorem head03.tw16693788716382701912 : True := trivial
theorem head03.tw1669662179507302106 : True := trivial
theorem head03.tw16731983688884158289 : True := trivial
theorem head03.tw1673946630426606287 : True := trivial
theorem head03.tw16777206763981110877 : True := trivial
theorem head03.tw16796170096428728063 : True := trivial
theorem head03.tw16803112935750103474 : True := trivial
theorem head03.tw16808242916995234272 : True := trivial
theorem head03.tw16808519977103977473 : True := trivial
theorem head03.tw16820722449575486690 : True := trivial
theorem head03.tw16826912747946115930 : True := trivial
theorem head03.tw16866008000879523206 : True := trivial
theorem head03.tw16905116124714969433 : True := trivial
theorem head03.tw16912563808609913402 : True := trivial
theorem head03.tw16926365992748083140 : True := trivial
theorem head03.tw16932770469860536371 : True := trivial
theorem head03.tw16950109633765685681 : True := trivial
theorem head03.tw16970988446910830701 : True := trivial
theorem head03.tw16972870251751412934 : True := trivial
theorem head03.tw16995684092318472642 : True := trivial
theorem head03.tw17019974387345582767 : True := trivial
theorem head03.tw1709630923059634179 : True := trivial
theorem head03.tw17133760949048114304 : True := trivial
theorem head03.tw17134551375849316608 : True := trivial
theorem head03.tw17165018803578595308 : True := trivial
theorem head03.tw17202135692722770200 : True := trivial
theorem head03.tw17203656342877599846 : True := trivial
theorem head03.tw17210484474148539100 : True := trivial
theorem head03.tw17212097611676411929 : True := trivial
theorem head03.tw17213295573131580135 : True := trivial
theorem head03.tw1723871078085036913 : True := trivial
theorem head03.tw17238914891252275589 : True := trivial
theorem head03.tw17248580770436445885 : True := trivial
theorem head03.tw17257276897965246048 : True := trivial
theorem head03.tw17359557531472835626 : True := trivial
theorem head03.tw17396196160571375156 : True := trivial
theorem head03.tw17401234617963008608 : True := trivial
theorem head03.tw17423891201415187706 : True := trivial
theorem head03.tw17426205547261658354 : True := trivial
theorem head03.tw17439800502559448703 : True := trivial
theorem head03.tw17466834319061026572 : True := trivial
theorem head03.tw17502656837013040509 : True := trivial
theorem head03.tw17529274280632788351 : True := trivial
theorem head03.tw17574050515329097713 : True := trivial
theorem head03.tw17574662761340805137 : True := trivial
theorem head03.tw17575267095961641762 : True := trivial
theorem head03.tw17631077834839587104 : True := trivial
theorem head03.tw1769744171027434089 : True := trivial
theorem head03.tw17769188971654430417 : True := trivial
theorem head03.tw17805698302062331212 : True := trivial
theorem head03.tw17853483034937281365 : True := trivial
theorem head03.tw17911506262101345747 : True := trivial
theorem head03.tw17938418891272956056 : True := trivial
theorem head03.tw17961565058024986229 : True := trivial
theorem head03.tw17968218762661128707 : True := trivial
theorem head03.tw18124418918734011898 : True := trivial
theorem head03.tw18136109216423487123 : True := trivial
theorem head03.tw18152806611444062790 : True := trivial
theorem head03.tw18191969051692630123 : True := trivial
theorem head03.tw1820117020240152020 : True := trivial
theorem head03.tw18211528145230026707 : True := trivial
theorem head03.tw18285480851048956804 : True := trivial
theorem head03.tw18291657242573162293 : True := trivial
theorem head03.tw18294956375910514285 : True := trivial
theorem head03.tw18325928319682942399 : True := trivial
theorem head03.tw18419358643062051464 : True := trivial
theorem head03.tw1887096497657426107 : True := trivial
theorem head03.tw1891531030513634757 : True := trivial
theorem head03.tw1893600636853605267 : True := trivial
theorem head03.tw1940699956096392670 : True := trivial
theorem head03.tw2043457759542760941 : True := trivial
theorem head03.tw2128453140061640279 : True := trivial
theorem head03.tw2148472647116941024 : True := trivial
theorem head03.tw2202448815426881350 : True := trivial
theorem head03.tw2240376339156820012 : True := trivial
theorem head03.tw2284931630294817499 : True := trivial
theorem head03.tw2304213054662113598 : True := trivial
theorem head03.tw2385403200639775366 : True := trivial
theorem head03.tw2480841797129463371 : True := trivial
theorem head03.tw2546033363195059100 : True := trivial
theorem head03.tw2562019098585954867 : True := trivial
theorem head03.tw2606997301404302017 : True := trivial
theorem head03.tw2624731702783163164 : True := trivial
theorem head03.tw2645143711667123753 : True := trivial
theorem head03.tw2702524003277431812 : True := trivial
theorem head03.tw2717009701121869084 : True := trivial
theorem head03.tw2740806740033495667 : True := trivial
theorem head03.tw2742694495237207799 : True := trivial
theorem head03.tw2759668488267277376 : True := trivial
theorem head03.tw2787710068060529481 : True := trivial
theorem head03.tw2794235755563761859 : True := trivial
theorem head03.tw281978681153934430 : True := trivial
theorem head03.tw2844302368880283238 : True := trivial
theorem head03.tw2895690386811384876 : True := trivial
theorem head03.tw292280379699958660 : True := trivial
theorem head03.tw2949882614402389628 : True := trivial
theorem head03.tw2955908193684600550 : True := trivial
theorem head03.tw2981134691993347491 : True := trivial
theorem head03.tw2995253645783163838 : True := trivial
theorem head03.tw300870448257095318 : True := trivial
theorem head03.tw3031641722342452561 : True := trivial
theorem head03.tw3051438788771883239 : True := trivial
theorem head03.tw3086164605089412783 : True := trivial
theorem head03.tw3089139749939648529 : True := trivial
theorem head03.tw3149649755155101921 : True := trivial
theorem head03.tw3206489397204132433 : True := trivial
theorem head03.tw3207772347243043714 : True := trivial
theorem head03.tw3220768880751608056 : True := trivial
theorem head03.tw3231045862499785302 : True := trivial
theorem head03.tw3236728580101040160 : True := trivial
theorem head03.tw3274933391236471835 : True := trivial
theorem head03.tw3356721259770947322 : True := trivial
theorem head03.tw340025456511106668 : True := trivial
theorem head03.tw3419001248713573838 : True := trivial
theorem head03.tw3431217769921630041 : True := trivial
theorem head03.tw3459327807034357920 : True := trivial
theorem head03.tw3485013318071803942 : True := trivial
theorem head03.tw3498025564325974680 : True := trivial
theorem head03.tw3526110318413790353 : True := trivial
theorem head03.tw3576498226164000462 : True := trivial
theorem head03.tw3588661661021076052 : True := trivial
theorem head03.tw3597746123675401807 : True := trivial
theorem head03.tw3656305039335070675 : True := trivial
theorem head03.tw3711293381635649287 : True := trivial
theorem head03.tw3747355708488239885 : True := trivial
theorem head03.tw3756368968620353620 : True := trivial
theorem head03.tw3803408703082866800 : True := trivial
theorem head03.tw383580498903390782 : True := trivial
theorem head03.tw3887772256502043284 : True := trivial
theorem head03.tw3910868390087538482 : True := trivial
theorem head03.tw3953106438971965638 : True := trivial
theorem head03.tw3959713616788010599 : True := trivial
theorem head03.tw396771741345421 : True := trivial
theorem head03.tw4004654225797552523 : True := trivial
theorem head03.tw4013227044116779898 : True := trivial
theorem head03.tw4032141470319030283 : True := trivial
theorem head03.tw4076784280373993522 : True := trivial
theorem head03.tw4145338841229724458 : True := trivial
theorem head03.tw4152874069330967305 : True := trivial
theorem head03.tw4159577470383268682 : True := trivial
theorem head03.tw4170819351967011050 : True := trivial
theorem head03.tw4232278888840200759 : True := trivial
theorem head03.tw4234207807888563702 : True := trivial
theorem head03.tw4254133256943232730 : True := trivial
theorem head03.tw4289478619561388161 : True := trivial
theorem head03.tw4310950151390074168 : True := trivial
theorem head03.tw4328650828280613593 : True := trivial
theorem head03.tw4391323545750262449 : True := trivial
theorem head03.tw4449246121204596812 : True := trivial
theorem head03.tw4453504131749799931 : True := trivial
theorem head03.tw448033537092047404 : True := trivial
theorem head03.tw4496364157156632085 : True := trivial
theorem head03.tw4540632750088311315 : True := trivial
theorem head03.tw4560915324356471128 : True := trivial
theorem head03.tw4583575029666870498 : True := trivial
theorem head03.tw4607659282156428258 : True := trivial
theorem head03.tw4638312413869685414 : True := trivial
theorem head03.tw4673231235260318398 : True := trivial
theorem head03.tw4683200884200492146 : True := trivial
theorem head03.tw4684274256730185348 : True := trivial
theorem head03.tw4722656694371804893 : True := trivial
theorem head03.tw4761561293254501143 : True := trivial
theorem head03.tw480373595480190690 : True := trivial
theorem head03.tw4811104735447814462 : True := trivial
theorem head03.tw4838514674007118215 : True := trivial
theorem head03.tw4882037126881840988 : True := trivial
theorem head03.tw4892582375725954174 : True := trivial
theorem head03.tw4913043826804450113 : True := trivial
theorem head03.tw4945881981773436753 : True := trivial
theorem head03.tw4948662866294686755 : True := trivial
theorem head03.tw4977156484710344520 : True := trivial
theorem head03.tw5016236904794727651 : True := trivial
theorem head03.tw5027211176159665888 : True := trivial
theorem head03.tw5027427464991053583 : True := trivial
theorem head03.tw5085028581203016801 : True := trivial
theorem head03.tw5096166563785831036 : True := trivial
theorem head03.tw5123928356089446824 : True := trivial
theorem head03.tw5181468196102405389 : True := trivial
theorem head03.tw5195761086912831640 : True := trivial
theorem head03.tw5198843617292099362 : True := trivial
theorem head03.tw5220561025271539644 : True := trivial
theorem head03.tw5220636101354991115 : True := trivial
theorem head03.tw5369154893212741990 : True := trivial
theorem head03.tw5476126536369539876 : True := trivial
theorem head03.tw5518525211087801524 : True := trivial
theorem head03.tw5534531441653816673 : True := trivial
theorem head03.tw5569107216496425265 : True := trivial
theorem head03.tw5573219289898348521 : True := trivial
theorem head03.tw5578356072676619986 : True := trivial
theorem head03.tw5627737211984344703 : True := trivial
theorem head03.tw5644880410358154532 : True := trivial
theorem head03.tw5787671070455872391 : True := trivial
theorem head03.tw5788512675912606364 : True := trivial
theorem head03.tw5791036587789159751 : True := trivial
theorem head03.tw5804931117345927368 : True := trivial
theorem head03.tw5811863726809701950 : True := trivial
theorem head03.tw5840165687134080202 : True := trivial
theorem head03.tw586192375499099051 : True := trivial
theorem head03.tw5875494759099567966 : True := trivial
theorem head03.tw5907805460906653858 : True := trivial
theorem head03.tw5920819988268218201 : True := trivial
theorem head03.tw5987969688657866247 : True := trivial
theorem head03.tw6022376035687166461 : True := trivial
theorem head03.tw6024889622656116684 : True := trivial
theorem head03.tw6035748678737816178 : True := trivial
theorem head03.tw6051386699853955574 : True := trivial
theorem head03.tw6059355405156456496 : True := trivial
theorem head03.tw6069665217832940046 : True := trivial
theorem head03.tw6130884751105661154 : True := trivial
theorem head03.tw6163051910634242898 : True := trivial
theorem head03.tw6166798847084854393 : True := trivial
theorem head03.tw6213597190357455073 : True := trivial
theorem head03.tw6229678506721371381 : True := trivial
theorem head03.tw6243484934623978034 : True := trivial
theorem head03.tw6280815381320705459 : True := trivial
theorem head03.tw6354425429094815162 : True := trivial
theorem head03.tw6491619363903303175 : True := trivial
theorem head03.tw6493060307297766215 : True := trivial
theorem head03.tw6513908743674033462 : True := trivial
theorem head03.tw6560895957101491797 : True := trivial
theorem head03.tw656459130860094441 : True := trivial
theorem head03.tw6617054225346297256 : True := trivial
theorem head03.tw66905755319708982 : True := trivial
theorem head03.tw6714807358684582383 : True := trivial
theorem head03.tw6790047559829321062 : True := trivial
theorem head03.tw6814455656139260788 : True := trivial
theorem head03.tw6842073661187738577 : True := trivial
theorem head03.tw6849785776733720707 : True := trivial
theorem head03.tw688477837434352258 : True := trivial
theorem head03.tw6885722960431763776 : True := trivial
theorem head03.tw6890449634574293921 : True := trivial
theorem head03.tw6921770620338114156 : True := trivial
theorem head03.tw6940652256834608356 : True := trivial
theorem head03.tw6994680149921813898 : True := trivial
theorem head03.tw702886066648819835 : True := trivial
theorem head03.tw7102979020931938738 : True := trivial
theorem head03.tw7115683809418020032 : True := trivial
theorem head03.tw7118355668193752362 : True := trivial
theorem head03.tw7137108032861457515 : True := trivial
theorem head03.tw7160008036064282295 : True := trivial
theorem head03.tw7209054688326746838 : True := trivial
theorem head03.tw7216171445940476594 : True := trivial
theorem head03.tw727875846852145099 : True := trivial
theorem head03.tw7335014982456559408 : True := trivial
theorem head03.tw7395328833756075659 : True := trivial
theorem head03.tw7408792951219464407 : True := trivial
theorem head03.tw7430001043297758307 : True := trivial
theorem head03.tw7433595700612591141 : True := trivial
theorem head03.tw7439938944213926252 : True := trivial
theorem head03.tw7466100439552848049 : True := trivial
theorem head03.tw7488224270025225573 : True := trivial
theorem head03.tw7509328085074881090 : True := trivial
theorem head03.tw7555852671099987171 : True := trivial
theorem head03.tw7560910240087255015 : True := trivial
theorem head03.tw7595058392528229241 : True := trivial
theorem head03.tw7600925492863125876 : True := trivial
theorem head03.tw7683354485839603279 : True := trivial
theorem head03.tw7690180048631466732 : True := trivial
theorem head03.tw7817238732816967599 : True := trivial
theorem head03.tw7824185021896397816 : True := trivial
theorem head03.tw7842462484494798772 : True := trivial
theorem head03.tw7844788138130718747 : True := trivial
theorem head03.tw7850258259231984996 : True := trivial
theorem head03.tw7855185350619418110 : True := trivial
theorem head03.tw7885019506540374812 : True := trivial
theorem head03.tw7913153562746719544 : True := trivial
theorem head03.tw7986785286277858294 : True := trivial
theorem head03.tw8038313163567585685 : True := trivial
theorem head03.tw8039329815531394970 : True := trivial
theorem head03.tw808157787393456313 : True := trivial
theorem head03.tw8085452910449692558 : True := trivial
theorem head03.tw8125634373544910354 : True := trivial
theorem head03.tw813449888550516439 : True := trivial
theorem head03.tw8150383270033430937 : True := trivial
theorem head03.tw8183506566920618333 : True := trivial
theorem head03.tw8211057175878620602 : True := trivial
theorem head03.tw8243108110477603145 : True := trivial
theorem head03.tw8319777035632265812 : True := trivial
theorem head03.tw8355358904042444401 : True := trivial
theorem head03.tw8358672031574802171 : True := trivial
theorem head03.tw8363680438381664395 : True := trivial
theorem head03.tw8367172335608532461 : True := trivial
theorem head03.tw836969225270565147 : True := trivial
theorem head03.tw8420280958471815803 : True := trivial
theorem head03.tw8430854459595913574 : True := trivial
theorem head03.tw843105071280807437 : True := trivial
theorem head03.tw8442543986148195159 : True := trivial
theorem head03.tw8477723883705797832 : True := trivial
theorem head03.tw848521072039097027 : True := trivial
theorem head03.tw8546646480522612687 : True := trivial
theorem head03.tw8612901397160471411 : True := trivial
theorem head03.tw861601922621485705 : True := trivial
theorem head03.tw8700377383309548940 : True := trivial
theorem head03.tw8764810231130422435 : True := trivial
theorem head03.tw8777488178351738015 : True := trivial
theorem head03.tw8829153393762478930 : True := trivial
theorem head03.tw8864280095032001538 : True := trivial
theorem head03.tw8878821312524307745 : True := trivial
theorem head03.tw8900439720194909144 : True := trivial
theorem head03.tw8914158805772100745 : True := trivial
theorem head03.tw8968765742714618168 : True := trivial
theorem head03.tw9061373060935149677 : True := trivial
theorem head03.tw9100928642438395703 : True := trivial
theorem head03.tw9117966332265187000 : True := trivial
theorem head03.tw9129177215828488791 : True := trivial
theorem head03.tw9151791108341952138 : True := trivial
theorem head03.tw9153176791963203626 : True := trivial
theorem head03.tw9215995353332832426 : True := trivial
theorem head03.tw9228088221584737919 : True := trivial
theorem head03.tw9274266860621339457 : True := trivial
theorem head03.tw9296902271297743193 : True := trivial
theorem head03.tw9328147139705662179 : True := trivial
theorem head03.tw9331949794499617989 : True := trivial
theorem head03.tw9331964009378329498 : True := trivial
theorem head03.tw9358687899474290366 : True := trivial
theorem head03.tw9508354398809872784 : True := trivial
theorem head03.tw9537984596181737790 : True := trivial
theorem head03.tw9572171373152143281 : True := trivial
theorem head03.tw9589632917856542445 : True := trivial
theorem head03.tw9627879463292599746 : True := trivial
theorem head03.tw9649003628953879301 : True := trivial
theorem head03.tw9661434942306459035 : True := trivial
theorem head03.tw9706376629156031048 : True := trivial
theorem head03.tw9707677649854114038 : True := trivial
theorem head03.tw9734582440342192380 : True := trivial
theorem head03.tw9945073584962952974 : True := trivial
theorem head03.tw9961277076605117547 : True := trivial
set_option Elab.async true in
theorem head03 : PySem.Challenge.rw_uf020034_03.Holds := by
  w_on; o_law; k_head; (case hw => w_witness2)
  intro w s₀ s₁ mg mb G Y fa o pm cd doc dV kV ho hd hcd hD hmg hg args vals as hpre hlay hrd hwl hlo
  have KX := kIn_of Y
  refine Ground.open G ?_
  intro T B D TE TW
  wrow_args hpre hlay hrd hwl hlo
  exact law_end (t := tb) (k := 14) T KX (by decide +kernel) (by kernel_rfl) (by kernel_rfl) hg "law" rfl (by kernel_rfl) hmg (by assumption) (by assumption) (fun _ => rfl) (by wrow_post) 10 ⟨by decide, by decide⟩ (fun is _ => main03 H0 is)
end Mine
end
theorem PySem.Challenge.cw_uf020034_03_holds : PySem.Challenge.rw_uf020034_03.Holds := by
  exact Mine.head03
