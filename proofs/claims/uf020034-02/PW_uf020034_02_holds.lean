import PyProof.Rows.All
import Wide.All
import OpenK.AllK
import Wide.FinOn
import KE.KIsAll
import PyProof.ExcAttrAll.ValueError
import PySem.Challenge.RW_uf020034_02

section
set_option autoImplicit false
set_option linter.all false
set_option genSizeOf false
set_option genInjectivity false
namespace Mine
open PySem (Str)

/-! Abstract values, cells, heaps. -/
inductive B where
  | int | bool | list | tuple | str | valueError | range | set | enumerate
  | len | isinstance | max | min | sorted

inductive V where
  | none
  | bool (b : Bool)
  | int (i : Int)
  | str (s : Str)
  | tup (xs : List V)
  | lst (xs : List V)
  | rng (a b c : Int)
  | ref (i : Nat)
  | bt (b : B)
  | fn (k : Nat)
  | cls (k : Nat)

inductive C where
  | list (xs : List V)
  | dict (kvs : List (V × V))
  | inst (k : Nat) (fs : List (Nat × V))
  | exc (k : Nat)

structure Hp where
  next : Nat
  get : Nat → Option C

noncomputable def Hp.set (H : Hp) (i : Nat) (c : C) : Hp := ⟨H.next, fun j => if j = i then some c else H.get j⟩
noncomputable def Hp.new (H : Hp) (c : C) : Hp := ⟨H.next + 1, fun j => if j = H.next then some c else H.get j⟩
noncomputable def Hp.del (H : Hp) (i : Nat) : Hp := ⟨H.next, fun j => if j = i then none else H.get j⟩

abbrev Loc := Nat → Option V
noncomputable def upd (m : Loc) (i : Nat) (v : V) : Loc := fun j => if j = i then some v else m j
noncomputable def unb (m : Loc) (i : Nat) : Loc := fun j => if j = i then none else m j
noncomputable def unbs (ts : List Nat) (m : Loc) : Loc := fun j => if ts.contains j then none else m j

structure St where
  H : Hp
  loc : Loc
noncomputable def St.setH (σ : St) (H : Hp) : St := ⟨H, σ.loc⟩
noncomputable def St.put (σ : St) (i : Nat) (v : V) : St := ⟨σ.H, upd σ.loc i v⟩

inductive Flow where
  | next | brk | cont
  | ret (v : V)

noncomputable def lk {α : Type} : List (Nat × α) → Nat → Option α
  | [], _ => none
  | p :: r, n => cond (Nat.beq p.1 n) (some p.2) (lk r n)
noncomputable def st {α : Type} : List (Nat × α) → Nat → α → List (Nat × α)
  | [], n, v => [(n, v)]
  | p :: r, n, v => cond (Nat.beq p.1 n) ((p.1, v) :: r) (p :: st r n v)

/-- the largest size of a list, a text, a dict -/
noncomputable def SZ : Nat := 1048576
/-- a thing that must be there -/
noncomputable def need {α : Type} (o : Option α) (k : α → Prop) : Prop := match o with
  | some a => k a
  | none => False
/-- a demand on the way -/
noncomputable def Nd (p t : Prop) : Prop := p ∧ t
/-- two ways -/
noncomputable def Br (b : Bool) (t e : Prop) : Prop := match b with
  | true => t
  | false => e

/-! How things are seen. -/
noncomputable def cL : Option C → Option (List V)
  | some (.list xs) => some xs
  | _ => none
noncomputable def cD : Option C → Option (List (V × V))
  | some (.dict kvs) => some kvs
  | _ => none
noncomputable def cI : Option C → Option (Nat × List (Nat × V))
  | some (.inst k fs) => some (k, fs)
  | _ => none
noncomputable def cE : Option C → Option Nat
  | some (.exc k) => some k
  | _ => none
noncomputable def mL (o : Option (List V)) : Option V := match o with
  | some xs => some (.lst xs)
  | none => none
/-- data, and lists of the heap as frozen ones -/
noncomputable def see (H : Hp) : V → Option V
  | .ref i => mL (cL (H.get i))
  | .bt _ => none
  | .fn _ => none
  | .cls _ => none
  | x => some x
noncomputable def aRef : V → Option Nat
  | .ref i => some i
  | _ => none
noncomputable def aInt : V → Option Int
  | .int i => some i
  | _ => none
noncomputable def aStr : V → Option Str
  | .str s => some s
  | _ => none
noncomputable def aLst : V → Option (List V)
  | .lst xs => some xs
  | _ => none
noncomputable def aTup : V → Option (List V)
  | .tup xs => some xs
  | _ => none
noncomputable def aBool : V → Option Bool
  | .bool b => some b
  | _ => none

noncomputable def rngN (a b c : Int) : Nat := if c = 1 then (b - a).toNat else if c = -1 then (a - b).toNat else 0
noncomputable def rngL (a c : Int) : Nat → List V
  | 0 => []
  | n + 1 => .int a :: rngL (a + c) c n
/-- the items of data -/
noncomputable def itV : V → Option (List V)
  | .lst xs => some xs
  | .tup xs => some xs
  | .rng a b c => some (rngL a c (rngN a b c))
  | _ => none

/-! Data, to a depth, the heap's lists resolved. -/
noncomputable def deepL (f : V → Option V) : List V → Option (List V)
  | [] => some []
  | x :: r => match f x with
    | some y => (match deepL f r with | some ys => some (y :: ys) | none => none)
    | none => none
noncomputable def mT (o : Option (List V)) : Option V := match o with
  | some xs => some (.tup xs)
  | none => none
noncomputable def bindL (o : Option (List V)) (f : List V → Option V) : Option V := match o with
  | some xs => f xs
  | none => none
noncomputable def deepN (H : Hp) : Nat → V → Option V
  | 0, x => (match x with
    | .none => some .none
    | .bool b => some (.bool b)
    | .int i => some (.int i)
    | .str s => some (.str s)
    | _ => none)
  | n + 1, x => (match x with
    | .none => some .none
    | .bool b => some (.bool b)
    | .int i => some (.int i)
    | .str s => some (.str s)
    | .tup xs => mT (deepL (deepN H n) xs)
    | .lst xs => mL (deepL (deepN H n) xs)
    | .ref i => bindL (cL (H.get i)) fun xs => mL (deepL (deepN H n) xs)
    | _ => none)
noncomputable def deep (H : Hp) (v : V) : Option V := deepN H 12 v
noncomputable def bI (b : Bool) : Int := cond b 1 0
noncomputable def isNone : V → Bool
  | .none => true
  | _ => false
noncomputable def eqB (a : Bool) : V → Bool
  | .bool b => a == b
  | .int i => decide (bI a = i)
  | _ => false
noncomputable def eqI (a : Int) : V → Bool
  | .bool b => decide (a = bI b)
  | .int i => decide (a = i)
  | _ => false
noncomputable def eqS (a : Str) : V → Bool
  | .str b => decide (a = b)
  | _ => false
mutual
noncomputable def eqD : V → V → Bool
  | .none, y => isNone y
  | .bool a, y => eqB a y
  | .int a, y => eqI a y
  | .str a, y => eqS a y
  | .tup a, y => (match y with | .tup b => eqDs a b | _ => false)
  | .lst a, y => (match y with | .lst b => eqDs a b | _ => false)
  | _, _ => false
noncomputable def eqDs : List V → List V → Bool
  | [], y => y.isEmpty
  | a :: r, y => (match y with | b :: t => eqD a b && eqDs r t | [] => false)
end

/-! Operations, as demands. -/
inductive BOp where
  | add | sub | mul | fdiv | mod | pow | bor
inductive COp where
  | eq | ne | lt | le | gt | ge | isIn | notIn | is | isNot
inductive LV where
  | val (v : V)
  | newList (xs : List V)

noncomputable def repL (xs : List V) : Nat → List V
  | 0 => []
  | n + 1 => xs ++ repL xs n
noncomputable def repS (s : Str) : Nat → Str
  | 0 => Str.empty
  | n + 1 => s ++ repS s n
noncomputable def addK (x y : V) (k : LV → Prop) : Prop := match x with
  | .int a => need (aInt y) fun b => k (.val (.int (a + b)))
  | .str a => need (aStr y) fun b => Nd (a.length + b.length ≤ SZ) (k (.val (.str (a ++ b))))
  | .lst a => need (aLst y) fun b => k (.newList (a ++ b))
  | _ => False
noncomputable def mulK (x y : V) (k : LV → Prop) : Prop := match x with
  | .int a => need (aInt y) fun b => Nd (a.natAbs < 4611686018427387904 ∨ b.natAbs < 4611686018427387904) (k (.val (.int (a * b))))
  | .str s => need (aInt y) fun n => Nd (0 ≤ n ∧ n ≤ 1048576 ∧ s.length * n.toNat ≤ SZ) (k (.val (.str (repS s n.toNat))))
  | .lst xs => need (aInt y) fun n => Nd (0 ≤ n ∧ n ≤ 1048576 ∧ xs.length * n.toNat ≤ SZ) (k (.newList (repL xs n.toNat)))
  | _ => False
noncomputable def intK (x y : V) (k : Int → Int → Prop) : Prop := need (aInt x) fun a => need (aInt y) fun b => k a b
noncomputable def binK (op : BOp) (x y : V) (k : LV → Prop) : Prop := match op with
  | .add => addK x y k
  | .mul => mulK x y k
  | .sub => intK x y fun a b => k (.val (.int (a - b)))
  | .fdiv => intK x y fun a b => Nd (b ≠ 0 ∧ b.natAbs < 1073741824) (k (.val (.int (Int.fdiv a b))))
  | .mod => intK x y fun a b => Nd (b ≠ 0) (k (.val (.int (Int.fmod a b))))
  | .pow => intK x y fun a b => Nd (0 ≤ b ∧ b ≤ 64 ∧ 0 ≤ a ∧ a ≤ 16) (k (.val (.int (a ^ b.toNat))))
  | .bor => False
/-- a pair of ints -/
noncomputable def aPr (x : V) : Option (Int × Int) := match aTup x with
  | some [a, b] => (match aInt a with | some i => (match aInt b with | some j => some (i, j) | none => none) | none => none)
  | _ => none
/-- < and ≤ (e) on ints, and on pairs of ints -/
noncomputable def cmpI (e : Bool) (a b : Int) : Bool := cond e (decide (a ≤ b)) (decide (a < b))
noncomputable def ltK (e : Bool) (x y : V) (k : Bool → Prop) : Prop := match x with
  | .int a => need (aInt y) fun b => k (cmpI e a b)
  | _ => False
noncomputable def inR (a b c : Int) (x : V) (k : Bool → Prop) : Prop := Nd (c = 1) (match x with
  | .int i => k (decide (a ≤ i) && decide (i < b))
  | .bool p => k (decide (a ≤ bI p) && decide (bI p < b))
  | .str _ => k false
  | .none => k false
  | _ => False)

noncomputable def isI : V → Bool
  | .int _ => true
  | _ => false
noncomputable def isStr : V → Bool
  | .str _ => true
  | _ => false
/-- a key that fits a dict: all ints -/
noncomputable def keyOk (ks : List V) (k : V) : Bool := isI k && ks.all isI
noncomputable def dGet {α : Type} : List (V × α) → V → Option α
  | [], _ => none
  | p :: r, k => cond (eqD p.1 k) (some p.2) (dGet r k)
noncomputable def dSet {α : Type} : List (V × α) → V → α → List (V × α)
  | [], k, v => [(k, v)]
  | p :: r, k, v => cond (eqD p.1 k) ((p.1, v) :: r) (p :: dSet r k v)
noncomputable def dKeys {α : Type} (kvs : List (V × α)) : List V := kvs.map (·.1)
noncomputable def keysOk : List V → Bool
  | [] => true
  | k :: r => keyOk r k && !(r.any fun z => eqD z k) && keysOk r

/-- things that are looked at as objects -/
noncomputable def solid : V → Bool
  | .rng _ _ _ => false
  | .bt _ => false
  | .fn _ => false
  | .cls _ => false
  | _ => true
noncomputable def isB (c : Bool) : V → Bool
  | .bool d => d == c
  | _ => false
/-- the right side of «is»: None, True, False -/
noncomputable def isK (a b : V) (k : Bool → Prop) : Prop := match b with
  | .none => Nd (solid a = true) (k (isNone a))
  | .bool c => Nd (solid a = true) (k (isB c a))
  | _ => False

/-- insertion into a strictly rising list -/
noncomputable def insS (x : Int) : List Int → List Int
  | [] => [x]
  | y :: r => if x < y then x :: y :: r else if x = y then y :: r else y :: insS x r
noncomputable def mkSet : List Int → List Int
  | [] => []
  | x :: r => insS x (mkSet r)
/-- insertion into a rising list (sorting) -/
noncomputable def ins (x : Int) : List Int → List Int
  | [] => [x]
  | y :: r => if x ≤ y then x :: y :: r else y :: ins x r
noncomputable def srt : List Int → List Int
  | [] => []
  | x :: r => ins x (srt r)
noncomputable def intsOf : List V → Option (List Int)
  | [] => some []
  | x :: r => (match aInt x with | some i => (match intsOf r with | some l => some (i :: l) | none => none) | none => none)
noncomputable def intsK (x : V) (k : List Int → Prop) : Prop := need (aLst x) fun xs => need (intsOf xs) k

noncomputable def pyIdx (i : Int) (n : Nat) : Option Nat := if 0 ≤ i then (if i < n then some i.toNat else none) else (if 0 ≤ i + n then some (i + n).toNat else none)
noncomputable def atK (xs : List V) (i : Int) (k : V → Prop) : Prop := need (pyIdx i xs.length) fun n => need xs[n]? k
noncomputable def idxK (x y : V) (k : V → Prop) : Prop := need (aInt y) fun i => match x with
  | .lst xs => atK xs i k
  | .tup xs => atK xs i k
  | .str s => Nd (0 ≤ i) (need s.cps[i.toNat]? fun c => k (.str ⟨#[c]⟩))
  | _ => False
/-- slices with bounds that are not negative -/
noncomputable def slL (xs : List V) (lo hi : Option Int) : List V :=
  match lo, hi with
  | none, none => xs
  | some a, none => xs.drop a.toNat
  | none, some b => xs.take b.toNat
  | some a, some b => (xs.drop a.toNat).take (b.toNat - a.toNat)
noncomputable def notNeg : Option Int → Bool
  | none => true
  | some i => decide (0 ≤ i)
noncomputable def slK (x : V) (lo hi : Option Int) (k : LV → Prop) : Prop := Nd (notNeg lo = true) (Nd (notNeg hi = true) (match x with
  | .lst xs => k (.newList (slL xs lo hi))
  | .tup _ => False
  | _ => False))
noncomputable def trK (x : V) (k : Bool → Prop) : Prop := match x with
  | .none => k false
  | .bool b => k b
  | .int i => k (decide (i ≠ 0))
  | .str s => k (decide (s.length ≠ 0))
  | .tup xs => k (!xs.isEmpty)
  | .lst xs => k (!xs.isEmpty)
  | _ => False
noncomputable def lenV : V → Option Nat
  | .str s => some s.length
  | .tup xs => some xs.length
  | .lst xs => some xs.length
  | _ => none

/-- kinds, for isinstance -/
inductive Kd where
  | none | bool | int | str | tuple | list | inst (k : Nat) | exc (k : Nat)
noncomputable def kdV : V → Option Kd
  | .none => some .none
  | .bool _ => some .bool
  | .int _ => some .int
  | .str _ => some .str
  | .tup _ => some .tuple
  | .lst _ => some .list
  | _ => none
noncomputable def kdC : Option C → Option Kd
  | some (.list _) => some .list
  | some (.inst k _) => some (.inst k)
  | some (.exc k) => some (.exc k)
  | _ => none
noncomputable def kind (H : Hp) : V → Option Kd
  | .ref i => kdC (H.get i)
  | x => kdV x
noncomputable def lenH (H : Hp) : V → Option Nat
  | .ref i => (match H.get i with
    | some (.list xs) => some xs.length
    | some (.dict kvs) => some kvs.length
    | _ => none)
  | x => lenV x
/-- the items that a loop over a value sees -/
noncomputable def items (H : Hp) : V → Option (List V)
  | .ref i => cL (H.get i)
  | x => itV x

/-! The program text without places. fz: a list made here is never changed. -/
mutual
inductive PE where
  | cst (v : V)
  | loc (i : Nat)
  | glob (i : Nat)
  | attr (e : PE) (n : Nat)
  | bin (fz : Bool) (op : BOp) (l r : PE)
  | neg (e : PE)
  | not (e : PE)
  | cmp (op : COp) (l r : PE)
  | cmp2 (op₁ op₂ : COp) (a b c : PE)
  | and (es : PEs)
  | or (es : PEs)
  | ite (t : PC) (a b : PE)
  | list (fz : Bool) (es : PEs)
  | tup (es : PEs)
  | dict (kvs : PKV)
  | idx (e i : PE)
  | sl (fz : Bool) (e : PE) (lo hi : PEo)
  | rev (fz : Bool) (e : PE)
  | call (fz : Bool) (f : PE) (as : PEs)
  | sortedRev (fz : Bool) (e : PE)
  | sortedU (fz : Bool) (a b : PE)
  | lenSet (e : PE)
  | meth (fz : Bool) (o : PE) (n : Nat) (as : PEs)
  | comp (fz : Bool) (elt : PE) (ts : List Nat) (it : PE) (cond : PCo)
inductive PEs where
  | nil
  | cons (e : PE) (r : PEs)
inductive PEo where
  | none
  | some (e : PE)
inductive PKV where
  | nil
  | cons (k v : PE) (r : PKV)
/-- tests -/
inductive PC where
  | e (e : PE)
  | not (c : PC)
  | and (cs : PCs)
  | or (cs : PCs)
inductive PCs where
  | nil
  | cons (c : PC) (r : PCs)
inductive PCo where
  | none
  | some (c : PC)
end
inductive PT where
  | loc (i : Nat)
  | attr (o : PE) (n : Nat)
  | idx (o i : PE)
  | tup (is : List Nat)
mutual
inductive PS where
  | expr (e : PE)
  | pass
  | assign (t : PT) (e : PE)
  | augLoc (i : Nat) (op : BOp) (e : PE)
  | augAttr (o : PE) (n : Nat) (op : BOp) (e : PE)
  | ret (e : PEo)
  | ite (t : PC) (a b : PSs)
  | loop (ts : List Nat) (it : PE) (body : PSs)
  | loopEnum (i x : Nat) (it : PE) (body : PSs)
  | while_ (t : PC) (body : PSs)
  | raise (i : Nat) (e : PE)
  | try_ (body : PSs) (i : Nat) (as : Option Nat) (h : PSs)
inductive PSs where
  | nil
  | cons (s : PS) (r : PSs)
end

structure Fn where
  params : List Nat
  body : PSs
structure Cl where
  init : Option Nat
  meths : List (Nat × Nat)
  attrs : List Nat
structure Prog where
  fn : Nat → Option Fn
  cls : Nat → Option Cl
  glob : Nat → Option V
  /-- class k is (a subclass of) class j; both exceptions of the text's own -/
  sub : Nat → Nat → Bool
  /-- classes of exceptions -/
  exc : Nat → Bool
  /-- names of built-in methods -/
  nAppend : Nat
  nPop : Nat
  nExtend : Nat
  nGet : Nat
  nSetdefault : Nat

noncomputable def bKd : B → Option Kd
  | .int => some .int
  | .bool => some .bool
  | .str => some .str
  | .list => some .list
  | .tuple => some .tuple
  | _ => none
/-- the kinds of data, numbered -/
noncomputable def kNo : Kd → Option Nat
  | .none => some 0
  | .bool => some 1
  | .int => some 2
  | .str => some 3
  | .list => some 4
  | .tuple => some 5
  | _ => none
noncomputable def kNo2 (k j : Kd) : Option Bool := match kNo k with
  | some m => (match kNo j with
    | some p => some (Nat.beq m p || (Nat.beq m 1 && Nat.beq p 2))
    | none => none)
  | none => none
/-- a thing of a kind, seen from a built-in class, from a class of the text's -/
noncomputable def isiB (P : Prog) (k : Kd) (b : B) : Option Bool := match k with
  | .exc i => (match b with | .valueError => (match P.exc i with | true => some true | false => none) | _ => none)
  | .inst i => (match P.cls i with | some _ => (match bKd b with | some _ => some false | none => none) | none => none)
  | k => (match bKd b with | some j => kNo2 k j | none => none)
noncomputable def isiC (P : Prog) (k : Kd) (j : Nat) : Option Bool := match k with
  | .exc i => (match P.exc i && P.exc j with | true => some (P.sub i j) | false => none)
  | _ => none
noncomputable def isi0 (P : Prog) (k : Kd) (t : V) : Option Bool := match t with
  | .bt b => isiB P k b
  | .cls j => isiC P k j
  | _ => none
noncomputable def isiL (P : Prog) (k : Kd) : List V → Option Bool
  | [] => some false
  | x :: r => match isi0 P k x with
    | some true => some true
    | some false => isiL P k r
    | none => none
noncomputable def isi1 (P : Prog) (k : Kd) (t : V) : Option Bool := match t with
  | .tup ts => isiL P k ts
  | t => isi0 P k t

/-- built-in functions: of one thing, as it is seen, and its length; of two; of three -/
noncomputable def b1K (b : B) (s : Option V) (n : Option Nat) (k : LV → Prop) : Prop := match b with
  | .len => need n fun n => k (.val (.int n))
  | .list => need s fun x => need (itV x) fun xs => k (.newList xs)
  | .sorted => False
  | .tuple => need s fun x => need (aLst x) fun xs => k (.val (.tup xs))
  | .int => need s fun x => need (aBool x) fun b => k (.val (.int (bI b)))
  | .range => need s fun x => need (aInt x) fun n => Nd (n.natAbs ≤ SZ) (k (.val (.rng 0 n 1)))
  | _ => False
noncomputable def b2K (b : B) (x y : V) (k : LV → Prop) : Prop := match b with
  | .max => intK x y fun a b => k (.val (.int (if b > a then b else a)))
  | .min => intK x y fun a b => k (.val (.int (if b < a then b else a)))
  | .range => intK x y fun a b => Nd (a.natAbs ≤ SZ ∧ b.natAbs ≤ SZ) (k (.val (.rng a b 1)))
  | _ => False
noncomputable def b3K (b : B) (x y z : V) (k : LV → Prop) : Prop := match b with
  | .range => need (aInt z) fun c => intK x y fun a b => Nd (a.natAbs ≤ SZ ∧ b.natAbs ≤ SZ ∧ c = -1) (k (.val (.rng a b c)))
  | _ => False
noncomputable def isIsi : B → Bool
  | .isinstance => true
  | _ => false
noncomputable def callB (P : Prog) (H : Hp) (b : B) (as : List V) (k : LV → Prop) : Prop := match as with
  | [v] => b1K b (see H v) (lenH H v) k
  | [v, w] => Br (isIsi b) (need (kind H v) fun q => need (isi1 P q w) fun r => k (.val (.bool r))) (need (see H v) fun x => need (see H w) fun y => b2K b x y k)
  | [u, v, w] => need (see H u) fun x => need (see H v) fun y => need (see H w) fun z => b3K b x y z k
  | _ => False

/-- hand on a made value -/
noncomputable def give (fz : Bool) (σ : St) (Q : V → St → Prop) : LV → Prop
  | .val v => Q v σ
  | .newList xs => Nd (xs.length ≤ SZ) (Br fz (Q (.lst xs) σ) (Q (.ref σ.H.next) (σ.setH (σ.H.new (.list xs)))))
/-- a call's answer; a list that only the answer names may be frozen -/
noncomputable def giveV (fz : Bool) (σ : St) (Q : V → St → Prop) (v : V) : Prop := Br fz (match aRef v with
    | some i => (match cL (σ.H.get i) with | some xs => Q (.lst xs) (σ.setH (σ.H.del i)) | none => Q v σ)
    | none => Q v σ) (Q v σ)

abbrev CT := Nat → List V → Hp → (V → Hp → Prop) → (Nat → Hp → Prop) → Prop
abbrev EP := Nat → St → Prop

noncomputable def bindGo : List Nat → List V → St → (St → Prop) → Prop
  | [], ys, σ, K => (match ys with | [] => K σ | _ => False)
  | i :: is, ys, σ, K => (match ys with | x :: xs => bindGo is xs (σ.put i x) K | [] => False)
noncomputable def bindT (ts : List Nat) (v : V) (σ : St) (K : St → Prop) : Prop := match ts with
  | [i] => K (σ.put i v)
  | ts => need (aTup v) fun xs => bindGo ts xs σ K

/-- the methods of lists and dicts -/
noncomputable def one {α : Type} : List α → Option α
  | [x] => some x
  | _ => none
noncomputable def methL (P : Prog) (σ : St) (i : Nat) (n : Nat) (as : List V) (xs : List V) (Q : V → St → Prop) : Prop := need (one as) fun a =>
  Br (Nat.beq n P.nAppend) (Nd (xs.length < SZ) (Q .none (σ.setH (σ.H.set i (.list (xs ++ [a])))))) <|
  Br (Nat.beq n P.nPop) (need (aInt a) fun k => need (pyIdx k xs.length) fun j => need xs[j]? fun v => Q v (σ.setH (σ.H.set i (.list (xs.take j ++ xs.drop (j + 1)))))) <|
  need (see σ.H a) fun y => need (aLst y) fun ys => Nd (xs.length + ys.length ≤ SZ) (Q .none (σ.setH (σ.H.set i (.list (xs ++ ys)))))
noncomputable def callF (P : Prog) (K : CT) (E : EP) (fz : Bool) (σ : St) (f : V) (as : List V) (Q : V → St → Prop) : Prop := match f with
  | .bt b => callB P σ.H b as (give fz σ Q)
  | .fn k => K k as σ.H (fun v H => giveV fz (σ.setH H) Q v) (fun e H => E e (σ.setH H))
  | .cls k => need (P.cls k) fun c => need c.init fun f =>
      K f (.ref σ.H.next :: as) (σ.H.new (.inst k [])) (fun v H => Nd (isNone v = true) (Q (.ref σ.H.next) (σ.setH H))) (fun e H => E e (σ.setH H))
  | _ => False

noncomputable def noE : EP := fun _ _ => False

/-- a comprehension's turns -/
noncomputable def compGo (tst : St → (Bool → St → Prop) → Prop) (elt : St → (V → St → Prop) → Prop) (ts : List Nat) (chk : Hp → Prop) : List V → List V → St → (List V → St → Prop) → Prop
  | [], acc, σ, Q => chk σ.H ∧ acc.length ≤ SZ ∧ Q acc σ
  | v :: vs, acc, σ, Q => chk σ.H ∧ acc.length < SZ ∧ bindT ts v σ fun σ₁ => tst σ₁ fun b σ₂ => Br b (elt σ₂ fun x σ₃ => compGo tst elt ts chk vs (acc ++ [x]) σ₃ Q) (compGo tst elt ts chk vs acc σ₂ Q)
/-- the list that a loop runs over stands as it was -/
noncomputable def still (v : V) (xs : List V) (H : Hp) : Prop := items H v = some xs

/-- two things compared -/
noncomputable def cmpK (H : Hp) (op : COp) (a b : V) (k : Bool → Prop) : Prop := match op with
  | .eq => need (deep H a) fun x => need (deep H b) fun y => k (eqD x y)
  | .ne => need (deep H a) fun x => need (deep H b) fun y => k (!eqD x y)
  | .lt => need (see H a) fun x => need (see H b) fun y => ltK false x y k
  | .le => need (see H a) fun x => need (see H b) fun y => ltK true x y k
  | .gt => need (see H a) fun x => need (see H b) fun y => ltK false y x k
  | .ge => need (see H a) fun x => need (see H b) fun y => ltK true y x k
  | .isIn => inK H a b k
  | .notIn => inK H a b fun r => k (!r)
  | .is => isK a b k
  | .isNot => isK a b fun r => k (!r)
where
  anyK (H : Hp) (a : V) (xs : List V) (k : Bool → Prop) : Prop := need (deep H a) fun y => need (deepL (deepN H 11) xs) fun ys => k (ys.any fun z => eqD z y)
  inK (H : Hp) (a b : V) (k : Bool → Prop) : Prop := match b with
    | .ref i => (match H.get i with
      | some (.list xs) => anyK H a xs k
      | some (.dict kvs) => Nd (keyOk (dKeys kvs) a = true) (k ((dKeys kvs).any fun z => eqD z a))
      | _ => False)
    | .rng p q r => inR p q r a k
    | .lst xs => anyK H a xs k
    | .tup xs => anyK H a xs k
    | _ => False

/-- an item, of a dict too -/
noncomputable def idxH (H : Hp) (a b : V) (k : V → Prop) : Prop := match aRef a with
  | some i => (match H.get i with
    | some (.list xs) => idxK (.lst xs) b k
    | some (.dict kvs) => Nd (keyOk (dKeys kvs) b = true) (need (dGet kvs b) k)
    | _ => False)
  | none => idxK a b k
noncomputable def optI : Option V → Option (Option Int)
  | none => some none
  | some x => (match aInt x with | some i => some (some i) | none => none)
/-- an object's parts -/
noncomputable def instK (H : Hp) (a : V) (k : Nat → Nat → List (Nat × V) → Prop) : Prop := need (aRef a) fun i => need (cI (H.get i)) fun t => k i t.1 t.2
noncomputable def truK (H : Hp) (v : V) (k : Bool → Prop) : Prop := need (see H v) fun x => trK x k

mutual
noncomputable def wpE (P : Prog) (K : CT) (E : EP) : PE → St → (V → St → Prop) → Prop
  | .cst v, σ, Q => Q v σ
  | .loc i, σ, Q => need (σ.loc i) fun v => Q v σ
  | .glob i, σ, Q => need (P.glob i) fun v => Q v σ
  | .attr e n, σ, Q => wpE P K E e σ fun o σ₁ => instK σ₁.H o fun _ _ fs => need (lk fs n) fun v => Q v σ₁
  | .bin fz op l r, σ, Q => wpE P K E l σ fun a σ₁ => wpE P K E r σ₁ fun b σ₂ => need (see σ₂.H a) fun x => need (see σ₂.H b) fun y => binK op x y (give fz σ₂ Q)
  | .neg e, σ, Q => wpE P K E e σ fun a σ₁ => need (aInt a) fun i => Q (.int (-i)) σ₁
  | .not e, σ, Q => wpE P K E e σ fun v σ₁ => truK σ₁.H v fun b => Q (.bool (!b)) σ₁
  | .cmp op l r, σ, Q => wpE P K E l σ fun a σ₁ => wpE P K E r σ₁ fun b σ₂ => cmpK σ₂.H op a b fun c => Q (.bool c) σ₂
  | .cmp2 o₁ o₂ x y z, σ, Q => wpE P K E x σ fun a σ₁ => wpE P K E y σ₁ fun b σ₂ => cmpK σ₂.H o₁ a b fun c => Br c
      (wpE P K E z σ₂ fun d σ₃ => cmpK σ₃.H o₂ b d fun c => Q (.bool c) σ₃) (Q (.bool false) σ₂)
  | .and es, σ, Q => wpAnd P K E es σ Q
  | .or es, σ, Q => wpOr P K E es σ Q
  | .ite t a b, σ, Q => wpT P K E t σ fun c σ₁ => Br c (wpE P K E a σ₁ Q) (wpE P K E b σ₁ Q)
  | .list fz es, σ, Q => wpEs P K E es σ fun vs σ₁ => give fz σ₁ Q (.newList vs)
  | .tup es, σ, Q => wpEs P K E es σ fun vs σ₁ => Nd (vs.length ≤ SZ) (Q (.tup vs) σ₁)
  | .dict kvs, σ, Q => wpKV P K E kvs σ fun kvs σ₁ => Nd (kvs.length ≤ 100) (Nd (keysOk (dKeys kvs) = true) (Q (.ref σ₁.H.next) (σ₁.setH (σ₁.H.new (.dict kvs)))))
  | .idx e i, σ, Q => wpE P K E e σ fun a σ₁ => wpE P K E i σ₁ fun b σ₂ => idxH σ₂.H a b fun v => Q v σ₂
  | .sl fz e lo hi, σ, Q => wpE P K E e σ fun a σ₁ => wpO P K E lo σ₁ fun l σ₂ => wpO P K E hi σ₂ fun h σ₃ =>
      need (optI l) fun l => need (optI h) fun h => need (see σ₃.H a) fun x => slK x l h (give fz σ₃ Q)
  | .rev fz e, σ, Q => wpE P K E e σ fun a σ₁ => need (see σ₁.H a) fun x => need (aLst x) fun xs => give fz σ₁ Q (.newList xs.reverse)
  | .call fz f as, σ, Q => wpE P K E f σ fun g σ₁ => wpEs P K E as σ₁ fun vs σ₂ => callF P K E fz σ₂ g vs Q
  | .sortedRev fz e, σ, Q => wpE P K E e σ fun a σ₁ => need (see σ₁.H a) fun x => intsK x fun l => give fz σ₁ Q (.newList ((srt l).reverse.map .int))
  | .sortedU fz x y, σ, Q => wpE P K E x σ fun a σ₁ => wpE P K E y σ₁ fun b σ₂ => need (see σ₂.H a) fun p => need (see σ₂.H b) fun q => intsK p fun l => intsK q fun m => give fz σ₂ Q (.newList ((mkSet (l ++ m)).map .int))
  | .lenSet e, σ, Q => wpE P K E e σ fun a σ₁ => need (see σ₁.H a) fun x => intsK x fun l => Q (.int (mkSet l).length) σ₁
  | .meth fz o n as, σ, Q => wpE P K E o σ fun a σ₁ => need (aRef a) fun i => match σ₁.H.get i with
    | some (.inst k _) => need (P.cls k) fun c => need (lk c.meths n) fun f => wpEs P K E as σ₁ fun vs σ₂ => callF P K E fz σ₂ (.fn f) (.ref i :: vs) Q
    | some (.list _) => Nd ((Nat.beq n P.nAppend || (Nat.beq n P.nPop || Nat.beq n P.nExtend)) = true) (wpEs P K E as σ₁ fun vs σ₂ => need (cL (σ₂.H.get i)) fun xs => methL P σ₂ i n vs xs Q)
    | some (.dict _) => False
    | _ => False
  | .comp fz elt ts it cond, σ, Q => wpE P K E it σ fun v σ₁ => need (items σ₁.H v) fun xs =>
      compGo (fun σ₂ k => wpC P K noE cond σ₂ k) (fun σ₂ k => wpE P K noE elt σ₂ k) ts (still v xs) xs [] ⟨σ₁.H, unbs ts σ₁.loc⟩ fun ys σ₂ => give fz ⟨σ₂.H, σ₁.loc⟩ Q (.newList ys)
noncomputable def wpT (P : Prog) (K : CT) (E : EP) : PC → St → (Bool → St → Prop) → Prop
  | .not e, σ, Q => wpT P K E e σ fun b σ₁ => Q (!b) σ₁
  | .and es, σ, Q => wpAllT P K E es σ Q
  | .or es, σ, Q => wpAnyT P K E es σ Q
  | .e e, σ, Q => wpE P K E e σ fun v σ₁ => truK σ₁.H v fun b => Q b σ₁
noncomputable def wpAllT (P : Prog) (K : CT) (E : EP) : PCs → St → (Bool → St → Prop) → Prop
  | .nil, σ, Q => Q true σ
  | .cons e r, σ, Q => wpT P K E e σ fun b σ₁ => Br b (wpAllT P K E r σ₁ Q) (Q false σ₁)
noncomputable def wpAnyT (P : Prog) (K : CT) (E : EP) : PCs → St → (Bool → St → Prop) → Prop
  | .nil, σ, Q => Q false σ
  | .cons e r, σ, Q => wpT P K E e σ fun b σ₁ => Br b (Q true σ₁) (wpAnyT P K E r σ₁ Q)
/-- b: the way that goes on («and»: true; «or»: false) -/
noncomputable def wpAnd (P : Prog) (K : CT) (E : EP) : PEs → St → (V → St → Prop) → Prop
  | .nil, _, _ => False
  | .cons e r, σ, Q => wpE P K E e σ fun v σ₁ => (match r with
    | .nil => Q v σ₁
    | .cons _ _ => truK σ₁.H v fun b => Br b (wpAnd P K E r σ₁ Q) (Q v σ₁))
noncomputable def wpOr (P : Prog) (K : CT) (E : EP) : PEs → St → (V → St → Prop) → Prop
  | .nil, _, _ => False
  | .cons e r, σ, Q => wpE P K E e σ fun v σ₁ => (match r with
    | .nil => Q v σ₁
    | .cons _ _ => truK σ₁.H v fun b => Br b (Q v σ₁) (wpOr P K E r σ₁ Q))
noncomputable def wpEs (P : Prog) (K : CT) (E : EP) : PEs → St → (List V → St → Prop) → Prop
  | .nil, σ, Q => Q [] σ
  | .cons e r, σ, Q => wpE P K E e σ fun v σ₁ => wpEs P K E r σ₁ fun vs σ₂ => Q (v :: vs) σ₂
noncomputable def wpKV (P : Prog) (K : CT) (E : EP) : PKV → St → (List (V × V) → St → Prop) → Prop
  | .nil, σ, Q => Q [] σ
  | .cons k v r, σ, Q => wpE P K E k σ fun a σ₁ => wpE P K E v σ₁ fun b σ₂ => wpKV P K E r σ₂ fun r σ₃ => Q ((a, b) :: r) σ₃
noncomputable def wpO (P : Prog) (K : CT) (E : EP) : PEo → St → (Option V → St → Prop) → Prop
  | .none, σ, Q => Q none σ
  | .some e, σ, Q => wpE P K E e σ fun v σ₁ => Q (some v) σ₁
noncomputable def wpC (P : Prog) (K : CT) (E : EP) : PCo → St → (Bool → St → Prop) → Prop
  | .none, σ, Q => Q true σ
  | .some e, σ, Q => wpT P K E e σ Q
end

/-- the sums of ints that «+=» makes -/
noncomputable def augK (op : BOp) (a b : V) (k : V → Prop) : Prop := match op with
  | .add => intK a b fun x y => k (.int (x + y))
  | _ => False
/-- a thing stored in an object -/
noncomputable def putA (P : Prog) (a : V) (n : Nat) (v : V) (σ : St) (Q : St → Prop) : Prop := instK σ.H a fun i k fs => need (P.cls k) fun c => Nd (c.attrs.contains n = true) (Nd (fs.length < 1000) (Q (σ.setH (σ.H.set i (.inst k (st fs n v))))))
noncomputable def asgn (P : Prog) (K : CT) (E : EP) (t : PT) (v : V) (σ : St) (Q : St → Prop) : Prop := match t with
  | .loc i => Q (σ.put i v)
  | .attr o n => wpE P K E o σ fun a σ₁ => putA P a n v σ₁ Q
  | .idx _ _ => False
  | .tup _ => False
/-- the name behind «as» -/
noncomputable def asPut (as : Option Nat) (j : Nat) (σ : St) : St := match as with
  | some n => σ.put n (.ref j)
  | none => σ
noncomputable def asUnb (as : Option Nat) (σ : St) : St := match as with
  | some n => ⟨σ.H, unb σ.loc n⟩
  | none => σ
/-- what a turn's end leads to -/
noncomputable def endK (fl : Flow) (σ : St) (go : St → Prop) (Q : Flow → St → Prop) : Prop := match fl with
  | .next => go σ
  | .cont => go σ
  | .brk => Q .next σ
  | .ret r => Q (.ret r) σ
/-- a loop's turns -/
noncomputable def loopGo (turn : V → St → (Flow → St → Prop) → Prop) (chk : Hp → Prop) : List V → St → (Flow → St → Prop) → Prop
  | [], σ, Q => chk σ.H ∧ Q .next σ
  | v :: vs, σ, Q => chk σ.H ∧ turn v σ fun fl σ₁ => endK fl σ₁ (fun σ₂ => loopGo turn chk vs σ₂ Q) Q
noncomputable def enumL (k : Int) : List V → List V
  | [] => []
  | x :: r => .tup [.int k, x] :: enumL (k + 1) r
noncomputable def aCls : V → Option Nat
  | .cls k => some k
  | _ => none
/-- what a statement's end leads to -/
noncomputable def seqK (fl : Flow) (σ : St) (go : St → Prop) (Q : Flow → St → Prop) : Prop := match fl with
  | .next => go σ
  | .cont => Q .cont σ
  | .brk => Q .brk σ
  | .ret r => Q (.ret r) σ

mutual
noncomputable def wpS (P : Prog) (K : CT) : PS → St → (Flow → St → Prop) → EP → Prop
  | .expr e, σ, Q, E => wpE P K E e σ fun _ σ₁ => Q .next σ₁
  | .pass, σ, Q, _ => Q .next σ
  | .assign t e, σ, Q, E => wpE P K E e σ fun v σ₁ => asgn P K E t v σ₁ fun σ₂ => Q .next σ₂
  | .augLoc i op e, σ, Q, E => need (σ.loc i) fun a => wpE P K E e σ fun b σ₁ => augK op a b fun v => Q .next (σ₁.put i v)
  | .augAttr o n op e, σ, Q, E => wpE P K E o σ fun a σ₁ => instK σ₁.H a fun _ _ fs => need (lk fs n) fun x => wpE P K E e σ₁ fun b σ₂ => augK op x b fun v => putA P a n v σ₂ fun σ₃ => Q .next σ₃
  | .ret e, σ, Q, E => wpO P K E e σ fun v σ₁ => Q (.ret (v.getD .none)) σ₁
  | .ite t a b, σ, Q, E => wpT P K E t σ fun c σ₁ => Br c (wpSs P K a σ₁ Q E) (wpSs P K b σ₁ Q E)
  | .loop ts it body, σ, Q, E => wpE P K E it σ fun v σ₁ => need (items σ₁.H v) fun xs =>
      loopGo (fun v σ₂ k => bindT ts v σ₂ fun σ₃ => wpSs P K body σ₃ k noE) (still v xs) xs σ₁ Q
  | .loopEnum i x it body, σ, Q, E => wpE P K E it σ fun v σ₁ => need (see σ₁.H v) fun y => need (aLst y) fun xs =>
      loopGo (fun v σ₂ k => bindT [i, x] v σ₂ fun σ₃ => wpSs P K body σ₃ k noE) (still v xs) (enumL 0 xs) σ₁ Q
  | .while_ _ _, _, _, _ => False
  | .raise i e, σ, _, E => need (P.glob i) fun v => need (aCls v) fun k => Nd (P.exc k = true) (wpE P K noE e σ fun _ σ₁ => E σ₁.H.next (σ₁.setH (σ₁.H.new (.exc k))))
  | .try_ body i as h, σ, Q, _ => need (P.glob i) fun v => need (aCls v) fun k => wpSs P K body σ Q fun j σ₁ => need (cE (σ₁.H.get j)) fun m => Nd (P.exc k = true) (Nd (P.sub m k = true) (wpSs P K h (asPut as j σ₁) (fun fl σ₂ => Q fl (asUnb as σ₂)) noE))
noncomputable def wpSs (P : Prog) (K : CT) : PSs → St → (Flow → St → Prop) → EP → Prop
  | .nil, σ, Q, _ => Q .next σ
  | .cons s r, σ, Q, E => wpS P K s σ (fun fl σ₁ => seqK fl σ₁ (fun σ₂ => wpSs P K r σ₂ Q E) Q) E
end

noncomputable def bindP : List Nat → List V → Loc → Option Loc
  | [], vs, m => (match vs with | [] => some m | _ => none)
  | p :: ps, vs, m => (match vs with | a :: as => bindP ps as (upd m p a) | [] => none)
noncomputable def retV : Flow → V
  | .ret v => v
  | _ => .none
/-- calls to depth n -/
noncomputable def CW (P : Prog) : Nat → CT
  | 0 => fun _ _ _ _ _ => False
  | n + 1 => fun f as H Q E => need (P.fn f) fun d => need (bindP d.params as fun _ => none) fun m =>
      wpSs P (CW P n) d.body ⟨H, m⟩ (fun fl σ => Q (retV fl) σ.H) fun e σ => E e σ.H
end Mine

end

section
set_option autoImplicit false
set_option linter.all false
set_option genSizeOf false
set_option genInjectivity false
namespace Mine
open PySem (Str)
/-- where a def stands: at the top, or in a class -/
inductive Src where
  | g (x : Str)
  | m (c x : Str)
/-- the tables of a text: names, defs, global names, classes -/
structure Tb where
  nms : List (Nat × Str)
  fns : List (Nat × Src × Fn)
  globs : List (Nat × V)
  clss : List (Nat × Str × Cl)
  excs : List (Nat × Str)
  subs : List (Nat × Nat)
  quiet : List Nat
  qg : List Nat
  nAppend : Nat
  nPop : Nat
  nExtend : Nat
  nGet : Nat
  nSetdefault : Nat
noncomputable def sub2 : List (Nat × Nat) → Nat → Nat → Bool
  | [], _, _ => false
  | p :: r, j, k => cond (Nat.beq p.1 j && Nat.beq p.2 k) true (sub2 r j k)
noncomputable def mp2 {α β : Type} : Option (α × β) → Option β
  | some y => some y.2
  | none => none
noncomputable def isSm {α : Type} : Option α → Bool
  | some _ => true
  | none => false
noncomputable def hasN : List Nat → Nat → Bool
  | [], _ => false
  | a :: r, k => cond (Nat.beq a k) true (hasN r k)
noncomputable def Tb.P (t : Tb) : Prog where
  fn := fun k => mp2 (lk t.fns k)
  cls := fun k => mp2 (lk t.clss k)
  glob := fun i => lk t.globs i
  sub := fun j k => sub2 t.subs j k
  exc := fun k => isSm (lk t.excs k)
  nAppend := t.nAppend
  nPop := t.nPop
  nExtend := t.nExtend
  nGet := t.nGet
  nSetdefault := t.nSetdefault
end Mine

end

section
set_option autoImplicit false
set_option linter.all false
set_option genSizeOf false
set_option genInjectivity false
namespace Mine
open PySem PySem.Calls PyProof.Rows

noncomputable def bval : B → Value
  | .int => .type "int"
  | .bool => .type "bool"
  | .list => .type "list"
  | .tuple => .type "tuple"
  | .str => .type "str"
  | .valueError => .type "ValueError"
  | .range => .type "range"
  | .set => .type "set"
  | .enumerate => .type "enumerate"
  | .len => .builtin "len"
  | .isinstance => .builtin "isinstance"
  | .max => .builtin "max"
  | .min => .builtin "min"
  | .sorted => .builtin "sorted"

/-- what stands fast during the call -/
structure Cx where
  prog : Program
  w : World
  P : Prog
  nm : Nat → Str
  fnA : Nat → Option Addr
  clA : Nat → Option Addr
  hb : Heap
  /-- functions, and global names, that may be called while an exception is handled -/
  quiet : Nat → Bool
  qg : Nat → Bool

/-- the frozen objects, and where the cells lie -/
structure Wd where
  Z : Addr → Option Obj
  φ : Nat → Option (Addr × Addr)

abbrev tupO (vs : Array Value) (n : Nat) : Obj := { cls := .type "tuple", data := .seq vs n }
abbrev lstO (vs : Array Value) (n : Nat) : Obj := { cls := .type "list", data := .seq vs n }

mutual
inductive VR (X : Cx) (W : Wd) : Value → V → Prop
  | none : VR X W .none .none
  | bool (b : Bool) : VR X W (.bool b) (.bool b)
  | int (i : Int) (t : Tok) : VR X W (.int i t) (.int i)
  | str (s : Str) (t : Tok) : PyData.strOk s = true → s.length ≤ SZ → VR X W (.str s t) (.str s)
  | tup {a : Addr} {vs : Array Value} {n : Nat} {xs : List V} : W.Z a = some (tupO vs n) → VRs X W vs.toList xs → xs.length ≤ SZ → VR X W (.ref a) (.tup xs)
  | lst {a : Addr} {vs : Array Value} {n : Nat} {xs : List V} : W.Z a = some (lstO vs n) → VRs X W vs.toList xs → xs.length ≤ SZ → VR X W (.ref a) (.lst xs)
  | rng {r : Addr} {a b c : Int} {t u v : Tok} : W.Z r = some { cls := .type "range", dict := none, data := .fields #[.int a t, .int b u, .int c v], slots := #[] } → a.natAbs ≤ SZ → b.natAbs ≤ SZ → c = 1 ∨ c = -1 → VR X W (.ref r) (.rng a b c)
  | ref {i : Nat} {l : Addr × Addr} : W.φ i = some l → VR X W (.ref l.1) (.ref i)
  | bt (b : B) : VR X W (bval b) (.bt b)
  | fn {k : Nat} {a : Addr} : X.fnA k = some a → VR X W (.ref a) (.fn k)
  | cls {k : Nat} {a : Addr} : X.clA k = some a → VR X W (.ref a) (.cls k)
inductive VRs (X : Cx) (W : Wd) : List Value → List V → Prop
  | nil : VRs X W [] []
  | cons {v : Value} {vs : List Value} {x : V} {xs : List V} : VR X W v x → VRs X W vs xs → VRs X W (v :: vs) (x :: xs)
end

structure Wd.Le (W W' : Wd) : Prop where
  zz : ∀ a o, W.Z a = some o → W'.Z a = some o
  ff : ∀ i l, W.φ i = some l → W'.φ i = some l
theorem Wd.Le.refl (W : Wd) : Wd.Le W W := ⟨fun _ _ e => e, fun _ _ e => e⟩
theorem Wd.Le.trans {W W' W'' : Wd} (a : Wd.Le W W') (b : Wd.Le W' W'') : Wd.Le W W'' := ⟨fun _ _ e => b.zz _ _ (a.zz _ _ e), fun _ _ e => b.ff _ _ (a.ff _ _ e)⟩

theorem VR.le2 {X : Cx} {W W' : Wd} (h : Wd.Le W W') : (∀ {v : Value} {x : V}, VR X W v x → VR X W' v x) ∧ ∀ {vs : List Value} {xs : List V}, VRs X W vs xs → VRs X W' vs xs := by
  constructor
  · intro v x r
    exact VR.rec (motive_1 := fun v x _ => VR X W' v x) (motive_2 := fun vs xs _ => VRs X W' vs xs) .none .bool .int .str (fun z _ q ih => .tup (h.zz _ _ z) ih q) (fun z _ q ih => .lst (h.zz _ _ z) ih q) (fun z p q r => .rng (h.zz _ _ z) p q r) (fun e => .ref (h.ff _ _ e)) .bt .fn .cls .nil (fun _ _ a b => .cons a b) r
  · intro v x r
    exact VRs.rec (motive_1 := fun v x _ => VR X W' v x) (motive_2 := fun vs xs _ => VRs X W' vs xs) .none .bool .int .str (fun z _ q ih => .tup (h.zz _ _ z) ih q) (fun z _ q ih => .lst (h.zz _ _ z) ih q) (fun z p q r => .rng (h.zz _ _ z) p q r) (fun e => .ref (h.ff _ _ e)) .bt .fn .cls .nil (fun _ _ a b => .cons a b) r
theorem VR.le {X : Cx} {W W' : Wd} (h : Wd.Le W W') {v : Value} {x : V} (r : VR X W v x) : VR X W' v x := (VR.le2 h).1 r
theorem VRs.le {X : Cx} {W W' : Wd} (h : Wd.Le W W') {vs : List Value} {xs : List V} (r : VRs X W vs xs) : VRs X W' vs xs := (VR.le2 h).2 r
/-- things one by one: nothing, or one more -/
theorem VRs.ind {X : Cx} {W : Wd} {p : List Value → List V → Prop} (h0 : p [] []) (h1 : ∀ {v : Value} {vs : List Value} {x : V} {xs : List V}, VR X W v x → VRs X W vs xs → p vs xs → p (v :: vs) (x :: xs)) {vs : List Value} {xs : List V} (r : VRs X W vs xs) : p vs xs :=
  VRs.rec (motive_1 := fun _ _ _ => True) (motive_2 := fun vs xs _ => p vs xs) trivial (fun _ => trivial) (fun _ _ => trivial) (fun _ _ _ _ => trivial) (fun _ _ _ _ => trivial) (fun _ _ _ _ => trivial) (fun _ _ _ _ => trivial) (fun _ => trivial) (fun _ => trivial) (fun _ => trivial) (fun _ => trivial) h0 (fun a b _ ih => h1 a b ih) r

theorem VRs.length {X : Cx} {W : Wd} {vs : List Value} {xs : List V} (r : VRs X W vs xs) : vs.length = xs.length := VRs.ind (p := fun vs xs => vs.length = xs.length) rfl (fun _ _ ih => congrArg (· + 1) ih) r
theorem VRs.append {X : Cx} {W : Wd} {vs ws : List Value} {xs ys : List V} (r : VRs X W vs xs) (h : VRs X W ws ys) : VRs X W (vs ++ ws) (xs ++ ys) := VRs.ind (p := fun vs xs => VRs X W (vs ++ ws) (xs ++ ys)) h (fun a _ ih => .cons a ih) r
theorem VRs.get {X : Cx} {W : Wd} {vs : List Value} {xs : List V} (r : VRs X W vs xs) {k : Nat} {x : V} (e : xs[k]? = some x) : ∃ v, vs[k]? = some v ∧ VR X W v x :=
  VRs.ind (p := fun vs xs => ∀ (k : Nat) x, xs[k]? = some x → ∃ v, vs[k]? = some v ∧ VR X W v x) (fun _ _ e => (nomatch e)) (fun {v _ _ _} a _ ih k x e => by
    cases k with
    | zero => exact ⟨v, rfl, Option.some.inj e ▸ a⟩
    | succ k => exact ih k x e) r k x e
theorem VRs.take {X : Cx} {W : Wd} {vs : List Value} {xs : List V} (k : Nat) (r : VRs X W vs xs) : VRs X W (vs.take k) (xs.take k) :=
  VRs.ind (p := fun vs xs => ∀ k : Nat, VRs X W (vs.take k) (xs.take k)) (fun k => by cases k <;> exact .nil) (fun a _ ih k => by
    cases k with
    | zero => exact .nil
    | succ k => exact .cons a (ih k)) r k
theorem VRs.drop {X : Cx} {W : Wd} {vs : List Value} {xs : List V} (k : Nat) (r : VRs X W vs xs) : VRs X W (vs.drop k) (xs.drop k) :=
  VRs.ind (p := fun vs xs => ∀ k : Nat, VRs X W (vs.drop k) (xs.drop k)) (fun k => by cases k <;> exact .nil) (fun a b ih k => by
    cases k with
    | zero => exact .cons a b
    | succ k => exact ih k) r k
theorem VRs.reverse {X : Cx} {W : Wd} {vs : List Value} {xs : List V} (r : VRs X W vs xs) : VRs X W vs.reverse xs.reverse :=
  VRs.ind (p := fun vs xs => VRs X W vs.reverse xs.reverse) .nil (fun a _ ih => by rw [List.reverse_cons, List.reverse_cons]; exact VRs.append ih (.cons a .nil)) r
theorem VRs.set {X : Cx} {W : Wd} {vs : List Value} {xs : List V} (k : Nat) {v : Value} {x : V} (r : VRs X W vs xs) (h : VR X W v x) : VRs X W (vs.set k v) (xs.set k x) :=
  VRs.ind (p := fun vs xs => ∀ k : Nat, VRs X W (vs.set k v) (xs.set k x)) (fun k => .nil) (fun a b ih k => by
    cases k with
    | zero => exact .cons h b
    | succ k => exact .cons a (ih k)) r k

/-- the entries of a dict made in the call: by ints -/
inductive KVs (X : Cx) (W : Wd) : List (Int × Value) → List (V × V) → Prop
  | nil : KVs X W [] []
  | cons {i : Int} {v : Value} {x : V} {es : List (Int × Value)} {kvs : List (V × V)} : VR X W v x → KVs X W es kvs → KVs X W ((i, v) :: es) ((.int i, x) :: kvs)
/-- the entries of an object's own dict -/
inductive FVs (X : Cx) (W : Wd) : List DictEntry → List (Nat × V) → Prop
  | nil : FVs X W [] []
  | cons {i : Nat} {hh : Int} {t : Tok} {v : Value} {x : V} {es : List DictEntry} {fs : List (Nat × V)} : VR X W v x → FVs X W es fs → FVs X W (⟨hh, .str (X.nm i) t, v⟩ :: es) ((i, x) :: fs)

theorem KVs.le {X : Cx} {W W' : Wd} (h : Wd.Le W W') {es : List (Int × Value)} {kvs : List (V × V)} (r : KVs X W es kvs) : KVs X W' es kvs := by
  induction r with
  | nil => exact .nil
  | cons a _ ih => exact .cons (a.le h) ih
theorem FVs.le {X : Cx} {W W' : Wd} (h : Wd.Le W W') {es : List DictEntry} {fs : List (Nat × V)} (r : FVs X W es fs) : FVs X W' es fs := by
  induction r with
  | nil => exact .nil
  | cons a _ ih => exact .cons (a.le h) ih

abbrev dictO (es : Array DictEntry) (n : Nat) : Obj := { cls := .type "dict", data := .dict es n }
abbrev instO (c dx : Addr) : Obj := { cls := .ref c, dict := some dx, data := .plain }

/-- a cell lies in the heap -/
inductive LstCell (X : Cx) (W : Wd) (h : Heap) (l : Addr × Addr) (xs : List V) : Prop
  | mk (vs : Array Value) (n : Nat) (a : h.get? l.1 = some (lstO vs n)) (b : VRs X W vs.toList xs) (e : l.2 = l.1) (z : xs.length ≤ SZ)
inductive DicCell (X : Cx) (W : Wd) (h : Heap) (l : Addr × Addr) (kvs : List (V × V)) : Prop
  | mk (es : List (Int × Value)) (a : h.DictOf (intKind X.prog X.w) l.1 es) (k : KVs X W es kvs) (e : l.2 = l.1) (ne : (l.1 == sysModules) = false) (z : kvs.length ≤ SZ)
inductive InsCell (X : Cx) (W : Wd) (h : Heap) (l : Addr × Addr) (k : Nat) (fs : List (Nat × V)) : Prop
  | mk (c : Addr) (cl : Cl) (es : Array DictEntry) (n : Nat) (a : X.clA k = some c) (a' : X.P.cls k = some cl) (b : h.get? l.1 = some (instO c l.2)) (d : h.get? l.2 = some (dictO es n)) (f : FVs X W es.toList fs) (ne : l.2 ≠ l.1) (p : ∀ p ∈ fs, p.1 ∈ cl.attrs) (z : fs.length ≤ 1000)
inductive ExcCell (X : Cx) (h : Heap) (l : Addr × Addr) (k : Nat) : Prop
  | mk (c : Addr) (o : Obj) (vs : Array Value) (a : X.clA k = some c) (a' : X.P.exc k = true) (b : h.get? l.1 = some o) (d : o.cls = .ref c) (f : o.data = .fields vs) (e : l.2 = l.1)
noncomputable def CellAt (X : Cx) (W : Wd) (h : Heap) (l : Addr × Addr) : C → Prop
  | .list xs => LstCell X W h l xs
  | .dict kvs => DicCell X W h l kvs
  | .inst k fs => InsCell X W h l k fs
  | .exc k => ExcCell X h l k

theorem CellAt.keeps {X : Cx} {W W' : Wd} {h h' : Heap} {l : Addr × Addr} {c : C} (hc : CellAt X W h l c) (hw : Wd.Le W W')
    (h1 : ∀ o, h.get? l.1 = some o → h'.get? l.1 = some o) (h2 : ∀ o, h.get? l.2 = some o → h'.get? l.2 = some o) : CellAt X W' h' l c := by
  cases c with
  | list xs => obtain ⟨vs, n, a, b, e, z⟩ := hc; exact ⟨vs, n, h1 _ a, b.le hw, e, z⟩
  | dict kvs => obtain ⟨es, a, k, e, n, z⟩ := hc; exact ⟨es, a.at h1, k.le hw, e, n, z⟩
  | inst k fs => obtain ⟨c, cl, es, n, a, a', b, d, f, ne, p, z⟩ := hc; exact ⟨c, cl, es, n, a, a', h1 _ b, h2 _ d, f.le hw, ne, p, z⟩
  | exc k => obtain ⟨c, o, vs, a, a', b, d, f, e⟩ := hc; exact ⟨c, o, vs, a, a', h1 _ b, d, f, e⟩
theorem CellAt.there {X : Cx} {W : Wd} {h : Heap} {l : Addr × Addr} {c : C} (hc : CellAt X W h l c) : (∃ o, h.get? l.1 = some o) ∧ ∃ o, h.get? l.2 = some o := by
  cases c with
  | list xs => obtain ⟨vs, n, a, b, e, _⟩ := hc; exact ⟨⟨_, a⟩, by rw [e]; exact ⟨_, a⟩⟩
  | dict kvs => obtain ⟨es, ⟨o, _, _, g, _⟩, k, e, _⟩ := hc; exact ⟨⟨o, g⟩, by rw [e]; exact ⟨o, g⟩⟩
  | inst k fs => obtain ⟨c, cl, es, n, a, a', b, d, f, _⟩ := hc; exact ⟨⟨_, b⟩, _, d⟩
  | exc k => obtain ⟨c, o, vs, a, a', b, d, f, e⟩ := hc; exact ⟨⟨_, b⟩, by rw [e]; exact ⟨_, b⟩⟩

inductive Own (W : Wd) (H : Hp) (a : Addr) : Prop
  | mk (i : Nat) (c : C) (l : Addr × Addr) (h : H.get i = some c) (p : W.φ i = some l) (e : a = l.1 ∨ a = l.2)
inductive CellIn (X : Cx) (W : Wd) (h : Heap) (i : Nat) (c : C) : Prop
  | mk (l : Addr × Addr) (p : W.φ i = some l) (r : CellAt X W h l c)

structure RelH (X : Cx) (W : Wd) (H : Hp) (h : Heap) : Prop where
  z : ∀ a o, W.Z a = some o → h.get? a = some o
  base : ∀ a o, X.hb.get? a = some o → W.Z a = some o
  cell : ∀ i c, H.get i = some c → CellIn X W h i c
  off : ∀ a, Own W H a → W.Z a = none
  sep : ∀ i j ci cj li lj, H.get i = some ci → H.get j = some cj → W.φ i = some li → W.φ j = some lj → i ≠ j → li.1 ≠ lj.1 ∧ li.1 ≠ lj.2 ∧ li.2 ≠ lj.1 ∧ li.2 ≠ lj.2
  dom : ∀ i, H.next ≤ i → H.get i = none ∧ W.φ i = none

theorem RelH.own_there {X : Cx} {W : Wd} {H : Hp} {h : Heap} (R : RelH X W H h) {a : Addr} (o : Own W H a) : ∃ ob, h.get? a = some ob := by
  obtain ⟨i, c, l, hc, hl, ha⟩ := o
  obtain ⟨l', hl', hcell⟩ := R.cell i c hc
  have : l' = l := Option.some.inj (hl'.symm.trans hl)
  subst this
  rcases ha with rfl | rfl
  · exact hcell.there.1
  · exact hcell.there.2
theorem RelH.own_lt {X : Cx} {W : Wd} {H : Hp} {h : Heap} (R : RelH X W H h) {a : Addr} (o : Own W H a) : a < h.objs.size := let ⟨_, e⟩ := R.own_there o; Heap.lt_size e
theorem RelH.bkeep {X : Cx} {W : Wd} {H : Hp} {h : Heap} (R : RelH X W H h) : ∀ a o, X.hb.get? a = some o → h.get? a = some o := fun a o e => R.z _ _ (R.base a o e)

/-- no names are kept in it -/
noncomputable def NoNames (o : Obj) : Prop := ∀ es n, o.data ≠ .dict es n
/-- the same object, but a frame's slots may differ -/
noncomputable def SameO (o o' : Obj) : Prop := o' = o ∨ ((∃ es n, o.data = .dict es n) ∧ ∃ sl, o' = { o with slots := sl })
theorem SameO.refl (o : Obj) : SameO o o := .inl rfl
theorem SameO.trans {a b c : Obj} (x : SameO a b) (y : SameO b c) : SameO a c := by
  rcases x with rfl | ⟨h, sl, rfl⟩
  · exact y
  · rcases y with rfl | ⟨_, sl', rfl⟩
    · exact .inr ⟨h, sl, rfl⟩
    · exact .inr ⟨h, sl', rfl⟩
theorem SameO.eq {a b : Obj} (x : SameO a b) (h : NoNames a) : b = a := x.elim id fun q => by
  obtain ⟨⟨es, n, e⟩, _⟩ := q
  exact absurd e (h es n)
theorem SameO.cls {a b : Obj} (x : SameO a b) : b.cls = a.cls := by rcases x with rfl | ⟨_, _, rfl⟩ <;> rfl
theorem SameO.data {a b : Obj} (x : SameO a b) : b.data = a.data := by rcases x with rfl | ⟨_, _, rfl⟩ <;> rfl

/-- what a step may do: all that is neither owned nor private stands as it stood -/
structure Stp (Pv : Addr → Prop) (W : Wd) (H : Hp) (h : Heap) (W' : Wd) (H' : Hp) (h' : Heap) : Prop where
  le : Wd.Le W W'
  keep : ∀ a o, h.get? a = some o → ¬ Own W H a → ¬ Pv a → ∃ o', h'.get? a = some o' ∧ SameO o o'
  own : ∀ a o, h.get? a = some o → ¬ Own W H a → ¬ Own W' H' a
  znew : ∀ a o, W'.Z a = some o → W.Z a = some o ∨ Own W H a ∨ h.get? a = none
  there : ∀ a o, h.get? a = some o → ∃ o', h'.get? a = some o'

noncomputable def noPv : Addr → Prop := fun _ => False

theorem Stp.refl {Pv : Addr → Prop} {W : Wd} {H : Hp} {h : Heap} : Stp Pv W H h W H h :=
  ⟨.refl _, fun _ o e _ _ => ⟨o, e, .refl o⟩, fun _ _ _ n => n, fun _ _ e => .inl e, fun _ o e => ⟨o, e⟩⟩
theorem Stp.trans {Pv : Addr → Prop} {W W' W'' : Wd} {H H' H'' : Hp} {h h' h'' : Heap} (a : Stp Pv W H h W' H' h') (b : Stp Pv W' H' h' W'' H'' h'') : Stp Pv W H h W'' H'' h'' where
  le := a.le.trans b.le
  keep := fun x o e n p => by
    obtain ⟨o₁, e₁, q₁⟩ := a.keep x o e n p
    obtain ⟨o₂, e₂, q₂⟩ := b.keep x o₁ e₁ (a.own x o e n) p
    exact ⟨o₂, e₂, q₁.trans q₂⟩
  own := fun x o e n => let ⟨_, e'⟩ := a.there x o e; b.own x _ e' (a.own x o e n)
  znew := fun x o e => by
    rcases b.znew x o e with q | q | q
    · exact a.znew x o q
    · by_cases ho : Own W H x
      · exact .inr (.inl ho)
      · cases hx : h.get? x with
        | none => exact .inr (.inr rfl)
        | some o' => exact absurd q (a.own x o' hx ho)
    · cases hx : h.get? x with
      | none => exact .inr (.inr rfl)
      | some o' => obtain ⟨_, e'⟩ := a.there x o' hx; rw [e'] at q; cases q
  there := fun x o e => let ⟨_, e'⟩ := a.there x o e; b.there x _ e'
theorem Stp.mono {Pv Pv' : Addr → Prop} {W W' : Wd} {H H' : Hp} {h h' : Heap} (a : Stp Pv W H h W' H' h') (hp : ∀ x, Pv x → Pv' x) : Stp Pv' W H h W' H' h' :=
  ⟨a.le, fun x o e n p => a.keep x o e n fun q => p (hp x q), a.own, a.znew, a.there⟩

/-- a step whose private things are new -/
theorem Stp.transFresh {Pv Pv' : Addr → Prop} {W W' W'' : Wd} {H H' H'' : Hp} {h h' h'' : Heap} (a : Stp Pv W H h W' H' h') (b : Stp Pv' W' H' h' W'' H'' h'') (hf : ∀ x, Pv' x → h.get? x = none ∨ Pv x) : Stp Pv W H h W'' H'' h'' where
  le := a.le.trans b.le
  keep := fun x o e n p => by
    obtain ⟨o₁, e₁, q₁⟩ := a.keep x o e n p
    obtain ⟨o₂, e₂, q₂⟩ := b.keep x o₁ e₁ (a.own x o e n) fun q => (hf x q).elim (fun z => by rw [z] at e; cases e) p
    exact ⟨o₂, e₂, q₁.trans q₂⟩
  own := fun x o e n => let ⟨_, e'⟩ := a.there x o e; b.own x _ e' (a.own x o e n)
  znew := fun x o e => by
    rcases b.znew x o e with q | q | q
    · exact a.znew x o q
    · by_cases ho : Own W H x
      · exact .inr (.inl ho)
      · cases hx : h.get? x with
        | none => exact .inr (.inr rfl)
        | some o' => exact absurd q (a.own x o' hx ho)
    · cases hx : h.get? x with
      | none => exact .inr (.inr rfl)
      | some o' => obtain ⟨_, e'⟩ := a.there x o' hx; rw [e'] at q; cases q
  there := fun x o e => let ⟨_, e'⟩ := a.there x o e; b.there x _ e'

/-- nothing of the layer's moves: more objects, or the private ones changed -/
theorem Stp.quiet {Pv : Addr → Prop} {W : Wd} {H : Hp} {h h' : Heap} (hk : ∀ a o, h.get? a = some o → ¬ Pv a → h'.get? a = some o) (ht : ∀ a o, h.get? a = some o → ∃ o', h'.get? a = some o') :
    Stp Pv W H h W H h' := ⟨.refl _, fun x o e _ p => ⟨o, hk x o e p, .refl o⟩, fun _ _ _ n => n, fun _ _ e => .inl e, ht⟩
theorem RelH.quiet {Pv : Addr → Prop} {X : Cx} {W : Wd} {H : Hp} {h h' : Heap} (R : RelH X W H h) (hk : ∀ a o, h.get? a = some o → ¬ Pv a → h'.get? a = some o) (hp : ∀ a, Pv a → ¬ Own W H a ∧ W.Z a = none) : RelH X W H h' where
  z := fun a o e => hk a o (R.z a o e) fun p => by rw [(hp a p).2] at e; cases e
  base := R.base
  cell := fun i c e => by
    obtain ⟨l, hl, hc⟩ := R.cell i c e
    exact ⟨l, hl, hc.keeps (.refl _) (fun o q => hk _ o q fun p => (hp _ p).1 ⟨i, c, l, e, hl, .inl rfl⟩) fun o q => hk _ o q fun p => (hp _ p).1 ⟨i, c, l, e, hl, .inr rfl⟩⟩
  off := R.off
  sep := R.sep
  dom := R.dom

noncomputable def Wd.addZ (W : Wd) (a : Addr) (o : Obj) : Wd := ⟨fun b => if b = a then some o else W.Z b, W.φ⟩
noncomputable def Wd.addφ (W : Wd) (i : Nat) (l : Addr × Addr) : Wd := ⟨W.Z, fun j => if j = i then some l else W.φ j⟩

theorem Own.addZ {W : Wd} {H : Hp} {a b : Addr} {o : Obj} : Own (W.addZ a o) H b ↔ Own W H b := ⟨fun ⟨i, c, l, x, y, z⟩ => ⟨i, c, l, x, y, z⟩, fun ⟨i, c, l, x, y, z⟩ => ⟨i, c, l, x, y, z⟩⟩
section
variable {X : Cx} {W : Wd} {H : Hp} {h h' : Heap} (R : RelH X W H h)
include R
theorem RelH.leZ {a : Addr} {o : Obj} (hn : h.get? a = none) : Wd.Le W (W.addZ a o) :=
  ⟨fun b ob e => (by
    show (if b = a then some o else W.Z b) = some ob
    rw [if_neg]
    · exact e
    · rintro rfl; rw [R.z _ _ e] at hn; cases hn), fun _ _ e => e⟩
/-- a new frozen object -/
theorem RelH.frozen {a : Addr} {o : Obj} (hk : ∀ b ob, h.get? b = some ob → h'.get? b = some ob) (hn : h.get? a = none) (ha : h'.get? a = some o) :
    RelH X (W.addZ a o) H h' ∧ Stp noPv W H h (W.addZ a o) H h' := by
  have L : Wd.Le W (W.addZ a o) := R.leZ hn
  refine ⟨⟨fun b ob e => ?_, fun b ob e => L.zz _ _ (R.base b ob e), fun i c e => ?_, fun b hb => ?_, R.sep, R.dom⟩, ⟨L, fun x ob e _ _ => ⟨ob, hk x ob e, .refl ob⟩, fun _ _ _ n z => n (Own.addZ.mp z), fun x ob e => ?_, fun x ob e => ⟨ob, hk x ob e⟩⟩⟩
  · have e' : (if b = a then some o else W.Z b) = some ob := e
    by_cases hb : b = a
    · subst hb; rw [if_pos rfl] at e'; cases e'; exact ha
    · rw [if_neg hb] at e'; exact hk _ _ (R.z _ _ e')
  · obtain ⟨l, hl, hc⟩ := R.cell i c e
    exact ⟨l, hl, hc.keeps L (fun o q => hk _ _ q) fun o q => hk _ _ q⟩
  · show (if b = a then some o else W.Z b) = none
    have hb' : Own W H b := Own.addZ.mp hb
    rw [if_neg]
    · exact R.off b hb'
    · rintro rfl
      obtain ⟨_, q⟩ := R.own_there hb'
      rw [q] at hn; cases hn
  · have e' : (if x = a then some o else W.Z x) = some ob := e
    by_cases hb : x = a
    · subst hb; exact .inr (.inr hn)
    · rw [if_neg hb] at e'; exact .inl e'
theorem RelH.leF {l : Addr × Addr} : Wd.Le W (W.addφ H.next l) :=
  ⟨fun _ _ e => e, fun i k e => by
    show (if i = H.next then some l else W.φ i) = some k
    rw [if_neg]
    · exact e
    · rintro rfl; rw [(R.dom _ (Nat.le_refl _)).2] at e; cases e⟩
theorem RelH.own_new {l : Addr × Addr} {c : C} {a : Addr} (ho : Own (W.addφ H.next l) (H.new c) a) : Own W H a ∨ a = l.1 ∨ a = l.2 := by
  obtain ⟨i, ci, li, hi, hl, ha⟩ := ho
  have hi' : (if i = H.next then some c else H.get i) = some ci := hi
  have hl' : (if i = H.next then some l else W.φ i) = some li := hl
  by_cases hn : i = H.next
  · rw [if_pos hn] at hl'; cases hl'; exact .inr ha
  · rw [if_neg hn] at hi' hl'; exact .inl ⟨i, ci, li, hi', hl', ha⟩
/-- a new cell -/
theorem RelH.fresh {l : Addr × Addr} {c : C} (hk : ∀ b ob, h.get? b = some ob → h'.get? b = some ob) (h1 : h.get? l.1 = none) (h2 : h.get? l.2 = none)
    (hc : CellAt X (W.addφ H.next l) h' l c) : RelH X (W.addφ H.next l) (H.new c) h' ∧ Stp noPv W H h (W.addφ H.next l) (H.new c) h' := by
  have L : Wd.Le W (W.addφ H.next l) := R.leF
  have nZ : ∀ b, h.get? b = none → W.Z b = none := fun b e => by
    cases q : W.Z b with
    | none => rfl
    | some o => rw [R.z _ _ q] at e; cases e
  have ne : ∀ i ci li, H.get i = some ci → W.φ i = some li → (li.1 ≠ l.1 ∧ li.1 ≠ l.2 ∧ li.2 ≠ l.1 ∧ li.2 ≠ l.2) := fun i ci li hi hl => by
    obtain ⟨o1, q1⟩ := R.own_there ⟨i, ci, li, hi, hl, .inl rfl⟩
    obtain ⟨o2, q2⟩ := R.own_there ⟨i, ci, li, hi, hl, .inr rfl⟩
    refine ⟨fun e => ?_, fun e => ?_, fun e => ?_, fun e => ?_⟩
    · rw [e, h1] at q1; cases q1
    · rw [e, h2] at q1; cases q1
    · rw [e, h1] at q2; cases q2
    · rw [e, h2] at q2; cases q2
  refine ⟨⟨fun b ob e => hk _ _ (R.z b ob e), R.base, fun i ci e => ?_, fun b hb => ?_, fun i j ci cj li lj hi hj hli hlj nij => ?_, fun i hi => ?_⟩, ⟨L, fun x ob e _ _ => ⟨ob, hk x ob e, .refl ob⟩, fun x ob e n o => ?_, fun _ _ e => .inl e, fun x ob e => ⟨ob, hk x ob e⟩⟩⟩
  · have e' : (if i = H.next then some c else H.get i) = some ci := e
    by_cases hn : i = H.next
    · rw [if_pos hn] at e'; cases e'
      exact ⟨l, by show (if i = H.next then some l else W.φ i) = some l; rw [if_pos hn], hc⟩
    · rw [if_neg hn] at e'
      obtain ⟨k, hl, q⟩ := R.cell i ci e'
      exact ⟨k, L.ff _ _ hl, q.keeps L (fun o q => hk _ _ q) fun o q => hk _ _ q⟩
  · rcases R.own_new hb with q | rfl | rfl
    · exact R.off b q
    · exact nZ _ h1
    · exact nZ _ h2
  · have hi' : (if i = H.next then some c else H.get i) = some ci := hi
    have hj' : (if j = H.next then some c else H.get j) = some cj := hj
    have hli' : (if i = H.next then some l else W.φ i) = some li := hli
    have hlj' : (if j = H.next then some l else W.φ j) = some lj := hlj
    by_cases hn : i = H.next
    · have hm : ¬ j = H.next := fun q => nij (hn.trans q.symm)
      rw [if_pos hn] at hli'; cases hli'
      rw [if_neg hm] at hj' hlj'
      obtain ⟨a, b, c, d⟩ := ne j cj lj hj' hlj'
      exact ⟨a.symm, c.symm, b.symm, d.symm⟩
    · rw [if_neg hn] at hi' hli'
      by_cases hm : j = H.next
      · rw [if_pos hm] at hlj'; cases hlj'
        obtain ⟨a, b, c, d⟩ := ne i ci li hi' hli'
        exact ⟨a, b, c, d⟩
      · rw [if_neg hm] at hj' hlj'
        exact R.sep i j ci cj li lj hi' hj' hli' hlj' nij
  · have hi2 : H.next + 1 ≤ i := hi
    have : ¬ i = H.next := by omega
    constructor
    · show (if i = H.next then some c else H.get i) = none
      rw [if_neg this]; exact (R.dom i (by omega)).1
    · show (if i = H.next then some l else W.φ i) = none
      rw [if_neg this]; exact (R.dom i (by omega)).2
  · rcases R.own_new o with q | rfl | rfl
    · exact n q
    · rw [h1] at e; cases e
    · rw [h2] at e; cases e
theorem RelH.own_set {i : Nat} {c c' : C} {a : Addr} (hi : H.get i = some c) : Own W (H.set i c') a ↔ Own W H a := by
  constructor
  · rintro ⟨j, cj, lj, hj, hl, ha⟩
    have hj' : (if j = i then some c' else H.get j) = some cj := hj
    by_cases hn : j = i
    · exact ⟨j, c, lj, hn ▸ hi, hl, ha⟩
    · rw [if_neg hn] at hj'; exact ⟨j, cj, lj, hj', hl, ha⟩
  · rintro ⟨j, cj, lj, hj, hl, ha⟩
    by_cases hn : j = i
    · exact ⟨j, c', lj, by show (if j = i then some c' else H.get j) = some c'; rw [if_pos hn], hl, ha⟩
    · exact ⟨j, cj, lj, by show (if j = i then some c' else H.get j) = some cj; rw [if_neg hn]; exact hj, hl, ha⟩
/-- a cell changed -/
theorem RelH.upd {i : Nat} {l : Addr × Addr} {c c' : C} (hi : H.get i = some c) (hl : W.φ i = some l) (hk : ∀ b ob, h.get? b = some ob → b ≠ l.1 → b ≠ l.2 → h'.get? b = some ob)
    (hc : CellAt X W h' l c') : RelH X W (H.set i c') h' ∧ Stp noPv W H h W (H.set i c') h' := by
  have ow : ∀ b, b = l.1 ∨ b = l.2 → Own W H b := fun b e => ⟨i, c, l, hi, hl, e⟩
  have hk' : ∀ b ob, h.get? b = some ob → ¬ Own W H b → h'.get? b = some ob := fun b ob e n => hk b ob e (fun q => n (ow b (.inl q))) fun q => n (ow b (.inr q))
  refine ⟨⟨fun b ob e => hk' _ _ (R.z b ob e) fun o => ?_, R.base, fun j cj e => ?_, fun b hb => R.off b ((R.own_set hi).mp hb), fun j k cj ck lj lk hj hk₂ hlj hlk nij => ?_, fun j hj => ?_⟩,
    ⟨.refl _, fun x ob e n _ => ⟨ob, hk' x ob e n, .refl ob⟩, fun x ob _ n o => n ((R.own_set hi).mp o), fun _ _ e => .inl e, fun x ob e => ?_⟩⟩
  · rw [R.off _ o] at e; cases e
  · have e' : (if j = i then some c' else H.get j) = some cj := e
    by_cases hn : j = i
    · rw [if_pos hn] at e'; cases e'; subst hn; exact ⟨l, hl, hc⟩
    · rw [if_neg hn] at e'
      obtain ⟨k, hlj, q⟩ := R.cell j cj e'
      obtain ⟨a, b, c₁, d⟩ := R.sep j i cj c k l e' hi hlj hl hn
      exact ⟨k, hlj, q.keeps (.refl _) (fun o q => hk _ _ q a b) fun o q => hk _ _ q c₁ d⟩
  · have g : ∀ j cj, (H.set i c').get j = some cj → ∃ c₂, H.get j = some c₂ := fun j cj e => by
      have e' : (if j = i then some c' else H.get j) = some cj := e
      by_cases hn : j = i
      · exact ⟨c, hn ▸ hi⟩
      · rw [if_neg hn] at e'; exact ⟨_, e'⟩
    obtain ⟨_, a⟩ := g j cj hj
    obtain ⟨_, b⟩ := g k ck hk₂
    exact R.sep j k _ _ lj lk a b hlj hlk nij
  · have hj' : H.next ≤ j := hj
    have hn : ¬ j = i := by rintro rfl; rw [(R.dom j hj').1] at hi; cases hi
    refine ⟨?_, (R.dom j hj').2⟩
    show (if j = i then some c' else H.get j) = none
    rw [if_neg hn]; exact (R.dom j hj').1
  · by_cases h1 : x = l.1
    · subst h1; exact hc.there.1
    · by_cases h2 : x = l.2
      · subst h2; exact hc.there.2
      · exact ⟨ob, hk x ob e h1 h2⟩
/-- a list that is changed no more -/
theorem RelH.freeze {i : Nat} {xs : List V} {l : Addr × Addr} (hi : H.get i = some (.list xs)) (hl : W.φ i = some l) :
    ∃ o, RelH X (W.addZ l.1 o) (H.del i) h ∧ Stp noPv W H h (W.addZ l.1 o) (H.del i) h ∧ VR X (W.addZ l.1 o) (.ref l.1) (.lst xs) := by
  obtain ⟨l', hl', vs, n, hg, hv, he, hsz⟩ := R.cell i _ hi
  have : l' = l := Option.some.inj (hl'.symm.trans hl)
  subst this
  have own_i : ∀ b, b = l'.1 ∨ b = l'.2 → Own W H b := fun b e => ⟨i, _, l', hi, hl, e⟩
  have L : Wd.Le W (W.addZ l'.1 (lstO vs n)) := ⟨fun b ob e => (by
    show (if b = l'.1 then some (lstO vs n) else W.Z b) = some ob
    rw [if_neg]
    · exact e
    · rintro rfl; rw [R.off _ (own_i _ (.inl rfl))] at e; cases e), fun _ _ e => e⟩
  have od : ∀ b, Own (W.addZ l'.1 (lstO vs n)) (H.del i) b → Own W H b ∧ b ≠ l'.1 := fun b ⟨j, cj, lj, hj, hlj, ha⟩ => by
    have hj' : (if j = i then none else H.get j) = some cj := hj
    by_cases hn : j = i
    · rw [if_pos hn] at hj'; cases hj'
    · rw [if_neg hn] at hj'
      refine ⟨⟨j, cj, lj, hj', hlj, ha⟩, ?_⟩
      obtain ⟨a, b, c, d⟩ := R.sep j i cj _ lj l' hj' hi hlj hl hn
      rcases ha with rfl | rfl
      · exact a
      · exact c
  refine ⟨lstO vs n, ⟨fun b ob e => ?_, fun b ob e => L.zz _ _ (R.base b ob e), fun j cj e => ?_, fun b hb => ?_, fun j k cj ck lj lk hj hk hlj hlk nij => ?_, fun j hj => ?_⟩,
    ⟨L, fun x ob e _ _ => ⟨ob, e, .refl ob⟩, fun x ob e no o => no (od x o).1, fun x ob e => ?_, fun x ob e => ⟨ob, e⟩⟩, .lst (n := n) ?_ (hv.le L) hsz⟩
  · have e' : (if b = l'.1 then some (lstO vs n) else W.Z b) = some ob := e
    by_cases hb : b = l'.1
    · rw [if_pos hb] at e'; cases e'; rw [hb]; exact hg
    · rw [if_neg hb] at e'; exact R.z _ _ e'
  · have e' : (if j = i then none else H.get j) = some cj := e
    by_cases hn : j = i
    · rw [if_pos hn] at e'; cases e'
    · rw [if_neg hn] at e'
      obtain ⟨k, hlj, q⟩ := R.cell j cj e'
      exact ⟨k, hlj, q.keeps L (fun _ q => q) fun _ q => q⟩
  · obtain ⟨a, b'⟩ := od b hb
    show (if b = l'.1 then some (lstO vs n) else W.Z b) = none
    rw [if_neg b']; exact R.off _ a
  · have g : ∀ j cj, (H.del i).get j = some cj → H.get j = some cj := fun j cj e => by
      have e' : (if j = i then none else H.get j) = some cj := e
      by_cases hn : j = i
      · rw [if_pos hn] at e'; cases e'
      · rw [if_neg hn] at e'; exact e'
    exact R.sep j k cj ck lj lk (g _ _ hj) (g _ _ hk) hlj hlk nij
  · have hj' : H.next ≤ j := hj
    refine ⟨?_, (R.dom j hj').2⟩
    show (if j = i then none else H.get j) = none
    rw [(R.dom j hj').1]; simp
  · have e' : (if x = l'.1 then some (lstO vs n) else W.Z x) = some ob := e
    by_cases hb : x = l'.1
    · exact .inr (.inl (own_i _ (.inl hb)))
    · rw [if_neg hb] at e'; exact .inl e'
  · show (if l'.1 = l'.1 then some (lstO vs n) else W.Z l'.1) = _
    rw [if_pos rfl]
end
end Mine

end

section
set_option autoImplicit false
set_option linter.all false
set_option genSizeOf false
set_option genInjectivity false
namespace Mine
open PySem PySem.Calls PyProof.Rows

structure Rest (s s' : Shared) : Prop where
  gens : s'.gens = s.gens
  drawn : s'.drawn = s.drawn
  os : s'.os = s.os
theorem Rest.refl (s : Shared) : Rest s s := ⟨rfl, rfl, rfl⟩
theorem Rest.trans {a b c : Shared} (x : Rest a b) (y : Rest b c) : Rest a c := ⟨y.gens.trans x.gens, y.drawn.trans x.drawn, y.os.trans x.os⟩
theorem Rest.mk' {s : Shared} {h : Heap} {t : Nat} : Rest s { s with heap := h, toks := t } := ⟨rfl, rfl, rfl⟩

theorem ns_same {h h' : Heap} {a : Addr} {m : Str → Option Value} (hn : h.Ns a m) (hk : ∀ o, h.get? a = some o → ∃ o', h'.get? a = some o' ∧ SameO o o') : h'.Ns a m := by
  obtain ⟨o, es, ep, ho, hd, r⟩ := hn
  obtain ⟨o', ho', q⟩ := hk o ho
  exact ⟨o', es, ep, ho', q.data.trans hd, r⟩
theorem cell_same {h h' : Heap} {a : Addr} {v : Option Value} (hn : h.IsCell a v) (hk : ∀ o, h.get? a = some o → ∃ o', h'.get? a = some o' ∧ SameO o o') : h'.IsCell a v := by
  obtain ⟨o, ho, hd⟩ := hn
  obtain ⟨o', ho', q⟩ := hk o ho
  exact ⟨o', ho', q.data.trans hd⟩

/-- what is the frame's own, and the frames around -/
structure Pr where
  pv : Addr → Prop
  st : List Env
/-- a frame around -/
structure FrAt (W : Wd) (H : Hp) (h : Heap) (env : Env) : Prop where
  kd : env.scope.kind ≠ .module
  at_ : ∃ L o es n, env.frame = some L ∧ h.get? L = some o ∧ o.data = .dict es n ∧ ¬ Own W H L ∧ W.Z L = none
theorem FrAt.keep {W W' : Wd} {H H' : Hp} {h h' : Heap} {env : Env} (F : FrAt W H h env) (k : ∀ L o es n, env.frame = some L → h.get? L = some o → o.data = .dict es n → ¬ Own W H L → W.Z L = none → (∃ o' es' n', h'.get? L = some o' ∧ o'.data = .dict es' n') ∧ ¬ Own W' H' L ∧ W'.Z L = none) : FrAt W' H' h' env := by
  obtain ⟨kd, L, o, es, n, a, b, c, d, e⟩ := F
  obtain ⟨⟨o', es', n', b', c'⟩, d', e'⟩ := k L o es n a b c d e
  exact ⟨kd, L, o', es', n', a, b', c', d', e'⟩

inductive MmR (X : Cx) (W : Wd) (m : Str → Option Value) (i : Nat) (v : V) : Prop
  | mk (cv : Value) (e : m (X.nm i) = some cv) (r : VR X W cv v)
inductive NsR (X : Cx) (W : Wd) (h : Heap) (env : Env) (loc : Loc) : Prop
  | mk (m : Str → Option Value) (hn : h.Ns env.locals m) (hv : ∀ i v, loc i = some v → env.kindOf (X.nm i) = some .local → MmR X W m i v)
inductive ClR (X : Cx) (W : Wd) (h : Heap) (env : Env) (i : Nat) (v : V) : Prop
  | mk (c : Addr) (cv : Value) (e : env.cells.lookup (X.nm i) = some c) (hc : h.IsCell c (some cv)) (r : VR X W cv v)
/-- the frame at hand -/
structure FrR (X : Cx) (W : Wd) (H : Hp) (h : Heap) (env : Env) (Pv : Pr) (loc : Loc) : Prop where
  ns : NsR X W h env loc
  cells : ∀ i v, loc i = some v → (env.kindOf (X.nm i) = some .cell ∨ env.kindOf (X.nm i) = some .free) → ClR X W h env i v
  hasCell : ∀ x, env.func ≠ none → env.kindOf x = some .cell → ∃ c v, env.cells.lookup x = some c ∧ h.IsCell c v ∧ Pv.pv c
  cellEq : ∀ x y c, env.cells.lookup x = some c → env.cells.lookup y = some c → x = y
  cellNs : ∀ x c, env.cells.lookup x = some c → c ≠ env.locals ∧ ¬ Own W H c ∧ ∃ o, h.get? c = some o
  pvL : Pv.pv env.locals
  priv : ∀ a, Pv.pv a → ¬ Own W H a ∧ W.Z a = none
  pvAt : ∀ a, Pv.pv a → ∃ o, h.get? a = some o
  frs : ∀ e ∈ Pv.st, FrAt W H h e
  frc : ∀ x c, env.cells.lookup x = some c → ∀ e ∈ Pv.st, e.frame ≠ some c

theorem FrR.step {X : Cx} {W W' : Wd} {H H' : Hp} {h h' : Heap} {env : Env} {Pv : Pr} {Pv' : Addr → Prop} {loc : Loc} (F : FrR X W H h env Pv loc) (S : Stp Pv' W H h W' H' h') (hp : ∀ a, Pv' a → h.get? a = none) : FrR X W' H' h' env Pv loc := by
  have kp : ∀ a, Pv.pv a → ∀ o, h.get? a = some o → ∃ o', h'.get? a = some o' ∧ SameO o o' := fun a p o e => S.keep a o e (F.priv a p).1 fun q => by rw [hp a q] at e; cases e
  have kc : ∀ x c, env.cells.lookup x = some c → ∀ o, h.get? c = some o → ∃ o', h'.get? c = some o' ∧ SameO o o' := fun x c q o e => S.keep c o e (F.cellNs x c q).2.1 fun q => by rw [hp c q] at e; cases e
  refine ⟨?_, fun i v e k => ?_, fun x ef e => ?_, F.cellEq, fun x c e => ?_, F.pvL, fun a p => ?_, fun a p => ?_, fun e he => (F.frs e he).keep fun L o es n a b c d f => ?_, F.frc⟩
  · obtain ⟨m, hn, hv⟩ := F.ns
    exact ⟨m, ns_same hn (kp _ F.pvL), fun i v e k => let ⟨cv, q, r⟩ := hv i v e k; ⟨cv, q, r.le S.le⟩⟩
  · obtain ⟨c, cv, q, r, t⟩ := F.cells i v e k
    exact ⟨c, cv, q, cell_same r (kc _ _ q), t.le S.le⟩
  · obtain ⟨c, v, q, r, t⟩ := F.hasCell x ef e
    exact ⟨c, v, q, cell_same r (kc _ _ q), t⟩
  · obtain ⟨a, b, ob, q⟩ := F.cellNs x c e
    exact ⟨a, S.own c ob q b, S.there c ob q⟩
  · obtain ⟨o, e⟩ := F.pvAt a p
    refine ⟨S.own a o e (F.priv a p).1, ?_⟩
    cases hq : W'.Z a with
    | none => rfl
    | some ob =>
      rcases S.znew a ob hq with q | q | q
      · rw [(F.priv a p).2] at q; cases q
      · exact absurd q (F.priv a p).1
      · rw [e] at q; cases q
  · obtain ⟨o, e⟩ := F.pvAt a p
    exact S.there a o e
  · obtain ⟨o', e', q⟩ := S.keep L o b d fun q => by rw [hp L q] at b; cases b
    refine ⟨⟨o', es, n, e', q.data.trans c⟩, S.own L o b d, ?_⟩
    cases hq : W'.Z L with
    | none => rfl
    | some ob =>
      rcases S.znew L ob hq with q | q | q
      · rw [f] at q; cases q
      · exact absurd q d
      · rw [b] at q; cases q

/-- storing a name of the frame's -/
theorem FrR.storeL {X : Cx} {W : Wd} {H : Hp} {h h' : Heap} {env : Env} {Pv : Pr} {loc : Loc} {i : Nat} {cv : Value} {v : V} {m : Str → Option Value} (F : FrR X W H h env Pv loc) (hn : h.Ns env.locals m)
    (hm : ∀ j v, loc j = some v → env.kindOf (X.nm j) = some .local → MmR X W m j v) (hinj : ∀ j, X.nm j = X.nm i → j = i)
    (hk : env.kindOf (X.nm i) = some .local) (hv : VR X W cv v) (hn' : h'.Ns env.locals (fun x => if x = X.nm i then some cv else m x)) (hs : Heap.SameBut env.locals h h') : FrR X W H h' env Pv (upd loc i v) := by
  refine ⟨⟨_, hn', fun j u e k => ?_⟩, fun j u e k => ?_, fun x ef e => ?_, F.cellEq, fun x c e => ?_, F.pvL, F.priv, fun a p => ?_, fun e he => (F.frs e he).keep fun L o es n a b c d f => ⟨?_, d, f⟩, F.frc⟩
  · have e' : (if j = i then some v else loc j) = some u := e
    by_cases hj : j = i
    · rw [if_pos hj] at e'; cases e'; exact ⟨cv, by rw [hj, if_pos rfl], hv⟩
    · rw [if_neg hj] at e'
      obtain ⟨cu, q, r⟩ := hm j u e' k
      exact ⟨cu, by rw [if_neg fun z => hj (hinj j z)]; exact q, r⟩
  · have e' : (if j = i then some v else loc j) = some u := e
    by_cases hj : j = i
    · subst hj; rw [hk] at k; rcases k with k | k <;> cases k
    · rw [if_neg hj] at e'
      obtain ⟨c, cu, q, r, t⟩ := F.cells j u e' k
      exact ⟨c, cu, q, r.sameBut hs (F.cellNs _ _ q).1, t⟩
  · obtain ⟨c, u, q, r, t⟩ := F.hasCell x ef e
    exact ⟨c, u, q, r.sameBut hs (F.cellNs _ _ q).1, t⟩
  · obtain ⟨a, b, o, q⟩ := F.cellNs x c e
    exact ⟨a, b, o, (hs.2 c a).trans q⟩
  · by_cases ha : a = env.locals
    · subst ha; obtain ⟨o, _, _, ho, _⟩ := hn'; exact ⟨o, ho⟩
    · obtain ⟨o, q⟩ := F.pvAt a p; exact ⟨o, (hs.2 a ha).trans q⟩
  · by_cases ha : L = env.locals
    · subst ha; obtain ⟨o', es', n', ho', hd', _⟩ := hn'; exact ⟨o', es', n', ho', hd'⟩
    · exact ⟨o, es, n, (hs.2 L ha).trans b, c⟩
theorem FrR.storeC {X : Cx} {W : Wd} {H : Hp} {h h' : Heap} {env : Env} {Pv : Pr} {loc : Loc} {i : Nat} {cv : Value} {v : V} {c : Addr} (F : FrR X W H h env Pv loc) (hinj : ∀ j, X.nm j = X.nm i → j = i)
    (hk : env.kindOf (X.nm i) = some .cell) (hc : env.cells.lookup (X.nm i) = some c) (hv : VR X W cv v) (hn' : h'.IsCell c (some cv)) (hs : Heap.SameBut c h h') : FrR X W H h' env Pv (upd loc i v) := by
  obtain ⟨m, hn, hm⟩ := F.ns
  have ne := (F.cellNs _ _ hc).1
  refine ⟨⟨m, hn.sameBut hs (Ne.symm ne), fun j u e k => ?_⟩, fun j u e k => ?_, fun x ef e => ?_, F.cellEq, fun x d e => ?_, F.pvL, F.priv, fun a p => ?_, fun e he => (F.frs e he).keep fun L o es n a b q d f => ⟨⟨o, es, n, (hs.2 L fun z => F.frc _ c hc e he (z ▸ a)).trans b, q⟩, d, f⟩, F.frc⟩
  · have e' : (if j = i then some v else loc j) = some u := e
    by_cases hj : j = i
    · subst hj; rw [hk] at k; cases k
    · rw [if_neg hj] at e'; exact hm j u e' k
  · have e' : (if j = i then some v else loc j) = some u := e
    by_cases hj : j = i
    · rw [if_pos hj] at e'; cases e'; exact ⟨c, cv, hj ▸ hc, hn', hv⟩
    · rw [if_neg hj] at e'
      obtain ⟨d, cu, q, r, t⟩ := F.cells j u e' k
      exact ⟨d, cu, q, r.sameBut hs fun z => hj (hinj j (F.cellEq _ _ d q (z ▸ hc))), t⟩
  · obtain ⟨d, u, q, r, t⟩ := F.hasCell x ef e
    by_cases hd : d = c
    · subst hd; exact ⟨d, _, q, hn', t⟩
    · exact ⟨d, u, q, r.sameBut hs hd, t⟩
  · obtain ⟨a, b, o, q⟩ := F.cellNs x d e
    refine ⟨a, b, ?_⟩
    by_cases hd : d = c
    · subst hd; obtain ⟨o', ho', _⟩ := hn'; exact ⟨o', ho'⟩
    · exact ⟨o, (hs.2 d hd).trans q⟩
  · by_cases ha : a = c
    · subst ha; obtain ⟨o', ho', _⟩ := hn'; exact ⟨o', ho'⟩
    · obtain ⟨o, q⟩ := F.pvAt a p; exact ⟨o, (hs.2 a ha).trans q⟩

/-- an exception under way; its traceback is newer than h₀ -/
noncomputable def Fly (W : Wd) (H : Hp) (h₀ h : Heap) (e : Addr) : Prop := ∃ oe vs a0, h.get? e = some oe ∧ oe.data = .fields vs ∧ vs[0]? = some a0 ∧ (vs[1]? = some .none ∨ ∃ T oT ts, vs[1]? = some (.ref T) ∧ T ≠ e ∧ h.get? T = some oT ∧ oT.data = .fields ts ∧ ts[3]? = some .none ∧ h₀.get? T = none ∧ ¬ Own W H T ∧ W.Z T = none)
theorem Fly.back {W : Wd} {H : Hp} {h₀ h₁ h : Heap} {e : Addr} (f : Fly W H h₁ h e) (t : ∀ a o, h₀.get? a = some o → ∃ o', h₁.get? a = some o') : Fly W H h₀ h e := by
  obtain ⟨oe, vs, a0, x1, x2, x3, x4⟩ := f
  refine ⟨oe, vs, a0, x1, x2, x3, x4.imp id fun y => ?_⟩
  obtain ⟨T, oT, ts, y1, y2, y3, y4, y5, y6, y7⟩ := y
  refine ⟨T, oT, ts, y1, y2, y3, y4, y5, ?_, y7⟩
  cases q : h₀.get? T with
  | none => rfl
  | some o => obtain ⟨o', e'⟩ := t T o q; rw [y6] at e'; cases e'

structure At (X : Cx) (env : Env) (Pv : Pr) (W : Wd) (σ : St) (s : Shared) : Prop where
  rel : RelH X W σ.H s.heap
  fr : FrR X W σ.H s.heap env Pv σ.loc
structure Tf (X : Cx) (env : Env) (Pv : Pr) (W : Wd) (σ : St) (s : Shared) (W' : Wd) (σ' : St) (s' : Shared) : Prop where
  stp : Stp Pv.pv W σ.H s.heap W' σ'.H s'.heap
  at_ : At X env Pv W' σ' s'
  rest : Rest s s'
theorem Tf.refl {X : Cx} {env : Env} {Pv : Pr} {W : Wd} {σ : St} {s : Shared} (a : At X env Pv W σ s) : Tf X env Pv W σ s W σ s := ⟨.refl, a, .refl _⟩
theorem Tf.trans {X : Cx} {env : Env} {Pv : Pr} {W W' W'' : Wd} {σ σ' σ'' : St} {s s' s'' : Shared} (a : Tf X env Pv W σ s W' σ' s') (b : Tf X env Pv W' σ' s' W'' σ'' s'') : Tf X env Pv W σ s W'' σ'' s'' :=
  ⟨a.stp.trans b.stp, b.at_, a.rest.trans b.rest⟩
/-- op level: nothing private -/
structure Tc (X : Cx) (W : Wd) (H : Hp) (s : Shared) (W' : Wd) (H' : Hp) (s' : Shared) : Prop where
  stp : Stp noPv W H s.heap W' H' s'.heap
  rel : RelH X W' H' s'.heap
  rest : Rest s s'
theorem Tc.refl {X : Cx} {W : Wd} {H : Hp} {s : Shared} (a : RelH X W H s.heap) : Tc X W H s W H s := ⟨.refl, a, .refl _⟩
theorem Tc.trans {X : Cx} {W W' W'' : Wd} {H H' H'' : Hp} {s s' s'' : Shared} (a : Tc X W H s W' H' s') (b : Tc X W' H' s' W'' H'' s'') : Tc X W H s W'' H'' s'' :=
  ⟨a.stp.trans b.stp, b.rel, a.rest.trans b.rest⟩
theorem Tc.tf {X : Cx} {env : Env} {Pv : Pr} {W W' : Wd} {σ : St} {H' : Hp} {s s' : Shared} (a : At X env Pv W σ s) (t : Tc X W σ.H s W' H' s') : Tf X env Pv W σ s W' ⟨H', σ.loc⟩ s' :=
  ⟨t.stp.mono fun _ z => z.elim, ⟨t.rel, a.fr.step t.stp fun _ z => z.elim⟩, t.rest⟩

/-- an exception leaves -/
inductive EXi (X : Cx) (env : Env) (Pv : Pr) (W : Wd) (σ : St) (s : Shared) (E : EP) (e : Value) (s' : Shared) : Prop
  | mk (W' : Wd) (σ' : St) (i : Nat) (l : Addr × Addr) (k : Nat) (t : Tf X env Pv W σ s W' σ' s') (he : e = .ref l.1) (hl : W'.φ i = some l) (hk : σ'.H.get i = some (.exc k)) (hf : Fly W' σ'.H s.heap s'.heap l.1) (h : E i σ')
noncomputable def EX (X : Cx) (env : Env) (Pv : Pr) (W : Wd) (σ : St) (s : Shared) (E : EP) (e : Value) (s' : Shared) : Prop :=
  EXi X env Pv W σ s E e s'
theorem EX.back {X : Cx} {env : Env} {Pv : Pr} {W W' : Wd} {σ σ' : St} {s s' s'' : Shared} {E : EP} {e : Value} (t : Tf X env Pv W σ s W' σ' s') (x : EX X env Pv W' σ' s' E e s'') : EX X env Pv W σ s E e s'' := by
  obtain ⟨W₂, σ₂, i, l, k, a, b, c, d, f, g⟩ := x
  exact ⟨W₂, σ₂, i, l, k, t.trans a, b, c, d, f.back t.stp.there, g⟩
theorem EX.no {X : Cx} {env : Env} {Pv : Pr} {W : Wd} {σ : St} {s s' : Shared} {e : Value} (x : EX X env Pv W σ s noE e s') : False := by
  obtain ⟨W₂, σ₂, i, l, k, a, b, c, d, f, g⟩ := x
  exact g

inductive Go {α : Type} (X : Cx) (env : Env) (Pv : Pr) (W : Wd) (σ : St) (s : Shared) (R : α → Wd → St → Shared → Prop) (a : α) (s' : Shared) : Prop
  | mk (W' : Wd) (σ' : St) (t : Tf X env Pv W σ s W' σ' s') (r : R a W' σ' s')
inductive GoC {α : Type} (X : Cx) (W : Wd) (H : Hp) (s : Shared) (R : α → Wd → Hp → Shared → Prop) (a : α) (s' : Shared) : Prop
  | mk (W' : Wd) (H' : Hp) (t : Tc X W H s W' H' s') (r : R a W' H' s')
inductive VQ (X : Cx) (Q : V → St → Prop) (v : Value) (W' : Wd) (σ' : St) (s' : Shared) : Prop
  | mk (av : V) (r : VR X W' v av) (h : Q av σ')
noncomputable def Ew {α : Type} (X : Cx) (A : Around) (env : Env) (Pv : Pr) (t : Sem α) (W : Wd) (σ : St) (s : Shared) (R : α → Wd → St → Shared → Prop) (E : EP) : Prop :=
  wpAny (model X.prog X.w) A t (Go X env Pv W σ s R) (EX X env Pv W σ s E) s

section
variable {α β : Type} {X : Cx} {A : Around} {env : Env} {Pv : Pr} {W : Wd} {σ : St} {s : Shared} {E : EP}
theorem Ew.from {t : Sem α} {W' : Wd} {σ' : St} {s' : Shared} {R : α → Wd → St → Shared → Prop} (T : Tf X env Pv W σ s W' σ' s') (h : Ew X A env Pv t W' σ' s' R E) :
    wpAny (model X.prog X.w) A t (Go X env Pv W σ s R) (EX X env Pv W σ s E) s' :=
  wpAny_mono h (fun _ _ ⟨W₂, σ₂, a, b⟩ => ⟨W₂, σ₂, T.trans a, b⟩) fun _ _ x => x.back T
theorem Ew.bind {m : Sem α} {f : α → Sem β} {R : β → Wd → St → Shared → Prop} (h : Ew X A env Pv m W σ s (fun a W₁ σ₁ s₁ => Ew X A env Pv (f a) W₁ σ₁ s₁ R E) E) : Ew X A env Pv (m >>= f) W σ s R E :=
  wpAny_bind (wpAny_mono h (fun _ _ ⟨_, _, T, h'⟩ => Ew.from T h') fun _ _ x => x)
theorem Ew.pure {a : α} {R : α → Wd → St → Shared → Prop} (at_ : At X env Pv W σ s) (h : R a W σ s) : Ew X A env Pv (pure a) W σ s R E := wpAny_pure ⟨W, σ, .refl at_, h⟩
theorem Ew.mono {t : Sem α} {R R' : α → Wd → St → Shared → Prop} (h : Ew X A env Pv t W σ s R E) (hr : ∀ a W' σ' s', At X env Pv W' σ' s' → R a W' σ' s' → R' a W' σ' s') : Ew X A env Pv t W σ s R' E :=
  wpAny_mono h (fun _ _ ⟨W', σ', T, r⟩ => ⟨W', σ', T, hr _ _ _ _ T.at_ r⟩) fun _ _ x => x
/-- a transition is known -/
theorem Ew.bindT {m : Sem α} {f : α → Sem β} {R : β → Wd → St → Shared → Prop} (h : Ew X A env Pv m W σ s (fun a W₁ σ₁ s₁ => At X env Pv W₁ σ₁ s₁ → Wd.Le W W₁ → Ew X A env Pv (f a) W₁ σ₁ s₁ R E) E) : Ew X A env Pv (m >>= f) W σ s R E :=
  wpAny_bind (wpAny_mono h (fun _ _ ⟨_, _, T, h'⟩ => Ew.from T (h' T.at_ T.stp.le)) fun _ _ x => x)
theorem Ew.holding {vs : List Value} {m : Sem α} {R : α → Wd → St → Shared → Prop} (h : Ew X A env Pv m W σ s R E) : Ew X A env Pv (holding vs m) W σ s R E := wpAny_holding h
theorem Ew.standAt {pos : Pos} {f : Unit → Sem β} {R : β → Wd → St → Shared → Prop} (h : Ew X A env Pv (f ()) W σ s R E) : Ew X A env Pv (standAt pos >>= f) W σ s R E := wpAny_bind (wpAny_standAt h)
theorem Ew.rule {tag : String} {f : Unit → Sem β} {R : β → Wd → St → Shared → Prop} (h : Ew X A env Pv (f ()) W σ s R E) : Ew X A env Pv (rule tag >>= f) W σ s R E := wpAny_bind (wpAny_rule h)
theorem Ew.operate {vs : List Value} {m : Sem Value} {R : Value → Wd → St → Shared → Prop} (h : Ew X A env Pv m W σ s R E) : Ew X A env Pv (operate vs m) W σ s R E := by
  intro Γ p hΓ
  rw [Sem.wp_operate]; exact h Γ p hΓ

/-- an operation of the level below -/
noncomputable def Ow (X : Cx) (A : Around) (t : Sem α) (W : Wd) (H : Hp) (s : Shared) (R : α → Wd → Hp → Shared → Prop) : Prop :=
  ∀ E : Value → Shared → Prop, wpAny (model X.prog X.w) A t (GoC X W H s R) E s
theorem Ow.ew {t : Sem α} {R : α → Wd → St → Shared → Prop} (at_ : At X env Pv W σ s) (h : Ow X A t W σ.H s (fun a W' H' s' => R a W' ⟨H', σ.loc⟩ s')) : Ew X A env Pv t W σ s R E :=
  wpAny_mono (h _) (fun _ _ ⟨W', H', T, r⟩ => ⟨W', ⟨H', σ.loc⟩, T.tf at_, r⟩) fun _ _ x => x
theorem Ow.bind {H : Hp} {m : Sem α} {f : α → Sem β} {R : β → Wd → Hp → Shared → Prop} (h : Ow X A m W H s (fun a W₁ H₁ s₁ => Ow X A (f a) W₁ H₁ s₁ R)) : Ow X A (m >>= f) W H s R :=
  fun E => wpAny_bind (wpAny_mono (h E) (fun _ _ ⟨_, _, T, h'⟩ => wpAny_mono (h' E) (fun _ _ ⟨W₂, H₂, a, b⟩ => ⟨W₂, H₂, T.trans a, b⟩) fun _ _ x => x) fun _ _ x => x)
theorem Ow.pure {H : Hp} {a : α} {R : α → Wd → Hp → Shared → Prop} (r : RelH X W H s.heap) (h : R a W H s) : Ow X A (pure a) W H s R := fun _ => wpAny_pure ⟨W, H, .refl r, h⟩
/-- the heap stays -/
theorem Ow.same {H : Hp} {t : Sem α} {R : α → Wd → Hp → Shared → Prop} (r : RelH X W H s.heap)
    (h : ∀ E : Value → Shared → Prop, wpAny (model X.prog X.w) A t (fun a s' => (∃ tk, s' = { s with toks := tk }) ∧ R a W H s') E s) : Ow X A t W H s R :=
  fun E => wpAny_mono (h E) (fun _ _ ⟨⟨tk, e⟩, q⟩ => ⟨W, H, by subst e; exact ⟨.refl, r, ⟨rfl, rfl, rfl⟩⟩, q⟩) fun _ _ x => x
/-- a new frozen object -/
theorem Tc.frozen {H : Hp} {a : Addr} {o : Obj} {h' : Heap} {tk : Nat} (r : RelH X W H s.heap) (hk : ∀ b ob, s.heap.get? b = some ob → h'.get? b = some ob) (hn : s.heap.get? a = none) (ha : h'.get? a = some o) :
    Tc X W H s (W.addZ a o) H { s with heap := h', toks := tk } := let ⟨x, y⟩ := r.frozen hk hn ha; ⟨y, x, ⟨rfl, rfl, rfl⟩⟩
theorem push_none (h : Heap) : h.get? h.objs.size = none := by
  cases q : h.get? h.objs.size with
  | none => rfl
  | some o => exact absurd (Heap.lt_size q) (Nat.lt_irrefl _)
theorem Tc.pushZ {H : Hp} {o : Obj} {tk : Nat} (r : RelH X W H s.heap) (hf : o.isFreed = false) : Tc X W H s (W.addZ s.heap.objs.size o) H { s with heap := s.heap.push o, toks := tk } :=
  Tc.frozen r (fun _ _ e => Heap.get?_push_of_some _ e) (push_none _) (Heap.get?_push_size _ hf)
theorem addZ_self {a : Addr} {o : Obj} : (W.addZ a o).Z a = some o := by show (if a = a then some o else W.Z a) = some o; rw [if_pos rfl]
theorem addφ_self {i : Nat} {l : Addr × Addr} : (W.addφ i l).φ i = some l := by show (if i = i then some l else W.φ i) = some l; rw [if_pos rfl]
end
end Mine

end

section
set_option autoImplicit false
set_option linter.all false
set_option genSizeOf false
set_option genInjectivity false
namespace Mine
open PySem PySem.W PySem.Calls PyProof.Rows

theorem need_e {α : Type} {o : Option α} {k : α → Prop} {G : Prop} (h : need o k) (g : ∀ a, o = some a → k a → G) : G := by
  cases o with
  | none => exact h.elim
  | some a => exact g a rfl h
theorem need_i {α : Type} {o : Option α} {a : α} {k : α → Prop} (e : o = some a) (h : k a) : need o k := by subst e; exact h
theorem Br_e {b : Bool} {t e G : Prop} (h : Br b t e) (g1 : b = true → t → G) (g2 : b = false → e → G) : G := by
  cases b with
  | true => exact g1 rfl h
  | false => exact g2 rfl h

section
variable {X : Cx} {W : Wd} {H : Hp}
/-- a value as it is seen in the heap -/
inductive Sn (X : Cx) (W : Wd) (h : Heap) : Value → V → Prop
  | none : Sn X W h .none .none
  | bool (b : Bool) : Sn X W h (.bool b) (.bool b)
  | int (i : Int) (t : Tok) : Sn X W h (.int i t) (.int i)
  | str (s : Str) (t : Tok) (o : PyData.strOk s = true) (z : s.length ≤ SZ) : Sn X W h (.str s t) (.str s)
  | tup {a : Addr} {vs : Array Value} {n : Nat} {xs : List V} (g : h.get? a = some (tupO vs n)) (r : VRs X W vs.toList xs) (q : xs.length ≤ SZ) (z : vs.size = xs.length) : Sn X W h (.ref a) (.tup xs)
  | lst {a : Addr} {vs : Array Value} {n : Nat} {xs : List V} (g : h.get? a = some (lstO vs n)) (r : VRs X W vs.toList xs) (q : xs.length ≤ SZ) (z : vs.size = xs.length) : Sn X W h (.ref a) (.lst xs)
  | rng {r : Addr} {a b c : Int} {t u v : Tok} (g : h.get? r = some { cls := .type "range", dict := none, data := .fields #[.int a t, .int b u, .int c v], slots := #[] }) (p : a.natAbs ≤ SZ) (q : b.natAbs ≤ SZ) (hc : c = 1 ∨ c = -1) : Sn X W h (.ref r) (.rng a b c)
theorem VRs.toArr {vs : Array Value} {xs : List V} (h : VRs X W vs.toList xs) : vs.size = xs.length := by rw [← h.length, Array.length_toList]
/-- where a cell lies -/
theorem RelH.at_ {h : Heap} (R : RelH X W H h) {i : Nat} {c : C} {l : Addr × Addr} (hi : H.get i = some c) (hl : W.φ i = some l) : CellAt X W h l c := by
  obtain ⟨l', hl', q⟩ := R.cell i c hi
  exact Option.some.inj (hl'.symm.trans hl) ▸ q
theorem mL_e {o : Option (List V)} {v : V} (h : mL o = some v) : ∃ a, o = some a ∧ v = .lst a := by
  cases o with
  | none => cases h
  | some a => exact ⟨a, rfl, (Option.some.inj h).symm⟩
theorem cL_e {o : Option C} {xs : List V} (h : cL o = some xs) : o = some (.list xs) := by
  cases o with
  | none => cases h
  | some c =>
    cases c with
    | list ys => exact congrArg (some ∘ C.list) (Option.some.inj h)
    | _ => cases h
theorem cD_e {o : Option C} {xs : List (V × V)} (h : cD o = some xs) : o = some (.dict xs) := by
  cases o with
  | none => cases h
  | some c =>
    cases c with
    | dict ys => exact congrArg (some ∘ C.dict) (Option.some.inj h)
    | _ => cases h
theorem cI_e {o : Option C} {t : Nat × List (Nat × V)} (h : cI o = some t) : o = some (.inst t.1 t.2) := by
  cases o with
  | none => cases h
  | some c =>
    cases c with
    | inst k fs => rw [← Option.some.inj h]
    | _ => cases h
theorem cE_e {o : Option C} {k : Nat} (h : cE o = some k) : o = some (.exc k) := by
  cases o with
  | none => cases h
  | some c =>
    cases c with
    | exc k => exact congrArg (some ∘ C.exc) (Option.some.inj h)
    | _ => cases h
theorem see_ok {h : Heap} (R : RelH X W H h) {v : Value} {x y : V} (r : VR X W v x) (e : see H x = some y) : Sn X W h v y := by
  cases r with
  | none => cases e; exact .none
  | bool b => cases e; exact .bool b
  | int i t => cases e; exact .int i t
  | str s t o z => cases e; exact .str s t o z
  | tup z r q => cases e; exact .tup (R.z _ _ z) r q r.toArr
  | lst z r q => cases e; exact .lst (R.z _ _ z) r q r.toArr
  | rng z p q c => cases e; exact .rng (R.z _ _ z) p q c
  | ref hl =>
    obtain ⟨xs, e', rfl⟩ := mL_e e
    obtain ⟨vs, n, g, r, _, z⟩ := R.at_ (cL_e e') hl
    exact .lst g r z r.toArr
  | _ => cases e
theorem aRef_e {v : Value} {x : V} {i : Nat} (r : VR X W v x) (e : aRef x = some i) {G : Prop} (g : ∀ l, v = .ref l.1 → W.φ i = some l → x = .ref i → G) : G := by
  cases x with
  | ref j => cases e; cases r with | ref hl => exact g _ rfl hl rfl
  | _ => cases e

section
variable {h : Heap} {v : Value}
theorem Sn.toInt {x : V} {i : Int} (r : Sn X W h v x) (e : aInt x = some i) : ∃ t, v = .int i t := by
  cases r with
  | int i t => exact ⟨t, Option.some.inj e ▸ rfl⟩
  | _ => cases e
theorem Sn.toStr {x : V} {s : Str} (r : Sn X W h v x) (e : aStr x = some s) : ∃ t, v = .str s t ∧ PyData.strOk s = true ∧ s.length ≤ SZ := by
  cases r with
  | str s t o z => cases e; exact ⟨t, rfl, o, z⟩
  | _ => cases e
theorem Sn.toBool {x : V} {b : Bool} (r : Sn X W h v x) (e : aBool x = some b) : v = .bool b := by
  cases r with
  | bool b => cases e; rfl
  | _ => cases e
/-- a sequence in the heap -/
inductive SqL (X : Cx) (W : Wd) (h : Heap) (v : Value) (xs : List V) : Prop
  | mk (a : Addr) (vs : Array Value) (n : Nat) (e : v = .ref a) (g : h.get? a = some (lstO vs n)) (r : VRs X W vs.toList xs) (q : xs.length ≤ SZ) (z : vs.size = xs.length)
inductive SqT (X : Cx) (W : Wd) (h : Heap) (v : Value) (xs : List V) : Prop
  | mk (a : Addr) (vs : Array Value) (n : Nat) (e : v = .ref a) (g : h.get? a = some (tupO vs n)) (r : VRs X W vs.toList xs) (q : xs.length ≤ SZ) (z : vs.size = xs.length)
theorem Sn.toLst {x : V} {xs : List V} (r : Sn X W h v x) (e : aLst x = some xs) : SqL X W h v xs := by
  cases r with
  | lst g r q z => cases e; exact ⟨_, _, _, rfl, g, r, q, z⟩
  | _ => cases e
theorem Sn.toTup {x : V} {xs : List V} (r : Sn X W h v x) (e : aTup x = some xs) : SqT X W h v xs := by
  cases r with
  | tup g r q z => cases e; exact ⟨_, _, _, rfl, g, r, q, z⟩
  | _ => cases e
end

theorem sz63 {n : Nat} (h : n ≤ SZ) : (n : Int) < 2 ^ 63 := Int.lt_of_le_of_lt (Int.ofNat_le.mpr h) (by decide)
theorem szLine {n : Nat} (h : n ≤ SZ) : n ≤ sizeLine := Nat.le_trans h (by decide)
theorem isList_of {h : Heap} {a : Addr} {vs : Array Value} {n : Nat} (e : h.get? a = some (lstO vs n)) : h.IsList a vs := ⟨_, e, rfl, _, rfl⟩
theorem isTup_of {h : Heap} {a : Addr} {vs : Array Value} {n : Nat} (e : h.get? a = some (tupO vs n)) : IsTup h a vs := ⟨_, e, rfl, _, rfl⟩
end

/-! the answers of operations -/
section
variable {X : Cx} {A : Around} {W : Wd} {H : Hp} {s : Shared} {E : Value → Shared → Prop}
/-- the answer of an operation: a value, or a new list -/
noncomputable def Res (X : Cx) (fz : Bool) (H : Hp) (r : LV) (v : Value) (W' : Wd) (H' : Hp) : Prop := match r with
  | .val x => VR X W' v x ∧ H' = H
  | .newList xs => match fz with
    | true => VR X W' v (.lst xs) ∧ H' = H
    | false => VR X W' v (.ref H.next) ∧ H' = H.new (.list xs)
/-- what an operation leads to -/
structure OpQ (X : Cx) (fz : Bool) (W : Wd) (H : Hp) (s : Shared) (k : LV → Prop) (Q : Value → Shared → Prop) : Prop where
  out : ∀ r v' s' W' H', Tc X W H s W' H' s' → Res X fz H r v' W' H' → k r → Q v' s'
  sz : ∀ xs, k (.newList xs) → xs.length ≤ SZ
section
variable {fz : Bool} {k : LV → Prop} {Q : Value → Shared → Prop} (o : OpQ X fz W H s k Q) (R : RelH X W H s.heap)
include o R
theorem OpQ.val {x : V} {v : Value} {tk : Nat} (hv : VR X W v x) (h : k (.val x)) : Q v { s with toks := tk } := o.out (.val x) v _ W H ⟨.refl, R, ⟨rfl, rfl, rfl⟩⟩ ⟨hv, rfl⟩ h
/-- more objects, of no account -/
theorem OpQ.more {x : V} {v : Value} {h' : Heap} {tk : Nat} (hk : ∀ b ob, s.heap.get? b = some ob → h'.get? b = some ob) (hv : VR X W v x) (h : k (.val x)) : Q v { s with heap := h', toks := tk } :=
  o.out (.val x) v _ W H ⟨.quiet (fun a o q _ => hk a o q) fun a o q => ⟨o, hk a o q⟩, R.quiet (Pv := noPv) (fun a o q _ => hk a o q) fun _ z => z.elim, ⟨rfl, rfl, rfl⟩⟩ ⟨hv, rfl⟩ h
/-- a new list at a new place -/
theorem OpQ.list {vs : Array Value} {n : Nat} {xs : List V} {h' : Heap} {tk : Nat} {a : Addr} (hv : VRs X W vs.toList xs) (hk : ∀ b ob, s.heap.get? b = some ob → h'.get? b = some ob) (hn : s.heap.get? a = none) (ha : h'.get? a = some (lstO vs n)) (h : k (.newList xs)) : Q (.ref a) { s with heap := h', toks := tk } := by
  have hz := o.sz _ h
  cases fz with
  | true => exact o.out (.newList xs) _ _ _ _ (Tc.frozen R hk hn ha) ⟨.lst addZ_self (hv.le (R.leZ hn)) hz, rfl⟩ h
  | false =>
    obtain ⟨r, t⟩ := R.fresh (l := (a, a)) (c := .list xs) hk hn hn ⟨vs, n, ha, hv.le R.leF, rfl, hz⟩
    exact o.out (.newList xs) _ _ _ _ ⟨t, r, ⟨rfl, rfl, rfl⟩⟩ ⟨VR.ref (l := (a, a)) addφ_self, rfl⟩ h
theorem OpQ.push {vs : Array Value} {n : Nat} {xs : List V} {tk : Nat} (hv : VRs X W vs.toList xs) (h : k (.newList xs)) : Q (.ref s.heap.objs.size) { s with heap := s.heap.push (lstO vs n), toks := tk } :=
  o.list R hv (fun _ _ e => Heap.get?_push_of_some _ e) (push_none _) (Heap.get?_push_size _ rfl) h
/-- a new frozen object -/
theorem OpQ.fro {x : V} {ob : Obj} {h' : Heap} {tk : Nat} {a : Addr} (hk : ∀ b ob, s.heap.get? b = some ob → h'.get? b = some ob) (hn : s.heap.get? a = none) (ha : h'.get? a = some ob) (hv : VR X (W.addZ a ob) (.ref a) x) (h : k (.val x)) : Q (.ref a) { s with heap := h', toks := tk } :=
  o.out (.val x) _ _ _ _ (Tc.frozen R hk hn ha) ⟨hv, rfl⟩ h
end
theorem strOk_append {a b : Str} (ha : PyData.strOk a = true) (hb : PyData.strOk b = true) : PyData.strOk (a ++ b) = true := by
  unfold PyData.strOk at *
  rw [Array.all_eq_true] at *
  rw [show (a ++ b).cps = a.cps ++ b.cps from rfl]
  intro i hi
  rw [Array.getElem_append]
  split
  · exact ha i _
  · exact hb _ _
theorem len_append (a b : Str) : (a ++ b).length = a.length + b.length := by
  show (a.cps ++ b.cps).size = _
  rw [Array.size_append]; rfl

theorem isEmpty_len {vs : Array Value} {xs : List V} (z : vs.size = xs.length) : vs.isEmpty = xs.isEmpty := by
  show decide (vs.size = 0) = _
  rw [z]
  cases xs <;> rfl
theorem decide_bne {i : Int} : decide (i ≠ 0) = (i != 0) := by
  by_cases h : i = 0
  · subst h; rfl
  · rw [decide_eq_true h]; exact (bne_iff_ne.mpr h).symm
theorem truth_ok {v : Value} {x y : V} {k : Bool → Prop} {Q : Bool → Shared → Prop} (R : RelH X W H s.heap) (hv : VR X W v x) (e : truK H x k) (h : ∀ b tk, k b → Q b { s with toks := tk }) : wpAny (model X.prog X.w) A (truthy v) Q E s := by
  refine need_e e fun y ey e => ?_
  cases see_ok R hv ey with
  | none => exact truthy_none (h _ s.toks e)
  | bool c => exact wpAny_truthy_bool (h _ s.toks e)
  | int i t => exact truthy_int (decide_bne ▸ h _ s.toks e)
  | str t u ok z =>
    refine P.truthy_str (Int.not_le.mpr (sz63 z)) ?_
    have : (decide (t.length ≠ 0)) = (((t.length : Nat) : Int) != 0) := by rw [← decide_bne]; exact decide_eq_decide.mpr (by omega)
    exact this ▸ h _ (s.toks + 1 + 1) e
  | tup g r q z =>
    refine truthy_tuple (isTup_of g) (by rw [z]; exact sz63 q) ?_
    rw [isEmpty_len z]; exact h _ _ e
  | lst g r q z =>
    refine wpAny_truthy_list (isList_of g) (by rw [z]; exact sz63 q) ?_
    rw [isEmpty_len z]; exact h _ _ e
  | _ => exact e.elim
noncomputable def opOf : BOp → Operator
  | .add => .Add
  | .sub => .Sub
  | .mul => .Mult
  | .fdiv => .FloorDiv
  | .mod => .Mod
  | .pow => .Pow
  | .bor => .BitOr
noncomputable def cmpOf : COp → CmpOp
  | .eq => .Eq
  | .ne => .NotEq
  | .lt => .Lt
  | .le => .LtE
  | .gt => .Gt
  | .ge => .GtE
  | .isIn => .In
  | .notIn => .NotIn
  | .is => .Is
  | .isNot => .IsNot
theorem nsome {α : Type} {a : α} {p : Prop} (h : (none : Option α) = some a) : p := by cases h

theorem rep_arr (items : Array Value) (k : Nat) : ∀ acc : Array Value, (List.foldl (fun x1 x2 => x1 ++ x2) acc (List.replicate k items)).toList = acc.toList ++ (List.replicate k items.toList).flatten := by
  induction k with
  | zero => intro acc; simp
  | succ k ih => intro acc; rw [List.replicate_succ, List.foldl_cons, ih, List.replicate_succ, List.flatten_cons, Array.toList_append, List.append_assoc]
theorem VRs.rep {vs : List Value} {xs : List V} (h : VRs X W vs xs) (k : Nat) : VRs X W (List.replicate k vs).flatten (repL xs k) := by
  induction k with
  | zero => exact .nil
  | succ k ih => rw [List.replicate_succ, List.flatten_cons]; exact h.append ih
theorem rep_nil (k : Nat) : repL [] k = [] := by
  induction k with
  | zero => rfl
  | succ k ih => exact ih
theorem repS_fold (x : Str) (k : Nat) : ∀ acc : Array Nat, (List.replicate k x.cps).foldl (· ++ ·) acc = acc ++ (repS x k).cps := by
  induction k with
  | zero => intro acc; show acc = acc ++ #[]; rw [Array.append_empty]
  | succ k ih => intro acc; rw [List.replicate_succ, List.foldl_cons, ih, Array.append_assoc]; rfl
theorem repS_len (x : Str) (k : Nat) : (repS x k).length = x.length * k := by
  induction k with
  | zero => rfl
  | succ k ih => rw [show repS x (k + 1) = x ++ repS x k from rfl, len_append, ih, Nat.mul_succ, Nat.add_comm]
theorem repS_ok {x : Str} (h : PyData.strOk x = true) (k : Nat) : PyData.strOk (repS x k) = true := by
  induction k with
  | zero => exact (by decide +kernel : PyData.strOk Str.empty = true)
  | succ k ih => exact strOk_append h ih
theorem str_ext {a b : Str} (h : a.cps = b.cps) : a = b := by cases a; cases b; exact congrArg Str.mk h
theorem repS_nil {x : Str} (h : x.length = 0) (k : Nat) : repS x k = x := by
  have e : x.cps = #[] := Array.eq_empty_of_size_eq_zero h
  induction k with
  | zero => exact (str_ext e).symm
  | succ k ih =>
    show x ++ repS x k = x
    rw [ih]
    apply str_ext
    show x.cps ++ x.cps = x.cps
    rw [e]; rfl
theorem txt_mul {x : Str} {n : Int} (h : 0 ≤ n) : Txt.mul x n = repS x n.toNat := by
  unfold Txt.mul
  by_cases h1 : n < 1
  · rw [if_pos h1, show n.toNat = 0 by omega]; rfl
  · rw [if_neg h1]
    by_cases h2 : (n == 1 || x.length == 0) = true
    · rw [if_pos h2]
      rcases Bool.or_eq_true_iff.mp h2 with q | q
      · rw [beq_iff_eq.mp q]; exact (str_ext (by show x.cps ++ #[] = x.cps; rw [Array.append_empty])).symm
      · exact (repS_nil (beq_iff_eq.mp q) _).symm
    · rw [if_neg h2]; exact str_ext ((repS_fold x n.toNat #[]).trans (Array.empty_append ..))
theorem mulStr_ok {i : Str} {t u : Tok} {n : Int} {fz : Bool} {k : LV → Prop} {Q : Value → Shared → Prop} (o : OpQ X fz W H s k Q) (R : RelH X W H s.heap) (o1 : PyData.strOk i = true) (e : Nd (0 ≤ n ∧ n ≤ 1048576 ∧ i.length * n.toNat ≤ SZ) (k (.val (.str (repS i n.toNat))))) :
    wpAny (model X.prog X.w) A (binaryOp .Mult (.str i t) (.int n u)) Q E s := by
  obtain ⟨⟨h0, h1, h2⟩, e⟩ := e
  refine SB.mul ⟨by rw [decide_eq_false (by omega), decide_eq_false (by omega)]; rfl, fun hn _ q => ?_, fun _ _ => ?_⟩ fun t' k => by
    rw [txt_mul h0]; exact o.val R (.str _ _ (repS_ok o1 _) (by rw [repS_len]; exact h2)) e
  · have hl : i.length ≤ SZ := Nat.le_trans (Nat.le_mul_of_pos_right _ (by omega)) h2
    have : (2 ^ 63 - 1 : Int) / 1048576 ≤ (2 ^ 63 - 1) / n := by
      rw [Int.le_ediv_iff_mul_le (by omega)]
      exact Int.le_trans (Int.mul_le_mul_of_nonneg_left h1 (by decide)) (by decide)
    have h3 : (1048576 : Int) ≤ (2 ^ 63 - 1) / 1048576 := by decide
    unfold SZ at hl
    omega
  · unfold Builtin.Str.tooLong
    exact decide_eq_false (Nat.not_lt.mpr (szLine h2))
section
variable {a b : Value} {x y : V} {fz : Bool} {k : LV → Prop} {Q : Value → Shared → Prop} (o : OpQ X fz W H s k Q) (R : RelH X W H s.heap) (ha : Sn X W s.heap a x) (hb : Sn X W s.heap b y)
include o R ha hb
theorem add_ok (e : addK x y k) : wpAny (model X.prog X.w) A (binaryOp .Add a b) Q E s := by
  cases ha with
  | int i t => exact need_e e fun j ej e => (hb.toInt ej).elim fun u q => q ▸ add_int (o.val R (.int ..) e)
  | str i t o1 z1 => exact need_e e fun j ej e => (hb.toStr ej).elim fun u q => q.1 ▸ PyProof.Rows.add_str (fun t' tk => o.val R (.str _ _ (strOk_append o1 q.2.1) (by rw [len_append]; exact e.1)) e.2) (szLine e.1)
  | @lst l vs n xs g r q z =>
    refine need_e e fun ys ey e => ?_
    obtain ⟨l2, vs2, n2, rfl, g2, r2, q2, z2⟩ := hb.toLst ey
    have hz' : vs.size + vs2.size ≤ sizeLine := by rw [z, z2, ← List.length_append]; exact szLine (o.sz _ e)
    exact concat_meets ⟨_, g, rfl⟩ ⟨_, g2, rfl⟩ noFill_list_add seq_list_add PySem.F.slot_list_add PySem.F.entry_list_add (PySem.F.args_list_add_2 _ _) (list_addW l l2 vs vs2 n n2 none none #[] #[] hz') ⟨g, g2, o.push (vs := vs ++ vs2) R (by rw [Array.toList_append]; exact r.append r2) e⟩
  | _ => exact e.elim
theorem mul_ok (e : mulK x y k) : wpAny (model X.prog X.w) A (binaryOp .Mult a b) Q E s := by
  cases ha with
  | int i t => exact need_e e fun j ej e => (hb.toInt ej).elim fun u q => q ▸ PyProof.Rows.mul_int (o.val R (.int ..) e.2) (e.1.elim (fun h => IntMulOk.of_left (intBits_le_64 (by omega) (by omega))) fun h => IntMulOk.of_right (intBits_le_64 (by omega) (by omega)))
  | @lst l vs n xs hl hv q z =>
    refine need_e e fun i ei e => (hb.toInt ei).elim fun u eu => ?_
    subst eu
    obtain ⟨⟨h0, h01, h1⟩, e⟩ := e
    have hs : vs.size * i.toNat ≤ 1048576 := by rw [z]; exact h1
    refine wpAny_binaryOp_repeat_ref (T := "list") (U := "int") (by decide) ⟨_, hl, rfl⟩ (fun s' => typeIs_int s' i u) noFill_list_mul PySem.F.fills_int_mul PySem.F.slot_int_rmul repeat_list PySem.F.slot_int_index.lookup
      (call_meets PySem.F.slot_int_rmul (typeIs_int s i u) PySem.F.entry_int_rmul (PySem.F.args_int_rmul_2 _ _) (int___rmul___int_list i u l vs n)
        ⟨hl, rfl, ⟨_, hl, rfl⟩, call_meets PySem.F.slot_list_mul ⟨_, hl, rfl⟩ PySem.F.entry_list_mul (PySem.F.args_list_mul_2 _ _)
          (AutoListH.list___mul___list_int_3 l vs n i u (by simp [Builtin.List.listFitsIndex]; omega) (by omega) (by simp [Builtin.List.listTooLong, sizeLine]; omega)) ⟨hl, ?_⟩⟩)
    refine o.push R (xs := repL xs i.toNat) ?_ e
    rw [rep_arr]
    by_cases c : vs.isEmpty = true
    · rw [if_pos c]
      have : vs = #[] := Array.isEmpty_iff.mp c
      subst this
      cases hv
      rw [rep_nil]
      exact .nil
    · rw [if_neg c]
      exact hv.rep i.toNat
  | str i t o1 z1 => exact need_e e fun n en e => (hb.toInt en).elim fun u q => q ▸ mulStr_ok o R o1 e
  | _ => exact e.elim
theorem bin_ok {op : BOp} (e : binK op x y k) : wpAny (model X.prog X.w) A (binaryOp (opOf op) a b) Q E s := by
  cases op with
  | add => exact add_ok o R ha hb e
  | mul => exact mul_ok o R ha hb e
  | bor => exact e.elim
  | sub => exact need_e e fun i ei e => need_e e fun j ej e => (ha.toInt ei).elim fun t q => (hb.toInt ej).elim fun u q' => q ▸ q' ▸ sub_int (o.val R (.int ..) e)
  | fdiv => exact need_e e fun i ei e => need_e e fun j ej e => (ha.toInt ei).elim fun t q => (hb.toInt ej).elim fun u q' => q ▸ q' ▸ floordiv_int e.1.1 (o.val R (.int ..) e.2) (.inl (PyProof.noPylong_small (Nat.lt_of_lt_of_le e.1.2 (by decide))))
  | mod => exact need_e e fun i ei e => need_e e fun j ej e => (ha.toInt ei).elim fun t q => (hb.toInt ej).elim fun u q' => q ▸ q' ▸ mod_int' e.1 (o.val R (.int ..) e.2)
  | pow =>
    refine need_e e fun i ei e => need_e e fun j ej e => (ha.toInt ei).elim fun t q => (hb.toInt ej).elim fun u q' => ?_
    subst q q'
    refine pow_int e.1.1 ?_ (o.val R (.int ..) e.2)
    have h64 : Builtin.Int.intBits i ≤ 64 := intBits_le_64 (by have := e.1; omega) (by have := e.1; omega)
    exact Int.le_trans (Int.mul_le_mul (Int.ofNat_le.mpr h64) e.1.2.1 e.1.1 (by decide)) (by decide)
end
end
end Mine

end

section
set_option autoImplicit false
set_option linter.all false
set_option genSizeOf false
set_option genInjectivity false
namespace Mine
open PySem PySem.W PySem.Calls PyProof.Rows

/-! data -/
mutual
noncomputable def toPy : V → PyData
  | .bool b => .bool b
  | .int i => .int i
  | .str s => .str s
  | .tup xs => .tuple (toPys xs)
  | .lst xs => .list (toPys xs)
  | _ => .none
noncomputable def toPys : List V → List PyData
  | [] => []
  | x :: r => toPy x :: toPys r
end
mutual
noncomputable def isD : V → Bool
  | .none => true
  | .bool _ => true
  | .int _ => true
  | .str _ => true
  | .tup xs => isDs xs
  | .lst xs => isDs xs
  | _ => false
noncomputable def isDs : List V → Bool
  | [] => true
  | x :: r => isD x && isDs r
end
theorem beq_dec {α : Type} [DecidableEq α] {a b : α} : (a == b) = decide (a = b) := by
  by_cases h : a = b
  · rw [decide_eq_true h, h]; exact beq_self_eq_true _
  · rw [decide_eq_false h]; exact beq_false_of_ne h
mutual
theorem eqD_eqv : ∀ x y : V, isD x = true → isD y = true → eqD x y = PyData.eqv (toPy x) (toPy y)
  | .none, y, _, h => by cases y <;> first | rfl | cases h
  | .bool a, y, _, h => by cases y <;> first | rfl | exact beq_dec.symm | (cases a <;> exact beq_dec.symm) | (cases h; done)
  | .int a, y, _, h => by cases y <;> first | rfl | exact beq_dec.symm | (rename_i b; cases b <;> exact beq_dec.symm) | (cases h; done)
  | .str a, y, _, h => by cases y <;> first | rfl | exact beq_dec.symm | cases h
  | .tup a, y, hx, h => by cases y <;> first | exact eqDs_eqv a _ hx h | rfl | cases h
  | .lst a, y, hx, h => by cases y <;> first | exact eqDs_eqv a _ hx h | rfl | cases h
  | .rng _ _ _, _, h, _ => by cases h
  | .ref _, _, h, _ => by cases h
  | .bt _, _, h, _ => by cases h
  | .fn _, _, h, _ => by cases h
  | .cls _, _, h, _ => by cases h
theorem eqDs_eqv : ∀ x y : List V, isDs x = true → isDs y = true → eqDs x y = PyData.eqvAll (toPys x) (toPys y)
  | [], y, _, _ => by cases y <;> rfl
  | a :: r, y, hx, hy => by
    cases y with
    | nil => rfl
    | cons b t =>
      have hx := Bool.and_eq_true_iff.mp hx
      have hy := Bool.and_eq_true_iff.mp hy
      exact (congrArg (· && eqDs r t) (eqD_eqv a b hx.1 hy.1)).trans (congrArg (PyData.eqv (toPy a) (toPy b) && ·) (eqDs_eqv r t hx.2 hy.2))
end
theorem reads_tuple' {h : Heap} {a : Addr} {vs : Array Value} {n : Nat} {xs : List PyData} {as : List Addr} (e : h.get? a = some (tupO vs n)) (r : ReadsAll h vs.toList xs as) : Reads h (.ref a) (.tuple xs) as := .tuple e rfl rfl r
theorem reads_list' {h : Heap} {a : Addr} {vs : Array Value} {n : Nat} {xs : List PyData} {as : List Addr} (e : h.get? a = some (lstO vs n)) (r : ReadsAll h vs.toList xs as) : Reads h (.ref a) (.list xs) (a :: as) := .list e rfl rfl r
section
variable {X : Cx} {W : Wd} {H : Hp} {h : Heap}
inductive Dt (h : Heap) (n : Nat) (v : Value) (y : V) : Prop
  | mk (as : List Addr) (rd : Reads h v (toPy y) as) (lay : (toPy y).canLay0 = true) (dp : (toPy y).depth ≤ n) (d : isD y = true)
inductive Dts (h : Heap) (n : Nat) (vs : List Value) (ys : List V) : Prop
  | mk (as : List Addr) (rd : ReadsAll h vs (toPys ys) as) (lay : PyData.canLayAll0 (toPys ys) = true) (dp : PyData.depthAll (toPys ys) ≤ n) (d : isDs ys = true)
theorem deepL_cons {f : V → Option V} {x : V} {r ys : List V} {G : Prop} (h : deepL f (x :: r) = some ys) (g : ∀ y zs, f x = some y → deepL f r = some zs → ys = y :: zs → G) : G := by
  have h : (match f x with | some y => (match deepL f r with | some ys => some (y :: ys) | none => none) | none => none) = some ys := h
  generalize f x = p at h g
  cases p with
  | none => cases h
  | some v =>
    generalize deepL f r = q at h g
    cases q with
    | none => cases h
    | some ws => exact g v ws rfl rfl (Option.some.inj h).symm
theorem deepL_data {f : V → Option V} {n : Nat} (hf : ∀ v x y, VR X W v x → f x = some y → Dt h n v y) {vs : List Value} {xs : List V} (r : VRs X W vs xs) {ys : List V} (e : deepL f xs = some ys) : Dts h n vs ys :=
  VRs.ind (p := fun vs xs => ∀ ys, deepL f xs = some ys → Dts h n vs ys) (fun ys e => Option.some.inj e ▸ ⟨[], .nil, rfl, Nat.zero_le _, rfl⟩) (fun a _ ih ys e => deepL_cons e fun y zs ey ez ee => by
    subst ee
    obtain ⟨as, ra, la, da, ia⟩ := hf _ _ _ a ey
    obtain ⟨bs, rb, lb, db, ib⟩ := ih _ ez
    exact ⟨as ++ bs, .cons ra rb, Bool.and_eq_true_iff.mpr ⟨la, lb⟩, Nat.max_le.mpr ⟨da, db⟩, Bool.and_eq_true_iff.mpr ⟨ia, ib⟩⟩) r ys e
theorem mT_e {o : Option (List V)} {v : V} (h : mT o = some v) : ∃ a, o = some a ∧ v = .tup a := by
  cases o with
  | none => cases h
  | some a => exact ⟨a, rfl, (Option.some.inj h).symm⟩
theorem dt_lst {n : Nat} {a : Addr} {vs : Array Value} {k : Nat} {ys : List V} (g : h.get? a = some (lstO vs k)) (B : Dts h n vs.toList ys) : Dt h (n + 1) (.ref a) (.lst ys) := by
  obtain ⟨as, rb, l, d, i⟩ := B
  exact ⟨_, reads_list' g rb, l, Nat.succ_le_succ d, i⟩
theorem deepN_data (R : RelH X W H h) (n : Nat) : ∀ (v : Value) (x y : V), VR X W v x → deepN H n x = some y → Dt h n v y := by
  induction n with
  | zero =>
    intro v x y r e
    cases r with
    | none => cases e; exact ⟨_, .none, rfl, Nat.zero_le _, rfl⟩
    | bool b => cases e; exact ⟨_, .bool b, rfl, Nat.zero_le _, rfl⟩
    | int i t => cases e; exact ⟨_, .int i t, rfl, Nat.zero_le _, rfl⟩
    | str s t o z => cases e; exact ⟨_, .str s t, o, Nat.zero_le _, rfl⟩
    | _ => cases e
  | succ n ih =>
    intro v x y r e
    cases r with
    | none => cases e; exact ⟨_, .none, rfl, Nat.zero_le _, rfl⟩
    | bool b => cases e; exact ⟨_, .bool b, rfl, Nat.zero_le _, rfl⟩
    | int i t => cases e; exact ⟨_, .int i t, rfl, Nat.zero_le _, rfl⟩
    | str s t o z => cases e; exact ⟨_, .str s t, o, Nat.zero_le _, rfl⟩
    | tup z r q =>
      obtain ⟨ys, ey, rfl⟩ := mT_e e
      obtain ⟨as, rb, l, d, i⟩ := deepL_data ih r ey
      exact ⟨_, reads_tuple' (R.z _ _ z) rb, l, Nat.succ_le_succ d, i⟩
    | lst z r q =>
      obtain ⟨ys, ey, rfl⟩ := mL_e e
      exact dt_lst (R.z _ _ z) (deepL_data ih r ey)
    | @ref i l hl =>
      have e : bindL (cL (H.get i)) (fun xs => mL (deepL (deepN H n) xs)) = some y := e
      cases ec : cL (H.get i) with
      | none => rw [ec] at e; cases e
      | some xs =>
        rw [ec] at e
        obtain ⟨ys, ey, rfl⟩ := mL_e e
        obtain ⟨vs, k, g, r, _, _⟩ := R.at_ (cL_e ec) hl
        exact dt_lst g (deepL_data ih r ey)
    | _ => cases e
end
/-- room below on the C stack -/
noncomputable def Room (A : Around) : Prop := A.units + 80 < cLine
section
variable {X : Cx} {A : Around} {W : Wd} {H : Hp} {s : Shared} {E : Value → Shared → Prop} {a b : Value} {x y : V} {k : Bool → Prop} {Q : Value → Shared → Prop} (R : RelH X W H s.heap) (hu : Room A) (ha : VR X W a x) (hb : VR X W b y) (h : ∀ r tk, k r → Q (.bool r) { s with toks := tk })
include R hu ha h
theorem any_ok {vs : Array Value} {xs : List V} (hv : VRs X W vs.toList xs) (e : cmpK.anyK H x xs k) {G : Prop} (g : ∀ as bs d ds, Reads s.heap a d as → ReadsAll s.heap vs.toList ds bs → d.canLay0 = true → PyData.canLayAll0 ds = true → A.units + 1 + min (PyData.depthAll ds) d.depth < cLine → k (ds.any fun y => PyData.eqv y d) → G) : G := by
  refine need_e e fun u eu e => need_e e fun v ev e => ?_
  obtain ⟨as, ra, la, da, ia⟩ := deepN_data R _ _ _ _ ha eu
  obtain ⟨bs, rb, lb, db, ib⟩ := deepL_data (deepN_data R 11) hv ev
  have hd : (v.any fun z => eqD z u) = ((toPys v).any fun y => PyData.eqv y (toPy u)) := by
    clear rb ev lb db e
    induction v with
    | nil => rfl
    | cons z zs ih =>
      have ib := Bool.and_eq_true_iff.mp ib
      rw [List.any_cons, ih ib.2, eqD_eqv z u ib.1 ia]; rfl
  refine g as bs _ _ ra rb la lb ?_ (hd ▸ e)
  have : min (PyData.depthAll (toPys v)) (toPy u).depth ≤ 12 := Nat.le_trans (Nat.min_le_right _ _) da
  unfold Room at hu; omega
include hb
theorem eq_ok (e : cmpK H .eq x y k) : wpAny (model X.prog X.w) A (compareOp .Eq a b) Q E s := by
  refine need_e e fun u eu e => need_e e fun v ev e => ?_
  obtain ⟨as, ra, la, da, ia⟩ := deepN_data R _ _ _ _ ha eu
  obtain ⟨bs, rb, lb, db, ib⟩ := deepN_data R _ _ _ _ hb ev
  refine SeqAt.compareEq_reads ra rb la lb ?_ ?_
  · unfold Room at hu; omega
  · rw [← eqD_eqv _ _ ia ib]; exact h _ s.toks e
theorem ne_ok (e : cmpK H .ne x y k) : wpAny (model X.prog X.w) A (compareOp .NotEq a b) Q E s := by
  refine need_e e fun u eu e => need_e e fun v ev e => ?_
  obtain ⟨as, ra, la, da, ia⟩ := deepN_data R _ _ _ _ ha eu
  obtain ⟨bs, rb, lb, db, ib⟩ := deepN_data R _ _ _ _ hb ev
  refine ne_dataH ra rb ?_ ?_ ?_ ?_
  · simp [SeqAt.shaped, la]; omega
  · simp [SeqAt.shaped, lb]; omega
  · unfold Room at hu; omega
  · rw [← eqD_eqv _ _ ia ib]; exact h _ s.toks e
end
end Mine

end

section
set_option autoImplicit false
set_option linter.all false
set_option genSizeOf false
set_option genInjectivity false
namespace Mine
open PySem PySem.W PySem.Calls PyProof.Rows
section
variable {X : Cx} {W : Wd} {es : List (Int × Value)} {kvs : List (V × V)}
theorem dKey {i j : Int} : eqD (.int j) (.int i) = decide (j = i) := rfl
theorem val_cons {i j : Int} {v : Value} : valueAt ((j, v) :: es) i = cond (decide (j = i)) (some v) (valueAt es i) := by
  unfold valueAt
  rw [List.find?_cons]
  cases decide (j = i) <;> rfl
inductive DGv (X : Cx) (W : Wd) : Option Value → Option V → Prop
  | none : DGv X W none none
  | some {v : Value} {x : V} : VR X W v x → DGv X W (some v) (some x)
theorem KVs.val {i : Int} (r : KVs X W es kvs) : DGv X W (valueAt es i) (dGet kvs (.int i)) := by
  induction r with
  | nil => exact .none
  | @cons j v x es kvs a r ih =>
    rw [val_cons]
    show DGv X W _ (cond (eqD (.int j) (.int i)) (some x) (dGet kvs (.int i)))
    rw [dKey]
    cases decide (j = i) with
    | true => exact .some a
    | false => exact ih
theorem KVs.any {i : Int} (r : KVs X W es kvs) : (valueAt es i).isSome = (dKeys kvs).any fun z => eqD z (.int i) := by
  induction r with
  | nil => rfl
  | @cons j v x es kvs a r ih =>
    rw [val_cons]
    show _ = (eqD (.int j) (.int i) || (dKeys kvs).any fun z => eqD z (.int i))
    rw [dKey, ← ih]
    cases decide (j = i) <;> rfl
theorem KVs.len (r : KVs X W es kvs) : es.length = kvs.length := by
  induction r with
  | nil => rfl
  | cons a r ih => exact congrArg (· + 1) ih
theorem KVs.put {i : Int} {v : Value} {x : V} (hv : VR X W v x) (r : KVs X W es kvs) (hn : (es.map (·.1)).Nodup) : KVs X W (stored es i v) (dSet kvs (.int i) x) := by
  induction r with
  | nil => exact .cons hv .nil
  | @cons j u y es kvs a r ih =>
    rw [List.map_cons, List.nodup_cons] at hn
    show KVs X W _ (cond (eqD (.int j) (.int i)) ((.int j, x) :: kvs) ((.int j, y) :: dSet kvs (.int i) x))
    rw [dKey]
    unfold stored
    by_cases h : j = i
    · subst h
      rw [List.any_cons, decide_eq_true rfl, List.map_cons, if_pos rfl, map_store_of_not_mem es j v hn.1]
      exact .cons hv r
    · have ih := ih hn.2
      unfold stored at ih
      rw [List.any_cons, decide_eq_false h, Bool.false_or, List.map_cons, if_neg h]
      by_cases q : es.any (fun kv => decide (kv.1 = i)) = true
      · rw [if_pos q] at ih ⊢; exact .cons a ih
      · rw [if_neg q] at ih ⊢; exact .cons a ih
theorem key_e {a : Value} {x : V} {ks : List V} {G : Prop} (ha : VR X W a x) (h : keyOk ks x = true) (g : ∀ i t, a = .int i t → x = .int i → G) : G := by
  have h := (and_eq h).1
  cases x with
  | int i => cases ha with | int _ t => exact g i t rfl rfl
  | _ => cases h
where and_eq {a b : Bool} (h : (a && b) = true) : a = true ∧ b = true := by cases a <;> cases b <;> first | exact ⟨rfl, rfl⟩ | cases h
end
end Mine

end

section
set_option autoImplicit false
set_option linter.all false
namespace Mine
open PySem PySem.W PySem.Calls PyProof.Rows

theorem entry_rcl : entryFor table "range.__contains__.loop" = some Builtin.«range.__contains__.loop» := entryFor_of_tree (by kernel_rfl)
abbrev rngO (a b c : Int) (t u v : Tok) : Obj := { cls := .type "range", dict := none, data := .fields #[.int a t, .int b u, .int c v], slots := #[] }

theorem rng_size {a b c : Int} (hc : c = 1 ∨ c = -1) : Builtin.Range.rangeSize a b c = rngN a b c := by
  unfold Builtin.Range.rangeSize rngN
  rcases hc with rfl | rfl
  · simp only [show (1 : Int) > 0 by decide, if_true, Int.ediv_one]
    split <;> omega
  · simp only [show ¬ ((-1 : Int) > 0) by decide, if_false, show (-1 : Int) ≠ 1 by decide, if_true, Int.neg_neg, Int.ediv_one]
    split <;> omega

section
variable {prog : Program} {w : World} {A : Around} {s : Shared} {E : Value → Shared → Prop}
theorem rfields_ok {r : Addr} {a b c : Int} {t u v : Tok} {Q : Int × Int × Int → Shared → Prop} (hg : s.heap.get? r = some (rngO a b c t u v)) (h : Q (a, b, c) s) : wpAny (model prog w) A (Builtin.Range.rangeFields (.ref r)) Q E s := by
  obtain ⟨hh, g, d, tk, os⟩ := s
  unfold Builtin.Range.rangeFields
  repeat (any_goals (first | assumption | wp_step))
theorem rcl_ok {r : Addr} {a b c : Int} {t u v : Tok} {x : Value} {dx : PyData} {as : List Addr} (hx : Reads s.heap x dx as) (hd : dx.canLay0 = true) (hne : ∀ i : Int, PyData.eqv (.int i) dx = false) (hu : A.units + 2 + 1 < cLine) {R : Result → Shared → Prop} :
    ∀ (m k : Nat) (tok tk : Tok), m + k = Builtin.Range.rangeSize a b c → s.heap.get? r = some (rngO a b c t u v) → (∀ tk, R (.ok (.ret (.bool false))) { s with toks := tk }) →
    codeAny (model prog w) A (.builtin "range.__contains__.loop" ⟨[.ref r, x, .int k tok], []⟩) R { s with toks := tk } := by
  intro m
  induction m with
  | zero =>
    intro k tok tk e hg h
    refine codeAny_builtin entry_rcl ?_
    rw [Around.under_plainId (id := "range.__contains__.loop") (by decide +kernel) _]
    unfold Builtin.«range.__contains__.loop»
    refine wpAny_bind (rfields_ok (s := { s with toks := tk }) hg ?_)
    simp only []
    rw [if_pos (by omega)]
    exact wpAny_pure (a := Fin.done (.ret (.bool false))) (h tk)
  | succ m ih =>
    intro k tok tk e hg h
    refine codeAny_builtin entry_rcl ?_
    rw [Around.under_plainId (id := "range.__contains__.loop") (by decide +kernel) _]
    unfold Builtin.«range.__contains__.loop»
    refine wpAny_bind (rfields_ok (s := { s with toks := tk }) hg ?_)
    simp only []
    rw [if_neg (by omega)]
    refine wpAny_bind (wpAny_mkInt (wpAny_bind ?_))
    refine SeqAt.eqBoolOverData prog w _ _ { s with toks := tk + 1 } _ x (.int (a + k * c)) dx [] as _ (.int _ _) hx rfl hd ?_ ?_
    · have : min (PyData.int (a + k * c)).depth dx.depth ≤ 1 := Nat.le_trans (Nat.min_le_left _ _) (by unfold PyData.depth; decide)
      show A.units + 1 + _ < cLine
      omega
    · rw [hne]
      simp only [Bool.false_eq_true, if_false]
      refine wpAny_pure ?_
      refine ⟨Code.quiet_builtin _ (by decide +kernel), ?_⟩
      exact ih (k + 1) _ _ (by omega) hg h
/-- the search in a range -/
theorem rng_in {r : Addr} {a b c : Int} {t u v : Tok} {x : Value} {p : Bool} {Q : Bool → Shared → Prop} (hg : s.heap.get? r = some (rngO a b c t u v))
    (hp : (∃ i, Builtin.Range.rangeExactInt? x = some i ∧ p = (Builtin.Range.rangePlace? a b c i).isSome) ∨ (p = false ∧ Builtin.Range.rangeExactInt? x = none ∧ ∃ dx as, Reads s.heap x dx as ∧ dx.canLay0 = true ∧ (∀ i : Int, PyData.eqv (.int i) dx = false) ∧ A.units + 2 + 1 < cLine))
    (hn : 0 ≤ Builtin.Range.rangeSize a b c) (h : ∀ tk, Q p { s with toks := tk }) : wpAny (model prog w) A (contains (.ref r) x) Q E s := by
  refine wpAny_contains_slot (T := "range") ⟨_, hg, rfl⟩ PySem.F.slot_range_contains ?_
  refine wpAny_call (codeAny_call_builtin PySem.F.slot_range_contains.plain PySem.F.entry_range_contains (PySem.F.slot_range_contains.check _ _ _ _ _ _ _ _ ⟨_, hg, rfl⟩ (PySem.F.args_range_contains_2 _ _) ?_))
  unfold Builtin.«range.__contains__»
  refine wpAny_bind (wpAny_pure ?_)
  simp only []
  rcases hp with ⟨i, e, ep⟩ | ⟨ep, e, dx, as, hx, hd, hne, hu⟩
  · rw [e]
    refine wpAny_bind (wpAny_rule (wpAny_bind (rfields_ok hg ?_)))
    refine wpAny_pure (a := Fin.done _) ?_
    rw [← ep]
    exact wpAny_pure (h s.toks)
  · rw [e]
    refine wpAny_bind (wpAny_rule ?_)
    refine wpAny_pure (a := Fin.again _) ⟨Code.quiet_builtin _ (by decide +kernel), ?_⟩
    refine rcl_ok (s := s) hx hd hne hu (Builtin.Range.rangeSize a b c).toNat 0 _ s.toks ?_ hg fun tk => ?_
    · omega
    · subst ep
      exact wpAny_pure (h tk)
end
end Mine

end

section
set_option autoImplicit false
set_option linter.all false
set_option genSizeOf false
set_option genInjectivity false
namespace Mine
open PySem PySem.W PySem.Calls PyProof.Rows
theorem rplace {a b i : Int} : (Builtin.Range.rangePlace? a b 1 i).isSome = (decide (a ≤ i) && decide (i < b)) := by
  unfold Builtin.Range.rangePlace?
  simp only [show (1 : Int) > 0 by decide, if_true, Int.emod_one, beq_self_eq_true, Bool.and_true]
  split
  · rename_i h; rw [h]; rfl
  · rename_i h; rw [Bool.eq_false_iff.mpr h]; rfl
section
variable {X : Cx} {A : Around} {W : Wd} {H : Hp} {s : Shared} {E : Value → Shared → Prop}
/-- a search, and its reverse -/
structure InQ (X : Cx) (A : Around) (E : Value → Shared → Prop) (s : Shared) (a b : Value) (k : Bool → Prop) : Prop where
  yes : ∀ Q : Value → Shared → Prop, (∀ r tk, k r → Q (.bool r) { s with toks := tk }) → wpAny (model X.prog X.w) A (compareOp .In a b) Q E s
  no : ∀ Q : Value → Shared → Prop, (∀ r tk, k r → Q (.bool (!r)) { s with toks := tk }) → wpAny (model X.prog X.w) A (compareOp .NotIn a b) Q E s
theorem InQ.of {a b : Value} {k : Bool → Prop} (h : ∀ Q : Bool → Shared → Prop, (∀ r tk, k r → Q r { s with toks := tk }) → wpAny (model X.prog X.w) A (contains b a) Q E s) : InQ X A E s a b k :=
  ⟨fun Q g => show wpAny _ _ (contains _ _ >>= _) _ _ _ from wpAny_bind (h _ fun r tk z => wpAny_pure (g r tk z)), fun Q g => show wpAny _ _ (contains _ _ >>= _) _ _ _ from wpAny_bind (h _ fun r tk z => wpAny_pure (g r tk z))⟩
theorem inR_ok {a b : Value} {x : V} {p q c : Int} {k : Bool → Prop} (hu : Room A) (ha : VR X W a x) (hb : Sn X W s.heap b (.rng p q c)) (e : inR p q c x k) : InQ X A E s a b k := by
  obtain ⟨rfl, e⟩ := e
  cases hb with
  | rng hg z1 z2 z3 =>
    refine .of fun Q' h => ?_
    have hn : 0 ≤ Builtin.Range.rangeSize p q 1 := by rw [rng_size z3]; exact Int.natCast_nonneg _
    cases ha with
    | int i t => exact rng_in hg (.inl ⟨i, rfl, rplace.symm⟩) hn fun tk => h _ tk e
    | bool b => cases b <;> exact rng_in hg (.inl ⟨_, rfl, rplace.symm⟩) hn fun tk => h _ tk e
    | str t u o1 z1 => exact rng_in hg (.inr ⟨rfl, rfl, _, _, .str _ _, o1, fun _ => rfl, by unfold Room at hu; omega⟩) hn fun tk => h _ tk e
    | none => exact rng_in hg (.inr ⟨rfl, rfl, _, _, .none, rfl, fun _ => rfl, by unfold Room at hu; omega⟩) hn fun tk => h _ tk e
    | _ => exact e.elim
theorem inL_ok {a : Value} {x : V} {l : Addr} {vs : Array Value} {n : Nat} {xs : List V} {k : Bool → Prop} (R : RelH X W H s.heap) (hu : Room A) (ha : VR X W a x) (g : s.heap.get? l = some (lstO vs n)) (r : VRs X W vs.toList xs) (e : cmpK.anyK H x xs k) : InQ X A E s a (.ref l) k :=
  ⟨fun Q h => any_ok (Q := Q) R hu ha h r e fun as bs d ds ra rb c1 c2 hu' z => SeqAt.in_list_reads (reads_list' g rb) ra c2 c1 hu' (h _ s.toks z),
   fun Q h => any_ok (Q := fun _ _ => True) R hu ha (fun _ _ _ => trivial) r e fun as bs d ds ra rb c1 c2 hu' z => SeqAt.notIn_list_reads (reads_list' g rb) ra c2 c1 hu' (h _ s.toks z)⟩
theorem inT_ok {a : Value} {x : V} {l : Addr} {vs : Array Value} {n : Nat} {xs : List V} {k : Bool → Prop} (R : RelH X W H s.heap) (hu : Room A) (ha : VR X W a x) (g : s.heap.get? l = some (tupO vs n)) (r : VRs X W vs.toList xs) (e : cmpK.anyK H x xs k) : InQ X A E s a (.ref l) k :=
  ⟨fun Q h => any_ok (Q := Q) R hu ha h r e fun as bs d ds ra rb c1 c2 hu' z => SeqAt.in_tuple_reads (reads_tuple' g rb) ra c2 c1 hu' (h _ s.toks z),
   fun Q h => any_ok (Q := fun _ _ => True) R hu ha (fun _ _ _ => trivial) r e fun as bs d ds ra rb c1 c2 hu' z => SeqAt.notIn_tuple_reads (reads_tuple' g rb) ra c2 c1 hu' (h _ s.toks z)⟩
/-- a search in a dict -/
theorem inD_ok {a : Value} {x : V} {l : Addr × Addr} {kvs : List (V × V)} {k : Bool → Prop} (ha : VR X W a x) (g : DicCell X W s.heap l kvs) (e : Nd (keyOk (dKeys kvs) x = true) (k ((dKeys kvs).any fun z => eqD z x))) : InQ X A E s a (.ref l.1) k := by
  obtain ⟨es, d, r, _, ne, _⟩ := g
  refine key_e ha e.1 fun i t ea ex => ?_
  subst ea ex
  have q := e.2
  rw [← r.any] at q
  exact ⟨fun Q h => wpAny_in_of (intKind_is _ _ i t) ne d.mapOf (h _ _ q), fun Q h => wpAny_notIn_of (intKind_is _ _ i t) ne d.mapOf (h _ _ q)⟩
theorem in_ok {a b : Value} {x y : V} {k : Bool → Prop} (R : RelH X W H s.heap) (hu : Room A) (ha : VR X W a x) (hb : VR X W b y) (e : cmpK.inK H x y k) : InQ X A E s a b k := by
  cases hb with
  | lst z r q => exact inL_ok R hu ha (R.z _ _ z) r e
  | tup z r q => exact inT_ok R hu ha (R.z _ _ z) r e
  | rng z p q c => exact inR_ok hu ha (.rng (R.z _ _ z) p q c) e
  | @ref i l hl =>
    have e : (match H.get i with | some (.list xs) => cmpK.anyK H x xs k | some (.dict kvs) => Nd (keyOk (dKeys kvs) x = true) (k ((dKeys kvs).any fun z => eqD z x)) | _ => False) := e
    cases hc : H.get i with
    | none => rw [hc] at e; exact e.elim
    | some c =>
      rw [hc] at e
      have q := R.at_ hc hl
      cases c with
      | list xs => obtain ⟨vs, n, g, r, _, _⟩ := q; exact inL_ok R hu ha g r e
      | dict kvs => exact inD_ok ha q e
      | _ => exact e.elim
  | _ => exact e.elim
theorem is_ok {a b : Value} {x y : V} {k : Bool → Prop} (ha : VR X W a x) (hb : VR X W b y) (e : isK x y k) : ∃ r, plainIs a b = true ∧ (a == b) = r ∧ k r := by
  cases hb with
  | none => cases ha <;> first | exact ⟨_, rfl, rfl, e.2⟩ | exact nomatch e.1
  | bool c =>
    cases ha with
    | bool d => exact ⟨_, rfl, by cases c <;> cases d <;> rfl, e.2⟩
    | _ => first | exact ⟨_, rfl, rfl, e.2⟩ | exact nomatch e.1
  | _ => exact e.elim
section
variable {a b : Value} {x y : V} {k : Bool → Prop} {Q : Value → Shared → Prop} (R : RelH X W H s.heap) (hu : Room A) (ha : VR X W a x) (hb : VR X W b y) (h : ∀ r tk, k r → Q (.bool r) { s with toks := tk })
include R ha hb
theorem ints_ok {k : Int → Int → Prop} (e : need (see H x) fun x => need (see H y) fun y => need (aInt x) fun i => need (aInt y) fun j => k i j) {G : Prop} (g : ∀ i j t u, a = .int i t → b = .int j u → k i j → G) : G :=
  need_e e fun x ex e => need_e e fun y ey e => need_e e fun i ei e => need_e e fun j ej e => ((see_ok R ha ex).toInt ei).elim fun t q => ((see_ok R hb ey).toInt ej).elim fun u q' => g i j t u q q' e
theorem lt_ints {e' : Bool} {k : Bool → Prop} (e : need (see H x) fun x => need (see H y) fun y => ltK e' x y k) {G : Prop} (g : ∀ i j t u, a = .int i t → b = .int j u → k (cmpI e' i j) → G) : G :=
  ints_ok R ha hb (k := fun i j => k (cmpI e' i j)) (need_e e fun x ex e => need_i ex (need_e e fun y ey e => need_i ey (by
    cases x with
    | int i => exact need_i rfl e
    | _ => exact e.elim))) g
include hu h
theorem cmp_ok {op : COp} (e : cmpK H op x y k) : wpAny (model X.prog X.w) A (compareOp (cmpOf op) a b) Q E s := by
  cases op with
  | eq => exact eq_ok R hu ha hb h e
  | ne => exact ne_ok R hu ha hb h e
  | lt => exact lt_ints R ha hb e fun i j t u q q' z => by subst q q'; exact lt_int (h _ s.toks z)
  | le => exact lt_ints R ha hb e fun i j t u q q' z => by subst q q'; exact le_int (h _ s.toks z)
  | gt =>
    refine lt_ints R hb ha (need_e e fun x ex e => need_e e fun y ey e => need_i ey (need_i ex e)) fun i j t u q q' z => ?_
    subst q q'; exact gt_int (h _ s.toks z)
  | ge =>
    refine lt_ints R hb ha (need_e e fun x ex e => need_e e fun y ey e => need_i ey (need_i ex e)) fun i j t u q q' z => ?_
    subst q q'; exact ge_int (h _ s.toks z)
  | isIn => exact (in_ok R hu ha hb e).yes Q h
  | notIn => exact (in_ok (k := fun r => k (!r)) R hu ha hb e).no Q fun r tk z => h _ tk z
  | is => exact (is_ok ha hb e).elim fun r q => wpAny_is_plain q.1 (by rw [q.2.1]; exact h _ s.toks q.2.2)
  | isNot => exact (is_ok (k := fun r => k (!r)) ha hb e).elim fun r q => wpAny_isNot_plain q.1 (by rw [q.2.1]; exact h _ s.toks q.2.2)
end
end
end Mine

end

section
set_option autoImplicit false
set_option linter.all false
set_option genSizeOf false
set_option genInjectivity false
set_option maxRecDepth 100000
namespace Mine
open PySem PySem.W PySem.Calls PyProof.Rows Builtin Builtin.ObjectAttr Builtin.Getset_descriptor

/-- an exception's class, as isinstance asks for it -/
noncomputable def excK (K : Frag) (D : Addr) : Bool := (clsIn K D).isSome && findIn K (.ref D) "__getattribute__" == some (some (.builtin "BaseException.__getattribute__")) && findIn K (.ref D) "__getattr__" == some none
  && findIn K (.ref D) "__class__" == some (some (.builtin "object.__class__")) && mroIn K D (.type "object") == some true && mroIn K D (.type "BaseException") == some true
noncomputable def insK (K : Frag) (D : Addr) : Bool := plainGet K D "__class__" && hasDictIn K D && findIn K (.ref D) "__class__" == some (some (.builtin "object.__class__"))
  && specialIn K (.builtin "object.__class__") "__get__" == some (some (.builtin "getset_descriptor.__get__")) && takesIn K (.builtin "object.__class__") == some true && mroIn K D (.type "object") == some true

section
variable {prog : Program} {w : World} {A : Around} {s : Shared} {E : Value → Shared → Prop} {K : Frag} {x D : Addr} {o : Obj}
theorem exc_get {tp : Value} {R : Result → Shared → Prop} (X : K.In s.heap) (hx : s.heap.get? x = some o) (hc : o.cls = .ref D) (hm : mroIn K D (.type "object") = some true)
    (h : R (.ok (.ret (.ref D))) s) : codeAny (model prog w) A (.call (.builtin "getset_descriptor.__get__") ⟨[.builtin "object.__class__", .ref x, tp], []⟩) R s := by
  obtain ⟨hh, g, dr, t, os⟩ := s
  have L0 : Looks (model prog w) hh (typeOf (.ref x)) (.ref D) := hc ▸ (Looks.ld hx).andThen .now
  have L1 := looks_mroIn (M := model prog w) X hm
  refine codeAny_call_builtin KF.slot_gs.plain KF.entry_gs (KF.slot_gs.check _ _ _ _ _ _ _ _ KF.type_class (KF.args_gs _ _ _) ?_)
  unfold Builtin.«getset_descriptor.__get__» descrGet
  rw [dga_obj]
  refine wpAny_bind (wpAny_pure ?_)
  unfold descrGetter descrCheckInstance descrNameAndClass isInstance
  simp only [KF.owner_class]
  repeat lk
  refine ⟨Code.quiet_builtin _ (by decide +kernel), codeAny_builtin KF.entry_class ?_⟩
  unfold Builtin.«object.__class__» shownTypeOf
  repeat lk
  exact h
theorem exc_entry {tk : Tok} {Q : Fin → Shared → Prop} (X : K.In s.heap) (hx : s.heap.get? x = some o) (hc : o.cls = .ref D) (hk : findIn K (.ref D) "__class__" = some (some (.builtin "object.__class__"))) (hm : mroIn K D (.type "object") = some true) (hq : Q (.done (.ret (.ref D))) s) :
    wpAny (model prog w) A (Builtin.«object.__getattribute__» ⟨[.ref x, .str "__class__" tk], []⟩) Q E s := by
  obtain ⟨h, g, d, t, os⟩ := s
  have hT5 : (⟨h, g, d, t, os⟩ : Shared).TypeIs (.builtin "object.__class__") "getset_descriptor" := PySem.F.typeOf_object_class
  have f5 := PySem.F.typeOf_object_class
  have f6 := PySem.F.slot_gs_get.lookup
  have f7 := PySem.F.slot_gs_set.lookup
  have L1 := looks_findIn (M := model prog w) X hk
  repeat (any_goals (first | assumption | (with_reducible refine wpAny_loadPart_at hx ?_; rw [hc]) | with_reducible refine L1.at ?_ | wp_step))
  refine exc_get X hx hc hm ?_
  repeat (any_goals (first | assumption | wp_step))
theorem exc_check {M : Model} {nameV : Value} {Q : Unit → Shared → Prop} (X : K.In s.heap) (hx : s.heap.get? x = some o) (hc : o.cls = .ref D) (hb : mroIn K D (.type "BaseException") = some true) (hq : Q () s) :
    wpAny M A (checkBuiltinCall "BaseException.__getattribute__" ⟨[.ref x, nameV], []⟩) Q E s := by
  obtain ⟨h, g, d, t, os⟩ := s
  have hk : builtinKind "BaseException.__getattribute__" = some .slot := by decide +kernel
  have hsplit : splitId "BaseException.__getattribute__" = some ("BaseException", "__getattribute__") := by decide +kernel
  have ha := PySem.F.args_bexc_ga (.ref x) nameV
  have L1 := looks_mroIn (M := M) X hb
  simp only [checkBuiltinCall, hk, hsplit]
  refine wpAny_bind ?_
  · unfold isInstance
    repeat (first | (with_reducible refine wpAny_loadPart_at hx ?_; rw [hc]) | (with_reducible refine L1.at ?_) | wp_step)
    exact hq
theorem bexc_plain : plainId "BaseException.__getattribute__" = true := by decide +kernel
theorem exc_ca {Q : Option Value → Shared → Prop} (X : K.In s.heap) (hx : s.heap.get? x = some o) (hc : o.cls = .ref D) (e : excK K D = true) (h : Q (some (.ref D)) { s with toks := s.toks + 1 }) :
    wpAny (model prog w) A (getAttr? (.ref x) "__class__") Q E s := by
  unfold excK at e
  simp only [Bool.and_eq_true, beq_iff_eq] at e
  obtain ⟨⟨⟨⟨⟨e0, e1⟩, e2⟩, e3⟩, e4⟩, e5⟩ := e
  obtain ⟨hh, g, d, t, os⟩ := s
  have L0 : Looks (model prog w) hh (typeOf (.ref x)) (.ref D) := hc ▸ (Looks.ld hx).andThen .now
  have L1 := looks_findIn (M := model prog w) X e1
  have L2 := looks_findIn (M := model prog w) X e2
  have by_ : ∀ {tk : Tok} {Q : Value → Shared → Prop} {E : Value → Shared → Prop}, Q (.ref D) ⟨hh, g, d, t + 1, os⟩ → wpAny (model prog w) A (getAttrBy (.ref x) (.str "__class__" tk) false) Q E ⟨hh, g, d, t + 1, os⟩ := fun hq => by
    have hx2 : (Value.builtin "BaseException.__getattribute__" == Value.builtin "object.__getattribute__") = false := by decide +kernel
    have hx1 : (onTheHeap (Value.ref D) && Value.builtin "BaseException.__getattribute__" == Value.builtin "object.__getattribute__") = false := by rw [hx2]; rfl
    have f3 := PySem.F.attr_ValueError.ga.bind (.ref x)
    unfold getAttrBy
    repeat (any_goals (first | assumption | with_reducible refine L0.at ?_ | with_reducible refine L1.at ?_ | with_reducible refine L2.at ?_ | wp_step))
    refine codeAny_call_builtin bexc_plain PySem.F.entry_bexc_ga (exc_check (s := ⟨hh, g, d, t + 1, os⟩) X hx hc e5 (exc_entry (s := ⟨hh, g, d, t + 1, os⟩) X hx hc e3 e4 ?_))
    repeat (any_goals (first | assumption | wp_step))
  unfold getAttr? getAttrBy?
  repeat (any_goals (first | assumption | with_reducible apply by_ | wp_step))
theorem cls_it {M : Model} {h : Heap} (X : K.In h) (e : (clsIn K D).isSome = true) : Looks M h (isType (.ref D)) true := by
  unfold clsIn at e
  split at e
  · rename_i c' d' cd' sl' ho
    intro A' Q' E' s' k q
    unfold isType loadHead
    exact wpAny_bind (wpAny_loadPart (k _ _ (X _ _ ho)) (wpAny_pure q))
  · cases e
theorem exc_kit (e : excK K D = true) : KitX K (.ref x) (.ref D) (fun h => ∃ o, h.get? x = some o ∧ o.cls = .ref D) where
  ty := fun _ _ _ p => by obtain ⟨o, hx, hc⟩ := p; exact hc ▸ (Looks.ld hx).andThen .now
  it := fun _ _ X _ => cls_it X (by unfold excK at e; simp only [Bool.and_eq_true] at e; exact e.1.1.1.1.1)
  ne := fun h tp dd its n sl X htp => by
    have e0 : (clsIn K D).isSome = true := by unfold excK at e; simp only [Bool.and_eq_true] at e; exact e.1.1.1.1.1
    refine Bool.eq_false_iff.mpr fun q => ?_
    have e : D = tp := Value.ref.inj (beq_iff_eq.mp q)
    subst e
    unfold clsIn at e0
    split at e0
    · rename_i c' d' cd' sl' ho
      have z := (X _ _ ho).symm.trans htp
      cases z
    · cases e0
  ca := fun X p k => by obtain ⟨o, hx, hc⟩ := p; exact exc_ca X hx hc e k
theorem ins_kit {od : Obj} (e : insK K D = true) : KitX K (.ref x) (.ref D) (fun h => InstAt h x o D (some od)) := by
  unfold insK at e
  simp only [Bool.and_eq_true, beq_iff_eq] at e
  exact kitx_own e.1.1.1.1.1 e.1.1.1.1.2 e.1.1.1.2 e.1.1.2 e.1.2 e.2
end

/-- the type of a kind; a class as a value -/
noncomputable def kdT (X : Cx) : Kd → Option Value
  | .none => some (.type "NoneType")
  | .bool => some (.type "bool")
  | .int => some (.type "int")
  | .str => some (.type "str")
  | .list => some (.type "list")
  | .tuple => some (.type "tuple")
  | .inst k => (X.clA k).map .ref
  | .exc k => (X.clA k).map .ref
noncomputable def tVal (X : Cx) : V → Option Value
  | .bt b => some (bval b)
  | .cls j => (X.clA j).map .ref
  | _ => none
/-- what isinstance needs -/
structure IsiK (X : Cx) (K : Frag) : Prop where
  inn : K.In X.hb
  one : ∀ k t b tv cv, isi0 X.P k t = some b → kdT X k = some tv → tVal X t = some cv → kitOne K tv cv = some b
  exc : ∀ k c, X.clA k = some c → X.P.exc k = true → excK K c = true
  ins : ∀ k c cl, X.clA k = some c → X.P.cls k = some cl → insK K c = true

section
variable {X : Cx} {A : Around} {W : Wd} {H : Hp} {s : Shared} {E : Value → Shared → Prop} {K : Frag}
theorem tVal_of {k : Kd} {t : V} {b : Bool} {cv : Value} (e : isi0 X.P k t = some b) (h : VR X W cv t) : tVal X t = some cv := by
  cases h with
  | bt b => rfl
  | cls q => show Option.map _ _ = _; rw [q]; rfl
  | _ => exact nsome e
theorem isi_one {k : Kd} {t : V} {b : Bool} {cv tv : Value} (I : IsiK X K) (e : isi0 X.P k t = some b) (hk : kdT X k = some tv) (h : VR X W cv t) : kitOne K tv cv = some b := I.one k t b tv cv e hk (tVal_of e h)
theorem isi_any {k : Kd} {tv : Value} (I : IsiK X K) (hk : kdT X k = some tv) {vs : List Value} {ts : List V} {b : Bool} (r : VRs X W vs ts) (e : isiL X.P k ts = some b) : kitAny K tv vs = some b :=
  VRs.ind (p := fun vs ts => isiL X.P k ts = some b → kitAny K tv vs = some b) (fun e => e) (fun {v vs x xs} a _ ih e => by
    have e : (match isi0 X.P k x with | some true => some true | some false => isiL X.P k xs | none => none) = some b := e
    show (match kitOne K tv v with | some true => some true | some false => kitAny K tv vs | none => none) = some b
    cases q : isi0 X.P k x with
    | none => rw [q] at e; cases e
    | some c =>
      rw [isi_one I q hk a]
      rw [q] at e
      cases c with
      | true => exact e
      | false => exact ih e) r e
theorem isi_then {v t tv : Value} {k : Kd} {y : V} {b : Bool} {Hh : Heap → Prop} {Q : Value → Shared → Prop} (I : IsiK X K) (R : RelH X W H s.heap) (Z : KitX K v tv Hh) (hh : Hh s.heap) (hk : kdT X k = some tv) (hv : v ≠ .builtin "__main__.__loader__#opaque") (ht : VR X W t y) (e : isi1 X.P k y = some b) (h : ∀ tk, Q (.bool b) { s with toks := tk }) :
    wpAny (model X.prog X.w) A (call (.builtin "isinstance") [v, t]) Q E s := by
  have hin : K.In s.heap := fun x o q => R.bkeep x o (I.inn x o q)
  cases ht with
  | @tup a vs n xs z r q => exact kia_tup Z hin hh (dd := none) (its := vs.toList) (n := n) (sl := #[]) (R.z _ _ z) (isi_any I hk r e) hv h
  | bt bb => exact kia_one Z hin hh (isi_one (W := W) (t := .bt bb) I e hk (.bt bb)) hv h
  | cls q => exact kia_one Z hin hh (isi_one (W := W) (t := .cls _) I e hk (.cls q)) hv h
  | _ => exact nsome e
theorem isi_ok {v t : Value} {x y : V} {k : Bool → Prop} {Q : Value → Shared → Prop} (I : IsiK X K) (R : RelH X W H s.heap) (hv : VR X W v x) (ht : VR X W t y) (e : need (kind H x) fun q => need (isi1 X.P q y) k) (h : ∀ b tk, k b → Q (.bool b) { s with toks := tk }) :
    wpAny (model X.prog X.w) A (call (.builtin "isinstance") [v, t]) Q E s := by
  refine need_e e fun q ek e => need_e e fun b e z => ?_
  have h := fun tk => h b tk z
  cases hv with
  | none => cases ek; exact isi_then I R kitx_none trivial rfl (fun q => nomatch q) ht e h
  | bool c => cases ek; exact isi_then I R kitx_bool trivial rfl (fun q => nomatch q) ht e h
  | int i u => cases ek; exact isi_then I R kitx_int trivial rfl (fun q => nomatch q) ht e h
  | str c u _ _ => cases ek; exact isi_then I R kitx_str trivial rfl (fun q => nomatch q) ht e h
  | tup z r q => cases ek; exact isi_then I R kitx_tuple ⟨_, R.z _ _ z, rfl⟩ rfl (fun q => nomatch q) ht e h
  | lst z r q => cases ek; exact isi_then I R kitx_list ⟨_, R.z _ _ z, rfl⟩ rfl (fun q => nomatch q) ht e h
  | @ref i l hl =>
    have ek : kdC (H.get i) = some q := ek
    cases hg : H.get i with
    | none => rw [hg] at ek; cases ek
    | some c =>
      rw [hg] at ek
      have hcell := R.at_ hg hl
      cases c with
      | list xs => cases ek; obtain ⟨vs, k, hgg, _, _, _⟩ := hcell; exact isi_then I R kitx_list ⟨_, hgg, rfl⟩ rfl (fun q => nomatch q) ht e h
      | dict kvs => cases ek
      | inst k fs =>
        cases ek
        obtain ⟨c, cl, es, n, a, a', o1, o2, _, _, _, _⟩ := hcell
        exact isi_then I R (ins_kit (o := instO c l.2) (od := dictO es n) (I.ins k c cl a a')) ⟨o1, rfl, rfl, o2⟩ (by show Option.map _ _ = _; rw [a]; rfl) (fun q => nomatch q) ht e h
      | exc k =>
        cases ek
        obtain ⟨c, o, vs, a, a', o1, o2, _, _⟩ := hcell
        exact isi_then I R (exc_kit (I.exc k c a a')) ⟨o, o1, o2⟩ (by show Option.map _ _ = _; rw [a]; rfl) (fun q => nomatch q) ht e h
  | _ => cases ek
end
end Mine

end

section
set_option autoImplicit false
set_option linter.all false
set_option genSizeOf false
set_option genInjectivity false
namespace Mine
open PySem PySem.W PySem.Calls PyProof.Rows

section
variable {X : Cx} {A : Around} {W : Wd} {H : Hp} {s : Shared} {E : Value → Shared → Prop}
theorem arr_get {vs : Array Value} {xs : List V} (h : VRs X W vs.toList xs) {k : Nat} {x : V} (e : xs[k]? = some x) : ∃ v, vs[k]? = some v ∧ VR X W v x := (h.get e).imp fun v q => ⟨by rw [← Array.getElem?_toList]; exact q.1, q.2⟩
theorem pyIdx_pos {i : Int} {n k : Nat} (e : pyIdx i n = some k) (h : 0 ≤ i) : k = i.toNat ∧ i < n := by
  unfold pyIdx at e
  rw [if_pos h] at e
  by_cases c : i < n
  · rw [if_pos c] at e; exact ⟨(Option.some.inj e).symm, c⟩
  · rw [if_neg c] at e; cases e
theorem pyIdx_neg {i : Int} {n k : Nat} (e : pyIdx i n = some k) (h : ¬ 0 ≤ i) : k = (i + n).toNat ∧ 0 ≤ i + n := by
  unfold pyIdx at e
  rw [if_neg h] at e
  by_cases c : 0 ≤ i + n
  · rw [if_pos c] at e; exact ⟨(Option.some.inj e).symm, c⟩
  · rw [if_neg c] at e; cases e
theorem pyIdx_seq {i : Int} {n k : Nat} (e : pyIdx i n = some k) : seqIndex? i n = some k := by
  unfold seqIndex?
  by_cases h : 0 ≤ i
  · obtain ⟨rfl, hk⟩ := pyIdx_pos e h
    have : ¬ i < 0 := Int.not_lt.mpr h
    simp [this, h, hk]
  · obtain ⟨rfl, hk⟩ := pyIdx_neg e h
    have h' : i < 0 := Int.not_le.mp h
    have : i + n < n := by omega
    simp_all
theorem pyIdx_63 {i : Int} {n k : Nat} (e : pyIdx i n = some k) (q : n ≤ SZ) : -(2 ^ 63 : Int) ≤ i ∧ i < 2 ^ 63 := by
  have := sz63 q
  by_cases h : 0 ≤ i
  · have := pyIdx_pos e h; omega
  · have := pyIdx_neg e h; omega
theorem sub_tail {o i : Value} {value slice : Expr} {T id : String} {Q : Value → Shared → Prop} (hT : s.TypeIs o T) (hl : typeLookup (.type T) "__getitem__" = pure (some (.builtin id)))
    (h : wpAny (model X.prog X.w) A (getItem o i) Q E s) : wpAny (model X.prog X.w) A (subscriptTail value slice o i) Q E s := by
  unfold subscriptTail
  refine wpAny_bind ?_
  rw [getitemInPython_of_ne hT.not_modules]
  refine wpAny_bind (wpAny_specialOf hT hl ?_)
  have fin : wpAny (model X.prog X.w) A (subscripted slice false o i) (fun r s₃ => wpAny (model X.prog X.w) A (letTemporaryGo value o r >>= fun _ => pure r) Q E s₃) E s := by
    have key : wpAny (model X.prog X.w) A (getItem o i) (fun r s₃ => wpAny (model X.prog X.w) A (letTemporaryGo value o r >>= fun _ => pure r) Q E s₃) E s :=
      wpAny_mono h (fun r s₃ h₃ => wpAny_bind (wpAny_letTemporaryGo (wpAny_pure h₃))) fun _ _ x => x
    unfold subscripted
    split
    · exact wpAny_operating key
    · cases ‹_ = true›
    · exact wpAny_operating key
  first
    | exact wpAny_pure (wpAny_bind fin)
    | exact wpAny_bind (wpAny_pure (wpAny_bind fin))
    | exact wpAny_bind fin
theorem str_one {t : Str} {i c : Nat} (ok : PyData.strOk t = true) (hc : t.cps[i]? = some c) : PyData.strOk ⟨#[c]⟩ = true := by
  have hok : (t.cps.all (· < 0x110000)) = true := ok
  rw [Array.all_eq_true] at hok
  have := hok i (Array.getElem?_eq_some_iff.mp hc).1
  rw [(Array.getElem?_eq_some_iff.mp hc).2] at this
  show ((#[c] : Array Nat).all (· < 0x110000)) = true
  simpa using this
section
variable {a b : Value} {x y : V} {value slice : Expr} {k : V → Prop} {Q : Value → Shared → Prop} (h : ∀ v r tk, VR X W v r → k r → Q v { s with toks := tk })
include h
theorem idxL_ok {l : Addr} {vs : Array Value} {n : Nat} {xs : List V} {i : Int} {t : Tok} (g : s.heap.get? l = some (lstO vs n)) (r : VRs X W vs.toList xs) (q : xs.length ≤ SZ) (e : atK xs i k) : wpAny (model X.prog X.w) A (subscriptTail value slice (.ref l) (.int i t)) Q E s := by
  refine need_e e fun m em e => need_e e fun x ex e => ?_
  obtain ⟨v, hx, hr⟩ := arr_get r ex
  have hf := h v x s.toks hr e
  have z := r.toArr
  have b63 := pyIdx_63 em q
  refine sub_tail ⟨_, g, rfl⟩ list_getitem_lookup ?_
  by_cases h0 : 0 ≤ i
  · obtain ⟨rfl, hk⟩ := pyIdx_pos em h0
    exact wpAny_getItem_list (isList_of g) h0 b63.2 hx hf
  · obtain ⟨rfl, hk⟩ := pyIdx_neg em h0
    exact wpAny_getItem_list_neg (isList_of g) (Int.not_le.mp h0) (by rw [z]; omega) b63.1 (by rw [z]; exact hx) hf
theorem idxD_ok {l : Addr × Addr} {kvs : List (V × V)} (hb : VR X W b y) (g : DicCell X W s.heap l kvs) (e : Nd (keyOk (dKeys kvs) y = true) (need (dGet kvs y) k)) : wpAny (model X.prog X.w) A (subscriptTail value slice (.ref l.1) b) Q E s := by
  obtain ⟨es, d, r, _, ne, _⟩ := g
  refine key_e hb e.1 fun i t ea ex => need_e e.2 fun z ez q => ?_
  subst ea ex
  have v := r.val (i := i)
  rw [ez] at v
  generalize hv : valueAt es i = o at v
  cases v with
  | some hr => exact sub_tail d.typeIs slot_dict_getitem.lookup (wpAny_getItem_of (intKind_is _ _ i t) d.mapOf hv (h _ _ _ hr q))
theorem idx_ok (R : RelH X W H s.heap) (ha : VR X W a x) (hb : VR X W b y) (e : idxH H x y k) : wpAny (model X.prog X.w) A (subscriptTail value slice a b) Q E s := by
  have key : ∀ i, aInt y = some i → ∃ t, b = .int i t := fun i ei => by cases hb <;> first | (cases ei; exact ⟨_, rfl⟩) | cases ei
  cases ha with
  | @ref j l hl =>
    have e : (match H.get j with | some (.list xs) => idxK (.lst xs) y k | some (.dict kvs) => Nd (keyOk (dKeys kvs) y = true) (need (dGet kvs y) k) | _ => False) := e
    cases hc : H.get j with
    | none => rw [hc] at e; exact e.elim
    | some c =>
      rw [hc] at e
      have q := R.at_ hc hl
      cases c with
      | list xs =>
        refine need_e e fun i ei e => (key i ei).elim fun t et => ?_
        subst et
        obtain ⟨vs, n, g, r, _, z⟩ := q
        exact idxL_ok h g r z e
      | dict kvs => exact idxD_ok h hb q e
      | _ => exact e.elim
  | lst z r q => exact need_e e fun i ei e => (key i ei).elim fun t et => by subst et; exact idxL_ok h (R.z _ _ z) r q e
  | @tup l vs n xs z r q =>
    refine need_e e fun i ei e => (key i ei).elim fun t et => need_e e fun m em e => need_e e fun x ex e => ?_
    subst et
    obtain ⟨v, hx, hr⟩ := arr_get r ex
    have b63 := pyIdx_63 em q
    exact sub_tail (isTup_of (R.z _ _ z)).typeIs slot_tuple_getitem.lookup (getItem_tuple (isTup_of (R.z _ _ z)) b63.1 b63.2 (by rw [r.toArr]; exact pyIdx_seq em) hx (h v x s.toks hr e))
  | str t u ok z =>
    refine need_e e fun i ei e => (key i ei).elim fun tk et => ?_
    subst et
    obtain ⟨h0, e⟩ := e
    refine need_e e fun c hc e => ?_
    have hlt : i.toNat < t.cps.size := (Array.getElem?_eq_some_iff.mp hc).1
    have hL : t.length = t.cps.size := rfl
    have pi : pyIdx i t.length = some i.toNat := by unfold pyIdx; rw [if_pos h0, if_pos (by omega)]
    have b63 := pyIdx_63 pi z
    refine sub_tail (typeIs_str s _ _) slot_str_getitem.lookup (PyProof.Rows.getItem_str ?_ ?_ ?_ (c := c))
    · simp; omega
    · rw [pyIdx_seq pi]; exact hc
    · exact h _ _ _ (.str _ _ (str_one ok hc) (by show 1 ≤ SZ; decide)) e
  | _ => exact need_e e fun _ _ e => e.elim
end

/-! slices -/
theorem clamp_eq {x : Int} {n : Nat} (h : 0 ≤ x) : min x (n : Int) = ((min x.toNat n : Nat) : Int) := by omega
theorem max0 {n : Nat} : max 0 (n : Int) = n := Int.max_eq_right (Int.natCast_nonneg n)
theorem take_cut {α : Type} (l : List α) (a b : Nat) : (l.drop (min a l.length)).take (min b l.length - min a l.length) = (l.drop a).take (b - a) := by
  rw [kmk_drop_min]
  by_cases c1 : a ≤ l.length
  · rw [Nat.min_eq_left c1]
    by_cases c2 : b ≤ l.length
    · rw [Nat.min_eq_left c2]
    · rw [Nat.min_eq_right (Nat.le_of_not_le c2), List.take_of_length_le (by rw [List.length_drop]; exact Nat.le_refl _), List.take_of_length_le (by rw [List.length_drop]; exact Nat.sub_le_sub_right (Nat.le_of_not_le c2) _)]
  · rw [List.drop_of_length_le (Nat.le_of_not_le c1), List.take_nil, List.take_nil]
theorem pick_list {vs : Array Value} {xs : List V} (hv : VRs X W vs.toList xs) {lo hi : Option Int} (h1 : notNeg lo = true) (h2 : notNeg hi = true) : VRs X W (slicePick vs lo hi none).toList (slL xs lo hi) := by
  have key : ∀ (a b : Nat), sliceBounds lo hi none vs.size = ((a : Int), (b : Int), 1) → VRs X W (slicePick vs lo hi none).toList ((xs.drop a).take (b - a)) := fun a b e => by
    rw [kmk_pick_nat _ e]
    exact (hv.drop a).take (b - a)
  have z := hv.toArr
  have neg : ∀ {x : Int}, 0 ≤ x → ¬ x < 0 := fun h => Int.not_lt.mpr h
  cases lo with
  | none =>
    cases hi with
    | none =>
      have := key 0 vs.size (by simp [sliceBounds])
      rw [z, Nat.sub_zero, List.drop_zero, List.take_length] at this
      exact this
    | some y =>
      have hy : 0 ≤ y := of_decide_eq_true h2
      have e : sliceBounds none (some y) none vs.size = (((0 : Nat) : Int), ((min y.toNat vs.size : Nat) : Int), 1) := by
        simp only [sliceBounds, Option.getD_none, show (1 : Int) > 0 by decide, if_true, if_neg (neg hy), clamp_eq hy]
        rfl
      have := key _ _ e
      rw [z, Nat.sub_zero, List.drop_zero, kmk_take_min] at this
      exact this
  | some x =>
    have hx : 0 ≤ x := of_decide_eq_true h1
    cases hi with
    | none =>
      have e : sliceBounds (some x) none none vs.size = (((min x.toNat vs.size : Nat) : Int), ((vs.size : Nat) : Int), 1) := by
        simp only [sliceBounds, Option.getD_none, show (1 : Int) > 0 by decide, if_true, if_neg (neg hx), clamp_eq hx, max0]
      have := key _ _ e
      rw [z, kmk_drop_min, List.take_of_length_le (by rw [List.length_drop]; exact Nat.sub_le_sub_left (Nat.min_le_left _ _) _)] at this
      exact this
    | some y =>
      have hy : 0 ≤ y := of_decide_eq_true h2
      have e : sliceBounds (some x) (some y) none vs.size = (((min x.toNat vs.size : Nat) : Int), ((min y.toNat vs.size : Nat) : Int), 1) := by
        simp only [sliceBounds, Option.getD_none, show (1 : Int) > 0 by decide, if_true, if_neg (neg hx), if_neg (neg hy), clamp_eq hx, clamp_eq hy, max0]
      have := key _ _ e
      rw [z, take_cut] at this
      exact this
theorem slL_len (xs : List V) (lo hi : Option Int) : (slL xs lo hi).length ≤ xs.length := by
  cases lo with
  | none =>
    cases hi with
    | none => exact Nat.le_refl _
    | some b => exact List.length_take_le' _ _
  | some a =>
    cases hi with
    | none => rw [show slL xs (some a) none = xs.drop a.toNat from rfl, List.length_drop]; exact Nat.sub_le _ _
    | some b => exact Nat.le_trans (List.length_take_le' _ _) (by rw [List.length_drop]; exact Nat.sub_le _ _)
theorem part_of {v : Value} {o : Option V} {i : Option Int} (hv : VR X W v (o.getD .none)) (e : optI o = some i) : IsPart v i := by
  cases o with
  | none => cases e; cases hv; exact .none
  | some x =>
    cases x with
    | int i => cases e; cases hv; exact .int _ _
    | _ => cases e
abbrev slO (a b c : Value) : Obj := { cls := .type "slice", data := .fields #[a, b, c] }
section
variable {fz : Bool} {k : LV → Prop} {Q : Value → Shared → Prop} (o : OpQ X fz W H s k Q) (R : RelH X W H s.heap)
include o R
/-- behind a new slice object -/
theorem OpQ.behind {ob : Obj} : OpQ X fz W H { s with heap := s.heap.push ob } k Q ∧ RelH X W H (s.heap.push ob) := by
  have hp : ∀ b o, s.heap.get? b = some o → (s.heap.push ob).get? b = some o := fun _ _ q => Heap.get?_push_of_some _ q
  have S₁ : Stp noPv W H s.heap W H (s.heap.push ob) := .quiet (fun a o q _ => hp a o q) fun a o q => ⟨o, hp a o q⟩
  exact ⟨⟨fun r v' s' W' H' T z q => o.out r v' s' W' H' ⟨S₁.trans T.stp, T.rel, ⟨T.rest.gens, T.rest.drawn, T.rest.os⟩⟩ z q, o.sz⟩, R.quiet (Pv := noPv) (fun a o q _ => hp a o q) fun _ z => z.elim⟩
theorem sl_ok {a vl vu : Value} {x : V} {lo hi : Option Int} {value slice : Expr} (ha : Sn X W s.heap a x) (pl : IsPart vl lo) (pu : IsPart vu hi) (e : slK x lo hi k) :
    wpAny (model X.prog X.w) A (newFields "slice" [vl, vu, .none]) (fun i s₁ => wpAny (model X.prog X.w) A (subscriptTail value slice a i) Q E s₁) E s := by
  obtain ⟨h1, h2, e⟩ := e
  obtain ⟨o₁, R₁⟩ := o.behind R (ob := slO vl vu .none)
  refine wpAny_newObj_type ?_
  cases ha with
  | lst g r q z =>
    have hg₁ := Heap.get?_push_of_some (slO vl vu .none) g
    exact sub_tail (s := { s with heap := s.heap.push (slO vl vu .none) }) ⟨_, hg₁, rfl⟩ list_getitem_lookup
      (wpAny_getItem_list_slice (isList_of hg₁) (Heap.IsSliceOf.new ..) pl pu .none (by simp) (o₁.push (n := 0) R₁ (pick_list r h1 h2) e) (by rw [z]; exact szLine q))
  | _ => exact e.elim
theorem rev_ok {a : Value} {xs : List V} {t : Tok} {value slice : Expr} (ha : SqL X W s.heap a xs) (e : k (.newList xs.reverse)) :
    wpAny (model X.prog X.w) A (newFields "slice" [.none, .none, .int (-1) t]) (fun i s₁ => wpAny (model X.prog X.w) A (subscriptTail value slice a i) Q E s₁) E s := by
  obtain ⟨l, vs, n, rfl, g, r, q, z⟩ := ha
  obtain ⟨o₁, R₁⟩ := o.behind R (ob := slO .none .none (.int (-1) t))
  refine wpAny_newObj_type ?_
  have hg₁ := Heap.get?_push_of_some (slO .none .none (.int (-1) t)) g
  refine sub_tail (s := { s with heap := s.heap.push (slO .none .none (.int (-1) t)) }) ⟨_, hg₁, rfl⟩ list_getitem_lookup
    (wpAny_getItem_list_slice (isList_of hg₁) (Heap.IsSliceOf.new ..) .none .none (.int (-1) t) (by simp) ?_ (by rw [z]; exact szLine q))
  rw [krv_pick]
  exact o₁.push (n := 0) R₁ r.reverse e
end

/-! built-in functions -/
theorem rngL_get (c : Int) (n : Nat) : ∀ (a : Int) (k : Nat), k < n → (rngL a c n)[k]? = some (.int (a + k * c)) := by
  induction n with
  | zero => intro a k h; exact absurd h (Nat.not_lt_zero _)
  | succ n ih =>
    intro a k h
    cases k with
    | zero => show some (V.int a) = _; rw [Int.natCast_zero, Int.zero_mul, Int.add_zero]
    | succ k =>
      show (rngL (a + c) c n)[k]? = _
      rw [ih (a + c) k (Nat.lt_of_succ_lt_succ h), Int.natCast_succ, Int.add_mul, Int.one_mul, Int.add_assoc, Int.add_comm c]
theorem rngL_length (c : Int) (n : Nat) : ∀ a : Int, (rngL a c n).length = n := by
  induction n with
  | zero => intro a; rfl
  | succ n ih => intro a; exact congrArg (· + 1) (ih (a + c))
theorem VRs.ofGet {vs : List Value} {xs : List V} (hl : vs.length = xs.length) (h : ∀ (k : Nat) (v : Value) (x : V), vs[k]? = some v → xs[k]? = some x → VR X W v x) : VRs X W vs xs := by
  induction vs generalizing xs with
  | nil => cases xs with
    | nil => exact .nil
    | cons => cases hl
  | cons v vs ih => cases xs with
    | nil => cases hl
    | cons x xs => exact .cons (h 0 v x rfl rfl) (ih (Nat.succ.inj hl) fun k v x a b => h (k + 1) v x a b)
theorem rng_small {a b c : Int} (hc : c = 1 ∨ c = -1) (ha : a.natAbs ≤ SZ) (hb : b.natAbs ≤ SZ) : Builtin.Range.small a b c = true := by
  unfold Builtin.Range.small
  rw [rng_size hc]
  unfold SZ at *
  have hn : rngN a b c ≤ 2097152 := by
    unfold rngN
    rcases hc with rfl | rfl
    · simp; omega
    · simp; omega
  have f : ∀ x : Int, x.natAbs ≤ 4194304 → Builtin.Range.rangeFitsLong x = true := fun x hx => by
    unfold Builtin.Range.rangeFitsLong
    simp
    omega
  rw [f a (by omega), f b (by omega), f _ (by omega : ((rngN a b c : Nat) : Int).natAbs ≤ 4194304)]
  rcases hc with rfl | rfl
  · rw [f 1 (by decide)]
    simp only [show (1 : Int) > 0 by decide, if_true, Bool.true_and, Bool.or_eq_true]
    exact .inr (f _ (by omega))
  · rw [f (-1) (by decide)]
    simp only [show ¬ ((-1 : Int) > 0) by decide, if_false, Bool.true_and, Bool.or_eq_true]
    exact .inr (f _ (by omega))
theorem rngN_le {a b c : Int} (ha : a.natAbs ≤ SZ) (hb : b.natAbs ≤ SZ) : rngN a b c ≤ 2 ^ 24 := by
  unfold SZ at *; unfold rngN; split
  · omega
  · split <;> omega
noncomputable def quietB (A : Around) (b : B) : Prop := A.handled = none ∨ b = .len ∨ b = .isinstance
theorem len_ok {v : Value} {x : V} {n : Nat} {fz : Bool} {k : LV → Prop} {Q : Value → Shared → Prop} (o : OpQ X fz W H s k Q) (R : RelH X W H s.heap) (hv : VR X W v x) (e : lenH H x = some n) (h : k (.val (.int n))) : wpAny (model X.prog X.w) A (call (bval .len) [v]) Q E s := by
  have lst : ∀ {l : Addr} {vs : Array Value} {m : Nat} {xs : List V}, s.heap.get? l = some (lstO vs m) → VRs X W vs.toList xs → xs.length ≤ SZ → some xs.length = some n → wpAny (model X.prog X.w) A (call (bval .len) [.ref l]) Q E s := fun {l vs m xs} g r q e => by
    refine call_len_list (isList_of g) (by rw [r.toArr]; exact sz63 q) ?_
    rw [r.toArr, Option.some.inj e]; exact o.val R (.int ..) h
  cases hv with
  | str t u ok z => exact PySem.P.len_str (Int.not_le.mpr (sz63 z)) (by rw [Option.some.inj e]; exact o.val R (.int ..) h)
  | tup z r q =>
    refine len_tuple (isTup_of (R.z _ _ z)) (by rw [r.toArr]; exact sz63 q) ?_
    rw [r.toArr, Option.some.inj e]; exact o.val R (.int ..) h
  | lst z r q => exact lst (R.z _ _ z) r q e
  | @ref i l hl =>
    have e : (match H.get i with | some (.list xs) => some xs.length | some (.dict kvs) => some kvs.length | _ => none) = some n := e
    cases hc : H.get i with
    | none => rw [hc] at e; cases e
    | some c =>
      rw [hc] at e
      have q := R.at_ hc hl
      cases c with
      | list xs => obtain ⟨vs, m, g, r, _, z⟩ := q; exact lst g r z e
      | dict kvs =>
        obtain ⟨es, d, r, _, ne, z⟩ := q
        refine call_len_dict ne d (by rw [r.len]; exact sz63 z) ?_
        rw [r.len, Option.some.inj e]; exact o.val R (.int ..) h
      | _ => cases e
  | _ => cases e
theorem b1_ok {b : B} {v : Value} {x : V} {fz : Bool} {k : LV → Prop} {Q : Value → Shared → Prop} (o : OpQ X fz W H s k Q) (hh : quietB A b) (R : RelH X W H s.heap) (hv : VR X W v x) (e : b1K b (see H x) (lenH H x) k) : wpAny (model X.prog X.w) A (call (bval b) [v]) Q E s := by
  have hq : (b ≠ .len ∧ b ≠ .isinstance) → A.handled = none := fun z => hh.elim id fun q => (q.elim (fun q => absurd q z.1) fun q => absurd q z.2)
  cases b with
  | len => exact need_e e fun n en e => len_ok o R hv en e
  | list =>
    refine need_e e fun y ey e => need_e e fun xs ex e => ?_
    cases see_ok R hv ey with
    | lst g r q z => cases ex; exact call_list_seq _ (.inl rfl) g rfl rfl (fun h' c' hk ha => o.list R r hk (push_none _) ha e) (by rw [z]; exact szLine q)
    | tup g r q z => cases ex; exact call_list_seq _ (.inr rfl) g rfl rfl (fun h' c' hk ha => o.list R r hk (push_none _) ha e) (by rw [z]; exact szLine q)
    | @rng rr a b c t u v z p q hc =>
      cases ex
      refine call_list_range (hq ⟨(nomatch ·), (nomatch ·)⟩) z (rng_small hc p q) (rng_size hc) (rngN_le p q) fun h' tk acc' c' hk ha hacc => ?_
      refine o.list R (vs := acc') (VRs.ofGet ?_ fun k v x e1 e2 => ?_) hk (push_none _) ha e
      · rw [rngL_length, Array.length_toList]; exact hacc.1
      · have hk' : k < rngN a b c := by
          have := (List.getElem?_eq_some_iff.mp e2).1
          rwa [rngL_length] at this
        rw [rngL_get _ _ _ _ hk'] at e2
        cases e2
        obtain ⟨t, q⟩ := hacc.2 k v (by rw [← Array.getElem?_toList]; exact e1)
        rw [q]; exact .int _ _
    | _ => cases ex
  | sorted => exact e.elim
  | tuple =>
    refine need_e e fun y ey e => need_e e fun xs ex e => ?_
    obtain ⟨l, vs, n, rfl, g, r, q, z⟩ := (see_ok R hv ey).toLst ex
    refine call_tuple_list (isList_of g) (fun h' hk => ?_) (by rw [z]; exact szLine q)
    have hn : s.heap.get? h'.objs.size = none := by
      cases q : s.heap.get? h'.objs.size with
      | none => rfl
      | some o => exact absurd (Heap.lt_size (hk _ _ q)) (Nat.lt_irrefl _)
    exact o.fro (tk := s.toks) R (fun b o e => Heap.get?_push_of_some _ (hk b o e)) hn (Heap.get?_push_size _ rfl) (.tup addZ_self (r.le (R.leZ hn)) q) e
  | int =>
    refine need_e e fun y ey e => need_e e fun c ec e => ?_
    rw [(see_ok R hv ey).toBool ec]
    refine PySem.call_int_bool ?_
    cases c <;> exact o.val R (.int ..) e
  | range => exact need_e e fun y ey e => need_e e fun n en e => ((see_ok R hv ey).toInt en).elim fun t q => q ▸ call_range_1 (o.fro R (fun _ _ e => Heap.get?_push_of_some _ e) (push_none _) (Heap.get?_push_size _ rfl) (.rng addZ_self (by decide) e.1 (.inl rfl)) e.2)
  | _ => exact e.elim
theorem b2_ok {b : B} {v w : Value} {x y : V} {fz : Bool} {k : LV → Prop} {Q : Value → Shared → Prop} (o : OpQ X fz W H s k Q) (hh : quietB A b) (R : RelH X W H s.heap) (h1 : VR X W v x) (h2 : VR X W w y) (e : need (see H x) fun x => need (see H y) fun y => b2K b x y k) : wpAny (model X.prog X.w) A (call (bval b) [v, w]) Q E s := by
  have hq : (b ≠ .len ∧ b ≠ .isinstance) → A.handled = none := fun z => hh.elim id fun q => (q.elim (fun q => absurd q z.1) fun q => absurd q z.2)
  cases b with
  | max =>
    refine ints_ok R h1 h2 e fun i j t u q q' e => ?_
    subst q q'
    refine max_two_ints (hq ⟨(nomatch ·), (nomatch ·)⟩) fun h' tk hk => ?_
    split
    · rename_i c; exact o.more R hk (x := .int (if j > i then j else i)) (by rw [if_pos c]; exact .int _ _) e
    · rename_i c; exact o.more R hk (x := .int (if j > i then j else i)) (by rw [if_neg c]; exact .int _ _) e
  | min =>
    refine ints_ok R h1 h2 e fun i j t u q q' e => ?_
    subst q q'
    refine min_two_ints (hq ⟨(nomatch ·), (nomatch ·)⟩) fun h' tk hk => ?_
    split
    · rename_i c; exact o.more R hk (x := .int (if j < i then j else i)) (by rw [if_pos c]; exact .int _ _) e
    · rename_i c; exact o.more R hk (x := .int (if j < i then j else i)) (by rw [if_neg c]; exact .int _ _) e
  | range =>
    refine ints_ok R h1 h2 e fun i j t u q q' e => ?_
    subst q q'
    exact call_range_2 (o.fro R (fun _ _ e => Heap.get?_push_of_some _ e) (push_none _) (Heap.get?_push_size _ rfl) (.rng addZ_self e.1.1 e.1.2 (.inl rfl)) e.2)
  | _ => exact need_e e fun _ _ e => need_e e fun _ _ e => e.elim
theorem b3_ok {b : B} {u v w : Value} {x y z : V} {fz : Bool} {k : LV → Prop} {Q : Value → Shared → Prop} (o : OpQ X fz W H s k Q) (R : RelH X W H s.heap) (h1 : VR X W u x) (h2 : VR X W v y) (h3 : VR X W w z) (e : need (see H x) fun x => need (see H y) fun y => need (see H z) fun z => b3K b x y z k) : wpAny (model X.prog X.w) A (call (bval b) [u, v, w]) Q E s := by
  cases b with
  | range =>
    refine need_e e fun x ex e => need_e e fun y ey e => need_e e fun z ez e => need_e e fun c ec e => ((see_ok R h3 ez).toInt ec).elim fun t q => need_e e fun i ei e => need_e e fun j ej e => ((see_ok R h1 ex).toInt ei).elim fun t1 q1 => ((see_ok R h2 ey).toInt ej).elim fun t2 q2 => ?_
    subst q q1 q2
    obtain ⟨⟨n1, n2, rfl⟩, e⟩ := e
    exact call_range_3 (by decide) (o.fro R (fun _ _ e => Heap.get?_push_of_some _ e) (push_none _) (Heap.get?_push_size _ rfl) (.rng addZ_self n1 n2 (.inr rfl)) e) (.inl (PyProof.noPylong_small (by decide)))
  | _ => exact need_e e fun _ _ e => need_e e fun _ _ e => need_e e fun _ _ e => e.elim
theorem callB_ok {K : Frag} {b : B} {vs : List Value} {xs : List V} {fz : Bool} {k : LV → Prop} {Q : Value → Shared → Prop} (o : OpQ X fz W H s k Q) (I : IsiK X K) (hh : quietB A b) (R : RelH X W H s.heap) (hv : VRs X W vs xs) (e : callB X.P H b xs k) : wpAny (model X.prog X.w) A (call (bval b) vs) Q E s := by
  cases hv with
  | nil => exact e.elim
  | cons h1 r =>
    cases r with
    | nil => exact b1_ok o hh R h1 e
    | cons h2 r =>
      cases r with
      | nil =>
        refine Br_e e (fun q e => ?_) fun _ e => b2_ok o hh R h1 h2 e
        cases b with
        | isinstance => exact isi_ok I R h1 h2 e fun r tk z => o.val R (.bool _) z
        | _ => cases q
      | cons h3 r =>
        cases r with
        | nil => exact b3_ok o R h1 h2 h3 e
        | cons _ _ => exact e.elim
end
end Mine

end

section
set_option autoImplicit false
set_option linter.all false
set_option genSizeOf false
set_option genInjectivity false
namespace Mine
open PySem

/-! The P-text is the text's: a look, place by place. -/
/-- a scope; hd: no exception is being handled -/
structure Sc where
  sc : Scope
  hd : Bool
/-- what a look is told: the names, the names that may be called while an exception is handled, «append» -/
structure Ck where
  nm : Nat → Str
  qg : Nat → Bool
  ap : Nat
noncomputable def nkNo : NameKind → Nat
  | .local => 1
  | .cell => 2
  | .free => 3
  | .globalImplicit => 4
  | _ => 0
noncomputable def knd (sc : Sc) (x : Str) : Nat := match sc.sc.names.lookup x with
  | some k => nkNo k
  | none => 0
noncomputable def kLoc (sc : Sc) (x : Str) : Bool := Nat.ble 1 (knd sc x) && Nat.ble (knd sc x) 3
noncomputable def kLocal (sc : Sc) (x : Str) : Bool := Nat.beq (knd sc x) 1
noncomputable def kStore (sc : Sc) (x : Str) : Bool := Nat.beq (knd sc x) 1 || Nat.beq (knd sc x) 2
noncomputable def kGlob (sc : Sc) (x : Str) : Bool := Nat.beq (knd sc x) 4
noncomputable def nkOf : Nat → NameKind
  | 1 => .local
  | 2 => .cell
  | 3 => .free
  | _ => .globalImplicit
theorem nk_of {k : NameKind} (h : nkNo k ≠ 0) : k = nkOf (nkNo k) := by cases k <;> first | rfl | exact absurd rfl h
theorem knd_of {sc : Sc} {x : Str} {n : Nat} (h : knd sc x = n) (hn : n ≠ 0) : sc.sc.names.lookup x = some (nkOf n) := by
  have h : (match sc.sc.names.lookup x with | some k => nkNo k | none => 0) = n := h
  cases q : sc.sc.names.lookup x with
  | none => rw [q] at h; exact absurd h.symm hn
  | some k => rw [q] at h; rw [← h, ← nk_of (fun z => hn (h.symm.trans z))]
noncomputable def nDbg (x : Str) : Bool := !(x == ("__debug__" : Str)) && !(x == ("__classdict__" : Str))

/-! a text taken apart -/
structure XU where
  tag : Nat
  a : Expr
  b : Expr
  c : Expr
  l : List Expr
  os : List (Option Expr)
  s : Str
  v : Const
  o : Operator
  u : UnaryOp
  cs : List CmpOp
  bo : BoolOp
  kw : List Keyword
  gs : List Comprehension
  sc : Option Scope
  k : Nat
  o0 : Option Expr
  o1 : Option Expr
  o2 : Option Expr
  p : Pos
noncomputable def X0 (e : Expr) (p : Pos) : XU := ⟨0, e, e, e, [], [], Str.empty, .none, .Add, .Not, [], .And, [], [], none, 0, none, none, none, p⟩
noncomputable def xu (e : Expr) : XU := match e with
  | .Constant v k p => { X0 e p with tag := 1, v := v, k := k }
  | .Name x p => { X0 e p with tag := 2, s := x }
  | .Attribute a x p => { X0 e p with tag := 3, a := a, s := x }
  | .BinOp a o b p => { X0 e p with tag := 4, a := a, o := o, b := b }
  | .UnaryOp u a p => { X0 e p with tag := 5, u := u, a := a }
  | .Compare a cs l p => { X0 e p with tag := 6, a := a, cs := cs, l := l }
  | .BoolOp bo l p => { X0 e p with tag := 7, bo := bo, l := l }
  | .IfExp a b c p => { X0 e p with tag := 8, a := a, b := b, c := c }
  | .List l p => { X0 e p with tag := 9, l := l }
  | .Tuple l k p => { X0 e p with tag := 10, l := l, k := k }
  | .Dict os l p => { X0 e p with tag := 11, os := os, l := l }
  | .Subscript a b p => { X0 e p with tag := 12, a := a, b := b }
  | .Slice o0 o1 o2 p => { X0 e p with tag := 13, o0 := o0, o1 := o1, o2 := o2 }
  | .Call a l kw p => { X0 e p with tag := 14, a := a, l := l, kw := kw }
  | .ListComp a gs sc p => { X0 e p with tag := 15, a := a, gs := gs, sc := some sc }
  | .Lambda _ _ _ p => { X0 e p with tag := 16 }
  | .Set _ _ p => { X0 e p with tag := 17 }
  | .NamedExpr _ _ p => X0 e p
  | .SetComp _ _ _ p => X0 e p
  | .DictComp _ _ _ _ p => X0 e p
  | .GeneratorExp _ _ _ p => X0 e p
  | .Await _ p => X0 e p
  | .Yield _ p => X0 e p
  | .YieldFrom _ p => X0 e p
  | .FormattedValue _ _ _ p => X0 e p
  | .JoinedStr _ p => X0 e p
  | .Starred _ p => X0 e p
noncomputable def scOf (t : XU) : Scope := t.sc.getD ⟨.function, [], false, false, []⟩
/-- the text again -/
noncomputable def backs (t : XU) : List Expr := [t.a, .Constant t.v t.k t.p, .Name t.s t.p, .Attribute t.a t.s t.p, .BinOp t.a t.o t.b t.p, .UnaryOp t.u t.a t.p, .Compare t.a t.cs t.l t.p, .BoolOp t.bo t.l t.p, .IfExp t.a t.b t.c t.p, .List t.l t.p, .Tuple t.l t.k t.p, .Dict t.os t.l t.p, .Subscript t.a t.b t.p, .Slice t.o0 t.o1 t.o2 t.p, .Call t.a t.l t.kw t.p, .ListComp t.a t.gs (scOf t) t.p]
noncomputable def back (t : XU) (n : Nat) : Expr := (backs t)[n]?.getD t.a
theorem xu_ok (e : Expr) : Nat.blt (xu e).tag 16 = true → e = back (xu e) (xu e).tag := by
  cases e <;> first | exact fun _ => rfl | exact fun h => nomatch h
theorem xu_is {e : Expr} {n : Nat} (h : Nat.beq (xu e).tag n = true) (hn : Nat.blt n 16 = true) : e = back (xu e) n := by
  have h := Nat.eq_of_beq_eq_true h
  rw [← h] at hn
  exact (xu_ok e hn).trans (by rw [h])
noncomputable def on {α : Type} (o : Option α) (f : α → Bool) : Bool := match o with
  | some a => f a
  | none => false
noncomputable def chkC (v : V) : Const → Bool
  | .none => isNone v
  | .bool b => on (aBool v) fun c => c == b
  | .int i => on (aInt v) fun c => decide (c = i)
  | .str s => on (aStr v) fun c => decide (c = s) && PyData.strOk s && decide (s.length ≤ SZ)
  | _ => false
noncomputable def notSuper (e : Expr) : Bool := !(Nat.beq (xu e).tag 14 && (xu e).l.isEmpty && (xu e).kw.isEmpty && Nat.beq (xu (xu e).a).tag 2)
noncomputable def uniq : List (Str × NameKind) → Bool
  | [] => true
  | y :: r => r.all (fun z => !(z.1 == y.1)) && uniq r
/-- a comprehension's scope: its own name, names from around, global names -/
noncomputable def chkSc (nm : Nat → Str) (sc : Sc) (sc' : Scope) (ts : List Nat) : Bool := (match sc'.kind with | .function => true | _ => false) && uniq sc'.names &&
  sc'.names.all fun y => match nkNo y.2 with
    | 1 => y.1 == (".0" : Str) || ts.any (fun i => decide (y.1 = nm i))
    | 3 => Nat.beq (knd sc y.1) 2 || Nat.beq (knd sc y.1) 3
    | 4 => true
    | _ => false

inductive A3 (a b c : Bool) : Prop
  | mk (x : a = true) (y : b = true) (z : c = true)
theorem and2 {a b : Bool} (h : (a && b) = true) : a = true ∧ b = true := by cases a <;> cases b <;> first | exact ⟨rfl, rfl⟩ | cases h
/-- what stands behind «and», one by one -/
theorem and_e {a b : Bool} {G : Prop} (h : (a && b) = true) (g : a = true → b = true → G) : G := g (and2 h).1 (and2 h).2
theorem and3_e {a b c : Bool} {G : Prop} (h : (a && b && c) = true) (g : a = true → b = true → c = true → G) : G := and_e h fun h z => and_e h fun x y => g x y z
theorem and4_e {a b c d : Bool} {G : Prop} (h : (a && b && c && d) = true) (g : a = true → b = true → c = true → d = true → G) : G := and_e h fun h u => and3_e h fun x y z => g x y z u
theorem and5_e {a b c d e : Bool} {G : Prop} (h : (a && b && c && d && e) = true) (g : a = true → b = true → c = true → d = true → e = true → G) : G := and_e h fun h v => and4_e h fun x y z u => g x y z u v
theorem and6_e {a b c d e f : Bool} {G : Prop} (h : (a && b && c && d && e && f) = true) (g : a = true → b = true → c = true → d = true → e = true → f = true → G) : G := and_e h fun h w => and5_e h fun x y z u v => g x y z u v w
theorem on_e {α : Type} {o : Option α} {f : α → Bool} {G : Prop} (h : on o f = true) (g : ∀ a, o = some a → f a = true → G) : G := by
  cases o with
  | none => cases h
  | some a => exact g a rfl h
noncomputable def x2 {α : Type} : List α → Option (α × α) | [a, b] => some (a, b) | _ => none
noncomputable def x0 {α : Type} : Option α → Bool | none => true | _ => false
theorem one_ok {α : Type} {l : List α} {a : α} (h : one l = some a) : l = [a] := by
  match l, h with
  | [_], h => cases h; rfl
theorem x2_ok {α : Type} {l : List α} {t : α × α} (h : x2 l = some t) : l = [t.1, t.2] := by
  match l, h with
  | [_, _], h => cases h; rfl
theorem x0_ok {α : Type} {o : Option α} (h : x0 o = true) : o = none := by
  cases o with
  | none => rfl
  | some _ => cases h
theorem head_ok {α : Type} {l : List α} {x : α} (h : l.head? = some x) : l = x :: l.tail := by
  cases l with
  | nil => cases h
  | cons a r => cases h; rfl
theorem empty_ok {α : Type} {l : List α} (h : l.isEmpty = true) : l = [] := by
  cases l with
  | nil => rfl
  | cons a r => cases h
noncomputable def tg (e : Expr) (n : Nat) : Bool := Nat.beq (xu e).tag n
noncomputable def isM1 (e : Expr) : Bool := tg e 5 && decide ((xu e).u = .USub) && tg (xu e).a 1 && decide ((xu (xu e).a).v = .int 1)
/-- a test that is no «not», no «and», no «or», no «if» -/
noncomputable def plainTest (e : Expr) : Bool := !(tg e 5 && decide ((xu e).u = .Not)) && !tg e 7 && !tg e 8
/-- names to be bound, one by one -/
noncomputable def tgts (nm : Nat → Str) (sc : Sc) : List Nat → List Expr → Bool
  | [], l => l.isEmpty
  | i :: is, l => on l.head? fun t => tg t 2 && decide ((xu t).s = nm i) && kLocal sc (xu t).s && tgts nm sc is l.tail
/-- what is bound: a name, or some in a tuple -/
noncomputable def chkTgt (nm : Nat → Str) (sc : Sc) (ts : List Nat) (t : Expr) : Bool := (tg t 2 && on (one ts) fun j => decide ((xu t).s = nm j) && kLocal sc (xu t).s) || (tg t 10 && Nat.ble 2 ts.length && tgts nm sc ts (xu t).l)
/-- a name that may be called while an exception is handled -/
noncomputable def qGlob (c : Ck) : PE → Bool
  | .glob i => c.qg i
  | _ => false
noncomputable def noKV : PKV → Bool
  | .nil => true
  | _ => false
noncomputable def dcO (a b : Operator) : Bool := decide (a = b)

mutual
noncomputable def chkE (c : Ck) (sc : Sc) : PE → Expr → Bool
  | .cst v, e => tg e 1 && chkC v (xu e).v
  | .loc i, e => tg e 2 && decide ((xu e).s = c.nm i) && kLoc sc (xu e).s && nDbg (xu e).s
  | .glob i, e => tg e 2 && decide ((xu e).s = c.nm i) && kGlob sc (xu e).s && nDbg (xu e).s
  | .attr o n, e => tg e 3 && chkE c sc o (xu e).a && decide ((xu e).s = c.nm n) && notSuper (xu e).a
  | .bin _ op l r, e => tg e 4 && decide ((xu e).o = opOf op) && chkE c sc l (xu e).a && chkE c sc r (xu e).b
  | .neg a, e => tg e 5 && decide ((xu e).u = .USub) && chkE c sc a (xu e).a
  | .not a, e => tg e 5 && decide ((xu e).u = .Not) && chkE c sc a (xu e).a
  | .cmp op l r, e => tg e 6 && on (one (xu e).cs) fun o => on (one (xu e).l) fun r' => decide (o = cmpOf op) && chkE c sc l (xu e).a && chkE c sc r r'
  | .cmp2 o₁ o₂ a b d, e => tg e 6 && on (x2 (xu e).cs) fun o => on (x2 (xu e).l) fun r => decide (o.1 = cmpOf o₁) && decide (o.2 = cmpOf o₂) && chkE c sc a (xu e).a && chkE c sc b r.1 && chkE c sc d r.2
  | .and es, e => tg e 7 && decide ((xu e).bo = .And) && chkEs c sc es (xu e).l
  | .or es, e => tg e 7 && decide ((xu e).bo = .Or) && chkEs c sc es (xu e).l
  | .ite d a b, e => tg e 8 && chkT c sc d (xu e).a && chkE c sc a (xu e).b && chkE c sc b (xu e).c
  | .list _ es, e => tg e 9 && chkEs c sc es (xu e).l
  | .tup es, e => tg e 10 && chkEs c sc es (xu e).l
  | .dict kvs, e => tg e 11 && noKV kvs && (xu e).os.isEmpty && (xu e).l.isEmpty
  | .idx a i, e => tg e 12 && chkE c sc a (xu e).a && chkE c sc i (xu e).b
  | .sl _ a lo hi, e => tg e 12 && tg (xu e).b 13 && chkE c sc a (xu e).a && chkO c sc lo (xu (xu e).b).o0 && chkO c sc hi (xu (xu e).b).o1 && x0 (xu (xu e).b).o2
  | .rev _ a, e => tg e 12 && tg (xu e).b 13 && chkE c sc a (xu e).a && x0 (xu (xu e).b).o0 && x0 (xu (xu e).b).o1 && on (xu (xu e).b).o2 isM1
  | .call _ f as, e => tg e 14 && tg (xu e).a 2 && chkE c sc f (xu e).a && chkEs c sc as (xu e).l && (xu e).kw.isEmpty && (sc.hd || qGlob c f)
  | .sortedRev _ _, _ => false
  | .sortedU _ _ _, _ => false
  | .lenSet _, _ => false
  | .meth _ o n as, e => tg e 14 && tg (xu e).a 3 && chkE c sc o (xu (xu e).a).a && decide ((xu (xu e).a).s = c.nm n) && chkEs c sc as (xu e).l && (notSuper (xu (xu e).a).a && Nat.ble (xu e).l.length 20 && (xu e).kw.isEmpty && Nat.beq (xu (xu e).a).p.endLine (xu e).p.line && (sc.hd || Nat.beq n c.ap))
  | .comp _ elt ts it cond, e => tg e 15 && on (one (xu e).gs) fun g =>
      chkE c ⟨scOf (xu e), true⟩ elt (xu e).a && chkTgt c.nm ⟨scOf (xu e), true⟩ ts g.target && chkE c sc it g.iter && chkIf c ⟨scOf (xu e), true⟩ cond g.ifs && chkSc c.nm sc (scOf (xu e)) ts && (decide (g.is_async = 0) && sc.hd)
noncomputable def chkT (c : Ck) (sc : Sc) : PC → Expr → Bool
  | .not d, e => tg e 5 && decide ((xu e).u = .Not) && chkT c sc d (xu e).a
  | .and cs, e => tg e 7 && decide ((xu e).bo = .And) && chkTs c sc cs (xu e).l
  | .or cs, e => tg e 7 && decide ((xu e).bo = .Or) && chkTs c sc cs (xu e).l
  | .e a, e => plainTest e && chkE c sc a e
noncomputable def chkTs (c : Ck) (sc : Sc) : PCs → List Expr → Bool
  | .nil, l => l.isEmpty
  | .cons d r, l => on l.head? fun x => chkT c sc d x && chkTs c sc r l.tail
noncomputable def chkEs (c : Ck) (sc : Sc) : PEs → List Expr → Bool
  | .nil, l => l.isEmpty
  | .cons e r, l => on l.head? fun x => chkE c sc e x && chkEs c sc r l.tail
noncomputable def chkO (c : Ck) (sc : Sc) : PEo → Option Expr → Bool
  | .none, o => x0 o
  | .some e, o => on o fun x => chkE c sc e x
noncomputable def chkIf (c : Ck) (sc : Sc) : PCo → List Expr → Bool
  | .none, l => l.isEmpty
  | .some d, l => on (one l) fun x => chkT c sc d x
end
/-- only the kinds of expression that are told apart -/
theorem chk_tag {c : Ck} {sc : Sc} {p : PE} {e : Expr} (h : chkE c sc p e = true) : Nat.ble 1 (xu e).tag = true ∧ Nat.ble (xu e).tag 15 = true := by
  have k : ∀ n, tg e n = true → (Nat.ble 1 n && Nat.ble n 15) = true → Nat.ble 1 (xu e).tag = true ∧ Nat.ble (xu e).tag 15 = true := fun n h q => by
    rw [show (xu e).tag = n from Nat.eq_of_beq_eq_true h]; exact and2 q
  cases p with
  | cst _ => exact k 1 (and2 h).1 rfl
  | loc _ => exact and4_e h fun a _ _ _ => k 2 a rfl
  | glob _ => exact and4_e h fun a _ _ _ => k 2 a rfl
  | attr _ _ => exact and4_e h fun a _ _ _ => k 3 a rfl
  | bin _ _ _ _ => exact and4_e h fun a _ _ _ => k 4 a rfl
  | neg _ => exact and3_e h fun a _ _ => k 5 a rfl
  | not _ => exact and3_e h fun a _ _ => k 5 a rfl
  | cmp _ _ _ => exact k 6 (and2 h).1 rfl
  | cmp2 _ _ _ _ _ => exact k 6 (and2 h).1 rfl
  | and _ => exact and3_e h fun a _ _ => k 7 a rfl
  | or _ => exact and3_e h fun a _ _ => k 7 a rfl
  | ite _ _ _ => exact and4_e h fun a _ _ _ => k 8 a rfl
  | list _ _ => exact k 9 (and2 h).1 rfl
  | tup _ => exact k 10 (and2 h).1 rfl
  | dict _ => exact and4_e h fun a _ _ _ => k 11 a rfl
  | idx _ _ => exact and3_e h fun a _ _ => k 12 a rfl
  | sl _ _ _ _ => exact and6_e h fun a _ _ _ _ _ => k 12 a rfl
  | rev _ _ => exact and6_e h fun a _ _ _ _ _ => k 12 a rfl
  | call _ _ _ => exact and6_e h fun a _ _ _ _ _ => k 14 a rfl
  | meth _ _ _ _ => exact and6_e h fun a _ _ _ _ _ => k 14 a rfl
  | comp _ _ _ _ _ => exact k 15 (and2 h).1 rfl
  | _ => cases h

/-! statements -/
structure SU where
  tag : Nat
  a : Expr
  b : Expr
  l : List Expr
  o : Operator
  o0 : Option Expr
  o1 : Option Expr
  b0 : List Stmt
  b1 : List Stmt
  b2 : List Stmt
  hs : List ExceptHandler
  p : Pos
noncomputable def e0 : Expr := .Name Str.empty ⟨0, 0, 0, 0⟩
noncomputable def S0 (p : Pos) : SU := ⟨0, e0, e0, [], .Add, none, none, [], [], [], [], p⟩
noncomputable def su (s : Stmt) : SU := match s with
  | .Expr a p => { S0 p with tag := 1, a := a }
  | .Pass p => { S0 p with tag := 2 }
  | .Assign l a p => { S0 p with tag := 3, l := l, a := a }
  | .Return o p => { S0 p with tag := 4, o0 := o }
  | .If a b0 b1 p => { S0 p with tag := 5, a := a, b0 := b0, b1 := b1 }
  | .For a b b0 b1 p => { S0 p with tag := 6, a := a, b := b, b0 := b0, b1 := b1 }
  | .Raise o0 o1 p => { S0 p with tag := 7, o0 := o0, o1 := o1 }
  | .Try b0 hs b1 b2 p => { S0 p with tag := 8, b0 := b0, hs := hs, b1 := b1, b2 := b2 }
  | .AugAssign a o b p => { S0 p with tag := 9, a := a, o := o, b := b }
  | .While a b0 b1 p => { S0 p with tag := 10, a := a, b0 := b0, b1 := b1 }
  | _ => S0 ⟨0, 0, 0, 0⟩
noncomputable def sbacks (t : SU) : List Stmt := [.Pass t.p, .Expr t.a t.p, .Pass t.p, .Assign t.l t.a t.p, .Return t.o0 t.p, .If t.a t.b0 t.b1 t.p, .For t.a t.b t.b0 t.b1 t.p, .Raise t.o0 t.o1 t.p, .Try t.b0 t.hs t.b1 t.b2 t.p, .AugAssign t.a t.o t.b t.p, .While t.a t.b0 t.b1 t.p]
noncomputable def sback (t : SU) (n : Nat) : Stmt := (sbacks t)[n]?.getD (.Pass t.p)
theorem su_ok (s : Stmt) : Nat.ble 1 (su s).tag = true → s = sback (su s) (su s).tag := by
  cases s <;> first | exact fun _ => rfl | exact fun h => nomatch h
noncomputable def sg (s : Stmt) (n : Nat) : Bool := Nat.beq (su s).tag n
theorem su_is {s : Stmt} {n : Nat} (h : sg s n = true) (hn : Nat.ble 1 n = true) : s = sback (su s) n := by
  have h := Nat.eq_of_beq_eq_true h
  rw [← h] at hn
  exact (su_ok s hn).trans (by rw [h])
noncomputable def xHd : ExceptHandler → Option Expr × Option Str × List Stmt × Pos | .ExceptHandler a b c p => (a, b, c, p)
theorem xHd_ok (e : ExceptHandler) : e = .ExceptHandler (xHd e).1 (xHd e).2.1 (xHd e).2.2.1 (xHd e).2.2.2 := by cases e; rfl

/-- a name that may be stored -/
noncomputable def chkNm (c : Ck) (sc : Sc) (i : Nat) (e : Expr) : Bool := tg e 2 && decide ((xu e).s = c.nm i) && kStore sc (xu e).s
noncomputable def chkPT1 (c : Ck) (sc : Sc) : PT → Expr → Bool
  | .loc i, e => chkNm c sc i e
  | .attr o n, e => tg e 3 && decide ((xu e).s = c.nm n) && chkE c sc o (xu e).a
  | .idx _ _, _ => false
  | .tup _, _ => false
/-- a tuple's names are stored out of no display, out of no comprehension -/
noncomputable def tupOk : PT → Expr → Bool
  | .tup _, x => !tg x 10 && Nat.ble (xu x).tag 14
  | _, _ => true
/-- a global name -/
noncomputable def chkG (c : Ck) (sc : Sc) (i : Nat) (x : Str) : Bool := decide (x = c.nm i) && kGlob sc x && nDbg x
noncomputable def asOk (c : Ck) (sc : Sc) : Option Nat → Option Str → Bool
  | none, o => x0 o
  | some n, o => on o fun x => decide (x = c.nm n) && kLocal sc x
mutual
noncomputable def chkS (c : Ck) (sc : Sc) : PS → Stmt → Bool
  | .expr e, s => sg s 1 && chkE c sc e (su s).a && tg (su s).a 14
  | .pass, s => sg s 2
  | .assign t e, s => sg s 3 && on (one (su s).l) fun y => chkPT1 c sc t y && chkE c sc e (su s).a && tupOk t (su s).a
  | .augLoc i op e, s => sg s 9 && chkNm c sc i (su s).a && kLoc sc (xu (su s).a).s && nDbg (xu (su s).a).s && decide ((su s).o = opOf op) && chkE c sc e (su s).b
  | .augAttr o n op e, s => sg s 9 && tg (su s).a 3 && decide ((xu (su s).a).s = c.nm n) && decide ((su s).o = opOf op) && chkE c sc o (xu (su s).a).a && chkE c sc e (su s).b
  | .ret e, s => sg s 4 && chkO c sc e (su s).o0
  | .ite d a b, s => sg s 5 && chkT c sc d (su s).a && chkSs c sc a (su s).b0 && chkSs c sc b (su s).b1
  | .loop ts it body, s => sg s 6 && (on (one ts) fun j => chkNm c sc j (su s).a) && chkE c sc it (su s).b && chkSs c sc body (su s).b0 && (su s).b1.isEmpty && sc.hd
  | .loopEnum _ _ _ _, _ => false
  | .while_ _ _, _ => false
  | .raise i e, s => sg s 7 && on (su s).o0 fun x => tg x 14 && tg (xu x).a 2 && on (one (xu x).l) fun a => chkG c sc i (xu (xu x).a).s && chkE c sc e a && (xu x).kw.isEmpty && x0 (su s).o1 && sc.hd
  | .try_ body i as h, s => sg s 8 && on (one (su s).hs) fun g => on (xHd g).1 fun x => tg x 2 && on (xHd g).2.2.1.head? fun _ => chkG c sc i (xu x).s && chkSs c sc body (su s).b0 && chkSs c ⟨sc.sc, false⟩ h (xHd g).2.2.1 && asOk c sc as (xHd g).2.1 && ((su s).b1.isEmpty && (su s).b2.isEmpty) && sc.hd
noncomputable def chkSs (c : Ck) (sc : Sc) : PSs → List Stmt → Bool
  | .nil, l => l.isEmpty
  | .cons s r, l => on l.head? fun x => chkS c sc s x && chkSs c sc r l.tail
end
end Mine

end

section
set_option autoImplicit false
set_option linter.all false
set_option genSizeOf false
set_option genInjectivity false
namespace Mine
open PySem PySem.W PySem.Calls PyProof.Rows

/-- room for n more calls -/
structure AOk (A : Around) (n : Nat) : Prop where
  depth : A.depth + 4 * n + 4 < recursionLimit
  units : A.units + 20 * n + 100 < cLine
/-- the same for a body that calls -/
structure AOk2 (A : Around) (n : Nat) : Prop where
  depth : A.depth + 4 * n + 6 < recursionLimit
  units : A.units + 20 * n + 110 < cLine
theorem AOk2.room {A : Around} {n : Nat} (h : AOk2 A n) : Room A := by have := h.units; unfold Room; omega
theorem AOk2.call {A : Around} {n : Nat} (h : AOk2 A n) : AOk A n := ⟨by have := h.depth; omega, by have := h.units; omega⟩

structure EnvOk (X : Cx) (A : Around) (env : Env) (Pv : Pr) (n : Nat) (sc : Sc) : Prop where
  stk : A.frames = some Pv.st
  top : env.func ≠ none → env.frame ≠ none ∧ ∃ outer, Pv.st = env :: outer
  ok : AOk2 A n
  hh : sc.hd = true → A.handled = none
  kind : env.scope.kind = .function
  glob : env.globals = mainGlobals
  bi : env.builtins = builtinsNs
  names : ∀ x k, sc.sc.names.lookup x = some k → env.kindOf x = some k ∨ (k = .free ∧ env.kindOf x = some .cell)
  cl : ∀ x, env.kindOf x = some .cell ∨ env.kindOf x = some .free → ∃ c, env.cells.lookup x = some c

/-- what the looks are told -/
noncomputable def Cx.ck (X : Cx) : Ck := ⟨X.nm, X.qg, X.P.nAppend⟩

/-- a def of the text's stands in the base heap -/
structure FnAt (X : Cx) (q : Bool) (fn : Fn) (a : Addr) (o : Obj) (fd : FuncData) (body : List Stmt) : Prop where
  at_ : X.hb.get? a = some o
  data : o.data = .func fd
  code : X.hb.CodeRec fd.code fd.qualname
  body_ : fd.body = .stmts body
  bind : ∀ vs : List Value, vs.length = fn.params.length → bindArgs fd ⟨vs, []⟩ = pure ((fn.params.map X.nm).zip vs)
  clo : fd.closure = []
  co : fd.scope.isCoroutine = false
  gen : fd.scope.isGenerator = false
  kind : fd.scope.kind = .function
  glob : fd.globals = mainGlobals
  bi : fd.builtins = builtinsNs
  par : ∀ i ∈ fn.params, kStore ⟨fd.scope, true⟩ (X.nm i) = true
  free : ∀ x ∈ fd.scope.names, x.2 ≠ .free
  chk : chkSs X.ck ⟨fd.scope, true⟩ fn.body body = true
  chkq : q = true → chkSs X.ck ⟨fd.scope, false⟩ fn.body body = true
inductive FnIn (X : Cx) (q : Bool) (fn : Fn) (a : Addr) : Prop
  | mk (o : Obj) (fd : FuncData) (body : List Stmt) (h : FnAt X q fn a o fd body)
inductive FnOb (X : Cx) (a : Addr) : Prop
  | mk (o : Obj) (fd : FuncData) (h : X.hb.get? a = some o) (hd : o.data = .func fd)

/-- the built-in part of the exceptions' line -/
abbrev excB : List Value := [.type "ValueError", .type "Exception", .type "BaseException", .type "object"]
/-- a class of exceptions of the text's -/
inductive ExAt (X : Cx) (j : Nat) (c : Addr) : Prop
  | mk (bm : List Value) (N : Addr) (nm : _) (q : _) (bs : _) (hdct : _) (sn : _) (sub : _) (ab : _) (col : _) (dd : _) (k0 k1 k2 k3 k5 : _) (mN : Str → Option Value) (h1 : X.hb.get? c = some (excClassObj nm q c N bs bm hdct sn sub ab col dd k0 k1 k2 k3 k5 "ValueError.__new__")) (h2 : X.hb.Ns N mN) (h3 : mN "__init__" = none) (h4 : OwnTail X.hb excB bm)
    (h5 : ∀ k ck, X.clA k = some ck → (Value.ref c :: bm).contains (.ref ck) = X.P.sub j k)

/-- a global name's value -/
inductive GlAt (X : Cx) (i : Nat) (v : V) : Prop
  | main (cv : Value) (mg : Str → Option Value) (ng : X.hb.Ns mainGlobals mg) (h : mg (X.nm i) = some cv) (r : ∀ W, VR X W cv v)
  | bi (cv : Value) (mg mb : Str → Option Value) (ng : X.hb.Ns mainGlobals mg) (nb : X.hb.Ns builtinsNs mb) (h : mg (X.nm i) = none) (hb : mb (X.nm i) = some cv) (r : ∀ W, VR X W cv v)
/-- what may be called while an exception is handled -/
inductive Qt (X : Cx) : V → Prop
  | fn {k : Nat} (h : X.quiet k = true) : Qt X (.fn k)
  | len : Qt X (.bt .len)
  | isi : Qt X (.bt .isinstance)

/-- what stands fast -/
structure CxOk (X : Cx) : Prop where
  inj : ∀ i j, X.nm i = X.nm j → i = j
  dot : ∀ i, X.nm i ≠ (".0" : Str)
  noLim : X.hb.NoLimit
  glob : ∀ i v, X.P.glob i = some v → GlAt X i v
  nAppend : X.nm X.P.nAppend = Str.ofString "append"
  nPop : X.nm X.P.nPop = Str.ofString "pop"
  nExtend : X.nm X.P.nExtend = Str.ofString "extend"
  nGet : X.nm X.P.nGet = Str.ofString "get"
  nSetdefault : X.nm X.P.nSetdefault = Str.ofString "setdefault"
  fnAt : ∀ k a, X.fnA k = some a → FnOb X a
  fn : ∀ k a d, X.fnA k = some a → X.P.fn k = some d → FnIn X (X.quiet k) d a
  qg : ∀ i v, X.qg i = true → X.P.glob i = some v → Qt X v
  exc : ∀ k c, X.clA k = some c → X.P.exc k = true → ExAt X k c
  apC : ∀ k cl, X.P.cls k = some cl → lk cl.meths X.P.nAppend = none
  isi : ∃ K, IsiK X K
  main : ∃ o, X.hb.get? mainGlobals = some o

inductive COk (X : Cx) (W : Wd) (H : Hp) (s : Shared) (Q : V → Hp → Prop) (v : Value) (s' : Shared) : Prop
  | mk (W' : Wd) (H' : Hp) (av : V) (t : Tc X W H s W' H' s') (r : VR X W' v av) (h : Q av H')
inductive CEr (X : Cx) (W : Wd) (H : Hp) (s : Shared) (E : Nat → Hp → Prop) (e : Value) (s' : Shared) : Prop
  | mk (W' : Wd) (H' : Hp) (i : Nat) (l : Addr × Addr) (k : Nat) (t : Tc X W H s W' H' s') (he : e = .ref l.1) (hl : W'.φ i = some l) (hk : H'.get i = some (.exc k)) (hf : Fly W' H' s.heap s'.heap l.1) (h : E i H')
noncomputable def CPost (X : Cx) (W : Wd) (H : Hp) (s : Shared) (Q : V → Hp → Prop) (E : Nat → Hp → Prop) (r : Result) (s' : Shared) : Prop := match r with
  | .ok (.ret v) => COk X W H s Q v s'
  | .ok _ => False
  | .error e => CEr X W H s E e s'
/-- the frames around -/
noncomputable def FrsAt (A : Around) (W : Wd) (H : Hp) (h : Heap) : Prop := ∃ l, A.frames = some l ∧ ∀ e ∈ l, FrAt W H h e
noncomputable def CallM (X : Cx) (n : Nat) : Prop := ∀ (A : Around) (k : Nat) (a : Addr) (as : List V) (vs : List Value) (W : Wd) (H : Hp) (s : Shared) (Q : V → Hp → Prop) (E : Nat → Hp → Prop),
  AOk A n → (A.handled = none ∨ X.quiet k = true) → FrsAt A W H s.heap → RelH X W H s.heap → VRs X W vs as → X.fnA k = some a → CW X.P n k as H Q E → codeAny (model X.prog X.w) A (.call (.ref a) ⟨vs, []⟩) (CPost X W H s Q E) s

theorem vNone {v : V} (h : isNone v = true) : v = .none := by cases v <;> first | rfl | cases h
theorem vBool {v : V} {b : Bool} (h : aBool v = some b) : v = .bool b := by cases v <;> first | (cases h; rfl) | cases h
theorem vInt {v : V} {b : Int} (h : aInt v = some b) : v = .int b := by cases v <;> first | (cases h; rfl) | cases h
theorem vStr {v : V} {b : Str} (h : aStr v = some b) : v = .str b := by cases v <;> first | (cases h; rfl) | cases h

section
variable {X : Cx} {n : Nat} {sc : Sc}

noncomputable def SE (X : Cx) (n : Nat) (sc : Sc) (p : PE) (e : Expr) : Prop := ∀ (A : Around) (env : Env) (Pv : Pr) (W : Wd) (σ : St) (s : Shared) (Q : V → St → Prop) (E : EP),
  EnvOk X A env Pv n sc → At X env Pv W σ s → wpE X.P (CW X.P n) E p σ Q → Ew X A env Pv (eval e env) W σ s (VQ X Q) E
noncomputable def BQ (Q : Bool → St → Prop) (b : Bool) (_ : Wd) (σ : St) (_ : Shared) : Prop := Q b σ
noncomputable def ST (X : Cx) (n : Nat) (sc : Sc) (p : PC) (e : Expr) : Prop := ∀ (A : Around) (env : Env) (Pv : Pr) (W : Wd) (σ : St) (s : Shared) (Q : Bool → St → Prop) (E : EP),
  EnvOk X A env Pv n sc → At X env Pv W σ s → wpT X.P (CW X.P n) E p σ Q → Ew X A env Pv (isTrue e env (eval e env)) W σ s (BQ Q) E
inductive VsQ (X : Cx) (Q : List V → St → Prop) (vs : List Value) (W' : Wd) (σ' : St) (s' : Shared) : Prop
  | mk (avs : List V) (r : VRs X W' vs avs) (h : Q avs σ')
noncomputable def SEs (X : Cx) (n : Nat) (sc : Sc) (p : PEs) (es : List Expr) : Prop := ∀ (A : Around) (env : Env) (Pv : Pr) (W : Wd) (σ : St) (s : Shared) (Q : List V → St → Prop) (E : EP),
  EnvOk X A env Pv n sc → At X env Pv W σ s → wpEs X.P (CW X.P n) E p σ Q → Ew X A env Pv (spliced (es.map fun e => (false, eval e env))) W σ s (VsQ X Q) E

section
variable {A : Around} {env : Env} {Pv : Pr} {W : Wd} {σ : St} {s : Shared} {E : EP}

/-- only tokens were drawn -/
theorem At.toks {tk : Nat} (at_ : At X env Pv W σ s) : At X env Pv W σ { s with toks := tk } := ⟨at_.rel, at_.fr⟩
theorem At.tf {tk : Nat} (at_ : At X env Pv W σ s) : Tf X env Pv W σ s W σ { s with toks := tk } := ⟨.refl, at_.toks, ⟨rfl, rfl, rfl⟩⟩
theorem At.fin {α : Type} {R : α → Wd → St → Shared → Prop} {v : α} {tk : Nat} (at_ : At X env Pv W σ s) (h : R v W σ { s with toks := tk }) : Go X env Pv W σ s R v { s with toks := tk } := ⟨W, σ, at_.tf, h⟩
theorem At.val {Q : V → St → Prop} {v : Value} {x : V} {tk : Nat} (at_ : At X env Pv W σ s) (r : VR X W v x) (h : Q x σ) : Go X env Pv W σ s (VQ X Q) v { s with toks := tk } := at_.fin ⟨x, r, h⟩
theorem At.bl {Q : Bool → St → Prop} {b : Bool} {tk : Nat} (at_ : At X env Pv W σ s) (h : Q b σ) : Go X env Pv W σ s (BQ Q) b { s with toks := tk } := at_.fin (R := BQ Q) h
/-- an operation's answer -/
theorem At.op {fz : Bool} {Q : V → St → Prop} (at_ : At X env Pv W σ s) : OpQ X fz W σ.H s (give fz σ Q) (Go X env Pv W σ s (VQ X Q)) where
  sz := fun _ h => h.1
  out := fun r v' s' W' H' T q g => by
    have t := T.tf at_
    cases r with
    | val x => obtain ⟨a, rfl⟩ := q; exact ⟨_, _, t, x, a, g⟩
    | newList xs => cases fz <;> (obtain ⟨a, rfl⟩ := q; exact ⟨_, _, t, _, a, g.2⟩)
theorem VQ.e {Q : V → St → Prop} {v : Value} {G : Prop} (q : VQ X Q v W σ s) (g : ∀ x, VR X W v x → Q x σ → G) : G := by obtain ⟨x, r, h⟩ := q; exact g x r h
theorem VsQ.e {Q : List V → St → Prop} {v : List Value} {G : Prop} (q : VsQ X Q v W σ s) (g : ∀ x, VRs X W v x → Q x σ → G) : G := by obtain ⟨x, r, h⟩ := q; exact g x r h
theorem Go.e {α : Type} {R : α → Wd → St → Shared → Prop} {a : α} {s' : Shared} {G : Prop} (q : Go X env Pv W σ s R a s') (g : ∀ W' σ', Tf X env Pv W σ s W' σ' s' → R a W' σ' s' → G) : G := by obtain ⟨W', σ', t, r⟩ := q; exact g W' σ' t r

theorem SE.bind {β : Type} {p : PE} {e : Expr} {Q : V → St → Prop} {f : Value → Sem β} {R : β → Wd → St → Shared → Prop} (he : SE X n sc p e) (ok : EnvOk X A env Pv n sc) (at_ : At X env Pv W σ s) (hw : wpE X.P (CW X.P n) E p σ Q)
    (g : ∀ v W₁ σ₁ s₁ x, At X env Pv W₁ σ₁ s₁ → Wd.Le W W₁ → VR X W₁ v x → Q x σ₁ → Ew X A env Pv (f v) W₁ σ₁ s₁ R E) : Ew X A env Pv (eval e env >>= f) W σ s R E :=
  Ew.bindT ((he A env Pv W σ s _ E ok at_ hw).mono fun v W₁ σ₁ s₁ _ q at₁ le => q.e fun x r h => g v W₁ σ₁ s₁ x at₁ le r h)
theorem SE.hold {β : Type} {p : PE} {e : Expr} {Q : V → St → Prop} {f : Value → Sem β} {vs : List Value} {R : β → Wd → St → Shared → Prop} (he : SE X n sc p e) (ok : EnvOk X A env Pv n sc) (at_ : At X env Pv W σ s) (hw : wpE X.P (CW X.P n) E p σ Q)
    (g : ∀ v W₁ σ₁ s₁ x, At X env Pv W₁ σ₁ s₁ → Wd.Le W W₁ → VR X W₁ v x → Q x σ₁ → Ew X A env Pv (f v) W₁ σ₁ s₁ R E) : Ew X A env Pv (holding vs (eval e env) >>= f) W σ s R E :=
  Ew.bindT (Ew.holding ((he A env Pv W σ s _ E ok at_ hw).mono fun v W₁ σ₁ s₁ _ q at₁ le => q.e fun x r h => g v W₁ σ₁ s₁ x at₁ le r h))
/-- one after the other -/
theorem SE.two {β : Type} {l r : PE} {l' r' : Expr} {Q : V → V → St → Prop} {f : Value → Value → Sem β} {R : β → Wd → St → Shared → Prop} (hl : SE X n sc l l') (hr : SE X n sc r r') (ok : EnvOk X A env Pv n sc) (at_ : At X env Pv W σ s) (hw : wpE X.P (CW X.P n) E l σ fun x σ₁ => wpE X.P (CW X.P n) E r σ₁ (Q x))
    (g : ∀ a b W₁ σ₁ s₁ x y, At X env Pv W₁ σ₁ s₁ → VR X W₁ a x → VR X W₁ b y → Q x y σ₁ → Ew X A env Pv (f a b) W₁ σ₁ s₁ R E) : Ew X A env Pv (eval l' env >>= fun a => holding [a] (eval r' env) >>= f a) W σ s R E :=
  hl.bind ok at_ hw fun a W₁ σ₁ s₁ x at₁ le hx h₁ => hr.hold ok at₁ h₁ fun b W₂ σ₂ s₂ y at₂ le₂ hy h₂ => g a b W₂ σ₂ s₂ x y at₂ (hx.le le₂) hy h₂

theorem bk (K : CxOk X) (R : RelH X W σ.H s.heap) {a : Addr} {m : Str → Option Value} (h : X.hb.Ns a m) : s.heap.Ns a m := h.keeps R.bkeep

theorem snd_cst {v : V} {c : Const} {k : Nat} {pos : Pos} (hc : chkC v c = true) : SE X n sc (.cst v) (.Constant c k pos) := by
  intro A env Pv W σ s Q E ok at_ h
  show wpAny _ A (constValue env c) _ _ s
  cases c with
  | none => cases vNone hc; exact wpAny_pure (at_.val (tk := s.toks) .none h)
  | bool b => exact on_e (o := aBool v) (f := fun c => c == b) hc fun c e q => by cases vBool e; cases beq_iff_eq.mp q; exact wpAny_pure (at_.val (tk := s.toks) (.bool _) h)
  | int i => exact on_e (o := aInt v) (f := fun c => decide (c = i)) hc fun c e q => by cases vInt e; cases of_decide_eq_true q; exact wpAny_mkInt (at_.val (.int _ _) h)
  | str t => exact on_e (o := aStr v) (f := fun c => decide (c = t) && PyData.strOk t && decide (t.length ≤ SZ)) hc fun c e q => and3_e q fun q1 q2 q3 => by cases vStr e; cases of_decide_eq_true q1; exact wpAny_mkText (at_.val (.str _ _ q2 (of_decide_eq_true q3)) h)
  | _ => cases hc

theorem load_loc {i : Nat} {v : V} {Ex : Value → Shared → Prop} {Q : Value → Shared → Prop} (ok : EnvOk X A env Pv n sc) (at_ : At X env Pv W σ s) (hk : kLoc sc (X.nm i) = true) (hd : nDbg (X.nm i) = true) (ev : σ.loc i = some v)
    (fin : ∀ cv, VR X W cv v → Q cv s) : wpAny (model X.prog X.w) A (loadName env (X.nm i)) Q Ex s := by
  have hd := (and2 hd).2
  have cellc : env.kindOf (X.nm i) = some .cell → wpAny (model X.prog X.w) A (loadName env (X.nm i)) Q Ex s := fun q => by
    obtain ⟨c, cv, a, b, r⟩ := at_.fr.cells i v ev (.inl q)
    exact wpAny_loadName_cell ok.kind q a b (fin cv r)
  have key : ∀ k, sc.sc.names.lookup (X.nm i) = some k → nkNo k ≠ 0 → nkNo k ≠ 4 → wpAny (model X.prog X.w) A (loadName env (X.nm i)) Q Ex s := fun k e h0 h4 => by
    rcases ok.names _ _ e with q | ⟨_, q⟩
    · cases k with
      | «local» =>
        obtain ⟨m, hn, hm⟩ := at_.fr.ns
        obtain ⟨cv, hcv, r⟩ := hm i v ev q
        exact wpAny_loadName_local ok.kind q hn hcv (fin cv r)
      | cell => exact cellc q
      | free =>
        obtain ⟨c, cv, a, b, r⟩ := at_.fr.cells i v ev (.inr q)
        exact wpAny_loadName_free ok.kind q a b (fin cv r) (Bool.not_eq_true' _ ▸ hd)
      | globalExplicit => exact absurd rfl h0
      | globalImplicit => exact absurd rfl h4
    · exact cellc q
  exact and_e hk fun h1 h2 => by
    have h1 := Nat.le_of_ble_eq_true h1
    have h2 := Nat.le_of_ble_eq_true h2
    cases q : sc.sc.names.lookup (X.nm i) with
    | none => have e : knd sc (X.nm i) = 0 := by unfold knd; rw [q]
              rw [e] at h1; exact absurd h1 (by decide)
    | some k => have e : knd sc (X.nm i) = nkNo k := by unfold knd; rw [q]
                rw [e] at h1 h2
                exact key k q (fun z => by rw [z] at h1; exact absurd h1 (by decide)) fun z => by rw [z] at h2; exact absurd h2 (by decide)
theorem dbg_no {x : Str} (h : nDbg x = true) : (x == ("__debug__" : Str)) = false := Bool.not_eq_true' _ ▸ (and2 h).1
theorem snd_loc {i : Nat} {x : Str} {pos : Pos} (hx : x = X.nm i) (hk : kLoc sc x = true) (hd : nDbg x = true) : SE X n sc (.loc i) (.Name x pos) := by
  intro A env Pv W σ s Q E ok at_ h
  subst hx
  exact need_e h fun v ev hq => wpAny_Name (load_loc ok at_ hk hd ev fun cv r => at_.val (tk := s.toks) r hq) (dbg_no hd)

theorem load_glob (K : CxOk X) {i : Nat} {x : Str} {pos : Pos} {v : V} {Ex : Value → Shared → Prop} {Q : Value → Shared → Prop} (ok : EnvOk X A env Pv n sc) (at_ : At X env Pv W σ s) (hx : x = X.nm i) (hk : kGlob sc x = true) (hd : nDbg x = true) (ev : X.P.glob i = some v)
    (fin : ∀ cv, (∀ W, VR X W cv v) → Q cv s) : wpAny (model X.prog X.w) A (eval (.Name x pos) env) Q Ex s := by
  subst hx
  refine wpAny_Name ?_ (dbg_no hd)
  have e := knd_of (Nat.eq_of_beq_eq_true hk) (by decide)
  have q : env.kindOf (X.nm i) = some .globalImplicit := (ok.names _ _ e).elim id fun z => nomatch z.1
  rw [loadName_read ok.kind q]
  cases K.glob i v ev with
  | main cv mg ng hv r => exact loadGlobal_global (by rw [ok.glob]; exact bk K at_.rel ng) hv (fin cv r)
  | bi cv mg mb ng nb hv hb r => exact loadGlobal_builtin (by rw [ok.glob]; exact bk K at_.rel ng) hv (by rw [ok.bi]; exact bk K at_.rel nb) hb (fin cv r)
theorem snd_glob (K : CxOk X) {i : Nat} {x : Str} {pos : Pos} (hx : x = X.nm i) (hk : kGlob sc x = true) (hd : nDbg x = true) : SE X n sc (.glob i) (.Name x pos) :=
  fun A env Pv W σ s Q E ok at_ h => need_e h fun v ev hq => load_glob K ok at_ hx hk hd ev fun cv r => at_.val (tk := s.toks) (r W) hq

theorem wpAny_op {M : Model} {A : Around} {Ex : Value → Shared → Prop} {vs : List Value} {m : Sem Value} {Q : Value → Shared → Prop} (h : wpAny M A m Q Ex s) : wpAny M A (operate vs m) Q Ex s := by
  intro Γ p hΓ
  rw [Sem.wp_operate]; exact h Γ p hΓ
theorem snd_bin {fz : Bool} {op : BOp} {l r : PE} {l' r' : Expr} {pos : Pos} (hl : SE X n sc l l') (hr : SE X n sc r r') : SE X n sc (.bin fz op l r) (.BinOp l' (opOf op) r' pos) := by
  intro A env Pv W σ s Q E ok at_ h
  rw [eval_BinOp]
  exact hl.two hr ok at_ h fun a b W₁ σ₁ s₁ x y at₁ hx hy h₁ => Ew.standAt (Ew.operate (need_e h₁ fun x' ex h₁ => need_e h₁ fun y' ey h₁ => bin_ok at₁.op at₁.rel (see_ok at₁.rel hx ex) (see_ok at₁.rel hy ey) h₁))
theorem aInt_of {v : Value} {x : V} {i : Int} (r : VR X W v x) (e : aInt x = some i) {G : Prop} (g : ∀ t, v = .int i t → G) : G := by
  cases vInt e; cases r with | int i t => exact g t rfl
theorem snd_neg {e : PE} {x : Expr} {pos : Pos} (he : SE X n sc e x) : SE X n sc (.neg e) (.UnaryOp .USub x pos) := fun A env Pv W σ s Q E ok at_ h =>
  he.bind (f := fun v => do standAt pos; holding [v] (unaryOp .USub v)) ok at_ h fun a W₁ σ₁ s₁ y at₁ _ hy h₁ => need_e h₁ fun i ei h₁ => aInt_of hy ei fun t q => by
    subst q; exact Ew.standAt (Ew.holding (neg_int (at₁.val (.int _ _) h₁)))
theorem snd_not {e : PE} {x : Expr} {pos : Pos} (he : SE X n sc e x) : SE X n sc (.not e) (.UnaryOp .Not x pos) := fun A env Pv W σ s Q E ok at_ h =>
  he.bind (f := fun v => do standAt pos; holding [v] (unaryOp .Not v)) ok at_ h fun a W₁ σ₁ s₁ y at₁ _ hy h₁ =>
    Ew.standAt (Ew.holding (not_of (truth_ok (y := y) at₁.rel hy h₁ fun b tk q => at₁.val (.bool _) q)))

/-! comparisons -/
theorem marks_of {op : CmpOp} {e : Expr} (h : Nat.ble (xu e).tag 15 = true) : behindInMarks op e = false := by
  cases e <;> first | rfl | cases h
theorem At.cmp {op : COp} {a b : Value} {x y : V} {k : Bool → Prop} {Q : Value → Shared → Prop} {Ex : Value → Shared → Prop} (at_ : At X env Pv W σ s) (ok : EnvOk X A env Pv n sc) (hx : VR X W a x) (hy : VR X W b y) (h : cmpK σ.H op x y k) (g : ∀ c tk, k c → Q (.bool c) { s with toks := tk }) : wpAny (model X.prog X.w) A (compareOp (cmpOf op) a b) Q Ex s :=
  cmp_ok at_.rel ok.ok.room hx hy g h
theorem snd_cmp {op : COp} {l r : PE} {l' r' : Expr} {pos : Pos} (hl : SE X n sc l l') (hr : SE X n sc r r') (hs : Nat.ble (xu r').tag 15 = true) : SE X n sc (.cmp op l r) (.Compare l' [cmpOf op] [r'] pos) := by
  intro A env Pv W σ s Q E ok at_ h
  rw [eval_Compare1, markedBehindIn_of_false (marks_of hs)]
  exact hl.two hr ok at_ h fun a b W₁ σ₁ s₁ x y at₁ hx hy h₁ => Ew.standAt (Ew.operate (at₁.cmp ok hx hy h₁ fun c tk q => at₁.val (.bool _) q))
theorem snd_cmpT {op : COp} {l r : PE} {l' r' : Expr} {pos : Pos} (hl : SE X n sc l l') (hr : SE X n sc r r') (hs : Nat.ble (xu r').tag 15 = true) : ST X n sc (.e (.cmp op l r)) (.Compare l' [cmpOf op] [r'] pos) := by
  intro A env Pv W σ s Q E ok at_ h
  rw [isTrue_Compare1, markedBehindIn_of_false (marks_of hs)]
  exact hl.two hr ok at_ h fun a b W₁ σ₁ s₁ x y at₁ hx hy h₁ => Ew.standAt (wpAny_bind (wpAny_op (at₁.cmp ok hx hy h₁ fun c tk q => wpAny_holding (wpAny_truthy_bool (at₁.bl q)))))

theorem wpAny_release {M : Model} {A : Around} {E : Value → Shared → Prop} {s : Shared} {vs ks : List Value} {Q : Unit → Shared → Prop} (h : Q () s) : wpAny M A (release vs ks) Q E s := by
  intro Γ p hΓ
  rw [Sem.wp_release]; exact h
/-- the first of two comparisons, then what stands behind it -/
theorem SE.chain {β : Type} {o : COp} {l r : PE} {l' r' : Expr} {pos : Pos} {Q : V → Bool → St → Prop} {f : Value → Sem β} {g : Value → Sem β} {R : β → Wd → St → Shared → Prop} (hl : SE X n sc l l') (hr : SE X n sc r r') (ok : EnvOk X A env Pv n sc) (at_ : At X env Pv W σ s)
    (hw : wpE X.P (CW X.P n) E l σ fun x σ₁ => wpE X.P (CW X.P n) E r σ₁ fun y σ₂ => cmpK σ₂.H o x y fun c => Q y c σ₂)
    (h1 : ∀ b W₁ σ₁ s₁ y, At X env Pv W₁ σ₁ s₁ → VR X W₁ b y → Q y true σ₁ → Ew X A env Pv (f b) W₁ σ₁ s₁ R E) (h2 : ∀ W₁ σ₁ s₁ y, At X env Pv W₁ σ₁ s₁ → Q y false σ₁ → Ew X A env Pv (g (.bool false)) W₁ σ₁ s₁ R E) :
    Ew X A env Pv (eval l' env >>= fun left => holding [left] (eval r' env) >>= fun rv => standAt pos >>= fun _ => holding [left, rv] (compareOp (cmpOf o) left rv) >>= fun c₁ => release [left, rv] [c₁] >>= fun _ => holding [c₁, rv] (truthy c₁) >>= fun t => if t = true then f rv else g c₁) W σ s R E :=
  hl.two hr ok at_ hw fun a b W₁ σ₁ s₁ x y at₁ hx hy h₁ => Ew.standAt (wpAny_bind (wpAny_holding (at₁.cmp ok hx hy h₁ fun c tk q => wpAny_bind (wpAny_release (wpAny_bind (wpAny_holding (wpAny_truthy_bool (Ew.from at₁.tf (by
    cases c with
    | true => exact h1 b W₁ σ₁ _ y at₁.toks hy q
    | false => exact h2 W₁ σ₁ _ y at₁.toks q)))))))))

theorem eval_Compare2 (env : Env) (l : Expr) (o₁ o₂ : CmpOp) (b c : Expr) (pos : Pos) (hc : behindInMarks o₂ c = false) : eval (.Compare l [o₁, o₂] [b, c] pos) env = (eval l env >>= fun left => holding [left] (eval b env) >>= fun rv => standAt pos >>= fun _ => holding [left, rv] (compareOp o₁ left rv) >>= fun c₁ => release [left, rv] [c₁] >>= fun _ => holding [c₁, rv] (truthy c₁) >>= fun t => if t = true then
      (do
      let rw ← holding [rv] (eval c env)
      standAt pos
      operate [rv, rw] (compareOp o₂ rv rw)) else pure c₁) := by
  have : eval (.Compare l [o₁, o₂] [b, c] pos) env = (do compareChain pos (← eval l env) [o₁, o₂] [eval b env, markedBehindIn o₂ c (eval c env)]) := rfl
  rw [this, markedBehindIn_of_false hc]
  rfl
theorem isTrue_Compare2 (env : Env) (l : Expr) (o₁ o₂ : CmpOp) (b c : Expr) (pos : Pos) (t : Sem Value) (hc : behindInMarks o₂ c = false) : isTrue (.Compare l [o₁, o₂] [b, c] pos) env t = (eval l env >>= fun left => holding [left] (eval b env) >>= fun rv => standAt pos >>= fun _ => holding [left, rv] (compareOp o₁ left rv) >>= fun c₁ => release [left, rv] [c₁] >>= fun _ => holding [c₁, rv] (truthy c₁) >>= fun t => if t = true then
      (do
      let rw ← holding [rv] (eval c env)
      standAt pos
      let c₂ ← operate [rv, rw] (compareOp o₂ rv rw)
      holding [c₂] (truthy c₂)) else (fun _ => pure false) c₁) := by
  have : isTrue (.Compare l [o₁, o₂] [b, c] pos) env t = (do testChain pos (← eval l env) [o₁, o₂] [eval b env, markedBehindIn o₂ c (eval c env)]) := rfl
  rw [this, markedBehindIn_of_false hc]
  rfl
theorem snd_cmp2 {o₁ o₂ : COp} {a b c : PE} {a' b' c' : Expr} {pos : Pos} (ha : SE X n sc a a') (hb : SE X n sc b b') (hc : SE X n sc c c') (hs : Nat.ble (xu c').tag 15 = true) : SE X n sc (.cmp2 o₁ o₂ a b c) (.Compare a' [cmpOf o₁, cmpOf o₂] [b', c'] pos) := by
  intro A env Pv W σ s Q E ok at_ h
  rw [eval_Compare2 _ _ _ _ _ _ _ (marks_of hs)]
  exact ha.chain hb ok at_ h (fun v W₁ σ₁ s₁ y at₁ hy q => hc.hold ok at₁ q fun w W₂ σ₂ s₂ z at₂ le hz q => Ew.standAt (Ew.operate (at₂.cmp ok (hy.le le) hz q fun c tk q => at₂.val (.bool _) q))) fun W₁ σ₁ s₁ y at₁ q => Ew.pure at₁ ⟨_, .bool _, q⟩
theorem snd_cmp2T {o₁ o₂ : COp} {a b c : PE} {a' b' c' : Expr} {pos : Pos} (ha : SE X n sc a a') (hb : SE X n sc b b') (hc : SE X n sc c c') (hs : Nat.ble (xu c').tag 15 = true) : ST X n sc (.e (.cmp2 o₁ o₂ a b c)) (.Compare a' [cmpOf o₁, cmpOf o₂] [b', c'] pos) := by
  intro A env Pv W σ s Q E ok at_ h
  rw [isTrue_Compare2 _ _ _ _ _ _ _ _ (marks_of hs)]
  exact ha.chain hb ok at_ h (fun v W₁ σ₁ s₁ y at₁ hy q => hc.hold ok at₁ q fun w W₂ σ₂ s₂ z at₂ le hz q => Ew.standAt (wpAny_bind (wpAny_op (at₂.cmp ok (hy.le le) hz q fun c tk q => wpAny_holding (wpAny_truthy_bool (at₂.bl q)))))) fun W₁ σ₁ s₁ y at₁ q => Ew.pure (R := BQ Q) at₁ q
end
end
end Mine

end

section
set_option autoImplicit false
set_option linter.all false
set_option genSizeOf false
set_option genInjectivity false
namespace Mine
open PySem PySem.W PySem.Calls PyProof.Rows

section
variable {X : Cx} {n : Nat} {sc : Sc}

/-- a test that is any other expression -/
theorem isTrue_plain' {e : Expr} {env : Env} {t : Sem Value} (h : plainTest e = true) (h6 : tg e 6 = false) :
    isTrue e env t = (do let v ← t; standAt e.pos; holding [v] (truthy v)) := by
  cases e with
  | UnaryOp op x p =>
    cases op with
    | Not => cases h
    | _ => rfl
  | Compare _ _ _ _ => cases h6
  | BoolOp _ _ _ => cases h
  | IfExp _ _ _ _ => cases h
  | _ => rfl
theorem snd_T {e : PE} {x : Expr} (he : SE X n sc e x) (h : plainTest x = true) (h6 : tg x 6 = false) : ST X n sc (.e e) x := by
  intro A env Pv W σ s Q E ok at_ hw
  rw [isTrue_plain' h h6]
  exact he.bind ok at_ hw fun a W₁ σ₁ s₁ y at₁ _ hy h₁ => Ew.standAt (Ew.holding (truth_ok (y := y) at₁.rel hy h₁ fun b tk q => at₁.bl q))
theorem ST.bind {β : Type} {A : Around} {env : Env} {Pv : Pr} {W : Wd} {σ : St} {s : Shared} {E : EP} {p : PC} {e : Expr} {Q : Bool → St → Prop} {f : Bool → Sem β} {R : β → Wd → St → Shared → Prop} (he : ST X n sc p e) (ok : EnvOk X A env Pv n sc) (at_ : At X env Pv W σ s) (hw : wpT X.P (CW X.P n) E p σ Q)
    (g : ∀ b W₁ σ₁ s₁, At X env Pv W₁ σ₁ s₁ → Q b σ₁ → Ew X A env Pv (f b) W₁ σ₁ s₁ R E) : Ew X A env Pv (isTrue e env (eval e env) >>= f) W σ s R E :=
  Ew.bindT ((he A env Pv W σ s _ E ok at_ hw).mono fun v W₁ σ₁ s₁ _ q at₁ le => g v W₁ σ₁ s₁ at₁ q)
theorem snd_notT {c : PC} {x : Expr} {pos : Pos} (hc : ST X n sc c x) : ST X n sc (.not c) (.UnaryOp .Not x pos) := fun A env Pv W σ s Q E ok at_ h =>
  hc.bind (f := fun b => pure (!b)) ok at_ h fun b W₁ σ₁ s₁ at₁ h₁ => Ew.pure (R := BQ Q) at₁ h₁

noncomputable def SAll (X : Cx) (n : Nat) (sc : Sc) (p : PCs) (es : List Expr) : Prop := ∀ (A : Around) (env : Env) (Pv : Pr) (W : Wd) (σ : St) (s : Shared) (Q : Bool → St → Prop) (E : EP),
  EnvOk X A env Pv n sc → At X env Pv W σ s → (wpAllT X.P (CW X.P n) E p σ Q → Ew X A env Pv (allTrue .And es env) W σ s (BQ Q) E) ∧ (wpAnyT X.P (CW X.P n) E p σ Q → Ew X A env Pv (allTrue .Or es env) W σ s (BQ Q) E)
theorem snd_all_nil : SAll X n sc .nil [] := fun A env Pv W σ s Q E ok at_ => ⟨fun h => Ew.pure (R := BQ Q) at_ h, fun h => Ew.pure (R := BQ Q) at_ h⟩
theorem snd_all_cons {c : PC} {r : PCs} {x : Expr} {xs : List Expr} (hc : ST X n sc c x) (hr : SAll X n sc r xs) : SAll X n sc (.cons c r) (x :: xs) := fun A env Pv W σ s Q E ok at_ =>
  ⟨fun h => hc.bind (f := fun b => match BoolOp.And, b with | .And, false => pure false | .Or, true => pure true | _, _ => allTrue .And xs env) ok at_ h fun b W₁ σ₁ s₁ at₁ h₁ => by
    cases b with
    | false => exact Ew.pure (R := BQ Q) at₁ h₁
    | true => exact (hr A env Pv W₁ σ₁ s₁ Q E ok at₁).1 h₁,
  fun h => hc.bind (f := fun b => match BoolOp.Or, b with | .And, false => pure false | .Or, true => pure true | _, _ => allTrue .Or xs env) ok at_ h fun b W₁ σ₁ s₁ at₁ h₁ => by
    cases b with
    | true => exact Ew.pure (R := BQ Q) at₁ h₁
    | false => exact (hr A env Pv W₁ σ₁ s₁ Q E ok at₁).2 h₁⟩
theorem snd_andT {cs : PCs} {xs : List Expr} {pos : Pos} (h : SAll X n sc cs xs) : ST X n sc (.and cs) (.BoolOp .And xs pos) := fun A env Pv W σ s Q E ok at_ hw => (h A env Pv W σ s Q E ok at_).1 hw
theorem snd_orT {cs : PCs} {xs : List Expr} {pos : Pos} (h : SAll X n sc cs xs) : ST X n sc (.or cs) (.BoolOp .Or xs pos) := fun A env Pv W σ s Q E ok at_ hw => (h A env Pv W σ s Q E ok at_).2 hw

/-- and, or as values -/
noncomputable def SBool (X : Cx) (n : Nat) (sc : Sc) (p : PEs) (es : List Expr) : Prop := ∀ (A : Around) (env : Env) (Pv : Pr) (W : Wd) (σ : St) (s : Shared) (Q : V → St → Prop) (E : EP) (pos : Pos),
  EnvOk X A env Pv n sc → At X env Pv W σ s → (wpAnd X.P (CW X.P n) E p σ Q → Ew X A env Pv (boolOp pos .And (evalEach es env)) W σ s (VQ X Q) E) ∧
    (wpOr X.P (CW X.P n) E p σ Q → Ew X A env Pv (boolOp pos .Or (evalEach es env)) W σ s (VQ X Q) E)
theorem snd_bool_nil {es : List Expr} : SBool X n sc .nil es := fun A env Pv W σ s Q E pos ok at_ => ⟨fun h => h.elim, fun h => h.elim⟩
theorem snd_bool_one {e : PE} {x : Expr} (he : SE X n sc e x) : SBool X n sc (.cons e .nil) [x] := fun A env Pv W σ s Q E pos ok at_ => ⟨fun h => he A env Pv W σ s Q E ok at_ h, fun h => he A env Pv W σ s Q E ok at_ h⟩
theorem snd_bool_cons {e f : PE} {r : PEs} {x y : Expr} {xs : List Expr} (he : SE X n sc e x) (hr : SBool X n sc (.cons f r) (y :: xs)) : SBool X n sc (.cons e (.cons f r)) (x :: y :: xs) := fun A env Pv W σ s Q E pos ok at_ =>
  ⟨fun h => he.bind (f := fun v => standAt pos >>= fun _ => holding [v] (truthy v) >>= fun t => match BoolOp.And, t with
      | .And, false | .Or, true => pure v
      | _, _ => boolOp pos .And (evalEach (y :: xs) env)) ok at_ h fun v W₁ σ₁ s₁ z at₁ _ hz h₁ => Ew.standAt (wpAny_bind (wpAny_holding (truth_ok (y := z) at₁.rel hz h₁ fun b tk q => Ew.from at₁.tf (by
    cases b with
    | false => exact Ew.pure at₁.toks ⟨z, hz, q⟩
    | true => exact (hr A env Pv W₁ σ₁ _ Q E pos ok at₁.toks).1 q)))),
  fun h => he.bind (f := fun v => standAt pos >>= fun _ => holding [v] (truthy v) >>= fun t => match BoolOp.Or, t with
      | .And, false | .Or, true => pure v
      | _, _ => boolOp pos .Or (evalEach (y :: xs) env)) ok at_ h fun v W₁ σ₁ s₁ z at₁ _ hz h₁ => Ew.standAt (wpAny_bind (wpAny_holding (truth_ok (y := z) at₁.rel hz h₁ fun b tk q => Ew.from at₁.tf (by
    cases b with
    | true => exact Ew.pure at₁.toks ⟨z, hz, q⟩
    | false => exact (hr A env Pv W₁ σ₁ _ Q E pos ok at₁.toks).2 q))))⟩

theorem snd_ite {t : PC} {a b : PE} {t' a' b' : Expr} {pos : Pos} (ht : ST X n sc t t') (ha : SE X n sc a a') (hb : SE X n sc b b') : SE X n sc (.ite t a b) (.IfExp t' a' b' pos) := fun A env Pv W σ s Q E ok at_ h =>
  ht.bind (f := fun c => if c = true then eval a' env else eval b' env) ok at_ h fun c W₁ σ₁ s₁ at₁ h₁ => by
    cases c with
    | true => exact ha A env Pv W₁ σ₁ s₁ Q E ok at₁ h₁
    | false => exact hb A env Pv W₁ σ₁ s₁ Q E ok at₁ h₁

theorem snd_es_nil : SEs X n sc .nil [] := fun A env Pv W σ s Q E ok at_ h => spliced_nil ⟨W, σ, .refl at_, [], .nil, h⟩
theorem snd_es_cons {e : PE} {r : PEs} {x : Expr} {xs : List Expr} (he : SE X n sc e x) (hr : SEs X n sc r xs) : SEs X n sc (.cons e r) (x :: xs) := fun A env Pv W σ s Q E ok at_ h =>
  spliced_cons (wpAny_mono (he A env Pv W σ s _ E ok at_ h) (fun v s₁ q => q.e fun W₁ σ₁ T q => q.e fun z hz h₁ =>
    wpAny_mono (hr A env Pv W₁ σ₁ s₁ _ E ok T.at_ h₁) (fun vs s₂ q => q.e fun W₂ σ₂ T₂ q => q.e fun zs hzs h₂ => ⟨W₂, σ₂, T.trans T₂, z :: zs, .cons (hz.le T₂.stp.le) hzs, h₂⟩) fun _ _ x => x.back T) fun _ _ x => x)

theorem star_one {x : Expr} {env : Env} {xs : List Expr} (h : Nat.ble 1 (xu x).tag = true) : starEach (x :: xs) env = (false, eval x env) :: starEach xs env := by
  cases x <;> first | rfl | cases h
theorem star_plain {c : Ck} {env : Env} {p : PEs} : ∀ {es : List Expr}, chkEs c sc p es = true → starEach es env = es.map fun e => (false, eval e env) :=
  PEs.rec (motive_1 := fun _ => True) (motive_2 := fun p => ∀ {es : List Expr}, chkEs c sc p es = true → starEach es env = es.map fun e => (false, eval e env)) (motive_3 := fun _ => True) (motive_4 := fun _ => True) (motive_5 := fun _ => True) (motive_6 := fun _ => True) (motive_7 := fun _ => True)
    (fun _ => trivial) (fun _ => trivial) (fun _ => trivial) (fun _ _ _ => trivial) (fun _ _ _ _ _ _ => trivial) (fun _ _ => trivial) (fun _ _ => trivial) (fun _ _ _ _ _ => trivial) (fun _ _ _ _ _ _ _ _ => trivial) (fun _ _ => trivial) (fun _ _ => trivial) (fun _ _ _ _ _ _ => trivial) (fun _ _ _ => trivial) (fun _ _ => trivial) (fun _ _ => trivial) (fun _ _ _ _ => trivial) (fun _ _ _ _ _ _ _ => trivial) (fun _ _ _ => trivial) (fun _ _ _ _ _ => trivial) (fun _ _ _ => trivial) (fun _ _ _ _ _ => trivial) (fun _ _ => trivial) (fun _ _ _ _ _ _ => trivial) (fun _ _ _ _ _ _ _ _ => trivial)
    (fun h => by rw [empty_ok h]; rfl)
    (fun e r _ ih es h => on_e h fun x hx h => and_e h fun h1 h2 => by rw [head_ok hx, star_one (chk_tag h1).1, ih h2, List.map_cons])
    trivial (fun _ _ => trivial) trivial (fun _ _ _ _ _ _ => trivial) (fun _ _ => trivial) (fun _ _ => trivial) (fun _ _ => trivial) (fun _ _ => trivial) trivial (fun _ _ _ _ => trivial) trivial (fun _ _ => trivial) p
theorem back_plain {c : Ck} {env : Env} {pos : Pos} {p : PEs} {es : List Expr} (h : chkEs c sc p es = true) : backTo pos (starEach es env) = es.map fun e => (false, eval e env) := by
  rw [star_plain h]
  unfold backTo
  rw [List.map_map]
  rfl

theorem SEs.bind {β : Type} {A : Around} {env : Env} {Pv : Pr} {W : Wd} {σ : St} {s : Shared} {E : EP} {p : PEs} {es : List Expr} {Q : List V → St → Prop} {f : List Value → Sem β} {R : β → Wd → St → Shared → Prop} (he : SEs X n sc p es) (ok : EnvOk X A env Pv n sc) (at_ : At X env Pv W σ s) (hw : wpEs X.P (CW X.P n) E p σ Q)
    (g : ∀ v W₁ σ₁ s₁ x, At X env Pv W₁ σ₁ s₁ → VRs X W₁ v x → Q x σ₁ → Ew X A env Pv (f v) W₁ σ₁ s₁ R E) : Ew X A env Pv (spliced (es.map fun e => (false, eval e env)) >>= f) W σ s R E :=
  Ew.bindT ((he A env Pv W σ s _ E ok at_ hw).mono fun v W₁ σ₁ s₁ _ q at₁ le => q.e fun x r h => g v W₁ σ₁ s₁ x at₁ r h)
theorem size_ok {W : Wd} {vs : List Value} {xs : List V} (hv : VRs X W vs xs) (hz : xs.length ≤ SZ) : vs.toArray.size ≤ sizeLine := by rw [List.size_toArray, hv.length]; exact szLine hz
theorem snd_list {fz : Bool} {c : Ck} {es : PEs} {xs : List Expr} {pos : Pos} (he : SEs X n sc es xs) (hc : chkEs c sc es xs = true) : SE X n sc (.list fz es) (.List xs pos) := by
  intro A env Pv W σ s Q E ok at_ h
  show Ew X A env Pv (standAt pos >>= fun _ => spliced (backTo pos (starEach xs env)) >>= fun vs => newList vs) W σ s _ E
  rw [back_plain hc]
  exact Ew.standAt (he.bind ok at_ h fun vs W₁ σ₁ s₁ zs at₁ hzs h₁ => wpAny_newObj_type (at₁.op.push (n := 0) (vs := vs.toArray) (tk := s₁.toks) at₁.rel hzs h₁) (size_ok hzs h₁.1))
theorem snd_tup {c : Ck} {es : PEs} {xs : List Expr} {k : Nat} {pos : Pos} (he : SEs X n sc es xs) (hc : chkEs c sc es xs = true) : SE X n sc (.tup es) (.Tuple xs k pos) := by
  intro A env Pv W σ s Q E ok at_ h
  show Ew X A env Pv (standAt pos >>= fun _ => spliced (backTo pos (starEach xs env)) >>= fun vs => newTuple vs) W σ s _ E
  rw [back_plain hc]
  exact Ew.standAt (he.bind ok at_ h fun vs W₁ σ₁ s₁ zs at₁ hzs h₁ => wpAny_newObj_type ((at₁.op (fz := true)).fro (x := .tup zs) (ob := tupO vs.toArray 0) (tk := s₁.toks) at₁.rel (fun _ _ e => Heap.get?_push_of_some _ e) (push_none _) (Heap.get?_push_size _ rfl) (.tup addZ_self (hzs.le (at₁.rel.leZ (push_none _))) h₁.1) h₁.2) (size_ok hzs h₁.1))

theorem not_sys (K : CxOk X) {W : Wd} {H : Hp} {s : Shared} (R : RelH X W H s.heap) : (s.heap.objs.size == sysModules) = false := by
  obtain ⟨o, e⟩ := K.main
  have lt : mainGlobals < s.heap.objs.size := Heap.lt_size (R.bkeep _ _ e)
  exact beq_eq_false_iff_ne.mpr fun z => absurd (z ▸ lt : mainGlobals < sysModules) (by decide)
theorem snd_dict0 (K : CxOk X) {pos : Pos} : SE X n sc (.dict .nil) (.Dict [] [] pos) := by
  intro A env Pv W σ s Q E ok at_ h
  rw [eval_Dict_empty]
  refine Ew.standAt (wpAny_newObj_type ?_)
  have hn := push_none s.heap
  obtain ⟨r, t⟩ := at_.rel.fresh (h' := s.heap.push (dictO #[] 0)) (l := (s.heap.objs.size, s.heap.objs.size)) (c := .dict []) (fun _ _ e => Heap.get?_push_of_some _ e) hn hn ⟨[], Heap.DictOf.new s.heap, .nil, rfl, not_sys K at_.rel, Nat.zero_le _⟩
  have T : Tc X W σ.H s _ (σ.H.new (.dict [])) { s with heap := s.heap.push (dictO #[] 0) } := ⟨t, r, ⟨rfl, rfl, rfl⟩⟩
  exact ⟨_, ⟨_, σ.loc⟩, T.tf at_, _, VR.ref (l := (s.heap.objs.size, s.heap.objs.size)) addφ_self, h.2.2⟩

theorem snd_idx {e i : PE} {v x : Expr} {pos : Pos} (he : SE X n sc e v) (hi : SE X n sc i x) : SE X n sc (.idx e i) (.Subscript v x pos) := by
  intro A env Pv W σ s Q E ok at_ h
  rw [eval_Subscript]
  exact he.two hi ok at_ h fun a b W₁ σ₁ s₁ y z at₁ hy hz h₁ => Ew.standAt (idx_ok (fun v r tk q h => at₁.val q h) at₁.rel hy hz h₁)

inductive OQ (X : Cx) (Q : Option V → St → Prop) (v : Value) (W' : Wd) (σ' : St) (s' : Shared) : Prop
  | mk (o : Option V) (r : VR X W' v (o.getD .none)) (h : Q o σ')
noncomputable def SO (X : Cx) (n : Nat) (sc : Sc) (p : PEo) (e : Option Expr) : Prop := ∀ (A : Around) (env : Env) (Pv : Pr) (W : Wd) (σ : St) (s : Shared) (Q : Option V → St → Prop) (E : EP),
  EnvOk X A env Pv n sc → At X env Pv W σ s → wpO X.P (CW X.P n) E p σ Q → Ew X A env Pv (valueOrNone (evalOpt e env)) W σ s (OQ X Q) E
theorem snd_o_none : SO X n sc .none none := fun A env Pv W σ s Q E ok at_ h => Ew.pure at_ ⟨none, .none, h⟩
theorem snd_o_some {e : PE} {x : Expr} (he : SE X n sc e x) : SO X n sc (.some e) (some x) := fun A env Pv W σ s Q E ok at_ h =>
  (he A env Pv W σ s _ E ok at_ h).mono fun v W₁ σ₁ s₁ _ q => q.e fun z hz h₁ => ⟨some z, hz, h₁⟩
theorem OQ.e {Q : Option V → St → Prop} {v : Value} {W : Wd} {σ : St} {s : Shared} {G : Prop} (q : OQ X Q v W σ s) (g : ∀ x, VR X W v (x.getD .none) → Q x σ → G) : G := by obtain ⟨x, r, h⟩ := q; exact g x r h
/-- a slice's bound: an optional expression, seen from where the whole began -/
theorem SO.then {β : Type} {A : Around} {env : Env} {Pv : Pr} {W₀ W : Wd} {σ₀ σ : St} {s₀ s : Shared} {E : EP} {p : PEo} {e : Option Expr} {Q : Option V → St → Prop} {f : Value → Sem β} {vs : List Value} {Ro : β → Shared → Prop} (he : SO X n sc p e) (ok : EnvOk X A env Pv n sc) (T₀ : Tf X env Pv W₀ σ₀ s₀ W σ s) (hw : wpO X.P (CW X.P n) E p σ Q)
    (g : ∀ v W₁ σ₁ s₁ o, Tf X env Pv W₀ σ₀ s₀ W₁ σ₁ s₁ → Wd.Le W W₁ → VR X W₁ v (o.getD .none) → Q o σ₁ → wpAny (model X.prog X.w) A (f v) Ro (EX X env Pv W₀ σ₀ s₀ E) s₁) : wpAny (model X.prog X.w) A (holding vs (valueOrNone (evalOpt e env)) >>= f) Ro (EX X env Pv W₀ σ₀ s₀ E) s :=
  wpAny_bind (wpAny_holding (wpAny_mono (he A env Pv W σ s _ E ok T₀.at_ hw) (fun v s₁ q => q.e fun W₁ σ₁ T q => q.e fun o r h => g v W₁ σ₁ s₁ o (T₀.trans T) T.stp.le r h) fun _ _ x => x.back T₀))
/-- seen from before -/
theorem OpQ.from {A : Around} {env : Env} {Pv : Pr} {W₀ W : Wd} {σ₀ σ : St} {s₀ s : Shared} {fz : Bool} {Q : V → St → Prop} (T : Tf X env Pv W₀ σ₀ s₀ W σ s) : OpQ X fz W σ.H s (give fz σ Q) (Go X env Pv W₀ σ₀ s₀ (VQ X Q)) where
  sz := fun _ h => h.1
  out := fun r v' s' W' H' t q g => ((T.at_.op (fz := fz)).out r v' s' W' H' t q g).e fun W₂ σ₂ T₂ q => ⟨W₂, σ₂, T.trans T₂, q⟩
theorem snd_sl {fz : Bool} {e : PE} {lo hi : PEo} {v : Expr} {l u : Option Expr} {p pos : Pos} (he : SE X n sc e v) (hl : SO X n sc lo l) (hu : SO X n sc hi u) : SE X n sc (.sl fz e lo hi) (.Subscript v (.Slice l u none p) pos) := by
  intro A env Pv W σ s Q E ok at_ h
  rw [eval_Subscript]
  refine he.bind ok at_ h fun a W₁ σ₁ s₁ y at₁ _ hy h₁ => ?_
  show wpAny _ A (holding [a] (valueOrNone (evalOpt l env) >>= fun l => holding [l] (valueOrNone (evalOpt u env)) >>= fun u => holding [l, u] (valueOrNone (evalOpt none env)) >>= fun s => newFields "slice" [l, u, s]) >>= fun i => standAt pos >>= fun _ => subscriptTail v (.Slice l u none p) a i) _ _ s₁
  refine wpAny_bind (wpAny_holding (wpAny_bind (wpAny_mono (hl A env Pv W₁ σ₁ s₁ _ E ok at₁ h₁) (fun b s₂ q => q.e fun W₂ σ₂ T₂ q => q.e fun o₂ hb h₂ => ?_) fun _ _ x => x)))
  refine hu.then ok T₂ h₂ fun c W₃ σ₃ s₃ o₃ T₃ le₃ hc h₃ => wpAny_bind (wpAny_holding (wpAny_pure ?_))
  exact need_e h₃ fun i₁ e₁ h₄ => need_e h₄ fun i₂ e₂ h₅ => need_e h₅ fun x ex hr => wpAny_mono (sl_ok (value := v) (slice := .Slice l u none p) (OpQ.from (A := A) T₃) T₃.at_.rel (see_ok T₃.at_.rel (hy.le T₃.stp.le) ex) (part_of (hb.le le₃) e₁) (part_of hc e₂) hr)
    (fun i s' h' => wpAny_bind (wpAny_standAt h')) fun _ _ x => x
theorem snd_rev {fz : Bool} {e : PE} {v : Expr} {k : Nat} {p q r pos : Pos} (he : SE X n sc e v) : SE X n sc (.rev fz e) (.Subscript v (.Slice none none (some (.UnaryOp .USub (.Constant (.int 1) k p) q)) r) pos) := by
  intro A env Pv W σ s Q E ok at_ h
  rw [eval_Subscript]
  refine he.bind ok at_ h fun a W₁ σ₁ s₁ y at₁ _ hy h₁ => ?_
  show wpAny _ A (holding [a] (valueOrNone (evalOpt none env) >>= fun l => holding [l] (valueOrNone (evalOpt none env)) >>= fun u => holding [l, u] ((mkInt 1 : Sem Value) >>= fun v => standAt q >>= fun _ => holding [v] (unaryOp .USub v)) >>= fun s => newFields "slice" [l, u, s]) >>= fun i => standAt pos >>= fun _ => subscriptTail v (.Slice none none (some (.UnaryOp .USub (.Constant (.int 1) k p) q)) r) a i) _ _ s₁
  refine wpAny_bind (wpAny_holding (wpAny_bind (wpAny_pure (wpAny_bind (wpAny_holding (wpAny_pure (wpAny_bind (wpAny_holding (wpAny_bind (wpAny_mkInt (wpAny_bind (wpAny_standAt (wpAny_holding (neg_int ?_))))))))))))))
  exact need_e h₁ fun x ex h₁ => need_e h₁ fun xs hx hg => wpAny_mono (rev_ok (value := v) (slice := .Slice none none (some (.UnaryOp .USub (.Constant (.int 1) k p) q)) r) (OpQ.from (A := A) (at₁.tf (tk := s₁.toks + 1 + 1))) at₁.rel ((see_ok at₁.rel hy ex).toLst hx) hg)
    (fun i s' h' => wpAny_bind (wpAny_standAt h')) fun _ _ x => x
end
end Mine

end

section
set_option autoImplicit false
set_option linter.all false
set_option genSizeOf false
set_option genInjectivity false
namespace Mine
open PySem PySem.W PySem.Calls PyProof.Rows

section
variable {X : Cx} {n : Nat} {sc : Sc}

theorem evalArgs_all {M : Model} {A : Around} {E : Value → Shared → Prop} {s : Shared} {f : Value} {ts : List (Bool × Sem Value)} {Q : Args → Shared → Prop} (hp : ∀ t ∈ ts, t.1 = false)
    (h : wpAny M A (spliced ts) (fun vs s' => Q ⟨vs, []⟩ s') E s) : wpAny M A (evalArgs f true ts []) Q E s := by
  cases ts with
  | nil => exact wpAny_bind (wpAny_mono h (fun vs s' h' => wpAny_bind (wpAny_pure (wpAny_holding (wpAny_bind (wpAny_pure (wpAny_bind (wpAny_pure (wpAny_pure h'))))))))  fun _ _ x => x)
  | cons t r =>
    obtain ⟨b, x⟩ := t
    cases (hp (b, x) (.head _) : b = false)
    exact evalArgs_plain h

/-- a frozen answer -/
theorem giveV_ok {fz : Bool} {σ : St} {Q : V → St → Prop} {v : Value} {av : V} {W : Wd} {s : Shared} (R : RelH X W σ.H s.heap) (hv : VR X W v av) (g : giveV fz σ Q av) {G : Prop}
    (k : ∀ W' H' av', Tc X W σ.H s W' H' s → VR X W' v av' → Q av' ⟨H', σ.loc⟩ → G) : G := by
  have no : Q av σ → G := fun g => k W σ.H av (.refl R) hv g
  refine Br_e g (fun _ g => ?_) fun _ g => no g
  cases q : aRef av with
  | none => rw [q] at g; exact no g
  | some i =>
    rw [q] at g
    have g : (match cL (σ.H.get i) with | some xs => Q (.lst xs) (σ.setH (σ.H.del i)) | none => Q av σ) := g
    cases q2 : cL (σ.H.get i) with
    | none => rw [q2] at g; exact no g
    | some xs =>
      rw [q2] at g
      refine aRef_e hv q fun l e hl _ => ?_
      obtain ⟨o, r, t, z⟩ := R.freeze (cL_e q2) hl
      exact k _ _ _ ⟨t, r, .refl _⟩ (e ▸ z) g

theorem plain_any {env : Env} {vs : List Expr} : ((vs.map fun e => ((false : Bool), eval e env)).any (·.1)) = false := by
  induction vs with
  | nil => rfl
  | cons x r ih => exact ih
theorem plain_all {env : Env} {vs : List Expr} : ∀ t ∈ (vs.map fun e => ((false : Bool), eval e env)), t.1 = false := fun t ht =>
  (List.mem_map.mp ht).elim fun e q => q.2 ▸ rfl

/-- the arguments, then the call -/
theorem args_then {A : Around} {env : Env} {Pv : Pr} {W : Wd} {σ : St} {s : Shared} {E : EP} {as : PEs} {vs : List Expr} {f : Value} {Qv : List V → St → Prop} {Q : Args → Shared → Prop} (has : SEs X n sc as vs) (ok : EnvOk X A env Pv n sc) (at_ : At X env Pv W σ s) (h : wpEs X.P (CW X.P n) E as σ Qv)
    (hq : ∀ cvs avs W' σ' s', Tf X env Pv W σ s W' σ' s' → VRs X W' cvs avs → Qv avs σ' → Q ⟨cvs, []⟩ s') :
    wpAny (model X.prog X.w) A (evalArgs f true (vs.map fun e => (false, eval e env)) []) Q (EX X env Pv W σ s E) s :=
  evalArgs_all plain_all (wpAny_mono (has A env Pv W σ s _ E ok at_ h) (fun cvs s' q => q.e fun W' σ' T q => q.e fun avs hv h => hq cvs avs W' σ' s' T hv h) fun _ _ x => x)

theorem Go.from {α : Type} {env : Env} {Pv : Pr} {W W' : Wd} {σ σ' : St} {s s' s'' : Shared} {R : α → Wd → St → Shared → Prop} {a : α} (T : Tf X env Pv W σ s W' σ' s') (q : Go X env Pv W' σ' s' R a s'') : Go X env Pv W σ s R a s'' := q.e fun W₂ σ₂ T₂ r => ⟨W₂, σ₂, T.trans T₂, r⟩
/-- a call of a def of the text's -/
theorem fn_call (hK : CallM X n) {A : Around} {env : Env} {Pv : Pr} {W W₀ : Wd} {σ σ₀ : St} {s s₀ : Shared} {E : EP} {fz : Bool} {k : Nat} {a : Addr} {cvs : List Value} {avs : List V} {Q : V → St → Prop} (T₀ : Tf X env Pv W₀ σ₀ s₀ W σ s) (ok : AOk A n) (hq : A.handled = none ∨ X.quiet k = true) (hst : A.frames = some Pv.st) (hv : VRs X W cvs avs) (ha : X.fnA k = some a)
    (h : CW X.P n k avs σ.H (fun v H => giveV fz (σ.setH H) Q v) (fun e H => E e (σ.setH H))) :
    wpAny (model X.prog X.w) A (call (.ref a) cvs []) (Go X env Pv W₀ σ₀ s₀ (VQ X Q)) (EX X env Pv W₀ σ₀ s₀ E) s := by
  refine wpAny_call (codeAny_mono (hK A k a avs cvs W σ.H s _ _ ok hq ⟨_, hst, T₀.at_.fr.frs⟩ T₀.at_.rel hv ha h) fun r s' hr => ?_)
  cases r with
  | ok fl =>
    cases fl with
    | ret v =>
      obtain ⟨W', H', av, T, hv', g⟩ := hr
      exact giveV_ok (σ := σ.setH H') T.rel hv' g fun W₂ H₂ av₂ T₂ hv₂ hq => ⟨W₂, ⟨H₂, σ.loc⟩, T₀.trans ((T.trans T₂).tf T₀.at_), av₂, hv₂, hq⟩
    | _ => exact hr.elim
  | error e =>
    obtain ⟨W', H', i, l, k, T, he, hl, hg, hf, hE⟩ := hr
    exact EX.back T₀ ⟨W', ⟨H', σ.loc⟩, i, l, k, T.tf T₀.at_, he, hl, hg, hf, hE⟩

inductive BvC (b : B) : Prop
  | ty (T : String) (e : bval b = .type T)
  | fn (id : String) (e : bval b = .builtin id)
theorem bval_cases (b : B) : BvC b := by
  cases b <;> first | exact .ty _ rfl | exact .fn _ rfl

theorem callW_fail {A : Around} {M : Model} {E : Value → Shared → Prop} {s : Shared} {pos : Pos} {f : Value} {first : List Value} {args : List (Bool × Sem Value)} {Q : Value → Shared → Prop} (h : wpAny M A (evalArgs f true args []) (fun _ _ => False) E s) :
    wpAny M A (callWith pos f first args []) Q E s := by
  unfold callWith
  exact wpAny_bind (wpAny_holding (wpAny_mono h (fun _ _ h₁ => h₁.elim) fun _ _ x => x))

theorem eval_Call_Name (x : Str) (p : Pos) (args : List Expr) (pos : Pos) (env : Env) : eval (.Call (.Name x p) args [] pos) env = (eval (.Name x p) env >>= fun f => callWith pos f [] (backTo pos (starEach args env)) []) := rfl

/-- what may be called -/
theorem callee_e {W : Wd} {cf : Value} {g : V} {P : Prog} {K : CT} {E : EP} {fz : Bool} {Q : V → St → Prop} {G : Prop} (hg : VR X W cf g) (hb : ∀ b, g = .bt b → cf = bval b → G) (hf : ∀ k a, g = .fn k → cf = .ref a → X.fnA k = some a → G) (hc : ∀ k a, g = .cls k → cf = .ref a → X.clA k = some a → G)
    (no : (∀ σ as, callF P K E fz σ g as Q → False) → G) : G := by
  cases hg with
  | bt b => exact hb b rfl rfl
  | fn ha => exact hf _ _ rfl rfl ha
  | cls ha => exact hc _ _ rfl rfl ha
  | _ => exact no fun _ _ q => q
/-- may be called now -/
noncomputable def MayQ (X : Cx) (A : Around) (g : V) : Prop := A.handled = none ∨ Qt X g
theorem MayQ.bt {A : Around} {b : B} (h : MayQ X A (.bt b)) : quietB A b := by
  cases h with
  | inl q => exact .inl q
  | inr q => cases q with
    | len => exact .inr (.inl rfl)
    | isi => exact .inr (.inr rfl)
theorem MayQ.fn {A : Around} {k : Nat} (h : MayQ X A (.fn k)) : A.handled = none ∨ X.quiet k = true := h.imp id fun q => by cases q; assumption

theorem call_rest (K : CxOk X) (hK : CallM X n) {A : Around} {env : Env} {Pv : Pr} {W : Wd} {σ : St} {s : Shared} {E : EP} {Q : V → St → Prop} {fz : Bool} {as : PEs} {vs : List Expr} {pos : Pos} {cf : Value} {g : V} (ok : EnvOk X A env Pv n sc) (at₁ : At X env Pv W σ s) (has : SEs X n sc as vs) (hg : VR X W cf g) (hq : MayQ X A g)
    (h₁ : wpEs X.P (CW X.P n) E as σ fun vs σ₂ => callF X.P (CW X.P n) E fz σ₂ g vs Q)
    (hcls : ∀ k a, g = .cls k → cf = .ref a → X.clA k = some a → Ew X A env Pv (callWith pos cf [] (vs.map fun e => (false, eval e env)) []) W σ s (VQ X Q) E) : Ew X A env Pv (callWith pos cf [] (vs.map fun e => (false, eval e env)) []) W σ s (VQ X Q) E := by
  refine callee_e (P := X.P) (K := CW X.P n) (E := E) (fz := fz) (Q := Q) hg (fun b e e' => ?_) (fun k a e e' ha => ?_) hcls fun hb => callW_fail (args_then has ok at₁ h₁ fun cvs avs W' σ' s' T hv hq => hb _ _ hq)
  · subst e e'
    have key : ∀ cvs avs W' σ' s', Tf X env Pv W σ s W' σ' s' → VRs X W' cvs avs → callF X.P (CW X.P n) E fz σ' (.bt b) avs Q →
        wpAny (model X.prog X.w) A (call (bval b) cvs []) (Go X env Pv W σ s (VQ X Q)) (EX X env Pv W σ s E) s' := fun cvs avs W' σ' s' T hv hq' =>
      K.isi.elim fun _ I => callB_ok (OpQ.from (A := A) T) I hq.bt T.at_.rel hv hq'
    cases bval_cases b with
    | ty T e => rw [e] at key ⊢; exact PyProof.Rows.callWith_type plain_any (args_then has ok at₁ h₁ key)
    | fn id e => rw [e] at key ⊢; exact callWith_builtin plain_any (args_then has ok at₁ h₁ key)
  · subst e e'
    obtain ⟨o, fd, ho, hd⟩ := K.fnAt _ _ ha
    exact callWith_function (o := o) (fd := fd) (args_then has ok at₁ h₁ fun cvs avs W' σ' s' T hv hq' => ⟨⟨T.at_.rel.bkeep _ _ ho, hd⟩, fn_call hK T ok.ok.call hq.fn ok.stk hv ha hq'⟩)
/-- what may be called, when the callee has been looked up -/
theorem call_head (K : CxOk X) {fz : Bool} {f : PE} {as : PEs} {x : Str} {p pos : Pos} {vs : List Expr} (hf : SE X n sc f (.Name x p)) (hq : (sc.hd || qGlob X.ck f) = true) {A : Around} {env : Env} {Pv : Pr} {W : Wd} {σ : St} {s : Shared} {Q : V → St → Prop} {E : EP} (ok : EnvOk X A env Pv n sc) (at_ : At X env Pv W σ s) (h : wpE X.P (CW X.P n) E (.call fz f as) σ Q)
    (k : ∀ cf W₁ σ₁ s₁ g, At X env Pv W₁ σ₁ s₁ → VR X W₁ cf g → MayQ X A g → (wpEs X.P (CW X.P n) E as σ₁ fun vs σ₂ => callF X.P (CW X.P n) E fz σ₂ g vs Q) →
      Ew X A env Pv (callWith pos cf [] (vs.map fun e => (false, eval e env)) []) W₁ σ₁ s₁ (VQ X Q) E) :
    Ew X A env Pv (eval (.Name x p) env >>= fun cf => callWith pos cf [] (vs.map fun e => (false, eval e env)) []) W σ s (VQ X Q) E := by
  cases e : sc.hd with
  | true => exact hf.bind ok at_ h fun cf W₁ σ₁ s₁ g at₁ _ hg h₁ => k cf W₁ σ₁ s₁ g at₁ hg (.inl (ok.hh e)) h₁
  | false =>
    rw [e] at hq
    cases f with
    | glob i => exact need_e h fun v hv h => hf.bind (Q := fun g σ₁ => g = v ∧ wpEs X.P (CW X.P n) E as σ₁ fun vs σ₂ => callF X.P (CW X.P n) E fz σ₂ g vs Q) ok at_ (need_i hv ⟨rfl, h⟩) fun cf W₁ σ₁ s₁ g at₁ _ hg h₁ => k cf W₁ σ₁ s₁ g at₁ hg (.inr (h₁.1 ▸ K.qg i v hq hv)) h₁.2
    | _ => cases hq
theorem snd_call0 (K : CxOk X) (hK : CallM X n) (hno : ∀ k, X.clA k = none) {c : Ck} {fz : Bool} {f : PE} {as : PEs} {x : Str} {p : Pos} {vs : List Expr} {pos : Pos} (hf : SE X n sc f (.Name x p)) (hq : (sc.hd || qGlob X.ck f) = true) (has : SEs X n sc as vs) (hc : chkEs c sc as vs = true) : SE X n sc (.call fz f as) (.Call (.Name x p) vs [] pos) := by
  intro A env Pv W σ s Q E ok at_ h
  rw [eval_Call_Name, back_plain hc]
  exact call_head K hf hq ok at_ h fun cf W₁ σ₁ s₁ g at₁ hg hq h₁ => call_rest K hK ok at₁ has hg hq h₁ fun k a _ _ ha => by rw [hno] at ha; cases ha

theorem base_plain {o : Expr} {a : Str} {env : Env} {t : Sem Value} (h : notSuper o = true) : attributeBase o a env t = t := by
  cases o with
  | Call f l kw p =>
    cases f with
    | Name x p =>
      cases l with
      | nil => cases kw with
        | nil => cases h
        | cons _ _ => rfl
      | cons _ _ => rfl
    | _ => rfl
  | _ => rfl
theorem form_plain {env : Env} {vs : List Expr} {pos : Pos} (h : vs.length ≤ 20) : methodCallForm (vs.length + ([] : List Keyword).length) (vs.map fun e => ((false : Bool), eval e env)) (backToKw pos (keywordEach [] env)) = true := by
  unfold methodCallForm
  have : ((vs.map fun e => ((false : Bool), eval e env)).all (!·.1)) = true := by
    rw [List.all_eq_true]
    intro t ht
    rw [plain_all t ht]; rfl
  rw [this]
  exact decide_eq_true (p := vs.length + 0 + 0 < 30) (Nat.lt_of_le_of_lt h (by decide))
end
end Mine

end

section
set_option autoImplicit false
set_option linter.all false
set_option genSizeOf false
set_option genInjectivity false
namespace Mine
open PySem PySem.W PySem.Calls PyProof.Rows

section
variable {X : Cx} {n : Nat} {sc : Sc}
theorem VRs.one_e {W : Wd} {vs : List Value} {x : V} {G : Prop} (h : VRs X W vs [x]) (g : ∀ v, vs = [v] → VR X W v x → G) : G := by
  cases h with | cons a b => cases b; exact g _ rfl a

section
variable {A : Around} {E : Value → Shared → Prop} {W : Wd} {H : Hp} {s : Shared} {i : Nat} {l : Addr × Addr} {xs : List V} {Q : Value → Shared → Prop} (R : RelH X W H s.heap) (hi : H.get i = some (.list xs)) (hl : W.φ i = some l)
include R hi hl
/-- a list's items are others now -/
theorem RelH.lset {ys : List V} {h' : Heap} {vs' : Array Value} {k' tk : Nat} (he : l.2 = l.1) (hk : ∀ b ob, s.heap.get? b = some ob → b ≠ l.1 → h'.get? b = some ob) (ha : h'.get? l.1 = some (lstO vs' k')) (hv : VRs X W vs'.toList ys) (hz : ys.length ≤ SZ) : Tc X W H s W (H.set i (.list ys)) { s with heap := h', toks := tk } :=
  let ⟨r, t⟩ := R.upd (h' := h') (c' := .list ys) hi hl (fun b ob e n1 _ => hk b ob e n1) ⟨vs', k', ha, hv, he, hz⟩
  ⟨t, r, ⟨rfl, rfl, rfl⟩⟩
theorem append_ok {v : Value} {x : V} (hv : VR X W v x) (hz : xs.length < SZ)
    (h : ∀ s', Tc X W H s W (H.set i (.list (xs ++ [x]))) s' → Q .none s') : wpAny (model X.prog X.w) A (call (.builtin "list.append") [.ref l.1, v]) Q E s := by
  obtain ⟨vs, k, hg, hvs, he, _⟩ := R.at_ hi hl
  exact append_at hg (fun h' hs ha => h _ (R.lset (tk := s.toks) hi hl he (fun b ob e n1 => (hs.2 b n1).trans e) ha (by rw [Array.toList_push]; exact hvs.append (.cons hv .nil)) (by rw [List.length_append]; exact hz))) (by rw [hvs.toArr]; exact szLine (Nat.le_of_lt hz))
theorem extend_ok {v : Value} {ys : List V} (hv : SqL X W s.heap v ys) (hz : xs.length + ys.length ≤ SZ)
    (h : ∀ s', Tc X W H s W (H.set i (.list (xs ++ ys))) s' → Q .none s') : wpAny (model X.prog X.w) A (call (.builtin "list.extend") [.ref l.1, v]) Q E s := by
  obtain ⟨vs, k, hg, hvs, he, _⟩ := R.at_ hi hl
  obtain ⟨a, ws, k2, rfl, g2, r2, q2, z2⟩ := hv
  have hz' : vs.size + ws.size ≤ sizeLine := by rw [hvs.toArr, z2]; exact szLine hz
  refine call_meets F.slot_list_extend ⟨_, hg, rfl⟩ F.entry_list_extend (F.args_list_extend_2 _ _) (AutoSeq1.list_extend_list_list_0 l.1 vs k a ws k2 (extend_door hz') (Nat.le_trans (Nat.le_add_right _ _) hz') (Nat.le_succ_of_le hz')) ⟨hg, g2, h _ ?_⟩
  exact R.lset hi hl he (fun b ob q n1 => (Heap.get?_update_other _ _ (Ne.symm n1)).trans q) (Heap.get?_update_self _ hg rfl) (by show VRs X W (vs ++ ws).toList _; rw [Array.toList_append]; exact hvs.append r2) (by rw [List.length_append]; exact hz)
theorem pop_ok {k : Int} {t : Tok} {j : Nat} {x : V} (hj : pyIdx k xs.length = some j) (hx : xs[j]? = some x)
    (h : ∀ v s', Tc X W H s W (H.set i (.list (xs.take j ++ xs.drop (j + 1)))) s' → VR X W v x → Q v s') : wpAny (model X.prog X.w) A (call (.builtin "list.pop") [.ref l.1, .int k t]) Q E s := by
  obtain ⟨vs, m, hg, hvs, he, hz⟩ := R.at_ hi hl
  have z := hvs.toArr
  obtain ⟨v, hv, hr⟩ := arr_get hvs hx
  have hfit : Builtin.List.listFitsIndex k = true := by
    have := pyIdx_63 hj hz
    unfold Builtin.List.listFitsIndex
    rw [decide_eq_true this.1, decide_eq_true this.2]; rfl
  refine call_meets F.slot_list_pop ⟨_, hg, rfl⟩ F.entry_list_pop (F.args_list_pop_2 _ _) (MeetsSeq.list_pop_at l.1 vs m k t j v hfit (by rw [z]; exact pyIdx_seq hj) hv (by rw [z]; exact szLine hz)) ⟨hg, h v _ ?_ hr⟩
  refine R.lset hi hl he (fun b ob q n1 => (Heap.get?_update_other _ _ (Ne.symm n1)).trans q) (Heap.get?_update_self _ hg rfl) ?_ ?_
  · show VRs X W (vs.eraseIdxIfInBounds j).toList _
    rw [Array.toList_eraseIdxIfInBounds, List.eraseIdx_eq_take_drop_succ]
    exact (hvs.take j).append (hvs.drop (j + 1))
  · have := (List.getElem?_eq_some_iff.mp hx).1
    rw [List.length_append, List.length_take, List.length_drop]; omega
end

section
variable {A : Around} {env : Env} {Pv : Pr} {W : Wd} {σ : St} {s : Shared} {E : EP} {m : Nat} {as : PEs} {v : Expr} {ap pos : Pos} {vs : List Expr}
/-- the call of a method, behind its object -/
abbrev mcall (X : Cx) (env : Env) (m : Nat) (v : Expr) (ap pos : Pos) (vs : List Expr) (a : Addr) : Sem Value := methodCall v (X.nm m) ap pos env (.ref a) (vs.length + ([] : List Keyword).length) (vs.map fun e => (false, eval e env)) (backToKw pos (keywordEach [] env))
/-- a built-in type's method -/
theorem meth_bi {T id : String} {a : Addr} {ob : Obj} {Q : V → St → Prop} {Qv : List V → St → Prop} (ok : EnvOk X A env Pv n sc) (at_ : At X env Pv W σ s) (has : SEs X n sc as vs) (hlen : vs.length ≤ 20) (hline : (ap.endLine == pos.line) = true)
    (pa : PlainAttrs T) (slot : Slot T (X.nm m) id) (hty : typeOf (.builtin id) = pure (.type "method_descriptor")) (hg : s.heap.get? a = some ob) (hT : s.TypeIs (.ref a) T) (hd : ob.dict = none) (h : wpEs X.P (CW X.P n) E as σ Qv)
    (hcall : ∀ cvs avs W' σ' s', Tf X env Pv W σ s W' σ' s' → VRs X W' cvs avs → Qv avs σ' → wpAny (model X.prog X.w) A (call (.builtin id) ([.ref a] ++ cvs) []) (Go X env Pv W σ s (VQ X Q)) (EX X env Pv W σ s E) s') :
    Ew X A env Pv (mcall X env m v ap pos vs a) W σ s (VQ X Q) E := by
  have hpos : methodCallPos true v env ap pos = pure pos := by unfold methodCallPos; simp [hline]
  unfold mcall methodCall
  rw [form_plain hlen]
  exact wpAny_bind (wpAny_holding (getMethod_builtin hT pa slot hty (fun b e => by cases e; exact ⟨ob, hg, hd⟩) (wpAny_bind (wpAny_of_eq hpos (callWith_builtin plain_any (args_then has ok at_ h hcall))))))
theorem or3_e {a b c : Bool} {G : Prop} (h : (a || (b || c)) = true) (x : a = true → G) (y : b = true → G) (z : c = true → G) : G := by
  cases a with
  | true => exact x rfl
  | false => cases b with
    | true => exact y rfl
    | false => exact z h
theorem Br_t {b : Bool} {t e : Prop} (h : Br b t e) (q : b = true) : t := by subst q; exact h
theorem Br_f {b : Bool} {t e : Prop} (h : Br b t e) (q : b = false) : e := by subst q; exact h
theorem nb_ne {X : Cx} (K : CxOk X) {m k : Nat} {a b : Str} (ha : X.nm m = a) (hb : X.nm k = b) (hn : a ≠ b) : Nat.beq m k = false := by
  cases q : Nat.beq m k with
  | false => rfl
  | true => have := Nat.eq_of_beq_eq_true q; subst this; exact absurd (ha.symm.trans hb) hn
theorem nm_of {X : Cx} {m k : Nat} {a : Str} (h : Nat.beq m k = true) (e : X.nm k = a) : X.nm m = a := by
  rw [Nat.eq_of_beq_eq_true h]; exact e
theorem meth_list (K : CxOk X) {Q : V → St → Prop} {i : Nat} {l : Addr × Addr} {xs : List V} (ok : EnvOk X A env Pv n sc) (at_ : At X env Pv W σ s) (has : SEs X n sc as vs) (hlen : vs.length ≤ 20) (hline : (ap.endLine == pos.line) = true) (hl : W.φ i = some l) (hgi : σ.H.get i = some (.list xs))
    (h : Nd ((Nat.beq m X.P.nAppend || (Nat.beq m X.P.nPop || Nat.beq m X.P.nExtend)) = true) (wpEs X.P (CW X.P n) E as σ fun vs σ₂ => need (cL (σ₂.H.get i)) fun xs => methL X.P σ₂ i m vs xs Q)) :
    Ew X A env Pv (mcall X env m v ap pos vs l.1) W σ s (VQ X Q) E := by
  obtain ⟨ws, k, hg, hvs, he, hz⟩ := at_.rel.at_ hgi hl
  have fin : ∀ {W₂ : Wd} {σ₂ : St} {s₂ s' : Shared} {H' : Hp} {v : Value} {x : V}, Tf X env Pv W σ s W₂ σ₂ s₂ → Tc X W₂ σ₂.H s₂ W₂ H' s' → VR X W₂ v x → Q x (σ₂.setH H') → Go X env Pv W σ s (VQ X Q) v s' := fun T T' r q => ⟨_, _, T.trans (T'.tf T.at_), _, r, q⟩
  refine or3_e h.1 (fun hA => ?_) (fun hP => ?_) fun hE => ?_
  · have e := nm_of hA K.nAppend
    refine meth_bi ok at_ has hlen hline F.plainAttrs_list (e ▸ F.slot_list_append) F.type_list_append hg ⟨_, hg, rfl⟩ rfl h.2 fun cvs avs W₂ σ₂ s₂ T hv hq => need_e hq fun ys ey hq => need_e hq fun a ea hq => ?_
    have hq := Br_t hq hA
    rw [one_ok ea] at hv
    exact hv.one_e fun cv ec hcv => by
      subst ec
      exact append_ok T.at_.rel (cL_e ey) (T.stp.le.ff _ _ hl) hcv hq.1 fun s' T' => fin T T' .none hq.2
  · have e := nm_of hP K.nPop
    refine meth_bi ok at_ has hlen hline F.plainAttrs_list (e ▸ F.slot_list_pop) F.type_list_pop hg ⟨_, hg, rfl⟩ rfl h.2 fun cvs avs W₂ σ₂ s₂ T hv hq => need_e hq fun ys ey hq => need_e hq fun a ea hq => ?_
    have hq := Br_t (Br_f hq (nb_ne K e K.nAppend (by decide +kernel))) hP
    rw [one_ok ea] at hv
    exact hv.one_e fun cv ec hcv => need_e hq fun kk ek hq => need_e hq fun j hj hq => need_e hq fun x hx hq => aInt_of hcv ek fun t et => by
      subst ec et
      exact pop_ok T.at_.rel (cL_e ey) (T.stp.le.ff _ _ hl) hj hx fun v s' T' hv => fin T T' hv hq
  · have e := nm_of hE K.nExtend
    refine meth_bi ok at_ has hlen hline F.plainAttrs_list (e ▸ F.slot_list_extend) F.type_list_extend hg ⟨_, hg, rfl⟩ rfl h.2 fun cvs avs W₂ σ₂ s₂ T hv hq => need_e hq fun ys ey hq => need_e hq fun a ea hq => ?_
    have hq := Br_f (Br_f hq (nb_ne K e K.nAppend (by decide +kernel))) (nb_ne K e K.nPop (by decide +kernel))
    rw [one_ok ea] at hv
    exact hv.one_e fun cv ec hcv => need_e hq fun y hy hq => need_e hq fun zs hzs hq => by
      subst ec
      exact extend_ok T.at_.rel (cL_e ey) (T.stp.le.ff _ _ hl) ((see_ok T.at_.rel hcv hy).toLst hzs) hq.1 fun s' T' => fin T T' .none hq.2
theorem DGv.get {o : Option Value} {p : Option V} {v : Value} {x : V} {W : Wd} (h : DGv X W o p) (hv : VR X W v x) : VR X W (o.getD v) (p.getD x) := by
  cases h with
  | none => exact hv
  | some r => exact r
end
theorem snd_meth (K : CxOk X) {c : Ck} {fz : Bool} {o : PE} {m : Nat} {as : PEs} {v : Expr} {ap pos : Pos} {vs : List Expr} (ho : SE X n sc o v) (has : SEs X n sc as vs) (hc : chkEs c sc as vs = true) (hns : notSuper v = true) (hlen : vs.length ≤ 20) (hline : (ap.endLine == pos.line) = true)
    (hinst : ∀ (A : Around) (env : Env) (Pv : Pr) (W : Wd) (σ : St) (s : Shared) (Q : V → St → Prop) (E : EP) (i : Nat) (l : Addr × Addr) (k : Nat) (fs : List (Nat × V)), EnvOk X A env Pv n sc → At X env Pv W σ s → W.φ i = some l → σ.H.get i = some (.inst k fs) →
      (need (X.P.cls k) fun c => need (lk c.meths m) fun f => wpEs X.P (CW X.P n) E as σ fun vs σ₂ => callF X.P (CW X.P n) E fz σ₂ (.fn f) (.ref i :: vs) Q) →
      Ew X A env Pv (mcall X env m v ap pos vs l.1) W σ s (VQ X Q) E) :
    SE X n sc (.meth fz o m as) (.Call (.Attribute v (X.nm m) ap) vs [] pos) := by
  intro A env Pv W σ s Q E ok at_ h
  rw [arm_eval_Call, base_plain hns, back_plain hc]
  refine ho.bind ok at_ h fun cf W₁ σ₁ s₁ g at₁ _ hg h₁ => Ew.standAt (need_e h₁ fun i ei h₁ => aRef_e hg ei fun l e hl _ => ?_)
  subst e
  cases hgi : σ₁.H.get i with
  | none => rw [hgi] at h₁; exact h₁.elim
  | some c =>
    rw [hgi] at h₁
    cases c with
    | inst k fs => exact hinst A env Pv W₁ σ₁ s₁ Q E i l k fs ok at₁ hl hgi h₁
    | dict _ => exact h₁.elim
    | exc _ => exact h₁.elim
    | list xs => exact meth_list K ok at₁ has hlen hline hl hgi h₁
end
end Mine

end

section
set_option autoImplicit false
set_option linter.all false
set_option genSizeOf false
set_option genInjectivity false
namespace Mine
open PySem PySem.Calls PyProof.Rows

noncomputable def isL : V → Bool
  | .lst _ => true
  | .ref _ => true
  | _ => false
theorem isL_see {H : Hp} {v : V} {xs : List V} (q : isL v = true) (h : items H v = some xs) : see H v = some (.lst xs) := by
  cases v with
  | lst ys => exact congrArg (some ∘ V.lst) (Option.some.inj h)
  | ref i => show mL (cL (H.get i)) = _; rw [show cL (H.get i) = some xs from h]; rfl
  | _ => cases q
/-- the iterator at I stands at place k of what v holds -/
inductive ItAt (X : Cx) (W : Wd) (h : Heap) (I : Addr) (v : V) (k : Nat) : Prop
  | lst (a : Addr) (r : VR X W (.ref a) v) (q : isL v = true) (it : h.IsListIter I a k)
  | tup (a : Addr) (xs : List V) (e : v = .tup xs) (r : VR X W (.ref a) v) (it : h.IsTupleIter I a k)
  | rng (a b c : Int) (e : v = .rng a b c) (hc : c = 1 ∨ c = -1) (it : IsRangeIter h I (a + (k : Nat) * c) ((rngN a b c : Int) - (k : Nat)) c)

section
variable {X : Cx} {A : Around} {E : Value → Shared → Prop} {W : Wd} {H : Hp} {s : Shared}

theorem ItAt.keep {W' : Wd} {h h' : Heap} {I : Addr} {v : V} {k : Nat} (it : ItAt X W h I v k) (le : Wd.Le W W') (hk : ∀ o, h.get? I = some o → NoNames o → h'.get? I = some o) : ItAt X W' h' I v k := by
  cases it with
  | lst a r q it => obtain ⟨o, ho, hc, hd⟩ := it; exact .lst a (r.le le) q ⟨o, hk o ho (fun es n q => by rw [hd] at q; cases q), hc, hd⟩
  | tup a xs e r it => obtain ⟨o, ho, hc, hd⟩ := it; exact .tup a xs e (r.le le) ⟨o, hk o ho (fun es n q => by rw [hd] at q; cases q), hc, hd⟩
  | rng a b c e hc it => exact .rng a b c e hc (hk _ it (fun es n q => by cases q))
theorem ItAt.there {h : Heap} {I : Addr} {v : V} {k : Nat} (it : ItAt X W h I v k) : ∃ o, h.get? I = some o := by
  cases it with
  | lst a r q it => exact it.elim fun o q => ⟨o, q.1⟩
  | tup a xs e r it => exact it.elim fun o q => ⟨o, q.1⟩
  | rng a b c e hc it => exact ⟨_, it⟩

theorem iter_ok {cv : Value} {v : V} {xs : List V} {Q : Value → Shared → Prop} (R : RelH X W H s.heap) (hv : VR X W cv v) (hi : items H v = some xs)
    (h : ∀ o, o.isFreed = false → ItAt X W (s.heap.push o) s.heap.objs.size v 0 → Q (.ref s.heap.objs.size) { s with heap := s.heap.push o }) : wpAny (model X.prog X.w) A (pyIter cv) Q E s := by
  have lst : isL v = true → wpAny (model X.prog X.w) A (pyIter cv) Q E s := fun q => by
    obtain ⟨a, vs, n, rfl, hg, r, _, _⟩ := (see_ok R hv (isL_see q hi)).toLst rfl
    exact wpAny_pyIter_list (items := vs) (isList_of hg) (h _ rfl (.lst a hv q ⟨_, Heap.get?_push_size _ rfl, rfl, rfl⟩))
  cases v with
  | lst ys => exact lst rfl
  | ref i => exact lst rfl
  | tup ys =>
    obtain ⟨a, vs, n, rfl, hg, r, _, _⟩ := (see_ok R hv rfl).toTup rfl
    exact wpAny_pyIter_tuple (items := vs) (isTup_of hg) (h _ rfl (.tup a ys rfl hv ⟨_, Heap.get?_push_size _ rfl, rfl, rfl⟩))
  | rng a b c =>
    cases hv with
    | rng z ha hb hc =>
      refine wpAny_pyIter_range (R.z _ _ z) (rng_small hc ha hb) (h _ rfl (.rng a b c rfl hc ?_))
      rw [rng_size hc]
      have : IsRangeIter (s.heap.push { cls := .type "range_iterator", data := .fields #[rawInt a, rawInt (rngN a b c), rawInt c] }) s.heap.objs.size a (rngN a b c) c := Heap.get?_push_size _ rfl
      rw [show a + ((0 : Nat) : Int) * c = a by rw [Int.natCast_zero, Int.zero_mul, Int.add_zero], show (rngN a b c : Int) - ((0 : Nat) : Int) = rngN a b c from Int.sub_zero _]
      exact this
  | _ => cases hi

theorem next_item {I : Addr} {v x : V} {xs : List V} {k : Nat} {Q : Option Value → Shared → Prop} (R : RelH X W H s.heap) (it : ItAt X W s.heap I v k) (hi : items H v = some xs) (hx : xs[k]? = some x)
    (h : ∀ cv h' tk, VR X W cv x → ItAt X W h' I v (k + 1) → Heap.ExtBut I s.heap h' → Q (some cv) { s with heap := h', toks := tk }) : wpAny (model X.prog X.w) A (pyNext (.ref I)) Q E s := by
  cases it with
  | lst a r q it =>
    obtain ⟨a', vs, n, e, hg, rs, _, _⟩ := (see_ok R r (isL_see q hi)).toLst rfl
    cases e
    exact (arr_get rs hx).elim fun cv z => wpAny_pyNext_list_item it (items := vs) (isList_of hg) z.1 fun h' hit' hs => h cv h' s.toks z.2 (.lst a r q hit') hs.extBut
  | tup a ys e r it =>
    subst e
    obtain ⟨a', vs, n, e, hg, rs, _, _⟩ := (see_ok R r rfl).toTup rfl
    cases e
    cases (Option.some.inj hi : ys = xs)
    exact (arr_get rs hx).elim fun cv z => wpAny_pyNext_tuple_item it (items := vs) (isTup_of hg) z.1 fun h' hit' hs => h cv h' s.toks z.2 (.tup a _ rfl r hit') hs.extBut
  | rng a b c e hc it =>
    subst e
    have e : rngL a c (rngN a b c) = xs := Option.some.inj hi
    have hk : k < rngN a b c := by
      have := (List.getElem?_eq_some_iff.mp hx).1
      rw [← e, rngL_length] at this; exact this
    rw [← e, rngL_get c _ a k hk] at hx
    cases hx
    refine wpAny_pyNext_range_item it (by omega) fun h' hit' hs => h _ h' _ (.int _ _) (.rng a b c rfl hc ?_) hs.extBut
    have e1 : a + ((k + 1 : Nat) : Int) * c = a + (k : Int) * c + c := by rw [Int.natCast_succ, Int.add_mul, Int.one_mul, Int.add_assoc]
    have e2 : (rngN a b c : Int) - ((k + 1 : Nat) : Int) = (rngN a b c : Int) - (k : Int) - 1 := by omega
    rw [e1, e2]; exact hit'

theorem next_end {I : Addr} {v : V} {xs : List V} {Q : Option Value → Shared → Prop} (hh : A.handled = none) (R : RelH X W H s.heap) (it : ItAt X W s.heap I v xs.length) (hi : items H v = some xs)
    (h : ∀ h', Heap.ExtBut I s.heap h' → Q none { s with heap := h' }) : wpAny (model X.prog X.w) A (pyNext (.ref I)) Q E s := by
  have no : ∀ vs : Array Value, vs.size = xs.length → vs[xs.length]? = none := fun vs z => by rw [← z]; exact Array.getElem?_eq_none (Nat.le_refl _)
  cases it with
  | lst a r q it =>
    obtain ⟨a', vs, n, e, hg, rs, _, z⟩ := (see_ok R r (isL_see q hi)).toLst rfl
    cases e
    exact wpAny_pyNext_list_end hh it (items := vs) (isList_of hg) (no vs z) h
  | tup a ys e r it =>
    subst e
    obtain ⟨a', vs, n, e, hg, rs, _, z⟩ := (see_ok R r rfl).toTup rfl
    cases e
    cases (Option.some.inj hi : ys = xs)
    exact wpAny_pyNext_tuple_end hh it (items := vs) (isTup_of hg) (no vs z) h
  | rng a b c e hc it =>
    subst e
    have hk : xs.length = rngN a b c := by rw [← (Option.some.inj hi : rngL a c (rngN a b c) = xs), rngL_length]
    exact wpAny_pyNext_range_end hh it (by rw [hk]; omega) h

/-- an object of no one's: an iterator, a list in the making -/
structure Lone (X : Cx) (env : Env) (Pv : Pr) (W : Wd) (H : Hp) (h : Heap) (I : Addr) : Prop where
  own : ¬ Own W H I
  z : W.Z I = none
  pv : ¬ Pv.pv I
  cell : ∀ x c, env.cells.lookup x = some c → c ≠ I
  fr : ∀ e ∈ Pv.st, e.frame ≠ some I
  at_ : ∃ o, h.get? I = some o
theorem Lone.step {env : Env} {Pv : Pr} {Pv' : Addr → Prop} {W' : Wd} {H' : Hp} {h h' : Heap} {I : Addr} (L : Lone X env Pv W H h I) (S : Stp Pv' W H h W' H' h') : Lone X env Pv W' H' h' I := by
  obtain ⟨o, e⟩ := L.at_
  refine ⟨S.own I o e L.own, ?_, L.pv, L.cell, L.fr, S.there I o e⟩
  cases q : W'.Z I with
  | none => rfl
  | some ob =>
    rcases S.znew I ob q with r | r | r
    · rw [L.z] at r; cases r
    · exact absurd r L.own
    · rw [e] at r; cases r
theorem Lone.keep {env : Env} {Pv : Pr} {W' : Wd} {H' : Hp} {h h' : Heap} {I : Addr} (L : Lone X env Pv W H h I) (S : Stp Pv.pv W H h W' H' h') : ∀ o, h.get? I = some o → NoNames o → h'.get? I = some o := fun o e n =>
  (S.keep I o e L.own L.pv).elim fun o' q => q.2.eq n ▸ q.1
/-- a lone object is changed, others are made -/
theorem At.poke {env : Env} {Pv : Pr} {σ : St} {I : Addr} {h' : Heap} {tk : Nat} (a : At X env Pv W σ s) (L : Lone X env Pv W σ.H s.heap I) (hs : Heap.ExtBut I s.heap h') : At X env Pv W σ { s with heap := h', toks := tk } := by
  refine ⟨a.rel.quiet (Pv := fun b => b = I) (fun b o e n => hs b o n e) (fun b e => by subst e; exact ⟨L.own, L.z⟩), ?_⟩
  have F := a.fr
  have nl : env.locals ≠ I := fun e => L.pv (e ▸ F.pvL)
  refine ⟨?_, fun i v e k => ?_, fun x ef e => ?_, F.cellEq, fun x c e => ?_, F.pvL, F.priv, fun b p => ?_, fun e he => (F.frs e he).keep fun K o es n a b c d f => ⟨⟨o, es, n, hs K o (fun z => L.fr e he (z ▸ a)) b, c⟩, d, f⟩, F.frc⟩
  · obtain ⟨m, hn, hm⟩ := F.ns
    exact ⟨m, hn.extBut hs nl, hm⟩
  · obtain ⟨c, cv, q, ⟨o, ho, hd⟩, r⟩ := F.cells i v e k
    exact ⟨c, cv, q, ⟨o, hs c o (L.cell _ _ q) ho, hd⟩, r⟩
  · obtain ⟨c, cv, q, ⟨o, ho, hd⟩, r⟩ := F.hasCell x ef e
    exact ⟨c, cv, q, ⟨o, hs c o (L.cell _ _ q) ho, hd⟩, r⟩
  · obtain ⟨p, q, o, ho⟩ := F.cellNs x c e
    exact ⟨p, q, o, hs c o (L.cell _ _ e) ho⟩
  · obtain ⟨o, ho⟩ := F.pvAt b p
    exact ⟨o, hs b o (fun e => L.pv (e ▸ p)) ho⟩
/-- seen from before the object was made -/
theorem Stp.poke {Pv : Addr → Prop} {W' : Wd} {H' : Hp} {h h' h'' : Heap} {I : Addr} (S : Stp Pv W H h W' H' h') (hn : h.get? I = none) (hs : Heap.ExtBut I h' h'') : Stp Pv W H h W' H' h'' where
  le := S.le
  keep := fun x o e n p => (S.keep x o e n p).elim fun o' q => ⟨o', hs x o' (fun z => by subst z; rw [hn] at e; cases e) q.1, q.2⟩
  own := S.own
  znew := S.znew
  there := fun x o e => (S.there x o e).elim fun o' e' => ⟨o', hs x o' (fun z => by subst z; rw [hn] at e; cases e) e'⟩
theorem Tf.poke {env : Env} {Pv : Pr} {σ σ' : St} {W' : Wd} {s' : Shared} {I : Addr} {h'' : Heap} {tk : Nat} (T : Tf X env Pv W σ s W' σ' s') (hn : s.heap.get? I = none) (L : Lone X env Pv W' σ'.H s'.heap I) (hs : Heap.ExtBut I s'.heap h'') : Tf X env Pv W σ s W' σ' { s' with heap := h'', toks := tk } :=
  ⟨T.stp.poke hn hs, T.at_.poke L hs, ⟨T.rest.gens, T.rest.drawn, T.rest.os⟩⟩
/-- a new object of no one's -/
theorem Lone.new {env : Env} {Pv : Pr} {σ : St} {h' : Heap} (a : At X env Pv W σ s) {I : Addr} (hn : s.heap.get? I = none) (hI : ∃ o, h'.get? I = some o) : Lone X env Pv W σ.H h' I := by
  have no : ∀ {o : Obj} {G : Prop}, s.heap.get? I = some o → G := fun e => by rw [hn] at e; cases e
  refine ⟨fun o => (a.rel.own_there o).elim fun _ e => no e, ?_, fun p => (a.fr.pvAt I p).elim fun _ e => no e, fun x c e q => ?_, fun e he q => ?_, hI⟩
  · cases q : W.Z I with
    | none => rfl
    | some o => exact no (a.rel.z _ _ q)
  · subst q
    exact (a.fr.cellNs x c e).2.2.elim fun _ e => no e
  · obtain ⟨_, L, o, es, n, x1, x2, _⟩ := a.fr.frs e he
    rw [q] at x1; cases x1
    exact no x2
theorem Tf.push {env : Env} {Pv : Pr} {σ : St} {o : Obj} {tk : Nat} (a : At X env Pv W σ s) : Tf X env Pv W σ s W σ { s with heap := s.heap.push o, toks := tk } := by
  have hk : ∀ b ob, s.heap.get? b = some ob → (s.heap.push o).get? b = some ob := fun b ob e => Heap.get?_push_of_some _ e
  have S : Stp noPv W σ.H s.heap W σ.H (s.heap.push o) := .quiet (fun b ob e _ => hk b ob e) fun b ob e => ⟨ob, hk b ob e⟩
  exact ⟨S.mono fun _ z => z.elim, ⟨a.rel.quiet (Pv := noPv) (fun b ob e _ => hk b ob e) fun _ z => z.elim, a.fr.step S fun _ z => z.elim⟩, ⟨rfl, rfl, rfl⟩⟩
end
end Mine

end

section
set_option autoImplicit false
set_option linter.all false
set_option genSizeOf false
set_option genInjectivity false
namespace Mine
open PySem PySem.W PySem.Calls PyProof.Rows

inductive FR (X : Cx) (W : Wd) : PySem.Flow → Flow → Prop
  | next : FR X W .next .next
  | brk : FR X W .brk .brk
  | cont : FR X W .cont .cont
  | ret {v : Value} {x : V} : VR X W v x → FR X W (.ret v) (.ret x)
inductive FQ (X : Cx) (Q : Flow → St → Prop) (fl : PySem.Flow) (W' : Wd) (σ' : St) (s' : Shared) : Prop
  | mk (af : Flow) (r : FR X W' fl af) (h : Q af σ')

section
variable {X : Cx} {n : Nat} {sc : Sc}
theorem FQ.e {Q : Flow → St → Prop} {v : PySem.Flow} {W : Wd} {σ : St} {s : Shared} {G : Prop} (q : FQ X Q v W σ s) (g : ∀ x, FR X W v x → Q x σ → G) : G := by obtain ⟨x, r, h⟩ := q; exact g x r h

noncomputable def S1 (X : Cx) (n : Nat) (sc : Sc) (p : PS) (st : Stmt) : Prop := ∀ (A : Around) (env : Env) (Pv : Pr) (W : Wd) (σ : St) (s : Shared) (Q : Flow → St → Prop) (E : EP),
  EnvOk X A env Pv n sc → env.func ≠ none → At X env Pv W σ s → wpS X.P (CW X.P n) p σ Q E → Ew X A env Pv (exec st env) W σ s (FQ X Q) E
noncomputable def SS (X : Cx) (n : Nat) (sc : Sc) (p : PSs) (st : List Stmt) : Prop := ∀ (A : Around) (env : Env) (Pv : Pr) (W : Wd) (σ : St) (s : Shared) (Q : Flow → St → Prop) (E : EP),
  EnvOk X A env Pv n sc → env.func ≠ none → At X env Pv W σ s → wpSs X.P (CW X.P n) p σ Q E → Ew X A env Pv (execs st env) W σ s (FQ X Q) E

section
variable {A : Around} {env : Env} {Pv : Pr} {W : Wd} {σ : St} {s : Shared} {E : EP} {Ex : Value → Shared → Prop}
/-- an expression ahead of a statement's end -/
theorem SE.post {p : PE} {e : Expr} {Q : V → St → Prop} {R : Value → Shared → Prop} (he : SE X n sc p e) (ok : EnvOk X A env Pv n sc) (at_ : At X env Pv W σ s) (hw : wpE X.P (CW X.P n) E p σ Q)
    (g : ∀ v W₁ σ₁ s₁ x, Tf X env Pv W σ s W₁ σ₁ s₁ → VR X W₁ v x → Q x σ₁ → R v s₁) : wpAny (model X.prog X.w) A (eval e env) R (EX X env Pv W σ s E) s :=
  wpAny_mono (he A env Pv W σ s _ E ok at_ hw) (fun v s₁ q => q.e fun W₁ σ₁ T q => q.e fun x r h => g v W₁ σ₁ s₁ x T r h) fun _ _ x => x
theorem Tf.flow {W' : Wd} {σ' : St} {s' : Shared} {Q : Flow → St → Prop} {fl : PySem.Flow} {af : Flow} (T : Tf X env Pv W σ s W' σ' s') (r : FR X W' fl af) (h : Q af σ') : Go X env Pv W σ s (FQ X Q) fl s' := ⟨W', σ', T, af, r, h⟩

theorem fn_hp (ok : EnvOk X A env Pv n sc) : (env.scope.kind == .class || (env.scope.kind == .module && env.locals != env.globals)) = false := by rw [ok.kind]; rfl
theorem kind_of {x : Str} {k : Nat} (ok : EnvOk X A env Pv n sc) (h : Nat.beq (knd sc x) k = true) (hk : k ≠ 0) (h3 : nkOf k ≠ .free) : env.kindOf x = some (nkOf k) :=
  (ok.names _ _ (knd_of (Nat.eq_of_beq_eq_true h) hk)).elim id fun z => absurd z.1 h3
theorem local_of {x : Str} (ok : EnvOk X A env Pv n sc) (h : kLocal sc x = true) : env.kindOf x = some .local := kind_of ok h (by decide) (by decide)

/-- a private object was changed -/
theorem store_tf {a : Addr} {h' : Heap} {loc' : Loc} {tk : Nat} (at_ : At X env Pv W σ s) (hp : Pv.pv a) (hs : Heap.SameBut a s.heap h') (ha : ∃ o, h'.get? a = some o) (F : FrR X W σ.H h' env Pv loc') : Tf X env Pv W σ s W ⟨σ.H, loc'⟩ { s with heap := h', toks := tk } := by
  have hkp : ∀ b o, s.heap.get? b = some o → ¬ Pv.pv b → h'.get? b = some o := fun b o e p => (hs.2 b fun q => p (q ▸ hp)).trans e
  refine ⟨.quiet hkp fun b o e => ?_, ⟨at_.rel.quiet hkp at_.fr.priv, F⟩, ⟨rfl, rfl, rfl⟩⟩
  by_cases hb : b = a
  · subst hb; exact ha
  · exact ⟨o, (hs.2 b hb).trans e⟩
theorem store_local {Q : Unit → Shared → Prop} {i : Nat} {cv : Value} {v : V} (K : CxOk X) (ok : EnvOk X A env Pv n sc) (at_ : At X env Pv W σ s) (hk : env.kindOf (X.nm i) = some .local) (hv : VR X W cv v)
    (h : ∀ s', Tf X env Pv W σ s W (σ.put i v) s' → Q () s') : wpAny (model X.prog X.w) A (storeName env (X.nm i) cv) Q Ex s := by
  obtain ⟨m, hn, hm⟩ := at_.fr.ns
  exact wpAny_storeName_local hk hn (fun h' hn' hs => h _ (store_tf at_ at_.fr.pvL hs (hn'.elim fun o q => ⟨o, q.elim fun _ q => q.elim fun _ q => q.1⟩) (at_.fr.storeL hn hm (fun j q => K.inj _ _ q) hk hv hn' hs))) (fn_hp ok)
theorem store_ok {Q : Unit → Shared → Prop} {i : Nat} {cv : Value} {v : V} (K : CxOk X) (ok : EnvOk X A env Pv n sc) (hf : env.func ≠ none) (at_ : At X env Pv W σ s) (hk : kStore sc (X.nm i) = true) (hv : VR X W cv v)
    (h : ∀ s', Tf X env Pv W σ s W (σ.put i v) s' → Q () s') : wpAny (model X.prog X.w) A (storeName env (X.nm i) cv) Q Ex s := by
  rcases Bool.or_eq_true_iff.mp hk with q | q
  · exact store_local K ok at_ (local_of ok q) hv h
  · have q : env.kindOf (X.nm i) = some .cell := kind_of ok q (by decide) (by decide)
    obtain ⟨c, v₀, hc, hi, hp⟩ := at_.fr.hasCell _ hf q
    exact wpAny_storeName_cell ok.kind q hc hi fun h' hi' hs => h _ (store_tf at_ hp hs (hi'.elim fun o q => ⟨o, q.1⟩) (at_.fr.storeC (fun j q => K.inj _ _ q) q hc hv hi' hs))
end

theorem snd_pass {pos : Pos} : S1 X n sc .pass (.Pass pos) := fun A env Pv W σ s Q E ok hf at_ h => wpAny_Pass ((Tf.refl at_).flow .next h)
theorem fn_inter {A : Around} {env : Env} {Pv : Pr} (ok : EnvOk X A env Pv n sc) : interactive env = false := by unfold interactive; rw [ok.kind]; rfl
theorem snd_expr {e : PE} {x : Expr} {pos : Pos} (he : SE X n sc e x) (hx : tg x 14 = true) : S1 X n sc (.expr e) (.Expr x pos) := fun A env Pv W σ s Q E ok hf at_ h =>
  wpAny_Expr_any (he.post ok at_ h fun v W₁ σ₁ s₁ y T _ q => T.flow .next q) (fn_inter ok) (by rw [xu_is hx rfl]; rfl)
theorem swaps_no {x : Expr} {t : Option Expr} {l : Nat} {env : Env} (h : Nat.ble 1 (xu x).tag = true) (h' : Nat.ble (xu x).tag 14 = true) : swapsWith x t l env = pure false := by
  cases x <;> first | rfl | (cases h; done) | (cases h'; done)
theorem snd_assign_loc (K : CxOk X) {i : Nat} {e : PE} {x : Expr} {y : Str} {p pos : Pos} (he : SE X n sc e x) (hy : y = X.nm i) (hk : kStore sc y = true) (h1 : Nat.ble 1 (xu x).tag = true) (h2 : Nat.ble (xu x).tag 14 = true) : S1 X n sc (.assign (.loc i) e) (.Assign [.Name y p] x pos) := by
  intro A env Pv W σ s Q E ok hf at_ h
  subst hy
  exact wpAny_Assign_Name (he.post ok at_ h fun v W₁ σ₁ s₁ y T hv q => store_ok K ok hf T.at_ hk hv fun s'' T' => (T.trans T').flow .next q) (swaps_no h1 h2)
theorem snd_ret_none {pos : Pos} : S1 X n sc (.ret .none) (.Return none pos) := fun A env Pv W σ s Q E ok hf at_ h => wpAny_Return_none ((Tf.refl at_).flow (.ret .none) h)
theorem snd_ret {e : PE} {x : Expr} {pos : Pos} (he : SE X n sc e x) : S1 X n sc (.ret (.some e)) (.Return (some x) pos) := fun A env Pv W σ s Q E ok hf at_ h =>
  wpAny_Return_some (he.post ok at_ h fun v W₁ σ₁ s₁ y T hv q => T.flow (.ret hv) q)
theorem snd_if {t : PC} {a b : PSs} {x : Expr} {u v : List Stmt} {pos : Pos} (ht : ST X n sc t x) (ha : SS X n sc a u) (hb : SS X n sc b v) : S1 X n sc (.ite t a b) (.If x u v pos) := fun A env Pv W σ s Q E ok hf at_ h =>
  wpAny_If (wpAny_mono (ht A env Pv W σ s _ E ok at_ h) (fun c s' q => q.e fun W' σ' T q => by
    cases c with
    | true => exact Ew.from T (ha A env Pv W' σ' s' Q E ok hf T.at_ q)
    | false => exact Ew.from T (hb A env Pv W' σ' s' Q E ok hf T.at_ q)) fun _ _ y => y)
theorem snd_ss_nil : SS X n sc .nil [] := fun A env Pv W σ s Q E ok hf at_ h => wpAny_execs_nil ((Tf.refl at_).flow .next h)
theorem snd_ss_cons {p : PS} {ps : PSs} {st : Stmt} {sts : List Stmt} (h1 : S1 X n sc p st) (h2 : SS X n sc ps sts) : SS X n sc (.cons p ps) (st :: sts) := fun A env Pv W σ s Q E ok hf at_ h =>
  wpAny_execs_cons (wpAny_mono (h1 A env Pv W σ s _ E ok hf at_ h) (fun fl s' q => q.e fun W' σ' T q => q.e fun af r q => by
    cases r with
    | next => exact Ew.from T (h2 A env Pv W' σ' s' Q E ok hf T.at_ q)
    | brk => exact T.flow .brk q
    | cont => exact T.flow .cont q
    | ret hv => exact T.flow (.ret hv) q) fun _ _ y => y)

/-! binding -/
section
variable {A : Around} {env : Env} {Pv : Pr} {Ex : Value → Shared → Prop} {W : Wd} {Q : Unit → Shared → Prop}
theorem tgt_e {i : Nat} {is : List Nat} {elts : List Expr} {G : Prop} (h : tgts X.nm sc (i :: is) elts = true) (g : ∀ p, elts = .Name (X.nm i) p :: elts.tail → kLocal sc (X.nm i) = true → tgts X.nm sc is elts.tail = true → G) : G :=
  on_e h fun t ht h => and4_e h fun a b c d => g (xu t).p (by
    have e : t = .Name (X.nm i) (xu t).p := (xu_is a rfl).trans (of_decide_eq_true b ▸ rfl)
    exact (head_ok ht).trans (congrArg (· :: elts.tail) e)) (of_decide_eq_true b ▸ c) d
theorem bind_len (ts : List Nat) : ∀ (elts : List Expr) (xs : List V) (cvs : List Value) (σ : St) (Kk : St → Prop), tgts X.nm sc ts elts = true → VRs X W cvs xs → bindGo ts xs σ Kk → (assignEach elts env).length = cvs.length ∧ (assignEach elts env).findIdx? (·.1) = none := by
  induction ts with
  | nil =>
    intro elts xs cvs σ Kk hc hv hb
    cases empty_ok hc
    cases hv with
    | nil => exact ⟨rfl, rfl⟩
    | cons _ _ => exact hb.elim
  | cons i is ih =>
    intro elts xs cvs σ Kk hc hv hb
    refine tgt_e hc fun p e _ h3 => ?_
    rw [e]
    cases hv with
    | nil => exact hb.elim
    | cons a r =>
      have k := ih elts.tail _ _ (σ.put i _) Kk h3 r hb
      refine ⟨congrArg (· + 1) k.1, ?_⟩
      show List.findIdx? _ ((false, assign (.Name (X.nm i) p) env) :: assignEach elts.tail env) = none
      rw [List.findIdx?_cons, k.2]; rfl
theorem bind_each (K : CxOk X) (ok : EnvOk X A env Pv n sc) (ts : List Nat) : ∀ (elts : List Expr) (xs : List V) (cvs : List Value) (σ : St) (s : Shared) (Kk : St → Prop), tgts X.nm sc ts elts = true → At X env Pv W σ s → VRs X W cvs xs → bindGo ts xs σ Kk →
    (∀ s' σ', Tf X env Pv W σ s W σ' s' → Kk σ' → Q () s') → wpAny (model X.prog X.w) A (assignInOrder ((assignEach elts env).map (·.2)) cvs) Q Ex s := by
  induction ts with
  | nil =>
    intro elts xs cvs σ s Kk hc at_ hv hb h
    cases empty_ok hc
    cases hv with
    | nil => exact assignInOrder_nil (h s σ (.refl at_) hb)
    | cons _ _ => exact hb.elim
  | cons i is ih =>
    intro elts xs cvs σ s Kk hc at_ hv hb h
    refine tgt_e hc fun p e h2 h3 => ?_
    rw [e]
    cases hv with
    | nil => exact hb.elim
    | cons a r => exact assignInOrder_cons (wpAny_assign_Name (store_local K ok at_ (local_of ok h2) a fun s₁ T₁ => ih elts.tail _ _ _ s₁ Kk h3 T₁.at_ r hb fun s' σ' T' q => h s' σ' (T₁.trans T') q))
/-- more objects, of no account -/
theorem Tf.more {σ : St} {s : Shared} {h' : Heap} {tk : Nat} (at_ : At X env Pv W σ s) (kp : ∀ b o, s.heap.get? b = some o → h'.get? b = some o) : Tf X env Pv W σ s W σ { s with heap := h', toks := tk } := by
  have S : Stp noPv W σ.H s.heap W σ.H h' := .quiet (fun b ob e _ => kp b ob e) fun b ob e => ⟨ob, kp b ob e⟩
  exact ⟨S.mono fun _ z => z.elim, ⟨at_.rel.quiet (Pv := noPv) (fun b ob e _ => kp b ob e) fun _ z => z.elim, at_.fr.step S fun _ z => z.elim⟩, ⟨rfl, rfl, rfl⟩⟩
theorem bindT_many {ts : List Nat} {v : V} {σ : St} {Kk : St → Prop} (h : Nat.ble 2 ts.length = true) (hb : bindT ts v σ Kk) : need (aTup v) fun xs => bindGo ts xs σ Kk := by
  match ts, h, hb with
  | _ :: _ :: _, _, hb => exact hb
/-- several names, out of a tuple -/
theorem bind_tup (K : CxOk X) {ts : List Nat} {elts : List Expr} {k : Nat} {p : Pos} {v : V} {cv : Value} {σ : St} {s : Shared} {Kk : St → Prop} (ok : EnvOk X A env Pv n sc) (hh : A.handled = none) (at_ : At X env Pv W σ s) (hv : VR X W cv v) (hc : tgts X.nm sc ts elts = true) (hb : need (aTup v) fun xs => bindGo ts xs σ Kk)
    (h : ∀ s' σ', Tf X env Pv W σ s W σ' s' → Kk σ' → Q () s') : wpAny (model X.prog X.w) A (assign (.Tuple elts k p) env cv) Q Ex s := by
  refine need_e hb fun xs ex hgo => ?_
  have ev : v = .tup xs := by cases v <;> first | (cases ex; rfl) | cases ex
  subst ev
  obtain ⟨a, vs, m, rfl, hg, hvs, _, hz⟩ := (see_ok at_.rel hv rfl).toTup rfl
  have len := bind_len (env := env) ts elts xs vs.toList σ Kk hc hvs hgo
  refine assign_Tuple_tuple hh (isTup_of hg) (by rw [len.1, Array.length_toList]) len.2 fun h' he => ?_
  have T : Tf X env Pv W σ s W σ { s with heap := h' } := Tf.more (tk := s.toks) at_ fun b o q => he b o (fun z => by rw [z, push_none] at q; cases q) q
  exact bind_each K ok ts elts xs vs.toList σ _ Kk hc T.at_ hvs hgo fun s' σ' T' q => h s' σ' (T.trans T') q
theorem bind_ok (K : CxOk X) {ts : List Nat} {t : Expr} {v : V} {cv : Value} {σ : St} {s : Shared} {Kk : St → Prop} (ok : EnvOk X A env Pv n sc) (hh : A.handled = none) (at_ : At X env Pv W σ s) (hv : VR X W cv v) (hc : chkTgt X.nm sc ts t = true) (hb : bindT ts v σ Kk)
    (h : ∀ s' σ', Tf X env Pv W σ s W σ' s' → Kk σ' → Q () s') : wpAny (model X.prog X.w) A (assign t env cv) Q Ex s := by
  rcases Bool.or_eq_true_iff.mp hc with hc | hc
  · refine and_e hc fun ht hc => on_e hc fun j hj hc => and_e hc fun h1 h2 => ?_
    cases one_ok hj
    have e : t = .Name (X.nm j) (xu t).p := (xu_is ht rfl).trans (of_decide_eq_true h1 ▸ rfl)
    rw [e]
    exact wpAny_assign_Name (store_local K ok at_ (local_of ok (of_decide_eq_true h1 ▸ h2)) hv fun s' T => h s' _ T hb)
  · refine and3_e hc fun ht h1 h2 => ?_
    rw [show t = .Tuple (xu t).l (xu t).k (xu t).p from xu_is ht rfl]
    exact bind_tup K ok hh at_ hv h2 (bindT_many h1 hb) h
end

/-- an iterator that owns no tuple -/
theorem go_ok {A : Around} {E : Value → Shared → Prop} {s : Shared} {I : Addr} {o : Obj} {nm : String} {t : Expr} {cv : Value} {Q : Unit → Shared → Prop} (ho : s.heap.get? I = some o) (hc : o.cls = .type nm)
    (hn : (["enumerate", "zip", "dict_itemiterator", "dict_reverseitemiterator", "odict_iterator", "itertools.zip_longest", "itertools.pairwise"].contains nm) = false) (h : Q () s) : wpAny (model X.prog X.w) A (letOwnedTupleGo t (.ref I) cv) Q E s := by
  have key : ∀ a, wpAny (model X.prog X.w) A (do
      let o ← load I
      match o.cls, o.data with
      | .type n, .fields vs =>
        if ["enumerate", "zip", "dict_itemiterator", "dict_reverseitemiterator", "odict_iterator", "itertools.zip_longest", "itertools.pairwise"].contains n && vs[0]? == some (rawInt a) then
          rule "for.unpacks-the-owned-tuple"
          updateField I 0 .none
      | _, _ => pure ()) Q E s := fun a => by
    refine wpAny_bind (wpAny_load ho ?_)
    rw [hc]
    cases o.data with
    | fields vs =>
      simp only [hn, Bool.false_and, Bool.false_eq_true, if_false]
      exact wpAny_pure h
    | _ => exact wpAny_pure h
  unfold letOwnedTupleGo
  cases t <;> first | exact wpAny_pure h | skip
  all_goals (cases cv <;> first | exact wpAny_pure h | exact key _)
theorem it_go {A : Around} {E : Value → Shared → Prop} {W : Wd} {s : Shared} {I : Addr} {v : V} {k : Nat} {t : Expr} {cv : Value} {Q : Unit → Shared → Prop} (it : ItAt X W s.heap I v k) (h : Q () s) : wpAny (model X.prog X.w) A (letOwnedTupleGo t (.ref I) cv) Q E s := by
  cases it with
  | lst a r q it => obtain ⟨o, ho, hc, hd⟩ := it; exact go_ok ho hc (by decide) h
  | tup a xs e r it => obtain ⟨o, ho, hc, hd⟩ := it; exact go_ok ho hc (by decide) h
  | rng a b c e hc it => exact go_ok it rfl (by decide) h
theorem folded_no {x : Expr} {env : Env} (hx : Nat.ble (xu x).tag 15 = true) : ∀ z, foldedSetIterable x env z = pure z := fun z => by
  cases x <;> first | rfl | cases hx
end
end Mine

end

section
set_option autoImplicit false
set_option linter.all false
set_option genSizeOf false
set_option genInjectivity false
namespace Mine
open PySem PySem.W PySem.Calls PyProof.Rows

theorem drop_cons {α : Type} {l : List α} {k : Nat} {x : α} {r : List α} (h : l.drop k = x :: r) : l[k]? = some x ∧ l.drop (k + 1) = r := by
  constructor
  · have := congrArg List.head? h
    rw [List.head?_drop] at this; exact this
  · have := congrArg List.tail h
    rw [List.tail_drop] at this; exact this
/-- where a run over a list stands: at place k; ys are left -/
structure Stand (xs : List V) (k : Nat) (ys : List V) (m : Nat) : Prop where
  d : xs.drop k = ys
  l : k + ys.length = xs.length
  m : m = ys.length
theorem Stand.nil {xs : List V} {k m : Nat} (h : Stand xs k [] m) : k = xs.length := h.l
theorem Stand.cons {xs : List V} {k : Nat} {u : V} {us : List V} {m : Nat} (h : Stand xs k (u :: us) m) : xs[k]? = some u ∧ us.length < m ∧ Stand xs (k + 1) us us.length :=
  ⟨(drop_cons h.d).1, h.m ▸ Nat.lt_succ_self _, (drop_cons h.d).2, (Nat.succ_add_eq_add_succ k us.length).trans h.l, rfl⟩

section
variable {X : Cx} {n : Nat} {sc : Sc}
/-- a run's state -/
inductive LpI (X : Cx) (env : Env) (Pv : Pr) (W : Wd) (σ : St) (s : Shared) (I : Addr) (v : V) (xs : List V) (go : List V → St → Prop) (m : Nat) (s' : Shared) : Prop
  | mk (k : Nat) (W' : Wd) (σ' : St) (ys : List V) (t : Tf X env Pv W σ s W' σ' s') (it : ItAt X W' s'.heap I v k) (L : Lone X env Pv W' σ'.H s'.heap I) (st : Stand xs k ys m) (q : go ys σ')
/-- what binds the names of a loop -/
noncomputable def Bnd (X : Cx) (n : Nat) (sc : Sc) (ts : List Nat) (t : Expr) : Prop := ∀ (A : Around) (env : Env) (Pv : Pr) (W : Wd) (σ : St) (s : Shared) (cv : Value) (v : V) (Kk : St → Prop) (Q : Unit → Shared → Prop) (Ex : Value → Shared → Prop),
  EnvOk X A env Pv n sc → env.func ≠ none → A.handled = none → At X env Pv W σ s → VR X W cv v → bindT ts v σ Kk → (∀ s' σ', Tf X env Pv W σ s W σ' s' → Kk σ' → Q () s') → wpAny (model X.prog X.w) A (assign t env cv) Q Ex s
theorem bnd_name (K : CxOk X) {i : Nat} {y : Str} {p : Pos} (hy : y = X.nm i) (hk : kStore sc y = true) : Bnd X n sc [i] (.Name y p) := fun A env Pv W σ s cv v Kk Q Ex ok hf hh at_ hv hb h => by
  subst hy
  exact wpAny_assign_Name (store_ok K ok hf at_ hk hv fun s' T => h s' _ T hb)
theorem not_there {h h' : Heap} {I : Addr} (hn : h'.get? I = none) (k : ∀ a o, h.get? a = some o → ∃ o', h'.get? a = some o') : h.get? I = none := by
  cases hq : h.get? I with
  | none => rfl
  | some o => exact (k _ _ hq).elim fun o' e => by rw [hn] at e; cases e

theorem snd_loop (K : CxOk X) {ts : List Nat} {it : PE} {body : PSs} {t : Expr} {pos : Pos} {x : Expr} {b : List Stmt} (hi : SE X n sc it x) (hb : SS X n sc body b) (ht : Bnd X n sc ts t) (hx : Nat.ble (xu x).tag 15 = true) (hhd : sc.hd = true) : S1 X n sc (.loop ts it body) (.For t x b [] pos) := fun A env Pv W σ s Q E ok hf at_ h =>
  wpAny_For (hi.post ok at_ h fun cv W₁ σ₁ s₁ v T₁ hv q => need_e q fun xs hxs q => iter_ok T₁.at_.rel hv hxs fun o hfo hit => by
    have nI : s₁.heap.get? s₁.heap.objs.size = none := push_none _
    have T₂ : Tf X env Pv W σ s W₁ σ₁ { s₁ with heap := s₁.heap.push o } := T₁.trans (Tf.push (tk := s₁.toks) T₁.at_)
    have L₂ : Lone X env Pv W₁ σ₁.H (s₁.heap.push o) s₁.heap.objs.size := Lone.new T₁.at_ nI ⟨o, Heap.get?_push_size _ hfo⟩
    have nI₀ := not_there nI T₁.stp.there
    generalize s₁.heap.objs.size = I at nI₀ L₂ hit ⊢
    refine codeAny_forLoop_any (LpI X env Pv W σ s I v xs fun ys σ' => loopGo (fun v σ₂ k => bindT ts v σ₂ fun σ₃ => wpSs X.P (CW X.P n) body σ₃ k noE) (still v xs) ys σ' Q) (fun m s' hI => ?_) xs.length ⟨0, W₁, σ₁, xs, T₂, hit, L₂, ⟨rfl, Nat.zero_add _, rfl⟩, q⟩
    obtain ⟨k, W', σ', ys, T, hit', L, st, q⟩ := hI
    cases ys with
    | nil =>
      cases st.nil
      exact next_end (ok.hh hhd) T.at_.rel hit' q.1 fun h' hs => wpAny_execs_nil ((T.poke (tk := s'.toks) nI₀ L hs).flow .next q.2)
    | cons u us =>
      obtain ⟨hu, lt, st'⟩ := st.cons
      refine next_item T.at_.rel hit' q.1 hu fun cu h' tk hcu hit'' hs => it_go hit'' ?_
      have T' := T.poke (tk := tk) nI₀ L hs
      have L' : Lone X env Pv W' σ'.H h' I := ⟨L.own, L.z, L.pv, L.cell, L.fr, hit''.there⟩
      refine ht A env Pv W' σ' _ cu u _ _ _ ok hf (ok.hh hhd) T'.at_ hcu q.2 fun s₃ σ₃ T₃ q => ?_
      have L₃ := L'.step T₃.stp
      have it₃ := hit''.keep T₃.stp.le (L'.keep T₃.stp)
      refine wpAny_mono (hb A env Pv W' _ s₃ _ noE ok hf T₃.at_ q) (fun fl s₄ q => q.e fun W₄ σ₄ T₄ q => q.e fun af hfr q₄ => ?_) fun _ _ z => z.no.elim
      have T'' := (T'.trans T₃).trans T₄
      have again := fun g => (⟨us.length, lt, k + 1, W₄, σ₄, us, T'', it₃.keep T₄.stp.le (L₃.keep T₄.stp), L₃.step T₄.stp, st', g⟩ : ∃ m', m' < m ∧ LpI X env Pv W σ s I v xs (fun ys σ' => loopGo (fun v σ₂ k => bindT ts v σ₂ fun σ₃ => wpSs X.P (CW X.P n) body σ₃ k noE) (still v xs) ys σ' Q) m' s₄)
      cases hfr with
      | next => exact again q₄
      | cont => exact again q₄
      | brk => exact T''.flow .next q₄
      | ret hr => exact T''.flow (.ret hr) q₄) (folded_no hx)

end
end Mine

end

section
set_option autoImplicit false
set_option linter.all false
set_option genSizeOf false
set_option genInjectivity false
namespace Mine
open PySem PySem.W PySem.Calls PyProof.Rows

section
variable {X : Cx} {n : Nat} {sc : Sc}

/-- a name's kind, in a comprehension -/
noncomputable def rl (env : Env) (x : Str) (k : NameKind) : NameKind := if (k == NameKind.free && env.scope.kind == .function && env.kindOf x == some .cell) then NameKind.cell else k
theorem rl_local {env : Env} {x : Str} {k : NameKind} (h : rl env x k = .local) : k = .local := by
  cases k with
  | «local» => rfl
  | free =>
    unfold rl at h
    split at h
    · cases h
    · exact h
  | _ => cases h
theorem rl_free {env : Env} {x : Str} {k : NameKind} (nk : k ≠ .cell) (h : rl env x k = .cell ∨ rl env x k = .free) : k = .free := by
  cases k with
  | free => rfl
  | cell => exact absurd rfl nk
  | _ => rcases h with h | h <;> cases h
theorem rl_is {env : Env} {x : Str} (k : NameKind) : rl env x k = k ∨ (k = .free ∧ rl env x k = .cell) := by
  cases k with
  | free =>
    unfold rl
    split
    · exact .inr ⟨rfl, rfl⟩
    · exact .inl rfl
  | _ => exact .inl rfl
theorem lookup_relabel {env : Env} (x : Str) (names : List (Str × NameKind)) : (names.map fun (n, k) => if (k == NameKind.free && env.scope.kind == .function && env.kindOf n == some .cell) then (n, NameKind.cell) else (n, k)).lookup x = (names.lookup x).map (rl env x) := by
  induction names with
  | nil => rfl
  | cons p r ih =>
    obtain ⟨y, k⟩ := p
    have e : (if (k == NameKind.free && env.scope.kind == .function && env.kindOf y == some .cell) = true then (y, NameKind.cell) else (y, k)) = (y, rl env y k) := by unfold rl; split <;> rfl
    rw [List.map_cons]
    show List.lookup x ((if (k == NameKind.free && env.scope.kind == .function && env.kindOf y == some .cell) = true then (y, NameKind.cell) else (y, k)) :: _) = _
    rw [e, List.lookup_cons, List.lookup_cons, ih]
    cases hx : x == y with
    | true => rw [eq_of_beq hx]; rfl
    | false => rfl
theorem lookup_mem {α β : Type} [BEq α] [LawfulBEq α] {l : List (α × β)} {x : α} {k : β} (h : l.lookup x = some k) : (x, k) ∈ l := by
  induction l with
  | nil => cases h
  | cons p r ih =>
    obtain ⟨y, j⟩ := p
    rw [List.lookup_cons] at h
    cases hb : x == y with
    | true => rw [hb] at h; cases h; rw [eq_of_beq hb]; exact .head _
    | false => rw [hb] at h; exact .tail _ (ih h)
theorem uniq_lookup {l : List (Str × NameKind)} (hu : uniq l = true) {x : Str} {k : NameKind} (h : (x, k) ∈ l) : l.lookup x = some k := by
  induction l with
  | nil => cases h
  | cons p r ih =>
    obtain ⟨y, j⟩ := p
    refine and_e hu fun h1 h2 => ?_
    rw [List.lookup_cons]
    rcases List.mem_cons.mp h with q | q
    · cases q; rw [beq_self_eq_true]
    · rw [show (x == y) = false from Bool.not_eq_true' _ ▸ List.all_eq_true.mp h1 _ q]; exact ih h2 q

/-- what is known of a comprehension's names -/
structure ScOk (X : Cx) (sc : Sc) (sc' : Scope) (ts : List Nat) : Prop where
  kind : sc'.kind = .function
  uniq : uniq sc'.names = true
  cell : ∀ x, (x, NameKind.cell) ∉ sc'.names
  free : ∀ x, (x, NameKind.free) ∈ sc'.names → (Nat.beq (knd sc x) 2 || Nat.beq (knd sc x) 3) = true
  loc : ∀ i, (X.nm i, NameKind.local) ∈ sc'.names → X.nm i = (".0" : Str) ∨ ∃ j ∈ ts, X.nm i = X.nm j
theorem sc_ok {sc' : Scope} {ts : List Nat} (h : chkSc X.nm sc sc' ts = true) : ScOk X sc sc' ts := and3_e h fun h1 h2 h3 => by
  have a := List.all_eq_true.mp h3
  refine ⟨?_, h2, fun x hx => (nomatch a _ hx), fun x hx => a _ hx, fun i hx => ?_⟩
  · cases e : sc'.kind <;> rw [e] at h1 <;> first | rfl | cases h1
  · rcases Bool.or_eq_true_iff.mp (a _ hx) with q | q
    · exact .inl (eq_of_beq q)
    · obtain ⟨j, hj, q⟩ := List.any_eq_true.mp q
      exact .inr ⟨j, hj, of_decide_eq_true q⟩
section
variable {A : Around} {env : Env} {Pv : Pr} {sc' : Scope} {ts : List Nat}
theorem out_of {x : Str} (ok : EnvOk X A env Pv n sc) (h : (Nat.beq (knd sc x) 2 || Nat.beq (knd sc x) 3) = true) : env.kindOf x = some .cell ∨ env.kindOf x = some .free := by
  rcases Bool.or_eq_true_iff.mp h with q | q
  · exact .inl (kind_of ok q (by decide) (by decide))
  · exact (ok.names _ _ (knd_of (Nat.eq_of_beq_eq_true q) (by decide))).elim .inr fun z => .inl z.2

/-- the closure of a comprehension -/
inductive ClO (env : Env) (names : List (Str × NameKind)) (cs : List (Str × Addr)) (f : Str × NameKind → List (Str × Addr) → Sem (ForInStep (List (Str × Addr)))) : Prop
  | mk (cl : List (Str × Addr)) (h1 : forIn names cs f = (pure cl : Sem (List (Str × Addr)))) (h2 : ∀ x c, cl.lookup x = some c → env.cells.lookup x = some c) (h3 : ∀ x, (x, NameKind.free) ∈ names → ∃ c, cl.lookup x = some c) (h4 : ∀ x c, cs.lookup x = some c → ∃ c', cl.lookup x = some c')
theorem lookup_eq {α : Type} {x y : Str} {c : α} {r : List (Str × α)} (h : (x == y) = true) : ((y, c) :: r).lookup x = some c := by rw [List.lookup_cons, h]
theorem lookup_ne {α : Type} {x y : Str} {c : α} {r : List (Str × α)} (h : (x == y) = false) : ((y, c) :: r).lookup x = r.lookup x := by rw [List.lookup_cons, h]
theorem closure_go {env : Env} {f : Str × NameKind → List (Str × Addr) → Sem (ForInStep (List (Str × Addr)))} (hf : ∀ x k r, f (x, k) r = if (k == NameKind.free) = true then (do let c ← cellOf env x; pure (.yield ((x, c) :: r))) else pure (.yield r))
    (names : List (Str × NameKind)) : ∀ cs : List (Str × Addr), (∀ x, (x, NameKind.free) ∈ names → ∃ c, env.cells.lookup x = some c) → (∀ x c, cs.lookup x = some c → env.cells.lookup x = some c) → ClO env names cs f := by
  induction names with
  | nil => exact fun cs _ hc => ⟨cs, rfl, hc, fun _ h => (nomatch h), fun _ c e => ⟨c, e⟩⟩
  | cons p r ih =>
    intro cs hn hc
    obtain ⟨y, k⟩ := p
    have hn' : ∀ x, (x, NameKind.free) ∈ r → ∃ c, env.cells.lookup x = some c := fun x h => hn x (.tail _ h)
    by_cases hk : (k == NameKind.free) = true
    · have e : k = .free := by cases k <;> first | rfl | cases hk
      subst e
      obtain ⟨c, ec⟩ := hn y (.head _)
      obtain ⟨cl, h1, h2, h3, h4⟩ := ih ((y, c) :: cs) hn' fun x d q => by
        cases hb : x == y with
        | true => rw [lookup_eq hb] at q; cases q; rw [eq_of_beq hb]; exact ec
        | false => rw [lookup_ne hb] at q; exact hc x d q
      refine ⟨cl, ?_, h2, fun x hx => ?_, fun x d q => ?_⟩
      · rw [List.forIn_cons, hf, if_pos hk, show cellOf env y = pure c by unfold cellOf; rw [ec], ← h1]; rfl
      · rcases List.mem_cons.mp hx with q | q
        · cases q; exact h4 y c (lookup_eq (beq_self_eq_true y))
        · exact h3 x q
      · cases hb : x == y with
        | true => exact h4 x c (lookup_eq hb)
        | false => exact h4 x d ((lookup_ne hb).trans q)
    · obtain ⟨cl, h1, h2, h3, h4⟩ := ih cs hn' hc
      refine ⟨cl, ?_, h2, fun x hx => ?_, h4⟩
      · rw [List.forIn_cons, hf, if_neg hk, ← h1]; rfl
      · rcases List.mem_cons.mp hx with q | q
        · cases q; exact absurd rfl hk
        · exact h3 x q
/-- what a comprehension's frame is made of -/
structure CompFacts (X : Cx) (sc : Sc) (sc' : Scope) (env : Env) (ts : List Nat) (cl : List (Str × Addr)) : Prop extends ScOk X sc sc' ts where
  clos : closureFor sc' env = pure cl
  h2 : ∀ x c, cl.lookup x = some c → env.cells.lookup x = some c
  h3 : ∀ x, (x, NameKind.free) ∈ sc'.names → ∃ c, cl.lookup x = some c
theorem comp_facts (ok : EnvOk X A env Pv n sc) (hsc : chkSc X.nm sc sc' ts = true) : ∃ cl, CompFacts X sc sc' env ts cl := by
  have S := sc_ok hsc
  obtain ⟨cl, h1, h2, h3, _⟩ := closure_go (env := env) (f := fun (x : Str × NameKind) r => if (x.2 == NameKind.free) = true then (do let c ← cellOf env x.1; pure (.yield ((x.1, c) :: r))) else pure (.yield r)) (fun _ _ _ => rfl) sc'.names [] (fun x hx => ok.cl x (out_of ok (S.free x hx))) (fun x c q => by cases q)
  refine ⟨cl, S, ?_, h2, h3⟩
  show (forIn sc'.names [] (fun (x : Str × NameKind) r => if (x.2 == NameKind.free) = true then (do let c ← cellOf env x.1; pure (.yield ((x.1, c) :: r))) else pure (.yield r)) >>= fun r => pure r) = pure cl
  rw [h1]; rfl

/-- the place of a comprehension's own names -/
noncomputable def only (C : Addr) (st : List Env) : Pr := ⟨fun a => a = C, st⟩
theorem kind_in {cl : List (Str × Addr)} {C : Addr} (x : Str) : (compEnvC sc' cl C env).kindOf x = (sc'.names.lookup x).map (rl env x) := lookup_relabel x sc'.names
/-- a name from around -/
theorem CompFacts.out {cl : List (Str × Addr)} {C : Addr} {x : Str} (F : CompFacts X sc sc' env ts cl) (e : (compEnvC sc' cl C env).kindOf x = some .cell ∨ (compEnvC sc' cl C env).kindOf x = some .free) : (x, NameKind.free) ∈ sc'.names := by
  rw [kind_in] at e
  cases hq : sc'.names.lookup x with
  | none => rw [hq] at e; rcases e with e | e <;> cases e
  | some k =>
    rw [hq] at e
    have m := lookup_mem hq
    cases rl_free (fun z => F.cell x (z ▸ m)) (e.imp Option.some.inj Option.some.inj)
    exact m
theorem comp_env {cl : List (Str × Addr)} {C : Addr} (ok : EnvOk X A env Pv n sc) (F : CompFacts X sc sc' env ts cl) (hhd : sc.hd = true) : EnvOk X A (compEnvC sc' cl C env) (only C Pv.st) n ⟨sc', true⟩ := by
  refine ⟨ok.stk, fun z => absurd rfl z, ok.ok, fun _ => ok.hh hhd, F.kind, ok.glob, ok.bi, fun x k e => ?_, fun x e => F.h3 x (F.out e)⟩
  rw [kind_in, show sc'.names.lookup x = some k from e]
  exact (rl_is k).imp (congrArg some) fun z => ⟨z.1, congrArg some z.2⟩

/-- the comprehension's frame at its start -/
theorem comp_at (K : CxOk X) {W : Wd} {σ : St} {s : Shared} {cl : List (Str × Addr)} {C : Addr} {h' : Heap} {tk : Nat} (ok : EnvOk X A env Pv n sc) (at_ : At X env Pv W σ s) (F' : CompFacts X sc sc' env ts cl)
    (hn : s.heap.get? C = none) (hk : ∀ b o, s.heap.get? b = some o → h'.get? b = some o) (hC : ∃ m, h'.Ns C m) : At X (compEnvC sc' cl C env) (only C Pv.st) W ⟨σ.H, unbs ts σ.loc⟩ { s with heap := h', toks := tk } := by
  have F := at_.fr
  have L : Lone X env Pv W σ.H h' C := Lone.new at_ hn (let ⟨_, o, _, _, ho, _⟩ := hC; ⟨o, ho⟩)
  have ub : ∀ i v, unbs ts σ.loc i = some v → i ∉ ts ∧ σ.loc i = some v := fun i v e => by
    have e' : (if ts.contains i then none else σ.loc i) = some v := e
    by_cases hi : i ∈ ts
    · rw [if_pos (List.contains_iff_mem.mpr hi)] at e'; cases e'
    · rw [if_neg (fun z => hi (List.contains_iff_mem.mp z))] at e'; exact ⟨hi, e'⟩
  refine ⟨at_.rel.quiet (Pv := noPv) (fun b o e _ => hk b o e) fun _ z => z.elim, ?_, fun i v e k => ?_, fun x ef _ => absurd rfl ef, fun x y c e e' => F.cellEq x y c (F'.h2 _ _ e) (F'.h2 _ _ e'), fun x c e => ?_, rfl, fun a e => ?_, fun a e => ?_, fun e he => (F.frs e he).keep fun K o es n a b c d f => ⟨⟨o, es, n, hk _ _ b, c⟩, d, f⟩, fun x c q => F.frc x c (F'.h2 _ _ q)⟩
  · obtain ⟨m, hm⟩ := hC
    refine ⟨m, hm, fun i v e k => ?_⟩
    rw [kind_in] at k
    cases hq : sc'.names.lookup (X.nm i) with
    | none => rw [hq] at k; cases k
    | some kk =>
      rw [hq] at k
      cases rl_local (Option.some.inj k)
      rcases F'.loc i (lookup_mem hq) with q | ⟨j, hj, q⟩
      · exact absurd q (K.dot i)
      · exact absurd (K.inj _ _ q ▸ hj) (ub i v e).1
  · have hm := F'.out k
    obtain ⟨c, cv, hc, ⟨o, ho, hd⟩, hv⟩ := F.cells i v (ub i v e).2 (out_of ok (F'.free _ hm))
    obtain ⟨c', hc'⟩ := F'.h3 _ hm
    cases Option.some.inj ((F'.h2 _ _ hc').symm.trans hc)
    exact ⟨c, cv, hc', ⟨o, hk _ _ ho, hd⟩, hv⟩
  · obtain ⟨p, q, o, ho⟩ := F.cellNs x c (F'.h2 _ _ e)
    exact ⟨fun z => (by rw [show c = C from z, hn] at ho; cases ho), q, o, hk _ _ ho⟩
  · rw [show a = C from e]; exact ⟨L.own, L.z⟩
  · rw [show a = C from e]; exact L.at_
end

/-- a lone list is taken up -/
inductive AdL (X : Cx) (fz : Bool) (W : Wd) (H : Hp) (s : Shared) (W' : Wd) (H' : Hp) (s' : Shared) (D : Addr) (xs : List V) : Prop
  | mk (W'' : Wd) (H'' : Hp) (t : Tc X W H s W'' H'' s') (r : Res X fz H' (.newList xs) (.ref D) W'' H'') (o : ∀ b, b ≠ D → ¬ Own W' H' b → W'.Z b = none → ¬ Own W'' H'' b ∧ W''.Z b = none)
theorem adopt_list {W W' : Wd} {H H' : Hp} {s s' : Shared} {D : Addr} {vs : Array Value} {k : Nat} {xs : List V} {fz : Bool} (T : Tc X W H s W' H' s') (hn : s.heap.get? D = none) (ho : ¬ Own W' H' D) (hz : W'.Z D = none)
    (hg : s'.heap.get? D = some (lstO vs k)) (hv : VRs X W' vs.toList xs) (hl : xs.length ≤ SZ) : AdL X fz W H s W' H' s' D xs := by
  have hD : (hideAll s'.heap [D]).get? D = none := hideAll_none _ (.head _)
  have of : ∀ b o, (hideAll s'.heap [D]).get? b = some o → s'.heap.get? b = some o := fun b o e => of_hideAll _ e
  have to : ∀ b o, b ≠ D → s'.heap.get? b = some o → (hideAll s'.heap [D]).get? b = some o := fun b o n e => hideAll_get _ e (by simpa using n)
  have R : RelH X W' H' (hideAll s'.heap [D]) := T.rel.quiet (Pv := fun a => a = D) (fun a o e n => to a o n e) fun a e => by subst e; exact ⟨ho, hz⟩
  have S : Stp noPv W H s.heap W' H' (hideAll s'.heap [D]) := T.stp.poke hn fun b o n e => to b o n e
  cases fz with
  | true =>
    obtain ⟨r, t⟩ := R.frozen of hD hg
    exact ⟨_, _, ⟨S.trans t, r, T.rest⟩, ⟨.lst addZ_self (hv.le t.le) hl, rfl⟩, fun b nb ob zb => ⟨fun z => ob (Own.addZ.mp z), (if_neg nb).trans zb⟩⟩
  | false =>
    obtain ⟨r, t⟩ := R.fresh (l := (D, D)) (c := .list xs) of hD hD ⟨vs, k, hg, hv.le R.leF, rfl, hl⟩
    exact ⟨_, _, ⟨S.trans t, r, T.rest⟩, ⟨VR.ref (l := (D, D)) addφ_self, rfl⟩, fun b nb ob zb => ⟨fun q => (R.own_new q).elim ob fun q => q.elim nb nb, zb⟩⟩
end
end Mine

end

section
set_option autoImplicit false
set_option linter.all false
set_option genSizeOf false
set_option genInjectivity false
namespace Mine
open PySem PySem.W PySem.Calls PyProof.Rows

section
variable {X : Cx} {n : Nat} {sc : Sc}

theorem iter_self {A : Around} {E : Value → Shared → Prop} {W : Wd} {s : Shared} {I : Addr} {v : V} {k : Nat} {Q : Value → Shared → Prop} (it : ItAt X W s.heap I v k) (h : Q (.ref I) s) : wpAny (model X.prog X.w) A (pyIter (.ref I)) Q E s := by
  cases it with
  | lst a r q it => exact wpAny_pyIter_listiter it h
  | tup a xs e r it => exact wpAny_pyIter_tupleiter it h
  | rng a b c e hc it => exact wpAny_pyIter_rangeiter it h
/-- the ifs of a comprehension -/
abbrev ifsT (ifs : List Expr) (env : Env) : Sem Bool := forIn ifs true fun c r => if r = true then do let ok ← isTrue c env (eval c env); pure (ForInStep.yield ok) else pure (ForInStep.yield r)
noncomputable def SCo (X : Cx) (n : Nat) (sc : Sc) (p : PCo) (ifs : List Expr) : Prop := ∀ (A : Around) (env : Env) (Pv : Pr) (W : Wd) (σ : St) (s : Shared) (Q : Bool → St → Prop) (E : EP),
  EnvOk X A env Pv n sc → At X env Pv W σ s → wpC X.P (CW X.P n) E p σ Q → Ew X A env Pv (ifsT ifs env) W σ s (BQ Q) E
theorem snd_c_nil : SCo X n sc .none [] := fun A env Pv W σ s Q E ok at_ h => wpAny_pure (at_.bl (tk := s.toks) h)
theorem snd_c_one {t : PC} {x : Expr} (ht : ST X n sc t x) : SCo X n sc (.some t) [x] := fun A env Pv W σ s Q E ok at_ h => by
  unfold ifsT
  rw [List.forIn_cons, if_pos rfl]
  exact wpAny_bind (wpAny_bind (wpAny_mono (ht A env Pv W σ s _ E ok at_ h) (fun b s' q => wpAny_pure (wpAny_pure q)) fun _ _ y => y))

/-- the turns of a comprehension, the target any -/
theorem comp_turns {A : Around} {s : Shared} {R : Result → Shared → Prop} {elt target iter : Expr} {ifs : List Expr} {scope : Scope} {pos : Pos} {it acc : Value} {env : Env} (J : Nat → Shared → Prop)
    (turn : ∀ k s, J k s → wpAny (model X.prog X.w) A (pyNext it) (fun r s₁ => match r with
      | none => R (.ok .next) s₁
      | some v => wpAny (model X.prog X.w) A (letOwnedTupleGo target it v) (fun _ s₁ => wpAny (model X.prog X.w) A (assign target env v) (fun _ s₂ =>
          wpAny (model X.prog X.w) A (ifsT ifs env) (fun ok s₃ =>
            if ok = true then wpAny (model X.prog X.w) A (eval elt env) (fun x s₄ =>
              wpAny (model X.prog X.w) A (call (.builtin "list.append") [acc, x]) (fun _ s₅ => ∃ m, m < k ∧ J m s₅) (fun _ _ => False) s₄) (fun _ _ => False) s₃
            else ∃ m, m < k ∧ J m s₃) (fun _ _ => False) s₂) (fun _ _ => False) s₁) (fun _ _ => False) s₁) (fun _ _ => False) s)
    (k : Nat) (h : J k s) : codeAny (model X.prog X.w) A (.compLoop (.ListComp elt [⟨target, iter, ifs, 0⟩] scope pos) 0 it acc env) R s := by
  refine codeAny_loop rfl J (fun k s hJ => ?_) k h
  show wpAny _ A ((compTurn (.ListComp elt [⟨target, iter, ifs, 0⟩] scope pos) 0 it acc env).onRaise _) _ _ s
  refine wpAny_noted (wpAny_mono (E := fun _ _ => False) ?_ (fun _ _ z => z) fun _ _ z => z.elim)
  rw [compTurn_list]
  refine wpAny_bind (wpAny_standAt (wpAny_bind (wpAny_mono (turn k s hJ) (fun r s₁ h₁ => ?_) fun _ _ z => z)))
  cases r with
  | none => exact wpAny_pure h₁
  | some v =>
    refine wpAny_bind (wpAny_mono h₁ (fun _ s₁' h₁' => wpAny_bind (wpAny_mono h₁' (fun _ s₂ h₂ => wpAny_bind (wpAny_mono h₂ (fun ok s₃ h₃ => ?_) fun _ _ z => z)) fun _ _ z => z)) fun _ _ z => z)
    cases ok with
    | false => exact wpAny_pure ⟨rfl, h₃⟩
    | true => exact wpAny_bind (wpAny_bind (wpAny_mono h₃ (fun x s₄ h₄ => wpAny_bind (wpAny_mono h₄ (fun _ s₅ h₅ => wpAny_pure (wpAny_pure ⟨rfl, h₅⟩)) fun _ _ z => z)) fun _ _ z => z))

/-- the iterator and the list in the making -/
structure Dp (X : Cx) (env : Env) (Pv : Pr) (W : Wd) (H : Hp) (h : Heap) (I D : Addr) (v : V) (k : Nat) (cvs : Array Value) (nn : Nat) (acc : List V) : Prop where
  it : ItAt X W h I v k
  LI : Lone X env Pv W H h I
  LD : Lone X env Pv W H h D
  g : h.get? D = some (lstO cvs nn)
  acc : VRs X W cvs.toList acc
theorem lst_nn {cs : Array Value} {k : Nat} : NoNames (lstO cs k) := fun es n q => by cases q
theorem Dp.step {env : Env} {Pv : Pr} {W W' : Wd} {H H' : Hp} {h h' : Heap} {I D : Addr} {v : V} {k : Nat} {cvs : Array Value} {nn : Nat} {acc : List V} (P : Dp X env Pv W H h I D v k cvs nn acc) (S : Stp Pv.pv W H h W' H' h') : Dp X env Pv W' H' h' I D v k cvs nn acc :=
  ⟨P.it.keep S.le (P.LI.keep S), P.LI.step S, P.LD.step S, P.LD.keep S _ P.g lst_nn, P.acc.le S.le⟩
theorem Lone.at' {env : Env} {Pv : Pr} {W : Wd} {H : Hp} {h h' : Heap} {I : Addr} (L : Lone X env Pv W H h I) (h : ∃ o, h'.get? I = some o) : Lone X env Pv W H h' I := ⟨L.own, L.z, L.pv, L.cell, L.fr, h⟩
/-- seen from outside, and from inside -/
structure Inn (X : Cx) (W : Wd) (H : Hp) (s : Shared) (env : Env) (C : Addr) (st : List Env) (W' : Wd) (σ' : St) (s' : Shared) : Prop where
  tc : Tc X W H s W' σ'.H s'
  at_ : At X env (only C st) W' σ' s'
section
variable {W W' W'' : Wd} {H : Hp} {σ' σ'' : St} {s s' s'' : Shared} {env : Env} {C : Addr} {st : List Env}
theorem Inn.step (P : Inn X W H s env C st W' σ' s') (T' : Tf X env (only C st) W' σ' s' W'' σ'' s'') (hn : s.heap.get? C = none) : Inn X W H s env C st W'' σ'' s'' :=
  ⟨⟨P.tc.stp.transFresh T'.stp fun x e => .inl (by rw [show x = C from e]; exact hn), T'.at_.rel, P.tc.rest.trans T'.rest⟩, T'.at_⟩
theorem Tc.poke {H' : Hp} {I : Addr} {h'' : Heap} {tk : Nat} (T : Tc X W H s W' H' s') (hn : s.heap.get? I = none) (ho : ¬ Own W' H' I) (hz : W'.Z I = none) (hs : Heap.ExtBut I s'.heap h'') : Tc X W H s W' H' { s' with heap := h'', toks := tk } :=
  ⟨T.stp.poke hn hs, T.rel.quiet (Pv := fun b => b = I) (fun b o e m => hs b o m e) (fun b e => by subst e; exact ⟨ho, hz⟩), ⟨T.rest.gens, T.rest.drawn, T.rest.os⟩⟩
theorem Inn.poke {I : Addr} {h'' : Heap} {tk : Nat} (P : Inn X W H s env C st W' σ' s') (hn : s.heap.get? I = none) (L : Lone X env (only C st) W' σ'.H s'.heap I) (hs : Heap.ExtBut I s'.heap h'') : Inn X W H s env C st W' σ' { s' with heap := h'', toks := tk } :=
  ⟨P.tc.poke hn L.own L.z hs, P.at_.poke L hs⟩
end
/-- the state of the turns -/
inductive CpI (X : Cx) (W : Wd) (H : Hp) (s : Shared) (env : Env) (C : Addr) (st : List Env) (I D : Addr) (v : V) (xs : List V) (go : List V → List V → St → Prop) (m : Nat) (s' : Shared) : Prop
  | mk (k : Nat) (W' : Wd) (σ' : St) (ys acc : List V) (cvs : Array Value) (nn : Nat) (T : Inn X W H s env C st W' σ' s') (P : Dp X env (only C st) W' σ'.H s'.heap I D v k cvs nn acc) (sd : Stand xs k ys m) (q : go ys acc σ')
/-- at the end -/
inductive CpE (X : Cx) (W : Wd) (H : Hp) (s : Shared) (D C : Addr) (W' : Wd) (H' : Hp) (s' : Shared) (ys : List V) : Prop
  | mk (cvs : Array Value) (k : Nat) (m : Str → Option Value) (t : Tc X W H s W' H' s') (sD : s.heap.get? D = none) (sC : s.heap.get? C = none) (ne : D ≠ C) (oD : ¬ Own W' H' D) (zD : W'.Z D = none) (oC : ¬ Own W' H' C) (zC : W'.Z C = none) (g : s'.heap.get? D = some (lstO cvs k)) (hv : VRs X W' cvs.toList ys) (hz : ys.length ≤ SZ) (ns : s'.heap.Ns C m)

section
variable {A : Around} {env : Env} {Pv : Pr} {W : Wd} {σ : St} {s : Shared} {v : V} {xs : List V} {ts : List Nat} {elt : PE} {cond : PCo} {e x : Expr} {ifs : List Expr} {y : Expr} {pos : Pos} {sc' : Scope} {cl : List (Str × Addr)} {Qc : List V → St → Prop}
/-- what a comprehension computes -/
abbrev cgo (X : Cx) (n : Nat) (elt : PE) (ts : List Nat) (cond : PCo) (v : V) (xs : List V) (Qc : List V → St → Prop) (ys acc : List V) (σ : St) : Prop := compGo (fun σ₂ k => wpC X.P (CW X.P n) noE cond σ₂ k) (fun σ₂ k => wpE X.P (CW X.P n) noE elt σ₂ k) ts (still v xs) ys acc σ Qc
theorem comp_loop (K : CxOk X) {cenv : Env} {C I D : Addr} {st : List Env} {R : Result → Shared → Prop} {s₀ : Shared} {m : Nat} (okc : EnvOk X A cenv (only C st) n ⟨sc', true⟩) (he : SE X n ⟨sc', true⟩ elt e) (hc : SCo X n ⟨sc', true⟩ cond ifs) (hct : chkTgt X.nm ⟨sc', true⟩ ts y = true)
    (sI : s.heap.get? I = none) (sD : s.heap.get? D = none) (sC : s.heap.get? C = none) (nDI : D ≠ I) (nDC : D ≠ C) (lC : cenv.locals = C) (h : CpI X W σ.H s cenv C st I D v xs (cgo X n elt ts cond v xs Qc) m s₀)
    (hR : ∀ W' H' loc' s' ys, CpE X W σ.H s D C W' H' s' ys → Qc ys ⟨H', loc'⟩ → R (.ok .next) s') :
    codeAny (model X.prog X.w) A (.compLoop (.ListComp e [⟨y, x, ifs, 0⟩] sc' pos) 0 (.ref I) (.ref D) cenv) R s₀ := by
  have hh := okc.hh rfl
  refine comp_turns _ (fun m s' hI => ?_) m h
  obtain ⟨k, W', σ', ys, acc, cvs, nn, T, P, sd, q⟩ := hI
  cases ys with
  | nil =>
    cases sd.nil
    refine next_end hh T.at_.rel P.it q.1 fun h' hs => ?_
    have a := T.poke (tk := s'.toks) sI P.LI hs
    have pvC := T.at_.fr.priv C rfl
    obtain ⟨m', hm', _⟩ := a.at_.fr.ns
    exact hR W' σ'.H σ'.loc _ acc ⟨cvs, nn, m', a.tc, sD, sC, nDC, P.LD.own, P.LD.z, pvC.1, pvC.2, hs D _ nDI P.g, P.acc, q.2.1, lC ▸ hm'⟩ q.2.2
  | cons u us =>
    obtain ⟨hu, lt, sd'⟩ := sd.cons
    have hsz := q.2.1
    refine next_item T.at_.rel P.it q.1 hu fun cu h' tk hcu hit hs => it_go hit ?_
    have T₁ := T.poke (tk := tk) sI P.LI hs
    have P₁ : Dp X cenv (only C st) W' σ'.H h' I D v (k + 1) cvs nn acc := ⟨hit, P.LI.at' hit.there, P.LD.at' ⟨_, hs D _ nDI P.g⟩, hs D _ nDI P.g, P.acc⟩
    refine bind_ok K okc hh T₁.at_ hcu hct q.2.2 fun s₃ σ₃ T₃ q => ?_
    have P₃ := P₁.step T₃.stp
    have C₃ := T₁.step T₃ sC
    refine wpAny_mono (hc A cenv (only C st) W' _ s₃ _ noE okc T₃.at_ q) (fun b s₄ q => q.e fun W₄ σ₄ T₄ q₄ => ?_) fun _ _ z => z.no.elim
    have P₄ := P₃.step T₄.stp
    have C₄ := C₃.step T₄ sC
    cases b with
    | false => exact ⟨us.length, lt, k + 1, W₄, σ₄, us, acc, cvs, nn, C₄, P₄, sd', q₄⟩
    | true =>
      refine wpAny_mono (he A cenv (only C st) W₄ σ₄ s₄ _ noE okc T₄.at_ q₄) (fun r s₅ q => q.e fun W₅ σ₅ T₅ q => q.e fun ar hr q₅ => ?_) fun _ _ z => z.no.elim
      have P₅ := P₄.step T₅.stp
      refine append_at P₅.g (fun h₆ hs₆ hg₆ => ?_) (by rw [P₅.acc.toArr]; exact szLine (Nat.le_of_lt hsz))
      have it₆ := P₅.it.keep (.refl _) fun o z _ => hs₆.extBut I o (Ne.symm nDI) z
      exact ⟨us.length, lt, k + 1, W₅, σ₅, us, acc ++ [ar], cvs.push r, nn + 1, (C₄.step T₅ sC).poke (tk := s₅.toks) sD P₅.LD hs₆.extBut, ⟨it₆, P₅.LI.at' it₆.there, P₅.LD.at' ⟨_, hg₆⟩, hg₆, by rw [Array.toList_push]; exact P₅.acc.append (.cons hr .nil)⟩, sd', q₅⟩

theorem comp_block (K : CxOk X) {Ex : Value → Shared → Prop} {cv : Value} {RR : Value → Addr → Result → Shared → Prop}
    (ok : EnvOk X A env Pv n sc) (at_ : At X env Pv W σ s) (he : SE X n ⟨sc', true⟩ elt e) (hc : SCo X n ⟨sc', true⟩ cond ifs) (hct : chkTgt X.nm ⟨sc', true⟩ ts y = true) (F : CompFacts X sc sc' env ts cl) (hhd : sc.hd = true)
    (hv : VR X W cv v) (hxs : items σ.H v = some xs) (hgo : cgo X n elt ts cond v xs Qc xs [] ⟨σ.H, unbs ts σ.loc⟩)
    (hRR : ∀ D C W' H' loc' s' ys, CpE X W σ.H s D C W' H' s' ys → Qc ys ⟨H', loc'⟩ → RR (.ref D) C (.ok .next) s') :
    wpAny (model X.prog X.w) A (pyIter cv) (fun it s₂ => wpAny (model X.prog X.w) A (newList []) (fun acc s₃ => wpAny (model X.prog X.w) A (newFunctionEnv sc' env.globals cl [] env.qual none .none (some env)) (fun cenv s₄ =>
      codeAny (model X.prog X.w) A (.compStart (.ListComp e [⟨y, x, ifs, 0⟩] sc' pos) 0 it acc { cenv with scope := relabel sc' env }) (RR acc cenv.locals) s₄) Ex s₃) Ex s₂) Ex s := by
  refine iter_ok at_.rel hv hxs fun oI hfo hit => wpAny_newObj_type (wpAny_newFunctionEnv (fun z hz q => F.cell z.1 (q ▸ hz)) (fun z hz => nomatch hz) (fun h₁ hns hsb => ?_) F.kind)
  dsimp only at hns hsb ⊢
  have eD : (s.heap.push oI).objs.size = s.heap.objs.size + 1 := Heap.size_push ..
  have eC : ((s.heap.push oI).push { cls := .type "list", dict := none, data := .seq ([] : List Value).toArray }).objs.size = s.heap.objs.size + 1 + 1 := (Heap.size_push ..).trans (congrArg (· + 1) eD)
  have k1 : ∀ b o, ((s.heap.push oI).push { cls := .type "list", dict := none, data := .seq ([] : List Value).toArray }).get? b = some o → h₁.get? b = some o := fun b o q => hsb.extBut b o (Nat.ne_of_lt (Heap.lt_size q)) (Heap.get?_push_of_some _ q)
  have gD : h₁.get? (s.heap.push oI).objs.size = some (lstO #[] 0) := k1 _ _ (Heap.get?_push_size _ rfl)
  generalize ((s.heap.push oI).push { cls := .type "list", dict := none, data := .seq ([] : List Value).toArray }).objs.size = C at hns hsb eC ⊢
  generalize (s.heap.push oI).objs.size = D at gD hns hsb eD ⊢
  have sI := push_none s.heap
  have k0 : ∀ b o, s.heap.get? b = some o → h₁.get? b = some o := fun b o q => k1 b o (Heap.get?_push_of_some _ (Heap.get?_push_of_some _ q))
  have gI : ItAt X W h₁ s.heap.objs.size v 0 := hit.keep (.refl _) fun o q _ => k1 _ _ (Heap.get?_push_of_some _ q)
  have sD : s.heap.get? D = none := Heap.get?_none_of_le (by rw [eD]; exact Nat.le_succ _)
  have sC : s.heap.get? C = none := Heap.get?_none_of_le (by rw [eC]; exact Nat.le_succ_of_le (Nat.le_succ _))
  have nDC : D ≠ C := by rw [eC, eD]; exact Nat.ne_of_lt (Nat.lt_succ_self _)
  have nIC : s.heap.objs.size ≠ C := by rw [eC]; exact Nat.ne_of_lt (Nat.lt_succ_of_lt (Nat.lt_succ_self _))
  have nDI : D ≠ s.heap.objs.size := by rw [eD]; exact Nat.ne_of_gt (Nat.lt_succ_self _)
  have lone : ∀ b, s.heap.get? b = none → b ≠ C → (∃ o, h₁.get? b = some o) → Lone X (compEnvC sc' cl C env) (only C Pv.st) W σ.H h₁ b := fun b hb ne hat =>
    have L := Lone.new (h' := h₁) at_ hb hat
    ⟨L.own, L.z, fun q => ne q, fun z c q => L.cell z c (F.h2 _ _ q), L.fr, hat⟩
  have loop : codeAny (model X.prog X.w) A (.compLoop (.ListComp e [⟨y, x, ifs, 0⟩] sc' pos) 0 (.ref s.heap.objs.size) (.ref D) (compEnvC sc' cl C env)) (RR (.ref D) C) { s with heap := h₁, toks := s.toks + ([] : List (Str × Value)).length } :=
    comp_loop K (comp_env ok F hhd) he hc hct sI sD sC nDI nDC rfl ⟨0, W, ⟨σ.H, unbs ts σ.loc⟩, xs, [], #[], 0, ⟨⟨.quiet (fun b o q _ => k0 b o q) fun b o q => ⟨o, k0 b o q⟩, at_.rel.quiet (Pv := noPv) (fun b o q _ => k0 b o q) fun _ z => z.elim, ⟨rfl, rfl, rfl⟩⟩, comp_at K ok at_ F sC k0 ⟨_, hns⟩⟩, ⟨gI, lone _ sI nIC gI.there, lone D sD nDC ⟨_, gD⟩, gD, .nil⟩, ⟨rfl, Nat.zero_add _, rfl⟩, hgo⟩ (hRR D C)
  exact codeAny_compStart_list loop (iter_self gI loop)
end

theorem res_give {fz : Bool} {σ : St} {Q : V → St → Prop} {r : LV} {v : Value} {W' : Wd} {H' : Hp} (g : give fz σ Q r) (h : Res X fz σ.H r v W' H') {s' : Shared} : VQ X Q v W' ⟨H', σ.loc⟩ s' := by
  cases r with
  | val x => obtain ⟨a, rfl⟩ := h; exact ⟨x, a, g⟩
  | newList xs => cases fz <;> (obtain ⟨a, rfl⟩ := h; exact ⟨_, a, g.2⟩)
section
variable {fz : Bool} {elt it : PE} {ts : List Nat} {cond : PCo} {e x : Expr} {ifs : List Expr} {y : Expr} {pos : Pos} {sc' : Scope} (hi : SE X n sc it x) (he : SE X n ⟨sc', true⟩ elt e) (hc : SCo X n ⟨sc', true⟩ cond ifs) (hct : chkTgt X.nm ⟨sc', true⟩ ts y = true) (hsc : chkSc X.nm sc sc' ts = true) (hhd : sc.hd = true) (hx : Nat.ble (xu x).tag 15 = true)
include hi he hc hct hsc hhd hx
theorem snd_comp (K : CxOk X) : SE X n sc (.comp fz elt ts it cond) (.ListComp e [⟨y, x, ifs, 0⟩] sc' pos) := by
  intro A env Pv W σ s Q E ok at_ h
  obtain ⟨cl, F⟩ := comp_facts ok hsc
  rw [eval_ListComp]
  refine wpAny_comprehension_free (use := none) rfl (folded_no hx) F.clos F.kind (fun x hx hl => by obtain ⟨x, k⟩ := x; subst hl; exact uniq_lookup F.uniq hx) (hi.post ok at_ h fun cv W₁ σ₁ s₁ v T₁ hv q => need_e q fun xs hxs q => comp_block K ok T₁.at_ he hc hct F hhd hv hxs q fun D C W' H' loc' s' ys z hg => ?_)
  obtain ⟨cvs, k, m, T, sD, sC, ne, oD, zD, oC, zC, gD, hys, hsz, hm⟩ := z
  refine ⟨m, hm, fun h' hs => ?_⟩
  obtain ⟨W'', H'', T'', res, _⟩ := adopt_list (fz := fz) (T.poke (tk := s'.toks) sC oC zC hs.extBut) sD oD zD (hs.extBut D _ ne gD) hys hsz
  exact ⟨_, _, T₁.trans (T''.tf T₁.at_), res_give (σ := ⟨H', σ₁.loc⟩) hg res⟩
end
end
end Mine

end

section
set_option autoImplicit false
set_option linter.all false
set_option genSizeOf false
set_option genInjectivity false
namespace Mine
open PySem PySem.W PySem.Calls PyProof.Rows

section
variable {X : Cx} {n : Nat} {sc : Sc}
section
variable {fz : Bool} {elt it : PE} {ts : List Nat} {cond : PCo} {e x : Expr} {ifs : List Expr} {y : Expr} {pos : Pos} {sc' : Scope} (hi : SE X n sc it x) (he : SE X n ⟨sc', true⟩ elt e) (hc : SCo X n ⟨sc', true⟩ cond ifs) (hct : chkTgt X.nm ⟨sc', true⟩ ts y = true) (hsc : chkSc X.nm sc sc' ts = true) (hhd : sc.hd = true) (hx : Nat.ble (xu x).tag 15 = true)
include hi he hc hct hsc hhd hx
/-- the list is stored ahead of the frame's end -/
theorem comp_store (K : CxOk X) {i : Nat} {pz pf : Pos} {A : Around} {env : Env} {Pv : Pr} {W : Wd} {σ : St} {s : Shared} {Q : Flow → St → Prop} {E : EP} (hk : kStore sc (X.nm i) = true) (ok : EnvOk X A env Pv n sc) (hf : env.func ≠ none) (at_ : At X env Pv W σ s)
    (h : wpE X.P (CW X.P n) E (.comp fz elt ts it cond) σ fun v σ₁ => Q .next (σ₁.put i v)) :
    wpAny (model X.prog X.w) A (comprehension (.ListComp e [⟨y, x, ifs, 0⟩] sc' pos) sc' env pf (newList []) false (eval x env) (some (assign (.Name (X.nm i) pz) env))) (fun _ s' => Go X env Pv W σ s (FQ X Q) PySem.Flow.next s') (EX X env Pv W σ s E) s := by
  obtain ⟨cl, F⟩ := comp_facts ok hsc
  refine wpAny_comprehension_free (use := some (assign (.Name (X.nm i) pz) env)) rfl (folded_no hx) F.clos F.kind (fun x hx hl => by obtain ⟨x, k⟩ := x; subst hl; exact uniq_lookup F.uniq hx) (hi.post ok at_ h fun cv W₁ σ₁ s₁ v T₁ hv q => need_e q fun xs hxs q => comp_block K ok T₁.at_ he hc hct F hhd hv hxs q fun D C W' H' loc' s' ys z hg => ?_)
  obtain ⟨cvs, k, m, T, sD, sC, ne, oD, zD, oC, zC, gD, hys, hsz, hm⟩ := z
  obtain ⟨W'', H'', T'', res, oth⟩ := adopt_list (fz := fz) T sD oD zD gD hys hsz
  have T₂ : Tf X env Pv W₁ σ₁ s₁ W'' ⟨H'', σ₁.loc⟩ s' := T''.tf T₁.at_
  have L := Lone.new (h' := s'.heap) T₁.at_ sC (let ⟨o, _, _, ho, _⟩ := hm; ⟨o, ho⟩)
  have o := oth C (Ne.symm ne) oC zC
  have LC : Lone X env Pv W'' H'' s'.heap C := ⟨o.1, o.2, L.pv, L.cell, L.fr, L.at_⟩
  exact (res_give (s' := s) (σ := ⟨H', σ₁.loc⟩) hg res).e fun av hav hq => wpAny_assign_Name (store_ok K ok hf T₂.at_ hk hav fun s₃ T₃ =>
    ⟨m, ns_same hm fun o ho => T₃.stp.keep C o ho LC.own LC.pv, fun h'' hs => (((T₁.trans T₂).trans T₃).poke (tk := s₃.toks) (not_there sC T₁.stp.there) (LC.step T₃.stp) hs.extBut).flow .next hq⟩)
theorem snd_assign_comp (K : CxOk X) {i : Nat} {z : Str} {pz pos' : Pos} (hz : z = X.nm i) (hk : kStore sc z = true) : S1 X n sc (.assign (.loc i) (.comp fz elt ts it cond)) (.Assign [.Name z pz] (.ListComp e [⟨y, x, ifs, 0⟩] sc' pos) pos') := by
  intro A env Pv W σ s Q E ok hf at_ h
  subst hz
  have sw : swapsWith (.ListComp e [⟨y, x, ifs, 0⟩] sc' pos) (some (.Name (X.nm i) pz)) pos'.line env = pure (env.blockKind == .function && env.kindOf (X.nm i) == some .local && pz.line == pos.line && !(sc'.names.any fun (n, k) => n == X.nm i && (k == .local || k == .cell))) := rfl
  generalize (env.blockKind == .function && env.kindOf (X.nm i) == some .local && pz.line == pos.line && !(sc'.names.any fun (n, k) => n == X.nm i && (k == .local || k == .cell))) = b at sw
  cases b with
  | false => exact wpAny_Assign_Name ((snd_comp hi he hc hct hsc hhd hx K).post ok at_ h fun v W₁ σ₁ s₁ y T hv q => store_ok K ok hf T.at_ hk hv fun s'' T' => (T.trans T').flow .next q) sw
  | true =>
    unfold Ew
    rw [exec_Assign_Name_used _ _ _ _ sw]
    exact wpAny_bind (wpAny_standAt (wpAny_bind (wpAny_bind (wpAny_mono (comp_store hi he hc hct hsc hhd hx K hk ok hf at_ h) (fun _ s' q => wpAny_pure (wpAny_pure q)) fun _ _ z => z))))
end
end
end Mine

end

section
set_option autoImplicit false
set_option linter.all false
set_option genSizeOf false
set_option genInjectivity false
namespace Mine
open PySem PySem.W PySem.Calls PyProof.Rows
section
variable {X : Cx} {n : Nat} {sc : Sc}
end
end Mine

end

section
set_option autoImplicit false
set_option linter.all false
set_option genSizeOf false
set_option genInjectivity false
namespace Mine
open PySem PySem.W PySem.Calls PyProof.Rows

section
variable {X : Cx} {n : Nat}

/-- the cases of classes and instances, to be given -/
structure Objs (X : Cx) (n : Nat) : Prop where
  call : ∀ (sc : Sc) (fz : Bool) (f : PE) (as : PEs) (x : Str) (p : Pos) (vs : List Expr) (pos : Pos), SE X n sc f (.Name x p) → (sc.hd || qGlob X.ck f) = true → SEs X n sc as vs → chkEs X.ck sc as vs = true → SE X n sc (.call fz f as) (.Call (.Name x p) vs [] pos)
  meth : ∀ (sc : Sc) (fz : Bool) (o : PE) (m : Nat) (as : PEs) (v : Expr) (ap pos : Pos) (vs : List Expr), SE X n sc o v → SEs X n sc as vs → chkEs X.ck sc as vs = true → notSuper v = true → vs.length ≤ 20 → (ap.endLine == pos.line) = true → (sc.hd || Nat.beq m X.P.nAppend) = true → SE X n sc (.meth fz o m as) (.Call (.Attribute v (X.nm m) ap) vs [] pos)
  attr : ∀ (sc : Sc) (e : PE) (m : Nat) (v : Expr) (pos : Pos), SE X n sc e v → notSuper v = true → SE X n sc (.attr e m) (.Attribute v (X.nm m) pos)
  asgA : ∀ (sc : Sc) (o e : PE) (m : Nat) (v x : Expr) (p pos : Pos), SE X n sc e x → SE X n sc o v → S1 X n sc (.assign (.attr o m) e) (.Assign [.Attribute v (X.nm m) p] x pos)
  augL : ∀ (sc : Sc) (i : Nat) (op : BOp) (e : PE) (x : Expr) (p pos : Pos), SE X n sc e x → kStore sc (X.nm i) = true → kLoc sc (X.nm i) = true → nDbg (X.nm i) = true → S1 X n sc (.augLoc i op e) (.AugAssign (.Name (X.nm i) p) (opOf op) x pos)
  augA : ∀ (sc : Sc) (o e : PE) (m : Nat) (op : BOp) (v x : Expr) (p pos : Pos), SE X n sc e x → SE X n sc o v → S1 X n sc (.augAttr o m op e) (.AugAssign (.Attribute v (X.nm m) p) (opOf op) x pos)
  raise : ∀ (sc : Sc) (i : Nat) (e : PE) (y : Str) (x : Expr) (np cpos pos : Pos), chkG X.ck sc i y = true → SE X n sc e x → chkE X.ck sc e x = true → sc.hd = true → S1 X n sc (.raise i e) (.Raise (some (.Call (.Name y np) [x] [] cpos)) none pos)
  try_ : ∀ (sc : Sc) (body : PSs) (i : Nat) (as : Option Nat) (h : PSs) (b : List Stmt) (b₀ : Stmt) (hb : List Stmt) (y : Str) (np : Pos) (nm : Option Str) (hpos pos : Pos), chkG X.ck sc i y = true → SS X n sc body b → SS X n ⟨sc.sc, false⟩ h (b₀ :: hb) → asOk X.ck sc as nm = true → sc.hd = true → S1 X n sc (.try_ body i as h) (.Try b [.ExceptHandler (some (.Name y np)) nm (b₀ :: hb) hpos] [] [] pos)

/-- what is shown of an expression: as a value, as a test, as what is stored -/
structure PO (X : Cx) (n : Nat) (sc : Sc) (p : PE) (e : Expr) : Prop where
  se : SE X n sc p e
  st : plainTest e = true → ST X n sc (.e p) e
  as : ∀ (i : Nat) (y : Str) (q pos : Pos), y = X.nm i → kStore sc y = true → S1 X n sc (.assign (.loc i) p) (.Assign [.Name y q] e pos)
theorem xu_to {P : Expr → Prop} {e : Expr} {k : Nat} (t : tg e k = true) (hk : Nat.blt k 16 = true) (h : P (back (xu e) k)) : P e := @Eq.subst Expr P _ _ (xu_is t hk).symm h
theorem tag_eq {e : Expr} {k : Nat} (t : tg e k = true) : (xu e).tag = k := Nat.eq_of_beq_eq_true t
theorem e_of (K : CxOk X) {sc : Sc} {p : PE} {e : Expr} {k : Nat} (t : tg e k = true) (hk : (Nat.blt k 16 && Nat.ble 1 k && Nat.ble k 14 && !Nat.beq k 6) = true) (h : SE X n sc p (back (xu e) k)) : PO X n sc p e := and4_e hk fun h1 h2 h3 h4 =>
  have s : SE X n sc p e := xu_to (P := SE X n sc p) t h1 h
  ⟨s, fun q => snd_T s q (by unfold tg; rw [tag_eq t]; exact Bool.not_eq_true' _ ▸ h4), fun i y q pos hy hk => snd_assign_loc K s hy hk (by rw [tag_eq t]; exact h2) (by rw [tag_eq t]; exact h3)⟩
theorem e_cmp (K : CxOk X) {sc : Sc} {p : PE} {e : Expr} (t : tg e 6 = true) (h : SE X n sc p (back (xu e) 6)) (h' : ST X n sc (.e p) (back (xu e) 6)) : PO X n sc p e :=
  have s : SE X n sc p e := xu_to (P := SE X n sc p) t rfl h
  ⟨s, fun _ => xu_to (P := ST X n sc (.e p)) t rfl h', fun i y q pos hy hk => snd_assign_loc K s hy hk (by rw [tag_eq t]; rfl) (by rw [tag_eq t]; rfl)⟩

noncomputable def gE (X : Cx) (n : Nat) (p : PE) : Prop := ∀ (sc : Sc) (e : Expr), chkE X.ck sc p e = true → PO X n sc p e
structure PL (X : Cx) (n : Nat) (sc : Sc) (p : PEs) (es : List Expr) : Prop where
  ls : SEs X n sc p es
  bo : SBool X n sc p es
noncomputable def gEs (X : Cx) (n : Nat) (p : PEs) : Prop := ∀ (sc : Sc) (es : List Expr), chkEs X.ck sc p es = true → PL X n sc p es
noncomputable def gO (X : Cx) (n : Nat) (p : PEo) : Prop := ∀ (sc : Sc) (e : Option Expr), chkO X.ck sc p e = true → SO X n sc p e
noncomputable def gT (X : Cx) (n : Nat) (p : PC) : Prop := ∀ (sc : Sc) (e : Expr), chkT X.ck sc p e = true → ST X n sc p e
noncomputable def gTs (X : Cx) (n : Nat) (p : PCs) : Prop := ∀ (sc : Sc) (es : List Expr), chkTs X.ck sc p es = true → SAll X n sc p es
noncomputable def gC (X : Cx) (n : Nat) (p : PCo) : Prop := ∀ (sc : Sc) (es : List Expr), chkIf X.ck sc p es = true → SCo X n sc p es

section
variable (K : CxOk X) (O : Objs X n)
include K
theorem e_cst (v : V) : gE X n (.cst v) := fun sc e h => and_e h fun t c => e_of K t rfl (snd_cst c)
theorem e_loc (i : Nat) : gE X n (.loc i) := fun sc e h => and4_e h fun t a b c => e_of K t rfl (snd_loc (of_decide_eq_true a) b c)
theorem e_glob (i : Nat) : gE X n (.glob i) := fun sc e h => and4_e h fun t a b c => e_of K t rfl (snd_glob K (of_decide_eq_true a) b c)
theorem e_bin (fz : Bool) (op : BOp) (l r : PE) (hl : gE X n l) (hr : gE X n r) : gE X n (.bin fz op l r) := fun sc e h => and4_e h fun t o a b => e_of K t rfl (by
  show SE X n sc _ (.BinOp (xu e).a (xu e).o (xu e).b (xu e).p)
  rw [of_decide_eq_true o]; exact snd_bin (hl sc _ a).se (hr sc _ b).se)
theorem e_neg (a : PE) (ha : gE X n a) : gE X n (.neg a) := fun sc e h => and3_e h fun t o a => e_of K t rfl (by
  show SE X n sc _ (.UnaryOp (xu e).u (xu e).a (xu e).p)
  rw [of_decide_eq_true o]; exact snd_neg (ha sc _ a).se)
theorem e_not (a : PE) (ha : gE X n a) : gE X n (.not a) := fun sc e h => and3_e h fun t o a => e_of K t rfl (by
  show SE X n sc _ (.UnaryOp (xu e).u (xu e).a (xu e).p)
  rw [of_decide_eq_true o]; exact snd_not (ha sc _ a).se)
theorem e_cmp1 (op : COp) (l r : PE) (hl : gE X n l) (hr : gE X n r) : gE X n (.cmp op l r) := fun sc e h => and_e h fun t h => on_e h fun o ho h => on_e h fun r' hr' h => and3_e h fun h0 h1 h2 => by
  have f : ∀ {P : Expr → Prop}, P (.Compare (xu e).a [cmpOf op] [r'] (xu e).p) → P (back (xu e) 6) := fun {P} q => by
    show P (Expr.Compare (xu e).a (xu e).cs (xu e).l (xu e).p)
    rw [one_ok ho, one_ok hr', of_decide_eq_true h0]; exact q
  exact e_cmp K t (f (snd_cmp (hl sc _ h1).se (hr sc _ h2).se (chk_tag h2).2)) (f (snd_cmpT (hl sc _ h1).se (hr sc _ h2).se (chk_tag h2).2))
theorem e_cmp2 (o₁ o₂ : COp) (a b c : PE) (ha : gE X n a) (hb : gE X n b) (hc : gE X n c) : gE X n (.cmp2 o₁ o₂ a b c) := fun sc e h => and_e h fun t h => on_e h fun o ho h => on_e h fun r hr h => and5_e h fun h0 h00 h1 h2 h3 => by
  have f : ∀ {P : Expr → Prop}, P (.Compare (xu e).a [cmpOf o₁, cmpOf o₂] [r.1, r.2] (xu e).p) → P (back (xu e) 6) := fun {P} q => by
    show P (Expr.Compare (xu e).a (xu e).cs (xu e).l (xu e).p)
    rw [x2_ok ho, x2_ok hr, of_decide_eq_true h0, of_decide_eq_true h00]; exact q
  exact e_cmp K t (f (snd_cmp2 (ha sc _ h1).se (hb sc _ h2).se (hc sc _ h3).se (chk_tag h3).2)) (f (snd_cmp2T (ha sc _ h1).se (hb sc _ h2).se (hc sc _ h3).se (chk_tag h3).2))
theorem e_and (es : PEs) (he : gEs X n es) : gE X n (.and es) := fun sc e h => and3_e h fun t o a => e_of K t rfl (by
  show SE X n sc _ (.BoolOp (xu e).bo (xu e).l (xu e).p)
  rw [of_decide_eq_true o]; exact fun A env Pv W σ s Q E ok at_ hw => ((he sc _ a).bo A env Pv W σ s Q E _ ok at_).1 hw)
theorem e_or (es : PEs) (he : gEs X n es) : gE X n (.or es) := fun sc e h => and3_e h fun t o a => e_of K t rfl (by
  show SE X n sc _ (.BoolOp (xu e).bo (xu e).l (xu e).p)
  rw [of_decide_eq_true o]; exact fun A env Pv W σ s Q E ok at_ hw => ((he sc _ a).bo A env Pv W σ s Q E _ ok at_).2 hw)
theorem e_ite (c : PC) (a b : PE) (hc : gT X n c) (ha : gE X n a) (hb : gE X n b) : gE X n (.ite c a b) := fun sc e h => and4_e h fun t h0 h1 h2 => e_of K t rfl (snd_ite (hc sc _ h0) (ha sc _ h1).se (hb sc _ h2).se)
theorem e_list (fz : Bool) (es : PEs) (he : gEs X n es) : gE X n (.list fz es) := fun sc e h => and_e h fun t h0 => e_of K t rfl (snd_list (he sc _ h0).ls h0)
theorem e_tup (es : PEs) (he : gEs X n es) : gE X n (.tup es) := fun sc e h => and_e h fun t h0 => e_of K t rfl (snd_tup (he sc _ h0).ls h0)
theorem e_dict (kvs : PKV) : gE X n (.dict kvs) := fun sc e h => and4_e h fun t h1 h2 h3 => e_of K t rfl (by
  show SE X n sc _ (.Dict (xu e).os (xu e).l (xu e).p)
  rw [empty_ok h2, empty_ok h3]
  cases kvs with
  | nil => exact snd_dict0 K
  | cons _ _ _ => cases h1)
theorem e_idx (a i : PE) (ha : gE X n a) (hi : gE X n i) : gE X n (.idx a i) := fun sc e h => and3_e h fun t h0 h1 => e_of K t rfl (snd_idx (ha sc _ h0).se (hi sc _ h1).se)
theorem e_sl (fz : Bool) (a : PE) (lo hi : PEo) (ha : gE X n a) (hl : gO X n lo) (hh : gO X n hi) : gE X n (.sl fz a lo hi) := fun sc e h => and6_e h fun t t' h0 h1 h2 h3 => e_of K t rfl (by
  show SE X n sc _ (.Subscript (xu e).a (xu e).b (xu e).p)
  refine xu_to (P := fun b => SE X n sc _ (.Subscript (xu e).a b (xu e).p)) t' rfl ?_
  show SE X n sc _ (.Subscript (xu e).a (.Slice (xu (xu e).b).o0 (xu (xu e).b).o1 (xu (xu e).b).o2 (xu (xu e).b).p) (xu e).p)
  rw [x0_ok h3]; exact snd_sl (ha sc _ h0).se (hl sc _ h1) (hh sc _ h2))
theorem e_rev (fz : Bool) (a : PE) (ha : gE X n a) : gE X n (.rev fz a) := fun sc e h => and6_e h fun t t' h0 h1 h2 h3 => e_of K t rfl (on_e h3 fun m hm h3 => and4_e h3 fun u v w z => by
  show SE X n sc _ (.Subscript (xu e).a (xu e).b (xu e).p)
  refine xu_to (P := fun b => SE X n sc _ (.Subscript (xu e).a b (xu e).p)) t' rfl ?_
  show SE X n sc _ (.Subscript (xu e).a (.Slice (xu (xu e).b).o0 (xu (xu e).b).o1 (xu (xu e).b).o2 (xu (xu e).b).p) (xu e).p)
  rw [x0_ok h1, x0_ok h2, hm]
  refine xu_to (P := fun b => SE X n sc _ (.Subscript (xu e).a (.Slice none none (some b) _) (xu e).p)) u rfl ?_
  show SE X n sc _ (.Subscript (xu e).a (.Slice none none (some (.UnaryOp (xu m).u (xu m).a (xu m).p)) _) (xu e).p)
  rw [of_decide_eq_true v]
  refine xu_to (P := fun b => SE X n sc _ (.Subscript (xu e).a (.Slice none none (some (.UnaryOp .USub b (xu m).p)) _) (xu e).p)) w rfl ?_
  show SE X n sc _ (.Subscript (xu e).a (.Slice none none (some (.UnaryOp .USub (.Constant (xu (xu m).a).v _ _) (xu m).p)) _) (xu e).p)
  rw [of_decide_eq_true z]
  exact snd_rev (ha sc _ h0).se)
theorem e_comp (fz : Bool) (elt : PE) (ts : List Nat) (it : PE) (cond : PCo) (he : gE X n elt) (hi : gE X n it) (hc : gC X n cond) : gE X n (.comp fz elt ts it cond) := fun sc e h => and_e h fun t h => on_e h fun g hg h => and6_e h fun h1 h2 h3 h4 h5 h6 => and_e h6 fun h7 h8 => by
  have f : ∀ {P : Expr → Prop}, P (.ListComp (xu e).a [⟨g.target, g.iter, g.ifs, 0⟩] (scOf (xu e)) (xu e).p) → P e := fun {P} q => xu_to (P := P) t rfl (by
    show P (.ListComp (xu e).a (xu e).gs (scOf (xu e)) (xu e).p)
    have h7 : g.is_async = 0 := of_decide_eq_true h7
    rw [one_ok hg]
    cases g
    cases h7
    exact q)
  have s : SE X n sc (.comp fz elt ts it cond) e := f (P := SE X n sc _) (snd_comp (hi sc _ h3).se (he _ _ h1).se (hc _ _ h4) h2 h5 h8 (chk_tag h3).2 K)
  exact ⟨s, fun q => snd_T s q (by unfold tg; rw [tag_eq t]; rfl), fun i y q pos hy hk => f (P := fun e => S1 X n sc _ (.Assign [.Name y q] e pos)) (snd_assign_comp (hi sc _ h3).se (he _ _ h1).se (hc _ _ h4) h2 h5 h8 (chk_tag h3).2 K hy hk)⟩
include O
theorem e_attr (o : PE) (m : Nat) (ho : gE X n o) : gE X n (.attr o m) := fun sc e h => and4_e h fun t a b c => e_of K t rfl (by
  show SE X n sc _ (.Attribute (xu e).a (xu e).s (xu e).p)
  rw [of_decide_eq_true b]; exact O.attr sc o m _ _ (ho sc _ a).se c)
theorem e_call (fz : Bool) (f : PE) (as : PEs) (hf : gE X n f) (ha : gEs X n as) : gE X n (.call fz f as) := fun sc e h => and6_e h fun t t' h0 h1 h2 h3 => e_of K t rfl (by
  show SE X n sc _ (.Call (xu e).a (xu e).l (xu e).kw (xu e).p)
  have s := (hf sc _ h0).se
  rw [xu_is t' rfl] at s
  refine xu_to (P := fun b => SE X n sc _ (.Call b (xu e).l (xu e).kw (xu e).p)) t' rfl ?_
  rw [empty_ok h2]; exact O.call sc fz f as _ _ _ _ s h3 (ha sc _ h1).ls h1)
theorem e_meth (fz : Bool) (o : PE) (m : Nat) (as : PEs) (ho : gE X n o) (ha : gEs X n as) : gE X n (.meth fz o m as) := fun sc e h => and6_e h fun t t' h0 h1 h2 h3 => and5_e h3 fun g1 g2 g3 g4 g5 => e_of K t rfl (by
  show SE X n sc _ (.Call (xu e).a (xu e).l (xu e).kw (xu e).p)
  refine xu_to (P := fun b => SE X n sc _ (.Call b (xu e).l (xu e).kw (xu e).p)) t' rfl ?_
  show SE X n sc _ (.Call (.Attribute (xu (xu e).a).a (xu (xu e).a).s (xu (xu e).a).p) (xu e).l (xu e).kw (xu e).p)
  rw [empty_ok g3, of_decide_eq_true h1]
  exact O.meth sc fz o m as _ _ _ _ (ho sc _ h0).se (ha sc _ h2).ls h2 g1 (Nat.le_of_ble_eq_true g2) (beq_iff_eq.mpr (Nat.eq_of_beq_eq_true g4)) g5)
end
theorem es_nil : gEs X n .nil := fun sc es h => by rw [empty_ok h]; exact ⟨snd_es_nil, snd_bool_nil⟩
theorem es_cons (c : PE) (r : PEs) (hc : gE X n c) (hr : gEs X n r) : gEs X n (.cons c r) := fun sc es h => on_e h fun x hx h => and_e h fun h1 h2 => by
  have ih := hr sc _ h2
  have hc := (hc sc x h1).se
  rw [head_ok hx]
  refine ⟨snd_es_cons hc ih.ls, ?_⟩
  cases r with
  | nil => rw [empty_ok h2]; exact snd_bool_one hc
  | cons d r' =>
    refine on_e h2 fun y hy _ => ?_
    have b := ih.bo
    rw [head_ok hy] at b ⊢
    exact snd_bool_cons hc b
theorem o_none : gO X n .none := fun sc e h => by rw [x0_ok h]; exact snd_o_none
theorem o_some (a : PE) (ha : gE X n a) : gO X n (.some a) := fun sc e h => on_e h fun x hx h => by rw [hx]; exact snd_o_some (ha sc x h).se
theorem t_e (a : PE) (ha : gE X n a) : gT X n (.e a) := fun sc e h => and_e h fun h0 h1 => (ha sc e h1).st h0
theorem t_not (c : PC) (hc : gT X n c) : gT X n (.not c) := fun sc e h => and3_e h fun t o a => xu_to (P := ST X n sc _) t rfl (by
  show ST X n sc _ (.UnaryOp (xu e).u (xu e).a (xu e).p)
  rw [of_decide_eq_true o]; exact snd_notT (hc sc _ a))
theorem t_and (cs : PCs) (hc : gTs X n cs) : gT X n (.and cs) := fun sc e h => and3_e h fun t o a => xu_to (P := ST X n sc _) t rfl (by
  show ST X n sc _ (.BoolOp (xu e).bo (xu e).l (xu e).p)
  rw [of_decide_eq_true o]; exact snd_andT (hc sc _ a))
theorem t_or (cs : PCs) (hc : gTs X n cs) : gT X n (.or cs) := fun sc e h => and3_e h fun t o a => xu_to (P := ST X n sc _) t rfl (by
  show ST X n sc _ (.BoolOp (xu e).bo (xu e).l (xu e).p)
  rw [of_decide_eq_true o]; exact snd_orT (hc sc _ a))
theorem ts_nil : gTs X n .nil := fun sc es h => by rw [empty_ok h]; exact snd_all_nil
theorem ts_cons (c : PC) (r : PCs) (hc : gT X n c) (hr : gTs X n r) : gTs X n (.cons c r) := fun sc es h => on_e h fun x hx h => and_e h fun h1 h2 => by
  rw [head_ok hx]; exact snd_all_cons (hc sc x h1) (hr sc _ h2)
theorem c_none : gC X n .none := fun sc es h => by rw [empty_ok h]; exact snd_c_nil
theorem c_some (c : PC) (hc : gT X n c) : gC X n (.some c) := fun sc es h => on_e h fun x hx h => by rw [one_ok hx]; exact snd_c_one (hc sc x h)
theorem e_no {p : PE} (h : ∀ sc e, chkE X.ck sc p e = false) : gE X n p := fun sc e q => by rw [h] at q; cases q

section
variable (K : CxOk X) (O : Objs X n)
include K O
theorem sndE (p : PE) : gE X n p :=
  PE.rec (motive_1 := gE X n) (motive_2 := gEs X n) (motive_3 := gO X n) (motive_4 := fun _ => True) (motive_5 := gT X n) (motive_6 := gTs X n) (motive_7 := gC X n)
    (e_cst K) (e_loc K) (e_glob K) (e_attr K O) (e_bin K) (e_neg K) (e_not K) (e_cmp1 K) (e_cmp2 K) (e_and K) (e_or K) (e_ite K) (e_list K) (e_tup K) (fun kvs _ => e_dict K kvs) (e_idx K) (e_sl K) (e_rev K) (e_call K O) (fun _ _ _ => e_no fun _ _ => rfl) (fun _ _ _ _ _ => e_no fun _ _ => rfl) (fun _ _ => e_no fun _ _ => rfl) (e_meth K O) (e_comp K)
    es_nil es_cons o_none o_some trivial (fun _ _ _ _ _ _ => trivial) t_e t_not t_and t_or ts_nil ts_cons c_none c_some p
theorem sndT (p : PC) : gT X n p :=
  PC.rec (motive_1 := gE X n) (motive_2 := gEs X n) (motive_3 := gO X n) (motive_4 := fun _ => True) (motive_5 := gT X n) (motive_6 := gTs X n) (motive_7 := gC X n)
    (e_cst K) (e_loc K) (e_glob K) (e_attr K O) (e_bin K) (e_neg K) (e_not K) (e_cmp1 K) (e_cmp2 K) (e_and K) (e_or K) (e_ite K) (e_list K) (e_tup K) (fun kvs _ => e_dict K kvs) (e_idx K) (e_sl K) (e_rev K) (e_call K O) (fun _ _ _ => e_no fun _ _ => rfl) (fun _ _ _ _ _ => e_no fun _ _ => rfl) (fun _ _ => e_no fun _ _ => rfl) (e_meth K O) (e_comp K)
    es_nil es_cons o_none o_some trivial (fun _ _ _ _ _ _ => trivial) t_e t_not t_and t_or ts_nil ts_cons c_none c_some p
theorem sndO (p : PEo) : gO X n p := by
  cases p with
  | none => exact o_none
  | some a => exact o_some a (sndE K O a)
end
end
end Mine

end

section
set_option autoImplicit false
set_option linter.all false
set_option genSizeOf false
set_option genInjectivity false
namespace Mine
open PySem PySem.W PySem.Calls PyProof.Rows

section
variable {X : Cx} {n : Nat}
noncomputable def gS (X : Cx) (n : Nat) (p : PS) : Prop := ∀ (sc : Sc) (e : Stmt), chkS X.ck sc p e = true → S1 X n sc p e
noncomputable def gSs (X : Cx) (n : Nat) (p : PSs) : Prop := ∀ (sc : Sc) (es : List Stmt), chkSs X.ck sc p es = true → SS X n sc p es
theorem su_to {P : Stmt → Prop} {e : Stmt} {k : Nat} (t : sg e k = true) (hk : Nat.ble 1 k = true) (h : P (sback (su e) k)) : P e := @Eq.subst Stmt P _ _ (su_is t hk).symm h
theorem nm_e {c : Ck} {sc : Sc} {i : Nat} {e : Expr} {G : Prop} (h : chkNm c sc i e = true) (g : e = .Name (c.nm i) (xu e).p → (xu e).s = c.nm i → kStore sc (c.nm i) = true → G) : G := and3_e h fun t a b =>
  have a := of_decide_eq_true a
  g ((xu_is t rfl).trans (congrArg (Expr.Name · (xu e).p) a)) a (a ▸ b)
section
variable (K : CxOk X) (O : Objs X n)
include K O
theorem s_expr (a : PE) : gS X n (.expr a) := fun sc e h => and3_e h fun t h1 h2 => su_to t rfl (snd_expr (sndE K O a sc _ h1).se h2)
theorem s_pass : gS X n .pass := fun sc e h => su_to h rfl snd_pass
theorem s_assign (t : PT) (a : PE) : gS X n (.assign t a) := fun sc e h => and_e h fun tt h => on_e h fun y hy h => and3_e h fun h1 h2 h9 => su_to tt rfl (by
  show S1 X n sc _ (.Assign (su e).l (su e).a (su e).p)
  rw [one_ok hy]
  cases t with
  | loc i => exact nm_e h1 fun e1 e2 hk => e1 ▸ (sndE K O a sc _ h2).as i _ _ _ rfl hk
  | attr o m =>
    refine and3_e h1 fun t h3 h4 => xu_to (P := fun y => S1 X n sc _ (.Assign [y] (su e).a (su e).p)) t rfl ?_
    show S1 X n sc _ (.Assign [.Attribute (xu y).a (xu y).s (xu y).p] (su e).a (su e).p)
    rw [of_decide_eq_true h3]
    exact O.asgA sc o a m _ _ _ _ (sndE K O a sc _ h2).se (sndE K O o sc _ h4).se
  | idx o i => exact nomatch (show false = true from h1)
  | tup is => exact nomatch (show false = true from h1))
theorem s_augL (i : Nat) (op : BOp) (a : PE) : gS X n (.augLoc i op a) := fun sc e h => and6_e h fun t h1 h2 h3 h4 h5 => su_to t rfl (by
  show S1 X n sc _ (.AugAssign (su e).a (su e).o (su e).b (su e).p)
  refine nm_e h1 fun e1 e2 hk => ?_
  rw [e2] at h2 h3
  rw [e1, of_decide_eq_true h4]
  exact O.augL sc i op a _ _ _ (sndE K O a sc _ h5).se hk h2 h3)
theorem s_augA (o : PE) (m : Nat) (op : BOp) (a : PE) : gS X n (.augAttr o m op a) := fun sc e h => and6_e h fun t t' h1 h2 h3 h4 => su_to t rfl (by
  show S1 X n sc _ (.AugAssign (su e).a (su e).o (su e).b (su e).p)
  rw [of_decide_eq_true h2]
  refine xu_to (P := fun y => S1 X n sc _ (.AugAssign y (opOf op) (su e).b (su e).p)) t' rfl ?_
  show S1 X n sc _ (.AugAssign (.Attribute (xu (su e).a).a (xu (su e).a).s (xu (su e).a).p) (opOf op) (su e).b (su e).p)
  rw [of_decide_eq_true h1]
  exact O.augA sc o a m op _ _ _ _ (sndE K O a sc _ h4).se (sndE K O o sc _ h3).se)
theorem s_ret (a : PEo) : gS X n (.ret a) := fun sc e h => and_e h fun t h => su_to t rfl (by
  show S1 X n sc _ (.Return (su e).o0 (su e).p)
  cases a with
  | none => rw [x0_ok h]; exact snd_ret_none
  | some a => exact on_e h fun x hx h => hx ▸ snd_ret (sndE K O a sc x h).se)
theorem s_ite (c : PC) (a b : PSs) (ha : gSs X n a) (hb : gSs X n b) : gS X n (.ite c a b) := fun sc e h => and4_e h fun t h1 h2 h3 => su_to t rfl (snd_if (sndT K O c sc _ h1) (ha sc _ h2) (hb sc _ h3))
theorem s_loop (ts : List Nat) (it : PE) (body : PSs) (hb : gSs X n body) : gS X n (.loop ts it body) := fun sc e h => and6_e h fun t h1 h2 h3 h4 h5 => su_to t rfl (by
  show S1 X n sc _ (.For (su e).a (su e).b (su e).b0 (su e).b1 (su e).p)
  rw [empty_ok h4]
  refine on_e h1 fun j hj h1 => nm_e h1 fun e1 e2 hk => snd_loop K (sndE K O it sc _ h2).se (hb sc _ h3) ?_ (chk_tag h2).2 h5
  rw [one_ok hj, e1]
  exact bnd_name K rfl hk)
theorem s_while (c : PC) (body : PSs) (hb : gSs X n body) : gS X n (.while_ c body) := fun sc e h => nomatch (show false = true from h)
theorem s_raise (i : Nat) (a : PE) : gS X n (.raise i a) := fun sc e h => and_e h fun t h => on_e h fun x hx h => and3_e h fun t1 t2 h => on_e h fun v hv h => and5_e h fun h1 h2 h3 h4 h5 => su_to t rfl (by
  show S1 X n sc _ (.Raise (su e).o0 (su e).o1 (su e).p)
  rw [hx, x0_ok h4]
  refine xu_to (P := fun y => S1 X n sc _ (.Raise (some y) none (su e).p)) t1 rfl ?_
  show S1 X n sc _ (.Raise (some (.Call (xu x).a (xu x).l (xu x).kw (xu x).p)) none (su e).p)
  rw [one_ok hv, empty_ok h3]
  exact xu_to (P := fun y => S1 X n sc _ (.Raise (some (.Call y [v] [] (xu x).p)) none (su e).p)) t2 rfl (O.raise sc i a _ v _ _ _ h1 (sndE K O a sc v h2).se h2 h5))
theorem s_try (body : PSs) (i : Nat) (as : Option Nat) (hh : PSs) (hb : gSs X n body) (hhh : gSs X n hh) : gS X n (.try_ body i as hh) := fun sc e h => and_e h fun t h => on_e h fun g hg h => on_e h fun x hx h => and_e h fun t1 h => on_e h fun b₀ hb0 h => and6_e h fun h1 h2 h3 h4 h5 h6 => and_e h5 fun h7 h8 => su_to t rfl (by
  show S1 X n sc _ (.Try (su e).b0 (su e).hs (su e).b1 (su e).b2 (su e).p)
  have h3' := hhh ⟨sc.sc, false⟩ _ h3
  rw [head_ok hb0] at h3'
  rw [one_ok hg, empty_ok h7, empty_ok h8, xHd_ok g, hx, head_ok hb0]
  exact xu_to (P := fun y => S1 X n sc _ (.Try (su e).b0 [.ExceptHandler (some y) _ _ _] [] [] (su e).p)) t1 rfl (O.try_ sc body i as hh _ b₀ _ _ _ _ _ _ h1 (hb sc _ h2) h3' h4 h6))
end
theorem ss_nil : gSs X n .nil := fun sc es h => by rw [empty_ok h]; exact snd_ss_nil
theorem ss_cons (c : PS) (r : PSs) (hc : gS X n c) (hr : gSs X n r) : gSs X n (.cons c r) := fun sc es h => on_e h fun x hx h => and_e h fun h1 h2 => by
  rw [head_ok hx]; exact snd_ss_cons (hc sc x h1) (hr sc _ h2)
theorem sndSs (K : CxOk X) (O : Objs X n) (p : PSs) : gSs X n p :=
  PSs.rec (motive_1 := gS X n) (motive_2 := gSs X n) (s_expr K O) (s_pass K O) (s_assign K O) (s_augL K O) (s_augA K O) (s_ret K O) (s_ite K O) (s_loop K O) (fun _ _ _ _ _ _ _ h => nomatch h) (s_while K O) (s_raise K O) (s_try K O) ss_nil ss_cons p
end
end Mine

end

section
set_option autoImplicit false
set_option linter.all false
set_option genSizeOf false
set_option genInjectivity false
namespace Mine
open PySem PySem.W PySem.Calls PyProof.Rows

/-- what a look at an exception may change -/
noncomputable def Hid (W : Wd) (H : Hp) (h₀ : Heap) (e : Addr) (l : List Env) (a : Addr) : Prop := a = e ∨ a ∈ l.filterMap (·.frame) ∨ (h₀.get? a = none ∧ ¬ Own W H a ∧ W.Z a = none)
/-- behind a look at an exception -/
structure Aft (W : Wd) (H : Hp) (h₀ h h' : Heap) (e : Addr) (cls : Value) (l : List Env) : Prop where
  same : ∀ b ob, h.get? b = some ob → ¬ Hid W H h₀ e l b → h'.get? b = some ob
  fr : ∀ b ob, b ∈ l.filterMap (·.frame) → h.get? b = some ob → ∃ o', h'.get? b = some o' ∧ SameO ob o'
  fly : Fly W H h₀ h' e
  exc : ∃ oe vs, h'.get? e = some oe ∧ oe.cls = cls ∧ oe.data = .fields vs

section
variable {X : Cx} {M : Model} {A : Around} {E : Value → Shared → Prop} {s : Shared} {W : Wd} {H : Hp} {h₀ : Heap} {e : Addr} {env : Env} {outer : List Env}

theorem frames_of {as : List Addr} {h : Heap} {l : List Env} (F : ∀ e ∈ l, FrAt W H h e) (hin : ∀ b ∈ l.filterMap (·.frame), b ∈ as) : h.FunFrames (hideAll h as) l := by
  induction l with
  | nil => trivial
  | cons env r ih =>
    obtain ⟨kd, L, o, es, n, a, b, c, _⟩ := F env (.head _)
    exact ⟨kd, ⟨L, o, a, hideAll_none _ (hin L (List.mem_filterMap.mpr ⟨env, .head _, a⟩)), b, fun vs q => by rw [c] at q; cases q⟩, ih (fun e he => F e (.tail _ he)) fun b hb => hin b ((List.mem_filterMap.mp hb).elim fun e q => List.mem_filterMap.mpr ⟨e, .tail _ q.1, q.2⟩)⟩

theorem frOwn_of {l : List Env} {h : Heap} (F : ∀ e ∈ l, FrAt W H h e) : ∀ b, b ∈ l.filterMap (·.frame) → ∃ o es n, h.get? b = some o ∧ o.data = .dict es n ∧ ¬ Own W H b ∧ W.Z b = none := fun b hb => by
  obtain ⟨e', he', q⟩ := List.mem_filterMap.mp hb
  obtain ⟨_, L', o, es, n, a, b', c, d, f⟩ := F e' he'
  rw [q] at a; cases a
  exact ⟨o, es, n, b', c, d, f⟩
/-- whatever was hidden -/
theorem aft_of {cls a0 : Value} {l : List Env} {as : List Addr} {h₂ : Heap} (R : RelH X W H s.heap) (there : ∀ a o, h₀.get? a = some o → ∃ o', s.heap.get? a = some o') (F : ∀ e ∈ l, FrAt W H s.heap e) (hin : ∀ a ∈ as, Hid W H h₀ e l a) (x : Heap.FlyingW (hideAll s.heap as) l e cls a0 h₂) (u : s.heap.UpToSlots h₂) : Aft W H h₀ s.heap h₂ e cls l := by
  have frOwn := frOwn_of F
  obtain ⟨k1, _, _, oe, vs, T, oT, ts, he, ⟨hc, h0⟩, hd, h1, hnT, hTe, hT, hdT, h3⟩ := x
  have fr : ∀ b ob, b ∈ l.filterMap (·.frame) → s.heap.get? b = some ob → ∃ o', h₂.get? b = some o' ∧ SameO ob o' := fun b ob hb hob => by
    obtain ⟨o, es, n, q1, q2, _⟩ := frOwn b hb
    rw [hob] at q1; cases q1
    obtain ⟨sl, q⟩ := u b ob hob fun vs z => by rw [q2] at z; cases z
    exact ⟨_, q, .inr ⟨⟨es, n, q2⟩, sl, rfl⟩⟩
  refine ⟨fun b ob hb hn => k1 b ob (hideAll_get _ hb fun hm => hn (hin b hm)), fr, ⟨oe, vs, a0, he, hd, h0, .inr ⟨T, oT, ts, h1, hTe, hT, hdT, h3, ?_⟩⟩, oe, vs, he, hc, hd⟩
  cases hq : s.heap.get? T with
  | none =>
    refine ⟨?_, fun z => ?_, ?_⟩
    · cases q : h₀.get? T with
      | none => rfl
      | some o => obtain ⟨o', z⟩ := there T o q; rw [hq] at z; cases z
    · obtain ⟨o', z⟩ := R.own_there z; rw [hq] at z; cases z
    · cases q : W.Z T with
      | none => rfl
      | some o => have := R.z _ _ q; rw [hq] at this; cases this
  | some o =>
    have hm : T ∈ as := by
      cases hd : decide (T ∈ as) with
      | true => exact of_decide_eq_true hd
      | false => have := hideAll_get as hq (of_decide_eq_false hd); rw [hnT] at this; cases this
    rcases hin T hm with q | q | q
    · exact absurd q hTe
    · obtain ⟨o', z, zz⟩ := fr T o q hq
      obtain ⟨o2, es, n, q1, q2, _⟩ := frOwn T q
      rw [hq] at q1; cases q1
      rw [hT] at z; cases z
      rw [zz.data, q2] at hdT; cases hdT
    · exact q
theorem hid1 {l : List Env} : ∀ a ∈ e :: l.filterMap (·.frame), Hid W H h₀ e l a := fun a ha => by
  rcases List.mem_cons.mp ha with q | q
  · exact .inl q
  · exact .inr (.inl q)
theorem hid2 {l : List Env} {T : Addr} (y : h₀.get? T = none ∧ ¬ Own W H T ∧ W.Z T = none) : ∀ a ∈ e :: T :: l.filterMap (·.frame), Hid W H h₀ e l a := fun a ha => by
  rcases List.mem_cons.mp ha with q | q
  · exact .inl q
  · rcases List.mem_cons.mp q with q | q
    · subst q; exact .inr (.inr y)
    · exact .inr (.inl q)

theorem seen_ok {L : Addr} {cls : Value} {Q : Unit → Shared → Prop} (R : RelH X W H s.heap) (there : ∀ a o, h₀.get? a = some o → ∃ o', s.heap.get? a = some o') (hfr : A.frames = some (env :: outer)) (hf : env.frame = some L) (F : ∀ e ∈ env :: outer, FrAt W H s.heap e)
    (fl : Fly W H h₀ s.heap e) (hcls : ∀ oe, s.heap.get? e = some oe → oe.cls = cls) (hQ : ∀ h', Aft W H h₀ s.heap h' e cls (env :: outer) → Q () { s with heap := h' }) :
    wpAny M A (noteFrame (.ref e) env) (fun _ s₂ => wpAny M A (setFlight (.ref e) none) Q E s₂) E s := by
  obtain ⟨oe, vs, a0, he, hd, h0, h1⟩ := fl
  have hc := hcls oe he
  rcases h1 with h1 | ⟨T, oT, ts, h1, hTe, hT, hdT, h3, y⟩
  · have FF : s.heap.FunFrames (hideAll s.heap (e :: (env :: outer).filterMap (·.frame))) (env :: outer) := frames_of (l := env :: outer) F fun b hb => .tail _ hb
    have hkb : (hideAll s.heap (e :: (env :: outer).filterMap (·.frame))).StaysIn s.heap := fun b o q => of_hideAll _ q
    have hen : (hideAll s.heap (e :: (env :: outer).filterMap (·.frame))).get? e = none := hideAll_none _ (.head _)
    unfold noteFrame
    simp only [hf]
    refine wpAny_bind (wpAny_field he hd h1 ?_)
    rw [if_neg (by decide)]
    refine wpAny_entryW hfr FF hf he hkb hen hd (Array.getElem?_eq_some_iff.mp h1).1 h0 fun h₁ ⟨k1, k2, k3, k4⟩ => ?_
    refine wpAny_landsW (s := { s with heap := h₁ }) ⟨k1, hen, k2, k3⟩ fun h₂ x u => ?_
    rw [hc] at x
    exact hQ _ (aft_of R there F hid1 x (Heap.UpToSlots.trans k4 u))
  · have FF : s.heap.FunFrames (hideAll s.heap (e :: T :: (env :: outer).filterMap (·.frame))) (env :: outer) := frames_of (l := env :: outer) F fun b hb => .tail _ (.tail _ hb)
    have hkb : (hideAll s.heap (e :: T :: (env :: outer).filterMap (·.frame))).StaysIn s.heap := fun b o q => of_hideAll _ q
    have hen : (hideAll s.heap (e :: T :: (env :: outer).filterMap (·.frame))).get? e = none := hideAll_none _ (.head _)
    have hTn : (hideAll s.heap (e :: T :: (env :: outer).filterMap (·.frame))).get? T = none := hideAll_none _ (.tail _ (.head _))
    refine wpAny_looks_onW hfr hf ⟨hkb, hen, FF, oe, vs, T, oT, ts, he, ⟨hc, h0⟩, hd, h1, hTn, hTe, hT, hdT, h3⟩ fun h₁ hh u₁ => ?_
    exact wpAny_landsW (s := { s with heap := h₁ }) hh fun h₂ x u => hQ _ (aft_of R there F (hid2 y) x (u₁.trans u))
/-- it lands once more -/
theorem again_ok {l : List Env} {cls : Value} {Q : Unit → Shared → Prop} (R : RelH X W H s.heap) (there : ∀ a o, h₀.get? a = some o → ∃ o', s.heap.get? a = some o') (F : ∀ e ∈ l, FrAt W H s.heap e)
    (fl : Fly W H h₀ s.heap e) (hcls : ∀ oe, s.heap.get? e = some oe → oe.cls = cls) (hQ : ∀ h', Aft W H h₀ s.heap h' e cls l → Q () { s with heap := h' }) :
    wpAny M A (setFlight (.ref e) none) Q E s := by
  obtain ⟨oe, vs, a0, he, hd, h0, h1⟩ := fl
  have hc := hcls oe he
  rcases h1 with h1 | ⟨T, oT, ts, h1, hTe, hT, hdT, h3, y⟩
  · unfold setFlight
    refine wpAny_bind (wpAny_field he hd h1 ?_)
    rw [if_neg (by decide)]
    exact wpAny_pure (hQ s.heap ⟨fun b ob q _ => q, fun b ob _ q => ⟨ob, q, .refl ob⟩, ⟨oe, vs, a0, he, hd, h0, .inl h1⟩, oe, vs, he, hc, hd⟩)
  · have FF : s.heap.FunFrames (hideAll s.heap (e :: T :: l.filterMap (·.frame))) l := frames_of (l := l) F fun b hb => .tail _ (.tail _ hb)
    have hkb : (hideAll s.heap (e :: T :: l.filterMap (·.frame))).StaysIn s.heap := fun b o q => of_hideAll _ q
    have hen : (hideAll s.heap (e :: T :: l.filterMap (·.frame))).get? e = none := hideAll_none _ (.head _)
    have hTn : (hideAll s.heap (e :: T :: l.filterMap (·.frame))).get? T = none := hideAll_none _ (.tail _ (.head _))
    exact lands_againW ⟨hkb, hen, FF, oe, vs, T, oT, ts, he, ⟨hc, h0⟩, hd, h1, hTn, hTe, hT, hdT, h3⟩ fun h₂ x u => hQ _ (aft_of R there F (hid2 y) x u)

theorem Aft.rel {h' : Heap} {cls : Value} {l : List Env} {i k : Nat} {la : Addr × Addr} {c : Addr} (R : RelH X W H s.heap) (hi : H.get i = some (.exc k)) (hl : W.φ i = some la) (hla : la.1 = e) (hc : X.clA k = some c) (hcls : cls = .ref c) (F : ∀ e ∈ l, FrAt W H s.heap e) (a : Aft W H h₀ s.heap h' e cls l) : RelH X W H h' := by
  have cell0 : ExcCell X s.heap la k := R.at_ hi hl
  have own_e : Own W H e := ⟨i, _, la, hi, hl, .inl hla.symm⟩
  have frOwn : ∀ b, b ∈ l.filterMap (·.frame) → ¬ Own W H b ∧ W.Z b = none := fun b hb => by
    obtain ⟨e', he', q⟩ := List.mem_filterMap.mp hb
    obtain ⟨_, L', o, es, n, x1, x2, x3, x4, x5⟩ := F e' he'
    rw [q] at x1; cases x1
    exact ⟨x4, x5⟩
  refine ⟨fun b ob hz => a.same b ob (R.z b ob hz) fun hd => ?_, R.base, fun j cj hj => ?_, R.off, R.sep, R.dom⟩
  · rcases hd with q | q | q
    · rw [q, R.off e own_e] at hz; cases hz
    · rw [(frOwn b q).2] at hz; cases hz
    · rw [q.2.2] at hz; cases hz
  · obtain ⟨l', hl', cell⟩ := R.cell j cj hj
    by_cases hji : j = i
    · subst hji
      have : l' = la := Option.some.inj (hl'.symm.trans hl)
      subst this
      rw [hi] at hj; cases hj
      obtain ⟨oe, vs, q1, q2, q3⟩ := a.exc
      obtain ⟨_, _, _, _, hx, _, _, _, hl2⟩ := cell0
      exact ⟨l', hl, c, oe, vs, hc, hx, by rw [hla]; exact q1, q2.trans hcls, q3, hl2⟩
    · obtain ⟨s1, s2, s3, s4⟩ := R.sep j i cj _ l' la hj hi hl' hl hji
      have nh : ∀ b, b = l'.1 ∨ b = l'.2 → ¬ Hid W H h₀ e l b := fun b hb hd => by
        have ob : Own W H b := ⟨j, cj, l', hj, hl', hb⟩
        rcases hd with q | q | q
        · rcases hb with r | r
          · exact s1 (by rw [← r, q, hla])
          · exact s3 (by rw [← r, q, hla])
        · exact (frOwn b q).1 ob
        · exact q.2.1 ob
      exact ⟨l', hl', cell.keeps (.refl _) (fun o q => a.same _ _ q (nh _ (.inl rfl))) fun o q => a.same _ _ q (nh _ (.inr rfl))⟩

theorem Stp.post {Pv : Addr → Prop} {W₀ : Wd} {H₀ : Hp} {h h' : Heap} (S : Stp Pv W₀ H₀ h₀ W H h) (k : ∀ b, (∃ o, h₀.get? b = some o) → ∀ ob, h.get? b = some ob → ∃ o', h'.get? b = some o' ∧ (¬ Own W H b → SameO ob o')) : Stp Pv W₀ H₀ h₀ W H h' where
  le := S.le
  keep := fun a o ha no np => by
    obtain ⟨o₁, h1, q1⟩ := S.keep a o ha no np
    obtain ⟨o₂, h2, q2⟩ := k a ⟨o, ha⟩ o₁ h1
    exact ⟨o₂, h2, q1.trans (q2 (S.own a o ha no))⟩
  own := S.own
  znew := S.znew
  there := fun a o ha => by
    obtain ⟨o₁, h1⟩ := S.there a o ha
    obtain ⟨o₂, h2, _⟩ := k a ⟨o, ha⟩ o₁ h1
    exact ⟨o₂, h2⟩
theorem Aft.stp {Pv : Addr → Prop} {W₀ : Wd} {H₀ : Hp} {h h' : Heap} {cls : Value} {l : List Env} (S : Stp Pv W₀ H₀ h₀ W H h) (ho : Own W H e) (a : Aft W H h₀ h h' e cls l) : Stp Pv W₀ H₀ h₀ W H h' :=
  S.post fun b hb ob hob => by
    by_cases hd : Hid W H h₀ e l b
    · rcases hd with q | q | q
      · obtain ⟨oe, vs, q1, _⟩ := a.exc
        exact ⟨oe, by rw [q]; exact q1, fun z => absurd (q ▸ ho) z⟩
      · obtain ⟨o', q1, q2⟩ := a.fr b ob q hob
        exact ⟨o', q1, fun _ => q2⟩
      · obtain ⟨o, z⟩ := hb; rw [q.1] at z; cases z
    · exact ⟨ob, a.same b ob hob hd, fun _ => .refl ob⟩
/-- the frame at hand, behind a look -/
theorem Aft.frr {h h' : Heap} {cls : Value} {env' : Env} {Pv : Pr} {loc : Loc} (F : FrR X W H h env' Pv loc) (hp : ∀ b, Pv.pv b → ∃ o, h₀.get? b = some o) (hcl : ∀ x c, env'.cells.lookup x = some c → ∃ o, h₀.get? c = some o) (ho : Own W H e) (a : Aft W H h₀ h h' e cls Pv.st) : FrR X W H h' env' Pv loc := by
  have key : ∀ b, ¬ Own W H b → (∃ o, h₀.get? b = some o) → ∀ o, h.get? b = some o → ∃ o', h'.get? b = some o' ∧ SameO o o' := fun b nb hb o hob => by
    by_cases hd : Hid W H h₀ e Pv.st b
    · rcases hd with q | q | q
      · exact absurd (q ▸ ho) nb
      · exact a.fr b o q hob
      · obtain ⟨o, z⟩ := hb; rw [q.1] at z; cases z
    · exact ⟨o, a.same b o hob hd, .refl o⟩
  have kp : ∀ b, Pv.pv b → ∀ o, h.get? b = some o → ∃ o', h'.get? b = some o' ∧ SameO o o' := fun b p => key b (F.priv b p).1 (hp b p)
  have kc : ∀ x c, env'.cells.lookup x = some c → ∀ o, h.get? c = some o → ∃ o', h'.get? c = some o' ∧ SameO o o' := fun x c q => key c (F.cellNs x c q).2.1 (hcl x c q)
  refine ⟨?_, fun i v e k => ?_, fun x ef e => ?_, F.cellEq, fun x c e => ?_, F.pvL, F.priv, fun b p => ?_, fun e he => (F.frs e he).keep fun L o es n x1 x2 x3 x4 x5 => ⟨?_, x4, x5⟩, F.frc⟩
  · obtain ⟨m, hn, hv⟩ := F.ns
    exact ⟨m, ns_same hn (kp _ F.pvL), hv⟩
  · obtain ⟨c, cv, q, r, t⟩ := F.cells i v e k
    exact ⟨c, cv, q, cell_same r (kc _ _ q), t⟩
  · obtain ⟨c, v, q, r, t⟩ := F.hasCell x ef e
    exact ⟨c, v, q, cell_same r (kc _ _ q), t⟩
  · obtain ⟨p, q, ob, r⟩ := F.cellNs x c e
    obtain ⟨o', z, _⟩ := kc x c e ob r
    exact ⟨p, q, o', z⟩
  · obtain ⟨o, r⟩ := F.pvAt b p
    obtain ⟨o', z, _⟩ := kp b p o r
    exact ⟨o', z⟩
  · obtain ⟨o', z, q⟩ := a.fr L o (List.mem_filterMap.mpr ⟨e, he, x1⟩) x2
    exact ⟨o', es, n, z, q.data.trans x3⟩
end
end Mine

end

section
set_option autoImplicit false
set_option linter.all false
set_option genSizeOf false
set_option genInjectivity false
namespace Mine
open PySem PySem.W PySem.Calls PyProof.Rows

section
variable {X : Cx} {n : Nat}

theorem cells_some (names : List (Str × NameKind)) : ∀ (k : Nat) (acc : List (Str × Addr)) (x : Str), ((x, NameKind.cell) ∈ names ∨ ∃ c, acc.lookup x = some c) → ∃ c, (cellsFrom k names acc).lookup x = some c := by
  induction names with
  | nil => exact fun _ _ _ h => h.elim (fun q => (nomatch q)) id
  | cons p r ih =>
    intro k acc x h
    obtain ⟨y, kd⟩ := p
    unfold cellsFrom
    split
    · refine ih (k + 1) ((y, k) :: acc) x ?_
      rcases h with h | ⟨c, h⟩
      · rcases List.mem_cons.mp h with q | q
        · cases q; exact .inr ⟨k, lookup_eq (beq_self_eq_true x)⟩
        · exact .inl q
      · cases hb : x == y with
        | true => exact .inr ⟨k, lookup_eq hb⟩
        | false => exact .inr ⟨c, (lookup_ne hb).trans h⟩
    · rename_i hk
      refine ih k acc x (h.imp (fun h => ?_) id)
      rcases List.mem_cons.mp h with q | q
      · cases q; exact absurd rfl hk
      · exact q

/-- the names bound at a call's start -/
structure BR (X : Cx) (W : Wd) (kd : Str → Option NameKind) (loc : Loc) (m cm : Str → Option Value) : Prop where
  l : ∀ i v, loc i = some v → kd (X.nm i) = some .local → MmR X W m i v
  c : ∀ i v, loc i = some v → kd (X.nm i) ≠ some .local → MmR X W cm i v
theorem bindP_e {ps : List Nat} {p : Nat} {as : List V} {l₀ l : Loc} {G : Prop} (h : bindP (p :: ps) as l₀ = some l) (g : ∀ a as', as = a :: as' → bindP ps as' (upd l₀ p a) = some l → G) : G := by
  cases as with
  | nil => cases h
  | cons a as => exact g a as rfl h
theorem bindP_nil {as : List V} {l₀ l : Loc} (h : bindP [] as l₀ = some l) : as = [] ∧ l = l₀ := by
  cases as with
  | nil => exact ⟨rfl, (Option.some.inj h).symm⟩
  | cons _ _ => cases h
theorem bind_rel (K : CxOk X) {W : Wd} {kd : Str → Option NameKind} (ps : List Nat) : ∀ (vs : List Value) (as : List V) (l₀ l : Loc) (m cm : Str → Option Value), VRs X W vs as → bindP ps as l₀ = some l → BR X W kd l₀ m cm → BR X W kd l (PySem.bindL kd ((ps.map X.nm).zip vs) m) (PySem.bindC kd ((ps.map X.nm).zip vs) cm) := by
  induction ps with
  | nil =>
    intro vs as l₀ l m cm hv hb h
    rw [(bindP_nil hb).2]; exact h
  | cons p ps ih =>
    intro vs as l₀ l m cm hv hb h
    refine bindP_e hb fun a as' e hb' => ?_
    subst e
    cases hv with
    | @cons v vs _ _ hv hvs =>
      have key : ∀ i u, upd l₀ p a i = some u → (i = p ∧ u = a) ∨ (X.nm i ≠ X.nm p ∧ l₀ i = some u) := fun i u e => by
        have e' : (if i = p then some a else l₀ i) = some u := e
        by_cases hi : i = p
        · rw [if_pos hi] at e'; exact .inl ⟨hi, (Option.some.inj e').symm⟩
        · rw [if_neg hi] at e'; exact .inr ⟨fun q => hi (K.inj _ _ q), e'⟩
      refine ih vs as' (upd l₀ p a) l _ _ hvs hb' ⟨fun i u e q => ?_, fun i u e q => ?_⟩
      · rcases key i u e with ⟨rfl, rfl⟩ | ⟨ne, e⟩
        · exact ⟨v, by rw [if_pos q, if_pos rfl], hv⟩
        · obtain ⟨cv, a1, a2⟩ := h.l i u e q
          refine ⟨cv, ?_, a2⟩
          split
          · exact (if_neg ne).trans a1
          · exact a1
      · rcases key i u e with ⟨rfl, rfl⟩ | ⟨ne, e⟩
        · exact ⟨v, by rw [if_neg q, if_pos rfl], hv⟩
        · obtain ⟨cv, a1, a2⟩ := h.c i u e q
          refine ⟨cv, ?_, a2⟩
          split
          · exact a1
          · exact (if_neg ne).trans a1
theorem bindP_len (ps : List Nat) : ∀ (as : List V) (l₀ l : Loc), bindP ps as l₀ = some l → as.length = ps.length := by
  induction ps with
  | nil => exact fun as l₀ l h => by rw [(bindP_nil h).1]; rfl
  | cons p ps ih => exact fun as l₀ l h => bindP_e h fun a as' e h => by rw [e]; exact congrArg (· + 1) (ih as' _ l h)

/-- a new place is no one's -/
theorem RelH.fresh_no {W : Wd} {H : Hp} {h : Heap} (R : RelH X W H h) {b : Addr} (hb : h.get? b = none) : ¬ Own W H b ∧ W.Z b = none := by
  refine ⟨fun q => (R.own_there q).elim fun _ e => (by rw [hb] at e; cases e), ?_⟩
  cases q : W.Z b with
  | none => rfl
  | some ob => have := R.z _ _ q; rw [hb] at this; cases this
/-- the private places of a call -/
noncomputable def callPv (fd : FuncData) (L a : Addr) (outer : List Env) : Pr := ⟨fun b => b = L ∨ ∃ x, (callEnvC fd L a).cells.lookup x = some b, callEnvC fd L a :: outer⟩
section
variable {A : Around} {k : Nat} {a : Addr} {as : List V} {vs : List Value} {W : Wd} {H : Hp} {s : Shared} {d : Fn} {m : Loc} {q : Bool} {o : Obj} {fd : FuncData} {body : List Stmt} {outer : List Env}
theorem call_step (K : CxOk X) (O : Objs X n) : CallM X (n + 1) := by
  intro A k a as vs W H s Q E hA hq hst R hv ha h
  obtain ⟨outer, hfr, hfrs⟩ := hst
  refine need_e h fun d hd h => need_e h fun m hm h => ?_
  obtain ⟨o, fd, body, F⟩ := K.fn k a d ha hd
  have hlen : vs.length = d.params.length := by rw [hv.length]; exact bindP_len _ _ _ _ hm
  have cs : ∀ (N : Nat) x, fd.scope.names.lookup x = some .cell → ∃ c, (cellsFrom N fd.scope.names []).lookup x = some c := fun N x q => cells_some _ _ _ _ (.inl (lookup_mem q))
  refine codeAny_call_cells (by have := hA.depth; omega) (R.bkeep _ _ F.at_) F.data (K.noLim.keeps R.bkeep) (F.code.keeps R.bkeep) F.body_ (F.bind vs hlen) F.clo (fun x hx => ?_) (fun s₁ ic => ?_) F.co F.gen F.kind
  · obtain ⟨i, hi, e⟩ := List.mem_map.mp (List.of_mem_zip (show (x.1, x.2) ∈ _ from hx)).1
    rw [← e]
    rcases Bool.or_eq_true_iff.mp (F.par i hi) with q | q
    · exact .inl (knd_of (sc := ⟨fd.scope, true⟩) (Nat.eq_of_beq_eq_true q) (by decide))
    · have q : fd.scope.names.lookup (X.nm i) = some .cell := knd_of (sc := ⟨fd.scope, true⟩) (Nat.eq_of_beq_eq_true q) (by decide)
      exact (cs (s.heap.objs.size + 1) _ q).elim fun c hc => .inr ⟨q, by rw [hc]; rfl⟩
  generalize hL : s.heap.objs.size = L at ic ⊢
  have sn : ∀ b, L ≤ b → s.heap.get? b = none := fun b hb => Heap.get?_none_of_le (by rw [hL]; exact hb)
  obtain ⟨h₁, tk, rfl, keep⟩ := ic.done
  have ab : ∀ x c, (callEnvC fd L a).cells.lookup x = some c → L < c := fun x c q => ic.above x c (lookup_mem q)
  have pvN : ∀ b, (callPv fd L a outer).pv b → s.heap.get? b = none := fun b hb => hb.elim (fun q => by rw [q]; exact sn L (Nat.le_refl _)) fun ⟨x, q⟩ => sn b (Nat.le_of_lt (ab x b q))
  have S0 : Stp noPv W H s.heap W H h₁ := .quiet (fun b ob e _ => keep b ob e) fun b ob e => ⟨ob, keep b ob e⟩
  have br := bind_rel K (kd := (callEnvC fd L a).kindOf) d.params vs as (fun _ => none) m (fun _ => none) (fun _ => none) hv hm ⟨fun i v e => (by cases e), fun i v e => (by cases e)⟩
  have kc : ∀ x, (callEnvC fd L a).kindOf x = some .cell → ∃ c, (callEnvC fd L a).cells.lookup x = some c := fun x q => cs (L + 1) x q
  have kf : ∀ x, (callEnvC fd L a).kindOf x ≠ some .free := fun x q => F.free _ (lookup_mem (show fd.scope.names.lookup x = some .free from q)) rfl
  have fr : FrR X W H h₁ (callEnvC fd L a) (callPv fd L a outer) m := by
    refine ⟨⟨_, ic.toInCall.ns, br.l⟩, fun i v e q => ?_, fun x _ q => ?_, fun x y c q q' => name_of_addr ic.apart (lookup_mem q) (lookup_mem q'), fun x c q => ?_, .inl rfl, fun b hb => R.fresh_no (pvN b hb), fun b hb => ?_, fun e he => ?_, fun x c q e he z => ?_⟩
    · have q' : (callEnvC fd L a).kindOf (X.nm i) = some .cell := q.elim id fun z => absurd z (kf _)
      obtain ⟨c, hc⟩ := kc _ q'
      obtain ⟨cv, h1, h2⟩ := br.c i v e (by rw [q']; intro z; cases z)
      have hcell := ic.cell _ c hc
      rw [h1] at hcell
      exact ⟨c, cv, hc, hcell, h2⟩
    · exact (kc _ q).elim fun c hc => ⟨c, _, hc, ic.cell _ c hc, .inr ⟨x, hc⟩⟩
    · exact (ic.cell _ c q).elim fun ob ho => ⟨Nat.ne_of_gt (ab x c q), (R.fresh_no (pvN c (.inr ⟨x, q⟩))).1, ob, ho.1⟩
    · rcases hb with rfl | ⟨x, q⟩
      · obtain ⟨ob, _, _, ho, _⟩ := ic.toInCall.ns; exact ⟨ob, ho⟩
      · exact (ic.cell _ b q).elim fun ob ho => ⟨ob, ho.1⟩
    · rcases List.mem_cons.mp he with q | q
      · subst q
        obtain ⟨ob, es, n', ho, hd', _⟩ := ic.toInCall.ns
        exact ⟨by show fd.scope.kind ≠ _; rw [F.kind]; decide, L, ob, es, n', rfl, ho, hd', R.fresh_no (sn L (Nat.le_refl _))⟩
      · exact (hfrs e q).keep fun L' o es n' a b c d f => ⟨⟨o, es, n', keep _ _ b, c⟩, d, f⟩
    · rcases List.mem_cons.mp he with r | r
      · subst r
        exact Nat.ne_of_lt (ab x c q) (Option.some.inj (show some L = some c from z))
      · obtain ⟨_, L', o, es, n', x1, x2, _⟩ := hfrs e r
        rw [z] at x1; cases x1
        rw [pvN c (.inr ⟨x, q⟩)] at x2; cases x2
  have hfr' : (A.deeper (callEnvC fd L a)).frames = some (callEnvC fd L a :: outer) := by show A.frames.map _ = _; rw [hfr]; rfl
  have hs : ∀ hd', (hd' = true → A.handled = none) → chkSs X.ck ⟨fd.scope, hd'⟩ d.body body = true → _ := fun hd' hh' hck => sndSs K O d.body ⟨fd.scope, hd'⟩ body hck (A.deeper (callEnvC fd L a)) (callEnvC fd L a) (callPv fd L a outer) W ⟨H, m⟩ { s with heap := h₁, toks := tk } _ _
    ⟨hfr', fun _ => ⟨(fun z => by cases z), outer, rfl⟩, ⟨by have := hA.depth; show A.depth + 1 + 4 * n + 6 < _; omega, by have := hA.units; show A.units + 3 + 20 * n + 110 < _; omega⟩, hh', F.kind, F.glob, F.bi, fun x k q => .inl q, fun x q => q.elim (kc x) fun z => absurd z (kf x)⟩ (by intro z; cases z) ⟨R.quiet (Pv := noPv) (fun b ob e _ => keep b ob e) fun _ z => z.elim, fr⟩ h
  refine wpAny_mono (hq.elim (fun q => hs true (fun _ => q) F.chk) fun q => hs false (fun z => (Bool.false_ne_true z).elim) (F.chkq q)) (fun fl s' qq => qq.e fun W' σ' T qq => qq.e fun af hfr q => ?_) fun e s' x => ?_
  · have Tc' : Tc X W H s W' σ'.H s' := ⟨S0.transFresh T.stp fun b hb => .inl (pvN b hb), T.at_.rel, ⟨T.rest.gens, T.rest.drawn, T.rest.os⟩⟩
    cases hfr with
    | ret hr => exact ⟨W', σ'.H, _, Tc', hr, q⟩
    | _ => exact ⟨W', σ'.H, _, Tc', .none, q⟩
  · obtain ⟨W', σ', i, l, k', T, rfl, hl, hg, fl, hE⟩ := x
    obtain ⟨c, o, vs', hc, _, ho, hcls, hdd, _⟩ := T.at_.rel.at_ hg hl
    unfold leaving
    refine wpAny_bind (seen_ok (h₀ := h₁) (cls := .ref c) T.at_.rel T.stp.there hfr' rfl T.at_.fr.frs fl (fun oe q => by rw [ho] at q; cases q; exact hcls) fun h' aft => ?_)
    exact ⟨W', σ'.H, i, l, k', ⟨S0.transFresh (aft.stp T.stp ⟨i, _, l, hg, hl, .inl rfl⟩) fun b hb => .inl (pvN b hb), aft.rel T.at_.rel hg hl rfl hc rfl T.at_.fr.frs, ⟨T.rest.gens, T.rest.drawn, T.rest.os⟩⟩, rfl, hl, hg, aft.fly.back fun a o q => ⟨o, keep a o q⟩, hE⟩
end
theorem call_zero : CallM X 0 := fun A k a as vs W H s Q E hA hq hst R hv ha h => h.elim
end
end Mine

end

section
set_option autoImplicit false
set_option linter.all false
set_option genSizeOf false
set_option genInjectivity false
namespace Mine
open PySem PySem.W PySem.Calls PyProof.Rows

/-- a def that a class names -/
inductive FnIs (X : Cx) (K : Frag) (c : Addr) (x : Str) (f : Nat) : Prop
  | mk (a : Addr) (ha : X.fnA f = some a) (hf : findIn K (.ref c) x = some (some (.ref a))) (ht : typeIn K (.ref a) = some (.type "function"))
/-- a class of the text's -/
structure ClAt (X : Cx) (K : Frag) (c : Addr) (cl : Cl) : Prop where
  mks : makesIn K c = true
  ga : findIn K (.ref c) "__getattribute__" = some (some (.builtin "object.__getattribute__"))
  gh : findIn K (.ref c) "__getattr__" = some none
  sa : findIn K (.ref c) "__setattr__" = some (some (.builtin "object.__setattr__"))
  po : plainOver K c = true
  hd : hasDictIn K c = true
  kp : keepIn K (.ref c) = true
  init : ∀ f, cl.init = some f → FnIs X K c "__init__" f
  meth : ∀ n f, lk cl.meths n = some f → FnIs X K c (X.nm n) f
  attr : ∀ n, n ∈ cl.attrs → findIn K (.ref c) (X.nm n) = some none
  dis : ∀ n f, lk cl.meths n = some f → n ∉ cl.attrs
/-- the classes that are made -/
structure ClsOk (X : Cx) (K : Frag) : Prop where
  inn : K.In X.hb
  cls : ∀ k c cl, X.clA k = some c → X.P.cls k = some cl → ClAt X K c cl

theorem lk_cons {α : Type} {i n : Nat} {x : α} {r : List (Nat × α)} {G : Prop} {o : Option α} (h : lk ((i, x) :: r) n = o) (g1 : i = n → o = some x → G) (g2 : i ≠ n → lk r n = o → G) : G := by
  have h : cond (Nat.beq i n) (some x) (lk r n) = o := h
  cases e : Nat.beq i n with
  | true => rw [e] at h; exact g1 (Nat.eq_of_beq_eq_true e) h.symm
  | false => rw [e] at h; exact g2 (Nat.ne_of_beq_eq_false e) h
theorem lk_in {α : Type} {l : List (Nat × α)} {i : Nat} {v : α} (h : lk l i = some v) : (i, v) ∈ l := by
  induction l with
  | nil => cases h
  | cons p r ih =>
    obtain ⟨j, u⟩ := p
    exact lk_cons h (fun e q => by cases q; subst e; exact .head _) fun _ q => .tail _ (ih q)
theorem st_cons {i n : Nat} {x y : V} {r : List (Nat × V)} {P : List (Nat × V) → Prop} (g1 : i = n → P ((i, x) :: r)) (g2 : i ≠ n → P ((i, y) :: st r n x)) : P (st ((i, y) :: r) n x) := by
  show P (cond (Nat.beq i n) ((i, x) :: r) ((i, y) :: st r n x))
  cases e : Nat.beq i n with
  | true => exact g1 (Nat.eq_of_beq_eq_true e)
  | false => exact g2 (Nat.ne_of_beq_eq_false e)
theorem st_len (n : Nat) (x : V) (fs : List (Nat × V)) : (st fs n x).length ≤ fs.length + 1 := by
  induction fs with
  | nil => exact Nat.le_refl _
  | cons p r ih =>
    obtain ⟨i, y⟩ := p
    exact st_cons (P := fun l => l.length ≤ ((i, y) :: r).length + 1) (fun _ => Nat.le_succ _) fun _ => Nat.succ_le_succ ih
theorem st_mem {n : Nat} {x : V} {fs : List (Nat × V)} {p : Nat × V} : p ∈ st fs n x → p.1 = n ∨ ∃ q ∈ fs, q.1 = p.1 := by
  induction fs with
  | nil => exact fun h => by cases List.mem_singleton.mp h; exact .inl rfl
  | cons q r ih =>
    obtain ⟨i, y⟩ := q
    refine st_cons (P := fun l => p ∈ l → p.1 = n ∨ ∃ q ∈ (i, y) :: r, q.1 = p.1) (fun e h => ?_) fun _ h => ?_
    · rcases List.mem_cons.mp h with rfl | h
      · exact .inl e
      · exact .inr ⟨p, .tail _ h, rfl⟩
    · rcases List.mem_cons.mp h with rfl | h
      · exact .inr ⟨_, .head _, rfl⟩
      · exact (ih h).imp id fun ⟨q, hq, e⟩ => ⟨q, .tail _ hq, e⟩
section
variable {X : Cx} {K : Frag} {W : Wd}
theorem str_yes {x : Str} {t : Tok} : (Value.str x t).isStr x = true := beq_self_eq_true x
theorem str_no {x y : Str} {t : Tok} (h : x ≠ y) : (Value.str x t).isStr y = false := beq_eq_false_iff_ne.mpr h
inductive Fnd (X : Cx) (W : Wd) (es : List DictEntry) (y : Str) (x : V) : Prop
  | mk (e : DictEntry) (h : es.find? (fun d => d.key.isStr y) = some e) (r : VR X W e.val x)
theorem FVs.find {n : Nat} (inj : ∀ i j, X.nm i = X.nm j → i = j) {es : List DictEntry} {fs : List (Nat × V)} (h : FVs X W es fs) : (∀ x, lk fs n = some x → Fnd X W es (X.nm n) x) ∧ (lk fs n = none → es.find? (fun d => d.key.isStr (X.nm n)) = none) := by
  induction h with
  | nil => exact ⟨fun _ e => by (cases e), fun _ => rfl⟩
  | @cons i hh t v x es fs a r ih =>
    refine ⟨fun y e => lk_cons e (fun q z => ?_) fun q z => ?_, fun e => lk_cons e (fun q z => by cases z) fun q z => ?_⟩
    · cases z; subst q; exact ⟨_, by rw [List.find?_cons, str_yes], a⟩
    · obtain ⟨en, he, r⟩ := ih.1 y z
      exact ⟨en, by rw [List.find?_cons, str_no fun w => q (inj _ _ w)]; exact he, r⟩
    · rw [List.find?_cons, str_no fun w => q (inj _ _ w)]; exact ih.2 z
theorem FVs.noRef {es : List DictEntry} {fs : List (Nat × V)} (h : FVs X W es fs) : es.any (·.refKey) = false := by
  induction h with
  | nil => rfl
  | cons a r ih => rw [List.any_cons, ih]; rfl
theorem FVs.put {n : Nat} {hsh : Int} {t : Tok} {v : Value} {x : V} (inj : ∀ i j, X.nm i = X.nm j → i = j) (hv : VR X W v x) {es : List DictEntry} {fs : List (Nat × V)} (h : FVs X W es fs) : FVs X W (putL (X.nm n) hsh (.str (X.nm n) t) v es) (st fs n x) := by
  induction h with
  | nil => exact .cons hv .nil
  | @cons i hh t' v' x' es fs a r ih =>
    refine st_cons (P := FVs X W (putL (X.nm n) hsh (.str (X.nm n) t) v (⟨hh, .str (X.nm i) t', v'⟩ :: es))) (fun q => ?_) fun q => ?_
    · subst q
      rw [putL, if_pos str_yes]; exact .cons hv r
    · rw [putL, if_neg (fun z => by rw [str_no fun w => q (inj _ _ w)] at z; cases z)]; exact .cons a ih
theorem FVs.len {es : List DictEntry} {fs : List (Nat × V)} (h : FVs X W es fs) : es.length = fs.length := by
  induction h with
  | nil => rfl
  | cons a r ih => exact congrArg (· + 1) ih

/-- what is known of an object of the text's -/
structure Inst (X : Cx) (K : Frag) (W : Wd) (h : Heap) (l : Addr × Addr) (k : Nat) (fs : List (Nat × V)) (c : Addr) (cl : Cl) (es : Array DictEntry) (n : Nat) : Prop where
  ca : X.clA k = some c
  cl_ : X.P.cls k = some cl
  ob : h.get? l.1 = some (instO c l.2)
  dc : h.get? l.2 = some (dictO es n)
  fv : FVs X W es.toList fs
  ne : l.2 ≠ l.1
  at_ : ∀ p ∈ fs, p.1 ∈ cl.attrs
  sz : fs.length ≤ 1000
  ok : ClAt X K c cl
  inn : K.In h
theorem Inst.of {H : Hp} {h : Heap} {i : Nat} {l : Addr × Addr} {k : Nat} {fs : List (Nat × V)} (C : ClsOk X K) (R : RelH X W H h) (hi : H.get i = some (.inst k fs)) (hl : W.φ i = some l) {G : Prop} (g : ∀ c cl es n, Inst X K W h l k fs c cl es n → G) : G := by
  obtain ⟨c, cl, es, n, a, a', b, d, f, ne, gg, z⟩ := R.at_ hi hl
  exact g c cl es n ⟨a, a', b, d, f, ne, gg, z, C.cls _ _ _ a a', fun x o q => R.bkeep x o (C.inn x o q)⟩
theorem Inst.inst {h : Heap} {l : Addr × Addr} {k : Nat} {fs : List (Nat × V)} {c : Addr} {cl : Cl} {es : Array DictEntry} {n : Nat} (I : Inst X K W h l k fs c cl es n) : InstAt h l.1 (instO c l.2) c (some (dictO es n)) := ⟨I.ob, rfl, rfl, I.dc⟩
theorem bval_handed (b : B) : handedIn (bval b) = true := by cases b <;> decide +kernel
theorem handed {v : Value} {x : V} (h : VR X W v x) : handedIn v = true := by
  cases h with
  | bt b => exact bval_handed b
  | _ => rfl

section
variable {A : Around} {H : Hp} {s : Shared} {E : Value → Shared → Prop} {l : Addr × Addr} {k : Nat} {fs : List (Nat × V)} {c : Addr} {cl : Cl} {es : Array DictEntry} {n : Nat} (inj : ∀ i j, X.nm i = X.nm j → i = j) (I : Inst X K W s.heap l k fs c cl es n)
include inj I
/-- reading a thing of an object's own -/
theorem get_ok {m : Nat} {x : V} {ex : Bool} {Q : Value → Shared → Prop} (e : lk fs m = some x)
    (h : ∀ v, VR X W v x → Q v { s with toks := s.toks + 1 }) : wpAny (model X.prog X.w) A (getAttr (.ref l.1) (X.nm m) ex) Q E s := by
  obtain ⟨en, he, hv⟩ := (I.fv.find inj (n := m)).1 x e
  have hl : lookIn (X.nm m) (dictO es n) = some (some en.val) := by
    unfold lookIn
    simp only [he]
  exact get_value I.inn I.inst I.ok.ga (findObj_own I.ok.hd (I.ok.attr m (I.at_ _ (lk_in e))) rfl hl) (handed hv) (h _ hv)
theorem none_ok {m : Nat} (e : lk fs m = none) : lookIn (X.nm m) (dictO es n) = some none := by
  unfold lookIn
  simp only [(I.fv.find inj (n := m)).2 e, I.fv.noRef]
  rfl
/-- a method of the class -/
theorem meth_ok {m f : Nat} {pl : Sem Bool} {Q : Value × List Value → Shared → Prop} (e : lk cl.meths m = some f)
    (h : ∀ a, X.fnA f = some a → Q (.ref a, [.ref l.1]) s) : wpAny (model X.prog X.w) A (getMethod (.ref l.1) (X.nm m) pl) Q E s := by
  obtain ⟨a, ha, hf, ht⟩ := I.ok.meth m f e
  have hn : lk fs m = none := by
    cases q : lk fs m with
    | none => rfl
    | some x => exact absurd (I.at_ _ (lk_in q)) (I.ok.dis m f e)
  exact method_fn I.inn I.inst I.ok.ga I.ok.gh hf ht (by show (lookIn _ _).map _ = _; rw [none_ok inj I hn]; rfl) (h a ha)
/-- storing a thing of an object's own -/
theorem osa_ok {m : Nat} {v : Value} {x : V} {tk : Tok} {R : Result → Shared → Prop} (hm : m ∈ cl.attrs) (hz : fs.length < 1000) (hv : VR X W v x)
    (h : ∀ h' es' n', h'.get? l.2 = some (dictO es' n') → FVs X W es'.toList (st fs m x) → Heap.SameBut l.2 s.heap h' → R (.ok (.ret .none)) { s with heap := h', toks := s.toks + 1 }) :
    codeAny (model X.prog X.w) A (.call (.builtin "object.__setattr__") ⟨[.ref l.1, .str (X.nm m) tk, v], []⟩) R s := by
  have fi := I.ok.attr m hm
  refine osa_open I.inn I.inst I.ok.po (r := none) (by unfold takerIn; rw [fi]; rfl) fun b => ?_
  obtain ⟨cd, hc, hd'⟩ := any_some I.ok.hd
  refine wpAny_bind (wpAny_pure (wpAny_bind (wpAny_bind (wpAny_loadPart I.ob (wpAny_bind ((looks_clsIn I.inn hc).here ?_))))))
  rw [hd']
  refine wpAny_pure (a := some l.2) (wpAny_bind (wpAny_pure (wpAny_bind ?_)))
  unfold nsSet
  refine wpAny_bind (wpAny_bind (wpAny_askSetting (wpAny_pure (wpAny_bind (wpAny_mkText (wpAny_bind (wpAny_loadPart I.dc ?_)))))))
  dsimp only
  have c0 : (!es.any (·.key.isStr (X.nm m)) && es.any (·.refKey)) = false := by
    rw [← Array.any_toList (p := fun d : DictEntry => d.refKey), I.fv.noRef, Bool.and_false]
  rw [aRefKeyMayBeTheName_at, c0]
  have P := putName_dict (X.nm m) (PyData.keyHash X.w.params (X.nm m)) (.str (X.nm m) s.toks) v es.toList n
  have F := I.fv.put inj hv (n := m) (hsh := PyData.keyHash X.w.params (X.nm m)) (t := s.toks)
  have e0 : dictOf es.toList n = dictO es n := rfl
  rw [e0] at P
  have D' : (s.heap.update l.2 (Obj.putName (X.nm m) (PyData.keyHash X.w.params (X.nm m)) (.str (X.nm m) s.toks) v)).get? l.2 = some (dictO (putL (X.nm m) (PyData.keyHash X.w.params (X.nm m)) (.str (X.nm m) s.toks) v es.toList).toArray (putN (X.nm m) es.toList n)) := by
    rw [Heap.get?_update_self _ I.dc (by rw [P]; rfl), P]
  refine wpAny_updatePart I.dc ?_
  refine wpAny_bind (wpAny_lookBehind D' (pastItsLine_dict ?_) ?_)
  · rw [List.size_toArray, F.len, sizeLine_eq]
    have := st_len m x fs; omega
  · exact wpAny_pure (h _ _ _ D' F ⟨Heap.size_update _ _ _, fun b hb => Heap.get?_update_other _ _ (Ne.symm hb)⟩)
theorem set_ok {i m : Nat} {v : Value} {x : V} {Q : Unit → Shared → Prop} (R : RelH X W H s.heap) (hi : H.get i = some (.inst k fs)) (hl : W.φ i = some l) (hm : m ∈ cl.attrs) (hz : fs.length < 1000) (hv : VR X W v x)
    (h : ∀ s', Tc X W H s W (H.set i (.inst k (st fs m x))) s' → Q () s') : wpAny (model X.prog X.w) A (setAttr (.ref l.1) (X.nm m) v) Q E s := by
  refine set_plain I.inn I.inst I.ok.sa (osa_ok (s := { s with toks := s.toks + 1 }) inj ⟨I.ca, I.cl_, I.ob, I.dc, I.fv, I.ne, I.at_, I.sz, I.ok, I.inn⟩ hm hz hv fun h' es' n' hd hf hs => ?_)
  obtain ⟨r, t⟩ := R.upd (h' := h') (c' := .inst k (st fs m x)) hi hl (fun b ob e _ n2 => (hs.2 b n2).trans e)
    ⟨c, cl, es', n', I.ca, I.cl_, (hs.2 _ (Ne.symm I.ne)).trans I.ob, hd, hf, I.ne, fun p hp => (st_mem hp).elim (fun e => e ▸ hm) fun ⟨q, hq, e⟩ => e ▸ I.at_ q hq, Nat.le_trans (st_len m x fs) hz⟩
  exact h _ ⟨t, r, ⟨rfl, rfl, rfl⟩⟩
end
/-- an object, of the text's -/
theorem inst_e {H : Hp} {cf : Value} {g : V} {k : Nat → Nat → List (Nat × V) → Prop} {G : Prop} (hg : VR X W cf g) (h : instK H g k) (q : ∀ i (l : Addr × Addr) (t : Nat × List (Nat × V)), cf = .ref l.1 → W.φ i = some l → H.get i = some (.inst t.1 t.2) → k i t.1 t.2 → g = .ref i → G) : G :=
  need_e h fun i ei h => need_e h fun t et h => aRef_e hg ei fun l e hl eg => q i l t e hl (cI_e et) h eg
theorem snd_attr {n : Nat} {sc : Sc} (K0 : CxOk X) (C : ClsOk X K) {e : PE} {m : Nat} {v : Expr} {pos : Pos} (he : SE X n sc e v) (hs : notSuper v = true) : SE X n sc (.attr e m) (.Attribute v (X.nm m) pos) := by
  intro A env Pv W σ s Q E ok at_ h
  rw [arm_eval_Attribute, base_plain hs]
  refine he.bind ok at_ h fun cf W₁ σ₁ s₁ g at₁ _ hg h₁ => Ew.standAt (inst_e hg h₁ fun i l t e hl hi h₁ _ => need_e h₁ fun x hx hq => Inst.of C at₁.rel hi hl fun c cl es k' I => ?_)
  subst e
  exact wpAny_bind (wpAny_holding (get_ok K0.inj I hx fun v hv => wpAny_bind (wpAny_letTemporaryGo (wpAny_pure (at₁.val hv hq)))))
end
end Mine

end

section
set_option autoImplicit false
set_option linter.all false
set_option genSizeOf false
set_option genInjectivity false
namespace Mine
open PySem PySem.W PySem.Calls PyProof.Rows

section
variable {X : Cx} {K : Frag} {n : Nat} {sc : Sc}

theorem under_type {A : Around} {n : Nat} {c : Addr} {rest : List Value} {kw : List (Str × Value)} (h : AOk2 A n) : AOk (A.under (.builtin "type.__call__" ⟨.ref c :: rest, kw⟩)) n := by
  have h1 := h.depth
  have h2 := h.units
  refine ⟨?_, ?_⟩
  · show A.depth + (Code.builtin "type.__call__" ⟨.ref c :: rest, kw⟩).weight + 4 * n + 4 < _
    rw [show (Code.builtin "type.__call__" ⟨.ref c :: rest, kw⟩).weight = 1 from rfl]; omega
  · show A.units + (Code.builtin "type.__call__" ⟨.ref c :: rest, kw⟩).cUnits + 20 * n + 100 < _
    rw [show (Code.builtin "type.__call__" ⟨.ref c :: rest, kw⟩).cUnits = 1 from rfl]; omega
theorem under_frames {A : Around} {c : Addr} {rest : List Value} {kw : List (Str × Value)} {l : List Env} (h : A.frames = some l) : (A.under (.builtin "type.__call__" ⟨.ref c :: rest, kw⟩)).frames = some l := by
  show pushEnvs (Code.envs (.builtin "type.__call__" ⟨.ref c :: rest, kw⟩)) A.frames = _
  rw [show Code.envs (.builtin "type.__call__" ⟨.ref c :: rest, kw⟩) = [] from rfl, h]; rfl

/-- a method of the text's is called -/
theorem meth_case (K0 : CxOk X) (C : ClsOk X K) (hK : CallM X n) {fz : Bool} {m : Nat} {as : PEs} {v : Expr} {ap pos : Pos} {vs : List Expr} (has : SEs X n sc as vs) (hlen : vs.length ≤ 20) (hline : (ap.endLine == pos.line) = true) (hap : (sc.hd || Nat.beq m X.P.nAppend) = true)
    (A : Around) (env : Env) (Pv : Pr) (W : Wd) (σ : St) (s : Shared) (Q : V → St → Prop) (E : EP) (i : Nat) (l : Addr × Addr) (k : Nat) (fs : List (Nat × V)) (ok : EnvOk X A env Pv n sc) (at_ : At X env Pv W σ s) (hl : W.φ i = some l) (hgi : σ.H.get i = some (.inst k fs))
    (h : need (X.P.cls k) fun c => need (lk c.meths m) fun f => wpEs X.P (CW X.P n) E as σ fun vs σ₂ => callF X.P (CW X.P n) E fz σ₂ (.fn f) (.ref i :: vs) Q) :
    Ew X A env Pv (mcall X env m v ap pos vs l.1) W σ s (VQ X Q) E := by
  refine need_e h fun cl hcl h => need_e h fun f hf hw => Inst.of C at_.rel hgi hl fun c cl' es k' I => ?_
  cases Option.some.inj (I.cl_.symm.trans hcl)
  have hpos : methodCallPos true v env ap pos = pure pos := by unfold methodCallPos; simp [hline]
  have hh : A.handled = none := by
    cases e : sc.hd with
    | true => exact ok.hh e
    | false => rw [e] at hap; rw [Nat.eq_of_beq_eq_true hap, K0.apC _ _ hcl] at hf; cases hf
  unfold mcall methodCall
  rw [form_plain hlen]
  refine wpAny_bind (wpAny_holding (meth_ok K0.inj I hf fun a ha => wpAny_bind (wpAny_of_eq hpos ?_)))
  obtain ⟨o, fd, ho, hd⟩ := K0.fnAt _ _ ha
  exact callWith_function (o := o) (fd := fd) (args_then has ok at_ hw fun cvs avs W' σ' s' T hv hq => ⟨⟨T.at_.rel.bkeep _ _ ho, hd⟩, fn_call hK T ok.ok.call (.inl hh) ok.stk (cvs := .ref l.1 :: cvs) (.cons (.ref (T.stp.le.ff _ _ hl)) hv) ha hq⟩)

/-- a new object of the text's -/
theorem make_ok (K0 : CxOk X) (C : ClsOk X K) (hK : CallM X n) {A : Around} {env : Env} {Pv : Pr} {W : Wd} {σ : St} {s : Shared} {E : EP} {fz : Bool} {k : Nat} {c : Addr} {cvs : List Value} {avs : List V} {Q : V → St → Prop} (ok : AOk2 A n) (hhd : A.handled = none) (hst : A.frames = some Pv.st) (at_ : At X env Pv W σ s) (hv : VRs X W cvs avs) (hc : X.clA k = some c)
    (h : callF X.P (CW X.P n) E fz σ (.cls k) avs Q) :
    wpAny (model X.prog X.w) A (call (.ref c) cvs []) (Go X env Pv W σ s (VQ X Q)) (EX X env Pv W σ s E) s := by
  refine need_e h fun cl hcl h => need_e h fun f hf h => ?_
  have O := C.cls k c cl hc hcl
  obtain ⟨a, ha, hfi, hft⟩ := O.init f hf
  have inn : K.In s.heap := fun x o q => at_.rel.bkeep x o (C.inn x o q)
  obtain ⟨hh, g, d, t, os⟩ := s
  have R : RelH X W σ.H hh := at_.rel
  refine wpAny_call (make_core (makes_of inn O.mks) (looks_findIn inn hfi) (fun self => bind_fn inn self hft) (.inl rfl) ?_)
  have k1 : ∀ b o, hh.get? b = some o → ((hh.push emptyDict).push (instObj c hh.objs.size)).get? b = some o := fun b o e => Heap.get?_push_of_some _ (Heap.get?_push_of_some _ e)
  have g1 : ((hh.push emptyDict).push (instObj c hh.objs.size)).get? (hh.objs.size + 1) = some (instObj c hh.objs.size) := by
    have := Heap.get?_push_size (hh.push emptyDict) (o := instObj c hh.objs.size) rfl
    rwa [Heap.size_push] at this
  obtain ⟨r, t1⟩ := R.fresh (l := (hh.objs.size + 1, hh.objs.size)) (c := .inst k []) k1 (Heap.get?_none_of_le (Nat.le_succ _)) (push_none _)
    ⟨c, cl, #[], 0, hc, hcl, g1, Heap.get?_push_of_some _ (Heap.get?_push_size _ rfl), .nil, Nat.ne_of_lt (Nat.lt_succ_self _), fun _ q => (List.not_mem_nil q).elim, Nat.zero_le _⟩
  have T : Tc X W σ.H ⟨hh, g, d, t, os⟩ (W.addφ σ.H.next (hh.objs.size + 1, hh.objs.size)) (σ.H.new (.inst k [])) ⟨(hh.push emptyDict).push (instObj c hh.objs.size), g, d, t, os⟩ := ⟨t1, r, ⟨rfl, rfl, rfl⟩⟩
  have e : (W.addφ σ.H.next (hh.objs.size + 1, hh.objs.size)).φ σ.H.next = some (hh.objs.size + 1, hh.objs.size) := addφ_self
  refine codeAny_mono (hK _ f a (.ref σ.H.next :: avs) (.ref (hh.objs.size + 1) :: cvs) _ _ _ _ _ (under_type ok) (.inl hhd) ⟨_, under_frames hst, fun e he => (at_.fr.frs e he).keep fun L o es n x1 x2 x3 x4 x5 => ⟨⟨o, es, n, k1 _ _ x2, x3⟩, t1.own L o x2 x4, x5⟩⟩ r (.cons (VR.ref e) (hv.le t1.le)) ha h) fun rr s' hr => ?_
  cases rr with
  | ok fl =>
    cases fl with
    | ret v =>
      obtain ⟨W', H', av, T', hv', q⟩ := hr
      cases vNone q.1
      cases hv'
      exact ⟨rfl, W', ⟨H', σ.loc⟩, (T.trans T').tf at_, _, VR.ref (T'.stp.le.ff _ _ e), q.2⟩
    | _ => exact hr.elim
  | error e =>
    obtain ⟨W', H', i, l, k', T', he, hl, hg, hf, hE⟩ := hr
    exact ⟨W', ⟨H', σ.loc⟩, i, l, k', (T.trans T').tf at_, he, hl, hg, hf.back fun a o q => ⟨o, k1 a o q⟩, hE⟩
theorem MayQ.cls {A : Around} {k : Nat} (h : MayQ X A (.cls k)) : A.handled = none := h.elim id fun q => by cases q
theorem snd_call1 (K0 : CxOk X) (C : ClsOk X K) (hK : CallM X n) {c : Ck} {fz : Bool} {f : PE} {as : PEs} {x : Str} {p : Pos} {vs : List Expr} {pos : Pos} (hf : SE X n sc f (.Name x p)) (hq : (sc.hd || qGlob X.ck f) = true) (has : SEs X n sc as vs) (hc : chkEs c sc as vs = true) : SE X n sc (.call fz f as) (.Call (.Name x p) vs [] pos) := by
  intro A env Pv W σ s Q E ok at_ h
  rw [eval_Call_Name, back_plain hc]
  refine call_head K0 hf hq ok at_ h fun cf W₁ σ₁ s₁ g at₁ hg hq h₁ => call_rest K0 hK ok at₁ has hg hq h₁ fun k a e e' ha => ?_
  subst e e'
  cases hcl : X.P.cls k with
  | none => exact callW_fail (args_then has ok at₁ h₁ fun cvs avs W' σ' s' T hv hq' => need_e (o := X.P.cls k) hq' fun cl e _ => by rw [hcl] at e; cases e)
  | some cl => exact callWith_of (P := K.In) (by rw [plain_any]; rfl) (keeps_K (C.cls _ _ _ ha hcl).kp) (args_then has ok at₁ h₁ fun cvs avs W' σ' s' T hv hq' => ⟨fun x o q => T.at_.rel.bkeep x o (C.inn x o q),
      wpAny_mono (make_ok K0 C hK ok.ok hq.cls ok.stk T.at_ hv ha hq') (fun v s'' q => Go.from T q) fun _ _ x => x.back T⟩)
end
end Mine

end

section
set_option autoImplicit false
set_option linter.all false
set_option genSizeOf false
set_option genInjectivity false
namespace Mine
open PySem PySem.W PySem.Calls PyProof.Rows

section
variable {X : Cx} {K : Frag} {n : Nat} {sc : Sc}

theorem swaps_attr {x o : Expr} {a : Str} {p : Pos} {l : Nat} {env : Env} : swapsWith x (some (.Attribute o a p)) l env = pure false := by
  cases x <;> rfl
/-- a thing stored in an object -/
theorem put_attr (K0 : CxOk X) (C : ClsOk X K) {A : Around} {env : Env} {Pv : Pr} {W : Wd} {σ : St} {s : Shared} {Ex : Value → Shared → Prop} {ov v : Value} {g x : V} {m : Nat} {Q : Unit → Shared → Prop} {q : St → Prop} (at_ : At X env Pv W σ s) (ho : VR X W ov g) (hv : VR X W v x)
    (h : putA X.P g m x σ q) (hq : ∀ W' σ' s', Tf X env Pv W σ s W' σ' s' → q σ' → Q () s') : wpAny (model X.prog X.w) A (setAttr ov (X.nm m) v) Q Ex s :=
  inst_e ho h fun i l t e hl hi h _ => need_e h fun cl hcl h => Inst.of C at_.rel hi hl fun c cl' es k' I => by
    subst e
    cases Option.some.inj (I.cl_.symm.trans hcl)
    exact set_ok K0.inj I at_.rel hi hl (List.contains_iff_mem.mp h.1) h.2.1 hv fun s' T => hq _ ⟨_, σ.loc⟩ _ (T.tf at_) h.2.2
theorem snd_assign_attr (K0 : CxOk X) (C : ClsOk X K) {o e : PE} {m : Nat} {v x : Expr} {p pos : Pos} (he : SE X n sc e x) (ho : SE X n sc o v) : S1 X n sc (.assign (.attr o m) e) (.Assign [.Attribute v (X.nm m) p] x pos) := fun A env Pv W σ s Q E ok hf at_ h =>
  plainObj_wpAny_Assign_Attribute (he.post ok at_ h fun cv W₁ σ₁ s₁ x T₁ hv h₁ => wpAny_mono (ho.post ok T₁.at_ h₁ fun ov W₂ σ₂ s₂ g T₂ hg h₂ =>
    put_attr K0 C (Q := fun _ s' => Go X env Pv W σ s (FQ X Q) PySem.Flow.next s') (Ex := EX X env Pv W σ s E) T₂.at_ hg (hv.le T₂.stp.le) h₂ fun W' σ' s' T hq => ((T₁.trans T₂).trans T).flow .next hq) (fun _ _ q => q) fun _ _ y => y.back T₁) swaps_attr
theorem aug_ok {A : Around} {W : Wd} {s : Shared} {E : Value → Shared → Prop} {op : BOp} {a b : Value} {x y : V} {k : V → Prop} {Q : Value → Shared → Prop} (ha : VR X W a x) (hb : VR X W b y) (h : augK op x y k)
    (hq : ∀ v z tk, VR X W v z → k z → Q v { s with toks := tk }) : wpAny (model X.prog X.w) A (inplaceOp (opOf op) a b) Q E s := by
  cases op with
  | add =>
    refine need_e h fun i ei h => need_e h fun j ej h => aInt_of ha ei fun t e => aInt_of hb ej fun u e' => ?_
    subst e e'; exact PyProof.Rows.iadd_int (hq _ _ _ (.int _ _) h)
  | _ => exact h.elim
theorem snd_aug_loc (K0 : CxOk X) {i : Nat} {op : BOp} {e : PE} {x : Expr} {p pos : Pos} (he : SE X n sc e x) (hk : kStore sc (X.nm i) = true) (hl : kLoc sc (X.nm i) = true) (hd : nDbg (X.nm i) = true) : S1 X n sc (.augLoc i op e) (.AugAssign (.Name (X.nm i) p) (opOf op) x pos) := fun A env Pv W σ s Q E ok hf at_ h =>
  need_e h fun x ev h₁ => wpAny_AugAssign_Name (load_loc ok at_ hl hd ev fun a hx => he.post ok at_ h₁ fun b W₂ σ₂ s₂ y T₂ hy h₂ =>
    aug_ok (hx.le T₂.stp.le) hy h₂ fun v z tk hv hq => store_ok K0 ok hf (T₂.at_.toks (tk := tk)) hk hv fun s'' T' => ((T₂.trans (T₂.at_.tf (tk := tk))).trans T').flow .next hq)
theorem snd_aug_attr (K0 : CxOk X) (C : ClsOk X K) {o e : PE} {m : Nat} {op : BOp} {v x : Expr} {p pos : Pos} (he : SE X n sc e x) (ho : SE X n sc o v) : S1 X n sc (.augAttr o m op e) (.AugAssign (.Attribute v (X.nm m) p) (opOf op) x pos) := fun A env Pv W σ s Q E ok hf at_ h =>
  wpAny_AugAssign_AttributeAny (ho.post ok at_ h fun ov W₁ σ₁ s₁ g T₁ hg h₁ => inst_e hg h₁ fun i l t e hl hi h₁ eg => need_e h₁ fun x hx h₁ => Inst.of C T₁.at_.rel hi hl fun c cl es k' I => by
    subst e
    refine get_ok K0.inj I hx fun a ha => ?_
    have T₂ := T₁.trans (T₁.at_.tf (tk := s₁.toks + 1))
    refine wpAny_mono (he.post ok T₂.at_ h₁ fun b W₃ σ₃ s₃ y T₃ hy h₃ => aug_ok (Q := fun v s' => wpAny (model X.prog X.w) A (setAttr (.ref l.1) (X.nm m) v) (fun _ s' => Go X env Pv W σ s (FQ X Q) PySem.Flow.next s') (EX X env Pv W σ s E) s') (ha.le T₃.stp.le) hy h₃ fun v z tk hv hq =>
      put_attr K0 C (T₃.at_.toks (tk := tk)) (hg.le T₃.stp.le) hv hq fun W' σ' s' T hq => (((T₂.trans T₃).trans (T₃.at_.tf (tk := tk))).trans T).flow .next hq) (fun _ _ q => q) fun _ _ y => y.back T₂)
end
end Mine

end

section
set_option autoImplicit false
set_option linter.all false
set_option genSizeOf false
set_option genInjectivity false
namespace Mine
open PySem PySem.W PySem.Calls PyProof.Rows

section
variable {X : Cx} {K : Frag} {n : Nat} {sc : Sc}
theorem vCls {v : V} {k : Nat} (h : aCls v = some k) : v = .cls k := by cases v <;> first | (cases h; rfl) | cases h
theorem cls_of {W : Wd} {cv : Value} {k : Nat} (h : VR X W cv (.cls k)) : ∃ c, cv = .ref c ∧ X.clA k = some c := by cases h with | cls q => exact ⟨_, rfl, q⟩
theorem chkG_e {i : Nat} {y : Str} {G : Prop} (h : chkG X.ck sc i y = true) (g : y = X.nm i → kGlob sc y = true → nDbg y = true → G) : G := and3_e h fun a b c => g (of_decide_eq_true a) b c
theorem new_exc {H : Hp} {c : C} : (H.new c).get H.next = some c := if_pos rfl

theorem snd_raise (K0 : CxOk X) {i : Nat} {e : PE} {y : Str} {x : Expr} {np cpos pos : Pos} (hy : chkG X.ck sc i y = true) (he : SE X n sc e x) (hc : chkE X.ck sc e x = true) (hhd : sc.hd = true) : S1 X n sc (.raise i e) (.Raise (some (.Call (.Name y np) [x] [] cpos)) none pos) := fun A env Pv W σ s Q E ok hf at_ h =>
  need_e h fun v hv h => need_e h fun k ek h => by
    cases vCls ek
    obtain ⟨hx, h⟩ := h
    have bp := back_plain (env := env) (pos := cpos) (p := .cons e .nil) (es := [x]) (show (chkE X.ck sc e x && true) = true by rw [hc]; rfl)
    refine chkG_e hy fun g1 g2 g3 => ?_
    have hcl : ∀ cv, (∀ W, VR X W cv (.cls k)) → ∃ c, cv = .ref c ∧ X.clA k = some c := fun cv q => cls_of (q W)
    obtain ⟨c, hck⟩ : ∃ c, X.clA k = some c := by cases K0.glob i _ hv with
      | main cv mg ng h r => exact (hcl cv r).elim fun c q => ⟨c, q.2⟩
      | bi cv mg mb ng nb h hb r => exact (hcl cv r).elim fun c q => ⟨c, q.2⟩
    obtain ⟨bm, N, nm, q, bs, hdct, sn, sub, ab, col, dd, k0, k1, k2, k3, k5, mN, hC, hN, hni, hT, hsub⟩ := K0.exc k c hck hx
    refine wpAny_Raise_call_subT (nm := nm) (q := q) (C := c) (N := N) (bs := bs) (hdct := hdct) (sn := sn) (sub := sub) (ab := ab) (col := col) (dd := dd) (k0 := k0) (k1 := k1) (k2 := k2) (k3 := k3) (k5 := k5) PySem.F.excBase_ValueError (hT.hasType (by decide)) (ok.hh hhd) (by rw [bp]; exact plain_any) hni (load_glob K0 ok at_ g1 g2 g3 hv fun cv hcv => ?_)
    obtain ⟨c', rfl, hc'⟩ := hcl cv hcv
    cases Option.some.inj (hc'.symm.trans hck)
    refine ⟨rfl, ?_⟩
    rw [bp]
    refine wpAny_mono (args_then (E := noE) (snd_es_cons he snd_es_nil) ok at_ (Qv := fun avs σ₂ => avs.length = 1 ∧ E σ₂.H.next (σ₂.setH (σ₂.H.new (.exc k)))) (wpE_post h) (Q := fun a s₂ => Go X env Pv W σ s (fun (a : Args) _ σ₂ _ => a.kw = [] ∧ a.pos.length = 1 ∧ E σ₂.H.next (σ₂.setH (σ₂.H.new (.exc k)))) a s₂) fun cvs avs W' σ' s' T hvs hq => ⟨W', σ', T, rfl, hvs.length.trans hq.1, hq.2⟩) (fun a s₂ qq => qq.e fun W₂ σ₂ T₂ qq => ?_) fun _ _ z => z.no.elim
    have kb := T₂.at_.rel.bkeep
    refine ⟨qq.1, by rw [qq.2.1, sizeLine_eq]; decide, kb _ _ hC, hN.keeps kb, hT.keeps kb, fun h' e hm => ?_⟩
    obtain ⟨t, m1, m2, m3⟩ := hm.there
    obtain ⟨r, st⟩ := T₂.at_.rel.fresh (l := (e, e)) (c := .exc k) hm.keeps hm.new hm.new ⟨c, _, _, hck, hx, m1, rfl, rfl, rfl⟩
    have Tc₃ : Tc X W₂ σ₂.H s₂ (W₂.addφ σ₂.H.next (e, e)) (σ₂.H.new (.exc k)) { s₂ with heap := h' } := ⟨st, r, ⟨rfl, rfl, rfl⟩⟩
    exact ⟨_, ⟨_, σ₂.loc⟩, σ₂.H.next, (e, e), k, T₂.trans (Tc₃.tf T₂.at_), rfl, addφ_self, new_exc, ⟨_, _, _, m1, rfl, rfl, .inl rfl⟩, qq.2.2⟩
where wpE_post {P : Prog} {K : CT} {E : EP} {e : PE} {σ : St} {Q : St → Prop} (h : wpE P K E e σ fun _ σ₁ => Q σ₁) : wpEs P K E (.cons e .nil) σ fun avs σ₂ => avs.length = 1 ∧ Q σ₂ := wpE_mono' h
      wpE_mono' {P : Prog} {K : CT} {E : EP} {e : PE} {σ : St} {Q : St → Prop} (h : wpE P K E e σ fun _ σ₁ => Q σ₁) : wpE P K E e σ fun v σ₁ => ([v] : List V).length = 1 ∧ Q σ₁ := by
        have : (fun (v : V) (σ₁ : St) => ([v] : List V).length = 1 ∧ Q σ₁) = fun _ σ₁ => Q σ₁ := by funext v σ₁; exact propext ⟨fun h => h.2, fun h => ⟨rfl, h⟩⟩
        rw [this]; exact h

/-- the class of an exception, seen from a class of the text's -/
theorem match_ok {A : Around} {E : Value → Shared → Prop} {W : Wd} {H : Hp} {s : Shared} {i j k : Nat} {l : Addr × Addr} {c' : Addr} {Q : Bool → Shared → Prop} (K0 : CxOk X) (R : RelH X W H s.heap) (hi : H.get i = some (.exc j)) (hl : W.φ i = some l) (hk : X.P.exc k = true) (hc' : X.clA k = some c') (hs : X.P.sub j k = true) (h : Q true s) :
    wpAny (model X.prog X.w) A (excMatches (.ref l.1) (.ref c')) Q E s := by
  obtain ⟨c, o, vs, hc, hj, he, hcls, hd, _⟩ := R.at_ hi hl
  obtain ⟨bm, N, nm, q, bs, hdct, sn, sub, ab, col, dd, k0, k1, k2, k3, k5, mN, hC, hN, hni, hT, hsub⟩ := K0.exc j c hc hj
  obtain ⟨bm', N', nm', q', bs', hdct', sn', sub', ab', col', dd', k0', k1', k2', k3', k5', mN', hC', hN', hni', hT', hsub'⟩ := K0.exc k c' hc' hk
  have gC := R.bkeep _ _ hC
  have gC' := R.bkeep _ _ hC'
  have hcB : (Value.ref c' :: bm').contains (.type "BaseException") = true := by rw [List.contains_cons, hT'.hasType (X := "BaseException") (b := true) (by decide), Bool.or_true]
  have hcC : (Value.ref c :: bm).contains (.ref c') = true := by rw [hsub k c' hc', hs]
  have f := tc_notTuple
  obtain ⟨hh, g, d, t, os⟩ := s
  unfold excMatches
  repeat (first | (with_reducible refine wpAny_loadPart_at he ?_; rw [hcls]) | with_reducible refine wpAny_loadPart_at gC' ?_ | (with_reducible refine wpAny_isSubtype_exc gC' ?_; rw [hcB]) | (with_reducible refine wpAny_isSubtype_exc gC ?_; rw [hcC]) | wp_step)
  exact h

/-- the name behind «as» goes -/
theorem FrR.unbind {W : Wd} {H : Hp} {h h' : Heap} {env : Env} {Pv : Pr} {loc : Loc} {i : Nat} {u : Option Value} {m : Str → Option Value} (F : FrR X W H h env Pv loc) (hn : h.Ns env.locals m)
    (hm : ∀ j v, loc j = some v → env.kindOf (X.nm j) = some .local → MmR X W m j v) (hinj : ∀ j, X.nm j = X.nm i → j = i)
    (hk : env.kindOf (X.nm i) = some .local) (hn' : h'.Ns env.locals (fun x => if x = X.nm i then u else m x)) (hs : Heap.SameBut env.locals h h') : FrR X W H h' env Pv (unb loc i) := by
  have key : ∀ j v, unb loc i j = some v → j ≠ i ∧ loc j = some v := fun j v e => by
    have e' : (if j = i then none else loc j) = some v := e
    by_cases hj : j = i
    · rw [if_pos hj] at e'; cases e'
    · rw [if_neg hj] at e'; exact ⟨hj, e'⟩
  refine ⟨⟨_, hn', fun j v e k => ?_⟩, fun j v e k => ?_, fun x ef e => ?_, F.cellEq, fun x c e => ?_, F.pvL, F.priv, fun a p => ?_, fun e he => (F.frs e he).keep fun L o es n a b c d f => ⟨?_, d, f⟩, F.frc⟩
  · obtain ⟨cu, q, r⟩ := hm j v (key j v e).2 k
    exact ⟨cu, by rw [if_neg fun z => (key j v e).1 (hinj j z)]; exact q, r⟩
  · obtain ⟨c, cu, q, r, t⟩ := F.cells j v (key j v e).2 k
    exact ⟨c, cu, q, r.sameBut hs (F.cellNs _ _ q).1, t⟩
  · obtain ⟨c, u, q, r, t⟩ := F.hasCell x ef e
    exact ⟨c, u, q, r.sameBut hs (F.cellNs _ _ q).1, t⟩
  · obtain ⟨a, b, o, q⟩ := F.cellNs x c e
    exact ⟨a, b, o, (hs.2 c a).trans q⟩
  · by_cases ha : a = env.locals
    · subst ha; obtain ⟨o, _, _, ho, _⟩ := hn'; exact ⟨o, ho⟩
    · obtain ⟨o, q⟩ := F.pvAt a p; exact ⟨o, (hs.2 a ha).trans q⟩
  · by_cases ha : L = env.locals
    · subst ha; obtain ⟨o', es', n', ho', hd', _⟩ := hn'; exact ⟨o', es', n', ho', hd'⟩
    · exact ⟨o, es, n, (hs.2 L ha).trans b, c⟩
theorem unbind_ok {A : Around} {env : Env} {Pv : Pr} {W : Wd} {σ : St} {s : Shared} {Ex : Value → Shared → Prop} {Q : Unit → Shared → Prop} {i : Nat} {v : V} {pos : Pos} (K0 : CxOk X) (ok : EnvOk X A env Pv n sc) (at_ : At X env Pv W σ s) (hk : env.kindOf (X.nm i) = some .local) (hv : σ.loc i = some v)
    (h : ∀ s', Tf X env Pv W σ s W ⟨σ.H, unb σ.loc i⟩ s' → Q () s') : wpAny (model X.prog X.w) A (unbindBehindTheSuite env (X.nm i) pos) Q Ex s := by
  obtain ⟨m, hn, hm⟩ := at_.fr.ns
  obtain ⟨cv, hcv, _⟩ := hm i v hv hk
  unfold unbindBehindTheSuite
  exact wpAny_onRaise (wpAny_unbindName_local hk hn hcv (fn_hp ok) fun h' u hn' hs => h _ (store_tf at_ at_.fr.pvL hs (hn'.elim fun o q => ⟨o, q.elim fun _ q => q.elim fun _ q => q.1⟩) (at_.fr.unbind hn hm (fun j q => K0.inj _ _ q) hk hn' hs)))
theorem unb_put {σ : St} {a : Nat} {v : V} : (⟨(σ.put a v).H, unb (σ.put a v).loc a⟩ : St) = ⟨σ.H, unb σ.loc a⟩ := by
  show (⟨σ.H, unb (upd σ.loc a v) a⟩ : St) = ⟨σ.H, unb σ.loc a⟩
  congr 1
  funext z
  show (if z = a then none else (if z = a then some v else σ.loc z)) = (if z = a then none else σ.loc z)
  by_cases hz : z = a
  · rw [if_pos hz, if_pos hz]
  · rw [if_neg hz, if_neg hz, if_neg hz]

/-- the handler's suite -/
theorem snd_suite (K0 : CxOk X) {A : Around} {env : Env} {Pv : Pr} {W W₁ : Wd} {σ σ₁ : St} {s s₂ : Shared} {Q : Flow → St → Prop} {E : EP} {h : PSs} {as : Option Nat} {b₀ : Stmt} {hs : List Stmt} {nm : Option Str} {hpos : Pos} {j : Nat} {l : Addr × Addr} {R : Result → Shared → Prop} (hh : SS X n ⟨sc.sc, false⟩ h (b₀ :: hs)) (has : asOk X.ck sc as nm = true) (ok : EnvOk X A env Pv n sc) (hf : env.func ≠ none) (hl : W₁.φ j = some l)
    (again : ∀ (Q' : Unit → Shared → Prop) (E' : Value → Shared → Prop), (∀ s₃, Tf X env Pv W σ s W₁ σ₁ s₃ → Q' () s₃) → wpAny (model X.prog X.w) (A.mark (some (.ref l.1))) (setFlight (.ref l.1) none) Q' E' s₂)
    (hw : wpSs X.P (CW X.P n) h (asPut as j σ₁) (fun fl σ₂ => Q fl (asUnb as σ₂)) noE) (hR : ∀ f s', (match nm with | none => Go X env Pv W σ s (FQ X Q) f s' | some n => wpAny (model X.prog X.w) A (do bindName env n Value.none; unbindBehindTheSuite env n hpos) (fun _ s₃ => Go X env Pv W σ s (FQ X Q) f s₃) (EX X env Pv W σ s E) s') → R (.ok f) s') :
    codeAny (model X.prog X.w) (A.mark (some (.ref l.1))) (.handlers (.ref l.1) [.ExceptHandler none nm (b₀ :: hs) hpos] env) R s₂ := by
  have okH : EnvOk X (A.mark (some (.ref l.1))) env Pv n ⟨sc.sc, false⟩ := ⟨ok.stk, ok.top, ⟨ok.ok.depth, ok.ok.units⟩, (fun z => (Bool.false_ne_true z).elim), ok.kind, ok.glob, ok.bi, ok.names, ok.cl⟩
  cases as with
  | none =>
    cases (x0_ok has : nm = none)
    exact codeAny_handlers_suite (again _ _ fun s₃ T₃ => wpAny_mono (hh _ env Pv W₁ σ₁ s₃ _ noE okH hf T₃.at_ hw) (fun f s₄ q => hR f s₄ (Go.from T₃ q)) fun _ _ z => z.no.elim)
  | some a =>
    refine on_e has fun x hx' has => and_e has fun e1 e2 => ?_
    cases (hx' : nm = some x)
    cases (of_decide_eq_true e1 : x = X.nm a)
    have hkl := local_of ok e2
    refine codeAny_handlers_suite_as (again _ _ fun s₃ T₃ => store_local K0 okH T₃.at_ hkl (VR.ref hl) fun s₄ T₄ => wpAny_mono (hh _ env Pv W₁ _ s₄ _ noE okH hf T₄.at_ hw) (fun f s₅ q => q.e fun W₅ σ₅ T₅ q => q.e fun af hfr q => ?_) fun _ _ z => z.no.elim)
    refine hR f s₅ (wpAny_bind (wpAny_bindName (store_local K0 ok T₅.at_ hkl .none fun s₆ T₆ => ?_)))
    refine unbind_ok K0 ok T₆.at_ hkl (v := .none) (if_pos rfl) fun s₇ T₇ => ?_
    rw [unb_put] at T₇
    exact ((((T₃.trans T₄).trans T₅).trans T₆).trans T₇).flow hfr q
theorem snd_try (K0 : CxOk X) {body h : PSs} {i : Nat} {as : Option Nat} {b : List Stmt} {b₀ : Stmt} {hs : List Stmt} {y : Str} {np : Pos} {nm : Option Str} {hpos pos : Pos} (hy : chkG X.ck sc i y = true) (hb : SS X n sc body b) (hh : SS X n ⟨sc.sc, false⟩ h (b₀ :: hs)) (has : asOk X.ck sc as nm = true) (hhd : sc.hd = true) :
    S1 X n sc (.try_ body i as h) (.Try b [.ExceptHandler (some (.Name y np)) nm (b₀ :: hs) hpos] [] [] pos) := fun A env Pv W σ s Q E ok hf at_ hw =>
  need_e hw fun v hv hw => need_e hw fun k ek hw => by
    cases vCls ek
    refine wpAny_Try_except (wpAny_mono (hb A env Pv W σ s Q _ ok hf at_ hw) (fun fl s₁ qq => qq.e fun W₁ σ₁ T qq => qq.e fun af hfr q => ?_) fun e s₁ x => ?_)
    · cases hfr with
      | next => exact wpAny_execs_nil (T.flow .next q)
      | brk => exact T.flow .brk q
      | cont => exact T.flow .cont q
      | ret hr => exact T.flow (.ret hr) q
    · obtain ⟨W₁, σ₁, j, l, m, T, rfl, hl, hg, fl, hE⟩ := x
      rw [hg] at hE
      obtain ⟨hk, hsb, hw⟩ := hE
      obtain ⟨c, o, vs, hc, hx, ho, hcls, hdd, _⟩ := T.at_.rel.at_ hg hl
      have own_e : Own W₁ σ₁.H l.1 := ⟨j, _, l, hg, hl, .inl rfl⟩
      obtain ⟨hfrm, outer, hst⟩ := ok.top hf
      obtain ⟨L, hL⟩ : ∃ L, env.frame = some L := by cases q : env.frame with | none => exact absurd q hfrm | some L => exact ⟨L, rfl⟩
      have hc0 : ∀ x c, env.cells.lookup x = some c → ∃ o, s.heap.get? c = some o := fun x c q => (at_.fr.cellNs x c q).2.2
      have post : ∀ {s₂ : Shared} {h₁ : Heap}, Tf X env Pv W σ s W₁ σ₁ s₂ → Aft W₁ σ₁.H s.heap s₂.heap h₁ l.1 (.ref c) Pv.st → Tf X env Pv W σ s W₁ σ₁ { s₂ with heap := h₁ } := fun T a => ⟨a.stp T.stp own_e, ⟨a.rel T.at_.rel hg hl rfl hc rfl T.at_.fr.frs, a.frr T.at_.fr at_.fr.pvAt hc0 own_e⟩, ⟨T.rest.gens, T.rest.drawn, T.rest.os⟩⟩
      refine seen_ok (h₀ := s.heap) (cls := .ref c) T.at_.rel T.stp.there (by rw [ok.stk, hst]) hL (hst ▸ T.at_.fr.frs) fl (fun oe q => by rw [ho] at q; cases q; exact hcls) fun h₁ a₁ => ?_
      rw [← hst] at a₁
      have T₂ := post T a₁
      have okH : EnvOk X (A.mark (some (.ref l.1))) env Pv n ⟨sc.sc, false⟩ := ⟨ok.stk, ok.top, ⟨ok.ok.depth, ok.ok.units⟩, (fun z => (Bool.false_ne_true z).elim), ok.kind, ok.glob, ok.bi, ok.names, ok.cl⟩
      refine chkG_e hy fun g1 g2 g3 => wpAny_handleBy_cons (codeAny_handlers_test (load_glob K0 okH T₂.at_ g1 g2 g3 hv fun cv hcv => ?_)) (by intro q; cases q)
      obtain ⟨c', rfl, hc'⟩ := cls_of (hcv W₁)
      refine match_ok K0 T₂.at_.rel hg hl hk hc' hsb (snd_suite K0 hh has ok hf hl (fun Q' E' hQ' => ?_) hw fun f s' q => q)
      refine again_ok (s := { s₁ with heap := h₁ }) (h₀ := s.heap) (cls := .ref c) T₂.at_.rel T₂.stp.there T₂.at_.fr.frs a₁.fly (fun oe q => ?_) fun h₂ a₂ => hQ' _ (post T₂ a₂)
      obtain ⟨oe', vs', q1, q2, _⟩ := a₁.exc
      have q : h₁.get? l.1 = some oe := q
      rw [q1] at q; cases q; exact q2
theorem objs1 (K0 : CxOk X) (C : ClsOk X K) (hK : CallM X n) : Objs X n where
  call := fun sc fz f as x p vs pos hf hq has hc => snd_call1 K0 C hK hf hq has hc
  meth := fun sc fz o m as v ap pos vs ho has hc hns hlen hline hap => snd_meth K0 ho has hc hns hlen hline (meth_case K0 C hK has hlen hline hap)
  attr := fun sc e m v pos he hns => snd_attr K0 C he hns
  asgA := fun sc o e m v x p pos he ho => snd_assign_attr K0 C he ho
  augL := fun sc i op e x p pos he hk hl hd => snd_aug_loc K0 he hk hl hd
  augA := fun sc o e m op v x p pos he ho => snd_aug_attr K0 C he ho
  raise := fun sc i e y x np cpos pos hy he hc hhd => snd_raise K0 hy he hc hhd
  try_ := fun sc body i as h b b₀ hb y np nm hpos pos hy hs hh has hhd => snd_try K0 hy hs hh has hhd
theorem callM (K0 : CxOk X) (C : ClsOk X K) (n : Nat) : CallM X n := by
  induction n with
  | zero => exact call_zero
  | succ n ih => exact call_step K0 (objs1 K0 C ih)
end
end Mine

end

section
set_option autoImplicit false
set_option linter.all false
set_option genSizeOf false
set_option genInjectivity false
namespace Mine
open PySem PySem.W PySem.Calls PyProof.Rows

/-- plain positional parameters alone -/
noncomputable def plainArgs (p : Arguments) : Bool := p.posonlyargs.isEmpty && p.vararg.isNone && p.kwonlyargs.isEmpty && p.kwarg.isNone

theorem lookup_zip {ns : List Str} : ∀ {vs : List Value}, ns.length = vs.length → ∀ n ∈ ns, ∃ v, (ns.zip vs).lookup n = some v := by
  induction ns with
  | nil => exact fun _ n h => (nomatch h)
  | cons a r ih =>
    intro vs hl n h
    cases vs with
    | nil => cases hl
    | cons v vs =>
      rw [List.zip_cons_cons]
      cases hb : n == a with
      | true => exact ⟨v, lookup_eq hb⟩
      | false =>
        rw [lookup_ne hb]
        rcases List.mem_cons.mp h with q | q
        · subst q; rw [beq_self_eq_true] at hb; cases hb
        · exact ih (Nat.succ.inj hl) n q
theorem filterMap_zip {ns : List Str} : ∀ {vs : List Value}, ns.length = vs.length → ∀ (f : Str → Option Value), (∀ n v, (n, v) ∈ ns.zip vs → f n = some v) → ns.filterMap (fun n => (f n).map (n, ·)) = ns.zip vs := by
  induction ns with
  | nil => exact fun _ _ _ => rfl
  | cons a r ih =>
    intro vs hl f hf
    cases vs with
    | nil => cases hl
    | cons v vs =>
      rw [List.filterMap_cons, hf a v (.head _)]
      exact congrArg ((a, v) :: ·) (ih (Nat.succ.inj hl) f fun n w h => hf n w (.tail _ h))
theorem lookup_nodup {ns : List Str} : ∀ {vs : List Value}, ns.length = vs.length → ns.Nodup → ∀ n v, (n, v) ∈ ns.zip vs → (ns.zip vs).lookup n = some v := by
  induction ns with
  | nil => exact fun _ _ n v h => (nomatch h)
  | cons a r ih =>
    intro vs hl hn n v h
    cases vs with
    | nil => cases hl
    | cons w vs =>
      rw [List.zip_cons_cons] at h ⊢
      rcases List.mem_cons.mp h with q | q
      · cases q; exact lookup_eq (beq_self_eq_true _)
      · have ne : (n == a) = false := by
          cases hb : n == a with
          | false => rfl
          | true => exact absurd (eq_of_beq hb ▸ (List.of_mem_zip q).1) (List.nodup_cons.mp hn).1
        rw [lookup_ne ne]
        exact ih (Nat.succ.inj hl) (List.nodup_cons.mp hn).2 n v q


theorem bind_plain {fd : FuncData} {vs : List Value} (hp : plainArgs fd.params = true) (hd : fd.defaults = .none) (hn : (fd.params.args.map (·.arg)).Nodup) (hl : (fd.params.args.map (·.arg)).length = vs.length) :
    bindArgs fd ⟨vs, []⟩ = pure ((fd.params.args.map (·.arg)).zip vs) := by
  obtain ⟨name, qual, params, body, scope, globals, closure, defaults, kwdefaults, doc, pm, ann, code, ct, bi⟩ := fd
  obtain ⟨po, as, va, ko, kd, kw, df⟩ := params
  cases hd
  cases po with | cons => cases hp | nil =>
  cases va with | some => cases hp | none =>
  cases ko with | cons => cases hp | nil =>
  cases kw with | some => cases hp | none =>
  generalize hns : as.map (·.arg) = ns at hn hl
  have hmiss : (ns.filter fun n => ((ns.zip vs).lookup n).isNone) = [] := List.filter_eq_nil_iff.mpr fun n hm => (lookup_zip (vs := vs) hl n hm).elim fun v e => by rw [e]; exact Bool.false_ne_true
  have hbinds := filterMap_zip hl (fun n => (ns.zip vs).lookup n) fun n v h => lookup_nodup hl hn n v h
  have htake : ns.take vs.length = ns := by rw [← hl]; exact List.take_length
  have hlt : ¬ vs.length > vs.length := Nat.lt_irrefl _
  refine Eq.trans (if_neg (c := (decide (vs.length > (as.map (·.arg)).length) && Option.isNone (none : Option Arg)) = true) (by rw [hns, hl, decide_eq_false hlt]; exact Bool.false_ne_true)) ?_
  have hd : ∀ k, List.drop k ((none : Option (Array Value)).getD #[]).toList = [] := fun k => List.drop_nil
  rw [hd]
  refine Eq.trans (if_neg (c := (!(((as.map (·.arg)).take ((as.map (·.arg)).length - 0)).filter fun n => (((as.map (·.arg)).zip vs).lookup n).isNone).isEmpty) = true) (by rw [hns, Nat.sub_zero, hl, htake, hmiss]; exact Bool.false_ne_true)) ?_
  rw [List.zip_nil_right]
  refine Eq.trans (b := pure (List.filterMap (fun n => Option.map (fun x => (n, x)) (List.lookup n ((as.map (·.arg)).zip vs))) (as.map (·.arg) ++ []))) rfl ?_
  rw [hns, List.append_nil, hbinds]
end Mine

end

section
set_option autoImplicit false
set_option linter.all false
set_option genSizeOf false
set_option genInjectivity false
namespace Mine
open PySem PySem.W PySem.Calls PyProof.Rows

theorem lk_uniq {l : List (Nat × Str)} (hn : (l.map (·.2)).Nodup) {i j : Nat} {s : Str} (h : (i, s) ∈ l) (h' : (j, s) ∈ l) : i = j := by
  induction l with
  | nil => cases h
  | cons p r ih =>
    rw [List.map_cons, List.nodup_cons] at hn
    rcases List.mem_cons.mp h with q | q
    · rcases List.mem_cons.mp h' with q' | q'
      · exact congrArg (·.1) (q.trans q'.symm)
      · subst q; exact absurd (List.mem_map.mpr ⟨_, q', rfl⟩) hn.1
    · rcases List.mem_cons.mp h' with q' | q'
      · subst q'; exact absurd (List.mem_map.mpr ⟨_, q, rfl⟩) hn.1
      · exact ih hn.2 q q'
noncomputable def Tb.nm (t : Tb) (i : Nat) : Str := (lk t.nms i).getD ⟨Array.replicate (i + 1) 0⟩
/-- the name of a class -/
noncomputable def Tb.cname (t : Tb) (k : Nat) : Option Str := match lk t.clss k with
  | some y => some y.1
  | none => lk t.excs k
noncomputable def fst0 (s : Str) : Option Nat := s.cps[0]?
noncomputable def goodNm (s : Str) : Bool := on (fst0 s) fun c => !Nat.beq c 0 && !(s == (".0" : Str))
noncomputable def distinct : List Str → Bool
  | [] => true
  | x :: r => !(r.contains x) && distinct r
theorem distinct_nodup {l : List Str} (h : distinct l = true) : l.Nodup := by
  induction l with
  | nil => exact List.nodup_nil
  | cons x r ih => exact and_e h fun a b => List.nodup_cons.mpr ⟨fun m => (by rw [List.contains_iff_mem.mpr m] at a; cases a), ih b⟩
theorem nm_some {t : Tb} {i : Nat} {s : Str} (h : lk t.nms i = some s) : t.nm i = s := by unfold Tb.nm; rw [h]; rfl
theorem nm_none {t : Tb} {i : Nat} (h : lk t.nms i = none) : t.nm i = Str.mk (Array.replicate (i + 1) 0) := by unfold Tb.nm; rw [h]; rfl
theorem fst_zero (k : Nat) : fst0 (Str.mk (Array.replicate (k + 1) 0)) = some 0 := by
  show (Array.replicate (k + 1) 0)[0]? = some 0
  rw [Array.getElem?_replicate, if_pos (Nat.succ_pos k)]
theorem good_ne {s : Str} (h : goodNm s = true) : fst0 s ≠ some 0 ∧ s ≠ (".0" : Str) := on_e h fun c e h => and_e h fun a b => ⟨fun z => (by rw [e] at z; cases z; cases a), fun z => (by subst z; cases b)⟩
theorem nm_inj {t : Tb} (hg : (t.nms.map (·.2)).all goodNm = true) (hd : distinct (t.nms.map (·.2)) = true) : ∀ i j, t.nm i = t.nm j → i = j := by
  have first : ∀ i s, lk t.nms i = some s → ∀ k : Nat, s ≠ Str.mk (Array.replicate (k + 1) 0) := fun i s e k q =>
    (good_ne (List.all_eq_true.mp hg s (List.mem_map.mpr ⟨_, lk_in e, rfl⟩))).1 (by rw [q]; exact fst_zero k)
  intro i j h
  cases hi : lk t.nms i with
  | some a =>
    rw [nm_some hi] at h
    cases hj : lk t.nms j with
    | some b =>
      rw [nm_some hj] at h
      subst h
      exact lk_uniq (distinct_nodup hd) (lk_in hi) (lk_in hj)
    | none => rw [nm_none hj] at h; exact absurd h (first i a hi j)
  | none =>
    rw [nm_none hi] at h
    cases hj : lk t.nms j with
    | some b => rw [nm_some hj] at h; exact absurd h.symm (first j b hj i)
    | none =>
      rw [nm_none hj] at h
      have := congrArg (fun s => s.cps.size) h
      rw [Array.size_replicate, Array.size_replicate] at this
      exact Nat.succ.inj this
theorem nm_dot {t : Tb} (hg : (t.nms.map (·.2)).all goodNm = true) (i : Nat) : t.nm i ≠ (".0" : Str) := by
  cases hi : lk t.nms i with
  | some a => rw [nm_some hi]; exact (good_ne (List.all_eq_true.mp hg a (List.mem_map.mpr ⟨_, lk_in hi, rfl⟩))).2
  | none =>
    rw [nm_none hi]
    intro q
    have h0 := fst_zero i
    rw [q] at h0
    revert h0
    decide

noncomputable def usedNames (p : Program) (loose : List Str) : List Str := startupNames ++ loose ++ (recsOf p).map (·.name) ++ (litsOf p).map (·.1) ++ (clssOf p loose).map (·.name)
noncomputable def chkNms (t : Tb) : Bool := (t.nms.map (·.2)).all goodNm && distinct (t.nms.map (·.2)) && decide (t.nm t.nAppend = Str.ofString "append") && decide (t.nm t.nPop = Str.ofString "pop") && decide (t.nm t.nExtend = Str.ofString "extend") && (decide (t.nm t.nGet = Str.ofString "get") && decide (t.nm t.nSetdefault = Str.ofString "setdefault"))
/-- an address -/
noncomputable def adr : Value → Option Addr
  | .ref a => some a
  | _ => none
theorem adr_e {v : Value} {a : Addr} (h : adr v = some a) : v = .ref a := by cases v <;> first | (cases h; rfl) | cases h
noncomputable def rf (o : Option (Option Value)) : Option Addr := match o with
  | some (some v) => adr v
  | _ => none
theorem rf_e {o : Option (Option Value)} {a : Addr} (h : rf o = some a) : o = some (some (.ref a)) := by
  cases o with
  | none => cases h
  | some o => cases o with
    | none => cases h
    | some v => rw [adr_e h]
noncomputable def topA (K : Frag) (x : Str) : Option Addr := rf (nsIn K mainGlobals x)
noncomputable def inCls (K : Frag) (a : Addr) (x : Str) : Option Addr := rf (findIn K (.ref a) x)
/-- one after the other -/
noncomputable def thn {α β : Type} (o : Option α) (f : α → Option β) : Option β := match o with
  | some a => f a
  | none => none
theorem thn_e {α β : Type} {o : Option α} {f : α → Option β} {b : β} {G : Prop} (h : thn o f = some b) (g : ∀ a, o = some a → f a = some b → G) : G := by
  cases o with
  | none => cases h
  | some a => exact g a rfl h
theorem thn_i {α β : Type} {o : Option α} {a : α} {f : α → Option β} {b : Option β} (e : o = some a) (h : f a = b) : thn o f = b := by subst e; exact h
noncomputable def srcA (K : Frag) : Src → Option Addr
  | .g x => topA K x
  | .m c x => thn (topA K c) fun a => inCls K a x
noncomputable def Tb.fnA (t : Tb) (K : Frag) (k : Nat) : Option Addr := thn (lk t.fns k) fun y => srcA K y.1
noncomputable def Tb.clA (t : Tb) (K : Frag) (k : Nat) : Option Addr := thn (t.cname k) (topA K)
noncomputable def mkCx (p : Program) (w : World) (t : Tb) (K : Frag) (h : Heap) : Cx where
  prog := p
  w := w
  P := t.P
  nm := t.nm
  fnA := t.fnA K
  clA := t.clA K
  hb := h
  quiet := hasN t.quiet
  qg := hasN t.qg
noncomputable def Tb.ck (t : Tb) : Ck := ⟨t.nm, hasN t.qg, t.nAppend⟩

/-! the looks -/
noncomputable def kFn (sc : Scope) : Bool := match sc.kind with
  | .function => true
  | _ => false
noncomputable def isNoneV : Value → Bool
  | .none => true
  | _ => false
noncomputable def fncD : Data → Option FuncData
  | .func fd => some fd
  | _ => none
noncomputable def stmB : FuncBody → Option (List Stmt)
  | .stmts b => some b
  | _ => none
noncomputable def fdOf (K : Frag) (a : Addr) : Option (FuncData × List Stmt) := thn (K.lookup a) fun o => thn (fncD o.data) fun fd => thn (stmB fd.body) fun b => some (fd, b)
noncomputable def chkFd (t : Tb) (K : Frag) (q : Bool) (f : Fn) (y : FuncData × List Stmt) : Bool :=
  (plainArgs y.1.params && decide (y.1.params.args.map (·.arg) = f.params.map t.nm) && distinct (y.1.params.args.map (·.arg)) && kFn y.1.scope && !y.1.scope.isCoroutine && !y.1.scope.isGenerator) &&
  (f.params.all (fun i => kStore ⟨y.1.scope, true⟩ (t.nm i)) && y.1.scope.names.all (fun x => !(x.2 == NameKind.free)) && y.1.closure.isEmpty && decide (y.1.globals = mainGlobals) && decide (y.1.builtins = builtinsNs) && isNoneV y.1.defaults) &&
  codeIn K y.1.code y.1.qualname && chkSs t.ck ⟨y.1.scope, true⟩ f.body y.2 && (!q || chkSs t.ck ⟨y.1.scope, false⟩ f.body y.2)
noncomputable def chkFn (t : Tb) (K : Frag) (e : Nat × Src × Fn) : Bool := on (srcA K e.2.1) fun a => on (fdOf K a) fun y => chkFd t K (hasN t.quiet e.1) e.2.2 y
noncomputable def chkMeth (t : Tb) (K : Frag) (c : Addr) (x : Str) (f : Nat) : Bool := on (inCls K c x) fun a => decide (t.fnA K f = some a) && decide (typeIn K (.ref a) = some (.type "function"))
noncomputable def chkIni (t : Tb) (K : Frag) (c : Addr) : Option Nat → Bool
  | some f => chkMeth t K c "__init__" f
  | none => true
noncomputable def chkCl (t : Tb) (K : Frag) (e : Nat × Str × Cl) : Bool := on (topA K e.2.1) fun c =>
  (makesIn K c && decide (findIn K (.ref c) "__getattribute__" = some (some (.builtin "object.__getattribute__"))) && decide (findIn K (.ref c) "__getattr__" = some none) && decide (findIn K (.ref c) "__setattr__" = some (some (.builtin "object.__setattr__"))) && plainOver K c && hasDictIn K c) &&
  keepIn K (.ref c) && chkIni t K c e.2.2.init && e.2.2.meths.all (fun y => chkMeth t K c (t.nm y.1) y.2 && !(e.2.2.attrs.contains y.1)) && e.2.2.attrs.all (fun n => decide (findIn K (.ref c) (t.nm n) = some none)) && !isSm (lk e.2.2.meths t.nAppend)
noncomputable def clsD : Data → Option ClassData
  | .cls cd => some cd
  | _ => none
/-- the line of a class of exceptions -/
noncomputable def lineOf (K : Frag) (c : Addr) : Option (List Value) := thn (K.lookup c) fun o => thn (clsD o.data) fun cd => some cd.mro
noncomputable def chkEx (t : Tb) (K : Frag) (e : Nat × Str) : Bool := on (topA K e.2) fun c => excIn K c excB "ValueError.__new__" && on (lineOf K c) fun l => (t.clss.map (fun y => (y.1, y.2.1)) ++ t.excs).all fun y => on (topA K y.2) fun ck => (l.contains (.ref ck) == sub2 t.subs e.1 y.1)
/-- a built-in value -/
noncomputable def bvO (b : B) (o : Option Value) : Bool := on o fun v => v == bval b
noncomputable def isLI : B → Bool
  | .len => true
  | .isinstance => true
  | _ => false
noncomputable def srcG : Src → Option Str
  | .g x => some x
  | _ => none
noncomputable def vI : Value → Option Int
  | .int i _ => some i
  | _ => none
noncomputable def chkGlob (t : Tb) (K : Frag) (used : List Str) (e : Nat × V) : Bool := match e.2 with
  | .fn k => on (lk t.fns k) fun y => on (srcG y.1) fun x => decide (x = t.nm e.1) && isSm (topA K x) && (!hasN t.qg e.1 || hasN t.quiet k)
  | .cls k => on (t.cname k) fun x => decide (x = t.nm e.1) && isSm (topA K x) && !hasN t.qg e.1
  | .int v => on (nsIn K mainGlobals (t.nm e.1)) fun o => on o fun u => decide (vI u = some v) && !hasN t.qg e.1
  | .bt b => !(used.contains (t.nm e.1)) && !(t.nm e.1 == ("__name__" : Str)) && bvO b (bootBuiltins (t.nm e.1)) && (!hasN t.qg e.1 || isLI b)
  | _ => false
/-- isinstance -/
noncomputable def bTs : List B := [.int, .bool, .str, .list, .tuple]
noncomputable def kTs : List (Kd × Value) := [(.none, .type "NoneType"), (.bool, .type "bool"), (.int, .type "int"), (.str, .type "str"), (.list, .type "list"), (.tuple, .type "tuple")]
noncomputable def bkNo (k : Kd) (b : B) : Option Bool := match bKd b with
  | some j => kNo2 k j
  | none => none
noncomputable def ckB (K : Frag) : Bool := kTs.all fun y => bTs.all fun b => kitOne K y.2 (bval b) == bkNo y.1 b
noncomputable def ckC (K : Frag) (e : Nat × Str × Cl) : Bool := on (topA K e.2.1) fun c => insK K c && bTs.all fun b => kitOne K (.ref c) (bval b) == some false
noncomputable def ckE (t : Tb) (K : Frag) (e : Nat × Str) : Bool := on (topA K e.2) fun c => excK K c && kitOne K (.ref c) (.type "ValueError") == some true && t.excs.all fun y => on (topA K y.2) fun d => kitOne K (.ref c) (.ref d) == some (sub2 t.subs e.1 y.1)
noncomputable def chkIsi (t : Tb) (K : Frag) : Bool := ckB K && t.clss.all (ckC K) && t.excs.all (ckE t K)
/-- no class is of both kinds -/
noncomputable def chkTwo (t : Tb) : Bool := t.clss.all fun y => !isSm (lk t.excs y.1)
/-- all that hangs on the heap -/
noncomputable def chkAll (t : Tb) (K : Frag) : Bool := t.fns.all (chkFn t K) && t.clss.all (chkCl t K) && t.excs.all (chkEx t K) && chkIsi t K
end Mine

end

section
set_option autoImplicit false
set_option linter.all false
set_option genSizeOf false
set_option genInjectivity false
namespace Mine
open PySem PySem.W PySem.Calls PyProof.Rows

section
variable {p q : Program} {loose : List Str} {mean : ExcName → Option Value} {mg mb : Str → Option Value} {h : Heap} {w : World} {t : Tb} {K : Frag}

/-- a def of the table's, and its look -/
inductive FnOf (t : Tb) (K : Frag) (k : Nat) (a : Addr) : Prop
  | mk (y : Src × Fn) (z : FuncData × List Stmt) (hk : lk t.fns k = some y) (hz : fdOf K a = some z) (hc : chkFd t K (hasN t.quiet k) y.2 z = true)
theorem fn_of {k : Nat} {a : Addr} (h2 : t.fns.all (chkFn t K) = true) (e : t.fnA K k = some a) : FnOf t K k a :=
  thn_e e fun y hk ha => on_e (List.all_eq_true.mp h2 _ (lk_in hk)) fun a' ha' h => on_e h fun z hz hc => by
    cases Option.some.inj (ha'.symm.trans ha)
    exact ⟨y, z, hk, hz, hc⟩
theorem fdOf_ok {a : Addr} {y : FuncData × List Stmt} {G : Prop} (h : fdOf K a = some y) (g : ∀ o, K.lookup a = some o → o.data = .func y.1 → y.1.body = .stmts y.2 → G) : G :=
  thn_e h fun o ho h => thn_e h fun fd hd h => thn_e h fun b hb h => by
    cases h
    refine g o ho ?_ ?_
    · generalize o.data = d at hd
      cases d <;> first | (cases hd; rfl) | cases hd
    · generalize fd.body = d at hb
      cases d <;> first | (cases hb; rfl) | cases hb
theorem isS_e {α : Type} {o : Option α} (h : isSm o = true) : ∃ a, o = some a := by
  cases o with
  | none => cases h
  | some a => exact ⟨a, rfl⟩
theorem mp2_e {α β : Type} {o : Option (α × β)} {b : β} {G : Prop} (h : mp2 o = some b) (g : ∀ a, o = some (a, b) → G) : G := by
  cases o with
  | none => cases h
  | some y => cases h; exact g y.1 rfl
theorem cname_mem {k : Nat} {x : Str} (e : t.cname k = some x) : (k, x) ∈ t.clss.map (fun y => (y.1, y.2.1)) ++ t.excs := by
  unfold Tb.cname at e
  cases q : lk t.clss k with
  | some y => rw [q] at e; cases e; exact List.mem_append_left _ (List.mem_map.mpr ⟨_, lk_in q, rfl⟩)
  | none => rw [q] at e; exact List.mem_append_right _ (lk_in e)
theorem exc_nm {j : Nat} {x : Str} (hn : chkTwo t = true) (hx : lk t.excs j = some x) : t.clA K j = topA K x := by
  have hcl : lk t.clss j = none := by
    cases q : lk t.clss j with
    | none => rfl
    | some y => have := List.all_eq_true.mp hn _ (lk_in q); rw [hx] at this; cases this
  unfold Tb.clA Tb.cname
  rw [hcl, hx]; rfl
theorem cls_nm {k : Nat} {y : Str × Cl} (hk : lk t.clss k = some y) : t.clA K k = topA K y.1 := by
  unfold Tb.clA Tb.cname
  rw [hk]; rfl
/-- a class of exceptions, and its look -/
theorem ex_e {c : Nat × Str → Addr → Bool} {j : Nat} {a : Addr} {G : Prop} (h4 : (t.excs.all fun e => on (topA K e.2) (c e)) = true) (hn : chkTwo t = true) (e : t.clA K j = some a) (hj : isSm (lk t.excs j) = true) (g : ∀ x, topA K x = some a → c (j, x) a = true → G) : G := by
  obtain ⟨x, hx⟩ := isS_e hj
  rw [exc_nm hn hx] at e
  exact on_e (List.all_eq_true.mp h4 _ (lk_in hx)) fun a' ha' h => g x e (Option.some.inj (ha'.symm.trans e) ▸ h)
theorem cl_e {c : Nat × Str × Cl → Addr → Bool} {k : Nat} {a : Addr} {cl : Cl} {G : Prop} (h3 : (t.clss.all fun e => on (topA K e.2.1) (c e)) = true) (e : t.clA K k = some a) (hcl : mp2 (lk t.clss k) = some cl) (g : ∀ x, c (k, x, cl) a = true → G) : G :=
  mp2_e hcl fun x hk => by
    rw [cls_nm hk] at e
    exact on_e (List.all_eq_true.mp h3 _ (lk_in hk)) fun a' ha' h => g x (Option.some.inj (ha'.symm.trans e) ▸ h)

theorem ex_at {q : Program} {loose : List Str} {mg mb : Str → Option Value} (T : TopRead q loose mg mb h) {j : Nat} {c : Addr} (X : K.In h) (h4 : t.excs.all (chkEx t K) = true) (hn : chkTwo t = true) (e : t.clA K j = some c) (hj : isSm (lk t.excs j) = true) : ExAt (mkCx p w t K h) j c := by
  refine ex_e h4 hn e hj fun x hx this => and_e this fun he this => on_e this fun l hl hall => ?_
  obtain ⟨_, bm, ns, nm, qn, bs, hd, sn, sub, ab, col, dd, k0, k1, k2, k3, k5, mN, g1, g2, g3, g4⟩ := own_of_in X T (rf_e hx) he
  have hl' : l = .ref c :: bm := thn_e hl fun o eo hl => by cases (X c o eo).symm.trans g1; exact (Option.some.inj hl).symm
  refine ⟨bm, ns, nm, qn, bs, hd, sn, sub, ab, col, dd, k0, k1, k2, k3, k5, mN, g1, g2, g3, g4, fun k ck hk => ?_⟩
  refine thn_e hk fun xk hxk hck => on_e (List.all_eq_true.mp hall _ (cname_mem hxk)) fun c2 hc2 this => ?_
  cases Option.some.inj (hc2.symm.trans hck)
  rw [← hl']
  exact beq_iff_eq.mp this

theorem meth_of {c : Addr} {x : Str} {f : Nat} (e : chkMeth t K c x f = true) : FnIs (mkCx p w t K h) K c x f :=
  on_e e fun a ha e => and_e e fun e1 e2 => ⟨a, of_decide_eq_true e1, rf_e ha, of_decide_eq_true e2⟩
theorem cls_ok (X : K.In h) (h3 : t.clss.all (chkCl t K) = true) : ClsOk (mkCx p w t K h) K := by
  refine ⟨X, fun k c cl hc hcl => cl_e h3 hc hcl fun x this => and6_e this fun g1 g2 g3 g4 g5 g6 => and6_e g1 fun a1 a2 a3 a4 a5 a6 =>
    ⟨a1, of_decide_eq_true a2, of_decide_eq_true a3, of_decide_eq_true a4, a5, a6, g2, fun f hf => ?_, fun n f hf => meth_of (and2 (List.all_eq_true.mp g4 _ (lk_in hf))).1, fun n hn => of_decide_eq_true (List.all_eq_true.mp g5 _ hn), fun n f hf hn => ?_⟩⟩
  · have g3 : chkIni t K c cl.init = true := g3
    rw [hf] at g3
    exact meth_of g3
  · have := (and2 (List.all_eq_true.mp g4 _ (lk_in hf))).2
    rw [List.contains_iff_mem.mpr hn] at this; cases this

theorem bTs_mem {b : B} {j : Kd} (h : bKd b = some j) : b ∈ bTs := by
  cases b <;> first | exact nsome h | exact .head _ | exact .tail _ (.head _) | exact .tail _ (.tail _ (.head _)) | exact .tail _ (.tail _ (.tail _ (.head _))) | exact .tail _ (.tail _ (.tail _ (.tail _ (.head _))))
theorem bkNo_e {k : Kd} {b : B} {r : Bool} (e : bkNo k b = some r) : b ∈ bTs := by
  cases hb : bKd b with
  | none => unfold bkNo at e; rw [hb] at e; cases e
  | some j => exact bTs_mem hb
theorem isi_base {k : Kd} {b : B} {tv : Value} {r : Bool} (h : ckB K = true) (hm : (k, tv) ∈ kTs) (e : bkNo k b = some r) : kitOne K tv (bval b) = some r :=
  (beq_iff_eq.mp (List.all_eq_true.mp (List.all_eq_true.mp h _ hm) b (bkNo_e e))).trans e
theorem map_e {α β : Type} {o : Option α} {f : α → β} {b : β} {G : Prop} (h : o.map f = some b) (g : ∀ a, o = some a → b = f a → G) : G := by
  cases o with
  | none => cases h
  | some a => cases h; exact g a rfl rfl
theorem isi_all (X : K.In h) (hi : chkIsi t K = true) (hn : chkTwo t = true) : IsiK (mkCx p w t K h) K := and3_e hi fun hB hC hE => by
  refine ⟨X, fun k y b tv cv e hk ht => ?_, fun k c hc hk => ex_e hE hn hc hk fun x _ g => and3_e g fun a _ _ => a, fun k c cl hc hcl => cl_e hC hc hcl fun x g => (and2 g).1⟩
  cases y with
  | bt b' =>
    cases ht
    have e : isiB t.P k b' = some b := e
    cases k with
    | exc i =>
      refine map_e hk fun c hc ev => ?_
      subst ev
      cases b' <;> first | exact nsome e | skip
      cases q : t.P.exc i with
      | false => have e : (match t.P.exc i with | true => some true | false => none) = some b := e
                 rw [q] at e; cases e
      | true =>
        have e : (match t.P.exc i with | true => some true | false => none) = some b := e
        rw [q] at e; cases e
        exact ex_e hE hn hc q fun x _ g => and3_e g fun _ a _ => beq_iff_eq.mp a
    | inst i =>
      refine map_e hk fun c hc ev => ?_
      subst ev
      have e : (match t.P.cls i with | some _ => (match bKd b' with | some _ => some false | none => none) | none => none) = some b := e
      cases hcl : t.P.cls i with
      | none => rw [hcl] at e; cases e
      | some cl =>
        rw [hcl] at e
        have e : (match bKd b' with | some _ => some false | none => none) = some b := e
        cases hb : bKd b' with
        | none => rw [hb] at e; cases e
        | some j => rw [hb] at e; cases e; exact cl_e hC hc hcl fun x g => beq_iff_eq.mp (List.all_eq_true.mp (and2 g).2 b' (bTs_mem hb))
    | none => cases hk; exact isi_base (k := .none) hB (.head _) e
    | bool => cases hk; exact isi_base (k := .bool) hB (.tail _ (.head _)) e
    | int => cases hk; exact isi_base (k := .int) hB (.tail _ (.tail _ (.head _))) e
    | str => cases hk; exact isi_base (k := .str) hB (.tail _ (.tail _ (.tail _ (.head _)))) e
    | list => cases hk; exact isi_base (k := .list) hB (.tail _ (.tail _ (.tail _ (.tail _ (.head _))))) e
    | tuple => cases hk; exact isi_base (k := .tuple) hB (.tail _ (.tail _ (.tail _ (.tail _ (.tail _ (.head _)))))) e
  | cls j =>
    refine map_e ht fun d hd ev => ?_
    subst ev
    cases k with
    | exc i =>
      refine map_e hk fun c hc ev => ?_
      subst ev
      have e : (match t.P.exc i && t.P.exc j with | true => some (t.P.sub i j) | false => none) = some b := e
      cases q : t.P.exc i && t.P.exc j with
      | false => rw [q] at e; cases e
      | true =>
        rw [q] at e; cases e
        exact and_e q fun q1 q2 => ex_e hE hn hc q1 fun x _ g => and3_e g fun _ _ g3 => ex_e g3 hn hd q2 fun y _ g => beq_iff_eq.mp g
    | _ => exact nsome e
  | _ => exact nsome e
end
end Mine

end

section
set_option autoImplicit false
set_option linter.all false
set_option genSizeOf false
set_option genInjectivity false
namespace Mine
open PySem PySem.W PySem.Calls PyProof.Rows

section
variable {p q : Program} {loose : List Str} {mean : ExcName → Option Value} {mg mb : Str → Option Value} {h : Heap} {w : World} {t : Tb} {K : Frag}
theorem top_gl {i : Nat} {v : V} {x : Str} {a : Addr} (T : Top q loose mean mg mb h) (X : K.In h) (hx : x = t.nm i) (ha : topA K x = some a) (r : ∀ W, VR (mkCx p w t K h) W (.ref a) v) : GlAt (mkCx p w t K h) i v :=
  .main (.ref a) mg T.g (by show mg (t.nm i) = _; rw [← hx]; exact mg_of X T.g (rf_e ha)) r
theorem glob_ok {used : List Str} {i : Nat} {v : V} (T : Top q loose mean mg mb h) (X : K.In h) (hu : used = usedNames q loose) (hm : chkGlob t K used (i, v) = true) : GlAt (mkCx p w t K h) i v := by
  cases v with
  | fn k =>
    refine on_e hm fun y hk hm => on_e hm fun x hx hm => and3_e hm fun m1 m2 _ => ?_
    obtain ⟨a, ha⟩ := isS_e m2
    refine top_gl T X (of_decide_eq_true m1) ha fun W => .fn (thn_i hk ?_)
    generalize y.1 = s at hx
    cases s with
    | g z => cases hx; exact ha
    | m _ _ => cases hx
  | cls k =>
    refine on_e hm fun x hx hm => and3_e hm fun m1 m2 _ => ?_
    obtain ⟨a, ha⟩ := isS_e m2
    exact top_gl T X (of_decide_eq_true m1) ha fun W => .cls (thn_i hx ha)
  | int v =>
    refine on_e hm fun o ho hm => on_e hm fun u eo hm => and_e hm fun m1 _ => ?_
    have m1 := of_decide_eq_true m1
    subst eo
    cases u with
    | int u tk => cases m1; exact .main (.int v tk) mg T.g (mg_of X T.g ho) fun W => .int v tk
    | _ => cases m1
  | bt b =>
    refine and4_e hm fun m1 m2 m3 _ => ?_
    subst hu
    have nu : t.nm i ∉ usedNames q loose := fun z => by rw [List.contains_iff_mem.mpr z] at m1; cases m1
    unfold usedNames at nu
    simp only [List.mem_append, not_or] at nu
    obtain ⟨⟨⟨⟨n1, n2⟩, n3⟩, n4⟩, n5⟩ := nu
    refine .bi (bval b) mg mb T.g T.b (T.free _ n1 n2 n3 n4 n5) ?_ fun W => .bt b
    show mb (t.nm i) = _
    rw [T.builtins _ (fun z => by rw [z] at m2; cases m2)]
    exact on_e m3 fun u eu m3 => eu.trans (congrArg some (beq_iff_eq.mp m3))
  | _ => cases hm
theorem quiet_ok {used : List Str} {i : Nat} {v : V} (hm : chkGlob t K used (i, v) = true) (hq : hasN t.qg i = true) : Qt (mkCx p w t K h) v := by
  cases v with
  | fn k =>
    refine on_e hm fun y hk hm => on_e hm fun x hx hm => and3_e hm fun _ _ m3 => .fn ?_
    rw [hq] at m3; exact m3
  | cls k => exact on_e hm fun x hx hm => and3_e hm fun _ _ m3 => by rw [hq] at m3; cases m3
  | int v => exact on_e hm fun o ho hm => on_e hm fun u eo hm => and_e hm fun _ m2 => by rw [hq] at m2; cases m2
  | bt b =>
    refine and4_e hm fun _ _ _ m4 => ?_
    rw [hq] at m4
    cases b with
    | len => exact .len
    | isinstance => exact .isi
    | _ => cases m4
  | _ => cases hm
theorem noneV {v : Value} (h : isNoneV v = true) : v = .none := by cases v <;> first | rfl | cases h
theorem fnKind {s : Scope} (h : kFn s = true) : s.kind = .function := by
  unfold kFn at h
  cases hk : s.kind <;> rw [hk] at h <;> first | rfl | cases h
theorem fn_at {k : Nat} {a : Addr} {d : Fn} (X : K.In h) (h2 : t.fns.all (chkFn t K) = true) (e : t.fnA K k = some a) (ed : mp2 (lk t.fns k) = some d) : FnIn (mkCx p w t K h) (hasN t.quiet k) d a := by
  obtain ⟨y, z, hk, hz, hc⟩ := fn_of h2 e
  rw [hk] at ed
  cases ed
  refine fdOf_ok hz fun o ho hd hb => and5_e hc fun c1 c2 c3 c4 c5 => and6_e c1 fun a1 a2 a3 a4 a5 a6 => and6_e c2 fun b1 b2 b3 b4 b5 b6 => ?_
  have a2 := of_decide_eq_true a2
  refine ⟨o, z.1, z.2, X _ _ ho, hd, codeRec_of X c3, hb, fun vs hl => ?_, empty_ok b3, Bool.not_eq_true' _ ▸ a5, Bool.not_eq_true' _ ▸ a6, fnKind a4, of_decide_eq_true b4, of_decide_eq_true b5, fun i hi => List.all_eq_true.mp b1 i hi, fun u hu zz => ?_, c4, fun hq => ?_⟩
  · have := bind_plain (fd := z.1) (vs := vs) a1 (noneV b6) (distinct_nodup a3) (by rw [a2, List.length_map, hl])
    rw [this, a2]; rfl
  · have := List.all_eq_true.mp b2 u hu
    rw [zz] at this
    cases this
  · rw [hq] at c5; exact c5
theorem isS_no {α : Type} {o : Option α} (h : (!isSm o) = true) : o = none := by
  cases o with
  | none => rfl
  | some _ => cases h
theorem fn_ob {k : Nat} {a : Addr} (X : K.In h) (h2 : t.fns.all (chkFn t K) = true) (e : t.fnA K k = some a) : FnOb (mkCx p w t K h) a := by
  obtain ⟨y, z, hk, hz, hc⟩ := fn_of h2 e
  exact fdOf_ok hz fun o ho hd hb => ⟨o, z.1, X _ _ ho, hd⟩
theorem cx_ok (T : Top q loose mean mg mb h) (X : K.In h) (h1 : chkNms t = true) (h2 : chkAll t K = true) (h3 : t.globs.all (chkGlob t K (usedNames q loose)) = true) (hn : chkTwo t = true) : CxOk (mkCx p w t K h) :=
  and6_e h1 fun g1 g2 g3 g4 g5 g67 => and_e g67 fun g6 g7 => and4_e h2 fun h2 hcl hex hisi =>
    ⟨nm_inj g1 g2, nm_dot g1, T.nolimit, fun i v e => glob_ok T X rfl (List.all_eq_true.mp h3 _ (lk_in e)), of_decide_eq_true g3, of_decide_eq_true g4, of_decide_eq_true g5, of_decide_eq_true g6, of_decide_eq_true g7,
      fun k a e => fn_ob X h2 e, fun k a d e ed => fn_at X h2 e ed, fun i v hq e => quiet_ok (List.all_eq_true.mp h3 _ (lk_in e)) hq, fun k c e hj => ex_at (topRead_of T) X hex hn e hj,
      fun k cl e => mp2_e e fun x hk => on_e (List.all_eq_true.mp hcl _ (lk_in hk)) fun c hc this => and6_e this fun _ _ _ _ _ g6 => isS_no g6, ⟨K, isi_all X hisi hn⟩, T.g.elim fun o q => ⟨o, q.elim fun _ q => q.elim fun _ q => q.1⟩⟩
end

/-- the state at the call -/
noncomputable def W0 (h : Heap) : Wd := ⟨fun a => h.get? a, fun _ => none⟩
noncomputable def H0 : Hp := ⟨0, fun _ => none⟩
theorem rel0 {X : Cx} : RelH X (W0 X.hb) H0 X.hb :=
  ⟨fun _ _ e => e, fun _ _ e => e, fun _ _ e => (by cases e), fun a ⟨i, c, l, e, _, _⟩ => (by cases e), fun i j ci cj li lj e => (by cases e), fun _ _ => ⟨rfl, rfl⟩⟩
theorem vrs_ints {X : Cx} {W : Wd} {P : Params} {h : Heap} {is : List Int} : ∀ {vs : List Value}, WellAll P h vs (ofPys (is.map PyData.int)) → VRs X W vs (is.map V.int) := by
  induction is with
  | nil => intro vs r; cases r; exact .nil
  | cons i is ih =>
    intro vs r
    have r' : WellAll P h vs (.int i :: ofPys (is.map PyData.int)) := r
    cases r' with
    | cons a b =>
      cases a with
      | int _ t => exact .cons (.int i t) (ih b)

theorem law_end {p : Program} {w : World} {t : Tb} {K : Frag} {mg : Str → Option Value} {s₁ : Shared} {c : ClaimW} {cl : Str → Option Addr} {mean : ExcName → Option Value} {args : List WData} {k : Nat} {fa a : Addr} {is : List Int} {q : Program} {loose : List Str} {mean' : ExcName → Option Value} {mb : Str → Option Value} {P : Params}
    (T : Top q loose mean' mg mb s₁.heap) (X : K.In s₁.heap) (h1 : chkNms t = true) (h2 : chkAll t K = true) (h3 : t.globs.all (chkGlob t K (usedNames q loose)) = true) (hn : chkTwo t = true)
    (hg : s₁.gens = #[]) (x : Str) (hk : (thn (lk t.fns k) fun y => srcG y.1) = some x) (hs : isSm (topA K x) = true) (hmg : mg x = some (.ref fa)) (hw : Well P s₁.heap (.ref a) (ofPy (.list (is.map PyData.int)))) (hlen : ¬ ((63 : Nat) : Int) < (is.length : Nat))
    (hr : ∀ cls, c.raises args cls = false) (hp : c.post args (.bool true) args = true)
    (n : Nat) (hA : AOk callerA n)
    (main : ∀ is : List Int, is.length ≤ 63 → CW t.P n k [.lst (is.map V.int)] H0 (fun v _ => v = .bool true) (fun _ _ => False)) :
    wpAny (model p w) callerA (call (.ref fa) [.ref a]) (fun v s' => GoodWG c cl mean args s₁ (.ok (.ret v)) s') (fun e s' => GoodWG c cl mean args s₁ (.error e) s') s₁ := by
  have K0 : CxOk (mkCx p w t K s₁.heap) := cx_ok T X h1 h2 h3 hn
  have C : ClsOk (mkCx p w t K s₁.heap) K := cls_ok X (and4_e h2 fun _ z _ _ => z)
  have hl : is.length ≤ 63 := Int.ofNat_le.mp (Int.not_lt.mp hlen)
  cases hw with
  | list hgt hall =>
    have hv : VR (mkCx p w t K s₁.heap) (W0 s₁.heap) (.ref a) (.lst (is.map V.int)) := VR.lst (n := 0) hgt (vrs_ints hall) (by rw [List.length_map]; exact Nat.le_trans hl (by decide))
    have hfn : (mkCx p w t K s₁.heap).fnA k = some fa := by
      obtain ⟨a', ha'⟩ := isS_e hs
      have := mg_of X T.g (rf_e ha')
      rw [hmg] at this
      cases this
      refine thn_e hk fun y hy hx => thn_i hy ?_
      generalize y.1 = s at hx
      cases s with
      | g z => cases hx; exact ha'
      | m _ _ => cases hx
    refine wpAny_call (codeAny_mono (callM K0 C n callerA k fa [.lst (is.map V.int)] [.ref a] (W0 s₁.heap) H0 s₁ _ _ hA (.inl rfl) ⟨[], rfl, fun e he => by cases he⟩ rel0 (.cons hv .nil) hfn (main is hl)) fun r s' hr' => ?_)
    cases r with
    | ok fl =>
      cases fl with
      | ret v =>
        obtain ⟨W', H', av, TT, hv', rfl⟩ := hr'
        cases hv'
        exact GoodW.toG ⟨.inl ⟨_, .bool true, [], rfl, hr, .bool _, hp, fun _ => ⟨List.nodup_nil, fun _ z => (nomatch z)⟩⟩, TT.rel.bkeep, TT.rest.os, TT.rest.gens.trans hg⟩
      | _ => exact hr'.elim
    | error e =>
      obtain ⟨_, _, _, _, _, _, _, _, _, _, z⟩ := hr'
      exact z.elim
end Mine

end

section
set_option autoImplicit false
set_option linter.all false
set_option genSizeOf false
set_option genInjectivity false
namespace Mine
open PySem (Str)

/-! A text is run on symbolic states: the objects at hand are numbered. -/
inductive SA where
  | v (x : V)
  | s (j : Nat)
inductive SV where
  | v (x : V)
  | s (j : Nat)
  | l (xs : List SA)
  | t (xs : List SA)
noncomputable def SA.sv : SA → SV
  | .v x => .v x
  | .s j => .s j
inductive SC where
  | list (xs : List V)
  | dict (kvs : List (V × SV))
  | inst (k : Nat) (fs : List (Nat × SV))
  | exc (k : Nat)
  | dead
  | w (k : Nat) (fs : List (Nat × V))
structure Sy (Ω : Type) where
  cs : List SC
  loc : List (Nat × SV)
  w : Ω
inductive FX where
  | next | brk | cont
  | ret (v : SV)

noncomputable def rm {α : Type} : List (Nat × α) → Nat → List (Nat × α)
  | [], _ => []
  | p :: r, n => cond (Nat.beq p.1 n) (rm r n) (p :: rm r n)
noncomputable def rms {α : Type} (l : List (Nat × α)) : List Nat → List (Nat × α)
  | [] => l
  | n :: r => rms (rm l n) r
noncomputable def at_ : List SC → Nat → Option SC
  | [], _ => none
  | c :: r, n => (match n with | 0 => some c | m + 1 => at_ r m)
noncomputable def setAt : List SC → Nat → SC → List SC
  | [], _, _ => []
  | c :: r, n, d => (match n with | 0 => d :: r | m + 1 => c :: setAt r m d)
noncomputable def scL : Option SC → Option (List V)
  | some (.list xs) => some xs
  | _ => none
noncomputable def scD : Option SC → Option (List (V × SV))
  | some (.dict kvs) => some kvs
  | _ => none
noncomputable def scI : Option SC → Option (Nat × List (Nat × SV))
  | some (.inst k fs) => some (k, fs)
  | _ => none
noncomputable def scE : Option SC → Option Nat
  | some (.exc k) => some k
  | _ => none
/-- yes, or nothing goes on -/
noncomputable def Ys (b : Bool) (t : Prop) : Prop := Br b t False

section
variable {Ω : Type}
noncomputable def Sy.put (s : Sy Ω) (i : Nat) (v : SV) : Sy Ω := ⟨s.cs, st s.loc i v, s.w⟩
noncomputable def Sy.setC (s : Sy Ω) (j : Nat) (c : SC) : Sy Ω := ⟨setAt s.cs j c, s.loc, s.w⟩
noncomputable def Sy.new (s : Sy Ω) (c : SC) : Sy Ω := ⟨s.cs ++ [c], s.loc, s.w⟩
noncomputable def Sy.nx (s : Sy Ω) : Nat := s.cs.length
/-- stores that are laid out at once -/
noncomputable def stK {α : Type} : List (Nat × α) → Nat → α → (List (Nat × α) → Prop) → Prop
  | [], n, v, k => k [(n, v)]
  | p :: r, n, v, k => Br (Nat.beq p.1 n) (k ((p.1, v) :: r)) (stK r n v fun r' => k (p :: r'))
noncomputable def setK : List SC → Nat → SC → (List SC → Prop) → Prop
  | [], _, _, k => k []
  | c :: r, n, d, k => (match n with | 0 => k (d :: r) | m + 1 => setK r m d fun r' => k (c :: r'))
noncomputable def snK : List SC → Nat → SC → (Nat → List SC → Prop) → Prop
  | [], n, c, k => k n [c]
  | x :: r, n, c, k => snK r (n + 1) c fun m r' => k m (x :: r')
noncomputable def putS (s : Sy Ω) (i : Nat) (v : SV) (k : Sy Ω → Prop) : Prop := match s with
  | ⟨cs, l, w⟩ => stK l i v fun l => k ⟨cs, l, w⟩
noncomputable def setS (s : Sy Ω) (j : Nat) (c : SC) (k : Sy Ω → Prop) : Prop := match s with
  | ⟨cs, l, w⟩ => setK cs j c fun cs => k ⟨cs, l, w⟩
noncomputable def newS (s : Sy Ω) (c : SC) (k : Nat → Sy Ω → Prop) : Prop := match s with
  | ⟨cs, l, w⟩ => snK cs 0 c fun n cs => k n ⟨cs, l, w⟩
noncomputable def Sy.withLoc (s : Sy Ω) (l : List (Nat × SV)) : Sy Ω := match s with
  | ⟨cs, _, w⟩ => ⟨cs, l, w⟩

/-- data is seen as it is -/
noncomputable def seeV : V → Option V
  | .ref _ => none
  | .bt _ => none
  | .fn _ => none
  | .cls _ => none
  | x => some x
noncomputable def svS : SV → Option Nat
  | .s j => some j
  | _ => none
noncomputable def svV : SV → Option V
  | .v x => some x
  | _ => none
noncomputable def seeS (s : Sy Ω) : SV → Option V
  | .v x => seeV x
  | .s j => mL (scL (at_ s.cs j))
  | _ => none
noncomputable def datN : Nat → V → Bool
  | 0, x => (match x with
    | .none => true
    | .bool _ => true
    | .int _ => true
    | .str _ => true
    | _ => false)
  | n + 1, x => (match x with
    | .none => true
    | .bool _ => true
    | .int _ => true
    | .str _ => true
    | .tup xs => xs.all (datN n)
    | .lst xs => xs.all (datN n)
    | _ => false)
noncomputable def deepA (s : Sy Ω) : SA → Option V
  | .v x => cond (datN 11 x) (some x) none
  | .s j => (match scL (at_ s.cs j) with
    | some xs => cond (xs.all (datN 10)) (some (.lst xs)) none
    | none => none)
noncomputable def deepAs (s : Sy Ω) : List SA → Option (List V)
  | [] => some []
  | a :: r => (match deepA s a with
    | some x => (match deepAs s r with | some xs => some (x :: xs) | none => none)
    | none => none)
noncomputable def deepK (s : Sy Ω) (a : SV) (k : V → Prop) : Prop := match a with
  | .v x => Ys (datN 12 x) (k x)
  | .s j => need (scL (at_ s.cs j)) fun xs => Ys (xs.all (datN 11)) (k (.lst xs))
  | .t xs => need (deepAs s xs) fun ys => k (.tup ys)
  | .l _ => False
noncomputable def kindS (s : Sy Ω) : SV → Option Kd
  | .v x => kdV x
  | .s j => (match at_ s.cs j with
    | some (.list _) => some .list
    | some (.inst k _) => some (.inst k)
    | some (.exc k) => some (.exc k)
    | some (.w k _) => some (.inst k)
    | _ => none)
  | .l _ => some .list
  | .t _ => some .tuple
noncomputable def lenS (s : Sy Ω) : SV → Option Nat
  | .v x => lenV x
  | .s j => (match at_ s.cs j with
    | some (.list xs) => some xs.length
    | some (.dict kvs) => some kvs.length
    | _ => none)
  | .l xs => some xs.length
  | .t xs => some xs.length
noncomputable def itemsS (s : Sy Ω) : SV → Option (List V)
  | .v x => itV x
  | .s j => (match at_ s.cs j with
    | some (.list xs) => some xs
    | _ => none)
  | _ => none
noncomputable def allV : List SV → Option (List V)
  | [] => some []
  | a :: r => (match svV a with
    | some x => (match allV r with | some xs => some (x :: xs) | none => none)
    | none => none)

noncomputable def anyS (s : Sy Ω) (a : SV) (xs : List V) (k : Bool → Prop) : Prop := deepK s a fun y => Ys (xs.all (datN 11)) (k (xs.any fun z => eqD z y))
noncomputable def inS (s : Sy Ω) (a b : SV) (k : Bool → Prop) : Prop := match b with
  | .s j => (match at_ s.cs j with
    | some (.list xs) => anyS s a xs k
    | some (.dict kvs) => need (svV a) fun x => Ys (keyOk (dKeys kvs) x) (k ((dKeys kvs).any fun z => eqD z x))
    | _ => False)
  | .v (.lst xs) => anyS s a xs k
  | .v (.tup xs) => anyS s a xs k
  | .v (.rng p q r) => need (svV a) fun x => inR p q r x k
  | _ => False
noncomputable def isF (f : V → Bool) (a : SV) (k : Bool → Prop) : Prop := match a with
  | .v x => Ys (solid x) (k (f x))
  | _ => k false
noncomputable def isS (a b : SV) (k : Bool → Prop) : Prop := need (svV b) fun y => match y with
  | .none => isF isNone a k
  | .bool c => isF (isB c) a k
  | _ => False
noncomputable def cmpS (s : Sy Ω) (op : COp) (a b : SV) (k : Bool → Prop) : Prop := match op with
  | .eq => deepK s a fun x => deepK s b fun y => k (eqD x y)
  | .ne => deepK s a fun x => deepK s b fun y => k (!eqD x y)
  | .lt => need (seeS s a) fun x => need (seeS s b) fun y => ltK false x y k
  | .le => need (seeS s a) fun x => need (seeS s b) fun y => ltK true x y k
  | .gt => need (seeS s a) fun x => need (seeS s b) fun y => ltK false y x k
  | .ge => need (seeS s a) fun x => need (seeS s b) fun y => ltK true y x k
  | .isIn => inS s a b k
  | .notIn => inS s a b fun r => k (!r)
  | .is => isS a b k
  | .isNot => isS a b fun r => k (!r)
noncomputable def truS (s : Sy Ω) (a : SV) (k : Bool → Prop) : Prop := need (seeS s a) fun x => trK x k

/-- a made value is handed on -/
noncomputable def giveS (fz : Bool) (s : Sy Ω) (k : SV → Sy Ω → Prop) : LV → Prop
  | .val x => k (.v x) s
  | .newList xs => Nd (xs.length ≤ SZ) (Br fz (k (.v (.lst xs)) s) (newS s (.list xs) fun n s' => k (.s n) s'))
noncomputable def noRef : V → Bool
  | .ref _ => false
  | _ => true
noncomputable def giveVS (fz : Bool) (k : SV → Sy Ω → Prop) (r : SV) (s : Sy Ω) : Prop := Br fz (match r with
    | .v x => Ys (noRef x) (k (.v x) s)
    | .s j => (match at_ s.cs j with
      | some (.list xs) => setS s j .dead fun s' => k (.v (.lst xs)) s'
      | some .dead => False
      | _ => k (.s j) s)
    | .l _ => False
    | .t xs => k (.t xs) s) (k r s)

abbrev XT (Ω : Type) := Nat → List SV → Sy Ω → (SV → Sy Ω → Prop) → (Nat → Sy Ω → Prop) → Prop

noncomputable def bS (P : Prog) (s : Sy Ω) (b : B) (as : List SV) (k : LV → Prop) : Prop := match as with
  | [v] => b1K b (seeS s v) (lenS s v) k
  | [v, w] => Br (isIsi b) (need (kindS s v) fun q => need (svV w) fun t => need (isi1 P q t) fun r => k (.val (.bool r))) (need (seeS s v) fun x => need (seeS s w) fun y => b2K b x y k)
  | [u, v, w] => need (seeS s u) fun x => need (seeS s v) fun y => need (seeS s w) fun z => b3K b x y z k
  | _ => False
noncomputable def noX : Nat → Sy Ω → Prop := fun _ _ => False
noncomputable def svN : SV → Bool
  | .v x => isNone x
  | _ => false
noncomputable def callS (P : Prog) (C : XT Ω) (fz : Bool) (f : SV) (as : List SV) (s : Sy Ω) (k : SV → Sy Ω → Prop) (kx : Nat → Sy Ω → Prop) : Prop := need (svV f) fun g => match g with
  | .bt b => bS P s b as (giveS fz s k)
  | .fn g => C g as s (giveVS fz k) kx
  | .cls c => need (P.cls c) fun cl => need cl.init fun g => newS s (.inst c []) fun n s₁ => C g (.s n :: as) s₁ (fun r s' => Ys (svN r) (k (.s n) s')) kx
  | _ => False
noncomputable def idxS (s : Sy Ω) (a b : SV) (k : SV → Prop) : Prop := need (svV b) fun y => match a with
  | .s j => (match at_ s.cs j with
    | some (.list xs) => idxK (.lst xs) y fun v => k (.v v)
    | some (.dict kvs) => Ys (keyOk (dKeys kvs) y) (need (dGet kvs y) k)
    | _ => False)
  | .l xs => need (aInt y) fun i => need (pyIdx i xs.length) fun n => need xs[n]? fun v => k v.sv
  | .t xs => need (aInt y) fun i => need (pyIdx i xs.length) fun n => need xs[n]? fun v => k v.sv
  | .v x => Ys (noRef x) (idxK x y fun v => k (.v v))
noncomputable def optIS : Option SV → Option (Option Int)
  | none => some none
  | some a => (match svV a with | some x => (match aInt x with | some i => some (some i) | none => none) | none => none)

/-- the methods of lists and dicts -/
noncomputable def methLS (P : Prog) (s : Sy Ω) (j n : Nat) (xs : List V) (as : List SV) (k : SV → Sy Ω → Prop) : Prop := need (one as) fun a =>
  Br (Nat.beq n P.nAppend) (need (svV a) fun x => Nd (xs.length < SZ) (setS s j (.list (xs ++ [x])) fun s' => k (.v .none) s')) <|
  Br (Nat.beq n P.nPop) (need (svV a) fun x => need (aInt x) fun i => need (pyIdx i xs.length) fun m => need xs[m]? fun v => setS s j (.list (xs.take m ++ xs.drop (m + 1))) fun s' => k (.v v) s') <|
  need (seeS s a) fun y => need (aLst y) fun ys => Nd (xs.length + ys.length ≤ SZ) (setS s j (.list (xs ++ ys)) fun s' => k (.v .none) s')
/-- names bound one by one -/
noncomputable def bindGoS : List Nat → List V → Sy Ω → (Sy Ω → Prop) → Prop
  | [], ys, s, k => (match ys with | [] => k s | _ => False)
  | i :: is, ys, s, k => (match ys with | x :: xs => putS s i (.v x) fun s' => bindGoS is xs s' k | [] => False)
noncomputable def bindTS (ts : List Nat) (x : V) (s : Sy Ω) (k : Sy Ω → Prop) : Prop := match ts with
  | [i] => putS s i (.v x) k
  | ts => need (aTup x) fun xs => bindGoS ts xs s k
noncomputable def endS (fl : FX) (s : Sy Ω) (go : Sy Ω → Prop) (k : FX → Sy Ω → Prop) : Prop := match fl with
  | .next => go s
  | .cont => go s
  | .brk => k .next s
  | .ret v => k (.ret v) s
noncomputable def seqS (fl : FX) (s : Sy Ω) (go : Sy Ω → Prop) (k : FX → Sy Ω → Prop) : Prop := match fl with
  | .next => go s
  | .cont => k .cont s
  | .brk => k .brk s
  | .ret v => k (.ret v) s

/-- a loop, by what holds of the items left and the state -/
structure LoopI (a : SV) (all : List V) (turn : V → Sy Ω → (FX → Sy Ω → Prop) → Prop) (k : FX → Sy Ω → Prop) (inv : List V → Sy Ω → Prop) : Prop where
  still : ∀ r s', inv r s' → itemsS s' a = some all
  stop : ∀ s', inv [] s' → k .next s'
  turn : ∀ x r s', inv (x :: r) s' → turn x s' fun fl s₁ => endS fl s₁ (inv r) k
inductive LoopX (a : SV) (all : List V) (turn : V → Sy Ω → (FX → Sy Ω → Prop) → Prop) (xs : List V) (s : Sy Ω) (k : FX → Sy Ω → Prop) : Prop
  | mk (inv : List V → Sy Ω → Prop) (h : inv xs s) (i : LoopI a all turn k inv)
/-- a comprehension, by what holds of the items left, the items made and the state -/
structure CompI (a : SV) (all : List V) (turn : V → Sy Ω → (Bool → Sy Ω → Prop) → Prop) (elt : Sy Ω → (SV → Sy Ω → Prop) → Prop) (k : List V → Sy Ω → Prop) (inv : List V → List V → Sy Ω → Prop) : Prop where
  still : ∀ r acc s', inv r acc s' → itemsS s' a = some all
  len : ∀ r acc s', inv r acc s' → acc.length + r.length ≤ SZ
  stop : ∀ acc s', inv [] acc s' → k acc s'
  turn : ∀ x r acc s', inv (x :: r) acc s' → turn x s' fun b s₁ => Br b (elt s₁ fun y s₂ => need (svV y) fun z => inv r (acc ++ [z]) s₂) (inv r acc s₁)
inductive CompX (a : SV) (all : List V) (turn : V → Sy Ω → (Bool → Sy Ω → Prop) → Prop) (elt : Sy Ω → (SV → Sy Ω → Prop) → Prop) (xs : List V) (s : Sy Ω) (k : List V → Sy Ω → Prop) : Prop
  | mk (inv : List V → List V → Sy Ω → Prop) (h : inv xs [] s) (i : CompI a all turn elt k inv)
/-- an attribute is read -/
noncomputable def attrS (s : Sy Ω) (a : SV) (n : Nat) (k : SV → Prop) : Prop := need (svS a) fun j => match at_ s.cs j with
  | some (.inst _ fs) => need (lk fs n) k
  | some (.w _ fs) => need (lk fs n) fun v => k (.v v)
  | _ => False
noncomputable def svA : SV → Option SA
  | .v x => some (.v x)
  | .s j => some (.s j)
  | _ => none
noncomputable def allA : List SV → Option (List SA)
  | [] => some []
  | a :: r => (match svA a with
    | some x => (match allA r with | some xs => some (x :: xs) | none => none)
    | none => none)
/-- a tuple is made -/
noncomputable def tupS (vs : List SV) (k : SV → Prop) : Prop := match allV vs with
  | some xs => Ys (Nat.ble xs.length 100) (k (.v (.tup xs)))
  | none => need (allA vs) fun xs => Ys (Nat.ble xs.length 100) (k (.t xs))
noncomputable def instS (s : Sy Ω) (a : SV) (k : Nat → Nat → List (Nat × SV) → Prop) : Prop := need (svS a) fun j => match at_ s.cs j with
  | some (.inst c fs) => k j c fs
  | _ => False

variable (P : Prog) (C : XT Ω)
mutual
noncomputable def sxE : PE → Sy Ω → (SV → Sy Ω → Prop) → (Nat → Sy Ω → Prop) → Prop
  | .cst v, s, k, _ => k (.v v) s
  | .loc i, s, k, _ => need (lk s.loc i) fun v => k v s
  | .glob i, s, k, _ => need (P.glob i) fun v => k (.v v) s
  | .attr e n, s, k, kx => sxE e s (fun o s₁ => attrS s₁ o n fun v => k v s₁) kx
  | .bin fz op l r, s, k, kx => sxE l s (fun a s₁ => sxE r s₁ (fun b s₂ => need (seeS s₂ a) fun x => need (seeS s₂ b) fun y => binK op x y (giveS fz s₂ k)) kx) kx
  | .neg e, s, k, kx => sxE e s (fun a s₁ => need (svV a) fun x => need (aInt x) fun i => k (.v (.int (-i))) s₁) kx
  | .not e, s, k, kx => sxE e s (fun a s₁ => truS s₁ a fun b => k (.v (.bool (!b))) s₁) kx
  | .cmp op l r, s, k, kx => sxE l s (fun a s₁ => sxE r s₁ (fun b s₂ => cmpS s₂ op a b fun c => k (.v (.bool c)) s₂) kx) kx
  | .cmp2 o₁ o₂ x y z, s, k, kx => sxE x s (fun a s₁ => sxE y s₁ (fun b s₂ => cmpS s₂ o₁ a b fun c => Br c (sxE z s₂ (fun d s₃ => cmpS s₃ o₂ b d fun c => k (.v (.bool c)) s₃) kx) (k (.v (.bool false)) s₂)) kx) kx
  | .and es, s, k, kx => sxAnd es s k kx
  | .or es, s, k, kx => sxOr es s k kx
  | .ite t a b, s, k, kx => sxT t s (fun c s₁ => Br c (sxE a s₁ k kx) (sxE b s₁ k kx)) kx
  | .list fz es, s, k, kx => sxEs es s (fun vs s₁ => need (allV vs) fun xs => giveS fz s₁ k (.newList xs)) kx
  | .tup es, s, k, kx => sxEs es s (fun vs s₁ => tupS vs fun a => k a s₁) kx
  | .dict kvs, s, k, kx => sxKV kvs s (fun kvs s₁ => Ys (Nat.ble kvs.length 100) (Ys (keysOk (dKeys kvs)) (newS s₁ (.dict kvs) fun n s' => k (.s n) s'))) kx
  | .idx e i, s, k, kx => sxE e s (fun a s₁ => sxE i s₁ (fun b s₂ => idxS s₂ a b fun v => k v s₂) kx) kx
  | .sl fz e lo hi, s, k, kx => sxE e s (fun a s₁ => sxO lo s₁ (fun l s₂ => sxO hi s₂ (fun h s₃ => need (optIS l) fun l => need (optIS h) fun h => need (seeS s₃ a) fun x => slK x l h (giveS fz s₃ k)) kx) kx) kx
  | .rev fz e, s, k, kx => sxE e s (fun a s₁ => need (seeS s₁ a) fun x => need (aLst x) fun xs => giveS fz s₁ k (.newList xs.reverse)) kx
  | .call fz f as, s, k, kx => sxE f s (fun g s₁ => sxEs as s₁ (fun vs s₂ => callS P C fz g vs s₂ k kx) kx) kx
  | .sortedRev fz e, s, k, kx => sxE e s (fun a s₁ => need (seeS s₁ a) fun x => intsK x fun l => giveS fz s₁ k (.newList ((srt l).reverse.map .int))) kx
  | .sortedU fz x y, s, k, kx => sxE x s (fun a s₁ => sxE y s₁ (fun b s₂ => need (seeS s₂ a) fun p => need (seeS s₂ b) fun q => intsK p fun l => intsK q fun m => giveS fz s₂ k (.newList ((mkSet (l ++ m)).map .int))) kx) kx
  | .lenSet e, s, k, kx => sxE e s (fun a s₁ => need (seeS s₁ a) fun x => intsK x fun l => k (.v (.int (mkSet l).length)) s₁) kx
  | .meth fz o n as, s, k, kx => sxE o s (fun a s₁ => match a with
    | .s j => (match at_ s₁.cs j with
      | some (.inst c _) => need (P.cls c) fun cl => need (lk cl.meths n) fun f => sxEs as s₁ (fun vs s₂ => C f (.s j :: vs) s₂ (giveVS fz k) kx) kx
      | some (.list _) => Ys (Nat.beq n P.nAppend || (Nat.beq n P.nPop || Nat.beq n P.nExtend)) (sxEs as s₁ (fun vs s₂ => need (scL (at_ s₂.cs j)) fun xs => methLS P s₂ j n xs vs k) kx)
      | some (.dict _) => False
      | some (.w c _) => need (P.cls c) fun cl => need (lk cl.meths n) fun f => sxEs as s₁ (fun vs s₂ => C f (.s j :: vs) s₂ (giveVS fz k) kx) kx
      | _ => False)
    | _ => False) kx
  | .comp fz elt ts it cond, s, k, kx => sxE it s (fun a s₁ => need (itemsS s₁ a) fun xs =>
      CompX a xs (fun x s₂ k₁ => bindTS ts x s₂ fun s₃ => sxC cond s₃ k₁ noX) (fun s₂ k₁ => sxE elt s₂ k₁ noX) xs (s₁.withLoc (rms s₁.loc ts)) fun ys s₂ => giveS fz (s₂.withLoc s₁.loc) k (.newList ys)) kx
noncomputable def sxT : PC → Sy Ω → (Bool → Sy Ω → Prop) → (Nat → Sy Ω → Prop) → Prop
  | .not e, s, k, kx => sxT e s (fun b s₁ => k (!b) s₁) kx
  | .and es, s, k, kx => sxAllT es s k kx
  | .or es, s, k, kx => sxAnyT es s k kx
  | .e e, s, k, kx => sxE e s (fun v s₁ => truS s₁ v fun b => k b s₁) kx
noncomputable def sxAllT : PCs → Sy Ω → (Bool → Sy Ω → Prop) → (Nat → Sy Ω → Prop) → Prop
  | .nil, s, k, _ => k true s
  | .cons e r, s, k, kx => sxT e s (fun b s₁ => Br b (sxAllT r s₁ k kx) (k false s₁)) kx
noncomputable def sxAnyT : PCs → Sy Ω → (Bool → Sy Ω → Prop) → (Nat → Sy Ω → Prop) → Prop
  | .nil, s, k, _ => k false s
  | .cons e r, s, k, kx => sxT e s (fun b s₁ => Br b (k true s₁) (sxAnyT r s₁ k kx)) kx
noncomputable def sxAnd : PEs → Sy Ω → (SV → Sy Ω → Prop) → (Nat → Sy Ω → Prop) → Prop
  | .nil, _, _, _ => False
  | .cons e r, s, k, kx => sxE e s (fun v s₁ => (match r with
    | .nil => k v s₁
    | .cons _ _ => truS s₁ v fun b => Br b (sxAnd r s₁ k kx) (k v s₁))) kx
noncomputable def sxOr : PEs → Sy Ω → (SV → Sy Ω → Prop) → (Nat → Sy Ω → Prop) → Prop
  | .nil, _, _, _ => False
  | .cons e r, s, k, kx => sxE e s (fun v s₁ => (match r with
    | .nil => k v s₁
    | .cons _ _ => truS s₁ v fun b => Br b (k v s₁) (sxOr r s₁ k kx))) kx
noncomputable def sxEs : PEs → Sy Ω → (List SV → Sy Ω → Prop) → (Nat → Sy Ω → Prop) → Prop
  | .nil, s, k, _ => k [] s
  | .cons e r, s, k, kx => sxE e s (fun v s₁ => sxEs r s₁ (fun vs s₂ => k (v :: vs) s₂) kx) kx
noncomputable def sxKV : PKV → Sy Ω → (List (V × SV) → Sy Ω → Prop) → (Nat → Sy Ω → Prop) → Prop
  | .nil, s, k, _ => k [] s
  | .cons e v r, s, k, kx => sxE e s (fun a s₁ => sxE v s₁ (fun b s₂ => sxKV r s₂ (fun r s₃ => need (svV a) fun x => k ((x, b) :: r) s₃) kx) kx) kx
noncomputable def sxO : PEo → Sy Ω → (Option SV → Sy Ω → Prop) → (Nat → Sy Ω → Prop) → Prop
  | .none, s, k, _ => k none s
  | .some e, s, k, kx => sxE e s (fun v s₁ => k (some v) s₁) kx
noncomputable def sxC : PCo → Sy Ω → (Bool → Sy Ω → Prop) → (Nat → Sy Ω → Prop) → Prop
  | .none, s, k, _ => k true s
  | .some e, s, k, kx => sxT e s k kx
end

/-- a thing stored in an object -/
noncomputable def putAS (a : SV) (n : Nat) (v : SV) (s : Sy Ω) (k : Sy Ω → Prop) : Prop := instS s a fun j c fs => need (P.cls c) fun cl => Ys (cl.attrs.contains n) (Ys (Nat.blt fs.length 1000) (stK fs n v fun gs => setS s j (.inst c gs) k))
noncomputable def asgnS (t : PT) (v : SV) (s : Sy Ω) (k : Sy Ω → Prop) (kx : Nat → Sy Ω → Prop) : Prop := match t with
  | .loc i => putS s i v k
  | .attr o n => sxE P C o s (fun a s₁ => putAS P a n v s₁ k) kx
  | .idx _ _ => False
  | .tup _ => False
noncomputable def augS (op : BOp) (a b : SV) (k : SV → Prop) : Prop := need (svV a) fun x => need (svV b) fun y => augK op x y fun v => k (.v v)
noncomputable def asPutS (as : Option Nat) (j : Nat) (s : Sy Ω) : Sy Ω := match as with
  | some n => s.put n (.s j)
  | none => s
noncomputable def asUnbS (as : Option Nat) (s : Sy Ω) : Sy Ω := match as with
  | some n => s.withLoc (rm s.loc n)
  | none => s

mutual
noncomputable def sxS : PS → Sy Ω → (FX → Sy Ω → Prop) → (Nat → Sy Ω → Prop) → Prop
  | .expr e, s, k, kx => sxE P C e s (fun _ s₁ => k .next s₁) kx
  | .pass, s, k, _ => k .next s
  | .assign t e, s, k, kx => sxE P C e s (fun v s₁ => asgnS P C t v s₁ (fun s₂ => k .next s₂) kx) kx
  | .augLoc i op e, s, k, kx => need (lk s.loc i) fun a => sxE P C e s (fun b s₁ => augS op a b fun v => putS s₁ i v fun s₂ => k .next s₂) kx
  | .augAttr o n op e, s, k, kx => sxE P C o s (fun a s₁ => instS s₁ a fun _ _ fs => need (lk fs n) fun x => sxE P C e s₁ (fun b s₂ => augS op x b fun v => putAS P a n v s₂ fun s₃ => k .next s₃) kx) kx
  | .ret e, s, k, kx => sxO P C e s (fun v s₁ => k (.ret (v.getD (.v .none))) s₁) kx
  | .ite t a b, s, k, kx => sxT P C t s (fun c s₁ => Br c (sxSs a s₁ k kx) (sxSs b s₁ k kx)) kx
  | .loop ts it body, s, k, kx => sxE P C it s (fun a s₁ => need (itemsS s₁ a) fun xs =>
      LoopX a xs (fun x s₂ k₁ => bindTS ts x s₂ fun s₃ => sxSs body s₃ k₁ noX) xs s₁ k) kx
  | .loopEnum i x it body, s, k, kx => sxE P C it s (fun a s₁ => need (seeS s₁ a) fun y => need (aLst y) fun xs =>
      LoopX a xs (fun v s₂ k₁ => bindTS [i, x] v s₂ fun s₃ => sxSs body s₃ k₁ noX) (enumL 0 xs) s₁ k) kx
  | .while_ _ _, _, _, _ => False
  | .raise i e, s, _, kx => need (P.glob i) fun v => need (aCls v) fun c => Ys (P.exc c) (sxE P C e s (fun _ s₁ => newS s₁ (.exc c) kx) noX)
  | .try_ body i as h, s, k, _ => need (P.glob i) fun v => need (aCls v) fun c => sxSs body s k fun j s₁ => need (scE (at_ s₁.cs j)) fun m => Ys (P.exc c) (Ys (P.sub m c) (sxSs h (asPutS as j s₁) (fun fl s₂ => k fl (asUnbS as s₂)) noX))
noncomputable def sxSs : PSs → Sy Ω → (FX → Sy Ω → Prop) → (Nat → Sy Ω → Prop) → Prop
  | .nil, s, k, _ => k .next s
  | .cons c r, s, k, kx => sxS c s (fun fl s₁ => seqS fl s₁ (fun s₂ => sxSs r s₂ k kx) k) kx
end

/-- the things of a call are bound to its names -/
noncomputable def bindPS : List Nat → List SV → List (Nat × SV) → Option (List (Nat × SV))
  | [], as, m => (match as with | [] => some m | _ => none)
  | p :: ps, as, m => (match as with | a :: as => bindPS ps as (st m p a) | [] => none)
noncomputable def retX : FX → SV
  | .ret v => v
  | _ => .v .none
/-- what is known of a def: how deep it calls, what it does -/
abbrev Spc (Ω : Type) := Nat → Option (Nat × (List SV → Sy Ω → (SV → Sy Ω → Prop) → (Nat → Sy Ω → Prop) → Prop))
end
/-- a call: by what is known of it, else by its text -/
noncomputable def callX {Ω : Type} (P : Prog) (sp : Spc Ω) : Nat → XT Ω
  | 0, _, _, _, _, _ => False
  | m + 1, f, as, s, k, kx => match sp f with
    | some (d, r) => Ys (Nat.ble d (m + 1)) (r as s k kx)
    | none => need (P.fn f) fun d => need (bindPS d.params as []) fun l =>
        (match s with
        | ⟨cs, lo, w⟩ => sxSs P (callX P sp m) d.body ⟨cs, l, w⟩ (fun fl s₁ => k (retX fl) (s₁.withLoc lo)) fun j s₁ => kx j (s₁.withLoc lo))
end Mine

end

section
set_option autoImplicit false
set_option linter.all false
set_option genSizeOf false
set_option genInjectivity false
namespace Mine
open PySem (Str)

theorem Br_i {b : Bool} {t e : Prop} (h1 : b = true → t) (h2 : b = false → e) : Br b t e := by
  cases b with
  | true => exact h1 rfl
  | false => exact h2 rfl
theorem Br_m {b : Bool} {t e t' e' : Prop} (h : Br b t e) (h1 : t → t') (h2 : e → e') : Br b t' e' := by
  cases b with
  | true => exact h1 h
  | false => exact h2 h
theorem Ys_e {b : Bool} {t G : Prop} (h : Ys b t) (g : b = true → t → G) : G := Br_e h g fun _ h => h.elim
theorem Ys_i {b : Bool} {t : Prop} (e : b = true) (h : t) : Ys b t := by subst e; exact h

/-- what else the heap holds -/
structure MEnv (Ω : Type) where
  I : Ω → Hp → (Nat → Prop) → Prop
  Is : Ω → Nat → Nat → List (Nat × V) → List (Nat × V) → Prop
  keep : ∀ w H H' F, I w H F → (∀ a, F a → H'.get a = H.get a) → H.next ≤ H'.next → I w H' F
  obj : ∀ w a c fs fs', Is w a c fs fs' → ∀ n v, lk fs n = some v → lk fs' n = some v

section
variable {Ω : Type}
noncomputable def mR (o : Option Nat) : Option V := match o with
  | some a => some (.ref a)
  | none => none
noncomputable def dnA (ad : List Nat) : SA → Option V
  | .v x => some x
  | .s j => mR ad[j]?
noncomputable def dnAs (ad : List Nat) : List SA → Option (List V)
  | [] => some []
  | a :: r => (match dnA ad a with
    | some v => (match dnAs ad r with | some vs => some (v :: vs) | none => none)
    | none => none)
noncomputable def dn (ad : List Nat) : SV → Option V
  | .v x => some x
  | .s j => mR ad[j]?
  | .l xs => mL (dnAs ad xs)
  | .t xs => mT (dnAs ad xs)
inductive DnL (ad : List Nat) : List SV → List V → Prop
  | nil : DnL ad [] []
  | cons {a : SV} {v : V} {r : List SV} {vs : List V} : dn ad a = some v → DnL ad r vs → DnL ad (a :: r) (v :: vs)
inductive DnF {κ : Type} (ad : List Nat) : List (κ × SV) → List (κ × V) → Prop
  | nil : DnF ad [] []
  | cons {k : κ} {a : SV} {v : V} {r : List (κ × SV)} {vs : List (κ × V)} : dn ad a = some v → DnF ad r vs → DnF ad ((k, a) :: r) ((k, v) :: vs)
inductive CR (D : Nat → List (Nat × V) → List (Nat × V) → Prop) (ad : List Nat) : SC → C → Prop
  | list (xs : List V) : CR D ad (.list xs) (.list xs)
  | dict {kvs : List (V × SV)} {kvs' : List (V × V)} : DnF ad kvs kvs' → CR D ad (.dict kvs) (.dict kvs')
  | inst {k : Nat} {fs : List (Nat × SV)} {fs' : List (Nat × V)} : DnF ad fs fs' → CR D ad (.inst k fs) (.inst k fs')
  | exc (k : Nat) : CR D ad (.exc k) (.exc k)
  | w {k : Nat} {fs fs' : List (Nat × V)} : D k fs fs' → CR D ad (.w k fs) (.inst k fs')
inductive CA (D : Nat → Nat → List (Nat × V) → List (Nat × V) → Prop) (ad : List Nat) (H : Hp) (a : Nat) : SC → Prop
  | dead : CA D ad H a .dead
  | mk {c : SC} (d : C) (g : H.get a = some d) (r : CR (D a) ad c d) : CA D ad H a c
structure Mt (M : MEnv Ω) (ad : List Nat) (s : Sy Ω) (σ : St) : Prop where
  len : ad.length = s.cs.length
  cell : ∀ (j a : Nat) (c : SC), ad[j]? = some a → at_ s.cs j = some c → CA (M.Is s.w) ad σ.H a c
  nd : ∀ (i j a : Nat), ad[i]? = some a → ad[j]? = some a → i = j
  lt : ∀ (j a : Nat), ad[j]? = some a → a < σ.H.next
  loc : ∀ i sv, lk s.loc i = some sv → ∃ v, dn ad sv = some v ∧ σ.loc i = some v
  res : ∃ F, M.I s.w σ.H F ∧ (∀ (j a : Nat), ad[j]? = some a → ¬ F a) ∧ ∀ a, F a → a < σ.H.next
noncomputable def Ext (ad ad' : List Nat) : Prop := ∃ t, ad' = ad ++ t
theorem Ext.refl (ad : List Nat) : Ext ad ad := ⟨[], (List.append_nil _).symm⟩
theorem Ext.trans {a b c : List Nat} (x : Ext a b) (y : Ext b c) : Ext a c := x.elim fun t e => y.elim fun u e' => ⟨t ++ u, by rw [e', e, List.append_assoc]⟩
theorem Ext.at_ {a b : List Nat} (x : Ext a b) {j n : Nat} (h : a[j]? = some n) : b[j]? = some n := x.elim fun t e => by
  rw [e, List.getElem?_append_left (List.getElem?_eq_some_iff.mp h).1]; exact h
theorem mR_e {o : Option Nat} {v : V} (h : mR o = some v) : ∃ a, o = some a ∧ v = .ref a := by
  cases o with
  | none => cases h
  | some a => exact ⟨a, rfl, (Option.some.inj h).symm⟩
theorem mR_at {ad ad' : List Nat} (x : Ext ad ad') {j : Nat} {v : V} (h : mR ad[j]? = some v) : mR ad'[j]? = some v := (mR_e h).elim fun a e => by rw [x.at_ e.1, e.2]; rfl
theorem dnA_mono {ad ad' : List Nat} (x : Ext ad ad') {a : SA} {v : V} (h : dnA ad a = some v) : dnA ad' a = some v := by
  cases a with
  | v y => exact h
  | s j => exact mR_at x h
theorem dnAs_cons {ad : List Nat} {a : SA} {r : List SA} {vs : List V} {G : Prop} (h : dnAs ad (a :: r) = some vs) (g : ∀ v ws, dnA ad a = some v → dnAs ad r = some ws → vs = v :: ws → G) : G := by
  have h : (match dnA ad a with | some v => (match dnAs ad r with | some vs => some (v :: vs) | none => none) | none => none) = some vs := h
  generalize dnA ad a = p at h g
  cases p with
  | none => cases h
  | some v =>
    generalize dnAs ad r = q at h g
    cases q with
    | none => cases h
    | some ws => exact g v ws rfl rfl (Option.some.inj h).symm
theorem dnAs_i {ad : List Nat} {a : SA} {r : List SA} {v : V} {ws : List V} (h1 : dnA ad a = some v) (h2 : dnAs ad r = some ws) : dnAs ad (a :: r) = some (v :: ws) := by
  show (match dnA ad a with | some v => (match dnAs ad r with | some vs => some (v :: vs) | none => none) | none => none) = _
  rw [h1, h2]
theorem dnAs_mono {ad ad' : List Nat} (x : Ext ad ad') : ∀ {a : List SA} {v : List V}, dnAs ad a = some v → dnAs ad' a = some v
  | [], _, h => h
  | a :: r, vs, h => dnAs_cons h fun v ws h1 h2 e => e ▸ dnAs_i (dnA_mono x h1) (dnAs_mono x h2)
theorem dnAs_len {ad : List Nat} : ∀ {a : List SA} {v : List V}, dnAs ad a = some v → v.length = a.length
  | [], _, h => (Option.some.inj h) ▸ rfl
  | a :: r, vs, h => dnAs_cons h fun v ws h1 h2 e => e ▸ congrArg (· + 1) (dnAs_len h2)
theorem dnAs_at {ad : List Nat} : ∀ {a : List SA} {v : List V} {n : Nat} {x : SA}, dnAs ad a = some v → a[n]? = some x → ∃ w, v[n]? = some w ∧ dnA ad x = some w
  | [], _, _, _, h, e => by cases e
  | a :: r, vs, 0, x, h, e => dnAs_cons h fun v ws h1 h2 e' => ⟨v, by rw [e']; rfl, Option.some.inj e ▸ h1⟩
  | a :: r, vs, n + 1, x, h, e => dnAs_cons h fun v ws h1 h2 e' => (dnAs_at h2 e).elim fun w q => ⟨w, by rw [e']; exact q.1, q.2⟩
theorem dn_mono {ad ad' : List Nat} (x : Ext ad ad') {a : SV} {v : V} (h : dn ad a = some v) : dn ad' a = some v := by
  cases a with
  | v y => exact h
  | t xs => exact (mT_e h).elim fun vs e => by show mT (dnAs ad' xs) = _; rw [dnAs_mono x e.1, e.2]; rfl
  | l xs => exact (mL_e h).elim fun vs e => by show mL (dnAs ad' xs) = _; rw [dnAs_mono x e.1, e.2]; rfl
  | s j => exact mR_at x h
theorem DnL.mono {ad ad' : List Nat} (x : Ext ad ad') {a : List SV} {v : List V} (h : DnL ad a v) : DnL ad' a v := by
  induction h with
  | nil => exact .nil
  | cons d _ ih => exact .cons (dn_mono x d) ih
theorem DnF.mono {κ : Type} {ad ad' : List Nat} (x : Ext ad ad') {a : List (κ × SV)} {v : List (κ × V)} (h : DnF ad a v) : DnF ad' a v := by
  induction h with
  | nil => exact .nil
  | cons d _ ih => exact .cons (dn_mono x d) ih
theorem CR.mono {D : Nat → List (Nat × V) → List (Nat × V) → Prop} {ad ad' : List Nat} (x : Ext ad ad') {c : SC} {d : C} (h : CR D ad c d) : CR D ad' c d := by
  cases h with
  | list xs => exact .list xs
  | dict h => exact .dict (h.mono x)
  | inst h => exact .inst (h.mono x)
  | exc k => exact .exc k
  | w h => exact .w h
theorem dn_at {ad : List Nat} {j a : Nat} (h : ad[j]? = some a) : dn ad (.s j) = some (.ref a) := by show mR ad[j]? = _; rw [h]; rfl
theorem beq_nat {a b : Nat} : Nat.beq a b = true → a = b := Nat.eq_of_beq_eq_true
theorem beq_no {a b : Nat} : Nat.beq a b = false → a ≠ b := Nat.ne_of_beq_eq_false
theorem at_eq {cs : List SC} : ∀ {j : Nat}, at_ cs j = cs[j]? := by
  induction cs with
  | nil => intro j; rfl
  | cons c r ih =>
    intro j
    cases j with
    | zero => rfl
    | succ n => exact ih
theorem setAt_eq {cs : List SC} {d : SC} : ∀ {j : Nat}, setAt cs j d = cs.set j d := by
  induction cs with
  | nil => intro j; rfl
  | cons c r ih =>
    intro j
    cases j with
    | zero => rfl
    | succ n => exact congrArg (c :: ·) ih
theorem at_len {cs : List SC} {j : Nat} {c : SC} (h : at_ cs j = some c) : j < cs.length := by rw [at_eq] at h; exact (List.getElem?_eq_some_iff.mp h).1
theorem cond_e {α : Type} {b : Bool} {x y z : α} {G : Prop} (h : cond b x y = z) (g1 : b = true → x = z → G) (g2 : b = false → y = z → G) : G := by
  cases b with
  | true => exact g1 rfl h
  | false => exact g2 rfl h
theorem cond_t {α : Type} {b : Bool} {x y : α} (h : b = true) : cond b x y = x := by rw [h]; rfl
theorem cond_f {α : Type} {b : Bool} {x y : α} (h : b = false) : cond b x y = y := by rw [h]; rfl
theorem beq_t {a : Nat} : Nat.beq a a = true := Nat.beq_refl a
theorem beq_f {a b : Nat} (h : a ≠ b) : Nat.beq a b = false := by
  cases e : Nat.beq a b with
  | true => exact absurd (beq_nat e) h
  | false => rfl
theorem lk_st {α : Type} {l : List (Nat × α)} {i : Nat} {v : α} {j : Nat} {w : α} (h : lk (st l i v) j = some w) : (j = i ∧ w = v) ∨ (j ≠ i ∧ lk l j = some w) := by
  induction l with
  | nil => exact cond_e h (fun e q => .inl ⟨(beq_nat e).symm, (Option.some.inj q).symm⟩) fun _ q => (nomatch q)
  | cons p r ih =>
    have h : lk (cond (Nat.beq p.1 i) ((p.1, v) :: r) (p :: st r i v)) j = some w := h
    cases e : Nat.beq p.1 i with
    | true =>
      rw [e] at h
      refine cond_e (h : cond (Nat.beq p.1 j) (some v) (lk r j) = some w) (fun e2 q => .inl ⟨(beq_nat e2).symm.trans (beq_nat e), (Option.some.inj q).symm⟩) fun e2 q => .inr ⟨fun z => beq_no e2 (beq_nat e ▸ z.symm), ?_⟩
      show cond (Nat.beq p.1 j) _ _ = _
      rw [e2]; exact q
    | false =>
      rw [e] at h
      refine cond_e (h : cond (Nat.beq p.1 j) (some p.2) (lk (st r i v) j) = some w) (fun e2 q => .inr ⟨fun z => beq_no e ((beq_nat e2).trans z), ?_⟩) fun e2 q => (ih q).imp id fun ⟨a, b⟩ => ⟨a, ?_⟩
      · show cond (Nat.beq p.1 j) _ _ = _
        rw [e2]; exact q
      · show cond (Nat.beq p.1 j) _ _ = _
        rw [e2]; exact b
theorem lk_rm {α : Type} {l : List (Nat × α)} {i j : Nat} {w : α} (h : lk (rm l i) j = some w) : j ≠ i ∧ lk l j = some w := by
  induction l with
  | nil => cases h
  | cons p r ih =>
    have h : lk (cond (Nat.beq p.1 i) (rm r i) (p :: rm r i)) j = some w := h
    show _ ∧ cond (Nat.beq p.1 j) (some p.2) (lk r j) = some w
    cases e : Nat.beq p.1 i with
    | true =>
      rw [e] at h
      obtain ⟨a, b⟩ := ih h
      rw [beq_f (a := p.1) (b := j) fun z => a (z.symm.trans (beq_nat e))]
      exact ⟨a, b⟩
    | false =>
      rw [e] at h
      refine cond_e (h : cond (Nat.beq p.1 j) (some p.2) (lk (rm r i) j) = some w) (fun e2 q => ⟨fun z => beq_no e ((beq_nat e2).trans z), by rw [e2]; exact q⟩) fun e2 q => ?_
      rw [e2]; exact ih q
theorem lk_rms {α : Type} {ts : List Nat} : ∀ {l : List (Nat × α)} {j : Nat} {w : α}, lk (rms l ts) j = some w → j ∉ ts ∧ lk l j = some w := by
  induction ts with
  | nil => intro l j w h; exact ⟨List.not_mem_nil, h⟩
  | cons t ts ih =>
    intro l j w h
    obtain ⟨a, b⟩ := ih h
    obtain ⟨c, d⟩ := lk_rm b
    exact ⟨fun z => (List.mem_cons.mp z).elim c a, d⟩
theorem DnF.lk {ad : List Nat} {fs : List (Nat × SV)} {fs' : List (Nat × V)} (h : DnF ad fs fs') {n : Nat} {a : SV} (e : Mine.lk fs n = some a) : ∃ v, dn ad a = some v ∧ Mine.lk fs' n = some v := by
  induction h with
  | nil => cases e
  | @cons k b v r vs hd _ ih =>
    refine cond_e (e : cond (Nat.beq k n) (some b) (Mine.lk r n) = some a) (fun e2 q => ⟨v, Option.some.inj q ▸ hd, ?_⟩) fun e2 q => (ih q).imp fun w q => ⟨q.1, ?_⟩
    · show cond (Nat.beq k n) _ _ = _; rw [e2]; rfl
    · show cond (Nat.beq k n) _ _ = _; rw [e2]; exact q.2
theorem DnF.st {ad : List Nat} {n : Nat} {a : SV} {v : V} (hv : dn ad a = some v) {fs : List (Nat × SV)} {fs' : List (Nat × V)} (h : DnF ad fs fs') : DnF ad (Mine.st fs n a) (Mine.st fs' n v) := by
  induction h with
  | nil => exact .cons hv .nil
  | @cons k b w r vs hd hr ih =>
    show DnF ad (cond (Nat.beq k n) ((k, a) :: r) ((k, b) :: Mine.st r n a)) (cond (Nat.beq k n) ((k, v) :: vs) ((k, w) :: Mine.st vs n v))
    cases Nat.beq k n with
    | true => exact .cons hv hr
    | false => exact .cons hd ih
theorem DnF.len {κ : Type} {ad : List Nat} {fs : List (κ × SV)} {fs' : List (κ × V)} (h : DnF ad fs fs') : fs'.length = fs.length := by
  induction h with
  | nil => rfl
  | cons _ _ ih => exact congrArg (· + 1) ih
theorem DnF.keys {ad : List Nat} {fs : List (V × SV)} {fs' : List (V × V)} (h : DnF ad fs fs') : dKeys fs' = dKeys fs := by
  induction h with
  | nil => rfl
  | @cons k _ _ _ _ _ _ ih => exact congrArg (k :: ·) ih
inductive DG (ad : List Nat) (o : Option SV) (o' : Option V) : Prop
  | none (a : o = none) (b : o' = none)
  | some (x : SV) (v : V) (a : o = some x) (b : o' = some v) (d : dn ad x = some v)
theorem DnF.dGet {ad : List Nat} {x : V} {kvs : List (V × SV)} {kvs' : List (V × V)} (h : DnF ad kvs kvs') : DG ad (Mine.dGet kvs x) (Mine.dGet kvs' x) := by
  induction h with
  | nil => exact .none rfl rfl
  | @cons k b w r vs hd hr ih =>
    show DG ad (cond (eqD k x) (some b) (Mine.dGet r x)) (cond (eqD k x) (some w) (Mine.dGet vs x))
    cases eqD k x with
    | true => exact .some b w rfl rfl hd
    | false => exact ih
theorem DnF.dSet {ad : List Nat} {x : V} {a : SV} {v : V} (hv : dn ad a = some v) {kvs : List (V × SV)} {kvs' : List (V × V)} (h : DnF ad kvs kvs') : DnF ad (Mine.dSet kvs x a) (Mine.dSet kvs' x v) := by
  induction h with
  | nil => exact .cons hv .nil
  | @cons k b w r vs hd hr ih =>
    show DnF ad (cond (eqD k x) ((k, a) :: r) ((k, b) :: Mine.dSet r x a)) (cond (eqD k x) ((k, v) :: vs) ((k, w) :: Mine.dSet vs x v))
    cases eqD k x with
    | true => exact .cons hv hr
    | false => exact .cons hd ih
theorem stK_iff {α : Type} {n : Nat} {v : α} : ∀ {fs : List (Nat × α)} {k : List (Nat × α) → Prop}, stK fs n v k = k (st fs n v)
  | [], _ => rfl
  | p :: r, k => by
    show Br (Nat.beq p.1 n) (k ((p.1, v) :: r)) (stK r n v fun r' => k (p :: r')) = k (cond (Nat.beq p.1 n) ((p.1, v) :: r) (p :: st r n v))
    rw [stK_iff]
    cases Nat.beq p.1 n <;> rfl
theorem setK_iff {d : SC} : ∀ {cs : List SC} {n : Nat} {k : List SC → Prop}, setK cs n d k = k (setAt cs n d)
  | [], _, _ => rfl
  | c :: r, 0, k => rfl
  | c :: r, n + 1, k => setK_iff (cs := r) (n := n) (k := fun r' => k (c :: r'))
theorem snK_iff {c : SC} : ∀ {cs : List SC} {n : Nat} {k : Nat → List SC → Prop}, snK cs n c k = k (n + cs.length) (cs ++ [c])
  | [], _, _ => rfl
  | x :: r, n, k => by
    refine (snK_iff (cs := r) (n := n + 1) (k := fun m r' => k m (x :: r'))).trans ?_
    show k (n + 1 + r.length) _ = k (n + (r.length + 1)) _
    rw [Nat.add_assoc, Nat.add_comm 1]; rfl
theorem putS_iff {s : Sy Ω} {i : Nat} {v : SV} {k : Sy Ω → Prop} : putS s i v k = k (s.put i v) := by cases s; exact stK_iff
theorem setS_iff {s : Sy Ω} {j : Nat} {c : SC} {k : Sy Ω → Prop} : setS s j c k = k (s.setC j c) := by cases s; exact setK_iff
theorem newS_iff {s : Sy Ω} {c : SC} {k : Nat → Sy Ω → Prop} : newS s c k = k s.nx (s.new c) := by
  cases s
  refine (snK_iff (k := fun n cs => k n ⟨cs, _, _⟩)).trans ?_
  rw [Nat.zero_add]; rfl
theorem putS_i {s : Sy Ω} {i : Nat} {v : SV} {k : Sy Ω → Prop} (h : k (s.put i v)) : putS s i v k := Eq.mpr putS_iff h
theorem setS_i {s : Sy Ω} {j : Nat} {c : SC} {k : Sy Ω → Prop} (h : k (s.setC j c)) : setS s j c k := Eq.mpr setS_iff h
theorem newS_i {s : Sy Ω} {c : SC} {k : Nat → Sy Ω → Prop} (h : k s.nx (s.new c)) : newS s c k := Eq.mpr newS_iff h
theorem bind1_i {s : Sy Ω} {i : Nat} {x : V} {k : Sy Ω → Prop} (h : k (s.put i (.v x))) : bindTS [i] x s k := putS_i h
theorem putS_ok {s : Sy Ω} {i : Nat} {v : SV} {k : Sy Ω → Prop} (h : putS s i v k) : k (s.put i v) := Eq.mp putS_iff h
theorem setS_ok {s : Sy Ω} {j : Nat} {c : SC} {k : Sy Ω → Prop} (h : setS s j c k) : k (s.setC j c) := Eq.mp setS_iff h
theorem newS_ok {s : Sy Ω} {c : SC} {k : Nat → Sy Ω → Prop} (h : newS s c k) : k s.nx (s.new c) := Eq.mp newS_iff h
end
end Mine

end

section
set_option autoImplicit false
set_option linter.all false
set_option genSizeOf false
set_option genInjectivity false
namespace Mine
open PySem (Str)
section
variable {Ω : Type} {M : MEnv Ω}
section
variable {ad : List Nat} {s : Sy Ω} {σ : St} (m : Mt M ad s σ)
include m
theorem Mt.there {j a : Nat} (ha : ad[j]? = some a) {G : Prop} (g : ∀ c, at_ s.cs j = some c → CA (M.Is s.w) ad σ.H a c → G) : G := by
  have hl : j < s.cs.length := by rw [← m.len]; exact (List.getElem?_eq_some_iff.mp ha).1
  have e : at_ s.cs j = some s.cs[j] := by rw [at_eq]; exact List.getElem?_eq_getElem hl
  exact g _ e (m.cell j a _ ha e)
theorem Mt.list {j a : Nat} {xs : List V} (h : Mine.at_ s.cs j = some (.list xs)) (ha : ad[j]? = some a) : σ.H.get a = some (.list xs) := by
  cases m.cell j a _ ha h with
  | mk d g r => cases r; exact g
theorem Mt.exc {j a k : Nat} (h : Mine.at_ s.cs j = some (.exc k)) (ha : ad[j]? = some a) : σ.H.get a = some (.exc k) := by
  cases m.cell j a _ ha h with
  | mk d g r => cases r; exact g
theorem Mt.dict {j a : Nat} {kvs : List (V × SV)} {G : Prop} (h : Mine.at_ s.cs j = some (.dict kvs)) (ha : ad[j]? = some a) (g : ∀ kvs', σ.H.get a = some (.dict kvs') → DnF ad kvs kvs' → G) : G := by
  cases m.cell j a _ ha h with
  | mk d q r => cases r with | dict r => exact g _ q r
theorem Mt.inst {j a k : Nat} {fs : List (Nat × SV)} {G : Prop} (h : Mine.at_ s.cs j = some (.inst k fs)) (ha : ad[j]? = some a) (g : ∀ fs', σ.H.get a = some (.inst k fs') → DnF ad fs fs' → G) : G := by
  cases m.cell j a _ ha h with
  | mk d q r => cases r with | inst r => exact g _ q r
theorem Mt.put {i : Nat} {a : SV} {v : V} (h : dn ad a = some v) : Mt M ad (s.put i a) (σ.put i v) :=
  ⟨m.len, m.cell, m.nd, m.lt, fun j b hb => (lk_st hb).elim (fun q => ⟨v, q.2 ▸ h, by show (if j = i then some v else _) = _; rw [if_pos q.1]⟩) fun q => (m.loc j b q.2).imp fun w z => ⟨z.1, by show (if j = i then some v else _) = _; rw [if_neg q.1]; exact z.2⟩, m.res⟩
theorem Mt.withLoc {l : List (Nat × SV)} {lo : Loc} (h : ∀ i sv, Mine.lk l i = some sv → ∃ v, dn ad sv = some v ∧ lo i = some v) : Mt M ad (s.withLoc l) ⟨σ.H, lo⟩ :=
  ⟨m.len, m.cell, m.nd, m.lt, h, m.res⟩
/-- a cell is changed, or let go -/
theorem Mt.chg {j a : Nat} {c' : SC} {H' : Hp} (ha : ad[j]? = some a) (hn : H'.next = σ.H.next) (ho : ∀ b, b ≠ a → H'.get b = σ.H.get b) (h : CA (M.Is s.w) ad H' a c') : Mt M ad (s.setC j c') (σ.setH H') := by
  refine ⟨?_, fun i b d hb hd => ?_, m.nd, fun j a q => hn ▸ m.lt j a q, m.loc, m.res.imp fun F f => ⟨M.keep _ _ _ _ f.1 (fun x hx => ho x fun z => f.2.1 j a ha (z ▸ hx)) (Nat.le_of_eq hn.symm), f.2.1, fun x hx => hn ▸ f.2.2 x hx⟩⟩
  · show _ = (setAt s.cs j c').length
    rw [setAt_eq, List.length_set]; exact m.len
  · have hd : Mine.at_ (setAt s.cs j c') i = some d := hd
    rw [setAt_eq, at_eq, List.getElem?_set] at hd
    by_cases e : j = i
    · subst e
      have hb : b = a := Option.some.inj (hb.symm.trans ha)
      rw [if_pos rfl, if_pos (by rw [← m.len]; exact (List.getElem?_eq_some_iff.mp ha).1)] at hd
      rw [hb, ← Option.some.inj hd]; exact h
    · rw [if_neg e] at hd
      cases m.cell i b d hb (by rw [at_eq]; exact hd) with
      | dead => exact .dead
      | mk c2 q1 q2 => exact .mk c2 ((ho b fun z => e (m.nd j i a ha (z ▸ hb))).trans q1) q2
theorem Mt.setC {j a : Nat} {c' : SC} {c : C} (ha : ad[j]? = some a) (h : CR (M.Is s.w a) ad c' c) : Mt M ad (s.setC j c') (σ.setH (σ.H.set a c)) :=
  m.chg ha rfl (fun b hb => if_neg hb) (.mk c (if_pos rfl) h)
theorem Mt.dead {j a : Nat} (ha : ad[j]? = some a) : Mt M ad (s.setC j .dead) (σ.setH (σ.H.del a)) := m.chg ha rfl (fun b hb => if_neg hb) .dead
theorem Mt.ext : Ext ad (ad ++ [σ.H.next]) := ⟨_, rfl⟩
theorem Mt.newAt : (ad ++ [σ.H.next])[s.nx]? = some σ.H.next := by
  rw [show s.nx = ad.length from m.len.symm, List.getElem?_append_right (Nat.le_refl _), Nat.sub_self]; rfl
theorem Mt.newDn : dn (ad ++ [σ.H.next]) (.s s.nx) = some (.ref σ.H.next) := dn_at m.newAt
theorem Mt.new {c' : SC} {c : C} (h : CR (M.Is s.w σ.H.next) (ad ++ [σ.H.next]) c' c) : Mt M (ad ++ [σ.H.next]) (s.new c') (σ.setH (σ.H.new c)) := by
  have hx : ∀ {i a}, (ad ++ [σ.H.next])[i]? = some a → (ad[i]? = some a) ∨ (i = ad.length ∧ a = σ.H.next) := fun {i a} h => by
    rw [List.getElem?_append] at h
    by_cases q : i < ad.length
    · rw [if_pos q] at h; exact .inl h
    · rw [if_neg q] at h
      have z : i - ad.length = 0 := Nat.lt_one_iff.mp (List.getElem?_eq_some_iff.mp h).1
      rw [z] at h
      exact .inr ⟨Nat.le_antisymm (Nat.sub_eq_zero_iff_le.mp z) (Nat.le_of_not_lt q), (Option.some.inj h).symm⟩
  have old : ∀ x, x < σ.H.next → (σ.H.new c).get x = σ.H.get x := fun x hx => if_neg (Nat.ne_of_lt hx)
  refine ⟨?_, fun i b d hb hd => ?_, fun i j a hi hj => ?_, fun j a hj => (hx hj).elim (fun q => Nat.lt_succ_of_lt (m.lt j a q)) fun q => q.2 ▸ Nat.lt_succ_self _, fun i sv h => (m.loc i sv h).imp fun v q => ⟨dn_mono m.ext q.1, q.2⟩,
    m.res.imp fun F f => ⟨M.keep _ _ _ _ f.1 (fun x hx => old x (f.2.2 x hx)) (Nat.le_succ _), fun j a hj => (hx hj).elim (f.2.1 j a) fun q z => Nat.lt_irrefl _ (f.2.2 _ (q.2 ▸ z)), fun a ha => Nat.lt_succ_of_lt (f.2.2 a ha)⟩⟩
  · show _ = (s.cs ++ [c']).length
    rw [List.length_append, List.length_append, m.len]; rfl
  · have hd : Mine.at_ (s.cs ++ [c']) i = some d := hd
    rw [at_eq] at hd
    rcases hx hb with q | ⟨rfl, rfl⟩
    · rw [List.getElem?_append_left (by rw [← m.len]; exact (List.getElem?_eq_some_iff.mp q).1)] at hd
      cases m.cell i b d q (by rw [at_eq]; exact hd) with
      | dead => exact .dead
      | mk c2 q1 q2 => exact .mk c2 ((old b (m.lt i b q)).trans q1) (q2.mono m.ext)
    · rw [List.getElem?_append_right (by rw [m.len]; exact Nat.le_refl _), m.len, Nat.sub_self] at hd
      rw [← Option.some.inj hd]
      exact .mk c (if_pos rfl) h
  · rcases hx hi with q | q <;> rcases hx hj with q' | q'
    · exact m.nd i j a q q'
    · exact absurd (m.lt i a q) (by rw [q'.2]; exact Nat.lt_irrefl _)
    · exact absurd (m.lt j a q') (by rw [q.2]; exact Nat.lt_irrefl _)
    · exact q.1.trans q'.1.symm
end

/-! how things are seen -/
theorem seeV_ok {H : Hp} {x y : V} (h : seeV x = some y) : see H x = some y := by cases x <;> first | exact h | (cases h; done)
theorem seeS_ok {ad : List Nat} {s : Sy Ω} {σ : St} (m : Mt M ad s σ) {a : SV} {v x : V} (d : dn ad a = some v) (h : seeS s a = some x) : see σ.H v = some x := by
  cases a with
  | v y => exact Option.some.inj d ▸ seeV_ok h
  | s j =>
    obtain ⟨n, hn, rfl⟩ := mR_e d
    have h : mL (scL (at_ s.cs j)) = some x := h
    show mL (cL (σ.H.get n)) = _
    refine m.there hn fun c hc r => ?_
    rw [hc] at h
    cases r with
    | dead => cases h
    | mk c' g r =>
      rw [g]
      cases r with
      | list ys => exact h
      | _ => cases h
  | _ => cases h
theorem kindS_ok {ad : List Nat} {s : Sy Ω} {σ : St} (m : Mt M ad s σ) {a : SV} {v : V} {q : Kd} (d : dn ad a = some v) (h : kindS s a = some q) : kind σ.H v = some q := by
  cases a with
  | v y =>
    cases d
    cases v <;> first | exact h | (cases h; done)
  | s j =>
    obtain ⟨n, hn, rfl⟩ := mR_e d
    show kdC (σ.H.get n) = _
    refine m.there hn fun c hc r => ?_
    have h : (match at_ s.cs j with | some (.list _) => some Kd.list | some (.inst k _) => some (.inst k) | some (.exc k) => some (.exc k) | some (.w k _) => some (.inst k) | _ => none) = some q := h
    rw [hc] at h
    cases r with
    | dead => cases h
    | mk c' g r => rw [g]; cases r <;> exact h
  | t xs =>
    obtain ⟨vs, _, rfl⟩ := mT_e d
    exact h
  | l xs =>
    obtain ⟨vs, _, rfl⟩ := mL_e d
    exact h
theorem lenS_ok {ad : List Nat} {s : Sy Ω} {σ : St} (m : Mt M ad s σ) {a : SV} {v : V} {q : Nat} (d : dn ad a = some v) (h : lenS s a = some q) : lenH σ.H v = some q := by
  cases a with
  | v y =>
    cases d
    cases v <;> first | exact h | (cases h; done)
  | s j =>
    obtain ⟨n, hn, rfl⟩ := mR_e d
    refine m.there hn fun c hc r => ?_
    have h : (match at_ s.cs j with | some (.list xs) => some xs.length | some (.dict kvs) => some kvs.length | _ => none) = some q := h
    show (match σ.H.get n with | some (.list xs) => some xs.length | some (.dict kvs) => some kvs.length | _ => none) = some q
    rw [hc] at h
    cases r with
    | dead => cases h
    | mk c' g r =>
      rw [g]
      cases r with
      | dict r => exact (congrArg some r.len).trans h
      | list xs => exact h
      | _ => cases h
  | t xs =>
    obtain ⟨vs, e, rfl⟩ := mT_e d
    exact (congrArg some (dnAs_len e)).trans h
  | l xs =>
    obtain ⟨vs, e, rfl⟩ := mL_e d
    exact (congrArg some (dnAs_len e)).trans h
theorem itemsS_ok {ad : List Nat} {s : Sy Ω} {σ : St} (m : Mt M ad s σ) {a : SV} {v : V} {q : List V} (d : dn ad a = some v) (h : itemsS s a = some q) : items σ.H v = some q := by
  cases a with
  | v y =>
    cases d
    cases v <;> first | exact h | (cases h; done)
  | s j =>
    obtain ⟨n, hn, rfl⟩ := mR_e d
    refine m.there hn fun c hc r => ?_
    have h : (match at_ s.cs j with | some (.list xs) => some xs | _ => none) = some q := h
    show cL (σ.H.get n) = some q
    rw [hc] at h
    cases r with
    | dead => cases h
    | mk c' g r =>
      rw [g]
      cases r with
      | list xs => exact h
      | _ => cases h
  | _ => cases h
theorem datL_deep {H : Hp} {n : Nat} (ih : ∀ v, datN n v = true → deepN H n v = some v) (xs : List V) (h : xs.all (datN n) = true) : deepL (deepN H n) xs = some xs := by
  induction xs with
  | nil => rfl
  | cons x r ihr =>
    rw [List.all_cons, Bool.and_eq_true] at h
    show (match deepN H n x with | some y => (match deepL (deepN H n) r with | some ys => some (y :: ys) | none => none) | none => none) = _
    rw [ih x h.1, ihr h.2]
theorem dat_deep {H : Hp} (n : Nat) : ∀ v, datN n v = true → deepN H n v = some v := by
  induction n with
  | zero => intro v h; cases v <;> first | rfl | cases h
  | succ n ih =>
    intro v h
    cases v with
    | tup xs => exact congrArg mT (datL_deep ih xs h)
    | lst xs => exact congrArg mL (datL_deep ih xs h)
    | _ => first | rfl | cases h
theorem deepA_ok {ad : List Nat} {s : Sy Ω} {σ : St} (m : Mt M ad s σ) {a : SA} {v x : V} (d : dnA ad a = some v) (h : deepA s a = some x) : deepN σ.H 11 v = some x := by
  cases a with
  | v y => exact cond_e h (fun e q => by rw [← Option.some.inj d, ← Option.some.inj q]; exact dat_deep 11 y e) fun _ q => nomatch q
  | s j =>
    obtain ⟨n, hn, rfl⟩ := mR_e d
    refine m.there hn fun c hc r => ?_
    have h : (match scL (at_ s.cs j) with | some xs => cond (xs.all (datN 10)) (some (V.lst xs)) none | none => none) = some x := h
    rw [hc] at h
    show bindL (cL (σ.H.get n)) _ = _
    cases r with
    | dead => cases h
    | mk c' g r =>
      rw [g]
      cases r with
      | list ys => exact cond_e h (fun e q => (congrArg mL (datL_deep (dat_deep 10) ys e)).trans q) fun _ q => nomatch q
      | _ => cases h
theorem deepAs_ok {ad : List Nat} {s : Sy Ω} {σ : St} (m : Mt M ad s σ) : ∀ {as : List SA} {vs xs : List V}, dnAs ad as = some vs → deepAs s as = some xs → deepL (deepN σ.H 11) vs = some xs
  | [], vs, xs, d, h => by rw [← Option.some.inj d]; exact h
  | a :: r, vs, xs, d, h => dnAs_cons d fun v ws h1 h2 e => by
    have h : (match deepA s a with | some x => (match deepAs s r with | some xs => some (x :: xs) | none => none) | none => none) = some xs := h
    cases q : deepA s a with
    | none => rw [q] at h; cases h
    | some x =>
      rw [q] at h
      cases q2 : deepAs s r with
      | none => rw [q2] at h; cases h
      | some ys =>
        rw [q2] at h
        rw [e]
        show (match deepN σ.H 11 v with | some y => (match deepL (deepN σ.H 11) ws with | some ys => some (y :: ys) | none => none) | none => none) = _
        rw [deepA_ok m h1 q, deepAs_ok m h2 q2]; exact h
theorem deepK_ok {ad : List Nat} {s : Sy Ω} {σ : St} (m : Mt M ad s σ) {a : SV} {v : V} {k : V → Prop} (d : dn ad a = some v) (h : deepK s a k) : need (deep σ.H v) k := by
  cases a with
  | v y => exact Ys_e h fun e h => need_i (dat_deep 12 v (by rw [← Option.some.inj d]; exact e)) (by rw [← Option.some.inj d]; exact h)
  | s j =>
    obtain ⟨n, hn, rfl⟩ := mR_e d
    refine need_e h fun xs e h => Ys_e h fun e2 h => need_i ?_ h
    refine m.there hn fun c hc r => ?_
    rw [hc] at e
    show bindL (cL (σ.H.get n)) _ = _
    cases r with
    | dead => cases e
    | mk c' g r =>
      rw [g]
      cases r with
      | list ys =>
        cases e
        exact congrArg mL (datL_deep (dat_deep 11) xs e2)
      | _ => cases e
  | t xs =>
    obtain ⟨vs, e, rfl⟩ := mT_e d
    exact need_e h fun ys e2 h => need_i (congrArg mT (deepAs_ok m e e2)) h
  | l _ => exact h.elim
theorem need_m {α : Type} {o o' : Option α} {k k' : α → Prop} (h : need o k) (e : ∀ a, o = some a → o' = some a) (g : ∀ a, k a → k' a) : need o' k' := need_e h fun a q z => need_i (e a q) (g a z)
theorem b1K_m {b : B} {o o' : Option V} {n n' : Option Nat} {k : LV → Prop} (h : b1K b o n k) (e : ∀ x, o = some x → o' = some x) (e' : ∀ x, n = some x → n' = some x) : b1K b o' n' k := by
  cases b with
  | len => exact need_m h e' fun _ z => z
  | list => exact need_m h e fun _ z => z
  | sorted => exact h.elim
  | tuple => exact need_m h e fun _ z => z
  | int => exact need_m h e fun _ z => z
  | range => exact need_m h e fun _ z => z
  | _ => exact h.elim
section
variable {ad : List Nat} {s : Sy Ω} {σ : St} (m : Mt M ad s σ) {a b : SV} {v w : V} (ha : dn ad a = some v)
include m ha
theorem see_m {k : V → Prop} (h : need (seeS s a) k) : need (see σ.H v) k := need_m h (fun _ e => seeS_ok m ha e) fun _ z => z
theorem truS_ok {k : Bool → Prop} (h : truS s a k) : truK σ.H v k := see_m m ha h
theorem anyS_ok {xs : List V} {k : Bool → Prop} (h : anyS s a xs k) : cmpK.anyK σ.H v xs k := need_e (deepK_ok m ha h) fun y e h => need_i e (Ys_e h fun e2 h => need_i (datL_deep (dat_deep 11) xs e2) h)
variable (hb : dn ad b = some w)
include hb
theorem see2_m {k : V → V → Prop} (h : need (seeS s a) fun x => need (seeS s b) fun y => k x y) : need (see σ.H v) fun x => need (see σ.H w) fun y => k x y :=
  need_m h (fun _ e => seeS_ok m ha e) fun _ z => see_m m hb z
theorem inS_ok {k : Bool → Prop} (h : inS s a b k) : cmpK.inK σ.H v w k := by
  cases b with
  | s j =>
    obtain ⟨n, hn, rfl⟩ := mR_e hb
    refine m.there hn fun c hc r => ?_
    have h : (match at_ s.cs j with | some (.list xs) => anyS s a xs k | some (.dict kvs) => need (svV a) fun x => Ys (keyOk (dKeys kvs) x) (k ((dKeys kvs).any fun z => eqD z x)) | _ => False) := h
    show (match σ.H.get n with | some (.list xs) => cmpK.anyK σ.H v xs k | some (.dict kvs) => Nd (keyOk (dKeys kvs) v = true) (k ((dKeys kvs).any fun z => eqD z v)) | _ => False)
    rw [hc] at h
    cases r with
    | dead => exact h.elim
    | mk c' g r =>
      rw [g]
      cases r with
      | list xs => exact anyS_ok m ha h
      | dict r =>
        cases a with
        | v x => cases ha; exact Ys_e h fun e h => ⟨by rw [r.keys]; exact e, by rw [r.keys]; exact h⟩
        | _ => exact h.elim
      | _ => exact h.elim
  | v y =>
    cases hb
    cases w with
    | lst xs => exact anyS_ok m ha h
    | tup xs => exact anyS_ok m ha h
    | rng p q r =>
      cases a with
      | v x => cases ha; exact h
      | _ => exact h.elim
    | _ => exact h.elim
  | _ => exact h.elim
theorem isS_ok {k : Bool → Prop} (h : isS a b k) : isK v w k := by
  cases b with
  | v y =>
    cases hb
    have key : ∀ f : V → Bool, (∀ n, f (.ref n) = false) → (∀ xs, f (.lst xs) = false) → (∀ xs, f (.tup xs) = false) → isF f a k → Nd (solid v = true) (k (f v)) := fun f f1 f2 f3 h => by
      cases a with
      | v x => cases ha; exact Ys_e h fun e h => ⟨e, h⟩
      | s j => obtain ⟨n, _, rfl⟩ := mR_e ha; exact ⟨rfl, by rw [f1]; exact h⟩
      | t j => obtain ⟨n, _, rfl⟩ := mT_e ha; exact ⟨rfl, by rw [f3]; exact h⟩
      | l j => obtain ⟨n, _, rfl⟩ := mL_e ha; exact ⟨rfl, by rw [f2]; exact h⟩
    cases w with
    | none => exact key isNone (fun _ => rfl) (fun _ => rfl) (fun _ => rfl) h
    | bool c => exact key (isB c) (fun _ => rfl) (fun _ => rfl) (fun _ => rfl) h
    | _ => exact h.elim
  | _ => exact h.elim
theorem cmpS_ok {op : COp} {k : Bool → Prop} (h : cmpS s op a b k) : cmpK σ.H op v w k := by
  cases op with
  | eq => exact need_m (deepK_ok m ha h) (fun _ e => e) fun _ z => deepK_ok m hb z
  | ne => exact need_m (deepK_ok m ha h) (fun _ e => e) fun _ z => deepK_ok m hb z
  | lt => exact see2_m m ha hb h
  | le => exact see2_m m ha hb h
  | gt => exact see2_m m ha hb h
  | ge => exact see2_m m ha hb h
  | isIn => exact inS_ok m ha hb h
  | notIn => exact inS_ok (k := fun r => k (!r)) m ha hb h
  | is => exact isS_ok m ha hb h
  | isNot => exact isS_ok (k := fun r => k (!r)) m ha hb h
theorem idxS_ok {k : SV → Prop} {Q : V → Prop} (h : idxS s a b k) (g : ∀ sv r, dn ad sv = some r → k sv → Q r) : idxH σ.H v w Q := by
  have km : ∀ x, idxK x w (fun v => k (.v v)) → idxK x w Q := fun x h => need_m h (fun _ e => e) fun i z => by
    cases x with
    | lst xs => exact need_m z (fun _ e => e) fun n z => need_m z (fun _ e => e) fun v z => g (.v v) v rfl z
    | tup xs => exact need_m z (fun _ e => e) fun n z => need_m z (fun _ e => e) fun v z => g (.v v) v rfl z
    | str t => exact ⟨z.1, need_m z.2 (fun _ e => e) fun v z => g (.v _) _ rfl z⟩
    | _ => exact z.elim
  refine need_e h fun y e h => ?_
  cases b with
  | v z =>
    cases hb
    have e : w = y := Option.some.inj e
    subst e
    cases a with
    | s j =>
      obtain ⟨n, hn, rfl⟩ := mR_e ha
      refine m.there hn fun c hc r => ?_
      have h : (match at_ s.cs j with | some (.list xs) => idxK (.lst xs) w fun v => k (.v v) | some (.dict kvs) => Ys (keyOk (dKeys kvs) w) (need (dGet kvs w) k) | _ => False) := h
      show (match σ.H.get n with | some (.list xs) => idxK (.lst xs) w Q | some (.dict kvs) => Nd (keyOk (dKeys kvs) w = true) (need (dGet kvs w) Q) | _ => False)
      rw [hc] at h
      cases r with
      | dead => exact h.elim
      | mk c' g' r =>
        rw [g']
        cases r with
        | list xs => exact km _ h
        | dict r =>
          refine Ys_e h fun e h => ⟨by rw [r.keys]; exact e, ?_⟩
          cases r.dGet (x := w) with
          | none q1 q2 => rw [q1] at h; exact h.elim
          | some x u q1 q2 q3 => rw [q1] at h; exact need_i q2 (g x u q3 h)
        | _ => exact h.elim
    | l xs =>
      obtain ⟨vs, q, rfl⟩ := mL_e ha
      refine need_m h (fun _ e => e) fun i z => ?_
      show need (pyIdx i vs.length) _
      rw [dnAs_len q]
      refine need_m z (fun _ e => e) fun n z => need_e z fun x e z => (dnAs_at q e).elim fun u e' => need_i e'.1 (g x.sv u (by cases x <;> exact e'.2) z)
    | v x =>
      cases ha
      refine Ys_e h fun e h => ?_
      cases v <;> first | exact km _ h | (cases e; done)
    | t xs =>
      obtain ⟨vs, q, rfl⟩ := mT_e ha
      refine need_m h (fun _ e => e) fun i z => ?_
      show need (pyIdx i vs.length) _
      rw [dnAs_len q]
      refine need_m z (fun _ e => e) fun n z => need_e z fun x e z => (dnAs_at q e).elim fun u e' => need_i e'.1 (g x.sv u (by cases x <;> exact e'.2) z)
  | _ => cases e
end
theorem bS_ok {P : Prog} {ad : List Nat} {s : Sy Ω} {σ : St} (m : Mt M ad s σ) {b : B} {as : List SV} {vs : List V} {k : LV → Prop} (d : DnL ad as vs) (h : bS P s b as k) : callB P σ.H b vs k := by
  cases d with
  | nil => exact h.elim
  | cons d1 r =>
    cases r with
    | nil => exact b1K_m h (fun _ e => seeS_ok m d1 e) fun _ e => lenS_ok m d1 e
    | @cons a2 _ _ _ d2 r =>
      cases r with
      | nil =>
        refine Br_m h (fun h => need_m h (fun _ e => kindS_ok m d1 e) fun q z => need_e z fun t e z => ?_) fun h => see2_m m d1 d2 h
        cases a2 with
        | v x => cases d2; cases e; exact z
        | _ => cases e
      | cons d3 r =>
        cases r with
        | nil => exact need_m h (fun _ e => seeS_ok m d1 e) fun _ z => see2_m m d2 d3 z
        | cons _ _ => exact h.elim
end
end Mine

end

section
set_option autoImplicit false
set_option linter.all false
set_option genSizeOf false
set_option genInjectivity false
namespace Mine
open PySem (Str)
section
variable {Ω : Type} (M : MEnv Ω)
/-- the rest goes on, whatever the state is then -/
noncomputable def PW {α β : Type} (D : List Nat → α → β → Prop) (ad : List Nat) (k : α → Sy Ω → Prop) (Q : β → St → Prop) : Prop := ∀ a s' ad' σ' v, Ext ad ad' → Mt M ad' s' σ' → D ad' a v → k a s' → Q v σ'
noncomputable def DV (ad : List Nat) (a : SV) (v : V) : Prop := dn ad a = some v
noncomputable def DX (ad : List Nat) (j a : Nat) : Prop := ad[j]? = some a
noncomputable def DI {α : Type} (_ : List Nat) (a b : α) : Prop := b = a
noncomputable def CallOk (C : XT Ω) (K : CT) : Prop := ∀ f as s k kx ad σ vs Q E, C f as s k kx → Mt M ad s σ → DnL ad as vs → PW M DV ad k (fun v σ' => σ'.loc = σ.loc → Q v σ'.H) → PW M DX ad kx (fun a σ' => σ'.loc = σ.loc → E a σ'.H) → K f vs σ.H Q E
inductive DO (ad : List Nat) : Option SV → Option V → Prop
  | none : DO ad none none
  | some {a : SV} {v : V} (d : dn ad a = some v) : DO ad (some a) (some v)
variable {M}
theorem PW.mono {α β : Type} {D : List Nat → α → β → Prop} {ad ad' : List Nat} {k : α → Sy Ω → Prop} {Q : β → St → Prop} (h : PW M D ad k Q) (x : Ext ad ad') : PW M D ad' k Q := fun a s' ad'' σ' v y => h a s' ad'' σ' v (x.trans y)
theorem PW.now {α β : Type} {D : List Nat → α → β → Prop} {ad : List Nat} {k : α → Sy Ω → Prop} {Q : β → St → Prop} (h : PW M D ad k Q) {s : Sy Ω} {σ : St} (m : Mt M ad s σ) {a : α} {v : β} (d : D ad a v) (z : k a s) : Q v σ := h a s ad σ v (.refl _) m d z
theorem PW.no {ad : List Nat} {E : EP} : PW M DX ad noX E := fun _ _ _ _ _ _ _ _ h => h.elim
theorem Mt.back {ad : List Nat} {s : Sy Ω} {σ σ' : St} (m : Mt M ad s σ') (e : σ'.loc = σ.loc) : Mt M ad s (σ.setH σ'.H) := ⟨m.len, m.cell, m.nd, m.lt, e ▸ m.loc, m.res⟩
section
variable {ad : List Nat} {s : Sy Ω} {σ : St} (m : Mt M ad s σ)
include m
theorem giveS_ok {fz : Bool} {k : SV → Sy Ω → Prop} {Q : V → St → Prop} {r : LV} (h : giveS fz s k r) (hk : PW M DV ad k Q) : give fz σ Q r := by
  cases r with
  | val x => exact hk.now m (a := .v x) rfl h
  | newList xs => exact ⟨h.1, Br_m h.2 (fun h => hk.now m (a := .v (.lst xs)) rfl h) fun h => (hk.mono m.ext).now (m.new (.list xs)) m.newDn (newS_ok h)⟩
theorem giveVS_ok {fz : Bool} {k : SV → Sy Ω → Prop} {Q : V → St → Prop} {r : SV} {v : V} (d : dn ad r = some v) (h : giveVS fz k r s) (hk : PW M DV ad k Q) : giveV fz σ Q v := by
  refine Br_m h (fun h => ?_) fun h => hk.now m d h
  cases r with
  | v x =>
    cases d
    refine Ys_e h fun e h => ?_
    have := hk.now m (a := .v v) (v := v) rfl h
    cases v <;> first | exact this | (cases e; done)
  | t xs =>
    have := hk.now m (a := .t xs) d h
    obtain ⟨n, hn, rfl⟩ := mT_e d
    exact this
  | s j =>
    obtain ⟨n, hn, rfl⟩ := mR_e d
    show (match cL (σ.H.get n) with | some xs => Q (.lst xs) (σ.setH (σ.H.del n)) | none => Q (.ref n) σ)
    have h : (match at_ s.cs j with | some (.list xs) => setS s j .dead fun s' => k (.v (.lst xs)) s' | some .dead => False | _ => k (.s j) s) := h
    refine m.there hn fun c hc r => ?_
    rw [hc] at h
    cases r with
    | dead => exact h.elim
    | mk c' g r =>
      rw [g]
      cases r with
      | list xs => exact hk.now (m.dead hn) (a := .v (.lst xs)) (v := .lst xs) rfl (setS_ok h)
      | _ => exact hk.now m d h
  | l xs => exact h.elim
theorem attrS_ok {a : SV} {v : V} {n : Nat} {k : SV → Prop} {Q : V → Prop} (d : dn ad a = some v) (h : attrS s a n k) (g : ∀ sv r, dn ad sv = some r → k sv → Q r) : instK σ.H v fun _ _ fs => need (lk fs n) Q := by
  refine need_e h fun j e h => ?_
  cases a with
  | s i =>
    cases e
    obtain ⟨x, hn, rfl⟩ := mR_e d
    refine need_i rfl (m.there hn fun c hc r => ?_)
    have h : (match at_ s.cs j with | some (.inst _ fs) => need (lk fs n) k | some (.w _ fs) => need (lk fs n) fun v => k (.v v) | _ => False) := h
    rw [hc] at h
    cases r with
    | dead => exact h.elim
    | mk c' q r =>
      cases r with
      | inst r => exact need_i (congrArg cI q) (need_e h fun sv e h => (r.lk e).elim fun w q => need_i q.2 (g _ _ q.1 h))
      | w r => exact need_i (congrArg cI q) (need_e h fun v e h => need_i (M.obj _ _ _ _ _ r n v e) (g (.v v) v rfl h))
      | _ => exact h.elim
  | _ => cases e
theorem instS_ok {a : SV} {v : V} {k : Nat → Nat → List (Nat × SV) → Prop} {Q : Nat → Nat → List (Nat × V) → Prop} (d : dn ad a = some v) (h : instS s a k) (g : ∀ j n c fs fs', ad[j]? = some n → σ.H.get n = some (.inst c fs') → DnF ad fs fs' → k j c fs → Q n c fs') : instK σ.H v Q := by
  refine need_e h fun j e h => ?_
  cases a with
  | s i =>
    cases e
    obtain ⟨n, hn, rfl⟩ := mR_e d
    refine need_i rfl (m.there hn fun c hc r => ?_)
    have h : (match at_ s.cs j with | some (.inst c fs) => k j c fs | _ => False) := h
    rw [hc] at h
    cases r with
    | dead => exact h.elim
    | mk c' q r =>
      cases r with
      | inst r => exact need_i (congrArg cI q) (g _ _ _ _ _ hn q r h)
      | _ => exact h.elim
  | _ => cases e
theorem methLS_ok {P : Prog} {j n a : Nat} (ha : ad[j]? = some a) {xs : List V} {as : List SV} {vs : List V} {k : SV → Sy Ω → Prop} {Q : V → St → Prop} (d : DnL ad as vs) (h : methLS P s j n xs as k) (hk : PW M DV ad k Q) : methL P σ a n vs xs Q := by
  cases d with
  | nil => exact h.elim
  | @cons b v _ _ d1 r =>
    cases r with
    | cons _ _ => exact h.elim
    | nil =>
      have vv : ∀ {x : V}, svV b = some x → v = x := fun {x} e => by
        cases b with
        | v y => cases e; exact (Option.some.inj d1).symm
        | _ => cases e
      refine Br_m h (fun h => need_e h fun x e h => ⟨h.1, ?_⟩) fun h => Br_m h (fun h => need_e h fun x e h => ?_) fun h => need_m (see_m m d1 h) (fun _ e => e) fun y z => need_m z (fun _ e => e) fun ys z => ⟨z.1, hk.now (m.setC ha (.list _)) (a := .v .none) rfl (setS_ok z.2)⟩
      · rw [vv e]; exact hk.now (m.setC ha (.list _)) (a := .v .none) rfl (setS_ok h.2)
      · rw [vv e]
        exact need_m h (fun _ e => e) fun i z => need_m z (fun _ e => e) fun l z => need_m z (fun _ e => e) fun u z => hk.now (m.setC ha (.list _)) (a := .v u) rfl (setS_ok z)
end
theorem allV_ok {ad : List Nat} {as : List SV} {vs : List V} (d : DnL ad as vs) : ∀ {xs : List V}, allV as = some xs → vs = xs := by
  induction d with
  | nil => intro xs h; exact Option.some.inj h
  | @cons a v r ws d _ ih =>
    intro xs h
    cases a with
    | v x =>
      have h : (match allV r with | some xs => some (x :: xs) | none => none) = some xs := h
      cases q : allV r with
      | none => rw [q] at h; cases h
      | some ys => rw [q] at h; rw [ih q, ← Option.some.inj h, Option.some.inj d]
    | _ => cases h
theorem allA_ok {ad : List Nat} {as : List SV} {vs : List V} (d : DnL ad as vs) : ∀ {xs : List SA}, allA as = some xs → dnAs ad xs = some vs := by
  induction d with
  | nil => intro xs h; rw [← Option.some.inj h]; rfl
  | @cons a v r ws d _ ih =>
    intro xs h
    have h : (match svA a with | some x => (match allA r with | some xs => some (x :: xs) | none => none) | none => none) = some xs := h
    cases q : svA a with
    | none => rw [q] at h; cases h
    | some x =>
      rw [q] at h
      cases q2 : allA r with
      | none => rw [q2] at h; cases h
      | some ys =>
        rw [q2] at h
        rw [← Option.some.inj h]
        refine dnAs_i ?_ (ih q2)
        cases a with
        | v y => cases q; exact d
        | s j => cases q; exact d
        | _ => cases q
theorem tupS_ok {ad : List Nat} {as : List SV} {vs : List V} (d : DnL ad as vs) {k : SV → Prop} {Q : V → Prop} (h : tupS as k) (g : ∀ sv, dn ad sv = some (.tup vs) → k sv → Q (.tup vs)) : Nd (vs.length ≤ SZ) (Q (.tup vs)) := by
  have h : (match allV as with | some xs => Ys (Nat.ble xs.length 100) (k (.v (.tup xs))) | none => need (allA as) fun xs => Ys (Nat.ble xs.length 100) (k (.t xs))) := h
  cases q : allV as with
  | some xs =>
    rw [q] at h
    rw [allV_ok d q]
    exact Ys_e h fun e h => ⟨Nat.le_trans (Nat.ble_eq.mp e) (by decide), by rw [allV_ok d q] at g; exact g (.v (.tup xs)) rfl h⟩
  | none =>
    rw [q] at h
    exact need_e h fun xs e h => Ys_e h fun e2 h => ⟨by rw [dnAs_len (allA_ok d e)]; exact Nat.le_trans (Nat.ble_eq.mp e2) (by decide), g (.t xs) (congrArg mT (allA_ok d e)) h⟩
theorem DO.mono {ad ad' : List Nat} (x : Ext ad ad') {a : Option SV} {v : Option V} (d : DO ad a v) : DO ad' a v := by
  cases d with
  | none => exact .none
  | some d => exact .some (dn_mono x d)
theorem optIS_ok {ad : List Nat} {a : Option SV} {v : Option V} {o : Option Int} (d : DO ad a v) (h : optIS a = some o) : optI v = some o := by
  cases d with
  | none => exact h
  | @some b w d =>
    cases b with
    | v x => cases d; exact h
    | _ => cases h
theorem bindGoS_ok {k : Sy Ω → Prop} {ad : List Nat} {is : List Nat} : ∀ {xs : List V} {s : Sy Ω} {σ : St} {K : St → Prop}, Mt M ad s σ → bindGoS is xs s k → (∀ s' σ', Mt M ad s' σ' → k s' → K σ') → bindGo is xs σ K := by
  induction is with
  | nil =>
    intro xs s σ K m h hk
    cases xs with
    | nil => exact hk s σ m h
    | cons _ _ => exact h.elim
  | cons i is ih =>
    intro xs s σ K m h hk
    cases xs with
    | nil => exact h.elim
    | cons x xs => exact ih (m.put (i := i) (a := .v x) rfl) (putS_ok (s := s) (i := i) (v := .v x) (k := fun s' => bindGoS is xs s' k) h) hk
theorem bindTS_ok {k : Sy Ω → Prop} {ad : List Nat} {ts : List Nat} {x : V} {s : Sy Ω} {σ : St} {K : St → Prop} (m : Mt M ad s σ) (h : bindTS ts x s k) (hk : ∀ s' σ', Mt M ad s' σ' → k s' → K σ') : bindT ts x σ K := by
  cases ts with
  | nil => exact need_m h (fun _ e => e) fun xs z => bindGoS_ok m z hk
  | cons i r =>
    cases r with
    | nil => exact hk _ _ (m.put (a := .v x) rfl) (putS_ok h)
    | cons j r => exact need_m h (fun _ e => e) fun xs z => bindGoS_ok m z hk
theorem Comp_ok {a : SV} {all : List V} {v : V} {ts : List Nat} {turn : V → Sy Ω → (Bool → Sy Ω → Prop) → Prop} {elt : Sy Ω → (SV → Sy Ω → Prop) → Prop} {tst : St → (Bool → St → Prop) → Prop} {el : St → (V → St → Prop) → Prop} {k : List V → Sy Ω → Prop} {Q : List V → St → Prop}
    (ht : ∀ x s' ad' σ' k' Q', turn x s' k' → Mt M ad' s' σ' → PW M DI ad' k' Q' → bindT ts x σ' fun σ₁ => tst σ₁ Q')
    (he : ∀ s' ad' σ' k' Q', elt s' k' → Mt M ad' s' σ' → PW M DV ad' k' Q' → el σ' Q')
    {inv : List V → List V → Sy Ω → Prop} (I : CompI a all turn elt k inv) {xs : List V} : ∀ {acc : List V} {s : Sy Ω} {ad : List Nat} {σ : St}, Mt M ad s σ → dn ad a = some v → inv xs acc s → PW M DI ad k Q → compGo tst el ts (still v all) xs acc σ Q := by
  induction xs with
  | nil => intro acc s ad σ m d hi hk; exact ⟨itemsS_ok m d (I.still _ _ _ hi), I.len _ _ _ hi, hk.now m rfl (I.stop _ _ hi)⟩
  | cons x r ih =>
    intro acc s ad σ m d hi hk
    refine ⟨itemsS_ok m d (I.still _ _ _ hi), Nat.lt_of_lt_of_le (Nat.lt_add_of_pos_right (Nat.succ_pos _)) (I.len _ _ _ hi), ht x s ad σ _ _ (I.turn x r acc s hi) m fun b s₁ ad₁ σ₁ b' e m₁ eb q => ?_⟩
    cases eb
    refine Br_m q (fun q => he s₁ ad₁ σ₁ _ _ q m₁ fun y s₂ ad₂ σ₂ w e₂ m₂ dy q => need_e q fun z ez q => ?_) fun q => ih m₁ (dn_mono e d) q (hk.mono e)
    cases y with
    | v y => cases dy; cases ez; exact ih m₂ (dn_mono (e.trans e₂) d) q (hk.mono (e.trans e₂))
    | _ => cases ez
variable {P : Prog} {C : XT Ω} {K : CT}
theorem callS_ok (hC : CallOk M C K) {fz : Bool} {f : SV} {g : V} {as : List SV} {vs : List V} {s : Sy Ω} {k : SV → Sy Ω → Prop} {kx : Nat → Sy Ω → Prop} {ad : List Nat} {σ : St} {Q : V → St → Prop} {E : EP}
    (h : callS P C fz f as s k kx) (m : Mt M ad s σ) (df : dn ad f = some g) (d : DnL ad as vs) (hk : PW M DV ad k Q) (hx : PW M DX ad kx E) : callF P K E fz σ g vs Q := by
  refine need_e h fun y e h => ?_
  cases f with
  | v x =>
    cases df
    have e : g = y := Option.some.inj e
    subst e
    cases g with
    | bt b => exact bS_m (bS_ok (P := P) m d h) fun r z => giveS_ok m z hk
    | fn g => exact hC _ _ _ _ _ _ _ _ _ _ h m d (fun sv s' ad' σ' v x m' dv h e => giveVS_ok (m'.back e) dv h (hk.mono x)) fun j s' ad' σ' a x m' ha h e => hx j s' ad' _ a x (m'.back e) ha h
    | cls c =>
      refine need_m h (fun _ e => e) fun cl h => need_m h (fun _ e => e) fun g h => ?_
      have h := newS_ok h
      refine hC _ _ _ _ _ _ (σ.setH (σ.H.new (.inst c []))) _ _ _ h (m.new (.inst .nil)) (.cons m.newDn (d.mono m.ext)) (fun sv s' ad' σ' v x m' dv h e => ?_) fun j s' ad' σ' a x m' ha h e => ?_
      · refine Ys_e h fun e' h => ⟨?_, hk _ _ _ _ _ (m.ext.trans x) (m'.back e) (dn_mono x m.newDn) h⟩
        cases sv with
        | v y => cases dv; exact e'
        | _ => cases e'
      · exact hx j s' ad' _ a (m.ext.trans x) (m'.back e) ha h
    | _ => exact h.elim
  | _ => cases e
where
  bS_m {P : Prog} {H : Hp} {b : B} {vs : List V} {k k' : LV → Prop} (h : callB P H b vs k) (g : ∀ r, k r → k' r) : callB P H b vs k' := by
    have e1 : ∀ {x y : V} {k k' : Int → Int → Prop}, (∀ a b, k a b → k' a b) → intK x y k → intK x y k' := fun g h => need_m h (fun _ e => e) fun a z => need_m z (fun _ e => e) fun b z => g a b z
    match vs with
    | [] => exact h.elim
    | [v] =>
      cases b with
      | len => exact need_m h (fun _ e => e) fun _ z => g _ z
      | list => exact need_m h (fun _ e => e) fun _ z => need_m z (fun _ e => e) fun _ z => g _ z
      | sorted => exact h.elim
      | tuple => exact need_m h (fun _ e => e) fun _ z => need_m z (fun _ e => e) fun _ z => g _ z
      | int => exact need_m h (fun _ e => e) fun _ z => need_m z (fun _ e => e) fun _ z => g _ z
      | range => exact need_m h (fun _ e => e) fun _ z => need_m z (fun _ e => e) fun _ z => ⟨z.1, g _ z.2⟩
      | _ => exact h.elim
    | [v, w] =>
      refine Br_m h (fun h => need_m h (fun _ e => e) fun _ z => need_m z (fun _ e => e) fun _ z => g _ z) fun h => need_m h (fun _ e => e) fun _ z => need_m z (fun _ e => e) fun _ z => ?_
      cases b with
      | max => exact e1 (fun _ _ => g _) z
      | min => exact e1 (fun _ _ => g _) z
      | range => exact e1 (fun _ _ z => ⟨z.1, g _ z.2⟩) z
      | _ => exact z.elim
    | [u, v, w] =>
      refine need_m h (fun _ e => e) fun _ z => need_m z (fun _ e => e) fun _ z => need_m z (fun _ e => e) fun _ z => ?_
      cases b with
      | range => exact need_m z (fun _ e => e) fun _ z => e1 (fun _ _ z => ⟨z.1, g _ z.2⟩) z
      | _ => exact z.elim
    | _ :: _ :: _ :: _ :: _ => exact h.elim
end
end Mine

end

section
set_option autoImplicit false
set_option linter.all false
set_option genSizeOf false
set_option genInjectivity false
namespace Mine
open PySem (Str)
section
variable {Ω : Type} {M : MEnv Ω} {P : Prog} {C : XT Ω} {K : CT}
theorem bin_m {op : BOp} {x y : V} {k k' : LV → Prop} (h : binK op x y k) (g : ∀ r, k r → k' r) : binK op x y k' := by
  have e1 : ∀ {x y : V} {k k' : Int → Int → Prop}, (∀ a b, k a b → k' a b) → intK x y k → intK x y k' := fun g h => need_m h (fun _ e => e) fun a z => need_m z (fun _ e => e) fun b z => g a b z
  cases op with
  | add => cases x <;> first | exact h.elim | exact need_m h (fun _ e => e) fun _ z => g _ z | exact need_m h (fun _ e => e) fun _ z => ⟨z.1, g _ z.2⟩
  | mul => cases x <;> first | exact h.elim | exact need_m h (fun _ e => e) fun _ z => ⟨z.1, g _ z.2⟩
  | sub => exact e1 (fun _ _ => g _) h
  | fdiv => exact e1 (fun _ _ z => ⟨z.1, g _ z.2⟩) h
  | mod => exact e1 (fun _ _ z => ⟨z.1, g _ z.2⟩) h
  | pow => exact e1 (fun _ _ z => ⟨z.1, g _ z.2⟩) h
  | bor => exact h.elim
theorem sl_m {x : V} {l h' : Option Int} {k k' : LV → Prop} (h : slK x l h' k) (g : ∀ r, k r → k' r) : slK x l h' k' := ⟨h.1, h.2.1, by cases x <;> first | exact g _ h.2.2 | exact need_m h.2.2 (fun _ e => e) (fun _ z => g _ z) | exact h.2.2.elim⟩
theorem ints_m {x : V} {k k' : List Int → Prop} (h : intsK x k) (g : ∀ r, k r → k' r) : intsK x k' := need_m h (fun _ e => e) fun _ z => need_m z (fun _ e => e) fun _ z => g _ z
theorem tr_m {x : V} {k k' : Bool → Prop} (h : trK x k) (g : ∀ r, k r → k' r) : trK x k' := by cases x <;> first | exact g _ h | exact h.elim
theorem tru_m {H : Hp} {v : V} {k k' : Bool → Prop} (h : truK H v k) (g : ∀ r, k r → k' r) : truK H v k' := need_m h (fun _ e => e) fun _ z => tr_m z g
theorem lt_m {e : Bool} {x y : V} {k k' : Bool → Prop} (h : ltK e x y k) (g : ∀ r, k r → k' r) : ltK e x y k' := by
  cases x <;> first | exact h.elim | exact need_m h (fun _ e => e) fun _ z => g _ z | exact need_m h (fun _ e => e) fun _ z => need_m z (fun _ e => e) fun _ z => g _ z
theorem cmp_m {H : Hp} {op : COp} {a b : V} {k k' : Bool → Prop} (h : cmpK H op a b k) (g : ∀ r, k r → k' r) : cmpK H op a b k' := by
  have ak : ∀ {xs : List V} {k k' : Bool → Prop}, (∀ r, k r → k' r) → cmpK.anyK H a xs k → cmpK.anyK H a xs k' := fun g h => need_m h (fun _ e => e) fun _ z => need_m z (fun _ e => e) fun _ z => g _ z
  have ik : ∀ {k k' : Bool → Prop}, (∀ r, k r → k' r) → cmpK.inK H a b k → cmpK.inK H a b k' := fun {k k'} g h => by
    cases b with
    | ref i =>
      have h : (match H.get i with | some (.list xs) => cmpK.anyK H a xs k | some (.dict kvs) => Nd (keyOk (dKeys kvs) a = true) (k ((dKeys kvs).any fun z => eqD z a)) | _ => False) := h
      show (match H.get i with | some (.list xs) => cmpK.anyK H a xs k' | some (.dict kvs) => Nd (keyOk (dKeys kvs) a = true) (k' ((dKeys kvs).any fun z => eqD z a)) | _ => False)
      generalize H.get i = o at h
      cases o with
      | none => exact h
      | some c => cases c <;> first | exact ak g h | exact ⟨h.1, g _ h.2⟩ | exact h
    | lst xs => exact ak g h
    | tup xs => exact ak g h
    | rng p q r => exact ⟨h.1, by cases a <;> first | exact g _ h.2 | exact h.2.elim⟩
    | _ => exact h.elim
  have sk : ∀ {k k' : Bool → Prop}, (∀ r, k r → k' r) → isK a b k → isK a b k' := fun g h => by cases b <;> first | exact ⟨h.1, g _ h.2⟩ | exact h.elim
  cases op with
  | eq => exact need_m h (fun _ e => e) fun _ z => need_m z (fun _ e => e) fun _ z => g _ z
  | ne => exact need_m h (fun _ e => e) fun _ z => need_m z (fun _ e => e) fun _ z => g _ z
  | lt => exact need_m h (fun _ e => e) fun _ z => need_m z (fun _ e => e) fun _ z => lt_m z g
  | le => exact need_m h (fun _ e => e) fun _ z => need_m z (fun _ e => e) fun _ z => lt_m z g
  | gt => exact need_m h (fun _ e => e) fun _ z => need_m z (fun _ e => e) fun _ z => lt_m z g
  | ge => exact need_m h (fun _ e => e) fun _ z => need_m z (fun _ e => e) fun _ z => lt_m z g
  | isIn => exact ik g h
  | notIn => exact ik (fun _ => g _) h
  | is => exact sk g h
  | isNot => exact sk (fun _ => g _) h

mutual
theorem sxE_ok (hC : CallOk M C K) : ∀ (e : PE) {s : Sy Ω} {k : SV → Sy Ω → Prop} {kx : Nat → Sy Ω → Prop} {ad : List Nat} {σ : St} {Q : V → St → Prop} {E : EP}, sxE P C e s k kx → Mt M ad s σ → PW M DV ad k Q → PW M DX ad kx E → wpE P K E e σ Q
  | .cst v, s, k, kx, ad, σ, Q, E, h, m, hk, hx => hk.now m (a := .v v) rfl h
  | .loc i, s, k, kx, ad, σ, Q, E, h, m, hk, hx => need_e h fun sv e h => (m.loc i sv e).elim fun v q => need_i q.2 (hk.now m q.1 h)
  | .glob i, s, k, kx, ad, σ, Q, E, h, m, hk, hx => need_m h (fun _ e => e) fun v h => hk.now m (a := .v v) rfl h
  | .attr e n, s, k, kx, ad, σ, Q, E, h, m, hk, hx =>
    sxE_ok hC e h m (fun o s₁ ad₁ σ₁ v x m₁ d h => attrS_ok m₁ d h fun sv r dr h => hk _ _ _ _ _ x m₁ dr h) hx
  | .bin fz op l r, s, k, kx, ad, σ, Q, E, h, m, hk, hx =>
    sxE_ok hC l h m (fun a s₁ ad₁ σ₁ v x m₁ d h => sxE_ok hC r h m₁ (fun b s₂ ad₂ σ₂ w y m₂ d₂ h => need_m (see2_m m₂ (dn_mono y d) d₂ h) (fun _ e => e) fun _ z => need_m z (fun _ e => e) fun _ z => bin_m z fun r z => giveS_ok m₂ z (hk.mono (x.trans y))) (hx.mono x)) hx
  | .neg e, s, k, kx, ad, σ, Q, E, h, m, hk, hx =>
    sxE_ok hC e h m (fun o s₁ ad₁ σ₁ v x m₁ d h => need_e h fun z ez h => by
      cases o with
      | v y => cases d; cases ez; exact need_m h (fun _ e => e) fun i z => hk _ _ _ _ _ x m₁ (show DV ad₁ (.v _) _ from rfl) z
      | _ => cases ez) hx
  | .not e, s, k, kx, ad, σ, Q, E, h, m, hk, hx =>
    sxE_ok hC e h m (fun o s₁ ad₁ σ₁ v x m₁ d h => tru_m (truS_ok m₁ d h) fun b z => hk _ _ _ _ _ x m₁ (show DV ad₁ (.v _) _ from rfl) z) hx
  | .cmp op l r, s, k, kx, ad, σ, Q, E, h, m, hk, hx =>
    sxE_ok hC l h m (fun a s₁ ad₁ σ₁ v x m₁ d h => sxE_ok hC r h m₁ (fun b s₂ ad₂ σ₂ w y m₂ d₂ h => cmp_m (cmpS_ok m₂ (dn_mono y d) d₂ h) fun b z => hk _ _ _ _ _ (x.trans y) m₂ (show DV ad₂ (.v _) _ from rfl) z) (hx.mono x)) hx
  | .cmp2 o₁ o₂ p q r, s, k, kx, ad, σ, Q, E, h, m, hk, hx =>
    sxE_ok hC p h m (fun a s₁ ad₁ σ₁ v x m₁ d h => sxE_ok hC q h m₁ (fun b s₂ ad₂ σ₂ w y m₂ d₂ h => cmp_m (cmpS_ok m₂ (dn_mono y d) d₂ h) fun b z => Br_m z
      (fun h => sxE_ok hC r h m₂ (fun c s₃ ad₃ σ₃ u z m₃ d₃ h => cmp_m (cmpS_ok m₃ (dn_mono z d₂) d₃ h) fun b h => hk _ _ _ _ _ ((x.trans y).trans z) m₃ (show DV ad₃ (.v _) _ from rfl) h) (hx.mono (x.trans y)))
      fun h => hk _ _ _ _ _ (x.trans y) m₂ (show DV ad₂ (.v _) _ from rfl) h) (hx.mono x)) hx
  | .and es, s, k, kx, ad, σ, Q, E, h, m, hk, hx => sxAnd_ok hC es h m hk hx
  | .or es, s, k, kx, ad, σ, Q, E, h, m, hk, hx => sxOr_ok hC es h m hk hx
  | .ite t a b, s, k, kx, ad, σ, Q, E, h, m, hk, hx =>
    sxT_ok hC t h m (fun c s₁ ad₁ σ₁ c' x m₁ ec h => by cases ec; exact Br_m h (fun h => sxE_ok hC a h m₁ (hk.mono x) (hx.mono x)) fun h => sxE_ok hC b h m₁ (hk.mono x) (hx.mono x)) hx
  | .list fz es, s, k, kx, ad, σ, Q, E, h, m, hk, hx =>
    sxEs_ok hC es h m (fun as s₁ ad₁ σ₁ vs x m₁ d h => need_e h fun xs e h => by rw [allV_ok d e]; exact giveS_ok m₁ h (hk.mono x)) hx
  | .tup es, s, k, kx, ad, σ, Q, E, h, m, hk, hx =>
    sxEs_ok hC es h m (fun as s₁ ad₁ σ₁ vs x m₁ d h => tupS_ok (Q := fun v => Q v σ₁) d h fun sv e h => hk _ _ _ _ _ x m₁ e h) hx
  | .dict kvs, s, k, kx, ad, σ, Q, E, h, m, hk, hx =>
    sxKV_ok hC kvs h m (fun as s₁ ad₁ σ₁ vs x m₁ d h => Ys_e h fun e h => Ys_e h fun e2 h => ⟨by rw [d.len]; exact Nat.ble_eq.mp e, by rw [d.keys]; exact e2, hk _ _ _ _ _ (x.trans m₁.ext) (m₁.new (.dict (d.mono m₁.ext))) m₁.newDn (newS_ok h)⟩) hx
  | .idx e i, s, k, kx, ad, σ, Q, E, h, m, hk, hx =>
    sxE_ok hC e h m (fun a s₁ ad₁ σ₁ v x m₁ d h => sxE_ok hC i h m₁ (fun b s₂ ad₂ σ₂ w y m₂ d₂ h => idxS_ok m₂ (dn_mono y d) d₂ h fun sv r dr h => hk _ _ _ _ _ (x.trans y) m₂ dr h) (hx.mono x)) hx
  | .sl fz e lo hi, s, k, kx, ad, σ, Q, E, h, m, hk, hx =>
    sxE_ok hC e h m (fun a s₁ ad₁ σ₁ v x m₁ d h => sxO_ok hC lo h m₁ (fun b s₂ ad₂ σ₂ w y m₂ d₂ h => sxO_ok hC hi h m₂ (fun c s₃ ad₃ σ₃ u z m₃ d₃ h =>
      need_e h fun l e1 h => need_i (optIS_ok (DO.mono z d₂) e1) (need_e h fun g e2 h => need_i (optIS_ok d₃ e2) (need_m (see_m m₃ (dn_mono (y.trans z) d) h) (fun _ e => e) fun _ q => sl_m q fun r q => giveS_ok m₃ q (hk.mono ((x.trans y).trans z))))) (hx.mono (x.trans y))) (hx.mono x)) hx
  | .rev fz e, s, k, kx, ad, σ, Q, E, h, m, hk, hx =>
    sxE_ok hC e h m (fun o s₁ ad₁ σ₁ v x m₁ d h => need_m (see_m m₁ d h) (fun _ e => e) fun _ z => need_m z (fun _ e => e) fun _ z => giveS_ok m₁ z (hk.mono x)) hx
  | .call fz f as, s, k, kx, ad, σ, Q, E, h, m, hk, hx =>
    sxE_ok hC f h m (fun a s₁ ad₁ σ₁ v x m₁ d h => sxEs_ok hC as h m₁ (fun as s₂ ad₂ σ₂ vs y m₂ d₂ h => callS_ok hC h m₂ (dn_mono y d) d₂ (hk.mono (x.trans y)) (hx.mono (x.trans y))) (hx.mono x)) hx
  | .sortedRev fz e, s, k, kx, ad, σ, Q, E, h, m, hk, hx =>
    sxE_ok hC e h m (fun o s₁ ad₁ σ₁ v x m₁ d h => need_m (see_m m₁ d h) (fun _ e => e) fun _ z => ints_m z fun _ z => giveS_ok m₁ z (hk.mono x)) hx
  | .sortedU fz p q, s, k, kx, ad, σ, Q, E, h, m, hk, hx =>
    sxE_ok hC p h m (fun a s₁ ad₁ σ₁ v x m₁ d h => sxE_ok hC q h m₁ (fun b s₂ ad₂ σ₂ w y m₂ d₂ h => need_m (see2_m m₂ (dn_mono y d) d₂ h) (fun _ e => e) fun _ z => need_m z (fun _ e => e) fun _ z => ints_m z fun _ z => ints_m z fun _ z => giveS_ok m₂ z (hk.mono (x.trans y))) (hx.mono x)) hx
  | .lenSet e, s, k, kx, ad, σ, Q, E, h, m, hk, hx =>
    sxE_ok hC e h m (fun o s₁ ad₁ σ₁ v x m₁ d h => need_m (see_m m₁ d h) (fun _ e => e) fun _ z => ints_m z fun _ z => hk _ _ _ _ _ x m₁ (show DV ad₁ (.v _) _ from rfl) z) hx
  | .meth fz o n as, s, k, kx, ad, σ, Q, E, h, m, hk, hx =>
    sxE_ok hC o h m (fun o s₁ ad₁ σ₁ v x m₁ d h => by
      have call : ∀ (f : Nat) (c : SV), dn ad₁ c = some v → sxEs P C as s₁ (fun vs s₂ => C f (c :: vs) s₂ (giveVS fz k) kx) kx → wpEs P K E as σ₁ fun vs σ₂ => callF P K E fz σ₂ (.fn f) (v :: vs) Q := fun f c dc h =>
        sxEs_ok hC as h m₁ (fun bs s₂ ad₂ σ₂ vs y m₂ d₂ h => hC _ _ _ _ _ _ _ _ _ _ h m₂ (.cons (dn_mono y dc) d₂) (fun sv s' ad' σ' v z m' dv h e => giveVS_ok (m'.back e) dv h (hk.mono ((x.trans y).trans z))) fun j s' ad' σ' a z m' ha h e => hx j s' ad' _ a ((x.trans y).trans z) (m'.back e) ha h) (hx.mono x)
      cases o with
      | s j =>
        obtain ⟨a, ha, rfl⟩ := mR_e d
        refine need_i rfl (m₁.there ha fun c hc r => ?_)
        simp only [hc] at h
        cases r with
        | dead => exact h.elim
        | mk c' g r =>
          simp only [g]
          cases r with
          | inst r => exact need_m h (fun _ e => e) fun cl h => need_m h (fun _ e => e) fun f h => call f _ d h
          | list xs =>
            refine Ys_e h fun e h => ⟨e, sxEs_ok hC as h m₁ (fun bs s₂ ad₂ σ₂ vs y m₂ d₂ h => need_e h fun xs e h => m₂.there (y.at_ ha) fun c hc r => ?_) (hx.mono x)⟩
            rw [hc] at e
            cases r with
            | dead => cases e
            | mk c' g r =>
              cases r with
              | list ys => cases e; exact need_i (congrArg cL g) (methLS_ok m₂ (y.at_ ha) d₂ h (hk.mono (x.trans y)))
              | _ => cases e
          | dict r => exact h.elim
          | w r => exact need_m h (fun _ e => e) fun cl h => need_m h (fun _ e => e) fun f h => call f _ d h
          | exc _ => exact h.elim
      | _ => exact h.elim) hx
  | .comp fz elt ts it cond, s, k, kx, ad, σ, Q, E, h, m, hk, hx =>
    sxE_ok hC it h m (fun a s₁ ad₁ σ₁ v x m₁ d h => need_e h fun xs e h => need_i (itemsS_ok m₁ d e) (by
      obtain ⟨inv, i0, I⟩ := h
      have m₁' : Mt M ad₁ (s₁.withLoc (rms s₁.loc ts)) ⟨σ₁.H, unbs ts σ₁.loc⟩ := m₁.withLoc fun i sv h => (m₁.loc i sv (lk_rms h).2).imp fun w q => ⟨q.1, by
        show (if ts.contains i then none else _) = _
        rw [if_neg (by simpa using (lk_rms h).1)]; exact q.2⟩
      exact Comp_ok (turn := fun x s₂ k₁ => bindTS ts x s₂ fun s₃ => sxC P C cond s₃ k₁ noX) (elt := fun s₂ k₁ => sxE P C elt s₂ k₁ noX) (fun x s' ad' σ' k' Q' h m hb => bindTS_ok m h fun s₂ σ₂ m₂ h => sxC_ok hC cond h m₂ hb PW.no) (fun s' ad' σ' k' Q' h m hk' => sxE_ok hC elt h m hk' PW.no) I m₁' d i0 fun ys s' ad' σ' ys' y m' ey h => by
        cases ey
        exact giveS_ok (m'.withLoc (l := s₁.loc) (lo := σ₁.loc) fun i sv h => (m₁.loc i sv h).imp fun w q => ⟨dn_mono y q.1, q.2⟩) h (hk.mono (x.trans y)))) hx
theorem sxT_ok (hC : CallOk M C K) : ∀ (e : PC) {s : Sy Ω} {k : Bool → Sy Ω → Prop} {kx : Nat → Sy Ω → Prop} {ad : List Nat} {σ : St} {Q : Bool → St → Prop} {E : EP}, sxT P C e s k kx → Mt M ad s σ → PW M DI ad k Q → PW M DX ad kx E → wpT P K E e σ Q
  | .not e, s, k, kx, ad, σ, Q, E, h, m, hk, hx => sxT_ok hC e h m (fun b s₁ ad₁ σ₁ b' x m₁ eb h => by cases eb; exact hk _ _ _ _ _ x m₁ rfl h) hx
  | .and es, s, k, kx, ad, σ, Q, E, h, m, hk, hx => sxAllT_ok hC es h m hk hx
  | .or es, s, k, kx, ad, σ, Q, E, h, m, hk, hx => sxAnyT_ok hC es h m hk hx
  | .e e, s, k, kx, ad, σ, Q, E, h, m, hk, hx => sxE_ok hC e h m (fun o s₁ ad₁ σ₁ v x m₁ d h => tru_m (truS_ok m₁ d h) fun b z => hk _ _ _ _ _ x m₁ rfl z) hx
theorem sxAllT_ok (hC : CallOk M C K) : ∀ (e : PCs) {s : Sy Ω} {k : Bool → Sy Ω → Prop} {kx : Nat → Sy Ω → Prop} {ad : List Nat} {σ : St} {Q : Bool → St → Prop} {E : EP}, sxAllT P C e s k kx → Mt M ad s σ → PW M DI ad k Q → PW M DX ad kx E → wpAllT P K E e σ Q
  | .nil, s, k, kx, ad, σ, Q, E, h, m, hk, hx => hk.now m rfl h
  | .cons e r, s, k, kx, ad, σ, Q, E, h, m, hk, hx => sxT_ok hC e h m (fun b s₁ ad₁ σ₁ b' x m₁ eb h => by cases eb; exact Br_m h (fun h => sxAllT_ok hC r h m₁ (hk.mono x) (hx.mono x)) fun h => hk _ _ _ _ _ x m₁ rfl h) hx
theorem sxAnyT_ok (hC : CallOk M C K) : ∀ (e : PCs) {s : Sy Ω} {k : Bool → Sy Ω → Prop} {kx : Nat → Sy Ω → Prop} {ad : List Nat} {σ : St} {Q : Bool → St → Prop} {E : EP}, sxAnyT P C e s k kx → Mt M ad s σ → PW M DI ad k Q → PW M DX ad kx E → wpAnyT P K E e σ Q
  | .nil, s, k, kx, ad, σ, Q, E, h, m, hk, hx => hk.now m rfl h
  | .cons e r, s, k, kx, ad, σ, Q, E, h, m, hk, hx => sxT_ok hC e h m (fun b s₁ ad₁ σ₁ b' x m₁ eb h => by cases eb; exact Br_m h (fun h => hk _ _ _ _ _ x m₁ rfl h) fun h => sxAnyT_ok hC r h m₁ (hk.mono x) (hx.mono x)) hx
theorem sxAnd_ok (hC : CallOk M C K) : ∀ (e : PEs) {s : Sy Ω} {k : SV → Sy Ω → Prop} {kx : Nat → Sy Ω → Prop} {ad : List Nat} {σ : St} {Q : V → St → Prop} {E : EP}, sxAnd P C e s k kx → Mt M ad s σ → PW M DV ad k Q → PW M DX ad kx E → wpAnd P K E e σ Q
  | .nil, s, k, kx, ad, σ, Q, E, h, m, hk, hx => h.elim
  | .cons e .nil, s, k, kx, ad, σ, Q, E, h, m, hk, hx => sxE_ok hC e h m hk hx
  | .cons e (.cons f r), s, k, kx, ad, σ, Q, E, h, m, hk, hx =>
    sxE_ok hC e h m (fun o s₁ ad₁ σ₁ v x m₁ d h => tru_m (truS_ok m₁ d h) fun b z => Br_m z (fun h => sxAnd_ok hC (.cons f r) h m₁ (hk.mono x) (hx.mono x)) fun h => hk _ _ _ _ _ x m₁ d h) hx
theorem sxOr_ok (hC : CallOk M C K) : ∀ (e : PEs) {s : Sy Ω} {k : SV → Sy Ω → Prop} {kx : Nat → Sy Ω → Prop} {ad : List Nat} {σ : St} {Q : V → St → Prop} {E : EP}, sxOr P C e s k kx → Mt M ad s σ → PW M DV ad k Q → PW M DX ad kx E → wpOr P K E e σ Q
  | .nil, s, k, kx, ad, σ, Q, E, h, m, hk, hx => h.elim
  | .cons e .nil, s, k, kx, ad, σ, Q, E, h, m, hk, hx => sxE_ok hC e h m hk hx
  | .cons e (.cons f r), s, k, kx, ad, σ, Q, E, h, m, hk, hx =>
    sxE_ok hC e h m (fun o s₁ ad₁ σ₁ v x m₁ d h => tru_m (truS_ok m₁ d h) fun b z => Br_m z (fun h => hk _ _ _ _ _ x m₁ d h) fun h => sxOr_ok hC (.cons f r) h m₁ (hk.mono x) (hx.mono x)) hx
theorem sxEs_ok (hC : CallOk M C K) : ∀ (e : PEs) {s : Sy Ω} {k : List SV → Sy Ω → Prop} {kx : Nat → Sy Ω → Prop} {ad : List Nat} {σ : St} {Q : List V → St → Prop} {E : EP}, sxEs P C e s k kx → Mt M ad s σ → PW M DnL ad k Q → PW M DX ad kx E → wpEs P K E e σ Q
  | .nil, s, k, kx, ad, σ, Q, E, h, m, hk, hx => hk.now m .nil h
  | .cons e r, s, k, kx, ad, σ, Q, E, h, m, hk, hx =>
    sxE_ok hC e h m (fun a s₁ ad₁ σ₁ v x m₁ d h => sxEs_ok hC r h m₁ (fun as s₂ ad₂ σ₂ vs y m₂ d₂ h => hk _ _ _ _ _ (x.trans y) m₂ (.cons (dn_mono y d) d₂) h) (hx.mono x)) hx
theorem sxKV_ok (hC : CallOk M C K) : ∀ (e : PKV) {s : Sy Ω} {k : List (V × SV) → Sy Ω → Prop} {kx : Nat → Sy Ω → Prop} {ad : List Nat} {σ : St} {Q : List (V × V) → St → Prop} {E : EP}, sxKV P C e s k kx → Mt M ad s σ → PW M DnF ad k Q → PW M DX ad kx E → wpKV P K E e σ Q
  | .nil, s, k, kx, ad, σ, Q, E, h, m, hk, hx => hk.now m .nil h
  | .cons e v r, s, k, kx, ad, σ, Q, E, h, m, hk, hx =>
    sxE_ok hC e h m (fun a s₁ ad₁ σ₁ va x m₁ d h => sxE_ok hC v h m₁ (fun b s₂ ad₂ σ₂ vb y m₂ d₂ h => sxKV_ok hC r h m₂ (fun as s₃ ad₃ σ₃ vs z m₃ d₃ h => need_e h fun w ew h => by
      cases a with
      | v w => cases d; cases ew; exact hk _ _ _ _ _ ((x.trans y).trans z) m₃ (.cons (dn_mono z d₂) d₃) h
      | _ => cases ew) (hx.mono (x.trans y))) (hx.mono x)) hx
theorem sxO_ok (hC : CallOk M C K) : ∀ (e : PEo) {s : Sy Ω} {k : Option SV → Sy Ω → Prop} {kx : Nat → Sy Ω → Prop} {ad : List Nat} {σ : St} {Q : Option V → St → Prop} {E : EP}, sxO P C e s k kx → Mt M ad s σ → PW M DO ad k Q → PW M DX ad kx E → wpO P K E e σ Q
  | .none, s, k, kx, ad, σ, Q, E, h, m, hk, hx => hk.now m .none h
  | .some e, s, k, kx, ad, σ, Q, E, h, m, hk, hx => sxE_ok hC e h m (fun a s₁ ad₁ σ₁ v x m₁ d h => hk _ _ _ _ _ x m₁ (.some d) h) hx
theorem sxC_ok (hC : CallOk M C K) : ∀ (e : PCo) {s : Sy Ω} {k : Bool → Sy Ω → Prop} {kx : Nat → Sy Ω → Prop} {ad : List Nat} {σ : St} {Q : Bool → St → Prop} {E : EP}, sxC P C e s k kx → Mt M ad s σ → PW M DI ad k Q → PW M DX ad kx E → wpC P K E e σ Q
  | .none, s, k, kx, ad, σ, Q, E, h, m, hk, hx => hk.now m rfl h
  | .some e, s, k, kx, ad, σ, Q, E, h, m, hk, hx => sxT_ok hC e h m hk hx
end
end
end Mine

end

section
set_option autoImplicit false
set_option linter.all false
set_option genSizeOf false
set_option genInjectivity false
namespace Mine
open PySem (Str)
section
variable {Ω : Type} (M : MEnv Ω)
inductive DFl (ad : List Nat) : FX → Flow → Prop
  | next : DFl ad .next .next
  | brk : DFl ad .brk .brk
  | cont : DFl ad .cont .cont
  | ret {a : SV} {v : V} : dn ad a = some v → DFl ad (.ret a) (.ret v)
variable {M} {P : Prog} {C : XT Ω} {K : CT}
theorem endS_ok {ad : List Nat} {s : Sy Ω} {σ : St} (m : Mt M ad s σ) {fl : FX} {fl' : Flow} (d : DFl ad fl fl') {go : Sy Ω → Prop} {go' : St → Prop} {k : FX → Sy Ω → Prop} {Q : Flow → St → Prop} (h : endS fl s go k) (hk : PW M DFl ad k Q) (g : go s → go' σ) : endK fl' σ go' Q := by
  cases d with
  | next => exact g h
  | cont => exact g h
  | brk => exact hk.now m .next h
  | ret d => exact hk.now m (.ret d) h
theorem Loop_ok {a : SV} {all : List V} {v : V} {turn : V → Sy Ω → (FX → Sy Ω → Prop) → Prop} {t : V → St → (Flow → St → Prop) → Prop} {k : FX → Sy Ω → Prop} {Q : Flow → St → Prop}
    (ht : ∀ x s' ad' σ' k' Q', turn x s' k' → Mt M ad' s' σ' → PW M DFl ad' k' Q' → t x σ' Q')
    {inv : List V → Sy Ω → Prop} (I : LoopI a all turn k inv) {xs : List V} : ∀ {s : Sy Ω} {ad : List Nat} {σ : St}, Mt M ad s σ → dn ad a = some v → inv xs s → PW M DFl ad k Q → loopGo t (still v all) xs σ Q := by
  induction xs with
  | nil => intro s ad σ m d hi hk; exact ⟨itemsS_ok m d (I.still _ _ hi), hk.now m .next (I.stop _ hi)⟩
  | cons x r ih =>
    intro s ad σ m d hi hk
    exact ⟨itemsS_ok m d (I.still _ _ hi), ht x s ad σ _ _ (I.turn x r s hi) m fun fl s₁ ad₁ σ₁ fl' e m₁ df q => endS_ok m₁ df q (hk.mono e) fun q => ih m₁ (dn_mono e d) q (hk.mono e)⟩
theorem putAS_ok {ad : List Nat} {s : Sy Ω} {σ : St} (m : Mt M ad s σ) {n : Nat} {a b : SV} {u v : V} {k : Sy Ω → Prop} {Q : St → Prop} (ha : dn ad a = some u) (d : dn ad b = some v) (h : putAS P a n b s k) (hk : ∀ s' σ', Mt M ad s' σ' → k s' → Q σ') : putA P u n v σ Q :=
  instS_ok m ha h fun j i c fs fs' hj hi df h => need_m h (fun _ e => e) fun cl h => Ys_e h fun e1 h => Ys_e h fun e2 h => ⟨e1, by rw [df.len]; exact Nat.blt_eq.mp e2, hk _ _ (m.setC hj (.inst (df.st d))) (setS_ok (Eq.mp stK_iff h))⟩
theorem svV_dn {ad : List Nat} {a : SV} {v x : V} (d : dn ad a = some v) (e : svV a = some x) : v = x := by
  cases a with
  | v y => cases d; exact Option.some.inj e
  | _ => cases e
theorem asgnS_ok (hC : CallOk M C K) {t : PT} {b : SV} {v : V} {s : Sy Ω} {k : Sy Ω → Prop} {kx : Nat → Sy Ω → Prop} {ad : List Nat} {σ : St} {Q : St → Prop} {E : EP} (h : asgnS P C t b s k kx) (m : Mt M ad s σ) (d : dn ad b = some v)
    (hk : ∀ s' ad' σ', Ext ad ad' → Mt M ad' s' σ' → k s' → Q σ') (hx : PW M DX ad kx E) : asgn P K E t v σ Q := by
  cases t with
  | loc i => exact hk _ _ _ (.refl _) (m.put d) (putS_ok h)
  | attr o n => exact sxE_ok hC o h m (fun o s₁ ad₁ σ₁ w x m₁ d₁ h => putAS_ok m₁ d₁ (dn_mono x d) h fun s' σ' m' h => hk _ _ _ x m' h) hx
  | idx o i => exact h.elim
  | tup is => exact h.elim
theorem augS_ok {op : BOp} {a b : SV} {v w : V} {ad : List Nat} {k : SV → Prop} {Q : V → Prop} (d : dn ad a = some v) (d' : dn ad b = some w) (h : augS op a b k) (hk : ∀ x, k (.v x) → Q x) : augK op v w Q :=
  need_e h fun x e h => need_e h fun y e' h => by
    rw [svV_dn d e, svV_dn d' e']
    cases op with
    | add => exact need_m h (fun _ e => e) fun _ z => need_m z (fun _ e => e) fun _ z => hk _ z
    | _ => exact h.elim
theorem asPut_ok {ad : List Nat} {s : Sy Ω} {σ : St} (m : Mt M ad s σ) {as : Option Nat} {j a : Nat} (ha : ad[j]? = some a) : Mt M ad (asPutS as j s) (asPut as a σ) := by
  cases as with
  | none => exact m
  | some n => exact m.put (dn_at ha)
theorem asUnb_ok {ad : List Nat} {s : Sy Ω} {σ : St} (m : Mt M ad s σ) {as : Option Nat} : Mt M ad (asUnbS as s) (asUnb as σ) := by
  cases as with
  | none => exact m
  | some n => exact m.withLoc fun i sv h => (m.loc i sv (lk_rm h).2).imp fun w q => ⟨q.1, (if_neg (lk_rm h).1).trans q.2⟩

mutual
theorem sxS_ok (hC : CallOk M C K) : ∀ (e : PS) {s : Sy Ω} {k : FX → Sy Ω → Prop} {kx : Nat → Sy Ω → Prop} {ad : List Nat} {σ : St} {Q : Flow → St → Prop} {E : EP}, sxS P C e s k kx → Mt M ad s σ → PW M DFl ad k Q → PW M DX ad kx E → wpS P K e σ Q E
  | .expr e, s, k, kx, ad, σ, Q, E, h, m, hk, hx => sxE_ok hC e h m (fun a s₁ ad₁ σ₁ v x m₁ d h => hk _ _ _ _ _ x m₁ .next h) hx
  | .pass, s, k, kx, ad, σ, Q, E, h, m, hk, hx => hk.now m .next h
  | .assign t e, s, k, kx, ad, σ, Q, E, h, m, hk, hx =>
    sxE_ok hC e h m (fun a s₁ ad₁ σ₁ v x m₁ d h => asgnS_ok hC h m₁ d (fun s' ad' σ' y m' h => hk _ _ _ _ _ (x.trans y) m' .next h) (hx.mono x)) hx
  | .augLoc i op e, s, k, kx, ad, σ, Q, E, h, m, hk, hx => need_e h fun sv e1 h => (m.loc i sv e1).elim fun v q =>
    need_i q.2 (sxE_ok hC e h m (fun a s₁ ad₁ σ₁ w x m₁ d₁ h => augS_ok (dn_mono x q.1) d₁ h fun y h => hk _ _ _ _ _ x (m₁.put (a := .v y) rfl) .next (putS_ok h)) hx)
  | .augAttr o n op e, s, k, kx, ad, σ, Q, E, h, m, hk, hx =>
    sxE_ok hC o h m (fun o s₁ ad₁ σ₁ v x m₁ d h => instS_ok m₁ d h fun j i c fs fs' hj hi df h => need_e h fun sv e1 h => (df.lk e1).elim fun w q => need_i q.2
      (sxE_ok hC e h m₁ (fun b s₂ ad₂ σ₂ u y m₂ d₂ h => augS_ok (dn_mono y q.1) d₂ h fun z h => putAS_ok m₂ (dn_mono y d) (b := .v z) rfl h fun s' σ' m' h => hk _ _ _ _ _ (x.trans y) m' .next h) (hx.mono x))) hx
  | .ret e, s, k, kx, ad, σ, Q, E, h, m, hk, hx =>
    sxO_ok hC e h m (fun a s₁ ad₁ σ₁ v x m₁ d h => by
      cases d with
      | none => exact hk _ _ _ _ _ x m₁ (.ret rfl) h
      | some d => exact hk _ _ _ _ _ x m₁ (.ret d) h) hx
  | .ite t a b, s, k, kx, ad, σ, Q, E, h, m, hk, hx =>
    sxT_ok hC t h m (fun c s₁ ad₁ σ₁ c' x m₁ ec h => by cases ec; exact Br_m h (fun h => sxSs_ok hC a h m₁ (hk.mono x) (hx.mono x)) fun h => sxSs_ok hC b h m₁ (hk.mono x) (hx.mono x)) hx
  | .loop ts it body, s, k, kx, ad, σ, Q, E, h, m, hk, hx =>
    sxE_ok hC it h m (fun a s₁ ad₁ σ₁ v x m₁ d h => need_e h fun xs e h => need_i (itemsS_ok m₁ d e) (by
      obtain ⟨inv, i0, I⟩ := h
      exact Loop_ok (turn := fun x s₂ k₁ => bindTS ts x s₂ fun s₃ => sxSs P C body s₃ k₁ noX) (fun x s' ad' σ' k' Q' h m hb => bindTS_ok m h fun s₂ σ₂ m₂ h => sxSs_ok hC body h m₂ hb PW.no) I m₁ d i0 (hk.mono x))) hx
  | .loopEnum i y it body, s, k, kx, ad, σ, Q, E, h, m, hk, hx =>
    sxE_ok hC it h m (fun a s₁ ad₁ σ₁ v x m₁ d h => need_m (see_m m₁ d h) (fun _ e => e) fun _ z => need_m z (fun _ e => e) fun xs h => by
      obtain ⟨inv, i0, I⟩ := h
      exact Loop_ok (turn := fun x s₂ k₁ => bindTS [i, y] x s₂ fun s₃ => sxSs P C body s₃ k₁ noX) (fun x s' ad' σ' k' Q' h m hb => bindTS_ok m h fun s₂ σ₂ m₂ h => sxSs_ok hC body h m₂ hb PW.no) I m₁ d i0 (hk.mono x)) hx
  | .while_ t body, s, k, kx, ad, σ, Q, E, h, m, hk, hx => h.elim
  | .raise i e, s, k, kx, ad, σ, Q, E, h, m, hk, hx => need_m h (fun _ e => e) fun v h => need_m h (fun _ e => e) fun c h => Ys_e h fun e1 h => ⟨e1, sxE_ok hC e h m (fun a s₁ ad₁ σ₁ v x m₁ d h => hx _ _ _ _ _ (x.trans m₁.ext) (m₁.new (.exc c)) m₁.newAt (newS_ok h)) PW.no⟩
  | .try_ body i as hd, s, k, kx, ad, σ, Q, E, h, m, hk, hx => need_m h (fun _ e => e) fun v h => need_m h (fun _ e => e) fun c h => sxSs_ok hC body h m hk fun j s₁ ad₁ σ₁ a x m₁ ha h => need_e h fun d ed h => Ys_e h fun e1 h => Ys_e h fun e2 h =>
      m₁.there ha fun c' hc r => by
        rw [hc] at ed
        cases r with
        | dead => cases ed
        | mk c'' g r =>
          cases r with
          | exc n => cases ed; exact need_i (congrArg cE g) ⟨e1, e2, sxSs_ok hC hd h (asPut_ok m₁ ha) (fun fl s' ad' σ' fl' y m' df h => hk _ _ _ _ _ (x.trans y) (asUnb_ok m') df h) PW.no⟩
          | _ => cases ed
theorem sxSs_ok (hC : CallOk M C K) : ∀ (e : PSs) {s : Sy Ω} {k : FX → Sy Ω → Prop} {kx : Nat → Sy Ω → Prop} {ad : List Nat} {σ : St} {Q : Flow → St → Prop} {E : EP}, sxSs P C e s k kx → Mt M ad s σ → PW M DFl ad k Q → PW M DX ad kx E → wpSs P K e σ Q E
  | .nil, s, k, kx, ad, σ, Q, E, h, m, hk, hx => hk.now m .next h
  | .cons c r, s, k, kx, ad, σ, Q, E, h, m, hk, hx =>
    sxS_ok hC c h m (fun fl s₁ ad₁ σ₁ fl' x m₁ df h => by
      cases df with
      | next => exact sxSs_ok hC r h m₁ (hk.mono x) (hx.mono x)
      | brk => exact hk _ _ _ _ _ x m₁ .brk h
      | cont => exact hk _ _ _ _ _ x m₁ .cont h
      | ret d => exact hk _ _ _ _ _ x m₁ (.ret d) h) hx
end

theorem bindP_ok {ad : List Nat} {ps : List Nat} : ∀ {as : List SV} {vs : List V} {l l' : List (Nat × SV)} {lo : Loc}, DnL ad as vs → bindPS ps as l = some l' → (∀ i sv, lk l i = some sv → ∃ v, dn ad sv = some v ∧ lo i = some v) →
    ∃ lo', bindP ps vs lo = some lo' ∧ ∀ i sv, lk l' i = some sv → ∃ v, dn ad sv = some v ∧ lo' i = some v := by
  induction ps with
  | nil =>
    intro as vs l l' lo d h hl
    cases d with
    | nil => exact ⟨lo, rfl, Option.some.inj h ▸ hl⟩
    | cons _ _ => cases h
  | cons p ps ih =>
    intro as vs l l' lo d h hl
    cases d with
    | nil => cases h
    | @cons a v _ _ d r => exact ih (lo := upd lo p v) r h fun i sv q => (lk_st q).elim (fun q => ⟨v, q.2 ▸ d, if_pos q.1⟩) fun q => (hl i sv q.2).imp fun w z => ⟨z.1, (if_neg q.1).trans z.2⟩
variable (M)
/-- what is known of a def holds -/
noncomputable def SpOk (P : Prog) (sp : Spc Ω) : Prop := ∀ f d r, sp f = some (d, r) → ∀ n, CallOk M (fun g as s k kx => g = f ∧ r as s k kx) (CW P (d + n))
variable {M}
theorem ret_dn {ad : List Nat} {fl : FX} {fl' : Flow} (h : DFl ad fl fl') : DV ad (retX fl) (retV fl') := by
  cases h with
  | ret d => exact d
  | _ => rfl
theorem call_body {n f : Nat} {C : XT Ω} {as : List SV} {s : Sy Ω} {k : SV → Sy Ω → Prop} {kx : Nat → Sy Ω → Prop} {ad : List Nat} {σ : St} {vs : List V} {Q : V → Hp → Prop} {E : Nat → Hp → Prop} (hC : CallOk M C (CW P n))
    (h : need (P.fn f) fun d => need (bindPS d.params as []) fun l => sxSs P C d.body (s.withLoc l) (fun fl s₁ => k (retX fl) (s₁.withLoc s.loc)) fun j s₁ => kx j (s₁.withLoc s.loc))
    (mt : Mt M ad s σ) (d : DnL ad as vs) (hk : PW M DV ad k (fun v σ' => σ'.loc = σ.loc → Q v σ'.H)) (hx : PW M DX ad kx (fun a σ' => σ'.loc = σ.loc → E a σ'.H)) : CW P (n + 1) f vs σ.H Q E :=
  have back : ∀ {s' : Sy Ω} {ad' : List Nat} {σ' : St}, Ext ad ad' → Mt M ad' s' σ' → Mt M ad' (s'.withLoc s.loc) (σ.setH σ'.H) := fun x m' => m'.withLoc fun i sv h => (mt.loc i sv h).imp fun w q => ⟨dn_mono x q.1, q.2⟩
  need_m h (fun _ e => e) fun fd h => need_e h fun l e2 h => (bindP_ok (lo := fun _ => none) d e2 fun i sv q => (nomatch q)).elim fun lo q => need_i q.1
    (sxSs_ok hC fd.body h (mt.withLoc q.2) (fun fl s' ad' σ' fl' x m' df h => hk _ _ _ (σ.setH σ'.H) _ x (back x m') (ret_dn df) h rfl) fun j s' ad' σ' a x m' ha h => hx _ _ _ (σ.setH σ'.H) _ x (back x m') ha h rfl)
theorem callX_ok {sp : Spc Ω} (hs : SpOk M P sp) (n : Nat) : ∀ m, CallOk M (callX P sp m) (CW P (m + n))
  | 0 => fun f as s k kx ad σ vs Q E h => h.elim
  | m + 1 => fun f as s k kx ad σ vs Q E h mt d hk hx => by
    have h : (match sp f with
      | some (d, r) => Ys (Nat.ble d (m + 1)) (r as s k kx)
      | none => need (P.fn f) fun d => need (bindPS d.params as []) fun l => sxSs P (callX P sp m) d.body (s.withLoc l) (fun fl s₁ => k (retX fl) (s₁.withLoc s.loc)) fun j s₁ => kx j (s₁.withLoc s.loc)) := h
    cases q : sp f with
    | some x =>
      rw [q] at h
      refine Ys_e h fun h1 h => ?_
      have := hs f x.1 x.2 q (m + 1 - x.1 + n) f as s k kx ad σ vs Q E ⟨rfl, h⟩ mt d hk hx
      rw [← Nat.add_assoc, Nat.add_sub_cancel' (Nat.ble_eq.mp h1)] at this
      exact this
    | none =>
      rw [q] at h
      rw [Nat.add_right_comm]
      exact call_body (callX_ok hs n m) h mt d hk hx
end
end Mine

end

section
set_option autoImplicit false
set_option linter.all false
set_option genSizeOf false
set_option genInjectivity false
namespace Mine
open PySem (Str)

/-! The folk, plainly. -/
structure Msg where
  h : Int
  n : Int
  w : Str
noncomputable def Msg.v (m : Msg) : V := .tup [.int m.h, .int m.n, .str m.w]
abbrev Bal := Int × Int
noncomputable def balV (b : Bal) : V := .tup [.int b.1, .int b.2]
noncomputable def iV (l : List Int) : List V := l.map .int
noncomputable def mV (l : List Msg) : List V := l.map Msg.v
structure Val where
  hands : List Int
  row : List Msg
noncomputable def Val.v (x : Val) : V := .tup [.lst (iV x.hands), .lst (mV x.row)]
noncomputable def agV : Option (Bal × Val) → V
  | none => .none
  | some x => .tup [balV x.1, x.2.v]
structure News where
  place : Int
  hands : List Int
  row : List Msg
  wit : List Int
noncomputable def News.v (x : News) : V := .tup [.int x.place, .lst (iV x.hands), .lst (mV x.row), .lst (iV x.wit)]
noncomputable def nwV : Option News → V
  | none => .none
  | some x => x.v
noncomputable def plV : Option Int → V
  | none => .none
  | some i => .int i
structure OfferS where
  ballot : Bal
  hands : List Int
  promises : List (Int × (List Msg × Option (Bal × Val)))
  value : Option Val
  agrees : List Int
  over : Bool
structure HandS where
  number : Int
  place : Option Int
  highest : Int
  members : List Int
  said : Int
  up : Bool
  gone : List (Int × List Int × List Msg)
  news : Option News
  row : List Msg
  took : Int
  still : Bool
  ballot : Bal
  agreed : Option (Bal × Val)
  offer : Option OfferS
  holds : List (Int × Int)
noncomputable def goV (x : Int × List Int × List Msg) : V := .tup [.int x.1, .lst (iV x.2.1), .lst (mV x.2.2)]
inductive Cont where
  | wish (m : Msg)
  | hold (m : Msg) (p : Int)
  | have_ (n : Int)
  | take (n : Int)
  | prepare (b : Bal)
  | promise (b : Bal) (row : List Msg) (a : Option (Bal × Val))
  | accept (b : Bal) (x : Val)
  | agree (b : Bal)
  | enter (x : News)
structure Letter where
  from_ : Int
  to : Int
  place : Int
  c : Cont
noncomputable def w_wish : Str := ⟨#[119, 105, 115, 104]⟩
noncomputable def w_hold : Str := ⟨#[104, 111, 108, 100]⟩
noncomputable def w_have : Str := ⟨#[104, 97, 118, 101]⟩
noncomputable def w_take : Str := ⟨#[116, 97, 107, 101]⟩
noncomputable def w_prepare : Str := ⟨#[112, 114, 101, 112, 97, 114, 101]⟩
noncomputable def w_promise : Str := ⟨#[112, 114, 111, 109, 105, 115, 101]⟩
noncomputable def w_accept : Str := ⟨#[97, 99, 99, 101, 112, 116]⟩
noncomputable def w_agree : Str := ⟨#[97, 103, 114, 101, 101]⟩
noncomputable def w_enter : Str := ⟨#[101, 110, 116, 101, 114]⟩
noncomputable def Cont.word : Cont → Str
  | .wish _ => w_wish
  | .hold _ _ => w_hold
  | .have_ _ => w_have
  | .take _ => w_take
  | .prepare _ => w_prepare
  | .promise _ _ _ => w_promise
  | .accept _ _ => w_accept
  | .agree _ => w_agree
  | .enter _ => w_enter
noncomputable def Cont.v : Cont → V
  | .wish m => m.v
  | .hold m p => .tup [m.v, .int p]
  | .have_ n => .int n
  | .take n => .int n
  | .prepare b => balV b
  | .promise b r a => .tup [balV b, .lst (mV r), agV a]
  | .accept b x => .tup [balV b, x.v]
  | .agree b => balV b
  | .enter x => x.v
noncomputable def Letter.v (l : Letter) : V := .tup [.str l.c.word, .int l.from_, .int l.to, .int l.place, l.c.v]
noncomputable def lV (l : List Letter) : List V := l.map Letter.v
structure FolkS where
  hands : List HandS
  under : List Letter

/-! The same in cells: the folk 0, the letters 1, a hand 2, its past 3, its row 4, what others hold 5, its offer 6, its promises 7, its agrees 8. -/
noncomputable def hoV (l : List (Int × Int)) : List (V × V) := l.map fun x => (.int x.1, .int x.2)
noncomputable def prV (x : List Msg × Option (Bal × Val)) : V := .tup [.lst (mV x.1), agV x.2]
noncomputable def pmV (l : List (Int × (List Msg × Option (Bal × Val)))) : List (V × V) := l.map fun x => (.int x.1, prV x.2)
noncomputable def agsV (l : List Int) : List (V × V) := l.map fun x => (.int x, .bool true)
noncomputable def svs (l : List (V × V)) : List (V × SV) := l.map fun x => (x.1, .v x.2)
noncomputable def vaV : Option Val → V
  | none => .none
  | some x => x.v
noncomputable def handF {α : Type} (v : V → α) (h : HandS) (g r d o : α) : List (Nat × α) := [(109, v (.int h.number)), (110, v (plV h.place)), (111, v (.int h.highest)), (17, v (.lst (iV h.members))), (112, v (.int h.said)), (113, v (.bool h.up)), (114, g), (115, v (nwV h.news)), (23, r), (116, v (.int h.took)), (117, v (.bool h.still)), (118, v (balV h.ballot)), (119, v (agV h.agreed)), (120, o), (121, d)]
noncomputable def offF {α : Type} (v : V → α) (x : OfferS) (p q : α) : List (Nat × α) := [(118, v (balV x.ballot)), (123, v (.lst (iV x.hands))), (146, p), (147, v (vaV x.value)), (149, q), (148, v (.bool x.over))]
noncomputable def folkC (m : Int) (hs : List SA) : SC := .inst 60 [(18, .v (.int m)), (123, .l hs), (124, .s 1)]
noncomputable def handC (h : HandS) (g r d : Nat) (o : SV) : SC := .inst 59 (handF .v h (.s g) (.s r) (.s d) o)
noncomputable def gnC (h : HandS) : SC := .list (h.gone.map goV)
noncomputable def offC (x : OfferS) (p q : Nat) : SC := .inst 155 (offF .v x (.s p) (.s q))
/-- the cells of a hand in focus -/
noncomputable def hcs (h : HandS) : List SC := match h.offer with
  | none => [handC h 3 4 5 (.v .none), gnC h, .list (mV h.row), .dict (svs (hoV h.holds))]
  | some x => [handC h 3 4 5 (.s 6), gnC h, .list (mV h.row), .dict (svs (hoV h.holds)), offC x 7 8, .dict (svs (pmV x.promises)), .dict (svs (agsV x.agrees))]
noncomputable def fcs (m : Int) (hs : List SA) (U : List Letter) (r : List SC) : List SC := folkC m hs :: .list (lV U) :: r
end Mine

end

section
set_option autoImplicit false
set_option linter.all false
set_option genSizeOf false
set_option genInjectivity false
namespace Mine
open PySem (Str)

/-! The folk in the heap. -/
structure HA where
  r : Nat
  g : Nat
  w : Nat
  d : Nat
  o : Option (Nat × Nat × Nat)
noncomputable def oL : Option (Nat × Nat × Nat) → List Nat
  | none => []
  | some t => [t.1, t.2.1, t.2.2]
noncomputable def oVl : Option (Nat × Nat × Nat) → V
  | none => .none
  | some t => .ref t.1
noncomputable def HA.l (a : HA) : List Nat := a.r :: a.g :: a.w :: a.d :: oL a.o
inductive OR (H : Hp) : Option OfferS → Option (Nat × Nat × Nat) → Prop
  | none : OR H none none
  | some {x : OfferS} {i p q : Nat} : H.get i = some (.inst 155 (offF id x (.ref p) (.ref q))) → H.get p = some (.dict (pmV x.promises)) → H.get q = some (.dict (agsV x.agrees)) → OR H (some x) (some (i, p, q))
structure HR (H : Hp) (h : HandS) (a : HA) : Prop where
  r : H.get a.r = some (.inst 59 (handF id h (.ref a.g) (.ref a.w) (.ref a.d) (oVl a.o)))
  g : H.get a.g = some (.list (h.gone.map goV))
  w : H.get a.w = some (.list (mV h.row))
  d : H.get a.d = some (.dict (hoV h.holds))
  o : OR H h.offer a.o
theorem OR.keep {H H' : Hp} {x : Option OfferS} {o : Option (Nat × Nat × Nat)} (h : OR H x o) (e : ∀ y ∈ oL o, H'.get y = H.get y) : OR H' x o := by
  cases h with
  | none => exact .none
  | some a b c => exact .some ((e _ (.head _)).trans a) ((e _ (.tail _ (.head _))).trans b) ((e _ (.tail _ (.tail _ (.head _)))).trans c)
theorem HR.keep {H H' : Hp} {h : HandS} {a : HA} (r : HR H h a) (e : ∀ y ∈ a.l, H'.get y = H.get y) : HR H' h a :=
  ⟨(e _ (.head _)).trans r.r, (e _ (.tail _ (.head _))).trans r.g, (e _ (.tail _ (.tail _ (.head _)))).trans r.w, (e _ (.tail _ (.tail _ (.tail _ (.head _))))).trans r.d, r.o.keep fun y hy => e y (.tail _ (.tail _ (.tail _ (.tail _ hy))))⟩
/-- the folk, with the places of its parts -/
structure FolkW where
  S : FolkS
  f : Nat
  u : Nat
  as : List HA
noncomputable def FolkW.l (w : FolkW) : List Nat := w.u :: w.as.flatMap HA.l
noncomputable def folkF (w : FolkW) : List (Nat × V) := [(18, .int w.S.hands.length), (123, .lst (w.as.map fun a => .ref a.r)), (124, .ref w.u)]
structure RepW (w : FolkW) (H : Hp) : Prop where
  und : H.get w.u = some (.list (lV w.S.under))
  len : w.as.length = w.S.hands.length
  hand : ∀ (k : Nat) (a : HA) (h : HandS), w.as[k]? = some a → w.S.hands[k]? = some h → HR H h a
  nd : w.l.Nodup
/-- R, g: what else stands in the heap, and as what -/
noncomputable def wI (R : Nat → Prop) (g : Nat → Option C) : Option FolkW → Hp → (Nat → Prop) → Prop
  | none, H, F => (∀ x, F x ↔ R x) ∧ ∀ x, R x → H.get x = g x
  | some w, H, F => RepW w H ∧ (∀ x, F x ↔ (x ∈ w.l ∨ R x)) ∧ ∀ x, R x → x ∉ w.l ∧ H.get x = g x
inductive wIs (o : Option FolkW) (a c : Nat) (fs fs' : List (Nat × V)) : Prop
  | mk (w : FolkW) (ho : o = some w) (ha : a = w.f) (hc : c = 60) (hf : fs = [(18, .int w.S.hands.length)]) (hf' : fs' = folkF w)
theorem mem_l {w : FolkW} {k : Nat} {a : HA} (ha : w.as[k]? = some a) {x : Nat} (hx : x ∈ a.l) : x ∈ w.l := .tail _ (List.mem_flatMap.mpr ⟨a, List.mem_of_getElem? ha, hx⟩)
theorem RepW.keep {w : FolkW} {H H' : Hp} (r : RepW w H) (e : ∀ x ∈ w.l, H'.get x = H.get x) : RepW w H' :=
  ⟨(e _ (.head _)).trans r.und, r.len, fun k a h ha hh => (r.hand k a h ha hh).keep fun y hy => e y (mem_l ha hy), r.nd⟩
/-- the folk is the world -/
noncomputable def MF (R : Nat → Prop) (g : Nat → Option C) : MEnv (Option FolkW) where
  I := wI R g
  Is := wIs
  keep := fun w H H' F h e _ => by
    cases w with
    | none => exact ⟨h.1, fun x hx => (e x ((h.1 x).mpr hx)).trans (h.2 x hx)⟩
    | some w => exact ⟨h.1.keep fun x hx => e x ((h.2.1 x).mpr (.inl hx)), h.2.1, fun x hx => ⟨(h.2.2 x hx).1, (e x ((h.2.1 x).mpr (.inr hx))).trans (h.2.2 x hx).2⟩⟩
  obj := fun w a c fs fs' h n v e => by
    cases h with
    | mk w ho ha hc hf hf' => subst hf hf'; exact cond_e e (fun q z => (cond_t q).trans z) fun q z => nomatch z
/-- the rest of the heap stands -/
structure FrI (H : Hp) (ad : List Nat) (H' : Hp) (F : Nat → Prop) : Prop where
  is : ∀ x, F x ↔ x < H.next ∧ x ∉ ad
  eq : ∀ x, F x → H'.get x = H.get x
  le : H.next ≤ H'.next
noncomputable def MFr (H : Hp) (ad : List Nat) : MEnv Unit where
  I := fun _ => FrI H ad
  Is := fun _ _ _ _ _ => False
  keep := fun _ H' H'' F h e n => ⟨h.is, fun x hx => (e x hx).trans (h.eq x hx), Nat.le_trans h.le n⟩
  obj := fun _ _ _ _ _ h => h.elim

theorem DnF_v {κ : Type} {ad : List Nat} : ∀ (l : List (κ × V)), DnF ad (l.map fun x => (x.1, SV.v x.2)) l
  | [] => .nil
  | _ :: r => .cons rfl (DnF_v r)
/-- the hands as the focus sees them -/
noncomputable def hsA (k : Nat) : Nat → List HA → List SA
  | _, [] => []
  | i, a :: r => (if i = k then .s 2 else .v (.ref a.r)) :: hsA k (i + 1) r
theorem hsA_len {k : Nat} {as : List HA} : ∀ {i : Nat}, (hsA k i as).length = as.length := by
  induction as with
  | nil => intro i; rfl
  | cons a r ih => intro i; exact congrArg (· + 1) ih
theorem hsA_at {k : Nat} {as : List HA} : ∀ {i j : Nat}, i + j = k → j < as.length → (hsA k i as)[j]? = some (.s 2) := by
  induction as with
  | nil => intro i j _ h; exact absurd h (Nat.not_lt_zero _)
  | cons a r ih =>
    intro i j e h
    cases j with
    | zero => exact congrArg some (if_pos e)
    | succ j => exact ih (i := i + 1) (by rw [← e]; exact Nat.succ_add_eq_add_succ i j) (Nat.lt_of_succ_lt_succ h)
theorem hsA_dn {k x : Nat} {ad : List Nat} (h2 : ad[2]? = some x) {as : List HA} : ∀ {i : Nat}, (∀ (j : Nat) (a : HA), i + j = k → as[j]? = some a → a.r = x) → dnAs ad (hsA k i as) = some (as.map fun a => .ref a.r) := by
  induction as with
  | nil => intro i _; rfl
  | cons a r ih =>
    intro i h
    refine dnAs_i ?_ (ih fun j b e q => h (j + 1) b (by rw [← e]; exact (Nat.succ_add_eq_add_succ i j).symm) q)
    show dnA ad (if i = k then .s 2 else .v (.ref a.r)) = some (.ref a.r)
    by_cases e : i = k
    · rw [if_pos e, h 0 a e rfl]
      show mR ad[2]? = _
      rw [h2]; rfl
    · rw [if_neg e]; rfl

theorem nodup_inj {l : List Nat} (h : l.Nodup) {i j a : Nat} (hi : l[i]? = some a) (hj : l[j]? = some a) : i = j :=
  (List.getElem?_eq_some_iff.mp hi).elim fun l1 e1 => (List.getElem?_eq_some_iff.mp hj).elim fun l2 e2 => (List.getElem_inj h).mp (e1.trans e2.symm)
theorem nd_sub {w : FolkW} {k : Nat} {a : HA} (h : w.l.Nodup) (ha : w.as[k]? = some a) : (w.u :: a.l).Nodup := by
  have hs : (a.l).Sublist (w.as.flatMap HA.l) := by
    obtain ⟨s, t, e⟩ := List.append_of_mem (List.mem_of_getElem? ha)
    rw [e, List.flatMap_append, List.flatMap_cons]
    exact (List.sublist_append_left _ _).trans (List.sublist_append_right _ _)
  exact h.sublist (.cons₂ _ hs)
/-- a hand's cells -/
theorem hcs_ok {D : Nat → Nat → List (Nat × V) → List (Nat × V) → Prop} {f u : Nat} {t : List Nat} {H : Hp} {h : HandS} {a : HA} (r : HR H h a) : ∀ (j x : Nat) (c : SC), a.l[j]? = some x → at_ (hcs h) j = some c → CA D (f :: u :: (a.l ++ t)) H x c := by
  obtain ⟨ar, ag, aw, ad, ao⟩ := a
  intro j x c hx hc
  have ro : OR H h.offer ao := r.o
  unfold hcs at hc
  generalize ho : h.offer = ho' at hc ro
  cases ro with
  | none =>
    match j, hx, hc with
    | 0, hx, hc => cases hx; cases hc; exact .mk _ r.r (.inst (.cons rfl (.cons rfl (.cons rfl (.cons rfl (.cons rfl (.cons rfl (.cons rfl (.cons rfl (.cons rfl (.cons rfl (.cons rfl (.cons rfl (.cons rfl (.cons rfl (.cons rfl .nil))))))))))))))))
    | 1, hx, hc => cases hx; cases hc; exact .mk _ r.g (.list _)
    | 2, hx, hc => cases hx; cases hc; exact .mk _ r.w (.list _)
    | 3, hx, hc => cases hx; cases hc; exact .mk _ r.d (.dict (DnF_v _))
  | some o1 o2 o3 =>
    match j, hx, hc with
    | 0, hx, hc => cases hx; cases hc; exact .mk _ r.r (.inst (.cons rfl (.cons rfl (.cons rfl (.cons rfl (.cons rfl (.cons rfl (.cons rfl (.cons rfl (.cons rfl (.cons rfl (.cons rfl (.cons rfl (.cons rfl (.cons rfl (.cons rfl .nil))))))))))))))))
    | 1, hx, hc => cases hx; cases hc; exact .mk _ r.g (.list _)
    | 2, hx, hc => cases hx; cases hc; exact .mk _ r.w (.list _)
    | 3, hx, hc => cases hx; cases hc; exact .mk _ r.d (.dict (DnF_v _))
    | 4, hx, hc => cases hx; cases hc; exact .mk _ o1 (.inst (.cons rfl (.cons rfl (.cons rfl (.cons rfl (.cons rfl (.cons rfl .nil)))))))
    | 5, hx, hc => cases hx; cases hc; exact .mk _ o2 (.dict (DnF_v _))
    | 6, hx, hc => cases hx; cases hc; exact .mk _ o3 (.dict (DnF_v _))
theorem hcs_len {h : HandS} {H : Hp} {a : HA} (o : OR H h.offer a.o) : a.l.length = (hcs h).length := by
  obtain ⟨ar, ag, aw, ad, ao⟩ := a
  have ro : OR H h.offer ao := o
  unfold hcs
  generalize h.offer = ho at ro
  cases ro <;> rfl

/-- a list of the caller's that is read -/
abbrev Exl := Option (Nat × List V)
noncomputable def exA : Exl → List Nat
  | none => []
  | some e => [e.1]
noncomputable def exC : Exl → List SC
  | none => []
  | some e => [.list e.2]
inductive XlAt (ad : List Nat) (cs : List SC) : Exl → Prop
  | none : XlAt ad cs none
  | some {n b : Nat} {xs : List V} : ad[n]? = some b → at_ cs n = some (.list xs) → XlAt ad cs (some (b, xs))
/-- the places in focus -/
noncomputable def FolkW.ad (w : FolkW) (a : HA) (ex : Exl) : List Nat := w.f :: w.u :: (a.l ++ exA ex)
section
variable {R : Nat → Prop} {g : Nat → Option C} {ad : List Nat} {s : Sy (Option FolkW)} {σ : St} (m : Mt (MF R g) ad s σ) {w : FolkW} (hw : s.w = some w)
include m hw
theorem Mt.folk {j : Nat} {fs : List (Nat × V)} (hj : at_ s.cs j = some (.w 60 fs)) : ad[j]? = some w.f ∧ σ.H.get w.f = some (.inst 60 (folkF w)) := by
  have hl : j < ad.length := by rw [m.len]; exact at_len hj
  have ha : ad[j]? = some ad[j] := List.getElem?_eq_getElem hl
  cases m.cell j _ _ ha hj with
  | mk d g r =>
    cases r with
    | w r =>
      cases r with
      | mk w' ho q1 q2 q3 q4 =>
        cases hw.symm.trans ho
        rw [q1] at ha g
        rw [q4] at g
        exact ⟨ha, g⟩
theorem Mt.rep {G : Prop} (g : RepW w σ.H → (∀ x ∈ w.l, x < σ.H.next) → (∀ (j a : Nat), ad[j]? = some a → a ∉ w.l) → G) : G := by
  obtain ⟨F, f1, f2, f3⟩ := m.res
  rw [hw] at f1
  exact g f1.1 (fun x hx => f3 x ((f1.2.1 x).mpr (.inl hx))) fun j a h q => f2 j a h ((f1.2.1 a).mpr (.inl q))
/-- what else stands -/
theorem Mt.rx {x : Nat} (hx : R x) : x ∉ w.l ∧ σ.H.get x = g x ∧ x < σ.H.next ∧ ∀ j : Nat, ad[j]? ≠ some x := by
  obtain ⟨F, f1, f2, f3⟩ := m.res
  rw [hw] at f1
  have hF := (f1.2.1 x).mpr (.inr hx)
  exact ⟨(f1.2.2 x hx).1, (f1.2.2 x hx).2, f3 x hF, fun j q => f2 j x q hF⟩
theorem xlAt_out {ex : Exl} (X : XlAt ad s.cs ex) {b : Nat} (hb : b ∈ exA ex) : ∃ n xs, ad[n]? = some b ∧ at_ s.cs n = some (.list xs) ∧ ex = some (b, xs) := by
  cases X with
  | none => cases hb
  | @some n b' xs h1 h2 =>
    rcases List.mem_cons.mp hb with rfl | hb
    · exact ⟨n, xs, h1, h2, rfl⟩
    · cases hb
variable {j : Nat} {fs : List (Nat × V)} (hj : at_ s.cs j = some (.w 60 fs)) {i : Nat} {a : HA} {h : HandS} (ha : w.as[i]? = some a) (hh : w.S.hands[i]? = some h) {ex : Exl} (X : XlAt ad s.cs ex)
include hj ha X
theorem foc_nd : (w.ad a ex).Nodup := m.rep hw fun R _ q => by
  have fj := (m.folk hw hj).1
  refine List.nodup_cons.mpr ⟨fun z => ?_, List.nodup_cons.mpr ⟨fun z => ?_, List.nodup_append.mpr ⟨(List.nodup_cons.mp (nd_sub R.nd ha)).2, ?_, fun x hx y hy e => ?_⟩⟩⟩
  · rcases List.mem_cons.mp z with e | z
    · exact q j _ fj (e ▸ .head _)
    rcases List.mem_append.mp z with z | z
    · exact q j _ fj (mem_l ha z)
    · obtain ⟨n, xs, h1, h2, _⟩ := xlAt_out m hw X z
      cases m.nd j n _ fj h1
      cases hj.symm.trans h2
  · rcases List.mem_append.mp z with z | z
    · exact (List.nodup_cons.mp (nd_sub R.nd ha)).1 z
    · obtain ⟨n, xs, h1, h2, _⟩ := xlAt_out m hw X z
      exact q n _ h1 (.head _)
  · cases X with
    | none => exact .nil
    | some => exact List.nodup_cons.mpr ⟨fun h => (nomatch h), .nil⟩
  · subst e
    obtain ⟨n, xs, h1, h2, _⟩ := xlAt_out m hw X hy
    exact q n _ h1 (mem_l ha hx)
theorem foc_lt : ∀ x ∈ w.ad a ex, x < σ.H.next := m.rep hw fun R l q x hx => by
  rcases List.mem_cons.mp hx with e | hx
  · exact e ▸ m.lt j _ (m.folk hw hj).1
  rcases List.mem_cons.mp hx with e | hx
  · exact l _ (e ▸ .head _)
  rcases List.mem_append.mp hx with hx | hx
  · exact l _ (mem_l ha hx)
  · obtain ⟨n, xs, h1, h2, _⟩ := xlAt_out m hw X hx
    exact m.lt n _ h1
include hh
theorem foc_mt (lo : Loc) : Mt (MFr σ.H (w.ad a ex)) (w.ad a ex) ⟨fcs w.S.hands.length (hsA i 0 w.as) w.S.under (hcs h ++ exC ex), [], ()⟩ ⟨σ.H, lo⟩ := m.rep hw fun R l q => by
  have r := R.hand i a h ha hh
  have nd := foc_nd m hw hj ha X
  have lt := foc_lt m hw hj ha X
  have el : (exA ex).length = (exC ex).length := by cases ex <;> rfl
  refine ⟨?_, fun j x c hx hc => ?_, fun i j x hi hj => nodup_inj nd hi hj, fun j x hx => lt x (List.mem_of_getElem? hx), fun i sv h => (nomatch h), fun x => x < σ.H.next ∧ x ∉ w.ad a ex, ⟨fun _ => Iff.rfl, fun _ _ => rfl, Nat.le_refl _⟩, fun j x hx hF => hF.2 (List.mem_of_getElem? hx), fun x hx => hx.1⟩
  · refine congrArg (· + 1 + 1) ?_
    show (a.l ++ exA ex).length = (hcs h ++ exC ex).length
    rw [List.length_append, List.length_append, hcs_len r.o, el]
  match j, hx, hc with
  | 0, hx, hc =>
    cases hx; cases hc
    refine .mk _ (m.folk hw hj).2 (.inst (.cons rfl (.cons ?_ (.cons rfl .nil))))
    exact congrArg mL (hsA_dn (k := i) (x := a.r) rfl fun j b e q => by
      have : j = i := (Nat.zero_add j).symm.trans e
      subst this
      rw [Option.some.inj (q.symm.trans ha)])
  | 1, hx, hc => cases hx; cases hc; exact .mk _ R.und (.list _)
  | j + 2, hx, hc =>
    have hx : (a.l ++ exA ex)[j]? = some x := hx
    have hc : at_ (hcs h ++ exC ex) j = some c := hc
    by_cases lj : j < a.l.length
    · rw [List.getElem?_append_left lj] at hx
      rw [at_eq, List.getElem?_append_left (by rw [← hcs_len r.o]; exact lj), ← at_eq] at hc
      exact hcs_ok r j x c hx hc
    · have lj := Nat.le_of_not_lt lj
      rw [List.getElem?_append_right lj] at hx
      rw [at_eq, List.getElem?_append_right (by rw [← hcs_len r.o]; exact lj), ← hcs_len r.o] at hc
      cases X with
      | none => cases hx
      | @some n b xs h1 h2 =>
        generalize j - a.l.length = p at hx hc
        cases p with
        | zero => cases hx; cases hc; exact .mk _ (m.list h2 h1) (.list _)
        | succ p => cases hx
end
end Mine

end

section
set_option autoImplicit false
set_option linter.all false
set_option genSizeOf false
set_option genInjectivity false
namespace Mine
open PySem (Str)

/-- the cells at the end of a run in focus -/
inductive OffIn (cs : List SC) : Option OfferS → SV → Option (Nat × Nat × Nat) → Prop
  | none : OffIn cs none (.v .none) none
  | some {x : OfferS} {i p q : Nat} : at_ cs i = some (offC x p q) → at_ cs p = some (.dict (svs (pmV x.promises))) → at_ cs q = some (.dict (svs (agsV x.agrees))) → OffIn cs (some x) (.s i) (some (i, p, q))
/-- a hand among the cells -/
structure HandIn (cs : List SC) (h : HandS) (js : HA) (o : SV) : Prop where
  c2 : at_ cs js.r = some (handC h js.g js.w js.d o)
  c3 : at_ cs js.g = some (gnC h)
  c4 : at_ cs js.w = some (.list (mV h.row))
  c5 : at_ cs js.d = some (.dict (svs (hoV h.holds)))
  o : OffIn cs h.offer o js.o
/-- the caller's list stands as it was -/
inductive ExIn (cs : List SC) (js : HA) (n : Nat) : Exl → Prop
  | none : ExIn cs js n none
  | some {b : Nat} {xs : List V} : at_ cs n = some (.list xs) → n ∉ js.l → ExIn cs js n (some (b, xs))
structure FinOk (m : Int) (hs : List SA) (n : Nat) (ex : Exl) (h : HandS) (U : List Letter) (cs : List SC) (js : HA) (o : SV) : Prop where
  c0 : at_ cs 0 = some (folkC m hs)
  c1 : at_ cs 1 = some (.list (lV U))
  hd : HandIn cs h js o
  nd : (0 :: 1 :: js.l).Nodup
  r2 : js.r = 2
  ex : ExIn cs js n ex
theorem DnF_u {κ : Type} {ad : List Nat} : ∀ {l : List (κ × V)} {l' : List (κ × V)}, DnF ad (l.map fun x => (x.1, SV.v x.2)) l' → l' = l
  | [], _, h => by cases h; rfl
  | x :: r, l', h => by
    cases h with
    | cons d h => rw [DnF_u h, ← Option.some.inj d]
theorem DnF_un {κ : Type} {ad : List Nat} {l : List (κ × SV)} {a b : List (κ × V)} (h : DnF ad l a) : DnF ad l b → a = b := by
  induction h generalizing b with
  | nil => intro h; cases h; rfl
  | cons d _ ih =>
    intro h
    cases h with
    | cons d' h' => rw [ih h', Option.some.inj (d.symm.trans d')]
inductive Al (ad : List Nat) : List Nat → List Nat → Prop
  | nil : Al ad [] []
  | cons {j x : Nat} {js xs : List Nat} : ad[j]? = some x → Al ad js xs → Al ad (j :: js) (x :: xs)
theorem Al.mem {ad js xs : List Nat} (h : Al ad js xs) {x : Nat} : x ∈ xs → ∃ j, j ∈ js ∧ ad[j]? = some x := by
  induction h with
  | nil => intro h; cases h
  | cons d _ ih => exact fun h => (List.mem_cons.mp h).elim (fun e => ⟨_, .head _, e ▸ d⟩) fun h => (ih h).imp fun j q => ⟨.tail _ q.1, q.2⟩
theorem Al.nodup {ad js xs : List Nat} (h : Al ad js xs) (nd : ∀ (i j a : Nat), ad[i]? = some a → ad[j]? = some a → i = j) : js.Nodup → xs.Nodup := by
  induction h with
  | nil => exact fun h => h
  | cons d h ih =>
    intro q
    have q := List.nodup_cons.mp q
    exact List.nodup_cons.mpr ⟨fun z => (h.mem z).elim fun j w => q.1 (nd _ _ _ d w.2 ▸ w.1), ih q.2⟩
section
variable {Ω : Type} {M : MEnv Ω} {ad : List Nat} {s : Sy Ω} {σ : St} (m : Mt M ad s σ)
include m
theorem Mt.ex {j : Nat} {c : SC} (h : at_ s.cs j = some c) : ∃ a, ad[j]? = some a := ⟨_, List.getElem?_eq_getElem (by rw [m.len]; exact at_len h)⟩
theorem Mt.dictV {j a : Nat} {l : List (V × V)} (h : at_ s.cs j = some (.dict (svs l))) (ha : ad[j]? = some a) : σ.H.get a = some (.dict l) := m.dict h ha fun kvs' e d => by rw [e, DnF_u d]
theorem Mt.instV {j a k : Nat} {fs : List (Nat × SV)} {fs' : List (Nat × V)} (h : at_ s.cs j = some (.inst k fs)) (ha : ad[j]? = some a) (d : DnF ad fs fs') : σ.H.get a = some (.inst k fs') := m.inst h ha fun gs e d' => by rw [e, DnF_un d' d]
/-- a hand's parts are found -/
theorem HandIn.hr {h : HandS} {js : HA} {o : SV} (F : HandIn s.cs h js o) : ∃ a : HA, ad[js.r]? = some a.r ∧ HR σ.H h a ∧ Al ad js.l a.l := by
  obtain ⟨jr, jg, jw, jd, jo⟩ := js
  obtain ⟨r, hr⟩ := m.ex F.c2
  obtain ⟨g, hg⟩ := m.ex F.c3
  obtain ⟨w, hw⟩ := m.ex F.c4
  obtain ⟨d, hd⟩ := m.ex F.c5
  have c3 := m.list F.c3 hg
  have c4 := m.list F.c4 hw
  have c5 := m.dictV F.c5 hd
  have c2 := F.c2
  have fo : OffIn s.cs h.offer o jo := F.o
  have key : ∀ v, dn ad o = some v → σ.H.get r = some (.inst 59 (handF id h (.ref g) (.ref w) (.ref d) v)) := fun v e => m.instV c2 hr (.cons rfl (.cons rfl (.cons rfl (.cons rfl (.cons rfl (.cons rfl (.cons (dn_at hg) (.cons rfl (.cons (dn_at hw) (.cons rfl (.cons rfl (.cons rfl (.cons rfl (.cons e (.cons (dn_at hd) .nil)))))))))))))))
  generalize ho : h.offer = hoo at fo
  cases fo with
  | none => exact ⟨⟨r, g, w, d, none⟩, hr, ⟨key _ rfl, c3, c4, c5, ho ▸ .none⟩, .cons hr (.cons hg (.cons hw (.cons hd .nil)))⟩
  | @some x i p q o1 o2 o3 =>
    obtain ⟨ai, hi⟩ := m.ex o1
    obtain ⟨ap, hp⟩ := m.ex o2
    obtain ⟨aq, hq⟩ := m.ex o3
    exact ⟨⟨r, g, w, d, some (ai, ap, aq)⟩, hr, ⟨key _ (dn_at hi), c3, c4, c5, ho ▸ .some (m.instV o1 hi (.cons rfl (.cons rfl (.cons (dn_at hp) (.cons rfl (.cons (dn_at hq) (.cons rfl .nil))))))) (m.dictV o2 hp) (m.dictV o3 hq)⟩, .cons hr (.cons hg (.cons hw (.cons hd (.cons hi (.cons hp (.cons hq .nil))))))⟩
end
noncomputable def FolkW.upd (w : FolkW) (i : Nat) (h : HandS) (U : List Letter) (a : HA) : FolkW := ⟨⟨w.S.hands.set i h, U⟩, w.f, w.u, w.as.set i a⟩
section
variable {R : Nat → Prop} {g : Nat → Option C} {ad : List Nat} {s : Sy (Option FolkW)} {σ : St} (m : Mt (MF R g) ad s σ) {w : FolkW} (hw : s.w = some w)
  {j : Nat} {fs : List (Nat × V)} (hj : at_ s.cs j = some (.w 60 fs)) {i : Nat} {a : HA} {h : HandS} (ha : w.as[i]? = some a) (hh : w.S.hands[i]? = some h) {ex : Exl} (X : XlAt ad s.cs ex)
  {ad₁ : List Nat} {s₁ : Sy Unit} {σ₁ : St} (x : Ext (w.ad a ex) ad₁) (m₁ : Mt (MFr σ.H (w.ad a ex)) ad₁ s₁ σ₁)
include m hw hj ha hh X x m₁
theorem unf_fr : (∀ (k b : Nat), ad₁[k]? = some b → σ.H.next ≤ b ∨ b ∈ w.ad a ex) ∧ (∀ b, b < σ.H.next → b ∉ w.ad a ex → σ₁.H.get b = σ.H.get b) ∧ σ.H.next ≤ σ₁.H.next := by
  obtain ⟨F, f1, f2, f3⟩ := m₁.res
  exact ⟨fun k b hb => (Nat.lt_or_ge b σ.H.next).elim (fun l => Decidable.byContradiction fun z => f2 k b hb ((f1.is b).mpr ⟨l, fun q => z (.inr q)⟩)) .inl, fun b l z => f1.eq b ((f1.is b).mpr ⟨l, z⟩), f1.le⟩
theorem unfoc {h' : HandS} {U' : List Letter} {js : HA} {o : SV} (F : FinOk w.S.hands.length (hsA i 0 w.as) ((hcs h).length + 2) ex h' U' s₁.cs js o) :
    ∃ a', Mt (MF R g) ad ⟨s.cs, s.loc, some (w.upd i h' U' a')⟩ (σ.setH σ₁.H) ∧ ∀ n b, n ∉ 0 :: 1 :: js.l → ad₁[n]? = some b → b ∉ (w.upd i h' U' a').l := by
  have e0 : ad₁[0]? = some w.f := x.at_ rfl
  have e1 : ad₁[1]? = some w.u := x.at_ rfl
  have e2 : ad₁[2]? = some a.r := x.at_ rfl
  obtain ⟨a', r', hr, al⟩ := F.hd.hr m₁
  rw [F.r2] at r'
  have r' : a'.r = a.r := Option.some.inj (r'.symm.trans e2)
  obtain ⟨fr1, fr2, fr3⟩ := unf_fr m hw hj ha hh X x m₁
  obtain ⟨fj, ff⟩ := m.folk hw hj
  have hi : i < w.as.length := (List.getElem?_eq_some_iff.mp ha).1
  have nd0 := foc_nd m hw hj ha X
  refine m.rep hw fun RW lt out => ?_
  have ess : ∀ b : HA, (w.as.set i b).flatMap HA.l = (w.as.take i).flatMap HA.l ++ (b.l ++ (w.as.drop (i + 1)).flatMap HA.l) := fun b => by
    rw [List.set_eq_take_append_cons_drop, if_pos hi, List.flatMap_append, List.flatMap_cons]
  have eo : w.as.flatMap HA.l = (w.as.take i).flatMap HA.l ++ (a.l ++ (w.as.drop (i + 1)).flatMap HA.l) := by
    have : w.as.set i a = w.as := by rw [← (List.getElem?_eq_some_iff.mp ha).2]; exact List.set_getElem_self hi
    rw [← ess, this]
  have N : (w.u :: w.as.flatMap HA.l).Nodup := RW.nd
  have lt : ∀ y ∈ w.u :: w.as.flatMap HA.l, y < σ.H.next := lt
  have fo : ∀ y ∈ w.u :: w.as.flatMap HA.l, y ≠ w.f := fun y hy e => out j _ fj (e ▸ hy)
  have es := ess a'
  have oth : ∀ (k : Nat) (b : HA), k ≠ i → w.as[k]? = some b → ∀ y ∈ b.l, y ∈ (w.as.take i).flatMap HA.l ∨ y ∈ (w.as.drop (i + 1)).flatMap HA.l := fun k b hk hb y hy => by
    rcases Nat.lt_or_gt_of_ne hk with l | l
    · exact .inl (List.mem_flatMap.mpr ⟨b, List.mem_of_getElem? (i := k) (by rw [List.getElem?_take, if_pos l]; exact hb), hy⟩)
    · exact .inr (List.mem_flatMap.mpr ⟨b, List.mem_of_getElem? (i := k - (i + 1)) (by rw [List.getElem?_drop, Nat.add_sub_cancel' l]; exact hb), hy⟩)
  rw [eo] at N lt fo
  generalize (w.as.take i).flatMap HA.l = A at es N lt fo eo oth
  generalize (w.as.drop (i + 1)).flatMap HA.l = B at es N lt fo eo oth
  obtain ⟨n1, N⟩ := List.nodup_cons.mp N
  obtain ⟨nA, nB, nAB⟩ := List.nodup_append.mp N
  obtain ⟨na, nB, naB⟩ := List.nodup_append.mp nB
  have hAB : ∀ y, (y ∈ A ∨ y ∈ B) → y < σ.H.next ∧ y ∉ w.ad a ex := fun y hy => by
    have q : y ∈ A ++ (a.l ++ B) := hy.elim (fun h => List.mem_append_left _ h) fun h => List.mem_append_right _ (List.mem_append_right _ h)
    refine ⟨lt y (.tail _ q), fun z => ?_⟩
    rcases List.mem_cons.mp z with z | z
    · exact fo y (.tail _ q) z
    rcases List.mem_cons.mp z with z | z
    · exact n1 (z ▸ q)
    rcases List.mem_append.mp z with z | z
    rotate_left
    · obtain ⟨p, _, hp, _, _⟩ := xlAt_out m hw X z
      have ob : y ∉ w.u :: w.as.flatMap HA.l := out p y hp
      rw [eo] at ob
      exact ob (.tail _ q)
    · exact hy.elim (fun h => nAB y h y (List.mem_append_left _ z) rfl) fun h => naB y z y h rfl
  have no : ∀ (k y : Nat), ad₁[k]? = some y → ¬ (y ∈ A ∨ y ∈ B) := fun k y hk hy => (fr1 k y hk).elim (fun q => absurd (hAB y hy).1 (Nat.not_lt.mpr q)) (hAB y hy).2
  obtain ⟨j0, jn⟩ := List.nodup_cons.mp F.nd
  obtain ⟨j1, jn⟩ := List.nodup_cons.mp jn
  have mem' : ∀ y, y ∈ (w.upd i h' U' a').l → y = w.u ∨ (y ∈ A ∨ y ∈ B) ∨ y ∈ a'.l := fun y hy => by
    have hy : y ∈ w.u :: (w.as.set i a').flatMap HA.l := hy
    rw [es] at hy
    rcases List.mem_cons.mp hy with z | z
    · exact .inl z
    rcases List.mem_append.mp z with z | z
    · exact .inr (.inl (.inl z))
    · exact (List.mem_append.mp z).elim (fun z => .inr (.inr z)) fun z => .inr (.inl (.inr z))
  have le : a.l.length = (hcs h).length := hcs_len (RW.hand i a h ha hh).o
  have eat : ∀ b, b ∈ exA ex → ad₁[(hcs h).length + 2]? = some b ∧ ∃ xs, ex = some (b, xs) ∧ at_ s₁.cs ((hcs h).length + 2) = some (.list xs) ∧ (hcs h).length + 2 ∉ js.l := fun b hb => by
    obtain ⟨p, xs, h1, h2, rfl⟩ := xlAt_out m hw X hb
    refine ⟨x.at_ ?_, xs, rfl, ?_⟩
    · show (a.l ++ [b])[(hcs h).length]? = some b
      rw [← le, List.getElem?_append_right (Nat.le_refl _), Nat.sub_self]; rfl
    · cases F.ex with
      | some q1 q2 => exact ⟨q1, q2⟩
  have exn : ∀ b, b ∈ exA ex → ∀ n, n ∈ js.l → ad₁[n]? = some b → False := fun b hb n hn hq => by
    obtain ⟨q1, xs, _, _, q2⟩ := eat b hb
    exact q2 (m₁.nd _ n b q1 hq ▸ hn)
  have un : w.u ∉ a'.l := fun z => (al.mem z).elim fun k q => j1 (m₁.nd 1 k _ e1 q.2 ▸ q.1)
  have fn : w.f ∉ a'.l := fun z => (al.mem z).elim fun k q => j0 (.tail _ (m₁.nd 0 k _ e0 q.2 ▸ q.1))
  have free : ∀ n b, n ∉ 0 :: 1 :: js.l → ad₁[n]? = some b → b ∉ (w.upd i h' U' a').l := fun n b hn hb z => by
    rcases mem' b z with z | z | z
    · exact hn (m₁.nd n 1 b hb (z ▸ e1) ▸ .tail _ (.head _))
    · exact no n b hb z
    · exact (al.mem z).elim fun k q => hn (m₁.nd n k b hb q.2 ▸ .tail _ (.tail _ q.1))
  have lt' : ∀ y, y ∈ (w.upd i h' U' a').l → y < σ₁.H.next := fun y hy => by
    rcases mem' y hy with z | z | z
    · exact z ▸ Nat.lt_of_lt_of_le (lt w.u (.head _)) fr3
    · exact Nat.lt_of_lt_of_le (hAB y z).1 fr3
    · exact (al.mem z).elim fun k q => m₁.lt k y q.2
  have out' : ∀ (k b : Nat), ad[k]? = some b → b ∉ (w.upd i h' U' a').l := fun k b hb z => by
    have ob : b ∉ w.u :: w.as.flatMap HA.l := out k b hb
    rw [eo] at ob
    rcases mem' b z with z | z | z
    · exact ob (z ▸ .head _)
    · exact ob (.tail _ (z.elim (fun h => List.mem_append_left _ h) fun h => List.mem_append_right _ (List.mem_append_right _ h)))
    · refine (al.mem z).elim fun n q => (fr1 n b q.2).elim (fun l => absurd (m.lt k b hb) (Nat.not_lt.mpr l)) fun l => ?_
      rcases List.mem_cons.mp l with l | l
      · exact fn (l ▸ z)
      rcases List.mem_cons.mp l with l | l
      · exact un (l ▸ z)
      rcases List.mem_append.mp l with l | l
      · exact ob (.tail _ (List.mem_append_right _ (List.mem_append_left _ l)))
      · exact exn b l n q.1 q.2
  have keep : ∀ (k b : Nat), ad[k]? = some b → b ≠ w.f → b ∉ exA ex → σ₁.H.get b = σ.H.get b := fun k b hb hf nex => fr2 b (m.lt k b hb) fun l => by
    have ob : b ∉ w.u :: w.as.flatMap HA.l := out k b hb
    rw [eo] at ob
    rcases List.mem_cons.mp l with l | l
    · exact hf l
    rcases List.mem_cons.mp l with l | l
    · exact ob (l ▸ .head _)
    rcases List.mem_append.mp l with l | l
    · exact ob (.tail _ (List.mem_append_right _ (List.mem_append_left _ l)))
    · exact nex l
  have sa : w.as.set i a = w.as := by rw [← (List.getElem?_eq_some_iff.mp ha).2]; exact List.set_getElem_self hi
  have ef : σ₁.H.get w.f = some (.inst 60 (folkF (w.upd i h' U' a'))) := by
    have q := m₁.instV F.c0 e0 (.cons rfl (.cons (congrArg mL (hsA_dn e2 fun n b e q => by
      have : n = i := (Nat.zero_add n).symm.trans e
      subst this
      rw [Option.some.inj (q.symm.trans ha)])) (.cons (dn_at e1) .nil)))
    rw [q]
    have q2 : (w.as.set i a').map (fun a => V.ref a.r) = w.as.map fun a => V.ref a.r := by
      rw [List.map_set, r', ← List.map_set (f := fun a : HA => V.ref a.r), sa]
    show _ = some (C.inst 60 [(18, .int (w.S.hands.set i h').length), (123, .lst ((w.as.set i a').map fun a => .ref a.r)), (124, .ref w.u)])
    rw [q2, List.length_set]
  have rx0 : ∀ y, R y → y ∉ w.ad a ex := fun y hy l => by
    obtain ⟨q1, q2, q3, q4⟩ := m.rx hw hy
    rcases List.mem_cons.mp l with l | l
    · exact q4 j (l ▸ fj)
    rcases List.mem_cons.mp l with l | l
    · exact q1 (l ▸ .head _)
    rcases List.mem_append.mp l with l | l
    · exact q1 (mem_l ha l)
    · obtain ⟨p, _, hp, _, _⟩ := xlAt_out m hw X l
      exact q4 p hp
  have rx2 : ∀ y, R y → σ₁.H.get y = g y := fun y hy => (fr2 y (m.rx hw hy).2.2.1 (rx0 y hy)).trans (m.rx hw hy).2.1
  have rx1 : ∀ y, R y → y ∉ (w.upd i h' U' a').l := fun y hy z => by
    obtain ⟨q1, q2, q3, q4⟩ := m.rx hw hy
    have q1 : y ∉ w.u :: w.as.flatMap HA.l := q1
    rw [eo] at q1
    rcases mem' y z with z | z | z
    · exact q1 (z ▸ .head _)
    · exact q1 (.tail _ (z.elim (fun h => List.mem_append_left _ h) fun h => List.mem_append_right _ (List.mem_append_right _ h)))
    · exact (al.mem z).elim fun n q => (fr1 n y q.2).elim (fun l => absurd q3 (Nat.not_lt.mpr l)) (rx0 y hy)
  refine ⟨a', ⟨m.len, fun k b c hb hc => ?_, m.nd, fun k b hb => Nat.lt_of_lt_of_le (m.lt k b hb) fr3, m.loc, fun y => y ∈ (w.upd i h' U' a').l ∨ R y, ⟨⟨m₁.list F.c1 e1, ?_, fun k b g hb hg => ?_, ?_⟩, fun _ => Iff.rfl, fun y hy => ⟨rx1 y hy, rx2 y hy⟩⟩, fun k b hb z => z.elim (out' k b hb) fun z => (m.rx hw z).2.2.2 k hb, fun y hy => hy.elim (lt' y) fun z => Nat.lt_of_lt_of_le (m.rx hw z).2.2.1 fr3⟩, free⟩
  · have kj : c ≠ .w 60 fs → b ≠ w.f := fun hne z => hne (by
      have := m.nd k j w.f (z ▸ hb) fj
      subst this
      exact Option.some.inj (hc.symm.trans hj))
    by_cases bx : b ∈ exA ex
    · obtain ⟨q1, xs, q2, q3, _⟩ := eat b bx
      obtain ⟨p, ys, h1, h2, h3⟩ := xlAt_out m hw X bx
      cases m.nd k p b hb h1
      cases hc.symm.trans h2
      have : ys = xs := by
        have := Option.some.inj (h3.symm.trans q2)
        exact congrArg Prod.snd this
      subst this
      exact .mk _ (m₁.list q3 q1) (.list _)
    cases m.cell k b c hb hc with
    | dead => exact .dead
    | mk d g r =>
      cases r with
      | list xs => exact .mk _ ((keep k b hb (kj fun z => nomatch z) bx).trans g) (.list xs)
      | dict r => exact .mk _ ((keep k b hb (kj fun z => nomatch z) bx).trans g) (.dict r)
      | inst r => exact .mk _ ((keep k b hb (kj fun z => nomatch z) bx).trans g) (.inst r)
      | exc n => exact .mk _ ((keep k b hb (kj fun z => nomatch z) bx).trans g) (.exc n)
      | w r =>
        cases r with
        | mk w₂ ho q1 q2 q3 q4 =>
          cases hw.symm.trans ho
          subst q1 q2
          exact .mk _ ef (.w ⟨_, rfl, rfl, rfl, by rw [q3]; show _ = [(18, V.int (w.S.hands.set i h').length)]; rw [List.length_set], rfl⟩)
  · show (w.as.set i a').length = (w.S.hands.set i h').length
    rw [List.length_set, List.length_set]; exact RW.len
  · have hb : (w.as.set i a')[k]? = some b := hb
    have hg : (w.S.hands.set i h')[k]? = some g := hg
    rw [List.getElem?_set] at hb hg
    by_cases e : i = k
    · rw [if_pos e, if_pos (e ▸ hi)] at hb
      rw [if_pos e, if_pos (by rw [← RW.len]; exact hi)] at hg
      rw [← Option.some.inj hb, ← Option.some.inj hg]; exact hr
    · rw [if_neg e] at hb hg
      exact (RW.hand k b g hb hg).keep fun y hy => have q := hAB y (oth k b (fun z => e z.symm) hb y hy); fr2 y q.1 q.2
  · show (w.u :: (w.as.set i a').flatMap HA.l).Nodup
    rw [es]
    refine List.nodup_cons.mpr ⟨fun z => ?_, List.nodup_append.mpr ⟨nA, List.nodup_append.mpr ⟨al.nodup m₁.nd jn, nB, fun y hy z hz e => ?_⟩, fun y hy z hz e => ?_⟩⟩
    · exact (List.mem_append.mp z).elim (fun z => n1 (List.mem_append_left _ z)) fun z => (List.mem_append.mp z).elim un fun z => n1 (List.mem_append_right _ (List.mem_append_right _ z))
    · exact (al.mem hy).elim fun k q => no k y q.2 (.inr (e ▸ hz))
    · subst e
      exact (List.mem_append.mp hz).elim (fun z => (al.mem z).elim fun k q => no k y q.2 (.inl hy)) fun z => nAB y hy y (List.mem_append_right _ z) rfl
end
end Mine

end

section
set_option autoImplicit false
set_option linter.all false
set_option genSizeOf false
set_option genInjectivity false
namespace Mine
open PySem (Str)

/-- a cell that nobody knew is known -/
theorem Mt.add {Ω : Type} {M : MEnv Ω} {ad : List Nat} {s : Sy Ω} {σ : St} (m : Mt M ad s σ) {b : Nat} {c : SC} (F : Nat → Prop) (f1 : M.I s.w σ.H F) (f2 : ∀ (j a : Nat), ad[j]? = some a → ¬ F a) (f3 : ∀ a, F a → a < σ.H.next)
    (hb : b < σ.H.next) (ho : ∀ j : Nat, ad[j]? ≠ some b) (hF : ¬ F b) (hc : CA (M.Is s.w) (ad ++ [b]) σ.H b c) : Mt M (ad ++ [b]) (s.new c) σ := by
  have hx : ∀ {i a}, (ad ++ [b])[i]? = some a → (ad[i]? = some a) ∨ (i = ad.length ∧ a = b) := fun {i a} h => by
    rw [List.getElem?_append] at h
    by_cases q : i < ad.length
    · rw [if_pos q] at h; exact .inl h
    · rw [if_neg q] at h
      have z : i - ad.length = 0 := Nat.lt_one_iff.mp (List.getElem?_eq_some_iff.mp h).1
      rw [z] at h
      exact .inr ⟨Nat.le_antisymm (Nat.sub_eq_zero_iff_le.mp z) (Nat.le_of_not_lt q), (Option.some.inj h).symm⟩
  refine ⟨?_, fun i a d ha hd => ?_, fun i j a hi hj => ?_, fun j a hj => (hx hj).elim (m.lt j a) fun q => q.2 ▸ hb, fun i sv h => (m.loc i sv h).imp fun v q => ⟨dn_mono ⟨_, rfl⟩ q.1, q.2⟩, F, f1, fun j a hj => (hx hj).elim (f2 j a) fun q => q.2 ▸ hF, f3⟩
  · show _ = (s.cs ++ [c]).length
    rw [List.length_append, List.length_append, m.len]; rfl
  · have hd : Mine.at_ (s.cs ++ [c]) i = some d := hd
    rw [at_eq] at hd
    rcases hx ha with q | ⟨rfl, rfl⟩
    · rw [List.getElem?_append_left (by rw [← m.len]; exact (List.getElem?_eq_some_iff.mp q).1)] at hd
      cases m.cell i a d q (by rw [at_eq]; exact hd) with
      | dead => exact .dead
      | mk c2 q1 q2 => exact .mk c2 q1 (q2.mono ⟨_, rfl⟩)
    · rw [List.getElem?_append_right (by rw [m.len]; exact Nat.le_refl _), m.len, Nat.sub_self] at hd
      rw [← Option.some.inj hd]; exact hc
  · rcases hx hi with q | q <;> rcases hx hj with q' | q'
    · exact m.nd i j a q q'
    · exact absurd (q'.2 ▸ q) (ho i)
    · exact absurd (q.2 ▸ q') (ho j)
    · exact q.1.trans q'.1.symm

/-- what a deed gives back: data, a new list, a pair of data and a new list -/
inductive RV where
  | v (x : V)
  | new (xs : List V)
  | tup (x : V) (xs : List V)
noncomputable def giveR {Ω : Type} (r : RV) (s : Sy Ω) (k : SV → Sy Ω → Prop) : Prop := match r with
  | .v x => k (.v x) s
  | .new xs => newS s (.list xs) fun n s' => k (.s n) s'
  | .tup x xs => newS s (.list xs) fun n s' => k (.t [.v x, .s n]) s'
theorem giveR_new {Ω : Type} {xs : List V} {s : Sy Ω} {k : SV → Sy Ω → Prop} (h : giveR (.new xs) s k) : k (.s s.nx) (s.new (.list xs)) := newS_ok (k := fun n s' => k (.s n) s') h
theorem giveR_tup {Ω : Type} {x : V} {xs : List V} {s : Sy Ω} {k : SV → Sy Ω → Prop} (h : giveR (.tup x xs) s k) : k (.t [.v x, .s s.nx]) (s.new (.list xs)) := newS_ok (k := fun n s' => k (.t [.v x, .s n]) s') h
/-- a cell that is none of the folk's -/
structure New (h : HandS) (ex : Exl) (js : HA) (n : Nat) : Prop where
  le : (hcs h).length + 2 + (exA ex).length ≤ n
  out : n ∉ 0 :: 1 :: js.l
inductive ResIn (h : HandS) (ex : Exl) (js : HA) (cs : List SC) : SV → RV → Prop
  | v (x : V) : ResIn h ex js cs (.v x) (.v x)
  | new {n : Nat} {xs : List V} : at_ cs n = some (.list xs) → New h ex js n → ResIn h ex js cs (.s n) (.new xs)
  | tup {n : Nat} {xs : List V} (x : V) : at_ cs n = some (.list xs) → New h ex js n → ResIn h ex js cs (.t [.v x, .s n]) (.tup x xs)
inductive FinV (m : Int) (hs : List SA) (ex : Exl) (h : HandS) (G : RV → HandS → List Letter → Prop) (r : SV) (s : Sy Unit) : Prop
  | mk {h' : HandS} {U' : List Letter} {js : HA} {o : SV} {rv : RV} (fin : FinOk m hs ((hcs h).length + 2) ex h' U' s.cs js o) (res : ResIn h ex js s.cs r rv) (g : G rv h' U')
inductive FinX (m : Int) (hs : List SA) (ex : Exl) (h : HandS) (U : List Letter) (X : Nat → Prop) (e : Nat) (s : Sy Unit) : Prop
  | mk {js : HA} {o : SV} {c : Nat} (fin : FinOk m hs ((hcs h).length + 2) ex h U s.cs js o) (he : at_ s.cs e = some (.exc c)) (new : New h ex js e) (g : X c)
theorem DnL_v {ad : List Nat} : ∀ (vs : List V), DnL ad (vs.map .v) vs
  | [] => .nil
  | _ :: r => .cons rfl (DnL_v r)
theorem set_same {α : Type} {l : List α} {i : Nat} {x : α} (h : l[i]? = some x) : l.set i x = l :=
  (List.getElem?_eq_some_iff.mp h).elim fun hi e => by rw [← e]; exact List.set_getElem_self hi
section
variable {R : Nat → Prop} {g : Nat → Option C} {ad : List Nat} {s : Sy (Option FolkW)} {σ : St} (m : Mt (MF R g) ad s σ) {w : FolkW} (hw : s.w = some w)
  {j : Nat} {fs : List (Nat × V)} (hj : at_ s.cs j = some (.w 60 fs)) {i : Nat} {a : HA} {h : HandS} (ha : w.as[i]? = some a) (hh : w.S.hands[i]? = some h) {ex : Exl} (X : XlAt ad s.cs ex)
include m hw hj ha hh X
theorem unf_add {ad₁ : List Nat} {s₁ : Sy Unit} {σ₁ : St} (x : Ext (w.ad a ex) ad₁) (m₁ : Mt (MFr σ.H (w.ad a ex)) ad₁ s₁ σ₁) {w' : FolkW} (m' : Mt (MF R g) ad ⟨s.cs, s.loc, some w'⟩ (σ.setH σ₁.H)) {js : HA} (free : ∀ n b, n ∉ 0 :: 1 :: js.l → ad₁[n]? = some b → b ∉ w'.l)
    {n b : Nat} {c : SC} (hb : ad₁[n]? = some b) (hn : New h ex js n) (hc : ∀ ad', CA ((MF R g).Is (some w')) ad' σ₁.H b c) : Mt (MF R g) (ad ++ [b]) ⟨s.cs ++ [c], s.loc, some w'⟩ (σ.setH σ₁.H) := by
  obtain ⟨fr1, _, _⟩ := unf_fr m hw hj ha hh X x m₁
  have key : b < σ.H.next → False := fun lk => by
    refine (fr1 n b hb).elim (fun l => Nat.not_lt.mpr l lk) fun l => ?_
    obtain ⟨p, hp⟩ := List.getElem?_of_mem l
    have := m₁.nd p n b (x.at_ hp) hb
    subst this
    have hl : p < (w.ad a ex).length := (List.getElem?_eq_some_iff.mp hp).1
    have q : (w.ad a ex).length = (hcs h).length + 2 + (exA ex).length := m.rep hw fun R _ _ => by
      show (a.l ++ exA ex).length + 2 = _
      rw [List.length_append, hcs_len (R.hand i a h ha hh).o, Nat.add_right_comm]
    exact Nat.lt_irrefl _ (Nat.lt_of_lt_of_le (q ▸ hl) hn.le)
  exact m'.rep rfl fun RW lt out => m'.add (fun y => y ∈ w'.l ∨ R y) ⟨RW, fun _ => Iff.rfl, fun y hy => ⟨(m'.rx rfl hy).1, (m'.rx rfl hy).2.1⟩⟩ (fun k a hk z => z.elim (out k a hk) fun z => (m'.rx rfl z).2.2.2 k hk) (fun y z => z.elim (lt y) fun z => (m'.rx rfl z).2.2.1) (m₁.lt n b hb) (fun k hk => key (m.lt k b hk)) (fun z => z.elim (free n b hn.out hb) fun z => key (m.rx hw z).2.2.1) (hc _)
theorem meth_foc {P : Prog} {sp : Spc Unit} (hs : ∀ M : MEnv Unit, SpOk M P sp) {d f : Nat} (n : Nat) {as : List SV} {vs : List V} (hvs : DnL (w.ad a ex) as vs) {G : RV → HandS → List Letter → Prop} {Z : Nat → Prop} {k : SV → Sy (Option FolkW) → Prop} {kx : Nat → Sy (Option FolkW) → Prop} {Q : V → Hp → Prop} {E : Nat → Hp → Prop}
    (run : callX P sp d f (.s 0 :: as) ⟨fcs w.S.hands.length (hsA i 0 w.as) w.S.under (hcs h ++ exC ex), [], ()⟩ (FinV w.S.hands.length (hsA i 0 w.as) ex h G) (FinX w.S.hands.length (hsA i 0 w.as) ex h w.S.under Z))
    (hG : ∀ rv h' U', G rv h' U' → ∀ w' : FolkW, w'.S = ⟨w.S.hands.set i h', U'⟩ → giveR rv ⟨s.cs, s.loc, some w'⟩ k)
    (hX : ∀ c, Z c → ∀ w' : FolkW, w'.S = w.S → kx s.cs.length ⟨s.cs ++ [.exc c], s.loc, some w'⟩)
    (hk : PW (MF R g) DV ad k (fun v σ' => σ'.loc = σ.loc → Q v σ'.H)) (hx : PW (MF R g) DX ad kx (fun a σ' => σ'.loc = σ.loc → E a σ'.H)) : CW P (d + n) f (.ref w.f :: vs) σ.H Q E := by
  have hk' : PW (MFr σ.H (w.ad a ex)) DV (w.ad a ex) (FinV w.S.hands.length (hsA i 0 w.as) ex h G) (fun v σ' => σ'.loc = σ.loc → Q v σ'.H) := fun r s₁ ad₁ σ₁ v x m₁ dv z e => by
    cases z with
    | mk fin res g =>
      obtain ⟨a', m', free⟩ := unfoc m hw hj ha hh X x m₁ fin
      have hg := hG _ _ _ g (w.upd i _ _ a') rfl
      cases res with
      | v y => exact hk (.v y) _ ad (σ.setH σ₁.H) _ (.refl _) m' dv hg rfl
      | new hc hn =>
        obtain ⟨b, hb, rfl⟩ := mR_e dv
        have m'' := unf_add m hw hj ha hh X x m₁ m' free hb hn fun _ => .mk _ (m₁.list hc hb) (.list _)
        exact hk _ _ _ (σ.setH σ₁.H) _ ⟨_, rfl⟩ m'' (dn_at (by show (ad ++ [b])[s.cs.length]? = _; rw [← m.len, List.getElem?_append_right (Nat.le_refl _), Nat.sub_self]; rfl)) (giveR_new hg) rfl
      | tup y hc hn =>
        obtain ⟨vs', e', rfl⟩ := mT_e dv
        refine dnAs_cons e' fun v1 ws q1 e' q3 => dnAs_cons e' fun v2 ws' q2 e' q4 => ?_
        obtain ⟨b, hb, rfl⟩ := mR_e q2
        cases e'; cases q1
        subst q4
        subst q3
        have m'' := unf_add m hw hj ha hh X x m₁ m' free hb hn fun _ => .mk _ (m₁.list hc hb) (.list _)
        refine hk (.t [.v y, .s s.cs.length]) _ _ (σ.setH σ₁.H) _ ⟨_, rfl⟩ m'' (congrArg mT (dnAs_i (a := .v y) rfl (dnAs_i (a := .s s.cs.length) (r := []) (ws := []) ?_ rfl))) (giveR_tup hg) rfl
        exact dn_at (by show (ad ++ [b])[s.cs.length]? = _; rw [← m.len, List.getElem?_append_right (Nat.le_refl _), Nat.sub_self]; rfl)
  have hx' : PW (MFr σ.H (w.ad a ex)) DX (w.ad a ex) (FinX w.S.hands.length (hsA i 0 w.as) ex h w.S.under Z) (fun v σ' => σ'.loc = σ.loc → E v σ'.H) := fun r s₁ ad₁ σ₁ b x m₁ hb z e => by
    cases z with
    | mk fin ex hn g =>
      obtain ⟨a', m', free⟩ := unfoc m hw hj ha hh X x m₁ fin
      have m'' := unf_add m hw hj ha hh X x m₁ m' free hb hn fun _ => .mk _ (m₁.exc ex hb) (.exc _)
      refine hx _ _ _ (σ.setH σ₁.H) _ ⟨_, rfl⟩ m'' (by show (ad ++ [b])[s.cs.length]? = _; rw [← m.len, List.getElem?_append_right (Nat.le_refl _), Nat.sub_self]; rfl) (hX _ g _ ?_) rfl
      show (⟨w.S.hands.set i h, w.S.under⟩ : FolkS) = w.S
      rw [set_same hh]
  exact callX_ok (hs _) n d f _ _ _ _ _ ⟨σ.H, σ.loc⟩ _ Q E run (foc_mt m hw hj ha hh X σ.loc) (.cons rfl hvs) hk' hx'
end
end Mine

end

section
set_option autoImplicit false
set_option linter.all false
set_option genSizeOf false
set_option genInjectivity false
namespace Mine
open PySem (Str)
/-! Tables of what is known of defs. -/
abbrev Sr (Ω : Type) := List SV → Sy Ω → (SV → Sy Ω → Prop) → (Nat → Sy Ω → Prop) → Prop
noncomputable def spL {Ω : Type} (l : List (Nat × (Nat × Sr Ω))) : Spc Ω := fun f => lk l f
section
variable {Ω : Type} {M : MEnv Ω} {P : Prog}
/-- what is known of one def holds -/
noncomputable def EnOk (M : MEnv Ω) (P : Prog) (f d : Nat) (r : Sr Ω) : Prop := ∀ n, CallOk M (fun g as s k kx => g = f ∧ r as s k kx) (CW P (d + n))
theorem SpOk.nil : SpOk M P (spL []) := fun f d r h => nomatch h
theorem SpOk.cons {l : List (Nat × (Nat × Sr Ω))} {f d : Nat} {r : Sr Ω} (e : EnOk M P f d r) (h : SpOk M P (spL l)) : SpOk M P (spL ((f, d, r) :: l)) := fun g d' r' q =>
  cond_e (show cond (Nat.beq f g) (some (d, r)) (lk l g) = some (d', r') from q) (fun q1 q2 => by cases Nat.eq_of_beq_eq_true q1; cases q2; exact e) fun _ q2 => h g d' r' q2
theorem EnOk.run {sp : Spc Ω} (hs : SpOk M P sp) {f d : Nat} {r : Sr Ω} (h : ∀ as s k kx, r as s k kx → callX P sp d f as s k kx) : EnOk M P f d r := fun n g as s k kx ad σ vs Q E q => by
  obtain ⟨rfl, q⟩ := q
  exact callX_ok hs n d g as s k kx ad σ vs Q E (h as s k kx q)
/-- the heap grows -/
theorem Mt.grow {ad : List Nat} {s : Sy Ω} {σ : St} (m : Mt M ad s σ) {H' : Hp} (e : ∀ x, x < σ.H.next → H'.get x = σ.H.get x) (l : σ.H.next ≤ H'.next) : Mt M ad s (σ.setH H') :=
  ⟨m.len, fun j a c ha hc => by
    cases m.cell j a c ha hc with
    | dead => exact .dead
    | mk d g r => exact .mk d ((e a (m.lt j a ha)).trans g) r, m.nd, fun j a ha => Nat.lt_of_lt_of_le (m.lt j a ha) l, m.loc, m.res.imp fun F f => ⟨M.keep _ _ _ _ f.1 (fun x hx => e x (f.2.2 x hx)) l, f.2.1, fun x hx => Nat.lt_of_lt_of_le (f.2.2 x hx) l⟩⟩
inductive ResP (cs : List SC) : SV → RV → Prop
  | v (x : V) : ResP cs (.v x) (.v x)
  | new {n : Nat} {xs : List V} : at_ cs n = some (.list xs) → ResP cs (.s n) (.new xs)
inductive FinP (G : RV → Prop) (r : SV) (s : Sy Unit) : Prop
  | mk {rv : RV} (res : ResP s.cs r rv) (g : G rv)
theorem mt0 (H : Hp) (lo : Loc) : Mt (MFr H []) [] ⟨[], [], ()⟩ ⟨H, lo⟩ := ⟨rfl, fun j a c h => (nomatch h), fun i j a h => (nomatch h), fun j a h => (nomatch h), fun i sv h => (nomatch h), fun x => x < H.next ∧ x ∉ [], ⟨fun _ => Iff.rfl, fun _ _ => rfl, Nat.le_refl _⟩, fun j a h => (nomatch h), fun a h => h.1⟩
/-- a def that knows nothing of the caller's things -/
theorem fun_foc {ad : List Nat} {s : Sy Ω} {σ : St} (m : Mt M ad s σ) {sp : Spc Unit} (hs : ∀ M : MEnv Unit, SpOk M P sp) {d f : Nat} (n : Nat) {vs : List V} {G : RV → Prop} {k : SV → Sy Ω → Prop} {Q : V → Hp → Prop} {E : Nat → Hp → Prop}
    (run : callX P sp d f (vs.map .v) ⟨[], [], ()⟩ (FinP G) noX) (hG : ∀ rv, G rv → giveR rv s k) (hk : PW M DV ad k (fun v σ' => σ'.loc = σ.loc → Q v σ'.H)) : CW P (d + n) f vs σ.H Q E := by
  refine callX_ok (hs (MFr σ.H [])) n d f _ _ _ _ [] ⟨σ.H, σ.loc⟩ vs Q E run (mt0 _ _) (DnL_v vs) (fun r s₁ ad₁ σ₁ v x m₁ dv z e => ?_) fun r s₁ ad₁ σ₁ b x m₁ hb z e => z.elim
  obtain ⟨F, f1, f2, f3⟩ := m₁.res
  have hF : ∀ y, y < σ.H.next → F y := fun y l => (f1.is y).mpr ⟨l, fun h => nomatch h⟩
  have m' : Mt M ad s (σ.setH σ₁.H) := m.grow (fun y l => f1.eq y (hF y l)) f1.le
  cases z with
  | mk res g =>
    have hg := hG _ g
    cases res with
    | v y => exact hk (.v y) _ ad (σ.setH σ₁.H) _ (.refl _) m' dv hg rfl
    | new hc =>
      obtain ⟨b, hb, rfl⟩ := mR_e dv
      obtain ⟨F', g1, g2, g3⟩ := m.res
      have lb : ¬ b < σ.H.next := fun l => f2 _ b hb (hF b l)
      have m'' := m'.add F' (M.keep _ _ _ _ g1 (fun y hy => f1.eq y (hF y (g3 y hy))) f1.le) g2 (fun y hy => Nat.lt_of_lt_of_le (g3 y hy) f1.le) (m₁.lt _ b hb) (fun k hk => lb (m.lt k b hk)) (fun z => lb (g3 b z)) (c := .list _) (.mk _ (m₁.list hc hb) (.list _))
      exact hk _ _ _ (σ.setH σ₁.H) _ ⟨_, rfl⟩ m'' (dn_at (by show (ad ++ [b])[s.cs.length]? = _; rw [← m.len, List.getElem?_append_right (Nat.le_refl _), Nat.sub_self]; rfl)) (giveR_new hg) rfl
end
end Mine

end

section
set_option autoImplicit false
set_option linter.all false
namespace Mine
open PySem (Str)
noncomputable def s_no_list_of_h : Str := ⟨#[110, 111, 32, 108, 105, 115, 116, 32, 111, 102, 32, 104, 97, 110, 100, 115]⟩
noncomputable def s_no_count_of_ : Str := ⟨#[110, 111, 32, 99, 111, 117, 110, 116, 32, 111, 102, 32, 104, 97, 110, 100, 115]⟩
noncomputable def s_no_hand : Str := ⟨#[110, 111, 32, 104, 97, 110, 100]⟩
noncomputable def s_a_hand_in_no : Str := ⟨#[97, 32, 104, 97, 110, 100, 32, 105, 110, 32, 110, 111, 32, 108, 105, 115, 116]⟩
noncomputable def s_odd : Str := ⟨#[111, 100, 100]⟩
noncomputable def s_outside : Str := ⟨#[111, 117, 116, 115, 105, 100, 101]⟩
noncomputable def s_other : Str := ⟨#[111, 116, 104, 101, 114]⟩
noncomputable def s_list : Str := ⟨#[108, 105, 115, 116]⟩
noncomputable def s_hand : Str := ⟨#[104, 97, 110, 100]⟩
noncomputable def s_x : Str := ⟨#[51]⟩
noncomputable def s_empty : Str := ⟨#[]⟩
noncomputable def s_x2 : Str := ⟨#[48]⟩
noncomputable def F_whole : Fn := ⟨[16], (.cons (.ret (.some (.and (.cons (.call true (.glob 42) (.cons (.loc 16) (.cons (.glob 43) .nil))) (.cons (.not (.call true (.glob 42) (.cons (.loc 16) (.cons (.glob 47) .nil)))) .nil)))))
  .nil)⟩
noncomputable def L_is_list_1 : PSs := (.cons (.ite (.or (.cons (.not (.e (.call true (.glob 5) (.cons (.loc 20) .nil)))) (.cons (.e (.cmp .le (.loc 20) (.loc 19))) (.cons (.e (.cmp .ge (.loc 20) (.loc 18))) .nil)))) (.cons (.ret (.some (.cst (.bool false))))
  .nil) .nil)
  (.cons (.assign (.loc 19) (.loc 20))
  .nil))
noncomputable def F_is_list : Fn := ⟨[16, 18], (.cons (.ite (.or (.cons (.not (.e (.call true (.glob 42) (.cons (.loc 16) (.cons (.glob 41) .nil))))) (.cons (.e (.cmp .eq (.call true (.glob 46) (.cons (.loc 16) .nil)) (.cst (.int 0)))) .nil))) (.cons (.ret (.some (.cst (.bool false))))
  .nil) .nil)
  (.cons (.assign (.loc 19) (.neg (.cst (.int 1))))
  (.cons (.loop [20] (.loc 16) L_is_list_1)
  (.cons (.ret (.some (.cst (.bool true))))
  .nil))))⟩
noncomputable def F_Hand___init__ : Fn := ⟨[108, 109], (.cons (.assign (.attr (.loc 108) 109) (.loc 109))
  (.cons (.assign (.attr (.loc 108) 110) (.cst .none))
  (.cons (.assign (.attr (.loc 108) 111) (.neg (.cst (.int 1))))
  (.cons (.assign (.attr (.loc 108) 17) (.list true .nil))
  (.cons (.assign (.attr (.loc 108) 112) (.cst (.int 0)))
  (.cons (.assign (.attr (.loc 108) 113) (.cst (.bool true)))
  (.cons (.assign (.attr (.loc 108) 114) (.list false .nil))
  (.cons (.assign (.attr (.loc 108) 115) (.cst .none))
  (.cons (.expr (.meth true (.loc 108) 66 .nil))
  .nil)))))))))⟩
noncomputable def F_Hand_begin : Fn := ⟨[108], (.cons (.assign (.attr (.loc 108) 23) (.list false .nil))
  (.cons (.assign (.attr (.loc 108) 116) (.cst (.int 0)))
  (.cons (.assign (.attr (.loc 108) 117) (.cst (.bool false)))
  (.cons (.assign (.attr (.loc 108) 118) (.tup (.cons (.cst (.int 0)) (.cons (.neg (.cst (.int 1))) .nil))))
  (.cons (.assign (.attr (.loc 108) 119) (.cst .none))
  (.cons (.assign (.attr (.loc 108) 120) (.cst .none))
  (.cons (.assign (.attr (.loc 108) 121) (.dict .nil))
  .nil)))))))⟩
noncomputable def F_Hand_goes_into : Fn := ⟨[108, 110, 17, 115], (.cons (.expr (.meth true (.loc 108) 66 .nil))
  (.cons (.assign (.attr (.loc 108) 110) (.loc 110))
  (.cons (.assign (.attr (.loc 108) 17) (.call true (.glob 41) (.cons (.loc 17) .nil)))
  (.cons (.assign (.attr (.loc 108) 115) (.loc 115))
  (.cons (.ite (.e (.cmp .isNot (.loc 110) (.cst .none))) (.cons (.assign (.attr (.loc 108) 111) (.loc 110))
  .nil) .nil)
  .nil)))))⟩
noncomputable def L_Folk___init___1 : PSs := (.cons (.expr (.meth true (.idx (.attr (.loc 108) 123) (.loc 109)) 67 (.cons (.cst (.int 0)) (.cons (.loc 122) (.cons (.cst .none) .nil)))))
  .nil)
noncomputable def F_Folk___init__ : Fn := ⟨[108, 18, 122], (.cons (.ite (.or (.cons (.not (.e (.call true (.glob 5) (.cons (.loc 18) .nil)))) (.cons (.e (.cmp .lt (.loc 18) (.cst (.int 1)))) (.cons (.e (.cmp .gt (.loc 18) (.glob 71))) .nil)))) (.cons (.raise 52 (.cst (.str s_no_count_of_)))
  .nil) .nil)
  (.cons (.ite (.not (.e (.call true (.glob 7) (.cons (.loc 122) (.cons (.loc 18) .nil))))) (.cons (.raise 53 (.cst (.str s_no_list_of_h)))
  .nil) .nil)
  (.cons (.assign (.attr (.loc 108) 18) (.loc 18))
  (.cons (.assign (.attr (.loc 108) 123) (.comp true (.call true (.glob 59) (.cons (.loc 109) .nil)) [109] (.call true (.glob 44) (.cons (.loc 18) .nil)) .none))
  (.cons (.assign (.attr (.loc 108) 124) (.list false .nil))
  (.cons (.loop [109] (.loc 122) L_Folk___init___1)
  .nil))))))⟩
noncomputable def F_Folk_hand_of : Fn := ⟨[108, 20], (.cons (.ite (.or (.cons (.not (.e (.call true (.glob 5) (.cons (.loc 20) .nil)))) (.cons (.e (.cmp .lt (.loc 20) (.cst (.int 0)))) (.cons (.e (.cmp .ge (.loc 20) (.attr (.loc 108) 18))) .nil)))) (.cons (.raise 52 (.cst (.str s_no_hand)))
  .nil) .nil)
  (.cons (.ret (.some (.idx (.attr (.loc 108) 123) (.loc 20))))
  .nil))⟩
noncomputable def F_Folk_inside : Fn := ⟨[108, 20], (.cons (.assign (.loc 125) (.meth true (.loc 108) 72 (.cons (.loc 20) .nil)))
  (.cons (.ite (.e (.cmp .is (.attr (.loc 125) 110) (.cst .none))) (.cons (.raise 56 (.cst (.str s_a_hand_in_no)))
  .nil) .nil)
  (.cons (.ret (.some (.loc 125)))
  .nil)))⟩
noncomputable def F_Folk_letters : Fn := ⟨[108], (.cons (.ret (.some (.comp false (.sl true (.loc 134) .none (.some (.cst (.int 3)))) [134] (.attr (.loc 108) 124) .none)))
  .nil)⟩
noncomputable def F_Folk_stands : Fn := ⟨[108, 20], (.cons (.ret (.some (.attr (.meth true (.loc 108) 72 (.cons (.loc 20) .nil)) 113)))
  .nil)⟩
noncomputable def F_Folk_list_of : Fn := ⟨[108, 20], (.cons (.assign (.loc 125) (.meth true (.loc 108) 74 (.cons (.loc 20) .nil)))
  (.cons (.ret (.some (.tup (.cons (.attr (.loc 125) 110) (.cons (.call false (.glob 41) (.cons (.attr (.loc 125) 17) .nil)) .nil)))))
  .nil))⟩
noncomputable def F_Folk_taken : Fn := ⟨[108, 20], (.cons (.assign (.loc 125) (.meth true (.loc 108) 74 (.cons (.loc 20) .nil)))
  (.cons (.ret (.some (.call false (.glob 41) (.cons (.sl true (.attr (.loc 125) 23) .none (.some (.attr (.loc 125) 116))) .nil))))
  .nil))⟩
noncomputable def F_Folk_is_still : Fn := ⟨[108, 20], (.cons (.ret (.some (.attr (.meth true (.loc 108) 74 (.cons (.loc 20) .nil)) 117)))
  .nil)⟩
noncomputable def F_Folk_witness : Fn := ⟨[108, 20], (.cons (.assign (.loc 125) (.meth true (.loc 108) 74 (.cons (.loc 20) .nil)))
  (.cons (.ite (.e (.cmp .is (.attr (.loc 125) 115) (.cst .none))) (.cons (.ret (.some (.list false .nil)))
  .nil) .nil)
  (.cons (.ret (.some (.call false (.glob 41) (.cons (.idx (.attr (.loc 125) 115) (.cst (.int 3))) .nil))))
  .nil)))⟩
noncomputable def F_Folk_past : Fn := ⟨[108, 20], (.cons (.ret (.some (.comp false (.tup (.cons (.loc 110) (.cons (.call false (.glob 41) (.cons (.loc 123) .nil)) (.cons (.call false (.glob 41) (.cons (.loc 23) .nil)) .nil)))) [110, 123, 23] (.attr (.meth true (.loc 108) 72 (.cons (.loc 20) .nil)) 114) .none)))
  .nil)⟩
noncomputable def F__law_draw : Fn := ⟨[24, 25], (.cons (.ret (.some (.ite (.e (.cmp .gt (.call true (.glob 46) (.cons (.loc 24) .nil)) (.loc 25))) (.idx (.loc 24) (.loc 25)) (.cst (.int 0)))))
  .nil)⟩
noncomputable def L__law_hands_1 : PSs := (.cons (.ite (.e (.cmp .eq (.bin true .mod (.loc 27) (.cst (.int 2))) (.cst (.int 1)))) (.cons (.expr (.meth true (.loc 26) 0 (.cons (.loc 29) .nil)))
  .nil) .nil)
  (.cons (.assign (.loc 27) (.bin true .fdiv (.loc 27) (.cst (.int 2))))
  .nil))
noncomputable def F__law_hands : Fn := ⟨[27, 28], (.cons (.assign (.loc 26) (.list false .nil))
  (.cons (.loop [29] (.call true (.glob 44) (.cons (.loc 28) .nil)) L__law_hands_1)
  (.cons (.ret (.some (.loc 26)))
  .nil)))⟩
noncomputable def F__law_words : Fn := ⟨[103], (.cons (.assign (.loc 104) (.list false .nil))
  (.cons (.ite (.e (.call true (.glob 42) (.cons (.loc 103) (.cons (.glob 52) .nil)))) (.cons (.expr (.meth true (.loc 104) 0 (.cons (.cst (.str s_hand)) .nil)))
  .nil) .nil)
  (.cons (.ite (.e (.call true (.glob 42) (.cons (.loc 103) (.cons (.glob 53) .nil)))) (.cons (.expr (.meth true (.loc 104) 0 (.cons (.cst (.str s_list)) .nil)))
  .nil) .nil)
  (.cons (.ite (.e (.call true (.glob 42) (.cons (.loc 103) (.cons (.tup (.cons (.glob 54) (.cons (.glob 55) (.cons (.glob 57) (.cons (.glob 58) .nil))))) .nil)))) (.cons (.expr (.meth true (.loc 104) 0 (.cons (.cst (.str s_other)) .nil)))
  .nil) .nil)
  (.cons (.ite (.e (.call true (.glob 42) (.cons (.loc 103) (.cons (.glob 56) .nil)))) (.cons (.expr (.meth true (.loc 104) 0 (.cons (.cst (.str s_outside)) .nil)))
  .nil) .nil)
  (.cons (.ret (.some (.ite (.and (.cons (.e (.cmp .eq (.call true (.glob 46) (.cons (.loc 104) .nil)) (.cst (.int 1)))) (.cons (.e (.call true (.glob 42) (.cons (.loc 103) (.cons (.glob 64) .nil)))) .nil))) (.idx (.loc 104) (.cst (.int 0))) (.cst (.str s_odd)))))
  .nil))))))⟩
noncomputable def F__law_made : Fn := ⟨[28, 105], (.cons (.try_ (.cons (.ret (.some (.call true (.glob 60) (.cons (.loc 28) (.cons (.loc 105) .nil)))))
  .nil) 51 (some 103) (.cons (.ret (.some (.call true (.glob 61) (.cons (.loc 103) .nil))))
  .nil))
  .nil)⟩
noncomputable def F__law_asked : Fn := ⟨[106, 31, 29], (.cons (.try_ (.cons (.ite (.e (.cmp .eq (.loc 31) (.cst (.int 0)))) (.cons (.ret (.some (.meth false (.loc 106) 97 (.cons (.loc 29) .nil))))
  .nil) .nil)
  (.cons (.ite (.e (.cmp .eq (.loc 31) (.cst (.int 1)))) (.cons (.ret (.some (.meth false (.loc 106) 98 (.cons (.loc 29) .nil))))
  .nil) .nil)
  (.cons (.ite (.e (.cmp .eq (.loc 31) (.cst (.int 2)))) (.cons (.ret (.some (.meth false (.loc 106) 99 (.cons (.loc 29) .nil))))
  .nil) .nil)
  (.cons (.ite (.e (.cmp .eq (.loc 31) (.cst (.int 3)))) (.cons (.ret (.some (.meth false (.loc 106) 100 (.cons (.loc 29) .nil))))
  .nil) .nil)
  (.cons (.ite (.e (.cmp .eq (.loc 31) (.cst (.int 4)))) (.cons (.ret (.some (.meth false (.loc 106) 101 (.cons (.loc 29) .nil))))
  .nil) .nil)
  (.cons (.ret (.some (.meth false (.loc 106) 96 (.cons (.loc 29) .nil))))
  .nil)))))) 51 (some 103) (.cons (.ret (.some (.call true (.glob 61) (.cons (.loc 103) .nil))))
  .nil))
  .nil)⟩
noncomputable def L__law_right_1 : PSs := (.cons (.assign (.loc 26) (.call false (.glob 62) (.cons (.loc 106) (.cons (.loc 31) (.cons (.loc 29) .nil)))))
  (.cons (.ite (.or (.cons (.e (.cmp .ne (.loc 26) (.idx (.loc 13) (.loc 31)))) (.cons (.e (.cmp .ne (.call true (.glob 42) (.cons (.loc 26) (.cons (.glob 47) .nil))) (.call true (.glob 42) (.cons (.idx (.loc 13) (.loc 31)) (.cons (.glob 47) .nil))))) .nil))) (.cons (.ret (.some (.cst (.bool false))))
  .nil) .nil)
  (.cons (.ite (.e (.call true (.glob 42) (.cons (.loc 26) (.cons (.glob 41) .nil)))) (.cons (.expr (.meth true (.loc 26) 0 (.cons (.cst (.int 7)) .nil)))
  .nil) .nil)
  (.cons (.ite (.e (.call true (.glob 42) (.cons (.loc 26) (.cons (.glob 48) .nil)))) (.cons (.expr (.meth true (.idx (.loc 26) (.cst (.int 1))) 0 (.cons (.cst (.int 7)) .nil)))
  .nil) .nil)
  (.cons (.ite (.e (.cmp .ne (.call true (.glob 62) (.cons (.loc 106) (.cons (.loc 31) (.cons (.loc 29) .nil)))) (.idx (.loc 13) (.loc 31)))) (.cons (.ret (.some (.cst (.bool false))))
  .nil) .nil)
  .nil)))))
noncomputable def F__law_right : Fn := ⟨[106, 105, 29], (.cons (.assign (.loc 13) (.list true (.cons (.tup (.cons (.cst (.int 0)) (.cons (.loc 105) .nil))) (.cons (.list true .nil) (.cons (.cst (.bool false)) (.cons (.list true .nil) (.cons (.list true .nil) (.cons (.cst (.bool true)) .nil))))))))
  (.cons (.ite (.e (.cmp .notIn (.loc 29) (.loc 105))) (.cons (.assign (.loc 13) (.list true (.cons (.cst (.str s_outside)) (.cons (.cst (.str s_outside)) (.cons (.cst (.str s_outside)) (.cons (.cst (.str s_outside)) (.cons (.list true .nil) (.cons (.cst (.bool true)) .nil))))))))
  .nil) .nil)
  (.cons (.loop [31] (.call true (.glob 44) (.cons (.cst (.int 6)) .nil)) L__law_right_1)
  (.cons (.ret (.some (.cst (.bool true))))
  .nil))))⟩
noncomputable def L_law_1 : PSs := (.cons (.ite (.not (.e (.call true (.glob 63) (.cons (.loc 106) (.cons (.loc 105) (.cons (.loc 29) .nil)))))) (.cons (.ret (.some (.cst (.bool false))))
  .nil) .nil)
  .nil)
noncomputable def S_law_0 : PS := (.assign (.loc 28) (.bin true .sub (.bin true .mod (.call true (.glob 9) (.cons (.loc 24) (.cons (.cst (.int 0)) .nil))) (.cst (.int 13))) (.cst (.int 1))))
noncomputable def S_law_1 : PS := (.ite (.e (.cmp .eq (.bin true .mod (.bin true .fdiv (.call true (.glob 9) (.cons (.loc 24) (.cons (.cst (.int 0)) .nil))) (.cst (.int 13))) (.cst (.int 9))) (.cst (.int 1)))) (.cons (.assign (.loc 28) (.idx (.list true (.cons (.cst (.bool true)) (.cons (.cst (.str s_x)) (.cons (.cst .none) (.cons (.bin true .pow (.cst (.int 10)) (.cst (.int 20))) (.cons (.cst (.bool false)) .nil)))))) (.bin true .mod (.bin true .fdiv (.call true (.glob 9) (.cons (.loc 24) (.cons (.cst (.int 0)) .nil))) (.cst (.int 117))) (.cst (.int 5)))))
  .nil) .nil)
noncomputable def S_law_2 : PS := (.assign (.loc 107) (.ite (.and (.cons (.e (.cmp .isIn (.loc 28) (.call true (.glob 44) (.cons (.cst (.int 1)) (.cons (.cst (.int 10)) .nil))))) (.cons (.e (.cmp .isNot (.loc 28) (.cst (.bool true)))) .nil))) (.loc 28) (.cst (.int 5))))
noncomputable def S_law_3 : PS := (.assign (.loc 105) (.call true (.glob 11) (.cons (.call true (.glob 9) (.cons (.loc 24) (.cons (.cst (.int 1)) .nil))) (.cons (.loc 107) .nil))))
noncomputable def S_law_4 : PS := (.ite (.e (.cmp .eq (.loc 105) (.list true .nil))) (.cons (.assign (.loc 105) (.list true (.cons (.bin true .sub (.loc 107) (.cst (.int 1))) .nil)))
  .nil) .nil)
noncomputable def S_law_5 : PS := (.assign (.loc 13) (.ite (.or (.cons (.e (.cmp .is (.loc 28) (.cst (.bool true)))) (.cons (.e (.cmp .notIn (.loc 28) (.call true (.glob 44) (.cons (.cst (.int 1)) (.cons (.cst (.int 10)) .nil))))) .nil))) (.cst (.str s_hand)) (.cst (.str s_empty))))
noncomputable def S_law_6 : PS := (.ite (.e (.cmp .eq (.bin true .mod (.call true (.glob 9) (.cons (.loc 24) (.cons (.cst (.int 2)) .nil))) (.cst (.int 4))) (.cst (.int 1)))) (.cons (.assign (.loc 132) (.list true (.cons (.list true .nil) (.cons (.bin true .add (.loc 105) (.list true (.cons (.loc 107) .nil))) (.cons (.bin true .add (.loc 105) (.list true (.cons (.idx (.loc 105) (.neg (.cst (.int 1)))) .nil))) (.cons (.call true (.glob 48) (.cons (.loc 105) .nil)) (.cons (.cst .none) (.cons (.list true (.cons (.neg (.cst (.int 1))) .nil)) (.cons (.list true (.cons (.cst (.bool false)) .nil)) (.cons (.list true (.cons (.cst (.bool true)) .nil)) .nil))))))))))
  (.cons (.assign (.loc 105) (.idx (.loc 132) (.bin true .mod (.bin true .fdiv (.call true (.glob 9) (.cons (.loc 24) (.cons (.cst (.int 2)) .nil))) (.cst (.int 4))) (.cst (.int 8)))))
  (.cons (.assign (.loc 13) (.ite (.e (.cmp .eq (.loc 13) (.cst (.str s_empty)))) (.cst (.str s_list)) (.loc 13)))
  .nil))) .nil)
noncomputable def S_law_7 : PS := (.assign (.loc 39) (.ite (.e (.call true (.glob 42) (.cons (.loc 105) (.cons (.glob 41) .nil)))) (.call false (.glob 41) (.cons (.loc 105) .nil)) (.loc 105)))
noncomputable def S_law_8 : PS := (.assign (.loc 106) (.call true (.glob 40) (.cons (.loc 28) (.cons (.loc 39) .nil))))
noncomputable def S_law_9 : PS := (.ite (.e (.cmp .ne (.loc 13) (.cst (.str s_empty)))) (.cons (.ret (.some (.cmp .eq (.loc 106) (.loc 13))))
  .nil) .nil)
noncomputable def S_law_10 : PS := (.ite (.or (.cons (.e (.call true (.glob 42) (.cons (.loc 106) (.cons (.glob 133) .nil)))) (.cons (.e (.cmp .ne (.attr (.loc 106) 18) (.loc 28))) (.cons (.e (.cmp .ne (.meth true (.loc 106) 95 .nil) (.list true .nil))) .nil)))) (.cons (.ret (.some (.cst (.bool false))))
  .nil) .nil)
noncomputable def S_law_11 : PS := (.expr (.meth true (.loc 39) 0 (.cons (.cst (.int 3)) .nil)))
noncomputable def S_law_12 : PS := (.loop [29] (.call true (.glob 44) (.cons (.loc 28) .nil)) L_law_1)
noncomputable def S_law_13 : PS := (.assign (.loc 45) (.idx (.list true (.cons (.neg (.cst (.int 1))) (.cons (.loc 28) (.cons (.cst (.bool true)) (.cons (.cst (.str s_x2)) (.cons (.cst .none) (.cons (.cst (.bool false)) .nil))))))) (.bin true .mod (.call true (.glob 9) (.cons (.loc 24) (.cons (.cst (.int 3)) .nil))) (.cst (.int 6)))))
noncomputable def S_law_14 : PS := (.ret (.some (.cmp .eq (.comp true (.call true (.glob 62) (.cons (.loc 106) (.cons (.loc 31) (.cons (.loc 45) .nil)))) [31] (.call true (.glob 44) (.cons (.cst (.int 6)) .nil)) .none) (.bin true .mul (.list true (.cons (.cst (.str s_hand)) .nil)) (.cst (.int 6))))))
noncomputable def F_law : Fn := ⟨[24], (.cons S_law_0 (.cons S_law_1 (.cons S_law_2 (.cons S_law_3 (.cons S_law_4 (.cons S_law_5 (.cons S_law_6 (.cons S_law_7 (.cons S_law_8 (.cons S_law_9 (.cons S_law_10 (.cons S_law_11 (.cons S_law_12 (.cons S_law_13 (.cons S_law_14 .nil)))))))))))))))⟩
noncomputable def tb : Tb where
  nms := [(0, "append"), (1, "pop"), (2, "extend"), (3, "get"), (4, "setdefault"), (5, "whole"), (7, "is_list"), (9, "_law_draw"), (11, "_law_hands"), (13, "_law_due"), (14, "law"), (16, "thing"), (17, "members"), (18, "many"), (19, "ahead"), (20, "hand"), (23, "row"), (24, "_law_script"), (25, "_law_k"), (26, "_law_found"), (27, "_law_bits"), (28, "_law_many"), (29, "_law_hand"), (31, "_law_way"), (39, "_law_handed"), (40, "_law_made"), (41, "list"), (42, "isinstance"), (43, "int"), (44, "range"), (45, "_law_odd"), (46, "len"), (47, "bool"), (48, "tuple"), (51, "FolkError"), (52, "BadHand"), (53, "BadList"), (54, "NoLetter"), (55, "Fallen"), (56, "Outside"), (57, "NotFirst"), (58, "NoNews"), (59, "Hand"), (60, "Folk"), (61, "_law_words"), (62, "_law_asked"), (63, "_law_right"), (64, "ValueError"), (65, "__init__"), (66, "begin"), (67, "goes_into"), (71, "MOST"), (72, "hand_of"), (74, "inside"), (95, "letters"), (96, "stands"), (97, "list_of"), (98, "taken"), (99, "is_still"), (100, "witness"), (101, "past"), (103, "_law_e"), (104, "_law_words_here"), (105, "_law_first"), (106, "_law_folk"), (107, "_law_size"), (108, "self"), (109, "number"), (110, "place"), (111, "highest"), (112, "said"), (113, "up"), (114, "gone"), (115, "news"), (116, "took"), (117, "still"), (118, "ballot"), (119, "agreed"), (120, "offer"), (121, "holds"), (122, "first"), (123, "hands"), (124, "under"), (125, "one"), (132, "_law_some"), (133, "str"), (134, "letter")].map fun x => (x.1, Str.ofString x.2)
  fns := [(5, .g "whole", F_whole),
    (7, .g "is_list", F_is_list),
    (237, .m "Hand" "__init__", F_Hand___init__),
    (238, .m "Hand" "begin", F_Hand_begin),
    (239, .m "Hand" "goes_into", F_Hand_goes_into),
    (243, .m "Folk" "__init__", F_Folk___init__),
    (244, .m "Folk" "hand_of", F_Folk_hand_of),
    (246, .m "Folk" "inside", F_Folk_inside),
    (262, .m "Folk" "letters", F_Folk_letters),
    (263, .m "Folk" "stands", F_Folk_stands),
    (264, .m "Folk" "list_of", F_Folk_list_of),
    (265, .m "Folk" "taken", F_Folk_taken),
    (266, .m "Folk" "is_still", F_Folk_is_still),
    (267, .m "Folk" "witness", F_Folk_witness),
    (268, .m "Folk" "past", F_Folk_past),
    (9, .g "_law_draw", F__law_draw),
    (11, .g "_law_hands", F__law_hands),
    (61, .g "_law_words", F__law_words),
    (40, .g "_law_made", F__law_made),
    (62, .g "_law_asked", F__law_asked),
    (63, .g "_law_right", F__law_right),
    (14, .g "law", F_law)]
  globs := [(5, .fn 5), (7, .fn 7), (9, .fn 9), (11, .fn 11), (61, .fn 61), (40, .fn 40), (62, .fn 62), (63, .fn 63), (14, .fn 14), (59, .cls 59), (60, .cls 60), (51, .cls 51), (52, .cls 52), (53, .cls 53), (54, .cls 54), (55, .cls 55), (56, .cls 56), (57, .cls 57), (58, .cls 58), (71, .int 9), (43, .bt .int), (47, .bt .bool), (41, .bt .list), (48, .bt .tuple), (133, .bt .str), (64, .bt .valueError), (44, .bt .range), (46, .bt .len), (42, .bt .isinstance)]
  clss := [(59, "Hand", ⟨some 237, [(66, 238), (67, 239)], [109, 110, 111, 17, 112, 113, 114, 115, 23, 116, 117, 118, 119, 120, 121]⟩),
    (60, "Folk", ⟨some 243, [(72, 244), (74, 246), (95, 262), (96, 263), (97, 264), (98, 265), (99, 266), (100, 267), (101, 268)], [18, 123, 124]⟩)]
  excs := [(51, "FolkError"), (52, "BadHand"), (53, "BadList"), (54, "NoLetter"), (55, "Fallen"), (56, "Outside"), (57, "NotFirst"), (58, "NoNews")]
  subs := [(51, 51), (52, 51), (52, 52), (53, 51), (53, 53), (54, 51), (54, 54), (55, 51), (55, 55), (56, 51), (56, 56), (57, 51), (57, 57), (58, 51), (58, 58)]
  quiet := [61]
  qg := [61, 42, 46]
  nAppend := 0
  nPop := 1
  nExtend := 2
  nGet := 3
  nSetdefault := 4
end Mine

end

section
set_option autoImplicit false
set_option linter.all false
set_option genSizeOf false
set_option genInjectivity false
namespace Mine
open PySem (Str)
noncomputable def dr (is : List Int) (k : Nat) : Int := is.getD k 0
section
variable {Ω : Type} {M : MEnv Ω}
noncomputable def drawR : Sr Ω := fun as s k _ => ∃ (is : List Int) (n : Nat), as = [.v (.lst (is.map .int)), .v (.int n)] ∧ k (.v (.int (dr is n))) s
theorem pyIdx_nat {n m : Nat} (h : n < m) : pyIdx (n : Int) m = some n := by
  unfold pyIdx
  rw [if_pos (Int.natCast_nonneg n), if_pos (Int.ofNat_lt.mpr h), Int.toNat_natCast]
theorem draw_e : EnOk M tb.P 9 1 drawR := EnOk.run SpOk.nil fun as s k kx h => by
  obtain ⟨is, n, rfl, h⟩ := h
  refine Br_i (fun c => ?_) (fun c => ?_)
  · have c : n < (is.map V.int).length := by have := of_decide_eq_true c; omega
    refine need_i (pyIdx_nat c) ?_
    rw [List.length_map] at c
    refine need_i (a := .int (dr is n)) (by rw [List.getElem?_map, List.getElem?_eq_getElem c]; unfold dr; rw [List.getD_eq_getElem?_getD, List.getElem?_eq_getElem c]; rfl) ?_
    exact h
  · have c : ¬ n < (is.map V.int).length := by have := of_decide_eq_false c; omega
    rw [List.length_map] at c
    have : dr is n = 0 := by unfold dr; rw [List.getD_eq_getElem?_getD, List.getElem?_eq_none (by omega)]; rfl
    rw [this] at h
    exact h
theorem lk_self {α : Type} {i : Nat} {v : α} : ∀ (l : List (Nat × α)), lk (st l i v) i = some v
  | [] => cond_t beq_t
  | p :: r => by
    show lk (cond (Nat.beq p.1 i) ((p.1, v) :: r) (p :: st r i v)) i = _
    cases q : Nat.beq p.1 i with
    | true => exact cond_t q
    | false => exact (cond_f q).trans (lk_self r)
theorem DnL_u {ad : List Nat} : ∀ {vs ws : List V}, DnL ad (vs.map .v) ws → ws = vs
  | [], _, h => by cases h; rfl
  | _ :: _, _, h => by
    cases h with
    | cons d h => rw [DnL_u h, Option.some.inj d]
/-- a def of data, by a run of its own -/
theorem EnOk.fn {P : Prog} {sp : Spc Unit} (hs : ∀ M : MEnv Unit, SpOk M P sp) {f d : Nat} {r : Sr Ω} (h : ∀ as s k kx, r as s k kx → ∃ (vs : List V) (G : RV → Prop), as = vs.map .v ∧ callX P sp d f (vs.map .v) ⟨[], [], ()⟩ (FinP G) noX ∧ ∀ rv, G rv → giveR rv s k) : EnOk M P f d r := fun n g as s k kx ad σ vs Q E q m dl hk hx => by
  obtain ⟨rfl, q⟩ := q
  obtain ⟨ws, G, rfl, run, hG⟩ := h as s k kx q
  rw [DnL_u dl]
  exact fun_foc m hs n run hG hk
noncomputable def handsF : Nat → Int → Int → List Int
  | 0, _, _ => []
  | n + 1, b, k => cond (decide (Int.fmod b 2 = 1)) [k] [] ++ handsF n (Int.fdiv b 2) (k + 1)
noncomputable def handsR : Sr Ω := fun as s k _ => ∃ (b : Int) (n : Nat), n ≤ 100 ∧ as = [.v (.int b), .v (.int n)] ∧ newS s (.list (iV (handsF n b 0))) fun n s' => k (.s n) s'
theorem rngN_nat (n : Nat) : rngN 0 n 1 = n := by
  unfold rngN
  rw [if_pos rfl, Int.sub_zero, Int.toNat_natCast]
inductive HandsI (n : Nat) (b : Int) (r : List V) (s : Sy Unit) : Prop
  | mk (j : Nat) (b' k : Int) (acc : List Int) (t : List (Nat × SV)) (hr : r = rngL k 1 j) (ha : acc ++ handsF j b' k = handsF n b 0) (hs : s = ⟨[.list (iV acc)], (27, .v (.int b')) :: (28, .v (.int n)) :: (26, .s 0) :: t, ()⟩) (hl : acc.length + j ≤ 100)
theorem hands_e : EnOk M tb.P 11 1 handsR := EnOk.fn (fun _ => SpOk.nil) fun as s k kx h => by
  obtain ⟨b, n, hn, rfl, h⟩ := h
  refine ⟨[.int b, .int n], fun rv => rv = .new (iV (handsF n b 0)), rfl, ?_, fun rv e => e ▸ h⟩
  refine ⟨Nat.zero_le _, ?_⟩
  refine ⟨by show ((n : Int)).natAbs ≤ 1048576; omega, ?_⟩
  refine .mk (HandsI n b) ⟨n, b, 0, [], [], by rw [rngN_nat], rfl, rfl, by show 0 + n ≤ 100; omega⟩ ⟨fun r s' i => rfl, fun s' i => ?_, fun x r s' i => ?_⟩
  · obtain ⟨j, b', k', acc, t, hr, ha, rfl, hl⟩ := i
    cases j with
    | zero => 
      rw [show handsF 0 b' k' = [] from rfl, List.append_nil] at ha
      exact .mk (.new rfl) (by rw [ha])
    | succ j => cases hr
  · obtain ⟨j, b', k', acc, t, hr, ha, rfl, hl⟩ := i
    cases j with
    | zero => cases hr
    | succ j =>
      cases hr
      refine bind1_i ?_
      refine ⟨by decide, ?_⟩
      have ha : acc ++ (cond (decide (Int.fmod b' 2 = 1)) [k'] [] ++ handsF j (Int.fdiv b' 2) (k' + 1)) = handsF n b 0 := ha
      refine Br_i (fun c => ?_) (fun c => ?_)
      · rw [show decide (Int.fmod b' 2 = 1) = true from c, ← List.append_assoc] at ha
        refine need_i (lk_self t) ?_
        refine ⟨by show (iV acc).length < 1048576; unfold iV; rw [List.length_map]; omega, ?_⟩
        refine ⟨by decide, ?_⟩
        exact ⟨j, _, _, acc ++ [k'], _, rfl, ha, by unfold iV; rw [List.map_append]; rfl, by rw [List.length_append]; show acc.length + 1 + j ≤ 100; omega⟩
      · rw [show decide (Int.fmod b' 2 = 1) = false from c] at ha
        refine ⟨by decide, ?_⟩
        exact ⟨j, _, _, acc, _, rfl, ha, rfl, by omega⟩
end
end Mine

end

section
set_option autoImplicit false
set_option linter.all false
set_option genSizeOf false
set_option genInjectivity false
namespace Mine
open PySem (Str)
/-- a list among the things at hand -/
inductive LstIn {Ω : Type} (s : Sy Ω) : SV → List V → Prop
  | v (xs : List V) : LstIn s (.v (.lst xs)) xs
  | s {n : Nat} {xs : List V} : at_ s.cs n = some (.list xs) → LstIn s (.s n) xs
section
variable {Ω : Type} {M : MEnv Ω} {s : Sy Ω} {a : SV} {xs : List V} (h : LstIn s a xs) (l : List (Nat × SV))
include h
theorem LstIn.kd : kindS ⟨s.cs, l, s.w⟩ a = some .list := by
  cases h with
  | v => rfl
  | s h => show (match at_ s.cs _ with | some (.list _) => some Kd.list | some (.inst k _) => some (.inst k) | some (.exc k) => some (.exc k) | some (.w k _) => some (.inst k) | _ => none) = _; rw [h]
theorem LstIn.len : lenS ⟨s.cs, l, s.w⟩ a = some xs.length := by
  cases h with
  | v => rfl
  | s h => show (match at_ s.cs _ with | some (.list xs) => some xs.length | some (.dict kvs) => some kvs.length | _ => none) = _; rw [h]
theorem LstIn.its : itemsS ⟨s.cs, l, s.w⟩ a = some xs := by
  cases h with
  | v => rfl
  | s h => show (match at_ s.cs _ with | some (.list xs) => some xs | _ => none) = _; rw [h]
theorem LstIn.see : seeS ⟨s.cs, l, s.w⟩ a = some (.lst xs) := by
  cases h with
  | v => rfl
  | s h => show mL (scL (at_ s.cs _)) = _; rw [h]; rfl
end
noncomputable def isIB : V → Bool
  | .int _ => true
  | .bool _ => true
  | _ => false
/-- rising numbers, above a and below m -/
noncomputable def ris (m : Int) : Int → List V → Bool
  | _, [] => true
  | a, x :: r => match x with
    | .int x => cond (decide (x ≤ a)) false (cond (decide (m ≤ x)) false (ris m x r))
    | _ => false
noncomputable def okL (m : Int) (xs : List V) : Bool := cond xs.isEmpty false (ris m (-1) xs)
/-- data that is no list -/
noncomputable def noLst : V → Bool
  | .none => true
  | .bool _ => true
  | .int _ => true
  | .str _ => true
  | .tup _ => true
  | _ => false
section
variable {Ω : Type} {M : MEnv Ω}
inductive IslR (as : List SV) (s : Sy Ω) (k : SV → Sy Ω → Prop) (kx : Nat → Sy Ω → Prop) : Prop
  | lst {a : SV} {xs : List V} (m : Int) (he : as = [a, .v (.int m)]) (h : LstIn s a xs) (hx : xs.all isIB = true) (hk : k (.v (.bool (okL m xs))) s)
  | no (x : V) (m : Int) (he : as = [.v x, .v (.int m)]) (hx : noLst x = true) (hk : k (.v (.bool false)) s)
inductive IslI (s : Sy Ω) (a : SV) (m : Int) (xs : List V) (r : List V) (s' : Sy Ω) : Prop
  | mk (b : Int) (t : List (Nat × SV)) (hs : s' = ⟨s.cs, (16, a) :: (18, .v (.int m)) :: (19, .v (.int b)) :: t, s.w⟩) (hx : r.all isIB = true) (hr : ris m b r = ris m (-1) xs)
theorem isl_e : EnOk M tb.P 7 2 IslR := EnOk.run SpOk.nil fun as s k kx h => by
  cases h with
  | no x m he hx hk =>
    subst he
    cases x <;> first | exact hk | cases hx
  | @lst a xs m he h hx hk =>
    subst he
    refine need_i (h.kd _) (need_i rfl (need_i rfl ?_))
    refine need_i (h.len _) ?_
    refine Br_i (fun c => ?_) (fun c => ?_)
    · cases xs with
      | nil => exact hk
      | cons x r => exact absurd (of_decide_eq_true (p := ((r.length + 1 : Nat) : Int) = 0) c) (by omega)
    · have e : okL m xs = ris m (-1) xs := by
        cases xs with
        | nil => cases c
        | cons x r => rfl
      rw [e] at hk
      refine need_i (h.its _) ?_
      refine .mk (IslI s a m xs) ⟨-1, [], rfl, hx, rfl⟩ ⟨fun r s' i => ?_, fun s' i => ?_, fun x r s' i => ?_⟩
      · obtain ⟨b, t, rfl, _, _⟩ := i
        exact h.its _
      · obtain ⟨b, t, rfl, _, hr⟩ := i
        rw [← hr] at hk
        exact hk
      · obtain ⟨b, t, rfl, hx, hr⟩ := i
        rw [List.all_cons, Bool.and_eq_true] at hx
        refine bind1_i ?_
        refine need_i (lk_self t) ?_
        cases x with
        | int x =>
          have hr : cond (decide (x ≤ b)) false (cond (decide (m ≤ x)) false (ris m x r)) = ris m (-1) xs := hr
          refine need_i (lk_self t) ?_
          refine Br_i (fun c => ?_) (fun c => ?_)
          · rw [show decide (x ≤ b) = true from c] at hr
            rw [← hr] at hk; exact hk
          rw [show decide (x ≤ b) = false from c] at hr
          refine need_i (lk_self t) ?_
          refine Br_i (fun c => ?_) (fun c => ?_)
          · rw [show decide (m ≤ x) = true from c] at hr
            rw [← hr] at hk; exact hk
          rw [show decide (m ≤ x) = false from c] at hr
          refine need_i (lk_self t) ?_
          exact ⟨x, _, rfl, hx.2, hr⟩
        | bool b' =>
          have hr : false = ris m (-1) xs := hr
          rw [← hr] at hk; exact hk
        | _ => cases hx.1
end
end Mine

end

section
set_option autoImplicit false
set_option linter.all false
set_option genSizeOf false
set_option genInjectivity false
namespace Mine
open PySem (Str)
/-- a hand in no list; a hand of the first list -/
noncomputable def hand0 (k : Int) : HandS := ⟨k, none, -1, [], 0, true, [], none, [], 0, false, (0, -1), none, none, []⟩
noncomputable def hand1 (k : Int) (fi : List Int) : HandS := ⟨k, some 0, 0, fi, 0, true, [], none, [], 0, false, (0, -1), none, none, []⟩
theorem mt1 {H : Hp} {r : Nat} {c : SC} {d : C} (lo : Loc) (hr : H.get r = some d) (hc : CR (fun _ _ _ => False) [r] c d) (hl : r < H.next) : Mt (MFr H [r]) [r] ⟨[c], [], ()⟩ ⟨H, lo⟩ := by
  refine ⟨rfl, fun j a e h q => ?_, fun i j a h q => ?_, fun j a h => ?_, fun i sv h => (nomatch h), fun x => x < H.next ∧ x ∉ [r], ⟨fun _ => Iff.rfl, fun _ _ => rfl, Nat.le_refl _⟩, fun j a h z => z.2 (List.mem_of_getElem? h), fun a h => h.1⟩
  · cases j with
    | zero => cases h; cases q; exact .mk _ hr hc
    | succ j => cases h
  · cases i with
    | zero =>
      cases j with
      | zero => rfl
      | succ j => cases q
    | succ i => cases h
  · cases j with
    | zero => cases h; exact hl
    | succ j => cases h
/-- what a new hand is in the heap -/
structure NewHand (H : Hp) (r : Nat) (h : HandS) (a : HA) (H' : Hp) : Prop where
  isr : a.r = r
  hr : HR H' h a
  ge : ∀ y ∈ a.l, y = r ∨ H.next ≤ y
  lt : ∀ y ∈ a.l, y < H'.next
  nd : a.l.Nodup
  eq : ∀ x, x < H.next → x ≠ r → H'.get x = H.get x
  le : H.next ≤ H'.next
theorem hinit_w (n r : Nat) (k : Int) (H : Hp) (Q : V → Hp → Prop) (E : Nat → Hp → Prop) (hr : H.get r = some (.inst 59 [])) (hl : r < H.next) (h : ∀ H' a, NewHand H r (hand0 k) a H' → Q .none H') : CW tb.P (n + 2) 237 [.ref r, .int k] H Q E := by
  rw [Nat.add_comm]
  refine callX_ok (M := MFr H [r]) (sp := spL []) SpOk.nil n 2 237 [.s 0, .v (.int k)] ⟨[.inst 59 []], [], ()⟩ (fun x s' => x = .v .none ∧ s'.cs = [handC (hand0 k) 1 2 3 (.v .none), .list [], .list [], .dict []]) noX [r] ⟨H, fun _ => none⟩ _ Q E ?_ (mt1 _ hr (.inst .nil) hl) (.cons rfl (.cons rfl .nil)) (fun x s₁ ad₁ σ₁ v xt m₁ dv z _ => ?_) fun r s₁ ad₁ σ₁ b x m₁ hb z e => z.elim
  · refine ⟨Nat.zero_le _, ?_⟩
    refine ⟨Nat.zero_le _, ?_⟩
    refine ⟨Nat.zero_le _, ?_⟩
    exact ⟨rfl, rfl⟩
  · obtain ⟨rfl, hc⟩ := z
    cases dv
    obtain ⟨F, f1, f2, f3⟩ := m₁.res
    have hi : HandIn s₁.cs (hand0 k) ⟨0, 1, 2, 3, none⟩ (.v .none) := by rw [hc]; exact ⟨rfl, rfl, rfl, rfl, .none⟩
    obtain ⟨a, h0, hr', al⟩ := hi.hr m₁
    have e0 : ad₁[0]? = some r := xt.at_ rfl
    have ar : a.r = r := Option.some.inj (h0.symm.trans e0)
    refine h _ a ⟨ar, hr', fun y hy => (al.mem hy).elim fun j q => ?_, fun y hy => (al.mem hy).elim fun j q => m₁.lt j y q.2, al.nodup m₁.nd (by decide), fun x l ne => f1.eq x ((f1.is x).mpr ⟨l, fun z => ne (List.mem_singleton.mp z)⟩), f1.le⟩
    exact (Nat.lt_or_ge y H.next).elim (fun l => .inl (Decidable.byContradiction fun ne => f2 j y q.2 ((f1.is y).mpr ⟨l, fun z => ne (List.mem_singleton.mp z)⟩))) .inr
/-- the hands that are made -/
structure Made (lo : Nat) (H : Hp) (as : List HA) : Prop where
  hand : ∀ (k : Nat) (a : HA), as[k]? = some a → HR H (hand0 k) a
  nd : (as.flatMap HA.l).Nodup
  ge : ∀ y ∈ as.flatMap HA.l, lo ≤ y
  lt : ∀ y ∈ as.flatMap HA.l, y < H.next
theorem made {K : CT} (hI : ∀ (r : Nat) (k : Int) (H : Hp) (Q : V → Hp → Prop) (E : Nat → Hp → Prop), H.get r = some (.inst 59 []) → r < H.next → (∀ H' a, NewHand H r (hand0 k) a H' → Q .none H') → K 237 [.ref r, .int k] H Q E) (lo : Nat) (v : V) (all : List V) (Q : List V → St → Prop) (j : Nat) : ∀ (k : Nat) (as : List HA) (σ : St) (acc xs : List V), xs = rngL k 1 j → acc = as.map (fun a => .ref a.r) → (∀ H, still v all H) → as.length = k → k + j ≤ 100 → Made lo σ.H as → lo ≤ σ.H.next →
    (∀ (as' : List HA) (σ' : St), as'.length = k + j → Made lo σ'.H as' → (∀ x, x < lo → σ'.H.get x = σ.H.get x) → σ.H.next ≤ σ'.H.next → Q (as'.map fun a => .ref a.r) σ') →
    compGo (fun σ₂ k => wpC tb.P K noE .none σ₂ k) (fun σ₂ k => wpE tb.P K noE (.call true (.glob 59) (.cons (.loc 109) .nil)) σ₂ k) [109] (still v all) xs acc σ Q := by
  induction j with
  | zero =>
    intro k as σ acc xs e ea hs hl hz M l h
    subst e ea
    exact ⟨hs _, by rw [List.length_map, hl]; exact Nat.le_trans hz (by decide), h as σ hl M (fun _ _ => rfl) (Nat.le_refl _)⟩
  | succ j ih =>
    intro k as σ acc xs e ea hs hl hz M l h
    subst e ea
    refine ⟨hs _, by rw [List.length_map, hl]; exact Nat.lt_of_lt_of_le (by omega : k < 101) (by decide), ?_⟩
    refine hI σ.H.next k (σ.H.new (.inst 59 [])) _ _ (if_pos rfl) (Nat.lt_succ_self _) fun H' a N => ⟨rfl, ?_⟩
    have old : ∀ x, x < σ.H.next → H'.get x = σ.H.get x := fun x lx => (N.eq x (Nat.lt_succ_of_lt lx) (Nat.ne_of_lt lx)).trans (if_neg (Nat.ne_of_lt lx))
    have le : σ.H.next + 1 ≤ H'.next := N.le
    have ge : ∀ y ∈ a.l, σ.H.next ≤ y := fun y hy => (N.ge y hy).elim (fun e => Nat.le_of_eq e.symm) fun l => Nat.le_of_succ_le l
    have mem : ∀ y, y ∈ (as ++ [a]).flatMap HA.l → y ∈ as.flatMap HA.l ∨ y ∈ a.l := fun y hy => by
      rw [List.flatMap_append, List.flatMap_cons, List.flatMap_nil, List.append_nil] at hy
      exact List.mem_append.mp hy
    refine ih (k + 1) (as ++ [a]) ⟨H', _⟩ _ _ rfl ?_ hs (by rw [List.length_append, hl]; rfl) (by omega) ⟨fun i b hb => ?_, ?_, fun y hy => ?_, fun y hy => ?_⟩ (by show lo ≤ H'.next; omega) fun as' σ' q1 q2 q3 q4 => ?_
    · rw [List.map_append, List.map_cons, N.isr]; rfl
    · rw [List.getElem?_append] at hb
      by_cases c : i < as.length
      · rw [if_pos c] at hb
        exact (M.hand i b hb).keep fun y hy => old y (M.lt y (List.mem_flatMap.mpr ⟨b, List.mem_of_getElem? hb, hy⟩))
      · rw [if_neg c] at hb
        have z : i - as.length = 0 := Nat.lt_one_iff.mp (List.getElem?_eq_some_iff.mp hb).1
        rw [z] at hb
        have : i = k := by omega
        subst this
        cases hb
        exact N.hr
    · rw [List.flatMap_append, List.flatMap_cons, List.flatMap_nil, List.append_nil]
      exact List.nodup_append.mpr ⟨M.nd, N.nd, fun y hy z hz e => Nat.lt_irrefl _ (Nat.lt_of_lt_of_le (M.lt y hy) (e ▸ ge z hz))⟩
    · exact (mem y hy).elim (M.ge y) fun z => Nat.le_trans l (ge y z)
    · exact (mem y hy).elim (fun z => Nat.lt_of_lt_of_le (M.lt y z) (by show σ.H.next ≤ H'.next; omega)) (N.lt y)
    · have q3 : ∀ x, x < lo → σ'.H.get x = H'.get x := q3
      have q4 : H'.next ≤ σ'.H.next := q4
      exact h as' σ' (by omega) q2 (fun x lx => (q3 x lx).trans (old x (by omega))) (by omega)
end Mine

end

section
set_option autoImplicit false
set_option linter.all false
set_option genSizeOf false
set_option genInjectivity false
namespace Mine
open PySem (Str)
/-- the folk when some went into the first list -/
noncomputable def beg (mm : Nat) (fi pr : List Int) : FolkS := ⟨(List.range mm).map fun (k : Nat) => cond (pr.contains (k : Int)) (hand1 k fi) (hand0 k), []⟩
theorem inst_i {Ω : Type} {s : Sy Ω} {j c : Nat} {fs : List (Nat × SV)} {k : Nat → Nat → List (Nat × SV) → Prop} (e : at_ s.cs j = some (.inst c fs)) (h : k j c fs) : instS s (.s j) k := by
  show (match at_ s.cs j with | some (.inst c fs) => k j c fs | _ => False)
  rw [e]; exact h
theorem ss_x {Ω : Type} {M : MEnv Ω} {P : Prog} {C : XT Ω} {K : CT} (hC : CallOk M C K) {c : PS} {r : PSs} {s : Sy Ω} {σ : St} {ad : List Nat} {Q : Flow → St → Prop} {E : EP} (m : Mt M ad s σ) (S : Sy Ω) (run : sxS P C c s (fun fl s' => fl = .next ∧ s' = S) noX) (h : ∀ ad' σ', Ext ad ad' → Mt M ad' S σ' → wpSs P K r σ' Q E) : wpSs P K (.cons c r) σ Q E :=
  sxS_ok hC c run m (fun fl s₁ ad₁ σ₁ fl' x m₁ df z => by obtain ⟨rfl, rfl⟩ := z; cases df; exact h _ _ x m₁) PW.no
theorem at_set {cs : List SC} {j : Nat} {c d : SC} (h : at_ cs j = some d) : at_ (setAt cs j c) j = some c := by
  have := at_len h
  rw [setAt_eq, at_eq, List.getElem?_set, if_pos rfl, if_pos this]
theorem at_ne {cs : List SC} {j k : Nat} {c : SC} (h : j ≠ k) : at_ (setAt cs j c) k = at_ cs k := by
  rw [setAt_eq, at_eq, List.getElem?_set, if_neg h, at_eq]
theorem at_app {cs t : List SC} {j : Nat} {d : SC} (h : at_ cs j = some d) : at_ (cs ++ t) j = some d := by
  rw [at_eq, List.getElem?_append_left (at_len h), ← at_eq]; exact h
theorem CR_un {D D' : Nat → List (Nat × V) → List (Nat × V) → Prop} {ad ad' : List Nat} (x : Ext ad ad') {c : SC} {d d' : C} (h : CR D ad c d) (h' : CR D' ad' c d') (no : ∀ k fs fs', ¬ D k fs fs') : d = d' := by
  cases h with
  | list xs => cases h'; rfl
  | dict r => cases h' with | dict r' => rw [DnF_un (r.mono x) r']
  | inst r => cases h' with | inst r' => rw [DnF_un (r.mono x) r']
  | exc k => cases h'; rfl
  | w r => exact (no _ _ _ r).elim
theorem all_iV : ∀ (l : List Int), (iV l).all isIB = true
  | [] => rfl
  | _ :: r => all_iV r
theorem set_map {mm : Nat} {fi pr : List Int} (k : Nat) : (beg mm fi pr).hands.set k (hand1 k fi) = (beg mm fi (pr ++ [(k : Int)])).hands := by
  refine List.ext_getElem? fun i => ?_
  show ((List.map _ (List.range mm)).set k _)[i]? = (List.map _ (List.range mm))[i]?
  rw [List.getElem?_set, List.getElem?_map, List.getElem?_map, List.length_map, List.length_range]
  by_cases e : k = i
  · subst e
    rw [if_pos rfl]
    by_cases l : k < mm
    · rw [if_pos l, List.getElem?_range l]
      show _ = some (cond ((pr ++ [(k : Int)]).contains (k : Int)) _ _)
      rw [show (pr ++ [(k : Int)]).contains (k : Int) = true by simp]; rfl
    · rw [if_neg l, List.getElem?_eq_none (by rw [List.length_range]; omega)]; rfl
  · rw [if_neg e]
    by_cases l : i < mm
    · rw [List.getElem?_range l]
      show some (cond (pr.contains (i : Int)) _ _) = some (cond ((pr ++ [(k : Int)]).contains (i : Int)) _ _)
      rw [show (pr ++ [(k : Int)]).contains (i : Int) = pr.contains (i : Int) by
        have : (i : Int) ≠ k := by omega
        simp [this]]
    · rw [List.getElem?_eq_none (by rw [List.length_range]; omega)]; rfl
set_option maxRecDepth 20000 in
/-- a hand goes into the first list -/
theorem go_run {len : Int} {as : List HA} {k : Nat} (hk : k < as.length) {U : List Letter} {h : HandS} {fi : List Int} (hz : fi.length ≤ 100) (hh : h = hand0 k ∨ h = hand1 k fi) {ex : Exl} {a : SV} (ha : (a = .v (.lst (iV fi)) ∧ ex = none) ∨ (a = .s 6 ∧ ∃ b, ex = some (b, iV fi))) :
    sxSs tb.P (callX tb.P (spL []) 3) L_Folk___init___1 ⟨fcs len (hsA k 0 as) U (hcs h ++ exC ex), [(108, .s 0), (122, a), (109, .v (.int k))], ()⟩ (fun fl s' => fl = .next ∧ s'.loc = [(108, .s 0), (122, a), (109, .v (.int k))] ∧ ∃ js o, FinOk len (hsA k 0 as) ((hcs h).length + 2) ex (hand1 k fi) U s'.cs js o) noX := by
  have hk' : (hsA k 0 as)[k]? = some (.s 2) := hsA_at (Nat.zero_add k) hk
  have hl : k < (hsA k 0 as).length := by rw [hsA_len]; exact hk
  have hz' : (iV fi).length ≤ SZ := by unfold iV SZ; rw [List.length_map]; omega
  rcases ha with ⟨rfl, rfl⟩ | ⟨rfl, b, rfl⟩
  · rcases hh with rfl | rfl
    · refine need_i (pyIdx_nat hl) (need_i hk' ?_)
      refine ⟨Nat.zero_le _, ?_⟩
      refine ⟨hz', ?_⟩
      exact ⟨rfl, rfl, ⟨2, 3, 6, 7, none⟩, .v .none, rfl, rfl, ⟨rfl, rfl, rfl, rfl, .none⟩, by decide, rfl, .none⟩
    · refine need_i (pyIdx_nat hl) (need_i hk' ?_)
      refine ⟨Nat.zero_le _, ?_⟩
      refine ⟨hz', ?_⟩
      exact ⟨rfl, rfl, ⟨2, 3, 6, 7, none⟩, .v .none, rfl, rfl, ⟨rfl, rfl, rfl, rfl, .none⟩, by decide, rfl, .none⟩
  · rcases hh with rfl | rfl
    · refine need_i (pyIdx_nat hl) (need_i hk' ?_)
      refine ⟨Nat.zero_le _, ?_⟩
      refine ⟨hz', ?_⟩
      exact ⟨rfl, rfl, ⟨2, 3, 7, 8, none⟩, .v .none, rfl, rfl, ⟨rfl, rfl, rfl, rfl, .none⟩, by decide, rfl, .some rfl (by show (6 : Nat) ∉ [2, 3, 7, 8]; decide)⟩
    · refine need_i (pyIdx_nat hl) (need_i hk' ?_)
      refine ⟨Nat.zero_le _, ?_⟩
      refine ⟨hz', ?_⟩
      exact ⟨rfl, rfl, ⟨2, 3, 7, 8, none⟩, .v .none, rfl, rfl, ⟨rfl, rfl, rfl, rfl, .none⟩, by decide, rfl, .some rfl (by show (6 : Nat) ∉ [2, 3, 7, 8]; decide)⟩
end Mine

end

section
set_option autoImplicit false
set_option linter.all false
set_option genSizeOf false
set_option genInjectivity false
namespace Mine
open PySem (Str)
theorem lk3 {a b c i : Nat} {x y z sv : SV} {G : Prop} (h : lk [(a, x), (b, y), (c, z)] i = some sv) (g1 : i = a → sv = x → G) (g2 : i = b → sv = y → G) (g3 : i = c → sv = z → G) : G :=
  cond_e h (fun e q => g1 (beq_nat e).symm (Option.some.inj q).symm) fun _ h => cond_e h (fun e q => g2 (beq_nat e).symm (Option.some.inj q).symm) fun _ h => cond_e h (fun e q => g3 (beq_nat e).symm (Option.some.inj q).symm) fun _ h => nomatch h
theorem beg_at {mm : Nat} {fi pr : List Int} {k : Nat} (h : k < mm) : (beg mm fi pr).hands[k]? = some (cond (pr.contains (k : Int)) (hand1 k fi) (hand0 k)) := by
  show (List.map _ (List.range mm))[k]? = _
  rw [List.getElem?_map, List.getElem?_range h]; rfl
theorem beg_len {mm : Nat} {fi pr : List Int} : (beg mm fi pr).hands.length = mm := by
  show (List.map _ (List.range mm)).length = _
  rw [List.length_map, List.length_range]
section
variable {R : Nat → Prop} {g : Nat → Option C} {K : CT} (hK : ∀ M : MEnv Unit, CallOk M (callX tb.P (spL []) 3) K) {mm : Nat} {fi : List Int} (hz : fi.length ≤ 100) {ad : List Nat} {cs : List SC} {j f : Nat} {fs : List (Nat × V)} (hj : at_ cs j = some (.w 60 fs)) (hf : ad[j]? = some f) {a : SV} {v : V} (dv : dn ad a = some v) (hl : LstIn (⟨cs, [], none⟩ : Sy (Option FolkW)) a (iV fi)) {Q : Flow → St → Prop}
include hK hz hj hf dv hl
theorem go_turn {pr : List Int} {w : FolkW} {σ : St} (m : Mt (MF R g) ad ⟨cs, [], some w⟩ σ) (hS : w.S = beg mm fi pr) (l1 : σ.loc 108 = some (.ref f)) (l2 : σ.loc 122 = some v) {k : Nat} (hk : k < mm) (hq : ∀ (w' : FolkW) (σ' : St), Mt (MF R g) ad ⟨cs, [], some w'⟩ σ' → w'.S = beg mm fi (pr ++ [(k : Int)]) → σ'.loc 108 = some (.ref f) → σ'.loc 122 = some v → Q .next σ') :
    wpSs tb.P K L_Folk___init___1 (σ.put 109 (.int k)) Q noE := by
  have wf : ad[j]? = some w.f := (m.folk rfl hj).1
  have ef : f = w.f := Option.some.inj (hf.symm.trans wf)
  have hh : w.S.hands[k]? = some (cond (pr.contains (k : Int)) (hand1 k fi) (hand0 k)) := by rw [hS]; exact beg_at hk
  refine m.rep rfl fun RW lt out => ?_
  have hka : k < w.as.length := by rw [RW.len, hS, beg_len]; exact hk
  obtain ⟨ha, eha⟩ : ∃ b, w.as[k]? = some b := ⟨_, List.getElem?_eq_getElem hka⟩
  have key : ∀ (ex : Exl) (X : XlAt ad cs ex) (a' : SV), dn (w.ad ha ex) a' = some v → ((a' = .v (.lst (iV fi)) ∧ ex = none) ∨ (a' = .s 6 ∧ ∃ b, ex = some (b, iV fi))) → wpSs tb.P K L_Folk___init___1 (σ.put 109 (.int k)) Q noE := fun ex X a' da hx => by
    have m0 := (foc_mt (σ := σ.put 109 (.int k)) (s := ⟨cs, [], some w⟩) (m.withLoc (l := []) (lo := (σ.put 109 (.int k)).loc) fun i sv h => (nomatch h)) rfl hj eha hh X (σ.put 109 (.int k)).loc).withLoc (l := [(108, .s 0), (122, a'), (109, .v (.int k))]) (lo := (σ.put 109 (.int k)).loc) fun i sv h => lk3 h (fun e q => ⟨.ref f, by rw [q, ef]; rfl, by rw [e]; exact l1⟩) (fun e q => ⟨v, by rw [q]; exact da, by rw [e]; exact l2⟩) fun e q => ⟨.int k, by rw [q]; rfl, by rw [e]; rfl⟩
    refine sxSs_ok (hK _) L_Folk___init___1 (go_run (len := w.S.hands.length) (U := w.S.under) hka hz ?_ hx) m0 (fun fl s₁ ad₁ σ₁ fl' x m₁ df z => ?_) PW.no
    · cases pr.contains (k : Int)
      · exact .inl rfl
      · exact .inr rfl
    · obtain ⟨rfl, hloc, js, o, F⟩ := z
      cases df
      obtain ⟨a'', m', _⟩ := unfoc (σ := σ.put 109 (.int k)) (s := ⟨cs, [], some w⟩) (m.withLoc (l := []) (lo := (σ.put 109 (.int k)).loc) fun i sv h => (nomatch h)) rfl hj eha hh X x m₁ F
      refine hq _ _ (m'.withLoc (l := []) (lo := σ₁.loc) fun i sv h => (nomatch h)) ?_ ?_ ?_
      · show (⟨w.S.hands.set k (hand1 k fi), w.S.under⟩ : FolkS) = _
        rw [hS, set_map]; rfl
      · obtain ⟨u, q1, q2⟩ := m₁.loc 108 (.s 0) (by rw [hloc]; rfl)
        rw [q2, ← q1, ef]
        exact congrArg mR (x.at_ (j := 0) rfl)
      · obtain ⟨u, q1, q2⟩ := m₁.loc 122 a' (by rw [hloc]; rfl)
        rw [q2, ← q1]
        exact dn_mono x da
  cases hl with
  | v => exact key none .none (.v (.lst (iV fi))) dv (.inl ⟨rfl, rfl⟩)
  | @s p _ hp =>
    obtain ⟨b, hb, rfl⟩ := mR_e dv
    refine key (some (b, iV fi)) (.some hb hp) (.s 6) ?_ (.inr ⟨rfl, b, rfl⟩)
    have le : ha.l.length = 4 := by
      rw [hcs_len (RW.hand k ha _ eha hh).o]
      cases pr.contains (k : Int) <;> rfl
    show mR (ha.l ++ [b])[4]? = _
    rw [List.getElem?_append_right (by rw [le]; exact Nat.le_refl _), le]; rfl
theorem go_in : ∀ (xs pr : List Int) (w : FolkW) (σ : St), Mt (MF R g) ad ⟨cs, [], some w⟩ σ → w.S = beg mm fi pr → σ.loc 108 = some (.ref f) → σ.loc 122 = some v → (∀ x ∈ xs, ∃ k : Nat, x = k ∧ k < mm) →
    (∀ (w' : FolkW) (σ' : St), Mt (MF R g) ad ⟨cs, [], some w'⟩ σ' → w'.S = beg mm fi (pr ++ xs) → Q .next σ') → loopGo (fun v σ₂ k => bindT [109] v σ₂ fun σ₃ => wpSs tb.P K L_Folk___init___1 σ₃ k noE) (still v (iV fi)) (iV xs) σ Q
  | [], pr, w, σ, m, hS, l1, l2, hx, hq => ⟨itemsS_ok m dv (hl.its []), hq w σ m (by rw [List.append_nil]; exact hS)⟩
  | x :: xs, pr, w, σ, m, hS, l1, l2, hx, hq => by
    obtain ⟨k, rfl, hk⟩ := hx x (.head _)
    refine ⟨itemsS_ok m dv (hl.its []), ?_⟩
    refine go_turn hK hz hj hf dv hl m hS l1 l2 hk fun w' σ' m' hS' q1 q2 => ?_
    exact go_in xs (pr ++ [(k : Int)]) w' σ' m' hS' q1 q2 (fun y hy => hx y (.tail _ hy)) fun w'' σ'' m'' h'' => hq w'' σ'' m'' (by rw [h'', List.append_assoc]; rfl)
end
end Mine

end

section
set_option autoImplicit false
set_option linter.all false
set_option genSizeOf false
set_option genInjectivity false
namespace Mine
open PySem (Str)
theorem ris_rng {m : Int} : ∀ {xs : List Int} {a : Int}, ris m a (iV xs) = true → ∀ x ∈ xs, a < x ∧ x < m
  | [], _, _, x, hx => by cases hx
  | y :: r, a, h, x, hx => by
    have h : cond (decide (y ≤ a)) false (cond (decide (m ≤ y)) false (ris m y (iV r))) = true := h
    refine cond_e h (fun _ z => nomatch z) fun e1 h => cond_e h (fun _ z => nomatch z) fun e2 h => ?_
    have e1 := of_decide_eq_false e1
    have e2 := of_decide_eq_false e2
    rcases List.mem_cons.mp hx with rfl | hx
    · omega
    · have := ris_rng h x hx; omega
theorem ris_len {m : Int} : ∀ {xs : List Int} {a : Int}, ris m a (iV xs) = true → a < m → (xs.length : Int) ≤ m - a - 1
  | [], a, _, h => by show (0 : Int) ≤ _; omega
  | y :: r, a, h, ha => by
    have h : cond (decide (y ≤ a)) false (cond (decide (m ≤ y)) false (ris m y (iV r))) = true := h
    refine cond_e h (fun _ z => nomatch z) fun e1 h => cond_e h (fun _ z => nomatch z) fun e2 h => ?_
    have e1 := of_decide_eq_false e1
    have e2 := of_decide_eq_false e2
    have := ris_len h (by omega)
    show ((r.length + 1 : Nat) : Int) ≤ _
    omega
noncomputable def sp7 {Ω : Type} : Spc Ω := spL [(7, 2, IslR)]
theorem sp7_ok {Ω : Type} {M : MEnv Ω} : SpOk M tb.P sp7 := .cons isl_e .nil
/-- the last slot is the world's -/
theorem Ext.one {ad ad' : List Nat} (x : Ext ad ad') {n : Nat} (h : ad.length = n) (h' : ad'.length = n + 1) : ∃ u, ad' = ad ++ [u] := by
  obtain ⟨t, rfl⟩ := x
  rw [List.length_append, h] at h'
  match t, h' with
  | [u], _ => exact ⟨u, rfl⟩
  | [], h' => simp at h'
  | _ :: _ :: _, h' => simp at h'
theorem Ext.same {ad ad' : List Nat} (x : Ext ad ad') {n : Nat} (h : ad.length = n) (h' : ad'.length = n) : ad' = ad := by
  obtain ⟨t, rfl⟩ := x
  rw [List.length_append, h] at h'
  match t, h' with
  | [], _ => exact List.append_nil _
  | _ :: _, h' => simp at h'
theorem setAt_len {cs : List SC} {j : Nat} {c : SC} : (setAt cs j c).length = cs.length := by rw [setAt_eq, List.length_set]
theorem set2 {cs : List SC} {j : Nat} {c d : SC} : setAt (setAt cs j c) j d = setAt cs j d := by rw [setAt_eq, setAt_eq, setAt_eq, List.set_set]
theorem set_app {cs t : List SC} {j : Nat} {c : SC} (h : j < cs.length) : setAt (cs ++ t) j c = setAt cs j c ++ t := by rw [setAt_eq, setAt_eq, List.set_append_left _ _ h]
/-- the folk's parts become the world -/
theorem to_world {R : Nat → Prop} {g : Nat → Option C} {ad : List Nat} {cs : List SC} {l : List (Nat × SV)} {σ : St} (m : Mt (MF R g) ad ⟨cs, l, none⟩ σ) {j f : Nat} {fs0 : List (Nat × SV)} (hj : at_ cs j = some (.inst 60 fs0)) (hf : ad[j]? = some f) {mm u : Nat} {as : List HA} {l' : List (Nat × SV)} {σ' : St}
    (m' : Mt (MF R g) (ad ++ [u]) ⟨setAt cs j (.inst 60 [(18, .v (.int mm)), (123, .v (.lst (as.map fun a => .ref a.r))), (124, .s cs.length)]) ++ [.list []], l', none⟩ σ') (la : as.length = mm) {fi : List Int} (M : Made σ.H.next σ'.H as) (hu : ∀ y ∈ as.flatMap HA.l, y ≠ u) (hn : σ.H.next ≤ u) :
    ∃ w : FolkW, w.S = beg mm fi [] ∧ Mt (MF R g) ad ⟨setAt cs j (.w 60 [(18, .int mm)]), [], some w⟩ σ' := by
  have jl := at_len hj
  have hjl : at_ (setAt cs j (.inst 60 [(18, .v (.int mm)), (123, .v (.lst (as.map fun a => .ref a.r))), (124, .s cs.length)]) ++ [.list []]) j = some (.inst 60 [(18, .v (.int mm)), (123, .v (.lst (as.map fun a => .ref a.r))), (124, .s cs.length)]) := at_app (at_set hj)
  have le : ad.length = cs.length := m.len
  have hu' : (ad ++ [u])[cs.length]? = some u := by rw [← le, List.getElem?_append_right (Nat.le_refl _), Nat.sub_self]; rfl
  have x : Ext ad (ad ++ [u]) := ⟨_, rfl⟩
  have nw : ∀ a k fs fs', ¬ (MF R g).Is none a k fs fs' := fun a k fs fs' h => by
    obtain ⟨w, h, _⟩ := h
    cases h
  have lu : u < σ'.H.next := m'.lt _ _ hu'
  obtain ⟨F, f1, f2, f3⟩ := m.res
  obtain ⟨F', g1, g2, g3⟩ := m'.res
  have rx0 : ∀ y, R y → y < σ.H.next := fun y hy => f3 y ((f1.1 y).mpr hy)
  have rx1 : ∀ y, R y → y ∉ u :: as.flatMap HA.l := fun y hy z => by
    have := rx0 y hy
    rcases List.mem_cons.mp z with z | z
    · omega
    · have := M.ge y z; omega
  have rx2 : ∀ y, R y → σ'.H.get y = g y := g1.2
  have rx3 : ∀ y, R y → y < σ'.H.next := fun y hy => g3 y ((g1.1 y).mpr hy)
  have rx4 : ∀ (k b : Nat), ad[k]? = some b → ¬ R b := fun k b hb z => f2 k b hb ((f1.1 b).mpr z)
  refine ⟨⟨beg mm fi [], f, u, as⟩, rfl, ?_⟩
  refine ⟨?_, fun k b c hb hc => ?_, m.nd, fun k b hb => m'.lt k b (x.at_ hb), fun i sv h => (nomatch h), fun y => y ∈ u :: as.flatMap HA.l ∨ R y, ⟨⟨?_, ?_, fun k a h ha hh => ?_, ?_⟩, fun _ => Iff.rfl, fun y hy => ⟨rx1 y hy, rx2 y hy⟩⟩, fun k b hb z => z.elim (fun z => ?_) fun z => rx4 k b hb z, fun y hy => hy.elim (fun hy => ?_) (rx3 y)⟩
  · show _ = (setAt cs j _).length
    rw [setAt_len]; exact le
  · have hc : at_ (setAt cs j (.w 60 [(18, .int mm)])) k = some c := hc
    by_cases e : j = k
    · subst e
      rw [at_set hj] at hc
      cases hc
      cases Option.some.inj (hb.symm.trans hf)
      refine .mk _ (m'.instV hjl (x.at_ hf) (.cons rfl (.cons rfl (.cons (dn_at hu') .nil)))) (.w ⟨_, rfl, rfl, rfl, ?_, ?_⟩)
      · rw [beg_len]
      · show _ = [(18, V.int (beg mm fi []).hands.length), (123, .lst (as.map fun a => .ref a.r)), (124, .ref u)]
        rw [beg_len]
    · rw [at_ne e] at hc
      have hc' : at_ (setAt cs j (.inst 60 [(18, .v (.int mm)), (123, .v (.lst (as.map fun a => .ref a.r))), (124, .s cs.length)]) ++ [.list []]) k = some c := at_app (by rw [at_ne e]; exact hc)
      cases m.cell k b c hb hc with
      | dead => exact .dead
      | mk d g r =>
        cases m'.cell k b c (x.at_ hb) hc' with
        | dead => exact .dead
        | mk d' g' r' =>
          cases CR_un x r r' (nw b)
          refine .mk d g' ?_
          cases r with
          | list xs => exact .list xs
          | dict r => exact .dict r
          | inst r => exact .inst r
          | exc k => exact .exc k
          | w r => exact (nw _ _ _ _ r).elim
  · refine m'.list (xs := []) (j := cs.length) ?_ hu'
    show at_ (setAt cs j _ ++ [_]) cs.length = _
    rw [at_eq, List.getElem?_append_right (by rw [setAt_len]; exact Nat.le_refl _), setAt_len, Nat.sub_self]; rfl
  · show as.length = (beg mm fi []).hands.length
    rw [beg_len]; exact la
  · have hk : k < mm := by
      have ha : as[k]? = some a := ha
      rw [← la]; exact (List.getElem?_eq_some_iff.mp ha).1
    have hh : (beg mm fi []).hands[k]? = some h := hh
    rw [beg_at hk] at hh
    cases hh
    exact M.hand k a ha
  · exact List.nodup_cons.mpr ⟨fun z => hu u z rfl, M.nd⟩
  · have l := m.lt k b hb
    rcases List.mem_cons.mp z with z | z
    · omega
    · have := M.ge b z; omega
  · rcases List.mem_cons.mp hy with z | z
    · rw [z]; exact lu
    · exact M.lt y z
end Mine

end

section
set_option autoImplicit false
set_option linter.all false
set_option genSizeOf false
set_option genInjectivity false
namespace Mine
open PySem (Str)
theorem asg_h {K : CT} {E : EP} {σ : St} {f n : Nat} {v : V} {Q : St → Prop} {fs : List (Nat × V)} (l1 : σ.loc 108 = some (.ref f)) (g : σ.H.get f = some (.inst 60 fs)) (hn : [18, 123, 124].contains n = true) (hl : fs.length < 1000) (h : Q (σ.setH (σ.H.set f (.inst 60 (st fs n v))))) : asgn tb.P K E (.attr (.loc 108) n) v σ Q :=
  need_i l1 (need_i (congrArg cI g) (need_i rfl ⟨hn, hl, h⟩))
theorem Made.keep {lo : Nat} {H H' : Hp} {as : List HA} (M : Made lo H as) (e : ∀ y ∈ as.flatMap HA.l, H'.get y = H.get y) (l : H.next ≤ H'.next) : Made lo H' as :=
  ⟨fun k a ha => (M.hand k a ha).keep fun y hy => e y (List.mem_flatMap.mpr ⟨a, List.mem_of_getElem? ha, hy⟩), M.nd, M.ge, fun y hy => Nat.lt_of_lt_of_le (M.lt y hy) l⟩
theorem iV_len (l : List Int) : (iV l).length = l.length := List.length_map ..
theorem finit_ok {R : Nat → Prop} {g : Nat → Option C} {K : CT} (hI : ∀ (r : Nat) (k : Int) (H : Hp) (Q : V → Hp → Prop) (E : Nat → Hp → Prop), H.get r = some (.inst 59 []) → r < H.next → (∀ H' a, NewHand H r (hand0 k) a H' → Q .none H') → K 237 [.ref r, .int k] H Q E)
    (hC : CallOk (MF R g) (callX tb.P sp7 3) K) (hK : ∀ M : MEnv Unit, CallOk M (callX tb.P (spL []) 3) K)
    {ad : List Nat} {cs : List SC} {l0 : List (Nat × SV)} {σ : St} (m : Mt (MF R g) ad ⟨cs, l0, none⟩ σ) {j f : Nat} (hj : at_ cs j = some (.inst 60 [])) (hf : ad[j]? = some f) {a : SV} {v : V} (dv : dn ad a = some v) {fi : List Int} (hl : LstIn (⟨cs, [], none⟩ : Sy (Option FolkW)) a (iV fi)) {mm : Nat} (h1 : 1 ≤ mm) (h9 : mm ≤ 9) (hok : okL mm (iV fi) = true)
    {lo : Loc} (hlo : ∀ i sv, lk [(108, .s j), (18, .v (.int mm)), (122, a)] i = some sv → ∃ u, dn ad sv = some u ∧ lo i = some u) {Q : V → Hp → Prop} {E : EP}
    (h : ∀ (w : FolkW) (H' : Hp), w.S = beg mm fi fi → Mt (MF R g) ad ⟨setAt cs j (.w 60 [(18, .int mm)]), l0, some w⟩ (σ.setH H') → Q .none H') :
    wpSs tb.P K F_Folk___init__.body ⟨σ.H, lo⟩ (fun fl σ' => Q (retV fl) σ'.H) E := by
  have jl := at_len hj
  have le : ad.length = cs.length := m.len
  have er : ris mm (-1) (iV fi) = true := by
    cases fi with
    | nil => cases hok
    | cons x r => exact hok
  have hx : ∀ x ∈ fi, ∃ k : Nat, x = k ∧ k < mm := fun x hx => by
    have := ris_rng er x hx
    exact ⟨x.toNat, by omega, by omega⟩
  have hz : fi.length ≤ 100 := by have := ris_len er (by omega); omega
  have m0 : Mt (MF R g) ad ⟨cs, [(108, .s j), (18, .v (.int mm)), (122, a)], none⟩ ⟨σ.H, lo⟩ := m.withLoc hlo
  refine ss_x hC m0 ⟨cs, [(108, .s j), (18, .v (.int mm)), (122, a)], none⟩ ?_ fun ad₁ σ₁ x₁ m₁ => ?_
  · refine Br_i (fun c => ?_) (fun c => ?_)
    · exact absurd (of_decide_eq_true (p := (mm : Int) < 1) c) (by omega)
    refine Br_i (fun c => ?_) (fun c => ?_)
    · exact absurd (of_decide_eq_true (p := 9 < (mm : Int)) c) (by omega)
    exact ⟨rfl, rfl⟩
  cases x₁.same le m₁.len
  refine ss_x hC m₁ ⟨cs, [(108, .s j), (18, .v (.int mm)), (122, a)], none⟩ ?_ fun ad₂ σ₂ x₂ m₂ => ?_
  · refine IslR.lst (xs := iV fi) mm rfl ?_ (all_iV fi) ?_
    · cases hl with
      | v => exact .v _
      | s h => exact .s h
    · rw [hok]; exact ⟨rfl, rfl⟩
  cases x₂.same le m₂.len
  have l1 : σ₂.loc 108 = some (.ref f) := by
    obtain ⟨u, q1, q2⟩ := m₂.loc 108 (.s j) rfl
    rw [q2, ← q1]; exact dn_at hf
  have l2 : σ₂.loc 122 = some v := by
    obtain ⟨u, q1, q2⟩ := m₂.loc 122 a rfl
    rw [q2, ← q1]; exact dv
  have l3 : σ₂.loc 18 = some (.int mm) := by
    obtain ⟨u, q1, q2⟩ := m₂.loc 18 (.v (.int mm)) rfl
    rw [q2, ← q1]; rfl
  refine need_i l3 (asg_h (fs := []) l1 (m₂.instV hj hf .nil) rfl (by decide) ?_)
  have m₃ := m₂.setC hf (c' := .inst 60 [(18, .v (.int mm))]) (c := .inst 60 [(18, .int mm)]) (.inst (.cons rfl .nil))
  show wpSs tb.P K _ (σ₂.setH (σ₂.H.set f (.inst 60 [(18, .int mm)]))) _ _
  generalize hσ : σ₂.setH (σ₂.H.set f (.inst 60 [(18, .int mm)])) = σ₃ at m₃
  have l1 : σ₃.loc 108 = some (.ref f) := hσ ▸ l1
  have l2 : σ₃.loc 122 = some v := hσ ▸ l2
  have l3 : σ₃.loc 18 = some (.int mm) := hσ ▸ l3
  clear hσ
  have hj₃ : at_ (setAt cs j (.inst 60 [(18, .v (.int mm))])) j = some (.inst 60 [(18, .v (.int mm))]) := at_set hj
  have lf : f < σ₃.H.next := m₃.lt j f hf
  have g₃ : σ₃.H.get f = some (.inst 60 [(18, .int mm)]) := m₃.instV hj₃ hf (.cons rfl .nil)
  refine need_i l3 ⟨by show ((mm : Int)).natAbs ≤ 1048576; omega, ?_⟩
  refine made hI σ₃.H.next _ _ _ mm 0 [] ⟨σ₃.H, _⟩ _ _ (by rw [rngN_nat]; rfl) rfl (fun H => rfl) rfl (by omega) ⟨fun k a h => (nomatch h), .nil, fun y h => (nomatch h), fun y h => (nomatch h)⟩ (Nat.le_refl _) fun as σ₄ la M e4 n4 => ?_
  have e4 : ∀ x, x < σ₃.H.next → σ₄.H.get x = σ₃.H.get x := e4
  have n4 : σ₃.H.next ≤ σ₄.H.next := n4
  have la : as.length = mm := la.trans (Nat.zero_add mm)
  refine ⟨by rw [List.length_map, la]; exact Nat.le_trans h9 (by decide), ?_⟩
  show asgn tb.P K E (.attr (.loc 108) 123) _ ⟨σ₄.H, σ₃.loc⟩ _
  refine asg_h (σ := ⟨σ₄.H, σ₃.loc⟩) (fs := [(18, .int mm)]) l1 ((e4 f lf).trans g₃) rfl (by show 1 < 1000; decide) ?_
  have m₄ : Mt (MF R g) ad ⟨setAt cs j (.inst 60 [(18, .v (.int mm)), (123, .v (.lst (as.map fun a => .ref a.r)))]), [(108, .s j), (18, .v (.int mm)), (122, a)], none⟩ ⟨σ₄.H.set f (.inst 60 [(18, .int mm), (123, .lst (as.map fun a => .ref a.r))]), σ₃.loc⟩ := by
    have := (m₃.grow e4 n4).setC hf (c' := .inst 60 [(18, .v (.int mm)), (123, .v (.lst (as.map fun a => .ref a.r)))]) (c := .inst 60 [(18, .int mm), (123, .lst (as.map fun a => .ref a.r))]) (.inst (.cons rfl (.cons rfl .nil)))
    have e : setAt (setAt cs j (.inst 60 [(18, .v (.int mm))])) j (.inst 60 [(18, .v (.int mm)), (123, .v (.lst (as.map fun a => .ref a.r)))]) = _ := set2
    rw [← e]; exact this
  refine ⟨Nat.zero_le _, ?_⟩
  show asgn tb.P K E (.attr (.loc 108) 124) _ _ _
  refine asg_h (fs := [(18, .int mm), (123, .lst (as.map fun a => .ref a.r))]) l1 ?_ rfl (by show 2 < 1000; decide) ?_
  · show (if f = σ₄.H.next then _ else (if f = f then _ else _)) = _
    rw [if_neg (by omega), if_pos rfl]; rfl
  have m₅ : Mt (MF R g) (ad ++ [σ₄.H.next]) ⟨setAt (setAt cs j (.inst 60 [(18, .v (.int mm))])) j (.inst 60 [(18, .v (.int mm)), (123, .v (.lst (as.map fun a => .ref a.r))), (124, .s (setAt cs j (.inst 60 [(18, .v (.int mm))])).length)]) ++ [.list []], [(108, .s j), (18, .v (.int mm)), (122, a)], none⟩ ⟨((σ₄.H.set f (.inst 60 [(18, .int mm), (123, .lst (as.map fun a => .ref a.r))])).new (.list [])).set f (.inst 60 [(18, .int mm), (123, .lst (as.map fun a => .ref a.r)), (124, .ref σ₄.H.next)]), σ₃.loc⟩ := by
    have hd : dn (ad ++ [σ₄.H.next]) (.s (setAt cs j (.inst 60 [(18, .v (.int mm))])).length) = some (.ref σ₄.H.next) := dn_at (by rw [setAt_len, ← le, List.getElem?_append_right (Nat.le_refl _), Nat.sub_self]; rfl)
    have := (m₄.new (c' := .list []) (.list [])).setC (m₄.ext.at_ hf) (c' := .inst 60 [(18, .v (.int mm)), (123, .v (.lst (as.map fun a => .ref a.r))), (124, .s (setAt cs j (.inst 60 [(18, .v (.int mm))])).length)]) (c := .inst 60 [(18, .int mm), (123, .lst (as.map fun a => .ref a.r)), (124, .ref σ₄.H.next)]) (.inst (.cons rfl (.cons rfl (.cons hd .nil))))
    have e : setAt (setAt cs j (.inst 60 [(18, .v (.int mm)), (123, .v (.lst (as.map fun a => .ref a.r)))]) ++ [.list []]) j (.inst 60 [(18, .v (.int mm)), (123, .v (.lst (as.map fun a => .ref a.r))), (124, .s (setAt cs j (.inst 60 [(18, .v (.int mm))])).length)]) = setAt (setAt cs j (.inst 60 [(18, .v (.int mm))])) j (.inst 60 [(18, .v (.int mm)), (123, .v (.lst (as.map fun a => .ref a.r))), (124, .s (setAt cs j (.inst 60 [(18, .v (.int mm))])).length)]) ++ [.list []] := by
      rw [set_app (by rw [setAt_len]; exact jl), set2, set2]
    rw [← e]; exact this
  have lt5 : ∀ y ∈ as.flatMap HA.l, y < σ₄.H.next := M.lt
  obtain ⟨w, hS, m₆⟩ := to_world (fi := fi) m₃ hj₃ hf m₅ la (M.keep (fun y hy => by
    have q := M.ge y hy
    have q2 := lt5 y hy
    show (if y = f then _ else (if y = σ₄.H.next then _ else (if y = f then _ else _))) = _
    rw [if_neg (by omega), if_neg (by omega), if_neg (by omega)]) (Nat.le_succ _)) (fun y hy => Nat.ne_of_lt (lt5 y hy)) n4
  rw [set2] at m₆
  have hjw : at_ (setAt cs j (.w 60 [(18, .int mm)])) j = some (.w 60 [(18, .int mm)]) := at_set hj
  have hlw : ∀ o : Option FolkW, LstIn (⟨setAt cs j (.w 60 [(18, .int mm)]), [], o⟩ : Sy (Option FolkW)) a (iV fi) := fun o => by
    cases hl with
    | v => exact .v _
    | @s p _ hp =>
      refine .s (hp ▸ at_ne fun e => ?_)
      subst e
      cases hj.symm.trans hp
  refine need_i l2 (need_i (itemsS_ok m₆ dv ((hlw _).its [])) ?_)
  refine go_in hK hz hjw hf dv (hlw _) fi [] w _ m₆ hS l1 l2 hx fun w' σ' m' hS' => ?_
  exact h w' σ'.H hS' (m'.withLoc m.loc)
end Mine

end

section
set_option autoImplicit false
set_option linter.all false
set_option genSizeOf false
set_option genInjectivity false
namespace Mine
open PySem (Str)
/-- no count of hands -/
noncomputable def badN : V → Bool
  | .int i => cond (decide (i < 1)) true (decide (9 < i))
  | .none => true
  | .bool _ => true
  | .str _ => true
  | _ => false
noncomputable def Sy.withW {Ω : Type} (s : Sy Ω) (w : Ω) : Sy Ω := match s with
  | ⟨cs, l, _⟩ => ⟨cs, l, w⟩
inductive InitR (as : List SV) (s : Sy (Option FolkW)) (k : SV → Sy (Option FolkW) → Prop) (kx : Nat → Sy (Option FolkW) → Prop) : Prop
  | hand {j : Nat} {x : V} {a : SV} (he : as = [.s j, .v x, a]) (hx : badN x = true) (h : newS s (.exc 52) kx)
  | lst {j : Nat} {m : Int} {a : SV} {xs : List V} (he : as = [.s j, .v (.int m), a]) (hm : badN (.int m) = false) (hl : LstIn s a xs) (hx : xs.all isIB = true) (ho : okL m xs = false) (h : newS s (.exc 53) kx)
  | no {j : Nat} {m : Int} {x : V} (he : as = [.s j, .v (.int m), .v x]) (hm : badN (.int m) = false) (hx : noLst x = true) (h : newS s (.exc 53) kx)
  | ok {j mm : Nat} {a : SV} {fi : List Int} (he : as = [.s j, .v (.int mm), a]) (hw : s.w = none) (hj : at_ s.cs j = some (.inst 60 [])) (hl : LstIn s a (iV fi)) (h1 : 1 ≤ mm) (h9 : mm ≤ 9) (ho : okL mm (iV fi) = true) (h : ∀ w : FolkW, w.S = beg mm fi fi → setS s j (.w 60 [(18, .int mm)]) fun s' => k (.v .none) (s'.withW (some w)))
theorem CW_s {P : Prog} {n f : Nat} {as : List V} {H : Hp} {Q : V → Hp → Prop} {E : Nat → Hp → Prop} (h : need (P.fn f) fun d => need (bindP d.params as fun _ => none) fun m => wpSs P (CW P n) d.body ⟨H, m⟩ (fun fl σ => Q (retV fl) σ.H) fun e σ => E e σ.H) : CW P (n + 1) f as H Q E := h
theorem badN_e {m : Int} (h : badN (.int m) = false) : decide (m < 1) = false ∧ decide (9 < m) = false := cond_e h (fun _ z => nomatch z) fun e z => ⟨e, z⟩
theorem init_e {R : Nat → Prop} {g : Nat → Option C} : EnOk (MF R g) tb.P 243 4 InitR := fun n f as s k kx ad σ vs Q E q m d hk hx => by
  obtain ⟨rfl, q⟩ := q
  cases q with
  | @hand j x a he hb h =>
    refine callX_ok sp7_ok n 4 243 as s k kx ad σ vs Q E ?_ m d hk hx
    subst he
    cases x with
    | int i =>
      refine Br_i (fun c => ?_) (fun c => ?_)
      · exact h
      have hb : cond (decide (i < 1)) true (decide (9 < i)) = true := hb
      rw [show decide (i < 1) = false from c] at hb
      refine Br_i (fun c => h) (fun c => ?_)
      cases hb.symm.trans c
    | none => exact h
    | bool _ => exact h
    | str _ => exact h
    | _ => cases hb
  | @lst j i a xs he hm hl hb ho h =>
    refine callX_ok sp7_ok n 4 243 as s k kx ad σ vs Q E ?_ m d hk hx
    subst he
    obtain ⟨e1, e2⟩ := badN_e hm
    refine Br_i (fun c => nomatch e1.symm.trans c) (fun c => ?_)
    refine Br_i (fun c => nomatch e2.symm.trans c) (fun c => ?_)
    refine IslR.lst (xs := xs) i rfl ?_ hb ?_
    · cases hl with
      | v => exact .v _
      | s h => exact .s h
    · rw [ho]; exact h
  | @no j i x he hm hb h =>
    refine callX_ok sp7_ok n 4 243 as s k kx ad σ vs Q E ?_ m d hk hx
    subst he
    obtain ⟨e1, e2⟩ := badN_e hm
    refine Br_i (fun c => nomatch e1.symm.trans c) (fun c => ?_)
    refine Br_i (fun c => nomatch e2.symm.trans c) (fun c => ?_)
    refine IslR.no x i rfl hb ?_
    exact h
  | @ok j mm a fi he hw hj hl h1 h9 ho h =>
    subst he
    obtain ⟨cs, l0, w0⟩ := s
    cases hw
    rw [Nat.add_comm]
    cases d with
    | cons d1 d =>
    cases d with
    | cons d2 d =>
    cases d with
    | cons d3 d =>
    cases d with
    | nil =>
    obtain ⟨f, hf, rfl⟩ := mR_e d1
    cases d2
    obtain ⟨lo, q1, q2⟩ := bindP_ok (ps := [108, 18, 122]) (l := []) (lo := fun _ => none) (.cons d1 (.cons (a := .v (.int mm)) rfl (.cons d3 .nil))) rfl fun i sv q => (nomatch q)
    refine CW_s (n := n + 3) ?_
    refine need_i (a := F_Folk___init__) rfl (need_i q1 ?_)
    refine finit_ok (K := CW tb.P (n + 3)) (fun r k H Q E h1 h2 h3 => hinit_w (n + 1) r k H Q E h1 h2 h3) (Nat.add_comm 3 n ▸ callX_ok sp7_ok n 3) (fun M => Nat.add_comm 3 n ▸ callX_ok SpOk.nil n 3) m hj hf d3 ?_ h1 h9 ho q2 fun w H' hS m' => ?_
    · cases hl with
      | v => exact .v _
      | s h => exact .s h
    · exact hk (.v .none) _ ad (σ.setH H') _ (.refl _) m' rfl (setS_ok (h w hS)) rfl
end Mine

end

section
set_option autoImplicit false
set_option linter.all false
set_option genSizeOf false
set_option genInjectivity false
namespace Mine
open PySem (Str)
/-- no hand of so many -/
noncomputable def badH (m : Int) : V → Bool
  | .int i => cond (decide (i < 0)) true (decide (m ≤ i))
  | .none => true
  | .bool _ => true
  | .str _ => true
  | _ => false
section
variable {Ω : Type} {M : MEnv Ω}
inductive HofR (as : List SV) (s : Sy Ω) (k : SV → Sy Ω → Prop) (kx : Nat → Sy Ω → Prop) : Prop
  | ok {i : Nat} {m : Int} {hs : List SA} {r : List SC} {l : List (Nat × SV)} {w : Ω} (he : as = [.s 0, .v (.int i)]) (es : s = ⟨folkC m hs :: r, l, w⟩) (hi : (i : Int) < m) (hh : hs[i]? = some (.s 2)) (h : k (.s 2) s)
  | bad {x : V} {m : Int} {hs : List SA} {r : List SC} {l : List (Nat × SV)} {w : Ω} (he : as = [.s 0, .v x]) (es : s = ⟨folkC m hs :: r, l, w⟩) (hx : badH m x = true) (h : newS s (.exc 52) kx)
theorem hof_e : EnOk M tb.P 244 2 HofR := EnOk.run SpOk.nil fun as s k kx q => by
  cases q with
  | @ok i m hs r l w he es hi hh h =>
    subst he es
    refine Br_i (fun c => absurd (of_decide_eq_true (p := m ≤ (i : Int)) c) (by omega)) (fun c => ?_)
    refine need_i (pyIdx_nat (List.getElem?_eq_some_iff.mp hh).1) (need_i hh ?_)
    exact h
  | @bad x m hs r l w he es hx h =>
    subst he es
    cases x with
    | int i =>
      refine Br_i (fun c => h) (fun c => ?_)
      have hx : cond (decide (i < 0)) true (decide (m ≤ i)) = true := hx
      rw [show decide (i < 0) = false from c] at hx
      refine Br_i (fun c => h) (fun c => ?_)
      cases hx.symm.trans c
    | none => exact h
    | bool _ => exact h
    | str _ => exact h
    | _ => cases hx
theorem comp_nil {a : SV} {turn : V → Sy Ω → (Bool → Sy Ω → Prop) → Prop} {elt : Sy Ω → (SV → Sy Ω → Prop) → Prop} {s : Sy Ω} {k : List V → Sy Ω → Prop} (h1 : itemsS s a = some []) (h : k [] s) : CompX a [] turn elt [] s k :=
  .mk (fun r acc s' => r = [] ∧ acc = [] ∧ s' = s) ⟨rfl, rfl, rfl⟩ ⟨fun r acc s' i => by rw [i.2.2]; exact h1, fun r acc s' i => by rw [i.1, i.2.1]; exact Nat.zero_le _, fun acc s' i => by rw [i.2.1, i.2.2]; exact h, fun x r acc s' i => nomatch i.1⟩
noncomputable def spH : Spc Ω := spL [(244, 2, HofR)]
theorem spH_ok : SpOk M tb.P spH := .cons hof_e .nil
end
/-- what a hand of the beginning answers -/
noncomputable def askR (fi : List Int) : Nat → RV
  | 264 => .tup (.int 0) (iV fi)
  | 265 => .new []
  | 266 => .v (.bool false)
  | 267 => .new []
  | 268 => .new []
  | _ => .v (.bool true)
section
variable {len : Int} {as : List HA} {k : Nat} (hk : k < as.length) (hl : (as.length : Int) = len) {U : List Letter}
include hk hl
theorem ask1 {kx : Nat → Sy Unit → Prop} {fi : List Int} (hz : fi.length ≤ 100) (f : Nat) (hf : f ∈ [263, 264, 265, 266, 267, 268]) : callX tb.P spH 4 f [.s 0, .v (.int k)] ⟨fcs len (hsA k 0 as) U (hcs (hand1 k fi) ++ exC none), [], ()⟩ (FinV len (hsA k 0 as) none (hand1 k fi) fun rv h' U' => rv = askR fi f ∧ h' = hand1 k fi ∧ U' = U) kx := by
  have hk' : (hsA k 0 as)[k]? = some (.s 2) := hsA_at (Nat.zero_add k) hk
  have hi : (k : Int) < len := by omega
  have hz' : (iV fi).length ≤ SZ := by rw [iV_len]; unfold SZ; omega
  simp only [List.mem_cons, List.not_mem_nil, or_false] at hf
  have fin : ∀ t, FinOk len (hsA k 0 as) 6 none (hand1 k fi) U (fcs len (hsA k 0 as) U (hcs (hand1 k fi) ++ t)) ⟨2, 3, 4, 5, none⟩ (.v .none) := fun t => ⟨rfl, rfl, ⟨rfl, rfl, rfl, rfl, .none⟩, by decide, rfl, .none⟩
  rcases hf with rfl | rfl | rfl | rfl | rfl | rfl
  · refine HofR.ok rfl rfl hi hk' ?_
    exact .mk (fin []) (.v _) ⟨rfl, rfl, rfl⟩
  · refine HofR.ok rfl rfl hi hk' ?_
    refine ⟨hz', ?_⟩
    exact .mk (fin [_]) (.tup _ rfl ⟨Nat.le_refl _, by decide⟩) ⟨rfl, rfl, rfl⟩
  · refine HofR.ok rfl rfl hi hk' ?_
    refine ⟨rfl, rfl, Nat.zero_le _, ?_⟩
    refine ⟨Nat.zero_le _, ?_⟩
    exact .mk (fin [_]) (.new rfl ⟨Nat.le_refl _, by decide⟩) ⟨rfl, rfl, rfl⟩
  · refine HofR.ok rfl rfl hi hk' ?_
    exact .mk (fin []) (.v _) ⟨rfl, rfl, rfl⟩
  · refine HofR.ok rfl rfl hi hk' ?_
    refine ⟨Nat.zero_le _, ?_⟩
    exact .mk (fin [_]) (.new rfl ⟨Nat.le_refl _, by decide⟩) ⟨rfl, rfl, rfl⟩
  · refine HofR.ok rfl rfl hi hk' ?_
    refine comp_nil rfl ?_
    refine ⟨Nat.zero_le _, ?_⟩
    exact .mk (fin [_]) (.new rfl ⟨Nat.le_refl _, by decide⟩) ⟨rfl, rfl, rfl⟩
theorem ask0 {kx : Nat → Sy Unit → Prop} {fi : List Int} (f : Nat) (hf : f ∈ [263, 268]) : callX tb.P spH 4 f [.s 0, .v (.int k)] ⟨fcs len (hsA k 0 as) U (hcs (hand0 k) ++ exC none), [], ()⟩ (FinV len (hsA k 0 as) none (hand0 k) fun rv h' U' => rv = askR fi f ∧ h' = hand0 k ∧ U' = U) kx := by
  have hk' : (hsA k 0 as)[k]? = some (.s 2) := hsA_at (Nat.zero_add k) hk
  have hi : (k : Int) < len := by omega
  simp only [List.mem_cons, List.not_mem_nil, or_false] at hf
  have fin : ∀ t, FinOk len (hsA k 0 as) 6 none (hand0 k) U (fcs len (hsA k 0 as) U (hcs (hand0 k) ++ t)) ⟨2, 3, 4, 5, none⟩ (.v .none) := fun t => ⟨rfl, rfl, ⟨rfl, rfl, rfl, rfl, .none⟩, by decide, rfl, .none⟩
  rcases hf with rfl | rfl
  · refine HofR.ok rfl rfl hi hk' ?_
    exact .mk (fin []) (.v _) ⟨rfl, rfl, rfl⟩
  · refine HofR.ok rfl rfl hi hk' ?_
    refine comp_nil rfl ?_
    refine ⟨Nat.zero_le _, ?_⟩
    exact .mk (fin [_]) (.new rfl ⟨Nat.le_refl _, by decide⟩) ⟨rfl, rfl, rfl⟩
theorem ask56 (f : Nat) (hf : f ∈ [264, 265, 266, 267]) : callX tb.P spH 4 f [.s 0, .v (.int k)] ⟨fcs len (hsA k 0 as) U (hcs (hand0 k) ++ exC none), [], ()⟩ (FinV len (hsA k 0 as) none (hand0 k) fun _ _ _ => False) (FinX len (hsA k 0 as) none (hand0 k) U fun c => c = 56) := by
  have hk' : (hsA k 0 as)[k]? = some (.s 2) := hsA_at (Nat.zero_add k) hk
  have hi : (k : Int) < len := by omega
  simp only [List.mem_cons, List.not_mem_nil, or_false] at hf
  have fin : ∀ t, FinOk len (hsA k 0 as) 6 none (hand0 k) U (fcs len (hsA k 0 as) U (hcs (hand0 k) ++ t)) ⟨2, 3, 4, 5, none⟩ (.v .none) := fun t => ⟨rfl, rfl, ⟨rfl, rfl, rfl, rfl, .none⟩, by decide, rfl, .none⟩
  rcases hf with rfl | rfl | rfl | rfl
  all_goals
    refine HofR.ok rfl rfl hi hk' ?_
    exact .mk (fin [_]) rfl ⟨Nat.le_refl _, by decide⟩ rfl
theorem ask52 {h : HandS} (ho : h.offer = none) {x : V} (hx : badH len x = true) (f : Nat) (hf : f ∈ [263, 264, 265, 266, 267, 268]) : callX tb.P spH 4 f [.s 0, .v x] ⟨fcs len (hsA k 0 as) U (hcs h ++ exC none), [], ()⟩ (FinV len (hsA k 0 as) none h fun _ _ _ => False) (FinX len (hsA k 0 as) none h U fun c => c = 52) := by
  have eh : hcs h = [handC h 3 4 5 (.v .none), gnC h, .list (mV h.row), .dict (svs (hoV h.holds))] := by unfold hcs; rw [ho]
  have fin : ∀ t, FinOk len (hsA k 0 as) 6 none h U (fcs len (hsA k 0 as) U ([handC h 3 4 5 (.v .none), gnC h, .list (mV h.row), .dict (svs (hoV h.holds))] ++ t)) ⟨2, 3, 4, 5, none⟩ (.v .none) := fun t => ⟨rfl, rfl, ⟨rfl, rfl, rfl, rfl, ho ▸ .none⟩, by decide, rfl, .none⟩
  have fx : ∀ e s, FinOk len (hsA k 0 as) 6 none h U s.cs ⟨2, 3, 4, 5, none⟩ (.v .none) → at_ s.cs e = some (.exc 52) → e = 6 → FinX len (hsA k 0 as) none h U (fun c => c = 52) e s := fun e s f1 f2 f3 => .mk (by rw [eh]; exact f1) f2 ⟨by rw [eh, f3]; exact Nat.le_refl _, by rw [f3]; decide⟩ rfl
  rw [eh]
  simp only [List.mem_cons, List.not_mem_nil, or_false] at hf
  rcases hf with rfl | rfl | rfl | rfl | rfl | rfl
  all_goals
    refine HofR.bad rfl rfl hx ?_
    exact fx _ _ (fin [_]) rfl rfl
end
end Mine

end

section
set_option autoImplicit false
set_option linter.all false
set_option genSizeOf false
set_option genInjectivity false
namespace Mine
open PySem (Str)
/-- the folk of the beginning at a slot -/
structure BegAt (s : Sy (Option FolkW)) (j mm : Nat) (fi : List Int) (w : FolkW) : Prop where
  hw : s.w = some w
  hj : ∃ fs, at_ s.cs j = some (.w 60 fs)
  hS : w.S = beg mm fi fi
  pos : 0 < mm
  hz : fi.length ≤ 100
inductive AskR (f : Nat) (as : List SV) (s : Sy (Option FolkW)) (k : SV → Sy (Option FolkW) → Prop) (kx : Nat → Sy (Option FolkW) → Prop) : Prop
  | mem {j i mm : Nat} {fi : List Int} {w : FolkW} (he : as = [.s j, .v (.int i)]) (B : BegAt s j mm fi w) (hi : i < mm) (hc : fi.contains (i : Int) = true) (h : ∀ w' : FolkW, w'.S = beg mm fi fi → giveR (askR fi f) (s.withW (some w')) k)
  | out {j i mm : Nat} {fi : List Int} {w : FolkW} (he : as = [.s j, .v (.int i)]) (B : BegAt s j mm fi w) (hi : i < mm) (hc : fi.contains (i : Int) = false) (hf : f ∈ [263, 268]) (h : ∀ w' : FolkW, w'.S = beg mm fi fi → giveR (askR fi f) (s.withW (some w')) k)
  | no {j i mm : Nat} {fi : List Int} {w : FolkW} (he : as = [.s j, .v (.int i)]) (B : BegAt s j mm fi w) (hi : i < mm) (hc : fi.contains (i : Int) = false) (hf : f ∈ [264, 265, 266, 267]) (h : ∀ w' : FolkW, w'.S = beg mm fi fi → newS (s.withW (some w')) (.exc 56) kx)
  | bad {j mm : Nat} {x : V} {fi : List Int} {w : FolkW} (he : as = [.s j, .v x]) (B : BegAt s j mm fi w) (hx : badH mm x = true) (h : ∀ w' : FolkW, w'.S = beg mm fi fi → newS (s.withW (some w')) (.exc 52) kx)
theorem beg_set {mm i : Nat} {fi : List Int} {h : HandS} {U : List Letter} (hh : (beg mm fi fi).hands[i]? = some h) (hU : U = []) : (⟨(beg mm fi fi).hands.set i h, U⟩ : FolkS) = beg mm fi fi := by rw [set_same hh, hU]; rfl
theorem dnl1 {ad : List Nat} {a : SV} {vs : List V} {G : List V → Prop} (d : DnL ad [a] vs) (g : ∀ x, dn ad a = some x → G [x]) : G vs := by
  cases d with | cons d1 d => cases d; exact g _ d1
theorem dnl2 {ad : List Nat} {a b : SV} {vs : List V} {G : List V → Prop} (d : DnL ad [a, b] vs) (g : ∀ x y, dn ad a = some x → dn ad b = some y → G [x, y]) : G vs := by
  cases d with | cons d1 d => exact dnl1 (G := fun r => G (_ :: r)) d fun y d2 => g _ y d1 d2
theorem dnl3 {ad : List Nat} {a b c : SV} {vs : List V} {G : List V → Prop} (d : DnL ad [a, b, c] vs) (g : ∀ x y z, dn ad a = some x → dn ad b = some y → dn ad c = some z → G [x, y, z]) : G vs := by
  cases d with | cons d1 d => exact dnl2 (G := fun r => G (_ :: r)) d fun y z d2 d3 => g _ y z d1 d2 d3
/-- the folk and one thing -/
theorem dnf {ad : List Nat} {j f : Nat} {x : V} {vs : List V} {G : List V → Prop} (h : ad[j]? = some f) (d : DnL ad [.s j, .v x] vs) (g : G [.ref f, x]) : G vs := dnl2 d fun a b d1 d2 => by
  cases d1.symm.trans (dn_at h)
  cases d2
  exact g
theorem dnf2 {ad : List Nat} {j f : Nat} {x y : V} {vs : List V} {G : List V → Prop} (h : ad[j]? = some f) (d : DnL ad [.s j, .v x, .v y] vs) (g : G [.ref f, x, y]) : G vs := dnl3 d fun a b c d1 d2 d3 => by
  cases d1.symm.trans (dn_at h)
  cases d2
  cases d3
  exact g
theorem foc_beg {R : Nat → Prop} {g : Nat → Option C} {s : Sy (Option FolkW)} {j mm i : Nat} {fi : List Int} {w : FolkW} (B : BegAt s j mm fi w) {ad : List Nat} {σ : St} (m : Mt (MF R g) ad s σ) (hi : i < mm) : ∃ a, w.as[i]? = some a ∧ i < w.as.length ∧ (w.as.length : Int) = mm ∧ w.S.hands[i]? = some (cond (fi.contains (i : Int)) (hand1 i fi) (hand0 i)) ∧ (w.S.hands.length : Int) = mm := m.rep B.hw fun RW _ _ => by
  have e : w.as.length = mm := by rw [RW.len, B.hS, beg_len]
  have l : i < w.as.length := by omega
  exact ⟨_, List.getElem?_eq_getElem l, l, by omega, by rw [B.hS]; exact beg_at hi, by rw [← RW.len, e]⟩
theorem dn_folk {R : Nat → Prop} {g : Nat → Option C} {s : Sy (Option FolkW)} {j mm : Nat} {fi : List Int} {w : FolkW} (B : BegAt s j mm fi w) {ad : List Nat} {σ : St} (m : Mt (MF R g) ad s σ) : ad[j]? = some w.f := B.hj.elim fun fs h => (m.folk B.hw h).1
theorem ask_e {R : Nat → Prop} {g : Nat → Option C} (f : Nat) (hf : f ∈ [263, 264, 265, 266, 267, 268]) : EnOk (MF R g) tb.P f 4 (AskR f) := fun n f' as s k kx ad σ vs Q E q m d hk hx => by
  obtain ⟨rfl, q⟩ := q
  obtain ⟨cs, l0, w0⟩ := s
  cases q with
  | @mem j i mm fi w he B hi hc h =>
    subst he
    obtain ⟨a, ha, hl, e1, hh, e2⟩ := foc_beg B m hi
    obtain ⟨fs, hj⟩ := B.hj
    rw [hc] at hh
    refine dnf (G := fun vs => CW tb.P (4 + n) f' vs σ.H Q E) (dn_folk B m) d ?_
    refine meth_foc m B.hw hj ha hh .none (fun _ => spH_ok) n (as := [.v (.int i)]) (.cons rfl .nil) (Z := fun _ => False) (ask1 (U := w.S.under) hl (e1.trans e2.symm) B.hz _ hf) (fun rv h' U' G w' hS => ?_) (fun c z => z.elim) hk hx
    obtain ⟨rfl, rfl, rfl⟩ := G
    refine h w' (hS.trans ?_)
    rw [B.hS] at hh ⊢
    exact beg_set hh rfl
  | @out j i mm fi w he B hi hc hf' h =>
    subst he
    obtain ⟨a, ha, hl, e1, hh, e2⟩ := foc_beg B m hi
    obtain ⟨fs, hj⟩ := B.hj
    rw [hc] at hh
    refine dnf (G := fun vs => CW tb.P (4 + n) f' vs σ.H Q E) (dn_folk B m) d ?_
    refine meth_foc m B.hw hj ha hh .none (fun _ => spH_ok) n (as := [.v (.int i)]) (.cons rfl .nil) (Z := fun _ => False) (ask0 (U := w.S.under) hl (e1.trans e2.symm) (fi := fi) _ hf') (fun rv h' U' G w' hS => ?_) (fun c z => z.elim) hk hx
    obtain ⟨rfl, rfl, rfl⟩ := G
    refine h w' (hS.trans ?_)
    rw [B.hS] at hh ⊢
    exact beg_set hh rfl
  | @no j i mm fi w he B hi hc hf' h =>
    subst he
    obtain ⟨a, ha, hl, e1, hh, e2⟩ := foc_beg B m hi
    obtain ⟨fs, hj⟩ := B.hj
    rw [hc] at hh
    refine dnf (G := fun vs => CW tb.P (4 + n) f' vs σ.H Q E) (dn_folk B m) d ?_
    refine meth_foc m B.hw hj ha hh .none (fun _ => spH_ok) n (as := [.v (.int i)]) (.cons rfl .nil) (G := fun _ _ _ => False) (ask56 (U := w.S.under) hl (e1.trans e2.symm) _ hf') (fun rv h' U' G w' hS => G.elim) (fun c z w' hS => ?_) hk hx
    subst z
    exact newS_ok (h w' (hS.trans B.hS))
  | @bad j mm x fi w he B hb h =>
    subst he
    obtain ⟨a, ha, hl, e1, hh, e2⟩ := foc_beg B m B.pos
    obtain ⟨fs, hj⟩ := B.hj
    refine dnf (G := fun vs => CW tb.P (4 + n) f' vs σ.H Q E) (dn_folk B m) d ?_
    refine meth_foc m B.hw hj ha hh .none (fun _ => spH_ok) n (as := [.v _]) (.cons rfl .nil) (G := fun _ _ _ => False) (ask52 (U := w.S.under) hl (e1.trans e2.symm) ?_ (by rw [e2]; exact hb) _ hf) (fun rv h' U' G w' hS => G.elim) (fun c z w' hS => ?_) hk hx
    · cases fi.contains ((0 : Nat) : Int) <;> rfl
    · subst z
      exact newS_ok (h w' (hS.trans B.hS))
inductive LetR (as : List SV) (s : Sy (Option FolkW)) (k : SV → Sy (Option FolkW) → Prop) (kx : Nat → Sy (Option FolkW) → Prop) : Prop
  | mk {j mm : Nat} {fi : List Int} {w : FolkW} (he : as = [.s j]) (B : BegAt s j mm fi w) (h : ∀ w' : FolkW, w'.S = beg mm fi fi → giveR (.new []) (s.withW (some w')) k)
theorem letters_e {R : Nat → Prop} {g : Nat → Option C} : EnOk (MF R g) tb.P 262 1 LetR := fun n f' as s k kx ad σ vs Q E q m d hk hx => by
  obtain ⟨rfl, q⟩ := q
  obtain ⟨cs, l0, w0⟩ := s
  obtain ⟨rfl, B, h⟩ := q
  rename_i j mm fi w
  obtain ⟨a, ha, hl, e1, hh, e2⟩ := foc_beg B m B.pos
  obtain ⟨fs, hj⟩ := B.hj
  refine dnl1 (G := fun vs => CW tb.P (1 + n) 262 vs σ.H Q E) d fun x d1 => ?_
  cases d1.symm.trans (dn_at (dn_folk B m))
  have hu : w.S.under = [] := by rw [B.hS]; rfl
  refine meth_foc m B.hw hj ha hh .none (fun _ => SpOk.nil) n (as := []) .nil (Z := fun _ => False) (G := fun rv h' U' => rv = .new [] ∧ h' = cond (fi.contains ((0 : Nat) : Int)) (hand1 (0 : Nat) fi) (hand0 (0 : Nat)) ∧ U' = []) ?_ (fun rv h' U' G w' hS => ?_) (fun c z => z.elim) hk hx
  · rw [hu]
    cases fi.contains ((0 : Nat) : Int)
    · refine comp_nil rfl ?_
      refine ⟨Nat.zero_le _, ?_⟩
      exact .mk (js := ⟨2, 3, 4, 5, none⟩) (o := .v .none) ⟨rfl, rfl, ⟨rfl, rfl, rfl, rfl, .none⟩, by decide, rfl, .none⟩ (.new rfl ⟨Nat.le_refl _, by decide⟩) ⟨rfl, rfl, rfl⟩
    · refine comp_nil rfl ?_
      refine ⟨Nat.zero_le _, ?_⟩
      exact .mk (js := ⟨2, 3, 4, 5, none⟩) (o := .v .none) ⟨rfl, rfl, ⟨rfl, rfl, rfl, rfl, .none⟩, by decide, rfl, .none⟩ (.new rfl ⟨Nat.le_refl _, by decide⟩) ⟨rfl, rfl, rfl⟩
  · obtain ⟨rfl, rfl, rfl⟩ := G
    refine h w' (hS.trans ?_)
    rw [B.hS] at hh ⊢
    exact beg_set hh rfl
end Mine

end

section
set_option autoImplicit false
set_option linter.all false
set_option genSizeOf false
set_option genInjectivity false
namespace Mine
open PySem (Str)
/-! A def of the law's is run on the folk alone. -/
inductive ResW (cs : List SC) : SV → RV → Prop
  | v (x : V) : ResW cs (.v x) (.v x)
  | new {n : Nat} {xs : List V} : at_ cs (n + 1) = some (.list xs) → ResW cs (.s (n + 1)) (.new xs)
  | tup {n : Nat} {xs : List V} (x : V) : at_ cs (n + 1) = some (.list xs) → ResW cs (.t [.v x, .s (n + 1)]) (.tup x xs)
inductive FinW (fs : List (Nat × V)) (G : RV → FolkW → Prop) (r : SV) (s : Sy (Option FolkW)) : Prop
  | mk {rv : RV} {w : FolkW} {t : List SC} {l : List (Nat × SV)} (es : s = ⟨.w 60 fs :: t, l, some w⟩) (res : ResW s.cs r rv) (g : G rv w)
section
variable {R : Nat → Prop} {g : Nat → Option C} {ad : List Nat} {cs : List SC} {l0 : List (Nat × SV)} {σ : St} {w : FolkW} (m : Mt (MF R g) ad ⟨cs, l0, some w⟩ σ) {j : Nat} {fs : List (Nat × V)} (hj : at_ cs j = some (.w 60 fs))
/-- all but the folk -/
noncomputable def RestW (w : FolkW) (H : Hp) (x : Nat) : Prop := x < H.next ∧ x ∉ w.l ∧ x ≠ w.f
include m hj
theorem wrl_mt (lo : Loc) : Mt (MF (RestW w σ.H) σ.H.get) [w.f] ⟨[.w 60 fs], [], some w⟩ ⟨σ.H, lo⟩ := m.rep rfl fun RW lt out => by
  have fj := (m.folk rfl hj).1
  refine ⟨rfl, fun k b c hb hc => ?_, fun i k b hi hk => ?_, fun k b hb => ?_, fun i sv h => (nomatch h), fun x => x ∈ w.l ∨ RestW w σ.H x, ⟨RW, fun _ => Iff.rfl, fun x hx => ⟨hx.2.1, rfl⟩⟩, fun k b hb z => ?_, fun x hx => hx.elim (lt x) fun z => z.1⟩
  · cases k with
    | zero =>
      cases hb; cases hc
      cases m.cell j _ _ fj hj with
      | mk d g r => cases r with | w r => exact .mk _ g (.w r)
    | succ k => cases hb
  · cases i with
    | zero =>
      cases k with
      | zero => rfl
      | succ k => cases hk
    | succ i => cases hi
  · cases k with
    | zero => cases hb; exact m.lt j _ fj
    | succ k => cases hb
  · cases k with
    | zero => cases hb; exact z.elim (out j _ fj) fun z => z.2.2 rfl
    | succ k => cases hb
variable {ad₁ : List Nat} {t : List SC} {l₁ : List (Nat × SV)} {w' : FolkW} {σ₁ : St} (x : Ext [w.f] ad₁) (m₁ : Mt (MF (RestW w σ.H) σ.H.get) ad₁ ⟨.w 60 fs :: t, l₁, some w'⟩ σ₁)
include x m₁
theorem wrl_R {b : Nat} (h : (∃ k : Nat, ad[k]? = some b ∧ b ≠ w.f) ∨ R b) : RestW w σ.H b := m.rep rfl fun RW lt out => by
  rcases h with ⟨k, hk, ne⟩ | h
  · exact ⟨m.lt k b hk, out k b hk, ne⟩
  · obtain ⟨q1, q2, q3, q4⟩ := m.rx rfl h
    exact ⟨q3, q1, fun z => q4 j (z ▸ (m.folk rfl hj).1)⟩
theorem wrl_f : w'.f = w.f := Option.some.inj ((m₁.folk (j := 0) rfl rfl).1.symm.trans (x.at_ rfl))
theorem wrl_back : Mt (MF R g) ad ⟨cs, l0, some w'⟩ (σ.setH σ₁.H) := m₁.rep rfl fun RW lt out => by
  have ef := wrl_f m hj x m₁
  have e0 : ad₁[0]? = some w.f := x.at_ rfl
  have rr : ∀ {b : Nat}, ((∃ k : Nat, ad[k]? = some b ∧ b ≠ w.f) ∨ R b) → b ∉ w'.l ∧ σ₁.H.get b = σ.H.get b ∧ b < σ₁.H.next := fun {b} h => by
    obtain ⟨q1, q2, q3, q4⟩ := m₁.rx rfl (wrl_R m hj x m₁ h)
    exact ⟨q1, q2, q3⟩
  refine ⟨m.len, fun k b c hb hc => ?_, m.nd, fun k b hb => ?_, m.loc, fun y => y ∈ w'.l ∨ R y, ⟨RW, fun _ => Iff.rfl, fun y hy => ⟨(rr (.inr hy)).1, (rr (.inr hy)).2.1.trans (m.rx rfl hy).2.1⟩⟩, fun k b hb z => ?_, fun y hy => hy.elim (lt y) fun z => (rr (.inr z)).2.2⟩
  · by_cases e : b = w.f
    · subst e
      have := m.nd k j _ hb (m.folk rfl hj).1
      subst this
      cases hc.symm.trans hj
      cases m₁.cell 0 _ _ e0 rfl with
      | mk d g r => cases r with | w r => exact .mk _ g (.w r)
    · have q := (rr (.inl ⟨k, hb, e⟩)).2.1
      cases m.cell k b c hb hc with
      | dead => exact .dead
      | mk d g r =>
        cases r with
        | list xs => exact .mk _ (q.trans g) (.list xs)
        | dict r => exact .mk _ (q.trans g) (.dict r)
        | inst r => exact .mk _ (q.trans g) (.inst r)
        | exc n => exact .mk _ (q.trans g) (.exc n)
        | w r =>
          obtain ⟨w₂, ho, q1, _⟩ := r
          cases ho
          exact absurd q1 e
  · by_cases e : b = w.f
    · exact e ▸ m₁.lt 0 _ e0
    · exact (rr (.inl ⟨k, hb, e⟩)).2.2
  · rcases z with z | z
    · by_cases e : b = w.f
      · exact out 0 _ e0 (e ▸ z)
      · exact (rr (.inl ⟨k, hb, e⟩)).1 z
    · exact (m.rx rfl z).2.2.2 k hb
theorem wrl_add {n b : Nat} {c : SC} (hb : ad₁[n + 1]? = some b) (hc : ∀ ad', CA ((MF R g).Is (some w')) ad' σ₁.H b c) : Mt (MF R g) (ad ++ [b]) ⟨cs ++ [c], l0, some w'⟩ (σ.setH σ₁.H) := by
  have m' := wrl_back m hj x m₁
  have e0 : ad₁[0]? = some w.f := x.at_ rfl
  have no : ((∃ k : Nat, ad[k]? = some b ∧ b ≠ w.f) ∨ R b) → False := fun h => (m₁.rx rfl (wrl_R m hj x m₁ h)).2.2.2 _ hb
  refine m'.rep rfl fun RW lt out => m₁.rep rfl fun _ _ out₁ => m'.add (fun y => y ∈ w'.l ∨ R y) ⟨RW, fun _ => Iff.rfl, fun y hy => ⟨(m'.rx rfl hy).1, (m'.rx rfl hy).2.1⟩⟩ (fun k a hk z => z.elim (out k a hk) fun z => (m'.rx rfl z).2.2.2 k hk) (fun y z => z.elim (lt y) fun z => (m'.rx rfl z).2.2.1) (m₁.lt _ b hb) (fun k hk => ?_) (fun z => z.elim (out₁ _ b hb) fun z => no (.inr z)) (hc _)
  by_cases e : b = w.f
  · cases m₁.nd (n + 1) 0 b hb (e ▸ e0)
  · exact no (.inl ⟨k, hk, e⟩)
end
theorem wrl_foc {R : Nat → Prop} {g : Nat → Option C} {ad : List Nat} {cs : List SC} {l0 : List (Nat × SV)} {σ : St} {w : FolkW} (m : Mt (MF R g) ad ⟨cs, l0, some w⟩ σ) {j : Nat} {fs : List (Nat × V)} (hj : at_ cs j = some (.w 60 fs)) {P : Prog} {sp : Spc (Option FolkW)} (hs : ∀ R g, SpOk (MF R g) P sp) {d f : Nat} (n : Nat) {vs : List V} {G : RV → FolkW → Prop}
    {k : SV → Sy (Option FolkW) → Prop} {Q : V → Hp → Prop} {E : Nat → Hp → Prop} (run : callX P sp d f (.s 0 :: vs.map .v) ⟨[.w 60 fs], [], some w⟩ (FinW fs G) noX) (hG : ∀ rv w', G rv w' → giveR rv ⟨cs, l0, some w'⟩ k)
    (hk : PW (MF R g) DV ad k (fun v σ' => σ'.loc = σ.loc → Q v σ'.H)) : CW P (d + n) f (.ref w.f :: vs) σ.H Q E := by
  refine callX_ok (hs (RestW w σ.H) σ.H.get) n d f _ _ _ _ [w.f] ⟨σ.H, σ.loc⟩ (.ref w.f :: vs) Q E run (wrl_mt m hj _) (.cons rfl (DnL_v vs)) (fun r s₁ ad₁ σ₁ v x m₁ dv z e => ?_) fun r s₁ ad₁ σ₁ b x m₁ hb z e => z.elim
  cases z with
  | mk es res gg =>
    subst es
    have hg := hG _ _ gg
    cases res with
    | v y => exact hk (.v y) _ ad (σ.setH σ₁.H) _ (.refl _) (wrl_back m hj x m₁) dv hg rfl
    | new hc =>
      obtain ⟨b, hb, rfl⟩ := mR_e dv
      have m'' := wrl_add m hj x m₁ hb (c := .list _) fun _ => .mk _ (m₁.list hc hb) (.list _)
      exact hk _ _ _ (σ.setH σ₁.H) _ ⟨_, rfl⟩ m'' (dn_at (by show (ad ++ [b])[cs.length]? = _; rw [show cs.length = ad.length from m.len.symm, List.getElem?_append_right (Nat.le_refl _), Nat.sub_self]; rfl)) (giveR_new hg) rfl
    | tup y hc =>
      obtain ⟨vs', e', rfl⟩ := mT_e dv
      refine dnAs_cons e' fun v1 ws q1 e' q3 => dnAs_cons e' fun v2 ws' q2 e' q4 => ?_
      obtain ⟨b, hb, rfl⟩ := mR_e q2
      cases e'; cases q1
      subst q4
      subst q3
      have m'' := wrl_add m hj x m₁ hb (c := .list _) fun _ => .mk _ (m₁.list hc hb) (.list _)
      refine hk (.t [.v y, .s cs.length]) _ _ (σ.setH σ₁.H) _ ⟨_, rfl⟩ m'' (congrArg mT (dnAs_i (a := .v y) rfl (dnAs_i (a := .s cs.length) (r := []) (ws := []) ?_ rfl))) (giveR_tup hg) rfl
      exact dn_at (by rw [show cs.length = ad.length from m.len.symm, List.getElem?_append_right (Nat.le_refl _), Nat.sub_self]; rfl)
end Mine

end

section
set_option autoImplicit false
set_option linter.all false
set_option genSizeOf false
set_option genInjectivity false
namespace Mine
open PySem (Str)
inductive FinE (c : Nat) (G : V → Prop) (r : SV) (s : Sy Unit) : Prop
  | mk (x : V) (hr : r = .v x) (hc : at_ s.cs 0 = some (.exc c)) (g : G x)
/-- a def that looks at an exception -/
theorem exc_foc {Ω : Type} {M : MEnv Ω} {ad : List Nat} {s : Sy Ω} {σ : St} (m : Mt M ad s σ) {P : Prog} {sp : Spc Unit} (hs : ∀ M : MEnv Unit, SpOk M P sp) {j c b d f : Nat} (hj : at_ s.cs j = some (.exc c)) (hb : ad[j]? = some b) (n : Nat) {G : V → Prop} {k : SV → Sy Ω → Prop} {Q : V → Hp → Prop} {E : Nat → Hp → Prop}
    (run : callX P sp d f [.s 0] ⟨[.exc c], [], ()⟩ (FinE c G) noX) (hG : ∀ x, G x → k (.v x) s) (hk : PW M DV ad k (fun v σ' => σ'.loc = σ.loc → Q v σ'.H)) : CW P (d + n) f [.ref b] σ.H Q E := by
  have g := m.exc hj hb
  refine callX_ok (hs (MFr σ.H [b])) n d f _ _ _ _ [b] ⟨σ.H, σ.loc⟩ _ Q E run (mt1 _ g (.exc c) (m.lt j b hb)) (.cons rfl .nil) (fun r s₁ ad₁ σ₁ v x m₁ dv z e => ?_) fun r s₁ ad₁ σ₁ b x m₁ hb z e => z.elim
  obtain ⟨F, f1, f2, f3⟩ := m₁.res
  obtain ⟨y, rfl, hc, gg⟩ := z
  have m' : Mt M ad s (σ.setH σ₁.H) := m.grow (fun y l => by
    by_cases q : y = b
    · rw [q, g]; exact m₁.exc hc (x.at_ rfl)
    · exact f1.eq y ((f1.is y).mpr ⟨l, fun z => q (List.mem_singleton.mp z)⟩)) f1.le
  exact hk (.v y) _ ad (σ.setH σ₁.H) _ (.refl _) m' dv (hG y gg) rfl
noncomputable def wordOf : Nat → Str
  | 52 => s_hand
  | 53 => s_list
  | _ => s_outside
inductive WordsR {Ω : Type} (as : List SV) (s : Sy Ω) (k : SV → Sy Ω → Prop) (kx : Nat → Sy Ω → Prop) : Prop
  | mk {n c : Nat} (he : as = [.s n]) (hn : at_ s.cs n = some (.exc c)) (hc : c ∈ [52, 53, 56]) (h : k (.v (.str (wordOf c))) s)
theorem words_e {Ω : Type} {M : MEnv Ω} : EnOk M tb.P 61 1 WordsR := fun n f as s k kx ad σ vs Q E q m d hk hx => by
  obtain ⟨rfl, he, hn, hc, h⟩ := q
  rename_i j c
  subst he
  cases d with | cons d1 d =>
  cases d
  obtain ⟨b, hb, rfl⟩ := mR_e d1
  refine exc_foc m (fun _ => SpOk.nil) hn hb n (G := fun x => x = .str (wordOf c)) ?_ (fun x e => e ▸ h) hk
  simp only [List.mem_cons, List.not_mem_nil, or_false] at hc
  rcases hc with rfl | rfl | rfl
  all_goals
    refine ⟨Nat.zero_le _, ?_⟩
    refine ⟨by decide, ?_⟩
    exact .mk _ rfl rfl rfl
end Mine

end

section
set_option autoImplicit false
set_option linter.all false
set_option genSizeOf false
set_option genInjectivity false
namespace Mine
open PySem (Str)
noncomputable def spM : Spc (Option FolkW) := spL [(61, 1, WordsR), (263, 4, AskR 263), (264, 4, AskR 264), (265, 4, AskR 265), (266, 4, AskR 266), (267, 4, AskR 267), (268, 4, AskR 268)]
theorem spM_ok (R : Nat → Prop) (g : Nat → Option C) : SpOk (MF R g) tb.P spM := .cons words_e (.cons (ask_e 263 (by decide)) (.cons (ask_e 264 (by decide)) (.cons (ask_e 265 (by decide)) (.cons (ask_e 266 (by decide)) (.cons (ask_e 267 (by decide)) (.cons (ask_e 268 (by decide)) .nil))))))
noncomputable def wayF : Nat → Nat
  | 0 => 264
  | 1 => 265
  | 2 => 266
  | 3 => 267
  | 4 => 268
  | _ => 263
theorem lt6 {n : Nat} {G : Nat → Prop} (h : n < 6) (g0 : G 0) (g1 : G 1) (g2 : G 2) (g3 : G 3) (g4 : G 4) (g5 : G 5) : G n := by
  cases n with | zero => exact g0 | succ n =>
  cases n with | zero => exact g1 | succ n =>
  cases n with | zero => exact g2 | succ n =>
  cases n with | zero => exact g3 | succ n =>
  cases n with | zero => exact g4 | succ n =>
  cases n with | zero => exact g5 | succ n => omega
theorem lt4 {n : Nat} {G : Nat → Prop} (h : n < 4) (g0 : G 0) (g1 : G 1) (g2 : G 2) (g3 : G 3) : G n := by
  cases n with | zero => exact g0 | succ n =>
  cases n with | zero => exact g1 | succ n =>
  cases n with | zero => exact g2 | succ n =>
  cases n with | zero => exact g3 | succ n => omega
inductive AskdR (as : List SV) (s : Sy (Option FolkW)) (k : SV → Sy (Option FolkW) → Prop) (kx : Nat → Sy (Option FolkW) → Prop) : Prop
  | val {j way i mm : Nat} {fi : List Int} {w : FolkW} (he : as = [.s j, .v (.int way), .v (.int i)]) (hy : way < 6) (B : BegAt s j mm fi w) (hi : i < mm) (hc : fi.contains (i : Int) = true ∨ 4 ≤ way) (h : ∀ w' : FolkW, w'.S = beg mm fi fi → giveR (askR fi (wayF way)) (s.withW (some w')) k)
  | out {j way i mm : Nat} {fi : List Int} {w : FolkW} (he : as = [.s j, .v (.int way), .v (.int i)]) (hy : way < 4) (B : BegAt s j mm fi w) (hi : i < mm) (hc : fi.contains (i : Int) = false) (h : ∀ w' : FolkW, w'.S = beg mm fi fi → k (.v (.str s_outside)) (s.withW (some w')))
  | bad {j way mm : Nat} {x : V} {fi : List Int} {w : FolkW} (he : as = [.s j, .v (.int way), .v x]) (hy : way < 6) (B : BegAt s j mm fi w) (hx : badH mm x = true) (h : ∀ w' : FolkW, w'.S = beg mm fi fi → k (.v (.str s_hand)) (s.withW (some w')))
section
variable {w : FolkW} {mm : Nat} {fi : List Int} (hS : w.S = beg mm fi fi) (hp : 0 < mm) (hz : fi.length ≤ 100) {fs : List (Nat × V)}
include hS hp hz
theorem askd1 {i : Nat} (hi : i < mm) (hc : fi.contains (i : Int) = true) (way : Nat) (hy : way < 6) : callX tb.P spM 5 62 [.s 0, .v (.int way), .v (.int i)] ⟨[.w 60 fs], [], some w⟩ (FinW fs fun rv w' => rv = askR fi (wayF way) ∧ w'.S = beg mm fi fi) noX := by
  refine lt6 (G := fun way => callX tb.P spM 5 62 [.s 0, .v (.int way), .v (.int i)] ⟨[.w 60 fs], [], some w⟩ (FinW fs fun rv w' => rv = askR fi (wayF way) ∧ w'.S = beg mm fi fi) noX) hy ?_ ?_ ?_ ?_ ?_ ?_
  · refine AskR.mem rfl ⟨rfl, ⟨_, rfl⟩, hS, hp, hz⟩ hi hc fun w' hS' => ?_
    exact .mk rfl (.tup _ rfl) ⟨rfl, hS'⟩
  · refine AskR.mem rfl ⟨rfl, ⟨_, rfl⟩, hS, hp, hz⟩ hi hc fun w' hS' => ?_
    exact .mk rfl (.new rfl) ⟨rfl, hS'⟩
  · refine AskR.mem rfl ⟨rfl, ⟨_, rfl⟩, hS, hp, hz⟩ hi hc fun w' hS' => ?_
    exact .mk rfl (.v _) ⟨rfl, hS'⟩
  · refine AskR.mem rfl ⟨rfl, ⟨_, rfl⟩, hS, hp, hz⟩ hi hc fun w' hS' => ?_
    exact .mk rfl (.new rfl) ⟨rfl, hS'⟩
  · refine AskR.mem rfl ⟨rfl, ⟨_, rfl⟩, hS, hp, hz⟩ hi hc fun w' hS' => ?_
    exact .mk rfl (.new rfl) ⟨rfl, hS'⟩
  · refine AskR.mem rfl ⟨rfl, ⟨_, rfl⟩, hS, hp, hz⟩ hi hc fun w' hS' => ?_
    exact .mk rfl (.v _) ⟨rfl, hS'⟩
theorem askd2 {i : Nat} (hi : i < mm) (hc : fi.contains (i : Int) = false) (way : Nat) (hy : way < 6) (h4 : 4 ≤ way) : callX tb.P spM 5 62 [.s 0, .v (.int way), .v (.int i)] ⟨[.w 60 fs], [], some w⟩ (FinW fs fun rv w' => rv = askR fi (wayF way) ∧ w'.S = beg mm fi fi) noX := by
  by_cases e : way = 4
  · subst e
    refine AskR.out rfl ⟨rfl, ⟨_, rfl⟩, hS, hp, hz⟩ hi hc (by decide) fun w' hS' => ?_
    exact .mk rfl (.new rfl) ⟨rfl, hS'⟩
  · have e : way = 5 := by omega
    subst e
    refine AskR.out rfl ⟨rfl, ⟨_, rfl⟩, hS, hp, hz⟩ hi hc (by decide) fun w' hS' => ?_
    exact .mk rfl (.v _) ⟨rfl, hS'⟩
theorem askd3 {i : Nat} (hi : i < mm) (hc : fi.contains (i : Int) = false) (way : Nat) (hy : way < 4) : callX tb.P spM 5 62 [.s 0, .v (.int way), .v (.int i)] ⟨[.w 60 fs], [], some w⟩ (FinW fs fun rv w' => rv = .v (.str s_outside) ∧ w'.S = beg mm fi fi) noX := by
  refine lt4 (G := fun way => callX tb.P spM 5 62 [.s 0, .v (.int way), .v (.int i)] ⟨[.w 60 fs], [], some w⟩ (FinW fs fun rv w' => rv = .v (.str s_outside) ∧ w'.S = beg mm fi fi) noX) hy ?_ ?_ ?_ ?_
  all_goals
    refine AskR.no rfl ⟨rfl, ⟨_, rfl⟩, hS, hp, hz⟩ hi hc (by decide) fun w' hS' => ?_
    refine WordsR.mk (c := 56) rfl rfl (by decide) ?_
    exact .mk rfl (.v _) ⟨rfl, hS'⟩
theorem askd4 {x : V} (hx : badH mm x = true) (way : Nat) (hy : way < 6) : callX tb.P spM 5 62 [.s 0, .v (.int way), .v x] ⟨[.w 60 fs], [], some w⟩ (FinW fs fun rv w' => rv = .v (.str s_hand) ∧ w'.S = beg mm fi fi) noX := by
  refine lt6 (G := fun way => callX tb.P spM 5 62 [.s 0, .v (.int way), .v x] ⟨[.w 60 fs], [], some w⟩ (FinW fs fun rv w' => rv = .v (.str s_hand) ∧ w'.S = beg mm fi fi) noX) hy ?_ ?_ ?_ ?_ ?_ ?_
  all_goals
    refine AskR.bad rfl ⟨rfl, ⟨_, rfl⟩, hS, hp, hz⟩ hx fun w' hS' => ?_
    refine WordsR.mk (c := 52) rfl rfl (by decide) ?_
    exact .mk rfl (.v _) ⟨rfl, hS'⟩
end
theorem askd_e {R : Nat → Prop} {g : Nat → Option C} : EnOk (MF R g) tb.P 62 5 AskdR := fun n f' as s k kx ad σ vs Q E q m d hk hx => by
  obtain ⟨rfl, q⟩ := q
  obtain ⟨cs, l0, w0⟩ := s
  cases q with
  | @val j way i mm fi w he hy B hi hc h =>
    subst he
    cases B.hw
    obtain ⟨fs, hj⟩ := B.hj
    refine dnf2 (G := fun vs => CW tb.P (5 + n) 62 vs σ.H Q E) (dn_folk B m) d ?_
    refine wrl_foc m hj spM_ok n (vs := [.int way, .int i]) (G := fun rv w' => rv = askR fi (wayF way) ∧ w'.S = beg mm fi fi) ?_ (fun rv w' G => G.1 ▸ h w' G.2) hk
    cases q : fi.contains (i : Int) with
    | true => exact askd1 B.hS B.pos B.hz hi q way hy
    | false => exact askd2 B.hS B.pos B.hz hi q way hy (hc.resolve_left fun z => nomatch q.symm.trans z)
  | @out j way i mm fi w he hy B hi hc h =>
    subst he
    cases B.hw
    obtain ⟨fs, hj⟩ := B.hj
    refine dnf2 (G := fun vs => CW tb.P (5 + n) 62 vs σ.H Q E) (dn_folk B m) d ?_
    exact wrl_foc m hj spM_ok n (vs := [.int way, .int i]) (askd3 B.hS B.pos B.hz hi hc way hy) (fun rv w' G => by rw [G.1]; exact h w' G.2) hk
  | @bad j way mm x fi w he hy B hb h =>
    subst he
    cases B.hw
    obtain ⟨fs, hj⟩ := B.hj
    refine dnf2 (G := fun vs => CW tb.P (5 + n) 62 vs σ.H Q E) (dn_folk B m) d ?_
    exact wrl_foc m hj spM_ok n (vs := [.int way, _]) (askd4 B.hS B.pos B.hz hb way hy) (fun rv w' G => by rw [G.1]; exact h w' G.2) hk
end Mine

end

section
set_option autoImplicit false
set_option linter.all false
set_option genSizeOf false
set_option genInjectivity false
namespace Mine
open PySem (Str)
section
variable {Ω : Type}
/-- a loop, turn by turn -/
noncomputable def loopU (turn : V → Sy Ω → (FX → Sy Ω → Prop) → Prop) (k : FX → Sy Ω → Prop) : List V → Sy Ω → Prop
  | [], s => k .next s
  | x :: r, s => turn x s fun fl s₁ => endS fl s₁ (loopU turn k r) k
theorem loop_v {x : V} {all xs : List V} {turn : V → Sy Ω → (FX → Sy Ω → Prop) → Prop} {k : FX → Sy Ω → Prop} {s : Sy Ω} (h : itV x = some all) (hu : loopU turn k xs s) : LoopX (.v x) all turn xs s k :=
  .mk (fun r s' => loopU turn k r s') hu ⟨fun _ _ _ => h, fun _ h => h, fun _ _ _ h => h⟩
end
theorem iV_dat (n : Nat) : ∀ (l : List Int), (iV l).all (datN n) = true
  | [] => rfl
  | _ :: r => (Bool.and_eq_true ..).mpr ⟨by cases n <;> rfl, iV_dat n r⟩
theorem iV_any (x : Int) : ∀ (l : List Int), ((iV l).any fun z => eqD z (.int x)) = l.contains x
  | [] => rfl
  | y :: r => by
    show (decide (y = x) || (iV r).any fun z => eqD z (.int x)) = (y :: r).contains x
    rw [iV_any x r, List.contains_cons]
    congr 1
    by_cases e : y = x
    · rw [decide_eq_true e, e]; exact (beq_self_eq_true x).symm
    · rw [decide_eq_false e]; exact (beq_eq_false_iff_ne.mpr fun z => e z.symm).symm
theorem eqDs_iV : ∀ (l : List Int), eqDs (iV l) (iV l) = true
  | [] => rfl
  | x :: r => (Bool.and_eq_true ..).mpr ⟨decide_eq_true rfl, eqDs_iV r⟩
section
variable {w : FolkW} {mm : Nat} {fi : List Int} (hS : w.S = beg mm fi fi) (hp : 0 < mm) (hz : fi.length ≤ 100) {fs : List (Nat × V)} {i : Nat} (hi : i < mm)
noncomputable def spR : Spc (Option FolkW) := spL [(62, 5, AskdR)]
theorem deepAs_2 {Ω : Type} {s : Sy Ω} {x : V} {n : Nat} {xs : List V} (h : scL (at_ s.cs n) = some xs) (hx : datN 11 x = true) (hd : xs.all (datN 10) = true) : deepAs s [.v x, .s n] = some [x, .lst xs] := by
  have e1 : deepA s (.v x) = some x := cond_t hx
  have e2 : deepA s (.s n) = some (.lst xs) := by
    show (match scL (at_ s.cs n) with | some xs => cond (xs.all (datN 10)) (some (V.lst xs)) none | none => none) = _
    rw [h]; exact cond_t hd
  show (match deepA s (.v x) with | some x => (match (match deepA s (.s n) with | some x => some [x] | none => none : Option (List V)) with | some xs => some (x :: xs) | none => none) | none => none) = _
  rw [e1, e2]
variable {way : Nat} {D : List V} {K : FX → Sy (Option FolkW) → Prop} {x y : SV}
theorem lu {Ω : Type} {turn : V → Sy Ω → (FX → Sy Ω → Prop) → Prop} {k : FX → Sy Ω → Prop} {x : V} {r : List V} {s : Sy Ω} (h : turn x s fun fl s₁ => endS fl s₁ (loopU turn k r) k) : endS .next s (loopU turn k (x :: r)) k := h
theorem lu0 {Ω : Type} {turn : V → Sy Ω → (FX → Sy Ω → Prop) → Prop} {k : FX → Sy Ω → Prop} {x : V} {r : List V} {s : Sy Ω} (h : turn x s fun fl s₁ => endS fl s₁ (loopU turn k r) k) : loopU turn k (x :: r) s := h
theorem luN {Ω : Type} {turn : V → Sy Ω → (FX → Sy Ω → Prop) → Prop} {k : FX → Sy Ω → Prop} {s : Sy Ω} (h : k .next s) : endS .next s (loopU turn k []) k := h
noncomputable def turnR (C : XT (Option FolkW)) (x : V) (s : Sy (Option FolkW)) (k : FX → Sy (Option FolkW) → Prop) : Prop := bindTS [31] x s fun s₃ => sxSs tb.P C L__law_right_1 s₃ k noX
include hS hp hz hi
theorem turnL1 (hy : way < 6) (hc : fi.contains (i : Int) = true ∨ 4 ≤ way) (hv : askR fi (wayF way) = .new []) (hD : D[way]? = some (.lst [])) (hk : ∀ w' : FolkW, w'.S = beg mm fi fi → K .next ⟨[.w 60 fs, .list [.int 7], .dead], [(106, .s 0), (105, .v (.lst (iV fi))), (29, .v (.int i)), (13, .v (.lst D)), (31, .v (.int way)), (26, .s 1)], some w'⟩) :
    turnR (callX tb.P spR 5) (.int way) ⟨[.w 60 fs], [(106, .s 0), (105, .v (.lst (iV fi))), (29, .v (.int i)), (13, .v (.lst D)), (31, x), (26, y)], some w⟩ K := by
  have hl := (List.getElem?_eq_some_iff.mp hD).1
  refine AskdR.val (way := way) rfl hy ⟨rfl, ⟨_, rfl⟩, hS, hp, hz⟩ hi hc fun w1 h1 => ?_
  rw [hv]
  refine need_i (pyIdx_nat hl) (need_i hD ?_)
  refine need_i (pyIdx_nat hl) (need_i hD ?_)
  refine ⟨by decide, ?_⟩
  refine AskdR.val (way := way) rfl hy ⟨rfl, ⟨_, rfl⟩, h1, hp, hz⟩ hi hc fun w2 h2 => ?_
  rw [hv]
  refine need_i (pyIdx_nat hl) (need_i hD ?_)
  exact hk w2 h2
theorem turnL3 {a b : SC} (hy : way < 6) (hc : fi.contains (i : Int) = true ∨ 4 ≤ way) (hv : askR fi (wayF way) = .new []) (hD : D[way]? = some (.lst [])) (hk : ∀ w' : FolkW, w'.S = beg mm fi fi → K .next ⟨[.w 60 fs, a, b, .list [.int 7], .dead], [(106, .s 0), (105, .v (.lst (iV fi))), (29, .v (.int i)), (13, .v (.lst D)), (31, .v (.int way)), (26, .s 3)], some w'⟩) :
    turnR (callX tb.P spR 5) (.int way) ⟨[.w 60 fs, a, b], [(106, .s 0), (105, .v (.lst (iV fi))), (29, .v (.int i)), (13, .v (.lst D)), (31, x), (26, y)], some w⟩ K := by
  have hl := (List.getElem?_eq_some_iff.mp hD).1
  refine AskdR.val (way := way) rfl hy ⟨rfl, ⟨_, rfl⟩, hS, hp, hz⟩ hi hc fun w1 h1 => ?_
  rw [hv]
  refine need_i (pyIdx_nat hl) (need_i hD ?_)
  refine need_i (pyIdx_nat hl) (need_i hD ?_)
  refine ⟨by decide, ?_⟩
  refine AskdR.val (way := way) rfl hy ⟨rfl, ⟨_, rfl⟩, h1, hp, hz⟩ hi hc fun w2 h2 => ?_
  rw [hv]
  refine need_i (pyIdx_nat hl) (need_i hD ?_)
  exact hk w2 h2
theorem turnL5 {a b c d : SC} (hy : way < 6) (hc : fi.contains (i : Int) = true ∨ 4 ≤ way) (hv : askR fi (wayF way) = .new []) (hD : D[way]? = some (.lst [])) (hk : ∀ w' : FolkW, w'.S = beg mm fi fi → K .next ⟨[.w 60 fs, a, b, c, d, .list [.int 7], .dead], [(106, .s 0), (105, .v (.lst (iV fi))), (29, .v (.int i)), (13, .v (.lst D)), (31, .v (.int way)), (26, .s 5)], some w'⟩) :
    turnR (callX tb.P spR 5) (.int way) ⟨[.w 60 fs, a, b, c, d], [(106, .s 0), (105, .v (.lst (iV fi))), (29, .v (.int i)), (13, .v (.lst D)), (31, x), (26, y)], some w⟩ K := by
  have hl := (List.getElem?_eq_some_iff.mp hD).1
  refine AskdR.val (way := way) rfl hy ⟨rfl, ⟨_, rfl⟩, hS, hp, hz⟩ hi hc fun w1 h1 => ?_
  rw [hv]
  refine need_i (pyIdx_nat hl) (need_i hD ?_)
  refine need_i (pyIdx_nat hl) (need_i hD ?_)
  refine ⟨by decide, ?_⟩
  refine AskdR.val (way := way) rfl hy ⟨rfl, ⟨_, rfl⟩, h1, hp, hz⟩ hi hc fun w2 h2 => ?_
  rw [hv]
  refine need_i (pyIdx_nat hl) (need_i hD ?_)
  exact hk w2 h2
theorem turnL7 {a b c d e f : SC} (hy : way < 6) (hc : fi.contains (i : Int) = true ∨ 4 ≤ way) (hv : askR fi (wayF way) = .new []) (hD : D[way]? = some (.lst [])) (hk : ∀ w' : FolkW, w'.S = beg mm fi fi → K .next ⟨[.w 60 fs, a, b, c, d, e, f, .list [.int 7], .dead], [(106, .s 0), (105, .v (.lst (iV fi))), (29, .v (.int i)), (13, .v (.lst D)), (31, .v (.int way)), (26, .s 7)], some w'⟩) :
    turnR (callX tb.P spR 5) (.int way) ⟨[.w 60 fs, a, b, c, d, e, f], [(106, .s 0), (105, .v (.lst (iV fi))), (29, .v (.int i)), (13, .v (.lst D)), (31, x), (26, y)], some w⟩ K := by
  have hl := (List.getElem?_eq_some_iff.mp hD).1
  refine AskdR.val (way := way) rfl hy ⟨rfl, ⟨_, rfl⟩, hS, hp, hz⟩ hi hc fun w1 h1 => ?_
  rw [hv]
  refine need_i (pyIdx_nat hl) (need_i hD ?_)
  refine need_i (pyIdx_nat hl) (need_i hD ?_)
  refine ⟨by decide, ?_⟩
  refine AskdR.val (way := way) rfl hy ⟨rfl, ⟨_, rfl⟩, h1, hp, hz⟩ hi hc fun w2 h2 => ?_
  rw [hv]
  refine need_i (pyIdx_nat hl) (need_i hD ?_)
  exact hk w2 h2
theorem turnB {t : List SC} {b : Bool} (hy : way < 6) (hc : fi.contains (i : Int) = true ∨ 4 ≤ way) (hv : askR fi (wayF way) = .v (.bool b)) (hD : D[way]? = some (.bool b)) (hk : ∀ w' : FolkW, w'.S = beg mm fi fi → K .next ⟨.w 60 fs :: t, [(106, .s 0), (105, .v (.lst (iV fi))), (29, .v (.int i)), (13, .v (.lst D)), (31, .v (.int way)), (26, .v (.bool b))], some w'⟩) :
    turnR (callX tb.P spR 5) (.int way) ⟨.w 60 fs :: t, [(106, .s 0), (105, .v (.lst (iV fi))), (29, .v (.int i)), (13, .v (.lst D)), (31, x), (26, y)], some w⟩ K := by
  have hl := (List.getElem?_eq_some_iff.mp hD).1
  have eb : (!(b == b)) = false := by cases b <;> rfl
  refine AskdR.val (way := way) rfl hy ⟨rfl, ⟨_, rfl⟩, hS, hp, hz⟩ hi hc fun w1 h1 => ?_
  rw [hv]
  refine need_i (pyIdx_nat hl) (need_i hD ?_)
  refine Br_i (fun c => nomatch eb.symm.trans c) (fun c => ?_)
  refine need_i (pyIdx_nat hl) (need_i hD ?_)
  refine AskdR.val (way := way) rfl hy ⟨rfl, ⟨_, rfl⟩, h1, hp, hz⟩ hi hc fun w2 h2 => ?_
  rw [hv]
  refine need_i (pyIdx_nat hl) (need_i hD ?_)
  refine Br_i (fun c => nomatch eb.symm.trans c) (fun c => ?_)
  exact hk w2 h2
theorem turnS0 {t : List SC} (hy : way < 4) (hc : fi.contains (i : Int) = false) (hD : D[way]? = some (.str s_outside)) (hk : ∀ w' : FolkW, w'.S = beg mm fi fi → K .next ⟨.w 60 fs :: t, [(106, .s 0), (105, .v (.lst (iV fi))), (29, .v (.int i)), (13, .v (.lst D)), (31, .v (.int way)), (26, .v (.str s_outside))], some w'⟩) :
    turnR (callX tb.P spR 5) (.int way) ⟨.w 60 fs :: t, [(106, .s 0), (105, .v (.lst (iV fi))), (29, .v (.int i)), (13, .v (.lst D))], some w⟩ K := by
  have hl := (List.getElem?_eq_some_iff.mp hD).1
  refine AskdR.out (way := way) rfl hy ⟨rfl, ⟨_, rfl⟩, hS, hp, hz⟩ hi hc fun w1 h1 => ?_
  refine need_i (pyIdx_nat hl) (need_i hD ?_)
  refine need_i (pyIdx_nat hl) (need_i hD ?_)
  refine AskdR.out (way := way) rfl hy ⟨rfl, ⟨_, rfl⟩, h1, hp, hz⟩ hi hc fun w2 h2 => ?_
  refine need_i (pyIdx_nat hl) (need_i hD ?_)
  exact hk w2 h2
theorem turnS {t : List SC} (hy : way < 4) (hc : fi.contains (i : Int) = false) (hD : D[way]? = some (.str s_outside)) (hk : ∀ w' : FolkW, w'.S = beg mm fi fi → K .next ⟨.w 60 fs :: t, [(106, .s 0), (105, .v (.lst (iV fi))), (29, .v (.int i)), (13, .v (.lst D)), (31, .v (.int way)), (26, .v (.str s_outside))], some w'⟩) :
    turnR (callX tb.P spR 5) (.int way) ⟨.w 60 fs :: t, [(106, .s 0), (105, .v (.lst (iV fi))), (29, .v (.int i)), (13, .v (.lst D)), (31, x), (26, y)], some w⟩ K := by
  have hl := (List.getElem?_eq_some_iff.mp hD).1
  refine AskdR.out (way := way) rfl hy ⟨rfl, ⟨_, rfl⟩, hS, hp, hz⟩ hi hc fun w1 h1 => ?_
  refine need_i (pyIdx_nat hl) (need_i hD ?_)
  refine need_i (pyIdx_nat hl) (need_i hD ?_)
  refine AskdR.out (way := way) rfl hy ⟨rfl, ⟨_, rfl⟩, h1, hp, hz⟩ hi hc fun w2 h2 => ?_
  refine need_i (pyIdx_nat hl) (need_i hD ?_)
  exact hk w2 h2
theorem turnT (hc : fi.contains (i : Int) = true) (hD : D[0]? = some (.tup [.int 0, .lst (iV fi)])) (hk : ∀ w' : FolkW, w'.S = beg mm fi fi → K .next ⟨[.w 60 fs, .list (iV fi ++ [.int 7]), .list (iV fi)], [(106, .s 0), (105, .v (.lst (iV fi))), (29, .v (.int i)), (13, .v (.lst D)), (31, .v (.int 0)), (26, .t [.v (.int 0), .s 1])], some w'⟩) :
    turnR (callX tb.P spR 5) (.int 0) ⟨[.w 60 fs], [(106, .s 0), (105, .v (.lst (iV fi))), (29, .v (.int i)), (13, .v (.lst D))], some w⟩ K := by
  have hl := (List.getElem?_eq_some_iff.mp hD).1
  have dd : datN 12 (.tup [.int 0, .lst (iV fi)]) = true := by show ((true && ((iV fi).all (datN 10) && true)) : Bool) = true; rw [iV_dat]; rfl
  have eb : (!(eqD (.tup [.int 0, .lst (iV fi)]) (.tup [.int 0, .lst (iV fi)]))) = false := by show (!(true && (eqDs (iV fi) (iV fi) && true))) = false; rw [eqDs_iV]; rfl
  refine AskdR.val (way := 0) rfl (by decide) ⟨rfl, ⟨_, rfl⟩, hS, hp, hz⟩ hi (.inl hc) fun w1 h1 => ?_
  refine need_i (pyIdx_nat (n := 0) hl) (need_i hD ?_)
  refine need_i (a := [.int 0, .lst (iV fi)]) (deepAs_2 rfl rfl (iV_dat 10 fi)) ?_
  refine Ys_i dd ?_
  refine Br_i (fun c => nomatch eb.symm.trans c) (fun c => ?_)
  refine need_i (pyIdx_nat (n := 0) hl) (need_i hD ?_)
  refine ⟨by rw [iV_len]; exact Nat.lt_of_le_of_lt hz (by decide), ?_⟩
  refine AskdR.val (way := 0) rfl (by decide) ⟨rfl, ⟨_, rfl⟩, h1, hp, hz⟩ hi (.inl hc) fun w2 h2 => ?_
  refine need_i (pyIdx_nat (n := 0) hl) (need_i hD ?_)
  refine need_i (a := [.int 0, .lst (iV fi)]) (deepAs_2 rfl rfl (iV_dat 10 fi)) ?_
  refine Ys_i dd ?_
  refine Br_i (fun c => nomatch eb.symm.trans c) (fun c => ?_)
  exact hk w2 h2
theorem right1 (hc : fi.contains (i : Int) = true) : callX tb.P spR 6 63 [.s 0, .v (.lst (iV fi)), .v (.int i)] ⟨[.w 60 fs], [], some w⟩ (FinW fs fun rv w' => rv = .v (.bool true) ∧ w'.S = beg mm fi fi) noX := by
  refine ⟨Nat.zero_le _, ?_⟩
  refine ⟨Nat.zero_le _, ?_⟩
  refine ⟨Nat.zero_le _, ?_⟩
  refine ⟨by show 6 ≤ 1048576; decide, ?_⟩
  refine Ys_i (iV_dat 11 fi) ?_
  refine Br_i (fun c => ?_) (fun c => ?_)
  · rw [iV_any, hc] at c; cases c
  refine ⟨by decide, ?_⟩
  refine loop_v (turn := turnR (callX tb.P spR 5)) (xs := [.int ((0 : Nat) : Int), .int ((1 : Nat) : Int), .int ((2 : Nat) : Int), .int ((3 : Nat) : Int), .int ((4 : Nat) : Int), .int ((5 : Nat) : Int)]) rfl ?_
  refine lu0 (turnT hS hp hz hi hc rfl fun w1 h1 => ?_)
  refine lu (turnL3 (way := 1) h1 hp hz hi (by decide) (.inl hc) rfl rfl fun w1 h1 => ?_)
  refine lu (turnB (way := 2) h1 hp hz hi (by decide) (.inl hc) rfl rfl fun w1 h1 => ?_)
  refine lu (turnL5 (way := 3) h1 hp hz hi (by decide) (.inl hc) rfl rfl fun w1 h1 => ?_)
  refine lu (turnL7 (way := 4) h1 hp hz hi (by decide) (.inl hc) rfl rfl fun w1 h1 => ?_)
  refine lu (turnB (way := 5) h1 hp hz hi (by decide) (.inl hc) rfl rfl fun w1 h1 => ?_)
  refine luN ?_
  exact .mk rfl (.v _) ⟨rfl, h1⟩
theorem right2 (hc : fi.contains (i : Int) = false) : callX tb.P spR 6 63 [.s 0, .v (.lst (iV fi)), .v (.int i)] ⟨[.w 60 fs], [], some w⟩ (FinW fs fun rv w' => rv = .v (.bool true) ∧ w'.S = beg mm fi fi) noX := by
  refine ⟨Nat.zero_le _, ?_⟩
  refine ⟨Nat.zero_le _, ?_⟩
  refine ⟨Nat.zero_le _, ?_⟩
  refine ⟨by show 6 ≤ 1048576; decide, ?_⟩
  refine Ys_i (iV_dat 11 fi) ?_
  refine Br_i (fun c => ?_) (fun c => ?_)
  rotate_left
  · rw [iV_any, hc] at c; cases c
  refine ⟨Nat.zero_le _, ?_⟩
  refine ⟨by show 6 ≤ 1048576; decide, ?_⟩
  refine ⟨by decide, ?_⟩
  refine loop_v (turn := turnR (callX tb.P spR 5)) (xs := [.int ((0 : Nat) : Int), .int ((1 : Nat) : Int), .int ((2 : Nat) : Int), .int ((3 : Nat) : Int), .int ((4 : Nat) : Int), .int ((5 : Nat) : Int)]) rfl ?_
  refine lu0 (turnS0 (way := 0) hS hp hz hi (by decide) hc rfl fun w1 h1 => ?_)
  refine lu (turnS (way := 1) h1 hp hz hi (by decide) hc rfl fun w1 h1 => ?_)
  refine lu (turnS (way := 2) h1 hp hz hi (by decide) hc rfl fun w1 h1 => ?_)
  refine lu (turnS (way := 3) h1 hp hz hi (by decide) hc rfl fun w1 h1 => ?_)
  refine lu (turnL1 (way := 4) h1 hp hz hi (by decide) (.inr (by decide)) rfl rfl fun w1 h1 => ?_)
  refine lu (turnB (way := 5) h1 hp hz hi (by decide) (.inr (by decide)) rfl rfl fun w1 h1 => ?_)
  refine luN ?_
  exact .mk rfl (.v _) ⟨rfl, h1⟩
end
end Mine

end

section
set_option autoImplicit false
set_option linter.all false
set_option genSizeOf false
set_option genInjectivity false
namespace Mine
open PySem (Str)
inductive RightR (as : List SV) (s : Sy (Option FolkW)) (k : SV → Sy (Option FolkW) → Prop) (kx : Nat → Sy (Option FolkW) → Prop) : Prop
  | mk {j i mm : Nat} {fi : List Int} {w : FolkW} (he : as = [.s j, .v (.lst (iV fi)), .v (.int i)]) (B : BegAt s j mm fi w) (hi : i < mm) (h : ∀ w' : FolkW, w'.S = beg mm fi fi → k (.v (.bool true)) (s.withW (some w')))
theorem spR_ok (R : Nat → Prop) (g : Nat → Option C) : SpOk (MF R g) tb.P spR := .cons askd_e .nil
theorem right_e {R : Nat → Prop} {g : Nat → Option C} : EnOk (MF R g) tb.P 63 6 RightR := fun n f' as s k kx ad σ vs Q E q m d hk hx => by
  obtain ⟨rfl, q⟩ := q
  obtain ⟨cs, l0, w0⟩ := s
  obtain ⟨he, B, hi, h⟩ := q
  rename_i j i mm fi w
  subst he
  cases B.hw
  obtain ⟨fs, hj⟩ := B.hj
  refine dnf2 (G := fun vs => CW tb.P (6 + n) 63 vs σ.H Q E) (dn_folk B m) d ?_
  refine wrl_foc m hj spR_ok n (vs := [.lst (iV fi), .int i]) (G := fun rv w' => rv = .v (.bool true) ∧ w'.S = beg mm fi fi) ?_ (fun rv w' G => by rw [G.1]; exact h w' G.2) hk
  cases q : fi.contains (i : Int) with
  | true => exact right1 B.hS B.pos B.hz hi q
  | false => exact right2 B.hS B.pos B.hz hi q
noncomputable def spZ : Spc (Option FolkW) := spL [(9, 1, drawR), (11, 1, handsR), (243, 4, InitR), (262, 1, LetR), (61, 1, WordsR), (62, 5, AskdR), (63, 6, RightR)]
theorem spZ_ok (R : Nat → Prop) (g : Nat → Option C) : SpOk (MF R g) tb.P spZ := .cons draw_e (.cons hands_e (.cons init_e (.cons letters_e (.cons words_e (.cons askd_e (.cons right_e .nil))))))
theorem stm {Ω : Type} {P : Prog} {C : XT Ω} {c : PS} {r : PSs} {s : Sy Ω} {K : FX → Sy Ω → Prop} {kx : Nat → Sy Ω → Prop} (h : sxS P C c s (fun fl s₁ => seqS fl s₁ (fun s₂ => sxSs P C r s₂ K kx) K) kx) : sxSs P C (.cons c r) s K kx := h
theorem nxt {Ω : Type} {S : Sy Ω} {f : Sy Ω → Prop} {K : FX → Sy Ω → Prop} (h : f S) : seqS .next S f K := h
/-- an item at a place that is a rest -/
theorem at_mod {xs : List V} {n : Nat} (hn : xs.length = n) {b : Int} (hp : 0 < n) {k : V → Prop} (h : ∀ v, v ∈ xs → k v) : atK xs (Int.fmod b n) k := by
  have h0 : (0 : Int) ≤ Int.fmod b n := Int.fmod_nonneg_of_pos b (by omega)
  have h1 : Int.fmod b n < n := Int.fmod_lt_of_pos b (by omega)
  obtain ⟨m, e⟩ := Int.eq_ofNat_of_zero_le h0
  have hm : m < xs.length := by omega
  rw [e]
  exact need_i (pyIdx_nat hm) (need_i (List.getElem?_eq_getElem hm) (h _ (List.getElem_mem hm)))
abbrev CZ : XT (Option FolkW) := callX tb.P spZ 6
section
variable {is : List Int} {K : FX → Sy (Option FolkW) → Prop} {kx : Nat → Sy (Option FolkW) → Prop}
theorem c0 (h : K .next ⟨[], [(24, .v (.lst (is.map .int))), (28, .v (.int (Int.fmod (dr is 0) 13 - 1)))], none⟩) : sxS tb.P CZ S_law_0 ⟨[], [(24, .v (.lst (is.map .int)))], none⟩ K kx := by
  refine ⟨is, 0, rfl, ?_⟩
  refine ⟨by decide, ?_⟩
  exact h
noncomputable def isMany : V → Bool
  | .int _ => true
  | .bool _ => true
  | .str _ => true
  | .none => true
  | _ => false
theorem c1 {i : Int} (h : ∀ x, isMany x = true → K .next ⟨[], [(24, .v (.lst (is.map .int))), (28, .v x)], none⟩) : sxS tb.P CZ S_law_1 ⟨[], [(24, .v (.lst (is.map .int))), (28, .v (.int i))], none⟩ K kx := by
  refine ⟨is, 0, rfl, ?_⟩
  refine ⟨by decide, ?_⟩
  refine ⟨by decide, ?_⟩
  refine Br_i (fun c => ?_) (fun c => ?_)
  · refine ⟨by decide, ?_⟩
    refine ⟨by decide, ?_⟩
    refine ⟨is, 0, rfl, ?_⟩
    refine ⟨by decide, ?_⟩
    refine ⟨by decide, ?_⟩
    refine at_mod (n := 5) rfl (by decide) fun v hv => ?_
    refine h v ?_
    simp only [List.mem_cons, List.not_mem_nil, or_false] at hv
    rcases hv with rfl | rfl | rfl | rfl | rfl <;> rfl
  · exact h _ rfl
end
end Mine

end

section
set_option autoImplicit false
set_option linter.all false
set_option genSizeOf false
set_option genInjectivity false
namespace Mine
open PySem (Str)
theorem ris_i {m a y : Int} {r : List V} (h1 : a < y) (h2 : y < m) (h : ris m y r = true) : ris m a (.int y :: r) = true := by
  show cond (decide (y ≤ a)) false (cond (decide (m ≤ y)) false (ris m y r)) = true
  rw [decide_eq_false (by omega), decide_eq_false (by omega)]; exact h
theorem ris_mono {m a b : Int} (h : b ≤ a) : ∀ {r : List V}, ris m a r = true → ris m b r = true
  | [], _ => rfl
  | x :: r, q => by
    cases x with
    | int y =>
      refine cond_e (show cond (decide (y ≤ a)) false (cond (decide (m ≤ y)) false (ris m y r)) = true from q) (fun _ z => nomatch z) fun e1 q => cond_e q (fun _ z => nomatch z) fun e2 q => ?_
      have e1 := of_decide_eq_false e1
      have e2 := of_decide_eq_false e2
      exact ris_i (by omega) (by omega) q
    | _ => cases q
theorem hands_ris : ∀ (n : Nat) (b k : Int), ris (k + n) (k - 1) (iV (handsF n b k)) = true
  | 0, _, _ => rfl
  | n + 1, b, k => by
    have ih := hands_ris n (Int.fdiv b 2) (k + 1)
    rw [show k + 1 + (n : Int) = k + ((n + 1 : Nat) : Int) by omega, show k + 1 - 1 = k by omega] at ih
    show ris _ _ (iV (cond (decide (Int.fmod b 2 = 1)) [k] [] ++ handsF n (Int.fdiv b 2) (k + 1))) = true
    cases decide (Int.fmod b 2 = 1) with
    | true => exact ris_i (by omega) (by omega) ih
    | false => exact ris_mono (by omega) ih
theorem ris_last {m y : Int} : ∀ {l : List Int} {a : Int}, ris m a (iV l ++ [.int y]) = true → y < m ∧ ∀ x ∈ l, x < y
  | [], a, h => by
    refine cond_e (show cond (decide (y ≤ a)) false (cond (decide (m ≤ y)) false true) = true from h) (fun _ z => nomatch z) fun e1 q => cond_e q (fun _ z => nomatch z) fun e2 q => ?_
    have e2 := of_decide_eq_false e2
    exact ⟨by omega, fun x hx => nomatch hx⟩
  | z :: r, a, h => by
    refine cond_e (show cond (decide (z ≤ a)) false (cond (decide (m ≤ z)) false (ris m z (iV r ++ [.int y]))) = true from h) (fun _ z => nomatch z) fun e1 q => cond_e q (fun _ z => nomatch z) fun e2 q => ?_
    obtain ⟨h1, h2⟩ := ris_last q
    have hz : ∀ {r : List Int} {z : Int}, ris m z (iV r ++ [.int y]) = true → z < y := fun {r} => by
      induction r with
      | nil =>
        intro z h
        refine cond_e (show cond (decide (y ≤ z)) false (cond (decide (m ≤ y)) false true) = true from h) (fun _ z => nomatch z) fun e1 q => ?_
        have e1 := of_decide_eq_false e1
        omega
      | cons x r ih =>
        intro z h
        refine cond_e (show cond (decide (x ≤ z)) false (cond (decide (m ≤ x)) false (ris m x (iV r ++ [.int y]))) = true from h) (fun _ z => nomatch z) fun e1 q => cond_e q (fun _ z => nomatch z) fun e2 q => ?_
        have e1 := of_decide_eq_false e1
        have := ih q
        omega
    exact ⟨h1, fun x hx => (List.mem_cons.mp hx).elim (fun e => e ▸ hz q) (h2 x)⟩
theorem okL_one {mm : Nat} (h : 1 ≤ mm) : okL mm (iV [(mm : Int) - 1]) = true := ris_i (m := mm) (a := -1) (y := (mm : Int) - 1) (r := []) (by omega) (by omega) rfl
section
variable {is : List Int} {K : FX → Sy (Option FolkW) → Prop} {kx : Nat → Sy (Option FolkW) → Prop} {x : V}
theorem c2 (hx : isMany x = true) (h : ∀ mm : Nat, 1 ≤ mm → mm ≤ 9 → (badN x = false → x = .int mm) → K .next ⟨[], [(24, .v (.lst (is.map .int))), (28, .v x), (107, .v (.int mm))], none⟩) : sxS tb.P CZ S_law_2 ⟨[], [(24, .v (.lst (is.map .int))), (28, .v x)], none⟩ K kx := by
  refine ⟨by decide, ?_⟩
  refine ⟨rfl, ?_⟩
  cases x with
  | int i =>
    refine Br_i (fun c => ?_) (fun c => ?_)
    · have c := (Bool.and_eq_true ..).mp c
      have c1 := of_decide_eq_true c.1
      have c2 := of_decide_eq_true c.2
      obtain ⟨n, rfl⟩ := Int.eq_ofNat_of_zero_le (show 0 ≤ i by omega)
      exact h n (by omega) (by omega) fun _ => rfl
    · refine h 5 (by decide) (by decide) fun e => ?_
      obtain ⟨e1, e2⟩ := badN_e e
      have e1 := of_decide_eq_false e1
      have e2 := of_decide_eq_false e2
      rw [decide_eq_true (show 1 ≤ i by omega), decide_eq_true (show i < 10 by omega)] at c
      cases c
  | bool b =>
    cases b with
    | true => exact h 5 (by decide) (by decide) fun e => nomatch e
    | false => exact h 5 (by decide) (by decide) fun e => nomatch e
  | str t => exact h 5 (by decide) (by decide) fun e => nomatch e
  | none => exact h 5 (by decide) (by decide) fun e => nomatch e
  | _ => cases hx
variable {mm : Nat}
theorem c3 (h9 : mm ≤ 9) (h : K .next ⟨[.dead], [(24, .v (.lst (is.map .int))), (28, .v x), (107, .v (.int mm)), (105, .v (.lst (iV (handsF mm (dr is 1) 0))))], none⟩) : sxS tb.P CZ S_law_3 ⟨[], [(24, .v (.lst (is.map .int))), (28, .v x), (107, .v (.int mm))], none⟩ K kx := by
  refine ⟨is, 1, rfl, ?_⟩
  refine ⟨dr is 1, mm, by omega, rfl, ?_⟩
  exact h
theorem c4 {l : List Int} (hl : l = [] ∨ okL mm (iV l) = true) (h1 : 1 ≤ mm) (h : ∀ fi : List Int, okL mm (iV fi) = true → K .next ⟨[.dead], [(24, .v (.lst (is.map .int))), (28, .v x), (107, .v (.int mm)), (105, .v (.lst (iV fi)))], none⟩) : sxS tb.P CZ S_law_4 ⟨[.dead], [(24, .v (.lst (is.map .int))), (28, .v x), (107, .v (.int mm)), (105, .v (.lst (iV l)))], none⟩ K kx := by
  refine ⟨Nat.zero_le _, ?_⟩
  refine Ys_i (iV_dat 11 l) ?_
  cases l with
  | nil =>
    refine ⟨by show 1 ≤ 1048576; decide, ?_⟩
    exact h [(mm : Int) - 1] (okL_one h1)
  | cons y r => exact h (y :: r) (hl.resolve_left fun e => nomatch e)
theorem c5 (hx : isMany x = true) {fv : V} (h : K .next ⟨[.dead], [(24, .v (.lst (is.map .int))), (28, .v x), (107, .v (.int mm)), (105, .v fv), (13, .v (.str (cond (badN x) s_hand s_empty)))], none⟩) : sxS tb.P CZ S_law_5 ⟨[.dead], [(24, .v (.lst (is.map .int))), (28, .v x), (107, .v (.int mm)), (105, .v fv)], none⟩ K kx := by
  cases x with
  | int i =>
    refine ⟨by decide, ?_⟩
    refine ⟨rfl, ?_⟩
    refine Br_i (fun c => ?_) (fun c => ?_)
    · have : badN (.int i) = true := by
        cases q : badN (.int i) with
        | true => rfl
        | false =>
          obtain ⟨e1, e2⟩ := badN_e q
          have e1 := of_decide_eq_false e1
          have e2 := of_decide_eq_false e2
          rw [decide_eq_true (show 1 ≤ i by omega), decide_eq_true (show i < 10 by omega)] at c
          cases c
      rw [this] at h; exact h
    · have : badN (.int i) = false := by
        cases q : (decide (1 ≤ i) && decide (i < 10)) with
        | false => rw [q] at c; cases c
        | true =>
          have q := (Bool.and_eq_true ..).mp q
          have c1 := of_decide_eq_true q.1
          have c2 := of_decide_eq_true q.2
          show cond (decide (i < 1)) true (decide (9 < i)) = false
          rw [decide_eq_false (by omega), decide_eq_false (by omega)]; rfl
      rw [this] at h; exact h
  | bool b =>
    cases b with
    | true => exact h
    | false =>
      refine ⟨by decide, ?_⟩
      refine ⟨rfl, ?_⟩
      exact h
  | str t =>
    refine ⟨by decide, ?_⟩
    refine ⟨rfl, ?_⟩
    exact h
  | none =>
    refine ⟨by decide, ?_⟩
    refine ⟨rfl, ?_⟩
    exact h
  | _ => cases hx
/-- no first list -/
noncomputable def badF (mm : Nat) : V → Bool
  | .lst xs => (xs.all isIB && !okL mm xs) && Nat.ble xs.length 1000
  | .none => true
  | .tup _ => true
  | _ => false
theorem okL_e {mm : Nat} {fi : List Int} (h : okL mm (iV fi) = true) : fi ≠ [] ∧ ris mm (-1) (iV fi) = true := by
  cases fi with
  | nil => cases h
  | cons x r => exact ⟨fun z => (nomatch z), h⟩
theorem badF_app {fi : List Int} {y : Int} (hz : fi.length ≤ 100) (h : ¬ (y < mm ∧ ∀ x ∈ fi, x < y)) : badF mm (.lst (iV fi ++ [.int y])) = true := by
  show (((iV fi ++ [V.int y]).all isIB && !okL mm (iV fi ++ [V.int y])) && Nat.ble (iV fi ++ [V.int y]).length 1000) = true
  have e3 : Nat.ble (iV fi ++ [V.int y]).length 1000 = true := Nat.ble_eq.mpr (by rw [List.length_append, iV_len]; show fi.length + 1 ≤ 1000; omega)
  have e1 : (iV fi ++ [V.int y]).all isIB = true := by rw [List.all_append, all_iV]; rfl
  have e2 : okL mm (iV fi ++ [V.int y]) = ris mm (-1) (iV fi ++ [V.int y]) := by cases fi <;> rfl
  rw [e1, e2, e3]
  cases q : ris (mm : Int) (-1) (iV fi ++ [V.int y]) with
  | false => rfl
  | true => exact absurd (ris_last q) h
end
end Mine

end

section
set_option autoImplicit false
set_option linter.all false
set_option genSizeOf false
set_option genInjectivity false
namespace Mine
open PySem (Str)
section
variable {is : List Int} {K : FX → Sy (Option FolkW) → Prop} {kx : Nat → Sy (Option FolkW) → Prop} {x : V} {mm : Nat} {fi : List Int}
theorem last_at {l : List Int} (h : l ≠ []) : ∃ y, y ∈ l ∧ pyIdx (-1) (iV l).length = some (l.length - 1) ∧ (iV l)[l.length - 1]? = some (.int y) := by
  have hp : 0 < l.length := List.length_pos_iff.mpr h
  have hl : l.length - 1 < l.length := by omega
  refine ⟨l[l.length - 1], List.getElem_mem hl, ?_, ?_⟩
  · unfold pyIdx
    rw [iV_len, if_neg (by omega), if_pos (by omega)]
    congr 1
    omega
  · show (l.map V.int)[l.length - 1]? = _
    rw [List.getElem?_map, List.getElem?_eq_getElem hl]; rfl
theorem c6 (hz : fi.length ≤ 100) (ho : okL mm (iV fi) = true) (h1 : 1 ≤ mm)
    (h : K .next ⟨[.dead], [(24, .v (.lst (is.map .int))), (28, .v x), (107, .v (.int mm)), (105, .v (.lst (iV fi))), (13, .v (.str (cond (badN x) s_hand s_empty)))], none⟩)
    (h' : ∀ fv z, badF mm fv = true → K .next ⟨[.dead], [(24, .v (.lst (is.map .int))), (28, .v x), (107, .v (.int mm)), (105, .v fv), (13, .v (.str (cond (badN x) s_hand s_list))), (132, z)], none⟩) :
    sxS tb.P CZ S_law_6 ⟨[.dead], [(24, .v (.lst (is.map .int))), (28, .v x), (107, .v (.int mm)), (105, .v (.lst (iV fi))), (13, .v (.str (cond (badN x) s_hand s_empty)))], none⟩ K kx := by
  obtain ⟨hne, hr⟩ := okL_e ho
  obtain ⟨y, hy, e1, e2⟩ := last_at hne
  have ll : (iV fi).length + 1 ≤ SZ := by rw [iV_len]; unfold SZ; omega
  have ll2 : ∀ v : V, (iV fi ++ [v]).length ≤ SZ := fun v => by rw [List.length_append]; exact ll
  refine ⟨is, 2, rfl, ?_⟩
  refine ⟨by decide, ?_⟩
  refine Br_i (fun c => ?_) (fun c => ?_)
  · refine ⟨Nat.zero_le _, ?_⟩
    refine ⟨by show 1 ≤ 1048576; decide, ?_⟩
    refine ⟨ll2 _, ?_⟩
    refine need_i e1 (need_i e2 ?_)
    refine ⟨by show 1 ≤ 1048576; decide, ?_⟩
    refine ⟨ll2 _, ?_⟩
    refine ⟨by show 1 ≤ 1048576; decide, ?_⟩
    refine ⟨by show 1 ≤ 1048576; decide, ?_⟩
    refine ⟨by show 1 ≤ 1048576; decide, ?_⟩
    refine ⟨by show 8 ≤ 1048576; decide, ?_⟩
    refine ⟨is, 2, rfl, ?_⟩
    refine ⟨by decide, ?_⟩
    refine ⟨by decide, ?_⟩
    refine at_mod (n := 8) rfl (by decide) fun v hv => ?_
    have hb : badF mm v = true := by
      simp only [List.mem_cons, List.not_mem_nil, or_false] at hv
      rcases hv with rfl | rfl | rfl | rfl | rfl | rfl | rfl | rfl
      · rfl
      · exact badF_app hz fun q => absurd q.1 (by omega)
      · exact badF_app hz fun q => absurd (q.2 y hy) (by omega)
      all_goals rfl
    cases q : badN x with
    | true => rw [q] at h'; exact h' v _ hb
    | false => rw [q] at h'; exact h' v _ hb
  · exact h
end
end Mine

end

section
set_option autoImplicit false
set_option linter.all false
set_option genSizeOf false
set_option genInjectivity false
namespace Mine
open PySem (Str)
section
variable {is : List Int} {K : FX → Sy (Option FolkW) → Prop} {kx : Nat → Sy (Option FolkW) → Prop} {x : V} {mm : Nat} {r : PSs} {t : List (Nat × SV)} (ht : t = [] ∨ ∃ z, t = [(132, z)]) (hK : ∀ s, K (.ret (.v (.bool true))) s)
include ht hK
/-- the count is none: a list, or another thing, is handed on -/
theorem bad52l {xs : List V} (hx : badN x = true) (hz : xs.length ≤ SZ) : sxSs tb.P CZ (.cons S_law_7 (.cons S_law_8 (.cons S_law_9 r))) ⟨[.dead], (24, .v (.lst (is.map .int))) :: (28, .v x) :: (107, .v (.int mm)) :: (105, .v (.lst xs)) :: (13, .v (.str s_hand)) :: t, none⟩ K kx := by
  rcases ht with rfl | ⟨z, rfl⟩
  all_goals
    refine ⟨hz, ?_⟩
    refine InitR.hand rfl hx ?_
    refine WordsR.mk (c := 52) rfl rfl (by decide) ?_
    exact hK _
theorem bad52n (hx : badN x = true) : sxSs tb.P CZ (.cons S_law_7 (.cons S_law_8 (.cons S_law_9 r))) ⟨[.dead], (24, .v (.lst (is.map .int))) :: (28, .v x) :: (107, .v (.int mm)) :: (105, .v .none) :: (13, .v (.str s_hand)) :: t, none⟩ K kx := by
  rcases ht with rfl | ⟨z, rfl⟩
  all_goals
    refine InitR.hand rfl hx ?_
    refine WordsR.mk (c := 52) rfl rfl (by decide) ?_
    exact hK _
theorem bad52t {xs : List V} (hx : badN x = true) : sxSs tb.P CZ (.cons S_law_7 (.cons S_law_8 (.cons S_law_9 r))) ⟨[.dead], (24, .v (.lst (is.map .int))) :: (28, .v x) :: (107, .v (.int mm)) :: (105, .v (.tup xs)) :: (13, .v (.str s_hand)) :: t, none⟩ K kx := by
  rcases ht with rfl | ⟨z, rfl⟩
  all_goals
    refine InitR.hand rfl hx ?_
    refine WordsR.mk (c := 52) rfl rfl (by decide) ?_
    exact hK _
theorem bad53l {xs : List V} (hx : badN (.int mm) = false) (hz : xs.length ≤ SZ) (ha : xs.all isIB = true) (ho : okL mm xs = false) : sxSs tb.P CZ (.cons S_law_7 (.cons S_law_8 (.cons S_law_9 r))) ⟨[.dead], (24, .v (.lst (is.map .int))) :: (28, .v (.int mm)) :: (107, .v (.int mm)) :: (105, .v (.lst xs)) :: (13, .v (.str s_list)) :: t, none⟩ K kx := by
  rcases ht with rfl | ⟨z, rfl⟩
  all_goals
    refine ⟨hz, ?_⟩
    refine InitR.lst (xs := xs) rfl hx (.s rfl) ha ho ?_
    refine WordsR.mk (c := 53) rfl rfl (by decide) ?_
    exact hK _
theorem bad53n (hx : badN (.int mm) = false) : sxSs tb.P CZ (.cons S_law_7 (.cons S_law_8 (.cons S_law_9 r))) ⟨[.dead], (24, .v (.lst (is.map .int))) :: (28, .v (.int mm)) :: (107, .v (.int mm)) :: (105, .v .none) :: (13, .v (.str s_list)) :: t, none⟩ K kx := by
  rcases ht with rfl | ⟨z, rfl⟩
  all_goals
    refine InitR.no rfl hx rfl ?_
    refine WordsR.mk (c := 53) rfl rfl (by decide) ?_
    exact hK _
theorem bad53t {xs : List V} (hx : badN (.int mm) = false) : sxSs tb.P CZ (.cons S_law_7 (.cons S_law_8 (.cons S_law_9 r))) ⟨[.dead], (24, .v (.lst (is.map .int))) :: (28, .v (.int mm)) :: (107, .v (.int mm)) :: (105, .v (.tup xs)) :: (13, .v (.str s_list)) :: t, none⟩ K kx := by
  rcases ht with rfl | ⟨z, rfl⟩
  all_goals
    refine InitR.no rfl hx rfl ?_
    refine WordsR.mk (c := 53) rfl rfl (by decide) ?_
    exact hK _
end
end Mine

end

section
set_option autoImplicit false
set_option linter.all false
set_option genSizeOf false
set_option genInjectivity false
namespace Mine
open PySem (Str)
section
variable {is : List Int} {K : FX → Sy (Option FolkW) → Prop} {kx : Nat → Sy (Option FolkW) → Prop} {mm : Nat} {fi : List Int} (h1 : 1 ≤ mm) (h9 : mm ≤ 9) (ho : okL mm (iV fi) = true) (hz : fi.length ≤ 100)
include h1 h9 ho hz
theorem c789 {r : PSs} (h : ∀ w : FolkW, w.S = beg mm fi fi → sxSs tb.P CZ r ⟨[.dead, .list (iV fi), .w 60 [(18, .int mm)]], [(24, .v (.lst (is.map .int))), (28, .v (.int mm)), (107, .v (.int mm)), (105, .v (.lst (iV fi))), (13, .v (.str s_empty)), (39, .s 1), (106, .s 2)], some w⟩ K kx) :
    sxSs tb.P CZ (.cons S_law_7 (.cons S_law_8 (.cons S_law_9 r))) ⟨[.dead], [(24, .v (.lst (is.map .int))), (28, .v (.int mm)), (107, .v (.int mm)), (105, .v (.lst (iV fi))), (13, .v (.str s_empty))], none⟩ K kx := by
  refine ⟨by rw [iV_len]; unfold SZ; omega, ?_⟩
  refine InitR.ok rfl rfl rfl (.s rfl) h1 h9 ho fun w hS => ?_
  exact h w hS
theorem c10 {w : FolkW} (hS : w.S = beg mm fi fi) (h : ∀ w : FolkW, w.S = beg mm fi fi → K .next ⟨[.dead, .list (iV fi), .w 60 [(18, .int mm)], .dead], [(24, .v (.lst (is.map .int))), (28, .v (.int mm)), (107, .v (.int mm)), (105, .v (.lst (iV fi))), (13, .v (.str s_empty)), (39, .s 1), (106, .s 2)], some w⟩) :
    sxS tb.P CZ S_law_10 ⟨[.dead, .list (iV fi), .w 60 [(18, .int mm)]], [(24, .v (.lst (is.map .int))), (28, .v (.int mm)), (107, .v (.int mm)), (105, .v (.lst (iV fi))), (13, .v (.str s_empty)), (39, .s 1), (106, .s 2)], some w⟩ K kx := by
  refine Br_i (fun c => ?_) (fun c => ?_)
  · rw [show eqD (.int mm) (.int mm) = true from decide_eq_true rfl] at c; cases c
  refine LetR.mk rfl ⟨rfl, ⟨_, rfl⟩, hS, h1, hz⟩ fun w' hS' => ?_
  refine ⟨Nat.zero_le _, ?_⟩
  exact h w' hS'
theorem c11 {w : FolkW} (h : K .next ⟨[.dead, .list (iV fi ++ [.int 3]), .w 60 [(18, .int mm)], .dead], [(24, .v (.lst (is.map .int))), (28, .v (.int mm)), (107, .v (.int mm)), (105, .v (.lst (iV fi))), (13, .v (.str s_empty)), (39, .s 1), (106, .s 2)], some w⟩) :
    sxS tb.P CZ S_law_11 ⟨[.dead, .list (iV fi), .w 60 [(18, .int mm)], .dead], [(24, .v (.lst (is.map .int))), (28, .v (.int mm)), (107, .v (.int mm)), (105, .v (.lst (iV fi))), (13, .v (.str s_empty)), (39, .s 1), (106, .s 2)], some w⟩ K kx := by
  refine ⟨by rw [iV_len]; unfold SZ; omega, ?_⟩
  exact h
end
end Mine

end

section
set_option autoImplicit false
set_option linter.all false
set_option genSizeOf false
set_option genInjectivity false
namespace Mine
open PySem (Str)
theorem rng_cons {k : Int} {m : Nat} {x : V} {r : List V} (h : x :: r = rngL k 1 m) : ∃ m', m = m' + 1 ∧ x = .int k ∧ r = rngL (k + 1) 1 m' := by
  cases m with
  | zero => cases h
  | succ m => cases h; exact ⟨m, rfl, rfl, rfl⟩
section
variable {is : List Int} {K : FX → Sy (Option FolkW) → Prop} {kx : Nat → Sy (Option FolkW) → Prop} {mm : Nat} {fi : List Int} (h1 : 1 ≤ mm) (h9 : mm ≤ 9) (hz : fi.length ≤ 100) {a b d : SC} {fs : List (Nat × V)}
inductive C12I (is : List Int) (mm : Nat) (fi : List Int) (a b d : SC) (fs : List (Nat × V)) (r : List V) (s : Sy (Option FolkW)) : Prop
  | mk (n m : Nat) (w : FolkW) (t : List (Nat × SV)) (hn : n + m = mm) (hr : r = rngL n 1 m) (hS : w.S = beg mm fi fi) (ht : (n = 0 ∧ t = []) ∨ ∃ z, t = [(29, z)]) (hs : s = ⟨[a, b, .w 60 fs, d], (24, .v (.lst (is.map .int))) :: (28, .v (.int mm)) :: (107, .v (.int mm)) :: (105, .v (.lst (iV fi))) :: (13, .v (.str s_empty)) :: (39, .s 1) :: (106, .s 2) :: t, some w⟩)
include h1 h9 hz
theorem c12 {w : FolkW} (hS : w.S = beg mm fi fi) (h : ∀ (w : FolkW) z, w.S = beg mm fi fi → K .next ⟨[a, b, .w 60 fs, d], [(24, .v (.lst (is.map .int))), (28, .v (.int mm)), (107, .v (.int mm)), (105, .v (.lst (iV fi))), (13, .v (.str s_empty)), (39, .s 1), (106, .s 2), (29, z)], some w⟩) :
    sxS tb.P CZ S_law_12 ⟨[a, b, .w 60 fs, d], [(24, .v (.lst (is.map .int))), (28, .v (.int mm)), (107, .v (.int mm)), (105, .v (.lst (iV fi))), (13, .v (.str s_empty)), (39, .s 1), (106, .s 2)], some w⟩ K kx := by
  refine ⟨by show ((mm : Int)).natAbs ≤ 1048576; omega, ?_⟩
  refine .mk (C12I is mm fi a b d fs) ⟨0, mm, w, [], by omega, by rw [rngN_nat]; rfl, hS, .inl ⟨rfl, rfl⟩, rfl⟩ ⟨fun r s' i => rfl, fun s' i => ?_, fun x r s' i => ?_⟩
  · obtain ⟨n, m, w', t, hn, hr, hS', ht, rfl⟩ := i
    cases m with
    | succ m => cases hr
    | zero =>
      rcases ht with ⟨e, _⟩ | ⟨z, rfl⟩
      · omega
      · exact h w' z hS'
  · obtain ⟨n, m, w', t, hn, hr, hS', ht, rfl⟩ := i
    obtain ⟨m', rfl, rfl, rfl⟩ := rng_cons hr
    have hn' : n < mm := by omega
    rcases ht with ⟨_, rfl⟩ | ⟨z, rfl⟩
    · refine RightR.mk (i := n) rfl ⟨rfl, ⟨_, rfl⟩, hS', h1, hz⟩ hn' fun w'' h'' => ?_
      exact ⟨n + 1, m', w'', _, by omega, rfl, h'', .inr ⟨_, rfl⟩, rfl⟩
    · refine RightR.mk (i := n) rfl ⟨rfl, ⟨_, rfl⟩, hS', h1, hz⟩ hn' fun w'' h'' => ?_
      exact ⟨n + 1, m', w'', _, by omega, rfl, h'', .inr ⟨_, rfl⟩, rfl⟩
theorem c13 {w : FolkW} {z : SV} (h : ∀ v, badH mm v = true → K .next ⟨[a, b, .w 60 fs, d], [(24, .v (.lst (is.map .int))), (28, .v (.int mm)), (107, .v (.int mm)), (105, .v (.lst (iV fi))), (13, .v (.str s_empty)), (39, .s 1), (106, .s 2), (29, z), (45, .v v)], some w⟩) :
    sxS tb.P CZ S_law_13 ⟨[a, b, .w 60 fs, d], [(24, .v (.lst (is.map .int))), (28, .v (.int mm)), (107, .v (.int mm)), (105, .v (.lst (iV fi))), (13, .v (.str s_empty)), (39, .s 1), (106, .s 2), (29, z)], some w⟩ K kx := by
  refine ⟨by show 6 ≤ 1048576; decide, ?_⟩
  refine ⟨is, 3, rfl, ?_⟩
  refine ⟨by decide, ?_⟩
  refine at_mod (n := 6) rfl (by decide) fun v hv => ?_
  refine h v ?_
  simp only [List.mem_cons, List.not_mem_nil, or_false] at hv
  rcases hv with rfl | rfl | rfl | rfl | rfl | rfl
  · rfl
  · show cond (decide ((mm : Int) < 0)) true (decide ((mm : Int) ≤ mm)) = true
    rw [decide_eq_true (Int.le_refl _)]; cases decide ((mm : Int) < 0) <;> rfl
  all_goals rfl
inductive C14I (mm : Nat) (fi : List Int) (cs : List SC) (l : List (Nat × SV)) (r acc : List V) (s : Sy (Option FolkW)) : Prop
  | mk (n m : Nat) (w : FolkW) (t : List (Nat × SV)) (hn : n + m = 6) (hr : r = rngL n 1 m) (ha : acc = List.replicate n (.str s_hand)) (hS : w.S = beg mm fi fi) (ht : t = l ∨ ∃ z, t = l ++ [(31, z)]) (hs : s = ⟨cs, t, some w⟩)
theorem c14 {w : FolkW} (hS : w.S = beg mm fi fi) {z : SV} {v : V} (hv : badH mm v = true) (hK : ∀ s, K (.ret (.v (.bool true))) s) :
    sxS tb.P CZ S_law_14 ⟨[a, b, .w 60 fs, d], [(24, .v (.lst (is.map .int))), (28, .v (.int mm)), (107, .v (.int mm)), (105, .v (.lst (iV fi))), (13, .v (.str s_empty)), (39, .s 1), (106, .s 2), (29, z), (45, .v v)], some w⟩ K kx := by
  refine ⟨by decide, ?_⟩
  refine .mk (C14I mm fi [a, b, .w 60 fs, d] [(24, .v (.lst (is.map .int))), (28, .v (.int mm)), (107, .v (.int mm)), (105, .v (.lst (iV fi))), (13, .v (.str s_empty)), (39, .s 1), (106, .s 2), (29, z), (45, .v v)]) ⟨0, 6, w, _, rfl, rfl, rfl, hS, .inl rfl, rfl⟩ ⟨fun r acc s' i => rfl, fun r acc s' i => ?_, fun acc s' i => ?_, fun x r acc s' i => ?_⟩
  · obtain ⟨n, m, w', t, hn, rfl, rfl, hS', ht, rfl⟩ := i
    have : ∀ (k : Int) (m : Nat), (rngL k 1 m).length = m := fun k m => by
      induction m generalizing k with
      | zero => rfl
      | succ m ih => exact congrArg (· + 1) (ih (k + 1))
    rw [List.length_replicate, this]; unfold SZ; omega
  · obtain ⟨n, m, w', t, hn, hr, rfl, hS', ht, rfl⟩ := i
    cases m with
    | succ m => cases hr
    | zero =>
      have hn : n = 6 := by omega
      subst hn
      refine ⟨by decide, ?_⟩
      refine ⟨by decide, ?_⟩
      refine ⟨by decide, ?_⟩
      refine ⟨by decide, ?_⟩
      exact hK _
  · obtain ⟨n, m, w', t, hn, hr, rfl, hS', ht, rfl⟩ := i
    obtain ⟨m', rfl, rfl, rfl⟩ := rng_cons hr
    have hn' : n < 6 := by omega
    rcases ht with rfl | ⟨z', rfl⟩
    · refine AskdR.bad (way := n) rfl hn' ⟨rfl, ⟨_, rfl⟩, hS', h1, hz⟩ hv fun w'' h'' => ?_
      exact ⟨n + 1, m', w'', _, by omega, rfl, (List.replicate_succ' ..).symm, h'', .inr ⟨_, rfl⟩, rfl⟩
    · refine AskdR.bad (way := n) rfl hn' ⟨rfl, ⟨_, rfl⟩, hS', h1, hz⟩ hv fun w'' h'' => ?_
      exact ⟨n + 1, m', w'', _, by omega, rfl, (List.replicate_succ' ..).symm, h'', .inr ⟨_, rfl⟩, rfl⟩
end
end Mine

end

section
set_option autoImplicit false
set_option linter.all false
set_option genSizeOf false
set_option genInjectivity false
namespace Mine
open PySem (Str)
section
variable {is : List Int} {K : FX → Sy (Option FolkW) → Prop} {kx : Nat → Sy (Option FolkW) → Prop} (hK : ∀ s, K (.ret (.v (.bool true))) s)
include hK
theorem good10 {mm : Nat} {fi : List Int} (h1 : 1 ≤ mm) (h9 : mm ≤ 9) (ho : okL mm (iV fi) = true) (hz : fi.length ≤ 100) {w : FolkW} (hS : w.S = beg mm fi fi) :
    sxSs tb.P CZ (.cons S_law_10 (.cons S_law_11 (.cons S_law_12 (.cons S_law_13 (.cons S_law_14 .nil))))) ⟨[.dead, .list (iV fi), .w 60 [(18, .int mm)]], [(24, .v (.lst (is.map .int))), (28, .v (.int mm)), (107, .v (.int mm)), (105, .v (.lst (iV fi))), (13, .v (.str s_empty)), (39, .s 1), (106, .s 2)], some w⟩ K kx := by
  refine stm (c10 h1 h9 ho hz hS fun w hS => nxt ?_)
  refine stm (c11 h1 h9 ho hz (nxt ?_))
  refine stm (c12 h1 h9 hz hS fun w z hS => nxt ?_)
  refine stm (c13 h1 h9 hz fun v hv => nxt ?_)
  exact stm (c14 h1 h9 hz hS hv fun s => hK s)
theorem law_run : sxSs tb.P CZ F_law.body ⟨[], [(24, .v (.lst (is.map .int)))], none⟩ K kx := by
  refine stm (c0 (nxt ?_))
  refine stm (c1 fun x hx => nxt ?_)
  refine stm (c2 hx fun mm h1 h9 hm => nxt ?_)
  refine stm (c3 h9 (nxt ?_))
  have hl : handsF mm (dr is 1) 0 = [] ∨ okL mm (iV (handsF mm (dr is 1) 0)) = true := by
    have := hands_ris mm (dr is 1) 0
    rw [Int.zero_add, Int.zero_sub] at this
    generalize handsF mm (dr is 1) 0 = l at this
    cases l with
    | nil => exact .inl rfl
    | cons y r => exact .inr this
  refine stm (c4 hl h1 fun fi ho => nxt ?_)
  have hz : fi.length ≤ 100 := by have := ris_len (okL_e ho).2 (by omega); omega
  have hz' : (iV fi).length ≤ SZ := by rw [iV_len]; unfold SZ; omega
  refine stm (c5 hx (nxt ?_))
  refine stm (c6 hz ho h1 (nxt ?_) fun fv z hb => nxt ?_)
  · cases q : badN x with
    | true => exact bad52l (.inl rfl) hK q hz'
    | false =>
      cases hm q
      exact c789 h1 h9 ho hz fun w hS => good10 hK h1 h9 ho hz hS
  · cases q : badN x with
    | true =>
      cases fv with
      | lst xs =>
        have hb : ((xs.all isIB && !okL mm xs) && Nat.ble xs.length 1000) = true := hb
        exact bad52l (.inr ⟨z, rfl⟩) hK q (Nat.le_trans (Nat.ble_eq.mp ((Bool.and_eq_true ..).mp hb).2) (by decide))
      | none => exact bad52n (.inr ⟨z, rfl⟩) hK q
      | tup xs => exact bad52t (.inr ⟨z, rfl⟩) hK q
      | _ => cases hb
    | false =>
      cases hm q
      cases fv with
      | lst xs =>
        have hb : ((xs.all isIB && !okL mm xs) && Nat.ble xs.length 1000) = true := hb
        have hb := (Bool.and_eq_true ..).mp hb
        have hb1 := (Bool.and_eq_true ..).mp hb.1
        exact bad53l (.inr ⟨z, rfl⟩) hK q (Nat.le_trans (Nat.ble_eq.mp hb.2) (by decide)) hb1.1 (by cases e : okL mm xs with | false => rfl | true => rw [e] at hb1; cases hb1.2)
      | none => exact bad53n (.inr ⟨z, rfl⟩) hK q
      | tup xs => exact bad53t (.inr ⟨z, rfl⟩) hK q
      | _ => cases hb
end
theorem mtZ (H : Hp) (lo : Loc) : Mt (MF (fun _ => False) fun _ => none) [] ⟨[], [], none⟩ ⟨H, lo⟩ := ⟨rfl, fun j a c h => (nomatch h), fun i j a h => (nomatch h), fun j a h => (nomatch h), fun i sv h => (nomatch h), fun _ => False, ⟨fun _ => Iff.rfl, fun _ h => h.elim⟩, fun j a h => (nomatch h), fun a h => h.elim⟩
theorem main02 (H : Hp) (is : List Int) : CW tb.P 7 14 [.lst (is.map .int)] H (fun v _ => v = .bool true) fun _ _ => False := by
  refine callX_ok (spZ_ok (fun _ => False) fun _ => none) 0 7 14 [.v (.lst (is.map .int))] ⟨[], [], none⟩ (fun r _ => r = .v (.bool true)) noX [] ⟨H, fun _ => none⟩ _ _ _ ?_ (mtZ H _) (.cons rfl .nil) (fun r s₁ ad₁ σ₁ v x m₁ dv z e => ?_) fun r s₁ ad₁ σ₁ b x m₁ hb z e => z
  · exact law_run (K := fun fl s₁ => retX fl = .v (.bool true)) fun s => rfl
  · subst z; exact (Option.some.inj dv).symm
end Mine

end

section
open PySem PySem.W PyProof.Rows
set_option maxRecDepth 100000
set_option maxHeartbeats 8000000
namespace Mine
theorem head02.tw10021406370128101054 : True := trivial
theorem head02.tw10024062053448061581 : True := trivial
theorem head02.tw10038197746042231960 : True := trivial
theorem head02.tw10078633825190331808 : True := trivial
theorem head02.tw1009986227173582305 : True := trivial
theorem head02.tw10104752189315335552 : True := trivial
theorem head02.tw10143862841265614960 : True := trivial
theorem head02.tw10146983032440154468 : True := trivial
theorem head02.tw1015401463609655870 : True := trivial
theorem head02.tw10160194807309442991 : True := trivial
theorem head02.tw10181236545146475111 : True := trivial
theorem head02.tw10193206128282054362 : True := trivial
theorem head02.tw10256423936666323213 : True := trivial
theorem head02.tw10289764699513040281 : True := trivial
theorem head02.tw10321345369573306741 : True := trivial
theorem head02.tw10389886864433449909 : True := trivial
theorem head02.tw10414908817836937840 : True := trivial
theorem head02.tw10421976532875593482 : True := trivial
theorem head02.tw1045668341571755709 : True := trivial
theorem head02.tw10462973108271626324 : True := trivial
theorem head02.tw105139928300949896 : True := trivial
theorem head02.tw10565121976804151136 : True := trivial
theorem head02.tw10620986914215161485 : True := trivial
theorem head02.tw10660250674418113517 : True := trivial
theorem head02.tw10725757068293082242 : True := trivial
theorem head02.tw10779217953795216645 : True := trivial
theorem head02.tw10800124561791722315 : True := trivial
theorem head02.tw10838329587495622673 : True := trivial
theorem head02.tw10871338237145431533 : True := trivial
theorem head02.tw10876671399204594838 : True := trivial
theorem head02.tw10937067316070493945 : True := trivial
theorem head02.tw11009338471078968669 : True := trivial
theorem head02.tw11016360384811029297 : True := trivial
theorem head02.tw11021198157935434101 : True := trivial
theorem head02.tw11092361480344794704 : True := trivial
theorem head02.tw11114993286919986880 : True := trivial
theorem head02.tw11117165770765937070 : True := trivial
theorem head02.tw11242726955394214010 : True := trivial
theorem head02.tw1132093611855151077 : True := trivial
theorem head02.tw11358781585325139347 : True := trivial
theorem head02.tw11360334399096084099 : True := trivial
theorem head02.tw11378259793773608752 : True := trivial
theorem head02.tw1141650423356568672 : True := trivial
theorem head02.tw11471343863448206283 : True := trivial
theorem head02.tw11478347798374465209 : True := trivial
theorem head02.tw11555617678944249303 : True := trivial
theorem head02.tw11607929042352685070 : True := trivial
theorem head02.tw11625603684812887298 : True := trivial
theorem head02.tw11661945490053521908 : True := trivial
theorem head02.tw11668010718786097911 : True := trivial
theorem head02.tw11707173510317344972 : True := trivial
theorem head02.tw11712693804075946959 : True := trivial
theorem head02.tw11722608144445395889 : True := trivial
theorem head02.tw11723852511608222544 : True := trivial
theorem head02.tw11730894806740815570 : True := trivial
theorem head02.tw1174241272796512609 : True := trivial
theorem head02.tw11762796182814245835 : True := trivial
theorem head02.tw11782357735378940387 : True := trivial
theorem head02.tw11813142782577488869 : True := trivial
theorem head02.tw11884513713275698301 : True := trivial
theorem head02.tw1200905123645371118 : True := trivial
theorem head02.tw1203781418280035043 : True := trivial
theorem head02.tw12061183570282330026 : True := trivial
theorem head02.tw12069816540992781306 : True := trivial
theorem head02.tw12088220518411872348 : True := trivial
theorem head02.tw1214443753900065305 : True := trivial
theorem head02.tw12184268765395824784 : True := trivial
theorem head02.tw12192478757904190139 : True := trivial
theorem head02.tw12246913906207698984 : True := trivial
theorem head02.tw122479589386095325 : True := trivial
theorem head02.tw12256078081177060249 : True := trivial
theorem head02.tw12334582640392773962 : True := trivial
theorem head02.tw12337930323399416603 : True := trivial
theorem head02.tw12415417340420867413 : True := trivial
theorem head02.tw12426597618837042807 : True := trivial
theorem head02.tw12432814508419568098 : True := trivial
theorem head02.tw12441660726055658603 : True := trivial
theorem head02.tw12535371679164491929 : True := trivial
theorem head02.tw12623131106102264278 : True := trivial
theorem head02.tw12700677078071079413 : True := trivial
theorem head02.tw1277378244995713324 : True := trivial
theorem head02.tw12791542202607633924 : True := trivial
theorem head02.tw12792318056384917246 : True := trivial
theorem head02.tw12796598650612607951 : True := trivial
theorem head02.tw12875250189535224983 : True := trivial
theorem head02.tw12884616214493570 : True := trivial
theorem head02.tw12920120181171311446 : True := trivial
theorem head02.tw12922406088689965859 : True := trivial
theorem head02.tw12934443604695777152 : True := trivial
theorem head02.tw12963694528287268403 : True := trivial
theorem head02.tw13007104696371840560 : True := trivial
theorem head02.tw13060600078071197382 : True := trivial
theorem head02.tw13074046766439203487 : True := trivial
theorem head02.tw13124853815877423575 : True := trivial
theorem head02.tw13151220322158658621 : True := trivial
theorem head02.tw13169657519899371747 : True := trivial
theorem head02.tw13170683658217783728 : True := trivial
theorem head02.tw13186623695598218182 : True := trivial
theorem head02.tw13187643554611986976 : True := trivial
theorem head02.tw13216801962947746180 : True := trivial
theorem head02.tw13223080093445969713 : True := trivial
theorem head02.tw13237156210351860117 : True := trivial
theorem head02.tw13298628828058355852 : True := trivial
theorem head02.tw13303178257193920759 : True := trivial
theorem head02.tw13351320593022820558 : True := trivial
theorem head02.tw13373130974244376184 : True := trivial
theorem head02.tw13397689958455646050 : True := trivial
theorem head02.tw13401979383170691968 : True := trivial
theorem head02.tw13424592761464506408 : True := trivial
theorem head02.tw13477154540784077671 : True := trivial
theorem head02.tw13505815638982605568 : True := trivial
theorem head02.tw13515793691445273549 : True := trivial
theorem head02.tw13538107400193977316 : True := trivial
theorem head02.tw13594548548671389318 : True := trivial
theorem head02.tw1366172175659366971 : True := trivial
theorem head02.tw13705385722728590967 : True := trivial
theorem head02.tw13738870392854882195 : True := trivial
theorem head02.tw1389571076016763138 : True := trivial
theorem head02.tw13916648227296879189 : True := trivial
theorem head02.tw13971516093967633312 : True := trivial
theorem head02.tw13990699342962573403 : True := trivial
theorem head02.tw1400916877537010838 : True := trivial
theorem head02.tw14067836571244509037 : True := trivial
theorem head02.tw14090803635852129277 : True := trivial
theorem head02.tw14113479765092493948 : True := trivial
theorem head02.tw14117326839794220939 : True := trivial
theorem head02.tw14126680094256290661 : True := trivial
theorem head02.tw14159763670940849906 : True := trivial
theorem head02.tw14226662284986180332 : True := trivial
theorem head02.tw14243319024171768819 : True := trivial
theorem head02.tw14269782545734170035 : True := trivial
theorem head02.tw14277781034882702700 : True := trivial
theorem head02.tw1428162957916866056 : True := trivial
theorem head02.tw14311597084046185225 : True := trivial
theorem head02.tw14367525489564202807 : True := trivial
theorem head02.tw14377282944036138487 : True := trivial
theorem head02.tw14411762930602904439 : True := trivial
theorem head02.tw14482006221679236331 : True := trivial
theorem head02.tw14486369465462382906 : True := trivial
theorem head02.tw14500191546344551402 : True := trivial
theorem head02.tw14599602604549339878 : True := trivial
theorem head02.tw1465496886564857805 : True := trivial
theorem head02.tw14678707377506675902 : True := trivial
theorem head02.tw14689189270637423948 : True := trivial
theorem head02.tw14709163084405251657 : True := trivial
theorem head02.tw14719345920090987540 : True := trivial
theorem head02.tw14731020140844626710 : True := trivial
theorem head02.tw14746929345848467993 : True := trivial
theorem head02.tw14772139639032037190 : True := trivial
theorem head02.tw14791137771505438483 : True := trivial
theorem head02.tw14793075150229371633 : True := trivial
theorem head02.tw14802790217973498241 : True := trivial
theorem head02.tw14832079031527491982 : True := trivial
theorem head02.tw14910785884407690241 : True := trivial
theorem head02.tw14939487309963814926 : True := trivial
theorem head02.tw14974880459278577817 : True := trivial
theorem head02.tw14982843571582484728 : True := trivial
theorem head02.tw14983241413137865212 : True := trivial
theorem head02.tw14995708577728104956 : True := trivial
theorem head02.tw1502076444490957592 : True := trivial
theorem head02.tw15040465805797473248 : True := trivial
theorem head02.tw15140786261930327315 : True := trivial
theorem head02.tw15226236847817924686 : True := trivial
theorem head02.tw15238696232556541703 : True := trivial
theorem head02.tw15243240890429521925 : True := trivial
theorem head02.tw15245449752322671859 : True := trivial
theorem head02.tw15249624850670194407 : True := trivial
theorem head02.tw15270242689866327565 : True := trivial
theorem head02.tw15298236693715084645 : True := trivial
theorem head02.tw15328854524331580366 : True := trivial
theorem head02.tw15355470647205300749 : True := trivial
theorem head02.tw15465626136461863261 : True := trivial
theorem head02.tw15478082925656431695 : True := trivial
theorem head02.tw15491211167829667881 : True := trivial
theorem head02.tw15518247706635062110 : True := trivial
theorem head02.tw1552921941485345412 : True := trivial
theorem head02.tw15589207064050272290 : True := trivial
theorem head02.tw15597302665049337803 : True := trivial
theorem head02.tw15616764393726936926 : True := trivial
theorem head02.tw15639517776530331195 : True := trivial
theorem head02.tw15660455814724553649 : True := trivial
theorem head02.tw15660877825390024877 : True := trivial
theorem head02.tw15688611067572469064 : True := trivial
theorem head02.tw15689378881580124232 : True := trivial
theorem head02.tw15701607390213718104 : True := trivial
theorem head02.tw15803396875052623047 : True := trivial
theorem head02.tw15820900574217598159 : True := trivial
theorem head02.tw1582187055443788022 : True := trivial
theorem head02.tw15822310060941049946 : True := trivial
theorem head02.tw15853368799084083674 : True := trivial
theorem head02.tw15888533358025595014 : True := trivial
theorem head02.tw15928227307372491837 : True := trivial
theorem head02.tw15976128940532596092 : True := trivial
theorem head02.tw15999864562633493881 : True := trivial
theorem head02.tw16078104117279798288 : True := trivial
theorem head02.tw1614357496318531598 : True := trivial
theorem head02.tw16171555958432713776 : True := trivial
theorem head02.tw16234303783745265504 : True := trivial
theorem head02.tw16245420590583335572 : True := trivial
theorem head02.tw16262379345316078010 : True := trivial
theorem head02.tw16305911517196913210 : True := trivial
theorem head02.tw16349573534550222471 : True := trivial
theorem head02.tw1646085201440594785 : True := trivial
theorem head02.tw16479152838244173329 : True := trivial
theorem head02.tw16498891301542180145 : True := trivial
theorem head02.tw1653722865602123657 : True := trivial
theorem head02.tw16546072360438099614 : True := trivial
theorem head02.tw16670362434983735707 : True := trivial
theorem head02.tw16709137735061716079 : True := trivial
theorem head02.tw16845993168663228635 : True := trivial
theorem head02.tw16847145684281617169 : True := trivial
theorem head02.tw16876961962158377338 : True := trivial
theorem head02.tw16893908525061590087 : True := trivial
theorem head02.tw16921453342590736545 : True := trivial
theorem head02.tw16930108986936334618 : True := trivial
theorem head02.tw16931143431518084263 : True := trivial
theorem head02.tw16939501057880771210 : True := trivial
theorem head02.tw17000509283107438803 : True := trivial
theorem head02.tw17007085772430324287 : True := trivial
theorem head02.tw17024080017449901391 : True := trivial
theorem head02.tw17027327334454855877 : True := trivial
theorem head02.tw17036718941908331776 : True := trivial
theorem head02.tw17098573588954206532 : True := trivial
theorem head02.tw17121423246149620663 : True := trivial
theorem head02.tw17128917145250853236 : True := trivial
theorem head02.tw17131021373856016650 : True := trivial
theorem head02.tw17156360990468886615 : True := trivial
theorem head02.tw17175818065866800400 : True := trivial
theorem head02.tw17191591748347149266 : True := trivial
theorem head02.tw1720762608070820084 : True := trivial
theorem head02.tw17215119771752291410 : True := trivial
theorem head02.tw17219743087384318584 : True := trivial
theorem head02.tw17273643171336714872 : True := trivial
theorem head02.tw17380640064367037179 : True := trivial
theorem head02.tw17382398638663001586 : True := trivial
theorem head02.tw17398871909148062838 : True := trivial
theorem head02.tw17406823963654953834 : True := trivial
theorem head02.tw17429714704559243826 : True := trivial
theorem head02.tw17460152858695668662 : True := trivial
theorem head02.tw17507603371549342364 : True := trivial
theorem head02.tw17543395533590322683 : True := trivial
theorem head02.tw17561121286530819153 : True := trivial
theorem head02.tw17577520175146352285 : True := trivial
theorem head02.tw17612828900672201294 : True := trivial
theorem head02.tw17616604068240275346 : True := trivial
theorem head02.tw176804294314502891 : True := trivial
theorem head02.tw17699199072778966277 : True := trivial
theorem head02.tw17740320525111056975 : True := trivial
theorem head02.tw17775481596593238148 : True := trivial
theorem head02.tw17789824859276536053 : True := trivial
theorem head02.tw17794349082086720363 : True := trivial
theorem head02.tw17798453319799810922 : True := trivial
theorem head02.tw17804759196401101820 : True := trivial
theorem head02.tw17844635753487826923 : True := trivial
theorem head02.tw17876374700238099675 : True := trivial
theorem head02.tw17896584398580560163 : True := trivial
theorem head02.tw17908970820866147101 : True := trivial
theorem head02.tw17908997493570327108 : True := trivial
theorem head02.tw17931158513147329365 : True := trivial
theorem head02.tw17989690155676343054 : True := trivial
theorem head02.tw1799591540570668557 : True := trivial
theorem head02.tw18006472343439017352 : True := trivial
theorem head02.tw18007685297346752070 : True := trivial
theorem head02.tw18010869816401575953 : True := trivial
theorem head02.tw1802954191448263656 : True := trivial
theorem head02.tw18038960405710176442 : True := trivial
theorem head02.tw1807306813636149416 : True := trivial
theorem head02.tw18103646929819296804 : True := trivial
theorem head02.tw18152147872985505170 : True := trivial
theorem head02.tw18173895497630875112 : True := trivial
theorem head02.tw1824399214382817121 : True := trivial
theorem head02.tw18275648360245945747 : True := trivial
theorem head02.tw18315227086171466111 : True := trivial
theorem head02.tw18327827705540517542 : True := trivial
theorem head02.tw18330155264178428821 : True := trivial
theorem head02.tw18331839781373620724 : True := trivial
theorem head02.tw18363391444836577682 : True := trivial
theorem head02.tw18434151674664803485 : True := trivial
theorem head02.tw1876951817250087366 : True := trivial
theorem head02.tw1898072138462552513 : True := trivial
theorem head02.tw1993061398338684714 : True := trivial
theorem head02.tw2005563306804289091 : True := trivial
theorem head02.tw2029086559591133228 : True := trivial
theorem head02.tw203165184486258624 : True := trivial
theorem head02.tw2067818212226807619 : True := trivial
theorem head02.tw2153616159071462641 : True := trivial
theorem head02.tw2218889492476646098 : True := trivial
theorem head02.tw2233358659295835826 : True := trivial
theorem head02.tw2245709708224588749 : True := trivial
theorem head02.tw2248888862242804780 : True := trivial
theorem head02.tw2307166613513436920 : True := trivial
theorem head02.tw2328671703815313002 : True := trivial
theorem head02.tw2333159550416045724 : True := trivial
theorem head02.tw2333668509553486351 : True := trivial
theorem head02.tw2345838433825735569 : True := trivial
theorem head02.tw2371106772970570552 : True := trivial
theorem head02.tw2380302229102133064 : True := trivial
theorem head02.tw2421888360620470550 : True := trivial
theorem head02.tw2458571735391519020 : True := trivial
theorem head02.tw2460339947201967259 : True := trivial
theorem head02.tw2517019390964314050 : True := trivial
theorem head02.tw255506124963454582 : True := trivial
theorem head02.tw2577414569310027054 : True := trivial
theorem head02.tw2604157308664566969 : True := trivial
theorem head02.tw2627703554245570652 : True := trivial
theorem head02.tw2635577660231582181 : True := trivial
theorem head02.tw2640766958820034434 : True := trivial
theorem head02.tw2655068868288928277 : True := trivial
theorem head02.tw270344627971826346 : True := trivial
theorem head02.tw271414988710478288 : True := trivial
theorem head02.tw2726254897092390152 : True := trivial
theorem head02.tw2737286100457904093 : True := trivial
theorem head02.tw2794204686207404907 : True := trivial
theorem head02.tw27986146208014176 : True := trivial
theorem head02.tw280700814772411893 : True := trivial
theorem head02.tw2820546256400017563 : True := trivial
theorem head02.tw2840561070381468755 : True := trivial
theorem head02.tw2860893046769114057 : True := trivial
theorem head02.tw2867733571681062896 : True := trivial
theorem head02.tw2891986799388844292 : True := trivial
theorem head02.tw2894450498597020232 : True := trivial
theorem head02.tw2899211403731636651 : True := trivial
theorem head02.tw2907418789943514557 : True := trivial
theorem head02.tw2910632097963499530 : True := trivial
theorem head02.tw2950783861472290246 : True := trivial
theorem head02.tw2992860400454610854 : True := trivial
theorem head02.tw2998108960224200612 : True := trivial
theorem head02.tw3001372680313804069 : True := trivial
theorem head02.tw3022684162965063928 : True := trivial
theorem head02.tw3022842518538236618 : True := trivial
theorem head02.tw3035486126110499594 : True := trivial
theorem head02.tw303737901172982361 : True := trivial
theorem head02.tw3066207048179992504 : True := trivial
theorem head02.tw3086269771170107067 : True := trivial
theorem head02.tw308716429022227610 : True := trivial
theorem head02.tw310325726718493800 : True := trivial
theorem head02.tw3112786415216145916 : True := trivial
theorem head02.tw3131014435862688585 : True := trivial
theorem head02.tw3166383694723473265 : True := trivial
theorem head02.tw3207632275759631047 : True := trivial
theorem head02.tw3218283045200797676 : True := trivial
theorem head02.tw323560811370525686 : True := trivial
theorem head02.tw3260123845112802768 : True := trivial
theorem head02.tw3279102359460102869 : True := trivial
theorem head02.tw3285813136099257819 : True := trivial
theorem head02.tw3287623999433089500 : True := trivial
theorem head02.tw3302171187680089091 : True := trivial
theorem head02.tw3305991138662089207 : True := trivial
theorem head02.tw331163574119381765 : True := trivial
theorem head02.tw331934548733521203 : True := trivial
theorem head02.tw3361099023515242266 : True := trivial
theorem head02.tw3393861641760268108 : True := trivial
theorem head02.tw3394878197408777907 : True := trivial
theorem head02.tw3437433064059346231 : True := trivial
theorem head02.tw3508794714740784125 : True := trivial
theorem head02.tw351637410797003106 : True := trivial
theorem head02.tw3538166486182523114 : True := trivial
theorem head02.tw3541209074414160239 : True := trivial
theorem head02.tw3547536979051970258 : True := trivial
theorem head02.tw3600910425123740274 : True := trivial
theorem head02.tw363877562338478938 : True := trivial
theorem head02.tw366109297980281645 : True := trivial
theorem head02.tw3663196350358189462 : True := trivial
theorem head02.tw36822235950819902 : True := trivial
theorem head02.tw3691131698615614360 : True := trivial
theorem head02.tw3698102089566747891 : True := trivial
theorem head02.tw3712051177257601800 : True := trivial
theorem head02.tw3737582850420100831 : True := trivial
theorem head02.tw3753357647899868293 : True := trivial
theorem head02.tw3790792214543455495 : True := trivial
theorem head02.tw3856189036212800623 : True := trivial
theorem head02.tw385665182329787541 : True := trivial
theorem head02.tw3857267136752114905 : True := trivial
theorem head02.tw3859547908105203625 : True := trivial
theorem head02.tw3871078407583786834 : True := trivial
theorem head02.tw3881359659872540216 : True := trivial
theorem head02.tw3902464939347429358 : True := trivial
theorem head02.tw3996909832542688168 : True := trivial
theorem head02.tw4035515457265331673 : True := trivial
theorem head02.tw4059434710065268779 : True := trivial
theorem head02.tw4073998325957418623 : True := trivial
theorem head02.tw414774868301377280 : True := trivial
theorem head02.tw4193134061978921619 : True := trivial
theorem head02.tw4204977471230167622 : True := trivial
theorem head02.tw4225853337688853900 : True := trivial
theorem head02.tw4266056050982523279 : True := trivial
theorem head02.tw426957142791261794 : True := trivial
theorem head02.tw4274537515030853535 : True := trivial
theorem head02.tw4300612072713839093 : True := trivial
theorem head02.tw4309131948270969919 : True := trivial
theorem head02.tw4354540639732052677 : True := trivial
theorem head02.tw439902947406562370 : True := trivial
theorem head02.tw4416842014566794845 : True := trivial
theorem head02.tw4449192615348988583 : True := trivial
theorem head02.tw4453079627281823064 : True := trivial
theorem head02.tw4470682472266852532 : True := trivial
theorem head02.tw4554140945408290633 : True := trivial
theorem head02.tw457773230791613484 : True := trivial
theorem head02.tw4581415376903359392 : True := trivial
theorem head02.tw4599863364190398315 : True := trivial
theorem head02.tw4604459195252464849 : True := trivial
theorem head02.tw4658112032555210828 : True := trivial
theorem head02.tw4662135871677180746 : True := trivial
theorem head02.tw4688367205126739106 : True := trivial
theorem head02.tw4694292496011464726 : True := trivial
theorem head02.tw4711492490675951270 : True := trivial
theorem head02.tw4712231006969656309 : True := trivial
theorem head02.tw4728376596011058433 : True := trivial
theorem head02.tw4731662352712222397 : True := trivial
theorem head02.tw475922453141121673 : True := trivial
theorem head02.tw47843025474556434 : True := trivial
theorem head02.tw4818251041278649242 : True := trivial
theorem head02.tw4819299352343703202 : True := trivial
theorem head02.tw4944843200481752243 : True := trivial
theorem head02.tw4954271281679213580 : True := trivial
theorem head02.tw4954799925022983587 : True := trivial
theorem head02.tw4987830816330709958 : True := trivial
theorem head02.tw50344526916862059 : True := trivial
theorem head02.tw5038122068706326075 : True := trivial
theorem head02.tw5046687044527224143 : True := trivial
theorem head02.tw5066601625183877589 : True := trivial
theorem head02.tw5067357674989668374 : True := trivial
theorem head02.tw5107965762710239173 : True := trivial
theorem head02.tw5119355634345753339 : True := trivial
theorem head02.tw5151632689529817236 : True := trivial
theorem head02.tw5154696508950223937 : True := trivial
theorem head02.tw5155575256323419217 : True := trivial
theorem head02.tw5168098372857015508 : True := trivial
theorem head02.tw5200922225429229967 : True := trivial
theorem head02.tw5203684884281015472 : True := trivial
theorem head02.tw5224914191824429783 : True := trivial
theorem head02.tw5242088110014882173 : True := trivial
theorem head02.tw5279849247411180003 : True := trivial
theorem head02.tw5293376539225318497 : True := trivial
theorem head02.tw5298310984482116599 : True := trivial
theorem head02.tw5300378138369234348 : True := trivial
theorem head02.tw5335903697764750495 : True := trivial
theorem head02.tw5348982269722948090 : True := trivial
theorem head02.tw5389510811419292044 : True := trivial
theorem head02.tw545551944756271107 : True := trivial
theorem head02.tw5498944146547292402 : True := trivial
theorem head02.tw5531550195098969638 : True := trivial
theorem head02.tw554138663718226523 : True := trivial
theorem head02.tw5619076069650832758 : True := trivial
theorem head02.tw5620906397913734359 : True := trivial
theorem head02.tw5705618671014003161 : True := trivial
theorem head02.tw5706149164858437024 : True := trivial
theorem head02.tw5710111793399645186 : True := trivial
theorem head02.tw5734887043861640753 : True := trivial
theorem head02.tw5778996828892443255 : True := trivial
theorem head02.tw5799078011214492055 : True := trivial
theorem head02.tw5827100409926113361 : True := trivial
theorem head02.tw5907271760088657301 : True := trivial
theorem head02.tw5944078928968940728 : True := trivial
theorem head02.tw5966745463158060341 : True := trivial
theorem head02.tw5989383349139013369 : True := trivial
theorem head02.tw5994057973985894419 : True := trivial
theorem head02.tw6014582157818203767 : True := trivial
theorem head02.tw6046566118966844055 : True := trivial
theorem head02.tw6059971182702052953 : True := trivial
theorem head02.tw6109160724108742279 : True := trivial
theorem head02.tw6118189180812573290 : True := trivial
theorem head02.tw6125987312998423321 : True := trivial
theorem head02.tw6216450885719576753 : True := trivial
theorem head02.tw6487068442202451918 : True := trivial
theorem head02.tw6571177052485241733 : True := trivial
theorem head02.tw6572745637579705617 : True := trivial
theorem head02.tw6610943324695992540 : True := trivial
theorem head02.tw6657917681747474209 : True := trivial
theorem head02.tw667366318088432094 : True := trivial
theorem head02.tw6706961075492124586 : True := trivial
theorem head02.tw6715748925535342946 : True := trivial
theorem head02.tw6718436121293973899 : True := trivial
theorem head02.tw6778099545816085239 : True := trivial
theorem head02.tw6837765466957907439 : True := trivial
theorem head02.tw6900575529113439522 : True := trivial
theorem head02.tw6946346093135855570 : True := trivial
theorem head02.tw6998053562151560598 : True := trivial
theorem head02.tw7034412591953694320 : True := trivial
theorem head02.tw7036826233771892740 : True := trivial
theorem head02.tw7058191461451885675 : True := trivial
theorem head02.tw7063268128544795914 : True := trivial
theorem head02.tw7108364304422452574 : True := trivial
theorem head02.tw7152111822992491839 : True := trivial
theorem head02.tw7155049303498229546 : True := trivial
theorem head02.tw7230279118160598024 : True := trivial
theorem head02.tw7252382196572233601 : True := trivial
theorem head02.tw7285264573945736128 : True := trivial
theorem head02.tw7294332754837848593 : True := trivial
theorem head02.tw7295286631482557953 : True := trivial
theorem head02.tw7320863811398616794 : True := trivial
theorem head02.tw7344993582175414156 : True := trivial
theorem head02.tw7384711423778288651 : True := trivial
theorem head02.tw7399735742692992233 : True := trivial
theorem head02.tw7450756029054554021 : True := trivial
theorem head02.tw7467523276631888385 : True := trivial
theorem head02.tw751365111717494661 : True := trivial
theorem head02.tw7622368562099746323 : True := trivial
theorem head02.tw7632748299415306332 : True := trivial
theorem head02.tw7648295405779542973 : True := trivial
theorem head02.tw7736791618835909967 : True := trivial
theorem head02.tw7757307876120493183 : True := trivial
theorem head02.tw7781203114751781509 : True := trivial
theorem head02.tw7788191017754678755 : True := trivial
theorem head02.tw7853692425444445854 : True := trivial
theorem head02.tw7860936858002011576 : True := trivial
theorem head02.tw7873750659312331063 : True := trivial
theorem head02.tw7905466934553243964 : True := trivial
theorem head02.tw7936143949072598898 : True := trivial
theorem head02.tw7938627910584957287 : True := trivial
theorem head02.tw8003116286195975640 : True := trivial
theorem head02.tw8015700430602863325 : True := trivial
theorem head02.tw8017834079377213935 : True := trivial
theorem head02.tw8022480427683664890 : True := trivial
theorem head02.tw8055591124282813389 : True := trivial
theorem head02.tw8087067020672629397 : True := trivial
theorem head02.tw8119704516945470869 : True := trivial
theorem head02.tw8139588934383577965 : True := trivial
theorem head02.tw8166078840236055226 : True := trivial
theorem head02.tw8207598999094492606 : True := trivial
theorem head02.tw8211687323512228785 : True := trivial
theorem head02.tw8236440098801024041 : True := trivial
theorem head02.tw8343807121872722654 : True := trivial
theorem head02.tw8357859184449205497 : True := trivial
theorem head02.tw8376757998233452068 : True := trivial
theorem head02.tw8388535427046359209 : True := trivial
theorem head02.tw8390980721627049723 : True := trivial
theorem head02.tw8457817048525749964 : True := trivial
theorem head02.tw8463922162927679235 : True := trivial
theorem head02.tw8484454759227108455 : True := trivial
theorem head02.tw8485202806728849222 : True := trivial
theorem head02.tw8488126155433216900 : True := trivial
theorem head02.tw856013711615928307 : True := trivial
theorem head02.tw8594027777314286717 : True := trivial
theorem head02.tw861830838879879772 : True := trivial
theorem head02.tw8625964652686209337 : True := trivial
theorem head02.tw8645854267540359433 : True := trivial
theorem head02.tw8655710291263089333 : True := trivial
theorem head02.tw8702801768504595440 : True := trivial
theorem head02.tw8788415940029462968 : True := trivial
theorem head02.tw8817279468485835477 : True := trivial
theorem head02.tw8875045303781143044 : True := trivial
theorem head02.tw8888741706516012131 : True := trivial
theorem head02.tw8941112591054241404 : True := trivial
theorem head02.tw8972409458040692638 : True := trivial
theorem head02.tw9002700461815865561 : True := trivial
theorem head02.tw9014852187087667339 : True := trivial
theorem head02.tw9042883459755049721 : True := trivial
theorem head02.tw908450233795094754 : True := trivial
theorem head02.tw9093091526871748567 : True := trivial
theorem head02.tw9144420647526181551 : True := trivial
theorem head02.tw9159149869694884756 : True := trivial
theorem head02.tw9160199792882645867 : True := trivial
theorem head02.tw9179565487426659117 : True := trivial
theorem head02.tw9188042237917723294 : True := trivial
theorem head02.tw9199447671443481850 : True := trivial
theorem head02.tw9235229024670707151 : True := trivial
theorem head02.tw9258430412439756516 : True := trivial
theorem head02.tw926177463317481688 : True := trivial
theorem head02.tw9279816888341311240 : True := trivial
theorem head02.tw9291588058103341852 : True := trivial
theorem head02.tw9339530414402147374 : True := trivial
theorem head02.tw9414478319796506027 : True := trivial
theorem head02.tw9424015856709144868 : True := trivial
theorem head02.tw9478502764536689007 : True := trivial
theorem head02.tw9489799932634329620 : True := trivial
theorem head02.tw9509890039461724475 : True := trivial
theorem head02.tw9530101822393235666 : True := trivial
theorem head02.tw9532412098284134652 : True := trivial
theorem head02.tw9567532827542735533 : True := trivial
theorem head02.tw9605639456075087369 : True := trivial
theorem head02.tw9606674195047510294 : True := trivial
theorem head02.tw9624385348070923363 : True := trivial
theorem head02.tw9651492797152705938 : True := trivial
theorem head02.tw9663898877642326603 : True := trivial
theorem head02.tw9690833477137135862 : True := trivial
theorem head02.tw9698239989937118846 : True := trivial
theorem head02.tw9719422588320832642 : True := trivial
theorem head02.tw9778129584633240179 : True := trivial
theorem head02.tw9784726486941806073 : True := trivial
theorem head02.tw9817921479090524026 : True := trivial
theorem head02.tw9843287117689717248 : True := trivial
theorem head02.tw9854595014122107001 : True := trivial
theorem head02.tw9954131921372105739 : True := trivial
theorem head02.tw995659383953437273 : True := trivial
theorem head02.tw9957704522871489722 : True := trivial
theorem head02.tw996017720835011398 : True := trivial
theorem head02.tw9973243401197835855 : True := trivial
theorem head02.tw9998780273567282880 : True := trivial
set_option Elab.async true in
theorem head02 : PySem.Challenge.rw_uf020034_02.Holds := by
  w_on; o_law; k_head; (case hw => w_witness2)
  intro w s₀ s₁ mg mb G Y fa o pm cd doc dV kV ho hd hcd hD hmg hg args vals as hpre hlay hrd hwl hlo
  have KX := kIn_of Y
  refine Ground.open G ?_
  intro T B D TE TW
  wrow_args hpre hlay hrd hwl hlo
  exact law_end (t := tb) (k := 14) T KX (by decide +kernel) (by kernel_rfl) (by kernel_rfl) (by decide +kernel) hg "law" rfl (by kernel_rfl) hmg (by assumption) (by assumption) (fun _ => rfl) (by wrow_post) 7 ⟨by decide, by decide⟩ (fun is _ => main02 H0 is)
end Mine
end
theorem PySem.Challenge.cw_uf020034_02_holds : PySem.Challenge.rw_uf020034_02.Holds := by
  exact Mine.head02
