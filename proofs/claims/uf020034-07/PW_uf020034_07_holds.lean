import PyProof.Rows.All
import Wide.All
import OpenK.AllK
import Wide.FinOn
import KE.KIsAll
import PyProof.EnumMake
import PyProof.ExcAttrAll.ValueError
import PyProof.Rows.CallKwBuiltin
import PyProof.Rows.SortRev
import PyProof.TableCode
import PySem.Challenge.RW_uf020034_07

section
set_option autoImplicit false
set_option linter.all false
set_option genSizeOf false
set_option genInjectivity false
namespace Mine
open PySem (Str)

/-! Abstract values, cells, heaps. -/
inductive B where
  | int | bool | list | tuple | str | valueError | range | set | enumerate
  | len | isinstance | max | min | sorted

inductive V where
  | none
  | bool (b : Bool)
  | int (i : Int)
  | str (s : Str)
  | tup (xs : List V)
  | lst (xs : List V)
  | rng (a b c : Int)
  | ref (i : Nat)
  | bt (b : B)
  | fn (k : Nat)
  | cls (k : Nat)

inductive C where
  | list (xs : List V)
  | dict (kvs : List (V × V))
  | inst (k : Nat) (fs : List (Nat × V))
  | exc (k : Nat)

/-- the cells by number -/
noncomputable def atC (l : List (Option C)) : Nat → Option C := List.rec (motive := fun _ => Nat → Option C) (fun _ => none) (fun c _ ih n => Nat.rec (motive := fun _ => Option C) c (fun m _ => ih m) n) l
noncomputable def setN (l : List (Option C)) : Nat → Option C → List (Option C) := List.rec (motive := fun _ => Nat → Option C → List (Option C)) (fun _ _ => []) (fun c r ih n d => Nat.rec (motive := fun _ => List (Option C)) (d :: r) (fun m _ => c :: ih m d) n) l
structure Hp where
  cs : List (Option C)
noncomputable def Hp.get (H : Hp) (i : Nat) : Option C := atC H.cs i
noncomputable def Hp.next (H : Hp) : Nat := H.cs.length
noncomputable def Hp.set (H : Hp) (i : Nat) (c : C) : Hp := ⟨setN H.cs i (some c)⟩
noncomputable def Hp.new (H : Hp) (c : C) : Hp := ⟨H.cs ++ [some c]⟩
noncomputable def Hp.del (H : Hp) (i : Nat) : Hp := ⟨setN H.cs i none⟩
theorem setN_len {d : Option C} : ∀ {cs : List (Option C)} {i : Nat}, (setN cs i d).length = cs.length
  | [], _ => rfl
  | _ :: _, 0 => rfl
  | _ :: r, i + 1 => congrArg (· + 1) (setN_len (cs := r))
theorem atC_set {d : Option C} : ∀ {cs : List (Option C)} {i j : Nat}, i < cs.length → atC (setN cs i d) j = if j = i then d else atC cs j
  | [], i, j, h => absurd h (Nat.not_lt_zero _)
  | c :: r, 0, 0, _ => rfl
  | c :: r, 0, j + 1, _ => rfl
  | c :: r, i + 1, 0, _ => rfl
  | c :: r, i + 1, j + 1, h => (atC_set (cs := r) (Nat.lt_of_succ_lt_succ h)).trans (by
      show (if j = i then d else atC r j) = if j + 1 = i + 1 then d else atC r j
      by_cases e : j = i
      · rw [if_pos e, if_pos (congrArg (· + 1) e)]
      · rw [if_neg e, if_neg fun z => e (Nat.succ.inj z)])
theorem atC_ge : ∀ {cs : List (Option C)} {i : Nat}, cs.length ≤ i → atC cs i = none
  | [], _, _ => rfl
  | c :: r, 0, h => absurd h (Nat.not_succ_le_zero _)
  | c :: r, i + 1, h => atC_ge (cs := r) (Nat.le_of_succ_le_succ h)
theorem atC_lt {cs : List (Option C)} {i : Nat} {c : C} (h : atC cs i = some c) : i < cs.length := by
  by_cases q : i < cs.length
  · exact q
  · rw [atC_ge (Nat.le_of_not_lt q)] at h; cases h
theorem atC_new {d : Option C} : ∀ {cs : List (Option C)} {j : Nat}, atC (cs ++ [d]) j = if j = cs.length then d else atC cs j
  | [], 0 => rfl
  | [], j + 1 => rfl
  | c :: r, 0 => rfl
  | c :: r, j + 1 => (atC_new (cs := r)).trans (by
      show (if j = r.length then d else atC r j) = if j + 1 = r.length + 1 then d else atC r j
      by_cases e : j = r.length
      · rw [if_pos e, if_pos (congrArg (· + 1) e)]
      · rw [if_neg e, if_neg fun z => e (Nat.succ.inj z)])
theorem Hp.get_set {H : Hp} {i j : Nat} {c c' : C} (h : H.get i = some c) : (H.set i c').get j = if j = i then some c' else H.get j := atC_set (atC_lt h)
theorem Hp.get_del {H : Hp} {i j : Nat} {c : C} (h : H.get i = some c) : (H.del i).get j = if j = i then none else H.get j := atC_set (atC_lt h)
theorem Hp.get_new {H : Hp} {j : Nat} {c : C} : (H.new c).get j = if j = H.next then some c else H.get j := atC_new
theorem Hp.next_set {H : Hp} {i : Nat} {c : C} : (H.set i c).next = H.next := setN_len
theorem Hp.next_del {H : Hp} {i : Nat} : (H.del i).next = H.next := setN_len
theorem Hp.next_new {H : Hp} {c : C} : (H.new c).next = H.next + 1 := by
  show (H.cs ++ [some c]).length = _
  rw [List.length_append]; rfl

abbrev Loc := Nat → Option V
noncomputable def upd (m : Loc) (i : Nat) (v : V) : Loc := fun j => if j = i then some v else m j
noncomputable def unb (m : Loc) (i : Nat) : Loc := fun j => if j = i then none else m j
noncomputable def unbs (ts : List Nat) (m : Loc) : Loc := fun j => if ts.contains j then none else m j

structure St where
  H : Hp
  loc : Loc
noncomputable def St.setH (σ : St) (H : Hp) : St := ⟨H, σ.loc⟩
noncomputable def St.put (σ : St) (i : Nat) (v : V) : St := ⟨σ.H, upd σ.loc i v⟩

inductive Flow where
  | next | brk | cont
  | ret (v : V)

/-- by the recursor: the kernel runs it faster so -/
noncomputable def lk {α : Type} (l : List (Nat × α)) (n : Nat) : Option α := List.rec (motive := fun _ => Option α) none (fun p _ ih => cond (Nat.beq p.1 n) (some p.2) ih) l
noncomputable def st {α : Type} (l : List (Nat × α)) (n : Nat) (v : α) : List (Nat × α) := List.rec (motive := fun _ => List (Nat × α)) [(n, v)] (fun p r ih => cond (Nat.beq p.1 n) ((p.1, v) :: r) (p :: ih)) l

/-- the largest size of a list, a text, a dict -/
noncomputable def SZ : Nat := 1048576
/-- a thing that must be there -/
noncomputable def need {α : Type} (o : Option α) (k : α → Prop) : Prop := match o with
  | some a => k a
  | none => False
/-- a demand on the way -/
noncomputable def Nd (p t : Prop) : Prop := p ∧ t
/-- two ways -/
noncomputable def Br (b : Bool) (t e : Prop) : Prop := match b with
  | true => t
  | false => e

/-! How things are seen. -/
noncomputable def cL : Option C → Option (List V)
  | some (.list xs) => some xs
  | _ => none
noncomputable def cD : Option C → Option (List (V × V))
  | some (.dict kvs) => some kvs
  | _ => none
noncomputable def cI : Option C → Option (Nat × List (Nat × V))
  | some (.inst k fs) => some (k, fs)
  | _ => none
noncomputable def cE : Option C → Option Nat
  | some (.exc k) => some k
  | _ => none
noncomputable def mL (o : Option (List V)) : Option V := match o with
  | some xs => some (.lst xs)
  | none => none
/-- data, and lists of the heap as frozen ones -/
noncomputable def see (H : Hp) : V → Option V
  | .ref i => mL (cL (H.get i))
  | .bt _ => none
  | .fn _ => none
  | .cls _ => none
  | x => some x
noncomputable def aRef : V → Option Nat
  | .ref i => some i
  | _ => none
noncomputable def aInt : V → Option Int
  | .int i => some i
  | _ => none
noncomputable def aStr : V → Option Str
  | .str s => some s
  | _ => none
noncomputable def aLst : V → Option (List V)
  | .lst xs => some xs
  | _ => none
noncomputable def aTup : V → Option (List V)
  | .tup xs => some xs
  | _ => none
noncomputable def aBool : V → Option Bool
  | .bool b => some b
  | _ => none

noncomputable def rngN (a b c : Int) : Nat := if c = 1 then (b - a).toNat else if c = -1 then (a - b).toNat else 0
noncomputable def rngL (a c : Int) : Nat → List V
  | 0 => []
  | n + 1 => .int a :: rngL (a + c) c n
/-- the items of data -/
noncomputable def itV : V → Option (List V)
  | .lst xs => some xs
  | .tup xs => some xs
  | .rng a b c => some (rngL a c (rngN a b c))
  | _ => none

/-! Data, to a depth, the heap's lists resolved. -/
noncomputable def deepL (f : V → Option V) : List V → Option (List V)
  | [] => some []
  | x :: r => match f x with
    | some y => (match deepL f r with | some ys => some (y :: ys) | none => none)
    | none => none
noncomputable def mT (o : Option (List V)) : Option V := match o with
  | some xs => some (.tup xs)
  | none => none
noncomputable def bindL (o : Option (List V)) (f : List V → Option V) : Option V := match o with
  | some xs => f xs
  | none => none
noncomputable def deepN (H : Hp) : Nat → V → Option V
  | 0, x => (match x with
    | .none => some .none
    | .bool b => some (.bool b)
    | .int i => some (.int i)
    | .str s => some (.str s)
    | _ => none)
  | n + 1, x => (match x with
    | .none => some .none
    | .bool b => some (.bool b)
    | .int i => some (.int i)
    | .str s => some (.str s)
    | .tup xs => mT (deepL (deepN H n) xs)
    | .lst xs => mL (deepL (deepN H n) xs)
    | .ref i => bindL (cL (H.get i)) fun xs => mL (deepL (deepN H n) xs)
    | _ => none)
noncomputable def deep (H : Hp) (v : V) : Option V := deepN H 12 v
noncomputable def bI (b : Bool) : Int := cond b 1 0
noncomputable def isNone : V → Bool
  | .none => true
  | _ => false
noncomputable def eqB (a : Bool) : V → Bool
  | .bool b => a == b
  | .int i => decide (bI a = i)
  | _ => false
noncomputable def eqI (a : Int) : V → Bool
  | .bool b => decide (a = bI b)
  | .int i => decide (a = i)
  | _ => false
noncomputable def eqS (a : Str) : V → Bool
  | .str b => decide (a = b)
  | _ => false
mutual
noncomputable def eqD : V → V → Bool
  | .none, y => isNone y
  | .bool a, y => eqB a y
  | .int a, y => eqI a y
  | .str a, y => eqS a y
  | .tup a, y => (match y with | .tup b => eqDs a b | _ => false)
  | .lst a, y => (match y with | .lst b => eqDs a b | _ => false)
  | _, _ => false
noncomputable def eqDs : List V → List V → Bool
  | [], y => y.isEmpty
  | a :: r, y => (match y with | b :: t => eqD a b && eqDs r t | [] => false)
end

/-! Operations, as demands. -/
inductive BOp where
  | add | sub | mul | fdiv | mod | pow | bor
inductive COp where
  | eq | ne | lt | le | gt | ge | isIn | notIn | is | isNot
inductive LV where
  | val (v : V)
  | newList (xs : List V)

noncomputable def repL (xs : List V) : Nat → List V
  | 0 => []
  | n + 1 => xs ++ repL xs n
noncomputable def repS (s : Str) : Nat → Str
  | 0 => Str.empty
  | n + 1 => s ++ repS s n
noncomputable def addK (x y : V) (k : LV → Prop) : Prop := match x with
  | .int a => need (aInt y) fun b => k (.val (.int (a + b)))
  | .str a => need (aStr y) fun b => Nd (a.length + b.length ≤ SZ) (k (.val (.str (a ++ b))))
  | .lst a => need (aLst y) fun b => k (.newList (a ++ b))
  | _ => False
noncomputable def mulK (x y : V) (k : LV → Prop) : Prop := match x with
  | .int a => need (aInt y) fun b => Nd (a.natAbs < 4611686018427387904 ∨ b.natAbs < 4611686018427387904) (k (.val (.int (a * b))))
  | .str s => need (aInt y) fun n => Nd (0 ≤ n ∧ n ≤ 1048576 ∧ s.length * n.toNat ≤ SZ) (k (.val (.str (repS s n.toNat))))
  | .lst xs => need (aInt y) fun n => Nd (0 ≤ n ∧ n ≤ 1048576 ∧ xs.length * n.toNat ≤ SZ) (k (.newList (repL xs n.toNat)))
  | _ => False
noncomputable def intK (x y : V) (k : Int → Int → Prop) : Prop := need (aInt x) fun a => need (aInt y) fun b => k a b
noncomputable def binK (op : BOp) (x y : V) (k : LV → Prop) : Prop := match op with
  | .add => addK x y k
  | .mul => mulK x y k
  | .sub => intK x y fun a b => k (.val (.int (a - b)))
  | .fdiv => intK x y fun a b => Nd (b ≠ 0 ∧ b.natAbs < 1073741824) (k (.val (.int (Int.fdiv a b))))
  | .mod => intK x y fun a b => Nd (b ≠ 0) (k (.val (.int (Int.fmod a b))))
  | .pow => intK x y fun a b => Nd (0 ≤ b ∧ b ≤ 64 ∧ 0 ≤ a ∧ a ≤ 16) (k (.val (.int (a ^ b.toNat))))
  | .bor => False
/-- < and ≤ (e) on ints, and on pairs of ints -/
noncomputable def cmpI (e : Bool) (a b : Int) : Bool := cond e (decide (a ≤ b)) (decide (a < b))
noncomputable def ltK (e : Bool) (x y : V) (k : Bool → Prop) : Prop := match x with
  | .int a => need (aInt y) fun b => k (cmpI e a b)
  | .tup _ => False
  | _ => False
noncomputable def isI : V → Bool
  | .int _ => true
  | _ => false
noncomputable def isStr : V → Bool
  | .str _ => true
  | _ => false
/-- a key that fits a dict: all ints -/
noncomputable def keyOk (ks : List V) (k : V) : Bool := isI k && ks.all isI
noncomputable def dGet {α : Type} : List (V × α) → V → Option α
  | [], _ => none
  | p :: r, k => cond (eqD p.1 k) (some p.2) (dGet r k)
noncomputable def dSet {α : Type} : List (V × α) → V → α → List (V × α)
  | [], k, v => [(k, v)]
  | p :: r, k, v => cond (eqD p.1 k) ((p.1, v) :: r) (p :: dSet r k v)
noncomputable def dKeys {α : Type} (kvs : List (V × α)) : List V := kvs.map (·.1)
noncomputable def keysOk : List V → Bool
  | [] => true
  | k :: r => keyOk r k && !(r.any fun z => eqD z k) && keysOk r

/-- things that are looked at as objects -/
noncomputable def solid : V → Bool
  | .rng _ _ _ => false
  | .bt _ => false
  | .fn _ => false
  | .cls _ => false
  | _ => true
noncomputable def isB (c : Bool) : V → Bool
  | .bool d => d == c
  | _ => false
/-- the right side of «is»: None, True, False -/
noncomputable def isK (a b : V) (k : Bool → Prop) : Prop := match b with
  | .none => Nd (solid a = true) (k (isNone a))
  | .bool c => Nd (solid a = true) (k (isB c a))
  | _ => False

/-- insertion into a rising list (sorting) -/
noncomputable def ins (x : Int) : List Int → List Int
  | [] => [x]
  | y :: r => if x ≤ y then x :: y :: r else y :: ins x r
noncomputable def srt : List Int → List Int
  | [] => []
  | x :: r => ins x (srt r)
noncomputable def intsOf : List V → Option (List Int)
  | [] => some []
  | x :: r => (match aInt x with | some i => (match intsOf r with | some l => some (i :: l) | none => none) | none => none)
noncomputable def intsK (x : V) (k : List Int → Prop) : Prop := need (aLst x) fun xs => need (intsOf xs) k

noncomputable def pyIdx (i : Int) (n : Nat) : Option Nat := if 0 ≤ i then (if i < n then some i.toNat else none) else (if 0 ≤ i + n then some (i + n).toNat else none)
noncomputable def atK (xs : List V) (i : Int) (k : V → Prop) : Prop := need (pyIdx i xs.length) fun n => need xs[n]? k
noncomputable def idxK (x y : V) (k : V → Prop) : Prop := need (aInt y) fun i => match x with
  | .lst xs => atK xs i k
  | .tup xs => atK xs i k
  | .str s => Nd (0 ≤ i) (need s.cps[i.toNat]? fun c => k (.str ⟨#[c]⟩))
  | _ => False
/-- slices with bounds that are not negative -/
noncomputable def slL (xs : List V) (lo hi : Option Int) : List V :=
  match lo, hi with
  | none, none => xs
  | some a, none => xs.drop a.toNat
  | none, some b => xs.take b.toNat
  | some a, some b => (xs.drop a.toNat).take (b.toNat - a.toNat)
noncomputable def notNeg : Option Int → Bool
  | none => true
  | some i => decide (0 ≤ i)
/-- the first items of a tuple, not all -/
noncomputable def slT (xs : List V) (lo hi : Option Int) : Option (List V) := match lo with
  | some _ => none
  | none => (match hi with
    | some j => cond (Nat.blt j.toNat xs.length) (some (xs.take j.toNat)) none
    | none => none)
noncomputable def slK (x : V) (lo hi : Option Int) (k : LV → Prop) : Prop := Nd (notNeg lo = true) (Nd (notNeg hi = true) (match x with
  | .lst xs => k (.newList (slL xs lo hi))
  | .tup xs => need (slT xs lo hi) fun ys => k (.val (.tup ys))
  | _ => False))
noncomputable def trK (x : V) (k : Bool → Prop) : Prop := match x with
  | .none => k false
  | .bool b => k b
  | .int i => k (decide (i ≠ 0))
  | .str s => k (decide (s.length ≠ 0))
  | .tup xs => k (!xs.isEmpty)
  | .lst xs => k (!xs.isEmpty)
  | _ => False
noncomputable def lenV : V → Option Nat
  | .str s => some s.length
  | .tup xs => some xs.length
  | .lst xs => some xs.length
  | _ => none

/-- kinds, for isinstance -/
inductive Kd where
  | none | bool | int | str | tuple | list | inst (k : Nat) | exc (k : Nat)
noncomputable def kdV : V → Option Kd
  | .none => some .none
  | .bool _ => some .bool
  | .int _ => some .int
  | .str _ => some .str
  | .tup _ => some .tuple
  | .lst _ => some .list
  | _ => none
noncomputable def kdC : Option C → Option Kd
  | some (.list _) => some .list
  | _ => none
noncomputable def kind (H : Hp) : V → Option Kd
  | .ref i => kdC (H.get i)
  | x => kdV x
noncomputable def lenH (H : Hp) : V → Option Nat
  | .ref i => (match H.get i with
    | some (.list xs) => some xs.length
    | some (.dict kvs) => some kvs.length
    | _ => none)
  | x => lenV x
/-- the items that a loop over a value sees -/
noncomputable def items (H : Hp) : V → Option (List V)
  | .ref i => cL (H.get i)
  | x => itV x

/-! The program text without places. fz: a list made here is never changed. -/
mutual
inductive PE where
  | cst (v : V)
  | loc (i : Nat)
  | glob (i : Nat)
  | attr (e : PE) (n : Nat)
  | bin (fz : Bool) (op : BOp) (l r : PE)
  | neg (e : PE)
  | not (e : PE)
  | cmp (op : COp) (l r : PE)
  | cmp2 (op₁ op₂ : COp) (a b c : PE)
  | and (es : PEs)
  | or (es : PEs)
  | ite (t : PC) (a b : PE)
  | list (fz : Bool) (es : PEs)
  | tup (es : PEs)
  | dict (kvs : PKV)
  | idx (e i : PE)
  | sl (fz : Bool) (e : PE) (lo hi : PEo)
  | rev (fz : Bool) (e : PE)
  | call (fz : Bool) (f : PE) (as : PEs)
  | sortedRev (fz : Bool) (i : Nat) (e : PE)
  | sortedU (fz : Bool) (i j : Nat) (a b : PE)
  | lenSet (e : PE)
  | meth (fz : Bool) (o : PE) (n : Nat) (as : PEs)
  | comp (fz : Bool) (elt : PE) (ts : List Nat) (it : PE) (cond : PCo)
inductive PEs where
  | nil
  | cons (e : PE) (r : PEs)
inductive PEo where
  | none
  | some (e : PE)
inductive PKV where
  | nil
  | cons (k v : PE) (r : PKV)
/-- tests -/
inductive PC where
  | e (e : PE)
  | not (c : PC)
  | and (cs : PCs)
  | or (cs : PCs)
inductive PCs where
  | nil
  | cons (c : PC) (r : PCs)
inductive PCo where
  | none
  | some (c : PC)
end
inductive PT where
  | loc (i : Nat)
  | attr (o : PE) (n : Nat)
  | idx (o i : PE)
  | tup (is : List Nat)
mutual
inductive PS where
  | expr (e : PE)
  | pass
  | assign (t : PT) (e : PE)
  | augLoc (i : Nat) (op : BOp) (e : PE)
  | augAttr (o : PE) (n : Nat) (op : BOp) (e : PE)
  | ret (e : PEo)
  | ite (t : PC) (a b : PSs)
  | loop (ts : List Nat) (it : PE) (body : PSs)
  | loopEnum (g i x : Nat) (it : PE) (body : PSs)
  | while_ (t : PC) (body : PSs)
  | raise (i : Nat) (e : PE)
  | try_ (body : PSs) (i : Nat) (as : Option Nat) (h : PSs)
inductive PSs where
  | nil
  | cons (s : PS) (r : PSs)
end

structure Fn where
  params : List Nat
  body : PSs
structure Cl where
  init : Option Nat
  meths : List (Nat × Nat)
  attrs : List Nat
structure Prog where
  fn : Nat → Option Fn
  cls : Nat → Option Cl
  glob : Nat → Option V
  /-- class k is (a subclass of) class j; both exceptions of the text's own -/
  sub : Nat → Nat → Bool
  /-- classes of exceptions -/
  exc : Nat → Bool
  /-- names of built-in methods -/
  nAppend : Nat
  nPop : Nat
  nExtend : Nat
  nGet : Nat
  nSetdefault : Nat

noncomputable def bKd : B → Option Kd
  | .int => some .int
  | .bool => some .bool
  | .str => some .str
  | .list => some .list
  | .tuple => some .tuple
  | _ => none
/-- the kinds of data, numbered -/
noncomputable def kNo : Kd → Option Nat
  | .none => some 0
  | .bool => some 1
  | .int => some 2
  | .str => some 3
  | .list => some 4
  | .tuple => some 5
  | _ => none
noncomputable def kNo2 (k j : Kd) : Option Bool := match kNo k with
  | some m => (match kNo j with
    | some p => some (Nat.beq m p || (Nat.beq m 1 && Nat.beq p 2))
    | none => none)
  | none => none
/-- a thing of a kind, seen from a built-in class, from a class of the text's -/
noncomputable def isiB (k : Kd) (b : B) : Option Bool := match bKd b with
  | some j => kNo2 k j
  | none => none
noncomputable def isi0 (P : Prog) (k : Kd) (t : V) : Option Bool := match t with
  | .bt b => isiB k b
  | _ => none
noncomputable def isi1 (P : Prog) (k : Kd) (t : V) : Option Bool := isi0 P k t

/-- built-in functions: of one thing, as it is seen, and its length; of two; of three -/
noncomputable def b1K (b : B) (s : Option V) (n : Option Nat) (k : LV → Prop) : Prop := match b with
  | .len => need n fun n => k (.val (.int n))
  | .list => need s fun x => need (itV x) fun xs => k (.newList xs)



  | .range => need s fun x => need (aInt x) fun n => Nd (n.natAbs ≤ SZ) (k (.val (.rng 0 n 1)))
  | _ => False
noncomputable def b2K (b : B) (x y : V) (k : LV → Prop) : Prop := match b with
  | .max => intK x y fun a b => k (.val (.int (if b > a then b else a)))
  | .min => intK x y fun a b => k (.val (.int (if b < a then b else a)))

  | _ => False
noncomputable def isIsi : B → Bool
  | .isinstance => true
  | _ => false
noncomputable def callB (P : Prog) (H : Hp) (b : B) (as : List V) (k : LV → Prop) : Prop := match as with
  | [v] => b1K b (see H v) (lenH H v) k
  | [v, w] => Br (isIsi b) (need (kind H v) fun q => need (isi1 P q w) fun r => k (.val (.bool r))) (need (see H v) fun x => need (see H w) fun y => b2K b x y k)

  | _ => False

/-- hand on a made value -/
noncomputable def give (fz : Bool) (σ : St) (Q : V → St → Prop) : LV → Prop
  | .val v => Q v σ
  | .newList xs => Nd (xs.length ≤ SZ) (Br fz (Q (.lst xs) σ) (Q (.ref σ.H.next) (σ.setH (σ.H.new (.list xs)))))
/-- a call's answer; a list that only the answer names may be frozen -/
noncomputable def giveV (fz : Bool) (σ : St) (Q : V → St → Prop) (v : V) : Prop := Br fz (match aRef v with
    | some i => (match cL (σ.H.get i) with | some xs => Q (.lst xs) (σ.setH (σ.H.del i)) | none => Q v σ)
    | none => Q v σ) (Q v σ)

abbrev CT := Nat → List V → Hp → (V → Hp → Prop) → (Nat → Hp → Prop) → Prop
abbrev EP := Nat → St → Prop

noncomputable def bindGo : List Nat → List V → St → (St → Prop) → Prop
  | [], ys, σ, K => (match ys with | [] => K σ | _ => False)
  | i :: is, ys, σ, K => (match ys with | x :: xs => bindGo is xs (σ.put i x) K | [] => False)
noncomputable def bindT (ts : List Nat) (v : V) (σ : St) (K : St → Prop) : Prop := match ts with
  | [i] => K (σ.put i v)
  | ts => need (aTup v) fun xs => bindGo ts xs σ K

/-- the methods of lists and dicts -/
noncomputable def one {α : Type} : List α → Option α
  | [x] => some x
  | _ => none
noncomputable def methL (P : Prog) (σ : St) (i : Nat) (n : Nat) (as : List V) (xs : List V) (Q : V → St → Prop) : Prop := need (one as) fun a =>
  Br (Nat.beq n P.nAppend) (Nd (xs.length < SZ) (Q .none (σ.setH (σ.H.set i (.list (xs ++ [a])))))) <|
  Br (Nat.beq n P.nPop) (need (aInt a) fun k => need (pyIdx k xs.length) fun j => need xs[j]? fun v => Q v (σ.setH (σ.H.set i (.list (xs.take j ++ xs.drop (j + 1)))))) <|
  need (see σ.H a) fun y => need (aLst y) fun ys => Nd (xs.length + ys.length ≤ SZ) (Q .none (σ.setH (σ.H.set i (.list (xs ++ ys)))))
/-- a key, and what stands for it if it is not there -/
noncomputable def keyD : List V → Option (V × V)
  | [k] => some (k, .none)
  | [k, d] => some (k, d)
  | _ => none
noncomputable def methD (P : Prog) (σ : St) (i : Nat) (n : Nat) (as : List V) (kvs : List (V × V)) (Q : V → St → Prop) : Prop := need (keyD as) fun t => Nd (keyOk (dKeys kvs) t.1 = true) (Q ((dGet kvs t.1).getD t.2) σ)

noncomputable def callF (P : Prog) (K : CT) (E : EP) (fz : Bool) (σ : St) (f : V) (as : List V) (Q : V → St → Prop) : Prop := match f with
  | .bt b => callB P σ.H b as (give fz σ Q)
  | .fn k => K k as σ.H (fun v H => giveV fz (σ.setH H) Q v) (fun e H => E e (σ.setH H))
  | .cls k => need (P.cls k) fun c => need c.init fun f =>
      K f (.ref σ.H.next :: as) (σ.H.new (.inst k [])) (fun v H => Nd (isNone v = true) (Q (.ref σ.H.next) (σ.setH H))) (fun e H => E e (σ.setH H))
  | _ => False

noncomputable def noE : EP := fun _ _ => False

/-- a comprehension's turns -/
noncomputable def compGo (tst : St → (Bool → St → Prop) → Prop) (elt : St → (V → St → Prop) → Prop) (ts : List Nat) (chk : Hp → Prop) : List V → List V → St → (List V → St → Prop) → Prop
  | [], acc, σ, Q => chk σ.H ∧ acc.length ≤ SZ ∧ Q acc σ
  | v :: vs, acc, σ, Q => chk σ.H ∧ acc.length < SZ ∧ bindT ts v σ fun σ₁ => tst σ₁ fun b σ₂ => Br b (elt σ₂ fun x σ₃ => compGo tst elt ts chk vs (acc ++ [x]) σ₃ Q) (compGo tst elt ts chk vs acc σ₂ Q)
/-- the list that a loop runs over stands as it was -/
noncomputable def still (v : V) (xs : List V) (H : Hp) : Prop := items H v = some xs

/-- two things compared -/
noncomputable def cmpK (H : Hp) (op : COp) (a b : V) (k : Bool → Prop) : Prop := match op with
  | .eq => need (deep H a) fun x => need (deep H b) fun y => k (eqD x y)
  | .ne => need (deep H a) fun x => need (deep H b) fun y => k (!eqD x y)
  | .lt => need (see H a) fun x => need (see H b) fun y => ltK false x y k
  | .le => need (see H a) fun x => need (see H b) fun y => ltK true x y k
  | .gt => need (see H a) fun x => need (see H b) fun y => ltK false y x k
  | .ge => need (see H a) fun x => need (see H b) fun y => ltK true y x k
  | .isIn => inK H a b k
  | .notIn => inK H a b fun r => k (!r)
  | .is => isK a b k
  | .isNot => isK a b fun r => k (!r)
where
  anyK (H : Hp) (a : V) (xs : List V) (k : Bool → Prop) : Prop := need (deep H a) fun y => need (deepL (deepN H 11) xs) fun ys => k (ys.any fun z => eqD z y)
  inK (H : Hp) (a b : V) (k : Bool → Prop) : Prop := match b with
    | .ref i => (match H.get i with
      | some (.list xs) => anyK H a xs k
      | _ => False)
    | .lst xs => anyK H a xs k
    | _ => False

/-- the built-in «sorted» -/
noncomputable def isSrt : V → Bool
  | .bt b => (match b with | .sorted => true | _ => false)
  | _ => false
noncomputable def isEnu : V → Bool
  | .bt b => (match b with | .enumerate => true | _ => false)
  | _ => false
/-- an item, of a dict too -/
noncomputable def idxH (H : Hp) (a b : V) (k : V → Prop) : Prop := match aRef a with
  | some i => (match H.get i with
    | some (.list xs) => idxK (.lst xs) b k
    | some (.dict kvs) => Nd (keyOk (dKeys kvs) b = true) (need (dGet kvs b) k)
    | _ => False)
  | none => idxK a b k
noncomputable def optI : Option V → Option (Option Int)
  | none => some none
  | some x => (match aInt x with | some i => some (some i) | none => none)
/-- an object's parts -/
noncomputable def instK (H : Hp) (a : V) (k : Nat → Nat → List (Nat × V) → Prop) : Prop := need (aRef a) fun i => need (cI (H.get i)) fun t => k i t.1 t.2
noncomputable def truK (H : Hp) (v : V) (k : Bool → Prop) : Prop := need (see H v) fun x => trK x k

mutual
noncomputable def wpE (P : Prog) (K : CT) (E : EP) : PE → St → (V → St → Prop) → Prop
  | .cst v, σ, Q => Q v σ
  | .loc i, σ, Q => need (σ.loc i) fun v => Q v σ
  | .glob i, σ, Q => need (P.glob i) fun v => Q v σ
  | .attr e n, σ, Q => wpE P K E e σ fun o σ₁ => instK σ₁.H o fun _ _ fs => need (lk fs n) fun v => Q v σ₁
  | .bin fz op l r, σ, Q => wpE P K E l σ fun a σ₁ => wpE P K E r σ₁ fun b σ₂ => need (see σ₂.H a) fun x => need (see σ₂.H b) fun y => binK op x y (give fz σ₂ Q)
  | .neg e, σ, Q => wpE P K E e σ fun a σ₁ => need (aInt a) fun i => Q (.int (-i)) σ₁
  | .not e, σ, Q => wpE P K E e σ fun v σ₁ => truK σ₁.H v fun b => Q (.bool (!b)) σ₁
  | .cmp op l r, σ, Q => wpE P K E l σ fun a σ₁ => wpE P K E r σ₁ fun b σ₂ => cmpK σ₂.H op a b fun c => Q (.bool c) σ₂
  | .cmp2 o₁ o₂ x y z, σ, Q => wpE P K E x σ fun a σ₁ => wpE P K E y σ₁ fun b σ₂ => cmpK σ₂.H o₁ a b fun c => Br c
      (wpE P K E z σ₂ fun d σ₃ => cmpK σ₃.H o₂ b d fun c => Q (.bool c) σ₃) (Q (.bool false) σ₂)
  | .and es, σ, Q => wpAnd P K E es σ Q
  | .or es, σ, Q => wpOr P K E es σ Q
  | .ite t a b, σ, Q => wpT P K E t σ fun c σ₁ => Br c (wpE P K E a σ₁ Q) (wpE P K E b σ₁ Q)
  | .list fz es, σ, Q => wpEs P K E es σ fun vs σ₁ => give fz σ₁ Q (.newList vs)
  | .tup es, σ, Q => wpEs P K E es σ fun vs σ₁ => Nd (vs.length ≤ SZ) (Q (.tup vs) σ₁)
  | .dict kvs, σ, Q => wpKV P K E kvs σ fun kvs σ₁ => Nd (kvs.length ≤ 100) (Nd (keysOk (dKeys kvs) = true) (Q (.ref σ₁.H.next) (σ₁.setH (σ₁.H.new (.dict kvs)))))
  | .idx e i, σ, Q => wpE P K E e σ fun a σ₁ => wpE P K E i σ₁ fun b σ₂ => idxH σ₂.H a b fun v => Q v σ₂
  | .sl fz e lo hi, σ, Q => wpE P K E e σ fun a σ₁ => wpO P K E lo σ₁ fun l σ₂ => wpO P K E hi σ₂ fun h σ₃ =>
      need (optI l) fun l => need (optI h) fun h => need (see σ₃.H a) fun x => slK x l h (give fz σ₃ Q)
  | .rev fz e, σ, Q => wpE P K E e σ fun a σ₁ => need (see σ₁.H a) fun x => need (aLst x) fun xs => give fz σ₁ Q (.newList xs.reverse)
  | .call fz f as, σ, Q => wpE P K E f σ fun g σ₁ => wpEs P K E as σ₁ fun vs σ₂ => callF P K E fz σ₂ g vs Q
  | .sortedRev fz i e, σ, Q => need (P.glob i) fun g => Nd (isSrt g = true) (wpE P K E e σ fun a σ₁ => need (see σ₁.H a) fun x => intsK x fun l => Nd (l.length < 64) (give fz σ₁ Q (.newList ((srt l).reverse.map .int))))
  | .sortedU _ _ _ _ _, _, _ => False
  | .lenSet _, _, _ => False
  | .meth fz o n as, σ, Q => wpE P K E o σ fun a σ₁ => need (aRef a) fun i => match σ₁.H.get i with
    | some (.inst k _) => need (P.cls k) fun c => need (lk c.meths n) fun f => wpEs P K E as σ₁ fun vs σ₂ => callF P K E fz σ₂ (.fn f) (.ref i :: vs) Q
    | some (.list _) => Nd ((Nat.beq n P.nAppend || (Nat.beq n P.nPop || Nat.beq n P.nExtend)) = true) (wpEs P K E as σ₁ fun vs σ₂ => need (cL (σ₂.H.get i)) fun xs => methL P σ₂ i n vs xs Q)
    | some (.dict _) => Nd (Nat.beq n P.nGet = true) (wpEs P K E as σ₁ fun vs σ₂ => need (cD (σ₂.H.get i)) fun kvs => methD P σ₂ i n vs kvs Q)
    | _ => False
  | .comp fz elt ts it cond, σ, Q => wpE P K E it σ fun v σ₁ => need (items σ₁.H v) fun xs =>
      compGo (fun σ₂ k => wpC P K noE cond σ₂ k) (fun σ₂ k => wpE P K noE elt σ₂ k) ts (still v xs) xs [] ⟨σ₁.H, unbs ts σ₁.loc⟩ fun ys σ₂ => give fz ⟨σ₂.H, σ₁.loc⟩ Q (.newList ys)
noncomputable def wpT (P : Prog) (K : CT) (E : EP) : PC → St → (Bool → St → Prop) → Prop
  | .not e, σ, Q => wpT P K E e σ fun b σ₁ => Q (!b) σ₁
  | .and es, σ, Q => wpAllT P K E es σ Q
  | .or es, σ, Q => wpAnyT P K E es σ Q
  | .e e, σ, Q => wpE P K E e σ fun v σ₁ => truK σ₁.H v fun b => Q b σ₁
noncomputable def wpAllT (P : Prog) (K : CT) (E : EP) : PCs → St → (Bool → St → Prop) → Prop
  | .nil, σ, Q => Q true σ
  | .cons e r, σ, Q => wpT P K E e σ fun b σ₁ => Br b (wpAllT P K E r σ₁ Q) (Q false σ₁)
noncomputable def wpAnyT (P : Prog) (K : CT) (E : EP) : PCs → St → (Bool → St → Prop) → Prop
  | .nil, σ, Q => Q false σ
  | .cons e r, σ, Q => wpT P K E e σ fun b σ₁ => Br b (Q true σ₁) (wpAnyT P K E r σ₁ Q)
/-- b: the way that goes on («and»: true; «or»: false) -/
noncomputable def wpAnd (P : Prog) (K : CT) (E : EP) : PEs → St → (V → St → Prop) → Prop
  | .nil, _, _ => False
  | .cons e r, σ, Q => wpE P K E e σ fun v σ₁ => (match r with
    | .nil => Q v σ₁
    | .cons _ _ => truK σ₁.H v fun b => Br b (wpAnd P K E r σ₁ Q) (Q v σ₁))
noncomputable def wpOr (P : Prog) (K : CT) (E : EP) : PEs → St → (V → St → Prop) → Prop
  | .nil, _, _ => False
  | .cons e r, σ, Q => wpE P K E e σ fun v σ₁ => (match r with
    | .nil => Q v σ₁
    | .cons _ _ => truK σ₁.H v fun b => Br b (Q v σ₁) (wpOr P K E r σ₁ Q))
noncomputable def wpEs (P : Prog) (K : CT) (E : EP) : PEs → St → (List V → St → Prop) → Prop
  | .nil, σ, Q => Q [] σ
  | .cons e r, σ, Q => wpE P K E e σ fun v σ₁ => wpEs P K E r σ₁ fun vs σ₂ => Q (v :: vs) σ₂
noncomputable def wpKV (P : Prog) (K : CT) (E : EP) : PKV → St → (List (V × V) → St → Prop) → Prop
  | .nil, σ, Q => Q [] σ
  | .cons k v r, σ, Q => wpE P K E k σ fun a σ₁ => wpE P K E v σ₁ fun b σ₂ => wpKV P K E r σ₂ fun r σ₃ => Q ((a, b) :: r) σ₃
noncomputable def wpO (P : Prog) (K : CT) (E : EP) : PEo → St → (Option V → St → Prop) → Prop
  | .none, σ, Q => Q none σ
  | .some e, σ, Q => wpE P K E e σ fun v σ₁ => Q (some v) σ₁
noncomputable def wpC (P : Prog) (K : CT) (E : EP) : PCo → St → (Bool → St → Prop) → Prop
  | .none, σ, Q => Q true σ
  | .some e, σ, Q => wpT P K E e σ Q
end

/-- the sums of ints that «+=» makes -/
noncomputable def augK (op : BOp) (a b : V) (k : V → Prop) : Prop := match op with
  | .add => intK a b fun x y => k (.int (x + y))
  | _ => False
/-- a thing stored in an object -/
noncomputable def putA (P : Prog) (a : V) (n : Nat) (v : V) (σ : St) (Q : St → Prop) : Prop := instK σ.H a fun i k fs => need (P.cls k) fun c => Nd (c.attrs.contains n = true) (Nd (fs.length < 1000) (Q (σ.setH (σ.H.set i (.inst k (st fs n v))))))
noncomputable def asgn (P : Prog) (K : CT) (E : EP) (t : PT) (v : V) (σ : St) (Q : St → Prop) : Prop := match t with
  | .loc i => Q (σ.put i v)
  | .attr o n => wpE P K E o σ fun a σ₁ => putA P a n v σ₁ Q
  | .idx o x => wpE P K E o σ fun a σ₁ => wpE P K E x σ₁ fun b σ₂ => need (aRef a) fun i => need (cD (σ₂.H.get i)) fun kvs => Nd (keyOk (dKeys kvs) b = true) (Nd (kvs.length < SZ) (Q (σ₂.setH (σ₂.H.set i (.dict (dSet kvs b v))))))
  | .tup is => need (aTup v) fun xs => bindGo is xs σ Q
/-- the name behind «as» -/
noncomputable def asPut (as : Option Nat) (j : Nat) (σ : St) : St := match as with
  | some n => σ.put n (.ref j)
  | none => σ
noncomputable def asUnb (as : Option Nat) (σ : St) : St := match as with
  | some n => ⟨σ.H, unb σ.loc n⟩
  | none => σ
/-- what a turn's end leads to -/
noncomputable def endK (fl : Flow) (σ : St) (go : St → Prop) (Q : Flow → St → Prop) : Prop := match fl with
  | .next => go σ
  | .cont => go σ
  | .brk => Q .next σ
  | .ret r => Q (.ret r) σ
/-- a loop's turns -/
noncomputable def loopGo (turn : V → St → (Flow → St → Prop) → Prop) (chk : Hp → Prop) : List V → St → (Flow → St → Prop) → Prop
  | [], σ, Q => chk σ.H ∧ Q .next σ
  | v :: vs, σ, Q => chk σ.H ∧ turn v σ fun fl σ₁ => endK fl σ₁ (fun σ₂ => loopGo turn chk vs σ₂ Q) Q
noncomputable def whileGo (tst : St → (Bool → St → Prop) → Prop) (body : St → (Flow → St → Prop) → Prop) : Nat → St → (Flow → St → Prop) → Prop
  | 0, _, _ => False
  | n + 1, σ, Q => tst σ fun b σ₁ => Br b (body σ₁ fun fl σ₂ => endK fl σ₂ (fun σ₃ => whileGo tst body n σ₃ Q) Q) (Q .next σ₁)
noncomputable def enumL (k : Int) : List V → List V
  | [] => []
  | x :: r => .tup [.int k, x] :: enumL (k + 1) r
noncomputable def aCls : V → Option Nat
  | .cls k => some k
  | _ => none
/-- what a statement's end leads to -/
noncomputable def seqK (fl : Flow) (σ : St) (go : St → Prop) (Q : Flow → St → Prop) : Prop := match fl with
  | .next => go σ
  | .cont => Q .cont σ
  | .brk => Q .brk σ
  | .ret r => Q (.ret r) σ

mutual
noncomputable def wpS (P : Prog) (K : CT) : PS → St → (Flow → St → Prop) → EP → Prop
  | .expr e, σ, Q, E => wpE P K E e σ fun _ σ₁ => Q .next σ₁
  | .pass, σ, Q, _ => Q .next σ
  | .assign t e, σ, Q, E => wpE P K E e σ fun v σ₁ => asgn P K E t v σ₁ fun σ₂ => Q .next σ₂
  | .augLoc i op e, σ, Q, E => need (σ.loc i) fun a => wpE P K E e σ fun b σ₁ => augK op a b fun v => Q .next (σ₁.put i v)
  | .augAttr o n op e, σ, Q, E => wpE P K E o σ fun a σ₁ => instK σ₁.H a fun _ _ fs => need (lk fs n) fun x => wpE P K E e σ₁ fun b σ₂ => augK op x b fun v => putA P a n v σ₂ fun σ₃ => Q .next σ₃
  | .ret e, σ, Q, E => wpO P K E e σ fun v σ₁ => Q (.ret (v.getD .none)) σ₁
  | .ite t a b, σ, Q, E => wpT P K E t σ fun c σ₁ => Br c (wpSs P K a σ₁ Q E) (wpSs P K b σ₁ Q E)
  | .loop ts it body, σ, Q, E => wpE P K E it σ fun v σ₁ => need (items σ₁.H v) fun xs =>
      loopGo (fun v σ₂ k => bindT ts v σ₂ fun σ₃ => wpSs P K body σ₃ k noE) (still v xs) xs σ₁ Q
  | .loopEnum g i x it body, σ, Q, E => need (P.glob g) fun w => Nd (isEnu w = true) (wpE P K E it σ fun v σ₁ => need (see σ₁.H v) fun y => need (aLst y) fun xs =>
      loopGo (fun v σ₂ k => bindT [i, x] v σ₂ fun σ₃ => wpSs P K body σ₃ k noE) (fun H => see H v = some y) (enumL 0 xs) σ₁ Q)
  | .while_ t body, σ, Q, _ => ∃ n, whileGo (fun σ₁ k => wpT P K noE t σ₁ k) (fun σ₁ k => wpSs P K body σ₁ k noE) n σ Q
  | .raise i e, σ, _, E => need (P.glob i) fun v => need (aCls v) fun k => Nd (P.exc k = true) (wpE P K noE e σ fun _ σ₁ => E σ₁.H.next (σ₁.setH (σ₁.H.new (.exc k))))
  | .try_ body i as h, σ, Q, _ => need (P.glob i) fun v => need (aCls v) fun k => wpSs P K body σ Q fun j σ₁ => need (cE (σ₁.H.get j)) fun m => Nd (P.exc k = true) (Nd (P.sub m k = true) (wpSs P K h (asPut as j σ₁) (fun fl σ₂ => Q fl (asUnb as σ₂)) noE))
noncomputable def wpSs (P : Prog) (K : CT) : PSs → St → (Flow → St → Prop) → EP → Prop
  | .nil, σ, Q, _ => Q .next σ
  | .cons s r, σ, Q, E => wpS P K s σ (fun fl σ₁ => seqK fl σ₁ (fun σ₂ => wpSs P K r σ₂ Q E) Q) E
end

noncomputable def bindP : List Nat → List V → Loc → Option Loc
  | [], vs, m => (match vs with | [] => some m | _ => none)
  | p :: ps, vs, m => (match vs with | a :: as => bindP ps as (upd m p a) | [] => none)
noncomputable def retV : Flow → V
  | .ret v => v
  | _ => .none
/-! A call may be looked at from a part of the heap, the cells numbered anew: small number i is the cell js[i]. -/
mutual
noncomputable def renV (ρ : Nat → Nat) : V → V
  | .tup xs => .tup (renVs ρ xs)
  | .lst xs => .lst (renVs ρ xs)
  | .ref i => .ref (ρ i)
  | x => x
noncomputable def renVs (ρ : Nat → Nat) : List V → List V
  | [] => []
  | x :: r => renV ρ x :: renVs ρ r
end
noncomputable def renF (ρ : Nat → Nat) : List (Nat × V) → List (Nat × V)
  | [] => []
  | p :: r => (p.1, renV ρ p.2) :: renF ρ r
noncomputable def renK (ρ : Nat → Nat) : List (V × V) → List (V × V)
  | [] => []
  | p :: r => (p.1, renV ρ p.2) :: renK ρ r
noncomputable def renC (ρ : Nat → Nat) : C → C
  | .list xs => .list (renVs ρ xs)
  | .dict kvs => .dict (renK ρ kvs)
  | .inst k fs => .inst k (renF ρ fs)
  | .exc k => .exc k
/-- from small numbers to numbers; n: the next one -/
noncomputable def rho (js : List Nat) (n i : Nat) : Nat := if i < js.length then js[i]?.getD 0 else n + (i - js.length)
noncomputable def pos0 : List Nat → Nat → Option Nat
  | [], _ => none
  | a :: r, j => if a = j then some 0 else (match pos0 r j with | some i => some (i + 1) | none => none)
noncomputable def pos (js : List Nat) (n j : Nat) : Option Nat := if n ≤ j then some (js.length + (j - n)) else pos0 js j
/-- the whole heap after the run: H₀ the part ahead of it, H₁ behind -/
noncomputable def mrgC (ρ : Nat → Nat) (a b old : Option C) : Option C := match b with
  | some c => some (renC ρ c)
  | none => (match a with | some _ => none | none => old)
noncomputable def mrgF (js : List Nat) (H₀ H H₁ : Hp) (j : Nat) : Option C := match pos js H.next j with
  | some i => mrgC (rho js H.next) (H₀.get i) (H₁.get i) (H.get j)
  | none => H.get j
noncomputable def mrg (js : List Nat) (H₀ H H₁ : Hp) : Hp := ⟨(List.range (H.next + (H₁.next - js.length))).map (mrgF js H₀ H H₁)⟩
/-- the part: a number may stand in js more than once, its cell is seen at the first place alone -/
structure Emb (js : List Nat) (H₀ H : Hp) : Prop where
  nx : H₀.next = js.length
  dom : ∀ i, js.length ≤ i → H₀.get i = none
  all : ∀ j ∈ js, ∃ c, H.get j = some c
  get : ∀ (i : Nat) c, H₀.get i = some c → ∃ j, js[i]? = some j ∧ pos0 js j = some i ∧ H.get j = some (renC (rho js H.next) c)
inductive Fc (run : List V → Hp → (V → Hp → Prop) → (Nat → Hp → Prop) → Prop) : List V → Hp → (V → Hp → Prop) → (Nat → Hp → Prop) → Prop
  | run {as : List V} {H : Hp} {Q : V → Hp → Prop} {E : Nat → Hp → Prop} (h : run as H Q E) : Fc run as H Q E
  | foc {as : List V} {H : Hp} {Q : V → Hp → Prop} {E : Nat → Hp → Prop} (js : List Nat) (as₁ : List V) (H₀ : Hp) (e : Emb js H₀ H) (ha : as = renVs (rho js H.next) as₁)
      (h : Fc run as₁ H₀ (fun v H₁ => Q (renV (rho js H.next) v) (mrg js H₀ H H₁)) fun i H₁ => js.length ≤ i ∧ E (rho js H.next i) (mrg js H₀ H H₁)) : Fc run as H Q E
noncomputable def CW (P : Prog) : Nat → CT
  | 0 => fun _ _ _ _ _ => False
  | n + 1 => fun f as H Q E => Fc (fun as H Q E => need (P.fn f) fun d => need (bindP d.params as fun _ => none) fun m =>
      wpSs P (CW P n) d.body ⟨H, m⟩ (fun fl σ => Q (retV fl) σ.H) fun e σ => E e σ.H) as H Q E
end Mine

end

section
set_option autoImplicit false
set_option linter.all false
set_option genSizeOf false
set_option genInjectivity false
namespace Mine
open PySem (Str)
/-- where a def stands: at the top, or in a class -/
inductive Src where
  | g (x : Str)
  | m (c x : Str)
/-- the tables of a text: names, defs, global names, classes -/
structure Tb where
  nms : List (Nat × Str)
  fns : List (Nat × Src × Fn)
  globs : List (Nat × V)
  clss : List (Nat × Str × Cl)
  excs : List (Nat × Str)
  subs : List (Nat × Nat)
  quiet : List Nat
  qg : List Nat
  nAppend : Nat
  nPop : Nat
  nExtend : Nat
  nGet : Nat
  nSetdefault : Nat
noncomputable def sub2 : List (Nat × Nat) → Nat → Nat → Bool
  | [], _, _ => false
  | p :: r, j, k => cond (Nat.beq p.1 j && Nat.beq p.2 k) true (sub2 r j k)
noncomputable def mp2 {α β : Type} : Option (α × β) → Option β
  | some y => some y.2
  | none => none
noncomputable def isSm {α : Type} : Option α → Bool
  | some _ => true
  | none => false
noncomputable def hasN : List Nat → Nat → Bool
  | [], _ => false
  | a :: r, k => cond (Nat.beq a k) true (hasN r k)
noncomputable def Tb.P (t : Tb) : Prog where
  fn := fun k => mp2 (lk t.fns k)
  cls := fun k => mp2 (lk t.clss k)
  glob := fun i => lk t.globs i
  sub := fun j k => sub2 t.subs j k
  exc := fun k => isSm (lk t.excs k)
  nAppend := t.nAppend
  nPop := t.nPop
  nExtend := t.nExtend
  nGet := t.nGet
  nSetdefault := t.nSetdefault
end Mine

end

section
set_option autoImplicit false
set_option linter.all false
set_option genSizeOf false
set_option genInjectivity false
namespace Mine
theorem ins_perm (x : Int) (l : List Int) : (ins x l).Perm (x :: l) := by
  induction l with
  | nil => exact .refl _
  | cons y r ih =>
    show (if x ≤ y then x :: y :: r else y :: ins x r).Perm _
    by_cases h : x ≤ y
    · rw [if_pos h]
    · rw [if_neg h]; exact (ih.cons y).trans (.swap x y r)
theorem srt_perm (l : List Int) : (srt l).Perm l := by
  induction l with
  | nil => exact .refl _
  | cons x r ih => exact (ins_perm x _).trans (ih.cons x)
theorem ins_sorted (x : Int) {l : List Int} (h : l.Pairwise (· ≤ ·)) : (ins x l).Pairwise (· ≤ ·) := by
  induction l with
  | nil => exact List.pairwise_singleton _ _
  | cons y r ih =>
    have h' := List.pairwise_cons.mp h
    show (if x ≤ y then x :: y :: r else y :: ins x r).Pairwise _
    by_cases c : x ≤ y
    · rw [if_pos c]
      refine List.pairwise_cons.mpr ⟨fun z hz => ?_, h⟩
      rcases List.mem_cons.mp hz with q | q
      · rw [q]; exact c
      · exact Int.le_trans c (h'.1 z q)
    · rw [if_neg c]
      refine List.pairwise_cons.mpr ⟨fun z hz => ?_, ih h'.2⟩
      rcases List.mem_cons.mp ((ins_perm x r).mem_iff.mp hz) with q | q
      · rw [q]; exact Int.le_of_lt (Int.not_le.mp c)
      · exact h'.1 z q
theorem srt_sorted (l : List Int) : (srt l).Pairwise (· ≤ ·) := by
  induction l with
  | nil => exact .nil
  | cons x r ih => exact ins_sorted x ih
theorem srt_uniq {a b : List Int} (h : a.Perm b) (ha : a.Pairwise (· ≤ ·)) : a = srt b :=
  (h.trans (srt_perm b).symm).eq_of_pairwise (le := (· ≤ ·)) (fun _ _ _ _ p q => Int.le_antisymm p q) ha (srt_sorted b)
end Mine

end

section
set_option autoImplicit false
set_option linter.all false
set_option genSizeOf false
set_option genInjectivity false
namespace Mine
open PySem PySem.Calls PyProof.Rows

noncomputable def bval : B → Value
  | .int => .type "int"
  | .bool => .type "bool"
  | .list => .type "list"
  | .tuple => .type "tuple"
  | .str => .type "str"
  | .valueError => .type "ValueError"
  | .range => .type "range"
  | .set => .type "set"
  | .enumerate => .type "enumerate"
  | .len => .builtin "len"
  | .isinstance => .builtin "isinstance"
  | .max => .builtin "max"
  | .min => .builtin "min"
  | .sorted => .builtin "sorted"

/-- what stands fast during the call -/
structure Cx where
  prog : Program
  w : World
  P : Prog
  nm : Nat → Str
  fnA : Nat → Option Addr
  clA : Nat → Option Addr
  hb : Heap
  /-- functions, and global names, that may be called while an exception is handled -/
  quiet : Nat → Bool
  qg : Nat → Bool

/-- the frozen objects, and where the cells lie -/
structure Wd where
  Z : Addr → Option Obj
  φ : Nat → Option (Addr × Addr)

abbrev tupO (vs : Array Value) (n : Nat) : Obj := { cls := .type "tuple", data := .seq vs n }
abbrev lstO (vs : Array Value) (n : Nat) : Obj := { cls := .type "list", data := .seq vs n }

mutual
inductive VR (X : Cx) (W : Wd) : Value → V → Prop
  | none : VR X W .none .none
  | bool (b : Bool) : VR X W (.bool b) (.bool b)
  | int (i : Int) (t : Tok) : VR X W (.int i t) (.int i)
  | str (s : Str) (t : Tok) : PyData.strOk s = true → s.length ≤ SZ → VR X W (.str s t) (.str s)
  | tup {a : Addr} {vs : Array Value} {n : Nat} {xs : List V} : W.Z a = some (tupO vs n) → VRs X W vs.toList xs → xs.length ≤ SZ → VR X W (.ref a) (.tup xs)
  | lst {a : Addr} {vs : Array Value} {n : Nat} {xs : List V} : W.Z a = some (lstO vs n) → VRs X W vs.toList xs → xs.length ≤ SZ → VR X W (.ref a) (.lst xs)
  | rng {r : Addr} {a b c : Int} {t u v : Tok} : W.Z r = some { cls := .type "range", dict := none, data := .fields #[.int a t, .int b u, .int c v], slots := #[] } → a.natAbs ≤ SZ → b.natAbs ≤ SZ → c = 1 ∨ c = -1 → VR X W (.ref r) (.rng a b c)
  | ref {i : Nat} {l : Addr × Addr} : W.φ i = some l → VR X W (.ref l.1) (.ref i)
  | bt (b : B) : VR X W (bval b) (.bt b)
  | fn {k : Nat} {a : Addr} : X.fnA k = some a → VR X W (.ref a) (.fn k)
  | cls {k : Nat} {a : Addr} : X.clA k = some a → VR X W (.ref a) (.cls k)
inductive VRs (X : Cx) (W : Wd) : List Value → List V → Prop
  | nil : VRs X W [] []
  | cons {v : Value} {vs : List Value} {x : V} {xs : List V} : VR X W v x → VRs X W vs xs → VRs X W (v :: vs) (x :: xs)
end

structure Wd.Le (W W' : Wd) : Prop where
  zz : ∀ a o, W.Z a = some o → W'.Z a = some o
  ff : ∀ i l, W.φ i = some l → W'.φ i = some l
theorem Wd.Le.refl (W : Wd) : Wd.Le W W := ⟨fun _ _ e => e, fun _ _ e => e⟩
theorem Wd.Le.trans {W W' W'' : Wd} (a : Wd.Le W W') (b : Wd.Le W' W'') : Wd.Le W W'' := ⟨fun _ _ e => b.zz _ _ (a.zz _ _ e), fun _ _ e => b.ff _ _ (a.ff _ _ e)⟩

theorem VR.le2 {X : Cx} {W W' : Wd} (h : Wd.Le W W') : (∀ {v : Value} {x : V}, VR X W v x → VR X W' v x) ∧ ∀ {vs : List Value} {xs : List V}, VRs X W vs xs → VRs X W' vs xs := by
  constructor
  · intro v x r
    exact VR.rec (motive_1 := fun v x _ => VR X W' v x) (motive_2 := fun vs xs _ => VRs X W' vs xs) .none .bool .int .str (fun z _ q ih => .tup (h.zz _ _ z) ih q) (fun z _ q ih => .lst (h.zz _ _ z) ih q) (fun z p q r => .rng (h.zz _ _ z) p q r) (fun e => .ref (h.ff _ _ e)) .bt .fn .cls .nil (fun _ _ a b => .cons a b) r
  · intro v x r
    exact VRs.rec (motive_1 := fun v x _ => VR X W' v x) (motive_2 := fun vs xs _ => VRs X W' vs xs) .none .bool .int .str (fun z _ q ih => .tup (h.zz _ _ z) ih q) (fun z _ q ih => .lst (h.zz _ _ z) ih q) (fun z p q r => .rng (h.zz _ _ z) p q r) (fun e => .ref (h.ff _ _ e)) .bt .fn .cls .nil (fun _ _ a b => .cons a b) r
theorem VR.le {X : Cx} {W W' : Wd} (h : Wd.Le W W') {v : Value} {x : V} (r : VR X W v x) : VR X W' v x := (VR.le2 h).1 r
theorem VRs.le {X : Cx} {W W' : Wd} (h : Wd.Le W W') {vs : List Value} {xs : List V} (r : VRs X W vs xs) : VRs X W' vs xs := (VR.le2 h).2 r
/-- things one by one: nothing, or one more -/
theorem VRs.ind {X : Cx} {W : Wd} {p : List Value → List V → Prop} (h0 : p [] []) (h1 : ∀ {v : Value} {vs : List Value} {x : V} {xs : List V}, VR X W v x → VRs X W vs xs → p vs xs → p (v :: vs) (x :: xs)) {vs : List Value} {xs : List V} (r : VRs X W vs xs) : p vs xs :=
  VRs.rec (motive_1 := fun _ _ _ => True) (motive_2 := fun vs xs _ => p vs xs) trivial (fun _ => trivial) (fun _ _ => trivial) (fun _ _ _ _ => trivial) (fun _ _ _ _ => trivial) (fun _ _ _ _ => trivial) (fun _ _ _ _ => trivial) (fun _ => trivial) (fun _ => trivial) (fun _ => trivial) (fun _ => trivial) h0 (fun a b _ ih => h1 a b ih) r

theorem VRs.length {X : Cx} {W : Wd} {vs : List Value} {xs : List V} (r : VRs X W vs xs) : vs.length = xs.length := VRs.ind (p := fun vs xs => vs.length = xs.length) rfl (fun _ _ ih => congrArg (· + 1) ih) r
theorem VRs.append {X : Cx} {W : Wd} {vs ws : List Value} {xs ys : List V} (r : VRs X W vs xs) (h : VRs X W ws ys) : VRs X W (vs ++ ws) (xs ++ ys) := VRs.ind (p := fun vs xs => VRs X W (vs ++ ws) (xs ++ ys)) h (fun a _ ih => .cons a ih) r
theorem VRs.get {X : Cx} {W : Wd} {vs : List Value} {xs : List V} (r : VRs X W vs xs) {k : Nat} {x : V} (e : xs[k]? = some x) : ∃ v, vs[k]? = some v ∧ VR X W v x :=
  VRs.ind (p := fun vs xs => ∀ (k : Nat) x, xs[k]? = some x → ∃ v, vs[k]? = some v ∧ VR X W v x) (fun _ _ e => (nomatch e)) (fun {v _ _ _} a _ ih k x e => by
    cases k with
    | zero => exact ⟨v, rfl, Option.some.inj e ▸ a⟩
    | succ k => exact ih k x e) r k x e
theorem VRs.take {X : Cx} {W : Wd} {vs : List Value} {xs : List V} (k : Nat) (r : VRs X W vs xs) : VRs X W (vs.take k) (xs.take k) :=
  VRs.ind (p := fun vs xs => ∀ k : Nat, VRs X W (vs.take k) (xs.take k)) (fun k => by cases k <;> exact .nil) (fun a _ ih k => by
    cases k with
    | zero => exact .nil
    | succ k => exact .cons a (ih k)) r k
theorem VRs.drop {X : Cx} {W : Wd} {vs : List Value} {xs : List V} (k : Nat) (r : VRs X W vs xs) : VRs X W (vs.drop k) (xs.drop k) :=
  VRs.ind (p := fun vs xs => ∀ k : Nat, VRs X W (vs.drop k) (xs.drop k)) (fun k => by cases k <;> exact .nil) (fun a b ih k => by
    cases k with
    | zero => exact .cons a b
    | succ k => exact ih k) r k
theorem VRs.reverse {X : Cx} {W : Wd} {vs : List Value} {xs : List V} (r : VRs X W vs xs) : VRs X W vs.reverse xs.reverse :=
  VRs.ind (p := fun vs xs => VRs X W vs.reverse xs.reverse) .nil (fun a _ ih => by rw [List.reverse_cons, List.reverse_cons]; exact VRs.append ih (.cons a .nil)) r
theorem VRs.set {X : Cx} {W : Wd} {vs : List Value} {xs : List V} (k : Nat) {v : Value} {x : V} (r : VRs X W vs xs) (h : VR X W v x) : VRs X W (vs.set k v) (xs.set k x) :=
  VRs.ind (p := fun vs xs => ∀ k : Nat, VRs X W (vs.set k v) (xs.set k x)) (fun k => .nil) (fun a b ih k => by
    cases k with
    | zero => exact .cons h b
    | succ k => exact .cons a (ih k)) r k

/-- the entries of a dict made in the call: by ints -/
inductive KVs (X : Cx) (W : Wd) : List (Int × Value) → List (V × V) → Prop
  | nil : KVs X W [] []
  | cons {i : Int} {v : Value} {x : V} {es : List (Int × Value)} {kvs : List (V × V)} : VR X W v x → KVs X W es kvs → KVs X W ((i, v) :: es) ((.int i, x) :: kvs)
/-- the entries of an object's own dict -/
inductive FVs (X : Cx) (W : Wd) : List DictEntry → List (Nat × V) → Prop
  | nil : FVs X W [] []
  | cons {i : Nat} {hh : Int} {t : Tok} {v : Value} {x : V} {es : List DictEntry} {fs : List (Nat × V)} : VR X W v x → FVs X W es fs → FVs X W (⟨hh, .str (X.nm i) t, v⟩ :: es) ((i, x) :: fs)

theorem KVs.le {X : Cx} {W W' : Wd} (h : Wd.Le W W') {es : List (Int × Value)} {kvs : List (V × V)} (r : KVs X W es kvs) : KVs X W' es kvs := by
  induction r with
  | nil => exact .nil
  | cons a _ ih => exact .cons (a.le h) ih
theorem FVs.le {X : Cx} {W W' : Wd} (h : Wd.Le W W') {es : List DictEntry} {fs : List (Nat × V)} (r : FVs X W es fs) : FVs X W' es fs := by
  induction r with
  | nil => exact .nil
  | cons a _ ih => exact .cons (a.le h) ih

abbrev dictO (es : Array DictEntry) (n : Nat) : Obj := { cls := .type "dict", data := .dict es n }
abbrev instO (c dx : Addr) : Obj := { cls := .ref c, dict := some dx, data := .plain }

/-- a cell lies in the heap -/
inductive LstCell (X : Cx) (W : Wd) (h : Heap) (l : Addr × Addr) (xs : List V) : Prop
  | mk (vs : Array Value) (n : Nat) (a : h.get? l.1 = some (lstO vs n)) (b : VRs X W vs.toList xs) (e : l.2 = l.1) (z : xs.length ≤ SZ)
inductive DicCell (X : Cx) (W : Wd) (h : Heap) (l : Addr × Addr) (kvs : List (V × V)) : Prop
  | mk (es : List (Int × Value)) (a : h.DictOf (intKind X.prog X.w) l.1 es) (k : KVs X W es kvs) (e : l.2 = l.1) (ne : (l.1 == sysModules) = false) (z : kvs.length ≤ SZ)
inductive InsCell (X : Cx) (W : Wd) (h : Heap) (l : Addr × Addr) (k : Nat) (fs : List (Nat × V)) : Prop
  | mk (c : Addr) (cl : Cl) (es : Array DictEntry) (n : Nat) (a : X.clA k = some c) (a' : X.P.cls k = some cl) (b : h.get? l.1 = some (instO c l.2)) (d : h.get? l.2 = some (dictO es n)) (f : FVs X W es.toList fs) (ne : l.2 ≠ l.1) (p : ∀ p ∈ fs, p.1 ∈ cl.attrs) (z : fs.length ≤ 1000)
inductive ExcCell (X : Cx) (h : Heap) (l : Addr × Addr) (k : Nat) : Prop
  | mk (c : Addr) (o : Obj) (vs : Array Value) (a : X.clA k = some c) (a' : X.P.exc k = true) (b : h.get? l.1 = some o) (d : o.cls = .ref c) (f : o.data = .fields vs) (e : l.2 = l.1)
noncomputable def CellAt (X : Cx) (W : Wd) (h : Heap) (l : Addr × Addr) : C → Prop
  | .list xs => LstCell X W h l xs
  | .dict kvs => DicCell X W h l kvs
  | .inst k fs => InsCell X W h l k fs
  | .exc k => ExcCell X h l k

theorem CellAt.keeps {X : Cx} {W W' : Wd} {h h' : Heap} {l : Addr × Addr} {c : C} (hc : CellAt X W h l c) (hw : Wd.Le W W')
    (h1 : ∀ o, h.get? l.1 = some o → h'.get? l.1 = some o) (h2 : ∀ o, h.get? l.2 = some o → h'.get? l.2 = some o) : CellAt X W' h' l c := by
  cases c with
  | list xs => obtain ⟨vs, n, a, b, e, z⟩ := hc; exact ⟨vs, n, h1 _ a, b.le hw, e, z⟩
  | dict kvs => obtain ⟨es, a, k, e, n, z⟩ := hc; exact ⟨es, a.at h1, k.le hw, e, n, z⟩
  | inst k fs => obtain ⟨c, cl, es, n, a, a', b, d, f, ne, p, z⟩ := hc; exact ⟨c, cl, es, n, a, a', h1 _ b, h2 _ d, f.le hw, ne, p, z⟩
  | exc k => obtain ⟨c, o, vs, a, a', b, d, f, e⟩ := hc; exact ⟨c, o, vs, a, a', h1 _ b, d, f, e⟩
theorem CellAt.there {X : Cx} {W : Wd} {h : Heap} {l : Addr × Addr} {c : C} (hc : CellAt X W h l c) : (∃ o, h.get? l.1 = some o) ∧ ∃ o, h.get? l.2 = some o := by
  cases c with
  | list xs => obtain ⟨vs, n, a, b, e, _⟩ := hc; exact ⟨⟨_, a⟩, by rw [e]; exact ⟨_, a⟩⟩
  | dict kvs => obtain ⟨es, ⟨o, _, _, g, _⟩, k, e, _⟩ := hc; exact ⟨⟨o, g⟩, by rw [e]; exact ⟨o, g⟩⟩
  | inst k fs => obtain ⟨c, cl, es, n, a, a', b, d, f, _⟩ := hc; exact ⟨⟨_, b⟩, _, d⟩
  | exc k => obtain ⟨c, o, vs, a, a', b, d, f, e⟩ := hc; exact ⟨⟨_, b⟩, by rw [e]; exact ⟨_, b⟩⟩

inductive Own (W : Wd) (H : Hp) (a : Addr) : Prop
  | mk (i : Nat) (c : C) (l : Addr × Addr) (h : H.get i = some c) (p : W.φ i = some l) (e : a = l.1 ∨ a = l.2)
inductive CellIn (X : Cx) (W : Wd) (h : Heap) (i : Nat) (c : C) : Prop
  | mk (l : Addr × Addr) (p : W.φ i = some l) (r : CellAt X W h l c)

structure RelH (X : Cx) (W : Wd) (H : Hp) (h : Heap) : Prop where
  z : ∀ a o, W.Z a = some o → h.get? a = some o
  base : ∀ a o, X.hb.get? a = some o → W.Z a = some o
  cell : ∀ i c, H.get i = some c → CellIn X W h i c
  off : ∀ a, Own W H a → W.Z a = none
  sep : ∀ i j ci cj li lj, H.get i = some ci → H.get j = some cj → W.φ i = some li → W.φ j = some lj → i ≠ j → li.1 ≠ lj.1 ∧ li.1 ≠ lj.2 ∧ li.2 ≠ lj.1 ∧ li.2 ≠ lj.2
  dom : ∀ i, H.next ≤ i → H.get i = none ∧ W.φ i = none

theorem RelH.own_there {X : Cx} {W : Wd} {H : Hp} {h : Heap} (R : RelH X W H h) {a : Addr} (o : Own W H a) : ∃ ob, h.get? a = some ob := by
  obtain ⟨i, c, l, hc, hl, ha⟩ := o
  obtain ⟨l', hl', hcell⟩ := R.cell i c hc
  have : l' = l := Option.some.inj (hl'.symm.trans hl)
  subst this
  rcases ha with rfl | rfl
  · exact hcell.there.1
  · exact hcell.there.2
theorem RelH.own_lt {X : Cx} {W : Wd} {H : Hp} {h : Heap} (R : RelH X W H h) {a : Addr} (o : Own W H a) : a < h.objs.size := let ⟨_, e⟩ := R.own_there o; Heap.lt_size e
theorem RelH.bkeep {X : Cx} {W : Wd} {H : Hp} {h : Heap} (R : RelH X W H h) : ∀ a o, X.hb.get? a = some o → h.get? a = some o := fun a o e => R.z _ _ (R.base a o e)

/-- no names are kept in it -/
noncomputable def NoNames (o : Obj) : Prop := ∀ es n, o.data ≠ .dict es n
/-- the same object, but a frame's slots may differ -/
noncomputable def SameO (o o' : Obj) : Prop := o' = o ∨ ((∃ es n, o.data = .dict es n) ∧ ∃ sl, o' = { o with slots := sl })
theorem SameO.refl (o : Obj) : SameO o o := .inl rfl
theorem SameO.trans {a b c : Obj} (x : SameO a b) (y : SameO b c) : SameO a c := by
  rcases x with rfl | ⟨h, sl, rfl⟩
  · exact y
  · rcases y with rfl | ⟨_, sl', rfl⟩
    · exact .inr ⟨h, sl, rfl⟩
    · exact .inr ⟨h, sl', rfl⟩
theorem SameO.eq {a b : Obj} (x : SameO a b) (h : NoNames a) : b = a := x.elim id fun q => by
  obtain ⟨⟨es, n, e⟩, _⟩ := q
  exact absurd e (h es n)
theorem SameO.cls {a b : Obj} (x : SameO a b) : b.cls = a.cls := by rcases x with rfl | ⟨_, _, rfl⟩ <;> rfl
theorem SameO.data {a b : Obj} (x : SameO a b) : b.data = a.data := by rcases x with rfl | ⟨_, _, rfl⟩ <;> rfl

/-- what a step may do: all that is neither owned nor private stands as it stood -/
structure Stp (Pv : Addr → Prop) (W : Wd) (H : Hp) (h : Heap) (W' : Wd) (H' : Hp) (h' : Heap) : Prop where
  le : Wd.Le W W'
  keep : ∀ a o, h.get? a = some o → ¬ Own W H a → ¬ Pv a → ∃ o', h'.get? a = some o' ∧ SameO o o'
  own : ∀ a o, h.get? a = some o → ¬ Own W H a → ¬ Own W' H' a
  znew : ∀ a o, W'.Z a = some o → W.Z a = some o ∨ Own W H a ∨ h.get? a = none
  there : ∀ a o, h.get? a = some o → ∃ o', h'.get? a = some o'

noncomputable def noPv : Addr → Prop := fun _ => False

theorem Stp.refl {Pv : Addr → Prop} {W : Wd} {H : Hp} {h : Heap} : Stp Pv W H h W H h :=
  ⟨.refl _, fun _ o e _ _ => ⟨o, e, .refl o⟩, fun _ _ _ n => n, fun _ _ e => .inl e, fun _ o e => ⟨o, e⟩⟩
theorem Stp.trans {Pv : Addr → Prop} {W W' W'' : Wd} {H H' H'' : Hp} {h h' h'' : Heap} (a : Stp Pv W H h W' H' h') (b : Stp Pv W' H' h' W'' H'' h'') : Stp Pv W H h W'' H'' h'' where
  le := a.le.trans b.le
  keep := fun x o e n p => by
    obtain ⟨o₁, e₁, q₁⟩ := a.keep x o e n p
    obtain ⟨o₂, e₂, q₂⟩ := b.keep x o₁ e₁ (a.own x o e n) p
    exact ⟨o₂, e₂, q₁.trans q₂⟩
  own := fun x o e n => let ⟨_, e'⟩ := a.there x o e; b.own x _ e' (a.own x o e n)
  znew := fun x o e => by
    rcases b.znew x o e with q | q | q
    · exact a.znew x o q
    · by_cases ho : Own W H x
      · exact .inr (.inl ho)
      · cases hx : h.get? x with
        | none => exact .inr (.inr rfl)
        | some o' => exact absurd q (a.own x o' hx ho)
    · cases hx : h.get? x with
      | none => exact .inr (.inr rfl)
      | some o' => obtain ⟨_, e'⟩ := a.there x o' hx; rw [e'] at q; cases q
  there := fun x o e => let ⟨_, e'⟩ := a.there x o e; b.there x _ e'
theorem Stp.mono {Pv Pv' : Addr → Prop} {W W' : Wd} {H H' : Hp} {h h' : Heap} (a : Stp Pv W H h W' H' h') (hp : ∀ x, Pv x → Pv' x) : Stp Pv' W H h W' H' h' :=
  ⟨a.le, fun x o e n p => a.keep x o e n fun q => p (hp x q), a.own, a.znew, a.there⟩

/-- a step whose private things are new -/
theorem Stp.transFresh {Pv Pv' : Addr → Prop} {W W' W'' : Wd} {H H' H'' : Hp} {h h' h'' : Heap} (a : Stp Pv W H h W' H' h') (b : Stp Pv' W' H' h' W'' H'' h'') (hf : ∀ x, Pv' x → h.get? x = none ∨ Pv x) : Stp Pv W H h W'' H'' h'' where
  le := a.le.trans b.le
  keep := fun x o e n p => by
    obtain ⟨o₁, e₁, q₁⟩ := a.keep x o e n p
    obtain ⟨o₂, e₂, q₂⟩ := b.keep x o₁ e₁ (a.own x o e n) fun q => (hf x q).elim (fun z => by rw [z] at e; cases e) p
    exact ⟨o₂, e₂, q₁.trans q₂⟩
  own := fun x o e n => let ⟨_, e'⟩ := a.there x o e; b.own x _ e' (a.own x o e n)
  znew := fun x o e => by
    rcases b.znew x o e with q | q | q
    · exact a.znew x o q
    · by_cases ho : Own W H x
      · exact .inr (.inl ho)
      · cases hx : h.get? x with
        | none => exact .inr (.inr rfl)
        | some o' => exact absurd q (a.own x o' hx ho)
    · cases hx : h.get? x with
      | none => exact .inr (.inr rfl)
      | some o' => obtain ⟨_, e'⟩ := a.there x o' hx; rw [e'] at q; cases q
  there := fun x o e => let ⟨_, e'⟩ := a.there x o e; b.there x _ e'

/-- nothing of the layer's moves: more objects, or the private ones changed -/
theorem Stp.quiet {Pv : Addr → Prop} {W : Wd} {H : Hp} {h h' : Heap} (hk : ∀ a o, h.get? a = some o → ¬ Pv a → h'.get? a = some o) (ht : ∀ a o, h.get? a = some o → ∃ o', h'.get? a = some o') :
    Stp Pv W H h W H h' := ⟨.refl _, fun x o e _ p => ⟨o, hk x o e p, .refl o⟩, fun _ _ _ n => n, fun _ _ e => .inl e, ht⟩
theorem RelH.quiet {Pv : Addr → Prop} {X : Cx} {W : Wd} {H : Hp} {h h' : Heap} (R : RelH X W H h) (hk : ∀ a o, h.get? a = some o → ¬ Pv a → h'.get? a = some o) (hp : ∀ a, Pv a → ¬ Own W H a ∧ W.Z a = none) : RelH X W H h' where
  z := fun a o e => hk a o (R.z a o e) fun p => by rw [(hp a p).2] at e; cases e
  base := R.base
  cell := fun i c e => by
    obtain ⟨l, hl, hc⟩ := R.cell i c e
    exact ⟨l, hl, hc.keeps (.refl _) (fun o q => hk _ o q fun p => (hp _ p).1 ⟨i, c, l, e, hl, .inl rfl⟩) fun o q => hk _ o q fun p => (hp _ p).1 ⟨i, c, l, e, hl, .inr rfl⟩⟩
  off := R.off
  sep := R.sep
  dom := R.dom

noncomputable def Wd.addZ (W : Wd) (a : Addr) (o : Obj) : Wd := ⟨fun b => if b = a then some o else W.Z b, W.φ⟩
noncomputable def Wd.addφ (W : Wd) (i : Nat) (l : Addr × Addr) : Wd := ⟨W.Z, fun j => if j = i then some l else W.φ j⟩

theorem Own.addZ {W : Wd} {H : Hp} {a b : Addr} {o : Obj} : Own (W.addZ a o) H b ↔ Own W H b := ⟨fun ⟨i, c, l, x, y, z⟩ => ⟨i, c, l, x, y, z⟩, fun ⟨i, c, l, x, y, z⟩ => ⟨i, c, l, x, y, z⟩⟩
section
variable {X : Cx} {W : Wd} {H : Hp} {h h' : Heap} (R : RelH X W H h)
include R
theorem RelH.leZ {a : Addr} {o : Obj} (hn : h.get? a = none) : Wd.Le W (W.addZ a o) :=
  ⟨fun b ob e => (by
    show (if b = a then some o else W.Z b) = some ob
    rw [if_neg]
    · exact e
    · rintro rfl; rw [R.z _ _ e] at hn; cases hn), fun _ _ e => e⟩
/-- a new frozen object -/
theorem RelH.frozen {a : Addr} {o : Obj} (hk : ∀ b ob, h.get? b = some ob → h'.get? b = some ob) (hn : h.get? a = none) (ha : h'.get? a = some o) :
    RelH X (W.addZ a o) H h' ∧ Stp noPv W H h (W.addZ a o) H h' := by
  have L : Wd.Le W (W.addZ a o) := R.leZ hn
  refine ⟨⟨fun b ob e => ?_, fun b ob e => L.zz _ _ (R.base b ob e), fun i c e => ?_, fun b hb => ?_, R.sep, R.dom⟩, ⟨L, fun x ob e _ _ => ⟨ob, hk x ob e, .refl ob⟩, fun _ _ _ n z => n (Own.addZ.mp z), fun x ob e => ?_, fun x ob e => ⟨ob, hk x ob e⟩⟩⟩
  · have e' : (if b = a then some o else W.Z b) = some ob := e
    by_cases hb : b = a
    · subst hb; rw [if_pos rfl] at e'; cases e'; exact ha
    · rw [if_neg hb] at e'; exact hk _ _ (R.z _ _ e')
  · obtain ⟨l, hl, hc⟩ := R.cell i c e
    exact ⟨l, hl, hc.keeps L (fun o q => hk _ _ q) fun o q => hk _ _ q⟩
  · show (if b = a then some o else W.Z b) = none
    have hb' : Own W H b := Own.addZ.mp hb
    rw [if_neg]
    · exact R.off b hb'
    · rintro rfl
      obtain ⟨_, q⟩ := R.own_there hb'
      rw [q] at hn; cases hn
  · have e' : (if x = a then some o else W.Z x) = some ob := e
    by_cases hb : x = a
    · subst hb; exact .inr (.inr hn)
    · rw [if_neg hb] at e'; exact .inl e'
theorem RelH.leF {l : Addr × Addr} : Wd.Le W (W.addφ H.next l) :=
  ⟨fun _ _ e => e, fun i k e => by
    show (if i = H.next then some l else W.φ i) = some k
    rw [if_neg]
    · exact e
    · rintro rfl; rw [(R.dom _ (Nat.le_refl _)).2] at e; cases e⟩
theorem RelH.own_new {l : Addr × Addr} {c : C} {a : Addr} (ho : Own (W.addφ H.next l) (H.new c) a) : Own W H a ∨ a = l.1 ∨ a = l.2 := by
  obtain ⟨i, ci, li, hi, hl, ha⟩ := ho
  have hi' : (if i = H.next then some c else H.get i) = some ci := Hp.get_new.symm.trans hi
  have hl' : (if i = H.next then some l else W.φ i) = some li := hl
  by_cases hn : i = H.next
  · rw [if_pos hn] at hl'; cases hl'; exact .inr ha
  · rw [if_neg hn] at hi' hl'; exact .inl ⟨i, ci, li, hi', hl', ha⟩
/-- a new cell -/
theorem RelH.fresh {l : Addr × Addr} {c : C} (hk : ∀ b ob, h.get? b = some ob → h'.get? b = some ob) (h1 : h.get? l.1 = none) (h2 : h.get? l.2 = none)
    (hc : CellAt X (W.addφ H.next l) h' l c) : RelH X (W.addφ H.next l) (H.new c) h' ∧ Stp noPv W H h (W.addφ H.next l) (H.new c) h' := by
  have L : Wd.Le W (W.addφ H.next l) := R.leF
  have nZ : ∀ b, h.get? b = none → W.Z b = none := fun b e => by
    cases q : W.Z b with
    | none => rfl
    | some o => rw [R.z _ _ q] at e; cases e
  have ne : ∀ i ci li, H.get i = some ci → W.φ i = some li → (li.1 ≠ l.1 ∧ li.1 ≠ l.2 ∧ li.2 ≠ l.1 ∧ li.2 ≠ l.2) := fun i ci li hi hl => by
    obtain ⟨o1, q1⟩ := R.own_there ⟨i, ci, li, hi, hl, .inl rfl⟩
    obtain ⟨o2, q2⟩ := R.own_there ⟨i, ci, li, hi, hl, .inr rfl⟩
    refine ⟨fun e => ?_, fun e => ?_, fun e => ?_, fun e => ?_⟩
    · rw [e, h1] at q1; cases q1
    · rw [e, h2] at q1; cases q1
    · rw [e, h1] at q2; cases q2
    · rw [e, h2] at q2; cases q2
  refine ⟨⟨fun b ob e => hk _ _ (R.z b ob e), R.base, fun i ci e => ?_, fun b hb => ?_, fun i j ci cj li lj hi hj hli hlj nij => ?_, fun i hi => ?_⟩, ⟨L, fun x ob e _ _ => ⟨ob, hk x ob e, .refl ob⟩, fun x ob e n o => ?_, fun _ _ e => .inl e, fun x ob e => ⟨ob, hk x ob e⟩⟩⟩
  · have e' : (if i = H.next then some c else H.get i) = some ci := Hp.get_new.symm.trans e
    by_cases hn : i = H.next
    · rw [if_pos hn] at e'; cases e'
      exact ⟨l, by show (if i = H.next then some l else W.φ i) = some l; rw [if_pos hn], hc⟩
    · rw [if_neg hn] at e'
      obtain ⟨k, hl, q⟩ := R.cell i ci e'
      exact ⟨k, L.ff _ _ hl, q.keeps L (fun o q => hk _ _ q) fun o q => hk _ _ q⟩
  · rcases R.own_new hb with q | rfl | rfl
    · exact R.off b q
    · exact nZ _ h1
    · exact nZ _ h2
  · have hi' : (if i = H.next then some c else H.get i) = some ci := Hp.get_new.symm.trans hi
    have hj' : (if j = H.next then some c else H.get j) = some cj := Hp.get_new.symm.trans hj
    have hli' : (if i = H.next then some l else W.φ i) = some li := hli
    have hlj' : (if j = H.next then some l else W.φ j) = some lj := hlj
    by_cases hn : i = H.next
    · have hm : ¬ j = H.next := fun q => nij (hn.trans q.symm)
      rw [if_pos hn] at hli'; cases hli'
      rw [if_neg hm] at hj' hlj'
      obtain ⟨a, b, c, d⟩ := ne j cj lj hj' hlj'
      exact ⟨a.symm, c.symm, b.symm, d.symm⟩
    · rw [if_neg hn] at hi' hli'
      by_cases hm : j = H.next
      · rw [if_pos hm] at hlj'; cases hlj'
        obtain ⟨a, b, c, d⟩ := ne i ci li hi' hli'
        exact ⟨a, b, c, d⟩
      · rw [if_neg hm] at hj' hlj'
        exact R.sep i j ci cj li lj hi' hj' hli' hlj' nij
  · have hi2 : H.next + 1 ≤ i := Hp.next_new (H := H) (c := c) ▸ hi
    have : ¬ i = H.next := by omega
    constructor
    · rw [Hp.get_new, if_neg this]; exact (R.dom i (by omega)).1
    · show (if i = H.next then some l else W.φ i) = none
      rw [if_neg this]; exact (R.dom i (by omega)).2
  · rcases R.own_new o with q | rfl | rfl
    · exact n q
    · rw [h1] at e; cases e
    · rw [h2] at e; cases e
theorem RelH.own_set {i : Nat} {c c' : C} {a : Addr} (hi : H.get i = some c) : Own W (H.set i c') a ↔ Own W H a := by
  constructor
  · rintro ⟨j, cj, lj, hj, hl, ha⟩
    have hj' : (if j = i then some c' else H.get j) = some cj := (Hp.get_set hi).symm.trans hj
    by_cases hn : j = i
    · exact ⟨j, c, lj, hn ▸ hi, hl, ha⟩
    · rw [if_neg hn] at hj'; exact ⟨j, cj, lj, hj', hl, ha⟩
  · rintro ⟨j, cj, lj, hj, hl, ha⟩
    by_cases hn : j = i
    · exact ⟨j, c', lj, by rw [Hp.get_set hi, if_pos hn], hl, ha⟩
    · exact ⟨j, cj, lj, by rw [Hp.get_set hi, if_neg hn]; exact hj, hl, ha⟩
/-- a cell changed -/
theorem RelH.upd {i : Nat} {l : Addr × Addr} {c c' : C} (hi : H.get i = some c) (hl : W.φ i = some l) (hk : ∀ b ob, h.get? b = some ob → b ≠ l.1 → b ≠ l.2 → h'.get? b = some ob)
    (hc : CellAt X W h' l c') : RelH X W (H.set i c') h' ∧ Stp noPv W H h W (H.set i c') h' := by
  have ow : ∀ b, b = l.1 ∨ b = l.2 → Own W H b := fun b e => ⟨i, c, l, hi, hl, e⟩
  have hk' : ∀ b ob, h.get? b = some ob → ¬ Own W H b → h'.get? b = some ob := fun b ob e n => hk b ob e (fun q => n (ow b (.inl q))) fun q => n (ow b (.inr q))
  refine ⟨⟨fun b ob e => hk' _ _ (R.z b ob e) fun o => ?_, R.base, fun j cj e => ?_, fun b hb => R.off b ((R.own_set hi).mp hb), fun j k cj ck lj lk hj hk₂ hlj hlk nij => ?_, fun j hj => ?_⟩,
    ⟨.refl _, fun x ob e n _ => ⟨ob, hk' x ob e n, .refl ob⟩, fun x ob _ n o => n ((R.own_set hi).mp o), fun _ _ e => .inl e, fun x ob e => ?_⟩⟩
  · rw [R.off _ o] at e; cases e
  · have e' : (if j = i then some c' else H.get j) = some cj := (Hp.get_set hi).symm.trans e
    by_cases hn : j = i
    · rw [if_pos hn] at e'; cases e'; subst hn; exact ⟨l, hl, hc⟩
    · rw [if_neg hn] at e'
      obtain ⟨k, hlj, q⟩ := R.cell j cj e'
      obtain ⟨a, b, c₁, d⟩ := R.sep j i cj c k l e' hi hlj hl hn
      exact ⟨k, hlj, q.keeps (.refl _) (fun o q => hk _ _ q a b) fun o q => hk _ _ q c₁ d⟩
  · have g : ∀ j cj, (H.set i c').get j = some cj → ∃ c₂, H.get j = some c₂ := fun j cj e => by
      have e' : (if j = i then some c' else H.get j) = some cj := (Hp.get_set hi).symm.trans e
      by_cases hn : j = i
      · exact ⟨c, hn ▸ hi⟩
      · rw [if_neg hn] at e'; exact ⟨_, e'⟩
    obtain ⟨_, a⟩ := g j cj hj
    obtain ⟨_, b⟩ := g k ck hk₂
    exact R.sep j k _ _ lj lk a b hlj hlk nij
  · have hj' : H.next ≤ j := Hp.next_set (H := H) (i := i) (c := c') ▸ hj
    have hn : ¬ j = i := by rintro rfl; rw [(R.dom j hj').1] at hi; cases hi
    refine ⟨?_, (R.dom j hj').2⟩
    rw [Hp.get_set hi, if_neg hn]; exact (R.dom j hj').1
  · by_cases h1 : x = l.1
    · subst h1; exact hc.there.1
    · by_cases h2 : x = l.2
      · subst h2; exact hc.there.2
      · exact ⟨ob, hk x ob e h1 h2⟩
/-- a list that is changed no more -/
theorem RelH.freeze {i : Nat} {xs : List V} {l : Addr × Addr} (hi : H.get i = some (.list xs)) (hl : W.φ i = some l) :
    ∃ o, RelH X (W.addZ l.1 o) (H.del i) h ∧ Stp noPv W H h (W.addZ l.1 o) (H.del i) h ∧ VR X (W.addZ l.1 o) (.ref l.1) (.lst xs) := by
  obtain ⟨l', hl', vs, n, hg, hv, he, hsz⟩ := R.cell i _ hi
  have : l' = l := Option.some.inj (hl'.symm.trans hl)
  subst this
  have own_i : ∀ b, b = l'.1 ∨ b = l'.2 → Own W H b := fun b e => ⟨i, _, l', hi, hl, e⟩
  have L : Wd.Le W (W.addZ l'.1 (lstO vs n)) := ⟨fun b ob e => (by
    show (if b = l'.1 then some (lstO vs n) else W.Z b) = some ob
    rw [if_neg]
    · exact e
    · rintro rfl; rw [R.off _ (own_i _ (.inl rfl))] at e; cases e), fun _ _ e => e⟩
  have od : ∀ b, Own (W.addZ l'.1 (lstO vs n)) (H.del i) b → Own W H b ∧ b ≠ l'.1 := fun b ⟨j, cj, lj, hj, hlj, ha⟩ => by
    have hj' : (if j = i then none else H.get j) = some cj := (Hp.get_del hi).symm.trans hj
    by_cases hn : j = i
    · rw [if_pos hn] at hj'; cases hj'
    · rw [if_neg hn] at hj'
      refine ⟨⟨j, cj, lj, hj', hlj, ha⟩, ?_⟩
      obtain ⟨a, b, c, d⟩ := R.sep j i cj _ lj l' hj' hi hlj hl hn
      rcases ha with rfl | rfl
      · exact a
      · exact c
  refine ⟨lstO vs n, ⟨fun b ob e => ?_, fun b ob e => L.zz _ _ (R.base b ob e), fun j cj e => ?_, fun b hb => ?_, fun j k cj ck lj lk hj hk hlj hlk nij => ?_, fun j hj => ?_⟩,
    ⟨L, fun x ob e _ _ => ⟨ob, e, .refl ob⟩, fun x ob e no o => no (od x o).1, fun x ob e => ?_, fun x ob e => ⟨ob, e⟩⟩, .lst (n := n) ?_ (hv.le L) hsz⟩
  · have e' : (if b = l'.1 then some (lstO vs n) else W.Z b) = some ob := e
    by_cases hb : b = l'.1
    · rw [if_pos hb] at e'; cases e'; rw [hb]; exact hg
    · rw [if_neg hb] at e'; exact R.z _ _ e'
  · have e' : (if j = i then none else H.get j) = some cj := (Hp.get_del hi).symm.trans e
    by_cases hn : j = i
    · rw [if_pos hn] at e'; cases e'
    · rw [if_neg hn] at e'
      obtain ⟨k, hlj, q⟩ := R.cell j cj e'
      exact ⟨k, hlj, q.keeps L (fun _ q => q) fun _ q => q⟩
  · obtain ⟨a, b'⟩ := od b hb
    show (if b = l'.1 then some (lstO vs n) else W.Z b) = none
    rw [if_neg b']; exact R.off _ a
  · have g : ∀ j cj, (H.del i).get j = some cj → H.get j = some cj := fun j cj e => by
      have e' : (if j = i then none else H.get j) = some cj := (Hp.get_del hi).symm.trans e
      by_cases hn : j = i
      · rw [if_pos hn] at e'; cases e'
      · rw [if_neg hn] at e'; exact e'
    exact R.sep j k cj ck lj lk (g _ _ hj) (g _ _ hk) hlj hlk nij
  · have hj' : H.next ≤ j := Hp.next_del (H := H) (i := i) ▸ hj
    refine ⟨?_, (R.dom j hj').2⟩
    rw [Hp.get_del hi, (R.dom j hj').1]; simp
  · have e' : (if x = l'.1 then some (lstO vs n) else W.Z x) = some ob := e
    by_cases hb : x = l'.1
    · exact .inr (.inl (own_i _ (.inl hb)))
    · rw [if_neg hb] at e'; exact .inl e'
  · show (if l'.1 = l'.1 then some (lstO vs n) else W.Z l'.1) = _
    rw [if_pos rfl]
end
end Mine

end

section
set_option autoImplicit false
set_option linter.all false
set_option genSizeOf false
set_option genInjectivity false
namespace Mine
open PySem PySem.Calls PyProof.Rows

structure Rest (s s' : Shared) : Prop where
  gens : s'.gens = s.gens
  drawn : s'.drawn = s.drawn
  os : s'.os = s.os
theorem Rest.refl (s : Shared) : Rest s s := ⟨rfl, rfl, rfl⟩
theorem Rest.trans {a b c : Shared} (x : Rest a b) (y : Rest b c) : Rest a c := ⟨y.gens.trans x.gens, y.drawn.trans x.drawn, y.os.trans x.os⟩
theorem Rest.mk' {s : Shared} {h : Heap} {t : Nat} : Rest s { s with heap := h, toks := t } := ⟨rfl, rfl, rfl⟩

theorem ns_same {h h' : Heap} {a : Addr} {m : Str → Option Value} (hn : h.Ns a m) (hk : ∀ o, h.get? a = some o → ∃ o', h'.get? a = some o' ∧ SameO o o') : h'.Ns a m := by
  obtain ⟨o, es, ep, ho, hd, r⟩ := hn
  obtain ⟨o', ho', q⟩ := hk o ho
  exact ⟨o', es, ep, ho', q.data.trans hd, r⟩
theorem cell_same {h h' : Heap} {a : Addr} {v : Option Value} (hn : h.IsCell a v) (hk : ∀ o, h.get? a = some o → ∃ o', h'.get? a = some o' ∧ SameO o o') : h'.IsCell a v := by
  obtain ⟨o, ho, hd⟩ := hn
  obtain ⟨o', ho', q⟩ := hk o ho
  exact ⟨o', ho', q.data.trans hd⟩

/-- what is the frame's own, and the frames around -/
structure Pr where
  pv : Addr → Prop
  st : List Env
/-- a frame around -/
structure FrAt (W : Wd) (H : Hp) (h : Heap) (env : Env) : Prop where
  kd : env.scope.kind ≠ .module
  at_ : ∃ L o es n, env.frame = some L ∧ h.get? L = some o ∧ o.data = .dict es n ∧ ¬ Own W H L ∧ W.Z L = none
theorem FrAt.keep {W W' : Wd} {H H' : Hp} {h h' : Heap} {env : Env} (F : FrAt W H h env) (k : ∀ L o es n, env.frame = some L → h.get? L = some o → o.data = .dict es n → ¬ Own W H L → W.Z L = none → (∃ o' es' n', h'.get? L = some o' ∧ o'.data = .dict es' n') ∧ ¬ Own W' H' L ∧ W'.Z L = none) : FrAt W' H' h' env := by
  obtain ⟨kd, L, o, es, n, a, b, c, d, e⟩ := F
  obtain ⟨⟨o', es', n', b', c'⟩, d', e'⟩ := k L o es n a b c d e
  exact ⟨kd, L, o', es', n', a, b', c', d', e'⟩

inductive MmR (X : Cx) (W : Wd) (m : Str → Option Value) (i : Nat) (v : V) : Prop
  | mk (cv : Value) (e : m (X.nm i) = some cv) (r : VR X W cv v)
inductive NsR (X : Cx) (W : Wd) (h : Heap) (env : Env) (loc : Loc) : Prop
  | mk (m : Str → Option Value) (hn : h.Ns env.locals m) (hv : ∀ i v, loc i = some v → env.kindOf (X.nm i) = some .local → MmR X W m i v)
inductive ClR (X : Cx) (W : Wd) (h : Heap) (env : Env) (i : Nat) (v : V) : Prop
  | mk (c : Addr) (cv : Value) (e : env.cells.lookup (X.nm i) = some c) (hc : h.IsCell c (some cv)) (r : VR X W cv v)
/-- the frame at hand -/
structure FrR (X : Cx) (W : Wd) (H : Hp) (h : Heap) (env : Env) (Pv : Pr) (loc : Loc) : Prop where
  ns : NsR X W h env loc
  cells : ∀ i v, loc i = some v → (env.kindOf (X.nm i) = some .cell ∨ env.kindOf (X.nm i) = some .free) → ClR X W h env i v
  hasCell : ∀ x, env.func ≠ none → env.kindOf x = some .cell → ∃ c v, env.cells.lookup x = some c ∧ h.IsCell c v ∧ Pv.pv c
  cellEq : ∀ x y c, env.cells.lookup x = some c → env.cells.lookup y = some c → x = y
  cellNs : ∀ x c, env.cells.lookup x = some c → c ≠ env.locals ∧ ¬ Own W H c ∧ ∃ o, h.get? c = some o
  pvL : Pv.pv env.locals
  priv : ∀ a, Pv.pv a → ¬ Own W H a ∧ W.Z a = none
  pvAt : ∀ a, Pv.pv a → ∃ o, h.get? a = some o
  frs : ∀ e ∈ Pv.st, FrAt W H h e
  frc : ∀ x c, env.cells.lookup x = some c → ∀ e ∈ Pv.st, e.frame ≠ some c

theorem FrR.step {X : Cx} {W W' : Wd} {H H' : Hp} {h h' : Heap} {env : Env} {Pv : Pr} {Pv' : Addr → Prop} {loc : Loc} (F : FrR X W H h env Pv loc) (S : Stp Pv' W H h W' H' h') (hp : ∀ a, Pv' a → h.get? a = none) : FrR X W' H' h' env Pv loc := by
  have kp : ∀ a, Pv.pv a → ∀ o, h.get? a = some o → ∃ o', h'.get? a = some o' ∧ SameO o o' := fun a p o e => S.keep a o e (F.priv a p).1 fun q => by rw [hp a q] at e; cases e
  have kc : ∀ x c, env.cells.lookup x = some c → ∀ o, h.get? c = some o → ∃ o', h'.get? c = some o' ∧ SameO o o' := fun x c q o e => S.keep c o e (F.cellNs x c q).2.1 fun q => by rw [hp c q] at e; cases e
  refine ⟨?_, fun i v e k => ?_, fun x ef e => ?_, F.cellEq, fun x c e => ?_, F.pvL, fun a p => ?_, fun a p => ?_, fun e he => (F.frs e he).keep fun L o es n a b c d f => ?_, F.frc⟩
  · obtain ⟨m, hn, hv⟩ := F.ns
    exact ⟨m, ns_same hn (kp _ F.pvL), fun i v e k => let ⟨cv, q, r⟩ := hv i v e k; ⟨cv, q, r.le S.le⟩⟩
  · obtain ⟨c, cv, q, r, t⟩ := F.cells i v e k
    exact ⟨c, cv, q, cell_same r (kc _ _ q), t.le S.le⟩
  · obtain ⟨c, v, q, r, t⟩ := F.hasCell x ef e
    exact ⟨c, v, q, cell_same r (kc _ _ q), t⟩
  · obtain ⟨a, b, ob, q⟩ := F.cellNs x c e
    exact ⟨a, S.own c ob q b, S.there c ob q⟩
  · obtain ⟨o, e⟩ := F.pvAt a p
    refine ⟨S.own a o e (F.priv a p).1, ?_⟩
    cases hq : W'.Z a with
    | none => rfl
    | some ob =>
      rcases S.znew a ob hq with q | q | q
      · rw [(F.priv a p).2] at q; cases q
      · exact absurd q (F.priv a p).1
      · rw [e] at q; cases q
  · obtain ⟨o, e⟩ := F.pvAt a p
    exact S.there a o e
  · obtain ⟨o', e', q⟩ := S.keep L o b d fun q => by rw [hp L q] at b; cases b
    refine ⟨⟨o', es, n, e', q.data.trans c⟩, S.own L o b d, ?_⟩
    cases hq : W'.Z L with
    | none => rfl
    | some ob =>
      rcases S.znew L ob hq with q | q | q
      · rw [f] at q; cases q
      · exact absurd q d
      · rw [b] at q; cases q

/-- storing a name of the frame's -/
theorem FrR.storeL {X : Cx} {W : Wd} {H : Hp} {h h' : Heap} {env : Env} {Pv : Pr} {loc : Loc} {i : Nat} {cv : Value} {v : V} {m : Str → Option Value} (F : FrR X W H h env Pv loc) (hn : h.Ns env.locals m)
    (hm : ∀ j v, loc j = some v → env.kindOf (X.nm j) = some .local → MmR X W m j v) (hinj : ∀ j, X.nm j = X.nm i → j = i)
    (hk : env.kindOf (X.nm i) = some .local) (hv : VR X W cv v) (hn' : h'.Ns env.locals (fun x => if x = X.nm i then some cv else m x)) (hs : Heap.SameBut env.locals h h') : FrR X W H h' env Pv (upd loc i v) := by
  refine ⟨⟨_, hn', fun j u e k => ?_⟩, fun j u e k => ?_, fun x ef e => ?_, F.cellEq, fun x c e => ?_, F.pvL, F.priv, fun a p => ?_, fun e he => (F.frs e he).keep fun L o es n a b c d f => ⟨?_, d, f⟩, F.frc⟩
  · have e' : (if j = i then some v else loc j) = some u := e
    by_cases hj : j = i
    · rw [if_pos hj] at e'; cases e'; exact ⟨cv, by rw [hj, if_pos rfl], hv⟩
    · rw [if_neg hj] at e'
      obtain ⟨cu, q, r⟩ := hm j u e' k
      exact ⟨cu, by rw [if_neg fun z => hj (hinj j z)]; exact q, r⟩
  · have e' : (if j = i then some v else loc j) = some u := e
    by_cases hj : j = i
    · subst hj; rw [hk] at k; rcases k with k | k <;> cases k
    · rw [if_neg hj] at e'
      obtain ⟨c, cu, q, r, t⟩ := F.cells j u e' k
      exact ⟨c, cu, q, r.sameBut hs (F.cellNs _ _ q).1, t⟩
  · obtain ⟨c, u, q, r, t⟩ := F.hasCell x ef e
    exact ⟨c, u, q, r.sameBut hs (F.cellNs _ _ q).1, t⟩
  · obtain ⟨a, b, o, q⟩ := F.cellNs x c e
    exact ⟨a, b, o, (hs.2 c a).trans q⟩
  · by_cases ha : a = env.locals
    · subst ha; obtain ⟨o, _, _, ho, _⟩ := hn'; exact ⟨o, ho⟩
    · obtain ⟨o, q⟩ := F.pvAt a p; exact ⟨o, (hs.2 a ha).trans q⟩
  · by_cases ha : L = env.locals
    · subst ha; obtain ⟨o', es', n', ho', hd', _⟩ := hn'; exact ⟨o', es', n', ho', hd'⟩
    · exact ⟨o, es, n, (hs.2 L ha).trans b, c⟩
theorem FrR.storeC {X : Cx} {W : Wd} {H : Hp} {h h' : Heap} {env : Env} {Pv : Pr} {loc : Loc} {i : Nat} {cv : Value} {v : V} {c : Addr} (F : FrR X W H h env Pv loc) (hinj : ∀ j, X.nm j = X.nm i → j = i)
    (hk : env.kindOf (X.nm i) = some .cell) (hc : env.cells.lookup (X.nm i) = some c) (hv : VR X W cv v) (hn' : h'.IsCell c (some cv)) (hs : Heap.SameBut c h h') : FrR X W H h' env Pv (upd loc i v) := by
  obtain ⟨m, hn, hm⟩ := F.ns
  have ne := (F.cellNs _ _ hc).1
  refine ⟨⟨m, hn.sameBut hs (Ne.symm ne), fun j u e k => ?_⟩, fun j u e k => ?_, fun x ef e => ?_, F.cellEq, fun x d e => ?_, F.pvL, F.priv, fun a p => ?_, fun e he => (F.frs e he).keep fun L o es n a b q d f => ⟨⟨o, es, n, (hs.2 L fun z => F.frc _ c hc e he (z ▸ a)).trans b, q⟩, d, f⟩, F.frc⟩
  · have e' : (if j = i then some v else loc j) = some u := e
    by_cases hj : j = i
    · subst hj; rw [hk] at k; cases k
    · rw [if_neg hj] at e'; exact hm j u e' k
  · have e' : (if j = i then some v else loc j) = some u := e
    by_cases hj : j = i
    · rw [if_pos hj] at e'; cases e'; exact ⟨c, cv, hj ▸ hc, hn', hv⟩
    · rw [if_neg hj] at e'
      obtain ⟨d, cu, q, r, t⟩ := F.cells j u e' k
      exact ⟨d, cu, q, r.sameBut hs fun z => hj (hinj j (F.cellEq _ _ d q (z ▸ hc))), t⟩
  · obtain ⟨d, u, q, r, t⟩ := F.hasCell x ef e
    by_cases hd : d = c
    · subst hd; exact ⟨d, _, q, hn', t⟩
    · exact ⟨d, u, q, r.sameBut hs hd, t⟩
  · obtain ⟨a, b, o, q⟩ := F.cellNs x d e
    refine ⟨a, b, ?_⟩
    by_cases hd : d = c
    · subst hd; obtain ⟨o', ho', _⟩ := hn'; exact ⟨o', ho'⟩
    · exact ⟨o, (hs.2 d hd).trans q⟩
  · by_cases ha : a = c
    · subst ha; obtain ⟨o', ho', _⟩ := hn'; exact ⟨o', ho'⟩
    · obtain ⟨o, q⟩ := F.pvAt a p; exact ⟨o, (hs.2 a ha).trans q⟩

/-- an exception under way; its traceback is newer than h₀ -/
noncomputable def Fly (W : Wd) (H : Hp) (h₀ h : Heap) (e : Addr) : Prop := ∃ oe vs a0, h.get? e = some oe ∧ oe.data = .fields vs ∧ vs[0]? = some a0 ∧ (vs[1]? = some .none ∨ ∃ T oT ts, vs[1]? = some (.ref T) ∧ T ≠ e ∧ h.get? T = some oT ∧ oT.data = .fields ts ∧ ts[3]? = some .none ∧ h₀.get? T = none ∧ ¬ Own W H T ∧ W.Z T = none)
theorem Fly.back {W : Wd} {H : Hp} {h₀ h₁ h : Heap} {e : Addr} (f : Fly W H h₁ h e) (t : ∀ a o, h₀.get? a = some o → ∃ o', h₁.get? a = some o') : Fly W H h₀ h e := by
  obtain ⟨oe, vs, a0, x1, x2, x3, x4⟩ := f
  refine ⟨oe, vs, a0, x1, x2, x3, x4.imp id fun y => ?_⟩
  obtain ⟨T, oT, ts, y1, y2, y3, y4, y5, y6, y7⟩ := y
  refine ⟨T, oT, ts, y1, y2, y3, y4, y5, ?_, y7⟩
  cases q : h₀.get? T with
  | none => rfl
  | some o => obtain ⟨o', e'⟩ := t T o q; rw [y6] at e'; cases e'

structure At (X : Cx) (env : Env) (Pv : Pr) (W : Wd) (σ : St) (s : Shared) : Prop where
  rel : RelH X W σ.H s.heap
  fr : FrR X W σ.H s.heap env Pv σ.loc
structure Tf (X : Cx) (env : Env) (Pv : Pr) (W : Wd) (σ : St) (s : Shared) (W' : Wd) (σ' : St) (s' : Shared) : Prop where
  stp : Stp Pv.pv W σ.H s.heap W' σ'.H s'.heap
  at_ : At X env Pv W' σ' s'
  rest : Rest s s'
theorem Tf.refl {X : Cx} {env : Env} {Pv : Pr} {W : Wd} {σ : St} {s : Shared} (a : At X env Pv W σ s) : Tf X env Pv W σ s W σ s := ⟨.refl, a, .refl _⟩
theorem Tf.trans {X : Cx} {env : Env} {Pv : Pr} {W W' W'' : Wd} {σ σ' σ'' : St} {s s' s'' : Shared} (a : Tf X env Pv W σ s W' σ' s') (b : Tf X env Pv W' σ' s' W'' σ'' s'') : Tf X env Pv W σ s W'' σ'' s'' :=
  ⟨a.stp.trans b.stp, b.at_, a.rest.trans b.rest⟩
/-- op level: nothing private -/
structure Tc (X : Cx) (W : Wd) (H : Hp) (s : Shared) (W' : Wd) (H' : Hp) (s' : Shared) : Prop where
  stp : Stp noPv W H s.heap W' H' s'.heap
  rel : RelH X W' H' s'.heap
  rest : Rest s s'
theorem Tc.refl {X : Cx} {W : Wd} {H : Hp} {s : Shared} (a : RelH X W H s.heap) : Tc X W H s W H s := ⟨.refl, a, .refl _⟩
theorem Tc.trans {X : Cx} {W W' W'' : Wd} {H H' H'' : Hp} {s s' s'' : Shared} (a : Tc X W H s W' H' s') (b : Tc X W' H' s' W'' H'' s'') : Tc X W H s W'' H'' s'' :=
  ⟨a.stp.trans b.stp, b.rel, a.rest.trans b.rest⟩
theorem Tc.tf {X : Cx} {env : Env} {Pv : Pr} {W W' : Wd} {σ : St} {H' : Hp} {s s' : Shared} (a : At X env Pv W σ s) (t : Tc X W σ.H s W' H' s') : Tf X env Pv W σ s W' ⟨H', σ.loc⟩ s' :=
  ⟨t.stp.mono fun _ z => z.elim, ⟨t.rel, a.fr.step t.stp fun _ z => z.elim⟩, t.rest⟩

/-- an exception leaves -/
inductive EXi (X : Cx) (env : Env) (Pv : Pr) (W : Wd) (σ : St) (s : Shared) (E : EP) (e : Value) (s' : Shared) : Prop
  | mk (W' : Wd) (σ' : St) (i : Nat) (l : Addr × Addr) (k : Nat) (t : Tf X env Pv W σ s W' σ' s') (he : e = .ref l.1) (hl : W'.φ i = some l) (hk : σ'.H.get i = some (.exc k)) (hf : Fly W' σ'.H s.heap s'.heap l.1) (h : E i σ')
noncomputable def EX (X : Cx) (env : Env) (Pv : Pr) (W : Wd) (σ : St) (s : Shared) (E : EP) (e : Value) (s' : Shared) : Prop :=
  EXi X env Pv W σ s E e s'
theorem EX.back {X : Cx} {env : Env} {Pv : Pr} {W W' : Wd} {σ σ' : St} {s s' s'' : Shared} {E : EP} {e : Value} (t : Tf X env Pv W σ s W' σ' s') (x : EX X env Pv W' σ' s' E e s'') : EX X env Pv W σ s E e s'' := by
  obtain ⟨W₂, σ₂, i, l, k, a, b, c, d, f, g⟩ := x
  exact ⟨W₂, σ₂, i, l, k, t.trans a, b, c, d, f.back t.stp.there, g⟩
theorem EX.no {X : Cx} {env : Env} {Pv : Pr} {W : Wd} {σ : St} {s s' : Shared} {e : Value} (x : EX X env Pv W σ s noE e s') : False := by
  obtain ⟨W₂, σ₂, i, l, k, a, b, c, d, f, g⟩ := x
  exact g

inductive Go {α : Type} (X : Cx) (env : Env) (Pv : Pr) (W : Wd) (σ : St) (s : Shared) (R : α → Wd → St → Shared → Prop) (a : α) (s' : Shared) : Prop
  | mk (W' : Wd) (σ' : St) (t : Tf X env Pv W σ s W' σ' s') (r : R a W' σ' s')
inductive GoC {α : Type} (X : Cx) (W : Wd) (H : Hp) (s : Shared) (R : α → Wd → Hp → Shared → Prop) (a : α) (s' : Shared) : Prop
  | mk (W' : Wd) (H' : Hp) (t : Tc X W H s W' H' s') (r : R a W' H' s')
inductive VQ (X : Cx) (Q : V → St → Prop) (v : Value) (W' : Wd) (σ' : St) (s' : Shared) : Prop
  | mk (av : V) (r : VR X W' v av) (h : Q av σ')
noncomputable def Ew {α : Type} (X : Cx) (A : Around) (env : Env) (Pv : Pr) (t : Sem α) (W : Wd) (σ : St) (s : Shared) (R : α → Wd → St → Shared → Prop) (E : EP) : Prop :=
  wpAny (model X.prog X.w) A t (Go X env Pv W σ s R) (EX X env Pv W σ s E) s

section
variable {α β : Type} {X : Cx} {A : Around} {env : Env} {Pv : Pr} {W : Wd} {σ : St} {s : Shared} {E : EP}
theorem Ew.from {t : Sem α} {W' : Wd} {σ' : St} {s' : Shared} {R : α → Wd → St → Shared → Prop} (T : Tf X env Pv W σ s W' σ' s') (h : Ew X A env Pv t W' σ' s' R E) :
    wpAny (model X.prog X.w) A t (Go X env Pv W σ s R) (EX X env Pv W σ s E) s' :=
  wpAny_mono h (fun _ _ ⟨W₂, σ₂, a, b⟩ => ⟨W₂, σ₂, T.trans a, b⟩) fun _ _ x => x.back T
theorem Ew.bind {m : Sem α} {f : α → Sem β} {R : β → Wd → St → Shared → Prop} (h : Ew X A env Pv m W σ s (fun a W₁ σ₁ s₁ => Ew X A env Pv (f a) W₁ σ₁ s₁ R E) E) : Ew X A env Pv (m >>= f) W σ s R E :=
  wpAny_bind (wpAny_mono h (fun _ _ ⟨_, _, T, h'⟩ => Ew.from T h') fun _ _ x => x)
theorem Ew.pure {a : α} {R : α → Wd → St → Shared → Prop} (at_ : At X env Pv W σ s) (h : R a W σ s) : Ew X A env Pv (pure a) W σ s R E := wpAny_pure ⟨W, σ, .refl at_, h⟩
theorem Ew.mono {t : Sem α} {R R' : α → Wd → St → Shared → Prop} (h : Ew X A env Pv t W σ s R E) (hr : ∀ a W' σ' s', At X env Pv W' σ' s' → R a W' σ' s' → R' a W' σ' s') : Ew X A env Pv t W σ s R' E :=
  wpAny_mono h (fun _ _ ⟨W', σ', T, r⟩ => ⟨W', σ', T, hr _ _ _ _ T.at_ r⟩) fun _ _ x => x
/-- a transition is known -/
theorem Ew.bindT {m : Sem α} {f : α → Sem β} {R : β → Wd → St → Shared → Prop} (h : Ew X A env Pv m W σ s (fun a W₁ σ₁ s₁ => At X env Pv W₁ σ₁ s₁ → Wd.Le W W₁ → Ew X A env Pv (f a) W₁ σ₁ s₁ R E) E) : Ew X A env Pv (m >>= f) W σ s R E :=
  wpAny_bind (wpAny_mono h (fun _ _ ⟨_, _, T, h'⟩ => Ew.from T (h' T.at_ T.stp.le)) fun _ _ x => x)
theorem Ew.holding {vs : List Value} {m : Sem α} {R : α → Wd → St → Shared → Prop} (h : Ew X A env Pv m W σ s R E) : Ew X A env Pv (holding vs m) W σ s R E := wpAny_holding h
theorem Ew.standAt {pos : Pos} {f : Unit → Sem β} {R : β → Wd → St → Shared → Prop} (h : Ew X A env Pv (f ()) W σ s R E) : Ew X A env Pv (standAt pos >>= f) W σ s R E := wpAny_bind (wpAny_standAt h)
theorem Ew.rule {tag : String} {f : Unit → Sem β} {R : β → Wd → St → Shared → Prop} (h : Ew X A env Pv (f ()) W σ s R E) : Ew X A env Pv (rule tag >>= f) W σ s R E := wpAny_bind (wpAny_rule h)
theorem Ew.operate {vs : List Value} {m : Sem Value} {R : Value → Wd → St → Shared → Prop} (h : Ew X A env Pv m W σ s R E) : Ew X A env Pv (operate vs m) W σ s R E := by
  intro Γ p hΓ
  rw [Sem.wp_operate]; exact h Γ p hΓ

/-- an operation of the level below -/
noncomputable def Ow (X : Cx) (A : Around) (t : Sem α) (W : Wd) (H : Hp) (s : Shared) (R : α → Wd → Hp → Shared → Prop) : Prop :=
  ∀ E : Value → Shared → Prop, wpAny (model X.prog X.w) A t (GoC X W H s R) E s
theorem Ow.ew {t : Sem α} {R : α → Wd → St → Shared → Prop} (at_ : At X env Pv W σ s) (h : Ow X A t W σ.H s (fun a W' H' s' => R a W' ⟨H', σ.loc⟩ s')) : Ew X A env Pv t W σ s R E :=
  wpAny_mono (h _) (fun _ _ ⟨W', H', T, r⟩ => ⟨W', ⟨H', σ.loc⟩, T.tf at_, r⟩) fun _ _ x => x
theorem Ow.bind {H : Hp} {m : Sem α} {f : α → Sem β} {R : β → Wd → Hp → Shared → Prop} (h : Ow X A m W H s (fun a W₁ H₁ s₁ => Ow X A (f a) W₁ H₁ s₁ R)) : Ow X A (m >>= f) W H s R :=
  fun E => wpAny_bind (wpAny_mono (h E) (fun _ _ ⟨_, _, T, h'⟩ => wpAny_mono (h' E) (fun _ _ ⟨W₂, H₂, a, b⟩ => ⟨W₂, H₂, T.trans a, b⟩) fun _ _ x => x) fun _ _ x => x)
theorem Ow.pure {H : Hp} {a : α} {R : α → Wd → Hp → Shared → Prop} (r : RelH X W H s.heap) (h : R a W H s) : Ow X A (pure a) W H s R := fun _ => wpAny_pure ⟨W, H, .refl r, h⟩
/-- the heap stays -/
theorem Ow.same {H : Hp} {t : Sem α} {R : α → Wd → Hp → Shared → Prop} (r : RelH X W H s.heap)
    (h : ∀ E : Value → Shared → Prop, wpAny (model X.prog X.w) A t (fun a s' => (∃ tk, s' = { s with toks := tk }) ∧ R a W H s') E s) : Ow X A t W H s R :=
  fun E => wpAny_mono (h E) (fun _ _ ⟨⟨tk, e⟩, q⟩ => ⟨W, H, by subst e; exact ⟨.refl, r, ⟨rfl, rfl, rfl⟩⟩, q⟩) fun _ _ x => x
/-- a new frozen object -/
theorem Tc.frozen {H : Hp} {a : Addr} {o : Obj} {h' : Heap} {tk : Nat} (r : RelH X W H s.heap) (hk : ∀ b ob, s.heap.get? b = some ob → h'.get? b = some ob) (hn : s.heap.get? a = none) (ha : h'.get? a = some o) :
    Tc X W H s (W.addZ a o) H { s with heap := h', toks := tk } := let ⟨x, y⟩ := r.frozen hk hn ha; ⟨y, x, ⟨rfl, rfl, rfl⟩⟩
theorem push_none (h : Heap) : h.get? h.objs.size = none := by
  cases q : h.get? h.objs.size with
  | none => rfl
  | some o => exact absurd (Heap.lt_size q) (Nat.lt_irrefl _)
theorem Tc.pushZ {H : Hp} {o : Obj} {tk : Nat} (r : RelH X W H s.heap) (hf : o.isFreed = false) : Tc X W H s (W.addZ s.heap.objs.size o) H { s with heap := s.heap.push o, toks := tk } :=
  Tc.frozen r (fun _ _ e => Heap.get?_push_of_some _ e) (push_none _) (Heap.get?_push_size _ hf)
theorem addZ_self {a : Addr} {o : Obj} : (W.addZ a o).Z a = some o := by show (if a = a then some o else W.Z a) = some o; rw [if_pos rfl]
theorem addφ_self {i : Nat} {l : Addr × Addr} : (W.addφ i l).φ i = some l := by show (if i = i then some l else W.φ i) = some l; rw [if_pos rfl]
end
end Mine

end

section
set_option autoImplicit false
set_option linter.all false
set_option genSizeOf false
set_option genInjectivity false
namespace Mine
open PySem PySem.Calls PyProof.Rows
/-! A call on a part of the heap. -/
section
variable {js : List Nat} {n : Nat}
theorem pos0_some : ∀ {js : List Nat} {j i : Nat}, pos0 js j = some i → js[i]? = some j
  | [], j, i, h => by cases h
  | a :: r, j, i, h => by
    have h : (if a = j then some 0 else (match pos0 r j with | some i => some (i + 1) | none => none)) = some i := h
    by_cases e : a = j
    · rw [if_pos e] at h; cases h; rw [e]; rfl
    · rw [if_neg e] at h
      cases q : pos0 r j with
      | none => rw [q] at h; cases h
      | some k => rw [q] at h; cases h; rw [List.getElem?_cons_succ]; exact pos0_some q
theorem pos0_none : ∀ {js : List Nat} {j : Nat}, pos0 js j = none → j ∉ js
  | [], j, _ => fun e => by cases e
  | a :: r, j, h => fun e => by
    have h : (if a = j then some 0 else (match pos0 r j with | some i => some (i + 1) | none => none)) = none := h
    by_cases q : a = j
    · rw [if_pos q] at h; cases h
    · rw [if_neg q] at h
      rcases List.mem_cons.mp e with z | z
      · exact q z.symm
      · cases p : pos0 r j with
        | none => exact pos0_none p z
        | some k => rw [p] at h; cases h
/-- where a number comes from -/
inductive PosC (js : List Nat) (n j : Nat) : Prop
  | out (lt : j < n) (no : j ∉ js) (e : pos js n j = none)
  | old (i : Nat) (lt : j < n) (h : js[i]? = some j) (q : pos0 js j = some i) (e : pos js n j = some i) (r : rho js n i = j)
  | new (i : Nat) (le : n ≤ j) (li : js.length ≤ i) (e : pos js n j = some i) (r : rho js n i = j)
theorem rho_old {i j : Nat} (h : js[i]? = some j) : rho js n i = j := by
  have li : i < js.length := (List.getElem?_eq_some_iff.mp h).1
  unfold rho
  rw [if_pos li, h]; rfl
theorem rho_new {i : Nat} (h : js.length ≤ i) : rho js n i = n + (i - js.length) := by
  unfold rho
  rw [if_neg (Nat.not_lt_of_le h)]
theorem posC (js : List Nat) (n j : Nat) : PosC js n j := by
  by_cases le : n ≤ j
  · have e : pos js n j = some (js.length + (j - n)) := by unfold pos; rw [if_pos le]
    refine .new _ le (Nat.le_add_right _ _) e ?_
    rw [rho_new (Nat.le_add_right _ _), Nat.add_sub_cancel_left, Nat.add_sub_cancel' le]
  · have lt := Nat.lt_of_not_le le
    have e : pos js n j = pos0 js j := by unfold pos; rw [if_neg le]
    cases q : pos0 js j with
    | none => exact .out lt (pos0_none q) (e.trans q)
    | some i => exact .old i lt (pos0_some q) q (e.trans q) (rho_old (pos0_some q))
theorem pos_new {i : Nat} (h : js.length ≤ i) : pos js n (n + (i - js.length)) = some i := by
  unfold pos
  rw [if_pos (Nat.le_add_right _ _), Nat.add_sub_cancel_left, Nat.add_sub_cancel' h]
end
section
variable {X : Cx} {W W' : Wd} {ρ : Nat → Nat}
theorem renVs_len : ∀ xs : List V, (renVs ρ xs).length = xs.length
  | [] => rfl
  | _ :: r => congrArg (· + 1) (renVs_len r)
/-- things seen from the part -/
theorem VR.up (hz : ∀ a o, W.Z a = some o → NoNames o → W'.Z a = some o) (hf : ∀ i l, W.φ i = some l → W'.φ (ρ i) = some l) : (∀ {v : Value} {x : V}, VR X W v x → VR X W' v (renV ρ x)) ∧ ∀ {vs : List Value} {xs : List V}, VRs X W vs xs → VRs X W' vs (renVs ρ xs) := by
  have sq : ∀ {c : Value} {vs : Array Value} {n : Nat}, NoNames { cls := c, data := .seq vs n } := fun es m q => by cases q
  constructor
  · intro v x r
    exact VR.rec (motive_1 := fun v x _ => VR X W' v (renV ρ x)) (motive_2 := fun vs xs _ => VRs X W' vs (renVs ρ xs)) .none .bool .int .str (fun z _ q ih => .tup (hz _ _ z sq) ih (by rw [renVs_len]; exact q)) (fun z _ q ih => .lst (hz _ _ z sq) ih (by rw [renVs_len]; exact q)) (fun z p q r => .rng (hz _ _ z fun es m q => by cases q) p q r) (fun e => .ref (hf _ _ e)) .bt .fn .cls .nil (fun _ _ a b => .cons a b) r
  · intro v x r
    exact VRs.rec (motive_1 := fun v x _ => VR X W' v (renV ρ x)) (motive_2 := fun vs xs _ => VRs X W' vs (renVs ρ xs)) .none .bool .int .str (fun z _ q ih => .tup (hz _ _ z sq) ih (by rw [renVs_len]; exact q)) (fun z _ q ih => .lst (hz _ _ z sq) ih (by rw [renVs_len]; exact q)) (fun z p q r => .rng (hz _ _ z fun es m q => by cases q) p q r) (fun e => .ref (hf _ _ e)) .bt .fn .cls .nil (fun _ _ a b => .cons a b) r
section
variable (hz : ∀ a o, W.Z a = some o → W'.Z a = some o) (hf : ∀ i, W'.φ i = W.φ (ρ i))
include hz hf
mutual
theorem vr_down : ∀ (x : V) {v : Value}, VR X W v (renV ρ x) → VR X W' v x
  | .none, v, r => by cases r; exact .none
  | .bool b, v, r => by cases r; exact .bool b
  | .int i, v, r => by cases r; exact .int _ _
  | .str s, v, r => by cases r with | str s t a b => exact .str _ _ a b
  | .tup xs, v, r => by
    have r : VR X W v (.tup (renVs ρ xs)) := r
    cases r with | tup z q l => exact .tup (hz _ _ z) (vrs_down xs q) (renVs_len (ρ := ρ) xs ▸ l)
  | .lst xs, v, r => by
    have r : VR X W v (.lst (renVs ρ xs)) := r
    cases r with | lst z q l => exact .lst (hz _ _ z) (vrs_down xs q) (renVs_len (ρ := ρ) xs ▸ l)
  | .rng a b c, v, r => by cases r with | rng z p q s => exact .rng (hz _ _ z) p q s
  | .ref i, v, r => by
    have r : VR X W v (.ref (ρ i)) := r
    cases r with | ref e => exact .ref ((hf i).trans e)
  | .bt b, v, r => by cases r; exact .bt b
  | .fn k, v, r => by cases r with | fn e => exact .fn e
  | .cls k, v, r => by cases r with | cls e => exact .cls e
theorem vrs_down : ∀ (xs : List V) {vs : List Value}, VRs X W vs (renVs ρ xs) → VRs X W' vs xs
  | [], vs, r => by cases r; exact .nil
  | x :: t, vs, r => by
    have r : VRs X W vs (renV ρ x :: renVs ρ t) := r
    cases r with | cons a b => exact .cons (vr_down x a) (vrs_down t b)
end
end
/-! cells -/
theorem KVs.up (u : ∀ {v : Value} {x : V}, VR X W v x → VR X W' v (renV ρ x)) {es : List (Int × Value)} {kvs : List (V × V)} (r : KVs X W es kvs) : KVs X W' es (renK ρ kvs) := by
  induction r with
  | nil => exact .nil
  | cons a _ ih => exact .cons (u a) ih
theorem FVs.up (u : ∀ {v : Value} {x : V}, VR X W v x → VR X W' v (renV ρ x)) {es : List DictEntry} {fs : List (Nat × V)} (r : FVs X W es fs) : FVs X W' es (renF ρ fs) := by
  induction r with
  | nil => exact .nil
  | cons a _ ih => exact .cons (u a) ih
theorem kvs_down (d : ∀ {v : Value} {x : V}, VR X W v (renV ρ x) → VR X W' v x) : ∀ {kvs : List (V × V)} {es : List (Int × Value)}, KVs X W es (renK ρ kvs) → KVs X W' es kvs
  | [], es, r => by cases r; exact .nil
  | (k, x) :: t, es, r => by
    have r : KVs X W es ((k, renV ρ x) :: renK ρ t) := r
    cases r with | cons a b => exact .cons (d a) (kvs_down d b)
theorem fvs_down (d : ∀ {v : Value} {x : V}, VR X W v (renV ρ x) → VR X W' v x) : ∀ {fs : List (Nat × V)} {es : List DictEntry}, FVs X W es (renF ρ fs) → FVs X W' es fs
  | [], es, r => by cases r; exact .nil
  | (k, x) :: t, es, r => by
    have r : FVs X W es ((k, renV ρ x) :: renF ρ t) := r
    cases r with | cons a b => exact .cons (d a) (fvs_down d b)
theorem renK_len : ∀ l : List (V × V), (renK ρ l).length = l.length
  | [] => rfl
  | _ :: r => congrArg (· + 1) (renK_len r)
theorem renF_len : ∀ l : List (Nat × V), (renF ρ l).length = l.length
  | [] => rfl
  | _ :: r => congrArg (· + 1) (renF_len r)
theorem renF_mem {q : Nat → Prop} : ∀ l : List (Nat × V), (∀ p ∈ renF ρ l, q p.1) ↔ ∀ p ∈ l, q p.1
  | [] => ⟨fun _ p h => (nomatch h), fun _ p h => (nomatch h)⟩
  | a :: r => by
    show (∀ p ∈ (a.1, renV ρ a.2) :: renF ρ r, q p.1) ↔ _
    rw [List.forall_mem_cons, List.forall_mem_cons, renF_mem r]
theorem cell_up (u : ∀ {v : Value} {x : V}, VR X W v x → VR X W' v (renV ρ x)) (us : ∀ {vs : List Value} {xs : List V}, VRs X W vs xs → VRs X W' vs (renVs ρ xs)) {h : Heap} {l : Addr × Addr} {c : C} (hc : CellAt X W h l c) : CellAt X W' h l (renC ρ c) := by
  cases c with
  | list xs => obtain ⟨vs, n, a, b, e, z⟩ := hc; exact ⟨vs, n, a, us b, e, by rw [renVs_len]; exact z⟩
  | dict kvs => obtain ⟨es, a, k, e, n, z⟩ := hc; exact ⟨es, a, k.up u, e, n, by rw [renK_len]; exact z⟩
  | inst k fs => obtain ⟨c, cl, es, n, a, a', b, d, f, ne, p, z⟩ := hc; exact ⟨c, cl, es, n, a, a', b, d, f.up u, ne, (renF_mem (q := (· ∈ cl.attrs)) fs).mpr p, by rw [renF_len]; exact z⟩
  | exc k => obtain ⟨c, o, vs, a, a', b, d, f, e⟩ := hc; exact ⟨c, o, vs, a, a', b, d, f, e⟩
theorem cell_down (hz : ∀ a o, W.Z a = some o → W'.Z a = some o) (hf : ∀ i, W'.φ i = W.φ (ρ i)) {h : Heap} {l : Addr × Addr} {c : C} (hc : CellAt X W h l (renC ρ c)) : CellAt X W' h l c := by
  cases c with
  | list xs => obtain ⟨vs, n, a, b, e, z⟩ := (hc : LstCell X W h l (renVs ρ xs)); exact ⟨vs, n, a, vrs_down hz hf xs b, e, renVs_len (ρ := ρ) xs ▸ z⟩
  | dict kvs => obtain ⟨es, a, k, e, n, z⟩ := (hc : DicCell X W h l (renK ρ kvs)); exact ⟨es, a, kvs_down (fun {v x} r => vr_down hz hf x r) k, e, n, renK_len (ρ := ρ) kvs ▸ z⟩
  | inst k fs => obtain ⟨c, cl, es, n, a, a', b, d, f, ne, p, z⟩ := (hc : InsCell X W h l k (renF ρ fs)); exact ⟨c, cl, es, n, a, a', b, d, fvs_down (fun {v x} r => vr_down hz hf x r) f, ne, (renF_mem (q := (· ∈ cl.attrs)) fs).mp p, renF_len (ρ := ρ) fs ▸ z⟩
  | exc k => exact hc
end
open Classical
section
variable {X : Cx} {W : Wd} {H H₀ : Hp} {js : List Nat}
/-- cells that the part does not see -/
inductive Out (W : Wd) (H H₀ : Hp) (js : List Nat) (a : Addr) : Prop
  | mk (j : Nat) (c : C) (l : Addr × Addr) (h : H.get j = some c) (p : W.φ j = some l) (e : a = l.1 ∨ a = l.2) (n : ∀ i, pos0 js j = some i → H₀.get i = none)
noncomputable def OutD (W : Wd) (H H₀ : Hp) (js : List Nat) (h : Heap) (a : Addr) : Prop := Out W H H₀ js a ∧ ∃ o es n, h.get? a = some o ∧ o.data = .dict es n
theorem Out.own {a : Addr} (o : Out W H H₀ js a) : Own W H a := by obtain ⟨j, c, l, h, p, e, _⟩ := o; exact ⟨j, c, l, h, p, e⟩
noncomputable def Wd.part (W : Wd) (H H₀ : Hp) (js : List Nat) (h : Heap) : Wd := ⟨fun a => if OutD W H H₀ js h a then h.get? a else W.Z a, fun i => W.φ (rho js H.next i)⟩
variable {h : Heap} (R : RelH X W H h) (e : Emb js H₀ H)
include R
theorem zPart {a : Addr} {o : Obj} (z : W.Z a = some o) : (W.part H H₀ js h).Z a = some o := by
  show (if OutD W H H₀ js h a then h.get? a else W.Z a) = some o
  rw [if_neg fun d => by rw [R.off a d.1.own] at z; cases z]; exact z
include e
theorem phiPart {i : Nat} {c : C} (g : H₀.get i = some c) : ∃ j l, js[i]? = some j ∧ pos0 js j = some i ∧ H.get j = some (renC (rho js H.next) c) ∧ W.φ j = some l ∧ (W.part H H₀ js h).φ i = some l ∧ CellAt X W h l (renC (rho js H.next) c) := by
  obtain ⟨j, x1, x2, x3⟩ := e.get i c g
  obtain ⟨l, hl, hc⟩ := R.cell j _ x3
  exact ⟨j, l, x1, x2, x3, hl, by show W.φ (rho js H.next i) = some l; rw [rho_old x1]; exact hl, hc⟩
theorem ownPart {a : Addr} (o : Own (W.part H H₀ js h) H₀ a) : Own W H a ∧ ¬ Out W H H₀ js a := by
  obtain ⟨i, c, l, g, p, ha⟩ := o
  obtain ⟨j, l', x1, x2, x3, x4, x5, _⟩ := phiPart R e g
  have : l' = l := Option.some.inj (x5.symm.trans p)
  subst this
  refine ⟨⟨j, _, l', x3, x4, ha⟩, fun ⟨k, c', m, y1, y2, y3, y4⟩ => ?_⟩
  by_cases q : j = k
  · subst q; rw [y4 i x2] at g; cases g
  · obtain ⟨a1, a2, a3, a4⟩ := R.sep j k _ _ l' m x3 y1 x4 y2 q
    rcases ha with rfl | rfl <;> rcases y3 with z | z <;> first | exact a1 z | exact a2 z | exact a3 z | exact a4 z
theorem relPart : RelH X (W.part H H₀ js h) H₀ h where
  z := fun a o q => by
    have q : (if OutD W H H₀ js h a then h.get? a else W.Z a) = some o := q
    by_cases d : OutD W H H₀ js h a
    · rw [if_pos d] at q; exact q
    · rw [if_neg d] at q; exact R.z _ _ q
  base := fun a o q => zPart R (R.base a o q)
  cell := fun i c g => by
    obtain ⟨j, l, x1, x2, x3, x4, x5, x6⟩ := phiPart R e g
    exact ⟨l, x5, cell_down (fun a o z => zPart R z) (fun i => rfl) x6⟩
  off := fun a o => by
    obtain ⟨o1, o2⟩ := ownPart R e o
    show (if OutD W H H₀ js h a then h.get? a else W.Z a) = none
    rw [if_neg fun d => o2 d.1]; exact R.off a o1
  sep := fun i k ci ck li lk hi hk pi pk ne => by
    obtain ⟨j, l, x1, x2, x3, x4, x5, _⟩ := phiPart R e hi
    obtain ⟨j', l', y1, y2, y3, y4, y5, _⟩ := phiPart R e hk
    have a1 : l = li := Option.some.inj (x5.symm.trans pi)
    have a2 : l' = lk := Option.some.inj (y5.symm.trans pk)
    subst a1 a2
    exact R.sep j j' _ _ _ _ x3 y3 x4 y4 fun z => ne (by subst z; rw [x2] at y2; exact Option.some.inj y2)
  dom := fun i hi => by
    rw [e.nx] at hi
    refine ⟨e.dom i hi, ?_⟩
    show W.φ (rho js H.next i) = none
    rw [rho_new hi]; exact (R.dom _ (Nat.le_add_right _ _)).2
end
end Mine

end

section
set_option autoImplicit false
set_option linter.all false
set_option genSizeOf false
set_option genInjectivity false
namespace Mine
open PySem PySem.Calls PyProof.Rows
open Classical
theorem atC_map {f : Nat → Option C} : ∀ {n k j : Nat}, atC ((List.range' k n).map f) j = if j < n then f (k + j) else none
  | 0, k, j => by rw [if_neg (Nat.not_lt_zero j)]; rfl
  | n + 1, k, 0 => by rw [if_pos (Nat.succ_pos n)]; rfl
  | n + 1, k, j + 1 => by
    show atC ((List.range' (k + 1) n).map f) j = _
    rw [atC_map (n := n) (k := k + 1) (j := j), Nat.add_assoc, Nat.add_comm 1 j]
    by_cases q : j < n
    · rw [if_pos q, if_pos (Nat.succ_lt_succ q)]
    · rw [if_neg q, if_neg fun z => q (Nat.lt_of_succ_lt_succ z)]
theorem mrg_get {js : List Nat} {H₀ H H₁ : Hp} {j : Nat} : (mrg js H₀ H H₁).get j = if j < H.next + (H₁.next - js.length) then mrgF js H₀ H H₁ j else none := by
  show atC ((List.range _).map _) j = _
  rw [List.range_eq_range', atC_map, Nat.zero_add]
theorem mrg_len {js : List Nat} {H₀ H H₁ : Hp} : (mrg js H₀ H H₁).next = H.next + (H₁.next - js.length) := by
  show ((List.range _).map _).length = _
  rw [List.length_map, List.length_range]
theorem mrg_some {js : List Nat} {H₀ H H₁ : Hp} {j : Nat} {c : C} (h : (mrg js H₀ H H₁).get j = some c) : mrgF js H₀ H H₁ j = some c := by
  rw [mrg_get] at h
  by_cases q : j < H.next + (H₁.next - js.length)
  · rw [if_pos q] at h; exact h
  · rw [if_neg q] at h; cases h
noncomputable def Wd.whole (W : Wd) (H H₀ : Hp) (js : List Nat) (h : Heap) (W₁ : Wd) : Wd := ⟨fun a => if OutD W H H₀ js h a then none else W₁.Z a, fun j => match pos js H.next j with | some i => W₁.φ i | none => W.φ j⟩
section
variable {X : Cx} {W W₁ : Wd} {H H₀ H₁ : Hp} {js : List Nat} {s s' : Shared} (R : RelH X W H s.heap) (e : Emb js H₀ H) (T : Tc X (W.part H H₀ js s.heap) H₀ s W₁ H₁ s')
include R
theorem jsLt {j : Nat} {c : C} (g : H.get j = some c) : j < H.next := by
  by_cases q : j < H.next
  · exact q
  · rw [(R.dom j (Nat.le_of_not_lt q)).1] at g; cases g
include T
theorem zWhole {a : Addr} {o : Obj} (z : W₁.Z a = some o) (n : NoNames o) : (W.whole H H₀ js s.heap W₁).Z a = some o := by
  show (if OutD W H H₀ js s.heap a then none else W₁.Z a) = some o
  rw [if_neg]
  · exact z
  · intro d
    obtain ⟨o', es, m, h1, h2⟩ := d.2
    have : (W.part H H₀ js s.heap).Z a = some o' := by show (if OutD W H H₀ js s.heap a then s.heap.get? a else W.Z a) = some o'; rw [if_pos d]; exact h1
    rw [T.stp.le.zz _ _ this] at z
    cases z
    exact n es m h2
include e
theorem phiW {i : Nat} {l : Addr × Addr} (p : W₁.φ i = some l) : (W.whole H H₀ js s.heap W₁).φ (rho js H.next i) = some l := by
  show (match pos js H.next (rho js H.next i) with | some i => W₁.φ i | none => W.φ (rho js H.next i)) = some l
  by_cases li : i < js.length
  · have hj : js[i]? = some js[i] := List.getElem?_eq_getElem li
    have er : rho js H.next i = js[i] := rho_old hj
    obtain ⟨c, hc⟩ := e.all _ (List.getElem_mem li)
    obtain ⟨l₀, hl, _⟩ := R.cell _ c hc
    have key : ∀ k, js[k]? = some js[i] → W₁.φ k = some l₀ := fun k hk => T.stp.le.ff _ _ (by show W.φ (rho js H.next k) = some l₀; rw [rho_old hk]; exact hl)
    have : l₀ = l := Option.some.inj ((key i hj).symm.trans p)
    subst this
    rw [er]
    cases posC js H.next js[i] with
    | out _ no _ => exact absurd (List.getElem_mem li) no
    | old k _ hk _ ek _ => rw [ek]; exact key k hk
    | new k le _ _ _ => exact absurd (jsLt R hc) (Nat.not_lt_of_le le)
  · have li := Nat.le_of_not_lt li
    rw [rho_new li, pos_new li]; exact p
theorem leWhole : Wd.Le W (W.whole H H₀ js s.heap W₁) where
  zz := fun a o z => by
    show (if OutD W H H₀ js s.heap a then none else W₁.Z a) = some o
    rw [if_neg fun d => by rw [R.off a d.1.own] at z; cases z]
    exact T.stp.le.zz _ _ (zPart R z)
  ff := fun j l p => by
    show (match pos js H.next j with | some i => W₁.φ i | none => W.φ j) = some l
    cases posC js H.next j with
    | out _ _ ek => rw [ek]; exact p
    | old k _ hk _ ek r => rw [ek]; exact T.stp.le.ff _ _ (by show W.φ (rho js H.next k) = some l; rw [r]; exact p)
    | new k le _ _ _ => rw [(R.dom j le).2] at p; cases p
/-- a cell of the whole heap behind the run -/
inductive CellM (W W₁ : Wd) (H H₀ H₁ : Hp) (js : List Nat) (h : Heap) (j : Nat) (c : C) : Prop
  | a (g : H.get j = some c) (p : (W.whole H H₀ js h W₁).φ j = W.φ j) (n : ∀ i, pos0 js j = some i → H₀.get i = none)
  | b (i : Nat) (c₁ : C) (g : H₁.get i = some c₁) (ec : c = renC (rho js H.next) c₁) (p : (W.whole H H₀ js h W₁).φ j = W₁.φ i) (r : rho js H.next i = j)
theorem cellM {j : Nat} {c : C} (g : (mrg js H₀ H H₁).get j = some c) : CellM W W₁ H H₀ H₁ js s.heap j c := by
  have g : (match pos js H.next j with | some i => mrgC (rho js H.next) (H₀.get i) (H₁.get i) (H.get j) | none => H.get j) = some c := mrg_some g
  have fp : ∀ o, pos js H.next j = o → (W.whole H H₀ js s.heap W₁).φ j = (match o with | some i => W₁.φ i | none => W.φ j) := fun o q => by subst q; rfl
  have both : ∀ i, pos js H.next j = some i → rho js H.next i = j → (H₁.get i = none → H₀.get i = none → CellM W W₁ H H₀ H₁ js s.heap j c) → CellM W W₁ H H₀ H₁ js s.heap j c := fun i ek r k => by
    rw [ek] at g
    have g : mrgC (rho js H.next) (H₀.get i) (H₁.get i) (H.get j) = some c := g
    cases q : H₁.get i with
    | some c₁ => rw [q] at g; exact .b i c₁ q (Option.some.inj g).symm (fp _ ek) r
    | none =>
      rw [q] at g
      cases q0 : H₀.get i with
      | some c₀ => rw [q0] at g; cases g
      | none => exact k q q0
  cases posC js H.next j with
  | out _ no ek => rw [ek] at g; exact .a g (fp _ ek) fun i q => absurd (List.mem_of_getElem? (pos0_some q)) no
  | old i lt hi q0 ek r =>
    refine both i ek r fun n1 n0 => ?_
    have g' : H.get j = some c := by
      rw [ek] at g
      have g : mrgC (rho js H.next) (H₀.get i) (H₁.get i) (H.get j) = some c := g
      rw [n1, n0] at g; exact g
    obtain ⟨l, hl, _⟩ := R.cell j c g'
    refine .a g' ?_ fun k q => by rw [q0] at q; cases q; exact n0
    rw [fp _ ek, hl]
    exact T.stp.le.ff _ _ (by show W.φ (rho js H.next i) = some l; rw [r]; exact hl)
  | new i le li ek r =>
    refine both i ek r fun n1 n0 => ?_
    have g' : H.get j = some c := by
      rw [ek] at g
      have g : mrgC (rho js H.next) (H₀.get i) (H₁.get i) (H.get j) = some c := g
      rw [n1, n0] at g; exact g
    exact absurd (jsLt R g') (Nat.not_lt_of_le le)
theorem ownW {a : Addr} (o : Own (W.whole H H₀ js s.heap W₁) (mrg js H₀ H H₁) a) : Out W H H₀ js a ∨ Own W₁ H₁ a := by
  obtain ⟨j, c, l, g, p, ha⟩ := o
  cases cellM R e T g with
  | a g' p' n => exact .inl ⟨j, c, l, g', p'.symm.trans p, ha, n⟩
  | b i c₁ g' _ p' _ => exact .inr ⟨i, c₁, l, g', p'.symm.trans p, ha⟩
theorem outNo {a : Addr} (o : Out W H H₀ js a) : ¬ Own W₁ H₁ a := by
  obtain ⟨ob, ho⟩ := R.own_there o.own
  exact T.stp.own a ob ho fun z => (ownPart R e z).2 o
theorem outKeep {a : Addr} (o : Out W H H₀ js a) {ob : Obj} (ho : s.heap.get? a = some ob) : s'.heap.get? a = some ob := by
  by_cases d : ∃ es n, ob.data = .dict es n
  · obtain ⟨es, n, hd⟩ := d
    have : (W.part H H₀ js s.heap).Z a = some ob := by
      show (if OutD W H H₀ js s.heap a then s.heap.get? a else W.Z a) = some ob
      rw [if_pos ⟨o, ob, es, n, ho, hd⟩]; exact ho
    exact T.rel.z _ _ (T.stp.le.zz _ _ this)
  · obtain ⟨o', h', q⟩ := T.stp.keep a ob ho (fun z => (ownPart R e z).2 o) fun z => z
    rw [q.eq fun es n z => d ⟨es, n, z⟩] at h'; exact h'
theorem relWhole : RelH X (W.whole H H₀ js s.heap W₁) (mrg js H₀ H H₁) s'.heap where
  z := fun a o q => by
    have q : (if OutD W H H₀ js s.heap a then none else W₁.Z a) = some o := q
    by_cases d : OutD W H H₀ js s.heap a
    · rw [if_pos d] at q; cases q
    · rw [if_neg d] at q; exact T.rel.z _ _ q
  base := fun a o q => (leWhole R e T).zz _ _ (R.base a o q)
  cell := fun j c g => by
    cases cellM R e T g with
    | a g' p' n =>
      obtain ⟨l, hl, hc⟩ := R.cell j c g'
      exact ⟨l, p'.trans hl, hc.keeps (leWhole R e T) (fun o q => outKeep R e T ⟨j, c, l, g', hl, .inl rfl, n⟩ q) fun o q => outKeep R e T ⟨j, c, l, g', hl, .inr rfl, n⟩ q⟩
    | b i c₁ g' ec p' _ =>
      obtain ⟨l, hl, hc⟩ := T.rel.cell i c₁ g'
      have u := VR.up (X := X) (W := W₁) (W' := W.whole H H₀ js s.heap W₁) (ρ := rho js H.next) (fun a o z n => zWhole R T z n) fun i l p => phiW R e T p
      rw [ec]
      exact ⟨l, p'.trans hl, cell_up u.1 u.2 hc⟩
  off := fun a o => by
    show (if OutD W H H₀ js s.heap a then none else W₁.Z a) = none
    by_cases d : OutD W H H₀ js s.heap a
    · rw [if_pos d]
    · rw [if_neg d]
      rcases ownW R e T o with q | q
      · cases z : W₁.Z a with
        | none => rfl
        | some ob =>
          rcases T.stp.znew a ob z with y | y | y
          · have y : (if OutD W H H₀ js s.heap a then s.heap.get? a else W.Z a) = some ob := y
            rw [if_neg d, R.off a q.own] at y; cases y
          · exact absurd q (ownPart R e y).2
          · obtain ⟨_, w⟩ := R.own_there q.own
            rw [y] at w; cases w
      · exact T.rel.off a q
  sep := fun j k cj ck lj lk hj hk pj pk ne => by
    have no : ∀ {x y : Addr}, Out W H H₀ js x → Own W₁ H₁ y → x ≠ y := fun o w z => outNo R e T o (z ▸ w)
    cases cellM R e T hj with
    | a g p n =>
      cases cellM R e T hk with
      | a g' p' n' => exact R.sep j k _ _ lj lk g g' (p.symm.trans pj) (p'.symm.trans pk) ne
      | b i c₁ g' _ p' _ =>
        have w : ∀ x, x = lk.1 ∨ x = lk.2 → Own W₁ H₁ x := fun x z => ⟨i, c₁, lk, g', p'.symm.trans pk, z⟩
        have v : ∀ x, x = lj.1 ∨ x = lj.2 → Out W H H₀ js x := fun x z => ⟨j, cj, lj, g, p.symm.trans pj, z, n⟩
        exact ⟨no (v _ (.inl rfl)) (w _ (.inl rfl)), no (v _ (.inl rfl)) (w _ (.inr rfl)), no (v _ (.inr rfl)) (w _ (.inl rfl)), no (v _ (.inr rfl)) (w _ (.inr rfl))⟩
    | b i c₁ g _ p r =>
      have w : ∀ x, x = lj.1 ∨ x = lj.2 → Own W₁ H₁ x := fun x z => ⟨i, c₁, lj, g, p.symm.trans pj, z⟩
      cases cellM R e T hk with
      | a g' p' n' =>
        have v : ∀ x, x = lk.1 ∨ x = lk.2 → Out W H H₀ js x := fun x z => ⟨k, ck, lk, g', p'.symm.trans pk, z, n'⟩
        exact ⟨(no (v _ (.inl rfl)) (w _ (.inl rfl))).symm, (no (v _ (.inr rfl)) (w _ (.inl rfl))).symm, (no (v _ (.inl rfl)) (w _ (.inr rfl))).symm, (no (v _ (.inr rfl)) (w _ (.inr rfl))).symm⟩
      | b i' c₁' g' _ p' r' => exact T.rel.sep i i' _ _ lj lk g g' (p.symm.trans pj) (p'.symm.trans pk) fun z => ne (by rw [← r, ← r', z])
  dom := fun j hj => by
    have hj : H.next + (H₁.next - js.length) ≤ j := mrg_len (js := js) (H₀ := H₀) (H := H) (H₁ := H₁) ▸ hj
    have le : H.next ≤ j := Nat.le_trans (Nat.le_add_right _ _) hj
    have ek : pos js H.next j = some (js.length + (j - H.next)) := by unfold pos; rw [if_pos le]
    have hi : H₁.next ≤ js.length + (j - H.next) := by omega
    constructor
    · exact atC_ge (show (mrg js H₀ H H₁).next ≤ j by rw [mrg_len]; exact hj)
    · show (match pos js H.next j with | some i => W₁.φ i | none => W.φ j) = none
      rw [ek]; exact (T.rel.dom _ hi).2
theorem tcWhole : Tc X W H s (W.whole H H₀ js s.heap W₁) (mrg js H₀ H H₁) s' where
  stp := {
    le := leWhole R e T
    keep := fun a o h n p => T.stp.keep a o h (fun z => n (ownPart R e z).1) p
    own := fun a o h n z => (ownW R e T z).elim (fun q => n q.own) fun q => T.stp.own a o h (fun w => n (ownPart R e w).1) q
    znew := fun a o z => by
      have z : (if OutD W H H₀ js s.heap a then none else W₁.Z a) = some o := z
      by_cases d : OutD W H H₀ js s.heap a
      · rw [if_pos d] at z; cases z
      · rw [if_neg d] at z
        rcases T.stp.znew a o z with y | y | y
        · have y : (if OutD W H H₀ js s.heap a then s.heap.get? a else W.Z a) = some o := y
          rw [if_neg d] at y; exact .inl y
        · exact .inr (.inl (ownPart R e y).1)
        · exact .inr (.inr y)
    there := T.stp.there }
  rel := relWhole R e T
  rest := T.rest
theorem vrWhole {v : Value} {x : V} (r : VR X W₁ v x) : VR X (W.whole H H₀ js s.heap W₁) v (renV (rho js H.next) x) := (VR.up (fun a o z n => zWhole R T z n) fun i l p => phiW R e T p).1 r
end
end Mine

end

section
set_option autoImplicit false
set_option linter.all false
set_option genSizeOf false
set_option genInjectivity false
namespace Mine
open PySem PySem.W PySem.Calls PyProof.Rows

theorem need_e {α : Type} {o : Option α} {k : α → Prop} {G : Prop} (h : need o k) (g : ∀ a, o = some a → k a → G) : G := by
  cases o with
  | none => exact h.elim
  | some a => exact g a rfl h
theorem need_i {α : Type} {o : Option α} {a : α} {k : α → Prop} (e : o = some a) (h : k a) : need o k := by subst e; exact h
theorem Br_e {b : Bool} {t e G : Prop} (h : Br b t e) (g1 : b = true → t → G) (g2 : b = false → e → G) : G := by
  cases b with
  | true => exact g1 rfl h
  | false => exact g2 rfl h

section
variable {X : Cx} {W : Wd} {H : Hp}
/-- a value as it is seen in the heap -/
inductive Sn (X : Cx) (W : Wd) (h : Heap) : Value → V → Prop
  | none : Sn X W h .none .none
  | bool (b : Bool) : Sn X W h (.bool b) (.bool b)
  | int (i : Int) (t : Tok) : Sn X W h (.int i t) (.int i)
  | str (s : Str) (t : Tok) (o : PyData.strOk s = true) (z : s.length ≤ SZ) : Sn X W h (.str s t) (.str s)
  | tup {a : Addr} {vs : Array Value} {n : Nat} {xs : List V} (g : h.get? a = some (tupO vs n)) (r : VRs X W vs.toList xs) (q : xs.length ≤ SZ) (z : vs.size = xs.length) : Sn X W h (.ref a) (.tup xs)
  | lst {a : Addr} {vs : Array Value} {n : Nat} {xs : List V} (g : h.get? a = some (lstO vs n)) (r : VRs X W vs.toList xs) (q : xs.length ≤ SZ) (z : vs.size = xs.length) : Sn X W h (.ref a) (.lst xs)
  | rng {r : Addr} {a b c : Int} {t u v : Tok} (g : h.get? r = some { cls := .type "range", dict := none, data := .fields #[.int a t, .int b u, .int c v], slots := #[] }) (p : a.natAbs ≤ SZ) (q : b.natAbs ≤ SZ) (hc : c = 1 ∨ c = -1) : Sn X W h (.ref r) (.rng a b c)
theorem VRs.toArr {vs : Array Value} {xs : List V} (h : VRs X W vs.toList xs) : vs.size = xs.length := by rw [← h.length, Array.length_toList]
/-- where a cell lies -/
theorem RelH.at_ {h : Heap} (R : RelH X W H h) {i : Nat} {c : C} {l : Addr × Addr} (hi : H.get i = some c) (hl : W.φ i = some l) : CellAt X W h l c := by
  obtain ⟨l', hl', q⟩ := R.cell i c hi
  exact Option.some.inj (hl'.symm.trans hl) ▸ q
theorem mL_e {o : Option (List V)} {v : V} (h : mL o = some v) : ∃ a, o = some a ∧ v = .lst a := by
  cases o with
  | none => cases h
  | some a => exact ⟨a, rfl, (Option.some.inj h).symm⟩
theorem cL_e {o : Option C} {xs : List V} (h : cL o = some xs) : o = some (.list xs) := by
  cases o with
  | none => cases h
  | some c =>
    cases c with
    | list ys => exact congrArg (some ∘ C.list) (Option.some.inj h)
    | _ => cases h
theorem cD_e {o : Option C} {xs : List (V × V)} (h : cD o = some xs) : o = some (.dict xs) := by
  cases o with
  | none => cases h
  | some c =>
    cases c with
    | dict ys => exact congrArg (some ∘ C.dict) (Option.some.inj h)
    | _ => cases h
theorem cI_e {o : Option C} {t : Nat × List (Nat × V)} (h : cI o = some t) : o = some (.inst t.1 t.2) := by
  cases o with
  | none => cases h
  | some c =>
    cases c with
    | inst k fs => rw [← Option.some.inj h]
    | _ => cases h
theorem cE_e {o : Option C} {k : Nat} (h : cE o = some k) : o = some (.exc k) := by
  cases o with
  | none => cases h
  | some c =>
    cases c with
    | exc k => exact congrArg (some ∘ C.exc) (Option.some.inj h)
    | _ => cases h
theorem see_ok {h : Heap} (R : RelH X W H h) {v : Value} {x y : V} (r : VR X W v x) (e : see H x = some y) : Sn X W h v y := by
  cases r with
  | none => cases e; exact .none
  | bool b => cases e; exact .bool b
  | int i t => cases e; exact .int i t
  | str s t o z => cases e; exact .str s t o z
  | tup z r q => cases e; exact .tup (R.z _ _ z) r q r.toArr
  | lst z r q => cases e; exact .lst (R.z _ _ z) r q r.toArr
  | rng z p q c => cases e; exact .rng (R.z _ _ z) p q c
  | ref hl =>
    obtain ⟨xs, e', rfl⟩ := mL_e e
    obtain ⟨vs, n, g, r, _, z⟩ := R.at_ (cL_e e') hl
    exact .lst g r z r.toArr
  | _ => cases e
theorem aRef_e {v : Value} {x : V} {i : Nat} (r : VR X W v x) (e : aRef x = some i) {G : Prop} (g : ∀ l, v = .ref l.1 → W.φ i = some l → x = .ref i → G) : G := by
  cases x with
  | ref j => cases e; cases r with | ref hl => exact g _ rfl hl rfl
  | _ => cases e

section
variable {h : Heap} {v : Value}
theorem Sn.toInt {x : V} {i : Int} (r : Sn X W h v x) (e : aInt x = some i) : ∃ t, v = .int i t := by
  cases r with
  | int i t => exact ⟨t, Option.some.inj e ▸ rfl⟩
  | _ => cases e
theorem Sn.toStr {x : V} {s : Str} (r : Sn X W h v x) (e : aStr x = some s) : ∃ t, v = .str s t ∧ PyData.strOk s = true ∧ s.length ≤ SZ := by
  cases r with
  | str s t o z => cases e; exact ⟨t, rfl, o, z⟩
  | _ => cases e
theorem Sn.toBool {x : V} {b : Bool} (r : Sn X W h v x) (e : aBool x = some b) : v = .bool b := by
  cases r with
  | bool b => cases e; rfl
  | _ => cases e
/-- a sequence in the heap -/
inductive SqL (X : Cx) (W : Wd) (h : Heap) (v : Value) (xs : List V) : Prop
  | mk (a : Addr) (vs : Array Value) (n : Nat) (e : v = .ref a) (g : h.get? a = some (lstO vs n)) (r : VRs X W vs.toList xs) (q : xs.length ≤ SZ) (z : vs.size = xs.length)
inductive SqT (X : Cx) (W : Wd) (h : Heap) (v : Value) (xs : List V) : Prop
  | mk (a : Addr) (vs : Array Value) (n : Nat) (e : v = .ref a) (g : h.get? a = some (tupO vs n)) (r : VRs X W vs.toList xs) (q : xs.length ≤ SZ) (z : vs.size = xs.length)
theorem Sn.toLst {x : V} {xs : List V} (r : Sn X W h v x) (e : aLst x = some xs) : SqL X W h v xs := by
  cases r with
  | lst g r q z => cases e; exact ⟨_, _, _, rfl, g, r, q, z⟩
  | _ => cases e
theorem Sn.toTup {x : V} {xs : List V} (r : Sn X W h v x) (e : aTup x = some xs) : SqT X W h v xs := by
  cases r with
  | tup g r q z => cases e; exact ⟨_, _, _, rfl, g, r, q, z⟩
  | _ => cases e
end

theorem sz63 {n : Nat} (h : n ≤ SZ) : (n : Int) < 2 ^ 63 := Int.lt_of_le_of_lt (Int.ofNat_le.mpr h) (by decide)
theorem szLine {n : Nat} (h : n ≤ SZ) : n ≤ sizeLine := Nat.le_trans h (by decide)
theorem isList_of {h : Heap} {a : Addr} {vs : Array Value} {n : Nat} (e : h.get? a = some (lstO vs n)) : h.IsList a vs := ⟨_, e, rfl, _, rfl⟩
theorem isTup_of {h : Heap} {a : Addr} {vs : Array Value} {n : Nat} (e : h.get? a = some (tupO vs n)) : IsTup h a vs := ⟨_, e, rfl, _, rfl⟩
end

/-! the answers of operations -/
section
variable {X : Cx} {A : Around} {W : Wd} {H : Hp} {s : Shared} {E : Value → Shared → Prop}
/-- the answer of an operation: a value, or a new list -/
noncomputable def Res (X : Cx) (fz : Bool) (H : Hp) (r : LV) (v : Value) (W' : Wd) (H' : Hp) : Prop := match r with
  | .val x => VR X W' v x ∧ H' = H
  | .newList xs => match fz with
    | true => VR X W' v (.lst xs) ∧ H' = H
    | false => VR X W' v (.ref H.next) ∧ H' = H.new (.list xs)
/-- what an operation leads to -/
structure OpQ (X : Cx) (fz : Bool) (W : Wd) (H : Hp) (s : Shared) (k : LV → Prop) (Q : Value → Shared → Prop) : Prop where
  out : ∀ r v' s' W' H', Tc X W H s W' H' s' → Res X fz H r v' W' H' → k r → Q v' s'
  sz : ∀ xs, k (.newList xs) → xs.length ≤ SZ
section
variable {fz : Bool} {k : LV → Prop} {Q : Value → Shared → Prop} (o : OpQ X fz W H s k Q) (R : RelH X W H s.heap)
include o R
theorem OpQ.val {x : V} {v : Value} {tk : Nat} (hv : VR X W v x) (h : k (.val x)) : Q v { s with toks := tk } := o.out (.val x) v _ W H ⟨.refl, R, ⟨rfl, rfl, rfl⟩⟩ ⟨hv, rfl⟩ h
/-- more objects, of no account -/
theorem OpQ.more {x : V} {v : Value} {h' : Heap} {tk : Nat} (hk : ∀ b ob, s.heap.get? b = some ob → h'.get? b = some ob) (hv : VR X W v x) (h : k (.val x)) : Q v { s with heap := h', toks := tk } :=
  o.out (.val x) v _ W H ⟨.quiet (fun a o q _ => hk a o q) fun a o q => ⟨o, hk a o q⟩, R.quiet (Pv := noPv) (fun a o q _ => hk a o q) fun _ z => z.elim, ⟨rfl, rfl, rfl⟩⟩ ⟨hv, rfl⟩ h
/-- a new list at a new place -/
theorem OpQ.list {vs : Array Value} {n : Nat} {xs : List V} {h' : Heap} {tk : Nat} {a : Addr} (hv : VRs X W vs.toList xs) (hk : ∀ b ob, s.heap.get? b = some ob → h'.get? b = some ob) (hn : s.heap.get? a = none) (ha : h'.get? a = some (lstO vs n)) (h : k (.newList xs)) : Q (.ref a) { s with heap := h', toks := tk } := by
  have hz := o.sz _ h
  cases fz with
  | true => exact o.out (.newList xs) _ _ _ _ (Tc.frozen R hk hn ha) ⟨.lst addZ_self (hv.le (R.leZ hn)) hz, rfl⟩ h
  | false =>
    obtain ⟨r, t⟩ := R.fresh (l := (a, a)) (c := .list xs) hk hn hn ⟨vs, n, ha, hv.le R.leF, rfl, hz⟩
    exact o.out (.newList xs) _ _ _ _ ⟨t, r, ⟨rfl, rfl, rfl⟩⟩ ⟨VR.ref (l := (a, a)) addφ_self, rfl⟩ h
theorem OpQ.push {vs : Array Value} {n : Nat} {xs : List V} {tk : Nat} (hv : VRs X W vs.toList xs) (h : k (.newList xs)) : Q (.ref s.heap.objs.size) { s with heap := s.heap.push (lstO vs n), toks := tk } :=
  o.list R hv (fun _ _ e => Heap.get?_push_of_some _ e) (push_none _) (Heap.get?_push_size _ rfl) h
/-- a new frozen object -/
theorem OpQ.fro {x : V} {ob : Obj} {h' : Heap} {tk : Nat} {a : Addr} (hk : ∀ b ob, s.heap.get? b = some ob → h'.get? b = some ob) (hn : s.heap.get? a = none) (ha : h'.get? a = some ob) (hv : VR X (W.addZ a ob) (.ref a) x) (h : k (.val x)) : Q (.ref a) { s with heap := h', toks := tk } :=
  o.out (.val x) _ _ _ _ (Tc.frozen R hk hn ha) ⟨hv, rfl⟩ h
end
theorem strOk_append {a b : Str} (ha : PyData.strOk a = true) (hb : PyData.strOk b = true) : PyData.strOk (a ++ b) = true := by
  unfold PyData.strOk at *
  rw [Array.all_eq_true] at *
  rw [show (a ++ b).cps = a.cps ++ b.cps from rfl]
  intro i hi
  rw [Array.getElem_append]
  split
  · exact ha i _
  · exact hb _ _
theorem len_append (a b : Str) : (a ++ b).length = a.length + b.length := by
  show (a.cps ++ b.cps).size = _
  rw [Array.size_append]; rfl

theorem isEmpty_len {vs : Array Value} {xs : List V} (z : vs.size = xs.length) : vs.isEmpty = xs.isEmpty := by
  show decide (vs.size = 0) = _
  rw [z]
  cases xs <;> rfl
theorem decide_bne {i : Int} : decide (i ≠ 0) = (i != 0) := by
  by_cases h : i = 0
  · subst h; rfl
  · rw [decide_eq_true h]; exact (bne_iff_ne.mpr h).symm
theorem truth_ok {v : Value} {x y : V} {k : Bool → Prop} {Q : Bool → Shared → Prop} (R : RelH X W H s.heap) (hv : VR X W v x) (e : truK H x k) (h : ∀ b tk, k b → Q b { s with toks := tk }) : wpAny (model X.prog X.w) A (truthy v) Q E s := by
  refine need_e e fun y ey e => ?_
  cases see_ok R hv ey with
  | none => exact truthy_none (h _ s.toks e)
  | bool c => exact wpAny_truthy_bool (h _ s.toks e)
  | int i t => exact truthy_int (decide_bne ▸ h _ s.toks e)
  | str t u ok z =>
    refine P.truthy_str (Int.not_le.mpr (sz63 z)) ?_
    have : (decide (t.length ≠ 0)) = (((t.length : Nat) : Int) != 0) := by rw [← decide_bne]; exact decide_eq_decide.mpr (by omega)
    exact this ▸ h _ (s.toks + 1 + 1) e
  | tup g r q z =>
    refine truthy_tuple (isTup_of g) (by rw [z]; exact sz63 q) ?_
    rw [isEmpty_len z]; exact h _ _ e
  | lst g r q z =>
    refine wpAny_truthy_list (isList_of g) (by rw [z]; exact sz63 q) ?_
    rw [isEmpty_len z]; exact h _ _ e
  | _ => exact e.elim
noncomputable def opOf : BOp → Operator
  | .add => .Add
  | .sub => .Sub
  | .mul => .Mult
  | .fdiv => .FloorDiv
  | .mod => .Mod
  | .pow => .Pow
  | .bor => .BitOr
noncomputable def cmpOf : COp → CmpOp
  | .eq => .Eq
  | .ne => .NotEq
  | .lt => .Lt
  | .le => .LtE
  | .gt => .Gt
  | .ge => .GtE
  | .isIn => .In
  | .notIn => .NotIn
  | .is => .Is
  | .isNot => .IsNot
theorem nsome {α : Type} {a : α} {p : Prop} (h : (none : Option α) = some a) : p := by cases h

theorem rep_arr (items : Array Value) (k : Nat) : ∀ acc : Array Value, (List.foldl (fun x1 x2 => x1 ++ x2) acc (List.replicate k items)).toList = acc.toList ++ (List.replicate k items.toList).flatten := by
  induction k with
  | zero => intro acc; simp
  | succ k ih => intro acc; rw [List.replicate_succ, List.foldl_cons, ih, List.replicate_succ, List.flatten_cons, Array.toList_append, List.append_assoc]
theorem VRs.rep {vs : List Value} {xs : List V} (h : VRs X W vs xs) (k : Nat) : VRs X W (List.replicate k vs).flatten (repL xs k) := by
  induction k with
  | zero => exact .nil
  | succ k ih => rw [List.replicate_succ, List.flatten_cons]; exact h.append ih
theorem rep_nil (k : Nat) : repL [] k = [] := by
  induction k with
  | zero => rfl
  | succ k ih => exact ih
theorem repS_fold (x : Str) (k : Nat) : ∀ acc : Array Nat, (List.replicate k x.cps).foldl (· ++ ·) acc = acc ++ (repS x k).cps := by
  induction k with
  | zero => intro acc; show acc = acc ++ #[]; rw [Array.append_empty]
  | succ k ih => intro acc; rw [List.replicate_succ, List.foldl_cons, ih, Array.append_assoc]; rfl
theorem repS_len (x : Str) (k : Nat) : (repS x k).length = x.length * k := by
  induction k with
  | zero => rfl
  | succ k ih => rw [show repS x (k + 1) = x ++ repS x k from rfl, len_append, ih, Nat.mul_succ, Nat.add_comm]
theorem repS_ok {x : Str} (h : PyData.strOk x = true) (k : Nat) : PyData.strOk (repS x k) = true := by
  induction k with
  | zero => exact (by decide +kernel : PyData.strOk Str.empty = true)
  | succ k ih => exact strOk_append h ih
theorem str_ext {a b : Str} (h : a.cps = b.cps) : a = b := by cases a; cases b; exact congrArg Str.mk h
theorem repS_nil {x : Str} (h : x.length = 0) (k : Nat) : repS x k = x := by
  have e : x.cps = #[] := Array.eq_empty_of_size_eq_zero h
  induction k with
  | zero => exact (str_ext e).symm
  | succ k ih =>
    show x ++ repS x k = x
    rw [ih]
    apply str_ext
    show x.cps ++ x.cps = x.cps
    rw [e]; rfl
theorem txt_mul {x : Str} {n : Int} (h : 0 ≤ n) : Txt.mul x n = repS x n.toNat := by
  unfold Txt.mul
  by_cases h1 : n < 1
  · rw [if_pos h1, show n.toNat = 0 by omega]; rfl
  · rw [if_neg h1]
    by_cases h2 : (n == 1 || x.length == 0) = true
    · rw [if_pos h2]
      rcases Bool.or_eq_true_iff.mp h2 with q | q
      · rw [beq_iff_eq.mp q]; exact (str_ext (by show x.cps ++ #[] = x.cps; rw [Array.append_empty])).symm
      · exact (repS_nil (beq_iff_eq.mp q) _).symm
    · rw [if_neg h2]; exact str_ext ((repS_fold x n.toNat #[]).trans (Array.empty_append ..))
theorem mulStr_ok {i : Str} {t u : Tok} {n : Int} {fz : Bool} {k : LV → Prop} {Q : Value → Shared → Prop} (o : OpQ X fz W H s k Q) (R : RelH X W H s.heap) (o1 : PyData.strOk i = true) (e : Nd (0 ≤ n ∧ n ≤ 1048576 ∧ i.length * n.toNat ≤ SZ) (k (.val (.str (repS i n.toNat))))) :
    wpAny (model X.prog X.w) A (binaryOp .Mult (.str i t) (.int n u)) Q E s := by
  obtain ⟨⟨h0, h1, h2⟩, e⟩ := e
  refine SB.mul ⟨by rw [decide_eq_false (by omega), decide_eq_false (by omega)]; rfl, fun hn _ q => ?_, fun _ _ => ?_⟩ fun t' k => by
    rw [txt_mul h0]; exact o.val R (.str _ _ (repS_ok o1 _) (by rw [repS_len]; exact h2)) e
  · have hl : i.length ≤ SZ := Nat.le_trans (Nat.le_mul_of_pos_right _ (by omega)) h2
    have : (2 ^ 63 - 1 : Int) / 1048576 ≤ (2 ^ 63 - 1) / n := by
      rw [Int.le_ediv_iff_mul_le (by omega)]
      exact Int.le_trans (Int.mul_le_mul_of_nonneg_left h1 (by decide)) (by decide)
    have h3 : (1048576 : Int) ≤ (2 ^ 63 - 1) / 1048576 := by decide
    unfold SZ at hl
    omega
  · unfold Builtin.Str.tooLong
    exact decide_eq_false (Nat.not_lt.mpr (szLine h2))
section
variable {a b : Value} {x y : V} {fz : Bool} {k : LV → Prop} {Q : Value → Shared → Prop} (o : OpQ X fz W H s k Q) (R : RelH X W H s.heap) (ha : Sn X W s.heap a x) (hb : Sn X W s.heap b y)
include o R ha hb
theorem add_ok (e : addK x y k) : wpAny (model X.prog X.w) A (binaryOp .Add a b) Q E s := by
  cases ha with
  | int i t => exact need_e e fun j ej e => (hb.toInt ej).elim fun u q => q ▸ add_int (o.val R (.int ..) e)
  | str i t o1 z1 => exact need_e e fun j ej e => (hb.toStr ej).elim fun u q => q.1 ▸ PyProof.Rows.add_str (fun t' tk => o.val R (.str _ _ (strOk_append o1 q.2.1) (by rw [len_append]; exact e.1)) e.2) (szLine e.1)
  | @lst l vs n xs g r q z =>
    refine need_e e fun ys ey e => ?_
    obtain ⟨l2, vs2, n2, rfl, g2, r2, q2, z2⟩ := hb.toLst ey
    have hz' : vs.size + vs2.size ≤ sizeLine := by rw [z, z2, ← List.length_append]; exact szLine (o.sz _ e)
    exact concat_meets ⟨_, g, rfl⟩ ⟨_, g2, rfl⟩ noFill_list_add seq_list_add PySem.F.slot_list_add PySem.F.entry_list_add (PySem.F.args_list_add_2 _ _) (list_addW l l2 vs vs2 n n2 none none #[] #[] hz') ⟨g, g2, o.push (vs := vs ++ vs2) R (by rw [Array.toList_append]; exact r.append r2) e⟩
  | _ => exact e.elim
theorem mul_ok (e : mulK x y k) : wpAny (model X.prog X.w) A (binaryOp .Mult a b) Q E s := by
  cases ha with
  | int i t => exact need_e e fun j ej e => (hb.toInt ej).elim fun u q => q ▸ PyProof.Rows.mul_int (o.val R (.int ..) e.2) (e.1.elim (fun h => IntMulOk.of_left (intBits_le_64 (by omega) (by omega))) fun h => IntMulOk.of_right (intBits_le_64 (by omega) (by omega)))
  | @lst l vs n xs hl hv q z =>
    refine need_e e fun i ei e => (hb.toInt ei).elim fun u eu => ?_
    subst eu
    obtain ⟨⟨h0, h01, h1⟩, e⟩ := e
    have hs : vs.size * i.toNat ≤ 1048576 := by rw [z]; exact h1
    refine wpAny_binaryOp_repeat_ref (T := "list") (U := "int") (by decide) ⟨_, hl, rfl⟩ (fun s' => typeIs_int s' i u) noFill_list_mul PySem.F.fills_int_mul PySem.F.slot_int_rmul repeat_list PySem.F.slot_int_index.lookup
      (call_meets PySem.F.slot_int_rmul (typeIs_int s i u) PySem.F.entry_int_rmul (PySem.F.args_int_rmul_2 _ _) (int___rmul___int_list i u l vs n)
        ⟨hl, rfl, ⟨_, hl, rfl⟩, call_meets PySem.F.slot_list_mul ⟨_, hl, rfl⟩ PySem.F.entry_list_mul (PySem.F.args_list_mul_2 _ _)
          (AutoListH.list___mul___list_int_3 l vs n i u (by simp [Builtin.List.listFitsIndex]; omega) (by omega) (by simp [Builtin.List.listTooLong, sizeLine]; omega)) ⟨hl, ?_⟩⟩)
    refine o.push R (xs := repL xs i.toNat) ?_ e
    rw [rep_arr]
    by_cases c : vs.isEmpty = true
    · rw [if_pos c]
      have : vs = #[] := Array.isEmpty_iff.mp c
      subst this
      cases hv
      rw [rep_nil]
      exact .nil
    · rw [if_neg c]
      exact hv.rep i.toNat
  | str i t o1 z1 => exact need_e e fun n en e => (hb.toInt en).elim fun u q => q ▸ mulStr_ok o R o1 e
  | _ => exact e.elim
theorem bin_ok {op : BOp} (e : binK op x y k) : wpAny (model X.prog X.w) A (binaryOp (opOf op) a b) Q E s := by
  cases op with
  | add => exact add_ok o R ha hb e
  | mul => exact mul_ok o R ha hb e
  | bor => exact e.elim
  | sub => exact need_e e fun i ei e => need_e e fun j ej e => (ha.toInt ei).elim fun t q => (hb.toInt ej).elim fun u q' => q ▸ q' ▸ sub_int (o.val R (.int ..) e)
  | fdiv => exact need_e e fun i ei e => need_e e fun j ej e => (ha.toInt ei).elim fun t q => (hb.toInt ej).elim fun u q' => q ▸ q' ▸ floordiv_int e.1.1 (o.val R (.int ..) e.2) (.inl (PyProof.noPylong_small (Nat.lt_of_lt_of_le e.1.2 (by decide))))
  | mod => exact need_e e fun i ei e => need_e e fun j ej e => (ha.toInt ei).elim fun t q => (hb.toInt ej).elim fun u q' => q ▸ q' ▸ mod_int' e.1 (o.val R (.int ..) e.2)
  | pow =>
    refine need_e e fun i ei e => need_e e fun j ej e => (ha.toInt ei).elim fun t q => (hb.toInt ej).elim fun u q' => ?_
    subst q q'
    refine pow_int e.1.1 ?_ (o.val R (.int ..) e.2)
    have h64 : Builtin.Int.intBits i ≤ 64 := intBits_le_64 (by have := e.1; omega) (by have := e.1; omega)
    exact Int.le_trans (Int.mul_le_mul (Int.ofNat_le.mpr h64) e.1.2.1 e.1.1 (by decide)) (by decide)
end
end
end Mine

end

section
set_option autoImplicit false
set_option linter.all false
set_option genSizeOf false
set_option genInjectivity false
namespace Mine
open PySem PySem.W PySem.Calls PyProof.Rows

/-! data -/
mutual
noncomputable def toPy : V → PyData
  | .bool b => .bool b
  | .int i => .int i
  | .str s => .str s
  | .tup xs => .tuple (toPys xs)
  | .lst xs => .list (toPys xs)
  | _ => .none
noncomputable def toPys : List V → List PyData
  | [] => []
  | x :: r => toPy x :: toPys r
end
mutual
noncomputable def isD : V → Bool
  | .none => true
  | .bool _ => true
  | .int _ => true
  | .str _ => true
  | .tup xs => isDs xs
  | .lst xs => isDs xs
  | _ => false
noncomputable def isDs : List V → Bool
  | [] => true
  | x :: r => isD x && isDs r
end
theorem beq_dec {α : Type} [DecidableEq α] {a b : α} : (a == b) = decide (a = b) := by
  by_cases h : a = b
  · rw [decide_eq_true h, h]; exact beq_self_eq_true _
  · rw [decide_eq_false h]; exact beq_false_of_ne h
mutual
theorem eqD_eqv : ∀ x y : V, isD x = true → isD y = true → eqD x y = PyData.eqv (toPy x) (toPy y)
  | .none, y, _, h => by cases y <;> first | rfl | cases h
  | .bool a, y, _, h => by cases y <;> first | rfl | exact beq_dec.symm | (cases a <;> exact beq_dec.symm) | (cases h; done)
  | .int a, y, _, h => by cases y <;> first | rfl | exact beq_dec.symm | (rename_i b; cases b <;> exact beq_dec.symm) | (cases h; done)
  | .str a, y, _, h => by cases y <;> first | rfl | exact beq_dec.symm | cases h
  | .tup a, y, hx, h => by cases y <;> first | exact eqDs_eqv a _ hx h | rfl | cases h
  | .lst a, y, hx, h => by cases y <;> first | exact eqDs_eqv a _ hx h | rfl | cases h
  | .rng _ _ _, _, h, _ => by cases h
  | .ref _, _, h, _ => by cases h
  | .bt _, _, h, _ => by cases h
  | .fn _, _, h, _ => by cases h
  | .cls _, _, h, _ => by cases h
theorem eqDs_eqv : ∀ x y : List V, isDs x = true → isDs y = true → eqDs x y = PyData.eqvAll (toPys x) (toPys y)
  | [], y, _, _ => by cases y <;> rfl
  | a :: r, y, hx, hy => by
    cases y with
    | nil => rfl
    | cons b t =>
      have hx := Bool.and_eq_true_iff.mp hx
      have hy := Bool.and_eq_true_iff.mp hy
      exact (congrArg (· && eqDs r t) (eqD_eqv a b hx.1 hy.1)).trans (congrArg (PyData.eqv (toPy a) (toPy b) && ·) (eqDs_eqv r t hx.2 hy.2))
end
theorem reads_tuple' {h : Heap} {a : Addr} {vs : Array Value} {n : Nat} {xs : List PyData} {as : List Addr} (e : h.get? a = some (tupO vs n)) (r : ReadsAll h vs.toList xs as) : Reads h (.ref a) (.tuple xs) as := .tuple e rfl rfl r
theorem reads_list' {h : Heap} {a : Addr} {vs : Array Value} {n : Nat} {xs : List PyData} {as : List Addr} (e : h.get? a = some (lstO vs n)) (r : ReadsAll h vs.toList xs as) : Reads h (.ref a) (.list xs) (a :: as) := .list e rfl rfl r
section
variable {X : Cx} {W : Wd} {H : Hp} {h : Heap}
inductive Dt (h : Heap) (n : Nat) (v : Value) (y : V) : Prop
  | mk (as : List Addr) (rd : Reads h v (toPy y) as) (lay : (toPy y).canLay0 = true) (dp : (toPy y).depth ≤ n) (d : isD y = true)
inductive Dts (h : Heap) (n : Nat) (vs : List Value) (ys : List V) : Prop
  | mk (as : List Addr) (rd : ReadsAll h vs (toPys ys) as) (lay : PyData.canLayAll0 (toPys ys) = true) (dp : PyData.depthAll (toPys ys) ≤ n) (d : isDs ys = true)
theorem deepL_cons {f : V → Option V} {x : V} {r ys : List V} {G : Prop} (h : deepL f (x :: r) = some ys) (g : ∀ y zs, f x = some y → deepL f r = some zs → ys = y :: zs → G) : G := by
  have h : (match f x with | some y => (match deepL f r with | some ys => some (y :: ys) | none => none) | none => none) = some ys := h
  generalize f x = p at h g
  cases p with
  | none => cases h
  | some v =>
    generalize deepL f r = q at h g
    cases q with
    | none => cases h
    | some ws => exact g v ws rfl rfl (Option.some.inj h).symm
theorem deepL_data {f : V → Option V} {n : Nat} (hf : ∀ v x y, VR X W v x → f x = some y → Dt h n v y) {vs : List Value} {xs : List V} (r : VRs X W vs xs) {ys : List V} (e : deepL f xs = some ys) : Dts h n vs ys :=
  VRs.ind (p := fun vs xs => ∀ ys, deepL f xs = some ys → Dts h n vs ys) (fun ys e => Option.some.inj e ▸ ⟨[], .nil, rfl, Nat.zero_le _, rfl⟩) (fun a _ ih ys e => deepL_cons e fun y zs ey ez ee => by
    subst ee
    obtain ⟨as, ra, la, da, ia⟩ := hf _ _ _ a ey
    obtain ⟨bs, rb, lb, db, ib⟩ := ih _ ez
    exact ⟨as ++ bs, .cons ra rb, Bool.and_eq_true_iff.mpr ⟨la, lb⟩, Nat.max_le.mpr ⟨da, db⟩, Bool.and_eq_true_iff.mpr ⟨ia, ib⟩⟩) r ys e
theorem mT_e {o : Option (List V)} {v : V} (h : mT o = some v) : ∃ a, o = some a ∧ v = .tup a := by
  cases o with
  | none => cases h
  | some a => exact ⟨a, rfl, (Option.some.inj h).symm⟩
theorem dt_lst {n : Nat} {a : Addr} {vs : Array Value} {k : Nat} {ys : List V} (g : h.get? a = some (lstO vs k)) (B : Dts h n vs.toList ys) : Dt h (n + 1) (.ref a) (.lst ys) := by
  obtain ⟨as, rb, l, d, i⟩ := B
  exact ⟨_, reads_list' g rb, l, Nat.succ_le_succ d, i⟩
theorem deepN_data (R : RelH X W H h) (n : Nat) : ∀ (v : Value) (x y : V), VR X W v x → deepN H n x = some y → Dt h n v y := by
  induction n with
  | zero =>
    intro v x y r e
    cases r with
    | none => cases e; exact ⟨_, .none, rfl, Nat.zero_le _, rfl⟩
    | bool b => cases e; exact ⟨_, .bool b, rfl, Nat.zero_le _, rfl⟩
    | int i t => cases e; exact ⟨_, .int i t, rfl, Nat.zero_le _, rfl⟩
    | str s t o z => cases e; exact ⟨_, .str s t, o, Nat.zero_le _, rfl⟩
    | _ => cases e
  | succ n ih =>
    intro v x y r e
    cases r with
    | none => cases e; exact ⟨_, .none, rfl, Nat.zero_le _, rfl⟩
    | bool b => cases e; exact ⟨_, .bool b, rfl, Nat.zero_le _, rfl⟩
    | int i t => cases e; exact ⟨_, .int i t, rfl, Nat.zero_le _, rfl⟩
    | str s t o z => cases e; exact ⟨_, .str s t, o, Nat.zero_le _, rfl⟩
    | tup z r q =>
      obtain ⟨ys, ey, rfl⟩ := mT_e e
      obtain ⟨as, rb, l, d, i⟩ := deepL_data ih r ey
      exact ⟨_, reads_tuple' (R.z _ _ z) rb, l, Nat.succ_le_succ d, i⟩
    | lst z r q =>
      obtain ⟨ys, ey, rfl⟩ := mL_e e
      exact dt_lst (R.z _ _ z) (deepL_data ih r ey)
    | @ref i l hl =>
      have e : bindL (cL (H.get i)) (fun xs => mL (deepL (deepN H n) xs)) = some y := e
      cases ec : cL (H.get i) with
      | none => rw [ec] at e; cases e
      | some xs =>
        rw [ec] at e
        obtain ⟨ys, ey, rfl⟩ := mL_e e
        obtain ⟨vs, k, g, r, _, _⟩ := R.at_ (cL_e ec) hl
        exact dt_lst g (deepL_data ih r ey)
    | _ => cases e
end
/-- room below on the C stack -/
noncomputable def Room (A : Around) : Prop := A.units + 80 < cLine
section
variable {X : Cx} {A : Around} {W : Wd} {H : Hp} {s : Shared} {E : Value → Shared → Prop} {a b : Value} {x y : V} {k : Bool → Prop} {Q : Value → Shared → Prop} (R : RelH X W H s.heap) (hu : Room A) (ha : VR X W a x) (hb : VR X W b y) (h : ∀ r tk, k r → Q (.bool r) { s with toks := tk })
include R hu ha h
theorem any_ok {vs : Array Value} {xs : List V} (hv : VRs X W vs.toList xs) (e : cmpK.anyK H x xs k) {G : Prop} (g : ∀ as bs d ds, Reads s.heap a d as → ReadsAll s.heap vs.toList ds bs → d.canLay0 = true → PyData.canLayAll0 ds = true → A.units + 1 + min (PyData.depthAll ds) d.depth < cLine → k (ds.any fun y => PyData.eqv y d) → G) : G := by
  refine need_e e fun u eu e => need_e e fun v ev e => ?_
  obtain ⟨as, ra, la, da, ia⟩ := deepN_data R _ _ _ _ ha eu
  obtain ⟨bs, rb, lb, db, ib⟩ := deepL_data (deepN_data R 11) hv ev
  have hd : (v.any fun z => eqD z u) = ((toPys v).any fun y => PyData.eqv y (toPy u)) := by
    clear rb ev lb db e
    induction v with
    | nil => rfl
    | cons z zs ih =>
      have ib := Bool.and_eq_true_iff.mp ib
      rw [List.any_cons, ih ib.2, eqD_eqv z u ib.1 ia]; rfl
  refine g as bs _ _ ra rb la lb ?_ (hd ▸ e)
  have : min (PyData.depthAll (toPys v)) (toPy u).depth ≤ 12 := Nat.le_trans (Nat.min_le_right _ _) da
  unfold Room at hu; omega
include hb
theorem eq_ok (e : cmpK H .eq x y k) : wpAny (model X.prog X.w) A (compareOp .Eq a b) Q E s := by
  refine need_e e fun u eu e => need_e e fun v ev e => ?_
  obtain ⟨as, ra, la, da, ia⟩ := deepN_data R _ _ _ _ ha eu
  obtain ⟨bs, rb, lb, db, ib⟩ := deepN_data R _ _ _ _ hb ev
  refine SeqAt.compareEq_reads ra rb la lb ?_ ?_
  · unfold Room at hu; omega
  · rw [← eqD_eqv _ _ ia ib]; exact h _ s.toks e
theorem ne_ok (e : cmpK H .ne x y k) : wpAny (model X.prog X.w) A (compareOp .NotEq a b) Q E s := by
  refine need_e e fun u eu e => need_e e fun v ev e => ?_
  obtain ⟨as, ra, la, da, ia⟩ := deepN_data R _ _ _ _ ha eu
  obtain ⟨bs, rb, lb, db, ib⟩ := deepN_data R _ _ _ _ hb ev
  refine ne_dataH ra rb ?_ ?_ ?_ ?_
  · simp [SeqAt.shaped, la]; omega
  · simp [SeqAt.shaped, lb]; omega
  · unfold Room at hu; omega
  · rw [← eqD_eqv _ _ ia ib]; exact h _ s.toks e
end
end Mine

end

section
set_option autoImplicit false
set_option linter.all false
set_option genSizeOf false
set_option genInjectivity false
namespace Mine
open PySem PySem.W PySem.Calls PyProof.Rows
section
variable {X : Cx} {W : Wd} {es : List (Int × Value)} {kvs : List (V × V)}
theorem dKey {i j : Int} : eqD (.int j) (.int i) = decide (j = i) := rfl
theorem val_cons {i j : Int} {v : Value} : valueAt ((j, v) :: es) i = cond (decide (j = i)) (some v) (valueAt es i) := by
  unfold valueAt
  rw [List.find?_cons]
  cases decide (j = i) <;> rfl
inductive DGv (X : Cx) (W : Wd) : Option Value → Option V → Prop
  | none : DGv X W none none
  | some {v : Value} {x : V} : VR X W v x → DGv X W (some v) (some x)
theorem KVs.val {i : Int} (r : KVs X W es kvs) : DGv X W (valueAt es i) (dGet kvs (.int i)) := by
  induction r with
  | nil => exact .none
  | @cons j v x es kvs a r ih =>
    rw [val_cons]
    show DGv X W _ (cond (eqD (.int j) (.int i)) (some x) (dGet kvs (.int i)))
    rw [dKey]
    cases decide (j = i) with
    | true => exact .some a
    | false => exact ih
theorem KVs.any {i : Int} (r : KVs X W es kvs) : (valueAt es i).isSome = (dKeys kvs).any fun z => eqD z (.int i) := by
  induction r with
  | nil => rfl
  | @cons j v x es kvs a r ih =>
    rw [val_cons]
    show _ = (eqD (.int j) (.int i) || (dKeys kvs).any fun z => eqD z (.int i))
    rw [dKey, ← ih]
    cases decide (j = i) <;> rfl
theorem KVs.len (r : KVs X W es kvs) : es.length = kvs.length := by
  induction r with
  | nil => rfl
  | cons a r ih => exact congrArg (· + 1) ih
theorem KVs.put {i : Int} {v : Value} {x : V} (hv : VR X W v x) (r : KVs X W es kvs) (hn : (es.map (·.1)).Nodup) : KVs X W (stored es i v) (dSet kvs (.int i) x) := by
  induction r with
  | nil => exact .cons hv .nil
  | @cons j u y es kvs a r ih =>
    rw [List.map_cons, List.nodup_cons] at hn
    show KVs X W _ (cond (eqD (.int j) (.int i)) ((.int j, x) :: kvs) ((.int j, y) :: dSet kvs (.int i) x))
    rw [dKey]
    unfold stored
    by_cases h : j = i
    · subst h
      rw [List.any_cons, decide_eq_true rfl, List.map_cons, if_pos rfl, map_store_of_not_mem es j v hn.1]
      exact .cons hv r
    · have ih := ih hn.2
      unfold stored at ih
      rw [List.any_cons, decide_eq_false h, Bool.false_or, List.map_cons, if_neg h]
      by_cases q : es.any (fun kv => decide (kv.1 = i)) = true
      · rw [if_pos q] at ih ⊢; exact .cons a ih
      · rw [if_neg q] at ih ⊢; exact .cons a ih
theorem key_e {a : Value} {x : V} {ks : List V} {G : Prop} (ha : VR X W a x) (h : keyOk ks x = true) (g : ∀ i t, a = .int i t → x = .int i → G) : G := by
  have h := (and_eq h).1
  cases x with
  | int i => cases ha with | int _ t => exact g i t rfl rfl
  | _ => cases h
where and_eq {a b : Bool} (h : (a && b) = true) : a = true ∧ b = true := by cases a <;> cases b <;> first | exact ⟨rfl, rfl⟩ | cases h
end
end Mine

end

section
set_option autoImplicit false
set_option linter.all false
set_option genSizeOf false
set_option genInjectivity false
namespace Mine
open PySem PySem.W PySem.Calls PyProof.Rows
section
variable {X : Cx} {W : Wd}
theorem ints_are {vs : List Value} {xs : List V} (r : VRs X W vs xs) : ∀ {l : List Int}, intsOf xs = some l → IntsAre vs l := by
  refine VRs.ind (p := fun vs xs => ∀ {l : List Int}, intsOf xs = some l → IntsAre vs l) (fun e => by cases e; exact .nil) (fun {v vs x xs} a _ ih l e => ?_) r
  have e : (match aInt x with | some i => (match intsOf xs with | some l => some (i :: l) | none => none) | none => none) = some l := e
  cases hx : aInt x with
  | none => rw [hx] at e; cases e
  | some i =>
    rw [hx] at e
    have e : (match intsOf xs with | some l => some (i :: l) | none => none) = some l := e
    cases hr : intsOf xs with
    | none => rw [hr] at e; cases e
    | some m =>
      rw [hr] at e; cases e
      cases x with
      | int j => cases hx; cases a with | int _ t => exact .cons _ t (ih hr)
      | _ => cases hx
theorem of_ints {vs : List Value} {l : List Int} (h : IntsAre vs l) : VRs X W vs (l.map .int) := by
  induction h with
  | nil => exact .nil
  | cons n t _ ih => exact .cons (.int n t) ih
end
end Mine

end

section
set_option autoImplicit false
set_option linter.all false
set_option genSizeOf false
set_option genInjectivity false
namespace Mine
open PySem PySem.W PySem.Calls PyProof.Rows
section
variable {prog : Program} {w : World} {A : Around} {E : Value → Shared → Prop} {s : Shared}
theorem adjust_to (j n : Nat) (h : j ≤ n) : Builtin.Slice.sliceAdjust none (some (j : Int)) 1 (n : Int) = (0, (j : Int)) := by
  unfold Builtin.Slice.sliceAdjust
  have h1 : ¬ ((1 : Int) < 0) := by omega
  have h2 : ¬ ((j : Int) < 0) := by omega
  simp only [h1, h2, if_false]
  congr 1
  omega
theorem places_to (j : Nat) : Builtin.Slice.slicePlaces 0 (j : Int) 1 = j := by
  unfold Builtin.Slice.slicePlaces
  have h1 : (1 : Int) > 0 := by omega
  simp only [h1, if_true, Int.ediv_one]
  split <;> omega
theorem sliceApplied_to {sl : Addr} {j n : Nat} {u : Tok} {Q : Int × Int × Nat → Shared → Prop} (hs : s.heap.IsSliceOf sl .none (.int j u) .none) (hj : j ≤ n) (h : Q ((0 : Int), 1, j) s) :
    wpAny (model prog w) A (Builtin.Slice.sliceApplied (.ref sl) (pure (n : Int))) Q E s := by
  obtain ⟨os, hos, hcs, hds⟩ := id hs
  unfold Builtin.Slice.sliceApplied Builtin.Slice.sliceFields
  refine wpAny_bind (wpAny_bind (wpAny_field hos hds (x := .none) rfl (wpAny_bind (wpAny_field hos hds (x := .int j u) rfl (wpAny_bind (wpAny_field hos hds (x := .none) rfl (wpAny_pure ?_)))))))
  refine wpAny_bind (slicePart_none ?_)
  show wpAny _ _ (if ((1 : Int) == 0) = true then _ else _) _ _ s
  rw [if_neg (by decide)]
  refine wpAny_bind (slicePart_none (wpAny_bind (slicePart_int (wpAny_bind (wpAny_pure ?_)))))
  show wpAny _ _ (match Builtin.Slice.sliceAdjust none (some (j : Int)) 1 (n : Int) with | (lo, hi) => pure (lo, (1 : Int), Builtin.Slice.slicePlaces lo hi 1)) _ _ s
  rw [adjust_to j n hj]
  show wpAny _ _ (pure ((0 : Int), (1 : Int), Builtin.Slice.slicePlaces 0 (j : Int) 1)) _ _ s
  rw [places_to j]
  exact wpAny_pure h
theorem take_run {α : Type} (l : List α) (j : Nat) (h : j ≤ l.length) : (List.range j).filterMap (fun k => l[k]?) = l.take j := by
  induction j with
  | zero => rfl
  | succ j ih =>
    rw [List.range_succ, List.filterMap_append, ih (Nat.le_of_succ_le h), List.take_succ, List.getElem?_eq_getElem h]
    show _ ++ (match l[j]? with | none => _ | some b => b :: _) = _
    rw [List.getElem?_eq_getElem h]; rfl
theorem pick_to (xs : Array Value) (j : Nat) (h : j ≤ xs.size) : ((List.range j).filterMap fun (k : Nat) => xs[((0 : Int) + (k : Int) * 1).toNat]?).toArray = (xs.toList.take j).toArray := by
  have e : (fun (k : Nat) => xs[((0 : Int) + (k : Int) * 1).toNat]?) = fun k => xs.toList[k]? := by
    funext k
    rw [show ((0 : Int) + (k : Int) * 1).toNat = k by omega, Array.getElem?_toList]
  rw [e, take_run _ _ (by rw [Array.length_toList]; exact h)]
theorem getItem_tuple_to {t sl : Addr} {items : Array Value} {j : Nat} {u : Tok} {Q : Value → Shared → Prop} (ht : IsTup s.heap t items) (hs : s.heap.IsSliceOf sl .none (.int j u) .none) (hj : j < items.size)
    (h : Q (.ref s.heap.objs.size) { s with heap := s.heap.push { cls := .type "tuple", data := .seq (items.toList.take j).toArray } })
    (hsz : items.size ≤ sizeLine) : wpAny (model prog w) A (getItem (.ref t) (.ref sl)) Q E s := by
  have htake : sizeOk (.seq (items.toList.take j).toArray) := by
    show (items.toList.take j).toArray.size ≤ sizeLine
    rw [List.size_toArray, List.length_take, Array.length_toList]
    omega
  obtain ⟨os, hos, hcs, hds⟩ := id hs
  have hTs : s.TypeIs (.ref sl) "slice" := ⟨os, hos, hcs⟩
  unfold getItem
  try with_reducible refine wpAny_holding ?_
  first | refine wpAny_bind (wpAny_pure ?_) | skip
  refine wpAny_bind (wpAny_sequenceKey ht.typeIs (by decide) ?_)
  refine wpAny_bind (wpAny_callSpecial?_slot (name := Str.ofString "__getitem__") ht.typeIs slot_tuple_getitem
    (wpAny_call_entry slot_tuple_getitem ht.typeIs entry_tuple_getitem ?_ (args_tuple_getitem _ _)))
  show wpAny _ _ (Builtin.Tuple.tupleItemsOf (.ref t) >>= _) _ _ s
  refine wpAny_bind (tupleItemsOf_ ht ?_)
  refine wpAny_bind (wpAny_typeOf hTs ?_)
  rw [if_pos (by decide)]
  refine wpAny_bind (sliceApplied_to hs (Nat.le_of_lt hj) ?_)
  have hno : ¬ (((0 : Int) == 0 && (1 : Int) == 1 && j == items.size) = true) := by
    have : (j == items.size) = false := by rw [beq_eq_false_iff_ne]; omega
    rw [this]; simp
  show wpAny _ _ (if ((0 : Int) == 0 && (1 : Int) == 1 && j == items.size) = true then _ else _) _ _ s
  rw [if_neg hno, pick_to items j (Nat.le_of_lt hj)]
  first
    | exact wpAny_bind (m := Builtin.Tuple.tupleExact _) (wpAny_newObj_type (wpAny_pure ⟨_, rfl, wpAny_pure h⟩) htake)
    | exact wpAny_bind (m := Builtin.Tuple.tupleExact _) (wpAny_newObj_type (wpAny_bind (wpAny_pure (wpAny_pure ⟨_, rfl, wpAny_pure h⟩))) htake)
    | exact wpAny_bind (wpAny_bind (m := Builtin.Tuple.tupleExact _) (wpAny_newObj_type (wpAny_pure (wpAny_pure ⟨_, rfl, wpAny_pure h⟩)) htake))
    | exact wpAny_bind (wpAny_bind (m := Builtin.Tuple.tupleExact _) (wpAny_newObj_type (wpAny_pure ⟨_, rfl, wpAny_pure h⟩) htake))
end
end Mine

end

section
set_option autoImplicit false
set_option linter.all false
namespace Mine
open PySem PySem.W PySem.Calls PyProof.Rows


abbrev rngO (a b c : Int) (t u v : Tok) : Obj := { cls := .type "range", dict := none, data := .fields #[.int a t, .int b u, .int c v], slots := #[] }

theorem rng_size {a b c : Int} (hc : c = 1 ∨ c = -1) : Builtin.Range.rangeSize a b c = rngN a b c := by
  unfold Builtin.Range.rangeSize rngN
  rcases hc with rfl | rfl
  · simp only [show (1 : Int) > 0 by decide, if_true, Int.ediv_one]
    split <;> omega
  · simp only [show ¬ ((-1 : Int) > 0) by decide, if_false, show (-1 : Int) ≠ 1 by decide, if_true, Int.neg_neg, Int.ediv_one]
    split <;> omega

section
variable {prog : Program} {w : World} {A : Around} {s : Shared} {E : Value → Shared → Prop}
end
end Mine

end

section
set_option autoImplicit false
set_option linter.all false
set_option genSizeOf false
set_option genInjectivity false
namespace Mine
open PySem PySem.W PySem.Calls PyProof.Rows
section
variable {X : Cx} {A : Around} {W : Wd} {H : Hp} {s : Shared} {E : Value → Shared → Prop}
/-- a search, and its reverse -/
structure InQ (X : Cx) (A : Around) (E : Value → Shared → Prop) (s : Shared) (a b : Value) (k : Bool → Prop) : Prop where
  yes : ∀ Q : Value → Shared → Prop, (∀ r tk, k r → Q (.bool r) { s with toks := tk }) → wpAny (model X.prog X.w) A (compareOp .In a b) Q E s
  no : ∀ Q : Value → Shared → Prop, (∀ r tk, k r → Q (.bool (!r)) { s with toks := tk }) → wpAny (model X.prog X.w) A (compareOp .NotIn a b) Q E s
theorem InQ.of {a b : Value} {k : Bool → Prop} (h : ∀ Q : Bool → Shared → Prop, (∀ r tk, k r → Q r { s with toks := tk }) → wpAny (model X.prog X.w) A (contains b a) Q E s) : InQ X A E s a b k :=
  ⟨fun Q g => show wpAny _ _ (contains _ _ >>= _) _ _ _ from wpAny_bind (h _ fun r tk z => wpAny_pure (g r tk z)), fun Q g => show wpAny _ _ (contains _ _ >>= _) _ _ _ from wpAny_bind (h _ fun r tk z => wpAny_pure (g r tk z))⟩
theorem inL_ok {a : Value} {x : V} {l : Addr} {vs : Array Value} {n : Nat} {xs : List V} {k : Bool → Prop} (R : RelH X W H s.heap) (hu : Room A) (ha : VR X W a x) (g : s.heap.get? l = some (lstO vs n)) (r : VRs X W vs.toList xs) (e : cmpK.anyK H x xs k) : InQ X A E s a (.ref l) k :=
  ⟨fun Q h => any_ok (Q := Q) R hu ha h r e fun as bs d ds ra rb c1 c2 hu' z => SeqAt.in_list_reads (reads_list' g rb) ra c2 c1 hu' (h _ s.toks z),
   fun Q h => any_ok (Q := fun _ _ => True) R hu ha (fun _ _ _ => trivial) r e fun as bs d ds ra rb c1 c2 hu' z => SeqAt.notIn_list_reads (reads_list' g rb) ra c2 c1 hu' (h _ s.toks z)⟩
theorem in_ok {a b : Value} {x y : V} {k : Bool → Prop} (R : RelH X W H s.heap) (hu : Room A) (ha : VR X W a x) (hb : VR X W b y) (e : cmpK.inK H x y k) : InQ X A E s a b k := by
  cases hb with
  | lst z r q => exact inL_ok R hu ha (R.z _ _ z) r e
  | tup _ _ _ => exact e.elim
  | rng _ _ _ _ => exact e.elim
  | @ref i l hl =>
    have e : (match H.get i with | some (.list xs) => cmpK.anyK H x xs k | _ => False) := e
    cases hc : H.get i with
    | none => rw [hc] at e; exact e.elim
    | some c =>
      rw [hc] at e
      have q := R.at_ hc hl
      cases c with
      | list xs => obtain ⟨vs, n, g, r, _, _⟩ := q; exact inL_ok R hu ha g r e
      | _ => exact e.elim
  | _ => exact e.elim
theorem is_ok {a b : Value} {x y : V} {k : Bool → Prop} (ha : VR X W a x) (hb : VR X W b y) (e : isK x y k) : ∃ r, plainIs a b = true ∧ (a == b) = r ∧ k r := by
  cases hb with
  | none => cases ha <;> first | exact ⟨_, rfl, rfl, e.2⟩ | exact nomatch e.1
  | bool c =>
    cases ha with
    | bool d => exact ⟨_, rfl, by cases c <;> cases d <;> rfl, e.2⟩
    | _ => first | exact ⟨_, rfl, rfl, e.2⟩ | exact nomatch e.1
  | _ => exact e.elim
section
variable {a b : Value} {x y : V} {k : Bool → Prop} {Q : Value → Shared → Prop} (R : RelH X W H s.heap) (hu : Room A) (ha : VR X W a x) (hb : VR X W b y) (h : ∀ r tk, k r → Q (.bool r) { s with toks := tk })
include R ha hb
theorem ints_ok {k : Int → Int → Prop} (e : need (see H x) fun x => need (see H y) fun y => need (aInt x) fun i => need (aInt y) fun j => k i j) {G : Prop} (g : ∀ i j t u, a = .int i t → b = .int j u → k i j → G) : G :=
  need_e e fun x ex e => need_e e fun y ey e => need_e e fun i ei e => need_e e fun j ej e => ((see_ok R ha ex).toInt ei).elim fun t q => ((see_ok R hb ey).toInt ej).elim fun u q' => g i j t u q q' e
theorem lt_two {e' : Bool} {k : Bool → Prop} (e : need (see H x) fun x => need (see H y) fun y => ltK e' x y k) {G : Prop} (g : ∀ i j t u, a = .int i t → b = .int j u → k (cmpI e' i j) → G) : G :=
  need_e e fun x ex e => need_e e fun y ey e => by
    have rx := see_ok R ha ex
    have ry := see_ok R hb ey
    cases x with
    | int i => exact need_e e fun j ej e => (rx.toInt rfl).elim fun t q => (ry.toInt ej).elim fun u q' => g i j t u q q' e
    | _ => exact e.elim
include hu h
theorem cmp_ok {op : COp} (e : cmpK H op x y k) : wpAny (model X.prog X.w) A (compareOp (cmpOf op) a b) Q E s := by
  cases op with
  | eq => exact eq_ok R hu ha hb h e
  | ne => exact ne_ok R hu ha hb h e
  | lt => exact lt_two R ha hb e (fun i j t u q q' z => by subst q q'; exact lt_int (h _ s.toks z))
  | le => exact lt_two R ha hb e (fun i j t u q q' z => by subst q q'; exact le_int (h _ s.toks z))
  | gt => exact lt_two R hb ha (need_e e fun x ex e => need_e e fun y ey e => need_i ey (need_i ex e)) (fun i j t u q q' z => by subst q q'; exact gt_int (h _ s.toks z))
  | ge => exact lt_two R hb ha (need_e e fun x ex e => need_e e fun y ey e => need_i ey (need_i ex e)) (fun i j t u q q' z => by subst q q'; exact ge_int (h _ s.toks z))
  | isIn => exact (in_ok R hu ha hb e).yes Q h
  | notIn => exact (in_ok (k := fun r => k (!r)) R hu ha hb e).no Q fun r tk z => h _ tk z
  | is => exact (is_ok ha hb e).elim fun r q => wpAny_is_plain q.1 (by rw [q.2.1]; exact h _ s.toks q.2.2)
  | isNot => exact (is_ok (k := fun r => k (!r)) ha hb e).elim fun r q => wpAny_isNot_plain q.1 (by rw [q.2.1]; exact h _ s.toks q.2.2)
end
end
end Mine

end

section
set_option autoImplicit false
set_option linter.all false
set_option genSizeOf false
set_option genInjectivity false
set_option maxRecDepth 100000
namespace Mine
open PySem PySem.W PySem.Calls PyProof.Rows Builtin Builtin.ObjectAttr Builtin.Getset_descriptor

/-- the type of a kind; a class as a value -/
noncomputable def kdT (X : Cx) : Kd → Option Value
  | .none => some (.type "NoneType")
  | .bool => some (.type "bool")
  | .int => some (.type "int")
  | .str => some (.type "str")
  | .list => some (.type "list")
  | .tuple => some (.type "tuple")
  | _ => none
noncomputable def tVal (X : Cx) : V → Option Value
  | .bt b => some (bval b)
  | _ => none
/-- what isinstance needs -/
structure IsiK (X : Cx) (K : Frag) : Prop where
  inn : K.In X.hb
  one : ∀ k t b tv cv, isi0 X.P k t = some b → kdT X k = some tv → tVal X t = some cv → kitOne K tv cv = some b

section
variable {X : Cx} {A : Around} {W : Wd} {H : Hp} {s : Shared} {E : Value → Shared → Prop} {K : Frag}
theorem tVal_of {k : Kd} {t : V} {b : Bool} {cv : Value} (e : isi0 X.P k t = some b) (h : VR X W cv t) : tVal X t = some cv := by
  cases h with
  | bt b => rfl
  | _ => exact nsome e
theorem isi_one {k : Kd} {t : V} {b : Bool} {cv tv : Value} (I : IsiK X K) (e : isi0 X.P k t = some b) (hk : kdT X k = some tv) (h : VR X W cv t) : kitOne K tv cv = some b := I.one k t b tv cv e hk (tVal_of e h)
theorem isi_then {v t tv : Value} {k : Kd} {y : V} {b : Bool} {Hh : Heap → Prop} {Q : Value → Shared → Prop} (I : IsiK X K) (R : RelH X W H s.heap) (Z : KitX K v tv Hh) (hh : Hh s.heap) (hk : kdT X k = some tv) (hv : v ≠ .builtin "__main__.__loader__#opaque") (ht : VR X W t y) (e : isi1 X.P k y = some b) (h : ∀ tk, Q (.bool b) { s with toks := tk }) :
    wpAny (model X.prog X.w) A (call (.builtin "isinstance") [v, t]) Q E s := by
  have hin : K.In s.heap := fun x o q => R.bkeep x o (I.inn x o q)
  cases ht with
  | bt bb => exact kia_one Z hin hh (isi_one (W := W) (t := .bt bb) I e hk (.bt bb)) hv h

  | _ => exact nsome e
theorem isi_ok {v t : Value} {x y : V} {k : Bool → Prop} {Q : Value → Shared → Prop} (I : IsiK X K) (R : RelH X W H s.heap) (hv : VR X W v x) (ht : VR X W t y) (e : need (kind H x) fun q => need (isi1 X.P q y) k) (h : ∀ b tk, k b → Q (.bool b) { s with toks := tk }) :
    wpAny (model X.prog X.w) A (call (.builtin "isinstance") [v, t]) Q E s := by
  refine need_e e fun q ek e => need_e e fun b e z => ?_
  have h := fun tk => h b tk z
  cases hv with
  | none => cases ek; exact isi_then I R kitx_none trivial rfl (fun q => nomatch q) ht e h
  | bool c => cases ek; exact isi_then I R kitx_bool trivial rfl (fun q => nomatch q) ht e h
  | int i u => cases ek; exact isi_then I R kitx_int trivial rfl (fun q => nomatch q) ht e h
  | str c u _ _ => cases ek; exact isi_then I R kitx_str trivial rfl (fun q => nomatch q) ht e h
  | tup z r q => cases ek; exact isi_then I R kitx_tuple ⟨_, R.z _ _ z, rfl⟩ rfl (fun q => nomatch q) ht e h
  | lst z r q => cases ek; exact isi_then I R kitx_list ⟨_, R.z _ _ z, rfl⟩ rfl (fun q => nomatch q) ht e h
  | @ref i l hl =>
    have ek : kdC (H.get i) = some q := ek
    cases hg : H.get i with
    | none => rw [hg] at ek; cases ek
    | some c =>
      rw [hg] at ek
      have hcell := R.at_ hg hl
      cases c with
      | list xs => cases ek; obtain ⟨vs, k, hgg, _, _, _⟩ := hcell; exact isi_then I R kitx_list ⟨_, hgg, rfl⟩ rfl (fun q => nomatch q) ht e h
      | dict kvs => cases ek
      | inst k fs => cases ek
      | exc k => cases ek
  | _ => cases ek
end
end Mine

end

section
set_option autoImplicit false
set_option linter.all false
set_option genSizeOf false
set_option genInjectivity false
namespace Mine
open PySem PySem.W PySem.Calls PyProof.Rows

section
variable {X : Cx} {A : Around} {W : Wd} {H : Hp} {s : Shared} {E : Value → Shared → Prop}
theorem arr_get {vs : Array Value} {xs : List V} (h : VRs X W vs.toList xs) {k : Nat} {x : V} (e : xs[k]? = some x) : ∃ v, vs[k]? = some v ∧ VR X W v x := (h.get e).imp fun v q => ⟨by rw [← Array.getElem?_toList]; exact q.1, q.2⟩
theorem pyIdx_pos {i : Int} {n k : Nat} (e : pyIdx i n = some k) (h : 0 ≤ i) : k = i.toNat ∧ i < n := by
  unfold pyIdx at e
  rw [if_pos h] at e
  by_cases c : i < n
  · rw [if_pos c] at e; exact ⟨(Option.some.inj e).symm, c⟩
  · rw [if_neg c] at e; cases e
theorem pyIdx_neg {i : Int} {n k : Nat} (e : pyIdx i n = some k) (h : ¬ 0 ≤ i) : k = (i + n).toNat ∧ 0 ≤ i + n := by
  unfold pyIdx at e
  rw [if_neg h] at e
  by_cases c : 0 ≤ i + n
  · rw [if_pos c] at e; exact ⟨(Option.some.inj e).symm, c⟩
  · rw [if_neg c] at e; cases e
theorem pyIdx_seq {i : Int} {n k : Nat} (e : pyIdx i n = some k) : seqIndex? i n = some k := by
  unfold seqIndex?
  by_cases h : 0 ≤ i
  · obtain ⟨rfl, hk⟩ := pyIdx_pos e h
    have : ¬ i < 0 := Int.not_lt.mpr h
    simp [this, h, hk]
  · obtain ⟨rfl, hk⟩ := pyIdx_neg e h
    have h' : i < 0 := Int.not_le.mp h
    have : i + n < n := by omega
    simp_all
theorem pyIdx_63 {i : Int} {n k : Nat} (e : pyIdx i n = some k) (q : n ≤ SZ) : -(2 ^ 63 : Int) ≤ i ∧ i < 2 ^ 63 := by
  have := sz63 q
  by_cases h : 0 ≤ i
  · have := pyIdx_pos e h; omega
  · have := pyIdx_neg e h; omega
theorem sub_tail {o i : Value} {value slice : Expr} {T id : String} {Q : Value → Shared → Prop} (hT : s.TypeIs o T) (hl : typeLookup (.type T) "__getitem__" = pure (some (.builtin id)))
    (h : wpAny (model X.prog X.w) A (getItem o i) Q E s) : wpAny (model X.prog X.w) A (subscriptTail value slice o i) Q E s := by
  unfold subscriptTail
  refine wpAny_bind ?_
  rw [getitemInPython_of_ne hT.not_modules]
  refine wpAny_bind (wpAny_specialOf hT hl ?_)
  have fin : wpAny (model X.prog X.w) A (subscripted slice false o i) (fun r s₃ => wpAny (model X.prog X.w) A (letTemporaryGo value o r >>= fun _ => pure r) Q E s₃) E s := by
    have key : wpAny (model X.prog X.w) A (getItem o i) (fun r s₃ => wpAny (model X.prog X.w) A (letTemporaryGo value o r >>= fun _ => pure r) Q E s₃) E s :=
      wpAny_mono h (fun r s₃ h₃ => wpAny_bind (wpAny_letTemporaryGo (wpAny_pure h₃))) fun _ _ x => x
    unfold subscripted
    split
    · exact wpAny_operating key
    · cases ‹_ = true›
    · exact wpAny_operating key
  first
    | exact wpAny_pure (wpAny_bind fin)
    | exact wpAny_bind (wpAny_pure (wpAny_bind fin))
    | exact wpAny_bind fin
theorem str_one {t : Str} {i c : Nat} (ok : PyData.strOk t = true) (hc : t.cps[i]? = some c) : PyData.strOk ⟨#[c]⟩ = true := by
  have hok : (t.cps.all (· < 0x110000)) = true := ok
  rw [Array.all_eq_true] at hok
  have := hok i (Array.getElem?_eq_some_iff.mp hc).1
  rw [(Array.getElem?_eq_some_iff.mp hc).2] at this
  show ((#[c] : Array Nat).all (· < 0x110000)) = true
  simpa using this
section
variable {a b : Value} {x y : V} {value slice : Expr} {k : V → Prop} {Q : Value → Shared → Prop} (h : ∀ v r tk, VR X W v r → k r → Q v { s with toks := tk })
include h
theorem idxL_ok {l : Addr} {vs : Array Value} {n : Nat} {xs : List V} {i : Int} {t : Tok} (g : s.heap.get? l = some (lstO vs n)) (r : VRs X W vs.toList xs) (q : xs.length ≤ SZ) (e : atK xs i k) : wpAny (model X.prog X.w) A (subscriptTail value slice (.ref l) (.int i t)) Q E s := by
  refine need_e e fun m em e => need_e e fun x ex e => ?_
  obtain ⟨v, hx, hr⟩ := arr_get r ex
  have hf := h v x s.toks hr e
  have z := r.toArr
  have b63 := pyIdx_63 em q
  refine sub_tail ⟨_, g, rfl⟩ list_getitem_lookup ?_
  by_cases h0 : 0 ≤ i
  · obtain ⟨rfl, hk⟩ := pyIdx_pos em h0
    exact wpAny_getItem_list (isList_of g) h0 b63.2 hx hf
  · obtain ⟨rfl, hk⟩ := pyIdx_neg em h0
    exact wpAny_getItem_list_neg (isList_of g) (Int.not_le.mp h0) (by rw [z]; omega) b63.1 (by rw [z]; exact hx) hf
theorem idxD_ok {l : Addr × Addr} {kvs : List (V × V)} (hb : VR X W b y) (g : DicCell X W s.heap l kvs) (e : Nd (keyOk (dKeys kvs) y = true) (need (dGet kvs y) k)) : wpAny (model X.prog X.w) A (subscriptTail value slice (.ref l.1) b) Q E s := by
  obtain ⟨es, d, r, _, ne, _⟩ := g
  refine key_e hb e.1 fun i t ea ex => need_e e.2 fun z ez q => ?_
  subst ea ex
  have v := r.val (i := i)
  rw [ez] at v
  generalize hv : valueAt es i = o at v
  cases v with
  | some hr => exact sub_tail d.typeIs slot_dict_getitem.lookup (wpAny_getItem_of (intKind_is _ _ i t) d.mapOf hv (h _ _ _ hr q))
theorem idx_ok (R : RelH X W H s.heap) (ha : VR X W a x) (hb : VR X W b y) (e : idxH H x y k) : wpAny (model X.prog X.w) A (subscriptTail value slice a b) Q E s := by
  have key : ∀ i, aInt y = some i → ∃ t, b = .int i t := fun i ei => by cases hb <;> first | (cases ei; exact ⟨_, rfl⟩) | cases ei
  cases ha with
  | @ref j l hl =>
    have e : (match H.get j with | some (.list xs) => idxK (.lst xs) y k | some (.dict kvs) => Nd (keyOk (dKeys kvs) y = true) (need (dGet kvs y) k) | _ => False) := e
    cases hc : H.get j with
    | none => rw [hc] at e; exact e.elim
    | some c =>
      rw [hc] at e
      have q := R.at_ hc hl
      cases c with
      | list xs =>
        refine need_e e fun i ei e => (key i ei).elim fun t et => ?_
        subst et
        obtain ⟨vs, n, g, r, _, z⟩ := q
        exact idxL_ok h g r z e
      | dict kvs => exact idxD_ok h hb q e
      | _ => exact e.elim
  | lst z r q => exact need_e e fun i ei e => (key i ei).elim fun t et => by subst et; exact idxL_ok h (R.z _ _ z) r q e
  | @tup l vs n xs z r q =>
    refine need_e e fun i ei e => (key i ei).elim fun t et => need_e e fun m em e => need_e e fun x ex e => ?_
    subst et
    obtain ⟨v, hx, hr⟩ := arr_get r ex
    have b63 := pyIdx_63 em q
    exact sub_tail (isTup_of (R.z _ _ z)).typeIs slot_tuple_getitem.lookup (getItem_tuple (isTup_of (R.z _ _ z)) b63.1 b63.2 (by rw [r.toArr]; exact pyIdx_seq em) hx (h v x s.toks hr e))
  | str t u ok z =>
    refine need_e e fun i ei e => (key i ei).elim fun tk et => ?_
    subst et
    obtain ⟨h0, e⟩ := e
    refine need_e e fun c hc e => ?_
    have hlt : i.toNat < t.cps.size := (Array.getElem?_eq_some_iff.mp hc).1
    have hL : t.length = t.cps.size := rfl
    have pi : pyIdx i t.length = some i.toNat := by unfold pyIdx; rw [if_pos h0, if_pos (by omega)]
    have b63 := pyIdx_63 pi z
    refine sub_tail (typeIs_str s _ _) slot_str_getitem.lookup (PyProof.Rows.getItem_str ?_ ?_ ?_ (c := c))
    · simp; omega
    · rw [pyIdx_seq pi]; exact hc
    · exact h _ _ _ (.str _ _ (str_one ok hc) (by show 1 ≤ SZ; decide)) e
  | _ => exact need_e e fun _ _ e => e.elim
end

/-! slices -/
theorem clamp_eq {x : Int} {n : Nat} (h : 0 ≤ x) : min x (n : Int) = ((min x.toNat n : Nat) : Int) := by omega
theorem max0 {n : Nat} : max 0 (n : Int) = n := Int.max_eq_right (Int.natCast_nonneg n)
theorem take_cut {α : Type} (l : List α) (a b : Nat) : (l.drop (min a l.length)).take (min b l.length - min a l.length) = (l.drop a).take (b - a) := by
  rw [kmk_drop_min]
  by_cases c1 : a ≤ l.length
  · rw [Nat.min_eq_left c1]
    by_cases c2 : b ≤ l.length
    · rw [Nat.min_eq_left c2]
    · rw [Nat.min_eq_right (Nat.le_of_not_le c2), List.take_of_length_le (by rw [List.length_drop]; exact Nat.le_refl _), List.take_of_length_le (by rw [List.length_drop]; exact Nat.sub_le_sub_right (Nat.le_of_not_le c2) _)]
  · rw [List.drop_of_length_le (Nat.le_of_not_le c1), List.take_nil, List.take_nil]
theorem pick_list {vs : Array Value} {xs : List V} (hv : VRs X W vs.toList xs) {lo hi : Option Int} (h1 : notNeg lo = true) (h2 : notNeg hi = true) : VRs X W (slicePick vs lo hi none).toList (slL xs lo hi) := by
  have key : ∀ (a b : Nat), sliceBounds lo hi none vs.size = ((a : Int), (b : Int), 1) → VRs X W (slicePick vs lo hi none).toList ((xs.drop a).take (b - a)) := fun a b e => by
    rw [kmk_pick_nat _ e]
    exact (hv.drop a).take (b - a)
  have z := hv.toArr
  have neg : ∀ {x : Int}, 0 ≤ x → ¬ x < 0 := fun h => Int.not_lt.mpr h
  cases lo with
  | none =>
    cases hi with
    | none =>
      have := key 0 vs.size (by simp [sliceBounds])
      rw [z, Nat.sub_zero, List.drop_zero, List.take_length] at this
      exact this
    | some y =>
      have hy : 0 ≤ y := of_decide_eq_true h2
      have e : sliceBounds none (some y) none vs.size = (((0 : Nat) : Int), ((min y.toNat vs.size : Nat) : Int), 1) := by
        simp only [sliceBounds, Option.getD_none, show (1 : Int) > 0 by decide, if_true, if_neg (neg hy), clamp_eq hy]
        rfl
      have := key _ _ e
      rw [z, Nat.sub_zero, List.drop_zero, kmk_take_min] at this
      exact this
  | some x =>
    have hx : 0 ≤ x := of_decide_eq_true h1
    cases hi with
    | none =>
      have e : sliceBounds (some x) none none vs.size = (((min x.toNat vs.size : Nat) : Int), ((vs.size : Nat) : Int), 1) := by
        simp only [sliceBounds, Option.getD_none, show (1 : Int) > 0 by decide, if_true, if_neg (neg hx), clamp_eq hx, max0]
      have := key _ _ e
      rw [z, kmk_drop_min, List.take_of_length_le (by rw [List.length_drop]; exact Nat.sub_le_sub_left (Nat.min_le_left _ _) _)] at this
      exact this
    | some y =>
      have hy : 0 ≤ y := of_decide_eq_true h2
      have e : sliceBounds (some x) (some y) none vs.size = (((min x.toNat vs.size : Nat) : Int), ((min y.toNat vs.size : Nat) : Int), 1) := by
        simp only [sliceBounds, Option.getD_none, show (1 : Int) > 0 by decide, if_true, if_neg (neg hx), if_neg (neg hy), clamp_eq hx, clamp_eq hy, max0]
      have := key _ _ e
      rw [z, take_cut] at this
      exact this
theorem slL_len (xs : List V) (lo hi : Option Int) : (slL xs lo hi).length ≤ xs.length := by
  cases lo with
  | none =>
    cases hi with
    | none => exact Nat.le_refl _
    | some b => exact List.length_take_le' _ _
  | some a =>
    cases hi with
    | none => rw [show slL xs (some a) none = xs.drop a.toNat from rfl, List.length_drop]; exact Nat.sub_le _ _
    | some b => exact Nat.le_trans (List.length_take_le' _ _) (by rw [List.length_drop]; exact Nat.sub_le _ _)
theorem part_of {v : Value} {o : Option V} {i : Option Int} (hv : VR X W v (o.getD .none)) (e : optI o = some i) : IsPart v i := by
  cases o with
  | none => cases e; cases hv; exact .none
  | some x =>
    cases x with
    | int i => cases e; cases hv; exact .int _ _
    | _ => cases e
abbrev slO (a b c : Value) : Obj := { cls := .type "slice", data := .fields #[a, b, c] }
theorem slT_e {xs ys : List V} {lo hi : Option Int} {G : Prop} (h : slT xs lo hi = some ys) (hn : notNeg hi = true) (g : ∀ j : Nat, lo = none → hi = some (j : Int) → j < xs.length → ys = xs.take j → G) : G := by
  cases lo with
  | some _ => cases h
  | none =>
    cases hi with
    | none => cases h
    | some i =>
      have h : cond (Nat.blt i.toNat xs.length) (some (xs.take i.toNat)) none = some ys := h
      cases q : Nat.blt i.toNat xs.length with
      | false => rw [q] at h; cases h
      | true =>
        rw [q] at h; cases h
        have h0 : 0 ≤ i := of_decide_eq_true hn
        exact g i.toNat rfl (congrArg some (Int.toNat_of_nonneg h0).symm) (Nat.le_of_ble_eq_true q) rfl
section
variable {fz : Bool} {k : LV → Prop} {Q : Value → Shared → Prop} (o : OpQ X fz W H s k Q) (R : RelH X W H s.heap)
include o R
/-- behind a new slice object -/
theorem OpQ.behind {ob : Obj} : OpQ X fz W H { s with heap := s.heap.push ob } k Q ∧ RelH X W H (s.heap.push ob) := by
  have hp : ∀ b o, s.heap.get? b = some o → (s.heap.push ob).get? b = some o := fun _ _ q => Heap.get?_push_of_some _ q
  have S₁ : Stp noPv W H s.heap W H (s.heap.push ob) := .quiet (fun a o q _ => hp a o q) fun a o q => ⟨o, hp a o q⟩
  exact ⟨⟨fun r v' s' W' H' T z q => o.out r v' s' W' H' ⟨S₁.trans T.stp, T.rel, ⟨T.rest.gens, T.rest.drawn, T.rest.os⟩⟩ z q, o.sz⟩, R.quiet (Pv := noPv) (fun a o q _ => hp a o q) fun _ z => z.elim⟩
theorem sl_ok {a vl vu : Value} {x : V} {lo hi : Option Int} {value slice : Expr} (ha : Sn X W s.heap a x) (pl : IsPart vl lo) (pu : IsPart vu hi) (e : slK x lo hi k) :
    wpAny (model X.prog X.w) A (newFields "slice" [vl, vu, .none]) (fun i s₁ => wpAny (model X.prog X.w) A (subscriptTail value slice a i) Q E s₁) E s := by
  obtain ⟨h1, h2, e⟩ := e
  obtain ⟨o₁, R₁⟩ := o.behind R (ob := slO vl vu .none)
  refine wpAny_newObj_type ?_
  cases ha with
  | lst g r q z =>
    have hg₁ := Heap.get?_push_of_some (slO vl vu .none) g
    exact sub_tail (s := { s with heap := s.heap.push (slO vl vu .none) }) ⟨_, hg₁, rfl⟩ list_getitem_lookup
      (wpAny_getItem_list_slice (isList_of hg₁) (Heap.IsSliceOf.new ..) pl pu .none (by simp) (o₁.push (n := 0) R₁ (pick_list r h1 h2) e) (by rw [z]; exact szLine q))
  | @tup l vs n xs g r q z =>
    have hg₁ := Heap.get?_push_of_some (slO vl vu .none) g
    refine need_e e fun ys ey e => slT_e ey h2 fun j e1 e2 hj e3 => ?_
    subst e1 e2 e3
    cases pl
    cases pu with
    | int _ t =>
      refine sub_tail (s := { s with heap := s.heap.push (slO .none (.int j t) .none) }) ⟨_, hg₁, rfl⟩ slot_tuple_getitem.lookup (getItem_tuple_to (isTup_of hg₁) (Heap.IsSliceOf.new ..) (by rw [z]; exact hj) ?_ (by rw [z]; exact szLine q))
      exact o₁.fro (tk := s.toks) R₁ (fun _ _ e => Heap.get?_push_of_some _ e) (push_none _) (Heap.get?_push_size _ rfl) (.tup (n := 0) addZ_self ((r.take j).le (R₁.leZ (push_none _))) (Nat.le_trans (by rw [List.length_take]; exact Nat.min_le_right _ _) q)) e
  | _ => exact e.elim
theorem rev_ok {a : Value} {xs : List V} {t : Tok} {value slice : Expr} (ha : SqL X W s.heap a xs) (e : k (.newList xs.reverse)) :
    wpAny (model X.prog X.w) A (newFields "slice" [.none, .none, .int (-1) t]) (fun i s₁ => wpAny (model X.prog X.w) A (subscriptTail value slice a i) Q E s₁) E s := by
  obtain ⟨l, vs, n, rfl, g, r, q, z⟩ := ha
  obtain ⟨o₁, R₁⟩ := o.behind R (ob := slO .none .none (.int (-1) t))
  refine wpAny_newObj_type ?_
  have hg₁ := Heap.get?_push_of_some (slO .none .none (.int (-1) t)) g
  refine sub_tail (s := { s with heap := s.heap.push (slO .none .none (.int (-1) t)) }) ⟨_, hg₁, rfl⟩ list_getitem_lookup
    (wpAny_getItem_list_slice (isList_of hg₁) (Heap.IsSliceOf.new ..) .none .none (.int (-1) t) (by simp) ?_ (by rw [z]; exact szLine q))
  rw [krv_pick]
  exact o₁.push (n := 0) R₁ r.reverse e
end

/-! built-in functions -/
theorem rngL_get (c : Int) (n : Nat) : ∀ (a : Int) (k : Nat), k < n → (rngL a c n)[k]? = some (.int (a + k * c)) := by
  induction n with
  | zero => intro a k h; exact absurd h (Nat.not_lt_zero _)
  | succ n ih =>
    intro a k h
    cases k with
    | zero => show some (V.int a) = _; rw [Int.natCast_zero, Int.zero_mul, Int.add_zero]
    | succ k =>
      show (rngL (a + c) c n)[k]? = _
      rw [ih (a + c) k (Nat.lt_of_succ_lt_succ h), Int.natCast_succ, Int.add_mul, Int.one_mul, Int.add_assoc, Int.add_comm c]
theorem rngL_length (c : Int) (n : Nat) : ∀ a : Int, (rngL a c n).length = n := by
  induction n with
  | zero => intro a; rfl
  | succ n ih => intro a; exact congrArg (· + 1) (ih (a + c))
theorem VRs.ofGet {vs : List Value} {xs : List V} (hl : vs.length = xs.length) (h : ∀ (k : Nat) (v : Value) (x : V), vs[k]? = some v → xs[k]? = some x → VR X W v x) : VRs X W vs xs := by
  induction vs generalizing xs with
  | nil => cases xs with
    | nil => exact .nil
    | cons => cases hl
  | cons v vs ih => cases xs with
    | nil => cases hl
    | cons x xs => exact .cons (h 0 v x rfl rfl) (ih (Nat.succ.inj hl) fun k v x a b => h (k + 1) v x a b)
theorem rng_small {a b c : Int} (hc : c = 1 ∨ c = -1) (ha : a.natAbs ≤ SZ) (hb : b.natAbs ≤ SZ) : Builtin.Range.small a b c = true := by
  unfold Builtin.Range.small
  rw [rng_size hc]
  unfold SZ at *
  have hn : rngN a b c ≤ 2097152 := by
    unfold rngN
    rcases hc with rfl | rfl
    · simp; omega
    · simp; omega
  have f : ∀ x : Int, x.natAbs ≤ 4194304 → Builtin.Range.rangeFitsLong x = true := fun x hx => by
    unfold Builtin.Range.rangeFitsLong
    simp
    omega
  rw [f a (by omega), f b (by omega), f _ (by omega : ((rngN a b c : Nat) : Int).natAbs ≤ 4194304)]
  rcases hc with rfl | rfl
  · rw [f 1 (by decide)]
    simp only [show (1 : Int) > 0 by decide, if_true, Bool.true_and, Bool.or_eq_true]
    exact .inr (f _ (by omega))
  · rw [f (-1) (by decide)]
    simp only [show ¬ ((-1 : Int) > 0) by decide, if_false, Bool.true_and, Bool.or_eq_true]
    exact .inr (f _ (by omega))
theorem rngN_le {a b c : Int} (ha : a.natAbs ≤ SZ) (hb : b.natAbs ≤ SZ) : rngN a b c ≤ 2 ^ 24 := by
  unfold SZ at *; unfold rngN; split
  · omega
  · split <;> omega
noncomputable def quietB (A : Around) (b : B) : Prop := A.handled = none ∨ b = .len ∨ b = .isinstance
theorem len_ok {v : Value} {x : V} {n : Nat} {fz : Bool} {k : LV → Prop} {Q : Value → Shared → Prop} (o : OpQ X fz W H s k Q) (R : RelH X W H s.heap) (hv : VR X W v x) (e : lenH H x = some n) (h : k (.val (.int n))) : wpAny (model X.prog X.w) A (call (bval .len) [v]) Q E s := by
  have lst : ∀ {l : Addr} {vs : Array Value} {m : Nat} {xs : List V}, s.heap.get? l = some (lstO vs m) → VRs X W vs.toList xs → xs.length ≤ SZ → some xs.length = some n → wpAny (model X.prog X.w) A (call (bval .len) [.ref l]) Q E s := fun {l vs m xs} g r q e => by
    refine call_len_list (isList_of g) (by rw [r.toArr]; exact sz63 q) ?_
    rw [r.toArr, Option.some.inj e]; exact o.val R (.int ..) h
  cases hv with
  | str t u ok z => exact PySem.P.len_str (Int.not_le.mpr (sz63 z)) (by rw [Option.some.inj e]; exact o.val R (.int ..) h)
  | tup z r q =>
    refine len_tuple (isTup_of (R.z _ _ z)) (by rw [r.toArr]; exact sz63 q) ?_
    rw [r.toArr, Option.some.inj e]; exact o.val R (.int ..) h
  | lst z r q => exact lst (R.z _ _ z) r q e
  | @ref i l hl =>
    have e : (match H.get i with | some (.list xs) => some xs.length | some (.dict kvs) => some kvs.length | _ => none) = some n := e
    cases hc : H.get i with
    | none => rw [hc] at e; cases e
    | some c =>
      rw [hc] at e
      have q := R.at_ hc hl
      cases c with
      | list xs => obtain ⟨vs, m, g, r, _, z⟩ := q; exact lst g r z e
      | dict kvs =>
        obtain ⟨es, d, r, _, ne, z⟩ := q
        refine call_len_dict ne d (by rw [r.len]; exact sz63 z) ?_
        rw [r.len, Option.some.inj e]; exact o.val R (.int ..) h
      | _ => cases e
  | _ => cases e
theorem b1_ok {b : B} {v : Value} {x : V} {fz : Bool} {k : LV → Prop} {Q : Value → Shared → Prop} (o : OpQ X fz W H s k Q) (hh : quietB A b) (R : RelH X W H s.heap) (hv : VR X W v x) (e : b1K b (see H x) (lenH H x) k) : wpAny (model X.prog X.w) A (call (bval b) [v]) Q E s := by
  have hq : (b ≠ .len ∧ b ≠ .isinstance) → A.handled = none := fun z => hh.elim id fun q => (q.elim (fun q => absurd q z.1) fun q => absurd q z.2)
  cases b with
  | len => exact need_e e fun n en e => len_ok o R hv en e
  | list =>
    refine need_e e fun y ey e => need_e e fun xs ex e => ?_
    cases see_ok R hv ey with
    | lst g r q z => cases ex; exact call_list_seq _ (.inl rfl) g rfl rfl (fun h' c' hk ha => o.list R r hk (push_none _) ha e) (by rw [z]; exact szLine q)
    | tup g r q z => cases ex; exact call_list_seq _ (.inr rfl) g rfl rfl (fun h' c' hk ha => o.list R r hk (push_none _) ha e) (by rw [z]; exact szLine q)
    | @rng rr a b c t u v z p q hc =>
      cases ex
      refine call_list_range (hq ⟨(nomatch ·), (nomatch ·)⟩) z (rng_small hc p q) (rng_size hc) (rngN_le p q) fun h' tk acc' c' hk ha hacc => ?_
      refine o.list R (vs := acc') (VRs.ofGet ?_ fun k v x e1 e2 => ?_) hk (push_none _) ha e
      · rw [rngL_length, Array.length_toList]; exact hacc.1
      · have hk' : k < rngN a b c := by
          have := (List.getElem?_eq_some_iff.mp e2).1
          rwa [rngL_length] at this
        rw [rngL_get _ _ _ _ hk'] at e2
        cases e2
        obtain ⟨t, q⟩ := hacc.2 k v (by rw [← Array.getElem?_toList]; exact e1)
        rw [q]; exact .int _ _
    | _ => cases ex
  | range => exact need_e e fun y ey e => need_e e fun n en e => ((see_ok R hv ey).toInt en).elim fun t q => q ▸ call_range_1 (o.fro R (fun _ _ e => Heap.get?_push_of_some _ e) (push_none _) (Heap.get?_push_size _ rfl) (.rng addZ_self (by decide) e.1 (.inl rfl)) e.2)
  | _ => exact e.elim
theorem b2_ok {b : B} {v w : Value} {x y : V} {fz : Bool} {k : LV → Prop} {Q : Value → Shared → Prop} (o : OpQ X fz W H s k Q) (hh : quietB A b) (R : RelH X W H s.heap) (h1 : VR X W v x) (h2 : VR X W w y) (e : need (see H x) fun x => need (see H y) fun y => b2K b x y k) : wpAny (model X.prog X.w) A (call (bval b) [v, w]) Q E s := by
  have hq : (b ≠ .len ∧ b ≠ .isinstance) → A.handled = none := fun z => hh.elim id fun q => (q.elim (fun q => absurd q z.1) fun q => absurd q z.2)
  cases b with
  | max =>
    refine ints_ok R h1 h2 e fun i j t u q q' e => ?_
    subst q q'
    refine max_two_ints (hq ⟨(nomatch ·), (nomatch ·)⟩) fun h' tk hk => ?_
    split
    · rename_i c; exact o.more R hk (x := .int (if j > i then j else i)) (by rw [if_pos c]; exact .int _ _) e
    · rename_i c; exact o.more R hk (x := .int (if j > i then j else i)) (by rw [if_neg c]; exact .int _ _) e
  | min =>
    refine ints_ok R h1 h2 e fun i j t u q q' e => ?_
    subst q q'
    refine min_two_ints (hq ⟨(nomatch ·), (nomatch ·)⟩) fun h' tk hk => ?_
    split
    · rename_i c; exact o.more R hk (x := .int (if j < i then j else i)) (by rw [if_pos c]; exact .int _ _) e
    · rename_i c; exact o.more R hk (x := .int (if j < i then j else i)) (by rw [if_neg c]; exact .int _ _) e
  | _ => exact need_e e fun _ _ e => need_e e fun _ _ e => e.elim
theorem callB_ok {K : Frag} {b : B} {vs : List Value} {xs : List V} {fz : Bool} {k : LV → Prop} {Q : Value → Shared → Prop} (o : OpQ X fz W H s k Q) (I : IsiK X K) (hh : quietB A b) (R : RelH X W H s.heap) (hv : VRs X W vs xs) (e : callB X.P H b xs k) : wpAny (model X.prog X.w) A (call (bval b) vs) Q E s := by
  cases hv with
  | nil => exact e.elim
  | cons h1 r =>
    cases r with
    | nil => exact b1_ok o hh R h1 e
    | cons h2 r =>
      cases r with
      | nil =>
        refine Br_e e (fun q e => ?_) fun _ e => b2_ok o hh R h1 h2 e
        cases b with
        | isinstance => exact isi_ok I R h1 h2 e fun r tk z => o.val R (.bool _) z
        | _ => cases q
      | cons h3 r =>
        cases r with
        | nil => exact e.elim
        | cons _ _ => exact e.elim
end
end Mine

end

section
set_option autoImplicit false
set_option linter.all false
set_option genSizeOf false
set_option genInjectivity false
namespace Mine
open PySem

/-! The P-text is the text's: a look, place by place. -/
/-- a scope; hd: no exception is being handled -/
structure Sc where
  sc : Scope
  hd : Bool
/-- what a look is told: the names, the names that may be called while an exception is handled, «append» -/
structure Ck where
  nm : Nat → Str
  qg : Nat → Bool
  ap : Nat
noncomputable def nkNo : NameKind → Nat
  | .local => 1
  | .cell => 2
  | .free => 3
  | .globalImplicit => 4
  | _ => 0
noncomputable def knd (sc : Sc) (x : Str) : Nat := match sc.sc.names.lookup x with
  | some k => nkNo k
  | none => 0
noncomputable def kLoc (sc : Sc) (x : Str) : Bool := Nat.ble 1 (knd sc x) && Nat.ble (knd sc x) 3
noncomputable def kLocal (sc : Sc) (x : Str) : Bool := Nat.beq (knd sc x) 1
noncomputable def kStore (sc : Sc) (x : Str) : Bool := Nat.beq (knd sc x) 1 || Nat.beq (knd sc x) 2
noncomputable def kGlob (sc : Sc) (x : Str) : Bool := Nat.beq (knd sc x) 4
noncomputable def nkOf : Nat → NameKind
  | 1 => .local
  | 2 => .cell
  | 3 => .free
  | _ => .globalImplicit
theorem nk_of {k : NameKind} (h : nkNo k ≠ 0) : k = nkOf (nkNo k) := by cases k <;> first | rfl | exact absurd rfl h
theorem knd_of {sc : Sc} {x : Str} {n : Nat} (h : knd sc x = n) (hn : n ≠ 0) : sc.sc.names.lookup x = some (nkOf n) := by
  have h : (match sc.sc.names.lookup x with | some k => nkNo k | none => 0) = n := h
  cases q : sc.sc.names.lookup x with
  | none => rw [q] at h; exact absurd h.symm hn
  | some k => rw [q] at h; rw [← h, ← nk_of (fun z => hn (h.symm.trans z))]
noncomputable def nDbg (x : Str) : Bool := !(x == ("__debug__" : Str)) && !(x == ("__classdict__" : Str))

/-! a text taken apart -/
structure XU where
  tag : Nat
  a : Expr
  b : Expr
  c : Expr
  l : List Expr
  os : List (Option Expr)
  s : Str
  v : Const
  o : Operator
  u : UnaryOp
  cs : List CmpOp
  bo : BoolOp
  kw : List Keyword
  gs : List Comprehension
  sc : Option Scope
  k : Nat
  o0 : Option Expr
  o1 : Option Expr
  o2 : Option Expr
  p : Pos
noncomputable def X0 (e : Expr) (p : Pos) : XU := ⟨0, e, e, e, [], [], Str.empty, .none, .Add, .Not, [], .And, [], [], none, 0, none, none, none, p⟩
noncomputable def xu (e : Expr) : XU := match e with
  | .Constant v k p => { X0 e p with tag := 1, v := v, k := k }
  | .Name x p => { X0 e p with tag := 2, s := x }
  | .Attribute a x p => { X0 e p with tag := 3, a := a, s := x }
  | .BinOp a o b p => { X0 e p with tag := 4, a := a, o := o, b := b }
  | .UnaryOp u a p => { X0 e p with tag := 5, u := u, a := a }
  | .Compare a cs l p => { X0 e p with tag := 6, a := a, cs := cs, l := l }
  | .BoolOp bo l p => { X0 e p with tag := 7, bo := bo, l := l }
  | .IfExp a b c p => { X0 e p with tag := 8, a := a, b := b, c := c }
  | .List l p => { X0 e p with tag := 9, l := l }
  | .Tuple l k p => { X0 e p with tag := 10, l := l, k := k }
  | .Dict os l p => { X0 e p with tag := 11, os := os, l := l }
  | .Subscript a b p => { X0 e p with tag := 12, a := a, b := b }
  | .Slice o0 o1 o2 p => { X0 e p with tag := 13, o0 := o0, o1 := o1, o2 := o2 }
  | .Call a l kw p => { X0 e p with tag := 14, a := a, l := l, kw := kw }
  | .ListComp a gs sc p => { X0 e p with tag := 15, a := a, gs := gs, sc := some sc }
  | .Lambda _ _ _ p => { X0 e p with tag := 16 }
  | .Set _ _ p => { X0 e p with tag := 17 }
  | .NamedExpr _ _ p => X0 e p
  | .SetComp _ _ _ p => X0 e p
  | .DictComp _ _ _ _ p => X0 e p
  | .GeneratorExp _ _ _ p => X0 e p
  | .Await _ p => X0 e p
  | .Yield _ p => X0 e p
  | .YieldFrom _ p => X0 e p
  | .FormattedValue _ _ _ p => X0 e p
  | .JoinedStr _ p => X0 e p
  | .Starred _ p => X0 e p
noncomputable def scOf (t : XU) : Scope := t.sc.getD ⟨.function, [], false, false, []⟩
/-- the text again -/
noncomputable def backs (t : XU) : List Expr := [t.a, .Constant t.v t.k t.p, .Name t.s t.p, .Attribute t.a t.s t.p, .BinOp t.a t.o t.b t.p, .UnaryOp t.u t.a t.p, .Compare t.a t.cs t.l t.p, .BoolOp t.bo t.l t.p, .IfExp t.a t.b t.c t.p, .List t.l t.p, .Tuple t.l t.k t.p, .Dict t.os t.l t.p, .Subscript t.a t.b t.p, .Slice t.o0 t.o1 t.o2 t.p, .Call t.a t.l t.kw t.p, .ListComp t.a t.gs (scOf t) t.p]
noncomputable def back (t : XU) (n : Nat) : Expr := (backs t)[n]?.getD t.a
theorem xu_ok (e : Expr) : Nat.blt (xu e).tag 16 = true → e = back (xu e) (xu e).tag := by
  cases e <;> first | exact fun _ => rfl | exact fun h => nomatch h
theorem xu_is {e : Expr} {n : Nat} (h : Nat.beq (xu e).tag n = true) (hn : Nat.blt n 16 = true) : e = back (xu e) n := by
  have h := Nat.eq_of_beq_eq_true h
  rw [← h] at hn
  exact (xu_ok e hn).trans (by rw [h])
noncomputable def on {α : Type} (o : Option α) (f : α → Bool) : Bool := match o with
  | some a => f a
  | none => false
noncomputable def chkC (v : V) : Const → Bool
  | .none => isNone v
  | .bool b => on (aBool v) fun c => c == b
  | .int i => on (aInt v) fun c => decide (c = i)
  | .str s => on (aStr v) fun c => decide (c = s) && PyData.strOk s && decide (s.length ≤ SZ)
  | _ => false
noncomputable def notSuper (e : Expr) : Bool := !(Nat.beq (xu e).tag 14 && (xu e).l.isEmpty && (xu e).kw.isEmpty && Nat.beq (xu (xu e).a).tag 2)
noncomputable def uniq : List (Str × NameKind) → Bool
  | [] => true
  | y :: r => r.all (fun z => !(z.1 == y.1)) && uniq r
/-- a comprehension's scope: its own name, names from around, global names -/
noncomputable def chkSc (nm : Nat → Str) (sc : Sc) (sc' : Scope) (ts : List Nat) : Bool := (match sc'.kind with | .function => true | _ => false) && uniq sc'.names &&
  sc'.names.all fun y => match nkNo y.2 with
    | 1 => y.1 == (".0" : Str) || ts.any (fun i => decide (y.1 = nm i))
    | 3 => Nat.beq (knd sc y.1) 2 || Nat.beq (knd sc y.1) 3
    | 4 => true
    | _ => false

inductive A3 (a b c : Bool) : Prop
  | mk (x : a = true) (y : b = true) (z : c = true)
theorem and2 {a b : Bool} (h : (a && b) = true) : a = true ∧ b = true := by cases a <;> cases b <;> first | exact ⟨rfl, rfl⟩ | cases h
/-- what stands behind «and», one by one -/
theorem and_e {a b : Bool} {G : Prop} (h : (a && b) = true) (g : a = true → b = true → G) : G := g (and2 h).1 (and2 h).2
theorem and3_e {a b c : Bool} {G : Prop} (h : (a && b && c) = true) (g : a = true → b = true → c = true → G) : G := and_e h fun h z => and_e h fun x y => g x y z
theorem and4_e {a b c d : Bool} {G : Prop} (h : (a && b && c && d) = true) (g : a = true → b = true → c = true → d = true → G) : G := and_e h fun h u => and3_e h fun x y z => g x y z u
theorem and5_e {a b c d e : Bool} {G : Prop} (h : (a && b && c && d && e) = true) (g : a = true → b = true → c = true → d = true → e = true → G) : G := and_e h fun h v => and4_e h fun x y z u => g x y z u v
theorem and6_e {a b c d e f : Bool} {G : Prop} (h : (a && b && c && d && e && f) = true) (g : a = true → b = true → c = true → d = true → e = true → f = true → G) : G := and_e h fun h w => and5_e h fun x y z u v => g x y z u v w
theorem on_e {α : Type} {o : Option α} {f : α → Bool} {G : Prop} (h : on o f = true) (g : ∀ a, o = some a → f a = true → G) : G := by
  cases o with
  | none => cases h
  | some a => exact g a rfl h
noncomputable def x2 {α : Type} : List α → Option (α × α) | [a, b] => some (a, b) | _ => none
noncomputable def x0 {α : Type} : Option α → Bool | none => true | _ => false
theorem one_ok {α : Type} {l : List α} {a : α} (h : one l = some a) : l = [a] := by
  match l, h with
  | [_], h => cases h; rfl
theorem x2_ok {α : Type} {l : List α} {t : α × α} (h : x2 l = some t) : l = [t.1, t.2] := by
  match l, h with
  | [_, _], h => cases h; rfl
theorem x0_ok {α : Type} {o : Option α} (h : x0 o = true) : o = none := by
  cases o with
  | none => rfl
  | some _ => cases h
theorem head_ok {α : Type} {l : List α} {x : α} (h : l.head? = some x) : l = x :: l.tail := by
  cases l with
  | nil => cases h
  | cons a r => cases h; rfl
theorem empty_ok {α : Type} {l : List α} (h : l.isEmpty = true) : l = [] := by
  cases l with
  | nil => rfl
  | cons a r => cases h
noncomputable def tg (e : Expr) (n : Nat) : Bool := Nat.beq (xu e).tag n
noncomputable def isM1 (e : Expr) : Bool := tg e 5 && decide ((xu e).u = .USub) && tg (xu e).a 1 && decide ((xu (xu e).a).v = .int 1)
/-- «reverse=True» -/
noncomputable def isRv (kw : List Keyword) : Bool := on (one kw) fun k => decide (k.arg = some (Str.ofString "reverse")) && tg k.value 1 && decide ((xu k.value).v = .bool true)
/-- a test that is no «not», no «and», no «or», no «if» -/
noncomputable def plainTest (e : Expr) : Bool := !(tg e 5 && decide ((xu e).u = .Not)) && !tg e 7 && !tg e 8
/-- names to be bound, one by one -/
noncomputable def tgts (nm : Nat → Str) (sc : Sc) : List Nat → List Expr → Bool
  | [], l => l.isEmpty
  | i :: is, l => on l.head? fun t => tg t 2 && decide ((xu t).s = nm i) && kLocal sc (xu t).s && tgts nm sc is l.tail
/-- what is bound: a name, or some in a tuple -/
noncomputable def chkTgt (nm : Nat → Str) (sc : Sc) (ts : List Nat) (t : Expr) : Bool := (tg t 2 && on (one ts) fun j => decide ((xu t).s = nm j) && kLocal sc (xu t).s) || (tg t 10 && Nat.ble 2 ts.length && tgts nm sc ts (xu t).l)
/-- a name that may be called while an exception is handled -/
noncomputable def qGlob (c : Ck) : PE → Bool
  | .glob i => c.qg i
  | _ => false
noncomputable def noKV : PKV → Bool
  | .nil => true
  | _ => false
noncomputable def dcO (a b : Operator) : Bool := decide (a = b)

/-- a global name -/
noncomputable def chkG (c : Ck) (sc : Sc) (i : Nat) (x : Str) : Bool := decide (x = c.nm i) && kGlob sc x && nDbg x
/-- a call of a global name with one thing -/
noncomputable def chk1 (c : Ck) (sc : Sc) (i : Nat) (e : Expr) (f : Expr → Bool) : Bool := tg e 14 && tg (xu e).a 2 && chkG c sc i (xu (xu e).a).s && (xu e).kw.isEmpty && on (one (xu e).l) f
mutual
noncomputable def chkE (c : Ck) (sc : Sc) : PE → Expr → Bool
  | .cst v, e => tg e 1 && chkC v (xu e).v
  | .loc i, e => tg e 2 && decide ((xu e).s = c.nm i) && kLoc sc (xu e).s && nDbg (xu e).s
  | .glob i, e => tg e 2 && decide ((xu e).s = c.nm i) && kGlob sc (xu e).s && nDbg (xu e).s
  | .attr o n, e => tg e 3 && chkE c sc o (xu e).a && decide ((xu e).s = c.nm n) && notSuper (xu e).a
  | .bin _ op l r, e => tg e 4 && decide ((xu e).o = opOf op) && chkE c sc l (xu e).a && chkE c sc r (xu e).b
  | .neg a, e => tg e 5 && decide ((xu e).u = .USub) && chkE c sc a (xu e).a
  | .not a, e => tg e 5 && decide ((xu e).u = .Not) && chkE c sc a (xu e).a
  | .cmp op l r, e => tg e 6 && on (one (xu e).cs) fun o => on (one (xu e).l) fun r' => decide (o = cmpOf op) && chkE c sc l (xu e).a && chkE c sc r r'
  | .cmp2 o₁ o₂ a b d, e => tg e 6 && on (x2 (xu e).cs) fun o => on (x2 (xu e).l) fun r => decide (o.1 = cmpOf o₁) && decide (o.2 = cmpOf o₂) && chkE c sc a (xu e).a && chkE c sc b r.1 && chkE c sc d r.2
  | .and es, e => tg e 7 && decide ((xu e).bo = .And) && chkEs c sc es (xu e).l
  | .or es, e => tg e 7 && decide ((xu e).bo = .Or) && chkEs c sc es (xu e).l
  | .ite d a b, e => tg e 8 && chkT c sc d (xu e).a && chkE c sc a (xu e).b && chkE c sc b (xu e).c
  | .list _ es, e => tg e 9 && chkEs c sc es (xu e).l
  | .tup es, e => tg e 10 && chkEs c sc es (xu e).l
  | .dict kvs, e => tg e 11 && noKV kvs && (xu e).os.isEmpty && (xu e).l.isEmpty
  | .idx a i, e => tg e 12 && chkE c sc a (xu e).a && chkE c sc i (xu e).b
  | .sl _ a lo hi, e => tg e 12 && tg (xu e).b 13 && chkE c sc a (xu e).a && chkO c sc lo (xu (xu e).b).o0 && chkO c sc hi (xu (xu e).b).o1 && x0 (xu (xu e).b).o2
  | .rev _ a, e => tg e 12 && tg (xu e).b 13 && chkE c sc a (xu e).a && x0 (xu (xu e).b).o0 && x0 (xu (xu e).b).o1 && on (xu (xu e).b).o2 isM1
  | .call _ f as, e => tg e 14 && tg (xu e).a 2 && chkE c sc f (xu e).a && chkEs c sc as (xu e).l && (xu e).kw.isEmpty && (sc.hd || qGlob c f)
  | .sortedRev _ i a, e => tg e 14 && tg (xu e).a 2 && (decide ((xu (xu e).a).s = c.nm i) && kGlob sc (xu (xu e).a).s && nDbg (xu (xu e).a).s) && (on (one (xu e).l) fun y => chkE c sc a y) && isRv (xu e).kw && sc.hd
  | .sortedU _ _ _ _ _, _ => false
  | .lenSet _, _ => false
  | .meth _ o n as, e => tg e 14 && tg (xu e).a 3 && chkE c sc o (xu (xu e).a).a && decide ((xu (xu e).a).s = c.nm n) && chkEs c sc as (xu e).l && (notSuper (xu (xu e).a).a && Nat.ble (xu e).l.length 20 && (xu e).kw.isEmpty && Nat.beq (xu (xu e).a).p.endLine (xu e).p.line && (sc.hd || Nat.beq n c.ap))
  | .comp _ elt ts it cond, e => tg e 15 && on (one (xu e).gs) fun g =>
      chkE c ⟨scOf (xu e), true⟩ elt (xu e).a && chkTgt c.nm ⟨scOf (xu e), true⟩ ts g.target && chkE c sc it g.iter && chkIf c ⟨scOf (xu e), true⟩ cond g.ifs && chkSc c.nm sc (scOf (xu e)) ts && (decide (g.is_async = 0) && sc.hd)
noncomputable def chkT (c : Ck) (sc : Sc) : PC → Expr → Bool
  | .not d, e => tg e 5 && decide ((xu e).u = .Not) && chkT c sc d (xu e).a
  | .and cs, e => tg e 7 && decide ((xu e).bo = .And) && chkTs c sc cs (xu e).l
  | .or cs, e => tg e 7 && decide ((xu e).bo = .Or) && chkTs c sc cs (xu e).l
  | .e a, e => plainTest e && chkE c sc a e
noncomputable def chkTs (c : Ck) (sc : Sc) : PCs → List Expr → Bool
  | .nil, l => l.isEmpty
  | .cons d r, l => on l.head? fun x => chkT c sc d x && chkTs c sc r l.tail
noncomputable def chkEs (c : Ck) (sc : Sc) : PEs → List Expr → Bool
  | .nil, l => l.isEmpty
  | .cons e r, l => on l.head? fun x => chkE c sc e x && chkEs c sc r l.tail
noncomputable def chkO (c : Ck) (sc : Sc) : PEo → Option Expr → Bool
  | .none, o => x0 o
  | .some e, o => on o fun x => chkE c sc e x
noncomputable def chkIf (c : Ck) (sc : Sc) : PCo → List Expr → Bool
  | .none, l => l.isEmpty
  | .some d, l => on (one l) fun x => chkT c sc d x
end
/-- only the kinds of expression that are told apart -/
theorem chk_tag {c : Ck} {sc : Sc} {p : PE} {e : Expr} (h : chkE c sc p e = true) : Nat.ble 1 (xu e).tag = true ∧ Nat.ble (xu e).tag 15 = true := by
  have k : ∀ n, tg e n = true → (Nat.ble 1 n && Nat.ble n 15) = true → Nat.ble 1 (xu e).tag = true ∧ Nat.ble (xu e).tag 15 = true := fun n h q => by
    rw [show (xu e).tag = n from Nat.eq_of_beq_eq_true h]; exact and2 q
  cases p with
  | cst _ => exact k 1 (and2 h).1 rfl
  | loc _ => exact and4_e h fun a _ _ _ => k 2 a rfl
  | glob _ => exact and4_e h fun a _ _ _ => k 2 a rfl
  | attr _ _ => exact and4_e h fun a _ _ _ => k 3 a rfl
  | bin _ _ _ _ => exact and4_e h fun a _ _ _ => k 4 a rfl
  | neg _ => exact and3_e h fun a _ _ => k 5 a rfl
  | not _ => exact and3_e h fun a _ _ => k 5 a rfl
  | cmp _ _ _ => exact k 6 (and2 h).1 rfl
  | cmp2 _ _ _ _ _ => exact k 6 (and2 h).1 rfl
  | and _ => exact and3_e h fun a _ _ => k 7 a rfl
  | or _ => exact and3_e h fun a _ _ => k 7 a rfl
  | ite _ _ _ => exact and4_e h fun a _ _ _ => k 8 a rfl
  | list _ _ => exact k 9 (and2 h).1 rfl
  | tup _ => exact k 10 (and2 h).1 rfl
  | dict _ => exact and4_e h fun a _ _ _ => k 11 a rfl
  | idx _ _ => exact and3_e h fun a _ _ => k 12 a rfl
  | sl _ _ _ _ => exact and6_e h fun a _ _ _ _ _ => k 12 a rfl
  | rev _ _ => exact and6_e h fun a _ _ _ _ _ => k 12 a rfl
  | call _ _ _ => exact and6_e h fun a _ _ _ _ _ => k 14 a rfl
  | sortedRev _ _ _ => exact and6_e h fun a _ _ _ _ _ => k 14 a rfl

  | meth _ _ _ _ => exact and6_e h fun a _ _ _ _ _ => k 14 a rfl
  | comp _ _ _ _ _ => exact k 15 (and2 h).1 rfl
  | _ => cases h

/-! statements -/
structure SU where
  tag : Nat
  a : Expr
  b : Expr
  l : List Expr
  o : Operator
  o0 : Option Expr
  o1 : Option Expr
  b0 : List Stmt
  b1 : List Stmt
  b2 : List Stmt
  hs : List ExceptHandler
  p : Pos
noncomputable def e0 : Expr := .Name Str.empty ⟨0, 0, 0, 0⟩
noncomputable def S0 (p : Pos) : SU := ⟨0, e0, e0, [], .Add, none, none, [], [], [], [], p⟩
noncomputable def su (s : Stmt) : SU := match s with
  | .Expr a p => { S0 p with tag := 1, a := a }
  | .Pass p => { S0 p with tag := 2 }
  | .Assign l a p => { S0 p with tag := 3, l := l, a := a }
  | .Return o p => { S0 p with tag := 4, o0 := o }
  | .If a b0 b1 p => { S0 p with tag := 5, a := a, b0 := b0, b1 := b1 }
  | .For a b b0 b1 p => { S0 p with tag := 6, a := a, b := b, b0 := b0, b1 := b1 }
  | .Raise o0 o1 p => { S0 p with tag := 7, o0 := o0, o1 := o1 }
  | .Try b0 hs b1 b2 p => { S0 p with tag := 8, b0 := b0, hs := hs, b1 := b1, b2 := b2 }
  | .AugAssign a o b p => { S0 p with tag := 9, a := a, o := o, b := b }
  | .While a b0 b1 p => { S0 p with tag := 10, a := a, b0 := b0, b1 := b1 }
  | _ => S0 ⟨0, 0, 0, 0⟩
noncomputable def sbacks (t : SU) : List Stmt := [.Pass t.p, .Expr t.a t.p, .Pass t.p, .Assign t.l t.a t.p, .Return t.o0 t.p, .If t.a t.b0 t.b1 t.p, .For t.a t.b t.b0 t.b1 t.p, .Raise t.o0 t.o1 t.p, .Try t.b0 t.hs t.b1 t.b2 t.p, .AugAssign t.a t.o t.b t.p, .While t.a t.b0 t.b1 t.p]
noncomputable def sback (t : SU) (n : Nat) : Stmt := (sbacks t)[n]?.getD (.Pass t.p)
theorem su_ok (s : Stmt) : Nat.ble 1 (su s).tag = true → s = sback (su s) (su s).tag := by
  cases s <;> first | exact fun _ => rfl | exact fun h => nomatch h
noncomputable def sg (s : Stmt) (n : Nat) : Bool := Nat.beq (su s).tag n
theorem su_is {s : Stmt} {n : Nat} (h : sg s n = true) (hn : Nat.ble 1 n = true) : s = sback (su s) n := by
  have h := Nat.eq_of_beq_eq_true h
  rw [← h] at hn
  exact (su_ok s hn).trans (by rw [h])
noncomputable def xHd : ExceptHandler → Option Expr × Option Str × List Stmt × Pos | .ExceptHandler a b c p => (a, b, c, p)
theorem xHd_ok (e : ExceptHandler) : e = .ExceptHandler (xHd e).1 (xHd e).2.1 (xHd e).2.2.1 (xHd e).2.2.2 := by cases e; rfl

/-- a name that may be stored -/
noncomputable def chkNm (c : Ck) (sc : Sc) (i : Nat) (e : Expr) : Bool := tg e 2 && decide ((xu e).s = c.nm i) && kStore sc (xu e).s
noncomputable def chkPT1 (c : Ck) (sc : Sc) : PT → Expr → Bool
  | .loc i, e => chkNm c sc i e
  | .attr o n, e => tg e 3 && decide ((xu e).s = c.nm n) && chkE c sc o (xu e).a
  | .idx o i, e => tg e 12 && chkE c sc o (xu e).a && chkE c sc i (xu e).b
  | .tup is, e => tg e 10 && Nat.ble 2 is.length && tgts c.nm sc is (xu e).l && sc.hd
/-- a tuple's names are stored out of no display, out of no comprehension -/
noncomputable def tupOk : PT → Expr → Bool
  | .tup _, x => !tg x 10 && Nat.ble (xu x).tag 14
  | _, _ => true
noncomputable def asOk (c : Ck) (sc : Sc) : Option Nat → Option Str → Bool
  | none, o => x0 o
  | some n, o => on o fun x => decide (x = c.nm n) && kLocal sc x
mutual
noncomputable def chkS (c : Ck) (sc : Sc) : PS → Stmt → Bool
  | .expr e, s => sg s 1 && chkE c sc e (su s).a && tg (su s).a 14
  | .pass, s => sg s 2
  | .assign t e, s => sg s 3 && on (one (su s).l) fun y => chkPT1 c sc t y && chkE c sc e (su s).a && tupOk t (su s).a
  | .augLoc i op e, s => sg s 9 && chkNm c sc i (su s).a && kLoc sc (xu (su s).a).s && nDbg (xu (su s).a).s && decide ((su s).o = opOf op) && chkE c sc e (su s).b
  | .augAttr o n op e, s => sg s 9 && tg (su s).a 3 && decide ((xu (su s).a).s = c.nm n) && decide ((su s).o = opOf op) && chkE c sc o (xu (su s).a).a && chkE c sc e (su s).b
  | .ret e, s => sg s 4 && chkO c sc e (su s).o0
  | .ite d a b, s => sg s 5 && chkT c sc d (su s).a && chkSs c sc a (su s).b0 && chkSs c sc b (su s).b1
  | .loop ts it body, s => sg s 6 && (on (one ts) fun j => chkNm c sc j (su s).a) && chkE c sc it (su s).b && chkSs c sc body (su s).b0 && (su s).b1.isEmpty && sc.hd
  | .loopEnum g i x it body, s => sg s 6 && (tg (su s).a 10 && tgts c.nm sc [i, x] (xu (su s).a).l) && chk1 c sc g (su s).b (fun y => chkE c sc it y) && chkSs c sc body (su s).b0 && (su s).b1.isEmpty && sc.hd
  | .while_ d body, s => sg s 10 && chkT c sc d (su s).a && chkSs c sc body (su s).b0 && (su s).b1.isEmpty
  | .raise i e, s => sg s 7 && on (su s).o0 fun x => tg x 14 && tg (xu x).a 2 && on (one (xu x).l) fun a => chkG c sc i (xu (xu x).a).s && chkE c sc e a && (xu x).kw.isEmpty && x0 (su s).o1 && sc.hd
  | .try_ body i as h, s => sg s 8 && on (one (su s).hs) fun g => on (xHd g).1 fun x => tg x 2 && on (xHd g).2.2.1.head? fun _ => chkG c sc i (xu x).s && chkSs c sc body (su s).b0 && chkSs c ⟨sc.sc, false⟩ h (xHd g).2.2.1 && asOk c sc as (xHd g).2.1 && ((su s).b1.isEmpty && (su s).b2.isEmpty) && sc.hd
noncomputable def chkSs (c : Ck) (sc : Sc) : PSs → List Stmt → Bool
  | .nil, l => l.isEmpty
  | .cons s r, l => on l.head? fun x => chkS c sc s x && chkSs c sc r l.tail
end
end Mine

end

section
set_option autoImplicit false
set_option linter.all false
set_option genSizeOf false
set_option genInjectivity false
namespace Mine
open PySem PySem.W PySem.Calls PyProof.Rows

/-- room for n more calls -/
structure AOk (A : Around) (n : Nat) : Prop where
  depth : A.depth + 4 * n + 4 < recursionLimit
  units : A.units + 20 * n + 100 < cLine
/-- the same for a body that calls -/
structure AOk2 (A : Around) (n : Nat) : Prop where
  depth : A.depth + 4 * n + 6 < recursionLimit
  units : A.units + 20 * n + 110 < cLine
theorem AOk2.room {A : Around} {n : Nat} (h : AOk2 A n) : Room A := by have := h.units; unfold Room; omega
theorem AOk2.call {A : Around} {n : Nat} (h : AOk2 A n) : AOk A n := ⟨by have := h.depth; omega, by have := h.units; omega⟩

structure EnvOk (X : Cx) (A : Around) (env : Env) (Pv : Pr) (n : Nat) (sc : Sc) : Prop where
  stk : A.frames = some Pv.st
  top : env.func ≠ none → env.frame ≠ none ∧ ∃ outer, Pv.st = env :: outer
  ok : AOk2 A n
  hh : sc.hd = true → A.handled = none
  kind : env.scope.kind = .function
  glob : env.globals = mainGlobals
  bi : env.builtins = builtinsNs
  names : ∀ x k, sc.sc.names.lookup x = some k → env.kindOf x = some k ∨ (k = .free ∧ env.kindOf x = some .cell)
  cl : ∀ x, env.kindOf x = some .cell ∨ env.kindOf x = some .free → ∃ c, env.cells.lookup x = some c

/-- what the looks are told -/
noncomputable def Cx.ck (X : Cx) : Ck := ⟨X.nm, X.qg, X.P.nAppend⟩

/-- a def of the text's stands in the base heap -/
structure FnAt (X : Cx) (q : Bool) (fn : Fn) (a : Addr) (o : Obj) (fd : FuncData) (body : List Stmt) : Prop where
  at_ : X.hb.get? a = some o
  data : o.data = .func fd
  code : X.hb.CodeRec fd.code fd.qualname
  body_ : fd.body = .stmts body
  bind : ∀ vs : List Value, vs.length = fn.params.length → bindArgs fd ⟨vs, []⟩ = pure ((fn.params.map X.nm).zip vs)
  clo : fd.closure = []
  co : fd.scope.isCoroutine = false
  gen : fd.scope.isGenerator = false
  kind : fd.scope.kind = .function
  glob : fd.globals = mainGlobals
  bi : fd.builtins = builtinsNs
  par : ∀ i ∈ fn.params, kStore ⟨fd.scope, true⟩ (X.nm i) = true
  free : ∀ x ∈ fd.scope.names, x.2 ≠ .free
  chk : chkSs X.ck ⟨fd.scope, true⟩ fn.body body = true
  chkq : q = true → chkSs X.ck ⟨fd.scope, false⟩ fn.body body = true
inductive FnIn (X : Cx) (q : Bool) (fn : Fn) (a : Addr) : Prop
  | mk (o : Obj) (fd : FuncData) (body : List Stmt) (h : FnAt X q fn a o fd body)
inductive FnOb (X : Cx) (a : Addr) : Prop
  | mk (o : Obj) (fd : FuncData) (h : X.hb.get? a = some o) (hd : o.data = .func fd)

/-- the built-in part of the exceptions' line -/
abbrev excB : List Value := [.type "ValueError", .type "Exception", .type "BaseException", .type "object"]
/-- a class of exceptions of the text's -/
inductive ExAt (X : Cx) (j : Nat) (c : Addr) : Prop
  | mk (bm : List Value) (N : Addr) (nm : _) (q : _) (bs : _) (hdct : _) (sn : _) (sub : _) (ab : _) (col : _) (dd : _) (k0 k1 k2 k3 k5 : _) (mN : Str → Option Value) (h1 : X.hb.get? c = some (excClassObj nm q c N bs bm hdct sn sub ab col dd k0 k1 k2 k3 k5 "ValueError.__new__")) (h2 : X.hb.Ns N mN) (h3 : mN "__init__" = none) (h4 : OwnTail X.hb excB bm)
    (h5 : ∀ k ck, X.clA k = some ck → (Value.ref c :: bm).contains (.ref ck) = X.P.sub j k)

/-- a global name's value -/
inductive GlAt (X : Cx) (i : Nat) (v : V) : Prop
  | main (cv : Value) (mg : Str → Option Value) (ng : X.hb.Ns mainGlobals mg) (h : mg (X.nm i) = some cv) (r : ∀ W, VR X W cv v)
  | bi (cv : Value) (mg mb : Str → Option Value) (ng : X.hb.Ns mainGlobals mg) (nb : X.hb.Ns builtinsNs mb) (h : mg (X.nm i) = none) (hb : mb (X.nm i) = some cv) (r : ∀ W, VR X W cv v)
/-- what may be called while an exception is handled -/
inductive Qt (X : Cx) : V → Prop
  | fn {k : Nat} (h : X.quiet k = true) : Qt X (.fn k)
  | len : Qt X (.bt .len)
  | isi : Qt X (.bt .isinstance)

/-- what stands fast -/
structure CxOk (X : Cx) : Prop where
  inj : ∀ i j, X.nm i = X.nm j → i = j
  dot : ∀ i, X.nm i ≠ (".0" : Str)
  noLim : X.hb.NoLimit
  glob : ∀ i v, X.P.glob i = some v → GlAt X i v
  nAppend : X.nm X.P.nAppend = Str.ofString "append"
  nPop : X.nm X.P.nPop = Str.ofString "pop"
  nExtend : X.nm X.P.nExtend = Str.ofString "extend"
  nGet : X.nm X.P.nGet = Str.ofString "get"
  nSetdefault : X.nm X.P.nSetdefault = Str.ofString "setdefault"
  fnAt : ∀ k a, X.fnA k = some a → FnOb X a
  fn : ∀ k a d, X.fnA k = some a → X.P.fn k = some d → FnIn X (X.quiet k) d a
  qg : ∀ i v, X.qg i = true → X.P.glob i = some v → Qt X v
  exc : ∀ k c, X.clA k = some c → X.P.exc k = true → ExAt X k c
  apC : ∀ k cl, X.P.cls k = some cl → lk cl.meths X.P.nAppend = none
  isi : ∃ K, IsiK X K
  main : ∃ o, X.hb.get? mainGlobals = some o

inductive COk (X : Cx) (W : Wd) (H : Hp) (s : Shared) (Q : V → Hp → Prop) (v : Value) (s' : Shared) : Prop
  | mk (W' : Wd) (H' : Hp) (av : V) (t : Tc X W H s W' H' s') (r : VR X W' v av) (h : Q av H')
inductive CEr (X : Cx) (W : Wd) (H : Hp) (s : Shared) (E : Nat → Hp → Prop) (e : Value) (s' : Shared) : Prop
  | mk (W' : Wd) (H' : Hp) (i : Nat) (l : Addr × Addr) (k : Nat) (t : Tc X W H s W' H' s') (he : e = .ref l.1) (hl : W'.φ i = some l) (hk : H'.get i = some (.exc k)) (hf : Fly W' H' s.heap s'.heap l.1) (h : E i H')
noncomputable def CPost (X : Cx) (W : Wd) (H : Hp) (s : Shared) (Q : V → Hp → Prop) (E : Nat → Hp → Prop) (r : Result) (s' : Shared) : Prop := match r with
  | .ok (.ret v) => COk X W H s Q v s'
  | .ok _ => False
  | .error e => CEr X W H s E e s'
/-- the frames around -/
noncomputable def FrsAt (A : Around) (W : Wd) (H : Hp) (h : Heap) : Prop := ∃ l, A.frames = some l ∧ ∀ e ∈ l, FrAt W H h e
noncomputable def CallM (X : Cx) (n : Nat) : Prop := ∀ (A : Around) (k : Nat) (a : Addr) (as : List V) (vs : List Value) (W : Wd) (H : Hp) (s : Shared) (Q : V → Hp → Prop) (E : Nat → Hp → Prop),
  AOk A n → (A.handled = none ∨ X.quiet k = true) → FrsAt A W H s.heap → RelH X W H s.heap → VRs X W vs as → X.fnA k = some a → CW X.P n k as H Q E → codeAny (model X.prog X.w) A (.call (.ref a) ⟨vs, []⟩) (CPost X W H s Q E) s

theorem vNone {v : V} (h : isNone v = true) : v = .none := by cases v <;> first | rfl | cases h
theorem vBool {v : V} {b : Bool} (h : aBool v = some b) : v = .bool b := by cases v <;> first | (cases h; rfl) | cases h
theorem vInt {v : V} {b : Int} (h : aInt v = some b) : v = .int b := by cases v <;> first | (cases h; rfl) | cases h
theorem vStr {v : V} {b : Str} (h : aStr v = some b) : v = .str b := by cases v <;> first | (cases h; rfl) | cases h

section
variable {X : Cx} {n : Nat} {sc : Sc}

noncomputable def SE (X : Cx) (n : Nat) (sc : Sc) (p : PE) (e : Expr) : Prop := ∀ (A : Around) (env : Env) (Pv : Pr) (W : Wd) (σ : St) (s : Shared) (Q : V → St → Prop) (E : EP),
  EnvOk X A env Pv n sc → At X env Pv W σ s → wpE X.P (CW X.P n) E p σ Q → Ew X A env Pv (eval e env) W σ s (VQ X Q) E
noncomputable def BQ (Q : Bool → St → Prop) (b : Bool) (_ : Wd) (σ : St) (_ : Shared) : Prop := Q b σ
noncomputable def ST (X : Cx) (n : Nat) (sc : Sc) (p : PC) (e : Expr) : Prop := ∀ (A : Around) (env : Env) (Pv : Pr) (W : Wd) (σ : St) (s : Shared) (Q : Bool → St → Prop) (E : EP),
  EnvOk X A env Pv n sc → At X env Pv W σ s → wpT X.P (CW X.P n) E p σ Q → Ew X A env Pv (isTrue e env (eval e env)) W σ s (BQ Q) E
inductive VsQ (X : Cx) (Q : List V → St → Prop) (vs : List Value) (W' : Wd) (σ' : St) (s' : Shared) : Prop
  | mk (avs : List V) (r : VRs X W' vs avs) (h : Q avs σ')
noncomputable def SEs (X : Cx) (n : Nat) (sc : Sc) (p : PEs) (es : List Expr) : Prop := ∀ (A : Around) (env : Env) (Pv : Pr) (W : Wd) (σ : St) (s : Shared) (Q : List V → St → Prop) (E : EP),
  EnvOk X A env Pv n sc → At X env Pv W σ s → wpEs X.P (CW X.P n) E p σ Q → Ew X A env Pv (spliced (es.map fun e => (false, eval e env))) W σ s (VsQ X Q) E

section
variable {A : Around} {env : Env} {Pv : Pr} {W : Wd} {σ : St} {s : Shared} {E : EP}

/-- only tokens were drawn -/
theorem At.toks {tk : Nat} (at_ : At X env Pv W σ s) : At X env Pv W σ { s with toks := tk } := ⟨at_.rel, at_.fr⟩
theorem At.tf {tk : Nat} (at_ : At X env Pv W σ s) : Tf X env Pv W σ s W σ { s with toks := tk } := ⟨.refl, at_.toks, ⟨rfl, rfl, rfl⟩⟩
theorem At.fin {α : Type} {R : α → Wd → St → Shared → Prop} {v : α} {tk : Nat} (at_ : At X env Pv W σ s) (h : R v W σ { s with toks := tk }) : Go X env Pv W σ s R v { s with toks := tk } := ⟨W, σ, at_.tf, h⟩
theorem At.val {Q : V → St → Prop} {v : Value} {x : V} {tk : Nat} (at_ : At X env Pv W σ s) (r : VR X W v x) (h : Q x σ) : Go X env Pv W σ s (VQ X Q) v { s with toks := tk } := at_.fin ⟨x, r, h⟩
theorem At.bl {Q : Bool → St → Prop} {b : Bool} {tk : Nat} (at_ : At X env Pv W σ s) (h : Q b σ) : Go X env Pv W σ s (BQ Q) b { s with toks := tk } := at_.fin (R := BQ Q) h
/-- an operation's answer -/
theorem At.op {fz : Bool} {Q : V → St → Prop} (at_ : At X env Pv W σ s) : OpQ X fz W σ.H s (give fz σ Q) (Go X env Pv W σ s (VQ X Q)) where
  sz := fun _ h => h.1
  out := fun r v' s' W' H' T q g => by
    have t := T.tf at_
    cases r with
    | val x => obtain ⟨a, rfl⟩ := q; exact ⟨_, _, t, x, a, g⟩
    | newList xs => cases fz <;> (obtain ⟨a, rfl⟩ := q; exact ⟨_, _, t, _, a, g.2⟩)
theorem VQ.e {Q : V → St → Prop} {v : Value} {G : Prop} (q : VQ X Q v W σ s) (g : ∀ x, VR X W v x → Q x σ → G) : G := by obtain ⟨x, r, h⟩ := q; exact g x r h
theorem VsQ.e {Q : List V → St → Prop} {v : List Value} {G : Prop} (q : VsQ X Q v W σ s) (g : ∀ x, VRs X W v x → Q x σ → G) : G := by obtain ⟨x, r, h⟩ := q; exact g x r h
theorem Go.e {α : Type} {R : α → Wd → St → Shared → Prop} {a : α} {s' : Shared} {G : Prop} (q : Go X env Pv W σ s R a s') (g : ∀ W' σ', Tf X env Pv W σ s W' σ' s' → R a W' σ' s' → G) : G := by obtain ⟨W', σ', t, r⟩ := q; exact g W' σ' t r

theorem SE.bind {β : Type} {p : PE} {e : Expr} {Q : V → St → Prop} {f : Value → Sem β} {R : β → Wd → St → Shared → Prop} (he : SE X n sc p e) (ok : EnvOk X A env Pv n sc) (at_ : At X env Pv W σ s) (hw : wpE X.P (CW X.P n) E p σ Q)
    (g : ∀ v W₁ σ₁ s₁ x, At X env Pv W₁ σ₁ s₁ → Wd.Le W W₁ → VR X W₁ v x → Q x σ₁ → Ew X A env Pv (f v) W₁ σ₁ s₁ R E) : Ew X A env Pv (eval e env >>= f) W σ s R E :=
  Ew.bindT ((he A env Pv W σ s _ E ok at_ hw).mono fun v W₁ σ₁ s₁ _ q at₁ le => q.e fun x r h => g v W₁ σ₁ s₁ x at₁ le r h)
theorem SE.hold {β : Type} {p : PE} {e : Expr} {Q : V → St → Prop} {f : Value → Sem β} {vs : List Value} {R : β → Wd → St → Shared → Prop} (he : SE X n sc p e) (ok : EnvOk X A env Pv n sc) (at_ : At X env Pv W σ s) (hw : wpE X.P (CW X.P n) E p σ Q)
    (g : ∀ v W₁ σ₁ s₁ x, At X env Pv W₁ σ₁ s₁ → Wd.Le W W₁ → VR X W₁ v x → Q x σ₁ → Ew X A env Pv (f v) W₁ σ₁ s₁ R E) : Ew X A env Pv (holding vs (eval e env) >>= f) W σ s R E :=
  Ew.bindT (Ew.holding ((he A env Pv W σ s _ E ok at_ hw).mono fun v W₁ σ₁ s₁ _ q at₁ le => q.e fun x r h => g v W₁ σ₁ s₁ x at₁ le r h))
/-- one after the other -/
theorem SE.two {β : Type} {l r : PE} {l' r' : Expr} {Q : V → V → St → Prop} {f : Value → Value → Sem β} {R : β → Wd → St → Shared → Prop} (hl : SE X n sc l l') (hr : SE X n sc r r') (ok : EnvOk X A env Pv n sc) (at_ : At X env Pv W σ s) (hw : wpE X.P (CW X.P n) E l σ fun x σ₁ => wpE X.P (CW X.P n) E r σ₁ (Q x))
    (g : ∀ a b W₁ σ₁ s₁ x y, At X env Pv W₁ σ₁ s₁ → VR X W₁ a x → VR X W₁ b y → Q x y σ₁ → Ew X A env Pv (f a b) W₁ σ₁ s₁ R E) : Ew X A env Pv (eval l' env >>= fun a => holding [a] (eval r' env) >>= f a) W σ s R E :=
  hl.bind ok at_ hw fun a W₁ σ₁ s₁ x at₁ le hx h₁ => hr.hold ok at₁ h₁ fun b W₂ σ₂ s₂ y at₂ le₂ hy h₂ => g a b W₂ σ₂ s₂ x y at₂ (hx.le le₂) hy h₂

theorem bk (K : CxOk X) (R : RelH X W σ.H s.heap) {a : Addr} {m : Str → Option Value} (h : X.hb.Ns a m) : s.heap.Ns a m := h.keeps R.bkeep

theorem snd_cst {v : V} {c : Const} {k : Nat} {pos : Pos} (hc : chkC v c = true) : SE X n sc (.cst v) (.Constant c k pos) := by
  intro A env Pv W σ s Q E ok at_ h
  show wpAny _ A (constValue env c) _ _ s
  cases c with
  | none => cases vNone hc; exact wpAny_pure (at_.val (tk := s.toks) .none h)
  | bool b => exact on_e (o := aBool v) (f := fun c => c == b) hc fun c e q => by cases vBool e; cases beq_iff_eq.mp q; exact wpAny_pure (at_.val (tk := s.toks) (.bool _) h)
  | int i => exact on_e (o := aInt v) (f := fun c => decide (c = i)) hc fun c e q => by cases vInt e; cases of_decide_eq_true q; exact wpAny_mkInt (at_.val (.int _ _) h)
  | str t => exact on_e (o := aStr v) (f := fun c => decide (c = t) && PyData.strOk t && decide (t.length ≤ SZ)) hc fun c e q => and3_e q fun q1 q2 q3 => by cases vStr e; cases of_decide_eq_true q1; exact wpAny_mkText (at_.val (.str _ _ q2 (of_decide_eq_true q3)) h)
  | _ => cases hc

theorem load_loc {i : Nat} {v : V} {Ex : Value → Shared → Prop} {Q : Value → Shared → Prop} (ok : EnvOk X A env Pv n sc) (at_ : At X env Pv W σ s) (hk : kLoc sc (X.nm i) = true) (hd : nDbg (X.nm i) = true) (ev : σ.loc i = some v)
    (fin : ∀ cv, VR X W cv v → Q cv s) : wpAny (model X.prog X.w) A (loadName env (X.nm i)) Q Ex s := by
  have hd := (and2 hd).2
  have cellc : env.kindOf (X.nm i) = some .cell → wpAny (model X.prog X.w) A (loadName env (X.nm i)) Q Ex s := fun q => by
    obtain ⟨c, cv, a, b, r⟩ := at_.fr.cells i v ev (.inl q)
    exact wpAny_loadName_cell ok.kind q a b (fin cv r)
  have key : ∀ k, sc.sc.names.lookup (X.nm i) = some k → nkNo k ≠ 0 → nkNo k ≠ 4 → wpAny (model X.prog X.w) A (loadName env (X.nm i)) Q Ex s := fun k e h0 h4 => by
    rcases ok.names _ _ e with q | ⟨_, q⟩
    · cases k with
      | «local» =>
        obtain ⟨m, hn, hm⟩ := at_.fr.ns
        obtain ⟨cv, hcv, r⟩ := hm i v ev q
        exact wpAny_loadName_local ok.kind q hn hcv (fin cv r)
      | cell => exact cellc q
      | free =>
        obtain ⟨c, cv, a, b, r⟩ := at_.fr.cells i v ev (.inr q)
        exact wpAny_loadName_free ok.kind q a b (fin cv r) (Bool.not_eq_true' _ ▸ hd)
      | globalExplicit => exact absurd rfl h0
      | globalImplicit => exact absurd rfl h4
    · exact cellc q
  exact and_e hk fun h1 h2 => by
    have h1 := Nat.le_of_ble_eq_true h1
    have h2 := Nat.le_of_ble_eq_true h2
    cases q : sc.sc.names.lookup (X.nm i) with
    | none => have e : knd sc (X.nm i) = 0 := by unfold knd; rw [q]
              rw [e] at h1; exact absurd h1 (by decide)
    | some k => have e : knd sc (X.nm i) = nkNo k := by unfold knd; rw [q]
                rw [e] at h1 h2
                exact key k q (fun z => by rw [z] at h1; exact absurd h1 (by decide)) fun z => by rw [z] at h2; exact absurd h2 (by decide)
theorem dbg_no {x : Str} (h : nDbg x = true) : (x == ("__debug__" : Str)) = false := Bool.not_eq_true' _ ▸ (and2 h).1
theorem snd_loc {i : Nat} {x : Str} {pos : Pos} (hx : x = X.nm i) (hk : kLoc sc x = true) (hd : nDbg x = true) : SE X n sc (.loc i) (.Name x pos) := by
  intro A env Pv W σ s Q E ok at_ h
  subst hx
  exact need_e h fun v ev hq => wpAny_Name (load_loc ok at_ hk hd ev fun cv r => at_.val (tk := s.toks) r hq) (dbg_no hd)

theorem load_glob (K : CxOk X) {i : Nat} {x : Str} {pos : Pos} {v : V} {Ex : Value → Shared → Prop} {Q : Value → Shared → Prop} (ok : EnvOk X A env Pv n sc) (at_ : At X env Pv W σ s) (hx : x = X.nm i) (hk : kGlob sc x = true) (hd : nDbg x = true) (ev : X.P.glob i = some v)
    (fin : ∀ cv, (∀ W, VR X W cv v) → Q cv s) : wpAny (model X.prog X.w) A (eval (.Name x pos) env) Q Ex s := by
  subst hx
  refine wpAny_Name ?_ (dbg_no hd)
  have e := knd_of (Nat.eq_of_beq_eq_true hk) (by decide)
  have q : env.kindOf (X.nm i) = some .globalImplicit := (ok.names _ _ e).elim id fun z => nomatch z.1
  rw [loadName_read ok.kind q]
  cases K.glob i v ev with
  | main cv mg ng hv r => exact loadGlobal_global (by rw [ok.glob]; exact bk K at_.rel ng) hv (fin cv r)
  | bi cv mg mb ng nb hv hb r => exact loadGlobal_builtin (by rw [ok.glob]; exact bk K at_.rel ng) hv (by rw [ok.bi]; exact bk K at_.rel nb) hb (fin cv r)
theorem snd_glob (K : CxOk X) {i : Nat} {x : Str} {pos : Pos} (hx : x = X.nm i) (hk : kGlob sc x = true) (hd : nDbg x = true) : SE X n sc (.glob i) (.Name x pos) :=
  fun A env Pv W σ s Q E ok at_ h => need_e h fun v ev hq => load_glob K ok at_ hx hk hd ev fun cv r => at_.val (tk := s.toks) (r W) hq

theorem wpAny_op {M : Model} {A : Around} {Ex : Value → Shared → Prop} {vs : List Value} {m : Sem Value} {Q : Value → Shared → Prop} (h : wpAny M A m Q Ex s) : wpAny M A (operate vs m) Q Ex s := by
  intro Γ p hΓ
  rw [Sem.wp_operate]; exact h Γ p hΓ
theorem snd_bin {fz : Bool} {op : BOp} {l r : PE} {l' r' : Expr} {pos : Pos} (hl : SE X n sc l l') (hr : SE X n sc r r') : SE X n sc (.bin fz op l r) (.BinOp l' (opOf op) r' pos) := by
  intro A env Pv W σ s Q E ok at_ h
  rw [eval_BinOp]
  exact hl.two hr ok at_ h fun a b W₁ σ₁ s₁ x y at₁ hx hy h₁ => Ew.standAt (Ew.operate (need_e h₁ fun x' ex h₁ => need_e h₁ fun y' ey h₁ => bin_ok at₁.op at₁.rel (see_ok at₁.rel hx ex) (see_ok at₁.rel hy ey) h₁))
theorem aInt_of {v : Value} {x : V} {i : Int} (r : VR X W v x) (e : aInt x = some i) {G : Prop} (g : ∀ t, v = .int i t → G) : G := by
  cases vInt e; cases r with | int i t => exact g t rfl
theorem snd_neg {e : PE} {x : Expr} {pos : Pos} (he : SE X n sc e x) : SE X n sc (.neg e) (.UnaryOp .USub x pos) := fun A env Pv W σ s Q E ok at_ h =>
  he.bind (f := fun v => do standAt pos; holding [v] (unaryOp .USub v)) ok at_ h fun a W₁ σ₁ s₁ y at₁ _ hy h₁ => need_e h₁ fun i ei h₁ => aInt_of hy ei fun t q => by
    subst q; exact Ew.standAt (Ew.holding (neg_int (at₁.val (.int _ _) h₁)))
theorem snd_not {e : PE} {x : Expr} {pos : Pos} (he : SE X n sc e x) : SE X n sc (.not e) (.UnaryOp .Not x pos) := fun A env Pv W σ s Q E ok at_ h =>
  he.bind (f := fun v => do standAt pos; holding [v] (unaryOp .Not v)) ok at_ h fun a W₁ σ₁ s₁ y at₁ _ hy h₁ =>
    Ew.standAt (Ew.holding (not_of (truth_ok (y := y) at₁.rel hy h₁ fun b tk q => at₁.val (.bool _) q)))

/-! comparisons -/
theorem marks_of {op : CmpOp} {e : Expr} (h : Nat.ble (xu e).tag 15 = true) : behindInMarks op e = false := by
  cases e <;> first | rfl | cases h
theorem At.cmp {op : COp} {a b : Value} {x y : V} {k : Bool → Prop} {Q : Value → Shared → Prop} {Ex : Value → Shared → Prop} (at_ : At X env Pv W σ s) (ok : EnvOk X A env Pv n sc) (hx : VR X W a x) (hy : VR X W b y) (h : cmpK σ.H op x y k) (g : ∀ c tk, k c → Q (.bool c) { s with toks := tk }) : wpAny (model X.prog X.w) A (compareOp (cmpOf op) a b) Q Ex s :=
  cmp_ok at_.rel ok.ok.room hx hy g h
theorem snd_cmp {op : COp} {l r : PE} {l' r' : Expr} {pos : Pos} (hl : SE X n sc l l') (hr : SE X n sc r r') (hs : Nat.ble (xu r').tag 15 = true) : SE X n sc (.cmp op l r) (.Compare l' [cmpOf op] [r'] pos) := by
  intro A env Pv W σ s Q E ok at_ h
  rw [eval_Compare1, markedBehindIn_of_false (marks_of hs)]
  exact hl.two hr ok at_ h fun a b W₁ σ₁ s₁ x y at₁ hx hy h₁ => Ew.standAt (Ew.operate (at₁.cmp ok hx hy h₁ fun c tk q => at₁.val (.bool _) q))
theorem snd_cmpT {op : COp} {l r : PE} {l' r' : Expr} {pos : Pos} (hl : SE X n sc l l') (hr : SE X n sc r r') (hs : Nat.ble (xu r').tag 15 = true) : ST X n sc (.e (.cmp op l r)) (.Compare l' [cmpOf op] [r'] pos) := by
  intro A env Pv W σ s Q E ok at_ h
  rw [isTrue_Compare1, markedBehindIn_of_false (marks_of hs)]
  exact hl.two hr ok at_ h fun a b W₁ σ₁ s₁ x y at₁ hx hy h₁ => Ew.standAt (wpAny_bind (wpAny_op (at₁.cmp ok hx hy h₁ fun c tk q => wpAny_holding (wpAny_truthy_bool (at₁.bl q)))))

theorem wpAny_release {M : Model} {A : Around} {E : Value → Shared → Prop} {s : Shared} {vs ks : List Value} {Q : Unit → Shared → Prop} (h : Q () s) : wpAny M A (release vs ks) Q E s := by
  intro Γ p hΓ
  rw [Sem.wp_release]; exact h
/-- the first of two comparisons, then what stands behind it -/
theorem SE.chain {β : Type} {o : COp} {l r : PE} {l' r' : Expr} {pos : Pos} {Q : V → Bool → St → Prop} {f : Value → Sem β} {g : Value → Sem β} {R : β → Wd → St → Shared → Prop} (hl : SE X n sc l l') (hr : SE X n sc r r') (ok : EnvOk X A env Pv n sc) (at_ : At X env Pv W σ s)
    (hw : wpE X.P (CW X.P n) E l σ fun x σ₁ => wpE X.P (CW X.P n) E r σ₁ fun y σ₂ => cmpK σ₂.H o x y fun c => Q y c σ₂)
    (h1 : ∀ b W₁ σ₁ s₁ y, At X env Pv W₁ σ₁ s₁ → VR X W₁ b y → Q y true σ₁ → Ew X A env Pv (f b) W₁ σ₁ s₁ R E) (h2 : ∀ W₁ σ₁ s₁ y, At X env Pv W₁ σ₁ s₁ → Q y false σ₁ → Ew X A env Pv (g (.bool false)) W₁ σ₁ s₁ R E) :
    Ew X A env Pv (eval l' env >>= fun left => holding [left] (eval r' env) >>= fun rv => standAt pos >>= fun _ => holding [left, rv] (compareOp (cmpOf o) left rv) >>= fun c₁ => release [left, rv] [c₁] >>= fun _ => holding [c₁, rv] (truthy c₁) >>= fun t => if t = true then f rv else g c₁) W σ s R E :=
  hl.two hr ok at_ hw fun a b W₁ σ₁ s₁ x y at₁ hx hy h₁ => Ew.standAt (wpAny_bind (wpAny_holding (at₁.cmp ok hx hy h₁ fun c tk q => wpAny_bind (wpAny_release (wpAny_bind (wpAny_holding (wpAny_truthy_bool (Ew.from at₁.tf (by
    cases c with
    | true => exact h1 b W₁ σ₁ _ y at₁.toks hy q
    | false => exact h2 W₁ σ₁ _ y at₁.toks q)))))))))

theorem eval_Compare2 (env : Env) (l : Expr) (o₁ o₂ : CmpOp) (b c : Expr) (pos : Pos) (hc : behindInMarks o₂ c = false) : eval (.Compare l [o₁, o₂] [b, c] pos) env = (eval l env >>= fun left => holding [left] (eval b env) >>= fun rv => standAt pos >>= fun _ => holding [left, rv] (compareOp o₁ left rv) >>= fun c₁ => release [left, rv] [c₁] >>= fun _ => holding [c₁, rv] (truthy c₁) >>= fun t => if t = true then
      (do
      let rw ← holding [rv] (eval c env)
      standAt pos
      operate [rv, rw] (compareOp o₂ rv rw)) else pure c₁) := by
  have : eval (.Compare l [o₁, o₂] [b, c] pos) env = (do compareChain pos (← eval l env) [o₁, o₂] [eval b env, markedBehindIn o₂ c (eval c env)]) := rfl
  rw [this, markedBehindIn_of_false hc]
  rfl
theorem isTrue_Compare2 (env : Env) (l : Expr) (o₁ o₂ : CmpOp) (b c : Expr) (pos : Pos) (t : Sem Value) (hc : behindInMarks o₂ c = false) : isTrue (.Compare l [o₁, o₂] [b, c] pos) env t = (eval l env >>= fun left => holding [left] (eval b env) >>= fun rv => standAt pos >>= fun _ => holding [left, rv] (compareOp o₁ left rv) >>= fun c₁ => release [left, rv] [c₁] >>= fun _ => holding [c₁, rv] (truthy c₁) >>= fun t => if t = true then
      (do
      let rw ← holding [rv] (eval c env)
      standAt pos
      let c₂ ← operate [rv, rw] (compareOp o₂ rv rw)
      holding [c₂] (truthy c₂)) else (fun _ => pure false) c₁) := by
  have : isTrue (.Compare l [o₁, o₂] [b, c] pos) env t = (do testChain pos (← eval l env) [o₁, o₂] [eval b env, markedBehindIn o₂ c (eval c env)]) := rfl
  rw [this, markedBehindIn_of_false hc]
  rfl
theorem snd_cmp2 {o₁ o₂ : COp} {a b c : PE} {a' b' c' : Expr} {pos : Pos} (ha : SE X n sc a a') (hb : SE X n sc b b') (hc : SE X n sc c c') (hs : Nat.ble (xu c').tag 15 = true) : SE X n sc (.cmp2 o₁ o₂ a b c) (.Compare a' [cmpOf o₁, cmpOf o₂] [b', c'] pos) := by
  intro A env Pv W σ s Q E ok at_ h
  rw [eval_Compare2 _ _ _ _ _ _ _ (marks_of hs)]
  exact ha.chain hb ok at_ h (fun v W₁ σ₁ s₁ y at₁ hy q => hc.hold ok at₁ q fun w W₂ σ₂ s₂ z at₂ le hz q => Ew.standAt (Ew.operate (at₂.cmp ok (hy.le le) hz q fun c tk q => at₂.val (.bool _) q))) fun W₁ σ₁ s₁ y at₁ q => Ew.pure at₁ ⟨_, .bool _, q⟩
theorem snd_cmp2T {o₁ o₂ : COp} {a b c : PE} {a' b' c' : Expr} {pos : Pos} (ha : SE X n sc a a') (hb : SE X n sc b b') (hc : SE X n sc c c') (hs : Nat.ble (xu c').tag 15 = true) : ST X n sc (.e (.cmp2 o₁ o₂ a b c)) (.Compare a' [cmpOf o₁, cmpOf o₂] [b', c'] pos) := by
  intro A env Pv W σ s Q E ok at_ h
  rw [isTrue_Compare2 _ _ _ _ _ _ _ _ (marks_of hs)]
  exact ha.chain hb ok at_ h (fun v W₁ σ₁ s₁ y at₁ hy q => hc.hold ok at₁ q fun w W₂ σ₂ s₂ z at₂ le hz q => Ew.standAt (wpAny_bind (wpAny_op (at₂.cmp ok (hy.le le) hz q fun c tk q => wpAny_holding (wpAny_truthy_bool (at₂.bl q)))))) fun W₁ σ₁ s₁ y at₁ q => Ew.pure (R := BQ Q) at₁ q
end
end
end Mine

end

section
set_option autoImplicit false
set_option linter.all false
set_option genSizeOf false
set_option genInjectivity false
namespace Mine
open PySem PySem.W PySem.Calls PyProof.Rows

section
variable {X : Cx} {n : Nat} {sc : Sc}

/-- a test that is any other expression -/
theorem isTrue_plain' {e : Expr} {env : Env} {t : Sem Value} (h : plainTest e = true) (h6 : tg e 6 = false) :
    isTrue e env t = (do let v ← t; standAt e.pos; holding [v] (truthy v)) := by
  cases e with
  | UnaryOp op x p =>
    cases op with
    | Not => cases h
    | _ => rfl
  | Compare _ _ _ _ => cases h6
  | BoolOp _ _ _ => cases h
  | IfExp _ _ _ _ => cases h
  | _ => rfl
theorem snd_T {e : PE} {x : Expr} (he : SE X n sc e x) (h : plainTest x = true) (h6 : tg x 6 = false) : ST X n sc (.e e) x := by
  intro A env Pv W σ s Q E ok at_ hw
  rw [isTrue_plain' h h6]
  exact he.bind ok at_ hw fun a W₁ σ₁ s₁ y at₁ _ hy h₁ => Ew.standAt (Ew.holding (truth_ok (y := y) at₁.rel hy h₁ fun b tk q => at₁.bl q))
theorem ST.bind {β : Type} {A : Around} {env : Env} {Pv : Pr} {W : Wd} {σ : St} {s : Shared} {E : EP} {p : PC} {e : Expr} {Q : Bool → St → Prop} {f : Bool → Sem β} {R : β → Wd → St → Shared → Prop} (he : ST X n sc p e) (ok : EnvOk X A env Pv n sc) (at_ : At X env Pv W σ s) (hw : wpT X.P (CW X.P n) E p σ Q)
    (g : ∀ b W₁ σ₁ s₁, At X env Pv W₁ σ₁ s₁ → Q b σ₁ → Ew X A env Pv (f b) W₁ σ₁ s₁ R E) : Ew X A env Pv (isTrue e env (eval e env) >>= f) W σ s R E :=
  Ew.bindT ((he A env Pv W σ s _ E ok at_ hw).mono fun v W₁ σ₁ s₁ _ q at₁ le => g v W₁ σ₁ s₁ at₁ q)
theorem snd_notT {c : PC} {x : Expr} {pos : Pos} (hc : ST X n sc c x) : ST X n sc (.not c) (.UnaryOp .Not x pos) := fun A env Pv W σ s Q E ok at_ h =>
  hc.bind (f := fun b => pure (!b)) ok at_ h fun b W₁ σ₁ s₁ at₁ h₁ => Ew.pure (R := BQ Q) at₁ h₁

noncomputable def SAll (X : Cx) (n : Nat) (sc : Sc) (p : PCs) (es : List Expr) : Prop := ∀ (A : Around) (env : Env) (Pv : Pr) (W : Wd) (σ : St) (s : Shared) (Q : Bool → St → Prop) (E : EP),
  EnvOk X A env Pv n sc → At X env Pv W σ s → (wpAllT X.P (CW X.P n) E p σ Q → Ew X A env Pv (allTrue .And es env) W σ s (BQ Q) E) ∧ (wpAnyT X.P (CW X.P n) E p σ Q → Ew X A env Pv (allTrue .Or es env) W σ s (BQ Q) E)
theorem snd_all_nil : SAll X n sc .nil [] := fun A env Pv W σ s Q E ok at_ => ⟨fun h => Ew.pure (R := BQ Q) at_ h, fun h => Ew.pure (R := BQ Q) at_ h⟩
theorem snd_all_cons {c : PC} {r : PCs} {x : Expr} {xs : List Expr} (hc : ST X n sc c x) (hr : SAll X n sc r xs) : SAll X n sc (.cons c r) (x :: xs) := fun A env Pv W σ s Q E ok at_ =>
  ⟨fun h => hc.bind (f := fun b => match BoolOp.And, b with | .And, false => pure false | .Or, true => pure true | _, _ => allTrue .And xs env) ok at_ h fun b W₁ σ₁ s₁ at₁ h₁ => by
    cases b with
    | false => exact Ew.pure (R := BQ Q) at₁ h₁
    | true => exact (hr A env Pv W₁ σ₁ s₁ Q E ok at₁).1 h₁,
  fun h => hc.bind (f := fun b => match BoolOp.Or, b with | .And, false => pure false | .Or, true => pure true | _, _ => allTrue .Or xs env) ok at_ h fun b W₁ σ₁ s₁ at₁ h₁ => by
    cases b with
    | true => exact Ew.pure (R := BQ Q) at₁ h₁
    | false => exact (hr A env Pv W₁ σ₁ s₁ Q E ok at₁).2 h₁⟩
theorem snd_andT {cs : PCs} {xs : List Expr} {pos : Pos} (h : SAll X n sc cs xs) : ST X n sc (.and cs) (.BoolOp .And xs pos) := fun A env Pv W σ s Q E ok at_ hw => (h A env Pv W σ s Q E ok at_).1 hw
theorem snd_orT {cs : PCs} {xs : List Expr} {pos : Pos} (h : SAll X n sc cs xs) : ST X n sc (.or cs) (.BoolOp .Or xs pos) := fun A env Pv W σ s Q E ok at_ hw => (h A env Pv W σ s Q E ok at_).2 hw

/-- and, or as values -/
noncomputable def SBool (X : Cx) (n : Nat) (sc : Sc) (p : PEs) (es : List Expr) : Prop := ∀ (A : Around) (env : Env) (Pv : Pr) (W : Wd) (σ : St) (s : Shared) (Q : V → St → Prop) (E : EP) (pos : Pos),
  EnvOk X A env Pv n sc → At X env Pv W σ s → (wpAnd X.P (CW X.P n) E p σ Q → Ew X A env Pv (boolOp pos .And (evalEach es env)) W σ s (VQ X Q) E) ∧
    (wpOr X.P (CW X.P n) E p σ Q → Ew X A env Pv (boolOp pos .Or (evalEach es env)) W σ s (VQ X Q) E)
theorem snd_bool_nil {es : List Expr} : SBool X n sc .nil es := fun A env Pv W σ s Q E pos ok at_ => ⟨fun h => h.elim, fun h => h.elim⟩
theorem snd_bool_one {e : PE} {x : Expr} (he : SE X n sc e x) : SBool X n sc (.cons e .nil) [x] := fun A env Pv W σ s Q E pos ok at_ => ⟨fun h => he A env Pv W σ s Q E ok at_ h, fun h => he A env Pv W σ s Q E ok at_ h⟩
theorem snd_bool_cons {e f : PE} {r : PEs} {x y : Expr} {xs : List Expr} (he : SE X n sc e x) (hr : SBool X n sc (.cons f r) (y :: xs)) : SBool X n sc (.cons e (.cons f r)) (x :: y :: xs) := fun A env Pv W σ s Q E pos ok at_ =>
  ⟨fun h => he.bind (f := fun v => standAt pos >>= fun _ => holding [v] (truthy v) >>= fun t => match BoolOp.And, t with
      | .And, false | .Or, true => pure v
      | _, _ => boolOp pos .And (evalEach (y :: xs) env)) ok at_ h fun v W₁ σ₁ s₁ z at₁ _ hz h₁ => Ew.standAt (wpAny_bind (wpAny_holding (truth_ok (y := z) at₁.rel hz h₁ fun b tk q => Ew.from at₁.tf (by
    cases b with
    | false => exact Ew.pure at₁.toks ⟨z, hz, q⟩
    | true => exact (hr A env Pv W₁ σ₁ _ Q E pos ok at₁.toks).1 q)))),
  fun h => he.bind (f := fun v => standAt pos >>= fun _ => holding [v] (truthy v) >>= fun t => match BoolOp.Or, t with
      | .And, false | .Or, true => pure v
      | _, _ => boolOp pos .Or (evalEach (y :: xs) env)) ok at_ h fun v W₁ σ₁ s₁ z at₁ _ hz h₁ => Ew.standAt (wpAny_bind (wpAny_holding (truth_ok (y := z) at₁.rel hz h₁ fun b tk q => Ew.from at₁.tf (by
    cases b with
    | true => exact Ew.pure at₁.toks ⟨z, hz, q⟩
    | false => exact (hr A env Pv W₁ σ₁ _ Q E pos ok at₁.toks).2 q))))⟩

theorem snd_ite {t : PC} {a b : PE} {t' a' b' : Expr} {pos : Pos} (ht : ST X n sc t t') (ha : SE X n sc a a') (hb : SE X n sc b b') : SE X n sc (.ite t a b) (.IfExp t' a' b' pos) := fun A env Pv W σ s Q E ok at_ h =>
  ht.bind (f := fun c => if c = true then eval a' env else eval b' env) ok at_ h fun c W₁ σ₁ s₁ at₁ h₁ => by
    cases c with
    | true => exact ha A env Pv W₁ σ₁ s₁ Q E ok at₁ h₁
    | false => exact hb A env Pv W₁ σ₁ s₁ Q E ok at₁ h₁

theorem snd_es_nil : SEs X n sc .nil [] := fun A env Pv W σ s Q E ok at_ h => spliced_nil ⟨W, σ, .refl at_, [], .nil, h⟩
theorem snd_es_cons {e : PE} {r : PEs} {x : Expr} {xs : List Expr} (he : SE X n sc e x) (hr : SEs X n sc r xs) : SEs X n sc (.cons e r) (x :: xs) := fun A env Pv W σ s Q E ok at_ h =>
  spliced_cons (wpAny_mono (he A env Pv W σ s _ E ok at_ h) (fun v s₁ q => q.e fun W₁ σ₁ T q => q.e fun z hz h₁ =>
    wpAny_mono (hr A env Pv W₁ σ₁ s₁ _ E ok T.at_ h₁) (fun vs s₂ q => q.e fun W₂ σ₂ T₂ q => q.e fun zs hzs h₂ => ⟨W₂, σ₂, T.trans T₂, z :: zs, .cons (hz.le T₂.stp.le) hzs, h₂⟩) fun _ _ x => x.back T) fun _ _ x => x)

theorem star_one {x : Expr} {env : Env} {xs : List Expr} (h : Nat.ble 1 (xu x).tag = true) : starEach (x :: xs) env = (false, eval x env) :: starEach xs env := by
  cases x <;> first | rfl | cases h
theorem star_plain {c : Ck} {env : Env} {p : PEs} : ∀ {es : List Expr}, chkEs c sc p es = true → starEach es env = es.map fun e => (false, eval e env) :=
  PEs.rec (motive_1 := fun _ => True) (motive_2 := fun p => ∀ {es : List Expr}, chkEs c sc p es = true → starEach es env = es.map fun e => (false, eval e env)) (motive_3 := fun _ => True) (motive_4 := fun _ => True) (motive_5 := fun _ => True) (motive_6 := fun _ => True) (motive_7 := fun _ => True)
    (fun _ => trivial) (fun _ => trivial) (fun _ => trivial) (fun _ _ _ => trivial) (fun _ _ _ _ _ _ => trivial) (fun _ _ => trivial) (fun _ _ => trivial) (fun _ _ _ _ _ => trivial) (fun _ _ _ _ _ _ _ _ => trivial) (fun _ _ => trivial) (fun _ _ => trivial) (fun _ _ _ _ _ _ => trivial) (fun _ _ _ => trivial) (fun _ _ => trivial) (fun _ _ => trivial) (fun _ _ _ _ => trivial) (fun _ _ _ _ _ _ _ => trivial) (fun _ _ _ => trivial) (fun _ _ _ _ _ => trivial) (fun _ _ _ _ => trivial) (fun _ _ _ _ _ _ _ => trivial) (fun _ _ => trivial) (fun _ _ _ _ _ _ => trivial) (fun _ _ _ _ _ _ _ _ => trivial)
    (fun h => by rw [empty_ok h]; rfl)
    (fun e r _ ih es h => on_e h fun x hx h => and_e h fun h1 h2 => by rw [head_ok hx, star_one (chk_tag h1).1, ih h2, List.map_cons])
    trivial (fun _ _ => trivial) trivial (fun _ _ _ _ _ _ => trivial) (fun _ _ => trivial) (fun _ _ => trivial) (fun _ _ => trivial) (fun _ _ => trivial) trivial (fun _ _ _ _ => trivial) trivial (fun _ _ => trivial) p
theorem back_plain {c : Ck} {env : Env} {pos : Pos} {p : PEs} {es : List Expr} (h : chkEs c sc p es = true) : backTo pos (starEach es env) = es.map fun e => (false, eval e env) := by
  rw [star_plain h]
  unfold backTo
  rw [List.map_map]
  rfl

theorem SEs.bind {β : Type} {A : Around} {env : Env} {Pv : Pr} {W : Wd} {σ : St} {s : Shared} {E : EP} {p : PEs} {es : List Expr} {Q : List V → St → Prop} {f : List Value → Sem β} {R : β → Wd → St → Shared → Prop} (he : SEs X n sc p es) (ok : EnvOk X A env Pv n sc) (at_ : At X env Pv W σ s) (hw : wpEs X.P (CW X.P n) E p σ Q)
    (g : ∀ v W₁ σ₁ s₁ x, At X env Pv W₁ σ₁ s₁ → VRs X W₁ v x → Q x σ₁ → Ew X A env Pv (f v) W₁ σ₁ s₁ R E) : Ew X A env Pv (spliced (es.map fun e => (false, eval e env)) >>= f) W σ s R E :=
  Ew.bindT ((he A env Pv W σ s _ E ok at_ hw).mono fun v W₁ σ₁ s₁ _ q at₁ le => q.e fun x r h => g v W₁ σ₁ s₁ x at₁ r h)
theorem size_ok {W : Wd} {vs : List Value} {xs : List V} (hv : VRs X W vs xs) (hz : xs.length ≤ SZ) : vs.toArray.size ≤ sizeLine := by rw [List.size_toArray, hv.length]; exact szLine hz
theorem snd_list {fz : Bool} {c : Ck} {es : PEs} {xs : List Expr} {pos : Pos} (he : SEs X n sc es xs) (hc : chkEs c sc es xs = true) : SE X n sc (.list fz es) (.List xs pos) := by
  intro A env Pv W σ s Q E ok at_ h
  show Ew X A env Pv (standAt pos >>= fun _ => spliced (backTo pos (starEach xs env)) >>= fun vs => newList vs) W σ s _ E
  rw [back_plain hc]
  exact Ew.standAt (he.bind ok at_ h fun vs W₁ σ₁ s₁ zs at₁ hzs h₁ => wpAny_newObj_type (at₁.op.push (n := 0) (vs := vs.toArray) (tk := s₁.toks) at₁.rel hzs h₁) (size_ok hzs h₁.1))
theorem snd_tup {c : Ck} {es : PEs} {xs : List Expr} {k : Nat} {pos : Pos} (he : SEs X n sc es xs) (hc : chkEs c sc es xs = true) : SE X n sc (.tup es) (.Tuple xs k pos) := by
  intro A env Pv W σ s Q E ok at_ h
  show Ew X A env Pv (standAt pos >>= fun _ => spliced (backTo pos (starEach xs env)) >>= fun vs => newTuple vs) W σ s _ E
  rw [back_plain hc]
  exact Ew.standAt (he.bind ok at_ h fun vs W₁ σ₁ s₁ zs at₁ hzs h₁ => wpAny_newObj_type ((at₁.op (fz := true)).fro (x := .tup zs) (ob := tupO vs.toArray 0) (tk := s₁.toks) at₁.rel (fun _ _ e => Heap.get?_push_of_some _ e) (push_none _) (Heap.get?_push_size _ rfl) (.tup addZ_self (hzs.le (at₁.rel.leZ (push_none _))) h₁.1) h₁.2) (size_ok hzs h₁.1))

theorem not_sys (K : CxOk X) {W : Wd} {H : Hp} {s : Shared} (R : RelH X W H s.heap) : (s.heap.objs.size == sysModules) = false := by
  obtain ⟨o, e⟩ := K.main
  have lt : mainGlobals < s.heap.objs.size := Heap.lt_size (R.bkeep _ _ e)
  exact beq_eq_false_iff_ne.mpr fun z => absurd (z ▸ lt : mainGlobals < sysModules) (by decide)
theorem snd_dict0 (K : CxOk X) {pos : Pos} : SE X n sc (.dict .nil) (.Dict [] [] pos) := by
  intro A env Pv W σ s Q E ok at_ h
  rw [eval_Dict_empty]
  refine Ew.standAt (wpAny_newObj_type ?_)
  have hn := push_none s.heap
  obtain ⟨r, t⟩ := at_.rel.fresh (h' := s.heap.push (dictO #[] 0)) (l := (s.heap.objs.size, s.heap.objs.size)) (c := .dict []) (fun _ _ e => Heap.get?_push_of_some _ e) hn hn ⟨[], Heap.DictOf.new s.heap, .nil, rfl, not_sys K at_.rel, Nat.zero_le _⟩
  have T : Tc X W σ.H s _ (σ.H.new (.dict [])) { s with heap := s.heap.push (dictO #[] 0) } := ⟨t, r, ⟨rfl, rfl, rfl⟩⟩
  exact ⟨_, ⟨_, σ.loc⟩, T.tf at_, _, VR.ref (l := (s.heap.objs.size, s.heap.objs.size)) addφ_self, h.2.2⟩

theorem snd_idx {e i : PE} {v x : Expr} {pos : Pos} (he : SE X n sc e v) (hi : SE X n sc i x) : SE X n sc (.idx e i) (.Subscript v x pos) := by
  intro A env Pv W σ s Q E ok at_ h
  rw [eval_Subscript]
  exact he.two hi ok at_ h fun a b W₁ σ₁ s₁ y z at₁ hy hz h₁ => Ew.standAt (idx_ok (fun v r tk q h => at₁.val q h) at₁.rel hy hz h₁)

inductive OQ (X : Cx) (Q : Option V → St → Prop) (v : Value) (W' : Wd) (σ' : St) (s' : Shared) : Prop
  | mk (o : Option V) (r : VR X W' v (o.getD .none)) (h : Q o σ')
noncomputable def SO (X : Cx) (n : Nat) (sc : Sc) (p : PEo) (e : Option Expr) : Prop := ∀ (A : Around) (env : Env) (Pv : Pr) (W : Wd) (σ : St) (s : Shared) (Q : Option V → St → Prop) (E : EP),
  EnvOk X A env Pv n sc → At X env Pv W σ s → wpO X.P (CW X.P n) E p σ Q → Ew X A env Pv (valueOrNone (evalOpt e env)) W σ s (OQ X Q) E
theorem snd_o_none : SO X n sc .none none := fun A env Pv W σ s Q E ok at_ h => Ew.pure at_ ⟨none, .none, h⟩
theorem snd_o_some {e : PE} {x : Expr} (he : SE X n sc e x) : SO X n sc (.some e) (some x) := fun A env Pv W σ s Q E ok at_ h =>
  (he A env Pv W σ s _ E ok at_ h).mono fun v W₁ σ₁ s₁ _ q => q.e fun z hz h₁ => ⟨some z, hz, h₁⟩
theorem OQ.e {Q : Option V → St → Prop} {v : Value} {W : Wd} {σ : St} {s : Shared} {G : Prop} (q : OQ X Q v W σ s) (g : ∀ x, VR X W v (x.getD .none) → Q x σ → G) : G := by obtain ⟨x, r, h⟩ := q; exact g x r h
/-- a slice's bound: an optional expression, seen from where the whole began -/
theorem SO.then {β : Type} {A : Around} {env : Env} {Pv : Pr} {W₀ W : Wd} {σ₀ σ : St} {s₀ s : Shared} {E : EP} {p : PEo} {e : Option Expr} {Q : Option V → St → Prop} {f : Value → Sem β} {vs : List Value} {Ro : β → Shared → Prop} (he : SO X n sc p e) (ok : EnvOk X A env Pv n sc) (T₀ : Tf X env Pv W₀ σ₀ s₀ W σ s) (hw : wpO X.P (CW X.P n) E p σ Q)
    (g : ∀ v W₁ σ₁ s₁ o, Tf X env Pv W₀ σ₀ s₀ W₁ σ₁ s₁ → Wd.Le W W₁ → VR X W₁ v (o.getD .none) → Q o σ₁ → wpAny (model X.prog X.w) A (f v) Ro (EX X env Pv W₀ σ₀ s₀ E) s₁) : wpAny (model X.prog X.w) A (holding vs (valueOrNone (evalOpt e env)) >>= f) Ro (EX X env Pv W₀ σ₀ s₀ E) s :=
  wpAny_bind (wpAny_holding (wpAny_mono (he A env Pv W σ s _ E ok T₀.at_ hw) (fun v s₁ q => q.e fun W₁ σ₁ T q => q.e fun o r h => g v W₁ σ₁ s₁ o (T₀.trans T) T.stp.le r h) fun _ _ x => x.back T₀))
/-- seen from before -/
theorem OpQ.from {A : Around} {env : Env} {Pv : Pr} {W₀ W : Wd} {σ₀ σ : St} {s₀ s : Shared} {fz : Bool} {Q : V → St → Prop} (T : Tf X env Pv W₀ σ₀ s₀ W σ s) : OpQ X fz W σ.H s (give fz σ Q) (Go X env Pv W₀ σ₀ s₀ (VQ X Q)) where
  sz := fun _ h => h.1
  out := fun r v' s' W' H' t q g => ((T.at_.op (fz := fz)).out r v' s' W' H' t q g).e fun W₂ σ₂ T₂ q => ⟨W₂, σ₂, T.trans T₂, q⟩
theorem snd_sl {fz : Bool} {e : PE} {lo hi : PEo} {v : Expr} {l u : Option Expr} {p pos : Pos} (he : SE X n sc e v) (hl : SO X n sc lo l) (hu : SO X n sc hi u) : SE X n sc (.sl fz e lo hi) (.Subscript v (.Slice l u none p) pos) := by
  intro A env Pv W σ s Q E ok at_ h
  rw [eval_Subscript]
  refine he.bind ok at_ h fun a W₁ σ₁ s₁ y at₁ _ hy h₁ => ?_
  show wpAny _ A (holding [a] (valueOrNone (evalOpt l env) >>= fun l => holding [l] (valueOrNone (evalOpt u env)) >>= fun u => holding [l, u] (valueOrNone (evalOpt none env)) >>= fun s => newFields "slice" [l, u, s]) >>= fun i => standAt pos >>= fun _ => subscriptTail v (.Slice l u none p) a i) _ _ s₁
  refine wpAny_bind (wpAny_holding (wpAny_bind (wpAny_mono (hl A env Pv W₁ σ₁ s₁ _ E ok at₁ h₁) (fun b s₂ q => q.e fun W₂ σ₂ T₂ q => q.e fun o₂ hb h₂ => ?_) fun _ _ x => x)))
  refine hu.then ok T₂ h₂ fun c W₃ σ₃ s₃ o₃ T₃ le₃ hc h₃ => wpAny_bind (wpAny_holding (wpAny_pure ?_))
  exact need_e h₃ fun i₁ e₁ h₄ => need_e h₄ fun i₂ e₂ h₅ => need_e h₅ fun x ex hr => wpAny_mono (sl_ok (value := v) (slice := .Slice l u none p) (OpQ.from (A := A) T₃) T₃.at_.rel (see_ok T₃.at_.rel (hy.le T₃.stp.le) ex) (part_of (hb.le le₃) e₁) (part_of hc e₂) hr)
    (fun i s' h' => wpAny_bind (wpAny_standAt h')) fun _ _ x => x
theorem snd_rev {fz : Bool} {e : PE} {v : Expr} {k : Nat} {p q r pos : Pos} (he : SE X n sc e v) : SE X n sc (.rev fz e) (.Subscript v (.Slice none none (some (.UnaryOp .USub (.Constant (.int 1) k p) q)) r) pos) := by
  intro A env Pv W σ s Q E ok at_ h
  rw [eval_Subscript]
  refine he.bind ok at_ h fun a W₁ σ₁ s₁ y at₁ _ hy h₁ => ?_
  show wpAny _ A (holding [a] (valueOrNone (evalOpt none env) >>= fun l => holding [l] (valueOrNone (evalOpt none env)) >>= fun u => holding [l, u] ((mkInt 1 : Sem Value) >>= fun v => standAt q >>= fun _ => holding [v] (unaryOp .USub v)) >>= fun s => newFields "slice" [l, u, s]) >>= fun i => standAt pos >>= fun _ => subscriptTail v (.Slice none none (some (.UnaryOp .USub (.Constant (.int 1) k p) q)) r) a i) _ _ s₁
  refine wpAny_bind (wpAny_holding (wpAny_bind (wpAny_pure (wpAny_bind (wpAny_holding (wpAny_pure (wpAny_bind (wpAny_holding (wpAny_bind (wpAny_mkInt (wpAny_bind (wpAny_standAt (wpAny_holding (neg_int ?_))))))))))))))
  exact need_e h₁ fun x ex h₁ => need_e h₁ fun xs hx hg => wpAny_mono (rev_ok (value := v) (slice := .Slice none none (some (.UnaryOp .USub (.Constant (.int 1) k p) q)) r) (OpQ.from (A := A) (at₁.tf (tk := s₁.toks + 1 + 1))) at₁.rel ((see_ok at₁.rel hy ex).toLst hx) hg)
    (fun i s' h' => wpAny_bind (wpAny_standAt h')) fun _ _ x => x
end
end Mine

end

section
set_option autoImplicit false
set_option linter.all false
set_option genSizeOf false
set_option genInjectivity false
namespace Mine
open PySem PySem.W PySem.Calls PyProof.Rows

section
variable {X : Cx} {n : Nat} {sc : Sc}

theorem evalArgs_all {M : Model} {A : Around} {E : Value → Shared → Prop} {s : Shared} {f : Value} {ts : List (Bool × Sem Value)} {Q : Args → Shared → Prop} (hp : ∀ t ∈ ts, t.1 = false)
    (h : wpAny M A (spliced ts) (fun vs s' => Q ⟨vs, []⟩ s') E s) : wpAny M A (evalArgs f true ts []) Q E s := by
  cases ts with
  | nil => exact wpAny_bind (wpAny_mono h (fun vs s' h' => wpAny_bind (wpAny_pure (wpAny_holding (wpAny_bind (wpAny_pure (wpAny_bind (wpAny_pure (wpAny_pure h'))))))))  fun _ _ x => x)
  | cons t r =>
    obtain ⟨b, x⟩ := t
    cases (hp (b, x) (.head _) : b = false)
    exact evalArgs_plain h

/-- a frozen answer -/
theorem giveV_ok {fz : Bool} {σ : St} {Q : V → St → Prop} {v : Value} {av : V} {W : Wd} {s : Shared} (R : RelH X W σ.H s.heap) (hv : VR X W v av) (g : giveV fz σ Q av) {G : Prop}
    (k : ∀ W' H' av', Tc X W σ.H s W' H' s → VR X W' v av' → Q av' ⟨H', σ.loc⟩ → G) : G := by
  have no : Q av σ → G := fun g => k W σ.H av (.refl R) hv g
  refine Br_e g (fun _ g => ?_) fun _ g => no g
  cases q : aRef av with
  | none => rw [q] at g; exact no g
  | some i =>
    rw [q] at g
    have g : (match cL (σ.H.get i) with | some xs => Q (.lst xs) (σ.setH (σ.H.del i)) | none => Q av σ) := g
    cases q2 : cL (σ.H.get i) with
    | none => rw [q2] at g; exact no g
    | some xs =>
      rw [q2] at g
      refine aRef_e hv q fun l e hl _ => ?_
      obtain ⟨o, r, t, z⟩ := R.freeze (cL_e q2) hl
      exact k _ _ _ ⟨t, r, .refl _⟩ (e ▸ z) g

theorem plain_any {env : Env} {vs : List Expr} : ((vs.map fun e => ((false : Bool), eval e env)).any (·.1)) = false := by
  induction vs with
  | nil => rfl
  | cons x r ih => exact ih
theorem plain_all {env : Env} {vs : List Expr} : ∀ t ∈ (vs.map fun e => ((false : Bool), eval e env)), t.1 = false := fun t ht =>
  (List.mem_map.mp ht).elim fun e q => q.2 ▸ rfl

/-- the arguments, then the call -/
theorem args_then {A : Around} {env : Env} {Pv : Pr} {W : Wd} {σ : St} {s : Shared} {E : EP} {as : PEs} {vs : List Expr} {f : Value} {Qv : List V → St → Prop} {Q : Args → Shared → Prop} (has : SEs X n sc as vs) (ok : EnvOk X A env Pv n sc) (at_ : At X env Pv W σ s) (h : wpEs X.P (CW X.P n) E as σ Qv)
    (hq : ∀ cvs avs W' σ' s', Tf X env Pv W σ s W' σ' s' → VRs X W' cvs avs → Qv avs σ' → Q ⟨cvs, []⟩ s') :
    wpAny (model X.prog X.w) A (evalArgs f true (vs.map fun e => (false, eval e env)) []) Q (EX X env Pv W σ s E) s :=
  evalArgs_all plain_all (wpAny_mono (has A env Pv W σ s _ E ok at_ h) (fun cvs s' q => q.e fun W' σ' T q => q.e fun avs hv h => hq cvs avs W' σ' s' T hv h) fun _ _ x => x)

theorem Go.from {α : Type} {env : Env} {Pv : Pr} {W W' : Wd} {σ σ' : St} {s s' s'' : Shared} {R : α → Wd → St → Shared → Prop} {a : α} (T : Tf X env Pv W σ s W' σ' s') (q : Go X env Pv W' σ' s' R a s'') : Go X env Pv W σ s R a s'' := q.e fun W₂ σ₂ T₂ r => ⟨W₂, σ₂, T.trans T₂, r⟩
/-- a call of a def of the text's -/
theorem fn_call (hK : CallM X n) {A : Around} {env : Env} {Pv : Pr} {W W₀ : Wd} {σ σ₀ : St} {s s₀ : Shared} {E : EP} {fz : Bool} {k : Nat} {a : Addr} {cvs : List Value} {avs : List V} {Q : V → St → Prop} (T₀ : Tf X env Pv W₀ σ₀ s₀ W σ s) (ok : AOk A n) (hq : A.handled = none ∨ X.quiet k = true) (hst : A.frames = some Pv.st) (hv : VRs X W cvs avs) (ha : X.fnA k = some a)
    (h : CW X.P n k avs σ.H (fun v H => giveV fz (σ.setH H) Q v) (fun e H => E e (σ.setH H))) :
    wpAny (model X.prog X.w) A (call (.ref a) cvs []) (Go X env Pv W₀ σ₀ s₀ (VQ X Q)) (EX X env Pv W₀ σ₀ s₀ E) s := by
  refine wpAny_call (codeAny_mono (hK A k a avs cvs W σ.H s _ _ ok hq ⟨_, hst, T₀.at_.fr.frs⟩ T₀.at_.rel hv ha h) fun r s' hr => ?_)
  cases r with
  | ok fl =>
    cases fl with
    | ret v =>
      obtain ⟨W', H', av, T, hv', g⟩ := hr
      exact giveV_ok (σ := σ.setH H') T.rel hv' g fun W₂ H₂ av₂ T₂ hv₂ hq => ⟨W₂, ⟨H₂, σ.loc⟩, T₀.trans ((T.trans T₂).tf T₀.at_), av₂, hv₂, hq⟩
    | _ => exact hr.elim
  | error e =>
    obtain ⟨W', H', i, l, k, T, he, hl, hg, hf, hE⟩ := hr
    exact EX.back T₀ ⟨W', ⟨H', σ.loc⟩, i, l, k, T.tf T₀.at_, he, hl, hg, hf, hE⟩

inductive BvC (b : B) : Prop
  | ty (T : String) (e : bval b = .type T)
  | fn (id : String) (e : bval b = .builtin id)
theorem bval_cases (b : B) : BvC b := by
  cases b <;> first | exact .ty _ rfl | exact .fn _ rfl

theorem callW_fail {A : Around} {M : Model} {E : Value → Shared → Prop} {s : Shared} {pos : Pos} {f : Value} {first : List Value} {args : List (Bool × Sem Value)} {Q : Value → Shared → Prop} (h : wpAny M A (evalArgs f true args []) (fun _ _ => False) E s) :
    wpAny M A (callWith pos f first args []) Q E s := by
  unfold callWith
  exact wpAny_bind (wpAny_holding (wpAny_mono h (fun _ _ h₁ => h₁.elim) fun _ _ x => x))

theorem eval_Call_Name (x : Str) (p : Pos) (args : List Expr) (pos : Pos) (env : Env) : eval (.Call (.Name x p) args [] pos) env = (eval (.Name x p) env >>= fun f => callWith pos f [] (backTo pos (starEach args env)) []) := rfl

/-- what may be called -/
theorem callee_e {W : Wd} {cf : Value} {g : V} {P : Prog} {K : CT} {E : EP} {fz : Bool} {Q : V → St → Prop} {G : Prop} (hg : VR X W cf g) (hb : ∀ b, g = .bt b → cf = bval b → G) (hf : ∀ k a, g = .fn k → cf = .ref a → X.fnA k = some a → G) (hc : ∀ k a, g = .cls k → cf = .ref a → X.clA k = some a → G)
    (no : (∀ σ as, callF P K E fz σ g as Q → False) → G) : G := by
  cases hg with
  | bt b => exact hb b rfl rfl
  | fn ha => exact hf _ _ rfl rfl ha
  | cls ha => exact hc _ _ rfl rfl ha
  | _ => exact no fun _ _ q => q
/-- may be called now -/
noncomputable def MayQ (X : Cx) (A : Around) (g : V) : Prop := A.handled = none ∨ Qt X g
theorem MayQ.bt {A : Around} {b : B} (h : MayQ X A (.bt b)) : quietB A b := by
  cases h with
  | inl q => exact .inl q
  | inr q => cases q with
    | len => exact .inr (.inl rfl)
    | isi => exact .inr (.inr rfl)
theorem MayQ.fn {A : Around} {k : Nat} (h : MayQ X A (.fn k)) : A.handled = none ∨ X.quiet k = true := h.imp id fun q => by cases q; assumption

theorem call_rest (K : CxOk X) (hK : CallM X n) {A : Around} {env : Env} {Pv : Pr} {W : Wd} {σ : St} {s : Shared} {E : EP} {Q : V → St → Prop} {fz : Bool} {as : PEs} {vs : List Expr} {pos : Pos} {cf : Value} {g : V} (ok : EnvOk X A env Pv n sc) (at₁ : At X env Pv W σ s) (has : SEs X n sc as vs) (hg : VR X W cf g) (hq : MayQ X A g)
    (h₁ : wpEs X.P (CW X.P n) E as σ fun vs σ₂ => callF X.P (CW X.P n) E fz σ₂ g vs Q)
    (hcls : ∀ k a, g = .cls k → cf = .ref a → X.clA k = some a → Ew X A env Pv (callWith pos cf [] (vs.map fun e => (false, eval e env)) []) W σ s (VQ X Q) E) : Ew X A env Pv (callWith pos cf [] (vs.map fun e => (false, eval e env)) []) W σ s (VQ X Q) E := by
  refine callee_e (P := X.P) (K := CW X.P n) (E := E) (fz := fz) (Q := Q) hg (fun b e e' => ?_) (fun k a e e' ha => ?_) hcls fun hb => callW_fail (args_then has ok at₁ h₁ fun cvs avs W' σ' s' T hv hq => hb _ _ hq)
  · subst e e'
    have key : ∀ cvs avs W' σ' s', Tf X env Pv W σ s W' σ' s' → VRs X W' cvs avs → callF X.P (CW X.P n) E fz σ' (.bt b) avs Q →
        wpAny (model X.prog X.w) A (call (bval b) cvs []) (Go X env Pv W σ s (VQ X Q)) (EX X env Pv W σ s E) s' := fun cvs avs W' σ' s' T hv hq' =>
      K.isi.elim fun _ I => callB_ok (OpQ.from (A := A) T) I hq.bt T.at_.rel hv hq'
    cases bval_cases b with
    | ty T e => rw [e] at key ⊢; exact PyProof.Rows.callWith_type plain_any (args_then has ok at₁ h₁ key)
    | fn id e => rw [e] at key ⊢; exact callWith_builtin plain_any (args_then has ok at₁ h₁ key)
  · subst e e'
    obtain ⟨o, fd, ho, hd⟩ := K.fnAt _ _ ha
    exact callWith_function (o := o) (fd := fd) (args_then has ok at₁ h₁ fun cvs avs W' σ' s' T hv hq' => ⟨⟨T.at_.rel.bkeep _ _ ho, hd⟩, fn_call hK T ok.ok.call hq.fn ok.stk hv ha hq'⟩)
/-- what may be called, when the callee has been looked up -/
theorem call_head (K : CxOk X) {fz : Bool} {f : PE} {as : PEs} {x : Str} {p pos : Pos} {vs : List Expr} (hf : SE X n sc f (.Name x p)) (hq : (sc.hd || qGlob X.ck f) = true) {A : Around} {env : Env} {Pv : Pr} {W : Wd} {σ : St} {s : Shared} {Q : V → St → Prop} {E : EP} (ok : EnvOk X A env Pv n sc) (at_ : At X env Pv W σ s) (h : wpE X.P (CW X.P n) E (.call fz f as) σ Q)
    (k : ∀ cf W₁ σ₁ s₁ g, At X env Pv W₁ σ₁ s₁ → VR X W₁ cf g → MayQ X A g → (wpEs X.P (CW X.P n) E as σ₁ fun vs σ₂ => callF X.P (CW X.P n) E fz σ₂ g vs Q) →
      Ew X A env Pv (callWith pos cf [] (vs.map fun e => (false, eval e env)) []) W₁ σ₁ s₁ (VQ X Q) E) :
    Ew X A env Pv (eval (.Name x p) env >>= fun cf => callWith pos cf [] (vs.map fun e => (false, eval e env)) []) W σ s (VQ X Q) E := by
  cases e : sc.hd with
  | true => exact hf.bind ok at_ h fun cf W₁ σ₁ s₁ g at₁ _ hg h₁ => k cf W₁ σ₁ s₁ g at₁ hg (.inl (ok.hh e)) h₁
  | false =>
    rw [e] at hq
    cases f with
    | glob i => exact need_e h fun v hv h => hf.bind (Q := fun g σ₁ => g = v ∧ wpEs X.P (CW X.P n) E as σ₁ fun vs σ₂ => callF X.P (CW X.P n) E fz σ₂ g vs Q) ok at_ (need_i hv ⟨rfl, h⟩) fun cf W₁ σ₁ s₁ g at₁ _ hg h₁ => k cf W₁ σ₁ s₁ g at₁ hg (.inr (h₁.1 ▸ K.qg i v hq hv)) h₁.2
    | _ => cases hq
theorem snd_call0 (K : CxOk X) (hK : CallM X n) (hno : ∀ k, X.clA k = none) {c : Ck} {fz : Bool} {f : PE} {as : PEs} {x : Str} {p : Pos} {vs : List Expr} {pos : Pos} (hf : SE X n sc f (.Name x p)) (hq : (sc.hd || qGlob X.ck f) = true) (has : SEs X n sc as vs) (hc : chkEs c sc as vs = true) : SE X n sc (.call fz f as) (.Call (.Name x p) vs [] pos) := by
  intro A env Pv W σ s Q E ok at_ h
  rw [eval_Call_Name, back_plain hc]
  exact call_head K hf hq ok at_ h fun cf W₁ σ₁ s₁ g at₁ hg hq h₁ => call_rest K hK ok at₁ has hg hq h₁ fun k a _ _ ha => by rw [hno] at ha; cases ha

theorem base_plain {o : Expr} {a : Str} {env : Env} {t : Sem Value} (h : notSuper o = true) : attributeBase o a env t = t := by
  cases o with
  | Call f l kw p =>
    cases f with
    | Name x p =>
      cases l with
      | nil => cases kw with
        | nil => cases h
        | cons _ _ => rfl
      | cons _ _ => rfl
    | _ => rfl
  | _ => rfl
theorem form_plain {env : Env} {vs : List Expr} {pos : Pos} (h : vs.length ≤ 20) : methodCallForm (vs.length + ([] : List Keyword).length) (vs.map fun e => ((false : Bool), eval e env)) (backToKw pos (keywordEach [] env)) = true := by
  unfold methodCallForm
  have : ((vs.map fun e => ((false : Bool), eval e env)).all (!·.1)) = true := by
    rw [List.all_eq_true]
    intro t ht
    rw [plain_all t ht]; rfl
  rw [this]
  exact decide_eq_true (p := vs.length + 0 + 0 < 30) (Nat.lt_of_le_of_lt h (by decide))
end
end Mine

end

section
set_option autoImplicit false
set_option linter.all false
set_option genSizeOf false
set_option genInjectivity false
namespace Mine
open PySem PySem.W PySem.Calls PyProof.Rows
section
variable {X : Cx} {n : Nat} {sc : Sc}
theorem srt_down {a b : List Int} (h : a.Perm b) (ha : Ordered true a) : a = (srt b).reverse := by
  have ha : a.Pairwise (· ≥ ·) := ha
  have := srt_uniq ((List.reverse_perm a).trans h) (List.pairwise_reverse.mpr ha)
  rw [← this, List.reverse_reverse]
theorem isSrt_e {g : V} (h : isSrt g = true) : g = .bt .sorted := by
  cases g with
  | bt b => cases b <;> first | rfl | (cases h; done)
  | _ => cases h
theorem snd_srv (K : CxOk X) {c : Ck} {fz : Bool} {i k : Nat} {a : PE} {x : Str} {p p' kp pos : Pos} {y : Expr} (hf : SE X n sc (.glob i) (.Name x p)) (ha : SE X n sc a y) (hc : chkE c sc a y = true) : SE X n sc (.sortedRev fz i a) (.Call (.Name x p) [y] [⟨some (Str.ofString "reverse"), .Constant (.bool true) k p', kp⟩] pos) := by
  intro A env Pv W σ s Q E ok at_ h
  refine need_e h fun g hg h => ?_
  cases isSrt_e h.1
  refine wpAny_Call_Name_kw ?_
  refine wpAny_mono (hf A env Pv W σ s (fun v σ₁ => v = .bt .sorted ∧ σ₁ = σ) E ok at_ (need_i hg ⟨rfl, rfl⟩)) (fun cf s₁ q => q.e fun W₁ σ₁ T₁ q => q.e fun v hv q => ?_) fun _ _ z => z
  obtain ⟨rfl, rfl⟩ := q
  cases hv
  have hc' : chkEs c sc (.cons a .nil) [y] = true := by show (chkE c sc a y && true) = true; rw [hc]; rfl
  rw [back_plain hc']
  show wpAny _ A (callWith pos (.builtin "sorted") [] _ _) _ _ _
  refine callWith_builtin_kwB rfl rfl ?_
  refine evalArgs_kwB rfl ?_
  refine spliced_cons ?_
  refine wpAny_mono (ha A env Pv W₁ σ₁ s₁ _ E ok T₁.at_ h.2) (fun v s₂ q => q.e fun W₂ σ₂ T₂ q => q.e fun z hz h => spliced_nil ?_) fun _ _ z => z.back T₁
  refine kws_cons ?_
  refine wpAny_pure ?_
  refine kws_nil ?_
  have T := T₁.trans T₂
  refine need_e h fun y ey e => need_e e fun xs ex e => need_e e fun is ei e => ?_
  obtain ⟨l, vs, m, rfl, g, r, q, z⟩ := (see_ok T.at_.rel hz ey).toLst ex
  have I := ints_are r ei
  refine sorted_ints_rev (vs := vs.toList) (b := true) (by simpa using isList_of g) I (by rw [I.length]; exact e.1) fun out ns' ho hp hs => ?_
  rw [srt_down hp hs] at ho
  exact (sortedAll_at s₂.heap vs.toList out).elim fun c hc => (OpQ.from (A := A) T).list T.at_.rel (of_ints ho) (fun _ _ q => sortedAll_old q) (Heap.get?_none_of_le (Nat.le_succ _)) hc e.2
end
end Mine

end

section
set_option autoImplicit false
set_option linter.all false
set_option genSizeOf false
set_option genInjectivity false
namespace Mine
open PySem PySem.W PySem.Calls PyProof.Rows

section
variable {X : Cx} {n : Nat} {sc : Sc}
theorem VRs.one_e {W : Wd} {vs : List Value} {x : V} {G : Prop} (h : VRs X W vs [x]) (g : ∀ v, vs = [v] → VR X W v x → G) : G := by
  cases h with | cons a b => cases b; exact g _ rfl a

section
variable {A : Around} {E : Value → Shared → Prop} {W : Wd} {H : Hp} {s : Shared} {i : Nat} {l : Addr × Addr} {xs : List V} {Q : Value → Shared → Prop} (R : RelH X W H s.heap) (hi : H.get i = some (.list xs)) (hl : W.φ i = some l)
include R hi hl
/-- a list's items are others now -/
theorem RelH.lset {ys : List V} {h' : Heap} {vs' : Array Value} {k' tk : Nat} (he : l.2 = l.1) (hk : ∀ b ob, s.heap.get? b = some ob → b ≠ l.1 → h'.get? b = some ob) (ha : h'.get? l.1 = some (lstO vs' k')) (hv : VRs X W vs'.toList ys) (hz : ys.length ≤ SZ) : Tc X W H s W (H.set i (.list ys)) { s with heap := h', toks := tk } :=
  let ⟨r, t⟩ := R.upd (h' := h') (c' := .list ys) hi hl (fun b ob e n1 _ => hk b ob e n1) ⟨vs', k', ha, hv, he, hz⟩
  ⟨t, r, ⟨rfl, rfl, rfl⟩⟩
theorem append_ok {v : Value} {x : V} (hv : VR X W v x) (hz : xs.length < SZ)
    (h : ∀ s', Tc X W H s W (H.set i (.list (xs ++ [x]))) s' → Q .none s') : wpAny (model X.prog X.w) A (call (.builtin "list.append") [.ref l.1, v]) Q E s := by
  obtain ⟨vs, k, hg, hvs, he, _⟩ := R.at_ hi hl
  exact append_at hg (fun h' hs ha => h _ (R.lset (tk := s.toks) hi hl he (fun b ob e n1 => (hs.2 b n1).trans e) ha (by rw [Array.toList_push]; exact hvs.append (.cons hv .nil)) (by rw [List.length_append]; exact hz))) (by rw [hvs.toArr]; exact szLine (Nat.le_of_lt hz))
theorem extend_ok {v : Value} {ys : List V} (hv : SqL X W s.heap v ys) (hz : xs.length + ys.length ≤ SZ)
    (h : ∀ s', Tc X W H s W (H.set i (.list (xs ++ ys))) s' → Q .none s') : wpAny (model X.prog X.w) A (call (.builtin "list.extend") [.ref l.1, v]) Q E s := by
  obtain ⟨vs, k, hg, hvs, he, _⟩ := R.at_ hi hl
  obtain ⟨a, ws, k2, rfl, g2, r2, q2, z2⟩ := hv
  have hz' : vs.size + ws.size ≤ sizeLine := by rw [hvs.toArr, z2]; exact szLine hz
  refine call_meets F.slot_list_extend ⟨_, hg, rfl⟩ F.entry_list_extend (F.args_list_extend_2 _ _) (AutoSeq1.list_extend_list_list_0 l.1 vs k a ws k2 (extend_door hz') (Nat.le_trans (Nat.le_add_right _ _) hz') (Nat.le_succ_of_le hz')) ⟨hg, g2, h _ ?_⟩
  exact R.lset hi hl he (fun b ob q n1 => (Heap.get?_update_other _ _ (Ne.symm n1)).trans q) (Heap.get?_update_self _ hg rfl) (by show VRs X W (vs ++ ws).toList _; rw [Array.toList_append]; exact hvs.append r2) (by rw [List.length_append]; exact hz)
theorem pop_ok {k : Int} {t : Tok} {j : Nat} {x : V} (hj : pyIdx k xs.length = some j) (hx : xs[j]? = some x)
    (h : ∀ v s', Tc X W H s W (H.set i (.list (xs.take j ++ xs.drop (j + 1)))) s' → VR X W v x → Q v s') : wpAny (model X.prog X.w) A (call (.builtin "list.pop") [.ref l.1, .int k t]) Q E s := by
  obtain ⟨vs, m, hg, hvs, he, hz⟩ := R.at_ hi hl
  have z := hvs.toArr
  obtain ⟨v, hv, hr⟩ := arr_get hvs hx
  have hfit : Builtin.List.listFitsIndex k = true := by
    have := pyIdx_63 hj hz
    unfold Builtin.List.listFitsIndex
    rw [decide_eq_true this.1, decide_eq_true this.2]; rfl
  refine call_meets F.slot_list_pop ⟨_, hg, rfl⟩ F.entry_list_pop (F.args_list_pop_2 _ _) (MeetsSeq.list_pop_at l.1 vs m k t j v hfit (by rw [z]; exact pyIdx_seq hj) hv (by rw [z]; exact szLine hz)) ⟨hg, h v _ ?_ hr⟩
  refine R.lset hi hl he (fun b ob q n1 => (Heap.get?_update_other _ _ (Ne.symm n1)).trans q) (Heap.get?_update_self _ hg rfl) ?_ ?_
  · show VRs X W (vs.eraseIdxIfInBounds j).toList _
    rw [Array.toList_eraseIdxIfInBounds, List.eraseIdx_eq_take_drop_succ]
    exact (hvs.take j).append (hvs.drop (j + 1))
  · have := (List.getElem?_eq_some_iff.mp hx).1
    rw [List.length_append, List.length_take, List.length_drop]; omega
end

section
variable {A : Around} {env : Env} {Pv : Pr} {W : Wd} {σ : St} {s : Shared} {E : EP} {m : Nat} {as : PEs} {v : Expr} {ap pos : Pos} {vs : List Expr}
/-- the call of a method, behind its object -/
abbrev mcall (X : Cx) (env : Env) (m : Nat) (v : Expr) (ap pos : Pos) (vs : List Expr) (a : Addr) : Sem Value := methodCall v (X.nm m) ap pos env (.ref a) (vs.length + ([] : List Keyword).length) (vs.map fun e => (false, eval e env)) (backToKw pos (keywordEach [] env))
/-- a built-in type's method -/
theorem meth_bi {T id : String} {a : Addr} {ob : Obj} {Q : V → St → Prop} {Qv : List V → St → Prop} (ok : EnvOk X A env Pv n sc) (at_ : At X env Pv W σ s) (has : SEs X n sc as vs) (hlen : vs.length ≤ 20) (hline : (ap.endLine == pos.line) = true)
    (pa : PlainAttrs T) (slot : Slot T (X.nm m) id) (hty : typeOf (.builtin id) = pure (.type "method_descriptor")) (hg : s.heap.get? a = some ob) (hT : s.TypeIs (.ref a) T) (hd : ob.dict = none) (h : wpEs X.P (CW X.P n) E as σ Qv)
    (hcall : ∀ cvs avs W' σ' s', Tf X env Pv W σ s W' σ' s' → VRs X W' cvs avs → Qv avs σ' → wpAny (model X.prog X.w) A (call (.builtin id) ([.ref a] ++ cvs) []) (Go X env Pv W σ s (VQ X Q)) (EX X env Pv W σ s E) s') :
    Ew X A env Pv (mcall X env m v ap pos vs a) W σ s (VQ X Q) E := by
  have hpos : methodCallPos true v env ap pos = pure pos := by unfold methodCallPos; simp [hline]
  unfold mcall methodCall
  rw [form_plain hlen]
  exact wpAny_bind (wpAny_holding (getMethod_builtin hT pa slot hty (fun b e => by cases e; exact ⟨ob, hg, hd⟩) (wpAny_bind (wpAny_of_eq hpos (callWith_builtin plain_any (args_then has ok at_ h hcall))))))
theorem or3_e {a b c : Bool} {G : Prop} (h : (a || (b || c)) = true) (x : a = true → G) (y : b = true → G) (z : c = true → G) : G := by
  cases a with
  | true => exact x rfl
  | false => cases b with
    | true => exact y rfl
    | false => exact z h
theorem Br_t {b : Bool} {t e : Prop} (h : Br b t e) (q : b = true) : t := by subst q; exact h
theorem Br_f {b : Bool} {t e : Prop} (h : Br b t e) (q : b = false) : e := by subst q; exact h
theorem nb_ne {X : Cx} (K : CxOk X) {m k : Nat} {a b : Str} (ha : X.nm m = a) (hb : X.nm k = b) (hn : a ≠ b) : Nat.beq m k = false := by
  cases q : Nat.beq m k with
  | false => rfl
  | true => have := Nat.eq_of_beq_eq_true q; subst this; exact absurd (ha.symm.trans hb) hn
theorem nm_of {X : Cx} {m k : Nat} {a : Str} (h : Nat.beq m k = true) (e : X.nm k = a) : X.nm m = a := by
  rw [Nat.eq_of_beq_eq_true h]; exact e
theorem meth_list (K : CxOk X) {Q : V → St → Prop} {i : Nat} {l : Addr × Addr} {xs : List V} (ok : EnvOk X A env Pv n sc) (at_ : At X env Pv W σ s) (has : SEs X n sc as vs) (hlen : vs.length ≤ 20) (hline : (ap.endLine == pos.line) = true) (hl : W.φ i = some l) (hgi : σ.H.get i = some (.list xs))
    (h : Nd ((Nat.beq m X.P.nAppend || (Nat.beq m X.P.nPop || Nat.beq m X.P.nExtend)) = true) (wpEs X.P (CW X.P n) E as σ fun vs σ₂ => need (cL (σ₂.H.get i)) fun xs => methL X.P σ₂ i m vs xs Q)) :
    Ew X A env Pv (mcall X env m v ap pos vs l.1) W σ s (VQ X Q) E := by
  obtain ⟨ws, k, hg, hvs, he, hz⟩ := at_.rel.at_ hgi hl
  have fin : ∀ {W₂ : Wd} {σ₂ : St} {s₂ s' : Shared} {H' : Hp} {v : Value} {x : V}, Tf X env Pv W σ s W₂ σ₂ s₂ → Tc X W₂ σ₂.H s₂ W₂ H' s' → VR X W₂ v x → Q x (σ₂.setH H') → Go X env Pv W σ s (VQ X Q) v s' := fun T T' r q => ⟨_, _, T.trans (T'.tf T.at_), _, r, q⟩
  refine or3_e h.1 (fun hA => ?_) (fun hP => ?_) fun hE => ?_
  · have e := nm_of hA K.nAppend
    refine meth_bi ok at_ has hlen hline F.plainAttrs_list (e ▸ F.slot_list_append) F.type_list_append hg ⟨_, hg, rfl⟩ rfl h.2 fun cvs avs W₂ σ₂ s₂ T hv hq => need_e hq fun ys ey hq => need_e hq fun a ea hq => ?_
    have hq := Br_t hq hA
    rw [one_ok ea] at hv
    exact hv.one_e fun cv ec hcv => by
      subst ec
      exact append_ok T.at_.rel (cL_e ey) (T.stp.le.ff _ _ hl) hcv hq.1 fun s' T' => fin T T' .none hq.2
  · have e := nm_of hP K.nPop
    refine meth_bi ok at_ has hlen hline F.plainAttrs_list (e ▸ F.slot_list_pop) F.type_list_pop hg ⟨_, hg, rfl⟩ rfl h.2 fun cvs avs W₂ σ₂ s₂ T hv hq => need_e hq fun ys ey hq => need_e hq fun a ea hq => ?_
    have hq := Br_t (Br_f hq (nb_ne K e K.nAppend (by decide +kernel))) hP
    rw [one_ok ea] at hv
    exact hv.one_e fun cv ec hcv => need_e hq fun kk ek hq => need_e hq fun j hj hq => need_e hq fun x hx hq => aInt_of hcv ek fun t et => by
      subst ec et
      exact pop_ok T.at_.rel (cL_e ey) (T.stp.le.ff _ _ hl) hj hx fun v s' T' hv => fin T T' hv hq
  · have e := nm_of hE K.nExtend
    refine meth_bi ok at_ has hlen hline F.plainAttrs_list (e ▸ F.slot_list_extend) F.type_list_extend hg ⟨_, hg, rfl⟩ rfl h.2 fun cvs avs W₂ σ₂ s₂ T hv hq => need_e hq fun ys ey hq => need_e hq fun a ea hq => ?_
    have hq := Br_f (Br_f hq (nb_ne K e K.nAppend (by decide +kernel))) (nb_ne K e K.nPop (by decide +kernel))
    rw [one_ok ea] at hv
    exact hv.one_e fun cv ec hcv => need_e hq fun y hy hq => need_e hq fun zs hzs hq => by
      subst ec
      exact extend_ok T.at_.rel (cL_e ey) (T.stp.le.ff _ _ hl) ((see_ok T.at_.rel hcv hy).toLst hzs) hq.1 fun s' T' => fin T T' .none hq.2
theorem DGv.get {o : Option Value} {p : Option V} {v : Value} {x : V} {W : Wd} (h : DGv X W o p) (hv : VR X W v x) : VR X W (o.getD v) (p.getD x) := by
  cases h with
  | none => exact hv
  | some r => exact r
theorem meth_dict (K : CxOk X) {Q : V → St → Prop} {i : Nat} {l : Addr × Addr} {xs : List (V × V)} (ok : EnvOk X A env Pv n sc) (at_ : At X env Pv W σ s) (has : SEs X n sc as vs) (hlen : vs.length ≤ 20) (hline : (ap.endLine == pos.line) = true) (hl : W.φ i = some l) (hgi : σ.H.get i = some (.dict xs))
    (h : Nd (Nat.beq m X.P.nGet = true) (wpEs X.P (CW X.P n) E as σ fun vs σ₂ => need (cD (σ₂.H.get i)) fun xs => methD X.P σ₂ i m vs xs Q)) :
    Ew X A env Pv (mcall X env m v ap pos vs l.1) W σ s (VQ X Q) E := by
  obtain ⟨es0, d0, _⟩ := at_.rel.at_ hgi hl
  obtain ⟨ob, _, _, hg, ex, _⟩ := d0
  have e := nm_of h.1 K.nGet
  refine meth_bi ok at_ has hlen hline F.plainAttrs_dict (e ▸ F.slot_dict_get) F.type_dict_get hg ⟨ob, hg, ex.1⟩ ex.2.1 h.2 fun cvs avs W₂ σ₂ s₂ T hv hq => need_e hq fun ys ey hq => need_e hq fun t et hq => ?_
  obtain ⟨es, d, r, _, ne, _⟩ := T.at_.rel.at_ (cD_e ey) (T.stp.le.ff _ _ hl)
  have fin : ∀ {w : Value} {x : V}, VR X W₂ w x → Q x σ₂ → Go X env Pv W σ s (VQ X Q) w { s₂ with toks := s₂.toks + 1 } := fun r q => Go.from T (T.at_.val r q)
  cases hv with
  | nil => cases et
  | cons a b =>
    cases b with
    | nil =>
      cases et
      refine key_e a hq.1 fun j tk e1 e2 => ?_
      subst e1 e2
      exact call_meetsIn F.slot_dict_get d.typeIs F.entry_dict_get (F.args_dict_get_2 _ _) (meets_dict_get (intKind X.prog X.w) l.1 (intKind_is _ _ j tk) ne) ⟨_, d.mapOf, fin (DGv.get (r.val (i := j)) .none) hq.2⟩
    | cons b c =>
      cases c with
      | nil =>
        cases et
        refine key_e a hq.1 fun j tk e1 e2 => ?_
        subst e1 e2
        exact call_meetsIn F.slot_dict_get d.typeIs F.entry_dict_get (F.args_dict_get_3 _ _ _) (meets_dict_get_default (intKind X.prog X.w) l.1 (intKind_is _ _ j tk) ne _) ⟨_, d.mapOf, fin (DGv.get (r.val (i := j)) b) hq.2⟩
      | cons _ _ => cases et
end
theorem snd_meth (K : CxOk X) {c : Ck} {fz : Bool} {o : PE} {m : Nat} {as : PEs} {v : Expr} {ap pos : Pos} {vs : List Expr} (ho : SE X n sc o v) (has : SEs X n sc as vs) (hc : chkEs c sc as vs = true) (hns : notSuper v = true) (hlen : vs.length ≤ 20) (hline : (ap.endLine == pos.line) = true)
    (hinst : ∀ (A : Around) (env : Env) (Pv : Pr) (W : Wd) (σ : St) (s : Shared) (Q : V → St → Prop) (E : EP) (i : Nat) (l : Addr × Addr) (k : Nat) (fs : List (Nat × V)), EnvOk X A env Pv n sc → At X env Pv W σ s → W.φ i = some l → σ.H.get i = some (.inst k fs) →
      (need (X.P.cls k) fun c => need (lk c.meths m) fun f => wpEs X.P (CW X.P n) E as σ fun vs σ₂ => callF X.P (CW X.P n) E fz σ₂ (.fn f) (.ref i :: vs) Q) →
      Ew X A env Pv (mcall X env m v ap pos vs l.1) W σ s (VQ X Q) E) :
    SE X n sc (.meth fz o m as) (.Call (.Attribute v (X.nm m) ap) vs [] pos) := by
  intro A env Pv W σ s Q E ok at_ h
  rw [arm_eval_Call, base_plain hns, back_plain hc]
  refine ho.bind ok at_ h fun cf W₁ σ₁ s₁ g at₁ _ hg h₁ => Ew.standAt (need_e h₁ fun i ei h₁ => aRef_e hg ei fun l e hl _ => ?_)
  subst e
  cases hgi : σ₁.H.get i with
  | none => rw [hgi] at h₁; exact h₁.elim
  | some c =>
    rw [hgi] at h₁
    cases c with
    | inst k fs => exact hinst A env Pv W₁ σ₁ s₁ Q E i l k fs ok at₁ hl hgi h₁
    | dict _ => exact meth_dict K ok at₁ has hlen hline hl hgi h₁
    | exc _ => exact h₁.elim
    | list xs => exact meth_list K ok at₁ has hlen hline hl hgi h₁
end
end Mine

end

section
set_option autoImplicit false
set_option linter.all false
set_option genSizeOf false
set_option genInjectivity false
namespace Mine
open PySem PySem.Calls PyProof.Rows

noncomputable def isL : V → Bool
  | .lst _ => true
  | .ref _ => true
  | _ => false
theorem isL_see {H : Hp} {v : V} {xs : List V} (q : isL v = true) (h : items H v = some xs) : see H v = some (.lst xs) := by
  cases v with
  | lst ys => exact congrArg (some ∘ V.lst) (Option.some.inj h)
  | ref i => show mL (cL (H.get i)) = _; rw [show cL (H.get i) = some xs from h]; rfl
  | _ => cases q
/-- the iterator at I stands at place k of what v holds -/
inductive ItAt (X : Cx) (W : Wd) (h : Heap) (I : Addr) (v : V) (k : Nat) : Prop
  | lst (a : Addr) (r : VR X W (.ref a) v) (q : isL v = true) (it : h.IsListIter I a k)
  | tup (a : Addr) (xs : List V) (e : v = .tup xs) (r : VR X W (.ref a) v) (it : h.IsTupleIter I a k)
  | rng (a b c : Int) (e : v = .rng a b c) (hc : c = 1 ∨ c = -1) (it : IsRangeIter h I (a + (k : Nat) * c) ((rngN a b c : Int) - (k : Nat)) c)

section
variable {X : Cx} {A : Around} {E : Value → Shared → Prop} {W : Wd} {H : Hp} {s : Shared}

theorem ItAt.keep {W' : Wd} {h h' : Heap} {I : Addr} {v : V} {k : Nat} (it : ItAt X W h I v k) (le : Wd.Le W W') (hk : ∀ o, h.get? I = some o → NoNames o → h'.get? I = some o) : ItAt X W' h' I v k := by
  cases it with
  | lst a r q it => obtain ⟨o, ho, hc, hd⟩ := it; exact .lst a (r.le le) q ⟨o, hk o ho (fun es n q => by rw [hd] at q; cases q), hc, hd⟩
  | tup a xs e r it => obtain ⟨o, ho, hc, hd⟩ := it; exact .tup a xs e (r.le le) ⟨o, hk o ho (fun es n q => by rw [hd] at q; cases q), hc, hd⟩
  | rng a b c e hc it => exact .rng a b c e hc (hk _ it (fun es n q => by cases q))
theorem ItAt.there {h : Heap} {I : Addr} {v : V} {k : Nat} (it : ItAt X W h I v k) : ∃ o, h.get? I = some o := by
  cases it with
  | lst a r q it => exact it.elim fun o q => ⟨o, q.1⟩
  | tup a xs e r it => exact it.elim fun o q => ⟨o, q.1⟩
  | rng a b c e hc it => exact ⟨_, it⟩

theorem iter_ok {cv : Value} {v : V} {xs : List V} {Q : Value → Shared → Prop} (R : RelH X W H s.heap) (hv : VR X W cv v) (hi : items H v = some xs)
    (h : ∀ o, o.isFreed = false → ItAt X W (s.heap.push o) s.heap.objs.size v 0 → Q (.ref s.heap.objs.size) { s with heap := s.heap.push o }) : wpAny (model X.prog X.w) A (pyIter cv) Q E s := by
  have lst : isL v = true → wpAny (model X.prog X.w) A (pyIter cv) Q E s := fun q => by
    obtain ⟨a, vs, n, rfl, hg, r, _, _⟩ := (see_ok R hv (isL_see q hi)).toLst rfl
    exact wpAny_pyIter_list (items := vs) (isList_of hg) (h _ rfl (.lst a hv q ⟨_, Heap.get?_push_size _ rfl, rfl, rfl⟩))
  cases v with
  | lst ys => exact lst rfl
  | ref i => exact lst rfl
  | tup ys =>
    obtain ⟨a, vs, n, rfl, hg, r, _, _⟩ := (see_ok R hv rfl).toTup rfl
    exact wpAny_pyIter_tuple (items := vs) (isTup_of hg) (h _ rfl (.tup a ys rfl hv ⟨_, Heap.get?_push_size _ rfl, rfl, rfl⟩))
  | rng a b c =>
    cases hv with
    | rng z ha hb hc =>
      refine wpAny_pyIter_range (R.z _ _ z) (rng_small hc ha hb) (h _ rfl (.rng a b c rfl hc ?_))
      rw [rng_size hc]
      have : IsRangeIter (s.heap.push { cls := .type "range_iterator", data := .fields #[rawInt a, rawInt (rngN a b c), rawInt c] }) s.heap.objs.size a (rngN a b c) c := Heap.get?_push_size _ rfl
      rw [show a + ((0 : Nat) : Int) * c = a by rw [Int.natCast_zero, Int.zero_mul, Int.add_zero], show (rngN a b c : Int) - ((0 : Nat) : Int) = rngN a b c from Int.sub_zero _]
      exact this
  | _ => cases hi

theorem next_item {I : Addr} {v x : V} {xs : List V} {k : Nat} {Q : Option Value → Shared → Prop} (R : RelH X W H s.heap) (it : ItAt X W s.heap I v k) (hi : items H v = some xs) (hx : xs[k]? = some x)
    (h : ∀ cv h' tk, VR X W cv x → ItAt X W h' I v (k + 1) → Heap.ExtBut I s.heap h' → Q (some cv) { s with heap := h', toks := tk }) : wpAny (model X.prog X.w) A (pyNext (.ref I)) Q E s := by
  cases it with
  | lst a r q it =>
    obtain ⟨a', vs, n, e, hg, rs, _, _⟩ := (see_ok R r (isL_see q hi)).toLst rfl
    cases e
    exact (arr_get rs hx).elim fun cv z => wpAny_pyNext_list_item it (items := vs) (isList_of hg) z.1 fun h' hit' hs => h cv h' s.toks z.2 (.lst a r q hit') hs.extBut
  | tup a ys e r it =>
    subst e
    obtain ⟨a', vs, n, e, hg, rs, _, _⟩ := (see_ok R r rfl).toTup rfl
    cases e
    cases (Option.some.inj hi : ys = xs)
    exact (arr_get rs hx).elim fun cv z => wpAny_pyNext_tuple_item it (items := vs) (isTup_of hg) z.1 fun h' hit' hs => h cv h' s.toks z.2 (.tup a _ rfl r hit') hs.extBut
  | rng a b c e hc it =>
    subst e
    have e : rngL a c (rngN a b c) = xs := Option.some.inj hi
    have hk : k < rngN a b c := by
      have := (List.getElem?_eq_some_iff.mp hx).1
      rw [← e, rngL_length] at this; exact this
    rw [← e, rngL_get c _ a k hk] at hx
    cases hx
    refine wpAny_pyNext_range_item it (by omega) fun h' hit' hs => h _ h' _ (.int _ _) (.rng a b c rfl hc ?_) hs.extBut
    have e1 : a + ((k + 1 : Nat) : Int) * c = a + (k : Int) * c + c := by rw [Int.natCast_succ, Int.add_mul, Int.one_mul, Int.add_assoc]
    have e2 : (rngN a b c : Int) - ((k + 1 : Nat) : Int) = (rngN a b c : Int) - (k : Int) - 1 := by omega
    rw [e1, e2]; exact hit'

theorem next_end {I : Addr} {v : V} {xs : List V} {Q : Option Value → Shared → Prop} (hh : A.handled = none) (R : RelH X W H s.heap) (it : ItAt X W s.heap I v xs.length) (hi : items H v = some xs)
    (h : ∀ h', Heap.ExtBut I s.heap h' → Q none { s with heap := h' }) : wpAny (model X.prog X.w) A (pyNext (.ref I)) Q E s := by
  have no : ∀ vs : Array Value, vs.size = xs.length → vs[xs.length]? = none := fun vs z => by rw [← z]; exact Array.getElem?_eq_none (Nat.le_refl _)
  cases it with
  | lst a r q it =>
    obtain ⟨a', vs, n, e, hg, rs, _, z⟩ := (see_ok R r (isL_see q hi)).toLst rfl
    cases e
    exact wpAny_pyNext_list_end hh it (items := vs) (isList_of hg) (no vs z) h
  | tup a ys e r it =>
    subst e
    obtain ⟨a', vs, n, e, hg, rs, _, z⟩ := (see_ok R r rfl).toTup rfl
    cases e
    cases (Option.some.inj hi : ys = xs)
    exact wpAny_pyNext_tuple_end hh it (items := vs) (isTup_of hg) (no vs z) h
  | rng a b c e hc it =>
    subst e
    have hk : xs.length = rngN a b c := by rw [← (Option.some.inj hi : rngL a c (rngN a b c) = xs), rngL_length]
    exact wpAny_pyNext_range_end hh it (by rw [hk]; omega) h

/-- an object of no one's: an iterator, a list in the making -/
structure Lone (X : Cx) (env : Env) (Pv : Pr) (W : Wd) (H : Hp) (h : Heap) (I : Addr) : Prop where
  own : ¬ Own W H I
  z : W.Z I = none
  pv : ¬ Pv.pv I
  cell : ∀ x c, env.cells.lookup x = some c → c ≠ I
  fr : ∀ e ∈ Pv.st, e.frame ≠ some I
  at_ : ∃ o, h.get? I = some o
theorem Lone.step {env : Env} {Pv : Pr} {Pv' : Addr → Prop} {W' : Wd} {H' : Hp} {h h' : Heap} {I : Addr} (L : Lone X env Pv W H h I) (S : Stp Pv' W H h W' H' h') : Lone X env Pv W' H' h' I := by
  obtain ⟨o, e⟩ := L.at_
  refine ⟨S.own I o e L.own, ?_, L.pv, L.cell, L.fr, S.there I o e⟩
  cases q : W'.Z I with
  | none => rfl
  | some ob =>
    rcases S.znew I ob q with r | r | r
    · rw [L.z] at r; cases r
    · exact absurd r L.own
    · rw [e] at r; cases r
theorem Lone.keep {env : Env} {Pv : Pr} {W' : Wd} {H' : Hp} {h h' : Heap} {I : Addr} (L : Lone X env Pv W H h I) (S : Stp Pv.pv W H h W' H' h') : ∀ o, h.get? I = some o → NoNames o → h'.get? I = some o := fun o e n =>
  (S.keep I o e L.own L.pv).elim fun o' q => q.2.eq n ▸ q.1
/-- a lone object is changed, others are made -/
theorem At.poke {env : Env} {Pv : Pr} {σ : St} {I : Addr} {h' : Heap} {tk : Nat} (a : At X env Pv W σ s) (L : Lone X env Pv W σ.H s.heap I) (hs : Heap.ExtBut I s.heap h') : At X env Pv W σ { s with heap := h', toks := tk } := by
  refine ⟨a.rel.quiet (Pv := fun b => b = I) (fun b o e n => hs b o n e) (fun b e => by subst e; exact ⟨L.own, L.z⟩), ?_⟩
  have F := a.fr
  have nl : env.locals ≠ I := fun e => L.pv (e ▸ F.pvL)
  refine ⟨?_, fun i v e k => ?_, fun x ef e => ?_, F.cellEq, fun x c e => ?_, F.pvL, F.priv, fun b p => ?_, fun e he => (F.frs e he).keep fun K o es n a b c d f => ⟨⟨o, es, n, hs K o (fun z => L.fr e he (z ▸ a)) b, c⟩, d, f⟩, F.frc⟩
  · obtain ⟨m, hn, hm⟩ := F.ns
    exact ⟨m, hn.extBut hs nl, hm⟩
  · obtain ⟨c, cv, q, ⟨o, ho, hd⟩, r⟩ := F.cells i v e k
    exact ⟨c, cv, q, ⟨o, hs c o (L.cell _ _ q) ho, hd⟩, r⟩
  · obtain ⟨c, cv, q, ⟨o, ho, hd⟩, r⟩ := F.hasCell x ef e
    exact ⟨c, cv, q, ⟨o, hs c o (L.cell _ _ q) ho, hd⟩, r⟩
  · obtain ⟨p, q, o, ho⟩ := F.cellNs x c e
    exact ⟨p, q, o, hs c o (L.cell _ _ e) ho⟩
  · obtain ⟨o, ho⟩ := F.pvAt b p
    exact ⟨o, hs b o (fun e => L.pv (e ▸ p)) ho⟩
/-- seen from before the object was made -/
theorem Stp.poke {Pv : Addr → Prop} {W' : Wd} {H' : Hp} {h h' h'' : Heap} {I : Addr} (S : Stp Pv W H h W' H' h') (hn : h.get? I = none) (hs : Heap.ExtBut I h' h'') : Stp Pv W H h W' H' h'' where
  le := S.le
  keep := fun x o e n p => (S.keep x o e n p).elim fun o' q => ⟨o', hs x o' (fun z => by subst z; rw [hn] at e; cases e) q.1, q.2⟩
  own := S.own
  znew := S.znew
  there := fun x o e => (S.there x o e).elim fun o' e' => ⟨o', hs x o' (fun z => by subst z; rw [hn] at e; cases e) e'⟩
theorem Tf.poke {env : Env} {Pv : Pr} {σ σ' : St} {W' : Wd} {s' : Shared} {I : Addr} {h'' : Heap} {tk : Nat} (T : Tf X env Pv W σ s W' σ' s') (hn : s.heap.get? I = none) (L : Lone X env Pv W' σ'.H s'.heap I) (hs : Heap.ExtBut I s'.heap h'') : Tf X env Pv W σ s W' σ' { s' with heap := h'', toks := tk } :=
  ⟨T.stp.poke hn hs, T.at_.poke L hs, ⟨T.rest.gens, T.rest.drawn, T.rest.os⟩⟩
/-- a new object of no one's -/
theorem Lone.new {env : Env} {Pv : Pr} {σ : St} {h' : Heap} (a : At X env Pv W σ s) {I : Addr} (hn : s.heap.get? I = none) (hI : ∃ o, h'.get? I = some o) : Lone X env Pv W σ.H h' I := by
  have no : ∀ {o : Obj} {G : Prop}, s.heap.get? I = some o → G := fun e => by rw [hn] at e; cases e
  refine ⟨fun o => (a.rel.own_there o).elim fun _ e => no e, ?_, fun p => (a.fr.pvAt I p).elim fun _ e => no e, fun x c e q => ?_, fun e he q => ?_, hI⟩
  · cases q : W.Z I with
    | none => rfl
    | some o => exact no (a.rel.z _ _ q)
  · subst q
    exact (a.fr.cellNs x c e).2.2.elim fun _ e => no e
  · obtain ⟨_, L, o, es, n, x1, x2, _⟩ := a.fr.frs e he
    rw [q] at x1; cases x1
    exact no x2
theorem Tf.push {env : Env} {Pv : Pr} {σ : St} {o : Obj} {tk : Nat} (a : At X env Pv W σ s) : Tf X env Pv W σ s W σ { s with heap := s.heap.push o, toks := tk } := by
  have hk : ∀ b ob, s.heap.get? b = some ob → (s.heap.push o).get? b = some ob := fun b ob e => Heap.get?_push_of_some _ e
  have S : Stp noPv W σ.H s.heap W σ.H (s.heap.push o) := .quiet (fun b ob e _ => hk b ob e) fun b ob e => ⟨ob, hk b ob e⟩
  exact ⟨S.mono fun _ z => z.elim, ⟨a.rel.quiet (Pv := noPv) (fun b ob e _ => hk b ob e) fun _ z => z.elim, a.fr.step S fun _ z => z.elim⟩, ⟨rfl, rfl, rfl⟩⟩
end
end Mine

end

section
set_option autoImplicit false
set_option linter.all false
set_option genSizeOf false
set_option genInjectivity false
namespace Mine
open PySem PySem.W PySem.Calls PyProof.Rows

inductive FR (X : Cx) (W : Wd) : PySem.Flow → Flow → Prop
  | next : FR X W .next .next
  | brk : FR X W .brk .brk
  | cont : FR X W .cont .cont
  | ret {v : Value} {x : V} : VR X W v x → FR X W (.ret v) (.ret x)
inductive FQ (X : Cx) (Q : Flow → St → Prop) (fl : PySem.Flow) (W' : Wd) (σ' : St) (s' : Shared) : Prop
  | mk (af : Flow) (r : FR X W' fl af) (h : Q af σ')

section
variable {X : Cx} {n : Nat} {sc : Sc}
theorem FQ.e {Q : Flow → St → Prop} {v : PySem.Flow} {W : Wd} {σ : St} {s : Shared} {G : Prop} (q : FQ X Q v W σ s) (g : ∀ x, FR X W v x → Q x σ → G) : G := by obtain ⟨x, r, h⟩ := q; exact g x r h

noncomputable def S1 (X : Cx) (n : Nat) (sc : Sc) (p : PS) (st : Stmt) : Prop := ∀ (A : Around) (env : Env) (Pv : Pr) (W : Wd) (σ : St) (s : Shared) (Q : Flow → St → Prop) (E : EP),
  EnvOk X A env Pv n sc → env.func ≠ none → At X env Pv W σ s → wpS X.P (CW X.P n) p σ Q E → Ew X A env Pv (exec st env) W σ s (FQ X Q) E
noncomputable def SS (X : Cx) (n : Nat) (sc : Sc) (p : PSs) (st : List Stmt) : Prop := ∀ (A : Around) (env : Env) (Pv : Pr) (W : Wd) (σ : St) (s : Shared) (Q : Flow → St → Prop) (E : EP),
  EnvOk X A env Pv n sc → env.func ≠ none → At X env Pv W σ s → wpSs X.P (CW X.P n) p σ Q E → Ew X A env Pv (execs st env) W σ s (FQ X Q) E

section
variable {A : Around} {env : Env} {Pv : Pr} {W : Wd} {σ : St} {s : Shared} {E : EP} {Ex : Value → Shared → Prop}
/-- an expression ahead of a statement's end -/
theorem SE.post {p : PE} {e : Expr} {Q : V → St → Prop} {R : Value → Shared → Prop} (he : SE X n sc p e) (ok : EnvOk X A env Pv n sc) (at_ : At X env Pv W σ s) (hw : wpE X.P (CW X.P n) E p σ Q)
    (g : ∀ v W₁ σ₁ s₁ x, Tf X env Pv W σ s W₁ σ₁ s₁ → VR X W₁ v x → Q x σ₁ → R v s₁) : wpAny (model X.prog X.w) A (eval e env) R (EX X env Pv W σ s E) s :=
  wpAny_mono (he A env Pv W σ s _ E ok at_ hw) (fun v s₁ q => q.e fun W₁ σ₁ T q => q.e fun x r h => g v W₁ σ₁ s₁ x T r h) fun _ _ x => x
theorem Tf.flow {W' : Wd} {σ' : St} {s' : Shared} {Q : Flow → St → Prop} {fl : PySem.Flow} {af : Flow} (T : Tf X env Pv W σ s W' σ' s') (r : FR X W' fl af) (h : Q af σ') : Go X env Pv W σ s (FQ X Q) fl s' := ⟨W', σ', T, af, r, h⟩

theorem fn_hp (ok : EnvOk X A env Pv n sc) : (env.scope.kind == .class || (env.scope.kind == .module && env.locals != env.globals)) = false := by rw [ok.kind]; rfl
theorem kind_of {x : Str} {k : Nat} (ok : EnvOk X A env Pv n sc) (h : Nat.beq (knd sc x) k = true) (hk : k ≠ 0) (h3 : nkOf k ≠ .free) : env.kindOf x = some (nkOf k) :=
  (ok.names _ _ (knd_of (Nat.eq_of_beq_eq_true h) hk)).elim id fun z => absurd z.1 h3
theorem local_of {x : Str} (ok : EnvOk X A env Pv n sc) (h : kLocal sc x = true) : env.kindOf x = some .local := kind_of ok h (by decide) (by decide)

/-- a private object was changed -/
theorem store_tf {a : Addr} {h' : Heap} {loc' : Loc} {tk : Nat} (at_ : At X env Pv W σ s) (hp : Pv.pv a) (hs : Heap.SameBut a s.heap h') (ha : ∃ o, h'.get? a = some o) (F : FrR X W σ.H h' env Pv loc') : Tf X env Pv W σ s W ⟨σ.H, loc'⟩ { s with heap := h', toks := tk } := by
  have hkp : ∀ b o, s.heap.get? b = some o → ¬ Pv.pv b → h'.get? b = some o := fun b o e p => (hs.2 b fun q => p (q ▸ hp)).trans e
  refine ⟨.quiet hkp fun b o e => ?_, ⟨at_.rel.quiet hkp at_.fr.priv, F⟩, ⟨rfl, rfl, rfl⟩⟩
  by_cases hb : b = a
  · subst hb; exact ha
  · exact ⟨o, (hs.2 b hb).trans e⟩
theorem store_local {Q : Unit → Shared → Prop} {i : Nat} {cv : Value} {v : V} (K : CxOk X) (ok : EnvOk X A env Pv n sc) (at_ : At X env Pv W σ s) (hk : env.kindOf (X.nm i) = some .local) (hv : VR X W cv v)
    (h : ∀ s', Tf X env Pv W σ s W (σ.put i v) s' → Q () s') : wpAny (model X.prog X.w) A (storeName env (X.nm i) cv) Q Ex s := by
  obtain ⟨m, hn, hm⟩ := at_.fr.ns
  exact wpAny_storeName_local hk hn (fun h' hn' hs => h _ (store_tf at_ at_.fr.pvL hs (hn'.elim fun o q => ⟨o, q.elim fun _ q => q.elim fun _ q => q.1⟩) (at_.fr.storeL hn hm (fun j q => K.inj _ _ q) hk hv hn' hs))) (fn_hp ok)
theorem store_ok {Q : Unit → Shared → Prop} {i : Nat} {cv : Value} {v : V} (K : CxOk X) (ok : EnvOk X A env Pv n sc) (hf : env.func ≠ none) (at_ : At X env Pv W σ s) (hk : kStore sc (X.nm i) = true) (hv : VR X W cv v)
    (h : ∀ s', Tf X env Pv W σ s W (σ.put i v) s' → Q () s') : wpAny (model X.prog X.w) A (storeName env (X.nm i) cv) Q Ex s := by
  rcases Bool.or_eq_true_iff.mp hk with q | q
  · exact store_local K ok at_ (local_of ok q) hv h
  · have q : env.kindOf (X.nm i) = some .cell := kind_of ok q (by decide) (by decide)
    obtain ⟨c, v₀, hc, hi, hp⟩ := at_.fr.hasCell _ hf q
    exact wpAny_storeName_cell ok.kind q hc hi fun h' hi' hs => h _ (store_tf at_ hp hs (hi'.elim fun o q => ⟨o, q.1⟩) (at_.fr.storeC (fun j q => K.inj _ _ q) q hc hv hi' hs))
end

theorem snd_pass {pos : Pos} : S1 X n sc .pass (.Pass pos) := fun A env Pv W σ s Q E ok hf at_ h => wpAny_Pass ((Tf.refl at_).flow .next h)
theorem fn_inter {A : Around} {env : Env} {Pv : Pr} (ok : EnvOk X A env Pv n sc) : interactive env = false := by unfold interactive; rw [ok.kind]; rfl
theorem snd_expr {e : PE} {x : Expr} {pos : Pos} (he : SE X n sc e x) (hx : tg x 14 = true) : S1 X n sc (.expr e) (.Expr x pos) := fun A env Pv W σ s Q E ok hf at_ h =>
  wpAny_Expr_any (he.post ok at_ h fun v W₁ σ₁ s₁ y T _ q => T.flow .next q) (fn_inter ok) (by rw [xu_is hx rfl]; rfl)
theorem swaps_no {x : Expr} {t : Option Expr} {l : Nat} {env : Env} (h : Nat.ble 1 (xu x).tag = true) (h' : Nat.ble (xu x).tag 14 = true) : swapsWith x t l env = pure false := by
  cases x <;> first | rfl | (cases h; done) | (cases h'; done)
theorem snd_assign_loc (K : CxOk X) {i : Nat} {e : PE} {x : Expr} {y : Str} {p pos : Pos} (he : SE X n sc e x) (hy : y = X.nm i) (hk : kStore sc y = true) (h1 : Nat.ble 1 (xu x).tag = true) (h2 : Nat.ble (xu x).tag 14 = true) : S1 X n sc (.assign (.loc i) e) (.Assign [.Name y p] x pos) := by
  intro A env Pv W σ s Q E ok hf at_ h
  subst hy
  exact wpAny_Assign_Name (he.post ok at_ h fun v W₁ σ₁ s₁ y T hv q => store_ok K ok hf T.at_ hk hv fun s'' T' => (T.trans T').flow .next q) (swaps_no h1 h2)
theorem snd_ret_none {pos : Pos} : S1 X n sc (.ret .none) (.Return none pos) := fun A env Pv W σ s Q E ok hf at_ h => wpAny_Return_none ((Tf.refl at_).flow (.ret .none) h)
theorem snd_ret {e : PE} {x : Expr} {pos : Pos} (he : SE X n sc e x) : S1 X n sc (.ret (.some e)) (.Return (some x) pos) := fun A env Pv W σ s Q E ok hf at_ h =>
  wpAny_Return_some (he.post ok at_ h fun v W₁ σ₁ s₁ y T hv q => T.flow (.ret hv) q)
theorem snd_if {t : PC} {a b : PSs} {x : Expr} {u v : List Stmt} {pos : Pos} (ht : ST X n sc t x) (ha : SS X n sc a u) (hb : SS X n sc b v) : S1 X n sc (.ite t a b) (.If x u v pos) := fun A env Pv W σ s Q E ok hf at_ h =>
  wpAny_If (wpAny_mono (ht A env Pv W σ s _ E ok at_ h) (fun c s' q => q.e fun W' σ' T q => by
    cases c with
    | true => exact Ew.from T (ha A env Pv W' σ' s' Q E ok hf T.at_ q)
    | false => exact Ew.from T (hb A env Pv W' σ' s' Q E ok hf T.at_ q)) fun _ _ y => y)
theorem snd_ss_nil : SS X n sc .nil [] := fun A env Pv W σ s Q E ok hf at_ h => wpAny_execs_nil ((Tf.refl at_).flow .next h)
theorem snd_ss_cons {p : PS} {ps : PSs} {st : Stmt} {sts : List Stmt} (h1 : S1 X n sc p st) (h2 : SS X n sc ps sts) : SS X n sc (.cons p ps) (st :: sts) := fun A env Pv W σ s Q E ok hf at_ h =>
  wpAny_execs_cons (wpAny_mono (h1 A env Pv W σ s _ E ok hf at_ h) (fun fl s' q => q.e fun W' σ' T q => q.e fun af r q => by
    cases r with
    | next => exact Ew.from T (h2 A env Pv W' σ' s' Q E ok hf T.at_ q)
    | brk => exact T.flow .brk q
    | cont => exact T.flow .cont q
    | ret hv => exact T.flow (.ret hv) q) fun _ _ y => y)

/-! binding -/
section
variable {A : Around} {env : Env} {Pv : Pr} {Ex : Value → Shared → Prop} {W : Wd} {Q : Unit → Shared → Prop}
theorem tgt_e {i : Nat} {is : List Nat} {elts : List Expr} {G : Prop} (h : tgts X.nm sc (i :: is) elts = true) (g : ∀ p, elts = .Name (X.nm i) p :: elts.tail → kLocal sc (X.nm i) = true → tgts X.nm sc is elts.tail = true → G) : G :=
  on_e h fun t ht h => and4_e h fun a b c d => g (xu t).p (by
    have e : t = .Name (X.nm i) (xu t).p := (xu_is a rfl).trans (of_decide_eq_true b ▸ rfl)
    exact (head_ok ht).trans (congrArg (· :: elts.tail) e)) (of_decide_eq_true b ▸ c) d
theorem bind_len (ts : List Nat) : ∀ (elts : List Expr) (xs : List V) (cvs : List Value) (σ : St) (Kk : St → Prop), tgts X.nm sc ts elts = true → VRs X W cvs xs → bindGo ts xs σ Kk → (assignEach elts env).length = cvs.length ∧ (assignEach elts env).findIdx? (·.1) = none := by
  induction ts with
  | nil =>
    intro elts xs cvs σ Kk hc hv hb
    cases empty_ok hc
    cases hv with
    | nil => exact ⟨rfl, rfl⟩
    | cons _ _ => exact hb.elim
  | cons i is ih =>
    intro elts xs cvs σ Kk hc hv hb
    refine tgt_e hc fun p e _ h3 => ?_
    rw [e]
    cases hv with
    | nil => exact hb.elim
    | cons a r =>
      have k := ih elts.tail _ _ (σ.put i _) Kk h3 r hb
      refine ⟨congrArg (· + 1) k.1, ?_⟩
      show List.findIdx? _ ((false, assign (.Name (X.nm i) p) env) :: assignEach elts.tail env) = none
      rw [List.findIdx?_cons, k.2]; rfl
theorem bind_each (K : CxOk X) (ok : EnvOk X A env Pv n sc) (ts : List Nat) : ∀ (elts : List Expr) (xs : List V) (cvs : List Value) (σ : St) (s : Shared) (Kk : St → Prop), tgts X.nm sc ts elts = true → At X env Pv W σ s → VRs X W cvs xs → bindGo ts xs σ Kk →
    (∀ s' σ', Tf X env Pv W σ s W σ' s' → Kk σ' → Q () s') → wpAny (model X.prog X.w) A (assignInOrder ((assignEach elts env).map (·.2)) cvs) Q Ex s := by
  induction ts with
  | nil =>
    intro elts xs cvs σ s Kk hc at_ hv hb h
    cases empty_ok hc
    cases hv with
    | nil => exact assignInOrder_nil (h s σ (.refl at_) hb)
    | cons _ _ => exact hb.elim
  | cons i is ih =>
    intro elts xs cvs σ s Kk hc at_ hv hb h
    refine tgt_e hc fun p e h2 h3 => ?_
    rw [e]
    cases hv with
    | nil => exact hb.elim
    | cons a r => exact assignInOrder_cons (wpAny_assign_Name (store_local K ok at_ (local_of ok h2) a fun s₁ T₁ => ih elts.tail _ _ _ s₁ Kk h3 T₁.at_ r hb fun s' σ' T' q => h s' σ' (T₁.trans T') q))
/-- more objects, of no account -/
theorem Tf.more {σ : St} {s : Shared} {h' : Heap} {tk : Nat} (at_ : At X env Pv W σ s) (kp : ∀ b o, s.heap.get? b = some o → h'.get? b = some o) : Tf X env Pv W σ s W σ { s with heap := h', toks := tk } := by
  have S : Stp noPv W σ.H s.heap W σ.H h' := .quiet (fun b ob e _ => kp b ob e) fun b ob e => ⟨ob, kp b ob e⟩
  exact ⟨S.mono fun _ z => z.elim, ⟨at_.rel.quiet (Pv := noPv) (fun b ob e _ => kp b ob e) fun _ z => z.elim, at_.fr.step S fun _ z => z.elim⟩, ⟨rfl, rfl, rfl⟩⟩
theorem bindT_many {ts : List Nat} {v : V} {σ : St} {Kk : St → Prop} (h : Nat.ble 2 ts.length = true) (hb : bindT ts v σ Kk) : need (aTup v) fun xs => bindGo ts xs σ Kk := by
  match ts, h, hb with
  | _ :: _ :: _, _, hb => exact hb
/-- several names, out of a tuple -/
theorem bind_tup (K : CxOk X) {ts : List Nat} {elts : List Expr} {k : Nat} {p : Pos} {v : V} {cv : Value} {σ : St} {s : Shared} {Kk : St → Prop} (ok : EnvOk X A env Pv n sc) (hh : A.handled = none) (at_ : At X env Pv W σ s) (hv : VR X W cv v) (hc : tgts X.nm sc ts elts = true) (hb : need (aTup v) fun xs => bindGo ts xs σ Kk)
    (h : ∀ s' σ', Tf X env Pv W σ s W σ' s' → Kk σ' → Q () s') : wpAny (model X.prog X.w) A (assign (.Tuple elts k p) env cv) Q Ex s := by
  refine need_e hb fun xs ex hgo => ?_
  have ev : v = .tup xs := by cases v <;> first | (cases ex; rfl) | cases ex
  subst ev
  obtain ⟨a, vs, m, rfl, hg, hvs, _, hz⟩ := (see_ok at_.rel hv rfl).toTup rfl
  have len := bind_len (env := env) ts elts xs vs.toList σ Kk hc hvs hgo
  refine assign_Tuple_tuple hh (isTup_of hg) (by rw [len.1, Array.length_toList]) len.2 fun h' he => ?_
  have T : Tf X env Pv W σ s W σ { s with heap := h' } := Tf.more (tk := s.toks) at_ fun b o q => he b o (fun z => by rw [z, push_none] at q; cases q) q
  exact bind_each K ok ts elts xs vs.toList σ _ Kk hc T.at_ hvs hgo fun s' σ' T' q => h s' σ' (T.trans T') q
theorem bind_ok (K : CxOk X) {ts : List Nat} {t : Expr} {v : V} {cv : Value} {σ : St} {s : Shared} {Kk : St → Prop} (ok : EnvOk X A env Pv n sc) (hh : A.handled = none) (at_ : At X env Pv W σ s) (hv : VR X W cv v) (hc : chkTgt X.nm sc ts t = true) (hb : bindT ts v σ Kk)
    (h : ∀ s' σ', Tf X env Pv W σ s W σ' s' → Kk σ' → Q () s') : wpAny (model X.prog X.w) A (assign t env cv) Q Ex s := by
  rcases Bool.or_eq_true_iff.mp hc with hc | hc
  · refine and_e hc fun ht hc => on_e hc fun j hj hc => and_e hc fun h1 h2 => ?_
    cases one_ok hj
    have e : t = .Name (X.nm j) (xu t).p := (xu_is ht rfl).trans (of_decide_eq_true h1 ▸ rfl)
    rw [e]
    exact wpAny_assign_Name (store_local K ok at_ (local_of ok (of_decide_eq_true h1 ▸ h2)) hv fun s' T => h s' _ T hb)
  · refine and3_e hc fun ht h1 h2 => ?_
    rw [show t = .Tuple (xu t).l (xu t).k (xu t).p from xu_is ht rfl]
    exact bind_tup K ok hh at_ hv h2 (bindT_many h1 hb) h
end

/-- an iterator that owns no tuple -/
theorem go_ok {A : Around} {E : Value → Shared → Prop} {s : Shared} {I : Addr} {o : Obj} {nm : String} {t : Expr} {cv : Value} {Q : Unit → Shared → Prop} (ho : s.heap.get? I = some o) (hc : o.cls = .type nm)
    (hn : (["enumerate", "zip", "dict_itemiterator", "dict_reverseitemiterator", "odict_iterator", "itertools.zip_longest", "itertools.pairwise"].contains nm) = false) (h : Q () s) : wpAny (model X.prog X.w) A (letOwnedTupleGo t (.ref I) cv) Q E s := by
  have key : ∀ a, wpAny (model X.prog X.w) A (do
      let o ← load I
      match o.cls, o.data with
      | .type n, .fields vs =>
        if ["enumerate", "zip", "dict_itemiterator", "dict_reverseitemiterator", "odict_iterator", "itertools.zip_longest", "itertools.pairwise"].contains n && vs[0]? == some (rawInt a) then
          rule "for.unpacks-the-owned-tuple"
          updateField I 0 .none
      | _, _ => pure ()) Q E s := fun a => by
    refine wpAny_bind (wpAny_load ho ?_)
    rw [hc]
    cases o.data with
    | fields vs =>
      simp only [hn, Bool.false_and, Bool.false_eq_true, if_false]
      exact wpAny_pure h
    | _ => exact wpAny_pure h
  unfold letOwnedTupleGo
  cases t <;> first | exact wpAny_pure h | skip
  all_goals (cases cv <;> first | exact wpAny_pure h | exact key _)
theorem it_go {A : Around} {E : Value → Shared → Prop} {W : Wd} {s : Shared} {I : Addr} {v : V} {k : Nat} {t : Expr} {cv : Value} {Q : Unit → Shared → Prop} (it : ItAt X W s.heap I v k) (h : Q () s) : wpAny (model X.prog X.w) A (letOwnedTupleGo t (.ref I) cv) Q E s := by
  cases it with
  | lst a r q it => obtain ⟨o, ho, hc, hd⟩ := it; exact go_ok ho hc (by decide) h
  | tup a xs e r it => obtain ⟨o, ho, hc, hd⟩ := it; exact go_ok ho hc (by decide) h
  | rng a b c e hc it => exact go_ok it rfl (by decide) h
theorem folded_no {x : Expr} {env : Env} (hx : Nat.ble (xu x).tag 15 = true) : ∀ z, foldedSetIterable x env z = pure z := fun z => by
  cases x <;> first | rfl | cases hx
end
end Mine

end

section
set_option autoImplicit false
set_option linter.all false
set_option genSizeOf false
set_option genInjectivity false
namespace Mine
open PySem PySem.W PySem.Calls PyProof.Rows

theorem drop_cons {α : Type} {l : List α} {k : Nat} {x : α} {r : List α} (h : l.drop k = x :: r) : l[k]? = some x ∧ l.drop (k + 1) = r := by
  constructor
  · have := congrArg List.head? h
    rw [List.head?_drop] at this; exact this
  · have := congrArg List.tail h
    rw [List.tail_drop] at this; exact this
/-- where a run over a list stands: at place k; ys are left -/
structure Stand (xs : List V) (k : Nat) (ys : List V) (m : Nat) : Prop where
  d : xs.drop k = ys
  l : k + ys.length = xs.length
  m : m = ys.length
theorem Stand.nil {xs : List V} {k m : Nat} (h : Stand xs k [] m) : k = xs.length := h.l
theorem Stand.cons {xs : List V} {k : Nat} {u : V} {us : List V} {m : Nat} (h : Stand xs k (u :: us) m) : xs[k]? = some u ∧ us.length < m ∧ Stand xs (k + 1) us us.length :=
  ⟨(drop_cons h.d).1, h.m ▸ Nat.lt_succ_self _, (drop_cons h.d).2, (Nat.succ_add_eq_add_succ k us.length).trans h.l, rfl⟩

section
variable {X : Cx} {n : Nat} {sc : Sc}
/-- a run's state -/
inductive LpI (X : Cx) (env : Env) (Pv : Pr) (W : Wd) (σ : St) (s : Shared) (I : Addr) (v : V) (xs : List V) (go : List V → St → Prop) (m : Nat) (s' : Shared) : Prop
  | mk (k : Nat) (W' : Wd) (σ' : St) (ys : List V) (t : Tf X env Pv W σ s W' σ' s') (it : ItAt X W' s'.heap I v k) (L : Lone X env Pv W' σ'.H s'.heap I) (st : Stand xs k ys m) (q : go ys σ')
/-- what binds the names of a loop -/
noncomputable def Bnd (X : Cx) (n : Nat) (sc : Sc) (ts : List Nat) (t : Expr) : Prop := ∀ (A : Around) (env : Env) (Pv : Pr) (W : Wd) (σ : St) (s : Shared) (cv : Value) (v : V) (Kk : St → Prop) (Q : Unit → Shared → Prop) (Ex : Value → Shared → Prop),
  EnvOk X A env Pv n sc → env.func ≠ none → A.handled = none → At X env Pv W σ s → VR X W cv v → bindT ts v σ Kk → (∀ s' σ', Tf X env Pv W σ s W σ' s' → Kk σ' → Q () s') → wpAny (model X.prog X.w) A (assign t env cv) Q Ex s
theorem bnd_name (K : CxOk X) {i : Nat} {y : Str} {p : Pos} (hy : y = X.nm i) (hk : kStore sc y = true) : Bnd X n sc [i] (.Name y p) := fun A env Pv W σ s cv v Kk Q Ex ok hf hh at_ hv hb h => by
  subst hy
  exact wpAny_assign_Name (store_ok K ok hf at_ hk hv fun s' T => h s' _ T hb)
theorem not_there {h h' : Heap} {I : Addr} (hn : h'.get? I = none) (k : ∀ a o, h.get? a = some o → ∃ o', h'.get? a = some o') : h.get? I = none := by
  cases hq : h.get? I with
  | none => rfl
  | some o => exact (k _ _ hq).elim fun o' e => by rw [hn] at e; cases e

theorem snd_loop (K : CxOk X) {ts : List Nat} {it : PE} {body : PSs} {t : Expr} {pos : Pos} {x : Expr} {b : List Stmt} (hi : SE X n sc it x) (hb : SS X n sc body b) (ht : Bnd X n sc ts t) (hx : Nat.ble (xu x).tag 15 = true) (hhd : sc.hd = true) : S1 X n sc (.loop ts it body) (.For t x b [] pos) := fun A env Pv W σ s Q E ok hf at_ h =>
  wpAny_For (hi.post ok at_ h fun cv W₁ σ₁ s₁ v T₁ hv q => need_e q fun xs hxs q => iter_ok T₁.at_.rel hv hxs fun o hfo hit => by
    have nI : s₁.heap.get? s₁.heap.objs.size = none := push_none _
    have T₂ : Tf X env Pv W σ s W₁ σ₁ { s₁ with heap := s₁.heap.push o } := T₁.trans (Tf.push (tk := s₁.toks) T₁.at_)
    have L₂ : Lone X env Pv W₁ σ₁.H (s₁.heap.push o) s₁.heap.objs.size := Lone.new T₁.at_ nI ⟨o, Heap.get?_push_size _ hfo⟩
    have nI₀ := not_there nI T₁.stp.there
    generalize s₁.heap.objs.size = I at nI₀ L₂ hit ⊢
    refine codeAny_forLoop_any (LpI X env Pv W σ s I v xs fun ys σ' => loopGo (fun v σ₂ k => bindT ts v σ₂ fun σ₃ => wpSs X.P (CW X.P n) body σ₃ k noE) (still v xs) ys σ' Q) (fun m s' hI => ?_) xs.length ⟨0, W₁, σ₁, xs, T₂, hit, L₂, ⟨rfl, Nat.zero_add _, rfl⟩, q⟩
    obtain ⟨k, W', σ', ys, T, hit', L, st, q⟩ := hI
    cases ys with
    | nil =>
      cases st.nil
      exact next_end (ok.hh hhd) T.at_.rel hit' q.1 fun h' hs => wpAny_execs_nil ((T.poke (tk := s'.toks) nI₀ L hs).flow .next q.2)
    | cons u us =>
      obtain ⟨hu, lt, st'⟩ := st.cons
      refine next_item T.at_.rel hit' q.1 hu fun cu h' tk hcu hit'' hs => it_go hit'' ?_
      have T' := T.poke (tk := tk) nI₀ L hs
      have L' : Lone X env Pv W' σ'.H h' I := ⟨L.own, L.z, L.pv, L.cell, L.fr, hit''.there⟩
      refine ht A env Pv W' σ' _ cu u _ _ _ ok hf (ok.hh hhd) T'.at_ hcu q.2 fun s₃ σ₃ T₃ q => ?_
      have L₃ := L'.step T₃.stp
      have it₃ := hit''.keep T₃.stp.le (L'.keep T₃.stp)
      refine wpAny_mono (hb A env Pv W' _ s₃ _ noE ok hf T₃.at_ q) (fun fl s₄ q => q.e fun W₄ σ₄ T₄ q => q.e fun af hfr q₄ => ?_) fun _ _ z => z.no.elim
      have T'' := (T'.trans T₃).trans T₄
      have again := fun g => (⟨us.length, lt, k + 1, W₄, σ₄, us, T'', it₃.keep T₄.stp.le (L₃.keep T₄.stp), L₃.step T₄.stp, st', g⟩ : ∃ m', m' < m ∧ LpI X env Pv W σ s I v xs (fun ys σ' => loopGo (fun v σ₂ k => bindT ts v σ₂ fun σ₃ => wpSs X.P (CW X.P n) body σ₃ k noE) (still v xs) ys σ' Q) m' s₄)
      cases hfr with
      | next => exact again q₄
      | cont => exact again q₄
      | brk => exact T''.flow .next q₄
      | ret hr => exact T''.flow (.ret hr) q₄) (folded_no hx)

inductive WhI (X : Cx) (env : Env) (Pv : Pr) (W : Wd) (σ : St) (s : Shared) (go : Nat → St → Prop) (m : Nat) (s' : Shared) : Prop
  | mk (W' : Wd) (σ' : St) (t : Tf X env Pv W σ s W' σ' s') (q : go m σ')
theorem snd_while {t : PC} {body : PSs} {x : Expr} {b : List Stmt} {pos : Pos} (ht : ST X n sc t x) (hb : SS X n sc body b) : S1 X n sc (.while_ t body) (.While x b [] pos) := fun A env Pv W σ s Q E ok hf at_ h => h.elim fun k h =>
  wpAny_While (codeAny_whileLoop (WhI X env Pv W σ s fun m σ' => whileGo (fun σ₁ k => wpT X.P (CW X.P n) noE t σ₁ k) (fun σ₁ k => wpSs X.P (CW X.P n) body σ₁ k noE) m σ' Q) (fun m s' hI => by
    obtain ⟨W', σ', T, q⟩ := hI
    cases m with
    | zero => exact q.elim
    | succ m =>
      refine wpAny_mono (ht A env Pv W' σ' s' _ noE ok T.at_ q) (fun c s₁ q => q.e fun W₁ σ₁ T₁ q₁ => ?_) fun _ _ z => z.no.elim
      cases c with
      | false => exact wpAny_execs_nil ((T.trans T₁).flow .next q₁)
      | true =>
        refine wpAny_mono (hb A env Pv W₁ σ₁ s₁ _ noE ok hf T₁.at_ q₁) (fun fl s₂ q => q.e fun W₂ σ₂ T₂ q => q.e fun af hfr q₂ => ?_) fun _ _ z => z.no.elim
        have T' := (T.trans T₁).trans T₂
        cases hfr with
        | next => exact ⟨m, Nat.lt_succ_self _, W₂, σ₂, T', q₂⟩
        | cont => exact ⟨m, Nat.lt_succ_self _, W₂, σ₂, T', q₂⟩
        | brk => exact T'.flow .next q₂
        | ret hr => exact T'.flow (.ret hr) q₂) k ⟨W, σ, .refl at_, h⟩)
end
end Mine

end

section
set_option autoImplicit false
set_option linter.all false
set_option genSizeOf false
set_option genInjectivity false
namespace Mine
open PySem PySem.W PySem.Calls PyProof.Rows
section
variable {X : Cx} {n : Nat} {sc : Sc} {A : Around} {env : Env} {Pv : Pr} {W : Wd} {σ : St} {s : Shared} {E : EP}
/-- a built-in class, called with one thing -/
theorem call1 {c : Ck} {T : String} {b : B} {j : Nat} {a : PE} {x : Str} {p pos : Pos} {y : Expr} (hf : SE X n sc (.glob j) (.Name x p)) (ha : SE X n sc a y) (hc : chkE c sc a y = true) (hg : X.P.glob j = some (.bt b)) (hb : bval b = .type T) (ok : EnvOk X A env Pv n sc) (at_ : At X env Pv W σ s) {Qa : V → St → Prop} (h : wpE X.P (CW X.P n) E a σ Qa) {Q : Value → Shared → Prop}
    (k : ∀ W₂ σ₂ s₂ v z, Tf X env Pv W σ s W₂ σ₂ s₂ → VR X W₂ v z → Qa z σ₂ → wpAny (model X.prog X.w) A (call (.type T) [v]) Q (EX X env Pv W σ s E) s₂) :
    wpAny (model X.prog X.w) A (eval (.Call (.Name x p) [y] [] pos) env) Q (EX X env Pv W σ s E) s := by
  have hc' : chkEs c sc (.cons a .nil) [y] = true := by show (chkE c sc a y && true) = true; rw [hc]; rfl
  rw [eval_Call_Name, back_plain hc']
  refine wpAny_bind (wpAny_mono (hf A env Pv W σ s (fun v σ₁ => v = .bt b ∧ σ₁ = σ) E ok at_ (need_i hg ⟨rfl, rfl⟩)) (fun cf s₁ q => q.e fun W₁ σ₁ T₁ q => q.e fun v hv q => ?_) fun _ _ z => z)
  obtain ⟨rfl, rfl⟩ := q
  cases hv
  rw [hb]
  exact PyProof.Rows.callWith_type plain_any (evalArgs_all plain_all (spliced_cons (wpAny_mono (ha A env Pv W₁ σ₁ s₁ _ E ok T₁.at_ h) (fun v s₂ q => q.e fun W₂ σ₂ T₂ q => q.e fun z hz h => spliced_nil (k W₂ σ₂ s₂ v z (T₁.trans T₂) hz h)) fun _ _ z => z.back T₁)))
theorem isEnu_e {g : V} (h : isEnu g = true) : g = .bt .enumerate := by
  cases g with
  | bt b => cases b <;> first | rfl | (cases h; done)
  | _ => cases h
/-- lone objects are changed, others are made -/
theorem At.pokeB {B : Addr → Prop} {h' : Heap} {tk : Nat} (a : At X env Pv W σ s) (L : ∀ I, B I → Lone X env Pv W σ.H s.heap I) (hs : ∀ b o, ¬ B b → s.heap.get? b = some o → h'.get? b = some o) : At X env Pv W σ { s with heap := h', toks := tk } := by
  refine ⟨a.rel.quiet (Pv := B) (fun b o e n => hs b o n e) (fun b e => ⟨(L b e).own, (L b e).z⟩), ?_⟩
  have F := a.fr
  refine ⟨?_, fun i v e k => ?_, fun x ef e => ?_, F.cellEq, fun x c e => ?_, F.pvL, F.priv, fun b p => ?_, fun e he => (F.frs e he).keep fun K o es n a b c d f => ⟨⟨o, es, n, hs K o (fun z => (L K z).fr e he a) b, c⟩, d, f⟩, F.frc⟩
  · obtain ⟨m, hn, hm⟩ := F.ns
    exact ⟨m, hn.at fun o x => hs _ o (fun z => (L _ z).pv F.pvL) x, hm⟩
  · obtain ⟨c, cv, q, ⟨o, ho, hd⟩, r⟩ := F.cells i v e k
    exact ⟨c, cv, q, ⟨o, hs c o (fun z => (L c z).cell _ _ q rfl) ho, hd⟩, r⟩
  · obtain ⟨c, cv, q, ⟨o, ho, hd⟩, r⟩ := F.hasCell x ef e
    exact ⟨c, cv, q, ⟨o, hs c o (fun z => (L c z).cell _ _ q rfl) ho, hd⟩, r⟩
  · obtain ⟨p, q, o, ho⟩ := F.cellNs x c e
    exact ⟨p, q, o, hs c o (fun z => (L c z).cell _ _ e rfl) ho⟩
  · obtain ⟨o, ho⟩ := F.pvAt b p
    exact ⟨o, hs b o (fun z => (L b z).pv p) ho⟩
theorem Tf.pokeB {B : Addr → Prop} {W' : Wd} {σ' : St} {s' : Shared} {h' : Heap} {tk : Nat} (T : Tf X env Pv W σ s W' σ' s') (hn : ∀ I, B I → s.heap.get? I = none) (L : ∀ I, B I → Lone X env Pv W' σ'.H s'.heap I) (hs : ∀ b o, ¬ B b → s'.heap.get? b = some o → h'.get? b = some o) : Tf X env Pv W σ s W' σ' { s' with heap := h', toks := tk } := by
  have nb : ∀ x o, s.heap.get? x = some o → ¬ B x := fun x o e z => by rw [hn x z] at e; cases e
  exact ⟨⟨T.stp.le, fun x o e n p => (T.stp.keep x o e n p).elim fun o' q => ⟨o', hs x o' (nb x o e) q.1, q.2⟩, T.stp.own, T.stp.znew, fun x o e => (T.stp.there x o e).elim fun o' e' => ⟨o', hs x o' (nb x o e) e'⟩⟩, T.at_.pokeB L hs, ⟨T.rest.gens, T.rest.drawn, T.rest.os⟩⟩
/-- where a run over enumerate(list) stands -/
inductive EnI (X : Cx) (env : Env) (Pv : Pr) (W : Wd) (σ : St) (s : Shared) (I J l : Addr) (v : V) (xs : List V) (go : List V → St → Prop) (m : Nat) (s' : Shared) : Prop
  | mk (k : Nat) (old : Value) (W' : Wd) (σ' : St) (ys : List V) (t : Tf X env Pv W σ s W' σ' s') (he : IsEnum s'.heap I J k old) (hi : s'.heap.IsListIter J l k) (LI : Lone X env Pv W' σ'.H s'.heap I) (LJ : Lone X env Pv W' σ'.H s'.heap J) (r : VR X W' (.ref l) v) (st : Stand xs k ys m) (q : go (enumL k ys) σ')
theorem snd_enum (K : CxOk X) {c : Ck} {g i j kk : Nat} {a : PE} {body : PSs} {elts : List Expr} {b : List Stmt} {x : Str} {p q tp pos : Pos} {y : Expr} (hf : SE X n sc (.glob g) (.Name x p)) (ha : SE X n sc a y) (hc : chkE c sc a y = true) (hb : SS X n sc body b) (ht : tgts X.nm sc [i, j] elts = true) (hd : sc.hd = true) : S1 X n sc (.loopEnum g i j a body) (.For (.Tuple elts kk tp) (.Call (.Name x p) [y] [] q) b [] pos) := fun A env Pv W σ s Q E ok hfn at_ h => by
  refine need_e h fun w hg h => ?_
  cases isEnu_e h.1
  refine wpAny_For ?_ (fun _ => rfl)
  refine call1 hf ha hc hg rfl ok at_ h.2 fun W₂ σ₂ s₂ cv v T hz h => need_e h fun y' ey h => need_e h fun xs ex h => ?_
  have ey' : y' = .lst xs := by cases y' <;> first | (cases ex; rfl) | cases ex
  subst ey'
  obtain ⟨l, vs, m, rfl, gg, r, q, zz⟩ := (see_ok T.at_.rel hz ey).toLst rfl
  have hL : s₂.heap.IsList l vs := isList_of gg
  refine call_enumerate_list hL fun h' hE hI hsz hk => ?_
  refine wpAny_pyIter_enum hE ?_
  have nJ : s₂.heap.get? s₂.heap.objs.size = none := push_none _
  have nI : s₂.heap.get? (s₂.heap.objs.size + 1) = none := Heap.get?_none_of_le (Nat.le_succ _)
  have ne : s₂.heap.objs.size + 1 ≠ s₂.heap.objs.size := Nat.succ_ne_self _
  have T₂ : Tf X env Pv W σ s W₂ σ₂ { s₂ with heap := h' } := T.trans (Tf.more (tk := s₂.toks) T.at_ hk)
  have LI : Lone X env Pv W₂ σ₂.H h' (s₂.heap.objs.size + 1) := Lone.new T.at_ nI ⟨_, hE⟩
  have LJ : Lone X env Pv W₂ σ₂.H h' s₂.heap.objs.size := Lone.new T.at_ nJ (hI.elim fun o q => ⟨o, q.1⟩)
  have nI₀ := not_there nI T.stp.there
  have nJ₀ := not_there nJ T.stp.there
  generalize s₂.heap.objs.size + 1 = I at hE LI nI₀ ne ⊢
  generalize s₂.heap.objs.size = J at hE hI LJ nJ₀ ne ⊢
  refine codeAny_forLoop_any (EnI X env Pv W σ s I J l v xs fun ys σ' => loopGo (fun v σ₂ k => bindT [i, j] v σ₂ fun σ₃ => wpSs X.P (CW X.P n) body σ₃ k noE) (fun H => see H v = some (.lst xs)) ys σ' Q) (fun m s' hI => ?_) xs.length ⟨0, .none, W₂, σ₂, xs, T₂, hE, hI, LI, LJ, hz, ⟨rfl, Nat.zero_add _, rfl⟩, h⟩
  obtain ⟨k, old, W', σ', ys, T, he, hi, LI, LJ, r', st, q⟩ := hI
  have seen : see σ'.H v = some (.lst xs) → ∃ vs : Array Value, s'.heap.IsList l vs ∧ VRs X W' vs.toList xs ∧ vs.size = xs.length := fun e => by
    obtain ⟨l', vs, m', e', gg, rr, _, zz⟩ := (see_ok T.at_.rel r' e).toLst rfl
    cases e'
    exact ⟨vs, isList_of gg, rr, zz⟩
  cases ys with
  | nil =>
    obtain ⟨vs, hL, rr, zz⟩ := seen q.1
    cases st.nil
    refine wpAny_pyNext_enum_end (ok.hh hd) he hi hL (Array.getElem?_eq_none (Nat.le_of_eq zz)) fun h'' ex => wpAny_execs_nil ?_
    exact (T.poke (tk := s'.toks) nJ₀ LJ ex).flow .next q.2
  | cons u us =>
    obtain ⟨vs, hL, rr, zz⟩ := seen q.1
    obtain ⟨hu, lt, st'⟩ := st.cons
    obtain ⟨cu, hcu, hr⟩ := rr.get hu
    rw [Array.getElem?_toList] at hcu
    refine wpAny_pyNext_enum_item he hi hL hcu ne fun h₁ heo hit₁ ht₁ hz₁ hk₁ => ?_
    refine wpAny_letOwnedTupleGo_enum heo fun h₂ he₂ hs₂ => ?_
    replace hs₂ : Heap.SameBut I h₁ h₂ := hs₂
    have kp : ∀ b o, ¬ (b = I ∨ b = J) → s'.heap.get? b = some o → h₂.get? b = some o := fun b o nb e => (hs₂.2 b fun z => nb (.inl z)).trans (hk₁ b o (fun z => nb (.inl z)) (fun z => nb (.inr z)) e)
    have LL : ∀ B, B = I ∨ B = J → Lone X env Pv W' σ'.H s'.heap B := fun B z => z.elim (fun z => z ▸ LI) fun z => z ▸ LJ
    have T' : Tf X env Pv W σ s W' σ' { s' with heap := h₂, toks := s'.toks + 1 } := T.pokeB (B := fun b => b = I ∨ b = J) (fun B z => z.elim (fun z => z ▸ nI₀) fun z => z ▸ nJ₀) LL kp
    have hi₂ : h₂.IsListIter J l (k + 1) := hit₁.at fun o e => (hs₂.2 J ne.symm).trans e
    have LI' : Lone X env Pv W' σ'.H h₂ I := ⟨LI.own, LI.z, LI.pv, LI.cell, LI.fr, _, he₂⟩
    have LJ' : Lone X env Pv W' σ'.H h₂ J := ⟨LJ.own, LJ.z, LJ.pv, LJ.cell, LJ.fr, hi₂.elim fun o q => ⟨o, q.1⟩⟩
    have tup : h₂.get? s'.heap.objs.size = some { cls := .type "tuple", data := .seq #[.int k s'.toks, cu] } := (hs₂.2 _ fun z => absurd (Heap.lt_size he) (z ▸ Nat.lt_irrefl _)).trans ht₁
    have hvs : VRs X W' [.int k s'.toks, cu] [.int k, u] := .cons (.int _ _) (.cons hr .nil)
    have hgo : bindGo [i, j] [.int k, u] σ' fun σ₃ => wpSs X.P (CW X.P n) body σ₃ (fun fl σ₁ => endK fl σ₁ (fun σ₂ => loopGo (fun v σ₂ k => bindT [i, j] v σ₂ fun σ₃ => wpSs X.P (CW X.P n) body σ₃ k noE) (fun H => see H v = some (.lst xs)) (enumL ((k : Int) + 1) us) σ₂ Q) Q) noE := q.2
    have len := bind_len (env := env) [i, j] elts [.int k, u] [.int k s'.toks, cu] σ' _ ht hvs hgo
    refine assign_Tuple_tuple (ok.hh hd) ⟨_, tup, rfl, _, rfl⟩ len.1 len.2 fun h₃ he₃ => ?_
    have T₃ : Tf X env Pv W' σ' { s' with heap := h₂, toks := s'.toks + 1 } W' σ' { s' with heap := h₃, toks := s'.toks + 1 } := Tf.more (tk := s'.toks + 1) T'.at_ fun b o q => he₃ b o (fun z => by rw [z, push_none] at q; cases q) q
    refine bind_each K ok [i, j] elts [.int k, u] [.int k s'.toks, cu] σ' _ _ ht T₃.at_ hvs hgo fun s₄ σ₄ T₄ q => ?_
    have TT := T₃.trans T₄
    have LI₄ := LI'.step TT.stp
    have LJ₄ := LJ'.step TT.stp
    have he₄ := LI'.keep TT.stp _ he₂ (fun es n q => by cases q)
    have hi₄ : s₄.heap.IsListIter J l (k + 1) := by
      obtain ⟨o, ho, hc, hd⟩ := hi₂
      exact ⟨o, LJ'.keep TT.stp o ho (fun es n q => by rw [hd] at q; cases q), hc, hd⟩
    refine wpAny_mono (hb A env Pv W' σ₄ s₄ _ noE ok hfn TT.at_ q) (fun fl s₅ q => q.e fun W₅ σ₅ T₅ q => q.e fun af hfr q₅ => ?_) fun _ _ z => z.no.elim
    have T'' := (T'.trans TT).trans T₅
    have again := fun g => (⟨us.length, lt, k + 1, cu, W₅, σ₅, us, T'', (by
        have := LI₄.keep T₅.stp _ he₄ (fun es n q => by cases q)
        rw [show (((k + 1 : Nat)) : Int) = (k : Int) + 1 from rfl]; exact this), (by
        obtain ⟨o, ho, hc, hd⟩ := hi₄
        exact ⟨o, LJ₄.keep T₅.stp o ho (fun es n q => by rw [hd] at q; cases q), hc, hd⟩), LI₄.step T₅.stp, LJ₄.step T₅.stp, r'.le (TT.stp.le.trans T₅.stp.le), st', g⟩ : ∃ m', m' < m ∧ EnI X env Pv W σ s I J l v xs (fun ys σ' => loopGo (fun v σ₂ k => bindT [i, j] v σ₂ fun σ₃ => wpSs X.P (CW X.P n) body σ₃ k noE) (fun H => see H v = some (.lst xs)) ys σ' Q) m' s₅)
    cases hfr with
    | next => exact again q₅
    | cont => exact again q₅
    | brk => exact T''.flow .next q₅
    | ret hr => exact T''.flow (.ret hr) q₅
end
end Mine

end

section
set_option autoImplicit false
set_option linter.all false
set_option genSizeOf false
set_option genInjectivity false
namespace Mine
open PySem PySem.W PySem.Calls PyProof.Rows

section
variable {X : Cx} {n : Nat} {sc : Sc}

/-- a name's kind, in a comprehension -/
noncomputable def rl (env : Env) (x : Str) (k : NameKind) : NameKind := if (k == NameKind.free && env.scope.kind == .function && env.kindOf x == some .cell) then NameKind.cell else k
theorem rl_local {env : Env} {x : Str} {k : NameKind} (h : rl env x k = .local) : k = .local := by
  cases k with
  | «local» => rfl
  | free =>
    unfold rl at h
    split at h
    · cases h
    · exact h
  | _ => cases h
theorem rl_free {env : Env} {x : Str} {k : NameKind} (nk : k ≠ .cell) (h : rl env x k = .cell ∨ rl env x k = .free) : k = .free := by
  cases k with
  | free => rfl
  | cell => exact absurd rfl nk
  | _ => rcases h with h | h <;> cases h
theorem rl_is {env : Env} {x : Str} (k : NameKind) : rl env x k = k ∨ (k = .free ∧ rl env x k = .cell) := by
  cases k with
  | free =>
    unfold rl
    split
    · exact .inr ⟨rfl, rfl⟩
    · exact .inl rfl
  | _ => exact .inl rfl
theorem lookup_relabel {env : Env} (x : Str) (names : List (Str × NameKind)) : (names.map fun (n, k) => if (k == NameKind.free && env.scope.kind == .function && env.kindOf n == some .cell) then (n, NameKind.cell) else (n, k)).lookup x = (names.lookup x).map (rl env x) := by
  induction names with
  | nil => rfl
  | cons p r ih =>
    obtain ⟨y, k⟩ := p
    have e : (if (k == NameKind.free && env.scope.kind == .function && env.kindOf y == some .cell) = true then (y, NameKind.cell) else (y, k)) = (y, rl env y k) := by unfold rl; split <;> rfl
    rw [List.map_cons]
    show List.lookup x ((if (k == NameKind.free && env.scope.kind == .function && env.kindOf y == some .cell) = true then (y, NameKind.cell) else (y, k)) :: _) = _
    rw [e, List.lookup_cons, List.lookup_cons, ih]
    cases hx : x == y with
    | true => rw [eq_of_beq hx]; rfl
    | false => rfl
theorem lookup_mem {α β : Type} [BEq α] [LawfulBEq α] {l : List (α × β)} {x : α} {k : β} (h : l.lookup x = some k) : (x, k) ∈ l := by
  induction l with
  | nil => cases h
  | cons p r ih =>
    obtain ⟨y, j⟩ := p
    rw [List.lookup_cons] at h
    cases hb : x == y with
    | true => rw [hb] at h; cases h; rw [eq_of_beq hb]; exact .head _
    | false => rw [hb] at h; exact .tail _ (ih h)
theorem uniq_lookup {l : List (Str × NameKind)} (hu : uniq l = true) {x : Str} {k : NameKind} (h : (x, k) ∈ l) : l.lookup x = some k := by
  induction l with
  | nil => cases h
  | cons p r ih =>
    obtain ⟨y, j⟩ := p
    refine and_e hu fun h1 h2 => ?_
    rw [List.lookup_cons]
    rcases List.mem_cons.mp h with q | q
    · cases q; rw [beq_self_eq_true]
    · rw [show (x == y) = false from Bool.not_eq_true' _ ▸ List.all_eq_true.mp h1 _ q]; exact ih h2 q

/-- what is known of a comprehension's names -/
structure ScOk (X : Cx) (sc : Sc) (sc' : Scope) (ts : List Nat) : Prop where
  kind : sc'.kind = .function
  uniq : uniq sc'.names = true
  cell : ∀ x, (x, NameKind.cell) ∉ sc'.names
  free : ∀ x, (x, NameKind.free) ∈ sc'.names → (Nat.beq (knd sc x) 2 || Nat.beq (knd sc x) 3) = true
  loc : ∀ i, (X.nm i, NameKind.local) ∈ sc'.names → X.nm i = (".0" : Str) ∨ ∃ j ∈ ts, X.nm i = X.nm j
theorem sc_ok {sc' : Scope} {ts : List Nat} (h : chkSc X.nm sc sc' ts = true) : ScOk X sc sc' ts := and3_e h fun h1 h2 h3 => by
  have a := List.all_eq_true.mp h3
  refine ⟨?_, h2, fun x hx => (nomatch a _ hx), fun x hx => a _ hx, fun i hx => ?_⟩
  · cases e : sc'.kind <;> rw [e] at h1 <;> first | rfl | cases h1
  · rcases Bool.or_eq_true_iff.mp (a _ hx) with q | q
    · exact .inl (eq_of_beq q)
    · obtain ⟨j, hj, q⟩ := List.any_eq_true.mp q
      exact .inr ⟨j, hj, of_decide_eq_true q⟩
section
variable {A : Around} {env : Env} {Pv : Pr} {sc' : Scope} {ts : List Nat}
theorem out_of {x : Str} (ok : EnvOk X A env Pv n sc) (h : (Nat.beq (knd sc x) 2 || Nat.beq (knd sc x) 3) = true) : env.kindOf x = some .cell ∨ env.kindOf x = some .free := by
  rcases Bool.or_eq_true_iff.mp h with q | q
  · exact .inl (kind_of ok q (by decide) (by decide))
  · exact (ok.names _ _ (knd_of (Nat.eq_of_beq_eq_true q) (by decide))).elim .inr fun z => .inl z.2

/-- the closure of a comprehension -/
inductive ClO (env : Env) (names : List (Str × NameKind)) (cs : List (Str × Addr)) (f : Str × NameKind → List (Str × Addr) → Sem (ForInStep (List (Str × Addr)))) : Prop
  | mk (cl : List (Str × Addr)) (h1 : forIn names cs f = (pure cl : Sem (List (Str × Addr)))) (h2 : ∀ x c, cl.lookup x = some c → env.cells.lookup x = some c) (h3 : ∀ x, (x, NameKind.free) ∈ names → ∃ c, cl.lookup x = some c) (h4 : ∀ x c, cs.lookup x = some c → ∃ c', cl.lookup x = some c')
theorem lookup_eq {α : Type} {x y : Str} {c : α} {r : List (Str × α)} (h : (x == y) = true) : ((y, c) :: r).lookup x = some c := by rw [List.lookup_cons, h]
theorem lookup_ne {α : Type} {x y : Str} {c : α} {r : List (Str × α)} (h : (x == y) = false) : ((y, c) :: r).lookup x = r.lookup x := by rw [List.lookup_cons, h]
theorem closure_go {env : Env} {f : Str × NameKind → List (Str × Addr) → Sem (ForInStep (List (Str × Addr)))} (hf : ∀ x k r, f (x, k) r = if (k == NameKind.free) = true then (do let c ← cellOf env x; pure (.yield ((x, c) :: r))) else pure (.yield r))
    (names : List (Str × NameKind)) : ∀ cs : List (Str × Addr), (∀ x, (x, NameKind.free) ∈ names → ∃ c, env.cells.lookup x = some c) → (∀ x c, cs.lookup x = some c → env.cells.lookup x = some c) → ClO env names cs f := by
  induction names with
  | nil => exact fun cs _ hc => ⟨cs, rfl, hc, fun _ h => (nomatch h), fun _ c e => ⟨c, e⟩⟩
  | cons p r ih =>
    intro cs hn hc
    obtain ⟨y, k⟩ := p
    have hn' : ∀ x, (x, NameKind.free) ∈ r → ∃ c, env.cells.lookup x = some c := fun x h => hn x (.tail _ h)
    by_cases hk : (k == NameKind.free) = true
    · have e : k = .free := by cases k <;> first | rfl | cases hk
      subst e
      obtain ⟨c, ec⟩ := hn y (.head _)
      obtain ⟨cl, h1, h2, h3, h4⟩ := ih ((y, c) :: cs) hn' fun x d q => by
        cases hb : x == y with
        | true => rw [lookup_eq hb] at q; cases q; rw [eq_of_beq hb]; exact ec
        | false => rw [lookup_ne hb] at q; exact hc x d q
      refine ⟨cl, ?_, h2, fun x hx => ?_, fun x d q => ?_⟩
      · rw [List.forIn_cons, hf, if_pos hk, show cellOf env y = pure c by unfold cellOf; rw [ec], ← h1]; rfl
      · rcases List.mem_cons.mp hx with q | q
        · cases q; exact h4 y c (lookup_eq (beq_self_eq_true y))
        · exact h3 x q
      · cases hb : x == y with
        | true => exact h4 x c (lookup_eq hb)
        | false => exact h4 x d ((lookup_ne hb).trans q)
    · obtain ⟨cl, h1, h2, h3, h4⟩ := ih cs hn' hc
      refine ⟨cl, ?_, h2, fun x hx => ?_, h4⟩
      · rw [List.forIn_cons, hf, if_neg hk, ← h1]; rfl
      · rcases List.mem_cons.mp hx with q | q
        · cases q; exact absurd rfl hk
        · exact h3 x q
/-- what a comprehension's frame is made of -/
structure CompFacts (X : Cx) (sc : Sc) (sc' : Scope) (env : Env) (ts : List Nat) (cl : List (Str × Addr)) : Prop extends ScOk X sc sc' ts where
  clos : closureFor sc' env = pure cl
  h2 : ∀ x c, cl.lookup x = some c → env.cells.lookup x = some c
  h3 : ∀ x, (x, NameKind.free) ∈ sc'.names → ∃ c, cl.lookup x = some c
theorem comp_facts (ok : EnvOk X A env Pv n sc) (hsc : chkSc X.nm sc sc' ts = true) : ∃ cl, CompFacts X sc sc' env ts cl := by
  have S := sc_ok hsc
  obtain ⟨cl, h1, h2, h3, _⟩ := closure_go (env := env) (f := fun (x : Str × NameKind) r => if (x.2 == NameKind.free) = true then (do let c ← cellOf env x.1; pure (.yield ((x.1, c) :: r))) else pure (.yield r)) (fun _ _ _ => rfl) sc'.names [] (fun x hx => ok.cl x (out_of ok (S.free x hx))) (fun x c q => by cases q)
  refine ⟨cl, S, ?_, h2, h3⟩
  show (forIn sc'.names [] (fun (x : Str × NameKind) r => if (x.2 == NameKind.free) = true then (do let c ← cellOf env x.1; pure (.yield ((x.1, c) :: r))) else pure (.yield r)) >>= fun r => pure r) = pure cl
  rw [h1]; rfl

/-- the place of a comprehension's own names -/
noncomputable def only (C : Addr) (st : List Env) : Pr := ⟨fun a => a = C, st⟩
theorem kind_in {cl : List (Str × Addr)} {C : Addr} (x : Str) : (compEnvC sc' cl C env).kindOf x = (sc'.names.lookup x).map (rl env x) := lookup_relabel x sc'.names
/-- a name from around -/
theorem CompFacts.out {cl : List (Str × Addr)} {C : Addr} {x : Str} (F : CompFacts X sc sc' env ts cl) (e : (compEnvC sc' cl C env).kindOf x = some .cell ∨ (compEnvC sc' cl C env).kindOf x = some .free) : (x, NameKind.free) ∈ sc'.names := by
  rw [kind_in] at e
  cases hq : sc'.names.lookup x with
  | none => rw [hq] at e; rcases e with e | e <;> cases e
  | some k =>
    rw [hq] at e
    have m := lookup_mem hq
    cases rl_free (fun z => F.cell x (z ▸ m)) (e.imp Option.some.inj Option.some.inj)
    exact m
theorem comp_env {cl : List (Str × Addr)} {C : Addr} (ok : EnvOk X A env Pv n sc) (F : CompFacts X sc sc' env ts cl) (hhd : sc.hd = true) : EnvOk X A (compEnvC sc' cl C env) (only C Pv.st) n ⟨sc', true⟩ := by
  refine ⟨ok.stk, fun z => absurd rfl z, ok.ok, fun _ => ok.hh hhd, F.kind, ok.glob, ok.bi, fun x k e => ?_, fun x e => F.h3 x (F.out e)⟩
  rw [kind_in, show sc'.names.lookup x = some k from e]
  exact (rl_is k).imp (congrArg some) fun z => ⟨z.1, congrArg some z.2⟩

/-- the comprehension's frame at its start -/
theorem comp_at (K : CxOk X) {W : Wd} {σ : St} {s : Shared} {cl : List (Str × Addr)} {C : Addr} {h' : Heap} {tk : Nat} (ok : EnvOk X A env Pv n sc) (at_ : At X env Pv W σ s) (F' : CompFacts X sc sc' env ts cl)
    (hn : s.heap.get? C = none) (hk : ∀ b o, s.heap.get? b = some o → h'.get? b = some o) (hC : ∃ m, h'.Ns C m) : At X (compEnvC sc' cl C env) (only C Pv.st) W ⟨σ.H, unbs ts σ.loc⟩ { s with heap := h', toks := tk } := by
  have F := at_.fr
  have L : Lone X env Pv W σ.H h' C := Lone.new at_ hn (let ⟨_, o, _, _, ho, _⟩ := hC; ⟨o, ho⟩)
  have ub : ∀ i v, unbs ts σ.loc i = some v → i ∉ ts ∧ σ.loc i = some v := fun i v e => by
    have e' : (if ts.contains i then none else σ.loc i) = some v := e
    by_cases hi : i ∈ ts
    · rw [if_pos (List.contains_iff_mem.mpr hi)] at e'; cases e'
    · rw [if_neg (fun z => hi (List.contains_iff_mem.mp z))] at e'; exact ⟨hi, e'⟩
  refine ⟨at_.rel.quiet (Pv := noPv) (fun b o e _ => hk b o e) fun _ z => z.elim, ?_, fun i v e k => ?_, fun x ef _ => absurd rfl ef, fun x y c e e' => F.cellEq x y c (F'.h2 _ _ e) (F'.h2 _ _ e'), fun x c e => ?_, rfl, fun a e => ?_, fun a e => ?_, fun e he => (F.frs e he).keep fun K o es n a b c d f => ⟨⟨o, es, n, hk _ _ b, c⟩, d, f⟩, fun x c q => F.frc x c (F'.h2 _ _ q)⟩
  · obtain ⟨m, hm⟩ := hC
    refine ⟨m, hm, fun i v e k => ?_⟩
    rw [kind_in] at k
    cases hq : sc'.names.lookup (X.nm i) with
    | none => rw [hq] at k; cases k
    | some kk =>
      rw [hq] at k
      cases rl_local (Option.some.inj k)
      rcases F'.loc i (lookup_mem hq) with q | ⟨j, hj, q⟩
      · exact absurd q (K.dot i)
      · exact absurd (K.inj _ _ q ▸ hj) (ub i v e).1
  · have hm := F'.out k
    obtain ⟨c, cv, hc, ⟨o, ho, hd⟩, hv⟩ := F.cells i v (ub i v e).2 (out_of ok (F'.free _ hm))
    obtain ⟨c', hc'⟩ := F'.h3 _ hm
    cases Option.some.inj ((F'.h2 _ _ hc').symm.trans hc)
    exact ⟨c, cv, hc', ⟨o, hk _ _ ho, hd⟩, hv⟩
  · obtain ⟨p, q, o, ho⟩ := F.cellNs x c (F'.h2 _ _ e)
    exact ⟨fun z => (by rw [show c = C from z, hn] at ho; cases ho), q, o, hk _ _ ho⟩
  · rw [show a = C from e]; exact ⟨L.own, L.z⟩
  · rw [show a = C from e]; exact L.at_
end

/-- a lone list is taken up -/
inductive AdL (X : Cx) (fz : Bool) (W : Wd) (H : Hp) (s : Shared) (W' : Wd) (H' : Hp) (s' : Shared) (D : Addr) (xs : List V) : Prop
  | mk (W'' : Wd) (H'' : Hp) (t : Tc X W H s W'' H'' s') (r : Res X fz H' (.newList xs) (.ref D) W'' H'') (o : ∀ b, b ≠ D → ¬ Own W' H' b → W'.Z b = none → ¬ Own W'' H'' b ∧ W''.Z b = none)
theorem adopt_list {W W' : Wd} {H H' : Hp} {s s' : Shared} {D : Addr} {vs : Array Value} {k : Nat} {xs : List V} {fz : Bool} (T : Tc X W H s W' H' s') (hn : s.heap.get? D = none) (ho : ¬ Own W' H' D) (hz : W'.Z D = none)
    (hg : s'.heap.get? D = some (lstO vs k)) (hv : VRs X W' vs.toList xs) (hl : xs.length ≤ SZ) : AdL X fz W H s W' H' s' D xs := by
  have hD : (hideAll s'.heap [D]).get? D = none := hideAll_none _ (.head _)
  have of : ∀ b o, (hideAll s'.heap [D]).get? b = some o → s'.heap.get? b = some o := fun b o e => of_hideAll _ e
  have to : ∀ b o, b ≠ D → s'.heap.get? b = some o → (hideAll s'.heap [D]).get? b = some o := fun b o n e => hideAll_get _ e (by simpa using n)
  have R : RelH X W' H' (hideAll s'.heap [D]) := T.rel.quiet (Pv := fun a => a = D) (fun a o e n => to a o n e) fun a e => by subst e; exact ⟨ho, hz⟩
  have S : Stp noPv W H s.heap W' H' (hideAll s'.heap [D]) := T.stp.poke hn fun b o n e => to b o n e
  cases fz with
  | true =>
    obtain ⟨r, t⟩ := R.frozen of hD hg
    exact ⟨_, _, ⟨S.trans t, r, T.rest⟩, ⟨.lst addZ_self (hv.le t.le) hl, rfl⟩, fun b nb ob zb => ⟨fun z => ob (Own.addZ.mp z), (if_neg nb).trans zb⟩⟩
  | false =>
    obtain ⟨r, t⟩ := R.fresh (l := (D, D)) (c := .list xs) of hD hD ⟨vs, k, hg, hv.le R.leF, rfl, hl⟩
    exact ⟨_, _, ⟨S.trans t, r, T.rest⟩, ⟨VR.ref (l := (D, D)) addφ_self, rfl⟩, fun b nb ob zb => ⟨fun q => (R.own_new q).elim ob fun q => q.elim nb nb, zb⟩⟩
end
end Mine

end

section
set_option autoImplicit false
set_option linter.all false
set_option genSizeOf false
set_option genInjectivity false
namespace Mine
open PySem PySem.W PySem.Calls PyProof.Rows

section
variable {X : Cx} {n : Nat} {sc : Sc}

theorem iter_self {A : Around} {E : Value → Shared → Prop} {W : Wd} {s : Shared} {I : Addr} {v : V} {k : Nat} {Q : Value → Shared → Prop} (it : ItAt X W s.heap I v k) (h : Q (.ref I) s) : wpAny (model X.prog X.w) A (pyIter (.ref I)) Q E s := by
  cases it with
  | lst a r q it => exact wpAny_pyIter_listiter it h
  | tup a xs e r it => exact wpAny_pyIter_tupleiter it h
  | rng a b c e hc it => exact wpAny_pyIter_rangeiter it h
/-- the ifs of a comprehension -/
abbrev ifsT (ifs : List Expr) (env : Env) : Sem Bool := forIn ifs true fun c r => if r = true then do let ok ← isTrue c env (eval c env); pure (ForInStep.yield ok) else pure (ForInStep.yield r)
noncomputable def SCo (X : Cx) (n : Nat) (sc : Sc) (p : PCo) (ifs : List Expr) : Prop := ∀ (A : Around) (env : Env) (Pv : Pr) (W : Wd) (σ : St) (s : Shared) (Q : Bool → St → Prop) (E : EP),
  EnvOk X A env Pv n sc → At X env Pv W σ s → wpC X.P (CW X.P n) E p σ Q → Ew X A env Pv (ifsT ifs env) W σ s (BQ Q) E
theorem snd_c_nil : SCo X n sc .none [] := fun A env Pv W σ s Q E ok at_ h => wpAny_pure (at_.bl (tk := s.toks) h)
theorem snd_c_one {t : PC} {x : Expr} (ht : ST X n sc t x) : SCo X n sc (.some t) [x] := fun A env Pv W σ s Q E ok at_ h => by
  unfold ifsT
  rw [List.forIn_cons, if_pos rfl]
  exact wpAny_bind (wpAny_bind (wpAny_mono (ht A env Pv W σ s _ E ok at_ h) (fun b s' q => wpAny_pure (wpAny_pure q)) fun _ _ y => y))

/-- the turns of a comprehension, the target any -/
theorem comp_turns {A : Around} {s : Shared} {R : Result → Shared → Prop} {elt target iter : Expr} {ifs : List Expr} {scope : Scope} {pos : Pos} {it acc : Value} {env : Env} (J : Nat → Shared → Prop)
    (turn : ∀ k s, J k s → wpAny (model X.prog X.w) A (pyNext it) (fun r s₁ => match r with
      | none => R (.ok .next) s₁
      | some v => wpAny (model X.prog X.w) A (letOwnedTupleGo target it v) (fun _ s₁ => wpAny (model X.prog X.w) A (assign target env v) (fun _ s₂ =>
          wpAny (model X.prog X.w) A (ifsT ifs env) (fun ok s₃ =>
            if ok = true then wpAny (model X.prog X.w) A (eval elt env) (fun x s₄ =>
              wpAny (model X.prog X.w) A (call (.builtin "list.append") [acc, x]) (fun _ s₅ => ∃ m, m < k ∧ J m s₅) (fun _ _ => False) s₄) (fun _ _ => False) s₃
            else ∃ m, m < k ∧ J m s₃) (fun _ _ => False) s₂) (fun _ _ => False) s₁) (fun _ _ => False) s₁) (fun _ _ => False) s)
    (k : Nat) (h : J k s) : codeAny (model X.prog X.w) A (.compLoop (.ListComp elt [⟨target, iter, ifs, 0⟩] scope pos) 0 it acc env) R s := by
  refine codeAny_loop rfl J (fun k s hJ => ?_) k h
  show wpAny _ A ((compTurn (.ListComp elt [⟨target, iter, ifs, 0⟩] scope pos) 0 it acc env).onRaise _) _ _ s
  refine wpAny_noted (wpAny_mono (E := fun _ _ => False) ?_ (fun _ _ z => z) fun _ _ z => z.elim)
  rw [compTurn_list]
  refine wpAny_bind (wpAny_standAt (wpAny_bind (wpAny_mono (turn k s hJ) (fun r s₁ h₁ => ?_) fun _ _ z => z)))
  cases r with
  | none => exact wpAny_pure h₁
  | some v =>
    refine wpAny_bind (wpAny_mono h₁ (fun _ s₁' h₁' => wpAny_bind (wpAny_mono h₁' (fun _ s₂ h₂ => wpAny_bind (wpAny_mono h₂ (fun ok s₃ h₃ => ?_) fun _ _ z => z)) fun _ _ z => z)) fun _ _ z => z)
    cases ok with
    | false => exact wpAny_pure ⟨rfl, h₃⟩
    | true => exact wpAny_bind (wpAny_bind (wpAny_mono h₃ (fun x s₄ h₄ => wpAny_bind (wpAny_mono h₄ (fun _ s₅ h₅ => wpAny_pure (wpAny_pure ⟨rfl, h₅⟩)) fun _ _ z => z)) fun _ _ z => z))

/-- the iterator and the list in the making -/
structure Dp (X : Cx) (env : Env) (Pv : Pr) (W : Wd) (H : Hp) (h : Heap) (I D : Addr) (v : V) (k : Nat) (cvs : Array Value) (nn : Nat) (acc : List V) : Prop where
  it : ItAt X W h I v k
  LI : Lone X env Pv W H h I
  LD : Lone X env Pv W H h D
  g : h.get? D = some (lstO cvs nn)
  acc : VRs X W cvs.toList acc
theorem lst_nn {cs : Array Value} {k : Nat} : NoNames (lstO cs k) := fun es n q => by cases q
theorem Dp.step {env : Env} {Pv : Pr} {W W' : Wd} {H H' : Hp} {h h' : Heap} {I D : Addr} {v : V} {k : Nat} {cvs : Array Value} {nn : Nat} {acc : List V} (P : Dp X env Pv W H h I D v k cvs nn acc) (S : Stp Pv.pv W H h W' H' h') : Dp X env Pv W' H' h' I D v k cvs nn acc :=
  ⟨P.it.keep S.le (P.LI.keep S), P.LI.step S, P.LD.step S, P.LD.keep S _ P.g lst_nn, P.acc.le S.le⟩
theorem Lone.at' {env : Env} {Pv : Pr} {W : Wd} {H : Hp} {h h' : Heap} {I : Addr} (L : Lone X env Pv W H h I) (h : ∃ o, h'.get? I = some o) : Lone X env Pv W H h' I := ⟨L.own, L.z, L.pv, L.cell, L.fr, h⟩
/-- seen from outside, and from inside -/
structure Inn (X : Cx) (W : Wd) (H : Hp) (s : Shared) (env : Env) (C : Addr) (st : List Env) (W' : Wd) (σ' : St) (s' : Shared) : Prop where
  tc : Tc X W H s W' σ'.H s'
  at_ : At X env (only C st) W' σ' s'
section
variable {W W' W'' : Wd} {H : Hp} {σ' σ'' : St} {s s' s'' : Shared} {env : Env} {C : Addr} {st : List Env}
theorem Inn.step (P : Inn X W H s env C st W' σ' s') (T' : Tf X env (only C st) W' σ' s' W'' σ'' s'') (hn : s.heap.get? C = none) : Inn X W H s env C st W'' σ'' s'' :=
  ⟨⟨P.tc.stp.transFresh T'.stp fun x e => .inl (by rw [show x = C from e]; exact hn), T'.at_.rel, P.tc.rest.trans T'.rest⟩, T'.at_⟩
theorem Tc.poke {H' : Hp} {I : Addr} {h'' : Heap} {tk : Nat} (T : Tc X W H s W' H' s') (hn : s.heap.get? I = none) (ho : ¬ Own W' H' I) (hz : W'.Z I = none) (hs : Heap.ExtBut I s'.heap h'') : Tc X W H s W' H' { s' with heap := h'', toks := tk } :=
  ⟨T.stp.poke hn hs, T.rel.quiet (Pv := fun b => b = I) (fun b o e m => hs b o m e) (fun b e => by subst e; exact ⟨ho, hz⟩), ⟨T.rest.gens, T.rest.drawn, T.rest.os⟩⟩
theorem Inn.poke {I : Addr} {h'' : Heap} {tk : Nat} (P : Inn X W H s env C st W' σ' s') (hn : s.heap.get? I = none) (L : Lone X env (only C st) W' σ'.H s'.heap I) (hs : Heap.ExtBut I s'.heap h'') : Inn X W H s env C st W' σ' { s' with heap := h'', toks := tk } :=
  ⟨P.tc.poke hn L.own L.z hs, P.at_.poke L hs⟩
end
/-- the state of the turns -/
inductive CpI (X : Cx) (W : Wd) (H : Hp) (s : Shared) (env : Env) (C : Addr) (st : List Env) (I D : Addr) (v : V) (xs : List V) (go : List V → List V → St → Prop) (m : Nat) (s' : Shared) : Prop
  | mk (k : Nat) (W' : Wd) (σ' : St) (ys acc : List V) (cvs : Array Value) (nn : Nat) (T : Inn X W H s env C st W' σ' s') (P : Dp X env (only C st) W' σ'.H s'.heap I D v k cvs nn acc) (sd : Stand xs k ys m) (q : go ys acc σ')
/-- at the end -/
inductive CpE (X : Cx) (W : Wd) (H : Hp) (s : Shared) (D C : Addr) (W' : Wd) (H' : Hp) (s' : Shared) (ys : List V) : Prop
  | mk (cvs : Array Value) (k : Nat) (m : Str → Option Value) (t : Tc X W H s W' H' s') (sD : s.heap.get? D = none) (sC : s.heap.get? C = none) (ne : D ≠ C) (oD : ¬ Own W' H' D) (zD : W'.Z D = none) (oC : ¬ Own W' H' C) (zC : W'.Z C = none) (g : s'.heap.get? D = some (lstO cvs k)) (hv : VRs X W' cvs.toList ys) (hz : ys.length ≤ SZ) (ns : s'.heap.Ns C m)

section
variable {A : Around} {env : Env} {Pv : Pr} {W : Wd} {σ : St} {s : Shared} {v : V} {xs : List V} {ts : List Nat} {elt : PE} {cond : PCo} {e x : Expr} {ifs : List Expr} {y : Expr} {pos : Pos} {sc' : Scope} {cl : List (Str × Addr)} {Qc : List V → St → Prop}
/-- what a comprehension computes -/
abbrev cgo (X : Cx) (n : Nat) (elt : PE) (ts : List Nat) (cond : PCo) (v : V) (xs : List V) (Qc : List V → St → Prop) (ys acc : List V) (σ : St) : Prop := compGo (fun σ₂ k => wpC X.P (CW X.P n) noE cond σ₂ k) (fun σ₂ k => wpE X.P (CW X.P n) noE elt σ₂ k) ts (still v xs) ys acc σ Qc
theorem comp_loop (K : CxOk X) {cenv : Env} {C I D : Addr} {st : List Env} {R : Result → Shared → Prop} {s₀ : Shared} {m : Nat} (okc : EnvOk X A cenv (only C st) n ⟨sc', true⟩) (he : SE X n ⟨sc', true⟩ elt e) (hc : SCo X n ⟨sc', true⟩ cond ifs) (hct : chkTgt X.nm ⟨sc', true⟩ ts y = true)
    (sI : s.heap.get? I = none) (sD : s.heap.get? D = none) (sC : s.heap.get? C = none) (nDI : D ≠ I) (nDC : D ≠ C) (lC : cenv.locals = C) (h : CpI X W σ.H s cenv C st I D v xs (cgo X n elt ts cond v xs Qc) m s₀)
    (hR : ∀ W' H' loc' s' ys, CpE X W σ.H s D C W' H' s' ys → Qc ys ⟨H', loc'⟩ → R (.ok .next) s') :
    codeAny (model X.prog X.w) A (.compLoop (.ListComp e [⟨y, x, ifs, 0⟩] sc' pos) 0 (.ref I) (.ref D) cenv) R s₀ := by
  have hh := okc.hh rfl
  refine comp_turns _ (fun m s' hI => ?_) m h
  obtain ⟨k, W', σ', ys, acc, cvs, nn, T, P, sd, q⟩ := hI
  cases ys with
  | nil =>
    cases sd.nil
    refine next_end hh T.at_.rel P.it q.1 fun h' hs => ?_
    have a := T.poke (tk := s'.toks) sI P.LI hs
    have pvC := T.at_.fr.priv C rfl
    obtain ⟨m', hm', _⟩ := a.at_.fr.ns
    exact hR W' σ'.H σ'.loc _ acc ⟨cvs, nn, m', a.tc, sD, sC, nDC, P.LD.own, P.LD.z, pvC.1, pvC.2, hs D _ nDI P.g, P.acc, q.2.1, lC ▸ hm'⟩ q.2.2
  | cons u us =>
    obtain ⟨hu, lt, sd'⟩ := sd.cons
    have hsz := q.2.1
    refine next_item T.at_.rel P.it q.1 hu fun cu h' tk hcu hit hs => it_go hit ?_
    have T₁ := T.poke (tk := tk) sI P.LI hs
    have P₁ : Dp X cenv (only C st) W' σ'.H h' I D v (k + 1) cvs nn acc := ⟨hit, P.LI.at' hit.there, P.LD.at' ⟨_, hs D _ nDI P.g⟩, hs D _ nDI P.g, P.acc⟩
    refine bind_ok K okc hh T₁.at_ hcu hct q.2.2 fun s₃ σ₃ T₃ q => ?_
    have P₃ := P₁.step T₃.stp
    have C₃ := T₁.step T₃ sC
    refine wpAny_mono (hc A cenv (only C st) W' _ s₃ _ noE okc T₃.at_ q) (fun b s₄ q => q.e fun W₄ σ₄ T₄ q₄ => ?_) fun _ _ z => z.no.elim
    have P₄ := P₃.step T₄.stp
    have C₄ := C₃.step T₄ sC
    cases b with
    | false => exact ⟨us.length, lt, k + 1, W₄, σ₄, us, acc, cvs, nn, C₄, P₄, sd', q₄⟩
    | true =>
      refine wpAny_mono (he A cenv (only C st) W₄ σ₄ s₄ _ noE okc T₄.at_ q₄) (fun r s₅ q => q.e fun W₅ σ₅ T₅ q => q.e fun ar hr q₅ => ?_) fun _ _ z => z.no.elim
      have P₅ := P₄.step T₅.stp
      refine append_at P₅.g (fun h₆ hs₆ hg₆ => ?_) (by rw [P₅.acc.toArr]; exact szLine (Nat.le_of_lt hsz))
      have it₆ := P₅.it.keep (.refl _) fun o z _ => hs₆.extBut I o (Ne.symm nDI) z
      exact ⟨us.length, lt, k + 1, W₅, σ₅, us, acc ++ [ar], cvs.push r, nn + 1, (C₄.step T₅ sC).poke (tk := s₅.toks) sD P₅.LD hs₆.extBut, ⟨it₆, P₅.LI.at' it₆.there, P₅.LD.at' ⟨_, hg₆⟩, hg₆, by rw [Array.toList_push]; exact P₅.acc.append (.cons hr .nil)⟩, sd', q₅⟩

theorem comp_block (K : CxOk X) {Ex : Value → Shared → Prop} {cv : Value} {RR : Value → Addr → Result → Shared → Prop}
    (ok : EnvOk X A env Pv n sc) (at_ : At X env Pv W σ s) (he : SE X n ⟨sc', true⟩ elt e) (hc : SCo X n ⟨sc', true⟩ cond ifs) (hct : chkTgt X.nm ⟨sc', true⟩ ts y = true) (F : CompFacts X sc sc' env ts cl) (hhd : sc.hd = true)
    (hv : VR X W cv v) (hxs : items σ.H v = some xs) (hgo : cgo X n elt ts cond v xs Qc xs [] ⟨σ.H, unbs ts σ.loc⟩)
    (hRR : ∀ D C W' H' loc' s' ys, CpE X W σ.H s D C W' H' s' ys → Qc ys ⟨H', loc'⟩ → RR (.ref D) C (.ok .next) s') :
    wpAny (model X.prog X.w) A (pyIter cv) (fun it s₂ => wpAny (model X.prog X.w) A (newList []) (fun acc s₃ => wpAny (model X.prog X.w) A (newFunctionEnv sc' env.globals cl [] env.qual none .none (some env)) (fun cenv s₄ =>
      codeAny (model X.prog X.w) A (.compStart (.ListComp e [⟨y, x, ifs, 0⟩] sc' pos) 0 it acc { cenv with scope := relabel sc' env }) (RR acc cenv.locals) s₄) Ex s₃) Ex s₂) Ex s := by
  refine iter_ok at_.rel hv hxs fun oI hfo hit => wpAny_newObj_type (wpAny_newFunctionEnv (fun z hz q => F.cell z.1 (q ▸ hz)) (fun z hz => nomatch hz) (fun h₁ hns hsb => ?_) F.kind)
  dsimp only at hns hsb ⊢
  have eD : (s.heap.push oI).objs.size = s.heap.objs.size + 1 := Heap.size_push ..
  have eC : ((s.heap.push oI).push { cls := .type "list", dict := none, data := .seq ([] : List Value).toArray }).objs.size = s.heap.objs.size + 1 + 1 := (Heap.size_push ..).trans (congrArg (· + 1) eD)
  have k1 : ∀ b o, ((s.heap.push oI).push { cls := .type "list", dict := none, data := .seq ([] : List Value).toArray }).get? b = some o → h₁.get? b = some o := fun b o q => hsb.extBut b o (Nat.ne_of_lt (Heap.lt_size q)) (Heap.get?_push_of_some _ q)
  have gD : h₁.get? (s.heap.push oI).objs.size = some (lstO #[] 0) := k1 _ _ (Heap.get?_push_size _ rfl)
  generalize ((s.heap.push oI).push { cls := .type "list", dict := none, data := .seq ([] : List Value).toArray }).objs.size = C at hns hsb eC ⊢
  generalize (s.heap.push oI).objs.size = D at gD hns hsb eD ⊢
  have sI := push_none s.heap
  have k0 : ∀ b o, s.heap.get? b = some o → h₁.get? b = some o := fun b o q => k1 b o (Heap.get?_push_of_some _ (Heap.get?_push_of_some _ q))
  have gI : ItAt X W h₁ s.heap.objs.size v 0 := hit.keep (.refl _) fun o q _ => k1 _ _ (Heap.get?_push_of_some _ q)
  have sD : s.heap.get? D = none := Heap.get?_none_of_le (by rw [eD]; exact Nat.le_succ _)
  have sC : s.heap.get? C = none := Heap.get?_none_of_le (by rw [eC]; exact Nat.le_succ_of_le (Nat.le_succ _))
  have nDC : D ≠ C := by rw [eC, eD]; exact Nat.ne_of_lt (Nat.lt_succ_self _)
  have nIC : s.heap.objs.size ≠ C := by rw [eC]; exact Nat.ne_of_lt (Nat.lt_succ_of_lt (Nat.lt_succ_self _))
  have nDI : D ≠ s.heap.objs.size := by rw [eD]; exact Nat.ne_of_gt (Nat.lt_succ_self _)
  have lone : ∀ b, s.heap.get? b = none → b ≠ C → (∃ o, h₁.get? b = some o) → Lone X (compEnvC sc' cl C env) (only C Pv.st) W σ.H h₁ b := fun b hb ne hat =>
    have L := Lone.new (h' := h₁) at_ hb hat
    ⟨L.own, L.z, fun q => ne q, fun z c q => L.cell z c (F.h2 _ _ q), L.fr, hat⟩
  have loop : codeAny (model X.prog X.w) A (.compLoop (.ListComp e [⟨y, x, ifs, 0⟩] sc' pos) 0 (.ref s.heap.objs.size) (.ref D) (compEnvC sc' cl C env)) (RR (.ref D) C) { s with heap := h₁, toks := s.toks + ([] : List (Str × Value)).length } :=
    comp_loop K (comp_env ok F hhd) he hc hct sI sD sC nDI nDC rfl ⟨0, W, ⟨σ.H, unbs ts σ.loc⟩, xs, [], #[], 0, ⟨⟨.quiet (fun b o q _ => k0 b o q) fun b o q => ⟨o, k0 b o q⟩, at_.rel.quiet (Pv := noPv) (fun b o q _ => k0 b o q) fun _ z => z.elim, ⟨rfl, rfl, rfl⟩⟩, comp_at K ok at_ F sC k0 ⟨_, hns⟩⟩, ⟨gI, lone _ sI nIC gI.there, lone D sD nDC ⟨_, gD⟩, gD, .nil⟩, ⟨rfl, Nat.zero_add _, rfl⟩, hgo⟩ (hRR D C)
  exact codeAny_compStart_list loop (iter_self gI loop)
end

theorem res_give {fz : Bool} {σ : St} {Q : V → St → Prop} {r : LV} {v : Value} {W' : Wd} {H' : Hp} (g : give fz σ Q r) (h : Res X fz σ.H r v W' H') {s' : Shared} : VQ X Q v W' ⟨H', σ.loc⟩ s' := by
  cases r with
  | val x => obtain ⟨a, rfl⟩ := h; exact ⟨x, a, g⟩
  | newList xs => cases fz <;> (obtain ⟨a, rfl⟩ := h; exact ⟨_, a, g.2⟩)
section
variable {fz : Bool} {elt it : PE} {ts : List Nat} {cond : PCo} {e x : Expr} {ifs : List Expr} {y : Expr} {pos : Pos} {sc' : Scope} (hi : SE X n sc it x) (he : SE X n ⟨sc', true⟩ elt e) (hc : SCo X n ⟨sc', true⟩ cond ifs) (hct : chkTgt X.nm ⟨sc', true⟩ ts y = true) (hsc : chkSc X.nm sc sc' ts = true) (hhd : sc.hd = true) (hx : Nat.ble (xu x).tag 15 = true)
include hi he hc hct hsc hhd hx
theorem snd_comp (K : CxOk X) : SE X n sc (.comp fz elt ts it cond) (.ListComp e [⟨y, x, ifs, 0⟩] sc' pos) := by
  intro A env Pv W σ s Q E ok at_ h
  obtain ⟨cl, F⟩ := comp_facts ok hsc
  rw [eval_ListComp]
  refine wpAny_comprehension_free (use := none) rfl (folded_no hx) F.clos F.kind (fun x hx hl => by obtain ⟨x, k⟩ := x; subst hl; exact uniq_lookup F.uniq hx) (hi.post ok at_ h fun cv W₁ σ₁ s₁ v T₁ hv q => need_e q fun xs hxs q => comp_block K ok T₁.at_ he hc hct F hhd hv hxs q fun D C W' H' loc' s' ys z hg => ?_)
  obtain ⟨cvs, k, m, T, sD, sC, ne, oD, zD, oC, zC, gD, hys, hsz, hm⟩ := z
  refine ⟨m, hm, fun h' hs => ?_⟩
  obtain ⟨W'', H'', T'', res, _⟩ := adopt_list (fz := fz) (T.poke (tk := s'.toks) sC oC zC hs.extBut) sD oD zD (hs.extBut D _ ne gD) hys hsz
  exact ⟨_, _, T₁.trans (T''.tf T₁.at_), res_give (σ := ⟨H', σ₁.loc⟩) hg res⟩
end
end
end Mine

end

section
set_option autoImplicit false
set_option linter.all false
set_option genSizeOf false
set_option genInjectivity false
namespace Mine
open PySem PySem.W PySem.Calls PyProof.Rows

section
variable {X : Cx} {n : Nat} {sc : Sc}
section
variable {fz : Bool} {elt it : PE} {ts : List Nat} {cond : PCo} {e x : Expr} {ifs : List Expr} {y : Expr} {pos : Pos} {sc' : Scope} (hi : SE X n sc it x) (he : SE X n ⟨sc', true⟩ elt e) (hc : SCo X n ⟨sc', true⟩ cond ifs) (hct : chkTgt X.nm ⟨sc', true⟩ ts y = true) (hsc : chkSc X.nm sc sc' ts = true) (hhd : sc.hd = true) (hx : Nat.ble (xu x).tag 15 = true)
include hi he hc hct hsc hhd hx
/-- the list is stored ahead of the frame's end -/
theorem comp_store (K : CxOk X) {i : Nat} {pz pf : Pos} {A : Around} {env : Env} {Pv : Pr} {W : Wd} {σ : St} {s : Shared} {Q : Flow → St → Prop} {E : EP} (hk : kStore sc (X.nm i) = true) (ok : EnvOk X A env Pv n sc) (hf : env.func ≠ none) (at_ : At X env Pv W σ s)
    (h : wpE X.P (CW X.P n) E (.comp fz elt ts it cond) σ fun v σ₁ => Q .next (σ₁.put i v)) :
    wpAny (model X.prog X.w) A (comprehension (.ListComp e [⟨y, x, ifs, 0⟩] sc' pos) sc' env pf (newList []) false (eval x env) (some (assign (.Name (X.nm i) pz) env))) (fun _ s' => Go X env Pv W σ s (FQ X Q) PySem.Flow.next s') (EX X env Pv W σ s E) s := by
  obtain ⟨cl, F⟩ := comp_facts ok hsc
  refine wpAny_comprehension_free (use := some (assign (.Name (X.nm i) pz) env)) rfl (folded_no hx) F.clos F.kind (fun x hx hl => by obtain ⟨x, k⟩ := x; subst hl; exact uniq_lookup F.uniq hx) (hi.post ok at_ h fun cv W₁ σ₁ s₁ v T₁ hv q => need_e q fun xs hxs q => comp_block K ok T₁.at_ he hc hct F hhd hv hxs q fun D C W' H' loc' s' ys z hg => ?_)
  obtain ⟨cvs, k, m, T, sD, sC, ne, oD, zD, oC, zC, gD, hys, hsz, hm⟩ := z
  obtain ⟨W'', H'', T'', res, oth⟩ := adopt_list (fz := fz) T sD oD zD gD hys hsz
  have T₂ : Tf X env Pv W₁ σ₁ s₁ W'' ⟨H'', σ₁.loc⟩ s' := T''.tf T₁.at_
  have L := Lone.new (h' := s'.heap) T₁.at_ sC (let ⟨o, _, _, ho, _⟩ := hm; ⟨o, ho⟩)
  have o := oth C (Ne.symm ne) oC zC
  have LC : Lone X env Pv W'' H'' s'.heap C := ⟨o.1, o.2, L.pv, L.cell, L.fr, L.at_⟩
  exact (res_give (s' := s) (σ := ⟨H', σ₁.loc⟩) hg res).e fun av hav hq => wpAny_assign_Name (store_ok K ok hf T₂.at_ hk hav fun s₃ T₃ =>
    ⟨m, ns_same hm fun o ho => T₃.stp.keep C o ho LC.own LC.pv, fun h'' hs => (((T₁.trans T₂).trans T₃).poke (tk := s₃.toks) (not_there sC T₁.stp.there) (LC.step T₃.stp) hs.extBut).flow .next hq⟩)
theorem snd_assign_comp (K : CxOk X) {i : Nat} {z : Str} {pz pos' : Pos} (hz : z = X.nm i) (hk : kStore sc z = true) : S1 X n sc (.assign (.loc i) (.comp fz elt ts it cond)) (.Assign [.Name z pz] (.ListComp e [⟨y, x, ifs, 0⟩] sc' pos) pos') := by
  intro A env Pv W σ s Q E ok hf at_ h
  subst hz
  have sw : swapsWith (.ListComp e [⟨y, x, ifs, 0⟩] sc' pos) (some (.Name (X.nm i) pz)) pos'.line env = pure (env.blockKind == .function && env.kindOf (X.nm i) == some .local && pz.line == pos.line && !(sc'.names.any fun (n, k) => n == X.nm i && (k == .local || k == .cell))) := rfl
  generalize (env.blockKind == .function && env.kindOf (X.nm i) == some .local && pz.line == pos.line && !(sc'.names.any fun (n, k) => n == X.nm i && (k == .local || k == .cell))) = b at sw
  cases b with
  | false => exact wpAny_Assign_Name ((snd_comp hi he hc hct hsc hhd hx K).post ok at_ h fun v W₁ σ₁ s₁ y T hv q => store_ok K ok hf T.at_ hk hv fun s'' T' => (T.trans T').flow .next q) sw
  | true =>
    unfold Ew
    rw [exec_Assign_Name_used _ _ _ _ sw]
    exact wpAny_bind (wpAny_standAt (wpAny_bind (wpAny_bind (wpAny_mono (comp_store hi he hc hct hsc hhd hx K hk ok hf at_ h) (fun _ s' q => wpAny_pure (wpAny_pure q)) fun _ _ z => z))))
end
end
end Mine

end

section
set_option autoImplicit false
set_option linter.all false
set_option genSizeOf false
set_option genInjectivity false
namespace Mine
open PySem PySem.W PySem.Calls PyProof.Rows
section
variable {X : Cx} {n : Nat} {sc : Sc}
theorem swaps_sub {x o i : Expr} {p : Pos} {l : Nat} {env : Env} : swapsWith x (some (.Subscript o i p)) l env = pure false := by
  cases x <;> rfl
/-- a thing stored in a dict -/
theorem put_item {A : Around} {env : Env} {Pv : Pr} {W : Wd} {σ : St} {s : Shared} {Ex : Value → Shared → Prop} {ov iv v : Value} {g y x : V} {Q : Unit → Shared → Prop} {q : St → Prop} (at_ : At X env Pv W σ s) (ho : VR X W ov g) (hi : VR X W iv y) (hv : VR X W v x)
    (h : need (aRef g) fun i => need (cD (σ.H.get i)) fun kvs => Nd (keyOk (dKeys kvs) y = true) (Nd (kvs.length < SZ) (q (σ.setH (σ.H.set i (.dict (dSet kvs y x)))))))
    (hq : ∀ W' σ' s', Tf X env Pv W σ s W' σ' s' → q σ' → Q () s') : wpAny (model X.prog X.w) A (setItem ov iv v) Q Ex s :=
  need_e h fun i ei h => need_e h fun kvs ek h => aRef_e ho ei fun l e hl _ => key_e hi h.1 fun j t e1 e2 => by
    subst e e1 e2
    obtain ⟨es, d, r, e, ne, z⟩ := at_.rel.at_ (cD_e ek) hl
    have hn : (es.map (·.1)).Nodup := d.elim fun _ d => d.elim fun _ d => d.elim fun _ d => d.2.2.2.2.2
    refine wpAny_setItem_pairs (intKind_is _ _ j t) d (fun h' d' hs => hq W _ _ (Tc.tf at_ (W' := W) (H' := σ.H.set i (.dict (dSet kvs (.int j) x))) ?_) h.2.2) (by rw [r.len]; exact szLine z)
    have len : (dSet kvs (.int j) x).length ≤ SZ := by rw [← (r.put (i := j) hv hn).len]; exact Nat.le_trans (stored_length_le _ _ _) (by rw [r.len]; exact h.2.1)
    obtain ⟨R, S⟩ := at_.rel.upd (h' := h') (c' := .dict (dSet kvs (.int j) x)) (cD_e ek) hl (fun b ob q n1 _ => (hs.2 b n1).trans q) ⟨stored es j v, d', r.put hv hn, e, ne, len⟩
    exact ⟨S, R, ⟨rfl, rfl, rfl⟩⟩
theorem snd_assign_idx {o i e : PE} {v u x : Expr} {p pos : Pos} (he : SE X n sc e x) (ho : SE X n sc o v) (hi : SE X n sc i u) : S1 X n sc (.assign (.idx o i) e) (.Assign [.Subscript v u p] x pos) := fun A env Pv W σ s Q E ok hf at_ h =>
  wpAny_Assign_Subscript (he.post ok at_ h fun cv W₁ σ₁ s₁ x T₁ hv h₁ => wpAny_mono (ho.post ok T₁.at_ h₁ fun ov W₂ σ₂ s₂ g T₂ hg h₂ => wpAny_mono (hi.post ok T₂.at_ h₂ fun iv W₃ σ₃ s₃ y T₃ hy h₃ =>
    put_item (Q := fun _ s' => Go X env Pv W σ s (FQ X Q) PySem.Flow.next s') (Ex := EX X env Pv W σ s E) T₃.at_ (hg.le T₃.stp.le) hy (hv.le (T₂.stp.le.trans T₃.stp.le)) h₃ fun W' σ' s' T hq => (((T₁.trans T₂).trans T₃).trans T).flow .next hq) (fun _ _ q => q) fun _ _ y => y.back (T₁.trans T₂)) (fun _ _ q => q) fun _ _ y => y.back T₁) swaps_sub
theorem snd_assign_tup (K : CxOk X) {is : List Nat} {elts : List Expr} {k : Nat} {p pos : Pos} {e : PE} {x : Expr} (he : SE X n sc e x) (ht : tgts X.nm sc is elts = true) (hhd : sc.hd = true) (h15 : Nat.ble 1 (xu x).tag = true) (h14 : Nat.ble (xu x).tag 14 = true) (h10 : tg x 10 = false) : S1 X n sc (.assign (.tup is) e) (.Assign [.Tuple elts k p] x pos) := fun A env Pv W σ s Q E ok hf at_ h =>
  wpAny_Assign_stores (he.post ok at_ h fun cv W₁ σ₁ s₁ v T₁ hv h₁ => show wpAny _ A (assign (.Tuple elts k p) env cv) _ _ s₁ from bind_tup K ok (ok.hh hhd) T₁.at_ hv ht h₁ fun s' σ' T' q => (T₁.trans T').flow .next q) (by
    cases x <;> first | rfl | (cases h15; done) | (cases h14; done)) (by
    cases x <;> first | rfl | (cases h10; done))
end
end Mine

end

section
set_option autoImplicit false
set_option linter.all false
set_option genSizeOf false
set_option genInjectivity false
namespace Mine
open PySem PySem.W PySem.Calls PyProof.Rows

section
variable {X : Cx} {n : Nat}

/-- the cases of classes and instances, to be given -/
structure Objs (X : Cx) (n : Nat) : Prop where
  call : ∀ (sc : Sc) (fz : Bool) (f : PE) (as : PEs) (x : Str) (p : Pos) (vs : List Expr) (pos : Pos), SE X n sc f (.Name x p) → (sc.hd || qGlob X.ck f) = true → SEs X n sc as vs → chkEs X.ck sc as vs = true → SE X n sc (.call fz f as) (.Call (.Name x p) vs [] pos)
  meth : ∀ (sc : Sc) (fz : Bool) (o : PE) (m : Nat) (as : PEs) (v : Expr) (ap pos : Pos) (vs : List Expr), SE X n sc o v → SEs X n sc as vs → chkEs X.ck sc as vs = true → notSuper v = true → vs.length ≤ 20 → (ap.endLine == pos.line) = true → (sc.hd || Nat.beq m X.P.nAppend) = true → SE X n sc (.meth fz o m as) (.Call (.Attribute v (X.nm m) ap) vs [] pos)
  attr : ∀ (sc : Sc) (e : PE) (m : Nat) (v : Expr) (pos : Pos), SE X n sc e v → notSuper v = true → SE X n sc (.attr e m) (.Attribute v (X.nm m) pos)
  asgA : ∀ (sc : Sc) (o e : PE) (m : Nat) (v x : Expr) (p pos : Pos), SE X n sc e x → SE X n sc o v → S1 X n sc (.assign (.attr o m) e) (.Assign [.Attribute v (X.nm m) p] x pos)
  augL : ∀ (sc : Sc) (i : Nat) (op : BOp) (e : PE) (x : Expr) (p pos : Pos), SE X n sc e x → kStore sc (X.nm i) = true → kLoc sc (X.nm i) = true → nDbg (X.nm i) = true → S1 X n sc (.augLoc i op e) (.AugAssign (.Name (X.nm i) p) (opOf op) x pos)
  augA : ∀ (sc : Sc) (o e : PE) (m : Nat) (op : BOp) (v x : Expr) (p pos : Pos), SE X n sc e x → SE X n sc o v → S1 X n sc (.augAttr o m op e) (.AugAssign (.Attribute v (X.nm m) p) (opOf op) x pos)
  raise : ∀ (sc : Sc) (i : Nat) (e : PE) (y : Str) (x : Expr) (np cpos pos : Pos), chkG X.ck sc i y = true → SE X n sc e x → chkE X.ck sc e x = true → sc.hd = true → S1 X n sc (.raise i e) (.Raise (some (.Call (.Name y np) [x] [] cpos)) none pos)
  try_ : ∀ (sc : Sc) (body : PSs) (i : Nat) (as : Option Nat) (h : PSs) (b : List Stmt) (b₀ : Stmt) (hb : List Stmt) (y : Str) (np : Pos) (nm : Option Str) (hpos pos : Pos), chkG X.ck sc i y = true → SS X n sc body b → SS X n ⟨sc.sc, false⟩ h (b₀ :: hb) → asOk X.ck sc as nm = true → sc.hd = true → S1 X n sc (.try_ body i as h) (.Try b [.ExceptHandler (some (.Name y np)) nm (b₀ :: hb) hpos] [] [] pos)

/-- what is shown of an expression: as a value, as a test, as what is stored -/
structure PO (X : Cx) (n : Nat) (sc : Sc) (p : PE) (e : Expr) : Prop where
  se : SE X n sc p e
  st : plainTest e = true → ST X n sc (.e p) e
  as : ∀ (i : Nat) (y : Str) (q pos : Pos), y = X.nm i → kStore sc y = true → S1 X n sc (.assign (.loc i) p) (.Assign [.Name y q] e pos)
theorem xu_to {P : Expr → Prop} {e : Expr} {k : Nat} (t : tg e k = true) (hk : Nat.blt k 16 = true) (h : P (back (xu e) k)) : P e := @Eq.subst Expr P _ _ (xu_is t hk).symm h
theorem tag_eq {e : Expr} {k : Nat} (t : tg e k = true) : (xu e).tag = k := Nat.eq_of_beq_eq_true t
theorem e_of (K : CxOk X) {sc : Sc} {p : PE} {e : Expr} {k : Nat} (t : tg e k = true) (hk : (Nat.blt k 16 && Nat.ble 1 k && Nat.ble k 14 && !Nat.beq k 6) = true) (h : SE X n sc p (back (xu e) k)) : PO X n sc p e := and4_e hk fun h1 h2 h3 h4 =>
  have s : SE X n sc p e := xu_to (P := SE X n sc p) t h1 h
  ⟨s, fun q => snd_T s q (by unfold tg; rw [tag_eq t]; exact Bool.not_eq_true' _ ▸ h4), fun i y q pos hy hk => snd_assign_loc K s hy hk (by rw [tag_eq t]; exact h2) (by rw [tag_eq t]; exact h3)⟩
theorem kw_one {kw : List Keyword} {G : List Keyword → Prop} (h : isRv kw = true) (g : ∀ k p kp, G [⟨some (Str.ofString "reverse"), .Constant (.bool true) k p, kp⟩]) : G kw := on_e h fun w hw h => and3_e h fun h1 h2 h3 => by
  obtain ⟨a, v, kp⟩ := w
  cases (of_decide_eq_true h1 : a = some (Str.ofString "reverse"))
  rw [one_ok hw]
  refine xu_to (P := fun b => G [⟨_, b, kp⟩]) h2 rfl ?_
  have h3 : (xu v).v = .bool true := of_decide_eq_true h3
  show G [⟨_, .Constant (xu v).v _ _, kp⟩]
  rw [h3]
  exact g _ _ _
theorem e_cmp (K : CxOk X) {sc : Sc} {p : PE} {e : Expr} (t : tg e 6 = true) (h : SE X n sc p (back (xu e) 6)) (h' : ST X n sc (.e p) (back (xu e) 6)) : PO X n sc p e :=
  have s : SE X n sc p e := xu_to (P := SE X n sc p) t rfl h
  ⟨s, fun _ => xu_to (P := ST X n sc (.e p)) t rfl h', fun i y q pos hy hk => snd_assign_loc K s hy hk (by rw [tag_eq t]; rfl) (by rw [tag_eq t]; rfl)⟩

noncomputable def gE (X : Cx) (n : Nat) (p : PE) : Prop := ∀ (sc : Sc) (e : Expr), chkE X.ck sc p e = true → PO X n sc p e
structure PL (X : Cx) (n : Nat) (sc : Sc) (p : PEs) (es : List Expr) : Prop where
  ls : SEs X n sc p es
  bo : SBool X n sc p es
noncomputable def gEs (X : Cx) (n : Nat) (p : PEs) : Prop := ∀ (sc : Sc) (es : List Expr), chkEs X.ck sc p es = true → PL X n sc p es
noncomputable def gO (X : Cx) (n : Nat) (p : PEo) : Prop := ∀ (sc : Sc) (e : Option Expr), chkO X.ck sc p e = true → SO X n sc p e
noncomputable def gT (X : Cx) (n : Nat) (p : PC) : Prop := ∀ (sc : Sc) (e : Expr), chkT X.ck sc p e = true → ST X n sc p e
noncomputable def gTs (X : Cx) (n : Nat) (p : PCs) : Prop := ∀ (sc : Sc) (es : List Expr), chkTs X.ck sc p es = true → SAll X n sc p es
noncomputable def gC (X : Cx) (n : Nat) (p : PCo) : Prop := ∀ (sc : Sc) (es : List Expr), chkIf X.ck sc p es = true → SCo X n sc p es

theorem c1_e {c : Ck} {sc : Sc} {i : Nat} {e : Expr} {f : Expr → Bool} {G : Expr → Prop} (h : chk1 c sc i e f = true) (k : ∀ x p q y, x = c.nm i → kGlob sc x = true → nDbg x = true → f y = true → G (.Call (.Name x p) [y] [] q)) : G e := and5_e h fun t t' hg hk hl => on_e hl fun y hy hf => and3_e hg fun g1 g2 g3 => xu_to (P := G) t rfl (by
  show G (.Call (xu e).a (xu e).l (xu e).kw (xu e).p)
  rw [one_ok hy, empty_ok hk]
  exact xu_to (P := fun b => G (.Call b [y] [] (xu e).p)) t' rfl (k _ _ _ y (of_decide_eq_true g1) g2 g3 hf))
section
variable (K : CxOk X) (O : Objs X n)
include K
theorem e_cst (v : V) : gE X n (.cst v) := fun sc e h => and_e h fun t c => e_of K t rfl (snd_cst c)
theorem e_loc (i : Nat) : gE X n (.loc i) := fun sc e h => and4_e h fun t a b c => e_of K t rfl (snd_loc (of_decide_eq_true a) b c)
theorem e_glob (i : Nat) : gE X n (.glob i) := fun sc e h => and4_e h fun t a b c => e_of K t rfl (snd_glob K (of_decide_eq_true a) b c)
theorem e_bin (fz : Bool) (op : BOp) (l r : PE) (hl : gE X n l) (hr : gE X n r) : gE X n (.bin fz op l r) := fun sc e h => and4_e h fun t o a b => e_of K t rfl (by
  show SE X n sc _ (.BinOp (xu e).a (xu e).o (xu e).b (xu e).p)
  rw [of_decide_eq_true o]; exact snd_bin (hl sc _ a).se (hr sc _ b).se)
theorem e_neg (a : PE) (ha : gE X n a) : gE X n (.neg a) := fun sc e h => and3_e h fun t o a => e_of K t rfl (by
  show SE X n sc _ (.UnaryOp (xu e).u (xu e).a (xu e).p)
  rw [of_decide_eq_true o]; exact snd_neg (ha sc _ a).se)
theorem e_not (a : PE) (ha : gE X n a) : gE X n (.not a) := fun sc e h => and3_e h fun t o a => e_of K t rfl (by
  show SE X n sc _ (.UnaryOp (xu e).u (xu e).a (xu e).p)
  rw [of_decide_eq_true o]; exact snd_not (ha sc _ a).se)
theorem e_cmp1 (op : COp) (l r : PE) (hl : gE X n l) (hr : gE X n r) : gE X n (.cmp op l r) := fun sc e h => and_e h fun t h => on_e h fun o ho h => on_e h fun r' hr' h => and3_e h fun h0 h1 h2 => by
  have f : ∀ {P : Expr → Prop}, P (.Compare (xu e).a [cmpOf op] [r'] (xu e).p) → P (back (xu e) 6) := fun {P} q => by
    show P (Expr.Compare (xu e).a (xu e).cs (xu e).l (xu e).p)
    rw [one_ok ho, one_ok hr', of_decide_eq_true h0]; exact q
  exact e_cmp K t (f (snd_cmp (hl sc _ h1).se (hr sc _ h2).se (chk_tag h2).2)) (f (snd_cmpT (hl sc _ h1).se (hr sc _ h2).se (chk_tag h2).2))
theorem e_cmp2 (o₁ o₂ : COp) (a b c : PE) (ha : gE X n a) (hb : gE X n b) (hc : gE X n c) : gE X n (.cmp2 o₁ o₂ a b c) := fun sc e h => and_e h fun t h => on_e h fun o ho h => on_e h fun r hr h => and5_e h fun h0 h00 h1 h2 h3 => by
  have f : ∀ {P : Expr → Prop}, P (.Compare (xu e).a [cmpOf o₁, cmpOf o₂] [r.1, r.2] (xu e).p) → P (back (xu e) 6) := fun {P} q => by
    show P (Expr.Compare (xu e).a (xu e).cs (xu e).l (xu e).p)
    rw [x2_ok ho, x2_ok hr, of_decide_eq_true h0, of_decide_eq_true h00]; exact q
  exact e_cmp K t (f (snd_cmp2 (ha sc _ h1).se (hb sc _ h2).se (hc sc _ h3).se (chk_tag h3).2)) (f (snd_cmp2T (ha sc _ h1).se (hb sc _ h2).se (hc sc _ h3).se (chk_tag h3).2))
theorem e_and (es : PEs) (he : gEs X n es) : gE X n (.and es) := fun sc e h => and3_e h fun t o a => e_of K t rfl (by
  show SE X n sc _ (.BoolOp (xu e).bo (xu e).l (xu e).p)
  rw [of_decide_eq_true o]; exact fun A env Pv W σ s Q E ok at_ hw => ((he sc _ a).bo A env Pv W σ s Q E _ ok at_).1 hw)
theorem e_or (es : PEs) (he : gEs X n es) : gE X n (.or es) := fun sc e h => and3_e h fun t o a => e_of K t rfl (by
  show SE X n sc _ (.BoolOp (xu e).bo (xu e).l (xu e).p)
  rw [of_decide_eq_true o]; exact fun A env Pv W σ s Q E ok at_ hw => ((he sc _ a).bo A env Pv W σ s Q E _ ok at_).2 hw)
theorem e_ite (c : PC) (a b : PE) (hc : gT X n c) (ha : gE X n a) (hb : gE X n b) : gE X n (.ite c a b) := fun sc e h => and4_e h fun t h0 h1 h2 => e_of K t rfl (snd_ite (hc sc _ h0) (ha sc _ h1).se (hb sc _ h2).se)
theorem e_list (fz : Bool) (es : PEs) (he : gEs X n es) : gE X n (.list fz es) := fun sc e h => and_e h fun t h0 => e_of K t rfl (snd_list (he sc _ h0).ls h0)
theorem e_tup (es : PEs) (he : gEs X n es) : gE X n (.tup es) := fun sc e h => and_e h fun t h0 => e_of K t rfl (snd_tup (he sc _ h0).ls h0)
theorem e_dict (kvs : PKV) : gE X n (.dict kvs) := fun sc e h => and4_e h fun t h1 h2 h3 => e_of K t rfl (by
  show SE X n sc _ (.Dict (xu e).os (xu e).l (xu e).p)
  rw [empty_ok h2, empty_ok h3]
  cases kvs with
  | nil => exact snd_dict0 K
  | cons _ _ _ => cases h1)
theorem e_idx (a i : PE) (ha : gE X n a) (hi : gE X n i) : gE X n (.idx a i) := fun sc e h => and3_e h fun t h0 h1 => e_of K t rfl (snd_idx (ha sc _ h0).se (hi sc _ h1).se)
theorem e_sl (fz : Bool) (a : PE) (lo hi : PEo) (ha : gE X n a) (hl : gO X n lo) (hh : gO X n hi) : gE X n (.sl fz a lo hi) := fun sc e h => and6_e h fun t t' h0 h1 h2 h3 => e_of K t rfl (by
  show SE X n sc _ (.Subscript (xu e).a (xu e).b (xu e).p)
  refine xu_to (P := fun b => SE X n sc _ (.Subscript (xu e).a b (xu e).p)) t' rfl ?_
  show SE X n sc _ (.Subscript (xu e).a (.Slice (xu (xu e).b).o0 (xu (xu e).b).o1 (xu (xu e).b).o2 (xu (xu e).b).p) (xu e).p)
  rw [x0_ok h3]; exact snd_sl (ha sc _ h0).se (hl sc _ h1) (hh sc _ h2))
theorem e_rev (fz : Bool) (a : PE) (ha : gE X n a) : gE X n (.rev fz a) := fun sc e h => and6_e h fun t t' h0 h1 h2 h3 => e_of K t rfl (on_e h3 fun m hm h3 => and4_e h3 fun u v w z => by
  show SE X n sc _ (.Subscript (xu e).a (xu e).b (xu e).p)
  refine xu_to (P := fun b => SE X n sc _ (.Subscript (xu e).a b (xu e).p)) t' rfl ?_
  show SE X n sc _ (.Subscript (xu e).a (.Slice (xu (xu e).b).o0 (xu (xu e).b).o1 (xu (xu e).b).o2 (xu (xu e).b).p) (xu e).p)
  rw [x0_ok h1, x0_ok h2, hm]
  refine xu_to (P := fun b => SE X n sc _ (.Subscript (xu e).a (.Slice none none (some b) _) (xu e).p)) u rfl ?_
  show SE X n sc _ (.Subscript (xu e).a (.Slice none none (some (.UnaryOp (xu m).u (xu m).a (xu m).p)) _) (xu e).p)
  rw [of_decide_eq_true v]
  refine xu_to (P := fun b => SE X n sc _ (.Subscript (xu e).a (.Slice none none (some (.UnaryOp .USub b (xu m).p)) _) (xu e).p)) w rfl ?_
  show SE X n sc _ (.Subscript (xu e).a (.Slice none none (some (.UnaryOp .USub (.Constant (xu (xu m).a).v _ _) (xu m).p)) _) (xu e).p)
  rw [of_decide_eq_true z]
  exact snd_rev (ha sc _ h0).se)
theorem e_comp (fz : Bool) (elt : PE) (ts : List Nat) (it : PE) (cond : PCo) (he : gE X n elt) (hi : gE X n it) (hc : gC X n cond) : gE X n (.comp fz elt ts it cond) := fun sc e h => and_e h fun t h => on_e h fun g hg h => and6_e h fun h1 h2 h3 h4 h5 h6 => and_e h6 fun h7 h8 => by
  have f : ∀ {P : Expr → Prop}, P (.ListComp (xu e).a [⟨g.target, g.iter, g.ifs, 0⟩] (scOf (xu e)) (xu e).p) → P e := fun {P} q => xu_to (P := P) t rfl (by
    show P (.ListComp (xu e).a (xu e).gs (scOf (xu e)) (xu e).p)
    have h7 : g.is_async = 0 := of_decide_eq_true h7
    rw [one_ok hg]
    cases g
    cases h7
    exact q)
  have s : SE X n sc (.comp fz elt ts it cond) e := f (P := SE X n sc _) (snd_comp (hi sc _ h3).se (he _ _ h1).se (hc _ _ h4) h2 h5 h8 (chk_tag h3).2 K)
  exact ⟨s, fun q => snd_T s q (by unfold tg; rw [tag_eq t]; rfl), fun i y q pos hy hk => f (P := fun e => S1 X n sc _ (.Assign [.Name y q] e pos)) (snd_assign_comp (hi sc _ h3).se (he _ _ h1).se (hc _ _ h4) h2 h5 h8 (chk_tag h3).2 K hy hk)⟩
include O
theorem e_attr (o : PE) (m : Nat) (ho : gE X n o) : gE X n (.attr o m) := fun sc e h => and4_e h fun t a b c => e_of K t rfl (by
  show SE X n sc _ (.Attribute (xu e).a (xu e).s (xu e).p)
  rw [of_decide_eq_true b]; exact O.attr sc o m _ _ (ho sc _ a).se c)
theorem e_call (fz : Bool) (f : PE) (as : PEs) (hf : gE X n f) (ha : gEs X n as) : gE X n (.call fz f as) := fun sc e h => and6_e h fun t t' h0 h1 h2 h3 => e_of K t rfl (by
  show SE X n sc _ (.Call (xu e).a (xu e).l (xu e).kw (xu e).p)
  have s := (hf sc _ h0).se
  rw [xu_is t' rfl] at s
  refine xu_to (P := fun b => SE X n sc _ (.Call b (xu e).l (xu e).kw (xu e).p)) t' rfl ?_
  rw [empty_ok h2]; exact O.call sc fz f as _ _ _ _ s h3 (ha sc _ h1).ls h1)
theorem e_srv (fz : Bool) (i : Nat) (a : PE) (ha : gE X n a) : gE X n (.sortedRev fz i a) := fun sc e h => and6_e h fun t t' h0 h1 h2 h3 => and3_e h0 fun g1 g2 g3 => on_e h1 fun y hy h1 => e_of K t rfl (by
  show SE X n sc _ (.Call (xu e).a (xu e).l (xu e).kw (xu e).p)
  rw [one_ok hy]
  refine xu_to (P := fun b => SE X n sc _ (.Call b [y] (xu e).kw (xu e).p)) t' rfl ?_
  exact kw_one (G := fun kw => SE X n sc _ (.Call (.Name (xu (xu e).a).s (xu (xu e).a).p) [y] kw (xu e).p)) h2 fun k p kp => snd_srv K (snd_glob K (of_decide_eq_true g1) g2 g3) (ha sc y h1).se h1)
theorem e_su (fz : Bool) (i j : Nat) (a b : PE) (ha : gE X n a) (hb : gE X n b) : gE X n (.sortedU fz i j a b) := fun sc e h => nomatch (show false = true from h)
theorem e_meth (fz : Bool) (o : PE) (m : Nat) (as : PEs) (ho : gE X n o) (ha : gEs X n as) : gE X n (.meth fz o m as) := fun sc e h => and6_e h fun t t' h0 h1 h2 h3 => and5_e h3 fun g1 g2 g3 g4 g5 => e_of K t rfl (by
  show SE X n sc _ (.Call (xu e).a (xu e).l (xu e).kw (xu e).p)
  refine xu_to (P := fun b => SE X n sc _ (.Call b (xu e).l (xu e).kw (xu e).p)) t' rfl ?_
  show SE X n sc _ (.Call (.Attribute (xu (xu e).a).a (xu (xu e).a).s (xu (xu e).a).p) (xu e).l (xu e).kw (xu e).p)
  rw [empty_ok g3, of_decide_eq_true h1]
  exact O.meth sc fz o m as _ _ _ _ (ho sc _ h0).se (ha sc _ h2).ls h2 g1 (Nat.le_of_ble_eq_true g2) (beq_iff_eq.mpr (Nat.eq_of_beq_eq_true g4)) g5)
end
theorem es_nil : gEs X n .nil := fun sc es h => by rw [empty_ok h]; exact ⟨snd_es_nil, snd_bool_nil⟩
theorem es_cons (c : PE) (r : PEs) (hc : gE X n c) (hr : gEs X n r) : gEs X n (.cons c r) := fun sc es h => on_e h fun x hx h => and_e h fun h1 h2 => by
  have ih := hr sc _ h2
  have hc := (hc sc x h1).se
  rw [head_ok hx]
  refine ⟨snd_es_cons hc ih.ls, ?_⟩
  cases r with
  | nil => rw [empty_ok h2]; exact snd_bool_one hc
  | cons d r' =>
    refine on_e h2 fun y hy _ => ?_
    have b := ih.bo
    rw [head_ok hy] at b ⊢
    exact snd_bool_cons hc b
theorem o_none : gO X n .none := fun sc e h => by rw [x0_ok h]; exact snd_o_none
theorem o_some (a : PE) (ha : gE X n a) : gO X n (.some a) := fun sc e h => on_e h fun x hx h => by rw [hx]; exact snd_o_some (ha sc x h).se
theorem t_e (a : PE) (ha : gE X n a) : gT X n (.e a) := fun sc e h => and_e h fun h0 h1 => (ha sc e h1).st h0
theorem t_not (c : PC) (hc : gT X n c) : gT X n (.not c) := fun sc e h => and3_e h fun t o a => xu_to (P := ST X n sc _) t rfl (by
  show ST X n sc _ (.UnaryOp (xu e).u (xu e).a (xu e).p)
  rw [of_decide_eq_true o]; exact snd_notT (hc sc _ a))
theorem t_and (cs : PCs) (hc : gTs X n cs) : gT X n (.and cs) := fun sc e h => and3_e h fun t o a => xu_to (P := ST X n sc _) t rfl (by
  show ST X n sc _ (.BoolOp (xu e).bo (xu e).l (xu e).p)
  rw [of_decide_eq_true o]; exact snd_andT (hc sc _ a))
theorem t_or (cs : PCs) (hc : gTs X n cs) : gT X n (.or cs) := fun sc e h => and3_e h fun t o a => xu_to (P := ST X n sc _) t rfl (by
  show ST X n sc _ (.BoolOp (xu e).bo (xu e).l (xu e).p)
  rw [of_decide_eq_true o]; exact snd_orT (hc sc _ a))
theorem ts_nil : gTs X n .nil := fun sc es h => by rw [empty_ok h]; exact snd_all_nil
theorem ts_cons (c : PC) (r : PCs) (hc : gT X n c) (hr : gTs X n r) : gTs X n (.cons c r) := fun sc es h => on_e h fun x hx h => and_e h fun h1 h2 => by
  rw [head_ok hx]; exact snd_all_cons (hc sc x h1) (hr sc _ h2)
theorem c_none : gC X n .none := fun sc es h => by rw [empty_ok h]; exact snd_c_nil
theorem c_some (c : PC) (hc : gT X n c) : gC X n (.some c) := fun sc es h => on_e h fun x hx h => by rw [one_ok hx]; exact snd_c_one (hc sc x h)
theorem e_no {p : PE} (h : ∀ sc e, chkE X.ck sc p e = false) : gE X n p := fun sc e q => by rw [h] at q; cases q

section
variable (K : CxOk X) (O : Objs X n)
include K O
theorem sndE (p : PE) : gE X n p :=
  PE.rec (motive_1 := gE X n) (motive_2 := gEs X n) (motive_3 := gO X n) (motive_4 := fun _ => True) (motive_5 := gT X n) (motive_6 := gTs X n) (motive_7 := gC X n)
    (e_cst K) (e_loc K) (e_glob K) (e_attr K O) (e_bin K) (e_neg K) (e_not K) (e_cmp1 K) (e_cmp2 K) (e_and K) (e_or K) (e_ite K) (e_list K) (e_tup K) (fun kvs _ => e_dict K kvs) (e_idx K) (e_sl K) (e_rev K) (e_call K O) (e_srv K O) (e_su K O) (fun _ _ => e_no fun _ _ => rfl) (e_meth K O) (e_comp K)
    es_nil es_cons o_none o_some trivial (fun _ _ _ _ _ _ => trivial) t_e t_not t_and t_or ts_nil ts_cons c_none c_some p
theorem sndT (p : PC) : gT X n p :=
  PC.rec (motive_1 := gE X n) (motive_2 := gEs X n) (motive_3 := gO X n) (motive_4 := fun _ => True) (motive_5 := gT X n) (motive_6 := gTs X n) (motive_7 := gC X n)
    (e_cst K) (e_loc K) (e_glob K) (e_attr K O) (e_bin K) (e_neg K) (e_not K) (e_cmp1 K) (e_cmp2 K) (e_and K) (e_or K) (e_ite K) (e_list K) (e_tup K) (fun kvs _ => e_dict K kvs) (e_idx K) (e_sl K) (e_rev K) (e_call K O) (e_srv K O) (e_su K O) (fun _ _ => e_no fun _ _ => rfl) (e_meth K O) (e_comp K)
    es_nil es_cons o_none o_some trivial (fun _ _ _ _ _ _ => trivial) t_e t_not t_and t_or ts_nil ts_cons c_none c_some p
theorem sndO (p : PEo) : gO X n p := by
  cases p with
  | none => exact o_none
  | some a => exact o_some a (sndE K O a)
end
end
end Mine

end

section
set_option autoImplicit false
set_option linter.all false
set_option genSizeOf false
set_option genInjectivity false
namespace Mine
open PySem PySem.W PySem.Calls PyProof.Rows

section
variable {X : Cx} {n : Nat}
noncomputable def gS (X : Cx) (n : Nat) (p : PS) : Prop := ∀ (sc : Sc) (e : Stmt), chkS X.ck sc p e = true → S1 X n sc p e
noncomputable def gSs (X : Cx) (n : Nat) (p : PSs) : Prop := ∀ (sc : Sc) (es : List Stmt), chkSs X.ck sc p es = true → SS X n sc p es
theorem su_to {P : Stmt → Prop} {e : Stmt} {k : Nat} (t : sg e k = true) (hk : Nat.ble 1 k = true) (h : P (sback (su e) k)) : P e := @Eq.subst Stmt P _ _ (su_is t hk).symm h
theorem nm_e {c : Ck} {sc : Sc} {i : Nat} {e : Expr} {G : Prop} (h : chkNm c sc i e = true) (g : e = .Name (c.nm i) (xu e).p → (xu e).s = c.nm i → kStore sc (c.nm i) = true → G) : G := and3_e h fun t a b =>
  have a := of_decide_eq_true a
  g ((xu_is t rfl).trans (congrArg (Expr.Name · (xu e).p) a)) a (a ▸ b)
section
variable (K : CxOk X) (O : Objs X n)
include K O
theorem s_expr (a : PE) : gS X n (.expr a) := fun sc e h => and3_e h fun t h1 h2 => su_to t rfl (snd_expr (sndE K O a sc _ h1).se h2)
theorem s_pass : gS X n .pass := fun sc e h => su_to h rfl snd_pass
theorem s_assign (t : PT) (a : PE) : gS X n (.assign t a) := fun sc e h => and_e h fun tt h => on_e h fun y hy h => and3_e h fun h1 h2 h9 => su_to tt rfl (by
  show S1 X n sc _ (.Assign (su e).l (su e).a (su e).p)
  rw [one_ok hy]
  cases t with
  | loc i => exact nm_e h1 fun e1 e2 hk => e1 ▸ (sndE K O a sc _ h2).as i _ _ _ rfl hk
  | attr o m =>
    refine and3_e h1 fun t h3 h4 => xu_to (P := fun y => S1 X n sc _ (.Assign [y] (su e).a (su e).p)) t rfl ?_
    show S1 X n sc _ (.Assign [.Attribute (xu y).a (xu y).s (xu y).p] (su e).a (su e).p)
    rw [of_decide_eq_true h3]
    exact O.asgA sc o a m _ _ _ _ (sndE K O a sc _ h2).se (sndE K O o sc _ h4).se
  | idx o i => exact and3_e h1 fun t h3 h4 => xu_to (P := fun y => S1 X n sc _ (.Assign [y] (su e).a (su e).p)) t rfl (snd_assign_idx (sndE K O a sc _ h2).se (sndE K O o sc _ h3).se (sndE K O i sc _ h4).se)
  | tup is => exact and4_e h1 fun t _ h3 h4 => and_e h9 fun g1 g2 => xu_to (P := fun y => S1 X n sc _ (.Assign [y] (su e).a (su e).p)) t rfl (snd_assign_tup K (sndE K O a sc _ h2).se h3 h4 (chk_tag h2).1 g2 (Bool.not_eq_true' _ ▸ g1)))
theorem s_augL (i : Nat) (op : BOp) (a : PE) : gS X n (.augLoc i op a) := fun sc e h => and6_e h fun t h1 h2 h3 h4 h5 => su_to t rfl (by
  show S1 X n sc _ (.AugAssign (su e).a (su e).o (su e).b (su e).p)
  refine nm_e h1 fun e1 e2 hk => ?_
  rw [e2] at h2 h3
  rw [e1, of_decide_eq_true h4]
  exact O.augL sc i op a _ _ _ (sndE K O a sc _ h5).se hk h2 h3)
theorem s_augA (o : PE) (m : Nat) (op : BOp) (a : PE) : gS X n (.augAttr o m op a) := fun sc e h => and6_e h fun t t' h1 h2 h3 h4 => su_to t rfl (by
  show S1 X n sc _ (.AugAssign (su e).a (su e).o (su e).b (su e).p)
  rw [of_decide_eq_true h2]
  refine xu_to (P := fun y => S1 X n sc _ (.AugAssign y (opOf op) (su e).b (su e).p)) t' rfl ?_
  show S1 X n sc _ (.AugAssign (.Attribute (xu (su e).a).a (xu (su e).a).s (xu (su e).a).p) (opOf op) (su e).b (su e).p)
  rw [of_decide_eq_true h1]
  exact O.augA sc o a m op _ _ _ _ (sndE K O a sc _ h4).se (sndE K O o sc _ h3).se)
theorem s_ret (a : PEo) : gS X n (.ret a) := fun sc e h => and_e h fun t h => su_to t rfl (by
  show S1 X n sc _ (.Return (su e).o0 (su e).p)
  cases a with
  | none => rw [x0_ok h]; exact snd_ret_none
  | some a => exact on_e h fun x hx h => hx ▸ snd_ret (sndE K O a sc x h).se)
theorem s_ite (c : PC) (a b : PSs) (ha : gSs X n a) (hb : gSs X n b) : gS X n (.ite c a b) := fun sc e h => and4_e h fun t h1 h2 h3 => su_to t rfl (snd_if (sndT K O c sc _ h1) (ha sc _ h2) (hb sc _ h3))
theorem s_loop (ts : List Nat) (it : PE) (body : PSs) (hb : gSs X n body) : gS X n (.loop ts it body) := fun sc e h => and6_e h fun t h1 h2 h3 h4 h5 => su_to t rfl (by
  show S1 X n sc _ (.For (su e).a (su e).b (su e).b0 (su e).b1 (su e).p)
  rw [empty_ok h4]
  refine on_e h1 fun j hj h1 => nm_e h1 fun e1 e2 hk => snd_loop K (sndE K O it sc _ h2).se (hb sc _ h3) ?_ (chk_tag h2).2 h5
  rw [one_ok hj, e1]
  exact bnd_name K rfl hk)
theorem s_enum (g i x : Nat) (it : PE) (body : PSs) (hb : gSs X n body) : gS X n (.loopEnum g i x it body) := fun sc e h => and6_e h fun t h0 h1 h2 h3 h4 => and_e h0 fun t0 h0 => su_to t rfl (by
  show S1 X n sc _ (.For (su e).a (su e).b (su e).b0 (su e).b1 (su e).p)
  rw [empty_ok h3]
  refine xu_to (P := fun a => S1 X n sc _ (.For a (su e).b (su e).b0 [] (su e).p)) t0 rfl ?_
  show S1 X n sc _ (.For (.Tuple (xu (su e).a).l (xu (su e).a).k (xu (su e).a).p) (su e).b (su e).b0 [] (su e).p)
  exact c1_e (G := fun b => S1 X n sc _ (.For _ b (su e).b0 [] (su e).p)) h1 fun x p q y g1 g2 g3 hy => snd_enum K (snd_glob K g1 g2 g3) (sndE K O it sc y hy).se hy (hb sc _ h2) h0 h4)
theorem s_while (c : PC) (body : PSs) (hb : gSs X n body) : gS X n (.while_ c body) := fun sc e h => and4_e h fun t h1 h2 h3 => su_to t rfl (by
  show S1 X n sc _ (.While (su e).a (su e).b0 (su e).b1 (su e).p)
  rw [empty_ok h3]; exact snd_while (sndT K O c sc _ h1) (hb sc _ h2))
theorem s_raise (i : Nat) (a : PE) : gS X n (.raise i a) := fun sc e h => and_e h fun t h => on_e h fun x hx h => and3_e h fun t1 t2 h => on_e h fun v hv h => and5_e h fun h1 h2 h3 h4 h5 => su_to t rfl (by
  show S1 X n sc _ (.Raise (su e).o0 (su e).o1 (su e).p)
  rw [hx, x0_ok h4]
  refine xu_to (P := fun y => S1 X n sc _ (.Raise (some y) none (su e).p)) t1 rfl ?_
  show S1 X n sc _ (.Raise (some (.Call (xu x).a (xu x).l (xu x).kw (xu x).p)) none (su e).p)
  rw [one_ok hv, empty_ok h3]
  exact xu_to (P := fun y => S1 X n sc _ (.Raise (some (.Call y [v] [] (xu x).p)) none (su e).p)) t2 rfl (O.raise sc i a _ v _ _ _ h1 (sndE K O a sc v h2).se h2 h5))
theorem s_try (body : PSs) (i : Nat) (as : Option Nat) (hh : PSs) (hb : gSs X n body) (hhh : gSs X n hh) : gS X n (.try_ body i as hh) := fun sc e h => and_e h fun t h => on_e h fun g hg h => on_e h fun x hx h => and_e h fun t1 h => on_e h fun b₀ hb0 h => and6_e h fun h1 h2 h3 h4 h5 h6 => and_e h5 fun h7 h8 => su_to t rfl (by
  show S1 X n sc _ (.Try (su e).b0 (su e).hs (su e).b1 (su e).b2 (su e).p)
  have h3' := hhh ⟨sc.sc, false⟩ _ h3
  rw [head_ok hb0] at h3'
  rw [one_ok hg, empty_ok h7, empty_ok h8, xHd_ok g, hx, head_ok hb0]
  exact xu_to (P := fun y => S1 X n sc _ (.Try (su e).b0 [.ExceptHandler (some y) _ _ _] [] [] (su e).p)) t1 rfl (O.try_ sc body i as hh _ b₀ _ _ _ _ _ _ h1 (hb sc _ h2) h3' h4 h6))
end
theorem ss_nil : gSs X n .nil := fun sc es h => by rw [empty_ok h]; exact snd_ss_nil
theorem ss_cons (c : PS) (r : PSs) (hc : gS X n c) (hr : gSs X n r) : gSs X n (.cons c r) := fun sc es h => on_e h fun x hx h => and_e h fun h1 h2 => by
  rw [head_ok hx]; exact snd_ss_cons (hc sc x h1) (hr sc _ h2)
theorem sndSs (K : CxOk X) (O : Objs X n) (p : PSs) : gSs X n p :=
  PSs.rec (motive_1 := gS X n) (motive_2 := gSs X n) (s_expr K O) (s_pass K O) (s_assign K O) (s_augL K O) (s_augA K O) (s_ret K O) (s_ite K O) (s_loop K O) (s_enum K O) (s_while K O) (s_raise K O) (s_try K O) ss_nil ss_cons p
end
end Mine

end

section
set_option autoImplicit false
set_option linter.all false
set_option genSizeOf false
set_option genInjectivity false
namespace Mine
open PySem PySem.W PySem.Calls PyProof.Rows

/-- what a look at an exception may change -/
noncomputable def Hid (W : Wd) (H : Hp) (h₀ : Heap) (e : Addr) (l : List Env) (a : Addr) : Prop := a = e ∨ a ∈ l.filterMap (·.frame) ∨ (h₀.get? a = none ∧ ¬ Own W H a ∧ W.Z a = none)
/-- behind a look at an exception -/
structure Aft (W : Wd) (H : Hp) (h₀ h h' : Heap) (e : Addr) (cls : Value) (l : List Env) : Prop where
  same : ∀ b ob, h.get? b = some ob → ¬ Hid W H h₀ e l b → h'.get? b = some ob
  fr : ∀ b ob, b ∈ l.filterMap (·.frame) → h.get? b = some ob → ∃ o', h'.get? b = some o' ∧ SameO ob o'
  fly : Fly W H h₀ h' e
  exc : ∃ oe vs, h'.get? e = some oe ∧ oe.cls = cls ∧ oe.data = .fields vs

section
variable {X : Cx} {M : Model} {A : Around} {E : Value → Shared → Prop} {s : Shared} {W : Wd} {H : Hp} {h₀ : Heap} {e : Addr} {env : Env} {outer : List Env}

theorem frames_of {as : List Addr} {h : Heap} {l : List Env} (F : ∀ e ∈ l, FrAt W H h e) (hin : ∀ b ∈ l.filterMap (·.frame), b ∈ as) : h.FunFrames (hideAll h as) l := by
  induction l with
  | nil => trivial
  | cons env r ih =>
    obtain ⟨kd, L, o, es, n, a, b, c, _⟩ := F env (.head _)
    exact ⟨kd, ⟨L, o, a, hideAll_none _ (hin L (List.mem_filterMap.mpr ⟨env, .head _, a⟩)), b, fun vs q => by rw [c] at q; cases q⟩, ih (fun e he => F e (.tail _ he)) fun b hb => hin b ((List.mem_filterMap.mp hb).elim fun e q => List.mem_filterMap.mpr ⟨e, .tail _ q.1, q.2⟩)⟩

theorem frOwn_of {l : List Env} {h : Heap} (F : ∀ e ∈ l, FrAt W H h e) : ∀ b, b ∈ l.filterMap (·.frame) → ∃ o es n, h.get? b = some o ∧ o.data = .dict es n ∧ ¬ Own W H b ∧ W.Z b = none := fun b hb => by
  obtain ⟨e', he', q⟩ := List.mem_filterMap.mp hb
  obtain ⟨_, L', o, es, n, a, b', c, d, f⟩ := F e' he'
  rw [q] at a; cases a
  exact ⟨o, es, n, b', c, d, f⟩
/-- whatever was hidden -/
theorem aft_of {cls a0 : Value} {l : List Env} {as : List Addr} {h₂ : Heap} (R : RelH X W H s.heap) (there : ∀ a o, h₀.get? a = some o → ∃ o', s.heap.get? a = some o') (F : ∀ e ∈ l, FrAt W H s.heap e) (hin : ∀ a ∈ as, Hid W H h₀ e l a) (x : Heap.FlyingW (hideAll s.heap as) l e cls a0 h₂) (u : s.heap.UpToSlots h₂) : Aft W H h₀ s.heap h₂ e cls l := by
  have frOwn := frOwn_of F
  obtain ⟨k1, _, _, oe, vs, T, oT, ts, he, ⟨hc, h0⟩, hd, h1, hnT, hTe, hT, hdT, h3⟩ := x
  have fr : ∀ b ob, b ∈ l.filterMap (·.frame) → s.heap.get? b = some ob → ∃ o', h₂.get? b = some o' ∧ SameO ob o' := fun b ob hb hob => by
    obtain ⟨o, es, n, q1, q2, _⟩ := frOwn b hb
    rw [hob] at q1; cases q1
    obtain ⟨sl, q⟩ := u b ob hob fun vs z => by rw [q2] at z; cases z
    exact ⟨_, q, .inr ⟨⟨es, n, q2⟩, sl, rfl⟩⟩
  refine ⟨fun b ob hb hn => k1 b ob (hideAll_get _ hb fun hm => hn (hin b hm)), fr, ⟨oe, vs, a0, he, hd, h0, .inr ⟨T, oT, ts, h1, hTe, hT, hdT, h3, ?_⟩⟩, oe, vs, he, hc, hd⟩
  cases hq : s.heap.get? T with
  | none =>
    refine ⟨?_, fun z => ?_, ?_⟩
    · cases q : h₀.get? T with
      | none => rfl
      | some o => obtain ⟨o', z⟩ := there T o q; rw [hq] at z; cases z
    · obtain ⟨o', z⟩ := R.own_there z; rw [hq] at z; cases z
    · cases q : W.Z T with
      | none => rfl
      | some o => have := R.z _ _ q; rw [hq] at this; cases this
  | some o =>
    have hm : T ∈ as := by
      cases hd : decide (T ∈ as) with
      | true => exact of_decide_eq_true hd
      | false => have := hideAll_get as hq (of_decide_eq_false hd); rw [hnT] at this; cases this
    rcases hin T hm with q | q | q
    · exact absurd q hTe
    · obtain ⟨o', z, zz⟩ := fr T o q hq
      obtain ⟨o2, es, n, q1, q2, _⟩ := frOwn T q
      rw [hq] at q1; cases q1
      rw [hT] at z; cases z
      rw [zz.data, q2] at hdT; cases hdT
    · exact q
theorem hid1 {l : List Env} : ∀ a ∈ e :: l.filterMap (·.frame), Hid W H h₀ e l a := fun a ha => by
  rcases List.mem_cons.mp ha with q | q
  · exact .inl q
  · exact .inr (.inl q)
theorem hid2 {l : List Env} {T : Addr} (y : h₀.get? T = none ∧ ¬ Own W H T ∧ W.Z T = none) : ∀ a ∈ e :: T :: l.filterMap (·.frame), Hid W H h₀ e l a := fun a ha => by
  rcases List.mem_cons.mp ha with q | q
  · exact .inl q
  · rcases List.mem_cons.mp q with q | q
    · subst q; exact .inr (.inr y)
    · exact .inr (.inl q)

theorem seen_ok {L : Addr} {cls : Value} {Q : Unit → Shared → Prop} (R : RelH X W H s.heap) (there : ∀ a o, h₀.get? a = some o → ∃ o', s.heap.get? a = some o') (hfr : A.frames = some (env :: outer)) (hf : env.frame = some L) (F : ∀ e ∈ env :: outer, FrAt W H s.heap e)
    (fl : Fly W H h₀ s.heap e) (hcls : ∀ oe, s.heap.get? e = some oe → oe.cls = cls) (hQ : ∀ h', Aft W H h₀ s.heap h' e cls (env :: outer) → Q () { s with heap := h' }) :
    wpAny M A (noteFrame (.ref e) env) (fun _ s₂ => wpAny M A (setFlight (.ref e) none) Q E s₂) E s := by
  obtain ⟨oe, vs, a0, he, hd, h0, h1⟩ := fl
  have hc := hcls oe he
  rcases h1 with h1 | ⟨T, oT, ts, h1, hTe, hT, hdT, h3, y⟩
  · have FF : s.heap.FunFrames (hideAll s.heap (e :: (env :: outer).filterMap (·.frame))) (env :: outer) := frames_of (l := env :: outer) F fun b hb => .tail _ hb
    have hkb : (hideAll s.heap (e :: (env :: outer).filterMap (·.frame))).StaysIn s.heap := fun b o q => of_hideAll _ q
    have hen : (hideAll s.heap (e :: (env :: outer).filterMap (·.frame))).get? e = none := hideAll_none _ (.head _)
    unfold noteFrame
    simp only [hf]
    refine wpAny_bind (wpAny_field he hd h1 ?_)
    rw [if_neg (by decide)]
    refine wpAny_entryW hfr FF hf he hkb hen hd (Array.getElem?_eq_some_iff.mp h1).1 h0 fun h₁ ⟨k1, k2, k3, k4⟩ => ?_
    refine wpAny_landsW (s := { s with heap := h₁ }) ⟨k1, hen, k2, k3⟩ fun h₂ x u => ?_
    rw [hc] at x
    exact hQ _ (aft_of R there F hid1 x (Heap.UpToSlots.trans k4 u))
  · have FF : s.heap.FunFrames (hideAll s.heap (e :: T :: (env :: outer).filterMap (·.frame))) (env :: outer) := frames_of (l := env :: outer) F fun b hb => .tail _ (.tail _ hb)
    have hkb : (hideAll s.heap (e :: T :: (env :: outer).filterMap (·.frame))).StaysIn s.heap := fun b o q => of_hideAll _ q
    have hen : (hideAll s.heap (e :: T :: (env :: outer).filterMap (·.frame))).get? e = none := hideAll_none _ (.head _)
    have hTn : (hideAll s.heap (e :: T :: (env :: outer).filterMap (·.frame))).get? T = none := hideAll_none _ (.tail _ (.head _))
    refine wpAny_looks_onW hfr hf ⟨hkb, hen, FF, oe, vs, T, oT, ts, he, ⟨hc, h0⟩, hd, h1, hTn, hTe, hT, hdT, h3⟩ fun h₁ hh u₁ => ?_
    exact wpAny_landsW (s := { s with heap := h₁ }) hh fun h₂ x u => hQ _ (aft_of R there F (hid2 y) x (u₁.trans u))
/-- it lands once more -/
theorem again_ok {l : List Env} {cls : Value} {Q : Unit → Shared → Prop} (R : RelH X W H s.heap) (there : ∀ a o, h₀.get? a = some o → ∃ o', s.heap.get? a = some o') (F : ∀ e ∈ l, FrAt W H s.heap e)
    (fl : Fly W H h₀ s.heap e) (hcls : ∀ oe, s.heap.get? e = some oe → oe.cls = cls) (hQ : ∀ h', Aft W H h₀ s.heap h' e cls l → Q () { s with heap := h' }) :
    wpAny M A (setFlight (.ref e) none) Q E s := by
  obtain ⟨oe, vs, a0, he, hd, h0, h1⟩ := fl
  have hc := hcls oe he
  rcases h1 with h1 | ⟨T, oT, ts, h1, hTe, hT, hdT, h3, y⟩
  · unfold setFlight
    refine wpAny_bind (wpAny_field he hd h1 ?_)
    rw [if_neg (by decide)]
    exact wpAny_pure (hQ s.heap ⟨fun b ob q _ => q, fun b ob _ q => ⟨ob, q, .refl ob⟩, ⟨oe, vs, a0, he, hd, h0, .inl h1⟩, oe, vs, he, hc, hd⟩)
  · have FF : s.heap.FunFrames (hideAll s.heap (e :: T :: l.filterMap (·.frame))) l := frames_of (l := l) F fun b hb => .tail _ (.tail _ hb)
    have hkb : (hideAll s.heap (e :: T :: l.filterMap (·.frame))).StaysIn s.heap := fun b o q => of_hideAll _ q
    have hen : (hideAll s.heap (e :: T :: l.filterMap (·.frame))).get? e = none := hideAll_none _ (.head _)
    have hTn : (hideAll s.heap (e :: T :: l.filterMap (·.frame))).get? T = none := hideAll_none _ (.tail _ (.head _))
    exact lands_againW ⟨hkb, hen, FF, oe, vs, T, oT, ts, he, ⟨hc, h0⟩, hd, h1, hTn, hTe, hT, hdT, h3⟩ fun h₂ x u => hQ _ (aft_of R there F (hid2 y) x u)

theorem Aft.rel {h' : Heap} {cls : Value} {l : List Env} {i k : Nat} {la : Addr × Addr} {c : Addr} (R : RelH X W H s.heap) (hi : H.get i = some (.exc k)) (hl : W.φ i = some la) (hla : la.1 = e) (hc : X.clA k = some c) (hcls : cls = .ref c) (F : ∀ e ∈ l, FrAt W H s.heap e) (a : Aft W H h₀ s.heap h' e cls l) : RelH X W H h' := by
  have cell0 : ExcCell X s.heap la k := R.at_ hi hl
  have own_e : Own W H e := ⟨i, _, la, hi, hl, .inl hla.symm⟩
  have frOwn : ∀ b, b ∈ l.filterMap (·.frame) → ¬ Own W H b ∧ W.Z b = none := fun b hb => by
    obtain ⟨e', he', q⟩ := List.mem_filterMap.mp hb
    obtain ⟨_, L', o, es, n, x1, x2, x3, x4, x5⟩ := F e' he'
    rw [q] at x1; cases x1
    exact ⟨x4, x5⟩
  refine ⟨fun b ob hz => a.same b ob (R.z b ob hz) fun hd => ?_, R.base, fun j cj hj => ?_, R.off, R.sep, R.dom⟩
  · rcases hd with q | q | q
    · rw [q, R.off e own_e] at hz; cases hz
    · rw [(frOwn b q).2] at hz; cases hz
    · rw [q.2.2] at hz; cases hz
  · obtain ⟨l', hl', cell⟩ := R.cell j cj hj
    by_cases hji : j = i
    · subst hji
      have : l' = la := Option.some.inj (hl'.symm.trans hl)
      subst this
      rw [hi] at hj; cases hj
      obtain ⟨oe, vs, q1, q2, q3⟩ := a.exc
      obtain ⟨_, _, _, _, hx, _, _, _, hl2⟩ := cell0
      exact ⟨l', hl, c, oe, vs, hc, hx, by rw [hla]; exact q1, q2.trans hcls, q3, hl2⟩
    · obtain ⟨s1, s2, s3, s4⟩ := R.sep j i cj _ l' la hj hi hl' hl hji
      have nh : ∀ b, b = l'.1 ∨ b = l'.2 → ¬ Hid W H h₀ e l b := fun b hb hd => by
        have ob : Own W H b := ⟨j, cj, l', hj, hl', hb⟩
        rcases hd with q | q | q
        · rcases hb with r | r
          · exact s1 (by rw [← r, q, hla])
          · exact s3 (by rw [← r, q, hla])
        · exact (frOwn b q).1 ob
        · exact q.2.1 ob
      exact ⟨l', hl', cell.keeps (.refl _) (fun o q => a.same _ _ q (nh _ (.inl rfl))) fun o q => a.same _ _ q (nh _ (.inr rfl))⟩

theorem Stp.post {Pv : Addr → Prop} {W₀ : Wd} {H₀ : Hp} {h h' : Heap} (S : Stp Pv W₀ H₀ h₀ W H h) (k : ∀ b, (∃ o, h₀.get? b = some o) → ∀ ob, h.get? b = some ob → ∃ o', h'.get? b = some o' ∧ (¬ Own W H b → SameO ob o')) : Stp Pv W₀ H₀ h₀ W H h' where
  le := S.le
  keep := fun a o ha no np => by
    obtain ⟨o₁, h1, q1⟩ := S.keep a o ha no np
    obtain ⟨o₂, h2, q2⟩ := k a ⟨o, ha⟩ o₁ h1
    exact ⟨o₂, h2, q1.trans (q2 (S.own a o ha no))⟩
  own := S.own
  znew := S.znew
  there := fun a o ha => by
    obtain ⟨o₁, h1⟩ := S.there a o ha
    obtain ⟨o₂, h2, _⟩ := k a ⟨o, ha⟩ o₁ h1
    exact ⟨o₂, h2⟩
theorem Aft.stp {Pv : Addr → Prop} {W₀ : Wd} {H₀ : Hp} {h h' : Heap} {cls : Value} {l : List Env} (S : Stp Pv W₀ H₀ h₀ W H h) (ho : Own W H e) (a : Aft W H h₀ h h' e cls l) : Stp Pv W₀ H₀ h₀ W H h' :=
  S.post fun b hb ob hob => by
    by_cases hd : Hid W H h₀ e l b
    · rcases hd with q | q | q
      · obtain ⟨oe, vs, q1, _⟩ := a.exc
        exact ⟨oe, by rw [q]; exact q1, fun z => absurd (q ▸ ho) z⟩
      · obtain ⟨o', q1, q2⟩ := a.fr b ob q hob
        exact ⟨o', q1, fun _ => q2⟩
      · obtain ⟨o, z⟩ := hb; rw [q.1] at z; cases z
    · exact ⟨ob, a.same b ob hob hd, fun _ => .refl ob⟩
/-- the frame at hand, behind a look -/
theorem Aft.frr {h h' : Heap} {cls : Value} {env' : Env} {Pv : Pr} {loc : Loc} (F : FrR X W H h env' Pv loc) (hp : ∀ b, Pv.pv b → ∃ o, h₀.get? b = some o) (hcl : ∀ x c, env'.cells.lookup x = some c → ∃ o, h₀.get? c = some o) (ho : Own W H e) (a : Aft W H h₀ h h' e cls Pv.st) : FrR X W H h' env' Pv loc := by
  have key : ∀ b, ¬ Own W H b → (∃ o, h₀.get? b = some o) → ∀ o, h.get? b = some o → ∃ o', h'.get? b = some o' ∧ SameO o o' := fun b nb hb o hob => by
    by_cases hd : Hid W H h₀ e Pv.st b
    · rcases hd with q | q | q
      · exact absurd (q ▸ ho) nb
      · exact a.fr b o q hob
      · obtain ⟨o, z⟩ := hb; rw [q.1] at z; cases z
    · exact ⟨o, a.same b o hob hd, .refl o⟩
  have kp : ∀ b, Pv.pv b → ∀ o, h.get? b = some o → ∃ o', h'.get? b = some o' ∧ SameO o o' := fun b p => key b (F.priv b p).1 (hp b p)
  have kc : ∀ x c, env'.cells.lookup x = some c → ∀ o, h.get? c = some o → ∃ o', h'.get? c = some o' ∧ SameO o o' := fun x c q => key c (F.cellNs x c q).2.1 (hcl x c q)
  refine ⟨?_, fun i v e k => ?_, fun x ef e => ?_, F.cellEq, fun x c e => ?_, F.pvL, F.priv, fun b p => ?_, fun e he => (F.frs e he).keep fun L o es n x1 x2 x3 x4 x5 => ⟨?_, x4, x5⟩, F.frc⟩
  · obtain ⟨m, hn, hv⟩ := F.ns
    exact ⟨m, ns_same hn (kp _ F.pvL), hv⟩
  · obtain ⟨c, cv, q, r, t⟩ := F.cells i v e k
    exact ⟨c, cv, q, cell_same r (kc _ _ q), t⟩
  · obtain ⟨c, v, q, r, t⟩ := F.hasCell x ef e
    exact ⟨c, v, q, cell_same r (kc _ _ q), t⟩
  · obtain ⟨p, q, ob, r⟩ := F.cellNs x c e
    obtain ⟨o', z, _⟩ := kc x c e ob r
    exact ⟨p, q, o', z⟩
  · obtain ⟨o, r⟩ := F.pvAt b p
    obtain ⟨o', z, _⟩ := kp b p o r
    exact ⟨o', z⟩
  · obtain ⟨o', z, q⟩ := a.fr L o (List.mem_filterMap.mpr ⟨e, he, x1⟩) x2
    exact ⟨o', es, n, z, q.data.trans x3⟩
end
end Mine

end

section
set_option autoImplicit false
set_option linter.all false
set_option genSizeOf false
set_option genInjectivity false
namespace Mine
open PySem PySem.W PySem.Calls PyProof.Rows
open Classical

section
variable {X : Cx} {n : Nat}

theorem cells_some (names : List (Str × NameKind)) : ∀ (k : Nat) (acc : List (Str × Addr)) (x : Str), ((x, NameKind.cell) ∈ names ∨ ∃ c, acc.lookup x = some c) → ∃ c, (cellsFrom k names acc).lookup x = some c := by
  induction names with
  | nil => exact fun _ _ _ h => h.elim (fun q => (nomatch q)) id
  | cons p r ih =>
    intro k acc x h
    obtain ⟨y, kd⟩ := p
    unfold cellsFrom
    split
    · refine ih (k + 1) ((y, k) :: acc) x ?_
      rcases h with h | ⟨c, h⟩
      · rcases List.mem_cons.mp h with q | q
        · cases q; exact .inr ⟨k, lookup_eq (beq_self_eq_true x)⟩
        · exact .inl q
      · cases hb : x == y with
        | true => exact .inr ⟨k, lookup_eq hb⟩
        | false => exact .inr ⟨c, (lookup_ne hb).trans h⟩
    · rename_i hk
      refine ih k acc x (h.imp (fun h => ?_) id)
      rcases List.mem_cons.mp h with q | q
      · cases q; exact absurd rfl hk
      · exact q

/-- the names bound at a call's start -/
structure BR (X : Cx) (W : Wd) (kd : Str → Option NameKind) (loc : Loc) (m cm : Str → Option Value) : Prop where
  l : ∀ i v, loc i = some v → kd (X.nm i) = some .local → MmR X W m i v
  c : ∀ i v, loc i = some v → kd (X.nm i) ≠ some .local → MmR X W cm i v
theorem bindP_e {ps : List Nat} {p : Nat} {as : List V} {l₀ l : Loc} {G : Prop} (h : bindP (p :: ps) as l₀ = some l) (g : ∀ a as', as = a :: as' → bindP ps as' (upd l₀ p a) = some l → G) : G := by
  cases as with
  | nil => cases h
  | cons a as => exact g a as rfl h
theorem bindP_nil {as : List V} {l₀ l : Loc} (h : bindP [] as l₀ = some l) : as = [] ∧ l = l₀ := by
  cases as with
  | nil => exact ⟨rfl, (Option.some.inj h).symm⟩
  | cons _ _ => cases h
theorem bind_rel (K : CxOk X) {W : Wd} {kd : Str → Option NameKind} (ps : List Nat) : ∀ (vs : List Value) (as : List V) (l₀ l : Loc) (m cm : Str → Option Value), VRs X W vs as → bindP ps as l₀ = some l → BR X W kd l₀ m cm → BR X W kd l (PySem.bindL kd ((ps.map X.nm).zip vs) m) (PySem.bindC kd ((ps.map X.nm).zip vs) cm) := by
  induction ps with
  | nil =>
    intro vs as l₀ l m cm hv hb h
    rw [(bindP_nil hb).2]; exact h
  | cons p ps ih =>
    intro vs as l₀ l m cm hv hb h
    refine bindP_e hb fun a as' e hb' => ?_
    subst e
    cases hv with
    | @cons v vs _ _ hv hvs =>
      have key : ∀ i u, upd l₀ p a i = some u → (i = p ∧ u = a) ∨ (X.nm i ≠ X.nm p ∧ l₀ i = some u) := fun i u e => by
        have e' : (if i = p then some a else l₀ i) = some u := e
        by_cases hi : i = p
        · rw [if_pos hi] at e'; exact .inl ⟨hi, (Option.some.inj e').symm⟩
        · rw [if_neg hi] at e'; exact .inr ⟨fun q => hi (K.inj _ _ q), e'⟩
      refine ih vs as' (upd l₀ p a) l _ _ hvs hb' ⟨fun i u e q => ?_, fun i u e q => ?_⟩
      · rcases key i u e with ⟨rfl, rfl⟩ | ⟨ne, e⟩
        · exact ⟨v, by rw [if_pos q, if_pos rfl], hv⟩
        · obtain ⟨cv, a1, a2⟩ := h.l i u e q
          refine ⟨cv, ?_, a2⟩
          split
          · exact (if_neg ne).trans a1
          · exact a1
      · rcases key i u e with ⟨rfl, rfl⟩ | ⟨ne, e⟩
        · exact ⟨v, by rw [if_neg q, if_pos rfl], hv⟩
        · obtain ⟨cv, a1, a2⟩ := h.c i u e q
          refine ⟨cv, ?_, a2⟩
          split
          · exact a1
          · exact (if_neg ne).trans a1
theorem bindP_len (ps : List Nat) : ∀ (as : List V) (l₀ l : Loc), bindP ps as l₀ = some l → as.length = ps.length := by
  induction ps with
  | nil => exact fun as l₀ l h => by rw [(bindP_nil h).1]; rfl
  | cons p ps ih => exact fun as l₀ l h => bindP_e h fun a as' e h => by rw [e]; exact congrArg (· + 1) (ih as' _ l h)

/-- a new place is no one's -/
theorem RelH.fresh_no {W : Wd} {H : Hp} {h : Heap} (R : RelH X W H h) {b : Addr} (hb : h.get? b = none) : ¬ Own W H b ∧ W.Z b = none := by
  refine ⟨fun q => (R.own_there q).elim fun _ e => (by rw [hb] at e; cases e), ?_⟩
  cases q : W.Z b with
  | none => rfl
  | some ob => have := R.z _ _ q; rw [hb] at this; cases this
/-- the private places of a call -/
noncomputable def callPv (fd : FuncData) (L a : Addr) (outer : List Env) : Pr := ⟨fun b => b = L ∨ ∃ x, (callEnvC fd L a).cells.lookup x = some b, callEnvC fd L a :: outer⟩
section
variable {A : Around} {k : Nat} {a : Addr} {as : List V} {vs : List Value} {W : Wd} {H : Hp} {s : Shared} {d : Fn} {m : Loc} {q : Bool} {o : Obj} {fd : FuncData} {body : List Stmt} {outer : List Env}
theorem call_run (K : CxOk X) (O : Objs X n) (A : Around) (k : Nat) (a : Addr) (as : List V) (vs : List Value) (W : Wd) (H : Hp) (s : Shared) (Q : V → Hp → Prop) (E : Nat → Hp → Prop) (hA : AOk A (n + 1)) (hq : A.handled = none ∨ X.quiet k = true) (hst : FrsAt A W H s.heap) (R : RelH X W H s.heap) (hv : VRs X W vs as) (ha : X.fnA k = some a)
    (h : need (X.P.fn k) fun d => need (bindP d.params as fun _ => none) fun m => wpSs X.P (CW X.P n) d.body ⟨H, m⟩ (fun fl σ => Q (retV fl) σ.H) fun e σ => E e σ.H) : codeAny (model X.prog X.w) A (.call (.ref a) ⟨vs, []⟩) (CPost X W H s Q E) s := by
  obtain ⟨outer, hfr, hfrs⟩ := hst
  refine need_e h fun d hd h => need_e h fun m hm h => ?_
  obtain ⟨o, fd, body, F⟩ := K.fn k a d ha hd
  have hlen : vs.length = d.params.length := by rw [hv.length]; exact bindP_len _ _ _ _ hm
  have cs : ∀ (N : Nat) x, fd.scope.names.lookup x = some .cell → ∃ c, (cellsFrom N fd.scope.names []).lookup x = some c := fun N x q => cells_some _ _ _ _ (.inl (lookup_mem q))
  refine codeAny_call_cells (by have := hA.depth; omega) (R.bkeep _ _ F.at_) F.data (K.noLim.keeps R.bkeep) (F.code.keeps R.bkeep) F.body_ (F.bind vs hlen) F.clo (fun x hx => ?_) (fun s₁ ic => ?_) F.co F.gen F.kind
  · obtain ⟨i, hi, e⟩ := List.mem_map.mp (List.of_mem_zip (show (x.1, x.2) ∈ _ from hx)).1
    rw [← e]
    rcases Bool.or_eq_true_iff.mp (F.par i hi) with q | q
    · exact .inl (knd_of (sc := ⟨fd.scope, true⟩) (Nat.eq_of_beq_eq_true q) (by decide))
    · have q : fd.scope.names.lookup (X.nm i) = some .cell := knd_of (sc := ⟨fd.scope, true⟩) (Nat.eq_of_beq_eq_true q) (by decide)
      exact (cs (s.heap.objs.size + 1) _ q).elim fun c hc => .inr ⟨q, by rw [hc]; rfl⟩
  generalize hL : s.heap.objs.size = L at ic ⊢
  have sn : ∀ b, L ≤ b → s.heap.get? b = none := fun b hb => Heap.get?_none_of_le (by rw [hL]; exact hb)
  obtain ⟨h₁, tk, rfl, keep⟩ := ic.done
  have ab : ∀ x c, (callEnvC fd L a).cells.lookup x = some c → L < c := fun x c q => ic.above x c (lookup_mem q)
  have pvN : ∀ b, (callPv fd L a outer).pv b → s.heap.get? b = none := fun b hb => hb.elim (fun q => by rw [q]; exact sn L (Nat.le_refl _)) fun ⟨x, q⟩ => sn b (Nat.le_of_lt (ab x b q))
  have S0 : Stp noPv W H s.heap W H h₁ := .quiet (fun b ob e _ => keep b ob e) fun b ob e => ⟨ob, keep b ob e⟩
  have br := bind_rel K (kd := (callEnvC fd L a).kindOf) d.params vs as (fun _ => none) m (fun _ => none) (fun _ => none) hv hm ⟨fun i v e => (by cases e), fun i v e => (by cases e)⟩
  have kc : ∀ x, (callEnvC fd L a).kindOf x = some .cell → ∃ c, (callEnvC fd L a).cells.lookup x = some c := fun x q => cs (L + 1) x q
  have kf : ∀ x, (callEnvC fd L a).kindOf x ≠ some .free := fun x q => F.free _ (lookup_mem (show fd.scope.names.lookup x = some .free from q)) rfl
  have fr : FrR X W H h₁ (callEnvC fd L a) (callPv fd L a outer) m := by
    refine ⟨⟨_, ic.toInCall.ns, br.l⟩, fun i v e q => ?_, fun x _ q => ?_, fun x y c q q' => name_of_addr ic.apart (lookup_mem q) (lookup_mem q'), fun x c q => ?_, .inl rfl, fun b hb => R.fresh_no (pvN b hb), fun b hb => ?_, fun e he => ?_, fun x c q e he z => ?_⟩
    · have q' : (callEnvC fd L a).kindOf (X.nm i) = some .cell := q.elim id fun z => absurd z (kf _)
      obtain ⟨c, hc⟩ := kc _ q'
      obtain ⟨cv, h1, h2⟩ := br.c i v e (by rw [q']; intro z; cases z)
      have hcell := ic.cell _ c hc
      rw [h1] at hcell
      exact ⟨c, cv, hc, hcell, h2⟩
    · exact (kc _ q).elim fun c hc => ⟨c, _, hc, ic.cell _ c hc, .inr ⟨x, hc⟩⟩
    · exact (ic.cell _ c q).elim fun ob ho => ⟨Nat.ne_of_gt (ab x c q), (R.fresh_no (pvN c (.inr ⟨x, q⟩))).1, ob, ho.1⟩
    · rcases hb with rfl | ⟨x, q⟩
      · obtain ⟨ob, _, _, ho, _⟩ := ic.toInCall.ns; exact ⟨ob, ho⟩
      · exact (ic.cell _ b q).elim fun ob ho => ⟨ob, ho.1⟩
    · rcases List.mem_cons.mp he with q | q
      · subst q
        obtain ⟨ob, es, n', ho, hd', _⟩ := ic.toInCall.ns
        exact ⟨by show fd.scope.kind ≠ _; rw [F.kind]; decide, L, ob, es, n', rfl, ho, hd', R.fresh_no (sn L (Nat.le_refl _))⟩
      · exact (hfrs e q).keep fun L' o es n' a b c d f => ⟨⟨o, es, n', keep _ _ b, c⟩, d, f⟩
    · rcases List.mem_cons.mp he with r | r
      · subst r
        exact Nat.ne_of_lt (ab x c q) (Option.some.inj (show some L = some c from z))
      · obtain ⟨_, L', o, es, n', x1, x2, _⟩ := hfrs e r
        rw [z] at x1; cases x1
        rw [pvN c (.inr ⟨x, q⟩)] at x2; cases x2
  have hfr' : (A.deeper (callEnvC fd L a)).frames = some (callEnvC fd L a :: outer) := by show A.frames.map _ = _; rw [hfr]; rfl
  have hs : ∀ hd', (hd' = true → A.handled = none) → chkSs X.ck ⟨fd.scope, hd'⟩ d.body body = true → _ := fun hd' hh' hck => sndSs K O d.body ⟨fd.scope, hd'⟩ body hck (A.deeper (callEnvC fd L a)) (callEnvC fd L a) (callPv fd L a outer) W ⟨H, m⟩ { s with heap := h₁, toks := tk } _ _
    ⟨hfr', fun _ => ⟨(fun z => by cases z), outer, rfl⟩, ⟨by have := hA.depth; show A.depth + 1 + 4 * n + 6 < _; omega, by have := hA.units; show A.units + 3 + 20 * n + 110 < _; omega⟩, hh', F.kind, F.glob, F.bi, fun x k q => .inl q, fun x q => q.elim (kc x) fun z => absurd z (kf x)⟩ (by intro z; cases z) ⟨R.quiet (Pv := noPv) (fun b ob e _ => keep b ob e) fun _ z => z.elim, fr⟩ h
  refine wpAny_mono (hq.elim (fun q => hs true (fun _ => q) F.chk) fun q => hs false (fun z => (Bool.false_ne_true z).elim) (F.chkq q)) (fun fl s' qq => qq.e fun W' σ' T qq => qq.e fun af hfr q => ?_) fun e s' x => ?_
  · have Tc' : Tc X W H s W' σ'.H s' := ⟨S0.transFresh T.stp fun b hb => .inl (pvN b hb), T.at_.rel, ⟨T.rest.gens, T.rest.drawn, T.rest.os⟩⟩
    cases hfr with
    | ret hr => exact ⟨W', σ'.H, _, Tc', hr, q⟩
    | _ => exact ⟨W', σ'.H, _, Tc', .none, q⟩
  · obtain ⟨W', σ', i, l, k', T, rfl, hl, hg, fl, hE⟩ := x
    obtain ⟨c, o, vs', hc, _, ho, hcls, hdd, _⟩ := T.at_.rel.at_ hg hl
    unfold leaving
    refine wpAny_bind (seen_ok (h₀ := h₁) (cls := .ref c) T.at_.rel T.stp.there hfr' rfl T.at_.fr.frs fl (fun oe q => by rw [ho] at q; cases q; exact hcls) fun h' aft => ?_)
    exact ⟨W', σ'.H, i, l, k', ⟨S0.transFresh (aft.stp T.stp ⟨i, _, l, hg, hl, .inl rfl⟩) fun b hb => .inl (pvN b hb), aft.rel T.at_.rel hg hl rfl hc rfl T.at_.fr.frs, ⟨T.rest.gens, T.rest.drawn, T.rest.os⟩⟩, rfl, hl, hg, aft.fly.back fun a o q => ⟨o, keep a o q⟩, hE⟩
end
theorem call_step (K : CxOk X) (O : Objs X n) : CallM X (n + 1) := by
  intro A k a as vs W H s Q E hA hq hst R hv ha h
  change Fc (fun as H Q E => need (X.P.fn k) fun d => need (bindP d.params as fun _ => none) fun m => wpSs X.P (CW X.P n) d.body ⟨H, m⟩ (fun fl σ => Q (retV fl) σ.H) fun e σ => E e σ.H) as H Q E at h
  induction h generalizing vs W with
  | @run as H Q E h => exact call_run K O A k a as vs W H s Q E hA hq hst R hv ha h
  | @foc as H Q E js as₁ H₀ e hs h ih =>
    subst hs
    have hst' : FrsAt A (W.part H H₀ js s.heap) H₀ s.heap := by
      obtain ⟨l, e1, e2⟩ := hst
      exact ⟨l, e1, fun ev he => (e2 ev he).keep fun L o es n a b c d f => ⟨⟨o, es, n, b, c⟩, fun z => d (ownPart R e z).1, by
        show (if OutD W H H₀ js s.heap L then s.heap.get? L else W.Z L) = none
        rw [if_neg fun q => d q.1.own]; exact f⟩⟩
    have hv' : VRs X (W.part H H₀ js s.heap) vs as₁ := vrs_down (fun a o z => zPart R z) (fun i => rfl) as₁ hv
    refine codeAny_mono (ih vs _ hst' (relPart R e) hv') fun r s' q => ?_
    cases r with
    | ok fl =>
      cases fl with
      | ret v =>
        obtain ⟨W₁, H₁, av, T, r, q⟩ := q
        exact ⟨_, _, _, tcWhole R e T, vrWhole R e T r, q⟩
      | _ => exact q.elim
    | error x =>
      obtain ⟨W₁, H₁, i, l, k', T, he, hl, hg, hf, q⟩ := q
      have hg' : (mrg js H₀ H H₁).get (rho js H.next i) = some (.exc k') := by
        rw [rho_new q.1]
        have li : i < H₁.next := atC_lt hg
        rw [mrg_get, if_pos (by have := q.1; omega)]
        show (match pos js H.next (H.next + (i - js.length)) with | some i => mrgC (rho js H.next) (H₀.get i) (H₁.get i) _ | none => _) = _
        rw [pos_new q.1]
        show mrgC (rho js H.next) (H₀.get i) (H₁.get i) _ = _
        rw [hg]; rfl
      refine ⟨_, _, rho js H.next i, l, k', tcWhole R e T, he, phiW R e T hl, hg', ?_, q.2⟩
      obtain ⟨oe, ws, a0, x1, x2, x3, x4⟩ := hf
      refine ⟨oe, ws, a0, x1, x2, x3, x4.imp id fun y => ?_⟩
      obtain ⟨t, ot, ts, y1, y2, y3, y4, y5, y6, y7, y8⟩ := y
      refine ⟨t, ot, ts, y1, y2, y3, y4, y5, y6, fun z => (ownW R e T z).elim (fun o => by obtain ⟨_, w⟩ := R.own_there o.own; rw [y6] at w; cases w) y7, ?_⟩
      show (if OutD W H H₀ js s.heap t then none else W₁.Z t) = none
      by_cases d : OutD W H H₀ js s.heap t
      · rw [if_pos d]
      · rw [if_neg d]; exact y8
theorem call_zero : CallM X 0 := fun A k a as vs W H s Q E hA hq hst R hv ha h => h.elim
end
end Mine

end

section
set_option autoImplicit false
set_option linter.all false
set_option genSizeOf false
set_option genInjectivity false
namespace Mine
open PySem PySem.W PySem.Calls PyProof.Rows

/-- a def that a class names -/
inductive FnIs (X : Cx) (K : Frag) (c : Addr) (x : Str) (f : Nat) : Prop
  | mk (a : Addr) (ha : X.fnA f = some a) (hf : findIn K (.ref c) x = some (some (.ref a))) (ht : typeIn K (.ref a) = some (.type "function"))
/-- a class of the text's -/
structure ClAt (X : Cx) (K : Frag) (c : Addr) (cl : Cl) : Prop where
  mks : makesIn K c = true
  ga : findIn K (.ref c) "__getattribute__" = some (some (.builtin "object.__getattribute__"))
  gh : findIn K (.ref c) "__getattr__" = some none
  sa : findIn K (.ref c) "__setattr__" = some (some (.builtin "object.__setattr__"))
  po : plainOver K c = true
  hd : hasDictIn K c = true
  kp : keepIn K (.ref c) = true
  init : ∀ f, cl.init = some f → FnIs X K c "__init__" f
  meth : ∀ n f, lk cl.meths n = some f → FnIs X K c (X.nm n) f
  attr : ∀ n, n ∈ cl.attrs → findIn K (.ref c) (X.nm n) = some none
  dis : ∀ n f, lk cl.meths n = some f → n ∉ cl.attrs
/-- the classes that are made -/
structure ClsOk (X : Cx) (K : Frag) : Prop where
  inn : K.In X.hb
  cls : ∀ k c cl, X.clA k = some c → X.P.cls k = some cl → ClAt X K c cl

theorem lk_cons {α : Type} {i n : Nat} {x : α} {r : List (Nat × α)} {G : Prop} {o : Option α} (h : lk ((i, x) :: r) n = o) (g1 : i = n → o = some x → G) (g2 : i ≠ n → lk r n = o → G) : G := by
  have h : cond (Nat.beq i n) (some x) (lk r n) = o := h
  cases e : Nat.beq i n with
  | true => rw [e] at h; exact g1 (Nat.eq_of_beq_eq_true e) h.symm
  | false => rw [e] at h; exact g2 (Nat.ne_of_beq_eq_false e) h
theorem lk_in {α : Type} {l : List (Nat × α)} {i : Nat} {v : α} (h : lk l i = some v) : (i, v) ∈ l := by
  induction l with
  | nil => cases h
  | cons p r ih =>
    obtain ⟨j, u⟩ := p
    exact lk_cons h (fun e q => by cases q; subst e; exact .head _) fun _ q => .tail _ (ih q)
theorem st_cons {i n : Nat} {x y : V} {r : List (Nat × V)} {P : List (Nat × V) → Prop} (g1 : i = n → P ((i, x) :: r)) (g2 : i ≠ n → P ((i, y) :: st r n x)) : P (st ((i, y) :: r) n x) := by
  show P (cond (Nat.beq i n) ((i, x) :: r) ((i, y) :: st r n x))
  cases e : Nat.beq i n with
  | true => exact g1 (Nat.eq_of_beq_eq_true e)
  | false => exact g2 (Nat.ne_of_beq_eq_false e)
theorem st_len (n : Nat) (x : V) (fs : List (Nat × V)) : (st fs n x).length ≤ fs.length + 1 := by
  induction fs with
  | nil => exact Nat.le_refl _
  | cons p r ih =>
    obtain ⟨i, y⟩ := p
    exact st_cons (P := fun l => l.length ≤ ((i, y) :: r).length + 1) (fun _ => Nat.le_succ _) fun _ => Nat.succ_le_succ ih
theorem st_mem {n : Nat} {x : V} {fs : List (Nat × V)} {p : Nat × V} : p ∈ st fs n x → p.1 = n ∨ ∃ q ∈ fs, q.1 = p.1 := by
  induction fs with
  | nil => exact fun h => by cases List.mem_singleton.mp h; exact .inl rfl
  | cons q r ih =>
    obtain ⟨i, y⟩ := q
    refine st_cons (P := fun l => p ∈ l → p.1 = n ∨ ∃ q ∈ (i, y) :: r, q.1 = p.1) (fun e h => ?_) fun _ h => ?_
    · rcases List.mem_cons.mp h with rfl | h
      · exact .inl e
      · exact .inr ⟨p, .tail _ h, rfl⟩
    · rcases List.mem_cons.mp h with rfl | h
      · exact .inr ⟨_, .head _, rfl⟩
      · exact (ih h).imp id fun ⟨q, hq, e⟩ => ⟨q, .tail _ hq, e⟩
section
variable {X : Cx} {K : Frag} {W : Wd}
theorem str_yes {x : Str} {t : Tok} : (Value.str x t).isStr x = true := beq_self_eq_true x
theorem str_no {x y : Str} {t : Tok} (h : x ≠ y) : (Value.str x t).isStr y = false := beq_eq_false_iff_ne.mpr h
inductive Fnd (X : Cx) (W : Wd) (es : List DictEntry) (y : Str) (x : V) : Prop
  | mk (e : DictEntry) (h : es.find? (fun d => d.key.isStr y) = some e) (r : VR X W e.val x)
theorem FVs.find {n : Nat} (inj : ∀ i j, X.nm i = X.nm j → i = j) {es : List DictEntry} {fs : List (Nat × V)} (h : FVs X W es fs) : (∀ x, lk fs n = some x → Fnd X W es (X.nm n) x) ∧ (lk fs n = none → es.find? (fun d => d.key.isStr (X.nm n)) = none) := by
  induction h with
  | nil => exact ⟨fun _ e => by (cases e), fun _ => rfl⟩
  | @cons i hh t v x es fs a r ih =>
    refine ⟨fun y e => lk_cons e (fun q z => ?_) fun q z => ?_, fun e => lk_cons e (fun q z => by cases z) fun q z => ?_⟩
    · cases z; subst q; exact ⟨_, by rw [List.find?_cons, str_yes], a⟩
    · obtain ⟨en, he, r⟩ := ih.1 y z
      exact ⟨en, by rw [List.find?_cons, str_no fun w => q (inj _ _ w)]; exact he, r⟩
    · rw [List.find?_cons, str_no fun w => q (inj _ _ w)]; exact ih.2 z
theorem FVs.noRef {es : List DictEntry} {fs : List (Nat × V)} (h : FVs X W es fs) : es.any (·.refKey) = false := by
  induction h with
  | nil => rfl
  | cons a r ih => rw [List.any_cons, ih]; rfl
theorem FVs.put {n : Nat} {hsh : Int} {t : Tok} {v : Value} {x : V} (inj : ∀ i j, X.nm i = X.nm j → i = j) (hv : VR X W v x) {es : List DictEntry} {fs : List (Nat × V)} (h : FVs X W es fs) : FVs X W (putL (X.nm n) hsh (.str (X.nm n) t) v es) (st fs n x) := by
  induction h with
  | nil => exact .cons hv .nil
  | @cons i hh t' v' x' es fs a r ih =>
    refine st_cons (P := FVs X W (putL (X.nm n) hsh (.str (X.nm n) t) v (⟨hh, .str (X.nm i) t', v'⟩ :: es))) (fun q => ?_) fun q => ?_
    · subst q
      rw [putL, if_pos str_yes]; exact .cons hv r
    · rw [putL, if_neg (fun z => by rw [str_no fun w => q (inj _ _ w)] at z; cases z)]; exact .cons a ih
theorem FVs.len {es : List DictEntry} {fs : List (Nat × V)} (h : FVs X W es fs) : es.length = fs.length := by
  induction h with
  | nil => rfl
  | cons a r ih => exact congrArg (· + 1) ih

/-- what is known of an object of the text's -/
structure Inst (X : Cx) (K : Frag) (W : Wd) (h : Heap) (l : Addr × Addr) (k : Nat) (fs : List (Nat × V)) (c : Addr) (cl : Cl) (es : Array DictEntry) (n : Nat) : Prop where
  ca : X.clA k = some c
  cl_ : X.P.cls k = some cl
  ob : h.get? l.1 = some (instO c l.2)
  dc : h.get? l.2 = some (dictO es n)
  fv : FVs X W es.toList fs
  ne : l.2 ≠ l.1
  at_ : ∀ p ∈ fs, p.1 ∈ cl.attrs
  sz : fs.length ≤ 1000
  ok : ClAt X K c cl
  inn : K.In h
theorem Inst.of {H : Hp} {h : Heap} {i : Nat} {l : Addr × Addr} {k : Nat} {fs : List (Nat × V)} (C : ClsOk X K) (R : RelH X W H h) (hi : H.get i = some (.inst k fs)) (hl : W.φ i = some l) {G : Prop} (g : ∀ c cl es n, Inst X K W h l k fs c cl es n → G) : G := by
  obtain ⟨c, cl, es, n, a, a', b, d, f, ne, gg, z⟩ := R.at_ hi hl
  exact g c cl es n ⟨a, a', b, d, f, ne, gg, z, C.cls _ _ _ a a', fun x o q => R.bkeep x o (C.inn x o q)⟩
theorem Inst.inst {h : Heap} {l : Addr × Addr} {k : Nat} {fs : List (Nat × V)} {c : Addr} {cl : Cl} {es : Array DictEntry} {n : Nat} (I : Inst X K W h l k fs c cl es n) : InstAt h l.1 (instO c l.2) c (some (dictO es n)) := ⟨I.ob, rfl, rfl, I.dc⟩
theorem bval_handed (b : B) : handedIn (bval b) = true := by cases b <;> decide +kernel
theorem handed {v : Value} {x : V} (h : VR X W v x) : handedIn v = true := by
  cases h with
  | bt b => exact bval_handed b
  | _ => rfl

section
variable {A : Around} {H : Hp} {s : Shared} {E : Value → Shared → Prop} {l : Addr × Addr} {k : Nat} {fs : List (Nat × V)} {c : Addr} {cl : Cl} {es : Array DictEntry} {n : Nat} (inj : ∀ i j, X.nm i = X.nm j → i = j) (I : Inst X K W s.heap l k fs c cl es n)
include inj I
/-- reading a thing of an object's own -/
theorem get_ok {m : Nat} {x : V} {ex : Bool} {Q : Value → Shared → Prop} (e : lk fs m = some x)
    (h : ∀ v, VR X W v x → Q v { s with toks := s.toks + 1 }) : wpAny (model X.prog X.w) A (getAttr (.ref l.1) (X.nm m) ex) Q E s := by
  obtain ⟨en, he, hv⟩ := (I.fv.find inj (n := m)).1 x e
  have hl : lookIn (X.nm m) (dictO es n) = some (some en.val) := by
    unfold lookIn
    simp only [he]
  exact get_value I.inn I.inst I.ok.ga (findObj_own I.ok.hd (I.ok.attr m (I.at_ _ (lk_in e))) rfl hl) (handed hv) (h _ hv)
theorem none_ok {m : Nat} (e : lk fs m = none) : lookIn (X.nm m) (dictO es n) = some none := by
  unfold lookIn
  simp only [(I.fv.find inj (n := m)).2 e, I.fv.noRef]
  rfl
/-- a method of the class -/
theorem meth_ok {m f : Nat} {pl : Sem Bool} {Q : Value × List Value → Shared → Prop} (e : lk cl.meths m = some f)
    (h : ∀ a, X.fnA f = some a → Q (.ref a, [.ref l.1]) s) : wpAny (model X.prog X.w) A (getMethod (.ref l.1) (X.nm m) pl) Q E s := by
  obtain ⟨a, ha, hf, ht⟩ := I.ok.meth m f e
  have hn : lk fs m = none := by
    cases q : lk fs m with
    | none => rfl
    | some x => exact absurd (I.at_ _ (lk_in q)) (I.ok.dis m f e)
  exact method_fn I.inn I.inst I.ok.ga I.ok.gh hf ht (by show (lookIn _ _).map _ = _; rw [none_ok inj I hn]; rfl) (h a ha)
/-- storing a thing of an object's own -/
theorem osa_ok {m : Nat} {v : Value} {x : V} {tk : Tok} {R : Result → Shared → Prop} (hm : m ∈ cl.attrs) (hz : fs.length < 1000) (hv : VR X W v x)
    (h : ∀ h' es' n', h'.get? l.2 = some (dictO es' n') → FVs X W es'.toList (st fs m x) → Heap.SameBut l.2 s.heap h' → R (.ok (.ret .none)) { s with heap := h', toks := s.toks + 1 }) :
    codeAny (model X.prog X.w) A (.call (.builtin "object.__setattr__") ⟨[.ref l.1, .str (X.nm m) tk, v], []⟩) R s := by
  have fi := I.ok.attr m hm
  refine osa_open I.inn I.inst I.ok.po (r := none) (by unfold takerIn; rw [fi]; rfl) fun b => ?_
  obtain ⟨cd, hc, hd'⟩ := any_some I.ok.hd
  refine wpAny_bind (wpAny_pure (wpAny_bind (wpAny_bind (wpAny_loadPart I.ob (wpAny_bind ((looks_clsIn I.inn hc).here ?_))))))
  rw [hd']
  refine wpAny_pure (a := some l.2) (wpAny_bind (wpAny_pure (wpAny_bind ?_)))
  unfold nsSet
  refine wpAny_bind (wpAny_bind (wpAny_askSetting (wpAny_pure (wpAny_bind (wpAny_mkText (wpAny_bind (wpAny_loadPart I.dc ?_)))))))
  dsimp only
  have c0 : (!es.any (·.key.isStr (X.nm m)) && es.any (·.refKey)) = false := by
    rw [← Array.any_toList (p := fun d : DictEntry => d.refKey), I.fv.noRef, Bool.and_false]
  rw [aRefKeyMayBeTheName_at, c0]
  have P := putName_dict (X.nm m) (PyData.keyHash X.w.params (X.nm m)) (.str (X.nm m) s.toks) v es.toList n
  have F := I.fv.put inj hv (n := m) (hsh := PyData.keyHash X.w.params (X.nm m)) (t := s.toks)
  have e0 : dictOf es.toList n = dictO es n := rfl
  rw [e0] at P
  have D' : (s.heap.update l.2 (Obj.putName (X.nm m) (PyData.keyHash X.w.params (X.nm m)) (.str (X.nm m) s.toks) v)).get? l.2 = some (dictO (putL (X.nm m) (PyData.keyHash X.w.params (X.nm m)) (.str (X.nm m) s.toks) v es.toList).toArray (putN (X.nm m) es.toList n)) := by
    rw [Heap.get?_update_self _ I.dc (by rw [P]; rfl), P]
  refine wpAny_updatePart I.dc ?_
  refine wpAny_bind (wpAny_lookBehind D' (pastItsLine_dict ?_) ?_)
  · rw [List.size_toArray, F.len, sizeLine_eq]
    have := st_len m x fs; omega
  · exact wpAny_pure (h _ _ _ D' F ⟨Heap.size_update _ _ _, fun b hb => Heap.get?_update_other _ _ (Ne.symm hb)⟩)
theorem set_ok {i m : Nat} {v : Value} {x : V} {Q : Unit → Shared → Prop} (R : RelH X W H s.heap) (hi : H.get i = some (.inst k fs)) (hl : W.φ i = some l) (hm : m ∈ cl.attrs) (hz : fs.length < 1000) (hv : VR X W v x)
    (h : ∀ s', Tc X W H s W (H.set i (.inst k (st fs m x))) s' → Q () s') : wpAny (model X.prog X.w) A (setAttr (.ref l.1) (X.nm m) v) Q E s := by
  refine set_plain I.inn I.inst I.ok.sa (osa_ok (s := { s with toks := s.toks + 1 }) inj ⟨I.ca, I.cl_, I.ob, I.dc, I.fv, I.ne, I.at_, I.sz, I.ok, I.inn⟩ hm hz hv fun h' es' n' hd hf hs => ?_)
  obtain ⟨r, t⟩ := R.upd (h' := h') (c' := .inst k (st fs m x)) hi hl (fun b ob e _ n2 => (hs.2 b n2).trans e)
    ⟨c, cl, es', n', I.ca, I.cl_, (hs.2 _ (Ne.symm I.ne)).trans I.ob, hd, hf, I.ne, fun p hp => (st_mem hp).elim (fun e => e ▸ hm) fun ⟨q, hq, e⟩ => e ▸ I.at_ q hq, Nat.le_trans (st_len m x fs) hz⟩
  exact h _ ⟨t, r, ⟨rfl, rfl, rfl⟩⟩
end
/-- an object, of the text's -/
theorem inst_e {H : Hp} {cf : Value} {g : V} {k : Nat → Nat → List (Nat × V) → Prop} {G : Prop} (hg : VR X W cf g) (h : instK H g k) (q : ∀ i (l : Addr × Addr) (t : Nat × List (Nat × V)), cf = .ref l.1 → W.φ i = some l → H.get i = some (.inst t.1 t.2) → k i t.1 t.2 → g = .ref i → G) : G :=
  need_e h fun i ei h => need_e h fun t et h => aRef_e hg ei fun l e hl eg => q i l t e hl (cI_e et) h eg
theorem snd_attr {n : Nat} {sc : Sc} (K0 : CxOk X) (C : ClsOk X K) {e : PE} {m : Nat} {v : Expr} {pos : Pos} (he : SE X n sc e v) (hs : notSuper v = true) : SE X n sc (.attr e m) (.Attribute v (X.nm m) pos) := by
  intro A env Pv W σ s Q E ok at_ h
  rw [arm_eval_Attribute, base_plain hs]
  refine he.bind ok at_ h fun cf W₁ σ₁ s₁ g at₁ _ hg h₁ => Ew.standAt (inst_e hg h₁ fun i l t e hl hi h₁ _ => need_e h₁ fun x hx hq => Inst.of C at₁.rel hi hl fun c cl es k' I => ?_)
  subst e
  exact wpAny_bind (wpAny_holding (get_ok K0.inj I hx fun v hv => wpAny_bind (wpAny_letTemporaryGo (wpAny_pure (at₁.val hv hq)))))
end
end Mine

end

section
set_option autoImplicit false
set_option linter.all false
set_option genSizeOf false
set_option genInjectivity false
namespace Mine
open PySem PySem.W PySem.Calls PyProof.Rows

section
variable {X : Cx} {K : Frag} {n : Nat} {sc : Sc}

theorem under_type {A : Around} {n : Nat} {c : Addr} {rest : List Value} {kw : List (Str × Value)} (h : AOk2 A n) : AOk (A.under (.builtin "type.__call__" ⟨.ref c :: rest, kw⟩)) n := by
  have h1 := h.depth
  have h2 := h.units
  refine ⟨?_, ?_⟩
  · show A.depth + (Code.builtin "type.__call__" ⟨.ref c :: rest, kw⟩).weight + 4 * n + 4 < _
    rw [show (Code.builtin "type.__call__" ⟨.ref c :: rest, kw⟩).weight = 1 from rfl]; omega
  · show A.units + (Code.builtin "type.__call__" ⟨.ref c :: rest, kw⟩).cUnits + 20 * n + 100 < _
    rw [show (Code.builtin "type.__call__" ⟨.ref c :: rest, kw⟩).cUnits = 1 from rfl]; omega
theorem under_frames {A : Around} {c : Addr} {rest : List Value} {kw : List (Str × Value)} {l : List Env} (h : A.frames = some l) : (A.under (.builtin "type.__call__" ⟨.ref c :: rest, kw⟩)).frames = some l := by
  show pushEnvs (Code.envs (.builtin "type.__call__" ⟨.ref c :: rest, kw⟩)) A.frames = _
  rw [show Code.envs (.builtin "type.__call__" ⟨.ref c :: rest, kw⟩) = [] from rfl, h]; rfl

/-- a method of the text's is called -/
theorem meth_case (K0 : CxOk X) (C : ClsOk X K) (hK : CallM X n) {fz : Bool} {m : Nat} {as : PEs} {v : Expr} {ap pos : Pos} {vs : List Expr} (has : SEs X n sc as vs) (hlen : vs.length ≤ 20) (hline : (ap.endLine == pos.line) = true) (hap : (sc.hd || Nat.beq m X.P.nAppend) = true)
    (A : Around) (env : Env) (Pv : Pr) (W : Wd) (σ : St) (s : Shared) (Q : V → St → Prop) (E : EP) (i : Nat) (l : Addr × Addr) (k : Nat) (fs : List (Nat × V)) (ok : EnvOk X A env Pv n sc) (at_ : At X env Pv W σ s) (hl : W.φ i = some l) (hgi : σ.H.get i = some (.inst k fs))
    (h : need (X.P.cls k) fun c => need (lk c.meths m) fun f => wpEs X.P (CW X.P n) E as σ fun vs σ₂ => callF X.P (CW X.P n) E fz σ₂ (.fn f) (.ref i :: vs) Q) :
    Ew X A env Pv (mcall X env m v ap pos vs l.1) W σ s (VQ X Q) E := by
  refine need_e h fun cl hcl h => need_e h fun f hf hw => Inst.of C at_.rel hgi hl fun c cl' es k' I => ?_
  cases Option.some.inj (I.cl_.symm.trans hcl)
  have hpos : methodCallPos true v env ap pos = pure pos := by unfold methodCallPos; simp [hline]
  have hh : A.handled = none := by
    cases e : sc.hd with
    | true => exact ok.hh e
    | false => rw [e] at hap; rw [Nat.eq_of_beq_eq_true hap, K0.apC _ _ hcl] at hf; cases hf
  unfold mcall methodCall
  rw [form_plain hlen]
  refine wpAny_bind (wpAny_holding (meth_ok K0.inj I hf fun a ha => wpAny_bind (wpAny_of_eq hpos ?_)))
  obtain ⟨o, fd, ho, hd⟩ := K0.fnAt _ _ ha
  exact callWith_function (o := o) (fd := fd) (args_then has ok at_ hw fun cvs avs W' σ' s' T hv hq => ⟨⟨T.at_.rel.bkeep _ _ ho, hd⟩, fn_call hK T ok.ok.call (.inl hh) ok.stk (cvs := .ref l.1 :: cvs) (.cons (.ref (T.stp.le.ff _ _ hl)) hv) ha hq⟩)

/-- a new object of the text's -/
theorem make_ok (K0 : CxOk X) (C : ClsOk X K) (hK : CallM X n) {A : Around} {env : Env} {Pv : Pr} {W : Wd} {σ : St} {s : Shared} {E : EP} {fz : Bool} {k : Nat} {c : Addr} {cvs : List Value} {avs : List V} {Q : V → St → Prop} (ok : AOk2 A n) (hhd : A.handled = none) (hst : A.frames = some Pv.st) (at_ : At X env Pv W σ s) (hv : VRs X W cvs avs) (hc : X.clA k = some c)
    (h : callF X.P (CW X.P n) E fz σ (.cls k) avs Q) :
    wpAny (model X.prog X.w) A (call (.ref c) cvs []) (Go X env Pv W σ s (VQ X Q)) (EX X env Pv W σ s E) s := by
  refine need_e h fun cl hcl h => need_e h fun f hf h => ?_
  have O := C.cls k c cl hc hcl
  obtain ⟨a, ha, hfi, hft⟩ := O.init f hf
  have inn : K.In s.heap := fun x o q => at_.rel.bkeep x o (C.inn x o q)
  obtain ⟨hh, g, d, t, os⟩ := s
  have R : RelH X W σ.H hh := at_.rel
  refine wpAny_call (make_core (makes_of inn O.mks) (looks_findIn inn hfi) (fun self => bind_fn inn self hft) (.inl rfl) ?_)
  have k1 : ∀ b o, hh.get? b = some o → ((hh.push emptyDict).push (instObj c hh.objs.size)).get? b = some o := fun b o e => Heap.get?_push_of_some _ (Heap.get?_push_of_some _ e)
  have g1 : ((hh.push emptyDict).push (instObj c hh.objs.size)).get? (hh.objs.size + 1) = some (instObj c hh.objs.size) := by
    have := Heap.get?_push_size (hh.push emptyDict) (o := instObj c hh.objs.size) rfl
    rwa [Heap.size_push] at this
  obtain ⟨r, t1⟩ := R.fresh (l := (hh.objs.size + 1, hh.objs.size)) (c := .inst k []) k1 (Heap.get?_none_of_le (Nat.le_succ _)) (push_none _)
    ⟨c, cl, #[], 0, hc, hcl, g1, Heap.get?_push_of_some _ (Heap.get?_push_size _ rfl), .nil, Nat.ne_of_lt (Nat.lt_succ_self _), fun _ q => (List.not_mem_nil q).elim, Nat.zero_le _⟩
  have T : Tc X W σ.H ⟨hh, g, d, t, os⟩ (W.addφ σ.H.next (hh.objs.size + 1, hh.objs.size)) (σ.H.new (.inst k [])) ⟨(hh.push emptyDict).push (instObj c hh.objs.size), g, d, t, os⟩ := ⟨t1, r, ⟨rfl, rfl, rfl⟩⟩
  have e : (W.addφ σ.H.next (hh.objs.size + 1, hh.objs.size)).φ σ.H.next = some (hh.objs.size + 1, hh.objs.size) := addφ_self
  refine codeAny_mono (hK _ f a (.ref σ.H.next :: avs) (.ref (hh.objs.size + 1) :: cvs) _ _ _ _ _ (under_type ok) (.inl hhd) ⟨_, under_frames hst, fun e he => (at_.fr.frs e he).keep fun L o es n x1 x2 x3 x4 x5 => ⟨⟨o, es, n, k1 _ _ x2, x3⟩, t1.own L o x2 x4, x5⟩⟩ r (.cons (VR.ref e) (hv.le t1.le)) ha h) fun rr s' hr => ?_
  cases rr with
  | ok fl =>
    cases fl with
    | ret v =>
      obtain ⟨W', H', av, T', hv', q⟩ := hr
      cases vNone q.1
      cases hv'
      exact ⟨rfl, W', ⟨H', σ.loc⟩, (T.trans T').tf at_, _, VR.ref (T'.stp.le.ff _ _ e), q.2⟩
    | _ => exact hr.elim
  | error e =>
    obtain ⟨W', H', i, l, k', T', he, hl, hg, hf, hE⟩ := hr
    exact ⟨W', ⟨H', σ.loc⟩, i, l, k', (T.trans T').tf at_, he, hl, hg, hf.back fun a o q => ⟨o, k1 a o q⟩, hE⟩
theorem MayQ.cls {A : Around} {k : Nat} (h : MayQ X A (.cls k)) : A.handled = none := h.elim id fun q => by cases q
theorem snd_call1 (K0 : CxOk X) (C : ClsOk X K) (hK : CallM X n) {c : Ck} {fz : Bool} {f : PE} {as : PEs} {x : Str} {p : Pos} {vs : List Expr} {pos : Pos} (hf : SE X n sc f (.Name x p)) (hq : (sc.hd || qGlob X.ck f) = true) (has : SEs X n sc as vs) (hc : chkEs c sc as vs = true) : SE X n sc (.call fz f as) (.Call (.Name x p) vs [] pos) := by
  intro A env Pv W σ s Q E ok at_ h
  rw [eval_Call_Name, back_plain hc]
  refine call_head K0 hf hq ok at_ h fun cf W₁ σ₁ s₁ g at₁ hg hq h₁ => call_rest K0 hK ok at₁ has hg hq h₁ fun k a e e' ha => ?_
  subst e e'
  cases hcl : X.P.cls k with
  | none => exact callW_fail (args_then has ok at₁ h₁ fun cvs avs W' σ' s' T hv hq' => need_e (o := X.P.cls k) hq' fun cl e _ => by rw [hcl] at e; cases e)
  | some cl => exact callWith_of (P := K.In) (by rw [plain_any]; rfl) (keeps_K (C.cls _ _ _ ha hcl).kp) (args_then has ok at₁ h₁ fun cvs avs W' σ' s' T hv hq' => ⟨fun x o q => T.at_.rel.bkeep x o (C.inn x o q),
      wpAny_mono (make_ok K0 C hK ok.ok hq.cls ok.stk T.at_ hv ha hq') (fun v s'' q => Go.from T q) fun _ _ x => x.back T⟩)
end
end Mine

end

section
set_option autoImplicit false
set_option linter.all false
set_option genSizeOf false
set_option genInjectivity false
namespace Mine
open PySem PySem.W PySem.Calls PyProof.Rows

section
variable {X : Cx} {K : Frag} {n : Nat} {sc : Sc}

theorem swaps_attr {x o : Expr} {a : Str} {p : Pos} {l : Nat} {env : Env} : swapsWith x (some (.Attribute o a p)) l env = pure false := by
  cases x <;> rfl
/-- a thing stored in an object -/
theorem put_attr (K0 : CxOk X) (C : ClsOk X K) {A : Around} {env : Env} {Pv : Pr} {W : Wd} {σ : St} {s : Shared} {Ex : Value → Shared → Prop} {ov v : Value} {g x : V} {m : Nat} {Q : Unit → Shared → Prop} {q : St → Prop} (at_ : At X env Pv W σ s) (ho : VR X W ov g) (hv : VR X W v x)
    (h : putA X.P g m x σ q) (hq : ∀ W' σ' s', Tf X env Pv W σ s W' σ' s' → q σ' → Q () s') : wpAny (model X.prog X.w) A (setAttr ov (X.nm m) v) Q Ex s :=
  inst_e ho h fun i l t e hl hi h _ => need_e h fun cl hcl h => Inst.of C at_.rel hi hl fun c cl' es k' I => by
    subst e
    cases Option.some.inj (I.cl_.symm.trans hcl)
    exact set_ok K0.inj I at_.rel hi hl (List.contains_iff_mem.mp h.1) h.2.1 hv fun s' T => hq _ ⟨_, σ.loc⟩ _ (T.tf at_) h.2.2
theorem snd_assign_attr (K0 : CxOk X) (C : ClsOk X K) {o e : PE} {m : Nat} {v x : Expr} {p pos : Pos} (he : SE X n sc e x) (ho : SE X n sc o v) : S1 X n sc (.assign (.attr o m) e) (.Assign [.Attribute v (X.nm m) p] x pos) := fun A env Pv W σ s Q E ok hf at_ h =>
  plainObj_wpAny_Assign_Attribute (he.post ok at_ h fun cv W₁ σ₁ s₁ x T₁ hv h₁ => wpAny_mono (ho.post ok T₁.at_ h₁ fun ov W₂ σ₂ s₂ g T₂ hg h₂ =>
    put_attr K0 C (Q := fun _ s' => Go X env Pv W σ s (FQ X Q) PySem.Flow.next s') (Ex := EX X env Pv W σ s E) T₂.at_ hg (hv.le T₂.stp.le) h₂ fun W' σ' s' T hq => ((T₁.trans T₂).trans T).flow .next hq) (fun _ _ q => q) fun _ _ y => y.back T₁) swaps_attr
theorem aug_ok {A : Around} {W : Wd} {s : Shared} {E : Value → Shared → Prop} {op : BOp} {a b : Value} {x y : V} {k : V → Prop} {Q : Value → Shared → Prop} (ha : VR X W a x) (hb : VR X W b y) (h : augK op x y k)
    (hq : ∀ v z tk, VR X W v z → k z → Q v { s with toks := tk }) : wpAny (model X.prog X.w) A (inplaceOp (opOf op) a b) Q E s := by
  cases op with
  | add =>
    refine need_e h fun i ei h => need_e h fun j ej h => aInt_of ha ei fun t e => aInt_of hb ej fun u e' => ?_
    subst e e'; exact PyProof.Rows.iadd_int (hq _ _ _ (.int _ _) h)
  | _ => exact h.elim
theorem snd_aug_loc (K0 : CxOk X) {i : Nat} {op : BOp} {e : PE} {x : Expr} {p pos : Pos} (he : SE X n sc e x) (hk : kStore sc (X.nm i) = true) (hl : kLoc sc (X.nm i) = true) (hd : nDbg (X.nm i) = true) : S1 X n sc (.augLoc i op e) (.AugAssign (.Name (X.nm i) p) (opOf op) x pos) := fun A env Pv W σ s Q E ok hf at_ h =>
  need_e h fun x ev h₁ => wpAny_AugAssign_Name (load_loc ok at_ hl hd ev fun a hx => he.post ok at_ h₁ fun b W₂ σ₂ s₂ y T₂ hy h₂ =>
    aug_ok (hx.le T₂.stp.le) hy h₂ fun v z tk hv hq => store_ok K0 ok hf (T₂.at_.toks (tk := tk)) hk hv fun s'' T' => ((T₂.trans (T₂.at_.tf (tk := tk))).trans T').flow .next hq)
theorem snd_aug_attr (K0 : CxOk X) (C : ClsOk X K) {o e : PE} {m : Nat} {op : BOp} {v x : Expr} {p pos : Pos} (he : SE X n sc e x) (ho : SE X n sc o v) : S1 X n sc (.augAttr o m op e) (.AugAssign (.Attribute v (X.nm m) p) (opOf op) x pos) := fun A env Pv W σ s Q E ok hf at_ h =>
  wpAny_AugAssign_AttributeAny (ho.post ok at_ h fun ov W₁ σ₁ s₁ g T₁ hg h₁ => inst_e hg h₁ fun i l t e hl hi h₁ eg => need_e h₁ fun x hx h₁ => Inst.of C T₁.at_.rel hi hl fun c cl es k' I => by
    subst e
    refine get_ok K0.inj I hx fun a ha => ?_
    have T₂ := T₁.trans (T₁.at_.tf (tk := s₁.toks + 1))
    refine wpAny_mono (he.post ok T₂.at_ h₁ fun b W₃ σ₃ s₃ y T₃ hy h₃ => aug_ok (Q := fun v s' => wpAny (model X.prog X.w) A (setAttr (.ref l.1) (X.nm m) v) (fun _ s' => Go X env Pv W σ s (FQ X Q) PySem.Flow.next s') (EX X env Pv W σ s E) s') (ha.le T₃.stp.le) hy h₃ fun v z tk hv hq =>
      put_attr K0 C (T₃.at_.toks (tk := tk)) (hg.le T₃.stp.le) hv hq fun W' σ' s' T hq => (((T₂.trans T₃).trans (T₃.at_.tf (tk := tk))).trans T).flow .next hq) (fun _ _ q => q) fun _ _ y => y.back T₂)
end
end Mine

end

section
set_option autoImplicit false
set_option linter.all false
set_option genSizeOf false
set_option genInjectivity false
namespace Mine
open PySem PySem.W PySem.Calls PyProof.Rows

section
variable {X : Cx} {K : Frag} {n : Nat} {sc : Sc}
theorem vCls {v : V} {k : Nat} (h : aCls v = some k) : v = .cls k := by cases v <;> first | (cases h; rfl) | cases h
theorem cls_of {W : Wd} {cv : Value} {k : Nat} (h : VR X W cv (.cls k)) : ∃ c, cv = .ref c ∧ X.clA k = some c := by cases h with | cls q => exact ⟨_, rfl, q⟩
theorem chkG_e {i : Nat} {y : Str} {G : Prop} (h : chkG X.ck sc i y = true) (g : y = X.nm i → kGlob sc y = true → nDbg y = true → G) : G := and3_e h fun a b c => g (of_decide_eq_true a) b c
theorem new_exc {H : Hp} {c : C} : (H.new c).get H.next = some c := Hp.get_new.trans (if_pos rfl)

theorem snd_raise (K0 : CxOk X) {i : Nat} {e : PE} {y : Str} {x : Expr} {np cpos pos : Pos} (hy : chkG X.ck sc i y = true) (he : SE X n sc e x) (hc : chkE X.ck sc e x = true) (hhd : sc.hd = true) : S1 X n sc (.raise i e) (.Raise (some (.Call (.Name y np) [x] [] cpos)) none pos) := fun A env Pv W σ s Q E ok hf at_ h =>
  need_e h fun v hv h => need_e h fun k ek h => by
    cases vCls ek
    obtain ⟨hx, h⟩ := h
    have bp := back_plain (env := env) (pos := cpos) (p := .cons e .nil) (es := [x]) (show (chkE X.ck sc e x && true) = true by rw [hc]; rfl)
    refine chkG_e hy fun g1 g2 g3 => ?_
    have hcl : ∀ cv, (∀ W, VR X W cv (.cls k)) → ∃ c, cv = .ref c ∧ X.clA k = some c := fun cv q => cls_of (q W)
    obtain ⟨c, hck⟩ : ∃ c, X.clA k = some c := by cases K0.glob i _ hv with
      | main cv mg ng h r => exact (hcl cv r).elim fun c q => ⟨c, q.2⟩
      | bi cv mg mb ng nb h hb r => exact (hcl cv r).elim fun c q => ⟨c, q.2⟩
    obtain ⟨bm, N, nm, q, bs, hdct, sn, sub, ab, col, dd, k0, k1, k2, k3, k5, mN, hC, hN, hni, hT, hsub⟩ := K0.exc k c hck hx
    refine wpAny_Raise_call_subT (nm := nm) (q := q) (C := c) (N := N) (bs := bs) (hdct := hdct) (sn := sn) (sub := sub) (ab := ab) (col := col) (dd := dd) (k0 := k0) (k1 := k1) (k2 := k2) (k3 := k3) (k5 := k5) PySem.F.excBase_ValueError (hT.hasType (by decide)) (ok.hh hhd) (by rw [bp]; exact plain_any) hni (load_glob K0 ok at_ g1 g2 g3 hv fun cv hcv => ?_)
    obtain ⟨c', rfl, hc'⟩ := hcl cv hcv
    cases Option.some.inj (hc'.symm.trans hck)
    refine ⟨rfl, ?_⟩
    rw [bp]
    refine wpAny_mono (args_then (E := noE) (snd_es_cons he snd_es_nil) ok at_ (Qv := fun avs σ₂ => avs.length = 1 ∧ E σ₂.H.next (σ₂.setH (σ₂.H.new (.exc k)))) (wpE_post h) (Q := fun a s₂ => Go X env Pv W σ s (fun (a : Args) _ σ₂ _ => a.kw = [] ∧ a.pos.length = 1 ∧ E σ₂.H.next (σ₂.setH (σ₂.H.new (.exc k)))) a s₂) fun cvs avs W' σ' s' T hvs hq => ⟨W', σ', T, rfl, hvs.length.trans hq.1, hq.2⟩) (fun a s₂ qq => qq.e fun W₂ σ₂ T₂ qq => ?_) fun _ _ z => z.no.elim
    have kb := T₂.at_.rel.bkeep
    refine ⟨qq.1, by rw [qq.2.1, sizeLine_eq]; decide, kb _ _ hC, hN.keeps kb, hT.keeps kb, fun h' e hm => ?_⟩
    obtain ⟨t, m1, m2, m3⟩ := hm.there
    obtain ⟨r, st⟩ := T₂.at_.rel.fresh (l := (e, e)) (c := .exc k) hm.keeps hm.new hm.new ⟨c, _, _, hck, hx, m1, rfl, rfl, rfl⟩
    have Tc₃ : Tc X W₂ σ₂.H s₂ (W₂.addφ σ₂.H.next (e, e)) (σ₂.H.new (.exc k)) { s₂ with heap := h' } := ⟨st, r, ⟨rfl, rfl, rfl⟩⟩
    exact ⟨_, ⟨_, σ₂.loc⟩, σ₂.H.next, (e, e), k, T₂.trans (Tc₃.tf T₂.at_), rfl, addφ_self, new_exc, ⟨_, _, _, m1, rfl, rfl, .inl rfl⟩, qq.2.2⟩
where wpE_post {P : Prog} {K : CT} {E : EP} {e : PE} {σ : St} {Q : St → Prop} (h : wpE P K E e σ fun _ σ₁ => Q σ₁) : wpEs P K E (.cons e .nil) σ fun avs σ₂ => avs.length = 1 ∧ Q σ₂ := wpE_mono' h
      wpE_mono' {P : Prog} {K : CT} {E : EP} {e : PE} {σ : St} {Q : St → Prop} (h : wpE P K E e σ fun _ σ₁ => Q σ₁) : wpE P K E e σ fun v σ₁ => ([v] : List V).length = 1 ∧ Q σ₁ := by
        have : (fun (v : V) (σ₁ : St) => ([v] : List V).length = 1 ∧ Q σ₁) = fun _ σ₁ => Q σ₁ := by funext v σ₁; exact propext ⟨fun h => h.2, fun h => ⟨rfl, h⟩⟩
        rw [this]; exact h

/-- the class of an exception, seen from a class of the text's -/
theorem match_ok {A : Around} {E : Value → Shared → Prop} {W : Wd} {H : Hp} {s : Shared} {i j k : Nat} {l : Addr × Addr} {c' : Addr} {Q : Bool → Shared → Prop} (K0 : CxOk X) (R : RelH X W H s.heap) (hi : H.get i = some (.exc j)) (hl : W.φ i = some l) (hk : X.P.exc k = true) (hc' : X.clA k = some c') (hs : X.P.sub j k = true) (h : Q true s) :
    wpAny (model X.prog X.w) A (excMatches (.ref l.1) (.ref c')) Q E s := by
  obtain ⟨c, o, vs, hc, hj, he, hcls, hd, _⟩ := R.at_ hi hl
  obtain ⟨bm, N, nm, q, bs, hdct, sn, sub, ab, col, dd, k0, k1, k2, k3, k5, mN, hC, hN, hni, hT, hsub⟩ := K0.exc j c hc hj
  obtain ⟨bm', N', nm', q', bs', hdct', sn', sub', ab', col', dd', k0', k1', k2', k3', k5', mN', hC', hN', hni', hT', hsub'⟩ := K0.exc k c' hc' hk
  have gC := R.bkeep _ _ hC
  have gC' := R.bkeep _ _ hC'
  have hcB : (Value.ref c' :: bm').contains (.type "BaseException") = true := by rw [List.contains_cons, hT'.hasType (X := "BaseException") (b := true) (by decide), Bool.or_true]
  have hcC : (Value.ref c :: bm).contains (.ref c') = true := by rw [hsub k c' hc', hs]
  have f := tc_notTuple
  obtain ⟨hh, g, d, t, os⟩ := s
  unfold excMatches
  repeat (first | (with_reducible refine wpAny_loadPart_at he ?_; rw [hcls]) | with_reducible refine wpAny_loadPart_at gC' ?_ | (with_reducible refine wpAny_isSubtype_exc gC' ?_; rw [hcB]) | (with_reducible refine wpAny_isSubtype_exc gC ?_; rw [hcC]) | wp_step)
  exact h

/-- the name behind «as» goes -/
theorem FrR.unbind {W : Wd} {H : Hp} {h h' : Heap} {env : Env} {Pv : Pr} {loc : Loc} {i : Nat} {u : Option Value} {m : Str → Option Value} (F : FrR X W H h env Pv loc) (hn : h.Ns env.locals m)
    (hm : ∀ j v, loc j = some v → env.kindOf (X.nm j) = some .local → MmR X W m j v) (hinj : ∀ j, X.nm j = X.nm i → j = i)
    (hk : env.kindOf (X.nm i) = some .local) (hn' : h'.Ns env.locals (fun x => if x = X.nm i then u else m x)) (hs : Heap.SameBut env.locals h h') : FrR X W H h' env Pv (unb loc i) := by
  have key : ∀ j v, unb loc i j = some v → j ≠ i ∧ loc j = some v := fun j v e => by
    have e' : (if j = i then none else loc j) = some v := e
    by_cases hj : j = i
    · rw [if_pos hj] at e'; cases e'
    · rw [if_neg hj] at e'; exact ⟨hj, e'⟩
  refine ⟨⟨_, hn', fun j v e k => ?_⟩, fun j v e k => ?_, fun x ef e => ?_, F.cellEq, fun x c e => ?_, F.pvL, F.priv, fun a p => ?_, fun e he => (F.frs e he).keep fun L o es n a b c d f => ⟨?_, d, f⟩, F.frc⟩
  · obtain ⟨cu, q, r⟩ := hm j v (key j v e).2 k
    exact ⟨cu, by rw [if_neg fun z => (key j v e).1 (hinj j z)]; exact q, r⟩
  · obtain ⟨c, cu, q, r, t⟩ := F.cells j v (key j v e).2 k
    exact ⟨c, cu, q, r.sameBut hs (F.cellNs _ _ q).1, t⟩
  · obtain ⟨c, u, q, r, t⟩ := F.hasCell x ef e
    exact ⟨c, u, q, r.sameBut hs (F.cellNs _ _ q).1, t⟩
  · obtain ⟨a, b, o, q⟩ := F.cellNs x c e
    exact ⟨a, b, o, (hs.2 c a).trans q⟩
  · by_cases ha : a = env.locals
    · subst ha; obtain ⟨o, _, _, ho, _⟩ := hn'; exact ⟨o, ho⟩
    · obtain ⟨o, q⟩ := F.pvAt a p; exact ⟨o, (hs.2 a ha).trans q⟩
  · by_cases ha : L = env.locals
    · subst ha; obtain ⟨o', es', n', ho', hd', _⟩ := hn'; exact ⟨o', es', n', ho', hd'⟩
    · exact ⟨o, es, n, (hs.2 L ha).trans b, c⟩
theorem unbind_ok {A : Around} {env : Env} {Pv : Pr} {W : Wd} {σ : St} {s : Shared} {Ex : Value → Shared → Prop} {Q : Unit → Shared → Prop} {i : Nat} {v : V} {pos : Pos} (K0 : CxOk X) (ok : EnvOk X A env Pv n sc) (at_ : At X env Pv W σ s) (hk : env.kindOf (X.nm i) = some .local) (hv : σ.loc i = some v)
    (h : ∀ s', Tf X env Pv W σ s W ⟨σ.H, unb σ.loc i⟩ s' → Q () s') : wpAny (model X.prog X.w) A (unbindBehindTheSuite env (X.nm i) pos) Q Ex s := by
  obtain ⟨m, hn, hm⟩ := at_.fr.ns
  obtain ⟨cv, hcv, _⟩ := hm i v hv hk
  unfold unbindBehindTheSuite
  exact wpAny_onRaise (wpAny_unbindName_local hk hn hcv (fn_hp ok) fun h' u hn' hs => h _ (store_tf at_ at_.fr.pvL hs (hn'.elim fun o q => ⟨o, q.elim fun _ q => q.elim fun _ q => q.1⟩) (at_.fr.unbind hn hm (fun j q => K0.inj _ _ q) hk hn' hs)))
theorem unb_put {σ : St} {a : Nat} {v : V} : (⟨(σ.put a v).H, unb (σ.put a v).loc a⟩ : St) = ⟨σ.H, unb σ.loc a⟩ := by
  show (⟨σ.H, unb (upd σ.loc a v) a⟩ : St) = ⟨σ.H, unb σ.loc a⟩
  congr 1
  funext z
  show (if z = a then none else (if z = a then some v else σ.loc z)) = (if z = a then none else σ.loc z)
  by_cases hz : z = a
  · rw [if_pos hz, if_pos hz]
  · rw [if_neg hz, if_neg hz, if_neg hz]

/-- the handler's suite -/
theorem snd_suite (K0 : CxOk X) {A : Around} {env : Env} {Pv : Pr} {W W₁ : Wd} {σ σ₁ : St} {s s₂ : Shared} {Q : Flow → St → Prop} {E : EP} {h : PSs} {as : Option Nat} {b₀ : Stmt} {hs : List Stmt} {nm : Option Str} {hpos : Pos} {j : Nat} {l : Addr × Addr} {R : Result → Shared → Prop} (hh : SS X n ⟨sc.sc, false⟩ h (b₀ :: hs)) (has : asOk X.ck sc as nm = true) (ok : EnvOk X A env Pv n sc) (hf : env.func ≠ none) (hl : W₁.φ j = some l)
    (again : ∀ (Q' : Unit → Shared → Prop) (E' : Value → Shared → Prop), (∀ s₃, Tf X env Pv W σ s W₁ σ₁ s₃ → Q' () s₃) → wpAny (model X.prog X.w) (A.mark (some (.ref l.1))) (setFlight (.ref l.1) none) Q' E' s₂)
    (hw : wpSs X.P (CW X.P n) h (asPut as j σ₁) (fun fl σ₂ => Q fl (asUnb as σ₂)) noE) (hR : ∀ f s', (match nm with | none => Go X env Pv W σ s (FQ X Q) f s' | some n => wpAny (model X.prog X.w) A (do bindName env n Value.none; unbindBehindTheSuite env n hpos) (fun _ s₃ => Go X env Pv W σ s (FQ X Q) f s₃) (EX X env Pv W σ s E) s') → R (.ok f) s') :
    codeAny (model X.prog X.w) (A.mark (some (.ref l.1))) (.handlers (.ref l.1) [.ExceptHandler none nm (b₀ :: hs) hpos] env) R s₂ := by
  have okH : EnvOk X (A.mark (some (.ref l.1))) env Pv n ⟨sc.sc, false⟩ := ⟨ok.stk, ok.top, ⟨ok.ok.depth, ok.ok.units⟩, (fun z => (Bool.false_ne_true z).elim), ok.kind, ok.glob, ok.bi, ok.names, ok.cl⟩
  cases as with
  | none =>
    cases (x0_ok has : nm = none)
    exact codeAny_handlers_suite (again _ _ fun s₃ T₃ => wpAny_mono (hh _ env Pv W₁ σ₁ s₃ _ noE okH hf T₃.at_ hw) (fun f s₄ q => hR f s₄ (Go.from T₃ q)) fun _ _ z => z.no.elim)
  | some a =>
    refine on_e has fun x hx' has => and_e has fun e1 e2 => ?_
    cases (hx' : nm = some x)
    cases (of_decide_eq_true e1 : x = X.nm a)
    have hkl := local_of ok e2
    refine codeAny_handlers_suite_as (again _ _ fun s₃ T₃ => store_local K0 okH T₃.at_ hkl (VR.ref hl) fun s₄ T₄ => wpAny_mono (hh _ env Pv W₁ _ s₄ _ noE okH hf T₄.at_ hw) (fun f s₅ q => q.e fun W₅ σ₅ T₅ q => q.e fun af hfr q => ?_) fun _ _ z => z.no.elim)
    refine hR f s₅ (wpAny_bind (wpAny_bindName (store_local K0 ok T₅.at_ hkl .none fun s₆ T₆ => ?_)))
    refine unbind_ok K0 ok T₆.at_ hkl (v := .none) (if_pos rfl) fun s₇ T₇ => ?_
    rw [unb_put] at T₇
    exact ((((T₃.trans T₄).trans T₅).trans T₆).trans T₇).flow hfr q
theorem snd_try (K0 : CxOk X) {body h : PSs} {i : Nat} {as : Option Nat} {b : List Stmt} {b₀ : Stmt} {hs : List Stmt} {y : Str} {np : Pos} {nm : Option Str} {hpos pos : Pos} (hy : chkG X.ck sc i y = true) (hb : SS X n sc body b) (hh : SS X n ⟨sc.sc, false⟩ h (b₀ :: hs)) (has : asOk X.ck sc as nm = true) (hhd : sc.hd = true) :
    S1 X n sc (.try_ body i as h) (.Try b [.ExceptHandler (some (.Name y np)) nm (b₀ :: hs) hpos] [] [] pos) := fun A env Pv W σ s Q E ok hf at_ hw =>
  need_e hw fun v hv hw => need_e hw fun k ek hw => by
    cases vCls ek
    refine wpAny_Try_except (wpAny_mono (hb A env Pv W σ s Q _ ok hf at_ hw) (fun fl s₁ qq => qq.e fun W₁ σ₁ T qq => qq.e fun af hfr q => ?_) fun e s₁ x => ?_)
    · cases hfr with
      | next => exact wpAny_execs_nil (T.flow .next q)
      | brk => exact T.flow .brk q
      | cont => exact T.flow .cont q
      | ret hr => exact T.flow (.ret hr) q
    · obtain ⟨W₁, σ₁, j, l, m, T, rfl, hl, hg, fl, hE⟩ := x
      rw [hg] at hE
      obtain ⟨hk, hsb, hw⟩ := hE
      obtain ⟨c, o, vs, hc, hx, ho, hcls, hdd, _⟩ := T.at_.rel.at_ hg hl
      have own_e : Own W₁ σ₁.H l.1 := ⟨j, _, l, hg, hl, .inl rfl⟩
      obtain ⟨hfrm, outer, hst⟩ := ok.top hf
      obtain ⟨L, hL⟩ : ∃ L, env.frame = some L := by cases q : env.frame with | none => exact absurd q hfrm | some L => exact ⟨L, rfl⟩
      have hc0 : ∀ x c, env.cells.lookup x = some c → ∃ o, s.heap.get? c = some o := fun x c q => (at_.fr.cellNs x c q).2.2
      have post : ∀ {s₂ : Shared} {h₁ : Heap}, Tf X env Pv W σ s W₁ σ₁ s₂ → Aft W₁ σ₁.H s.heap s₂.heap h₁ l.1 (.ref c) Pv.st → Tf X env Pv W σ s W₁ σ₁ { s₂ with heap := h₁ } := fun T a => ⟨a.stp T.stp own_e, ⟨a.rel T.at_.rel hg hl rfl hc rfl T.at_.fr.frs, a.frr T.at_.fr at_.fr.pvAt hc0 own_e⟩, ⟨T.rest.gens, T.rest.drawn, T.rest.os⟩⟩
      refine seen_ok (h₀ := s.heap) (cls := .ref c) T.at_.rel T.stp.there (by rw [ok.stk, hst]) hL (hst ▸ T.at_.fr.frs) fl (fun oe q => by rw [ho] at q; cases q; exact hcls) fun h₁ a₁ => ?_
      rw [← hst] at a₁
      have T₂ := post T a₁
      have okH : EnvOk X (A.mark (some (.ref l.1))) env Pv n ⟨sc.sc, false⟩ := ⟨ok.stk, ok.top, ⟨ok.ok.depth, ok.ok.units⟩, (fun z => (Bool.false_ne_true z).elim), ok.kind, ok.glob, ok.bi, ok.names, ok.cl⟩
      refine chkG_e hy fun g1 g2 g3 => wpAny_handleBy_cons (codeAny_handlers_test (load_glob K0 okH T₂.at_ g1 g2 g3 hv fun cv hcv => ?_)) (by intro q; cases q)
      obtain ⟨c', rfl, hc'⟩ := cls_of (hcv W₁)
      refine match_ok K0 T₂.at_.rel hg hl hk hc' hsb (snd_suite K0 hh has ok hf hl (fun Q' E' hQ' => ?_) hw fun f s' q => q)
      refine again_ok (s := { s₁ with heap := h₁ }) (h₀ := s.heap) (cls := .ref c) T₂.at_.rel T₂.stp.there T₂.at_.fr.frs a₁.fly (fun oe q => ?_) fun h₂ a₂ => hQ' _ (post T₂ a₂)
      obtain ⟨oe', vs', q1, q2, _⟩ := a₁.exc
      have q : h₁.get? l.1 = some oe := q
      rw [q1] at q; cases q; exact q2
theorem objs1 (K0 : CxOk X) (C : ClsOk X K) (hK : CallM X n) : Objs X n where
  call := fun sc fz f as x p vs pos hf hq has hc => snd_call1 K0 C hK hf hq has hc
  meth := fun sc fz o m as v ap pos vs ho has hc hns hlen hline hap => snd_meth K0 ho has hc hns hlen hline (meth_case K0 C hK has hlen hline hap)
  attr := fun sc e m v pos he hns => snd_attr K0 C he hns
  asgA := fun sc o e m v x p pos he ho => snd_assign_attr K0 C he ho
  augL := fun sc i op e x p pos he hk hl hd => snd_aug_loc K0 he hk hl hd
  augA := fun sc o e m op v x p pos he ho => snd_aug_attr K0 C he ho
  raise := fun sc i e y x np cpos pos hy he hc hhd => snd_raise K0 hy he hc hhd
  try_ := fun sc body i as h b b₀ hb y np nm hpos pos hy hs hh has hhd => snd_try K0 hy hs hh has hhd
theorem callM (K0 : CxOk X) (C : ClsOk X K) (n : Nat) : CallM X n := by
  induction n with
  | zero => exact call_zero
  | succ n ih => exact call_step K0 (objs1 K0 C ih)
end
end Mine

end

section
set_option autoImplicit false
set_option linter.all false
set_option genSizeOf false
set_option genInjectivity false
namespace Mine
open PySem PySem.W PySem.Calls PyProof.Rows

/-- plain positional parameters alone -/
noncomputable def plainArgs (p : Arguments) : Bool := p.posonlyargs.isEmpty && p.vararg.isNone && p.kwonlyargs.isEmpty && p.kwarg.isNone

theorem lookup_zip {ns : List Str} : ∀ {vs : List Value}, ns.length = vs.length → ∀ n ∈ ns, ∃ v, (ns.zip vs).lookup n = some v := by
  induction ns with
  | nil => exact fun _ n h => (nomatch h)
  | cons a r ih =>
    intro vs hl n h
    cases vs with
    | nil => cases hl
    | cons v vs =>
      rw [List.zip_cons_cons]
      cases hb : n == a with
      | true => exact ⟨v, lookup_eq hb⟩
      | false =>
        rw [lookup_ne hb]
        rcases List.mem_cons.mp h with q | q
        · subst q; rw [beq_self_eq_true] at hb; cases hb
        · exact ih (Nat.succ.inj hl) n q
theorem filterMap_zip {ns : List Str} : ∀ {vs : List Value}, ns.length = vs.length → ∀ (f : Str → Option Value), (∀ n v, (n, v) ∈ ns.zip vs → f n = some v) → ns.filterMap (fun n => (f n).map (n, ·)) = ns.zip vs := by
  induction ns with
  | nil => exact fun _ _ _ => rfl
  | cons a r ih =>
    intro vs hl f hf
    cases vs with
    | nil => cases hl
    | cons v vs =>
      rw [List.filterMap_cons, hf a v (.head _)]
      exact congrArg ((a, v) :: ·) (ih (Nat.succ.inj hl) f fun n w h => hf n w (.tail _ h))
theorem lookup_nodup {ns : List Str} : ∀ {vs : List Value}, ns.length = vs.length → ns.Nodup → ∀ n v, (n, v) ∈ ns.zip vs → (ns.zip vs).lookup n = some v := by
  induction ns with
  | nil => exact fun _ _ n v h => (nomatch h)
  | cons a r ih =>
    intro vs hl hn n v h
    cases vs with
    | nil => cases hl
    | cons w vs =>
      rw [List.zip_cons_cons] at h ⊢
      rcases List.mem_cons.mp h with q | q
      · cases q; exact lookup_eq (beq_self_eq_true _)
      · have ne : (n == a) = false := by
          cases hb : n == a with
          | false => rfl
          | true => exact absurd (eq_of_beq hb ▸ (List.of_mem_zip q).1) (List.nodup_cons.mp hn).1
        rw [lookup_ne ne]
        exact ih (Nat.succ.inj hl) (List.nodup_cons.mp hn).2 n v q


theorem bind_plain {fd : FuncData} {vs : List Value} (hp : plainArgs fd.params = true) (hd : fd.defaults = .none) (hn : (fd.params.args.map (·.arg)).Nodup) (hl : (fd.params.args.map (·.arg)).length = vs.length) :
    bindArgs fd ⟨vs, []⟩ = pure ((fd.params.args.map (·.arg)).zip vs) := by
  obtain ⟨name, qual, params, body, scope, globals, closure, defaults, kwdefaults, doc, pm, ann, code, ct, bi⟩ := fd
  obtain ⟨po, as, va, ko, kd, kw, df⟩ := params
  cases hd
  cases po with | cons => cases hp | nil =>
  cases va with | some => cases hp | none =>
  cases ko with | cons => cases hp | nil =>
  cases kw with | some => cases hp | none =>
  generalize hns : as.map (·.arg) = ns at hn hl
  have hmiss : (ns.filter fun n => ((ns.zip vs).lookup n).isNone) = [] := List.filter_eq_nil_iff.mpr fun n hm => (lookup_zip (vs := vs) hl n hm).elim fun v e => by rw [e]; exact Bool.false_ne_true
  have hbinds := filterMap_zip hl (fun n => (ns.zip vs).lookup n) fun n v h => lookup_nodup hl hn n v h
  have htake : ns.take vs.length = ns := by rw [← hl]; exact List.take_length
  have hlt : ¬ vs.length > vs.length := Nat.lt_irrefl _
  refine Eq.trans (if_neg (c := (decide (vs.length > (as.map (·.arg)).length) && Option.isNone (none : Option Arg)) = true) (by rw [hns, hl, decide_eq_false hlt]; exact Bool.false_ne_true)) ?_
  have hd : ∀ k, List.drop k ((none : Option (Array Value)).getD #[]).toList = [] := fun k => List.drop_nil
  rw [hd]
  refine Eq.trans (if_neg (c := (!(((as.map (·.arg)).take ((as.map (·.arg)).length - 0)).filter fun n => (((as.map (·.arg)).zip vs).lookup n).isNone).isEmpty) = true) (by rw [hns, Nat.sub_zero, hl, htake, hmiss]; exact Bool.false_ne_true)) ?_
  rw [List.zip_nil_right]
  refine Eq.trans (b := pure (List.filterMap (fun n => Option.map (fun x => (n, x)) (List.lookup n ((as.map (·.arg)).zip vs))) (as.map (·.arg) ++ []))) rfl ?_
  rw [hns, List.append_nil, hbinds]
end Mine

end

section
set_option autoImplicit false
set_option linter.all false
set_option genSizeOf false
set_option genInjectivity false
namespace Mine
open PySem PySem.W PySem.Calls PyProof.Rows

theorem lk_uniq {l : List (Nat × Str)} (hn : (l.map (·.2)).Nodup) {i j : Nat} {s : Str} (h : (i, s) ∈ l) (h' : (j, s) ∈ l) : i = j := by
  induction l with
  | nil => cases h
  | cons p r ih =>
    rw [List.map_cons, List.nodup_cons] at hn
    rcases List.mem_cons.mp h with q | q
    · rcases List.mem_cons.mp h' with q' | q'
      · exact congrArg (·.1) (q.trans q'.symm)
      · subst q; exact absurd (List.mem_map.mpr ⟨_, q', rfl⟩) hn.1
    · rcases List.mem_cons.mp h' with q' | q'
      · subst q'; exact absurd (List.mem_map.mpr ⟨_, q, rfl⟩) hn.1
      · exact ih hn.2 q q'
noncomputable def Tb.nm (t : Tb) (i : Nat) : Str := (lk t.nms i).getD ⟨Array.replicate (i + 1) 0⟩
/-- the name of a class -/
noncomputable def Tb.cname (t : Tb) (k : Nat) : Option Str := match lk t.clss k with
  | some y => some y.1
  | none => lk t.excs k
noncomputable def fst0 (s : Str) : Option Nat := s.cps[0]?
noncomputable def goodNm (s : Str) : Bool := on (fst0 s) fun c => !Nat.beq c 0 && !(s == (".0" : Str))
noncomputable def distinct : List Str → Bool
  | [] => true
  | x :: r => !(r.contains x) && distinct r
theorem distinct_nodup {l : List Str} (h : distinct l = true) : l.Nodup := by
  induction l with
  | nil => exact List.nodup_nil
  | cons x r ih => exact and_e h fun a b => List.nodup_cons.mpr ⟨fun m => (by rw [List.contains_iff_mem.mpr m] at a; cases a), ih b⟩
theorem nm_some {t : Tb} {i : Nat} {s : Str} (h : lk t.nms i = some s) : t.nm i = s := by unfold Tb.nm; rw [h]; rfl
theorem nm_none {t : Tb} {i : Nat} (h : lk t.nms i = none) : t.nm i = Str.mk (Array.replicate (i + 1) 0) := by unfold Tb.nm; rw [h]; rfl
theorem fst_zero (k : Nat) : fst0 (Str.mk (Array.replicate (k + 1) 0)) = some 0 := by
  show (Array.replicate (k + 1) 0)[0]? = some 0
  rw [Array.getElem?_replicate, if_pos (Nat.succ_pos k)]
theorem good_ne {s : Str} (h : goodNm s = true) : fst0 s ≠ some 0 ∧ s ≠ (".0" : Str) := on_e h fun c e h => and_e h fun a b => ⟨fun z => (by rw [e] at z; cases z; cases a), fun z => (by subst z; cases b)⟩
theorem nm_inj {t : Tb} (hg : (t.nms.map (·.2)).all goodNm = true) (hd : distinct (t.nms.map (·.2)) = true) : ∀ i j, t.nm i = t.nm j → i = j := by
  have first : ∀ i s, lk t.nms i = some s → ∀ k : Nat, s ≠ Str.mk (Array.replicate (k + 1) 0) := fun i s e k q =>
    (good_ne (List.all_eq_true.mp hg s (List.mem_map.mpr ⟨_, lk_in e, rfl⟩))).1 (by rw [q]; exact fst_zero k)
  intro i j h
  cases hi : lk t.nms i with
  | some a =>
    rw [nm_some hi] at h
    cases hj : lk t.nms j with
    | some b =>
      rw [nm_some hj] at h
      subst h
      exact lk_uniq (distinct_nodup hd) (lk_in hi) (lk_in hj)
    | none => rw [nm_none hj] at h; exact absurd h (first i a hi j)
  | none =>
    rw [nm_none hi] at h
    cases hj : lk t.nms j with
    | some b => rw [nm_some hj] at h; exact absurd h.symm (first j b hj i)
    | none =>
      rw [nm_none hj] at h
      have := congrArg (fun s => s.cps.size) h
      rw [Array.size_replicate, Array.size_replicate] at this
      exact Nat.succ.inj this
theorem nm_dot {t : Tb} (hg : (t.nms.map (·.2)).all goodNm = true) (i : Nat) : t.nm i ≠ (".0" : Str) := by
  cases hi : lk t.nms i with
  | some a => rw [nm_some hi]; exact (good_ne (List.all_eq_true.mp hg a (List.mem_map.mpr ⟨_, lk_in hi, rfl⟩))).2
  | none =>
    rw [nm_none hi]
    intro q
    have h0 := fst_zero i
    rw [q] at h0
    revert h0
    decide

noncomputable def usedNames (p : Program) (loose : List Str) : List Str := startupNames ++ loose ++ (recsOf p).map (·.name) ++ (litsOf p).map (·.1) ++ (clssOf p loose).map (·.name)
noncomputable def chkNms (t : Tb) : Bool := (t.nms.map (·.2)).all goodNm && distinct (t.nms.map (·.2)) && decide (t.nm t.nAppend = Str.ofString "append") && decide (t.nm t.nPop = Str.ofString "pop") && decide (t.nm t.nExtend = Str.ofString "extend") && (decide (t.nm t.nGet = Str.ofString "get") && decide (t.nm t.nSetdefault = Str.ofString "setdefault"))
/-- an address -/
noncomputable def adr : Value → Option Addr
  | .ref a => some a
  | _ => none
theorem adr_e {v : Value} {a : Addr} (h : adr v = some a) : v = .ref a := by cases v <;> first | (cases h; rfl) | cases h
noncomputable def rf (o : Option (Option Value)) : Option Addr := match o with
  | some (some v) => adr v
  | _ => none
theorem rf_e {o : Option (Option Value)} {a : Addr} (h : rf o = some a) : o = some (some (.ref a)) := by
  cases o with
  | none => cases h
  | some o => cases o with
    | none => cases h
    | some v => rw [adr_e h]
noncomputable def topA (K : Frag) (x : Str) : Option Addr := rf (nsIn K mainGlobals x)
noncomputable def inCls (K : Frag) (a : Addr) (x : Str) : Option Addr := rf (findIn K (.ref a) x)
/-- one after the other -/
noncomputable def thn {α β : Type} (o : Option α) (f : α → Option β) : Option β := match o with
  | some a => f a
  | none => none
theorem thn_e {α β : Type} {o : Option α} {f : α → Option β} {b : β} {G : Prop} (h : thn o f = some b) (g : ∀ a, o = some a → f a = some b → G) : G := by
  cases o with
  | none => cases h
  | some a => exact g a rfl h
theorem thn_i {α β : Type} {o : Option α} {a : α} {f : α → Option β} {b : Option β} (e : o = some a) (h : f a = b) : thn o f = b := by subst e; exact h
noncomputable def srcA (K : Frag) : Src → Option Addr
  | .g x => topA K x
  | .m c x => thn (topA K c) fun a => inCls K a x
noncomputable def Tb.fnA (t : Tb) (K : Frag) (k : Nat) : Option Addr := thn (lk t.fns k) fun y => srcA K y.1
noncomputable def Tb.clA (t : Tb) (K : Frag) (k : Nat) : Option Addr := thn (t.cname k) (topA K)
noncomputable def mkCx (p : Program) (w : World) (t : Tb) (K : Frag) (h : Heap) : Cx where
  prog := p
  w := w
  P := t.P
  nm := t.nm
  fnA := t.fnA K
  clA := t.clA K
  hb := h
  quiet := hasN t.quiet
  qg := hasN t.qg
noncomputable def Tb.ck (t : Tb) : Ck := ⟨t.nm, hasN t.qg, t.nAppend⟩

/-! the looks -/
noncomputable def kFn (sc : Scope) : Bool := match sc.kind with
  | .function => true
  | _ => false
noncomputable def isNoneV : Value → Bool
  | .none => true
  | _ => false
noncomputable def fncD : Data → Option FuncData
  | .func fd => some fd
  | _ => none
noncomputable def stmB : FuncBody → Option (List Stmt)
  | .stmts b => some b
  | _ => none
noncomputable def fdOf (K : Frag) (a : Addr) : Option (FuncData × List Stmt) := thn (K.lookup a) fun o => thn (fncD o.data) fun fd => thn (stmB fd.body) fun b => some (fd, b)
noncomputable def chkFd (t : Tb) (K : Frag) (q : Bool) (f : Fn) (y : FuncData × List Stmt) : Bool :=
  (plainArgs y.1.params && decide (y.1.params.args.map (·.arg) = f.params.map t.nm) && distinct (y.1.params.args.map (·.arg)) && kFn y.1.scope && !y.1.scope.isCoroutine && !y.1.scope.isGenerator) &&
  (f.params.all (fun i => kStore ⟨y.1.scope, true⟩ (t.nm i)) && y.1.scope.names.all (fun x => !(x.2 == NameKind.free)) && y.1.closure.isEmpty && decide (y.1.globals = mainGlobals) && decide (y.1.builtins = builtinsNs) && isNoneV y.1.defaults) &&
  codeIn K y.1.code y.1.qualname && chkSs t.ck ⟨y.1.scope, true⟩ f.body y.2 && (!q || chkSs t.ck ⟨y.1.scope, false⟩ f.body y.2)
noncomputable def chkFn (t : Tb) (K : Frag) (e : Nat × Src × Fn) : Bool := on (srcA K e.2.1) fun a => on (fdOf K a) fun y => chkFd t K (hasN t.quiet e.1) e.2.2 y
noncomputable def chkMeth (t : Tb) (K : Frag) (c : Addr) (x : Str) (f : Nat) : Bool := on (inCls K c x) fun a => decide (t.fnA K f = some a) && decide (typeIn K (.ref a) = some (.type "function"))
noncomputable def chkIni (t : Tb) (K : Frag) (c : Addr) : Option Nat → Bool
  | some f => chkMeth t K c "__init__" f
  | none => true
noncomputable def chkCl (t : Tb) (K : Frag) (e : Nat × Str × Cl) : Bool := on (topA K e.2.1) fun c =>
  (makesIn K c && decide (findIn K (.ref c) "__getattribute__" = some (some (.builtin "object.__getattribute__"))) && decide (findIn K (.ref c) "__getattr__" = some none) && decide (findIn K (.ref c) "__setattr__" = some (some (.builtin "object.__setattr__"))) && plainOver K c && hasDictIn K c) &&
  keepIn K (.ref c) && chkIni t K c e.2.2.init && e.2.2.meths.all (fun y => chkMeth t K c (t.nm y.1) y.2 && !(e.2.2.attrs.contains y.1)) && e.2.2.attrs.all (fun n => decide (findIn K (.ref c) (t.nm n) = some none)) && !isSm (lk e.2.2.meths t.nAppend)
noncomputable def clsD : Data → Option ClassData
  | .cls cd => some cd
  | _ => none
/-- the line of a class of exceptions -/
noncomputable def lineOf (K : Frag) (c : Addr) : Option (List Value) := thn (K.lookup c) fun o => thn (clsD o.data) fun cd => some cd.mro
noncomputable def chkEx (t : Tb) (K : Frag) (e : Nat × Str) : Bool := on (topA K e.2) fun c => excIn K c excB "ValueError.__new__" && on (lineOf K c) fun l => (t.clss.map (fun y => (y.1, y.2.1)) ++ t.excs).all fun y => on (topA K y.2) fun ck => (l.contains (.ref ck) == sub2 t.subs e.1 y.1)
/-- a built-in value -/
noncomputable def bvO (b : B) (o : Option Value) : Bool := on o fun v => v == bval b
noncomputable def isLI : B → Bool
  | .len => true
  | .isinstance => true
  | _ => false
noncomputable def srcG : Src → Option Str
  | .g x => some x
  | _ => none
noncomputable def vI : Value → Option Int
  | .int i _ => some i
  | _ => none
noncomputable def chkGlob (t : Tb) (K : Frag) (used : List Str) (e : Nat × V) : Bool := match e.2 with
  | .fn k => on (lk t.fns k) fun y => on (srcG y.1) fun x => decide (x = t.nm e.1) && isSm (topA K x) && (!hasN t.qg e.1 || hasN t.quiet k)
  | .cls k => on (t.cname k) fun x => decide (x = t.nm e.1) && isSm (topA K x) && !hasN t.qg e.1
  | .int v => on (nsIn K mainGlobals (t.nm e.1)) fun o => on o fun u => decide (vI u = some v) && !hasN t.qg e.1
  | .bt b => !(used.contains (t.nm e.1)) && !(t.nm e.1 == ("__name__" : Str)) && bvO b (bootBuiltins (t.nm e.1)) && (!hasN t.qg e.1 || isLI b)
  | _ => false
/-- isinstance -/
noncomputable def bTs : List B := [.int, .bool, .str, .list, .tuple]
noncomputable def kTs : List (Kd × Value) := [(.none, .type "NoneType"), (.bool, .type "bool"), (.int, .type "int"), (.str, .type "str"), (.list, .type "list"), (.tuple, .type "tuple")]
noncomputable def bkNo (k : Kd) (b : B) : Option Bool := match bKd b with
  | some j => kNo2 k j
  | none => none
noncomputable def ckB (K : Frag) : Bool := kTs.all fun y => bTs.all fun b => kitOne K y.2 (bval b) == bkNo y.1 b
noncomputable def chkIsi (t : Tb) (K : Frag) : Bool := ckB K
/-- no class is of both kinds -/
noncomputable def chkTwo (t : Tb) : Bool := t.clss.all fun y => !isSm (lk t.excs y.1)
/-- all that hangs on the heap -/
noncomputable def chkAll (t : Tb) (K : Frag) : Bool := t.fns.all (chkFn t K) && t.clss.all (chkCl t K) && t.excs.all (chkEx t K) && chkIsi t K
end Mine

end

section
set_option autoImplicit false
set_option linter.all false
set_option genSizeOf false
set_option genInjectivity false
namespace Mine
open PySem PySem.W PySem.Calls PyProof.Rows

section
variable {p q : Program} {loose : List Str} {mean : ExcName → Option Value} {mg mb : Str → Option Value} {h : Heap} {w : World} {t : Tb} {K : Frag}

/-- a def of the table's, and its look -/
inductive FnOf (t : Tb) (K : Frag) (k : Nat) (a : Addr) : Prop
  | mk (y : Src × Fn) (z : FuncData × List Stmt) (hk : lk t.fns k = some y) (hz : fdOf K a = some z) (hc : chkFd t K (hasN t.quiet k) y.2 z = true)
theorem fn_of {k : Nat} {a : Addr} (h2 : t.fns.all (chkFn t K) = true) (e : t.fnA K k = some a) : FnOf t K k a :=
  thn_e e fun y hk ha => on_e (List.all_eq_true.mp h2 _ (lk_in hk)) fun a' ha' h => on_e h fun z hz hc => by
    cases Option.some.inj (ha'.symm.trans ha)
    exact ⟨y, z, hk, hz, hc⟩
theorem fdOf_ok {a : Addr} {y : FuncData × List Stmt} {G : Prop} (h : fdOf K a = some y) (g : ∀ o, K.lookup a = some o → o.data = .func y.1 → y.1.body = .stmts y.2 → G) : G :=
  thn_e h fun o ho h => thn_e h fun fd hd h => thn_e h fun b hb h => by
    cases h
    refine g o ho ?_ ?_
    · generalize o.data = d at hd
      cases d <;> first | (cases hd; rfl) | cases hd
    · generalize fd.body = d at hb
      cases d <;> first | (cases hb; rfl) | cases hb
theorem isS_e {α : Type} {o : Option α} (h : isSm o = true) : ∃ a, o = some a := by
  cases o with
  | none => cases h
  | some a => exact ⟨a, rfl⟩
theorem mp2_e {α β : Type} {o : Option (α × β)} {b : β} {G : Prop} (h : mp2 o = some b) (g : ∀ a, o = some (a, b) → G) : G := by
  cases o with
  | none => cases h
  | some y => cases h; exact g y.1 rfl
theorem cname_mem {k : Nat} {x : Str} (e : t.cname k = some x) : (k, x) ∈ t.clss.map (fun y => (y.1, y.2.1)) ++ t.excs := by
  unfold Tb.cname at e
  cases q : lk t.clss k with
  | some y => rw [q] at e; cases e; exact List.mem_append_left _ (List.mem_map.mpr ⟨_, lk_in q, rfl⟩)
  | none => rw [q] at e; exact List.mem_append_right _ (lk_in e)
theorem exc_nm {j : Nat} {x : Str} (hn : chkTwo t = true) (hx : lk t.excs j = some x) : t.clA K j = topA K x := by
  have hcl : lk t.clss j = none := by
    cases q : lk t.clss j with
    | none => rfl
    | some y => have := List.all_eq_true.mp hn _ (lk_in q); rw [hx] at this; cases this
  unfold Tb.clA Tb.cname
  rw [hcl, hx]; rfl
theorem cls_nm {k : Nat} {y : Str × Cl} (hk : lk t.clss k = some y) : t.clA K k = topA K y.1 := by
  unfold Tb.clA Tb.cname
  rw [hk]; rfl
/-- a class of exceptions, and its look -/
theorem ex_e {c : Nat × Str → Addr → Bool} {j : Nat} {a : Addr} {G : Prop} (h4 : (t.excs.all fun e => on (topA K e.2) (c e)) = true) (hn : chkTwo t = true) (e : t.clA K j = some a) (hj : isSm (lk t.excs j) = true) (g : ∀ x, topA K x = some a → c (j, x) a = true → G) : G := by
  obtain ⟨x, hx⟩ := isS_e hj
  rw [exc_nm hn hx] at e
  exact on_e (List.all_eq_true.mp h4 _ (lk_in hx)) fun a' ha' h => g x e (Option.some.inj (ha'.symm.trans e) ▸ h)
theorem cl_e {c : Nat × Str × Cl → Addr → Bool} {k : Nat} {a : Addr} {cl : Cl} {G : Prop} (h3 : (t.clss.all fun e => on (topA K e.2.1) (c e)) = true) (e : t.clA K k = some a) (hcl : mp2 (lk t.clss k) = some cl) (g : ∀ x, c (k, x, cl) a = true → G) : G :=
  mp2_e hcl fun x hk => by
    rw [cls_nm hk] at e
    exact on_e (List.all_eq_true.mp h3 _ (lk_in hk)) fun a' ha' h => g x (Option.some.inj (ha'.symm.trans e) ▸ h)

theorem ex_at {q : Program} {loose : List Str} {mg mb : Str → Option Value} (T : TopRead q loose mg mb h) {j : Nat} {c : Addr} (X : K.In h) (h4 : t.excs.all (chkEx t K) = true) (hn : chkTwo t = true) (e : t.clA K j = some c) (hj : isSm (lk t.excs j) = true) : ExAt (mkCx p w t K h) j c := by
  refine ex_e h4 hn e hj fun x hx this => and_e this fun he this => on_e this fun l hl hall => ?_
  obtain ⟨_, bm, ns, nm, qn, bs, hd, sn, sub, ab, col, dd, k0, k1, k2, k3, k5, mN, g1, g2, g3, g4⟩ := own_of_in X T (rf_e hx) he
  have hl' : l = .ref c :: bm := thn_e hl fun o eo hl => by cases (X c o eo).symm.trans g1; exact (Option.some.inj hl).symm
  refine ⟨bm, ns, nm, qn, bs, hd, sn, sub, ab, col, dd, k0, k1, k2, k3, k5, mN, g1, g2, g3, g4, fun k ck hk => ?_⟩
  refine thn_e hk fun xk hxk hck => on_e (List.all_eq_true.mp hall _ (cname_mem hxk)) fun c2 hc2 this => ?_
  cases Option.some.inj (hc2.symm.trans hck)
  rw [← hl']
  exact beq_iff_eq.mp this

theorem meth_of {c : Addr} {x : Str} {f : Nat} (e : chkMeth t K c x f = true) : FnIs (mkCx p w t K h) K c x f :=
  on_e e fun a ha e => and_e e fun e1 e2 => ⟨a, of_decide_eq_true e1, rf_e ha, of_decide_eq_true e2⟩
theorem cls_ok (X : K.In h) (h3 : t.clss.all (chkCl t K) = true) : ClsOk (mkCx p w t K h) K := by
  refine ⟨X, fun k c cl hc hcl => cl_e h3 hc hcl fun x this => and6_e this fun g1 g2 g3 g4 g5 g6 => and6_e g1 fun a1 a2 a3 a4 a5 a6 =>
    ⟨a1, of_decide_eq_true a2, of_decide_eq_true a3, of_decide_eq_true a4, a5, a6, g2, fun f hf => ?_, fun n f hf => meth_of (and2 (List.all_eq_true.mp g4 _ (lk_in hf))).1, fun n hn => of_decide_eq_true (List.all_eq_true.mp g5 _ hn), fun n f hf hn => ?_⟩⟩
  · have g3 : chkIni t K c cl.init = true := g3
    rw [hf] at g3
    exact meth_of g3
  · have := (and2 (List.all_eq_true.mp g4 _ (lk_in hf))).2
    rw [List.contains_iff_mem.mpr hn] at this; cases this

theorem bTs_mem {b : B} {j : Kd} (h : bKd b = some j) : b ∈ bTs := by
  cases b <;> first | exact nsome h | exact .head _ | exact .tail _ (.head _) | exact .tail _ (.tail _ (.head _)) | exact .tail _ (.tail _ (.tail _ (.head _))) | exact .tail _ (.tail _ (.tail _ (.tail _ (.head _))))
theorem bkNo_e {k : Kd} {b : B} {r : Bool} (e : bkNo k b = some r) : b ∈ bTs := by
  cases hb : bKd b with
  | none => unfold bkNo at e; rw [hb] at e; cases e
  | some j => exact bTs_mem hb
theorem isi_base {k : Kd} {b : B} {tv : Value} {r : Bool} (h : ckB K = true) (hm : (k, tv) ∈ kTs) (e : bkNo k b = some r) : kitOne K tv (bval b) = some r :=
  (beq_iff_eq.mp (List.all_eq_true.mp (List.all_eq_true.mp h _ hm) b (bkNo_e e))).trans e
theorem map_e {α β : Type} {o : Option α} {f : α → β} {b : β} {G : Prop} (h : o.map f = some b) (g : ∀ a, o = some a → b = f a → G) : G := by
  cases o with
  | none => cases h
  | some a => cases h; exact g a rfl rfl
theorem isi_all (X : K.In h) (hB : chkIsi t K = true) : IsiK (mkCx p w t K h) K := by
  refine ⟨X, fun k y b tv cv e hk ht => ?_⟩
  cases y with
  | bt b' =>
    cases ht
    have e : isiB k b' = some b := e
    cases k with
    | none => cases hk; exact isi_base (k := .none) hB (.head _) e
    | bool => cases hk; exact isi_base (k := .bool) hB (.tail _ (.head _)) e
    | int => cases hk; exact isi_base (k := .int) hB (.tail _ (.tail _ (.head _))) e
    | str => cases hk; exact isi_base (k := .str) hB (.tail _ (.tail _ (.tail _ (.head _)))) e
    | list => cases hk; exact isi_base (k := .list) hB (.tail _ (.tail _ (.tail _ (.tail _ (.head _))))) e
    | tuple => cases hk; exact isi_base (k := .tuple) hB (.tail _ (.tail _ (.tail _ (.tail _ (.tail _ (.head _)))))) e
    | _ => cases hk
  | _ => exact nsome e
end
end Mine

end

section
set_option autoImplicit false
set_option linter.all false
set_option genSizeOf false
set_option genInjectivity false
namespace Mine
open PySem PySem.W PySem.Calls PyProof.Rows

section
variable {p q : Program} {loose : List Str} {mean : ExcName → Option Value} {mg mb : Str → Option Value} {h : Heap} {w : World} {t : Tb} {K : Frag}
theorem top_gl {i : Nat} {v : V} {x : Str} {a : Addr} (T : Top q loose mean mg mb h) (X : K.In h) (hx : x = t.nm i) (ha : topA K x = some a) (r : ∀ W, VR (mkCx p w t K h) W (.ref a) v) : GlAt (mkCx p w t K h) i v :=
  .main (.ref a) mg T.g (by show mg (t.nm i) = _; rw [← hx]; exact mg_of X T.g (rf_e ha)) r
theorem glob_ok {used : List Str} {i : Nat} {v : V} (T : Top q loose mean mg mb h) (X : K.In h) (hu : used = usedNames q loose) (hm : chkGlob t K used (i, v) = true) : GlAt (mkCx p w t K h) i v := by
  cases v with
  | fn k =>
    refine on_e hm fun y hk hm => on_e hm fun x hx hm => and3_e hm fun m1 m2 _ => ?_
    obtain ⟨a, ha⟩ := isS_e m2
    refine top_gl T X (of_decide_eq_true m1) ha fun W => .fn (thn_i hk ?_)
    generalize y.1 = s at hx
    cases s with
    | g z => cases hx; exact ha
    | m _ _ => cases hx
  | cls k =>
    refine on_e hm fun x hx hm => and3_e hm fun m1 m2 _ => ?_
    obtain ⟨a, ha⟩ := isS_e m2
    exact top_gl T X (of_decide_eq_true m1) ha fun W => .cls (thn_i hx ha)
  | int v =>
    refine on_e hm fun o ho hm => on_e hm fun u eo hm => and_e hm fun m1 _ => ?_
    have m1 := of_decide_eq_true m1
    subst eo
    cases u with
    | int u tk => cases m1; exact .main (.int v tk) mg T.g (mg_of X T.g ho) fun W => .int v tk
    | _ => cases m1
  | bt b =>
    refine and4_e hm fun m1 m2 m3 _ => ?_
    subst hu
    have nu : t.nm i ∉ usedNames q loose := fun z => by rw [List.contains_iff_mem.mpr z] at m1; cases m1
    unfold usedNames at nu
    simp only [List.mem_append, not_or] at nu
    obtain ⟨⟨⟨⟨n1, n2⟩, n3⟩, n4⟩, n5⟩ := nu
    refine .bi (bval b) mg mb T.g T.b (T.free _ n1 n2 n3 n4 n5) ?_ fun W => .bt b
    show mb (t.nm i) = _
    rw [T.builtins _ (fun z => by rw [z] at m2; cases m2)]
    exact on_e m3 fun u eu m3 => eu.trans (congrArg some (beq_iff_eq.mp m3))
  | _ => cases hm
theorem quiet_ok {used : List Str} {i : Nat} {v : V} (hm : chkGlob t K used (i, v) = true) (hq : hasN t.qg i = true) : Qt (mkCx p w t K h) v := by
  cases v with
  | fn k =>
    refine on_e hm fun y hk hm => on_e hm fun x hx hm => and3_e hm fun _ _ m3 => .fn ?_
    rw [hq] at m3; exact m3
  | cls k => exact on_e hm fun x hx hm => and3_e hm fun _ _ m3 => by rw [hq] at m3; cases m3
  | int v => exact on_e hm fun o ho hm => on_e hm fun u eo hm => and_e hm fun _ m2 => by rw [hq] at m2; cases m2
  | bt b =>
    refine and4_e hm fun _ _ _ m4 => ?_
    rw [hq] at m4
    cases b with
    | len => exact .len
    | isinstance => exact .isi
    | _ => cases m4
  | _ => cases hm
theorem noneV {v : Value} (h : isNoneV v = true) : v = .none := by cases v <;> first | rfl | cases h
theorem fnKind {s : Scope} (h : kFn s = true) : s.kind = .function := by
  unfold kFn at h
  cases hk : s.kind <;> rw [hk] at h <;> first | rfl | cases h
theorem fn_at {k : Nat} {a : Addr} {d : Fn} (X : K.In h) (h2 : t.fns.all (chkFn t K) = true) (e : t.fnA K k = some a) (ed : mp2 (lk t.fns k) = some d) : FnIn (mkCx p w t K h) (hasN t.quiet k) d a := by
  obtain ⟨y, z, hk, hz, hc⟩ := fn_of h2 e
  rw [hk] at ed
  cases ed
  refine fdOf_ok hz fun o ho hd hb => and5_e hc fun c1 c2 c3 c4 c5 => and6_e c1 fun a1 a2 a3 a4 a5 a6 => and6_e c2 fun b1 b2 b3 b4 b5 b6 => ?_
  have a2 := of_decide_eq_true a2
  refine ⟨o, z.1, z.2, X _ _ ho, hd, codeRec_of X c3, hb, fun vs hl => ?_, empty_ok b3, Bool.not_eq_true' _ ▸ a5, Bool.not_eq_true' _ ▸ a6, fnKind a4, of_decide_eq_true b4, of_decide_eq_true b5, fun i hi => List.all_eq_true.mp b1 i hi, fun u hu zz => ?_, c4, fun hq => ?_⟩
  · have := bind_plain (fd := z.1) (vs := vs) a1 (noneV b6) (distinct_nodup a3) (by rw [a2, List.length_map, hl])
    rw [this, a2]; rfl
  · have := List.all_eq_true.mp b2 u hu
    rw [zz] at this
    cases this
  · rw [hq] at c5; exact c5
theorem isS_no {α : Type} {o : Option α} (h : (!isSm o) = true) : o = none := by
  cases o with
  | none => rfl
  | some _ => cases h
theorem fn_ob {k : Nat} {a : Addr} (X : K.In h) (h2 : t.fns.all (chkFn t K) = true) (e : t.fnA K k = some a) : FnOb (mkCx p w t K h) a := by
  obtain ⟨y, z, hk, hz, hc⟩ := fn_of h2 e
  exact fdOf_ok hz fun o ho hd hb => ⟨o, z.1, X _ _ ho, hd⟩
theorem cx_ok (T : Top q loose mean mg mb h) (X : K.In h) (h1 : chkNms t = true) (h2 : chkAll t K = true) (h3 : t.globs.all (chkGlob t K (usedNames q loose)) = true) (hn : chkTwo t = true) : CxOk (mkCx p w t K h) :=
  and6_e h1 fun g1 g2 g3 g4 g5 g67 => and_e g67 fun g6 g7 => and4_e h2 fun h2 hcl hex hisi =>
    ⟨nm_inj g1 g2, nm_dot g1, T.nolimit, fun i v e => glob_ok T X rfl (List.all_eq_true.mp h3 _ (lk_in e)), of_decide_eq_true g3, of_decide_eq_true g4, of_decide_eq_true g5, of_decide_eq_true g6, of_decide_eq_true g7,
      fun k a e => fn_ob X h2 e, fun k a d e ed => fn_at X h2 e ed, fun i v hq e => quiet_ok (List.all_eq_true.mp h3 _ (lk_in e)) hq, fun k c e hj => ex_at (topRead_of T) X hex hn e hj,
      fun k cl e => mp2_e e fun x hk => on_e (List.all_eq_true.mp hcl _ (lk_in hk)) fun c hc this => and6_e this fun _ _ _ _ _ g6 => isS_no g6, ⟨K, isi_all X hisi⟩, T.g.elim fun o q => ⟨o, q.elim fun _ q => q.elim fun _ q => q.1⟩⟩
end

/-- the state at the call -/
noncomputable def W0 (h : Heap) : Wd := ⟨fun a => h.get? a, fun _ => none⟩
noncomputable def H0 : Hp := ⟨[]⟩
theorem rel0 {X : Cx} : RelH X (W0 X.hb) H0 X.hb :=
  ⟨fun _ _ e => e, fun _ _ e => e, fun _ _ e => (by cases e), fun a ⟨i, c, l, e, _, _⟩ => (by cases e), fun i j ci cj li lj e => (by cases e), fun _ _ => ⟨rfl, rfl⟩⟩
theorem vrs_ints {X : Cx} {W : Wd} {P : Params} {h : Heap} {is : List Int} : ∀ {vs : List Value}, WellAll P h vs (ofPys (is.map PyData.int)) → VRs X W vs (is.map V.int) := by
  induction is with
  | nil => intro vs r; cases r; exact .nil
  | cons i is ih =>
    intro vs r
    have r' : WellAll P h vs (.int i :: ofPys (is.map PyData.int)) := r
    cases r' with
    | cons a b =>
      cases a with
      | int _ t => exact .cons (.int i t) (ih b)

theorem law_end {p : Program} {w : World} {t : Tb} {K : Frag} {mg : Str → Option Value} {s₁ : Shared} {c : ClaimW} {cl : Str → Option Addr} {mean : ExcName → Option Value} {args : List WData} {k : Nat} {fa a : Addr} {is : List Int} {q : Program} {loose : List Str} {mean' : ExcName → Option Value} {mb : Str → Option Value} {P : Params}
    (T : Top q loose mean' mg mb s₁.heap) (X : K.In s₁.heap) (h1 : chkNms t = true) (h2 : chkAll t K = true) (h3 : t.globs.all (chkGlob t K (usedNames q loose)) = true) (hn : chkTwo t = true)
    (hg : s₁.gens = #[]) (x : Str) (hk : (thn (lk t.fns k) fun y => srcG y.1) = some x) (hs : isSm (topA K x) = true) (hmg : mg x = some (.ref fa)) (hw : Well P s₁.heap (.ref a) (ofPy (.list (is.map PyData.int)))) (hlen : ¬ ((63 : Nat) : Int) < (is.length : Nat))
    (hr : ∀ cls, c.raises args cls = false) (hp : c.post args (.bool true) args = true)
    (n : Nat) (hA : AOk callerA n)
    (main : ∀ is : List Int, is.length ≤ 63 → CW t.P n k [.lst (is.map V.int)] H0 (fun v _ => v = .bool true) (fun _ _ => False)) :
    wpAny (model p w) callerA (call (.ref fa) [.ref a]) (fun v s' => GoodWG c cl mean args s₁ (.ok (.ret v)) s') (fun e s' => GoodWG c cl mean args s₁ (.error e) s') s₁ := by
  have K0 : CxOk (mkCx p w t K s₁.heap) := cx_ok T X h1 h2 h3 hn
  have C : ClsOk (mkCx p w t K s₁.heap) K := cls_ok X (and4_e h2 fun _ z _ _ => z)
  have hl : is.length ≤ 63 := Int.ofNat_le.mp (Int.not_lt.mp hlen)
  cases hw with
  | list hgt hall =>
    have hv : VR (mkCx p w t K s₁.heap) (W0 s₁.heap) (.ref a) (.lst (is.map V.int)) := VR.lst (n := 0) hgt (vrs_ints hall) (by rw [List.length_map]; exact Nat.le_trans hl (by decide))
    have hfn : (mkCx p w t K s₁.heap).fnA k = some fa := by
      obtain ⟨a', ha'⟩ := isS_e hs
      have := mg_of X T.g (rf_e ha')
      rw [hmg] at this
      cases this
      refine thn_e hk fun y hy hx => thn_i hy ?_
      generalize y.1 = s at hx
      cases s with
      | g z => cases hx; exact ha'
      | m _ _ => cases hx
    refine wpAny_call (codeAny_mono (callM K0 C n callerA k fa [.lst (is.map V.int)] [.ref a] (W0 s₁.heap) H0 s₁ _ _ hA (.inl rfl) ⟨[], rfl, fun e he => by cases he⟩ rel0 (.cons hv .nil) hfn (main is hl)) fun r s' hr' => ?_)
    cases r with
    | ok fl =>
      cases fl with
      | ret v =>
        obtain ⟨W', H', av, TT, hv', rfl⟩ := hr'
        cases hv'
        exact GoodW.toG ⟨.inl ⟨_, .bool true, [], rfl, hr, .bool _, hp, fun _ => ⟨List.nodup_nil, fun _ z => (nomatch z)⟩⟩, TT.rel.bkeep, TT.rest.os, TT.rest.gens.trans hg⟩
      | _ => exact hr'.elim
    | error e =>
      obtain ⟨_, _, _, _, _, _, _, _, _, _, z⟩ := hr'
      exact z.elim
end Mine

end

section
set_option autoImplicit false
set_option linter.all false
namespace Mine
open PySem (Str)
noncomputable def s_no_list_of_h : Str := ⟨#[110, 111, 32, 108, 105, 115, 116, 32, 111, 102, 32, 104, 97, 110, 100, 115]⟩
noncomputable def s_no_count_of_ : Str := ⟨#[110, 111, 32, 99, 111, 117, 110, 116, 32, 111, 102, 32, 104, 97, 110, 100, 115]⟩
noncomputable def s_no_hand : Str := ⟨#[110, 111, 32, 104, 97, 110, 100]⟩
noncomputable def s_a_hand_in_no : Str := ⟨#[97, 32, 104, 97, 110, 100, 32, 105, 110, 32, 110, 111, 32, 108, 105, 115, 116]⟩
noncomputable def s_a_hand_that_ : Str := ⟨#[97, 32, 104, 97, 110, 100, 32, 116, 104, 97, 116, 32, 102, 101, 108, 108, 32, 97, 119, 97, 121]⟩
noncomputable def s_wish : Str := ⟨#[119, 105, 115, 104]⟩
noncomputable def s_take : Str := ⟨#[116, 97, 107, 101]⟩
noncomputable def s_hold : Str := ⟨#[104, 111, 108, 100]⟩
noncomputable def s_not_the_firs : Str := ⟨#[110, 111, 116, 32, 116, 104, 101, 32, 102, 105, 114, 115, 116, 32, 104, 97, 110, 100]⟩
noncomputable def s_no_letter_th : Str := ⟨#[110, 111, 32, 108, 101, 116, 116, 101, 114, 32, 116, 104, 101, 114, 101]⟩
noncomputable def s_enter : Str := ⟨#[101, 110, 116, 101, 114]⟩
noncomputable def s_have : Str := ⟨#[104, 97, 118, 101]⟩
noncomputable def s_prepare : Str := ⟨#[112, 114, 101, 112, 97, 114, 101]⟩
noncomputable def s_promise : Str := ⟨#[112, 114, 111, 109, 105, 115, 101]⟩
noncomputable def s_accept : Str := ⟨#[97, 99, 99, 101, 112, 116]⟩
noncomputable def s_empty : Str := ⟨#[]⟩
noncomputable def s_x : Str := ⟨#[97, 98, 99, 88, 89, 90, 32, 48, 57, 46, 44, 59, 58, 33, 63, 45, 43, 42, 47, 60, 62, 61, 40, 41, 91, 93, 123, 125, 35, 38, 39, 124, 126, 95, 94]⟩
noncomputable def F_whole : Fn := ⟨[16], (.cons (.ret (.some (.and (.cons (.call true (.glob 42) (.cons (.loc 16) (.cons (.glob 43) .nil))) (.cons (.not (.call true (.glob 42) (.cons (.loc 16) (.cons (.glob 47) .nil)))) .nil)))))
  .nil)⟩
noncomputable def F_enough : Fn := ⟨[17], (.cons (.ret (.some (.bin true .add (.bin true .fdiv (.call true (.glob 46) (.cons (.loc 17) .nil)) (.cst (.int 2))) (.cst (.int 1)))))
  .nil)⟩
noncomputable def L_is_list_1 : PSs := (.cons (.ite (.or (.cons (.not (.e (.call true (.glob 5) (.cons (.loc 20) .nil)))) (.cons (.e (.cmp .le (.loc 20) (.loc 19))) (.cons (.e (.cmp .ge (.loc 20) (.loc 18))) .nil)))) (.cons (.ret (.some (.cst (.bool false))))
  .nil) .nil)
  (.cons (.assign (.loc 19) (.loc 20))
  .nil))
noncomputable def F_is_list : Fn := ⟨[16, 18], (.cons (.ite (.or (.cons (.not (.e (.call true (.glob 42) (.cons (.loc 16) (.cons (.glob 41) .nil))))) (.cons (.e (.cmp .eq (.call true (.glob 46) (.cons (.loc 16) .nil)) (.cst (.int 0)))) .nil))) (.cons (.ret (.some (.cst (.bool false))))
  .nil) .nil)
  (.cons (.assign (.loc 19) (.neg (.cst (.int 1))))
  (.cons (.loop [20] (.loc 16) L_is_list_1)
  (.cons (.ret (.some (.cst (.bool true))))
  .nil))))⟩
noncomputable def F_Hand___init__ : Fn := ⟨[108, 109], (.cons (.assign (.attr (.loc 108) 109) (.loc 109))
  (.cons (.assign (.attr (.loc 108) 110) (.cst .none))
  (.cons (.assign (.attr (.loc 108) 111) (.neg (.cst (.int 1))))
  (.cons (.assign (.attr (.loc 108) 17) (.list true .nil))
  (.cons (.assign (.attr (.loc 108) 112) (.cst (.int 0)))
  (.cons (.assign (.attr (.loc 108) 113) (.cst (.bool true)))
  (.cons (.assign (.attr (.loc 108) 114) (.list false .nil))
  (.cons (.assign (.attr (.loc 108) 115) (.cst .none))
  (.cons (.expr (.meth true (.loc 108) 66 .nil))
  .nil)))))))))⟩
noncomputable def F_Hand_begin : Fn := ⟨[108], (.cons (.assign (.attr (.loc 108) 23) (.list false .nil))
  (.cons (.assign (.attr (.loc 108) 116) (.cst (.int 0)))
  (.cons (.assign (.attr (.loc 108) 117) (.cst (.bool false)))
  (.cons (.assign (.attr (.loc 108) 118) (.tup (.cons (.cst (.int 0)) (.cons (.neg (.cst (.int 1))) .nil))))
  (.cons (.assign (.attr (.loc 108) 119) (.cst .none))
  (.cons (.assign (.attr (.loc 108) 120) (.cst .none))
  (.cons (.assign (.attr (.loc 108) 121) (.dict .nil))
  .nil)))))))⟩
noncomputable def F_Hand_goes_into : Fn := ⟨[108, 110, 17, 115], (.cons (.expr (.meth true (.loc 108) 66 .nil))
  (.cons (.assign (.attr (.loc 108) 110) (.loc 110))
  (.cons (.assign (.attr (.loc 108) 17) (.call true (.glob 41) (.cons (.loc 17) .nil)))
  (.cons (.assign (.attr (.loc 108) 115) (.loc 115))
  (.cons (.ite (.e (.cmp .isNot (.loc 110) (.cst .none))) (.cons (.assign (.attr (.loc 108) 111) (.loc 110))
  .nil) .nil)
  .nil)))))⟩
noncomputable def F_Hand_others : Fn := ⟨[108], (.cons (.ret (.some (.comp true (.loc 20) [20] (.attr (.loc 108) 17) (.some (.e (.cmp .ne (.loc 20) (.attr (.loc 108) 109)))))))
  .nil)⟩
noncomputable def L_Hand_held_by_enough_1 : PSs := (.cons (.expr (.meth true (.loc 143) 0 (.cons (.meth true (.attr (.loc 108) 121) 3 (.cons (.loc 20) (.cons (.cst (.int 0)) .nil))) .nil)))
  .nil)
noncomputable def F_Hand_held_by_enough : Fn := ⟨[108], (.cons (.assign (.loc 143) (.list false (.cons (.call true (.glob 46) (.cons (.attr (.loc 108) 23) .nil)) .nil)))
  (.cons (.loop [20] (.meth true (.loc 108) 68 .nil) L_Hand_held_by_enough_1)
  (.cons (.ret (.some (.idx (.sortedRev true 150 (.loc 143)) (.bin true .sub (.call true (.glob 6) (.cons (.attr (.loc 108) 17) .nil)) (.cst (.int 1))))))
  .nil)))⟩
noncomputable def L_Folk___init___1 : PSs := (.cons (.expr (.meth true (.idx (.attr (.loc 108) 123) (.loc 109)) 67 (.cons (.cst (.int 0)) (.cons (.loc 122) (.cons (.cst .none) .nil)))))
  .nil)
noncomputable def F_Folk___init__ : Fn := ⟨[108, 18, 122], (.cons (.ite (.or (.cons (.not (.e (.call true (.glob 5) (.cons (.loc 18) .nil)))) (.cons (.e (.cmp .lt (.loc 18) (.cst (.int 1)))) (.cons (.e (.cmp .gt (.loc 18) (.glob 71))) .nil)))) (.cons (.raise 52 (.cst (.str s_no_count_of_)))
  .nil) .nil)
  (.cons (.ite (.not (.e (.call true (.glob 7) (.cons (.loc 122) (.cons (.loc 18) .nil))))) (.cons (.raise 53 (.cst (.str s_no_list_of_h)))
  .nil) .nil)
  (.cons (.assign (.attr (.loc 108) 18) (.loc 18))
  (.cons (.assign (.attr (.loc 108) 123) (.comp true (.call true (.glob 59) (.cons (.loc 109) .nil)) [109] (.call true (.glob 44) (.cons (.loc 18) .nil)) .none))
  (.cons (.assign (.attr (.loc 108) 124) (.list false .nil))
  (.cons (.loop [109] (.loc 122) L_Folk___init___1)
  .nil))))))⟩
noncomputable def F_Folk_hand_of : Fn := ⟨[108, 20], (.cons (.ite (.or (.cons (.not (.e (.call true (.glob 5) (.cons (.loc 20) .nil)))) (.cons (.e (.cmp .lt (.loc 20) (.cst (.int 0)))) (.cons (.e (.cmp .ge (.loc 20) (.attr (.loc 108) 18))) .nil)))) (.cons (.raise 52 (.cst (.str s_no_hand)))
  .nil) .nil)
  (.cons (.ret (.some (.idx (.attr (.loc 108) 123) (.loc 20))))
  .nil))⟩
noncomputable def F_Folk_able : Fn := ⟨[108, 20], (.cons (.assign (.loc 125) (.meth true (.loc 108) 72 (.cons (.loc 20) .nil)))
  (.cons (.ite (.not (.e (.attr (.loc 125) 113))) (.cons (.raise 55 (.cst (.str s_a_hand_that_)))
  .nil) .nil)
  (.cons (.ite (.e (.cmp .is (.attr (.loc 125) 110) (.cst .none))) (.cons (.raise 56 (.cst (.str s_a_hand_in_no)))
  .nil) .nil)
  (.cons (.ret (.some (.loc 125)))
  .nil))))⟩
noncomputable def F_Folk_inside : Fn := ⟨[108, 20], (.cons (.assign (.loc 125) (.meth true (.loc 108) 72 (.cons (.loc 20) .nil)))
  (.cons (.ite (.e (.cmp .is (.attr (.loc 125) 110) (.cst .none))) (.cons (.raise 56 (.cst (.str s_a_hand_in_no)))
  .nil) .nil)
  (.cons (.ret (.some (.loc 125)))
  .nil)))⟩
noncomputable def L_Folk_send_1 : PSs := (.cons (.expr (.meth true (.attr (.loc 108) 124) 0 (.cons (.tup (.cons (.loc 126) (.cons (.attr (.loc 125) 109) (.cons (.loc 20) (.cons (.attr (.loc 125) 110) (.cons (.loc 128) .nil)))))) .nil)))
  .nil)
noncomputable def F_Folk_send : Fn := ⟨[108, 126, 125, 127, 128], (.cons (.loop [20] (.loc 127) L_Folk_send_1)
  .nil)⟩
noncomputable def F_Folk_say : Fn := ⟨[108, 20, 126], (.cons (.assign (.loc 125) (.meth true (.loc 108) 73 (.cons (.loc 20) .nil)))
  (.cons (.assign (.loc 131) (.tup (.cons (.loc 20) (.cons (.attr (.loc 125) 112) (.cons (.loc 126) .nil)))))
  (.cons (.augAttr (.loc 125) 112 .add (.cst (.int 1)))
  (.cons (.expr (.meth true (.loc 108) 75 (.cons (.cst (.str s_wish)) (.cons (.loc 125) (.cons (.sl true (.attr (.loc 125) 17) .none (.some (.cst (.int 1)))) (.cons (.loc 131) .nil))))))
  .nil))))⟩
noncomputable def L_Folk_press_1 : PSs := (.cons (.expr (.meth true (.loc 108) 75 (.cons (.cst (.str s_hold)) (.cons (.loc 125) (.cons (.meth true (.loc 125) 68 .nil) (.cons (.tup (.cons (.loc 131) (.cons (.loc 110) .nil))) .nil))))))
  .nil)
noncomputable def F_Folk_press : Fn := ⟨[108, 20], (.cons (.assign (.loc 125) (.meth true (.loc 108) 73 (.cons (.loc 20) .nil)))
  (.cons (.ite (.e (.cmp .ne (.idx (.attr (.loc 125) 17) (.cst (.int 0))) (.loc 20))) (.cons (.raise 57 (.cst (.str s_not_the_firs)))
  .nil) .nil)
  (.cons (.loopEnum 174 110 131 (.attr (.loc 125) 23) L_Folk_press_1)
  (.cons (.expr (.meth true (.loc 108) 75 (.cons (.cst (.str s_take)) (.cons (.loc 125) (.cons (.meth true (.loc 125) 68 .nil) (.cons (.attr (.loc 125) 116) .nil))))))
  .nil))))⟩
noncomputable def F_Folk_fall : Fn := ⟨[108, 20], (.cons (.assign (.loc 125) (.meth true (.loc 108) 72 (.cons (.loc 20) .nil)))
  (.cons (.ite (.not (.e (.attr (.loc 125) 113))) (.cons (.raise 55 (.cst (.str s_a_hand_that_)))
  .nil) .nil)
  (.cons (.assign (.attr (.loc 125) 113) (.cst (.bool false)))
  .nil)))⟩
noncomputable def F_Folk_letter_at : Fn := ⟨[108, 110], (.cons (.ite (.or (.cons (.not (.e (.call true (.glob 5) (.cons (.loc 110) .nil)))) (.cons (.e (.cmp .lt (.loc 110) (.cst (.int 0)))) (.cons (.e (.cmp .ge (.loc 110) (.call true (.glob 46) (.cons (.attr (.loc 108) 124) .nil)))) .nil)))) (.cons (.raise 54 (.cst (.str s_no_letter_th)))
  .nil) .nil)
  (.cons (.ret (.some (.idx (.attr (.loc 108) 124) (.loc 110))))
  .nil))⟩
noncomputable def F_Folk_lose : Fn := ⟨[108, 110], (.cons (.expr (.meth true (.loc 108) 81 (.cons (.loc 110) .nil)))
  (.cons (.expr (.meth true (.attr (.loc 108) 124) 1 (.cons (.loc 110) .nil)))
  .nil))⟩
noncomputable def F_Folk_double : Fn := ⟨[108, 110], (.cons (.expr (.meth true (.attr (.loc 108) 124) 0 (.cons (.meth true (.loc 108) 81 (.cons (.loc 110) .nil)) .nil)))
  .nil)⟩
noncomputable def F_Folk_come : Fn := ⟨[108, 110], (.cons (.assign (.tup [126, 130, 127, 109, 128]) (.meth true (.loc 108) 81 (.cons (.loc 110) .nil)))
  (.cons (.expr (.meth true (.attr (.loc 108) 124) 1 (.cons (.loc 110) .nil)))
  (.cons (.assign (.loc 125) (.idx (.attr (.loc 108) 123) (.loc 127)))
  (.cons (.ite (.not (.e (.attr (.loc 125) 113))) (.cons (.ret .none)
  .nil) .nil)
  (.cons (.ite (.e (.cmp .eq (.loc 126) (.cst (.str s_enter)))) (.cons (.expr (.meth true (.loc 108) 94 (.cons (.loc 125) (.cons (.loc 128) .nil))))
  .nil) (.cons (.ite (.and (.cons (.e (.cmp .isNot (.attr (.loc 125) 110) (.cst .none))) (.cons (.e (.cmp .eq (.attr (.loc 125) 110) (.loc 109))) .nil))) (.cons (.expr (.meth true (.loc 108) 86 (.cons (.loc 126) (.cons (.loc 125) (.cons (.loc 130) (.cons (.loc 128) .nil))))))
  .nil) .nil)
  .nil))
  .nil)))))⟩
noncomputable def L_Folk_calm_1 : PSs := (.cons (.expr (.meth true (.loc 108) 84 (.cons (.cst (.int 0)) .nil)))
  (.cons (.augLoc 18 .add (.cst (.int 1)))
  .nil))
noncomputable def F_Folk_calm : Fn := ⟨[108], (.cons (.assign (.loc 18) (.cst (.int 0)))
  (.cons (.while_ (.e (.attr (.loc 108) 124)) L_Folk_calm_1)
  (.cons (.ret (.some (.loc 18)))
  .nil)))⟩
noncomputable def F_Folk_taken_up : Fn := ⟨[108, 126, 125, 130, 128], (.cons (.ite (.e (.cmp .eq (.loc 126) (.cst (.str s_wish)))) (.cons (.expr (.meth true (.loc 108) 87 (.cons (.loc 125) (.cons (.loc 128) .nil))))
  .nil) (.cons (.ite (.e (.cmp .eq (.loc 126) (.cst (.str s_hold)))) (.cons (.expr (.meth true (.loc 108) 88 (.cons (.loc 125) (.cons (.loc 130) (.cons (.loc 128) .nil)))))
  .nil) (.cons (.ite (.e (.cmp .eq (.loc 126) (.cst (.str s_have)))) (.cons (.assign (.idx (.attr (.loc 125) 121) (.loc 130)) (.call true (.glob 151) (.cons (.loc 128) (.cons (.meth true (.attr (.loc 125) 121) 3 (.cons (.loc 130) (.cons (.cst (.int 0)) .nil))) .nil))))
  (.cons (.expr (.meth true (.loc 108) 89 (.cons (.loc 125) .nil)))
  .nil)) (.cons (.ite (.e (.cmp .eq (.loc 126) (.cst (.str s_take)))) (.cons (.assign (.attr (.loc 125) 116) (.call true (.glob 151) (.cons (.attr (.loc 125) 116) (.cons (.call true (.glob 154) (.cons (.loc 128) (.cons (.call true (.glob 46) (.cons (.attr (.loc 125) 23) .nil)) .nil))) .nil))))
  .nil) (.cons (.ite (.e (.cmp .eq (.loc 126) (.cst (.str s_prepare)))) (.cons (.expr (.meth true (.loc 108) 90 (.cons (.loc 125) (.cons (.loc 130) (.cons (.loc 128) .nil)))))
  .nil) (.cons (.ite (.e (.cmp .eq (.loc 126) (.cst (.str s_promise)))) (.cons (.expr (.meth true (.loc 108) 91 (.cons (.loc 125) (.cons (.loc 130) (.cons (.loc 128) .nil)))))
  .nil) (.cons (.ite (.e (.cmp .eq (.loc 126) (.cst (.str s_accept)))) (.cons (.expr (.meth true (.loc 108) 92 (.cons (.loc 125) (.cons (.loc 130) (.cons (.loc 128) .nil)))))
  .nil) (.cons (.expr (.meth true (.loc 108) 93 (.cons (.loc 125) (.cons (.loc 130) (.cons (.loc 128) .nil)))))
  .nil))
  .nil))
  .nil))
  .nil))
  .nil))
  .nil))
  .nil))
  .nil)⟩
noncomputable def F_Folk_wished : Fn := ⟨[108, 125, 131], (.cons (.ite (.or (.cons (.e (.attr (.loc 125) 117)) (.cons (.e (.cmp .isIn (.loc 131) (.attr (.loc 125) 23))) .nil))) (.cons (.ret .none)
  .nil) .nil)
  (.cons (.expr (.meth true (.attr (.loc 125) 23) 0 (.cons (.loc 131) .nil)))
  (.cons (.expr (.meth true (.loc 108) 75 (.cons (.cst (.str s_hold)) (.cons (.loc 125) (.cons (.meth true (.loc 125) 68 .nil) (.cons (.tup (.cons (.loc 131) (.cons (.bin true .sub (.call true (.glob 46) (.cons (.attr (.loc 125) 23) .nil)) (.cst (.int 1))) .nil))) .nil))))))
  (.cons (.expr (.meth true (.loc 108) 89 (.cons (.loc 125) .nil)))
  .nil))))⟩
noncomputable def F_Folk_held : Fn := ⟨[108, 125, 130, 128], (.cons (.assign (.tup [131, 110]) (.loc 128))
  (.cons (.ite (.or (.cons (.e (.attr (.loc 125) 117)) (.cons (.e (.cmp .gt (.loc 110) (.call true (.glob 46) (.cons (.attr (.loc 125) 23) .nil)))) .nil))) (.cons (.ret .none)
  .nil) .nil)
  (.cons (.ite (.e (.cmp .eq (.loc 110) (.call true (.glob 46) (.cons (.attr (.loc 125) 23) .nil)))) (.cons (.expr (.meth true (.attr (.loc 125) 23) 0 (.cons (.loc 131) .nil)))
  .nil) .nil)
  (.cons (.expr (.meth true (.loc 108) 75 (.cons (.cst (.str s_have)) (.cons (.loc 125) (.cons (.list true (.cons (.loc 130) .nil)) (.cons (.call true (.glob 46) (.cons (.attr (.loc 125) 23) .nil)) .nil))))))
  .nil))))⟩
noncomputable def F_Folk_look : Fn := ⟨[108, 125], (.cons (.assign (.loc 18) (.meth true (.loc 125) 69 .nil))
  (.cons (.ite (.e (.cmp .gt (.loc 18) (.attr (.loc 125) 116))) (.cons (.assign (.attr (.loc 125) 116) (.loc 18))
  (.cons (.expr (.meth true (.loc 108) 75 (.cons (.cst (.str s_take)) (.cons (.loc 125) (.cons (.meth true (.loc 125) 68 .nil) (.cons (.loc 18) .nil))))))
  .nil)) .nil)
  .nil))⟩
noncomputable def F_Folk_letters : Fn := ⟨[108], (.cons (.ret (.some (.comp false (.sl true (.loc 134) .none (.some (.cst (.int 3)))) [134] (.attr (.loc 108) 124) .none)))
  .nil)⟩
noncomputable def F_Folk_stands : Fn := ⟨[108, 20], (.cons (.ret (.some (.attr (.meth true (.loc 108) 72 (.cons (.loc 20) .nil)) 113)))
  .nil)⟩
noncomputable def F_Folk_list_of : Fn := ⟨[108, 20], (.cons (.assign (.loc 125) (.meth true (.loc 108) 74 (.cons (.loc 20) .nil)))
  (.cons (.ret (.some (.tup (.cons (.attr (.loc 125) 110) (.cons (.call true (.glob 41) (.cons (.attr (.loc 125) 17) .nil)) .nil)))))
  .nil))⟩
noncomputable def F_Folk_taken : Fn := ⟨[108, 20], (.cons (.assign (.loc 125) (.meth true (.loc 108) 74 (.cons (.loc 20) .nil)))
  (.cons (.ret (.some (.call false (.glob 41) (.cons (.sl true (.attr (.loc 125) 23) .none (.some (.attr (.loc 125) 116))) .nil))))
  .nil))⟩
noncomputable def F_Folk_is_still : Fn := ⟨[108, 20], (.cons (.ret (.some (.attr (.meth true (.loc 108) 74 (.cons (.loc 20) .nil)) 117)))
  .nil)⟩
noncomputable def F__law_draw : Fn := ⟨[24, 25], (.cons (.ret (.some (.ite (.e (.cmp .gt (.call true (.glob 46) (.cons (.loc 24) .nil)) (.loc 25))) (.idx (.loc 24) (.loc 25)) (.cst (.int 0)))))
  .nil)⟩
noncomputable def L__law_hands_1 : PSs := (.cons (.ite (.e (.cmp .eq (.bin true .mod (.loc 27) (.cst (.int 2))) (.cst (.int 1)))) (.cons (.expr (.meth true (.loc 26) 0 (.cons (.loc 29) .nil)))
  .nil) .nil)
  (.cons (.assign (.loc 27) (.bin true .fdiv (.loc 27) (.cst (.int 2))))
  .nil))
noncomputable def F__law_hands : Fn := ⟨[27, 28], (.cons (.assign (.loc 26) (.list false .nil))
  (.cons (.loop [29] (.call true (.glob 44) (.cons (.loc 28) .nil)) L__law_hands_1)
  (.cons (.ret (.some (.loc 26)))
  .nil)))⟩
noncomputable def L__law_word_1 : PSs := (.cons (.assign (.loc 138) (.bin true .add (.loc 138) (.idx (.loc 132) (.bin true .mod (.bin true .add (.bin true .fdiv (.loc 137) (.cst (.int 4))) (.bin true .mul (.bin true .mul (.cst (.int 31)) (.loc 25)) (.loc 25))) (.call true (.glob 46) (.cons (.loc 132) .nil))))))
  .nil)
noncomputable def F__law_word : Fn := ⟨[137], (.cons (.assign (.loc 132) (.cst (.str s_x)))
  (.cons (.assign (.loc 138) (.cst (.str s_empty)))
  (.cons (.loop [25] (.call true (.glob 44) (.cons (.bin true .mod (.loc 137) (.cst (.int 4))) .nil)) L__law_word_1)
  (.cons (.ret (.some (.loc 138)))
  .nil))))⟩
noncomputable def F__law_tried : Fn := ⟨[106, 31, 29, 138], (.cons (.try_ (.cons (.ite (.e (.cmp .eq (.loc 31) (.cst (.int 0)))) (.cons (.expr (.meth true (.loc 106) 76 (.cons (.loc 29) (.cons (.loc 138) .nil))))
  .nil) (.cons (.ite (.e (.cmp .eq (.loc 31) (.cst (.int 1)))) (.cons (.expr (.meth true (.loc 106) 77 (.cons (.loc 29) .nil)))
  .nil) (.cons (.expr (.meth true (.loc 106) 80 (.cons (.loc 29) .nil)))
  .nil))
  .nil))
  .nil) 51 none (.cons (.ret (.some (.cst (.bool false))))
  .nil))
  (.cons (.ret (.some (.cst (.bool true))))
  .nil))⟩
noncomputable def L__law_some_come_1 : PSs := (.cons (.assign (.loc 34) (.call true (.glob 46) (.cons (.meth true (.loc 106) 95 .nil) .nil)))
  (.cons (.ite (.e (.cmp .gt (.loc 34) (.cst (.int 0)))) (.cons (.expr (.meth true (.loc 106) 84 (.cons (.bin true .mod (.idx (.list true (.cons (.cst (.int 0)) (.cons (.bin true .fdiv (.loc 139) (.cst (.int 8))) (.cons (.bin true .add (.bin true .mul (.bin true .fdiv (.loc 139) (.cst (.int 8))) (.bin true .add (.loc 25) (.cst (.int 1)))) (.loc 25)) .nil)))) (.bin true .mod (.bin true .fdiv (.loc 139) (.cst (.int 3))) (.cst (.int 3)))) (.loc 34)) .nil)))
  .nil) .nil)
  .nil))
noncomputable def F__law_some_come : Fn := ⟨[106, 139], (.cons (.loop [25] (.call true (.glob 44) (.cons (.bin true .add (.cst (.int 1)) (.bin true .mod (.loc 139) (.cst (.int 8)))) .nil)) L__law_some_come_1)
  .nil)⟩
noncomputable def F__law_deed : Fn := ⟨[106, 137, 105, 136], (.cons (.assign (.loc 31) (.bin true .mod (.loc 137) (.cst (.int 16))))
  (.cons (.assign (.loc 139) (.bin true .fdiv (.loc 137) (.cst (.int 16))))
  (.cons (.assign (.loc 29) (.idx (.loc 105) (.bin true .mod (.loc 139) (.call true (.glob 46) (.cons (.loc 105) .nil)))))
  (.cons (.assign (.loc 34) (.call true (.glob 46) (.cons (.meth true (.loc 106) 95 .nil) .nil)))
  (.cons (.ite (.e (.cmp .lt (.loc 31) (.cst (.int 8)))) (.cons (.expr (.call true (.glob 176) (.cons (.loc 106) (.cons (.loc 139) .nil))))
  .nil) (.cons (.ite (.e (.cmp .lt (.loc 31) (.cst (.int 11)))) (.cons (.assign (.loc 138) (.call true (.glob 135) (.cons (.bin true .fdiv (.loc 139) (.cst (.int 7))) .nil)))
  (.cons (.ite (.e (.call true (.glob 175) (.cons (.loc 106) (.cons (.cst (.int 0)) (.cons (.loc 29) (.cons (.loc 138) .nil)))))) (.cons (.expr (.meth true (.idx (.loc 136) (.loc 29)) 0 (.cons (.loc 138) .nil)))
  .nil) .nil)
  .nil)) (.cons (.ite (.and (.cons (.e (.cmp .eq (.loc 31) (.cst (.int 11)))) (.cons (.e (.cmp .gt (.loc 34) (.cst (.int 0)))) .nil))) (.cons (.expr (.meth true (.loc 106) 82 (.cons (.bin true .mod (.loc 139) (.loc 34)) .nil)))
  .nil) (.cons (.ite (.and (.cons (.e (.cmp .eq (.loc 31) (.cst (.int 12)))) (.cons (.e (.cmp .gt (.loc 34) (.cst (.int 0)))) .nil))) (.cons (.expr (.meth true (.loc 106) 83 (.cons (.bin true .mod (.loc 139) (.loc 34)) .nil)))
  .nil) (.cons (.ite (.e (.cmp .eq (.loc 31) (.cst (.int 13)))) (.cons (.expr (.call true (.glob 175) (.cons (.loc 106) (.cons (.cst (.int 1)) (.cons (.idx (.loc 105) (.cst (.int 0))) (.cons (.cst (.str s_empty)) .nil))))))
  .nil) (.cons (.ite (.and (.cons (.e (.cmp .eq (.loc 31) (.cst (.int 14)))) (.cons (.e (.cmp .eq (.bin true .mod (.loc 139) (.cst (.int 3))) (.cst (.int 0)))) .nil))) (.cons (.expr (.call true (.glob 175) (.cons (.loc 106) (.cons (.cst (.int 2)) (.cons (.idx (.loc 105) (.bin true .mod (.bin true .fdiv (.loc 139) (.cst (.int 3))) (.call true (.glob 46) (.cons (.loc 105) .nil)))) (.cons (.cst (.str s_empty)) .nil))))))
  .nil) (.cons (.ite (.e (.cmp .eq (.loc 31) (.cst (.int 15)))) (.cons (.expr (.meth true (.loc 106) 85 .nil))
  .nil) .nil)
  .nil))
  .nil))
  .nil))
  .nil))
  .nil))
  .nil))
  .nil)))))⟩
noncomputable def L__law_right_1 : PSs := (.cons (.assign (.loc 153) (.idx (.loc 179) (.loc 25)))
  (.cons (.ite (.or (.cons (.not (.e (.call true (.glob 42) (.cons (.loc 153) (.cons (.glob 48) .nil))))) (.cons (.e (.cmp .isIn (.loc 153) (.sl true (.loc 179) .none (.some (.loc 25))))) (.cons (.e (.cmp .notIn (.idx (.loc 153) (.cst (.int 0))) (.loc 105))) .nil)))) (.cons (.ret (.some (.cst (.bool false))))
  .nil) .nil)
  (.cons (.ite (.or (.cons (.not (.e (.cmp2 .le .lt (.cst (.int 0)) (.idx (.loc 153) (.cst (.int 1))) (.call true (.glob 46) (.cons (.idx (.loc 136) (.idx (.loc 153) (.cst (.int 0)))) .nil))))) (.cons (.e (.cmp .ne (.idx (.loc 153) (.cst (.int 2))) (.idx (.idx (.loc 136) (.idx (.loc 153) (.cst (.int 0)))) (.idx (.loc 153) (.cst (.int 1)))))) .nil))) (.cons (.ret (.some (.cst (.bool false))))
  .nil) .nil)
  .nil)))
noncomputable def L__law_right_2 : PSs := (.cons (.ite (.or (.cons (.e (.cmp .ne (.sl true (.loc 179) .none (.some (.call true (.glob 46) (.cons (.idx (.loc 36) (.loc 25)) .nil)))) (.idx (.loc 36) (.loc 25)))) (.cons (.e (.cmp .ne (.sl true (.idx (.loc 36) (.loc 25)) .none (.some (.call true (.glob 46) (.cons (.idx (.loc 178) (.loc 25)) .nil)))) (.idx (.loc 178) (.loc 25)))) .nil))) (.cons (.ret (.some (.cst (.bool false))))
  .nil) .nil)
  (.cons (.ite (.or (.cons (.e (.cmp .isNot (.meth true (.loc 106) 99 (.cons (.idx (.loc 105) (.loc 25)) .nil)) (.cst (.bool false)))) (.cons (.e (.cmp .ne (.meth true (.loc 106) 97 (.cons (.idx (.loc 105) (.loc 25)) .nil)) (.tup (.cons (.cst (.int 0)) (.cons (.loc 105) .nil))))) .nil))) (.cons (.ret (.some (.cst (.bool false))))
  .nil) .nil)
  .nil))
noncomputable def L__law_right_3 : PSs := (.cons (.ite (.e (.cmp .gt (.call true (.glob 46) (.cons (.loc 38) .nil)) (.call true (.glob 46) (.cons (.loc 179) .nil)))) (.cons (.assign (.loc 179) (.loc 38))
  .nil) .nil)
  .nil)
noncomputable def F__law_right : Fn := ⟨[106, 105, 136, 178], (.cons (.assign (.loc 36) (.comp true (.meth true (.loc 106) 98 (.cons (.loc 29) .nil)) [29] (.loc 105) .none))
  (.cons (.assign (.loc 179) (.list true .nil))
  (.cons (.loop [38] (.loc 36) L__law_right_3)
  (.cons (.loop [25] (.call true (.glob 44) (.cons (.call true (.glob 46) (.cons (.loc 105) .nil)) .nil)) L__law_right_2)
  (.cons (.loop [25] (.call true (.glob 44) (.cons (.call true (.glob 46) (.cons (.loc 179) .nil)) .nil)) L__law_right_1)
  (.cons (.ret (.some (.cst (.bool true))))
  .nil))))))⟩
noncomputable def L_law_1 : PSs := (.cons (.assign (.idx (.loc 136) (.loc 29)) (.list false .nil))
  .nil)
noncomputable def L_law_2 : PSs := (.cons (.expr (.call true (.glob 177) (.cons (.loc 106) (.cons (.loc 137) (.cons (.loc 105) (.cons (.loc 136) .nil))))))
  (.cons (.ite (.not (.e (.call true (.glob 63) (.cons (.loc 106) (.cons (.loc 105) (.cons (.loc 136) (.cons (.loc 178) .nil))))))) (.cons (.ret (.some (.cst (.bool false))))
  .nil) .nil)
  (.cons (.assign (.loc 178) (.comp true (.call true (.glob 41) (.cons (.meth true (.loc 106) 98 (.cons (.loc 29) .nil)) .nil)) [29] (.loc 105) .none))
  .nil)))
noncomputable def S_law_0 : PS := (.assign (.loc 28) (.bin true .add (.cst (.int 1)) (.bin true .mod (.call true (.glob 9) (.cons (.loc 24) (.cons (.cst (.int 0)) .nil))) (.cst (.int 7)))))
noncomputable def S_law_1 : PS := (.assign (.loc 105) (.call true (.glob 11) (.cons (.bin true .add (.cst (.int 1)) (.call true (.glob 9) (.cons (.loc 24) (.cons (.cst (.int 1)) .nil)))) (.cons (.loc 28) .nil))))
noncomputable def S_law_2 : PS := (.ite (.e (.cmp .eq (.loc 105) (.list true .nil))) (.cons (.assign (.loc 105) (.list true (.cons (.bin true .sub (.loc 28) (.cst (.int 1))) .nil)))
  .nil) .nil)
noncomputable def S_law_3 : PS := (.assign (.loc 106) (.call true (.glob 60) (.cons (.loc 28) (.cons (.call true (.glob 41) (.cons (.loc 105) .nil)) .nil))))
noncomputable def S_law_4 : PS := (.assign (.loc 136) (.dict .nil))
noncomputable def S_law_5 : PS := (.loop [29] (.loc 105) L_law_1)
noncomputable def S_law_6 : PS := (.assign (.loc 178) (.comp true (.list true .nil) [29] (.loc 105) .none))
noncomputable def S_law_7 : PS := (.loop [137] (.sl true (.loc 24) (.some (.cst (.int 2))) (.some (.cst (.int 62)))) L_law_2)
noncomputable def S_law_8 : PS := (.expr (.call true (.glob 175) (.cons (.loc 106) (.cons (.cst (.int 1)) (.cons (.idx (.loc 105) (.cst (.int 0))) (.cons (.cst (.str s_empty)) .nil))))))
noncomputable def S_law_9 : PS := (.expr (.meth true (.loc 106) 85 .nil))
noncomputable def S_law_10 : PS := (.assign (.loc 140) (.comp true (.loc 29) [29] (.loc 105) (.some (.e (.meth true (.loc 106) 96 (.cons (.loc 29) .nil))))))
noncomputable def S_law_11 : PS := (.ite (.or (.cons (.not (.e (.call true (.glob 63) (.cons (.loc 106) (.cons (.loc 105) (.cons (.loc 136) (.cons (.loc 178) .nil))))))) (.cons (.e (.cmp .notIn (.idx (.loc 105) (.cst (.int 0))) (.loc 140))) (.cons (.e (.cmp .le (.bin true .mul (.cst (.int 2)) (.call true (.glob 46) (.cons (.loc 140) .nil))) (.call true (.glob 46) (.cons (.loc 105) .nil)))) .nil)))) (.cons (.ret (.some (.call true (.glob 63) (.cons (.loc 106) (.cons (.loc 105) (.cons (.loc 136) (.cons (.loc 178) .nil)))))))
  .nil) .nil)
noncomputable def S_law_12 : PS := (.ret (.some (.cmp .eq (.comp true (.meth true (.loc 106) 98 (.cons (.loc 29) .nil)) [29] (.loc 140) .none) (.bin true .mul (.list true (.cons (.meth true (.loc 106) 98 (.cons (.idx (.loc 105) (.cst (.int 0))) .nil)) .nil)) (.call true (.glob 46) (.cons (.loc 140) .nil))))))
noncomputable def F_law : Fn := ⟨[24], (.cons S_law_0 (.cons S_law_1 (.cons S_law_2 (.cons S_law_3 (.cons S_law_4 (.cons S_law_5 (.cons S_law_6 (.cons S_law_7 (.cons S_law_8 (.cons S_law_9 (.cons S_law_10 (.cons S_law_11 (.cons S_law_12 .nil)))))))))))))⟩
noncomputable def tb : Tb where
  nms := [(0, "append"), (1, "pop"), (2, "extend"), (3, "get"), (4, "setdefault"), (5, "whole"), (6, "enough"), (7, "is_list"), (9, "_law_draw"), (11, "_law_hands"), (14, "law"), (16, "thing"), (17, "members"), (18, "many"), (19, "ahead"), (20, "hand"), (23, "row"), (24, "_law_script"), (25, "_law_k"), (26, "_law_found"), (27, "_law_bits"), (28, "_law_many"), (29, "_law_hand"), (31, "_law_way"), (34, "_law_count"), (36, "_law_rows"), (38, "_law_row"), (41, "list"), (42, "isinstance"), (43, "int"), (44, "range"), (46, "len"), (47, "bool"), (48, "tuple"), (51, "FolkError"), (52, "BadHand"), (53, "BadList"), (54, "NoLetter"), (55, "Fallen"), (56, "Outside"), (57, "NotFirst"), (59, "Hand"), (60, "Folk"), (63, "_law_right"), (65, "__init__"), (66, "begin"), (67, "goes_into"), (68, "others"), (69, "held_by_enough"), (71, "MOST"), (72, "hand_of"), (73, "able"), (74, "inside"), (75, "send"), (76, "say"), (77, "press"), (80, "fall"), (81, "letter_at"), (82, "lose"), (83, "double"), (84, "come"), (85, "calm"), (86, "taken_up"), (87, "wished"), (88, "held"), (89, "look"), (90, "prepared"), (91, "promised"), (92, "accepted"), (93, "agreed_to"), (94, "entered"), (95, "letters"), (96, "stands"), (97, "list_of"), (98, "taken"), (99, "is_still"), (105, "_law_first"), (106, "_law_folk"), (108, "self"), (109, "number"), (110, "place"), (111, "highest"), (112, "said"), (113, "up"), (114, "gone"), (115, "news"), (116, "took"), (117, "still"), (118, "ballot"), (119, "agreed"), (120, "offer"), (121, "holds"), (122, "first"), (123, "hands"), (124, "under"), (125, "one"), (126, "word"), (127, "to"), (128, "content"), (130, "sender"), (131, "message"), (132, "_law_some"), (134, "letter"), (135, "_law_word"), (136, "_law_said"), (137, "_law_cell"), (138, "_law_word_here"), (139, "_law_more"), (140, "_law_up"), (143, "counts"), (150, "sorted"), (151, "max"), (153, "_law_message"), (154, "min"), (174, "enumerate"), (175, "_law_tried"), (176, "_law_some_come"), (177, "_law_deed"), (178, "_law_before"), (179, "_law_best")].map fun x => (x.1, Str.ofString x.2)
  fns := [(5, .g "whole", F_whole),
    (6, .g "enough", F_enough),
    (7, .g "is_list", F_is_list),
    (237, .m "Hand" "__init__", F_Hand___init__),
    (238, .m "Hand" "begin", F_Hand_begin),
    (239, .m "Hand" "goes_into", F_Hand_goes_into),
    (240, .m "Hand" "others", F_Hand_others),
    (241, .m "Hand" "held_by_enough", F_Hand_held_by_enough),
    (243, .m "Folk" "__init__", F_Folk___init__),
    (244, .m "Folk" "hand_of", F_Folk_hand_of),
    (245, .m "Folk" "able", F_Folk_able),
    (246, .m "Folk" "inside", F_Folk_inside),
    (247, .m "Folk" "send", F_Folk_send),
    (248, .m "Folk" "say", F_Folk_say),
    (269, .m "Folk" "press", F_Folk_press),
    (249, .m "Folk" "fall", F_Folk_fall),
    (250, .m "Folk" "letter_at", F_Folk_letter_at),
    (272, .m "Folk" "lose", F_Folk_lose),
    (273, .m "Folk" "double", F_Folk_double),
    (251, .m "Folk" "come", F_Folk_come),
    (252, .m "Folk" "calm", F_Folk_calm),
    (253, .m "Folk" "taken_up", F_Folk_taken_up),
    (254, .m "Folk" "wished", F_Folk_wished),
    (255, .m "Folk" "held", F_Folk_held),
    (256, .m "Folk" "look", F_Folk_look),
    (262, .m "Folk" "letters", F_Folk_letters),
    (263, .m "Folk" "stands", F_Folk_stands),
    (264, .m "Folk" "list_of", F_Folk_list_of),
    (265, .m "Folk" "taken", F_Folk_taken),
    (266, .m "Folk" "is_still", F_Folk_is_still),
    (9, .g "_law_draw", F__law_draw),
    (11, .g "_law_hands", F__law_hands),
    (135, .g "_law_word", F__law_word),
    (175, .g "_law_tried", F__law_tried),
    (176, .g "_law_some_come", F__law_some_come),
    (177, .g "_law_deed", F__law_deed),
    (63, .g "_law_right", F__law_right),
    (14, .g "law", F_law)]
  globs := [(5, .fn 5), (6, .fn 6), (7, .fn 7), (9, .fn 9), (11, .fn 11), (135, .fn 135), (175, .fn 175), (176, .fn 176), (177, .fn 177), (63, .fn 63), (14, .fn 14), (59, .cls 59), (60, .cls 60), (51, .cls 51), (52, .cls 52), (53, .cls 53), (54, .cls 54), (55, .cls 55), (56, .cls 56), (57, .cls 57), (71, .int 9), (43, .bt .int), (47, .bt .bool), (41, .bt .list), (48, .bt .tuple), (44, .bt .range), (174, .bt .enumerate), (46, .bt .len), (42, .bt .isinstance), (151, .bt .max), (154, .bt .min), (150, .bt .sorted)]
  clss := [(59, "Hand", ⟨some 237, [(66, 238), (67, 239), (68, 240), (69, 241)], [109, 110, 111, 17, 112, 113, 114, 115, 23, 116, 117, 118, 119, 120, 121]⟩),
    (60, "Folk", ⟨some 243, [(72, 244), (73, 245), (74, 246), (75, 247), (76, 248), (77, 269), (80, 249), (81, 250), (82, 272), (83, 273), (84, 251), (85, 252), (86, 253), (87, 254), (88, 255), (89, 256), (95, 262), (96, 263), (97, 264), (98, 265), (99, 266)], [18, 123, 124]⟩)]
  excs := [(51, "FolkError"), (52, "BadHand"), (53, "BadList"), (54, "NoLetter"), (55, "Fallen"), (56, "Outside"), (57, "NotFirst")]
  subs := [(51, 51), (52, 51), (52, 52), (53, 51), (53, 53), (54, 51), (54, 54), (55, 51), (55, 55), (56, 51), (56, 56), (57, 51), (57, 57)]
  quiet := []
  qg := []
  nAppend := 0
  nPop := 1
  nExtend := 2
  nGet := 3
  nSetdefault := 4
end Mine

end

section
set_option autoImplicit false
set_option linter.all false
set_option genSizeOf false
set_option genInjectivity false
namespace Mine
open PySem (Str)
/-! Methods, run on the folk's cells 0 (the folk), 1 (the letters), 2 (a hand), r. -/
theorem need_ii {α : Type} {o : Option α} {a : α} {k : α → Prop} (e : o = some a) (h : k a) : need o k := by subst e; exact h
theorem Br_y {b : Bool} {t e : Prop} (q : b = true) (h : t) : Br b t e := by subst q; exact h
theorem Br_n {b : Bool} {t e : Prop} (q : b = false) (h : e) : Br b t e := by subst q; exact h
theorem Br_b {b : Bool} {t e : Prop} (h1 : b = true → t) (h2 : b = false → e) : Br b t e := by
  cases b with
  | true => exact h1 rfl
  | false => exact h2 rfl
section
variable {P : Prog} {n : Nat} {Q : V → Hp → Prop} {E : Nat → Hp → Prop}
/-- a call, run -/
theorem call_i {f : Nat} {as : List V} {H : Hp} (ps : List Nat) (body : PSs) (m : Loc) (hf : P.fn f = some ⟨ps, body⟩) (hb : bindP ps as (fun _ => none) = some m) (h : wpSs P (CW P n) body ⟨H, m⟩ (fun fl σ => Q (retV fl) σ.H) fun e σ => E e σ.H) : CW P (n + 1) f as H Q E :=
  .run (need_ii hf (need_ii hb h))
end
noncomputable def folkC (m : V) (hs : List V) : C := .inst 60 [(18, m), (123, .lst hs), (124, .ref 1)]
noncomputable def ltr (w : Str) (a p c : V) (t : V) : V := .tup [.str w, a, t, p, c]
section
variable {n : Nat} {m : V} {hs u : List V} {k : Nat} {fs : List (Nat × V)} {r : List (Option C)} {Q : V → Hp → Prop} {E : Nat → Hp → Prop}
theorem f247 : tb.P.fn 247 = some ⟨[108, 126, 125, 127, 128], .cons (.loop [20] (.loc 127) L_Folk_send_1) .nil⟩ := by kernel_rfl
theorem send_turn (K : CT) (w : Str) (c a p v : V) (lo : Loc) (Q : Flow → St → Prop) (E : EP) (h1 : lo 108 = some (.ref 0)) (h2 : lo 126 = some (.str w)) (h3 : lo 125 = some (.ref 2)) (h4 : lo 128 = some c) (g1 : lk fs 109 = some a) (g2 : lk fs 110 = some p) (hu : u.length < SZ)
    (h : Q .next ⟨⟨some (folkC m hs) :: some (.list (u ++ [ltr w a p c v])) :: some (.inst k fs) :: r⟩, upd lo 20 v⟩) :
    wpSs tb.P K L_Folk_send_1 ⟨⟨some (folkC m hs) :: some (.list u) :: some (.inst k fs) :: r⟩, upd lo 20 v⟩ Q E := by
  refine need_ii (o := lo 108) h1 ?_
  refine ⟨rfl, ?_⟩
  refine need_ii (o := lo 126) h2 ?_
  refine need_ii (o := lo 125) h3 ?_
  refine need_ii (o := lk fs 109) g1 ?_
  refine need_ii (o := lo 125) h3 ?_
  refine need_ii (o := lk fs 110) g2 ?_
  refine need_ii (o := lo 128) h4 ?_
  exact ⟨Nat.le_of_ble_eq_true rfl, hu, h⟩
/-- the loop of send -/
theorem send_loop (K : CT) (w : Str) (c a p : V) (to : List V) (Q : Flow → St → Prop) (g1 : lk fs 109 = some a) (g2 : lk fs 110 = some p) : ∀ (vs u : List V) (lo : Loc), lo 108 = some (.ref 0) → lo 126 = some (.str w) → lo 125 = some (.ref 2) → lo 128 = some c → u.length + vs.length ≤ SZ →
    (∀ lo', Q .next ⟨⟨some (folkC m hs) :: some (.list (u ++ vs.map (ltr w a p c))) :: some (.inst k fs) :: r⟩, lo'⟩) →
    loopGo (fun v σ₂ k => bindT [20] v σ₂ fun σ₃ => wpSs tb.P K L_Folk_send_1 σ₃ k noE) (still (.lst to) to) vs ⟨⟨some (folkC m hs) :: some (.list u) :: some (.inst k fs) :: r⟩, lo⟩ Q
  | [], u, lo, h1, h2, h3, h4, hz, h => by
    have h := h lo
    rw [List.map_nil, List.append_nil] at h
    exact ⟨rfl, h⟩
  | v :: vs, u, lo, h1, h2, h3, h4, hz, h => by
    rw [List.length_cons] at hz
    refine ⟨rfl, send_turn K w c a p v lo _ _ h1 h2 h3 h4 g1 g2 (by omega) ?_⟩
    refine send_loop K w c a p to Q g1 g2 vs (u ++ [ltr w a p c v]) (upd lo 20 v) h1 h2 h3 h4 (by rw [List.length_append]; show u.length + 1 + _ ≤ _; omega) fun lo' => ?_
    have h := h lo'
    rw [List.map_cons, List.append_cons] at h
    exact h
theorem send_w {w : Str} {to : List V} {c a p : V} (g1 : lk fs 109 = some a) (g2 : lk fs 110 = some p) (hz : u.length + to.length ≤ SZ) (h : Q .none ⟨some (folkC m hs) :: some (.list (u ++ to.map (ltr w a p c))) :: some (.inst k fs) :: r⟩) :
    CW tb.P (n + 1) 247 [.ref 0, .str w, .ref 2, .lst to, c] ⟨some (folkC m hs) :: some (.list u) :: some (.inst k fs) :: r⟩ Q E :=
  call_i _ _ _ f247 rfl (send_loop (CW tb.P n) w c a p to _ g1 g2 to u _ rfl rfl rfl rfl hz fun lo' => h)
end
end Mine

end

section
set_option autoImplicit false
set_option linter.all false
set_option genSizeOf false
set_option genInjectivity false
namespace Mine
open PySem (Str)
/-! The folk, plainly. -/
structure Msg where
  h : Int
  n : Int
  w : Str
noncomputable def Msg.v (m : Msg) : V := .tup [.int m.h, .int m.n, .str m.w]
noncomputable def iV (l : List Int) : List V := l.map .int
noncomputable def mV (l : List Msg) : List V := l.map Msg.v
noncomputable def hoV (l : List (Int × Int)) : List (V × V) := l.map fun x => (.int x.1, .int x.2)
theorem iV_len (l : List Int) : (iV l).length = l.length := List.length_map ..
theorem mV_len (l : List Msg) : (mV l).length = l.length := List.length_map ..
inductive Cont where
  | wish (m : Msg)
  | hold (m : Msg) (p : Int)
  | have_ (n : Int)
  | take (n : Int)
structure Letter where
  from_ : Int
  to : Int
  c : Cont
noncomputable def Cont.word : Cont → Str
  | .wish _ => s_wish
  | .hold _ _ => s_hold
  | .have_ _ => s_have
  | .take _ => s_take
noncomputable def Cont.v : Cont → V
  | .wish m => m.v
  | .hold m p => .tup [m.v, .int p]
  | .have_ n => .int n
  | .take n => .int n
noncomputable def Letter.v (l : Letter) : V := .tup [.str l.c.word, .int l.from_, .int l.to, .int 0, l.c.v]
noncomputable def lV (l : List Letter) : List V := l.map Letter.v
theorem lV_len (l : List Letter) : (lV l).length = l.length := List.length_map ..
/-- what changes of a hand -/
structure H7 where
  said : Int
  up : Bool
  row : List Msg
  took : Int
  holds : List (Int × Int)
noncomputable def hF (k : Int) (fi : List Int) (x : H7) : List (Nat × V) := [(109, .int k), (110, .int 0), (111, .int 0), (17, .lst (iV fi)), (112, .int x.said), (113, .bool x.up), (114, .ref 5), (115, .none), (23, .ref 3), (116, .int x.took), (117, .bool false), (118, .tup [.int 0, .int (-1)]), (119, .none), (120, .none), (121, .ref 4)]
noncomputable def f7 (m : V) (hs : List V) (U : List Letter) (k : Int) (fi : List Int) (x : H7) (g : List (Option C)) : List (Option C) :=
  some (folkC m hs) :: some (.list (lV U)) :: some (.inst 59 (hF k fi x)) :: some (.list (mV x.row)) :: some (.dict (hoV x.holds)) :: none :: none :: none :: none :: none :: none :: none :: none :: none :: none :: none :: g
/-- the others -/
noncomputable def oth (n : Int) (ms : List Int) : List Int := ms.filter fun x => !decide (x = n)
theorem oth_len (n : Int) (a : List Int) : (oth n a).length ≤ a.length := List.length_filter_le ..
section
variable {n : Nat} {Q : V → Hp → Prop} {E : Nat → Hp → Prop}
abbrev othT : PC := .e (.cmp .ne (.loc 20) (.attr (.loc 108) 109))
theorem f240 : tb.P.fn 240 = some ⟨[108], .cons (.ret (.some (.comp true (.loc 20) [20] (.attr (.loc 108) 17) (.some othT)))) .nil⟩ := by kernel_rfl
theorem oth_comp (K : CT) {a b : Option C} {fs : List (Nat × V)} {r : List (Option C)} {k : Int} (g2 : lk fs 109 = some (.int k)) (ms : List V) (Q : List V → St → Prop) : ∀ (xs acc : List Int) (lo : Loc), lo 108 = some (.ref 2) → acc.length + xs.length ≤ SZ → (∀ lo', Q (iV (acc ++ oth k xs)) ⟨⟨a :: b :: some (.inst 59 fs) :: r⟩, lo'⟩) →
    compGo (fun σ₂ k => wpC tb.P K noE (.some othT) σ₂ k) (fun σ₂ k => wpE tb.P K noE (.loc 20) σ₂ k) [20] (still (.lst ms) ms) (iV xs) (iV acc) ⟨⟨a :: b :: some (.inst 59 fs) :: r⟩, lo⟩ Q
  | [], acc, lo, h1, hz, h => by
    have h := h lo
    rw [show oth k [] = [] from rfl, List.append_nil] at h
    exact ⟨rfl, by rw [iV_len]; exact hz, h⟩
  | x :: xs, acc, lo, h1, hz, h => by
    rw [List.length_cons] at hz
    refine ⟨rfl, by rw [iV_len]; omega, ?_⟩
    refine need_ii (o := lo 108) h1 ?_
    refine need_ii (o := lk fs 109) g2 ?_
    refine Br_b (fun c => ?_) fun c => ?_
    · have c : decide (x = k) = false := by have c : (!decide (x = k)) = true := c; cases q : decide (x = k) with | false => rfl | true => rw [q] at c; cases c
      have e : iV acc ++ [.int x] = iV (acc ++ [x]) := by unfold iV; rw [List.map_append]; rfl
      show compGo _ _ [20] _ (iV xs) (iV acc ++ [.int x]) ⟨_, upd lo 20 (.int x)⟩ Q
      rw [e]
      refine oth_comp K g2 ms Q xs (acc ++ [x]) _ h1 (by rw [List.length_append]; show acc.length + 1 + _ ≤ _; omega) fun lo' => ?_
      have h := h lo'
      rw [show oth k (x :: xs) = x :: oth k xs by unfold oth; rw [List.filter_cons, c]; rfl, List.append_cons] at h
      exact h
    · have c : decide (x = k) = true := by have c : (!decide (x = k)) = false := c; cases q : decide (x = k) with | true => rfl | false => rw [q] at c; cases c
      refine oth_comp K g2 ms Q xs acc _ h1 (by omega) fun lo' => ?_
      have h := h lo'
      rw [show oth k (x :: xs) = oth k xs by unfold oth; rw [List.filter_cons, c]; rfl] at h
      exact h
theorem oth_w {a b : Option C} {fs : List (Nat × V)} {r : List (Option C)} {k : Int} {ms : List Int} (g1 : lk fs 17 = some (.lst (iV ms))) (g2 : lk fs 109 = some (.int k)) (hz : ms.length ≤ SZ) (h : Q (.lst (iV (oth k ms))) ⟨a :: b :: some (.inst 59 fs) :: r⟩) :
    CW tb.P (n + 1) 240 [.ref 2] ⟨a :: b :: some (.inst 59 fs) :: r⟩ Q E := by
  refine call_i _ _ _ f240 rfl ?_
  refine need_ii (o := lk fs 17) g1 ?_
  refine oth_comp (CW tb.P n) g2 (iV ms) _ ms [] _ rfl (by rw [show ([] : List Int).length = 0 from rfl, Nat.zero_add]; exact hz) fun lo' => ?_
  exact ⟨by rw [List.nil_append, iV_len]; exact Nat.le_trans (oth_len k ms) hz, h⟩
end
end Mine

end

section
set_option autoImplicit false
set_option linter.all false
set_option genSizeOf false
set_option genInjectivity false
namespace Mine
open PySem (Str)
/-- what a hand is known to hold -/
noncomputable def hoD : List (Int × Int) → Int → Int
  | [], _ => 0
  | p :: r, x => cond (decide (p.1 = x)) p.2 (hoD r x)
theorem keyOk_ho (hd : List (Int × Int)) (x : Int) : keyOk (dKeys (hoV hd)) (.int x) = true := by
  have : ∀ hd : List (Int × Int), (dKeys (hoV hd)).all isI = true := fun hd => by
    induction hd with
    | nil => rfl
    | cons p r ih => exact ih
  exact this hd
theorem dGet_ho (x : Int) : ∀ hd : List (Int × Int), (dGet (hoV hd) (.int x)).getD (.int 0) = .int (hoD hd x)
  | [] => rfl
  | p :: r => by
    show Option.getD (cond (decide (p.1 = x)) (some (V.int p.2)) (dGet (hoV r) (.int x))) _ = .int (cond (decide (p.1 = x)) p.2 (hoD r x))
    cases decide (p.1 = x) with
    | true => rfl
    | false => exact dGet_ho x r
theorem intsOf_iV : ∀ l : List Int, intsOf (iV l) = some l
  | [] => rfl
  | x :: r => by
    show (match intsOf (iV r) with | some l => some (x :: l) | none => none) = _
    rw [intsOf_iV r]
/-- the counts that the first hand looks at -/
noncomputable def cnts (n : Int) (ms : List Int) (len : Nat) (hd : List (Int × Int)) : List Int := (len : Int) :: (oth n ms).map (hoD hd)
noncomputable def hbe (n : Int) (ms : List Int) (len : Nat) (hd : List (Int × Int)) : Int := ((srt (cnts n ms len hd)).reverse)[ms.length / 2]?.getD 0
theorem half_idx (n : Nat) : Int.fdiv (n : Int) 2 + 1 - 1 = ((n / 2 : Nat) : Int) := by
  have : Int.fdiv (n : Int) 2 = ((n / 2 : Nat) : Int) := by rw [Int.fdiv_eq_ediv_of_nonneg _ (by decide)]; rfl
  omega
theorem ins_len (x : Int) : ∀ l : List Int, (ins x l).length = l.length + 1
  | [] => rfl
  | y :: r => by
    show (if x ≤ y then x :: y :: r else y :: ins x r).length = _
    by_cases h : x ≤ y
    · rw [if_pos h]; rfl
    · rw [if_neg h]; exact congrArg (· + 1) (ins_len x r)
theorem srt_len : ∀ l : List Int, (srt l).length = l.length
  | [] => rfl
  | x :: r => (ins_len x _).trans (congrArg (· + 1) (srt_len r))
theorem pyIdx_nat {i n : Nat} (h : i < n) : pyIdx (i : Int) n = some i := by
  unfold pyIdx
  rw [if_pos (Int.natCast_nonneg i), if_pos (Int.ofNat_lt.mpr h)]; rfl
section
variable {n : Nat} {m : V} {hs : List V} {U : List Letter} {k : Int} {fi : List Int} {x : H7} {Q : V → Hp → Prop} {E : Nat → Hp → Prop}
theorem f6 : tb.P.fn 6 = some F_enough := by kernel_rfl
theorem enough_w {H : Hp} {l : List V} (h : Q (.int (Int.fdiv (l.length : Int) 2 + 1)) H) : CW tb.P (n + 1) 6 [.lst l] H Q E :=
  call_i _ _ _ f6 rfl ⟨⟨by decide, by decide⟩, h⟩
theorem f241 : tb.P.fn 241 = some F_Hand_held_by_enough := by kernel_rfl
theorem hbe_loop (K : CT) (to : List V) (len : Int) (Q : Flow → St → Prop) : ∀ (vs acc : List Int) (lo : Loc), lo 143 = some (.ref 16) → lo 108 = some (.ref 2) → acc.length + vs.length + 1 ≤ SZ →
    (∀ lo' : Loc, lo' 143 = some (.ref 16) → lo' 108 = some (.ref 2) → Q .next ⟨⟨f7 m hs U k fi x [some (.list (iV (len :: (acc ++ vs).map (hoD x.holds))))]⟩, lo'⟩) →
    loopGo (fun v σ₂ k => bindT [20] v σ₂ fun σ₃ => wpSs tb.P K L_Hand_held_by_enough_1 σ₃ k noE) (still (.lst to) to) (iV vs) ⟨⟨f7 m hs U k fi x [some (.list (iV (len :: acc.map (hoD x.holds))))]⟩, lo⟩ Q
  | [], acc, lo, h1, h2, hz, h => by
    have h := h lo h1 h2
    rw [List.append_nil] at h
    exact ⟨rfl, h⟩
  | v :: vs, acc, lo, h1, h2, hz, h => by
    rw [List.length_cons] at hz
    refine ⟨rfl, ?_⟩
    refine need_ii (o := lo 143) h1 ?_
    refine ⟨rfl, ?_⟩
    refine need_ii (o := lo 108) h2 ?_
    refine ⟨rfl, ?_⟩
    refine ⟨keyOk_ho x.holds v, ?_⟩
    refine ⟨?_, ?_⟩
    · show (iV (len :: acc.map (hoD x.holds))).length < SZ
      rw [iV_len, List.length_cons, List.length_map]; omega
    · show loopGo _ _ (iV vs) ⟨⟨f7 m hs U k fi x [some (.list (iV (len :: acc.map (hoD x.holds)) ++ [(dGet (hoV x.holds) (.int v)).getD (.int 0)]))]⟩, upd lo 20 (.int v)⟩ Q
      rw [dGet_ho, show iV (len :: acc.map (hoD x.holds)) ++ [.int (hoD x.holds v)] = iV (len :: (acc ++ [v]).map (hoD x.holds)) by unfold iV; rw [List.map_append, List.map_cons, List.map_cons, List.map_append]; rfl]
      refine hbe_loop K to len Q vs (acc ++ [v]) _ h1 h2 (by rw [List.length_append]; show acc.length + 1 + _ + 1 ≤ _; omega) fun lo' q1 q2 => ?_
      have h := h lo' q1 q2
      rw [List.append_cons] at h
      exact h
theorem hbe_w (hz : fi.length ≤ 50) (hn : fi.length / 2 < (oth k fi).length + 1) (h : Q (.int (hbe k fi x.row.length x.holds)) ⟨f7 m hs U k fi x [some (.list (iV (cnts k fi x.row.length x.holds)))]⟩) :
    CW tb.P (n + 2) 241 [.ref 2] ⟨f7 m hs U k fi x []⟩ Q E := by
  have lo := oth_len k fi
  refine call_i _ _ _ f241 rfl ?_
  refine ⟨Nat.le_of_ble_eq_true rfl, ?_⟩
  refine oth_w (ms := fi) (k := k) rfl rfl (by unfold SZ; omega) ?_
  show loopGo _ (still (.lst (iV (oth k fi))) (iV (oth k fi))) (iV (oth k fi)) ⟨⟨f7 m hs U k fi x [some (.list [.int (mV x.row).length])]⟩, _⟩ _
  rw [mV_len]
  refine hbe_loop (CW tb.P (n + 1)) (iV (oth k fi)) x.row.length _ (oth k fi) [] _ rfl rfl (by show 0 + _ + 1 ≤ SZ; unfold SZ; omega) fun lo' h1 h2 => ?_
  have ln : (cnts k fi x.row.length x.holds).length = (oth k fi).length + 1 := congrArg (· + 1) (List.length_map ..)
  refine ⟨rfl, ?_⟩
  refine need_ii (o := lo' 143) h1 ?_
  refine need_ii (o := intsOf (iV (cnts k fi x.row.length x.holds))) (intsOf_iV _) ?_
  refine ⟨by rw [ln]; omega, ?_⟩
  refine ⟨by rw [List.length_map, List.length_reverse, srt_len, ln]; unfold SZ; omega, ?_⟩
  refine need_ii (o := lo' 108) h2 ?_
  refine enough_w ?_
  have hl' : fi.length / 2 < (srt (cnts k fi x.row.length x.holds)).reverse.length := by rw [List.length_reverse, srt_len, ln]; exact hn
  have hl : fi.length / 2 < ((srt (cnts k fi x.row.length x.holds)).reverse.map V.int).length := by rw [List.length_map]; exact hl'
  refine need_ii (o := pyIdx (Int.fdiv ((iV fi).length : Int) 2 + 1 - 1) ((srt (cnts k fi x.row.length x.holds)).reverse.map V.int).length) (a := fi.length / 2) (by rw [iV_len, half_idx]; exact pyIdx_nat hl) ?_
  refine need_ii (o := ((srt (cnts k fi x.row.length x.holds)).reverse.map V.int)[fi.length / 2]?) (a := .int (hbe k fi x.row.length x.holds)) ?_ h
  rw [List.getElem?_map, List.getElem?_eq_getElem hl']
  unfold hbe
  rw [List.getElem?_eq_getElem hl']; rfl
end
end Mine

end

section
set_option autoImplicit false
set_option linter.all false
set_option genSizeOf false
set_option genInjectivity false
set_option maxRecDepth 20000
namespace Mine
open PySem (Str)
theorem lV_send {U : List Letter} {n : Int} {ts : List Int} {c : Cont} : lV U ++ (iV ts).map (ltr c.word (.int n) (.int 0) c.v) = lV (U ++ ts.map fun t => ⟨n, t, c⟩) := by
  unfold lV iV
  rw [List.map_append, List.map_map, List.map_map]; rfl
/-- the first hand looks what enough hold -/
noncomputable def lookF (k : Int) (fi : List Int) (x : H7) (U : List Letter) : H7 × List Letter := match decide (x.took < hbe k fi x.row.length x.holds) with
  | true => ({ x with took := hbe k fi x.row.length x.holds }, U ++ (oth k fi).map fun t => ⟨k, t, .take (hbe k fi x.row.length x.holds)⟩)
  | false => (x, U)
/-- a message is there -/
noncomputable def hasM (row : List Msg) (m : Msg) : Bool := (mV row).any fun z => eqD z m.v
theorem mV_deep {H : Hp} : ∀ row : List Msg, deepL (deepN H 11) (mV row) = some (mV row)
  | [] => rfl
  | m :: r => by
    show (match some m.v with | some y => (match deepL (deepN H 11) (mV r) with | some ys => some (y :: ys) | none => none) | none => none) = _
    rw [mV_deep r]; rfl
section
variable {n : Nat} {m : V} {hs : List V} {U : List Letter} {k : Int} {fi : List Int} {x : H7} {Q : V → Hp → Prop} {E : Nat → Hp → Prop}
theorem f256 : tb.P.fn 256 = some F_Folk_look := by kernel_rfl
theorem look_w (hz : fi.length ≤ 50) (hn : fi.length / 2 < (oth k fi).length + 1) (hU : U.length + 50 ≤ SZ) (h : ∀ g, Q .none ⟨f7 m hs (lookF k fi x U).2 k fi (lookF k fi x U).1 g⟩) :
    CW tb.P (n + 3) 256 [.ref 0, .ref 2] ⟨f7 m hs U k fi x []⟩ Q E := by
  have lo := oth_len k fi
  unfold lookF at h
  refine call_i _ _ _ f256 rfl ?_
  refine hbe_w hz hn ?_
  refine Br_b (b := decide (x.took < hbe k fi x.row.length x.holds)) (fun c => ?_) fun c => ?_
  · rw [c] at h
    refine ⟨rfl, Nat.le_of_ble_eq_true rfl, ?_⟩
    refine oth_w (ms := fi) (k := k) rfl rfl (by unfold SZ; omega) ?_
    refine send_w (a := .int k) (p := .int 0) rfl rfl (by rw [lV_len, iV_len]; omega) ?_
    have h := h [some (.list (iV (cnts k fi x.row.length x.holds)))]
    have e := lV_send (U := U) (n := k) (ts := oth k fi) (c := .take (hbe k fi x.row.length x.holds))
    have h : Q .none ⟨some (folkC m hs) :: some (.list (lV (U ++ (oth k fi).map fun t => ⟨k, t, .take (hbe k fi x.row.length x.holds)⟩))) :: _⟩ := h
    rw [← e] at h
    exact h
  · rw [c] at h
    exact h _
theorem f254 : tb.P.fn 254 = some F_Folk_wished := by kernel_rfl
theorem wish_old {mm : Msg} (hh : hasM x.row mm = true) (h : Q .none ⟨f7 m hs U k fi x []⟩) : CW tb.P (n + 1) 254 [.ref 0, .ref 2, mm.v] ⟨f7 m hs U k fi x []⟩ Q E := by
  refine call_i _ _ _ f254 rfl ?_
  refine need_ii (o := deepL (deepN _ 11) (mV x.row)) (mV_deep x.row) ?_
  exact Br_y (b := hasM x.row mm) hh h
theorem wish_new {mm : Msg} (hh : hasM x.row mm = false) (hz : fi.length ≤ 50) (hn : fi.length / 2 < (oth k fi).length + 1) (hU : U.length + 100 ≤ SZ) (hr : x.row.length < SZ)
    (h : ∀ g, Q .none ⟨f7 m hs (lookF k fi { x with row := x.row ++ [mm] } (U ++ (oth k fi).map fun t => ⟨k, t, .hold mm x.row.length⟩)).2 k fi (lookF k fi { x with row := x.row ++ [mm] } (U ++ (oth k fi).map fun t => ⟨k, t, .hold mm x.row.length⟩)).1 g⟩) :
    CW tb.P (n + 4) 254 [.ref 0, .ref 2, mm.v] ⟨f7 m hs U k fi x []⟩ Q E := by
  have lo := oth_len k fi
  have eA : lV U ++ (iV (oth k fi)).map (ltr s_hold (.int k) (.int 0) (.tup [mm.v, .int (((mV x.row ++ [mm.v]).length : Int) - 1)])) = lV (U ++ (oth k fi).map fun t => ⟨k, t, .hold mm x.row.length⟩) := by
    rw [show (((mV x.row ++ [mm.v]).length : Int) - 1) = x.row.length by rw [List.length_append, mV_len]; show ((x.row.length + 1 : Nat) : Int) - 1 = _; omega]
    exact lV_send (c := .hold mm x.row.length)
  have eB : mV x.row ++ [mm.v] = mV (x.row ++ [mm]) := by unfold mV; rw [List.map_append]; rfl
  refine call_i _ _ _ f254 rfl ?_
  refine need_ii (o := deepL (deepN _ 11) (mV x.row)) (mV_deep x.row) ?_
  refine Br_n (b := hasM x.row mm) hh ?_
  refine ⟨rfl, by rw [mV_len]; exact hr, ?_⟩
  refine oth_w (ms := fi) (k := k) rfl rfl (by unfold SZ; omega) ?_
  refine ⟨Nat.le_of_ble_eq_true rfl, ?_⟩
  refine send_w (a := .int k) (p := .int 0) rfl rfl (by rw [lV_len, iV_len]; omega) ?_
  show CW tb.P (n + 3) 256 [.ref 0, .ref 2] ⟨some (folkC m hs) :: some (.list (lV U ++ (iV (oth k fi)).map (ltr s_hold (.int k) (.int 0) (.tup [mm.v, .int (((mV x.row ++ [mm.v]).length : Int) - 1)])))) :: some (.inst 59 (hF k fi x)) :: some (.list (mV x.row ++ [mm.v])) :: some (.dict (hoV x.holds)) :: none :: none :: none :: none :: none :: none :: none :: none :: none :: none :: none :: []⟩ _ _
  rw [eA, eB]
  exact look_w (x := { x with row := x.row ++ [mm] }) hz hn (by rw [List.length_append, List.length_map]; omega) h
end
end Mine

end

section
set_option autoImplicit false
set_option linter.all false
set_option genSizeOf false
set_option genInjectivity false
set_option maxRecDepth 20000
namespace Mine
open PySem (Str)
noncomputable def mx (a b : Int) : Int := if b > a then b else a
noncomputable def mn (a b : Int) : Int := if b < a then b else a
/-- what is kept of a hand -/
noncomputable def hoS : List (Int × Int) → Int → Int → List (Int × Int)
  | [], k, v => [(k, v)]
  | p :: r, k, v => cond (decide (p.1 = k)) ((p.1, v) :: r) (p :: hoS r k v)
theorem dSet_ho (x v : Int) : ∀ hd : List (Int × Int), dSet (hoV hd) (.int x) (.int v) = hoV (hoS hd x v)
  | [] => rfl
  | p :: r => by
    show cond (decide (p.1 = x)) ((V.int p.1, V.int v) :: hoV r) ((V.int p.1, V.int p.2) :: dSet (hoV r) (.int x) (.int v)) = hoV (cond (decide (p.1 = x)) ((p.1, v) :: r) (p :: hoS r x v))
    rw [dSet_ho x v r]
    cases decide (p.1 = x) <;> rfl
theorem hoV_len (l : List (Int × Int)) : (hoV l).length = l.length := List.length_map ..
/-- a letter comes to a hand that stands -/
noncomputable def wishF (k : Int) (fi : List Int) (x : H7) (U : List Letter) (m : Msg) : H7 × List Letter := match hasM x.row m with
  | true => (x, U)
  | false => lookF k fi { x with row := x.row ++ [m] } (U ++ (oth k fi).map fun t => ⟨k, t, .hold m x.row.length⟩)
noncomputable def holdF (k : Int) (x : H7) (U : List Letter) (src : Int) (m : Msg) (p : Int) : H7 × List Letter := match decide ((x.row.length : Int) < p) with
  | true => (x, U)
  | false => match decide (p = (x.row.length : Int)) with
    | true => ({ x with row := x.row ++ [m] }, U ++ [⟨k, src, .have_ (x.row.length + 1)⟩])
    | false => (x, U ++ [⟨k, src, .have_ x.row.length⟩])
noncomputable def stepF (k : Int) (fi : List Int) (x : H7) (U : List Letter) (src : Int) : Cont → H7 × List Letter
  | .wish m => wishF k fi x U m
  | .hold m p => holdF k x U src m p
  | .have_ c => lookF k fi { x with holds := hoS x.holds src (mx c (hoD x.holds src)) } U
  | .take c => ({ x with took := mx x.took (mn c x.row.length) }, U)
section
variable {n : Nat} {m : V} {hs : List V} {U : List Letter} {k : Int} {fi : List Int} {x : H7} {Q : V → Hp → Prop} {E : Nat → Hp → Prop}
theorem f255 : tb.P.fn 255 = some F_Folk_held := by kernel_rfl
theorem held_w {mm : Msg} {p src : Int} (hU : U.length + 1 ≤ SZ) (hr : x.row.length < SZ) (h : ∀ g, Q .none ⟨f7 m hs (holdF k x U src mm p).2 k fi (holdF k x U src mm p).1 g⟩) :
    CW tb.P (n + 2) 255 [.ref 0, .ref 2, .int src, .tup [mm.v, .int p]] ⟨f7 m hs U k fi x []⟩ Q E := by
  have eB : mV x.row ++ [mm.v] = mV (x.row ++ [mm]) := by unfold mV; rw [List.map_append]; rfl
  have eU : ∀ c : Cont, lV U ++ [ltr c.word (.int k) (.int 0) c.v (.int src)] = lV (U ++ [⟨k, src, c⟩]) := fun c => by unfold lV; rw [List.map_append]; rfl
  unfold holdF at h
  refine call_i _ _ _ f255 rfl ?_
  refine Br_b (b := decide (((mV x.row).length : Int) < p)) (fun c => ?_) fun c => ?_
  · rw [mV_len] at c
    rw [c] at h
    exact h []
  · rw [mV_len] at c
    rw [c] at h
    refine Br_b (b := decide (p = ((mV x.row).length : Int))) (fun c => ?_) fun c => ?_
    · rw [mV_len] at c
      rw [c] at h
      refine ⟨rfl, by rw [mV_len]; exact hr, ?_⟩
      refine ⟨Nat.le_of_ble_eq_true rfl, ?_⟩
      refine send_w (a := .int k) (p := .int 0) rfl rfl (by rw [lV_len]; exact hU) ?_
      show Q .none ⟨some (folkC m hs) :: some (.list (lV U ++ [ltr s_have (.int k) (.int 0) (.int ((mV x.row ++ [mm.v]).length : Nat)) (.int src)])) :: some (.inst 59 (hF k fi x)) :: some (.list (mV x.row ++ [mm.v])) :: _⟩
      rw [eB, mV_len, show (((x.row ++ [mm]).length : Nat) : Int) = x.row.length + 1 by rw [List.length_append]; rfl, show ltr s_have (.int k) (.int 0) (.int ((x.row.length : Int) + 1)) (.int src) = ltr (Cont.have_ (x.row.length + 1)).word (.int k) (.int 0) (Cont.have_ (x.row.length + 1)).v (.int src) from rfl, eU]
      exact h []
    · rw [mV_len] at c
      rw [c] at h
      refine ⟨Nat.le_of_ble_eq_true rfl, ?_⟩
      refine send_w (a := .int k) (p := .int 0) rfl rfl (by rw [lV_len]; exact hU) ?_
      show Q .none ⟨some (folkC m hs) :: some (.list (lV U ++ [ltr s_have (.int k) (.int 0) (.int ((mV x.row).length : Nat)) (.int src)])) :: _⟩
      rw [mV_len, show ltr s_have (.int k) (.int 0) (.int (x.row.length : Int)) (.int src) = ltr (Cont.have_ x.row.length).word (.int k) (.int 0) (Cont.have_ x.row.length).v (.int src) from rfl, eU]
      exact h []
theorem f253 : tb.P.fn 253 = some F_Folk_taken_up := by kernel_rfl
/-- what must hold so that a letter can come -/
structure Ok7 (U : List Letter) (k : Int) (fi : List Int) (x : H7) : Prop where
  hz : fi.length ≤ 50
  hn : fi.length / 2 < (oth k fi).length + 1
  hU : U.length + 100 ≤ SZ
  hr : x.row.length < SZ
  hh : x.holds.length < SZ
theorem up_w {src : Int} {c : Cont} (o : Ok7 U k fi x) (h : ∀ g, Q .none ⟨f7 m hs (stepF k fi x U src c).2 k fi (stepF k fi x U src c).1 g⟩) :
    CW tb.P (n + 5) 253 [.ref 0, .str c.word, .ref 2, .int src, c.v] ⟨f7 m hs U k fi x []⟩ Q E := by
  obtain ⟨hz, hn, hU, hr, hh⟩ := o
  cases c with
  | wish mm =>
    have h : ∀ g, Q .none ⟨f7 m hs (wishF k fi x U mm).2 k fi (wishF k fi x U mm).1 g⟩ := h
    unfold wishF at h
    refine call_i _ _ _ f253 rfl ?_
    cases e : hasM x.row mm with
    | true =>
      rw [e] at h
      exact wish_old e (h [])
    | false =>
      rw [e] at h
      exact wish_new e hz hn hU hr h
  | hold mm p =>
    refine call_i _ _ _ f253 rfl ?_
    exact held_w (by omega) hr h
  | have_ c =>
    refine call_i _ _ _ f253 rfl ?_
    refine ⟨rfl, keyOk_ho x.holds src, ?_⟩
    show need (see _ ((dGet (hoV x.holds) (.int src)).getD (.int 0))) _
    rw [dGet_ho]
    refine ⟨keyOk_ho x.holds src, by rw [hoV_len]; exact hh, ?_⟩
    show CW tb.P (n + 4) 256 [.ref 0, .ref 2] ⟨some (folkC m hs) :: some (.list (lV U)) :: some (.inst 59 (hF k fi x)) :: some (.list (mV x.row)) :: some (.dict (dSet (hoV x.holds) (.int src) (.int (mx c (hoD x.holds src))))) :: none :: none :: none :: none :: none :: none :: none :: none :: none :: none :: none :: []⟩ _ _
    rw [dSet_ho]
    exact look_w (x := { x with holds := hoS x.holds src (mx c (hoD x.holds src)) }) hz hn (by omega) h
  | take c =>
    refine call_i _ _ _ f253 rfl ?_
    refine ⟨rfl, Nat.le_of_ble_eq_true rfl, ?_⟩
    have h : Q .none ⟨f7 m hs U k fi { x with took := mx x.took (mn c x.row.length) } []⟩ := h []
    rw [← mV_len x.row] at h
    exact h
theorem up_w' {src : Int} {c : Cont} {u : List V} (hu : u = lV U) (o : Ok7 U k fi x) (h : ∀ g, Q .none ⟨f7 m hs (stepF k fi x U src c).2 k fi (stepF k fi x U src c).1 g⟩) :
    CW tb.P (n + 5) 253 [.ref 0, .str c.word, .ref 2, .int src, c.v] ⟨some (folkC m hs) :: some (.list u) :: some (.inst 59 (hF k fi x)) :: some (.list (mV x.row)) :: some (.dict (hoV x.holds)) :: none :: none :: none :: none :: none :: none :: none :: none :: none :: none :: none :: []⟩ Q E := by
  subst hu; exact up_w o h
theorem gv {fz : Bool} {σ : St} {Q : V → St → Prop} {v : V} (hv : aRef v = none) (h : Q v σ) : giveV fz σ Q v := by
  cases fz with
  | false => exact h
  | true =>
    show (match aRef v with | some i => (match cL (σ.H.get i) with | some xs => Q (.lst xs) (σ.setH (σ.H.del i)) | none => Q v σ) | none => Q v σ)
    rw [hv]; exact h
theorem f5 : tb.P.fn 5 = some F_whole := by kernel_rfl
/-- a number is whole -/
theorem whole_w {H : Hp} {i : Int} (h : Q (.bool true) H) : CW tb.P (n + 1) 5 [.int i] H Q E := call_i _ _ _ f5 rfl h
theorem f250 : tb.P.fn 250 = some F_Folk_letter_at := by kernel_rfl
theorem at_w {u : List V} {r : List (Option C)} {p : Nat} {v : V} (hv : u[p]? = some v) (h : Q v ⟨some (folkC m hs) :: some (.list u) :: r⟩) : CW tb.P (n + 2) 250 [.ref 0, .int p] ⟨some (folkC m hs) :: some (.list u) :: r⟩ Q E := by
  have lt : p < u.length := (List.getElem?_eq_some_iff.mp hv).1
  refine call_i _ _ _ f250 rfl ?_
  refine whole_w ?_
  refine gv rfl ?_
  refine Br_n (b := decide ((u.length : Int) ≤ p)) (decide_eq_false (by omega)) ?_
  refine need_ii (o := pyIdx (p : Int) u.length) (pyIdx_nat lt) ?_
  exact need_ii (o := u[p]?) hv h
theorem f251 : tb.P.fn 251 = some F_Folk_come := by kernel_rfl
noncomputable def dropAt {α : Type} (l : List α) (p : Nat) : List α := l.take p ++ l.drop (p + 1)
theorem lV_drop (U : List Letter) (p : Nat) : (lV U).take p ++ (lV U).drop (p + 1) = lV (dropAt U p) := by
  unfold dropAt lV
  rw [List.map_append, List.map_take, List.map_drop]
/-- a letter comes -/
noncomputable def comeF (k : Int) (fi : List Int) (x : H7) (U : List Letter) (L : Letter) : H7 × List Letter := match x.up with
  | true => stepF k fi x U L.from_ L.c
  | false => (x, U)
theorem come_w {p t : Nat} {L : Letter} (hp : U[p]? = some L) (ht : L.to = t) (hv : hs[t]? = some (.ref 2)) (o : Ok7 (dropAt U p) k fi x) (h : ∀ g, Q .none ⟨f7 m hs (comeF k fi x (dropAt U p) L).2 k fi (comeF k fi x (dropAt U p) L).1 g⟩) :
    CW tb.P (n + 6) 251 [.ref 0, .int p] ⟨f7 m hs U k fi x []⟩ Q E := by
  obtain ⟨src, to, c⟩ := L
  cases ht
  have lu : p < (lV U).length := by rw [lV_len]; exact (List.getElem?_eq_some_iff.mp hp).1
  have hu : (lV U)[p]? = some (Letter.v ⟨src, t, c⟩) := by unfold lV; rw [List.getElem?_map, hp]; rfl
  have lt : t < hs.length := (List.getElem?_eq_some_iff.mp hv).1
  unfold comeF at h
  refine call_i _ _ _ f251 rfl ?_
  refine at_w hu ?_
  refine ⟨rfl, ?_⟩
  refine need_ii (o := pyIdx (p : Int) (lV U).length) (pyIdx_nat lu) ?_
  refine need_ii (o := (lV U)[p]?) hu ?_
  refine need_ii (o := pyIdx (t : Int) hs.length) (pyIdx_nat lt) ?_
  refine need_ii (o := hs[t]?) hv ?_
  cases e : x.up with
  | false =>
    rw [e] at h
    refine Br_y (b := !x.up) (by rw [e]; rfl) ?_
    show Q .none ⟨some (folkC m hs) :: some (.list ((lV U).take p ++ (lV U).drop (p + 1))) :: _⟩
    rw [lV_drop]
    exact h []
  | true =>
    rw [e] at h
    refine Br_n (b := !x.up) (by rw [e]; rfl) ?_
    refine Br_n (b := eqD (.str c.word) (.str s_enter)) (by cases c <;> kernel_rfl) ?_
    refine ⟨rfl, ?_⟩
    refine up_w' (m := m) (hs := hs) (n := n) (src := src) (c := c) (lV_drop U p) o fun g => ?_
    exact gv rfl (h g)
end
end Mine

end

section
set_option autoImplicit false
set_option linter.all false
set_option genSizeOf false
set_option genInjectivity false
set_option maxRecDepth 20000
namespace Mine
open PySem (Str)
section
variable {n M t : Nat} {hs : List V} {U : List Letter} {k : Int} {fi : List Int} {x : H7} {Q : V → Hp → Prop} {E : Nat → Hp → Prop}
theorem f244 : tb.P.fn 244 = some F_Folk_hand_of := by kernel_rfl
theorem hand_w {v : V} {r : List (Option C)} (hM : t < M) (hv : hs[t]? = some v) (h : Q v ⟨some (folkC (.int M) hs) :: r⟩) : CW tb.P (n + 2) 244 [.ref 0, .int t] ⟨some (folkC (.int M) hs) :: r⟩ Q E := by
  have lt : t < hs.length := (List.getElem?_eq_some_iff.mp hv).1
  refine call_i _ _ _ f244 rfl ?_
  refine whole_w ?_
  refine gv rfl ?_
  refine Br_n (b := decide ((M : Int) ≤ t)) (decide_eq_false (by omega)) ?_
  refine need_ii (o := pyIdx (t : Int) hs.length) (pyIdx_nat lt) ?_
  exact need_ii (o := hs[t]?) hv h
/-- a hand is found -/
structure At7 (t M : Nat) (hs : List V) : Prop where
  lt : t < M
  at_ : hs[t]? = some (.ref 2)
theorem f245 : tb.P.fn 245 = some F_Folk_able := by kernel_rfl
theorem able_w (o : At7 t M hs) (hu : x.up = true) (h : Q (.ref 2) ⟨f7 (.int M) hs U k fi x []⟩) : CW tb.P (n + 3) 245 [.ref 0, .int t] ⟨f7 (.int M) hs U k fi x []⟩ Q E := by
  refine call_i _ _ _ f245 rfl ?_
  refine hand_w o.lt o.at_ ?_
  refine Br_n (b := !x.up) (by rw [hu]; rfl) ?_
  exact ⟨rfl, h⟩
theorem able_no (o : At7 t M hs) (hu : x.up = false) (h : E 16 ⟨f7 (.int M) hs U k fi x [some (.exc 55)]⟩) : CW tb.P (n + 3) 245 [.ref 0, .int t] ⟨f7 (.int M) hs U k fi x []⟩ Q E := by
  refine call_i _ _ _ f245 rfl ?_
  refine hand_w o.lt o.at_ ?_
  refine Br_y (b := !x.up) (by rw [hu]; rfl) ?_
  exact ⟨rfl, h⟩
theorem f246 : tb.P.fn 246 = some F_Folk_inside := by kernel_rfl
theorem inside_w (o : At7 t M hs) (h : Q (.ref 2) ⟨f7 (.int M) hs U k fi x []⟩) : CW tb.P (n + 3) 246 [.ref 0, .int t] ⟨f7 (.int M) hs U k fi x []⟩ Q E := by
  refine call_i _ _ _ f246 rfl ?_
  refine hand_w o.lt o.at_ ?_
  exact ⟨rfl, h⟩
theorem f248 : tb.P.fn 248 = some F_Folk_say := by kernel_rfl
theorem say_w {f : Int} {fs : List Int} {w : Str} (o : At7 t M hs) (hu : x.up = true) (hk : k = t) (hf : fi = f :: fs) (hU : U.length + 1 ≤ SZ) (h : Q .none ⟨f7 (.int M) hs (U ++ [⟨t, f, .wish ⟨t, x.said, w⟩⟩]) k fi { x with said := x.said + 1 } []⟩) :
    CW tb.P (n + 4) 248 [.ref 0, .int t, .str w] ⟨f7 (.int M) hs U k fi x []⟩ Q E := by
  subst hk hf
  refine call_i _ _ _ f248 rfl ?_
  refine able_w o hu ?_
  refine ⟨Nat.le_of_ble_eq_true rfl, ?_⟩
  refine ⟨rfl, Nat.le_of_ble_eq_true rfl, ?_⟩
  refine ⟨rfl, rfl, ?_⟩
  refine ⟨Nat.le_of_ble_eq_true rfl, ?_⟩
  refine send_w (a := .int t) (p := .int 0) rfl rfl (by rw [lV_len]; exact hU) ?_
  show Q .none ⟨some (folkC (.int M) hs) :: some (.list (lV U ++ [(⟨t, f, .wish ⟨t, x.said, w⟩⟩ : Letter).v])) :: _⟩
  rw [show lV U ++ [(⟨t, f, .wish ⟨t, x.said, w⟩⟩ : Letter).v] = lV (U ++ [⟨t, f, .wish ⟨t, x.said, w⟩⟩]) by unfold lV; rw [List.map_append]; rfl]
  exact h
theorem say_no {w : Str} (o : At7 t M hs) (hu : x.up = false) (h : E 16 ⟨f7 (.int M) hs U k fi x [some (.exc 55)]⟩) : CW tb.P (n + 4) 248 [.ref 0, .int t, .str w] ⟨f7 (.int M) hs U k fi x []⟩ Q E := by
  refine call_i _ _ _ f248 rfl ?_
  exact able_no o hu h
theorem f249 : tb.P.fn 249 = some F_Folk_fall := by kernel_rfl
theorem fall_w (o : At7 t M hs) (hu : x.up = true) (h : Q .none ⟨f7 (.int M) hs U k fi { x with up := false } []⟩) : CW tb.P (n + 3) 249 [.ref 0, .int t] ⟨f7 (.int M) hs U k fi x []⟩ Q E := by
  refine call_i _ _ _ f249 rfl ?_
  refine hand_w o.lt o.at_ ?_
  refine Br_n (b := !x.up) (by rw [hu]; rfl) ?_
  exact ⟨rfl, Nat.le_of_ble_eq_true rfl, h⟩
theorem fall_no (o : At7 t M hs) (hu : x.up = false) (h : E 16 ⟨f7 (.int M) hs U k fi x [some (.exc 55)]⟩) : CW tb.P (n + 3) 249 [.ref 0, .int t] ⟨f7 (.int M) hs U k fi x []⟩ Q E := by
  refine call_i _ _ _ f249 rfl ?_
  refine hand_w o.lt o.at_ ?_
  refine Br_y (b := !x.up) (by rw [hu]; rfl) ?_
  exact ⟨rfl, h⟩
theorem f272 : tb.P.fn 272 = some F_Folk_lose := by kernel_rfl
theorem lose_w {p : Nat} {L : Letter} {r : List (Option C)} (hp : U[p]? = some L) (h : Q .none ⟨some (folkC (.int M) hs) :: some (.list (lV (dropAt U p))) :: r⟩) : CW tb.P (n + 3) 272 [.ref 0, .int p] ⟨some (folkC (.int M) hs) :: some (.list (lV U)) :: r⟩ Q E := by
  have lu : p < (lV U).length := by rw [lV_len]; exact (List.getElem?_eq_some_iff.mp hp).1
  have hu : (lV U)[p]? = some L.v := by unfold lV; rw [List.getElem?_map, hp]; rfl
  rw [← lV_drop] at h
  refine call_i _ _ _ f272 rfl ?_
  refine at_w hu ?_
  refine gv rfl ?_
  refine ⟨rfl, ?_⟩
  refine need_ii (o := pyIdx (p : Int) (lV U).length) (pyIdx_nat lu) ?_
  exact need_ii (o := (lV U)[p]?) hu h
theorem f273 : tb.P.fn 273 = some F_Folk_double := by kernel_rfl
theorem double_w {p : Nat} {L : Letter} {r : List (Option C)} (hp : U[p]? = some L) (hU : U.length < SZ) (h : Q .none ⟨some (folkC (.int M) hs) :: some (.list (lV (U ++ [L]))) :: r⟩) : CW tb.P (n + 3) 273 [.ref 0, .int p] ⟨some (folkC (.int M) hs) :: some (.list (lV U)) :: r⟩ Q E := by
  have hu : (lV U)[p]? = some L.v := by unfold lV; rw [List.getElem?_map, hp]; rfl
  rw [show lV (U ++ [L]) = lV U ++ [L.v] by unfold lV; rw [List.map_append]; rfl] at h
  refine call_i _ _ _ f273 rfl ?_
  refine ⟨rfl, ?_⟩
  refine at_w hu ?_
  refine gv rfl ?_
  exact ⟨by rw [lV_len]; exact hU, h⟩
theorem f263 : tb.P.fn 263 = some F_Folk_stands := by kernel_rfl
theorem stands_w (o : At7 t M hs) (h : Q (.bool x.up) ⟨f7 (.int M) hs U k fi x []⟩) : CW tb.P (n + 3) 263 [.ref 0, .int t] ⟨f7 (.int M) hs U k fi x []⟩ Q E := by
  refine call_i _ _ _ f263 rfl ?_
  refine hand_w o.lt o.at_ ?_
  exact h
theorem f264 : tb.P.fn 264 = some F_Folk_list_of := by kernel_rfl
theorem list_w (o : At7 t M hs) (hz : fi.length ≤ SZ) (h : Q (.tup [.int 0, .lst (iV fi)]) ⟨f7 (.int M) hs U k fi x []⟩) : CW tb.P (n + 4) 264 [.ref 0, .int t] ⟨f7 (.int M) hs U k fi x []⟩ Q E := by
  refine call_i _ _ _ f264 rfl ?_
  refine inside_w o ?_
  exact ⟨by rw [iV_len]; exact hz, Nat.le_of_ble_eq_true rfl, h⟩
theorem f266 : tb.P.fn 266 = some F_Folk_is_still := by kernel_rfl
theorem still_w (o : At7 t M hs) (h : Q (.bool false) ⟨f7 (.int M) hs U k fi x []⟩) : CW tb.P (n + 4) 266 [.ref 0, .int t] ⟨f7 (.int M) hs U k fi x []⟩ Q E := by
  refine call_i _ _ _ f266 rfl ?_
  refine inside_w o ?_
  exact h
theorem f265 : tb.P.fn 265 = some F_Folk_taken := by kernel_rfl
theorem taken_w (o : At7 t M hs) (ht : 0 ≤ x.took) (hr : x.row.length ≤ SZ) (h : Q (.ref 16) ⟨f7 (.int M) hs U k fi x [some (.list (mV (x.row.take x.took.toNat)))]⟩) : CW tb.P (n + 4) 265 [.ref 0, .int t] ⟨f7 (.int M) hs U k fi x []⟩ Q E := by
  have lz : ((mV x.row).take x.took.toNat).length ≤ SZ := by rw [List.length_take, mV_len]; omega
  rw [show mV (x.row.take x.took.toNat) = (mV x.row).take x.took.toNat from List.map_take ..] at h
  refine call_i _ _ _ f265 rfl ?_
  refine inside_w o ?_
  exact ⟨rfl, decide_eq_true ht, lz, lz, h⟩
theorem f262 : tb.P.fn 262 = some F_Folk_letters := by kernel_rfl
/-- the letters, as they are told -/
noncomputable def l3V (L : Letter) : V := .tup [.str L.c.word, .int L.from_, .int L.to]
theorem letters_comp (K : CT) (H : Hp) (us : List V) (Q : List V → St → Prop) : ∀ (xs : List Letter) (acc : List V) (lo : Loc), acc.length + xs.length ≤ SZ → items H (.ref 1) = some us → (∀ lo', Q (acc ++ xs.map l3V) ⟨H, lo'⟩) →
    compGo (fun σ₂ k => wpC tb.P K noE .none σ₂ k) (fun σ₂ k => wpE tb.P K noE (.sl true (.loc 134) .none (.some (.cst (.int 3)))) σ₂ k) [134] (still (.ref 1) us) (lV xs) acc ⟨H, lo⟩ Q
  | [], acc, lo, hz, hi, h => by
    have h := h lo
    rw [List.map_nil, List.append_nil] at h
    exact ⟨hi, hz, h⟩
  | L :: xs, acc, lo, hz, hi, h => by
    rw [List.length_cons] at hz
    refine ⟨hi, by omega, ?_⟩
    refine ⟨rfl, rfl, ?_⟩
    refine letters_comp K H us Q xs (acc ++ [l3V L]) _ (by rw [List.length_append]; show acc.length + 1 + _ ≤ _; omega) hi fun lo' => ?_
    have h := h lo'
    rw [List.map_cons, List.append_cons] at h
    exact h
theorem letters_w {r : List (Option C)} (hU : U.length ≤ SZ) (h : Q (.ref (r.length + 2)) ⟨some (folkC (.int M) hs) :: some (.list (lV U)) :: (r ++ [some (.list (U.map l3V))])⟩) : CW tb.P (n + 1) 262 [.ref 0] ⟨some (folkC (.int M) hs) :: some (.list (lV U)) :: r⟩ Q E := by
  refine call_i _ _ _ f262 rfl ?_
  refine letters_comp (CW tb.P n) _ (lV U) _ U [] _ (by show 0 + _ ≤ SZ; omega) rfl fun lo' => ?_
  exact ⟨by rw [List.nil_append, List.length_map]; exact hU, h⟩
theorem f269 : tb.P.fn 269 = some F_Folk_press := by kernel_rfl
/-- the letters of a pressing -/
noncomputable def prsL (k : Int) (ts : List Int) : List Msg → Nat → List Letter
  | [], _ => []
  | m :: r, i => (ts.map fun t => ⟨k, t, .hold m i⟩) ++ prsL k ts r (i + 1)
theorem prsL_len (k : Int) (ts : List Int) : ∀ (r : List Msg) (i : Nat), (prsL k ts r i).length = r.length * ts.length
  | [], i => by show 0 = 0 * _; rw [Nat.zero_mul]
  | m :: r, i => by
    show ((ts.map _) ++ prsL k ts r (i + 1)).length = (r.length + 1) * ts.length
    rw [List.length_append, List.length_map, prsL_len k ts r (i + 1), Nat.add_mul, Nat.one_mul, Nat.add_comm]
theorem press_loop {m : V} (hz : fi.length ≤ 50) (Q : Flow → St → Prop) : ∀ (xs : List Msg) (i : Nat) (U : List Letter) (lo : Loc), lo 108 = some (.ref 0) → lo 125 = some (.ref 2) → U.length + xs.length * (oth k fi).length ≤ SZ →
    (∀ lo' : Loc, lo' 108 = some (.ref 0) → lo' 125 = some (.ref 2) → Q .next ⟨⟨f7 m hs (U ++ prsL k (oth k fi) xs i) k fi x []⟩, lo'⟩) →
    loopGo (fun v σ₂ kk => bindT [110, 131] v σ₂ fun σ₃ => wpSs tb.P (CW tb.P (n + 1)) L_Folk_press_1 σ₃ kk noE) (fun H => see H (.ref 3) = some (.lst (mV x.row))) (enumL i (mV xs)) ⟨⟨f7 m hs U k fi x []⟩, lo⟩ Q
  | [], i, U, lo, h1, h2, hU, h => by
    have h := h lo h1 h2
    rw [show prsL k (oth k fi) [] i = [] from rfl, List.append_nil] at h
    exact ⟨rfl, h⟩
  | mm :: xs, i, U, lo, h1, h2, hU, h => by
    have lo' := oth_len k fi
    rw [List.length_cons, Nat.add_mul, Nat.one_mul] at hU
    refine ⟨rfl, ?_⟩
    refine need_ii (o := lo 108) h1 ?_
    refine need_ii (o := lo 125) h2 ?_
    refine need_ii (o := lo 125) h2 ?_
    refine oth_w (ms := fi) (k := k) rfl rfl (by unfold SZ; omega) ?_
    refine ⟨Nat.le_of_ble_eq_true rfl, ?_⟩
    refine send_w (a := .int k) (p := .int 0) rfl rfl (by rw [lV_len, iV_len]; omega) ?_
    show loopGo _ _ (enumL ((i : Int) + 1) (mV xs)) ⟨⟨some (folkC m hs) :: some (.list (lV U ++ (iV (oth k fi)).map (ltr (Cont.hold mm i).word (.int k) (.int 0) (Cont.hold mm i).v))) :: _⟩, _⟩ Q
    rw [lV_send]
    refine press_loop hz Q xs (i + 1) (U ++ (oth k fi).map fun t => ⟨k, t, .hold mm i⟩) (upd (upd lo 110 (.int i)) 131 mm.v) h1 h2 (by rw [List.length_append, List.length_map]; omega) fun lo' q1 q2 => ?_
    have h := h lo' q1 q2
    rw [show prsL k (oth k fi) (mm :: xs) i = ((oth k fi).map fun t => ⟨k, t, .hold mm i⟩) ++ prsL k (oth k fi) xs (i + 1) from rfl, ← List.append_assoc] at h
    exact h
theorem press_w {f : Int} {fs : List Int} (o : At7 t M hs) (hu : x.up = true) (hk : k = t) (hf : fi = f :: fs) (hf' : f = t) (hz : fi.length ≤ 50) (hU : U.length + x.row.length * (oth k fi).length + 50 ≤ SZ) (h : Q .none ⟨f7 (.int M) hs (U ++ prsL k (oth k fi) x.row 0 ++ (oth k fi).map fun t => ⟨k, t, .take x.took⟩) k fi x []⟩) :
    CW tb.P (n + 4) 269 [.ref 0, .int t] ⟨f7 (.int M) hs U k fi x []⟩ Q E := by
  have lo := oth_len k fi
  refine call_i _ _ _ f269 rfl ?_
  refine able_w o hu ?_
  subst hf hf' hk
  refine need_ii (o := pyIdx ((0 : Nat) : Int) (iV ((t : Int) :: fs)).length) (pyIdx_nat (Nat.succ_pos _)) ?_
  refine Br_n (b := !eqD (.int t) (.int t)) (by show (!decide ((t : Int) = t)) = false; rw [decide_eq_true rfl]; rfl) ?_
  refine ⟨rfl, ?_⟩
  refine press_loop (n := n + 2) (x := x) (k := t) (fi := (t : Int) :: fs) (hs := hs) (m := .int M) hz _ x.row 0 U _ rfl rfl (by omega) fun lo' h1 h2 => ?_
  refine need_ii (o := lo' 108) h1 ?_
  refine need_ii (o := lo' 125) h2 ?_
  refine need_ii (o := lo' 125) h2 ?_
  refine oth_w (ms := (t : Int) :: fs) (k := t) rfl rfl (by unfold SZ; omega) ?_
  refine need_ii (o := lo' 125) h2 ?_
  refine send_w (a := .int t) (p := .int 0) rfl rfl (by rw [lV_len, iV_len, List.length_append, prsL_len]; omega) ?_
  show Q .none ⟨some (folkC (.int M) hs) :: some (.list (lV (U ++ prsL t (oth t ((t : Int) :: fs)) x.row 0) ++ (iV (oth t ((t : Int) :: fs))).map (ltr (Cont.take x.took).word (.int t) (.int 0) (Cont.take x.took).v))) :: _⟩
  rw [lV_send]
  exact h
end
end Mine

end

section
set_option autoImplicit false
set_option linter.all false
set_option genSizeOf false
set_option genInjectivity false
set_option maxRecDepth 20000
namespace Mine
open PySem (Str)
/-! The folk in the heap; a call is seen from one hand. -/
structure Lay where
  fk : Nat
  un : Nat
  hs : List Nat
  rn : Nat → Nat
  on : Nat → Nat
  gn : Nat → Nat
noncomputable def hFL (k : Int) (fi : List Int) (x : H7) (g r d : Nat) : List (Nat × V) := [(109, .int k), (110, .int 0), (111, .int 0), (17, .lst (iV fi)), (112, .int x.said), (113, .bool x.up), (114, .ref g), (115, .none), (23, .ref r), (116, .int x.took), (117, .bool false), (118, .tup [.int 0, .int (-1)]), (119, .none), (120, .none), (121, .ref d)]
/-- a hand in the heap -/
structure HdR (H : Hp) (L : Lay) (fi : List Int) (t h : Nat) (x : H7) : Prop where
  at_ : L.hs[t]? = some h
  hd : H.get h = some (.inst 59 (hFL t fi x (L.gn t) (L.rn t) (L.on t)))
  row : H.get (L.rn t) = some (.list (mV x.row))
  hol : H.get (L.on t) = some (.dict (hoV x.holds))
  gon : ∃ c, H.get (L.gn t) = some c
/-- numbers that are all different -/
structure Apt (L : Lay) (fi : List Int) : Prop where
  fu : L.fk ≠ L.un
  fh : L.fk ∉ L.hs
  uh : L.un ∉ L.hs
  hh : L.hs.Nodup
  rr : ∀ t : Nat, (t : Int) ∈ fi → L.rn t ≠ L.fk ∧ L.rn t ≠ L.un ∧ L.rn t ∉ L.hs ∧ L.on t ≠ L.fk ∧ L.on t ≠ L.un ∧ L.on t ∉ L.hs
  ro : ∀ t u : Nat, (t : Int) ∈ fi → (u : Int) ∈ fi → L.rn t ≠ L.on u ∧ (t ≠ u → L.rn t ≠ L.rn u ∧ L.on t ≠ L.on u)
structure Rep (H : Hp) (L : Lay) (M : Nat) (fi : List Int) (U : List Letter) (X : Nat → H7) : Prop where
  fk : H.get L.fk = some (.inst 60 [(18, .int M), (123, .lst (L.hs.map .ref)), (124, .ref L.un)])
  un : H.get L.un = some (.list (lV U))
  hl : L.hs.length = M
  hM : M ≤ 9
  hd : ∀ t : Nat, (t : Int) ∈ fi → ∃ h, HdR H L fi t h (X t)
  oth : ∀ j ∈ L.hs, ∃ c, H.get j = some c
  apt : Apt L fi
section
variable {ρ : Nat → Nat}
theorem ren_iV : ∀ l : List Int, renVs ρ (iV l) = iV l
  | [] => rfl
  | x :: r => congrArg (V.int x :: ·) (ren_iV r)
theorem ren_mV : ∀ l : List Msg, renVs ρ (mV l) = mV l
  | [] => rfl
  | m :: r => congrArg (m.v :: ·) (ren_mV r)
theorem ren_lV : ∀ l : List Letter, renVs ρ (lV l) = lV l
  | [] => rfl
  | L :: r => by
    have e : renV ρ L.v = L.v := by obtain ⟨a, b, c⟩ := L; cases c <;> rfl
    show renV ρ L.v :: renVs ρ (lV r) = _
    rw [e, ren_lV r]; rfl
theorem ren_hoV : ∀ l : List (Int × Int), renK ρ (hoV l) = hoV l
  | [] => rfl
  | p :: r => congrArg ((V.int p.1, V.int p.2) :: ·) (ren_hoV r)
end
/-- the hands' list, seen from hand t -/
noncomputable def shV (t M : Nat) : List V := (List.range M).map fun u => if u = t then .ref 2 else .ref (6 + u)
noncomputable def jsL (L : Lay) (t h M : Nat) : List Nat := L.fk :: L.un :: h :: L.rn t :: L.on t :: L.gn t :: (L.hs ++ List.replicate (10 - M) L.fk)
section
variable {H : Hp} {L : Lay} {M t h : Nat} {fi : List Int} {U : List Letter} {X : Nat → H7}
theorem js_len (hl : L.hs.length = M) (hM : M ≤ 9) : (jsL L t h M).length = 16 := by
  show (L.hs ++ List.replicate (10 - M) L.fk).length + 6 = 16
  rw [List.length_append, List.length_replicate, hl]; omega
theorem rho_hs {n u : Nat} (hl : L.hs.length = M) (hu : u < M) : ∃ j, L.hs[u]? = some j ∧ rho (jsL L t h M) n (6 + u) = j := by
  have lt : u < L.hs.length := hl.symm ▸ hu
  refine ⟨L.hs[u], List.getElem?_eq_getElem lt, ?_⟩
  have e : (jsL L t h M)[6 + u]? = some L.hs[u] := by
    show (L.fk :: L.un :: h :: L.rn t :: L.on t :: L.gn t :: (L.hs ++ List.replicate (10 - M) L.fk))[6 + u]? = _
    rw [show 6 + u = u + 1 + 1 + 1 + 1 + 1 + 1 by omega]
    simp only [List.getElem?_cons_succ]
    rw [List.getElem?_append_left lt, List.getElem?_eq_getElem lt]
  unfold rho
  rw [if_pos (List.getElem?_eq_some_iff.mp e).1, e]; rfl
theorem renVs_map {α : Type} {ρ : Nat → Nat} (f : α → V) : ∀ l : List α, renVs ρ (l.map f) = l.map fun x => renV ρ (f x)
  | [] => rfl
  | x :: r => congrArg (renV ρ (f x) :: ·) (renVs_map f r)
theorem ren_sh {n : Nat} (hl : L.hs.length = M) (ht : L.hs[t]? = some h) : renVs (rho (jsL L t h M) n) (shV t M) = L.hs.map .ref := by
  unfold shV
  rw [renVs_map]
  refine List.ext_getElem (by rw [List.length_map, List.length_map, List.length_range, hl]) fun u h1 h2 => ?_
  rw [List.getElem_map, List.getElem_map, List.getElem_range]
  rw [List.length_map] at h2
  by_cases c : u = t
  · rw [if_pos c]
    subst c
    show V.ref (rho (jsL L u h M) n 2) = _
    have : rho (jsL L u h M) n 2 = h := rfl
    rw [this]
    rw [List.getElem?_eq_getElem h2] at ht
    cases ht; rfl
  · rw [if_neg c]
    obtain ⟨j, e1, e2⟩ := rho_hs (L := L) (t := t) (h := h) (n := n) hl (hl ▸ h2)
    show V.ref (rho (jsL L t h M) n (6 + u)) = _
    rw [e2]
    rw [List.getElem?_eq_getElem h2] at e1
    cases e1; rfl
theorem ren_hF {ρ : Nat → Nat} {k : Int} {x : H7} : renC ρ (.inst 59 (hF k fi x)) = .inst 59 (hFL k fi x (ρ 5) (ρ 3) (ρ 4)) := by
  show C.inst 59 [_, _, _, (17, .lst (renVs ρ (iV fi))), _, _, _, _, _, _, _, _, _, _, _] = _
  rw [ren_iV]; rfl
end
end Mine

end

section
set_option autoImplicit false
set_option linter.all false
set_option genSizeOf false
set_option genInjectivity false
set_option maxRecDepth 20000
namespace Mine
open PySem (Str)
theorem pos0_self {a : Nat} {r : List Nat} : pos0 (a :: r) a = some 0 := if_pos rfl
theorem pos0_next {a j i : Nat} {r : List Nat} (n : a ≠ j) (h : pos0 r j = some i) : pos0 (a :: r) j = some (i + 1) := by
  show (if a = j then some 0 else (match pos0 r j with | some i => some (i + 1) | none => none)) = _
  rw [if_neg n, h]
theorem f7_mid {m : V} {hs : List V} {U : List Letter} {k : Int} {fi : List Int} {x : H7} {g : List (Option C)} : ∀ {i : Nat}, 5 ≤ i → i < 16 → atC (f7 m hs U k fi x g) i = none
  | 5, _, _ => rfl
  | 6, _, _ => rfl
  | 7, _, _ => rfl
  | 8, _, _ => rfl
  | 9, _, _ => rfl
  | 10, _, _ => rfl
  | 11, _, _ => rfl
  | 12, _, _ => rfl
  | 13, _, _ => rfl
  | 14, _, _ => rfl
  | 15, _, _ => rfl
  | 0, h, _ => absurd h (by decide)
  | 1, h, _ => absurd h (by decide)
  | 2, h, _ => absurd h (by decide)
  | 3, h, _ => absurd h (by decide)
  | 4, h, _ => absurd h (by decide)
  | i + 16, _, h => absurd h (Nat.not_lt_of_le (Nat.le_add_left 16 i))
section
variable {js : List Nat} {H₀ H H₁ : Hp} {j : Nat} {c : C}
theorem mrg_old (g : H.get j = some c) : (mrg js H₀ H H₁).get j = (match pos0 js j with | some i => mrgC (rho js H.next) (H₀.get i) (H₁.get i) (some c) | none => some c) := by
  have lt : j < H.next := atC_lt g
  rw [mrg_get, if_pos (by omega)]
  show (match pos js H.next j with | some i => mrgC (rho js H.next) (H₀.get i) (H₁.get i) (H.get j) | none => H.get j) = _
  rw [g, show pos js H.next j = pos0 js j by unfold pos; rw [if_neg (Nat.not_le_of_lt lt)]]
theorem mrg_at {i : Nat} {c₁ : C} (g : H.get j = some c) (p : pos0 js j = some i) (g1 : H₁.get i = some c₁) : (mrg js H₀ H H₁).get j = some (renC (rho js H.next) c₁) := by
  rw [mrg_old g, p]
  show mrgC _ (H₀.get i) (H₁.get i) _ = _
  rw [g1]; rfl
theorem mrg_hid (g : H.get j = some c) (p : ∀ i, pos0 js j = some i → H₀.get i = none ∧ H₁.get i = none) : (mrg js H₀ H H₁).get j = some c := by
  rw [mrg_old g]
  cases q : pos0 js j with
  | none => rfl
  | some i =>
    show mrgC _ (H₀.get i) (H₁.get i) _ = _
    rw [(p i q).1, (p i q).2]; rfl
end
section
variable {H : Hp} {L : Lay} {M t h : Nat} {fi : List Int} {U : List Letter} {X : Nat → H7} (R : Rep H L M fi U X) (ht : (t : Int) ∈ fi) (hd : HdR H L fi t h (X t))
theorem HdR.mem {x : H7} (hd : HdR H L fi t h x) : h ∈ L.hs := List.mem_of_getElem? hd.at_
theorem HdR.lt {x : H7} (hd : HdR H L fi t h x) (hl : L.hs.length = M) : t < M := hl ▸ (List.getElem?_eq_some_iff.mp hd.at_).1
include R ht hd
theorem pos7 : pos0 (jsL L t h M) L.fk = some 0 ∧ pos0 (jsL L t h M) L.un = some 1 ∧ pos0 (jsL L t h M) h = some 2 ∧ pos0 (jsL L t h M) (L.rn t) = some 3 ∧ pos0 (jsL L t h M) (L.on t) = some 4 := by
  have A := R.apt
  have nf : L.fk ≠ h := fun z => A.fh (z ▸ hd.mem)
  have nu : L.un ≠ h := fun z => A.uh (z ▸ hd.mem)
  obtain ⟨r1, r2, r3, o1, o2, o3⟩ := A.rr t ht
  have nr : h ≠ L.rn t := fun z => r3 (z ▸ hd.mem)
  have no : h ≠ L.on t := fun z => o3 (z ▸ hd.mem)
  have ro := (A.ro t t ht ht).1
  exact ⟨pos0_self, pos0_next A.fu pos0_self, pos0_next nf (pos0_next nu pos0_self), pos0_next r1.symm (pos0_next r2.symm (pos0_next nr pos0_self)), pos0_next o1.symm (pos0_next o2.symm (pos0_next no (pos0_next ro pos0_self)))⟩
/-- what is not in focus is hidden -/
theorem hid7 {j i : Nat} (n0 : j ≠ L.fk) (n1 : j ≠ L.un) (n2 : j ≠ h) (n3 : j ≠ L.rn t) (n4 : j ≠ L.on t) (p : pos0 (jsL L t h M) j = some i) : 5 ≤ i ∧ i < 16 := by
  have e := pos0_some p
  have lt : i < 16 := js_len (t := t) (h := h) R.hl R.hM ▸ (List.getElem?_eq_some_iff.mp e).1
  refine ⟨?_, lt⟩
  match i, e with
  | 0, e => exact absurd (Option.some.inj e).symm n0
  | 1, e => exact absurd (Option.some.inj e).symm n1
  | 2, e => exact absurd (Option.some.inj e).symm n2
  | 3, e => exact absurd (Option.some.inj e).symm n3
  | 4, e => exact absurd (Option.some.inj e).symm n4
  | i + 5, _ => exact Nat.le_add_left 5 i
theorem emb7 : Emb (jsL L t h M) ⟨f7 (.int M) (shV t M) U t fi (X t) []⟩ H where
  nx := (js_len R.hl R.hM).symm
  dom := fun i hi => atC_ge (by rw [js_len R.hl R.hM] at hi; exact hi)
  all := fun j hj => by
    rcases List.mem_cons.mp hj with z | hj
    · exact ⟨_, z ▸ R.fk⟩
    rcases List.mem_cons.mp hj with z | hj
    · exact ⟨_, z ▸ R.un⟩
    rcases List.mem_cons.mp hj with z | hj
    · exact ⟨_, z ▸ hd.hd⟩
    rcases List.mem_cons.mp hj with z | hj
    · exact ⟨_, z ▸ hd.row⟩
    rcases List.mem_cons.mp hj with z | hj
    · exact ⟨_, z ▸ hd.hol⟩
    rcases List.mem_cons.mp hj with z | hj
    · exact z ▸ hd.gon
    rcases List.mem_append.mp hj with z | z
    · exact R.oth j z
    · exact ⟨_, (List.eq_of_mem_replicate z) ▸ R.fk⟩
  get := fun i c g => by
    obtain ⟨p0, p1, p2, p3, p4⟩ := pos7 R ht hd
    have li : i < 16 := atC_lt g
    match i, g with
    | 0, g =>
      refine ⟨L.fk, rfl, p0, ?_⟩
      cases g
      show H.get L.fk = some (.inst 60 [(18, .int M), (123, .lst (renVs _ (shV t M))), (124, .ref L.un)])
      rw [ren_sh R.hl hd.at_]; exact R.fk
    | 1, g =>
      refine ⟨L.un, rfl, p1, ?_⟩
      cases g
      show H.get L.un = some (.list (renVs _ (lV U)))
      rw [ren_lV]; exact R.un
    | 2, g =>
      refine ⟨h, rfl, p2, ?_⟩
      cases g
      rw [ren_hF]; exact hd.hd
    | 3, g =>
      refine ⟨L.rn t, rfl, p3, ?_⟩
      cases g
      show H.get (L.rn t) = some (.list (renVs _ (mV (X t).row)))
      rw [ren_mV]; exact hd.row
    | 4, g =>
      refine ⟨L.on t, rfl, p4, ?_⟩
      cases g
      show H.get (L.on t) = some (.dict (renK _ (hoV (X t).holds)))
      rw [ren_hoV]; exact hd.hol
    | i + 5, g =>
      have g : atC (f7 (.int M) (shV t M) U t fi (X t) []) (i + 5) = some c := g
      rw [f7_mid (Nat.le_add_left 5 i) li] at g; cases g
end
end Mine

end

section
set_option autoImplicit false
set_option linter.all false
set_option genSizeOf false
set_option genInjectivity false
set_option maxRecDepth 20000
namespace Mine
open PySem (Str)
noncomputable def updX (X : Nat → H7) (t : Nat) (x : H7) : Nat → H7 := fun u => if u = t then x else X u
/-- cells that are not the folk's stay -/
noncomputable def Keep (L : Lay) (fi : List Int) (H H' : Hp) : Prop := ∀ j c, H.get j = some c → j ≠ L.fk → j ≠ L.un → j ∉ L.hs → (∀ t : Nat, (t : Int) ∈ fi → j ≠ L.rn t ∧ j ≠ L.on t) → H'.get j = some c
theorem Keep.trans {L : Lay} {fi : List Int} {H H' H'' : Hp} (a : Keep L fi H H') (b : Keep L fi H' H'') : Keep L fi H H'' := fun j c g n1 n2 n3 n4 => b j c (a j c g n1 n2 n3 n4) n1 n2 n3 n4
/-- the heap behind a call seen from hand t -/
noncomputable def whole7 (L : Lay) (t h M : Nat) (fi : List Int) (U : List Letter) (X : Nat → H7) (H H₁ : Hp) : Hp := mrg (jsL L t h M) ⟨f7 (.int M) (shV t M) U t fi (X t) []⟩ H H₁
section
variable {H : Hp} {L : Lay} {M t h : Nat} {fi : List Int} {U U' : List Letter} {X : Nat → H7} {x' : H7} {g : List (Option C)} (R : Rep H L M fi U X) (ht : (t : Int) ∈ fi) (hd : HdR H L fi t h (X t))
include R ht hd
theorem keep7 : Keep L fi H (whole7 L t h M fi U X H ⟨f7 (.int M) (shV t M) U' t fi x' g⟩) := fun j c q n1 n2 n3 n4 => mrg_hid q fun i p => by
  obtain ⟨a, b⟩ := hid7 R ht hd n1 n2 (fun z => n3 (z ▸ hd.mem)) (n4 t ht).1 (n4 t ht).2 p
  exact ⟨f7_mid a b, f7_mid a b⟩
theorem rep7 : Rep (whole7 L t h M fi U X H ⟨f7 (.int M) (shV t M) U' t fi x' g⟩) L M fi U' (updX X t x') := by
  obtain ⟨p0, p1, p2, p3, p4⟩ := pos7 R ht hd
  have A := R.apt
  have hid : ∀ {j : Nat} {c : C}, H.get j = some c → j ≠ L.fk → j ≠ L.un → j ≠ h → j ≠ L.rn t → j ≠ L.on t → (whole7 L t h M fi U X H ⟨f7 (.int M) (shV t M) U' t fi x' g⟩).get j = some c := fun q n1 n2 n3 n4 n5 => mrg_hid q fun i p => by
    obtain ⟨a, b⟩ := hid7 R ht hd n1 n2 n3 n4 n5 p
    exact ⟨f7_mid a b, f7_mid a b⟩
  have any : ∀ {j : Nat}, (∃ c, H.get j = some c) → ∃ c, (whole7 L t h M fi U X H ⟨f7 (.int M) (shV t M) U' t fi x' g⟩).get j = some c := fun {j} q => by
    obtain ⟨c, q⟩ := q
    by_cases n1 : j = L.fk
    · exact ⟨_, mrg_at (n1 ▸ R.fk) (n1 ▸ p0) rfl⟩
    by_cases n2 : j = L.un
    · exact ⟨_, mrg_at (n2 ▸ R.un) (n2 ▸ p1) rfl⟩
    by_cases n3 : j = h
    · rw [n3]; exact ⟨_, mrg_at hd.hd p2 rfl⟩
    by_cases n4 : j = L.rn t
    · exact ⟨_, mrg_at (n4 ▸ hd.row) (n4 ▸ p3) rfl⟩
    by_cases n5 : j = L.on t
    · exact ⟨_, mrg_at (n5 ▸ hd.hol) (n5 ▸ p4) rfl⟩
    exact ⟨c, hid q n1 n2 n3 n4 n5⟩
  refine ⟨?_, ?_, R.hl, R.hM, fun u hu => ?_, fun j hj => any (R.oth j hj), A⟩
  · refine (mrg_at R.fk p0 (c₁ := folkC (.int M) (shV t M)) rfl).trans ?_
    show some (C.inst 60 [(18, .int M), (123, .lst (renVs _ (shV t M))), (124, .ref L.un)]) = _
    rw [ren_sh R.hl hd.at_]
  · refine (mrg_at R.un p1 (c₁ := .list (lV U')) rfl).trans ?_
    show some (C.list (renVs _ (lV U'))) = _
    rw [ren_lV]
  · by_cases c : u = t
    · subst c
      refine ⟨h, hd.at_, ?_, ?_, ?_, any hd.gon⟩
      · refine (mrg_at hd.hd p2 (c₁ := .inst 59 (hF u fi x')) rfl).trans ?_
        rw [ren_hF]
        show some (C.inst 59 (hFL u fi x' (L.gn u) (L.rn u) (L.on u))) = some (.inst 59 (hFL u fi (if u = u then x' else X u) _ _ _))
        rw [if_pos rfl]
      · refine (mrg_at hd.row p3 (c₁ := .list (mV x'.row)) rfl).trans ?_
        show some (C.list (renVs _ (mV x'.row))) = some (.list (mV (if u = u then x' else X u).row))
        rw [ren_mV, if_pos rfl]
      · refine (mrg_at hd.hol p4 (c₁ := .dict (hoV x'.holds)) rfl).trans ?_
        show some (C.dict (renK _ (hoV x'.holds))) = some (.dict (hoV (if u = u then x' else X u).holds))
        rw [ren_hoV, if_pos rfl]
    · obtain ⟨h', d'⟩ := R.hd u hu
      have e : updX X t x' u = X u := if_neg c
      rw [e]
      obtain ⟨r1, r2, r3, o1, o2, o3⟩ := A.rr u hu
      obtain ⟨s1, s2, s3, q1, q2, q3⟩ := A.rr t ht
      have nh : h' ≠ h := fun z => c (by
        have a := d'.at_
        rw [z, ← hd.at_] at a
        exact (List.getElem?_inj (List.getElem?_eq_some_iff.mp d'.at_).1 A.hh).mp a)
      have ro := A.ro u t hu ht
      have or := A.ro t u ht hu
      exact ⟨h', d'.at_, hid d'.hd (fun z => A.fh (z ▸ d'.mem)) (fun z => A.uh (z ▸ d'.mem)) nh (fun z => s3 (z ▸ d'.mem)) (fun z => q3 (z ▸ d'.mem)), hid d'.row r1 r2 (fun z => r3 (z ▸ hd.mem)) (ro.2 c).1 ro.1, hid d'.hol o1 o2 (fun z => o3 (z ▸ hd.mem)) or.1.symm (ro.2 c).2, any d'.gon⟩
end
/-- a call that is seen from hand t -/
theorem foc7 {H : Hp} {L : Lay} {M t f n : Nat} {fi : List Int} {U : List Letter} {X : Nat → H7} {ds : List V} {Q : V → Hp → Prop} {E : Nat → Hp → Prop} (R : Rep H L M fi U X) (ht : (t : Int) ∈ fi) (hds : ∀ ρ, renVs ρ ds = ds)
    (h : ∀ hh, HdR H L fi t hh (X t) → CW tb.P (n + 1) f (.ref 0 :: ds) ⟨f7 (.int M) (shV t M) U t fi (X t) []⟩ (fun v H₁ => Q (renV (rho (jsL L t hh M) H.next) v) (whole7 L t hh M fi U X H H₁)) (fun i H₁ => (jsL L t hh M).length ≤ i ∧ E (rho (jsL L t hh M) H.next i) (whole7 L t hh M fi U X H H₁))) : CW tb.P (n + 1) f (.ref L.fk :: ds) H Q E := by
  obtain ⟨hh, hd⟩ := R.hd t ht
  refine .foc (jsL L t hh M) (.ref 0 :: ds) _ (emb7 R ht hd) ?_ (h hh hd)
  show V.ref L.fk :: ds = V.ref (rho (jsL L t hh M) H.next 0) :: renVs _ ds
  rw [hds]; rfl
theorem sh_at {t M : Nat} (h : t < M) : At7 t M (shV t M) where
  lt := h
  at_ := by
    unfold shV
    rw [List.getElem?_map, List.getElem?_range h]
    show some (if t = t then V.ref 2 else _) = _
    rw [if_pos rfl]
end Mine

end

section
set_option autoImplicit false
set_option linter.all false
set_option genSizeOf false
set_option genInjectivity false
set_option maxRecDepth 20000
namespace Mine
open PySem (Str)
/-! The methods, on the whole heap. -/
section
variable {n : Nat} {H : Hp} {L : Lay} {M t : Nat} {fi : List Int} {U : List Letter} {X : Nat → H7} {Q : V → Hp → Prop} {E : Nat → Hp → Prop} (R : Rep H L M fi U X) (ht : (t : Int) ∈ fi)
include R ht
/-- the end of a call that gives back data -/
theorem fin7 {hh : Nat} {v : V} {U' : List Letter} {x' : H7} {g : List (Option C)} (hd : HdR H L fi t hh (X t)) (hv : ∀ ρ, renV ρ v = v) (h : ∀ H', Rep H' L M fi U' (updX X t x') → Keep L fi H H' → Q v H') : Q (renV (rho (jsL L t hh M) H.next) v) (whole7 L t hh M fi U X H ⟨f7 (.int M) (shV t M) U' t fi x' g⟩) := by
  rw [hv]; exact h _ (rep7 R ht hd) (keep7 R ht hd)
theorem fin0 {hh : Nat} {v : V} {g : List (Option C)} (hd : HdR H L fi t hh (X t)) (hv : ∀ ρ, renV ρ v = v) (h : ∀ H', Rep H' L M fi U X → Keep L fi H H' → Q v H') : Q (renV (rho (jsL L t hh M) H.next) v) (whole7 L t hh M fi U X H ⟨f7 (.int M) (shV t M) U t fi (X t) g⟩) :=
  fin7 R ht hd hv fun H' r k => h H' (by
    have e : updX X t (X t) = X := funext fun u => by
      show (if u = t then X t else X u) = X u
      by_cases c : u = t
      · rw [if_pos c, c]
      · rw [if_neg c]
    rw [e] at r; exact r) k
/-- the end by an exception -/
theorem exc7 {hh : Nat} (hd : HdR H L fi t hh (X t)) (h : ∀ j H', Rep H' L M fi U X → Keep L fi H H' → H'.get j = some (.exc 55) → E j H') : (jsL L t hh M).length ≤ 16 ∧ E (rho (jsL L t hh M) H.next 16) (whole7 L t hh M fi U X H ⟨f7 (.int M) (shV t M) U t fi (X t) [some (.exc 55)]⟩) := by
  have len : (jsL L t hh M).length = 16 := js_len R.hl R.hM
  refine ⟨Nat.le_of_eq len, ?_⟩
  refine fin0 (Q := fun _ H' => H'.get (rho (jsL L t hh M) H.next 16) = some (.exc 55) → E (rho (jsL L t hh M) H.next 16) H') (v := .none) R ht hd (fun _ => rfl) (fun H' r k q => h _ H' r k q) ?_
  rw [rho_new (Nat.le_of_eq len)]
  show (mrg _ _ H _).get _ = _
  rw [mrg_get, if_pos (by rw [len]; show H.next + (16 - 16) < H.next + (17 - 16); omega)]
  show (match pos (jsL L t hh M) H.next (H.next + (16 - (jsL L t hh M).length)) with | some i => mrgC _ _ (atC (f7 (.int M) (shV t M) U t fi (X t) [some (.exc 55)]) i) _ | none => _) = _
  rw [pos_new (Nat.le_of_eq len)]; rfl
theorem tM : t < M := (R.hd t ht).elim fun _ d => d.lt R.hl
theorem say_L {f : Int} {fs : List Int} {w : Str} (hu : (X t).up = true) (hf : fi = f :: fs) (hU : U.length + 1 ≤ SZ) (h : ∀ H', Rep H' L M fi (U ++ [⟨t, f, .wish ⟨t, (X t).said, w⟩⟩]) (updX X t { X t with said := (X t).said + 1 }) → Keep L fi H H' → Q .none H') : CW tb.P (n + 4) 248 [.ref L.fk, .int t, .str w] H Q E :=
  foc7 R ht (fun _ => rfl) fun hh hd => say_w (sh_at (tM R ht)) hu rfl hf hU (fin7 R ht hd (fun _ => rfl) h)
theorem sayNo_L {w : Str} (hu : (X t).up = false) (h : ∀ j H', Rep H' L M fi U X → Keep L fi H H' → H'.get j = some (.exc 55) → E j H') : CW tb.P (n + 4) 248 [.ref L.fk, .int t, .str w] H Q E :=
  foc7 R ht (fun _ => rfl) fun hh hd => say_no (sh_at (tM R ht)) hu (exc7 R ht hd h)
theorem fall_L (hu : (X t).up = true) (h : ∀ H', Rep H' L M fi U (updX X t { X t with up := false }) → Keep L fi H H' → Q .none H') : CW tb.P (n + 3) 249 [.ref L.fk, .int t] H Q E :=
  foc7 R ht (fun _ => rfl) fun hh hd => fall_w (sh_at (tM R ht)) hu (fin7 R ht hd (fun _ => rfl) h)
theorem fallNo_L (hu : (X t).up = false) (h : ∀ j H', Rep H' L M fi U X → Keep L fi H H' → H'.get j = some (.exc 55) → E j H') : CW tb.P (n + 3) 249 [.ref L.fk, .int t] H Q E :=
  foc7 R ht (fun _ => rfl) fun hh hd => fall_no (sh_at (tM R ht)) hu (exc7 R ht hd h)
theorem stands_L (h : ∀ H', Rep H' L M fi U X → Keep L fi H H' → Q (.bool (X t).up) H') : CW tb.P (n + 3) 263 [.ref L.fk, .int t] H Q E :=
  foc7 R ht (fun _ => rfl) fun hh hd => stands_w (sh_at (tM R ht)) (fin0 R ht hd (fun _ => rfl) h)
theorem still_L (h : ∀ H', Rep H' L M fi U X → Keep L fi H H' → Q (.bool false) H') : CW tb.P (n + 4) 266 [.ref L.fk, .int t] H Q E :=
  foc7 R ht (fun _ => rfl) fun hh hd => still_w (sh_at (tM R ht)) (fin0 R ht hd (fun _ => rfl) h)
theorem list_L (hz : fi.length ≤ SZ) (h : ∀ H', Rep H' L M fi U X → Keep L fi H H' → Q (.tup [.int 0, .lst (iV fi)]) H') : CW tb.P (n + 4) 264 [.ref L.fk, .int t] H Q E :=
  foc7 R ht (fun _ => rfl) fun hh hd => list_w (sh_at (tM R ht)) hz (fin0 R ht hd (fun ρ => by show V.tup [.int 0, .lst (renVs ρ (iV fi))] = _; rw [ren_iV]) h)
theorem press_L {fs : List Int} (hu : (X t).up = true) (hf : fi = (t : Int) :: fs) (hz : fi.length ≤ 50) (hU : U.length + (X t).row.length * (oth t fi).length + 50 ≤ SZ) (h : ∀ H', Rep H' L M fi (U ++ prsL t (oth t fi) (X t).row 0 ++ (oth t fi).map fun u => ⟨t, u, .take (X t).took⟩) X → Keep L fi H H' → Q .none H') : CW tb.P (n + 4) 269 [.ref L.fk, .int t] H Q E :=
  foc7 R ht (fun _ => rfl) fun hh hd => press_w (sh_at (tM R ht)) hu rfl hf rfl hz hU (fin7 (x' := X t) R ht hd (fun _ => rfl) fun H' r k => h H' (by
    have e : updX X t (X t) = X := funext fun u => by
      show (if u = t then X t else X u) = X u
      by_cases c : u = t
      · rw [if_pos c, c]
      · rw [if_neg c]
    rw [e] at r; exact r) k)
theorem come_L {p : Nat} {Lt : Letter} (hp : U[p]? = some Lt) (hto : Lt.to = t) (o : Ok7 (dropAt U p) t fi (X t)) (h : ∀ H', Rep H' L M fi (comeF t fi (X t) (dropAt U p) Lt).2 (updX X t (comeF t fi (X t) (dropAt U p) Lt).1) → Keep L fi H H' → Q .none H') : CW tb.P (n + 6) 251 [.ref L.fk, .int p] H Q E :=
  foc7 R ht (fun _ => rfl) fun hh hd => come_w hp hto (sh_at (tM R ht)).at_ o fun g => fin7 R ht hd (fun _ => rfl) h
theorem lose_L {p : Nat} {Lt : Letter} (hp : U[p]? = some Lt) (h : ∀ H', Rep H' L M fi (dropAt U p) X → Keep L fi H H' → Q .none H') : CW tb.P (n + 3) 272 [.ref L.fk, .int p] H Q E :=
  foc7 R ht (fun _ => rfl) fun hh hd => lose_w hp (fin7 (x' := X t) (g := []) R ht hd (fun _ => rfl) fun H' r k => h H' (by
    have e : updX X t (X t) = X := funext fun u => by
      show (if u = t then X t else X u) = X u
      by_cases c : u = t
      · rw [if_pos c, c]
      · rw [if_neg c]
    rw [e] at r; exact r) k)
theorem double_L {p : Nat} {Lt : Letter} (hp : U[p]? = some Lt) (hU : U.length < SZ) (h : ∀ H', Rep H' L M fi (U ++ [Lt]) X → Keep L fi H H' → Q .none H') : CW tb.P (n + 3) 273 [.ref L.fk, .int p] H Q E :=
  foc7 R ht (fun _ => rfl) fun hh hd => double_w hp hU (fin7 (x' := X t) (g := []) R ht hd (fun _ => rfl) fun H' r k => h H' (by
    have e : updX X t (X t) = X := funext fun u => by
      show (if u = t then X t else X u) = X u
      by_cases c : u = t
      · rw [if_pos c, c]
      · rw [if_neg c]
    rw [e] at r; exact r) k)
end
end Mine

end

section
set_option autoImplicit false
set_option linter.all false
set_option genSizeOf false
set_option genInjectivity false
set_option maxRecDepth 20000
namespace Mine
open PySem (Str)
/-- a cell that is no cell of the folk's goes -/
theorem Rep.del {H : Hp} {L : Lay} {M j : Nat} {fi : List Int} {U : List Letter} {X : Nat → H7} {c : C} (R : Rep H L M fi U X) (g : H.get j = some c) (n1 : j ≠ L.fk) (n2 : j ≠ L.un) (n3 : j ∉ L.hs) (n4 : ∀ t : Nat, (t : Int) ∈ fi → j ≠ L.rn t ∧ j ≠ L.on t ∧ j ≠ L.gn t) : Rep (H.del j) L M fi U X := by
  have k : ∀ {i : Nat} {c : C}, H.get i = some c → j ≠ i → (H.del j).get i = some c := fun q n => by rw [Hp.get_del g, if_neg n.symm]; exact q
  exact ⟨k R.fk n1, k R.un n2, R.hl, R.hM, fun t ht => (R.hd t ht).elim fun h d => ⟨h, d.at_, k d.hd (fun z => n3 (z ▸ d.mem)), k d.row (n4 t ht).1, k d.hol (n4 t ht).2.1, d.gon.elim fun c q => ⟨c, k q (n4 t ht).2.2⟩⟩, fun i hi => (R.oth i hi).elim fun c q => ⟨c, k q fun z => n3 (z ▸ hi)⟩, R.apt⟩
theorem Rep.lt {H : Hp} {L : Lay} {M : Nat} {fi : List Int} {U : List Letter} {X : Nat → H7} (R : Rep H L M fi U X) : L.fk < H.next ∧ L.un < H.next ∧ (∀ j ∈ L.hs, j < H.next) ∧ ∀ t : Nat, (t : Int) ∈ fi → L.rn t < H.next ∧ L.on t < H.next ∧ L.gn t < H.next :=
  ⟨atC_lt R.fk, atC_lt R.un, fun j hj => (R.oth j hj).elim fun _ q => atC_lt q, fun t ht => (R.hd t ht).elim fun _ d => ⟨atC_lt d.row, atC_lt d.hol, d.gon.elim fun _ q => atC_lt q⟩⟩
section
variable {n : Nat} {H : Hp} {L : Lay} {M t : Nat} {fi : List Int} {U : List Letter} {X : Nat → H7} {E : Nat → Hp → Prop} (R : Rep H L M fi U X) (ht : (t : Int) ∈ fi)
include R ht
/-- a new list is given back, and frozen -/
theorem new7 {hh : Nat} {xs : List V} {σ : St} {Q : V → St → Prop} (hd : HdR H L fi t hh (X t)) (hx : ∀ ρ, renVs ρ xs = xs) (h : ∀ H', Rep H' L M fi U X → Keep L fi H H' → Q (.lst xs) (σ.setH H')) :
    giveV true (σ.setH (whole7 L t hh M fi U X H ⟨f7 (.int M) (shV t M) U t fi (X t) [some (.list xs)]⟩)) Q (renV (rho (jsL L t hh M) H.next) (.ref 16)) := by
  have len : (jsL L t hh M).length = 16 := js_len R.hl R.hM
  have ej : rho (jsL L t hh M) H.next 16 = H.next := by rw [rho_new (Nat.le_of_eq len), len]; rfl
  have hg : (whole7 L t hh M fi U X H ⟨f7 (.int M) (shV t M) U t fi (X t) [some (.list xs)]⟩).get H.next = some (.list xs) := by
    show (mrg _ _ H _).get _ = _
    rw [mrg_get, if_pos (by rw [len]; show H.next < H.next + (17 - 16); omega)]
    show (match pos (jsL L t hh M) H.next H.next with | some i => mrgC _ _ (atC (f7 (.int M) (shV t M) U t fi (X t) [some (.list xs)]) i) _ | none => _) = _
    rw [show pos (jsL L t hh M) H.next H.next = some 16 by unfold pos; rw [if_pos (Nat.le_refl _), len, Nat.sub_self]]
    show some (C.list (renVs _ xs)) = _
    rw [hx]
  show giveV true _ Q (.ref (rho (jsL L t hh M) H.next 16))
  rw [ej]
  refine fin0 (Q := fun _ H' => H'.get H.next = some (.list xs) → giveV true (σ.setH H') Q (.ref H.next)) (v := .none) R ht hd (fun _ => rfl) (fun H' r k q => ?_) hg
  show (match cL (H'.get H.next) with | some xs => Q (.lst xs) ((σ.setH H').setH (H'.del H.next)) | none => _)
  rw [q]
  obtain ⟨l1, l2, l3, l4⟩ := R.lt
  refine h (H'.del H.next) (r.del q (Nat.ne_of_gt l1) (Nat.ne_of_gt l2) (fun z => absurd (l3 _ z) (Nat.lt_irrefl _)) fun u hu => ⟨Nat.ne_of_gt (l4 u hu).1, Nat.ne_of_gt (l4 u hu).2.1, Nat.ne_of_gt (l4 u hu).2.2⟩) fun i c g n1 n2 n3 n4 => ?_
  rw [Hp.get_del q, if_neg (show i ≠ H.next from Nat.ne_of_lt (atC_lt g))]
  exact k i c g n1 n2 n3 n4
theorem taken_L {σ : St} {Q : V → St → Prop} (h0 : 0 ≤ (X t).took) (hr : (X t).row.length ≤ SZ) (h : ∀ H', Rep H' L M fi U X → Keep L fi H H' → Q (.lst (mV ((X t).row.take (X t).took.toNat))) (σ.setH H')) : CW tb.P (n + 4) 265 [.ref L.fk, .int t] H (fun v H' => giveV true (σ.setH H') Q v) E :=
  foc7 R ht (fun _ => rfl) fun hh hd => taken_w (sh_at (tM R ht)) h0 hr (new7 R ht hd (fun ρ => ren_mV _) h)
theorem ren_l3 {ρ : Nat → Nat} : ∀ l : List Letter, renVs ρ (l.map l3V) = l.map l3V
  | [] => rfl
  | a :: r => congrArg (l3V a :: ·) (ren_l3 r)
theorem letters_L {σ : St} {Q : V → St → Prop} (hU : U.length ≤ SZ) (h : ∀ H', Rep H' L M fi U X → Keep L fi H H' → Q (.lst (U.map l3V)) (σ.setH H')) : CW tb.P (n + 1) 262 [.ref L.fk] H (fun v H' => giveV true (σ.setH H') Q v) E :=
  foc7 R ht (fun _ => rfl) fun hh hd => letters_w hU (new7 R ht hd (fun ρ => ren_l3 R ht _) h)
end
/-- a method of an object's class -/
noncomputable def methOf (P : Prog) (k nm : Nat) : Option Nat := match P.cls k with
  | some c => lk c.meths nm
  | none => none
theorem meth_i {P : Prog} {K : CT} {E : EP} {fz : Bool} {l i k nm f : Nat} {as : PEs} {fs : List (Nat × V)} {σ : St} {Q : V → St → Prop} (hl : σ.loc l = some (.ref i)) (hg : σ.H.get i = some (.inst k fs)) (hm : methOf P k nm = some f) (h : wpEs P K E as σ fun vs σ₂ => callF P K E fz σ₂ (.fn f) (.ref i :: vs) Q) : wpE P K E (.meth fz (.loc l) nm as) σ Q := by
  unfold methOf at hm
  show need (σ.loc l) fun a => need (aRef a) fun i => match σ.H.get i with
    | some (.inst k _) => need (P.cls k) fun c => need (lk c.meths nm) fun f => wpEs P K E as σ fun vs σ₂ => callF P K E fz σ₂ (.fn f) (.ref i :: vs) Q
    | some (.list _) => _
    | some (.dict _) => _
    | _ => False
  rw [hl]
  show (match σ.H.get i with
    | some (.inst k _) => need (P.cls k) fun c => need (lk c.meths nm) fun f => wpEs P K E as σ fun vs σ₂ => callF P K E fz σ₂ (.fn f) (.ref i :: vs) Q
    | some (.list _) => _
    | some (.dict _) => _
    | _ => False)
  rw [hg]
  cases q : P.cls k with
  | none => rw [q] at hm; cases hm
  | some c =>
    rw [q] at hm
    show need (P.cls k) _
    rw [q]
    exact need_ii (o := some c) rfl (need_ii (o := lk c.meths nm) hm h)
theorem m84 : methOf tb.P 60 84 = some 251 := by kernel_rfl
/-! All letters come. -/
theorem f252 : tb.P.fn 252 = some F_Folk_calm := by kernel_rfl
section
variable {n : Nat} {L : Lay} {M : Nat} {fi : List Int} (J : Nat → List Letter → (Nat → H7) → Prop)
  (step : ∀ N Lt U X, J N (Lt :: U) X → ∃ t : Nat, Lt.to = t ∧ (t : Int) ∈ fi ∧ Ok7 U t fi (X t) ∧ ∃ N' : Nat, N' < N ∧ J N' (comeF t fi (X t) U Lt).2 (updX X t (comeF t fi (X t) U Lt).1))
include step
theorem calm_loop (H₀ : Hp) (Q : Flow → St → Prop) (h : ∀ H' X' N' lo c, J N' [] X' → Rep H' L M fi [] X' → Keep L fi H₀ H' → lo 18 = some (.int c) → Q .next ⟨H', lo⟩) : ∀ (F N : Nat) (U : List Letter) (X : Nat → H7) (H : Hp) (lo : Loc) (c : Int), N < F → J N U X → Rep H L M fi U X → Keep L fi H₀ H → lo 108 = some (.ref L.fk) → lo 18 = some (.int c) →
    whileGo (fun σ₁ k => wpT tb.P (CW tb.P (n + 6)) noE (.e (.attr (.loc 108) 124)) σ₁ k) (fun σ₁ k => wpSs tb.P (CW tb.P (n + 6)) L_Folk_calm_1 σ₁ k noE) F ⟨H, lo⟩ Q
  | 0, N, U, X, H, lo, c, hN, hJ, R, K, h1, h2 => absurd hN (Nat.not_lt_zero _)
  | F + 1, N, U, X, H, lo, c, hN, hJ, R, K, h1, h2 => by
    have go : ∀ k : Bool → St → Prop, (k (!(lV U).isEmpty) ⟨H, lo⟩) → wpT tb.P (CW tb.P (n + 6)) noE (.e (.attr (.loc 108) 124)) ⟨H, lo⟩ k := fun k q => by
      refine need_ii (o := lo 108) h1 ?_
      refine need_ii (o := cI (H.get L.fk)) (a := (60, [(18, .int M), (123, .lst (L.hs.map .ref)), (124, .ref L.un)])) (by rw [R.fk]; rfl) ?_
      refine need_ii (o := mL (cL (H.get L.un))) (a := .lst (lV U)) (by rw [R.un]; rfl) ?_
      exact q
    refine go _ ?_
    cases U with
    | nil => exact h H X N lo c hJ R K h2
    | cons Lt U =>
      obtain ⟨t, e1, e2, o, N', hN', hJ'⟩ := step N Lt U X hJ
      show wpSs tb.P (CW tb.P (n + 6)) L_Folk_calm_1 ⟨H, lo⟩ _ noE
      refine meth_i (σ := ⟨H, lo⟩) h1 R.fk m84 ?_
      refine come_L (n := n) (p := 0) R e2 rfl e1 o fun H' R' K' => ?_
      refine gv rfl ?_
      refine need_ii (o := lo 18) h2 ?_
      exact calm_loop H₀ Q h F N' _ _ H' (upd lo 18 (.int (c + 1))) (c + 1) (by omega) hJ' R' (K.trans K') h1 rfl
theorem calm_L {N : Nat} {U : List Letter} {X : Nat → H7} {H : Hp} {Q : V → Hp → Prop} {E : Nat → Hp → Prop} (hJ : J N U X) (R : Rep H L M fi U X) (h : ∀ H' X' N' c, J N' [] X' → Rep H' L M fi [] X' → Keep L fi H H' → Q (.int c) H') : CW tb.P (n + 7) 252 [.ref L.fk] H Q E := by
  refine call_i _ _ _ f252 rfl ?_
  refine ⟨N + 1, ?_⟩
  refine calm_loop J step H _ (fun H' X' N' lo c j r k e => ?_) (N + 1) N U X H _ 0 (Nat.lt_succ_self N) hJ R (fun j c q _ _ _ _ => q) rfl rfl
  refine need_ii (o := lo 18) e ?_
  exact h H' X' N' c j r k
end
end Mine

end

section
set_option autoImplicit false
set_option linter.all false
set_option genSizeOf false
set_option genInjectivity false
set_option maxRecDepth 20000
namespace Mine
open PySem (Str)
/-! The folk is made. -/
noncomputable def hG (k : Int) (pl hi ms : V) (g r d : Nat) : List (Nat × V) := [(109, .int k), (110, pl), (111, hi), (17, ms), (112, .int 0), (113, .bool true), (114, .ref g), (115, .none), (23, .ref r), (116, .int 0), (117, .bool false), (118, .tup [.int 0, .int (-1)]), (119, .none), (120, .none), (121, .ref d)]
theorem ble_le {a b : Nat} (h : Nat.ble a b = true) : a ≤ b := Nat.le_of_ble_eq_true h
theorem mrg_new {js : List Nat} {H₀ H H₁ : Hp} {i : Nat} {c₁ : C} (hi : js.length ≤ i) (g1 : H₁.get i = some c₁) : (mrg js H₀ H H₁).get (H.next + (i - js.length)) = some (renC (rho js H.next) c₁) := by
  have lt : i < H₁.next := atC_lt g1
  rw [mrg_get, if_pos (by omega)]
  show (match pos js H.next (H.next + (i - js.length)) with | some i => mrgC _ (H₀.get i) (H₁.get i) _ | none => _) = _
  rw [pos_new hi]
  show mrgC _ (H₀.get i) (H₁.get i) _ = _
  rw [g1]; rfl
theorem mrg_out {js : List Nat} {H₀ H H₁ : Hp} {j : Nat} {c : C} (g : H.get j = some c) (n : j ∉ js) : (mrg js H₀ H H₁).get j = some c := mrg_hid g fun i p => absurd (List.mem_of_getElem? (pos0_some p)) n
section
variable {n : Nat} {Q : V → Hp → Prop} {E : Nat → Hp → Prop}
theorem f238 : tb.P.fn 238 = some F_Hand_begin := by kernel_rfl
theorem f237 : tb.P.fn 237 = some F_Hand___init__ := by kernel_rfl
theorem f239 : tb.P.fn 239 = some F_Hand_goes_into := by kernel_rfl
/-- a store into the object in cell 0 -/
noncomputable def attrOk (P : Prog) (k nm : Nat) : Bool := match P.cls k with
  | some c => c.attrs.contains nm
  | none => false
theorem sa {P : Prog} {K : CT} {E : EP} {e : PE} {nm k : Nat} {v : V} {fs fs' : List (Nat × V)} {r r' : List (Option C)} {lo : Loc} {rest : PSs} {Q : Flow → St → Prop} (hl : lo 108 = some (.ref 0)) (he : ∀ Q' : V → St → Prop, Q' v ⟨⟨some (.inst k fs) :: r'⟩, lo⟩ → wpE P K E e ⟨⟨some (.inst k fs) :: r⟩, lo⟩ Q') (hc : attrOk P k nm = true) (hs : st fs nm v = fs') (hz : fs.length < 1000)
    (h : wpSs P K rest ⟨⟨some (.inst k fs') :: r'⟩, lo⟩ Q E) : wpSs P K (.cons (.assign (.attr (.loc 108) nm) e) rest) ⟨⟨some (.inst k fs) :: r⟩, lo⟩ Q E := by
  subst hs
  refine he _ ?_
  refine need_ii (o := lo 108) hl ?_
  unfold attrOk at hc
  cases q : P.cls k with
  | none => rw [q] at hc; cases hc
  | some c =>
    rw [q] at hc
    exact need_ii (o := P.cls k) q ⟨hc, hz, h⟩
theorem begA {k : Int} {Q : V → Hp → Prop} {E : Nat → Hp → Prop} (h : Q .none ⟨some (.inst 59 [(109, .int k), (110, .none), (111, .int (-1)), (17, .lst []), (112, .int 0), (113, .bool true), (114, .ref 1), (115, .none), (23, .ref 2), (116, .int 0), (117, .bool false), (118, .tup [.int 0, .int (-1)]), (119, .none), (120, .none), (121, .ref 3)]) :: [some (.list []), some (.list []), some (.dict [])]⟩) : CW tb.P (n + 1) 238 [.ref 0] ⟨some (.inst 59 [(109, .int k), (110, .none), (111, .int (-1)), (17, .lst []), (112, .int 0), (113, .bool true), (114, .ref 1), (115, .none)]) :: [some (.list [])]⟩ Q E := by
  refine call_i _ _ _ f238 rfl ?_
  refine sa (v := .ref 2) (fs' := [(109, .int k), (110, .none), (111, .int (-1)), (17, .lst []), (112, .int 0), (113, .bool true), (114, .ref 1), (115, .none), (23, .ref 2)]) (r' := [some (.list []), some (.list [])]) rfl (fun Q' q => ⟨ble_le rfl, q⟩) (by kernel_rfl) rfl (ble_le rfl) ?_
  refine sa (v := .int 0) (fs' := [(109, .int k), (110, .none), (111, .int (-1)), (17, .lst []), (112, .int 0), (113, .bool true), (114, .ref 1), (115, .none), (23, .ref 2), (116, .int 0)]) (r' := [some (.list []), some (.list [])]) rfl (fun Q' q => q) (by kernel_rfl) rfl (ble_le rfl) ?_
  refine sa (v := .bool false) (fs' := [(109, .int k), (110, .none), (111, .int (-1)), (17, .lst []), (112, .int 0), (113, .bool true), (114, .ref 1), (115, .none), (23, .ref 2), (116, .int 0), (117, .bool false)]) (r' := [some (.list []), some (.list [])]) rfl (fun Q' q => q) (by kernel_rfl) rfl (ble_le rfl) ?_
  refine sa (v := .tup [.int 0, .int (-1)]) (fs' := [(109, .int k), (110, .none), (111, .int (-1)), (17, .lst []), (112, .int 0), (113, .bool true), (114, .ref 1), (115, .none), (23, .ref 2), (116, .int 0), (117, .bool false), (118, .tup [.int 0, .int (-1)])]) (r' := [some (.list []), some (.list [])]) rfl (fun Q' q => ⟨ble_le rfl, q⟩) (by kernel_rfl) rfl (ble_le rfl) ?_
  refine sa (v := .none) (fs' := [(109, .int k), (110, .none), (111, .int (-1)), (17, .lst []), (112, .int 0), (113, .bool true), (114, .ref 1), (115, .none), (23, .ref 2), (116, .int 0), (117, .bool false), (118, .tup [.int 0, .int (-1)]), (119, .none)]) (r' := [some (.list []), some (.list [])]) rfl (fun Q' q => q) (by kernel_rfl) rfl (ble_le rfl) ?_
  refine sa (v := .none) (fs' := [(109, .int k), (110, .none), (111, .int (-1)), (17, .lst []), (112, .int 0), (113, .bool true), (114, .ref 1), (115, .none), (23, .ref 2), (116, .int 0), (117, .bool false), (118, .tup [.int 0, .int (-1)]), (119, .none), (120, .none)]) (r' := [some (.list []), some (.list [])]) rfl (fun Q' q => q) (by kernel_rfl) rfl (ble_le rfl) ?_
  refine sa (v := .ref 3) (fs' := [(109, .int k), (110, .none), (111, .int (-1)), (17, .lst []), (112, .int 0), (113, .bool true), (114, .ref 1), (115, .none), (23, .ref 2), (116, .int 0), (117, .bool false), (118, .tup [.int 0, .int (-1)]), (119, .none), (120, .none), (121, .ref 3)]) (r' := [some (.list []), some (.list []), some (.dict [])]) rfl (fun Q' q => ⟨ble_le rfl, rfl, q⟩) (by kernel_rfl) rfl (ble_le rfl) ?_
  exact h
theorem begB {k : Int} {Q : V → Hp → Prop} {E : Nat → Hp → Prop} (h : Q .none ⟨some (.inst 59 [(109, .int k), (110, .none), (111, .int (-1)), (17, .lst []), (112, .int 0), (113, .bool true), (114, .ref 1), (115, .none), (23, .ref 4), (116, .int 0), (117, .bool false), (118, .tup [.int 0, .int (-1)]), (119, .none), (120, .none), (121, .ref 5)]) :: [none, none, none, some (.list []), some (.dict [])]⟩) : CW tb.P (n + 1) 238 [.ref 0] ⟨some (.inst 59 [(109, .int k), (110, .none), (111, .int (-1)), (17, .lst []), (112, .int 0), (113, .bool true), (114, .ref 1), (115, .none), (23, .ref 2), (116, .int 0), (117, .bool false), (118, .tup [.int 0, .int (-1)]), (119, .none), (120, .none), (121, .ref 3)]) :: [none, none, none]⟩ Q E := by
  refine call_i _ _ _ f238 rfl ?_
  refine sa (v := .ref 4) (fs' := [(109, .int k), (110, .none), (111, .int (-1)), (17, .lst []), (112, .int 0), (113, .bool true), (114, .ref 1), (115, .none), (23, .ref 4), (116, .int 0), (117, .bool false), (118, .tup [.int 0, .int (-1)]), (119, .none), (120, .none), (121, .ref 3)]) (r' := [none, none, none, some (.list [])]) rfl (fun Q' q => ⟨ble_le rfl, q⟩) (by kernel_rfl) rfl (ble_le rfl) ?_
  refine sa (v := .int 0) (fs' := [(109, .int k), (110, .none), (111, .int (-1)), (17, .lst []), (112, .int 0), (113, .bool true), (114, .ref 1), (115, .none), (23, .ref 4), (116, .int 0), (117, .bool false), (118, .tup [.int 0, .int (-1)]), (119, .none), (120, .none), (121, .ref 3)]) (r' := [none, none, none, some (.list [])]) rfl (fun Q' q => q) (by kernel_rfl) rfl (ble_le rfl) ?_
  refine sa (v := .bool false) (fs' := [(109, .int k), (110, .none), (111, .int (-1)), (17, .lst []), (112, .int 0), (113, .bool true), (114, .ref 1), (115, .none), (23, .ref 4), (116, .int 0), (117, .bool false), (118, .tup [.int 0, .int (-1)]), (119, .none), (120, .none), (121, .ref 3)]) (r' := [none, none, none, some (.list [])]) rfl (fun Q' q => q) (by kernel_rfl) rfl (ble_le rfl) ?_
  refine sa (v := .tup [.int 0, .int (-1)]) (fs' := [(109, .int k), (110, .none), (111, .int (-1)), (17, .lst []), (112, .int 0), (113, .bool true), (114, .ref 1), (115, .none), (23, .ref 4), (116, .int 0), (117, .bool false), (118, .tup [.int 0, .int (-1)]), (119, .none), (120, .none), (121, .ref 3)]) (r' := [none, none, none, some (.list [])]) rfl (fun Q' q => ⟨ble_le rfl, q⟩) (by kernel_rfl) rfl (ble_le rfl) ?_
  refine sa (v := .none) (fs' := [(109, .int k), (110, .none), (111, .int (-1)), (17, .lst []), (112, .int 0), (113, .bool true), (114, .ref 1), (115, .none), (23, .ref 4), (116, .int 0), (117, .bool false), (118, .tup [.int 0, .int (-1)]), (119, .none), (120, .none), (121, .ref 3)]) (r' := [none, none, none, some (.list [])]) rfl (fun Q' q => q) (by kernel_rfl) rfl (ble_le rfl) ?_
  refine sa (v := .none) (fs' := [(109, .int k), (110, .none), (111, .int (-1)), (17, .lst []), (112, .int 0), (113, .bool true), (114, .ref 1), (115, .none), (23, .ref 4), (116, .int 0), (117, .bool false), (118, .tup [.int 0, .int (-1)]), (119, .none), (120, .none), (121, .ref 3)]) (r' := [none, none, none, some (.list [])]) rfl (fun Q' q => q) (by kernel_rfl) rfl (ble_le rfl) ?_
  refine sa (v := .ref 5) (fs' := [(109, .int k), (110, .none), (111, .int (-1)), (17, .lst []), (112, .int 0), (113, .bool true), (114, .ref 1), (115, .none), (23, .ref 4), (116, .int 0), (117, .bool false), (118, .tup [.int 0, .int (-1)]), (119, .none), (120, .none), (121, .ref 5)]) (r' := [none, none, none, some (.list []), some (.dict [])]) rfl (fun Q' q => ⟨ble_le rfl, rfl, q⟩) (by kernel_rfl) rfl (ble_le rfl) ?_
  exact h
theorem init_w {k : Int} (h : Q .none ⟨[some (.inst 59 (hG k .none (.int (-1)) (.lst []) 1 2 3)), some (.list []), some (.list []), some (.dict [])]⟩) : CW tb.P (n + 2) 237 [.ref 0, .int k] ⟨[some (.inst 59 [])]⟩ Q E := by
  refine call_i _ _ _ f237 rfl ?_
  refine sa (v := .int k) (fs' := [(109, .int k)]) (r' := []) rfl (fun Q' q => q) (by kernel_rfl) rfl (ble_le rfl) ?_
  refine sa (v := .none) (fs' := [(109, .int k), (110, .none)]) (r' := []) rfl (fun Q' q => q) (by kernel_rfl) rfl (ble_le rfl) ?_
  refine sa (v := .int (-1)) (fs' := [(109, .int k), (110, .none), (111, .int (-1))]) (r' := []) rfl (fun Q' q => q) (by kernel_rfl) rfl (ble_le rfl) ?_
  refine sa (v := .lst []) (fs' := [(109, .int k), (110, .none), (111, .int (-1)), (17, .lst [])]) (r' := []) rfl (fun Q' q => ⟨ble_le rfl, q⟩) (by kernel_rfl) rfl (ble_le rfl) ?_
  refine sa (v := .int 0) (fs' := [(109, .int k), (110, .none), (111, .int (-1)), (17, .lst []), (112, .int 0)]) (r' := []) rfl (fun Q' q => q) (by kernel_rfl) rfl (ble_le rfl) ?_
  refine sa (v := .bool true) (fs' := [(109, .int k), (110, .none), (111, .int (-1)), (17, .lst []), (112, .int 0), (113, .bool true)]) (r' := []) rfl (fun Q' q => q) (by kernel_rfl) rfl (ble_le rfl) ?_
  refine sa (v := .ref 1) (fs' := [(109, .int k), (110, .none), (111, .int (-1)), (17, .lst []), (112, .int 0), (113, .bool true), (114, .ref 1)]) (r' := [some (.list [])]) rfl (fun Q' q => ⟨ble_le rfl, q⟩) (by kernel_rfl) rfl (ble_le rfl) ?_
  refine sa (v := .none) (fs' := [(109, .int k), (110, .none), (111, .int (-1)), (17, .lst []), (112, .int 0), (113, .bool true), (114, .ref 1), (115, .none)]) (r' := [some (.list [])]) rfl (fun Q' q => q) (by kernel_rfl) rfl (ble_le rfl) ?_
  refine begA ?_
  exact h
/-- a hand is made -/
structure Made (H H' : Hp) (j : Nat) (k : Int) : Prop where
  nx : H'.next = H.next + 3
  hd : H'.get j = some (.inst 59 (hG k .none (.int (-1)) (.lst []) H.next (H.next + 1) (H.next + 2)))
  g : H'.get H.next = some (.list [])
  r : H'.get (H.next + 1) = some (.list [])
  d : H'.get (H.next + 2) = some (.dict [])
  kp : ∀ i c, H.get i = some c → i ≠ j → H'.get i = some c
theorem init_L {H : Hp} {j : Nat} {k : Int} (hj : H.get j = some (.inst 59 [])) (h : ∀ H', Made H H' j k → Q .none H') : CW tb.P (n + 2) 237 [.ref j, .int k] H Q E := by
  have p0 : pos0 [j] j = some 0 := pos0_self
  refine .foc [j] [.ref 0, .int k] ⟨[some (.inst 59 [])]⟩ ⟨rfl, fun i hi => atC_ge hi, fun i hi => ⟨_, (List.mem_singleton.mp hi) ▸ hj⟩, fun i c g => ?_⟩ rfl (init_w ?_)
  · match i, g with
    | 0, g => cases g; exact ⟨j, rfl, p0, hj⟩
    | i + 1, g => exact absurd (atC_lt (show atC [some (.inst 59 [])] (i + 1) = some c from g)) (by show ¬ i + 1 < 1; omega)
  · refine h _ ⟨?_, ?_, ?_, ?_, ?_, fun i c g ne => mrg_out g fun z => ne (List.mem_singleton.mp z)⟩
    · rw [mrg_len]; rfl
    · exact mrg_at (c₁ := .inst 59 (hG k .none (.int (-1)) (.lst []) 1 2 3)) hj p0 rfl
    · exact mrg_new (js := [j]) (i := 1) (c₁ := .list []) (Nat.le_refl 1) rfl
    · exact mrg_new (js := [j]) (i := 2) (c₁ := .list []) (by show 1 ≤ 2; decide) rfl
    · exact mrg_new (js := [j]) (i := 3) (c₁ := .dict []) (by show 1 ≤ 3; decide) rfl
theorem into_w {k : Int} {ms : List Int} (hz : ms.length ≤ SZ) (h : Q .none ⟨[some (.inst 59 (hG k (.int 0) (.int 0) (.lst (iV ms)) 1 4 5)), none, none, none, some (.list []), some (.dict [])]⟩) :
    CW tb.P (n + 2) 239 [.ref 0, .int 0, .lst (iV ms), .none] ⟨[some (.inst 59 (hG k .none (.int (-1)) (.lst []) 1 2 3)), none, none, none]⟩ Q E := by
  refine call_i _ _ _ f239 rfl ?_
  refine begB ?_
  refine gv rfl ?_
  refine sa (v := .int 0) (fs' := [(109, .int k), (110, .int 0), (111, .int (-1)), (17, .lst []), (112, .int 0), (113, .bool true), (114, .ref 1), (115, .none), (23, .ref 4), (116, .int 0), (117, .bool false), (118, .tup [.int 0, .int (-1)]), (119, .none), (120, .none), (121, .ref 5)]) (r' := [none, none, none, some (.list []), some (.dict [])]) rfl (fun Q' q => q) (by kernel_rfl) rfl (ble_le rfl) ?_
  refine sa (v := .lst (iV ms)) (fs' := [(109, .int k), (110, .int 0), (111, .int (-1)), (17, .lst (iV ms)), (112, .int 0), (113, .bool true), (114, .ref 1), (115, .none), (23, .ref 4), (116, .int 0), (117, .bool false), (118, .tup [.int 0, .int (-1)]), (119, .none), (120, .none), (121, .ref 5)]) (r' := [none, none, none, some (.list []), some (.dict [])]) rfl (fun Q' q => ⟨by rw [iV_len]; exact hz, q⟩) (by kernel_rfl) rfl (ble_le rfl) ?_
  refine sa (v := .none) (fs' := [(109, .int k), (110, .int 0), (111, .int (-1)), (17, .lst (iV ms)), (112, .int 0), (113, .bool true), (114, .ref 1), (115, .none), (23, .ref 4), (116, .int 0), (117, .bool false), (118, .tup [.int 0, .int (-1)]), (119, .none), (120, .none), (121, .ref 5)]) (r' := [none, none, none, some (.list []), some (.dict [])]) rfl (fun Q' q => q) (by kernel_rfl) rfl (ble_le rfl) ?_
  refine ⟨rfl, ?_⟩
  refine sa (rest := .nil) (v := .int 0) (fs' := [(109, .int k), (110, .int 0), (111, .int 0), (17, .lst (iV ms)), (112, .int 0), (113, .bool true), (114, .ref 1), (115, .none), (23, .ref 4), (116, .int 0), (117, .bool false), (118, .tup [.int 0, .int (-1)]), (119, .none), (120, .none), (121, .ref 5)]) (r' := [none, none, none, some (.list []), some (.dict [])]) rfl (fun Q' q => q) (by kernel_rfl) rfl (ble_le rfl) ?_
  exact h
/-- a hand goes into the first list -/
structure Into (H H' : Hp) (j : Nat) (k : Int) (ms : List Int) (g : Nat) : Prop where
  nx : H'.next = H.next + 2
  hd : H'.get j = some (.inst 59 (hG k (.int 0) (.int 0) (.lst (iV ms)) g H.next (H.next + 1)))
  r : H'.get H.next = some (.list [])
  d : H'.get (H.next + 1) = some (.dict [])
  kp : ∀ i c, H.get i = some c → i ≠ j → H'.get i = some c
theorem into_L {H : Hp} {j g r d : Nat} {k : Int} {ms : List Int} (hj : H.get j = some (.inst 59 (hG k .none (.int (-1)) (.lst []) g r d))) (hg : ∃ c, H.get g = some c) (hr : ∃ c, H.get r = some c) (hd : ∃ c, H.get d = some c) (hz : ms.length ≤ SZ) (h : ∀ H', Into H H' j k ms g → Q .none H') :
    CW tb.P (n + 2) 239 [.ref j, .int 0, .lst (iV ms), .none] H Q E := by
  have p0 : pos0 [j, g, r, d] j = some 0 := pos0_self
  refine .foc [j, g, r, d] [.ref 0, .int 0, .lst (iV ms), .none] ⟨[some (.inst 59 (hG k .none (.int (-1)) (.lst []) 1 2 3)), none, none, none]⟩ ⟨rfl, fun i hi => atC_ge hi, fun i hi => ?_, fun i c gg => ?_⟩ ?_ (into_w hz ?_)
  · rcases List.mem_cons.mp hi with z | hi
    · exact ⟨_, z ▸ hj⟩
    rcases List.mem_cons.mp hi with z | hi
    · exact z ▸ hg
    rcases List.mem_cons.mp hi with z | hi
    · exact z ▸ hr
    rcases List.mem_cons.mp hi with z | hi
    · exact z ▸ hd
    cases hi
  · match i, gg with
    | 0, gg => cases gg; exact ⟨j, rfl, p0, hj⟩
    | 1, gg => cases gg
    | 2, gg => cases gg
    | 3, gg => cases gg
    | i + 4, gg => exact absurd (atC_lt gg) (by show ¬ i + 4 < 4; omega)
  · show _ = [V.ref j, .int 0, .lst (renVs _ (iV ms)), .none]
    rw [ren_iV]
  · have hid : ∀ i c, H.get i = some c → i ≠ j → (mrg [j, g, r, d] ⟨[some (.inst 59 (hG k .none (.int (-1)) (.lst []) 1 2 3)), none, none, none]⟩ H ⟨[some (.inst 59 (hG k (.int 0) (.int 0) (.lst (iV ms)) 1 4 5)), none, none, none, some (.list []), some (.dict [])]⟩).get i = some c := fun i c q ne => mrg_hid q fun i' p => by
      have e := pos0_some p
      match i', e with
      | 0, e => exact absurd (Option.some.inj e).symm ne
      | 1, _ => exact ⟨rfl, rfl⟩
      | 2, _ => exact ⟨rfl, rfl⟩
      | 3, _ => exact ⟨rfl, rfl⟩
      | i' + 4, e => cases e
    refine h _ ⟨?_, ?_, ?_, ?_, hid⟩
    · rw [mrg_len]; rfl
    · refine (mrg_at hj p0 (c₁ := .inst 59 (hG k (.int 0) (.int 0) (.lst (iV ms)) 1 4 5)) rfl).trans ?_
      show some (C.inst 59 [_, _, _, (17, .lst (renVs _ (iV ms))), _, _, _, _, _, _, _, _, _, _, _]) = _
      rw [ren_iV]; rfl
    · exact mrg_new (js := [j, g, r, d]) (i := 4) (c₁ := .list []) (Nat.le_refl 4) rfl
    · exact mrg_new (js := [j, g, r, d]) (i := 5) (c₁ := .dict []) (by show 4 ≤ 5; decide) rfl
end
end Mine

end

section
set_option autoImplicit false
set_option linter.all false
set_option genSizeOf false
set_option genInjectivity false
set_option maxRecDepth 20000
namespace Mine
open PySem (Str)
section
variable {n : Nat} {Q : V → Hp → Prop} {E : Nat → Hp → Prop}
/-- a list of hands -/
structure Fi (M : Nat) (fi : List Int) : Prop where
  ne : fi ≠ []
  up : fi.Pairwise (· < ·)
  lt : ∀ i ∈ fi, 0 ≤ i ∧ i < M
theorem Fi.len {M : Nat} {fi : List Int} (h : Fi M fi) : fi.length ≤ M := by
  have key : ∀ (l : List Int) (a : Int) (k : Nat), l.Pairwise (· < ·) → (∀ i ∈ l, a ≤ i ∧ i < a + k) → l.length ≤ k := fun l => by
    induction l with
    | nil => exact fun _ _ _ _ => Nat.zero_le _
    | cons x r ih =>
      intro a k hp hb
      have hp := List.pairwise_cons.mp hp
      have b := hb x (.head _)
      have := ih (x + 1) (k - 1) hp.2 fun i hi => by
        have := hp.1 i hi
        have := hb i (.tail _ hi)
        omega
      rw [List.length_cons]; omega
  exact key fi 0 M h.up fun i hi => by have := h.lt i hi; omega
theorem f7l : tb.P.fn 7 = some F_is_list := by kernel_rfl
theorem isl_loop {M : Nat} {H : Hp} (to : List V) (Q : Flow → St → Prop) : ∀ (xs : List Int) (a : Int) (lo : Loc), lo 18 = some (.int M) → lo 19 = some (.int a) → (a :: xs).Pairwise (· < ·) → (∀ i ∈ xs, i < M) → (∀ lo', Q .next ⟨H, lo'⟩) →
    loopGo (fun v σ₂ k => bindT [20] v σ₂ fun σ₃ => wpSs tb.P (CW tb.P (n + 1)) L_is_list_1 σ₃ k noE) (still (.lst to) to) (iV xs) ⟨H, lo⟩ Q
  | [], a, lo, h1, h2, hp, hb, h => ⟨rfl, h lo⟩
  | x :: xs, a, lo, h1, h2, hp, hb, h => by
    have hp := List.pairwise_cons.mp hp
    have ax := hp.1 x (.head _)
    have xM := hb x (.head _)
    refine ⟨rfl, ?_⟩
    refine whole_w ?_
    refine gv rfl ?_
    refine need_ii (o := lo 19) h2 ?_
    refine Br_n (b := decide (x ≤ a)) (decide_eq_false (by omega)) ?_
    refine need_ii (o := lo 18) h1 ?_
    refine Br_n (b := decide ((M : Int) ≤ x)) (decide_eq_false (by omega)) ?_
    exact isl_loop to Q xs x (upd (upd lo 20 (.int x)) 19 (.int x)) h1 rfl hp.2 (fun i hi => hb i (.tail _ hi)) h
theorem isl_w {M : Nat} {fi : List Int} {H : Hp} (f : Fi M fi) (h : Q (.bool true) H) : CW tb.P (n + 2) 7 [.lst (iV fi), .int M] H Q E := by
  refine call_i _ _ _ f7l rfl ?_
  refine Br_n (b := decide (((iV fi).length : Int) = 0)) (decide_eq_false fun z => f.ne (List.length_eq_zero_iff.mp (by rw [iV_len] at z; omega))) ?_
  refine isl_loop (iV fi) _ fi (-1) _ rfl rfl (List.pairwise_cons.mpr ⟨fun i hi => by have := f.lt i hi; omega, f.up⟩) (fun i hi => (f.lt i hi).2) fun lo' => ?_
  exact h
/-- a store into an object -/
theorem saL {P : Prog} {K : CT} {E : EP} {e : PE} {nm k j : Nat} {v : V} {fs : List (Nat × V)} {H H₁ : Hp} {lo : Loc} {rest : PSs} {Q : Flow → St → Prop} (hl : lo 108 = some (.ref j)) (he : ∀ Q' : V → St → Prop, Q' v ⟨H₁, lo⟩ → wpE P K E e ⟨H, lo⟩ Q') (hg : H₁.get j = some (.inst k fs)) (hc : attrOk P k nm = true) (hz : fs.length < 1000)
    (h : wpSs P K rest ⟨H₁.set j (.inst k (st fs nm v)), lo⟩ Q E) : wpSs P K (.cons (.assign (.attr (.loc 108) nm) e) rest) ⟨H, lo⟩ Q E := by
  refine he _ ?_
  refine need_ii (o := lo 108) hl ?_
  refine need_ii (o := cI (H₁.get j)) (a := (k, fs)) (by rw [hg]; rfl) ?_
  unfold attrOk at hc
  cases q : P.cls k with
  | none => rw [q] at hc; cases hc
  | some c =>
    rw [q] at hc
    exact need_ii (o := P.cls k) q ⟨hc, hz, h⟩
/-- a hand as it was made -/
structure HN (H : Hp) (h w : Nat) : Prop where
  hd : H.get h = some (.inst 59 (hG w .none (.int (-1)) (.lst []) (h + 1) (h + 2) (h + 3)))
  g : H.get (h + 1) = some (.list [])
  r : H.get (h + 2) = some (.list [])
  d : H.get (h + 3) = some (.dict [])
/-- u hands are made, from number b on -/
structure MkI (H : Hp) (j b M u : Nat) : Prop where
  nx : H.next = b + 4 * u
  jb : j < b
  fk : H.get j = some (.inst 60 [(18, .int M)])
  hn : ∀ w, w < u → HN H (b + 4 * w) w
theorem MkI.step {H H' : Hp} {j b M u : Nat} (I : MkI H j b M u) (m : Made (H.new (.inst 59 [])) H' H.next u) : MkI H' j b M (u + 1) := by
  have nx := I.nx
  have kp : ∀ i c, H.get i = some c → H'.get i = some c := fun i c g => by
    have lt : i < H.next := atC_lt g
    exact m.kp i c (by rw [Hp.get_new, if_neg (Nat.ne_of_lt lt)]; exact g) (Nat.ne_of_lt lt)
  have en : (H.new (.inst 59 [])).next = H.next + 1 := Hp.next_new
  refine ⟨?_, I.jb, kp _ _ I.fk, fun w hw => ?_⟩
  · rw [m.nx, en, nx]; omega
  · by_cases c : w = u
    · subst c
      have a := m.hd; have b1 := m.g; have b2 := m.r; have b3 := m.d
      rw [en] at a b1 b2 b3
      rw [← nx]
      exact ⟨a, b1, b2, b3⟩
    · have d := I.hn w (by omega)
      exact ⟨kp _ _ d.hd, kp _ _ d.g, kp _ _ d.r, kp _ _ d.d⟩
theorem rngL_range (k : Nat) : ∀ a : Nat, rngL (a : Int) 1 k = (List.range' a k).map fun u => V.int (u : Nat) := by
  induction k with
  | zero => exact fun _ => rfl
  | succ k ih =>
    intro a
    show V.int a :: rngL ((a : Int) + 1) 1 k = _
    rw [show ((a : Int) + 1) = ((a + 1 : Nat) : Int) from rfl, ih (a + 1)]; rfl
theorem mk_comp {j b M : Nat} (v : V) (all : List V) (hv : ∀ H, items H v = some all) (hM : M ≤ 9) (Q : List V → St → Prop) : ∀ (k u : Nat) (H : Hp) (lo : Loc), u + k = M → MkI H j b M u → (∀ H' lo', MkI H' j b M M → Q ((List.range M).map fun w => .ref (b + 4 * w)) ⟨H', lo'⟩) →
    compGo (fun σ₂ k => wpC tb.P (CW tb.P (n + 2)) noE .none σ₂ k) (fun σ₂ k => wpE tb.P (CW tb.P (n + 2)) noE (.call true (.glob 59) (.cons (.loc 109) .nil)) σ₂ k) [109] (still v all) ((List.range' u k).map fun u => V.int (u : Nat)) ((List.range u).map fun w => .ref (b + 4 * w)) ⟨H, lo⟩ Q
  | 0, u, H, lo, e, I, h => by
    have : u = M := by omega
    subst this
    exact ⟨hv H, by rw [List.length_map, List.length_range]; unfold SZ; omega, h H lo I⟩
  | k + 1, u, H, lo, e, I, h => by
    refine ⟨hv H, by rw [List.length_map, List.length_range]; unfold SZ; omega, ?_⟩
    refine init_L (H := H.new (.inst 59 [])) (j := H.next) (by rw [Hp.get_new, if_pos rfl]) fun H' m => ?_
    refine ⟨rfl, ?_⟩
    have e2 : ((List.range u).map fun w => V.ref (b + 4 * w)) ++ [V.ref H.next] = (List.range (u + 1)).map fun w => V.ref (b + 4 * w) := by
      rw [List.range_succ, List.map_append, I.nx]; rfl
    show compGo _ _ [109] _ ((List.range' (u + 1) k).map fun u => V.int (u : Nat)) (((List.range u).map fun w => V.ref (b + 4 * w)) ++ [V.ref H.next]) ⟨H', upd lo 109 (.int u)⟩ Q
    rw [e2]
    exact mk_comp v all hv hM Q k (u + 1) H' _ (by omega) (I.step m) h
end
end Mine

end

section
set_option autoImplicit false
set_option linter.all false
set_option genSizeOf false
set_option genInjectivity false
set_option maxRecDepth 20000
namespace Mine
open PySem (Str)
theorem meth_o {P : Prog} {K : CT} {E : EP} {fz : Bool} {o : PE} {i k nm f : Nat} {as : PEs} {fs : List (Nat × V)} {σ : St} {Q : V → St → Prop} (ho : ∀ Q' : V → St → Prop, Q' (.ref i) σ → wpE P K E o σ Q') (hg : σ.H.get i = some (.inst k fs)) (hm : methOf P k nm = some f) (h : wpEs P K E as σ fun vs σ₂ => callF P K E fz σ₂ (.fn f) (.ref i :: vs) Q) : wpE P K E (.meth fz o nm as) σ Q := by
  unfold methOf at hm
  refine ho _ ?_
  show (match σ.H.get i with
    | some (.inst k _) => need (P.cls k) fun c => need (lk c.meths nm) fun f => wpEs P K E as σ fun vs σ₂ => callF P K E fz σ₂ (.fn f) (.ref i :: vs) Q
    | some (.list _) => _
    | some (.dict _) => _
    | _ => False)
  rw [hg]
  cases q : P.cls k with
  | none => rw [q] at hm; cases hm
  | some c =>
    rw [q] at hm
    show need (P.cls k) _
    rw [q]
    exact need_ii (o := some c) rfl (need_ii (o := lk c.meths nm) hm h)
/-- q hands of the list went in -/
structure GoI (H : Hp) (j b M : Nat) (fi : List Int) (q : Nat) : Prop where
  nx : H.next = b + 4 * M + 1 + 2 * q
  jb : j < b
  fk : H.get j = some (.inst 60 [(18, .int M), (123, .lst ((List.range M).map fun w => .ref (b + 4 * w))), (124, .ref (b + 4 * M))])
  un : H.get (b + 4 * M) = some (.list [])
  inn : ∀ p t : Nat, p < q → fi[p]? = some (t : Int) → H.get (b + 4 * t) = some (.inst 59 (hG t (.int 0) (.int 0) (.lst (iV fi)) (b + 4 * t + 1) (b + 4 * M + 1 + 2 * p) (b + 4 * M + 1 + 2 * p + 1))) ∧ H.get (b + 4 * M + 1 + 2 * p) = some (.list []) ∧ H.get (b + 4 * M + 1 + 2 * p + 1) = some (.dict [])
  out : ∀ w, w < M → (∀ p, p < q → fi[p]? ≠ some (w : Int)) → HN H (b + 4 * w) w
  all : ∀ w, w < M → (∃ c, H.get (b + 4 * w) = some c) ∧ ∃ c, H.get (b + 4 * w + 1) = some c
theorem GoI.step {H H' : Hp} {j b M q t : Nat} {fi : List Int} (f : Fi M fi) (I : GoI H j b M fi q) (hq : fi[q]? = some (t : Int)) (hM : t < M) (m : Into H H' (b + 4 * t) t fi (b + 4 * t + 1)) : GoI H' j b M fi (q + 1) := by
  have nx := I.nx
  have jb := I.jb
  have inj : ∀ p t' : Nat, fi[p]? = some (t' : Int) → p ≠ q → t' ≠ t := fun p t' e np z => by
    subst z
    have nd : fi.Nodup := f.up.imp fun h => Int.ne_of_lt h
    exact np ((List.getElem?_inj (List.getElem?_eq_some_iff.mp e).1 nd).mp (e.trans hq.symm))
  have kp := m.kp
  refine ⟨?_, jb, kp _ _ I.fk (by omega), kp _ _ I.un (by omega), fun p t' hp e => ?_, fun w hw hn => ?_, fun w hw => ?_⟩
  · rw [m.nx, nx]; omega
  · by_cases c : p = q
    · subst c
      rw [hq] at e
      have : t' = t := (Int.ofNat.inj (Option.some.inj e)).symm
      subst this
      have a := m.hd; have r := m.r; have d := m.d
      rw [nx] at a r d
      exact ⟨a, r, d⟩
    · obtain ⟨a, r, d⟩ := I.inn p t' (by omega) e
      have ne := inj p t' e c
      exact ⟨kp _ _ a (by omega), kp _ _ r (by omega), kp _ _ d (by omega)⟩
  · have d := I.out w hw fun p hp => hn p (by omega)
    have ne : w ≠ t := fun z => hn q (Nat.lt_succ_self q) (z ▸ hq)
    exact ⟨kp _ _ d.hd (by omega), kp _ _ d.g (by omega), kp _ _ d.r (by omega), kp _ _ d.d (by omega)⟩
  · obtain ⟨⟨c1, a1⟩, c2, a2⟩ := I.all w hw
    refine ⟨?_, c2, kp _ _ a2 (by omega)⟩
    by_cases c : w = t
    · subst c; exact ⟨_, m.hd⟩
    · exact ⟨c1, kp _ _ a1 (by omega)⟩
theorem m67 : methOf tb.P 59 67 = some 239 := by kernel_rfl
section
variable {n : Nat}
theorem go_loop {j b M : Nat} {fi : List Int} (f : Fi M fi) (hz : fi.length ≤ SZ) (Q : Flow → St → Prop) : ∀ (xs : List Int) (q : Nat) (H : Hp) (lo : Loc), fi.drop q = xs → q ≤ fi.length → lo 108 = some (.ref j) → lo 122 = some (.lst (iV fi)) → GoI H j b M fi q → (∀ H' lo', GoI H' j b M fi fi.length → Q .next ⟨H', lo'⟩) →
    loopGo (fun v σ₂ k => bindT [109] v σ₂ fun σ₃ => wpSs tb.P (CW tb.P (n + 2)) L_Folk___init___1 σ₃ k noE) (still (.lst (iV fi)) (iV fi)) (iV xs) ⟨H, lo⟩ Q
  | [], q, H, lo, e, hq0, h1, h2, I, h => by
    refine ⟨rfl, h H lo ?_⟩
    have : fi.length ≤ q := List.drop_eq_nil_iff.mp e
    refine ⟨?_, I.jb, I.fk, I.un, fun p t hp ep => ?_, fun w hw hn => ?_, I.all⟩
    · rw [I.nx]; omega
    · exact I.inn p t (by omega) ep
    · exact I.out w hw fun p hp ep => hn p (List.getElem?_eq_some_iff.mp ep).1 ep
  | x :: xs, q, H, lo, e, hq0, h1, h2, I, h => by
    have hq : fi[q]? = some x := by
      have := congrArg List.head? e
      rw [List.head?_drop] at this; exact this
    have lx := f.lt x (List.mem_of_getElem? hq)
    obtain ⟨t, rfl⟩ : ∃ t : Nat, x = t := ⟨x.toNat, by omega⟩
    have tM : t < M := by omega
    have fresh : ∀ p, p < q → fi[p]? ≠ some (t : Int) := fun p hp ep => by
      have nd : fi.Nodup := f.up.imp fun h => Int.ne_of_lt h
      have := (List.getElem?_inj (List.getElem?_eq_some_iff.mp ep).1 nd).mp (ep.trans hq.symm)
      omega
    have d := I.out t tM fresh
    refine ⟨rfl, ?_⟩
    refine meth_o (i := b + 4 * t) (fun Q' q' => ?_) d.hd m67 ?_
    · refine need_ii (o := lo 108) h1 ?_
      refine need_ii (o := cI (H.get j)) (a := (60, [(18, .int M), (123, .lst ((List.range M).map fun w => .ref (b + 4 * w))), (124, .ref (b + 4 * M))])) (by rw [I.fk]; rfl) ?_
      refine need_ii (o := pyIdx (t : Int) ((List.range M).map fun w => V.ref (b + 4 * w)).length) (pyIdx_nat (by rw [List.length_map, List.length_range]; exact tM)) ?_
      exact need_ii (o := ((List.range M).map fun w => V.ref (b + 4 * w))[t]?) (a := .ref (b + 4 * t)) (by rw [List.getElem?_map, List.getElem?_range tM]; rfl) q'
    · refine need_ii (o := lo 122) h2 ?_
      refine into_L (n := n) d.hd ⟨_, d.g⟩ ⟨_, d.r⟩ ⟨_, d.d⟩ hz fun H' m => ?_
      refine gv rfl ?_
      refine go_loop f hz Q xs (q + 1) H' (upd lo 109 (.int t)) ?_ (List.getElem?_eq_some_iff.mp hq).1 h1 h2 (I.step f hq tM m) h
      have := congrArg List.tail e
      rw [List.tail_drop] at this; exact this
theorem f243 : tb.P.fn 243 = some F_Folk___init__ := by kernel_rfl
/-- where the parts of the folk lie -/
noncomputable def mkL (j M : Nat) (fi : List Int) : Lay where
  fk := j
  un := j + 1 + 4 * M
  hs := (List.range M).map fun w => j + 1 + 4 * w
  rn := fun t => j + 1 + 4 * M + 1 + 2 * fi.idxOf (t : Int)
  on := fun t => j + 1 + 4 * M + 1 + 2 * fi.idxOf (t : Int) + 1
  gn := fun t => j + 1 + 4 * t + 1
noncomputable def X70 : Nat → H7 := fun _ => ⟨0, true, [], 0, []⟩
theorem GoI.rep {H : Hp} {j M : Nat} {fi : List Int} (f : Fi M fi) (hM : M ≤ 9) (I : GoI H j (j + 1) M fi fi.length) : Rep H (mkL j M fi) M fi [] X70 := by
  have idx : ∀ t : Nat, (t : Int) ∈ fi → fi.idxOf (t : Int) < fi.length ∧ fi[fi.idxOf (t : Int)]? = some (t : Int) := fun t ht => by
    have lt := List.idxOf_lt_length_iff.mpr ht
    exact ⟨lt, by rw [List.getElem?_eq_getElem lt, List.getElem_idxOf lt]⟩
  have lt : ∀ t : Nat, (t : Int) ∈ fi → t < M := fun t ht => by have := f.lt _ ht; omega
  have mem : ∀ x, x ∈ (mkL j M fi).hs → ∃ w, w < M ∧ x = j + 1 + 4 * w := fun x hx => by
    obtain ⟨w, hw, e⟩ := List.mem_map.mp hx
    exact ⟨w, List.mem_range.mp hw, e.symm⟩
  refine ⟨?_, I.un, by show ((List.range M).map _).length = M; rw [List.length_map, List.length_range], hM, fun t ht => ?_, fun x hx => ?_, ?_⟩
  · show H.get j = some (.inst 60 [(18, .int M), (123, .lst (((List.range M).map fun w => j + 1 + 4 * w).map .ref)), (124, .ref (j + 1 + 4 * M))])
    rw [List.map_map]; exact I.fk
  · obtain ⟨l, e⟩ := idx t ht
    obtain ⟨a, r, d⟩ := I.inn _ t l e
    exact ⟨j + 1 + 4 * t, by show ((List.range M).map _)[t]? = _; rw [List.getElem?_map, List.getElem?_range (lt t ht)]; rfl, a, r, d, (I.all t (lt t ht)).2⟩
  · obtain ⟨w, hw, e⟩ := mem x hx
    rw [e]; exact (I.all w hw).1
  · refine ⟨by show j ≠ j + 1 + 4 * M; omega, fun z => ?_, fun z => ?_, ?_, fun t ht => ?_, fun t u ht hu => ?_⟩
    · obtain ⟨w, hw, e⟩ := mem _ z
      have e : j = j + 1 + 4 * w := e
      omega
    · obtain ⟨w, hw, e⟩ := mem _ z
      have e : j + 1 + 4 * M = j + 1 + 4 * w := e
      omega
    · exact List.Pairwise.map _ (fun a b (h : a ≠ b) => by omega) List.nodup_range
    · refine ⟨by show j + 1 + 4 * M + 1 + 2 * _ ≠ j; omega, by show j + 1 + 4 * M + 1 + 2 * _ ≠ j + 1 + 4 * M; omega, fun z => ?_, by show j + 1 + 4 * M + 1 + 2 * _ + 1 ≠ j; omega, by show j + 1 + 4 * M + 1 + 2 * _ + 1 ≠ j + 1 + 4 * M; omega, fun z => ?_⟩
      · obtain ⟨w, hw, e⟩ := mem _ z
        have e : j + 1 + 4 * M + 1 + 2 * fi.idxOf (t : Int) = j + 1 + 4 * w := e
        omega
      · obtain ⟨w, hw, e⟩ := mem _ z
        have e : j + 1 + 4 * M + 1 + 2 * fi.idxOf (t : Int) + 1 = j + 1 + 4 * w := e
        omega
    · refine ⟨by show j + 1 + 4 * M + 1 + 2 * _ ≠ j + 1 + 4 * M + 1 + 2 * _ + 1; omega, fun ne => ?_⟩
      have ni : fi.idxOf (t : Int) ≠ fi.idxOf (u : Int) := fun z => ne (by
        have a := (idx t ht).2
        rw [z, (idx u hu).2] at a
        exact (Int.ofNat.inj (Option.some.inj a)).symm)
      exact ⟨by show j + 1 + 4 * M + 1 + 2 * _ ≠ j + 1 + 4 * M + 1 + 2 * _; omega, by show j + 1 + 4 * M + 1 + 2 * _ + 1 ≠ j + 1 + 4 * M + 1 + 2 * _ + 1; omega⟩
theorem folk_w {H : Hp} {M : Nat} {fi : List Int} {Q : V → Hp → Prop} {E : Nat → Hp → Prop} (f : Fi M fi) (h1 : 1 ≤ M) (hM : M ≤ 9) (h : ∀ H', Rep H' (mkL H.next M fi) M fi [] X70 → Q .none H') : CW tb.P (n + 3) 243 [.ref H.next, .int M, .lst (iV fi)] (H.new (.inst 60 [])) Q E := by
  have hz : fi.length ≤ SZ := Nat.le_trans f.len (Nat.le_trans hM (by unfold SZ; omega))
  refine call_i _ _ _ f243 rfl ?_
  refine whole_w ?_
  refine gv rfl ?_
  refine Br_n (b := decide ((M : Int) < 1)) (decide_eq_false (by omega)) ?_
  refine Br_n (b := decide ((9 : Int) < M)) (decide_eq_false (by omega)) ?_
  refine isl_w f ?_
  refine gv rfl ?_
  have g0 : (H.new (.inst 60 [])).get H.next = some (.inst 60 []) := by rw [Hp.get_new, if_pos rfl]
  refine saL (v := .int M) (H₁ := H.new (.inst 60 [])) rfl (fun Q' q => q) g0 (by kernel_rfl) (ble_le rfl) ?_
  have I0 : MkI ((H.new (.inst 60 [])).set H.next (.inst 60 [(18, .int M)])) H.next (H.next + 1) M 0 := ⟨by rw [Hp.next_set, Hp.next_new], Nat.lt_succ_self _, by rw [Hp.get_set g0, if_pos rfl], fun w hw => absurd hw (Nat.not_lt_zero _)⟩
  have er : rngL 0 1 (rngN 0 (M : Int) 1) = (List.range' 0 M).map fun u => V.int (u : Nat) := by
    rw [show rngN 0 (M : Int) 1 = M by unfold rngN; rw [if_pos rfl]; omega]
    exact rngL_range M 0
  refine ⟨by show M ≤ SZ; unfold SZ; omega, ?_⟩
  show compGo _ _ [109] (still (.rng 0 M 1) (rngL 0 1 (rngN 0 (M : Int) 1))) (rngL 0 1 (rngN 0 (M : Int) 1)) [] ⟨(H.new (.inst 60 [])).set H.next (.inst 60 [(18, .int M)]), _⟩ _
  rw [er]
  refine mk_comp (n := n) (.rng 0 M 1) _ (fun H' => by show some (rngL 0 1 (rngN 0 (M : Int) 1)) = _; rw [er]) hM _ M 0 _ _ (Nat.zero_add M) I0 fun H' lo' I => ?_
  refine ⟨by rw [List.length_map, List.length_range]; unfold SZ; omega, ?_⟩
  have g1 : H'.get H.next = some (.inst 60 [(18, .int M)]) := I.fk
  refine need_ii (o := cI (H'.get H.next)) (a := (60, [(18, .int M)])) (by rw [g1]; rfl) ?_
  refine ⟨rfl, ble_le rfl, ?_⟩
  have g2 : (H'.set H.next (.inst 60 [(18, .int M), (123, .lst ((List.range M).map fun w => .ref (H.next + 1 + 4 * w)))])).get H.next = some (.inst 60 [(18, .int M), (123, .lst ((List.range M).map fun w => .ref (H.next + 1 + 4 * w)))]) := by rw [Hp.get_set g1, if_pos rfl]
  have nx2 : (H'.set H.next (.inst 60 [(18, .int M), (123, .lst ((List.range M).map fun w => .ref (H.next + 1 + 4 * w)))])).next = H.next + 1 + 4 * M := by rw [Hp.next_set, I.nx]
  have k2 : ∀ i c, H'.get i = some c → i ≠ H.next → (H'.set H.next (.inst 60 [(18, .int M), (123, .lst ((List.range M).map fun w => .ref (H.next + 1 + 4 * w)))])).get i = some c := fun i c g ne => by rw [Hp.get_set g1, if_neg ne]; exact g
  show wpSs tb.P (CW tb.P (n + 2)) (.cons (.assign (.attr (.loc 108) 124) (.list false .nil)) (.cons (.loop [109] (.loc 122) L_Folk___init___1) .nil)) ⟨H'.set H.next (.inst 60 [(18, .int M), (123, .lst ((List.range M).map fun w => .ref (H.next + 1 + 4 * w)))]), _⟩ _ _
  generalize H'.set H.next (.inst 60 [(18, .int M), (123, .lst ((List.range M).map fun w => .ref (H.next + 1 + 4 * w)))]) = H2 at g2 nx2 k2 ⊢
  have k3 : ∀ i c, H2.get i = some c → (H2.new (.list [])).get i = some c := fun i c g => by rw [Hp.get_new, if_neg (show i ≠ H2.next from Nat.ne_of_lt (atC_lt g))]; exact g
  have g3 : (H2.new (.list [])).get H.next = some (.inst 60 [(18, .int M), (123, .lst ((List.range M).map fun w => .ref (H.next + 1 + 4 * w)))]) := k3 _ _ g2
  refine saL (v := .ref (H.next + 1 + 4 * M)) (H₁ := H2.new (.list [])) rfl (fun Q' q => ⟨ble_le rfl, ?_⟩) g3 (by kernel_rfl) (ble_le rfl) ?_
  · rw [← nx2] at q; exact q
  have g4 : ∀ i c, (H2.new (.list [])).get i = some c → i ≠ H.next → ((H2.new (.list [])).set H.next (.inst 60 [(18, .int M), (123, .lst ((List.range M).map fun w => .ref (H.next + 1 + 4 * w))), (124, .ref (H.next + 1 + 4 * M))])).get i = some c := fun i c g ne => by rw [Hp.get_set g3, if_neg ne]; exact g
  have hn : ∀ w, w < M → HN ((H2.new (.list [])).set H.next (.inst 60 [(18, .int M), (123, .lst ((List.range M).map fun w => .ref (H.next + 1 + 4 * w))), (124, .ref (H.next + 1 + 4 * M))])) (H.next + 1 + 4 * w) w := fun w hw => by
    have d := I.hn w hw
    have k : ∀ i c, H'.get i = some c → i ≠ H.next → ((H2.new (.list [])).set H.next (.inst 60 [(18, .int M), (123, .lst ((List.range M).map fun w => .ref (H.next + 1 + 4 * w))), (124, .ref (H.next + 1 + 4 * M))])).get i = some c := fun i c g ne => g4 i c (k3 i c (k2 i c g ne)) ne
    exact ⟨k _ _ d.hd (by omega), k _ _ d.g (by omega), k _ _ d.r (by omega), k _ _ d.d (by omega)⟩
  have G : GoI ((H2.new (.list [])).set H.next (.inst 60 [(18, .int M), (123, .lst ((List.range M).map fun w => .ref (H.next + 1 + 4 * w))), (124, .ref (H.next + 1 + 4 * M))])) H.next (H.next + 1) M fi 0 :=
    ⟨by rw [Hp.next_set, Hp.next_new, nx2], Nat.lt_succ_self _, by rw [Hp.get_set g3, if_pos rfl], g4 _ _ (by rw [Hp.get_new, if_pos nx2.symm]) (by omega), fun p t hp => absurd hp (Nat.not_lt_zero _), fun w hw _ => hn w hw, fun w hw => ⟨⟨_, (hn w hw).hd⟩, _, (hn w hw).g⟩⟩
  refine go_loop (n := n) f hz _ fi 0 _ _ rfl (Nat.zero_le _) rfl rfl G fun H' lo' G' => ?_
  exact h H' (G'.rep f hM)
end
end Mine

end

section
set_option autoImplicit false
set_option linter.all false
set_option genSizeOf false
set_option genInjectivity false
namespace Mine
open PySem (Str)
/-! What holds of the folk, all along. -/
noncomputable def Good (fi : List Int) (S : Nat → List Str) (m : Msg) : Prop := ∃ t k : Nat, (t : Int) ∈ fi ∧ m.h = t ∧ m.n = k ∧ (S t)[k]? = some m.w
noncomputable def LtOk (fi : List Int) (f0 : Nat) (S : Nat → List Str) (X : Nat → H7) (L : Letter) : Prop := match L.c with
  | .wish m => L.to = f0 ∧ Good fi S m
  | .hold m p => (L.from_ = f0 ∧ ∃ t : Nat, L.to = t ∧ (t : Int) ∈ fi ∧ t ≠ f0) ∧ ∃ q : Nat, p = q ∧ (X f0).row[q]? = some m
  | .have_ c => L.to = f0 ∧ ∃ s : Nat, L.from_ = s ∧ (s : Int) ∈ fi ∧ s ≠ f0 ∧ 0 ≤ c ∧ c ≤ (X s).row.length
  | .take c => (∃ t : Nat, L.to = t ∧ (t : Int) ∈ fi ∧ t ≠ f0) ∧ 0 ≤ c ∧ c ≤ (X f0).took
/-- rows and what is taken only grow -/
structure Gr (f0 : Nat) (X X' : Nat → H7) : Prop where
  r0 : (X f0).row <+: (X' f0).row
  rl : ∀ s, (X s).row.length ≤ (X' s).row.length
  tk : (X f0).took ≤ (X' f0).took
theorem LtOk.mono {fi : List Int} {f0 : Nat} {S : Nat → List Str} {X X' : Nat → H7} (g : Gr f0 X X') {L : Letter} (h : LtOk fi f0 S X L) : LtOk fi f0 S X' L := by
  obtain ⟨a, b, c⟩ := L
  cases c with
  | wish m => exact h
  | hold m p =>
    obtain ⟨h1, q, e, hq⟩ := (h : (_ ∧ _) ∧ ∃ q : Nat, _)
    refine ⟨h1, q, e, ?_⟩
    obtain ⟨t, ht⟩ := g.r0
    rw [← ht, List.getElem?_append_left (List.getElem?_eq_some_iff.mp hq).1]; exact hq
  | have_ c =>
    obtain ⟨h1, s, h2, h3, h4, h5, h6⟩ := (h : _ ∧ ∃ s : Nat, _)
    exact ⟨h1, s, h2, h3, h4, h5, Int.le_trans h6 (Int.ofNat_le.mpr (g.rl s))⟩
  | take c =>
    obtain ⟨h1, h2, h3⟩ := (h : _ ∧ _ ∧ _)
    exact ⟨h1, h2, Int.le_trans h3 g.tk⟩
/-- wishes under way -/
noncomputable def wsh : List Letter → Nat
  | [] => 0
  | L :: U => (match L.c with | .wish _ => 1 | _ => 0) + wsh U
theorem wsh_app : ∀ (A B : List Letter), wsh (A ++ B) = wsh A + wsh B
  | [], B => (Nat.zero_add _).symm
  | L :: A, B => by
    show _ + wsh (A ++ B) = _ + wsh A + wsh B
    rw [wsh_app A B, Nat.add_assoc]
noncomputable def wgt (L : Letter) : Nat := match L.c with
  | .wish _ => 89
  | .hold _ _ => 10
  | .have_ _ => 9
  | .take _ => 1
noncomputable def wgts : List Letter → Nat
  | [] => 0
  | L :: U => wgt L + wgts U
theorem wgts_app : ∀ (A B : List Letter), wgts (A ++ B) = wgts A + wgts B
  | [], B => (Nat.zero_add _).symm
  | L :: A, B => by
    show wgt L + wgts (A ++ B) = wgt L + wgts A + wgts B
    rw [wgts_app A B, Nat.add_assoc]
theorem wgt_pos (L : Letter) : 1 ≤ wgt L := by
  obtain ⟨f, t, c⟩ := L
  cases c with
  | wish m => exact Nat.succ_pos 88
  | hold m q => exact Nat.succ_pos 9
  | have_ n => exact Nat.succ_pos 8
  | take n => exact Nat.succ_pos 0
theorem len_wgts : ∀ U : List Letter, U.length ≤ wgts U
  | [] => Nat.le_refl _
  | L :: U => by
    have := wgt_pos L
    have := len_wgts U
    show U.length + 1 ≤ wgt L + wgts U
    omega
theorem wgts_map (f : Int → Letter) (k : Nat) (hf : ∀ t, wgt (f t) = k) : ∀ l : List Int, wgts (l.map f) = k * l.length
  | [] => rfl
  | t :: l => by
    show wgt (f t) + wgts (l.map f) = k * (l.length + 1)
    rw [hf, wgts_map f k hf l, Nat.mul_add, Nat.add_comm, Nat.mul_one]
theorem wsh_map (f : Int → Letter) (hf : ∀ t, wsh [f t] = 0) : ∀ l : List Int, wsh (l.map f) = 0
  | [] => rfl
  | t :: l => by
    have a := hf t
    have b := wsh_map f hf l
    show (match (f t).c with | .wish _ => 1 | _ => 0) + wsh (l.map f) = 0
    rw [b]; exact a
theorem drop_split {U : List Letter} {p : Nat} {L : Letter} (h : U[p]? = some L) : U = U.take p ++ L :: U.drop (p + 1) := by
  have lt := (List.getElem?_eq_some_iff.mp h).1
  have e := (List.getElem?_eq_some_iff.mp h).2
  rw [← e, List.getElem_cons_drop, List.take_append_drop]
theorem drop_sum {U : List Letter} {p : Nat} {L : Letter} (h : U[p]? = some L) : wgts U = wgt L + wgts (dropAt U p) ∧ wsh U = wsh [L] + wsh (dropAt U p) ∧ (∀ x ∈ dropAt U p, x ∈ U) ∧ L ∈ U := by
  have e := drop_split h
  unfold dropAt
  refine ⟨?_, ?_, fun x hx => ?_, List.mem_of_getElem? h⟩
  · rw [e, wgts_app, wgts_app]
    have : wgts (L :: U.drop (p + 1)) = wgt L + wgts (U.drop (p + 1)) := rfl
    rw [this]
    have e1 : (U.take p ++ L :: U.drop (p + 1)).take p = U.take p := by rw [← e]
    have e2 : (U.take p ++ L :: U.drop (p + 1)).drop (p + 1) = U.drop (p + 1) := by rw [← e]
    rw [e1, e2]; omega
  · rw [e, wsh_app, wsh_app]
    have : wsh (L :: U.drop (p + 1)) = wsh [L] + wsh (U.drop (p + 1)) := rfl
    rw [this]
    have e1 : (U.take p ++ L :: U.drop (p + 1)).take p = U.take p := by rw [← e]
    have e2 : (U.take p ++ L :: U.drop (p + 1)).drop (p + 1) = U.drop (p + 1) := by rw [← e]
    rw [e1, e2]; omega
  · rcases List.mem_append.mp hx with q | q
    · exact List.mem_of_mem_take q
    · exact List.mem_of_mem_drop q
/-- the greatest number that enough hold is one of the numbers -/
theorem hbe_mem {n : Int} {ms : List Int} {len : Nat} {hd : List (Int × Int)} (hn : ms.length / 2 < (oth n ms).length + 1) : hbe n ms len hd ∈ cnts n ms len hd := by
  have ln : (cnts n ms len hd).length = (oth n ms).length + 1 := congrArg (· + 1) (List.length_map ..)
  have hl : ms.length / 2 < (srt (cnts n ms len hd)).reverse.length := by rw [List.length_reverse, srt_len, ln]; exact hn
  have : hbe n ms len hd ∈ (srt (cnts n ms len hd)).reverse := by
    unfold hbe
    rw [List.getElem?_eq_getElem hl]
    exact List.getElem_mem hl
  exact ((List.reverse_perm _).trans (srt_perm _)).mem_iff.mp this
end Mine

end

section
set_option autoImplicit false
set_option linter.all false
set_option genSizeOf false
set_option genInjectivity false
namespace Mine
open PySem (Str)
structure Inv (fi : List Int) (f0 : Nat) (S : Nat → List Str) (D : Nat) (U : List Letter) (X : Nat → H7) : Prop where
  sd : ∀ t : Nat, (t : Int) ∈ fi → (X t).said = (S t).length
  pre : ∀ t : Nat, (t : Int) ∈ fi → (X t).row <+: (X f0).row
  tk0 : ∀ t : Nat, (t : Int) ∈ fi → 0 ≤ (X t).took
  tk1 : ∀ t : Nat, (t : Int) ∈ fi → (X t).took ≤ (X t).row.length
  tk2 : ∀ t : Nat, (t : Int) ∈ fi → (X t).took ≤ (X f0).took
  nd : (X f0).row.Nodup
  gd : ∀ m ∈ (X f0).row, Good fi S m
  lt : ∀ L ∈ U, LtOk fi f0 S X L
  ho : ∀ t : Nat, (t : Int) ∈ fi → t ≠ f0 → 0 ≤ hoD (X f0).holds t ∧ hoD (X f0).holds t ≤ (X t).row.length
  hk : ((X f0).holds.map (·.1)).Nodup ∧ ∀ p ∈ (X f0).holds, p.1 ∈ fi
  hk' : ∀ t : Nat, (t : Int) ∈ fi → t ≠ f0 → (X t).holds = []
  ct : (X f0).row.length + wsh U ≤ D
theorem updX_at {X : Nat → H7} {t : Nat} {x : H7} : updX X t x t = x := if_pos rfl
theorem updX_ne {X : Nat → H7} {t u : Nat} {x : H7} (h : u ≠ t) : updX X t x u = X u := if_neg h
theorem updX_two {X : Nat → H7} {t : Nat} {x y : H7} : updX (updX X t x) t y = updX X t y := funext fun u => by
  by_cases h : u = t
  · subst h; rw [updX_at, updX_at]
  · rw [updX_ne h, updX_ne h, updX_ne h]
/-- the first list: its first hand -/
structure F0 (fi : List Int) (f0 : Nat) : Prop where
  mem : (f0 : Int) ∈ fi
  hn : fi.length / 2 < (oth f0 fi).length + 1
  nat : ∀ i ∈ fi, ∃ t : Nat, i = t
theorem oth_mem {n x : Int} {ms : List Int} : x ∈ oth n ms ↔ x ∈ ms ∧ x ≠ n := by
  unfold oth
  rw [List.mem_filter]
  constructor
  · intro ⟨a, b⟩
    refine ⟨a, fun z => ?_⟩
    rw [decide_eq_true z] at b; cases b
  · intro ⟨a, b⟩
    exact ⟨a, by rw [decide_eq_false b]; rfl⟩
section
variable {fi : List Int} {f0 : Nat} {S : Nat → List Str} {D : Nat} {U : List Letter} {X : Nat → H7}
/-- fewer letters -/
theorem Inv.sub {U' : List Letter} (I : Inv fi f0 S D U X) (hs : ∀ L ∈ U', L ∈ U) (hw : wsh U' ≤ wsh U) : Inv fi f0 S D U' X :=
  { I with lt := fun L hL => I.lt L (hs L hL), ct := by have := I.ct; omega }
theorem Inv.more {V' : List Letter} (I : Inv fi f0 S D U X) (hs : ∀ L ∈ V', LtOk fi f0 S X L) (hw : wsh V' = 0) : Inv fi f0 S D (U ++ V') X :=
  { I with lt := fun L hL => (List.mem_append.mp hL).elim (I.lt L) (hs L), ct := by have := I.ct; rw [wsh_app, hw]; omega }
/-- the first hand takes more -/
theorem Inv.took {v : Int} (F : F0 fi f0) (I : Inv fi f0 S D U X) (h1 : (X f0).took ≤ v) (h2 : v ≤ (X f0).row.length) : Inv fi f0 S D U (updX X f0 { X f0 with took := v }) := by
  have row : ∀ t, (updX X f0 { X f0 with took := v } t).row = (X t).row := fun t => by
    by_cases c : t = f0
    · subst c; rw [updX_at]
    · rw [updX_ne c]
  have tk : ∀ t : Nat, t ≠ f0 → (updX X f0 { X f0 with took := v } t).took = (X t).took := fun t c => by rw [updX_ne c]
  have hol : ∀ t, (updX X f0 { X f0 with took := v } t).holds = (X t).holds := fun t => by
    by_cases c : t = f0
    · subst c; rw [updX_at]
    · rw [updX_ne c]
  have sd : ∀ t, (updX X f0 { X f0 with took := v } t).said = (X t).said := fun t => by
    by_cases c : t = f0
    · subst c; rw [updX_at]
    · rw [updX_ne c]
  have t0 : (updX X f0 { X f0 with took := v } f0).took = v := by rw [updX_at]
  have g : Gr f0 X (updX X f0 { X f0 with took := v }) := ⟨by rw [row]; exact List.prefix_refl _, fun s => by rw [row]; exact Nat.le_refl _, by rw [t0]; exact h1⟩
  refine ⟨fun t ht => by rw [sd]; exact I.sd t ht, fun t ht => by rw [row, row]; exact I.pre t ht, fun t ht => ?_, fun t ht => ?_, fun t ht => ?_, by rw [row]; exact I.nd, fun m hm => I.gd m (by rw [row] at hm; exact hm), fun L hL => (I.lt L hL).mono g, fun t ht ne => by rw [hol, row]; exact I.ho t ht ne, by rw [hol]; exact I.hk, fun t ht ne => by rw [hol]; exact I.hk' t ht ne, by rw [row]; exact I.ct⟩
  · by_cases c : t = f0
    · subst c; rw [t0]; exact Int.le_trans (I.tk0 t ht) h1
    · rw [tk t c]; exact I.tk0 t ht
  · by_cases c : t = f0
    · subst c; rw [t0, row]; exact h2
    · rw [tk t c, row]; exact I.tk1 t ht
  · rw [t0]
    by_cases c : t = f0
    · subst c; rw [t0]; exact Int.le_refl _
    · rw [tk t c]; exact Int.le_trans (I.tk2 t ht) h1
theorem Inv.hbe (F : F0 fi f0) (I : Inv fi f0 S D U X) : hbe f0 fi (X f0).row.length (X f0).holds ≤ (X f0).row.length := by
  rcases List.mem_cons.mp (hbe_mem (len := (X f0).row.length) (hd := (X f0).holds) F.hn) with e | h
  · exact Int.le_of_eq e
  · obtain ⟨i, hi, e⟩ := List.mem_map.mp h
    obtain ⟨h1, h2⟩ := oth_mem.mp hi
    obtain ⟨t, rfl⟩ := F.nat i h1
    rw [← e]
    exact Int.le_trans (I.ho t h1 fun z => h2 (congrArg Int.ofNat z)).2 (Int.ofNat_le.mpr (I.pre t h1).length_le)
theorem oth_nat (F : F0 fi f0) {i : Int} (hi : i ∈ oth f0 fi) : ∃ t : Nat, i = t ∧ (t : Int) ∈ fi ∧ t ≠ f0 := by
  obtain ⟨h1, h2⟩ := oth_mem.mp hi
  obtain ⟨t, rfl⟩ := F.nat i h1
  exact ⟨t, rfl, h1, fun z => h2 (congrArg Int.ofNat z)⟩
/-- the first hand looks -/
theorem Inv.look (F : F0 fi f0) (hz : (oth f0 fi).length ≤ 8) (I : Inv fi f0 S D U X) : Inv fi f0 S D (lookF f0 fi (X f0) U).2 (updX X f0 (lookF f0 fi (X f0) U).1) ∧ wgts (lookF f0 fi (X f0) U).2 ≤ wgts U + 8 ∧ (lookF f0 fi (X f0) U).1.row = (X f0).row ∧ (lookF f0 fi (X f0) U).1.up = (X f0).up := by
  unfold lookF
  cases c : decide ((X f0).took < Mine.hbe f0 fi (X f0).row.length (X f0).holds) with
  | false =>
    refine ⟨?_, Nat.le_add_right _ _, rfl, rfl⟩
    have e : updX X f0 (X f0) = X := funext fun u => by
      by_cases h : u = f0
      · subst h; rw [updX_at]
      · rw [updX_ne h]
    show Inv fi f0 S D U (updX X f0 (X f0))
    rw [e]; exact I
  | true =>
    have c := of_decide_eq_true c
    have J := I.took F (Int.le_of_lt c) (I.hbe F)
    refine ⟨J.more (fun L hL => ?_) (wsh_map _ (fun _ => rfl) _), ?_, rfl, rfl⟩
    · obtain ⟨i, hi, rfl⟩ := List.mem_map.mp hL
      obtain ⟨t, rfl, h1, h2⟩ := oth_nat F hi
      refine ⟨⟨t, rfl, h1, h2⟩, Int.le_trans (I.tk0 f0 F.mem) (Int.le_of_lt c), ?_⟩
      rw [updX_at]; exact Int.le_refl _
    · show wgts (U ++ _) ≤ _
      rw [wgts_app, wgts_map _ 1 (fun _ => rfl)]; omega
end
end Mine

end

section
set_option autoImplicit false
set_option linter.all false
set_option genSizeOf false
set_option genInjectivity false
namespace Mine
open PySem (Str)
theorem mx_le {a b c : Int} (h1 : a ≤ c) (h2 : b ≤ c) : mx a b ≤ c := by unfold mx; by_cases h : b > a <;> simp only [h, if_true, if_false] <;> omega
theorem le_mx (a b : Int) : a ≤ mx a b := by unfold mx; by_cases h : b > a <;> simp only [h, if_true, if_false] <;> omega
theorem mn_le {a b c : Int} (h : a ≤ c ∨ b ≤ c) : mn a b ≤ c := by unfold mn; by_cases h : b < a <;> simp only [h, if_true, if_false] <;> omega
theorem le_mn {a b c : Int} (h1 : c ≤ a) (h2 : c ≤ b) : c ≤ mn a b := by unfold mn; by_cases h : b < a <;> simp only [h, if_true, if_false] <;> omega
theorem hoD_S (x v y : Int) : ∀ hd : List (Int × Int), hoD (hoS hd x v) y = if y = x then v else hoD hd y
  | [] => by
    show cond (decide (x = y)) v 0 = _
    by_cases c : y = x
    · rw [if_pos c, decide_eq_true c.symm]; rfl
    · rw [if_neg c, decide_eq_false fun z => c z.symm]; rfl
  | p :: r => by
    have ih := hoD_S x v y r
    show hoD (cond (decide (p.1 = x)) ((p.1, v) :: r) (p :: hoS r x v)) y = if y = x then v else cond (decide (p.1 = y)) p.2 (hoD r y)
    by_cases c : p.1 = x
    · rw [decide_eq_true c]
      show cond (decide (p.1 = y)) v (hoD r y) = _
      by_cases d : y = x
      · rw [if_pos d, decide_eq_true (c.trans d.symm)]; rfl
      · rw [if_neg d, decide_eq_false fun z => d (z.symm.trans c)]; rfl
    · rw [decide_eq_false c]
      show cond (decide (p.1 = y)) p.2 (hoD (hoS r x v) y) = _
      rw [ih]
      by_cases d : y = x
      · rw [if_pos d, if_pos d, decide_eq_false fun z => c (z.trans d)]; rfl
      · rw [if_neg d, if_neg d]
theorem hoS_keys (x v : Int) : ∀ hd : List (Int × Int), (hoS hd x v).map (·.1) = if x ∈ hd.map (·.1) then hd.map (·.1) else hd.map (·.1) ++ [x]
  | [] => rfl
  | p :: r => by
    have ih := hoS_keys x v r
    show (cond (decide (p.1 = x)) ((p.1, v) :: r) (p :: hoS r x v)).map (·.1) = _
    by_cases c : p.1 = x
    · rw [decide_eq_true c, if_pos (by rw [List.map_cons, c]; exact .head _)]; rfl
    · rw [decide_eq_false c]
      show p.1 :: (hoS r x v).map (·.1) = _
      rw [ih]
      by_cases d : x ∈ r.map (·.1)
      · rw [if_pos d, if_pos (by rw [List.map_cons]; exact .tail _ d)]; rfl
      · rw [if_neg d, if_neg (by rw [List.map_cons]; exact fun z => (List.mem_cons.mp z).elim (fun z => c z.symm) d)]; rfl
section
variable {fi : List Int} {f0 : Nat} {S : Nat → List Str} {D : Nat} {U : List Letter} {X : Nat → H7}
theorem updX_same (X : Nat → H7) (t : Nat) : updX X t (X t) = X := funext fun u => by
  by_cases h : u = t
  · subst h; rw [updX_at]
  · rw [updX_ne h]
/-- another hand takes more -/
theorem Inv.tookT {t : Nat} {v : Int} (I : Inv fi f0 S D U X) (ne : t ≠ f0) (h0 : 0 ≤ v) (h1 : v ≤ (X t).row.length) (h2 : v ≤ (X f0).took) : Inv fi f0 S D U (updX X t { X t with took := v }) := by
  have f : ∀ {p : H7 → Prop} (u : Nat), (u = t → p { X t with took := v }) → (u ≠ t → p (X u)) → p (updX X t { X t with took := v } u) := fun {p} u a b => by
    by_cases c : u = t
    · rw [show updX X t { X t with took := v } u = { X t with took := v } from if_pos c]; exact a c
    · rw [updX_ne c]; exact b c
  have e0 : updX X t { X t with took := v } f0 = X f0 := updX_ne fun z => ne z.symm
  have rl : ∀ s, (X s).row.length ≤ (updX X t { X t with took := v } s).row.length := fun s => f (p := fun y => (X s).row.length ≤ y.row.length) s (fun c => by subst c; exact Nat.le_refl _) fun _ => Nat.le_refl _
  have g : Gr f0 X (updX X t { X t with took := v }) := ⟨by rw [e0]; exact List.prefix_refl _, rl, by rw [e0]; exact Int.le_refl _⟩
  refine ⟨fun u hu => f (p := fun y => y.said = _) u (fun c => by subst c; exact I.sd u hu) fun _ => I.sd u hu, fun u hu => ?_, fun u hu => f (p := fun y => 0 ≤ y.took) u (fun _ => h0) fun _ => I.tk0 u hu, fun u hu => f (p := fun y => y.took ≤ y.row.length) u (fun _ => h1) fun _ => I.tk1 u hu, fun u hu => ?_, by rw [e0]; exact I.nd, by rw [e0]; exact I.gd, fun L hL => (I.lt L hL).mono g, fun u hu nu => ?_, by rw [e0]; exact I.hk, fun u hu nu => f (p := fun y => y.holds = []) u (fun c => by subst c; exact I.hk' u hu nu) fun _ => I.hk' u hu nu, by rw [e0]; exact I.ct⟩
  · rw [e0]; exact f (p := fun y => y.row <+: (X f0).row) u (fun c => by subst c; exact I.pre u hu) fun _ => I.pre u hu
  · rw [e0]; exact f (p := fun y => y.took ≤ (X f0).took) u (fun _ => h2) fun _ => I.tk2 u hu
  · rw [e0]; exact ⟨(I.ho u hu nu).1, Int.le_trans (I.ho u hu nu).2 (Int.ofNat_le.mpr (rl u))⟩
/-- another hand's row grows -/
theorem Inv.rowT {t : Nat} {m : Msg} (I : Inv fi f0 S D U X) (ne : t ≠ f0) (hm : (X f0).row[(X t).row.length]? = some m) (hp : (X t).row <+: (X f0).row) : Inv fi f0 S D U (updX X t { X t with row := (X t).row ++ [m] }) := by
  have f : ∀ {p : H7 → Prop} (u : Nat), (u = t → p { X t with row := (X t).row ++ [m] }) → (u ≠ t → p (X u)) → p (updX X t { X t with row := (X t).row ++ [m] } u) := fun {p} u a b => by
    by_cases c : u = t
    · rw [show updX X t { X t with row := (X t).row ++ [m] } u = { X t with row := (X t).row ++ [m] } from if_pos c]; exact a c
    · rw [updX_ne c]; exact b c
  have e0 : updX X t { X t with row := (X t).row ++ [m] } f0 = X f0 := updX_ne fun z => ne z.symm
  have le : (X t).row.length ≤ ((X t).row ++ [m]).length := by rw [List.length_append]; exact Nat.le_add_right _ _
  have rl : ∀ s, (X s).row.length ≤ (updX X t { X t with row := (X t).row ++ [m] } s).row.length := fun s => f (p := fun y => (X s).row.length ≤ y.row.length) s (fun c => by subst c; exact le) fun _ => Nat.le_refl _
  have g : Gr f0 X (updX X t { X t with row := (X t).row ++ [m] }) := ⟨by rw [e0]; exact List.prefix_refl _, rl, by rw [e0]; exact Int.le_refl _⟩
  have pre : (X t).row ++ [m] <+: (X f0).row := by
    obtain ⟨r, e⟩ := hp
    rw [← e, List.getElem?_append_right (Nat.le_refl _), Nat.sub_self] at hm
    cases r with
    | nil => cases hm
    | cons a r => cases hm; exact ⟨r, by rw [List.append_assoc]; exact e⟩
  refine ⟨fun u hu => f (p := fun y => y.said = _) u (fun c => by subst c; exact I.sd u hu) fun _ => I.sd u hu, fun u hu => ?_, fun u hu => f (p := fun y => 0 ≤ y.took) u (fun c => by subst c; exact I.tk0 u hu) fun _ => I.tk0 u hu, fun u hu => f (p := fun y => y.took ≤ y.row.length) u (fun c => by subst c; exact Int.le_trans (I.tk1 u hu) (Int.ofNat_le.mpr le)) fun _ => I.tk1 u hu, fun u hu => ?_, by rw [e0]; exact I.nd, by rw [e0]; exact I.gd, fun L hL => (I.lt L hL).mono g, fun u hu nu => ?_, by rw [e0]; exact I.hk, fun u hu nu => f (p := fun y => y.holds = []) u (fun c => by subst c; exact I.hk' u hu nu) fun _ => I.hk' u hu nu, by rw [e0]; exact I.ct⟩
  · rw [e0]; exact f (p := fun y => y.row <+: (X f0).row) u (fun c => pre) fun _ => I.pre u hu
  · rw [e0]; exact f (p := fun y => y.took ≤ (X f0).took) u (fun c => by subst c; exact I.tk2 u hu) fun _ => I.tk2 u hu
  · rw [e0]; exact ⟨(I.ho u hu nu).1, Int.le_trans (I.ho u hu nu).2 (Int.ofNat_le.mpr (rl u))⟩
/-- the first hand hears what another holds -/
theorem Inv.holF {s : Nat} {v : Int} (I : Inv fi f0 S D U X) (hs : (s : Int) ∈ fi) (h0 : 0 ≤ v) (h1 : v ≤ (X s).row.length) : Inv fi f0 S D U (updX X f0 { X f0 with holds := hoS (X f0).holds s v }) := by
  have f : ∀ {p : H7 → Prop} (u : Nat), (u = f0 → p { X f0 with holds := hoS (X f0).holds s v }) → (u ≠ f0 → p (X u)) → p (updX X f0 { X f0 with holds := hoS (X f0).holds s v } u) := fun {p} u a b => by
    by_cases c : u = f0
    · rw [show updX X f0 { X f0 with holds := hoS (X f0).holds s v } u = { X f0 with holds := hoS (X f0).holds s v } from if_pos c]; exact a c
    · rw [updX_ne c]; exact b c
  have row : ∀ u, (updX X f0 { X f0 with holds := hoS (X f0).holds s v } u).row = (X u).row := fun u => f (p := fun y => y.row = (X u).row) u (fun c => by subst c; rfl) fun _ => rfl
  have tk : ∀ u, (updX X f0 { X f0 with holds := hoS (X f0).holds s v } u).took = (X u).took := fun u => f (p := fun y => y.took = (X u).took) u (fun c => by subst c; rfl) fun _ => rfl
  have hh : (updX X f0 { X f0 with holds := hoS (X f0).holds s v } f0).holds = hoS (X f0).holds s v := by rw [updX_at]
  have g : Gr f0 X (updX X f0 { X f0 with holds := hoS (X f0).holds s v }) := ⟨by rw [row]; exact List.prefix_refl _, fun s => by rw [row]; exact Nat.le_refl _, by rw [tk]; exact Int.le_refl _⟩
  refine ⟨fun u hu => f (p := fun y => y.said = _) u (fun c => by subst c; exact I.sd u hu) fun _ => I.sd u hu, fun u hu => by rw [row, row]; exact I.pre u hu, fun u hu => by rw [tk]; exact I.tk0 u hu, fun u hu => by rw [tk, row]; exact I.tk1 u hu, fun u hu => by rw [tk, tk]; exact I.tk2 u hu, by rw [row]; exact I.nd, by rw [row]; exact I.gd, fun L hL => (I.lt L hL).mono g, fun u hu nu => ?_, ?_, fun u hu nu => by rw [updX_ne nu]; exact I.hk' u hu nu, by rw [row]; exact I.ct⟩
  · rw [hh, row, hoD_S]
    by_cases c : (u : Int) = s
    · rw [if_pos c, show u = s from Int.ofNat.inj c]; exact ⟨h0, h1⟩
    · rw [if_neg c]; exact I.ho u hu nu
  · rw [hh]
    have k := hoS_keys s v (X f0).holds
    refine ⟨?_, fun q hq => ?_⟩
    · rw [k]
      by_cases c : (s : Int) ∈ (X f0).holds.map (·.1)
      · rw [if_pos c]; exact I.hk.1
      · rw [if_neg c]; exact List.nodup_append.mpr ⟨I.hk.1, List.nodup_cons.mpr ⟨fun z => (nomatch z), List.nodup_nil⟩, fun a ha b hb z => c (by rw [List.mem_singleton.mp hb] at z; exact z ▸ ha)⟩
    · have : q.1 ∈ (hoS (X f0).holds s v).map (·.1) := List.mem_map.mpr ⟨q, hq, rfl⟩
      rw [k] at this
      have old : q.1 ∈ (X f0).holds.map (·.1) → q.1 ∈ fi := fun z => by
        obtain ⟨y, hy, e⟩ := List.mem_map.mp z
        rw [← e]; exact I.hk.2 y hy
      by_cases c : (s : Int) ∈ (X f0).holds.map (·.1)
      · rw [if_pos c] at this; exact old this
      · rw [if_neg c] at this
        rcases List.mem_append.mp this with z | z
        · exact old z
        · rw [List.mem_singleton.mp z]; exact hs
/-- the first hand's row grows -/
theorem Inv.rowF {m : Msg} (F : F0 fi f0) (I : Inv fi f0 S D U X) (hm : m ∉ (X f0).row) (hg : Good fi S m) (hc : (X f0).row.length + 1 + wsh U ≤ D) : Inv fi f0 S D U (updX X f0 { X f0 with row := (X f0).row ++ [m] }) := by
  have f : ∀ {p : H7 → Prop} (u : Nat), (u = f0 → p { X f0 with row := (X f0).row ++ [m] }) → (u ≠ f0 → p (X u)) → p (updX X f0 { X f0 with row := (X f0).row ++ [m] } u) := fun {p} u a b => by
    by_cases c : u = f0
    · rw [show updX X f0 { X f0 with row := (X f0).row ++ [m] } u = { X f0 with row := (X f0).row ++ [m] } from if_pos c]; exact a c
    · rw [updX_ne c]; exact b c
  have r0 : (updX X f0 { X f0 with row := (X f0).row ++ [m] } f0).row = (X f0).row ++ [m] := by rw [updX_at]
  have le : (X f0).row.length ≤ ((X f0).row ++ [m]).length := by rw [List.length_append]; exact Nat.le_add_right _ _
  have tk : ∀ u, (updX X f0 { X f0 with row := (X f0).row ++ [m] } u).took = (X u).took := fun u => f (p := fun y => y.took = (X u).took) u (fun c => by subst c; rfl) fun _ => rfl
  have hol : ∀ u, (updX X f0 { X f0 with row := (X f0).row ++ [m] } u).holds = (X u).holds := fun u => f (p := fun y => y.holds = (X u).holds) u (fun c => by subst c; rfl) fun _ => rfl
  have rl : ∀ s, (X s).row.length ≤ (updX X f0 { X f0 with row := (X f0).row ++ [m] } s).row.length := fun s => f (p := fun y => (X s).row.length ≤ y.row.length) s (fun c => by subst c; exact le) fun _ => Nat.le_refl _
  have g : Gr f0 X (updX X f0 { X f0 with row := (X f0).row ++ [m] }) := ⟨by rw [r0]; exact List.prefix_append _ _, rl, by rw [tk]; exact Int.le_refl _⟩
  refine ⟨fun u hu => f (p := fun y => y.said = _) u (fun c => by subst c; exact I.sd u hu) fun _ => I.sd u hu, fun u hu => ?_, fun u hu => by rw [tk]; exact I.tk0 u hu, fun u hu => by rw [tk]; exact Int.le_trans (I.tk1 u hu) (Int.ofNat_le.mpr (rl u)), fun u hu => by rw [tk, tk]; exact I.tk2 u hu, ?_, fun y hy => ?_, fun L hL => (I.lt L hL).mono g, fun u hu nu => ?_, by rw [hol]; exact I.hk, fun u hu nu => by rw [hol]; exact I.hk' u hu nu, ?_⟩
  · rw [r0]; exact f (p := fun y => y.row <+: (X f0).row ++ [m]) u (fun _ => List.prefix_refl _) fun _ => (I.pre u hu).trans (List.prefix_append _ _)
  · rw [r0]; exact List.nodup_append.mpr ⟨I.nd, List.nodup_cons.mpr ⟨fun z => (nomatch z), List.nodup_nil⟩, fun a ha b hb z => hm (by rw [List.mem_singleton.mp hb] at z; exact z ▸ ha)⟩
  · rw [r0] at hy
    rcases List.mem_append.mp hy with z | z
    · exact I.gd y z
    · rw [List.mem_singleton.mp z]; exact hg
  · rw [hol]; exact ⟨(I.ho u hu nu).1, Int.le_trans (I.ho u hu nu).2 (Int.ofNat_le.mpr (rl u))⟩
  · rw [r0, List.length_append]; exact hc
end
end Mine

end

section
set_option autoImplicit false
set_option linter.all false
set_option genSizeOf false
set_option genInjectivity false
namespace Mine
open PySem (Str)
/-- messages, looked at -/
theorem meq_ok (a b : Msg) : eqD a.v b.v = true ↔ a = b := by
  obtain ⟨h, n, w⟩ := a
  obtain ⟨h', n', w'⟩ := b
  show (decide (h = h') && (decide (n = n') && (decide (w = w') && true))) = true ↔ _
  constructor
  · intro e
    have e := (Bool.and_eq_true ..).mp e
    have e2 := (Bool.and_eq_true ..).mp e.2
    have e3 := (Bool.and_eq_true ..).mp e2.2
    rw [of_decide_eq_true e.1, of_decide_eq_true e2.1, of_decide_eq_true e3.1]
  · intro e
    cases e
    rw [decide_eq_true rfl, decide_eq_true rfl, decide_eq_true rfl]; rfl
theorem hasM_ok {row : List Msg} {m : Msg} : hasM row m = true ↔ m ∈ row := by
  unfold hasM mV
  rw [List.any_map, List.any_eq_true]
  constructor
  · intro ⟨x, hx, e⟩
    rw [← (meq_ok x m).mp e]; exact hx
  · intro h
    exact ⟨m, h, (meq_ok m m).mpr rfl⟩
section
variable {fi : List Int} {f0 : Nat} {S : Nat → List Str} {D : Nat} {U : List Letter} {X : Nat → H7}
theorem LtOk.to {L : Letter} (F : F0 fi f0) (h : LtOk fi f0 S X L) : ∃ t : Nat, L.to = t ∧ (t : Int) ∈ fi := by
  obtain ⟨a, b, c⟩ := L
  cases c with
  | wish m => exact ⟨f0, h.1, F.mem⟩
  | hold m p => exact h.1.2.elim fun t q => ⟨t, q.1, q.2.1⟩
  | have_ c => exact ⟨f0, h.1, F.mem⟩
  | take c => exact h.1.elim fun t q => ⟨t, q.1, q.2.1⟩
/-- a letter comes -/
theorem Inv.come {p t : Nat} {L : Letter} (F : F0 fi f0) (hz : (oth f0 fi).length ≤ 8) (I : Inv fi f0 S D U X) (hp : U[p]? = some L) (hto : L.to = t) (ht : (t : Int) ∈ fi) :
    Inv fi f0 S D (comeF t fi (X t) (dropAt U p) L).2 (updX X t (comeF t fi (X t) (dropAt U p) L).1) ∧ wgts (comeF t fi (X t) (dropAt U p) L).2 < wgts U := by
  obtain ⟨s1, s2, s3, s4⟩ := drop_sum hp
  have lok := I.lt L s4
  have I' : Inv fi f0 S D (dropAt U p) X := I.sub s3 (by omega)
  have pos := wgt_pos L
  unfold comeF
  cases hu : (X t).up with
  | false =>
    refine ⟨?_, ?_⟩
    · show Inv fi f0 S D (dropAt U p) (updX X t (X t))
      rw [updX_same]; exact I'
    · show wgts (dropAt U p) < wgts U
      omega
  | true =>
    obtain ⟨src, to, c⟩ := L
    have hto : to = t := hto
    subst hto
    cases c with
    | take c =>
      obtain ⟨⟨t', e, _, ne⟩, h0, h1⟩ := (lok : _ ∧ _ ∧ _)
      have : t = t' := Int.ofNat.inj e
      subst this
      refine ⟨I'.tookT ne ?_ ?_ ?_, ?_⟩
      · exact Int.le_trans (I.tk0 t ht) (le_mx _ _)
      · exact mx_le (I.tk1 t ht) (mn_le (.inr (Int.le_refl _)))
      · exact mx_le (I.tk2 t ht) (mn_le (.inl h1))
      · show wgts (dropAt U p) < wgts U
        omega
    | hold m q =>
      obtain ⟨⟨hs, t', e, _, ne⟩, k, ek, hk⟩ := (lok : (_ ∧ _) ∧ _)
      have hs : src = f0 := hs
      have : t = t' := Int.ofNat.inj e
      subst this hs
      have w10 : wgt ⟨(f0 : Int), (t : Int), .hold m q⟩ = 10 := rfl
      have have_ : ∀ (Y : Nat → H7) (V : List Letter) (cc : Int), Inv fi f0 S D V Y → 0 ≤ cc → cc ≤ (Y t).row.length → Inv fi f0 S D (V ++ [⟨t, f0, .have_ cc⟩]) Y := fun Y V cc J c0 c1 => J.more (fun L hL => by rw [List.mem_singleton.mp hL]; exact ⟨rfl, t, rfl, ht, ne, c0, c1⟩) rfl
      show Inv fi f0 S D (holdF t (X t) (dropAt U p) f0 m q).2 (updX X t (holdF t (X t) (dropAt U p) f0 m q).1) ∧ wgts (holdF t (X t) (dropAt U p) f0 m q).2 < wgts U
      unfold holdF
      cases c1 : decide (((X t).row.length : Int) < q) with
      | true =>
        refine ⟨?_, ?_⟩
        · show Inv fi f0 S D (dropAt U p) (updX X t (X t))
          rw [updX_same]; exact I'
        · show wgts (dropAt U p) < wgts U
          omega
      | false =>
        cases c2 : decide (q = ((X t).row.length : Int)) with
        | true =>
          have c2 : q = ((X t).row.length : Int) := of_decide_eq_true c2
          have ekk : k = (X t).row.length := Int.ofNat.inj (ek.symm.trans c2)
          refine ⟨have_ _ _ _ (I'.rowT ne (ekk ▸ hk) (I.pre t ht)) (by omega) ?_, ?_⟩
          · rw [updX_at]; show _ ≤ (((X t).row ++ [m]).length : Int); rw [List.length_append]; exact Int.le_refl _
          · show wgts (dropAt U p ++ [_]) < wgts U
            rw [wgts_app]; show wgts (dropAt U p) + (9 + 0) < wgts U; omega
        | false =>
          refine ⟨?_, ?_⟩
          · show Inv fi f0 S D (dropAt U p ++ [⟨t, f0, .have_ (X t).row.length⟩]) (updX X t (X t))
            rw [updX_same]; exact have_ _ _ _ I' (Int.natCast_nonneg _) (Int.le_refl _)
          · show wgts (dropAt U p ++ [_]) < wgts U
            rw [wgts_app]; show wgts (dropAt U p) + (9 + 0) < wgts U; omega
    | have_ c =>
      obtain ⟨e, s, hs, hs1, hs2, h0, h1⟩ := (lok : _ ∧ _)
      have hs : src = s := hs
      have : t = f0 := Int.ofNat.inj e
      subst this hs
      have w9 : wgt ⟨(s : Int), (t : Int), .have_ c⟩ = 9 := rfl
      have J := I'.holF (v := mx c (hoD (X t).holds s)) hs1 (Int.le_trans h0 (le_mx _ _)) (mx_le h1 (I.ho s hs1 hs2).2)
      have K := J.look F hz
      rw [updX_at, updX_two] at K
      exact ⟨K.1, by have := K.2.1; show wgts (lookF t fi { X t with holds := hoS (X t).holds s (mx c (hoD (X t).holds s)) } (dropAt U p)).2 < wgts U; omega⟩
    | wish m =>
      obtain ⟨e, hg⟩ := (lok : _ ∧ _)
      have : t = f0 := Int.ofNat.inj e
      subst this
      have w89 : wgt ⟨src, (t : Int), .wish m⟩ = 89 := rfl
      have w1 : wsh [⟨src, (t : Int), .wish m⟩] = 1 := rfl
      show Inv fi t S D (wishF t fi (X t) (dropAt U p) m).2 (updX X t (wishF t fi (X t) (dropAt U p) m).1) ∧ wgts (wishF t fi (X t) (dropAt U p) m).2 < wgts U
      unfold wishF
      cases c : hasM (X t).row m with
      | true =>
        refine ⟨?_, ?_⟩
        · show Inv fi t S D (dropAt U p) (updX X t (X t))
          rw [updX_same]; exact I'
        · show wgts (dropAt U p) < wgts U
          omega
      | false =>
        have hm : m ∉ (X t).row := fun z => by rw [hasM_ok.mpr z] at c; cases c
        have ct := I.ct
        have J := I'.rowF (m := m) F hm hg (by omega)
        have J2 := J.more (V' := (oth t fi).map fun u => ⟨t, u, .hold m (X t).row.length⟩) (fun L hL => by
          obtain ⟨i, hi, rfl⟩ := List.mem_map.mp hL
          obtain ⟨u, rfl, h1, h2⟩ := oth_nat F hi
          refine ⟨⟨rfl, u, rfl, h1, h2⟩, (X t).row.length, rfl, ?_⟩
          rw [updX_at]
          show ((X t).row ++ [m])[(X t).row.length]? = _
          rw [List.getElem?_append_right (Nat.le_refl _), Nat.sub_self]; rfl) (wsh_map _ (fun _ => rfl) _)
        have K := J2.look F hz
        rw [updX_at, updX_two] at K
        refine ⟨K.1, ?_⟩
        have := K.2.1
        rw [wgts_app, wgts_map _ 10 (fun _ => rfl)] at this
        show wgts (lookF t fi { X t with row := (X t).row ++ [m] } (dropAt U p ++ (oth t fi).map fun u => ⟨t, u, .hold m (X t).row.length⟩)).2 < wgts U
        omega
end
end Mine

end

section
set_option autoImplicit false
set_option linter.all false
set_option genSizeOf false
set_option genInjectivity false
namespace Mine
open PySem (Str)
noncomputable def updS (S : Nat → List Str) (t : Nat) (l : List Str) : Nat → List Str := fun u => if u = t then l else S u
theorem Good.mono {fi : List Int} {S : Nat → List Str} {t : Nat} {w : Str} {m : Msg} (h : Good fi S m) : Good fi (updS S t (S t ++ [w])) m := by
  obtain ⟨u, k, h1, h2, h3, h4⟩ := h
  refine ⟨u, k, h1, h2, h3, ?_⟩
  show (if u = t then S t ++ [w] else S u)[k]? = _
  by_cases c : u = t
  · subst c
    rw [if_pos rfl, List.getElem?_append_left (List.getElem?_eq_some_iff.mp h4).1]; exact h4
  · rw [if_neg c]; exact h4
section
variable {fi : List Int} {f0 : Nat} {S : Nat → List Str} {D : Nat} {U : List Letter} {X : Nat → H7}
theorem LtOk.monoS {t : Nat} {w : Str} {L : Letter} (h : LtOk fi f0 S X L) : LtOk fi f0 (updS S t (S t ++ [w])) X L := by
  obtain ⟨a, b, c⟩ := L
  cases c with
  | wish m => exact ⟨h.1, h.2.mono⟩
  | hold m p => exact h
  | have_ c => exact h
  | take c => exact h
/-- a change that is of no account but for the words said -/
theorem Inv.upd0 {S' : Nat → List Str} {X' : Nat → H7} (I : Inv fi f0 S D U X) (hr : ∀ u, (X' u).row = (X u).row) (ht : ∀ u, (X' u).took = (X u).took) (hh : ∀ u, (X' u).holds = (X u).holds) (sd : ∀ t : Nat, (t : Int) ∈ fi → (X' t).said = (S' t).length) (gd : ∀ m, Good fi S m → Good fi S' m) (lt : ∀ L, LtOk fi f0 S X L → LtOk fi f0 S' X L) : Inv fi f0 S' D U X' := by
  have g : Gr f0 X X' := ⟨by rw [hr]; exact List.prefix_refl _, fun s => by rw [hr]; exact Nat.le_refl _, by rw [ht]; exact Int.le_refl _⟩
  exact ⟨sd, fun u hu => by rw [hr, hr]; exact I.pre u hu, fun u hu => by rw [ht]; exact I.tk0 u hu, fun u hu => by rw [ht, hr]; exact I.tk1 u hu, fun u hu => by rw [ht, ht]; exact I.tk2 u hu, by rw [hr]; exact I.nd, fun m hm => gd m (I.gd m (by rw [hr] at hm; exact hm)), fun L hL => (lt L (I.lt L hL)).mono g, fun u hu nu => by rw [hh, hr]; exact I.ho u hu nu, by rw [hh]; exact I.hk, fun u hu nu => by rw [hh]; exact I.hk' u hu nu, by rw [hr]; exact I.ct⟩
theorem upd_f {X : Nat → H7} {t : Nat} {x : H7} {α : Type} (g : H7 → α) (h : g x = g (X t)) (u : Nat) : g (updX X t x u) = g (X u) := by
  by_cases c : u = t
  · subst c; rw [updX_at]; exact h
  · rw [updX_ne c]
theorem Inv.fall {t : Nat} (I : Inv fi f0 S D U X) : Inv fi f0 S D U (updX X t { X t with up := false }) :=
  I.upd0 (upd_f (·.row) rfl) (upd_f (·.took) rfl) (upd_f (·.holds) rfl) (fun u hu => (upd_f (x := { X t with up := false }) (t := t) (·.said) rfl u).trans (I.sd u hu)) (fun _ h => h) fun _ h => h
theorem Inv.say {t : Nat} {w : Str} (F : F0 fi f0) (I : Inv fi f0 S D U X) (ht : (t : Int) ∈ fi) : Inv fi f0 (updS S t (S t ++ [w])) (D + 1) (U ++ [⟨t, f0, .wish ⟨t, (X t).said, w⟩⟩]) (updX X t { X t with said := (X t).said + 1 }) := by
  have J : Inv fi f0 (updS S t (S t ++ [w])) D U (updX X t { X t with said := (X t).said + 1 }) := I.upd0 (upd_f (·.row) rfl) (upd_f (·.took) rfl) (upd_f (·.holds) rfl) (fun u hu => by
    show _ = ((if u = t then S t ++ [w] else S u).length : Int)
    by_cases c : u = t
    · subst c
      rw [updX_at, if_pos rfl, List.length_append]
      show (X u).said + 1 = _
      rw [I.sd u hu]; rfl
    · rw [updX_ne c, if_neg c]; exact I.sd u hu) (fun _ h => h.mono) fun _ h => h.monoS
  refine { J with lt := fun L hL => ?_, ct := ?_ }
  · rcases List.mem_append.mp hL with z | z
    · exact J.lt L z
    · rw [List.mem_singleton.mp z]
      refine ⟨rfl, t, (S t).length, ht, rfl, I.sd t ht, ?_⟩
      show (if t = t then S t ++ [w] else S t)[(S t).length]? = _
      rw [if_pos rfl, List.getElem?_append_right (Nat.le_refl _), Nat.sub_self]; rfl
  · have := J.ct
    rw [wsh_app]
    show _ + (_ + (1 + 0)) ≤ _
    omega
theorem Inv.double {L : Letter} (I : Inv fi f0 S D U X) (h : L ∈ U) : Inv fi f0 S (D + 1) (U ++ [L]) X := by
  refine { I with lt := fun x hx => (List.mem_append.mp hx).elim (I.lt x) fun z => List.mem_singleton.mp z ▸ I.lt L h, ct := ?_ }
  have := I.ct
  have : wsh [L] ≤ 1 := by obtain ⟨a, b, c⟩ := L; cases c <;> first | exact Nat.le_refl 1 | exact Nat.zero_le 1
  rw [wsh_app]; omega
theorem Inv.deed (I : Inv fi f0 S D U X) {D' : Nat} (h : D ≤ D') : Inv fi f0 S D' U X := { I with ct := Nat.le_trans I.ct h }
theorem prs_ok (F : F0 fi f0) {row : List Msg} : ∀ (r : List Msg) (i : Nat), row.drop i = r → ∀ L ∈ prsL f0 (oth f0 fi) r i, ∃ t q : Nat, ∃ m, L = ⟨f0, t, .hold m q⟩ ∧ (t : Int) ∈ fi ∧ t ≠ f0 ∧ row[q]? = some m
  | [], i, e, L, h => by cases h
  | m :: r, i, e, L, h => by
    have hi : row[i]? = some m := by
      have := congrArg List.head? e
      rw [List.head?_drop] at this; exact this
    rcases List.mem_append.mp (show L ∈ ((oth f0 fi).map fun t => (⟨f0, t, .hold m i⟩ : Letter)) ++ prsL f0 (oth f0 fi) r (i + 1) from h) with z | z
    · obtain ⟨x, hx, rfl⟩ := List.mem_map.mp z
      obtain ⟨t, rfl, h1, h2⟩ := oth_nat F hx
      exact ⟨t, i, m, rfl, h1, h2, hi⟩
    · exact prs_ok F r (i + 1) (by
        have := congrArg List.tail e
        rw [List.tail_drop] at this; exact this) L z
theorem prs_wsh (k : Int) (ts : List Int) : ∀ (r : List Msg) (i : Nat), wsh (prsL k ts r i) = 0
  | [], i => rfl
  | m :: r, i => by
    show wsh ((ts.map fun t => (⟨k, t, .hold m i⟩ : Letter)) ++ prsL k ts r (i + 1)) = 0
    rw [wsh_app, prs_wsh k ts r (i + 1), wsh_map _ (fun _ => rfl)]
theorem prs_wgt (k : Int) (ts : List Int) : ∀ (r : List Msg) (i : Nat), wgts (prsL k ts r i) = r.length * (10 * ts.length)
  | [], i => by show 0 = 0 * _; rw [Nat.zero_mul]
  | m :: r, i => by
    show wgts ((ts.map fun t => (⟨k, t, .hold m i⟩ : Letter)) ++ prsL k ts r (i + 1)) = (r.length + 1) * _
    rw [wgts_app, prs_wgt k ts r (i + 1), wgts_map _ 10 (fun _ => rfl), Nat.add_mul, Nat.one_mul, Nat.add_comm]
theorem Inv.press (F : F0 fi f0) (I : Inv fi f0 S D U X) : Inv fi f0 S D (U ++ prsL f0 (oth f0 fi) (X f0).row 0 ++ (oth f0 fi).map fun u => ⟨f0, u, .take (X f0).took⟩) X := by
  refine Inv.more (Inv.more I (fun L hL => ?_) (prs_wsh _ _ _ _)) (fun L hL => ?_) (wsh_map _ (fun _ => rfl) _)
  · obtain ⟨t, q, m, rfl, h1, h2, h3⟩ := prs_ok F (X f0).row 0 rfl L hL
    exact ⟨⟨rfl, t, rfl, h1, h2⟩, q, rfl, h3⟩
  · obtain ⟨x, hx, rfl⟩ := List.mem_map.mp hL
    obtain ⟨t, rfl, h1, h2⟩ := oth_nat F hx
    exact ⟨⟨t, rfl, h1, h2⟩, I.tk0 f0 F.mem, Int.le_refl _⟩
theorem Inv.start {M : Nat} (F : F0 fi f0) : Inv fi f0 (fun _ => []) 0 [] X70 :=
  ⟨fun _ _ => rfl, fun _ _ => List.prefix_refl _, fun _ _ => Int.le_refl _, fun _ _ => Int.le_refl _, fun _ _ => Int.le_refl _, List.nodup_nil, fun _ h => (nomatch h), fun _ h => (nomatch h), fun _ _ _ => ⟨Int.le_refl _, Int.le_refl _⟩, ⟨List.nodup_nil, fun _ h => (nomatch h)⟩, fun _ _ _ => rfl, Nat.le_refl _⟩
end
end Mine

end

section
set_option autoImplicit false
set_option linter.all false
set_option genSizeOf false
set_option genInjectivity false
namespace Mine
open PySem (Str)
/-! What the letters under way bring to a hand, in order. -/
noncomputable def sim1 (p : List Msg × Int) : Cont → List Msg × Int
  | .hold m q => if q = (p.1.length : Int) then (p.1 ++ [m], p.2) else p
  | .take c => (p.1, mx p.2 (mn c p.1.length))
  | _ => p
noncomputable def sim (h : Int) : List Letter → List Msg × Int → List Msg × Int
  | [], p => p
  | L :: U, p => if L.to = h then sim h U (sim1 p L.c) else sim h U p
theorem sim_app (h : Int) : ∀ (A B : List Letter) (p : List Msg × Int), sim h (A ++ B) p = sim h B (sim h A p)
  | [], B, p => rfl
  | L :: A, B, p => by
    show (if L.to = h then sim h (A ++ B) (sim1 p L.c) else sim h (A ++ B) p) = sim h B (if L.to = h then sim h A (sim1 p L.c) else sim h A p)
    by_cases c : L.to = h
    · rw [if_pos c, if_pos c, sim_app h A B]
    · rw [if_neg c, if_neg c, sim_app h A B]
theorem sim_skip {h : Int} {A : List Letter} (hA : ∀ L ∈ A, L.to ≠ h) (p : List Msg × Int) : sim h A p = p := by
  induction A with
  | nil => rfl
  | cons L A ih =>
    show (if L.to = h then _ else sim h A p) = _
    rw [if_neg (hA L (.head _))]
    exact ih fun L hL => hA L (.tail _ hL)
theorem sim_each {h k : Int} {c : Cont} : ∀ {l : List Int} {p : List Msg × Int}, l.Nodup → h ∈ l → sim h (l.map fun t => ⟨k, t, c⟩) p = sim1 p c
  | [], _, _, hm => by cases hm
  | t :: l, p, nd, hm => by
    have nd := List.nodup_cons.mp nd
    show (if t = h then sim h (l.map fun t => ⟨k, t, c⟩) (sim1 p c) else sim h (l.map fun t => ⟨k, t, c⟩) p) = _
    by_cases z : t = h
    · rw [if_pos z]
      refine sim_skip (fun L hL => ?_) _
      obtain ⟨t', ht, rfl⟩ := List.mem_map.mp hL
      intro z'
      exact nd.1 (z ▸ (show t' = h from z') ▸ ht)
    · rw [if_neg z]
      exact sim_each nd.2 ((List.mem_cons.mp hm).resolve_left fun q => z q.symm)
section
variable {fi : List Int} {f0 : Nat} {S : Nat → List Str} {D : Nat} {U : List Letter} {X : Nat → H7}
theorem sim_pre {h : Nat} (ne : h ≠ f0) : ∀ (V : List Letter) (p : List Msg × Int), (∀ L ∈ V, LtOk fi f0 S X L) → p.1 <+: (X f0).row → p.2 ≤ (X f0).took → (sim h V p).1 <+: (X f0).row ∧ (sim h V p).2 ≤ (X f0).took
  | [], p, _, h1, h2 => ⟨h1, h2⟩
  | L :: V, p, hV, h1, h2 => by
    show (if L.to = h then sim h V (sim1 p L.c) else sim h V p).1 <+: _ ∧ (if L.to = h then sim h V (sim1 p L.c) else sim h V p).2 ≤ _
    by_cases c : L.to = h
    · rw [if_pos c]
      refine sim_pre ne V _ (fun x hx => hV x (.tail _ hx)) ?_ ?_
      · obtain ⟨a, b, cc⟩ := L
        have lok := hV ⟨a, b, cc⟩ (.head _)
        cases cc with
        | hold m q =>
          obtain ⟨_, k, ek, hk⟩ := (lok : _ ∧ _)
          show (if q = (p.1.length : Int) then (p.1 ++ [m], p.2) else p).1 <+: _
          by_cases e : q = (p.1.length : Int)
          · rw [if_pos e]
            have ekk : k = p.1.length := Int.ofNat.inj (ek.symm.trans e)
            obtain ⟨r, er⟩ := h1
            rw [ekk, ← er, List.getElem?_append_right (Nat.le_refl _), Nat.sub_self] at hk
            cases r with
            | nil => cases hk
            | cons y r => cases hk; exact ⟨r, by rw [List.append_assoc]; exact er⟩
          · rw [if_neg e]; exact h1
        | take c => exact h1
        | wish m => exact h1
        | have_ c => exact h1
      · obtain ⟨a, b, cc⟩ := L
        have lok := hV ⟨a, b, cc⟩ (.head _)
        cases cc with
        | hold m q =>
          show (if q = (p.1.length : Int) then (p.1 ++ [m], p.2) else p).2 ≤ _
          by_cases e : q = (p.1.length : Int)
          · rw [if_pos e]; exact h2
          · rw [if_neg e]; exact h2
        | take c => exact mx_le h2 (mn_le (.inl lok.2.2))
        | wish m => exact h2
        | have_ c => exact h2
    · rw [if_neg c]
      exact sim_pre ne V p (fun x hx => hV x (.tail _ hx)) h1 h2
theorem sim_prs {h : Nat} {row : List Msg} {k : Int} {ts : List Int} (nd : ts.Nodup) (hh : (h : Int) ∈ ts) : ∀ (r : List Msg) (i : Nat) (p : List Msg × Int), row.drop i = r → p.1 <+: row → i ≤ p.1.length → i + r.length = row.length → sim h (prsL k ts r i) p = (row, p.2)
  | [], i, p, e, hp, hi, hl => by
    have : p.1 = row := hp.eq_of_length_le (by rw [List.length_nil, Nat.add_zero] at hl; omega)
    show p = _
    rw [← this]
  | m :: r, i, p, e, hp, hi, hl => by
    have him : row[i]? = some m := by
      have := congrArg List.head? e
      rw [List.head?_drop] at this; exact this
    rw [List.length_cons] at hl
    show sim h ((ts.map fun t => (⟨k, t, .hold m i⟩ : Letter)) ++ prsL k ts r (i + 1)) p = _
    rw [sim_app, sim_each nd hh]
    have e' : row.drop (i + 1) = r := by
      have := congrArg List.tail e
      rw [List.tail_drop] at this; exact this
    show sim h _ (if (i : Int) = (p.1.length : Int) then (p.1 ++ [m], p.2) else p) = _
    by_cases c : (i : Int) = (p.1.length : Int)
    · rw [if_pos c]
      have c : i = p.1.length := Int.ofNat.inj c
      refine sim_prs nd hh r (i + 1) (p.1 ++ [m], p.2) e' ?_ (by rw [List.length_append]; show i + 1 ≤ p.1.length + 1; omega) (by omega)
      obtain ⟨q, eq⟩ := hp
      rw [← eq, c, List.getElem?_append_right (Nat.le_refl _), Nat.sub_self] at him
      cases q with
      | nil => cases him
      | cons y q => cases him; exact ⟨q, by rw [List.append_assoc]; exact eq⟩
    · rw [if_neg c]
      have c : i ≠ p.1.length := fun z => c (congrArg Int.ofNat z)
      exact sim_prs nd hh r (i + 1) p e' hp (by omega) (by omega)
/-- all that stand will be alike -/
noncomputable def FinI (fi : List Int) (f0 : Nat) (U : List Letter) (X : Nat → H7) : Prop := ∀ h : Nat, (h : Int) ∈ fi → h ≠ f0 → (X h).up = true → sim h U ((X h).row, (X h).took) = ((X f0).row, (X f0).took)
theorem FinI.press (F : F0 fi f0) (nd : fi.Nodup) (I : Inv fi f0 S D U X) : FinI fi f0 (U ++ prsL f0 (oth f0 fi) (X f0).row 0 ++ (oth f0 fi).map fun u => ⟨f0, u, .take (X f0).took⟩) X := fun h hh ne _ => by
  have ho : (h : Int) ∈ oth f0 fi := oth_mem.mpr ⟨hh, fun z => ne (Int.ofNat.inj z)⟩
  have no : (oth (f0 : Int) fi).Nodup := nd.filter _
  obtain ⟨a, b⟩ := sim_pre (h := h) ne U ((X h).row, (X h).took) I.lt (I.pre h hh) (I.tk2 h hh)
  rw [sim_app, sim_app, sim_prs no ho (X f0).row 0 _ rfl a (Nat.zero_le _) (Nat.zero_add _), sim_each no ho]
  show ((X f0).row, mx (sim h U ((X h).row, (X h).took)).2 (mn (X f0).took (X f0).row.length)) = _
  have e1 : mn (X f0).took (X f0).row.length = (X f0).took := by
    have := I.tk1 f0 F.mem
    unfold mn; rw [if_neg (by omega)]
  rw [e1]
  have e2 : mx (sim h U ((X h).row, (X h).took)).2 (X f0).took = (X f0).took := by
    unfold mx
    by_cases c : (X f0).took > (sim h U ((X h).row, (X h).took)).2
    · rw [if_pos c]
    · rw [if_neg c]; omega
  rw [e2]
theorem lookF_up {k : Int} {x : H7} : (lookF k fi x U).1.up = x.up := by
  unfold lookF
  cases decide (x.took < hbe k fi x.row.length x.holds) <;> rfl
/-- what a look brings -/
theorem sim_look {h : Nat} {x : H7} {p : List Msg × Int} (F : F0 fi f0) (nd : fi.Nodup) (hh : (h : Int) ∈ fi) (ne : h ≠ f0) (hl : hbe f0 fi x.row.length x.holds ≤ x.row.length) (e : sim h U p = (x.row, x.took)) : sim h (lookF f0 fi x U).2 p = ((lookF f0 fi x U).1.row, (lookF f0 fi x U).1.took) := by
  have ho : (h : Int) ∈ oth f0 fi := oth_mem.mpr ⟨hh, fun z => ne (Int.ofNat.inj z)⟩
  have no : (oth (f0 : Int) fi).Nodup := nd.filter _
  unfold lookF
  cases c : decide (x.took < hbe f0 fi x.row.length x.holds) with
  | false => exact e
  | true =>
    have c := of_decide_eq_true c
    show sim h (U ++ _) p = (x.row, hbe f0 fi x.row.length x.holds)
    rw [sim_app, e, sim_each no ho]
    show (x.row, mx x.took (mn (hbe f0 fi x.row.length x.holds) x.row.length)) = _
    have e1 : mn (hbe f0 fi x.row.length x.holds) x.row.length = hbe f0 fi x.row.length x.holds := by unfold mn; rw [if_neg (by omega)]
    rw [e1, show mx x.took (hbe f0 fi x.row.length x.holds) = hbe f0 fi x.row.length x.holds by unfold mx; rw [if_pos c]]
theorem FinI.come {t : Nat} {L : Letter} (F : F0 fi f0) (nd : fi.Nodup) (I : Inv fi f0 S D (L :: U) X) (J : FinI fi f0 (L :: U) X) (h0 : (X f0).up = true) (hto : L.to = t) (ht : (t : Int) ∈ fi) :
    FinI fi f0 (comeF t fi (X t) U L).2 (updX X t (comeF t fi (X t) U L).1) ∧ (updX X t (comeF t fi (X t) U L).1 f0).up = true := by
  have s4 : wsh (L :: U) = wsh [L] + wsh U := rfl
  have I' : Inv fi f0 S D U X := I.sub (fun x hx => .tail _ hx) (by omega)
  have lok := I.lt L (.head _)
  have Jt : ∀ h : Nat, (h : Int) ∈ fi → h ≠ f0 → (X h).up = true → (if L.to = h then sim h U (sim1 ((X h).row, (X h).took) L.c) else sim h U ((X h).row, (X h).took)) = ((X f0).row, (X f0).took) := J
  have Jn : ∀ h : Nat, (h : Int) ∈ fi → h ≠ f0 → (X h).up = true → h ≠ t → sim h U ((X h).row, (X h).took) = ((X f0).row, (X f0).took) := fun h a b c d => by
    have := Jt h a b c
    rw [if_neg fun z => d (Int.ofNat.inj (z.symm.trans hto))] at this; exact this
  unfold comeF
  cases hu : (X t).up with
  | false =>
    show FinI fi f0 U (updX X t (X t)) ∧ (updX X t (X t) f0).up = true
    rw [updX_same]
    exact ⟨fun h a b c => Jn h a b c fun z => (by rw [z, hu] at c; cases c), h0⟩
  | true =>
    have other : ∀ (x : H7) (V : List Letter), t ≠ f0 → x.up = true → (∀ L ∈ V, L.to = f0) → sim t U (x.row, x.took) = ((X f0).row, (X f0).took) → FinI fi f0 (U ++ V) (updX X t x) ∧ (updX X t x f0).up = true := fun x V ne xu hV hx => by
      have e0 : updX X t x f0 = X f0 := updX_ne fun z => ne z.symm
      refine ⟨fun h a b c => ?_, by rw [e0]; exact h0⟩
      rw [sim_app, sim_skip (h := (h : Int)) (A := V) (fun L hL z => b (Int.ofNat.inj ((hV L hL).symm.trans z)).symm), e0]
      by_cases d : h = t
      · subst d; rw [updX_at]; exact hx
      · rw [updX_ne d] at c ⊢; exact Jn h a b c d
    obtain ⟨src, to, c⟩ := L
    have hto : to = t := hto
    subst hto
    cases c with
    | take c =>
      obtain ⟨⟨t', e, _, ne⟩, _, _⟩ := (lok : _ ∧ _ ∧ _)
      have : t = t' := Int.ofNat.inj e
      subst this
      have := Jt t ht ne hu
      rw [if_pos rfl] at this
      have r := other { X t with took := mx (X t).took (mn c (X t).row.length) } [] ne hu (fun _ h => (nomatch h)) this
      rw [List.append_nil] at r; exact r
    | hold m q =>
      obtain ⟨⟨hs, t', e, _, ne⟩, k, ek, hk⟩ := (lok : (_ ∧ _) ∧ _)
      have hs : src = f0 := hs
      have : t = t' := Int.ofNat.inj e
      subst this hs
      have this := Jt t ht ne hu
      rw [if_pos rfl] at this
      have this : sim t U (if q = ((X t).row.length : Int) then ((X t).row ++ [m], (X t).took) else ((X t).row, (X t).took)) = ((X f0).row, (X f0).took) := this
      show FinI fi f0 (holdF t (X t) U f0 m q).2 (updX X t (holdF t (X t) U f0 m q).1) ∧ (updX X t (holdF t (X t) U f0 m q).1 f0).up = true
      unfold holdF
      cases c1 : decide (((X t).row.length : Int) < q) with
      | true =>
        have c1 := of_decide_eq_true c1
        rw [if_neg (by omega)] at this
        have r := other (X t) [] ne hu (fun _ h => (nomatch h)) this
        rw [List.append_nil] at r; exact r
      | false =>
        cases c2 : decide (q = ((X t).row.length : Int)) with
        | true =>
          have c2 := of_decide_eq_true c2
          rw [if_pos c2] at this
          exact other { X t with row := (X t).row ++ [m] } [_] ne hu (fun L h => by rw [List.mem_singleton.mp h]) this
        | false =>
          have c2 := of_decide_eq_false c2
          rw [if_neg c2] at this
          exact other (X t) [_] ne hu (fun L h => by rw [List.mem_singleton.mp h]) this
    | have_ c =>
      obtain ⟨e, s, hs, hs1, hs2, g0, g1⟩ := (lok : _ ∧ _)
      have hs : src = s := hs
      have : t = f0 := Int.ofNat.inj e
      subst this hs
      have B := (I'.holF (v := mx c (hoD (X t).holds s)) hs1 (Int.le_trans g0 (le_mx _ _)) (mx_le g1 (I.ho s hs1 hs2).2)).hbe F
      rw [updX_at] at B
      refine ⟨fun h a b cc => ?_, ?_⟩
      · rw [updX_ne b] at cc ⊢
        rw [updX_at]
        exact sim_look F nd a b B (Jn h a b cc b)
      · rw [updX_at]
        show (lookF t fi { X t with holds := hoS (X t).holds s (mx c (hoD (X t).holds s)) } U).1.up = true
        rw [lookF_up]; exact hu
    | wish m =>
      obtain ⟨e, hg⟩ := (lok : _ ∧ _)
      have : t = f0 := Int.ofNat.inj e
      subst this
      have w1 : wsh [⟨src, (t : Int), .wish m⟩] = 1 := rfl
      show FinI fi t (wishF t fi (X t) U m).2 (updX X t (wishF t fi (X t) U m).1) ∧ (updX X t (wishF t fi (X t) U m).1 t).up = true
      unfold wishF
      cases c : hasM (X t).row m with
      | true =>
        show FinI fi t U (updX X t (X t)) ∧ (updX X t (X t) t).up = true
        rw [updX_same]
        exact ⟨fun h a b cc => Jn h a b cc b, hu⟩
      | false =>
        have hm : m ∉ (X t).row := fun z => by rw [hasM_ok.mpr z] at c; cases c
        have ct := I.ct
        have B := (I'.rowF (m := m) F hm hg (by omega)).hbe F
        rw [updX_at] at B
        refine ⟨fun h a b cc => ?_, ?_⟩
        · rw [updX_ne b] at cc ⊢
          rw [updX_at]
          refine sim_look F nd a b B ?_
          have ho : (h : Int) ∈ oth t fi := oth_mem.mpr ⟨a, fun z => b (Int.ofNat.inj z)⟩
          have no : (oth (t : Int) fi).Nodup := nd.filter _
          rw [sim_app, Jn h a b cc b, sim_each no ho]
          show (if ((X t).row.length : Int) = ((X t).row.length : Int) then ((X t).row ++ [m], (X t).took) else _) = _
          rw [if_pos rfl]
        · rw [updX_at]
          show (lookF t fi { X t with row := (X t).row ++ [m] } _).1.up = true
          rw [lookF_up]; exact hu
end
end Mine

end

section
set_option autoImplicit false
set_option linter.all false
set_option genSizeOf false
set_option genInjectivity false
set_option maxRecDepth 20000
namespace Mine
open PySem (Str)
/-! The law's own defs. -/
theorem nodup_len : ∀ {l : List Int} {k : List Int}, l.Nodup → (∀ x ∈ l, x ∈ k) → l.length ≤ k.length
  | [], k, _, _ => Nat.zero_le _
  | a :: l, k, nd, h => by
    have nd := List.nodup_cons.mp nd
    have ha := h a (.head _)
    have := nodup_len (k := k.erase a) nd.2 fun x hx => (List.mem_erase_of_ne fun (z : x = a) => nd.1 (z ▸ hx)).mpr (h x (.tail _ hx))
    rw [List.length_erase_of_mem ha] at this
    have : 0 < k.length := List.length_pos_of_mem ha
    rw [List.length_cons]; omega
/-- a hand's row and what it has taken grow -/
structure Mn (x y : H7) : Prop where
  r : x.row <+: y.row
  t : x.took ≤ y.took
theorem Mn.trans {x y z : H7} (a : Mn x y) (b : Mn y z) : Mn x z := ⟨a.r.trans b.r, Int.le_trans a.t b.t⟩
theorem Mn.same {x y : H7} (h1 : x.row = y.row) (h2 : x.took = y.took) : Mn x y := ⟨h1 ▸ List.prefix_refl _, Int.le_of_eq h2⟩
theorem look_mn {k : Int} {fi : List Int} {x : H7} {U : List Letter} : Mn x (lookF k fi x U).1 := by
  unfold lookF
  cases c : decide (x.took < hbe k fi x.row.length x.holds) with
  | true => exact ⟨List.prefix_refl _, Int.le_of_lt (of_decide_eq_true c)⟩
  | false => exact .same rfl rfl
theorem come_mn {k : Int} {fi : List Int} {x : H7} {U : List Letter} {Lt : Letter} : Mn x (comeF k fi x U Lt).1 := by
  unfold comeF
  cases x.up with
  | false => exact .same rfl rfl
  | true =>
    show Mn x (stepF k fi x U Lt.from_ Lt.c).1
    cases Lt.c with
    | wish m =>
      show Mn x (wishF k fi x U m).1
      unfold wishF
      cases hasM x.row m with
      | true => exact .same rfl rfl
      | false =>
        have h : Mn x { x with row := x.row ++ [m] } := ⟨List.prefix_append x.row [m], Int.le_refl x.took⟩
        exact h.trans look_mn
    | hold m p =>
      show Mn x (holdF k x U Lt.from_ m p).1
      unfold holdF
      cases decide ((x.row.length : Int) < p) with
      | true => exact .same rfl rfl
      | false =>
        cases decide (p = (x.row.length : Int)) with
        | true => exact (⟨List.prefix_append x.row [m], Int.le_refl x.took⟩ : Mn x { x with row := x.row ++ [m] })
        | false => exact .same rfl rfl
    | have_ c =>
      have h : Mn x { x with holds := hoS x.holds Lt.from_ (mx c (hoD x.holds Lt.from_)) } := .same rfl rfl
      exact h.trans look_mn
    | take c =>
      show Mn x { x with took := mx x.took (mn c x.row.length) }
      exact ⟨List.prefix_refl x.row, le_mx x.took _⟩
theorem Mn.upd {Y X : Nat → H7} {t : Nat} {x : H7} (h : ∀ u, Mn (Y u) (X u)) (hx : Mn (X t) x) (u : Nat) : Mn (Y u) (updX X t x u) := by
  by_cases c : u = t
  · subst c; rw [updX_at]; exact (h u).trans hx
  · rw [updX_ne c]; exact h u
/-- the folk, in order; Y: the folk as it was -/
structure G7 (Y : Nat → H7) (L : Lay) (M : Nat) (fi : List Int) (f0 : Nat) (S : Nat → List Str) (D W : Nat) (H : Hp) (U : List Letter) (X : Nat → H7) : Prop where
  rep : Rep H L M fi U X
  inv : Inv fi f0 S D U X
  wg : wgts U ≤ W
  mn : ∀ u, Mn (Y u) (X u)
/-- what stands fast -/
structure C7 (M : Nat) (fi : List Int) (f0 : Nat) : Prop where
  ok : Fi M fi
  hM : M ≤ 7
  f0 : ∃ fs, fi = (f0 : Int) :: fs
theorem C7.nd {M : Nat} {fi : List Int} {f0 : Nat} (c : C7 M fi f0) : fi.Nodup := c.ok.up.imp fun h => Int.ne_of_lt h
theorem oth_len1 {t : Int} : ∀ {l : List Int}, l.Nodup → t ∈ l → (oth t l).length + 1 = l.length
  | [], _, h => (nomatch h)
  | a :: l, nd, h => by
    have nd := List.nodup_cons.mp nd
    unfold oth
    rw [List.filter_cons]
    by_cases c : a = t
    · rw [decide_eq_true c]
      subst c
      have e : l.filter (fun x => !decide (x = a)) = l := List.filter_eq_self.mpr fun x hx => by rw [decide_eq_false (show ¬ x = a from fun z => nd.1 (z ▸ hx))]; rfl
      show (l.filter _).length + 1 = l.length + 1
      rw [e]
    · rw [decide_eq_false c]
      have := oth_len1 nd.2 ((List.mem_cons.mp h).resolve_left fun z => c z.symm)
      unfold oth at this
      show (l.filter _).length + 1 + 1 = l.length + 1
      omega
theorem C7.oth {M : Nat} {fi : List Int} {f0 t : Nat} (c : C7 M fi f0) (ht : (t : Int) ∈ fi) : fi.length ≤ 7 ∧ (Mine.oth t fi).length + 1 = fi.length := ⟨Nat.le_trans c.ok.len c.hM, oth_len1 c.nd ht⟩
theorem C7.F {M : Nat} {fi : List Int} {f0 : Nat} (c : C7 M fi f0) : F0 fi f0 := by
  have mem : (f0 : Int) ∈ fi := by obtain ⟨fs, e⟩ := c.f0; rw [e]; exact .head _
  have o := c.oth mem
  exact ⟨mem, by omega, fun i hi => ⟨i.toNat, by have := c.ok.lt i hi; omega⟩⟩
section
variable {L : Lay} {M : Nat} {fi : List Int} {f0 : Nat} {S : Nat → List Str} {D W : Nat} {H : Hp} {U : List Letter} {X Y : Nat → H7}
theorem G7.ok {t p : Nat} (c : C7 M fi f0) (g : G7 Y L M fi f0 S D W H U X) (hD : D ≤ 1000) (hW : W ≤ 1000000) (ht : (t : Int) ∈ fi) : Ok7 (dropAt U p) t fi (X t) := by
  have o := c.oth ht
  have lu := len_wgts U
  have wg := g.wg
  have ct := g.inv.ct
  have ld : (dropAt U p).length ≤ U.length := by
    unfold dropAt
    rw [List.length_append, List.length_take, List.length_drop]; omega
  have pr := (g.inv.pre t ht).length_le
  refine ⟨by omega, by omega, by unfold SZ; omega, by unfold SZ; omega, ?_⟩
  by_cases e : t = f0
  · subst e
    have := nodup_len g.inv.hk.1 (k := fi) fun x hx => by
      obtain ⟨y, hy, ey⟩ := List.mem_map.mp hx
      rw [← ey]; exact g.inv.hk.2 y hy
    rw [List.length_map] at this
    unfold SZ; omega
  · rw [g.inv.hk' t ht e]; exact Nat.le_of_ble_eq_true rfl
/-- a letter comes -/
theorem come_G {n p : Nat} {Q : V → Hp → Prop} {E : Nat → Hp → Prop} (c : C7 M fi f0) (g : G7 Y L M fi f0 S D W H U X) (hD : D ≤ 1000) (hW : W ≤ 1000000) (hp : p < U.length) (h : ∀ H' U' X', G7 Y L M fi f0 S D W H' U' X' → Keep L fi H H' → Q .none H') : CW tb.P (n + 6) 251 [.ref L.fk, .int p] H Q E := by
  have hq : U[p]? = some U[p] := List.getElem?_eq_getElem hp
  have F := c.F
  obtain ⟨t, hto, ht⟩ := (g.inv.lt U[p] (List.getElem_mem hp)).to F
  have o := c.oth F.mem
  obtain ⟨i, w⟩ := g.inv.come F (by omega) hq hto ht
  exact come_L g.rep ht hq hto (g.ok c hD hW ht) fun H' r k => h H' _ _ ⟨r, i, by have := g.wg; omega, .upd g.mn come_mn⟩ k
theorem m76 : methOf tb.P 60 76 = some 248 := by kernel_rfl
theorem m77 : methOf tb.P 60 77 = some 269 := by kernel_rfl
theorem m80 : methOf tb.P 60 80 = some 249 := by kernel_rfl
theorem f175 : tb.P.fn 175 = some F__law_tried := by kernel_rfl
theorem try_e {j : Nat} {H' : Hp} {K : Prop} {k : Nat → Prop} (q : H'.get j = some (.exc 55)) (h : k 55) : need (cE (H'.get j)) k := need_ii (o := cE (H'.get j)) (a := 55) (by rw [q]; rfl) h
theorem g51 : tb.P.glob 51 = some (.cls 51) := by kernel_rfl
theorem try_i {P : Prog} {K : CT} {body h r : PSs} {i k : Nat} {σ : St} {Q : Flow → St → Prop} {E : EP} (hg : P.glob i = some (.cls k))
    (q : wpSs P K body σ (fun fl σ₁ => seqK fl σ₁ (fun σ₂ => wpSs P K r σ₂ Q E) Q) fun j σ₁ => need (cE (σ₁.H.get j)) fun m => Nd (P.exc k = true) (Nd (P.sub m k = true) (wpSs P K h σ₁ (fun fl σ₂ => seqK fl σ₂ (fun σ₃ => wpSs P K r σ₃ Q E) Q) noE))) :
    wpSs P K (.cons (.try_ body i none h) r) σ Q E := need_ii (o := P.glob i) hg q
theorem ite_y {P : Prog} {K : CT} {t : PC} {a b r : PSs} {σ : St} {Q : Flow → St → Prop} {E : EP} (ht : ∀ Q' : Bool → St → Prop, Q' true σ → wpT P K E t σ Q') (h : wpSs P K a σ (fun fl σ₁ => seqK fl σ₁ (fun σ₂ => wpSs P K r σ₂ Q E) Q) E) : wpSs P K (.cons (.ite t a b) r) σ Q E := ht _ h
theorem ite_n {P : Prog} {K : CT} {t : PC} {a b r : PSs} {σ : St} {Q : Flow → St → Prop} {E : EP} (ht : ∀ Q' : Bool → St → Prop, Q' false σ → wpT P K E t σ Q') (h : wpSs P K b σ (fun fl σ₁ => seqK fl σ₁ (fun σ₂ => wpSs P K r σ₂ Q E) Q) E) : wpSs P K (.cons (.ite t a b) r) σ Q E := ht _ h
theorem expr_i {P : Prog} {K : CT} {e : PE} {r : PSs} {σ : St} {Q : Flow → St → Prop} {E : EP} (h : wpE P K E e σ fun _ σ₁ => wpSs P K r σ₁ Q E) : wpSs P K (.cons (.expr e) r) σ Q E := h
theorem tried0 {n t : Nat} {w : Str} {Q : V → Hp → Prop} {E : Nat → Hp → Prop} (c : C7 M fi f0) (g : G7 Y L M fi f0 S D W H U X) (hW : W + 89 ≤ 1000000) (ht : (t : Int) ∈ fi)
    (h1 : ∀ H' U' X', G7 Y L M fi f0 (updS S t (S t ++ [w])) (D + 1) (W + 89) H' U' X' → Keep L fi H H' → Q (.bool true) H') (h2 : ∀ H', G7 Y L M fi f0 S D W H' U X → Keep L fi H H' → Q (.bool false) H') : CW tb.P (n + 5) 175 [.ref L.fk, .int 0, .int t, .str w] H Q E := by
  have lu := len_wgts U
  have wg := g.wg
  obtain ⟨fs, ef⟩ := c.f0
  refine call_i _ _ _ f175 rfl ?_
  refine try_i g51 ?_
  refine ite_y (fun _ q => q) ?_
  refine expr_i ?_
  refine meth_i (σ := ⟨H, _⟩) (l := 106) ?_ g.rep.fk m76 ?_
  · rfl
  cases hu : (X t).up with
  | true =>
    refine say_L g.rep ht hu ef (by unfold SZ; omega) fun H' r k => ?_
    refine gv rfl ?_
    exact h1 H' _ _ ⟨r, g.inv.say c.F ht, by rw [wgts_app]; show wgts U + (89 + 0) ≤ _; omega, .upd g.mn (.same rfl rfl)⟩ k
  | false =>
    refine sayNo_L g.rep ht hu fun j H' r k q => ?_
    refine try_e (K := True) q ?_
    exact ⟨rfl, rfl, h2 H' ⟨r, g.inv, wg, g.mn⟩ k⟩
theorem tried2 {n t : Nat} {w : Str} {Q : V → Hp → Prop} {E : Nat → Hp → Prop} (g : G7 Y L M fi f0 S D W H U X) (ht : (t : Int) ∈ fi)
    (h : ∀ H' X' b, G7 Y L M fi f0 S D W H' U X' → Keep L fi H H' → Q (.bool b) H') : CW tb.P (n + 5) 175 [.ref L.fk, .int 2, .int t, .str w] H Q E := by
  refine call_i _ _ _ f175 rfl ?_
  refine try_i g51 ?_
  refine ite_n (fun _ q => q) ?_
  refine ite_n (fun _ q => q) ?_
  refine expr_i ?_
  refine meth_i (σ := ⟨H, _⟩) (l := 106) ?_ g.rep.fk m80 ?_
  · rfl
  cases hu : (X t).up with
  | true =>
    refine fall_L g.rep ht hu fun H' r k => ?_
    refine gv rfl ?_
    exact h H' _ true ⟨r, g.inv.fall, g.wg, .upd g.mn (.same rfl rfl)⟩ k
  | false =>
    refine fallNo_L g.rep ht hu fun j H' r k q => ?_
    refine try_e (K := True) q ?_
    exact ⟨rfl, rfl, h H' X false ⟨r, g.inv, g.wg, g.mn⟩ k⟩
theorem pressNo_L {n t : Nat} {Q : V → Hp → Prop} {E : Nat → Hp → Prop} (R : Rep H L M fi U X) (ht : (t : Int) ∈ fi) (hu : (X t).up = false) (h : ∀ j H', Rep H' L M fi U X → Keep L fi H H' → H'.get j = some (.exc 55) → E j H') : CW tb.P (n + 4) 269 [.ref L.fk, .int t] H Q E :=
  foc7 R ht (fun _ => rfl) fun hh hd => by
    refine call_i _ _ _ f269 rfl ?_
    exact able_no (sh_at (tM R ht)) hu (exc7 R ht hd h)
/-- the first hand presses: the letters that come under way -/
noncomputable def prsU (fi : List Int) (f0 : Nat) (U : List Letter) (X : Nat → H7) : List Letter := U ++ prsL f0 (oth f0 fi) (X f0).row 0 ++ (oth f0 fi).map fun u => ⟨f0, u, .take (X f0).took⟩
theorem tried1 {n : Nat} {w : Str} {Q : V → Hp → Prop} {E : Nat → Hp → Prop} (c : C7 M fi f0) (g : G7 Y L M fi f0 S D W H U X) (hD : D ≤ 61) (hW : W + 3700 ≤ 1000000)
    (h1 : ∀ H', (X f0).up = true → G7 Y L M fi f0 S D (W + 3700) H' (prsU fi f0 U X) X → Keep L fi H H' → Q (.bool true) H') (h2 : ∀ H', (X f0).up = false → G7 Y L M fi f0 S D W H' U X → Keep L fi H H' → Q (.bool false) H') : CW tb.P (n + 5) 175 [.ref L.fk, .int 1, .int f0, .str w] H Q E := by
  have F := c.F
  have o := c.oth F.mem
  have lu := len_wgts U
  have wg := g.wg
  have ct := g.inv.ct
  obtain ⟨fs, ef⟩ := c.f0
  have b1 : (X f0).row.length * (oth f0 fi).length ≤ 61 * 6 := Nat.mul_le_mul (by omega) (by omega)
  have b2 : (X f0).row.length * (10 * (oth f0 fi).length) ≤ 61 * 60 := Nat.mul_le_mul (by omega) (by omega)
  refine call_i _ _ _ f175 rfl ?_
  refine try_i g51 ?_
  refine ite_n (fun _ q => q) ?_
  refine ite_y (fun _ q => q) ?_
  refine expr_i ?_
  refine meth_i (σ := ⟨H, _⟩) (l := 106) ?_ g.rep.fk m77 ?_
  · rfl
  cases hu : (X f0).up with
  | true =>
    refine press_L g.rep F.mem hu ef (by omega) (by unfold SZ; omega) fun H' r k => ?_
    refine gv rfl ?_
    refine h1 H' hu ⟨r, g.inv.press F, ?_, g.mn⟩ k
    unfold prsU
    rw [wgts_app, wgts_app, prs_wgt, wgts_map _ 1 (fun _ => rfl)]
    omega
  | false =>
    refine pressNo_L g.rep F.mem hu fun j H' r k q => ?_
    refine try_e (K := True) q ?_
    exact ⟨rfl, rfl, h2 H' hu ⟨r, g.inv, wg, g.mn⟩ k⟩
/-- all letters come -/
theorem calm_G {n : Nat} {Q : V → Hp → Prop} {E : Nat → Hp → Prop} (c : C7 M fi f0) (g : G7 Y L M fi f0 S D W H U X) (hD : D ≤ 1000) (hW : W ≤ 1000000) (P : List Letter → (Nat → H7) → Prop) (p0 : P U X)
    (ps : ∀ Lt U X t, Inv fi f0 S D (Lt :: U) X → P (Lt :: U) X → Lt.to = (t : Nat) → (t : Int) ∈ fi → P (comeF t fi (X t) U Lt).2 (updX X t (comeF t fi (X t) U Lt).1))
    (h : ∀ H' X' cnt, G7 Y L M fi f0 S D W H' [] X' → P [] X' → Keep L fi H H' → Q (.int cnt) H') : CW tb.P (n + 7) 252 [.ref L.fk] H Q E := by
  have F := c.F
  have o := c.oth F.mem
  refine calm_L (fi := fi) (fun N V Z => Inv fi f0 S D V Z ∧ wgts V ≤ N ∧ N ≤ W ∧ P V Z ∧ ∀ u, Mn (Y u) (Z u)) (fun N Lt V Z hJ => ?_) (N := wgts U) ⟨g.inv, Nat.le_refl _, g.wg, p0, g.mn⟩ g.rep fun H' X' N' cnt j r k => h H' X' cnt ⟨r, j.1, Nat.zero_le _, j.2.2.2.2⟩ j.2.2.2.1 k
  obtain ⟨i, w, nw, p, mn⟩ := hJ
  obtain ⟨t, hto, ht⟩ := (i.lt Lt (.head _)).to F
  obtain ⟨i', w'⟩ := i.come (p := 0) F (by omega) rfl hto ht
  have gg : Ok7 (dropAt (Lt :: V) 0) t fi (Z t) := by
    have o2 := c.oth ht
    have lu := len_wgts (Lt :: V)
    have ct := i.ct
    have pr := (i.pre t ht).length_le
    have e : dropAt (Lt :: V) 0 = V := rfl
    rw [e]
    rw [List.length_cons] at lu
    refine ⟨by omega, by omega, by unfold SZ; omega, by unfold SZ; omega, ?_⟩
    by_cases e : t = f0
    · subst e
      have := nodup_len i.hk.1 (k := fi) fun x hx => by
        obtain ⟨y, hy, ey⟩ := List.mem_map.mp hx
        rw [← ey]; exact i.hk.2 y hy
      rw [List.length_map] at this
      unfold SZ; omega
    · rw [i.hk' t ht e]; exact Nat.le_of_ble_eq_true rfl
  exact ⟨t, hto, ht, gg, wgts (comeF t fi (Z t) V Lt).2, Nat.lt_of_lt_of_le w' w, i', Nat.le_refl _, Nat.le_trans (Nat.le_of_lt (Nat.lt_of_lt_of_le w' w)) nw, ps Lt V Z t i p hto ht, .upd mn come_mn⟩
end
end Mine

end

section
set_option autoImplicit false
set_option linter.all false
set_option genSizeOf false
set_option genInjectivity false
set_option maxRecDepth 20000
namespace Mine
open PySem (Str)
/-! Steps. -/
section
variable {P : Prog} {K : CT} {σ : St} {Q : Flow → St → Prop} {E : EP} {r : PSs}
theorem asg_i {i : Nat} {e : PE} (h : wpE P K E e σ fun v σ₁ => wpSs P K r (σ₁.put i v) Q E) : wpSs P K (.cons (.assign (.loc i) e) r) σ Q E := h
theorem call_e {fz : Bool} {g : Nat} {f : V} {as : PEs} {Q : V → St → Prop} (hg : P.glob g = some f) (h : wpEs P K E as σ fun vs σ₂ => callF P K E fz σ₂ f vs Q) : wpE P K E (.call fz (.glob g) as) σ Q := need_ii (o := P.glob g) hg h
theorem len_i {fz : Bool} {v : V} {n : Nat} {Q : V → St → Prop} (h : lenH σ.H v = some n) (q : Q (.int n) σ) : callF P K E fz σ (.bt .len) [v] Q := need_ii (o := lenH σ.H v) h q
end
theorem fmod_nat {x : Int} {n : Nat} (h : 0 < n) : ∃ p : Nat, Int.fmod x n = p ∧ p < n := by
  have h1 : (0 : Int) < n := Int.ofNat_lt.mpr h
  have a := Int.fmod_nonneg_of_pos x h1
  have b := Int.fmod_lt_of_pos x h1
  exact ⟨(Int.fmod x n).toNat, by omega, by omega⟩
theorem at3 {p q r i : Int} {k : V → Prop} (h0 : 0 ≤ i) (h1 : i < 3) (h : ∀ x : Int, k (.int x)) : atK [.int p, .int q, .int r] i k := by
  obtain rfl | rfl | rfl : i = 0 ∨ i = 1 ∨ i = 2 := by omega
  · exact h p
  · exact h q
  · exact h r
theorem g46 : tb.P.glob 46 = some (.bt .len) := by kernel_rfl
theorem g44 : tb.P.glob 44 = some (.bt .range) := by kernel_rfl
theorem m95 : methOf tb.P 60 95 = some 262 := by kernel_rfl
theorem f176 : tb.P.fn 176 = some F__law_some_come := by kernel_rfl
section
variable {L : Lay} {M : Nat} {fi : List Int} {f0 : Nat} {S : Nat → List Str} {D W : Nat} {H : Hp} {U : List Letter} {X Y : Nat → H7}
/-- the letters are counted -/
theorem count_i {n : Nat} {lo : Loc} {r : PSs} {Q : Flow → St → Prop} {E : EP} (c : C7 M fi f0) (g : G7 Y L M fi f0 S D W H U X) (hW : W ≤ 1000000) (hl : lo 106 = some (.ref L.fk)) (h : ∀ H', G7 Y L M fi f0 S D W H' U X → Keep L fi H H' → wpSs tb.P (CW tb.P (n + 1)) r ⟨H', upd lo 34 (.int U.length)⟩ Q E) :
    wpSs tb.P (CW tb.P (n + 1)) (.cons (.assign (.loc 34) (.call true (.glob 46) (.cons (.meth true (.loc 106) 95 .nil) .nil))) r) ⟨H, lo⟩ Q E := by
  have lu := len_wgts U
  have wg := g.wg
  refine asg_i ?_
  refine call_e g46 ?_
  refine meth_i (σ := ⟨H, lo⟩) hl g.rep.fk m95 ?_
  refine letters_L (t := f0) (σ := ⟨H, lo⟩) g.rep c.F.mem (by unfold SZ; omega) fun H' rr k => ?_
  have h := h H' ⟨rr, g.inv, g.wg, g.mn⟩ k
  rw [← List.length_map (f := l3V)] at h
  exact h
/-- some letters come -/
theorem sc_loop {n : Nat} {m : Int} {v : V} {xs : List V} {H₀ : Hp} (hs : ∀ H, still v xs H) (c : C7 M fi f0) (hD : D ≤ 1000) (hW : W ≤ 1000000) (Q : Flow → St → Prop) (h : ∀ H' U' X' lo', G7 Y L M fi f0 S D W H' U' X' → Keep L fi H₀ H' → Q .next ⟨H', lo'⟩) :
    ∀ (N : Nat) (a : Int) (H : Hp) (U : List Letter) (X : Nat → H7) (lo : Loc), 0 ≤ a → a + N ≤ 9 → G7 Y L M fi f0 S D W H U X → Keep L fi H₀ H → lo 106 = some (.ref L.fk) → lo 139 = some (.int m) →
    loopGo (fun v σ₂ k => bindT [25] v σ₂ fun σ₃ => wpSs tb.P (CW tb.P (n + 6)) L__law_some_come_1 σ₃ k noE) (still v xs) (rngL a 1 N) ⟨H, lo⟩ Q
  | 0, a, H, U, X, lo, h0, h1, g, k, l1, l2 => ⟨hs H, h H U X lo g k⟩
  | N + 1, a, H, U, X, lo, h0, h1, g, k, l1, l2 => by
    refine ⟨hs H, ?_⟩
    show wpSs tb.P (CW tb.P (n + 6)) L__law_some_come_1 ⟨H, upd lo 25 (.int a)⟩ _ noE
    refine count_i (n := n + 5) c g hW l1 fun H₁ g₁ k₁ => ?_
    refine Br_b (b := decide ((0 : Int) < U.length)) (fun p => ?_) fun p => ?_
    · have p := of_decide_eq_true p
      have i0 := Int.fmod_nonneg_of_pos (Int.fdiv m 3) (show (0 : Int) < 3 by decide)
      have i1 := Int.fmod_lt_of_pos (Int.fdiv m 3) (show (0 : Int) < 3 by decide)
      refine meth_i (σ := ⟨H₁, _⟩) (l := 106) ?_ g₁.rep.fk m84 ?_
      · exact l1
      refine need_ii (o := lo 139) l2 ?_
      refine ⟨⟨by decide, by decide⟩, ?_⟩
      refine need_ii (o := lo 139) l2 ?_
      refine ⟨⟨by decide, by decide⟩, ?_⟩
      refine ⟨.inr (show (a + 1).natAbs < _ by omega), ?_⟩
      refine ⟨ble_le rfl, ?_⟩
      refine need_ii (o := lo 139) l2 ?_
      refine ⟨⟨by decide, by decide⟩, ?_⟩
      refine ⟨by decide, ?_⟩
      refine at3 i0 i1 fun x => ?_
      obtain ⟨q, e, hq⟩ := fmod_nat (x := x) (n := U.length) (by omega)
      refine ⟨show ((U.length : Nat) : Int) ≠ 0 by omega, ?_⟩
      rw [e]
      refine come_G c g₁ hD hW hq fun H₂ U₂ X₂ g₂ k₂ => ?_
      refine gv rfl ?_
      exact sc_loop hs c hD hW Q h N (a + 1) H₂ U₂ X₂ _ (by omega) (by omega) g₂ (k.trans (k₁.trans k₂)) l1 l2
    · exact sc_loop hs c hD hW Q h N (a + 1) H₁ U X _ (by omega) (by omega) g₁ (k.trans k₁) l1 l2
theorem some_G {n : Nat} {m : Int} {Q : V → Hp → Prop} {E : Nat → Hp → Prop} (c : C7 M fi f0) (g : G7 Y L M fi f0 S D W H U X) (hD : D ≤ 1000) (hW : W ≤ 1000000) (h : ∀ H' U' X', G7 Y L M fi f0 S D W H' U' X' → Keep L fi H H' → Q .none H') : CW tb.P (n + 7) 176 [.ref L.fk, .int m] H Q E := by
  have i0 := Int.fmod_nonneg_of_pos m (show (0 : Int) < 8 by decide)
  have i1 := Int.fmod_lt_of_pos m (show (0 : Int) < 8 by decide)
  refine call_i _ _ _ f176 rfl ?_
  refine ⟨by decide, ?_⟩
  refine ⟨show (1 + Int.fmod m 8).natAbs ≤ SZ by unfold SZ; omega, ?_⟩
  exact sc_loop (v := .rng 0 (1 + Int.fmod m 8) 1) (xs := rngL 0 1 (rngN 0 (1 + Int.fmod m 8) 1)) (fun _ => rfl) c hD hW _ (fun H' U' X' lo' g' k' => h H' U' X' g' k') _ 0 H U X _ (Int.le_refl 0) (by unfold rngN; rw [if_pos rfl]; omega) g (fun j c q _ _ _ _ => q) rfl rfl
end
end Mine

end

section
set_option autoImplicit false
set_option linter.all false
set_option genSizeOf false
set_option genInjectivity false
set_option maxRecDepth 20000
namespace Mine
open PySem (Str)
/-! Words. -/
theorem f135 : tb.P.fn 135 = some F__law_word := by kernel_rfl
theorem sx_len : s_x.length = s_x.cps.size := rfl
theorem word_loop {K : CT} {c : Int} {v : V} {xs : List V} {H : Hp} (hs : ∀ H, still v xs H) (Q : Flow → St → Prop) (h : ∀ w lo', lo' 138 = some (.str w) → Q .next ⟨H, lo'⟩) :
    ∀ (N : Nat) (a : Int) (w : Str) (lo : Loc), 0 ≤ a → a + N ≤ 9 → w.length ≤ a.toNat → lo 137 = some (.int c) → lo 132 = some (.str s_x) → lo 138 = some (.str w) →
    loopGo (fun v σ₂ k => bindT [25] v σ₂ fun σ₃ => wpSs tb.P K L__law_word_1 σ₃ k noE) (still v xs) (rngL a 1 N) ⟨H, lo⟩ Q
  | 0, a, w, lo, h0, h1, hw, l1, l2, l3 => ⟨hs H, h w lo l3⟩
  | N + 1, a, w, lo, h0, h1, hw, l1, l2, l3 => by
    have pos : (0 : Int) < s_x.length := by decide
    have i0 := Int.fmod_nonneg_of_pos (Int.fdiv c 4 + 31 * a * a) pos
    have i1 := Int.fmod_lt_of_pos (Int.fdiv c 4 + 31 * a * a) pos
    refine ⟨hs H, ?_⟩
    show wpSs tb.P K L__law_word_1 ⟨H, upd lo 25 (.int a)⟩ _ noE
    refine asg_i ?_
    refine need_ii (o := lo 138) l3 ?_
    refine need_ii (o := lo 132) l2 ?_
    refine need_ii (o := lo 137) l1 ?_
    refine ⟨⟨by decide, by decide⟩, ?_⟩
    refine ⟨.inr (show a.natAbs < _ by omega), ?_⟩
    refine ⟨.inr (show a.natAbs < _ by omega), ?_⟩
    refine need_ii (o := lo 132) l2 ?_
    refine ⟨by decide, ?_⟩
    refine ⟨i0, ?_⟩
    have lt : (Int.fmod (Int.fdiv c 4 + 31 * a * a) s_x.length).toNat < s_x.cps.size := by rw [sx_len] at i0 i1 ⊢; omega
    refine need_ii (o := s_x.cps[(Int.fmod (Int.fdiv c 4 + 31 * a * a) s_x.length).toNat]?) (Array.getElem?_eq_getElem lt) ?_
    refine ⟨show w.length + 1 ≤ SZ by unfold SZ; omega, ?_⟩
    refine word_loop hs Q h N (a + 1) _ _ (by omega) (by omega) ?_ l1 l2 rfl
    show (w.cps ++ #[_]).size ≤ _
    rw [Array.size_append]
    show w.length + 1 ≤ _
    omega
theorem word_w {n : Nat} {c : Int} {H : Hp} {Q : V → Hp → Prop} {E : Nat → Hp → Prop} (h : ∀ w, Q (.str w) H) : CW tb.P (n + 1) 135 [.int c] H Q E := by
  have i0 := Int.fmod_nonneg_of_pos c (show (0 : Int) < 4 by decide)
  have i1 := Int.fmod_lt_of_pos c (show (0 : Int) < 4 by decide)
  refine call_i _ _ _ f135 rfl ?_
  refine ⟨by decide, ?_⟩
  refine ⟨show (Int.fmod c 4).natAbs ≤ SZ by unfold SZ; omega, ?_⟩
  refine word_loop (v := .rng 0 (Int.fmod c 4) 1) (xs := rngL 0 1 (rngN 0 (Int.fmod c 4) 1)) (fun _ => rfl) _ (fun w lo' l => ?_) _ 0 s_empty _ (Int.le_refl 0) (by unfold rngN; rw [if_pos rfl]; omega) (Nat.le_of_eq rfl) rfl rfl rfl
  refine need_ii (o := lo' 138) l ?_
  exact h w
end Mine

end

section
set_option autoImplicit false
set_option linter.all false
set_option genSizeOf false
set_option genInjectivity false
set_option maxRecDepth 20000
namespace Mine
open PySem (Str)
/-! What was said. -/
noncomputable def Oul (L : Lay) (fi : List Int) (j : Nat) : Prop := j ≠ L.fk ∧ j ≠ L.un ∧ j ∉ L.hs ∧ ∀ t : Nat, (t : Int) ∈ fi → j ≠ L.rn t ∧ j ≠ L.on t
theorem keep_at {L : Lay} {fi : List Int} {H H' : Hp} {j : Nat} {c : C} (k : Keep L fi H H') (o : Oul L fi j) (g : H.get j = some c) : H'.get j = some c := k j c g o.1 o.2.1 o.2.2.1 o.2.2.2
noncomputable def sdV (sl : Nat → Nat) (fi : List Int) : List (V × V) := fi.map fun i => (V.int i, V.ref (sl i.toNat))
theorem sd_get {sl : Nat → Nat} {t : Nat} : ∀ {fi : List Int}, (t : Int) ∈ fi → dGet (sdV sl fi) (.int t) = some (.ref (sl t))
  | [], h => nomatch h
  | i :: r, h => by
    show cond (decide (i = (t : Int))) (some (V.ref (sl i.toNat))) (dGet (sdV sl r) (.int t)) = _
    by_cases c : i = (t : Int)
    · rw [decide_eq_true c, c]; rfl
    · rw [decide_eq_false c]; exact sd_get ((List.mem_cons.mp h).resolve_left fun z => c z.symm)
theorem sd_key {sl : Nat → Nat} {t : Int} (fi : List Int) : keyOk (dKeys (sdV sl fi)) (.int t) = true := by
  show (dKeys (sdV sl fi)).all isI = true
  induction fi with
  | nil => rfl
  | cons i r ih => exact ih
/-- the cells -/
structure SOl (L : Lay) (fi : List Int) (sd : Nat) (sl : Nat → Nat) : Prop where
  d : Oul L fi sd
  l : ∀ t : Nat, (t : Int) ∈ fi → Oul L fi (sl t)
  ne : ∀ t : Nat, (t : Int) ∈ fi → sl t ≠ sd
  inj : ∀ t u : Nat, (t : Int) ∈ fi → (u : Int) ∈ fi → t ≠ u → sl t ≠ sl u
structure SD (H : Hp) (fi : List Int) (sd : Nat) (sl : Nat → Nat) (S : Nat → List Str) (D : Nat) : Prop where
  d : H.get sd = some (.dict (sdV sl fi))
  l : ∀ t : Nat, (t : Int) ∈ fi → H.get (sl t) = some (.list ((S t).map .str))
  n : ∀ t : Nat, (t : Int) ∈ fi → (S t).length ≤ D
section
variable {L : Lay} {M : Nat} {fi : List Int} {f0 : Nat} {S : Nat → List Str} {D W : Nat} {H : Hp} {U : List Letter} {X Y : Nat → H7} {sd : Nat} {sl : Nat → Nat}
theorem SD.keep {H' : Hp} (so : SOl L fi sd sl) (s : SD H fi sd sl S D) (k : Keep L fi H H') : SD H' fi sd sl S D := ⟨keep_at k so.d s.d, fun t ht => keep_at k (so.l t ht) (s.l t ht), s.n⟩
theorem SD.more {D' : Nat} (s : SD H fi sd sl S D) (h : D ≤ D') : SD H fi sd sl S D' := ⟨s.d, s.l, fun t ht => Nat.le_trans (s.n t ht) h⟩
theorem G7.more {D' W' : Nat} (g : G7 Y L M fi f0 S D W H U X) (h : D ≤ D') (h' : W ≤ W') : G7 Y L M fi f0 S D' W' H U X := ⟨g.rep, g.inv.deed h, Nat.le_trans g.wg h', g.mn⟩
theorem Rep.set {j : Nat} {c c' : C} (R : Rep H L M fi U X) (g : H.get j = some c) (o : Oul L fi j) : Rep (H.set j c') L M fi U X := by
  have k : ∀ {i : Nat} {d : C}, H.get i = some d → j ≠ i → (H.set j c').get i = some d := fun q n => by rw [Hp.get_set g, if_neg n.symm]; exact q
  have k' : ∀ {i : Nat}, (∃ d, H.get i = some d) → ∃ d, (H.set j c').get i = some d := fun {i} ⟨d, q⟩ => by
    rw [Hp.get_set g]
    by_cases z : i = j
    · exact ⟨c', if_pos z⟩
    · exact ⟨d, by rw [if_neg z]; exact q⟩
  exact ⟨k R.fk o.1, k R.un o.2.1, R.hl, R.hM, fun t ht => (R.hd t ht).elim fun h d => ⟨h, d.at_, k d.hd (fun z => o.2.2.1 (z ▸ d.mem)), k d.row (o.2.2.2 t ht).1, k d.hol (o.2.2.2 t ht).2, k' d.gon⟩, fun i hi => k' (R.oth i hi), R.apt⟩
/-- a word is kept -/
theorem said_app {K : CT} {E : EP} {lo : Loc} {t : Nat} {w : Str} {Q : V → St → Prop} (s : SD H fi sd sl S D) (ht : (t : Int) ∈ fi) (l1 : lo 136 = some (.ref sd)) (l2 : lo 29 = some (.int t)) (l3 : lo 138 = some (.str w)) (hD : D ≤ 1000) (h : Q .none ⟨H.set (sl t) (.list ((S t).map .str ++ [.str w])), lo⟩) :
    wpE tb.P K E (.meth true (.idx (.loc 136) (.loc 29)) 0 (.cons (.loc 138) .nil)) ⟨H, lo⟩ Q := by
  have sn := s.n t ht
  refine need_ii (o := lo 136) l1 ?_
  refine need_ii (o := lo 29) l2 ?_
  show (match H.get sd with
    | some (.list xs) => idxK (.lst xs) (.int t) _
    | some (.dict kvs) => Nd (keyOk (dKeys kvs) (.int t) = true) (need (dGet kvs (.int t)) _)
    | _ => False)
  rw [s.d]
  refine ⟨sd_key fi, ?_⟩
  refine need_ii (o := dGet (sdV sl fi) (.int t)) (sd_get ht) ?_
  show (match H.get (sl t) with
    | some (.inst k _) => _
    | some (.list _) => Nd ((Nat.beq 0 tb.P.nAppend || (Nat.beq 0 tb.P.nPop || Nat.beq 0 tb.P.nExtend)) = true) (wpEs tb.P K E (.cons (.loc 138) .nil) ⟨H, lo⟩ fun vs σ₂ => need (cL (σ₂.H.get (sl t))) fun xs => methL tb.P σ₂ (sl t) 0 vs xs Q)
    | some (.dict _) => _
    | _ => False)
  rw [s.l t ht]
  refine ⟨rfl, ?_⟩
  refine need_ii (o := lo 138) l3 ?_
  refine need_ii (o := cL (H.get (sl t))) (a := (S t).map .str) (by rw [s.l t ht]; rfl) ?_
  exact ⟨by rw [List.length_map]; unfold SZ; omega, h⟩
theorem SD.app {t : Nat} {w : Str} (so : SOl L fi sd sl) (s : SD H fi sd sl S D) (ht : (t : Int) ∈ fi) : SD (H.set (sl t) (.list ((S t).map .str ++ [.str w]))) fi sd sl (updS S t (S t ++ [w])) (D + 1) := by
  refine ⟨?_, fun u hu => ?_, fun u hu => ?_⟩
  · rw [Hp.get_set (s.l t ht), if_neg (so.ne t ht).symm]; exact s.d
  · rw [Hp.get_set (s.l t ht)]
    unfold updS
    by_cases c : u = t
    · subst c; rw [if_pos rfl, if_pos rfl, List.map_append]; rfl
    · rw [if_neg (so.inj u t hu ht c), if_neg c]; exact s.l u hu
  · have := s.n u hu
    unfold updS
    by_cases c : u = t
    · subst c; rw [if_pos rfl, List.length_append]; show _ + 1 ≤ _; omega
    · rw [if_neg c]; omega
end
end Mine

end

section
set_option autoImplicit false
set_option linter.all false
set_option genSizeOf false
set_option genInjectivity false
set_option maxRecDepth 20000
namespace Mine
open PySem (Str)
/-! A deed. -/
theorem f177 : tb.P.fn 177 = some F__law_deed := by kernel_rfl
theorem m82 : methOf tb.P 60 82 = some 272 := by kernel_rfl
theorem m83 : methOf tb.P 60 83 = some 273 := by kernel_rfl
theorem m85 : methOf tb.P 60 85 = some 252 := by kernel_rfl
section
variable {L : Lay} {M : Nat} {fi : List Int} {f0 : Nat} {S : Nat → List Str} {D W : Nat} {H : Hp} {U : List Letter} {X Y : Nat → H7} {sd : Nat} {sl : Nat → Nat}
theorem C7.len0 (c : C7 M fi f0) : 0 < fi.length := by obtain ⟨fs, e⟩ := c.f0; rw [e]; exact Nat.succ_pos _
theorem C7.lenI (c : C7 M fi f0) : ((iV fi).length : Int) ≠ 0 := by have := c.len0; rw [iV_len]; omega
theorem C7.at (c : C7 M fi f0) {x : Int} {k : V → Prop} (h : ∀ t : Nat, (t : Int) ∈ fi → k (.int t)) : atK (iV fi) (Int.fmod x (iV fi).length) k := by
  obtain ⟨p, e, hp⟩ := fmod_nat (x := x) (n := (iV fi).length) (by rw [iV_len]; exact c.len0)
  rw [e]
  refine need_ii (o := pyIdx (p : Int) (iV fi).length) (pyIdx_nat hp) ?_
  have hp' : p < fi.length := by rw [iV_len] at hp; exact hp
  have m : fi[p] ∈ fi := List.getElem_mem hp'
  obtain ⟨t, et⟩ := c.F.nat _ m
  have q : (iV fi)[p]? = some (.int t) := by unfold iV; rw [List.getElem?_map, List.getElem?_eq_getElem hp', et]; rfl
  exact need_ii (o := (iV fi)[p]?) q (h t (et ▸ m))
theorem C7.at0 (c : C7 M fi f0) {k : V → Prop} (h : k (.int f0)) : atK (iV fi) 0 k := by
  obtain ⟨fs, e⟩ := c.f0
  refine need_ii (o := pyIdx ((0 : Nat) : Int) (iV fi).length) (pyIdx_nat (by rw [iV_len]; exact c.len0)) ?_
  exact need_ii (o := (iV fi)[0]?) (by rw [e]; rfl) h
theorem wgt_le (Lt : Letter) : wgt Lt ≤ 89 := by
  obtain ⟨a, b, k⟩ := Lt
  cases k <;> exact Nat.le_of_ble_eq_true rfl
theorem deed_G {n : Nat} {cell : Int} {Q : V → Hp → Prop} {E : Nat → Hp → Prop} (c : C7 M fi f0) (so : SOl L fi sd sl) (g : G7 Y L M fi f0 S D W H U X) (s : SD H fi sd sl S D) (hD : D ≤ 61) (hW : W + 3700 ≤ 1000000)
    (h : ∀ H' S' U' X', G7 Y L M fi f0 S' (D + 1) (W + 3700) H' U' X' → SD H' fi sd sl S' (D + 1) → Q .none H') : CW tb.P (n + 8) 177 [.ref L.fk, .int cell, .lst (iV fi), .ref sd] H Q E := by
  have w0 := Int.fmod_nonneg_of_pos cell (show (0 : Int) < 16 by decide)
  have w1 := Int.fmod_lt_of_pos cell (show (0 : Int) < 16 by decide)
  have lu := len_wgts U
  have wg := g.wg
  obtain ⟨fs, ef⟩ := c.f0
  refine call_i _ _ _ f177 rfl ?_
  refine asg_i ?_
  refine ⟨by decide, ?_⟩
  generalize Int.fmod cell 16 = way at w0 w1
  refine asg_i ?_
  refine ⟨⟨by decide, by decide⟩, ?_⟩
  generalize Int.fdiv cell 16 = more
  refine asg_i ?_
  refine ⟨c.lenI, ?_⟩
  refine c.at fun t ht => ?_
  refine count_i (n := n + 6) c g (by omega) ?_ fun H₁ g₁ k₁ => ?_
  · rfl
  have s₁ := s.keep so k₁
  refine Br_b (b := decide (way < 8)) (fun p => ?_) fun p => ?_
  · refine some_G (n := n) c g₁ (by omega) (by omega) fun H₂ U₂ X₂ g₂ k₂ => ?_
    refine gv rfl ?_
    exact h H₂ S U₂ X₂ (g₂.more (by omega) (by omega)) ((s₁.keep so k₂).more (by omega))
  have p := of_decide_eq_false p
  refine Br_b (b := decide (way < 11)) (fun p => ?_) fun p => ?_
  · refine ⟨⟨by decide, by decide⟩, ?_⟩
    refine word_w (n := n + 6) fun w => ?_
    refine gv rfl ?_
    refine tried0 (n := n + 2) c g₁ (by omega) ht (fun H₂ U₂ X₂ g₂ k₂ => ?_) fun H₂ g₂ k₂ => ?_
    · refine gv rfl ?_
      have s₂ := s₁.keep so k₂
      refine expr_i ?_
      refine said_app (t := t) (w := w) s₂ ht ?_ ?_ ?_ (by omega) ?_
      · rfl
      · rfl
      · rfl
      have g₃ := g₂.more (D' := D + 1) (W' := W + 3700) (by omega) (by omega)
      exact h _ _ U₂ X₂ ⟨g₃.rep.set (s₂.l t ht) (so.l t ht), g₃.inv, g₃.wg, g₃.mn⟩ (s₂.app so ht)
    · refine gv rfl ?_
      exact h H₂ S U X (g₂.more (by omega) (by omega)) ((s₁.keep so k₂).more (by omega))
  have p := of_decide_eq_false p
  obtain e | e | e | e | e : way = 11 ∨ way = 12 ∨ way = 13 ∨ way = 14 ∨ way = 15 := by omega
  all_goals subst e
  · refine Br_b (b := decide ((0 : Int) < U.length)) (fun p => ?_) fun p => ?_
    · have p := of_decide_eq_true p
      refine expr_i ?_
      refine meth_i (σ := ⟨H₁, _⟩) (l := 106) ?_ g₁.rep.fk m82 ?_
      · rfl
      refine ⟨show (U.length : Int) ≠ 0 by omega, ?_⟩
      obtain ⟨q, e, hq⟩ := fmod_nat (x := more) (n := U.length) (by omega)
      rw [e]
      refine lose_L (n := n + 4) (t := f0) g₁.rep c.F.mem (List.getElem?_eq_getElem hq) fun H₂ r₂ k₂ => ?_
      refine gv rfl ?_
      obtain ⟨d1, d2, d3, d4⟩ := drop_sum (List.getElem?_eq_getElem hq)
      refine h H₂ S (dropAt U q) X ⟨r₂, (g₁.inv.sub d3 (by omega)).deed (by omega), by omega, g₁.mn⟩ ((s₁.keep so k₂).more (by omega))
    · exact h H₁ S U X (g₁.more (by omega) (by omega)) (s₁.more (by omega))
  · refine Br_b (b := decide ((0 : Int) < U.length)) (fun p => ?_) fun p => ?_
    · have p := of_decide_eq_true p
      refine expr_i ?_
      refine meth_i (σ := ⟨H₁, _⟩) (l := 106) ?_ g₁.rep.fk m83 ?_
      · rfl
      refine ⟨show (U.length : Int) ≠ 0 by omega, ?_⟩
      obtain ⟨q, e, hq⟩ := fmod_nat (x := more) (n := U.length) (by omega)
      rw [e]
      refine double_L (n := n + 4) (t := f0) g₁.rep c.F.mem (List.getElem?_eq_getElem hq) (by unfold SZ; omega) fun H₂ r₂ k₂ => ?_
      refine gv rfl ?_
      refine h H₂ S _ X ⟨r₂, g₁.inv.double (List.getElem_mem hq), ?_, g₁.mn⟩ ((s₁.keep so k₂).more (by omega))
      have := wgt_le U[q]
      rw [wgts_app]
      show wgts U + (wgt _ + 0) ≤ _
      omega
    · exact h H₁ S U X (g₁.more (by omega) (by omega)) (s₁.more (by omega))
  · refine c.at0 ?_
    refine tried1 (n := n + 2) c g₁ hD (by omega) (fun H₂ _ g₂ k₂ => ?_) fun H₂ _ g₂ k₂ => ?_
    · refine gv rfl ?_
      exact h H₂ S _ X (g₂.more (by omega) (by omega)) ((s₁.keep so k₂).more (by omega))
    · refine gv rfl ?_
      exact h H₂ S U X (g₂.more (by omega) (by omega)) ((s₁.keep so k₂).more (by omega))
  · refine ⟨by decide, ?_⟩
    refine Br_b (b := decide (Int.fmod more 3 = 0)) (fun p => ?_) fun p => ?_
    · refine ⟨⟨by decide, by decide⟩, ?_⟩
      refine ⟨c.lenI, ?_⟩
      refine c.at fun u hu => ?_
      refine tried2 (n := n + 2) g₁ hu fun H₂ X₂ b g₂ k₂ => ?_
      refine gv rfl ?_
      exact h H₂ S U X₂ (g₂.more (by omega) (by omega)) ((s₁.keep so k₂).more (by omega))
    · exact h H₁ S U X (g₁.more (by omega) (by omega)) (s₁.more (by omega))
  · refine expr_i ?_
    refine meth_i (σ := ⟨H₁, _⟩) (l := 106) ?_ g₁.rep.fk m85 ?_
    · rfl
    refine calm_G (n := n) c g₁ (by omega) (by omega) (fun _ _ => True) trivial (fun _ _ _ _ _ _ _ _ => trivial) fun H₂ X₂ cnt g₂ _ k₂ => ?_
    refine gv rfl ?_
    exact h H₂ S [] X₂ (g₂.more (by omega) (by omega)) ((s₁.keep so k₂).more (by omega))
end
end Mine

end

section
set_option autoImplicit false
set_option linter.all false
set_option genSizeOf false
set_option genInjectivity false
set_option maxRecDepth 20000
namespace Mine
open PySem (Str)
/-! Rows, compared. -/
noncomputable def tk (x : H7) : List Msg := x.row.take x.took.toNat
noncomputable def tkV (X : Nat → H7) (i : Int) : V := .lst (mV (tk (X i.toNat)))
theorem eq_mV : ∀ l : List Msg, eqDs (mV l) (mV l) = true
  | [] => rfl
  | m :: r => by
    show (eqD m.v m.v && eqDs (mV r) (mV r)) = true
    rw [(meq_ok m m).mpr rfl, eq_mV r]; rfl
theorem eq_iV : ∀ l : List Int, eqDs (iV l) (iV l) = true
  | [] => rfl
  | m :: r => by
    show (decide (m = m) && eqDs (iV r) (iV r)) = true
    rw [decide_eq_true rfl, eq_iV r]; rfl
theorem iV_deep {H : Hp} {n : Nat} : ∀ l : List Int, deepL (deepN H (n + 1)) (iV l) = some (iV l)
  | [] => rfl
  | m :: r => by
    show (match deepL (deepN H (n + 1)) (iV r) with | some ys => some (V.int m :: ys) | none => none) = _
    rw [iV_deep r]; rfl
theorem ne_mV {H : Hp} {xs ys : List V} {l : List Msg} {k : Bool → Prop} (hx : xs = mV l) (hy : ys = mV l) (h : k false) : cmpK H .ne (.lst xs) (.lst ys) k := by
  subst hx hy
  have e : deep H (.lst (mV l)) = some (.lst (mV l)) := by show mL (deepL (deepN H 11) (mV l)) = _; rw [mV_deep]; rfl
  refine need_ii (o := deep H (.lst (mV l))) e ?_
  refine need_ii (o := deep H (.lst (mV l))) e ?_
  show k (!eqDs (mV l) (mV l))
  rw [eq_mV]; exact h
theorem ne_fi {H : Hp} {l : List Int} {k : Bool → Prop} (h : k false) : cmpK H .ne (.tup [.int 0, .lst (iV l)]) (.tup [.int 0, .lst (iV l)]) k := by
  have e : deep H (.tup [.int 0, .lst (iV l)]) = some (.tup [.int 0, .lst (iV l)]) := by
    show mT (match (match mL (deepL (deepN H 10) (iV l)) with | some y => some [y] | none => none) with | some ys => some (V.int 0 :: ys) | none => none) = _
    rw [iV_deep]; rfl
  refine need_ii (o := deep H _) e ?_
  refine need_ii (o := deep H _) e ?_
  show k (!(true && (eqDs (iV l) (iV l) && true)))
  rw [eq_iV]; exact h
theorem in_mV {H : Hp} {xs : List V} {l : List Msg} {m : Msg} {k : Bool → Prop} (hx : xs = mV l) (hm : m ∉ l) (h : k false) : cmpK H .isIn m.v (.lst xs) k := by
  subst hx
  refine need_ii (o := deepL (deepN H 11) (mV l)) (mV_deep l) ?_
  show k (hasM l m)
  cases e : hasM l m with
  | false => exact h
  | true => exact absurd (hasM_ok.mp e) hm
theorem any_iV {t : Int} : ∀ {l : List Int}, t ∈ l → ((iV l).any fun z => eqD z (.int t)) = true
  | [], h => nomatch h
  | a :: r, h => by
    show (decide (a = t) || ((iV r).any fun z => eqD z (.int t))) = true
    by_cases c : a = t
    · rw [decide_eq_true c]; rfl
    · rw [decide_eq_false c, any_iV ((List.mem_cons.mp h).resolve_left fun z => c z.symm)]; rfl
theorem no_iV {t : Int} : ∀ {l : List Int}, t ∉ l → ((iV l).any fun z => eqD z (.int t)) = false
  | [], _ => rfl
  | a :: r, h => by
    show (decide (a = t) || ((iV r).any fun z => eqD z (.int t))) = false
    rw [decide_eq_false (show ¬ a = t from fun z => h (z ▸ .head _)), no_iV fun z => h (.tail _ z)]; rfl
theorem notin_iV {H : Hp} {l : List Int} {t : Int} {k : Bool → Prop} (ht : t ∈ l) (h : k false) : cmpK H .notIn (.int t) (.lst (iV l)) k := by
  refine need_ii (o := deepL (deepN H 11) (iV l)) (iV_deep l) ?_
  show k (!((iV l).any fun z => eqD z (.int t)))
  rw [any_iV ht]; exact h
theorem at_map {α : Type} {l : List α} {f : α → V} {p : Nat} {a : α} {k : V → Prop} (hp : l[p]? = some a) (h : k (f a)) : atK (l.map f) (p : Int) k := by
  have lt := (List.getElem?_eq_some_iff.mp hp).1
  refine need_ii (o := pyIdx (p : Int) (l.map f).length) (pyIdx_nat (by rw [List.length_map]; exact lt)) ?_
  exact need_ii (o := (l.map f)[p]?) (by rw [List.getElem?_map, hp]; rfl) h
theorem mV_take {l : List Msg} {n : Nat} : (mV l).take n = mV (l.take n) := (List.map_take ..).symm
section
variable {L : Lay} {M : Nat} {fi : List Int} {f0 : Nat} {S : Nat → List Str} {D W : Nat} {H : Hp} {U : List Letter} {X Y : Nat → H7} {sd : Nat} {sl : Nat → Nat}
theorem G7.tkp {t : Nat} (g : G7 Y L M fi f0 S D W H U X) (ht : (t : Int) ∈ fi) : tk (X t) <+: (X f0).row := (List.take_prefix ..).trans (g.inv.pre t ht)
theorem G7.tklen {t : Nat} (g : G7 Y L M fi f0 S D W H U X) (ht : (t : Int) ∈ fi) : (tk (X t)).length ≤ D := by
  have a := (g.tkp ht).length_le
  have b := g.inv.ct
  omega
theorem tk_mn {x y : H7} (m : Mn x y) : (tk y).take (tk x).length = tk x := by
  have : tk x <+: tk y := by
    obtain ⟨⟨z, e⟩, t⟩ := m
    unfold tk
    rw [← e]
    refine List.prefix_of_prefix_length_le (l₃ := x.row ++ z) ((List.take_prefix ..).trans (List.prefix_append ..)) (List.take_prefix ..) ?_
    rw [List.length_take, List.length_take, List.length_append]
    have : x.took.toNat ≤ y.took.toNat := Int.toNat_le_toNat t
    omega
  exact (List.prefix_iff_eq_take.mp this).symm
theorem sd_at {t : Nat} {k : V → Prop} (s : SD H fi sd sl S D) (ht : (t : Int) ∈ fi) (h : k (.ref (sl t))) : idxH H (.ref sd) (.int t) k := by
  show (match H.get sd with
    | some (.list xs) => idxK (.lst xs) (.int t) k
    | some (.dict kvs) => Nd (keyOk (dKeys kvs) (.int t) = true) (need (dGet kvs (.int t)) k)
    | _ => False)
  rw [s.d]
  exact ⟨sd_key fi, need_ii (o := dGet (sdV sl fi) (.int t)) (sd_get ht) h⟩
theorem sl_at {t p : Nat} {w : Str} {k : V → Prop} (s : SD H fi sd sl S D) (ht : (t : Int) ∈ fi) (hp : (S t)[p]? = some w) (h : k (.str w)) : idxH H (.ref (sl t)) (.int p) k := by
  show (match H.get (sl t) with
    | some (.list xs) => idxK (.lst xs) (.int p) k
    | some (.dict kvs) => Nd (keyOk (dKeys kvs) (.int p) = true) (need (dGet kvs (.int p)) k)
    | _ => False)
  rw [s.l t ht]
  exact at_map hp h
theorem sl_len {t : Nat} (s : SD H fi sd sl S D) (ht : (t : Int) ∈ fi) : lenH H (.ref (sl t)) = some (S t).length := by
  show (match H.get (sl t) with
    | some (.list xs) => some xs.length
    | some (.dict kvs) => some kvs.length
    | _ => none) = _
  rw [s.l t ht]
  show some ((S t).map V.str).length = _
  rw [List.length_map]
end
end Mine

end

section
set_option autoImplicit false
set_option linter.all false
set_option genSizeOf false
set_option genInjectivity false
set_option maxRecDepth 20000
namespace Mine
open PySem (Str)
/-! What was taken, in a list. -/
theorem m98 : methOf tb.P 60 98 = some 265 := by kernel_rfl
theorem m99 : methOf tb.P 60 99 = some 266 := by kernel_rfl
theorem m97 : methOf tb.P 60 97 = some 264 := by kernel_rfl
theorem m96 : methOf tb.P 60 96 = some 263 := by kernel_rfl
theorem g41 : tb.P.glob 41 = some (.bt .list) := by kernel_rfl
abbrev eTak : PE := .meth true (.loc 106) 98 (.cons (.loc 29) .nil)
abbrev eTal : PE := .call true (.glob 41) (.cons eTak .nil)
section
variable {L : Lay} {M : Nat} {fi : List Int} {f0 : Nat} {S : Nat → List Str} {D W : Nat} {H : Hp} {U : List Letter} {X Y : Nat → H7} {sd : Nat} {sl : Nat → Nat}
theorem tak_e {n t : Nat} {lo : Loc} {E : EP} {Q : V → St → Prop} (ht : (t : Int) ∈ fi) (hD : D ≤ 1000) (l1 : lo 106 = some (.ref L.fk)) (l2 : lo 29 = some (.int t)) (g : G7 Y L M fi f0 S D W H U X) (h : ∀ H', G7 Y L M fi f0 S D W H' U X → Keep L fi H H' → Q (tkV X t) ⟨H', lo⟩) :
    wpE tb.P (CW tb.P (n + 4)) E eTak ⟨H, lo⟩ Q := by
  refine meth_i (σ := ⟨H, lo⟩) l1 g.rep.fk m98 ?_
  refine need_ii (o := lo 29) l2 ?_
  have pr := (g.inv.pre t ht).length_le
  have ct := g.inv.ct
  exact taken_L (σ := ⟨H, lo⟩) g.rep ht (g.inv.tk0 t ht) (by unfold SZ; omega) fun H' r k => h H' ⟨r, g.inv, g.wg, g.mn⟩ k
theorem tal_e {n t : Nat} {lo : Loc} {E : EP} {Q : V → St → Prop} (ht : (t : Int) ∈ fi) (hD : D ≤ 1000) (l1 : lo 106 = some (.ref L.fk)) (l2 : lo 29 = some (.int t)) (g : G7 Y L M fi f0 S D W H U X) (h : ∀ H', G7 Y L M fi f0 S D W H' U X → Keep L fi H H' → Q (tkV X t) ⟨H', lo⟩) :
    wpE tb.P (CW tb.P (n + 4)) E eTal ⟨H, lo⟩ Q := by
  refine call_e g41 ?_
  refine tak_e ht hD l1 l2 g fun H' g' k' => ?_
  refine ⟨?_, h H' g' k'⟩
  have := g.tklen ht
  show (mV (tk (X t))).length ≤ SZ
  rw [mV_len]; unfold SZ; omega
theorem tak_go {n : Nat} {e : PE} {v : V} {xs : List V} {H₀ : Hp} (hs : ∀ H, still v xs H) (F : F0 fi f0)
    (he : ∀ (t : Nat) (H : Hp) (lo : Loc) (Q : V → St → Prop), (t : Int) ∈ fi → lo 106 = some (.ref L.fk) → lo 29 = some (.int t) → G7 Y L M fi f0 S D W H U X → (∀ H', G7 Y L M fi f0 S D W H' U X → Keep L fi H H' → Q (tkV X t) ⟨H', lo⟩) → wpE tb.P (CW tb.P (n + 4)) noE e ⟨H, lo⟩ Q) (Q : List V → St → Prop) :
    ∀ (zs : List Int) (acc : List V) (H : Hp) (lo : Loc), (∀ z ∈ zs, z ∈ fi) → acc.length + zs.length ≤ 100 → lo 106 = some (.ref L.fk) → G7 Y L M fi f0 S D W H U X → Keep L fi H₀ H → (∀ H' lo', G7 Y L M fi f0 S D W H' U X → Keep L fi H₀ H' → Q (acc ++ zs.map (tkV X)) ⟨H', lo'⟩) →
    compGo (fun σ₂ k => wpC tb.P (CW tb.P (n + 4)) noE .none σ₂ k) (fun σ₂ k => wpE tb.P (CW tb.P (n + 4)) noE e σ₂ k) [29] (still v xs) (iV zs) acc ⟨H, lo⟩ Q
  | [], acc, H, lo, hz, hl, l1, g, k, h => by
    have h := h H lo g k
    rw [List.map_nil, List.append_nil] at h
    exact ⟨hs H, by unfold SZ; rw [List.length_nil] at hl; omega, h⟩
  | z :: zs, acc, H, lo, hz, hl, l1, g, k, h => by
    rw [List.length_cons] at hl
    obtain ⟨t, et⟩ := F.nat z (hz z (.head _))
    subst et
    refine ⟨hs H, by unfold SZ; omega, ?_⟩
    show wpE tb.P (CW tb.P (n + 4)) noE e ⟨H, upd lo 29 (.int t)⟩ _
    refine he t H _ _ (hz t (.head _)) l1 rfl g fun H' g' k' => ?_
    refine tak_go hs F he Q zs (acc ++ [tkV X t]) H' _ (fun z hz' => hz z (.tail _ hz')) (by rw [List.length_append]; show _ + 1 + _ ≤ _; omega) l1 g' (k.trans k') fun H'' lo'' g'' k'' => ?_
    have h := h H'' lo'' g'' k''
    rw [List.map_cons, List.append_cons] at h
    exact h
/-- the lists of all in a list -/
theorem taks {n l : Nat} {e : PE} {zs : List Int} {lo : Loc} {E : EP} {Q : V → St → Prop} (c : C7 M fi f0)
    (he : ∀ (t : Nat) (H : Hp) (lo : Loc) (Q : V → St → Prop), (t : Int) ∈ fi → lo 106 = some (.ref L.fk) → lo 29 = some (.int t) → G7 Y L M fi f0 S D W H U X → (∀ H', G7 Y L M fi f0 S D W H' U X → Keep L fi H H' → Q (tkV X t) ⟨H', lo⟩) → wpE tb.P (CW tb.P (n + 4)) noE e ⟨H, lo⟩ Q)
    (hl : lo l = some (.lst (iV zs))) (hz : ∀ z ∈ zs, z ∈ fi) (hn : zs.length ≤ 100) (l1 : lo 106 = some (.ref L.fk)) (g : G7 Y L M fi f0 S D W H U X) (h : ∀ H', G7 Y L M fi f0 S D W H' U X → Keep L fi H H' → Q (.lst (zs.map (tkV X))) ⟨H', lo⟩) :
    wpE tb.P (CW tb.P (n + 4)) E (.comp true e [29] (.loc l) .none) ⟨H, lo⟩ Q := by
  refine need_ii (o := lo l) hl ?_
  refine tak_go (v := .lst (iV zs)) (xs := iV zs) (fun _ => rfl) c.F he _ zs [] H _ hz (by rw [List.length_nil]; omega) ?_ g (fun j c q _ _ _ _ => q) fun H' lo' g' k' => ?_
  · show unbs [29] lo 106 = _
    exact l1
  · refine ⟨?_, h H' g' k'⟩
    show (zs.map (tkV X)).length ≤ SZ
    rw [List.length_map]; unfold SZ; omega
theorem taks1 {n l : Nat} {zs : List Int} {lo : Loc} {E : EP} {Q : V → St → Prop} (c : C7 M fi f0) (hD : D ≤ 1000)
    (hl : lo l = some (.lst (iV zs))) (hz : ∀ z ∈ zs, z ∈ fi) (hn : zs.length ≤ 100) (l1 : lo 106 = some (.ref L.fk)) (g : G7 Y L M fi f0 S D W H U X) (h : ∀ H', G7 Y L M fi f0 S D W H' U X → Keep L fi H H' → Q (.lst (zs.map (tkV X))) ⟨H', lo⟩) :
    wpE tb.P (CW tb.P (n + 4)) E (.comp true eTak [29] (.loc l) .none) ⟨H, lo⟩ Q := taks c (fun t H lo Q ht l1 l2 g h => tak_e ht hD l1 l2 g h) hl hz hn l1 g h
theorem taks2 {n l : Nat} {zs : List Int} {lo : Loc} {E : EP} {Q : V → St → Prop} (c : C7 M fi f0) (hD : D ≤ 1000)
    (hl : lo l = some (.lst (iV zs))) (hz : ∀ z ∈ zs, z ∈ fi) (hn : zs.length ≤ 100) (l1 : lo 106 = some (.ref L.fk)) (g : G7 Y L M fi f0 S D W H U X) (h : ∀ H', G7 Y L M fi f0 S D W H' U X → Keep L fi H H' → Q (.lst (zs.map (tkV X))) ⟨H', lo⟩) :
    wpE tb.P (CW tb.P (n + 4)) E (.comp true eTal [29] (.loc l) .none) ⟨H, lo⟩ Q := taks c (fun t H lo Q ht l1 l2 g h => tal_e ht hD l1 l2 g h) hl hz hn l1 g h
end
end Mine

end

section
set_option autoImplicit false
set_option linter.all false
set_option genSizeOf false
set_option genInjectivity false
set_option maxRecDepth 20000
namespace Mine
open PySem (Str)
/-! All is right. -/
theorem rngN_nat (n : Nat) : rngN 0 n 1 = n := by unfold rngN; rw [if_pos rfl]; omega
theorem take_sz {l : List Msg} {n : Nat} (h : l.length ≤ 1000) : ((mV l).take n).length ≤ SZ := by rw [List.length_take, mV_len]; unfold SZ; omega
theorem nn (n : Nat) : notNeg (some (n : Int)) = true := decide_eq_true (Int.natCast_nonneg n)
section
variable {L : Lay} {M : Nat} {fi : List Int} {f0 : Nat} {S : Nat → List Str} {D W : Nat} {H : Hp} {U : List Letter} {X Y : Nat → H7} {sd : Nat} {sl : Nat → Nat}
/-- the longest list -/
theorem best_loop {K : CT} {v : V} {xs : List V} {row0 : List Msg} {lo₀ : Loc} (hs : still v xs H) (Q : Flow → St → Prop) :
    ∀ (zs : List Int) (B : List Msg) (lo : Loc), (∀ z ∈ zs, tk (X z.toNat) <+: row0) → B <+: row0 → lo 179 = some (.lst (mV B)) → (∀ j, j ≠ 38 → j ≠ 179 → lo j = lo₀ j) →
    (∀ B' lo', B' <+: row0 → B.length ≤ B'.length → (∀ z ∈ zs, (tk (X z.toNat)).length ≤ B'.length) → lo' 179 = some (.lst (mV B')) → (∀ j, j ≠ 38 → j ≠ 179 → lo' j = lo₀ j) → Q .next ⟨H, lo'⟩) →
    loopGo (fun v σ₂ k => bindT [38] v σ₂ fun σ₃ => wpSs tb.P K L__law_right_3 σ₃ k noE) (still v xs) (zs.map (tkV X)) ⟨H, lo⟩ Q
  | [], B, lo, hz, hb, l1, l2, h => ⟨hs, h B lo hb (Nat.le_refl _) (fun _ h => nomatch h) l1 l2⟩
  | z :: zs, B, lo, hz, hb, l1, l2, h => by
    have up : ∀ {v : V} j, j ≠ 38 → j ≠ 179 → upd lo 38 v j = lo₀ j := fun j a b => (if_neg a).trans (l2 j a b)
    refine ⟨hs, ?_⟩
    show wpSs tb.P K L__law_right_3 ⟨H, upd lo 38 (tkV X z)⟩ _ noE
    refine need_ii (o := lo 179) l1 ?_
    refine Br_b (b := decide (((mV B).length : Int) < ((mV (tk (X z.toNat))).length : Int))) (fun c => ?_) fun c => ?_
    · have c := of_decide_eq_true c
      rw [mV_len, mV_len] at c
      refine best_loop hs Q zs (tk (X z.toNat)) _ (fun y hy => hz y (.tail _ hy)) (hz z (.head _)) rfl (fun j a b => (if_neg b).trans (up j a b)) fun B' lo' p1 p2 p3 p4 p5 => ?_
      exact h B' lo' p1 (by omega) (fun y hy => (List.mem_cons.mp hy).elim (fun e => e ▸ p2) (p3 y)) p4 p5
    · have c := of_decide_eq_false c
      rw [mV_len, mV_len] at c
      refine best_loop hs Q zs B _ (fun y hy => hz y (.tail _ hy)) hb l1 up fun B' lo' p1 p2 p3 p4 p5 => ?_
      exact h B' lo' p1 p2 (fun y hy => (List.mem_cons.mp hy).elim (fun e => e ▸ by omega) (p3 y)) p4 p5
/-- the beginnings -/
theorem pre_loop {n : Nat} {v : V} {xs : List V} {B : List Msg} {H₀ : Hp} (hs : ∀ H, still v xs H) (c : C7 M fi f0) (hD : D ≤ 1000) (hBl : B <+: (X f0).row) (hB : ∀ t : Nat, (t : Int) ∈ fi → B.take (tk (X t)).length = tk (X t)) (Q : Flow → St → Prop) (h : ∀ H' lo', G7 Y L M fi f0 S D W H' U X → Keep L fi H₀ H' → lo' 179 = some (.lst (mV B)) → lo' 105 = some (.lst (iV fi)) → lo' 136 = some (.ref sd) → Q .next ⟨H', lo'⟩) :
    ∀ (N p : Nat) (H : Hp) (lo : Loc), p + N = fi.length → G7 Y L M fi f0 S D W H U X → Keep L fi H₀ H → lo 106 = some (.ref L.fk) → lo 36 = some (.lst (fi.map (tkV X))) → lo 178 = some (.lst (fi.map (tkV Y))) → lo 179 = some (.lst (mV B)) → lo 105 = some (.lst (iV fi)) → lo 136 = some (.ref sd) →
    loopGo (fun v σ₂ k => bindT [25] v σ₂ fun σ₃ => wpSs tb.P (CW tb.P (n + 4)) L__law_right_2 σ₃ k noE) (still v xs) (rngL p 1 N) ⟨H, lo⟩ Q
  | 0, p, H, lo, hp, g, k, l1, l2, l3, l4, l5, l6 => ⟨hs H, h H lo g k l4 l5 l6⟩
  | N + 1, p, H, lo, hp, g, k, l1, l2, l3, l4, l5, l6 => by
    have lt : p < fi.length := by omega
    have m : fi[p] ∈ fi := List.getElem_mem lt
    obtain ⟨t, et⟩ := c.F.nat _ m
    have ht : (t : Int) ∈ fi := et ▸ m
    have hq : fi[p]? = some (t : Int) := by rw [List.getElem?_eq_getElem lt, et]
    refine ⟨hs H, ?_⟩
    show wpSs tb.P (CW tb.P (n + 4)) L__law_right_2 ⟨H, upd lo 25 (.int p)⟩ _ noE
    refine need_ii (o := lo 179) l4 ?_
    refine need_ii (o := lo 36) l2 ?_
    refine at_map hq ?_
    refine ⟨rfl, nn (mV (tk (X t))).length, ?_⟩
    have bl : B.length ≤ D := by have := g.inv.ct; have := hBl.length_le; omega
    refine ⟨take_sz (by omega), ?_⟩
    refine need_ii (o := lo 36) l2 ?_
    refine at_map hq ?_
    refine ne_mV (l := tk (X t)) ?_ ?_ ?_
    · show (mV B).take (mV (tk (X t))).length = _
      rw [mV_len, mV_take, hB t ht]
    · rfl
    refine need_ii (o := lo 36) l2 ?_
    refine at_map hq ?_
    refine need_ii (o := lo 178) l3 ?_
    refine at_map hq ?_
    refine ⟨rfl, nn (mV (tk (Y t))).length, ?_⟩
    have tl := g.tklen ht
    refine ⟨take_sz (show (tk (X t)).length ≤ 1000 by omega), ?_⟩
    refine need_ii (o := lo 178) l3 ?_
    refine at_map hq ?_
    refine ne_mV (l := tk (Y t)) ?_ ?_ ?_
    · show (mV (tk (X t))).take (mV (tk (Y t))).length = _
      rw [mV_len, mV_take, tk_mn (g.mn t)]
    · rfl
    show wpE tb.P (CW tb.P (n + 4)) noE (.meth true (.loc 106) 99 (.cons (.idx (.loc 105) (.loc 25)) .nil)) ⟨H, upd lo 25 (.int p)⟩ _
    refine meth_i (σ := ⟨H, upd lo 25 (.int p)⟩) l1 g.rep.fk m99 ?_
    refine need_ii (o := lo 105) l5 ?_
    refine at_map hq ?_
    refine still_L (n := n) g.rep ht fun H₁ r₁ k₁ => ?_
    have g₁ : G7 Y L M fi f0 S D W H₁ U X := ⟨r₁, g.inv, g.wg, g.mn⟩
    refine gv rfl ?_
    refine ⟨rfl, ?_⟩
    show wpE tb.P (CW tb.P (n + 4)) noE (.meth true (.loc 106) 97 (.cons (.idx (.loc 105) (.loc 25)) .nil)) ⟨H₁, upd lo 25 (.int p)⟩ _
    refine meth_i (σ := ⟨H₁, upd lo 25 (.int p)⟩) l1 g₁.rep.fk m97 ?_
    refine need_ii (o := lo 105) l5 ?_
    refine at_map hq ?_
    have o := c.oth ht
    refine list_L (n := n) g₁.rep ht (by unfold SZ; omega) fun H₂ r₂ k₂ => ?_
    have g₂ : G7 Y L M fi f0 S D W H₂ U X := ⟨r₂, g.inv, g.wg, g.mn⟩
    refine gv rfl ?_
    refine need_ii (o := lo 105) l5 ?_
    refine ⟨ble_le rfl, ?_⟩
    refine ne_fi ?_
    exact pre_loop hs c hD hBl hB Q h N (p + 1) H₂ _ (by omega) g₂ (k.trans (k₁.trans k₂)) l1 l2 l3 l4 l5 l6
/-- the messages -/
theorem msg_loop {K : CT} {v : V} {xs : List V} {B : List Msg} (hs : still v xs H) (s : SD H fi sd sl S D) (hb : B.length ≤ 1000) (nd : B.Nodup) (gd : ∀ m ∈ B, Good fi S m) (Q : Flow → St → Prop) (h : ∀ lo', Q .next ⟨H, lo'⟩) :
    ∀ (N p : Nat) (lo : Loc), p + N = B.length → lo 179 = some (.lst (mV B)) → lo 105 = some (.lst (iV fi)) → lo 136 = some (.ref sd) →
    loopGo (fun v σ₂ k => bindT [25] v σ₂ fun σ₃ => wpSs tb.P K L__law_right_1 σ₃ k noE) (still v xs) (rngL p 1 N) ⟨H, lo⟩ Q
  | 0, p, lo, hp, l1, l2, l3 => ⟨hs, h lo⟩
  | N + 1, p, lo, hp, l1, l2, l3 => by
    have lt : p < B.length := by omega
    have m : B[p] ∈ B := List.getElem_mem lt
    have hq : B[p]? = some B[p] := List.getElem?_eq_getElem lt
    have hn : B[p] ∉ B.take p := fun z => by
      have nd := nd
      rw [← List.take_append_drop p B] at nd
      exact (List.nodup_append.mp nd).2.2 _ z _ (by rw [List.drop_eq_getElem_cons lt]; exact .head _) rfl
    obtain ⟨t, k, ht, e1, e2, e3⟩ := gd _ m
    have em : B[p] = ⟨t, k, B[p].w⟩ := by
      rw [← e1, ← e2]
    generalize B[p].w = w at em e3
    rw [em] at hq hn
    refine ⟨hs, ?_⟩
    show wpSs tb.P K L__law_right_1 ⟨H, upd lo 25 (.int p)⟩ _ noE
    refine need_ii (o := lo 179) l1 ?_
    refine at_map hq ?_
    refine need_ii (o := lo 179) l1 ?_
    refine ⟨rfl, nn p, ?_⟩
    refine ⟨take_sz hb, ?_⟩
    refine Br_y rfl ?_
    refine in_mV (l := B.take p) (m := ⟨t, k, w⟩) ?_ hn ?_
    · show (mV B).take p = _
      rw [mV_take]
    refine need_ii (o := lo 105) l2 ?_
    refine notin_iV ht ?_
    refine need_ii (o := lo 136) l3 ?_
    refine sd_at s ht ?_
    refine need_ii (o := lenH H (.ref (sl t))) (sl_len s ht) ?_
    have kl := (List.getElem?_eq_some_iff.mp e3).1
    refine Br_n (b := !decide ((k : Int) < ((S t).length : Int))) (by rw [decide_eq_true (Int.ofNat_lt.mpr kl)]; rfl) ?_
    refine need_ii (o := lo 136) l3 ?_
    refine sd_at s ht ?_
    refine sl_at s ht e3 ?_
    refine Br_n (b := !decide (w = w)) (by rw [decide_eq_true rfl]; rfl) ?_
    exact msg_loop hs s hb nd gd Q h N (p + 1) _ (by omega) l1 l2 l3
theorem f63 : tb.P.fn 63 = some F__law_right := by kernel_rfl
theorem right_G {n : Nat} {Q : V → Hp → Prop} {E : Nat → Hp → Prop} (c : C7 M fi f0) (so : SOl L fi sd sl) (g : G7 Y L M fi f0 S D W H U X) (s : SD H fi sd sl S D) (hD : D ≤ 1000)
    (h : ∀ H', G7 Y L M fi f0 S D W H' U X → SD H' fi sd sl S D → Q (.bool true) H') : CW tb.P (n + 5) 63 [.ref L.fk, .lst (iV fi), .ref sd, .lst (fi.map (tkV Y))] H Q E := by
  have o := c.oth c.F.mem
  have tkz : ∀ z ∈ fi, tk (X z.toNat) <+: (X f0).row := fun z hz => by
    obtain ⟨t, et⟩ := c.F.nat z hz
    subst et
    exact g.tkp hz
  refine call_i _ _ _ f63 rfl ?_
  refine asg_i ?_
  refine taks1 (n := n) (l := 105) c hD ?_ (fun z hz => hz) (by omega) ?_ g fun H₁ g₁ k₁ => ?_
  · rfl
  · rfl
  refine asg_i ?_
  refine ⟨ble_le rfl, ?_⟩
  refine best_loop (X := X) (row0 := (X f0).row) (v := .lst (fi.map (tkV X))) (xs := fi.map (tkV X)) rfl _ fi [] _ tkz (List.nil_prefix ..) rfl (fun j _ _ => rfl) fun B lo' b1 b2 b3 b4 b5 => ?_
  have q1 : lo' 105 = some (.lst (iV fi)) := b5 105 (by decide) (by decide)
  have ct := g.inv.ct
  have bl := b1.length_le
  refine need_ii (o := lo' 105) q1 ?_
  refine ⟨show (((iV fi).length : Nat) : Int).natAbs ≤ SZ by rw [iV_len, Int.natAbs_natCast]; unfold SZ; omega, ?_⟩
  refine pre_loop (H₀ := H₁) (B := B) (v := .rng 0 ((iV fi).length : Nat) 1) (xs := rngL 0 1 (rngN 0 ((iV fi).length : Nat) 1)) (fun _ => rfl) c hD b1 (fun t ht => ?_) _ (fun H₂ lo₂ g₂ k₂ m1 m2 m3 => ?_) (rngN 0 ((iV fi).length : Nat) 1) 0 H₁ lo' (by rw [rngN_nat, iV_len, Nat.zero_add]) g₁ (fun j c q _ _ _ _ => q) (b5 106 (by decide) (by decide)) (b5 36 (by decide) (by decide)) (b5 178 (by decide) (by decide)) b4 q1 (b5 136 (by decide) (by decide))
  · have := b3 t ht
    exact (List.prefix_iff_eq_take.mp (List.prefix_of_prefix_length_le (g.tkp ht) b1 this)).symm
  have s₂ := (s.keep so k₁).keep so k₂
  refine need_ii (o := lo₂ 179) m1 ?_
  refine ⟨show (((mV B).length : Nat) : Int).natAbs ≤ SZ by rw [mV_len, Int.natAbs_natCast]; unfold SZ; omega, ?_⟩
  refine msg_loop (B := B) (v := .rng 0 ((mV B).length : Nat) 1) (xs := rngL 0 1 (rngN 0 ((mV B).length : Nat) 1)) rfl s₂ (by omega) (g.inv.nd.sublist b1.sublist) (fun m hm => g.inv.gd m (b1.sublist.subset hm)) _ (fun lo₃ => ?_) (rngN 0 ((mV B).length : Nat) 1) 0 lo₂ (by rw [rngN_nat, mV_len, Nat.zero_add]) m1 m2 m3
  exact h H₂ g₂ s₂
end
end Mine

end

section
set_option autoImplicit false
set_option linter.all false
set_option genSizeOf false
set_option genInjectivity false
set_option maxRecDepth 20000
namespace Mine
open PySem (Str)
/-! The law: what is drawn. -/
theorem f9 : tb.P.fn 9 = some F__law_draw := by kernel_rfl
theorem f11 : tb.P.fn 11 = some F__law_hands := by kernel_rfl
theorem draw_w {n k : Nat} {is : List Int} {H : Hp} {Q : V → Hp → Prop} {E : Nat → Hp → Prop} (h : ∀ x : Int, Q (.int x) H) : CW tb.P (n + 1) 9 [.lst (is.map .int), .int k] H Q E := by
  refine call_i _ _ _ f9 rfl ?_
  refine Br_b (b := decide ((k : Int) < ((is.map V.int).length : Nat))) (fun c => ?_) fun c => ?_
  · have c := of_decide_eq_true c
    rw [List.length_map] at c
    exact at_map (List.getElem?_eq_getElem (show k < is.length by omega)) (h _)
  · exact h 0
theorem app_i {P : Prog} {K : CT} {E : EP} {fz : Bool} {l j : Nat} {a : PE} {xs : List V} {v : V} {σ : St} {Q : V → St → Prop} (hn : P.nAppend = 0) (hl : σ.loc l = some (.ref j)) (hg : σ.H.get j = some (.list xs)) (ha : ∀ Q' : V → St → Prop, Q' v σ → wpE P K E a σ Q') (hz : xs.length < SZ) (h : Q .none (σ.setH (σ.H.set j (.list (xs ++ [v]))))) : wpE P K E (.meth fz (.loc l) 0 (.cons a .nil)) σ Q := by
  refine need_ii (o := σ.loc l) hl ?_
  show (match σ.H.get j with
    | some (.inst k _) => _
    | some (.list _) => Nd ((Nat.beq 0 P.nAppend || (Nat.beq 0 P.nPop || Nat.beq 0 P.nExtend)) = true) (wpEs P K E (.cons a .nil) σ fun vs σ₂ => need (cL (σ₂.H.get j)) fun xs => methL P σ₂ j 0 vs xs Q)
    | some (.dict _) => _
    | _ => False)
  rw [hg]
  refine ⟨by rw [hn]; rfl, ha _ ?_⟩
  refine need_ii (o := cL (σ.H.get j)) (a := xs) (by rw [hg]; rfl) ?_
  show Br (Nat.beq 0 P.nAppend) _ _
  rw [hn]
  exact ⟨hz, h⟩
/-- hands by bits -/
theorem hands_loop {K : CT} {v : V} {xs : List V} {j : Nat} (hs : ∀ H, still v xs H) (Q : Flow → St → Prop) :
    ∀ (N p : Nat) (b : Int) (zs : List Int) (H : Hp) (lo : Loc), p + N ≤ 100 → H.get j = some (.list (iV zs)) → zs.Pairwise (· < ·) → (∀ z ∈ zs, 0 ≤ z ∧ z < p) → zs.length ≤ p → lo 26 = some (.ref j) → lo 27 = some (.int b) →
    (∀ zs' H' lo', H'.get j = some (.list (iV zs')) → zs'.Pairwise (· < ·) → (∀ z ∈ zs', 0 ≤ z ∧ z < ((p + N : Nat) : Int)) → lo' 26 = some (.ref j) → Q .next ⟨H', lo'⟩) →
    loopGo (fun v σ₂ k => bindT [29] v σ₂ fun σ₃ => wpSs tb.P K L__law_hands_1 σ₃ k noE) (still v xs) (rngL p 1 N) ⟨H, lo⟩ Q
  | 0, p, b, zs, H, lo, hp, g, z1, z2, z3, l1, l2, h => ⟨hs H, h zs H lo g z1 z2 l1⟩
  | N + 1, p, b, zs, H, lo, hp, g, z1, z2, z3, l1, l2, h => by
    have h' : ∀ zs' H' lo', H'.get j = some (.list (iV zs')) → zs'.Pairwise (· < ·) → (∀ z ∈ zs', 0 ≤ z ∧ z < ((p + 1 + N : Nat) : Int)) → lo' 26 = some (.ref j) → Q .next ⟨H', lo'⟩ := fun zs' H' lo' a b c d => h zs' H' lo' a b (fun z hz => by have := c z hz; omega) d
    refine ⟨hs H, ?_⟩
    show wpSs tb.P K L__law_hands_1 ⟨H, upd lo 29 (.int p)⟩ _ noE
    refine need_ii (o := lo 27) l2 ?_
    refine ⟨by decide, ?_⟩
    refine Br_b (b := decide (Int.fmod b 2 = 1)) (fun c => ?_) fun c => ?_
    · refine expr_i ?_
      refine app_i (σ := ⟨H, upd lo 29 (.int p)⟩) (l := 26) (j := j) (v := .int p) rfl l1 g (fun _ q => q) (by rw [iV_len]; unfold SZ; omega) ?_
      refine need_ii (o := lo 27) l2 ?_
      refine ⟨⟨by decide, by decide⟩, ?_⟩
      have e : iV zs ++ [.int p] = iV (zs ++ [(p : Int)]) := by unfold iV; rw [List.map_append]; rfl
      refine hands_loop hs Q N (p + 1) (Int.fdiv b 2) (zs ++ [(p : Int)]) _ _ (by omega) (by rw [← e]; exact (Hp.get_set g).trans (if_pos rfl)) ?_ ?_ ?_ l1 rfl h'
      · refine List.pairwise_append.mpr ⟨z1, List.pairwise_singleton .., fun a ha b hb => ?_⟩
        cases List.mem_singleton.mp hb
        exact (z2 a ha).2
      · intro z hz
        rcases List.mem_append.mp hz with hz | hz
        · have := z2 z hz; omega
        · cases List.mem_singleton.mp hz; omega
      · rw [List.length_append]; show _ + 1 ≤ _; omega
    · refine need_ii (o := lo 27) l2 ?_
      refine ⟨⟨by decide, by decide⟩, ?_⟩
      exact hands_loop hs Q N (p + 1) (Int.fdiv b 2) zs H _ (by omega) g z1 (fun z hz => by have := z2 z hz; omega) (by omega) l1 rfl h'
theorem hands_w {n M : Nat} {b : Int} {σ : St} {Q : V → St → Prop} {E : Nat → Hp → Prop} (hM : M ≤ 9) (h : ∀ zs H', zs.Pairwise (· < ·) → (∀ z ∈ zs, 0 ≤ z ∧ z < (M : Int)) → Q (.lst (iV zs)) (σ.setH H')) : CW tb.P (n + 1) 11 [.int b, .int M] σ.H (fun v H' => giveV true (σ.setH H') Q v) E := by
  refine call_i _ _ _ f11 rfl ?_
  refine ⟨ble_le rfl, ?_⟩
  refine ⟨show ((M : Nat) : Int).natAbs ≤ SZ by rw [Int.natAbs_natCast]; unfold SZ; omega, ?_⟩
  refine hands_loop (j := σ.H.next) (v := .rng 0 (M : Nat) 1) (xs := rngL 0 1 (rngN 0 (M : Nat) 1)) (fun _ => rfl) _ (rngN 0 (M : Nat) 1) 0 b [] (σ.H.new (.list [])) _ (by rw [rngN_nat]; omega) (by rw [Hp.get_new, if_pos rfl]; rfl) .nil (fun _ h => nomatch h) (Nat.le_refl _) rfl rfl fun zs H' lo' g z1 z2 l => ?_
  refine need_ii (o := lo' 26) l ?_
  show (match cL (H'.get σ.H.next) with | some xs => Q (.lst xs) ((σ.setH H').setH (H'.del σ.H.next)) | none => _)
  rw [g]
  exact h zs _ z1 fun z hz => by have := z2 z hz; rw [rngN_nat] at this; omega
end Mine

end

section
set_option autoImplicit false
set_option linter.all false
set_option genSizeOf false
set_option genInjectivity false
set_option maxRecDepth 20000
namespace Mine
open PySem (Str)
/-! The law: the folk is made. -/
section
variable {n : Nat} {is : List Int} {H : Hp} {lo : Loc} {r : PSs} {Q : Flow → St → Prop} {E : EP}
theorem s0_w (l1 : lo 24 = some (.lst (is.map .int))) (h : ∀ M : Nat, 1 ≤ M → M ≤ 7 → wpSs tb.P (CW tb.P (n + 1)) r ⟨H, upd lo 28 (.int M)⟩ Q E) : wpSs tb.P (CW tb.P (n + 1)) (.cons S_law_0 r) ⟨H, lo⟩ Q E := by
  refine asg_i ?_
  refine need_ii (o := lo 24) l1 ?_
  refine draw_w (k := 0) fun x => ?_
  refine gv rfl ?_
  obtain ⟨p, e, hp⟩ := fmod_nat (x := x) (n := 7) (by decide)
  refine ⟨by decide, ?_⟩
  have h := h (1 + p) (by omega) (by omega)
  rw [show ((1 + p : Nat) : Int) = 1 + Int.fmod x (7 : Nat) by rw [e]; omega] at h
  exact h
theorem s1_w {M : Nat} (hM : M ≤ 7) (l1 : lo 24 = some (.lst (is.map .int))) (l2 : lo 28 = some (.int M)) (h : ∀ zs H', zs.Pairwise (· < ·) → (∀ z ∈ zs, 0 ≤ z ∧ z < (M : Int)) → wpSs tb.P (CW tb.P (n + 1)) r ⟨H', upd lo 105 (.lst (iV zs))⟩ Q E) : wpSs tb.P (CW tb.P (n + 1)) (.cons S_law_1 r) ⟨H, lo⟩ Q E := by
  refine asg_i ?_
  refine need_ii (o := lo 24) l1 ?_
  refine draw_w (k := 1) fun x => ?_
  refine gv rfl ?_
  refine need_ii (o := lo 28) l2 ?_
  refine hands_w (σ := ⟨H, lo⟩) (M := M) (by omega) fun zs H' z1 z2 => ?_
  exact h zs H' z1 z2
theorem s2_w {M : Nat} {zs : List Int} (h0 : 1 ≤ M) (hM : M ≤ 7) (z1 : zs.Pairwise (· < ·)) (z2 : ∀ z ∈ zs, 0 ≤ z ∧ z < (M : Int)) (l1 : lo 105 = some (.lst (iV zs))) (l2 : lo 28 = some (.int M))
    (h : ∀ fi f0 lo', C7 M fi f0 → lo' 105 = some (.lst (iV fi)) → (∀ j, j ≠ 105 → lo' j = lo j) → wpSs tb.P (CW tb.P (n + 1)) r ⟨H, lo'⟩ Q E) : wpSs tb.P (CW tb.P (n + 1)) (.cons S_law_2 r) ⟨H, lo⟩ Q E := by
  refine need_ii (o := lo 105) l1 ?_
  refine ⟨ble_le rfl, ?_⟩
  have e : deep H (.lst (iV zs)) = some (.lst (iV zs)) := by show mL (deepL (deepN H 11) (iV zs)) = _; rw [iV_deep]; rfl
  refine need_ii (o := deep H (.lst (iV zs))) e ?_
  cases zs with
  | nil =>
    refine need_ii (o := lo 28) l2 ?_
    refine ⟨ble_le rfl, ?_⟩
    have em : (M : Int) - 1 = ((M - 1 : Nat) : Int) := by omega
    refine h [(M : Int) - 1] (M - 1) _ ⟨⟨fun z => (nomatch z), List.pairwise_singleton .., fun i hi => ?_⟩, hM, [], by rw [em]⟩ rfl fun j hj => if_neg hj
    cases List.mem_singleton.mp hi
    omega
  | cons z zs =>
    have b := z2 z (.head _)
    exact h (z :: zs) z.toNat lo ⟨⟨fun z => (nomatch z), z1, z2⟩, hM, zs, by rw [Int.toNat_of_nonneg b.1]⟩ l1 fun _ _ => rfl
theorem g60 : tb.P.glob 60 = some (.cls 60) := by kernel_rfl
theorem s3_w {M f0 : Nat} {fi : List Int} (c : C7 M fi f0) (h0 : 1 ≤ M) (l1 : lo 105 = some (.lst (iV fi))) (l2 : lo 28 = some (.int M)) (h : ∀ H', Rep H' (mkL H.next M fi) M fi [] X70 → wpSs tb.P (CW tb.P (n + 3)) r ⟨H', upd lo 106 (.ref H.next)⟩ Q E) : wpSs tb.P (CW tb.P (n + 3)) (.cons S_law_3 r) ⟨H, lo⟩ Q E := by
  have hM := c.hM
  have ll := c.ok.len
  refine asg_i ?_
  refine call_e g60 ?_
  refine need_ii (o := lo 28) l2 ?_
  refine need_ii (o := lo 105) l1 ?_
  refine ⟨show (iV fi).length ≤ SZ by rw [iV_len]; unfold SZ; omega, ?_⟩
  refine folk_w (n := n) c.ok h0 (by omega) fun H' R => ?_
  exact ⟨rfl, h H' R⟩
end
end Mine

end

section
set_option autoImplicit false
set_option linter.all false
set_option genSizeOf false
set_option genInjectivity false
set_option maxRecDepth 20000
namespace Mine
open PySem (Str)
/-! The law: what is said, at first. -/
noncomputable def slF (sd : Nat) (fi : List Int) (t : Nat) : Nat := sd + 1 + fi.idxOf (t : Int)
theorem sd_set {sl : Nat → Nat} {t : Nat} : ∀ {l : List Int}, (t : Int) ∉ l → dSet (sdV sl l) (.int t) (.ref (sl t)) = sdV sl (l ++ [(t : Int)])
  | [], _ => rfl
  | a :: r, h => by
    show cond (decide (a = (t : Int))) _ ((V.int a, V.ref (sl a.toNat)) :: dSet (sdV sl r) (.int t) (.ref (sl t))) = _
    rw [decide_eq_false (show ¬ a = (t : Int) from fun z => h (z ▸ .head _)), sd_set fun z => h (.tail _ z)]; rfl
theorem Rep.of {H H' : Hp} {L : Lay} {M : Nat} {fi : List Int} {U : List Letter} {X : Nat → H7} (R : Rep H L M fi U X) (k : ∀ {i c}, H.get i = some c → H'.get i = some c) : Rep H' L M fi U X :=
  ⟨k R.fk, k R.un, R.hl, R.hM, fun t ht => (R.hd t ht).elim fun h d => ⟨h, d.at_, k d.hd, k d.row, k d.hol, d.gon.elim fun c q => ⟨c, k q⟩⟩, fun i hi => (R.oth i hi).elim fun c q => ⟨c, k q⟩, R.apt⟩
/-- the lists made so far -/
structure SdI (H₀ H : Hp) (sd : Nat) (fi : List Int) (q : Nat) : Prop where
  nx : H.next = sd + 1 + q
  d : H.get sd = some (.dict (sdV (slF sd fi) (fi.take q)))
  l : ∀ p, p < q → H.get (sd + 1 + p) = some (.list [])
  k : ∀ i c, H₀.get i = some c → H.get i = some c
section
variable {n : Nat} {H : Hp} {lo : Loc} {r : PSs} {Q : Flow → St → Prop} {E : EP} {M f0 : Nat} {fi : List Int}
theorem said_loop {K : CT} {v : V} {xs : List V} {H₀ : Hp} {sd : Nat} (hs : ∀ H, still v xs H) (c : C7 M fi f0) (h0 : H₀.next = sd) (Q : Flow → St → Prop) (h : ∀ H' lo', SdI H₀ H' sd fi fi.length → (∀ j, j ≠ 29 → lo' j = lo j) → Q .next ⟨H', lo'⟩) :
    ∀ (zs : List Int) (q : Nat) (H : Hp) (lo₁ : Loc), fi.drop q = zs → q + zs.length = fi.length → SdI H₀ H sd fi q → lo 136 = some (.ref sd) → (∀ j, j ≠ 29 → lo₁ j = lo j) →
    loopGo (fun v σ₂ k => bindT [29] v σ₂ fun σ₃ => wpSs tb.P K L_law_1 σ₃ k noE) (still v xs) (iV zs) ⟨H, lo₁⟩ Q
  | [], q, H, lo₁, e, hq, I, l1, l2 => ⟨hs H, h H lo₁ (by rw [← hq]; exact I) l2⟩
  | z :: zs, q, H, lo₁, e, hq, I, l1, l2 => by
    rw [List.length_cons] at hq
    have lt : q < fi.length := by omega
    have dq := List.drop_eq_getElem_cons lt
    rw [e] at dq
    obtain ⟨ez, ezs⟩ := List.cons.inj dq
    have m : fi[q] ∈ fi := List.getElem_mem lt
    obtain ⟨t, et⟩ := c.F.nat _ m
    have nd := c.nd
    have ix : fi.idxOf (t : Int) = q := by rw [← et]; exact nd.idxOf_getElem q lt
    have nt : (t : Int) ∉ fi.take q := fun z => by
      rw [← List.take_append_drop q fi] at nd
      exact (List.nodup_append.mp nd).2.2 _ z (t : Int) (by rw [List.drop_eq_getElem_cons lt, et]; exact .head _) rfl
    have ll : fi.length ≤ 7 := (c.oth c.F.mem).1
    have es : slF sd fi t = H.next := by unfold slF; rw [ix, I.nx]
    rw [et] at ez
    subst ez
    have l3 : lo₁ 136 = some (.ref sd) := (l2 136 (by decide)).trans l1
    have gd : (H.new (.list [])).get sd = some (.dict (sdV (slF sd fi) (fi.take q))) := by rw [Hp.get_new, if_neg (show sd ≠ H.next by rw [I.nx]; omega)]; exact I.d
    refine ⟨hs H, ?_⟩
    show wpSs tb.P K L_law_1 ⟨H, upd lo₁ 29 (.int t)⟩ _ noE
    refine ⟨ble_le rfl, ?_⟩
    refine need_ii (o := lo₁ 136) l3 ?_
    refine need_ii (o := cD ((H.new (.list [])).get sd)) (a := sdV (slF sd fi) (fi.take q)) (by rw [gd]; rfl) ?_
    refine ⟨sd_key _, ?_⟩
    refine ⟨show (sdV (slF sd fi) (fi.take q)).length < SZ by unfold sdV; rw [List.length_map, List.length_take]; unfold SZ; omega, ?_⟩
    refine said_loop hs c h0 Q h zs (q + 1) _ _ ezs.symm (by omega) ⟨?_, ?_, fun p hp => ?_, fun i c' g => ?_⟩ l1 fun j hj => (if_neg hj).trans (l2 j hj)
    · show ((H.new (.list [])).set sd _).next = _
      rw [Hp.next_set, Hp.next_new, I.nx]; omega
    · show ((H.new (.list [])).set sd (.dict (dSet _ (.int t) (.ref H.next)))).get sd = _
      rw [Hp.get_set gd, if_pos rfl, ← es, sd_set nt, List.take_succ, List.getElem?_eq_getElem lt, et]; rfl
    · show ((H.new (.list [])).set sd _).get _ = _
      rw [Hp.get_set gd, if_neg (by omega), Hp.get_new, I.nx]
      by_cases c : p = q
      · rw [if_pos (by omega)]
      · rw [if_neg (by omega)]; exact I.l p (by omega)
    · have gi := atC_lt g
      have gi : i < H₀.next := gi
      show ((H.new (.list [])).set sd _).get _ = _
      rw [Hp.get_set gd, if_neg (by omega), Hp.get_new, if_neg (by rw [I.nx]; omega)]
      exact I.k i c' g
theorem bef_go {K : CT} {v : V} {xs : List V} {tst : St → (Bool → St → Prop) → Prop} (hs : ∀ H, still v xs H) (Q : List V → St → Prop) :
    ∀ (zs : List Int) (acc : List V) (lo : Loc), acc.length + zs.length ≤ 100 → (∀ lo', Q (acc ++ zs.map (tkV X70)) ⟨H, lo'⟩) →
    compGo (fun σ₂ k => wpC tb.P K noE .none σ₂ k) (fun σ₂ k => wpE tb.P K noE (.list true .nil) σ₂ k) [29] (still v xs) (iV zs) acc ⟨H, lo⟩ Q
  | [], acc, lo, hl, h => by
    have h := h lo
    rw [List.map_nil, List.append_nil] at h
    exact ⟨hs H, by unfold SZ; rw [List.length_nil] at hl; omega, h⟩
  | z :: zs, acc, lo, hl, h => by
    rw [List.length_cons] at hl
    refine ⟨hs H, by unfold SZ; omega, ?_⟩
    refine ⟨ble_le rfl, ?_⟩
    refine bef_go (tst := tst) hs Q zs (acc ++ [.lst []]) _ (by rw [List.length_append]; show _ + 1 + _ ≤ _; omega) fun lo' => ?_
    have h := h lo'
    rw [List.map_cons, List.append_cons] at h
    exact h
/-- all that stands when the folk is made -/
structure A7 (L : Lay) (M : Nat) (fi : List Int) (f0 : Nat) (sd : Nat) (sl : Nat → Nat) (D W : Nat) (S : Nat → List Str) (U : List Letter) (X : Nat → H7) (H : Hp) (lo : Loc) : Prop where
  g : G7 X L M fi f0 S D W H U X
  s : SD H fi sd sl S D
  l1 : lo 106 = some (.ref L.fk)
  l2 : lo 105 = some (.lst (iV fi))
  l3 : lo 136 = some (.ref sd)
  l4 : lo 178 = some (.lst (fi.map (tkV X)))
theorem s456_w {j : Nat} (c : C7 M fi f0) (R : Rep H (mkL j M fi) M fi [] X70) (l1 : lo 106 = some (.ref j)) (l2 : lo 105 = some (.lst (iV fi)))
    (h : ∀ sd sl H' lo', SOl (mkL j M fi) fi sd sl → A7 (mkL j M fi) M fi f0 sd sl 0 0 (fun _ => []) [] X70 H' lo' → lo' 24 = lo 24 → wpSs tb.P (CW tb.P (n + 1)) r ⟨H', lo'⟩ Q E) : wpSs tb.P (CW tb.P (n + 1)) (.cons S_law_4 (.cons S_law_5 (.cons S_law_6 r))) ⟨H, lo⟩ Q E := by
  have ll : fi.length ≤ 7 := (c.oth c.F.mem).1
  refine asg_i ?_
  refine ⟨ble_le rfl, rfl, ?_⟩
  refine need_ii (o := lo 105) l2 ?_
  refine said_loop (lo := upd lo 136 (.ref H.next)) (v := .lst (iV fi)) (xs := iV fi) (H₀ := H) (sd := H.next) (fun _ => rfl) c rfl _ (fun H' lo' I l3 => ?_) fi 0 (H.new (.dict [])) _ rfl (Nat.zero_add _) ⟨Hp.next_new, by rw [Hp.get_new, if_pos rfl]; rfl, fun p hp => absurd hp (Nat.not_lt_zero _), fun i c g => by rw [Hp.get_new, if_neg (show i ≠ H.next from Nat.ne_of_lt (atC_lt g))]; exact g⟩ rfl fun _ _ => rfl
  have m2 : lo' 105 = some (.lst (iV fi)) := (l3 105 (by decide)).trans l2
  refine asg_i ?_
  refine need_ii (o := lo' 105) m2 ?_
  refine bef_go (tst := fun _ _ => True) (v := .lst (iV fi)) (xs := iV fi) (fun _ => rfl) _ fi [] _ (by rw [List.length_nil]; omega) fun lo₂ => ?_
  refine ⟨show (fi.map (tkV X70)).length ≤ SZ by rw [List.length_map]; unfold SZ; omega, ?_⟩
  have lt := R.lt
  have ot : ∀ i, H.next ≤ i → Oul (mkL j M fi) fi i := fun i hi => ⟨by omega, by omega, fun z => absurd (lt.2.2.1 i z) (by omega), fun t ht => by have := lt.2.2.2 t ht; omega⟩
  refine h H.next (slF H.next fi) H' _ ⟨ot _ (Nat.le_refl _), fun t ht => ot _ (by unfold slF; omega), fun t ht => by unfold slF; omega, fun t u ht hu ne => ?_⟩ ⟨⟨R.of fun {i c'} g => I.k i c' g, Inv.start (M := M) c.F, Nat.zero_le _, fun u => .same rfl rfl⟩, ⟨?_, fun t ht => ?_, fun t ht => Nat.zero_le _⟩, ?_, ?_, ?_, rfl⟩ ?_
  · unfold slF
    intro z
    have a := List.getElem_idxOf (List.idxOf_lt_length_iff.mpr ht)
    have b := List.getElem_idxOf (List.idxOf_lt_length_iff.mpr hu)
    have e : fi.idxOf (t : Int) = fi.idxOf (u : Int) := by omega
    refine ne (Int.ofNat.inj ?_)
    show (t : Int) = (u : Int)
    rw [← a, ← b]
    congr 1
  · have := I.d
    rw [List.take_length] at this
    exact this
  · exact I.l _ (List.idxOf_lt_length_iff.mpr ht)
  · exact (l3 106 (by decide)).trans l1
  · exact m2
  · exact l3 136 (by decide)
  · exact l3 24 (by decide)
end
end Mine

end

section
set_option autoImplicit false
set_option linter.all false
set_option genSizeOf false
set_option genInjectivity false
set_option maxRecDepth 20000
namespace Mine
open PySem (Str)
/-! The law: the deeds. -/
theorem g177 : tb.P.glob 177 = some (.fn 177) := by kernel_rfl
theorem g63 : tb.P.glob 63 = some (.fn 63) := by kernel_rfl
theorem g175 : tb.P.glob 175 = some (.fn 175) := by kernel_rfl
section
variable {n : Nat} {H : Hp} {lo : Loc} {r : PSs} {Q : Flow → St → Prop} {E : EP} {M f0 : Nat} {fi : List Int} {L : Lay} {sd : Nat} {sl : Nat → Nat}
theorem law_loop {v : V} {xs : List V} (hs : ∀ H, still v xs H) (c : C7 M fi f0) (so : SOl L fi sd sl) (Q : Flow → St → Prop)
    (h : ∀ D W S U X H' lo', D ≤ 60 → W + 3700 ≤ 1000000 → A7 L M fi f0 sd sl D W S U X H' lo' → Q .next ⟨H', lo'⟩) :
    ∀ (cs : List Int) (vs : List V) (D W : Nat) (S : Nat → List Str) (U : List Letter) (X : Nat → H7) (H : Hp) (lo : Loc), vs = cs.map .int → D + cs.length ≤ 60 → W + 3700 * cs.length + 3700 ≤ 1000000 → A7 L M fi f0 sd sl D W S U X H lo →
    loopGo (fun v σ₂ k => bindT [137] v σ₂ fun σ₃ => wpSs tb.P (CW tb.P (n + 8)) L_law_2 σ₃ k noE) (still v xs) vs ⟨H, lo⟩ Q
  | [], vs, D, W, S, U, X, H, lo, ev, hD, hW, A => by
    subst ev
    exact ⟨hs H, h D W S U X H lo hD (by omega) A⟩
  | x :: cs, vs, D, W, S, U, X, H, lo, ev, hD, hW, A => by
    subst ev
    have ll : fi.length ≤ 7 := (c.oth c.F.mem).1
    rw [List.length_cons] at hD hW
    refine ⟨hs H, ?_⟩
    show wpSs tb.P (CW tb.P (n + 8)) L_law_2 ⟨H, upd lo 137 (.int x)⟩ _ noE
    refine expr_i ?_
    refine call_e g177 ?_
    refine need_ii (o := lo 106) A.l1 ?_
    refine need_ii (o := lo 105) A.l2 ?_
    refine need_ii (o := lo 136) A.l3 ?_
    refine deed_G (n := n) c so A.g A.s (by omega) (by omega) fun H₁ S₁ U₁ X₁ g₁ s₁ => ?_
    refine gv rfl ?_
    refine need_ii (o := lo 106) A.l1 ?_
    refine need_ii (o := lo 105) A.l2 ?_
    refine need_ii (o := lo 136) A.l3 ?_
    refine need_ii (o := lo 178) A.l4 ?_
    refine right_G (n := n + 3) c so g₁ s₁ (by omega) fun H₂ g₂ s₂ => ?_
    refine gv rfl ?_
    refine asg_i ?_
    refine taks2 (n := n + 4) (l := 105) c (show D + 1 ≤ 1000 by omega) A.l2 (fun z hz => hz) (by omega) A.l1 g₂ fun H₃ g₃ k₃ => ?_
    exact law_loop hs c so Q h cs _ (D + 1) (W + 3700) S₁ U₁ X₁ H₃ _ rfl (by omega) (by omega) ⟨⟨g₃.rep, g₃.inv, g₃.wg, fun u => .same rfl rfl⟩, s₂.keep so k₃, A.l1, A.l2, A.l3, rfl⟩
theorem s7_w {is : List Int} (c : C7 M fi f0) (so : SOl L fi sd sl) (l1 : lo 24 = some (.lst (is.map .int))) (A : A7 L M fi f0 sd sl 0 0 (fun _ => []) [] X70 H lo)
    (h : ∀ D W S U X H' lo', D ≤ 60 → W + 3700 ≤ 1000000 → A7 L M fi f0 sd sl D W S U X H' lo' → wpSs tb.P (CW tb.P (n + 8)) r ⟨H', lo'⟩ Q E) : wpSs tb.P (CW tb.P (n + 8)) (.cons S_law_7 r) ⟨H, lo⟩ Q E := by
  have le : ((is.drop 2).take 60).length ≤ 60 := by rw [List.length_take]; omega
  refine need_ii (o := lo 24) l1 ?_
  refine ⟨rfl, rfl, ?_⟩
  have e : (((is.map V.int).drop 2).take 60) = ((is.drop 2).take 60).map V.int := by rw [List.map_take, List.map_drop]
  refine ⟨show ((((is.map V.int).drop 2).take 60)).length ≤ SZ by rw [e, List.length_map]; unfold SZ; omega, ?_⟩
  refine law_loop (v := .lst (((is.map V.int).drop 2).take 60)) (xs := ((is.map V.int).drop 2).take 60) (fun _ => rfl) c so _ (fun D W S U X H' lo' d w a => ?_) ((is.drop 2).take 60) _ 0 0 _ [] X70 H lo e (by omega) (by omega) A
  exact h D W S U X H' lo' d w a
end
end Mine

end

section
set_option autoImplicit false
set_option linter.all false
set_option genSizeOf false
set_option genInjectivity false
set_option maxRecDepth 20000
namespace Mine
open PySem (Str)
/-! The law: the end. -/
theorem come_up {k : Int} {fi : List Int} {x : H7} {U : List Letter} {Lt : Letter} : (comeF k fi x U Lt).1.up = x.up := by
  unfold comeF
  cases e : x.up with
  | false => exact e
  | true =>
    show (stepF k fi x U Lt.from_ Lt.c).1.up = true
    cases Lt.c with
    | wish m =>
      show (wishF k fi x U m).1.up = true
      unfold wishF
      cases hasM x.row m with
      | true => exact e
      | false => exact lookF_up.trans e
    | hold m p =>
      show (holdF k x U Lt.from_ m p).1.up = true
      unfold holdF
      cases decide ((x.row.length : Int) < p) with
      | true => exact e
      | false =>
        cases decide (p = (x.row.length : Int)) with
        | true => exact e
        | false => exact e
    | have_ c => exact lookF_up.trans e
    | take c => exact e
/-- what leads to the end -/
noncomputable def End (fi : List Int) (f0 : Nat) (b : Bool) (U : List Letter) (X : Nat → H7) : Prop := (X f0).up = b ∧ (b = true → FinI fi f0 U X)
noncomputable def upL (X : Nat → H7) (fi : List Int) : List Int := fi.filter fun i => (X i.toNat).up
section
variable {n : Nat} {H : Hp} {lo : Loc} {r : PSs} {Q : Flow → St → Prop} {E : EP} {M f0 : Nat} {fi : List Int} {L : Lay} {sd : Nat} {sl : Nat → Nat} {D W : Nat} {S : Nat → List Str} {U : List Letter} {X Y : Nat → H7}
theorem s9_w {b : Bool} (c : C7 M fi f0) (so : SOl L fi sd sl) (hD : D ≤ 1000) (hW : W ≤ 1000000) (g : G7 Y L M fi f0 S D W H U X) (s : SD H fi sd sl S D) (e : End fi f0 b U X) (l1 : lo 106 = some (.ref L.fk))
    (h : ∀ X' H', G7 Y L M fi f0 S D W H' [] X' → SD H' fi sd sl S D → End fi f0 b [] X' → wpSs tb.P (CW tb.P (n + 8)) r ⟨H', lo⟩ Q E) : wpSs tb.P (CW tb.P (n + 8)) (.cons S_law_9 r) ⟨H, lo⟩ Q E := by
  refine expr_i ?_
  refine meth_i (σ := ⟨H, lo⟩) l1 g.rep.fk m85 ?_
  refine calm_G (n := n + 1) c g hD hW (End fi f0 b) e (fun Lt V Z t I p hto ht => ?_) fun H' X' cnt g' p' k' => ?_
  · by_cases hb : b = true
    · subst hb
      have := FinI.come c.F c.nd I (p.2 rfl) p.1 hto ht
      exact ⟨this.2, fun _ => this.1⟩
    · refine ⟨?_, fun z => absurd z hb⟩
      by_cases q : f0 = t
      · subst q; rw [updX_at, come_up]; exact p.1
      · rw [updX_ne q]; exact p.1
  · refine gv rfl ?_
    exact h X' H' g' (s.keep so k') p'
theorem s89_w (c : C7 M fi f0) (so : SOl L fi sd sl) (hD : D ≤ 60) (hW : W + 3700 ≤ 1000000) (A : A7 L M fi f0 sd sl D W S U X H lo)
    (h : ∀ b X' H', G7 X L M fi f0 S D (W + 3700) H' [] X' → SD H' fi sd sl S D → End fi f0 b [] X' → wpSs tb.P (CW tb.P (n + 8)) r ⟨H', lo⟩ Q E) : wpSs tb.P (CW tb.P (n + 8)) (.cons S_law_8 (.cons S_law_9 r)) ⟨H, lo⟩ Q E := by
  refine expr_i ?_
  refine call_e g175 ?_
  refine need_ii (o := lo 106) A.l1 ?_
  refine need_ii (o := lo 105) A.l2 ?_
  refine c.at0 ?_
  refine tried1 (n := n + 3) c A.g (by omega) hW (fun H₁ u g₁ k₁ => ?_) fun H₁ u g₁ k₁ => ?_
  · refine gv rfl ?_
    exact s9_w (n := n) c so (by omega) (by omega) g₁ (A.s.keep so k₁) ⟨u, fun _ => FinI.press c.F c.nd A.g.inv⟩ A.l1 fun X' H' g' s' e' => h true X' H' g' s' e'
  · refine gv rfl ?_
    exact s9_w (n := n) (b := false) c so (by omega) (by omega) g₁ (A.s.keep so k₁) ⟨u, fun z => nomatch z⟩ A.l1 fun X' H' g' s' e' => h false X' H' (g'.more (Nat.le_refl _) (by omega)) s' e'
/-- those that stand -/
theorem up_go {v : V} {xs : List V} {H₀ : Hp} (hs : ∀ H, still v xs H) (F : F0 fi f0) (Q : List V → St → Prop) :
    ∀ (zs acc : List Int) (H : Hp) (lo : Loc), (∀ z ∈ zs, z ∈ fi) → acc.length + zs.length ≤ 100 → lo 106 = some (.ref L.fk) → G7 Y L M fi f0 S D W H U X → Keep L fi H₀ H → (∀ H' lo', G7 Y L M fi f0 S D W H' U X → Keep L fi H₀ H' → Q (iV (acc ++ upL X zs)) ⟨H', lo'⟩) →
    compGo (fun σ₂ k => wpC tb.P (CW tb.P (n + 3)) noE (.some (.e (.meth true (.loc 106) 96 (.cons (.loc 29) .nil)))) σ₂ k) (fun σ₂ k => wpE tb.P (CW tb.P (n + 3)) noE (.loc 29) σ₂ k) [29] (still v xs) (iV zs) (iV acc) ⟨H, lo⟩ Q
  | [], acc, H, lo, hz, hl, l1, g, k, h => by
    have h := h H lo g k
    rw [show upL X [] = [] from rfl, List.append_nil] at h
    exact ⟨hs H, by rw [iV_len]; unfold SZ; rw [List.length_nil] at hl; omega, h⟩
  | z :: zs, acc, H, lo, hz, hl, l1, g, k, h => by
    rw [List.length_cons] at hl
    obtain ⟨t, et⟩ := F.nat z (hz z (.head _))
    subst et
    refine ⟨hs H, by rw [iV_len]; unfold SZ; omega, ?_⟩
    show wpE tb.P (CW tb.P (n + 3)) noE (.meth true (.loc 106) 96 (.cons (.loc 29) .nil)) ⟨H, upd lo 29 (.int t)⟩ _
    refine meth_i (σ := ⟨H, upd lo 29 (.int t)⟩) l1 g.rep.fk m96 ?_
    refine stands_L (n := n) g.rep (hz t (.head _)) fun H' r' k' => ?_
    have g' : G7 Y L M fi f0 S D W H' U X := ⟨r', g.inv, g.wg, g.mn⟩
    refine gv rfl ?_
    refine Br_b (b := (X t).up) (fun e => ?_) fun e => ?_
    · have ea : iV acc ++ [.int t] = iV (acc ++ [(t : Int)]) := by unfold iV; rw [List.map_append]; rfl
      show compGo _ _ [29] _ (iV zs) (iV acc ++ [.int t]) _ Q
      rw [ea]
      refine up_go hs F Q zs (acc ++ [(t : Int)]) H' _ (fun z hz' => hz z (.tail _ hz')) (by rw [List.length_append]; show _ + 1 + _ ≤ _; omega) l1 g' (k.trans k') fun H'' lo'' g'' k'' => ?_
      have h := h H'' lo'' g'' k''
      rw [show upL X ((t : Int) :: zs) = (t : Int) :: upL X zs by unfold upL; rw [List.filter_cons, show (X ((t : Nat) : Int).toNat).up = true from e]; rfl, List.append_cons] at h
      exact h
    · refine up_go hs F Q zs acc H' _ (fun z hz' => hz z (.tail _ hz')) (by omega) l1 g' (k.trans k') fun H'' lo'' g'' k'' => ?_
      have h := h H'' lo'' g'' k''
      rw [show upL X ((t : Int) :: zs) = upL X zs by unfold upL; rw [List.filter_cons, show (X ((t : Nat) : Int).toNat).up = false from e]; rfl] at h
      exact h
theorem s10_w (c : C7 M fi f0) (g : G7 Y L M fi f0 S D W H U X) (l1 : lo 106 = some (.ref L.fk)) (l2 : lo 105 = some (.lst (iV fi)))
    (h : ∀ H', G7 Y L M fi f0 S D W H' U X → Keep L fi H H' → wpSs tb.P (CW tb.P (n + 3)) r ⟨H', upd lo 140 (.lst (iV (upL X fi)))⟩ Q E) : wpSs tb.P (CW tb.P (n + 3)) (.cons S_law_10 r) ⟨H, lo⟩ Q E := by
  have ll : fi.length ≤ 7 := (c.oth c.F.mem).1
  refine asg_i ?_
  refine need_ii (o := lo 105) l2 ?_
  refine up_go (v := .lst (iV fi)) (xs := iV fi) (fun _ => rfl) c.F _ fi [] H _ (fun z hz => hz) (by rw [List.length_nil]; omega) ?_ g (fun j c q _ _ _ _ => q) fun H' lo' g' k' => ?_
  · exact l1
  refine ⟨?_, h H' g' k'⟩
  show (iV (upL X fi)).length ≤ SZ
  have : (upL X fi).length ≤ fi.length := List.length_filter_le ..
  rw [iV_len]; unfold SZ; omega
end
end Mine

end

section
set_option autoImplicit false
set_option linter.all false
set_option genSizeOf false
set_option genInjectivity false
set_option maxRecDepth 20000
namespace Mine
open PySem (Str)
theorem notin_no {H : Hp} {l : List Int} {t : Int} {k : Bool → Prop} (ht : t ∉ l) (h : k true) : cmpK H .notIn (.int t) (.lst (iV l)) k := by
  refine need_ii (o := deepL (deepN H 11) (iV l)) (iV_deep l) ?_
  show k (!((iV l).any fun z => eqD z (.int t)))
  rw [no_iV ht]; exact h
theorem mV_deep10 {H : Hp} : ∀ row : List Msg, deepL (deepN H 10) (mV row) = some (mV row)
  | [] => rfl
  | m :: r => by
    show (match some m.v with | some y => (match deepL (deepN H 10) (mV r) with | some ys => some (y :: ys) | none => none) | none => none) = _
    rw [mV_deep10 r]; rfl
theorem tks_deep {H : Hp} {X : Nat → H7} : ∀ zs : List Int, deepL (deepN H 11) (zs.map (tkV X)) = some (zs.map (tkV X))
  | [] => rfl
  | z :: r => by
    show (match mL (deepL (deepN H 10) (mV (tk (X z.toNat)))) with | some y => (match deepL (deepN H 11) (r.map (tkV X)) with | some ys => some (y :: ys) | none => none) | none => none) = _
    rw [mV_deep10, tks_deep r]; rfl
theorem tks_eq {X : Nat → H7} : ∀ zs : List Int, eqDs (zs.map (tkV X)) (zs.map (tkV X)) = true
  | [] => rfl
  | z :: r => by
    show (eqDs (mV (tk (X z.toNat))) (mV (tk (X z.toNat))) && eqDs (r.map (tkV X)) (r.map (tkV X))) = true
    rw [eq_mV, tks_eq r]; rfl
theorem eq_tks {H : Hp} {X : Nat → H7} {zs : List Int} {ys : List V} {k : Bool → Prop} (hy : ys = zs.map (tkV X)) (h : k true) : cmpK H .eq (.lst (zs.map (tkV X))) (.lst ys) k := by
  subst hy
  have e : deep H (.lst (zs.map (tkV X))) = some (.lst (zs.map (tkV X))) := by show mL (deepL (deepN H 11) _) = _; rw [tks_deep]; rfl
  refine need_ii (o := deep H (.lst (zs.map (tkV X)))) e ?_
  refine need_ii (o := deep H (.lst (zs.map (tkV X)))) e ?_
  show k (eqDs (zs.map (tkV X)) (zs.map (tkV X)))
  rw [tks_eq]; exact h
theorem tks_rep {X : Nat → H7} {v : V} : ∀ {zs : List Int}, (∀ z ∈ zs, tkV X z = v) → repL [v] zs.length = zs.map (tkV X)
  | [], _ => rfl
  | z :: r, h => by
    show v :: repL [v] r.length = tkV X z :: r.map (tkV X)
    rw [tks_rep fun y hy => h y (.tail _ hy), h z (.head _)]
section
variable {n : Nat} {H : Hp} {lo : Loc} {Q : Flow → St → Prop} {E : EP} {M f0 : Nat} {fi : List Int} {L : Lay} {sd : Nat} {sl : Nat → Nat} {D W : Nat} {S : Nat → List Str} {X Y : Nat → H7}
theorem s12_w (c : C7 M fi f0) (hD : D ≤ 1000) (g : G7 Y L M fi f0 S D W H [] X) (e : End fi f0 true [] X) (l1 : lo 106 = some (.ref L.fk)) (l2 : lo 105 = some (.lst (iV fi))) (l5 : lo 140 = some (.lst (iV (upL X fi))))
    (h : ∀ σ, Q (.ret (.bool true)) σ) : wpSs tb.P (CW tb.P (n + 8)) (.cons S_law_12 .nil) ⟨H, lo⟩ Q E := by
  have ll : fi.length ≤ 7 := (c.oth c.F.mem).1
  have ul : (upL X fi).length ≤ fi.length := List.length_filter_le ..
  have sub : ∀ z ∈ upL X fi, z ∈ fi := fun z hz => (List.mem_filter.mp hz).1
  have al : ∀ z ∈ upL X fi, tkV X z = tkV X f0 := fun z hz => by
    obtain ⟨h1, h2⟩ := List.mem_filter.mp hz
    obtain ⟨t, et⟩ := c.F.nat z h1
    subst et
    have h2 : (X t).up = true := h2
    by_cases q : t = f0
    · rw [q]
    · have := e.2 rfl t h1 q h2
      have := Prod.mk.inj (show ((X t).row, (X t).took) = _ from this)
      show V.lst (mV ((X t).row.take (X t).took.toNat)) = V.lst (mV ((X f0).row.take (X f0).took.toNat))
      rw [this.1, this.2]
  show wpE tb.P (CW tb.P (n + 8)) E (.comp true eTak [29] (.loc 140) .none) ⟨H, lo⟩ _
  refine taks1 (n := n + 4) (l := 140) c hD l5 sub (by omega) l1 g fun H₁ g₁ k₁ => ?_
  show wpE tb.P (CW tb.P (n + 8)) E (.meth true (.loc 106) 98 (.cons (.idx (.loc 105) (.cst (.int 0))) .nil)) ⟨H₁, lo⟩ _
  refine meth_i (σ := ⟨H₁, lo⟩) l1 g₁.rep.fk m98 ?_
  refine need_ii (o := lo 105) l2 ?_
  refine c.at0 ?_
  have pr := (g.inv.pre f0 c.F.mem).length_le
  have ct := g.inv.ct
  refine taken_L (n := n + 4) (σ := ⟨H₁, lo⟩) g₁.rep c.F.mem (g.inv.tk0 f0 c.F.mem) (by unfold SZ; omega) fun H₂ r₂ k₂ => ?_
  refine ⟨ble_le rfl, ?_⟩
  refine need_ii (o := lo 140) l5 ?_
  have il : (iV (upL X fi)).length = (upL X fi).length := iV_len _
  refine ⟨⟨Int.natCast_nonneg _, show (((iV (upL X fi)).length : Nat) : Int) ≤ 1048576 by omega, show 1 * (iV (upL X fi)).length ≤ SZ by unfold SZ; omega⟩, ?_⟩
  have rp : repL [V.lst (mV ((X f0).row.take (X f0).took.toNat))] (iV (upL X fi)).length = (upL X fi).map (tkV X) := by rw [il]; exact tks_rep al
  refine ⟨show (repL [V.lst (mV ((X f0).row.take (X f0).took.toNat))] (iV (upL X fi)).length).length ≤ SZ by rw [rp, List.length_map]; unfold SZ; omega, ?_⟩
  refine Br_y rfl ?_
  refine eq_tks rp ?_
  exact h _
theorem ret_w (c : C7 M fi f0) (so : SOl L fi sd sl) (hD : D ≤ 1000) {U : List Letter} (g : G7 Y L M fi f0 S D W H U X) (s : SD H fi sd sl S D) (l1 : lo 106 = some (.ref L.fk)) (l2 : lo 105 = some (.lst (iV fi))) (l3 : lo 136 = some (.ref sd)) (l4 : lo 178 = some (.lst (fi.map (tkV Y)))) {Q : V → St → Prop} (h : ∀ H', G7 Y L M fi f0 S D W H' U X → SD H' fi sd sl S D → Q (.bool true) ⟨H', lo⟩) :
    wpE tb.P (CW tb.P (n + 8)) E (.call true (.glob 63) (.cons (.loc 106) (.cons (.loc 105) (.cons (.loc 136) (.cons (.loc 178) .nil))))) ⟨H, lo⟩ Q := by
  refine call_e g63 ?_
  refine need_ii (o := lo 106) l1 ?_
  refine need_ii (o := lo 105) l2 ?_
  refine need_ii (o := lo 136) l3 ?_
  refine need_ii (o := lo 178) l4 ?_
  refine right_G (n := n + 3) c so g s hD fun H₂ g₂ s₂ => ?_
  refine gv rfl ?_
  exact h H₂ g₂ s₂
theorem s11_w {b : Bool} (c : C7 M fi f0) (so : SOl L fi sd sl) (hD : D ≤ 1000) (g : G7 Y L M fi f0 S D W H [] X) (s : SD H fi sd sl S D) (e : End fi f0 b [] X) (l1 : lo 106 = some (.ref L.fk)) (l2 : lo 105 = some (.lst (iV fi))) (l3 : lo 136 = some (.ref sd)) (l4 : lo 178 = some (.lst (fi.map (tkV Y)))) (l5 : lo 140 = some (.lst (iV (upL X fi))))
    (h : ∀ σ, Q (.ret (.bool true)) σ) : wpSs tb.P (CW tb.P (n + 8)) (.cons S_law_11 (.cons S_law_12 .nil)) ⟨H, lo⟩ Q E := by
  show wpE tb.P (CW tb.P (n + 8)) E (.call true (.glob 63) (.cons (.loc 106) (.cons (.loc 105) (.cons (.loc 136) (.cons (.loc 178) .nil))))) ⟨H, lo⟩ _
  refine ret_w c so hD g s l1 l2 l3 l4 fun H₁ g₁ s₁ => ?_
  refine need_ii (o := lo 105) l2 ?_
  refine c.at0 ?_
  refine need_ii (o := lo 140) l5 ?_
  cases b with
  | false =>
    refine notin_no (fun z => ?_) ?_
    · have : (X f0).up = true := (List.mem_filter.mp z).2
      rw [e.1] at this; cases this
    show wpE tb.P (CW tb.P (n + 8)) E (.call true (.glob 63) (.cons (.loc 106) (.cons (.loc 105) (.cons (.loc 136) (.cons (.loc 178) .nil))))) ⟨H₁, lo⟩ _
    exact ret_w c so hD g₁ s₁ l1 l2 l3 l4 fun H₂ g₂ s₂ => h _
  | true =>
    refine notin_iV (List.mem_filter.mpr ⟨c.F.mem, e.1⟩) ?_
    refine need_ii (o := lo 140) l5 ?_
    refine ⟨.inl (by decide), ?_⟩
    refine need_ii (o := lo 105) l2 ?_
    refine Br_b (b := decide ((2 : Int) * ((iV (upL X fi)).length : Nat) ≤ ((iV fi).length : Nat))) (fun _ => ?_) fun _ => ?_
    · show wpE tb.P (CW tb.P (n + 8)) E (.call true (.glob 63) (.cons (.loc 106) (.cons (.loc 105) (.cons (.loc 136) (.cons (.loc 178) .nil))))) ⟨H₁, lo⟩ _
      exact ret_w c so hD g₁ s₁ l1 l2 l3 l4 fun H₂ g₂ s₂ => h _
    · exact s12_w c hD g₁ e l1 l2 l5 h
end
theorem f14 : tb.P.fn 14 = some F_law := by kernel_rfl
theorem main07 (is : List Int) {H : Hp} : CW tb.P 10 14 [.lst (is.map .int)] H (fun v _ => v = .bool true) (fun _ _ => False) := by
  refine call_i _ _ _ f14 rfl ?_
  refine s0_w (n := 8) (is := is) rfl fun M h0 hM => ?_
  refine s1_w (n := 8) (is := is) (M := M) hM rfl rfl fun zs H₁ z1 z2 => ?_
  refine s2_w (n := 8) h0 hM z1 z2 rfl rfl fun fi f0 lo c l1 l2 => ?_
  refine s3_w (n := 6) c h0 l1 (l2 28 (by decide)) fun H₂ R => ?_
  refine s456_w (n := 8) c R rfl l1 fun sd sl H₃ lo₃ so A e24 => ?_
  refine s7_w (n := 1) (is := is) c so (e24.trans (l2 24 (by decide))) A fun D W S U X H₄ lo₄ hD hW A₄ => ?_
  refine s89_w (n := 1) c so hD hW A₄ fun b X' H₅ g₅ s₅ e₅ => ?_
  refine s10_w (n := 6) c g₅ A₄.l1 A₄.l2 fun H₆ g₆ k₆ => ?_
  exact s11_w (n := 1) c so (by omega) g₆ (s₅.keep so k₆) e₅ A₄.l1 A₄.l2 A₄.l3 A₄.l4 rfl fun _ => rfl
end Mine

end

section
set_option autoImplicit false
namespace Mine
theorem main07' (is : List Int) : CW tb.P 10 14 [.lst (is.map V.int)] H0 (fun v _ => v = .bool true) (fun _ _ => False) := main07 is
end Mine

end

section
open PySem PySem.W PyProof.Rows
set_option maxRecDepth 100000
set_option maxHeartbeats 8000000
namespace Mine
theorem head07.tw3777715693858613939 : True := trivial
theorem head07.tw12853284936884539003 : True := trivial
theorem head07.tw349961600951134787 : True := trivial
theorem head07.tw8662551744007282942 : True := trivial
theorem head07.tw1873894234052334181 : True := trivial
theorem head07.tw11941126998557399354 : True := trivial
theorem head07.tw532812803345439959 : True := trivial
theorem head07.tw1102729862341038641 : True := trivial
theorem head07.tw3934968436162573876 : True := trivial
theorem head07.tw8598581671390916837 : True := trivial
theorem head07.tw4571003574821977870 : True := trivial
theorem head07.tw6532280622564697047 : True := trivial
theorem head07.tw16392195562484725759 : True := trivial
theorem head07.tw2528402444935561104 : True := trivial
theorem head07.tw13038644563523772352 : True := trivial
theorem head07.tw13286516696677445301 : True := trivial
theorem head07.tw2214582469842713622 : True := trivial
theorem head07.tw3058903993835955202 : True := trivial
theorem head07.tw17072362160142372888 : True := trivial
theorem head07.tw12867844227991297705 : True := trivial
theorem head07.tw14855863063849437960 : True := trivial
theorem head07.tw15410449364336805213 : True := trivial
theorem head07.tw16495079454355817899 : True := trivial
theorem head07.tw7490946810067213835 : True := trivial
theorem head07.tw15549925636476799323 : True := trivial
theorem head07.tw2920994767333311084 : True := trivial
theorem head07.tw4922745382644668497 : True := trivial
theorem head07.tw1497379714432121411 : True := trivial
theorem head07.tw16052550195526185602 : True := trivial
theorem head07.tw17259950862636618901 : True := trivial
theorem head07.tw15848456420465108793 : True := trivial
theorem head07.tw2324901369995330521 : True := trivial
theorem head07.tw2916432964399125115 : True := trivial
theorem head07.tw4484984309050037179 : True := trivial
theorem head07.tw8768333266147221089 : True := trivial
theorem head07.tw9879024805937186048 : True := trivial
theorem head07.tw2495497498929149901 : True := trivial
theorem head07.tw12518839949324075250 : True := trivial
theorem head07.tw4296872287911652955 : True := trivial
theorem head07.tw7891364398221616946 : True := trivial
theorem head07.tw3084860116454059019 : True := trivial
theorem head07.tw10795596848236421271 : True := trivial
theorem head07.tw7912614823607633356 : True := trivial
theorem head07.tw3957597782509884376 : True := trivial
theorem head07.tw5725903397800494482 : True := trivial
theorem head07.tw9867356686904509415 : True := trivial
theorem head07.tw6447744548760301665 : True := trivial
theorem head07.tw15447623372948532356 : True := trivial
theorem head07.tw4284277821424475700 : True := trivial
theorem head07.tw14883366313677140739 : True := trivial
theorem head07.tw9323747706991289149 : True := trivial
theorem head07.tw9927388122922352127 : True := trivial
theorem head07.tw6687366189424326064 : True := trivial
theorem head07.tw16633980360617765064 : True := trivial
theorem head07.tw12998099292737710502 : True := trivial
theorem head07.tw16143071580391231954 : True := trivial
theorem head07.tw9261151976780997676 : True := trivial
theorem head07.tw3058063519862217513 : True := trivial
theorem head07.tw7396157713094170384 : True := trivial
theorem head07.tw510066936616373335 : True := trivial
theorem head07.tw7048558885780115836 : True := trivial
theorem head07.tw6833122313547725443 : True := trivial
theorem head07.tw12961347834018916165 : True := trivial
theorem head07.tw14929217564249757606 : True := trivial
theorem head07.tw152236661030254231 : True := trivial
theorem head07.tw14200098306236357124 : True := trivial
theorem head07.tw5401200271248518519 : True := trivial
theorem head07.tw6764396142847346609 : True := trivial
theorem head07.tw8745032249970224641 : True := trivial
theorem head07.tw11650877358765905992 : True := trivial
theorem head07.tw957529302312569445 : True := trivial
theorem head07.tw1647106985476857279 : True := trivial
theorem head07.tw15262648593600515625 : True := trivial
theorem head07.tw18068937576992690007 : True := trivial
theorem head07.tw10835243289343935893 : True := trivial
theorem head07.tw5593218580078693202 : True := trivial
theorem head07.tw2608129887422302484 : True := trivial
theorem head07.tw15185523283860871994 : True := trivial
theorem head07.tw3121252569170764116 : True := trivial
theorem head07.tw10209097882669132690 : True := trivial
theorem head07.tw10118926170565645333 : True := trivial
theorem head07.tw5453251579502520628 : True := trivial
theorem head07.tw16777208899402460224 : True := trivial
theorem head07.tw16020786305850992195 : True := trivial
theorem head07.tw3272089399626297478 : True := trivial
theorem head07.tw1043118949946457604 : True := trivial
theorem head07.tw636883593018758693 : True := trivial
theorem head07.tw11211949913666610475 : True := trivial
theorem head07.tw9374117052106162119 : True := trivial
theorem head07.tw7975655219680393573 : True := trivial
theorem head07.tw5229472296522068386 : True := trivial
theorem head07.tw8417733048981102488 : True := trivial
theorem head07.tw5506289752303826826 : True := trivial
theorem head07.tw4525342026561482485 : True := trivial
theorem head07.tw696741914488400072 : True := trivial
theorem head07.tw15053940834447877032 : True := trivial
theorem head07.tw17563587245635349437 : True := trivial
theorem head07.tw13719162102197359521 : True := trivial
theorem head07.tw7761548864141224330 : True := trivial
theorem head07.tw13503876703457612201 : True := trivial
theorem head07.tw8536515710774060358 : True := trivial
theorem head07.tw16903728114071683924 : True := trivial
theorem head07.tw14445678023785703696 : True := trivial
theorem head07.tw6272923120053727361 : True := trivial
theorem head07.tw14182331835764416121 : True := trivial
theorem head07.tw9656562827719606502 : True := trivial
theorem head07.tw12103412649977375392 : True := trivial
theorem head07.tw12250546389019988070 : True := trivial
theorem head07.tw10188247527717161823 : True := trivial
theorem head07.tw12333754375377485909 : True := trivial
theorem head07.tw1104029790765762117 : True := trivial
theorem head07.tw5980400139703875327 : True := trivial
theorem head07.tw6630542827023734067 : True := trivial
theorem head07.tw13454904834222113413 : True := trivial
theorem head07.tw10612407673594870191 : True := trivial
theorem head07.tw14397090452465601614 : True := trivial
theorem head07.tw15967503726133045207 : True := trivial
theorem head07.tw4992814587316164028 : True := trivial
theorem head07.tw12868983069436887247 : True := trivial
theorem head07.tw11380527864068471525 : True := trivial
theorem head07.tw2157882429841243100 : True := trivial
theorem head07.tw6380708779958631893 : True := trivial
theorem head07.tw205573700947093062 : True := trivial
theorem head07.tw4350530438750311576 : True := trivial
theorem head07.tw14671070485887121954 : True := trivial
theorem head07.tw9853113045598022527 : True := trivial
theorem head07.tw7860156757036531276 : True := trivial
theorem head07.tw11356422029020782699 : True := trivial
theorem head07.tw9395550805622807276 : True := trivial
theorem head07.tw6990319840350045644 : True := trivial
theorem head07.tw11854760704033121917 : True := trivial
theorem head07.tw9181868207942064256 : True := trivial
theorem head07.tw8771984814579306342 : True := trivial
theorem head07.tw6905590514811146650 : True := trivial
theorem head07.tw3419711151459117086 : True := trivial
theorem head07.tw15196083985341286472 : True := trivial
theorem head07.tw8178093939624686148 : True := trivial
theorem head07.tw6676711538518513474 : True := trivial
theorem head07.tw15130001458818250979 : True := trivial
theorem head07.tw3312934391959293347 : True := trivial
theorem head07.tw4975881041432087018 : True := trivial
theorem head07.tw13050293439225515426 : True := trivial
theorem head07.tw2057154070929290268 : True := trivial
theorem head07.tw16593743916874339044 : True := trivial
theorem head07.tw6772259613245328969 : True := trivial
theorem head07.tw103210785105081613 : True := trivial
theorem head07.tw10887185708280894760 : True := trivial
theorem head07.tw17248732940859214032 : True := trivial
theorem head07.tw16214075942474368840 : True := trivial
theorem head07.tw4937639609751358190 : True := trivial
theorem head07.tw7907324605855696120 : True := trivial
theorem head07.tw1741999637401651292 : True := trivial
theorem head07.tw15048664599078055689 : True := trivial
theorem head07.tw14271334528970417778 : True := trivial
theorem head07.tw8764895948651045350 : True := trivial
theorem head07.tw5876657218378989092 : True := trivial
theorem head07.tw13243674560309269094 : True := trivial
theorem head07.tw14091239558550523828 : True := trivial
theorem head07.tw9534536505358957214 : True := trivial
theorem head07.tw8203216601044068593 : True := trivial
theorem head07.tw12804469056637291368 : True := trivial
theorem head07.tw4660061869040013802 : True := trivial
theorem head07.tw1852930882498995240 : True := trivial
theorem head07.tw17052253385437006283 : True := trivial
theorem head07.tw7911470680170508229 : True := trivial
theorem head07.tw5632774304512017315 : True := trivial
theorem head07.tw11676456915544894191 : True := trivial
theorem head07.tw6040286116483181647 : True := trivial
theorem head07.tw8114930424402465876 : True := trivial
theorem head07.tw17525147715239055941 : True := trivial
theorem head07.tw12534806848323621259 : True := trivial
theorem head07.tw1358740537659849491 : True := trivial
theorem head07.tw1743274224118788144 : True := trivial
theorem head07.tw87265034563468958 : True := trivial
theorem head07.tw12209596463457585891 : True := trivial
theorem head07.tw10494104480911286658 : True := trivial
theorem head07.tw14897714839491808963 : True := trivial
theorem head07.tw14625630862720296327 : True := trivial
theorem head07.tw13588608821972456143 : True := trivial
theorem head07.tw18221282847676861915 : True := trivial
theorem head07.tw10370358692450059269 : True := trivial
theorem head07.tw14747382001055632710 : True := trivial
theorem head07.tw6052155089818848380 : True := trivial
theorem head07.tw7801581828123040680 : True := trivial
theorem head07.tw4741071933295830958 : True := trivial
theorem head07.tw18344140388997193607 : True := trivial
theorem head07.tw17229985807468884459 : True := trivial
theorem head07.tw7562287273802181267 : True := trivial
theorem head07.tw9216565818028771943 : True := trivial
theorem head07.tw14888902381391104991 : True := trivial
theorem head07.tw15984457432714667950 : True := trivial
theorem head07.tw4274442928159105257 : True := trivial
theorem head07.tw2349353637215622201 : True := trivial
theorem head07.tw2223174662456037039 : True := trivial
theorem head07.tw3122617381382134108 : True := trivial
theorem head07.tw3229254876437155436 : True := trivial
theorem head07.tw2491206330776511529 : True := trivial
theorem head07.tw10821098465798180910 : True := trivial
theorem head07.tw10287746505924575024 : True := trivial
theorem head07.tw7240942195089202 : True := trivial
theorem head07.tw8666950310249890749 : True := trivial
theorem head07.tw16753507616260596774 : True := trivial
theorem head07.tw7696370756345498141 : True := trivial
theorem head07.tw8399145709281112310 : True := trivial
theorem head07.tw14479674071114546015 : True := trivial
theorem head07.tw90464965396928572 : True := trivial
theorem head07.tw903776364693583021 : True := trivial
theorem head07.tw112167882923370368 : True := trivial
theorem head07.tw11905903036482653867 : True := trivial
theorem head07.tw11508370337212347791 : True := trivial
theorem head07.tw18125269918548808661 : True := trivial
theorem head07.tw6967345787915020851 : True := trivial
theorem head07.tw6652712191929679816 : True := trivial
theorem head07.tw10696523998189113400 : True := trivial
theorem head07.tw7139601986386127864 : True := trivial
theorem head07.tw4956801049632392367 : True := trivial
theorem head07.tw17041837459278085047 : True := trivial
theorem head07.tw15342456535015810743 : True := trivial
theorem head07.tw13437722676009055692 : True := trivial
theorem head07.tw5711131375438246926 : True := trivial
theorem head07.tw16445665725378877857 : True := trivial
theorem head07.tw9586288097708777889 : True := trivial
theorem head07.tw17327288662494148817 : True := trivial
theorem head07.tw2405164555883468469 : True := trivial
theorem head07.tw8986126958466362705 : True := trivial
theorem head07.tw15379746599541475308 : True := trivial
theorem head07.tw9034267496411974838 : True := trivial
theorem head07.tw17262777090049747629 : True := trivial
theorem head07.tw1579196809366075820 : True := trivial
theorem head07.tw2793972267015743595 : True := trivial
theorem head07.tw11508709299247779595 : True := trivial
theorem head07.tw14397018001017004437 : True := trivial
theorem head07.tw14694955035362614078 : True := trivial
theorem head07.tw5423727595841397011 : True := trivial
theorem head07.tw10906419197310307352 : True := trivial
theorem head07.tw1463968260454247334 : True := trivial
theorem head07.tw18241511313088338764 : True := trivial
theorem head07.tw7857955010360625742 : True := trivial
theorem head07.tw3108419805418092083 : True := trivial
theorem head07.tw14433236370066988403 : True := trivial
theorem head07.tw16243342695480077740 : True := trivial
theorem head07.tw5828768065519394820 : True := trivial
theorem head07.tw1469645100736642790 : True := trivial
theorem head07.tw3344760562795858790 : True := trivial
theorem head07.tw7376316209953886093 : True := trivial
theorem head07.tw10736936701643626916 : True := trivial
theorem head07.tw5892436952794396790 : True := trivial
theorem head07.tw807246017571514002 : True := trivial
theorem head07.tw9483979379025918921 : True := trivial
theorem head07.tw14249442763630565411 : True := trivial
theorem head07.tw13249885193857772602 : True := trivial
theorem head07.tw7879635517675404517 : True := trivial
theorem head07.tw6536829124561037107 : True := trivial
theorem head07.tw5917756586206616662 : True := trivial
theorem head07.tw1066994069084009010 : True := trivial
theorem head07.tw6143360317130250276 : True := trivial
theorem head07.tw856581971301577187 : True := trivial
theorem head07.tw11134540464045912780 : True := trivial
theorem head07.tw4753787928335483713 : True := trivial
theorem head07.tw3955255909734820866 : True := trivial
theorem head07.tw10526512768957544735 : True := trivial
theorem head07.tw8455469372643438233 : True := trivial
theorem head07.tw7210957461624442805 : True := trivial
theorem head07.tw6242959214614756972 : True := trivial
theorem head07.tw11804021116397364628 : True := trivial
theorem head07.tw10274278213987668611 : True := trivial
theorem head07.tw5377946610671727161 : True := trivial
theorem head07.tw4578115905420892017 : True := trivial
theorem head07.tw5532805130590538677 : True := trivial
theorem head07.tw12963549339323796345 : True := trivial
theorem head07.tw17410074037796158543 : True := trivial
theorem head07.tw5594104224095347947 : True := trivial
theorem head07.tw2133502919749089516 : True := trivial
theorem head07.tw2989129965814785430 : True := trivial
theorem head07.tw4049142106149768831 : True := trivial
theorem head07.tw3035430687364144136 : True := trivial
theorem head07.tw3812092503237885966 : True := trivial
theorem head07.tw12793871728060206436 : True := trivial
theorem head07.tw11580024316824829243 : True := trivial
theorem head07.tw10731901532567657270 : True := trivial
theorem head07.tw12185389670563892223 : True := trivial
theorem head07.tw10810222410829279555 : True := trivial
theorem head07.tw9840187345030497264 : True := trivial
theorem head07.tw5038091159770859065 : True := trivial
theorem head07.tw6286844122777158933 : True := trivial
theorem head07.tw9524801494966992337 : True := trivial
theorem head07.tw15581562418223716553 : True := trivial
theorem head07.tw13117277540798074653 : True := trivial
theorem head07.tw16752020428230084858 : True := trivial
theorem head07.tw14362149683262375246 : True := trivial
theorem head07.tw8556600709471164970 : True := trivial
theorem head07.tw15201024723202212653 : True := trivial
theorem head07.tw7230561751465086298 : True := trivial
theorem head07.tw4256586691346901901 : True := trivial
theorem head07.tw4854129392431024432 : True := trivial
theorem head07.tw11037967610825234320 : True := trivial
theorem head07.tw4285672062619522942 : True := trivial
theorem head07.tw8293505719439646889 : True := trivial
theorem head07.tw6231394504550120946 : True := trivial
theorem head07.tw8021050540170484014 : True := trivial
theorem head07.tw8520239262576555042 : True := trivial
theorem head07.tw4010721401611239318 : True := trivial
theorem head07.tw9907326307145560194 : True := trivial
theorem head07.tw17301932635645058420 : True := trivial
theorem head07.tw12844837157807626257 : True := trivial
theorem head07.tw3424666680881643493 : True := trivial
theorem head07.tw1017028689801297875 : True := trivial
theorem head07.tw11214729440612704299 : True := trivial
theorem head07.tw8340433141518143445 : True := trivial
theorem head07.tw12806828766674267423 : True := trivial
theorem head07.tw12750643967103446767 : True := trivial
theorem head07.tw4514016565066279586 : True := trivial
theorem head07.tw3049061638999604238 : True := trivial
theorem head07.tw15467143714781192544 : True := trivial
theorem head07.tw1463350316003912355 : True := trivial
theorem head07.tw16041633362904538885 : True := trivial
theorem head07.tw16896070905703500387 : True := trivial
theorem head07.tw3507399423447066890 : True := trivial
theorem head07.tw5632301284938951508 : True := trivial
theorem head07.tw9164576260973531836 : True := trivial
theorem head07.tw6479825812982947662 : True := trivial
theorem head07.tw8727469042694418245 : True := trivial
theorem head07.tw12446216787626498246 : True := trivial
theorem head07.tw10557534172958121468 : True := trivial
theorem head07.tw10389656065465330835 : True := trivial
theorem head07.tw14770207842864693730 : True := trivial
theorem head07.tw8316572161312013023 : True := trivial
theorem head07.tw9207976869137373865 : True := trivial
theorem head07.tw5997872799731874082 : True := trivial
theorem head07.tw10931051480882653422 : True := trivial
theorem head07.tw15507335457946788868 : True := trivial
theorem head07.tw5454535668319222958 : True := trivial
theorem head07.tw12656011077141904722 : True := trivial
theorem head07.tw6865224636411108093 : True := trivial
theorem head07.tw4175742378375300067 : True := trivial
theorem head07.tw11433978488120525116 : True := trivial
theorem head07.tw8834187531423143654 : True := trivial
theorem head07.tw10063909344490167837 : True := trivial
theorem head07.tw13023574672049314518 : True := trivial
theorem head07.tw929828609032967521 : True := trivial
theorem head07.tw4453706976423255603 : True := trivial
theorem head07.tw5255619432222027034 : True := trivial
theorem head07.tw4983693995454794060 : True := trivial
theorem head07.tw4365618130213906989 : True := trivial
theorem head07.tw14055130734891072395 : True := trivial
theorem head07.tw3667185386610959463 : True := trivial
theorem head07.tw901273898275174909 : True := trivial
theorem head07.tw5768081035458436393 : True := trivial
theorem head07.tw11446273208048088056 : True := trivial
theorem head07.tw12088636758315094665 : True := trivial
theorem head07.tw10062255250881236530 : True := trivial
theorem head07.tw6256004410390777055 : True := trivial
theorem head07.tw9084505370283123389 : True := trivial
theorem head07.tw16673554424696459248 : True := trivial
theorem head07.tw9841580326304343070 : True := trivial
theorem head07.tw14581532486476482909 : True := trivial
theorem head07.tw2611205665572451922 : True := trivial
theorem head07.tw8834774129693325461 : True := trivial
theorem head07.tw5228818258154655182 : True := trivial
theorem head07.tw202254773974778759 : True := trivial
theorem head07.tw2614086832960230327 : True := trivial
theorem head07.tw12997598186108431846 : True := trivial
theorem head07.tw7758910882260830039 : True := trivial
theorem head07.tw3890788061483422907 : True := trivial
theorem head07.tw17274009095462407320 : True := trivial
theorem head07.tw5085118992743723031 : True := trivial
theorem head07.tw7431003272155190275 : True := trivial
theorem head07.tw11306603937518366886 : True := trivial
theorem head07.tw10536817831385418637 : True := trivial
theorem head07.tw6036491351062110213 : True := trivial
theorem head07.tw2117560664039974955 : True := trivial
theorem head07.tw16989359285094771823 : True := trivial
theorem head07.tw7026240575522555903 : True := trivial
theorem head07.tw10358142440026012463 : True := trivial
theorem head07.tw9352349267579131364 : True := trivial
theorem head07.tw10511539979778718954 : True := trivial
theorem head07.tw7727600049936030250 : True := trivial
theorem head07.tw12040760264442535414 : True := trivial
theorem head07.tw8560424469685822600 : True := trivial
theorem head07.tw11833641990448395971 : True := trivial
theorem head07.tw1261525155850445001 : True := trivial
theorem head07.tw13254094156739691332 : True := trivial
theorem head07.tw10071619592525829638 : True := trivial
theorem head07.tw10262983093684677130 : True := trivial
theorem head07.tw4530084831821670786 : True := trivial
theorem head07.tw1477035878200218508 : True := trivial
theorem head07.tw10444387712562061885 : True := trivial
theorem head07.tw403492730581366496 : True := trivial
theorem head07.tw14929622818713006150 : True := trivial
theorem head07.tw10382818975835956563 : True := trivial
theorem head07.tw17858831796719281931 : True := trivial
theorem head07.tw5696935253051337416 : True := trivial
theorem head07.tw1841262933913179441 : True := trivial
theorem head07.tw9985437275090746530 : True := trivial
theorem head07.tw10849444702671002059 : True := trivial
theorem head07.tw9858805504678583284 : True := trivial
theorem head07.tw16690851202615127338 : True := trivial
theorem head07.tw14836483524681261479 : True := trivial
theorem head07.tw9470486288762593892 : True := trivial
theorem head07.tw12271162399522113251 : True := trivial
theorem head07.tw10129212812040666200 : True := trivial
theorem head07.tw9141293577921005382 : True := trivial
theorem head07.tw8516152990835446397 : True := trivial
theorem head07.tw4777685682551137006 : True := trivial
theorem head07.tw11622602801762191050 : True := trivial
theorem head07.tw1987086903392631093 : True := trivial
theorem head07.tw7651476923705678753 : True := trivial
theorem head07.tw16986707604182986002 : True := trivial
theorem head07.tw12357033435900585506 : True := trivial
theorem head07.tw10936303282085816311 : True := trivial
theorem head07.tw12272860896774250225 : True := trivial
theorem head07.tw7574463330041824041 : True := trivial
theorem head07.tw12237369946179648514 : True := trivial
theorem head07.tw9730456917655451849 : True := trivial
theorem head07.tw1457228222916360128 : True := trivial
theorem head07.tw6357029834661182794 : True := trivial
theorem head07.tw16471426008298086501 : True := trivial
theorem head07.tw10876556791296843411 : True := trivial
theorem head07.tw1983920654814409370 : True := trivial
theorem head07.tw5038345023941295367 : True := trivial
theorem head07.tw642324100013747817 : True := trivial
theorem head07.tw7748439432716502096 : True := trivial
theorem head07.tw8461883394081425113 : True := trivial
theorem head07.tw10463815254277974119 : True := trivial
theorem head07.tw10475027739635844372 : True := trivial
theorem head07.tw9429262880096388843 : True := trivial
theorem head07.tw17854824762152425297 : True := trivial
theorem head07.tw9684754342824845923 : True := trivial
theorem head07.tw1197865196467900844 : True := trivial
theorem head07.tw5396103563073617713 : True := trivial
theorem head07.tw17812819840370562069 : True := trivial
theorem head07.tw8513369202397825176 : True := trivial
theorem head07.tw15418081771627499996 : True := trivial
theorem head07.tw13747546036295451392 : True := trivial
theorem head07.tw15985649520034911885 : True := trivial
theorem head07.tw18259992146526691212 : True := trivial
theorem head07.tw16644200824491608417 : True := trivial
theorem head07.tw15546338482388873711 : True := trivial
theorem head07.tw9987439474520671683 : True := trivial
theorem head07.tw7522399311559870206 : True := trivial
theorem head07.tw13776426638091046356 : True := trivial
theorem head07.tw13773618162256368596 : True := trivial
theorem head07.tw9774661280457042140 : True := trivial
theorem head07.tw7327974087552612621 : True := trivial
theorem head07.tw534388832475293818 : True := trivial
theorem head07.tw9623306392298621722 : True := trivial
theorem head07.tw11286790508107074453 : True := trivial
theorem head07.tw1578989160207064115 : True := trivial
theorem head07.tw16560601163790763632 : True := trivial
theorem head07.tw14390749688158999284 : True := trivial
theorem head07.tw2218890705950328909 : True := trivial
theorem head07.tw17365961800507658233 : True := trivial
theorem head07.tw18375202481936657371 : True := trivial
theorem head07.tw283684070710819705 : True := trivial
theorem head07.tw7218447858381378995 : True := trivial
theorem head07.tw943957116078358649 : True := trivial
theorem head07.tw16191408874987299824 : True := trivial
theorem head07.tw17430699679377664593 : True := trivial
theorem head07.tw15614520837139586406 : True := trivial
theorem head07.tw5490070487430588463 : True := trivial
theorem head07.tw17533410535866394385 : True := trivial
theorem head07.tw1235967927328933823 : True := trivial
theorem head07.tw9311582593556519868 : True := trivial
theorem head07.tw18105070770476200837 : True := trivial
theorem head07.tw5641745072638973882 : True := trivial
theorem head07.tw11964303861604436714 : True := trivial
theorem head07.tw8284772518960647766 : True := trivial
theorem head07.tw9398916738196044201 : True := trivial
theorem head07.tw9073059667101555362 : True := trivial
theorem head07.tw15403304471508412868 : True := trivial
theorem head07.tw10989182933590332832 : True := trivial
theorem head07.tw2678407251613583314 : True := trivial
theorem head07.tw9186702599729281745 : True := trivial
theorem head07.tw6971946041224405457 : True := trivial
theorem head07.tw10096932891971239387 : True := trivial
theorem head07.tw8197574245489965673 : True := trivial
theorem head07.tw3474687732116467530 : True := trivial
theorem head07.tw6937614312512710894 : True := trivial
theorem head07.tw8174843958807184855 : True := trivial
theorem head07.tw18006870530273479825 : True := trivial
theorem head07.tw16997501144983248621 : True := trivial
theorem head07.tw2689223334558676684 : True := trivial
theorem head07.tw13703052868765049371 : True := trivial
theorem head07.tw8033053636395730775 : True := trivial
theorem head07.tw14664616573975689414 : True := trivial
theorem head07.tw8024061813247733178 : True := trivial
theorem head07.tw17717168871857157453 : True := trivial
theorem head07.tw15979822685577191819 : True := trivial
theorem head07.tw4603914405196958156 : True := trivial
theorem head07.tw4255010044776401817 : True := trivial
theorem head07.tw4453903592115417310 : True := trivial
theorem head07.tw10483343305002517587 : True := trivial
theorem head07.tw10512892135310042121 : True := trivial
theorem head07.tw2962612279489059236 : True := trivial
theorem head07.tw1742863017927965450 : True := trivial
theorem head07.tw1031150522220184756 : True := trivial
theorem head07.tw13591702665334322853 : True := trivial
theorem head07.tw8588638957433442058 : True := trivial
theorem head07.tw12219576094597585641 : True := trivial
theorem head07.tw3226546298142199698 : True := trivial
theorem head07.tw2514656464752129949 : True := trivial
theorem head07.tw3580091978388539988 : True := trivial
theorem head07.tw6571388395845743964 : True := trivial
theorem head07.tw13263278965690519303 : True := trivial
theorem head07.tw13991741292549697947 : True := trivial
theorem head07.tw9160882497969416230 : True := trivial
theorem head07.tw10889326361869295380 : True := trivial
theorem head07.tw2621063719288362161 : True := trivial
theorem head07.tw4674167382716434878 : True := trivial
theorem head07.tw5650719637026786888 : True := trivial
theorem head07.tw18115833785104127611 : True := trivial
theorem head07.tw1279538481241091613 : True := trivial
theorem head07.tw16009197836010716674 : True := trivial
theorem head07.tw17414320569270263294 : True := trivial
theorem head07.tw6710797096810869340 : True := trivial
theorem head07.tw17579076724427569893 : True := trivial
theorem head07.tw10513273049054236298 : True := trivial
theorem head07.tw2888798514122390919 : True := trivial
theorem head07.tw8525461723355266596 : True := trivial
theorem head07.tw484607804979023910 : True := trivial
theorem head07.tw1515196865169584403 : True := trivial
theorem head07.tw11810528256638149473 : True := trivial
theorem head07.tw13980598241058711060 : True := trivial
theorem head07.tw16946118379220841331 : True := trivial
theorem head07.tw5396416626717491809 : True := trivial
theorem head07.tw4085920094914642840 : True := trivial
theorem head07.tw8045875090499657276 : True := trivial
theorem head07.tw5575188730349428771 : True := trivial
theorem head07.tw9371845518355158565 : True := trivial
theorem head07.tw5423941135082739240 : True := trivial
theorem head07.tw16555304038806156785 : True := trivial
theorem head07.tw8337779933551328028 : True := trivial
theorem head07.tw12755245880278476816 : True := trivial
theorem head07.tw9840596698186113304 : True := trivial
theorem head07.tw13254518041054904759 : True := trivial
theorem head07.tw1185410362804294647 : True := trivial
theorem head07.tw13892862218021832520 : True := trivial
theorem head07.tw7305499096359377901 : True := trivial
theorem head07.tw14676588543352448426 : True := trivial
theorem head07.tw3082712954754816396 : True := trivial
theorem head07.tw2754802507011893558 : True := trivial
theorem head07.tw9619843919691698355 : True := trivial
theorem head07.tw15189135261275485916 : True := trivial
theorem head07.tw16403811311986139561 : True := trivial
theorem head07.tw11458265242103938123 : True := trivial
theorem head07.tw10108846489665673711 : True := trivial
theorem head07.tw18439310277136565412 : True := trivial
theorem head07.tw14228055376573156511 : True := trivial
theorem head07.tw6023109842059528933 : True := trivial
theorem head07.tw652862787162219985 : True := trivial
theorem head07.tw5637854882389409109 : True := trivial
theorem head07.tw6160748063553443811 : True := trivial
theorem head07.tw444306245329602510 : True := trivial
theorem head07.tw7116945213135394961 : True := trivial
theorem head07.tw17144739987105427165 : True := trivial
theorem head07.tw9089272122596708159 : True := trivial
theorem head07.tw14911429626592176048 : True := trivial
theorem head07.tw6198132333284121750 : True := trivial
theorem head07.tw12497363399599576867 : True := trivial
theorem head07.tw4564251674767552868 : True := trivial
theorem head07.tw9113749856682389765 : True := trivial
theorem head07.tw5077171847572884541 : True := trivial
theorem head07.tw10307972520391630530 : True := trivial
theorem head07.tw16725571404429112560 : True := trivial
theorem head07.tw10035233581041105034 : True := trivial
theorem head07.tw144804131185016523 : True := trivial
theorem head07.tw15012621571494573790 : True := trivial
theorem head07.tw7080987665176233757 : True := trivial
theorem head07.tw4944959293240425539 : True := trivial
theorem head07.tw1004734653147633176 : True := trivial
theorem head07.tw14985633082911642523 : True := trivial
theorem head07.tw2454452448180709221 : True := trivial
theorem head07.tw3378873167562490384 : True := trivial
theorem head07.tw12280800253706690235 : True := trivial
theorem head07.tw16991808441851860910 : True := trivial
theorem head07.tw8391260371569062303 : True := trivial
theorem head07.tw4639377228860879750 : True := trivial
theorem head07.tw4587166366045609915 : True := trivial
theorem head07.tw4048906727010559758 : True := trivial
set_option Elab.async true in
theorem head07 : PySem.Challenge.rw_uf020034_07.Holds := by
  w_on; o_law; k_head; (case hw => w_witness2)
  intro w s₀ s₁ mg mb G Y fa o pm cd doc dV kV ho hd hcd hD hmg hg args vals as hpre hlay hrd hwl hlo
  have KX := kIn_of Y
  refine Ground.open G ?_
  intro T B D TE TW
  wrow_args hpre hlay hrd hwl hlo
  exact law_end (t := tb) (k := 14) T KX (by decide +kernel) (by kernel_rfl) (by kernel_rfl) (by decide +kernel) hg "law" rfl (by kernel_rfl) hmg (by assumption) (by assumption) (fun _ => rfl) (by wrow_post) 10 ⟨by decide, by decide⟩ (fun is _ => main07' is)
end Mine
end
theorem PySem.Challenge.cw_uf020034_07_holds : PySem.Challenge.rw_uf020034_07.Holds := by
  exact Mine.head07
