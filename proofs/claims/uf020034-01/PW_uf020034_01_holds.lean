import PyProof.Rows.All
import Wide.All
import OpenK.AllK
import Wide.FinOn
import PySem.Challenge.RW_uf020034_01
set_option autoImplicit false
set_option linter.all false
set_option Elab.async false

section
namespace Mine
open PySem (Str)

/-! Abstract values, cells, heaps. -/
inductive B where
  | int | bool | list | tuple | str | valueError | range | set | enumerate
  | len | isinstance | max | min | sorted
  deriving DecidableEq

inductive V where
  | none
  | bool (b : Bool)
  | int (i : Int)
  | str (s : Str)
  | tup (xs : List V)
  | lst (xs : List V)
  | set (xs : List Int)
  | rng (a b c : Int)
  | ref (i : Nat)
  | bt (b : B)
  | fn (k : Nat)
  | cls (k : Nat)

inductive C where
  | list (xs : List V)
  | dict (kvs : List (V × V))
  | inst (k : Nat) (fs : List (Nat × V))
  | exc (k : Nat)

structure Hp where
  next : Nat
  get : Nat → Option C

noncomputable def Hp.set (H : Hp) (i : Nat) (c : C) : Hp := ⟨H.next, fun j => if j = i then some c else H.get j⟩
noncomputable def Hp.new (H : Hp) (c : C) : Hp := ⟨H.next + 1, fun j => if j = H.next then some c else H.get j⟩
noncomputable def Hp.del (H : Hp) (i : Nat) : Hp := ⟨H.next, fun j => if j = i then none else H.get j⟩

noncomputable abbrev Loc := Nat → Option V
noncomputable def upd (m : Loc) (i : Nat) (v : V) : Loc := fun j => if j = i then some v else m j
noncomputable def unb (m : Loc) (i : Nat) : Loc := fun j => if j = i then none else m j

structure St where
  H : Hp
  loc : Loc

inductive Flow where
  | next | brk | cont
  | ret (v : V)

noncomputable def lkp (fs : List (Nat × V)) (n : Nat) : Option V := match fs with
  | [] => none
  | (k, v) :: r => if k = n then some v else lkp r n
noncomputable def setL (fs : List (Nat × V)) (n : Nat) (v : V) : List (Nat × V) := match fs with
  | [] => [(n, v)]
  | (k, w) :: r => if k = n then (k, v) :: r else (k, w) :: setL r n v

/-- the largest size of a list, a text, a dict -/
noncomputable def SZ : Nat := 1048576

/-! Data: resolving list references, to a depth. -/
noncomputable def deepL (f : V → Option V) : List V → Option (List V)
  | [] => some []
  | x :: r => match f x with
    | some y => (match deepL f r with | some ys => some (y :: ys) | none => none)
    | none => none
noncomputable def deepN (H : Hp) : Nat → V → Option V
  | _, .none => some .none
  | _, .bool b => some (.bool b)
  | _, .int i => some (.int i)
  | _, .str s => some (.str s)
  | n + 1, .tup xs => (match deepL (deepN H n) xs with | some ys => some (.tup ys) | none => none)
  | n + 1, .lst xs => (match deepL (deepN H n) xs with | some ys => some (.lst ys) | none => none)
  | n + 1, .ref i => (match H.get i with
    | some (.list xs) => (match deepL (deepN H n) xs with | some ys => some (.lst ys) | none => none)
    | _ => none)
  | _, _ => none
noncomputable def deep (H : Hp) (v : V) : Option V := deepN H 12 v

mutual
noncomputable def eqD : V → V → Bool
  | .none, .none => true
  | .bool a, .bool b => a == b
  | .int a, .int b => decide (a = b)
  | .bool a, .int b => decide ((if a then 1 else 0) = b)
  | .int a, .bool b => decide (a = (if b then 1 else 0))
  | .str a, .str b => decide (a = b)
  | .tup a, .tup b => eqDs a b
  | .lst a, .lst b => eqDs a b
  | _, _ => false
noncomputable def eqDs : List V → List V → Bool
  | [], [] => true
  | a :: r, b :: t => eqD a b && eqDs r t
  | _, _ => false
end

noncomputable def eqV (H : Hp) (a b : V) : Option Bool := match deep H a, deep H b with
  | some x, some y => some (eqD x y)
  | _, _ => none

noncomputable def asList (H : Hp) : V → Option (List V)
  | .lst xs => some xs
  | .ref i => match H.get i with | some (.list xs) => some xs | _ => none
  | _ => none

noncomputable def truth (H : Hp) : V → Option Bool
  | .none => some false
  | .bool b => some b
  | .int i => some (decide (i ≠ 0))
  | .str s => some (decide (s.length ≠ 0))
  | .tup xs => some (!xs.isEmpty)
  | .lst xs => some (!xs.isEmpty)
  | .ref i => match H.get i with
    | some (.list xs) => some (!xs.isEmpty)
    | _ => none
  | _ => none

/-- lexicographic < on pairs of ints -/
noncomputable def ltV : V → V → Option Bool
  | .int a, .int b => some (decide (a < b))
  | _, _ => none
noncomputable def leV : V → V → Option Bool
  | .int a, .int b => some (decide (a ≤ b))
  | _, _ => none

noncomputable def rngN (a b c : Int) : Nat := if c = 1 then (b - a).toNat else if c = -1 then (a - b).toNat else 0
noncomputable def rngL (a c : Int) : Nat → List V
  | 0 => []
  | n + 1 => .int a :: rngL (a + c) c n

/-- the items that a loop over a value sees -/
noncomputable def items (H : Hp) : V → Option (List V)
  | .lst xs => some xs
  | .tup xs => some xs
  | .rng a b c => some (rngL a c (rngN a b c))
  | .ref i => match H.get i with
    | some (.list xs) => some xs
    | some (.dict _) => none
    | _ => none
  | _ => none

noncomputable def anyEq (H : Hp) (x : V) (xs : List V) : Option Bool := match deep H x, deepL (deepN H 11) xs with
  | some y, some ys => some (ys.any fun z => eqD z y)
  | _, _ => none

noncomputable def keyOk : V → Bool
  | .int _ | .str _ => true
  | _ => false
noncomputable def dGet (kvs : List (V × V)) (k : V) : Option V := match kvs with
  | [] => none
  | (a, v) :: r => if eqD a k then some v else dGet r k
noncomputable def dSet (kvs : List (V × V)) (k v : V) : List (V × V) := match kvs with
  | [] => [(k, v)]
  | (a, w) :: r => if eqD a k then (a, v) :: r else (a, w) :: dSet r k v

noncomputable def isIn (H : Hp) (x : V) : V → Option Bool
  | .lst xs => anyEq H x xs
  | .tup xs => anyEq H x xs
  | .rng _ _ _ => none
  | .ref i => match H.get i with
    | some (.list xs) => anyEq H x xs
    | some (.dict _) => none
    | _ => none
  | _ => none

/-- things that are looked at as objects -/
noncomputable def solid : V → Bool
  | .none | .bool _ | .int _ | .str _ | .tup _ | .lst _ | .ref _ => true
  | _ => false
noncomputable def isNone : V → Bool
  | .none => true
  | _ => false
noncomputable def isB (c : Bool) : V → Bool
  | .bool d => d == c
  | _ => false
noncomputable def isSame (a b : V) : Option Bool := match b with
  | .none => if solid a then some (isNone a) else none
  | .bool c => if solid a then some (isB c a) else none
  | _ => none

inductive BOp where
  | add | sub | mul | fdiv | mod | pow | bor
inductive COp where
  | eq | ne | lt | le | gt | ge | isIn | notIn | is | isNot

noncomputable def cmpV (H : Hp) : COp → V → V → Option Bool
  | .eq, a, b => eqV H a b
  | .ne, a, b => match eqV H a b with | some r => some (!r) | none => none
  | .lt, a, b => ltV a b
  | .le, a, b => leV a b
  | .gt, a, b => ltV b a
  | .ge, a, b => leV b a
  | .isIn, a, b => isIn H a b
  | .notIn, a, b => match isIn H a b with | some r => some (!r) | none => none
  | .is, a, b => isSame a b
  | .isNot, a, b => match isSame a b with | some r => some (!r) | none => none

/-- insertion into a strictly rising list -/
noncomputable def insS (x : Int) : List Int → List Int
  | [] => [x]
  | y :: r => if x < y then x :: y :: r else if x = y then y :: r else y :: insS x r
noncomputable def mkSet : List Int → List Int
  | [] => []
  | x :: r => insS x (mkSet r)
/-- insertion into a rising list (sorting) -/
noncomputable def ins (x : Int) : List Int → List Int
  | [] => [x]
  | y :: r => if x ≤ y then x :: y :: r else y :: ins x r
noncomputable def srt : List Int → List Int
  | [] => []
  | x :: r => ins x (srt r)

noncomputable def intsOf : List V → Option (List Int)
  | [] => some []
  | .int i :: r => match intsOf r with | some l => some (i :: l) | none => none
  | _ => none

noncomputable def repL (xs : List V) : Nat → List V
  | 0 => []
  | n + 1 => xs ++ repL xs n
noncomputable def repS (s : Str) : Nat → Str
  | 0 => Str.empty
  | n + 1 => s ++ repS s n

inductive LV where
  | val (v : V)
  | newList (xs : List V)

noncomputable def intV (f : Int → Int → Option LV) : V → V → Option LV
  | .int a, .int b => f a b
  | _, _ => none
noncomputable def addV (H : Hp) (x y : V) : Option LV := match x with
  | .int a => (match y with | .int b => some (.val (.int (a + b))) | _ => none)
  | .str a => (match y with | .str b => if a.length + b.length ≤ SZ then some (.val (.str (a ++ b))) else none | _ => none)
  | x => match asList H x with
    | some xs => (match asList H y with | some ys => some (.newList (xs ++ ys)) | none => none)
    | none => none
noncomputable def binV (H : Hp) (op : BOp) (x y : V) : Option LV := match op with
  | .add => addV H x y
  | .sub => intV (fun a b => some (.val (.int (a - b)))) x y
  | .mul => intV (fun a b => if a.natAbs < 4611686018427387904 ∨ b.natAbs < 4611686018427387904 then some (.val (.int (a * b))) else none) x y
  | .fdiv => intV (fun a b => if b = 0 ∨ 1073741824 ≤ b.natAbs then none else some (.val (.int (Int.fdiv a b)))) x y
  | .mod => intV (fun a b => if b = 0 then none else some (.val (.int (Int.fmod a b)))) x y
  | .pow => intV (fun a b => if 0 ≤ b ∧ b ≤ 64 ∧ 0 ≤ a ∧ a ≤ 16 then some (.val (.int (a ^ b.toNat))) else none) x y
  | .bor => none

noncomputable def pyIdx (i : Int) (n : Nat) : Option Nat := if 0 ≤ i then (if i < n then some i.toNat else none) else (if 0 ≤ i + n then some (i + n).toNat else none)

noncomputable def idxV (H : Hp) : V → V → Option V
  | .lst xs, .int i => match pyIdx i xs.length with | some k => xs[k]? | none => none
  | .tup xs, .int i => match pyIdx i xs.length with | some k => xs[k]? | none => none
  | .str s, .int i => if 0 ≤ i then (match s.cps[i.toNat]? with | some c => some (.str ⟨#[c]⟩) | none => none) else none
  | .ref r, k => match H.get r with
    | some (.list xs) => (match k with | .int i => (match pyIdx i xs.length with | some k => xs[k]? | none => none) | _ => none)
    | some (.dict _) => none
    | _ => none
  | _, _ => none

/-- slices with bounds that are not negative -/
noncomputable def slL (xs : List V) (lo hi : Option Int) : List V :=
  match lo, hi with
  | none, none => xs
  | some a, none => xs.drop a.toNat
  | none, some b => xs.take b.toNat
  | some a, some b => (xs.drop a.toNat).take (b.toNat - a.toNat)
noncomputable def notNeg : Option Int → Bool
  | none => true
  | some i => decide (0 ≤ i)

noncomputable def optInt : Option V → Option (Option Int)
  | none => some none
  | some (.int i) => some (some i)
  | some _ => none

noncomputable def slV (H : Hp) (v : V) (lo hi : Option Int) : Option LV := match v with
  | .tup _ => none
  | v => match asList H v with
    | some xs => if notNeg lo && notNeg hi then some (.newList (slL xs lo hi)) else none
    | none => none

/-- kinds, for isinstance -/
inductive Kd where
  | none | bool | int | str | tuple | list | dict | set | range | inst (k : Nat) | exc (k : Nat) | type | fn
noncomputable def kind (H : Hp) : V → Option Kd
  | .none => some .none
  | .bool _ => some .bool
  | .int _ => some .int
  | .str _ => some .str
  | .tup _ => some .tuple
  | .lst _ => some .list
  | .set _ => some .set
  | .rng _ _ _ => some .range
  | .ref i => match H.get i with
    | some (.list _) => some .list
    | some (.dict _) => some .dict
    | some (.inst k _) => some (.inst k)
    | some (.exc k) => some (.exc k)
    | none => none
  | .bt _ | .cls _ | .fn _ => none

/-! The program text without places. fz: a list made here is never changed. -/
set_option genSizeOf false
set_option genInjectivity false
mutual
inductive PE where
  | cst (v : V)
  | loc (i : Nat)
  | glob (i : Nat)
  | attr (e : PE) (n : Nat)
  | bin (fz : Bool) (op : BOp) (l r : PE)
  | neg (e : PE)
  | not (e : PE)
  | cmp (op : COp) (l r : PE)
  | cmp2 (op₁ op₂ : COp) (a b c : PE)
  | and (es : PEs)
  | or (es : PEs)
  | ite (t : PC) (a b : PE)
  | list (fz : Bool) (es : PEs)
  | tup (es : PEs)
  | dict (kvs : PKV)
  | idx (e i : PE)
  | sl (fz : Bool) (e : PE) (lo hi : PEo)
  | rev (fz : Bool) (e : PE)
  | call (fz : Bool) (f : PE) (as : PEs)
  | sortedRev (fz : Bool) (e : PE)
  | meth (fz : Bool) (o : PE) (n : Nat) (as : PEs)
  | comp (fz : Bool) (elt : PE) (ts : List Nat) (it : PE) (cond : PCo)
inductive PEs where
  | nil
  | cons (e : PE) (r : PEs)
inductive PEo where
  | none
  | some (e : PE)
inductive PKV where
  | nil
  | cons (k v : PE) (r : PKV)
/-- tests -/
inductive PC where
  | e (e : PE)
  | not (c : PC)
  | and (cs : PCs)
  | or (cs : PCs)
inductive PCs where
  | nil
  | cons (c : PC) (r : PCs)
inductive PCo where
  | none
  | some (c : PC)
end

inductive PT where
  | loc (i : Nat)
  | attr (o : PE) (n : Nat)
  | idx (o i : PE)
  | tup (is : List Nat)

mutual
inductive PS where
  | expr (e : PE)
  | pass
  | assign (t : PT) (e : PE)
  | augLoc (i : Nat) (op : BOp) (e : PE)
  | augAttr (o : PE) (n : Nat) (op : BOp) (e : PE)
  | ret (e : PEo)
  | ite (t : PC) (a b : PSs)
  | loop (ts : List Nat) (it : PE) (body : PSs)
  | loopEnum (i x : Nat) (it : PE) (body : PSs)
  | while_ (t : PC) (body : PSs)
  | raise (k : Nat)
  | try_ (body : PSs) (k : Nat) (as : Option Nat) (h : PSs)
inductive PSs where
  | nil
  | cons (s : PS) (r : PSs)
end

structure Fn where
  params : List Nat
  body : PSs
structure Cl where
  init : Option Nat
  meths : List (Nat × Nat)
  attrs : List Nat
structure Prog where
  fn : Nat → Option Fn
  cls : Nat → Option Cl
  glob : Nat → Option V
  /-- class k is (a subclass of) class j; both exceptions of the text's own -/
  sub : Nat → Nat → Bool
  /-- names of built-in methods -/
  nAppend : Nat
  nPop : Nat
  nExtend : Nat
  nGet : Nat
  nSetdefault : Nat

noncomputable def mlk (l : List (Nat × Nat)) (n : Nat) : Option Nat := match l with
  | [] => none
  | (k, v) :: r => if k = n then some v else mlk r n

noncomputable def bKd : B → Option Kd
  | .int => some .int
  | .bool => some .bool
  | .str => some .str
  | .list => some .list
  | .tuple => some .tuple
  | _ => none
/-- the kinds of data, numbered -/
noncomputable def kNo : Kd → Option Nat
  | .none => some 0
  | .bool => some 1
  | .int => some 2
  | .str => some 3
  | .list => some 4
  | .tuple => some 5
  | _ => none
noncomputable def isInst1 (_P : Prog) (k : Kd) (t : V) : Option Bool := match t with
  | .bt b => (match bKd b with
    | some j => (match kNo k with
      | some m => (match kNo j with
        | some p => some (m == p || (m == 1 && p == 2))
        | none => none)
      | none => none)
    | none => none)
  | _ => none
noncomputable def isInstL (P : Prog) (k : Kd) : List V → Option Bool
  | [] => some false
  | x :: r => match isInst1 P k x with
    | some true => some true
    | some false => isInstL P k r
    | none => none
noncomputable def isInstV (P : Prog) (H : Hp) (v t : V) : Option Bool := match kind H v with
  | some k => isInst1 P k t
  | none => none

noncomputable def callB1 (P : Prog) (H : Hp) (b : B) (v : V) : Option LV := match b with
  | .len => (match v with
    | .str s => some (.val (.int s.length))
    | .tup xs => some (.val (.int xs.length))
    | v => (match asList H v with | some xs => some (.val (.int xs.length)) | none => none))
  | .list => (match v with
    | .rng a b c => some (.newList (rngL a c (rngN a b c)))
    | .tup xs => some (.newList xs)
    | v => (match asList H v with | some xs => some (.newList xs) | none => none))
  | .tuple => (match asList H v with | some xs => some (.val (.tup xs)) | none => none)
  | .int => (match v with | .bool b => some (.val (.int (if b then 1 else 0))) | _ => none)
  | .range => (match v with | .int n => if n.natAbs ≤ SZ then some (.val (.rng 0 n 1)) else none | _ => none)
  | _ => none
noncomputable def callB2 (P : Prog) (H : Hp) (b : B) (v w : V) : Option LV := match b with
  | .isinstance => (match isInstV P H v w with | some b => some (.val (.bool b)) | none => none)
  | .max => intV (fun a b => some (.val (.int (if b > a then b else a)))) v w
  | .min => intV (fun a b => some (.val (.int (if b < a then b else a)))) v w
  | .range => intV (fun a b => if a.natAbs ≤ SZ ∧ b.natAbs ≤ SZ then some (.val (.rng a b 1)) else none) v w
  | _ => none
noncomputable def callB3 (b : B) (u v w : V) : Option LV := match b with
  | .range => (match w with
    | .int c => intV (fun a b => if a.natAbs ≤ SZ ∧ b.natAbs ≤ SZ ∧ c = -1 then some (.val (.rng a b c)) else none) u v
    | _ => none)
  | _ => none
noncomputable def callB (P : Prog) (H : Hp) (b : B) (as : List V) : Option LV := match as with
  | [v] => callB1 P H b v
  | [v, w] => callB2 P H b v w
  | [u, v, w] => callB3 b u v w
  | _ => none

noncomputable def St.setH (σ : St) (H : Hp) : St := ⟨H, σ.loc⟩
noncomputable def St.put (σ : St) (i : Nat) (v : V) : St := ⟨σ.H, upd σ.loc i v⟩

/-- hand on a made value -/
noncomputable def give (fz : Bool) (σ : St) (Q : V → St → Prop) : LV → Prop
  | .val v => Q v σ
  | .newList xs => xs.length ≤ SZ ∧ if fz then Q (.lst xs) σ else Q (.ref σ.H.next) (σ.setH (σ.H.new (.list xs)))
noncomputable def need {α : Type} (o : Option α) (k : α → Prop) : Prop := match o with
  | some a => k a
  | none => False
/-- a call's answer; a list that only the answer names may be frozen -/
noncomputable def giveV (fz : Bool) (σ : St) (Q : V → St → Prop) (v : V) : Prop := match fz with
  | false => Q v σ
  | true => match v with
    | .ref i => (match σ.H.get i with | some (.list xs) => Q (.lst xs) (σ.setH (σ.H.del i)) | _ => Q v σ)
    | _ => Q v σ

noncomputable abbrev CT := Nat → List V → Hp → (V → Hp → Prop) → (Nat → Hp → Prop) → Prop
noncomputable abbrev EP := Nat → St → Prop

noncomputable def bindT (ts : List Nat) (v : V) (σ : St) (K : St → Prop) : Prop := match ts with
  | [i] => K (σ.put i v)
  | ts => match v with
    | .tup xs => go ts xs σ K
    | _ => False
where go : List Nat → List V → St → (St → Prop) → Prop
  | [], [], σ, K => K σ
  | i :: is, x :: xs, σ, K => go is xs (σ.put i x) K
  | _, _, _, _ => False

/-- the methods of lists and dicts -/
noncomputable def methL (P : Prog) (σ : St) (i : Nat) (n : Nat) (as : List V) (xs : List V) (Q : V → St → Prop) : Prop :=
  if n = P.nAppend then (match as with | [v] => xs.length < SZ ∧ Q .none (σ.setH (σ.H.set i (.list (xs ++ [v])))) | _ => False)
  else if n = P.nPop then (match as with
    | [.int k] => need (pyIdx k xs.length) fun j => need xs[j]? fun v => Q v (σ.setH (σ.H.set i (.list (xs.take j ++ xs.drop (j + 1)))))
    | _ => False)
  else False
noncomputable def methD (P : Prog) (σ : St) (i : Nat) (n : Nat) (as : List V) (kvs : List (V × V)) (Q : V → St → Prop) : Prop :=
  if n = P.nGet then (match as with
    | [k] => keyOk k = true ∧ Q ((dGet kvs k).getD .none) σ
    | [k, d] => keyOk k = true ∧ Q ((dGet kvs k).getD d) σ
    | _ => False)
  else if n = P.nSetdefault then (match as with
    | [k, d] => keyOk k = true ∧ (match dGet kvs k with
      | some v => Q v σ
      | none => kvs.length < SZ ∧ Q d (σ.setH (σ.H.set i (.dict (dSet kvs k d)))))
    | _ => False)
  else False

noncomputable def callF (P : Prog) (K : CT) (E : EP) (fz : Bool) (σ : St) (f : V) (as : List V) (Q : V → St → Prop) : Prop := match f with
  | .bt b => need (callB P σ.H b as) (give fz σ Q)
  | .fn k => K k as σ.H (fun v H => giveV fz (σ.setH H) Q v) (fun e H => E e (σ.setH H))
  | .cls k => need (P.cls k) fun c => need c.init fun f =>
      K f (.ref σ.H.next :: as) (σ.H.new (.inst k [])) (fun v H => match v with | .none => Q (.ref σ.H.next) (σ.setH H) | _ => False) (fun e H => E e (σ.setH H))
  | _ => False

noncomputable def noE : EP := fun _ _ => False
noncomputable def unbs (ts : List Nat) (m : Loc) : Loc := fun j => if ts.contains j then none else m j

/-- a comprehension's turns -/
noncomputable def compGo (tst : St → (Bool → St → Prop) → Prop) (elt : St → (V → St → Prop) → Prop) (ts : List Nat) (chk : Hp → Prop) : List V → List V → St → (List V → St → Prop) → Prop
  | [], acc, σ, Q => chk σ.H ∧ acc.length ≤ SZ ∧ Q acc σ
  | v :: vs, acc, σ, Q => chk σ.H ∧ acc.length < SZ ∧ bindT ts v σ fun σ₁ => tst σ₁ fun b σ₂ => match b with
    | true => elt σ₂ fun x σ₃ => compGo tst elt ts chk vs (acc ++ [x]) σ₃ Q
    | false => compGo tst elt ts chk vs acc σ₂ Q

/-- the list that a loop runs over stands as it was -/
noncomputable def still (v : V) (xs : List V) (H : Hp) : Prop := items H v = some xs

noncomputable def needB (H : Hp) (v : V) (k : Bool → Prop) : Prop := need (truth H v) k

mutual
noncomputable def wpE (P : Prog) (K : CT) (E : EP) : PE → St → (V → St → Prop) → Prop
  | .cst v, σ, Q => Q v σ
  | .loc i, σ, Q => need (σ.loc i) fun v => Q v σ
  | .glob i, σ, Q => need (P.glob i) fun v => Q v σ
  | .attr e n, σ, Q => wpE P K E e σ fun o σ₁ => match o with
    | .ref i => (match σ₁.H.get i with | some (.inst _ fs) => need (lkp fs n) fun v => Q v σ₁ | _ => False)
    | _ => False
  | .bin fz op l r, σ, Q => wpE P K E l σ fun a σ₁ => wpE P K E r σ₁ fun b σ₂ => need (binV σ₂.H op a b) (give fz σ₂ Q)
  | .neg e, σ, Q => wpE P K E e σ fun a σ₁ => (match a with | .int i => Q (.int (-i)) σ₁ | _ => False)
  | .not e, σ, Q => wpE P K E e σ fun v σ₁ => needB σ₁.H v fun b => Q (.bool (!b)) σ₁
  | .cmp op l r, σ, Q => wpE P K E l σ fun a σ₁ => wpE P K E r σ₁ fun b σ₂ => need (cmpV σ₂.H op a b) fun c => Q (.bool c) σ₂
  | .cmp2 o₁ o₂ x y z, σ, Q => wpE P K E x σ fun a σ₁ => wpE P K E y σ₁ fun b σ₂ => need (cmpV σ₂.H o₁ a b) fun c => match c with
    | true => wpE P K E z σ₂ fun d σ₃ => need (cmpV σ₃.H o₂ b d) fun c => Q (.bool c) σ₃
    | false => Q (.bool false) σ₂
  | .and es, σ, Q => wpAnd P K E es σ Q
  | .or es, σ, Q => wpOr P K E es σ Q
  | .ite t a b, σ, Q => wpT P K E t σ fun c σ₁ => match c with
    | true => wpE P K E a σ₁ Q
    | false => wpE P K E b σ₁ Q
  | .list fz es, σ, Q => wpEs P K E es σ fun vs σ₁ => give fz σ₁ Q (.newList vs)
  | .tup es, σ, Q => wpEs P K E es σ fun vs σ₁ => vs.length ≤ SZ ∧ Q (.tup vs) σ₁
  | .dict kvs, σ, Q => wpKV P K E kvs σ fun kvs σ₁ => Q (.ref σ₁.H.next) (σ₁.setH (σ₁.H.new (.dict kvs)))
  | .idx e i, σ, Q => wpE P K E e σ fun a σ₁ => wpE P K E i σ₁ fun b σ₂ => need (idxV σ₂.H a b) fun v => Q v σ₂
  | .sl fz e lo hi, σ, Q => wpE P K E e σ fun a σ₁ => wpO P K E lo σ₁ fun l σ₂ => wpO P K E hi σ₂ fun h σ₃ =>
      need (optInt l) fun l => need (optInt h) fun h => need (slV σ₃.H a l h) (give fz σ₃ Q)
  | .rev fz e, σ, Q => wpE P K E e σ fun a σ₁ => need (asList σ₁.H a) fun xs => give fz σ₁ Q (.newList xs.reverse)
  | .call fz f as, σ, Q => wpE P K E f σ fun g σ₁ => wpEs P K E as σ₁ fun vs σ₂ => callF P K E fz σ₂ g vs Q
  | .sortedRev fz e, σ, Q => wpE P K E e σ fun a σ₁ => need (asList σ₁.H a) fun xs => need (intsOf xs) fun l => give fz σ₁ Q (.newList ((srt l).reverse.map .int))
  | .meth fz o n as, σ, Q => wpE P K E o σ fun a σ₁ => match a with
    | .ref i => (match σ₁.H.get i with
      | some (.inst k _) => need (P.cls k) fun c => need (mlk c.meths n) fun f =>
          wpEs P K E as σ₁ fun vs σ₂ => callF P K E fz σ₂ (.fn f) (.ref i :: vs) Q
      | some (.list _) => (n = P.nAppend ∨ n = P.nPop) ∧ wpEs P K E as σ₁ fun vs σ₂ => (match σ₂.H.get i with | some (.list xs) => methL P σ₂ i n vs xs Q | _ => False)
      | _ => False)
    | _ => False
  | .comp fz elt ts it cond, σ, Q => wpE P K E it σ fun v σ₁ => need (items σ₁.H v) fun xs =>
      compGo (fun σ₂ k => wpC P K noE cond σ₂ k) (fun σ₂ k => wpE P K noE elt σ₂ k) ts (still v xs) xs [] ⟨σ₁.H, unbs ts σ₁.loc⟩ fun ys σ₂ => give fz ⟨σ₂.H, σ₁.loc⟩ Q (.newList ys)
noncomputable def wpT (P : Prog) (K : CT) (E : EP) : PC → St → (Bool → St → Prop) → Prop
  | .not e, σ, Q => wpT P K E e σ fun b σ₁ => Q (!b) σ₁
  | .and es, σ, Q => wpAllT P K E es σ Q
  | .or es, σ, Q => wpAnyT P K E es σ Q
  | .e e, σ, Q => wpE P K E e σ fun v σ₁ => needB σ₁.H v fun b => Q b σ₁
noncomputable def wpAllT (P : Prog) (K : CT) (E : EP) : PCs → St → (Bool → St → Prop) → Prop
  | .nil, σ, Q => Q true σ
  | .cons e r, σ, Q => wpT P K E e σ fun b σ₁ => match b with
    | true => wpAllT P K E r σ₁ Q
    | false => Q false σ₁
noncomputable def wpAnyT (P : Prog) (K : CT) (E : EP) : PCs → St → (Bool → St → Prop) → Prop
  | .nil, σ, Q => Q false σ
  | .cons e r, σ, Q => wpT P K E e σ fun b σ₁ => match b with
    | true => Q true σ₁
    | false => wpAnyT P K E r σ₁ Q
noncomputable def wpAnd (P : Prog) (K : CT) (E : EP) : PEs → St → (V → St → Prop) → Prop
  | .nil, _, _ => False
  | .cons e .nil, σ, Q => wpE P K E e σ Q
  | .cons e r, σ, Q => wpE P K E e σ fun v σ₁ => needB σ₁.H v fun b => match b with
    | true => wpAnd P K E r σ₁ Q
    | false => Q v σ₁
noncomputable def wpOr (P : Prog) (K : CT) (E : EP) : PEs → St → (V → St → Prop) → Prop
  | .nil, _, _ => False
  | .cons e .nil, σ, Q => wpE P K E e σ Q
  | .cons e r, σ, Q => wpE P K E e σ fun v σ₁ => needB σ₁.H v fun b => match b with
    | true => Q v σ₁
    | false => wpOr P K E r σ₁ Q
noncomputable def wpEs (P : Prog) (K : CT) (E : EP) : PEs → St → (List V → St → Prop) → Prop
  | .nil, σ, Q => Q [] σ
  | .cons e r, σ, Q => wpE P K E e σ fun v σ₁ => wpEs P K E r σ₁ fun vs σ₂ => Q (v :: vs) σ₂
noncomputable def wpKV (P : Prog) (K : CT) (E : EP) : PKV → St → (List (V × V) → St → Prop) → Prop
  | .nil, σ, Q => Q [] σ
  | .cons k v r, σ, Q => wpE P K E k σ fun a σ₁ => wpE P K E v σ₁ fun b σ₂ => keyOk a = true ∧ wpKV P K E r σ₂ fun r σ₃ => Q ((a, b) :: r) σ₃
noncomputable def wpO (P : Prog) (K : CT) (E : EP) : PEo → St → (Option V → St → Prop) → Prop
  | .none, σ, Q => Q none σ
  | .some e, σ, Q => wpE P K E e σ fun v σ₁ => Q (some v) σ₁
noncomputable def wpC (P : Prog) (K : CT) (E : EP) : PCo → St → (Bool → St → Prop) → Prop
  | .none, σ, Q => Q true σ
  | .some e, σ, Q => wpT P K E e σ Q
end

/-- the sums of ints that «+=» makes -/
noncomputable def augV (op : BOp) (a b : V) (k : V → Prop) : Prop := match op, a, b with
  | .add, .int x, .int y => k (.int (x + y))
  | _, _, _ => False
/-- a thing stored in an object -/
noncomputable def putA (P : Prog) (i n : Nat) (v : V) (σ : St) (Q : St → Prop) : Prop := match σ.H.get i with
  | some (.inst k fs) => need (P.cls k) fun c => c.attrs.contains n = true ∧ fs.length < 1000 ∧ Q (σ.setH (σ.H.set i (.inst k (setL fs n v))))
  | _ => False
noncomputable def asgn (P : Prog) (K : CT) (E : EP) (t : PT) (v : V) (σ : St) (Q : St → Prop) : Prop := match t with
  | .loc i => Q (σ.put i v)
  | .attr o n => wpE P K E o σ fun a σ₁ => match a with
    | .ref i => putA P i n v σ₁ Q
    | _ => False
  | .idx o x => wpE P K E o σ fun a σ₁ => wpE P K E x σ₁ fun b σ₂ => match a with
    | .ref i => (match σ₂.H.get i with
      | some (.dict kvs) => keyOk b = true ∧ kvs.length < SZ ∧ Q (σ₂.setH (σ₂.H.set i (.dict (dSet kvs b v))))
      | some (.list xs) => (match b with
        | .int j => need (pyIdx j xs.length) fun j => Q (σ₂.setH (σ₂.H.set i (.list (xs.set j v))))
        | _ => False)
      | _ => False)
    | _ => False
  | .tup is => (match v with | .tup xs => bindT.go is xs σ Q | _ => False)

/-- a loop's turns -/
noncomputable def loopGo (turn : V → St → (Flow → St → Prop) → Prop) (chk : Hp → Prop) : List V → St → (Flow → St → Prop) → Prop
  | [], σ, Q => chk σ.H ∧ Q .next σ
  | v :: vs, σ, Q => chk σ.H ∧ turn v σ fun fl σ₁ => match fl with
    | .next | .cont => loopGo turn chk vs σ₁ Q
    | .brk => Q .next σ₁
    | .ret r => Q (.ret r) σ₁
noncomputable def whileGo (tst : St → (Bool → St → Prop) → Prop) (body : St → (Flow → St → Prop) → Prop) : Nat → St → (Flow → St → Prop) → Prop
  | 0, _, _ => False
  | n + 1, σ, Q => tst σ fun b σ₁ => match b with
    | false => Q .next σ₁
    | true => body σ₁ fun fl σ₂ => match fl with
      | .next | .cont => whileGo tst body n σ₂ Q
      | .brk => Q .next σ₂
      | .ret r => Q (.ret r) σ₂
noncomputable def enumL (k : Int) : List V → List V
  | [] => []
  | x :: r => .tup [.int k, x] :: enumL (k + 1) r

mutual
noncomputable def wpS (P : Prog) (K : CT) : PS → St → (Flow → St → Prop) → EP → Prop
  | .expr e, σ, Q, E => wpE P K E e σ fun _ σ₁ => Q .next σ₁
  | .pass, σ, Q, _ => Q .next σ
  | .assign t e, σ, Q, E => wpE P K E e σ fun v σ₁ => asgn P K E t v σ₁ fun σ₂ => Q .next σ₂
  | .augLoc i op e, σ, Q, E => need (σ.loc i) fun a => wpE P K E e σ fun b σ₁ => augV op a b fun v => Q .next (σ₁.put i v)
  | .augAttr o n op e, σ, Q, E => wpE P K E o σ fun a σ₁ => match a with
    | .ref i => (match σ₁.H.get i with
      | some (.inst _ fs) => need (lkp fs n) fun x => wpE P K E e σ₁ fun b σ₂ => augV op x b fun v => putA P i n v σ₂ fun σ₃ => Q .next σ₃
      | _ => False)
    | _ => False
  | .ret e, σ, Q, E => wpO P K E e σ fun v σ₁ => Q (.ret (v.getD .none)) σ₁
  | .ite t a b, σ, Q, E => wpT P K E t σ fun c σ₁ => match c with
    | true => wpSs P K a σ₁ Q E
    | false => wpSs P K b σ₁ Q E
  | .loop ts it body, σ, Q, E => wpE P K E it σ fun v σ₁ => need (items σ₁.H v) fun xs =>
      loopGo (fun v σ₂ k => bindT ts v σ₂ fun σ₃ => wpSs P K body σ₃ k E) (still v xs) xs σ₁ Q
  | .loopEnum i x it body, σ, Q, E => wpE P K E it σ fun v σ₁ => need (asList σ₁.H v) fun xs =>
      loopGo (fun v σ₂ k => bindT [i, x] v σ₂ fun σ₃ => wpSs P K body σ₃ k E) (still v xs) (enumL 0 xs) σ₁ Q
  | .while_ t body, σ, Q, E => ∃ n, whileGo (fun σ₁ k => wpT P K E t σ₁ k) (fun σ₁ k => wpSs P K body σ₁ k E) n σ Q
  | .raise k, σ, _, E => E σ.H.next (σ.setH (σ.H.new (.exc k)))
  | .try_ body k as h, σ, Q, E => wpSs P K body σ Q fun i σ₁ => match σ₁.H.get i with
    | some (.exc j) => (match P.sub j k with
      | true => wpSs P K h (match as with | some n => σ₁.put n (.ref i) | none => σ₁) (fun fl σ₂ => Q fl (match as with | some n => ⟨σ₂.H, unb σ₂.loc n⟩ | none => σ₂)) E
      | false => E i σ₁)
    | _ => False
noncomputable def wpSs (P : Prog) (K : CT) : PSs → St → (Flow → St → Prop) → EP → Prop
  | .nil, σ, Q, _ => Q .next σ
  | .cons s r, σ, Q, E => wpS P K s σ (fun fl σ₁ => match fl with
    | .next => wpSs P K r σ₁ Q E
    | fl => Q fl σ₁) E
end

noncomputable def bindP : List Nat → List V → Loc → Option Loc
  | [], [], m => some m
  | p :: ps, a :: as, m => bindP ps as (upd m p a)
  | _, _, _ => none
noncomputable def retV : Flow → V
  | .ret v => v
  | _ => .none

/-- calls to depth n -/
noncomputable def CW (P : Prog) : Nat → CT
  | 0 => fun _ _ _ _ _ => False
  | n + 1 => fun f as H Q E => need (P.fn f) fun d => need (bindP d.params as fun _ => none) fun m =>
      wpSs P (CW P n) d.body ⟨H, m⟩ (fun fl σ => Q (retV fl) σ.H) fun e σ => E e σ.H

end Mine
end

section
namespace Mine
open PySem PySem.Calls PyProof.Rows

noncomputable def bval : B → Value
  | .int => .type "int"
  | .bool => .type "bool"
  | .list => .type "list"
  | .tuple => .type "tuple"
  | .str => .type "str"
  | .valueError => .type "ValueError"
  | .range => .type "range"
  | .set => .type "set"
  | .enumerate => .type "enumerate"
  | .len => .builtin "len"
  | .isinstance => .builtin "isinstance"
  | .max => .builtin "max"
  | .min => .builtin "min"
  | .sorted => .builtin "sorted"

/-- what stands fast during the call -/
structure Cx where
  prog : Program
  w : World
  P : Prog
  nm : Nat → Str
  fnA : Nat → Option Addr
  clA : Nat → Option Addr
  hb : Heap

/-- the frozen objects, and where the cells lie -/
structure Wd where
  Z : Addr → Option Obj
  φ : Nat → Option (Addr × Addr)

noncomputable abbrev tupO (vs : Array Value) (n : Nat) : Obj := { cls := .type "tuple", data := .seq vs n }
noncomputable abbrev lstO (vs : Array Value) (n : Nat) : Obj := { cls := .type "list", data := .seq vs n }

mutual
inductive VR (X : Cx) (W : Wd) : Value → V → Prop
  | none : VR X W .none .none
  | bool (b : Bool) : VR X W (.bool b) (.bool b)
  | int (i : Int) (t : Tok) : VR X W (.int i t) (.int i)
  | str (s : Str) (t : Tok) : PyData.strOk s = true → s.length ≤ SZ → VR X W (.str s t) (.str s)
  | tup {a : Addr} {vs : Array Value} {n : Nat} {xs : List V} : W.Z a = some (tupO vs n) → VRs X W vs.toList xs → xs.length ≤ SZ → VR X W (.ref a) (.tup xs)
  | lst {a : Addr} {vs : Array Value} {n : Nat} {xs : List V} : W.Z a = some (lstO vs n) → VRs X W vs.toList xs → xs.length ≤ SZ → VR X W (.ref a) (.lst xs)
  | rng {r : Addr} {a b c : Int} {t u v : Tok} : W.Z r = some { cls := .type "range", dict := none, data := .fields #[.int a t, .int b u, .int c v], slots := #[] } → a.natAbs ≤ SZ → b.natAbs ≤ SZ → c = 1 ∨ c = -1 → VR X W (.ref r) (.rng a b c)
  | ref {i : Nat} {l : Addr × Addr} : W.φ i = some l → VR X W (.ref l.1) (.ref i)
  | bt (b : B) : VR X W (bval b) (.bt b)
  | fn {k : Nat} {a : Addr} : X.fnA k = some a → VR X W (.ref a) (.fn k)
  | cls {k : Nat} {a : Addr} : X.clA k = some a → VR X W (.ref a) (.cls k)
inductive VRs (X : Cx) (W : Wd) : List Value → List V → Prop
  | nil : VRs X W [] []
  | cons {v : Value} {vs : List Value} {x : V} {xs : List V} : VR X W v x → VRs X W vs xs → VRs X W (v :: vs) (x :: xs)
end

structure Wd.Le (W W' : Wd) : Prop where
  zz : ∀ a o, W.Z a = some o → W'.Z a = some o
  ff : ∀ i l, W.φ i = some l → W'.φ i = some l
theorem Wd.Le.refl (W : Wd) : Wd.Le W W := ⟨fun _ _ e => e, fun _ _ e => e⟩
theorem Wd.Le.trans {W W' W'' : Wd} (a : Wd.Le W W') (b : Wd.Le W' W'') : Wd.Le W W'' := ⟨fun _ _ e => b.zz _ _ (a.zz _ _ e), fun _ _ e => b.ff _ _ (a.ff _ _ e)⟩

mutual
theorem VR.le {X : Cx} {W W' : Wd} (h : Wd.Le W W') : ∀ {v : Value} {x : V}, VR X W v x → VR X W' v x
  | _, _, .none => .none
  | _, _, .bool b => .bool b
  | _, _, .int i t => .int i t
  | _, _, .str s t a b => .str s t a b
  | _, _, .tup z r q => .tup (h.zz _ _ z) (VRs.le h r) q
  | _, _, .lst z r q => .lst (h.zz _ _ z) (VRs.le h r) q
  | _, _, .rng z p q r => .rng (h.zz _ _ z) p q r
  | _, _, .ref e => .ref (h.ff _ _ e)
  | _, _, .bt b => .bt b
  | _, _, .fn e => .fn e
  | _, _, .cls e => .cls e
theorem VRs.le {X : Cx} {W W' : Wd} (h : Wd.Le W W') : ∀ {vs : List Value} {xs : List V}, VRs X W vs xs → VRs X W' vs xs
  | _, _, .nil => .nil
  | _, _, .cons a r => .cons (VR.le h a) (VRs.le h r)
end

theorem VRs.length {X : Cx} {W : Wd} : ∀ {vs : List Value} {xs : List V}, VRs X W vs xs → vs.length = xs.length
  | _, _, .nil => rfl
  | _, _, .cons _ r => by rw [List.length_cons, List.length_cons, VRs.length r]
theorem VRs.append {X : Cx} {W : Wd} : ∀ {vs ws : List Value} {xs ys : List V}, VRs X W vs xs → VRs X W ws ys → VRs X W (vs ++ ws) (xs ++ ys)
  | _, _, _, _, .nil, h => h
  | _, _, _, _, .cons a r, h => .cons a (VRs.append r h)
theorem VRs.get {X : Cx} {W : Wd} : ∀ {vs : List Value} {xs : List V}, VRs X W vs xs → ∀ {k : Nat} {x : V}, xs[k]? = some x → ∃ v, vs[k]? = some v ∧ VR X W v x
  | _, _, .nil, _, _, e => by cases e
  | _, _, .cons a r, 0, _, e => by cases e; exact ⟨_, rfl, a⟩
  | _, _, .cons a r, k + 1, _, e => VRs.get r (k := k) (by simpa using e)
theorem VRs.take {X : Cx} {W : Wd} : ∀ {vs : List Value} {xs : List V} (k : Nat), VRs X W vs xs → VRs X W (vs.take k) (xs.take k)
  | _, _, 0, _ => .nil
  | _, _, _ + 1, .nil => .nil
  | _, _, k + 1, .cons a r => .cons a (VRs.take k r)
theorem VRs.drop {X : Cx} {W : Wd} : ∀ {vs : List Value} {xs : List V} (k : Nat), VRs X W vs xs → VRs X W (vs.drop k) (xs.drop k)
  | _, _, 0, h => h
  | _, _, _ + 1, .nil => .nil
  | _, _, k + 1, .cons _ r => VRs.drop k r
theorem VRs.reverse {X : Cx} {W : Wd} : ∀ {vs : List Value} {xs : List V}, VRs X W vs xs → VRs X W vs.reverse xs.reverse
  | _, _, .nil => .nil
  | _, _, .cons a r => by
    rw [List.reverse_cons, List.reverse_cons]
    exact VRs.append (VRs.reverse r) (.cons a .nil)
theorem VRs.set {X : Cx} {W : Wd} : ∀ {vs : List Value} {xs : List V} (k : Nat) {v : Value} {x : V}, VRs X W vs xs → VR X W v x → VRs X W (vs.set k v) (xs.set k x)
  | _, _, _, _, _, .nil, _ => .nil
  | _, _, 0, _, _, .cons _ r, h => .cons h r
  | _, _, k + 1, _, _, .cons a r, h => .cons a (VRs.set k r h)

/-- the entries of a dict made in the call: by ints (false) or by strs (true) -/
inductive KVs (X : Cx) (W : Wd) : Bool → List DictEntry → List (V × V) → Prop
  | nil {b : Bool} : KVs X W b [] []
  | int {i : Int} {t : Tok} {v : Value} {x : V} {es : List DictEntry} {kvs : List (V × V)} : VR X W v x → KVs X W false es kvs → KVs X W false (⟨hashInt i, .int i t, v⟩ :: es) ((.int i, x) :: kvs)
  | str {s : Str} {t : Tok} {v : Value} {x : V} {es : List DictEntry} {kvs : List (V × V)} : PyData.strOk s = true → s.length ≤ SZ → VR X W v x → KVs X W true es kvs → KVs X W true (⟨hashStr X.w s, .str s t, v⟩ :: es) ((.str s, x) :: kvs)
/-- the entries of an object's own dict -/
inductive FVs (X : Cx) (W : Wd) : List DictEntry → List (Nat × V) → Prop
  | nil : FVs X W [] []
  | cons {i : Nat} {hh : Int} {t : Tok} {v : Value} {x : V} {es : List DictEntry} {fs : List (Nat × V)} : VR X W v x → FVs X W es fs → FVs X W (⟨hh, .str (X.nm i) t, v⟩ :: es) ((i, x) :: fs)

theorem KVs.le {X : Cx} {W W' : Wd} (h : Wd.Le W W') {b : Bool} : ∀ {es : List DictEntry} {kvs : List (V × V)}, KVs X W b es kvs → KVs X W' b es kvs
  | _, _, .nil => .nil
  | _, _, .int a r => .int (a.le h) (KVs.le h r)
  | _, _, .str o z a r => .str o z (a.le h) (KVs.le h r)
theorem FVs.le {X : Cx} {W W' : Wd} (h : Wd.Le W W') : ∀ {es : List DictEntry} {fs : List (Nat × V)}, FVs X W es fs → FVs X W' es fs
  | _, _, .nil => .nil
  | _, _, .cons a r => .cons (a.le h) (FVs.le h r)

noncomputable abbrev dictO (es : Array DictEntry) (n : Nat) : Obj := { cls := .type "dict", data := .dict es n }
noncomputable abbrev instO (c dx : Addr) : Obj := { cls := .ref c, dict := some dx, data := .plain }

/-- a cell lies in the heap -/
noncomputable def CellAt (X : Cx) (W : Wd) (h : Heap) (l : Addr × Addr) : C → Prop
  | .list xs => ∃ vs n, h.get? l.1 = some (lstO vs n) ∧ VRs X W vs.toList xs ∧ l.2 = l.1 ∧ xs.length ≤ SZ
  | .dict kvs => ∃ es n b, h.get? l.1 = some (dictO es n) ∧ KVs X W b es.toList kvs ∧ l.2 = l.1 ∧ kvs.length ≤ SZ
  | .inst k fs => ∃ c cl es n, X.clA k = some c ∧ X.P.cls k = some cl ∧ h.get? l.1 = some (instO c l.2) ∧ h.get? l.2 = some (dictO es n) ∧ FVs X W es.toList fs ∧ l.2 ≠ l.1 ∧ (∀ p ∈ fs, p.1 ∈ cl.attrs) ∧ fs.length ≤ 1000
  | .exc k => ∃ c o, X.clA k = some c ∧ h.get? l.1 = some o ∧ o.cls = .ref c ∧ l.2 = l.1

theorem CellAt.keeps {X : Cx} {W W' : Wd} {h h' : Heap} {l : Addr × Addr} {c : C} (hc : CellAt X W h l c) (hw : Wd.Le W W')
    (h1 : ∀ o, h.get? l.1 = some o → h'.get? l.1 = some o) (h2 : ∀ o, h.get? l.2 = some o → h'.get? l.2 = some o) : CellAt X W' h' l c := by
  cases c with
  | list xs => obtain ⟨vs, n, a, b, e, z⟩ := hc; exact ⟨vs, n, h1 _ a, b.le hw, e, z⟩
  | dict kvs => obtain ⟨es, n, b, a, k, e, z⟩ := hc; exact ⟨es, n, b, h1 _ a, k.le hw, e, z⟩
  | inst k fs => obtain ⟨c, cl, es, n, a, a', b, d, f, ne⟩ := hc; exact ⟨c, cl, es, n, a, a', h1 _ b, h2 _ d, f.le hw, ne⟩
  | exc k => obtain ⟨c, o, a, b, d⟩ := hc; exact ⟨c, o, a, h1 _ b, d⟩
theorem CellAt.there {X : Cx} {W : Wd} {h : Heap} {l : Addr × Addr} {c : C} (hc : CellAt X W h l c) : (∃ o, h.get? l.1 = some o) ∧ ∃ o, h.get? l.2 = some o := by
  cases c with
  | list xs => obtain ⟨vs, n, a, b, e, _⟩ := hc; exact ⟨⟨_, a⟩, by rw [e]; exact ⟨_, a⟩⟩
  | dict kvs => obtain ⟨es, n, b, a, k, e, _⟩ := hc; exact ⟨⟨_, a⟩, by rw [e]; exact ⟨_, a⟩⟩
  | inst k fs => obtain ⟨c, cl, es, n, a, a', b, d, f, _⟩ := hc; exact ⟨⟨_, b⟩, _, d⟩
  | exc k => obtain ⟨c, o, a, b, d, e⟩ := hc; exact ⟨⟨_, b⟩, by rw [e]; exact ⟨_, b⟩⟩

noncomputable def Own (W : Wd) (H : Hp) (a : Addr) : Prop := ∃ i c l, H.get i = some c ∧ W.φ i = some l ∧ (a = l.1 ∨ a = l.2)

structure RelH (X : Cx) (W : Wd) (H : Hp) (h : Heap) : Prop where
  z : ∀ a o, W.Z a = some o → h.get? a = some o
  base : ∀ a o, X.hb.get? a = some o → W.Z a = some o
  cell : ∀ i c, H.get i = some c → ∃ l, W.φ i = some l ∧ CellAt X W h l c
  off : ∀ a, Own W H a → W.Z a = none
  sep : ∀ i j ci cj li lj, H.get i = some ci → H.get j = some cj → W.φ i = some li → W.φ j = some lj → i ≠ j → li.1 ≠ lj.1 ∧ li.1 ≠ lj.2 ∧ li.2 ≠ lj.1 ∧ li.2 ≠ lj.2
  dom : ∀ i, H.next ≤ i → H.get i = none ∧ W.φ i = none

theorem RelH.own_there {X : Cx} {W : Wd} {H : Hp} {h : Heap} (R : RelH X W H h) {a : Addr} (o : Own W H a) : ∃ ob, h.get? a = some ob := by
  obtain ⟨i, c, l, hc, hl, ha⟩ := o
  obtain ⟨l', hl', hcell⟩ := R.cell i c hc
  have : l' = l := Option.some.inj (hl'.symm.trans hl)
  subst this
  rcases ha with rfl | rfl
  · exact hcell.there.1
  · exact hcell.there.2
theorem RelH.own_lt {X : Cx} {W : Wd} {H : Hp} {h : Heap} (R : RelH X W H h) {a : Addr} (o : Own W H a) : a < h.objs.size := let ⟨_, e⟩ := R.own_there o; Heap.lt_size e
theorem RelH.bkeep {X : Cx} {W : Wd} {H : Hp} {h : Heap} (R : RelH X W H h) : ∀ a o, X.hb.get? a = some o → h.get? a = some o := fun a o e => R.z _ _ (R.base a o e)

/-- the same object, but a frame's slots may differ -/
noncomputable def SameO (o o' : Obj) : Prop := o' = o ∨ (o.cls = .type "frame" ∧ ∃ sl, o' = { o with slots := sl })
theorem SameO.refl (o : Obj) : SameO o o := .inl rfl
theorem SameO.trans {a b c : Obj} (x : SameO a b) (y : SameO b c) : SameO a c := by
  rcases x with rfl | ⟨h, sl, rfl⟩
  · exact y
  · rcases y with rfl | ⟨_, sl', rfl⟩
    · exact .inr ⟨h, sl, rfl⟩
    · exact .inr ⟨h, sl', rfl⟩
theorem SameO.eq {a b : Obj} (x : SameO a b) (h : a.cls ≠ .type "frame") : b = a := x.elim id fun q => absurd q.1 h
theorem SameO.cls {a b : Obj} (x : SameO a b) : b.cls = a.cls := by rcases x with rfl | ⟨_, _, rfl⟩ <;> rfl
theorem SameO.data {a b : Obj} (x : SameO a b) : b.data = a.data := by rcases x with rfl | ⟨_, _, rfl⟩ <;> rfl

/-- what a step may do: all that is neither owned nor private stands as it stood -/
structure Stp (Pv : Addr → Prop) (W : Wd) (H : Hp) (h : Heap) (W' : Wd) (H' : Hp) (h' : Heap) : Prop where
  le : Wd.Le W W'
  keep : ∀ a o, h.get? a = some o → ¬ Own W H a → ¬ Pv a → ∃ o', h'.get? a = some o' ∧ SameO o o'
  own : ∀ a o, h.get? a = some o → ¬ Own W H a → ¬ Own W' H' a
  znew : ∀ a o, W'.Z a = some o → W.Z a = some o ∨ Own W H a ∨ h.get? a = none
  there : ∀ a o, h.get? a = some o → ∃ o', h'.get? a = some o'

noncomputable def noPv : Addr → Prop := fun _ => False

theorem Stp.refl {Pv : Addr → Prop} {W : Wd} {H : Hp} {h : Heap} : Stp Pv W H h W H h :=
  ⟨.refl _, fun _ o e _ _ => ⟨o, e, .refl o⟩, fun _ _ _ n => n, fun _ _ e => .inl e, fun _ o e => ⟨o, e⟩⟩
theorem Stp.trans {Pv : Addr → Prop} {W W' W'' : Wd} {H H' H'' : Hp} {h h' h'' : Heap} (a : Stp Pv W H h W' H' h') (b : Stp Pv W' H' h' W'' H'' h'') : Stp Pv W H h W'' H'' h'' where
  le := a.le.trans b.le
  keep := fun x o e n p => by
    obtain ⟨o₁, e₁, q₁⟩ := a.keep x o e n p
    obtain ⟨o₂, e₂, q₂⟩ := b.keep x o₁ e₁ (a.own x o e n) p
    exact ⟨o₂, e₂, q₁.trans q₂⟩
  own := fun x o e n => let ⟨_, e'⟩ := a.there x o e; b.own x _ e' (a.own x o e n)
  znew := fun x o e => by
    rcases b.znew x o e with q | q | q
    · exact a.znew x o q
    · by_cases ho : Own W H x
      · exact .inr (.inl ho)
      · cases hx : h.get? x with
        | none => exact .inr (.inr rfl)
        | some o' => exact absurd q (a.own x o' hx ho)
    · cases hx : h.get? x with
      | none => exact .inr (.inr rfl)
      | some o' => obtain ⟨_, e'⟩ := a.there x o' hx; rw [e'] at q; cases q
  there := fun x o e => let ⟨_, e'⟩ := a.there x o e; b.there x _ e'
theorem Stp.mono {Pv Pv' : Addr → Prop} {W W' : Wd} {H H' : Hp} {h h' : Heap} (a : Stp Pv W H h W' H' h') (hp : ∀ x, Pv x → Pv' x) : Stp Pv' W H h W' H' h' :=
  ⟨a.le, fun x o e n p => a.keep x o e n fun q => p (hp x q), a.own, a.znew, a.there⟩

/-- a step whose private things are new -/
theorem Stp.transFresh {Pv Pv' : Addr → Prop} {W W' W'' : Wd} {H H' H'' : Hp} {h h' h'' : Heap} (a : Stp Pv W H h W' H' h') (b : Stp Pv' W' H' h' W'' H'' h'') (hf : ∀ x, Pv' x → h.get? x = none ∨ Pv x) : Stp Pv W H h W'' H'' h'' where
  le := a.le.trans b.le
  keep := fun x o e n p => by
    obtain ⟨o₁, e₁, q₁⟩ := a.keep x o e n p
    obtain ⟨o₂, e₂, q₂⟩ := b.keep x o₁ e₁ (a.own x o e n) fun q => (hf x q).elim (fun z => by rw [z] at e; cases e) p
    exact ⟨o₂, e₂, q₁.trans q₂⟩
  own := fun x o e n => let ⟨_, e'⟩ := a.there x o e; b.own x _ e' (a.own x o e n)
  znew := fun x o e => by
    rcases b.znew x o e with q | q | q
    · exact a.znew x o q
    · by_cases ho : Own W H x
      · exact .inr (.inl ho)
      · cases hx : h.get? x with
        | none => exact .inr (.inr rfl)
        | some o' => exact absurd q (a.own x o' hx ho)
    · cases hx : h.get? x with
      | none => exact .inr (.inr rfl)
      | some o' => obtain ⟨_, e'⟩ := a.there x o' hx; rw [e'] at q; cases q
  there := fun x o e => let ⟨_, e'⟩ := a.there x o e; b.there x _ e'

/-- nothing of the layer's moves: more objects, or the private ones changed -/
theorem Stp.quiet {Pv : Addr → Prop} {W : Wd} {H : Hp} {h h' : Heap} (hk : ∀ a o, h.get? a = some o → ¬ Pv a → h'.get? a = some o) (ht : ∀ a o, h.get? a = some o → ∃ o', h'.get? a = some o') :
    Stp Pv W H h W H h' := ⟨.refl _, fun x o e _ p => ⟨o, hk x o e p, .refl o⟩, fun _ _ _ n => n, fun _ _ e => .inl e, ht⟩
theorem RelH.quiet {Pv : Addr → Prop} {X : Cx} {W : Wd} {H : Hp} {h h' : Heap} (R : RelH X W H h) (hk : ∀ a o, h.get? a = some o → ¬ Pv a → h'.get? a = some o) (hp : ∀ a, Pv a → ¬ Own W H a ∧ W.Z a = none) : RelH X W H h' where
  z := fun a o e => hk a o (R.z a o e) fun p => by rw [(hp a p).2] at e; cases e
  base := R.base
  cell := fun i c e => by
    obtain ⟨l, hl, hc⟩ := R.cell i c e
    exact ⟨l, hl, hc.keeps (.refl _) (fun o q => hk _ o q fun p => (hp _ p).1 ⟨i, c, l, e, hl, .inl rfl⟩) fun o q => hk _ o q fun p => (hp _ p).1 ⟨i, c, l, e, hl, .inr rfl⟩⟩
  off := R.off
  sep := R.sep
  dom := R.dom

noncomputable def Wd.addZ (W : Wd) (a : Addr) (o : Obj) : Wd := ⟨fun b => if b = a then some o else W.Z b, W.φ⟩
noncomputable def Wd.addφ (W : Wd) (i : Nat) (l : Addr × Addr) : Wd := ⟨W.Z, fun j => if j = i then some l else W.φ j⟩

theorem Own.addZ {W : Wd} {H : Hp} {a b : Addr} {o : Obj} : Own (W.addZ a o) H b ↔ Own W H b := Iff.rfl
section
variable {X : Cx} {W : Wd} {H : Hp} {h h' : Heap} (R : RelH X W H h)
include R
theorem RelH.leZ {a : Addr} {o : Obj} (hn : h.get? a = none) : Wd.Le W (W.addZ a o) :=
  ⟨fun b ob e => (by
    show (if b = a then some o else W.Z b) = some ob
    rw [if_neg]
    · exact e
    · rintro rfl; rw [R.z _ _ e] at hn; cases hn), fun _ _ e => e⟩
/-- a new frozen object -/
theorem RelH.frozen {a : Addr} {o : Obj} (hk : ∀ b ob, h.get? b = some ob → h'.get? b = some ob) (hn : h.get? a = none) (ha : h'.get? a = some o) :
    RelH X (W.addZ a o) H h' ∧ Stp noPv W H h (W.addZ a o) H h' := by
  have L : Wd.Le W (W.addZ a o) := R.leZ hn
  refine ⟨⟨fun b ob e => ?_, fun b ob e => L.zz _ _ (R.base b ob e), fun i c e => ?_, fun b hb => ?_, R.sep, R.dom⟩, ⟨L, fun x ob e _ _ => ⟨ob, hk x ob e, .refl ob⟩, fun _ _ _ n => n, fun x ob e => ?_, fun x ob e => ⟨ob, hk x ob e⟩⟩⟩
  · have e' : (if b = a then some o else W.Z b) = some ob := e
    by_cases hb : b = a
    · subst hb; rw [if_pos rfl] at e'; cases e'; exact ha
    · rw [if_neg hb] at e'; exact hk _ _ (R.z _ _ e')
  · obtain ⟨l, hl, hc⟩ := R.cell i c e
    exact ⟨l, hl, hc.keeps L (fun o q => hk _ _ q) fun o q => hk _ _ q⟩
  · show (if b = a then some o else W.Z b) = none
    have hb' : Own W H b := hb
    rw [if_neg]
    · exact R.off b hb'
    · rintro rfl
      obtain ⟨_, q⟩ := R.own_there hb'
      rw [q] at hn; cases hn
  · have e' : (if x = a then some o else W.Z x) = some ob := e
    by_cases hb : x = a
    · subst hb; exact .inr (.inr hn)
    · rw [if_neg hb] at e'; exact .inl e'
theorem RelH.leF {l : Addr × Addr} : Wd.Le W (W.addφ H.next l) :=
  ⟨fun _ _ e => e, fun i k e => by
    show (if i = H.next then some l else W.φ i) = some k
    rw [if_neg]
    · exact e
    · rintro rfl; rw [(R.dom _ (Nat.le_refl _)).2] at e; cases e⟩
theorem RelH.own_new {l : Addr × Addr} {c : C} {a : Addr} (ho : Own (W.addφ H.next l) (H.new c) a) : Own W H a ∨ a = l.1 ∨ a = l.2 := by
  obtain ⟨i, ci, li, hi, hl, ha⟩ := ho
  have hi' : (if i = H.next then some c else H.get i) = some ci := hi
  have hl' : (if i = H.next then some l else W.φ i) = some li := hl
  by_cases hn : i = H.next
  · rw [if_pos hn] at hl'; cases hl'; exact .inr ha
  · rw [if_neg hn] at hi' hl'; exact .inl ⟨i, ci, li, hi', hl', ha⟩
/-- a new cell -/
theorem RelH.fresh {l : Addr × Addr} {c : C} (hk : ∀ b ob, h.get? b = some ob → h'.get? b = some ob) (h1 : h.get? l.1 = none) (h2 : h.get? l.2 = none)
    (hc : CellAt X (W.addφ H.next l) h' l c) : RelH X (W.addφ H.next l) (H.new c) h' ∧ Stp noPv W H h (W.addφ H.next l) (H.new c) h' := by
  have L : Wd.Le W (W.addφ H.next l) := R.leF
  have nZ : ∀ b, h.get? b = none → W.Z b = none := fun b e => by
    cases q : W.Z b with
    | none => rfl
    | some o => rw [R.z _ _ q] at e; cases e
  have ne : ∀ i ci li, H.get i = some ci → W.φ i = some li → (li.1 ≠ l.1 ∧ li.1 ≠ l.2 ∧ li.2 ≠ l.1 ∧ li.2 ≠ l.2) := fun i ci li hi hl => by
    obtain ⟨o1, q1⟩ := R.own_there ⟨i, ci, li, hi, hl, .inl rfl⟩
    obtain ⟨o2, q2⟩ := R.own_there ⟨i, ci, li, hi, hl, .inr rfl⟩
    refine ⟨fun e => ?_, fun e => ?_, fun e => ?_, fun e => ?_⟩
    · rw [e, h1] at q1; cases q1
    · rw [e, h2] at q1; cases q1
    · rw [e, h1] at q2; cases q2
    · rw [e, h2] at q2; cases q2
  refine ⟨⟨fun b ob e => hk _ _ (R.z b ob e), R.base, fun i ci e => ?_, fun b hb => ?_, fun i j ci cj li lj hi hj hli hlj nij => ?_, fun i hi => ?_⟩, ⟨L, fun x ob e _ _ => ⟨ob, hk x ob e, .refl ob⟩, fun x ob e n o => ?_, fun _ _ e => .inl e, fun x ob e => ⟨ob, hk x ob e⟩⟩⟩
  · have e' : (if i = H.next then some c else H.get i) = some ci := e
    by_cases hn : i = H.next
    · rw [if_pos hn] at e'; cases e'
      exact ⟨l, by show (if i = H.next then some l else W.φ i) = some l; rw [if_pos hn], hc⟩
    · rw [if_neg hn] at e'
      obtain ⟨k, hl, q⟩ := R.cell i ci e'
      exact ⟨k, L.ff _ _ hl, q.keeps L (fun o q => hk _ _ q) fun o q => hk _ _ q⟩
  · rcases R.own_new hb with q | rfl | rfl
    · exact R.off b q
    · exact nZ _ h1
    · exact nZ _ h2
  · have hi' : (if i = H.next then some c else H.get i) = some ci := hi
    have hj' : (if j = H.next then some c else H.get j) = some cj := hj
    have hli' : (if i = H.next then some l else W.φ i) = some li := hli
    have hlj' : (if j = H.next then some l else W.φ j) = some lj := hlj
    by_cases hn : i = H.next
    · have hm : ¬ j = H.next := fun q => nij (hn.trans q.symm)
      rw [if_pos hn] at hli'; cases hli'
      rw [if_neg hm] at hj' hlj'
      obtain ⟨a, b, c, d⟩ := ne j cj lj hj' hlj'
      exact ⟨a.symm, c.symm, b.symm, d.symm⟩
    · rw [if_neg hn] at hi' hli'
      by_cases hm : j = H.next
      · rw [if_pos hm] at hlj'; cases hlj'
        obtain ⟨a, b, c, d⟩ := ne i ci li hi' hli'
        exact ⟨a, b, c, d⟩
      · rw [if_neg hm] at hj' hlj'
        exact R.sep i j ci cj li lj hi' hj' hli' hlj' nij
  · have hi2 : H.next + 1 ≤ i := hi
    have : ¬ i = H.next := by omega
    constructor
    · show (if i = H.next then some c else H.get i) = none
      rw [if_neg this]; exact (R.dom i (by omega)).1
    · show (if i = H.next then some l else W.φ i) = none
      rw [if_neg this]; exact (R.dom i (by omega)).2
  · rcases R.own_new o with q | rfl | rfl
    · exact n q
    · rw [h1] at e; cases e
    · rw [h2] at e; cases e
theorem RelH.own_set {i : Nat} {c c' : C} {a : Addr} (hi : H.get i = some c) : Own W (H.set i c') a ↔ Own W H a := by
  constructor
  · rintro ⟨j, cj, lj, hj, hl, ha⟩
    have hj' : (if j = i then some c' else H.get j) = some cj := hj
    by_cases hn : j = i
    · exact ⟨j, c, lj, hn ▸ hi, hl, ha⟩
    · rw [if_neg hn] at hj'; exact ⟨j, cj, lj, hj', hl, ha⟩
  · rintro ⟨j, cj, lj, hj, hl, ha⟩
    by_cases hn : j = i
    · exact ⟨j, c', lj, by show (if j = i then some c' else H.get j) = some c'; rw [if_pos hn], hl, ha⟩
    · exact ⟨j, cj, lj, by show (if j = i then some c' else H.get j) = some cj; rw [if_neg hn]; exact hj, hl, ha⟩
/-- a cell changed -/
theorem RelH.upd {i : Nat} {l : Addr × Addr} {c c' : C} (hi : H.get i = some c) (hl : W.φ i = some l) (hk : ∀ b ob, h.get? b = some ob → b ≠ l.1 → b ≠ l.2 → h'.get? b = some ob)
    (hc : CellAt X W h' l c') : RelH X W (H.set i c') h' ∧ Stp noPv W H h W (H.set i c') h' := by
  have ow : ∀ b, b = l.1 ∨ b = l.2 → Own W H b := fun b e => ⟨i, c, l, hi, hl, e⟩
  have hk' : ∀ b ob, h.get? b = some ob → ¬ Own W H b → h'.get? b = some ob := fun b ob e n => hk b ob e (fun q => n (ow b (.inl q))) fun q => n (ow b (.inr q))
  refine ⟨⟨fun b ob e => hk' _ _ (R.z b ob e) fun o => ?_, R.base, fun j cj e => ?_, fun b hb => R.off b ((R.own_set hi).mp hb), fun j k cj ck lj lk hj hk₂ hlj hlk nij => ?_, fun j hj => ?_⟩,
    ⟨.refl _, fun x ob e n _ => ⟨ob, hk' x ob e n, .refl ob⟩, fun x ob _ n o => n ((R.own_set hi).mp o), fun _ _ e => .inl e, fun x ob e => ?_⟩⟩
  · rw [R.off _ o] at e; cases e
  · have e' : (if j = i then some c' else H.get j) = some cj := e
    by_cases hn : j = i
    · rw [if_pos hn] at e'; cases e'; subst hn; exact ⟨l, hl, hc⟩
    · rw [if_neg hn] at e'
      obtain ⟨k, hlj, q⟩ := R.cell j cj e'
      obtain ⟨a, b, c₁, d⟩ := R.sep j i cj c k l e' hi hlj hl hn
      exact ⟨k, hlj, q.keeps (.refl _) (fun o q => hk _ _ q a b) fun o q => hk _ _ q c₁ d⟩
  · have g : ∀ j cj, (H.set i c').get j = some cj → ∃ c₂, H.get j = some c₂ := fun j cj e => by
      have e' : (if j = i then some c' else H.get j) = some cj := e
      by_cases hn : j = i
      · exact ⟨c, hn ▸ hi⟩
      · rw [if_neg hn] at e'; exact ⟨_, e'⟩
    obtain ⟨_, a⟩ := g j cj hj
    obtain ⟨_, b⟩ := g k ck hk₂
    exact R.sep j k _ _ lj lk a b hlj hlk nij
  · have hj' : H.next ≤ j := hj
    have hn : ¬ j = i := by rintro rfl; rw [(R.dom j hj').1] at hi; cases hi
    refine ⟨?_, (R.dom j hj').2⟩
    show (if j = i then some c' else H.get j) = none
    rw [if_neg hn]; exact (R.dom j hj').1
  · by_cases h1 : x = l.1
    · subst h1; exact hc.there.1
    · by_cases h2 : x = l.2
      · subst h2; exact hc.there.2
      · exact ⟨ob, hk x ob e h1 h2⟩
/-- a list that is changed no more -/
theorem RelH.freeze {i : Nat} {xs : List V} {l : Addr × Addr} (hi : H.get i = some (.list xs)) (hl : W.φ i = some l) :
    ∃ o, RelH X (W.addZ l.1 o) (H.del i) h ∧ Stp noPv W H h (W.addZ l.1 o) (H.del i) h ∧ VR X (W.addZ l.1 o) (.ref l.1) (.lst xs) := by
  obtain ⟨l', hl', vs, n, hg, hv, he, hsz⟩ := R.cell i _ hi
  have : l' = l := Option.some.inj (hl'.symm.trans hl)
  subst this
  have own_i : ∀ b, b = l'.1 ∨ b = l'.2 → Own W H b := fun b e => ⟨i, _, l', hi, hl, e⟩
  have L : Wd.Le W (W.addZ l'.1 (lstO vs n)) := ⟨fun b ob e => (by
    show (if b = l'.1 then some (lstO vs n) else W.Z b) = some ob
    rw [if_neg]
    · exact e
    · rintro rfl; rw [R.off _ (own_i _ (.inl rfl))] at e; cases e), fun _ _ e => e⟩
  have od : ∀ b, Own (W.addZ l'.1 (lstO vs n)) (H.del i) b → Own W H b ∧ b ≠ l'.1 := fun b ⟨j, cj, lj, hj, hlj, ha⟩ => by
    have hj' : (if j = i then none else H.get j) = some cj := hj
    by_cases hn : j = i
    · rw [if_pos hn] at hj'; cases hj'
    · rw [if_neg hn] at hj'
      refine ⟨⟨j, cj, lj, hj', hlj, ha⟩, ?_⟩
      obtain ⟨a, b, c, d⟩ := R.sep j i cj _ lj l' hj' hi hlj hl hn
      rcases ha with rfl | rfl
      · exact a
      · exact c
  refine ⟨lstO vs n, ⟨fun b ob e => ?_, fun b ob e => L.zz _ _ (R.base b ob e), fun j cj e => ?_, fun b hb => ?_, fun j k cj ck lj lk hj hk hlj hlk nij => ?_, fun j hj => ?_⟩,
    ⟨L, fun x ob e _ _ => ⟨ob, e, .refl ob⟩, fun x ob e no o => no (od x o).1, fun x ob e => ?_, fun x ob e => ⟨ob, e⟩⟩, .lst (n := n) ?_ (hv.le L) hsz⟩
  · have e' : (if b = l'.1 then some (lstO vs n) else W.Z b) = some ob := e
    by_cases hb : b = l'.1
    · rw [if_pos hb] at e'; cases e'; rw [hb]; exact hg
    · rw [if_neg hb] at e'; exact R.z _ _ e'
  · have e' : (if j = i then none else H.get j) = some cj := e
    by_cases hn : j = i
    · rw [if_pos hn] at e'; cases e'
    · rw [if_neg hn] at e'
      obtain ⟨k, hlj, q⟩ := R.cell j cj e'
      exact ⟨k, hlj, q.keeps L (fun _ q => q) fun _ q => q⟩
  · obtain ⟨a, b'⟩ := od b hb
    show (if b = l'.1 then some (lstO vs n) else W.Z b) = none
    rw [if_neg b']; exact R.off _ a
  · have g : ∀ j cj, (H.del i).get j = some cj → H.get j = some cj := fun j cj e => by
      have e' : (if j = i then none else H.get j) = some cj := e
      by_cases hn : j = i
      · rw [if_pos hn] at e'; cases e'
      · rw [if_neg hn] at e'; exact e'
    exact R.sep j k cj ck lj lk (g _ _ hj) (g _ _ hk) hlj hlk nij
  · have hj' : H.next ≤ j := hj
    refine ⟨?_, (R.dom j hj').2⟩
    show (if j = i then none else H.get j) = none
    rw [(R.dom j hj').1]; simp
  · have e' : (if x = l'.1 then some (lstO vs n) else W.Z x) = some ob := e
    by_cases hb : x = l'.1
    · exact .inr (.inl (own_i _ (.inl hb)))
    · rw [if_neg hb] at e'; exact .inl e'
  · show (if l'.1 = l'.1 then some (lstO vs n) else W.Z l'.1) = _
    rw [if_pos rfl]
end
end Mine
end

section
namespace Mine
open PySem PySem.Calls PyProof.Rows

structure Rest (s s' : Shared) : Prop where
  gens : s'.gens = s.gens
  drawn : s'.drawn = s.drawn
  os : s'.os = s.os
theorem Rest.refl (s : Shared) : Rest s s := ⟨rfl, rfl, rfl⟩
theorem Rest.trans {a b c : Shared} (x : Rest a b) (y : Rest b c) : Rest a c := ⟨y.gens.trans x.gens, y.drawn.trans x.drawn, y.os.trans x.os⟩
theorem Rest.mk' {s : Shared} {h : Heap} {t : Nat} : Rest s { s with heap := h, toks := t } := ⟨rfl, rfl, rfl⟩

theorem ns_same {h h' : Heap} {a : Addr} {m : Str → Option Value} (hn : h.Ns a m) (hk : ∀ o, h.get? a = some o → ∃ o', h'.get? a = some o' ∧ SameO o o') : h'.Ns a m := by
  obtain ⟨o, es, ep, ho, hd, r⟩ := hn
  obtain ⟨o', ho', q⟩ := hk o ho
  exact ⟨o', es, ep, ho', q.data.trans hd, r⟩
theorem cell_same {h h' : Heap} {a : Addr} {v : Option Value} (hn : h.IsCell a v) (hk : ∀ o, h.get? a = some o → ∃ o', h'.get? a = some o' ∧ SameO o o') : h'.IsCell a v := by
  obtain ⟨o, ho, hd⟩ := hn
  obtain ⟨o', ho', q⟩ := hk o ho
  exact ⟨o', ho', q.data.trans hd⟩

/-- the frame at hand -/
structure FrR (X : Cx) (W : Wd) (H : Hp) (h : Heap) (env : Env) (Pv : Addr → Prop) (loc : Loc) : Prop where
  ns : ∃ m, h.Ns env.locals m ∧ ∀ i v, loc i = some v → env.kindOf (X.nm i) = some .local → ∃ cv, m (X.nm i) = some cv ∧ VR X W cv v
  cells : ∀ i v, loc i = some v → (env.kindOf (X.nm i) = some .cell ∨ env.kindOf (X.nm i) = some .free) → ∃ c cv, env.cells.lookup (X.nm i) = some c ∧ h.IsCell c (some cv) ∧ VR X W cv v
  hasCell : ∀ x, env.func ≠ none → env.kindOf x = some .cell → ∃ c v, env.cells.lookup x = some c ∧ h.IsCell c v ∧ Pv c
  cellEq : ∀ x y c, env.cells.lookup x = some c → env.cells.lookup y = some c → x = y
  cellNs : ∀ x c, env.cells.lookup x = some c → c ≠ env.locals ∧ ¬ Own W H c ∧ ∃ o, h.get? c = some o
  pvL : Pv env.locals
  priv : ∀ a, Pv a → ¬ Own W H a ∧ W.Z a = none
  pvAt : ∀ a, Pv a → ∃ o, h.get? a = some o

theorem FrR.step {X : Cx} {W W' : Wd} {H H' : Hp} {h h' : Heap} {env : Env} {Pv Pv' : Addr → Prop} {loc : Loc} (F : FrR X W H h env Pv loc) (S : Stp Pv' W H h W' H' h') (hp : ∀ a, Pv' a → h.get? a = none) : FrR X W' H' h' env Pv loc := by
  have kp : ∀ a, Pv a → ∀ o, h.get? a = some o → ∃ o', h'.get? a = some o' ∧ SameO o o' := fun a p o e => S.keep a o e (F.priv a p).1 fun q => by rw [hp a q] at e; cases e
  have kc : ∀ x c, env.cells.lookup x = some c → ∀ o, h.get? c = some o → ∃ o', h'.get? c = some o' ∧ SameO o o' := fun x c q o e => S.keep c o e (F.cellNs x c q).2.1 fun q => by rw [hp c q] at e; cases e
  refine ⟨?_, fun i v e k => ?_, fun x ef e => ?_, F.cellEq, fun x c e => ?_, F.pvL, fun a p => ?_, fun a p => ?_⟩
  · obtain ⟨m, hn, hv⟩ := F.ns
    exact ⟨m, ns_same hn (kp _ F.pvL), fun i v e k => let ⟨cv, q, r⟩ := hv i v e k; ⟨cv, q, r.le S.le⟩⟩
  · obtain ⟨c, cv, q, r, t⟩ := F.cells i v e k
    exact ⟨c, cv, q, cell_same r (kc _ _ q), t.le S.le⟩
  · obtain ⟨c, v, q, r, t⟩ := F.hasCell x ef e
    exact ⟨c, v, q, cell_same r (kc _ _ q), t⟩
  · obtain ⟨a, b, ob, q⟩ := F.cellNs x c e
    exact ⟨a, S.own c ob q b, S.there c ob q⟩
  · obtain ⟨o, e⟩ := F.pvAt a p
    refine ⟨S.own a o e (F.priv a p).1, ?_⟩
    cases hq : W'.Z a with
    | none => rfl
    | some ob =>
      rcases S.znew a ob hq with q | q | q
      · rw [(F.priv a p).2] at q; cases q
      · exact absurd q (F.priv a p).1
      · rw [e] at q; cases q
  · obtain ⟨o, e⟩ := F.pvAt a p
    exact S.there a o e

/-- storing a name of the frame's -/
theorem FrR.storeL {X : Cx} {W : Wd} {H : Hp} {h h' : Heap} {env : Env} {Pv : Addr → Prop} {loc : Loc} {i : Nat} {cv : Value} {v : V} {m : Str → Option Value} (F : FrR X W H h env Pv loc) (hn : h.Ns env.locals m)
    (hm : ∀ j v, loc j = some v → env.kindOf (X.nm j) = some .local → ∃ cv, m (X.nm j) = some cv ∧ VR X W cv v) (hinj : ∀ j, X.nm j = X.nm i → j = i)
    (hk : env.kindOf (X.nm i) = some .local) (hv : VR X W cv v) (hn' : h'.Ns env.locals (fun x => if x = X.nm i then some cv else m x)) (hs : Heap.SameBut env.locals h h') : FrR X W H h' env Pv (upd loc i v) := by
  refine ⟨⟨_, hn', fun j u e k => ?_⟩, fun j u e k => ?_, fun x ef e => ?_, F.cellEq, fun x c e => ?_, F.pvL, F.priv, fun a p => ?_⟩
  · have e' : (if j = i then some v else loc j) = some u := e
    by_cases hj : j = i
    · rw [if_pos hj] at e'; cases e'; exact ⟨cv, by rw [hj, if_pos rfl], hv⟩
    · rw [if_neg hj] at e'
      obtain ⟨cu, q, r⟩ := hm j u e' k
      exact ⟨cu, by rw [if_neg fun z => hj (hinj j z)]; exact q, r⟩
  · have e' : (if j = i then some v else loc j) = some u := e
    by_cases hj : j = i
    · subst hj; rw [hk] at k; rcases k with k | k <;> cases k
    · rw [if_neg hj] at e'
      obtain ⟨c, cu, q, r, t⟩ := F.cells j u e' k
      exact ⟨c, cu, q, r.sameBut hs (F.cellNs _ _ q).1, t⟩
  · obtain ⟨c, u, q, r, t⟩ := F.hasCell x ef e
    exact ⟨c, u, q, r.sameBut hs (F.cellNs _ _ q).1, t⟩
  · obtain ⟨a, b, o, q⟩ := F.cellNs x c e
    exact ⟨a, b, o, (hs.2 c a).trans q⟩
  · by_cases ha : a = env.locals
    · subst ha; obtain ⟨o, _, _, ho, _⟩ := hn'; exact ⟨o, ho⟩
    · obtain ⟨o, q⟩ := F.pvAt a p; exact ⟨o, (hs.2 a ha).trans q⟩
theorem FrR.storeC {X : Cx} {W : Wd} {H : Hp} {h h' : Heap} {env : Env} {Pv : Addr → Prop} {loc : Loc} {i : Nat} {cv : Value} {v : V} {c : Addr} (F : FrR X W H h env Pv loc) (hinj : ∀ j, X.nm j = X.nm i → j = i)
    (hk : env.kindOf (X.nm i) = some .cell) (hc : env.cells.lookup (X.nm i) = some c) (hv : VR X W cv v) (hn' : h'.IsCell c (some cv)) (hs : Heap.SameBut c h h') : FrR X W H h' env Pv (upd loc i v) := by
  obtain ⟨m, hn, hm⟩ := F.ns
  have ne := (F.cellNs _ _ hc).1
  refine ⟨⟨m, hn.sameBut hs (Ne.symm ne), fun j u e k => ?_⟩, fun j u e k => ?_, fun x ef e => ?_, F.cellEq, fun x d e => ?_, F.pvL, F.priv, fun a p => ?_⟩
  · have e' : (if j = i then some v else loc j) = some u := e
    by_cases hj : j = i
    · subst hj; rw [hk] at k; cases k
    · rw [if_neg hj] at e'; exact hm j u e' k
  · have e' : (if j = i then some v else loc j) = some u := e
    by_cases hj : j = i
    · rw [if_pos hj] at e'; cases e'; exact ⟨c, cv, hj ▸ hc, hn', hv⟩
    · rw [if_neg hj] at e'
      obtain ⟨d, cu, q, r, t⟩ := F.cells j u e' k
      exact ⟨d, cu, q, r.sameBut hs fun z => hj (hinj j (F.cellEq _ _ d q (z ▸ hc))), t⟩
  · obtain ⟨d, u, q, r, t⟩ := F.hasCell x ef e
    by_cases hd : d = c
    · subst hd; exact ⟨d, _, q, hn', t⟩
    · exact ⟨d, u, q, r.sameBut hs hd, t⟩
  · obtain ⟨a, b, o, q⟩ := F.cellNs x d e
    refine ⟨a, b, ?_⟩
    by_cases hd : d = c
    · subst hd; obtain ⟨o', ho', _⟩ := hn'; exact ⟨o', ho'⟩
    · exact ⟨o, (hs.2 d hd).trans q⟩
  · by_cases ha : a = c
    · subst ha; obtain ⟨o', ho', _⟩ := hn'; exact ⟨o', ho'⟩
    · obtain ⟨o, q⟩ := F.pvAt a p; exact ⟨o, (hs.2 a ha).trans q⟩

/-- an exception under way -/
noncomputable def Fly (X : Cx) (W : Wd) (H : Hp) (h : Heap) (e : Addr) : Prop := False

structure At (X : Cx) (env : Env) (Pv : Addr → Prop) (W : Wd) (σ : St) (s : Shared) : Prop where
  rel : RelH X W σ.H s.heap
  fr : FrR X W σ.H s.heap env Pv σ.loc
structure Tf (X : Cx) (env : Env) (Pv : Addr → Prop) (W : Wd) (σ : St) (s : Shared) (W' : Wd) (σ' : St) (s' : Shared) : Prop where
  stp : Stp Pv W σ.H s.heap W' σ'.H s'.heap
  at_ : At X env Pv W' σ' s'
  rest : Rest s s'
theorem Tf.refl {X : Cx} {env : Env} {Pv : Addr → Prop} {W : Wd} {σ : St} {s : Shared} (a : At X env Pv W σ s) : Tf X env Pv W σ s W σ s := ⟨.refl, a, .refl _⟩
theorem Tf.trans {X : Cx} {env : Env} {Pv : Addr → Prop} {W W' W'' : Wd} {σ σ' σ'' : St} {s s' s'' : Shared} (a : Tf X env Pv W σ s W' σ' s') (b : Tf X env Pv W' σ' s' W'' σ'' s'') : Tf X env Pv W σ s W'' σ'' s'' :=
  ⟨a.stp.trans b.stp, b.at_, a.rest.trans b.rest⟩
/-- op level: nothing private -/
structure Tc (X : Cx) (W : Wd) (H : Hp) (s : Shared) (W' : Wd) (H' : Hp) (s' : Shared) : Prop where
  stp : Stp noPv W H s.heap W' H' s'.heap
  rel : RelH X W' H' s'.heap
  rest : Rest s s'
theorem Tc.refl {X : Cx} {W : Wd} {H : Hp} {s : Shared} (a : RelH X W H s.heap) : Tc X W H s W H s := ⟨.refl, a, .refl _⟩
theorem Tc.trans {X : Cx} {W W' W'' : Wd} {H H' H'' : Hp} {s s' s'' : Shared} (a : Tc X W H s W' H' s') (b : Tc X W' H' s' W'' H'' s'') : Tc X W H s W'' H'' s'' :=
  ⟨a.stp.trans b.stp, b.rel, a.rest.trans b.rest⟩
theorem Tc.tf {X : Cx} {env : Env} {Pv : Addr → Prop} {W W' : Wd} {σ : St} {H' : Hp} {s s' : Shared} (a : At X env Pv W σ s) (t : Tc X W σ.H s W' H' s') : Tf X env Pv W σ s W' ⟨H', σ.loc⟩ s' :=
  ⟨t.stp.mono fun _ z => z.elim, ⟨t.rel, a.fr.step t.stp fun _ z => z.elim⟩, t.rest⟩

/-- an exception leaves -/
noncomputable def EX (X : Cx) (env : Env) (Pv : Addr → Prop) (W : Wd) (σ : St) (s : Shared) (E : EP) (e : Value) (s' : Shared) : Prop :=
  ∃ W' σ' i l, Tf X env Pv W σ s W' σ' s' ∧ e = .ref l.1 ∧ W'.φ i = some l ∧ Fly X W' σ'.H s'.heap l.1 ∧ E i σ'
theorem EX.back {X : Cx} {env : Env} {Pv : Addr → Prop} {W W' : Wd} {σ σ' : St} {s s' s'' : Shared} {E : EP} {e : Value} (t : Tf X env Pv W σ s W' σ' s') (x : EX X env Pv W' σ' s' E e s'') : EX X env Pv W σ s E e s'' :=
  let ⟨W₂, σ₂, i, l, a, b⟩ := x; ⟨W₂, σ₂, i, l, t.trans a, b⟩

noncomputable def Ew {α : Type} (X : Cx) (A : Around) (env : Env) (Pv : Addr → Prop) (t : Sem α) (W : Wd) (σ : St) (s : Shared) (R : α → Wd → St → Shared → Prop) (E : EP) : Prop :=
  wpAny (model X.prog X.w) A t (fun a s' => ∃ W' σ', Tf X env Pv W σ s W' σ' s' ∧ R a W' σ' s') (EX X env Pv W σ s E) s

section
variable {α β : Type} {X : Cx} {A : Around} {env : Env} {Pv : Addr → Prop} {W : Wd} {σ : St} {s : Shared} {E : EP}
theorem Ew.from {t : Sem α} {W' : Wd} {σ' : St} {s' : Shared} {R : α → Wd → St → Shared → Prop} (T : Tf X env Pv W σ s W' σ' s') (h : Ew X A env Pv t W' σ' s' R E) :
    wpAny (model X.prog X.w) A t (fun a s'' => ∃ W' σ', Tf X env Pv W σ s W' σ' s'' ∧ R a W' σ' s'') (EX X env Pv W σ s E) s' :=
  wpAny_mono h (fun _ _ ⟨W₂, σ₂, a, b⟩ => ⟨W₂, σ₂, T.trans a, b⟩) fun _ _ x => x.back T
theorem Ew.bind {m : Sem α} {f : α → Sem β} {R : β → Wd → St → Shared → Prop} (h : Ew X A env Pv m W σ s (fun a W₁ σ₁ s₁ => Ew X A env Pv (f a) W₁ σ₁ s₁ R E) E) : Ew X A env Pv (m >>= f) W σ s R E :=
  wpAny_bind (wpAny_mono h (fun _ _ ⟨_, _, T, h'⟩ => Ew.from T h') fun _ _ x => x)
theorem Ew.pure {a : α} {R : α → Wd → St → Shared → Prop} (at_ : At X env Pv W σ s) (h : R a W σ s) : Ew X A env Pv (pure a) W σ s R E := wpAny_pure ⟨W, σ, .refl at_, h⟩
theorem Ew.mono {t : Sem α} {R R' : α → Wd → St → Shared → Prop} (h : Ew X A env Pv t W σ s R E) (hr : ∀ a W' σ' s', At X env Pv W' σ' s' → R a W' σ' s' → R' a W' σ' s') : Ew X A env Pv t W σ s R' E :=
  wpAny_mono h (fun _ _ ⟨W', σ', T, r⟩ => ⟨W', σ', T, hr _ _ _ _ T.at_ r⟩) fun _ _ x => x
/-- a transition is known -/
theorem Ew.bindT {m : Sem α} {f : α → Sem β} {R : β → Wd → St → Shared → Prop} (h : Ew X A env Pv m W σ s (fun a W₁ σ₁ s₁ => At X env Pv W₁ σ₁ s₁ → Wd.Le W W₁ → Ew X A env Pv (f a) W₁ σ₁ s₁ R E) E) : Ew X A env Pv (m >>= f) W σ s R E :=
  wpAny_bind (wpAny_mono h (fun _ _ ⟨_, _, T, h'⟩ => Ew.from T (h' T.at_ T.stp.le)) fun _ _ x => x)
theorem Ew.holding {vs : List Value} {m : Sem α} {R : α → Wd → St → Shared → Prop} (h : Ew X A env Pv m W σ s R E) : Ew X A env Pv (holding vs m) W σ s R E := wpAny_holding h
theorem Ew.standAt {pos : Pos} {f : Unit → Sem β} {R : β → Wd → St → Shared → Prop} (h : Ew X A env Pv (f ()) W σ s R E) : Ew X A env Pv (standAt pos >>= f) W σ s R E := wpAny_bind (wpAny_standAt h)
theorem Ew.rule {tag : String} {f : Unit → Sem β} {R : β → Wd → St → Shared → Prop} (h : Ew X A env Pv (f ()) W σ s R E) : Ew X A env Pv (rule tag >>= f) W σ s R E := wpAny_bind (wpAny_rule h)
theorem Ew.operate {vs : List Value} {m : Sem Value} {R : Value → Wd → St → Shared → Prop} (h : Ew X A env Pv m W σ s R E) : Ew X A env Pv (operate vs m) W σ s R E := by
  intro Γ p hΓ
  rw [Sem.wp_operate]; exact h Γ p hΓ

/-- an operation of the level below -/
noncomputable def Ow (X : Cx) (A : Around) (t : Sem α) (W : Wd) (H : Hp) (s : Shared) (R : α → Wd → Hp → Shared → Prop) : Prop :=
  ∀ E : Value → Shared → Prop, wpAny (model X.prog X.w) A t (fun a s' => ∃ W' H', Tc X W H s W' H' s' ∧ R a W' H' s') E s
theorem Ow.ew {t : Sem α} {R : α → Wd → St → Shared → Prop} (at_ : At X env Pv W σ s) (h : Ow X A t W σ.H s (fun a W' H' s' => R a W' ⟨H', σ.loc⟩ s')) : Ew X A env Pv t W σ s R E :=
  wpAny_mono (h _) (fun _ _ ⟨W', H', T, r⟩ => ⟨W', ⟨H', σ.loc⟩, T.tf at_, r⟩) fun _ _ x => x
theorem Ow.bind {H : Hp} {m : Sem α} {f : α → Sem β} {R : β → Wd → Hp → Shared → Prop} (h : Ow X A m W H s (fun a W₁ H₁ s₁ => Ow X A (f a) W₁ H₁ s₁ R)) : Ow X A (m >>= f) W H s R :=
  fun E => wpAny_bind (wpAny_mono (h E) (fun _ _ ⟨_, _, T, h'⟩ => wpAny_mono (h' E) (fun _ _ ⟨W₂, H₂, a, b⟩ => ⟨W₂, H₂, T.trans a, b⟩) fun _ _ x => x) fun _ _ x => x)
theorem Ow.pure {H : Hp} {a : α} {R : α → Wd → Hp → Shared → Prop} (r : RelH X W H s.heap) (h : R a W H s) : Ow X A (pure a) W H s R := fun _ => wpAny_pure ⟨W, H, .refl r, h⟩
/-- the heap stays -/
theorem Ow.same {H : Hp} {t : Sem α} {R : α → Wd → Hp → Shared → Prop} (r : RelH X W H s.heap)
    (h : ∀ E : Value → Shared → Prop, wpAny (model X.prog X.w) A t (fun a s' => (∃ tk, s' = { s with toks := tk }) ∧ R a W H s') E s) : Ow X A t W H s R :=
  fun E => wpAny_mono (h E) (fun _ _ ⟨⟨tk, e⟩, q⟩ => ⟨W, H, by subst e; exact ⟨.refl, r, ⟨rfl, rfl, rfl⟩⟩, q⟩) fun _ _ x => x
/-- a new frozen object -/
theorem Tc.frozen {H : Hp} {a : Addr} {o : Obj} {h' : Heap} {tk : Nat} (r : RelH X W H s.heap) (hk : ∀ b ob, s.heap.get? b = some ob → h'.get? b = some ob) (hn : s.heap.get? a = none) (ha : h'.get? a = some o) :
    Tc X W H s (W.addZ a o) H { s with heap := h', toks := tk } := let ⟨x, y⟩ := r.frozen hk hn ha; ⟨y, x, ⟨rfl, rfl, rfl⟩⟩
theorem push_none (h : Heap) : h.get? h.objs.size = none := by
  cases q : h.get? h.objs.size with
  | none => rfl
  | some o => exact absurd (Heap.lt_size q) (Nat.lt_irrefl _)
theorem Tc.pushZ {H : Hp} {o : Obj} {tk : Nat} (r : RelH X W H s.heap) (hf : o.isFreed = false) : Tc X W H s (W.addZ s.heap.objs.size o) H { s with heap := s.heap.push o, toks := tk } :=
  Tc.frozen r (fun _ _ e => Heap.get?_push_of_some _ e) (push_none _) (Heap.get?_push_size _ hf)
theorem addZ_self {a : Addr} {o : Obj} : (W.addZ a o).Z a = some o := by show (if a = a then some o else W.Z a) = some o; rw [if_pos rfl]
theorem addφ_self {i : Nat} {l : Addr × Addr} : (W.addφ i l).φ i = some l := by show (if i = i then some l else W.φ i) = some l; rw [if_pos rfl]
end
end Mine
end

section
namespace Mine
open PySem PySem.Calls PyProof.Rows

/-! data -/
mutual
noncomputable def toPy : V → PyData
  | .bool b => .bool b
  | .int i => .int i
  | .str s => .str s
  | .tup xs => .tuple (toPys xs)
  | .lst xs => .list (toPys xs)
  | _ => .none
noncomputable def toPys : List V → List PyData
  | [] => []
  | x :: r => toPy x :: toPys r
end
mutual
noncomputable def isD : V → Bool
  | .none | .bool _ | .int _ | .str _ => true
  | .tup xs => isDs xs
  | .lst xs => isDs xs
  | _ => false
noncomputable def isDs : List V → Bool
  | [] => true
  | x :: r => isD x && isDs r
end
mutual
theorem eqD_eqv : ∀ x y : V, isD x = true → isD y = true → eqD x y = PyData.eqv (toPy x) (toPy y)
  | .none, y, _, h => by cases y <;> simp_all [eqD, toPy, PyData.eqv, isD]
  | .bool a, y, _, h => by cases y <;> simp_all [eqD, toPy, PyData.eqv, isD] <;> (first | rfl | (split <;> simp_all [eq_comm]))
  | .int a, y, _, h => by
    cases y <;> simp_all [eqD, toPy, PyData.eqv, isD] <;> first | rfl | (rw [Bool.eq_iff_iff]; simp)
  | .str a, y, _, h => by
    cases y <;> simp_all [eqD, toPy, PyData.eqv, isD] <;> first | rfl | (rw [Bool.eq_iff_iff]; simp)
  | .tup a, y, hx, h => by
    cases y <;> simp_all [eqD, toPy, PyData.eqv, isD]
    exact eqDs_eqv a _ hx h
  | .lst a, y, hx, h => by
    cases y <;> simp_all [eqD, toPy, PyData.eqv, isD]
    exact eqDs_eqv a _ hx h
  | .set _, _, h, _ => by simp [isD] at h
  | .rng _ _ _, _, h, _ => by simp [isD] at h
  | .ref _, _, h, _ => by simp [isD] at h
  | .bt _, _, h, _ => by simp [isD] at h
  | .fn _, _, h, _ => by simp [isD] at h
  | .cls _, _, h, _ => by simp [isD] at h
theorem eqDs_eqv : ∀ x y : List V, isDs x = true → isDs y = true → eqDs x y = PyData.eqvAll (toPys x) (toPys y)
  | [], y, _, _ => by cases y <;> simp [eqDs, toPys, PyData.eqvAll]
  | a :: r, y, hx, hy => by
    cases y with
    | nil => simp [eqDs, toPys, PyData.eqvAll]
    | cons b t =>
      simp only [isDs, Bool.and_eq_true] at hx hy
      simp only [eqDs, toPys, PyData.eqvAll, eqD_eqv a b hx.1 hy.1, eqDs_eqv r t hx.2 hy.2]
end

theorem reads_tuple' {h : Heap} {a : Addr} {vs : Array Value} {n : Nat} {xs : List PyData} {as : List Addr} (e : h.get? a = some (tupO vs n)) (r : ReadsAll h vs.toList xs as) : Reads h (.ref a) (.tuple xs) as := .tuple e rfl rfl r
theorem reads_list' {h : Heap} {a : Addr} {vs : Array Value} {n : Nat} {xs : List PyData} {as : List Addr} (e : h.get? a = some (lstO vs n)) (r : ReadsAll h vs.toList xs as) : Reads h (.ref a) (.list xs) (a :: as) := .list e rfl rfl r

section
variable {X : Cx} {W : Wd} {H : Hp} {h : Heap}
structure Dt (h : Heap) (n : Nat) (v : Value) (y : V) : Prop where
  rd : ∃ as, Reads h v (toPy y) as
  lay : (toPy y).canLay0 = true
  dp : (toPy y).depth ≤ n
  d : isD y = true
structure Dts (h : Heap) (n : Nat) (vs : List Value) (ys : List V) : Prop where
  rd : ∃ as, ReadsAll h vs (toPys ys) as
  lay : PyData.canLayAll0 (toPys ys) = true
  dp : PyData.depthAll (toPys ys) ≤ n
  d : isDs ys = true
theorem deepL_data {f : V → Option V} {n : Nat} (hf : ∀ v x y, VR X W v x → f x = some y → Dt h n v y) : ∀ {vs : List Value} {xs ys : List V}, VRs X W vs xs → deepL f xs = some ys → Dts h n vs ys
  | _, _, ys, .nil, e => by
    have : ys = [] := by simpa [deepL] using e.symm
    subst this
    exact ⟨⟨[], .nil⟩, rfl, Nat.zero_le _, rfl⟩
  | _, _, ys, .cons (x := x) (xs := xs) a r, e => by
    unfold deepL at e
    split at e
    · rename_i y ey
      split at e
      · rename_i zs ez
        cases e
        have A := hf _ _ _ a ey
        have B := deepL_data hf r ez
        obtain ⟨as, ra⟩ := A.rd
        obtain ⟨bs, rb⟩ := B.rd
        refine ⟨⟨as ++ bs, .cons ra rb⟩, ?_, ?_, ?_⟩
        · simp [toPys, PyData.canLayAll0, A.lay, B.lay]
        · have := A.dp; have := B.dp
          simp only [toPys, PyData.depthAll]; omega
        · simp [isDs, A.d, B.d]
      · cases e
    · cases e
theorem Dt.up {n m : Nat} {v : Value} {y : V} (a : Dt h n v y) (e : n ≤ m) : Dt h m v y := ⟨a.rd, a.lay, Nat.le_trans a.dp e, a.d⟩
theorem deepN_data (R : RelH X W H h) : ∀ (n : Nat) (v : Value) (x y : V), VR X W v x → deepN H n x = some y → Dt h n v y
  | n, _, _, _, .none, e => by
    have : deepN H n .none = some .none := by cases n <;> rfl
    rw [this] at e; cases e
    exact ⟨⟨_, .none⟩, rfl, Nat.zero_le _, rfl⟩
  | n, _, _, _, .bool b, e => by
    have : deepN H n (.bool b) = some (.bool b) := by cases n <;> rfl
    rw [this] at e; cases e
    exact ⟨⟨_, .bool b⟩, rfl, Nat.zero_le _, rfl⟩
  | n, _, _, _, .int i t, e => by
    have : deepN H n (.int i) = some (.int i) := by cases n <;> rfl
    rw [this] at e; cases e
    exact ⟨⟨_, .int i t⟩, rfl, Nat.zero_le _, rfl⟩
  | n, _, _, _, .str s t ok _, e => by
    have : deepN H n (.str s) = some (.str s) := by cases n <;> rfl
    rw [this] at e; cases e
    exact ⟨⟨_, .str s t⟩, by simpa [toPy, PyData.canLay0] using ok, Nat.zero_le _, rfl⟩
  | 0, _, _, _, .tup _ _ _, e => by cases e
  | n + 1, _, _, y, .tup z r _, e => by
    unfold deepN at e
    split at e
    · rename_i ys ey
      cases e
      have B := deepL_data (fun v x y a q => deepN_data R n v x y a q) r ey
      obtain ⟨as, rb⟩ := B.rd
      exact ⟨⟨as, by rw [toPy]; exact reads_tuple' (R.z _ _ z) rb⟩, by simpa [toPy, PyData.canLay0] using B.lay, by have := B.dp; simp only [toPy, PyData.depth]; omega, by simpa [isD] using B.d⟩
    · cases e
  | 0, _, _, _, .lst _ _ _, e => by cases e
  | n + 1, _, _, y, .lst z r _, e => by
    unfold deepN at e
    split at e
    · rename_i ys ey
      cases e
      have B := deepL_data (fun v x y a q => deepN_data R n v x y a q) r ey
      obtain ⟨as, rb⟩ := B.rd
      exact ⟨⟨_, by rw [toPy]; exact reads_list' (R.z _ _ z) rb⟩, by simpa [toPy, PyData.canLay0] using B.lay, by have := B.dp; simp only [toPy, PyData.depth]; omega, by simpa [isD] using B.d⟩
    · cases e
  | 0, _, _, _, .ref _, e => by cases e
  | n + 1, _, _, y, .ref (i := i) (l := l) hl, e => by
    unfold deepN at e
    split at e
    · rename_i xs ex
      split at e
      · rename_i ys ey
        cases e
        obtain ⟨l', hl', vs, k, hg, hv, _⟩ := R.cell i _ ex
        have : l' = l := Option.some.inj (hl'.symm.trans hl)
        subst this
        have B := deepL_data (fun v x y a q => deepN_data R n v x y a q) hv ey
        obtain ⟨as, rb⟩ := B.rd
        exact ⟨⟨_, by rw [toPy]; exact reads_list' hg rb⟩, by simpa [toPy, PyData.canLay0] using B.lay, by have := B.dp; simp only [toPy, PyData.depth]; omega, by simpa [isD] using B.d⟩
      · cases e
    · cases e
  | n, _, _, _, .rng _ _ _ _, e => by cases n <;> cases e
  | n, _, _, _, .bt b, e => by cases n <;> cases e
  | n, _, _, _, .fn _, e => by cases n <;> cases e
  | n, _, _, _, .cls _, e => by cases n <;> cases e
end

/-- room below on the C stack -/
noncomputable def Room (A : Around) : Prop := A.units + 80 < cLine

section
variable {X : Cx} {A : Around} {W : Wd} {H : Hp} {s : Shared}
theorem eq_ok {a b : Value} {x y : V} {r : Bool} (R : RelH X W H s.heap) (hu : Room A) (ha : VR X W a x) (hb : VR X W b y) (e : eqV H x y = some r) (E : Value → Shared → Prop) {Q : Value → Shared → Prop} (h : Q (.bool r) s) :
    wpAny (model X.prog X.w) A (compareOp .Eq a b) Q E s := by
  unfold eqV at e
  split at e
  · rename_i u v eu ev
    cases e
    have P := deepN_data R _ _ _ _ ha eu
    have Q' := deepN_data R _ _ _ _ hb ev
    obtain ⟨as, ra⟩ := P.rd
    obtain ⟨bs, rb⟩ := Q'.rd
    refine SeqAt.compareEq_reads ra rb P.lay Q'.lay ?_ ?_
    · have := P.dp; unfold Room at hu; omega
    · rw [← eqD_eqv _ _ P.d Q'.d]; exact h
  · cases e
theorem ne_ok {a b : Value} {x y : V} {r : Bool} (R : RelH X W H s.heap) (hu : Room A) (ha : VR X W a x) (hb : VR X W b y) (e : eqV H x y = some r) (E : Value → Shared → Prop) {Q : Value → Shared → Prop} (h : Q (.bool (!r)) s) :
    wpAny (model X.prog X.w) A (compareOp .NotEq a b) Q E s := by
  unfold eqV at e
  split at e
  · rename_i u v eu ev
    cases e
    have P := deepN_data R _ _ _ _ ha eu
    have Q' := deepN_data R _ _ _ _ hb ev
    obtain ⟨as, ra⟩ := P.rd
    obtain ⟨bs, rb⟩ := Q'.rd
    refine ne_dataH ra rb ?_ ?_ ?_ ?_
    · have := P.dp; simp [SeqAt.shaped, P.lay]; omega
    · have := Q'.dp; simp [SeqAt.shaped, Q'.lay]; omega
    · unfold Room at hu; omega
    · rw [← eqD_eqv _ _ P.d Q'.d]; exact h
  · cases e
end
end Mine
end

section
namespace Mine
open PySem PySem.W PySem.Calls PyProof.Rows

section
variable {X : Cx} {A : Around} {W : Wd} {H : Hp} {s : Shared} {E : Value → Shared → Prop}

theorem sz63 {n : Nat} (h : n ≤ SZ) : (n : Int) < 2 ^ 63 := by unfold SZ at h; omega
theorem szLine {n : Nat} (h : n ≤ SZ) : n ≤ sizeLine := by unfold SZ at h; unfold sizeLine; omega

theorem VR.isTup {v : Value} {xs : List V} (R : RelH X W H s.heap) (h : VR X W v (.tup xs)) : ∃ a vs, v = .ref a ∧ IsTup s.heap a vs ∧ VRs X W vs.toList xs ∧ xs.length ≤ SZ ∧ vs.size = xs.length := by
  cases h with
  | tup z r q => exact ⟨_, _, rfl, ⟨_, R.z _ _ z, rfl, _, rfl⟩, r, q, by rw [← r.length]; simp⟩
theorem VR.isLst {v : Value} {x : V} {xs : List V} (R : RelH X W H s.heap) (h : VR X W v x) (e : asList H x = some xs) : ∃ a vs n, v = .ref a ∧ s.heap.get? a = some (lstO vs n) ∧ VRs X W vs.toList xs ∧ xs.length ≤ SZ ∧ vs.size = xs.length := by
  unfold asList at e
  split at e
  · cases e
    cases h with
    | lst z r q => exact ⟨_, _, _, rfl, R.z _ _ z, r, q, by rw [← r.length]; simp⟩
  · rename_i i
    split at e
    · rename_i ys ey
      cases e
      cases h with
      | ref hl =>
        obtain ⟨l', hl', vs, k, hg, hv, _, hz⟩ := R.cell i _ ey
        have := Option.some.inj (hl'.symm.trans hl)
        subst this
        exact ⟨_, _, _, rfl, hg, hv, hz, by rw [← hv.length]; simp⟩
    · cases e
  · cases e
theorem isList_of {h : Heap} {a : Addr} {vs : Array Value} {n : Nat} (e : h.get? a = some (lstO vs n)) : h.IsList a vs := ⟨_, e, rfl, _, rfl⟩

theorem isEmpty_len {vs : Array Value} {xs : List V} (z : vs.size = xs.length) : vs.isEmpty = xs.isEmpty := by
  cases xs with
  | nil => simp at z; subst z; rfl
  | cons a r =>
    have : vs.size ≠ 0 := by rw [z]; simp
    simp only [List.isEmpty_cons]
    rw [Array.isEmpty_eq_false_iff]
    rintro rfl; simp at this
theorem decide_bne {i : Int} : decide (i ≠ 0) = (i != 0) := by
  by_cases h : i = 0
  · subst h; rfl
  · rw [decide_eq_true h]; exact (bne_iff_ne.mpr h).symm

theorem truth_ok {v : Value} {x : V} {b : Bool} {Q : Bool → Shared → Prop} (R : RelH X W H s.heap) (hv : VR X W v x) (e : truth H x = some b) (h : ∀ tk, Q b { s with toks := tk }) : wpAny (model X.prog X.w) A (truthy v) Q E s := by
  have lst : ∀ xs, asList H x = some xs → (!xs.isEmpty) = b → wpAny (model X.prog X.w) A (truthy v) Q E s := fun xs ex eb => by
    obtain ⟨a, vs, n, rfl, hg, r, q, z⟩ := hv.isLst R ex
    refine wpAny_truthy_list (isList_of hg) (by rw [z]; exact sz63 q) ?_
    rw [isEmpty_len z, eb]; exact h _
  cases hv with
  | none => cases e; exact truthy_none (h s.toks)
  | bool c => cases e; exact wpAny_truthy_bool (h s.toks)
  | int i t => cases e; exact truthy_int (by have := h s.toks; rw [decide_bne] at this; exact this)
  | str t u ok z =>
    cases e
    refine P.truthy_str (by have := sz63 z; omega) ?_
    have := h (s.toks + 1 + 1)
    rw [show (decide (t.length ≠ 0)) = (((t.length : Nat) : Int) != 0) from by
      rw [← decide_bne]; exact decide_eq_decide.mpr (by omega)] at this
    exact this
  | @tup a vs n xs z r q =>
    cases e
    have z' : vs.size = xs.length := by rw [← r.length]; simp
    refine truthy_tuple ⟨_, R.z _ _ z, rfl, _, rfl⟩ (by rw [z']; exact sz63 q) ?_
    rw [isEmpty_len z']; exact h _
  | lst z r q => cases e; exact lst _ rfl rfl
  | @ref i l hl =>
    unfold truth at e
    cases hg : H.get i with
    | none => simp [hg] at e
    | some c =>
      cases c with
      | list xs => simp only [hg] at e; cases e; exact lst xs (by simp only [asList, hg]) rfl
      | _ => simp [hg] at e
  | _ => cases e

noncomputable def opOf : BOp → Operator
  | .add => .Add
  | .sub => .Sub
  | .mul => .Mult
  | .fdiv => .FloorDiv
  | .mod => .Mod
  | .pow => .Pow
  | .bor => .BitOr
noncomputable def cmpOf : COp → CmpOp
  | .eq => .Eq
  | .ne => .NotEq
  | .lt => .Lt
  | .le => .LtE
  | .gt => .Gt
  | .ge => .GtE
  | .isIn => .In
  | .notIn => .NotIn
  | .is => .Is
  | .isNot => .IsNot

theorem nsome {α : Type} {a : α} {p : Prop} (h : (none : Option α) = some a) : p := by cases h
theorem same_none {a : Value} {x : V} {r : Bool} (ha : VR X W a x) (e : isSame x .none = some r) : plainIs a .none = true ∧ (a == .none) = r := by
  cases ha <;> first | exact nsome e | exact ⟨rfl, Option.some.inj e⟩
theorem same_bool {a : Value} {x : V} {c r : Bool} (ha : VR X W a x) (e : isSame x (.bool c) = some r) : plainIs a (.bool c) = true ∧ (a == .bool c) = r := by
  cases ha with
  | bool d => exact ⟨rfl, by have := Option.some.inj e; rw [← this]; cases c <;> cases d <;> rfl⟩
  | _ => first | exact nsome e | exact ⟨rfl, Option.some.inj e⟩
theorem same_ok {a b : Value} {x y : V} {r : Bool} (ha : VR X W a x) (hb : VR X W b y) (e : isSame x y = some r) : plainIs a b = true ∧ (a == b) = r := by
  cases hb with
  | none => exact same_none ha e
  | bool c => exact same_bool ha e
  | _ => exact nsome e
theorem is_ok {a b : Value} {x y : V} {r : Bool} {Q : Value → Shared → Prop} (ha : VR X W a x) (hb : VR X W b y) (e : isSame x y = some r) (h : Q (.bool r) s) : wpAny (model X.prog X.w) A (compareOp .Is a b) Q E s := by
  obtain ⟨h1, h2⟩ := same_ok ha hb e
  exact wpAny_is_plain h1 (by rw [h2]; exact h)
theorem isNot_ok {a b : Value} {x y : V} {r : Bool} {Q : Value → Shared → Prop} (ha : VR X W a x) (hb : VR X W b y) (e : isSame x y = some r) (h : Q (.bool (!r)) s) : wpAny (model X.prog X.w) A (compareOp .IsNot a b) Q E s := by
  obtain ⟨h1, h2⟩ := same_ok ha hb e
  exact wpAny_isNot_plain h1 (by rw [h2]; exact h)

/-- the answer of an operation: a value, or a new list -/
noncomputable def Res (X : Cx) (fz : Bool) (H : Hp) (r : LV) (v : Value) (W' : Wd) (H' : Hp) : Prop := match r with
  | .val x => VR X W' v x ∧ H' = H
  | .newList xs => match fz with
    | true => VR X W' v (.lst xs) ∧ H' = H
    | false => VR X W' v (.ref H.next) ∧ H' = H.new (.list xs)

theorem res_val {x : V} {v : Value} {fz : Bool} {tk : Nat} {Q : Value → Shared → Prop} (R : RelH X W H s.heap) (hv : VR X W v x)
    (h : ∀ v' s' W' H', Tc X W H s W' H' s' → Res X fz H (.val x) v' W' H' → Q v' s') : Q v { s with toks := tk } := h v _ W H ⟨.refl, R, ⟨rfl, rfl, rfl⟩⟩ ⟨hv, rfl⟩
/-- a new list at a new place -/
theorem res_list {vs : Array Value} {n : Nat} {xs : List V} {fz : Bool} {h' : Heap} {tk : Nat} {Q : Value → Shared → Prop} (R : RelH X W H s.heap) (hv : VRs X W vs.toList xs) (hz : xs.length ≤ SZ)
    (hk : ∀ b ob, s.heap.get? b = some ob → h'.get? b = some ob) (ha : h'.get? s.heap.objs.size = some (lstO vs n))
    (h : ∀ v' s' W' H', Tc X W H s W' H' s' → Res X fz H (.newList xs) v' W' H' → Q v' s') : Q (.ref s.heap.objs.size) { s with heap := h', toks := tk } := by
  have hn := push_none s.heap
  cases fz with
  | true =>
    have T : Tc X W H s (W.addZ s.heap.objs.size (lstO vs n)) H { s with heap := h', toks := tk } := Tc.frozen R hk hn ha
    exact h _ _ _ _ T ⟨.lst addZ_self (hv.le (R.leZ hn)) hz, rfl⟩
  | false =>
    obtain ⟨r, t⟩ := R.fresh (l := (s.heap.objs.size, s.heap.objs.size)) (c := .list xs) hk hn hn ⟨vs, n, ha, hv.le R.leF, rfl, hz⟩
    have e : (W.addφ H.next (s.heap.objs.size, s.heap.objs.size)).φ H.next = some (s.heap.objs.size, s.heap.objs.size) := addφ_self
    exact h _ _ _ _ ⟨t, r, ⟨rfl, rfl, rfl⟩⟩ ⟨VR.ref e, rfl⟩
theorem newList_ok {vs : List Value} {xs : List V} {fz : Bool} {Q : Value → Shared → Prop} (R : RelH X W H s.heap) (hv : VRs X W vs xs) (hz : xs.length ≤ SZ)
    (h : ∀ v' s' W' H', Tc X W H s W' H' s' → Res X fz H (.newList xs) v' W' H' → Q v' s') : wpAny (model X.prog X.w) A (newList vs) Q E s := by
  refine wpAny_newObj_type ?_ (by show vs.toArray.size ≤ sizeLine; rw [List.size_toArray, hv.length]; exact szLine hz)
  exact res_list (n := 0) R (vs := vs.toArray) (by simpa using hv) hz (fun _ _ e => Heap.get?_push_of_some _ e) (Heap.get?_push_size _ rfl) h
theorem newTuple_ok {vs : List Value} {xs : List V} {Q : Value → Shared → Prop} (R : RelH X W H s.heap) (hv : VRs X W vs xs) (hz : xs.length ≤ SZ)
    (h : ∀ v' s' W', Tc X W H s W' H s' → VR X W' v' (.tup xs) → Q v' s') : wpAny (model X.prog X.w) A (newTuple vs) Q E s := by
  refine wpAny_newObj_type ?_ (by show vs.toArray.size ≤ sizeLine; rw [List.size_toArray, hv.length]; exact szLine hz)
  have T : Tc X W H s (W.addZ s.heap.objs.size (tupO vs.toArray 0)) H { s with heap := s.heap.push (tupO vs.toArray 0), toks := s.toks } := Tc.pushZ R rfl
  exact h _ _ _ T (.tup addZ_self (by simpa using hv.le (R.leZ (push_none _))) hz)

theorem strOk_append {a b : Str} (ha : PyData.strOk a = true) (hb : PyData.strOk b = true) : PyData.strOk (a ++ b) = true := by
  unfold PyData.strOk at *
  rw [Array.all_eq_true] at *
  rw [show (a ++ b).cps = a.cps ++ b.cps from rfl]
  intro i hi
  rw [Array.getElem_append]
  split
  · exact ha i _
  · exact hb _ _
theorem len_append (a b : Str) : (a ++ b).length = a.length + b.length := by
  show (a.cps ++ b.cps).size = _
  rw [Array.size_append]; rfl

end
end Mine
end

section
namespace Mine
open PySem PySem.W PySem.Calls PyProof.Rows

section
variable {X : Cx} {A : Around} {W : Wd} {H : Hp} {s : Shared} {E : Value → Shared → Prop}

theorem VRs.toArr {vs : Array Value} {xs : List V} (h : VRs X W vs.toList xs) : vs.size = xs.length := by rw [← h.length]; simp

theorem addLists_ok {a b : Value} {x y : V} {xs ys : List V} {fz : Bool} {Q : Value → Shared → Prop} (R : RelH X W H s.heap) (ha : VR X W a x) (hb : VR X W b y) (ex : asList H x = some xs) (ey : asList H y = some ys) (hz : (xs ++ ys).length ≤ SZ)
    (h : ∀ v' s' W' H', Tc X W H s W' H' s' → Res X fz H (.newList (xs ++ ys)) v' W' H' → Q v' s') : wpAny (model X.prog X.w) A (binaryOp .Add a b) Q E s := by
  obtain ⟨l, vs, n, rfl, hg, hv, q, z⟩ := ha.isLst R ex
  obtain ⟨l2, vs2, n2, rfl, hg2, hv2, q2, z2⟩ := hb.isLst R ey
  have hz' : vs.size + vs2.size ≤ sizeLine := by rw [z, z2, ← List.length_append]; exact szLine hz
  refine concat_meets ⟨_, hg, rfl⟩ ⟨_, hg2, rfl⟩ noFill_list_add seq_list_add PySem.F.slot_list_add PySem.F.entry_list_add (PySem.F.args_list_add_2 _ _) (list_addW l l2 vs vs2 n n2 none none #[] #[] hz') ⟨hg, hg2, ?_⟩
  exact res_list (n := 0) R (vs := vs ++ vs2) (by rw [Array.toList_append]; exact hv.append hv2) hz (fun _ _ e => Heap.get?_push_of_some _ e) (Heap.get?_push_size _ rfl) h

theorem intV_ok {f : Int → Int → Option LV} {a b : Value} {x y : V} {r : LV} (ha : VR X W a x) (hb : VR X W b y) (e : intV f x y = some r) : ∃ i j t u, a = .int i t ∧ b = .int j u ∧ f i j = some r := by
  cases ha with
  | int i t =>
    cases hb with
    | int j u => exact ⟨i, j, t, u, rfl, rfl, e⟩
    | _ => exact nsome e
  | _ => exact nsome e
theorem add_ok {a b : Value} {x y : V} {r : LV} {fz : Bool} {Q : Value → Shared → Prop} (R : RelH X W H s.heap) (ha : VR X W a x) (hb : VR X W b y) (e : addV H x y = some r) (hz : ∀ xs, r = .newList xs → xs.length ≤ SZ)
    (h : ∀ v' s' W' H', Tc X W H s W' H' s' → Res X fz H r v' W' H' → Q v' s') : wpAny (model X.prog X.w) A (binaryOp .Add a b) Q E s := by
  have lst : (match asList H x with | some xs => (match asList H y with | some ys => some (LV.newList (xs ++ ys)) | none => none) | none => none) = some r → wpAny (model X.prog X.w) A (binaryOp .Add a b) Q E s := fun e => by
    split at e
    · rename_i xs ex
      split at e
      · rename_i ys ey
        cases e
        exact addLists_ok R ha hb ex ey (hz _ rfl) h
      · cases e
    · cases e
  cases ha with
  | int i t =>
    cases hb with
    | int j u => cases e; exact add_int (res_val R (.int ..) h)
    | _ => exact nsome e
  | str i t o1 z1 =>
    cases hb with
    | str j u o2 z2 =>
      have e' : (if i.length + j.length ≤ SZ then some (LV.val (.str (i ++ j))) else none) = some r := e
      split at e'
      · rename_i hl
        cases e'
        refine PyProof.Rows.add_str (fun t' tk => ?_) (szLine hl)
        exact res_val R (.str _ _ (strOk_append o1 o2) (by rw [len_append]; exact hl)) h
      · cases e'
    | _ => exact nsome e
  | lst _ _ _ => exact lst e
  | ref _ => exact lst e
  | _ => exact nsome e
theorem bin_ok {op : BOp} {a b : Value} {x y : V} {r : LV} {fz : Bool} {Q : Value → Shared → Prop} (R : RelH X W H s.heap) (ha : VR X W a x) (hb : VR X W b y) (e : binV H op x y = some r) (hz : ∀ xs, r = .newList xs → xs.length ≤ SZ)
    (h : ∀ v' s' W' H', Tc X W H s W' H' s' → Res X fz H r v' W' H' → Q v' s') : wpAny (model X.prog X.w) A (binaryOp (opOf op) a b) Q E s := by
  cases op with
  | add => exact add_ok R ha hb e hz h
  | sub =>
    obtain ⟨i, j, t, u, rfl, rfl, e⟩ := intV_ok ha hb e
    cases e; exact sub_int (res_val R (.int ..) h)
  | mul =>
    obtain ⟨i, j, t, u, rfl, rfl, e⟩ := intV_ok ha hb e
    split at e
    · rename_i hm
      cases e
      refine PyProof.Rows.mul_int (res_val R (.int ..) h) ?_
      rcases hm with hm | hm
      · exact IntMulOk.of_left (intBits_le_64 (by omega) (by omega))
      · exact IntMulOk.of_right (intBits_le_64 (by omega) (by omega))
    · cases e
  | fdiv =>
    obtain ⟨i, j, t, u, rfl, rfl, e⟩ := intV_ok ha hb e
    split at e
    · cases e
    · rename_i hd
      cases e
      exact floordiv_int (by omega) (res_val R (.int ..) h) (.inl (PyProof.noPylong_small (by omega)))
  | mod =>
    obtain ⟨i, j, t, u, rfl, rfl, e⟩ := intV_ok ha hb e
    split at e
    · cases e
    · rename_i hd
      cases e
      exact mod_int' (by omega) (res_val R (.int ..) h)
  | pow =>
    obtain ⟨i, j, t, u, rfl, rfl, e⟩ := intV_ok ha hb e
    split at e
    · rename_i hp
      cases e
      refine pow_int hp.1 ?_ (res_val R (.int ..) h)
      have h64 : Builtin.Int.intBits i ≤ 64 := intBits_le_64 (by omega) (by omega)
      have : (Builtin.Int.intBits i : Int) * j ≤ 64 * 64 := Int.mul_le_mul (by omega) hp.2.1 hp.1 (by omega)
      omega
    · cases e
  | bor => exact nsome e

/-! comparisons -/
theorem anyEq_ok {a b : Value} {x : V} {xs : List V} {r : Bool} (R : RelH X W H s.heap) (hu : Room A) (ha : VR X W a x) (e : anyEq H x xs = some r) {vs : Array Value} (hv : VRs X W vs.toList xs) :
    ∃ as bs d ds, Reads s.heap a d as ∧ ReadsAll s.heap vs.toList ds bs ∧ d.canLay0 = true ∧ PyData.canLayAll0 ds = true ∧ (ds.any fun y => PyData.eqv y d) = r ∧ A.units + 1 + min (PyData.depthAll ds) d.depth < cLine := by
  unfold anyEq at e
  split at e
  · rename_i u v eu ev
    cases e
    have P := deepN_data R _ _ _ _ ha eu
    have Q := deepL_data (fun v x y a q => deepN_data R 11 v x y a q) hv ev
    obtain ⟨as, ra⟩ := P.rd
    obtain ⟨bs, rb⟩ := Q.rd
    refine ⟨as, bs, _, _, ra, rb, P.lay, Q.lay, ?_, ?_⟩
    · have hd := Q.d
      clear rb ev Q hv
      induction v with
      | nil => rfl
      | cons z zs ih =>
        simp only [isDs, Bool.and_eq_true] at hd
        simp only [toPys, List.any_cons, eqD_eqv z u hd.1 P.d, ih hd.2]
    · have := P.dp; unfold Room at hu; omega
  · cases e

theorem in_ok {a b : Value} {x y : V} {r : Bool} {Q : Value → Shared → Prop} (R : RelH X W H s.heap) (hu : Room A) (ha : VR X W a x) (hb : VR X W b y) (e : isIn H x y = some r) :
    ((∀ tk, Q (.bool r) { s with toks := tk }) → wpAny (model X.prog X.w) A (compareOp .In a b) Q E s) ∧ ((∀ tk, Q (.bool (!r)) { s with toks := tk }) → wpAny (model X.prog X.w) A (compareOp .NotIn a b) Q E s) := by
  have lst : ∀ xs, asList H y = some xs → anyEq H x xs = some r → ((∀ tk, Q (.bool r) { s with toks := tk }) → wpAny (model X.prog X.w) A (compareOp .In a b) Q E s) ∧ ((∀ tk, Q (.bool (!r)) { s with toks := tk }) → wpAny (model X.prog X.w) A (compareOp .NotIn a b) Q E s) := fun xs ex ea => by
    obtain ⟨l, vs, n, rfl, hg, hv, q, z⟩ := hb.isLst R ex
    obtain ⟨as, bs, d, ds, ra, rb, c1, c2, he, hu'⟩ := anyEq_ok R hu ha ea hv (b := a)
    have rl := reads_list' hg rb
    exact ⟨fun h => SeqAt.in_list_reads rl ra c2 c1 hu' (by rw [he]; exact h s.toks), fun h => SeqAt.notIn_list_reads rl ra c2 c1 hu' (by rw [he]; exact h s.toks)⟩
  unfold isIn at e
  split at e
  · exact lst _ rfl e
  · rename_i xs
    obtain ⟨l, vs, rfl, hg, hv, q, z⟩ := hb.isTup R
    obtain ⟨as, bs, d, ds, ra, rb, c1, c2, he, hu'⟩ := anyEq_ok R hu ha e hv (b := a)
    obtain ⟨o, ho, hc, n, hd⟩ := hg
    have rl : Reads s.heap (.ref l) (.tuple ds) bs := .tuple ho hc hd rb
    exact ⟨fun h => SeqAt.in_tuple_reads rl ra c2 c1 hu' (by rw [he]; exact h s.toks), fun h => SeqAt.notIn_tuple_reads rl ra c2 c1 hu' (by rw [he]; exact h s.toks)⟩
  · cases e
  · rename_i i
    split at e
    · rename_i xs hg
      exact lst xs (by simp only [asList, hg]) e
    · cases e
    · cases e
  · cases e

theorem cmp_ok {op : COp} {a b : Value} {x y : V} {r : Bool} {Q : Value → Shared → Prop} (R : RelH X W H s.heap) (hu : Room A) (ha : VR X W a x) (hb : VR X W b y) (e : cmpV H op x y = some r) (h : ∀ tk, Q (.bool r) { s with toks := tk }) :
    wpAny (model X.prog X.w) A (compareOp (cmpOf op) a b) Q E s := by
  have hs : Q (.bool r) s := h s.toks
  cases op with
  | eq => exact eq_ok R hu ha hb e E hs
  | ne =>
    simp only [cmpV] at e
    split at e
    · rename_i q eq; cases e; exact ne_ok R hu ha hb eq E hs
    · cases e
  | lt =>
    simp only [cmpV] at e
    unfold ltV at e
    split at e
    · cases e; cases ha; cases hb; exact lt_int hs
    · cases e
  | le =>
    simp only [cmpV] at e
    unfold leV at e
    split at e
    · cases e; cases ha; cases hb; exact le_int hs
    · cases e
  | gt =>
    simp only [cmpV] at e
    unfold ltV at e
    split at e
    · cases e; cases ha; cases hb; exact gt_int hs
    · cases e
  | ge =>
    simp only [cmpV] at e
    unfold leV at e
    split at e
    · cases e; cases ha; cases hb; exact ge_int hs
    · cases e
  | isIn => exact (in_ok R hu ha hb e).1 h
  | notIn =>
    simp only [cmpV] at e
    split at e
    · rename_i q eq; cases e; exact (in_ok R hu ha hb eq).2 h
    · cases e
  | is => exact is_ok ha hb e hs
  | isNot =>
    simp only [cmpV] at e
    split at e
    · rename_i q eq; cases e; exact isNot_ok ha hb eq hs
    · cases e

end
end Mine
end

section
namespace Mine
open PySem PySem.W PySem.Calls PyProof.Rows

section
variable {X : Cx} {A : Around} {W : Wd} {H : Hp} {s : Shared} {E : Value → Shared → Prop}

theorem arr_get {vs : Array Value} {xs : List V} (h : VRs X W vs.toList xs) {k : Nat} {x : V} (e : xs[k]? = some x) : ∃ v, vs[k]? = some v ∧ VR X W v x := by
  obtain ⟨v, q, r⟩ := h.get e
  exact ⟨v, by simpa using q, r⟩

theorem pyIdx_pos {i : Int} {n k : Nat} (e : pyIdx i n = some k) (h : 0 ≤ i) : k = i.toNat ∧ i < n := by
  unfold pyIdx at e
  rw [if_pos h] at e
  split at e
  · cases e; exact ⟨rfl, by assumption⟩
  · cases e
theorem pyIdx_neg {i : Int} {n k : Nat} (e : pyIdx i n = some k) (h : i < 0) : k = (i + n).toNat ∧ -(n : Int) ≤ i := by
  unfold pyIdx at e
  rw [if_neg (by omega)] at e
  split at e
  · cases e; exact ⟨rfl, by omega⟩
  · cases e
theorem pyIdx_seq {i : Int} {n k : Nat} (e : pyIdx i n = some k) : seqIndex? i n = some k := by
  unfold seqIndex?
  by_cases h : 0 ≤ i
  · obtain ⟨rfl, hk⟩ := pyIdx_pos e h
    have : ¬ i < 0 := by omega
    simp [this, h, hk]
  · have h' : i < 0 := by omega
    obtain ⟨rfl, hk⟩ := pyIdx_neg e h'
    have : 0 ≤ i + n := by omega
    have : i + n < n := by omega
    simp_all

theorem sub_tail {o i : Value} {value slice : Expr} {T id : String} {Q : Value → Shared → Prop} (hT : s.TypeIs o T) (hl : typeLookup (.type T) "__getitem__" = pure (some (.builtin id)))
    (h : wpAny (model X.prog X.w) A (getItem o i) Q E s) : wpAny (model X.prog X.w) A (subscriptTail value slice o i) Q E s := by
  unfold subscriptTail
  refine wpAny_bind ?_
  rw [getitemInPython_of_ne hT.not_modules]
  refine wpAny_bind (wpAny_specialOf hT hl ?_)
  have fin : wpAny (model X.prog X.w) A (subscripted slice false o i) (fun r s₃ => wpAny (model X.prog X.w) A (letTemporaryGo value o r >>= fun _ => pure r) Q E s₃) E s := by
    have key : wpAny (model X.prog X.w) A (getItem o i) (fun r s₃ => wpAny (model X.prog X.w) A (letTemporaryGo value o r >>= fun _ => pure r) Q E s₃) E s :=
      wpAny_mono h (fun r s₃ h₃ => wpAny_bind (wpAny_letTemporaryGo (wpAny_pure h₃))) fun _ _ x => x
    unfold subscripted
    split
    · exact wpAny_operating key
    · cases ‹_ = true›
    · exact wpAny_operating key
  first
    | exact wpAny_pure (wpAny_bind fin)
    | exact wpAny_bind (wpAny_pure (wpAny_bind fin))
    | exact wpAny_bind fin

theorem idx_ok {a b : Value} {x y r : V} {value slice : Expr} {Q : Value → Shared → Prop} (R : RelH X W H s.heap) (ha : VR X W a x) (hb : VR X W b y) (e : idxV H x y = some r)
    (h : ∀ v tk, VR X W v r → Q v { s with toks := tk }) : wpAny (model X.prog X.w) A (subscriptTail value slice a b) Q E s := by
  have lst : ∀ xs i k, asList H x = some xs → y = .int i → pyIdx i xs.length = some k → xs[k]? = some r → wpAny (model X.prog X.w) A (subscriptTail value slice a b) Q E s := fun xs i k ex ey ek er => by
    subst ey
    obtain ⟨l, vs, n, rfl, hg, hv, q, z⟩ := ha.isLst R ex
    cases hb with | int _ t =>
    obtain ⟨v, hx, hr⟩ := arr_get hv er
    refine sub_tail ⟨_, hg, rfl⟩ list_getitem_lookup ?_
    by_cases h0 : 0 ≤ i
    · obtain ⟨rfl, hk⟩ := pyIdx_pos ek h0
      exact wpAny_getItem_list (isList_of hg) h0 (by have := sz63 q; omega) hx (h v s.toks hr)
    · obtain ⟨rfl, hk⟩ := pyIdx_neg ek (by omega)
      exact wpAny_getItem_list_neg (isList_of hg) (by omega) (by rw [z]; exact hk) (by have := sz63 q; omega) (by rw [z]; exact hx) (h v s.toks hr)
  unfold idxV at e
  split at e
  · rename_i xs i
    split at e
    · rename_i k ek; exact lst xs i k rfl rfl ek e
    · cases e
  · rename_i xs i
    split at e
    · rename_i k ek
      obtain ⟨l, vs, rfl, hg, hv, q, z⟩ := ha.isTup R
      cases hb with | int _ t =>
      obtain ⟨v, hx, hr⟩ := arr_get hv e
      refine sub_tail hg.typeIs slot_tuple_getitem.lookup (getItem_tuple hg ?_ ?_ (by rw [z]; exact pyIdx_seq ek) hx (h v s.toks hr))
      · have := sz63 q
        by_cases h0 : 0 ≤ i
        · omega
        · have := pyIdx_neg ek (by omega); omega
      · have := sz63 q
        by_cases h0 : 0 ≤ i
        · have := pyIdx_pos ek h0; omega
        · omega
    · cases e
  · rename_i t i
    split at e
    · rename_i h0
      split at e
      · rename_i c hc
        cases e
        cases ha with | str _ u ok z => cases hb with | int _ w =>
          have hlt : i.toNat < t.cps.size := (Array.getElem?_eq_some_iff.mp hc).1
          have hL : t.length = t.cps.size := rfl
          have z63 := sz63 z
          refine sub_tail (typeIs_str s _ _) slot_str_getitem.lookup (PyProof.Rows.getItem_str ?_ ?_ ?_ (c := c))
          · simp; omega
          · have : pyIdx i t.length = some i.toNat := by unfold pyIdx; rw [if_pos h0, if_pos (by omega)]
            rw [pyIdx_seq this]; exact hc
          · refine h _ _ (.str _ _ ?_ ?_)
            · have hok : (t.cps.all (· < 0x110000)) = true := ok
              rw [Array.all_eq_true] at hok
              have := hok i.toNat hlt
              rw [(Array.getElem?_eq_some_iff.mp hc).2] at this
              show ((#[c] : Array Nat).all (· < 0x110000)) = true
              simpa using this
            · show (#[c] : Array Nat).size ≤ SZ
              simp [SZ]
      · cases e
    · cases e
  · rename_i i k
    split at e
    · rename_i xs hg
      split at e
      · rename_i i'
        split at e
        · rename_i k' ek; exact lst xs _ _ (by simp only [asList, hg]) rfl ek e
        · cases e
      · cases e
    · cases e
    · cases e
  · cases e

/-! slices -/
theorem clamp_eq {x : Int} {n : Nat} (h : 0 ≤ x) : min x (n : Int) = ((min x.toNat n : Nat) : Int) := by omega
theorem max0 {n : Nat} : max 0 (n : Int) = n := Int.max_eq_right (Int.natCast_nonneg n)
theorem take_cut {α : Type} (l : List α) (a b : Nat) : (l.drop (min a l.length)).take (min b l.length - min a l.length) = (l.drop a).take (b - a) := by
  rw [kmk_drop_min]
  by_cases c1 : a ≤ l.length
  · rw [Nat.min_eq_left c1]
    by_cases c2 : b ≤ l.length
    · rw [Nat.min_eq_left c2]
    · rw [Nat.min_eq_right (Nat.le_of_not_le c2), List.take_of_length_le (by rw [List.length_drop]; exact Nat.le_refl _), List.take_of_length_le (by rw [List.length_drop]; exact Nat.sub_le_sub_right (Nat.le_of_not_le c2) _)]
  · rw [List.drop_of_length_le (Nat.le_of_not_le c1)]; simp
theorem pick_list {vs : Array Value} {xs : List V} (hv : VRs X W vs.toList xs) {lo hi : Option Int} (h1 : notNeg lo = true) (h2 : notNeg hi = true) : VRs X W (slicePick vs lo hi none).toList (slL xs lo hi) := by
  have key : ∀ (a b : Nat), sliceBounds lo hi none vs.size = ((a : Int), (b : Int), 1) → VRs X W (slicePick vs lo hi none).toList ((xs.drop a).take (b - a)) := fun a b e => by
    rw [kmk_pick_nat _ e]
    exact (hv.drop a).take (b - a)
  have z := hv.toArr
  have neg : ∀ {x : Int}, 0 ≤ x → ¬ x < 0 := fun h => Int.not_lt.mpr h
  cases lo with
  | none =>
    cases hi with
    | none =>
      have := key 0 vs.size (by simp [sliceBounds])
      rw [z] at this
      simpa [slL] using this
    | some y =>
      have hy : 0 ≤ y := of_decide_eq_true h2
      have e : sliceBounds none (some y) none vs.size = (((0 : Nat) : Int), ((min y.toNat vs.size : Nat) : Int), 1) := by
        simp only [sliceBounds, Option.getD_none, show (1 : Int) > 0 by decide, if_true, if_neg (neg hy), clamp_eq hy]
        rfl
      have := key _ _ e
      rw [z, Nat.sub_zero, List.drop_zero, kmk_take_min] at this
      exact this
  | some x =>
    have hx : 0 ≤ x := of_decide_eq_true h1
    cases hi with
    | none =>
      have e : sliceBounds (some x) none none vs.size = (((min x.toNat vs.size : Nat) : Int), ((vs.size : Nat) : Int), 1) := by
        simp only [sliceBounds, Option.getD_none, show (1 : Int) > 0 by decide, if_true, if_neg (neg hx), clamp_eq hx, max0]
      have := key _ _ e
      rw [z, kmk_drop_min, List.take_of_length_le (by rw [List.length_drop]; exact Nat.sub_le_sub_left (Nat.min_le_left _ _) _)] at this
      exact this
    | some y =>
      have hy : 0 ≤ y := of_decide_eq_true h2
      have e : sliceBounds (some x) (some y) none vs.size = (((min x.toNat vs.size : Nat) : Int), ((min y.toNat vs.size : Nat) : Int), 1) := by
        simp only [sliceBounds, Option.getD_none, show (1 : Int) > 0 by decide, if_true, if_neg (neg hx), if_neg (neg hy), clamp_eq hx, clamp_eq hy, max0]
      have := key _ _ e
      rw [z, take_cut] at this
      exact this

theorem part_of {v : Value} {o : Option V} {i : Option Int} (hv : VR X W v (o.getD .none)) (e : optInt o = some i) : IsPart v i := by
  unfold optInt at e
  split at e
  · cases e; cases hv; exact .none
  · cases e; cases hv; exact .int _ _
  · cases e
/-- the slice object, then the item -/
theorem sl_ok {a vl vu : Value} {x : V} {lo hi : Option Int} {r : LV} {value slice : Expr} {fz : Bool} {Q : Value → Shared → Prop} (R : RelH X W H s.heap) (ha : VR X W a x) (pl : IsPart vl lo) (pu : IsPart vu hi) (e : slV H x lo hi = some r)
    (hz : ∀ xs, r = .newList xs → xs.length ≤ SZ) (h : ∀ v' s' W' H', Tc X W H s W' H' s' → Res X fz H r v' W' H' → Q v' s') :
    wpAny (model X.prog X.w) A (newFields "slice" [vl, vu, .none]) (fun i s₁ => wpAny (model X.prog X.w) A (subscriptTail value slice a i) Q E s₁) E s := by
  refine wpAny_newObj_type ?_
  have hp : ∀ b ob, s.heap.get? b = some ob → (s.heap.push { cls := .type "slice", data := .fields #[vl, vu, .none] }).get? b = some ob := fun _ _ q => Heap.get?_push_of_some _ q
  have R₁ : RelH X W H (s.heap.push { cls := .type "slice", data := .fields #[vl, vu, .none] }) := R.quiet (Pv := noPv) (fun a o q _ => hp a o q) fun _ z => z.elim
  have S₁ : Stp noPv W H s.heap W H (s.heap.push { cls := .type "slice", data := .fields #[vl, vu, .none] }) := .quiet (fun a o q _ => hp a o q) fun a o q => ⟨o, hp a o q⟩
  unfold slV at e
  split at e
  · cases e
  · rename_i v hv
    split at e
    · rename_i xs ex
      split at e
      · rename_i hn
        cases e
        rw [Bool.and_eq_true] at hn
        obtain ⟨l, vs, n, rfl, hg, hv, q, z⟩ := ha.isLst R ex
        have hg₁ := hp _ _ hg
        refine sub_tail (s := { s with heap := s.heap.push { cls := .type "slice", data := .fields #[vl, vu, .none] } }) ⟨_, hg₁, rfl⟩ list_getitem_lookup
          (wpAny_getItem_list_slice (isList_of hg₁) (Heap.IsSliceOf.new ..) pl pu .none (by simp) ?_ (by rw [z]; exact szLine q))
        refine res_list (fz := fz) (n := 0) (s := { s with heap := s.heap.push { cls := .type "slice", data := .fields #[vl, vu, .none] } }) (tk := s.toks) R₁ (pick_list hv hn.1 hn.2) (hz _ rfl) (fun _ _ e => Heap.get?_push_of_some _ e) (Heap.get?_push_size _ rfl) fun v' s' W' H' T r => ?_
        exact h v' s' W' H' ⟨S₁.trans T.stp, T.rel, ⟨T.rest.gens, T.rest.drawn, T.rest.os⟩⟩ r
      · cases e
    · cases e
theorem rev_ok {a : Value} {x : V} {xs : List V} {t : Tok} {value slice : Expr} {fz : Bool} {Q : Value → Shared → Prop} (R : RelH X W H s.heap) (ha : VR X W a x) (e : asList H x = some xs) 
    (h : ∀ v' s' W' H', Tc X W H s W' H' s' → Res X fz H (.newList xs.reverse) v' W' H' → Q v' s') :
    wpAny (model X.prog X.w) A (newFields "slice" [.none, .none, .int (-1) t]) (fun i s₁ => wpAny (model X.prog X.w) A (subscriptTail value slice a i) Q E s₁) E s := by
  refine wpAny_newObj_type ?_
  have hp : ∀ b ob, s.heap.get? b = some ob → (s.heap.push { cls := .type "slice", data := .fields #[.none, .none, .int (-1) t] }).get? b = some ob := fun _ _ q => Heap.get?_push_of_some _ q
  have R₁ : RelH X W H (s.heap.push { cls := .type "slice", data := .fields #[.none, .none, .int (-1) t] }) := R.quiet (Pv := noPv) (fun a o q _ => hp a o q) fun _ z => z.elim
  have S₁ : Stp noPv W H s.heap W H (s.heap.push { cls := .type "slice", data := .fields #[.none, .none, .int (-1) t] }) := .quiet (fun a o q _ => hp a o q) fun a o q => ⟨o, hp a o q⟩
  obtain ⟨l, vs, n, rfl, hg, hv, q, z⟩ := ha.isLst R e
  have hg₁ := hp _ _ hg
  refine sub_tail (s := { s with heap := s.heap.push { cls := .type "slice", data := .fields #[.none, .none, .int (-1) t] } }) ⟨_, hg₁, rfl⟩ list_getitem_lookup
    (wpAny_getItem_list_slice (isList_of hg₁) (Heap.IsSliceOf.new ..) .none .none (.int (-1) t) (by simp) ?_ (by rw [z]; exact szLine q))
  rw [krv_pick]
  refine res_list (fz := fz) (n := 0) (s := { s with heap := s.heap.push { cls := .type "slice", data := .fields #[.none, .none, .int (-1) t] } }) (tk := s.toks) R₁ (xs := xs.reverse) (by simpa using hv.reverse) (by rw [List.length_reverse]; exact q) (fun _ _ e => Heap.get?_push_of_some _ e) (Heap.get?_push_size _ rfl) fun v' s' W' H' T r => ?_
  exact h v' s' W' H' ⟨S₁.trans T.stp, T.rel, ⟨T.rest.gens, T.rest.drawn, T.rest.os⟩⟩ r

/-! built-in functions -/
theorem isi_no {P : Prog} {k : Kd} {y : V} {b : Bool} {p : Prop} (e : isInst1 P k y = some b) (hk : kNo k = none := by rfl) : p := by
  unfold isInst1 at e
  rw [hk] at e
  split at e
  · split at e <;> cases e
  · cases e
theorem isi_ok {P : Prog} {v t : Value} {x y : V} {b : Bool} {Q : Value → Shared → Prop} (R : RelH X W H s.heap) (hv : VR X W v x) (ht : VR X W t y) (e : isInstV P H x y = some b) (h : ∀ tk, Q (.bool b) { s with toks := tk }) :
    wpAny (model X.prog X.w) A (call (.builtin "isinstance") [v, t]) Q E s := by
  unfold isInstV at e
  split at e
  · rename_i k ek
    have list : ∀ l vs n, v = .ref l → s.heap.get? l = some (lstO vs n) → k = .list → wpAny (model X.prog X.w) A (call (.builtin "isinstance") [v, t]) Q E s := fun l vs n e1 hg e2 => by
      subst e1 e2
      cases ht <;> first | exact nsome e | skip
      rename_i bb
      cases bb <;> first | exact nsome e | skip
      · cases e; exact IsiPair.list_int hg rfl (h _)
      · cases e; exact IsiPair.list_bool hg rfl (h _)
      · cases e; exact IsiPair.list_list hg rfl (h s.toks)
      · cases e; exact IsiPair.list_tuple hg rfl (h _)
      · cases e; exact IsiPair.list_str hg rfl (h _)
    cases hv with
    | none =>
      cases ek
      cases ht <;> first | exact nsome e | skip
      rename_i bb
      cases bb <;> first | exact nsome e | skip
      · cases e; exact IsiPair.NoneType_int (h _)
      · cases e; exact IsiPair.NoneType_bool (h _)
      · cases e; exact IsiPair.NoneType_list (h _)
      · cases e; exact IsiPair.NoneType_tuple (h _)
      · cases e; exact IsiPair.NoneType_str (h _)
    | bool c =>
      cases ek
      cases ht <;> first | exact nsome e | skip
      rename_i bb
      cases bb <;> first | exact nsome e | skip
      · cases e; exact IsiPair.bool_int (h s.toks)
      · cases e; exact IsiPair.bool_bool (h s.toks)
      · cases e; exact IsiPair.bool_list (h _)
      · cases e; exact IsiPair.bool_tuple (h _)
      · cases e; exact IsiPair.bool_str (h _)
    | int i u =>
      cases ek
      cases ht <;> first | exact nsome e | skip
      rename_i bb
      cases bb <;> first | exact nsome e | skip
      · cases e; exact IsiPair.int_int (h s.toks)
      · cases e; exact IsiPair.int_bool (h _)
      · cases e; exact IsiPair.int_list (h _)
      · cases e; exact IsiPair.int_tuple (h _)
      · cases e; exact IsiPair.int_str (h _)
    | str c u _ _ =>
      cases ek
      cases ht <;> first | exact nsome e | skip
      rename_i bb
      cases bb <;> first | exact nsome e | skip
      · cases e; exact IsiPair.str_int (h _)
      · cases e; exact IsiPair.str_bool (h _)
      · cases e; exact IsiPair.str_list (h _)
      · cases e; exact IsiPair.str_tuple (h _)
      · cases e; exact IsiPair.str_str (h s.toks)
    | tup z r q =>
      cases ek
      have hg := R.z _ _ z
      cases ht <;> first | exact nsome e | skip
      rename_i bb
      cases bb <;> first | exact nsome e | skip
      · cases e; exact IsiPair.tuple_int hg rfl (h _)
      · cases e; exact IsiPair.tuple_bool hg rfl (h _)
      · cases e; exact IsiPair.tuple_list hg rfl (h _)
      · cases e; exact IsiPair.tuple_tuple hg rfl (h s.toks)
      · cases e; exact IsiPair.tuple_str hg rfl (h _)
    | lst z r q => cases ek; exact list _ _ _ rfl (R.z _ _ z) rfl
    | rng => cases ek; exact isi_no e
    | @ref i l hl =>
      unfold kind at ek
      cases hg : H.get i with
      | none => simp [hg] at ek
      | some c =>
        cases c with
        | list xs =>
          simp only [hg] at ek
          cases ek
          obtain ⟨l', hl', vs, k, hgg, hv, _, hz⟩ := R.cell i _ hg
          have := Option.some.inj (hl'.symm.trans hl)
          subst this
          exact list _ _ _ rfl hgg rfl
        | _ => simp only [hg] at ek; cases ek; exact isi_no e
    | _ => cases ek
  · cases e

theorem rngL_get (a c : Int) : ∀ (n k : Nat), k < n → (rngL a c n)[k]? = some (.int (a + k * c))
  | 0, _, h => absurd h (Nat.not_lt_zero _)
  | n + 1, 0, _ => by simp [rngL]
  | n + 1, k + 1, h => by
    rw [rngL, List.getElem?_cons_succ, rngL_get (a + c) c n k (by omega)]
    congr 2
    rw [Int.natCast_add, Int.add_mul]; omega
theorem rngL_length (a c : Int) : ∀ n : Nat, (rngL a c n).length = n
  | 0 => rfl
  | n + 1 => by rw [rngL, List.length_cons, rngL_length (a + c) c n]
theorem VRs.one {vs : List Value} {x : V} (h : VRs X W vs [x]) : ∃ v, vs = [v] ∧ VR X W v x := by
  cases h with
  | cons a r => cases r; exact ⟨_, rfl, a⟩
theorem VRs.two {vs : List Value} {x y : V} (h : VRs X W vs [x, y]) : ∃ v w, vs = [v, w] ∧ VR X W v x ∧ VR X W w y := by
  cases h with
  | cons a r => obtain ⟨w, rfl, b⟩ := r.one; exact ⟨_, w, rfl, a, b⟩
theorem VRs.three {vs : List Value} {x y z : V} (h : VRs X W vs [x, y, z]) : ∃ v w u, vs = [v, w, u] ∧ VR X W v x ∧ VR X W w y ∧ VR X W u z := by
  cases h with
  | cons a r => obtain ⟨w, u, rfl, b, c⟩ := r.two; exact ⟨_, w, u, rfl, a, b, c⟩
theorem VRs.ofGet {vs : List Value} {xs : List V} (hl : vs.length = xs.length) (h : ∀ (k : Nat) (v : Value) (x : V), vs[k]? = some v → xs[k]? = some x → VR X W v x) : VRs X W vs xs := by
  induction vs generalizing xs with
  | nil => cases xs with
    | nil => exact .nil
    | cons => simp at hl
  | cons v vs ih => cases xs with
    | nil => simp at hl
    | cons x xs => exact .cons (h 0 v x rfl rfl) (ih (by simpa using hl) fun k v x a b => h (k + 1) v x (by simpa using a) (by simpa using b))
theorem rng_size {a b c : Int} (hc : c = 1 ∨ c = -1) : Builtin.Range.rangeSize a b c = rngN a b c := by
  unfold Builtin.Range.rangeSize rngN
  rcases hc with rfl | rfl
  · simp only [show (1 : Int) > 0 by decide, if_true, Int.ediv_one]
    split <;> omega
  · simp only [show ¬ ((-1 : Int) > 0) by decide, if_false, show (-1 : Int) ≠ 1 by decide, if_true, Int.neg_neg, Int.ediv_one]
    split <;> omega
theorem rng_small {a b c : Int} (hc : c = 1 ∨ c = -1) (ha : a.natAbs ≤ SZ) (hb : b.natAbs ≤ SZ) : Builtin.Range.small a b c = true := by
  unfold Builtin.Range.small
  rw [rng_size hc]
  unfold SZ at *
  have hn : rngN a b c ≤ 2097152 := by
    unfold rngN
    rcases hc with rfl | rfl
    · simp; omega
    · simp; omega
  have f : ∀ x : Int, x.natAbs ≤ 4194304 → Builtin.Range.rangeFitsLong x = true := fun x hx => by
    unfold Builtin.Range.rangeFitsLong
    simp
    omega
  rw [f a (by omega), f b (by omega), f _ (by omega : ((rngN a b c : Nat) : Int).natAbs ≤ 4194304)]
  rcases hc with rfl | rfl
  · rw [f 1 (by decide)]
    simp only [show (1 : Int) > 0 by decide, if_true, Bool.true_and, Bool.or_eq_true]
    exact .inr (f _ (by omega))
  · rw [f (-1) (by decide)]
    simp only [show ¬ ((-1 : Int) > 0) by decide, if_false, Bool.true_and, Bool.or_eq_true]
    exact .inr (f _ (by omega))
theorem rngN_le {a b c : Int} (ha : a.natAbs ≤ SZ) (hb : b.natAbs ≤ SZ) : rngN a b c ≤ 2 ^ 24 := by
  unfold SZ at *; unfold rngN; split
  · omega
  · split <;> omega

theorem callB1_ok {P : Prog} {b : B} {v : Value} {x : V} {r : LV} {fz : Bool} {Q : Value → Shared → Prop} (hh : A.handled = none) (R : RelH X W H s.heap) (hv1 : VR X W v x) (e : callB1 P H b x = some r) (hz : ∀ xs, r = .newList xs → xs.length ≤ SZ)
    (h : ∀ v' s' W' H', Tc X W H s W' H' s' → Res X fz H r v' W' H' → Q v' s') : wpAny (model X.prog X.w) A (call (bval b) [v]) Q E s := by
  unfold callB1 at e
  cases b with
  | len =>
    simp only at e
    split at e
    · cases e; cases hv1 with | str t u ok z => exact PySem.P.len_str (by have := sz63 z; omega) (res_val R (.int ..) h)
    · cases e
      obtain ⟨l, vs, rfl, hg, hv, q, z⟩ := hv1.isTup R
      refine len_tuple hg (by rw [z]; exact sz63 q) ?_
      rw [z]; exact res_val R (.int ..) h
    · split at e
      · rename_i xs ex
        cases e
        obtain ⟨l, vs, n, rfl, hg, hv, q, z⟩ := hv1.isLst R ex
        refine call_len_list (isList_of hg) (by rw [z]; exact sz63 q) ?_
        rw [z]; exact res_val R (.int ..) h
      · cases e
  | list =>
    simp only at e
    split at e
    · rename_i a b c
      cases e
      cases hv1 with
      | @rng rr _ _ _ t u v z p q hc =>
        refine call_list_range hh (R.z _ _ z) (rng_small hc p q) (rng_size hc) (rngN_le p q) fun h' tk acc' c' hk ha hacc => ?_
        refine res_list R (vs := acc') (VRs.ofGet ?_ fun k v x e1 e2 => ?_) (hz _ rfl) hk ha h
        · rw [rngL_length, Array.length_toList]; exact hacc.1
        · have hk' : k < rngN a b c := by
            have := (List.getElem?_eq_some_iff.mp e2).1
            rwa [rngL_length] at this
          rw [rngL_get _ _ _ _ hk'] at e2
          cases e2
          obtain ⟨t, q⟩ := hacc.2 k v (by simpa using e1)
          rw [q]; exact .int _ _
    · cases e
      obtain ⟨l, vs, rfl, ⟨o, ho, hc, n, hd⟩, hv, q, z⟩ := hv1.isTup R
      refine call_list_seq l (.inr rfl) ho hc hd (fun h' c' hk ha => ?_) (by rw [z]; exact szLine q)
      exact res_list R hv q hk ha h (tk := s.toks)
    · split at e
      · rename_i xs ex
        cases e
        obtain ⟨l, vs, n, rfl, hg, hv, q, z⟩ := hv1.isLst R ex
        refine call_list_seq l (.inl rfl) hg rfl rfl (fun h' c' hk ha => ?_) (by rw [z]; exact szLine q)
        exact res_list R hv q hk ha h (tk := s.toks)
      · cases e
  | tuple =>
    simp only at e
    split at e
    · rename_i xs ex
      cases e
      obtain ⟨l, vs, n, rfl, hg, hv, q, z⟩ := hv1.isLst R ex
      refine call_tuple_list (isList_of hg) (fun h' hk => ?_) (by rw [z]; exact szLine q)
      have hn : s.heap.get? h'.objs.size = none := by
        cases q : s.heap.get? h'.objs.size with
        | none => rfl
        | some o => exact absurd (Heap.lt_size (hk _ _ q)) (Nat.lt_irrefl _)
      have T : Tc X W H s (W.addZ h'.objs.size (tupO vs 0)) H { s with heap := h'.push (tupO vs 0), toks := s.toks } := Tc.frozen R (fun b o e => Heap.get?_push_of_some _ (hk b o e)) hn (Heap.get?_push_size _ rfl)
      exact h _ _ _ _ T ⟨.tup addZ_self (hv.le (R.leZ hn)) q, rfl⟩
    · cases e
  | int =>
    cases hv1 with
    | bool c => cases e; exact PySem.call_int_bool (res_val R (.int ..) h)
    | _ => exact nsome e
  | range =>
    cases hv1 with
    | int n t =>
      simp only at e
      split at e
      · rename_i hn
        cases e
        refine call_range_1 ?_
        exact h _ _ _ _ (Tc.pushZ R rfl) ⟨.rng addZ_self (by decide) hn (.inl rfl), rfl⟩
      · cases e
    | _ => exact nsome e
  | _ => exact nsome e
theorem callB2_ok {P : Prog} {b : B} {v w : Value} {x y : V} {r : LV} {fz : Bool} {Q : Value → Shared → Prop} (hh : A.handled = none) (R : RelH X W H s.heap) (h1 : VR X W v x) (h2 : VR X W w y) (e : callB2 P H b x y = some r)
    (h : ∀ v' s' W' H', Tc X W H s W' H' s' → Res X fz H r v' W' H' → Q v' s') : wpAny (model X.prog X.w) A (call (bval b) [v, w]) Q E s := by
  unfold callB2 at e
  cases b with
  | isinstance =>
    simp only at e
    split at e
    · rename_i bb eb; cases e; exact isi_ok R h1 h2 eb fun tk => res_val R (.bool _) h
    · cases e
  | max =>
    obtain ⟨i, j, t, u, rfl, rfl, e⟩ := intV_ok h1 h2 e
    cases e
    refine max_two_ints hh fun h' tk hk => ?_
    have T : Tc X W H s W H { s with heap := h', toks := tk } := ⟨.quiet (fun a o q _ => hk a o q) fun a o q => ⟨o, hk a o q⟩, R.quiet (Pv := noPv) (fun a o q _ => hk a o q) fun _ z => z.elim, ⟨rfl, rfl, rfl⟩⟩
    split
    · rename_i c; exact h _ _ _ _ T ⟨by rw [if_pos c]; exact .int _ _, rfl⟩
    · rename_i c; exact h _ _ _ _ T ⟨by rw [if_neg c]; exact .int _ _, rfl⟩
  | min =>
    obtain ⟨i, j, t, u, rfl, rfl, e⟩ := intV_ok h1 h2 e
    cases e
    refine min_two_ints hh fun h' tk hk => ?_
    have T : Tc X W H s W H { s with heap := h', toks := tk } := ⟨.quiet (fun a o q _ => hk a o q) fun a o q => ⟨o, hk a o q⟩, R.quiet (Pv := noPv) (fun a o q _ => hk a o q) fun _ z => z.elim, ⟨rfl, rfl, rfl⟩⟩
    split
    · rename_i c; exact h _ _ _ _ T ⟨by rw [if_pos c]; exact .int _ _, rfl⟩
    · rename_i c; exact h _ _ _ _ T ⟨by rw [if_neg c]; exact .int _ _, rfl⟩
  | range =>
    obtain ⟨i, j, t, u, rfl, rfl, e⟩ := intV_ok h1 h2 e
    split at e
    · rename_i hn
      cases e
      refine call_range_2 ?_
      exact h _ _ _ _ (Tc.pushZ R rfl) ⟨.rng addZ_self hn.1 hn.2 (.inl rfl), rfl⟩
    · cases e
  | _ => exact nsome e
theorem callB3_ok {b : B} {u v w : Value} {x y z : V} {r : LV} {fz : Bool} {Q : Value → Shared → Prop} (R : RelH X W H s.heap) (h1 : VR X W u x) (h2 : VR X W v y) (h3 : VR X W w z) (e : callB3 b x y z = some r)
    (h : ∀ v' s' W' H', Tc X W H s W' H' s' → Res X fz H r v' W' H' → Q v' s') : wpAny (model X.prog X.w) A (call (bval b) [u, v, w]) Q E s := by
  unfold callB3 at e
  cases b with
  | range =>
    cases h3 with
    | int c t =>
      obtain ⟨i, j, t, u, rfl, rfl, e⟩ := intV_ok h1 h2 e
      split at e
      · rename_i hn
        cases e
        obtain ⟨n1, n2, rfl⟩ := hn
        refine call_range_3 (by decide) ?_ (.inl (PyProof.noPylong_small (by decide)))
        exact h _ _ _ _ (Tc.pushZ R rfl) ⟨.rng addZ_self n1 n2 (.inr rfl), rfl⟩
      · cases e
    | _ => exact nsome e
  | _ => exact nsome e
theorem callB_ok {P : Prog} {b : B} {vs : List Value} {xs : List V} {r : LV} {fz : Bool} {Q : Value → Shared → Prop} (hh : A.handled = none) (R : RelH X W H s.heap) (hv : VRs X W vs xs) (e : callB P H b xs = some r) (hz : ∀ xs, r = .newList xs → xs.length ≤ SZ)
    (h : ∀ v' s' W' H', Tc X W H s W' H' s' → Res X fz H r v' W' H' → Q v' s') : wpAny (model X.prog X.w) A (call (bval b) vs) Q E s := by
  unfold callB at e
  split at e
  · obtain ⟨v, rfl, h1⟩ := hv.one; exact callB1_ok hh R h1 e hz h
  · obtain ⟨v, w, rfl, h1, h2⟩ := hv.two; exact callB2_ok hh R h1 h2 e h
  · obtain ⟨u, v, w, rfl, h1, h2, h3⟩ := hv.three; exact callB3_ok R h1 h2 h3 e h
  · cases e
end
end Mine
end

section
namespace Mine
open PySem

/-! The P-text is the text's: a look, place by place. -/
noncomputable def kLoc (sc : Scope) (x : Str) : Bool := match sc.names.lookup x with
  | some .local | some .cell | some .free => true
  | _ => false
noncomputable def kLocal (sc : Scope) (x : Str) : Bool := match sc.names.lookup x with
  | some .local => true
  | _ => false
noncomputable def kStore (sc : Scope) (x : Str) : Bool := match sc.names.lookup x with
  | some .local | some .cell => true
  | _ => false
noncomputable def kGlob (sc : Scope) (x : Str) : Bool := match sc.names.lookup x with
  | some .globalImplicit => true
  | _ => false
noncomputable def nDbg (x : Str) : Bool := !(x == ("__debug__" : Str)) && !(x == ("__classdict__" : Str))
noncomputable def chkC : V → Const → Bool
  | .none, .none => true
  | .bool a, .bool b => a == b
  | .int a, .int b => decide (a = b)
  | .str a, .str b => decide (a = b) && PyData.strOk a && decide (a.length ≤ SZ)
  | _, _ => false
noncomputable def notSuper : Expr → Bool
  | .Call (.Name _ _) [] [] _ => false
  | _ => true
noncomputable def notSet : Expr → Bool
  | .Set _ _ _ => false
  | _ => true
noncomputable def uniq : List (Str × NameKind) → Bool
  | [] => true
  | (x, _) :: r => r.all (fun y => !(y.1 == x)) && uniq r
/-- a comprehension's scope: its own name, names from around, global names -/
noncomputable def chkSc (nm : Nat → Str) (sc sc' : Scope) (i : Nat) : Bool := (match sc'.kind with | .function => true | _ => false) && uniq sc'.names &&
  sc'.names.all fun y => match y.2 with
    | .local => y.1 == (".0" : Str) || decide (y.1 = nm i)
    | .free => (match sc.names.lookup y.1 with | some .cell | some .free => true | _ => false)
    | .globalImplicit => true
    | _ => false

/-! taking a text apart -/
noncomputable def on {α : Type} (o : Option α) (f : α → Bool) : Bool := match o with
  | some a => f a
  | none => false
theorem on_true {α : Type} {o : Option α} {f : α → Bool} (h : on o f = true) : ∃ a, o = some a ∧ f a = true := by
  cases o with
  | none => cases h
  | some a => exact ⟨a, rfl, h⟩
theorem and2 {a b : Bool} (h : (a && b) = true) : a = true ∧ b = true := by cases a <;> cases b <;> first | exact ⟨rfl, rfl⟩ | cases h
theorem and3 {a b c : Bool} (h : (a && b && c) = true) : a = true ∧ b = true ∧ c = true := let ⟨x, z⟩ := and2 h; let ⟨x, y⟩ := and2 x; ⟨x, y, z⟩
theorem and4 {a b c d : Bool} (h : (a && b && c && d) = true) : a = true ∧ b = true ∧ c = true ∧ d = true := let ⟨x, z⟩ := and2 h; let ⟨p, q, r⟩ := and3 x; ⟨p, q, r, z⟩
theorem and5 {a b c d e : Bool} (h : (a && b && c && d && e) = true) : a = true ∧ b = true ∧ c = true ∧ d = true ∧ e = true := let ⟨x, z⟩ := and2 h; let ⟨p, q, r, s⟩ := and4 x; ⟨p, q, r, s, z⟩
theorem and6 {a b c d e f : Bool} (h : (a && b && c && d && e && f) = true) : a = true ∧ b = true ∧ c = true ∧ d = true ∧ e = true ∧ f = true := let ⟨x, z⟩ := and2 h; let ⟨p, q, r, s, t⟩ := and5 x; ⟨p, q, r, s, t, z⟩

noncomputable def xConst : Expr → Option (Const × Nat × Pos) | .Constant c k p => some (c, k, p) | _ => none
noncomputable def xName : Expr → Option (Str × Pos) | .Name x p => some (x, p) | _ => none
noncomputable def xAttr : Expr → Option (Expr × Str × Pos) | .Attribute v a p => some (v, a, p) | _ => none
noncomputable def xBin : Expr → Option (Expr × Operator × Expr × Pos) | .BinOp l o r p => some (l, o, r, p) | _ => none
noncomputable def xUn : Expr → Option (UnaryOp × Expr × Pos) | .UnaryOp o x p => some (o, x, p) | _ => none
noncomputable def xCmp : Expr → Option (Expr × List CmpOp × List Expr × Pos) | .Compare l os rs p => some (l, os, rs, p) | _ => none
noncomputable def xBool : Expr → Option (BoolOp × List Expr × Pos) | .BoolOp o vs p => some (o, vs, p) | _ => none
noncomputable def xIf : Expr → Option (Expr × Expr × Expr × Pos) | .IfExp t a b p => some (t, a, b, p) | _ => none
noncomputable def xList : Expr → Option (List Expr × Pos) | .List vs p => some (vs, p) | _ => none
noncomputable def xTup : Expr → Option (List Expr × Nat × Pos) | .Tuple vs k p => some (vs, k, p) | _ => none
noncomputable def xSub : Expr → Option (Expr × Expr × Pos) | .Subscript v s p => some (v, s, p) | _ => none
noncomputable def xSl : Expr → Option (Option Expr × Option Expr × Option Expr × Pos) | .Slice l u st p => some (l, u, st, p) | _ => none
noncomputable def xCall : Expr → Option (Expr × List Expr × List Keyword × Pos) | .Call f vs ks p => some (f, vs, ks, p) | _ => none
noncomputable def xComp : Expr → Option (Expr × List Comprehension × Scope × Pos) | .ListComp e gs sc p => some (e, gs, sc, p) | _ => none
noncomputable def x1 {α : Type} : List α → Option α | [a] => some a | _ => none
noncomputable def x2 {α : Type} : List α → Option (α × α) | [a, b] => some (a, b) | _ => none
noncomputable def x0 {α : Type} : Option α → Bool | none => true | _ => false
theorem xConst_ok {e : Expr} {t : Const × Nat × Pos} (h : xConst e = some t) : e = .Constant t.1 t.2.1 t.2.2 := by cases e <;> first | exact nsome h | (cases h; rfl)
theorem xName_ok {e : Expr} {t : Str × Pos} (h : xName e = some t) : e = .Name t.1 t.2 := by cases e <;> first | exact nsome h | (cases h; rfl)
theorem xAttr_ok {e : Expr} {t : Expr × Str × Pos} (h : xAttr e = some t) : e = .Attribute t.1 t.2.1 t.2.2 := by cases e <;> first | exact nsome h | (cases h; rfl)
theorem xBin_ok {e : Expr} {t : Expr × Operator × Expr × Pos} (h : xBin e = some t) : e = .BinOp t.1 t.2.1 t.2.2.1 t.2.2.2 := by cases e <;> first | exact nsome h | (cases h; rfl)
theorem xUn_ok {e : Expr} {t : UnaryOp × Expr × Pos} (h : xUn e = some t) : e = .UnaryOp t.1 t.2.1 t.2.2 := by cases e <;> first | exact nsome h | (cases h; rfl)
theorem xCmp_ok {e : Expr} {t : Expr × List CmpOp × List Expr × Pos} (h : xCmp e = some t) : e = .Compare t.1 t.2.1 t.2.2.1 t.2.2.2 := by cases e <;> first | exact nsome h | (cases h; rfl)
theorem xBool_ok {e : Expr} {t : BoolOp × List Expr × Pos} (h : xBool e = some t) : e = .BoolOp t.1 t.2.1 t.2.2 := by cases e <;> first | exact nsome h | (cases h; rfl)
theorem xIf_ok {e : Expr} {t : Expr × Expr × Expr × Pos} (h : xIf e = some t) : e = .IfExp t.1 t.2.1 t.2.2.1 t.2.2.2 := by cases e <;> first | exact nsome h | (cases h; rfl)
theorem xList_ok {e : Expr} {t : List Expr × Pos} (h : xList e = some t) : e = .List t.1 t.2 := by cases e <;> first | exact nsome h | (cases h; rfl)
theorem xTup_ok {e : Expr} {t : List Expr × Nat × Pos} (h : xTup e = some t) : e = .Tuple t.1 t.2.1 t.2.2 := by cases e <;> first | exact nsome h | (cases h; rfl)
theorem xSub_ok {e : Expr} {t : Expr × Expr × Pos} (h : xSub e = some t) : e = .Subscript t.1 t.2.1 t.2.2 := by cases e <;> first | exact nsome h | (cases h; rfl)
theorem xSl_ok {e : Expr} {t : Option Expr × Option Expr × Option Expr × Pos} (h : xSl e = some t) : e = .Slice t.1 t.2.1 t.2.2.1 t.2.2.2 := by cases e <;> first | exact nsome h | (cases h; rfl)
theorem xCall_ok {e : Expr} {t : Expr × List Expr × List Keyword × Pos} (h : xCall e = some t) : e = .Call t.1 t.2.1 t.2.2.1 t.2.2.2 := by cases e <;> first | exact nsome h | (cases h; rfl)
theorem xComp_ok {e : Expr} {t : Expr × List Comprehension × Scope × Pos} (h : xComp e = some t) : e = .ListComp t.1 t.2.1 t.2.2.1 t.2.2.2 := by cases e <;> first | exact nsome h | (cases h; rfl)
theorem x1_ok {α : Type} {l : List α} {a : α} (h : x1 l = some a) : l = [a] := by
  match l, h with
  | [_], h => cases h; rfl
theorem x2_ok {α : Type} {l : List α} {t : α × α} (h : x2 l = some t) : l = [t.1, t.2] := by
  match l, h with
  | [_, _], h => cases h; rfl
theorem x0_ok {α : Type} {o : Option α} (h : x0 o = true) : o = none := by
  cases o with
  | none => rfl
  | some _ => cases h

noncomputable def isM1 (e : Expr) : Bool := on (xUn e) fun t => decide (t.1 = .USub) && on (xConst t.2.1) fun c => decide (c.1 = .int 1)
theorem isM1_ok {e : Expr} (h : isM1 e = true) : ∃ k p q, e = .UnaryOp .USub (.Constant (.int 1) k p) q := by
  obtain ⟨t, h1, h⟩ := on_true h
  obtain ⟨h2, h⟩ := and2 h
  obtain ⟨c, h3, h⟩ := on_true h
  refine ⟨c.2.1, c.2.2, t.2.2, ?_⟩
  rw [xUn_ok h1, xConst_ok h3, of_decide_eq_true h2, of_decide_eq_true h]

noncomputable def plainTest : Expr → Bool
  | .UnaryOp o _ _ => !decide (o = .Not)
  | .BoolOp _ _ _ => false
  | .IfExp _ _ _ _ => false
  | _ => true

mutual
noncomputable def chkE (nm : Nat → Str) (sc : Scope) : PE → Expr → Bool
  | .cst v, e => on (xConst e) fun t => chkC v t.1
  | .loc i, e => on (xName e) fun t => decide (t.1 = nm i) && kLoc sc t.1 && nDbg t.1
  | .glob i, e => on (xName e) fun t => decide (t.1 = nm i) && kGlob sc t.1 && nDbg t.1
  | .attr o n, e => on (xAttr e) fun t => chkE nm sc o t.1 && decide (t.2.1 = nm n) && notSuper t.1
  | .bin _ op l r, e => on (xBin e) fun t => decide (t.2.1 = opOf op) && chkE nm sc l t.1 && chkE nm sc r t.2.2.1
  | .neg a, e => on (xUn e) fun t => decide (t.1 = .USub) && chkE nm sc a t.2.1
  | .not a, e => on (xUn e) fun t => decide (t.1 = .Not) && chkE nm sc a t.2.1
  | .cmp op l r, e => on (xCmp e) fun t => on (x1 t.2.1) fun o => on (x1 t.2.2.1) fun r' => decide (o = cmpOf op) && chkE nm sc l t.1 && chkE nm sc r r'
  | .cmp2 o₁ o₂ a b c, e => on (xCmp e) fun t => on (x2 t.2.1) fun o => on (x2 t.2.2.1) fun r => decide (o.1 = cmpOf o₁) && decide (o.2 = cmpOf o₂) && chkE nm sc a t.1 && chkE nm sc b r.1 && chkE nm sc c r.2
  | .and es, e => on (xBool e) fun t => decide (t.1 = .And) && chkEs nm sc es t.2.1
  | .or es, e => on (xBool e) fun t => decide (t.1 = .Or) && chkEs nm sc es t.2.1
  | .ite c a b, e => on (xIf e) fun t => chkT nm sc c t.1 && chkE nm sc a t.2.1 && chkE nm sc b t.2.2.1
  | .list _ es, e => on (xList e) fun t => chkEs nm sc es t.1
  | .tup es, e => on (xTup e) fun t => chkEs nm sc es t.1
  | .dict _, _ => false
  | .idx a i, e => on (xSub e) fun t => chkE nm sc a t.1 && chkE nm sc i t.2.1
  | .sl _ a lo hi, e => on (xSub e) fun t => on (xSl t.2.1) fun u => chkE nm sc a t.1 && chkO nm sc lo u.1 && chkO nm sc hi u.2.1 && x0 u.2.2.1
  | .rev _ a, e => on (xSub e) fun t => on (xSl t.2.1) fun u => on u.2.2.1 fun m => chkE nm sc a t.1 && x0 u.1 && x0 u.2.1 && isM1 m
  | .call _ f as, e => on (xCall e) fun t => on (xName t.1) fun _ => chkE nm sc f t.1 && chkEs nm sc as t.2.1 && t.2.2.1.isEmpty && decide (t.2.1.length ≤ 20)
  | .sortedRev _ _, _ => false
  | .meth _ o n as, e => on (xCall e) fun t => on (xAttr t.1) fun u => chkE nm sc o u.1 && decide (u.2.1 = nm n) && chkEs nm sc as t.2.1 && notSuper u.1 && decide (t.2.1.length ≤ 20) && (t.2.2.1.isEmpty && (u.2.2.endLine == t.2.2.2.line))
  | .comp _ elt ts it cond, e => on (xComp e) fun t => on (x1 t.2.1) fun g => on (x1 ts) fun j => on (xName g.target) fun y =>
      chkE nm t.2.2.1 elt t.1 && (decide (y.1 = nm j) && kLocal t.2.2.1 y.1) && chkE nm sc it g.iter && chkIf nm t.2.2.1 cond g.ifs && chkSc nm sc t.2.2.1 j && (notSet g.iter && decide (g.is_async = 0))
noncomputable def chkT (nm : Nat → Str) (sc : Scope) : PC → Expr → Bool
  | .not c, e => on (xUn e) fun t => decide (t.1 = .Not) && chkT nm sc c t.2.1
  | .and cs, e => on (xBool e) fun t => decide (t.1 = .And) && chkTs nm sc cs t.2.1
  | .or cs, e => on (xBool e) fun t => decide (t.1 = .Or) && chkTs nm sc cs t.2.1
  | .e a, e => plainTest e && chkE nm sc a e
noncomputable def chkTs (nm : Nat → Str) (sc : Scope) : PCs → List Expr → Bool
  | .nil, l => l.isEmpty
  | .cons c r, l => on l.head? fun x => chkT nm sc c x && chkTs nm sc r l.tail
noncomputable def chkEs (nm : Nat → Str) (sc : Scope) : PEs → List Expr → Bool
  | .nil, l => l.isEmpty
  | .cons e r, l => on l.head? fun x => chkE nm sc e x && chkEs nm sc r l.tail
noncomputable def chkO (nm : Nat → Str) (sc : Scope) : PEo → Option Expr → Bool
  | .none, o => x0 o
  | .some e, o => on o fun x => chkE nm sc e x
noncomputable def chkIf (nm : Nat → Str) (sc : Scope) : PCo → List Expr → Bool
  | .none, l => l.isEmpty
  | .some c, l => on (x1 l) fun x => chkT nm sc c x
end

theorem head_ok {α : Type} {l : List α} {x : α} (h : l.head? = some x) : l = x :: l.tail := by
  cases l with
  | nil => cases h
  | cons a r => cases h; rfl
theorem empty_ok {α : Type} {l : List α} (h : l.isEmpty = true) : l = [] := by
  cases l with
  | nil => rfl
  | cons a r => cases h

/-- the kinds of expression that a look lets by -/
noncomputable def plainX : Expr → Bool
  | .Constant _ _ _ | .Name _ _ | .Attribute _ _ _ | .BinOp _ _ _ _ | .UnaryOp _ _ _ | .Compare _ _ _ _ | .BoolOp _ _ _ | .IfExp _ _ _ _ | .List _ _ | .Tuple _ _ _ | .Subscript _ _ _ | .Call _ _ _ _ | .ListComp _ _ _ _ => true
  | _ => false
theorem chk_plainX {nm : Nat → Str} {sc : Scope} {p : PE} {e : Expr} (h : chkE nm sc p e = true) : plainX e = true := by
  cases p with
  | cst v => obtain ⟨t, h1, _⟩ := on_true h; rw [xConst_ok h1]; rfl
  | loc i => obtain ⟨t, h1, _⟩ := on_true h; rw [xName_ok h1]; rfl
  | glob i => obtain ⟨t, h1, _⟩ := on_true h; rw [xName_ok h1]; rfl
  | attr o n => obtain ⟨t, h1, _⟩ := on_true h; rw [xAttr_ok h1]; rfl
  | bin _ _ _ _ => obtain ⟨t, h1, _⟩ := on_true h; rw [xBin_ok h1]; rfl
  | neg _ => obtain ⟨t, h1, _⟩ := on_true h; rw [xUn_ok h1]; rfl
  | not _ => obtain ⟨t, h1, _⟩ := on_true h; rw [xUn_ok h1]; rfl
  | cmp _ _ _ => obtain ⟨t, h1, _⟩ := on_true h; rw [xCmp_ok h1]; rfl
  | cmp2 _ _ _ _ _ => obtain ⟨t, h1, _⟩ := on_true h; rw [xCmp_ok h1]; rfl
  | and _ => obtain ⟨t, h1, _⟩ := on_true h; rw [xBool_ok h1]; rfl
  | or _ => obtain ⟨t, h1, _⟩ := on_true h; rw [xBool_ok h1]; rfl
  | ite _ _ _ => obtain ⟨t, h1, _⟩ := on_true h; rw [xIf_ok h1]; rfl
  | list _ _ => obtain ⟨t, h1, _⟩ := on_true h; rw [xList_ok h1]; rfl
  | tup _ => obtain ⟨t, h1, _⟩ := on_true h; rw [xTup_ok h1]; rfl
  | dict _ => cases h
  | idx _ _ => obtain ⟨t, h1, _⟩ := on_true h; rw [xSub_ok h1]; rfl
  | sl _ _ _ _ => obtain ⟨t, h1, _⟩ := on_true h; rw [xSub_ok h1]; rfl
  | rev _ _ => obtain ⟨t, h1, _⟩ := on_true h; rw [xSub_ok h1]; rfl
  | call _ _ _ => obtain ⟨t, h1, _⟩ := on_true h; rw [xCall_ok h1]; rfl
  | sortedRev _ _ => cases h
  | meth _ _ _ _ => obtain ⟨t, h1, _⟩ := on_true h; rw [xCall_ok h1]; rfl
  | comp _ _ _ _ _ => obtain ⟨t, h1, _⟩ := on_true h; rw [xComp_ok h1]; rfl
theorem plain_notSet {e : Expr} (h : plainX e = true) : notSet e = true := by cases e <;> first | rfl | cases h
theorem chk_notSet {nm : Nat → Str} {sc : Scope} {p : PE} {e : Expr} (h : chkE nm sc p e = true) : notSet e = true := plain_notSet (chk_plainX h)
/-- a comparison is one in both texts -/
noncomputable def isCmp : Expr → Bool
  | .Compare _ _ _ _ => true
  | _ => false

noncomputable def isCall : Expr → Bool
  | .Call _ _ _ _ => true
  | _ => false

noncomputable def xSExpr : Stmt → Option (Expr × Pos) | .Expr x p => some (x, p) | _ => none
noncomputable def xSPass : Stmt → Option Pos | .Pass p => some p | _ => none
noncomputable def xSAssign : Stmt → Option (List Expr × Expr × Pos) | .Assign ts x p => some (ts, x, p) | _ => none
noncomputable def xSRet : Stmt → Option (Option Expr × Pos) | .Return v p => some (v, p) | _ => none
noncomputable def xSIf : Stmt → Option (Expr × List Stmt × List Stmt × Pos) | .If t a b p => some (t, a, b, p) | _ => none
noncomputable def xSFor : Stmt → Option (Expr × Expr × List Stmt × List Stmt × Pos) | .For t i b os p => some (t, i, b, os, p) | _ => none
noncomputable def xSWhile : Stmt → Option (Expr × List Stmt × List Stmt × Pos) | .While t b os p => some (t, b, os, p) | _ => none
theorem xSExpr_ok {e : Stmt} {t : Expr × Pos} (h : xSExpr e = some t) : e = .Expr t.1 t.2 := by cases e <;> first | exact nsome h | (cases h; rfl)
theorem xSPass_ok {e : Stmt} {t : Pos} (h : xSPass e = some t) : e = .Pass t := by cases e <;> first | exact nsome h | (cases h; rfl)
theorem xSAssign_ok {e : Stmt} {t : List Expr × Expr × Pos} (h : xSAssign e = some t) : e = .Assign t.1 t.2.1 t.2.2 := by cases e <;> first | exact nsome h | (cases h; rfl)
theorem xSRet_ok {e : Stmt} {t : Option Expr × Pos} (h : xSRet e = some t) : e = .Return t.1 t.2 := by cases e <;> first | exact nsome h | (cases h; rfl)
theorem xSIf_ok {e : Stmt} {t : Expr × List Stmt × List Stmt × Pos} (h : xSIf e = some t) : e = .If t.1 t.2.1 t.2.2.1 t.2.2.2 := by cases e <;> first | exact nsome h | (cases h; rfl)
theorem xSFor_ok {e : Stmt} {t : Expr × Expr × List Stmt × List Stmt × Pos} (h : xSFor e = some t) : e = .For t.1 t.2.1 t.2.2.1 t.2.2.2.1 t.2.2.2.2 := by cases e <;> first | exact nsome h | (cases h; rfl)
theorem xSWhile_ok {e : Stmt} {t : Expr × List Stmt × List Stmt × Pos} (h : xSWhile e = some t) : e = .While t.1 t.2.1 t.2.2.1 t.2.2.2 := by cases e <;> first | exact nsome h | (cases h; rfl)

/-- a name that may be stored -/
noncomputable def chkNm (nm : Nat → Str) (sc : Scope) (i : Nat) (e : Expr) : Bool := on (xName e) fun y => decide (y.1 = nm i) && kStore sc y.1
noncomputable def chkPT1 (nm : Nat → Str) (sc : Scope) : PT → Expr → Bool
  | .loc i, e => chkNm nm sc i e
  | .attr _ _, _ => false
  | .idx _ _, _ => false
  | .tup _, _ => false

mutual
noncomputable def chkS (nm : Nat → Str) (sc : Scope) : PS → Stmt → Bool
  | .expr e, s => on (xSExpr s) fun t => chkE nm sc e t.1 && isCall t.1
  | .pass, s => on (xSPass s) fun _ => true
  | .assign t e, s => on (xSAssign s) fun u => on (x1 u.1) fun y => chkPT1 nm sc t y && chkE nm sc e u.2.1
  | .augLoc _ _ _, _ => false
  | .augAttr _ _ _ _, _ => false
  | .ret e, s => on (xSRet s) fun t => chkO nm sc e t.1
  | .ite c a b, s => on (xSIf s) fun t => chkT nm sc c t.1 && chkSs nm sc a t.2.1 && chkSs nm sc b t.2.2.1
  | .loop ts it body, s => on (xSFor s) fun t => on (x1 ts) fun j => chkNm nm sc j t.1 && chkE nm sc it t.2.1 && chkSs nm sc body t.2.2.1 && t.2.2.2.1.isEmpty
  | .loopEnum _ _ _ _, _ => false
  | .while_ c body, s => on (xSWhile s) fun t => chkT nm sc c t.1 && chkSs nm sc body t.2.1 && t.2.2.1.isEmpty
  | .raise _, _ => false
  | .try_ _ _ _ _, _ => false
noncomputable def chkSs (nm : Nat → Str) (sc : Scope) : PSs → List Stmt → Bool
  | .nil, l => l.isEmpty
  | .cons s r, l => on l.head? fun x => chkS nm sc s x && chkSs nm sc r l.tail
end
end Mine
end

section
namespace Mine
open PySem PySem.W PySem.Calls PyProof.Rows

/-- room for n more calls -/
structure AOk (A : Around) (n : Nat) : Prop where
  hh : A.handled = none
  depth : A.depth + 4 * n + 4 < recursionLimit
  units : A.units + 20 * n + 100 < cLine
/-- the same for a body that calls -/
structure AOk2 (A : Around) (n : Nat) : Prop where
  hh : A.handled = none
  depth : A.depth + 4 * n + 6 < recursionLimit
  units : A.units + 20 * n + 110 < cLine
theorem AOk2.room {A : Around} {n : Nat} (h : AOk2 A n) : Room A := by have := h.units; unfold Room; omega
theorem AOk2.call {A : Around} {n : Nat} (h : AOk2 A n) : AOk A n := ⟨h.hh, by have := h.depth; omega, by have := h.units; omega⟩

structure EnvOk (X : Cx) (A : Around) (env : Env) (n : Nat) (sc : Scope) : Prop where
  ok : AOk2 A n
  kind : env.scope.kind = .function
  glob : env.globals = mainGlobals
  bi : env.builtins = builtinsNs
  names : ∀ x k, sc.names.lookup x = some k → env.kindOf x = some k ∨ (k = .free ∧ env.kindOf x = some .cell)
  cl : ∀ x, env.kindOf x = some .cell ∨ env.kindOf x = some .free → ∃ c, env.cells.lookup x = some c

/-- a def of the text's stands in the base heap -/
structure FnAt (X : Cx) (fn : Fn) (a : Addr) (o : Obj) (fd : FuncData) (body : List Stmt) : Prop where
  at_ : X.hb.get? a = some o
  data : o.data = .func fd
  code : X.hb.CodeRec fd.code fd.qualname
  body_ : fd.body = .stmts body
  bind : ∀ vs : List Value, vs.length = fn.params.length → bindArgs fd ⟨vs, []⟩ = pure ((fn.params.map X.nm).zip vs)
  clo : fd.closure = []
  co : fd.scope.isCoroutine = false
  gen : fd.scope.isGenerator = false
  kind : fd.scope.kind = .function
  glob : fd.globals = mainGlobals
  bi : fd.builtins = builtinsNs
  par : ∀ i ∈ fn.params, kStore fd.scope (X.nm i) = true
  free : ∀ x ∈ fd.scope.names, x.2 ≠ .free
  chk : chkSs X.nm fd.scope fn.body body = true

/-- what stands fast -/
structure CxOk (X : Cx) : Prop where
  inj : ∀ i j, X.nm i = X.nm j → i = j
  dot : ∀ i, X.nm i ≠ (".0" : Str)
  noLim : X.hb.NoLimit
  glob : ∀ i v, X.P.glob i = some v → ∃ cv mg mb, X.hb.Ns mainGlobals mg ∧ X.hb.Ns builtinsNs mb ∧ (mg (X.nm i) = some cv ∨ (mg (X.nm i) = none ∧ mb (X.nm i) = some cv)) ∧ ∀ W, VR X W cv v
  nAppend : X.nm X.P.nAppend = Str.ofString "append"
  nPop : X.nm X.P.nPop = Str.ofString "pop"
  nExtend : X.nm X.P.nExtend = Str.ofString "extend"
  nGet : X.nm X.P.nGet = Str.ofString "get"
  nSetdefault : X.nm X.P.nSetdefault = Str.ofString "setdefault"
  fnAt : ∀ k a, X.fnA k = some a → ∃ o fd, X.hb.get? a = some o ∧ o.data = .func fd
  fn : ∀ k a d, X.fnA k = some a → X.P.fn k = some d → ∃ o fd body, FnAt X d a o fd body

noncomputable def CPost (X : Cx) (W : Wd) (H : Hp) (s : Shared) (Q : V → Hp → Prop) (E : Nat → Hp → Prop) (r : Result) (s' : Shared) : Prop := match r with
  | .ok (.ret v) => ∃ W' H' av, Tc X W H s W' H' s' ∧ VR X W' v av ∧ Q av H'
  | .ok _ => False
  | .error e => ∃ W' H' i l, Tc X W H s W' H' s' ∧ e = .ref l.1 ∧ W'.φ i = some l ∧ Fly X W' H' s'.heap l.1 ∧ E i H'
noncomputable def CallOk (X : Cx) (n : Nat) : Prop := ∀ (A : Around) (k : Nat) (a : Addr) (as : List V) (vs : List Value) (W : Wd) (H : Hp) (s : Shared) (Q : V → Hp → Prop) (E : Nat → Hp → Prop),
  AOk A n → RelH X W H s.heap → VRs X W vs as → X.fnA k = some a → CW X.P n k as H Q E → codeAny (model X.prog X.w) A (.call (.ref a) ⟨vs, []⟩) (CPost X W H s Q E) s

theorem need_iff {α : Type} {o : Option α} {k : α → Prop} : need o k ↔ ∃ a, o = some a ∧ k a := by
  cases o with
  | none => exact ⟨fun h => h.elim, fun ⟨_, h, _⟩ => by cases h⟩
  | some a => exact ⟨fun h => ⟨a, rfl, h⟩, fun ⟨_, h, q⟩ => by cases h; exact q⟩
theorem give_res {X : Cx} {fz : Bool} {σ : St} {Q : V → St → Prop} {r : LV} {v : Value} {W' : Wd} {H' : Hp} (g : give fz σ Q r) (h : Res X fz σ.H r v W' H') : ∃ av, VR X W' v av ∧ Q av ⟨H', σ.loc⟩ := by
  cases r with
  | val x => obtain ⟨a, rfl⟩ := h; exact ⟨x, a, g⟩
  | newList xs =>
    cases fz with
    | true => obtain ⟨a, rfl⟩ := h; exact ⟨_, a, g.2⟩
    | false => obtain ⟨a, rfl⟩ := h; exact ⟨_, a, g.2⟩
theorem give_sz {fz : Bool} {σ : St} {Q : V → St → Prop} {r : LV} (g : give fz σ Q r) : ∀ xs, r = .newList xs → xs.length ≤ SZ := fun xs e => by subst e; exact g.1

section
variable {X : Cx} {n : Nat} {sc : Scope}

noncomputable def SE (X : Cx) (n : Nat) (sc : Scope) (p : PE) (e : Expr) : Prop := ∀ (A : Around) (env : Env) (Pv : Addr → Prop) (W : Wd) (σ : St) (s : Shared) (Q : V → St → Prop) (E : EP),
  EnvOk X A env n sc → At X env Pv W σ s → wpE X.P (CW X.P n) E p σ Q → Ew X A env Pv (eval e env) W σ s (fun v W' σ' _ => ∃ av, VR X W' v av ∧ Q av σ') E
noncomputable def ST (X : Cx) (n : Nat) (sc : Scope) (p : PC) (e : Expr) : Prop := ∀ (A : Around) (env : Env) (Pv : Addr → Prop) (W : Wd) (σ : St) (s : Shared) (Q : Bool → St → Prop) (E : EP),
  EnvOk X A env n sc → At X env Pv W σ s → wpT X.P (CW X.P n) E p σ Q → Ew X A env Pv (isTrue e env (eval e env)) W σ s (fun b _ σ' _ => Q b σ') E
noncomputable def SEs (X : Cx) (n : Nat) (sc : Scope) (p : PEs) (es : List Expr) : Prop := ∀ (A : Around) (env : Env) (Pv : Addr → Prop) (W : Wd) (σ : St) (s : Shared) (Q : List V → St → Prop) (E : EP),
  EnvOk X A env n sc → At X env Pv W σ s → wpEs X.P (CW X.P n) E p σ Q → Ew X A env Pv (spliced (es.map fun e => (false, eval e env))) W σ s (fun vs W' σ' _ => ∃ avs, VRs X W' vs avs ∧ Q avs σ') E

section
variable {A : Around} {env : Env} {Pv : Addr → Prop} {W : Wd} {σ : St} {s : Shared} {E : EP}

/-- the heap stays -/
theorem Ew.stay {t : Sem Value} {R : Value → Wd → St → Shared → Prop} {v : Value} {tk : Nat} (at_ : At X env Pv W σ s) (h : ∀ s', At X env Pv W σ s' → R v W σ s') :
    ∃ W' σ', Tf X env Pv W σ s W' σ' { s with toks := tk } ∧ R v W' σ' { s with toks := tk } := by
  have a : At X env Pv W σ { s with toks := tk } := ⟨at_.rel, at_.fr⟩
  exact ⟨W, σ, ⟨.refl, a, ⟨rfl, rfl, rfl⟩⟩, h _ a⟩

theorem bk (K : CxOk X) (R : RelH X W σ.H s.heap) {a : Addr} {m : Str → Option Value} (h : X.hb.Ns a m) : s.heap.Ns a m := h.keeps R.bkeep

theorem snd_cst {v : V} {c : Const} {k : Nat} {pos : Pos} (hc : chkC v c = true) : SE X n sc (.cst v) (.Constant c k pos) := by
  intro A env Pv W σ s Q E ok at_ h
  have h' : Q v σ := h
  have fin : ∀ cv tk, VR X W cv v → ∃ W' σ', Tf X env Pv W σ s W' σ' { s with toks := tk } ∧ ∃ av, VR X W' cv av ∧ Q av σ' := fun cv tk r =>
    ⟨W, σ, ⟨.refl, ⟨at_.rel, at_.fr⟩, ⟨rfl, rfl, rfl⟩⟩, v, r, h'⟩
  show wpAny _ A (constValue env c) _ _ s
  cases v <;> cases c <;> first | (simp [chkC] at hc; done) | skip
  · exact wpAny_pure (fin _ s.toks .none)
  · simp [chkC] at hc; subst hc; exact wpAny_pure (fin _ s.toks (.bool _))
  · simp [chkC] at hc; subst hc; exact wpAny_mkInt (fin _ _ (.int _ _))
  · simp [chkC] at hc
    obtain ⟨⟨rfl, ok⟩, z⟩ := hc
    exact wpAny_mkText (fin _ _ (.str _ _ ok z))

theorem load_loc {i : Nat} {v : V} {Ex : Value → Shared → Prop} {Q : Value → Shared → Prop} (ok : EnvOk X A env n sc) (at_ : At X env Pv W σ s) (hk : kLoc sc (X.nm i) = true) (hd : nDbg (X.nm i) = true) (ev : σ.loc i = some v)
    (fin : ∀ cv, VR X W cv v → Q cv s) : wpAny (model X.prog X.w) A (loadName env (X.nm i)) Q Ex s := by
  simp only [nDbg, Bool.and_eq_true, Bool.not_eq_true'] at hd
  unfold kLoc at hk
  have cellc : env.kindOf (X.nm i) = some .cell → wpAny (model X.prog X.w) A (loadName env (X.nm i)) Q Ex s := fun q => by
    obtain ⟨c, cv, a, b, r⟩ := at_.fr.cells i v ev (.inl q)
    exact wpAny_loadName_cell ok.kind q a b (fin cv r)
  split at hk
  · rename_i e
    rcases ok.names _ _ e with q | ⟨q, _⟩
    · obtain ⟨m, hn, hm⟩ := at_.fr.ns
      obtain ⟨cv, hcv, r⟩ := hm i v ev q
      exact wpAny_loadName_local ok.kind q hn hcv (fin cv r)
    · cases q
  · rename_i e
    rcases ok.names _ _ e with q | ⟨q, _⟩
    · exact cellc q
    · cases q
  · rename_i e
    rcases ok.names _ _ e with q | ⟨_, q⟩
    · obtain ⟨c, cv, a, b, r⟩ := at_.fr.cells i v ev (.inr q)
      exact wpAny_loadName_free ok.kind q a b (fin cv r) hd.2
    · exact cellc q
  · cases hk
theorem snd_loc {i : Nat} {x : Str} {pos : Pos} (hx : (decide (x = X.nm i) && kLoc sc x && nDbg x) = true) : SE X n sc (.loc i) (.Name x pos) := by
  intro A env Pv W σ s Q E ok at_ h
  obtain ⟨h0, hk, hd⟩ := and3 hx
  have h0 := of_decide_eq_true h0
  subst h0
  obtain ⟨v, ev, hq⟩ := need_iff.mp h
  have hd' : ((X.nm i) == ("__debug__" : Str)) = false := by simp only [nDbg, Bool.and_eq_true, Bool.not_eq_true'] at hd; exact hd.1
  exact wpAny_Name (load_loc ok at_ hk hd ev fun cv r => ⟨W, σ, .refl at_, v, r, hq⟩) hd'

theorem snd_glob (K : CxOk X) {i : Nat} {x : Str} {pos : Pos} (hx : (decide (x = X.nm i) && kGlob sc x && nDbg x) = true) : SE X n sc (.glob i) (.Name x pos) := by
  intro A env Pv W σ s Q E ok at_ h
  simp only [Bool.and_eq_true, decide_eq_true_eq] at hx
  obtain ⟨⟨rfl, hk⟩, hd⟩ := hx
  obtain ⟨v, ev, hq⟩ := need_iff.mp h
  simp only [nDbg, Bool.and_eq_true, Bool.not_eq_true'] at hd
  refine wpAny_Name ?_ hd.1
  unfold kGlob at hk
  split at hk
  · rename_i e
    rcases ok.names _ _ e with q | ⟨q, _⟩
    · rw [loadName_read ok.kind q]
      obtain ⟨cv, mg, mb, ng, nb, hv, r⟩ := K.glob i v ev
      have fin : ∃ W' σ', Tf X env Pv W σ s W' σ' s ∧ ∃ av, VR X W' cv av ∧ Q av σ' := ⟨W, σ, .refl at_, v, r W, hq⟩
      rcases hv with hv | ⟨hv, hb⟩
      · exact loadGlobal_global (by rw [ok.glob]; exact bk K at_.rel ng) hv fin
      · exact loadGlobal_builtin (by rw [ok.glob]; exact bk K at_.rel ng) hv (by rw [ok.bi]; exact bk K at_.rel nb) hb fin
    · cases q
  · cases hk

theorem snd_bin {fz : Bool} {op : BOp} {l r : PE} {l' r' : Expr} {pos : Pos} (hl : SE X n sc l l') (hr : SE X n sc r r') : SE X n sc (.bin fz op l r) (.BinOp l' (opOf op) r' pos) := by
  intro A env Pv W σ s Q E ok at_ h
  rw [eval_BinOp]
  refine Ew.bindT ((hl A env Pv W σ s _ E ok at_ h).mono fun a W₁ σ₁ s₁ _ qq1 at₁ le₁ => ?_)
  obtain ⟨x, hx, h₁⟩ := qq1
  refine Ew.bindT (Ew.holding ((hr A env Pv W₁ σ₁ s₁ _ E ok at₁ h₁).mono fun b W₂ σ₂ s₂ _ qq2 at₂ le₂ => ?_))
  obtain ⟨y, hy, h₂⟩ := qq2
  refine Ew.standAt (Ew.operate ?_)
  obtain ⟨res, hres, hg⟩ := need_iff.mp h₂
  exact bin_ok (fz := fz) at₂.rel (hx.le le₂) hy hres (give_sz hg) fun v' s' W' H' T q => ⟨W', ⟨H', σ₂.loc⟩, T.tf at₂, give_res hg q⟩

theorem snd_neg {e : PE} {x : Expr} {pos : Pos} (he : SE X n sc e x) : SE X n sc (.neg e) (.UnaryOp .USub x pos) := by
  intro A env Pv W σ s Q E ok at_ h
  show Ew X A env Pv (do let v ← eval x env; standAt pos; holding [v] (unaryOp .USub v)) W σ s _ E
  refine Ew.bindT ((he A env Pv W σ s _ E ok at_ h).mono fun a W₁ σ₁ s₁ _ qq3 at₁ le₁ => ?_)
  obtain ⟨y, hy, h₁⟩ := qq3
  refine Ew.standAt (Ew.holding ?_)
  cases hy with
  | int i t => exact neg_int ⟨W₁, σ₁, ⟨.refl, ⟨at₁.rel, at₁.fr⟩, ⟨rfl, rfl, rfl⟩⟩, _, .int _ _, h₁⟩
  | _ => exact h₁.elim
theorem snd_not {e : PE} {x : Expr} {pos : Pos} (he : SE X n sc e x) : SE X n sc (.not e) (.UnaryOp .Not x pos) := by
  intro A env Pv W σ s Q E ok at_ h
  show Ew X A env Pv (do let v ← eval x env; standAt pos; holding [v] (unaryOp .Not v)) W σ s _ E
  refine Ew.bindT ((he A env Pv W σ s _ E ok at_ h).mono fun a W₁ σ₁ s₁ _ qq4 at₁ le₁ => ?_)
  obtain ⟨y, hy, h₁⟩ := qq4
  refine Ew.standAt (Ew.holding ?_)
  obtain ⟨b, hb, hq⟩ := need_iff.mp h₁
  exact not_of (truth_ok at₁.rel hy hb fun tk => ⟨W₁, σ₁, ⟨.refl, ⟨at₁.rel, at₁.fr⟩, ⟨rfl, rfl, rfl⟩⟩, _, .bool _, hq⟩)
end
end
end Mine
end

section
namespace Mine
open PySem PySem.W PySem.Calls PyProof.Rows

section
variable {X : Cx} {n : Nat} {sc : Scope}

theorem marks_of {op : CmpOp} {e : Expr} (h : notSet e = true) : behindInMarks op e = false := by
  unfold behindInMarks
  split
  · cases h
  · rfl
theorem snd_cmp {op : COp} {l r : PE} {l' r' : Expr} {pos : Pos} (hl : SE X n sc l l') (hr : SE X n sc r r') (hs : notSet r' = true) : SE X n sc (.cmp op l r) (.Compare l' [cmpOf op] [r'] pos) := by
  intro A env Pv W σ s Q E ok at_ h
  rw [eval_Compare1, markedBehindIn_of_false (marks_of hs)]
  refine Ew.bindT ((hl A env Pv W σ s _ E ok at_ h).mono fun a W₁ σ₁ s₁ _ qq5 at₁ le₁ => ?_)
  obtain ⟨x, hx, h₁⟩ := qq5
  refine Ew.bindT (Ew.holding ((hr A env Pv W₁ σ₁ s₁ _ E ok at₁ h₁).mono fun b W₂ σ₂ s₂ _ qq6 at₂ le₂ => ?_))
  obtain ⟨y, hy, h₂⟩ := qq6
  refine Ew.standAt (Ew.operate ?_)
  obtain ⟨c, hc, hq⟩ := need_iff.mp h₂
  exact cmp_ok at₂.rel ok.ok.room (hx.le le₂) hy hc fun tk => ⟨W₂, σ₂, ⟨.refl, ⟨at₂.rel, at₂.fr⟩, ⟨rfl, rfl, rfl⟩⟩, _, .bool _, hq⟩
theorem snd_cmpT {op : COp} {l r : PE} {l' r' : Expr} {pos : Pos} (hl : SE X n sc l l') (hr : SE X n sc r r') (hs : notSet r' = true) : ST X n sc (.e (.cmp op l r)) (.Compare l' [cmpOf op] [r'] pos) := by
  intro A env Pv W σ s Q E ok at_ h
  rw [isTrue_Compare1, markedBehindIn_of_false (marks_of hs)]
  refine Ew.bindT ((hl A env Pv W σ s _ E ok at_ h).mono fun a W₁ σ₁ s₁ _ qq7 at₁ le₁ => ?_)
  obtain ⟨x, hx, h₁⟩ := qq7
  refine Ew.bindT (Ew.holding ((hr A env Pv W₁ σ₁ s₁ _ E ok at₁ h₁).mono fun b W₂ σ₂ s₂ _ qq8 at₂ le₂ => ?_))
  obtain ⟨y, hy, h₂⟩ := qq8
  refine Ew.standAt (Ew.bind (Ew.operate ?_))
  obtain ⟨c, hc, hq⟩ := need_iff.mp h₂
  refine cmp_ok at₂.rel ok.ok.room (hx.le le₂) hy hc fun tk => ⟨W₂, σ₂, ⟨.refl, ⟨at₂.rel, at₂.fr⟩, ⟨rfl, rfl, rfl⟩⟩, ?_⟩
  exact Ew.holding (wpAny_truthy_bool ⟨W₂, σ₂, ⟨.refl, ⟨at₂.rel, at₂.fr⟩, ⟨rfl, rfl, rfl⟩⟩, hq⟩)

theorem wpAny_release {M : Model} {A : Around} {E : Value → Shared → Prop} {s : Shared} {vs ks : List Value} {Q : Unit → Shared → Prop} (h : Q () s) : wpAny M A (release vs ks) Q E s := by
  intro Γ p hΓ
  rw [Sem.wp_release]; exact h

theorem eval_Compare2 (env : Env) (l : Expr) (o₁ o₂ : CmpOp) (b c : Expr) (pos : Pos) (hc : behindInMarks o₂ c = false) : eval (.Compare l [o₁, o₂] [b, c] pos) env = (do
    let left ← eval l env
    let rv ← holding [left] (eval b env)
    standAt pos
    let c₁ ← holding [left, rv] (compareOp o₁ left rv)
    release [left, rv] [c₁]
    if ← holding [c₁, rv] (truthy c₁) then (do
      let rw ← holding [rv] (eval c env)
      standAt pos
      operate [rv, rw] (compareOp o₂ rv rw)) else pure c₁) := by
  have : eval (.Compare l [o₁, o₂] [b, c] pos) env = (do compareChain pos (← eval l env) [o₁, o₂] [eval b env, markedBehindIn o₂ c (eval c env)]) := rfl
  rw [this, markedBehindIn_of_false hc]
  rfl
theorem snd_cmp2 {o₁ o₂ : COp} {a b c : PE} {a' b' c' : Expr} {pos : Pos} (ha : SE X n sc a a') (hb : SE X n sc b b') (hc : SE X n sc c c') (hs : notSet c' = true) : SE X n sc (.cmp2 o₁ o₂ a b c) (.Compare a' [cmpOf o₁, cmpOf o₂] [b', c'] pos) := by
  intro A env Pv W σ s Q E ok at_ h
  rw [eval_Compare2 _ _ _ _ _ _ _ (marks_of hs)]
  refine Ew.bindT ((ha A env Pv W σ s _ E ok at_ h).mono fun u W₁ σ₁ s₁ _ qq9 at₁ le₁ => ?_)
  obtain ⟨x, hx, h₁⟩ := qq9
  refine Ew.bindT (Ew.holding ((hb A env Pv W₁ σ₁ s₁ _ E ok at₁ h₁).mono fun v W₂ σ₂ s₂ _ qq10 at₂ le₂ => ?_))
  obtain ⟨y, hy, h₂⟩ := qq10
  refine Ew.standAt ?_
  obtain ⟨c₁, hc₁, hq⟩ := need_iff.mp h₂
  refine Ew.bindT (Ew.holding (cmp_ok at₂.rel ok.ok.room (hx.le le₂) hy hc₁ fun tk => ⟨W₂, σ₂, ⟨.refl, ⟨at₂.rel, at₂.fr⟩, ⟨rfl, rfl, rfl⟩⟩, fun at₃ _ => ?_⟩))
  refine wpAny_bind (wpAny_release ?_)
  refine wpAny_bind (wpAny_holding (wpAny_truthy_bool ?_))
  cases c₁ with
  | false => exact Ew.pure at₃ ⟨_, .bool _, hq⟩
  | true =>
    refine Ew.bindT (Ew.holding ((hc A env Pv W₂ σ₂ _ _ E ok at₃ hq).mono fun w W₃ σ₃ s₃ _ qq11 at₄ le₃ => ?_))
    obtain ⟨z, hz, h₃⟩ := qq11
    refine Ew.standAt (Ew.operate ?_)
    obtain ⟨c₂, hc₂, hq₂⟩ := need_iff.mp h₃
    exact cmp_ok at₄.rel ok.ok.room (hy.le le₃) hz hc₂ fun tk => ⟨W₃, σ₃, ⟨.refl, ⟨at₄.rel, at₄.fr⟩, ⟨rfl, rfl, rfl⟩⟩, _, .bool _, hq₂⟩

/-- a test that is any other expression -/
noncomputable def plainT : Expr → Bool
  | .UnaryOp .Not _ _ => false
  | .BoolOp _ _ _ => false
  | .IfExp _ _ _ _ => false
  | .Compare _ _ _ _ => false
  | _ => true
theorem isTrue_plain' {e : Expr} {env : Env} {t : Sem Value} (h : plainT e = true) :
    isTrue e env t = (do let v ← t; standAt e.pos; holding [v] (truthy v)) := by
  cases e <;> first | rfl | (simp [plainT] at h; done) | skip
  rename_i op x p
  cases op <;> first | rfl | (simp [plainT] at h; done)
theorem snd_T {e : PE} {x : Expr} (he : SE X n sc e x) (h : plainT x = true) : ST X n sc (.e e) x := by
  intro A env Pv W σ s Q E ok at_ hw
  rw [isTrue_plain' h]
  refine Ew.bindT ((he A env Pv W σ s _ E ok at_ hw).mono fun a W₁ σ₁ s₁ _ qq12 at₁ le₁ => ?_)
  obtain ⟨y, hy, h₁⟩ := qq12
  refine Ew.standAt (Ew.holding ?_)
  obtain ⟨b, hb, hq⟩ := need_iff.mp h₁
  exact truth_ok at₁.rel hy hb fun tk => ⟨W₁, σ₁, ⟨.refl, ⟨at₁.rel, at₁.fr⟩, ⟨rfl, rfl, rfl⟩⟩, hq⟩
theorem isTrue_Compare2 (env : Env) (l : Expr) (o₁ o₂ : CmpOp) (b c : Expr) (pos : Pos) (t : Sem Value) (hc : behindInMarks o₂ c = false) : isTrue (.Compare l [o₁, o₂] [b, c] pos) env t = (do
    let left ← eval l env
    let rv ← holding [left] (eval b env)
    standAt pos
    let c₁ ← holding [left, rv] (compareOp o₁ left rv)
    release [left, rv] [c₁]
    if ← holding [c₁, rv] (truthy c₁) then (do
      let rw ← holding [rv] (eval c env)
      standAt pos
      let c₂ ← operate [rv, rw] (compareOp o₂ rv rw)
      holding [c₂] (truthy c₂)) else pure false) := by
  have : isTrue (.Compare l [o₁, o₂] [b, c] pos) env t = (do testChain pos (← eval l env) [o₁, o₂] [eval b env, markedBehindIn o₂ c (eval c env)]) := rfl
  rw [this, markedBehindIn_of_false hc]
  rfl
theorem snd_cmp2T {o₁ o₂ : COp} {a b c : PE} {a' b' c' : Expr} {pos : Pos} (ha : SE X n sc a a') (hb : SE X n sc b b') (hc : SE X n sc c c') (hs : notSet c' = true) : ST X n sc (.e (.cmp2 o₁ o₂ a b c)) (.Compare a' [cmpOf o₁, cmpOf o₂] [b', c'] pos) := by
  intro A env Pv W σ s Q E ok at_ h
  rw [isTrue_Compare2 _ _ _ _ _ _ _ _ (marks_of hs)]
  refine Ew.bindT ((ha A env Pv W σ s _ E ok at_ h).mono fun u W₁ σ₁ s₁ _ qq13 at₁ le₁ => ?_)
  obtain ⟨x, hx, h₁⟩ := qq13
  refine Ew.bindT (Ew.holding ((hb A env Pv W₁ σ₁ s₁ _ E ok at₁ h₁).mono fun v W₂ σ₂ s₂ _ qq14 at₂ le₂ => ?_))
  obtain ⟨y, hy, h₂⟩ := qq14
  refine Ew.standAt ?_
  obtain ⟨c₁, hc₁, hq⟩ := need_iff.mp h₂
  refine Ew.bindT (Ew.holding (cmp_ok at₂.rel ok.ok.room (hx.le le₂) hy hc₁ fun tk => ⟨W₂, σ₂, ⟨.refl, ⟨at₂.rel, at₂.fr⟩, ⟨rfl, rfl, rfl⟩⟩, fun at₃ _ => ?_⟩))
  refine wpAny_bind (wpAny_release ?_)
  refine wpAny_bind (wpAny_holding (wpAny_truthy_bool ?_))
  cases c₁ with
  | false => exact Ew.pure at₃ hq
  | true =>
    refine Ew.bindT (Ew.holding ((hc A env Pv W₂ σ₂ _ _ E ok at₃ hq).mono fun w W₃ σ₃ s₃ _ qq15 at₄ le₃ => ?_))
    obtain ⟨z, hz, h₃⟩ := qq15
    refine Ew.standAt (Ew.bind (Ew.operate ?_))
    obtain ⟨c₂, hc₂, hq₂⟩ := need_iff.mp h₃
    refine cmp_ok at₄.rel ok.ok.room (hy.le le₃) hz hc₂ fun tk => ⟨W₃, σ₃, ⟨.refl, ⟨at₄.rel, at₄.fr⟩, ⟨rfl, rfl, rfl⟩⟩, ?_⟩
    exact Ew.holding (wpAny_truthy_bool ⟨W₃, σ₃, ⟨.refl, ⟨at₄.rel, at₄.fr⟩, ⟨rfl, rfl, rfl⟩⟩, hq₂⟩)
theorem snd_notT {c : PC} {x : Expr} {pos : Pos} (hc : ST X n sc c x) : ST X n sc (.not c) (.UnaryOp .Not x pos) := by
  intro A env Pv W σ s Q E ok at_ h
  show Ew X A env Pv (do return !(← isTrue x env (eval x env))) W σ s _ E
  exact Ew.bindT ((hc A env Pv W σ s _ E ok at_ h).mono fun b W₁ σ₁ s₁ _ h₁ at₁ _ => Ew.pure at₁ h₁)

noncomputable def SAll (X : Cx) (n : Nat) (sc : Scope) (p : PCs) (es : List Expr) : Prop := ∀ (A : Around) (env : Env) (Pv : Addr → Prop) (W : Wd) (σ : St) (s : Shared) (Q : Bool → St → Prop) (E : EP),
  EnvOk X A env n sc → At X env Pv W σ s → (wpAllT X.P (CW X.P n) E p σ Q → Ew X A env Pv (allTrue .And es env) W σ s (fun b _ σ' _ => Q b σ') E) ∧ (wpAnyT X.P (CW X.P n) E p σ Q → Ew X A env Pv (allTrue .Or es env) W σ s (fun b _ σ' _ => Q b σ') E)
theorem snd_all_nil : SAll X n sc .nil [] := fun A env Pv W σ s Q E ok at_ => ⟨fun h => Ew.pure at_ h, fun h => Ew.pure at_ h⟩
theorem snd_all_cons {c : PC} {r : PCs} {x : Expr} {xs : List Expr} (hc : ST X n sc c x) (hr : SAll X n sc r xs) : SAll X n sc (.cons c r) (x :: xs) := by
  intro A env Pv W σ s Q E ok at_
  constructor
  · intro h
    show Ew X A env Pv (do match BoolOp.And, ← isTrue x env (eval x env) with | .And, false => pure false | .Or, true => pure true | _, _ => allTrue .And xs env) W σ s _ E
    refine Ew.bindT ((hc A env Pv W σ s _ E ok at_ h).mono fun b W₁ σ₁ s₁ _ h₁ at₁ _ => ?_)
    cases b with
    | false => exact Ew.pure at₁ h₁
    | true => exact (hr A env Pv W₁ σ₁ s₁ Q E ok at₁).1 h₁
  · intro h
    show Ew X A env Pv (do match BoolOp.Or, ← isTrue x env (eval x env) with | .And, false => pure false | .Or, true => pure true | _, _ => allTrue .Or xs env) W σ s _ E
    refine Ew.bindT ((hc A env Pv W σ s _ E ok at_ h).mono fun b W₁ σ₁ s₁ _ h₁ at₁ _ => ?_)
    cases b with
    | true => exact Ew.pure at₁ h₁
    | false => exact (hr A env Pv W₁ σ₁ s₁ Q E ok at₁).2 h₁
theorem snd_andT {cs : PCs} {xs : List Expr} {pos : Pos} (h : SAll X n sc cs xs) : ST X n sc (.and cs) (.BoolOp .And xs pos) := fun A env Pv W σ s Q E ok at_ hw => (h A env Pv W σ s Q E ok at_).1 hw
theorem snd_orT {cs : PCs} {xs : List Expr} {pos : Pos} (h : SAll X n sc cs xs) : ST X n sc (.or cs) (.BoolOp .Or xs pos) := fun A env Pv W σ s Q E ok at_ hw => (h A env Pv W σ s Q E ok at_).2 hw

/-- and, or as values -/
noncomputable def SBool (X : Cx) (n : Nat) (sc : Scope) (p : PEs) (es : List Expr) : Prop := ∀ (A : Around) (env : Env) (Pv : Addr → Prop) (W : Wd) (σ : St) (s : Shared) (Q : V → St → Prop) (E : EP) (pos : Pos),
  EnvOk X A env n sc → At X env Pv W σ s → (wpAnd X.P (CW X.P n) E p σ Q → Ew X A env Pv (boolOp pos .And (evalEach es env)) W σ s (fun v W' σ' _ => ∃ av, VR X W' v av ∧ Q av σ') E) ∧
    (wpOr X.P (CW X.P n) E p σ Q → Ew X A env Pv (boolOp pos .Or (evalEach es env)) W σ s (fun v W' σ' _ => ∃ av, VR X W' v av ∧ Q av σ') E)
theorem snd_bool_nil : SBool X n sc .nil [] := fun A env Pv W σ s Q E pos ok at_ => ⟨fun h => h.elim, fun h => h.elim⟩
theorem snd_bool_one {e : PE} {x : Expr} (he : SE X n sc e x) : SBool X n sc (.cons e .nil) [x] := fun A env Pv W σ s Q E pos ok at_ => ⟨fun h => he A env Pv W σ s Q E ok at_ h, fun h => he A env Pv W σ s Q E ok at_ h⟩
theorem snd_bool_cons {e f : PE} {r : PEs} {x y : Expr} {xs : List Expr} (he : SE X n sc e x) (hr : SBool X n sc (.cons f r) (y :: xs)) : SBool X n sc (.cons e (.cons f r)) (x :: y :: xs) := by
  intro A env Pv W σ s Q E pos ok at_
  constructor
  · intro h
    show Ew X A env Pv (do
      let v ← eval x env
      standAt pos
      let t ← holding [v] (truthy v)
      match BoolOp.And, t with
      | .And, false | .Or, true => pure v
      | _, _ => boolOp pos .And (evalEach (y :: xs) env)) W σ s _ E
    refine Ew.bindT ((he A env Pv W σ s _ E ok at_ h).mono fun v W₁ σ₁ s₁ _ qq16 at₁ _ => ?_)
    obtain ⟨z, hz, h₁⟩ := qq16
    obtain ⟨b, hb, hq⟩ := need_iff.mp h₁
    refine Ew.standAt (wpAny_bind (wpAny_holding (truth_ok at₁.rel hz hb fun tk => ?_)))
    have at₂ : At X env Pv W₁ σ₁ { s₁ with toks := tk } := ⟨at₁.rel, at₁.fr⟩
    have T : Tf X env Pv W₁ σ₁ s₁ W₁ σ₁ { s₁ with toks := tk } := ⟨.refl, at₂, ⟨rfl, rfl, rfl⟩⟩
    cases b with
    | false => exact wpAny_pure ⟨W₁, σ₁, T, z, hz, hq⟩
    | true => exact Ew.from T ((hr A env Pv W₁ σ₁ _ Q E pos ok at₂).1 hq)
  · intro h
    show Ew X A env Pv (do
      let v ← eval x env
      standAt pos
      let t ← holding [v] (truthy v)
      match BoolOp.Or, t with
      | .And, false | .Or, true => pure v
      | _, _ => boolOp pos .Or (evalEach (y :: xs) env)) W σ s _ E
    refine Ew.bindT ((he A env Pv W σ s _ E ok at_ h).mono fun v W₁ σ₁ s₁ _ qq17 at₁ _ => ?_)
    obtain ⟨z, hz, h₁⟩ := qq17
    obtain ⟨b, hb, hq⟩ := need_iff.mp h₁
    refine Ew.standAt (wpAny_bind (wpAny_holding (truth_ok at₁.rel hz hb fun tk => ?_)))
    have at₂ : At X env Pv W₁ σ₁ { s₁ with toks := tk } := ⟨at₁.rel, at₁.fr⟩
    have T : Tf X env Pv W₁ σ₁ s₁ W₁ σ₁ { s₁ with toks := tk } := ⟨.refl, at₂, ⟨rfl, rfl, rfl⟩⟩
    cases b with
    | true => exact wpAny_pure ⟨W₁, σ₁, T, z, hz, hq⟩
    | false => exact Ew.from T ((hr A env Pv W₁ σ₁ _ Q E pos ok at₂).2 hq)

theorem snd_ite {t : PC} {a b : PE} {t' a' b' : Expr} {pos : Pos} (ht : ST X n sc t t') (ha : SE X n sc a a') (hb : SE X n sc b b') : SE X n sc (.ite t a b) (.IfExp t' a' b' pos) := by
  intro A env Pv W σ s Q E ok at_ h
  show Ew X A env Pv (do if ← isTrue t' env (eval t' env) then eval a' env else eval b' env) W σ s _ E
  refine Ew.bindT ((ht A env Pv W σ s _ E ok at_ h).mono fun c W₁ σ₁ s₁ _ h₁ at₁ _ => ?_)
  cases c with
  | true => exact ha A env Pv W₁ σ₁ s₁ Q E ok at₁ h₁
  | false => exact hb A env Pv W₁ σ₁ s₁ Q E ok at₁ h₁

theorem snd_es_nil : SEs X n sc .nil [] := fun A env Pv W σ s Q E ok at_ h => spliced_nil ⟨W, σ, .refl at_, [], .nil, h⟩
theorem snd_es_cons {e : PE} {r : PEs} {x : Expr} {xs : List Expr} (he : SE X n sc e x) (hr : SEs X n sc r xs) : SEs X n sc (.cons e r) (x :: xs) := by
  intro A env Pv W σ s Q E ok at_ h
  refine spliced_cons ?_
  refine wpAny_mono (he A env Pv W σ s _ E ok at_ h) (fun v s₁ qq18 => ?_) fun _ _ x => x
  obtain ⟨W₁, σ₁, T, z, hz, h₁⟩ := qq18
  exact wpAny_mono (hr A env Pv W₁ σ₁ s₁ _ E ok T.at_ h₁) (fun vs s₂ qq19 => by obtain ⟨W₂, σ₂, T₂, zs, hzs, h₂⟩ := qq19; exact ⟨W₂, σ₂, T.trans T₂, z :: zs, .cons (hz.le T₂.stp.le) hzs, h₂⟩) fun _ _ x => x.back T

theorem star_one {x : Expr} {env : Env} {xs : List Expr} (h : plainX x = true) : starEach (x :: xs) env = (false, eval x env) :: starEach xs env := by
  cases x <;> first | rfl | cases h
theorem star_plain {nm : Nat → Str} {env : Env} : ∀ {p : PEs} {es : List Expr}, chkEs nm sc p es = true → starEach es env = es.map fun e => (false, eval e env)
  | .nil, es, h => by rw [empty_ok h]; rfl
  | .cons e r, es, h => by
    obtain ⟨x, hx, h⟩ := on_true h
    obtain ⟨h1, h2⟩ := and2 h
    rw [head_ok hx, star_one (chk_plainX h1), star_plain h2, List.map_cons]
theorem back_plain {nm : Nat → Str} {env : Env} {pos : Pos} {p : PEs} {es : List Expr} (h : chkEs nm sc p es = true) : backTo pos (starEach es env) = es.map fun e => (false, eval e env) := by
  rw [star_plain h]
  unfold backTo
  rw [List.map_map]
  rfl

theorem snd_list {fz : Bool} {nm : Nat → Str} {es : PEs} {xs : List Expr} {pos : Pos} (he : SEs X n sc es xs) (hc : chkEs nm sc es xs = true) : SE X n sc (.list fz es) (.List xs pos) := by
  intro A env Pv W σ s Q E ok at_ h
  show Ew X A env Pv (do standAt pos; newList (← spliced (backTo pos (starEach xs env)))) W σ s _ E
  rw [back_plain hc]
  refine Ew.standAt (Ew.bindT ((he A env Pv W σ s _ E ok at_ h).mono fun vs W₁ σ₁ s₁ _ qq20 at₁ _ => ?_))
  obtain ⟨zs, hzs, h₁⟩ := qq20
  exact newList_ok (fz := fz) at₁.rel hzs h₁.1 fun v' s' W' H' T q => ⟨W', ⟨H', σ₁.loc⟩, T.tf at₁, give_res h₁ q⟩
theorem snd_tup {nm : Nat → Str} {es : PEs} {xs : List Expr} {k : Nat} {pos : Pos} (he : SEs X n sc es xs) (hc : chkEs nm sc es xs = true) : SE X n sc (.tup es) (.Tuple xs k pos) := by
  intro A env Pv W σ s Q E ok at_ h
  show Ew X A env Pv (do standAt pos; newTuple (← spliced (backTo pos (starEach xs env)))) W σ s _ E
  rw [back_plain hc]
  refine Ew.standAt (Ew.bindT ((he A env Pv W σ s _ E ok at_ h).mono fun vs W₁ σ₁ s₁ _ qq21 at₁ _ => ?_))
  obtain ⟨zs, hzs, h₁⟩ := qq21
  exact newTuple_ok at₁.rel hzs h₁.1 fun v' s' W' T q => ⟨W', ⟨σ₁.H, σ₁.loc⟩, T.tf at₁, _, q, h₁.2⟩

theorem snd_idx {e i : PE} {v x : Expr} {pos : Pos} (he : SE X n sc e v) (hi : SE X n sc i x) : SE X n sc (.idx e i) (.Subscript v x pos) := by
  intro A env Pv W σ s Q E ok at_ h
  rw [eval_Subscript]
  refine Ew.bindT ((he A env Pv W σ s _ E ok at_ h).mono fun a W₁ σ₁ s₁ _ qq22 at₁ _ => ?_)
  obtain ⟨y, hy, h₁⟩ := qq22
  refine Ew.bindT (Ew.holding ((hi A env Pv W₁ σ₁ s₁ _ E ok at₁ h₁).mono fun b W₂ σ₂ s₂ _ qq23 at₂ le₂ => ?_))
  obtain ⟨z, hz, h₂⟩ := qq23
  refine Ew.standAt ?_
  obtain ⟨r, hr, hq⟩ := need_iff.mp h₂
  exact idx_ok at₂.rel (hy.le le₂) hz hr fun v tk q => ⟨W₂, σ₂, ⟨.refl, ⟨at₂.rel, at₂.fr⟩, ⟨rfl, rfl, rfl⟩⟩, _, q, hq⟩

noncomputable def SO (X : Cx) (n : Nat) (sc : Scope) (p : PEo) (e : Option Expr) : Prop := ∀ (A : Around) (env : Env) (Pv : Addr → Prop) (W : Wd) (σ : St) (s : Shared) (Q : Option V → St → Prop) (E : EP),
  EnvOk X A env n sc → At X env Pv W σ s → wpO X.P (CW X.P n) E p σ Q → Ew X A env Pv (valueOrNone (evalOpt e env)) W σ s (fun v W' σ' _ => ∃ o, VR X W' v (o.getD .none) ∧ Q o σ') E
theorem snd_o_none : SO X n sc .none none := fun A env Pv W σ s Q E ok at_ h => Ew.pure at_ ⟨none, .none, h⟩
theorem snd_o_some {e : PE} {x : Expr} (he : SE X n sc e x) : SO X n sc (.some e) (some x) := fun A env Pv W σ s Q E ok at_ h =>
  (he A env Pv W σ s _ E ok at_ h).mono fun v W₁ σ₁ s₁ _ ⟨z, hz, h₁⟩ => ⟨some z, hz, h₁⟩

theorem snd_sl {fz : Bool} {e : PE} {lo hi : PEo} {v : Expr} {l u : Option Expr} {p pos : Pos} (he : SE X n sc e v) (hl : SO X n sc lo l) (hu : SO X n sc hi u) : SE X n sc (.sl fz e lo hi) (.Subscript v (.Slice l u none p) pos) := by
  intro A env Pv W σ s Q E ok at_ h
  rw [eval_Subscript]
  refine Ew.bindT ((he A env Pv W σ s _ E ok at_ h).mono fun a W₁ σ₁ s₁ _ qq24 at₁ _ => ?_)
  obtain ⟨y, hy, h₁⟩ := qq24
  show Ew X A env Pv (holding [a] (do
    let l ← valueOrNone (evalOpt l env)
    let u ← holding [l] (valueOrNone (evalOpt u env))
    let s ← holding [l, u] (valueOrNone (evalOpt none env))
    newFields "slice" [l, u, s]) >>= fun i => standAt pos >>= fun _ => subscriptTail v (.Slice l u none p) a i) W₁ σ₁ s₁ _ E
  refine wpAny_bind (wpAny_holding (wpAny_bind (wpAny_mono (hl A env Pv W₁ σ₁ s₁ _ E ok at₁ h₁) (fun b s₂ qq25 => ?_) fun _ _ x => x)))
  obtain ⟨W₂, σ₂, T₂, o₂, hb, h₂⟩ := qq25
  refine wpAny_bind (wpAny_holding (wpAny_mono (hu A env Pv W₂ σ₂ s₂ _ E ok T₂.at_ h₂) (fun c s₃ qq26 => ?_) fun _ _ x => x.back T₂))
  obtain ⟨W₃, σ₃, T₃, o₃, hc, h₃⟩ := qq26
  refine wpAny_bind (wpAny_holding (wpAny_pure ?_))
  obtain ⟨i₁, e₁, h₄⟩ := need_iff.mp h₃
  obtain ⟨i₂, e₂, h₅⟩ := need_iff.mp h₄
  obtain ⟨r, hr, hg⟩ := need_iff.mp h₅
  refine wpAny_mono (sl_ok (fz := fz) (value := v) (slice := .Slice l u none p) T₃.at_.rel (hy.le (T₂.stp.le.trans T₃.stp.le)) (part_of (hb.le T₃.stp.le) e₁) (part_of hc e₂) hr (give_sz hg)
    (Q := fun v s'' => ∃ W' σ', Tf X env Pv W₁ σ₁ s₁ W' σ' s'' ∧ ∃ av, VR X W' v av ∧ Q av σ') (E := EX X env Pv W₁ σ₁ s₁ E)
    fun v' s' W' H' T q => ⟨W', ⟨H', σ₃.loc⟩, (T₂.trans T₃).trans (T.tf T₃.at_), give_res hg q⟩) (fun i s' h' => wpAny_bind (wpAny_standAt h')) fun _ _ x => x
theorem snd_rev {fz : Bool} {e : PE} {v : Expr} {k : Nat} {p q r pos : Pos} (he : SE X n sc e v) : SE X n sc (.rev fz e) (.Subscript v (.Slice none none (some (.UnaryOp .USub (.Constant (.int 1) k p) q)) r) pos) := by
  intro A env Pv W σ s Q E ok at_ h
  rw [eval_Subscript]
  refine Ew.bindT ((he A env Pv W σ s _ E ok at_ h).mono fun a W₁ σ₁ s₁ _ qq27 at₁ _ => ?_)
  obtain ⟨y, hy, h₁⟩ := qq27
  show Ew X A env Pv (holding [a] (do
    let l ← valueOrNone (evalOpt none env)
    let u ← holding [l] (valueOrNone (evalOpt none env))
    let s ← holding [l, u] (do let v ← (mkInt 1 : Sem Value); standAt q; holding [v] (unaryOp .USub v))
    newFields "slice" [l, u, s]) >>= fun i => standAt pos >>= fun _ => subscriptTail v (.Slice none none (some (.UnaryOp .USub (.Constant (.int 1) k p) q)) r) a i) W₁ σ₁ s₁ _ E
  refine wpAny_bind (wpAny_holding (wpAny_bind (wpAny_pure (wpAny_bind (wpAny_holding (wpAny_pure (wpAny_bind (wpAny_holding (wpAny_bind (wpAny_mkInt (wpAny_bind (wpAny_standAt (wpAny_holding (neg_int ?_))))))))))))))
  obtain ⟨xs, hx, hg⟩ := need_iff.mp h₁
  have at₂ : At X env Pv W₁ σ₁ { s₁ with toks := s₁.toks + 1 + 1 } := ⟨at₁.rel, at₁.fr⟩
  refine wpAny_mono (rev_ok (fz := fz) (value := v) (slice := .Slice none none (some (.UnaryOp .USub (.Constant (.int 1) k p) q)) r) (s := { s₁ with toks := s₁.toks + 1 + 1 }) at₂.rel hy hx
    (Q := fun v s'' => ∃ W' σ', Tf X env Pv W₁ σ₁ s₁ W' σ' s'' ∧ ∃ av, VR X W' v av ∧ Q av σ') (E := EX X env Pv W₁ σ₁ s₁ E)
    fun v' s' W' H' T q => ⟨W', ⟨H', σ₁.loc⟩, Tf.trans (s' := { s₁ with toks := s₁.toks + 1 + 1 }) ⟨.refl, at₂, ⟨rfl, rfl, rfl⟩⟩ (Tc.tf at₂ T), give_res hg q⟩) (fun i s' h' => wpAny_bind (wpAny_standAt h')) fun _ _ x => x
end
end Mine
end

section
namespace Mine
open PySem PySem.W PySem.Calls PyProof.Rows

section
variable {X : Cx} {n : Nat} {sc : Scope}

theorem evalArgs_all {M : Model} {A : Around} {E : Value → Shared → Prop} {s : Shared} {f : Value} {ts : List (Bool × Sem Value)} {Q : Args → Shared → Prop} (hp : ∀ t ∈ ts, t.1 = false)
    (h : wpAny M A (spliced ts) (fun vs s' => Q ⟨vs, []⟩ s') E s) : wpAny M A (evalArgs f true ts []) Q E s := by
  cases ts with
  | nil =>
    unfold evalArgs
    show wpAny M A (spliced [] >>= _) Q E s
    refine wpAny_bind (wpAny_mono h (fun vs s' h' => wpAny_bind (wpAny_pure ?_)) fun _ _ x => x)
    refine wpAny_holding ?_
    exact wpAny_bind (wpAny_pure (wpAny_bind (wpAny_pure (wpAny_pure h'))))
  | cons t r =>
    obtain ⟨b, x⟩ := t
    have : b = false := hp (b, x) (.head _)
    subst this
    exact evalArgs_plain h

/-- a frozen answer -/
theorem giveV_ok {fz : Bool} {σ : St} {Q : V → St → Prop} {v : Value} {av : V} {W : Wd} {s : Shared} (R : RelH X W σ.H s.heap) (hv : VR X W v av) (g : giveV fz σ Q av) :
    ∃ W' H' av', Tc X W σ.H s W' H' s ∧ VR X W' v av' ∧ Q av' ⟨H', σ.loc⟩ := by
  cases fz with
  | false => exact ⟨W, σ.H, av, .refl R, hv, g⟩
  | true =>
    cases av with
    | ref i =>
      simp only [giveV] at g
      split at g
      · rename_i xs hx
        cases hv with
        | ref hl =>
          obtain ⟨o, r, t, q⟩ := R.freeze hx hl
          exact ⟨_, _, _, ⟨t, r, .refl _⟩, q, g⟩
      · exact ⟨W, σ.H, _, .refl R, hv, g⟩
    | _ => exact ⟨W, σ.H, _, .refl R, hv, g⟩

theorem plain_any {env : Env} {vs : List Expr} : ((vs.map fun e => ((false : Bool), eval e env)).any (·.1)) = false := by
  induction vs with
  | nil => rfl
  | cons x r ih => rw [List.map_cons, List.any_cons, ih]; rfl
theorem plain_all {env : Env} {vs : List Expr} : ∀ t ∈ (vs.map fun e => ((false : Bool), eval e env)), t.1 = false := by
  intro t ht
  obtain ⟨e, _, rfl⟩ := List.mem_map.mp ht
  rfl

/-- the arguments, then the call -/
theorem args_then {A : Around} {env : Env} {Pv : Addr → Prop} {W : Wd} {σ : St} {s : Shared} {E : EP} {as : PEs} {vs : List Expr} {f : Value} {Qv : List V → St → Prop} {Q : Args → Shared → Prop} (ok : EnvOk X A env n sc) (at_ : At X env Pv W σ s) (has : SEs X n sc as vs) (h : wpEs X.P (CW X.P n) E as σ Qv)
    (hq : ∀ cvs avs W' σ' s', Tf X env Pv W σ s W' σ' s' → VRs X W' cvs avs → Qv avs σ' → Q ⟨cvs, []⟩ s') :
    wpAny (model X.prog X.w) A (evalArgs f true (vs.map fun e => (false, eval e env)) []) Q (EX X env Pv W σ s E) s :=
  evalArgs_all plain_all (wpAny_mono (has A env Pv W σ s _ E ok at_ h) (fun cvs s' qq28 => by obtain ⟨W', σ', T, avs, hv, hq'⟩ := qq28; exact hq cvs avs W' σ' s' T hv hq') fun _ _ x => x)

/-- a call of a def of the text's -/
theorem fn_call (hK : CallOk X n) {A : Around} {env : Env} {Pv : Addr → Prop} {W : Wd} {σ : St} {s : Shared} {E : EP} {fz : Bool} {k : Nat} {a : Addr} {cvs : List Value} {avs : List V} {Q : V → St → Prop} (ok : AOk A n) (at_ : At X env Pv W σ s) (hv : VRs X W cvs avs) (ha : X.fnA k = some a)
    (h : CW X.P n k avs σ.H (fun v H => giveV fz (σ.setH H) Q v) (fun e H => E e (σ.setH H))) :
    wpAny (model X.prog X.w) A (call (.ref a) cvs []) (fun v s' => ∃ W' σ', Tf X env Pv W σ s W' σ' s' ∧ ∃ av, VR X W' v av ∧ Q av σ') (EX X env Pv W σ s E) s := by
  refine wpAny_call (codeAny_mono (hK A k a avs cvs W σ.H s _ _ ok at_.rel hv ha h) fun r s' hr => ?_)
  cases r with
  | ok fl =>
    cases fl with
    | ret v =>
      obtain ⟨W', H', av, T, hv', g⟩ := hr
      obtain ⟨W₂, H₂, av₂, T₂, hv₂, hq⟩ := giveV_ok (σ := σ.setH H') T.rel hv' g
      exact ⟨W₂, ⟨H₂, σ.loc⟩, (T.trans T₂).tf at_, av₂, hv₂, hq⟩
    | _ => exact hr.elim
  | error e =>
    obtain ⟨W', H', i, l, T, he, hl, hf, hE⟩ := hr
    exact ⟨W', ⟨H', σ.loc⟩, i, l, T.tf at_, he, hl, hf, hE⟩

theorem bval_cases (b : B) : (∃ T, bval b = .type T) ∨ ∃ id, bval b = .builtin id := by
  cases b <;> first | exact .inl ⟨_, rfl⟩ | exact .inr ⟨_, rfl⟩

theorem callW_fail {A : Around} {M : Model} {E : Value → Shared → Prop} {s : Shared} {pos : Pos} {f : Value} {first : List Value} {args : List (Bool × Sem Value)} {Q : Value → Shared → Prop} (h : wpAny M A (evalArgs f true args []) (fun _ _ => False) E s) :
    wpAny M A (callWith pos f first args []) Q E s := by
  unfold callWith
  exact wpAny_bind (wpAny_holding (wpAny_mono h (fun _ _ h₁ => h₁.elim) fun _ _ x => x))

theorem eval_Call_Name (x : Str) (p : Pos) (args : List Expr) (pos : Pos) (env : Env) : eval (.Call (.Name x p) args [] pos) env = (do
    callWith pos (← eval (.Name x p) env) [] (backTo pos (starEach args env)) []) := rfl

theorem call_rest (K : CxOk X) (hK : CallOk X n) {A : Around} {env : Env} {Pv : Addr → Prop} {W : Wd} {σ : St} {s : Shared} {E : EP} {Q : V → St → Prop} {fz : Bool} {as : PEs} {vs : List Expr} {pos : Pos} {cf : Value} {g : V} (ok : EnvOk X A env n sc) (at₁ : At X env Pv W σ s) (has : SEs X n sc as vs) (hg : VR X W cf g) (hno : ∀ k, g ≠ .cls k)
    (h₁ : wpEs X.P (CW X.P n) E as σ fun vs σ₂ => callF X.P (CW X.P n) E fz σ₂ g vs Q) : Ew X A env Pv (callWith pos cf [] (vs.map fun e => (false, eval e env)) []) W σ s (fun v W' σ' _ => ∃ av, VR X W' v av ∧ Q av σ') E := by
  have bad : (∀ σ' avs, callF X.P (CW X.P n) E fz σ' g avs Q → False) → Ew X A env Pv (callWith pos cf [] (vs.map fun e => (false, eval e env)) []) W σ s (fun v W' σ' _ => ∃ av, VR X W' v av ∧ Q av σ') E := fun hb =>
    callW_fail (args_then ok at₁ has h₁ fun cvs avs W' σ' s' T hv hq => hb _ _ hq)
  cases hg with
  | bt b =>
    have key : ∀ cvs avs W' σ' s', Tf X env Pv W σ s W' σ' s' → VRs X W' cvs avs → callF X.P (CW X.P n) E fz σ' (.bt b) avs Q →
        wpAny (model X.prog X.w) A (call (bval b) cvs []) (fun v s' => ∃ W' σ', Tf X env Pv W σ s W' σ' s' ∧ ∃ av, VR X W' v av ∧ Q av σ') (EX X env Pv W σ s E) s' := fun cvs avs W' σ' s' T hv hq => by
      obtain ⟨r, hr, hgive⟩ := need_iff.mp hq
      exact callB_ok (fz := fz) ok.ok.hh T.at_.rel hv hr (give_sz hgive) fun v' s'' W'' H'' T' q => ⟨W'', ⟨H'', σ'.loc⟩, T.trans (T'.tf T.at_), give_res hgive q⟩
    rcases bval_cases b with ⟨T, e⟩ | ⟨id, e⟩
    · rw [e] at key ⊢
      exact PyProof.Rows.callWith_type plain_any (args_then ok at₁ has h₁ fun cvs avs W' σ' s' T hv hq => key cvs avs W' σ' s' T hv hq)
    · rw [e] at key ⊢
      exact callWith_builtin plain_any (args_then ok at₁ has h₁ fun cvs avs W' σ' s' T hv hq => key cvs avs W' σ' s' T hv hq)
  | fn ha =>
    obtain ⟨o, fd, ho, hd⟩ := K.fnAt _ _ ha
    refine callWith_function (o := o) (fd := fd) (args_then ok at₁ has h₁ fun cvs avs W' σ' s' T hv hq => ⟨⟨T.at_.rel.bkeep _ _ ho, hd⟩, ?_⟩)
    exact wpAny_mono (fn_call hK ok.ok.call T.at_ hv ha hq) (fun v s'' qq29 => by obtain ⟨W₂, σ₂, T₂, r⟩ := qq29; exact ⟨W₂, σ₂, T.trans T₂, r⟩) fun _ _ x => x.back T
  | cls ha => exact (hno _ rfl).elim
  | _ => exact bad fun _ _ q => q
theorem snd_call0 (K : CxOk X) (hK : CallOk X n) (hno : ∀ k, X.clA k = none) {nm : Nat → Str} {fz : Bool} {f : PE} {as : PEs} {x : Str} {p : Pos} {vs : List Expr} {pos : Pos} (hf : SE X n sc f (.Name x p)) (has : SEs X n sc as vs) (hc : chkEs nm sc as vs = true) : SE X n sc (.call fz f as) (.Call (.Name x p) vs [] pos) := by
  intro A env Pv W σ s Q E ok at_ h
  rw [eval_Call_Name, back_plain hc]
  refine Ew.bindT ((hf A env Pv W σ s _ E ok at_ h).mono fun cf W₁ σ₁ s₁ _ qq30 at₁ _ => ?_)
  obtain ⟨g, hg, h₁⟩ := qq30
  refine call_rest K hK ok at₁ has hg (fun k e => ?_) h₁
  subst e
  cases hg with | cls ha => rw [hno] at ha; cases ha

theorem base_plain {o : Expr} {a : Str} {env : Env} {t : Sem Value} (h : notSuper o = true) : attributeBase o a env t = t := by
  unfold attributeBase
  split
  · cases h
  · rfl
theorem form_plain {env : Env} {vs : List Expr} {pos : Pos} (h : vs.length ≤ 20) : methodCallForm (vs.length + ([] : List Keyword).length) (vs.map fun e => ((false : Bool), eval e env)) (backToKw pos (keywordEach [] env)) = true := by
  unfold methodCallForm
  have : ((vs.map fun e => ((false : Bool), eval e env)).all (!·.1)) = true := by
    rw [List.all_eq_true]
    intro t ht
    rw [plain_all t ht]; rfl
  rw [this]
  simp [backToKw, keywordEach]
  omega

theorem append_ok {A : Around} {E : Value → Shared → Prop} {W : Wd} {H : Hp} {s : Shared} {i : Nat} {l : Addr × Addr} {xs : List V} {v : Value} {x : V} {Q : Value → Shared → Prop} (R : RelH X W H s.heap) (hi : H.get i = some (.list xs)) (hl : W.φ i = some l) (hv : VR X W v x) (hz : xs.length < SZ)
    (h : ∀ s', Tc X W H s W (H.set i (.list (xs ++ [x]))) s' → Q .none s') : wpAny (model X.prog X.w) A (call (.builtin "list.append") [.ref l.1, v]) Q E s := by
  obtain ⟨l', hl', vs, k, hg, hvs, he, _⟩ := R.cell i _ hi
  have := Option.some.inj (hl'.symm.trans hl)
  subst this
  refine append_at hg (fun h' hs ha => ?_) (by rw [hvs.toArr]; exact szLine (Nat.le_of_lt hz))
  obtain ⟨r, t⟩ := R.upd (h' := h') (c' := .list (xs ++ [x])) hi hl (fun b ob e n1 _ => (hs.2 b n1).trans e) ⟨_, _, ha, by rw [Array.toList_push]; exact hvs.append (.cons hv .nil), he, by rw [List.length_append]; exact hz⟩
  exact h _ ⟨t, r, ⟨rfl, rfl, rfl⟩⟩

theorem pop_ok {A : Around} {E : Value → Shared → Prop} {W : Wd} {H : Hp} {s : Shared} {i : Nat} {l : Addr × Addr} {xs : List V} {k : Int} {t : Tok} {j : Nat} {x : V} {Q : Value → Shared → Prop} (R : RelH X W H s.heap) (hi : H.get i = some (.list xs)) (hl : W.φ i = some l) (hj : pyIdx k xs.length = some j) (hx : xs[j]? = some x)
    (h : ∀ v s', Tc X W H s W (H.set i (.list (xs.take j ++ xs.drop (j + 1)))) s' → VR X W v x → Q v s') : wpAny (model X.prog X.w) A (call (.builtin "list.pop") [.ref l.1, .int k t]) Q E s := by
  obtain ⟨l', hl', vs, m, hg, hvs, he, hz⟩ := R.cell i _ hi
  have := Option.some.inj (hl'.symm.trans hl)
  subst this
  have z := hvs.toArr
  obtain ⟨v, hv, hr⟩ := arr_get hvs hx
  have z63 := sz63 hz
  have hfit : Builtin.List.listFitsIndex k = true := by
    unfold Builtin.List.listFitsIndex
    by_cases h0 : 0 ≤ k
    · have := pyIdx_pos hj h0; simp; omega
    · have := pyIdx_neg hj (by omega); simp; omega
  refine call_meets F.slot_list_pop ⟨_, hg, rfl⟩ F.entry_list_pop (F.args_list_pop_2 _ _) (MeetsSeq.list_pop_at l'.1 vs m k t j v hfit (by rw [z]; exact pyIdx_seq hj) hv (by rw [z]; exact szLine hz)) ⟨hg, ?_⟩
  have hlt : j < vs.size := (Array.getElem?_eq_some_iff.mp hv).1
  have hg' : (s.heap.update l'.1 (Obj.mapSeq fun xs => xs.eraseIdxIfInBounds j)).get? l'.1 = some (Obj.mapSeq (fun xs => xs.eraseIdxIfInBounds j) (lstO vs m)) := Heap.get?_update_self _ hg rfl
  have e : (vs.eraseIdxIfInBounds j).toList = vs.toList.take j ++ vs.toList.drop (j + 1) := by
    rw [Array.toList_eraseIdxIfInBounds, List.eraseIdx_eq_take_drop_succ]
  obtain ⟨r, t⟩ := R.upd (h' := s.heap.update l'.1 (Obj.mapSeq fun xs => xs.eraseIdxIfInBounds j)) (c' := .list (xs.take j ++ xs.drop (j + 1))) hi hl (fun b ob q n1 _ => (Heap.get?_update_other _ _ (Ne.symm n1)).trans q)
    ⟨_, _, hg', by rw [e]; exact (hvs.take j).append (hvs.drop (j + 1)), he, by rw [List.length_append, List.length_take, List.length_drop]; omega⟩
  exact h v _ ⟨t, r, ⟨rfl, rfl, rfl⟩⟩ hr

theorem snd_methL (K : CxOk X) {nm : Nat → Str} {fz : Bool} {o : PE} {m : Nat} {as : PEs} {v : Expr} {ap pos : Pos} {vs : List Expr} (hnm : nm = X.nm) (ho : SE X n sc o v) (has : SEs X n sc as vs) (hc : chkEs nm sc as vs = true) (hns : notSuper v = true) (hlen : vs.length ≤ 20) (hline : (ap.endLine == pos.line) = true)
    (hinst : ∀ (A : Around) (env : Env) (Pv : Addr → Prop) (W : Wd) (σ : St) (s : Shared) (Q : V → St → Prop) (E : EP) (i : Nat) (l : Addr × Addr) (k : Nat) (fs : List (Nat × V)), EnvOk X A env n sc → At X env Pv W σ s → W.φ i = some l → σ.H.get i = some (.inst k fs) →
      (need (X.P.cls k) fun c => need (mlk c.meths m) fun f => wpEs X.P (CW X.P n) E as σ fun vs σ₂ => callF X.P (CW X.P n) E fz σ₂ (.fn f) (.ref i :: vs) Q) →
      Ew X A env Pv (methodCall v (X.nm m) ap pos env (.ref l.1) (vs.length + ([] : List Keyword).length) (vs.map fun e => (false, eval e env)) (backToKw pos (keywordEach [] env))) W σ s (fun v W' σ' _ => ∃ av, VR X W' v av ∧ Q av σ') E) :
    SE X n sc (.meth fz o m as) (.Call (.Attribute v (X.nm m) ap) vs [] pos) := by
  intro A env Pv W σ s Q E ok at_ h
  rw [arm_eval_Call, base_plain hns, back_plain hc]
  refine Ew.bindT ((ho A env Pv W σ s _ E ok at_ h).mono fun cf W₁ σ₁ s₁ _ qq31 at₁ _ => ?_)
  obtain ⟨g, hg, h₁⟩ := qq31
  refine Ew.standAt ?_
  cases hg with
  | @ref i l hl =>
    simp only at h₁
    cases hgi : σ₁.H.get i with
    | none => simp only [hgi] at h₁
    | some c =>
      cases c with
      | inst k fs => simp only [hgi] at h₁; exact hinst A env Pv W₁ σ₁ s₁ Q E i l k fs ok at₁ hl hgi h₁
      | dict _ => simp only [hgi] at h₁
      | exc _ => simp only [hgi] at h₁
      | list xs =>
        simp only [hgi] at h₁
        obtain ⟨hAP, h₁⟩ := h₁
        obtain ⟨l', hl', ws, k, hg, hvs, he, hz⟩ := at₁.rel.cell i _ hgi
        have := Option.some.inj (hl'.symm.trans hl)
        subst this
        have hT : s₁.TypeIs (.ref l'.1) "list" := ⟨_, hg, rfl⟩
        have hd : ∀ a, Value.ref l'.1 = .ref a → ∃ ob, s₁.heap.get? a = some ob ∧ ob.dict = none := fun a e => by cases e; exact ⟨_, hg, rfl⟩
        have hpos : methodCallPos true v env ap pos = pure pos := by unfold methodCallPos; simp [hline]
        -- which method
        have go : ∀ (id : String), Slot "list" (X.nm m) id → typeOf (.builtin id) = pure (.type "method_descriptor") →
            (∀ cvs avs W₂ σ₂ s₂ ys, Tf X env Pv W₁ σ₁ s₁ W₂ σ₂ s₂ → VRs X W₂ cvs avs → σ₂.H.get i = some (.list ys) → methL X.P σ₂ i m avs ys Q →
              wpAny (model X.prog X.w) A (call (.builtin id) ([.ref l'.1] ++ cvs) []) (fun v s' => ∃ W' σ', Tf X env Pv W₁ σ₁ s₁ W' σ' s' ∧ ∃ av, VR X W' v av ∧ Q av σ') (EX X env Pv W₁ σ₁ s₁ E) s₂) →
            Ew X A env Pv (methodCall v (X.nm m) ap pos env (.ref l'.1) (vs.length + ([] : List Keyword).length) (vs.map fun e => (false, eval e env)) (backToKw pos (keywordEach [] env))) W₁ σ₁ s₁ (fun v W' σ' _ => ∃ av, VR X W' v av ∧ Q av σ') E := fun id slot hty hcall => by
          unfold methodCall
          rw [form_plain hlen]
          refine wpAny_bind (wpAny_holding (getMethod_builtin hT F.plainAttrs_list slot hty hd ?_))
          refine wpAny_bind (wpAny_of_eq hpos ?_)
          refine callWith_builtin plain_any (args_then ok at₁ has h₁ fun cvs avs W' σ' s' T hv hq => ?_)
          cases hgi' : σ'.H.get i with
          | none => simp only [hgi'] at hq
          | some c' =>
            cases c' with
            | list ys => simp only [hgi'] at hq; exact hcall cvs avs W' σ' s' ys T hv hgi' hq
            | _ => simp only [hgi'] at hq
        by_cases hA : m = X.P.nAppend
        · have e : X.nm m = Str.ofString "append" := by rw [hA]; exact K.nAppend
          refine go "list.append" (by rw [e]; exact F.slot_list_append) F.type_list_append fun cvs avs W₂ σ₂ s₂ ys T hv hgi' hq => ?_
          unfold methL at hq
          rw [if_pos hA] at hq
          split at hq
          · obtain ⟨cv, rfl, hcv⟩ := hv.one
            exact append_ok T.at_.rel hgi' (T.stp.le.ff _ _ hl) hcv hq.1 fun s' T' => ⟨W₂, ⟨_, σ₂.loc⟩, T.trans (T'.tf T.at_), _, .none, hq.2⟩
          · exact hq.elim
        · by_cases hP : m = X.P.nPop
          · have e : X.nm m = Str.ofString "pop" := by rw [hP]; exact K.nPop
            refine go "list.pop" (by rw [e]; exact F.slot_list_pop) F.type_list_pop fun cvs avs W₂ σ₂ s₂ ys T hv hgi' hq => ?_
            unfold methL at hq
            rw [if_neg hA, if_pos hP] at hq
            split at hq
            · obtain ⟨cv, rfl, hcv⟩ := hv.one
              cases hcv with | int kk t =>
              obtain ⟨j, hj, hq⟩ := need_iff.mp hq
              obtain ⟨x, hx, hq⟩ := need_iff.mp hq
              exact pop_ok T.at_.rel hgi' (T.stp.le.ff _ _ hl) hj hx fun v s' T' hv => ⟨W₂, ⟨_, σ₂.loc⟩, T.trans (T'.tf T.at_), _, hv, hq⟩
            · exact hq.elim
          · exact (hAP.elim hA hP).elim
  | _ => exact h₁.elim
end
end Mine
end

section
namespace Mine
open PySem PySem.Calls PyProof.Rows

/-- the iterator at I stands at place k of what v holds -/
noncomputable def ItAt (X : Cx) (W : Wd) (h : Heap) (I : Addr) (v : V) (k : Nat) : Prop := match v with
  | .lst _ | .ref _ => ∃ a, VR X W (.ref a) v ∧ h.IsListIter I a k
  | .tup _ => ∃ a, VR X W (.ref a) v ∧ h.IsTupleIter I a k
  | .rng a b c => (c = 1 ∨ c = -1) ∧ IsRangeIter h I (a + (k : Nat) * c) ((rngN a b c : Int) - (k : Nat)) c
  | _ => False

section
variable {X : Cx} {A : Around} {E : Value → Shared → Prop} {W : Wd} {H : Hp} {s : Shared}

theorem ItAt.keep {W' : Wd} {h h' : Heap} {I : Addr} {v : V} {k : Nat} (it : ItAt X W h I v k) (le : Wd.Le W W') (hk : ∀ o, h.get? I = some o → o.cls ≠ .type "frame" → h'.get? I = some o) : ItAt X W' h' I v k := by
  have li : ∀ a, h.IsListIter I a k → h'.IsListIter I a k := fun a ⟨o, ho, hc, hd⟩ => ⟨o, hk o ho (by rw [hc]; decide), hc, hd⟩
  have ti : ∀ a, h.IsTupleIter I a k → h'.IsTupleIter I a k := fun a ⟨o, ho, hc, hd⟩ => ⟨o, hk o ho (by rw [hc]; decide), hc, hd⟩
  cases v with
  | lst xs => obtain ⟨a, r, q⟩ := it; exact ⟨a, r.le le, li a q⟩
  | ref i => obtain ⟨a, r, q⟩ := it; exact ⟨a, r.le le, li a q⟩
  | tup xs => obtain ⟨a, r, q⟩ := it; exact ⟨a, r.le le, ti a q⟩
  | rng a b c => exact ⟨it.1, hk _ it.2 (by intro q; revert q; show ¬ (Value.type "range_iterator" = Value.type "frame"); decide)⟩
  | _ => exact it.elim
theorem ItAt.there {h : Heap} {I : Addr} {v : V} {k : Nat} (it : ItAt X W h I v k) : ∃ o, h.get? I = some o ∧ o.cls ≠ .type "frame" := by
  cases v with
  | lst xs => obtain ⟨a, r, o, ho, hc, _⟩ := it; exact ⟨o, ho, by rw [hc]; decide⟩
  | ref i => obtain ⟨a, r, o, ho, hc, _⟩ := it; exact ⟨o, ho, by rw [hc]; decide⟩
  | tup xs => obtain ⟨a, r, o, ho, hc, _⟩ := it; exact ⟨o, ho, by rw [hc]; decide⟩
  | rng a b c => exact ⟨_, it.2, by show ¬ (Value.type "range_iterator" = Value.type "frame"); decide⟩
  | _ => exact it.elim

theorem rngLget (c : Int) : ∀ (n : Nat) (a : Int) (k : Nat), k < n → (rngL a c n)[k]? = some (.int (a + (k : Nat) * c))
  | n + 1, a, 0, _ => by simp [rngL]
  | n + 1, a, k + 1, h => by
    show (rngL (a + c) c n)[k]? = _
    rw [rngLget c n (a + c) k (by omega)]
    congr 2
    push_cast
    rw [Int.add_mul, Int.one_mul]; omega
theorem rngLlen (c : Int) : ∀ (n : Nat) (a : Int), (rngL a c n).length = n
  | 0, _ => rfl
  | n + 1, a => by show (rngL (a + c) c n).length + 1 = n + 1; rw [rngLlen c n]

theorem items_asList {v : V} {xs : List V} (h : items H v = some xs) (hv : (∃ ys, v = .lst ys) ∨ ∃ i, v = .ref i) : asList H v = some xs := by
  rcases hv with ⟨ys, rfl⟩ | ⟨i, rfl⟩
  · exact h
  · simp only [items] at h
    simp only [asList]
    split at h
    · rename_i q; rw [q]; exact h
    · cases h
    · cases h

theorem isTuple_of {h : Heap} {a : Addr} {vs : Array Value} (t : IsTup h a vs) : h.IsTuple a vs := t

theorem iter_ok {cv : Value} {v : V} {xs : List V} {Q : Value → Shared → Prop} (R : RelH X W H s.heap) (hv : VR X W cv v) (hi : items H v = some xs)
    (h : ∀ o, o.isFreed = false → ItAt X W (s.heap.push o) s.heap.objs.size v 0 → Q (.ref s.heap.objs.size) { s with heap := s.heap.push o }) : wpAny (model X.prog X.w) A (pyIter cv) Q E s := by
  have lst : ∀ (_ : (∃ ys, v = .lst ys) ∨ ∃ i, v = .ref i), wpAny (model X.prog X.w) A (pyIter cv) Q E s := fun hq => by
    obtain ⟨a, vs, n, rfl, hg, r, q, z⟩ := hv.isLst R (items_asList hi hq)
    refine wpAny_pyIter_list (items := vs) ⟨_, hg, rfl, _, rfl⟩ (h _ rfl ?_)
    rcases hq with ⟨ys, rfl⟩ | ⟨i, rfl⟩ <;> exact ⟨a, hv, _, Heap.get?_push_size _ rfl, rfl, rfl⟩
  cases v with
  | lst ys => exact lst (.inl ⟨_, rfl⟩)
  | ref i => exact lst (.inr ⟨_, rfl⟩)
  | tup ys =>
    obtain ⟨a, vs, rfl, ht, r, q, z⟩ := hv.isTup R
    exact wpAny_pyIter_tuple (items := vs) (isTuple_of ht) (h _ rfl ⟨a, hv, _, Heap.get?_push_size _ rfl, rfl, rfl⟩)
  | rng a b c =>
    cases hv with
    | rng z ha hb hc =>
      refine wpAny_pyIter_range (R.z _ _ z) (rng_small hc ha hb) (h _ rfl ⟨hc, ?_⟩)
      rw [rng_size hc]
      have : IsRangeIter (s.heap.push { cls := .type "range_iterator", data := .fields #[rawInt a, rawInt (rngN a b c), rawInt c] }) s.heap.objs.size a (rngN a b c) c := Heap.get?_push_size _ rfl
      simpa using this
  | _ => simp [items] at hi

theorem next_item {I : Addr} {v x : V} {xs : List V} {k : Nat} {Q : Option Value → Shared → Prop} (R : RelH X W H s.heap) (it : ItAt X W s.heap I v k) (hi : items H v = some xs) (hx : xs[k]? = some x)
    (h : ∀ cv h' tk, VR X W cv x → ItAt X W h' I v (k + 1) → Heap.ExtBut I s.heap h' → Q (some cv) { s with heap := h', toks := tk }) : wpAny (model X.prog X.w) A (pyNext (.ref I)) Q E s := by
  have lst : ∀ a, (∀ h', h'.IsListIter I a (k + 1) → ItAt X W h' I v (k + 1)) → VR X W (.ref a) v → s.heap.IsListIter I a k → ((∃ ys, v = .lst ys) ∨ ∃ i, v = .ref i) → wpAny (model X.prog X.w) A (pyNext (.ref I)) Q E s := fun a mk hv hit hq => by
    obtain ⟨a', vs, n, e, hg, r, q, z⟩ := hv.isLst R (items_asList hi hq)
    cases e
    obtain ⟨cv, hcv, rv⟩ := arr_get r hx
    exact wpAny_pyNext_list_item hit (items := vs) ⟨_, hg, rfl, _, rfl⟩ hcv fun h' hit' hs => h cv h' s.toks rv (mk h' hit') hs.extBut
  cases v with
  | lst ys => obtain ⟨a, hv, hit⟩ := it; exact lst a (fun h' q => ⟨a, hv, q⟩) hv hit (.inl ⟨_, rfl⟩)
  | ref i => obtain ⟨a, hv, hit⟩ := it; exact lst a (fun h' q => ⟨a, hv, q⟩) hv hit (.inr ⟨_, rfl⟩)
  | tup ys =>
    obtain ⟨a, hv, hit⟩ := it
    obtain ⟨a', vs, e, ht, r, q, z⟩ := hv.isTup R
    cases e
    have : ys = xs := Option.some.inj hi
    subst this
    obtain ⟨cv, hcv, rv⟩ := arr_get r hx
    exact wpAny_pyNext_tuple_item hit (items := vs) (isTuple_of ht) hcv fun h' hit' hs => h cv h' s.toks rv ⟨a, hv, hit'⟩ hs.extBut
  | rng a b c =>
    obtain ⟨hc, hit⟩ := it
    have e : rngL a c (rngN a b c) = xs := Option.some.inj hi
    have hk : k < rngN a b c := by
      have := (List.getElem?_eq_some_iff.mp hx).1
      rw [← e, rngLlen] at this; exact this
    rw [← e, rngLget c _ a k hk] at hx
    cases hx
    refine wpAny_pyNext_range_item hit (by omega) fun h' hit' hs => h _ h' _ (.int _ _) ⟨hc, ?_⟩ hs.extBut
    have e1 : a + ((k + 1 : Nat) : Int) * c = a + (k : Int) * c + c := by push_cast; rw [Int.add_mul, Int.one_mul, Int.add_assoc]
    have e2 : (rngN a b c : Int) - ((k + 1 : Nat) : Int) = (rngN a b c : Int) - (k : Int) - 1 := by push_cast; omega
    rw [e1, e2]; exact hit'
  | _ => exact it.elim

theorem next_end {I : Addr} {v : V} {xs : List V} {Q : Option Value → Shared → Prop} (hh : A.handled = none) (R : RelH X W H s.heap) (it : ItAt X W s.heap I v xs.length) (hi : items H v = some xs)
    (h : ∀ h', Heap.ExtBut I s.heap h' → Q none { s with heap := h' }) : wpAny (model X.prog X.w) A (pyNext (.ref I)) Q E s := by
  have lst : ∀ a, VR X W (.ref a) v → s.heap.IsListIter I a xs.length → ((∃ ys, v = .lst ys) ∨ ∃ i, v = .ref i) → wpAny (model X.prog X.w) A (pyNext (.ref I)) Q E s := fun a hv hit hq => by
    obtain ⟨a', vs, n, e, hg, r, q, z⟩ := hv.isLst R (items_asList hi hq)
    cases e
    exact wpAny_pyNext_list_end hh hit (items := vs) ⟨_, hg, rfl, _, rfl⟩ (by rw [← z]; simp) fun h' hs => h h' hs
  cases v with
  | lst ys => obtain ⟨a, hv, hit⟩ := it; exact lst a hv hit (.inl ⟨_, rfl⟩)
  | ref i => obtain ⟨a, hv, hit⟩ := it; exact lst a hv hit (.inr ⟨_, rfl⟩)
  | tup ys =>
    obtain ⟨a, hv, hit⟩ := it
    obtain ⟨a', vs, e, ht, r, q, z⟩ := hv.isTup R
    cases e
    have : ys = xs := Option.some.inj hi
    subst this
    exact wpAny_pyNext_tuple_end hh hit (items := vs) (isTuple_of ht) (by rw [← z]; simp) fun h' hs => h h' hs
  | rng a b c =>
    obtain ⟨hc, hit⟩ := it
    have e : rngL a c (rngN a b c) = xs := Option.some.inj hi
    have hk : xs.length = rngN a b c := by rw [← e, rngLlen]
    exact wpAny_pyNext_range_end hh hit (by rw [hk]; omega) fun h' hs => h h' hs
  | _ => exact it.elim

/-- an object of no one's: an iterator, a list in the making -/
structure Lone (X : Cx) (env : Env) (Pv : Addr → Prop) (W : Wd) (H : Hp) (h : Heap) (I : Addr) : Prop where
  own : ¬ Own W H I
  z : W.Z I = none
  pv : ¬ Pv I
  cell : ∀ x c, env.cells.lookup x = some c → c ≠ I
  at_ : ∃ o, h.get? I = some o
theorem Lone.step {env : Env} {Pv Pv' : Addr → Prop} {W' : Wd} {H' : Hp} {h h' : Heap} {I : Addr} (L : Lone X env Pv W H h I) (S : Stp Pv' W H h W' H' h') : Lone X env Pv W' H' h' I := by
  obtain ⟨o, e⟩ := L.at_
  refine ⟨S.own I o e L.own, ?_, L.pv, L.cell, S.there I o e⟩
  cases q : W'.Z I with
  | none => rfl
  | some ob =>
    rcases S.znew I ob q with r | r | r
    · rw [L.z] at r; cases r
    · exact absurd r L.own
    · rw [e] at r; cases r
theorem Lone.keep {env : Env} {Pv : Addr → Prop} {W' : Wd} {H' : Hp} {h h' : Heap} {I : Addr} (L : Lone X env Pv W H h I) (S : Stp Pv W H h W' H' h') : ∀ o, h.get? I = some o → o.cls ≠ .type "frame" → h'.get? I = some o := fun o e n => by
  obtain ⟨o', e', q⟩ := S.keep I o e L.own L.pv
  rw [q.eq n] at e'; exact e'
/-- a lone object is changed, others are made -/
theorem At.poke {env : Env} {Pv : Addr → Prop} {σ : St} {I : Addr} {h' : Heap} {tk : Nat} (a : At X env Pv W σ s) (L : Lone X env Pv W σ.H s.heap I) (hs : Heap.ExtBut I s.heap h') : At X env Pv W σ { s with heap := h', toks := tk } := by
  refine ⟨a.rel.quiet (Pv := fun b => b = I) (fun b o e n => hs b o n e) (fun b e => by subst e; exact ⟨L.own, L.z⟩), ?_⟩
  have F := a.fr
  have nl : env.locals ≠ I := fun e => L.pv (e ▸ F.pvL)
  refine ⟨?_, fun i v e k => ?_, fun x ef e => ?_, F.cellEq, fun x c e => ?_, F.pvL, F.priv, fun b p => ?_⟩
  · obtain ⟨m, hn, hm⟩ := F.ns
    exact ⟨m, hn.extBut hs nl, hm⟩
  · obtain ⟨c, cv, q, ⟨o, ho, hd⟩, r⟩ := F.cells i v e k
    exact ⟨c, cv, q, ⟨o, hs c o (L.cell _ _ q) ho, hd⟩, r⟩
  · obtain ⟨c, cv, q, ⟨o, ho, hd⟩, r⟩ := F.hasCell x ef e
    exact ⟨c, cv, q, ⟨o, hs c o (L.cell _ _ q) ho, hd⟩, r⟩
  · obtain ⟨p, q, o, ho⟩ := F.cellNs x c e
    exact ⟨p, q, o, hs c o (L.cell _ _ e) ho⟩
  · obtain ⟨o, ho⟩ := F.pvAt b p
    exact ⟨o, hs b o (fun e => L.pv (e ▸ p)) ho⟩
/-- seen from before the object was made -/
theorem Stp.poke {Pv : Addr → Prop} {W' : Wd} {H' : Hp} {h h' h'' : Heap} {I : Addr} (S : Stp Pv W H h W' H' h') (hn : h.get? I = none) (hs : Heap.ExtBut I h' h'') : Stp Pv W H h W' H' h'' where
  le := S.le
  keep := fun x o e n p => by
    obtain ⟨o', e', q⟩ := S.keep x o e n p
    exact ⟨o', hs x o' (fun z => by subst z; rw [hn] at e; cases e) e', q⟩
  own := S.own
  znew := S.znew
  there := fun x o e => let ⟨o', e'⟩ := S.there x o e; ⟨o', hs x o' (fun z => by subst z; rw [hn] at e; cases e) e'⟩
theorem Tf.poke {env : Env} {Pv : Addr → Prop} {σ σ' : St} {W' : Wd} {s' : Shared} {I : Addr} {h'' : Heap} {tk : Nat} (T : Tf X env Pv W σ s W' σ' s') (hn : s.heap.get? I = none) (L : Lone X env Pv W' σ'.H s'.heap I) (hs : Heap.ExtBut I s'.heap h'') : Tf X env Pv W σ s W' σ' { s' with heap := h'', toks := tk } :=
  ⟨T.stp.poke hn hs, T.at_.poke L hs, ⟨T.rest.gens, T.rest.drawn, T.rest.os⟩⟩
/-- a new object of no one's -/
theorem Lone.new {env : Env} {Pv : Addr → Prop} {σ : St} {h' : Heap} (a : At X env Pv W σ s) {I : Addr} (hn : s.heap.get? I = none) (hI : ∃ o, h'.get? I = some o) : Lone X env Pv W σ.H h' I := by
  refine ⟨fun o => ?_, ?_, fun p => ?_, fun x c e q => ?_, hI⟩
  · obtain ⟨ob, e⟩ := a.rel.own_there o; rw [hn] at e; cases e
  · cases q : W.Z I with
    | none => rfl
    | some o => have := a.rel.z _ _ q; rw [hn] at this; cases this
  · obtain ⟨o, e⟩ := a.fr.pvAt I p; rw [hn] at e; cases e
  · subst q
    obtain ⟨_, _, o, ho⟩ := a.fr.cellNs x c e
    rw [hn] at ho; cases ho
theorem Tf.push {env : Env} {Pv : Addr → Prop} {σ : St} {o : Obj} {tk : Nat} (a : At X env Pv W σ s) : Tf X env Pv W σ s W σ { s with heap := s.heap.push o, toks := tk } := by
  have hk : ∀ b ob, s.heap.get? b = some ob → (s.heap.push o).get? b = some ob := fun b ob e => Heap.get?_push_of_some _ e
  have S : Stp noPv W σ.H s.heap W σ.H (s.heap.push o) := .quiet (fun b ob e _ => hk b ob e) fun b ob e => ⟨ob, hk b ob e⟩
  exact ⟨S.mono fun _ z => z.elim, ⟨a.rel.quiet (Pv := noPv) (fun b ob e _ => hk b ob e) fun _ z => z.elim, a.fr.step S fun _ z => z.elim⟩, ⟨rfl, rfl, rfl⟩⟩
end
end Mine
end

section
namespace Mine
open PySem PySem.W PySem.Calls PyProof.Rows

inductive FR (X : Cx) (W : Wd) : PySem.Flow → Flow → Prop
  | next : FR X W .next .next
  | brk : FR X W .brk .brk
  | cont : FR X W .cont .cont
  | ret {v : Value} {x : V} : VR X W v x → FR X W (.ret v) (.ret x)

section
variable {X : Cx} {n : Nat} {sc : Scope}

noncomputable def S1 (X : Cx) (n : Nat) (sc : Scope) (p : PS) (st : Stmt) : Prop := ∀ (A : Around) (env : Env) (Pv : Addr → Prop) (W : Wd) (σ : St) (s : Shared) (Q : Flow → St → Prop) (E : EP),
  EnvOk X A env n sc → env.func ≠ none → At X env Pv W σ s → wpS X.P (CW X.P n) p σ Q E → Ew X A env Pv (exec st env) W σ s (fun fl W' σ' _ => ∃ af, FR X W' fl af ∧ Q af σ') E
noncomputable def SS (X : Cx) (n : Nat) (sc : Scope) (p : PSs) (st : List Stmt) : Prop := ∀ (A : Around) (env : Env) (Pv : Addr → Prop) (W : Wd) (σ : St) (s : Shared) (Q : Flow → St → Prop) (E : EP),
  EnvOk X A env n sc → env.func ≠ none → At X env Pv W σ s → wpSs X.P (CW X.P n) p σ Q E → Ew X A env Pv (execs st env) W σ s (fun fl W' σ' _ => ∃ af, FR X W' fl af ∧ Q af σ') E

theorem EX.no {env : Env} {Pv : Addr → Prop} {W : Wd} {σ : St} {s s' : Shared} {E : EP} {e : Value} (x : EX X env Pv W σ s E e s') : False := let ⟨_, _, _, _, _, _, _, f, _⟩ := x; f

section
variable {A : Around} {env : Env} {Pv : Addr → Prop} {W : Wd} {σ : St} {s : Shared} {E : EP}

theorem fn_hp (ok : EnvOk X A env n sc) : (env.scope.kind == .class || (env.scope.kind == .module && env.locals != env.globals)) = false := by rw [ok.kind]; rfl

theorem store_local {Ex : Value → Shared → Prop} {Q : Unit → Shared → Prop} {i : Nat} {cv : Value} {v : V} (K : CxOk X) (ok : EnvOk X A env n sc) (at_ : At X env Pv W σ s) (hk : env.kindOf (X.nm i) = some .local) (hv : VR X W cv v)
    (h : ∀ s', Tf X env Pv W σ s W (σ.put i v) s' → Q () s') : wpAny (model X.prog X.w) A (storeName env (X.nm i) cv) Q Ex s := by
  have F := at_.fr
  obtain ⟨m, hn, hm⟩ := F.ns
  refine wpAny_storeName_local hk hn (fun h' hn' hs => h _ ?_) (fn_hp ok)
  have hkp : ∀ a o, s.heap.get? a = some o → ¬ Pv a → h'.get? a = some o := fun a o e p => (hs.2 a fun q => p (q ▸ F.pvL)).trans e
  refine ⟨.quiet hkp fun a o e => ?_, ⟨at_.rel.quiet hkp F.priv, F.storeL hn hm (fun j q => K.inj _ _ q) hk hv hn' hs⟩, ⟨rfl, rfl, rfl⟩⟩
  by_cases ha : a = env.locals
  · subst ha; obtain ⟨o', _, _, ho', _⟩ := hn'; exact ⟨o', ho'⟩
  · exact ⟨o, (hs.2 a ha).trans e⟩
theorem store_ok {Ex : Value → Shared → Prop} {Q : Unit → Shared → Prop} {i : Nat} {cv : Value} {v : V} (K : CxOk X) (ok : EnvOk X A env n sc) (hf : env.func ≠ none) (at_ : At X env Pv W σ s) (hk : kStore sc (X.nm i) = true) (hv : VR X W cv v)
    (h : ∀ s', Tf X env Pv W σ s W (σ.put i v) s' → Q () s') : wpAny (model X.prog X.w) A (storeName env (X.nm i) cv) Q Ex s := by
  unfold kStore at hk
  split at hk
  · rename_i e
    rcases ok.names _ _ e with q | ⟨q, _⟩
    · exact store_local K ok at_ q hv h
    · cases q
  · rename_i e
    rcases ok.names _ _ e with q | ⟨q, _⟩
    · have F := at_.fr
      obtain ⟨c, v₀, hc, hi, hp⟩ := F.hasCell _ hf q
      refine wpAny_storeName_cell ok.kind q hc hi fun h' hi' hs => h _ ?_
      have hkp : ∀ a o, s.heap.get? a = some o → ¬ Pv a → h'.get? a = some o := fun a o e p => (hs.2 a fun q => p (q ▸ hp)).trans e
      refine ⟨.quiet hkp fun a o e => ?_, ⟨at_.rel.quiet hkp F.priv, F.storeC (fun j q => K.inj _ _ q) q hc hv hi' hs⟩, ⟨rfl, rfl, rfl⟩⟩
      by_cases ha : a = c
      · subst ha; obtain ⟨o', ho', _⟩ := hi'; exact ⟨o', ho'⟩
      · exact ⟨o, (hs.2 a ha).trans e⟩
    · cases q
  · cases hk
end

theorem snd_pass {pos : Pos} : S1 X n sc .pass (.Pass pos) := by
  intro A env Pv W σ s Q E ok hf at_ h
  exact wpAny_Pass ⟨W, σ, .refl at_, .next, .next, h⟩

theorem fn_inter {A : Around} {env : Env} (ok : EnvOk X A env n sc) : interactive env = false := by unfold interactive; rw [ok.kind]; rfl

theorem snd_expr {e : PE} {x : Expr} {pos : Pos} (he : SE X n sc e x) (hx : isCall x = true) : S1 X n sc (.expr e) (.Expr x pos) := by
  intro A env Pv W σ s Q E ok hf at_ h
  refine wpAny_Expr_any (wpAny_mono (he A env Pv W σ s _ E ok at_ h) (fun v s' qq32 => by obtain ⟨W', σ', T, av, hv, q⟩ := qq32; exact ⟨W', σ', T, .next, .next, q⟩) fun _ _ y => y) (fn_inter ok) ?_
  cases x <;> first | rfl | cases hx

noncomputable def noComp : Expr → Bool
  | .ListComp _ _ _ _ | .SetComp _ _ _ _ | .DictComp _ _ _ _ _ => false
  | _ => true
theorem swaps_no {x : Expr} {t : Option Expr} {l : Nat} {env : Env} (h : noComp x = true) : swapsWith x t l env = pure false := by
  cases x <;> first | rfl | cases h

theorem snd_assign_loc (K : CxOk X) {i : Nat} {e : PE} {x : Expr} {y : Str} {p pos : Pos} (he : SE X n sc e x) (hy : y = X.nm i) (hk : kStore sc y = true) (hx : noComp x = true) : S1 X n sc (.assign (.loc i) e) (.Assign [.Name y p] x pos) := by
  intro A env Pv W σ s Q E ok hf at_ h
  subst hy
  refine wpAny_Assign_Name (wpAny_mono (he A env Pv W σ s _ E ok at_ h) (fun v s' qq33 => ?_) fun _ _ y => y) (swaps_no hx)
  obtain ⟨W', σ', T, av, hv, q⟩ := qq33
  exact store_ok K ok hf T.at_ hk hv fun s'' T' => ⟨W', _, T.trans T', .next, .next, q⟩

theorem snd_ret_none {pos : Pos} : S1 X n sc (.ret .none) (.Return none pos) := by
  intro A env Pv W σ s Q E ok hf at_ h
  exact wpAny_Return_none ⟨W, σ, .refl at_, _, .ret .none, h⟩
theorem snd_ret {e : PE} {x : Expr} {pos : Pos} (he : SE X n sc e x) : S1 X n sc (.ret (.some e)) (.Return (some x) pos) := by
  intro A env Pv W σ s Q E ok hf at_ h
  exact wpAny_Return_some (wpAny_mono (he A env Pv W σ s _ E ok at_ h) (fun v s' qq34 => by obtain ⟨W', σ', T, av, hv, q⟩ := qq34; exact ⟨W', σ', T, _, .ret hv, q⟩) fun _ _ y => y)

theorem snd_if {t : PC} {a b : PSs} {x : Expr} {u v : List Stmt} {pos : Pos} (ht : ST X n sc t x) (ha : SS X n sc a u) (hb : SS X n sc b v) : S1 X n sc (.ite t a b) (.If x u v pos) := by
  intro A env Pv W σ s Q E ok hf at_ h
  refine wpAny_If (wpAny_mono (ht A env Pv W σ s _ E ok at_ h) (fun c s' qq35 => ?_) fun _ _ y => y)
  obtain ⟨W', σ', T, q⟩ := qq35
  cases c with
  | true => exact Ew.from T (ha A env Pv W' σ' s' Q E ok hf T.at_ q)
  | false => exact Ew.from T (hb A env Pv W' σ' s' Q E ok hf T.at_ q)

theorem snd_ss_nil : SS X n sc .nil [] := by
  intro A env Pv W σ s Q E ok hf at_ h
  exact wpAny_execs_nil ⟨W, σ, .refl at_, .next, .next, h⟩
theorem snd_ss_cons {p : PS} {ps : PSs} {st : Stmt} {sts : List Stmt} (h1 : S1 X n sc p st) (h2 : SS X n sc ps sts) : SS X n sc (.cons p ps) (st :: sts) := by
  intro A env Pv W σ s Q E ok hf at_ h
  refine wpAny_execs_cons (wpAny_mono (h1 A env Pv W σ s _ E ok hf at_ h) (fun fl s' qq36 => ?_) fun _ _ y => y)
  obtain ⟨W', σ', T, af, hfr, q⟩ := qq36
  cases hfr with
  | next => exact Ew.from T (h2 A env Pv W' σ' s' Q E ok hf T.at_ q)
  | brk => exact ⟨W', σ', T, _, .brk, q⟩
  | cont => exact ⟨W', σ', T, _, .cont, q⟩
  | ret hv => exact ⟨W', σ', T, _, .ret hv, q⟩

theorem drop_cons {α : Type} {l : List α} {k : Nat} {x : α} {r : List α} (h : l.drop k = x :: r) : l[k]? = some x ∧ l.drop (k + 1) = r := by
  constructor
  · have := congrArg List.head? h
    rw [List.head?_drop] at this; exact this
  · have := congrArg List.tail h
    rw [List.tail_drop] at this; exact this

theorem snd_loop (K : CxOk X) {i : Nat} {it : PE} {body : PSs} {y : Str} {p pos : Pos} {x : Expr} {b : List Stmt} (hi : SE X n sc it x) (hb : SS X n sc body b) (hy : y = X.nm i) (hk : kStore sc y = true) (hx : notSet x = true) : S1 X n sc (.loop [i] it body) (.For (.Name y p) x b [] pos) := by
  intro A env Pv W σ s Q E ok hf at_ h
  subst hy
  refine wpAny_For (wpAny_mono (hi A env Pv W σ s _ E ok at_ h) (fun cv s₁ qq37 => ?_) fun _ _ y => y) (by
    intro z
    unfold foldedSetIterable
    split
    · cases hx
    · rfl)
  obtain ⟨W₁, σ₁, T₁, v, hv, q⟩ := qq37
  obtain ⟨xs, hxs, q⟩ := need_iff.mp q
  refine iter_ok T₁.at_.rel hv hxs fun o hfo hit => ?_
  have nI : s₁.heap.get? s₁.heap.objs.size = none := push_none _
  have nI₀ : s.heap.get? s₁.heap.objs.size = none := by
    cases hq : s.heap.get? s₁.heap.objs.size with
    | none => rfl
    | some o => obtain ⟨o', e⟩ := T₁.stp.there _ _ hq; rw [nI] at e; cases e
  have T₂ : Tf X env Pv W σ s W₁ σ₁ { s₁ with heap := s₁.heap.push o } := T₁.trans (Tf.push (tk := s₁.toks) T₁.at_)
  have L₂ : Lone X env Pv W₁ σ₁.H (s₁.heap.push o) s₁.heap.objs.size := Lone.new T₁.at_ nI ⟨o, Heap.get?_push_size _ hfo⟩
  generalize s₁.heap.objs.size = I at nI nI₀ L₂ hit ⊢
  have nE : ∀ e s', EX X env Pv W σ s E e s' → False := fun e s' z => z.no
  refine codeAny_forLoop (fun m s' => ∃ k W' σ' ys, Tf X env Pv W σ s W' σ' s' ∧ ItAt X W' s'.heap I v k ∧ Lone X env Pv W' σ'.H s'.heap I ∧ xs.drop k = ys ∧ k + ys.length = xs.length ∧ m = ys.length ∧
    loopGo (fun v σ₂ k => bindT [i] v σ₂ fun σ₃ => wpSs X.P (CW X.P n) body σ₃ k E) (still v xs) ys σ' Q) ?_ xs.length ⟨0, W₁, σ₁, xs, T₂, hit, L₂, rfl, by simp, rfl, q⟩
  rintro m s' ⟨k, W', σ', ys, T, hit', L, hd, hlen, rfl, q⟩
  cases ys with
  | nil =>
    obtain ⟨hst, q⟩ := q
    have hkl : k = xs.length := by simpa using hlen
    subst hkl
    refine next_end ok.ok.hh T.at_.rel hit' hst fun h' hs => ?_
    exact wpAny_execs_nil ⟨W', σ', T.poke (tk := s'.toks) nI₀ L hs, .next, .next, q⟩
  | cons u us =>
    obtain ⟨hst, q⟩ := q
    obtain ⟨hu, hd'⟩ := drop_cons hd
    refine next_item T.at_.rel hit' hst hu fun cu h' tk hcu hit'' hs => ?_
    have T' := T.poke (tk := tk) nI₀ L hs
    have L' : Lone X env Pv W' σ'.H h' I := ⟨L.own, L.z, L.pv, L.cell, let ⟨o, e, _⟩ := hit''.there; ⟨o, e⟩⟩
    refine wpAny_assign_Name (store_ok K ok hf T'.at_ hk hcu fun s₃ T₃ => ?_)
    have T'' := T'.trans T₃
    refine wpAny_mono (hb A env Pv W' _ s₃ _ E ok hf T₃.at_ q) (fun fl s₄ qq38 => ?_) fun _ _ z => z.no.elim
    obtain ⟨W₄, σ₄, T₄, af, hfr, q₄⟩ := qq38
    have again : loopGo (fun v σ₂ k => bindT [i] v σ₂ fun σ₃ => wpSs X.P (CW X.P n) body σ₃ k E) (still v xs) us σ₄ Q → ∃ m, m < (u :: us).length ∧ ∃ k W' σ' ys, Tf X env Pv W σ s W' σ' s₄ ∧ ItAt X W' s₄.heap I v k ∧ Lone X env Pv W' σ'.H s₄.heap I ∧ xs.drop k = ys ∧ k + ys.length = xs.length ∧ m = ys.length ∧
        loopGo (fun v σ₂ k => bindT [i] v σ₂ fun σ₃ => wpSs X.P (CW X.P n) body σ₃ k E) (still v xs) ys σ' Q := fun g => by
      have L₃ := L'.step T₃.stp
      refine ⟨us.length, by simp, k + 1, W₄, σ₄, us, T''.trans T₄, ?_, L₃.step T₄.stp, hd', by simp at hlen; omega, rfl, g⟩
      exact (hit''.keep T₃.stp.le (L'.keep T₃.stp)).keep T₄.stp.le (L₃.keep T₄.stp)
    cases hfr with
    | next => exact again q₄
    | cont => exact again q₄
    | brk => exact ⟨W₄, σ₄, T''.trans T₄, _, .next, q₄⟩
    | ret hr => exact ⟨W₄, σ₄, T''.trans T₄, _, .ret hr, q₄⟩
end
end Mine
end

section
namespace Mine
open PySem PySem.W PySem.Calls PyProof.Rows

section
variable {X : Cx} {n : Nat} {sc : Scope}

theorem iter_self {A : Around} {E : Value → Shared → Prop} {W : Wd} {s : Shared} {I : Addr} {v : V} {k : Nat} {Q : Value → Shared → Prop} (it : ItAt X W s.heap I v k) (h : Q (.ref I) s) : wpAny (model X.prog X.w) A (pyIter (.ref I)) Q E s := by
  cases v with
  | lst xs => obtain ⟨a, r, q⟩ := it; exact wpAny_pyIter_listiter q h
  | ref i => obtain ⟨a, r, q⟩ := it; exact wpAny_pyIter_listiter q h
  | tup xs => obtain ⟨a, r, q⟩ := it; exact wpAny_pyIter_tupleiter q h
  | rng a b c => exact wpAny_pyIter_rangeiter it.2 h
  | _ => exact it.elim

theorem lookup_relabel {env : Env} (x : Str) : ∀ (names : List (Str × NameKind)),
    (names.map fun (n, k) => if (k == NameKind.free && env.scope.kind == .function && env.kindOf n == some .cell) then (n, NameKind.cell) else (n, k)).lookup x
      = (names.lookup x).map fun k => if (k == NameKind.free && env.scope.kind == .function && env.kindOf x == some .cell) then NameKind.cell else k
  | [] => rfl
  | (y, k) :: r => by
    have ih := lookup_relabel (env := env) x r
    rw [List.map_cons]
    show List.lookup x ((if (k == NameKind.free && env.scope.kind == .function && env.kindOf y == some .cell) = true then (y, NameKind.cell) else (y, k)) :: _) = _
    cases hx : x == y with
    | true =>
      have e : x = y := eq_of_beq hx
      subst e
      by_cases hc : (k == NameKind.free && env.scope.kind == .function && env.kindOf x == some .cell) = true
      · rw [if_pos hc]; simp only [List.lookup_cons, hx, Option.map_some]; rw [if_pos hc]
      · rw [if_neg hc]; simp only [List.lookup_cons, hx, Option.map_some]; rw [if_neg hc]
    | false =>
      by_cases hc : (k == NameKind.free && env.scope.kind == .function && env.kindOf y == some .cell) = true
      · rw [if_pos hc]; simp only [List.lookup_cons, hx]; exact ih
      · rw [if_neg hc]; simp only [List.lookup_cons, hx]; exact ih

theorem closure_go {env : Env} {f : Str × NameKind → List (Str × Addr) → Sem (ForInStep (List (Str × Addr)))} (hf : ∀ x k r, f (x, k) r = if (k == NameKind.free) = true then (do let c ← cellOf env x; pure (.yield ((x, c) :: r))) else pure (.yield r)) :
    ∀ (names : List (Str × NameKind)) (cs : List (Str × Addr)), (∀ x, (x, NameKind.free) ∈ names → ∃ c, env.cells.lookup x = some c) → (∀ x c, cs.lookup x = some c → env.cells.lookup x = some c) →
      ∃ cl, forIn names cs f = (pure cl : Sem (List (Str × Addr))) ∧ (∀ x c, cl.lookup x = some c → env.cells.lookup x = some c) ∧ (∀ x, (x, NameKind.free) ∈ names → ∃ c, cl.lookup x = some c) ∧ ∀ x c, cs.lookup x = some c → ∃ c', cl.lookup x = some c'
  | [], cs, _, hc => ⟨cs, rfl, hc, fun _ h => (nomatch h), fun _ c e => ⟨c, e⟩⟩
  | (y, k) :: r, cs, hn, hc => by
    have hn' : ∀ x, (x, NameKind.free) ∈ r → ∃ c, env.cells.lookup x = some c := fun x h => hn x (.tail _ h)
    by_cases hk : (k == NameKind.free) = true
    · have e : k = .free := by cases k <;> first | rfl | cases hk
      subst e
      obtain ⟨c, ec⟩ := hn y (.head _)
      have hc' : ∀ x d, ((y, c) :: cs).lookup x = some d → env.cells.lookup x = some d := fun x d q => by
        rw [List.lookup_cons] at q
        split at q
        · rename_i hb; cases q; rw [eq_of_beq hb]; exact ec
        · exact hc x d q
      obtain ⟨cl, h1, h2, h3, h4⟩ := closure_go hf r ((y, c) :: cs) hn' hc'
      refine ⟨cl, ?_, h2, fun x hx => ?_, fun x d q => ?_⟩
      · rw [List.forIn_cons, hf, if_pos hk]
        have : cellOf env y = pure c := by unfold cellOf; rw [ec]
        rw [this, ← h1]; rfl
      · rcases List.mem_cons.mp hx with q | q
        · cases q; exact h4 y c (by simp [List.lookup_cons])
        · exact h3 x q
      · by_cases hb : (x == y) = true
        · exact h4 x c (by simp only [List.lookup_cons, hb])
        · have hb' : (x == y) = false := by simpa using hb
          exact h4 x d (by simp only [List.lookup_cons, hb']; exact q)
    · obtain ⟨cl, h1, h2, h3, h4⟩ := closure_go hf r cs hn' hc
      refine ⟨cl, ?_, h2, fun x hx => ?_, h4⟩
      · rw [List.forIn_cons, hf, if_neg hk, ← h1]; rfl
      · rcases List.mem_cons.mp hx with q | q
        · cases q; exact absurd rfl hk
        · exact h3 x q
theorem closure_ok {env : Env} {sc' : Scope} (hn : ∀ x, (x, NameKind.free) ∈ sc'.names → ∃ c, env.cells.lookup x = some c) :
    ∃ cl, closureFor sc' env = pure cl ∧ (∀ x c, cl.lookup x = some c → env.cells.lookup x = some c) ∧ ∀ x, (x, NameKind.free) ∈ sc'.names → ∃ c, cl.lookup x = some c := by
  obtain ⟨cl, h1, h2, h3, _⟩ := closure_go (env := env) (f := fun (x : Str × NameKind) r => if (x.2 == NameKind.free) = true then (do let c ← cellOf env x.1; pure (.yield ((x.1, c) :: r))) else pure (.yield r)) (fun _ _ _ => rfl) sc'.names [] hn (fun x c q => by cases q)
  refine ⟨cl, ?_, h2, h3⟩
  calc closureFor sc' env = (forIn sc'.names [] (fun (x : Str × NameKind) r => if (x.2 == NameKind.free) = true then (do let c ← cellOf env x.1; pure (.yield ((x.1, c) :: r))) else pure (.yield r)) >>= fun r => pure r) := rfl
    _ = pure cl := by rw [h1]; rfl

theorem uniq_lookup : ∀ {l : List (Str × NameKind)}, uniq l = true → ∀ {x : Str} {k : NameKind}, (x, k) ∈ l → l.lookup x = some k
  | [], _, _, _, h => (nomatch h)
  | (y, j) :: r, hu, x, k, h => by
    simp only [uniq, Bool.and_eq_true, List.all_eq_true] at hu
    rcases List.mem_cons.mp h with q | q
    · cases q; simp [List.lookup_cons]
    · have := hu.1 _ q
      have hb : (x == y) = false := by simpa using this
      rw [List.lookup_cons]; simp only [hb]
      exact uniq_lookup hu.2 q
theorem lookup_mem {α β : Type} [BEq α] [LawfulBEq α] : ∀ {l : List (α × β)} {x : α} {k : β}, l.lookup x = some k → (x, k) ∈ l
  | [], _, _, h => by cases h
  | (y, j) :: r, x, k, h => by
    rw [List.lookup_cons] at h
    split at h
    · rename_i hb; cases h; rw [eq_of_beq hb]; exact .head _
    · exact .tail _ (lookup_mem h)

/-- a lone list is taken up -/
theorem adopt_list {W W' : Wd} {H H' : Hp} {s s' : Shared} {D : Addr} {vs : Array Value} {k : Nat} {xs : List V} {fz : Bool} (T : Tc X W H s W' H' s') (hn : s.heap.get? D = none) (ho : ¬ Own W' H' D) (hz : W'.Z D = none)
    (hg : s'.heap.get? D = some (lstO vs k)) (hv : VRs X W' vs.toList xs) (hl : xs.length ≤ SZ) : ∃ W'' H'', Tc X W H s W'' H'' s' ∧ Wd.Le W' W'' ∧ Res X fz H' (.newList xs) (.ref D) W'' H'' ∧ ∀ b, b ≠ D → ¬ Own W' H' b → W'.Z b = none → ¬ Own W'' H'' b ∧ W''.Z b = none := by
  have hD : (hideAll s'.heap [D]).get? D = none := hideAll_none _ (.head _)
  have of : ∀ b o, (hideAll s'.heap [D]).get? b = some o → s'.heap.get? b = some o := fun b o e => of_hideAll _ e
  have to : ∀ b o, b ≠ D → s'.heap.get? b = some o → (hideAll s'.heap [D]).get? b = some o := fun b o n e => hideAll_get _ e (by simpa using n)
  have R : RelH X W' H' (hideAll s'.heap [D]) := T.rel.quiet (Pv := fun a => a = D) (fun a o e n => to a o n e) fun a e => by subst e; exact ⟨ho, hz⟩
  have S : Stp noPv W H s.heap W' H' (hideAll s'.heap [D]) := T.stp.poke hn fun b o n e => to b o n e
  cases fz with
  | true =>
    obtain ⟨r, t⟩ := R.frozen of hD hg
    refine ⟨_, _, ⟨S.trans t, r, T.rest⟩, t.le, ⟨.lst addZ_self (hv.le t.le) hl, rfl⟩, fun b nb ob zb => ⟨ob, ?_⟩⟩
    show (if b = D then some (lstO vs k) else W'.Z b) = none
    rw [if_neg nb]; exact zb
  | false =>
    obtain ⟨r, t⟩ := R.fresh (l := (D, D)) (c := .list xs) of hD hD ⟨vs, k, hg, hv.le R.leF, rfl, hl⟩
    have e : (W'.addφ H'.next (D, D)).φ H'.next = some (D, D) := addφ_self
    refine ⟨_, _, ⟨S.trans t, r, T.rest⟩, t.le, ⟨VR.ref e, rfl⟩, fun b nb ob zb => ⟨fun q => ?_, zb⟩⟩
    rcases R.own_new q with q | q | q
    · exact ob q
    · exact nb q
    · exact nb q
end
end Mine
end

section
namespace Mine
open PySem PySem.W PySem.Calls PyProof.Rows

section
variable {X : Cx} {n : Nat} {sc : Scope}

noncomputable def SC (X : Cx) (n : Nat) (sc : Scope) (p : PCo) (ifs : List Expr) : Prop := ∀ (A : Around) (env : Env) (Pv : Addr → Prop) (W : Wd) (σ : St) (s : Shared) (Q : Bool → St → Prop) (E : EP),
  EnvOk X A env n sc → At X env Pv W σ s → wpC X.P (CW X.P n) E p σ Q → Ew X A env Pv (forIn ifs true fun c r => if r = true then do let ok ← isTrue c env (eval c env); pure (ForInStep.yield ok) else pure (ForInStep.yield r)) W σ s (fun b _ σ' _ => Q b σ') E
theorem snd_c_nil : SC X n sc .none [] := by
  intro A env Pv W σ s Q E ok at_ h
  exact wpAny_pure ⟨W, σ, .refl at_, h⟩
theorem snd_c_one {t : PC} {x : Expr} (ht : ST X n sc t x) : SC X n sc (.some t) [x] := by
  intro A env Pv W σ s Q E ok at_ h
  rw [List.forIn_cons, if_pos rfl]
  refine wpAny_bind (wpAny_bind (wpAny_mono (ht A env Pv W σ s _ E ok at_ h) (fun b s' qq39 => ?_) fun _ _ y => y))
  obtain ⟨W', σ', T, q⟩ := qq39
  exact wpAny_pure (wpAny_pure ⟨W', σ', T, q⟩)

/-- the place of a comprehension's own names -/
noncomputable def only (C : Addr) : Addr → Prop := fun a => a = C

theorem Tc.inner {W W' W'' : Wd} {H : Hp} {σ' σ'' : St} {s s' s'' : Shared} {env : Env} {C : Addr} (T : Tc X W H s W' σ'.H s') (T' : Tf X env (only C) W' σ' s' W'' σ'' s'') (hn : s.heap.get? C = none) : Tc X W H s W'' σ''.H s'' :=
  ⟨T.stp.transFresh T'.stp fun x e => .inl (by rw [show x = C from e]; exact hn), T'.at_.rel, T.rest.trans T'.rest⟩
theorem Tc.poke {W W' : Wd} {H H' : Hp} {s s' : Shared} {I : Addr} {h'' : Heap} {tk : Nat} (T : Tc X W H s W' H' s') (hn : s.heap.get? I = none) (ho : ¬ Own W' H' I) (hz : W'.Z I = none) (hs : Heap.ExtBut I s'.heap h'') : Tc X W H s W' H' { s' with heap := h'', toks := tk } :=
  ⟨T.stp.poke hn hs, T.rel.quiet (Pv := fun b => b = I) (fun b o e m => hs b o m e) (fun b e => by subst e; exact ⟨ho, hz⟩), ⟨T.rest.gens, T.rest.drawn, T.rest.os⟩⟩

theorem comp_env {env : Env} {A : Around} {sc' : Scope} {j : Nat} {cl : List (Str × Addr)} {C : Addr} (ok : EnvOk X A env n sc) (hsc : chkSc X.nm sc sc' j = true) (h3 : ∀ x, (x, NameKind.free) ∈ sc'.names → ∃ c, cl.lookup x = some c) : EnvOk X A (compEnvC sc' cl C env) n sc' := by
  simp only [chkSc, Bool.and_eq_true, List.all_eq_true] at hsc
  obtain ⟨⟨hk, hu⟩, ha⟩ := hsc
  have hk' : sc'.kind = .function := by
    cases e : sc'.kind <;> rw [e] at hk <;> first | rfl | cases hk
  have lk : ∀ x, (compEnvC sc' cl C env).kindOf x = (sc'.names.lookup x).map fun k => if (k == NameKind.free && env.scope.kind == .function && env.kindOf x == some .cell) then NameKind.cell else k := fun x => lookup_relabel x sc'.names
  refine ⟨ok.ok, hk', ok.glob, ok.bi, fun x k e => ?_, fun x e => ?_⟩
  · rw [lk, e, Option.map_some]
    split
    · rename_i hc
      simp only [Bool.and_eq_true] at hc
      exact .inr ⟨by cases k <;> first | rfl | (exact absurd hc.1.1 (by decide)), rfl⟩
    · exact .inl rfl
  · have key : ∀ k, sc'.names.lookup x = some k → k ≠ .cell → (if (k == NameKind.free && env.scope.kind == .function && env.kindOf x == some .cell) = true then NameKind.cell else k) = .cell ∨ (if (k == NameKind.free && env.scope.kind == .function && env.kindOf x == some .cell) = true then NameKind.cell else k) = .free → k = .free := fun k _ nk q => by
      split at q
      · rename_i hc
        simp only [Bool.and_eq_true] at hc
        cases k <;> first | rfl | (exact absurd hc.1.1 (by decide))
      · exact q.elim (fun z => absurd z nk) id
    rw [lk] at e
    cases hq : sc'.names.lookup x with
    | none => rw [hq] at e; rcases e with e | e <;> cases e
    | some k =>
      rw [hq] at e
      have nk : k ≠ .cell := fun z => by
        subst z
        have := ha _ (lookup_mem hq)
        cases this
      have : k = .free := key k hq nk (by
        rcases e with e | e
        · exact .inl (Option.some.inj e)
        · exact .inr (Option.some.inj e))
      subst this
      exact h3 x (lookup_mem hq)

/-- the comprehension's frame at its start -/
theorem comp_at (K : CxOk X) {A : Around} {env : Env} {Pv : Addr → Prop} {W : Wd} {σ : St} {s : Shared} {sc' : Scope} {j : Nat} {cl : List (Str × Addr)} {C : Addr} {h' : Heap} {tk : Nat} (ok : EnvOk X A env n sc) (at_ : At X env Pv W σ s) (hsc : chkSc X.nm sc sc' j = true)
    (h2 : ∀ x c, cl.lookup x = some c → env.cells.lookup x = some c) (h3 : ∀ x, (x, NameKind.free) ∈ sc'.names → ∃ c, cl.lookup x = some c) (hn : s.heap.get? C = none) (hk : ∀ b o, s.heap.get? b = some o → h'.get? b = some o) (hC : ∃ m, h'.Ns C m) : At X (compEnvC sc' cl C env) (only C) W ⟨σ.H, unbs [j] σ.loc⟩ { s with heap := h', toks := tk } := by
  have F := at_.fr
  have L : Lone X env Pv W σ.H h' C := Lone.new at_ hn (let ⟨_, o, _, _, ho, _⟩ := hC; ⟨o, ho⟩)
  simp only [chkSc, Bool.and_eq_true, List.all_eq_true] at hsc
  obtain ⟨⟨hkd, hu⟩, ha⟩ := hsc
  have lk : ∀ x, (compEnvC sc' cl C env).kindOf x = (sc'.names.lookup x).map fun k => if (k == NameKind.free && env.scope.kind == .function && env.kindOf x == some .cell) then NameKind.cell else k := fun x => lookup_relabel x sc'.names
  have ub : ∀ i v, unbs [j] σ.loc i = some v → i ≠ j ∧ σ.loc i = some v := fun i v e => by
    have e' : (if [j].contains i then none else σ.loc i) = some v := e
    by_cases hi : i = j
    · subst hi; simp at e'
    · refine ⟨hi, ?_⟩; simpa [hi] using e'
  refine ⟨at_.rel.quiet (Pv := noPv) (fun b o e _ => hk b o e) fun _ z => z.elim, ?_, fun i v e k => ?_, fun x ef _ => absurd rfl ef, fun x y c e e' => F.cellEq x y c (h2 _ _ e) (h2 _ _ e'), fun x c e => ?_, rfl, fun a e => ?_, fun a e => ?_⟩
  · obtain ⟨m, hm⟩ := hC
    refine ⟨m, hm, fun i v e k => ?_⟩
    obtain ⟨hi, _⟩ := ub i v e
    rw [lk] at k
    cases hq : sc'.names.lookup (X.nm i) with
    | none => rw [hq] at k; cases k
    | some kk =>
      rw [hq, Option.map_some] at k
      have hkk : kk = .local := by
        have k' := Option.some.inj k
        split at k'
        · cases k'
        · exact k'
      subst hkk
      have := ha _ (lookup_mem hq)
      simp only [Bool.or_eq_true, decide_eq_true_eq] at this
      rcases this with q | q
      · exact absurd (eq_of_beq q) (K.dot i)
      · exact absurd (K.inj _ _ q) hi
  · obtain ⟨hi, e'⟩ := ub i v e
    have : ∃ kk, sc'.names.lookup (X.nm i) = some kk ∧ kk = .free := by
      rw [lk] at k
      cases hq : sc'.names.lookup (X.nm i) with
      | none => rw [hq] at k; rcases k with k | k <;> cases k
      | some kk =>
        refine ⟨kk, rfl, ?_⟩
        have nk : kk ≠ .cell := fun z => by
          subst z
          have := ha _ (lookup_mem hq)
          cases this
        rw [hq, Option.map_some] at k
        have k' : (if (kk == NameKind.free && env.scope.kind == .function && env.kindOf (X.nm i) == some .cell) = true then NameKind.cell else kk) = .cell ∨ (if (kk == NameKind.free && env.scope.kind == .function && env.kindOf (X.nm i) == some .cell) = true then NameKind.cell else kk) = .free := by
          rcases k with k | k
          · exact .inl (Option.some.inj k)
          · exact .inr (Option.some.inj k)
        split at k'
        · rename_i hc
          simp only [Bool.and_eq_true] at hc
          cases kk <;> first | rfl | (exact absurd hc.1.1 (by decide))
        · exact k'.elim (fun z => absurd z nk) id
    obtain ⟨kk, hq, rfl⟩ := this
    have hmem := lookup_mem hq
    have := ha _ hmem
    simp only at this
    have hout : env.kindOf (X.nm i) = some .cell ∨ env.kindOf (X.nm i) = some .free := by
      split at this
      · rename_i q
        rcases ok.names _ _ q with r | ⟨r, _⟩
        · exact .inl r
        · cases r
      · rename_i q
        rcases ok.names _ _ q with r | ⟨_, r⟩
        · exact .inr r
        · exact .inl r
      · cases this
    obtain ⟨c, cv, hc, ⟨o, ho, hd⟩, hv⟩ := F.cells i v e' hout
    obtain ⟨c', hc'⟩ := h3 _ hmem
    have : c' = c := Option.some.inj ((h2 _ _ hc').symm.trans hc)
    subst this
    exact ⟨c', cv, hc', ⟨o, hk _ _ ho, hd⟩, hv⟩
  · obtain ⟨p, q, o, ho⟩ := F.cellNs x c (h2 _ _ e)
    exact ⟨fun z => (by rw [show c = C from z, hn] at ho; cases ho), q, o, hk _ _ ho⟩
  · rw [show a = C from e]; exact ⟨L.own, L.z⟩
  · rw [show a = C from e]; exact L.at_

theorem comp_block (K : CxOk X) {A : Around} {env : Env} {Pv : Addr → Prop} {W : Wd} {σ : St} {s : Shared} {Ex : Value → Shared → Prop} {cv : Value} {v : V} {xs : List V} {j : Nat} {elt : PE} {cond : PCo} {e x : Expr} {ifs : List Expr} {y : Str} {p pos : Pos} {sc' : Scope} {cl : List (Str × Addr)} {Qc : List V → St → Prop} {RR : Value → Addr → Result → Shared → Prop}
    (ok : EnvOk X A env n sc) (at_ : At X env Pv W σ s) (he : SE X n sc' elt e) (hc : SC X n sc' cond ifs) (hy : y = X.nm j) (hkl : kLocal sc' y = true) (hsc : chkSc X.nm sc sc' j = true)
    (h2 : ∀ x c, cl.lookup x = some c → env.cells.lookup x = some c) (h3 : ∀ x, (x, NameKind.free) ∈ sc'.names → ∃ c, cl.lookup x = some c)
    (hv : VR X W cv v) (hxs : items σ.H v = some xs)
    (hgo : compGo (fun σ₂ k => wpC X.P (CW X.P n) noE cond σ₂ k) (fun σ₂ k => wpE X.P (CW X.P n) noE elt σ₂ k) [j] (still v xs) xs [] ⟨σ.H, unbs [j] σ.loc⟩ Qc)
    (hRR : ∀ D C W' H' loc' s' cvs k ys, Tc X W σ.H s W' H' s' → s.heap.get? D = none → s.heap.get? C = none → D ≠ C → ¬ Own W' H' D → W'.Z D = none → ¬ Own W' H' C → W'.Z C = none → s'.heap.get? D = some (lstO cvs k) → VRs X W' cvs.toList ys → ys.length ≤ SZ → (∃ m, s'.heap.Ns C m) →
      Qc ys ⟨H', loc'⟩ → RR (.ref D) C (.ok .next) s') :
    wpAny (model X.prog X.w) A (pyIter cv) (fun it s₂ => wpAny (model X.prog X.w) A (newList []) (fun acc s₃ => wpAny (model X.prog X.w) A (newFunctionEnv sc' env.globals cl [] env.qual none .none (some env)) (fun cenv s₄ =>
      codeAny (model X.prog X.w) A (.compStart (.ListComp e [⟨.Name y p, x, ifs, 0⟩] sc' pos) 0 it acc { cenv with scope := relabel sc' env }) (RR acc cenv.locals) s₄) Ex s₃) Ex s₂) Ex s := by
  subst hy
  have hsc' := hsc
  simp only [chkSc, Bool.and_eq_true, List.all_eq_true] at hsc'
  obtain ⟨⟨hkd, hu⟩, ha⟩ := hsc'
  have hkind : sc'.kind = .function := by
    cases q : sc'.kind <;> rw [q] at hkd <;> first | rfl | cases hkd
  refine iter_ok at_.rel hv hxs fun oI hfo hit => ?_
  refine wpAny_newObj_type (wpAny_newFunctionEnv (fun z hz q => ?_) (by intro z hz; simp at hz) (fun h₁ hns hsb => ?_) hkind)
  · have := ha z hz; rw [q] at this; cases this
  dsimp only at hns hsb ⊢
  generalize hI : s.heap.objs.size = I at hit hns hsb ⊢
  generalize hH1 : s.heap.push oI = H1 at hit hns hsb ⊢
  generalize hD : H1.objs.size = D at hns hsb ⊢
  generalize hH2 : H1.push { cls := .type "list", dict := none, data := .seq ([] : List Value).toArray } = H2 at hns hsb ⊢
  generalize hC : H2.objs.size = C at hns hsb ⊢
  have eD : D = I + 1 := by rw [← hD, ← hH1, Heap.size_push, hI]
  have eC : C = I + 2 := by rw [← hC, ← hH2, Heap.size_push, hD, eD]
  have nIC : I ≠ C := Nat.ne_of_lt (by rw [eC]; exact Nat.lt_succ_of_lt (Nat.lt_succ_self I))
  have nDC : D ≠ C := Nat.ne_of_lt (by rw [eC, eD]; exact Nat.lt_succ_self _)
  have nDI : D ≠ I := Nat.ne_of_gt (by rw [eD]; exact Nat.lt_succ_self _)
  have nID : I ≠ D := Ne.symm nDI
  have sI : s.heap.get? I = none := by rw [← hI]; exact push_none _
  have sD : s.heap.get? D = none := Heap.get?_none_of_le (by omega)
  have sC : s.heap.get? C = none := Heap.get?_none_of_le (by omega)
  have k1 : ∀ b o, H1.get? b = some o → h₁.get? b = some o := fun b o q => by
    have lt : b < H1.objs.size := Heap.lt_size q
    exact hsb.extBut b o (Nat.ne_of_lt (Nat.lt_trans (by rw [hD] at lt; exact lt) (by rw [eC, eD]; exact Nat.lt_succ_self _))) (Heap.get?_push_of_some _ (hH2 ▸ Heap.get?_push_of_some _ q))
  have k0 : ∀ b o, s.heap.get? b = some o → h₁.get? b = some o := fun b o q => k1 b o (hH1 ▸ Heap.get?_push_of_some _ q)
  have gI : ItAt X W h₁ I v 0 := hit.keep (.refl _) fun o q _ => k1 _ _ q
  have gD : h₁.get? D = some (lstO #[] 0) := hsb.extBut D _ nDC (Heap.get?_push_of_some _ (by rw [← hH2, ← hD]; exact Heap.get?_push_size _ rfl))
  let cenv := compEnvC sc' cl C env
  have okc : EnvOk X A cenv n sc' := comp_env ok hsc h3
  have at0 : ∀ tk, At X cenv (only C) W ⟨σ.H, unbs [j] σ.loc⟩ { s with heap := h₁, toks := tk } := fun tk => comp_at K ok at_ hsc h2 h3 sC k0 ⟨_, hns⟩
  have T0 : ∀ tk, Tc X W σ.H s W σ.H { s with heap := h₁, toks := tk } := fun tk => ⟨.quiet (fun b o q _ => k0 b o q) fun b o q => ⟨o, k0 b o q⟩, at_.rel.quiet (Pv := noPv) (fun b o q _ => k0 b o q) fun _ z => z.elim, ⟨rfl, rfl, rfl⟩⟩
  have lone : ∀ b, s.heap.get? b = none → b ≠ C → (∃ o, h₁.get? b = some o) → Lone X cenv (only C) W σ.H h₁ b := fun b hb ne hat => by
    have L := Lone.new (h' := h₁) at_ hb hat
    exact ⟨L.own, L.z, fun q => ne q, fun z c q => L.cell z c (h2 _ _ q), hat⟩
  have kl : cenv.kindOf (X.nm j) = some .local := by
    unfold kLocal at hkl
    split at hkl
    · rename_i q
      rcases okc.names _ _ q with r | ⟨r, _⟩
      · exact r
      · cases r
    · cases hkl
  have loop : ∀ s₀ : Shared, s₀ = { s with heap := h₁, toks := s.toks + ([] : List (Str × Value)).length } → codeAny (model X.prog X.w) A (.compLoop (.ListComp e [⟨.Name (X.nm j) p, x, ifs, 0⟩] sc' pos) 0 (.ref I) (.ref D) cenv) (RR (.ref D) C) s₀ := by
    rintro s₀ rfl
    refine codeAny_compLoop_tests (fun m s' => ∃ k W' σ' ys acc cvs nn, Tc X W σ.H s W' σ'.H s' ∧ At X cenv (only C) W' σ' s' ∧ ItAt X W' s'.heap I v k ∧ Lone X cenv (only C) W' σ'.H s'.heap I ∧ Lone X cenv (only C) W' σ'.H s'.heap D ∧ s'.heap.get? D = some (lstO cvs nn) ∧ VRs X W' cvs.toList acc ∧
      xs.drop k = ys ∧ k + ys.length = xs.length ∧ m = ys.length ∧ compGo (fun σ₂ k => wpC X.P (CW X.P n) noE cond σ₂ k) (fun σ₂ k => wpE X.P (CW X.P n) noE elt σ₂ k) [j] (still v xs) ys acc σ' Qc) ?_ xs.length
      ⟨0, W, _, xs, [], #[], 0, T0 _, at0 _, gI, lone I sI nIC (let ⟨o, q, _⟩ := gI.there; ⟨o, q⟩), lone D sD nDC ⟨_, gD⟩, gD, .nil, rfl, by simp, rfl, hgo⟩
    rintro m s' ⟨k, W', σ', ys, acc, cvs, nn, T, at', hit', LI, LD, hgD, hacc, hd, hlen, rfl, q⟩
    have pvC := at'.fr.priv C rfl
    cases ys with
    | nil =>
      obtain ⟨hst, hsz, q⟩ := q
      have hkl' : k = xs.length := by simpa using hlen
      subst hkl'
      refine next_end ok.ok.hh at'.rel hit' hst fun h' hs => ?_
      have a'' := at'.poke (tk := s'.toks) LI hs
      obtain ⟨m', hm', _⟩ := a''.fr.ns
      exact hRR D C W' σ'.H σ'.loc _ cvs nn acc (T.poke (tk := s'.toks) sI LI.own LI.z hs) sD sC nDC LD.own LD.z pvC.1 pvC.2 (hs D _ nDI hgD) hacc hsz ⟨m', hm'⟩ q
    | cons u us =>
      obtain ⟨hst, hsz, q⟩ := q
      obtain ⟨hu', hd'⟩ := drop_cons hd
      refine next_item at'.rel hit' hst hu' fun cu h' tk hcu hit'' hs => ?_
      have a₁ := at'.poke (tk := tk) LI hs
      have T₁ := T.poke (tk := tk) sI LI.own LI.z hs
      have L₁ : Lone X cenv (only C) W' σ'.H h' I := ⟨LI.own, LI.z, LI.pv, LI.cell, let ⟨o, z, _⟩ := hit''.there; ⟨o, z⟩⟩
      have gD₁ : h'.get? D = some (lstO cvs nn) := hs D _ nDI hgD
      have LD₁ : Lone X cenv (only C) W' σ'.H h' D := ⟨LD.own, LD.z, LD.pv, LD.cell, _, gD₁⟩
      have ndf : ∀ cs k, (lstO cs k).cls ≠ .type "frame" := fun cs k z => absurd (show Value.type "list" = Value.type "frame" from z) (by decide)
      refine wpAny_assign_Name (store_local K okc a₁ kl hcu fun s₃ T₃ => ?_)
      have L₃ := L₁.step T₃.stp
      have LD₃ := LD₁.step T₃.stp
      have it₃ := hit''.keep T₃.stp.le (L₁.keep T₃.stp)
      have gD₃ := LD₁.keep T₃.stp _ gD₁ (ndf _ _)
      have Tc₃ := T₁.inner T₃ sC
      refine wpAny_mono (hc A cenv (only C) W' _ s₃ _ noE okc T₃.at_ q) (fun b s₄ qq40 => ?_) fun _ _ z => z.no.elim
      obtain ⟨W₄, σ₄, T₄, q₄⟩ := qq40
      have L₄ := L₃.step T₄.stp
      have LD₄ := LD₃.step T₄.stp
      have it₄ := it₃.keep T₄.stp.le (L₃.keep T₄.stp)
      have gD₄ := LD₃.keep T₄.stp _ gD₃ (ndf _ _)
      have Tc₄ := Tc₃.inner T₄ sC
      have hacc₄ := (hacc.le T₃.stp.le).le T₄.stp.le
      cases b with
      | false =>
        rw [if_neg (by decide)]
        exact ⟨us.length, by simp, k + 1, W₄, σ₄, us, acc, cvs, nn, Tc₄, T₄.at_, it₄, L₄, LD₄, gD₄, hacc₄, hd', by simp at hlen; omega, rfl, q₄⟩
      | true =>
        rw [if_pos rfl]
        refine wpAny_mono (he A cenv (only C) W₄ σ₄ s₄ _ noE okc T₄.at_ q₄) (fun r s₅ qq41 => ?_) fun _ _ z => z.no.elim
        obtain ⟨W₅, σ₅, T₅, ar, hr, q₅⟩ := qq41
        have L₅ := L₄.step T₅.stp
        have LD₅ := LD₄.step T₅.stp
        have it₅ := it₄.keep T₅.stp.le (L₄.keep T₅.stp)
        have gD₅ := LD₄.keep T₅.stp _ gD₄ (ndf _ _)
        have Tc₅ := Tc₄.inner T₅ sC
        have hacc₅ := hacc₄.le T₅.stp.le
        refine append_at gD₅ (fun h₆ hs₆ hg₆ => ?_) (by rw [hacc₅.toArr]; exact szLine (Nat.le_of_lt hsz))
        have a₆ := T₅.at_.poke (tk := s₅.toks) LD₅ hs₆.extBut
        have T₆ := Tc₅.poke (tk := s₅.toks) sD LD₅.own LD₅.z hs₆.extBut
        refine ⟨us.length, by simp, k + 1, W₅, σ₅, us, acc ++ [ar], cvs.push r, nn + 1, T₆, a₆, ?_, ?_, ⟨LD₅.own, LD₅.z, LD₅.pv, LD₅.cell, _, hg₆⟩, hg₆, ?_, hd', by simp at hlen; omega, rfl, q₅⟩
        · exact it₅.keep (.refl _) fun o z _ => hs₆.extBut I o nID z
        · obtain ⟨o, z⟩ := L₅.at_; exact ⟨L₅.own, L₅.z, L₅.pv, L₅.cell, o, hs₆.extBut I o nID z⟩
        · rw [Array.toList_push]; exact hacc₅.append (.cons hr .nil)
  exact codeAny_compStart_list (loop _ rfl) (iter_self gI (loop _ rfl))
end
end Mine
end

section
namespace Mine
open PySem PySem.W PySem.Calls PyProof.Rows

section
variable {X : Cx} {n : Nat} {sc : Scope}

structure CompFacts (X : Cx) (sc sc' : Scope) (env : Env) (j : Nat) (cl : List (Str × Addr)) : Prop where
  clos : closureFor sc' env = pure cl
  h2 : ∀ x c, cl.lookup x = some c → env.cells.lookup x = some c
  h3 : ∀ x, (x, NameKind.free) ∈ sc'.names → ∃ c, cl.lookup x = some c
  kind : sc'.kind = .function
  names : ∀ x ∈ sc'.names, x.2 = .local → sc'.names.lookup x.1 = some .local
theorem comp_facts {A : Around} {env : Env} {sc' : Scope} {j : Nat} (ok : EnvOk X A env n sc) (hsc : chkSc X.nm sc sc' j = true) : ∃ cl, CompFacts X sc sc' env j cl := by
  simp only [chkSc, Bool.and_eq_true, List.all_eq_true] at hsc
  obtain ⟨⟨hkd, hu⟩, ha⟩ := hsc
  obtain ⟨cl, a, b, c⟩ := closure_ok (env := env) (sc' := sc') fun x hx => by
    have := ha _ hx
    simp only at this
    refine ok.cl x ?_
    split at this
    · rename_i q
      rcases ok.names _ _ q with r | ⟨r, _⟩
      · exact .inl r
      · cases r
    · rename_i q
      rcases ok.names _ _ q with r | ⟨_, r⟩
      · exact .inr r
      · exact .inl r
    · cases this
  refine ⟨cl, a, b, c, ?_, fun x hx hl => ?_⟩
  · cases q : sc'.kind <;> rw [q] at hkd <;> first | rfl | cases hkd
  · obtain ⟨x, k⟩ := x
    subst hl
    exact uniq_lookup hu hx

theorem notSet_folded {x : Expr} {env : Env} (hx : notSet x = true) : ∀ z, foldedSetIterable x env z = pure z := by
  intro z
  unfold foldedSetIterable
  split
  · cases hx
  · rfl

theorem snd_comp (K : CxOk X) {fz : Bool} {elt it : PE} {j : Nat} {cond : PCo} {e x : Expr} {ifs : List Expr} {y : Str} {p pos : Pos} {sc' : Scope} (hi : SE X n sc it x) (he : SE X n sc' elt e) (hc : SC X n sc' cond ifs) (hy : y = X.nm j) (hkl : kLocal sc' y = true) (hsc : chkSc X.nm sc sc' j = true) (hx : notSet x = true) :
    SE X n sc (.comp fz elt [j] it cond) (.ListComp e [⟨.Name y p, x, ifs, 0⟩] sc' pos) := by
  intro A env Pv W σ s Q E ok at_ h
  obtain ⟨cl, F⟩ := comp_facts ok hsc
  rw [eval_ListComp]
  refine wpAny_comprehension_free (use := none) rfl (notSet_folded hx) F.clos F.kind F.names (wpAny_mono (hi A env Pv W σ s _ E ok at_ h) (fun cv s₁ qq42 => ?_) fun _ _ z => z)
  obtain ⟨W₁, σ₁, T₁, v, hv, q⟩ := qq42
  obtain ⟨xs, hxs, q⟩ := need_iff.mp q
  refine comp_block K ok T₁.at_ he hc hy hkl hsc F.h2 F.h3 hv hxs q fun D C W' H' loc' s' cvs k ys T sD sC nDC oD zD oC zC gD hys hsz hns hg => ?_
  obtain ⟨m, hm⟩ := hns
  refine ⟨m, hm, fun h' hs => ?_⟩
  have T' := T.poke (tk := s'.toks) sC oC zC hs.extBut
  obtain ⟨W'', H'', T'', le, res, _⟩ := adopt_list (fz := fz) T' sD oD zD (hs.extBut D _ nDC gD) hys hsz
  exact ⟨W'', ⟨H'', σ₁.loc⟩, T₁.trans (T''.tf T₁.at_), give_res (σ := ⟨H', σ₁.loc⟩) hg res⟩

theorem snd_assign_comp (K : CxOk X) {fz : Bool} {elt it : PE} {i j : Nat} {cond : PCo} {e x : Expr} {ifs : List Expr} {y z : Str} {p pz pos pos' : Pos} {sc' : Scope} (hi : SE X n sc it x) (he : SE X n sc' elt e) (hc : SC X n sc' cond ifs) (hy : y = X.nm j) (hkl : kLocal sc' y = true) (hsc : chkSc X.nm sc sc' j = true) (hx : notSet x = true)
    (hz : z = X.nm i) (hk : kStore sc z = true) : S1 X n sc (.assign (.loc i) (.comp fz elt [j] it cond)) (.Assign [.Name z pz] (.ListComp e [⟨.Name y p, x, ifs, 0⟩] sc' pos) pos') := by
  intro A env Pv W σ s Q E ok hf at_ h
  subst hz
  have sw : swapsWith (.ListComp e [⟨.Name y p, x, ifs, 0⟩] sc' pos) (some (.Name (X.nm i) pz)) pos'.line env = pure (env.blockKind == .function && env.kindOf (X.nm i) == some .local && pz.line == pos.line && !(sc'.names.any fun (n, k) => n == X.nm i && (k == .local || k == .cell))) := rfl
  cases hb : (env.blockKind == .function && env.kindOf (X.nm i) == some .local && pz.line == pos.line && !(sc'.names.any fun (n, k) => n == X.nm i && (k == .local || k == .cell))) with
  | false =>
    rw [hb] at sw
    refine wpAny_Assign_Name (wpAny_mono (snd_comp K hi he hc hy hkl hsc hx A env Pv W σ s _ E ok at_ h) (fun v s' qq43 => ?_) fun _ _ y => y) sw
    obtain ⟨W', σ', T, av, hv, q⟩ := qq43
    exact store_ok K ok hf T.at_ hk hv fun s'' T' => ⟨W', _, T.trans T', .next, .next, q⟩
  | true =>
    rw [hb] at sw
    obtain ⟨cl, F⟩ := comp_facts ok hsc
    have h' : wpE X.P (CW X.P n) E it σ fun v σ₁ => need (items σ₁.H v) fun xs =>
      compGo (fun σ₂ k => wpC X.P (CW X.P n) noE cond σ₂ k) (fun σ₂ k => wpE X.P (CW X.P n) noE elt σ₂ k) [j] (still v xs) xs [] ⟨σ₁.H, unbs [j] σ₁.loc⟩ fun ys σ₂ => give fz ⟨σ₂.H, σ₁.loc⟩ (fun v σ₁ => Q .next (σ₁.put i v)) (.newList ys) := h
    unfold Ew
    rw [exec_Assign_Name_used _ _ _ _ sw]
    refine wpAny_bind (wpAny_standAt (wpAny_bind ?_))
    show wpAny _ A (do let _ ← comprehension (.ListComp e [⟨.Name y p, x, ifs, 0⟩] sc' pos) sc' env _ (newList []) false (eval x env) (some (assign (.Name (X.nm i) pz) env))) _ _ s
    refine wpAny_bind (wpAny_mono (wpAny_comprehension_free (use := some (assign (.Name (X.nm i) pz) env)) (Q := fun _ s' => ∃ W' σ', Tf X env Pv W σ s W' σ' s' ∧ Q .next σ') rfl (notSet_folded hx) F.clos F.kind F.names
      (wpAny_mono (hi A env Pv W σ s _ E ok at_ h') (fun cv s₁ ⟨W₁, σ₁, T₁, v, hv, q⟩ => ?_) fun _ _ z => z)) (fun _ s' qq44 => by obtain ⟨W', σ', T, hq⟩ := qq44; exact wpAny_pure (wpAny_pure ⟨W', σ', T, .next, .next, hq⟩)) fun _ _ z => z)
    obtain ⟨xs, hxs, q⟩ := need_iff.mp q
    refine comp_block K ok T₁.at_ he hc hy hkl hsc F.h2 F.h3 hv hxs q fun D C W' H' loc' s' cvs k ys T sD sC nDC oD zD oC zC gD hys hsz hns hg => ?_
    obtain ⟨m, hm⟩ := hns
    obtain ⟨W'', H'', T'', le, res, oth⟩ := adopt_list (fz := fz) T sD oD zD gD hys hsz
    obtain ⟨av, hav, hq⟩ := give_res (σ := ⟨H', σ₁.loc⟩) hg res
    have Tf₂ : Tf X env Pv W₁ σ₁ s₁ W'' ⟨H'', σ₁.loc⟩ s' := T''.tf T₁.at_
    have LC : Lone X env Pv W'' H'' s'.heap C := by
      have L := Lone.new (h' := s'.heap) T₁.at_ sC (let ⟨o, _, _, ho, _⟩ := hm; ⟨o, ho⟩)
      obtain ⟨a, b⟩ := oth C (Ne.symm nDC) oC zC
      exact ⟨a, b, L.pv, L.cell, L.at_⟩
    have sC₀ : s.heap.get? C = none := by
      cases hq : s.heap.get? C with
      | none => rfl
      | some o => obtain ⟨o', e⟩ := T₁.stp.there _ _ hq; rw [sC] at e; cases e
    show wpAny _ A (assign (.Name (X.nm i) pz) env (.ref D)) _ _ s'
    refine wpAny_assign_Name (store_ok K ok hf Tf₂.at_ hk hav fun s₃ T₃ => ?_)
    have hm₃ : s₃.heap.Ns C m := ns_same hm fun o ho => T₃.stp.keep C o ho LC.own LC.pv
    refine ⟨m, hm₃, fun h'' hs => ?_⟩
    exact ⟨W'', _, ((T₁.trans Tf₂).trans T₃).poke (tk := s₃.toks) sC₀ (LC.step T₃.stp) hs.extBut, hq⟩

theorem snd_while {t : PC} {body : PSs} {x : Expr} {b : List Stmt} {pos : Pos} (ht : ST X n sc t x) (hb : SS X n sc body b) : S1 X n sc (.while_ t body) (.While x b [] pos) := by
  intro A env Pv W σ s Q E ok hf at_ h
  obtain ⟨k, h⟩ := h
  refine wpAny_While (codeAny_whileLoop (fun m s' => ∃ W' σ', Tf X env Pv W σ s W' σ' s' ∧ whileGo (fun σ₁ k => wpT X.P (CW X.P n) E t σ₁ k) (fun σ₁ k => wpSs X.P (CW X.P n) body σ₁ k E) m σ' Q) ?_ k ⟨W, σ, .refl at_, h⟩)
  rintro m s' ⟨W', σ', T, q⟩
  cases m with
  | zero => exact q.elim
  | succ m =>
    refine wpAny_mono (ht A env Pv W' σ' s' _ E ok T.at_ q) (fun c s₁ qq45 => ?_) fun _ _ z => z.no.elim
    obtain ⟨W₁, σ₁, T₁, q₁⟩ := qq45
    cases c with
    | false => exact wpAny_execs_nil ⟨W₁, σ₁, T.trans T₁, .next, .next, q₁⟩
    | true =>
      rw [if_pos rfl]
      refine wpAny_mono (hb A env Pv W₁ σ₁ s₁ _ E ok hf T₁.at_ q₁) (fun fl s₂ qq46 => ?_) fun _ _ z => z.no.elim
      obtain ⟨W₂, σ₂, T₂, af, hfr, q₂⟩ := qq46
      have T' := (T.trans T₁).trans T₂
      cases hfr with
      | next => exact ⟨m, Nat.lt_succ_self _, W₂, σ₂, T', q₂⟩
      | cont => exact ⟨m, Nat.lt_succ_self _, W₂, σ₂, T', q₂⟩
      | brk => exact ⟨W₂, σ₂, T', _, .next, q₂⟩
      | ret hr => exact ⟨W₂, σ₂, T', _, .ret hr, q₂⟩
end
end Mine
end

section
namespace Mine
open PySem PySem.W PySem.Calls PyProof.Rows

section
variable {X : Cx} {n : Nat}

/-- the cases of classes and instances, to be given -/
structure Objs (X : Cx) (n : Nat) : Prop where
  call : ∀ (sc : Scope) (nm : Nat → Str) (fz : Bool) (f : PE) (as : PEs) (x : Str) (p : Pos) (vs : List Expr) (pos : Pos), SE X n sc f (.Name x p) → SEs X n sc as vs → chkEs nm sc as vs = true → SE X n sc (.call fz f as) (.Call (.Name x p) vs [] pos)
  meth : ∀ (sc : Scope) (fz : Bool) (o : PE) (m : Nat) (as : PEs) (v : Expr) (ap pos : Pos) (vs : List Expr), SE X n sc o v → SEs X n sc as vs → chkEs X.nm sc as vs = true → notSuper v = true → vs.length ≤ 20 → (ap.endLine == pos.line) = true → SE X n sc (.meth fz o m as) (.Call (.Attribute v (X.nm m) ap) vs [] pos)
  attr : ∀ (sc : Scope) (e : PE) (m : Nat) (v : Expr) (pos : Pos), SE X n sc e v → notSuper v = true → SE X n sc (.attr e m) (.Attribute v (X.nm m) pos)

theorem xConst_nc {e : Expr} {t : Const × Nat × Pos} (h : xConst e = some t) : isCmp e = false := by rw [xConst_ok h]; rfl
theorem xName_nc {e : Expr} {t : Str × Pos} (h : xName e = some t) : isCmp e = false := by rw [xName_ok h]; rfl
theorem xAttr_nc {e : Expr} {t : Expr × Str × Pos} (h : xAttr e = some t) : isCmp e = false := by rw [xAttr_ok h]; rfl
theorem xBin_nc {e : Expr} {t : Expr × Operator × Expr × Pos} (h : xBin e = some t) : isCmp e = false := by rw [xBin_ok h]; rfl
theorem xUn_nc {e : Expr} {t : UnaryOp × Expr × Pos} (h : xUn e = some t) : isCmp e = false := by rw [xUn_ok h]; rfl
theorem xBool_nc {e : Expr} {t : BoolOp × List Expr × Pos} (h : xBool e = some t) : isCmp e = false := by rw [xBool_ok h]; rfl
theorem xIf_nc {e : Expr} {t : Expr × Expr × Expr × Pos} (h : xIf e = some t) : isCmp e = false := by rw [xIf_ok h]; rfl
theorem xList_nc {e : Expr} {t : List Expr × Pos} (h : xList e = some t) : isCmp e = false := by rw [xList_ok h]; rfl
theorem xTup_nc {e : Expr} {t : List Expr × Nat × Pos} (h : xTup e = some t) : isCmp e = false := by rw [xTup_ok h]; rfl
theorem xSub_nc {e : Expr} {t : Expr × Expr × Pos} (h : xSub e = some t) : isCmp e = false := by rw [xSub_ok h]; rfl
theorem xCall_nc {e : Expr} {t : Expr × List Expr × List Keyword × Pos} (h : xCall e = some t) : isCmp e = false := by rw [xCall_ok h]; rfl
theorem xComp_nc {e : Expr} {t : Expr × List Comprehension × Scope × Pos} (h : xComp e = some t) : isCmp e = false := by rw [xComp_ok h]; rfl

theorem plain_of {e : Expr} (hp : plainTest e = true) (hx : plainX e = true) (hc : isCmp e = false) : plainT e = true := by
  cases e <;> first | rfl | (cases hx; done) | (cases hc; done) | (cases hp; done) | skip
  rename_i o x p
  cases o <;> first | rfl | cases hp

mutual
theorem sndE (K : CxOk X) (O : Objs X n) : ∀ (p : PE) (sc : Scope) (e : Expr), chkE X.nm sc p e = true → SE X n sc p e
  | .cst v, sc, e, h => by
    obtain ⟨t, he, h⟩ := on_true h
    rw [xConst_ok he]; exact snd_cst h
  | .loc i, sc, e, h => by
    obtain ⟨t, he, h⟩ := on_true h
    rw [xName_ok he]; exact snd_loc h
  | .glob i, sc, e, h => by
    obtain ⟨t, he, h⟩ := on_true h
    rw [xName_ok he]; exact snd_glob K h
  | .attr o m, sc, e, h => by
    obtain ⟨⟨v, a, pos⟩, he, h⟩ := on_true h
    obtain ⟨h1, h2, h3⟩ := and3 h
    obtain rfl : a = X.nm m := of_decide_eq_true h2
    rw [xAttr_ok he]; exact O.attr sc o m v pos (sndE K O o sc v h1) h3
  | .bin fz op l r, sc, e, h => by
    obtain ⟨⟨l', o, r', pos⟩, he, h⟩ := on_true h
    obtain ⟨h0, h1, h2⟩ := and3 h
    obtain rfl : o = opOf op := of_decide_eq_true h0
    rw [xBin_ok he]; exact snd_bin (sndE K O l sc l' h1) (sndE K O r sc r' h2)
  | .neg a, sc, e, h => by
    obtain ⟨⟨o, x, pos⟩, he, h⟩ := on_true h
    obtain ⟨h0, h1⟩ := and2 h
    obtain rfl : o = .USub := of_decide_eq_true h0
    rw [xUn_ok he]; exact snd_neg (sndE K O a sc x h1)
  | .not a, sc, e, h => by
    obtain ⟨⟨o, x, pos⟩, he, h⟩ := on_true h
    obtain ⟨h0, h1⟩ := and2 h
    obtain rfl : o = .Not := of_decide_eq_true h0
    rw [xUn_ok he]; exact snd_not (sndE K O a sc x h1)
  | .cmp op l r, sc, e, h => by
    obtain ⟨⟨l', os, rs, pos⟩, he, h⟩ := on_true h
    obtain ⟨o, ho, h⟩ := on_true h
    obtain ⟨r', hr, h⟩ := on_true h
    obtain ⟨h0, h1, h2⟩ := and3 h
    obtain rfl : o = cmpOf op := of_decide_eq_true h0
    obtain rfl : os = [cmpOf op] := x1_ok ho
    obtain rfl : rs = [r'] := x1_ok hr
    rw [xCmp_ok he]; exact snd_cmp (sndE K O l sc l' h1) (sndE K O r sc r' h2) (chk_notSet h2)
  | .cmp2 o₁ o₂ a b c, sc, e, h => by
    obtain ⟨⟨l', os, rs, pos⟩, he, h⟩ := on_true h
    obtain ⟨⟨p₁, p₂⟩, ho, h⟩ := on_true h
    obtain ⟨⟨b', c'⟩, hr, h⟩ := on_true h
    obtain ⟨h0, h00, h1, h2, h3⟩ := and5 h
    obtain rfl : p₁ = cmpOf o₁ := of_decide_eq_true h0
    obtain rfl : p₂ = cmpOf o₂ := of_decide_eq_true h00
    obtain rfl : os = [cmpOf o₁, cmpOf o₂] := x2_ok ho
    obtain rfl : rs = [b', c'] := x2_ok hr
    rw [xCmp_ok he]; exact snd_cmp2 (sndE K O a sc l' h1) (sndE K O b sc b' h2) (sndE K O c sc c' h3) (chk_notSet h3)
  | .and es, sc, e, h => by
    obtain ⟨⟨o, vs, pos⟩, he, h⟩ := on_true h
    obtain ⟨h0, h1⟩ := and2 h
    obtain rfl : o = .And := of_decide_eq_true h0
    rw [xBool_ok he]; exact fun A env Pv W σ s Q E ok at_ hw => (sndB K O es sc vs h1 A env Pv W σ s Q E pos ok at_).1 hw
  | .or es, sc, e, h => by
    obtain ⟨⟨o, vs, pos⟩, he, h⟩ := on_true h
    obtain ⟨h0, h1⟩ := and2 h
    obtain rfl : o = .Or := of_decide_eq_true h0
    rw [xBool_ok he]; exact fun A env Pv W σ s Q E ok at_ hw => (sndB K O es sc vs h1 A env Pv W σ s Q E pos ok at_).2 hw
  | .ite t a b, sc, e, h => by
    obtain ⟨⟨t', a', b', pos⟩, he, h⟩ := on_true h
    obtain ⟨h0, h1, h2⟩ := and3 h
    rw [xIf_ok he]; exact snd_ite (sndT K O t sc t' h0) (sndE K O a sc a' h1) (sndE K O b sc b' h2)
  | .list fz es, sc, e, h => by
    obtain ⟨⟨vs, pos⟩, he, h⟩ := on_true h
    rw [xList_ok he]; exact snd_list (sndEs K O es sc vs h) h
  | .tup es, sc, e, h => by
    obtain ⟨⟨vs, k, pos⟩, he, h⟩ := on_true h
    rw [xTup_ok he]; exact snd_tup (sndEs K O es sc vs h) h
  | .dict kvs, sc, e, h => (Bool.false_ne_true h).elim
  | .idx a i, sc, e, h => by
    obtain ⟨⟨v, s, pos⟩, he, h⟩ := on_true h
    obtain ⟨h0, h1⟩ := and2 h
    rw [xSub_ok he]; exact snd_idx (sndE K O a sc v h0) (sndE K O i sc s h1)
  | .sl fz a lo hi, sc, e, h => by
    obtain ⟨⟨v, s, pos⟩, he, h⟩ := on_true h
    obtain ⟨⟨l, u, st, p⟩, hs, h⟩ := on_true h
    obtain ⟨h0, h1, h2, h3⟩ := and4 h
    obtain rfl : s = .Slice l u st p := xSl_ok hs
    obtain rfl : st = none := x0_ok h3
    rw [xSub_ok he]; exact snd_sl (sndE K O a sc v h0) (sndO K O lo sc l h1) (sndO K O hi sc u h2)
  | .rev fz a, sc, e, h => by
    obtain ⟨⟨v, s, pos⟩, he, h⟩ := on_true h
    obtain ⟨⟨l, u, st, p⟩, hs, h⟩ := on_true h
    obtain ⟨m, hm, h⟩ := on_true h
    obtain ⟨h0, h1, h2, h3⟩ := and4 h
    obtain rfl : s = .Slice l u st p := xSl_ok hs
    obtain rfl : l = none := x0_ok h1
    obtain rfl : u = none := x0_ok h2
    obtain rfl : st = some m := hm
    obtain ⟨k, p', q, rfl⟩ := isM1_ok h3
    rw [xSub_ok he]; exact snd_rev (sndE K O a sc v h0)
  | .call fz f as, sc, e, h => by
    obtain ⟨⟨g, vs, ks, pos⟩, he, h⟩ := on_true h
    obtain ⟨⟨x, p⟩, hg, h⟩ := on_true h
    obtain ⟨h0, h1, h2, h3⟩ := and4 h
    obtain rfl : g = .Name x p := xName_ok hg
    obtain rfl : ks = [] := empty_ok h2
    rw [xCall_ok he]; exact O.call sc X.nm fz f as x p vs pos (sndE K O f sc (.Name x p) h0) (sndEs K O as sc vs h1) h1
  | .sortedRev fz a, sc, e, h => (Bool.false_ne_true h).elim
  | .meth fz o m as, sc, e, h => by
    obtain ⟨⟨g, vs, ks, pos⟩, he, h⟩ := on_true h
    obtain ⟨⟨v, a, ap⟩, hg, h⟩ := on_true h
    obtain ⟨h0, h1, h2, h3, h4, h5⟩ := and6 h
    obtain ⟨g5, h6⟩ := and2 h5
    obtain rfl : g = .Attribute v a ap := xAttr_ok hg
    obtain rfl : a = X.nm m := of_decide_eq_true h1
    obtain rfl : ks = [] := empty_ok g5
    rw [xCall_ok he]; exact O.meth sc fz o m as v ap pos vs (sndE K O o sc v h0) (sndEs K O as sc vs h2) h2 h3 (of_decide_eq_true h4) h6
  | .comp fz elt ts it cond, sc, e, h => by
    obtain ⟨⟨x, gs, sc', pos⟩, he, h⟩ := on_true h
    obtain ⟨⟨t, i, fs, k⟩, hg, h⟩ := on_true h
    obtain ⟨j, hj, h⟩ := on_true h
    obtain ⟨⟨y, p⟩, hy, h⟩ := on_true h
    obtain ⟨h1, h2, h3, h4, h5, h6⟩ := and6 h
    obtain ⟨g2, g2'⟩ := and2 h2
    obtain ⟨g6, h7⟩ := and2 h6
    obtain rfl : gs = [⟨t, i, fs, k⟩] := x1_ok hg
    obtain rfl : ts = [j] := x1_ok hj
    obtain rfl : k = 0 := of_decide_eq_true h7
    obtain rfl : t = .Name y p := xName_ok hy
    rw [xComp_ok he]; exact snd_comp K (sndE K O it sc i h3) (sndE K O elt sc' x h1) (sndC K O cond sc' fs h4) (of_decide_eq_true g2) g2' h5 g6
theorem sndT (K : CxOk X) (O : Objs X n) : ∀ (p : PC) (sc : Scope) (e : Expr), chkT X.nm sc p e = true → ST X n sc p e
  | .not c, sc, e, h => by
    obtain ⟨⟨o, x, pos⟩, he, h⟩ := on_true h
    obtain ⟨h0, h1⟩ := and2 h
    obtain rfl : o = .Not := of_decide_eq_true h0
    rw [xUn_ok he]; exact snd_notT (sndT K O c sc x h1)
  | .and cs, sc, e, h => by
    obtain ⟨⟨o, vs, pos⟩, he, h⟩ := on_true h
    obtain ⟨h0, h1⟩ := and2 h
    obtain rfl : o = .And := of_decide_eq_true h0
    rw [xBool_ok he]; exact snd_andT (sndTs K O cs sc vs h1)
  | .or cs, sc, e, h => by
    obtain ⟨⟨o, vs, pos⟩, he, h⟩ := on_true h
    obtain ⟨h0, h1⟩ := and2 h
    obtain rfl : o = .Or := of_decide_eq_true h0
    rw [xBool_ok he]; exact snd_orT (sndTs K O cs sc vs h1)
  | .e a, sc, e, h => by
    obtain ⟨h0, h1⟩ := and2 h
    exact sndTe K O a sc e h0 h1 (sndE K O a sc e h1)
theorem sndTe (K : CxOk X) (O : Objs X n) : ∀ (p : PE) (sc : Scope) (e : Expr), plainTest e = true → chkE X.nm sc p e = true → SE X n sc p e → ST X n sc (.e p) e
  | .cmp op l r, sc, e, hp, h, _ => by
    obtain ⟨⟨l', os, rs, pos⟩, he, h⟩ := on_true h
    obtain ⟨o, ho, h⟩ := on_true h
    obtain ⟨r', hr, h⟩ := on_true h
    obtain ⟨h0, h1, h2⟩ := and3 h
    obtain rfl : o = cmpOf op := of_decide_eq_true h0
    obtain rfl : os = [cmpOf op] := x1_ok ho
    obtain rfl : rs = [r'] := x1_ok hr
    rw [xCmp_ok he]; exact snd_cmpT (sndE K O l sc l' h1) (sndE K O r sc r' h2) (chk_notSet h2)
  | .cmp2 o₁ o₂ a b c, sc, e, hp, h, _ => by
    obtain ⟨⟨l', os, rs, pos⟩, he, h⟩ := on_true h
    obtain ⟨⟨p₁, p₂⟩, ho, h⟩ := on_true h
    obtain ⟨⟨b', c'⟩, hr, h⟩ := on_true h
    obtain ⟨h0, h00, h1, h2, h3⟩ := and5 h
    obtain rfl : p₁ = cmpOf o₁ := of_decide_eq_true h0
    obtain rfl : p₂ = cmpOf o₂ := of_decide_eq_true h00
    obtain rfl : os = [cmpOf o₁, cmpOf o₂] := x2_ok ho
    obtain rfl : rs = [b', c'] := x2_ok hr
    rw [xCmp_ok he]; exact snd_cmp2T (sndE K O a sc l' h1) (sndE K O b sc b' h2) (sndE K O c sc c' h3) (chk_notSet h3)
  | .cst _, sc, e, hp, h, hE => let ⟨_, he, _⟩ := on_true h; snd_T hE (plain_of hp (chk_plainX h) (xConst_nc he))
  | .loc _, sc, e, hp, h, hE => let ⟨_, he, _⟩ := on_true h; snd_T hE (plain_of hp (chk_plainX h) (xName_nc he))
  | .glob _, sc, e, hp, h, hE => let ⟨_, he, _⟩ := on_true h; snd_T hE (plain_of hp (chk_plainX h) (xName_nc he))
  | .attr _ _, sc, e, hp, h, hE => let ⟨_, he, _⟩ := on_true h; snd_T hE (plain_of hp (chk_plainX h) (xAttr_nc he))
  | .bin _ _ _ _, sc, e, hp, h, hE => let ⟨_, he, _⟩ := on_true h; snd_T hE (plain_of hp (chk_plainX h) (xBin_nc he))
  | .neg _, sc, e, hp, h, hE => let ⟨_, he, _⟩ := on_true h; snd_T hE (plain_of hp (chk_plainX h) (xUn_nc he))
  | .not _, sc, e, hp, h, hE => let ⟨_, he, _⟩ := on_true h; snd_T hE (plain_of hp (chk_plainX h) (xUn_nc he))
  | .and _, sc, e, hp, h, hE => let ⟨_, he, _⟩ := on_true h; snd_T hE (plain_of hp (chk_plainX h) (xBool_nc he))
  | .or _, sc, e, hp, h, hE => let ⟨_, he, _⟩ := on_true h; snd_T hE (plain_of hp (chk_plainX h) (xBool_nc he))
  | .ite _ _ _, sc, e, hp, h, hE => let ⟨_, he, _⟩ := on_true h; snd_T hE (plain_of hp (chk_plainX h) (xIf_nc he))
  | .list _ _, sc, e, hp, h, hE => let ⟨_, he, _⟩ := on_true h; snd_T hE (plain_of hp (chk_plainX h) (xList_nc he))
  | .tup _, sc, e, hp, h, hE => let ⟨_, he, _⟩ := on_true h; snd_T hE (plain_of hp (chk_plainX h) (xTup_nc he))
  | .idx _ _, sc, e, hp, h, hE => let ⟨_, he, _⟩ := on_true h; snd_T hE (plain_of hp (chk_plainX h) (xSub_nc he))
  | .sl _ _ _ _, sc, e, hp, h, hE => let ⟨_, he, _⟩ := on_true h; snd_T hE (plain_of hp (chk_plainX h) (xSub_nc he))
  | .rev _ _, sc, e, hp, h, hE => let ⟨_, he, _⟩ := on_true h; snd_T hE (plain_of hp (chk_plainX h) (xSub_nc he))
  | .call _ _ _, sc, e, hp, h, hE => let ⟨_, he, _⟩ := on_true h; snd_T hE (plain_of hp (chk_plainX h) (xCall_nc he))
  | .meth _ _ _ _, sc, e, hp, h, hE => let ⟨_, he, _⟩ := on_true h; snd_T hE (plain_of hp (chk_plainX h) (xCall_nc he))
  | .comp _ _ _ _ _, sc, e, hp, h, hE => let ⟨_, he, _⟩ := on_true h; snd_T hE (plain_of hp (chk_plainX h) (xComp_nc he))
  | .dict _, sc, e, hp, h, hE => (Bool.false_ne_true h).elim
  | .sortedRev _ _, sc, e, hp, h, hE => (Bool.false_ne_true h).elim
theorem sndTs (K : CxOk X) (O : Objs X n) : ∀ (p : PCs) (sc : Scope) (es : List Expr), chkTs X.nm sc p es = true → SAll X n sc p es
  | .nil, sc, es, h => by rw [empty_ok h]; exact snd_all_nil
  | .cons c r, sc, es, h => by
    obtain ⟨x, hx, h⟩ := on_true h
    obtain ⟨h1, h2⟩ := and2 h
    rw [head_ok hx]; exact snd_all_cons (sndT K O c sc x h1) (sndTs K O r sc es.tail h2)
theorem sndEs (K : CxOk X) (O : Objs X n) : ∀ (p : PEs) (sc : Scope) (es : List Expr), chkEs X.nm sc p es = true → SEs X n sc p es
  | .nil, sc, es, h => by rw [empty_ok h]; exact snd_es_nil
  | .cons c r, sc, es, h => by
    obtain ⟨x, hx, h⟩ := on_true h
    obtain ⟨h1, h2⟩ := and2 h
    rw [head_ok hx]; exact snd_es_cons (sndE K O c sc x h1) (sndEs K O r sc es.tail h2)
theorem sndB (K : CxOk X) (O : Objs X n) : ∀ (p : PEs) (sc : Scope) (es : List Expr), chkEs X.nm sc p es = true → SBool X n sc p es
  | .nil, sc, es, h => by rw [empty_ok h]; exact snd_bool_nil
  | .cons c r, sc, es, h => by
    obtain ⟨x, hx, h⟩ := on_true h
    obtain ⟨h1, h2⟩ := and2 h
    have ih := sndB K O r sc es.tail h2
    have hc := sndE K O c sc x h1
    rw [head_ok hx]
    cases r with
    | nil => rw [empty_ok h2]; exact snd_bool_one hc
    | cons d r' =>
      obtain ⟨y, hy, _⟩ := on_true h2
      rw [head_ok hy] at ih ⊢
      exact snd_bool_cons hc ih
theorem sndO (K : CxOk X) (O : Objs X n) : ∀ (p : PEo) (sc : Scope) (e : Option Expr), chkO X.nm sc p e = true → SO X n sc p e
  | .none, sc, e, h => by rw [x0_ok h]; exact snd_o_none
  | .some a, sc, e, h => by
    obtain ⟨x, hx, h⟩ := on_true h
    rw [hx]; exact snd_o_some (sndE K O a sc x h)
theorem sndC (K : CxOk X) (O : Objs X n) : ∀ (p : PCo) (sc : Scope) (es : List Expr), chkIf X.nm sc p es = true → SC X n sc p es
  | .none, sc, es, h => by rw [empty_ok h]; exact snd_c_nil
  | .some c, sc, es, h => by
    obtain ⟨x, hx, h⟩ := on_true h
    rw [x1_ok hx]; exact snd_c_one (sndT K O c sc x h)
end
end
end Mine
end

section
namespace Mine
open PySem PySem.W PySem.Calls PyProof.Rows

section
variable {X : Cx} {n : Nat}

noncomputable def isComp : Expr → Bool
  | .ListComp _ _ _ _ => true
  | _ => false
theorem comp_or {x : Expr} (h : plainX x = true) : noComp x = true ∨ isComp x = true := by
  cases x <;> first | exact .inl rfl | exact .inr rfl | cases h

theorem snd_assign (K : CxOk X) (O : Objs X n) {sc : Scope} {i : Nat} {e : PE} {y : Str} {p pos : Pos} {x : Expr} (hy : y = X.nm i) (hk : kStore sc y = true) (h : chkE X.nm sc e x = true) : S1 X n sc (.assign (.loc i) e) (.Assign [.Name y p] x pos) := by
  rcases comp_or (chk_plainX h) with hn | hc
  · exact snd_assign_loc K (sndE K O e sc x h) hy hk hn
  · cases e with
    | comp fz elt ts it cond =>
      obtain ⟨⟨x', gs, sc', pos'⟩, he, h⟩ := on_true h
      obtain ⟨⟨t, i', fs, k⟩, hg, h⟩ := on_true h
      obtain ⟨j, hj, h⟩ := on_true h
      obtain ⟨⟨y', p'⟩, hy', h⟩ := on_true h
      obtain ⟨h1, h2, h3, h4, h5, h6⟩ := and6 h
      obtain ⟨g2, g2'⟩ := and2 h2
      obtain ⟨g6, h7⟩ := and2 h6
      obtain rfl : gs = [⟨t, i', fs, k⟩] := x1_ok hg
      obtain rfl : ts = [j] := x1_ok hj
      obtain rfl : k = 0 := of_decide_eq_true h7
      obtain rfl : t = .Name y' p' := xName_ok hy'
      rw [xComp_ok he]
      exact snd_assign_comp K (sndE K O it sc i' h3) (sndE K O elt sc' x' h1) (sndC K O cond sc' fs h4) (of_decide_eq_true g2) g2' h5 g6 hy hk
    | cst _ => obtain ⟨_, he, _⟩ := on_true h; rw [xConst_ok he] at hc; cases hc
    | loc _ => obtain ⟨_, he, _⟩ := on_true h; rw [xName_ok he] at hc; cases hc
    | glob _ => obtain ⟨_, he, _⟩ := on_true h; rw [xName_ok he] at hc; cases hc
    | attr _ _ => obtain ⟨_, he, _⟩ := on_true h; rw [xAttr_ok he] at hc; cases hc
    | bin _ _ _ _ => obtain ⟨_, he, _⟩ := on_true h; rw [xBin_ok he] at hc; cases hc
    | neg _ => obtain ⟨_, he, _⟩ := on_true h; rw [xUn_ok he] at hc; cases hc
    | not _ => obtain ⟨_, he, _⟩ := on_true h; rw [xUn_ok he] at hc; cases hc
    | and _ => obtain ⟨_, he, _⟩ := on_true h; rw [xBool_ok he] at hc; cases hc
    | or _ => obtain ⟨_, he, _⟩ := on_true h; rw [xBool_ok he] at hc; cases hc
    | ite _ _ _ => obtain ⟨_, he, _⟩ := on_true h; rw [xIf_ok he] at hc; cases hc
    | list _ _ => obtain ⟨_, he, _⟩ := on_true h; rw [xList_ok he] at hc; cases hc
    | tup _ => obtain ⟨_, he, _⟩ := on_true h; rw [xTup_ok he] at hc; cases hc
    | idx _ _ => obtain ⟨_, he, _⟩ := on_true h; rw [xSub_ok he] at hc; cases hc
    | sl _ _ _ _ => obtain ⟨_, he, _⟩ := on_true h; rw [xSub_ok he] at hc; cases hc
    | rev _ _ => obtain ⟨_, he, _⟩ := on_true h; rw [xSub_ok he] at hc; cases hc
    | call _ _ _ => obtain ⟨_, he, _⟩ := on_true h; rw [xCall_ok he] at hc; cases hc
    | meth _ _ _ _ => obtain ⟨_, he, _⟩ := on_true h; rw [xCall_ok he] at hc; cases hc
    | cmp _ _ _ => obtain ⟨_, he, _⟩ := on_true h; rw [xCmp_ok he] at hc; cases hc
    | cmp2 _ _ _ _ _ => obtain ⟨_, he, _⟩ := on_true h; rw [xCmp_ok he] at hc; cases hc
    | dict _ => exact (Bool.false_ne_true h).elim
    | sortedRev _ _ => exact (Bool.false_ne_true h).elim

mutual
theorem sndS (K : CxOk X) (O : Objs X n) : ∀ (p : PS) (sc : Scope) (e : Stmt), chkS X.nm sc p e = true → S1 X n sc p e
  | .expr a, sc, e, h => by
    obtain ⟨⟨x, pos⟩, he, h⟩ := on_true h
    obtain ⟨h1, h2⟩ := and2 h
    rw [xSExpr_ok he]; exact snd_expr (sndE K O a sc x h1) h2
  | .pass, sc, e, h => by
    obtain ⟨pos, he, h⟩ := on_true h
    rw [xSPass_ok he]; exact snd_pass
  | .assign t a, sc, e, h => by
    obtain ⟨⟨ts, x, pos⟩, he, h⟩ := on_true h
    obtain ⟨y, hy, h⟩ := on_true h
    obtain ⟨h1, h2⟩ := and2 h
    obtain rfl : ts = [y] := x1_ok hy
    rw [xSAssign_ok he]
    cases t with
    | loc i =>
      obtain ⟨⟨z, p⟩, hz, h1⟩ := on_true h1
      obtain ⟨h3, h4⟩ := and2 h1
      obtain rfl : y = .Name z p := xName_ok hz
      exact snd_assign K O (of_decide_eq_true h3) h4 h2
    | attr _ _ => exact (Bool.false_ne_true h1).elim
    | idx _ _ => exact (Bool.false_ne_true h1).elim
    | tup _ => exact (Bool.false_ne_true h1).elim
  | .augLoc i op a, sc, e, h => (Bool.false_ne_true h).elim
  | .augAttr o m op a, sc, e, h => (Bool.false_ne_true h).elim
  | .ret a, sc, e, h => by
    obtain ⟨⟨v, pos⟩, he, h⟩ := on_true h
    rw [xSRet_ok he]
    cases a with
    | none =>
      obtain rfl : v = none := x0_ok h
      exact snd_ret_none
    | some a =>
      obtain ⟨x, hx, h⟩ := on_true h
      obtain rfl : v = some x := hx
      exact snd_ret (sndE K O a sc x h)
  | .ite t a b, sc, e, h => by
    obtain ⟨⟨x, u, v, pos⟩, he, h⟩ := on_true h
    obtain ⟨h1, h2, h3⟩ := and3 h
    rw [xSIf_ok he]; exact snd_if (sndT K O t sc x h1) (sndSs K O a sc u h2) (sndSs K O b sc v h3)
  | .loop ts it body, sc, e, h => by
    obtain ⟨⟨t, i, b, os, pos⟩, he, h⟩ := on_true h
    obtain ⟨j, hj, h⟩ := on_true h
    obtain ⟨h1, h2, h3, h4⟩ := and4 h
    obtain ⟨⟨z, p⟩, hz, h1⟩ := on_true h1
    obtain ⟨h5, h6⟩ := and2 h1
    obtain rfl : t = .Name z p := xName_ok hz
    obtain rfl : ts = [j] := x1_ok hj
    obtain rfl : os = [] := empty_ok h4
    rw [xSFor_ok he]; exact snd_loop K (sndE K O it sc i h2) (sndSs K O body sc b h3) (of_decide_eq_true h5) h6 (chk_notSet h2)
  | .loopEnum _ _ _ _, sc, e, h => (Bool.false_ne_true h).elim
  | .while_ t body, sc, e, h => by
    obtain ⟨⟨x, b, os, pos⟩, he, h⟩ := on_true h
    obtain ⟨h1, h2, h3⟩ := and3 h
    obtain rfl : os = [] := empty_ok h3
    rw [xSWhile_ok he]; exact snd_while (sndT K O t sc x h1) (sndSs K O body sc b h2)
  | .raise _, sc, e, h => (Bool.false_ne_true h).elim
  | .try_ _ _ _ _, sc, e, h => (Bool.false_ne_true h).elim
theorem sndSs (K : CxOk X) (O : Objs X n) : ∀ (p : PSs) (sc : Scope) (es : List Stmt), chkSs X.nm sc p es = true → SS X n sc p es
  | .nil, sc, es, h => by rw [empty_ok h]; exact snd_ss_nil
  | .cons c r, sc, es, h => by
    obtain ⟨x, hx, h⟩ := on_true h
    obtain ⟨h1, h2⟩ := and2 h
    rw [head_ok hx]; exact snd_ss_cons (sndS K O c sc x h1) (sndSs K O r sc es.tail h2)
end
end
end Mine
end

section
namespace Mine
open PySem PySem.W PySem.Calls PyProof.Rows

section
variable {X : Cx} {n : Nat}

theorem cells_some : ∀ (names : List (Str × NameKind)) (k : Nat) (acc : List (Str × Addr)) (x : Str), ((x, NameKind.cell) ∈ names ∨ ∃ c, acc.lookup x = some c) → ∃ c, (cellsFrom k names acc).lookup x = some c
  | [], _, _, _, h => h.elim (fun q => (nomatch q)) id
  | (y, kd) :: r, k, acc, x, h => by
    unfold cellsFrom
    split
    · rename_i hk
      refine cells_some r (k + 1) ((y, k) :: acc) x ?_
      rcases h with h | ⟨c, h⟩
      · rcases List.mem_cons.mp h with q | q
        · cases q; exact .inr ⟨k, by simp [List.lookup_cons]⟩
        · exact .inl q
      · by_cases hb : (x == y) = true
        · exact .inr ⟨k, by simp only [List.lookup_cons, hb]⟩
        · have hb' : (x == y) = false := by simpa using hb
          exact .inr ⟨c, by simp only [List.lookup_cons, hb']; exact h⟩
    · rename_i hk
      refine cells_some r k acc x ?_
      rcases h with h | h
      · rcases List.mem_cons.mp h with q | q
        · cases q; exact absurd rfl hk
        · exact .inl q
      · exact .inr h

noncomputable def BR (X : Cx) (W : Wd) (kd : Str → Option NameKind) (loc : Loc) (m cm : Str → Option Value) : Prop := ∀ i v, loc i = some v → (kd (X.nm i) = some .local → ∃ cv, m (X.nm i) = some cv ∧ VR X W cv v) ∧ (kd (X.nm i) ≠ some .local → ∃ cv, cm (X.nm i) = some cv ∧ VR X W cv v)
theorem bind_rel (K : CxOk X) {W : Wd} {kd : Str → Option NameKind} : ∀ (ps : List Nat) (vs : List Value) (as : List V) (l₀ l : Loc) (m cm : Str → Option Value), VRs X W vs as → bindP ps as l₀ = some l → BR X W kd l₀ m cm → BR X W kd l (bindL kd ((ps.map X.nm).zip vs) m) (bindC kd ((ps.map X.nm).zip vs) cm)
  | [], _, [], l₀, l, m, cm, hv, hb, h => by
    cases hb
    cases hv with | nil => exact h
  | [], _, _ :: _, _, _, _, _, _, hb, _ => by simp [bindP] at hb
  | _ :: _, _, [], _, _, _, _, _, hb, _ => by simp [bindP] at hb
  | p :: ps, _, a :: as, l₀, l, m, cm, hv, hb, h => by
    cases hv with
    | @cons v vs _ _ hv hvs =>
      have hb' : bindP ps as (upd l₀ p a) = some l := hb
      refine bind_rel K ps vs as (upd l₀ p a) l _ _ hvs hb' ?_
      intro i u e
      have e' : (if i = p then some a else l₀ i) = some u := e
      by_cases hi : i = p
      · subst hi
        rw [if_pos rfl] at e'; cases e'
        by_cases hl : kd (X.nm i) = some .local
        · exact ⟨fun _ => ⟨v, by rw [if_pos hl, if_pos rfl], hv⟩, fun q => absurd hl q⟩
        · exact ⟨fun q => absurd q hl, fun _ => ⟨v, by rw [if_neg hl, if_pos rfl], hv⟩⟩
      · rw [if_neg hi] at e'
        have ne : X.nm i ≠ X.nm p := fun q => hi (K.inj _ _ q)
        obtain ⟨h1, h2⟩ := h i u e'
        refine ⟨fun q => ?_, fun q => ?_⟩
        · obtain ⟨cv, a1, a2⟩ := h1 q
          refine ⟨cv, ?_, a2⟩
          split
          · exact (if_neg ne).trans a1
          · exact a1
        · obtain ⟨cv, a1, a2⟩ := h2 q
          refine ⟨cv, ?_, a2⟩
          split
          · exact a1
          · exact (if_neg ne).trans a1

theorem bindP_len : ∀ (ps : List Nat) (as : List V) (l₀ l : Loc), bindP ps as l₀ = some l → as.length = ps.length
  | [], [], _, _, _ => rfl
  | [], _ :: _, _, _, h => by simp [bindP] at h
  | _ :: _, [], _, _, h => by simp [bindP] at h
  | p :: ps, a :: as, l₀, l, h => by
    have h' : bindP ps as (upd l₀ p a) = some l := h
    rw [List.length_cons, List.length_cons, bindP_len ps as _ l h']

theorem call_step (K : CxOk X) (O : Objs X n) : CallOk X (n + 1) := by
  intro A k a as vs W H s Q E hA R hv ha h
  obtain ⟨d, hd, h⟩ := need_iff.mp h
  obtain ⟨m, hm, h⟩ := need_iff.mp h
  obtain ⟨o, fd, body, F⟩ := K.fn k a d ha hd
  have hlen : vs.length = d.params.length := by rw [hv.length]; exact bindP_len _ _ _ _ hm
  have lk : ∀ i ∈ d.params, fd.scope.names.lookup (X.nm i) = some .local ∨ fd.scope.names.lookup (X.nm i) = some .cell := fun i hi => by
    have := F.par i hi
    unfold kStore at this
    split at this
    · rename_i q; exact .inl q
    · rename_i q; exact .inr q
    · cases this
  have cs : ∀ (N : Nat) x, fd.scope.names.lookup x = some .cell → ∃ c, (cellsFrom N fd.scope.names []).lookup x = some c := fun N x q => cells_some _ _ _ _ (.inl (lookup_mem q))
  refine codeAny_call_cells (by have := hA.depth; omega) (R.bkeep _ _ F.at_) F.data (K.noLim.keeps R.bkeep) (F.code.keeps R.bkeep) F.body_ (F.bind vs hlen) F.clo (fun x hx => ?_) (fun s₁ ic => ?_) F.co F.gen F.kind
  · obtain ⟨i, hi, e⟩ := List.mem_map.mp (List.of_mem_zip (show (x.1, x.2) ∈ _ from hx)).1
    rw [← e]
    rcases lk i hi with q | q
    · exact .inl q
    · obtain ⟨c, hc⟩ := cs (s.heap.objs.size + 1) _ q
      exact .inr ⟨q, by rw [hc]; rfl⟩
  generalize hL : s.heap.objs.size = L at ic ⊢
  have sn : ∀ b, L ≤ b → s.heap.get? b = none := fun b hb => Heap.get?_none_of_le (by rw [hL]; exact hb)
  let env := callEnvC fd L a
  obtain ⟨h₁, tk, rfl, keep⟩ := ic.done
  let Pv : Addr → Prop := fun b => b = L ∨ ∃ x, env.cells.lookup x = some b
  have ab : ∀ x c, env.cells.lookup x = some c → L < c := fun x c q => ic.above x c (lookup_mem q)
  have pvN : ∀ b, Pv b → s.heap.get? b = none := fun b hb => hb.elim (fun q => by rw [q]; exact sn L (Nat.le_refl _)) fun ⟨x, q⟩ => sn b (Nat.le_of_lt (ab x b q))
  have noOwn : ∀ b, s.heap.get? b = none → ¬ Own W H b ∧ W.Z b = none := fun b hb => by
    constructor
    · intro q
      obtain ⟨_, e⟩ := R.own_there q
      rw [hb] at e; cases e
    · cases q : W.Z b with
      | none => rfl
      | some ob => have := R.z _ _ q; rw [hb] at this; cases this
  have Rl : RelH X W H h₁ := R.quiet (Pv := noPv) (fun b ob e _ => keep b ob e) fun _ z => z.elim
  have S0 : Stp noPv W H s.heap W H h₁ := .quiet (fun b ob e _ => keep b ob e) fun b ob e => ⟨ob, keep b ob e⟩
  have br := bind_rel K (kd := env.kindOf) d.params vs as (fun _ => none) m (fun _ => none) (fun _ => none) hv hm (fun i v e => by cases e)
  have kc : ∀ x, env.kindOf x = some .cell → ∃ c, env.cells.lookup x = some c := fun x q => cs (L + 1) x q
  have kf : ∀ x, env.kindOf x ≠ some .free := fun x q => F.free _ (lookup_mem (show fd.scope.names.lookup x = some .free from q)) rfl
  have fr : FrR X W H h₁ env Pv m := by
    refine ⟨⟨_, ic.toInCall.ns, fun i v e q => (br i v e).1 q⟩, fun i v e q => ?_, fun x _ q => ?_, fun x y c q q' => name_of_addr ic.apart (lookup_mem q) (lookup_mem q'), fun x c q => ?_, .inl rfl, fun b hb => noOwn b (pvN b hb), fun b hb => ?_⟩
    · have q' : env.kindOf (X.nm i) = some .cell := q.elim id fun z => absurd z (kf _)
      obtain ⟨c, hc⟩ := kc _ q'
      obtain ⟨cv, h1, h2⟩ := (br i v e).2 (by rw [q']; intro z; cases z)
      have hcell := ic.cell _ c hc
      rw [h1] at hcell
      exact ⟨c, cv, hc, hcell, h2⟩
    · obtain ⟨c, hc⟩ := kc _ q
      exact ⟨c, _, hc, ic.cell _ c hc, .inr ⟨x, hc⟩⟩
    · obtain ⟨ob, ho, _⟩ := ic.cell _ c q
      exact ⟨Nat.ne_of_gt (ab x c q), (noOwn c (pvN c (.inr ⟨x, q⟩))).1, ob, ho⟩
    · rcases hb with rfl | ⟨x, q⟩
      · obtain ⟨ob, _, _, ho, _⟩ := ic.toInCall.ns; exact ⟨ob, ho⟩
      · obtain ⟨ob, ho, _⟩ := ic.cell _ b q; exact ⟨ob, ho⟩
  have ok : EnvOk X (A.deeper env) env n fd.scope := by
    refine ⟨⟨hA.hh, ?_, ?_⟩, F.kind, F.glob, F.bi, fun x k q => .inl q, fun x q => q.elim (kc x) fun z => absurd z (kf x)⟩
    · have := hA.depth; show A.depth + 1 + 4 * n + 6 < _; omega
    · have := hA.units; show A.units + 3 + 20 * n + 110 < _; omega
  have hs := sndSs K O d.body fd.scope body F.chk (A.deeper env) env Pv W ⟨H, m⟩ { s with heap := h₁, toks := tk } _ _ ok (by intro z; cases z) ⟨Rl, fr⟩ h
  refine wpAny_mono hs (fun fl s' qq47 => ?_) fun _ _ z => z.no.elim
  obtain ⟨W', σ', T, af, hfr, q⟩ := qq47
  have Tc' : Tc X W H s W' σ'.H s' := ⟨S0.transFresh T.stp fun b hb => .inl (pvN b hb), T.at_.rel, ⟨T.rest.gens, T.rest.drawn, T.rest.os⟩⟩
  cases hfr with
  | next => exact ⟨W', σ'.H, _, Tc', .none, q⟩
  | brk => exact ⟨W', σ'.H, _, Tc', .none, q⟩
  | cont => exact ⟨W', σ'.H, _, Tc', .none, q⟩
  | ret hr => exact ⟨W', σ'.H, _, Tc', hr, q⟩

theorem call_zero : CallOk X 0 := by
  intro A k a as vs W H s Q E hA R hv ha h
  exact h.elim
end
end Mine
end

section
namespace Mine
open PySem PySem.W PySem.Calls PyProof.Rows

section
variable {X : Cx} {n : Nat}
theorem objs0 (K : CxOk X) (hK : CallOk X n) (hno : ∀ k, X.clA k = none) : Objs X n where
  call := fun sc nm fz f as x p vs pos hf has hc => snd_call0 K hK hno hf has hc
  meth := fun sc fz o m as v ap pos vs ho has hc hns hlen hline => snd_methL K rfl ho has hc hns hlen hline fun A env Pv W σ s Q E i l k fs ok at_ hl hgi h => by
    obtain ⟨l', hl', c, cl, es, kk, hcl, _⟩ := at_.rel.cell i _ hgi
    rw [hno] at hcl; cases hcl
  attr := fun sc e m v pos he hns => by
    intro A env Pv W σ s Q E ok at_ h
    rw [arm_eval_Attribute, base_plain hns]
    refine Ew.bindT ((he A env Pv W σ s _ E ok at_ h).mono fun cf W₁ σ₁ s₁ _ ⟨g, hg, h₁⟩ at₁ _ => ?_)
    cases hg with
    | @ref i l hl =>
      simp only at h₁
      split at h₁
      · rename_i hgi
        obtain ⟨l', hl', c, cl, es, kk, hcl, _⟩ := at₁.rel.cell i _ hgi
        rw [hno] at hcl; cases hcl
      · exact h₁.elim
    | _ => exact h₁.elim
theorem callOk0 (K : CxOk X) (hno : ∀ k, X.clA k = none) : ∀ n, CallOk X n
  | 0 => call_zero
  | n + 1 => call_step K (objs0 K (callOk0 K hno n) hno)
end
end Mine
end

section
namespace Mine
open PySem PySem.W PySem.Calls PyProof.Rows

/-- plain positional parameters alone -/
noncomputable def plainArgs (p : Arguments) : Bool := p.posonlyargs.isEmpty && p.vararg.isNone && p.kwonlyargs.isEmpty && p.kwarg.isNone

theorem lookup_zip {vs : List Value} : ∀ {ns : List Str} {vs : List Value}, ns.length = vs.length → ∀ n ∈ ns, ∃ v, (ns.zip vs).lookup n = some v
  | [], [], _, _, h => (nomatch h)
  | a :: r, v :: vs, hl, n, h => by
    rw [List.zip_cons_cons, List.lookup_cons]
    cases hb : n == a with
    | true => exact ⟨v, rfl⟩
    | false =>
      rcases List.mem_cons.mp h with q | q
      · subst q; simp at hb
      · exact lookup_zip (vs := vs) (by simpa using hl) n q
theorem filterMap_zip : ∀ {ns : List Str} {vs : List Value}, ns.length = vs.length → ns.Nodup → ∀ (f : Str → Option Value), (∀ n v, (n, v) ∈ ns.zip vs → f n = some v) → ns.filterMap (fun n => (f n).map (n, ·)) = ns.zip vs
  | [], [], _, _, _, _ => rfl
  | a :: r, v :: vs, hl, hn, f, hf => by
    rw [List.filterMap_cons, hf a v (by simp)]
    simp only [Option.map_some, List.zip_cons_cons]
    rw [filterMap_zip (by simpa using hl) (List.nodup_cons.mp hn).2 f fun n w h => hf n w (by simp [h])]
theorem lookup_nodup : ∀ {ns : List Str} {vs : List Value}, ns.length = vs.length → ns.Nodup → ∀ n v, (n, v) ∈ ns.zip vs → (ns.zip vs).lookup n = some v
  | [], [], _, _, _, _, h => (nomatch h)
  | a :: r, w :: vs, hl, hn, n, v, h => by
    rw [List.zip_cons_cons] at h ⊢
    rw [List.lookup_cons]
    rcases List.mem_cons.mp h with q | q
    · cases q; simp
    · have : n ∈ r := (List.of_mem_zip q).1
      have ne : (n == a) = false := by
        cases hb : n == a with
        | false => rfl
        | true => rw [eq_of_beq hb] at this; exact absurd this (List.nodup_cons.mp hn).1
      rw [ne]
      exact lookup_nodup (by simpa using hl) (List.nodup_cons.mp hn).2 n v q

theorem bind_plain {fd : FuncData} {vs : List Value} (hp : plainArgs fd.params = true) (hd : fd.defaults = .none) (hn : (fd.params.args.map (·.arg)).Nodup) (hl : (fd.params.args.map (·.arg)).length = vs.length) :
    bindArgs fd ⟨vs, []⟩ = pure ((fd.params.args.map (·.arg)).zip vs) := by
  obtain ⟨name, qual, params, body, scope, globals, closure, defaults, kwdefaults, doc, pm, ann, code, ct, bi⟩ := fd
  obtain ⟨po, as, va, ko, kd, kw, df⟩ := params
  simp only [plainArgs, Bool.and_eq_true, List.isEmpty_iff, Option.isNone_iff_eq_none] at hp
  obtain ⟨⟨⟨rfl, rfl⟩, rfl⟩, rfl⟩ := hp
  simp only at hd hn hl
  subst hd
  generalize hns : as.map (·.arg) = ns at hn hl
  have hmiss : (ns.filter fun n => ((ns.zip vs).lookup n).isNone) = [] := by
    rw [List.filter_eq_nil_iff]
    intro n hm
    obtain ⟨v, e⟩ := lookup_zip (vs := vs) hl n hm
    rw [e]; simp
  have hbinds := filterMap_zip hl hn (fun n => (ns.zip vs).lookup n) fun n v h => lookup_nodup hl hn n v h
  unfold bindArgs
  simp only [hns, List.map_nil, List.nil_append, List.append_nil, List.forIn_nil, seqItems?]
  have htake : ns.take vs.length = ns := by rw [← hl]; exact List.take_length
  have hdrop : ns.drop vs.length = [] := by rw [← hl]; exact List.drop_length
  simp only [hl, htake, hdrop, List.length_nil, Nat.sub_zero, Nat.sub_self, Option.getD_none, hmiss, List.drop_zero, List.zip_nil_left, List.zip_nil_right, List.forIn_nil, hbinds]
  simp [htake, hmiss, hbinds]
  rfl
end Mine
end

section
namespace Mine
open PySem PySem.W PySem.Calls PyProof.Rows

/-- the tables of a text: names, defs, global names -/
structure Tb where
  nms : List (Nat × Str)
  fns : List (Nat × Str × Fn)
  globs : List (Nat × V)
  nAppend : Nat
  nPop : Nat
  nExtend : Nat
  nGet : Nat
  nSetdefault : Nat

noncomputable def lkS : List (Nat × Str) → Nat → Option Str
  | [], _ => none
  | (k, x) :: r, n => if k = n then some x else lkS r n
theorem lkS_mem : ∀ {l : List (Nat × Str)} {i : Nat} {s : Str}, lkS l i = some s → (i, s) ∈ l
  | [], _, _, h => by cases h
  | (k, w) :: r, i, v, h => by
    unfold lkS at h
    split at h
    · rename_i e; cases h; subst e; exact .head _
    · exact .tail _ (lkS_mem h)
theorem lkS_uniq : ∀ {l : List (Nat × Str)}, (l.map (·.2)).Nodup → ∀ {i j : Nat} {s : Str}, (i, s) ∈ l → (j, s) ∈ l → i = j
  | [], _, _, _, _, h, _ => (nomatch h)
  | (k, w) :: r, hn, i, j, s, h, h' => by
    rw [List.map_cons, List.nodup_cons] at hn
    rcases List.mem_cons.mp h with q | q <;> rcases List.mem_cons.mp h' with q' | q'
    · cases q; cases q'; rfl
    · cases q; exact absurd (List.mem_map.mpr ⟨_, q', rfl⟩) hn.1
    · cases q'; exact absurd (List.mem_map.mpr ⟨_, q, rfl⟩) hn.1
    · exact lkS_uniq hn.2 q q'
noncomputable def Tb.nm (t : Tb) (i : Nat) : Str := match lkS t.nms i with
  | some s => s
  | none => ⟨Array.replicate (i + 1) 0⟩
noncomputable def lkF : List (Nat × Str × Fn) → Nat → Option (Str × Fn)
  | [], _ => none
  | (k, x) :: r, n => if k = n then some x else lkF r n
noncomputable def Tb.P (t : Tb) : Prog where
  fn := fun k => (lkF t.fns k).map (·.2)
  cls := fun _ => none
  glob := fun i => lkp t.globs i
  sub := fun _ _ => false
  nAppend := t.nAppend
  nPop := t.nPop
  nExtend := t.nExtend
  nGet := t.nGet
  nSetdefault := t.nSetdefault

noncomputable def goodNm (s : Str) : Bool := match s.cps[0]? with
  | some c => c != 0 && !(s == (".0" : Str))
  | none => false
noncomputable def distinct : List Str → Bool
  | [] => true
  | x :: r => !(r.contains x) && distinct r
theorem distinct_nodup : ∀ {l : List Str}, distinct l = true → l.Nodup
  | [], _ => List.nodup_nil
  | x :: r, h => by
    simp only [distinct, Bool.and_eq_true, Bool.not_eq_true'] at h
    refine List.nodup_cons.mpr ⟨fun m => ?_, distinct_nodup h.2⟩
    have := h.1
    rw [List.contains_eq_mem] at this
    simp [m] at this

theorem nm_some {t : Tb} {i : Nat} {s : Str} (h : lkS t.nms i = some s) : t.nm i = s := by unfold Tb.nm; rw [h]
theorem nm_none {t : Tb} {i : Nat} (h : lkS t.nms i = none) : t.nm i = Str.mk (Array.replicate (i + 1) 0) := by unfold Tb.nm; rw [h]
theorem nm_inj {t : Tb} (hg : (t.nms.map (·.2)).all goodNm = true) (hd : distinct (t.nms.map (·.2)) = true) : ∀ i j, t.nm i = t.nm j → i = j := by
  rw [List.all_eq_true] at hg
  have first : ∀ i s, lkS t.nms i = some s → ∀ k : Nat, s ≠ Str.mk (Array.replicate (k + 1) 0) := fun i s e k q => by
    have := hg s (List.mem_map.mpr ⟨_, lkS_mem e, rfl⟩)
    rw [q] at this
    simp [goodNm] at this
  intro i j h
  cases hi : lkS t.nms i with
  | some a =>
    rw [nm_some hi] at h
    cases hj : lkS t.nms j with
    | some b =>
      rw [nm_some hj] at h
      subst h
      exact lkS_uniq (distinct_nodup hd) (lkS_mem hi) (lkS_mem hj)
    | none => rw [nm_none hj] at h; exact absurd h (first i a hi j)
  | none =>
    rw [nm_none hi] at h
    cases hj : lkS t.nms j with
    | some b => rw [nm_some hj] at h; exact absurd h.symm (first j b hj i)
    | none =>
      rw [nm_none hj] at h
      have := congrArg (fun s => s.cps.size) h
      simpa using this
theorem nm_dot {t : Tb} (hg : (t.nms.map (·.2)).all goodNm = true) (i : Nat) : t.nm i ≠ (".0" : Str) := by
  rw [List.all_eq_true] at hg
  cases hi : lkS t.nms i with
  | some a =>
    rw [nm_some hi]
    have := hg a (List.mem_map.mpr ⟨_, lkS_mem hi, rfl⟩)
    intro q
    subst q
    revert this
    decide
  | none =>
    rw [nm_none hi]
    intro q
    have h0 := congrArg (fun s => s.cps[0]?) q
    simp at h0
    revert h0
    decide

noncomputable def kFn (sc : Scope) : Bool := match sc.kind with
  | .function => true
  | _ => false
noncomputable def chkFn (nm : Nat → Str) (d : DefRec) (f : Fn) : Bool :=
  plainArgs d.params && decide (d.params.args.map (·.arg) = f.params.map nm) && distinct (d.params.args.map (·.arg)) && kFn d.scope && !d.scope.isCoroutine && !d.scope.isGenerator &&
  f.params.all (fun i => kStore d.scope (nm i)) && d.scope.names.all (fun x => !(x.2 == NameKind.free)) && chkSs nm d.scope f.body d.body
/-- the defs, one by one -/
noncomputable def chkFns (nm : Nat → Str) (recs : List DefRec) : List (Nat × Str × Fn) → Bool
  | [] => true
  | (_, x, f) :: r => (match recs.find? (fun d => d.name == x) with
    | some d => chkFn nm d f
    | none => false) && chkFns nm recs r
noncomputable def isBv : Option Value → B → Bool
  | some (.type a), b => (match bval b with | .type c => a == c | _ => false)
  | some (.builtin a), b => (match bval b with | .builtin c => a == c | _ => false)
  | _, _ => false
noncomputable def chkGlob (t : Tb) (used : List Str) : Nat × V → Bool
  | (i, .fn k) => (match lkF t.fns k with | some (x, _) => decide (x = t.nm i) | none => false)
  | (i, .bt b) => !(used.contains (t.nm i)) && !(t.nm i == ("__name__" : Str)) && isBv (bootBuiltins (t.nm i)) b
  | _ => false
noncomputable def usedNames (p : Program) (loose : List Str) : List Str := startupNames ++ loose ++ (recsOf p).map (·.name) ++ (litsOf p).map (·.1) ++ (clssOf p loose).map (·.name)
noncomputable def chkNms (t : Tb) : Bool := (t.nms.map (·.2)).all goodNm && distinct (t.nms.map (·.2)) && decide (t.nm t.nAppend = Str.ofString "append") && decide (t.nm t.nPop = Str.ofString "pop") && decide (t.nm t.nExtend = Str.ofString "extend") && decide (t.nm t.nGet = Str.ofString "get") && decide (t.nm t.nSetdefault = Str.ofString "setdefault")

noncomputable def refOf : Option Value → Option Addr
  | some (.ref a) => some a
  | _ => none
noncomputable def mkCx (p : Program) (w : World) (t : Tb) (mg : Str → Option Value) (h : Heap) : Cx where
  prog := p
  w := w
  P := t.P
  nm := t.nm
  fnA := fun k => match lkF t.fns k with | some (x, _) => refOf (mg x) | none => none
  clA := fun _ => none
  hb := h

theorem find_rec {recs : List DefRec} {x : Str} {d : DefRec} (h : recs.find? (fun d => d.name == x) = some d) : d ∈ recs ∧ d.name = x :=
  ⟨List.mem_of_find?_eq_some h, eq_of_beq (List.find?_some (p := fun d : DefRec => d.name == x) h)⟩
theorem chkFns_get {nm : Nat → Str} {recs : List DefRec} : ∀ {l : List (Nat × Str × Fn)}, chkFns nm recs l = true → ∀ {k : Nat} {x : Str} {f : Fn}, lkF l k = some (x, f) → ∃ d ∈ recs, d.name = x ∧ chkFn nm d f = true
  | [], _, _, _, _, e => by cases e
  | (j, y, g) :: r, h, k, x, f, e => by
    simp only [chkFns, Bool.and_eq_true] at h
    unfold lkF at e
    split at e
    · cases e
      have h1 := h.1
      split at h1
      · rename_i d hd
        obtain ⟨a, b⟩ := find_rec hd
        exact ⟨d, a, b, h1⟩
      · cases h1
    · exact chkFns_get h.2 e
theorem isBv_eq {o : Option Value} {b : B} (h : isBv o b = true) : o = some (bval b) := by
  unfold isBv at h
  split at h
  · split at h
    · rename_i q; rw [q, eq_of_beq h]
    · cases h
  · split at h
    · rename_i q; rw [q, eq_of_beq h]
    · cases h
  · cases h
theorem lkp_mem : ∀ {l : List (Nat × V)} {i : Nat} {v : V}, lkp l i = some v → (i, v) ∈ l
  | [], _, _, h => by cases h
  | (k, w) :: r, i, v, h => by
    unfold lkp at h
    split at h
    · rename_i e; cases h; subst e; exact .head _
    · exact .tail _ (lkp_mem h)

theorem cx_ok {p q : Program} {loose : List Str} {mean : ExcName → Option Value} {mg mb : Str → Option Value} {h : Heap} {w : World} {t : Tb} (T : Top q loose mean mg mb h)
    (h1 : chkNms t = true) (h2 : chkFns t.nm (recsOf q) t.fns = true) (h3 : t.globs.all (chkGlob t (usedNames q loose)) = true) : CxOk (mkCx p w t mg h) := by
  simp only [chkNms, Bool.and_eq_true, decide_eq_true_eq] at h1
  obtain ⟨⟨⟨⟨⟨⟨g1, g2⟩, g3⟩, g4⟩, g5⟩, g6⟩, g7⟩ := h1
  rw [List.all_eq_true] at h3
  have fnAt : ∀ k x f, lkF t.fns k = some (x, f) → ∃ d a o pm code doc, d.name = x ∧ chkFn t.nm d f = true ∧ mg x = some (.ref a) ∧ h.get? a = some o ∧ o.data = .func (docDef d.name d.params d.body d.scope pm code doc) ∧ h.CodeRec code d.name := fun k x f e => by
    obtain ⟨d, hm, hn, hc⟩ := chkFns_get h2 e
    obtain ⟨a, o, pm, code, doc, q1, q2, q3, q4⟩ := T.fn d hm
    exact ⟨d, a, o, pm, code, doc, hn, hc, hn ▸ q1, q2, q3, q4⟩
  have fnA : ∀ k a, (mkCx p w t mg h).fnA k = some a → ∃ x f, lkF t.fns k = some (x, f) ∧ mg x = some (.ref a) := fun k a e => by
    have e' : (match lkF t.fns k with | some (x, _) => refOf (mg x) | none => none) = some a := e
    split at e'
    · rename_i x f hx
      refine ⟨x, f, hx, ?_⟩
      unfold refOf at e'
      split at e'
      · rename_i q; cases e'; exact q
      · cases e'
    · cases e'
  refine ⟨nm_inj g1 g2, nm_dot g1, T.nolimit, fun i v e => ?_, g3, g4, g5, g6, g7, fun k a e => ?_, fun k a d e ed => ?_⟩
  · have hm := h3 _ (lkp_mem e)
    cases v with
    | fn k =>
      simp only [chkGlob] at hm
      split at hm
      · rename_i x f hx
        have hx' : x = t.nm i := by simpa using hm
        obtain ⟨d, a, o, pm, code, doc, _, _, q1, _⟩ := fnAt k x f hx
        refine ⟨.ref a, mg, mb, T.g, T.b, .inl (by show mg (t.nm i) = _; rw [← hx']; exact q1), fun W => .fn ?_⟩
        show (match lkF t.fns k with | some (x, _) => refOf (mg x) | none => none) = some a
        rw [hx]; show refOf (mg x) = some a; rw [q1]; rfl
      · cases hm
    | bt b =>
      simp only [chkGlob, Bool.and_eq_true, Bool.not_eq_true'] at hm
      obtain ⟨⟨m1, m2⟩, m3⟩ := hm
      have nu : t.nm i ∉ usedNames q loose := fun z => by
        rw [List.contains_eq_mem] at m1; simp [z] at m1
      unfold usedNames at nu
      simp only [List.mem_append, not_or] at nu
      obtain ⟨⟨⟨⟨n1, n2⟩, n3⟩, n4⟩, n5⟩ := nu
      refine ⟨bval b, mg, mb, T.g, T.b, .inr ⟨T.free _ n1 n2 n3 n4 n5, ?_⟩, fun W => .bt b⟩
      show mb (t.nm i) = _
      rw [T.builtins _ (by intro z; rw [z] at m2; simp at m2), isBv_eq m3]
    | _ => cases hm
  · obtain ⟨x, f, hx, hmg⟩ := fnA k a e
    obtain ⟨d, a', o, pm, code, doc, _, _, q1, q2, q3, _⟩ := fnAt k x f hx
    rw [hmg] at q1; cases q1
    exact ⟨o, _, q2, q3⟩
  · obtain ⟨x, f, hx, hmg⟩ := fnA k a e
    have ed' : (lkF t.fns k).map (·.2) = some d := ed
    rw [hx] at ed'
    have : f = d := Option.some.inj ed'
    subst this
    obtain ⟨dr, a', o, pm, code, doc, hn, hc, q1, q2, q3, q4⟩ := fnAt k x f hx
    rw [hmg] at q1; cases q1
    simp only [chkFn, Bool.and_eq_true, Bool.not_eq_true', decide_eq_true_eq, List.all_eq_true] at hc
    obtain ⟨⟨⟨⟨⟨⟨⟨⟨c1, c2⟩, c3⟩, c4⟩, c5⟩, c6⟩, c7⟩, c8⟩, c9⟩ := hc
    refine ⟨o, _, dr.body, q2, q3, q4, rfl, fun vs hl => ?_, rfl, c5, c6, ?_, rfl, rfl, c7, fun y hy z => ?_, c9⟩
    · have := bind_plain (fd := docDef dr.name dr.params dr.body dr.scope pm code doc) (vs := vs) c1 rfl (distinct_nodup c3) (by show (dr.params.args.map (·.arg)).length = _; rw [c2, List.length_map, hl])
      rw [this]
      show pure ((dr.params.args.map (·.arg)).zip vs) = _
      rw [c2]; rfl
    · show dr.scope.kind = .function
      unfold kFn at c4
      cases hk : dr.scope.kind <;> rw [hk] at c4 <;> first | rfl | cases c4
    · have := c8 y hy
      rw [z] at this
      cases this

/-- the state at the call -/
noncomputable def W0 (h : Heap) : Wd := ⟨fun a => h.get? a, fun _ => none⟩
noncomputable def H0 : Hp := ⟨0, fun _ => none⟩
theorem rel0 {p : Program} {w : World} {t : Tb} {mg : Str → Option Value} {h : Heap} : RelH (mkCx p w t mg h) (W0 h) H0 h :=
  ⟨fun _ _ e => e, fun _ _ e => e, fun _ _ e => (by cases e), fun a ⟨i, c, l, e, _⟩ => (by cases e), fun i j ci cj li lj e => (by cases e), fun _ _ => ⟨rfl, rfl⟩⟩

theorem vrs_ints {X : Cx} {W : Wd} {P : Params} {h : Heap} : ∀ {vs : List Value} {is : List Int}, WellAll P h vs (ofPys (is.map PyData.int)) → VRs X W vs (is.map V.int)
  | _, [], r => by
    cases r; exact .nil
  | _, i :: is, r => by
    have r' : WellAll P h _ (.int i :: ofPys (is.map PyData.int)) := r
    cases r' with
    | cons a b =>
      cases a with
      | int _ t => exact .cons (.int i t) (vrs_ints b)

theorem law_end {p : Program} {w : World} {t : Tb} {mg : Str → Option Value} {s₁ : Shared} {c : ClaimW} {cl : Str → Option Addr} {mean : ExcName → Option Value} {args : List WData} {k : Nat} {fa a : Addr} {vs : List Value} {is : List Int} {q : Program} {loose : List Str} {mean' : ExcName → Option Value} {mb : Str → Option Value} {P : Params}
    (T : Top q loose mean' mg mb s₁.heap) (h1 : chkNms t = true) (h2 : chkFns t.nm (recsOf q) t.fns = true) (h3 : t.globs.all (chkGlob t (usedNames q loose)) = true)
    (hg : s₁.gens = #[]) (hk : ∃ x f, lkF t.fns k = some (x, f) ∧ mg x = some (.ref fa)) (hw : Well P s₁.heap (.ref a) (ofPy (.list (is.map PyData.int)))) (hlen : ¬ ((63 : Nat) : Int) < (is.length : Nat))
    (hr : ∀ cls, c.raises args cls = false) (hp : c.post args (.bool true) args = true)
    (n : Nat) (hA : AOk callerA n)
    (main : ∀ is : List Int, is.length ≤ 63 → CW t.P n k [.lst (is.map V.int)] H0 (fun v _ => v = .bool true) (fun _ _ => False)) :
    wpAny (model p w) callerA (call (.ref fa) [.ref a]) (fun v s' => GoodWG c cl mean args s₁ (.ok (.ret v)) s') (fun e s' => GoodWG c cl mean args s₁ (.error e) s') s₁ := by
  have K : CxOk (mkCx p w t mg s₁.heap) := cx_ok T h1 h2 h3
  have hl : is.length ≤ 63 := by omega
  cases hw with
  | list hgt hall =>
    have hv : VR (mkCx p w t mg s₁.heap) (W0 s₁.heap) (.ref a) (.lst (is.map V.int)) := VR.lst (n := 0) hgt (by simpa using vrs_ints hall) (by rw [List.length_map]; unfold SZ; omega)
    have hfn : (mkCx p w t mg s₁.heap).fnA k = some fa := by
      obtain ⟨x, f, hx, hmg⟩ := hk
      show (match lkF t.fns k with | some (x, _) => refOf (mg x) | none => none) = some fa
      rw [hx]; show refOf (mg x) = some fa; rw [hmg]; rfl
    refine wpAny_call (codeAny_mono (callOk0 K (fun _ => rfl) n callerA k fa [.lst (is.map V.int)] [.ref a] (W0 s₁.heap) H0 s₁ _ _ hA rel0 (.cons hv .nil) hfn (main is hl)) fun r s' hr' => ?_)
    cases r with
    | ok fl =>
      cases fl with
      | ret v =>
        obtain ⟨W', H', av, TT, hv', rfl⟩ := hr'
        cases hv'
        exact GoodW.toG ⟨.inl ⟨_, .bool true, [], rfl, hr, .bool _, hp, fun _ => ⟨List.nodup_nil, fun _ z => (nomatch z)⟩⟩, TT.rel.bkeep, TT.rest.os, TT.rest.gens.trans hg⟩
      | _ => exact hr'.elim
    | error e =>
      obtain ⟨_, _, _, _, _, _, _, z, _⟩ := hr'
      exact z.elim
end Mine
end

section
namespace Mine
open PySem (Str)

section
variable (P : Prog) (K : CT) (E : EP) (σ : St)
@[simp ↓] theorem wpE_cst {v} {Q} : wpE P K E (PE.cst v) σ Q = (Q v σ) := rfl
@[simp ↓] theorem wpE_loc {i} {Q} : wpE P K E (PE.loc i) σ Q = (need (σ.loc i) fun v => Q v σ) := rfl
@[simp ↓] theorem wpE_glob {i} {Q} : wpE P K E (PE.glob i) σ Q = (need (P.glob i) fun v => Q v σ) := rfl
@[simp ↓] theorem wpE_attr {e} {n} {Q} : wpE P K E (PE.attr e n) σ Q = (wpE P K E e σ fun o σ₁ => match o with
    | .ref i => (match σ₁.H.get i with | some (.inst _ fs) => need (lkp fs n) fun v => Q v σ₁ | _ => False)
    | _ => False) := rfl
@[simp ↓] theorem wpE_bin {fz} {op} {l} {r} {Q} : wpE P K E (PE.bin fz op l r) σ Q = (wpE P K E l σ fun a σ₁ => wpE P K E r σ₁ fun b σ₂ => need (binV σ₂.H op a b) (give fz σ₂ Q)) := rfl
@[simp ↓] theorem wpE_neg {e} {Q} : wpE P K E (PE.neg e) σ Q = (wpE P K E e σ fun a σ₁ => (match a with | .int i => Q (.int (-i)) σ₁ | _ => False)) := rfl
@[simp ↓] theorem wpE_not {e} {Q} : wpE P K E (PE.not e) σ Q = (wpE P K E e σ fun v σ₁ => needB σ₁.H v fun b => Q (.bool (!b)) σ₁) := rfl
@[simp ↓] theorem wpE_cmp {op} {l} {r} {Q} : wpE P K E (PE.cmp op l r) σ Q = (wpE P K E l σ fun a σ₁ => wpE P K E r σ₁ fun b σ₂ => need (cmpV σ₂.H op a b) fun c => Q (.bool c) σ₂) := rfl
@[simp ↓] theorem wpE_cmp2 {o₁} {o₂} {x} {y} {z} {Q} : wpE P K E (PE.cmp2 o₁ o₂ x y z) σ Q = (wpE P K E x σ fun a σ₁ => wpE P K E y σ₁ fun b σ₂ => need (cmpV σ₂.H o₁ a b) fun c => match c with
    | true => wpE P K E z σ₂ fun d σ₃ => need (cmpV σ₃.H o₂ b d) fun c => Q (.bool c) σ₃
    | false => Q (.bool false) σ₂) := rfl
@[simp ↓] theorem wpE_and {es} {Q} : wpE P K E (PE.and es) σ Q = (wpAnd P K E es σ Q) := rfl
@[simp ↓] theorem wpE_or {es} {Q} : wpE P K E (PE.or es) σ Q = (wpOr P K E es σ Q) := rfl
@[simp ↓] theorem wpE_ite {t} {a} {b} {Q} : wpE P K E (PE.ite t a b) σ Q = (wpT P K E t σ fun c σ₁ => match c with
    | true => wpE P K E a σ₁ Q
    | false => wpE P K E b σ₁ Q) := rfl
@[simp ↓] theorem wpE_list {fz} {es} {Q} : wpE P K E (PE.list fz es) σ Q = (wpEs P K E es σ fun vs σ₁ => give fz σ₁ Q (.newList vs)) := rfl
@[simp ↓] theorem wpE_tup {es} {Q} : wpE P K E (PE.tup es) σ Q = (wpEs P K E es σ fun vs σ₁ => vs.length ≤ SZ ∧ Q (.tup vs) σ₁) := rfl
@[simp ↓] theorem wpE_dict {kvs} {Q} : wpE P K E (PE.dict kvs) σ Q = (wpKV P K E kvs σ fun kvs σ₁ => Q (.ref σ₁.H.next) (σ₁.setH (σ₁.H.new (.dict kvs)))) := rfl
@[simp ↓] theorem wpE_idx {e} {i} {Q} : wpE P K E (PE.idx e i) σ Q = (wpE P K E e σ fun a σ₁ => wpE P K E i σ₁ fun b σ₂ => need (idxV σ₂.H a b) fun v => Q v σ₂) := rfl
@[simp ↓] theorem wpE_sl {fz} {e} {lo} {hi} {Q} : wpE P K E (PE.sl fz e lo hi) σ Q = (wpE P K E e σ fun a σ₁ => wpO P K E lo σ₁ fun l σ₂ => wpO P K E hi σ₂ fun h σ₃ =>
      need (optInt l) fun l => need (optInt h) fun h => need (slV σ₃.H a l h) (give fz σ₃ Q)) := rfl
@[simp ↓] theorem wpE_rev {fz} {e} {Q} : wpE P K E (PE.rev fz e) σ Q = (wpE P K E e σ fun a σ₁ => need (asList σ₁.H a) fun xs => give fz σ₁ Q (.newList xs.reverse)) := rfl
@[simp ↓] theorem wpE_call {fz} {f} {as} {Q} : wpE P K E (PE.call fz f as) σ Q = (wpE P K E f σ fun g σ₁ => wpEs P K E as σ₁ fun vs σ₂ => callF P K E fz σ₂ g vs Q) := rfl
@[simp ↓] theorem wpE_sortedRev {fz} {e} {Q} : wpE P K E (PE.sortedRev fz e) σ Q = (wpE P K E e σ fun a σ₁ => need (asList σ₁.H a) fun xs => need (intsOf xs) fun l => give fz σ₁ Q (.newList ((srt l).reverse.map .int))) := rfl
@[simp ↓] theorem wpE_meth {fz} {o} {n} {as} {Q} : wpE P K E (PE.meth fz o n as) σ Q = (wpE P K E o σ fun a σ₁ => match a with
    | .ref i => (match σ₁.H.get i with
      | some (.inst k _) => need (P.cls k) fun c => need (mlk c.meths n) fun f =>
          wpEs P K E as σ₁ fun vs σ₂ => callF P K E fz σ₂ (.fn f) (.ref i :: vs) Q
      | some (.list _) => (n = P.nAppend ∨ n = P.nPop) ∧ wpEs P K E as σ₁ fun vs σ₂ => (match σ₂.H.get i with | some (.list xs) => methL P σ₂ i n vs xs Q | _ => False)
      | _ => False)
    | _ => False) := rfl
@[simp ↓] theorem wpE_comp {fz} {elt} {ts} {it} {cond} {Q} : wpE P K E (PE.comp fz elt ts it cond) σ Q = (wpE P K E it σ fun v σ₁ => need (items σ₁.H v) fun xs =>
      compGo (fun σ₂ k => wpC P K noE cond σ₂ k) (fun σ₂ k => wpE P K noE elt σ₂ k) ts (still v xs) xs [] ⟨σ₁.H, unbs ts σ₁.loc⟩ fun ys σ₂ => give fz ⟨σ₂.H, σ₁.loc⟩ Q (.newList ys)) := rfl
@[simp ↓] theorem wpT_not {e} {Q} : wpT P K E (PC.not e) σ Q = (wpT P K E e σ fun b σ₁ => Q (!b) σ₁) := rfl
@[simp ↓] theorem wpT_and {es} {Q} : wpT P K E (PC.and es) σ Q = (wpAllT P K E es σ Q) := rfl
@[simp ↓] theorem wpT_or {es} {Q} : wpT P K E (PC.or es) σ Q = (wpAnyT P K E es σ Q) := rfl
@[simp ↓] theorem wpT_e {e} {Q} : wpT P K E (PC.e e) σ Q = (wpE P K E e σ fun v σ₁ => needB σ₁.H v fun b => Q b σ₁) := rfl
@[simp ↓] theorem wpAllT_nil  {Q} : wpAllT P K E (PCs.nil) σ Q = (Q true σ) := rfl
@[simp ↓] theorem wpAllT_cons {e} {r} {Q} : wpAllT P K E (PCs.cons e r) σ Q = (wpT P K E e σ fun b σ₁ => match b with
    | true => wpAllT P K E r σ₁ Q
    | false => Q false σ₁) := rfl
@[simp ↓] theorem wpAnyT_nil  {Q} : wpAnyT P K E (PCs.nil) σ Q = (Q false σ) := rfl
@[simp ↓] theorem wpAnyT_cons {e} {r} {Q} : wpAnyT P K E (PCs.cons e r) σ Q = (wpT P K E e σ fun b σ₁ => match b with
    | true => Q true σ₁
    | false => wpAnyT P K E r σ₁ Q) := rfl
@[simp ↓] theorem wpEs_nil  {Q} : wpEs P K E (PEs.nil) σ Q = (Q [] σ) := rfl
@[simp ↓] theorem wpEs_cons {e} {r} {Q} : wpEs P K E (PEs.cons e r) σ Q = (wpE P K E e σ fun v σ₁ => wpEs P K E r σ₁ fun vs σ₂ => Q (v :: vs) σ₂) := rfl
@[simp ↓] theorem wpKV_nil  {Q} : wpKV P K E (PKV.nil) σ Q = (Q [] σ) := rfl
@[simp ↓] theorem wpKV_cons {k} {v} {r} {Q} : wpKV P K E (PKV.cons k v r) σ Q = (wpE P K E k σ fun a σ₁ => wpE P K E v σ₁ fun b σ₂ => keyOk a = true ∧ wpKV P K E r σ₂ fun r σ₃ => Q ((a, b) :: r) σ₃) := rfl
@[simp ↓] theorem wpO_none  {Q} : wpO P K E (PEo.none) σ Q = (Q none σ) := rfl
@[simp ↓] theorem wpO_some {e} {Q} : wpO P K E (PEo.some e) σ Q = (wpE P K E e σ fun v σ₁ => Q (some v) σ₁) := rfl
@[simp ↓] theorem wpC_none  {Q} : wpC P K E (PCo.none) σ Q = (Q true σ) := rfl
@[simp ↓] theorem wpC_some {e} {Q} : wpC P K E (PCo.some e) σ Q = (wpT P K E e σ Q) := rfl
@[simp ↓] theorem wpS_expr {e} {Q} : wpS P K (PS.expr e) σ Q E = (wpE P K E e σ fun _ σ₁ => Q .next σ₁) := rfl
@[simp ↓] theorem wpS_pass  {Q} : wpS P K (PS.pass) σ Q E = (Q .next σ) := rfl
@[simp ↓] theorem wpS_assign {t} {e} {Q} : wpS P K (PS.assign t e) σ Q E = (wpE P K E e σ fun v σ₁ => asgn P K E t v σ₁ fun σ₂ => Q .next σ₂) := rfl
@[simp ↓] theorem wpS_augLoc {i} {op} {e} {Q} : wpS P K (PS.augLoc i op e) σ Q E = (need (σ.loc i) fun a => wpE P K E e σ fun b σ₁ => augV op a b fun v => Q .next (σ₁.put i v)) := rfl
@[simp ↓] theorem wpS_augAttr {o} {n} {op} {e} {Q} : wpS P K (PS.augAttr o n op e) σ Q E = (wpE P K E o σ fun a σ₁ => match a with
    | .ref i => (match σ₁.H.get i with
      | some (.inst _ fs) => need (lkp fs n) fun x => wpE P K E e σ₁ fun b σ₂ => augV op x b fun v => putA P i n v σ₂ fun σ₃ => Q .next σ₃
      | _ => False)
    | _ => False) := rfl
@[simp ↓] theorem wpS_ret {e} {Q} : wpS P K (PS.ret e) σ Q E = (wpO P K E e σ fun v σ₁ => Q (.ret (v.getD .none)) σ₁) := rfl
@[simp ↓] theorem wpS_ite {t} {a} {b} {Q} : wpS P K (PS.ite t a b) σ Q E = (wpT P K E t σ fun c σ₁ => match c with
    | true => wpSs P K a σ₁ Q E
    | false => wpSs P K b σ₁ Q E) := rfl
@[simp ↓] theorem wpS_loop {ts} {it} {body} {Q} : wpS P K (PS.loop ts it body) σ Q E = (wpE P K E it σ fun v σ₁ => need (items σ₁.H v) fun xs =>
      loopGo (fun v σ₂ k => bindT ts v σ₂ fun σ₃ => wpSs P K body σ₃ k E) (still v xs) xs σ₁ Q) := rfl
@[simp ↓] theorem wpS_loopEnum {i} {x} {it} {body} {Q} : wpS P K (PS.loopEnum i x it body) σ Q E = (wpE P K E it σ fun v σ₁ => need (asList σ₁.H v) fun xs =>
      loopGo (fun v σ₂ k => bindT [i, x] v σ₂ fun σ₃ => wpSs P K body σ₃ k E) (still v xs) (enumL 0 xs) σ₁ Q) := rfl
@[simp ↓] theorem wpS_while_ {t} {body} {Q} : wpS P K (PS.while_ t body) σ Q E = (∃ n, whileGo (fun σ₁ k => wpT P K E t σ₁ k) (fun σ₁ k => wpSs P K body σ₁ k E) n σ Q) := rfl
@[simp ↓] theorem wpS_raise {k} {Q} : wpS P K (PS.raise k) σ Q E = (E σ.H.next (σ.setH (σ.H.new (.exc k)))) := rfl
@[simp ↓] theorem wpS_try_ {body} {k} {as} {h} {Q} : wpS P K (PS.try_ body k as h) σ Q E = (wpSs P K body σ Q fun i σ₁ => match σ₁.H.get i with
    | some (.exc j) => (match P.sub j k with
      | true => wpSs P K h (match as with | some n => σ₁.put n (.ref i) | none => σ₁) (fun fl σ₂ => Q fl (match as with | some n => ⟨σ₂.H, unb σ₂.loc n⟩ | none => σ₂)) E
      | false => E i σ₁)
    | _ => False) := rfl
@[simp ↓] theorem wpSs_nil  {Q} : wpSs P K (PSs.nil) σ Q E = (Q .next σ) := rfl
@[simp ↓] theorem wpSs_cons {s} {r} {Q} : wpSs P K (PSs.cons s r) σ Q E = (wpS P K s σ (fun fl σ₁ => match fl with
    | .next => wpSs P K r σ₁ Q E
    | fl => Q fl σ₁) E) := rfl
end
@[simp ↓] theorem need_some {α : Type} (a : α) (k : α → Prop) : need (some a) k = k a := rfl
@[simp] theorem need_none {α : Type} (k : α → Prop) : need none k = False := rfl
@[simp ↓] theorem wpAnd_one {P K E e σ Q} : wpAnd P K E (.cons e .nil) σ Q = wpE P K E e σ Q := rfl
@[simp ↓] theorem wpAnd_cons {P K E e f r σ Q} : wpAnd P K E (.cons e (.cons f r)) σ Q = (wpE P K E e σ fun v σ₁ => needB σ₁.H v fun b => match b with
    | true => wpAnd P K E (.cons f r) σ₁ Q
    | false => Q v σ₁) := rfl
@[simp ↓] theorem wpOr_one {P K E e σ Q} : wpOr P K E (.cons e .nil) σ Q = wpE P K E e σ Q := rfl
@[simp ↓] theorem wpOr_cons {P K E e f r σ Q} : wpOr P K E (.cons e (.cons f r)) σ Q = (wpE P K E e σ fun v σ₁ => needB σ₁.H v fun b => match b with
    | true => Q v σ₁
    | false => wpOr P K E (.cons f r) σ₁ Q) := rfl
theorem CW_succ {P n f as H Q E} : CW P (n + 1) f as H Q E = need (P.fn f) fun d => need (bindP d.params as fun _ => none) fun m =>
      wpSs P (CW P n) d.body ⟨H, m⟩ (fun fl σ => Q (retV fl) σ.H) fun e σ => E e σ.H := rfl
@[simp] theorem bindP_nil {m} : bindP [] [] m = some m := rfl
@[simp] theorem bindP_cons {p ps a as m} : bindP (p :: ps) (a :: as) m = bindP ps as (upd m p a) := rfl
@[simp] theorem upd_at {m i v j} : upd m i v j = if j = i then some v else m j := rfl
@[simp] theorem callF_bt {P K E fz σ b as Q} : callF P K E fz σ (.bt b) as Q = need (callB P σ.H b as) (give fz σ Q) := rfl
@[simp] theorem callF_fn {P K E fz σ k as Q} : callF P K E fz σ (.fn k) as Q = K k as σ.H (fun v H => giveV fz (σ.setH H) Q v) (fun e H => E e (σ.setH H)) := rfl
@[simp] theorem callB_isinstance {P H v t} : callB P H .isinstance [v, t] = (match isInstV P H v t with | some b => some (.val (.bool b)) | none => none) := rfl
@[simp] theorem isInstV_bt {P H v b} : isInstV P H v (.bt b) = (match kind H v with | some k => isInst1 P k (.bt b) | none => none) := rfl
@[simp] theorem give_val {fz σ Q v} : give fz σ Q (.val v) = Q v σ := rfl
@[simp] theorem give_fz {σ Q xs} : give true σ Q (.newList xs) = (xs.length ≤ SZ ∧ Q (.lst xs) σ) := rfl
@[simp] theorem give_new {σ Q xs} : give false σ Q (.newList xs) = (xs.length ≤ SZ ∧ Q (.ref σ.H.next) (σ.setH (σ.H.new (.list xs)))) := rfl
@[simp] theorem needB_bool {H b k} : needB H (.bool b) k = k b := rfl
@[simp] theorem retV_ret {v} : retV (.ret v) = v := rfl
@[simp] theorem retV_next : retV .next = .none := rfl
@[simp] theorem bindT_one {i v σ K} : bindT [i] v σ K = K (σ.put i v) := rfl
@[simp] theorem put_loc {σ : St} {i v} : (σ.put i v).loc = upd σ.loc i v := rfl
@[simp] theorem put_H {σ : St} {i v} : (σ.put i v).H = σ.H := rfl
@[simp] theorem setH_loc {σ : St} {H} : (σ.setH H).loc = σ.loc := rfl
@[simp] theorem setH_H {σ : St} {H} : (σ.setH H).H = H := rfl
theorem loopGo_nil {t c σ Q} : loopGo t c [] σ Q = (c σ.H ∧ Q .next σ) := rfl
theorem loopGo_cons {t c v vs σ Q} : loopGo t c (v :: vs) σ Q = (c σ.H ∧ t v σ fun fl σ₁ => match fl with
    | .next | .cont => loopGo t c vs σ₁ Q
    | .brk => Q .next σ₁
    | .ret r => Q (.ret r) σ₁) := rfl
theorem loop_step {t : V → St → (Flow → St → Prop) → Prop} {c : Hp → Prop} {v : V} {vs : List V} {σ : St} {Q : Flow → St → Prop} (hc : c σ.H)
    (h : ∀ k : Flow → St → Prop, (∀ σ₁, loopGo t c vs σ₁ Q → k .next σ₁) → (∀ σ₁, Q .next σ₁ → k .brk σ₁) → (∀ r σ₁, Q (.ret r) σ₁ → k (.ret r) σ₁) → t v σ k) : loopGo t c (v :: vs) σ Q :=
  ⟨hc, h _ (fun _ h => h) (fun _ h => h) fun _ _ h => h⟩
theorem ss_step {P : Prog} {K : CT} {s : PS} {r : PSs} {σ : St} {Q : Flow → St → Prop} {E : EP} (h : ∀ k : Flow → St → Prop, (∀ σ₁, wpSs P K r σ₁ Q E → k .next σ₁) → (∀ v σ₁, Q (.ret v) σ₁ → k (.ret v) σ₁) → wpS P K s σ k E) : wpSs P K (.cons s r) σ Q E :=
  h _ (fun _ h => h) fun _ _ h => h
theorem comp_step {t : St → (Bool → St → Prop) → Prop} {e : St → (V → St → Prop) → Prop} {i : Nat} {c : Hp → Prop} {v : V} {vs acc : List V} {σ : St} {Q : List V → St → Prop} (hc : c σ.H) (hl : acc.length < SZ)
    (h : ∀ k : V → St → Prop, ∀ kf : St → Prop, (∀ x σ₁, compGo t e [i] c vs (acc ++ [x]) σ₁ Q → k x σ₁) → (∀ σ₁, compGo t e [i] c vs acc σ₁ Q → kf σ₁) → t (σ.put i v) fun b σ₂ => match b with
      | true => e σ₂ k
      | false => kf σ₂) : compGo t e [i] c (v :: vs) acc σ Q :=
  ⟨hc, hl, h (fun x σ₁ => compGo t e [i] c vs (acc ++ [x]) σ₁ Q) (fun σ₁ => compGo t e [i] c vs acc σ₁ Q) (fun _ _ h => h) (fun _ h => h)⟩
theorem compGo_nil {t e ts c acc σ Q} : compGo t e ts c [] acc σ Q = (c σ.H ∧ acc.length ≤ SZ ∧ Q acc σ) := rfl
theorem compGo_cons {t e ts c v vs acc σ Q} : compGo t e ts c (v :: vs) acc σ Q = (c σ.H ∧ acc.length < SZ ∧ bindT ts v σ fun σ₁ => t σ₁ fun b σ₂ => match b with
    | true => e σ₂ fun x σ₃ => compGo t e ts c vs (acc ++ [x]) σ₃ Q
    | false => compGo t e ts c vs acc σ₂ Q) := rfl
@[simp] theorem asgn_loc {P K E i v σ Q} : asgn P K E (.loc i) v σ Q = Q (σ.put i v) := rfl
@[simp] theorem giveV_none {fz σ Q} : giveV fz σ Q .none = Q .none σ := by cases fz <;> rfl
@[simp] theorem giveV_bool {fz σ Q b} : giveV fz σ Q (.bool b) = Q (.bool b) σ := by cases fz <;> rfl
@[simp] theorem giveV_int {fz σ Q b} : giveV fz σ Q (.int b) = Q (.int b) σ := by cases fz <;> rfl
@[simp] theorem giveV_str {fz σ Q b} : giveV fz σ Q (.str b) = Q (.str b) σ := by cases fz <;> rfl
@[simp] theorem giveV_tup {fz σ Q b} : giveV fz σ Q (.tup b) = Q (.tup b) σ := by cases fz <;> rfl
@[simp] theorem giveV_lst {fz σ Q b} : giveV fz σ Q (.lst b) = Q (.lst b) σ := by cases fz <;> rfl
@[simp] theorem giveV_false {σ Q v} : giveV false σ Q v = Q v σ := rfl
theorem giveV_ref {σ : St} {Q i xs} (h : σ.H.get i = some (.list xs)) : giveV true σ Q (.ref i) = Q (.lst xs) (σ.setH (σ.H.del i)) := by simp only [giveV, h]
@[simp] theorem cmpV_lt {H a b} : cmpV H .lt a b = ltV a b := rfl
@[simp] theorem cmpV_le {H a b} : cmpV H .le a b = leV a b := rfl
@[simp] theorem cmpV_ge {H a b} : cmpV H .ge a b = leV b a := rfl
@[simp] theorem cmpV_gt {H a b} : cmpV H .gt a b = ltV b a := rfl
@[simp] theorem cmpV_eq {H a b} : cmpV H .eq a b = eqV H a b := rfl
@[simp] theorem cmpV_ne {H a b} : cmpV H .ne a b = (match eqV H a b with | some r => some (!r) | none => none) := rfl
@[simp] theorem cmpV_is {H a b} : cmpV H .is a b = isSame a b := rfl
@[simp] theorem cmpV_isNot {H a b} : cmpV H .isNot a b = (match isSame a b with | some r => some (!r) | none => none) := rfl
@[simp] theorem cmpV_in {H a b} : cmpV H .isIn a b = isIn H a b := rfl
@[simp] theorem cmpV_notIn {H a b} : cmpV H .notIn a b = (match isIn H a b with | some r => some (!r) | none => none) := rfl
@[simp] theorem leV_int {a b} : leV (.int a) (.int b) = some (decide (a ≤ b)) := rfl
@[simp] theorem ltV_int {a b} : ltV (.int a) (.int b) = some (decide (a < b)) := rfl
@[simp] theorem eqV_int {H a b} : eqV H (.int a) (.int b) = some (decide (a = b)) := rfl
@[simp] theorem isi_int {P k} : isInst1 P k (.bt .int) = (match k with | .int | .bool => some true | .none | .str | .list | .tuple => some false | _ => none) := by cases k <;> rfl
@[simp] theorem isi_bool {P k} : isInst1 P k (.bt .bool) = (match k with | .bool => some true | .int | .none | .str | .list | .tuple => some false | _ => none) := by cases k <;> rfl
@[simp] theorem isi_list {P k} : isInst1 P k (.bt .list) = (match k with | .list => some true | .int | .bool | .none | .str | .tuple => some false | _ => none) := by cases k <;> rfl
@[simp] theorem isi_str {P k} : isInst1 P k (.bt .str) = (match k with | .str => some true | .int | .bool | .none | .list | .tuple => some false | _ => none) := by cases k <;> rfl
@[simp] theorem isi_tuple {P k} : isInst1 P k (.bt .tuple) = (match k with | .tuple => some true | .int | .bool | .none | .list | .str => some false | _ => none) := by cases k <;> rfl
@[simp] theorem kind_none {H} : kind H .none = some .none := rfl
@[simp] theorem kind_bool {H i} : kind H (.bool i) = some .bool := rfl
@[simp] theorem kind_int {H i} : kind H (.int i) = some .int := rfl
@[simp] theorem kind_str {H i} : kind H (.str i) = some .str := rfl
@[simp] theorem kind_tup {H i} : kind H (.tup i) = some .tuple := rfl
@[simp] theorem kind_lst {H i} : kind H (.lst i) = some .list := rfl
theorem kind_ref {H : Hp} {i xs} (h : H.get i = some (.list xs)) : kind H (.ref i) = some .list := by simp only [kind, h]
@[simp] theorem callB_len_lst {P H xs} : callB P H .len [.lst xs] = some (.val (.int xs.length)) := rfl
@[simp] theorem callB_len_str {P H s} : callB P H .len [.str s] = some (.val (.int s.length)) := rfl
@[simp] theorem callB_len_tup {P H xs} : callB P H .len [.tup xs] = some (.val (.int xs.length)) := rfl
theorem callB_len_ref {P} {H : Hp} {i xs} (h : H.get i = some (.list xs)) : callB P H .len [.ref i] = some (.val (.int xs.length)) := by simp only [callB, callB1, asList, h]
@[simp] theorem callB_list_lst {P H xs} : callB P H .list [.lst xs] = some (.newList xs) := rfl
@[simp] theorem callB_list_tup {P H xs} : callB P H .list [.tup xs] = some (.newList xs) := rfl
theorem callB_list_ref {P} {H : Hp} {i xs} (h : H.get i = some (.list xs)) : callB P H .list [.ref i] = some (.newList xs) := by simp only [callB, callB1, asList, h]
@[simp] theorem callB_tuple_lst {P H xs} : callB P H .tuple [.lst xs] = some (.val (.tup xs)) := rfl
@[simp] theorem callB_range1 {P H n} : callB P H .range [.int n] = if n.natAbs ≤ SZ then some (.val (.rng 0 n 1)) else none := rfl
@[simp] theorem callB_range2 {P H a b} : callB P H .range [.int a, .int b] = if a.natAbs ≤ SZ ∧ b.natAbs ≤ SZ then some (.val (.rng a b 1)) else none := rfl
@[simp] theorem items_lst {H xs} : items H (.lst xs) = some xs := rfl
@[simp] theorem items_tup {H xs} : items H (.tup xs) = some xs := rfl
@[simp] theorem items_rng {H a b c} : items H (.rng a b c) = some (rngL a c (rngN a b c)) := rfl
theorem items_ref {H : Hp} {i xs} (h : H.get i = some (.list xs)) : items H (.ref i) = some xs := by simp only [items, h]
@[simp] theorem asList_lst {H xs} : asList H (.lst xs) = some xs := rfl
theorem asList_ref {H : Hp} {i xs} (h : H.get i = some (.list xs)) : asList H (.ref i) = some xs := by simp only [asList, h]
@[simp] theorem binV_add {H a b} : binV H .add (.int a) (.int b) = some (.val (.int (a + b))) := rfl
@[simp] theorem binV_add_lst {H a b} : binV H .add (.lst a) (.lst b) = some (.newList (a ++ b)) := rfl
@[simp] theorem binV_sub {H a b} : binV H .sub (.int a) (.int b) = some (.val (.int (a - b))) := rfl
theorem binV_mul {H a b} (h : a.natAbs < 4611686018427387904 ∨ b.natAbs < 4611686018427387904) : binV H .mul (.int a) (.int b) = some (.val (.int (a * b))) := by simp only [binV, intV]; rw [if_pos h]
theorem binV_mod {H a b} (h : b ≠ 0) : binV H .mod (.int a) (.int b) = some (.val (.int (Int.fmod a b))) := by simp only [binV, intV]; rw [if_neg h]
theorem binV_fdiv {H a b} (h : ¬ (b = 0 ∨ 1073741824 ≤ b.natAbs)) : binV H .fdiv (.int a) (.int b) = some (.val (.int (Int.fdiv a b))) := by simp only [binV, intV]; rw [if_neg h]
theorem binV_pow {H a b} (h : 0 ≤ b ∧ b ≤ 64 ∧ 0 ≤ a ∧ a ≤ 16) : binV H .pow (.int a) (.int b) = some (.val (.int (a ^ b.toNat))) := by simp only [binV, intV]; rw [if_pos h]
@[simp] theorem idxV_lst {H xs i} : idxV H (.lst xs) (.int i) = (match pyIdx i xs.length with | some k => xs[k]? | none => none) := rfl
@[simp] theorem idxV_tup {H xs i} : idxV H (.tup xs) (.int i) = (match pyIdx i xs.length with | some k => xs[k]? | none => none) := rfl
theorem pyIdx_nat {k n : Nat} (h : k < n) : pyIdx (k : Int) n = some k := by unfold pyIdx; rw [if_pos (Int.natCast_nonneg k), if_pos (by omega)]; simp
theorem idx_nat {H xs} {k : Nat} {v : V} (h : xs[k]? = some v) : idxV H (.lst xs) (.int (k : Int)) = some v := by
  have := (List.getElem?_eq_some_iff.mp h).1
  rw [idxV_lst, pyIdx_nat this]; exact h
theorem idx_last {H} {xs : List V} {v : V} (h : xs.getLast? = some v) : idxV H (.lst xs) (.int (-1)) = some v := by
  have hl : 0 < xs.length := by cases xs <;> simp_all
  rw [idxV_lst]
  have : pyIdx (-1) xs.length = some (xs.length - 1) := by
    unfold pyIdx
    rw [if_neg (by decide), if_pos (by omega)]
    congr 1; omega
  rw [this]
  rw [← h, List.getLast?_eq_getElem?]
@[simp] theorem optInt_none : optInt none = some none := rfl
@[simp] theorem optInt_int {i} : optInt (some (.int i)) = some (some i) := rfl
theorem slV_lst {H xs lo hi} (h1 : notNeg lo = true) (h2 : notNeg hi = true) : slV H (.lst xs) lo hi = some (.newList (slL xs lo hi)) := by simp only [slV, asList]; rw [h1, h2]; rfl
@[simp] theorem slV_to {H xs} {a : Nat} : slV H (.lst xs) none (some (a : Int)) = some (.newList (xs.take a)) := by
  rw [slV_lst rfl (by simp [notNeg])]; simp [slL]
@[simp] theorem slV_from {H xs} {a : Nat} : slV H (.lst xs) (some (a : Int)) none = some (.newList (xs.drop a)) := by
  rw [slV_lst (by simp [notNeg]) rfl]; simp [slL]
@[simp] theorem slV_from1 {H xs} {a : Nat} : slV H (.lst xs) (some ((a : Int) + 1)) none = some (.newList (xs.drop (a + 1))) := by
  rw [show ((a : Int) + 1) = ((a + 1 : Nat) : Int) by omega, slV_from]
@[simp] theorem truth_bool {H b} : truth H (.bool b) = some b := rfl
@[simp] theorem Hp.get_set {H : Hp} {i j c} : (H.set i c).get j = if j = i then some c else H.get j := rfl
@[simp] theorem Hp.get_new {H : Hp} {j c} : (H.new c).get j = if j = H.next then some c else H.get j := rfl
@[simp] theorem Hp.get_del {H : Hp} {i j} : (H.del i).get j = if j = i then none else H.get j := rfl
@[simp] theorem Hp.next_set {H : Hp} {i c} : (H.set i c).next = H.next := rfl
@[simp] theorem Hp.next_new {H : Hp} {c} : (H.new c).next = H.next + 1 := rfl
@[simp] theorem Hp.next_del {H : Hp} {i} : (H.del i).next = H.next := rfl
theorem methL_append {P : Prog} {σ i v xs Q} : methL P σ i P.nAppend [v] xs Q = (xs.length < SZ ∧ Q .none (σ.setH (σ.H.set i (.list (xs ++ [v]))))) := by simp [methL]
end Mine
end

section
namespace Mine
open PySem (Str)
noncomputable def s_x : Str := Str.ofString "012"
noncomputable def s_x2 : Str := Str.ofString "1"
noncomputable def F_whole : Fn := ⟨[16], (.cons (.ret (.some (.and (.cons (.call true (.glob 42) (.cons (.loc 16) (.cons (.glob 43) .nil))) (.cons (.not (.call true (.glob 42) (.cons (.loc 16) (.cons (.glob 47) .nil)))) .nil)))))
  .nil)⟩
noncomputable def F_enough : Fn := ⟨[17], (.cons (.ret (.some (.bin true .add (.bin true .fdiv (.call true (.glob 46) (.cons (.loc 17) .nil)) (.cst (.int 2))) (.cst (.int 1)))))
  .nil)⟩
noncomputable def L_is_list_1 : PSs := (.cons (.ite (.or (.cons (.not (.e (.call true (.glob 5) (.cons (.loc 20) .nil)))) (.cons (.e (.cmp .le (.loc 20) (.loc 19))) (.cons (.e (.cmp .ge (.loc 20) (.loc 18))) .nil)))) (.cons (.ret (.some (.cst (.bool false))))
  .nil) .nil)
  (.cons (.assign (.loc 19) (.loc 20))
  .nil))
noncomputable def F_is_list : Fn := ⟨[16, 18], (.cons (.ite (.or (.cons (.not (.e (.call true (.glob 42) (.cons (.loc 16) (.cons (.glob 41) .nil))))) (.cons (.e (.cmp .eq (.call true (.glob 46) (.cons (.loc 16) .nil)) (.cst (.int 0)))) .nil))) (.cons (.ret (.some (.cst (.bool false))))
  .nil) .nil)
  (.cons (.assign (.loc 19) (.neg (.cst (.int 1))))
  (.cons (.loop [20] (.loc 16) L_is_list_1)
  (.cons (.ret (.some (.cst (.bool true))))
  .nil))))⟩
noncomputable def L_longest_1 : PSs := (.cons (.ite (.e (.cmp .gt (.call true (.glob 46) (.cons (.loc 23) .nil)) (.call true (.glob 46) (.cons (.loc 22) .nil)))) (.cons (.assign (.loc 22) (.loc 23))
  .nil) .nil)
  .nil)
noncomputable def F_longest : Fn := ⟨[21], (.cons (.assign (.loc 22) (.list true .nil))
  (.cons (.loop [23] (.loc 21) L_longest_1)
  (.cons (.ret (.some (.call false (.glob 41) (.cons (.loc 22) .nil))))
  .nil)))⟩
noncomputable def F__law_draw : Fn := ⟨[24, 25], (.cons (.ret (.some (.ite (.e (.cmp .gt (.call true (.glob 46) (.cons (.loc 24) .nil)) (.loc 25))) (.idx (.loc 24) (.loc 25)) (.cst (.int 0)))))
  .nil)⟩
noncomputable def F__law_is_number : Fn := ⟨[26], (.cons (.ite (.or (.cons (.e (.cmp .is (.loc 26) (.cst (.bool true)))) (.cons (.e (.cmp .is (.loc 26) (.cst (.bool false)))) .nil))) (.cons (.ret (.some (.cst (.bool false))))
  .nil) .nil)
  (.cons (.ret (.some (.call true (.glob 42) (.cons (.loc 26) (.cons (.glob 43) .nil)))))
  .nil))⟩
noncomputable def L__law_hands_1 : PSs := (.cons (.ite (.e (.cmp .eq (.bin true .mod (.loc 27) (.cst (.int 2))) (.cst (.int 1)))) (.cons (.expr (.meth true (.loc 26) 0 (.cons (.loc 29) .nil)))
  .nil) .nil)
  (.cons (.assign (.loc 27) (.bin true .fdiv (.loc 27) (.cst (.int 2))))
  .nil))
noncomputable def F__law_hands : Fn := ⟨[27, 28], (.cons (.assign (.loc 26) (.list false .nil))
  (.cons (.loop [29] (.call true (.glob 44) (.cons (.loc 28) .nil)) L__law_hands_1)
  (.cons (.ret (.some (.loc 26)))
  .nil)))⟩
noncomputable def F__law_thing : Fn := ⟨[24, 30], (.cons (.assign (.loc 31) (.bin true .mod (.call true (.glob 9) (.cons (.loc 24) (.cons (.cst (.int 1)) .nil))) (.cst (.int 9))))
  (.cons (.assign (.loc 32) (.bin true .mod (.call true (.glob 9) (.cons (.loc 24) (.cons (.cst (.int 2)) .nil))) (.call true (.glob 46) (.cons (.loc 30) .nil))))
  (.cons (.ite (.e (.cmp .eq (.loc 31) (.cst (.int 1)))) (.cons (.ret (.some (.bin true .add (.bin true .add (.sl true (.loc 30) .none (.some (.loc 32))) (.list true (.cons (.idx (.loc 30) (.neg (.cst (.int 1)))) .nil))) (.sl true (.loc 30) (.some (.loc 32)) .none))))
  .nil) .nil)
  (.cons (.ite (.e (.cmp .eq (.loc 31) (.cst (.int 2)))) (.cons (.assign (.loc 45) (.idx (.list true (.cons (.neg (.cst (.int 1))) (.cons (.cst (.int 9)) (.cons (.bin true .pow (.cst (.int 10)) (.cst (.int 20))) (.cons (.cst (.bool true)) (.cons (.cst (.str s_x2)) (.cons (.cst .none) (.cons (.tup (.cons (.cst (.int 1)) (.cons (.cst (.int 2)) .nil))) (.cons (.cst (.bool false)) .nil))))))))) (.bin true .mod (.call true (.glob 9) (.cons (.loc 24) (.cons (.cst (.int 3)) .nil))) (.cst (.int 8)))))
  (.cons (.ret (.some (.bin true .add (.bin true .add (.sl true (.loc 30) .none (.some (.loc 32))) (.list true (.cons (.loc 45) .nil))) (.sl true (.loc 30) (.some (.bin true .add (.loc 32) (.cst (.int 1)))) .none))))
  .nil)) .nil)
  (.cons (.ite (.e (.cmp .eq (.loc 31) (.cst (.int 3)))) (.cons (.ret (.some (.idx (.list true (.cons (.call true (.glob 48) (.cons (.loc 30) .nil)) (.cons (.list true .nil) (.cons (.cst .none) (.cons (.cst (.int 3)) (.cons (.cst (.str s_x)) (.cons (.cst (.bool true)) .nil))))))) (.bin true .mod (.call true (.glob 9) (.cons (.loc 24) (.cons (.cst (.int 3)) .nil))) (.cst (.int 6))))))
  .nil) .nil)
  (.cons (.ite (.e (.cmp .eq (.loc 31) (.cst (.int 4)))) (.cons (.ret (.some (.rev true (.loc 30))))
  .nil) .nil)
  (.cons (.ret (.some (.loc 30)))
  .nil)))))))⟩
noncomputable def L__law_due_1 : PSs := (.cons (.ite (.or (.cons (.not (.e (.call true (.glob 10) (.cons (.idx (.loc 33) (.loc 25)) .nil)))) (.cons (.e (.cmp .lt (.idx (.loc 33) (.loc 25)) (.cst (.int 0)))) (.cons (.e (.cmp .ge (.idx (.loc 33) (.loc 25)) (.loc 28))) .nil)))) (.cons (.ret (.some (.cst (.bool false))))
  .nil) .nil)
  (.cons (.ite (.and (.cons (.e (.cmp .gt (.loc 25) (.cst (.int 0)))) (.cons (.e (.cmp .le (.idx (.loc 33) (.loc 25)) (.idx (.loc 33) (.bin true .sub (.loc 25) (.cst (.int 1)))))) .nil))) (.cons (.ret (.some (.cst (.bool false))))
  .nil) .nil)
  .nil))
noncomputable def F__law_due : Fn := ⟨[33, 28], (.cons (.ite (.or (.cons (.not (.e (.call true (.glob 42) (.cons (.loc 33) (.cons (.glob 41) .nil))))) (.cons (.e (.cmp .eq (.loc 33) (.list true .nil))) .nil))) (.cons (.ret (.some (.cst (.bool false))))
  .nil) .nil)
  (.cons (.loop [25] (.call true (.glob 44) (.cons (.call true (.glob 46) (.cons (.loc 33) .nil)) .nil)) L__law_due_1)
  (.cons (.ret (.some (.cst (.bool true))))
  .nil)))⟩
noncomputable def L_law_1 : PSs := (.cons (.ite (.e (.cmp .gt (.call true (.glob 46) (.cons (.loc 38) .nil)) (.call true (.glob 46) (.cons (.loc 37) .nil)))) (.cons (.assign (.loc 37) (.loc 38))
  .nil) .nil)
  .nil)
noncomputable def L_law_2 : PSs := (.cons (.expr (.meth true (.loc 36) 0 (.cons (.comp true (.bin true .add (.loc 25) (.loc 49)) [49] (.call true (.glob 44) (.cons (.bin true .mod (.call true (.glob 9) (.cons (.loc 24) (.cons (.bin true .add (.cst (.int 6)) (.loc 25)) .nil))) (.cst (.int 7))) .nil)) .none) .nil)))
  .nil)
noncomputable def F_law : Fn := ⟨[24], (.cons (.assign (.loc 30) (.call true (.glob 11) (.cons (.bin true .add (.cst (.int 1)) (.bin true .mod (.call true (.glob 9) (.cons (.loc 24) (.cons (.cst (.int 0)) .nil))) (.cst (.int 511)))) (.cons (.cst (.int 9)) .nil))))
  (.cons (.assign (.loc 34) (.call true (.glob 6) (.cons (.call true (.glob 41) (.cons (.loc 30) .nil)) .nil)))
  (.cons (.ite (.or (.cons (.not (.e (.call true (.glob 10) (.cons (.loc 34) .nil)))) (.cons (.not (.e (.cmp .gt (.bin true .mul (.cst (.int 2)) (.loc 34)) (.call true (.glob 46) (.cons (.loc 30) .nil))))) (.cons (.e (.cmp .gt (.bin true .sub (.bin true .mul (.cst (.int 2)) (.loc 34)) (.cst (.int 2))) (.call true (.glob 46) (.cons (.loc 30) .nil)))) .nil)))) (.cons (.ret (.some (.cst (.bool false))))
  .nil) .nil)
  (.cons (.assign (.loc 33) (.call true (.glob 12) (.cons (.loc 24) (.cons (.loc 30) .nil))))
  (.cons (.assign (.loc 28) (.bin true .add (.cst (.int 1)) (.bin true .mod (.call true (.glob 9) (.cons (.loc 24) (.cons (.cst (.int 4)) .nil))) (.cst (.int 9)))))
  (.cons (.assign (.loc 35) (.ite (.e (.call true (.glob 42) (.cons (.loc 33) (.cons (.glob 41) .nil)))) (.call true (.glob 41) (.cons (.loc 33) .nil)) (.loc 33)))
  (.cons (.assign (.loc 26) (.call true (.glob 7) (.cons (.loc 33) (.cons (.loc 28) .nil))))
  (.cons (.ite (.or (.cons (.not (.e (.call true (.glob 42) (.cons (.loc 26) (.cons (.glob 47) .nil))))) (.cons (.e (.cmp .ne (.loc 26) (.call true (.glob 13) (.cons (.loc 33) (.cons (.loc 28) .nil))))) (.cons (.e (.cmp .ne (.loc 33) (.loc 35))) .nil)))) (.cons (.ret (.some (.cst (.bool false))))
  .nil) .nil)
  (.cons (.assign (.loc 36) (.list false .nil))
  (.cons (.loop [25] (.call true (.glob 44) (.cons (.bin true .mod (.call true (.glob 9) (.cons (.loc 24) (.cons (.cst (.int 5)) .nil))) (.cst (.int 6))) .nil)) L_law_2)
  (.cons (.assign (.loc 37) (.list true .nil))
  (.cons (.loop [38] (.loc 36) L_law_1)
  (.cons (.assign (.loc 39) (.comp true (.call true (.glob 41) (.cons (.loc 38) .nil)) [38] (.loc 36) .none))
  (.cons (.assign (.loc 40) (.call false (.glob 8) (.cons (.loc 39) .nil)))
  (.cons (.ite (.or (.cons (.not (.e (.call true (.glob 42) (.cons (.loc 40) (.cons (.glob 41) .nil))))) (.cons (.e (.cmp .ne (.loc 40) (.loc 37))) (.cons (.e (.cmp .ne (.loc 39) (.loc 36))) .nil)))) (.cons (.ret (.some (.cst (.bool false))))
  .nil) .nil)
  (.cons (.expr (.meth true (.loc 40) 0 (.cons (.cst (.int 9)) .nil)))
  (.cons (.ret (.some (.cmp .eq (.loc 39) (.loc 36))))
  .nil)))))))))))))))))⟩
noncomputable def tb : Tb where
  nms := [(0, "append"), (1, "pop"), (2, "extend"), (3, "get"), (4, "setdefault"), (5, "whole"), (6, "enough"), (7, "is_list"), (8, "longest"), (9, "_law_draw"), (10, "_law_is_number"), (11, "_law_hands"), (12, "_law_thing"), (13, "_law_due"), (14, "law"), (16, "thing"), (17, "members"), (18, "many"), (19, "ahead"), (20, "hand"), (21, "rows"), (22, "found"), (23, "row"), (24, "_law_script"), (25, "_law_k"), (26, "_law_found"), (27, "_law_bits"), (28, "_law_many"), (29, "_law_hand"), (30, "_law_hands_here"), (31, "_law_way"), (32, "_law_at"), (33, "_law_thing_here"), (34, "_law_count"), (35, "_law_kept"), (36, "_law_rows"), (37, "_law_due_here"), (38, "_law_row"), (39, "_law_handed"), (40, "_law_made"), (41, "list"), (42, "isinstance"), (43, "int"), (44, "range"), (45, "_law_odd"), (46, "len"), (47, "bool"), (48, "tuple"), (49, "_law_j")].map fun x => (x.1, Str.ofString x.2)
  fns := [(5, Str.ofString "whole", F_whole), (6, Str.ofString "enough", F_enough), (7, Str.ofString "is_list", F_is_list), (8, Str.ofString "longest", F_longest), (9, Str.ofString "_law_draw", F__law_draw), (10, Str.ofString "_law_is_number", F__law_is_number), (11, Str.ofString "_law_hands", F__law_hands), (12, Str.ofString "_law_thing", F__law_thing), (13, Str.ofString "_law_due", F__law_due), (14, Str.ofString "law", F_law)]
  globs := [(5, .fn 5), (6, .fn 6), (7, .fn 7), (8, .fn 8), (9, .fn 9), (10, .fn 10), (11, .fn 11), (12, .fn 12), (13, .fn 13), (14, .fn 14), (43, .bt .int), (47, .bt .bool), (41, .bt .list), (48, .bt .tuple), (44, .bt .range), (46, .bt .len), (42, .bt .isinstance)]
  nAppend := 0
  nPop := 1
  nExtend := 2
  nGet := 3
  nSetdefault := 4
@[simp] theorem gl_5 : tb.P.glob 5 = some (.fn 5) := rfl
@[simp] theorem gl_6 : tb.P.glob 6 = some (.fn 6) := rfl
@[simp] theorem gl_7 : tb.P.glob 7 = some (.fn 7) := rfl
@[simp] theorem gl_8 : tb.P.glob 8 = some (.fn 8) := rfl
@[simp] theorem gl_9 : tb.P.glob 9 = some (.fn 9) := rfl
@[simp] theorem gl_10 : tb.P.glob 10 = some (.fn 10) := rfl
@[simp] theorem gl_11 : tb.P.glob 11 = some (.fn 11) := rfl
@[simp] theorem gl_12 : tb.P.glob 12 = some (.fn 12) := rfl
@[simp] theorem gl_13 : tb.P.glob 13 = some (.fn 13) := rfl
@[simp] theorem gl_14 : tb.P.glob 14 = some (.fn 14) := rfl
@[simp] theorem gl_43 : tb.P.glob 43 = some (.bt .int) := rfl
@[simp] theorem gl_47 : tb.P.glob 47 = some (.bt .bool) := rfl
@[simp] theorem gl_41 : tb.P.glob 41 = some (.bt .list) := rfl
@[simp] theorem gl_48 : tb.P.glob 48 = some (.bt .tuple) := rfl
@[simp] theorem gl_44 : tb.P.glob 44 = some (.bt .range) := rfl
@[simp] theorem gl_46 : tb.P.glob 46 = some (.bt .len) := rfl
@[simp] theorem gl_42 : tb.P.glob 42 = some (.bt .isinstance) := rfl
theorem fn_whole : tb.P.fn 5 = some F_whole := rfl
theorem fn_enough : tb.P.fn 6 = some F_enough := rfl
theorem fn_is_list : tb.P.fn 7 = some F_is_list := rfl
theorem fn_longest : tb.P.fn 8 = some F_longest := rfl
theorem fn__law_draw : tb.P.fn 9 = some F__law_draw := rfl
theorem fn__law_is_number : tb.P.fn 10 = some F__law_is_number := rfl
theorem fn__law_hands : tb.P.fn 11 = some F__law_hands := rfl
theorem fn__law_thing : tb.P.fn 12 = some F__law_thing := rfl
theorem fn__law_due : tb.P.fn 13 = some F__law_due := rfl
theorem fn_law : tb.P.fn 14 = some F_law := rfl

end Mine
end

section
namespace Mine
open PySem (Str)

noncomputable def dr (is : List Int) (k : Nat) : Int := is.getD k 0

theorem draw_ok (n : Nat) (is : List Int) (k : Nat) (H : Hp) (Q E) (h : Q (.int (dr is k)) H) : CW tb.P (n + 1) 9 [.lst (is.map .int), .int k] H Q E := by
  rw [CW_succ, fn__law_draw]
  simp [F__law_draw]
  by_cases c : k < is.length
  · have e : (is.map V.int)[k]? = some (.int (dr is k)) := by simp [dr, c]
    simp [c, pyIdx_nat, e]
    simpa [dr, c] using h
  · simp [c]
    simpa [dr, c] using h

noncomputable def isN : V → Bool
  | .int _ => true
  | _ => false
/-- a thing that the law may hold -/
noncomputable def smp : V → Bool
  | .none | .bool _ | .int _ | .str _ => true
  | .tup xs => xs.all isN
  | _ => false
theorem isnum_ok (n : Nat) (v : V) (H : Hp) (Q E) (hv : smp v = true) (h : Q (.bool (isN v)) H) : CW tb.P (n + 1) 10 [v] H Q E := by
  rw [CW_succ, fn__law_is_number]
  cases v with
  | bool b => cases b <;> simpa [F__law_is_number, isSame, solid, isB, isNone, isN] using h
  | none => simpa [F__law_is_number, isSame, solid, isB, isNone, isN] using h
  | int i => simpa [F__law_is_number, isSame, solid, isB, isNone, isN] using h
  | str s => simpa [F__law_is_number, isSame, solid, isB, isNone, isN] using h
  | tup xs => simpa [F__law_is_number, isSame, solid, isB, isNone, isN] using h
  | _ => cases hv
theorem whole_ok (n : Nat) (v : V) (H : Hp) (Q E) (hv : smp v = true) (h : Q (.bool (isN v)) H) : CW tb.P (n + 1) 5 [v] H Q E := by
  rw [CW_succ, fn_whole]
  cases v with
  | bool b => simpa [F_whole, isN] using h
  | none => simpa [F_whole, isN] using h
  | int i => simpa [F_whole, isN] using h
  | str s => simpa [F_whole, isN] using h
  | tup xs => simpa [F_whole, isN] using h
  | _ => cases hv
theorem enough_ok (n : Nat) (xs : List V) (H : Hp) (Q E) (h : Q (.int (Int.fdiv xs.length 2 + 1)) H) : CW tb.P (n + 1) 6 [.lst xs] H Q E := by
  rw [CW_succ, fn_enough]
  simp [F_enough]
  rw [binV_fdiv (by decide)]
  simpa using h

noncomputable def handsF : Nat → Int → Int → List Int
  | 0, _, _ => []
  | n + 1, b, k => if Int.fmod b 2 = 1 then k :: handsF n (Int.fdiv b 2) (k + 1) else handsF n (Int.fdiv b 2) (k + 1)
theorem handsF_len : ∀ n b k, (handsF n b k).length ≤ n
  | 0, _, _ => Nat.le_refl _
  | n + 1, b, k => by
    unfold handsF
    have := handsF_len n (Int.fdiv b 2) (k + 1)
    split <;> simp <;> omega
theorem handsF_ne : ∀ (n : Nat) (b k : Int), 0 < b → b < 2 ^ n → handsF n b k ≠ []
  | 0, b, k, h, h' => by simp at h'; omega
  | n + 1, b, k, h, h' => by
    unfold handsF
    split
    · simp
    · rename_i hm
      have e : Int.fmod b 2 = b % 2 := Int.fmod_eq_emod_of_nonneg b (by decide)
      have e2 : Int.fdiv b 2 = b / 2 := Int.fdiv_eq_ediv_of_nonneg b (by decide)
      rw [e] at hm; rw [e2]
      refine handsF_ne n (b / 2) (k + 1) (by omega) ?_
      rw [Int.pow_succ] at h'
      omega

theorem hands_loop (n : Nat) (all : List V) (v : V) (Q E) (i : Nat) : ∀ (m : Nat) (b k : Int) (acc : List Int) (σ : St), σ.loc 26 = some (.ref i) → σ.loc 27 = some (.int b) → σ.H.get i = some (.list (acc.map .int)) → acc.length + m ≤ SZ → (∀ H, still v all H) →
    (∀ σ', σ'.loc 26 = some (.ref i) → σ'.H.get i = some (.list ((acc ++ handsF m b k).map .int)) → σ'.H.next = σ.H.next → (∀ j, j ≠ i → σ'.H.get j = σ.H.get j) → Q .next σ') →
    loopGo (fun v σ₂ k => bindT [29] v σ₂ fun σ₃ => wpSs tb.P (CW tb.P n) L__law_hands_1 σ₃ k E) (still v all) (rngL k 1 m) σ Q
  | 0, b, k, acc, σ, h1, h2, h3, hz, hs, h => by
    rw [show rngL k 1 0 = [] from rfl, loopGo_nil]
    exact ⟨hs _, h σ h1 (by simpa [handsF] using h3) rfl fun _ _ => rfl⟩
  | m + 1, b, k, acc, σ, h1, h2, h3, hz, hs, h => by
    rw [show rngL k 1 (m + 1) = .int k :: rngL (k + 1) 1 m from rfl]
    refine loop_step (hs _) fun kk kn kb kr => ?_
    simp [L__law_hands_1, h2, binV_mod, binV_fdiv, h1, h3]
    by_cases hc : Int.fmod b 2 = 1
    · simp only [hc, decide_true]
      refine ⟨.inl rfl, ?_⟩
      rw [show (0 : Nat) = tb.P.nAppend from rfl, methL_append]
      refine ⟨by simp; omega, ?_⟩
      simp [h2, binV_fdiv]
      refine kn _ ?_
      refine hands_loop n all v Q E i m (Int.fdiv b 2) (k + 1) (acc ++ [k]) _ (by simp [h1]) (by simp) (by simp) (by simp; omega) hs fun σ' q1 q2 q3 q4 => h σ' q1 ?_ ?_ ?_
      · rw [q2]; simp [handsF, hc]
      · simpa using q3
      · intro j hj; rw [q4 j hj]; simp [hj]
    · simp only [hc, decide_false]
      refine kn _ ?_
      refine hands_loop n all v Q E i m (Int.fdiv b 2) (k + 1) acc _ (by simp [h1]) (by simp) (by simpa using h3) (by omega) hs fun σ' q1 q2 q3 q4 => h σ' q1 ?_ ?_ ?_
      · rw [q2]; simp [handsF, hc]
      · simpa using q3
      · intro j hj; rw [q4 j hj]; simp
theorem hands_ok (n : Nat) (b : Int) (m : Nat) (hm : m ≤ SZ) (H : Hp) (Q E) (h : ∀ H' : Hp, H'.get H.next = some (.list ((handsF m b 0).map .int)) → H'.next = H.next + 1 → (∀ j, j ≠ H.next → H'.get j = H.get j) → Q (.ref H.next) H') : CW tb.P (n + 1) 11 [.int b, .int m] H Q E := by
  rw [CW_succ, fn__law_hands]
  simp [F__law_hands, hm]
  have hr : rngN 0 (m : Int) 1 = m := by simp [rngN]
  rw [hr]
  refine hands_loop n _ _ _ _ H.next m b 0 [] _ (by simp) (by simp) (by simp) (by simpa using hm) (fun H => by simp [still, hr]) fun σ' q1 q2 q3 q4 => ?_
  simp [q1]
  refine h σ'.H (by simpa using q2) (by simpa using q3) fun j hj => ?_
  rw [q4 j hj]; simp [hj]

/-- rising numbers, above a and below m -/
noncomputable def ris (a m : Int) : List V → Bool
  | [] => true
  | .int x :: r => decide (a < x) && decide (x < m) && ris x m r
  | _ => false
noncomputable def isl (m : Int) : V → Bool
  | .lst xs => !xs.isEmpty && ris (-1) m xs
  | _ => false
noncomputable def thingOk (v : V) : Prop := (∃ xs : List V, v = .lst xs ∧ xs.all smp = true ∧ xs.length ≤ 100) ∨ smp v = true

theorem islist_loop (n : Nat) (m : Int) (all : List V) (Q E) : ∀ (xs : List V) (σ : St) (a : Int), xs.all smp = true → σ.loc 19 = some (.int a) → σ.loc 18 = some (.int m) →
   (∀ σ', σ'.H = σ.H → ris a m xs = true → Q .next σ') → (∀ σ', σ'.H = σ.H → ris a m xs = false → Q (.ret (.bool false)) σ') →
  loopGo (fun v σ₂ k => bindT [20] v σ₂ fun σ₃ => wpSs tb.P (CW tb.P (n+1)) L_is_list_1 σ₃ k E) (still (.lst all) all) xs σ Q
  | [], σ, a, _, h1, h2, h3, h4 => by rw [loopGo_nil]; exact ⟨rfl, h3 _ rfl rfl⟩
  | x :: r, σ, a, hs, h1, h2, h3, h4 => by
    simp only [List.all_cons, Bool.and_eq_true] at hs
    refine loop_step rfl fun kk kn kb kr => ?_
    simp [L_is_list_1]
    refine whole_ok n x _ _ _ hs.1 ?_
    cases x with
    | int x =>
      simp [isN, h1, h2]
      by_cases c1 : x ≤ a
      · simp [c1]; refine kr _ _ (h4 _ rfl ?_); simp [ris]; omega
      by_cases c2 : m ≤ x
      · simp [c1, c2]; refine kr _ _ (h4 _ rfl ?_); simp [ris]; omega
      simp [c1, c2]
      refine kn _ ?_
      refine islist_loop n m all Q E r _ x hs.2 (by simp) (by simp [h2]) ?_ ?_
      · intro σ' e hr; apply h3 _ (by simpa using e); simp [ris, hr]; omega
      · intro σ' e hr; apply h4 _ (by simpa using e); simp [ris, hr]
    | _ => simp [isN]; exact kr _ _ (h4 _ rfl rfl)
theorem islist_ok (n : Nat) (v : V) (m : Int) (H : Hp) (Q E) (hv : thingOk v) (h : Q (.bool (isl m v)) H) : CW tb.P (n + 2) 7 [v, .int m] H Q E := by
  rw [CW_succ, fn_is_list]
  rcases hv with ⟨xs, rfl, hs, _⟩ | hv
  · simp [F_is_list]
    by_cases e : xs = []
    · subst e; simpa [isl] using h
    · have e3 : xs.isEmpty = false := by cases xs <;> simp_all
      simp [e]
      refine islist_loop n m _ _ _ xs _ (-1) hs (by simp) (by simp) ?_ ?_
      · intro σ' hH hr; simp at hH; simp [hH]; simpa [isl, e3, hr] using h
      · intro σ' hH hr; simp at hH; simp [hH]; simpa [isl, e3, hr] using h
  · cases v with
    | lst xs => cases hv
    | bool b => simpa [F_is_list, isl] using h
    | none => simpa [F_is_list, isl] using h
    | int i => simpa [F_is_list, isl] using h
    | str s => simpa [F_is_list, isl] using h
    | tup xs => simpa [F_is_list, isl] using h
    | _ => cases hv

/-! data stays data -/
theorem deep_ints {H : Hp} {n : Nat} : ∀ {xs : List V}, xs.all isN = true → deepL (deepN H n) xs = some xs
  | [], _ => rfl
  | x :: r, h => by
    simp only [List.all_cons, Bool.and_eq_true] at h
    cases x with
    | int i => simp [deepL, deepN, deep_ints h.2]
    | _ => cases h.1
theorem deep_smp {H : Hp} {n : Nat} {v : V} (h : smp v = true) : deepN H (n + 1) v = some v := by
  cases v with
  | tup xs => simp [deepN, deep_ints (H := H) (n := n) h]
  | none => rfl
  | bool _ => rfl
  | int _ => rfl
  | str _ => rfl
  | _ => cases h
theorem deep_smps {H : Hp} {n : Nat} : ∀ {xs : List V}, xs.all smp = true → deepL (deepN H (n + 1)) xs = some xs
  | [], _ => rfl
  | x :: r, h => by
    simp only [List.all_cons, Bool.and_eq_true] at h
    simp [deepL, deep_smp h.1, deep_smps h.2]
theorem eq_ints : ∀ {xs : List V}, xs.all isN = true → eqDs xs xs = true
  | [], _ => rfl
  | x :: r, h => by
    simp only [List.all_cons, Bool.and_eq_true] at h
    cases x with
    | int i => simp [eqDs, eqD, eq_ints h.2]
    | _ => cases h.1
theorem eq_smp {v : V} (h : smp v = true) : eqD v v = true := by
  cases v with
  | tup xs => simp [eqD]; exact eq_ints h
  | none => rfl
  | bool _ => simp [eqD]
  | int _ => simp [eqD]
  | str _ => simp [eqD]
  | _ => cases h
theorem eq_smps : ∀ {xs : List V}, xs.all smp = true → eqDs xs xs = true
  | [], _ => rfl
  | x :: r, h => by
    simp only [List.all_cons, Bool.and_eq_true] at h
    simp [eqDs, eq_smp h.1, eq_smps h.2]
theorem deep_thing {H : Hp} {v : V} (h : thingOk v) : deep H v = some v := by
  rcases h with ⟨xs, rfl, hs, _⟩ | h
  · simp [deep, deepN, deep_smps (H := H) (n := 10) hs]
  · exact deep_smp h
theorem eq_thing {H : Hp} {v : V} (h : thingOk v) : eqV H v v = some true := by
  simp only [eqV, deep_thing h]
  rcases h with ⟨xs, rfl, hs, _⟩ | h
  · simp [eqD, eq_smps hs]
  · rw [eq_smp h]
theorem eq_empty {H : Hp} {xs : List V} (hs : xs.all smp = true) : eqV H (.lst xs) (.lst []) = some xs.isEmpty := by
  have : deep H (.lst xs) = some (.lst xs) := by simp [deep, deepN, deep_smps (H := H) (n := 10) hs]
  simp only [eqV, this, show deep H (.lst []) = some (.lst []) from rfl]
  cases xs <;> simp [eqD, eqDs]

theorem due_loop (n : Nat) (m : Int) (xs : List V) (hs : xs.all smp = true) (all : List V) (v : V) (hst : ∀ H, still v all H) (Q E) : ∀ (ys : List V) (k : Nat) (σ : St) (a : Int), xs.drop k = ys → σ.loc 33 = some (.lst xs) → σ.loc 28 = some (.int m) →
   ((k = 0 ∧ a = -1) ∨ (0 < k ∧ 0 ≤ a ∧ xs[k - 1]? = some (.int a))) →
   (∀ σ', σ'.H = σ.H → ris a m ys = true → Q .next σ') → (∀ σ', σ'.H = σ.H → ris a m ys = false → Q (.ret (.bool false)) σ') →
  loopGo (fun v σ₂ k => bindT [25] v σ₂ fun σ₃ => wpSs tb.P (CW tb.P (n+1)) L__law_due_1 σ₃ k E) (still v all) (rngL k 1 ys.length) σ Q
  | [], k, σ, a, hd, h1, h2, ha, h3, h4 => by
    show loopGo _ _ [] σ Q
    rw [loopGo_nil]; exact ⟨hst _, h3 _ rfl rfl⟩
  | y :: ys, k, σ, a, hd, h1, h2, ha, h3, h4 => by
    obtain ⟨hy, hd'⟩ := drop_cons hd
    have hsy : smp y = true := by rw [List.all_eq_true] at hs; exact hs y (List.mem_of_getElem? hy)
    have hlt : k < xs.length := (List.getElem?_eq_some_iff.mp hy).1
    show loopGo _ _ (.int k :: rngL (k + 1) 1 ys.length) σ Q
    refine loop_step (hst _) fun kk kn kb kr => ?_
    simp only [L__law_due_1, bindT_one, wpSs_cons, wpS_ite, wpT_or, wpAnyT_cons, wpT_not, wpT_e, wpE_call, wpE_glob, gl_10, need_some, wpEs_cons, wpEs_nil, wpE_idx, wpE_loc, put_loc, upd_at, h1]
    simp only [show (33 : Nat) = 25 ↔ False by decide, if_false, h1, need_some, if_true, idx_nat hy, callF_fn, put_H]
    refine isnum_ok n y _ _ _ hsy ?_
    cases y with
    | int x =>
      simp [isN, h1, h2, pyIdx_nat hlt, hy]
      by_cases c1 : x < 0
      · simp [c1]
        refine kr _ _ (h4 _ rfl ?_)
        simp [ris]; omega
      by_cases c2 : m ≤ x
      · simp [c1, c2]
        refine kr _ _ (h4 _ rfl ?_)
        simp [ris]; omega
      simp [c1, c2]
      have go : a < x → loopGo (fun v σ₂ k => bindT [25] v σ₂ fun σ₃ => wpSs tb.P (CW tb.P (n+1)) L__law_due_1 σ₃ k E) (still v all) (rngL (↑k + 1) 1 ys.length) (σ.put 25 (.int k)) Q := fun hax => by
        refine due_loop n m xs hs all v hst Q E ys (k + 1) (σ.put 25 (.int k)) x hd' (by simp [h1]) (by simp [h2]) (.inr ⟨by omega, by omega, by simpa using hy⟩) ?_ ?_
        · intro σ' e hr; exact h3 _ (by simpa using e) (by simp [ris, hr]; omega)
        · intro σ' e hr; exact h4 _ (by simpa using e) (by simp [ris, hr])
      rcases ha with ⟨rfl, rfl⟩ | ⟨hk, ha0, hpa⟩
      · simp
        exact kn _ (go (by omega))
      · have hk' : ((k : Int) - 1) = ((k - 1 : Nat) : Int) := by omega
        have hlt' : k - 1 < xs.length := by omega
        simp [hk, h1, hk', pyIdx_nat hlt', hpa]
        by_cases c3 : x ≤ a
        · simp [c3]
          refine kr _ _ (h4 _ rfl ?_)
          simp [ris]; omega
        · simp [c3]
          exact kn _ (go (by omega))
    | _ => simp [isN]; exact kr _ _ (h4 _ rfl rfl)
theorem due_ok (n : Nat) (v : V) (m : Int) (H : Hp) (Q E) (hv : thingOk v) (h : Q (.bool (isl m v)) H) : CW tb.P (n + 2) 13 [v, .int m] H Q E := by
  rw [CW_succ, fn__law_due]
  rcases hv with ⟨xs, rfl, hs, hlen⟩ | hv
  · simp [F__law_due, eq_empty hs, -gl_10]
    cases e : xs.isEmpty with
    | true => simpa [isl, e] using h
    | false =>
      have hz : xs.length ≤ SZ := by unfold SZ; omega
      simp [hz]
      have hr : rngN 0 (xs.length : Int) 1 = xs.length := by simp [rngN]
      rw [hr]
      refine due_loop n m xs hs _ _ (fun H => by simp [still, hr]) _ _ xs 0 _ (-1) rfl (by simp) (by simp) (.inl ⟨rfl, rfl⟩) ?_ ?_
      · intro σ' hH hr; simp at hH; simp [hH]; simpa [isl, e, hr] using h
      · intro σ' hH hr; simp at hH; simp [hH]; simpa [isl, e, hr] using h
  · cases v with
    | lst xs => cases hv
    | bool b => simpa [F__law_due, isl] using h
    | none => simpa [F__law_due, isl] using h
    | int i => simpa [F__law_due, isl] using h
    | str s => simpa [F__law_due, isl] using h
    | tup xs => simpa [F__law_due, isl] using h
    | _ => cases hv
end Mine
end

section
namespace Mine
open PySem (Str)

theorem fmod_nat (d : Int) (n : Nat) (h : 0 < n) : ∃ a : Nat, Int.fmod d n = a ∧ a < n := by
  have e : Int.fmod d n = d % n := Int.fmod_eq_emod_of_nonneg d (by omega)
  refine ⟨(d % n).toNat, ?_, ?_⟩
  · rw [e]; have := Int.emod_nonneg d (b := n) (by omega); omega
  · have := Int.emod_lt_of_pos d (b := n) (by omega); omega
theorem fmod_lit (d : Int) (n : Nat) (h : 0 < n) (m : Int) (e : m = n) : ∃ a : Nat, Int.fmod d m = a ∧ a < n := by subst e; exact fmod_nat d n h

theorem all_smp_ints (hs : List Int) : (hs.map V.int).all smp = true := by
  induction hs with
  | nil => rfl
  | cons x r ih => simp [smp]
theorem all_isN_ints (hs : List Int) : (hs.map V.int).all isN = true := by
  induction hs with
  | nil => rfl
  | cons x r ih => simp [isN]
theorem szS {k : Nat} (h : k ≤ 1000) : k ≤ SZ := by unfold SZ; omega

set_option maxHeartbeats 1000000
theorem thing_ok (n : Nat) (is hs : List Int) (hne : hs ≠ []) (hl : hs.length ≤ 9) (H : Hp) (Q E) (h : ∀ v, thingOk v → Q v H) : CW tb.P (n + 2) 12 [.lst (is.map .int), .lst (hs.map .int)] H Q E := by
  rw [CW_succ, fn__law_thing]
  have hpos : 0 < hs.length := by cases hs <;> simp_all
  have hn0 : (hs.length : Int) ≠ 0 := by omega
  obtain ⟨w, hw, hw9⟩ := fmod_lit (dr is 1) 9 (by decide) 9 rfl
  obtain ⟨a, ha, halt⟩ := fmod_nat (dr is 2) hs.length hpos
  simp only [F__law_thing, wpSs_cons, wpS_assign, wpE_bin, wpE_call, wpE_glob, gl_9, need_some, wpEs_cons, wpEs_nil, wpE_loc, wpE_cst, bindP_cons, bindP_nil, upd_at, callF_fn]
  simp
  refine draw_ok n is 1 _ _ _ ?_
  simp [binV_mod, hw]
  refine draw_ok n is 2 _ _ _ ?_
  have hb : binV H .mod (.int (dr is 2)) (.int hs.length) = some (.val (.int a)) := by rw [binV_mod hn0, ha]
  simp [hb]
  have hz9 : ∀ k : Nat, k ≤ 100 → k ≤ SZ := fun k hk => szS (by omega)
  have hat : (hs.map V.int)[a]? = some (.int (hs[a]'halt)) := by simp [halt]
  by_cases c1 : w = 1
  · subst c1
    simp
    have hlast : ∃ x, (hs.map V.int).getLast? = some (.int x) := by
      rw [List.getLast?_map]
      cases e : hs.getLast? with
      | none => simp at e; exact absurd e hne
      | some x => exact ⟨x, rfl⟩
    obtain ⟨x, hx⟩ := hlast
    have hix : idxV H (.lst (hs.map V.int)) (.int (-1)) = some (.int x) := idx_last hx
    rw [idxV_lst] at hix
    simp only [List.length_map] at hix
    refine ⟨hz9 _ (by omega), need_iff.mpr ⟨.int x, by simpa using hix, ?_⟩⟩
    have z := hz9 100 (by decide)
    refine ⟨by omega, by omega, by omega, by omega, h _ (.inl ⟨_, rfl, ?_, ?_⟩)⟩
    · rw [← List.map_take, ← List.map_drop, List.all_append, List.all_cons, all_smp_ints, all_smp_ints]; rfl
    · simp; omega
  have c1' : ¬ ((w : Int) = 1) := by omega
  simp only [c1', decide_false]
  by_cases c2 : w = 2
  · subst c2
    obtain ⟨o, ho, ho8⟩ := fmod_lit (dr is 3) 8 (by decide) 8 rfl
    simp [binV_pow]
    refine ⟨hz9 _ (by omega), hz9 _ (by omega), ?_⟩
    refine draw_ok n is 3 _ _ _ ?_
    simp [binV_mod, ho]
    have : ∃ x, (match pyIdx (o : Int) 8 with | some k => [V.int (-1), V.int 9, V.int 100000000000000000000, V.bool true, V.str s_x2, V.none, V.tup [V.int 1, V.int 2], V.bool false][k]? | none => none) = some x ∧ smp x = true := by
      match o, ho8 with
      | 0, _ => exact ⟨_, rfl, rfl⟩
      | 1, _ => exact ⟨_, rfl, rfl⟩
      | 2, _ => exact ⟨_, rfl, rfl⟩
      | 3, _ => exact ⟨_, rfl, rfl⟩
      | 4, _ => exact ⟨_, rfl, rfl⟩
      | 5, _ => exact ⟨_, rfl, rfl⟩
      | 6, _ => exact ⟨_, rfl, rfl⟩
      | 7, _ => exact ⟨_, rfl, rfl⟩
    obtain ⟨x, hx, hsx⟩ := this
    refine need_iff.mpr ⟨x, hx, ?_⟩
    have z := hz9 100 (by decide)
    refine ⟨by omega, by omega, by omega, by omega, by omega, h _ (.inl ⟨_, rfl, ?_, ?_⟩)⟩
    · rw [← List.map_take, ← List.map_drop, List.all_append, List.all_cons, all_smp_ints, all_smp_ints, hsx]; rfl
    · simp; omega
  have c2' : ¬ ((w : Int) = 2) := by omega
  simp [c2']
  by_cases c3 : w = 3
  · subst c3
    obtain ⟨o, ho, ho8⟩ := fmod_lit (dr is 3) 6 (by decide) 6 rfl
    simp
    refine ⟨hz9 _ (by omega), ?_⟩
    refine draw_ok n is 3 _ _ _ ?_
    simp [binV_mod, ho]
    have : ∃ x, (match pyIdx (o : Int) 6 with | some k => [V.tup (List.map V.int hs), V.lst [], V.none, V.int 3, V.str s_x, V.bool true][k]? | none => none) = some x ∧ thingOk x := by
      match o, ho8 with
      | 0, _ => exact ⟨_, rfl, .inr (all_isN_ints hs)⟩
      | 1, _ => exact ⟨_, rfl, .inl ⟨[], rfl, rfl, by simp⟩⟩
      | 2, _ => exact ⟨_, rfl, .inr rfl⟩
      | 3, _ => exact ⟨_, rfl, .inr rfl⟩
      | 4, _ => exact ⟨_, rfl, .inr rfl⟩
      | 5, _ => exact ⟨_, rfl, .inr rfl⟩
    obtain ⟨x, hx, hsx⟩ := this
    exact need_iff.mpr ⟨x, hx, h x hsx⟩
  have c3' : ¬ ((w : Int) = 3) := by omega
  simp [c3']
  by_cases c4 : w = 4
  · subst c4
    simp
    refine ⟨hz9 _ (by omega), h _ (.inl ⟨_, rfl, ?_, ?_⟩)⟩
    · simp [smp]
    · simp; omega
  have c4' : ¬ ((w : Int) = 4) := by omega
  simp [c4']
  exact h _ (.inl ⟨_, rfl, all_smp_ints hs, by simp; omega⟩)

/-! rows of numbers -/
noncomputable def enc (r : List Int) : V := .lst (r.map .int)
noncomputable def lng : List (List Int) → List Int → List Int
  | [], f => f
  | r :: rs, f => lng rs (if f.length < r.length then r else f)
theorem lng_len : ∀ (rs : List (List Int)) (f : List Int) (k : Nat), f.length ≤ k → (∀ r ∈ rs, r.length ≤ k) → (lng rs f).length ≤ k
  | [], f, k, h, _ => h
  | r :: rs, f, k, h, hr => by
    unfold lng
    refine lng_len rs _ k ?_ fun x hx => hr x (.tail _ hx)
    split
    · exact hr r (.head _)
    · exact h
theorem longest_loop (n : Nat) (all : List V) (v : V) (Q E) : ∀ (rs : List (List Int)) (f : List Int) (σ : St), σ.loc 22 = some (enc f) → still v all σ.H → (∀ σ', σ'.H = σ.H → σ'.loc 22 = some (enc (lng rs f)) → Q .next σ') →
    loopGo (fun v σ₂ k => bindT [23] v σ₂ fun σ₃ => wpSs tb.P (CW tb.P n) L_longest_1 σ₃ k E) (still v all) (rs.map enc) σ Q
  | [], f, σ, h1, hs, h => by rw [List.map_nil, loopGo_nil]; exact ⟨hs, h σ rfl h1⟩
  | r :: rs, f, σ, h1, hs, h => by
    rw [List.map_cons]
    refine loop_step hs fun kk kn kb kr => ?_
    simp [L_longest_1, h1, enc]
    by_cases c : f.length < r.length
    · simp [c]
      refine kn _ (longest_loop n all v Q E rs r _ (by simp [enc]) (by simpa using hs) fun σ' q1 q2 => h σ' (by simpa using q1) (by simpa [lng, c] using q2))
    · simp [c]
      refine kn _ (longest_loop n all v Q E rs f _ (by simp [h1]) (by simpa using hs) fun σ' q1 q2 => h σ' (by simpa using q1) (by simpa [lng, c] using q2))
theorem longest_ok (n : Nat) (rs : List (List Int)) (hr : ∀ r ∈ rs, r.length ≤ 100) (H : Hp) (Q E) (h : Q (.ref H.next) (H.new (.list ((lng rs []).map .int)))) : CW tb.P (n + 1) 8 [.lst (rs.map enc)] H Q E := by
  rw [CW_succ, fn_longest]
  simp [F_longest]
  refine longest_loop n _ _ _ _ rs [] _ (by simp [enc]) (by simp [still]) fun σ' q1 q2 => ?_
  have := lng_len rs [] 100 (by simp) hr
  simp [q2, enc]
  simp at q1
  rw [q1]
  exact ⟨szS (by omega), h⟩
theorem due_row_loop (n : Nat) (all : List V) (v : V) (Q E) : ∀ (rs : List (List Int)) (f : List Int) (σ : St), σ.loc 37 = some (enc f) → still v all σ.H → (∀ σ', σ'.H = σ.H → (∀ j, j ≠ 37 → j ≠ 38 → σ'.loc j = σ.loc j) → σ'.loc 37 = some (enc (lng rs f)) → Q .next σ') →
    loopGo (fun v σ₂ k => bindT [38] v σ₂ fun σ₃ => wpSs tb.P (CW tb.P n) L_law_1 σ₃ k E) (still v all) (rs.map enc) σ Q
  | [], f, σ, h1, hs, h => by rw [List.map_nil, loopGo_nil]; exact ⟨hs, h σ rfl (fun _ _ _ => rfl) h1⟩
  | r :: rs, f, σ, h1, hs, h => by
    rw [List.map_cons]
    refine loop_step hs fun kk kn kb kr => ?_
    simp [L_law_1, h1, enc]
    by_cases c : f.length < r.length
    · simp [c]
      refine kn _ (due_row_loop n all v Q E rs r _ (by simp [enc]) (by simpa using hs) fun σ' q1 q3 q2 => h σ' (by simpa using q1) (fun j hj hj' => by rw [q3 j hj hj']; simp [hj, hj']) (by simpa [lng, c] using q2))
    · simp [c]
      refine kn _ (due_row_loop n all v Q E rs f _ (by simp [h1]) (by simpa using hs) fun σ' q1 q3 q2 => h σ' (by simpa using q1) (fun j hj hj' => by rw [q3 j hj hj']; simp [hj']) (by simpa [lng, c] using q2))

noncomputable def rowI (k : Int) : Nat → Int → List Int
  | 0, _ => []
  | n + 1, j => (k + j) :: rowI k n (j + 1)
theorem rowI_len (k : Int) : ∀ n j, (rowI k n j).length = n
  | 0, _ => rfl
  | n + 1, j => by simp [rowI, rowI_len k n]
theorem row_comp (n : Nat) (v : V) (all : List V) (hst : ∀ H, still v all H) (k : Int) (Q : List V → St → Prop) : ∀ (c : Nat) (j : Int) (acc : List Int) (σ : St), σ.loc 25 = some (.int k) → acc.length + c ≤ 1000 →
    (∀ σ', σ'.H = σ.H → Q ((acc ++ rowI k c j).map .int) σ') →
    compGo (fun σ₂ k => wpC tb.P (CW tb.P n) noE .none σ₂ k) (fun σ₂ k => wpE tb.P (CW tb.P n) noE (.bin true .add (.loc 25) (.loc 49)) σ₂ k) [49] (still v all) (rngL j 1 c) (acc.map .int) σ Q
  | 0, j, acc, σ, h1, hz, h => by
    rw [show rngL j 1 0 = [] from rfl, compGo_nil]
    exact ⟨hst _, szS (by simp; omega), by simpa [rowI] using h σ rfl⟩
  | c + 1, j, acc, σ, h1, hz, h => by
    rw [show rngL j 1 (c + 1) = .int j :: rngL (j + 1) 1 c from rfl]
    refine comp_step (hst _) (by have := szS (k := acc.length + 1) (by omega); simp; omega) fun kk kf kn _ => ?_
    simp [h1]
    refine kn _ _ ?_
    have := row_comp n v all hst k Q c (j + 1) (acc ++ [k + j]) (σ.put 49 (.int j)) (by simp [h1]) (by simp; omega) fun σ' q => by
      have := h σ' (by simpa using q)
      simpa [rowI] using this
    simpa using this
theorem rows_loop (n : Nat) (is : List Int) (v : V) (all : List V) (hst : ∀ H, still v all H) (r : Nat) (Q E) : ∀ (m k : Nat) (rs : List (List Int)) (σ : St), σ.loc 36 = some (.ref r) → σ.loc 24 = some (.lst (is.map .int)) → σ.H.get r = some (.list (rs.map enc)) → rs.length + m ≤ 100 → (∀ x ∈ rs, x.length ≤ 6) →
    (∀ (σ' : St) (rs' : List (List Int)), σ'.loc 36 = some (.ref r) → σ'.H.get r = some (.list (rs'.map enc)) → rs'.length ≤ 100 → (∀ x ∈ rs', x.length ≤ 6) → σ'.H.next = σ.H.next → Q .next σ') →
    loopGo (fun v σ₂ k => bindT [25] v σ₂ fun σ₃ => wpSs tb.P (CW tb.P (n + 1)) L_law_2 σ₃ k E) (still v all) (rngL k 1 m) σ Q
  | 0, k, rs, σ, h1, h2, h3, hz, hl, h => by
    rw [show rngL k 1 0 = [] from rfl, loopGo_nil]
    exact ⟨hst _, h σ rs h1 h3 (by omega) hl rfl⟩
  | m + 1, k, rs, σ, h1, h2, h3, hz, hl, h => by
    rw [show rngL (k : Int) 1 (m + 1) = .int k :: rngL ((k + 1 : Nat) : Int) 1 m from by rw [Int.natCast_add]; rfl]
    refine loop_step (hst _) fun kk kn kb kr => ?_
    obtain ⟨c, hc, hc7⟩ := fmod_lit (dr is (6 + k)) 7 (by decide) 7 rfl
    have e6 : (6 + (k : Int)) = ((6 + k : Nat) : Int) := by omega
    simp only [L_law_2, bindT_one, wpSs_cons, wpSs_nil, wpS_expr, wpE_meth, wpE_loc, put_loc, upd_at, h1, h2, need_some, show ((36 : Nat) = 25) = False by simp, show ((24 : Nat) = 25) = False by simp, if_false, if_true, put_H, h3, wpEs_cons, wpEs_nil, wpE_comp, wpE_call, wpE_glob, gl_44, gl_9, wpE_bin, wpE_cst, binV_add, give_val, e6, callF_fn]
    refine ⟨.inl rfl, ?_⟩
    refine draw_ok n is (6 + k) _ _ _ ?_
    have hcz : c ≤ SZ := szS (by omega)
    simp [binV_mod, hc, hcz]
    have hr : rngN 0 (c : Int) 1 = c := by simp [rngN]
    rw [hr]
    refine row_comp (n + 1) _ _ (fun H => by simp [still, hr]) k _ c 0 [] _ (by simp [unbs]) (by simp; omega) fun σ' q => ?_
    simp at q
    simp [rowI_len, hcz, q, h3]
    rw [show (0 : Nat) = tb.P.nAppend from rfl, methL_append]
    refine ⟨by have := szS (k := 100) (by decide); simp; omega, ?_⟩
    refine kn _ (rows_loop n is v all hst r Q E m (k + 1) (rs ++ [rowI k c 0]) _ (by simp [h1]) (by simp [h2]) (by simp [enc]) (by simp; omega) (fun x hx => ?_) fun σ'' rs'' w1 w2 w3 w4 w5 => h σ'' rs'' w1 w2 w3 w4 (by simpa [q] using w5))
    rcases List.mem_append.mp hx with hx | hx
    · exact hl x hx
    · simp at hx; subst hx; rw [rowI_len]; omega
end Mine
end

section
namespace Mine
open PySem (Str)

theorem copy_comp (n : Nat) (v : V) (all : List V) (H : Hp) (hst : still v all H) (Q : List V → St → Prop) : ∀ (rs acc : List (List Int)) (σ : St), σ.H = H → acc.length + rs.length ≤ 100 → (∀ r ∈ rs, r.length ≤ 6) →
    (∀ σ', σ'.H = H → Q ((acc ++ rs).map enc) σ') →
    compGo (fun σ₂ k => wpC tb.P (CW tb.P n) noE .none σ₂ k) (fun σ₂ k => wpE tb.P (CW tb.P n) noE (.call true (.glob 41) (.cons (.loc 38) .nil)) σ₂ k) [38] (still v all) (rs.map enc) (acc.map enc) σ Q
  | [], acc, σ, e, hz, hr, h => by
    rw [List.map_nil, compGo_nil]
    exact ⟨e ▸ hst, szS (by simp at hz ⊢; omega), by simpa using h σ e⟩
  | r :: rs, acc, σ, e, hz, hr, h => by
    rw [List.map_cons]
    refine comp_step (e ▸ hst) (by have := szS (k := 101) (by decide); simp at hz ⊢; omega) fun kk kf kn _ => ?_
    have hl := hr r (.head _)
    simp [enc]
    refine ⟨szS (by omega), kn _ _ ?_⟩
    have := copy_comp n v all H hst Q rs (acc ++ [r]) (σ.put 38 (enc r)) (by simpa using e) (by simp at hz ⊢; omega) (fun x hx => hr x (.tail _ hx)) fun σ' q => by
      have := h σ' q
      simpa using this
    simpa [enc] using this

theorem deep_enc {H : Hp} {m : Nat} (r : List Int) : deepN H (m + 1) (enc r) = some (enc r) := by
  simp [enc, deepN, deep_ints (all_isN_ints r)]
theorem deep_encs {H : Hp} {m : Nat} : ∀ (rs : List (List Int)), deepL (deepN H (m + 1)) (rs.map enc) = some (rs.map enc)
  | [] => rfl
  | r :: rs => by simp [deepL, deep_enc, deep_encs rs]
theorem eq_encs : ∀ (rs : List (List Int)), eqDs (rs.map enc) (rs.map enc) = true
  | [] => rfl
  | r :: rs => by simp [eqDs, eq_encs rs, enc, eqD, eq_ints (all_isN_ints r)]
theorem eq_rows {H : Hp} {r : Nat} {rs : List (List Int)} (h : H.get r = some (.list (rs.map enc))) : eqV H (.lst (rs.map enc)) (.ref r) = some true := by
  simp [eqV, deep, deepN, h, deep_encs, eqD, eq_encs]
theorem eq_made {H : Hp} {r : Nat} {d : List Int} (h : H.get r = some (.list (d.map .int))) : eqV H (.ref r) (enc d) = some true := by
  have := deep_ints (H := H) (n := 11) (all_isN_ints d)
  simp [eqV, deep, deepN, h, enc, this, eqD, eq_ints (all_isN_ints d)]

theorem s7 (v : V) (m : Nat) (hv : thingOk v) (σ : St) (E : EP) (kk : Flow → St → Prop)
  (k33 : σ.loc 33 = some v)
  (k35 : σ.loc 35 = some v)
  (k28 : σ.loc 28 = some (.int (1 + m)))
  (k26 : σ.loc 26 = some (.bool (isl (1 + m) v))) (kn : kk .next (σ.setH σ.H)) : wpS tb.P (CW tb.P 3) (.ite (.or (.cons (.not (.e (.call true (.glob 42) (.cons (.loc 26) (.cons (.glob 47) .nil))))) (.cons (.e (.cmp .ne (.loc 26) (.call true (.glob 13) (.cons (.loc 33) (.cons (.loc 28) .nil))))) (.cons (.e (.cmp .ne (.loc 33) (.loc 35))) .nil)))) (.cons (.ret (.some (.cst (.bool false))))
  .nil) .nil) σ kk E := by
  simp only [wpS_ite, wpT_or, wpAnyT_cons, wpAnyT_nil, wpT_not, wpT_e, wpE_call, wpE_glob, gl_42, gl_47, gl_13, need_some, wpEs_cons, wpEs_nil, wpE_loc, k26, callF_bt, callB_isinstance, isInstV_bt, kind_bool, isi_bool, give_val, needB_bool, Bool.not_true, wpE_cmp, k33, k28, callF_fn]
  refine due_ok 1 v _ _ _ _ hv ?_
  have hee : ∀ (H : Hp) (b : Bool), eqV H (.bool b) (.bool b) = some true := fun H b => by cases b <;> rfl
  simp only [giveV_bool, cmpV_ne, hee, Bool.not_true, need_some, needB_bool, setH_loc, k33, k35, eq_thing hv, wpSs_nil]
  exact kn

set_option maxHeartbeats 2000000
theorem law_ok (is : List Int) (H : Hp) (E) : CW tb.P 4 14 [.lst (is.map .int)] H (fun v _ => v = .bool true) E := by
  rw [CW_succ, fn_law]
  simp only [need_some, F_law, bindP_cons, bindP_nil]
  obtain ⟨b, hb, hb5⟩ := fmod_lit (dr is 0) 511 (by decide) 511 rfl
  have hz9 : ∀ k : Nat, k ≤ 1000 → k ≤ SZ := fun k hk => szS hk
  -- the hands
  refine ss_step fun kk kn kr => ?_
  simp
  refine draw_ok 2 is 0 _ _ _ ?_
  simp [binV_mod, hb]
  refine hands_ok 2 _ 9 (hz9 _ (by decide)) _ _ _ fun H₁ q1 q2 q3 => ?_
  generalize hhs : handsF 9 (1 + (b : Int)) 0 = hs at q1
  have hne : hs ≠ [] := by rw [← hhs]; exact handsF_ne 9 _ _ (by omega) (by omega)
  have hlen : hs.length ≤ 9 := by rw [← hhs]; exact handsF_len _ _ _
  rw [giveV_ref (by simpa using q1)]
  simp
  refine kn _ ?_
  clear kn kr kk
  generalize H₁.del H.next = H₂
  clear q1 q2 q3
  -- enough
  refine ss_step fun kk kn kr => ?_
  simp
  refine ⟨hz9 _ (by omega), ?_⟩
  refine enough_ok 2 _ _ _ _ ?_
  simp
  refine kn _ ?_
  clear kn kr kk
  have efd : Int.fdiv (hs.length : Int) 2 = (hs.length : Int) / 2 := Int.fdiv_eq_ediv_of_nonneg _ (by decide)
  rw [efd]
  refine ss_step fun kk kn kr => ?_
  simp
  refine isnum_ok 2 _ _ _ _ rfl ?_
  simp [isN, binV_mul]
  have c1 : (hs.length : Int) < 2 * ((hs.length : Int) / 2 + 1) := by omega
  have c2 : ¬ ((hs.length : Int) < 2 * ((hs.length : Int) / 2 + 1) - 2) := by omega
  simp [c1, c2]
  refine kn _ ?_
  clear kn kr kk
  -- the thing
  refine ss_step fun kk kn kr => ?_
  simp
  refine thing_ok 1 is hs hne hlen _ _ _ fun v hv => ?_
  have hgv : ∀ (σ : St) (Q : V → St → Prop), giveV true σ Q v = Q v σ := fun σ Q => by
    rcases hv with ⟨xs, rfl, _⟩ | hv
    · simp
    · cases v <;> simp [smp] at hv ⊢
  simp [hgv]
  refine kn _ ?_
  clear kn kr kk
  obtain ⟨m, hm, hm9⟩ := fmod_lit (dr is 4) 9 (by decide) 9 rfl
  refine ss_step fun kk kn kr => ?_
  simp
  refine draw_ok 2 is 4 _ _ _ ?_
  simp [binV_mod, hm]
  refine kn _ ?_
  clear kn kr kk
  refine ss_step fun kk kn kr => ?_
  have hkept : ∀ (σ : St) (hl : σ.loc 33 = some v) , kk .next (σ.put 35 v) → wpS tb.P (CW tb.P 3) (.assign (.loc 35) (.ite (.e (.call true (.glob 42) (.cons (.loc 33) (.cons (.glob 41) .nil)))) (.call true (.glob 41) (.cons (.loc 33) .nil)) (.loc 33))) σ kk fun e σ => E e σ.H := fun σ hl hk => by
    rcases hv with ⟨xs, rfl, _, hxl⟩ | hv
    · simp [hl]
      exact ⟨hz9 _ (by omega), hk⟩
    · cases v <;> first | (simp [smp] at hv; done) | (simp [hl]; exact hk)
  refine hkept _ (by simp) (kn _ ?_)
  clear kn kr kk hkept
  refine ss_step fun kk kn kr => ?_
  simp
  refine islist_ok 1 v _ _ _ _ hv ?_
  simp
  refine kn _ ?_
  clear kn kr kk
  generalize hσ : St.put _ 26 _ = σ
  have k24 : σ.loc 24 = some (.lst (is.map .int)) := by rw [← hσ]; simp
  have k33 : σ.loc 33 = some v := by rw [← hσ]; simp
  have k35 : σ.loc 35 = some v := by rw [← hσ]; simp
  have k28 : σ.loc 28 = some (.int (1 + m)) := by rw [← hσ]; simp
  have k26 : σ.loc 26 = some (.bool (isl (1 + m) v)) := by rw [← hσ]; simp
  clear hσ
  refine ss_step fun kk kn kr => ?_
  refine s7 v m hv σ _ kk k33 k35 k28 k26 ?_
  refine kn _ ?_
  clear kn kr kk
  -- the rows
  refine ss_step fun kk kn kr => ?_
  simp
  refine kn _ ?_
  clear kn kr kk
  obtain ⟨c, hc, hc6⟩ := fmod_lit (dr is 5) 6 (by decide) 6 rfl
  refine ss_step fun kk kn kr => ?_
  simp only [wpS_loop, wpE_call, wpE_glob, gl_44, gl_9, need_some, wpEs_cons, wpEs_nil, wpE_bin, wpE_loc, wpE_cst, callF_fn, put_loc, upd_at, setH_loc, k24, show ((24 : Nat) = 36) = False by simp, if_false]
  refine draw_ok 2 is 5 _ _ _ ?_
  have hcz : c ≤ SZ := hz9 _ (by omega)
  simp [binV_mod, hc, hcz, -loopGo]
  have hr : rngN 0 (c : Int) 1 = c := by simp [rngN]
  rw [hr]
  refine rows_loop 2 is _ _ (fun H => by simp [still, hr]) σ.H.next _ _ c 0 [] _ (by simp) (by simp [k24]) (by simp) (by simp; omega) (by simp) fun σ₁ rs s1 s2 s3 s4 s5 => kn _ ?_
  clear kn kr kk
  refine ss_step fun kk kn kr => ?_
  simp
  refine kn _ ?_
  clear kn kr kk
  refine ss_step fun kk kn kr => ?_
  simp only [wpS_loop, wpE_loc, put_loc, upd_at, show ((36 : Nat) = 37) = False by simp, if_false, s1, need_some, put_H, items_ref s2]
  refine due_row_loop 3 _ _ _ _ rs [] _ (by simp [enc]) (by simp [still, items_ref s2]) fun σ₂ u1 u2 u3 => kn _ ?_
  clear kn kr kk
  have g36 : σ₂.loc 36 = some (.ref σ.H.next) := by rw [u2 36 (by decide) (by decide)]; simp [s1]
  have gH : σ₂.H.get σ.H.next = some (.list (rs.map enc)) := by rw [u1]; simpa using s2
  refine ss_step fun kk kn kr => ?_
  simp only [wpS_assign, wpE_comp, wpE_loc, g36, need_some, items_ref gH]
  refine copy_comp 3 _ _ σ₂.H (by simp [still, items_ref gH]) _ rs [] _ rfl (by simpa using s3) s4 fun σ₃ v1 => ?_
  simp [v1]
  refine ⟨hz9 _ (by omega), kn _ ?_⟩
  clear kn kr kk
  refine ss_step fun kk kn kr => ?_
  simp
  refine longest_ok 2 rs (fun r hr => by have := s4 r hr; omega) _ _ _ ?_
  refine kn _ ?_
  clear kn kr kk
  have hnx : σ₂.H.next = σ.H.next + 1 := by rw [u1]; simpa using s5
  have ne1 : σ.H.next ≠ σ₂.H.next := by omega
  have ne2 : σ₂.H.next ≠ σ.H.next := by omega
  have hmade : (σ₂.H.new (.list ((lng rs []).map .int))).get σ₂.H.next = some (.list ((lng rs []).map .int)) := by simp
  have hrows : (σ₂.H.new (.list ((lng rs []).map .int))).get σ.H.next = some (.list (rs.map enc)) := by simp [ne1, gH]
  refine ss_step fun kk kn kr => ?_
  simp [kind_ref hmade, g36, u3, eq_made hmade, eq_rows hrows, -Hp.get_new]
  refine kn _ ?_
  clear kn kr kk
  refine ss_step fun kk kn kr => ?_
  simp [hmade, -Hp.get_new]
  refine ⟨.inl rfl, ?_⟩
  rw [show (0 : Nat) = tb.P.nAppend from rfl, methL_append]
  have hll := lng_len rs [] 6 (by simp) s4
  refine ⟨by have := hz9 7 (by decide); simp; omega, kn _ ?_⟩
  clear kn kr kk
  have hrows' : ((σ₂.H.new (.list ((lng rs []).map .int))).set σ₂.H.next (.list ((lng rs []).map V.int ++ [V.int 9]))).get σ.H.next = some (.list (rs.map enc)) := by simp [ne1, gH]
  refine ss_step fun kk kn kr => ?_
  simp [g36, eq_rows hrows', -Hp.get_new, -Hp.get_set]
  exact kr _ _ rfl
end Mine
end

section
open PySem PySem.W PyProof.Rows Mine
set_option maxRecDepth 100000
set_option maxHeartbeats 8000000
namespace Mine
open_top hd01 for PySem.Challenge.rw_uf020034_01
theorem c1 : chkNms tb = true := by decide +kernel
theorem c2 : chkFns tb.nm (recsOf hd01.view_39) tb.fns = true := by decide +kernel
theorem c3 : tb.globs.all (chkGlob tb (usedNames hd01.view_39 (looseW hd01.view_39 []))) = true := by decide +kernel
end Mine
theorem PySem.Challenge.cw_uf020034_01_holds : PySem.Challenge.rw_uf020034_01.Holds := by
  refine Mine.hd01 ?_
  intro w s₀ s₁ mg mb G Y fa o pm cd doc dV kV ho hd hcd hD hmg hg args vals as hpre hlay hrd hwl hlo
  refine Ground.open G ?_
  intro T B D TE TW
  wrow_args hpre hlay hrd hwl hlo
  refine law_end (vs := []) (k := 14) T c1 c2 c3 hg ⟨_, _, rfl, hmg⟩ (by assumption) (by assumption) (fun _ => rfl) (by wrow_post) 4 ⟨rfl, by decide, by decide⟩ (fun is _ => law_ok is H0 _)
end
