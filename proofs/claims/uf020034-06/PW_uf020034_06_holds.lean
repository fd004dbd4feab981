import PyProof.Rows.All
import Wide.All
import OpenK.AllK
import Wide.FinOn
import KE.KIsAll
import PyProof.Dict
import PyProof.EnumMake
import PyProof.ExcAttrAll.ValueError
import PyProof.Rows.CallKwBuiltin
import PyProof.Rows.SortRev
import PyProof.TableCode
import PySem.SetOps
import PySem.Challenge.RW_uf020034_06

section
set_option autoImplicit false
set_option linter.all false
set_option genSizeOf false
set_option genInjectivity false
namespace Mine
open PySem
/-- insertion into a strictly rising list -/
noncomputable def insS (x : Int) : List Int → List Int
  | [] => [x]
  | y :: r => if x < y then x :: y :: r else if x = y then y :: r else y :: insS x r
noncomputable def mkSet : List Int → List Int
  | [] => []
  | x :: r => insS x (mkSet r)
noncomputable def layT (L : List Int) (t : SetTable) (i : Int) : List Int × SetTable × Bool := match t.freeSlot (hashInt i) with
  | some (slot, wd) => (L.take (t.put slot).2 ++ i :: L.drop (t.put slot).2, (t.put slot).1.orStandIn (L.length + 1), wd)
  | none => (L ++ [i], t.standIn (L.length + 1), false)
noncomputable def relT (L : List Int) (t : SetTable) (n : Nat) : List Int × SetTable := match t.relaid (L.map hashInt).toArray n with
  | some (t', o) => if (coversAll o L.length && t'.fits (o.toList.filterMap fun k => L[k]?).length) = true then (o.toList.filterMap fun k => L[k]?, t') else (L, t.standIn L.length)
  | none => (L, t.standIn L.length)
noncomputable def addT (p : List Int × SetTable) (i : Int) : List Int × SetTable := if i ∈ p.1 then p else
  if (!(layT p.1 p.2 i).2.2 && (layT p.1 p.2 i).2.1.tooFull) = true then relT (layT p.1 p.2 i).1 (layT p.1 p.2 i).2.1 (SetTable.grown (layT p.1 p.2 i).1.length) else ((layT p.1 p.2 i).1, (layT p.1 p.2 i).2.1)
/-- the ints laid anew -/
noncomputable def reoT (L : List Int) : Option (SetTable × Array Nat) → Option (List Int × SetTable)
  | none => none
  | some (t, o) => if ((o.toList.filterMap fun k => L[k]?).length == L.length && t.fits L.length) = true then some (o.toList.filterMap fun k => L[k]?, t) else none
noncomputable def roomT (p : List Int × SetTable) (more : Nat) : Option (List Int × SetTable) := match p.2.roomFor more with
  | none => some p
  | some n => if SetTable.sizeAbove n ≤ sizeLine then reoT p.1 (p.2.relaid (p.1.map hashInt).toArray n) else none
/-- a set's copy -/
noncomputable def copyT (led : Bool) (p : List Int × SetTable) : Option (List Int × SetTable) := if p.1.isEmpty = true then some ([], .fresh 0 0 led) else
  match roomT ([], .fresh 0 0 led) p.1.length with
  | none => none
  | some r => match r.2.road p.2 with
    | .slotForSlot => some (p.1, { p.2 with finger := r.2.finger, led := r.2.led && p.2.led, moves := r.2.moves, plain := r.2.plain && p.2.plain })
    | .clean => reoT p.1 (SetTable.laid r.2.mask r.2.finger r.2.moves (led := r.2.led && p.2.led) (plain := r.2.plain && p.2.plain) (p.1.map hashInt).toArray)
    | .oneByOne => none
/-- where a walk through a set stands -/
noncomputable def stp (led : Bool) (t : SetTable) : Nat → Nat
  | 0 => 0
  | i + 1 => if led = true then t.place.getD i 0 + 1 else 0
/-- the table can be walked -/
noncomputable def walkT (t : SetTable) : Bool := t.plain && t.led && (List.range (t.place.size + 1)).all fun k => SetTable.below t.place (stp true t k) == k
/-- sorted(set(l) | set(m)) can be told -/
noncomputable def uniB (led : Bool) (l m : List Int) : Bool := match copyT led (l.foldl addT ([], .fresh 0 0 led)) with
  | none => false
  | some c => match roomT c (m.foldl addT ([], .fresh 0 0 led)).1.length with
    | none => false
    | some r => (m.foldl addT ([], .fresh 0 0 led)).2.led == led && (m.foldl addT ([], .fresh 0 0 led)).2.plain && !(m.foldl addT ([], .fresh 0 0 led)).1.isEmpty && r.2.fill != 0 && Nat.blt (l.foldl addT ([], .fresh 0 0 led)).1.length 64 && Nat.blt c.1.length 64 && Nat.blt (r.1.length + (m.foldl addT ([], .fresh 0 0 led)).1.length) 64 && Nat.blt l.length 64 && Nat.blt m.length 64
      && decide r.1.Nodup && mkSet (r.1 ++ (m.foldl addT ([], .fresh 0 0 led)).1) == mkSet (l ++ m) && (!led || walkT ((m.foldl addT ([], .fresh 0 0 led)).1.foldl addT r).2)
noncomputable def uniK (l m : List Int) : Bool := uniB true l m && uniB false l m
end Mine

end

section
set_option autoImplicit false
set_option linter.all false
set_option genSizeOf false
set_option genInjectivity false
namespace Mine
open PySem (Str)

/-! Abstract values, cells, heaps. -/
inductive B where
  | int | bool | list | tuple | str | valueError | range | set | enumerate
  | len | isinstance | max | min | sorted

inductive V where
  | none
  | bool (b : Bool)
  | int (i : Int)
  | str (s : Str)
  | tup (xs : List V)
  | lst (xs : List V)
  | rng (a b c : Int)
  | ref (i : Nat)
  | bt (b : B)
  | fn (k : Nat)
  | cls (k : Nat)

inductive C where
  | list (xs : List V)
  | dict (kvs : List (V × V))
  | inst (k : Nat) (fs : List (Nat × V))
  | exc (k : Nat)

structure Hp where
  next : Nat
  get : Nat → Option C

noncomputable def Hp.set (H : Hp) (i : Nat) (c : C) : Hp := ⟨H.next, fun j => if j = i then some c else H.get j⟩
noncomputable def Hp.new (H : Hp) (c : C) : Hp := ⟨H.next + 1, fun j => if j = H.next then some c else H.get j⟩
noncomputable def Hp.del (H : Hp) (i : Nat) : Hp := ⟨H.next, fun j => if j = i then none else H.get j⟩

abbrev Loc := Nat → Option V
noncomputable def upd (m : Loc) (i : Nat) (v : V) : Loc := fun j => if j = i then some v else m j
noncomputable def unb (m : Loc) (i : Nat) : Loc := fun j => if j = i then none else m j
noncomputable def unbs (ts : List Nat) (m : Loc) : Loc := fun j => if ts.contains j then none else m j

structure St where
  H : Hp
  loc : Loc
noncomputable def St.setH (σ : St) (H : Hp) : St := ⟨H, σ.loc⟩
noncomputable def St.put (σ : St) (i : Nat) (v : V) : St := ⟨σ.H, upd σ.loc i v⟩

inductive Flow where
  | next | brk | cont
  | ret (v : V)

/-- by the recursor: the kernel runs it faster so -/
noncomputable def lk {α : Type} (l : List (Nat × α)) (n : Nat) : Option α := List.rec (motive := fun _ => Option α) none (fun p _ ih => cond (Nat.beq p.1 n) (some p.2) ih) l
noncomputable def st {α : Type} (l : List (Nat × α)) (n : Nat) (v : α) : List (Nat × α) := List.rec (motive := fun _ => List (Nat × α)) [(n, v)] (fun p r ih => cond (Nat.beq p.1 n) ((p.1, v) :: r) (p :: ih)) l

/-- the largest size of a list, a text, a dict -/
noncomputable def SZ : Nat := 1048576
/-- a thing that must be there -/
noncomputable def need {α : Type} (o : Option α) (k : α → Prop) : Prop := match o with
  | some a => k a
  | none => False
/-- a demand on the way -/
noncomputable def Nd (p t : Prop) : Prop := p ∧ t
/-- two ways -/
noncomputable def Br (b : Bool) (t e : Prop) : Prop := match b with
  | true => t
  | false => e

/-! How things are seen. -/
noncomputable def cL : Option C → Option (List V)
  | some (.list xs) => some xs
  | _ => none
noncomputable def cD : Option C → Option (List (V × V))
  | some (.dict kvs) => some kvs
  | _ => none
noncomputable def cI : Option C → Option (Nat × List (Nat × V))
  | some (.inst k fs) => some (k, fs)
  | _ => none
noncomputable def cE : Option C → Option Nat
  | some (.exc k) => some k
  | _ => none
noncomputable def mL (o : Option (List V)) : Option V := match o with
  | some xs => some (.lst xs)
  | none => none
/-- data, and lists of the heap as frozen ones -/
noncomputable def see (H : Hp) : V → Option V
  | .ref i => mL (cL (H.get i))
  | .bt _ => none
  | .fn _ => none
  | .cls _ => none
  | x => some x
noncomputable def aRef : V → Option Nat
  | .ref i => some i
  | _ => none
noncomputable def aInt : V → Option Int
  | .int i => some i
  | _ => none
noncomputable def aStr : V → Option Str
  | .str s => some s
  | _ => none
noncomputable def aLst : V → Option (List V)
  | .lst xs => some xs
  | _ => none
noncomputable def aTup : V → Option (List V)
  | .tup xs => some xs
  | _ => none
noncomputable def aBool : V → Option Bool
  | .bool b => some b
  | _ => none

noncomputable def rngN (a b c : Int) : Nat := if c = 1 then (b - a).toNat else if c = -1 then (a - b).toNat else 0
noncomputable def rngL (a c : Int) : Nat → List V
  | 0 => []
  | n + 1 => .int a :: rngL (a + c) c n
/-- the items of data -/
noncomputable def itV : V → Option (List V)
  | .lst xs => some xs
  | .tup xs => some xs
  | .rng a b c => some (rngL a c (rngN a b c))
  | _ => none

/-! Data, to a depth, the heap's lists resolved. -/
noncomputable def deepL (f : V → Option V) : List V → Option (List V)
  | [] => some []
  | x :: r => match f x with
    | some y => (match deepL f r with | some ys => some (y :: ys) | none => none)
    | none => none
noncomputable def mT (o : Option (List V)) : Option V := match o with
  | some xs => some (.tup xs)
  | none => none
noncomputable def bindL (o : Option (List V)) (f : List V → Option V) : Option V := match o with
  | some xs => f xs
  | none => none
noncomputable def deepN (H : Hp) : Nat → V → Option V
  | 0, x => (match x with
    | .none => some .none
    | .bool b => some (.bool b)
    | .int i => some (.int i)
    | .str s => some (.str s)
    | _ => none)
  | n + 1, x => (match x with
    | .none => some .none
    | .bool b => some (.bool b)
    | .int i => some (.int i)
    | .str s => some (.str s)
    | .tup xs => mT (deepL (deepN H n) xs)
    | .lst xs => mL (deepL (deepN H n) xs)
    | .ref i => bindL (cL (H.get i)) fun xs => mL (deepL (deepN H n) xs)
    | _ => none)
noncomputable def deep (H : Hp) (v : V) : Option V := deepN H 12 v
noncomputable def bI (b : Bool) : Int := cond b 1 0
noncomputable def isNone : V → Bool
  | .none => true
  | _ => false
noncomputable def eqB (a : Bool) : V → Bool
  | .bool b => a == b
  | .int i => decide (bI a = i)
  | _ => false
noncomputable def eqI (a : Int) : V → Bool
  | .bool b => decide (a = bI b)
  | .int i => decide (a = i)
  | _ => false
noncomputable def eqS (a : Str) : V → Bool
  | .str b => decide (a = b)
  | _ => false
mutual
noncomputable def eqD : V → V → Bool
  | .none, y => isNone y
  | .bool a, y => eqB a y
  | .int a, y => eqI a y
  | .str a, y => eqS a y
  | .tup a, y => (match y with | .tup b => eqDs a b | _ => false)
  | .lst a, y => (match y with | .lst b => eqDs a b | _ => false)
  | _, _ => false
noncomputable def eqDs : List V → List V → Bool
  | [], y => y.isEmpty
  | a :: r, y => (match y with | b :: t => eqD a b && eqDs r t | [] => false)
end

/-! Operations, as demands. -/
inductive BOp where
  | add | sub | mul | fdiv | mod | pow | bor
inductive COp where
  | eq | ne | lt | le | gt | ge | isIn | notIn | is | isNot
inductive LV where
  | val (v : V)
  | newList (xs : List V)

noncomputable def repL (xs : List V) : Nat → List V
  | 0 => []
  | n + 1 => xs ++ repL xs n
noncomputable def repS (s : Str) : Nat → Str
  | 0 => Str.empty
  | n + 1 => s ++ repS s n
noncomputable def addK (x y : V) (k : LV → Prop) : Prop := match x with
  | .int a => need (aInt y) fun b => k (.val (.int (a + b)))
  | .str a => need (aStr y) fun b => Nd (a.length + b.length ≤ SZ) (k (.val (.str (a ++ b))))
  | .lst a => need (aLst y) fun b => k (.newList (a ++ b))
  | _ => False
noncomputable def mulK (x y : V) (k : LV → Prop) : Prop := match x with
  | .int a => need (aInt y) fun b => Nd (a.natAbs < 4611686018427387904 ∨ b.natAbs < 4611686018427387904) (k (.val (.int (a * b))))
  | .str s => need (aInt y) fun n => Nd (0 ≤ n ∧ n ≤ 1048576 ∧ s.length * n.toNat ≤ SZ) (k (.val (.str (repS s n.toNat))))
  | .lst xs => need (aInt y) fun n => Nd (0 ≤ n ∧ n ≤ 1048576 ∧ xs.length * n.toNat ≤ SZ) (k (.newList (repL xs n.toNat)))
  | _ => False
noncomputable def intK (x y : V) (k : Int → Int → Prop) : Prop := need (aInt x) fun a => need (aInt y) fun b => k a b
noncomputable def binK (op : BOp) (x y : V) (k : LV → Prop) : Prop := match op with
  | .add => addK x y k
  | .mul => mulK x y k
  | .sub => intK x y fun a b => k (.val (.int (a - b)))
  | .fdiv => intK x y fun a b => Nd (b ≠ 0 ∧ b.natAbs < 1073741824) (k (.val (.int (Int.fdiv a b))))
  | .mod => intK x y fun a b => Nd (b ≠ 0) (k (.val (.int (Int.fmod a b))))
  | .pow => intK x y fun a b => Nd (0 ≤ b ∧ b ≤ 64 ∧ 0 ≤ a ∧ a ≤ 16) (k (.val (.int (a ^ b.toNat))))
  | .bor => False
/-- a pair of ints -/
noncomputable def aPr (x : V) : Option (Int × Int) := match aTup x with
  | some [a, b] => (match aInt a with | some i => (match aInt b with | some j => some (i, j) | none => none) | none => none)
  | _ => none
/-- < and ≤ (e) on ints, and on pairs of ints -/
noncomputable def cmpI (e : Bool) (a b : Int) : Bool := cond e (decide (a ≤ b)) (decide (a < b))
/-- pairs of ints, by the first two that differ: k on ints, z if all are alike -/
noncomputable def prI (k : Int → Int → Bool) (z : Bool) (a b c d : Int) : Bool := cond (decide (a = c)) (cond (decide (b = d)) z (k b d)) (k a c)
noncomputable def ltK (e : Bool) (x y : V) (k : Bool → Prop) : Prop := match x with
  | .int a => need (aInt y) fun b => k (cmpI e a b)
  | .tup _ => need (aPr x) fun p => need (aPr y) fun q => k (prI (cmpI e) e p.1 p.2 q.1 q.2)
  | _ => False
noncomputable def inR (a b c : Int) (x : V) (k : Bool → Prop) : Prop := Nd (c = 1) (match x with
  | .int i => k (decide (a ≤ i) && decide (i < b))
  | .bool p => k (decide (a ≤ bI p) && decide (bI p < b))
  | .str _ => k false
  | .none => k false
  | _ => False)

noncomputable def isI : V → Bool
  | .int _ => true
  | _ => false
noncomputable def isStr : V → Bool
  | .str _ => true
  | _ => false
/-- a key that fits a dict: all ints -/
noncomputable def keyOk (ks : List V) (k : V) : Bool := isI k && ks.all isI
noncomputable def dGet {α : Type} : List (V × α) → V → Option α
  | [], _ => none
  | p :: r, k => cond (eqD p.1 k) (some p.2) (dGet r k)
noncomputable def dSet {α : Type} : List (V × α) → V → α → List (V × α)
  | [], k, v => [(k, v)]
  | p :: r, k, v => cond (eqD p.1 k) ((p.1, v) :: r) (p :: dSet r k v)
noncomputable def dKeys {α : Type} (kvs : List (V × α)) : List V := kvs.map (·.1)
noncomputable def keysOk : List V → Bool
  | [] => true
  | k :: r => keyOk r k && !(r.any fun z => eqD z k) && keysOk r

/-- things that are looked at as objects -/
noncomputable def solid : V → Bool
  | .rng _ _ _ => false
  | .bt _ => false
  | .fn _ => false
  | .cls _ => false
  | _ => true
noncomputable def isB (c : Bool) : V → Bool
  | .bool d => d == c
  | _ => false
/-- the right side of «is»: None, True, False -/
noncomputable def isK (a b : V) (k : Bool → Prop) : Prop := match b with
  | .none => Nd (solid a = true) (k (isNone a))
  | .bool c => Nd (solid a = true) (k (isB c a))
  | _ => False

/-- insertion into a rising list (sorting) -/
noncomputable def ins (x : Int) : List Int → List Int
  | [] => [x]
  | y :: r => if x ≤ y then x :: y :: r else y :: ins x r
noncomputable def srt : List Int → List Int
  | [] => []
  | x :: r => ins x (srt r)
noncomputable def intsOf : List V → Option (List Int)
  | [] => some []
  | x :: r => (match aInt x with | some i => (match intsOf r with | some l => some (i :: l) | none => none) | none => none)
noncomputable def intsK (x : V) (k : List Int → Prop) : Prop := need (aLst x) fun xs => need (intsOf xs) k

noncomputable def pyIdx (i : Int) (n : Nat) : Option Nat := if 0 ≤ i then (if i < n then some i.toNat else none) else (if 0 ≤ i + n then some (i + n).toNat else none)
noncomputable def atK (xs : List V) (i : Int) (k : V → Prop) : Prop := need (pyIdx i xs.length) fun n => need xs[n]? k
noncomputable def idxK (x y : V) (k : V → Prop) : Prop := need (aInt y) fun i => match x with
  | .lst xs => atK xs i k
  | .tup xs => atK xs i k
  | .str s => Nd (0 ≤ i) (need s.cps[i.toNat]? fun c => k (.str ⟨#[c]⟩))
  | _ => False
/-- slices with bounds that are not negative -/
noncomputable def slL (xs : List V) (lo hi : Option Int) : List V :=
  match lo, hi with
  | none, none => xs
  | some a, none => xs.drop a.toNat
  | none, some b => xs.take b.toNat
  | some a, some b => (xs.drop a.toNat).take (b.toNat - a.toNat)
noncomputable def notNeg : Option Int → Bool
  | none => true
  | some i => decide (0 ≤ i)
/-- the first items of a tuple, not all -/
noncomputable def slT (xs : List V) (lo hi : Option Int) : Option (List V) := match lo with
  | some _ => none
  | none => (match hi with
    | some j => cond (Nat.blt j.toNat xs.length) (some (xs.take j.toNat)) none
    | none => none)
noncomputable def slK (x : V) (lo hi : Option Int) (k : LV → Prop) : Prop := Nd (notNeg lo = true) (Nd (notNeg hi = true) (match x with
  | .lst xs => k (.newList (slL xs lo hi))
  | .tup xs => need (slT xs lo hi) fun ys => k (.val (.tup ys))
  | _ => False))
noncomputable def trK (x : V) (k : Bool → Prop) : Prop := match x with
  | .none => k false
  | .bool b => k b
  | .int i => k (decide (i ≠ 0))
  | .str s => k (decide (s.length ≠ 0))
  | .tup xs => k (!xs.isEmpty)
  | .lst xs => k (!xs.isEmpty)
  | _ => False
noncomputable def lenV : V → Option Nat
  | .str s => some s.length
  | .tup xs => some xs.length
  | .lst xs => some xs.length
  | _ => none

/-- kinds, for isinstance -/
inductive Kd where
  | none | bool | int | str | tuple | list | inst (k : Nat) | exc (k : Nat)
noncomputable def kdV : V → Option Kd
  | .none => some .none
  | .bool _ => some .bool
  | .int _ => some .int
  | .str _ => some .str
  | .tup _ => some .tuple
  | .lst _ => some .list
  | _ => none
noncomputable def kdC : Option C → Option Kd
  | some (.list _) => some .list
  | some (.inst k _) => some (.inst k)
  | some (.exc k) => some (.exc k)
  | _ => none
noncomputable def kind (H : Hp) : V → Option Kd
  | .ref i => kdC (H.get i)
  | x => kdV x
noncomputable def lenH (H : Hp) : V → Option Nat
  | .ref i => (match H.get i with
    | some (.list xs) => some xs.length
    | some (.dict kvs) => some kvs.length
    | _ => none)
  | x => lenV x
/-- the items that a loop over a value sees -/
noncomputable def items (H : Hp) : V → Option (List V)
  | .ref i => cL (H.get i)
  | x => itV x

/-! The program text without places. fz: a list made here is never changed. -/
mutual
inductive PE where
  | cst (v : V)
  | loc (i : Nat)
  | glob (i : Nat)
  | attr (e : PE) (n : Nat)
  | bin (fz : Bool) (op : BOp) (l r : PE)
  | neg (e : PE)
  | not (e : PE)
  | cmp (op : COp) (l r : PE)
  | cmp2 (op₁ op₂ : COp) (a b c : PE)
  | and (es : PEs)
  | or (es : PEs)
  | ite (t : PC) (a b : PE)
  | list (fz : Bool) (es : PEs)
  | tup (es : PEs)
  | dict (kvs : PKV)
  | idx (e i : PE)
  | sl (fz : Bool) (e : PE) (lo hi : PEo)
  | rev (fz : Bool) (e : PE)
  | call (fz : Bool) (f : PE) (as : PEs)
  | sortedRev (fz : Bool) (i : Nat) (e : PE)
  | sortedU (fz : Bool) (i j : Nat) (a b : PE)
  | lenSet (e : PE)
  | meth (fz : Bool) (o : PE) (n : Nat) (as : PEs)
  | comp (fz : Bool) (elt : PE) (ts : List Nat) (it : PE) (cond : PCo)
inductive PEs where
  | nil
  | cons (e : PE) (r : PEs)
inductive PEo where
  | none
  | some (e : PE)
inductive PKV where
  | nil
  | cons (k v : PE) (r : PKV)
/-- tests -/
inductive PC where
  | e (e : PE)
  | not (c : PC)
  | and (cs : PCs)
  | or (cs : PCs)
inductive PCs where
  | nil
  | cons (c : PC) (r : PCs)
inductive PCo where
  | none
  | some (c : PC)
end
inductive PT where
  | loc (i : Nat)
  | attr (o : PE) (n : Nat)
  | idx (o i : PE)
  | tup (is : List Nat)
mutual
inductive PS where
  | expr (e : PE)
  | pass
  | assign (t : PT) (e : PE)
  | augLoc (i : Nat) (op : BOp) (e : PE)
  | augAttr (o : PE) (n : Nat) (op : BOp) (e : PE)
  | ret (e : PEo)
  | ite (t : PC) (a b : PSs)
  | loop (ts : List Nat) (it : PE) (body : PSs)
  | loopEnum (g i x : Nat) (it : PE) (body : PSs)
  | while_ (t : PC) (body : PSs)
  | raise (i : Nat) (e : PE)
  | try_ (body : PSs) (i : Nat) (as : Option Nat) (h : PSs)
inductive PSs where
  | nil
  | cons (s : PS) (r : PSs)
end

structure Fn where
  params : List Nat
  body : PSs
structure Cl where
  init : Option Nat
  meths : List (Nat × Nat)
  attrs : List Nat
structure Prog where
  fn : Nat → Option Fn
  cls : Nat → Option Cl
  glob : Nat → Option V
  /-- class k is (a subclass of) class j; both exceptions of the text's own -/
  sub : Nat → Nat → Bool
  /-- classes of exceptions -/
  exc : Nat → Bool
  /-- names of built-in methods -/
  nAppend : Nat
  nPop : Nat
  nExtend : Nat
  nGet : Nat
  nSetdefault : Nat

noncomputable def bKd : B → Option Kd
  | .int => some .int
  | .bool => some .bool
  | .str => some .str
  | .list => some .list
  | .tuple => some .tuple
  | _ => none
/-- the kinds of data, numbered -/
noncomputable def kNo : Kd → Option Nat
  | .none => some 0
  | .bool => some 1
  | .int => some 2
  | .str => some 3
  | .list => some 4
  | .tuple => some 5
  | _ => none
noncomputable def kNo2 (k j : Kd) : Option Bool := match kNo k with
  | some m => (match kNo j with
    | some p => some (Nat.beq m p || (Nat.beq m 1 && Nat.beq p 2))
    | none => none)
  | none => none
/-- a thing of a kind, seen from a built-in class, from a class of the text's -/
noncomputable def isiB (P : Prog) (k : Kd) (b : B) : Option Bool := match k with
  | .exc i => (match b with | .valueError => (match P.exc i with | true => some true | false => none) | _ => none)
  | .inst i => (match P.cls i with | some _ => (match bKd b with | some _ => some false | none => none) | none => none)
  | k => (match bKd b with | some j => kNo2 k j | none => none)
noncomputable def isiC (P : Prog) (k : Kd) (j : Nat) : Option Bool := match k with
  | .exc i => (match P.exc i && P.exc j with | true => some (P.sub i j) | false => none)
  | _ => none
noncomputable def isi0 (P : Prog) (k : Kd) (t : V) : Option Bool := match t with
  | .bt b => isiB P k b
  | .cls j => isiC P k j
  | _ => none
noncomputable def isiL (P : Prog) (k : Kd) : List V → Option Bool
  | [] => some false
  | x :: r => match isi0 P k x with
    | some true => some true
    | some false => isiL P k r
    | none => none
noncomputable def isi1 (P : Prog) (k : Kd) (t : V) : Option Bool := match t with
  | .tup ts => isiL P k ts
  | t => isi0 P k t

/-- built-in functions: of one thing, as it is seen, and its length; of two; of three -/
noncomputable def b1K (b : B) (s : Option V) (n : Option Nat) (k : LV → Prop) : Prop := match b with
  | .len => need n fun n => k (.val (.int n))
  | .list => need s fun x => need (itV x) fun xs => k (.newList xs)
  | .sorted => need s fun x => intsK x fun l => Nd (l.length < 64) (k (.newList ((srt l).map .int)))
  | .tuple => need s fun x => need (aLst x) fun xs => k (.val (.tup xs))
  | .int => need s fun x => need (aBool x) fun b => k (.val (.int (bI b)))
  | .range => need s fun x => need (aInt x) fun n => Nd (n.natAbs ≤ SZ) (k (.val (.rng 0 n 1)))
  | _ => False
noncomputable def b2K (b : B) (x y : V) (k : LV → Prop) : Prop := match b with
  | .max => intK x y fun a b => k (.val (.int (if b > a then b else a)))
  | .min => intK x y fun a b => k (.val (.int (if b < a then b else a)))
  | .range => intK x y fun a b => Nd (a.natAbs ≤ SZ ∧ b.natAbs ≤ SZ) (k (.val (.rng a b 1)))
  | _ => False
noncomputable def b3K (b : B) (x y z : V) (k : LV → Prop) : Prop := match b with
  | .range => need (aInt z) fun c => intK x y fun a b => Nd (a.natAbs ≤ SZ ∧ b.natAbs ≤ SZ ∧ c = -1) (k (.val (.rng a b c)))
  | _ => False
noncomputable def isIsi : B → Bool
  | .isinstance => true
  | _ => false
noncomputable def callB (P : Prog) (H : Hp) (b : B) (as : List V) (k : LV → Prop) : Prop := match as with
  | [v] => b1K b (see H v) (lenH H v) k
  | [v, w] => Br (isIsi b) (need (kind H v) fun q => need (isi1 P q w) fun r => k (.val (.bool r))) (need (see H v) fun x => need (see H w) fun y => b2K b x y k)
  | [u, v, w] => need (see H u) fun x => need (see H v) fun y => need (see H w) fun z => b3K b x y z k
  | _ => False

/-- hand on a made value -/
noncomputable def give (fz : Bool) (σ : St) (Q : V → St → Prop) : LV → Prop
  | .val v => Q v σ
  | .newList xs => Nd (xs.length ≤ SZ) (Br fz (Q (.lst xs) σ) (Q (.ref σ.H.next) (σ.setH (σ.H.new (.list xs)))))
/-- a call's answer; a list that only the answer names may be frozen -/
noncomputable def giveV (fz : Bool) (σ : St) (Q : V → St → Prop) (v : V) : Prop := Br fz (match aRef v with
    | some i => (match cL (σ.H.get i) with | some xs => Q (.lst xs) (σ.setH (σ.H.del i)) | none => Q v σ)
    | none => Q v σ) (Q v σ)

abbrev CT := Nat → List V → Hp → (V → Hp → Prop) → (Nat → Hp → Prop) → Prop
abbrev EP := Nat → St → Prop

noncomputable def bindGo : List Nat → List V → St → (St → Prop) → Prop
  | [], ys, σ, K => (match ys with | [] => K σ | _ => False)
  | i :: is, ys, σ, K => (match ys with | x :: xs => bindGo is xs (σ.put i x) K | [] => False)
noncomputable def bindT (ts : List Nat) (v : V) (σ : St) (K : St → Prop) : Prop := match ts with
  | [i] => K (σ.put i v)
  | ts => need (aTup v) fun xs => bindGo ts xs σ K

/-- the methods of lists and dicts -/
noncomputable def one {α : Type} : List α → Option α
  | [x] => some x
  | _ => none
noncomputable def methL (P : Prog) (σ : St) (i : Nat) (n : Nat) (as : List V) (xs : List V) (Q : V → St → Prop) : Prop := need (one as) fun a =>
  Br (Nat.beq n P.nAppend) (Nd (xs.length < SZ) (Q .none (σ.setH (σ.H.set i (.list (xs ++ [a])))))) <|
  Br (Nat.beq n P.nPop) (need (aInt a) fun k => need (pyIdx k xs.length) fun j => need xs[j]? fun v => Q v (σ.setH (σ.H.set i (.list (xs.take j ++ xs.drop (j + 1)))))) <|
  need (see σ.H a) fun y => need (aLst y) fun ys => Nd (xs.length + ys.length ≤ SZ) (Q .none (σ.setH (σ.H.set i (.list (xs ++ ys)))))
/-- a key, and what stands for it if it is not there -/
noncomputable def keyD : List V → Option (V × V)
  | [k] => some (k, .none)
  | [k, d] => some (k, d)
  | _ => none
noncomputable def methD (P : Prog) (σ : St) (i : Nat) (n : Nat) (as : List V) (kvs : List (V × V)) (Q : V → St → Prop) : Prop := need (keyD as) fun t => Nd (keyOk (dKeys kvs) t.1 = true) (Q ((dGet kvs t.1).getD t.2) σ)

noncomputable def callF (P : Prog) (K : CT) (E : EP) (fz : Bool) (σ : St) (f : V) (as : List V) (Q : V → St → Prop) : Prop := match f with
  | .bt b => callB P σ.H b as (give fz σ Q)
  | .fn k => K k as σ.H (fun v H => giveV fz (σ.setH H) Q v) (fun e H => E e (σ.setH H))
  | .cls k => need (P.cls k) fun c => need c.init fun f =>
      K f (.ref σ.H.next :: as) (σ.H.new (.inst k [])) (fun v H => Nd (isNone v = true) (Q (.ref σ.H.next) (σ.setH H))) (fun e H => E e (σ.setH H))
  | _ => False

noncomputable def noE : EP := fun _ _ => False

/-- a comprehension's turns -/
noncomputable def compGo (tst : St → (Bool → St → Prop) → Prop) (elt : St → (V → St → Prop) → Prop) (ts : List Nat) (chk : Hp → Prop) : List V → List V → St → (List V → St → Prop) → Prop
  | [], acc, σ, Q => chk σ.H ∧ acc.length ≤ SZ ∧ Q acc σ
  | v :: vs, acc, σ, Q => chk σ.H ∧ acc.length < SZ ∧ bindT ts v σ fun σ₁ => tst σ₁ fun b σ₂ => Br b (elt σ₂ fun x σ₃ => compGo tst elt ts chk vs (acc ++ [x]) σ₃ Q) (compGo tst elt ts chk vs acc σ₂ Q)
/-- the list that a loop runs over stands as it was -/
noncomputable def still (v : V) (xs : List V) (H : Hp) : Prop := items H v = some xs

/-- two things compared -/
noncomputable def cmpK (H : Hp) (op : COp) (a b : V) (k : Bool → Prop) : Prop := match op with
  | .eq => need (deep H a) fun x => need (deep H b) fun y => k (eqD x y)
  | .ne => need (deep H a) fun x => need (deep H b) fun y => k (!eqD x y)
  | .lt => need (see H a) fun x => need (see H b) fun y => ltK false x y k
  | .le => need (see H a) fun x => need (see H b) fun y => ltK true x y k
  | .gt => need (see H a) fun x => need (see H b) fun y => ltK false y x k
  | .ge => need (see H a) fun x => need (see H b) fun y => ltK true y x k
  | .isIn => inK H a b k
  | .notIn => inK H a b fun r => k (!r)
  | .is => isK a b k
  | .isNot => isK a b fun r => k (!r)
where
  anyK (H : Hp) (a : V) (xs : List V) (k : Bool → Prop) : Prop := need (deep H a) fun y => need (deepL (deepN H 11) xs) fun ys => k (ys.any fun z => eqD z y)
  inK (H : Hp) (a b : V) (k : Bool → Prop) : Prop := match b with
    | .ref i => (match H.get i with
      | some (.list xs) => anyK H a xs k
      | some (.dict kvs) => Nd (keyOk (dKeys kvs) a = true) (k ((dKeys kvs).any fun z => eqD z a))
      | _ => False)
    | .rng p q r => inR p q r a k
    | .lst xs => anyK H a xs k
    | .tup xs => anyK H a xs k
    | _ => False

/-- the built-in «sorted» -/
noncomputable def isSrt : V → Bool
  | .bt b => (match b with | .sorted => true | _ => false)
  | _ => false
noncomputable def isSetB : V → Bool
  | .bt b => (match b with | .set => true | _ => false)
  | _ => false
noncomputable def isEnu : V → Bool
  | .bt b => (match b with | .enumerate => true | _ => false)
  | _ => false
/-- an item, of a dict too -/
noncomputable def idxH (H : Hp) (a b : V) (k : V → Prop) : Prop := match aRef a with
  | some i => (match H.get i with
    | some (.list xs) => idxK (.lst xs) b k
    | some (.dict kvs) => Nd (keyOk (dKeys kvs) b = true) (need (dGet kvs b) k)
    | _ => False)
  | none => idxK a b k
noncomputable def optI : Option V → Option (Option Int)
  | none => some none
  | some x => (match aInt x with | some i => some (some i) | none => none)
/-- an object's parts -/
noncomputable def instK (H : Hp) (a : V) (k : Nat → Nat → List (Nat × V) → Prop) : Prop := need (aRef a) fun i => need (cI (H.get i)) fun t => k i t.1 t.2
noncomputable def truK (H : Hp) (v : V) (k : Bool → Prop) : Prop := need (see H v) fun x => trK x k

mutual
noncomputable def wpE (P : Prog) (K : CT) (E : EP) : PE → St → (V → St → Prop) → Prop
  | .cst v, σ, Q => Q v σ
  | .loc i, σ, Q => need (σ.loc i) fun v => Q v σ
  | .glob i, σ, Q => need (P.glob i) fun v => Q v σ
  | .attr e n, σ, Q => wpE P K E e σ fun o σ₁ => instK σ₁.H o fun _ _ fs => need (lk fs n) fun v => Q v σ₁
  | .bin fz op l r, σ, Q => wpE P K E l σ fun a σ₁ => wpE P K E r σ₁ fun b σ₂ => need (see σ₂.H a) fun x => need (see σ₂.H b) fun y => binK op x y (give fz σ₂ Q)
  | .neg e, σ, Q => wpE P K E e σ fun a σ₁ => need (aInt a) fun i => Q (.int (-i)) σ₁
  | .not e, σ, Q => wpE P K E e σ fun v σ₁ => truK σ₁.H v fun b => Q (.bool (!b)) σ₁
  | .cmp op l r, σ, Q => wpE P K E l σ fun a σ₁ => wpE P K E r σ₁ fun b σ₂ => cmpK σ₂.H op a b fun c => Q (.bool c) σ₂
  | .cmp2 o₁ o₂ x y z, σ, Q => wpE P K E x σ fun a σ₁ => wpE P K E y σ₁ fun b σ₂ => cmpK σ₂.H o₁ a b fun c => Br c
      (wpE P K E z σ₂ fun d σ₃ => cmpK σ₃.H o₂ b d fun c => Q (.bool c) σ₃) (Q (.bool false) σ₂)
  | .and es, σ, Q => wpAnd P K E es σ Q
  | .or es, σ, Q => wpOr P K E es σ Q
  | .ite t a b, σ, Q => wpT P K E t σ fun c σ₁ => Br c (wpE P K E a σ₁ Q) (wpE P K E b σ₁ Q)
  | .list fz es, σ, Q => wpEs P K E es σ fun vs σ₁ => give fz σ₁ Q (.newList vs)
  | .tup es, σ, Q => wpEs P K E es σ fun vs σ₁ => Nd (vs.length ≤ SZ) (Q (.tup vs) σ₁)
  | .dict kvs, σ, Q => wpKV P K E kvs σ fun kvs σ₁ => Nd (kvs.length ≤ 100) (Nd (keysOk (dKeys kvs) = true) (Q (.ref σ₁.H.next) (σ₁.setH (σ₁.H.new (.dict kvs)))))
  | .idx e i, σ, Q => wpE P K E e σ fun a σ₁ => wpE P K E i σ₁ fun b σ₂ => idxH σ₂.H a b fun v => Q v σ₂
  | .sl fz e lo hi, σ, Q => wpE P K E e σ fun a σ₁ => wpO P K E lo σ₁ fun l σ₂ => wpO P K E hi σ₂ fun h σ₃ =>
      need (optI l) fun l => need (optI h) fun h => need (see σ₃.H a) fun x => slK x l h (give fz σ₃ Q)
  | .rev fz e, σ, Q => wpE P K E e σ fun a σ₁ => need (see σ₁.H a) fun x => need (aLst x) fun xs => give fz σ₁ Q (.newList xs.reverse)
  | .call fz f as, σ, Q => wpE P K E f σ fun g σ₁ => wpEs P K E as σ₁ fun vs σ₂ => callF P K E fz σ₂ g vs Q
  | .sortedRev fz i e, σ, Q => need (P.glob i) fun g => Nd (isSrt g = true) (wpE P K E e σ fun a σ₁ => need (see σ₁.H a) fun x => intsK x fun l => Nd (l.length < 64) (give fz σ₁ Q (.newList ((srt l).reverse.map .int))))
  | .sortedU fz i j x y, σ, Q => need (P.glob i) fun g => Nd (isSrt g = true) (need (P.glob j) fun g => Nd (isSetB g = true) (wpE P K E x σ fun a σ₁ => need (see σ₁.H a) fun p => intsK p fun l => Nd (l.length < 64) (wpE P K E y σ₁ fun b σ₂ => need (see σ₂.H b) fun q => intsK q fun m => Nd (m.length < 64) (Nd (uniK l m = true) (give fz σ₂ Q (.newList ((mkSet (l ++ m)).map .int)))))))
  | .lenSet e, σ, Q => wpE P K E e σ fun a σ₁ => need (see σ₁.H a) fun x => intsK x fun l => Q (.int (mkSet l).length) σ₁
  | .meth fz o n as, σ, Q => wpE P K E o σ fun a σ₁ => need (aRef a) fun i => match σ₁.H.get i with
    | some (.inst k _) => need (P.cls k) fun c => need (lk c.meths n) fun f => wpEs P K E as σ₁ fun vs σ₂ => callF P K E fz σ₂ (.fn f) (.ref i :: vs) Q
    | some (.list _) => Nd ((Nat.beq n P.nAppend || (Nat.beq n P.nPop || Nat.beq n P.nExtend)) = true) (wpEs P K E as σ₁ fun vs σ₂ => need (cL (σ₂.H.get i)) fun xs => methL P σ₂ i n vs xs Q)
    | some (.dict _) => Nd (Nat.beq n P.nGet = true) (wpEs P K E as σ₁ fun vs σ₂ => need (cD (σ₂.H.get i)) fun kvs => methD P σ₂ i n vs kvs Q)
    | _ => False
  | .comp fz elt ts it cond, σ, Q => wpE P K E it σ fun v σ₁ => need (items σ₁.H v) fun xs =>
      compGo (fun σ₂ k => wpC P K noE cond σ₂ k) (fun σ₂ k => wpE P K noE elt σ₂ k) ts (still v xs) xs [] ⟨σ₁.H, unbs ts σ₁.loc⟩ fun ys σ₂ => give fz ⟨σ₂.H, σ₁.loc⟩ Q (.newList ys)
noncomputable def wpT (P : Prog) (K : CT) (E : EP) : PC → St → (Bool → St → Prop) → Prop
  | .not e, σ, Q => wpT P K E e σ fun b σ₁ => Q (!b) σ₁
  | .and es, σ, Q => wpAllT P K E es σ Q
  | .or es, σ, Q => wpAnyT P K E es σ Q
  | .e e, σ, Q => wpE P K E e σ fun v σ₁ => truK σ₁.H v fun b => Q b σ₁
noncomputable def wpAllT (P : Prog) (K : CT) (E : EP) : PCs → St → (Bool → St → Prop) → Prop
  | .nil, σ, Q => Q true σ
  | .cons e r, σ, Q => wpT P K E e σ fun b σ₁ => Br b (wpAllT P K E r σ₁ Q) (Q false σ₁)
noncomputable def wpAnyT (P : Prog) (K : CT) (E : EP) : PCs → St → (Bool → St → Prop) → Prop
  | .nil, σ, Q => Q false σ
  | .cons e r, σ, Q => wpT P K E e σ fun b σ₁ => Br b (Q true σ₁) (wpAnyT P K E r σ₁ Q)
/-- b: the way that goes on («and»: true; «or»: false) -/
noncomputable def wpAnd (P : Prog) (K : CT) (E : EP) : PEs → St → (V → St → Prop) → Prop
  | .nil, _, _ => False
  | .cons e r, σ, Q => wpE P K E e σ fun v σ₁ => (match r with
    | .nil => Q v σ₁
    | .cons _ _ => truK σ₁.H v fun b => Br b (wpAnd P K E r σ₁ Q) (Q v σ₁))
noncomputable def wpOr (P : Prog) (K : CT) (E : EP) : PEs → St → (V → St → Prop) → Prop
  | .nil, _, _ => False
  | .cons e r, σ, Q => wpE P K E e σ fun v σ₁ => (match r with
    | .nil => Q v σ₁
    | .cons _ _ => truK σ₁.H v fun b => Br b (Q v σ₁) (wpOr P K E r σ₁ Q))
noncomputable def wpEs (P : Prog) (K : CT) (E : EP) : PEs → St → (List V → St → Prop) → Prop
  | .nil, σ, Q => Q [] σ
  | .cons e r, σ, Q => wpE P K E e σ fun v σ₁ => wpEs P K E r σ₁ fun vs σ₂ => Q (v :: vs) σ₂
noncomputable def wpKV (P : Prog) (K : CT) (E : EP) : PKV → St → (List (V × V) → St → Prop) → Prop
  | .nil, σ, Q => Q [] σ
  | .cons k v r, σ, Q => wpE P K E k σ fun a σ₁ => wpE P K E v σ₁ fun b σ₂ => wpKV P K E r σ₂ fun r σ₃ => Q ((a, b) :: r) σ₃
noncomputable def wpO (P : Prog) (K : CT) (E : EP) : PEo → St → (Option V → St → Prop) → Prop
  | .none, σ, Q => Q none σ
  | .some e, σ, Q => wpE P K E e σ fun v σ₁ => Q (some v) σ₁
noncomputable def wpC (P : Prog) (K : CT) (E : EP) : PCo → St → (Bool → St → Prop) → Prop
  | .none, σ, Q => Q true σ
  | .some e, σ, Q => wpT P K E e σ Q
end

/-- the sums of ints that «+=» makes -/
noncomputable def augK (op : BOp) (a b : V) (k : V → Prop) : Prop := match op with
  | .add => intK a b fun x y => k (.int (x + y))
  | _ => False
/-- a thing stored in an object -/
noncomputable def putA (P : Prog) (a : V) (n : Nat) (v : V) (σ : St) (Q : St → Prop) : Prop := instK σ.H a fun i k fs => need (P.cls k) fun c => Nd (c.attrs.contains n = true) (Nd (fs.length < 1000) (Q (σ.setH (σ.H.set i (.inst k (st fs n v))))))
noncomputable def asgn (P : Prog) (K : CT) (E : EP) (t : PT) (v : V) (σ : St) (Q : St → Prop) : Prop := match t with
  | .loc i => Q (σ.put i v)
  | .attr o n => wpE P K E o σ fun a σ₁ => putA P a n v σ₁ Q
  | .idx o x => wpE P K E o σ fun a σ₁ => wpE P K E x σ₁ fun b σ₂ => need (aRef a) fun i => need (cD (σ₂.H.get i)) fun kvs => Nd (keyOk (dKeys kvs) b = true) (Nd (kvs.length < SZ) (Q (σ₂.setH (σ₂.H.set i (.dict (dSet kvs b v))))))
  | .tup is => need (aTup v) fun xs => bindGo is xs σ Q
/-- the name behind «as» -/
noncomputable def asPut (as : Option Nat) (j : Nat) (σ : St) : St := match as with
  | some n => σ.put n (.ref j)
  | none => σ
noncomputable def asUnb (as : Option Nat) (σ : St) : St := match as with
  | some n => ⟨σ.H, unb σ.loc n⟩
  | none => σ
/-- what a turn's end leads to -/
noncomputable def endK (fl : Flow) (σ : St) (go : St → Prop) (Q : Flow → St → Prop) : Prop := match fl with
  | .next => go σ
  | .cont => go σ
  | .brk => Q .next σ
  | .ret r => Q (.ret r) σ
/-- a loop's turns -/
noncomputable def loopGo (turn : V → St → (Flow → St → Prop) → Prop) (chk : Hp → Prop) : List V → St → (Flow → St → Prop) → Prop
  | [], σ, Q => chk σ.H ∧ Q .next σ
  | v :: vs, σ, Q => chk σ.H ∧ turn v σ fun fl σ₁ => endK fl σ₁ (fun σ₂ => loopGo turn chk vs σ₂ Q) Q
noncomputable def whileGo (tst : St → (Bool → St → Prop) → Prop) (body : St → (Flow → St → Prop) → Prop) : Nat → St → (Flow → St → Prop) → Prop
  | 0, _, _ => False
  | n + 1, σ, Q => tst σ fun b σ₁ => Br b (body σ₁ fun fl σ₂ => endK fl σ₂ (fun σ₃ => whileGo tst body n σ₃ Q) Q) (Q .next σ₁)
noncomputable def enumL (k : Int) : List V → List V
  | [] => []
  | x :: r => .tup [.int k, x] :: enumL (k + 1) r
noncomputable def aCls : V → Option Nat
  | .cls k => some k
  | _ => none
/-- what a statement's end leads to -/
noncomputable def seqK (fl : Flow) (σ : St) (go : St → Prop) (Q : Flow → St → Prop) : Prop := match fl with
  | .next => go σ
  | .cont => Q .cont σ
  | .brk => Q .brk σ
  | .ret r => Q (.ret r) σ

mutual
noncomputable def wpS (P : Prog) (K : CT) : PS → St → (Flow → St → Prop) → EP → Prop
  | .expr e, σ, Q, E => wpE P K E e σ fun _ σ₁ => Q .next σ₁
  | .pass, σ, Q, _ => Q .next σ
  | .assign t e, σ, Q, E => wpE P K E e σ fun v σ₁ => asgn P K E t v σ₁ fun σ₂ => Q .next σ₂
  | .augLoc i op e, σ, Q, E => need (σ.loc i) fun a => wpE P K E e σ fun b σ₁ => augK op a b fun v => Q .next (σ₁.put i v)
  | .augAttr o n op e, σ, Q, E => wpE P K E o σ fun a σ₁ => instK σ₁.H a fun _ _ fs => need (lk fs n) fun x => wpE P K E e σ₁ fun b σ₂ => augK op x b fun v => putA P a n v σ₂ fun σ₃ => Q .next σ₃
  | .ret e, σ, Q, E => wpO P K E e σ fun v σ₁ => Q (.ret (v.getD .none)) σ₁
  | .ite t a b, σ, Q, E => wpT P K E t σ fun c σ₁ => Br c (wpSs P K a σ₁ Q E) (wpSs P K b σ₁ Q E)
  | .loop ts it body, σ, Q, E => wpE P K E it σ fun v σ₁ => need (items σ₁.H v) fun xs =>
      loopGo (fun v σ₂ k => bindT ts v σ₂ fun σ₃ => wpSs P K body σ₃ k noE) (still v xs) xs σ₁ Q
  | .loopEnum g i x it body, σ, Q, E => need (P.glob g) fun w => Nd (isEnu w = true) (wpE P K E it σ fun v σ₁ => need (see σ₁.H v) fun y => need (aLst y) fun xs => Nd (xs = []) (Q .next σ₁))
  | .while_ t body, σ, Q, _ => ∃ n, whileGo (fun σ₁ k => wpT P K noE t σ₁ k) (fun σ₁ k => wpSs P K body σ₁ k noE) n σ Q
  | .raise i e, σ, _, E => need (P.glob i) fun v => need (aCls v) fun k => Nd (P.exc k = true) (wpE P K noE e σ fun _ σ₁ => E σ₁.H.next (σ₁.setH (σ₁.H.new (.exc k))))
  | .try_ body i as h, σ, Q, _ => need (P.glob i) fun v => need (aCls v) fun k => wpSs P K body σ Q fun j σ₁ => need (cE (σ₁.H.get j)) fun m => Nd (P.exc k = true) (Nd (P.sub m k = true) (wpSs P K h (asPut as j σ₁) (fun fl σ₂ => Q fl (asUnb as σ₂)) noE))
noncomputable def wpSs (P : Prog) (K : CT) : PSs → St → (Flow → St → Prop) → EP → Prop
  | .nil, σ, Q, _ => Q .next σ
  | .cons s r, σ, Q, E => wpS P K s σ (fun fl σ₁ => seqK fl σ₁ (fun σ₂ => wpSs P K r σ₂ Q E) Q) E
end

noncomputable def bindP : List Nat → List V → Loc → Option Loc
  | [], vs, m => (match vs with | [] => some m | _ => none)
  | p :: ps, vs, m => (match vs with | a :: as => bindP ps as (upd m p a) | [] => none)
noncomputable def retV : Flow → V
  | .ret v => v
  | _ => .none
/-- calls to depth n -/
noncomputable def CW (P : Prog) : Nat → CT
  | 0 => fun _ _ _ _ _ => False
  | n + 1 => fun f as H Q E => need (P.fn f) fun d => need (bindP d.params as fun _ => none) fun m =>
      wpSs P (CW P n) d.body ⟨H, m⟩ (fun fl σ => Q (retV fl) σ.H) fun e σ => E e σ.H
end Mine

end

section
set_option autoImplicit false
set_option linter.all false
set_option genSizeOf false
set_option genInjectivity false
namespace Mine
open PySem (Str)
/-- where a def stands: at the top, or in a class -/
inductive Src where
  | g (x : Str)
  | m (c x : Str)
/-- the tables of a text: names, defs, global names, classes -/
structure Tb where
  nms : List (Nat × Str)
  fns : List (Nat × Src × Fn)
  globs : List (Nat × V)
  clss : List (Nat × Str × Cl)
  excs : List (Nat × Str)
  subs : List (Nat × Nat)
  quiet : List Nat
  qg : List Nat
  nAppend : Nat
  nPop : Nat
  nExtend : Nat
  nGet : Nat
  nSetdefault : Nat
noncomputable def sub2 : List (Nat × Nat) → Nat → Nat → Bool
  | [], _, _ => false
  | p :: r, j, k => cond (Nat.beq p.1 j && Nat.beq p.2 k) true (sub2 r j k)
noncomputable def mp2 {α β : Type} : Option (α × β) → Option β
  | some y => some y.2
  | none => none
noncomputable def isSm {α : Type} : Option α → Bool
  | some _ => true
  | none => false
noncomputable def hasN : List Nat → Nat → Bool
  | [], _ => false
  | a :: r, k => cond (Nat.beq a k) true (hasN r k)
noncomputable def Tb.P (t : Tb) : Prog where
  fn := fun k => mp2 (lk t.fns k)
  cls := fun k => mp2 (lk t.clss k)
  glob := fun i => lk t.globs i
  sub := fun j k => sub2 t.subs j k
  exc := fun k => isSm (lk t.excs k)
  nAppend := t.nAppend
  nPop := t.nPop
  nExtend := t.nExtend
  nGet := t.nGet
  nSetdefault := t.nSetdefault
end Mine

end

section
set_option autoImplicit false
set_option linter.all false
set_option genSizeOf false
set_option genInjectivity false
namespace Mine
theorem ins_perm (x : Int) (l : List Int) : (ins x l).Perm (x :: l) := by
  induction l with
  | nil => exact .refl _
  | cons y r ih =>
    show (if x ≤ y then x :: y :: r else y :: ins x r).Perm _
    by_cases h : x ≤ y
    · rw [if_pos h]
    · rw [if_neg h]; exact (ih.cons y).trans (.swap x y r)
theorem srt_perm (l : List Int) : (srt l).Perm l := by
  induction l with
  | nil => exact .refl _
  | cons x r ih => exact (ins_perm x _).trans (ih.cons x)
theorem ins_sorted (x : Int) {l : List Int} (h : l.Pairwise (· ≤ ·)) : (ins x l).Pairwise (· ≤ ·) := by
  induction l with
  | nil => exact List.pairwise_singleton _ _
  | cons y r ih =>
    have h' := List.pairwise_cons.mp h
    show (if x ≤ y then x :: y :: r else y :: ins x r).Pairwise _
    by_cases c : x ≤ y
    · rw [if_pos c]
      refine List.pairwise_cons.mpr ⟨fun z hz => ?_, h⟩
      rcases List.mem_cons.mp hz with q | q
      · rw [q]; exact c
      · exact Int.le_trans c (h'.1 z q)
    · rw [if_neg c]
      refine List.pairwise_cons.mpr ⟨fun z hz => ?_, ih h'.2⟩
      rcases List.mem_cons.mp ((ins_perm x r).mem_iff.mp hz) with q | q
      · rw [q]; exact Int.le_of_lt (Int.not_le.mp c)
      · exact h'.1 z q
theorem srt_sorted (l : List Int) : (srt l).Pairwise (· ≤ ·) := by
  induction l with
  | nil => exact .nil
  | cons x r ih => exact ins_sorted x ih
theorem srt_uniq {a b : List Int} (h : a.Perm b) (ha : a.Pairwise (· ≤ ·)) : a = srt b :=
  (h.trans (srt_perm b).symm).eq_of_pairwise (le := (· ≤ ·)) (fun _ _ _ _ p q => Int.le_antisymm p q) ha (srt_sorted b)
end Mine

end

section
set_option autoImplicit false
set_option linter.all false
set_option genSizeOf false
set_option genInjectivity false
namespace Mine
open PySem PySem.W PySem.Calls PyProof.Rows
/-! Sets of ints, with their tables. -/
inductive ElT : List (Int × Value) → List Int → Prop
  | nil : ElT [] []
  | cons {l : List (Int × Value)} {L : List Int} (i : Int) (t : Tok) : ElT l L → ElT ((hashInt i, .int i t) :: l) (i :: L)
inductive SetT (h : Heap) (a : Addr) (p : List Int × SetTable) : Prop
  | mk (o : Obj) (es : Array (Int × Value)) (ep : Nat) (g : h.get? a = some o) (x : o.ExactSet) (d : o.data = .set es ep p.2) (e : ElT es.toList p.1) (f : p.2.fits es.size = true)
theorem ElT.len {l : List (Int × Value)} {L : List Int} (h : ElT l L) : l.length = L.length := by
  induction h with
  | nil => rfl
  | cons _ _ _ ih => exact congrArg (· + 1) ih
theorem ElT.size {l : Array (Int × Value)} {L : List Int} (h : ElT l.toList L) : l.size = L.length := h.len
theorem ElT.hash {l : List (Int × Value)} {L : List Int} (h : ElT l L) : l.map (·.1) = L.map hashInt := by
  induction h with
  | nil => rfl
  | cons i _ _ ih => exact congrArg (hashInt i :: ·) ih
theorem ElT.append {l l' : List (Int × Value)} {L L' : List Int} (h : ElT l L) (h' : ElT l' L') : ElT (l ++ l') (L ++ L') := by
  induction h with
  | nil => exact h'
  | cons i t _ ih => exact .cons i t ih
theorem ElT.take {l : List (Int × Value)} {L : List Int} (h : ElT l L) : ∀ k : Nat, ElT (l.take k) (L.take k) := by
  induction h with
  | nil => intro k; cases k <;> exact .nil
  | cons i t _ ih =>
    intro k
    cases k with
    | zero => exact .nil
    | succ k => exact .cons i t (ih k)
theorem ElT.drop {l : List (Int × Value)} {L : List Int} (h : ElT l L) : ∀ k : Nat, ElT (l.drop k) (L.drop k) := by
  induction h with
  | nil => intro k; cases k <;> exact .nil
  | cons i t h ih =>
    intro k
    cases k with
    | zero => exact .cons i t h
    | succ k => exact ih k
theorem ElT.get {l : List (Int × Value)} {L : List Int} (h : ElT l L) : ∀ k : Nat, (l[k]? = none ∧ L[k]? = none) ∨ ∃ i t, l[k]? = some (hashInt i, .int i t) ∧ L[k]? = some i := by
  induction h with
  | nil => exact fun k => .inl ⟨rfl, rfl⟩
  | cons i t _ ih =>
    intro k
    cases k with
    | zero => exact .inr ⟨i, t, rfl, rfl⟩
    | succ k => exact ih k
theorem ElT.pick {l : List (Int × Value)} {L : List Int} (h : ElT l L) (o : List Nat) : ElT (o.filterMap fun k => l[k]?) (o.filterMap fun k => L[k]?) := by
  induction o with
  | nil => exact .nil
  | cons k o ih =>
    rw [List.filterMap_cons, List.filterMap_cons]
    rcases h.get k with ⟨a, b⟩ | ⟨i, t, a, b⟩
    · rw [a, b]; exact ih
    · rw [a, b]; exact .cons i t ih
theorem lay_eq {es : Array (Int × Value)} {L : List Int} (h : ElT es.toList L) (t : SetTable) (i : Int) (u : Tok) : ElT (layNew t es (hashInt i) (.int i u)).1.toList (layT L t i).1 ∧ (layNew t es (hashInt i) (.int i u)).2.1 = (layT L t i).2.1 ∧ (layNew t es (hashInt i) (.int i u)).2.2.1 = (layT L t i).2.2 := by
  unfold layNew layT
  cases t.freeSlot (hashInt i) with
  | none =>
    refine ⟨?_, by rw [h.size], rfl⟩
    show ElT (es.push _).toList _
    rw [Array.toList_push]; exact h.append (.cons i u .nil)
  | some r =>
    obtain ⟨slot, wd⟩ := r
    have e : (SetTable.insertAt es (t.put slot).2 (hashInt i, Value.int i u)).toList = es.toList.take (t.put slot).2 ++ (hashInt i, Value.int i u) :: es.toList.drop (t.put slot).2 := SetTable.toList_insertAt ..
    have hE : ElT (SetTable.insertAt es (t.put slot).2 (hashInt i, Value.int i u)).toList (L.take (t.put slot).2 ++ i :: L.drop (t.put slot).2) := by
      rw [e]; exact (h.take _).append (.cons i u (h.drop _))
    refine ⟨hE, ?_, rfl⟩
    show (t.put slot).1.orStandIn (SetTable.insertAt es (t.put slot).2 (hashInt i, Value.int i u)).size = _
    rw [hE.size, List.length_append, List.length_cons, ← Nat.add_assoc, ← List.length_append, List.take_append_drop]
theorem rel_eq {es : Array (Int × Value)} {L : List Int} (h : ElT es.toList L) (t : SetTable) (n : Nat) : ElT (relayAll t es n).1.toList (relT L t n).1 ∧ (relayAll t es n).2.1 = (relT L t n).2 := by
  have hm : es.map (·.1) = (L.map hashInt).toArray := by
    apply Array.toList_inj.mp
    rw [Array.toList_map, h.hash]
  unfold relayAll relT
  rw [hm, h.size]
  cases t.relaid (L.map hashInt).toArray n with
  | none => exact ⟨h, rfl⟩
  | some r =>
    obtain ⟨t', o⟩ := r
    have hE : ElT (o.filterMap (es[·]?)).toList (o.toList.filterMap fun k => L[k]?) := by
      rw [Array.toList_filterMap]
      have := h.pick o.toList
      simpa [Array.getElem?_toList] using this
    dsimp only
    rw [hE.size]
    split
    · exact ⟨hE, rfl⟩
    · exact ⟨h, rfl⟩
end Mine

end

section
set_option autoImplicit false
set_option linter.all false
set_option genSizeOf false
set_option genInjectivity false
namespace Mine
open PySem PySem.W PySem.Calls PyProof.Rows
section
variable {prog : Program} {w : World} {A : Around} {E : Value → Shared → Prop} {s : Shared}
theorem ElT.elems {l : List (Int × Value)} {L : List Int} (h : ElT l L) : ElemsOf (intKind prog w) l := by
  induction h with
  | nil => exact fun e he => (nomatch he)
  | cons i t _ ih => exact fun e he => (List.mem_cons.mp he).elim (fun q => q ▸ ⟨⟨i, intKind_is _ _ _ _, rfl⟩, rfl⟩) (ih e)
theorem ElT.mem {l : List (Int × Value)} {L : List Int} (h : ElT l L) {i : Int} : i ∈ L ↔ ∃ e ∈ l, (intKind prog w).is i e.2 = true := by
  induction h with
  | nil => exact ⟨fun q => (nomatch q), fun ⟨e, he, _⟩ => (nomatch he)⟩
  | @cons l L j t _ ih =>
    have hj : (intKind prog w).is i (.int j t) = true ↔ i = j := by
      rw [KeyKind.is_eq_decide (intKind_is prog w j t) i, decide_eq_true_eq]
    constructor
    · intro q
      rcases List.mem_cons.mp q with q | q
      · exact ⟨_, .head _, hj.mpr q⟩
      · obtain ⟨e, he, z⟩ := ih.mp q; exact ⟨e, .tail _ he, z⟩
    · rintro ⟨e, he, z⟩
      rcases List.mem_cons.mp he with rfl | he
      · rw [hj.mp z]; exact .head _
      · exact .tail _ (ih.mpr ⟨e, he, z⟩)
theorem SetT.store {h : Heap} {a : Addr} {o : Obj} {es : Array (Int × Value)} {ep : Nat} {t : SetTable} (ho : h.get? a = some o) (hex : o.ExactSet) (hd : o.data = .set es ep t) {es' : Array (Int × Value)} {t' : SetTable} {L : List Int} (e : ElT es'.toList L) (f : t'.fits es'.size = true) :
    (h.update a (Obj.putSet es' t')).get? a = some { o with data := .set es' (ep + 1) t' } ∧ SetT (h.update a (Obj.putSet es' t')) a (L, t') := by
  have hg : (h.update a (Obj.putSet es' t')).get? a = some { o with data := .set es' (ep + 1) t' } := by
    have := Heap.get?_update_self (Obj.putSet es' t') ho (by rw [putSet_of es' t' hd]; rfl)
    rw [putSet_of es' t' hd] at this; exact this
  exact ⟨hg, _, es', ep + 1, hg, hex, rfl, e, f⟩
theorem SetT.keep {h h' : Heap} {a : Addr} {p : List Int × SetTable} (S : SetT h a p) (k : ∀ o, h.get? a = some o → h'.get? a = some o) : SetT h' a p := by
  obtain ⟨o, es, ep, ho, hex, hd, e, f⟩ := S
  exact ⟨o, es, ep, k o ho, hex, hd, e, f⟩
theorem lay_len {L : List Int} {t : SetTable} {i : Int} : (layT L t i).1.length = L.length + 1 := by
  unfold layT
  cases t.freeSlot (hashInt i) with
  | none => exact List.length_append
  | some r => show (L.take (t.put r.1).2 ++ i :: L.drop (t.put r.1).2).length = _; rw [List.length_append, List.length_cons, ← Nat.add_assoc, ← List.length_append, List.take_append_drop]
theorem add_tail {g : Bool → Sem Unit} (hg : ∀ (b : Bool) (s₁ : Shared) (Q' : Unit → Shared → Prop), Q' () s₁ → wpAny (model prog w) A (g b) Q' E s₁)
    {a : Addr} {o : Obj} {es : Array (Int × Value)} {ep : Nat} {t : SetTable} (ho : s.heap.get? a = some o) (hex : o.ExactSet) (hd : o.data = .set es ep t)
    {es1 : Array (Int × Value)} {t2 : SetTable} {L : List Int} (e : ElT es1.toList L) (hb : es1.size < scanBound) (f : t2.fits es1.size = true) {wd : Bool} {R : Option Bool → Shared → Prop}
    (h : ∀ h', Heap.SameBut a s.heap h' → SetT h' a (if (!wd && t2.tooFull) = true then relT L t2 (SetTable.grown L.length) else (L, t2)) → R (some true) { s with heap := h' }) :
    wpAny (model prog w) A (do
        storeSet a es1 t2
        if (!wd && t2.tooFull) = true then do
            g (relayAll t2 es1 (SetTable.grown es1.size)).2.2
            storeSet a (relayAll t2 es1 (SetTable.grown es1.size)).1 (relayAll t2 es1 (SetTable.grown es1.size)).2.1
            pure (some true)
          else pure (some true)) R E s := by
  refine wpAny_bind (wpAny_storeSet_of ho hd ?_ (fits_of_scanBound hb))
  obtain ⟨ho1, S1⟩ := SetT.store ho hex hd e f
  have b1 := Heap.SameBut.update s.heap a (Obj.putSet es1 t2)
  by_cases c : (!wd && t2.tooFull) = true
  · rw [if_pos c] at h ⊢
    obtain ⟨e2, t2e⟩ := rel_eq e t2 (SetTable.grown es1.size)
    have rp := relayAll_perm t2 es1 (SetTable.grown es1.size)
    have hz : (relayAll t2 es1 (SetTable.grown es1.size)).1.size = es1.size := by rw [← Array.length_toList, rp.length_eq, Array.length_toList]
    refine wpAny_bind (hg _ _ _ (wpAny_bind (wpAny_storeSet_of ho1 rfl ?_ (fits_of_scanBound (by rw [hz]; exact hb)))))
    have S2 := (SetT.store ho1 hex rfl e2 (relayAll_fits t2 es1 (SetTable.grown es1.size))).2
    refine wpAny_pure (h _ (b1.trans (Heap.SameBut.update _ a _)) ?_)
    rw [← e.size]
    have : ((relT L t2 (SetTable.grown es1.size)).1, (relayAll t2 es1 (SetTable.grown es1.size)).2.1) = relT L t2 (SetTable.grown es1.size) := by rw [t2e]
    rw [← this]; exact S2
  · rw [if_neg c] at h ⊢
    exact wpAny_pure (h _ b1 S1)
theorem setAdd_ok {a : Addr} {p : List Int × SetTable} {i : Int} {u : Tok} {Q : Bool → Shared → Prop} (S : SetT s.heap a p) (hr : p.1.length + 1 < scanBound)
    (h : ∀ h' b, Heap.SameBut a s.heap h' → SetT h' a (addT p i) → Q b { s with heap := h' }) : wpAny (model prog w) A (setAddHashed a (.int i u) (hashInt i)) Q E s := by
  obtain ⟨L, t⟩ := p
  obtain ⟨o, es, ep, ho, hex, hd, e, f⟩ := id S
  have hd : o.data = .set es ep t := hd
  have e : ElT es.toList L := e
  have f : t.fits es.size = true := f
  have hr : L.length + 1 < scanBound := hr
  have hb : es.size < scanBound := by rw [e.size]; exact Nat.lt_of_succ_lt hr
  have mem : i ∈ L ↔ ∃ e ∈ es.toList, (intKind prog w).is i e.2 = true := e.mem
  unfold setAddHashed setAddHashedIn
  refine wpAny_holding (wpAny_bind (wpAny_setState_of ho hd f ?_))
  dsimp only
  rw [byScan_of (knd := intKind prog w) (x := .int i u) rfl hb e.elems]
  simp only [↓reduceIte]
  unfold setAddByScan
  refine wpAny_bind (wpAny_bind (wpAny_rule (wpAny_bind (wpAny_setScan_of (knd := intKind prog w) (intKind_is prog w i u) ho hd f e.elems ?_))))
  cases q : List.findIdx? (fun e => (intKind prog w).is i e.2) es.toList with
  | some j =>
    obtain ⟨hj, hp, _⟩ := List.findIdx?_eq_some_iff_getElem.mp q
    have hi : i ∈ L := mem.mpr ⟨_, List.getElem_mem hj, hp⟩
    refine wpAny_pure (wpAny_pure ?_)
    exact h s.heap false (Heap.SameBut.refl a s.heap) (by unfold addT; rw [if_pos hi]; exact S)
  | none =>
    have hi : i ∉ L := fun z => by
      obtain ⟨e', he, hp⟩ := mem.mp z
      rw [List.findIdx?_eq_none_iff.mp q e' he] at hp; cases hp
    obtain ⟨e1, q2, q3⟩ := lay_eq e t i u
    have hf := layNew_fits t es (hashInt i) (.int i u)
    have hb1 : (layNew t es (hashInt i) (.int i u)).1.size < scanBound := by rw [e1.size, lay_len]; exact hr
    have h : ∀ h' b, Heap.SameBut a s.heap h' → SetT h' a (if (!(layT L t i).2.2 && (layT L t i).2.1.tooFull) = true then relT (layT L t i).1 (layT L t i).2.1 (SetTable.grown (layT L t i).1.length) else ((layT L t i).1, (layT L t i).2.1)) → Q b { s with heap := h' } := fun h' b sb S' => h h' b sb (by unfold addT; rw [if_neg hi]; exact S')
    rw [← q2, ← q3] at h
    generalize (layT L t i).1 = L1 at e1 h
    generalize layNew t es (hashInt i) (.int i u) = LL at e1 hf hb1 h ⊢
    obtain ⟨es1, t1, wd, gave⟩ := LL
    dsimp only at e1 hf hb1 h ⊢
    have hg : ∀ (b : Bool) (s₁ : Shared) (Q' : Unit → Shared → Prop), Q' () s₁ → wpAny (model prog w) A (match b with | true => rule "set.scan.the-table-gave-way" | false => pure ()) Q' E s₁ :=
      fun b s₁ Q' hq => by cases b <;> first | exact wpAny_pure hq | exact wpAny_rule hq
    refine wpAny_bind (hg _ _ _ ?_)
    split
    · refine wpAny_bind ?_
      rw [hashByValue_scannable 8 (x := .int i u) rfl]
      refine wpAny_pure ?_
      exact add_tail (wd := wd) hg ho hex hd e1 hb1 hf fun h' sb S' => wpAny_pure (h h' true sb S')
    · refine wpAny_bind (wpAny_pure ?_)
      simp only [↓reduceIte]
      exact add_tail (wd := wd) hg ho hex hd e1 hb1 hf fun h' sb S' => wpAny_pure (h h' true sb S')
end
end Mine

end

section
set_option autoImplicit false
set_option linter.all false
set_option genSizeOf false
set_option genInjectivity false
namespace Mine
open PySem PySem.W PySem.Calls PyProof.Rows
section
variable {prog : Program} {w : World} {A : Around} {E : Value → Shared → Prop} {s : Shared}
theorem addT_len {p : List Int × SetTable} {i : Int} : (addT p i).1.length ≤ p.1.length + 1 := by
  unfold addT
  split
  · exact Nat.le_succ _
  · split
    · unfold relT
      split
      · rename_i t' o _
        split
        · rename_i c
          have c := (Bool.and_eq_true ..).mp c
          have hp : List.Perm o.toList (List.range (layT p.1 p.2 i).1.length) := List.isPerm_iff.mp c.1
          have h1 := List.length_filterMap_le (fun k => (layT p.1 p.2 i).1[k]?) o.toList
          rw [hp.length_eq, List.length_range, lay_len] at h1
          exact h1
        · exact Nat.le_of_eq lay_len
      · exact Nat.le_of_eq lay_len
    · exact Nat.le_of_eq lay_len
theorem upd_loop {S I l : Addr} {items : Array Value} {ns : List Int} (hh : A.handled = none) (hi : IntsAre items.toList ns) (n1 : S ≠ I) (n2 : S ≠ l) (n3 : I ≠ l) {R : Result → Shared → Prop} (r : List Int) :
    ∀ (k : Nat) (L : List Int × SetTable) (s : Shared), ns.drop k = r → s.heap.IsListIter I l k → s.heap.IsList l items → SetT s.heap S L → L.1.length + r.length + 1 < scanBound →
      (∀ h' tk, SetT h' S (r.foldl addT L) → (∀ b o, b ≠ S → b ≠ I → s.heap.get? b = some o → h'.get? b = some o) → R (.ok (.ret .none)) { s with heap := h', toks := tk }) →
      codeAny (model prog w) A (.builtin "set.update.loop" ⟨[.ref S, .ref I], []⟩) R s := by
  induction r with
  | nil =>
    intro k L s hd it hl hS hb h
    have hn : items[k]? = none := by
      rw [← Array.getElem?_toList]
      refine List.getElem?_eq_none ?_
      rw [hi.length]; exact List.drop_eq_nil_iff.mp hd
    refine codeAny_builtin PyProof.Rows.F.entry_set_update_loop ?_
    rw [Around.under_plainId PyProof.Rows.F.plain_set_update_loop _]
    show wpAny _ A.in1 (pyNext (.ref I) >>= _) _ _ s
    refine wpAny_bind (wpAny_pyNext_list_end (A := A.in1) (by simp [hh]) it hl hn fun h' hs => ?_)
    show wpAny _ A.in1 (ret Value.none) _ _ _
    exact wpAny_pure (h h' s.toks (hS.keep fun o e => hs S o n1 e) fun b o _ nb e => hs b o nb e)
  | cons i r ih =>
    intro k L s hd it hl hS hb h
    have hk : ns[k]? = some i := by rw [← List.head?_drop, hd]; rfl
    have hd' : ns.drop (k + 1) = r := by rw [← List.tail_drop, hd]; rfl
    have lt : k < items.toList.length := by rw [hi.length]; exact (List.getElem?_eq_some_iff.mp hk).1
    obtain ⟨t, ht⟩ := PyProof.Rows.IntsAre.int_at hi k _ (List.getElem?_eq_getElem lt)
    have hv : items[k]? = some (.int i t) := by
      rw [← Array.getElem?_toList, List.getElem?_eq_getElem lt, ht, List.getD_eq_getElem?_getD, hk]; rfl
    refine codeAny_builtin PyProof.Rows.F.entry_set_update_loop ?_
    rw [Around.under_plainId PyProof.Rows.F.plain_set_update_loop _]
    show wpAny _ A.in1 (pyNext (.ref I) >>= _) _ _ s
    refine wpAny_bind (wpAny_pyNext_list_item it hl hv fun h₁ it₁ hs₁ => ?_)
    show wpAny _ A.in1 (holding [Value.int i t] (setAdd S (.int i t)) >>= _) _ _ _
    refine wpAny_bind (wpAny_holding ?_)
    unfold setAdd
    refine wpAny_holding (wpAny_bind ((intKind prog w).pyHash (k := i) (intKind_is _ _ _ _) ?_))
    have hb : L.1.length + (r.length + 1) + 1 < scanBound := hb
    refine setAdd_ok (s := { s with heap := h₁, toks := s.toks + 1 }) (hS.keep fun o e => hs₁.extBut S o n1 e) (by omega) fun h₂ b hs₂ S₂ => ?_
    refine wpAny_pure ⟨plainId_quiet PyProof.Rows.F.plain_set_update_loop _, ih (k + 1) (addT L i) _ hd' ?_ ?_ S₂ (by have := addT_len (p := L) (i := i); omega) fun h' tk S' kp => h h' tk S' fun b o nb nI e => ?_⟩
    · obtain ⟨o, ho, q⟩ := it₁
      exact ⟨o, hs₂.extBut I o (Ne.symm n1) ho, q⟩
    · obtain ⟨o, ho, q⟩ := hl
      exact ⟨o, hs₂.extBut l o (Ne.symm n2) (hs₁.extBut l o (Ne.symm n3) ho), q⟩
    · exact kp b o nb nI (hs₂.extBut b o nb (hs₁.extBut b o nI e))
end
end Mine

end

section
set_option autoImplicit false
set_option linter.all false
set_option genSizeOf false
set_option genInjectivity false
set_option maxRecDepth 100000
set_option maxHeartbeats 3200000
namespace Mine
open PySem PySem.W PySem.Calls PyProof.Rows
/-- sets are walked in the order of their tables -/
noncomputable def ledW (w : World) : Bool := !w.params.followText "set-order"
abbrev setO (led : Bool) : Obj := { cls := .type "set", dict := none, data := .set #[] 0 (.fresh 0 0 led) }
section
variable {prog : Program} {w : World} {A : Around} {E : Value → Shared → Prop} {s : Shared}
theorem set_new (a : Value) {Q₁ : Value → Shared → Prop} (h : Q₁ (.ref s.heap.objs.size) { s with heap := s.heap.push (setO (ledW w)) }) :
    codeAny (model prog w) A (.call (.builtin "set.__new__") ⟨[.type "set", a], []⟩) (wants Q₁ E) s := by
  refine codeAny_of_tree ?_
  show wpAny _ A.in1 (do checkBuiltinCall "set.__new__" ⟨[.type "set", a], []⟩; again (.builtin "set.__new__" ⟨[.type "set", a], []⟩)) _ _ s
  refine wpAny_bind (wpAny_of_eq (PySem.F.newCall_set_1 a) (wpAny_pure ⟨plainId_quiet PySem.F.plain_set_new _, codeAny_builtin PySem.F.entry_set_new ?_⟩))
  rw [Around.under_plainId PySem.F.plain_set_new _]
  unfold Builtin.«set.__new__» Builtin.Frozenset.newClass
  have hsub := sub_set_self
  obtain ⟨hp, g, d, tk, os⟩ := s
  dsimp only
  wp_walk
  refine wpAny_askSetting (wpAny_pure ?_)
  dsimp only
  simp only [newObj]
  exact wpAny_bind (wpAny_alloc (wpAny_pure (wpAny_pure h)))
noncomputable abbrev newT (w : World) : List Int × SetTable := ([], .fresh 0 0 (ledW w))
theorem SetT.new {h : Heap} {w : World} : SetT (h.push (setO (ledW w))) h.objs.size (newT w) := ⟨_, #[], 0, Heap.get?_push_size _ rfl, ⟨rfl, rfl, rfl⟩, rfl, .nil, by rfl⟩
theorem set_list {l : Addr} {items : Array Value} {ns : List Int} {Q : Value → Shared → Prop} (hh : A.handled = none) (hl : s.heap.IsList l items) (hi : IntsAre items.toList ns) (hb : ns.length + 1 < scanBound)
    (h : ∀ h' tk, SetT h' s.heap.objs.size (ns.foldl addT (newT w)) → (∀ b o, s.heap.get? b = some o → h'.get? b = some o) → Q (.ref s.heap.objs.size) { s with heap := h', toks := tk }) :
    wpAny (model prog w) A (call (.type "set") [.ref l]) Q E s := by
  obtain ⟨c, tl, hmro⟩ := PySem.F.called_set.mro
  have hmade := PySem.F.called_set.made
  have hsub := PySem.F.called_set.sub
  refine wpAny_call (codeAny_of_tree ?_)
  show wpAny _ _ (callAny (.type "set") _) _ _ _
  refine wpAny_pure ⟨Code.quiet_builtin _ (by decide +kernel), codeAny_builtin PySem.F.entry_type_call ?_⟩
  rw [Around.under_plain (weight_type_call_type "set" [.ref l] []) rfl]
  have h1 := PySem.F.called_set.notType
  have h2 := PySem.F.called_set.canCreate
  have hct := PySem.F.typeCall_set_1 (.ref l)
  repeat (any_goals (first | assumption | wp_step))
  refine codeAny_mono (set_new (.ref l) (E := E) (Q₁ := fun obj s₁ => obj = .ref s.heap.objs.size ∧ s₁ = { s with heap := s.heap.push (setO (ledW w)) }) ⟨rfl, rfl⟩) fun r s₁ hr => ?_
  cases r with
  | error e => exact hr
  | ok fl =>
    cases fl with
    | ret obj =>
      obtain ⟨rfl, rfl⟩ := hr
      have hS : (s.heap.push (setO (ledW w))).get? s.heap.objs.size = some (setO (ledW w)) := Heap.get?_push_size _ rfl
      have hT : Shared.TypeIs { s with heap := s.heap.push (setO (ledW w)) } (.ref s.heap.objs.size) "set" := ⟨_, hS, rfl⟩
      have hli := PySem.F.called_set.init.lookup
      have hbi := PySem.F.called_set.init.bind (.ref s.heap.objs.size)
      repeat (any_goals (first | assumption | wp_step))
      refine codeAny_mono (codeAny_call_builtin (R := wants (fun r s₂ => r = .none ∧ ∃ h' tk, s₂ = { s with heap := h', toks := tk } ∧ SetT h' s.heap.objs.size (ns.foldl addT (newT w)) ∧ ∀ b o, s.heap.get? b = some o → h'.get? b = some o) E) PySem.F.called_set.init.plain PySem.F.entry_set_init (check_set_init_1 hT ?_)) fun r₂ s₂ hr₂ => ?_
      · obtain ⟨ol, hol, hcl, nl, hdl⟩ := hl
        obtain ⟨ocls, odict, odata, oslots⟩ := ol
        simp only at hcl hdl
        subst hcl; subst hdl
        have hol' : (s.heap.push (setO (ledW w))).get? l = some { cls := .type "list", dict := odict, data := .seq items nl, slots := oslots } := Heap.get?_push_of_some _ hol
        have hsls := PySem.F.sub_list_set
        have hslf := PySem.F.sub_list_frozenset
        have hne : (Value.type "list" == Value.type "dict") = false := by decide
        have hl1 : (s.heap.push (setO (ledW w))).IsList l items := ⟨_, hol', rfl, nl, rfl⟩
        have lt : l < s.heap.objs.size := Heap.lt_size hol
        have eI : (s.heap.push (setO (ledW w))).objs.size = s.heap.objs.size + 1 := Heap.size_push ..
        unfold Builtin.«set.__init__» noKeywords Builtin.Frozenset.updateFrom
        generalize hPI : pyIter = PI
        wp_walk
        subst hPI
        refine wpAny_pyIter_list hl1 (wpAny_bind (wpAny_runValue ?_))
        refine upd_loop (by simp [hh]) hi (by rw [eI]; exact Nat.ne_of_lt (Nat.lt_succ_self _)) (Nat.ne_of_gt lt) (by rw [eI]; exact Nat.ne_of_gt (Nat.lt_succ_of_lt lt)) ns 0 (newT w) _ rfl ⟨_, Heap.get?_push_size _ rfl, rfl, rfl⟩ (hl1.push _) (SetT.new.keep fun o e => Heap.get?_push_of_some _ e) (by simpa using hb) fun h' tk S' kp => ?_
        show wpAny _ _ _ _ _ _
        refine wpAny_pure ?_
        show wpAny _ _ (ret Value.none) _ _ _
        refine wpAny_pure ⟨rfl, h', tk, rfl, S', fun b o e => kp b o (Nat.ne_of_lt (Heap.lt_size e)) (by rw [eI]; exact Nat.ne_of_lt (Nat.lt_succ_of_lt (Heap.lt_size e))) (Heap.get?_push_of_some _ (Heap.get?_push_of_some _ e))⟩
      · cases r₂ with
        | error e => exact hr₂
        | ok fl₂ =>
          cases fl₂ with
          | ret r =>
            obtain ⟨rfl, h', tk, rfl, S', kp⟩ := hr₂
            repeat (any_goals (first | assumption | wp_step))
            exact h _ _ S' kp
          | _ => exact hr₂
    | _ => exact hr
end
end Mine

end

section
set_option autoImplicit false
set_option linter.all false
set_option genSizeOf false
set_option genInjectivity false
namespace Mine
open PySem PySem.W PySem.Calls PyProof.Rows
section
variable {prog : Program} {w : World} {A : Around} {E : Value → Shared → Prop} {s : Shared}
theorem reo_ok {es : Array (Int × Value)} {L : List Int} (e : ElT es.toList L) {x : Option (SetTable × Array Nat)} {r : List Int × SetTable} (h : reoT L x = some r) {G : Prop} (g : ∀ o, x = some (r.2, o) → ElT (o.filterMap (es[·]?)).toList r.1 → (o.filterMap (es[·]?)).size = es.size → r.2.fits (o.filterMap (es[·]?)).size = true → G) : G := by
  cases x with
  | none => cases h
  | some y =>
    obtain ⟨t, o⟩ := y
    have h : (if ((o.toList.filterMap fun k => L[k]?).length == L.length && t.fits L.length) = true then some (o.toList.filterMap fun k => L[k]?, t) else none) = some r := h
    by_cases c : ((o.toList.filterMap fun k => L[k]?).length == L.length && t.fits L.length) = true
    · rw [if_pos c] at h
      cases h
      have c := (Bool.and_eq_true ..).mp c
      have hE : ElT (o.filterMap (es[·]?)).toList (o.toList.filterMap fun k => L[k]?) := by
        rw [Array.toList_filterMap]
        have := e.pick o.toList
        simpa [Array.getElem?_toList] using this
      have hz : (o.filterMap (es[·]?)).size = es.size := by rw [hE.size, beq_iff_eq.mp c.1, e.size]
      exact g o rfl hE hz (by rw [hz, e.size]; exact c.2)
    · rw [if_neg c] at h; cases h
theorem relay_ok {a : Addr} {p r : List Int × SetTable} {n : Nat} {Q : Unit → Shared → Prop} (S : SetT s.heap a p) (hb : p.1.length < scanBound) (hz : SetTable.sizeAbove n ≤ sizeLine) (he : reoT p.1 (p.2.relaid (p.1.map hashInt).toArray n) = some r)
    (h : ∀ h', Heap.SameBut a s.heap h' → SetT h' a r → Q () { s with heap := h' }) : wpAny (model prog w) A (setRelay a n) Q E s := by
  obtain ⟨L, t⟩ := p
  obtain ⟨o, es, ep, ho, hex, hd, e, f⟩ := S
  have e : ElT es.toList L := e
  have hm : es.map (·.1) = (L.map hashInt).toArray := by
    apply Array.toList_inj.mp
    rw [Array.toList_map, e.hash]
  unfold setRelay
  refine wpAny_bind (wpAny_setState_of ho hd f ?_)
  dsimp only
  rw [if_neg (Nat.not_lt.mpr hz), hm]
  refine reo_ok e he fun od hq hE hs hf => ?_
  rw [show t.relaid (L.map hashInt).toArray n = some (r.2, od) from hq]
  refine wpAny_bind ?_
  show wpAny _ _ (if ((od.filterMap (es[·]?)).size != es.size) = true then _ else _) _ _ _
  rw [hs, if_neg (by simp)]
  refine wpAny_pure ?_
  have S' := (SetT.store ho hex hd hE hf).2
  exact wpAny_storeSet_of ho hd (h _ (Heap.SameBut.update s.heap a _) S') (fits_of_scanBound (by rw [hs, e.size]; exact hb))
theorem room_ok {a : Addr} {p r : List Int × SetTable} {n : Nat} {Q : Unit → Shared → Prop} (S : SetT s.heap a p) (hb : p.1.length < scanBound) (he : roomT p n = some r)
    (h : ∀ h', Heap.SameBut a s.heap h' → SetT h' a r → Q () { s with heap := h' }) : wpAny (model prog w) A (setRoomFor a n) Q E s := by
  obtain ⟨o, es, ep, ho, hex, hd, e, f⟩ := id S
  unfold setRoomFor
  refine wpAny_bind (wpAny_setState_of ho hd f ?_)
  unfold roomT at he
  cases q : p.2.roomFor n with
  | none =>
    rw [q] at he; cases he
    dsimp only
    exact wpAny_pure (h s.heap (Heap.SameBut.refl a s.heap) S)
  | some m =>
    rw [q] at he
    dsimp only at he ⊢
    by_cases c : SetTable.sizeAbove m ≤ sizeLine
    · rw [if_pos c] at he
      exact relay_ok S hb c he h
    · rw [if_neg c] at he; cases he
end
end Mine

end

section
set_option autoImplicit false
set_option linter.all false
set_option genSizeOf false
set_option genInjectivity false
namespace Mine
open PySem PySem.W PySem.Calls PyProof.Rows
section
variable {prog : Program} {w : World} {A : Around} {E : Value → Shared → Prop} {s : Shared}
theorem fits_same {t t' : SetTable} {n : Nat} (h : t.fits n = true) (h1 : t'.mask = t.mask) (h2 : t'.place = t.place) (h3 : t'.dummies = t.dummies) : t'.fits n = true := by
  unfold SetTable.fits SetTable.fill at h ⊢
  rw [h1, h2, h3]; exact h
theorem copy_ok {a b : Addr} {p r : List Int × SetTable} {Q : Unit → Shared → Prop} (hab : a ≠ b) (Sa : SetT s.heap a (newT w)) (Sb : SetT s.heap b p) (hb : p.1.length < scanBound) (he : copyT (ledW w) p = some r)
    (h : ∀ h', Heap.SameBut a s.heap h' → SetT h' a r → Q () { s with heap := h' }) : wpAny (model prog w) A (setMerge a b) Q E s := by
  obtain ⟨o, es, ep, ho, hex, hd, e, f⟩ := id Sb
  unfold setMerge
  rw [if_neg (by simpa using hab)]
  refine wpAny_bind (wpAny_setState_of ho hd f ?_)
  dsimp only
  unfold copyT at he
  have em : es.isEmpty = p.1.isEmpty := by
    have := e.size
    cases q : p.1 with
    | nil => rw [q] at this; exact decide_eq_true this
    | cons x l => rw [q] at this; exact decide_eq_false (by rw [this]; exact Nat.succ_ne_zero _)
  rw [em]
  by_cases c : p.1.isEmpty = true
  · rw [if_pos c] at he ⊢
    cases he
    exact wpAny_pure (h s.heap (Heap.SameBut.refl a s.heap) Sa)
  rw [if_neg c] at he ⊢
  rw [e.size]
  cases q : roomT (newT w) p.1.length with
  | none => rw [q] at he; cases he
  | some r₁ =>
    rw [q] at he
    refine wpAny_bind (room_ok Sa (by show 0 < 4096; decide) q fun h₁ sb₁ S₁ => ?_)
    obtain ⟨o₁, es₁, ep₁, ho₁, hex₁, hd₁, e₁, f₁⟩ := id S₁
    refine wpAny_bind (wpAny_setState_of (s := { s with heap := h₁ }) ho₁ hd₁ f₁ ?_)
    dsimp only at he ⊢
    cases qr : r₁.2.road p.2 with
    | oneByOne => rw [qr] at he; cases he
    | slotForSlot =>
      rw [qr] at he
      cases he
      have S' := (SetT.store (t' := { p.2 with finger := r₁.2.finger, led := r₁.2.led && p.2.led, moves := r₁.2.moves, plain := r₁.2.plain && p.2.plain }) ho₁ hex₁ hd₁ e (fits_same f rfl rfl rfl)).2
      exact wpAny_storeSet_of (s := { s with heap := h₁ }) ho₁ hd₁ (h _ (sb₁.trans (Heap.SameBut.update _ a _)) S') (fits_of_scanBound (by rw [e.size]; exact hb))
    | clean =>
      rw [qr] at he
      have hm : es.map (·.1) = (p.1.map hashInt).toArray := by
        apply Array.toList_inj.mp
        rw [Array.toList_map, e.hash]
      dsimp only
      rw [hm]
      refine reo_ok e he fun od hq hE hs hf => ?_
      rw [hq]
      refine wpAny_bind ?_
      show wpAny _ _ (if ((od.filterMap (es[·]?)).size != es.size) = true then _ else _) _ _ _
      rw [hs, if_neg (by simp)]
      refine wpAny_pure ?_
      have S' := (SetT.store ho₁ hex₁ hd₁ hE hf).2
      exact wpAny_storeSet_of (s := { s with heap := h₁ }) ho₁ hd₁ (h _ (sb₁.trans (Heap.SameBut.update _ a _)) S') (fits_of_scanBound (by rw [hs, e.size]; exact hb))
end
end Mine

end

section
set_option autoImplicit false
set_option linter.all false
set_option genSizeOf false
set_option genInjectivity false
namespace Mine
open PySem PySem.W PySem.Calls PyProof.Rows
theorem pick_go {α : Type} (next : Nat → Nat) : ∀ (n k : Nat) (l : List α) (out : Array α), n = l.length → (pickOrder.go next n k l out).toList.Perm (out.toList ++ l)
  | 0, k, l, out, h => by
    cases List.length_eq_zero_iff.mp h.symm
    rw [List.append_nil]; exact .refl _
  | n + 1, k, l, out, h => by
    unfold pickOrder.go
    have lt : next k % l.length < l.length := Nat.mod_lt _ (by rw [← h]; exact Nat.succ_pos _)
    rw [List.getElem?_eq_getElem lt]
    dsimp only
    have he : (l.eraseIdx (next k % l.length)).length = l.length - 1 := List.length_eraseIdx_of_lt lt
    refine (pick_go next n (k + 1) _ _ (by rw [he, ← h]; rfl)).trans ?_
    rw [Array.toList_push, List.append_assoc]
    refine List.Perm.append_left _ ?_
    rw [List.eraseIdx_eq_take_drop_succ]
    have : l = l.take (next k % l.length) ++ l[next k % l.length] :: l.drop (next k % l.length + 1) := by
      rw [← List.drop_eq_getElem_cons lt, List.take_append_drop]
    conv => rhs; rw [this]
    rw [List.singleton_append]
    exact List.perm_middle.symm
theorem pick_perm {α : Type} (next : Nat → Nat) (xs : Array α) : (pickOrder next xs).toList.Perm xs.toList := (pick_go next xs.size 0 xs.toList #[] rfl).trans (.refl _)
section
variable {prog : Program} {w : World} {A : Around} {E : Value → Shared → Prop} {s : Shared}
noncomputable def vInt? : Value → Option Int
  | .int i _ => some i
  | _ => none
theorem ElT.iff {l : List (Int × Value)} {L : List Int} (h : ElT l L) : (∀ e ∈ l, ∃ i t, e = (hashInt i, Value.int i t)) ∧ L = l.filterMap fun e => vInt? e.2 := by
  induction h with
  | nil => exact ⟨fun e he => (nomatch he), rfl⟩
  | @cons l L i t _ ih => exact ⟨fun e he => (List.mem_cons.mp he).elim (fun q => ⟨i, t, q⟩) (ih.1 e), by rw [List.filterMap_cons, ← ih.2]; rfl⟩
theorem ElT.ex {l : List (Int × Value)} (h : ∀ e ∈ l, ∃ i t, e = (hashInt i, Value.int i t)) : ElT l (l.filterMap fun e => vInt? e.2) := by
  induction l with
  | nil => exact .nil
  | cons e l ih =>
    obtain ⟨i, t, rfl⟩ := h e (.head _)
    rw [List.filterMap_cons]
    exact .cons i t (ih fun e he => h e (.tail _ he))
theorem ElT.perm {l l' : List (Int × Value)} {L : List Int} (h : ElT l L) (p : l'.Perm l) : ElT l' (l'.filterMap fun e => vInt? e.2) ∧ (l'.filterMap fun e => vInt? e.2).Perm L := by
  obtain ⟨h1, h2⟩ := h.iff
  exact ⟨.ex fun e he => h1 e (p.mem_iff.mp he), by rw [h2]; exact p.filterMap _⟩
/-- a set of one flag with the world is walked in some order -/
theorem walk_ok {a : Addr} {o : Obj} {es : Array (Int × Value)} {ep : Nat} {t : SetTable} {Q : Array (Int × Value) → Shared → Prop} (ho : s.heap.get? a = some o) (hd : o.data = .set es ep t) (f : t.fits es.size = true) (hl : t.led = ledW w) (hp : t.plain = true)
    (h : ∀ W : Array (Int × Value), W.toList.Perm es.toList → (ledW w = true → W = es) → Q W s) : wpAny (model prog w) A (setWalk a) Q E s := by
  unfold setWalk setsByText
  refine wpAny_bind (wpAny_setState_of ho hd f ?_)
  dsimp only
  refine wpAny_bind (wpAny_bind (wpAny_askSetting (wpAny_pure ?_)))
  cases q : w.params.followText "set-order" with
  | true =>
    rw [if_pos (by exact q)]
    refine wpAny_bind (wpAny_askSetting (wpAny_pure (h _ (pick_perm _ _) fun z => by unfold ledW at z; rw [q] at z; cases z)))
  | false =>
    have hl : t.led = true := by rw [hl]; unfold ledW; rw [q]; rfl
    rw [if_neg (by rw [show (model prog w).w.params.followText "set-order" = false from q]; exact Bool.false_ne_true)]
    show wpAny _ _ (if (!t.plain && decide (es.size > 1)) = true then _ else _) _ _ _
    rw [hp, if_neg (by simp)]
    show wpAny _ _ ((if (!t.led && decide (es.size > 1)) = true then _ else _) >>= _) _ _ _
    rw [hl, if_neg (by simp)]
    exact wpAny_bind (wpAny_pure (wpAny_pure (h es (.refl _) fun _ => rfl)))
end
end Mine

end

section
set_option autoImplicit false
set_option linter.all false
set_option genSizeOf false
set_option genInjectivity false
namespace Mine
open PySem PySem.W PySem.Calls PyProof.Rows
/-- one more, if it is not there -/
noncomputable def addL (L : List Int) (i : Int) : List Int := if i ∈ L then L else L ++ [i]
theorem mem_addL {L : List Int} {i j : Int} : j ∈ addL L i ↔ j ∈ L ∨ j = i := by
  unfold addL
  by_cases c : i ∈ L
  · rw [if_pos c]; exact ⟨.inl, fun h => h.elim (fun x => x) fun e => e ▸ c⟩
  · rw [if_neg c, List.mem_append, List.mem_singleton]
theorem nodup_addL {L : List Int} {i : Int} (h : L.Nodup) : (addL L i).Nodup := by
  unfold addL
  by_cases c : i ∈ L
  · rw [if_pos c]; exact h
  · rw [if_neg c]
    exact List.nodup_append.mpr ⟨h, List.pairwise_singleton _ i, fun a ha b hb e => c (List.mem_singleton.mp hb ▸ e ▸ ha)⟩
theorem len_addL {L : List Int} {i : Int} : (addL L i).length ≤ L.length + 1 := by
  unfold addL
  by_cases c : i ∈ L
  · rw [if_pos c]; exact Nat.le_succ _
  · rw [if_neg c, List.length_append]; exact Nat.le_refl _
theorem take_mid {L : List Int} {i : Int} (k : Nat) : (L.take k ++ i :: L.drop k).Perm (L ++ [i]) := by
  have : (L ++ [i]).Perm (i :: L) := List.perm_append_singleton i L
  refine (List.perm_middle).trans (.trans ?_ this.symm)
  rw [List.take_append_drop]
theorem lay_perm {L : List Int} {t : SetTable} {i : Int} : (layT L t i).1.Perm (L ++ [i]) := by
  unfold layT
  cases t.freeSlot (hashInt i) with
  | none => exact .refl _
  | some r => exact take_mid _
theorem pick_all (L : List Int) : (List.range L.length).filterMap (fun k => L[k]?) = L := by simpa using filterMap_getElem?_range L.toArray
theorem rel_perm {L : List Int} {t : SetTable} {n : Nat} : (relT L t n).1.Perm L := by
  unfold relT
  cases t.relaid (L.map hashInt).toArray n with
  | none => exact .refl _
  | some r =>
    dsimp only
    by_cases c : (coversAll r.2 L.length && r.1.fits (r.2.toList.filterMap fun k => L[k]?).length) = true
    · rw [if_pos c]
      have hp : List.Perm r.2.toList (List.range L.length) := List.isPerm_iff.mp ((Bool.and_eq_true ..).mp c).1
      exact (hp.filterMap _).trans (by rw [pick_all])
    · rw [if_neg c]
theorem addT_perm {p : List Int × SetTable} {i : Int} : (addT p i).1.Perm (addL p.1 i) := by
  unfold addT addL
  by_cases c : i ∈ p.1
  · rw [if_pos c, if_pos c]
  · rw [if_neg c, if_neg c]
    split
    · exact rel_perm.trans lay_perm
    · exact lay_perm
theorem addT_mem {M : List Int} : ∀ {p : List Int × SetTable} {j : Int}, j ∈ (M.foldl addT p).1 ↔ j ∈ p.1 ∨ j ∈ M := by
  induction M with
  | nil => exact ⟨.inl, fun h => h.elim (fun x => x) fun y => (nomatch y)⟩
  | cons i M ih => intro p j; rw [List.foldl_cons, ih, addT_perm.mem_iff, mem_addL, List.mem_cons, or_assoc]
theorem addT_nodup {M : List Int} : ∀ {p : List Int × SetTable}, p.1.Nodup → (M.foldl addT p).1.Nodup := by
  induction M with
  | nil => exact fun h => h
  | cons i M ih => exact fun h => ih (addT_perm.nodup_iff.mpr (nodup_addL h))
section
variable {prog : Program} {w : World} {A : Around} {E : Value → Shared → Prop} {s : Shared}
inductive MgI (s : Shared) (a : Addr) (r T : List Int × SetTable) (rest : List (Int × Value)) (s' : Shared) : Prop
  | mk (h' : Heap) (p : List Int × SetTable) (R : List Int) (e : s' = { s with heap := h' }) (b : Heap.SameBut a s.heap h') (S : SetT h' a p) (r : ElT rest R) (z : p.1.length + R.length + 1 < scanBound) (f : R.foldl addT p = T)
theorem merge_ok {n : String} {a b : Addr} {p q r : List Int × SetTable} {Q : Unit → Shared → Prop} (hab : a ≠ b) (Sa : SetT s.heap a p) (Sb : SetT s.heap b q) (hl : q.2.led = ledW w) (hp : q.2.plain = true) (hq : q.1 ≠ []) (he : roomT p q.1.length = some r) (hf : r.2.fill ≠ 0) (hz : r.1.length + q.1.length + 1 < scanBound) (hb : p.1.length < scanBound)
    (h : ∀ h' M, Heap.SameBut a s.heap h' → SetT h' a (M.foldl addT r) → M.Perm q.1 → (ledW w = true → M = q.1) → Q () { s with heap := h' }) : wpAny (model prog w) A (Builtin.Frozenset.merge n a b) Q E s := by
  obtain ⟨o, es, ep, ho, hex, hd, e, f⟩ := id Sb
  unfold Builtin.Frozenset.merge setEpoch
  refine wpAny_bind (wpAny_bind (wpAny_setState_of ho hd f (wpAny_pure ?_)))
  unfold setMerge
  rw [if_neg (by simpa using hab)]
  refine wpAny_bind (wpAny_setState_of ho hd f ?_)
  dsimp only
  have em : es.isEmpty = false := by
    have := e.size
    cases c : q.1 with
    | nil => exact (hq c).elim
    | cons x l => rw [c] at this; exact decide_eq_false (by rw [this]; exact Nat.succ_ne_zero _)
  rw [em, if_neg Bool.false_ne_true, e.size]
  refine wpAny_bind (room_ok Sa hb he fun h₁ sb₁ S₁ => ?_)
  obtain ⟨o₁, es₁, ep₁, ho₁, hex₁, hd₁, e₁, f₁⟩ := id S₁
  refine wpAny_bind (wpAny_setState_of (s := { s with heap := h₁ }) ho₁ hd₁ f₁ ?_)
  dsimp only
  have hr : r.2.road q.2 = .oneByOne := by unfold SetTable.road; rw [if_pos (by simpa using hf)]
  rw [hr]
  dsimp only
  have hob : ∀ {h' : Heap}, Heap.SameBut a s.heap h' → h'.get? b = some o := fun sb => by rw [← ho]; exact sb.2 b (Ne.symm hab)
  unfold setWalkUnseen
  refine wpAny_bind (wpAny_bind (wpAny_setState_of (s := { s with heap := h₁ }) (hob sb₁) hd f ?_))
  dsimp only
  unfold setsByText
  refine wpAny_bind (wpAny_bind (wpAny_askSetting (wpAny_pure ?_)))
  rw [if_pos (by rw [hl, hp]; unfold ledW; show ((w.params.followText "set-order" || (!w.params.followText "set-order" && true)) || _) = true; cases w.params.followText "set-order" <;> rfl)]
  refine walk_ok (s := { s with heap := h₁ }) (hob sb₁) hd f hl hp fun Wk pm wl => wpAny_bind ?_
  have hR := e.perm pm
  have hM : ledW w = true → (Wk.toList.filterMap fun e => vInt? e.2) = q.1 := fun z => by rw [wl z]; exact e.iff.2.symm
  generalize (Wk.toList.filterMap fun e => vInt? e.2) = R at hR hM
  refine forIn_array_ _ (fun rest _ s' => MgI s a r (R.foldl addT r) rest s') _ ?_ ?_ _ _ (.mk h₁ r R rfl sb₁ S₁ hR.1 (by rw [hR.2.length_eq]; exact hz) rfl)
  · rintro x rest _ s' ⟨h', p', R', rfl, sb, S, hR', hz, hm⟩
    cases hR' with
    | cons i t hR' =>
      dsimp only
      refine wpAny_bind (wpAny_holding (setAdd_ok (s := { s with heap := h' }) S (by simp only [List.length_cons] at hz; omega) fun h'' _ sb' S' => ?_))
      have sb'' := sb.trans sb'
      refine wpAny_bind ?_
      unfold Builtin.Frozenset.unchanged setEpoch
      refine wpAny_bind (wpAny_bind (wpAny_setState_of (s := { s with heap := h'' }) (hob sb'') hd f (wpAny_pure ?_)))
      dsimp only
      rw [if_neg (by simp)]
      refine wpAny_pure ?_
      refine wpAny_bind (wpAny_setState_of (s := { s with heap := h'' }) (hob sb'') hd f ?_)
      dsimp only
      rw [if_neg (by simp)]
      refine wpAny_pure (.mk h'' _ _ rfl sb'' S' hR' ?_ hm)
      have := addT_len (p := p') (i := i); simp only [List.length_cons] at hz; omega
  · rintro _ s' ⟨h', p', R', rfl, sb, S, hR', hz, hm⟩
    cases hR'
    cases hm
    exact wpAny_pure (h h' R sb S hR.2 hM)
end
end Mine

end

section
set_option autoImplicit false
set_option linter.all false
set_option genSizeOf false
set_option genInjectivity false
namespace Mine
open PySem PySem.W PySem.Calls PyProof.Rows
theorem entry_set_or : entryFor table "set.__or__" = some Builtin.«frozenset.__or__» := entryFor_alias (id' := "frozenset.__or__") (by kernel_rfl) rfl (by decide +kernel) (by kernel_rfl)
section
variable {prog : Program} {w : World} {A : Around} {E : Value → Shared → Prop} {s : Shared}
theorem SetT.ty {h : Heap} {a : Addr} {p : List Int × SetTable} (S : SetT h a p) {s : Shared} (e : s.heap = h) : s.TypeIs (.ref a) "set" := by
  obtain ⟨o, es, ep, ho, hex, hd, _, f⟩ := S
  exact ⟨o, by rw [e]; exact ho, hex.1⟩
theorem any_set {v : Value} {Q : Bool → Shared → Prop} (hT : s.TypeIs v "set") (h : Q true s) : wpAny (model prog w) A (Builtin.Frozenset.isAnySet v) Q E s := by
  unfold Builtin.Frozenset.isAnySet
  refine wpAny_bind (wpAny_isInstance hT PySem.F.sub_set_set ?_)
  exact wpAny_pure h
theorem newSet_ok {Q : Value → Shared → Prop} (h : Q (.ref s.heap.objs.size) { s with heap := s.heap.push (setO (ledW w)) }) : wpAny (model prog w) A (newSet (.type "set")) Q E s := by
  unfold newSet setsByText
  refine wpAny_bind (wpAny_bind (wpAny_askSetting (wpAny_pure ?_)))
  dsimp only
  simp only [newObj]
  exact wpAny_bind (wpAny_alloc (wpAny_pure h))
theorem or_ok {a b : Addr} {p q c r : List Int × SetTable} {Q : Value → Shared → Prop} (hab : a ≠ b) (Sa : SetT s.heap a p) (Sb : SetT s.heap b q) (hb : p.1.length < scanBound) (hc : copyT (ledW w) p = some c) (hbc : c.1.length < scanBound) (hl : q.2.led = ledW w) (hp : q.2.plain = true) (hq : q.1 ≠ []) (he : roomT c q.1.length = some r) (hf : r.2.fill ≠ 0) (hz : r.1.length + q.1.length + 1 < scanBound)
    (h : ∀ h' M, (∀ x o, s.heap.get? x = some o → h'.get? x = some o) → SetT h' s.heap.objs.size (M.foldl addT r) → M.Perm q.1 → (ledW w = true → M = q.1) → Q (.ref s.heap.objs.size) { s with heap := h' }) : wpAny (model prog w) A (binaryOp .BitOr (.ref a) (.ref b)) Q E s := by
  have ta : s.TypeIs (.ref a) "set" := Sa.ty rfl
  have tb : s.TypeIs (.ref b) "set" := Sb.ty rfl
  refine wpAny_binaryOp_same (op := .BitOr) (T := "set") ta tb PySem.F.fills_set_or PySem.F.slot_set_or (wpAny_call_entry PySem.F.slot_set_or ta entry_set_or ?_ (PySem.F.args_set_or_2 _ _))
  have la : a < s.heap.objs.size := by obtain ⟨o, es, ep, ho, _⟩ := Sa; exact Heap.lt_size ho
  have lb : b < s.heap.objs.size := by obtain ⟨o, es, ep, ho, _⟩ := Sb; exact Heap.lt_size ho
  show wpAny _ _ (do
    if !(← (Builtin.Frozenset.isAnySet (.ref a) <&&> Builtin.Frozenset.isAnySet (.ref b))) then rule s!"frozenset.{"__or__"}.declined"; return ← ret .notImplemented
    ret (← (do
      let result ← Builtin.Frozenset.copyOf a
      if Value.ref b != .ref a then holding [result] (Builtin.Frozenset.updateFrom s!"frozenset.{"__or__"}" (← Builtin.Frozenset.addrOf result) (.ref b))
      return result))) _ _ _
  refine wpAny_bind (wpAny_bind (any_set ta (any_set tb ?_)))
  rw [if_neg (by simp)]
  refine wpAny_bind (wpAny_bind ?_)
  unfold Builtin.Frozenset.copyOf Builtin.Frozenset.baseOf
  refine wpAny_bind (wpAny_bind (wpAny_isInstance ta PySem.F.sub_set_set (wpAny_pure ?_)))
  refine wpAny_bind (newSet_ok (wpAny_bind (wpAny_pure (wpAny_bind ?_))))
  refine copy_ok (s := { s with heap := s.heap.push (setO (ledW w)) }) (Nat.ne_of_gt la) SetT.new (Sa.keep fun o e => Heap.get?_push_of_some _ e) hb hc fun h₁ sb₁ S₁ => wpAny_pure ?_
  rw [if_pos (by simpa using Ne.symm hab)]
  have k1 : ∀ x o, s.heap.get? x = some o → h₁.get? x = some o := fun x o e => by rw [sb₁.2 x (Nat.ne_of_lt (Heap.lt_size e))]; exact Heap.get?_push_of_some _ e
  have Sb₁ : SetT h₁ b q := Sb.keep fun o e => k1 b o e
  refine wpAny_bind (wpAny_pure (wpAny_bind (wpAny_holding ?_)))
  unfold Builtin.Frozenset.updateFrom
  refine wpAny_bind (any_set (s := { s with heap := h₁ }) (Sb₁.ty rfl) ?_)
  rw [if_pos rfl]
  refine wpAny_bind (wpAny_pure ?_)
  refine merge_ok (s := { s with heap := h₁ }) (Nat.ne_of_gt lb) S₁ Sb₁ hl hp hq he hf hz hbc fun h₂ M sb₂ S₂ pm ex => ?_
  refine wpAny_pure (wpAny_pure ⟨_, rfl, by simp, h h₂ M (fun x o e => ?_) S₂ pm ex⟩)
  rw [sb₂.2 x (Nat.ne_of_lt (Heap.lt_size e))]; exact k1 x o e
end
end Mine

end

section
set_option autoImplicit false
set_option linter.all false
set_option genSizeOf false
set_option genInjectivity false
set_option maxRecDepth 100000
namespace Mine
open PySem PySem.W PySem.Calls PyProof.Rows
theorem slot_si_next : Slot "set_iterator" "__next__" "set_iterator.__next__" :=
  .of (owner := "set_iterator") (n := "__next__") (by rw [typeLookup_type, builtinLookup_eq_fast]; kernel_rfl) (by decide +kernel) (by decide +kernel) (by decide +kernel)
    (by first | exact .inl (by decide +kernel) | exact .inr (by decide +kernel)) (by rw [isSubtype_type]; kernel_rfl)
theorem entry_si_next : entryFor table "set_iterator.__next__" = some Builtin.«set_iterator.__next__» := entryFor_of_tree (by kernel_rfl)
theorem owner_si : Manifest.owners.lookup (String.ofList ("set_iterator".toList.reverse).reverse) = some Manifest.sig_set_iterator := by kernel_rfl
theorem args_si_next (a : Value) : argsOk "set_iterator.__next__" ⟨[a], []⟩ := by
  unfold argsOk; rw [signature?_of (id := "set_iterator.__next__") (n := "__next__".toList.reverse) (o := "set_iterator".toList.reverse) (by kernel_rfl) owner_si]; kernel_rfl
theorem slot_si_iter : Slot "set_iterator" "__iter__" "set_iterator.__iter__" :=
  .of (owner := "set_iterator") (n := "__iter__") (by rw [typeLookup_type, builtinLookup_eq_fast]; kernel_rfl) (by decide +kernel) (by decide +kernel) (by decide +kernel)
    (by first | exact .inl (by decide +kernel) | exact .inr (by decide +kernel)) (by rw [isSubtype_type]; kernel_rfl)
theorem entry_si_iter : entryFor table "set_iterator.__iter__" = some Builtin.«dict_keyiterator.__iter__» :=
  entryFor_alias (id' := "dict_keyiterator.__iter__") (by kernel_rfl) rfl (by decide +kernel) (by kernel_rfl)
theorem args_si_iter (a : Value) : argsOk "set_iterator.__iter__" ⟨[a], []⟩ := by
  unfold argsOk; rw [signature?_of (id := "set_iterator.__iter__") (n := "__iter__".toList.reverse) (o := "set_iterator".toList.reverse) (by kernel_rfl) owner_si]; kernel_rfl
theorem entry_set_iter : entryFor table "set.__iter__" = some Builtin.«frozenset.__iter__» :=
  entryFor_alias (id' := "frozenset.__iter__") (by kernel_rfl) rfl (by decide +kernel) (by kernel_rfl)
/-- the order of a set -/
structure Ord (w : World) (a : Addr) (es : Array (Int × Value)) (ep : Nat) (t : SetTable) (W : Array (Int × Value)) : Prop where
  f : t.fits es.size = true
  a : ledW w = false → W = pickOrder (w.params.setOrder a ep) es
  b : ledW w = true → W = es ∧ walkT t = true
section
variable {prog : Program} {w : World} {A : Around} {E : Value → Shared → Prop} {s : Shared} {a : Addr} {o : Obj} {es W : Array (Int × Value)} {ep : Nat} {t : SetTable}
theorem ledW_e {b : Bool} (h : ledW w = b) : w.params.followText "set-order" = !b := by
  unfold ledW at h; rw [← h, Bool.not_not]
theorem Ord.size (H : Ord w a es ep t W) : W.size = es.size := by
  cases q : ledW w with
  | false => rw [H.a q]; exact (pick_perm _ _).length_eq
  | true => rw [(H.b q).1]
theorem next_ok (H : Ord w a es ep t W) (ho : s.heap.get? a = some o) (hd : o.data = .set es ep t) (i : Nat) (hi : i ≤ es.size) {Q : Option (Value × Nat) → Shared → Prop} (h : Q (W[i]?.map fun e => (e.2, stp (ledW w) t (i + 1))) s) : wpAny (model prog w) A (setNext a (stp (ledW w) t i) i ep) Q E s := by
  unfold setNext setsByText
  refine wpAny_bind (wpAny_setState_of ho hd H.f ?_)
  dsimp only
  refine wpAny_bind (wpAny_bind (wpAny_askSetting (wpAny_pure ?_)))
  cases q : ledW w with
  | false =>
    rw [if_pos (by exact ledW_e q), if_neg (by simp)]
    refine wpAny_bind ?_
    unfold setWalk setsByText
    refine wpAny_bind (wpAny_setState_of ho hd H.f ?_)
    dsimp only
    refine wpAny_bind (wpAny_bind (wpAny_askSetting (wpAny_pure ?_)))
    rw [if_pos (by exact ledW_e q)]
    refine wpAny_bind (wpAny_askSetting (wpAny_pure (wpAny_pure ?_)))
    rw [q, H.a q] at h
    have e : stp false t i = 0 := by cases i <;> rfl
    rw [e]
    exact h
  | true =>
    obtain ⟨rfl, hw⟩ := H.b q
    have hw := (Bool.and_eq_true ..).mp hw
    have hpl := (Bool.and_eq_true ..).mp hw.1
    have hz : t.place.size = W.size := by
      have := H.f; unfold SetTable.fits at this
      exact eq_of_beq ((Bool.and_eq_true ..).mp this).1
    have hb : SetTable.below t.place (stp true t i) = i := by
      have := List.all_eq_true.mp hw.2 i (List.mem_range.mpr (by rw [hz]; exact Nat.lt_succ_of_le hi))
      exact eq_of_beq this
    rw [if_neg (by rw [show (model prog w).w.params.followText "set-order" = false from ledW_e q]; exact Bool.false_ne_true)]
    show wpAny _ _ (if (!t.plain && decide (W.size > 1)) = true then _ else _) _ _ _
    rw [hpl.1, if_neg (by simp)]
    show wpAny _ _ ((if (!t.led && !W.isEmpty) = true then _ else _) >>= _) _ _ _
    rw [hpl.2, if_neg (by simp)]
    refine wpAny_bind (wpAny_pure (wpAny_pure ?_))
    rw [hb]
    rw [q] at h
    by_cases c : i < W.size
    · rw [Array.getElem?_eq_getElem c] at h ⊢
      have c' : i < t.place.size := by rw [hz]; exact c
      rw [Array.getElem?_eq_getElem c']
      have e : stp true t (i + 1) = t.place[i] + 1 := by
        show t.place.getD i 0 + 1 = _
        rw [Array.getD_eq_getD_getElem?, Array.getElem?_eq_getElem c']; rfl
      rw [e] at h
      exact h
    · rw [Array.getElem?_eq_none (Nat.le_of_not_lt c)] at h ⊢
      exact h
/-- an iterator of a set -/
noncomputable def IsSi (h : Heap) (it a : Addr) (b : Bool) (t : SetTable) (i n ep : Nat) : Prop := ∃ o, h.get? it = some o ∧ o.cls = .type "set_iterator" ∧ o.data = .fields #[.int (stp b t i) 0, .int i 0, .ref a, .int n 0, .int ep 0]
theorem IsSi.ty {it : Addr} {b : Bool} {i n : Nat} (x : IsSi s.heap it a b t i n ep) : s.TypeIs (.ref it) "set_iterator" := let ⟨o, ho, hc, _⟩ := x; ⟨o, ho, hc⟩
theorem si_iter {it : Addr} {b : Bool} {i n : Nat} {Q : Value → Shared → Prop} (x : IsSi s.heap it a b t i n ep) (h : Q (.ref it) s) : wpAny (model prog w) A (pyIter (.ref it)) Q E s := by
  refine wpAny_pyIter_slot x.ty slot_si_iter (wpAny_call_entry slot_si_iter x.ty entry_si_iter ?_ (args_si_iter _))
  show wpAny _ _ (ret (.ref it)) _ _ s
  exact wpAny_pure ⟨_, rfl, "set_iterator", _, x.ty, slot_si_next.lookup, h⟩
theorem set_iter (H : Ord w a es ep t W) (ho : s.heap.get? a = some o) (hx : o.ExactSet) (hd : o.data = .set es ep t) {Q : Value → Shared → Prop}
    (h : Q (.ref s.heap.objs.size) { s with heap := s.heap.push { cls := .type "set_iterator", data := .fields #[.int 0 0, .int 0 0, .ref a, .int es.size 0, .int ep 0] } }) : wpAny (model prog w) A (pyIter (.ref a)) Q E s := by
  have T : s.TypeIs (.ref a) "set" := ⟨o, ho, hx.1⟩
  refine wpAny_pyIter_slot T PySem.F.slot_set_iter (wpAny_call_entry PySem.F.slot_set_iter T entry_set_iter ?_ (PySem.F.args_set_iter_1 _))
  show wpAny _ _ (do
    let n ← Builtin.Frozenset.sizeOf a
    let first ← if ← setDrawn a then newTuple ((← drawOrder n (List.range n)).map fun (i : Nat) => rawInt i) else pure (rawInt 0)
    ret (← newFields "set_iterator" [first, rawInt 0, .ref a, rawInt n, rawInt (← setEpoch a)])) _ _ _
  unfold Builtin.Frozenset.sizeOf setEntries
  refine wpAny_bind (wpAny_bind (wpAny_bind (wpAny_setState_of ho hd H.f (wpAny_pure (wpAny_pure ?_)))))
  dsimp only
  unfold setDrawn setsByText
  refine wpAny_bind (wpAny_bind (wpAny_setState_of ho hd H.f ?_))
  dsimp only
  refine wpAny_bind (wpAny_bind (wpAny_askSetting (wpAny_pure (wpAny_pure ?_))))
  have hn : (!(w.params.followText "set-order") && (!t.plain && decide (es.size > 1))) = false := by
    cases q : ledW w with
    | false => rw [ledW_e q]; rfl
    | true =>
      obtain ⟨_, hw⟩ := H.b q
      rw [((Bool.and_eq_true ..).mp ((Bool.and_eq_true ..).mp hw).1).1]
      cases w.params.followText "set-order" <;> rfl
  rw [if_neg (by exact fun z => Bool.false_ne_true (hn.symm.trans z))]
  refine wpAny_bind (wpAny_pure ?_)
  unfold setEpoch
  refine wpAny_bind (wpAny_bind (wpAny_setState_of ho hd H.f (wpAny_pure ?_)))
  exact wpAny_bind (wpAny_newObj_type (wpAny_pure ⟨_, rfl, "set_iterator", _, ⟨_, Heap.get?_push_size _ rfl, rfl⟩, slot_si_next.lookup, h⟩))
end
end Mine

end

section
set_option autoImplicit false
set_option linter.all false
set_option genSizeOf false
set_option genInjectivity false
set_option maxRecDepth 100000
namespace Mine
open PySem PySem.W PySem.Calls PyProof.Rows
section
variable {prog : Program} {w : World} {A : Around} {E : Value → Shared → Prop} {s : Shared} {a : Addr} {o : Obj} {es W : Array (Int × Value)} {ep : Nat} {t : SetTable}
theorem si_next (hh : A.handled = none) (H : Ord w a es ep t W) {it : Addr} (hne : a ≠ it) {i : Nat} (hi : i ≤ es.size) (hit : IsSi s.heap it a (ledW w) t i es.size ep) (ho : s.heap.get? a = some o) (hd : o.data = .set es ep t) {Q : Option Value → Shared → Prop}
    (h1 : ∀ x h', W[i]? = some x → IsSi h' it a (ledW w) t (i + 1) es.size ep → (∀ b o, b ∉ [it] → s.heap.get? b = some o → h'.get? b = some o) → Q (some x.2) { s with heap := h' })
    (h2 : ∀ h', W[i]? = none → (∀ b o, b ∉ [it] → s.heap.get? b = some o → h'.get? b = some o) → Q none { s with heap := h' }) : wpAny (model prog w) A (pyNext (.ref it)) Q E s := by
  obtain ⟨oi, hoi, hci, hdi⟩ := id hit
  unfold pyNext
  refine wpAny_bind (wpAny_attempt (wpAny_callSpecial?_slot (name := Str.ofString "__next__") hit.ty slot_si_next (wpAny_call_entry slot_si_next hit.ty entry_si_next ?_ (args_si_next _))))
  show wpAny _ _ (fieldsOf (.ref it) >>= _) _ _ s
  refine wpAny_bind (wpAny_fieldsOf hoi hdi ?_)
  dsimp only
  unfold setEntries
  refine wpAny_bind (wpAny_bind (wpAny_setState_of ho hd H.f (wpAny_pure ?_)))
  dsimp only
  rw [if_neg (by simp)]
  refine wpAny_bind (next_ok H ho hd i hi ?_)
  cases q : W[i]? with
  | some x =>
    dsimp only [Option.map]
    have ho1 := Heap.get?_update_self (Obj.mapFields (·.setIfInBounds 0 (rawInt (stp (ledW w) t (i + 1))))) hoi (Obj.isFreed_of_fields (Obj.data_mapFields hdi _))
    refine wpAny_bind (wpAny_setField hoi hdi (by simp) ?_)
    refine wpAny_bind (wpAny_setField ho1 (Obj.data_mapFields hdi _) (by simp) ?_)
    refine wpAny_pure ⟨_, rfl, wpAny_pure (h1 x _ q ?_ fun b o hb e => ?_)⟩
    · exact ⟨_, Heap.get?_update_self _ ho1 (Obj.isFreed_of_fields (Obj.data_mapFields (Obj.data_mapFields hdi _) _)), (Obj.cls_mapFields ..).trans ((Obj.cls_mapFields ..).trans hci), by
        rw [Obj.data_mapFields (Obj.data_mapFields hdi _)]; simp [rawInt]⟩
    · have hb : it ≠ b := fun z => hb (by simp [z])
      exact (Heap.get?_update_other _ _ hb).trans ((Heap.get?_update_other _ _ hb).trans e)
  | none =>
    dsimp only [Option.map]
    refine wpAny_bind (wpAny_setField hoi hdi (by simp) ?_)
    show wpAny _ _ (newExc (.type "StopIteration") [] >>= _) _ _ _
    refine wpAny_bind ?_
    simp only [newExc, newTuple]
    refine wpAny_bind (wpAny_newObj_type ?_ (by size_fits))
    refine wpAny_bind (m := firstArgMember _ _) (wpAny_of_eq (a := Value.none) (by first | rfl | (simp only [firstArgMember]; rfl)) ?_)
    refine wpAny_newObj_type ?_ (by size_fits)
    simp only [raiseNew]
    refine wpAny_bind (wpAny_handled ?_)
    rw [show A.in1.handled = none from hh]
    refine wpAny_bind (wpAny_pure (wpAny_throw ?_))
    refine wpAny_bind (wpAny_isInstance (T := "StopIteration") (b := true) ⟨_, Heap.get?_push_size _ rfl, rfl⟩ isSubtype_stop ?_)
    exact wpAny_pure (h2 _ q fun b o hb e => (((Heap.SameBut.update ..).extBut.push _).push _) b o (fun z => hb (by simp [z])) e)
theorem set_walks (hh : A.handled = none) (H : Ord w a es ep t W) (it : Addr) (hne : a ≠ it) (hd : o.data = .set es ep t) :
    Walks prog w A it [it, a] [it] es.size (fun i v => W[i]?.map (·.2) = some v) (fun i h => (i ≤ es.size ∧ IsSi h it a (ledW w) t i es.size ep) ∧ h.get? a = some o) where
  sub := fun b hb => by simp at hb; simp [hb]
  frame := fun _ _ _ st hk => ⟨⟨st.1.1, let ⟨o, ho, r⟩ := st.1.2; ⟨o, hk it (by simp) o ho, r⟩⟩, hk a (by simp) o st.2⟩
  item := fun i s Q E hi st hQ => by
    refine si_next hh H hne st.1.1 st.1.2 st.2 hd (fun x h' ex hit' k => hQ x.2 h' s.toks (by rw [ex]; rfl) ⟨⟨hi, hit'⟩, k a o (by simp [hne]) st.2⟩ k) fun h' ex _ => ?_
    rw [Array.getElem?_eq_none_iff, H.size] at ex
    exact absurd hi (Nat.not_lt.mpr ex)
  done := fun s Q E st hQ => by
    refine si_next hh H hne st.1.1 st.1.2 st.2 hd (fun x h' ex _ _ => ?_) fun h' _ k => hQ h' s.toks k
    rw [Array.getElem?_eq_none_iff.mpr (by rw [H.size]; exact Nat.le_refl _)] at ex; cases ex
  self := fun _ _ _ _ st hQ => si_iter st.1.2 hQ
theorem set_hint {Q : Bool → Shared → Prop} (hT : s.TypeIs (.ref a) "set") (h : Q false s) : wpAny (model prog w) A (Builtin.List.listLengthHint (.ref a)) Q E s := by
  unfold Builtin.List.listLengthHint
  refine wpAny_bind (wpAny_specialOf hT PySem.F.slot_set_len.lookup ?_)
  generalize hid : ("set.__len__" : String) = id0
  wp_delta
  rw [show splitId id0 = some ("set", "__len__") from by subst hid; decide +kernel]
  subst hid
  refine wpAny_bind (wpAny_isInstance (T := "set") (b := true) hT (by rw [isSubtype_type]; kernel_rfl) ?_)
  refine wpAny_ite_split (fun hab => absurd hab (by decide)) (fun _ => ?_)
  refine wpAny_ite_split (fun _ => ?_) (fun hab => absurd (by decide +kernel) hab)
  refine wpAny_bind (wpAny_typeOf hT ?_)
  exact wpAny_pure h
theorem set_src (H : Ord w a es ep t W) (hx : o.ExactSet) (hd : o.data = .set es ep t) : KdlSrc prog w "set" a a es.size (fun i v => W[i]?.map (·.2) = some v) (fun h => h.get? a = some o) where
  type := fun _ hm => ⟨o, hm, hx.1⟩
  there := fun _ hm => ⟨Heap.lt_size hm, Heap.lt_size hm⟩
  keep := fun _ _ hm hk => hk a (.inl rfl) o hm
  notList := by decide
  notTuple := by decide
  hint := fun _ _ _ _ hm hq => set_hint ⟨o, hm, hx.1⟩ hq
  iter := fun _ _ hh hm => ⟨_, _, (fun _ _ hq => set_iter H hm hx hd hq), set_walks hh H _ (Nat.ne_of_lt (Heap.lt_size hm)) hd, ⟨⟨Nat.zero_le _, _, Heap.get?_push_size _ rfl, rfl, rfl⟩, Heap.get?_push_of_some _ hm⟩⟩
theorem collect_set (hh : A.handled = none) (H : Ord w a es ep t W) (hm : s.heap.get? a = some o) (hx : o.ExactSet) (hd : o.data = .set es ep t) (hn : es.size ≤ sizeLine) {Q : List Value → Shared → Prop}
    (h : ∀ h' tk, (∀ b o, s.heap.get? b = some o → h'.get? b = some o) → Q (W.toList.map (·.2)) { s with heap := h', toks := tk }) : wpAny (model prog w) A (collect (.ref a)) Q E s := by
  unfold collect
  refine wpAny_bind (wpAny_runValue (codeAny_builtin PySem.F.entry_proto_collect ?_))
  rw [Around.under_plainId PySem.F.plain_proto_collect _]
  show wpAny _ A.in1 (newList [] >>= fun l => again (.builtin "list.__iadd__" ⟨[l, .ref a], []⟩)) _ _ s
  refine wpAny_bind (wpAny_newObj_type ?_)
  refine wpAny_pure ⟨plainId_quiet PySem.F.plain_list_iadd _, codeAny_builtin PySem.F.entry_list_iadd ?_⟩
  rw [Around.under_plainId PySem.F.plain_list_iadd _]
  have la := Nat.ne_of_gt (Heap.lt_size hm)
  show wpAny _ A.in1 (Builtin.List.listExtendWith (.ref s.heap.objs.size) (.ref a) (.ref s.heap.objs.size)) _ _ _
  refine kdl_extend (A := A) (R := wants _ E) (s := { s with heap := s.heap.push { cls := .type "list", data := .seq #[] } }) (set_src H hx hd) hh (Heap.get?_push_of_some _ hm) s.heap.objs.size la la _ 0 (Heap.get?_push_size _ rfl) (fun h' tk acc c kp hS hacc => ?_) hn
  show wpAny _ A (load s.heap.objs.size >>= _) _ _ _
  refine wpAny_bind (wpAny_load hS ?_)
  have e : acc.toList = W.toList.map (·.2) := by
    apply List.ext_getElem?
    intro j
    rw [List.getElem?_map, Array.getElem?_toList, Array.getElem?_toList]
    cases q : acc[j]? with
    | some v => exact (hacc.2 j v q).symm
    | none =>
      rw [Array.getElem?_eq_none_iff, hacc.1, ← H.size, ← Array.getElem?_eq_none_iff] at q
      rw [q]; rfl
  refine wpAny_pure ?_
  rw [e]
  exact h h' tk fun b o hb => kp b o (Nat.ne_of_lt (Heap.lt_size hb)) (Heap.get?_push_of_some _ hb)
end
end Mine

end

section
set_option autoImplicit false
set_option linter.all false
set_option genSizeOf false
set_option genInjectivity false
namespace Mine
theorem mem_insS {x y : Int} : ∀ {l : List Int}, y ∈ insS x l ↔ y = x ∨ y ∈ l
  | [] => List.mem_cons
  | z :: r => by
    show y ∈ (if x < z then x :: z :: r else if x = z then z :: r else z :: insS x r) ↔ _
    by_cases c : x < z
    · rw [if_pos c, List.mem_cons]
    · rw [if_neg c]
      by_cases d : x = z
      · rw [if_pos d, d, List.mem_cons]; exact ⟨.inr, fun h => h.elim .inl fun h => h⟩
      · rw [if_neg d, List.mem_cons, mem_insS, List.mem_cons]; exact ⟨fun h => h.elim (fun h => .inr (.inl h)) fun h => h.elim .inl fun h => .inr (.inr h), fun h => h.elim (fun h => .inr (.inl h)) fun h => h.elim .inl fun h => .inr (.inr h)⟩
theorem mem_mkSet {y : Int} : ∀ {l : List Int}, y ∈ mkSet l ↔ y ∈ l
  | [] => .rfl
  | x :: r => by show y ∈ insS x (mkSet r) ↔ _; rw [mem_insS, mem_mkSet, List.mem_cons]
theorem insS_lt {x : Int} : ∀ {l : List Int}, l.Pairwise (· < ·) → (insS x l).Pairwise (· < ·)
  | [], _ => List.pairwise_singleton _ _
  | z :: r, h => by
    have h' := List.pairwise_cons.mp h
    show (if x < z then x :: z :: r else if x = z then z :: r else z :: insS x r).Pairwise _
    by_cases c : x < z
    · rw [if_pos c]
      exact List.pairwise_cons.mpr ⟨fun y hy => (List.mem_cons.mp hy).elim (fun q => q ▸ c) fun q => Int.lt_trans c (h'.1 y q), h⟩
    · rw [if_neg c]
      by_cases d : x = z
      · rw [if_pos d]; exact h
      · rw [if_neg d]
        exact List.pairwise_cons.mpr ⟨fun y hy => (mem_insS.mp hy).elim (fun q => by rw [q]; omega) (h'.1 y), insS_lt h'.2⟩
theorem mkSet_lt : ∀ (l : List Int), (mkSet l).Pairwise (· < ·)
  | [] => .nil
  | _ :: r => insS_lt (mkSet_lt r)
/-- a rising list of all and no twice is the set -/
theorem mkSet_uniq {a l : List Int} (hs : a.Pairwise (· ≤ ·)) (hn : a.Nodup) (hm : ∀ i, i ∈ a ↔ i ∈ l) : a = mkSet l := by
  have h2 := mkSet_lt l
  have p : a.Perm (mkSet l) := (List.perm_ext_iff_of_nodup hn (h2.imp fun h => Int.ne_of_lt h)).mpr fun i => by rw [hm, mem_mkSet]
  exact p.eq_of_pairwise (le := (· ≤ ·)) (fun _ _ _ _ p q => Int.le_antisymm p q) hs (h2.imp Int.le_of_lt)
end Mine

end

section
set_option autoImplicit false
set_option linter.all false
set_option genSizeOf false
set_option genInjectivity false
namespace Mine
open PySem PySem.W PySem.Calls PyProof.Rows
theorem ElT.ints {l : List (Int × Value)} {L : List Int} (h : ElT l L) : IntsAre (l.map (·.2)) L := by
  induction h with
  | nil => exact .nil
  | cons i t _ ih => exact .cons i t ih
section
variable {prog : Program} {w : World} {A : Around} {E : Value → Shared → Prop} {s : Shared} {a : Addr}
theorem ord_ex {o : Obj} {es : Array (Int × Value)} {ep : Nat} {t : SetTable} (f : t.fits es.size = true) (hw : ledW w = true → walkT t = true) : ∃ W, Ord w a es ep t W ∧ W.toList.Perm es.toList := by
  cases q : ledW w with
  | true => exact ⟨es, ⟨f, fun z => (by rw [q] at z; cases z), fun _ => ⟨rfl, hw q⟩⟩, .refl _⟩
  | false => exact ⟨_, ⟨f, fun _ => rfl, fun z => (by rw [q] at z; cases z)⟩, pick_perm _ _⟩
theorem sorted_set {p : List Int × SetTable} (hh : A.handled = none) (S : SetT s.heap a p) (hw : ledW w = true → walkT p.2 = true) (h64 : p.1.length < 64) {Q : Value → Shared → Prop}
    (h : ∀ D out c h' tk ns, s.heap.get? D = none → (∀ b o, s.heap.get? b = some o → h'.get? b = some o) → h'.get? D = some (seqObj "list" out c) → IntsAre out.toList ns → ns.Perm p.1 → ns.Pairwise (· ≤ ·) → Q (.ref D) { s with heap := h', toks := tk }) :
    wpAny (model prog w) A (call (.builtin "sorted") [.ref a]) Q E s := by
  obtain ⟨o, es, ep, ho, hx, hd, e, f⟩ := S
  obtain ⟨W, HO, pm⟩ := ord_ex (a := a) (o := o) (ep := ep) f hw
  obtain ⟨eW, pW⟩ := e.perm pm
  have hI := eW.ints
  generalize (W.toList.filterMap fun e => vInt? e.2) = L at hI pW
  refine Calls.call_function_entry kind_sorted plain_sorted entry_sorted (args_sorted1 _) ?_
  unfold Builtin.«sorted»
  refine wpAny_bind (m := checkCount "sorted" 1 1 _) (wpAny_pure ?_)
  refine wpAny_bind (collect_set (A := A.in1) hh HO ho hx hd (by rw [e.size]; exact Nat.le_trans (Nat.le_of_lt h64) (by decide +kernel)) fun h₁ tk₁ k₁ => ?_)
  have hlen : (W.toList.map (·.2)).length < 64 := by rw [hI.length, pW.length_eq]; exact h64
  generalize W.toList.map (·.2) = vs at hI hlen ⊢
  refine wpAny_bind (wpAny_newList ?_)
  have hoL : (h₁.push (seqObj "list" vs.toArray 0)).get? h₁.objs.size = some (seqObj "list" vs.toArray 0) := Heap.get?_push_size _ rfl
  show wpAny _ _ _ _ _ { s with heap := h₁.push (seqObj "list" vs.toArray 0), toks := tk₁ }
  refine wpAny_bind (wpAny_holding (wpAny_call_entry slot_list_sort ⟨_, hoL, rfl⟩ entry_list_sort (list_sort_tree (s := { s with heap := h₁.push (seqObj "list" vs.toArray 0), toks := tk₁ }) hoL hI hlen fun out ns' a1 a2 a3 => ⟨_, rfl, ?_⟩) (args_list_sort _)))
  obtain ⟨c, hc⟩ := sortedHeap_at (vs := vs) (out := out) hoL
  refine wpAny_pure ⟨_, rfl, h h₁.objs.size out c _ _ ns' ?_ (fun b o hb => ?_) hc a1 (a2.trans pW) a3⟩
  · cases q : s.heap.get? h₁.objs.size with
    | none => rfl
    | some o => exact absurd (Heap.lt_size (k₁ _ _ q)) (Nat.lt_irrefl _)
  · have hb := k₁ _ _ hb
    have lt := Heap.lt_size hb
    rw [sortedHeap_old (Nat.ne_of_lt lt) (by rw [size_push']; exact Nat.lt_succ_of_lt lt), Heap.get?_push_ne _ _ _ (Nat.ne_of_lt lt)]
    exact hb
end
end Mine

end

section
set_option autoImplicit false
set_option linter.all false
set_option genSizeOf false
set_option genInjectivity false
namespace Mine
open PySem PySem.Calls PyProof.Rows

noncomputable def bval : B → Value
  | .int => .type "int"
  | .bool => .type "bool"
  | .list => .type "list"
  | .tuple => .type "tuple"
  | .str => .type "str"
  | .valueError => .type "ValueError"
  | .range => .type "range"
  | .set => .type "set"
  | .enumerate => .type "enumerate"
  | .len => .builtin "len"
  | .isinstance => .builtin "isinstance"
  | .max => .builtin "max"
  | .min => .builtin "min"
  | .sorted => .builtin "sorted"

/-- what stands fast during the call -/
structure Cx where
  prog : Program
  w : World
  P : Prog
  nm : Nat → Str
  fnA : Nat → Option Addr
  clA : Nat → Option Addr
  hb : Heap
  /-- functions, and global names, that may be called while an exception is handled -/
  quiet : Nat → Bool
  qg : Nat → Bool

/-- the frozen objects, and where the cells lie -/
structure Wd where
  Z : Addr → Option Obj
  φ : Nat → Option (Addr × Addr)

abbrev tupO (vs : Array Value) (n : Nat) : Obj := { cls := .type "tuple", data := .seq vs n }
abbrev lstO (vs : Array Value) (n : Nat) : Obj := { cls := .type "list", data := .seq vs n }

mutual
inductive VR (X : Cx) (W : Wd) : Value → V → Prop
  | none : VR X W .none .none
  | bool (b : Bool) : VR X W (.bool b) (.bool b)
  | int (i : Int) (t : Tok) : VR X W (.int i t) (.int i)
  | str (s : Str) (t : Tok) : PyData.strOk s = true → s.length ≤ SZ → VR X W (.str s t) (.str s)
  | tup {a : Addr} {vs : Array Value} {n : Nat} {xs : List V} : W.Z a = some (tupO vs n) → VRs X W vs.toList xs → xs.length ≤ SZ → VR X W (.ref a) (.tup xs)
  | lst {a : Addr} {vs : Array Value} {n : Nat} {xs : List V} : W.Z a = some (lstO vs n) → VRs X W vs.toList xs → xs.length ≤ SZ → VR X W (.ref a) (.lst xs)
  | rng {r : Addr} {a b c : Int} {t u v : Tok} : W.Z r = some { cls := .type "range", dict := none, data := .fields #[.int a t, .int b u, .int c v], slots := #[] } → a.natAbs ≤ SZ → b.natAbs ≤ SZ → c = 1 ∨ c = -1 → VR X W (.ref r) (.rng a b c)
  | ref {i : Nat} {l : Addr × Addr} : W.φ i = some l → VR X W (.ref l.1) (.ref i)
  | bt (b : B) : VR X W (bval b) (.bt b)
  | fn {k : Nat} {a : Addr} : X.fnA k = some a → VR X W (.ref a) (.fn k)
  | cls {k : Nat} {a : Addr} : X.clA k = some a → VR X W (.ref a) (.cls k)
inductive VRs (X : Cx) (W : Wd) : List Value → List V → Prop
  | nil : VRs X W [] []
  | cons {v : Value} {vs : List Value} {x : V} {xs : List V} : VR X W v x → VRs X W vs xs → VRs X W (v :: vs) (x :: xs)
end

structure Wd.Le (W W' : Wd) : Prop where
  zz : ∀ a o, W.Z a = some o → W'.Z a = some o
  ff : ∀ i l, W.φ i = some l → W'.φ i = some l
theorem Wd.Le.refl (W : Wd) : Wd.Le W W := ⟨fun _ _ e => e, fun _ _ e => e⟩
theorem Wd.Le.trans {W W' W'' : Wd} (a : Wd.Le W W') (b : Wd.Le W' W'') : Wd.Le W W'' := ⟨fun _ _ e => b.zz _ _ (a.zz _ _ e), fun _ _ e => b.ff _ _ (a.ff _ _ e)⟩

theorem VR.le2 {X : Cx} {W W' : Wd} (h : Wd.Le W W') : (∀ {v : Value} {x : V}, VR X W v x → VR X W' v x) ∧ ∀ {vs : List Value} {xs : List V}, VRs X W vs xs → VRs X W' vs xs := by
  constructor
  · intro v x r
    exact VR.rec (motive_1 := fun v x _ => VR X W' v x) (motive_2 := fun vs xs _ => VRs X W' vs xs) .none .bool .int .str (fun z _ q ih => .tup (h.zz _ _ z) ih q) (fun z _ q ih => .lst (h.zz _ _ z) ih q) (fun z p q r => .rng (h.zz _ _ z) p q r) (fun e => .ref (h.ff _ _ e)) .bt .fn .cls .nil (fun _ _ a b => .cons a b) r
  · intro v x r
    exact VRs.rec (motive_1 := fun v x _ => VR X W' v x) (motive_2 := fun vs xs _ => VRs X W' vs xs) .none .bool .int .str (fun z _ q ih => .tup (h.zz _ _ z) ih q) (fun z _ q ih => .lst (h.zz _ _ z) ih q) (fun z p q r => .rng (h.zz _ _ z) p q r) (fun e => .ref (h.ff _ _ e)) .bt .fn .cls .nil (fun _ _ a b => .cons a b) r
theorem VR.le {X : Cx} {W W' : Wd} (h : Wd.Le W W') {v : Value} {x : V} (r : VR X W v x) : VR X W' v x := (VR.le2 h).1 r
theorem VRs.le {X : Cx} {W W' : Wd} (h : Wd.Le W W') {vs : List Value} {xs : List V} (r : VRs X W vs xs) : VRs X W' vs xs := (VR.le2 h).2 r
/-- things one by one: nothing, or one more -/
theorem VRs.ind {X : Cx} {W : Wd} {p : List Value → List V → Prop} (h0 : p [] []) (h1 : ∀ {v : Value} {vs : List Value} {x : V} {xs : List V}, VR X W v x → VRs X W vs xs → p vs xs → p (v :: vs) (x :: xs)) {vs : List Value} {xs : List V} (r : VRs X W vs xs) : p vs xs :=
  VRs.rec (motive_1 := fun _ _ _ => True) (motive_2 := fun vs xs _ => p vs xs) trivial (fun _ => trivial) (fun _ _ => trivial) (fun _ _ _ _ => trivial) (fun _ _ _ _ => trivial) (fun _ _ _ _ => trivial) (fun _ _ _ _ => trivial) (fun _ => trivial) (fun _ => trivial) (fun _ => trivial) (fun _ => trivial) h0 (fun a b _ ih => h1 a b ih) r

theorem VRs.length {X : Cx} {W : Wd} {vs : List Value} {xs : List V} (r : VRs X W vs xs) : vs.length = xs.length := VRs.ind (p := fun vs xs => vs.length = xs.length) rfl (fun _ _ ih => congrArg (· + 1) ih) r
theorem VRs.append {X : Cx} {W : Wd} {vs ws : List Value} {xs ys : List V} (r : VRs X W vs xs) (h : VRs X W ws ys) : VRs X W (vs ++ ws) (xs ++ ys) := VRs.ind (p := fun vs xs => VRs X W (vs ++ ws) (xs ++ ys)) h (fun a _ ih => .cons a ih) r
theorem VRs.get {X : Cx} {W : Wd} {vs : List Value} {xs : List V} (r : VRs X W vs xs) {k : Nat} {x : V} (e : xs[k]? = some x) : ∃ v, vs[k]? = some v ∧ VR X W v x :=
  VRs.ind (p := fun vs xs => ∀ (k : Nat) x, xs[k]? = some x → ∃ v, vs[k]? = some v ∧ VR X W v x) (fun _ _ e => (nomatch e)) (fun {v _ _ _} a _ ih k x e => by
    cases k with
    | zero => exact ⟨v, rfl, Option.some.inj e ▸ a⟩
    | succ k => exact ih k x e) r k x e
theorem VRs.take {X : Cx} {W : Wd} {vs : List Value} {xs : List V} (k : Nat) (r : VRs X W vs xs) : VRs X W (vs.take k) (xs.take k) :=
  VRs.ind (p := fun vs xs => ∀ k : Nat, VRs X W (vs.take k) (xs.take k)) (fun k => by cases k <;> exact .nil) (fun a _ ih k => by
    cases k with
    | zero => exact .nil
    | succ k => exact .cons a (ih k)) r k
theorem VRs.drop {X : Cx} {W : Wd} {vs : List Value} {xs : List V} (k : Nat) (r : VRs X W vs xs) : VRs X W (vs.drop k) (xs.drop k) :=
  VRs.ind (p := fun vs xs => ∀ k : Nat, VRs X W (vs.drop k) (xs.drop k)) (fun k => by cases k <;> exact .nil) (fun a b ih k => by
    cases k with
    | zero => exact .cons a b
    | succ k => exact ih k) r k
theorem VRs.reverse {X : Cx} {W : Wd} {vs : List Value} {xs : List V} (r : VRs X W vs xs) : VRs X W vs.reverse xs.reverse :=
  VRs.ind (p := fun vs xs => VRs X W vs.reverse xs.reverse) .nil (fun a _ ih => by rw [List.reverse_cons, List.reverse_cons]; exact VRs.append ih (.cons a .nil)) r
theorem VRs.set {X : Cx} {W : Wd} {vs : List Value} {xs : List V} (k : Nat) {v : Value} {x : V} (r : VRs X W vs xs) (h : VR X W v x) : VRs X W (vs.set k v) (xs.set k x) :=
  VRs.ind (p := fun vs xs => ∀ k : Nat, VRs X W (vs.set k v) (xs.set k x)) (fun k => .nil) (fun a b ih k => by
    cases k with
    | zero => exact .cons h b
    | succ k => exact .cons a (ih k)) r k

/-- the entries of a dict made in the call: by ints -/
inductive KVs (X : Cx) (W : Wd) : List (Int × Value) → List (V × V) → Prop
  | nil : KVs X W [] []
  | cons {i : Int} {v : Value} {x : V} {es : List (Int × Value)} {kvs : List (V × V)} : VR X W v x → KVs X W es kvs → KVs X W ((i, v) :: es) ((.int i, x) :: kvs)
/-- the entries of an object's own dict -/
inductive FVs (X : Cx) (W : Wd) : List DictEntry → List (Nat × V) → Prop
  | nil : FVs X W [] []
  | cons {i : Nat} {hh : Int} {t : Tok} {v : Value} {x : V} {es : List DictEntry} {fs : List (Nat × V)} : VR X W v x → FVs X W es fs → FVs X W (⟨hh, .str (X.nm i) t, v⟩ :: es) ((i, x) :: fs)

theorem KVs.le {X : Cx} {W W' : Wd} (h : Wd.Le W W') {es : List (Int × Value)} {kvs : List (V × V)} (r : KVs X W es kvs) : KVs X W' es kvs := by
  induction r with
  | nil => exact .nil
  | cons a _ ih => exact .cons (a.le h) ih
theorem FVs.le {X : Cx} {W W' : Wd} (h : Wd.Le W W') {es : List DictEntry} {fs : List (Nat × V)} (r : FVs X W es fs) : FVs X W' es fs := by
  induction r with
  | nil => exact .nil
  | cons a _ ih => exact .cons (a.le h) ih

abbrev dictO (es : Array DictEntry) (n : Nat) : Obj := { cls := .type "dict", data := .dict es n }
abbrev instO (c dx : Addr) : Obj := { cls := .ref c, dict := some dx, data := .plain }

/-- a cell lies in the heap -/
inductive LstCell (X : Cx) (W : Wd) (h : Heap) (l : Addr × Addr) (xs : List V) : Prop
  | mk (vs : Array Value) (n : Nat) (a : h.get? l.1 = some (lstO vs n)) (b : VRs X W vs.toList xs) (e : l.2 = l.1) (z : xs.length ≤ SZ)
inductive DicCell (X : Cx) (W : Wd) (h : Heap) (l : Addr × Addr) (kvs : List (V × V)) : Prop
  | mk (es : List (Int × Value)) (a : h.DictOf (intKind X.prog X.w) l.1 es) (k : KVs X W es kvs) (e : l.2 = l.1) (ne : (l.1 == sysModules) = false) (z : kvs.length ≤ SZ)
inductive InsCell (X : Cx) (W : Wd) (h : Heap) (l : Addr × Addr) (k : Nat) (fs : List (Nat × V)) : Prop
  | mk (c : Addr) (cl : Cl) (es : Array DictEntry) (n : Nat) (a : X.clA k = some c) (a' : X.P.cls k = some cl) (b : h.get? l.1 = some (instO c l.2)) (d : h.get? l.2 = some (dictO es n)) (f : FVs X W es.toList fs) (ne : l.2 ≠ l.1) (p : ∀ p ∈ fs, p.1 ∈ cl.attrs) (z : fs.length ≤ 1000)
inductive ExcCell (X : Cx) (h : Heap) (l : Addr × Addr) (k : Nat) : Prop
  | mk (c : Addr) (o : Obj) (vs : Array Value) (a : X.clA k = some c) (a' : X.P.exc k = true) (b : h.get? l.1 = some o) (d : o.cls = .ref c) (f : o.data = .fields vs) (e : l.2 = l.1)
noncomputable def CellAt (X : Cx) (W : Wd) (h : Heap) (l : Addr × Addr) : C → Prop
  | .list xs => LstCell X W h l xs
  | .dict kvs => DicCell X W h l kvs
  | .inst k fs => InsCell X W h l k fs
  | .exc k => ExcCell X h l k

theorem CellAt.keeps {X : Cx} {W W' : Wd} {h h' : Heap} {l : Addr × Addr} {c : C} (hc : CellAt X W h l c) (hw : Wd.Le W W')
    (h1 : ∀ o, h.get? l.1 = some o → h'.get? l.1 = some o) (h2 : ∀ o, h.get? l.2 = some o → h'.get? l.2 = some o) : CellAt X W' h' l c := by
  cases c with
  | list xs => obtain ⟨vs, n, a, b, e, z⟩ := hc; exact ⟨vs, n, h1 _ a, b.le hw, e, z⟩
  | dict kvs => obtain ⟨es, a, k, e, n, z⟩ := hc; exact ⟨es, a.at h1, k.le hw, e, n, z⟩
  | inst k fs => obtain ⟨c, cl, es, n, a, a', b, d, f, ne, p, z⟩ := hc; exact ⟨c, cl, es, n, a, a', h1 _ b, h2 _ d, f.le hw, ne, p, z⟩
  | exc k => obtain ⟨c, o, vs, a, a', b, d, f, e⟩ := hc; exact ⟨c, o, vs, a, a', h1 _ b, d, f, e⟩
theorem CellAt.there {X : Cx} {W : Wd} {h : Heap} {l : Addr × Addr} {c : C} (hc : CellAt X W h l c) : (∃ o, h.get? l.1 = some o) ∧ ∃ o, h.get? l.2 = some o := by
  cases c with
  | list xs => obtain ⟨vs, n, a, b, e, _⟩ := hc; exact ⟨⟨_, a⟩, by rw [e]; exact ⟨_, a⟩⟩
  | dict kvs => obtain ⟨es, ⟨o, _, _, g, _⟩, k, e, _⟩ := hc; exact ⟨⟨o, g⟩, by rw [e]; exact ⟨o, g⟩⟩
  | inst k fs => obtain ⟨c, cl, es, n, a, a', b, d, f, _⟩ := hc; exact ⟨⟨_, b⟩, _, d⟩
  | exc k => obtain ⟨c, o, vs, a, a', b, d, f, e⟩ := hc; exact ⟨⟨_, b⟩, by rw [e]; exact ⟨_, b⟩⟩

inductive Own (W : Wd) (H : Hp) (a : Addr) : Prop
  | mk (i : Nat) (c : C) (l : Addr × Addr) (h : H.get i = some c) (p : W.φ i = some l) (e : a = l.1 ∨ a = l.2)
inductive CellIn (X : Cx) (W : Wd) (h : Heap) (i : Nat) (c : C) : Prop
  | mk (l : Addr × Addr) (p : W.φ i = some l) (r : CellAt X W h l c)

structure RelH (X : Cx) (W : Wd) (H : Hp) (h : Heap) : Prop where
  z : ∀ a o, W.Z a = some o → h.get? a = some o
  base : ∀ a o, X.hb.get? a = some o → W.Z a = some o
  cell : ∀ i c, H.get i = some c → CellIn X W h i c
  off : ∀ a, Own W H a → W.Z a = none
  sep : ∀ i j ci cj li lj, H.get i = some ci → H.get j = some cj → W.φ i = some li → W.φ j = some lj → i ≠ j → li.1 ≠ lj.1 ∧ li.1 ≠ lj.2 ∧ li.2 ≠ lj.1 ∧ li.2 ≠ lj.2
  dom : ∀ i, H.next ≤ i → H.get i = none ∧ W.φ i = none

theorem RelH.own_there {X : Cx} {W : Wd} {H : Hp} {h : Heap} (R : RelH X W H h) {a : Addr} (o : Own W H a) : ∃ ob, h.get? a = some ob := by
  obtain ⟨i, c, l, hc, hl, ha⟩ := o
  obtain ⟨l', hl', hcell⟩ := R.cell i c hc
  have : l' = l := Option.some.inj (hl'.symm.trans hl)
  subst this
  rcases ha with rfl | rfl
  · exact hcell.there.1
  · exact hcell.there.2
theorem RelH.own_lt {X : Cx} {W : Wd} {H : Hp} {h : Heap} (R : RelH X W H h) {a : Addr} (o : Own W H a) : a < h.objs.size := let ⟨_, e⟩ := R.own_there o; Heap.lt_size e
theorem RelH.bkeep {X : Cx} {W : Wd} {H : Hp} {h : Heap} (R : RelH X W H h) : ∀ a o, X.hb.get? a = some o → h.get? a = some o := fun a o e => R.z _ _ (R.base a o e)

/-- no names are kept in it -/
noncomputable def NoNames (o : Obj) : Prop := ∀ es n, o.data ≠ .dict es n
/-- the same object, but a frame's slots may differ -/
noncomputable def SameO (o o' : Obj) : Prop := o' = o ∨ ((∃ es n, o.data = .dict es n) ∧ ∃ sl, o' = { o with slots := sl })
theorem SameO.refl (o : Obj) : SameO o o := .inl rfl
theorem SameO.trans {a b c : Obj} (x : SameO a b) (y : SameO b c) : SameO a c := by
  rcases x with rfl | ⟨h, sl, rfl⟩
  · exact y
  · rcases y with rfl | ⟨_, sl', rfl⟩
    · exact .inr ⟨h, sl, rfl⟩
    · exact .inr ⟨h, sl', rfl⟩
theorem SameO.eq {a b : Obj} (x : SameO a b) (h : NoNames a) : b = a := x.elim id fun q => by
  obtain ⟨⟨es, n, e⟩, _⟩ := q
  exact absurd e (h es n)
theorem SameO.cls {a b : Obj} (x : SameO a b) : b.cls = a.cls := by rcases x with rfl | ⟨_, _, rfl⟩ <;> rfl
theorem SameO.data {a b : Obj} (x : SameO a b) : b.data = a.data := by rcases x with rfl | ⟨_, _, rfl⟩ <;> rfl

/-- what a step may do: all that is neither owned nor private stands as it stood -/
structure Stp (Pv : Addr → Prop) (W : Wd) (H : Hp) (h : Heap) (W' : Wd) (H' : Hp) (h' : Heap) : Prop where
  le : Wd.Le W W'
  keep : ∀ a o, h.get? a = some o → ¬ Own W H a → ¬ Pv a → ∃ o', h'.get? a = some o' ∧ SameO o o'
  own : ∀ a o, h.get? a = some o → ¬ Own W H a → ¬ Own W' H' a
  znew : ∀ a o, W'.Z a = some o → W.Z a = some o ∨ Own W H a ∨ h.get? a = none
  there : ∀ a o, h.get? a = some o → ∃ o', h'.get? a = some o'

noncomputable def noPv : Addr → Prop := fun _ => False

theorem Stp.refl {Pv : Addr → Prop} {W : Wd} {H : Hp} {h : Heap} : Stp Pv W H h W H h :=
  ⟨.refl _, fun _ o e _ _ => ⟨o, e, .refl o⟩, fun _ _ _ n => n, fun _ _ e => .inl e, fun _ o e => ⟨o, e⟩⟩
theorem Stp.trans {Pv : Addr → Prop} {W W' W'' : Wd} {H H' H'' : Hp} {h h' h'' : Heap} (a : Stp Pv W H h W' H' h') (b : Stp Pv W' H' h' W'' H'' h'') : Stp Pv W H h W'' H'' h'' where
  le := a.le.trans b.le
  keep := fun x o e n p => by
    obtain ⟨o₁, e₁, q₁⟩ := a.keep x o e n p
    obtain ⟨o₂, e₂, q₂⟩ := b.keep x o₁ e₁ (a.own x o e n) p
    exact ⟨o₂, e₂, q₁.trans q₂⟩
  own := fun x o e n => let ⟨_, e'⟩ := a.there x o e; b.own x _ e' (a.own x o e n)
  znew := fun x o e => by
    rcases b.znew x o e with q | q | q
    · exact a.znew x o q
    · by_cases ho : Own W H x
      · exact .inr (.inl ho)
      · cases hx : h.get? x with
        | none => exact .inr (.inr rfl)
        | some o' => exact absurd q (a.own x o' hx ho)
    · cases hx : h.get? x with
      | none => exact .inr (.inr rfl)
      | some o' => obtain ⟨_, e'⟩ := a.there x o' hx; rw [e'] at q; cases q
  there := fun x o e => let ⟨_, e'⟩ := a.there x o e; b.there x _ e'
theorem Stp.mono {Pv Pv' : Addr → Prop} {W W' : Wd} {H H' : Hp} {h h' : Heap} (a : Stp Pv W H h W' H' h') (hp : ∀ x, Pv x → Pv' x) : Stp Pv' W H h W' H' h' :=
  ⟨a.le, fun x o e n p => a.keep x o e n fun q => p (hp x q), a.own, a.znew, a.there⟩

/-- a step whose private things are new -/
theorem Stp.transFresh {Pv Pv' : Addr → Prop} {W W' W'' : Wd} {H H' H'' : Hp} {h h' h'' : Heap} (a : Stp Pv W H h W' H' h') (b : Stp Pv' W' H' h' W'' H'' h'') (hf : ∀ x, Pv' x → h.get? x = none ∨ Pv x) : Stp Pv W H h W'' H'' h'' where
  le := a.le.trans b.le
  keep := fun x o e n p => by
    obtain ⟨o₁, e₁, q₁⟩ := a.keep x o e n p
    obtain ⟨o₂, e₂, q₂⟩ := b.keep x o₁ e₁ (a.own x o e n) fun q => (hf x q).elim (fun z => by rw [z] at e; cases e) p
    exact ⟨o₂, e₂, q₁.trans q₂⟩
  own := fun x o e n => let ⟨_, e'⟩ := a.there x o e; b.own x _ e' (a.own x o e n)
  znew := fun x o e => by
    rcases b.znew x o e with q | q | q
    · exact a.znew x o q
    · by_cases ho : Own W H x
      · exact .inr (.inl ho)
      · cases hx : h.get? x with
        | none => exact .inr (.inr rfl)
        | some o' => exact absurd q (a.own x o' hx ho)
    · cases hx : h.get? x with
      | none => exact .inr (.inr rfl)
      | some o' => obtain ⟨_, e'⟩ := a.there x o' hx; rw [e'] at q; cases q
  there := fun x o e => let ⟨_, e'⟩ := a.there x o e; b.there x _ e'

/-- nothing of the layer's moves: more objects, or the private ones changed -/
theorem Stp.quiet {Pv : Addr → Prop} {W : Wd} {H : Hp} {h h' : Heap} (hk : ∀ a o, h.get? a = some o → ¬ Pv a → h'.get? a = some o) (ht : ∀ a o, h.get? a = some o → ∃ o', h'.get? a = some o') :
    Stp Pv W H h W H h' := ⟨.refl _, fun x o e _ p => ⟨o, hk x o e p, .refl o⟩, fun _ _ _ n => n, fun _ _ e => .inl e, ht⟩
theorem RelH.quiet {Pv : Addr → Prop} {X : Cx} {W : Wd} {H : Hp} {h h' : Heap} (R : RelH X W H h) (hk : ∀ a o, h.get? a = some o → ¬ Pv a → h'.get? a = some o) (hp : ∀ a, Pv a → ¬ Own W H a ∧ W.Z a = none) : RelH X W H h' where
  z := fun a o e => hk a o (R.z a o e) fun p => by rw [(hp a p).2] at e; cases e
  base := R.base
  cell := fun i c e => by
    obtain ⟨l, hl, hc⟩ := R.cell i c e
    exact ⟨l, hl, hc.keeps (.refl _) (fun o q => hk _ o q fun p => (hp _ p).1 ⟨i, c, l, e, hl, .inl rfl⟩) fun o q => hk _ o q fun p => (hp _ p).1 ⟨i, c, l, e, hl, .inr rfl⟩⟩
  off := R.off
  sep := R.sep
  dom := R.dom

noncomputable def Wd.addZ (W : Wd) (a : Addr) (o : Obj) : Wd := ⟨fun b => if b = a then some o else W.Z b, W.φ⟩
noncomputable def Wd.addφ (W : Wd) (i : Nat) (l : Addr × Addr) : Wd := ⟨W.Z, fun j => if j = i then some l else W.φ j⟩

theorem Own.addZ {W : Wd} {H : Hp} {a b : Addr} {o : Obj} : Own (W.addZ a o) H b ↔ Own W H b := ⟨fun ⟨i, c, l, x, y, z⟩ => ⟨i, c, l, x, y, z⟩, fun ⟨i, c, l, x, y, z⟩ => ⟨i, c, l, x, y, z⟩⟩
section
variable {X : Cx} {W : Wd} {H : Hp} {h h' : Heap} (R : RelH X W H h)
include R
theorem RelH.leZ {a : Addr} {o : Obj} (hn : h.get? a = none) : Wd.Le W (W.addZ a o) :=
  ⟨fun b ob e => (by
    show (if b = a then some o else W.Z b) = some ob
    rw [if_neg]
    · exact e
    · rintro rfl; rw [R.z _ _ e] at hn; cases hn), fun _ _ e => e⟩
/-- a new frozen object -/
theorem RelH.frozen {a : Addr} {o : Obj} (hk : ∀ b ob, h.get? b = some ob → h'.get? b = some ob) (hn : h.get? a = none) (ha : h'.get? a = some o) :
    RelH X (W.addZ a o) H h' ∧ Stp noPv W H h (W.addZ a o) H h' := by
  have L : Wd.Le W (W.addZ a o) := R.leZ hn
  refine ⟨⟨fun b ob e => ?_, fun b ob e => L.zz _ _ (R.base b ob e), fun i c e => ?_, fun b hb => ?_, R.sep, R.dom⟩, ⟨L, fun x ob e _ _ => ⟨ob, hk x ob e, .refl ob⟩, fun _ _ _ n z => n (Own.addZ.mp z), fun x ob e => ?_, fun x ob e => ⟨ob, hk x ob e⟩⟩⟩
  · have e' : (if b = a then some o else W.Z b) = some ob := e
    by_cases hb : b = a
    · subst hb; rw [if_pos rfl] at e'; cases e'; exact ha
    · rw [if_neg hb] at e'; exact hk _ _ (R.z _ _ e')
  · obtain ⟨l, hl, hc⟩ := R.cell i c e
    exact ⟨l, hl, hc.keeps L (fun o q => hk _ _ q) fun o q => hk _ _ q⟩
  · show (if b = a then some o else W.Z b) = none
    have hb' : Own W H b := Own.addZ.mp hb
    rw [if_neg]
    · exact R.off b hb'
    · rintro rfl
      obtain ⟨_, q⟩ := R.own_there hb'
      rw [q] at hn; cases hn
  · have e' : (if x = a then some o else W.Z x) = some ob := e
    by_cases hb : x = a
    · subst hb; exact .inr (.inr hn)
    · rw [if_neg hb] at e'; exact .inl e'
theorem RelH.leF {l : Addr × Addr} : Wd.Le W (W.addφ H.next l) :=
  ⟨fun _ _ e => e, fun i k e => by
    show (if i = H.next then some l else W.φ i) = some k
    rw [if_neg]
    · exact e
    · rintro rfl; rw [(R.dom _ (Nat.le_refl _)).2] at e; cases e⟩
theorem RelH.own_new {l : Addr × Addr} {c : C} {a : Addr} (ho : Own (W.addφ H.next l) (H.new c) a) : Own W H a ∨ a = l.1 ∨ a = l.2 := by
  obtain ⟨i, ci, li, hi, hl, ha⟩ := ho
  have hi' : (if i = H.next then some c else H.get i) = some ci := hi
  have hl' : (if i = H.next then some l else W.φ i) = some li := hl
  by_cases hn : i = H.next
  · rw [if_pos hn] at hl'; cases hl'; exact .inr ha
  · rw [if_neg hn] at hi' hl'; exact .inl ⟨i, ci, li, hi', hl', ha⟩
/-- a new cell -/
theorem RelH.fresh {l : Addr × Addr} {c : C} (hk : ∀ b ob, h.get? b = some ob → h'.get? b = some ob) (h1 : h.get? l.1 = none) (h2 : h.get? l.2 = none)
    (hc : CellAt X (W.addφ H.next l) h' l c) : RelH X (W.addφ H.next l) (H.new c) h' ∧ Stp noPv W H h (W.addφ H.next l) (H.new c) h' := by
  have L : Wd.Le W (W.addφ H.next l) := R.leF
  have nZ : ∀ b, h.get? b = none → W.Z b = none := fun b e => by
    cases q : W.Z b with
    | none => rfl
    | some o => rw [R.z _ _ q] at e; cases e
  have ne : ∀ i ci li, H.get i = some ci → W.φ i = some li → (li.1 ≠ l.1 ∧ li.1 ≠ l.2 ∧ li.2 ≠ l.1 ∧ li.2 ≠ l.2) := fun i ci li hi hl => by
    obtain ⟨o1, q1⟩ := R.own_there ⟨i, ci, li, hi, hl, .inl rfl⟩
    obtain ⟨o2, q2⟩ := R.own_there ⟨i, ci, li, hi, hl, .inr rfl⟩
    refine ⟨fun e => ?_, fun e => ?_, fun e => ?_, fun e => ?_⟩
    · rw [e, h1] at q1; cases q1
    · rw [e, h2] at q1; cases q1
    · rw [e, h1] at q2; cases q2
    · rw [e, h2] at q2; cases q2
  refine ⟨⟨fun b ob e => hk _ _ (R.z b ob e), R.base, fun i ci e => ?_, fun b hb => ?_, fun i j ci cj li lj hi hj hli hlj nij => ?_, fun i hi => ?_⟩, ⟨L, fun x ob e _ _ => ⟨ob, hk x ob e, .refl ob⟩, fun x ob e n o => ?_, fun _ _ e => .inl e, fun x ob e => ⟨ob, hk x ob e⟩⟩⟩
  · have e' : (if i = H.next then some c else H.get i) = some ci := e
    by_cases hn : i = H.next
    · rw [if_pos hn] at e'; cases e'
      exact ⟨l, by show (if i = H.next then some l else W.φ i) = some l; rw [if_pos hn], hc⟩
    · rw [if_neg hn] at e'
      obtain ⟨k, hl, q⟩ := R.cell i ci e'
      exact ⟨k, L.ff _ _ hl, q.keeps L (fun o q => hk _ _ q) fun o q => hk _ _ q⟩
  · rcases R.own_new hb with q | rfl | rfl
    · exact R.off b q
    · exact nZ _ h1
    · exact nZ _ h2
  · have hi' : (if i = H.next then some c else H.get i) = some ci := hi
    have hj' : (if j = H.next then some c else H.get j) = some cj := hj
    have hli' : (if i = H.next then some l else W.φ i) = some li := hli
    have hlj' : (if j = H.next then some l else W.φ j) = some lj := hlj
    by_cases hn : i = H.next
    · have hm : ¬ j = H.next := fun q => nij (hn.trans q.symm)
      rw [if_pos hn] at hli'; cases hli'
      rw [if_neg hm] at hj' hlj'
      obtain ⟨a, b, c, d⟩ := ne j cj lj hj' hlj'
      exact ⟨a.symm, c.symm, b.symm, d.symm⟩
    · rw [if_neg hn] at hi' hli'
      by_cases hm : j = H.next
      · rw [if_pos hm] at hlj'; cases hlj'
        obtain ⟨a, b, c, d⟩ := ne i ci li hi' hli'
        exact ⟨a, b, c, d⟩
      · rw [if_neg hm] at hj' hlj'
        exact R.sep i j ci cj li lj hi' hj' hli' hlj' nij
  · have hi2 : H.next + 1 ≤ i := hi
    have : ¬ i = H.next := by omega
    constructor
    · show (if i = H.next then some c else H.get i) = none
      rw [if_neg this]; exact (R.dom i (by omega)).1
    · show (if i = H.next then some l else W.φ i) = none
      rw [if_neg this]; exact (R.dom i (by omega)).2
  · rcases R.own_new o with q | rfl | rfl
    · exact n q
    · rw [h1] at e; cases e
    · rw [h2] at e; cases e
theorem RelH.own_set {i : Nat} {c c' : C} {a : Addr} (hi : H.get i = some c) : Own W (H.set i c') a ↔ Own W H a := by
  constructor
  · rintro ⟨j, cj, lj, hj, hl, ha⟩
    have hj' : (if j = i then some c' else H.get j) = some cj := hj
    by_cases hn : j = i
    · exact ⟨j, c, lj, hn ▸ hi, hl, ha⟩
    · rw [if_neg hn] at hj'; exact ⟨j, cj, lj, hj', hl, ha⟩
  · rintro ⟨j, cj, lj, hj, hl, ha⟩
    by_cases hn : j = i
    · exact ⟨j, c', lj, by show (if j = i then some c' else H.get j) = some c'; rw [if_pos hn], hl, ha⟩
    · exact ⟨j, cj, lj, by show (if j = i then some c' else H.get j) = some cj; rw [if_neg hn]; exact hj, hl, ha⟩
/-- a cell changed -/
theorem RelH.upd {i : Nat} {l : Addr × Addr} {c c' : C} (hi : H.get i = some c) (hl : W.φ i = some l) (hk : ∀ b ob, h.get? b = some ob → b ≠ l.1 → b ≠ l.2 → h'.get? b = some ob)
    (hc : CellAt X W h' l c') : RelH X W (H.set i c') h' ∧ Stp noPv W H h W (H.set i c') h' := by
  have ow : ∀ b, b = l.1 ∨ b = l.2 → Own W H b := fun b e => ⟨i, c, l, hi, hl, e⟩
  have hk' : ∀ b ob, h.get? b = some ob → ¬ Own W H b → h'.get? b = some ob := fun b ob e n => hk b ob e (fun q => n (ow b (.inl q))) fun q => n (ow b (.inr q))
  refine ⟨⟨fun b ob e => hk' _ _ (R.z b ob e) fun o => ?_, R.base, fun j cj e => ?_, fun b hb => R.off b ((R.own_set hi).mp hb), fun j k cj ck lj lk hj hk₂ hlj hlk nij => ?_, fun j hj => ?_⟩,
    ⟨.refl _, fun x ob e n _ => ⟨ob, hk' x ob e n, .refl ob⟩, fun x ob _ n o => n ((R.own_set hi).mp o), fun _ _ e => .inl e, fun x ob e => ?_⟩⟩
  · rw [R.off _ o] at e; cases e
  · have e' : (if j = i then some c' else H.get j) = some cj := e
    by_cases hn : j = i
    · rw [if_pos hn] at e'; cases e'; subst hn; exact ⟨l, hl, hc⟩
    · rw [if_neg hn] at e'
      obtain ⟨k, hlj, q⟩ := R.cell j cj e'
      obtain ⟨a, b, c₁, d⟩ := R.sep j i cj c k l e' hi hlj hl hn
      exact ⟨k, hlj, q.keeps (.refl _) (fun o q => hk _ _ q a b) fun o q => hk _ _ q c₁ d⟩
  · have g : ∀ j cj, (H.set i c').get j = some cj → ∃ c₂, H.get j = some c₂ := fun j cj e => by
      have e' : (if j = i then some c' else H.get j) = some cj := e
      by_cases hn : j = i
      · exact ⟨c, hn ▸ hi⟩
      · rw [if_neg hn] at e'; exact ⟨_, e'⟩
    obtain ⟨_, a⟩ := g j cj hj
    obtain ⟨_, b⟩ := g k ck hk₂
    exact R.sep j k _ _ lj lk a b hlj hlk nij
  · have hj' : H.next ≤ j := hj
    have hn : ¬ j = i := by rintro rfl; rw [(R.dom j hj').1] at hi; cases hi
    refine ⟨?_, (R.dom j hj').2⟩
    show (if j = i then some c' else H.get j) = none
    rw [if_neg hn]; exact (R.dom j hj').1
  · by_cases h1 : x = l.1
    · subst h1; exact hc.there.1
    · by_cases h2 : x = l.2
      · subst h2; exact hc.there.2
      · exact ⟨ob, hk x ob e h1 h2⟩
/-- a list that is changed no more -/
theorem RelH.freeze {i : Nat} {xs : List V} {l : Addr × Addr} (hi : H.get i = some (.list xs)) (hl : W.φ i = some l) :
    ∃ o, RelH X (W.addZ l.1 o) (H.del i) h ∧ Stp noPv W H h (W.addZ l.1 o) (H.del i) h ∧ VR X (W.addZ l.1 o) (.ref l.1) (.lst xs) := by
  obtain ⟨l', hl', vs, n, hg, hv, he, hsz⟩ := R.cell i _ hi
  have : l' = l := Option.some.inj (hl'.symm.trans hl)
  subst this
  have own_i : ∀ b, b = l'.1 ∨ b = l'.2 → Own W H b := fun b e => ⟨i, _, l', hi, hl, e⟩
  have L : Wd.Le W (W.addZ l'.1 (lstO vs n)) := ⟨fun b ob e => (by
    show (if b = l'.1 then some (lstO vs n) else W.Z b) = some ob
    rw [if_neg]
    · exact e
    · rintro rfl; rw [R.off _ (own_i _ (.inl rfl))] at e; cases e), fun _ _ e => e⟩
  have od : ∀ b, Own (W.addZ l'.1 (lstO vs n)) (H.del i) b → Own W H b ∧ b ≠ l'.1 := fun b ⟨j, cj, lj, hj, hlj, ha⟩ => by
    have hj' : (if j = i then none else H.get j) = some cj := hj
    by_cases hn : j = i
    · rw [if_pos hn] at hj'; cases hj'
    · rw [if_neg hn] at hj'
      refine ⟨⟨j, cj, lj, hj', hlj, ha⟩, ?_⟩
      obtain ⟨a, b, c, d⟩ := R.sep j i cj _ lj l' hj' hi hlj hl hn
      rcases ha with rfl | rfl
      · exact a
      · exact c
  refine ⟨lstO vs n, ⟨fun b ob e => ?_, fun b ob e => L.zz _ _ (R.base b ob e), fun j cj e => ?_, fun b hb => ?_, fun j k cj ck lj lk hj hk hlj hlk nij => ?_, fun j hj => ?_⟩,
    ⟨L, fun x ob e _ _ => ⟨ob, e, .refl ob⟩, fun x ob e no o => no (od x o).1, fun x ob e => ?_, fun x ob e => ⟨ob, e⟩⟩, .lst (n := n) ?_ (hv.le L) hsz⟩
  · have e' : (if b = l'.1 then some (lstO vs n) else W.Z b) = some ob := e
    by_cases hb : b = l'.1
    · rw [if_pos hb] at e'; cases e'; rw [hb]; exact hg
    · rw [if_neg hb] at e'; exact R.z _ _ e'
  · have e' : (if j = i then none else H.get j) = some cj := e
    by_cases hn : j = i
    · rw [if_pos hn] at e'; cases e'
    · rw [if_neg hn] at e'
      obtain ⟨k, hlj, q⟩ := R.cell j cj e'
      exact ⟨k, hlj, q.keeps L (fun _ q => q) fun _ q => q⟩
  · obtain ⟨a, b'⟩ := od b hb
    show (if b = l'.1 then some (lstO vs n) else W.Z b) = none
    rw [if_neg b']; exact R.off _ a
  · have g : ∀ j cj, (H.del i).get j = some cj → H.get j = some cj := fun j cj e => by
      have e' : (if j = i then none else H.get j) = some cj := e
      by_cases hn : j = i
      · rw [if_pos hn] at e'; cases e'
      · rw [if_neg hn] at e'; exact e'
    exact R.sep j k cj ck lj lk (g _ _ hj) (g _ _ hk) hlj hlk nij
  · have hj' : H.next ≤ j := hj
    refine ⟨?_, (R.dom j hj').2⟩
    show (if j = i then none else H.get j) = none
    rw [(R.dom j hj').1]; simp
  · have e' : (if x = l'.1 then some (lstO vs n) else W.Z x) = some ob := e
    by_cases hb : x = l'.1
    · exact .inr (.inl (own_i _ (.inl hb)))
    · rw [if_neg hb] at e'; exact .inl e'
  · show (if l'.1 = l'.1 then some (lstO vs n) else W.Z l'.1) = _
    rw [if_pos rfl]
end
end Mine

end

section
set_option autoImplicit false
set_option linter.all false
set_option genSizeOf false
set_option genInjectivity false
namespace Mine
open PySem PySem.Calls PyProof.Rows

structure Rest (s s' : Shared) : Prop where
  gens : s'.gens = s.gens
  drawn : s'.drawn = s.drawn
  os : s'.os = s.os
theorem Rest.refl (s : Shared) : Rest s s := ⟨rfl, rfl, rfl⟩
theorem Rest.trans {a b c : Shared} (x : Rest a b) (y : Rest b c) : Rest a c := ⟨y.gens.trans x.gens, y.drawn.trans x.drawn, y.os.trans x.os⟩
theorem Rest.mk' {s : Shared} {h : Heap} {t : Nat} : Rest s { s with heap := h, toks := t } := ⟨rfl, rfl, rfl⟩

theorem ns_same {h h' : Heap} {a : Addr} {m : Str → Option Value} (hn : h.Ns a m) (hk : ∀ o, h.get? a = some o → ∃ o', h'.get? a = some o' ∧ SameO o o') : h'.Ns a m := by
  obtain ⟨o, es, ep, ho, hd, r⟩ := hn
  obtain ⟨o', ho', q⟩ := hk o ho
  exact ⟨o', es, ep, ho', q.data.trans hd, r⟩
theorem cell_same {h h' : Heap} {a : Addr} {v : Option Value} (hn : h.IsCell a v) (hk : ∀ o, h.get? a = some o → ∃ o', h'.get? a = some o' ∧ SameO o o') : h'.IsCell a v := by
  obtain ⟨o, ho, hd⟩ := hn
  obtain ⟨o', ho', q⟩ := hk o ho
  exact ⟨o', ho', q.data.trans hd⟩

/-- what is the frame's own, and the frames around -/
structure Pr where
  pv : Addr → Prop
  st : List Env
/-- a frame around -/
structure FrAt (W : Wd) (H : Hp) (h : Heap) (env : Env) : Prop where
  kd : env.scope.kind ≠ .module
  at_ : ∃ L o es n, env.frame = some L ∧ h.get? L = some o ∧ o.data = .dict es n ∧ ¬ Own W H L ∧ W.Z L = none
theorem FrAt.keep {W W' : Wd} {H H' : Hp} {h h' : Heap} {env : Env} (F : FrAt W H h env) (k : ∀ L o es n, env.frame = some L → h.get? L = some o → o.data = .dict es n → ¬ Own W H L → W.Z L = none → (∃ o' es' n', h'.get? L = some o' ∧ o'.data = .dict es' n') ∧ ¬ Own W' H' L ∧ W'.Z L = none) : FrAt W' H' h' env := by
  obtain ⟨kd, L, o, es, n, a, b, c, d, e⟩ := F
  obtain ⟨⟨o', es', n', b', c'⟩, d', e'⟩ := k L o es n a b c d e
  exact ⟨kd, L, o', es', n', a, b', c', d', e'⟩

inductive MmR (X : Cx) (W : Wd) (m : Str → Option Value) (i : Nat) (v : V) : Prop
  | mk (cv : Value) (e : m (X.nm i) = some cv) (r : VR X W cv v)
inductive NsR (X : Cx) (W : Wd) (h : Heap) (env : Env) (loc : Loc) : Prop
  | mk (m : Str → Option Value) (hn : h.Ns env.locals m) (hv : ∀ i v, loc i = some v → env.kindOf (X.nm i) = some .local → MmR X W m i v)
inductive ClR (X : Cx) (W : Wd) (h : Heap) (env : Env) (i : Nat) (v : V) : Prop
  | mk (c : Addr) (cv : Value) (e : env.cells.lookup (X.nm i) = some c) (hc : h.IsCell c (some cv)) (r : VR X W cv v)
/-- the frame at hand -/
structure FrR (X : Cx) (W : Wd) (H : Hp) (h : Heap) (env : Env) (Pv : Pr) (loc : Loc) : Prop where
  ns : NsR X W h env loc
  cells : ∀ i v, loc i = some v → (env.kindOf (X.nm i) = some .cell ∨ env.kindOf (X.nm i) = some .free) → ClR X W h env i v
  hasCell : ∀ x, env.func ≠ none → env.kindOf x = some .cell → ∃ c v, env.cells.lookup x = some c ∧ h.IsCell c v ∧ Pv.pv c
  cellEq : ∀ x y c, env.cells.lookup x = some c → env.cells.lookup y = some c → x = y
  cellNs : ∀ x c, env.cells.lookup x = some c → c ≠ env.locals ∧ ¬ Own W H c ∧ ∃ o, h.get? c = some o
  pvL : Pv.pv env.locals
  priv : ∀ a, Pv.pv a → ¬ Own W H a ∧ W.Z a = none
  pvAt : ∀ a, Pv.pv a → ∃ o, h.get? a = some o
  frs : ∀ e ∈ Pv.st, FrAt W H h e
  frc : ∀ x c, env.cells.lookup x = some c → ∀ e ∈ Pv.st, e.frame ≠ some c

theorem FrR.step {X : Cx} {W W' : Wd} {H H' : Hp} {h h' : Heap} {env : Env} {Pv : Pr} {Pv' : Addr → Prop} {loc : Loc} (F : FrR X W H h env Pv loc) (S : Stp Pv' W H h W' H' h') (hp : ∀ a, Pv' a → h.get? a = none) : FrR X W' H' h' env Pv loc := by
  have kp : ∀ a, Pv.pv a → ∀ o, h.get? a = some o → ∃ o', h'.get? a = some o' ∧ SameO o o' := fun a p o e => S.keep a o e (F.priv a p).1 fun q => by rw [hp a q] at e; cases e
  have kc : ∀ x c, env.cells.lookup x = some c → ∀ o, h.get? c = some o → ∃ o', h'.get? c = some o' ∧ SameO o o' := fun x c q o e => S.keep c o e (F.cellNs x c q).2.1 fun q => by rw [hp c q] at e; cases e
  refine ⟨?_, fun i v e k => ?_, fun x ef e => ?_, F.cellEq, fun x c e => ?_, F.pvL, fun a p => ?_, fun a p => ?_, fun e he => (F.frs e he).keep fun L o es n a b c d f => ?_, F.frc⟩
  · obtain ⟨m, hn, hv⟩ := F.ns
    exact ⟨m, ns_same hn (kp _ F.pvL), fun i v e k => let ⟨cv, q, r⟩ := hv i v e k; ⟨cv, q, r.le S.le⟩⟩
  · obtain ⟨c, cv, q, r, t⟩ := F.cells i v e k
    exact ⟨c, cv, q, cell_same r (kc _ _ q), t.le S.le⟩
  · obtain ⟨c, v, q, r, t⟩ := F.hasCell x ef e
    exact ⟨c, v, q, cell_same r (kc _ _ q), t⟩
  · obtain ⟨a, b, ob, q⟩ := F.cellNs x c e
    exact ⟨a, S.own c ob q b, S.there c ob q⟩
  · obtain ⟨o, e⟩ := F.pvAt a p
    refine ⟨S.own a o e (F.priv a p).1, ?_⟩
    cases hq : W'.Z a with
    | none => rfl
    | some ob =>
      rcases S.znew a ob hq with q | q | q
      · rw [(F.priv a p).2] at q; cases q
      · exact absurd q (F.priv a p).1
      · rw [e] at q; cases q
  · obtain ⟨o, e⟩ := F.pvAt a p
    exact S.there a o e
  · obtain ⟨o', e', q⟩ := S.keep L o b d fun q => by rw [hp L q] at b; cases b
    refine ⟨⟨o', es, n, e', q.data.trans c⟩, S.own L o b d, ?_⟩
    cases hq : W'.Z L with
    | none => rfl
    | some ob =>
      rcases S.znew L ob hq with q | q | q
      · rw [f] at q; cases q
      · exact absurd q d
      · rw [b] at q; cases q

/-- storing a name of the frame's -/
theorem FrR.storeL {X : Cx} {W : Wd} {H : Hp} {h h' : Heap} {env : Env} {Pv : Pr} {loc : Loc} {i : Nat} {cv : Value} {v : V} {m : Str → Option Value} (F : FrR X W H h env Pv loc) (hn : h.Ns env.locals m)
    (hm : ∀ j v, loc j = some v → env.kindOf (X.nm j) = some .local → MmR X W m j v) (hinj : ∀ j, X.nm j = X.nm i → j = i)
    (hk : env.kindOf (X.nm i) = some .local) (hv : VR X W cv v) (hn' : h'.Ns env.locals (fun x => if x = X.nm i then some cv else m x)) (hs : Heap.SameBut env.locals h h') : FrR X W H h' env Pv (upd loc i v) := by
  refine ⟨⟨_, hn', fun j u e k => ?_⟩, fun j u e k => ?_, fun x ef e => ?_, F.cellEq, fun x c e => ?_, F.pvL, F.priv, fun a p => ?_, fun e he => (F.frs e he).keep fun L o es n a b c d f => ⟨?_, d, f⟩, F.frc⟩
  · have e' : (if j = i then some v else loc j) = some u := e
    by_cases hj : j = i
    · rw [if_pos hj] at e'; cases e'; exact ⟨cv, by rw [hj, if_pos rfl], hv⟩
    · rw [if_neg hj] at e'
      obtain ⟨cu, q, r⟩ := hm j u e' k
      exact ⟨cu, by rw [if_neg fun z => hj (hinj j z)]; exact q, r⟩
  · have e' : (if j = i then some v else loc j) = some u := e
    by_cases hj : j = i
    · subst hj; rw [hk] at k; rcases k with k | k <;> cases k
    · rw [if_neg hj] at e'
      obtain ⟨c, cu, q, r, t⟩ := F.cells j u e' k
      exact ⟨c, cu, q, r.sameBut hs (F.cellNs _ _ q).1, t⟩
  · obtain ⟨c, u, q, r, t⟩ := F.hasCell x ef e
    exact ⟨c, u, q, r.sameBut hs (F.cellNs _ _ q).1, t⟩
  · obtain ⟨a, b, o, q⟩ := F.cellNs x c e
    exact ⟨a, b, o, (hs.2 c a).trans q⟩
  · by_cases ha : a = env.locals
    · subst ha; obtain ⟨o, _, _, ho, _⟩ := hn'; exact ⟨o, ho⟩
    · obtain ⟨o, q⟩ := F.pvAt a p; exact ⟨o, (hs.2 a ha).trans q⟩
  · by_cases ha : L = env.locals
    · subst ha; obtain ⟨o', es', n', ho', hd', _⟩ := hn'; exact ⟨o', es', n', ho', hd'⟩
    · exact ⟨o, es, n, (hs.2 L ha).trans b, c⟩
theorem FrR.storeC {X : Cx} {W : Wd} {H : Hp} {h h' : Heap} {env : Env} {Pv : Pr} {loc : Loc} {i : Nat} {cv : Value} {v : V} {c : Addr} (F : FrR X W H h env Pv loc) (hinj : ∀ j, X.nm j = X.nm i → j = i)
    (hk : env.kindOf (X.nm i) = some .cell) (hc : env.cells.lookup (X.nm i) = some c) (hv : VR X W cv v) (hn' : h'.IsCell c (some cv)) (hs : Heap.SameBut c h h') : FrR X W H h' env Pv (upd loc i v) := by
  obtain ⟨m, hn, hm⟩ := F.ns
  have ne := (F.cellNs _ _ hc).1
  refine ⟨⟨m, hn.sameBut hs (Ne.symm ne), fun j u e k => ?_⟩, fun j u e k => ?_, fun x ef e => ?_, F.cellEq, fun x d e => ?_, F.pvL, F.priv, fun a p => ?_, fun e he => (F.frs e he).keep fun L o es n a b q d f => ⟨⟨o, es, n, (hs.2 L fun z => F.frc _ c hc e he (z ▸ a)).trans b, q⟩, d, f⟩, F.frc⟩
  · have e' : (if j = i then some v else loc j) = some u := e
    by_cases hj : j = i
    · subst hj; rw [hk] at k; cases k
    · rw [if_neg hj] at e'; exact hm j u e' k
  · have e' : (if j = i then some v else loc j) = some u := e
    by_cases hj : j = i
    · rw [if_pos hj] at e'; cases e'; exact ⟨c, cv, hj ▸ hc, hn', hv⟩
    · rw [if_neg hj] at e'
      obtain ⟨d, cu, q, r, t⟩ := F.cells j u e' k
      exact ⟨d, cu, q, r.sameBut hs fun z => hj (hinj j (F.cellEq _ _ d q (z ▸ hc))), t⟩
  · obtain ⟨d, u, q, r, t⟩ := F.hasCell x ef e
    by_cases hd : d = c
    · subst hd; exact ⟨d, _, q, hn', t⟩
    · exact ⟨d, u, q, r.sameBut hs hd, t⟩
  · obtain ⟨a, b, o, q⟩ := F.cellNs x d e
    refine ⟨a, b, ?_⟩
    by_cases hd : d = c
    · subst hd; obtain ⟨o', ho', _⟩ := hn'; exact ⟨o', ho'⟩
    · exact ⟨o, (hs.2 d hd).trans q⟩
  · by_cases ha : a = c
    · subst ha; obtain ⟨o', ho', _⟩ := hn'; exact ⟨o', ho'⟩
    · obtain ⟨o, q⟩ := F.pvAt a p; exact ⟨o, (hs.2 a ha).trans q⟩

/-- an exception under way; its traceback is newer than h₀ -/
noncomputable def Fly (W : Wd) (H : Hp) (h₀ h : Heap) (e : Addr) : Prop := ∃ oe vs a0, h.get? e = some oe ∧ oe.data = .fields vs ∧ vs[0]? = some a0 ∧ (vs[1]? = some .none ∨ ∃ T oT ts, vs[1]? = some (.ref T) ∧ T ≠ e ∧ h.get? T = some oT ∧ oT.data = .fields ts ∧ ts[3]? = some .none ∧ h₀.get? T = none ∧ ¬ Own W H T ∧ W.Z T = none)
theorem Fly.back {W : Wd} {H : Hp} {h₀ h₁ h : Heap} {e : Addr} (f : Fly W H h₁ h e) (t : ∀ a o, h₀.get? a = some o → ∃ o', h₁.get? a = some o') : Fly W H h₀ h e := by
  obtain ⟨oe, vs, a0, x1, x2, x3, x4⟩ := f
  refine ⟨oe, vs, a0, x1, x2, x3, x4.imp id fun y => ?_⟩
  obtain ⟨T, oT, ts, y1, y2, y3, y4, y5, y6, y7⟩ := y
  refine ⟨T, oT, ts, y1, y2, y3, y4, y5, ?_, y7⟩
  cases q : h₀.get? T with
  | none => rfl
  | some o => obtain ⟨o', e'⟩ := t T o q; rw [y6] at e'; cases e'

structure At (X : Cx) (env : Env) (Pv : Pr) (W : Wd) (σ : St) (s : Shared) : Prop where
  rel : RelH X W σ.H s.heap
  fr : FrR X W σ.H s.heap env Pv σ.loc
structure Tf (X : Cx) (env : Env) (Pv : Pr) (W : Wd) (σ : St) (s : Shared) (W' : Wd) (σ' : St) (s' : Shared) : Prop where
  stp : Stp Pv.pv W σ.H s.heap W' σ'.H s'.heap
  at_ : At X env Pv W' σ' s'
  rest : Rest s s'
theorem Tf.refl {X : Cx} {env : Env} {Pv : Pr} {W : Wd} {σ : St} {s : Shared} (a : At X env Pv W σ s) : Tf X env Pv W σ s W σ s := ⟨.refl, a, .refl _⟩
theorem Tf.trans {X : Cx} {env : Env} {Pv : Pr} {W W' W'' : Wd} {σ σ' σ'' : St} {s s' s'' : Shared} (a : Tf X env Pv W σ s W' σ' s') (b : Tf X env Pv W' σ' s' W'' σ'' s'') : Tf X env Pv W σ s W'' σ'' s'' :=
  ⟨a.stp.trans b.stp, b.at_, a.rest.trans b.rest⟩
/-- op level: nothing private -/
structure Tc (X : Cx) (W : Wd) (H : Hp) (s : Shared) (W' : Wd) (H' : Hp) (s' : Shared) : Prop where
  stp : Stp noPv W H s.heap W' H' s'.heap
  rel : RelH X W' H' s'.heap
  rest : Rest s s'
theorem Tc.refl {X : Cx} {W : Wd} {H : Hp} {s : Shared} (a : RelH X W H s.heap) : Tc X W H s W H s := ⟨.refl, a, .refl _⟩
theorem Tc.trans {X : Cx} {W W' W'' : Wd} {H H' H'' : Hp} {s s' s'' : Shared} (a : Tc X W H s W' H' s') (b : Tc X W' H' s' W'' H'' s'') : Tc X W H s W'' H'' s'' :=
  ⟨a.stp.trans b.stp, b.rel, a.rest.trans b.rest⟩
theorem Tc.tf {X : Cx} {env : Env} {Pv : Pr} {W W' : Wd} {σ : St} {H' : Hp} {s s' : Shared} (a : At X env Pv W σ s) (t : Tc X W σ.H s W' H' s') : Tf X env Pv W σ s W' ⟨H', σ.loc⟩ s' :=
  ⟨t.stp.mono fun _ z => z.elim, ⟨t.rel, a.fr.step t.stp fun _ z => z.elim⟩, t.rest⟩

/-- an exception leaves -/
inductive EXi (X : Cx) (env : Env) (Pv : Pr) (W : Wd) (σ : St) (s : Shared) (E : EP) (e : Value) (s' : Shared) : Prop
  | mk (W' : Wd) (σ' : St) (i : Nat) (l : Addr × Addr) (k : Nat) (t : Tf X env Pv W σ s W' σ' s') (he : e = .ref l.1) (hl : W'.φ i = some l) (hk : σ'.H.get i = some (.exc k)) (hf : Fly W' σ'.H s.heap s'.heap l.1) (h : E i σ')
noncomputable def EX (X : Cx) (env : Env) (Pv : Pr) (W : Wd) (σ : St) (s : Shared) (E : EP) (e : Value) (s' : Shared) : Prop :=
  EXi X env Pv W σ s E e s'
theorem EX.back {X : Cx} {env : Env} {Pv : Pr} {W W' : Wd} {σ σ' : St} {s s' s'' : Shared} {E : EP} {e : Value} (t : Tf X env Pv W σ s W' σ' s') (x : EX X env Pv W' σ' s' E e s'') : EX X env Pv W σ s E e s'' := by
  obtain ⟨W₂, σ₂, i, l, k, a, b, c, d, f, g⟩ := x
  exact ⟨W₂, σ₂, i, l, k, t.trans a, b, c, d, f.back t.stp.there, g⟩
theorem EX.no {X : Cx} {env : Env} {Pv : Pr} {W : Wd} {σ : St} {s s' : Shared} {e : Value} (x : EX X env Pv W σ s noE e s') : False := by
  obtain ⟨W₂, σ₂, i, l, k, a, b, c, d, f, g⟩ := x
  exact g

inductive Go {α : Type} (X : Cx) (env : Env) (Pv : Pr) (W : Wd) (σ : St) (s : Shared) (R : α → Wd → St → Shared → Prop) (a : α) (s' : Shared) : Prop
  | mk (W' : Wd) (σ' : St) (t : Tf X env Pv W σ s W' σ' s') (r : R a W' σ' s')
inductive GoC {α : Type} (X : Cx) (W : Wd) (H : Hp) (s : Shared) (R : α → Wd → Hp → Shared → Prop) (a : α) (s' : Shared) : Prop
  | mk (W' : Wd) (H' : Hp) (t : Tc X W H s W' H' s') (r : R a W' H' s')
inductive VQ (X : Cx) (Q : V → St → Prop) (v : Value) (W' : Wd) (σ' : St) (s' : Shared) : Prop
  | mk (av : V) (r : VR X W' v av) (h : Q av σ')
noncomputable def Ew {α : Type} (X : Cx) (A : Around) (env : Env) (Pv : Pr) (t : Sem α) (W : Wd) (σ : St) (s : Shared) (R : α → Wd → St → Shared → Prop) (E : EP) : Prop :=
  wpAny (model X.prog X.w) A t (Go X env Pv W σ s R) (EX X env Pv W σ s E) s

section
variable {α β : Type} {X : Cx} {A : Around} {env : Env} {Pv : Pr} {W : Wd} {σ : St} {s : Shared} {E : EP}
theorem Ew.from {t : Sem α} {W' : Wd} {σ' : St} {s' : Shared} {R : α → Wd → St → Shared → Prop} (T : Tf X env Pv W σ s W' σ' s') (h : Ew X A env Pv t W' σ' s' R E) :
    wpAny (model X.prog X.w) A t (Go X env Pv W σ s R) (EX X env Pv W σ s E) s' :=
  wpAny_mono h (fun _ _ ⟨W₂, σ₂, a, b⟩ => ⟨W₂, σ₂, T.trans a, b⟩) fun _ _ x => x.back T
theorem Ew.bind {m : Sem α} {f : α → Sem β} {R : β → Wd → St → Shared → Prop} (h : Ew X A env Pv m W σ s (fun a W₁ σ₁ s₁ => Ew X A env Pv (f a) W₁ σ₁ s₁ R E) E) : Ew X A env Pv (m >>= f) W σ s R E :=
  wpAny_bind (wpAny_mono h (fun _ _ ⟨_, _, T, h'⟩ => Ew.from T h') fun _ _ x => x)
theorem Ew.pure {a : α} {R : α → Wd → St → Shared → Prop} (at_ : At X env Pv W σ s) (h : R a W σ s) : Ew X A env Pv (pure a) W σ s R E := wpAny_pure ⟨W, σ, .refl at_, h⟩
theorem Ew.mono {t : Sem α} {R R' : α → Wd → St → Shared → Prop} (h : Ew X A env Pv t W σ s R E) (hr : ∀ a W' σ' s', At X env Pv W' σ' s' → R a W' σ' s' → R' a W' σ' s') : Ew X A env Pv t W σ s R' E :=
  wpAny_mono h (fun _ _ ⟨W', σ', T, r⟩ => ⟨W', σ', T, hr _ _ _ _ T.at_ r⟩) fun _ _ x => x
/-- a transition is known -/
theorem Ew.bindT {m : Sem α} {f : α → Sem β} {R : β → Wd → St → Shared → Prop} (h : Ew X A env Pv m W σ s (fun a W₁ σ₁ s₁ => At X env Pv W₁ σ₁ s₁ → Wd.Le W W₁ → Ew X A env Pv (f a) W₁ σ₁ s₁ R E) E) : Ew X A env Pv (m >>= f) W σ s R E :=
  wpAny_bind (wpAny_mono h (fun _ _ ⟨_, _, T, h'⟩ => Ew.from T (h' T.at_ T.stp.le)) fun _ _ x => x)
theorem Ew.holding {vs : List Value} {m : Sem α} {R : α → Wd → St → Shared → Prop} (h : Ew X A env Pv m W σ s R E) : Ew X A env Pv (holding vs m) W σ s R E := wpAny_holding h
theorem Ew.standAt {pos : Pos} {f : Unit → Sem β} {R : β → Wd → St → Shared → Prop} (h : Ew X A env Pv (f ()) W σ s R E) : Ew X A env Pv (standAt pos >>= f) W σ s R E := wpAny_bind (wpAny_standAt h)
theorem Ew.rule {tag : String} {f : Unit → Sem β} {R : β → Wd → St → Shared → Prop} (h : Ew X A env Pv (f ()) W σ s R E) : Ew X A env Pv (rule tag >>= f) W σ s R E := wpAny_bind (wpAny_rule h)
theorem Ew.operate {vs : List Value} {m : Sem Value} {R : Value → Wd → St → Shared → Prop} (h : Ew X A env Pv m W σ s R E) : Ew X A env Pv (operate vs m) W σ s R E := by
  intro Γ p hΓ
  rw [Sem.wp_operate]; exact h Γ p hΓ

/-- an operation of the level below -/
noncomputable def Ow (X : Cx) (A : Around) (t : Sem α) (W : Wd) (H : Hp) (s : Shared) (R : α → Wd → Hp → Shared → Prop) : Prop :=
  ∀ E : Value → Shared → Prop, wpAny (model X.prog X.w) A t (GoC X W H s R) E s
theorem Ow.ew {t : Sem α} {R : α → Wd → St → Shared → Prop} (at_ : At X env Pv W σ s) (h : Ow X A t W σ.H s (fun a W' H' s' => R a W' ⟨H', σ.loc⟩ s')) : Ew X A env Pv t W σ s R E :=
  wpAny_mono (h _) (fun _ _ ⟨W', H', T, r⟩ => ⟨W', ⟨H', σ.loc⟩, T.tf at_, r⟩) fun _ _ x => x
theorem Ow.bind {H : Hp} {m : Sem α} {f : α → Sem β} {R : β → Wd → Hp → Shared → Prop} (h : Ow X A m W H s (fun a W₁ H₁ s₁ => Ow X A (f a) W₁ H₁ s₁ R)) : Ow X A (m >>= f) W H s R :=
  fun E => wpAny_bind (wpAny_mono (h E) (fun _ _ ⟨_, _, T, h'⟩ => wpAny_mono (h' E) (fun _ _ ⟨W₂, H₂, a, b⟩ => ⟨W₂, H₂, T.trans a, b⟩) fun _ _ x => x) fun _ _ x => x)
theorem Ow.pure {H : Hp} {a : α} {R : α → Wd → Hp → Shared → Prop} (r : RelH X W H s.heap) (h : R a W H s) : Ow X A (pure a) W H s R := fun _ => wpAny_pure ⟨W, H, .refl r, h⟩
/-- the heap stays -/
theorem Ow.same {H : Hp} {t : Sem α} {R : α → Wd → Hp → Shared → Prop} (r : RelH X W H s.heap)
    (h : ∀ E : Value → Shared → Prop, wpAny (model X.prog X.w) A t (fun a s' => (∃ tk, s' = { s with toks := tk }) ∧ R a W H s') E s) : Ow X A t W H s R :=
  fun E => wpAny_mono (h E) (fun _ _ ⟨⟨tk, e⟩, q⟩ => ⟨W, H, by subst e; exact ⟨.refl, r, ⟨rfl, rfl, rfl⟩⟩, q⟩) fun _ _ x => x
/-- a new frozen object -/
theorem Tc.frozen {H : Hp} {a : Addr} {o : Obj} {h' : Heap} {tk : Nat} (r : RelH X W H s.heap) (hk : ∀ b ob, s.heap.get? b = some ob → h'.get? b = some ob) (hn : s.heap.get? a = none) (ha : h'.get? a = some o) :
    Tc X W H s (W.addZ a o) H { s with heap := h', toks := tk } := let ⟨x, y⟩ := r.frozen hk hn ha; ⟨y, x, ⟨rfl, rfl, rfl⟩⟩
theorem push_none (h : Heap) : h.get? h.objs.size = none := by
  cases q : h.get? h.objs.size with
  | none => rfl
  | some o => exact absurd (Heap.lt_size q) (Nat.lt_irrefl _)
theorem Tc.pushZ {H : Hp} {o : Obj} {tk : Nat} (r : RelH X W H s.heap) (hf : o.isFreed = false) : Tc X W H s (W.addZ s.heap.objs.size o) H { s with heap := s.heap.push o, toks := tk } :=
  Tc.frozen r (fun _ _ e => Heap.get?_push_of_some _ e) (push_none _) (Heap.get?_push_size _ hf)
theorem addZ_self {a : Addr} {o : Obj} : (W.addZ a o).Z a = some o := by show (if a = a then some o else W.Z a) = some o; rw [if_pos rfl]
theorem addφ_self {i : Nat} {l : Addr × Addr} : (W.addφ i l).φ i = some l := by show (if i = i then some l else W.φ i) = some l; rw [if_pos rfl]
end
end Mine

end

section
set_option autoImplicit false
set_option linter.all false
set_option genSizeOf false
set_option genInjectivity false
namespace Mine
open PySem PySem.W PySem.Calls PyProof.Rows

theorem need_e {α : Type} {o : Option α} {k : α → Prop} {G : Prop} (h : need o k) (g : ∀ a, o = some a → k a → G) : G := by
  cases o with
  | none => exact h.elim
  | some a => exact g a rfl h
theorem need_i {α : Type} {o : Option α} {a : α} {k : α → Prop} (e : o = some a) (h : k a) : need o k := by subst e; exact h
theorem Br_e {b : Bool} {t e G : Prop} (h : Br b t e) (g1 : b = true → t → G) (g2 : b = false → e → G) : G := by
  cases b with
  | true => exact g1 rfl h
  | false => exact g2 rfl h

section
variable {X : Cx} {W : Wd} {H : Hp}
/-- a value as it is seen in the heap -/
inductive Sn (X : Cx) (W : Wd) (h : Heap) : Value → V → Prop
  | none : Sn X W h .none .none
  | bool (b : Bool) : Sn X W h (.bool b) (.bool b)
  | int (i : Int) (t : Tok) : Sn X W h (.int i t) (.int i)
  | str (s : Str) (t : Tok) (o : PyData.strOk s = true) (z : s.length ≤ SZ) : Sn X W h (.str s t) (.str s)
  | tup {a : Addr} {vs : Array Value} {n : Nat} {xs : List V} (g : h.get? a = some (tupO vs n)) (r : VRs X W vs.toList xs) (q : xs.length ≤ SZ) (z : vs.size = xs.length) : Sn X W h (.ref a) (.tup xs)
  | lst {a : Addr} {vs : Array Value} {n : Nat} {xs : List V} (g : h.get? a = some (lstO vs n)) (r : VRs X W vs.toList xs) (q : xs.length ≤ SZ) (z : vs.size = xs.length) : Sn X W h (.ref a) (.lst xs)
  | rng {r : Addr} {a b c : Int} {t u v : Tok} (g : h.get? r = some { cls := .type "range", dict := none, data := .fields #[.int a t, .int b u, .int c v], slots := #[] }) (p : a.natAbs ≤ SZ) (q : b.natAbs ≤ SZ) (hc : c = 1 ∨ c = -1) : Sn X W h (.ref r) (.rng a b c)
theorem VRs.toArr {vs : Array Value} {xs : List V} (h : VRs X W vs.toList xs) : vs.size = xs.length := by rw [← h.length, Array.length_toList]
/-- where a cell lies -/
theorem RelH.at_ {h : Heap} (R : RelH X W H h) {i : Nat} {c : C} {l : Addr × Addr} (hi : H.get i = some c) (hl : W.φ i = some l) : CellAt X W h l c := by
  obtain ⟨l', hl', q⟩ := R.cell i c hi
  exact Option.some.inj (hl'.symm.trans hl) ▸ q
theorem mL_e {o : Option (List V)} {v : V} (h : mL o = some v) : ∃ a, o = some a ∧ v = .lst a := by
  cases o with
  | none => cases h
  | some a => exact ⟨a, rfl, (Option.some.inj h).symm⟩
theorem cL_e {o : Option C} {xs : List V} (h : cL o = some xs) : o = some (.list xs) := by
  cases o with
  | none => cases h
  | some c =>
    cases c with
    | list ys => exact congrArg (some ∘ C.list) (Option.some.inj h)
    | _ => cases h
theorem cD_e {o : Option C} {xs : List (V × V)} (h : cD o = some xs) : o = some (.dict xs) := by
  cases o with
  | none => cases h
  | some c =>
    cases c with
    | dict ys => exact congrArg (some ∘ C.dict) (Option.some.inj h)
    | _ => cases h
theorem cI_e {o : Option C} {t : Nat × List (Nat × V)} (h : cI o = some t) : o = some (.inst t.1 t.2) := by
  cases o with
  | none => cases h
  | some c =>
    cases c with
    | inst k fs => rw [← Option.some.inj h]
    | _ => cases h
theorem cE_e {o : Option C} {k : Nat} (h : cE o = some k) : o = some (.exc k) := by
  cases o with
  | none => cases h
  | some c =>
    cases c with
    | exc k => exact congrArg (some ∘ C.exc) (Option.some.inj h)
    | _ => cases h
theorem see_ok {h : Heap} (R : RelH X W H h) {v : Value} {x y : V} (r : VR X W v x) (e : see H x = some y) : Sn X W h v y := by
  cases r with
  | none => cases e; exact .none
  | bool b => cases e; exact .bool b
  | int i t => cases e; exact .int i t
  | str s t o z => cases e; exact .str s t o z
  | tup z r q => cases e; exact .tup (R.z _ _ z) r q r.toArr
  | lst z r q => cases e; exact .lst (R.z _ _ z) r q r.toArr
  | rng z p q c => cases e; exact .rng (R.z _ _ z) p q c
  | ref hl =>
    obtain ⟨xs, e', rfl⟩ := mL_e e
    obtain ⟨vs, n, g, r, _, z⟩ := R.at_ (cL_e e') hl
    exact .lst g r z r.toArr
  | _ => cases e
theorem aRef_e {v : Value} {x : V} {i : Nat} (r : VR X W v x) (e : aRef x = some i) {G : Prop} (g : ∀ l, v = .ref l.1 → W.φ i = some l → x = .ref i → G) : G := by
  cases x with
  | ref j => cases e; cases r with | ref hl => exact g _ rfl hl rfl
  | _ => cases e

section
variable {h : Heap} {v : Value}
theorem Sn.toInt {x : V} {i : Int} (r : Sn X W h v x) (e : aInt x = some i) : ∃ t, v = .int i t := by
  cases r with
  | int i t => exact ⟨t, Option.some.inj e ▸ rfl⟩
  | _ => cases e
theorem Sn.toStr {x : V} {s : Str} (r : Sn X W h v x) (e : aStr x = some s) : ∃ t, v = .str s t ∧ PyData.strOk s = true ∧ s.length ≤ SZ := by
  cases r with
  | str s t o z => cases e; exact ⟨t, rfl, o, z⟩
  | _ => cases e
theorem Sn.toBool {x : V} {b : Bool} (r : Sn X W h v x) (e : aBool x = some b) : v = .bool b := by
  cases r with
  | bool b => cases e; rfl
  | _ => cases e
/-- a sequence in the heap -/
inductive SqL (X : Cx) (W : Wd) (h : Heap) (v : Value) (xs : List V) : Prop
  | mk (a : Addr) (vs : Array Value) (n : Nat) (e : v = .ref a) (g : h.get? a = some (lstO vs n)) (r : VRs X W vs.toList xs) (q : xs.length ≤ SZ) (z : vs.size = xs.length)
inductive SqT (X : Cx) (W : Wd) (h : Heap) (v : Value) (xs : List V) : Prop
  | mk (a : Addr) (vs : Array Value) (n : Nat) (e : v = .ref a) (g : h.get? a = some (tupO vs n)) (r : VRs X W vs.toList xs) (q : xs.length ≤ SZ) (z : vs.size = xs.length)
theorem Sn.toLst {x : V} {xs : List V} (r : Sn X W h v x) (e : aLst x = some xs) : SqL X W h v xs := by
  cases r with
  | lst g r q z => cases e; exact ⟨_, _, _, rfl, g, r, q, z⟩
  | _ => cases e
theorem Sn.toTup {x : V} {xs : List V} (r : Sn X W h v x) (e : aTup x = some xs) : SqT X W h v xs := by
  cases r with
  | tup g r q z => cases e; exact ⟨_, _, _, rfl, g, r, q, z⟩
  | _ => cases e
end

theorem sz63 {n : Nat} (h : n ≤ SZ) : (n : Int) < 2 ^ 63 := Int.lt_of_le_of_lt (Int.ofNat_le.mpr h) (by decide)
theorem szLine {n : Nat} (h : n ≤ SZ) : n ≤ sizeLine := Nat.le_trans h (by decide)
theorem isList_of {h : Heap} {a : Addr} {vs : Array Value} {n : Nat} (e : h.get? a = some (lstO vs n)) : h.IsList a vs := ⟨_, e, rfl, _, rfl⟩
theorem isTup_of {h : Heap} {a : Addr} {vs : Array Value} {n : Nat} (e : h.get? a = some (tupO vs n)) : IsTup h a vs := ⟨_, e, rfl, _, rfl⟩
end

/-! the answers of operations -/
section
variable {X : Cx} {A : Around} {W : Wd} {H : Hp} {s : Shared} {E : Value → Shared → Prop}
/-- the answer of an operation: a value, or a new list -/
noncomputable def Res (X : Cx) (fz : Bool) (H : Hp) (r : LV) (v : Value) (W' : Wd) (H' : Hp) : Prop := match r with
  | .val x => VR X W' v x ∧ H' = H
  | .newList xs => match fz with
    | true => VR X W' v (.lst xs) ∧ H' = H
    | false => VR X W' v (.ref H.next) ∧ H' = H.new (.list xs)
/-- what an operation leads to -/
structure OpQ (X : Cx) (fz : Bool) (W : Wd) (H : Hp) (s : Shared) (k : LV → Prop) (Q : Value → Shared → Prop) : Prop where
  out : ∀ r v' s' W' H', Tc X W H s W' H' s' → Res X fz H r v' W' H' → k r → Q v' s'
  sz : ∀ xs, k (.newList xs) → xs.length ≤ SZ
section
variable {fz : Bool} {k : LV → Prop} {Q : Value → Shared → Prop} (o : OpQ X fz W H s k Q) (R : RelH X W H s.heap)
include o R
theorem OpQ.val {x : V} {v : Value} {tk : Nat} (hv : VR X W v x) (h : k (.val x)) : Q v { s with toks := tk } := o.out (.val x) v _ W H ⟨.refl, R, ⟨rfl, rfl, rfl⟩⟩ ⟨hv, rfl⟩ h
/-- more objects, of no account -/
theorem OpQ.more {x : V} {v : Value} {h' : Heap} {tk : Nat} (hk : ∀ b ob, s.heap.get? b = some ob → h'.get? b = some ob) (hv : VR X W v x) (h : k (.val x)) : Q v { s with heap := h', toks := tk } :=
  o.out (.val x) v _ W H ⟨.quiet (fun a o q _ => hk a o q) fun a o q => ⟨o, hk a o q⟩, R.quiet (Pv := noPv) (fun a o q _ => hk a o q) fun _ z => z.elim, ⟨rfl, rfl, rfl⟩⟩ ⟨hv, rfl⟩ h
/-- a new list at a new place -/
theorem OpQ.list {vs : Array Value} {n : Nat} {xs : List V} {h' : Heap} {tk : Nat} {a : Addr} (hv : VRs X W vs.toList xs) (hk : ∀ b ob, s.heap.get? b = some ob → h'.get? b = some ob) (hn : s.heap.get? a = none) (ha : h'.get? a = some (lstO vs n)) (h : k (.newList xs)) : Q (.ref a) { s with heap := h', toks := tk } := by
  have hz := o.sz _ h
  cases fz with
  | true => exact o.out (.newList xs) _ _ _ _ (Tc.frozen R hk hn ha) ⟨.lst addZ_self (hv.le (R.leZ hn)) hz, rfl⟩ h
  | false =>
    obtain ⟨r, t⟩ := R.fresh (l := (a, a)) (c := .list xs) hk hn hn ⟨vs, n, ha, hv.le R.leF, rfl, hz⟩
    exact o.out (.newList xs) _ _ _ _ ⟨t, r, ⟨rfl, rfl, rfl⟩⟩ ⟨VR.ref (l := (a, a)) addφ_self, rfl⟩ h
theorem OpQ.push {vs : Array Value} {n : Nat} {xs : List V} {tk : Nat} (hv : VRs X W vs.toList xs) (h : k (.newList xs)) : Q (.ref s.heap.objs.size) { s with heap := s.heap.push (lstO vs n), toks := tk } :=
  o.list R hv (fun _ _ e => Heap.get?_push_of_some _ e) (push_none _) (Heap.get?_push_size _ rfl) h
/-- a new frozen object -/
theorem OpQ.fro {x : V} {ob : Obj} {h' : Heap} {tk : Nat} {a : Addr} (hk : ∀ b ob, s.heap.get? b = some ob → h'.get? b = some ob) (hn : s.heap.get? a = none) (ha : h'.get? a = some ob) (hv : VR X (W.addZ a ob) (.ref a) x) (h : k (.val x)) : Q (.ref a) { s with heap := h', toks := tk } :=
  o.out (.val x) _ _ _ _ (Tc.frozen R hk hn ha) ⟨hv, rfl⟩ h
end
theorem strOk_append {a b : Str} (ha : PyData.strOk a = true) (hb : PyData.strOk b = true) : PyData.strOk (a ++ b) = true := by
  unfold PyData.strOk at *
  rw [Array.all_eq_true] at *
  rw [show (a ++ b).cps = a.cps ++ b.cps from rfl]
  intro i hi
  rw [Array.getElem_append]
  split
  · exact ha i _
  · exact hb _ _
theorem len_append (a b : Str) : (a ++ b).length = a.length + b.length := by
  show (a.cps ++ b.cps).size = _
  rw [Array.size_append]; rfl

theorem isEmpty_len {vs : Array Value} {xs : List V} (z : vs.size = xs.length) : vs.isEmpty = xs.isEmpty := by
  show decide (vs.size = 0) = _
  rw [z]
  cases xs <;> rfl
theorem decide_bne {i : Int} : decide (i ≠ 0) = (i != 0) := by
  by_cases h : i = 0
  · subst h; rfl
  · rw [decide_eq_true h]; exact (bne_iff_ne.mpr h).symm
theorem truth_ok {v : Value} {x y : V} {k : Bool → Prop} {Q : Bool → Shared → Prop} (R : RelH X W H s.heap) (hv : VR X W v x) (e : truK H x k) (h : ∀ b tk, k b → Q b { s with toks := tk }) : wpAny (model X.prog X.w) A (truthy v) Q E s := by
  refine need_e e fun y ey e => ?_
  cases see_ok R hv ey with
  | none => exact truthy_none (h _ s.toks e)
  | bool c => exact wpAny_truthy_bool (h _ s.toks e)
  | int i t => exact truthy_int (decide_bne ▸ h _ s.toks e)
  | str t u ok z =>
    refine P.truthy_str (Int.not_le.mpr (sz63 z)) ?_
    have : (decide (t.length ≠ 0)) = (((t.length : Nat) : Int) != 0) := by rw [← decide_bne]; exact decide_eq_decide.mpr (by omega)
    exact this ▸ h _ (s.toks + 1 + 1) e
  | tup g r q z =>
    refine truthy_tuple (isTup_of g) (by rw [z]; exact sz63 q) ?_
    rw [isEmpty_len z]; exact h _ _ e
  | lst g r q z =>
    refine wpAny_truthy_list (isList_of g) (by rw [z]; exact sz63 q) ?_
    rw [isEmpty_len z]; exact h _ _ e
  | _ => exact e.elim
noncomputable def opOf : BOp → Operator
  | .add => .Add
  | .sub => .Sub
  | .mul => .Mult
  | .fdiv => .FloorDiv
  | .mod => .Mod
  | .pow => .Pow
  | .bor => .BitOr
noncomputable def cmpOf : COp → CmpOp
  | .eq => .Eq
  | .ne => .NotEq
  | .lt => .Lt
  | .le => .LtE
  | .gt => .Gt
  | .ge => .GtE
  | .isIn => .In
  | .notIn => .NotIn
  | .is => .Is
  | .isNot => .IsNot
theorem nsome {α : Type} {a : α} {p : Prop} (h : (none : Option α) = some a) : p := by cases h

theorem rep_arr (items : Array Value) (k : Nat) : ∀ acc : Array Value, (List.foldl (fun x1 x2 => x1 ++ x2) acc (List.replicate k items)).toList = acc.toList ++ (List.replicate k items.toList).flatten := by
  induction k with
  | zero => intro acc; simp
  | succ k ih => intro acc; rw [List.replicate_succ, List.foldl_cons, ih, List.replicate_succ, List.flatten_cons, Array.toList_append, List.append_assoc]
theorem VRs.rep {vs : List Value} {xs : List V} (h : VRs X W vs xs) (k : Nat) : VRs X W (List.replicate k vs).flatten (repL xs k) := by
  induction k with
  | zero => exact .nil
  | succ k ih => rw [List.replicate_succ, List.flatten_cons]; exact h.append ih
theorem rep_nil (k : Nat) : repL [] k = [] := by
  induction k with
  | zero => rfl
  | succ k ih => exact ih
theorem repS_fold (x : Str) (k : Nat) : ∀ acc : Array Nat, (List.replicate k x.cps).foldl (· ++ ·) acc = acc ++ (repS x k).cps := by
  induction k with
  | zero => intro acc; show acc = acc ++ #[]; rw [Array.append_empty]
  | succ k ih => intro acc; rw [List.replicate_succ, List.foldl_cons, ih, Array.append_assoc]; rfl
theorem repS_len (x : Str) (k : Nat) : (repS x k).length = x.length * k := by
  induction k with
  | zero => rfl
  | succ k ih => rw [show repS x (k + 1) = x ++ repS x k from rfl, len_append, ih, Nat.mul_succ, Nat.add_comm]
theorem repS_ok {x : Str} (h : PyData.strOk x = true) (k : Nat) : PyData.strOk (repS x k) = true := by
  induction k with
  | zero => exact (by decide +kernel : PyData.strOk Str.empty = true)
  | succ k ih => exact strOk_append h ih
theorem str_ext {a b : Str} (h : a.cps = b.cps) : a = b := by cases a; cases b; exact congrArg Str.mk h
theorem repS_nil {x : Str} (h : x.length = 0) (k : Nat) : repS x k = x := by
  have e : x.cps = #[] := Array.eq_empty_of_size_eq_zero h
  induction k with
  | zero => exact (str_ext e).symm
  | succ k ih =>
    show x ++ repS x k = x
    rw [ih]
    apply str_ext
    show x.cps ++ x.cps = x.cps
    rw [e]; rfl
theorem txt_mul {x : Str} {n : Int} (h : 0 ≤ n) : Txt.mul x n = repS x n.toNat := by
  unfold Txt.mul
  by_cases h1 : n < 1
  · rw [if_pos h1, show n.toNat = 0 by omega]; rfl
  · rw [if_neg h1]
    by_cases h2 : (n == 1 || x.length == 0) = true
    · rw [if_pos h2]
      rcases Bool.or_eq_true_iff.mp h2 with q | q
      · rw [beq_iff_eq.mp q]; exact (str_ext (by show x.cps ++ #[] = x.cps; rw [Array.append_empty])).symm
      · exact (repS_nil (beq_iff_eq.mp q) _).symm
    · rw [if_neg h2]; exact str_ext ((repS_fold x n.toNat #[]).trans (Array.empty_append ..))
theorem mulStr_ok {i : Str} {t u : Tok} {n : Int} {fz : Bool} {k : LV → Prop} {Q : Value → Shared → Prop} (o : OpQ X fz W H s k Q) (R : RelH X W H s.heap) (o1 : PyData.strOk i = true) (e : Nd (0 ≤ n ∧ n ≤ 1048576 ∧ i.length * n.toNat ≤ SZ) (k (.val (.str (repS i n.toNat))))) :
    wpAny (model X.prog X.w) A (binaryOp .Mult (.str i t) (.int n u)) Q E s := by
  obtain ⟨⟨h0, h1, h2⟩, e⟩ := e
  refine SB.mul ⟨by rw [decide_eq_false (by omega), decide_eq_false (by omega)]; rfl, fun hn _ q => ?_, fun _ _ => ?_⟩ fun t' k => by
    rw [txt_mul h0]; exact o.val R (.str _ _ (repS_ok o1 _) (by rw [repS_len]; exact h2)) e
  · have hl : i.length ≤ SZ := Nat.le_trans (Nat.le_mul_of_pos_right _ (by omega)) h2
    have : (2 ^ 63 - 1 : Int) / 1048576 ≤ (2 ^ 63 - 1) / n := by
      rw [Int.le_ediv_iff_mul_le (by omega)]
      exact Int.le_trans (Int.mul_le_mul_of_nonneg_left h1 (by decide)) (by decide)
    have h3 : (1048576 : Int) ≤ (2 ^ 63 - 1) / 1048576 := by decide
    unfold SZ at hl
    omega
  · unfold Builtin.Str.tooLong
    exact decide_eq_false (Nat.not_lt.mpr (szLine h2))
section
variable {a b : Value} {x y : V} {fz : Bool} {k : LV → Prop} {Q : Value → Shared → Prop} (o : OpQ X fz W H s k Q) (R : RelH X W H s.heap) (ha : Sn X W s.heap a x) (hb : Sn X W s.heap b y)
include o R ha hb
theorem add_ok (e : addK x y k) : wpAny (model X.prog X.w) A (binaryOp .Add a b) Q E s := by
  cases ha with
  | int i t => exact need_e e fun j ej e => (hb.toInt ej).elim fun u q => q ▸ add_int (o.val R (.int ..) e)
  | str i t o1 z1 => exact need_e e fun j ej e => (hb.toStr ej).elim fun u q => q.1 ▸ PyProof.Rows.add_str (fun t' tk => o.val R (.str _ _ (strOk_append o1 q.2.1) (by rw [len_append]; exact e.1)) e.2) (szLine e.1)
  | @lst l vs n xs g r q z =>
    refine need_e e fun ys ey e => ?_
    obtain ⟨l2, vs2, n2, rfl, g2, r2, q2, z2⟩ := hb.toLst ey
    have hz' : vs.size + vs2.size ≤ sizeLine := by rw [z, z2, ← List.length_append]; exact szLine (o.sz _ e)
    exact concat_meets ⟨_, g, rfl⟩ ⟨_, g2, rfl⟩ noFill_list_add seq_list_add PySem.F.slot_list_add PySem.F.entry_list_add (PySem.F.args_list_add_2 _ _) (list_addW l l2 vs vs2 n n2 none none #[] #[] hz') ⟨g, g2, o.push (vs := vs ++ vs2) R (by rw [Array.toList_append]; exact r.append r2) e⟩
  | _ => exact e.elim
theorem mul_ok (e : mulK x y k) : wpAny (model X.prog X.w) A (binaryOp .Mult a b) Q E s := by
  cases ha with
  | int i t => exact need_e e fun j ej e => (hb.toInt ej).elim fun u q => q ▸ PyProof.Rows.mul_int (o.val R (.int ..) e.2) (e.1.elim (fun h => IntMulOk.of_left (intBits_le_64 (by omega) (by omega))) fun h => IntMulOk.of_right (intBits_le_64 (by omega) (by omega)))
  | @lst l vs n xs hl hv q z =>
    refine need_e e fun i ei e => (hb.toInt ei).elim fun u eu => ?_
    subst eu
    obtain ⟨⟨h0, h01, h1⟩, e⟩ := e
    have hs : vs.size * i.toNat ≤ 1048576 := by rw [z]; exact h1
    refine wpAny_binaryOp_repeat_ref (T := "list") (U := "int") (by decide) ⟨_, hl, rfl⟩ (fun s' => typeIs_int s' i u) noFill_list_mul PySem.F.fills_int_mul PySem.F.slot_int_rmul repeat_list PySem.F.slot_int_index.lookup
      (call_meets PySem.F.slot_int_rmul (typeIs_int s i u) PySem.F.entry_int_rmul (PySem.F.args_int_rmul_2 _ _) (int___rmul___int_list i u l vs n)
        ⟨hl, rfl, ⟨_, hl, rfl⟩, call_meets PySem.F.slot_list_mul ⟨_, hl, rfl⟩ PySem.F.entry_list_mul (PySem.F.args_list_mul_2 _ _)
          (AutoListH.list___mul___list_int_3 l vs n i u (by simp [Builtin.List.listFitsIndex]; omega) (by omega) (by simp [Builtin.List.listTooLong, sizeLine]; omega)) ⟨hl, ?_⟩⟩)
    refine o.push R (xs := repL xs i.toNat) ?_ e
    rw [rep_arr]
    by_cases c : vs.isEmpty = true
    · rw [if_pos c]
      have : vs = #[] := Array.isEmpty_iff.mp c
      subst this
      cases hv
      rw [rep_nil]
      exact .nil
    · rw [if_neg c]
      exact hv.rep i.toNat
  | str i t o1 z1 => exact need_e e fun n en e => (hb.toInt en).elim fun u q => q ▸ mulStr_ok o R o1 e
  | _ => exact e.elim
theorem bin_ok {op : BOp} (e : binK op x y k) : wpAny (model X.prog X.w) A (binaryOp (opOf op) a b) Q E s := by
  cases op with
  | add => exact add_ok o R ha hb e
  | mul => exact mul_ok o R ha hb e
  | bor => exact e.elim
  | sub => exact need_e e fun i ei e => need_e e fun j ej e => (ha.toInt ei).elim fun t q => (hb.toInt ej).elim fun u q' => q ▸ q' ▸ sub_int (o.val R (.int ..) e)
  | fdiv => exact need_e e fun i ei e => need_e e fun j ej e => (ha.toInt ei).elim fun t q => (hb.toInt ej).elim fun u q' => q ▸ q' ▸ floordiv_int e.1.1 (o.val R (.int ..) e.2) (.inl (PyProof.noPylong_small (Nat.lt_of_lt_of_le e.1.2 (by decide))))
  | mod => exact need_e e fun i ei e => need_e e fun j ej e => (ha.toInt ei).elim fun t q => (hb.toInt ej).elim fun u q' => q ▸ q' ▸ mod_int' e.1 (o.val R (.int ..) e.2)
  | pow =>
    refine need_e e fun i ei e => need_e e fun j ej e => (ha.toInt ei).elim fun t q => (hb.toInt ej).elim fun u q' => ?_
    subst q q'
    refine pow_int e.1.1 ?_ (o.val R (.int ..) e.2)
    have h64 : Builtin.Int.intBits i ≤ 64 := intBits_le_64 (by have := e.1; omega) (by have := e.1; omega)
    exact Int.le_trans (Int.mul_le_mul (Int.ofNat_le.mpr h64) e.1.2.1 e.1.1 (by decide)) (by decide)
end
end
end Mine

end

section
set_option autoImplicit false
set_option linter.all false
set_option genSizeOf false
set_option genInjectivity false
namespace Mine
open PySem PySem.W PySem.Calls PyProof.Rows

/-! data -/
mutual
noncomputable def toPy : V → PyData
  | .bool b => .bool b
  | .int i => .int i
  | .str s => .str s
  | .tup xs => .tuple (toPys xs)
  | .lst xs => .list (toPys xs)
  | _ => .none
noncomputable def toPys : List V → List PyData
  | [] => []
  | x :: r => toPy x :: toPys r
end
mutual
noncomputable def isD : V → Bool
  | .none => true
  | .bool _ => true
  | .int _ => true
  | .str _ => true
  | .tup xs => isDs xs
  | .lst xs => isDs xs
  | _ => false
noncomputable def isDs : List V → Bool
  | [] => true
  | x :: r => isD x && isDs r
end
theorem beq_dec {α : Type} [DecidableEq α] {a b : α} : (a == b) = decide (a = b) := by
  by_cases h : a = b
  · rw [decide_eq_true h, h]; exact beq_self_eq_true _
  · rw [decide_eq_false h]; exact beq_false_of_ne h
mutual
theorem eqD_eqv : ∀ x y : V, isD x = true → isD y = true → eqD x y = PyData.eqv (toPy x) (toPy y)
  | .none, y, _, h => by cases y <;> first | rfl | cases h
  | .bool a, y, _, h => by cases y <;> first | rfl | exact beq_dec.symm | (cases a <;> exact beq_dec.symm) | (cases h; done)
  | .int a, y, _, h => by cases y <;> first | rfl | exact beq_dec.symm | (rename_i b; cases b <;> exact beq_dec.symm) | (cases h; done)
  | .str a, y, _, h => by cases y <;> first | rfl | exact beq_dec.symm | cases h
  | .tup a, y, hx, h => by cases y <;> first | exact eqDs_eqv a _ hx h | rfl | cases h
  | .lst a, y, hx, h => by cases y <;> first | exact eqDs_eqv a _ hx h | rfl | cases h
  | .rng _ _ _, _, h, _ => by cases h
  | .ref _, _, h, _ => by cases h
  | .bt _, _, h, _ => by cases h
  | .fn _, _, h, _ => by cases h
  | .cls _, _, h, _ => by cases h
theorem eqDs_eqv : ∀ x y : List V, isDs x = true → isDs y = true → eqDs x y = PyData.eqvAll (toPys x) (toPys y)
  | [], y, _, _ => by cases y <;> rfl
  | a :: r, y, hx, hy => by
    cases y with
    | nil => rfl
    | cons b t =>
      have hx := Bool.and_eq_true_iff.mp hx
      have hy := Bool.and_eq_true_iff.mp hy
      exact (congrArg (· && eqDs r t) (eqD_eqv a b hx.1 hy.1)).trans (congrArg (PyData.eqv (toPy a) (toPy b) && ·) (eqDs_eqv r t hx.2 hy.2))
end
theorem reads_tuple' {h : Heap} {a : Addr} {vs : Array Value} {n : Nat} {xs : List PyData} {as : List Addr} (e : h.get? a = some (tupO vs n)) (r : ReadsAll h vs.toList xs as) : Reads h (.ref a) (.tuple xs) as := .tuple e rfl rfl r
theorem reads_list' {h : Heap} {a : Addr} {vs : Array Value} {n : Nat} {xs : List PyData} {as : List Addr} (e : h.get? a = some (lstO vs n)) (r : ReadsAll h vs.toList xs as) : Reads h (.ref a) (.list xs) (a :: as) := .list e rfl rfl r
section
variable {X : Cx} {W : Wd} {H : Hp} {h : Heap}
inductive Dt (h : Heap) (n : Nat) (v : Value) (y : V) : Prop
  | mk (as : List Addr) (rd : Reads h v (toPy y) as) (lay : (toPy y).canLay0 = true) (dp : (toPy y).depth ≤ n) (d : isD y = true)
inductive Dts (h : Heap) (n : Nat) (vs : List Value) (ys : List V) : Prop
  | mk (as : List Addr) (rd : ReadsAll h vs (toPys ys) as) (lay : PyData.canLayAll0 (toPys ys) = true) (dp : PyData.depthAll (toPys ys) ≤ n) (d : isDs ys = true)
theorem deepL_cons {f : V → Option V} {x : V} {r ys : List V} {G : Prop} (h : deepL f (x :: r) = some ys) (g : ∀ y zs, f x = some y → deepL f r = some zs → ys = y :: zs → G) : G := by
  have h : (match f x with | some y => (match deepL f r with | some ys => some (y :: ys) | none => none) | none => none) = some ys := h
  generalize f x = p at h g
  cases p with
  | none => cases h
  | some v =>
    generalize deepL f r = q at h g
    cases q with
    | none => cases h
    | some ws => exact g v ws rfl rfl (Option.some.inj h).symm
theorem deepL_data {f : V → Option V} {n : Nat} (hf : ∀ v x y, VR X W v x → f x = some y → Dt h n v y) {vs : List Value} {xs : List V} (r : VRs X W vs xs) {ys : List V} (e : deepL f xs = some ys) : Dts h n vs ys :=
  VRs.ind (p := fun vs xs => ∀ ys, deepL f xs = some ys → Dts h n vs ys) (fun ys e => Option.some.inj e ▸ ⟨[], .nil, rfl, Nat.zero_le _, rfl⟩) (fun a _ ih ys e => deepL_cons e fun y zs ey ez ee => by
    subst ee
    obtain ⟨as, ra, la, da, ia⟩ := hf _ _ _ a ey
    obtain ⟨bs, rb, lb, db, ib⟩ := ih _ ez
    exact ⟨as ++ bs, .cons ra rb, Bool.and_eq_true_iff.mpr ⟨la, lb⟩, Nat.max_le.mpr ⟨da, db⟩, Bool.and_eq_true_iff.mpr ⟨ia, ib⟩⟩) r ys e
theorem mT_e {o : Option (List V)} {v : V} (h : mT o = some v) : ∃ a, o = some a ∧ v = .tup a := by
  cases o with
  | none => cases h
  | some a => exact ⟨a, rfl, (Option.some.inj h).symm⟩
theorem dt_lst {n : Nat} {a : Addr} {vs : Array Value} {k : Nat} {ys : List V} (g : h.get? a = some (lstO vs k)) (B : Dts h n vs.toList ys) : Dt h (n + 1) (.ref a) (.lst ys) := by
  obtain ⟨as, rb, l, d, i⟩ := B
  exact ⟨_, reads_list' g rb, l, Nat.succ_le_succ d, i⟩
theorem deepN_data (R : RelH X W H h) (n : Nat) : ∀ (v : Value) (x y : V), VR X W v x → deepN H n x = some y → Dt h n v y := by
  induction n with
  | zero =>
    intro v x y r e
    cases r with
    | none => cases e; exact ⟨_, .none, rfl, Nat.zero_le _, rfl⟩
    | bool b => cases e; exact ⟨_, .bool b, rfl, Nat.zero_le _, rfl⟩
    | int i t => cases e; exact ⟨_, .int i t, rfl, Nat.zero_le _, rfl⟩
    | str s t o z => cases e; exact ⟨_, .str s t, o, Nat.zero_le _, rfl⟩
    | _ => cases e
  | succ n ih =>
    intro v x y r e
    cases r with
    | none => cases e; exact ⟨_, .none, rfl, Nat.zero_le _, rfl⟩
    | bool b => cases e; exact ⟨_, .bool b, rfl, Nat.zero_le _, rfl⟩
    | int i t => cases e; exact ⟨_, .int i t, rfl, Nat.zero_le _, rfl⟩
    | str s t o z => cases e; exact ⟨_, .str s t, o, Nat.zero_le _, rfl⟩
    | tup z r q =>
      obtain ⟨ys, ey, rfl⟩ := mT_e e
      obtain ⟨as, rb, l, d, i⟩ := deepL_data ih r ey
      exact ⟨_, reads_tuple' (R.z _ _ z) rb, l, Nat.succ_le_succ d, i⟩
    | lst z r q =>
      obtain ⟨ys, ey, rfl⟩ := mL_e e
      exact dt_lst (R.z _ _ z) (deepL_data ih r ey)
    | @ref i l hl =>
      have e : bindL (cL (H.get i)) (fun xs => mL (deepL (deepN H n) xs)) = some y := e
      cases ec : cL (H.get i) with
      | none => rw [ec] at e; cases e
      | some xs =>
        rw [ec] at e
        obtain ⟨ys, ey, rfl⟩ := mL_e e
        obtain ⟨vs, k, g, r, _, _⟩ := R.at_ (cL_e ec) hl
        exact dt_lst g (deepL_data ih r ey)
    | _ => cases e
end
/-- room below on the C stack -/
noncomputable def Room (A : Around) : Prop := A.units + 80 < cLine
section
variable {X : Cx} {A : Around} {W : Wd} {H : Hp} {s : Shared} {E : Value → Shared → Prop} {a b : Value} {x y : V} {k : Bool → Prop} {Q : Value → Shared → Prop} (R : RelH X W H s.heap) (hu : Room A) (ha : VR X W a x) (hb : VR X W b y) (h : ∀ r tk, k r → Q (.bool r) { s with toks := tk })
include R hu ha h
theorem any_ok {vs : Array Value} {xs : List V} (hv : VRs X W vs.toList xs) (e : cmpK.anyK H x xs k) {G : Prop} (g : ∀ as bs d ds, Reads s.heap a d as → ReadsAll s.heap vs.toList ds bs → d.canLay0 = true → PyData.canLayAll0 ds = true → A.units + 1 + min (PyData.depthAll ds) d.depth < cLine → k (ds.any fun y => PyData.eqv y d) → G) : G := by
  refine need_e e fun u eu e => need_e e fun v ev e => ?_
  obtain ⟨as, ra, la, da, ia⟩ := deepN_data R _ _ _ _ ha eu
  obtain ⟨bs, rb, lb, db, ib⟩ := deepL_data (deepN_data R 11) hv ev
  have hd : (v.any fun z => eqD z u) = ((toPys v).any fun y => PyData.eqv y (toPy u)) := by
    clear rb ev lb db e
    induction v with
    | nil => rfl
    | cons z zs ih =>
      have ib := Bool.and_eq_true_iff.mp ib
      rw [List.any_cons, ih ib.2, eqD_eqv z u ib.1 ia]; rfl
  refine g as bs _ _ ra rb la lb ?_ (hd ▸ e)
  have : min (PyData.depthAll (toPys v)) (toPy u).depth ≤ 12 := Nat.le_trans (Nat.min_le_right _ _) da
  unfold Room at hu; omega
include hb
theorem eq_ok (e : cmpK H .eq x y k) : wpAny (model X.prog X.w) A (compareOp .Eq a b) Q E s := by
  refine need_e e fun u eu e => need_e e fun v ev e => ?_
  obtain ⟨as, ra, la, da, ia⟩ := deepN_data R _ _ _ _ ha eu
  obtain ⟨bs, rb, lb, db, ib⟩ := deepN_data R _ _ _ _ hb ev
  refine SeqAt.compareEq_reads ra rb la lb ?_ ?_
  · unfold Room at hu; omega
  · rw [← eqD_eqv _ _ ia ib]; exact h _ s.toks e
theorem ne_ok (e : cmpK H .ne x y k) : wpAny (model X.prog X.w) A (compareOp .NotEq a b) Q E s := by
  refine need_e e fun u eu e => need_e e fun v ev e => ?_
  obtain ⟨as, ra, la, da, ia⟩ := deepN_data R _ _ _ _ ha eu
  obtain ⟨bs, rb, lb, db, ib⟩ := deepN_data R _ _ _ _ hb ev
  refine ne_dataH ra rb ?_ ?_ ?_ ?_
  · simp [SeqAt.shaped, la]; omega
  · simp [SeqAt.shaped, lb]; omega
  · unfold Room at hu; omega
  · rw [← eqD_eqv _ _ ia ib]; exact h _ s.toks e
end
end Mine

end

section
set_option autoImplicit false
set_option linter.all false
set_option genSizeOf false
set_option genInjectivity false
namespace Mine
open PySem PySem.W PySem.Calls PyProof.Rows
abbrev prO (a b : Int) (t u : Tok) (n : Nat) : Obj := { cls := .type "tuple", data := .seq #[.int a t, .int b u] n }
section
variable {prog : Program} {w : World} {A : Around} {s : Shared} {E : Value → Shared → Prop}
theorem prI_of {k : Int → Int → Bool} {z : Bool} {a b c d : Int} {p : Bool → Prop} (h : p (prI k z a b c d)) : (a ≠ c → p (k a c)) ∧ (a = c → b ≠ d → p (k b d)) ∧ (a = c → b = d → p z) := by
  unfold prI at h
  refine ⟨fun e => ?_, fun e e' => ?_, fun e e' => ?_⟩
  · rw [decide_eq_false e] at h; exact h
  · rw [decide_eq_true e, decide_eq_false e'] at h; exact h
  · rw [decide_eq_true e, decide_eq_true e'] at h; exact h
theorem pair_gt {x y : Addr} {n m : Nat} {a b c d : Int} {t1 t2 t3 t4 : Tok} {Q : Value → Shared → Prop} (hu : A.units < cLine) (hx : s.heap.get? x = some (prO a b t1 t2 n)) (hy : s.heap.get? y = some (prO c d t3 t4 m))
    (h : Q (.bool (prI (fun i j => decide (j < i)) false a b c d)) s) : wpAny (model prog w) A (compareOp .Gt (.ref x) (.ref y)) Q E s := by
  show wpAny _ _ (richCompare .Gt (.ref x) (.ref y)) Q E s
  refine wpAny_richCompare_same_room (op := .Gt) (T := "tuple") ⟨_, hx, rfl⟩ ⟨_, hy, rfl⟩ PySem.F.slot_tuple_gt ?_ hu
  refine wpAny_call_entry PySem.F.slot_tuple_gt ⟨_, hx, rfl⟩ PySem.F.entry_tuple_gt ?_ (PySem.F.args_tuple_gt_2 _ _)
  show wpAny _ _ (isInstance (.ref y) (.type "tuple") >>= _) _ _ s
  refine wpAny_bind (wpAny_isInstance (T := "tuple") ⟨_, hy, rfl⟩ isSubtype_tuple_tuple ?_)
  simp only [Bool.not_true, Bool.false_eq_true, if_false]
  refine wpAny_bind (wpAny_tupleItemsOf hx rfl (wpAny_bind (wpAny_tupleItemsOf hy rfl ?_)))
  obtain ⟨h1, h2, h3⟩ := prI_of (p := fun v => Q (.bool v) s) h
  refine wpAny_bind ?_
  rw [show (#[Value.int a t1, Value.int b t2].toList.zip #[Value.int c t3, Value.int d t4].toList) = [(Value.int a t1, Value.int c t3), (Value.int b t2, Value.int d t4)] from rfl, List.forIn_cons]
  refine wpAny_bind (wpAny_bind ((intKind prog w).eqBool (a := a) (b := c) (intKind_is _ _ _ _) (intKind_is _ _ _ _) ?_))
  by_cases e : a = c
  · rw [decide_eq_true e]
    refine wpAny_pure ?_
    show wpAny _ _ (forIn [(Value.int b t2, Value.int d t4)] _ _) _ _ s
    rw [List.forIn_cons]
    refine wpAny_bind (wpAny_bind ((intKind prog w).eqBool (a := b) (b := d) (intKind_is _ _ _ _) (intKind_is _ _ _ _) ?_))
    by_cases e' : b = d
    · rw [decide_eq_true e']
      exact wpAny_pure (wpAny_pure (wpAny_pure ⟨_, rfl, (nomatch ·), h3 e e'⟩))
    · rw [decide_eq_false e']
      exact wpAny_bind (wpAny_rule (wpAny_bind (PyProof.Rows.gt_int (wpAny_bind (wpAny_pure (wpAny_pure (wpAny_pure (wpAny_pure ⟨_, rfl, (nomatch ·), h2 e e'⟩))))))))
  · rw [decide_eq_false e]
    exact wpAny_bind (wpAny_rule (wpAny_bind (PyProof.Rows.gt_int (wpAny_bind (wpAny_pure (wpAny_pure (wpAny_pure (wpAny_pure ⟨_, rfl, (nomatch ·), h1 e⟩))))))))
theorem pair_ge {x y : Addr} {n m : Nat} {a b c d : Int} {t1 t2 t3 t4 : Tok} {Q : Value → Shared → Prop} (hu : A.units < cLine) (hx : s.heap.get? x = some (prO a b t1 t2 n)) (hy : s.heap.get? y = some (prO c d t3 t4 m))
    (h : Q (.bool (prI (fun i j => decide (j ≤ i)) true a b c d)) s) : wpAny (model prog w) A (compareOp .GtE (.ref x) (.ref y)) Q E s := by
  show wpAny _ _ (richCompare .GtE (.ref x) (.ref y)) Q E s
  refine wpAny_richCompare_same_room (op := .GtE) (T := "tuple") ⟨_, hx, rfl⟩ ⟨_, hy, rfl⟩ PySem.F.slot_tuple_ge ?_ hu
  refine wpAny_call_entry PySem.F.slot_tuple_ge ⟨_, hx, rfl⟩ PySem.F.entry_tuple_ge ?_ (PySem.F.args_tuple_ge_2 _ _)
  show wpAny _ _ (isInstance (.ref y) (.type "tuple") >>= _) _ _ s
  refine wpAny_bind (wpAny_isInstance (T := "tuple") ⟨_, hy, rfl⟩ isSubtype_tuple_tuple ?_)
  simp only [Bool.not_true, Bool.false_eq_true, if_false]
  refine wpAny_bind (wpAny_tupleItemsOf hx rfl (wpAny_bind (wpAny_tupleItemsOf hy rfl ?_)))
  obtain ⟨h1, h2, h3⟩ := prI_of (p := fun v => Q (.bool v) s) h
  refine wpAny_bind ?_
  rw [show (#[Value.int a t1, Value.int b t2].toList.zip #[Value.int c t3, Value.int d t4].toList) = [(Value.int a t1, Value.int c t3), (Value.int b t2, Value.int d t4)] from rfl, List.forIn_cons]
  refine wpAny_bind (wpAny_bind ((intKind prog w).eqBool (a := a) (b := c) (intKind_is _ _ _ _) (intKind_is _ _ _ _) ?_))
  by_cases e : a = c
  · rw [decide_eq_true e]
    refine wpAny_pure ?_
    show wpAny _ _ (forIn [(Value.int b t2, Value.int d t4)] _ _) _ _ s
    rw [List.forIn_cons]
    refine wpAny_bind (wpAny_bind ((intKind prog w).eqBool (a := b) (b := d) (intKind_is _ _ _ _) (intKind_is _ _ _ _) ?_))
    by_cases e' : b = d
    · rw [decide_eq_true e']
      exact wpAny_pure (wpAny_pure (wpAny_pure ⟨_, rfl, (nomatch ·), h3 e e'⟩))
    · rw [decide_eq_false e']
      exact wpAny_bind (wpAny_rule (wpAny_bind (PyProof.Rows.ge_int (wpAny_bind (wpAny_pure (wpAny_pure (wpAny_pure (wpAny_pure ⟨_, rfl, (nomatch ·), h2 e e'⟩))))))))
  · rw [decide_eq_false e]
    exact wpAny_bind (wpAny_rule (wpAny_bind (PyProof.Rows.ge_int (wpAny_bind (wpAny_pure (wpAny_pure (wpAny_pure (wpAny_pure ⟨_, rfl, (nomatch ·), h1 e⟩))))))))
theorem pair_lt {x y : Addr} {n m : Nat} {a b c d : Int} {t1 t2 t3 t4 : Tok} {Q : Value → Shared → Prop} (hu : A.units < cLine) (hx : s.heap.get? x = some (prO a b t1 t2 n)) (hy : s.heap.get? y = some (prO c d t3 t4 m))
    (h : Q (.bool (prI (fun i j => decide (i < j)) false a b c d)) s) : wpAny (model prog w) A (compareOp .Lt (.ref x) (.ref y)) Q E s := by
  show wpAny _ _ (richCompare .Lt (.ref x) (.ref y)) Q E s
  refine wpAny_richCompare_same_room (op := .Lt) (T := "tuple") ⟨_, hx, rfl⟩ ⟨_, hy, rfl⟩ PySem.F.slot_tuple_lt ?_ hu
  refine wpAny_call_entry PySem.F.slot_tuple_lt ⟨_, hx, rfl⟩ PySem.F.entry_tuple_lt ?_ (PySem.F.args_tuple_lt_2 _ _)
  show wpAny _ _ (isInstance (.ref y) (.type "tuple") >>= _) _ _ s
  refine wpAny_bind (wpAny_isInstance (T := "tuple") ⟨_, hy, rfl⟩ isSubtype_tuple_tuple ?_)
  simp only [Bool.not_true, Bool.false_eq_true, if_false]
  refine wpAny_bind (wpAny_tupleItemsOf hx rfl (wpAny_bind (wpAny_tupleItemsOf hy rfl ?_)))
  obtain ⟨h1, h2, h3⟩ := prI_of (p := fun v => Q (.bool v) s) h
  refine wpAny_bind ?_
  rw [show (#[Value.int a t1, Value.int b t2].toList.zip #[Value.int c t3, Value.int d t4].toList) = [(Value.int a t1, Value.int c t3), (Value.int b t2, Value.int d t4)] from rfl, List.forIn_cons]
  refine wpAny_bind (wpAny_bind ((intKind prog w).eqBool (a := a) (b := c) (intKind_is _ _ _ _) (intKind_is _ _ _ _) ?_))
  by_cases e : a = c
  · rw [decide_eq_true e]
    refine wpAny_pure ?_
    show wpAny _ _ (forIn [(Value.int b t2, Value.int d t4)] _ _) _ _ s
    rw [List.forIn_cons]
    refine wpAny_bind (wpAny_bind ((intKind prog w).eqBool (a := b) (b := d) (intKind_is _ _ _ _) (intKind_is _ _ _ _) ?_))
    by_cases e' : b = d
    · rw [decide_eq_true e']
      exact wpAny_pure (wpAny_pure (wpAny_pure ⟨_, rfl, (nomatch ·), h3 e e'⟩))
    · rw [decide_eq_false e']
      exact wpAny_bind (wpAny_rule (wpAny_bind (PyProof.Rows.lt_int (wpAny_bind (wpAny_pure (wpAny_pure (wpAny_pure (wpAny_pure ⟨_, rfl, (nomatch ·), h2 e e'⟩))))))))
  · rw [decide_eq_false e]
    exact wpAny_bind (wpAny_rule (wpAny_bind (PyProof.Rows.lt_int (wpAny_bind (wpAny_pure (wpAny_pure (wpAny_pure (wpAny_pure ⟨_, rfl, (nomatch ·), h1 e⟩))))))))
theorem pair_le {x y : Addr} {n m : Nat} {a b c d : Int} {t1 t2 t3 t4 : Tok} {Q : Value → Shared → Prop} (hu : A.units < cLine) (hx : s.heap.get? x = some (prO a b t1 t2 n)) (hy : s.heap.get? y = some (prO c d t3 t4 m))
    (h : Q (.bool (prI (fun i j => decide (i ≤ j)) true a b c d)) s) : wpAny (model prog w) A (compareOp .LtE (.ref x) (.ref y)) Q E s := by
  show wpAny _ _ (richCompare .LtE (.ref x) (.ref y)) Q E s
  refine wpAny_richCompare_same_room (op := .LtE) (T := "tuple") ⟨_, hx, rfl⟩ ⟨_, hy, rfl⟩ PySem.F.slot_tuple_le ?_ hu
  refine wpAny_call_entry PySem.F.slot_tuple_le ⟨_, hx, rfl⟩ PySem.F.entry_tuple_le ?_ (PySem.F.args_tuple_le_2 _ _)
  show wpAny _ _ (isInstance (.ref y) (.type "tuple") >>= _) _ _ s
  refine wpAny_bind (wpAny_isInstance (T := "tuple") ⟨_, hy, rfl⟩ isSubtype_tuple_tuple ?_)
  simp only [Bool.not_true, Bool.false_eq_true, if_false]
  refine wpAny_bind (wpAny_tupleItemsOf hx rfl (wpAny_bind (wpAny_tupleItemsOf hy rfl ?_)))
  obtain ⟨h1, h2, h3⟩ := prI_of (p := fun v => Q (.bool v) s) h
  refine wpAny_bind ?_
  rw [show (#[Value.int a t1, Value.int b t2].toList.zip #[Value.int c t3, Value.int d t4].toList) = [(Value.int a t1, Value.int c t3), (Value.int b t2, Value.int d t4)] from rfl, List.forIn_cons]
  refine wpAny_bind (wpAny_bind ((intKind prog w).eqBool (a := a) (b := c) (intKind_is _ _ _ _) (intKind_is _ _ _ _) ?_))
  by_cases e : a = c
  · rw [decide_eq_true e]
    refine wpAny_pure ?_
    show wpAny _ _ (forIn [(Value.int b t2, Value.int d t4)] _ _) _ _ s
    rw [List.forIn_cons]
    refine wpAny_bind (wpAny_bind ((intKind prog w).eqBool (a := b) (b := d) (intKind_is _ _ _ _) (intKind_is _ _ _ _) ?_))
    by_cases e' : b = d
    · rw [decide_eq_true e']
      exact wpAny_pure (wpAny_pure (wpAny_pure ⟨_, rfl, (nomatch ·), h3 e e'⟩))
    · rw [decide_eq_false e']
      exact wpAny_bind (wpAny_rule (wpAny_bind (PyProof.Rows.le_int (wpAny_bind (wpAny_pure (wpAny_pure (wpAny_pure (wpAny_pure ⟨_, rfl, (nomatch ·), h2 e e'⟩))))))))
  · rw [decide_eq_false e]
    exact wpAny_bind (wpAny_rule (wpAny_bind (PyProof.Rows.le_int (wpAny_bind (wpAny_pure (wpAny_pure (wpAny_pure (wpAny_pure ⟨_, rfl, (nomatch ·), h1 e⟩))))))))
end
end Mine

end

section
set_option autoImplicit false
set_option linter.all false
set_option genSizeOf false
set_option genInjectivity false
namespace Mine
open PySem PySem.W PySem.Calls PyProof.Rows
section
variable {X : Cx} {W : Wd} {es : List (Int × Value)} {kvs : List (V × V)}
theorem dKey {i j : Int} : eqD (.int j) (.int i) = decide (j = i) := rfl
theorem val_cons {i j : Int} {v : Value} : valueAt ((j, v) :: es) i = cond (decide (j = i)) (some v) (valueAt es i) := by
  unfold valueAt
  rw [List.find?_cons]
  cases decide (j = i) <;> rfl
inductive DGv (X : Cx) (W : Wd) : Option Value → Option V → Prop
  | none : DGv X W none none
  | some {v : Value} {x : V} : VR X W v x → DGv X W (some v) (some x)
theorem KVs.val {i : Int} (r : KVs X W es kvs) : DGv X W (valueAt es i) (dGet kvs (.int i)) := by
  induction r with
  | nil => exact .none
  | @cons j v x es kvs a r ih =>
    rw [val_cons]
    show DGv X W _ (cond (eqD (.int j) (.int i)) (some x) (dGet kvs (.int i)))
    rw [dKey]
    cases decide (j = i) with
    | true => exact .some a
    | false => exact ih
theorem KVs.any {i : Int} (r : KVs X W es kvs) : (valueAt es i).isSome = (dKeys kvs).any fun z => eqD z (.int i) := by
  induction r with
  | nil => rfl
  | @cons j v x es kvs a r ih =>
    rw [val_cons]
    show _ = (eqD (.int j) (.int i) || (dKeys kvs).any fun z => eqD z (.int i))
    rw [dKey, ← ih]
    cases decide (j = i) <;> rfl
theorem KVs.len (r : KVs X W es kvs) : es.length = kvs.length := by
  induction r with
  | nil => rfl
  | cons a r ih => exact congrArg (· + 1) ih
theorem KVs.put {i : Int} {v : Value} {x : V} (hv : VR X W v x) (r : KVs X W es kvs) (hn : (es.map (·.1)).Nodup) : KVs X W (stored es i v) (dSet kvs (.int i) x) := by
  induction r with
  | nil => exact .cons hv .nil
  | @cons j u y es kvs a r ih =>
    rw [List.map_cons, List.nodup_cons] at hn
    show KVs X W _ (cond (eqD (.int j) (.int i)) ((.int j, x) :: kvs) ((.int j, y) :: dSet kvs (.int i) x))
    rw [dKey]
    unfold stored
    by_cases h : j = i
    · subst h
      rw [List.any_cons, decide_eq_true rfl, List.map_cons, if_pos rfl, map_store_of_not_mem es j v hn.1]
      exact .cons hv r
    · have ih := ih hn.2
      unfold stored at ih
      rw [List.any_cons, decide_eq_false h, Bool.false_or, List.map_cons, if_neg h]
      by_cases q : es.any (fun kv => decide (kv.1 = i)) = true
      · rw [if_pos q] at ih ⊢; exact .cons a ih
      · rw [if_neg q] at ih ⊢; exact .cons a ih
theorem key_e {a : Value} {x : V} {ks : List V} {G : Prop} (ha : VR X W a x) (h : keyOk ks x = true) (g : ∀ i t, a = .int i t → x = .int i → G) : G := by
  have h := (and_eq h).1
  cases x with
  | int i => cases ha with | int _ t => exact g i t rfl rfl
  | _ => cases h
where and_eq {a b : Bool} (h : (a && b) = true) : a = true ∧ b = true := by cases a <;> cases b <;> first | exact ⟨rfl, rfl⟩ | cases h
end
end Mine

end

section
set_option autoImplicit false
set_option linter.all false
set_option genSizeOf false
set_option genInjectivity false
namespace Mine
open PySem PySem.W PySem.Calls PyProof.Rows
section
variable {X : Cx} {W : Wd}
theorem ints_are {vs : List Value} {xs : List V} (r : VRs X W vs xs) : ∀ {l : List Int}, intsOf xs = some l → IntsAre vs l := by
  refine VRs.ind (p := fun vs xs => ∀ {l : List Int}, intsOf xs = some l → IntsAre vs l) (fun e => by cases e; exact .nil) (fun {v vs x xs} a _ ih l e => ?_) r
  have e : (match aInt x with | some i => (match intsOf xs with | some l => some (i :: l) | none => none) | none => none) = some l := e
  cases hx : aInt x with
  | none => rw [hx] at e; cases e
  | some i =>
    rw [hx] at e
    have e : (match intsOf xs with | some l => some (i :: l) | none => none) = some l := e
    cases hr : intsOf xs with
    | none => rw [hr] at e; cases e
    | some m =>
      rw [hr] at e; cases e
      cases x with
      | int j => cases hx; cases a with | int _ t => exact .cons _ t (ih hr)
      | _ => cases hx
theorem of_ints {vs : List Value} {l : List Int} (h : IntsAre vs l) : VRs X W vs (l.map .int) := by
  induction h with
  | nil => exact .nil
  | cons n t _ ih => exact .cons (.int n t) ih
end
end Mine

end

section
set_option autoImplicit false
set_option linter.all false
set_option genSizeOf false
set_option genInjectivity false
namespace Mine
open PySem PySem.W PySem.Calls PyProof.Rows
section
variable {prog : Program} {w : World} {A : Around} {E : Value → Shared → Prop} {s : Shared}
theorem adjust_to (j n : Nat) (h : j ≤ n) : Builtin.Slice.sliceAdjust none (some (j : Int)) 1 (n : Int) = (0, (j : Int)) := by
  unfold Builtin.Slice.sliceAdjust
  have h1 : ¬ ((1 : Int) < 0) := by omega
  have h2 : ¬ ((j : Int) < 0) := by omega
  simp only [h1, h2, if_false]
  congr 1
  omega
theorem places_to (j : Nat) : Builtin.Slice.slicePlaces 0 (j : Int) 1 = j := by
  unfold Builtin.Slice.slicePlaces
  have h1 : (1 : Int) > 0 := by omega
  simp only [h1, if_true, Int.ediv_one]
  split <;> omega
theorem sliceApplied_to {sl : Addr} {j n : Nat} {u : Tok} {Q : Int × Int × Nat → Shared → Prop} (hs : s.heap.IsSliceOf sl .none (.int j u) .none) (hj : j ≤ n) (h : Q ((0 : Int), 1, j) s) :
    wpAny (model prog w) A (Builtin.Slice.sliceApplied (.ref sl) (pure (n : Int))) Q E s := by
  obtain ⟨os, hos, hcs, hds⟩ := id hs
  unfold Builtin.Slice.sliceApplied Builtin.Slice.sliceFields
  refine wpAny_bind (wpAny_bind (wpAny_field hos hds (x := .none) rfl (wpAny_bind (wpAny_field hos hds (x := .int j u) rfl (wpAny_bind (wpAny_field hos hds (x := .none) rfl (wpAny_pure ?_)))))))
  refine wpAny_bind (slicePart_none ?_)
  show wpAny _ _ (if ((1 : Int) == 0) = true then _ else _) _ _ s
  rw [if_neg (by decide)]
  refine wpAny_bind (slicePart_none (wpAny_bind (slicePart_int (wpAny_bind (wpAny_pure ?_)))))
  show wpAny _ _ (match Builtin.Slice.sliceAdjust none (some (j : Int)) 1 (n : Int) with | (lo, hi) => pure (lo, (1 : Int), Builtin.Slice.slicePlaces lo hi 1)) _ _ s
  rw [adjust_to j n hj]
  show wpAny _ _ (pure ((0 : Int), (1 : Int), Builtin.Slice.slicePlaces 0 (j : Int) 1)) _ _ s
  rw [places_to j]
  exact wpAny_pure h
theorem take_run {α : Type} (l : List α) (j : Nat) (h : j ≤ l.length) : (List.range j).filterMap (fun k => l[k]?) = l.take j := by
  induction j with
  | zero => rfl
  | succ j ih =>
    rw [List.range_succ, List.filterMap_append, ih (Nat.le_of_succ_le h), List.take_succ, List.getElem?_eq_getElem h]
    show _ ++ (match l[j]? with | none => _ | some b => b :: _) = _
    rw [List.getElem?_eq_getElem h]; rfl
theorem pick_to (xs : Array Value) (j : Nat) (h : j ≤ xs.size) : ((List.range j).filterMap fun (k : Nat) => xs[((0 : Int) + (k : Int) * 1).toNat]?).toArray = (xs.toList.take j).toArray := by
  have e : (fun (k : Nat) => xs[((0 : Int) + (k : Int) * 1).toNat]?) = fun k => xs.toList[k]? := by
    funext k
    rw [show ((0 : Int) + (k : Int) * 1).toNat = k by omega, Array.getElem?_toList]
  rw [e, take_run _ _ (by rw [Array.length_toList]; exact h)]
theorem getItem_tuple_to {t sl : Addr} {items : Array Value} {j : Nat} {u : Tok} {Q : Value → Shared → Prop} (ht : IsTup s.heap t items) (hs : s.heap.IsSliceOf sl .none (.int j u) .none) (hj : j < items.size)
    (h : Q (.ref s.heap.objs.size) { s with heap := s.heap.push { cls := .type "tuple", data := .seq (items.toList.take j).toArray } })
    (hsz : items.size ≤ sizeLine) : wpAny (model prog w) A (getItem (.ref t) (.ref sl)) Q E s := by
  have htake : sizeOk (.seq (items.toList.take j).toArray) := by
    show (items.toList.take j).toArray.size ≤ sizeLine
    rw [List.size_toArray, List.length_take, Array.length_toList]
    omega
  obtain ⟨os, hos, hcs, hds⟩ := id hs
  have hTs : s.TypeIs (.ref sl) "slice" := ⟨os, hos, hcs⟩
  unfold getItem
  try with_reducible refine wpAny_holding ?_
  first | refine wpAny_bind (wpAny_pure ?_) | skip
  refine wpAny_bind (wpAny_sequenceKey ht.typeIs (by decide) ?_)
  refine wpAny_bind (wpAny_callSpecial?_slot (name := Str.ofString "__getitem__") ht.typeIs slot_tuple_getitem
    (wpAny_call_entry slot_tuple_getitem ht.typeIs entry_tuple_getitem ?_ (args_tuple_getitem _ _)))
  show wpAny _ _ (Builtin.Tuple.tupleItemsOf (.ref t) >>= _) _ _ s
  refine wpAny_bind (tupleItemsOf_ ht ?_)
  refine wpAny_bind (wpAny_typeOf hTs ?_)
  rw [if_pos (by decide)]
  refine wpAny_bind (sliceApplied_to hs (Nat.le_of_lt hj) ?_)
  have hno : ¬ (((0 : Int) == 0 && (1 : Int) == 1 && j == items.size) = true) := by
    have : (j == items.size) = false := by rw [beq_eq_false_iff_ne]; omega
    rw [this]; simp
  show wpAny _ _ (if ((0 : Int) == 0 && (1 : Int) == 1 && j == items.size) = true then _ else _) _ _ s
  rw [if_neg hno, pick_to items j (Nat.le_of_lt hj)]
  first
    | exact wpAny_bind (m := Builtin.Tuple.tupleExact _) (wpAny_newObj_type (wpAny_pure ⟨_, rfl, wpAny_pure h⟩) htake)
    | exact wpAny_bind (m := Builtin.Tuple.tupleExact _) (wpAny_newObj_type (wpAny_bind (wpAny_pure (wpAny_pure ⟨_, rfl, wpAny_pure h⟩))) htake)
    | exact wpAny_bind (wpAny_bind (m := Builtin.Tuple.tupleExact _) (wpAny_newObj_type (wpAny_pure (wpAny_pure ⟨_, rfl, wpAny_pure h⟩)) htake))
    | exact wpAny_bind (wpAny_bind (m := Builtin.Tuple.tupleExact _) (wpAny_newObj_type (wpAny_pure ⟨_, rfl, wpAny_pure h⟩) htake))
end
end Mine

end

section
set_option autoImplicit false
set_option linter.all false
namespace Mine
open PySem PySem.W PySem.Calls PyProof.Rows

theorem entry_rcl : entryFor table "range.__contains__.loop" = some Builtin.«range.__contains__.loop» := entryFor_of_tree (by kernel_rfl)
abbrev rngO (a b c : Int) (t u v : Tok) : Obj := { cls := .type "range", dict := none, data := .fields #[.int a t, .int b u, .int c v], slots := #[] }

theorem rng_size {a b c : Int} (hc : c = 1 ∨ c = -1) : Builtin.Range.rangeSize a b c = rngN a b c := by
  unfold Builtin.Range.rangeSize rngN
  rcases hc with rfl | rfl
  · simp only [show (1 : Int) > 0 by decide, if_true, Int.ediv_one]
    split <;> omega
  · simp only [show ¬ ((-1 : Int) > 0) by decide, if_false, show (-1 : Int) ≠ 1 by decide, if_true, Int.neg_neg, Int.ediv_one]
    split <;> omega

section
variable {prog : Program} {w : World} {A : Around} {s : Shared} {E : Value → Shared → Prop}
theorem rfields_ok {r : Addr} {a b c : Int} {t u v : Tok} {Q : Int × Int × Int → Shared → Prop} (hg : s.heap.get? r = some (rngO a b c t u v)) (h : Q (a, b, c) s) : wpAny (model prog w) A (Builtin.Range.rangeFields (.ref r)) Q E s := by
  obtain ⟨hh, g, d, tk, os⟩ := s
  unfold Builtin.Range.rangeFields
  repeat (any_goals (first | assumption | wp_step))
theorem rcl_ok {r : Addr} {a b c : Int} {t u v : Tok} {x : Value} {dx : PyData} {as : List Addr} (hx : Reads s.heap x dx as) (hd : dx.canLay0 = true) (hne : ∀ i : Int, PyData.eqv (.int i) dx = false) (hu : A.units + 2 + 1 < cLine) {R : Result → Shared → Prop} :
    ∀ (m k : Nat) (tok tk : Tok), m + k = Builtin.Range.rangeSize a b c → s.heap.get? r = some (rngO a b c t u v) → (∀ tk, R (.ok (.ret (.bool false))) { s with toks := tk }) →
    codeAny (model prog w) A (.builtin "range.__contains__.loop" ⟨[.ref r, x, .int k tok], []⟩) R { s with toks := tk } := by
  intro m
  induction m with
  | zero =>
    intro k tok tk e hg h
    refine codeAny_builtin entry_rcl ?_
    rw [Around.under_plainId (id := "range.__contains__.loop") (by decide +kernel) _]
    unfold Builtin.«range.__contains__.loop»
    refine wpAny_bind (rfields_ok (s := { s with toks := tk }) hg ?_)
    simp only []
    rw [if_pos (by omega)]
    exact wpAny_pure (a := Fin.done (.ret (.bool false))) (h tk)
  | succ m ih =>
    intro k tok tk e hg h
    refine codeAny_builtin entry_rcl ?_
    rw [Around.under_plainId (id := "range.__contains__.loop") (by decide +kernel) _]
    unfold Builtin.«range.__contains__.loop»
    refine wpAny_bind (rfields_ok (s := { s with toks := tk }) hg ?_)
    simp only []
    rw [if_neg (by omega)]
    refine wpAny_bind (wpAny_mkInt (wpAny_bind ?_))
    refine SeqAt.eqBoolOverData prog w _ _ { s with toks := tk + 1 } _ x (.int (a + k * c)) dx [] as _ (.int _ _) hx rfl hd ?_ ?_
    · have : min (PyData.int (a + k * c)).depth dx.depth ≤ 1 := Nat.le_trans (Nat.min_le_left _ _) (by unfold PyData.depth; decide)
      show A.units + 1 + _ < cLine
      omega
    · rw [hne]
      simp only [Bool.false_eq_true, if_false]
      refine wpAny_pure ?_
      refine ⟨Code.quiet_builtin _ (by decide +kernel), ?_⟩
      exact ih (k + 1) _ _ (by omega) hg h
/-- the search in a range -/
theorem rng_in {r : Addr} {a b c : Int} {t u v : Tok} {x : Value} {p : Bool} {Q : Bool → Shared → Prop} (hg : s.heap.get? r = some (rngO a b c t u v))
    (hp : (∃ i, Builtin.Range.rangeExactInt? x = some i ∧ p = (Builtin.Range.rangePlace? a b c i).isSome) ∨ (p = false ∧ Builtin.Range.rangeExactInt? x = none ∧ ∃ dx as, Reads s.heap x dx as ∧ dx.canLay0 = true ∧ (∀ i : Int, PyData.eqv (.int i) dx = false) ∧ A.units + 2 + 1 < cLine))
    (hn : 0 ≤ Builtin.Range.rangeSize a b c) (h : ∀ tk, Q p { s with toks := tk }) : wpAny (model prog w) A (contains (.ref r) x) Q E s := by
  refine wpAny_contains_slot (T := "range") ⟨_, hg, rfl⟩ PySem.F.slot_range_contains ?_
  refine wpAny_call (codeAny_call_builtin PySem.F.slot_range_contains.plain PySem.F.entry_range_contains (PySem.F.slot_range_contains.check _ _ _ _ _ _ _ _ ⟨_, hg, rfl⟩ (PySem.F.args_range_contains_2 _ _) ?_))
  unfold Builtin.«range.__contains__»
  refine wpAny_bind (wpAny_pure ?_)
  simp only []
  rcases hp with ⟨i, e, ep⟩ | ⟨ep, e, dx, as, hx, hd, hne, hu⟩
  · rw [e]
    refine wpAny_bind (wpAny_rule (wpAny_bind (rfields_ok hg ?_)))
    refine wpAny_pure (a := Fin.done _) ?_
    rw [← ep]
    exact wpAny_pure (h s.toks)
  · rw [e]
    refine wpAny_bind (wpAny_rule ?_)
    refine wpAny_pure (a := Fin.again _) ⟨Code.quiet_builtin _ (by decide +kernel), ?_⟩
    refine rcl_ok (s := s) hx hd hne hu (Builtin.Range.rangeSize a b c).toNat 0 _ s.toks ?_ hg fun tk => ?_
    · omega
    · subst ep
      exact wpAny_pure (h tk)
end
end Mine

end

section
set_option autoImplicit false
set_option linter.all false
set_option genSizeOf false
set_option genInjectivity false
namespace Mine
open PySem PySem.W PySem.Calls PyProof.Rows
theorem rplace {a b i : Int} : (Builtin.Range.rangePlace? a b 1 i).isSome = (decide (a ≤ i) && decide (i < b)) := by
  unfold Builtin.Range.rangePlace?
  simp only [show (1 : Int) > 0 by decide, if_true, Int.emod_one, beq_self_eq_true, Bool.and_true]
  split
  · rename_i h; rw [h]; rfl
  · rename_i h; rw [Bool.eq_false_iff.mpr h]; rfl
section
variable {X : Cx} {A : Around} {W : Wd} {H : Hp} {s : Shared} {E : Value → Shared → Prop}
/-- a search, and its reverse -/
structure InQ (X : Cx) (A : Around) (E : Value → Shared → Prop) (s : Shared) (a b : Value) (k : Bool → Prop) : Prop where
  yes : ∀ Q : Value → Shared → Prop, (∀ r tk, k r → Q (.bool r) { s with toks := tk }) → wpAny (model X.prog X.w) A (compareOp .In a b) Q E s
  no : ∀ Q : Value → Shared → Prop, (∀ r tk, k r → Q (.bool (!r)) { s with toks := tk }) → wpAny (model X.prog X.w) A (compareOp .NotIn a b) Q E s
theorem InQ.of {a b : Value} {k : Bool → Prop} (h : ∀ Q : Bool → Shared → Prop, (∀ r tk, k r → Q r { s with toks := tk }) → wpAny (model X.prog X.w) A (contains b a) Q E s) : InQ X A E s a b k :=
  ⟨fun Q g => show wpAny _ _ (contains _ _ >>= _) _ _ _ from wpAny_bind (h _ fun r tk z => wpAny_pure (g r tk z)), fun Q g => show wpAny _ _ (contains _ _ >>= _) _ _ _ from wpAny_bind (h _ fun r tk z => wpAny_pure (g r tk z))⟩
theorem inR_ok {a b : Value} {x : V} {p q c : Int} {k : Bool → Prop} (hu : Room A) (ha : VR X W a x) (hb : Sn X W s.heap b (.rng p q c)) (e : inR p q c x k) : InQ X A E s a b k := by
  obtain ⟨rfl, e⟩ := e
  cases hb with
  | rng hg z1 z2 z3 =>
    refine .of fun Q' h => ?_
    have hn : 0 ≤ Builtin.Range.rangeSize p q 1 := by rw [rng_size z3]; exact Int.natCast_nonneg _
    cases ha with
    | int i t => exact rng_in hg (.inl ⟨i, rfl, rplace.symm⟩) hn fun tk => h _ tk e
    | bool b => cases b <;> exact rng_in hg (.inl ⟨_, rfl, rplace.symm⟩) hn fun tk => h _ tk e
    | str t u o1 z1 => exact rng_in hg (.inr ⟨rfl, rfl, _, _, .str _ _, o1, fun _ => rfl, by unfold Room at hu; omega⟩) hn fun tk => h _ tk e
    | none => exact rng_in hg (.inr ⟨rfl, rfl, _, _, .none, rfl, fun _ => rfl, by unfold Room at hu; omega⟩) hn fun tk => h _ tk e
    | _ => exact e.elim
theorem inL_ok {a : Value} {x : V} {l : Addr} {vs : Array Value} {n : Nat} {xs : List V} {k : Bool → Prop} (R : RelH X W H s.heap) (hu : Room A) (ha : VR X W a x) (g : s.heap.get? l = some (lstO vs n)) (r : VRs X W vs.toList xs) (e : cmpK.anyK H x xs k) : InQ X A E s a (.ref l) k :=
  ⟨fun Q h => any_ok (Q := Q) R hu ha h r e fun as bs d ds ra rb c1 c2 hu' z => SeqAt.in_list_reads (reads_list' g rb) ra c2 c1 hu' (h _ s.toks z),
   fun Q h => any_ok (Q := fun _ _ => True) R hu ha (fun _ _ _ => trivial) r e fun as bs d ds ra rb c1 c2 hu' z => SeqAt.notIn_list_reads (reads_list' g rb) ra c2 c1 hu' (h _ s.toks z)⟩
theorem inT_ok {a : Value} {x : V} {l : Addr} {vs : Array Value} {n : Nat} {xs : List V} {k : Bool → Prop} (R : RelH X W H s.heap) (hu : Room A) (ha : VR X W a x) (g : s.heap.get? l = some (tupO vs n)) (r : VRs X W vs.toList xs) (e : cmpK.anyK H x xs k) : InQ X A E s a (.ref l) k :=
  ⟨fun Q h => any_ok (Q := Q) R hu ha h r e fun as bs d ds ra rb c1 c2 hu' z => SeqAt.in_tuple_reads (reads_tuple' g rb) ra c2 c1 hu' (h _ s.toks z),
   fun Q h => any_ok (Q := fun _ _ => True) R hu ha (fun _ _ _ => trivial) r e fun as bs d ds ra rb c1 c2 hu' z => SeqAt.notIn_tuple_reads (reads_tuple' g rb) ra c2 c1 hu' (h _ s.toks z)⟩
/-- a search in a dict -/
theorem inD_ok {a : Value} {x : V} {l : Addr × Addr} {kvs : List (V × V)} {k : Bool → Prop} (ha : VR X W a x) (g : DicCell X W s.heap l kvs) (e : Nd (keyOk (dKeys kvs) x = true) (k ((dKeys kvs).any fun z => eqD z x))) : InQ X A E s a (.ref l.1) k := by
  obtain ⟨es, d, r, _, ne, _⟩ := g
  refine key_e ha e.1 fun i t ea ex => ?_
  subst ea ex
  have q := e.2
  rw [← r.any] at q
  exact ⟨fun Q h => wpAny_in_of (intKind_is _ _ i t) ne d.mapOf (h _ _ q), fun Q h => wpAny_notIn_of (intKind_is _ _ i t) ne d.mapOf (h _ _ q)⟩
theorem in_ok {a b : Value} {x y : V} {k : Bool → Prop} (R : RelH X W H s.heap) (hu : Room A) (ha : VR X W a x) (hb : VR X W b y) (e : cmpK.inK H x y k) : InQ X A E s a b k := by
  cases hb with
  | lst z r q => exact inL_ok R hu ha (R.z _ _ z) r e
  | tup z r q => exact inT_ok R hu ha (R.z _ _ z) r e
  | rng z p q c => exact inR_ok hu ha (.rng (R.z _ _ z) p q c) e
  | @ref i l hl =>
    have e : (match H.get i with | some (.list xs) => cmpK.anyK H x xs k | some (.dict kvs) => Nd (keyOk (dKeys kvs) x = true) (k ((dKeys kvs).any fun z => eqD z x)) | _ => False) := e
    cases hc : H.get i with
    | none => rw [hc] at e; exact e.elim
    | some c =>
      rw [hc] at e
      have q := R.at_ hc hl
      cases c with
      | list xs => obtain ⟨vs, n, g, r, _, _⟩ := q; exact inL_ok R hu ha g r e
      | dict kvs => exact inD_ok ha q e
      | _ => exact e.elim
  | _ => exact e.elim
theorem is_ok {a b : Value} {x y : V} {k : Bool → Prop} (ha : VR X W a x) (hb : VR X W b y) (e : isK x y k) : ∃ r, plainIs a b = true ∧ (a == b) = r ∧ k r := by
  cases hb with
  | none => cases ha <;> first | exact ⟨_, rfl, rfl, e.2⟩ | exact nomatch e.1
  | bool c =>
    cases ha with
    | bool d => exact ⟨_, rfl, by cases c <;> cases d <;> rfl, e.2⟩
    | _ => first | exact ⟨_, rfl, rfl, e.2⟩ | exact nomatch e.1
  | _ => exact e.elim
theorem pr_of {h : Heap} {v : Value} {x : V} {p : Int × Int} (r : Sn X W h v x) (e : aPr x = some p) : ∃ l n t u, v = .ref l ∧ h.get? l = some (prO p.1 p.2 t u n) := by
  cases r with
  | @tup l vs n xs g r q z =>
    match xs, r, e with
    | [a, b], r, e =>
      have e : (match aInt a with | some i => (match aInt b with | some j => some (i, j) | none => none) | none => none) = some p := e
      cases ea : aInt a with
      | none => rw [ea] at e; cases e
      | some i =>
        rw [ea] at e
        have e : (match aInt b with | some j => some (i, j) | none => none) = some p := e
        cases eb : aInt b with
        | none => rw [eb] at e; cases e
        | some j =>
          rw [eb] at e; cases e
          cases a with
          | int _ =>
            cases b with
            | int _ =>
              cases ea; cases eb
              obtain ⟨vs⟩ := vs
              cases r with
              | cons h1 r =>
                cases r with
                | cons h2 r =>
                  cases r
                  cases h1
                  cases h2
                  exact ⟨l, n, _, _, rfl, g⟩
            | _ => cases eb
          | _ => cases ea
  | _ => cases e
theorem prI_swap {k : Int → Int → Bool} {z : Bool} {a b c d : Int} : prI (fun i j => k j i) z a b c d = prI k z c d a b := by
  unfold prI
  rw [show decide (a = c) = decide (c = a) from decide_eq_decide.mpr eq_comm, show decide (b = d) = decide (d = b) from decide_eq_decide.mpr eq_comm]
theorem roomy {A : Around} (hu : Room A) : A.units < cLine := Nat.lt_of_le_of_lt (Nat.le_add_right _ _) hu
section
variable {a b : Value} {x y : V} {k : Bool → Prop} {Q : Value → Shared → Prop} (R : RelH X W H s.heap) (hu : Room A) (ha : VR X W a x) (hb : VR X W b y) (h : ∀ r tk, k r → Q (.bool r) { s with toks := tk })
include R ha hb
theorem ints_ok {k : Int → Int → Prop} (e : need (see H x) fun x => need (see H y) fun y => need (aInt x) fun i => need (aInt y) fun j => k i j) {G : Prop} (g : ∀ i j t u, a = .int i t → b = .int j u → k i j → G) : G :=
  need_e e fun x ex e => need_e e fun y ey e => need_e e fun i ei e => need_e e fun j ej e => ((see_ok R ha ex).toInt ei).elim fun t q => ((see_ok R hb ey).toInt ej).elim fun u q' => g i j t u q q' e
/-- two ints, or two pairs of ints -/
theorem lt_two {e' : Bool} {k : Bool → Prop} (e : need (see H x) fun x => need (see H y) fun y => ltK e' x y k) {G : Prop} (g : ∀ i j t u, a = .int i t → b = .int j u → k (cmpI e' i j) → G)
    (g' : ∀ (p q : Int × Int) l m n n' t u t' u', a = .ref l → b = .ref m → s.heap.get? l = some (prO p.1 p.2 t u n) → s.heap.get? m = some (prO q.1 q.2 t' u' n') → k (prI (cmpI e') e' p.1 p.2 q.1 q.2) → G) : G :=
  need_e e fun x ex e => need_e e fun y ey e => by
    have rx := see_ok R ha ex
    have ry := see_ok R hb ey
    cases x with
    | int i => exact need_e e fun j ej e => (rx.toInt rfl).elim fun t q => (ry.toInt ej).elim fun u q' => g i j t u q q' e
    | tup xs => exact need_e e fun p ep e => need_e e fun q eq e => (pr_of rx ep).elim fun l h => h.elim fun n h => h.elim fun t h => h.elim fun u h => (pr_of ry eq).elim fun m h' => h'.elim fun n' h' => h'.elim fun t' h' => h'.elim fun u' h' => g' p q l m n n' t u t' u' h.1 h'.1 h.2 h'.2 e
    | _ => exact e.elim
include hu h
theorem cmp_ok {op : COp} (e : cmpK H op x y k) : wpAny (model X.prog X.w) A (compareOp (cmpOf op) a b) Q E s := by
  cases op with
  | eq => exact eq_ok R hu ha hb h e
  | ne => exact ne_ok R hu ha hb h e
  | lt => exact lt_two R ha hb e (fun i j t u q q' z => by subst q q'; exact lt_int (h _ s.toks z)) fun p q l m n n' t u t' u' e1 e2 g1 g2 z => by subst e1 e2; exact pair_lt (roomy hu) g1 g2 (h _ s.toks z)
  | le => exact lt_two R ha hb e (fun i j t u q q' z => by subst q q'; exact le_int (h _ s.toks z)) fun p q l m n n' t u t' u' e1 e2 g1 g2 z => by subst e1 e2; exact pair_le (roomy hu) g1 g2 (h _ s.toks z)
  | gt => exact lt_two R hb ha (need_e e fun x ex e => need_e e fun y ey e => need_i ey (need_i ex e)) (fun i j t u q q' z => by subst q q'; exact gt_int (h _ s.toks z)) fun p q l m n n' t u t' u' e1 e2 g1 g2 z => by subst e1 e2; exact pair_gt (roomy hu) g2 g1 (prI_swap (k := cmpI false) ▸ h _ s.toks z)
  | ge => exact lt_two R hb ha (need_e e fun x ex e => need_e e fun y ey e => need_i ey (need_i ex e)) (fun i j t u q q' z => by subst q q'; exact ge_int (h _ s.toks z)) fun p q l m n n' t u t' u' e1 e2 g1 g2 z => by subst e1 e2; exact pair_ge (roomy hu) g2 g1 (prI_swap (k := cmpI true) ▸ h _ s.toks z)
  | isIn => exact (in_ok R hu ha hb e).yes Q h
  | notIn => exact (in_ok (k := fun r => k (!r)) R hu ha hb e).no Q fun r tk z => h _ tk z
  | is => exact (is_ok ha hb e).elim fun r q => wpAny_is_plain q.1 (by rw [q.2.1]; exact h _ s.toks q.2.2)
  | isNot => exact (is_ok (k := fun r => k (!r)) ha hb e).elim fun r q => wpAny_isNot_plain q.1 (by rw [q.2.1]; exact h _ s.toks q.2.2)
end
end
end Mine

end

section
set_option autoImplicit false
set_option linter.all false
set_option genSizeOf false
set_option genInjectivity false
set_option maxRecDepth 100000
namespace Mine
open PySem PySem.W PySem.Calls PyProof.Rows Builtin Builtin.ObjectAttr Builtin.Getset_descriptor

/-- an exception's class, as isinstance asks for it -/
noncomputable def excK (K : Frag) (D : Addr) : Bool := (clsIn K D).isSome && findIn K (.ref D) "__getattribute__" == some (some (.builtin "BaseException.__getattribute__")) && findIn K (.ref D) "__getattr__" == some none
  && findIn K (.ref D) "__class__" == some (some (.builtin "object.__class__")) && mroIn K D (.type "object") == some true && mroIn K D (.type "BaseException") == some true
noncomputable def insK (K : Frag) (D : Addr) : Bool := plainGet K D "__class__" && hasDictIn K D && findIn K (.ref D) "__class__" == some (some (.builtin "object.__class__"))
  && specialIn K (.builtin "object.__class__") "__get__" == some (some (.builtin "getset_descriptor.__get__")) && takesIn K (.builtin "object.__class__") == some true && mroIn K D (.type "object") == some true

section
variable {prog : Program} {w : World} {A : Around} {s : Shared} {E : Value → Shared → Prop} {K : Frag} {x D : Addr} {o : Obj}
theorem exc_get {tp : Value} {R : Result → Shared → Prop} (X : K.In s.heap) (hx : s.heap.get? x = some o) (hc : o.cls = .ref D) (hm : mroIn K D (.type "object") = some true)
    (h : R (.ok (.ret (.ref D))) s) : codeAny (model prog w) A (.call (.builtin "getset_descriptor.__get__") ⟨[.builtin "object.__class__", .ref x, tp], []⟩) R s := by
  obtain ⟨hh, g, dr, t, os⟩ := s
  have L0 : Looks (model prog w) hh (typeOf (.ref x)) (.ref D) := hc ▸ (Looks.ld hx).andThen .now
  have L1 := looks_mroIn (M := model prog w) X hm
  refine codeAny_call_builtin KF.slot_gs.plain KF.entry_gs (KF.slot_gs.check _ _ _ _ _ _ _ _ KF.type_class (KF.args_gs _ _ _) ?_)
  unfold Builtin.«getset_descriptor.__get__» descrGet
  rw [dga_obj]
  refine wpAny_bind (wpAny_pure ?_)
  unfold descrGetter descrCheckInstance descrNameAndClass isInstance
  simp only [KF.owner_class]
  repeat lk
  refine ⟨Code.quiet_builtin _ (by decide +kernel), codeAny_builtin KF.entry_class ?_⟩
  unfold Builtin.«object.__class__» shownTypeOf
  repeat lk
  exact h
theorem exc_entry {tk : Tok} {Q : Fin → Shared → Prop} (X : K.In s.heap) (hx : s.heap.get? x = some o) (hc : o.cls = .ref D) (hk : findIn K (.ref D) "__class__" = some (some (.builtin "object.__class__"))) (hm : mroIn K D (.type "object") = some true) (hq : Q (.done (.ret (.ref D))) s) :
    wpAny (model prog w) A (Builtin.«object.__getattribute__» ⟨[.ref x, .str "__class__" tk], []⟩) Q E s := by
  obtain ⟨h, g, d, t, os⟩ := s
  have hT5 : (⟨h, g, d, t, os⟩ : Shared).TypeIs (.builtin "object.__class__") "getset_descriptor" := PySem.F.typeOf_object_class
  have f5 := PySem.F.typeOf_object_class
  have f6 := PySem.F.slot_gs_get.lookup
  have f7 := PySem.F.slot_gs_set.lookup
  have L1 := looks_findIn (M := model prog w) X hk
  repeat (any_goals (first | assumption | (with_reducible refine wpAny_loadPart_at hx ?_; rw [hc]) | with_reducible refine L1.at ?_ | wp_step))
  refine exc_get X hx hc hm ?_
  repeat (any_goals (first | assumption | wp_step))
theorem exc_check {M : Model} {nameV : Value} {Q : Unit → Shared → Prop} (X : K.In s.heap) (hx : s.heap.get? x = some o) (hc : o.cls = .ref D) (hb : mroIn K D (.type "BaseException") = some true) (hq : Q () s) :
    wpAny M A (checkBuiltinCall "BaseException.__getattribute__" ⟨[.ref x, nameV], []⟩) Q E s := by
  obtain ⟨h, g, d, t, os⟩ := s
  have hk : builtinKind "BaseException.__getattribute__" = some .slot := by decide +kernel
  have hsplit : splitId "BaseException.__getattribute__" = some ("BaseException", "__getattribute__") := by decide +kernel
  have ha := PySem.F.args_bexc_ga (.ref x) nameV
  have L1 := looks_mroIn (M := M) X hb
  simp only [checkBuiltinCall, hk, hsplit]
  refine wpAny_bind ?_
  · unfold isInstance
    repeat (first | (with_reducible refine wpAny_loadPart_at hx ?_; rw [hc]) | (with_reducible refine L1.at ?_) | wp_step)
    exact hq
theorem bexc_plain : plainId "BaseException.__getattribute__" = true := by decide +kernel
theorem exc_ca {Q : Option Value → Shared → Prop} (X : K.In s.heap) (hx : s.heap.get? x = some o) (hc : o.cls = .ref D) (e : excK K D = true) (h : Q (some (.ref D)) { s with toks := s.toks + 1 }) :
    wpAny (model prog w) A (getAttr? (.ref x) "__class__") Q E s := by
  unfold excK at e
  simp only [Bool.and_eq_true, beq_iff_eq] at e
  obtain ⟨⟨⟨⟨⟨e0, e1⟩, e2⟩, e3⟩, e4⟩, e5⟩ := e
  obtain ⟨hh, g, d, t, os⟩ := s
  have L0 : Looks (model prog w) hh (typeOf (.ref x)) (.ref D) := hc ▸ (Looks.ld hx).andThen .now
  have L1 := looks_findIn (M := model prog w) X e1
  have L2 := looks_findIn (M := model prog w) X e2
  have by_ : ∀ {tk : Tok} {Q : Value → Shared → Prop} {E : Value → Shared → Prop}, Q (.ref D) ⟨hh, g, d, t + 1, os⟩ → wpAny (model prog w) A (getAttrBy (.ref x) (.str "__class__" tk) false) Q E ⟨hh, g, d, t + 1, os⟩ := fun hq => by
    have hx2 : (Value.builtin "BaseException.__getattribute__" == Value.builtin "object.__getattribute__") = false := by decide +kernel
    have hx1 : (onTheHeap (Value.ref D) && Value.builtin "BaseException.__getattribute__" == Value.builtin "object.__getattribute__") = false := by rw [hx2]; rfl
    have f3 := PySem.F.attr_ValueError.ga.bind (.ref x)
    unfold getAttrBy
    repeat (any_goals (first | assumption | with_reducible refine L0.at ?_ | with_reducible refine L1.at ?_ | with_reducible refine L2.at ?_ | wp_step))
    refine codeAny_call_builtin bexc_plain PySem.F.entry_bexc_ga (exc_check (s := ⟨hh, g, d, t + 1, os⟩) X hx hc e5 (exc_entry (s := ⟨hh, g, d, t + 1, os⟩) X hx hc e3 e4 ?_))
    repeat (any_goals (first | assumption | wp_step))
  unfold getAttr? getAttrBy?
  repeat (any_goals (first | assumption | with_reducible apply by_ | wp_step))
theorem cls_it {M : Model} {h : Heap} (X : K.In h) (e : (clsIn K D).isSome = true) : Looks M h (isType (.ref D)) true := by
  unfold clsIn at e
  split at e
  · rename_i c' d' cd' sl' ho
    intro A' Q' E' s' k q
    unfold isType loadHead
    exact wpAny_bind (wpAny_loadPart (k _ _ (X _ _ ho)) (wpAny_pure q))
  · cases e
theorem exc_kit (e : excK K D = true) : KitX K (.ref x) (.ref D) (fun h => ∃ o, h.get? x = some o ∧ o.cls = .ref D) where
  ty := fun _ _ _ p => by obtain ⟨o, hx, hc⟩ := p; exact hc ▸ (Looks.ld hx).andThen .now
  it := fun _ _ X _ => cls_it X (by unfold excK at e; simp only [Bool.and_eq_true] at e; exact e.1.1.1.1.1)
  ne := fun h tp dd its n sl X htp => by
    have e0 : (clsIn K D).isSome = true := by unfold excK at e; simp only [Bool.and_eq_true] at e; exact e.1.1.1.1.1
    refine Bool.eq_false_iff.mpr fun q => ?_
    have e : D = tp := Value.ref.inj (beq_iff_eq.mp q)
    subst e
    unfold clsIn at e0
    split at e0
    · rename_i c' d' cd' sl' ho
      have z := (X _ _ ho).symm.trans htp
      cases z
    · cases e0
  ca := fun X p k => by obtain ⟨o, hx, hc⟩ := p; exact exc_ca X hx hc e k
theorem ins_kit {od : Obj} (e : insK K D = true) : KitX K (.ref x) (.ref D) (fun h => InstAt h x o D (some od)) := by
  unfold insK at e
  simp only [Bool.and_eq_true, beq_iff_eq] at e
  exact kitx_own e.1.1.1.1.1 e.1.1.1.1.2 e.1.1.1.2 e.1.1.2 e.1.2 e.2
end

/-- the type of a kind; a class as a value -/
noncomputable def kdT (X : Cx) : Kd → Option Value
  | .none => some (.type "NoneType")
  | .bool => some (.type "bool")
  | .int => some (.type "int")
  | .str => some (.type "str")
  | .list => some (.type "list")
  | .tuple => some (.type "tuple")
  | .inst k => (X.clA k).map .ref
  | .exc k => (X.clA k).map .ref
noncomputable def tVal (X : Cx) : V → Option Value
  | .bt b => some (bval b)
  | .cls j => (X.clA j).map .ref
  | _ => none
/-- what isinstance needs -/
structure IsiK (X : Cx) (K : Frag) : Prop where
  inn : K.In X.hb
  one : ∀ k t b tv cv, isi0 X.P k t = some b → kdT X k = some tv → tVal X t = some cv → kitOne K tv cv = some b
  exc : ∀ k c, X.clA k = some c → X.P.exc k = true → excK K c = true
  ins : ∀ k c cl, X.clA k = some c → X.P.cls k = some cl → insK K c = true

section
variable {X : Cx} {A : Around} {W : Wd} {H : Hp} {s : Shared} {E : Value → Shared → Prop} {K : Frag}
theorem tVal_of {k : Kd} {t : V} {b : Bool} {cv : Value} (e : isi0 X.P k t = some b) (h : VR X W cv t) : tVal X t = some cv := by
  cases h with
  | bt b => rfl
  | cls q => show Option.map _ _ = _; rw [q]; rfl
  | _ => exact nsome e
theorem isi_one {k : Kd} {t : V} {b : Bool} {cv tv : Value} (I : IsiK X K) (e : isi0 X.P k t = some b) (hk : kdT X k = some tv) (h : VR X W cv t) : kitOne K tv cv = some b := I.one k t b tv cv e hk (tVal_of e h)
theorem isi_any {k : Kd} {tv : Value} (I : IsiK X K) (hk : kdT X k = some tv) {vs : List Value} {ts : List V} {b : Bool} (r : VRs X W vs ts) (e : isiL X.P k ts = some b) : kitAny K tv vs = some b :=
  VRs.ind (p := fun vs ts => isiL X.P k ts = some b → kitAny K tv vs = some b) (fun e => e) (fun {v vs x xs} a _ ih e => by
    have e : (match isi0 X.P k x with | some true => some true | some false => isiL X.P k xs | none => none) = some b := e
    show (match kitOne K tv v with | some true => some true | some false => kitAny K tv vs | none => none) = some b
    cases q : isi0 X.P k x with
    | none => rw [q] at e; cases e
    | some c =>
      rw [isi_one I q hk a]
      rw [q] at e
      cases c with
      | true => exact e
      | false => exact ih e) r e
theorem isi_then {v t tv : Value} {k : Kd} {y : V} {b : Bool} {Hh : Heap → Prop} {Q : Value → Shared → Prop} (I : IsiK X K) (R : RelH X W H s.heap) (Z : KitX K v tv Hh) (hh : Hh s.heap) (hk : kdT X k = some tv) (hv : v ≠ .builtin "__main__.__loader__#opaque") (ht : VR X W t y) (e : isi1 X.P k y = some b) (h : ∀ tk, Q (.bool b) { s with toks := tk }) :
    wpAny (model X.prog X.w) A (call (.builtin "isinstance") [v, t]) Q E s := by
  have hin : K.In s.heap := fun x o q => R.bkeep x o (I.inn x o q)
  cases ht with
  | @tup a vs n xs z r q => exact kia_tup Z hin hh (dd := none) (its := vs.toList) (n := n) (sl := #[]) (R.z _ _ z) (isi_any I hk r e) hv h
  | bt bb => exact kia_one Z hin hh (isi_one (W := W) (t := .bt bb) I e hk (.bt bb)) hv h
  | cls q => exact kia_one Z hin hh (isi_one (W := W) (t := .cls _) I e hk (.cls q)) hv h
  | _ => exact nsome e
theorem isi_ok {v t : Value} {x y : V} {k : Bool → Prop} {Q : Value → Shared → Prop} (I : IsiK X K) (R : RelH X W H s.heap) (hv : VR X W v x) (ht : VR X W t y) (e : need (kind H x) fun q => need (isi1 X.P q y) k) (h : ∀ b tk, k b → Q (.bool b) { s with toks := tk }) :
    wpAny (model X.prog X.w) A (call (.builtin "isinstance") [v, t]) Q E s := by
  refine need_e e fun q ek e => need_e e fun b e z => ?_
  have h := fun tk => h b tk z
  cases hv with
  | none => cases ek; exact isi_then I R kitx_none trivial rfl (fun q => nomatch q) ht e h
  | bool c => cases ek; exact isi_then I R kitx_bool trivial rfl (fun q => nomatch q) ht e h
  | int i u => cases ek; exact isi_then I R kitx_int trivial rfl (fun q => nomatch q) ht e h
  | str c u _ _ => cases ek; exact isi_then I R kitx_str trivial rfl (fun q => nomatch q) ht e h
  | tup z r q => cases ek; exact isi_then I R kitx_tuple ⟨_, R.z _ _ z, rfl⟩ rfl (fun q => nomatch q) ht e h
  | lst z r q => cases ek; exact isi_then I R kitx_list ⟨_, R.z _ _ z, rfl⟩ rfl (fun q => nomatch q) ht e h
  | @ref i l hl =>
    have ek : kdC (H.get i) = some q := ek
    cases hg : H.get i with
    | none => rw [hg] at ek; cases ek
    | some c =>
      rw [hg] at ek
      have hcell := R.at_ hg hl
      cases c with
      | list xs => cases ek; obtain ⟨vs, k, hgg, _, _, _⟩ := hcell; exact isi_then I R kitx_list ⟨_, hgg, rfl⟩ rfl (fun q => nomatch q) ht e h
      | dict kvs => cases ek
      | inst k fs =>
        cases ek
        obtain ⟨c, cl, es, n, a, a', o1, o2, _, _, _, _⟩ := hcell
        exact isi_then I R (ins_kit (o := instO c l.2) (od := dictO es n) (I.ins k c cl a a')) ⟨o1, rfl, rfl, o2⟩ (by show Option.map _ _ = _; rw [a]; rfl) (fun q => nomatch q) ht e h
      | exc k =>
        cases ek
        obtain ⟨c, o, vs, a, a', o1, o2, _, _⟩ := hcell
        exact isi_then I R (exc_kit (I.exc k c a a')) ⟨o, o1, o2⟩ (by show Option.map _ _ = _; rw [a]; rfl) (fun q => nomatch q) ht e h
  | _ => cases ek
end
end Mine

end

section
set_option autoImplicit false
set_option linter.all false
set_option genSizeOf false
set_option genInjectivity false
namespace Mine
open PySem PySem.W PySem.Calls PyProof.Rows

section
variable {X : Cx} {A : Around} {W : Wd} {H : Hp} {s : Shared} {E : Value → Shared → Prop}
theorem arr_get {vs : Array Value} {xs : List V} (h : VRs X W vs.toList xs) {k : Nat} {x : V} (e : xs[k]? = some x) : ∃ v, vs[k]? = some v ∧ VR X W v x := (h.get e).imp fun v q => ⟨by rw [← Array.getElem?_toList]; exact q.1, q.2⟩
theorem pyIdx_pos {i : Int} {n k : Nat} (e : pyIdx i n = some k) (h : 0 ≤ i) : k = i.toNat ∧ i < n := by
  unfold pyIdx at e
  rw [if_pos h] at e
  by_cases c : i < n
  · rw [if_pos c] at e; exact ⟨(Option.some.inj e).symm, c⟩
  · rw [if_neg c] at e; cases e
theorem pyIdx_neg {i : Int} {n k : Nat} (e : pyIdx i n = some k) (h : ¬ 0 ≤ i) : k = (i + n).toNat ∧ 0 ≤ i + n := by
  unfold pyIdx at e
  rw [if_neg h] at e
  by_cases c : 0 ≤ i + n
  · rw [if_pos c] at e; exact ⟨(Option.some.inj e).symm, c⟩
  · rw [if_neg c] at e; cases e
theorem pyIdx_seq {i : Int} {n k : Nat} (e : pyIdx i n = some k) : seqIndex? i n = some k := by
  unfold seqIndex?
  by_cases h : 0 ≤ i
  · obtain ⟨rfl, hk⟩ := pyIdx_pos e h
    have : ¬ i < 0 := Int.not_lt.mpr h
    simp [this, h, hk]
  · obtain ⟨rfl, hk⟩ := pyIdx_neg e h
    have h' : i < 0 := Int.not_le.mp h
    have : i + n < n := by omega
    simp_all
theorem pyIdx_63 {i : Int} {n k : Nat} (e : pyIdx i n = some k) (q : n ≤ SZ) : -(2 ^ 63 : Int) ≤ i ∧ i < 2 ^ 63 := by
  have := sz63 q
  by_cases h : 0 ≤ i
  · have := pyIdx_pos e h; omega
  · have := pyIdx_neg e h; omega
theorem sub_tail {o i : Value} {value slice : Expr} {T id : String} {Q : Value → Shared → Prop} (hT : s.TypeIs o T) (hl : typeLookup (.type T) "__getitem__" = pure (some (.builtin id)))
    (h : wpAny (model X.prog X.w) A (getItem o i) Q E s) : wpAny (model X.prog X.w) A (subscriptTail value slice o i) Q E s := by
  unfold subscriptTail
  refine wpAny_bind ?_
  rw [getitemInPython_of_ne hT.not_modules]
  refine wpAny_bind (wpAny_specialOf hT hl ?_)
  have fin : wpAny (model X.prog X.w) A (subscripted slice false o i) (fun r s₃ => wpAny (model X.prog X.w) A (letTemporaryGo value o r >>= fun _ => pure r) Q E s₃) E s := by
    have key : wpAny (model X.prog X.w) A (getItem o i) (fun r s₃ => wpAny (model X.prog X.w) A (letTemporaryGo value o r >>= fun _ => pure r) Q E s₃) E s :=
      wpAny_mono h (fun r s₃ h₃ => wpAny_bind (wpAny_letTemporaryGo (wpAny_pure h₃))) fun _ _ x => x
    unfold subscripted
    split
    · exact wpAny_operating key
    · cases ‹_ = true›
    · exact wpAny_operating key
  first
    | exact wpAny_pure (wpAny_bind fin)
    | exact wpAny_bind (wpAny_pure (wpAny_bind fin))
    | exact wpAny_bind fin
theorem str_one {t : Str} {i c : Nat} (ok : PyData.strOk t = true) (hc : t.cps[i]? = some c) : PyData.strOk ⟨#[c]⟩ = true := by
  have hok : (t.cps.all (· < 0x110000)) = true := ok
  rw [Array.all_eq_true] at hok
  have := hok i (Array.getElem?_eq_some_iff.mp hc).1
  rw [(Array.getElem?_eq_some_iff.mp hc).2] at this
  show ((#[c] : Array Nat).all (· < 0x110000)) = true
  simpa using this
section
variable {a b : Value} {x y : V} {value slice : Expr} {k : V → Prop} {Q : Value → Shared → Prop} (h : ∀ v r tk, VR X W v r → k r → Q v { s with toks := tk })
include h
theorem idxL_ok {l : Addr} {vs : Array Value} {n : Nat} {xs : List V} {i : Int} {t : Tok} (g : s.heap.get? l = some (lstO vs n)) (r : VRs X W vs.toList xs) (q : xs.length ≤ SZ) (e : atK xs i k) : wpAny (model X.prog X.w) A (subscriptTail value slice (.ref l) (.int i t)) Q E s := by
  refine need_e e fun m em e => need_e e fun x ex e => ?_
  obtain ⟨v, hx, hr⟩ := arr_get r ex
  have hf := h v x s.toks hr e
  have z := r.toArr
  have b63 := pyIdx_63 em q
  refine sub_tail ⟨_, g, rfl⟩ list_getitem_lookup ?_
  by_cases h0 : 0 ≤ i
  · obtain ⟨rfl, hk⟩ := pyIdx_pos em h0
    exact wpAny_getItem_list (isList_of g) h0 b63.2 hx hf
  · obtain ⟨rfl, hk⟩ := pyIdx_neg em h0
    exact wpAny_getItem_list_neg (isList_of g) (Int.not_le.mp h0) (by rw [z]; omega) b63.1 (by rw [z]; exact hx) hf
theorem idxD_ok {l : Addr × Addr} {kvs : List (V × V)} (hb : VR X W b y) (g : DicCell X W s.heap l kvs) (e : Nd (keyOk (dKeys kvs) y = true) (need (dGet kvs y) k)) : wpAny (model X.prog X.w) A (subscriptTail value slice (.ref l.1) b) Q E s := by
  obtain ⟨es, d, r, _, ne, _⟩ := g
  refine key_e hb e.1 fun i t ea ex => need_e e.2 fun z ez q => ?_
  subst ea ex
  have v := r.val (i := i)
  rw [ez] at v
  generalize hv : valueAt es i = o at v
  cases v with
  | some hr => exact sub_tail d.typeIs slot_dict_getitem.lookup (wpAny_getItem_of (intKind_is _ _ i t) d.mapOf hv (h _ _ _ hr q))
theorem idx_ok (R : RelH X W H s.heap) (ha : VR X W a x) (hb : VR X W b y) (e : idxH H x y k) : wpAny (model X.prog X.w) A (subscriptTail value slice a b) Q E s := by
  have key : ∀ i, aInt y = some i → ∃ t, b = .int i t := fun i ei => by cases hb <;> first | (cases ei; exact ⟨_, rfl⟩) | cases ei
  cases ha with
  | @ref j l hl =>
    have e : (match H.get j with | some (.list xs) => idxK (.lst xs) y k | some (.dict kvs) => Nd (keyOk (dKeys kvs) y = true) (need (dGet kvs y) k) | _ => False) := e
    cases hc : H.get j with
    | none => rw [hc] at e; exact e.elim
    | some c =>
      rw [hc] at e
      have q := R.at_ hc hl
      cases c with
      | list xs =>
        refine need_e e fun i ei e => (key i ei).elim fun t et => ?_
        subst et
        obtain ⟨vs, n, g, r, _, z⟩ := q
        exact idxL_ok h g r z e
      | dict kvs => exact idxD_ok h hb q e
      | _ => exact e.elim
  | lst z r q => exact need_e e fun i ei e => (key i ei).elim fun t et => by subst et; exact idxL_ok h (R.z _ _ z) r q e
  | @tup l vs n xs z r q =>
    refine need_e e fun i ei e => (key i ei).elim fun t et => need_e e fun m em e => need_e e fun x ex e => ?_
    subst et
    obtain ⟨v, hx, hr⟩ := arr_get r ex
    have b63 := pyIdx_63 em q
    exact sub_tail (isTup_of (R.z _ _ z)).typeIs slot_tuple_getitem.lookup (getItem_tuple (isTup_of (R.z _ _ z)) b63.1 b63.2 (by rw [r.toArr]; exact pyIdx_seq em) hx (h v x s.toks hr e))
  | str t u ok z =>
    refine need_e e fun i ei e => (key i ei).elim fun tk et => ?_
    subst et
    obtain ⟨h0, e⟩ := e
    refine need_e e fun c hc e => ?_
    have hlt : i.toNat < t.cps.size := (Array.getElem?_eq_some_iff.mp hc).1
    have hL : t.length = t.cps.size := rfl
    have pi : pyIdx i t.length = some i.toNat := by unfold pyIdx; rw [if_pos h0, if_pos (by omega)]
    have b63 := pyIdx_63 pi z
    refine sub_tail (typeIs_str s _ _) slot_str_getitem.lookup (PyProof.Rows.getItem_str ?_ ?_ ?_ (c := c))
    · simp; omega
    · rw [pyIdx_seq pi]; exact hc
    · exact h _ _ _ (.str _ _ (str_one ok hc) (by show 1 ≤ SZ; decide)) e
  | _ => exact need_e e fun _ _ e => e.elim
end

/-! slices -/
theorem clamp_eq {x : Int} {n : Nat} (h : 0 ≤ x) : min x (n : Int) = ((min x.toNat n : Nat) : Int) := by omega
theorem max0 {n : Nat} : max 0 (n : Int) = n := Int.max_eq_right (Int.natCast_nonneg n)
theorem take_cut {α : Type} (l : List α) (a b : Nat) : (l.drop (min a l.length)).take (min b l.length - min a l.length) = (l.drop a).take (b - a) := by
  rw [kmk_drop_min]
  by_cases c1 : a ≤ l.length
  · rw [Nat.min_eq_left c1]
    by_cases c2 : b ≤ l.length
    · rw [Nat.min_eq_left c2]
    · rw [Nat.min_eq_right (Nat.le_of_not_le c2), List.take_of_length_le (by rw [List.length_drop]; exact Nat.le_refl _), List.take_of_length_le (by rw [List.length_drop]; exact Nat.sub_le_sub_right (Nat.le_of_not_le c2) _)]
  · rw [List.drop_of_length_le (Nat.le_of_not_le c1), List.take_nil, List.take_nil]
theorem pick_list {vs : Array Value} {xs : List V} (hv : VRs X W vs.toList xs) {lo hi : Option Int} (h1 : notNeg lo = true) (h2 : notNeg hi = true) : VRs X W (slicePick vs lo hi none).toList (slL xs lo hi) := by
  have key : ∀ (a b : Nat), sliceBounds lo hi none vs.size = ((a : Int), (b : Int), 1) → VRs X W (slicePick vs lo hi none).toList ((xs.drop a).take (b - a)) := fun a b e => by
    rw [kmk_pick_nat _ e]
    exact (hv.drop a).take (b - a)
  have z := hv.toArr
  have neg : ∀ {x : Int}, 0 ≤ x → ¬ x < 0 := fun h => Int.not_lt.mpr h
  cases lo with
  | none =>
    cases hi with
    | none =>
      have := key 0 vs.size (by simp [sliceBounds])
      rw [z, Nat.sub_zero, List.drop_zero, List.take_length] at this
      exact this
    | some y =>
      have hy : 0 ≤ y := of_decide_eq_true h2
      have e : sliceBounds none (some y) none vs.size = (((0 : Nat) : Int), ((min y.toNat vs.size : Nat) : Int), 1) := by
        simp only [sliceBounds, Option.getD_none, show (1 : Int) > 0 by decide, if_true, if_neg (neg hy), clamp_eq hy]
        rfl
      have := key _ _ e
      rw [z, Nat.sub_zero, List.drop_zero, kmk_take_min] at this
      exact this
  | some x =>
    have hx : 0 ≤ x := of_decide_eq_true h1
    cases hi with
    | none =>
      have e : sliceBounds (some x) none none vs.size = (((min x.toNat vs.size : Nat) : Int), ((vs.size : Nat) : Int), 1) := by
        simp only [sliceBounds, Option.getD_none, show (1 : Int) > 0 by decide, if_true, if_neg (neg hx), clamp_eq hx, max0]
      have := key _ _ e
      rw [z, kmk_drop_min, List.take_of_length_le (by rw [List.length_drop]; exact Nat.sub_le_sub_left (Nat.min_le_left _ _) _)] at this
      exact this
    | some y =>
      have hy : 0 ≤ y := of_decide_eq_true h2
      have e : sliceBounds (some x) (some y) none vs.size = (((min x.toNat vs.size : Nat) : Int), ((min y.toNat vs.size : Nat) : Int), 1) := by
        simp only [sliceBounds, Option.getD_none, show (1 : Int) > 0 by decide, if_true, if_neg (neg hx), if_neg (neg hy), clamp_eq hx, clamp_eq hy, max0]
      have := key _ _ e
      rw [z, take_cut] at this
      exact this
theorem slL_len (xs : List V) (lo hi : Option Int) : (slL xs lo hi).length ≤ xs.length := by
  cases lo with
  | none =>
    cases hi with
    | none => exact Nat.le_refl _
    | some b => exact List.length_take_le' _ _
  | some a =>
    cases hi with
    | none => rw [show slL xs (some a) none = xs.drop a.toNat from rfl, List.length_drop]; exact Nat.sub_le _ _
    | some b => exact Nat.le_trans (List.length_take_le' _ _) (by rw [List.length_drop]; exact Nat.sub_le _ _)
theorem part_of {v : Value} {o : Option V} {i : Option Int} (hv : VR X W v (o.getD .none)) (e : optI o = some i) : IsPart v i := by
  cases o with
  | none => cases e; cases hv; exact .none
  | some x =>
    cases x with
    | int i => cases e; cases hv; exact .int _ _
    | _ => cases e
abbrev slO (a b c : Value) : Obj := { cls := .type "slice", data := .fields #[a, b, c] }
theorem slT_e {xs ys : List V} {lo hi : Option Int} {G : Prop} (h : slT xs lo hi = some ys) (hn : notNeg hi = true) (g : ∀ j : Nat, lo = none → hi = some (j : Int) → j < xs.length → ys = xs.take j → G) : G := by
  cases lo with
  | some _ => cases h
  | none =>
    cases hi with
    | none => cases h
    | some i =>
      have h : cond (Nat.blt i.toNat xs.length) (some (xs.take i.toNat)) none = some ys := h
      cases q : Nat.blt i.toNat xs.length with
      | false => rw [q] at h; cases h
      | true =>
        rw [q] at h; cases h
        have h0 : 0 ≤ i := of_decide_eq_true hn
        exact g i.toNat rfl (congrArg some (Int.toNat_of_nonneg h0).symm) (Nat.le_of_ble_eq_true q) rfl
section
variable {fz : Bool} {k : LV → Prop} {Q : Value → Shared → Prop} (o : OpQ X fz W H s k Q) (R : RelH X W H s.heap)
include o R
/-- behind a new slice object -/
theorem OpQ.behind {ob : Obj} : OpQ X fz W H { s with heap := s.heap.push ob } k Q ∧ RelH X W H (s.heap.push ob) := by
  have hp : ∀ b o, s.heap.get? b = some o → (s.heap.push ob).get? b = some o := fun _ _ q => Heap.get?_push_of_some _ q
  have S₁ : Stp noPv W H s.heap W H (s.heap.push ob) := .quiet (fun a o q _ => hp a o q) fun a o q => ⟨o, hp a o q⟩
  exact ⟨⟨fun r v' s' W' H' T z q => o.out r v' s' W' H' ⟨S₁.trans T.stp, T.rel, ⟨T.rest.gens, T.rest.drawn, T.rest.os⟩⟩ z q, o.sz⟩, R.quiet (Pv := noPv) (fun a o q _ => hp a o q) fun _ z => z.elim⟩
theorem sl_ok {a vl vu : Value} {x : V} {lo hi : Option Int} {value slice : Expr} (ha : Sn X W s.heap a x) (pl : IsPart vl lo) (pu : IsPart vu hi) (e : slK x lo hi k) :
    wpAny (model X.prog X.w) A (newFields "slice" [vl, vu, .none]) (fun i s₁ => wpAny (model X.prog X.w) A (subscriptTail value slice a i) Q E s₁) E s := by
  obtain ⟨h1, h2, e⟩ := e
  obtain ⟨o₁, R₁⟩ := o.behind R (ob := slO vl vu .none)
  refine wpAny_newObj_type ?_
  cases ha with
  | lst g r q z =>
    have hg₁ := Heap.get?_push_of_some (slO vl vu .none) g
    exact sub_tail (s := { s with heap := s.heap.push (slO vl vu .none) }) ⟨_, hg₁, rfl⟩ list_getitem_lookup
      (wpAny_getItem_list_slice (isList_of hg₁) (Heap.IsSliceOf.new ..) pl pu .none (by simp) (o₁.push (n := 0) R₁ (pick_list r h1 h2) e) (by rw [z]; exact szLine q))
  | @tup l vs n xs g r q z =>
    have hg₁ := Heap.get?_push_of_some (slO vl vu .none) g
    refine need_e e fun ys ey e => slT_e ey h2 fun j e1 e2 hj e3 => ?_
    subst e1 e2 e3
    cases pl
    cases pu with
    | int _ t =>
      refine sub_tail (s := { s with heap := s.heap.push (slO .none (.int j t) .none) }) ⟨_, hg₁, rfl⟩ slot_tuple_getitem.lookup (getItem_tuple_to (isTup_of hg₁) (Heap.IsSliceOf.new ..) (by rw [z]; exact hj) ?_ (by rw [z]; exact szLine q))
      exact o₁.fro (tk := s.toks) R₁ (fun _ _ e => Heap.get?_push_of_some _ e) (push_none _) (Heap.get?_push_size _ rfl) (.tup (n := 0) addZ_self ((r.take j).le (R₁.leZ (push_none _))) (Nat.le_trans (by rw [List.length_take]; exact Nat.min_le_right _ _) q)) e
  | _ => exact e.elim
theorem rev_ok {a : Value} {xs : List V} {t : Tok} {value slice : Expr} (ha : SqL X W s.heap a xs) (e : k (.newList xs.reverse)) :
    wpAny (model X.prog X.w) A (newFields "slice" [.none, .none, .int (-1) t]) (fun i s₁ => wpAny (model X.prog X.w) A (subscriptTail value slice a i) Q E s₁) E s := by
  obtain ⟨l, vs, n, rfl, g, r, q, z⟩ := ha
  obtain ⟨o₁, R₁⟩ := o.behind R (ob := slO .none .none (.int (-1) t))
  refine wpAny_newObj_type ?_
  have hg₁ := Heap.get?_push_of_some (slO .none .none (.int (-1) t)) g
  refine sub_tail (s := { s with heap := s.heap.push (slO .none .none (.int (-1) t)) }) ⟨_, hg₁, rfl⟩ list_getitem_lookup
    (wpAny_getItem_list_slice (isList_of hg₁) (Heap.IsSliceOf.new ..) .none .none (.int (-1) t) (by simp) ?_ (by rw [z]; exact szLine q))
  rw [krv_pick]
  exact o₁.push (n := 0) R₁ r.reverse e
end

/-! built-in functions -/
theorem rngL_get (c : Int) (n : Nat) : ∀ (a : Int) (k : Nat), k < n → (rngL a c n)[k]? = some (.int (a + k * c)) := by
  induction n with
  | zero => intro a k h; exact absurd h (Nat.not_lt_zero _)
  | succ n ih =>
    intro a k h
    cases k with
    | zero => show some (V.int a) = _; rw [Int.natCast_zero, Int.zero_mul, Int.add_zero]
    | succ k =>
      show (rngL (a + c) c n)[k]? = _
      rw [ih (a + c) k (Nat.lt_of_succ_lt_succ h), Int.natCast_succ, Int.add_mul, Int.one_mul, Int.add_assoc, Int.add_comm c]
theorem rngL_length (c : Int) (n : Nat) : ∀ a : Int, (rngL a c n).length = n := by
  induction n with
  | zero => intro a; rfl
  | succ n ih => intro a; exact congrArg (· + 1) (ih (a + c))
theorem VRs.ofGet {vs : List Value} {xs : List V} (hl : vs.length = xs.length) (h : ∀ (k : Nat) (v : Value) (x : V), vs[k]? = some v → xs[k]? = some x → VR X W v x) : VRs X W vs xs := by
  induction vs generalizing xs with
  | nil => cases xs with
    | nil => exact .nil
    | cons => cases hl
  | cons v vs ih => cases xs with
    | nil => cases hl
    | cons x xs => exact .cons (h 0 v x rfl rfl) (ih (Nat.succ.inj hl) fun k v x a b => h (k + 1) v x a b)
theorem rng_small {a b c : Int} (hc : c = 1 ∨ c = -1) (ha : a.natAbs ≤ SZ) (hb : b.natAbs ≤ SZ) : Builtin.Range.small a b c = true := by
  unfold Builtin.Range.small
  rw [rng_size hc]
  unfold SZ at *
  have hn : rngN a b c ≤ 2097152 := by
    unfold rngN
    rcases hc with rfl | rfl
    · simp; omega
    · simp; omega
  have f : ∀ x : Int, x.natAbs ≤ 4194304 → Builtin.Range.rangeFitsLong x = true := fun x hx => by
    unfold Builtin.Range.rangeFitsLong
    simp
    omega
  rw [f a (by omega), f b (by omega), f _ (by omega : ((rngN a b c : Nat) : Int).natAbs ≤ 4194304)]
  rcases hc with rfl | rfl
  · rw [f 1 (by decide)]
    simp only [show (1 : Int) > 0 by decide, if_true, Bool.true_and, Bool.or_eq_true]
    exact .inr (f _ (by omega))
  · rw [f (-1) (by decide)]
    simp only [show ¬ ((-1 : Int) > 0) by decide, if_false, Bool.true_and, Bool.or_eq_true]
    exact .inr (f _ (by omega))
theorem rngN_le {a b c : Int} (ha : a.natAbs ≤ SZ) (hb : b.natAbs ≤ SZ) : rngN a b c ≤ 2 ^ 24 := by
  unfold SZ at *; unfold rngN; split
  · omega
  · split <;> omega
noncomputable def quietB (A : Around) (b : B) : Prop := A.handled = none ∨ b = .len ∨ b = .isinstance
theorem len_ok {v : Value} {x : V} {n : Nat} {fz : Bool} {k : LV → Prop} {Q : Value → Shared → Prop} (o : OpQ X fz W H s k Q) (R : RelH X W H s.heap) (hv : VR X W v x) (e : lenH H x = some n) (h : k (.val (.int n))) : wpAny (model X.prog X.w) A (call (bval .len) [v]) Q E s := by
  have lst : ∀ {l : Addr} {vs : Array Value} {m : Nat} {xs : List V}, s.heap.get? l = some (lstO vs m) → VRs X W vs.toList xs → xs.length ≤ SZ → some xs.length = some n → wpAny (model X.prog X.w) A (call (bval .len) [.ref l]) Q E s := fun {l vs m xs} g r q e => by
    refine call_len_list (isList_of g) (by rw [r.toArr]; exact sz63 q) ?_
    rw [r.toArr, Option.some.inj e]; exact o.val R (.int ..) h
  cases hv with
  | str t u ok z => exact PySem.P.len_str (Int.not_le.mpr (sz63 z)) (by rw [Option.some.inj e]; exact o.val R (.int ..) h)
  | tup z r q =>
    refine len_tuple (isTup_of (R.z _ _ z)) (by rw [r.toArr]; exact sz63 q) ?_
    rw [r.toArr, Option.some.inj e]; exact o.val R (.int ..) h
  | lst z r q => exact lst (R.z _ _ z) r q e
  | @ref i l hl =>
    have e : (match H.get i with | some (.list xs) => some xs.length | some (.dict kvs) => some kvs.length | _ => none) = some n := e
    cases hc : H.get i with
    | none => rw [hc] at e; cases e
    | some c =>
      rw [hc] at e
      have q := R.at_ hc hl
      cases c with
      | list xs => obtain ⟨vs, m, g, r, _, z⟩ := q; exact lst g r z e
      | dict kvs =>
        obtain ⟨es, d, r, _, ne, z⟩ := q
        refine call_len_dict ne d (by rw [r.len]; exact sz63 z) ?_
        rw [r.len, Option.some.inj e]; exact o.val R (.int ..) h
      | _ => cases e
  | _ => cases e
theorem b1_ok {b : B} {v : Value} {x : V} {fz : Bool} {k : LV → Prop} {Q : Value → Shared → Prop} (o : OpQ X fz W H s k Q) (hh : quietB A b) (R : RelH X W H s.heap) (hv : VR X W v x) (e : b1K b (see H x) (lenH H x) k) : wpAny (model X.prog X.w) A (call (bval b) [v]) Q E s := by
  have hq : (b ≠ .len ∧ b ≠ .isinstance) → A.handled = none := fun z => hh.elim id fun q => (q.elim (fun q => absurd q z.1) fun q => absurd q z.2)
  cases b with
  | len => exact need_e e fun n en e => len_ok o R hv en e
  | list =>
    refine need_e e fun y ey e => need_e e fun xs ex e => ?_
    cases see_ok R hv ey with
    | lst g r q z => cases ex; exact call_list_seq _ (.inl rfl) g rfl rfl (fun h' c' hk ha => o.list R r hk (push_none _) ha e) (by rw [z]; exact szLine q)
    | tup g r q z => cases ex; exact call_list_seq _ (.inr rfl) g rfl rfl (fun h' c' hk ha => o.list R r hk (push_none _) ha e) (by rw [z]; exact szLine q)
    | @rng rr a b c t u v z p q hc =>
      cases ex
      refine call_list_range (hq ⟨(nomatch ·), (nomatch ·)⟩) z (rng_small hc p q) (rng_size hc) (rngN_le p q) fun h' tk acc' c' hk ha hacc => ?_
      refine o.list R (vs := acc') (VRs.ofGet ?_ fun k v x e1 e2 => ?_) hk (push_none _) ha e
      · rw [rngL_length, Array.length_toList]; exact hacc.1
      · have hk' : k < rngN a b c := by
          have := (List.getElem?_eq_some_iff.mp e2).1
          rwa [rngL_length] at this
        rw [rngL_get _ _ _ _ hk'] at e2
        cases e2
        obtain ⟨t, q⟩ := hacc.2 k v (by rw [← Array.getElem?_toList]; exact e1)
        rw [q]; exact .int _ _
    | _ => cases ex
  | sorted =>
    refine need_e e fun y ey e => need_e e fun xs ex e => need_e e fun is ei e => ?_
    obtain ⟨l, vs, n, rfl, g, r, q, z⟩ := (see_ok R hv ey).toLst ex
    have I := ints_are r ei
    refine sorted_ints (vs := vs.toList) (by simpa using isList_of g) I (by rw [I.length]; exact e.1) fun out ns' ho hp hs => ?_
    rw [srt_uniq hp hs] at ho
    exact (sortedAll_at s.heap vs.toList out).elim fun c hc => o.list R (of_ints ho) (fun _ _ q => sortedAll_old q) (Heap.get?_none_of_le (Nat.le_succ _)) hc e.2
  | tuple =>
    refine need_e e fun y ey e => need_e e fun xs ex e => ?_
    obtain ⟨l, vs, n, rfl, g, r, q, z⟩ := (see_ok R hv ey).toLst ex
    refine call_tuple_list (isList_of g) (fun h' hk => ?_) (by rw [z]; exact szLine q)
    have hn : s.heap.get? h'.objs.size = none := by
      cases q : s.heap.get? h'.objs.size with
      | none => rfl
      | some o => exact absurd (Heap.lt_size (hk _ _ q)) (Nat.lt_irrefl _)
    exact o.fro (tk := s.toks) R (fun b o e => Heap.get?_push_of_some _ (hk b o e)) hn (Heap.get?_push_size _ rfl) (.tup addZ_self (r.le (R.leZ hn)) q) e
  | int =>
    refine need_e e fun y ey e => need_e e fun c ec e => ?_
    rw [(see_ok R hv ey).toBool ec]
    refine PySem.call_int_bool ?_
    cases c <;> exact o.val R (.int ..) e
  | range => exact need_e e fun y ey e => need_e e fun n en e => ((see_ok R hv ey).toInt en).elim fun t q => q ▸ call_range_1 (o.fro R (fun _ _ e => Heap.get?_push_of_some _ e) (push_none _) (Heap.get?_push_size _ rfl) (.rng addZ_self (by decide) e.1 (.inl rfl)) e.2)
  | _ => exact e.elim
theorem b2_ok {b : B} {v w : Value} {x y : V} {fz : Bool} {k : LV → Prop} {Q : Value → Shared → Prop} (o : OpQ X fz W H s k Q) (hh : quietB A b) (R : RelH X W H s.heap) (h1 : VR X W v x) (h2 : VR X W w y) (e : need (see H x) fun x => need (see H y) fun y => b2K b x y k) : wpAny (model X.prog X.w) A (call (bval b) [v, w]) Q E s := by
  have hq : (b ≠ .len ∧ b ≠ .isinstance) → A.handled = none := fun z => hh.elim id fun q => (q.elim (fun q => absurd q z.1) fun q => absurd q z.2)
  cases b with
  | max =>
    refine ints_ok R h1 h2 e fun i j t u q q' e => ?_
    subst q q'
    refine max_two_ints (hq ⟨(nomatch ·), (nomatch ·)⟩) fun h' tk hk => ?_
    split
    · rename_i c; exact o.more R hk (x := .int (if j > i then j else i)) (by rw [if_pos c]; exact .int _ _) e
    · rename_i c; exact o.more R hk (x := .int (if j > i then j else i)) (by rw [if_neg c]; exact .int _ _) e
  | min =>
    refine ints_ok R h1 h2 e fun i j t u q q' e => ?_
    subst q q'
    refine min_two_ints (hq ⟨(nomatch ·), (nomatch ·)⟩) fun h' tk hk => ?_
    split
    · rename_i c; exact o.more R hk (x := .int (if j < i then j else i)) (by rw [if_pos c]; exact .int _ _) e
    · rename_i c; exact o.more R hk (x := .int (if j < i then j else i)) (by rw [if_neg c]; exact .int _ _) e
  | range =>
    refine ints_ok R h1 h2 e fun i j t u q q' e => ?_
    subst q q'
    exact call_range_2 (o.fro R (fun _ _ e => Heap.get?_push_of_some _ e) (push_none _) (Heap.get?_push_size _ rfl) (.rng addZ_self e.1.1 e.1.2 (.inl rfl)) e.2)
  | _ => exact need_e e fun _ _ e => need_e e fun _ _ e => e.elim
theorem b3_ok {b : B} {u v w : Value} {x y z : V} {fz : Bool} {k : LV → Prop} {Q : Value → Shared → Prop} (o : OpQ X fz W H s k Q) (R : RelH X W H s.heap) (h1 : VR X W u x) (h2 : VR X W v y) (h3 : VR X W w z) (e : need (see H x) fun x => need (see H y) fun y => need (see H z) fun z => b3K b x y z k) : wpAny (model X.prog X.w) A (call (bval b) [u, v, w]) Q E s := by
  cases b with
  | range =>
    refine need_e e fun x ex e => need_e e fun y ey e => need_e e fun z ez e => need_e e fun c ec e => ((see_ok R h3 ez).toInt ec).elim fun t q => need_e e fun i ei e => need_e e fun j ej e => ((see_ok R h1 ex).toInt ei).elim fun t1 q1 => ((see_ok R h2 ey).toInt ej).elim fun t2 q2 => ?_
    subst q q1 q2
    obtain ⟨⟨n1, n2, rfl⟩, e⟩ := e
    exact call_range_3 (by decide) (o.fro R (fun _ _ e => Heap.get?_push_of_some _ e) (push_none _) (Heap.get?_push_size _ rfl) (.rng addZ_self n1 n2 (.inr rfl)) e) (.inl (PyProof.noPylong_small (by decide)))
  | _ => exact need_e e fun _ _ e => need_e e fun _ _ e => need_e e fun _ _ e => e.elim
theorem callB_ok {K : Frag} {b : B} {vs : List Value} {xs : List V} {fz : Bool} {k : LV → Prop} {Q : Value → Shared → Prop} (o : OpQ X fz W H s k Q) (I : IsiK X K) (hh : quietB A b) (R : RelH X W H s.heap) (hv : VRs X W vs xs) (e : callB X.P H b xs k) : wpAny (model X.prog X.w) A (call (bval b) vs) Q E s := by
  cases hv with
  | nil => exact e.elim
  | cons h1 r =>
    cases r with
    | nil => exact b1_ok o hh R h1 e
    | cons h2 r =>
      cases r with
      | nil =>
        refine Br_e e (fun q e => ?_) fun _ e => b2_ok o hh R h1 h2 e
        cases b with
        | isinstance => exact isi_ok I R h1 h2 e fun r tk z => o.val R (.bool _) z
        | _ => cases q
      | cons h3 r =>
        cases r with
        | nil => exact b3_ok o R h1 h2 h3 e
        | cons _ _ => exact e.elim
end
end Mine

end

section
set_option autoImplicit false
set_option linter.all false
set_option genSizeOf false
set_option genInjectivity false
namespace Mine
open PySem

/-! The P-text is the text's: a look, place by place. -/
/-- a scope; hd: no exception is being handled -/
structure Sc where
  sc : Scope
  hd : Bool
/-- what a look is told: the names, the names that may be called while an exception is handled, «append» -/
structure Ck where
  nm : Nat → Str
  qg : Nat → Bool
  ap : Nat
noncomputable def nkNo : NameKind → Nat
  | .local => 1
  | .cell => 2
  | .free => 3
  | .globalImplicit => 4
  | _ => 0
noncomputable def knd (sc : Sc) (x : Str) : Nat := match sc.sc.names.lookup x with
  | some k => nkNo k
  | none => 0
noncomputable def kLoc (sc : Sc) (x : Str) : Bool := Nat.ble 1 (knd sc x) && Nat.ble (knd sc x) 3
noncomputable def kLocal (sc : Sc) (x : Str) : Bool := Nat.beq (knd sc x) 1
noncomputable def kStore (sc : Sc) (x : Str) : Bool := Nat.beq (knd sc x) 1 || Nat.beq (knd sc x) 2
noncomputable def kGlob (sc : Sc) (x : Str) : Bool := Nat.beq (knd sc x) 4
noncomputable def nkOf : Nat → NameKind
  | 1 => .local
  | 2 => .cell
  | 3 => .free
  | _ => .globalImplicit
theorem nk_of {k : NameKind} (h : nkNo k ≠ 0) : k = nkOf (nkNo k) := by cases k <;> first | rfl | exact absurd rfl h
theorem knd_of {sc : Sc} {x : Str} {n : Nat} (h : knd sc x = n) (hn : n ≠ 0) : sc.sc.names.lookup x = some (nkOf n) := by
  have h : (match sc.sc.names.lookup x with | some k => nkNo k | none => 0) = n := h
  cases q : sc.sc.names.lookup x with
  | none => rw [q] at h; exact absurd h.symm hn
  | some k => rw [q] at h; rw [← h, ← nk_of (fun z => hn (h.symm.trans z))]
noncomputable def nDbg (x : Str) : Bool := !(x == ("__debug__" : Str)) && !(x == ("__classdict__" : Str))

/-! a text taken apart -/
structure XU where
  tag : Nat
  a : Expr
  b : Expr
  c : Expr
  l : List Expr
  os : List (Option Expr)
  s : Str
  v : Const
  o : Operator
  u : UnaryOp
  cs : List CmpOp
  bo : BoolOp
  kw : List Keyword
  gs : List Comprehension
  sc : Option Scope
  k : Nat
  o0 : Option Expr
  o1 : Option Expr
  o2 : Option Expr
  p : Pos
noncomputable def X0 (e : Expr) (p : Pos) : XU := ⟨0, e, e, e, [], [], Str.empty, .none, .Add, .Not, [], .And, [], [], none, 0, none, none, none, p⟩
noncomputable def xu (e : Expr) : XU := match e with
  | .Constant v k p => { X0 e p with tag := 1, v := v, k := k }
  | .Name x p => { X0 e p with tag := 2, s := x }
  | .Attribute a x p => { X0 e p with tag := 3, a := a, s := x }
  | .BinOp a o b p => { X0 e p with tag := 4, a := a, o := o, b := b }
  | .UnaryOp u a p => { X0 e p with tag := 5, u := u, a := a }
  | .Compare a cs l p => { X0 e p with tag := 6, a := a, cs := cs, l := l }
  | .BoolOp bo l p => { X0 e p with tag := 7, bo := bo, l := l }
  | .IfExp a b c p => { X0 e p with tag := 8, a := a, b := b, c := c }
  | .List l p => { X0 e p with tag := 9, l := l }
  | .Tuple l k p => { X0 e p with tag := 10, l := l, k := k }
  | .Dict os l p => { X0 e p with tag := 11, os := os, l := l }
  | .Subscript a b p => { X0 e p with tag := 12, a := a, b := b }
  | .Slice o0 o1 o2 p => { X0 e p with tag := 13, o0 := o0, o1 := o1, o2 := o2 }
  | .Call a l kw p => { X0 e p with tag := 14, a := a, l := l, kw := kw }
  | .ListComp a gs sc p => { X0 e p with tag := 15, a := a, gs := gs, sc := some sc }
  | .Lambda _ _ _ p => { X0 e p with tag := 16 }
  | .Set _ _ p => { X0 e p with tag := 17 }
  | .NamedExpr _ _ p => X0 e p
  | .SetComp _ _ _ p => X0 e p
  | .DictComp _ _ _ _ p => X0 e p
  | .GeneratorExp _ _ _ p => X0 e p
  | .Await _ p => X0 e p
  | .Yield _ p => X0 e p
  | .YieldFrom _ p => X0 e p
  | .FormattedValue _ _ _ p => X0 e p
  | .JoinedStr _ p => X0 e p
  | .Starred _ p => X0 e p
noncomputable def scOf (t : XU) : Scope := t.sc.getD ⟨.function, [], false, false, []⟩
/-- the text again -/
noncomputable def backs (t : XU) : List Expr := [t.a, .Constant t.v t.k t.p, .Name t.s t.p, .Attribute t.a t.s t.p, .BinOp t.a t.o t.b t.p, .UnaryOp t.u t.a t.p, .Compare t.a t.cs t.l t.p, .BoolOp t.bo t.l t.p, .IfExp t.a t.b t.c t.p, .List t.l t.p, .Tuple t.l t.k t.p, .Dict t.os t.l t.p, .Subscript t.a t.b t.p, .Slice t.o0 t.o1 t.o2 t.p, .Call t.a t.l t.kw t.p, .ListComp t.a t.gs (scOf t) t.p]
noncomputable def back (t : XU) (n : Nat) : Expr := (backs t)[n]?.getD t.a
theorem xu_ok (e : Expr) : Nat.blt (xu e).tag 16 = true → e = back (xu e) (xu e).tag := by
  cases e <;> first | exact fun _ => rfl | exact fun h => nomatch h
theorem xu_is {e : Expr} {n : Nat} (h : Nat.beq (xu e).tag n = true) (hn : Nat.blt n 16 = true) : e = back (xu e) n := by
  have h := Nat.eq_of_beq_eq_true h
  rw [← h] at hn
  exact (xu_ok e hn).trans (by rw [h])
noncomputable def on {α : Type} (o : Option α) (f : α → Bool) : Bool := match o with
  | some a => f a
  | none => false
noncomputable def chkC (v : V) : Const → Bool
  | .none => isNone v
  | .bool b => on (aBool v) fun c => c == b
  | .int i => on (aInt v) fun c => decide (c = i)
  | .str s => on (aStr v) fun c => decide (c = s) && PyData.strOk s && decide (s.length ≤ SZ)
  | _ => false
noncomputable def notSuper (e : Expr) : Bool := !(Nat.beq (xu e).tag 14 && (xu e).l.isEmpty && (xu e).kw.isEmpty && Nat.beq (xu (xu e).a).tag 2)
noncomputable def uniq : List (Str × NameKind) → Bool
  | [] => true
  | y :: r => r.all (fun z => !(z.1 == y.1)) && uniq r
/-- a comprehension's scope: its own name, names from around, global names -/
noncomputable def chkSc (nm : Nat → Str) (sc : Sc) (sc' : Scope) (ts : List Nat) : Bool := (match sc'.kind with | .function => true | _ => false) && uniq sc'.names &&
  sc'.names.all fun y => match nkNo y.2 with
    | 1 => y.1 == (".0" : Str) || ts.any (fun i => decide (y.1 = nm i))
    | 3 => Nat.beq (knd sc y.1) 2 || Nat.beq (knd sc y.1) 3
    | 4 => true
    | _ => false

inductive A3 (a b c : Bool) : Prop
  | mk (x : a = true) (y : b = true) (z : c = true)
theorem and2 {a b : Bool} (h : (a && b) = true) : a = true ∧ b = true := by cases a <;> cases b <;> first | exact ⟨rfl, rfl⟩ | cases h
/-- what stands behind «and», one by one -/
theorem and_e {a b : Bool} {G : Prop} (h : (a && b) = true) (g : a = true → b = true → G) : G := g (and2 h).1 (and2 h).2
theorem and3_e {a b c : Bool} {G : Prop} (h : (a && b && c) = true) (g : a = true → b = true → c = true → G) : G := and_e h fun h z => and_e h fun x y => g x y z
theorem and4_e {a b c d : Bool} {G : Prop} (h : (a && b && c && d) = true) (g : a = true → b = true → c = true → d = true → G) : G := and_e h fun h u => and3_e h fun x y z => g x y z u
theorem and5_e {a b c d e : Bool} {G : Prop} (h : (a && b && c && d && e) = true) (g : a = true → b = true → c = true → d = true → e = true → G) : G := and_e h fun h v => and4_e h fun x y z u => g x y z u v
theorem and6_e {a b c d e f : Bool} {G : Prop} (h : (a && b && c && d && e && f) = true) (g : a = true → b = true → c = true → d = true → e = true → f = true → G) : G := and_e h fun h w => and5_e h fun x y z u v => g x y z u v w
theorem on_e {α : Type} {o : Option α} {f : α → Bool} {G : Prop} (h : on o f = true) (g : ∀ a, o = some a → f a = true → G) : G := by
  cases o with
  | none => cases h
  | some a => exact g a rfl h
noncomputable def x2 {α : Type} : List α → Option (α × α) | [a, b] => some (a, b) | _ => none
noncomputable def x0 {α : Type} : Option α → Bool | none => true | _ => false
theorem one_ok {α : Type} {l : List α} {a : α} (h : one l = some a) : l = [a] := by
  match l, h with
  | [_], h => cases h; rfl
theorem x2_ok {α : Type} {l : List α} {t : α × α} (h : x2 l = some t) : l = [t.1, t.2] := by
  match l, h with
  | [_, _], h => cases h; rfl
theorem x0_ok {α : Type} {o : Option α} (h : x0 o = true) : o = none := by
  cases o with
  | none => rfl
  | some _ => cases h
theorem head_ok {α : Type} {l : List α} {x : α} (h : l.head? = some x) : l = x :: l.tail := by
  cases l with
  | nil => cases h
  | cons a r => cases h; rfl
theorem empty_ok {α : Type} {l : List α} (h : l.isEmpty = true) : l = [] := by
  cases l with
  | nil => rfl
  | cons a r => cases h
noncomputable def tg (e : Expr) (n : Nat) : Bool := Nat.beq (xu e).tag n
noncomputable def isM1 (e : Expr) : Bool := tg e 5 && decide ((xu e).u = .USub) && tg (xu e).a 1 && decide ((xu (xu e).a).v = .int 1)
/-- «reverse=True» -/
noncomputable def isRv (kw : List Keyword) : Bool := on (one kw) fun k => decide (k.arg = some (Str.ofString "reverse")) && tg k.value 1 && decide ((xu k.value).v = .bool true)
/-- a test that is no «not», no «and», no «or», no «if» -/
noncomputable def plainTest (e : Expr) : Bool := !(tg e 5 && decide ((xu e).u = .Not)) && !tg e 7 && !tg e 8
/-- names to be bound, one by one -/
noncomputable def tgts (nm : Nat → Str) (sc : Sc) : List Nat → List Expr → Bool
  | [], l => l.isEmpty
  | i :: is, l => on l.head? fun t => tg t 2 && decide ((xu t).s = nm i) && kLocal sc (xu t).s && tgts nm sc is l.tail
/-- what is bound: a name, or some in a tuple -/
noncomputable def chkTgt (nm : Nat → Str) (sc : Sc) (ts : List Nat) (t : Expr) : Bool := (tg t 2 && on (one ts) fun j => decide ((xu t).s = nm j) && kLocal sc (xu t).s) || (tg t 10 && Nat.ble 2 ts.length && tgts nm sc ts (xu t).l)
/-- a name that may be called while an exception is handled -/
noncomputable def qGlob (c : Ck) : PE → Bool
  | .glob i => c.qg i
  | _ => false
noncomputable def noKV : PKV → Bool
  | .nil => true
  | _ => false
noncomputable def dcO (a b : Operator) : Bool := decide (a = b)

/-- a global name -/
noncomputable def chkG (c : Ck) (sc : Sc) (i : Nat) (x : Str) : Bool := decide (x = c.nm i) && kGlob sc x && nDbg x
/-- a call of a global name with one thing -/
noncomputable def chk1 (c : Ck) (sc : Sc) (i : Nat) (e : Expr) (f : Expr → Bool) : Bool := tg e 14 && tg (xu e).a 2 && chkG c sc i (xu (xu e).a).s && (xu e).kw.isEmpty && on (one (xu e).l) f
mutual
noncomputable def chkE (c : Ck) (sc : Sc) : PE → Expr → Bool
  | .cst v, e => tg e 1 && chkC v (xu e).v
  | .loc i, e => tg e 2 && decide ((xu e).s = c.nm i) && kLoc sc (xu e).s && nDbg (xu e).s
  | .glob i, e => tg e 2 && decide ((xu e).s = c.nm i) && kGlob sc (xu e).s && nDbg (xu e).s
  | .attr o n, e => tg e 3 && chkE c sc o (xu e).a && decide ((xu e).s = c.nm n) && notSuper (xu e).a
  | .bin _ op l r, e => tg e 4 && decide ((xu e).o = opOf op) && chkE c sc l (xu e).a && chkE c sc r (xu e).b
  | .neg a, e => tg e 5 && decide ((xu e).u = .USub) && chkE c sc a (xu e).a
  | .not a, e => tg e 5 && decide ((xu e).u = .Not) && chkE c sc a (xu e).a
  | .cmp op l r, e => tg e 6 && on (one (xu e).cs) fun o => on (one (xu e).l) fun r' => decide (o = cmpOf op) && chkE c sc l (xu e).a && chkE c sc r r'
  | .cmp2 o₁ o₂ a b d, e => tg e 6 && on (x2 (xu e).cs) fun o => on (x2 (xu e).l) fun r => decide (o.1 = cmpOf o₁) && decide (o.2 = cmpOf o₂) && chkE c sc a (xu e).a && chkE c sc b r.1 && chkE c sc d r.2
  | .and es, e => tg e 7 && decide ((xu e).bo = .And) && chkEs c sc es (xu e).l
  | .or es, e => tg e 7 && decide ((xu e).bo = .Or) && chkEs c sc es (xu e).l
  | .ite d a b, e => tg e 8 && chkT c sc d (xu e).a && chkE c sc a (xu e).b && chkE c sc b (xu e).c
  | .list _ es, e => tg e 9 && chkEs c sc es (xu e).l
  | .tup es, e => tg e 10 && chkEs c sc es (xu e).l
  | .dict kvs, e => tg e 11 && noKV kvs && (xu e).os.isEmpty && (xu e).l.isEmpty
  | .idx a i, e => tg e 12 && chkE c sc a (xu e).a && chkE c sc i (xu e).b
  | .sl _ a lo hi, e => tg e 12 && tg (xu e).b 13 && chkE c sc a (xu e).a && chkO c sc lo (xu (xu e).b).o0 && chkO c sc hi (xu (xu e).b).o1 && x0 (xu (xu e).b).o2
  | .rev _ a, e => tg e 12 && tg (xu e).b 13 && chkE c sc a (xu e).a && x0 (xu (xu e).b).o0 && x0 (xu (xu e).b).o1 && on (xu (xu e).b).o2 isM1
  | .call _ f as, e => tg e 14 && tg (xu e).a 2 && chkE c sc f (xu e).a && chkEs c sc as (xu e).l && (xu e).kw.isEmpty && (sc.hd || qGlob c f)
  | .sortedRev _ i a, e => tg e 14 && tg (xu e).a 2 && (decide ((xu (xu e).a).s = c.nm i) && kGlob sc (xu (xu e).a).s && nDbg (xu (xu e).a).s) && (on (one (xu e).l) fun y => chkE c sc a y) && isRv (xu e).kw && sc.hd
  | .sortedU _ i j a b, e => tg e 14 && sc.hd && chk1 c sc i e fun y => tg y 4 && decide ((xu y).o = .BitOr) && chk1 c sc j (xu y).a (fun z => chkE c sc a z) && chk1 c sc j (xu y).b (fun z => chkE c sc b z)
  | .lenSet _, _ => false
  | .meth _ o n as, e => tg e 14 && tg (xu e).a 3 && chkE c sc o (xu (xu e).a).a && decide ((xu (xu e).a).s = c.nm n) && chkEs c sc as (xu e).l && (notSuper (xu (xu e).a).a && Nat.ble (xu e).l.length 20 && (xu e).kw.isEmpty && Nat.beq (xu (xu e).a).p.endLine (xu e).p.line && (sc.hd || Nat.beq n c.ap))
  | .comp _ elt ts it cond, e => tg e 15 && on (one (xu e).gs) fun g =>
      chkE c ⟨scOf (xu e), true⟩ elt (xu e).a && chkTgt c.nm ⟨scOf (xu e), true⟩ ts g.target && chkE c sc it g.iter && chkIf c ⟨scOf (xu e), true⟩ cond g.ifs && chkSc c.nm sc (scOf (xu e)) ts && (decide (g.is_async = 0) && sc.hd)
noncomputable def chkT (c : Ck) (sc : Sc) : PC → Expr → Bool
  | .not d, e => tg e 5 && decide ((xu e).u = .Not) && chkT c sc d (xu e).a
  | .and cs, e => tg e 7 && decide ((xu e).bo = .And) && chkTs c sc cs (xu e).l
  | .or cs, e => tg e 7 && decide ((xu e).bo = .Or) && chkTs c sc cs (xu e).l
  | .e a, e => plainTest e && chkE c sc a e
noncomputable def chkTs (c : Ck) (sc : Sc) : PCs → List Expr → Bool
  | .nil, l => l.isEmpty
  | .cons d r, l => on l.head? fun x => chkT c sc d x && chkTs c sc r l.tail
noncomputable def chkEs (c : Ck) (sc : Sc) : PEs → List Expr → Bool
  | .nil, l => l.isEmpty
  | .cons e r, l => on l.head? fun x => chkE c sc e x && chkEs c sc r l.tail
noncomputable def chkO (c : Ck) (sc : Sc) : PEo → Option Expr → Bool
  | .none, o => x0 o
  | .some e, o => on o fun x => chkE c sc e x
noncomputable def chkIf (c : Ck) (sc : Sc) : PCo → List Expr → Bool
  | .none, l => l.isEmpty
  | .some d, l => on (one l) fun x => chkT c sc d x
end
/-- only the kinds of expression that are told apart -/
theorem chk_tag {c : Ck} {sc : Sc} {p : PE} {e : Expr} (h : chkE c sc p e = true) : Nat.ble 1 (xu e).tag = true ∧ Nat.ble (xu e).tag 15 = true := by
  have k : ∀ n, tg e n = true → (Nat.ble 1 n && Nat.ble n 15) = true → Nat.ble 1 (xu e).tag = true ∧ Nat.ble (xu e).tag 15 = true := fun n h q => by
    rw [show (xu e).tag = n from Nat.eq_of_beq_eq_true h]; exact and2 q
  cases p with
  | cst _ => exact k 1 (and2 h).1 rfl
  | loc _ => exact and4_e h fun a _ _ _ => k 2 a rfl
  | glob _ => exact and4_e h fun a _ _ _ => k 2 a rfl
  | attr _ _ => exact and4_e h fun a _ _ _ => k 3 a rfl
  | bin _ _ _ _ => exact and4_e h fun a _ _ _ => k 4 a rfl
  | neg _ => exact and3_e h fun a _ _ => k 5 a rfl
  | not _ => exact and3_e h fun a _ _ => k 5 a rfl
  | cmp _ _ _ => exact k 6 (and2 h).1 rfl
  | cmp2 _ _ _ _ _ => exact k 6 (and2 h).1 rfl
  | and _ => exact and3_e h fun a _ _ => k 7 a rfl
  | or _ => exact and3_e h fun a _ _ => k 7 a rfl
  | ite _ _ _ => exact and4_e h fun a _ _ _ => k 8 a rfl
  | list _ _ => exact k 9 (and2 h).1 rfl
  | tup _ => exact k 10 (and2 h).1 rfl
  | dict _ => exact and4_e h fun a _ _ _ => k 11 a rfl
  | idx _ _ => exact and3_e h fun a _ _ => k 12 a rfl
  | sl _ _ _ _ => exact and6_e h fun a _ _ _ _ _ => k 12 a rfl
  | rev _ _ => exact and6_e h fun a _ _ _ _ _ => k 12 a rfl
  | call _ _ _ => exact and6_e h fun a _ _ _ _ _ => k 14 a rfl
  | sortedRev _ _ _ => exact and6_e h fun a _ _ _ _ _ => k 14 a rfl
  | sortedU _ _ _ _ _ => exact and3_e h fun a _ _ => k 14 a rfl
  | meth _ _ _ _ => exact and6_e h fun a _ _ _ _ _ => k 14 a rfl
  | comp _ _ _ _ _ => exact k 15 (and2 h).1 rfl
  | _ => cases h

/-! statements -/
structure SU where
  tag : Nat
  a : Expr
  b : Expr
  l : List Expr
  o : Operator
  o0 : Option Expr
  o1 : Option Expr
  b0 : List Stmt
  b1 : List Stmt
  b2 : List Stmt
  hs : List ExceptHandler
  p : Pos
noncomputable def e0 : Expr := .Name Str.empty ⟨0, 0, 0, 0⟩
noncomputable def S0 (p : Pos) : SU := ⟨0, e0, e0, [], .Add, none, none, [], [], [], [], p⟩
noncomputable def su (s : Stmt) : SU := match s with
  | .Expr a p => { S0 p with tag := 1, a := a }
  | .Pass p => { S0 p with tag := 2 }
  | .Assign l a p => { S0 p with tag := 3, l := l, a := a }
  | .Return o p => { S0 p with tag := 4, o0 := o }
  | .If a b0 b1 p => { S0 p with tag := 5, a := a, b0 := b0, b1 := b1 }
  | .For a b b0 b1 p => { S0 p with tag := 6, a := a, b := b, b0 := b0, b1 := b1 }
  | .Raise o0 o1 p => { S0 p with tag := 7, o0 := o0, o1 := o1 }
  | .Try b0 hs b1 b2 p => { S0 p with tag := 8, b0 := b0, hs := hs, b1 := b1, b2 := b2 }
  | .AugAssign a o b p => { S0 p with tag := 9, a := a, o := o, b := b }
  | .While a b0 b1 p => { S0 p with tag := 10, a := a, b0 := b0, b1 := b1 }
  | _ => S0 ⟨0, 0, 0, 0⟩
noncomputable def sbacks (t : SU) : List Stmt := [.Pass t.p, .Expr t.a t.p, .Pass t.p, .Assign t.l t.a t.p, .Return t.o0 t.p, .If t.a t.b0 t.b1 t.p, .For t.a t.b t.b0 t.b1 t.p, .Raise t.o0 t.o1 t.p, .Try t.b0 t.hs t.b1 t.b2 t.p, .AugAssign t.a t.o t.b t.p, .While t.a t.b0 t.b1 t.p]
noncomputable def sback (t : SU) (n : Nat) : Stmt := (sbacks t)[n]?.getD (.Pass t.p)
theorem su_ok (s : Stmt) : Nat.ble 1 (su s).tag = true → s = sback (su s) (su s).tag := by
  cases s <;> first | exact fun _ => rfl | exact fun h => nomatch h
noncomputable def sg (s : Stmt) (n : Nat) : Bool := Nat.beq (su s).tag n
theorem su_is {s : Stmt} {n : Nat} (h : sg s n = true) (hn : Nat.ble 1 n = true) : s = sback (su s) n := by
  have h := Nat.eq_of_beq_eq_true h
  rw [← h] at hn
  exact (su_ok s hn).trans (by rw [h])
noncomputable def xHd : ExceptHandler → Option Expr × Option Str × List Stmt × Pos | .ExceptHandler a b c p => (a, b, c, p)
theorem xHd_ok (e : ExceptHandler) : e = .ExceptHandler (xHd e).1 (xHd e).2.1 (xHd e).2.2.1 (xHd e).2.2.2 := by cases e; rfl

/-- a name that may be stored -/
noncomputable def chkNm (c : Ck) (sc : Sc) (i : Nat) (e : Expr) : Bool := tg e 2 && decide ((xu e).s = c.nm i) && kStore sc (xu e).s
noncomputable def chkPT1 (c : Ck) (sc : Sc) : PT → Expr → Bool
  | .loc i, e => chkNm c sc i e
  | .attr o n, e => tg e 3 && decide ((xu e).s = c.nm n) && chkE c sc o (xu e).a
  | .idx o i, e => tg e 12 && chkE c sc o (xu e).a && chkE c sc i (xu e).b
  | .tup is, e => tg e 10 && Nat.ble 2 is.length && tgts c.nm sc is (xu e).l && sc.hd
/-- a tuple's names are stored out of no display, out of no comprehension -/
noncomputable def tupOk : PT → Expr → Bool
  | .tup _, x => !tg x 10 && Nat.ble (xu x).tag 14
  | _, _ => true
noncomputable def asOk (c : Ck) (sc : Sc) : Option Nat → Option Str → Bool
  | none, o => x0 o
  | some n, o => on o fun x => decide (x = c.nm n) && kLocal sc x
mutual
noncomputable def chkS (c : Ck) (sc : Sc) : PS → Stmt → Bool
  | .expr e, s => sg s 1 && chkE c sc e (su s).a && tg (su s).a 14
  | .pass, s => sg s 2
  | .assign t e, s => sg s 3 && on (one (su s).l) fun y => chkPT1 c sc t y && chkE c sc e (su s).a && tupOk t (su s).a
  | .augLoc i op e, s => sg s 9 && chkNm c sc i (su s).a && kLoc sc (xu (su s).a).s && nDbg (xu (su s).a).s && decide ((su s).o = opOf op) && chkE c sc e (su s).b
  | .augAttr o n op e, s => sg s 9 && tg (su s).a 3 && decide ((xu (su s).a).s = c.nm n) && decide ((su s).o = opOf op) && chkE c sc o (xu (su s).a).a && chkE c sc e (su s).b
  | .ret e, s => sg s 4 && chkO c sc e (su s).o0
  | .ite d a b, s => sg s 5 && chkT c sc d (su s).a && chkSs c sc a (su s).b0 && chkSs c sc b (su s).b1
  | .loop ts it body, s => sg s 6 && (on (one ts) fun j => chkNm c sc j (su s).a) && chkE c sc it (su s).b && chkSs c sc body (su s).b0 && (su s).b1.isEmpty && sc.hd
  | .loopEnum g _ _ it _, s => sg s 6 && chk1 c sc g (su s).b (fun y => chkE c sc it y) && (su s).b1.isEmpty && sc.hd
  | .while_ d body, s => sg s 10 && chkT c sc d (su s).a && chkSs c sc body (su s).b0 && (su s).b1.isEmpty
  | .raise i e, s => sg s 7 && on (su s).o0 fun x => tg x 14 && tg (xu x).a 2 && on (one (xu x).l) fun a => chkG c sc i (xu (xu x).a).s && chkE c sc e a && (xu x).kw.isEmpty && x0 (su s).o1 && sc.hd
  | .try_ body i as h, s => sg s 8 && on (one (su s).hs) fun g => on (xHd g).1 fun x => tg x 2 && on (xHd g).2.2.1.head? fun _ => chkG c sc i (xu x).s && chkSs c sc body (su s).b0 && chkSs c ⟨sc.sc, false⟩ h (xHd g).2.2.1 && asOk c sc as (xHd g).2.1 && ((su s).b1.isEmpty && (su s).b2.isEmpty) && sc.hd
noncomputable def chkSs (c : Ck) (sc : Sc) : PSs → List Stmt → Bool
  | .nil, l => l.isEmpty
  | .cons s r, l => on l.head? fun x => chkS c sc s x && chkSs c sc r l.tail
end
end Mine

end

section
set_option autoImplicit false
set_option linter.all false
set_option genSizeOf false
set_option genInjectivity false
namespace Mine
open PySem PySem.W PySem.Calls PyProof.Rows

/-- room for n more calls -/
structure AOk (A : Around) (n : Nat) : Prop where
  depth : A.depth + 4 * n + 4 < recursionLimit
  units : A.units + 20 * n + 100 < cLine
/-- the same for a body that calls -/
structure AOk2 (A : Around) (n : Nat) : Prop where
  depth : A.depth + 4 * n + 6 < recursionLimit
  units : A.units + 20 * n + 110 < cLine
theorem AOk2.room {A : Around} {n : Nat} (h : AOk2 A n) : Room A := by have := h.units; unfold Room; omega
theorem AOk2.call {A : Around} {n : Nat} (h : AOk2 A n) : AOk A n := ⟨by have := h.depth; omega, by have := h.units; omega⟩

structure EnvOk (X : Cx) (A : Around) (env : Env) (Pv : Pr) (n : Nat) (sc : Sc) : Prop where
  stk : A.frames = some Pv.st
  top : env.func ≠ none → env.frame ≠ none ∧ ∃ outer, Pv.st = env :: outer
  ok : AOk2 A n
  hh : sc.hd = true → A.handled = none
  kind : env.scope.kind = .function
  glob : env.globals = mainGlobals
  bi : env.builtins = builtinsNs
  names : ∀ x k, sc.sc.names.lookup x = some k → env.kindOf x = some k ∨ (k = .free ∧ env.kindOf x = some .cell)
  cl : ∀ x, env.kindOf x = some .cell ∨ env.kindOf x = some .free → ∃ c, env.cells.lookup x = some c

/-- what the looks are told -/
noncomputable def Cx.ck (X : Cx) : Ck := ⟨X.nm, X.qg, X.P.nAppend⟩

/-- a def of the text's stands in the base heap -/
structure FnAt (X : Cx) (q : Bool) (fn : Fn) (a : Addr) (o : Obj) (fd : FuncData) (body : List Stmt) : Prop where
  at_ : X.hb.get? a = some o
  data : o.data = .func fd
  code : X.hb.CodeRec fd.code fd.qualname
  body_ : fd.body = .stmts body
  bind : ∀ vs : List Value, vs.length = fn.params.length → bindArgs fd ⟨vs, []⟩ = pure ((fn.params.map X.nm).zip vs)
  clo : fd.closure = []
  co : fd.scope.isCoroutine = false
  gen : fd.scope.isGenerator = false
  kind : fd.scope.kind = .function
  glob : fd.globals = mainGlobals
  bi : fd.builtins = builtinsNs
  par : ∀ i ∈ fn.params, kStore ⟨fd.scope, true⟩ (X.nm i) = true
  free : ∀ x ∈ fd.scope.names, x.2 ≠ .free
  chk : chkSs X.ck ⟨fd.scope, true⟩ fn.body body = true
  chkq : q = true → chkSs X.ck ⟨fd.scope, false⟩ fn.body body = true
inductive FnIn (X : Cx) (q : Bool) (fn : Fn) (a : Addr) : Prop
  | mk (o : Obj) (fd : FuncData) (body : List Stmt) (h : FnAt X q fn a o fd body)
inductive FnOb (X : Cx) (a : Addr) : Prop
  | mk (o : Obj) (fd : FuncData) (h : X.hb.get? a = some o) (hd : o.data = .func fd)

/-- the built-in part of the exceptions' line -/
abbrev excB : List Value := [.type "ValueError", .type "Exception", .type "BaseException", .type "object"]
/-- a class of exceptions of the text's -/
inductive ExAt (X : Cx) (j : Nat) (c : Addr) : Prop
  | mk (bm : List Value) (N : Addr) (nm : _) (q : _) (bs : _) (hdct : _) (sn : _) (sub : _) (ab : _) (col : _) (dd : _) (k0 k1 k2 k3 k5 : _) (mN : Str → Option Value) (h1 : X.hb.get? c = some (excClassObj nm q c N bs bm hdct sn sub ab col dd k0 k1 k2 k3 k5 "ValueError.__new__")) (h2 : X.hb.Ns N mN) (h3 : mN "__init__" = none) (h4 : OwnTail X.hb excB bm)
    (h5 : ∀ k ck, X.clA k = some ck → (Value.ref c :: bm).contains (.ref ck) = X.P.sub j k)

/-- a global name's value -/
inductive GlAt (X : Cx) (i : Nat) (v : V) : Prop
  | main (cv : Value) (mg : Str → Option Value) (ng : X.hb.Ns mainGlobals mg) (h : mg (X.nm i) = some cv) (r : ∀ W, VR X W cv v)
  | bi (cv : Value) (mg mb : Str → Option Value) (ng : X.hb.Ns mainGlobals mg) (nb : X.hb.Ns builtinsNs mb) (h : mg (X.nm i) = none) (hb : mb (X.nm i) = some cv) (r : ∀ W, VR X W cv v)
/-- what may be called while an exception is handled -/
inductive Qt (X : Cx) : V → Prop
  | fn {k : Nat} (h : X.quiet k = true) : Qt X (.fn k)
  | len : Qt X (.bt .len)
  | isi : Qt X (.bt .isinstance)

/-- what stands fast -/
structure CxOk (X : Cx) : Prop where
  inj : ∀ i j, X.nm i = X.nm j → i = j
  dot : ∀ i, X.nm i ≠ (".0" : Str)
  noLim : X.hb.NoLimit
  glob : ∀ i v, X.P.glob i = some v → GlAt X i v
  nAppend : X.nm X.P.nAppend = Str.ofString "append"
  nPop : X.nm X.P.nPop = Str.ofString "pop"
  nExtend : X.nm X.P.nExtend = Str.ofString "extend"
  nGet : X.nm X.P.nGet = Str.ofString "get"
  nSetdefault : X.nm X.P.nSetdefault = Str.ofString "setdefault"
  fnAt : ∀ k a, X.fnA k = some a → FnOb X a
  fn : ∀ k a d, X.fnA k = some a → X.P.fn k = some d → FnIn X (X.quiet k) d a
  qg : ∀ i v, X.qg i = true → X.P.glob i = some v → Qt X v
  exc : ∀ k c, X.clA k = some c → X.P.exc k = true → ExAt X k c
  apC : ∀ k cl, X.P.cls k = some cl → lk cl.meths X.P.nAppend = none
  isi : ∃ K, IsiK X K
  main : ∃ o, X.hb.get? mainGlobals = some o

inductive COk (X : Cx) (W : Wd) (H : Hp) (s : Shared) (Q : V → Hp → Prop) (v : Value) (s' : Shared) : Prop
  | mk (W' : Wd) (H' : Hp) (av : V) (t : Tc X W H s W' H' s') (r : VR X W' v av) (h : Q av H')
inductive CEr (X : Cx) (W : Wd) (H : Hp) (s : Shared) (E : Nat → Hp → Prop) (e : Value) (s' : Shared) : Prop
  | mk (W' : Wd) (H' : Hp) (i : Nat) (l : Addr × Addr) (k : Nat) (t : Tc X W H s W' H' s') (he : e = .ref l.1) (hl : W'.φ i = some l) (hk : H'.get i = some (.exc k)) (hf : Fly W' H' s.heap s'.heap l.1) (h : E i H')
noncomputable def CPost (X : Cx) (W : Wd) (H : Hp) (s : Shared) (Q : V → Hp → Prop) (E : Nat → Hp → Prop) (r : Result) (s' : Shared) : Prop := match r with
  | .ok (.ret v) => COk X W H s Q v s'
  | .ok _ => False
  | .error e => CEr X W H s E e s'
/-- the frames around -/
noncomputable def FrsAt (A : Around) (W : Wd) (H : Hp) (h : Heap) : Prop := ∃ l, A.frames = some l ∧ ∀ e ∈ l, FrAt W H h e
noncomputable def CallM (X : Cx) (n : Nat) : Prop := ∀ (A : Around) (k : Nat) (a : Addr) (as : List V) (vs : List Value) (W : Wd) (H : Hp) (s : Shared) (Q : V → Hp → Prop) (E : Nat → Hp → Prop),
  AOk A n → (A.handled = none ∨ X.quiet k = true) → FrsAt A W H s.heap → RelH X W H s.heap → VRs X W vs as → X.fnA k = some a → CW X.P n k as H Q E → codeAny (model X.prog X.w) A (.call (.ref a) ⟨vs, []⟩) (CPost X W H s Q E) s

theorem vNone {v : V} (h : isNone v = true) : v = .none := by cases v <;> first | rfl | cases h
theorem vBool {v : V} {b : Bool} (h : aBool v = some b) : v = .bool b := by cases v <;> first | (cases h; rfl) | cases h
theorem vInt {v : V} {b : Int} (h : aInt v = some b) : v = .int b := by cases v <;> first | (cases h; rfl) | cases h
theorem vStr {v : V} {b : Str} (h : aStr v = some b) : v = .str b := by cases v <;> first | (cases h; rfl) | cases h

section
variable {X : Cx} {n : Nat} {sc : Sc}

noncomputable def SE (X : Cx) (n : Nat) (sc : Sc) (p : PE) (e : Expr) : Prop := ∀ (A : Around) (env : Env) (Pv : Pr) (W : Wd) (σ : St) (s : Shared) (Q : V → St → Prop) (E : EP),
  EnvOk X A env Pv n sc → At X env Pv W σ s → wpE X.P (CW X.P n) E p σ Q → Ew X A env Pv (eval e env) W σ s (VQ X Q) E
noncomputable def BQ (Q : Bool → St → Prop) (b : Bool) (_ : Wd) (σ : St) (_ : Shared) : Prop := Q b σ
noncomputable def ST (X : Cx) (n : Nat) (sc : Sc) (p : PC) (e : Expr) : Prop := ∀ (A : Around) (env : Env) (Pv : Pr) (W : Wd) (σ : St) (s : Shared) (Q : Bool → St → Prop) (E : EP),
  EnvOk X A env Pv n sc → At X env Pv W σ s → wpT X.P (CW X.P n) E p σ Q → Ew X A env Pv (isTrue e env (eval e env)) W σ s (BQ Q) E
inductive VsQ (X : Cx) (Q : List V → St → Prop) (vs : List Value) (W' : Wd) (σ' : St) (s' : Shared) : Prop
  | mk (avs : List V) (r : VRs X W' vs avs) (h : Q avs σ')
noncomputable def SEs (X : Cx) (n : Nat) (sc : Sc) (p : PEs) (es : List Expr) : Prop := ∀ (A : Around) (env : Env) (Pv : Pr) (W : Wd) (σ : St) (s : Shared) (Q : List V → St → Prop) (E : EP),
  EnvOk X A env Pv n sc → At X env Pv W σ s → wpEs X.P (CW X.P n) E p σ Q → Ew X A env Pv (spliced (es.map fun e => (false, eval e env))) W σ s (VsQ X Q) E

section
variable {A : Around} {env : Env} {Pv : Pr} {W : Wd} {σ : St} {s : Shared} {E : EP}

/-- only tokens were drawn -/
theorem At.toks {tk : Nat} (at_ : At X env Pv W σ s) : At X env Pv W σ { s with toks := tk } := ⟨at_.rel, at_.fr⟩
theorem At.tf {tk : Nat} (at_ : At X env Pv W σ s) : Tf X env Pv W σ s W σ { s with toks := tk } := ⟨.refl, at_.toks, ⟨rfl, rfl, rfl⟩⟩
theorem At.fin {α : Type} {R : α → Wd → St → Shared → Prop} {v : α} {tk : Nat} (at_ : At X env Pv W σ s) (h : R v W σ { s with toks := tk }) : Go X env Pv W σ s R v { s with toks := tk } := ⟨W, σ, at_.tf, h⟩
theorem At.val {Q : V → St → Prop} {v : Value} {x : V} {tk : Nat} (at_ : At X env Pv W σ s) (r : VR X W v x) (h : Q x σ) : Go X env Pv W σ s (VQ X Q) v { s with toks := tk } := at_.fin ⟨x, r, h⟩
theorem At.bl {Q : Bool → St → Prop} {b : Bool} {tk : Nat} (at_ : At X env Pv W σ s) (h : Q b σ) : Go X env Pv W σ s (BQ Q) b { s with toks := tk } := at_.fin (R := BQ Q) h
/-- an operation's answer -/
theorem At.op {fz : Bool} {Q : V → St → Prop} (at_ : At X env Pv W σ s) : OpQ X fz W σ.H s (give fz σ Q) (Go X env Pv W σ s (VQ X Q)) where
  sz := fun _ h => h.1
  out := fun r v' s' W' H' T q g => by
    have t := T.tf at_
    cases r with
    | val x => obtain ⟨a, rfl⟩ := q; exact ⟨_, _, t, x, a, g⟩
    | newList xs => cases fz <;> (obtain ⟨a, rfl⟩ := q; exact ⟨_, _, t, _, a, g.2⟩)
theorem VQ.e {Q : V → St → Prop} {v : Value} {G : Prop} (q : VQ X Q v W σ s) (g : ∀ x, VR X W v x → Q x σ → G) : G := by obtain ⟨x, r, h⟩ := q; exact g x r h
theorem VsQ.e {Q : List V → St → Prop} {v : List Value} {G : Prop} (q : VsQ X Q v W σ s) (g : ∀ x, VRs X W v x → Q x σ → G) : G := by obtain ⟨x, r, h⟩ := q; exact g x r h
theorem Go.e {α : Type} {R : α → Wd → St → Shared → Prop} {a : α} {s' : Shared} {G : Prop} (q : Go X env Pv W σ s R a s') (g : ∀ W' σ', Tf X env Pv W σ s W' σ' s' → R a W' σ' s' → G) : G := by obtain ⟨W', σ', t, r⟩ := q; exact g W' σ' t r

theorem SE.bind {β : Type} {p : PE} {e : Expr} {Q : V → St → Prop} {f : Value → Sem β} {R : β → Wd → St → Shared → Prop} (he : SE X n sc p e) (ok : EnvOk X A env Pv n sc) (at_ : At X env Pv W σ s) (hw : wpE X.P (CW X.P n) E p σ Q)
    (g : ∀ v W₁ σ₁ s₁ x, At X env Pv W₁ σ₁ s₁ → Wd.Le W W₁ → VR X W₁ v x → Q x σ₁ → Ew X A env Pv (f v) W₁ σ₁ s₁ R E) : Ew X A env Pv (eval e env >>= f) W σ s R E :=
  Ew.bindT ((he A env Pv W σ s _ E ok at_ hw).mono fun v W₁ σ₁ s₁ _ q at₁ le => q.e fun x r h => g v W₁ σ₁ s₁ x at₁ le r h)
theorem SE.hold {β : Type} {p : PE} {e : Expr} {Q : V → St → Prop} {f : Value → Sem β} {vs : List Value} {R : β → Wd → St → Shared → Prop} (he : SE X n sc p e) (ok : EnvOk X A env Pv n sc) (at_ : At X env Pv W σ s) (hw : wpE X.P (CW X.P n) E p σ Q)
    (g : ∀ v W₁ σ₁ s₁ x, At X env Pv W₁ σ₁ s₁ → Wd.Le W W₁ → VR X W₁ v x → Q x σ₁ → Ew X A env Pv (f v) W₁ σ₁ s₁ R E) : Ew X A env Pv (holding vs (eval e env) >>= f) W σ s R E :=
  Ew.bindT (Ew.holding ((he A env Pv W σ s _ E ok at_ hw).mono fun v W₁ σ₁ s₁ _ q at₁ le => q.e fun x r h => g v W₁ σ₁ s₁ x at₁ le r h))
/-- one after the other -/
theorem SE.two {β : Type} {l r : PE} {l' r' : Expr} {Q : V → V → St → Prop} {f : Value → Value → Sem β} {R : β → Wd → St → Shared → Prop} (hl : SE X n sc l l') (hr : SE X n sc r r') (ok : EnvOk X A env Pv n sc) (at_ : At X env Pv W σ s) (hw : wpE X.P (CW X.P n) E l σ fun x σ₁ => wpE X.P (CW X.P n) E r σ₁ (Q x))
    (g : ∀ a b W₁ σ₁ s₁ x y, At X env Pv W₁ σ₁ s₁ → VR X W₁ a x → VR X W₁ b y → Q x y σ₁ → Ew X A env Pv (f a b) W₁ σ₁ s₁ R E) : Ew X A env Pv (eval l' env >>= fun a => holding [a] (eval r' env) >>= f a) W σ s R E :=
  hl.bind ok at_ hw fun a W₁ σ₁ s₁ x at₁ le hx h₁ => hr.hold ok at₁ h₁ fun b W₂ σ₂ s₂ y at₂ le₂ hy h₂ => g a b W₂ σ₂ s₂ x y at₂ (hx.le le₂) hy h₂

theorem bk (K : CxOk X) (R : RelH X W σ.H s.heap) {a : Addr} {m : Str → Option Value} (h : X.hb.Ns a m) : s.heap.Ns a m := h.keeps R.bkeep

theorem snd_cst {v : V} {c : Const} {k : Nat} {pos : Pos} (hc : chkC v c = true) : SE X n sc (.cst v) (.Constant c k pos) := by
  intro A env Pv W σ s Q E ok at_ h
  show wpAny _ A (constValue env c) _ _ s
  cases c with
  | none => cases vNone hc; exact wpAny_pure (at_.val (tk := s.toks) .none h)
  | bool b => exact on_e (o := aBool v) (f := fun c => c == b) hc fun c e q => by cases vBool e; cases beq_iff_eq.mp q; exact wpAny_pure (at_.val (tk := s.toks) (.bool _) h)
  | int i => exact on_e (o := aInt v) (f := fun c => decide (c = i)) hc fun c e q => by cases vInt e; cases of_decide_eq_true q; exact wpAny_mkInt (at_.val (.int _ _) h)
  | str t => exact on_e (o := aStr v) (f := fun c => decide (c = t) && PyData.strOk t && decide (t.length ≤ SZ)) hc fun c e q => and3_e q fun q1 q2 q3 => by cases vStr e; cases of_decide_eq_true q1; exact wpAny_mkText (at_.val (.str _ _ q2 (of_decide_eq_true q3)) h)
  | _ => cases hc

theorem load_loc {i : Nat} {v : V} {Ex : Value → Shared → Prop} {Q : Value → Shared → Prop} (ok : EnvOk X A env Pv n sc) (at_ : At X env Pv W σ s) (hk : kLoc sc (X.nm i) = true) (hd : nDbg (X.nm i) = true) (ev : σ.loc i = some v)
    (fin : ∀ cv, VR X W cv v → Q cv s) : wpAny (model X.prog X.w) A (loadName env (X.nm i)) Q Ex s := by
  have hd := (and2 hd).2
  have cellc : env.kindOf (X.nm i) = some .cell → wpAny (model X.prog X.w) A (loadName env (X.nm i)) Q Ex s := fun q => by
    obtain ⟨c, cv, a, b, r⟩ := at_.fr.cells i v ev (.inl q)
    exact wpAny_loadName_cell ok.kind q a b (fin cv r)
  have key : ∀ k, sc.sc.names.lookup (X.nm i) = some k → nkNo k ≠ 0 → nkNo k ≠ 4 → wpAny (model X.prog X.w) A (loadName env (X.nm i)) Q Ex s := fun k e h0 h4 => by
    rcases ok.names _ _ e with q | ⟨_, q⟩
    · cases k with
      | «local» =>
        obtain ⟨m, hn, hm⟩ := at_.fr.ns
        obtain ⟨cv, hcv, r⟩ := hm i v ev q
        exact wpAny_loadName_local ok.kind q hn hcv (fin cv r)
      | cell => exact cellc q
      | free =>
        obtain ⟨c, cv, a, b, r⟩ := at_.fr.cells i v ev (.inr q)
        exact wpAny_loadName_free ok.kind q a b (fin cv r) (Bool.not_eq_true' _ ▸ hd)
      | globalExplicit => exact absurd rfl h0
      | globalImplicit => exact absurd rfl h4
    · exact cellc q
  exact and_e hk fun h1 h2 => by
    have h1 := Nat.le_of_ble_eq_true h1
    have h2 := Nat.le_of_ble_eq_true h2
    cases q : sc.sc.names.lookup (X.nm i) with
    | none => have e : knd sc (X.nm i) = 0 := by unfold knd; rw [q]
              rw [e] at h1; exact absurd h1 (by decide)
    | some k => have e : knd sc (X.nm i) = nkNo k := by unfold knd; rw [q]
                rw [e] at h1 h2
                exact key k q (fun z => by rw [z] at h1; exact absurd h1 (by decide)) fun z => by rw [z] at h2; exact absurd h2 (by decide)
theorem dbg_no {x : Str} (h : nDbg x = true) : (x == ("__debug__" : Str)) = false := Bool.not_eq_true' _ ▸ (and2 h).1
theorem snd_loc {i : Nat} {x : Str} {pos : Pos} (hx : x = X.nm i) (hk : kLoc sc x = true) (hd : nDbg x = true) : SE X n sc (.loc i) (.Name x pos) := by
  intro A env Pv W σ s Q E ok at_ h
  subst hx
  exact need_e h fun v ev hq => wpAny_Name (load_loc ok at_ hk hd ev fun cv r => at_.val (tk := s.toks) r hq) (dbg_no hd)

theorem load_glob (K : CxOk X) {i : Nat} {x : Str} {pos : Pos} {v : V} {Ex : Value → Shared → Prop} {Q : Value → Shared → Prop} (ok : EnvOk X A env Pv n sc) (at_ : At X env Pv W σ s) (hx : x = X.nm i) (hk : kGlob sc x = true) (hd : nDbg x = true) (ev : X.P.glob i = some v)
    (fin : ∀ cv, (∀ W, VR X W cv v) → Q cv s) : wpAny (model X.prog X.w) A (eval (.Name x pos) env) Q Ex s := by
  subst hx
  refine wpAny_Name ?_ (dbg_no hd)
  have e := knd_of (Nat.eq_of_beq_eq_true hk) (by decide)
  have q : env.kindOf (X.nm i) = some .globalImplicit := (ok.names _ _ e).elim id fun z => nomatch z.1
  rw [loadName_read ok.kind q]
  cases K.glob i v ev with
  | main cv mg ng hv r => exact loadGlobal_global (by rw [ok.glob]; exact bk K at_.rel ng) hv (fin cv r)
  | bi cv mg mb ng nb hv hb r => exact loadGlobal_builtin (by rw [ok.glob]; exact bk K at_.rel ng) hv (by rw [ok.bi]; exact bk K at_.rel nb) hb (fin cv r)
theorem snd_glob (K : CxOk X) {i : Nat} {x : Str} {pos : Pos} (hx : x = X.nm i) (hk : kGlob sc x = true) (hd : nDbg x = true) : SE X n sc (.glob i) (.Name x pos) :=
  fun A env Pv W σ s Q E ok at_ h => need_e h fun v ev hq => load_glob K ok at_ hx hk hd ev fun cv r => at_.val (tk := s.toks) (r W) hq

theorem wpAny_op {M : Model} {A : Around} {Ex : Value → Shared → Prop} {vs : List Value} {m : Sem Value} {Q : Value → Shared → Prop} (h : wpAny M A m Q Ex s) : wpAny M A (operate vs m) Q Ex s := by
  intro Γ p hΓ
  rw [Sem.wp_operate]; exact h Γ p hΓ
theorem snd_bin {fz : Bool} {op : BOp} {l r : PE} {l' r' : Expr} {pos : Pos} (hl : SE X n sc l l') (hr : SE X n sc r r') : SE X n sc (.bin fz op l r) (.BinOp l' (opOf op) r' pos) := by
  intro A env Pv W σ s Q E ok at_ h
  rw [eval_BinOp]
  exact hl.two hr ok at_ h fun a b W₁ σ₁ s₁ x y at₁ hx hy h₁ => Ew.standAt (Ew.operate (need_e h₁ fun x' ex h₁ => need_e h₁ fun y' ey h₁ => bin_ok at₁.op at₁.rel (see_ok at₁.rel hx ex) (see_ok at₁.rel hy ey) h₁))
theorem aInt_of {v : Value} {x : V} {i : Int} (r : VR X W v x) (e : aInt x = some i) {G : Prop} (g : ∀ t, v = .int i t → G) : G := by
  cases vInt e; cases r with | int i t => exact g t rfl
theorem snd_neg {e : PE} {x : Expr} {pos : Pos} (he : SE X n sc e x) : SE X n sc (.neg e) (.UnaryOp .USub x pos) := fun A env Pv W σ s Q E ok at_ h =>
  he.bind (f := fun v => do standAt pos; holding [v] (unaryOp .USub v)) ok at_ h fun a W₁ σ₁ s₁ y at₁ _ hy h₁ => need_e h₁ fun i ei h₁ => aInt_of hy ei fun t q => by
    subst q; exact Ew.standAt (Ew.holding (neg_int (at₁.val (.int _ _) h₁)))
theorem snd_not {e : PE} {x : Expr} {pos : Pos} (he : SE X n sc e x) : SE X n sc (.not e) (.UnaryOp .Not x pos) := fun A env Pv W σ s Q E ok at_ h =>
  he.bind (f := fun v => do standAt pos; holding [v] (unaryOp .Not v)) ok at_ h fun a W₁ σ₁ s₁ y at₁ _ hy h₁ =>
    Ew.standAt (Ew.holding (not_of (truth_ok (y := y) at₁.rel hy h₁ fun b tk q => at₁.val (.bool _) q)))

/-! comparisons -/
theorem marks_of {op : CmpOp} {e : Expr} (h : Nat.ble (xu e).tag 15 = true) : behindInMarks op e = false := by
  cases e <;> first | rfl | cases h
theorem At.cmp {op : COp} {a b : Value} {x y : V} {k : Bool → Prop} {Q : Value → Shared → Prop} {Ex : Value → Shared → Prop} (at_ : At X env Pv W σ s) (ok : EnvOk X A env Pv n sc) (hx : VR X W a x) (hy : VR X W b y) (h : cmpK σ.H op x y k) (g : ∀ c tk, k c → Q (.bool c) { s with toks := tk }) : wpAny (model X.prog X.w) A (compareOp (cmpOf op) a b) Q Ex s :=
  cmp_ok at_.rel ok.ok.room hx hy g h
theorem snd_cmp {op : COp} {l r : PE} {l' r' : Expr} {pos : Pos} (hl : SE X n sc l l') (hr : SE X n sc r r') (hs : Nat.ble (xu r').tag 15 = true) : SE X n sc (.cmp op l r) (.Compare l' [cmpOf op] [r'] pos) := by
  intro A env Pv W σ s Q E ok at_ h
  rw [eval_Compare1, markedBehindIn_of_false (marks_of hs)]
  exact hl.two hr ok at_ h fun a b W₁ σ₁ s₁ x y at₁ hx hy h₁ => Ew.standAt (Ew.operate (at₁.cmp ok hx hy h₁ fun c tk q => at₁.val (.bool _) q))
theorem snd_cmpT {op : COp} {l r : PE} {l' r' : Expr} {pos : Pos} (hl : SE X n sc l l') (hr : SE X n sc r r') (hs : Nat.ble (xu r').tag 15 = true) : ST X n sc (.e (.cmp op l r)) (.Compare l' [cmpOf op] [r'] pos) := by
  intro A env Pv W σ s Q E ok at_ h
  rw [isTrue_Compare1, markedBehindIn_of_false (marks_of hs)]
  exact hl.two hr ok at_ h fun a b W₁ σ₁ s₁ x y at₁ hx hy h₁ => Ew.standAt (wpAny_bind (wpAny_op (at₁.cmp ok hx hy h₁ fun c tk q => wpAny_holding (wpAny_truthy_bool (at₁.bl q)))))

theorem wpAny_release {M : Model} {A : Around} {E : Value → Shared → Prop} {s : Shared} {vs ks : List Value} {Q : Unit → Shared → Prop} (h : Q () s) : wpAny M A (release vs ks) Q E s := by
  intro Γ p hΓ
  rw [Sem.wp_release]; exact h
/-- the first of two comparisons, then what stands behind it -/
theorem SE.chain {β : Type} {o : COp} {l r : PE} {l' r' : Expr} {pos : Pos} {Q : V → Bool → St → Prop} {f : Value → Sem β} {g : Value → Sem β} {R : β → Wd → St → Shared → Prop} (hl : SE X n sc l l') (hr : SE X n sc r r') (ok : EnvOk X A env Pv n sc) (at_ : At X env Pv W σ s)
    (hw : wpE X.P (CW X.P n) E l σ fun x σ₁ => wpE X.P (CW X.P n) E r σ₁ fun y σ₂ => cmpK σ₂.H o x y fun c => Q y c σ₂)
    (h1 : ∀ b W₁ σ₁ s₁ y, At X env Pv W₁ σ₁ s₁ → VR X W₁ b y → Q y true σ₁ → Ew X A env Pv (f b) W₁ σ₁ s₁ R E) (h2 : ∀ W₁ σ₁ s₁ y, At X env Pv W₁ σ₁ s₁ → Q y false σ₁ → Ew X A env Pv (g (.bool false)) W₁ σ₁ s₁ R E) :
    Ew X A env Pv (eval l' env >>= fun left => holding [left] (eval r' env) >>= fun rv => standAt pos >>= fun _ => holding [left, rv] (compareOp (cmpOf o) left rv) >>= fun c₁ => release [left, rv] [c₁] >>= fun _ => holding [c₁, rv] (truthy c₁) >>= fun t => if t = true then f rv else g c₁) W σ s R E :=
  hl.two hr ok at_ hw fun a b W₁ σ₁ s₁ x y at₁ hx hy h₁ => Ew.standAt (wpAny_bind (wpAny_holding (at₁.cmp ok hx hy h₁ fun c tk q => wpAny_bind (wpAny_release (wpAny_bind (wpAny_holding (wpAny_truthy_bool (Ew.from at₁.tf (by
    cases c with
    | true => exact h1 b W₁ σ₁ _ y at₁.toks hy q
    | false => exact h2 W₁ σ₁ _ y at₁.toks q)))))))))

theorem eval_Compare2 (env : Env) (l : Expr) (o₁ o₂ : CmpOp) (b c : Expr) (pos : Pos) (hc : behindInMarks o₂ c = false) : eval (.Compare l [o₁, o₂] [b, c] pos) env = (eval l env >>= fun left => holding [left] (eval b env) >>= fun rv => standAt pos >>= fun _ => holding [left, rv] (compareOp o₁ left rv) >>= fun c₁ => release [left, rv] [c₁] >>= fun _ => holding [c₁, rv] (truthy c₁) >>= fun t => if t = true then
      (do
      let rw ← holding [rv] (eval c env)
      standAt pos
      operate [rv, rw] (compareOp o₂ rv rw)) else pure c₁) := by
  have : eval (.Compare l [o₁, o₂] [b, c] pos) env = (do compareChain pos (← eval l env) [o₁, o₂] [eval b env, markedBehindIn o₂ c (eval c env)]) := rfl
  rw [this, markedBehindIn_of_false hc]
  rfl
theorem isTrue_Compare2 (env : Env) (l : Expr) (o₁ o₂ : CmpOp) (b c : Expr) (pos : Pos) (t : Sem Value) (hc : behindInMarks o₂ c = false) : isTrue (.Compare l [o₁, o₂] [b, c] pos) env t = (eval l env >>= fun left => holding [left] (eval b env) >>= fun rv => standAt pos >>= fun _ => holding [left, rv] (compareOp o₁ left rv) >>= fun c₁ => release [left, rv] [c₁] >>= fun _ => holding [c₁, rv] (truthy c₁) >>= fun t => if t = true then
      (do
      let rw ← holding [rv] (eval c env)
      standAt pos
      let c₂ ← operate [rv, rw] (compareOp o₂ rv rw)
      holding [c₂] (truthy c₂)) else (fun _ => pure false) c₁) := by
  have : isTrue (.Compare l [o₁, o₂] [b, c] pos) env t = (do testChain pos (← eval l env) [o₁, o₂] [eval b env, markedBehindIn o₂ c (eval c env)]) := rfl
  rw [this, markedBehindIn_of_false hc]
  rfl
theorem snd_cmp2 {o₁ o₂ : COp} {a b c : PE} {a' b' c' : Expr} {pos : Pos} (ha : SE X n sc a a') (hb : SE X n sc b b') (hc : SE X n sc c c') (hs : Nat.ble (xu c').tag 15 = true) : SE X n sc (.cmp2 o₁ o₂ a b c) (.Compare a' [cmpOf o₁, cmpOf o₂] [b', c'] pos) := by
  intro A env Pv W σ s Q E ok at_ h
  rw [eval_Compare2 _ _ _ _ _ _ _ (marks_of hs)]
  exact ha.chain hb ok at_ h (fun v W₁ σ₁ s₁ y at₁ hy q => hc.hold ok at₁ q fun w W₂ σ₂ s₂ z at₂ le hz q => Ew.standAt (Ew.operate (at₂.cmp ok (hy.le le) hz q fun c tk q => at₂.val (.bool _) q))) fun W₁ σ₁ s₁ y at₁ q => Ew.pure at₁ ⟨_, .bool _, q⟩
theorem snd_cmp2T {o₁ o₂ : COp} {a b c : PE} {a' b' c' : Expr} {pos : Pos} (ha : SE X n sc a a') (hb : SE X n sc b b') (hc : SE X n sc c c') (hs : Nat.ble (xu c').tag 15 = true) : ST X n sc (.e (.cmp2 o₁ o₂ a b c)) (.Compare a' [cmpOf o₁, cmpOf o₂] [b', c'] pos) := by
  intro A env Pv W σ s Q E ok at_ h
  rw [isTrue_Compare2 _ _ _ _ _ _ _ _ (marks_of hs)]
  exact ha.chain hb ok at_ h (fun v W₁ σ₁ s₁ y at₁ hy q => hc.hold ok at₁ q fun w W₂ σ₂ s₂ z at₂ le hz q => Ew.standAt (wpAny_bind (wpAny_op (at₂.cmp ok (hy.le le) hz q fun c tk q => wpAny_holding (wpAny_truthy_bool (at₂.bl q)))))) fun W₁ σ₁ s₁ y at₁ q => Ew.pure (R := BQ Q) at₁ q
end
end
end Mine

end

section
set_option autoImplicit false
set_option linter.all false
set_option genSizeOf false
set_option genInjectivity false
namespace Mine
open PySem PySem.W PySem.Calls PyProof.Rows

section
variable {X : Cx} {n : Nat} {sc : Sc}

/-- a test that is any other expression -/
theorem isTrue_plain' {e : Expr} {env : Env} {t : Sem Value} (h : plainTest e = true) (h6 : tg e 6 = false) :
    isTrue e env t = (do let v ← t; standAt e.pos; holding [v] (truthy v)) := by
  cases e with
  | UnaryOp op x p =>
    cases op with
    | Not => cases h
    | _ => rfl
  | Compare _ _ _ _ => cases h6
  | BoolOp _ _ _ => cases h
  | IfExp _ _ _ _ => cases h
  | _ => rfl
theorem snd_T {e : PE} {x : Expr} (he : SE X n sc e x) (h : plainTest x = true) (h6 : tg x 6 = false) : ST X n sc (.e e) x := by
  intro A env Pv W σ s Q E ok at_ hw
  rw [isTrue_plain' h h6]
  exact he.bind ok at_ hw fun a W₁ σ₁ s₁ y at₁ _ hy h₁ => Ew.standAt (Ew.holding (truth_ok (y := y) at₁.rel hy h₁ fun b tk q => at₁.bl q))
theorem ST.bind {β : Type} {A : Around} {env : Env} {Pv : Pr} {W : Wd} {σ : St} {s : Shared} {E : EP} {p : PC} {e : Expr} {Q : Bool → St → Prop} {f : Bool → Sem β} {R : β → Wd → St → Shared → Prop} (he : ST X n sc p e) (ok : EnvOk X A env Pv n sc) (at_ : At X env Pv W σ s) (hw : wpT X.P (CW X.P n) E p σ Q)
    (g : ∀ b W₁ σ₁ s₁, At X env Pv W₁ σ₁ s₁ → Q b σ₁ → Ew X A env Pv (f b) W₁ σ₁ s₁ R E) : Ew X A env Pv (isTrue e env (eval e env) >>= f) W σ s R E :=
  Ew.bindT ((he A env Pv W σ s _ E ok at_ hw).mono fun v W₁ σ₁ s₁ _ q at₁ le => g v W₁ σ₁ s₁ at₁ q)
theorem snd_notT {c : PC} {x : Expr} {pos : Pos} (hc : ST X n sc c x) : ST X n sc (.not c) (.UnaryOp .Not x pos) := fun A env Pv W σ s Q E ok at_ h =>
  hc.bind (f := fun b => pure (!b)) ok at_ h fun b W₁ σ₁ s₁ at₁ h₁ => Ew.pure (R := BQ Q) at₁ h₁

noncomputable def SAll (X : Cx) (n : Nat) (sc : Sc) (p : PCs) (es : List Expr) : Prop := ∀ (A : Around) (env : Env) (Pv : Pr) (W : Wd) (σ : St) (s : Shared) (Q : Bool → St → Prop) (E : EP),
  EnvOk X A env Pv n sc → At X env Pv W σ s → (wpAllT X.P (CW X.P n) E p σ Q → Ew X A env Pv (allTrue .And es env) W σ s (BQ Q) E) ∧ (wpAnyT X.P (CW X.P n) E p σ Q → Ew X A env Pv (allTrue .Or es env) W σ s (BQ Q) E)
theorem snd_all_nil : SAll X n sc .nil [] := fun A env Pv W σ s Q E ok at_ => ⟨fun h => Ew.pure (R := BQ Q) at_ h, fun h => Ew.pure (R := BQ Q) at_ h⟩
theorem snd_all_cons {c : PC} {r : PCs} {x : Expr} {xs : List Expr} (hc : ST X n sc c x) (hr : SAll X n sc r xs) : SAll X n sc (.cons c r) (x :: xs) := fun A env Pv W σ s Q E ok at_ =>
  ⟨fun h => hc.bind (f := fun b => match BoolOp.And, b with | .And, false => pure false | .Or, true => pure true | _, _ => allTrue .And xs env) ok at_ h fun b W₁ σ₁ s₁ at₁ h₁ => by
    cases b with
    | false => exact Ew.pure (R := BQ Q) at₁ h₁
    | true => exact (hr A env Pv W₁ σ₁ s₁ Q E ok at₁).1 h₁,
  fun h => hc.bind (f := fun b => match BoolOp.Or, b with | .And, false => pure false | .Or, true => pure true | _, _ => allTrue .Or xs env) ok at_ h fun b W₁ σ₁ s₁ at₁ h₁ => by
    cases b with
    | true => exact Ew.pure (R := BQ Q) at₁ h₁
    | false => exact (hr A env Pv W₁ σ₁ s₁ Q E ok at₁).2 h₁⟩
theorem snd_andT {cs : PCs} {xs : List Expr} {pos : Pos} (h : SAll X n sc cs xs) : ST X n sc (.and cs) (.BoolOp .And xs pos) := fun A env Pv W σ s Q E ok at_ hw => (h A env Pv W σ s Q E ok at_).1 hw
theorem snd_orT {cs : PCs} {xs : List Expr} {pos : Pos} (h : SAll X n sc cs xs) : ST X n sc (.or cs) (.BoolOp .Or xs pos) := fun A env Pv W σ s Q E ok at_ hw => (h A env Pv W σ s Q E ok at_).2 hw

/-- and, or as values -/
noncomputable def SBool (X : Cx) (n : Nat) (sc : Sc) (p : PEs) (es : List Expr) : Prop := ∀ (A : Around) (env : Env) (Pv : Pr) (W : Wd) (σ : St) (s : Shared) (Q : V → St → Prop) (E : EP) (pos : Pos),
  EnvOk X A env Pv n sc → At X env Pv W σ s → (wpAnd X.P (CW X.P n) E p σ Q → Ew X A env Pv (boolOp pos .And (evalEach es env)) W σ s (VQ X Q) E) ∧
    (wpOr X.P (CW X.P n) E p σ Q → Ew X A env Pv (boolOp pos .Or (evalEach es env)) W σ s (VQ X Q) E)
theorem snd_bool_nil {es : List Expr} : SBool X n sc .nil es := fun A env Pv W σ s Q E pos ok at_ => ⟨fun h => h.elim, fun h => h.elim⟩
theorem snd_bool_one {e : PE} {x : Expr} (he : SE X n sc e x) : SBool X n sc (.cons e .nil) [x] := fun A env Pv W σ s Q E pos ok at_ => ⟨fun h => he A env Pv W σ s Q E ok at_ h, fun h => he A env Pv W σ s Q E ok at_ h⟩
theorem snd_bool_cons {e f : PE} {r : PEs} {x y : Expr} {xs : List Expr} (he : SE X n sc e x) (hr : SBool X n sc (.cons f r) (y :: xs)) : SBool X n sc (.cons e (.cons f r)) (x :: y :: xs) := fun A env Pv W σ s Q E pos ok at_ =>
  ⟨fun h => he.bind (f := fun v => standAt pos >>= fun _ => holding [v] (truthy v) >>= fun t => match BoolOp.And, t with
      | .And, false | .Or, true => pure v
      | _, _ => boolOp pos .And (evalEach (y :: xs) env)) ok at_ h fun v W₁ σ₁ s₁ z at₁ _ hz h₁ => Ew.standAt (wpAny_bind (wpAny_holding (truth_ok (y := z) at₁.rel hz h₁ fun b tk q => Ew.from at₁.tf (by
    cases b with
    | false => exact Ew.pure at₁.toks ⟨z, hz, q⟩
    | true => exact (hr A env Pv W₁ σ₁ _ Q E pos ok at₁.toks).1 q)))),
  fun h => he.bind (f := fun v => standAt pos >>= fun _ => holding [v] (truthy v) >>= fun t => match BoolOp.Or, t with
      | .And, false | .Or, true => pure v
      | _, _ => boolOp pos .Or (evalEach (y :: xs) env)) ok at_ h fun v W₁ σ₁ s₁ z at₁ _ hz h₁ => Ew.standAt (wpAny_bind (wpAny_holding (truth_ok (y := z) at₁.rel hz h₁ fun b tk q => Ew.from at₁.tf (by
    cases b with
    | true => exact Ew.pure at₁.toks ⟨z, hz, q⟩
    | false => exact (hr A env Pv W₁ σ₁ _ Q E pos ok at₁.toks).2 q))))⟩

theorem snd_ite {t : PC} {a b : PE} {t' a' b' : Expr} {pos : Pos} (ht : ST X n sc t t') (ha : SE X n sc a a') (hb : SE X n sc b b') : SE X n sc (.ite t a b) (.IfExp t' a' b' pos) := fun A env Pv W σ s Q E ok at_ h =>
  ht.bind (f := fun c => if c = true then eval a' env else eval b' env) ok at_ h fun c W₁ σ₁ s₁ at₁ h₁ => by
    cases c with
    | true => exact ha A env Pv W₁ σ₁ s₁ Q E ok at₁ h₁
    | false => exact hb A env Pv W₁ σ₁ s₁ Q E ok at₁ h₁

theorem snd_es_nil : SEs X n sc .nil [] := fun A env Pv W σ s Q E ok at_ h => spliced_nil ⟨W, σ, .refl at_, [], .nil, h⟩
theorem snd_es_cons {e : PE} {r : PEs} {x : Expr} {xs : List Expr} (he : SE X n sc e x) (hr : SEs X n sc r xs) : SEs X n sc (.cons e r) (x :: xs) := fun A env Pv W σ s Q E ok at_ h =>
  spliced_cons (wpAny_mono (he A env Pv W σ s _ E ok at_ h) (fun v s₁ q => q.e fun W₁ σ₁ T q => q.e fun z hz h₁ =>
    wpAny_mono (hr A env Pv W₁ σ₁ s₁ _ E ok T.at_ h₁) (fun vs s₂ q => q.e fun W₂ σ₂ T₂ q => q.e fun zs hzs h₂ => ⟨W₂, σ₂, T.trans T₂, z :: zs, .cons (hz.le T₂.stp.le) hzs, h₂⟩) fun _ _ x => x.back T) fun _ _ x => x)

theorem star_one {x : Expr} {env : Env} {xs : List Expr} (h : Nat.ble 1 (xu x).tag = true) : starEach (x :: xs) env = (false, eval x env) :: starEach xs env := by
  cases x <;> first | rfl | cases h
theorem star_plain {c : Ck} {env : Env} {p : PEs} : ∀ {es : List Expr}, chkEs c sc p es = true → starEach es env = es.map fun e => (false, eval e env) :=
  PEs.rec (motive_1 := fun _ => True) (motive_2 := fun p => ∀ {es : List Expr}, chkEs c sc p es = true → starEach es env = es.map fun e => (false, eval e env)) (motive_3 := fun _ => True) (motive_4 := fun _ => True) (motive_5 := fun _ => True) (motive_6 := fun _ => True) (motive_7 := fun _ => True)
    (fun _ => trivial) (fun _ => trivial) (fun _ => trivial) (fun _ _ _ => trivial) (fun _ _ _ _ _ _ => trivial) (fun _ _ => trivial) (fun _ _ => trivial) (fun _ _ _ _ _ => trivial) (fun _ _ _ _ _ _ _ _ => trivial) (fun _ _ => trivial) (fun _ _ => trivial) (fun _ _ _ _ _ _ => trivial) (fun _ _ _ => trivial) (fun _ _ => trivial) (fun _ _ => trivial) (fun _ _ _ _ => trivial) (fun _ _ _ _ _ _ _ => trivial) (fun _ _ _ => trivial) (fun _ _ _ _ _ => trivial) (fun _ _ _ _ => trivial) (fun _ _ _ _ _ _ _ => trivial) (fun _ _ => trivial) (fun _ _ _ _ _ _ => trivial) (fun _ _ _ _ _ _ _ _ => trivial)
    (fun h => by rw [empty_ok h]; rfl)
    (fun e r _ ih es h => on_e h fun x hx h => and_e h fun h1 h2 => by rw [head_ok hx, star_one (chk_tag h1).1, ih h2, List.map_cons])
    trivial (fun _ _ => trivial) trivial (fun _ _ _ _ _ _ => trivial) (fun _ _ => trivial) (fun _ _ => trivial) (fun _ _ => trivial) (fun _ _ => trivial) trivial (fun _ _ _ _ => trivial) trivial (fun _ _ => trivial) p
theorem back_plain {c : Ck} {env : Env} {pos : Pos} {p : PEs} {es : List Expr} (h : chkEs c sc p es = true) : backTo pos (starEach es env) = es.map fun e => (false, eval e env) := by
  rw [star_plain h]
  unfold backTo
  rw [List.map_map]
  rfl

theorem SEs.bind {β : Type} {A : Around} {env : Env} {Pv : Pr} {W : Wd} {σ : St} {s : Shared} {E : EP} {p : PEs} {es : List Expr} {Q : List V → St → Prop} {f : List Value → Sem β} {R : β → Wd → St → Shared → Prop} (he : SEs X n sc p es) (ok : EnvOk X A env Pv n sc) (at_ : At X env Pv W σ s) (hw : wpEs X.P (CW X.P n) E p σ Q)
    (g : ∀ v W₁ σ₁ s₁ x, At X env Pv W₁ σ₁ s₁ → VRs X W₁ v x → Q x σ₁ → Ew X A env Pv (f v) W₁ σ₁ s₁ R E) : Ew X A env Pv (spliced (es.map fun e => (false, eval e env)) >>= f) W σ s R E :=
  Ew.bindT ((he A env Pv W σ s _ E ok at_ hw).mono fun v W₁ σ₁ s₁ _ q at₁ le => q.e fun x r h => g v W₁ σ₁ s₁ x at₁ r h)
theorem size_ok {W : Wd} {vs : List Value} {xs : List V} (hv : VRs X W vs xs) (hz : xs.length ≤ SZ) : vs.toArray.size ≤ sizeLine := by rw [List.size_toArray, hv.length]; exact szLine hz
theorem snd_list {fz : Bool} {c : Ck} {es : PEs} {xs : List Expr} {pos : Pos} (he : SEs X n sc es xs) (hc : chkEs c sc es xs = true) : SE X n sc (.list fz es) (.List xs pos) := by
  intro A env Pv W σ s Q E ok at_ h
  show Ew X A env Pv (standAt pos >>= fun _ => spliced (backTo pos (starEach xs env)) >>= fun vs => newList vs) W σ s _ E
  rw [back_plain hc]
  exact Ew.standAt (he.bind ok at_ h fun vs W₁ σ₁ s₁ zs at₁ hzs h₁ => wpAny_newObj_type (at₁.op.push (n := 0) (vs := vs.toArray) (tk := s₁.toks) at₁.rel hzs h₁) (size_ok hzs h₁.1))
theorem snd_tup {c : Ck} {es : PEs} {xs : List Expr} {k : Nat} {pos : Pos} (he : SEs X n sc es xs) (hc : chkEs c sc es xs = true) : SE X n sc (.tup es) (.Tuple xs k pos) := by
  intro A env Pv W σ s Q E ok at_ h
  show Ew X A env Pv (standAt pos >>= fun _ => spliced (backTo pos (starEach xs env)) >>= fun vs => newTuple vs) W σ s _ E
  rw [back_plain hc]
  exact Ew.standAt (he.bind ok at_ h fun vs W₁ σ₁ s₁ zs at₁ hzs h₁ => wpAny_newObj_type ((at₁.op (fz := true)).fro (x := .tup zs) (ob := tupO vs.toArray 0) (tk := s₁.toks) at₁.rel (fun _ _ e => Heap.get?_push_of_some _ e) (push_none _) (Heap.get?_push_size _ rfl) (.tup addZ_self (hzs.le (at₁.rel.leZ (push_none _))) h₁.1) h₁.2) (size_ok hzs h₁.1))

theorem not_sys (K : CxOk X) {W : Wd} {H : Hp} {s : Shared} (R : RelH X W H s.heap) : (s.heap.objs.size == sysModules) = false := by
  obtain ⟨o, e⟩ := K.main
  have lt : mainGlobals < s.heap.objs.size := Heap.lt_size (R.bkeep _ _ e)
  exact beq_eq_false_iff_ne.mpr fun z => absurd (z ▸ lt : mainGlobals < sysModules) (by decide)
theorem snd_dict0 (K : CxOk X) {pos : Pos} : SE X n sc (.dict .nil) (.Dict [] [] pos) := by
  intro A env Pv W σ s Q E ok at_ h
  rw [eval_Dict_empty]
  refine Ew.standAt (wpAny_newObj_type ?_)
  have hn := push_none s.heap
  obtain ⟨r, t⟩ := at_.rel.fresh (h' := s.heap.push (dictO #[] 0)) (l := (s.heap.objs.size, s.heap.objs.size)) (c := .dict []) (fun _ _ e => Heap.get?_push_of_some _ e) hn hn ⟨[], Heap.DictOf.new s.heap, .nil, rfl, not_sys K at_.rel, Nat.zero_le _⟩
  have T : Tc X W σ.H s _ (σ.H.new (.dict [])) { s with heap := s.heap.push (dictO #[] 0) } := ⟨t, r, ⟨rfl, rfl, rfl⟩⟩
  exact ⟨_, ⟨_, σ.loc⟩, T.tf at_, _, VR.ref (l := (s.heap.objs.size, s.heap.objs.size)) addφ_self, h.2.2⟩

theorem snd_idx {e i : PE} {v x : Expr} {pos : Pos} (he : SE X n sc e v) (hi : SE X n sc i x) : SE X n sc (.idx e i) (.Subscript v x pos) := by
  intro A env Pv W σ s Q E ok at_ h
  rw [eval_Subscript]
  exact he.two hi ok at_ h fun a b W₁ σ₁ s₁ y z at₁ hy hz h₁ => Ew.standAt (idx_ok (fun v r tk q h => at₁.val q h) at₁.rel hy hz h₁)

inductive OQ (X : Cx) (Q : Option V → St → Prop) (v : Value) (W' : Wd) (σ' : St) (s' : Shared) : Prop
  | mk (o : Option V) (r : VR X W' v (o.getD .none)) (h : Q o σ')
noncomputable def SO (X : Cx) (n : Nat) (sc : Sc) (p : PEo) (e : Option Expr) : Prop := ∀ (A : Around) (env : Env) (Pv : Pr) (W : Wd) (σ : St) (s : Shared) (Q : Option V → St → Prop) (E : EP),
  EnvOk X A env Pv n sc → At X env Pv W σ s → wpO X.P (CW X.P n) E p σ Q → Ew X A env Pv (valueOrNone (evalOpt e env)) W σ s (OQ X Q) E
theorem snd_o_none : SO X n sc .none none := fun A env Pv W σ s Q E ok at_ h => Ew.pure at_ ⟨none, .none, h⟩
theorem snd_o_some {e : PE} {x : Expr} (he : SE X n sc e x) : SO X n sc (.some e) (some x) := fun A env Pv W σ s Q E ok at_ h =>
  (he A env Pv W σ s _ E ok at_ h).mono fun v W₁ σ₁ s₁ _ q => q.e fun z hz h₁ => ⟨some z, hz, h₁⟩
theorem OQ.e {Q : Option V → St → Prop} {v : Value} {W : Wd} {σ : St} {s : Shared} {G : Prop} (q : OQ X Q v W σ s) (g : ∀ x, VR X W v (x.getD .none) → Q x σ → G) : G := by obtain ⟨x, r, h⟩ := q; exact g x r h
/-- a slice's bound: an optional expression, seen from where the whole began -/
theorem SO.then {β : Type} {A : Around} {env : Env} {Pv : Pr} {W₀ W : Wd} {σ₀ σ : St} {s₀ s : Shared} {E : EP} {p : PEo} {e : Option Expr} {Q : Option V → St → Prop} {f : Value → Sem β} {vs : List Value} {Ro : β → Shared → Prop} (he : SO X n sc p e) (ok : EnvOk X A env Pv n sc) (T₀ : Tf X env Pv W₀ σ₀ s₀ W σ s) (hw : wpO X.P (CW X.P n) E p σ Q)
    (g : ∀ v W₁ σ₁ s₁ o, Tf X env Pv W₀ σ₀ s₀ W₁ σ₁ s₁ → Wd.Le W W₁ → VR X W₁ v (o.getD .none) → Q o σ₁ → wpAny (model X.prog X.w) A (f v) Ro (EX X env Pv W₀ σ₀ s₀ E) s₁) : wpAny (model X.prog X.w) A (holding vs (valueOrNone (evalOpt e env)) >>= f) Ro (EX X env Pv W₀ σ₀ s₀ E) s :=
  wpAny_bind (wpAny_holding (wpAny_mono (he A env Pv W σ s _ E ok T₀.at_ hw) (fun v s₁ q => q.e fun W₁ σ₁ T q => q.e fun o r h => g v W₁ σ₁ s₁ o (T₀.trans T) T.stp.le r h) fun _ _ x => x.back T₀))
/-- seen from before -/
theorem OpQ.from {A : Around} {env : Env} {Pv : Pr} {W₀ W : Wd} {σ₀ σ : St} {s₀ s : Shared} {fz : Bool} {Q : V → St → Prop} (T : Tf X env Pv W₀ σ₀ s₀ W σ s) : OpQ X fz W σ.H s (give fz σ Q) (Go X env Pv W₀ σ₀ s₀ (VQ X Q)) where
  sz := fun _ h => h.1
  out := fun r v' s' W' H' t q g => ((T.at_.op (fz := fz)).out r v' s' W' H' t q g).e fun W₂ σ₂ T₂ q => ⟨W₂, σ₂, T.trans T₂, q⟩
theorem snd_sl {fz : Bool} {e : PE} {lo hi : PEo} {v : Expr} {l u : Option Expr} {p pos : Pos} (he : SE X n sc e v) (hl : SO X n sc lo l) (hu : SO X n sc hi u) : SE X n sc (.sl fz e lo hi) (.Subscript v (.Slice l u none p) pos) := by
  intro A env Pv W σ s Q E ok at_ h
  rw [eval_Subscript]
  refine he.bind ok at_ h fun a W₁ σ₁ s₁ y at₁ _ hy h₁ => ?_
  show wpAny _ A (holding [a] (valueOrNone (evalOpt l env) >>= fun l => holding [l] (valueOrNone (evalOpt u env)) >>= fun u => holding [l, u] (valueOrNone (evalOpt none env)) >>= fun s => newFields "slice" [l, u, s]) >>= fun i => standAt pos >>= fun _ => subscriptTail v (.Slice l u none p) a i) _ _ s₁
  refine wpAny_bind (wpAny_holding (wpAny_bind (wpAny_mono (hl A env Pv W₁ σ₁ s₁ _ E ok at₁ h₁) (fun b s₂ q => q.e fun W₂ σ₂ T₂ q => q.e fun o₂ hb h₂ => ?_) fun _ _ x => x)))
  refine hu.then ok T₂ h₂ fun c W₃ σ₃ s₃ o₃ T₃ le₃ hc h₃ => wpAny_bind (wpAny_holding (wpAny_pure ?_))
  exact need_e h₃ fun i₁ e₁ h₄ => need_e h₄ fun i₂ e₂ h₅ => need_e h₅ fun x ex hr => wpAny_mono (sl_ok (value := v) (slice := .Slice l u none p) (OpQ.from (A := A) T₃) T₃.at_.rel (see_ok T₃.at_.rel (hy.le T₃.stp.le) ex) (part_of (hb.le le₃) e₁) (part_of hc e₂) hr)
    (fun i s' h' => wpAny_bind (wpAny_standAt h')) fun _ _ x => x
theorem snd_rev {fz : Bool} {e : PE} {v : Expr} {k : Nat} {p q r pos : Pos} (he : SE X n sc e v) : SE X n sc (.rev fz e) (.Subscript v (.Slice none none (some (.UnaryOp .USub (.Constant (.int 1) k p) q)) r) pos) := by
  intro A env Pv W σ s Q E ok at_ h
  rw [eval_Subscript]
  refine he.bind ok at_ h fun a W₁ σ₁ s₁ y at₁ _ hy h₁ => ?_
  show wpAny _ A (holding [a] (valueOrNone (evalOpt none env) >>= fun l => holding [l] (valueOrNone (evalOpt none env)) >>= fun u => holding [l, u] ((mkInt 1 : Sem Value) >>= fun v => standAt q >>= fun _ => holding [v] (unaryOp .USub v)) >>= fun s => newFields "slice" [l, u, s]) >>= fun i => standAt pos >>= fun _ => subscriptTail v (.Slice none none (some (.UnaryOp .USub (.Constant (.int 1) k p) q)) r) a i) _ _ s₁
  refine wpAny_bind (wpAny_holding (wpAny_bind (wpAny_pure (wpAny_bind (wpAny_holding (wpAny_pure (wpAny_bind (wpAny_holding (wpAny_bind (wpAny_mkInt (wpAny_bind (wpAny_standAt (wpAny_holding (neg_int ?_))))))))))))))
  exact need_e h₁ fun x ex h₁ => need_e h₁ fun xs hx hg => wpAny_mono (rev_ok (value := v) (slice := .Slice none none (some (.UnaryOp .USub (.Constant (.int 1) k p) q)) r) (OpQ.from (A := A) (at₁.tf (tk := s₁.toks + 1 + 1))) at₁.rel ((see_ok at₁.rel hy ex).toLst hx) hg)
    (fun i s' h' => wpAny_bind (wpAny_standAt h')) fun _ _ x => x
end
end Mine

end

section
set_option autoImplicit false
set_option linter.all false
set_option genSizeOf false
set_option genInjectivity false
namespace Mine
open PySem PySem.W PySem.Calls PyProof.Rows

section
variable {X : Cx} {n : Nat} {sc : Sc}

theorem evalArgs_all {M : Model} {A : Around} {E : Value → Shared → Prop} {s : Shared} {f : Value} {ts : List (Bool × Sem Value)} {Q : Args → Shared → Prop} (hp : ∀ t ∈ ts, t.1 = false)
    (h : wpAny M A (spliced ts) (fun vs s' => Q ⟨vs, []⟩ s') E s) : wpAny M A (evalArgs f true ts []) Q E s := by
  cases ts with
  | nil => exact wpAny_bind (wpAny_mono h (fun vs s' h' => wpAny_bind (wpAny_pure (wpAny_holding (wpAny_bind (wpAny_pure (wpAny_bind (wpAny_pure (wpAny_pure h'))))))))  fun _ _ x => x)
  | cons t r =>
    obtain ⟨b, x⟩ := t
    cases (hp (b, x) (.head _) : b = false)
    exact evalArgs_plain h

/-- a frozen answer -/
theorem giveV_ok {fz : Bool} {σ : St} {Q : V → St → Prop} {v : Value} {av : V} {W : Wd} {s : Shared} (R : RelH X W σ.H s.heap) (hv : VR X W v av) (g : giveV fz σ Q av) {G : Prop}
    (k : ∀ W' H' av', Tc X W σ.H s W' H' s → VR X W' v av' → Q av' ⟨H', σ.loc⟩ → G) : G := by
  have no : Q av σ → G := fun g => k W σ.H av (.refl R) hv g
  refine Br_e g (fun _ g => ?_) fun _ g => no g
  cases q : aRef av with
  | none => rw [q] at g; exact no g
  | some i =>
    rw [q] at g
    have g : (match cL (σ.H.get i) with | some xs => Q (.lst xs) (σ.setH (σ.H.del i)) | none => Q av σ) := g
    cases q2 : cL (σ.H.get i) with
    | none => rw [q2] at g; exact no g
    | some xs =>
      rw [q2] at g
      refine aRef_e hv q fun l e hl _ => ?_
      obtain ⟨o, r, t, z⟩ := R.freeze (cL_e q2) hl
      exact k _ _ _ ⟨t, r, .refl _⟩ (e ▸ z) g

theorem plain_any {env : Env} {vs : List Expr} : ((vs.map fun e => ((false : Bool), eval e env)).any (·.1)) = false := by
  induction vs with
  | nil => rfl
  | cons x r ih => exact ih
theorem plain_all {env : Env} {vs : List Expr} : ∀ t ∈ (vs.map fun e => ((false : Bool), eval e env)), t.1 = false := fun t ht =>
  (List.mem_map.mp ht).elim fun e q => q.2 ▸ rfl

/-- the arguments, then the call -/
theorem args_then {A : Around} {env : Env} {Pv : Pr} {W : Wd} {σ : St} {s : Shared} {E : EP} {as : PEs} {vs : List Expr} {f : Value} {Qv : List V → St → Prop} {Q : Args → Shared → Prop} (has : SEs X n sc as vs) (ok : EnvOk X A env Pv n sc) (at_ : At X env Pv W σ s) (h : wpEs X.P (CW X.P n) E as σ Qv)
    (hq : ∀ cvs avs W' σ' s', Tf X env Pv W σ s W' σ' s' → VRs X W' cvs avs → Qv avs σ' → Q ⟨cvs, []⟩ s') :
    wpAny (model X.prog X.w) A (evalArgs f true (vs.map fun e => (false, eval e env)) []) Q (EX X env Pv W σ s E) s :=
  evalArgs_all plain_all (wpAny_mono (has A env Pv W σ s _ E ok at_ h) (fun cvs s' q => q.e fun W' σ' T q => q.e fun avs hv h => hq cvs avs W' σ' s' T hv h) fun _ _ x => x)

theorem Go.from {α : Type} {env : Env} {Pv : Pr} {W W' : Wd} {σ σ' : St} {s s' s'' : Shared} {R : α → Wd → St → Shared → Prop} {a : α} (T : Tf X env Pv W σ s W' σ' s') (q : Go X env Pv W' σ' s' R a s'') : Go X env Pv W σ s R a s'' := q.e fun W₂ σ₂ T₂ r => ⟨W₂, σ₂, T.trans T₂, r⟩
/-- a call of a def of the text's -/
theorem fn_call (hK : CallM X n) {A : Around} {env : Env} {Pv : Pr} {W W₀ : Wd} {σ σ₀ : St} {s s₀ : Shared} {E : EP} {fz : Bool} {k : Nat} {a : Addr} {cvs : List Value} {avs : List V} {Q : V → St → Prop} (T₀ : Tf X env Pv W₀ σ₀ s₀ W σ s) (ok : AOk A n) (hq : A.handled = none ∨ X.quiet k = true) (hst : A.frames = some Pv.st) (hv : VRs X W cvs avs) (ha : X.fnA k = some a)
    (h : CW X.P n k avs σ.H (fun v H => giveV fz (σ.setH H) Q v) (fun e H => E e (σ.setH H))) :
    wpAny (model X.prog X.w) A (call (.ref a) cvs []) (Go X env Pv W₀ σ₀ s₀ (VQ X Q)) (EX X env Pv W₀ σ₀ s₀ E) s := by
  refine wpAny_call (codeAny_mono (hK A k a avs cvs W σ.H s _ _ ok hq ⟨_, hst, T₀.at_.fr.frs⟩ T₀.at_.rel hv ha h) fun r s' hr => ?_)
  cases r with
  | ok fl =>
    cases fl with
    | ret v =>
      obtain ⟨W', H', av, T, hv', g⟩ := hr
      exact giveV_ok (σ := σ.setH H') T.rel hv' g fun W₂ H₂ av₂ T₂ hv₂ hq => ⟨W₂, ⟨H₂, σ.loc⟩, T₀.trans ((T.trans T₂).tf T₀.at_), av₂, hv₂, hq⟩
    | _ => exact hr.elim
  | error e =>
    obtain ⟨W', H', i, l, k, T, he, hl, hg, hf, hE⟩ := hr
    exact EX.back T₀ ⟨W', ⟨H', σ.loc⟩, i, l, k, T.tf T₀.at_, he, hl, hg, hf, hE⟩

inductive BvC (b : B) : Prop
  | ty (T : String) (e : bval b = .type T)
  | fn (id : String) (e : bval b = .builtin id)
theorem bval_cases (b : B) : BvC b := by
  cases b <;> first | exact .ty _ rfl | exact .fn _ rfl

theorem callW_fail {A : Around} {M : Model} {E : Value → Shared → Prop} {s : Shared} {pos : Pos} {f : Value} {first : List Value} {args : List (Bool × Sem Value)} {Q : Value → Shared → Prop} (h : wpAny M A (evalArgs f true args []) (fun _ _ => False) E s) :
    wpAny M A (callWith pos f first args []) Q E s := by
  unfold callWith
  exact wpAny_bind (wpAny_holding (wpAny_mono h (fun _ _ h₁ => h₁.elim) fun _ _ x => x))

theorem eval_Call_Name (x : Str) (p : Pos) (args : List Expr) (pos : Pos) (env : Env) : eval (.Call (.Name x p) args [] pos) env = (eval (.Name x p) env >>= fun f => callWith pos f [] (backTo pos (starEach args env)) []) := rfl

/-- what may be called -/
theorem callee_e {W : Wd} {cf : Value} {g : V} {P : Prog} {K : CT} {E : EP} {fz : Bool} {Q : V → St → Prop} {G : Prop} (hg : VR X W cf g) (hb : ∀ b, g = .bt b → cf = bval b → G) (hf : ∀ k a, g = .fn k → cf = .ref a → X.fnA k = some a → G) (hc : ∀ k a, g = .cls k → cf = .ref a → X.clA k = some a → G)
    (no : (∀ σ as, callF P K E fz σ g as Q → False) → G) : G := by
  cases hg with
  | bt b => exact hb b rfl rfl
  | fn ha => exact hf _ _ rfl rfl ha
  | cls ha => exact hc _ _ rfl rfl ha
  | _ => exact no fun _ _ q => q
/-- may be called now -/
noncomputable def MayQ (X : Cx) (A : Around) (g : V) : Prop := A.handled = none ∨ Qt X g
theorem MayQ.bt {A : Around} {b : B} (h : MayQ X A (.bt b)) : quietB A b := by
  cases h with
  | inl q => exact .inl q
  | inr q => cases q with
    | len => exact .inr (.inl rfl)
    | isi => exact .inr (.inr rfl)
theorem MayQ.fn {A : Around} {k : Nat} (h : MayQ X A (.fn k)) : A.handled = none ∨ X.quiet k = true := h.imp id fun q => by cases q; assumption

theorem call_rest (K : CxOk X) (hK : CallM X n) {A : Around} {env : Env} {Pv : Pr} {W : Wd} {σ : St} {s : Shared} {E : EP} {Q : V → St → Prop} {fz : Bool} {as : PEs} {vs : List Expr} {pos : Pos} {cf : Value} {g : V} (ok : EnvOk X A env Pv n sc) (at₁ : At X env Pv W σ s) (has : SEs X n sc as vs) (hg : VR X W cf g) (hq : MayQ X A g)
    (h₁ : wpEs X.P (CW X.P n) E as σ fun vs σ₂ => callF X.P (CW X.P n) E fz σ₂ g vs Q)
    (hcls : ∀ k a, g = .cls k → cf = .ref a → X.clA k = some a → Ew X A env Pv (callWith pos cf [] (vs.map fun e => (false, eval e env)) []) W σ s (VQ X Q) E) : Ew X A env Pv (callWith pos cf [] (vs.map fun e => (false, eval e env)) []) W σ s (VQ X Q) E := by
  refine callee_e (P := X.P) (K := CW X.P n) (E := E) (fz := fz) (Q := Q) hg (fun b e e' => ?_) (fun k a e e' ha => ?_) hcls fun hb => callW_fail (args_then has ok at₁ h₁ fun cvs avs W' σ' s' T hv hq => hb _ _ hq)
  · subst e e'
    have key : ∀ cvs avs W' σ' s', Tf X env Pv W σ s W' σ' s' → VRs X W' cvs avs → callF X.P (CW X.P n) E fz σ' (.bt b) avs Q →
        wpAny (model X.prog X.w) A (call (bval b) cvs []) (Go X env Pv W σ s (VQ X Q)) (EX X env Pv W σ s E) s' := fun cvs avs W' σ' s' T hv hq' =>
      K.isi.elim fun _ I => callB_ok (OpQ.from (A := A) T) I hq.bt T.at_.rel hv hq'
    cases bval_cases b with
    | ty T e => rw [e] at key ⊢; exact PyProof.Rows.callWith_type plain_any (args_then has ok at₁ h₁ key)
    | fn id e => rw [e] at key ⊢; exact callWith_builtin plain_any (args_then has ok at₁ h₁ key)
  · subst e e'
    obtain ⟨o, fd, ho, hd⟩ := K.fnAt _ _ ha
    exact callWith_function (o := o) (fd := fd) (args_then has ok at₁ h₁ fun cvs avs W' σ' s' T hv hq' => ⟨⟨T.at_.rel.bkeep _ _ ho, hd⟩, fn_call hK T ok.ok.call hq.fn ok.stk hv ha hq'⟩)
/-- what may be called, when the callee has been looked up -/
theorem call_head (K : CxOk X) {fz : Bool} {f : PE} {as : PEs} {x : Str} {p pos : Pos} {vs : List Expr} (hf : SE X n sc f (.Name x p)) (hq : (sc.hd || qGlob X.ck f) = true) {A : Around} {env : Env} {Pv : Pr} {W : Wd} {σ : St} {s : Shared} {Q : V → St → Prop} {E : EP} (ok : EnvOk X A env Pv n sc) (at_ : At X env Pv W σ s) (h : wpE X.P (CW X.P n) E (.call fz f as) σ Q)
    (k : ∀ cf W₁ σ₁ s₁ g, At X env Pv W₁ σ₁ s₁ → VR X W₁ cf g → MayQ X A g → (wpEs X.P (CW X.P n) E as σ₁ fun vs σ₂ => callF X.P (CW X.P n) E fz σ₂ g vs Q) →
      Ew X A env Pv (callWith pos cf [] (vs.map fun e => (false, eval e env)) []) W₁ σ₁ s₁ (VQ X Q) E) :
    Ew X A env Pv (eval (.Name x p) env >>= fun cf => callWith pos cf [] (vs.map fun e => (false, eval e env)) []) W σ s (VQ X Q) E := by
  cases e : sc.hd with
  | true => exact hf.bind ok at_ h fun cf W₁ σ₁ s₁ g at₁ _ hg h₁ => k cf W₁ σ₁ s₁ g at₁ hg (.inl (ok.hh e)) h₁
  | false =>
    rw [e] at hq
    cases f with
    | glob i => exact need_e h fun v hv h => hf.bind (Q := fun g σ₁ => g = v ∧ wpEs X.P (CW X.P n) E as σ₁ fun vs σ₂ => callF X.P (CW X.P n) E fz σ₂ g vs Q) ok at_ (need_i hv ⟨rfl, h⟩) fun cf W₁ σ₁ s₁ g at₁ _ hg h₁ => k cf W₁ σ₁ s₁ g at₁ hg (.inr (h₁.1 ▸ K.qg i v hq hv)) h₁.2
    | _ => cases hq
theorem snd_call0 (K : CxOk X) (hK : CallM X n) (hno : ∀ k, X.clA k = none) {c : Ck} {fz : Bool} {f : PE} {as : PEs} {x : Str} {p : Pos} {vs : List Expr} {pos : Pos} (hf : SE X n sc f (.Name x p)) (hq : (sc.hd || qGlob X.ck f) = true) (has : SEs X n sc as vs) (hc : chkEs c sc as vs = true) : SE X n sc (.call fz f as) (.Call (.Name x p) vs [] pos) := by
  intro A env Pv W σ s Q E ok at_ h
  rw [eval_Call_Name, back_plain hc]
  exact call_head K hf hq ok at_ h fun cf W₁ σ₁ s₁ g at₁ hg hq h₁ => call_rest K hK ok at₁ has hg hq h₁ fun k a _ _ ha => by rw [hno] at ha; cases ha

theorem base_plain {o : Expr} {a : Str} {env : Env} {t : Sem Value} (h : notSuper o = true) : attributeBase o a env t = t := by
  cases o with
  | Call f l kw p =>
    cases f with
    | Name x p =>
      cases l with
      | nil => cases kw with
        | nil => cases h
        | cons _ _ => rfl
      | cons _ _ => rfl
    | _ => rfl
  | _ => rfl
theorem form_plain {env : Env} {vs : List Expr} {pos : Pos} (h : vs.length ≤ 20) : methodCallForm (vs.length + ([] : List Keyword).length) (vs.map fun e => ((false : Bool), eval e env)) (backToKw pos (keywordEach [] env)) = true := by
  unfold methodCallForm
  have : ((vs.map fun e => ((false : Bool), eval e env)).all (!·.1)) = true := by
    rw [List.all_eq_true]
    intro t ht
    rw [plain_all t ht]; rfl
  rw [this]
  exact decide_eq_true (p := vs.length + 0 + 0 < 30) (Nat.lt_of_le_of_lt h (by decide))
end
end Mine

end

section
set_option autoImplicit false
set_option linter.all false
set_option genSizeOf false
set_option genInjectivity false
namespace Mine
open PySem PySem.W PySem.Calls PyProof.Rows
section
variable {X : Cx} {n : Nat} {sc : Sc}
theorem srt_down {a b : List Int} (h : a.Perm b) (ha : Ordered true a) : a = (srt b).reverse := by
  have ha : a.Pairwise (· ≥ ·) := ha
  have := srt_uniq ((List.reverse_perm a).trans h) (List.pairwise_reverse.mpr ha)
  rw [← this, List.reverse_reverse]
theorem isSrt_e {g : V} (h : isSrt g = true) : g = .bt .sorted := by
  cases g with
  | bt b => cases b <;> first | rfl | (cases h; done)
  | _ => cases h
theorem snd_srv (K : CxOk X) {c : Ck} {fz : Bool} {i k : Nat} {a : PE} {x : Str} {p p' kp pos : Pos} {y : Expr} (hf : SE X n sc (.glob i) (.Name x p)) (ha : SE X n sc a y) (hc : chkE c sc a y = true) : SE X n sc (.sortedRev fz i a) (.Call (.Name x p) [y] [⟨some (Str.ofString "reverse"), .Constant (.bool true) k p', kp⟩] pos) := by
  intro A env Pv W σ s Q E ok at_ h
  refine need_e h fun g hg h => ?_
  cases isSrt_e h.1
  refine wpAny_Call_Name_kw ?_
  refine wpAny_mono (hf A env Pv W σ s (fun v σ₁ => v = .bt .sorted ∧ σ₁ = σ) E ok at_ (need_i hg ⟨rfl, rfl⟩)) (fun cf s₁ q => q.e fun W₁ σ₁ T₁ q => q.e fun v hv q => ?_) fun _ _ z => z
  obtain ⟨rfl, rfl⟩ := q
  cases hv
  have hc' : chkEs c sc (.cons a .nil) [y] = true := by show (chkE c sc a y && true) = true; rw [hc]; rfl
  rw [back_plain hc']
  show wpAny _ A (callWith pos (.builtin "sorted") [] _ _) _ _ _
  refine callWith_builtin_kwB rfl rfl ?_
  refine evalArgs_kwB rfl ?_
  refine spliced_cons ?_
  refine wpAny_mono (ha A env Pv W₁ σ₁ s₁ _ E ok T₁.at_ h.2) (fun v s₂ q => q.e fun W₂ σ₂ T₂ q => q.e fun z hz h => spliced_nil ?_) fun _ _ z => z.back T₁
  refine kws_cons ?_
  refine wpAny_pure ?_
  refine kws_nil ?_
  have T := T₁.trans T₂
  refine need_e h fun y ey e => need_e e fun xs ex e => need_e e fun is ei e => ?_
  obtain ⟨l, vs, m, rfl, g, r, q, z⟩ := (see_ok T.at_.rel hz ey).toLst ex
  have I := ints_are r ei
  refine sorted_ints_rev (vs := vs.toList) (b := true) (by simpa using isList_of g) I (by rw [I.length]; exact e.1) fun out ns' ho hp hs => ?_
  rw [srt_down hp hs] at ho
  exact (sortedAll_at s₂.heap vs.toList out).elim fun c hc => (OpQ.from (A := A) T).list T.at_.rel (of_ints ho) (fun _ _ q => sortedAll_old q) (Heap.get?_none_of_le (Nat.le_succ _)) hc e.2
end
end Mine

end

section
set_option autoImplicit false
set_option linter.all false
set_option genSizeOf false
set_option genInjectivity false
namespace Mine
open PySem PySem.W PySem.Calls PyProof.Rows

section
variable {X : Cx} {n : Nat} {sc : Sc}
theorem VRs.one_e {W : Wd} {vs : List Value} {x : V} {G : Prop} (h : VRs X W vs [x]) (g : ∀ v, vs = [v] → VR X W v x → G) : G := by
  cases h with | cons a b => cases b; exact g _ rfl a

section
variable {A : Around} {E : Value → Shared → Prop} {W : Wd} {H : Hp} {s : Shared} {i : Nat} {l : Addr × Addr} {xs : List V} {Q : Value → Shared → Prop} (R : RelH X W H s.heap) (hi : H.get i = some (.list xs)) (hl : W.φ i = some l)
include R hi hl
/-- a list's items are others now -/
theorem RelH.lset {ys : List V} {h' : Heap} {vs' : Array Value} {k' tk : Nat} (he : l.2 = l.1) (hk : ∀ b ob, s.heap.get? b = some ob → b ≠ l.1 → h'.get? b = some ob) (ha : h'.get? l.1 = some (lstO vs' k')) (hv : VRs X W vs'.toList ys) (hz : ys.length ≤ SZ) : Tc X W H s W (H.set i (.list ys)) { s with heap := h', toks := tk } :=
  let ⟨r, t⟩ := R.upd (h' := h') (c' := .list ys) hi hl (fun b ob e n1 _ => hk b ob e n1) ⟨vs', k', ha, hv, he, hz⟩
  ⟨t, r, ⟨rfl, rfl, rfl⟩⟩
theorem append_ok {v : Value} {x : V} (hv : VR X W v x) (hz : xs.length < SZ)
    (h : ∀ s', Tc X W H s W (H.set i (.list (xs ++ [x]))) s' → Q .none s') : wpAny (model X.prog X.w) A (call (.builtin "list.append") [.ref l.1, v]) Q E s := by
  obtain ⟨vs, k, hg, hvs, he, _⟩ := R.at_ hi hl
  exact append_at hg (fun h' hs ha => h _ (R.lset (tk := s.toks) hi hl he (fun b ob e n1 => (hs.2 b n1).trans e) ha (by rw [Array.toList_push]; exact hvs.append (.cons hv .nil)) (by rw [List.length_append]; exact hz))) (by rw [hvs.toArr]; exact szLine (Nat.le_of_lt hz))
theorem extend_ok {v : Value} {ys : List V} (hv : SqL X W s.heap v ys) (hz : xs.length + ys.length ≤ SZ)
    (h : ∀ s', Tc X W H s W (H.set i (.list (xs ++ ys))) s' → Q .none s') : wpAny (model X.prog X.w) A (call (.builtin "list.extend") [.ref l.1, v]) Q E s := by
  obtain ⟨vs, k, hg, hvs, he, _⟩ := R.at_ hi hl
  obtain ⟨a, ws, k2, rfl, g2, r2, q2, z2⟩ := hv
  have hz' : vs.size + ws.size ≤ sizeLine := by rw [hvs.toArr, z2]; exact szLine hz
  refine call_meets F.slot_list_extend ⟨_, hg, rfl⟩ F.entry_list_extend (F.args_list_extend_2 _ _) (AutoSeq1.list_extend_list_list_0 l.1 vs k a ws k2 (extend_door hz') (Nat.le_trans (Nat.le_add_right _ _) hz') (Nat.le_succ_of_le hz')) ⟨hg, g2, h _ ?_⟩
  exact R.lset hi hl he (fun b ob q n1 => (Heap.get?_update_other _ _ (Ne.symm n1)).trans q) (Heap.get?_update_self _ hg rfl) (by show VRs X W (vs ++ ws).toList _; rw [Array.toList_append]; exact hvs.append r2) (by rw [List.length_append]; exact hz)
theorem pop_ok {k : Int} {t : Tok} {j : Nat} {x : V} (hj : pyIdx k xs.length = some j) (hx : xs[j]? = some x)
    (h : ∀ v s', Tc X W H s W (H.set i (.list (xs.take j ++ xs.drop (j + 1)))) s' → VR X W v x → Q v s') : wpAny (model X.prog X.w) A (call (.builtin "list.pop") [.ref l.1, .int k t]) Q E s := by
  obtain ⟨vs, m, hg, hvs, he, hz⟩ := R.at_ hi hl
  have z := hvs.toArr
  obtain ⟨v, hv, hr⟩ := arr_get hvs hx
  have hfit : Builtin.List.listFitsIndex k = true := by
    have := pyIdx_63 hj hz
    unfold Builtin.List.listFitsIndex
    rw [decide_eq_true this.1, decide_eq_true this.2]; rfl
  refine call_meets F.slot_list_pop ⟨_, hg, rfl⟩ F.entry_list_pop (F.args_list_pop_2 _ _) (MeetsSeq.list_pop_at l.1 vs m k t j v hfit (by rw [z]; exact pyIdx_seq hj) hv (by rw [z]; exact szLine hz)) ⟨hg, h v _ ?_ hr⟩
  refine R.lset hi hl he (fun b ob q n1 => (Heap.get?_update_other _ _ (Ne.symm n1)).trans q) (Heap.get?_update_self _ hg rfl) ?_ ?_
  · show VRs X W (vs.eraseIdxIfInBounds j).toList _
    rw [Array.toList_eraseIdxIfInBounds, List.eraseIdx_eq_take_drop_succ]
    exact (hvs.take j).append (hvs.drop (j + 1))
  · have := (List.getElem?_eq_some_iff.mp hx).1
    rw [List.length_append, List.length_take, List.length_drop]; omega
end

section
variable {A : Around} {env : Env} {Pv : Pr} {W : Wd} {σ : St} {s : Shared} {E : EP} {m : Nat} {as : PEs} {v : Expr} {ap pos : Pos} {vs : List Expr}
/-- the call of a method, behind its object -/
abbrev mcall (X : Cx) (env : Env) (m : Nat) (v : Expr) (ap pos : Pos) (vs : List Expr) (a : Addr) : Sem Value := methodCall v (X.nm m) ap pos env (.ref a) (vs.length + ([] : List Keyword).length) (vs.map fun e => (false, eval e env)) (backToKw pos (keywordEach [] env))
/-- a built-in type's method -/
theorem meth_bi {T id : String} {a : Addr} {ob : Obj} {Q : V → St → Prop} {Qv : List V → St → Prop} (ok : EnvOk X A env Pv n sc) (at_ : At X env Pv W σ s) (has : SEs X n sc as vs) (hlen : vs.length ≤ 20) (hline : (ap.endLine == pos.line) = true)
    (pa : PlainAttrs T) (slot : Slot T (X.nm m) id) (hty : typeOf (.builtin id) = pure (.type "method_descriptor")) (hg : s.heap.get? a = some ob) (hT : s.TypeIs (.ref a) T) (hd : ob.dict = none) (h : wpEs X.P (CW X.P n) E as σ Qv)
    (hcall : ∀ cvs avs W' σ' s', Tf X env Pv W σ s W' σ' s' → VRs X W' cvs avs → Qv avs σ' → wpAny (model X.prog X.w) A (call (.builtin id) ([.ref a] ++ cvs) []) (Go X env Pv W σ s (VQ X Q)) (EX X env Pv W σ s E) s') :
    Ew X A env Pv (mcall X env m v ap pos vs a) W σ s (VQ X Q) E := by
  have hpos : methodCallPos true v env ap pos = pure pos := by unfold methodCallPos; simp [hline]
  unfold mcall methodCall
  rw [form_plain hlen]
  exact wpAny_bind (wpAny_holding (getMethod_builtin hT pa slot hty (fun b e => by cases e; exact ⟨ob, hg, hd⟩) (wpAny_bind (wpAny_of_eq hpos (callWith_builtin plain_any (args_then has ok at_ h hcall))))))
theorem or3_e {a b c : Bool} {G : Prop} (h : (a || (b || c)) = true) (x : a = true → G) (y : b = true → G) (z : c = true → G) : G := by
  cases a with
  | true => exact x rfl
  | false => cases b with
    | true => exact y rfl
    | false => exact z h
theorem Br_t {b : Bool} {t e : Prop} (h : Br b t e) (q : b = true) : t := by subst q; exact h
theorem Br_f {b : Bool} {t e : Prop} (h : Br b t e) (q : b = false) : e := by subst q; exact h
theorem nb_ne {X : Cx} (K : CxOk X) {m k : Nat} {a b : Str} (ha : X.nm m = a) (hb : X.nm k = b) (hn : a ≠ b) : Nat.beq m k = false := by
  cases q : Nat.beq m k with
  | false => rfl
  | true => have := Nat.eq_of_beq_eq_true q; subst this; exact absurd (ha.symm.trans hb) hn
theorem nm_of {X : Cx} {m k : Nat} {a : Str} (h : Nat.beq m k = true) (e : X.nm k = a) : X.nm m = a := by
  rw [Nat.eq_of_beq_eq_true h]; exact e
theorem meth_list (K : CxOk X) {Q : V → St → Prop} {i : Nat} {l : Addr × Addr} {xs : List V} (ok : EnvOk X A env Pv n sc) (at_ : At X env Pv W σ s) (has : SEs X n sc as vs) (hlen : vs.length ≤ 20) (hline : (ap.endLine == pos.line) = true) (hl : W.φ i = some l) (hgi : σ.H.get i = some (.list xs))
    (h : Nd ((Nat.beq m X.P.nAppend || (Nat.beq m X.P.nPop || Nat.beq m X.P.nExtend)) = true) (wpEs X.P (CW X.P n) E as σ fun vs σ₂ => need (cL (σ₂.H.get i)) fun xs => methL X.P σ₂ i m vs xs Q)) :
    Ew X A env Pv (mcall X env m v ap pos vs l.1) W σ s (VQ X Q) E := by
  obtain ⟨ws, k, hg, hvs, he, hz⟩ := at_.rel.at_ hgi hl
  have fin : ∀ {W₂ : Wd} {σ₂ : St} {s₂ s' : Shared} {H' : Hp} {v : Value} {x : V}, Tf X env Pv W σ s W₂ σ₂ s₂ → Tc X W₂ σ₂.H s₂ W₂ H' s' → VR X W₂ v x → Q x (σ₂.setH H') → Go X env Pv W σ s (VQ X Q) v s' := fun T T' r q => ⟨_, _, T.trans (T'.tf T.at_), _, r, q⟩
  refine or3_e h.1 (fun hA => ?_) (fun hP => ?_) fun hE => ?_
  · have e := nm_of hA K.nAppend
    refine meth_bi ok at_ has hlen hline F.plainAttrs_list (e ▸ F.slot_list_append) F.type_list_append hg ⟨_, hg, rfl⟩ rfl h.2 fun cvs avs W₂ σ₂ s₂ T hv hq => need_e hq fun ys ey hq => need_e hq fun a ea hq => ?_
    have hq := Br_t hq hA
    rw [one_ok ea] at hv
    exact hv.one_e fun cv ec hcv => by
      subst ec
      exact append_ok T.at_.rel (cL_e ey) (T.stp.le.ff _ _ hl) hcv hq.1 fun s' T' => fin T T' .none hq.2
  · have e := nm_of hP K.nPop
    refine meth_bi ok at_ has hlen hline F.plainAttrs_list (e ▸ F.slot_list_pop) F.type_list_pop hg ⟨_, hg, rfl⟩ rfl h.2 fun cvs avs W₂ σ₂ s₂ T hv hq => need_e hq fun ys ey hq => need_e hq fun a ea hq => ?_
    have hq := Br_t (Br_f hq (nb_ne K e K.nAppend (by decide +kernel))) hP
    rw [one_ok ea] at hv
    exact hv.one_e fun cv ec hcv => need_e hq fun kk ek hq => need_e hq fun j hj hq => need_e hq fun x hx hq => aInt_of hcv ek fun t et => by
      subst ec et
      exact pop_ok T.at_.rel (cL_e ey) (T.stp.le.ff _ _ hl) hj hx fun v s' T' hv => fin T T' hv hq
  · have e := nm_of hE K.nExtend
    refine meth_bi ok at_ has hlen hline F.plainAttrs_list (e ▸ F.slot_list_extend) F.type_list_extend hg ⟨_, hg, rfl⟩ rfl h.2 fun cvs avs W₂ σ₂ s₂ T hv hq => need_e hq fun ys ey hq => need_e hq fun a ea hq => ?_
    have hq := Br_f (Br_f hq (nb_ne K e K.nAppend (by decide +kernel))) (nb_ne K e K.nPop (by decide +kernel))
    rw [one_ok ea] at hv
    exact hv.one_e fun cv ec hcv => need_e hq fun y hy hq => need_e hq fun zs hzs hq => by
      subst ec
      exact extend_ok T.at_.rel (cL_e ey) (T.stp.le.ff _ _ hl) ((see_ok T.at_.rel hcv hy).toLst hzs) hq.1 fun s' T' => fin T T' .none hq.2
theorem DGv.get {o : Option Value} {p : Option V} {v : Value} {x : V} {W : Wd} (h : DGv X W o p) (hv : VR X W v x) : VR X W (o.getD v) (p.getD x) := by
  cases h with
  | none => exact hv
  | some r => exact r
theorem meth_dict (K : CxOk X) {Q : V → St → Prop} {i : Nat} {l : Addr × Addr} {xs : List (V × V)} (ok : EnvOk X A env Pv n sc) (at_ : At X env Pv W σ s) (has : SEs X n sc as vs) (hlen : vs.length ≤ 20) (hline : (ap.endLine == pos.line) = true) (hl : W.φ i = some l) (hgi : σ.H.get i = some (.dict xs))
    (h : Nd (Nat.beq m X.P.nGet = true) (wpEs X.P (CW X.P n) E as σ fun vs σ₂ => need (cD (σ₂.H.get i)) fun xs => methD X.P σ₂ i m vs xs Q)) :
    Ew X A env Pv (mcall X env m v ap pos vs l.1) W σ s (VQ X Q) E := by
  obtain ⟨es0, d0, _⟩ := at_.rel.at_ hgi hl
  obtain ⟨ob, _, _, hg, ex, _⟩ := d0
  have e := nm_of h.1 K.nGet
  refine meth_bi ok at_ has hlen hline F.plainAttrs_dict (e ▸ F.slot_dict_get) F.type_dict_get hg ⟨ob, hg, ex.1⟩ ex.2.1 h.2 fun cvs avs W₂ σ₂ s₂ T hv hq => need_e hq fun ys ey hq => need_e hq fun t et hq => ?_
  obtain ⟨es, d, r, _, ne, _⟩ := T.at_.rel.at_ (cD_e ey) (T.stp.le.ff _ _ hl)
  have fin : ∀ {w : Value} {x : V}, VR X W₂ w x → Q x σ₂ → Go X env Pv W σ s (VQ X Q) w { s₂ with toks := s₂.toks + 1 } := fun r q => Go.from T (T.at_.val r q)
  cases hv with
  | nil => cases et
  | cons a b =>
    cases b with
    | nil =>
      cases et
      refine key_e a hq.1 fun j tk e1 e2 => ?_
      subst e1 e2
      exact call_meetsIn F.slot_dict_get d.typeIs F.entry_dict_get (F.args_dict_get_2 _ _) (meets_dict_get (intKind X.prog X.w) l.1 (intKind_is _ _ j tk) ne) ⟨_, d.mapOf, fin (DGv.get (r.val (i := j)) .none) hq.2⟩
    | cons b c =>
      cases c with
      | nil =>
        cases et
        refine key_e a hq.1 fun j tk e1 e2 => ?_
        subst e1 e2
        exact call_meetsIn F.slot_dict_get d.typeIs F.entry_dict_get (F.args_dict_get_3 _ _ _) (meets_dict_get_default (intKind X.prog X.w) l.1 (intKind_is _ _ j tk) ne _) ⟨_, d.mapOf, fin (DGv.get (r.val (i := j)) b) hq.2⟩
      | cons _ _ => cases et
end
theorem snd_meth (K : CxOk X) {c : Ck} {fz : Bool} {o : PE} {m : Nat} {as : PEs} {v : Expr} {ap pos : Pos} {vs : List Expr} (ho : SE X n sc o v) (has : SEs X n sc as vs) (hc : chkEs c sc as vs = true) (hns : notSuper v = true) (hlen : vs.length ≤ 20) (hline : (ap.endLine == pos.line) = true)
    (hinst : ∀ (A : Around) (env : Env) (Pv : Pr) (W : Wd) (σ : St) (s : Shared) (Q : V → St → Prop) (E : EP) (i : Nat) (l : Addr × Addr) (k : Nat) (fs : List (Nat × V)), EnvOk X A env Pv n sc → At X env Pv W σ s → W.φ i = some l → σ.H.get i = some (.inst k fs) →
      (need (X.P.cls k) fun c => need (lk c.meths m) fun f => wpEs X.P (CW X.P n) E as σ fun vs σ₂ => callF X.P (CW X.P n) E fz σ₂ (.fn f) (.ref i :: vs) Q) →
      Ew X A env Pv (mcall X env m v ap pos vs l.1) W σ s (VQ X Q) E) :
    SE X n sc (.meth fz o m as) (.Call (.Attribute v (X.nm m) ap) vs [] pos) := by
  intro A env Pv W σ s Q E ok at_ h
  rw [arm_eval_Call, base_plain hns, back_plain hc]
  refine ho.bind ok at_ h fun cf W₁ σ₁ s₁ g at₁ _ hg h₁ => Ew.standAt (need_e h₁ fun i ei h₁ => aRef_e hg ei fun l e hl _ => ?_)
  subst e
  cases hgi : σ₁.H.get i with
  | none => rw [hgi] at h₁; exact h₁.elim
  | some c =>
    rw [hgi] at h₁
    cases c with
    | inst k fs => exact hinst A env Pv W₁ σ₁ s₁ Q E i l k fs ok at₁ hl hgi h₁
    | dict _ => exact meth_dict K ok at₁ has hlen hline hl hgi h₁
    | exc _ => exact h₁.elim
    | list xs => exact meth_list K ok at₁ has hlen hline hl hgi h₁
end
end Mine

end

section
set_option autoImplicit false
set_option linter.all false
set_option genSizeOf false
set_option genInjectivity false
namespace Mine
open PySem PySem.Calls PyProof.Rows

noncomputable def isL : V → Bool
  | .lst _ => true
  | .ref _ => true
  | _ => false
theorem isL_see {H : Hp} {v : V} {xs : List V} (q : isL v = true) (h : items H v = some xs) : see H v = some (.lst xs) := by
  cases v with
  | lst ys => exact congrArg (some ∘ V.lst) (Option.some.inj h)
  | ref i => show mL (cL (H.get i)) = _; rw [show cL (H.get i) = some xs from h]; rfl
  | _ => cases q
/-- the iterator at I stands at place k of what v holds -/
inductive ItAt (X : Cx) (W : Wd) (h : Heap) (I : Addr) (v : V) (k : Nat) : Prop
  | lst (a : Addr) (r : VR X W (.ref a) v) (q : isL v = true) (it : h.IsListIter I a k)
  | tup (a : Addr) (xs : List V) (e : v = .tup xs) (r : VR X W (.ref a) v) (it : h.IsTupleIter I a k)
  | rng (a b c : Int) (e : v = .rng a b c) (hc : c = 1 ∨ c = -1) (it : IsRangeIter h I (a + (k : Nat) * c) ((rngN a b c : Int) - (k : Nat)) c)

section
variable {X : Cx} {A : Around} {E : Value → Shared → Prop} {W : Wd} {H : Hp} {s : Shared}

theorem ItAt.keep {W' : Wd} {h h' : Heap} {I : Addr} {v : V} {k : Nat} (it : ItAt X W h I v k) (le : Wd.Le W W') (hk : ∀ o, h.get? I = some o → NoNames o → h'.get? I = some o) : ItAt X W' h' I v k := by
  cases it with
  | lst a r q it => obtain ⟨o, ho, hc, hd⟩ := it; exact .lst a (r.le le) q ⟨o, hk o ho (fun es n q => by rw [hd] at q; cases q), hc, hd⟩
  | tup a xs e r it => obtain ⟨o, ho, hc, hd⟩ := it; exact .tup a xs e (r.le le) ⟨o, hk o ho (fun es n q => by rw [hd] at q; cases q), hc, hd⟩
  | rng a b c e hc it => exact .rng a b c e hc (hk _ it (fun es n q => by cases q))
theorem ItAt.there {h : Heap} {I : Addr} {v : V} {k : Nat} (it : ItAt X W h I v k) : ∃ o, h.get? I = some o := by
  cases it with
  | lst a r q it => exact it.elim fun o q => ⟨o, q.1⟩
  | tup a xs e r it => exact it.elim fun o q => ⟨o, q.1⟩
  | rng a b c e hc it => exact ⟨_, it⟩

theorem iter_ok {cv : Value} {v : V} {xs : List V} {Q : Value → Shared → Prop} (R : RelH X W H s.heap) (hv : VR X W cv v) (hi : items H v = some xs)
    (h : ∀ o, o.isFreed = false → ItAt X W (s.heap.push o) s.heap.objs.size v 0 → Q (.ref s.heap.objs.size) { s with heap := s.heap.push o }) : wpAny (model X.prog X.w) A (pyIter cv) Q E s := by
  have lst : isL v = true → wpAny (model X.prog X.w) A (pyIter cv) Q E s := fun q => by
    obtain ⟨a, vs, n, rfl, hg, r, _, _⟩ := (see_ok R hv (isL_see q hi)).toLst rfl
    exact wpAny_pyIter_list (items := vs) (isList_of hg) (h _ rfl (.lst a hv q ⟨_, Heap.get?_push_size _ rfl, rfl, rfl⟩))
  cases v with
  | lst ys => exact lst rfl
  | ref i => exact lst rfl
  | tup ys =>
    obtain ⟨a, vs, n, rfl, hg, r, _, _⟩ := (see_ok R hv rfl).toTup rfl
    exact wpAny_pyIter_tuple (items := vs) (isTup_of hg) (h _ rfl (.tup a ys rfl hv ⟨_, Heap.get?_push_size _ rfl, rfl, rfl⟩))
  | rng a b c =>
    cases hv with
    | rng z ha hb hc =>
      refine wpAny_pyIter_range (R.z _ _ z) (rng_small hc ha hb) (h _ rfl (.rng a b c rfl hc ?_))
      rw [rng_size hc]
      have : IsRangeIter (s.heap.push { cls := .type "range_iterator", data := .fields #[rawInt a, rawInt (rngN a b c), rawInt c] }) s.heap.objs.size a (rngN a b c) c := Heap.get?_push_size _ rfl
      rw [show a + ((0 : Nat) : Int) * c = a by rw [Int.natCast_zero, Int.zero_mul, Int.add_zero], show (rngN a b c : Int) - ((0 : Nat) : Int) = rngN a b c from Int.sub_zero _]
      exact this
  | _ => cases hi

theorem next_item {I : Addr} {v x : V} {xs : List V} {k : Nat} {Q : Option Value → Shared → Prop} (R : RelH X W H s.heap) (it : ItAt X W s.heap I v k) (hi : items H v = some xs) (hx : xs[k]? = some x)
    (h : ∀ cv h' tk, VR X W cv x → ItAt X W h' I v (k + 1) → Heap.ExtBut I s.heap h' → Q (some cv) { s with heap := h', toks := tk }) : wpAny (model X.prog X.w) A (pyNext (.ref I)) Q E s := by
  cases it with
  | lst a r q it =>
    obtain ⟨a', vs, n, e, hg, rs, _, _⟩ := (see_ok R r (isL_see q hi)).toLst rfl
    cases e
    exact (arr_get rs hx).elim fun cv z => wpAny_pyNext_list_item it (items := vs) (isList_of hg) z.1 fun h' hit' hs => h cv h' s.toks z.2 (.lst a r q hit') hs.extBut
  | tup a ys e r it =>
    subst e
    obtain ⟨a', vs, n, e, hg, rs, _, _⟩ := (see_ok R r rfl).toTup rfl
    cases e
    cases (Option.some.inj hi : ys = xs)
    exact (arr_get rs hx).elim fun cv z => wpAny_pyNext_tuple_item it (items := vs) (isTup_of hg) z.1 fun h' hit' hs => h cv h' s.toks z.2 (.tup a _ rfl r hit') hs.extBut
  | rng a b c e hc it =>
    subst e
    have e : rngL a c (rngN a b c) = xs := Option.some.inj hi
    have hk : k < rngN a b c := by
      have := (List.getElem?_eq_some_iff.mp hx).1
      rw [← e, rngL_length] at this; exact this
    rw [← e, rngL_get c _ a k hk] at hx
    cases hx
    refine wpAny_pyNext_range_item it (by omega) fun h' hit' hs => h _ h' _ (.int _ _) (.rng a b c rfl hc ?_) hs.extBut
    have e1 : a + ((k + 1 : Nat) : Int) * c = a + (k : Int) * c + c := by rw [Int.natCast_succ, Int.add_mul, Int.one_mul, Int.add_assoc]
    have e2 : (rngN a b c : Int) - ((k + 1 : Nat) : Int) = (rngN a b c : Int) - (k : Int) - 1 := by omega
    rw [e1, e2]; exact hit'

theorem next_end {I : Addr} {v : V} {xs : List V} {Q : Option Value → Shared → Prop} (hh : A.handled = none) (R : RelH X W H s.heap) (it : ItAt X W s.heap I v xs.length) (hi : items H v = some xs)
    (h : ∀ h', Heap.ExtBut I s.heap h' → Q none { s with heap := h' }) : wpAny (model X.prog X.w) A (pyNext (.ref I)) Q E s := by
  have no : ∀ vs : Array Value, vs.size = xs.length → vs[xs.length]? = none := fun vs z => by rw [← z]; exact Array.getElem?_eq_none (Nat.le_refl _)
  cases it with
  | lst a r q it =>
    obtain ⟨a', vs, n, e, hg, rs, _, z⟩ := (see_ok R r (isL_see q hi)).toLst rfl
    cases e
    exact wpAny_pyNext_list_end hh it (items := vs) (isList_of hg) (no vs z) h
  | tup a ys e r it =>
    subst e
    obtain ⟨a', vs, n, e, hg, rs, _, z⟩ := (see_ok R r rfl).toTup rfl
    cases e
    cases (Option.some.inj hi : ys = xs)
    exact wpAny_pyNext_tuple_end hh it (items := vs) (isTup_of hg) (no vs z) h
  | rng a b c e hc it =>
    subst e
    have hk : xs.length = rngN a b c := by rw [← (Option.some.inj hi : rngL a c (rngN a b c) = xs), rngL_length]
    exact wpAny_pyNext_range_end hh it (by rw [hk]; omega) h

/-- an object of no one's: an iterator, a list in the making -/
structure Lone (X : Cx) (env : Env) (Pv : Pr) (W : Wd) (H : Hp) (h : Heap) (I : Addr) : Prop where
  own : ¬ Own W H I
  z : W.Z I = none
  pv : ¬ Pv.pv I
  cell : ∀ x c, env.cells.lookup x = some c → c ≠ I
  fr : ∀ e ∈ Pv.st, e.frame ≠ some I
  at_ : ∃ o, h.get? I = some o
theorem Lone.step {env : Env} {Pv : Pr} {Pv' : Addr → Prop} {W' : Wd} {H' : Hp} {h h' : Heap} {I : Addr} (L : Lone X env Pv W H h I) (S : Stp Pv' W H h W' H' h') : Lone X env Pv W' H' h' I := by
  obtain ⟨o, e⟩ := L.at_
  refine ⟨S.own I o e L.own, ?_, L.pv, L.cell, L.fr, S.there I o e⟩
  cases q : W'.Z I with
  | none => rfl
  | some ob =>
    rcases S.znew I ob q with r | r | r
    · rw [L.z] at r; cases r
    · exact absurd r L.own
    · rw [e] at r; cases r
theorem Lone.keep {env : Env} {Pv : Pr} {W' : Wd} {H' : Hp} {h h' : Heap} {I : Addr} (L : Lone X env Pv W H h I) (S : Stp Pv.pv W H h W' H' h') : ∀ o, h.get? I = some o → NoNames o → h'.get? I = some o := fun o e n =>
  (S.keep I o e L.own L.pv).elim fun o' q => q.2.eq n ▸ q.1
/-- a lone object is changed, others are made -/
theorem At.poke {env : Env} {Pv : Pr} {σ : St} {I : Addr} {h' : Heap} {tk : Nat} (a : At X env Pv W σ s) (L : Lone X env Pv W σ.H s.heap I) (hs : Heap.ExtBut I s.heap h') : At X env Pv W σ { s with heap := h', toks := tk } := by
  refine ⟨a.rel.quiet (Pv := fun b => b = I) (fun b o e n => hs b o n e) (fun b e => by subst e; exact ⟨L.own, L.z⟩), ?_⟩
  have F := a.fr
  have nl : env.locals ≠ I := fun e => L.pv (e ▸ F.pvL)
  refine ⟨?_, fun i v e k => ?_, fun x ef e => ?_, F.cellEq, fun x c e => ?_, F.pvL, F.priv, fun b p => ?_, fun e he => (F.frs e he).keep fun K o es n a b c d f => ⟨⟨o, es, n, hs K o (fun z => L.fr e he (z ▸ a)) b, c⟩, d, f⟩, F.frc⟩
  · obtain ⟨m, hn, hm⟩ := F.ns
    exact ⟨m, hn.extBut hs nl, hm⟩
  · obtain ⟨c, cv, q, ⟨o, ho, hd⟩, r⟩ := F.cells i v e k
    exact ⟨c, cv, q, ⟨o, hs c o (L.cell _ _ q) ho, hd⟩, r⟩
  · obtain ⟨c, cv, q, ⟨o, ho, hd⟩, r⟩ := F.hasCell x ef e
    exact ⟨c, cv, q, ⟨o, hs c o (L.cell _ _ q) ho, hd⟩, r⟩
  · obtain ⟨p, q, o, ho⟩ := F.cellNs x c e
    exact ⟨p, q, o, hs c o (L.cell _ _ e) ho⟩
  · obtain ⟨o, ho⟩ := F.pvAt b p
    exact ⟨o, hs b o (fun e => L.pv (e ▸ p)) ho⟩
/-- seen from before the object was made -/
theorem Stp.poke {Pv : Addr → Prop} {W' : Wd} {H' : Hp} {h h' h'' : Heap} {I : Addr} (S : Stp Pv W H h W' H' h') (hn : h.get? I = none) (hs : Heap.ExtBut I h' h'') : Stp Pv W H h W' H' h'' where
  le := S.le
  keep := fun x o e n p => (S.keep x o e n p).elim fun o' q => ⟨o', hs x o' (fun z => by subst z; rw [hn] at e; cases e) q.1, q.2⟩
  own := S.own
  znew := S.znew
  there := fun x o e => (S.there x o e).elim fun o' e' => ⟨o', hs x o' (fun z => by subst z; rw [hn] at e; cases e) e'⟩
theorem Tf.poke {env : Env} {Pv : Pr} {σ σ' : St} {W' : Wd} {s' : Shared} {I : Addr} {h'' : Heap} {tk : Nat} (T : Tf X env Pv W σ s W' σ' s') (hn : s.heap.get? I = none) (L : Lone X env Pv W' σ'.H s'.heap I) (hs : Heap.ExtBut I s'.heap h'') : Tf X env Pv W σ s W' σ' { s' with heap := h'', toks := tk } :=
  ⟨T.stp.poke hn hs, T.at_.poke L hs, ⟨T.rest.gens, T.rest.drawn, T.rest.os⟩⟩
/-- a new object of no one's -/
theorem Lone.new {env : Env} {Pv : Pr} {σ : St} {h' : Heap} (a : At X env Pv W σ s) {I : Addr} (hn : s.heap.get? I = none) (hI : ∃ o, h'.get? I = some o) : Lone X env Pv W σ.H h' I := by
  have no : ∀ {o : Obj} {G : Prop}, s.heap.get? I = some o → G := fun e => by rw [hn] at e; cases e
  refine ⟨fun o => (a.rel.own_there o).elim fun _ e => no e, ?_, fun p => (a.fr.pvAt I p).elim fun _ e => no e, fun x c e q => ?_, fun e he q => ?_, hI⟩
  · cases q : W.Z I with
    | none => rfl
    | some o => exact no (a.rel.z _ _ q)
  · subst q
    exact (a.fr.cellNs x c e).2.2.elim fun _ e => no e
  · obtain ⟨_, L, o, es, n, x1, x2, _⟩ := a.fr.frs e he
    rw [q] at x1; cases x1
    exact no x2
theorem Tf.push {env : Env} {Pv : Pr} {σ : St} {o : Obj} {tk : Nat} (a : At X env Pv W σ s) : Tf X env Pv W σ s W σ { s with heap := s.heap.push o, toks := tk } := by
  have hk : ∀ b ob, s.heap.get? b = some ob → (s.heap.push o).get? b = some ob := fun b ob e => Heap.get?_push_of_some _ e
  have S : Stp noPv W σ.H s.heap W σ.H (s.heap.push o) := .quiet (fun b ob e _ => hk b ob e) fun b ob e => ⟨ob, hk b ob e⟩
  exact ⟨S.mono fun _ z => z.elim, ⟨a.rel.quiet (Pv := noPv) (fun b ob e _ => hk b ob e) fun _ z => z.elim, a.fr.step S fun _ z => z.elim⟩, ⟨rfl, rfl, rfl⟩⟩
end
end Mine

end

section
set_option autoImplicit false
set_option linter.all false
set_option genSizeOf false
set_option genInjectivity false
namespace Mine
open PySem PySem.W PySem.Calls PyProof.Rows

inductive FR (X : Cx) (W : Wd) : PySem.Flow → Flow → Prop
  | next : FR X W .next .next
  | brk : FR X W .brk .brk
  | cont : FR X W .cont .cont
  | ret {v : Value} {x : V} : VR X W v x → FR X W (.ret v) (.ret x)
inductive FQ (X : Cx) (Q : Flow → St → Prop) (fl : PySem.Flow) (W' : Wd) (σ' : St) (s' : Shared) : Prop
  | mk (af : Flow) (r : FR X W' fl af) (h : Q af σ')

section
variable {X : Cx} {n : Nat} {sc : Sc}
theorem FQ.e {Q : Flow → St → Prop} {v : PySem.Flow} {W : Wd} {σ : St} {s : Shared} {G : Prop} (q : FQ X Q v W σ s) (g : ∀ x, FR X W v x → Q x σ → G) : G := by obtain ⟨x, r, h⟩ := q; exact g x r h

noncomputable def S1 (X : Cx) (n : Nat) (sc : Sc) (p : PS) (st : Stmt) : Prop := ∀ (A : Around) (env : Env) (Pv : Pr) (W : Wd) (σ : St) (s : Shared) (Q : Flow → St → Prop) (E : EP),
  EnvOk X A env Pv n sc → env.func ≠ none → At X env Pv W σ s → wpS X.P (CW X.P n) p σ Q E → Ew X A env Pv (exec st env) W σ s (FQ X Q) E
noncomputable def SS (X : Cx) (n : Nat) (sc : Sc) (p : PSs) (st : List Stmt) : Prop := ∀ (A : Around) (env : Env) (Pv : Pr) (W : Wd) (σ : St) (s : Shared) (Q : Flow → St → Prop) (E : EP),
  EnvOk X A env Pv n sc → env.func ≠ none → At X env Pv W σ s → wpSs X.P (CW X.P n) p σ Q E → Ew X A env Pv (execs st env) W σ s (FQ X Q) E

section
variable {A : Around} {env : Env} {Pv : Pr} {W : Wd} {σ : St} {s : Shared} {E : EP} {Ex : Value → Shared → Prop}
/-- an expression ahead of a statement's end -/
theorem SE.post {p : PE} {e : Expr} {Q : V → St → Prop} {R : Value → Shared → Prop} (he : SE X n sc p e) (ok : EnvOk X A env Pv n sc) (at_ : At X env Pv W σ s) (hw : wpE X.P (CW X.P n) E p σ Q)
    (g : ∀ v W₁ σ₁ s₁ x, Tf X env Pv W σ s W₁ σ₁ s₁ → VR X W₁ v x → Q x σ₁ → R v s₁) : wpAny (model X.prog X.w) A (eval e env) R (EX X env Pv W σ s E) s :=
  wpAny_mono (he A env Pv W σ s _ E ok at_ hw) (fun v s₁ q => q.e fun W₁ σ₁ T q => q.e fun x r h => g v W₁ σ₁ s₁ x T r h) fun _ _ x => x
theorem Tf.flow {W' : Wd} {σ' : St} {s' : Shared} {Q : Flow → St → Prop} {fl : PySem.Flow} {af : Flow} (T : Tf X env Pv W σ s W' σ' s') (r : FR X W' fl af) (h : Q af σ') : Go X env Pv W σ s (FQ X Q) fl s' := ⟨W', σ', T, af, r, h⟩

theorem fn_hp (ok : EnvOk X A env Pv n sc) : (env.scope.kind == .class || (env.scope.kind == .module && env.locals != env.globals)) = false := by rw [ok.kind]; rfl
theorem kind_of {x : Str} {k : Nat} (ok : EnvOk X A env Pv n sc) (h : Nat.beq (knd sc x) k = true) (hk : k ≠ 0) (h3 : nkOf k ≠ .free) : env.kindOf x = some (nkOf k) :=
  (ok.names _ _ (knd_of (Nat.eq_of_beq_eq_true h) hk)).elim id fun z => absurd z.1 h3
theorem local_of {x : Str} (ok : EnvOk X A env Pv n sc) (h : kLocal sc x = true) : env.kindOf x = some .local := kind_of ok h (by decide) (by decide)

/-- a private object was changed -/
theorem store_tf {a : Addr} {h' : Heap} {loc' : Loc} {tk : Nat} (at_ : At X env Pv W σ s) (hp : Pv.pv a) (hs : Heap.SameBut a s.heap h') (ha : ∃ o, h'.get? a = some o) (F : FrR X W σ.H h' env Pv loc') : Tf X env Pv W σ s W ⟨σ.H, loc'⟩ { s with heap := h', toks := tk } := by
  have hkp : ∀ b o, s.heap.get? b = some o → ¬ Pv.pv b → h'.get? b = some o := fun b o e p => (hs.2 b fun q => p (q ▸ hp)).trans e
  refine ⟨.quiet hkp fun b o e => ?_, ⟨at_.rel.quiet hkp at_.fr.priv, F⟩, ⟨rfl, rfl, rfl⟩⟩
  by_cases hb : b = a
  · subst hb; exact ha
  · exact ⟨o, (hs.2 b hb).trans e⟩
theorem store_local {Q : Unit → Shared → Prop} {i : Nat} {cv : Value} {v : V} (K : CxOk X) (ok : EnvOk X A env Pv n sc) (at_ : At X env Pv W σ s) (hk : env.kindOf (X.nm i) = some .local) (hv : VR X W cv v)
    (h : ∀ s', Tf X env Pv W σ s W (σ.put i v) s' → Q () s') : wpAny (model X.prog X.w) A (storeName env (X.nm i) cv) Q Ex s := by
  obtain ⟨m, hn, hm⟩ := at_.fr.ns
  exact wpAny_storeName_local hk hn (fun h' hn' hs => h _ (store_tf at_ at_.fr.pvL hs (hn'.elim fun o q => ⟨o, q.elim fun _ q => q.elim fun _ q => q.1⟩) (at_.fr.storeL hn hm (fun j q => K.inj _ _ q) hk hv hn' hs))) (fn_hp ok)
theorem store_ok {Q : Unit → Shared → Prop} {i : Nat} {cv : Value} {v : V} (K : CxOk X) (ok : EnvOk X A env Pv n sc) (hf : env.func ≠ none) (at_ : At X env Pv W σ s) (hk : kStore sc (X.nm i) = true) (hv : VR X W cv v)
    (h : ∀ s', Tf X env Pv W σ s W (σ.put i v) s' → Q () s') : wpAny (model X.prog X.w) A (storeName env (X.nm i) cv) Q Ex s := by
  rcases Bool.or_eq_true_iff.mp hk with q | q
  · exact store_local K ok at_ (local_of ok q) hv h
  · have q : env.kindOf (X.nm i) = some .cell := kind_of ok q (by decide) (by decide)
    obtain ⟨c, v₀, hc, hi, hp⟩ := at_.fr.hasCell _ hf q
    exact wpAny_storeName_cell ok.kind q hc hi fun h' hi' hs => h _ (store_tf at_ hp hs (hi'.elim fun o q => ⟨o, q.1⟩) (at_.fr.storeC (fun j q => K.inj _ _ q) q hc hv hi' hs))
end

theorem snd_pass {pos : Pos} : S1 X n sc .pass (.Pass pos) := fun A env Pv W σ s Q E ok hf at_ h => wpAny_Pass ((Tf.refl at_).flow .next h)
theorem fn_inter {A : Around} {env : Env} {Pv : Pr} (ok : EnvOk X A env Pv n sc) : interactive env = false := by unfold interactive; rw [ok.kind]; rfl
theorem snd_expr {e : PE} {x : Expr} {pos : Pos} (he : SE X n sc e x) (hx : tg x 14 = true) : S1 X n sc (.expr e) (.Expr x pos) := fun A env Pv W σ s Q E ok hf at_ h =>
  wpAny_Expr_any (he.post ok at_ h fun v W₁ σ₁ s₁ y T _ q => T.flow .next q) (fn_inter ok) (by rw [xu_is hx rfl]; rfl)
theorem swaps_no {x : Expr} {t : Option Expr} {l : Nat} {env : Env} (h : Nat.ble 1 (xu x).tag = true) (h' : Nat.ble (xu x).tag 14 = true) : swapsWith x t l env = pure false := by
  cases x <;> first | rfl | (cases h; done) | (cases h'; done)
theorem snd_assign_loc (K : CxOk X) {i : Nat} {e : PE} {x : Expr} {y : Str} {p pos : Pos} (he : SE X n sc e x) (hy : y = X.nm i) (hk : kStore sc y = true) (h1 : Nat.ble 1 (xu x).tag = true) (h2 : Nat.ble (xu x).tag 14 = true) : S1 X n sc (.assign (.loc i) e) (.Assign [.Name y p] x pos) := by
  intro A env Pv W σ s Q E ok hf at_ h
  subst hy
  exact wpAny_Assign_Name (he.post ok at_ h fun v W₁ σ₁ s₁ y T hv q => store_ok K ok hf T.at_ hk hv fun s'' T' => (T.trans T').flow .next q) (swaps_no h1 h2)
theorem snd_ret_none {pos : Pos} : S1 X n sc (.ret .none) (.Return none pos) := fun A env Pv W σ s Q E ok hf at_ h => wpAny_Return_none ((Tf.refl at_).flow (.ret .none) h)
theorem snd_ret {e : PE} {x : Expr} {pos : Pos} (he : SE X n sc e x) : S1 X n sc (.ret (.some e)) (.Return (some x) pos) := fun A env Pv W σ s Q E ok hf at_ h =>
  wpAny_Return_some (he.post ok at_ h fun v W₁ σ₁ s₁ y T hv q => T.flow (.ret hv) q)
theorem snd_if {t : PC} {a b : PSs} {x : Expr} {u v : List Stmt} {pos : Pos} (ht : ST X n sc t x) (ha : SS X n sc a u) (hb : SS X n sc b v) : S1 X n sc (.ite t a b) (.If x u v pos) := fun A env Pv W σ s Q E ok hf at_ h =>
  wpAny_If (wpAny_mono (ht A env Pv W σ s _ E ok at_ h) (fun c s' q => q.e fun W' σ' T q => by
    cases c with
    | true => exact Ew.from T (ha A env Pv W' σ' s' Q E ok hf T.at_ q)
    | false => exact Ew.from T (hb A env Pv W' σ' s' Q E ok hf T.at_ q)) fun _ _ y => y)
theorem snd_ss_nil : SS X n sc .nil [] := fun A env Pv W σ s Q E ok hf at_ h => wpAny_execs_nil ((Tf.refl at_).flow .next h)
theorem snd_ss_cons {p : PS} {ps : PSs} {st : Stmt} {sts : List Stmt} (h1 : S1 X n sc p st) (h2 : SS X n sc ps sts) : SS X n sc (.cons p ps) (st :: sts) := fun A env Pv W σ s Q E ok hf at_ h =>
  wpAny_execs_cons (wpAny_mono (h1 A env Pv W σ s _ E ok hf at_ h) (fun fl s' q => q.e fun W' σ' T q => q.e fun af r q => by
    cases r with
    | next => exact Ew.from T (h2 A env Pv W' σ' s' Q E ok hf T.at_ q)
    | brk => exact T.flow .brk q
    | cont => exact T.flow .cont q
    | ret hv => exact T.flow (.ret hv) q) fun _ _ y => y)

/-! binding -/
section
variable {A : Around} {env : Env} {Pv : Pr} {Ex : Value → Shared → Prop} {W : Wd} {Q : Unit → Shared → Prop}
theorem tgt_e {i : Nat} {is : List Nat} {elts : List Expr} {G : Prop} (h : tgts X.nm sc (i :: is) elts = true) (g : ∀ p, elts = .Name (X.nm i) p :: elts.tail → kLocal sc (X.nm i) = true → tgts X.nm sc is elts.tail = true → G) : G :=
  on_e h fun t ht h => and4_e h fun a b c d => g (xu t).p (by
    have e : t = .Name (X.nm i) (xu t).p := (xu_is a rfl).trans (of_decide_eq_true b ▸ rfl)
    exact (head_ok ht).trans (congrArg (· :: elts.tail) e)) (of_decide_eq_true b ▸ c) d
theorem bind_len (ts : List Nat) : ∀ (elts : List Expr) (xs : List V) (cvs : List Value) (σ : St) (Kk : St → Prop), tgts X.nm sc ts elts = true → VRs X W cvs xs → bindGo ts xs σ Kk → (assignEach elts env).length = cvs.length ∧ (assignEach elts env).findIdx? (·.1) = none := by
  induction ts with
  | nil =>
    intro elts xs cvs σ Kk hc hv hb
    cases empty_ok hc
    cases hv with
    | nil => exact ⟨rfl, rfl⟩
    | cons _ _ => exact hb.elim
  | cons i is ih =>
    intro elts xs cvs σ Kk hc hv hb
    refine tgt_e hc fun p e _ h3 => ?_
    rw [e]
    cases hv with
    | nil => exact hb.elim
    | cons a r =>
      have k := ih elts.tail _ _ (σ.put i _) Kk h3 r hb
      refine ⟨congrArg (· + 1) k.1, ?_⟩
      show List.findIdx? _ ((false, assign (.Name (X.nm i) p) env) :: assignEach elts.tail env) = none
      rw [List.findIdx?_cons, k.2]; rfl
theorem bind_each (K : CxOk X) (ok : EnvOk X A env Pv n sc) (ts : List Nat) : ∀ (elts : List Expr) (xs : List V) (cvs : List Value) (σ : St) (s : Shared) (Kk : St → Prop), tgts X.nm sc ts elts = true → At X env Pv W σ s → VRs X W cvs xs → bindGo ts xs σ Kk →
    (∀ s' σ', Tf X env Pv W σ s W σ' s' → Kk σ' → Q () s') → wpAny (model X.prog X.w) A (assignInOrder ((assignEach elts env).map (·.2)) cvs) Q Ex s := by
  induction ts with
  | nil =>
    intro elts xs cvs σ s Kk hc at_ hv hb h
    cases empty_ok hc
    cases hv with
    | nil => exact assignInOrder_nil (h s σ (.refl at_) hb)
    | cons _ _ => exact hb.elim
  | cons i is ih =>
    intro elts xs cvs σ s Kk hc at_ hv hb h
    refine tgt_e hc fun p e h2 h3 => ?_
    rw [e]
    cases hv with
    | nil => exact hb.elim
    | cons a r => exact assignInOrder_cons (wpAny_assign_Name (store_local K ok at_ (local_of ok h2) a fun s₁ T₁ => ih elts.tail _ _ _ s₁ Kk h3 T₁.at_ r hb fun s' σ' T' q => h s' σ' (T₁.trans T') q))
/-- more objects, of no account -/
theorem Tf.more {σ : St} {s : Shared} {h' : Heap} {tk : Nat} (at_ : At X env Pv W σ s) (kp : ∀ b o, s.heap.get? b = some o → h'.get? b = some o) : Tf X env Pv W σ s W σ { s with heap := h', toks := tk } := by
  have S : Stp noPv W σ.H s.heap W σ.H h' := .quiet (fun b ob e _ => kp b ob e) fun b ob e => ⟨ob, kp b ob e⟩
  exact ⟨S.mono fun _ z => z.elim, ⟨at_.rel.quiet (Pv := noPv) (fun b ob e _ => kp b ob e) fun _ z => z.elim, at_.fr.step S fun _ z => z.elim⟩, ⟨rfl, rfl, rfl⟩⟩
theorem bindT_many {ts : List Nat} {v : V} {σ : St} {Kk : St → Prop} (h : Nat.ble 2 ts.length = true) (hb : bindT ts v σ Kk) : need (aTup v) fun xs => bindGo ts xs σ Kk := by
  match ts, h, hb with
  | _ :: _ :: _, _, hb => exact hb
/-- several names, out of a tuple -/
theorem bind_tup (K : CxOk X) {ts : List Nat} {elts : List Expr} {k : Nat} {p : Pos} {v : V} {cv : Value} {σ : St} {s : Shared} {Kk : St → Prop} (ok : EnvOk X A env Pv n sc) (hh : A.handled = none) (at_ : At X env Pv W σ s) (hv : VR X W cv v) (hc : tgts X.nm sc ts elts = true) (hb : need (aTup v) fun xs => bindGo ts xs σ Kk)
    (h : ∀ s' σ', Tf X env Pv W σ s W σ' s' → Kk σ' → Q () s') : wpAny (model X.prog X.w) A (assign (.Tuple elts k p) env cv) Q Ex s := by
  refine need_e hb fun xs ex hgo => ?_
  have ev : v = .tup xs := by cases v <;> first | (cases ex; rfl) | cases ex
  subst ev
  obtain ⟨a, vs, m, rfl, hg, hvs, _, hz⟩ := (see_ok at_.rel hv rfl).toTup rfl
  have len := bind_len (env := env) ts elts xs vs.toList σ Kk hc hvs hgo
  refine assign_Tuple_tuple hh (isTup_of hg) (by rw [len.1, Array.length_toList]) len.2 fun h' he => ?_
  have T : Tf X env Pv W σ s W σ { s with heap := h' } := Tf.more (tk := s.toks) at_ fun b o q => he b o (fun z => by rw [z, push_none] at q; cases q) q
  exact bind_each K ok ts elts xs vs.toList σ _ Kk hc T.at_ hvs hgo fun s' σ' T' q => h s' σ' (T.trans T') q
theorem bind_ok (K : CxOk X) {ts : List Nat} {t : Expr} {v : V} {cv : Value} {σ : St} {s : Shared} {Kk : St → Prop} (ok : EnvOk X A env Pv n sc) (hh : A.handled = none) (at_ : At X env Pv W σ s) (hv : VR X W cv v) (hc : chkTgt X.nm sc ts t = true) (hb : bindT ts v σ Kk)
    (h : ∀ s' σ', Tf X env Pv W σ s W σ' s' → Kk σ' → Q () s') : wpAny (model X.prog X.w) A (assign t env cv) Q Ex s := by
  rcases Bool.or_eq_true_iff.mp hc with hc | hc
  · refine and_e hc fun ht hc => on_e hc fun j hj hc => and_e hc fun h1 h2 => ?_
    cases one_ok hj
    have e : t = .Name (X.nm j) (xu t).p := (xu_is ht rfl).trans (of_decide_eq_true h1 ▸ rfl)
    rw [e]
    exact wpAny_assign_Name (store_local K ok at_ (local_of ok (of_decide_eq_true h1 ▸ h2)) hv fun s' T => h s' _ T hb)
  · refine and3_e hc fun ht h1 h2 => ?_
    rw [show t = .Tuple (xu t).l (xu t).k (xu t).p from xu_is ht rfl]
    exact bind_tup K ok hh at_ hv h2 (bindT_many h1 hb) h
end

/-- an iterator that owns no tuple -/
theorem go_ok {A : Around} {E : Value → Shared → Prop} {s : Shared} {I : Addr} {o : Obj} {nm : String} {t : Expr} {cv : Value} {Q : Unit → Shared → Prop} (ho : s.heap.get? I = some o) (hc : o.cls = .type nm)
    (hn : (["enumerate", "zip", "dict_itemiterator", "dict_reverseitemiterator", "odict_iterator", "itertools.zip_longest", "itertools.pairwise"].contains nm) = false) (h : Q () s) : wpAny (model X.prog X.w) A (letOwnedTupleGo t (.ref I) cv) Q E s := by
  have key : ∀ a, wpAny (model X.prog X.w) A (do
      let o ← load I
      match o.cls, o.data with
      | .type n, .fields vs =>
        if ["enumerate", "zip", "dict_itemiterator", "dict_reverseitemiterator", "odict_iterator", "itertools.zip_longest", "itertools.pairwise"].contains n && vs[0]? == some (rawInt a) then
          rule "for.unpacks-the-owned-tuple"
          updateField I 0 .none
      | _, _ => pure ()) Q E s := fun a => by
    refine wpAny_bind (wpAny_load ho ?_)
    rw [hc]
    cases o.data with
    | fields vs =>
      simp only [hn, Bool.false_and, Bool.false_eq_true, if_false]
      exact wpAny_pure h
    | _ => exact wpAny_pure h
  unfold letOwnedTupleGo
  cases t <;> first | exact wpAny_pure h | skip
  all_goals (cases cv <;> first | exact wpAny_pure h | exact key _)
theorem it_go {A : Around} {E : Value → Shared → Prop} {W : Wd} {s : Shared} {I : Addr} {v : V} {k : Nat} {t : Expr} {cv : Value} {Q : Unit → Shared → Prop} (it : ItAt X W s.heap I v k) (h : Q () s) : wpAny (model X.prog X.w) A (letOwnedTupleGo t (.ref I) cv) Q E s := by
  cases it with
  | lst a r q it => obtain ⟨o, ho, hc, hd⟩ := it; exact go_ok ho hc (by decide) h
  | tup a xs e r it => obtain ⟨o, ho, hc, hd⟩ := it; exact go_ok ho hc (by decide) h
  | rng a b c e hc it => exact go_ok it rfl (by decide) h
theorem folded_no {x : Expr} {env : Env} (hx : Nat.ble (xu x).tag 15 = true) : ∀ z, foldedSetIterable x env z = pure z := fun z => by
  cases x <;> first | rfl | cases hx
end
end Mine

end

section
set_option autoImplicit false
set_option linter.all false
set_option genSizeOf false
set_option genInjectivity false
namespace Mine
open PySem PySem.W PySem.Calls PyProof.Rows

theorem drop_cons {α : Type} {l : List α} {k : Nat} {x : α} {r : List α} (h : l.drop k = x :: r) : l[k]? = some x ∧ l.drop (k + 1) = r := by
  constructor
  · have := congrArg List.head? h
    rw [List.head?_drop] at this; exact this
  · have := congrArg List.tail h
    rw [List.tail_drop] at this; exact this
/-- where a run over a list stands: at place k; ys are left -/
structure Stand (xs : List V) (k : Nat) (ys : List V) (m : Nat) : Prop where
  d : xs.drop k = ys
  l : k + ys.length = xs.length
  m : m = ys.length
theorem Stand.nil {xs : List V} {k m : Nat} (h : Stand xs k [] m) : k = xs.length := h.l
theorem Stand.cons {xs : List V} {k : Nat} {u : V} {us : List V} {m : Nat} (h : Stand xs k (u :: us) m) : xs[k]? = some u ∧ us.length < m ∧ Stand xs (k + 1) us us.length :=
  ⟨(drop_cons h.d).1, h.m ▸ Nat.lt_succ_self _, (drop_cons h.d).2, (Nat.succ_add_eq_add_succ k us.length).trans h.l, rfl⟩

section
variable {X : Cx} {n : Nat} {sc : Sc}
/-- a run's state -/
inductive LpI (X : Cx) (env : Env) (Pv : Pr) (W : Wd) (σ : St) (s : Shared) (I : Addr) (v : V) (xs : List V) (go : List V → St → Prop) (m : Nat) (s' : Shared) : Prop
  | mk (k : Nat) (W' : Wd) (σ' : St) (ys : List V) (t : Tf X env Pv W σ s W' σ' s') (it : ItAt X W' s'.heap I v k) (L : Lone X env Pv W' σ'.H s'.heap I) (st : Stand xs k ys m) (q : go ys σ')
/-- what binds the names of a loop -/
noncomputable def Bnd (X : Cx) (n : Nat) (sc : Sc) (ts : List Nat) (t : Expr) : Prop := ∀ (A : Around) (env : Env) (Pv : Pr) (W : Wd) (σ : St) (s : Shared) (cv : Value) (v : V) (Kk : St → Prop) (Q : Unit → Shared → Prop) (Ex : Value → Shared → Prop),
  EnvOk X A env Pv n sc → env.func ≠ none → A.handled = none → At X env Pv W σ s → VR X W cv v → bindT ts v σ Kk → (∀ s' σ', Tf X env Pv W σ s W σ' s' → Kk σ' → Q () s') → wpAny (model X.prog X.w) A (assign t env cv) Q Ex s
theorem bnd_name (K : CxOk X) {i : Nat} {y : Str} {p : Pos} (hy : y = X.nm i) (hk : kStore sc y = true) : Bnd X n sc [i] (.Name y p) := fun A env Pv W σ s cv v Kk Q Ex ok hf hh at_ hv hb h => by
  subst hy
  exact wpAny_assign_Name (store_ok K ok hf at_ hk hv fun s' T => h s' _ T hb)
theorem not_there {h h' : Heap} {I : Addr} (hn : h'.get? I = none) (k : ∀ a o, h.get? a = some o → ∃ o', h'.get? a = some o') : h.get? I = none := by
  cases hq : h.get? I with
  | none => rfl
  | some o => exact (k _ _ hq).elim fun o' e => by rw [hn] at e; cases e

theorem snd_loop (K : CxOk X) {ts : List Nat} {it : PE} {body : PSs} {t : Expr} {pos : Pos} {x : Expr} {b : List Stmt} (hi : SE X n sc it x) (hb : SS X n sc body b) (ht : Bnd X n sc ts t) (hx : Nat.ble (xu x).tag 15 = true) (hhd : sc.hd = true) : S1 X n sc (.loop ts it body) (.For t x b [] pos) := fun A env Pv W σ s Q E ok hf at_ h =>
  wpAny_For (hi.post ok at_ h fun cv W₁ σ₁ s₁ v T₁ hv q => need_e q fun xs hxs q => iter_ok T₁.at_.rel hv hxs fun o hfo hit => by
    have nI : s₁.heap.get? s₁.heap.objs.size = none := push_none _
    have T₂ : Tf X env Pv W σ s W₁ σ₁ { s₁ with heap := s₁.heap.push o } := T₁.trans (Tf.push (tk := s₁.toks) T₁.at_)
    have L₂ : Lone X env Pv W₁ σ₁.H (s₁.heap.push o) s₁.heap.objs.size := Lone.new T₁.at_ nI ⟨o, Heap.get?_push_size _ hfo⟩
    have nI₀ := not_there nI T₁.stp.there
    generalize s₁.heap.objs.size = I at nI₀ L₂ hit ⊢
    refine codeAny_forLoop_any (LpI X env Pv W σ s I v xs fun ys σ' => loopGo (fun v σ₂ k => bindT ts v σ₂ fun σ₃ => wpSs X.P (CW X.P n) body σ₃ k noE) (still v xs) ys σ' Q) (fun m s' hI => ?_) xs.length ⟨0, W₁, σ₁, xs, T₂, hit, L₂, ⟨rfl, Nat.zero_add _, rfl⟩, q⟩
    obtain ⟨k, W', σ', ys, T, hit', L, st, q⟩ := hI
    cases ys with
    | nil =>
      cases st.nil
      exact next_end (ok.hh hhd) T.at_.rel hit' q.1 fun h' hs => wpAny_execs_nil ((T.poke (tk := s'.toks) nI₀ L hs).flow .next q.2)
    | cons u us =>
      obtain ⟨hu, lt, st'⟩ := st.cons
      refine next_item T.at_.rel hit' q.1 hu fun cu h' tk hcu hit'' hs => it_go hit'' ?_
      have T' := T.poke (tk := tk) nI₀ L hs
      have L' : Lone X env Pv W' σ'.H h' I := ⟨L.own, L.z, L.pv, L.cell, L.fr, hit''.there⟩
      refine ht A env Pv W' σ' _ cu u _ _ _ ok hf (ok.hh hhd) T'.at_ hcu q.2 fun s₃ σ₃ T₃ q => ?_
      have L₃ := L'.step T₃.stp
      have it₃ := hit''.keep T₃.stp.le (L'.keep T₃.stp)
      refine wpAny_mono (hb A env Pv W' _ s₃ _ noE ok hf T₃.at_ q) (fun fl s₄ q => q.e fun W₄ σ₄ T₄ q => q.e fun af hfr q₄ => ?_) fun _ _ z => z.no.elim
      have T'' := (T'.trans T₃).trans T₄
      have again := fun g => (⟨us.length, lt, k + 1, W₄, σ₄, us, T'', it₃.keep T₄.stp.le (L₃.keep T₄.stp), L₃.step T₄.stp, st', g⟩ : ∃ m', m' < m ∧ LpI X env Pv W σ s I v xs (fun ys σ' => loopGo (fun v σ₂ k => bindT ts v σ₂ fun σ₃ => wpSs X.P (CW X.P n) body σ₃ k noE) (still v xs) ys σ' Q) m' s₄)
      cases hfr with
      | next => exact again q₄
      | cont => exact again q₄
      | brk => exact T''.flow .next q₄
      | ret hr => exact T''.flow (.ret hr) q₄) (folded_no hx)

inductive WhI (X : Cx) (env : Env) (Pv : Pr) (W : Wd) (σ : St) (s : Shared) (go : Nat → St → Prop) (m : Nat) (s' : Shared) : Prop
  | mk (W' : Wd) (σ' : St) (t : Tf X env Pv W σ s W' σ' s') (q : go m σ')
theorem snd_while {t : PC} {body : PSs} {x : Expr} {b : List Stmt} {pos : Pos} (ht : ST X n sc t x) (hb : SS X n sc body b) : S1 X n sc (.while_ t body) (.While x b [] pos) := fun A env Pv W σ s Q E ok hf at_ h => h.elim fun k h =>
  wpAny_While (codeAny_whileLoop (WhI X env Pv W σ s fun m σ' => whileGo (fun σ₁ k => wpT X.P (CW X.P n) noE t σ₁ k) (fun σ₁ k => wpSs X.P (CW X.P n) body σ₁ k noE) m σ' Q) (fun m s' hI => by
    obtain ⟨W', σ', T, q⟩ := hI
    cases m with
    | zero => exact q.elim
    | succ m =>
      refine wpAny_mono (ht A env Pv W' σ' s' _ noE ok T.at_ q) (fun c s₁ q => q.e fun W₁ σ₁ T₁ q₁ => ?_) fun _ _ z => z.no.elim
      cases c with
      | false => exact wpAny_execs_nil ((T.trans T₁).flow .next q₁)
      | true =>
        refine wpAny_mono (hb A env Pv W₁ σ₁ s₁ _ noE ok hf T₁.at_ q₁) (fun fl s₂ q => q.e fun W₂ σ₂ T₂ q => q.e fun af hfr q₂ => ?_) fun _ _ z => z.no.elim
        have T' := (T.trans T₁).trans T₂
        cases hfr with
        | next => exact ⟨m, Nat.lt_succ_self _, W₂, σ₂, T', q₂⟩
        | cont => exact ⟨m, Nat.lt_succ_self _, W₂, σ₂, T', q₂⟩
        | brk => exact T'.flow .next q₂
        | ret hr => exact T'.flow (.ret hr) q₂) k ⟨W, σ, .refl at_, h⟩)
end
end Mine

end

section
set_option autoImplicit false
set_option linter.all false
set_option genSizeOf false
set_option genInjectivity false
namespace Mine
open PySem PySem.W PySem.Calls PyProof.Rows
theorem fold_len {M : List Int} : ∀ {p : List Int × SetTable}, (M.foldl addT p).1.length ≤ p.1.length + M.length := by
  induction M with
  | nil => exact Nat.le_refl _
  | cons i M ih =>
    intro p
    have a := ih (p := addT p i)
    have b := addT_len (p := p) (i := i)
    rw [List.foldl_cons, List.length_cons]; omega
/-- what uniB says -/
inductive UniR (led : Bool) (l m : List Int) (p q : List Int × SetTable) : Prop
  | mk (c r : List Int × SetTable) (h1 : copyT led p = some c) (h2 : roomT c q.1.length = some r) (h3 : q.2.led = led) (h4 : q.2.plain = true) (h5 : q.1 ≠ []) (h6 : r.2.fill ≠ 0) (h7 : p.1.length < 64) (h8 : c.1.length < 64) (h9 : r.1.length + q.1.length < 64)
      (h10 : r.1.Nodup) (h11 : mkSet (r.1 ++ q.1) = mkSet (l ++ m)) (h12 : led = true → walkT (q.1.foldl addT r).2 = true)
theorem uni_e {led : Bool} {l m : List Int} (h : uniB led l m = true) : UniR led l m (l.foldl addT ([], .fresh 0 0 led)) (m.foldl addT ([], .fresh 0 0 led)) := by
  unfold uniB at h
  generalize l.foldl addT ([], .fresh 0 0 led) = p at h ⊢
  generalize m.foldl addT ([], .fresh 0 0 led) = q at h ⊢
  cases h1 : copyT led p with
  | none => rw [h1] at h; cases h
  | some c =>
    rw [h1] at h
    dsimp only at h
    cases h2 : roomT c q.1.length with
    | none => rw [h2] at h; cases h
    | some r =>
      rw [h2] at h
      dsimp only at h
      simp only [Bool.and_eq_true] at h
      obtain ⟨⟨⟨⟨⟨⟨⟨⟨⟨⟨⟨a1, a2⟩, a3⟩, a4⟩, a5⟩, a6⟩, a7⟩, a8⟩, a9⟩, a10⟩, a11⟩, a12⟩ := h
      refine ⟨c, r, h1, h2, beq_iff_eq.mp a1, a2, fun z => ?_, fun z => ?_, Nat.blt_eq.mp a5, Nat.blt_eq.mp a6, Nat.blt_eq.mp a7, of_decide_eq_true a10, beq_iff_eq.mp a11, fun z => ?_⟩
      · rw [z] at a3; cases a3
      · rw [z] at a4; cases a4
      · rw [z] at a12; exact a12
section
variable {X : Cx} {n : Nat} {sc : Sc} {A : Around} {env : Env} {Pv : Pr} {W : Wd} {σ : St} {s : Shared} {E : EP}
/-- a set of ints that is changed no more -/
inductive SetZ (W : Wd) (a : Addr) (p : List Int × SetTable) : Prop
  | mk (o : Obj) (z : W.Z a = some o) (k : ∀ h : Heap, h.get? a = some o → SetT h a p)
theorem SetZ.le {W' : Wd} {a : Addr} {p : List Int × SetTable} (S : SetZ W a p) (h : Wd.Le W W') : SetZ W' a p := by
  obtain ⟨o, z, k⟩ := S; exact ⟨o, h.zz _ _ z, k⟩
theorem SetZ.t {H : Hp} {h : Heap} {a : Addr} {p : List Int × SetTable} (S : SetZ W a p) (R : RelH X W H h) : SetT h a p := by
  obtain ⟨o, z, k⟩ := S; exact k h (R.z _ _ z)
theorem SetT.z {h' : Heap} {tk : Nat} {a : Addr} {p : List Int × SetTable} (S : SetT h' a p) (at_ : At X env Pv W σ s) (hk : ∀ b o, s.heap.get? b = some o → h'.get? b = some o) (hn : s.heap.get? a = none) :
    ∃ W', Tf X env Pv W σ s W' σ { s with heap := h', toks := tk } ∧ SetZ W' a p := by
  obtain ⟨o, es, ep, ho, hx, hd, e, f⟩ := S
  exact ⟨_, (Tc.frozen (tk := tk) at_.rel hk hn ho).tf at_, o, addZ_self, fun h g => ⟨o, es, ep, g, hx, hd, e, f⟩⟩
/-- a built-in class, called with one thing -/
theorem call1 {c : Ck} {T : String} {b : B} {j : Nat} {a : PE} {x : Str} {p pos : Pos} {y : Expr} (hf : SE X n sc (.glob j) (.Name x p)) (ha : SE X n sc a y) (hc : chkE c sc a y = true) (hg : X.P.glob j = some (.bt b)) (hb : bval b = .type T) (ok : EnvOk X A env Pv n sc) (at_ : At X env Pv W σ s) {Qa : V → St → Prop} (h : wpE X.P (CW X.P n) E a σ Qa) {Q : Value → Shared → Prop}
    (k : ∀ W₂ σ₂ s₂ v z, Tf X env Pv W σ s W₂ σ₂ s₂ → VR X W₂ v z → Qa z σ₂ → wpAny (model X.prog X.w) A (call (.type T) [v]) Q (EX X env Pv W σ s E) s₂) :
    wpAny (model X.prog X.w) A (eval (.Call (.Name x p) [y] [] pos) env) Q (EX X env Pv W σ s E) s := by
  have hc' : chkEs c sc (.cons a .nil) [y] = true := by show (chkE c sc a y && true) = true; rw [hc]; rfl
  rw [eval_Call_Name, back_plain hc']
  refine wpAny_bind (wpAny_mono (hf A env Pv W σ s (fun v σ₁ => v = .bt b ∧ σ₁ = σ) E ok at_ (need_i hg ⟨rfl, rfl⟩)) (fun cf s₁ q => q.e fun W₁ σ₁ T₁ q => q.e fun v hv q => ?_) fun _ _ z => z)
  obtain ⟨rfl, rfl⟩ := q
  cases hv
  rw [hb]
  exact PyProof.Rows.callWith_type plain_any (evalArgs_all plain_all (spliced_cons (wpAny_mono (ha A env Pv W₁ σ₁ s₁ _ E ok T₁.at_ h) (fun v s₂ q => q.e fun W₂ σ₂ T₂ q => q.e fun z hz h => spliced_nil (k W₂ σ₂ s₂ v z (T₁.trans T₂) hz h)) fun _ _ z => z.back T₁)))
inductive SuQ (X : Cx) (s : Shared) (K : List Int → St → Prop) (v : Value) (W' : Wd) (σ' : St) (s' : Shared) : Prop
  | mk (a : Addr) (l : List Int) (e : v = .ref a) (S : SetZ W' a (l.foldl addT ([], .fresh 0 0 (ledW X.w)))) (nw : s.heap.get? a = none) (h : K l σ')
theorem isSetB_e {g : V} (h : isSetB g = true) : g = .bt .set := by
  cases g with
  | bt b => cases b <;> first | rfl | (cases h; done)
  | _ => cases h
theorem isEnu_e {g : V} (h : isEnu g = true) : g = .bt .enumerate := by
  cases g with
  | bt b => cases b <;> first | rfl | (cases h; done)
  | _ => cases h
theorem set_of {c : Ck} {j : Nat} {a : PE} {x : Str} {p pos : Pos} {y : Expr} (hf : SE X n sc (.glob j) (.Name x p)) (ha : SE X n sc a y) (hc : chkE c sc a y = true) (hd : sc.hd = true) (hg : X.P.glob j = some (.bt .set)) {Q : List Int → St → Prop} (ok : EnvOk X A env Pv n sc) (at_ : At X env Pv W σ s)
    (h : wpE X.P (CW X.P n) E a σ fun v σ₁ => need (see σ₁.H v) fun p => intsK p fun l => Nd (l.length < 64) (Q l σ₁)) : Ew X A env Pv (eval (.Call (.Name x p) [y] [] pos) env) W σ s (SuQ X s Q) E :=
  call1 hf ha hc hg rfl ok at_ h fun W₂ σ₂ s₂ v z T hz h => need_e h fun y' ey h => need_e h fun xs ex h => need_e h fun is ei h => by
    obtain ⟨l, vs, m, rfl, g, r, q, zz⟩ := (see_ok T.at_.rel hz ey).toLst ex
    have I := ints_are r ei
    refine set_list (ok.hh hd) (isList_of g) I (Nat.lt_of_lt_of_le (Nat.succ_lt_succ h.1) (by decide)) fun h' tk S hk => ?_
    obtain ⟨W', T', S'⟩ := S.z (tk := tk) T.at_ hk (push_none _)
    exact ⟨W', σ₂, T.trans T', _, is, rfl, S', not_there (push_none _) T.stp.there, h.2⟩
inductive SvQ (X : Cx) (l m : List Int) (K : St → Prop) (v : Value) (W' : Wd) (σ' : St) (s' : Shared) : Prop
  | mk (a : Addr) (p : List Int × SetTable) (e : v = .ref a) (S : SetZ W' a p) (hw : ledW X.w = true → walkT p.2 = true) (hl : p.1.length < 64) (hn : p.1.Nodup) (hm : ∀ ns : List Int, ns.Perm p.1 → ns.Pairwise (· ≤ ·) → ns = mkSet (l ++ m)) (h : K σ')
theorem or_of {a b : Addr} {l m : List Int} {K : St → Prop} (at_ : At X env Pv W σ s) (Sa : SetZ W a (l.foldl addT ([], .fresh 0 0 (ledW X.w)))) (Sb : SetZ W b (m.foldl addT ([], .fresh 0 0 (ledW X.w)))) (hab : a ≠ b) (hu : uniK l m = true) (h : K σ) :
    Ew X A env Pv (binaryOp .BitOr (.ref a) (.ref b)) W σ s (SvQ X l m K) E := by
  have hu' : uniB (ledW X.w) l m = true := by
    have hu := (Bool.and_eq_true ..).mp hu
    cases ledW X.w with
    | true => exact hu.1
    | false => exact hu.2
  obtain ⟨c, r, h1, h2, h3, h4, h5, h6, h7, h8, h9, h10, h11, h12⟩ := uni_e hu'
  have sb : 64 < scanBound := by decide
  refine or_ok hab (Sa.t at_.rel) (Sb.t at_.rel) (Nat.lt_trans h7 sb) h1 (Nat.lt_trans h8 sb) h3 h4 h5 h2 h6 (by omega) fun h' M hk S hp hl => ?_
  obtain ⟨W', T', S'⟩ := S.z (tk := s.toks) at_ hk (push_none _)
  have hd : (M.foldl addT r).1.Nodup := addT_nodup h10
  refine ⟨W', σ, T', _, _, rfl, S', fun z => ?_, ?_, hd, fun ns p1 p2 => ?_, h⟩
  · rw [hl z]; exact h12 z
  · exact Nat.lt_of_le_of_lt fold_len (hp.length_eq ▸ h9)
  · rw [← h11]
    exact mkSet_uniq p2 (p1.nodup_iff.mpr hd) fun i => by rw [p1.mem_iff, addT_mem, List.mem_append, hp.mem_iff]
theorem snd_su {c : Ck} {fz : Bool} {i j : Nat} {a b : PE} {x x1 x2 : Str} {p p1 p2 q1 q2 pb pos : Pos} {ya yb : Expr} (hf : SE X n sc (.glob i) (.Name x p)) (hf1 : SE X n sc (.glob j) (.Name x1 p1)) (hf2 : SE X n sc (.glob j) (.Name x2 p2)) (ha : SE X n sc a ya) (hca : chkE c sc a ya = true) (hb : SE X n sc b yb) (hcb : chkE c sc b yb = true) (hd : sc.hd = true) :
    SE X n sc (.sortedU fz i j a b) (.Call (.Name x p) [.BinOp (.Call (.Name x1 p1) [ya] [] q1) .BitOr (.Call (.Name x2 p2) [yb] [] q2) pb] [] pos) := by
  intro A env Pv W σ s Q E ok at_ h
  refine need_e h fun g hg h => ?_
  cases isSrt_e h.1
  refine need_e h.2 fun g hg' h => ?_
  cases isSetB_e h.1
  have h := h.2
  rw [eval_Call_Name]
  show Ew X A env Pv (eval (.Name x p) env >>= fun f => callWith pos f [] (([.BinOp (.Call (.Name x1 p1) [ya] [] q1) .BitOr (.Call (.Name x2 p2) [yb] [] q2) pb] : List Expr).map fun e => (false, eval e env)) []) W σ s _ E
  refine wpAny_bind (wpAny_mono (hf A env Pv W σ s (fun v σ₁ => v = .bt .sorted ∧ σ₁ = σ) E ok at_ (need_i hg ⟨rfl, rfl⟩)) (fun cf s₁ q => q.e fun W₁ σ₁ T₁ q => q.e fun v hv q => ?_) fun _ _ z => z)
  obtain ⟨rfl, rfl⟩ := q
  cases hv
  show wpAny _ A (callWith pos (.builtin "sorted") [] _ _) _ _ _
  have key : Ew X A env Pv (eval (.BinOp (.Call (.Name x1 p1) [ya] [] q1) .BitOr (.Call (.Name x2 p2) [yb] [] q2) pb) env) W₁ σ₁ s₁ (fun v W' σ' s' => ∃ l m, SvQ X l m (fun σ₂ => give fz σ₂ Q (.newList ((mkSet (l ++ m)).map .int))) v W' σ' s') E := by
    rw [eval_BinOp]
    refine Ew.bindT ((set_of hf1 ha hca hd hg' ok T₁.at_ h).mono fun v W₂ σ₂ s₂ at₂ q _ le => ?_)
    obtain ⟨a', l, rfl, Sa, _, h⟩ := q
    refine Ew.bindT (Ew.holding ((set_of hf2 hb hcb hd hg' ok at₂ h).mono fun v W₃ σ₃ s₃ at₃ q _ le => ?_))
    obtain ⟨b', m, rfl, Sb, nb, h⟩ := q
    refine Ew.standAt (Ew.operate ((or_of at₃ (Sa.le le) Sb (fun z => ?_) h.1 h.2).mono fun v W₄ σ₄ s₄ _ q => ⟨l, m, q⟩))
    subst z
    obtain ⟨o, es, ep, ho, _⟩ := Sa.t at₂.rel
    rw [nb] at ho; cases ho
  refine callWith_builtin plain_any (evalArgs_all plain_all (spliced_cons (wpAny_mono key (fun v s₂ q => q.e fun W₂ σ₂ T₂ q => spliced_nil ?_) fun _ _ z => z.back T₁)))
  obtain ⟨l, m, a', P, rfl, S, hw, hl, hn, hm, h⟩ := q
  have T := T₁.trans T₂
  refine sorted_set (ok.hh hd) (S.t T.at_.rel) hw hl fun D out c' h' tk ns hD hk hc hi hp hs => ?_
  cases hm ns hp hs
  exact (OpQ.from (A := A) T).list T.at_.rel (of_ints hi) hk hD hc h
/-- «for .. in enumerate(nothing)» -/
theorem snd_enum {c : Ck} {g i j : Nat} {a : PE} {body : PSs} {t : Expr} {b : List Stmt} {x : Str} {p q pos : Pos} {y : Expr} (hf : SE X n sc (.glob g) (.Name x p)) (ha : SE X n sc a y) (hc : chkE c sc a y = true) (hd : sc.hd = true) : S1 X n sc (.loopEnum g i j a body) (.For t (.Call (.Name x p) [y] [] q) b [] pos) := fun A env Pv W σ s Q E ok hfn at_ h => by
  refine need_e h fun w hg h => ?_
  cases isEnu_e h.1
  refine wpAny_For ?_ (fun _ => rfl)
  refine call1 hf ha hc hg rfl ok at_ h.2 fun W₂ σ₂ s₂ v z T hz h => need_e h fun y' ey h => need_e h fun xs ex h => ?_
  obtain ⟨l, vs, m, rfl, gg, r, q, zz⟩ := (see_ok T.at_.rel hz ey).toLst ex
  obtain ⟨h0, h⟩ := h
  subst h0
  have vs0 : vs[0]? = none := Array.getElem?_eq_none (Nat.le_of_eq zz)
  have hL : s₂.heap.IsList l vs := isList_of gg
  refine call_enumerate_list hL fun h' hE hI hsz hk => ?_
  refine wpAny_pyIter_enum hE ?_
  refine codeAny_forLoop_any (fun _ s' => s' = { s₂ with heap := h' }) (fun m s' e => ?_) 0 rfl
  subst e
  refine wpAny_pyNext_enum_end (ok.hh hd) hE hI (l := l) (items := vs) (hL.at fun o e => hk _ o e) vs0 fun h'' ex => ?_
  have hk' : ∀ b ob, s₂.heap.get? b = some ob → h''.get? b = some ob := fun b ob e => ex b ob (fun z => absurd (Heap.lt_size e) (z ▸ Nat.lt_irrefl _)) (hk b ob e)
  have T' : Tf X env Pv W σ s W₂ σ₂ { s₂ with heap := h'' } := T.trans (Tc.tf T.at_ ⟨.quiet (fun a o q _ => hk' a o q) fun a o q => ⟨o, hk' a o q⟩, T.at_.rel.quiet (Pv := noPv) (fun a o q _ => hk' a o q) fun _ z => z.elim, ⟨rfl, rfl, rfl⟩⟩)
  exact wpAny_execs_nil (T'.flow .next h)
end
end Mine

end

section
set_option autoImplicit false
set_option linter.all false
set_option genSizeOf false
set_option genInjectivity false
namespace Mine
open PySem PySem.W PySem.Calls PyProof.Rows

section
variable {X : Cx} {n : Nat} {sc : Sc}

/-- a name's kind, in a comprehension -/
noncomputable def rl (env : Env) (x : Str) (k : NameKind) : NameKind := if (k == NameKind.free && env.scope.kind == .function && env.kindOf x == some .cell) then NameKind.cell else k
theorem rl_local {env : Env} {x : Str} {k : NameKind} (h : rl env x k = .local) : k = .local := by
  cases k with
  | «local» => rfl
  | free =>
    unfold rl at h
    split at h
    · cases h
    · exact h
  | _ => cases h
theorem rl_free {env : Env} {x : Str} {k : NameKind} (nk : k ≠ .cell) (h : rl env x k = .cell ∨ rl env x k = .free) : k = .free := by
  cases k with
  | free => rfl
  | cell => exact absurd rfl nk
  | _ => rcases h with h | h <;> cases h
theorem rl_is {env : Env} {x : Str} (k : NameKind) : rl env x k = k ∨ (k = .free ∧ rl env x k = .cell) := by
  cases k with
  | free =>
    unfold rl
    split
    · exact .inr ⟨rfl, rfl⟩
    · exact .inl rfl
  | _ => exact .inl rfl
theorem lookup_relabel {env : Env} (x : Str) (names : List (Str × NameKind)) : (names.map fun (n, k) => if (k == NameKind.free && env.scope.kind == .function && env.kindOf n == some .cell) then (n, NameKind.cell) else (n, k)).lookup x = (names.lookup x).map (rl env x) := by
  induction names with
  | nil => rfl
  | cons p r ih =>
    obtain ⟨y, k⟩ := p
    have e : (if (k == NameKind.free && env.scope.kind == .function && env.kindOf y == some .cell) = true then (y, NameKind.cell) else (y, k)) = (y, rl env y k) := by unfold rl; split <;> rfl
    rw [List.map_cons]
    show List.lookup x ((if (k == NameKind.free && env.scope.kind == .function && env.kindOf y == some .cell) = true then (y, NameKind.cell) else (y, k)) :: _) = _
    rw [e, List.lookup_cons, List.lookup_cons, ih]
    cases hx : x == y with
    | true => rw [eq_of_beq hx]; rfl
    | false => rfl
theorem lookup_mem {α β : Type} [BEq α] [LawfulBEq α] {l : List (α × β)} {x : α} {k : β} (h : l.lookup x = some k) : (x, k) ∈ l := by
  induction l with
  | nil => cases h
  | cons p r ih =>
    obtain ⟨y, j⟩ := p
    rw [List.lookup_cons] at h
    cases hb : x == y with
    | true => rw [hb] at h; cases h; rw [eq_of_beq hb]; exact .head _
    | false => rw [hb] at h; exact .tail _ (ih h)
theorem uniq_lookup {l : List (Str × NameKind)} (hu : uniq l = true) {x : Str} {k : NameKind} (h : (x, k) ∈ l) : l.lookup x = some k := by
  induction l with
  | nil => cases h
  | cons p r ih =>
    obtain ⟨y, j⟩ := p
    refine and_e hu fun h1 h2 => ?_
    rw [List.lookup_cons]
    rcases List.mem_cons.mp h with q | q
    · cases q; rw [beq_self_eq_true]
    · rw [show (x == y) = false from Bool.not_eq_true' _ ▸ List.all_eq_true.mp h1 _ q]; exact ih h2 q

/-- what is known of a comprehension's names -/
structure ScOk (X : Cx) (sc : Sc) (sc' : Scope) (ts : List Nat) : Prop where
  kind : sc'.kind = .function
  uniq : uniq sc'.names = true
  cell : ∀ x, (x, NameKind.cell) ∉ sc'.names
  free : ∀ x, (x, NameKind.free) ∈ sc'.names → (Nat.beq (knd sc x) 2 || Nat.beq (knd sc x) 3) = true
  loc : ∀ i, (X.nm i, NameKind.local) ∈ sc'.names → X.nm i = (".0" : Str) ∨ ∃ j ∈ ts, X.nm i = X.nm j
theorem sc_ok {sc' : Scope} {ts : List Nat} (h : chkSc X.nm sc sc' ts = true) : ScOk X sc sc' ts := and3_e h fun h1 h2 h3 => by
  have a := List.all_eq_true.mp h3
  refine ⟨?_, h2, fun x hx => (nomatch a _ hx), fun x hx => a _ hx, fun i hx => ?_⟩
  · cases e : sc'.kind <;> rw [e] at h1 <;> first | rfl | cases h1
  · rcases Bool.or_eq_true_iff.mp (a _ hx) with q | q
    · exact .inl (eq_of_beq q)
    · obtain ⟨j, hj, q⟩ := List.any_eq_true.mp q
      exact .inr ⟨j, hj, of_decide_eq_true q⟩
section
variable {A : Around} {env : Env} {Pv : Pr} {sc' : Scope} {ts : List Nat}
theorem out_of {x : Str} (ok : EnvOk X A env Pv n sc) (h : (Nat.beq (knd sc x) 2 || Nat.beq (knd sc x) 3) = true) : env.kindOf x = some .cell ∨ env.kindOf x = some .free := by
  rcases Bool.or_eq_true_iff.mp h with q | q
  · exact .inl (kind_of ok q (by decide) (by decide))
  · exact (ok.names _ _ (knd_of (Nat.eq_of_beq_eq_true q) (by decide))).elim .inr fun z => .inl z.2

/-- the closure of a comprehension -/
inductive ClO (env : Env) (names : List (Str × NameKind)) (cs : List (Str × Addr)) (f : Str × NameKind → List (Str × Addr) → Sem (ForInStep (List (Str × Addr)))) : Prop
  | mk (cl : List (Str × Addr)) (h1 : forIn names cs f = (pure cl : Sem (List (Str × Addr)))) (h2 : ∀ x c, cl.lookup x = some c → env.cells.lookup x = some c) (h3 : ∀ x, (x, NameKind.free) ∈ names → ∃ c, cl.lookup x = some c) (h4 : ∀ x c, cs.lookup x = some c → ∃ c', cl.lookup x = some c')
theorem lookup_eq {α : Type} {x y : Str} {c : α} {r : List (Str × α)} (h : (x == y) = true) : ((y, c) :: r).lookup x = some c := by rw [List.lookup_cons, h]
theorem lookup_ne {α : Type} {x y : Str} {c : α} {r : List (Str × α)} (h : (x == y) = false) : ((y, c) :: r).lookup x = r.lookup x := by rw [List.lookup_cons, h]
theorem closure_go {env : Env} {f : Str × NameKind → List (Str × Addr) → Sem (ForInStep (List (Str × Addr)))} (hf : ∀ x k r, f (x, k) r = if (k == NameKind.free) = true then (do let c ← cellOf env x; pure (.yield ((x, c) :: r))) else pure (.yield r))
    (names : List (Str × NameKind)) : ∀ cs : List (Str × Addr), (∀ x, (x, NameKind.free) ∈ names → ∃ c, env.cells.lookup x = some c) → (∀ x c, cs.lookup x = some c → env.cells.lookup x = some c) → ClO env names cs f := by
  induction names with
  | nil => exact fun cs _ hc => ⟨cs, rfl, hc, fun _ h => (nomatch h), fun _ c e => ⟨c, e⟩⟩
  | cons p r ih =>
    intro cs hn hc
    obtain ⟨y, k⟩ := p
    have hn' : ∀ x, (x, NameKind.free) ∈ r → ∃ c, env.cells.lookup x = some c := fun x h => hn x (.tail _ h)
    by_cases hk : (k == NameKind.free) = true
    · have e : k = .free := by cases k <;> first | rfl | cases hk
      subst e
      obtain ⟨c, ec⟩ := hn y (.head _)
      obtain ⟨cl, h1, h2, h3, h4⟩ := ih ((y, c) :: cs) hn' fun x d q => by
        cases hb : x == y with
        | true => rw [lookup_eq hb] at q; cases q; rw [eq_of_beq hb]; exact ec
        | false => rw [lookup_ne hb] at q; exact hc x d q
      refine ⟨cl, ?_, h2, fun x hx => ?_, fun x d q => ?_⟩
      · rw [List.forIn_cons, hf, if_pos hk, show cellOf env y = pure c by unfold cellOf; rw [ec], ← h1]; rfl
      · rcases List.mem_cons.mp hx with q | q
        · cases q; exact h4 y c (lookup_eq (beq_self_eq_true y))
        · exact h3 x q
      · cases hb : x == y with
        | true => exact h4 x c (lookup_eq hb)
        | false => exact h4 x d ((lookup_ne hb).trans q)
    · obtain ⟨cl, h1, h2, h3, h4⟩ := ih cs hn' hc
      refine ⟨cl, ?_, h2, fun x hx => ?_, h4⟩
      · rw [List.forIn_cons, hf, if_neg hk, ← h1]; rfl
      · rcases List.mem_cons.mp hx with q | q
        · cases q; exact absurd rfl hk
        · exact h3 x q
/-- what a comprehension's frame is made of -/
structure CompFacts (X : Cx) (sc : Sc) (sc' : Scope) (env : Env) (ts : List Nat) (cl : List (Str × Addr)) : Prop extends ScOk X sc sc' ts where
  clos : closureFor sc' env = pure cl
  h2 : ∀ x c, cl.lookup x = some c → env.cells.lookup x = some c
  h3 : ∀ x, (x, NameKind.free) ∈ sc'.names → ∃ c, cl.lookup x = some c
theorem comp_facts (ok : EnvOk X A env Pv n sc) (hsc : chkSc X.nm sc sc' ts = true) : ∃ cl, CompFacts X sc sc' env ts cl := by
  have S := sc_ok hsc
  obtain ⟨cl, h1, h2, h3, _⟩ := closure_go (env := env) (f := fun (x : Str × NameKind) r => if (x.2 == NameKind.free) = true then (do let c ← cellOf env x.1; pure (.yield ((x.1, c) :: r))) else pure (.yield r)) (fun _ _ _ => rfl) sc'.names [] (fun x hx => ok.cl x (out_of ok (S.free x hx))) (fun x c q => by cases q)
  refine ⟨cl, S, ?_, h2, h3⟩
  show (forIn sc'.names [] (fun (x : Str × NameKind) r => if (x.2 == NameKind.free) = true then (do let c ← cellOf env x.1; pure (.yield ((x.1, c) :: r))) else pure (.yield r)) >>= fun r => pure r) = pure cl
  rw [h1]; rfl

/-- the place of a comprehension's own names -/
noncomputable def only (C : Addr) (st : List Env) : Pr := ⟨fun a => a = C, st⟩
theorem kind_in {cl : List (Str × Addr)} {C : Addr} (x : Str) : (compEnvC sc' cl C env).kindOf x = (sc'.names.lookup x).map (rl env x) := lookup_relabel x sc'.names
/-- a name from around -/
theorem CompFacts.out {cl : List (Str × Addr)} {C : Addr} {x : Str} (F : CompFacts X sc sc' env ts cl) (e : (compEnvC sc' cl C env).kindOf x = some .cell ∨ (compEnvC sc' cl C env).kindOf x = some .free) : (x, NameKind.free) ∈ sc'.names := by
  rw [kind_in] at e
  cases hq : sc'.names.lookup x with
  | none => rw [hq] at e; rcases e with e | e <;> cases e
  | some k =>
    rw [hq] at e
    have m := lookup_mem hq
    cases rl_free (fun z => F.cell x (z ▸ m)) (e.imp Option.some.inj Option.some.inj)
    exact m
theorem comp_env {cl : List (Str × Addr)} {C : Addr} (ok : EnvOk X A env Pv n sc) (F : CompFacts X sc sc' env ts cl) (hhd : sc.hd = true) : EnvOk X A (compEnvC sc' cl C env) (only C Pv.st) n ⟨sc', true⟩ := by
  refine ⟨ok.stk, fun z => absurd rfl z, ok.ok, fun _ => ok.hh hhd, F.kind, ok.glob, ok.bi, fun x k e => ?_, fun x e => F.h3 x (F.out e)⟩
  rw [kind_in, show sc'.names.lookup x = some k from e]
  exact (rl_is k).imp (congrArg some) fun z => ⟨z.1, congrArg some z.2⟩

/-- the comprehension's frame at its start -/
theorem comp_at (K : CxOk X) {W : Wd} {σ : St} {s : Shared} {cl : List (Str × Addr)} {C : Addr} {h' : Heap} {tk : Nat} (ok : EnvOk X A env Pv n sc) (at_ : At X env Pv W σ s) (F' : CompFacts X sc sc' env ts cl)
    (hn : s.heap.get? C = none) (hk : ∀ b o, s.heap.get? b = some o → h'.get? b = some o) (hC : ∃ m, h'.Ns C m) : At X (compEnvC sc' cl C env) (only C Pv.st) W ⟨σ.H, unbs ts σ.loc⟩ { s with heap := h', toks := tk } := by
  have F := at_.fr
  have L : Lone X env Pv W σ.H h' C := Lone.new at_ hn (let ⟨_, o, _, _, ho, _⟩ := hC; ⟨o, ho⟩)
  have ub : ∀ i v, unbs ts σ.loc i = some v → i ∉ ts ∧ σ.loc i = some v := fun i v e => by
    have e' : (if ts.contains i then none else σ.loc i) = some v := e
    by_cases hi : i ∈ ts
    · rw [if_pos (List.contains_iff_mem.mpr hi)] at e'; cases e'
    · rw [if_neg (fun z => hi (List.contains_iff_mem.mp z))] at e'; exact ⟨hi, e'⟩
  refine ⟨at_.rel.quiet (Pv := noPv) (fun b o e _ => hk b o e) fun _ z => z.elim, ?_, fun i v e k => ?_, fun x ef _ => absurd rfl ef, fun x y c e e' => F.cellEq x y c (F'.h2 _ _ e) (F'.h2 _ _ e'), fun x c e => ?_, rfl, fun a e => ?_, fun a e => ?_, fun e he => (F.frs e he).keep fun K o es n a b c d f => ⟨⟨o, es, n, hk _ _ b, c⟩, d, f⟩, fun x c q => F.frc x c (F'.h2 _ _ q)⟩
  · obtain ⟨m, hm⟩ := hC
    refine ⟨m, hm, fun i v e k => ?_⟩
    rw [kind_in] at k
    cases hq : sc'.names.lookup (X.nm i) with
    | none => rw [hq] at k; cases k
    | some kk =>
      rw [hq] at k
      cases rl_local (Option.some.inj k)
      rcases F'.loc i (lookup_mem hq) with q | ⟨j, hj, q⟩
      · exact absurd q (K.dot i)
      · exact absurd (K.inj _ _ q ▸ hj) (ub i v e).1
  · have hm := F'.out k
    obtain ⟨c, cv, hc, ⟨o, ho, hd⟩, hv⟩ := F.cells i v (ub i v e).2 (out_of ok (F'.free _ hm))
    obtain ⟨c', hc'⟩ := F'.h3 _ hm
    cases Option.some.inj ((F'.h2 _ _ hc').symm.trans hc)
    exact ⟨c, cv, hc', ⟨o, hk _ _ ho, hd⟩, hv⟩
  · obtain ⟨p, q, o, ho⟩ := F.cellNs x c (F'.h2 _ _ e)
    exact ⟨fun z => (by rw [show c = C from z, hn] at ho; cases ho), q, o, hk _ _ ho⟩
  · rw [show a = C from e]; exact ⟨L.own, L.z⟩
  · rw [show a = C from e]; exact L.at_
end

/-- a lone list is taken up -/
inductive AdL (X : Cx) (fz : Bool) (W : Wd) (H : Hp) (s : Shared) (W' : Wd) (H' : Hp) (s' : Shared) (D : Addr) (xs : List V) : Prop
  | mk (W'' : Wd) (H'' : Hp) (t : Tc X W H s W'' H'' s') (r : Res X fz H' (.newList xs) (.ref D) W'' H'') (o : ∀ b, b ≠ D → ¬ Own W' H' b → W'.Z b = none → ¬ Own W'' H'' b ∧ W''.Z b = none)
theorem adopt_list {W W' : Wd} {H H' : Hp} {s s' : Shared} {D : Addr} {vs : Array Value} {k : Nat} {xs : List V} {fz : Bool} (T : Tc X W H s W' H' s') (hn : s.heap.get? D = none) (ho : ¬ Own W' H' D) (hz : W'.Z D = none)
    (hg : s'.heap.get? D = some (lstO vs k)) (hv : VRs X W' vs.toList xs) (hl : xs.length ≤ SZ) : AdL X fz W H s W' H' s' D xs := by
  have hD : (hideAll s'.heap [D]).get? D = none := hideAll_none _ (.head _)
  have of : ∀ b o, (hideAll s'.heap [D]).get? b = some o → s'.heap.get? b = some o := fun b o e => of_hideAll _ e
  have to : ∀ b o, b ≠ D → s'.heap.get? b = some o → (hideAll s'.heap [D]).get? b = some o := fun b o n e => hideAll_get _ e (by simpa using n)
  have R : RelH X W' H' (hideAll s'.heap [D]) := T.rel.quiet (Pv := fun a => a = D) (fun a o e n => to a o n e) fun a e => by subst e; exact ⟨ho, hz⟩
  have S : Stp noPv W H s.heap W' H' (hideAll s'.heap [D]) := T.stp.poke hn fun b o n e => to b o n e
  cases fz with
  | true =>
    obtain ⟨r, t⟩ := R.frozen of hD hg
    exact ⟨_, _, ⟨S.trans t, r, T.rest⟩, ⟨.lst addZ_self (hv.le t.le) hl, rfl⟩, fun b nb ob zb => ⟨fun z => ob (Own.addZ.mp z), (if_neg nb).trans zb⟩⟩
  | false =>
    obtain ⟨r, t⟩ := R.fresh (l := (D, D)) (c := .list xs) of hD hD ⟨vs, k, hg, hv.le R.leF, rfl, hl⟩
    exact ⟨_, _, ⟨S.trans t, r, T.rest⟩, ⟨VR.ref (l := (D, D)) addφ_self, rfl⟩, fun b nb ob zb => ⟨fun q => (R.own_new q).elim ob fun q => q.elim nb nb, zb⟩⟩
end
end Mine

end

section
set_option autoImplicit false
set_option linter.all false
set_option genSizeOf false
set_option genInjectivity false
namespace Mine
open PySem PySem.W PySem.Calls PyProof.Rows

section
variable {X : Cx} {n : Nat} {sc : Sc}

theorem iter_self {A : Around} {E : Value → Shared → Prop} {W : Wd} {s : Shared} {I : Addr} {v : V} {k : Nat} {Q : Value → Shared → Prop} (it : ItAt X W s.heap I v k) (h : Q (.ref I) s) : wpAny (model X.prog X.w) A (pyIter (.ref I)) Q E s := by
  cases it with
  | lst a r q it => exact wpAny_pyIter_listiter it h
  | tup a xs e r it => exact wpAny_pyIter_tupleiter it h
  | rng a b c e hc it => exact wpAny_pyIter_rangeiter it h
/-- the ifs of a comprehension -/
abbrev ifsT (ifs : List Expr) (env : Env) : Sem Bool := forIn ifs true fun c r => if r = true then do let ok ← isTrue c env (eval c env); pure (ForInStep.yield ok) else pure (ForInStep.yield r)
noncomputable def SCo (X : Cx) (n : Nat) (sc : Sc) (p : PCo) (ifs : List Expr) : Prop := ∀ (A : Around) (env : Env) (Pv : Pr) (W : Wd) (σ : St) (s : Shared) (Q : Bool → St → Prop) (E : EP),
  EnvOk X A env Pv n sc → At X env Pv W σ s → wpC X.P (CW X.P n) E p σ Q → Ew X A env Pv (ifsT ifs env) W σ s (BQ Q) E
theorem snd_c_nil : SCo X n sc .none [] := fun A env Pv W σ s Q E ok at_ h => wpAny_pure (at_.bl (tk := s.toks) h)
theorem snd_c_one {t : PC} {x : Expr} (ht : ST X n sc t x) : SCo X n sc (.some t) [x] := fun A env Pv W σ s Q E ok at_ h => by
  unfold ifsT
  rw [List.forIn_cons, if_pos rfl]
  exact wpAny_bind (wpAny_bind (wpAny_mono (ht A env Pv W σ s _ E ok at_ h) (fun b s' q => wpAny_pure (wpAny_pure q)) fun _ _ y => y))

/-- the turns of a comprehension, the target any -/
theorem comp_turns {A : Around} {s : Shared} {R : Result → Shared → Prop} {elt target iter : Expr} {ifs : List Expr} {scope : Scope} {pos : Pos} {it acc : Value} {env : Env} (J : Nat → Shared → Prop)
    (turn : ∀ k s, J k s → wpAny (model X.prog X.w) A (pyNext it) (fun r s₁ => match r with
      | none => R (.ok .next) s₁
      | some v => wpAny (model X.prog X.w) A (letOwnedTupleGo target it v) (fun _ s₁ => wpAny (model X.prog X.w) A (assign target env v) (fun _ s₂ =>
          wpAny (model X.prog X.w) A (ifsT ifs env) (fun ok s₃ =>
            if ok = true then wpAny (model X.prog X.w) A (eval elt env) (fun x s₄ =>
              wpAny (model X.prog X.w) A (call (.builtin "list.append") [acc, x]) (fun _ s₅ => ∃ m, m < k ∧ J m s₅) (fun _ _ => False) s₄) (fun _ _ => False) s₃
            else ∃ m, m < k ∧ J m s₃) (fun _ _ => False) s₂) (fun _ _ => False) s₁) (fun _ _ => False) s₁) (fun _ _ => False) s)
    (k : Nat) (h : J k s) : codeAny (model X.prog X.w) A (.compLoop (.ListComp elt [⟨target, iter, ifs, 0⟩] scope pos) 0 it acc env) R s := by
  refine codeAny_loop rfl J (fun k s hJ => ?_) k h
  show wpAny _ A ((compTurn (.ListComp elt [⟨target, iter, ifs, 0⟩] scope pos) 0 it acc env).onRaise _) _ _ s
  refine wpAny_noted (wpAny_mono (E := fun _ _ => False) ?_ (fun _ _ z => z) fun _ _ z => z.elim)
  rw [compTurn_list]
  refine wpAny_bind (wpAny_standAt (wpAny_bind (wpAny_mono (turn k s hJ) (fun r s₁ h₁ => ?_) fun _ _ z => z)))
  cases r with
  | none => exact wpAny_pure h₁
  | some v =>
    refine wpAny_bind (wpAny_mono h₁ (fun _ s₁' h₁' => wpAny_bind (wpAny_mono h₁' (fun _ s₂ h₂ => wpAny_bind (wpAny_mono h₂ (fun ok s₃ h₃ => ?_) fun _ _ z => z)) fun _ _ z => z)) fun _ _ z => z)
    cases ok with
    | false => exact wpAny_pure ⟨rfl, h₃⟩
    | true => exact wpAny_bind (wpAny_bind (wpAny_mono h₃ (fun x s₄ h₄ => wpAny_bind (wpAny_mono h₄ (fun _ s₅ h₅ => wpAny_pure (wpAny_pure ⟨rfl, h₅⟩)) fun _ _ z => z)) fun _ _ z => z))

/-- the iterator and the list in the making -/
structure Dp (X : Cx) (env : Env) (Pv : Pr) (W : Wd) (H : Hp) (h : Heap) (I D : Addr) (v : V) (k : Nat) (cvs : Array Value) (nn : Nat) (acc : List V) : Prop where
  it : ItAt X W h I v k
  LI : Lone X env Pv W H h I
  LD : Lone X env Pv W H h D
  g : h.get? D = some (lstO cvs nn)
  acc : VRs X W cvs.toList acc
theorem lst_nn {cs : Array Value} {k : Nat} : NoNames (lstO cs k) := fun es n q => by cases q
theorem Dp.step {env : Env} {Pv : Pr} {W W' : Wd} {H H' : Hp} {h h' : Heap} {I D : Addr} {v : V} {k : Nat} {cvs : Array Value} {nn : Nat} {acc : List V} (P : Dp X env Pv W H h I D v k cvs nn acc) (S : Stp Pv.pv W H h W' H' h') : Dp X env Pv W' H' h' I D v k cvs nn acc :=
  ⟨P.it.keep S.le (P.LI.keep S), P.LI.step S, P.LD.step S, P.LD.keep S _ P.g lst_nn, P.acc.le S.le⟩
theorem Lone.at' {env : Env} {Pv : Pr} {W : Wd} {H : Hp} {h h' : Heap} {I : Addr} (L : Lone X env Pv W H h I) (h : ∃ o, h'.get? I = some o) : Lone X env Pv W H h' I := ⟨L.own, L.z, L.pv, L.cell, L.fr, h⟩
/-- seen from outside, and from inside -/
structure Inn (X : Cx) (W : Wd) (H : Hp) (s : Shared) (env : Env) (C : Addr) (st : List Env) (W' : Wd) (σ' : St) (s' : Shared) : Prop where
  tc : Tc X W H s W' σ'.H s'
  at_ : At X env (only C st) W' σ' s'
section
variable {W W' W'' : Wd} {H : Hp} {σ' σ'' : St} {s s' s'' : Shared} {env : Env} {C : Addr} {st : List Env}
theorem Inn.step (P : Inn X W H s env C st W' σ' s') (T' : Tf X env (only C st) W' σ' s' W'' σ'' s'') (hn : s.heap.get? C = none) : Inn X W H s env C st W'' σ'' s'' :=
  ⟨⟨P.tc.stp.transFresh T'.stp fun x e => .inl (by rw [show x = C from e]; exact hn), T'.at_.rel, P.tc.rest.trans T'.rest⟩, T'.at_⟩
theorem Tc.poke {H' : Hp} {I : Addr} {h'' : Heap} {tk : Nat} (T : Tc X W H s W' H' s') (hn : s.heap.get? I = none) (ho : ¬ Own W' H' I) (hz : W'.Z I = none) (hs : Heap.ExtBut I s'.heap h'') : Tc X W H s W' H' { s' with heap := h'', toks := tk } :=
  ⟨T.stp.poke hn hs, T.rel.quiet (Pv := fun b => b = I) (fun b o e m => hs b o m e) (fun b e => by subst e; exact ⟨ho, hz⟩), ⟨T.rest.gens, T.rest.drawn, T.rest.os⟩⟩
theorem Inn.poke {I : Addr} {h'' : Heap} {tk : Nat} (P : Inn X W H s env C st W' σ' s') (hn : s.heap.get? I = none) (L : Lone X env (only C st) W' σ'.H s'.heap I) (hs : Heap.ExtBut I s'.heap h'') : Inn X W H s env C st W' σ' { s' with heap := h'', toks := tk } :=
  ⟨P.tc.poke hn L.own L.z hs, P.at_.poke L hs⟩
end
/-- the state of the turns -/
inductive CpI (X : Cx) (W : Wd) (H : Hp) (s : Shared) (env : Env) (C : Addr) (st : List Env) (I D : Addr) (v : V) (xs : List V) (go : List V → List V → St → Prop) (m : Nat) (s' : Shared) : Prop
  | mk (k : Nat) (W' : Wd) (σ' : St) (ys acc : List V) (cvs : Array Value) (nn : Nat) (T : Inn X W H s env C st W' σ' s') (P : Dp X env (only C st) W' σ'.H s'.heap I D v k cvs nn acc) (sd : Stand xs k ys m) (q : go ys acc σ')
/-- at the end -/
inductive CpE (X : Cx) (W : Wd) (H : Hp) (s : Shared) (D C : Addr) (W' : Wd) (H' : Hp) (s' : Shared) (ys : List V) : Prop
  | mk (cvs : Array Value) (k : Nat) (m : Str → Option Value) (t : Tc X W H s W' H' s') (sD : s.heap.get? D = none) (sC : s.heap.get? C = none) (ne : D ≠ C) (oD : ¬ Own W' H' D) (zD : W'.Z D = none) (oC : ¬ Own W' H' C) (zC : W'.Z C = none) (g : s'.heap.get? D = some (lstO cvs k)) (hv : VRs X W' cvs.toList ys) (hz : ys.length ≤ SZ) (ns : s'.heap.Ns C m)

section
variable {A : Around} {env : Env} {Pv : Pr} {W : Wd} {σ : St} {s : Shared} {v : V} {xs : List V} {ts : List Nat} {elt : PE} {cond : PCo} {e x : Expr} {ifs : List Expr} {y : Expr} {pos : Pos} {sc' : Scope} {cl : List (Str × Addr)} {Qc : List V → St → Prop}
/-- what a comprehension computes -/
abbrev cgo (X : Cx) (n : Nat) (elt : PE) (ts : List Nat) (cond : PCo) (v : V) (xs : List V) (Qc : List V → St → Prop) (ys acc : List V) (σ : St) : Prop := compGo (fun σ₂ k => wpC X.P (CW X.P n) noE cond σ₂ k) (fun σ₂ k => wpE X.P (CW X.P n) noE elt σ₂ k) ts (still v xs) ys acc σ Qc
theorem comp_loop (K : CxOk X) {cenv : Env} {C I D : Addr} {st : List Env} {R : Result → Shared → Prop} {s₀ : Shared} {m : Nat} (okc : EnvOk X A cenv (only C st) n ⟨sc', true⟩) (he : SE X n ⟨sc', true⟩ elt e) (hc : SCo X n ⟨sc', true⟩ cond ifs) (hct : chkTgt X.nm ⟨sc', true⟩ ts y = true)
    (sI : s.heap.get? I = none) (sD : s.heap.get? D = none) (sC : s.heap.get? C = none) (nDI : D ≠ I) (nDC : D ≠ C) (lC : cenv.locals = C) (h : CpI X W σ.H s cenv C st I D v xs (cgo X n elt ts cond v xs Qc) m s₀)
    (hR : ∀ W' H' loc' s' ys, CpE X W σ.H s D C W' H' s' ys → Qc ys ⟨H', loc'⟩ → R (.ok .next) s') :
    codeAny (model X.prog X.w) A (.compLoop (.ListComp e [⟨y, x, ifs, 0⟩] sc' pos) 0 (.ref I) (.ref D) cenv) R s₀ := by
  have hh := okc.hh rfl
  refine comp_turns _ (fun m s' hI => ?_) m h
  obtain ⟨k, W', σ', ys, acc, cvs, nn, T, P, sd, q⟩ := hI
  cases ys with
  | nil =>
    cases sd.nil
    refine next_end hh T.at_.rel P.it q.1 fun h' hs => ?_
    have a := T.poke (tk := s'.toks) sI P.LI hs
    have pvC := T.at_.fr.priv C rfl
    obtain ⟨m', hm', _⟩ := a.at_.fr.ns
    exact hR W' σ'.H σ'.loc _ acc ⟨cvs, nn, m', a.tc, sD, sC, nDC, P.LD.own, P.LD.z, pvC.1, pvC.2, hs D _ nDI P.g, P.acc, q.2.1, lC ▸ hm'⟩ q.2.2
  | cons u us =>
    obtain ⟨hu, lt, sd'⟩ := sd.cons
    have hsz := q.2.1
    refine next_item T.at_.rel P.it q.1 hu fun cu h' tk hcu hit hs => it_go hit ?_
    have T₁ := T.poke (tk := tk) sI P.LI hs
    have P₁ : Dp X cenv (only C st) W' σ'.H h' I D v (k + 1) cvs nn acc := ⟨hit, P.LI.at' hit.there, P.LD.at' ⟨_, hs D _ nDI P.g⟩, hs D _ nDI P.g, P.acc⟩
    refine bind_ok K okc hh T₁.at_ hcu hct q.2.2 fun s₃ σ₃ T₃ q => ?_
    have P₃ := P₁.step T₃.stp
    have C₃ := T₁.step T₃ sC
    refine wpAny_mono (hc A cenv (only C st) W' _ s₃ _ noE okc T₃.at_ q) (fun b s₄ q => q.e fun W₄ σ₄ T₄ q₄ => ?_) fun _ _ z => z.no.elim
    have P₄ := P₃.step T₄.stp
    have C₄ := C₃.step T₄ sC
    cases b with
    | false => exact ⟨us.length, lt, k + 1, W₄, σ₄, us, acc, cvs, nn, C₄, P₄, sd', q₄⟩
    | true =>
      refine wpAny_mono (he A cenv (only C st) W₄ σ₄ s₄ _ noE okc T₄.at_ q₄) (fun r s₅ q => q.e fun W₅ σ₅ T₅ q => q.e fun ar hr q₅ => ?_) fun _ _ z => z.no.elim
      have P₅ := P₄.step T₅.stp
      refine append_at P₅.g (fun h₆ hs₆ hg₆ => ?_) (by rw [P₅.acc.toArr]; exact szLine (Nat.le_of_lt hsz))
      have it₆ := P₅.it.keep (.refl _) fun o z _ => hs₆.extBut I o (Ne.symm nDI) z
      exact ⟨us.length, lt, k + 1, W₅, σ₅, us, acc ++ [ar], cvs.push r, nn + 1, (C₄.step T₅ sC).poke (tk := s₅.toks) sD P₅.LD hs₆.extBut, ⟨it₆, P₅.LI.at' it₆.there, P₅.LD.at' ⟨_, hg₆⟩, hg₆, by rw [Array.toList_push]; exact P₅.acc.append (.cons hr .nil)⟩, sd', q₅⟩

theorem comp_block (K : CxOk X) {Ex : Value → Shared → Prop} {cv : Value} {RR : Value → Addr → Result → Shared → Prop}
    (ok : EnvOk X A env Pv n sc) (at_ : At X env Pv W σ s) (he : SE X n ⟨sc', true⟩ elt e) (hc : SCo X n ⟨sc', true⟩ cond ifs) (hct : chkTgt X.nm ⟨sc', true⟩ ts y = true) (F : CompFacts X sc sc' env ts cl) (hhd : sc.hd = true)
    (hv : VR X W cv v) (hxs : items σ.H v = some xs) (hgo : cgo X n elt ts cond v xs Qc xs [] ⟨σ.H, unbs ts σ.loc⟩)
    (hRR : ∀ D C W' H' loc' s' ys, CpE X W σ.H s D C W' H' s' ys → Qc ys ⟨H', loc'⟩ → RR (.ref D) C (.ok .next) s') :
    wpAny (model X.prog X.w) A (pyIter cv) (fun it s₂ => wpAny (model X.prog X.w) A (newList []) (fun acc s₃ => wpAny (model X.prog X.w) A (newFunctionEnv sc' env.globals cl [] env.qual none .none (some env)) (fun cenv s₄ =>
      codeAny (model X.prog X.w) A (.compStart (.ListComp e [⟨y, x, ifs, 0⟩] sc' pos) 0 it acc { cenv with scope := relabel sc' env }) (RR acc cenv.locals) s₄) Ex s₃) Ex s₂) Ex s := by
  refine iter_ok at_.rel hv hxs fun oI hfo hit => wpAny_newObj_type (wpAny_newFunctionEnv (fun z hz q => F.cell z.1 (q ▸ hz)) (fun z hz => nomatch hz) (fun h₁ hns hsb => ?_) F.kind)
  dsimp only at hns hsb ⊢
  have eD : (s.heap.push oI).objs.size = s.heap.objs.size + 1 := Heap.size_push ..
  have eC : ((s.heap.push oI).push { cls := .type "list", dict := none, data := .seq ([] : List Value).toArray }).objs.size = s.heap.objs.size + 1 + 1 := (Heap.size_push ..).trans (congrArg (· + 1) eD)
  have k1 : ∀ b o, ((s.heap.push oI).push { cls := .type "list", dict := none, data := .seq ([] : List Value).toArray }).get? b = some o → h₁.get? b = some o := fun b o q => hsb.extBut b o (Nat.ne_of_lt (Heap.lt_size q)) (Heap.get?_push_of_some _ q)
  have gD : h₁.get? (s.heap.push oI).objs.size = some (lstO #[] 0) := k1 _ _ (Heap.get?_push_size _ rfl)
  generalize ((s.heap.push oI).push { cls := .type "list", dict := none, data := .seq ([] : List Value).toArray }).objs.size = C at hns hsb eC ⊢
  generalize (s.heap.push oI).objs.size = D at gD hns hsb eD ⊢
  have sI := push_none s.heap
  have k0 : ∀ b o, s.heap.get? b = some o → h₁.get? b = some o := fun b o q => k1 b o (Heap.get?_push_of_some _ (Heap.get?_push_of_some _ q))
  have gI : ItAt X W h₁ s.heap.objs.size v 0 := hit.keep (.refl _) fun o q _ => k1 _ _ (Heap.get?_push_of_some _ q)
  have sD : s.heap.get? D = none := Heap.get?_none_of_le (by rw [eD]; exact Nat.le_succ _)
  have sC : s.heap.get? C = none := Heap.get?_none_of_le (by rw [eC]; exact Nat.le_succ_of_le (Nat.le_succ _))
  have nDC : D ≠ C := by rw [eC, eD]; exact Nat.ne_of_lt (Nat.lt_succ_self _)
  have nIC : s.heap.objs.size ≠ C := by rw [eC]; exact Nat.ne_of_lt (Nat.lt_succ_of_lt (Nat.lt_succ_self _))
  have nDI : D ≠ s.heap.objs.size := by rw [eD]; exact Nat.ne_of_gt (Nat.lt_succ_self _)
  have lone : ∀ b, s.heap.get? b = none → b ≠ C → (∃ o, h₁.get? b = some o) → Lone X (compEnvC sc' cl C env) (only C Pv.st) W σ.H h₁ b := fun b hb ne hat =>
    have L := Lone.new (h' := h₁) at_ hb hat
    ⟨L.own, L.z, fun q => ne q, fun z c q => L.cell z c (F.h2 _ _ q), L.fr, hat⟩
  have loop : codeAny (model X.prog X.w) A (.compLoop (.ListComp e [⟨y, x, ifs, 0⟩] sc' pos) 0 (.ref s.heap.objs.size) (.ref D) (compEnvC sc' cl C env)) (RR (.ref D) C) { s with heap := h₁, toks := s.toks + ([] : List (Str × Value)).length } :=
    comp_loop K (comp_env ok F hhd) he hc hct sI sD sC nDI nDC rfl ⟨0, W, ⟨σ.H, unbs ts σ.loc⟩, xs, [], #[], 0, ⟨⟨.quiet (fun b o q _ => k0 b o q) fun b o q => ⟨o, k0 b o q⟩, at_.rel.quiet (Pv := noPv) (fun b o q _ => k0 b o q) fun _ z => z.elim, ⟨rfl, rfl, rfl⟩⟩, comp_at K ok at_ F sC k0 ⟨_, hns⟩⟩, ⟨gI, lone _ sI nIC gI.there, lone D sD nDC ⟨_, gD⟩, gD, .nil⟩, ⟨rfl, Nat.zero_add _, rfl⟩, hgo⟩ (hRR D C)
  exact codeAny_compStart_list loop (iter_self gI loop)
end

theorem res_give {fz : Bool} {σ : St} {Q : V → St → Prop} {r : LV} {v : Value} {W' : Wd} {H' : Hp} (g : give fz σ Q r) (h : Res X fz σ.H r v W' H') {s' : Shared} : VQ X Q v W' ⟨H', σ.loc⟩ s' := by
  cases r with
  | val x => obtain ⟨a, rfl⟩ := h; exact ⟨x, a, g⟩
  | newList xs => cases fz <;> (obtain ⟨a, rfl⟩ := h; exact ⟨_, a, g.2⟩)
section
variable {fz : Bool} {elt it : PE} {ts : List Nat} {cond : PCo} {e x : Expr} {ifs : List Expr} {y : Expr} {pos : Pos} {sc' : Scope} (hi : SE X n sc it x) (he : SE X n ⟨sc', true⟩ elt e) (hc : SCo X n ⟨sc', true⟩ cond ifs) (hct : chkTgt X.nm ⟨sc', true⟩ ts y = true) (hsc : chkSc X.nm sc sc' ts = true) (hhd : sc.hd = true) (hx : Nat.ble (xu x).tag 15 = true)
include hi he hc hct hsc hhd hx
theorem snd_comp (K : CxOk X) : SE X n sc (.comp fz elt ts it cond) (.ListComp e [⟨y, x, ifs, 0⟩] sc' pos) := by
  intro A env Pv W σ s Q E ok at_ h
  obtain ⟨cl, F⟩ := comp_facts ok hsc
  rw [eval_ListComp]
  refine wpAny_comprehension_free (use := none) rfl (folded_no hx) F.clos F.kind (fun x hx hl => by obtain ⟨x, k⟩ := x; subst hl; exact uniq_lookup F.uniq hx) (hi.post ok at_ h fun cv W₁ σ₁ s₁ v T₁ hv q => need_e q fun xs hxs q => comp_block K ok T₁.at_ he hc hct F hhd hv hxs q fun D C W' H' loc' s' ys z hg => ?_)
  obtain ⟨cvs, k, m, T, sD, sC, ne, oD, zD, oC, zC, gD, hys, hsz, hm⟩ := z
  refine ⟨m, hm, fun h' hs => ?_⟩
  obtain ⟨W'', H'', T'', res, _⟩ := adopt_list (fz := fz) (T.poke (tk := s'.toks) sC oC zC hs.extBut) sD oD zD (hs.extBut D _ ne gD) hys hsz
  exact ⟨_, _, T₁.trans (T''.tf T₁.at_), res_give (σ := ⟨H', σ₁.loc⟩) hg res⟩
end
end
end Mine

end

section
set_option autoImplicit false
set_option linter.all false
set_option genSizeOf false
set_option genInjectivity false
namespace Mine
open PySem PySem.W PySem.Calls PyProof.Rows

section
variable {X : Cx} {n : Nat} {sc : Sc}
section
variable {fz : Bool} {elt it : PE} {ts : List Nat} {cond : PCo} {e x : Expr} {ifs : List Expr} {y : Expr} {pos : Pos} {sc' : Scope} (hi : SE X n sc it x) (he : SE X n ⟨sc', true⟩ elt e) (hc : SCo X n ⟨sc', true⟩ cond ifs) (hct : chkTgt X.nm ⟨sc', true⟩ ts y = true) (hsc : chkSc X.nm sc sc' ts = true) (hhd : sc.hd = true) (hx : Nat.ble (xu x).tag 15 = true)
include hi he hc hct hsc hhd hx
/-- the list is stored ahead of the frame's end -/
theorem comp_store (K : CxOk X) {i : Nat} {pz pf : Pos} {A : Around} {env : Env} {Pv : Pr} {W : Wd} {σ : St} {s : Shared} {Q : Flow → St → Prop} {E : EP} (hk : kStore sc (X.nm i) = true) (ok : EnvOk X A env Pv n sc) (hf : env.func ≠ none) (at_ : At X env Pv W σ s)
    (h : wpE X.P (CW X.P n) E (.comp fz elt ts it cond) σ fun v σ₁ => Q .next (σ₁.put i v)) :
    wpAny (model X.prog X.w) A (comprehension (.ListComp e [⟨y, x, ifs, 0⟩] sc' pos) sc' env pf (newList []) false (eval x env) (some (assign (.Name (X.nm i) pz) env))) (fun _ s' => Go X env Pv W σ s (FQ X Q) PySem.Flow.next s') (EX X env Pv W σ s E) s := by
  obtain ⟨cl, F⟩ := comp_facts ok hsc
  refine wpAny_comprehension_free (use := some (assign (.Name (X.nm i) pz) env)) rfl (folded_no hx) F.clos F.kind (fun x hx hl => by obtain ⟨x, k⟩ := x; subst hl; exact uniq_lookup F.uniq hx) (hi.post ok at_ h fun cv W₁ σ₁ s₁ v T₁ hv q => need_e q fun xs hxs q => comp_block K ok T₁.at_ he hc hct F hhd hv hxs q fun D C W' H' loc' s' ys z hg => ?_)
  obtain ⟨cvs, k, m, T, sD, sC, ne, oD, zD, oC, zC, gD, hys, hsz, hm⟩ := z
  obtain ⟨W'', H'', T'', res, oth⟩ := adopt_list (fz := fz) T sD oD zD gD hys hsz
  have T₂ : Tf X env Pv W₁ σ₁ s₁ W'' ⟨H'', σ₁.loc⟩ s' := T''.tf T₁.at_
  have L := Lone.new (h' := s'.heap) T₁.at_ sC (let ⟨o, _, _, ho, _⟩ := hm; ⟨o, ho⟩)
  have o := oth C (Ne.symm ne) oC zC
  have LC : Lone X env Pv W'' H'' s'.heap C := ⟨o.1, o.2, L.pv, L.cell, L.fr, L.at_⟩
  exact (res_give (s' := s) (σ := ⟨H', σ₁.loc⟩) hg res).e fun av hav hq => wpAny_assign_Name (store_ok K ok hf T₂.at_ hk hav fun s₃ T₃ =>
    ⟨m, ns_same hm fun o ho => T₃.stp.keep C o ho LC.own LC.pv, fun h'' hs => (((T₁.trans T₂).trans T₃).poke (tk := s₃.toks) (not_there sC T₁.stp.there) (LC.step T₃.stp) hs.extBut).flow .next hq⟩)
theorem snd_assign_comp (K : CxOk X) {i : Nat} {z : Str} {pz pos' : Pos} (hz : z = X.nm i) (hk : kStore sc z = true) : S1 X n sc (.assign (.loc i) (.comp fz elt ts it cond)) (.Assign [.Name z pz] (.ListComp e [⟨y, x, ifs, 0⟩] sc' pos) pos') := by
  intro A env Pv W σ s Q E ok hf at_ h
  subst hz
  have sw : swapsWith (.ListComp e [⟨y, x, ifs, 0⟩] sc' pos) (some (.Name (X.nm i) pz)) pos'.line env = pure (env.blockKind == .function && env.kindOf (X.nm i) == some .local && pz.line == pos.line && !(sc'.names.any fun (n, k) => n == X.nm i && (k == .local || k == .cell))) := rfl
  generalize (env.blockKind == .function && env.kindOf (X.nm i) == some .local && pz.line == pos.line && !(sc'.names.any fun (n, k) => n == X.nm i && (k == .local || k == .cell))) = b at sw
  cases b with
  | false => exact wpAny_Assign_Name ((snd_comp hi he hc hct hsc hhd hx K).post ok at_ h fun v W₁ σ₁ s₁ y T hv q => store_ok K ok hf T.at_ hk hv fun s'' T' => (T.trans T').flow .next q) sw
  | true =>
    unfold Ew
    rw [exec_Assign_Name_used _ _ _ _ sw]
    exact wpAny_bind (wpAny_standAt (wpAny_bind (wpAny_bind (wpAny_mono (comp_store hi he hc hct hsc hhd hx K hk ok hf at_ h) (fun _ s' q => wpAny_pure (wpAny_pure q)) fun _ _ z => z))))
end
end
end Mine

end

section
set_option autoImplicit false
set_option linter.all false
set_option genSizeOf false
set_option genInjectivity false
namespace Mine
open PySem PySem.W PySem.Calls PyProof.Rows
section
variable {X : Cx} {n : Nat} {sc : Sc}
theorem swaps_sub {x o i : Expr} {p : Pos} {l : Nat} {env : Env} : swapsWith x (some (.Subscript o i p)) l env = pure false := by
  cases x <;> rfl
/-- a thing stored in a dict -/
theorem put_item {A : Around} {env : Env} {Pv : Pr} {W : Wd} {σ : St} {s : Shared} {Ex : Value → Shared → Prop} {ov iv v : Value} {g y x : V} {Q : Unit → Shared → Prop} {q : St → Prop} (at_ : At X env Pv W σ s) (ho : VR X W ov g) (hi : VR X W iv y) (hv : VR X W v x)
    (h : need (aRef g) fun i => need (cD (σ.H.get i)) fun kvs => Nd (keyOk (dKeys kvs) y = true) (Nd (kvs.length < SZ) (q (σ.setH (σ.H.set i (.dict (dSet kvs y x)))))))
    (hq : ∀ W' σ' s', Tf X env Pv W σ s W' σ' s' → q σ' → Q () s') : wpAny (model X.prog X.w) A (setItem ov iv v) Q Ex s :=
  need_e h fun i ei h => need_e h fun kvs ek h => aRef_e ho ei fun l e hl _ => key_e hi h.1 fun j t e1 e2 => by
    subst e e1 e2
    obtain ⟨es, d, r, e, ne, z⟩ := at_.rel.at_ (cD_e ek) hl
    have hn : (es.map (·.1)).Nodup := d.elim fun _ d => d.elim fun _ d => d.elim fun _ d => d.2.2.2.2.2
    refine wpAny_setItem_pairs (intKind_is _ _ j t) d (fun h' d' hs => hq W _ _ (Tc.tf at_ (W' := W) (H' := σ.H.set i (.dict (dSet kvs (.int j) x))) ?_) h.2.2) (by rw [r.len]; exact szLine z)
    have len : (dSet kvs (.int j) x).length ≤ SZ := by rw [← (r.put (i := j) hv hn).len]; exact Nat.le_trans (stored_length_le _ _ _) (by rw [r.len]; exact h.2.1)
    obtain ⟨R, S⟩ := at_.rel.upd (h' := h') (c' := .dict (dSet kvs (.int j) x)) (cD_e ek) hl (fun b ob q n1 _ => (hs.2 b n1).trans q) ⟨stored es j v, d', r.put hv hn, e, ne, len⟩
    exact ⟨S, R, ⟨rfl, rfl, rfl⟩⟩
theorem snd_assign_idx {o i e : PE} {v u x : Expr} {p pos : Pos} (he : SE X n sc e x) (ho : SE X n sc o v) (hi : SE X n sc i u) : S1 X n sc (.assign (.idx o i) e) (.Assign [.Subscript v u p] x pos) := fun A env Pv W σ s Q E ok hf at_ h =>
  wpAny_Assign_Subscript (he.post ok at_ h fun cv W₁ σ₁ s₁ x T₁ hv h₁ => wpAny_mono (ho.post ok T₁.at_ h₁ fun ov W₂ σ₂ s₂ g T₂ hg h₂ => wpAny_mono (hi.post ok T₂.at_ h₂ fun iv W₃ σ₃ s₃ y T₃ hy h₃ =>
    put_item (Q := fun _ s' => Go X env Pv W σ s (FQ X Q) PySem.Flow.next s') (Ex := EX X env Pv W σ s E) T₃.at_ (hg.le T₃.stp.le) hy (hv.le (T₂.stp.le.trans T₃.stp.le)) h₃ fun W' σ' s' T hq => (((T₁.trans T₂).trans T₃).trans T).flow .next hq) (fun _ _ q => q) fun _ _ y => y.back (T₁.trans T₂)) (fun _ _ q => q) fun _ _ y => y.back T₁) swaps_sub
theorem snd_assign_tup (K : CxOk X) {is : List Nat} {elts : List Expr} {k : Nat} {p pos : Pos} {e : PE} {x : Expr} (he : SE X n sc e x) (ht : tgts X.nm sc is elts = true) (hhd : sc.hd = true) (h15 : Nat.ble 1 (xu x).tag = true) (h14 : Nat.ble (xu x).tag 14 = true) (h10 : tg x 10 = false) : S1 X n sc (.assign (.tup is) e) (.Assign [.Tuple elts k p] x pos) := fun A env Pv W σ s Q E ok hf at_ h =>
  wpAny_Assign_stores (he.post ok at_ h fun cv W₁ σ₁ s₁ v T₁ hv h₁ => show wpAny _ A (assign (.Tuple elts k p) env cv) _ _ s₁ from bind_tup K ok (ok.hh hhd) T₁.at_ hv ht h₁ fun s' σ' T' q => (T₁.trans T').flow .next q) (by
    cases x <;> first | rfl | (cases h15; done) | (cases h14; done)) (by
    cases x <;> first | rfl | (cases h10; done))
end
end Mine

end

section
set_option autoImplicit false
set_option linter.all false
set_option genSizeOf false
set_option genInjectivity false
namespace Mine
open PySem PySem.W PySem.Calls PyProof.Rows

section
variable {X : Cx} {n : Nat}

/-- the cases of classes and instances, to be given -/
structure Objs (X : Cx) (n : Nat) : Prop where
  call : ∀ (sc : Sc) (fz : Bool) (f : PE) (as : PEs) (x : Str) (p : Pos) (vs : List Expr) (pos : Pos), SE X n sc f (.Name x p) → (sc.hd || qGlob X.ck f) = true → SEs X n sc as vs → chkEs X.ck sc as vs = true → SE X n sc (.call fz f as) (.Call (.Name x p) vs [] pos)
  meth : ∀ (sc : Sc) (fz : Bool) (o : PE) (m : Nat) (as : PEs) (v : Expr) (ap pos : Pos) (vs : List Expr), SE X n sc o v → SEs X n sc as vs → chkEs X.ck sc as vs = true → notSuper v = true → vs.length ≤ 20 → (ap.endLine == pos.line) = true → (sc.hd || Nat.beq m X.P.nAppend) = true → SE X n sc (.meth fz o m as) (.Call (.Attribute v (X.nm m) ap) vs [] pos)
  attr : ∀ (sc : Sc) (e : PE) (m : Nat) (v : Expr) (pos : Pos), SE X n sc e v → notSuper v = true → SE X n sc (.attr e m) (.Attribute v (X.nm m) pos)
  asgA : ∀ (sc : Sc) (o e : PE) (m : Nat) (v x : Expr) (p pos : Pos), SE X n sc e x → SE X n sc o v → S1 X n sc (.assign (.attr o m) e) (.Assign [.Attribute v (X.nm m) p] x pos)
  augL : ∀ (sc : Sc) (i : Nat) (op : BOp) (e : PE) (x : Expr) (p pos : Pos), SE X n sc e x → kStore sc (X.nm i) = true → kLoc sc (X.nm i) = true → nDbg (X.nm i) = true → S1 X n sc (.augLoc i op e) (.AugAssign (.Name (X.nm i) p) (opOf op) x pos)
  augA : ∀ (sc : Sc) (o e : PE) (m : Nat) (op : BOp) (v x : Expr) (p pos : Pos), SE X n sc e x → SE X n sc o v → S1 X n sc (.augAttr o m op e) (.AugAssign (.Attribute v (X.nm m) p) (opOf op) x pos)
  raise : ∀ (sc : Sc) (i : Nat) (e : PE) (y : Str) (x : Expr) (np cpos pos : Pos), chkG X.ck sc i y = true → SE X n sc e x → chkE X.ck sc e x = true → sc.hd = true → S1 X n sc (.raise i e) (.Raise (some (.Call (.Name y np) [x] [] cpos)) none pos)
  try_ : ∀ (sc : Sc) (body : PSs) (i : Nat) (as : Option Nat) (h : PSs) (b : List Stmt) (b₀ : Stmt) (hb : List Stmt) (y : Str) (np : Pos) (nm : Option Str) (hpos pos : Pos), chkG X.ck sc i y = true → SS X n sc body b → SS X n ⟨sc.sc, false⟩ h (b₀ :: hb) → asOk X.ck sc as nm = true → sc.hd = true → S1 X n sc (.try_ body i as h) (.Try b [.ExceptHandler (some (.Name y np)) nm (b₀ :: hb) hpos] [] [] pos)

/-- what is shown of an expression: as a value, as a test, as what is stored -/
structure PO (X : Cx) (n : Nat) (sc : Sc) (p : PE) (e : Expr) : Prop where
  se : SE X n sc p e
  st : plainTest e = true → ST X n sc (.e p) e
  as : ∀ (i : Nat) (y : Str) (q pos : Pos), y = X.nm i → kStore sc y = true → S1 X n sc (.assign (.loc i) p) (.Assign [.Name y q] e pos)
theorem xu_to {P : Expr → Prop} {e : Expr} {k : Nat} (t : tg e k = true) (hk : Nat.blt k 16 = true) (h : P (back (xu e) k)) : P e := @Eq.subst Expr P _ _ (xu_is t hk).symm h
theorem tag_eq {e : Expr} {k : Nat} (t : tg e k = true) : (xu e).tag = k := Nat.eq_of_beq_eq_true t
theorem e_of (K : CxOk X) {sc : Sc} {p : PE} {e : Expr} {k : Nat} (t : tg e k = true) (hk : (Nat.blt k 16 && Nat.ble 1 k && Nat.ble k 14 && !Nat.beq k 6) = true) (h : SE X n sc p (back (xu e) k)) : PO X n sc p e := and4_e hk fun h1 h2 h3 h4 =>
  have s : SE X n sc p e := xu_to (P := SE X n sc p) t h1 h
  ⟨s, fun q => snd_T s q (by unfold tg; rw [tag_eq t]; exact Bool.not_eq_true' _ ▸ h4), fun i y q pos hy hk => snd_assign_loc K s hy hk (by rw [tag_eq t]; exact h2) (by rw [tag_eq t]; exact h3)⟩
theorem kw_one {kw : List Keyword} {G : List Keyword → Prop} (h : isRv kw = true) (g : ∀ k p kp, G [⟨some (Str.ofString "reverse"), .Constant (.bool true) k p, kp⟩]) : G kw := on_e h fun w hw h => and3_e h fun h1 h2 h3 => by
  obtain ⟨a, v, kp⟩ := w
  cases (of_decide_eq_true h1 : a = some (Str.ofString "reverse"))
  rw [one_ok hw]
  refine xu_to (P := fun b => G [⟨_, b, kp⟩]) h2 rfl ?_
  have h3 : (xu v).v = .bool true := of_decide_eq_true h3
  show G [⟨_, .Constant (xu v).v _ _, kp⟩]
  rw [h3]
  exact g _ _ _
theorem e_cmp (K : CxOk X) {sc : Sc} {p : PE} {e : Expr} (t : tg e 6 = true) (h : SE X n sc p (back (xu e) 6)) (h' : ST X n sc (.e p) (back (xu e) 6)) : PO X n sc p e :=
  have s : SE X n sc p e := xu_to (P := SE X n sc p) t rfl h
  ⟨s, fun _ => xu_to (P := ST X n sc (.e p)) t rfl h', fun i y q pos hy hk => snd_assign_loc K s hy hk (by rw [tag_eq t]; rfl) (by rw [tag_eq t]; rfl)⟩

noncomputable def gE (X : Cx) (n : Nat) (p : PE) : Prop := ∀ (sc : Sc) (e : Expr), chkE X.ck sc p e = true → PO X n sc p e
structure PL (X : Cx) (n : Nat) (sc : Sc) (p : PEs) (es : List Expr) : Prop where
  ls : SEs X n sc p es
  bo : SBool X n sc p es
noncomputable def gEs (X : Cx) (n : Nat) (p : PEs) : Prop := ∀ (sc : Sc) (es : List Expr), chkEs X.ck sc p es = true → PL X n sc p es
noncomputable def gO (X : Cx) (n : Nat) (p : PEo) : Prop := ∀ (sc : Sc) (e : Option Expr), chkO X.ck sc p e = true → SO X n sc p e
noncomputable def gT (X : Cx) (n : Nat) (p : PC) : Prop := ∀ (sc : Sc) (e : Expr), chkT X.ck sc p e = true → ST X n sc p e
noncomputable def gTs (X : Cx) (n : Nat) (p : PCs) : Prop := ∀ (sc : Sc) (es : List Expr), chkTs X.ck sc p es = true → SAll X n sc p es
noncomputable def gC (X : Cx) (n : Nat) (p : PCo) : Prop := ∀ (sc : Sc) (es : List Expr), chkIf X.ck sc p es = true → SCo X n sc p es

theorem c1_e {c : Ck} {sc : Sc} {i : Nat} {e : Expr} {f : Expr → Bool} {G : Expr → Prop} (h : chk1 c sc i e f = true) (k : ∀ x p q y, x = c.nm i → kGlob sc x = true → nDbg x = true → f y = true → G (.Call (.Name x p) [y] [] q)) : G e := and5_e h fun t t' hg hk hl => on_e hl fun y hy hf => and3_e hg fun g1 g2 g3 => xu_to (P := G) t rfl (by
  show G (.Call (xu e).a (xu e).l (xu e).kw (xu e).p)
  rw [one_ok hy, empty_ok hk]
  exact xu_to (P := fun b => G (.Call b [y] [] (xu e).p)) t' rfl (k _ _ _ y (of_decide_eq_true g1) g2 g3 hf))
section
variable (K : CxOk X) (O : Objs X n)
include K
theorem e_cst (v : V) : gE X n (.cst v) := fun sc e h => and_e h fun t c => e_of K t rfl (snd_cst c)
theorem e_loc (i : Nat) : gE X n (.loc i) := fun sc e h => and4_e h fun t a b c => e_of K t rfl (snd_loc (of_decide_eq_true a) b c)
theorem e_glob (i : Nat) : gE X n (.glob i) := fun sc e h => and4_e h fun t a b c => e_of K t rfl (snd_glob K (of_decide_eq_true a) b c)
theorem e_bin (fz : Bool) (op : BOp) (l r : PE) (hl : gE X n l) (hr : gE X n r) : gE X n (.bin fz op l r) := fun sc e h => and4_e h fun t o a b => e_of K t rfl (by
  show SE X n sc _ (.BinOp (xu e).a (xu e).o (xu e).b (xu e).p)
  rw [of_decide_eq_true o]; exact snd_bin (hl sc _ a).se (hr sc _ b).se)
theorem e_neg (a : PE) (ha : gE X n a) : gE X n (.neg a) := fun sc e h => and3_e h fun t o a => e_of K t rfl (by
  show SE X n sc _ (.UnaryOp (xu e).u (xu e).a (xu e).p)
  rw [of_decide_eq_true o]; exact snd_neg (ha sc _ a).se)
theorem e_not (a : PE) (ha : gE X n a) : gE X n (.not a) := fun sc e h => and3_e h fun t o a => e_of K t rfl (by
  show SE X n sc _ (.UnaryOp (xu e).u (xu e).a (xu e).p)
  rw [of_decide_eq_true o]; exact snd_not (ha sc _ a).se)
theorem e_cmp1 (op : COp) (l r : PE) (hl : gE X n l) (hr : gE X n r) : gE X n (.cmp op l r) := fun sc e h => and_e h fun t h => on_e h fun o ho h => on_e h fun r' hr' h => and3_e h fun h0 h1 h2 => by
  have f : ∀ {P : Expr → Prop}, P (.Compare (xu e).a [cmpOf op] [r'] (xu e).p) → P (back (xu e) 6) := fun {P} q => by
    show P (Expr.Compare (xu e).a (xu e).cs (xu e).l (xu e).p)
    rw [one_ok ho, one_ok hr', of_decide_eq_true h0]; exact q
  exact e_cmp K t (f (snd_cmp (hl sc _ h1).se (hr sc _ h2).se (chk_tag h2).2)) (f (snd_cmpT (hl sc _ h1).se (hr sc _ h2).se (chk_tag h2).2))
theorem e_cmp2 (o₁ o₂ : COp) (a b c : PE) (ha : gE X n a) (hb : gE X n b) (hc : gE X n c) : gE X n (.cmp2 o₁ o₂ a b c) := fun sc e h => and_e h fun t h => on_e h fun o ho h => on_e h fun r hr h => and5_e h fun h0 h00 h1 h2 h3 => by
  have f : ∀ {P : Expr → Prop}, P (.Compare (xu e).a [cmpOf o₁, cmpOf o₂] [r.1, r.2] (xu e).p) → P (back (xu e) 6) := fun {P} q => by
    show P (Expr.Compare (xu e).a (xu e).cs (xu e).l (xu e).p)
    rw [x2_ok ho, x2_ok hr, of_decide_eq_true h0, of_decide_eq_true h00]; exact q
  exact e_cmp K t (f (snd_cmp2 (ha sc _ h1).se (hb sc _ h2).se (hc sc _ h3).se (chk_tag h3).2)) (f (snd_cmp2T (ha sc _ h1).se (hb sc _ h2).se (hc sc _ h3).se (chk_tag h3).2))
theorem e_and (es : PEs) (he : gEs X n es) : gE X n (.and es) := fun sc e h => and3_e h fun t o a => e_of K t rfl (by
  show SE X n sc _ (.BoolOp (xu e).bo (xu e).l (xu e).p)
  rw [of_decide_eq_true o]; exact fun A env Pv W σ s Q E ok at_ hw => ((he sc _ a).bo A env Pv W σ s Q E _ ok at_).1 hw)
theorem e_or (es : PEs) (he : gEs X n es) : gE X n (.or es) := fun sc e h => and3_e h fun t o a => e_of K t rfl (by
  show SE X n sc _ (.BoolOp (xu e).bo (xu e).l (xu e).p)
  rw [of_decide_eq_true o]; exact fun A env Pv W σ s Q E ok at_ hw => ((he sc _ a).bo A env Pv W σ s Q E _ ok at_).2 hw)
theorem e_ite (c : PC) (a b : PE) (hc : gT X n c) (ha : gE X n a) (hb : gE X n b) : gE X n (.ite c a b) := fun sc e h => and4_e h fun t h0 h1 h2 => e_of K t rfl (snd_ite (hc sc _ h0) (ha sc _ h1).se (hb sc _ h2).se)
theorem e_list (fz : Bool) (es : PEs) (he : gEs X n es) : gE X n (.list fz es) := fun sc e h => and_e h fun t h0 => e_of K t rfl (snd_list (he sc _ h0).ls h0)
theorem e_tup (es : PEs) (he : gEs X n es) : gE X n (.tup es) := fun sc e h => and_e h fun t h0 => e_of K t rfl (snd_tup (he sc _ h0).ls h0)
theorem e_dict (kvs : PKV) : gE X n (.dict kvs) := fun sc e h => and4_e h fun t h1 h2 h3 => e_of K t rfl (by
  show SE X n sc _ (.Dict (xu e).os (xu e).l (xu e).p)
  rw [empty_ok h2, empty_ok h3]
  cases kvs with
  | nil => exact snd_dict0 K
  | cons _ _ _ => cases h1)
theorem e_idx (a i : PE) (ha : gE X n a) (hi : gE X n i) : gE X n (.idx a i) := fun sc e h => and3_e h fun t h0 h1 => e_of K t rfl (snd_idx (ha sc _ h0).se (hi sc _ h1).se)
theorem e_sl (fz : Bool) (a : PE) (lo hi : PEo) (ha : gE X n a) (hl : gO X n lo) (hh : gO X n hi) : gE X n (.sl fz a lo hi) := fun sc e h => and6_e h fun t t' h0 h1 h2 h3 => e_of K t rfl (by
  show SE X n sc _ (.Subscript (xu e).a (xu e).b (xu e).p)
  refine xu_to (P := fun b => SE X n sc _ (.Subscript (xu e).a b (xu e).p)) t' rfl ?_
  show SE X n sc _ (.Subscript (xu e).a (.Slice (xu (xu e).b).o0 (xu (xu e).b).o1 (xu (xu e).b).o2 (xu (xu e).b).p) (xu e).p)
  rw [x0_ok h3]; exact snd_sl (ha sc _ h0).se (hl sc _ h1) (hh sc _ h2))
theorem e_rev (fz : Bool) (a : PE) (ha : gE X n a) : gE X n (.rev fz a) := fun sc e h => and6_e h fun t t' h0 h1 h2 h3 => e_of K t rfl (on_e h3 fun m hm h3 => and4_e h3 fun u v w z => by
  show SE X n sc _ (.Subscript (xu e).a (xu e).b (xu e).p)
  refine xu_to (P := fun b => SE X n sc _ (.Subscript (xu e).a b (xu e).p)) t' rfl ?_
  show SE X n sc _ (.Subscript (xu e).a (.Slice (xu (xu e).b).o0 (xu (xu e).b).o1 (xu (xu e).b).o2 (xu (xu e).b).p) (xu e).p)
  rw [x0_ok h1, x0_ok h2, hm]
  refine xu_to (P := fun b => SE X n sc _ (.Subscript (xu e).a (.Slice none none (some b) _) (xu e).p)) u rfl ?_
  show SE X n sc _ (.Subscript (xu e).a (.Slice none none (some (.UnaryOp (xu m).u (xu m).a (xu m).p)) _) (xu e).p)
  rw [of_decide_eq_true v]
  refine xu_to (P := fun b => SE X n sc _ (.Subscript (xu e).a (.Slice none none (some (.UnaryOp .USub b (xu m).p)) _) (xu e).p)) w rfl ?_
  show SE X n sc _ (.Subscript (xu e).a (.Slice none none (some (.UnaryOp .USub (.Constant (xu (xu m).a).v _ _) (xu m).p)) _) (xu e).p)
  rw [of_decide_eq_true z]
  exact snd_rev (ha sc _ h0).se)
theorem e_comp (fz : Bool) (elt : PE) (ts : List Nat) (it : PE) (cond : PCo) (he : gE X n elt) (hi : gE X n it) (hc : gC X n cond) : gE X n (.comp fz elt ts it cond) := fun sc e h => and_e h fun t h => on_e h fun g hg h => and6_e h fun h1 h2 h3 h4 h5 h6 => and_e h6 fun h7 h8 => by
  have f : ∀ {P : Expr → Prop}, P (.ListComp (xu e).a [⟨g.target, g.iter, g.ifs, 0⟩] (scOf (xu e)) (xu e).p) → P e := fun {P} q => xu_to (P := P) t rfl (by
    show P (.ListComp (xu e).a (xu e).gs (scOf (xu e)) (xu e).p)
    have h7 : g.is_async = 0 := of_decide_eq_true h7
    rw [one_ok hg]
    cases g
    cases h7
    exact q)
  have s : SE X n sc (.comp fz elt ts it cond) e := f (P := SE X n sc _) (snd_comp (hi sc _ h3).se (he _ _ h1).se (hc _ _ h4) h2 h5 h8 (chk_tag h3).2 K)
  exact ⟨s, fun q => snd_T s q (by unfold tg; rw [tag_eq t]; rfl), fun i y q pos hy hk => f (P := fun e => S1 X n sc _ (.Assign [.Name y q] e pos)) (snd_assign_comp (hi sc _ h3).se (he _ _ h1).se (hc _ _ h4) h2 h5 h8 (chk_tag h3).2 K hy hk)⟩
include O
theorem e_attr (o : PE) (m : Nat) (ho : gE X n o) : gE X n (.attr o m) := fun sc e h => and4_e h fun t a b c => e_of K t rfl (by
  show SE X n sc _ (.Attribute (xu e).a (xu e).s (xu e).p)
  rw [of_decide_eq_true b]; exact O.attr sc o m _ _ (ho sc _ a).se c)
theorem e_call (fz : Bool) (f : PE) (as : PEs) (hf : gE X n f) (ha : gEs X n as) : gE X n (.call fz f as) := fun sc e h => and6_e h fun t t' h0 h1 h2 h3 => e_of K t rfl (by
  show SE X n sc _ (.Call (xu e).a (xu e).l (xu e).kw (xu e).p)
  have s := (hf sc _ h0).se
  rw [xu_is t' rfl] at s
  refine xu_to (P := fun b => SE X n sc _ (.Call b (xu e).l (xu e).kw (xu e).p)) t' rfl ?_
  rw [empty_ok h2]; exact O.call sc fz f as _ _ _ _ s h3 (ha sc _ h1).ls h1)
theorem e_srv (fz : Bool) (i : Nat) (a : PE) (ha : gE X n a) : gE X n (.sortedRev fz i a) := fun sc e h => and6_e h fun t t' h0 h1 h2 h3 => and3_e h0 fun g1 g2 g3 => on_e h1 fun y hy h1 => e_of K t rfl (by
  show SE X n sc _ (.Call (xu e).a (xu e).l (xu e).kw (xu e).p)
  rw [one_ok hy]
  refine xu_to (P := fun b => SE X n sc _ (.Call b [y] (xu e).kw (xu e).p)) t' rfl ?_
  exact kw_one (G := fun kw => SE X n sc _ (.Call (.Name (xu (xu e).a).s (xu (xu e).a).p) [y] kw (xu e).p)) h2 fun k p kp => snd_srv K (snd_glob K (of_decide_eq_true g1) g2 g3) (ha sc y h1).se h1)
theorem e_su (fz : Bool) (i j : Nat) (a b : PE) (ha : gE X n a) (hb : gE X n b) : gE X n (.sortedU fz i j a b) := fun sc e h => and3_e h fun t hd h => e_of K t rfl (xu_is t rfl ▸ c1_e (G := fun e => SE X n sc _ e) h fun x p q y g1 g2 g3 hy => and4_e hy fun t4 o h1 h2 => xu_to (P := fun y => SE X n sc _ (.Call (.Name x p) [y] [] q)) t4 rfl (by
  show SE X n sc _ (.Call (.Name x p) [.BinOp (xu y).a (xu y).o (xu y).b (xu y).p] [] q)
  rw [of_decide_eq_true o]
  refine c1_e (G := fun l => SE X n sc _ (.Call (.Name x p) [.BinOp l .BitOr (xu y).b (xu y).p] [] q)) h1 fun x1 p1 q1 y1 k1 k2 k3 hy1 => ?_
  exact c1_e (G := fun r => SE X n sc _ (.Call (.Name x p) [.BinOp _ .BitOr r (xu y).p] [] q)) h2 fun x2 p2 q2 y2 l1 l2 l3 hy2 => snd_su (snd_glob K g1 g2 g3) (snd_glob K k1 k2 k3) (snd_glob K l1 l2 l3) (ha sc y1 hy1).se hy1 (hb sc y2 hy2).se hy2 hd))
theorem e_meth (fz : Bool) (o : PE) (m : Nat) (as : PEs) (ho : gE X n o) (ha : gEs X n as) : gE X n (.meth fz o m as) := fun sc e h => and6_e h fun t t' h0 h1 h2 h3 => and5_e h3 fun g1 g2 g3 g4 g5 => e_of K t rfl (by
  show SE X n sc _ (.Call (xu e).a (xu e).l (xu e).kw (xu e).p)
  refine xu_to (P := fun b => SE X n sc _ (.Call b (xu e).l (xu e).kw (xu e).p)) t' rfl ?_
  show SE X n sc _ (.Call (.Attribute (xu (xu e).a).a (xu (xu e).a).s (xu (xu e).a).p) (xu e).l (xu e).kw (xu e).p)
  rw [empty_ok g3, of_decide_eq_true h1]
  exact O.meth sc fz o m as _ _ _ _ (ho sc _ h0).se (ha sc _ h2).ls h2 g1 (Nat.le_of_ble_eq_true g2) (beq_iff_eq.mpr (Nat.eq_of_beq_eq_true g4)) g5)
end
theorem es_nil : gEs X n .nil := fun sc es h => by rw [empty_ok h]; exact ⟨snd_es_nil, snd_bool_nil⟩
theorem es_cons (c : PE) (r : PEs) (hc : gE X n c) (hr : gEs X n r) : gEs X n (.cons c r) := fun sc es h => on_e h fun x hx h => and_e h fun h1 h2 => by
  have ih := hr sc _ h2
  have hc := (hc sc x h1).se
  rw [head_ok hx]
  refine ⟨snd_es_cons hc ih.ls, ?_⟩
  cases r with
  | nil => rw [empty_ok h2]; exact snd_bool_one hc
  | cons d r' =>
    refine on_e h2 fun y hy _ => ?_
    have b := ih.bo
    rw [head_ok hy] at b ⊢
    exact snd_bool_cons hc b
theorem o_none : gO X n .none := fun sc e h => by rw [x0_ok h]; exact snd_o_none
theorem o_some (a : PE) (ha : gE X n a) : gO X n (.some a) := fun sc e h => on_e h fun x hx h => by rw [hx]; exact snd_o_some (ha sc x h).se
theorem t_e (a : PE) (ha : gE X n a) : gT X n (.e a) := fun sc e h => and_e h fun h0 h1 => (ha sc e h1).st h0
theorem t_not (c : PC) (hc : gT X n c) : gT X n (.not c) := fun sc e h => and3_e h fun t o a => xu_to (P := ST X n sc _) t rfl (by
  show ST X n sc _ (.UnaryOp (xu e).u (xu e).a (xu e).p)
  rw [of_decide_eq_true o]; exact snd_notT (hc sc _ a))
theorem t_and (cs : PCs) (hc : gTs X n cs) : gT X n (.and cs) := fun sc e h => and3_e h fun t o a => xu_to (P := ST X n sc _) t rfl (by
  show ST X n sc _ (.BoolOp (xu e).bo (xu e).l (xu e).p)
  rw [of_decide_eq_true o]; exact snd_andT (hc sc _ a))
theorem t_or (cs : PCs) (hc : gTs X n cs) : gT X n (.or cs) := fun sc e h => and3_e h fun t o a => xu_to (P := ST X n sc _) t rfl (by
  show ST X n sc _ (.BoolOp (xu e).bo (xu e).l (xu e).p)
  rw [of_decide_eq_true o]; exact snd_orT (hc sc _ a))
theorem ts_nil : gTs X n .nil := fun sc es h => by rw [empty_ok h]; exact snd_all_nil
theorem ts_cons (c : PC) (r : PCs) (hc : gT X n c) (hr : gTs X n r) : gTs X n (.cons c r) := fun sc es h => on_e h fun x hx h => and_e h fun h1 h2 => by
  rw [head_ok hx]; exact snd_all_cons (hc sc x h1) (hr sc _ h2)
theorem c_none : gC X n .none := fun sc es h => by rw [empty_ok h]; exact snd_c_nil
theorem c_some (c : PC) (hc : gT X n c) : gC X n (.some c) := fun sc es h => on_e h fun x hx h => by rw [one_ok hx]; exact snd_c_one (hc sc x h)
theorem e_no {p : PE} (h : ∀ sc e, chkE X.ck sc p e = false) : gE X n p := fun sc e q => by rw [h] at q; cases q

section
variable (K : CxOk X) (O : Objs X n)
include K O
theorem sndE (p : PE) : gE X n p :=
  PE.rec (motive_1 := gE X n) (motive_2 := gEs X n) (motive_3 := gO X n) (motive_4 := fun _ => True) (motive_5 := gT X n) (motive_6 := gTs X n) (motive_7 := gC X n)
    (e_cst K) (e_loc K) (e_glob K) (e_attr K O) (e_bin K) (e_neg K) (e_not K) (e_cmp1 K) (e_cmp2 K) (e_and K) (e_or K) (e_ite K) (e_list K) (e_tup K) (fun kvs _ => e_dict K kvs) (e_idx K) (e_sl K) (e_rev K) (e_call K O) (e_srv K O) (e_su K O) (fun _ _ => e_no fun _ _ => rfl) (e_meth K O) (e_comp K)
    es_nil es_cons o_none o_some trivial (fun _ _ _ _ _ _ => trivial) t_e t_not t_and t_or ts_nil ts_cons c_none c_some p
theorem sndT (p : PC) : gT X n p :=
  PC.rec (motive_1 := gE X n) (motive_2 := gEs X n) (motive_3 := gO X n) (motive_4 := fun _ => True) (motive_5 := gT X n) (motive_6 := gTs X n) (motive_7 := gC X n)
    (e_cst K) (e_loc K) (e_glob K) (e_attr K O) (e_bin K) (e_neg K) (e_not K) (e_cmp1 K) (e_cmp2 K) (e_and K) (e_or K) (e_ite K) (e_list K) (e_tup K) (fun kvs _ => e_dict K kvs) (e_idx K) (e_sl K) (e_rev K) (e_call K O) (e_srv K O) (e_su K O) (fun _ _ => e_no fun _ _ => rfl) (e_meth K O) (e_comp K)
    es_nil es_cons o_none o_some trivial (fun _ _ _ _ _ _ => trivial) t_e t_not t_and t_or ts_nil ts_cons c_none c_some p
theorem sndO (p : PEo) : gO X n p := by
  cases p with
  | none => exact o_none
  | some a => exact o_some a (sndE K O a)
end
end
end Mine

end

section
set_option autoImplicit false
set_option linter.all false
set_option genSizeOf false
set_option genInjectivity false
namespace Mine
open PySem PySem.W PySem.Calls PyProof.Rows

section
variable {X : Cx} {n : Nat}
noncomputable def gS (X : Cx) (n : Nat) (p : PS) : Prop := ∀ (sc : Sc) (e : Stmt), chkS X.ck sc p e = true → S1 X n sc p e
noncomputable def gSs (X : Cx) (n : Nat) (p : PSs) : Prop := ∀ (sc : Sc) (es : List Stmt), chkSs X.ck sc p es = true → SS X n sc p es
theorem su_to {P : Stmt → Prop} {e : Stmt} {k : Nat} (t : sg e k = true) (hk : Nat.ble 1 k = true) (h : P (sback (su e) k)) : P e := @Eq.subst Stmt P _ _ (su_is t hk).symm h
theorem nm_e {c : Ck} {sc : Sc} {i : Nat} {e : Expr} {G : Prop} (h : chkNm c sc i e = true) (g : e = .Name (c.nm i) (xu e).p → (xu e).s = c.nm i → kStore sc (c.nm i) = true → G) : G := and3_e h fun t a b =>
  have a := of_decide_eq_true a
  g ((xu_is t rfl).trans (congrArg (Expr.Name · (xu e).p) a)) a (a ▸ b)
section
variable (K : CxOk X) (O : Objs X n)
include K O
theorem s_expr (a : PE) : gS X n (.expr a) := fun sc e h => and3_e h fun t h1 h2 => su_to t rfl (snd_expr (sndE K O a sc _ h1).se h2)
theorem s_pass : gS X n .pass := fun sc e h => su_to h rfl snd_pass
theorem s_assign (t : PT) (a : PE) : gS X n (.assign t a) := fun sc e h => and_e h fun tt h => on_e h fun y hy h => and3_e h fun h1 h2 h9 => su_to tt rfl (by
  show S1 X n sc _ (.Assign (su e).l (su e).a (su e).p)
  rw [one_ok hy]
  cases t with
  | loc i => exact nm_e h1 fun e1 e2 hk => e1 ▸ (sndE K O a sc _ h2).as i _ _ _ rfl hk
  | attr o m =>
    refine and3_e h1 fun t h3 h4 => xu_to (P := fun y => S1 X n sc _ (.Assign [y] (su e).a (su e).p)) t rfl ?_
    show S1 X n sc _ (.Assign [.Attribute (xu y).a (xu y).s (xu y).p] (su e).a (su e).p)
    rw [of_decide_eq_true h3]
    exact O.asgA sc o a m _ _ _ _ (sndE K O a sc _ h2).se (sndE K O o sc _ h4).se
  | idx o i => exact and3_e h1 fun t h3 h4 => xu_to (P := fun y => S1 X n sc _ (.Assign [y] (su e).a (su e).p)) t rfl (snd_assign_idx (sndE K O a sc _ h2).se (sndE K O o sc _ h3).se (sndE K O i sc _ h4).se)
  | tup is => exact and4_e h1 fun t _ h3 h4 => and_e h9 fun g1 g2 => xu_to (P := fun y => S1 X n sc _ (.Assign [y] (su e).a (su e).p)) t rfl (snd_assign_tup K (sndE K O a sc _ h2).se h3 h4 (chk_tag h2).1 g2 (Bool.not_eq_true' _ ▸ g1)))
theorem s_augL (i : Nat) (op : BOp) (a : PE) : gS X n (.augLoc i op a) := fun sc e h => and6_e h fun t h1 h2 h3 h4 h5 => su_to t rfl (by
  show S1 X n sc _ (.AugAssign (su e).a (su e).o (su e).b (su e).p)
  refine nm_e h1 fun e1 e2 hk => ?_
  rw [e2] at h2 h3
  rw [e1, of_decide_eq_true h4]
  exact O.augL sc i op a _ _ _ (sndE K O a sc _ h5).se hk h2 h3)
theorem s_augA (o : PE) (m : Nat) (op : BOp) (a : PE) : gS X n (.augAttr o m op a) := fun sc e h => and6_e h fun t t' h1 h2 h3 h4 => su_to t rfl (by
  show S1 X n sc _ (.AugAssign (su e).a (su e).o (su e).b (su e).p)
  rw [of_decide_eq_true h2]
  refine xu_to (P := fun y => S1 X n sc _ (.AugAssign y (opOf op) (su e).b (su e).p)) t' rfl ?_
  show S1 X n sc _ (.AugAssign (.Attribute (xu (su e).a).a (xu (su e).a).s (xu (su e).a).p) (opOf op) (su e).b (su e).p)
  rw [of_decide_eq_true h1]
  exact O.augA sc o a m op _ _ _ _ (sndE K O a sc _ h4).se (sndE K O o sc _ h3).se)
theorem s_ret (a : PEo) : gS X n (.ret a) := fun sc e h => and_e h fun t h => su_to t rfl (by
  show S1 X n sc _ (.Return (su e).o0 (su e).p)
  cases a with
  | none => rw [x0_ok h]; exact snd_ret_none
  | some a => exact on_e h fun x hx h => hx ▸ snd_ret (sndE K O a sc x h).se)
theorem s_ite (c : PC) (a b : PSs) (ha : gSs X n a) (hb : gSs X n b) : gS X n (.ite c a b) := fun sc e h => and4_e h fun t h1 h2 h3 => su_to t rfl (snd_if (sndT K O c sc _ h1) (ha sc _ h2) (hb sc _ h3))
theorem s_loop (ts : List Nat) (it : PE) (body : PSs) (hb : gSs X n body) : gS X n (.loop ts it body) := fun sc e h => and6_e h fun t h1 h2 h3 h4 h5 => su_to t rfl (by
  show S1 X n sc _ (.For (su e).a (su e).b (su e).b0 (su e).b1 (su e).p)
  rw [empty_ok h4]
  refine on_e h1 fun j hj h1 => nm_e h1 fun e1 e2 hk => snd_loop K (sndE K O it sc _ h2).se (hb sc _ h3) ?_ (chk_tag h2).2 h5
  rw [one_ok hj, e1]
  exact bnd_name K rfl hk)
theorem s_enum (g i x : Nat) (it : PE) (body : PSs) : gS X n (.loopEnum g i x it body) := fun sc e h => and4_e h fun t h1 h2 h3 => su_to t rfl (by
  show S1 X n sc _ (.For (su e).a (su e).b (su e).b0 (su e).b1 (su e).p)
  rw [empty_ok h2]
  exact c1_e (G := fun b => S1 X n sc _ (.For (su e).a b (su e).b0 [] (su e).p)) h1 fun x p q y g1 g2 g3 hy => snd_enum (snd_glob K g1 g2 g3) (sndE K O it sc y hy).se hy h3)
theorem s_while (c : PC) (body : PSs) (hb : gSs X n body) : gS X n (.while_ c body) := fun sc e h => and4_e h fun t h1 h2 h3 => su_to t rfl (by
  show S1 X n sc _ (.While (su e).a (su e).b0 (su e).b1 (su e).p)
  rw [empty_ok h3]; exact snd_while (sndT K O c sc _ h1) (hb sc _ h2))
theorem s_raise (i : Nat) (a : PE) : gS X n (.raise i a) := fun sc e h => and_e h fun t h => on_e h fun x hx h => and3_e h fun t1 t2 h => on_e h fun v hv h => and5_e h fun h1 h2 h3 h4 h5 => su_to t rfl (by
  show S1 X n sc _ (.Raise (su e).o0 (su e).o1 (su e).p)
  rw [hx, x0_ok h4]
  refine xu_to (P := fun y => S1 X n sc _ (.Raise (some y) none (su e).p)) t1 rfl ?_
  show S1 X n sc _ (.Raise (some (.Call (xu x).a (xu x).l (xu x).kw (xu x).p)) none (su e).p)
  rw [one_ok hv, empty_ok h3]
  exact xu_to (P := fun y => S1 X n sc _ (.Raise (some (.Call y [v] [] (xu x).p)) none (su e).p)) t2 rfl (O.raise sc i a _ v _ _ _ h1 (sndE K O a sc v h2).se h2 h5))
theorem s_try (body : PSs) (i : Nat) (as : Option Nat) (hh : PSs) (hb : gSs X n body) (hhh : gSs X n hh) : gS X n (.try_ body i as hh) := fun sc e h => and_e h fun t h => on_e h fun g hg h => on_e h fun x hx h => and_e h fun t1 h => on_e h fun b₀ hb0 h => and6_e h fun h1 h2 h3 h4 h5 h6 => and_e h5 fun h7 h8 => su_to t rfl (by
  show S1 X n sc _ (.Try (su e).b0 (su e).hs (su e).b1 (su e).b2 (su e).p)
  have h3' := hhh ⟨sc.sc, false⟩ _ h3
  rw [head_ok hb0] at h3'
  rw [one_ok hg, empty_ok h7, empty_ok h8, xHd_ok g, hx, head_ok hb0]
  exact xu_to (P := fun y => S1 X n sc _ (.Try (su e).b0 [.ExceptHandler (some y) _ _ _] [] [] (su e).p)) t1 rfl (O.try_ sc body i as hh _ b₀ _ _ _ _ _ _ h1 (hb sc _ h2) h3' h4 h6))
end
theorem ss_nil : gSs X n .nil := fun sc es h => by rw [empty_ok h]; exact snd_ss_nil
theorem ss_cons (c : PS) (r : PSs) (hc : gS X n c) (hr : gSs X n r) : gSs X n (.cons c r) := fun sc es h => on_e h fun x hx h => and_e h fun h1 h2 => by
  rw [head_ok hx]; exact snd_ss_cons (hc sc x h1) (hr sc _ h2)
theorem sndSs (K : CxOk X) (O : Objs X n) (p : PSs) : gSs X n p :=
  PSs.rec (motive_1 := gS X n) (motive_2 := gSs X n) (s_expr K O) (s_pass K O) (s_assign K O) (s_augL K O) (s_augA K O) (s_ret K O) (s_ite K O) (s_loop K O) (fun g i x it b _ => s_enum K O g i x it b) (s_while K O) (s_raise K O) (s_try K O) ss_nil ss_cons p
end
end Mine

end

section
set_option autoImplicit false
set_option linter.all false
set_option genSizeOf false
set_option genInjectivity false
namespace Mine
open PySem PySem.W PySem.Calls PyProof.Rows

/-- what a look at an exception may change -/
noncomputable def Hid (W : Wd) (H : Hp) (h₀ : Heap) (e : Addr) (l : List Env) (a : Addr) : Prop := a = e ∨ a ∈ l.filterMap (·.frame) ∨ (h₀.get? a = none ∧ ¬ Own W H a ∧ W.Z a = none)
/-- behind a look at an exception -/
structure Aft (W : Wd) (H : Hp) (h₀ h h' : Heap) (e : Addr) (cls : Value) (l : List Env) : Prop where
  same : ∀ b ob, h.get? b = some ob → ¬ Hid W H h₀ e l b → h'.get? b = some ob
  fr : ∀ b ob, b ∈ l.filterMap (·.frame) → h.get? b = some ob → ∃ o', h'.get? b = some o' ∧ SameO ob o'
  fly : Fly W H h₀ h' e
  exc : ∃ oe vs, h'.get? e = some oe ∧ oe.cls = cls ∧ oe.data = .fields vs

section
variable {X : Cx} {M : Model} {A : Around} {E : Value → Shared → Prop} {s : Shared} {W : Wd} {H : Hp} {h₀ : Heap} {e : Addr} {env : Env} {outer : List Env}

theorem frames_of {as : List Addr} {h : Heap} {l : List Env} (F : ∀ e ∈ l, FrAt W H h e) (hin : ∀ b ∈ l.filterMap (·.frame), b ∈ as) : h.FunFrames (hideAll h as) l := by
  induction l with
  | nil => trivial
  | cons env r ih =>
    obtain ⟨kd, L, o, es, n, a, b, c, _⟩ := F env (.head _)
    exact ⟨kd, ⟨L, o, a, hideAll_none _ (hin L (List.mem_filterMap.mpr ⟨env, .head _, a⟩)), b, fun vs q => by rw [c] at q; cases q⟩, ih (fun e he => F e (.tail _ he)) fun b hb => hin b ((List.mem_filterMap.mp hb).elim fun e q => List.mem_filterMap.mpr ⟨e, .tail _ q.1, q.2⟩)⟩

theorem frOwn_of {l : List Env} {h : Heap} (F : ∀ e ∈ l, FrAt W H h e) : ∀ b, b ∈ l.filterMap (·.frame) → ∃ o es n, h.get? b = some o ∧ o.data = .dict es n ∧ ¬ Own W H b ∧ W.Z b = none := fun b hb => by
  obtain ⟨e', he', q⟩ := List.mem_filterMap.mp hb
  obtain ⟨_, L', o, es, n, a, b', c, d, f⟩ := F e' he'
  rw [q] at a; cases a
  exact ⟨o, es, n, b', c, d, f⟩
/-- whatever was hidden -/
theorem aft_of {cls a0 : Value} {l : List Env} {as : List Addr} {h₂ : Heap} (R : RelH X W H s.heap) (there : ∀ a o, h₀.get? a = some o → ∃ o', s.heap.get? a = some o') (F : ∀ e ∈ l, FrAt W H s.heap e) (hin : ∀ a ∈ as, Hid W H h₀ e l a) (x : Heap.FlyingW (hideAll s.heap as) l e cls a0 h₂) (u : s.heap.UpToSlots h₂) : Aft W H h₀ s.heap h₂ e cls l := by
  have frOwn := frOwn_of F
  obtain ⟨k1, _, _, oe, vs, T, oT, ts, he, ⟨hc, h0⟩, hd, h1, hnT, hTe, hT, hdT, h3⟩ := x
  have fr : ∀ b ob, b ∈ l.filterMap (·.frame) → s.heap.get? b = some ob → ∃ o', h₂.get? b = some o' ∧ SameO ob o' := fun b ob hb hob => by
    obtain ⟨o, es, n, q1, q2, _⟩ := frOwn b hb
    rw [hob] at q1; cases q1
    obtain ⟨sl, q⟩ := u b ob hob fun vs z => by rw [q2] at z; cases z
    exact ⟨_, q, .inr ⟨⟨es, n, q2⟩, sl, rfl⟩⟩
  refine ⟨fun b ob hb hn => k1 b ob (hideAll_get _ hb fun hm => hn (hin b hm)), fr, ⟨oe, vs, a0, he, hd, h0, .inr ⟨T, oT, ts, h1, hTe, hT, hdT, h3, ?_⟩⟩, oe, vs, he, hc, hd⟩
  cases hq : s.heap.get? T with
  | none =>
    refine ⟨?_, fun z => ?_, ?_⟩
    · cases q : h₀.get? T with
      | none => rfl
      | some o => obtain ⟨o', z⟩ := there T o q; rw [hq] at z; cases z
    · obtain ⟨o', z⟩ := R.own_there z; rw [hq] at z; cases z
    · cases q : W.Z T with
      | none => rfl
      | some o => have := R.z _ _ q; rw [hq] at this; cases this
  | some o =>
    have hm : T ∈ as := by
      cases hd : decide (T ∈ as) with
      | true => exact of_decide_eq_true hd
      | false => have := hideAll_get as hq (of_decide_eq_false hd); rw [hnT] at this; cases this
    rcases hin T hm with q | q | q
    · exact absurd q hTe
    · obtain ⟨o', z, zz⟩ := fr T o q hq
      obtain ⟨o2, es, n, q1, q2, _⟩ := frOwn T q
      rw [hq] at q1; cases q1
      rw [hT] at z; cases z
      rw [zz.data, q2] at hdT; cases hdT
    · exact q
theorem hid1 {l : List Env} : ∀ a ∈ e :: l.filterMap (·.frame), Hid W H h₀ e l a := fun a ha => by
  rcases List.mem_cons.mp ha with q | q
  · exact .inl q
  · exact .inr (.inl q)
theorem hid2 {l : List Env} {T : Addr} (y : h₀.get? T = none ∧ ¬ Own W H T ∧ W.Z T = none) : ∀ a ∈ e :: T :: l.filterMap (·.frame), Hid W H h₀ e l a := fun a ha => by
  rcases List.mem_cons.mp ha with q | q
  · exact .inl q
  · rcases List.mem_cons.mp q with q | q
    · subst q; exact .inr (.inr y)
    · exact .inr (.inl q)

theorem seen_ok {L : Addr} {cls : Value} {Q : Unit → Shared → Prop} (R : RelH X W H s.heap) (there : ∀ a o, h₀.get? a = some o → ∃ o', s.heap.get? a = some o') (hfr : A.frames = some (env :: outer)) (hf : env.frame = some L) (F : ∀ e ∈ env :: outer, FrAt W H s.heap e)
    (fl : Fly W H h₀ s.heap e) (hcls : ∀ oe, s.heap.get? e = some oe → oe.cls = cls) (hQ : ∀ h', Aft W H h₀ s.heap h' e cls (env :: outer) → Q () { s with heap := h' }) :
    wpAny M A (noteFrame (.ref e) env) (fun _ s₂ => wpAny M A (setFlight (.ref e) none) Q E s₂) E s := by
  obtain ⟨oe, vs, a0, he, hd, h0, h1⟩ := fl
  have hc := hcls oe he
  rcases h1 with h1 | ⟨T, oT, ts, h1, hTe, hT, hdT, h3, y⟩
  · have FF : s.heap.FunFrames (hideAll s.heap (e :: (env :: outer).filterMap (·.frame))) (env :: outer) := frames_of (l := env :: outer) F fun b hb => .tail _ hb
    have hkb : (hideAll s.heap (e :: (env :: outer).filterMap (·.frame))).StaysIn s.heap := fun b o q => of_hideAll _ q
    have hen : (hideAll s.heap (e :: (env :: outer).filterMap (·.frame))).get? e = none := hideAll_none _ (.head _)
    unfold noteFrame
    simp only [hf]
    refine wpAny_bind (wpAny_field he hd h1 ?_)
    rw [if_neg (by decide)]
    refine wpAny_entryW hfr FF hf he hkb hen hd (Array.getElem?_eq_some_iff.mp h1).1 h0 fun h₁ ⟨k1, k2, k3, k4⟩ => ?_
    refine wpAny_landsW (s := { s with heap := h₁ }) ⟨k1, hen, k2, k3⟩ fun h₂ x u => ?_
    rw [hc] at x
    exact hQ _ (aft_of R there F hid1 x (Heap.UpToSlots.trans k4 u))
  · have FF : s.heap.FunFrames (hideAll s.heap (e :: T :: (env :: outer).filterMap (·.frame))) (env :: outer) := frames_of (l := env :: outer) F fun b hb => .tail _ (.tail _ hb)
    have hkb : (hideAll s.heap (e :: T :: (env :: outer).filterMap (·.frame))).StaysIn s.heap := fun b o q => of_hideAll _ q
    have hen : (hideAll s.heap (e :: T :: (env :: outer).filterMap (·.frame))).get? e = none := hideAll_none _ (.head _)
    have hTn : (hideAll s.heap (e :: T :: (env :: outer).filterMap (·.frame))).get? T = none := hideAll_none _ (.tail _ (.head _))
    refine wpAny_looks_onW hfr hf ⟨hkb, hen, FF, oe, vs, T, oT, ts, he, ⟨hc, h0⟩, hd, h1, hTn, hTe, hT, hdT, h3⟩ fun h₁ hh u₁ => ?_
    exact wpAny_landsW (s := { s with heap := h₁ }) hh fun h₂ x u => hQ _ (aft_of R there F (hid2 y) x (u₁.trans u))
/-- it lands once more -/
theorem again_ok {l : List Env} {cls : Value} {Q : Unit → Shared → Prop} (R : RelH X W H s.heap) (there : ∀ a o, h₀.get? a = some o → ∃ o', s.heap.get? a = some o') (F : ∀ e ∈ l, FrAt W H s.heap e)
    (fl : Fly W H h₀ s.heap e) (hcls : ∀ oe, s.heap.get? e = some oe → oe.cls = cls) (hQ : ∀ h', Aft W H h₀ s.heap h' e cls l → Q () { s with heap := h' }) :
    wpAny M A (setFlight (.ref e) none) Q E s := by
  obtain ⟨oe, vs, a0, he, hd, h0, h1⟩ := fl
  have hc := hcls oe he
  rcases h1 with h1 | ⟨T, oT, ts, h1, hTe, hT, hdT, h3, y⟩
  · unfold setFlight
    refine wpAny_bind (wpAny_field he hd h1 ?_)
    rw [if_neg (by decide)]
    exact wpAny_pure (hQ s.heap ⟨fun b ob q _ => q, fun b ob _ q => ⟨ob, q, .refl ob⟩, ⟨oe, vs, a0, he, hd, h0, .inl h1⟩, oe, vs, he, hc, hd⟩)
  · have FF : s.heap.FunFrames (hideAll s.heap (e :: T :: l.filterMap (·.frame))) l := frames_of (l := l) F fun b hb => .tail _ (.tail _ hb)
    have hkb : (hideAll s.heap (e :: T :: l.filterMap (·.frame))).StaysIn s.heap := fun b o q => of_hideAll _ q
    have hen : (hideAll s.heap (e :: T :: l.filterMap (·.frame))).get? e = none := hideAll_none _ (.head _)
    have hTn : (hideAll s.heap (e :: T :: l.filterMap (·.frame))).get? T = none := hideAll_none _ (.tail _ (.head _))
    exact lands_againW ⟨hkb, hen, FF, oe, vs, T, oT, ts, he, ⟨hc, h0⟩, hd, h1, hTn, hTe, hT, hdT, h3⟩ fun h₂ x u => hQ _ (aft_of R there F (hid2 y) x u)

theorem Aft.rel {h' : Heap} {cls : Value} {l : List Env} {i k : Nat} {la : Addr × Addr} {c : Addr} (R : RelH X W H s.heap) (hi : H.get i = some (.exc k)) (hl : W.φ i = some la) (hla : la.1 = e) (hc : X.clA k = some c) (hcls : cls = .ref c) (F : ∀ e ∈ l, FrAt W H s.heap e) (a : Aft W H h₀ s.heap h' e cls l) : RelH X W H h' := by
  have cell0 : ExcCell X s.heap la k := R.at_ hi hl
  have own_e : Own W H e := ⟨i, _, la, hi, hl, .inl hla.symm⟩
  have frOwn : ∀ b, b ∈ l.filterMap (·.frame) → ¬ Own W H b ∧ W.Z b = none := fun b hb => by
    obtain ⟨e', he', q⟩ := List.mem_filterMap.mp hb
    obtain ⟨_, L', o, es, n, x1, x2, x3, x4, x5⟩ := F e' he'
    rw [q] at x1; cases x1
    exact ⟨x4, x5⟩
  refine ⟨fun b ob hz => a.same b ob (R.z b ob hz) fun hd => ?_, R.base, fun j cj hj => ?_, R.off, R.sep, R.dom⟩
  · rcases hd with q | q | q
    · rw [q, R.off e own_e] at hz; cases hz
    · rw [(frOwn b q).2] at hz; cases hz
    · rw [q.2.2] at hz; cases hz
  · obtain ⟨l', hl', cell⟩ := R.cell j cj hj
    by_cases hji : j = i
    · subst hji
      have : l' = la := Option.some.inj (hl'.symm.trans hl)
      subst this
      rw [hi] at hj; cases hj
      obtain ⟨oe, vs, q1, q2, q3⟩ := a.exc
      obtain ⟨_, _, _, _, hx, _, _, _, hl2⟩ := cell0
      exact ⟨l', hl, c, oe, vs, hc, hx, by rw [hla]; exact q1, q2.trans hcls, q3, hl2⟩
    · obtain ⟨s1, s2, s3, s4⟩ := R.sep j i cj _ l' la hj hi hl' hl hji
      have nh : ∀ b, b = l'.1 ∨ b = l'.2 → ¬ Hid W H h₀ e l b := fun b hb hd => by
        have ob : Own W H b := ⟨j, cj, l', hj, hl', hb⟩
        rcases hd with q | q | q
        · rcases hb with r | r
          · exact s1 (by rw [← r, q, hla])
          · exact s3 (by rw [← r, q, hla])
        · exact (frOwn b q).1 ob
        · exact q.2.1 ob
      exact ⟨l', hl', cell.keeps (.refl _) (fun o q => a.same _ _ q (nh _ (.inl rfl))) fun o q => a.same _ _ q (nh _ (.inr rfl))⟩

theorem Stp.post {Pv : Addr → Prop} {W₀ : Wd} {H₀ : Hp} {h h' : Heap} (S : Stp Pv W₀ H₀ h₀ W H h) (k : ∀ b, (∃ o, h₀.get? b = some o) → ∀ ob, h.get? b = some ob → ∃ o', h'.get? b = some o' ∧ (¬ Own W H b → SameO ob o')) : Stp Pv W₀ H₀ h₀ W H h' where
  le := S.le
  keep := fun a o ha no np => by
    obtain ⟨o₁, h1, q1⟩ := S.keep a o ha no np
    obtain ⟨o₂, h2, q2⟩ := k a ⟨o, ha⟩ o₁ h1
    exact ⟨o₂, h2, q1.trans (q2 (S.own a o ha no))⟩
  own := S.own
  znew := S.znew
  there := fun a o ha => by
    obtain ⟨o₁, h1⟩ := S.there a o ha
    obtain ⟨o₂, h2, _⟩ := k a ⟨o, ha⟩ o₁ h1
    exact ⟨o₂, h2⟩
theorem Aft.stp {Pv : Addr → Prop} {W₀ : Wd} {H₀ : Hp} {h h' : Heap} {cls : Value} {l : List Env} (S : Stp Pv W₀ H₀ h₀ W H h) (ho : Own W H e) (a : Aft W H h₀ h h' e cls l) : Stp Pv W₀ H₀ h₀ W H h' :=
  S.post fun b hb ob hob => by
    by_cases hd : Hid W H h₀ e l b
    · rcases hd with q | q | q
      · obtain ⟨oe, vs, q1, _⟩ := a.exc
        exact ⟨oe, by rw [q]; exact q1, fun z => absurd (q ▸ ho) z⟩
      · obtain ⟨o', q1, q2⟩ := a.fr b ob q hob
        exact ⟨o', q1, fun _ => q2⟩
      · obtain ⟨o, z⟩ := hb; rw [q.1] at z; cases z
    · exact ⟨ob, a.same b ob hob hd, fun _ => .refl ob⟩
/-- the frame at hand, behind a look -/
theorem Aft.frr {h h' : Heap} {cls : Value} {env' : Env} {Pv : Pr} {loc : Loc} (F : FrR X W H h env' Pv loc) (hp : ∀ b, Pv.pv b → ∃ o, h₀.get? b = some o) (hcl : ∀ x c, env'.cells.lookup x = some c → ∃ o, h₀.get? c = some o) (ho : Own W H e) (a : Aft W H h₀ h h' e cls Pv.st) : FrR X W H h' env' Pv loc := by
  have key : ∀ b, ¬ Own W H b → (∃ o, h₀.get? b = some o) → ∀ o, h.get? b = some o → ∃ o', h'.get? b = some o' ∧ SameO o o' := fun b nb hb o hob => by
    by_cases hd : Hid W H h₀ e Pv.st b
    · rcases hd with q | q | q
      · exact absurd (q ▸ ho) nb
      · exact a.fr b o q hob
      · obtain ⟨o, z⟩ := hb; rw [q.1] at z; cases z
    · exact ⟨o, a.same b o hob hd, .refl o⟩
  have kp : ∀ b, Pv.pv b → ∀ o, h.get? b = some o → ∃ o', h'.get? b = some o' ∧ SameO o o' := fun b p => key b (F.priv b p).1 (hp b p)
  have kc : ∀ x c, env'.cells.lookup x = some c → ∀ o, h.get? c = some o → ∃ o', h'.get? c = some o' ∧ SameO o o' := fun x c q => key c (F.cellNs x c q).2.1 (hcl x c q)
  refine ⟨?_, fun i v e k => ?_, fun x ef e => ?_, F.cellEq, fun x c e => ?_, F.pvL, F.priv, fun b p => ?_, fun e he => (F.frs e he).keep fun L o es n x1 x2 x3 x4 x5 => ⟨?_, x4, x5⟩, F.frc⟩
  · obtain ⟨m, hn, hv⟩ := F.ns
    exact ⟨m, ns_same hn (kp _ F.pvL), hv⟩
  · obtain ⟨c, cv, q, r, t⟩ := F.cells i v e k
    exact ⟨c, cv, q, cell_same r (kc _ _ q), t⟩
  · obtain ⟨c, v, q, r, t⟩ := F.hasCell x ef e
    exact ⟨c, v, q, cell_same r (kc _ _ q), t⟩
  · obtain ⟨p, q, ob, r⟩ := F.cellNs x c e
    obtain ⟨o', z, _⟩ := kc x c e ob r
    exact ⟨p, q, o', z⟩
  · obtain ⟨o, r⟩ := F.pvAt b p
    obtain ⟨o', z, _⟩ := kp b p o r
    exact ⟨o', z⟩
  · obtain ⟨o', z, q⟩ := a.fr L o (List.mem_filterMap.mpr ⟨e, he, x1⟩) x2
    exact ⟨o', es, n, z, q.data.trans x3⟩
end
end Mine

end

section
set_option autoImplicit false
set_option linter.all false
set_option genSizeOf false
set_option genInjectivity false
namespace Mine
open PySem PySem.W PySem.Calls PyProof.Rows

section
variable {X : Cx} {n : Nat}

theorem cells_some (names : List (Str × NameKind)) : ∀ (k : Nat) (acc : List (Str × Addr)) (x : Str), ((x, NameKind.cell) ∈ names ∨ ∃ c, acc.lookup x = some c) → ∃ c, (cellsFrom k names acc).lookup x = some c := by
  induction names with
  | nil => exact fun _ _ _ h => h.elim (fun q => (nomatch q)) id
  | cons p r ih =>
    intro k acc x h
    obtain ⟨y, kd⟩ := p
    unfold cellsFrom
    split
    · refine ih (k + 1) ((y, k) :: acc) x ?_
      rcases h with h | ⟨c, h⟩
      · rcases List.mem_cons.mp h with q | q
        · cases q; exact .inr ⟨k, lookup_eq (beq_self_eq_true x)⟩
        · exact .inl q
      · cases hb : x == y with
        | true => exact .inr ⟨k, lookup_eq hb⟩
        | false => exact .inr ⟨c, (lookup_ne hb).trans h⟩
    · rename_i hk
      refine ih k acc x (h.imp (fun h => ?_) id)
      rcases List.mem_cons.mp h with q | q
      · cases q; exact absurd rfl hk
      · exact q

/-- the names bound at a call's start -/
structure BR (X : Cx) (W : Wd) (kd : Str → Option NameKind) (loc : Loc) (m cm : Str → Option Value) : Prop where
  l : ∀ i v, loc i = some v → kd (X.nm i) = some .local → MmR X W m i v
  c : ∀ i v, loc i = some v → kd (X.nm i) ≠ some .local → MmR X W cm i v
theorem bindP_e {ps : List Nat} {p : Nat} {as : List V} {l₀ l : Loc} {G : Prop} (h : bindP (p :: ps) as l₀ = some l) (g : ∀ a as', as = a :: as' → bindP ps as' (upd l₀ p a) = some l → G) : G := by
  cases as with
  | nil => cases h
  | cons a as => exact g a as rfl h
theorem bindP_nil {as : List V} {l₀ l : Loc} (h : bindP [] as l₀ = some l) : as = [] ∧ l = l₀ := by
  cases as with
  | nil => exact ⟨rfl, (Option.some.inj h).symm⟩
  | cons _ _ => cases h
theorem bind_rel (K : CxOk X) {W : Wd} {kd : Str → Option NameKind} (ps : List Nat) : ∀ (vs : List Value) (as : List V) (l₀ l : Loc) (m cm : Str → Option Value), VRs X W vs as → bindP ps as l₀ = some l → BR X W kd l₀ m cm → BR X W kd l (PySem.bindL kd ((ps.map X.nm).zip vs) m) (PySem.bindC kd ((ps.map X.nm).zip vs) cm) := by
  induction ps with
  | nil =>
    intro vs as l₀ l m cm hv hb h
    rw [(bindP_nil hb).2]; exact h
  | cons p ps ih =>
    intro vs as l₀ l m cm hv hb h
    refine bindP_e hb fun a as' e hb' => ?_
    subst e
    cases hv with
    | @cons v vs _ _ hv hvs =>
      have key : ∀ i u, upd l₀ p a i = some u → (i = p ∧ u = a) ∨ (X.nm i ≠ X.nm p ∧ l₀ i = some u) := fun i u e => by
        have e' : (if i = p then some a else l₀ i) = some u := e
        by_cases hi : i = p
        · rw [if_pos hi] at e'; exact .inl ⟨hi, (Option.some.inj e').symm⟩
        · rw [if_neg hi] at e'; exact .inr ⟨fun q => hi (K.inj _ _ q), e'⟩
      refine ih vs as' (upd l₀ p a) l _ _ hvs hb' ⟨fun i u e q => ?_, fun i u e q => ?_⟩
      · rcases key i u e with ⟨rfl, rfl⟩ | ⟨ne, e⟩
        · exact ⟨v, by rw [if_pos q, if_pos rfl], hv⟩
        · obtain ⟨cv, a1, a2⟩ := h.l i u e q
          refine ⟨cv, ?_, a2⟩
          split
          · exact (if_neg ne).trans a1
          · exact a1
      · rcases key i u e with ⟨rfl, rfl⟩ | ⟨ne, e⟩
        · exact ⟨v, by rw [if_neg q, if_pos rfl], hv⟩
        · obtain ⟨cv, a1, a2⟩ := h.c i u e q
          refine ⟨cv, ?_, a2⟩
          split
          · exact a1
          · exact (if_neg ne).trans a1
theorem bindP_len (ps : List Nat) : ∀ (as : List V) (l₀ l : Loc), bindP ps as l₀ = some l → as.length = ps.length := by
  induction ps with
  | nil => exact fun as l₀ l h => by rw [(bindP_nil h).1]; rfl
  | cons p ps ih => exact fun as l₀ l h => bindP_e h fun a as' e h => by rw [e]; exact congrArg (· + 1) (ih as' _ l h)

/-- a new place is no one's -/
theorem RelH.fresh_no {W : Wd} {H : Hp} {h : Heap} (R : RelH X W H h) {b : Addr} (hb : h.get? b = none) : ¬ Own W H b ∧ W.Z b = none := by
  refine ⟨fun q => (R.own_there q).elim fun _ e => (by rw [hb] at e; cases e), ?_⟩
  cases q : W.Z b with
  | none => rfl
  | some ob => have := R.z _ _ q; rw [hb] at this; cases this
/-- the private places of a call -/
noncomputable def callPv (fd : FuncData) (L a : Addr) (outer : List Env) : Pr := ⟨fun b => b = L ∨ ∃ x, (callEnvC fd L a).cells.lookup x = some b, callEnvC fd L a :: outer⟩
section
variable {A : Around} {k : Nat} {a : Addr} {as : List V} {vs : List Value} {W : Wd} {H : Hp} {s : Shared} {d : Fn} {m : Loc} {q : Bool} {o : Obj} {fd : FuncData} {body : List Stmt} {outer : List Env}
theorem call_step (K : CxOk X) (O : Objs X n) : CallM X (n + 1) := by
  intro A k a as vs W H s Q E hA hq hst R hv ha h
  obtain ⟨outer, hfr, hfrs⟩ := hst
  refine need_e h fun d hd h => need_e h fun m hm h => ?_
  obtain ⟨o, fd, body, F⟩ := K.fn k a d ha hd
  have hlen : vs.length = d.params.length := by rw [hv.length]; exact bindP_len _ _ _ _ hm
  have cs : ∀ (N : Nat) x, fd.scope.names.lookup x = some .cell → ∃ c, (cellsFrom N fd.scope.names []).lookup x = some c := fun N x q => cells_some _ _ _ _ (.inl (lookup_mem q))
  refine codeAny_call_cells (by have := hA.depth; omega) (R.bkeep _ _ F.at_) F.data (K.noLim.keeps R.bkeep) (F.code.keeps R.bkeep) F.body_ (F.bind vs hlen) F.clo (fun x hx => ?_) (fun s₁ ic => ?_) F.co F.gen F.kind
  · obtain ⟨i, hi, e⟩ := List.mem_map.mp (List.of_mem_zip (show (x.1, x.2) ∈ _ from hx)).1
    rw [← e]
    rcases Bool.or_eq_true_iff.mp (F.par i hi) with q | q
    · exact .inl (knd_of (sc := ⟨fd.scope, true⟩) (Nat.eq_of_beq_eq_true q) (by decide))
    · have q : fd.scope.names.lookup (X.nm i) = some .cell := knd_of (sc := ⟨fd.scope, true⟩) (Nat.eq_of_beq_eq_true q) (by decide)
      exact (cs (s.heap.objs.size + 1) _ q).elim fun c hc => .inr ⟨q, by rw [hc]; rfl⟩
  generalize hL : s.heap.objs.size = L at ic ⊢
  have sn : ∀ b, L ≤ b → s.heap.get? b = none := fun b hb => Heap.get?_none_of_le (by rw [hL]; exact hb)
  obtain ⟨h₁, tk, rfl, keep⟩ := ic.done
  have ab : ∀ x c, (callEnvC fd L a).cells.lookup x = some c → L < c := fun x c q => ic.above x c (lookup_mem q)
  have pvN : ∀ b, (callPv fd L a outer).pv b → s.heap.get? b = none := fun b hb => hb.elim (fun q => by rw [q]; exact sn L (Nat.le_refl _)) fun ⟨x, q⟩ => sn b (Nat.le_of_lt (ab x b q))
  have S0 : Stp noPv W H s.heap W H h₁ := .quiet (fun b ob e _ => keep b ob e) fun b ob e => ⟨ob, keep b ob e⟩
  have br := bind_rel K (kd := (callEnvC fd L a).kindOf) d.params vs as (fun _ => none) m (fun _ => none) (fun _ => none) hv hm ⟨fun i v e => (by cases e), fun i v e => (by cases e)⟩
  have kc : ∀ x, (callEnvC fd L a).kindOf x = some .cell → ∃ c, (callEnvC fd L a).cells.lookup x = some c := fun x q => cs (L + 1) x q
  have kf : ∀ x, (callEnvC fd L a).kindOf x ≠ some .free := fun x q => F.free _ (lookup_mem (show fd.scope.names.lookup x = some .free from q)) rfl
  have fr : FrR X W H h₁ (callEnvC fd L a) (callPv fd L a outer) m := by
    refine ⟨⟨_, ic.toInCall.ns, br.l⟩, fun i v e q => ?_, fun x _ q => ?_, fun x y c q q' => name_of_addr ic.apart (lookup_mem q) (lookup_mem q'), fun x c q => ?_, .inl rfl, fun b hb => R.fresh_no (pvN b hb), fun b hb => ?_, fun e he => ?_, fun x c q e he z => ?_⟩
    · have q' : (callEnvC fd L a).kindOf (X.nm i) = some .cell := q.elim id fun z => absurd z (kf _)
      obtain ⟨c, hc⟩ := kc _ q'
      obtain ⟨cv, h1, h2⟩ := br.c i v e (by rw [q']; intro z; cases z)
      have hcell := ic.cell _ c hc
      rw [h1] at hcell
      exact ⟨c, cv, hc, hcell, h2⟩
    · exact (kc _ q).elim fun c hc => ⟨c, _, hc, ic.cell _ c hc, .inr ⟨x, hc⟩⟩
    · exact (ic.cell _ c q).elim fun ob ho => ⟨Nat.ne_of_gt (ab x c q), (R.fresh_no (pvN c (.inr ⟨x, q⟩))).1, ob, ho.1⟩
    · rcases hb with rfl | ⟨x, q⟩
      · obtain ⟨ob, _, _, ho, _⟩ := ic.toInCall.ns; exact ⟨ob, ho⟩
      · exact (ic.cell _ b q).elim fun ob ho => ⟨ob, ho.1⟩
    · rcases List.mem_cons.mp he with q | q
      · subst q
        obtain ⟨ob, es, n', ho, hd', _⟩ := ic.toInCall.ns
        exact ⟨by show fd.scope.kind ≠ _; rw [F.kind]; decide, L, ob, es, n', rfl, ho, hd', R.fresh_no (sn L (Nat.le_refl _))⟩
      · exact (hfrs e q).keep fun L' o es n' a b c d f => ⟨⟨o, es, n', keep _ _ b, c⟩, d, f⟩
    · rcases List.mem_cons.mp he with r | r
      · subst r
        exact Nat.ne_of_lt (ab x c q) (Option.some.inj (show some L = some c from z))
      · obtain ⟨_, L', o, es, n', x1, x2, _⟩ := hfrs e r
        rw [z] at x1; cases x1
        rw [pvN c (.inr ⟨x, q⟩)] at x2; cases x2
  have hfr' : (A.deeper (callEnvC fd L a)).frames = some (callEnvC fd L a :: outer) := by show A.frames.map _ = _; rw [hfr]; rfl
  have hs : ∀ hd', (hd' = true → A.handled = none) → chkSs X.ck ⟨fd.scope, hd'⟩ d.body body = true → _ := fun hd' hh' hck => sndSs K O d.body ⟨fd.scope, hd'⟩ body hck (A.deeper (callEnvC fd L a)) (callEnvC fd L a) (callPv fd L a outer) W ⟨H, m⟩ { s with heap := h₁, toks := tk } _ _
    ⟨hfr', fun _ => ⟨(fun z => by cases z), outer, rfl⟩, ⟨by have := hA.depth; show A.depth + 1 + 4 * n + 6 < _; omega, by have := hA.units; show A.units + 3 + 20 * n + 110 < _; omega⟩, hh', F.kind, F.glob, F.bi, fun x k q => .inl q, fun x q => q.elim (kc x) fun z => absurd z (kf x)⟩ (by intro z; cases z) ⟨R.quiet (Pv := noPv) (fun b ob e _ => keep b ob e) fun _ z => z.elim, fr⟩ h
  refine wpAny_mono (hq.elim (fun q => hs true (fun _ => q) F.chk) fun q => hs false (fun z => (Bool.false_ne_true z).elim) (F.chkq q)) (fun fl s' qq => qq.e fun W' σ' T qq => qq.e fun af hfr q => ?_) fun e s' x => ?_
  · have Tc' : Tc X W H s W' σ'.H s' := ⟨S0.transFresh T.stp fun b hb => .inl (pvN b hb), T.at_.rel, ⟨T.rest.gens, T.rest.drawn, T.rest.os⟩⟩
    cases hfr with
    | ret hr => exact ⟨W', σ'.H, _, Tc', hr, q⟩
    | _ => exact ⟨W', σ'.H, _, Tc', .none, q⟩
  · obtain ⟨W', σ', i, l, k', T, rfl, hl, hg, fl, hE⟩ := x
    obtain ⟨c, o, vs', hc, _, ho, hcls, hdd, _⟩ := T.at_.rel.at_ hg hl
    unfold leaving
    refine wpAny_bind (seen_ok (h₀ := h₁) (cls := .ref c) T.at_.rel T.stp.there hfr' rfl T.at_.fr.frs fl (fun oe q => by rw [ho] at q; cases q; exact hcls) fun h' aft => ?_)
    exact ⟨W', σ'.H, i, l, k', ⟨S0.transFresh (aft.stp T.stp ⟨i, _, l, hg, hl, .inl rfl⟩) fun b hb => .inl (pvN b hb), aft.rel T.at_.rel hg hl rfl hc rfl T.at_.fr.frs, ⟨T.rest.gens, T.rest.drawn, T.rest.os⟩⟩, rfl, hl, hg, aft.fly.back fun a o q => ⟨o, keep a o q⟩, hE⟩
end
theorem call_zero : CallM X 0 := fun A k a as vs W H s Q E hA hq hst R hv ha h => h.elim
end
end Mine

end

section
set_option autoImplicit false
set_option linter.all false
set_option genSizeOf false
set_option genInjectivity false
namespace Mine
open PySem PySem.W PySem.Calls PyProof.Rows

/-- a def that a class names -/
inductive FnIs (X : Cx) (K : Frag) (c : Addr) (x : Str) (f : Nat) : Prop
  | mk (a : Addr) (ha : X.fnA f = some a) (hf : findIn K (.ref c) x = some (some (.ref a))) (ht : typeIn K (.ref a) = some (.type "function"))
/-- a class of the text's -/
structure ClAt (X : Cx) (K : Frag) (c : Addr) (cl : Cl) : Prop where
  mks : makesIn K c = true
  ga : findIn K (.ref c) "__getattribute__" = some (some (.builtin "object.__getattribute__"))
  gh : findIn K (.ref c) "__getattr__" = some none
  sa : findIn K (.ref c) "__setattr__" = some (some (.builtin "object.__setattr__"))
  po : plainOver K c = true
  hd : hasDictIn K c = true
  kp : keepIn K (.ref c) = true
  init : ∀ f, cl.init = some f → FnIs X K c "__init__" f
  meth : ∀ n f, lk cl.meths n = some f → FnIs X K c (X.nm n) f
  attr : ∀ n, n ∈ cl.attrs → findIn K (.ref c) (X.nm n) = some none
  dis : ∀ n f, lk cl.meths n = some f → n ∉ cl.attrs
/-- the classes that are made -/
structure ClsOk (X : Cx) (K : Frag) : Prop where
  inn : K.In X.hb
  cls : ∀ k c cl, X.clA k = some c → X.P.cls k = some cl → ClAt X K c cl

theorem lk_cons {α : Type} {i n : Nat} {x : α} {r : List (Nat × α)} {G : Prop} {o : Option α} (h : lk ((i, x) :: r) n = o) (g1 : i = n → o = some x → G) (g2 : i ≠ n → lk r n = o → G) : G := by
  have h : cond (Nat.beq i n) (some x) (lk r n) = o := h
  cases e : Nat.beq i n with
  | true => rw [e] at h; exact g1 (Nat.eq_of_beq_eq_true e) h.symm
  | false => rw [e] at h; exact g2 (Nat.ne_of_beq_eq_false e) h
theorem lk_in {α : Type} {l : List (Nat × α)} {i : Nat} {v : α} (h : lk l i = some v) : (i, v) ∈ l := by
  induction l with
  | nil => cases h
  | cons p r ih =>
    obtain ⟨j, u⟩ := p
    exact lk_cons h (fun e q => by cases q; subst e; exact .head _) fun _ q => .tail _ (ih q)
theorem st_cons {i n : Nat} {x y : V} {r : List (Nat × V)} {P : List (Nat × V) → Prop} (g1 : i = n → P ((i, x) :: r)) (g2 : i ≠ n → P ((i, y) :: st r n x)) : P (st ((i, y) :: r) n x) := by
  show P (cond (Nat.beq i n) ((i, x) :: r) ((i, y) :: st r n x))
  cases e : Nat.beq i n with
  | true => exact g1 (Nat.eq_of_beq_eq_true e)
  | false => exact g2 (Nat.ne_of_beq_eq_false e)
theorem st_len (n : Nat) (x : V) (fs : List (Nat × V)) : (st fs n x).length ≤ fs.length + 1 := by
  induction fs with
  | nil => exact Nat.le_refl _
  | cons p r ih =>
    obtain ⟨i, y⟩ := p
    exact st_cons (P := fun l => l.length ≤ ((i, y) :: r).length + 1) (fun _ => Nat.le_succ _) fun _ => Nat.succ_le_succ ih
theorem st_mem {n : Nat} {x : V} {fs : List (Nat × V)} {p : Nat × V} : p ∈ st fs n x → p.1 = n ∨ ∃ q ∈ fs, q.1 = p.1 := by
  induction fs with
  | nil => exact fun h => by cases List.mem_singleton.mp h; exact .inl rfl
  | cons q r ih =>
    obtain ⟨i, y⟩ := q
    refine st_cons (P := fun l => p ∈ l → p.1 = n ∨ ∃ q ∈ (i, y) :: r, q.1 = p.1) (fun e h => ?_) fun _ h => ?_
    · rcases List.mem_cons.mp h with rfl | h
      · exact .inl e
      · exact .inr ⟨p, .tail _ h, rfl⟩
    · rcases List.mem_cons.mp h with rfl | h
      · exact .inr ⟨_, .head _, rfl⟩
      · exact (ih h).imp id fun ⟨q, hq, e⟩ => ⟨q, .tail _ hq, e⟩
section
variable {X : Cx} {K : Frag} {W : Wd}
theorem str_yes {x : Str} {t : Tok} : (Value.str x t).isStr x = true := beq_self_eq_true x
theorem str_no {x y : Str} {t : Tok} (h : x ≠ y) : (Value.str x t).isStr y = false := beq_eq_false_iff_ne.mpr h
inductive Fnd (X : Cx) (W : Wd) (es : List DictEntry) (y : Str) (x : V) : Prop
  | mk (e : DictEntry) (h : es.find? (fun d => d.key.isStr y) = some e) (r : VR X W e.val x)
theorem FVs.find {n : Nat} (inj : ∀ i j, X.nm i = X.nm j → i = j) {es : List DictEntry} {fs : List (Nat × V)} (h : FVs X W es fs) : (∀ x, lk fs n = some x → Fnd X W es (X.nm n) x) ∧ (lk fs n = none → es.find? (fun d => d.key.isStr (X.nm n)) = none) := by
  induction h with
  | nil => exact ⟨fun _ e => by (cases e), fun _ => rfl⟩
  | @cons i hh t v x es fs a r ih =>
    refine ⟨fun y e => lk_cons e (fun q z => ?_) fun q z => ?_, fun e => lk_cons e (fun q z => by cases z) fun q z => ?_⟩
    · cases z; subst q; exact ⟨_, by rw [List.find?_cons, str_yes], a⟩
    · obtain ⟨en, he, r⟩ := ih.1 y z
      exact ⟨en, by rw [List.find?_cons, str_no fun w => q (inj _ _ w)]; exact he, r⟩
    · rw [List.find?_cons, str_no fun w => q (inj _ _ w)]; exact ih.2 z
theorem FVs.noRef {es : List DictEntry} {fs : List (Nat × V)} (h : FVs X W es fs) : es.any (·.refKey) = false := by
  induction h with
  | nil => rfl
  | cons a r ih => rw [List.any_cons, ih]; rfl
theorem FVs.put {n : Nat} {hsh : Int} {t : Tok} {v : Value} {x : V} (inj : ∀ i j, X.nm i = X.nm j → i = j) (hv : VR X W v x) {es : List DictEntry} {fs : List (Nat × V)} (h : FVs X W es fs) : FVs X W (putL (X.nm n) hsh (.str (X.nm n) t) v es) (st fs n x) := by
  induction h with
  | nil => exact .cons hv .nil
  | @cons i hh t' v' x' es fs a r ih =>
    refine st_cons (P := FVs X W (putL (X.nm n) hsh (.str (X.nm n) t) v (⟨hh, .str (X.nm i) t', v'⟩ :: es))) (fun q => ?_) fun q => ?_
    · subst q
      rw [putL, if_pos str_yes]; exact .cons hv r
    · rw [putL, if_neg (fun z => by rw [str_no fun w => q (inj _ _ w)] at z; cases z)]; exact .cons a ih
theorem FVs.len {es : List DictEntry} {fs : List (Nat × V)} (h : FVs X W es fs) : es.length = fs.length := by
  induction h with
  | nil => rfl
  | cons a r ih => exact congrArg (· + 1) ih

/-- what is known of an object of the text's -/
structure Inst (X : Cx) (K : Frag) (W : Wd) (h : Heap) (l : Addr × Addr) (k : Nat) (fs : List (Nat × V)) (c : Addr) (cl : Cl) (es : Array DictEntry) (n : Nat) : Prop where
  ca : X.clA k = some c
  cl_ : X.P.cls k = some cl
  ob : h.get? l.1 = some (instO c l.2)
  dc : h.get? l.2 = some (dictO es n)
  fv : FVs X W es.toList fs
  ne : l.2 ≠ l.1
  at_ : ∀ p ∈ fs, p.1 ∈ cl.attrs
  sz : fs.length ≤ 1000
  ok : ClAt X K c cl
  inn : K.In h
theorem Inst.of {H : Hp} {h : Heap} {i : Nat} {l : Addr × Addr} {k : Nat} {fs : List (Nat × V)} (C : ClsOk X K) (R : RelH X W H h) (hi : H.get i = some (.inst k fs)) (hl : W.φ i = some l) {G : Prop} (g : ∀ c cl es n, Inst X K W h l k fs c cl es n → G) : G := by
  obtain ⟨c, cl, es, n, a, a', b, d, f, ne, gg, z⟩ := R.at_ hi hl
  exact g c cl es n ⟨a, a', b, d, f, ne, gg, z, C.cls _ _ _ a a', fun x o q => R.bkeep x o (C.inn x o q)⟩
theorem Inst.inst {h : Heap} {l : Addr × Addr} {k : Nat} {fs : List (Nat × V)} {c : Addr} {cl : Cl} {es : Array DictEntry} {n : Nat} (I : Inst X K W h l k fs c cl es n) : InstAt h l.1 (instO c l.2) c (some (dictO es n)) := ⟨I.ob, rfl, rfl, I.dc⟩
theorem bval_handed (b : B) : handedIn (bval b) = true := by cases b <;> decide +kernel
theorem handed {v : Value} {x : V} (h : VR X W v x) : handedIn v = true := by
  cases h with
  | bt b => exact bval_handed b
  | _ => rfl

section
variable {A : Around} {H : Hp} {s : Shared} {E : Value → Shared → Prop} {l : Addr × Addr} {k : Nat} {fs : List (Nat × V)} {c : Addr} {cl : Cl} {es : Array DictEntry} {n : Nat} (inj : ∀ i j, X.nm i = X.nm j → i = j) (I : Inst X K W s.heap l k fs c cl es n)
include inj I
/-- reading a thing of an object's own -/
theorem get_ok {m : Nat} {x : V} {ex : Bool} {Q : Value → Shared → Prop} (e : lk fs m = some x)
    (h : ∀ v, VR X W v x → Q v { s with toks := s.toks + 1 }) : wpAny (model X.prog X.w) A (getAttr (.ref l.1) (X.nm m) ex) Q E s := by
  obtain ⟨en, he, hv⟩ := (I.fv.find inj (n := m)).1 x e
  have hl : lookIn (X.nm m) (dictO es n) = some (some en.val) := by
    unfold lookIn
    simp only [he]
  exact get_value I.inn I.inst I.ok.ga (findObj_own I.ok.hd (I.ok.attr m (I.at_ _ (lk_in e))) rfl hl) (handed hv) (h _ hv)
theorem none_ok {m : Nat} (e : lk fs m = none) : lookIn (X.nm m) (dictO es n) = some none := by
  unfold lookIn
  simp only [(I.fv.find inj (n := m)).2 e, I.fv.noRef]
  rfl
/-- a method of the class -/
theorem meth_ok {m f : Nat} {pl : Sem Bool} {Q : Value × List Value → Shared → Prop} (e : lk cl.meths m = some f)
    (h : ∀ a, X.fnA f = some a → Q (.ref a, [.ref l.1]) s) : wpAny (model X.prog X.w) A (getMethod (.ref l.1) (X.nm m) pl) Q E s := by
  obtain ⟨a, ha, hf, ht⟩ := I.ok.meth m f e
  have hn : lk fs m = none := by
    cases q : lk fs m with
    | none => rfl
    | some x => exact absurd (I.at_ _ (lk_in q)) (I.ok.dis m f e)
  exact method_fn I.inn I.inst I.ok.ga I.ok.gh hf ht (by show (lookIn _ _).map _ = _; rw [none_ok inj I hn]; rfl) (h a ha)
/-- storing a thing of an object's own -/
theorem osa_ok {m : Nat} {v : Value} {x : V} {tk : Tok} {R : Result → Shared → Prop} (hm : m ∈ cl.attrs) (hz : fs.length < 1000) (hv : VR X W v x)
    (h : ∀ h' es' n', h'.get? l.2 = some (dictO es' n') → FVs X W es'.toList (st fs m x) → Heap.SameBut l.2 s.heap h' → R (.ok (.ret .none)) { s with heap := h', toks := s.toks + 1 }) :
    codeAny (model X.prog X.w) A (.call (.builtin "object.__setattr__") ⟨[.ref l.1, .str (X.nm m) tk, v], []⟩) R s := by
  have fi := I.ok.attr m hm
  refine osa_open I.inn I.inst I.ok.po (r := none) (by unfold takerIn; rw [fi]; rfl) fun b => ?_
  obtain ⟨cd, hc, hd'⟩ := any_some I.ok.hd
  refine wpAny_bind (wpAny_pure (wpAny_bind (wpAny_bind (wpAny_loadPart I.ob (wpAny_bind ((looks_clsIn I.inn hc).here ?_))))))
  rw [hd']
  refine wpAny_pure (a := some l.2) (wpAny_bind (wpAny_pure (wpAny_bind ?_)))
  unfold nsSet
  refine wpAny_bind (wpAny_bind (wpAny_askSetting (wpAny_pure (wpAny_bind (wpAny_mkText (wpAny_bind (wpAny_loadPart I.dc ?_)))))))
  dsimp only
  have c0 : (!es.any (·.key.isStr (X.nm m)) && es.any (·.refKey)) = false := by
    rw [← Array.any_toList (p := fun d : DictEntry => d.refKey), I.fv.noRef, Bool.and_false]
  rw [aRefKeyMayBeTheName_at, c0]
  have P := putName_dict (X.nm m) (PyData.keyHash X.w.params (X.nm m)) (.str (X.nm m) s.toks) v es.toList n
  have F := I.fv.put inj hv (n := m) (hsh := PyData.keyHash X.w.params (X.nm m)) (t := s.toks)
  have e0 : dictOf es.toList n = dictO es n := rfl
  rw [e0] at P
  have D' : (s.heap.update l.2 (Obj.putName (X.nm m) (PyData.keyHash X.w.params (X.nm m)) (.str (X.nm m) s.toks) v)).get? l.2 = some (dictO (putL (X.nm m) (PyData.keyHash X.w.params (X.nm m)) (.str (X.nm m) s.toks) v es.toList).toArray (putN (X.nm m) es.toList n)) := by
    rw [Heap.get?_update_self _ I.dc (by rw [P]; rfl), P]
  refine wpAny_updatePart I.dc ?_
  refine wpAny_bind (wpAny_lookBehind D' (pastItsLine_dict ?_) ?_)
  · rw [List.size_toArray, F.len, sizeLine_eq]
    have := st_len m x fs; omega
  · exact wpAny_pure (h _ _ _ D' F ⟨Heap.size_update _ _ _, fun b hb => Heap.get?_update_other _ _ (Ne.symm hb)⟩)
theorem set_ok {i m : Nat} {v : Value} {x : V} {Q : Unit → Shared → Prop} (R : RelH X W H s.heap) (hi : H.get i = some (.inst k fs)) (hl : W.φ i = some l) (hm : m ∈ cl.attrs) (hz : fs.length < 1000) (hv : VR X W v x)
    (h : ∀ s', Tc X W H s W (H.set i (.inst k (st fs m x))) s' → Q () s') : wpAny (model X.prog X.w) A (setAttr (.ref l.1) (X.nm m) v) Q E s := by
  refine set_plain I.inn I.inst I.ok.sa (osa_ok (s := { s with toks := s.toks + 1 }) inj ⟨I.ca, I.cl_, I.ob, I.dc, I.fv, I.ne, I.at_, I.sz, I.ok, I.inn⟩ hm hz hv fun h' es' n' hd hf hs => ?_)
  obtain ⟨r, t⟩ := R.upd (h' := h') (c' := .inst k (st fs m x)) hi hl (fun b ob e _ n2 => (hs.2 b n2).trans e)
    ⟨c, cl, es', n', I.ca, I.cl_, (hs.2 _ (Ne.symm I.ne)).trans I.ob, hd, hf, I.ne, fun p hp => (st_mem hp).elim (fun e => e ▸ hm) fun ⟨q, hq, e⟩ => e ▸ I.at_ q hq, Nat.le_trans (st_len m x fs) hz⟩
  exact h _ ⟨t, r, ⟨rfl, rfl, rfl⟩⟩
end
/-- an object, of the text's -/
theorem inst_e {H : Hp} {cf : Value} {g : V} {k : Nat → Nat → List (Nat × V) → Prop} {G : Prop} (hg : VR X W cf g) (h : instK H g k) (q : ∀ i (l : Addr × Addr) (t : Nat × List (Nat × V)), cf = .ref l.1 → W.φ i = some l → H.get i = some (.inst t.1 t.2) → k i t.1 t.2 → g = .ref i → G) : G :=
  need_e h fun i ei h => need_e h fun t et h => aRef_e hg ei fun l e hl eg => q i l t e hl (cI_e et) h eg
theorem snd_attr {n : Nat} {sc : Sc} (K0 : CxOk X) (C : ClsOk X K) {e : PE} {m : Nat} {v : Expr} {pos : Pos} (he : SE X n sc e v) (hs : notSuper v = true) : SE X n sc (.attr e m) (.Attribute v (X.nm m) pos) := by
  intro A env Pv W σ s Q E ok at_ h
  rw [arm_eval_Attribute, base_plain hs]
  refine he.bind ok at_ h fun cf W₁ σ₁ s₁ g at₁ _ hg h₁ => Ew.standAt (inst_e hg h₁ fun i l t e hl hi h₁ _ => need_e h₁ fun x hx hq => Inst.of C at₁.rel hi hl fun c cl es k' I => ?_)
  subst e
  exact wpAny_bind (wpAny_holding (get_ok K0.inj I hx fun v hv => wpAny_bind (wpAny_letTemporaryGo (wpAny_pure (at₁.val hv hq)))))
end
end Mine

end

section
set_option autoImplicit false
set_option linter.all false
set_option genSizeOf false
set_option genInjectivity false
namespace Mine
open PySem PySem.W PySem.Calls PyProof.Rows

section
variable {X : Cx} {K : Frag} {n : Nat} {sc : Sc}

theorem under_type {A : Around} {n : Nat} {c : Addr} {rest : List Value} {kw : List (Str × Value)} (h : AOk2 A n) : AOk (A.under (.builtin "type.__call__" ⟨.ref c :: rest, kw⟩)) n := by
  have h1 := h.depth
  have h2 := h.units
  refine ⟨?_, ?_⟩
  · show A.depth + (Code.builtin "type.__call__" ⟨.ref c :: rest, kw⟩).weight + 4 * n + 4 < _
    rw [show (Code.builtin "type.__call__" ⟨.ref c :: rest, kw⟩).weight = 1 from rfl]; omega
  · show A.units + (Code.builtin "type.__call__" ⟨.ref c :: rest, kw⟩).cUnits + 20 * n + 100 < _
    rw [show (Code.builtin "type.__call__" ⟨.ref c :: rest, kw⟩).cUnits = 1 from rfl]; omega
theorem under_frames {A : Around} {c : Addr} {rest : List Value} {kw : List (Str × Value)} {l : List Env} (h : A.frames = some l) : (A.under (.builtin "type.__call__" ⟨.ref c :: rest, kw⟩)).frames = some l := by
  show pushEnvs (Code.envs (.builtin "type.__call__" ⟨.ref c :: rest, kw⟩)) A.frames = _
  rw [show Code.envs (.builtin "type.__call__" ⟨.ref c :: rest, kw⟩) = [] from rfl, h]; rfl

/-- a method of the text's is called -/
theorem meth_case (K0 : CxOk X) (C : ClsOk X K) (hK : CallM X n) {fz : Bool} {m : Nat} {as : PEs} {v : Expr} {ap pos : Pos} {vs : List Expr} (has : SEs X n sc as vs) (hlen : vs.length ≤ 20) (hline : (ap.endLine == pos.line) = true) (hap : (sc.hd || Nat.beq m X.P.nAppend) = true)
    (A : Around) (env : Env) (Pv : Pr) (W : Wd) (σ : St) (s : Shared) (Q : V → St → Prop) (E : EP) (i : Nat) (l : Addr × Addr) (k : Nat) (fs : List (Nat × V)) (ok : EnvOk X A env Pv n sc) (at_ : At X env Pv W σ s) (hl : W.φ i = some l) (hgi : σ.H.get i = some (.inst k fs))
    (h : need (X.P.cls k) fun c => need (lk c.meths m) fun f => wpEs X.P (CW X.P n) E as σ fun vs σ₂ => callF X.P (CW X.P n) E fz σ₂ (.fn f) (.ref i :: vs) Q) :
    Ew X A env Pv (mcall X env m v ap pos vs l.1) W σ s (VQ X Q) E := by
  refine need_e h fun cl hcl h => need_e h fun f hf hw => Inst.of C at_.rel hgi hl fun c cl' es k' I => ?_
  cases Option.some.inj (I.cl_.symm.trans hcl)
  have hpos : methodCallPos true v env ap pos = pure pos := by unfold methodCallPos; simp [hline]
  have hh : A.handled = none := by
    cases e : sc.hd with
    | true => exact ok.hh e
    | false => rw [e] at hap; rw [Nat.eq_of_beq_eq_true hap, K0.apC _ _ hcl] at hf; cases hf
  unfold mcall methodCall
  rw [form_plain hlen]
  refine wpAny_bind (wpAny_holding (meth_ok K0.inj I hf fun a ha => wpAny_bind (wpAny_of_eq hpos ?_)))
  obtain ⟨o, fd, ho, hd⟩ := K0.fnAt _ _ ha
  exact callWith_function (o := o) (fd := fd) (args_then has ok at_ hw fun cvs avs W' σ' s' T hv hq => ⟨⟨T.at_.rel.bkeep _ _ ho, hd⟩, fn_call hK T ok.ok.call (.inl hh) ok.stk (cvs := .ref l.1 :: cvs) (.cons (.ref (T.stp.le.ff _ _ hl)) hv) ha hq⟩)

/-- a new object of the text's -/
theorem make_ok (K0 : CxOk X) (C : ClsOk X K) (hK : CallM X n) {A : Around} {env : Env} {Pv : Pr} {W : Wd} {σ : St} {s : Shared} {E : EP} {fz : Bool} {k : Nat} {c : Addr} {cvs : List Value} {avs : List V} {Q : V → St → Prop} (ok : AOk2 A n) (hhd : A.handled = none) (hst : A.frames = some Pv.st) (at_ : At X env Pv W σ s) (hv : VRs X W cvs avs) (hc : X.clA k = some c)
    (h : callF X.P (CW X.P n) E fz σ (.cls k) avs Q) :
    wpAny (model X.prog X.w) A (call (.ref c) cvs []) (Go X env Pv W σ s (VQ X Q)) (EX X env Pv W σ s E) s := by
  refine need_e h fun cl hcl h => need_e h fun f hf h => ?_
  have O := C.cls k c cl hc hcl
  obtain ⟨a, ha, hfi, hft⟩ := O.init f hf
  have inn : K.In s.heap := fun x o q => at_.rel.bkeep x o (C.inn x o q)
  obtain ⟨hh, g, d, t, os⟩ := s
  have R : RelH X W σ.H hh := at_.rel
  refine wpAny_call (make_core (makes_of inn O.mks) (looks_findIn inn hfi) (fun self => bind_fn inn self hft) (.inl rfl) ?_)
  have k1 : ∀ b o, hh.get? b = some o → ((hh.push emptyDict).push (instObj c hh.objs.size)).get? b = some o := fun b o e => Heap.get?_push_of_some _ (Heap.get?_push_of_some _ e)
  have g1 : ((hh.push emptyDict).push (instObj c hh.objs.size)).get? (hh.objs.size + 1) = some (instObj c hh.objs.size) := by
    have := Heap.get?_push_size (hh.push emptyDict) (o := instObj c hh.objs.size) rfl
    rwa [Heap.size_push] at this
  obtain ⟨r, t1⟩ := R.fresh (l := (hh.objs.size + 1, hh.objs.size)) (c := .inst k []) k1 (Heap.get?_none_of_le (Nat.le_succ _)) (push_none _)
    ⟨c, cl, #[], 0, hc, hcl, g1, Heap.get?_push_of_some _ (Heap.get?_push_size _ rfl), .nil, Nat.ne_of_lt (Nat.lt_succ_self _), fun _ q => (List.not_mem_nil q).elim, Nat.zero_le _⟩
  have T : Tc X W σ.H ⟨hh, g, d, t, os⟩ (W.addφ σ.H.next (hh.objs.size + 1, hh.objs.size)) (σ.H.new (.inst k [])) ⟨(hh.push emptyDict).push (instObj c hh.objs.size), g, d, t, os⟩ := ⟨t1, r, ⟨rfl, rfl, rfl⟩⟩
  have e : (W.addφ σ.H.next (hh.objs.size + 1, hh.objs.size)).φ σ.H.next = some (hh.objs.size + 1, hh.objs.size) := addφ_self
  refine codeAny_mono (hK _ f a (.ref σ.H.next :: avs) (.ref (hh.objs.size + 1) :: cvs) _ _ _ _ _ (under_type ok) (.inl hhd) ⟨_, under_frames hst, fun e he => (at_.fr.frs e he).keep fun L o es n x1 x2 x3 x4 x5 => ⟨⟨o, es, n, k1 _ _ x2, x3⟩, t1.own L o x2 x4, x5⟩⟩ r (.cons (VR.ref e) (hv.le t1.le)) ha h) fun rr s' hr => ?_
  cases rr with
  | ok fl =>
    cases fl with
    | ret v =>
      obtain ⟨W', H', av, T', hv', q⟩ := hr
      cases vNone q.1
      cases hv'
      exact ⟨rfl, W', ⟨H', σ.loc⟩, (T.trans T').tf at_, _, VR.ref (T'.stp.le.ff _ _ e), q.2⟩
    | _ => exact hr.elim
  | error e =>
    obtain ⟨W', H', i, l, k', T', he, hl, hg, hf, hE⟩ := hr
    exact ⟨W', ⟨H', σ.loc⟩, i, l, k', (T.trans T').tf at_, he, hl, hg, hf.back fun a o q => ⟨o, k1 a o q⟩, hE⟩
theorem MayQ.cls {A : Around} {k : Nat} (h : MayQ X A (.cls k)) : A.handled = none := h.elim id fun q => by cases q
theorem snd_call1 (K0 : CxOk X) (C : ClsOk X K) (hK : CallM X n) {c : Ck} {fz : Bool} {f : PE} {as : PEs} {x : Str} {p : Pos} {vs : List Expr} {pos : Pos} (hf : SE X n sc f (.Name x p)) (hq : (sc.hd || qGlob X.ck f) = true) (has : SEs X n sc as vs) (hc : chkEs c sc as vs = true) : SE X n sc (.call fz f as) (.Call (.Name x p) vs [] pos) := by
  intro A env Pv W σ s Q E ok at_ h
  rw [eval_Call_Name, back_plain hc]
  refine call_head K0 hf hq ok at_ h fun cf W₁ σ₁ s₁ g at₁ hg hq h₁ => call_rest K0 hK ok at₁ has hg hq h₁ fun k a e e' ha => ?_
  subst e e'
  cases hcl : X.P.cls k with
  | none => exact callW_fail (args_then has ok at₁ h₁ fun cvs avs W' σ' s' T hv hq' => need_e (o := X.P.cls k) hq' fun cl e _ => by rw [hcl] at e; cases e)
  | some cl => exact callWith_of (P := K.In) (by rw [plain_any]; rfl) (keeps_K (C.cls _ _ _ ha hcl).kp) (args_then has ok at₁ h₁ fun cvs avs W' σ' s' T hv hq' => ⟨fun x o q => T.at_.rel.bkeep x o (C.inn x o q),
      wpAny_mono (make_ok K0 C hK ok.ok hq.cls ok.stk T.at_ hv ha hq') (fun v s'' q => Go.from T q) fun _ _ x => x.back T⟩)
end
end Mine

end

section
set_option autoImplicit false
set_option linter.all false
set_option genSizeOf false
set_option genInjectivity false
namespace Mine
open PySem PySem.W PySem.Calls PyProof.Rows

section
variable {X : Cx} {K : Frag} {n : Nat} {sc : Sc}

theorem swaps_attr {x o : Expr} {a : Str} {p : Pos} {l : Nat} {env : Env} : swapsWith x (some (.Attribute o a p)) l env = pure false := by
  cases x <;> rfl
/-- a thing stored in an object -/
theorem put_attr (K0 : CxOk X) (C : ClsOk X K) {A : Around} {env : Env} {Pv : Pr} {W : Wd} {σ : St} {s : Shared} {Ex : Value → Shared → Prop} {ov v : Value} {g x : V} {m : Nat} {Q : Unit → Shared → Prop} {q : St → Prop} (at_ : At X env Pv W σ s) (ho : VR X W ov g) (hv : VR X W v x)
    (h : putA X.P g m x σ q) (hq : ∀ W' σ' s', Tf X env Pv W σ s W' σ' s' → q σ' → Q () s') : wpAny (model X.prog X.w) A (setAttr ov (X.nm m) v) Q Ex s :=
  inst_e ho h fun i l t e hl hi h _ => need_e h fun cl hcl h => Inst.of C at_.rel hi hl fun c cl' es k' I => by
    subst e
    cases Option.some.inj (I.cl_.symm.trans hcl)
    exact set_ok K0.inj I at_.rel hi hl (List.contains_iff_mem.mp h.1) h.2.1 hv fun s' T => hq _ ⟨_, σ.loc⟩ _ (T.tf at_) h.2.2
theorem snd_assign_attr (K0 : CxOk X) (C : ClsOk X K) {o e : PE} {m : Nat} {v x : Expr} {p pos : Pos} (he : SE X n sc e x) (ho : SE X n sc o v) : S1 X n sc (.assign (.attr o m) e) (.Assign [.Attribute v (X.nm m) p] x pos) := fun A env Pv W σ s Q E ok hf at_ h =>
  plainObj_wpAny_Assign_Attribute (he.post ok at_ h fun cv W₁ σ₁ s₁ x T₁ hv h₁ => wpAny_mono (ho.post ok T₁.at_ h₁ fun ov W₂ σ₂ s₂ g T₂ hg h₂ =>
    put_attr K0 C (Q := fun _ s' => Go X env Pv W σ s (FQ X Q) PySem.Flow.next s') (Ex := EX X env Pv W σ s E) T₂.at_ hg (hv.le T₂.stp.le) h₂ fun W' σ' s' T hq => ((T₁.trans T₂).trans T).flow .next hq) (fun _ _ q => q) fun _ _ y => y.back T₁) swaps_attr
theorem aug_ok {A : Around} {W : Wd} {s : Shared} {E : Value → Shared → Prop} {op : BOp} {a b : Value} {x y : V} {k : V → Prop} {Q : Value → Shared → Prop} (ha : VR X W a x) (hb : VR X W b y) (h : augK op x y k)
    (hq : ∀ v z tk, VR X W v z → k z → Q v { s with toks := tk }) : wpAny (model X.prog X.w) A (inplaceOp (opOf op) a b) Q E s := by
  cases op with
  | add =>
    refine need_e h fun i ei h => need_e h fun j ej h => aInt_of ha ei fun t e => aInt_of hb ej fun u e' => ?_
    subst e e'; exact PyProof.Rows.iadd_int (hq _ _ _ (.int _ _) h)
  | _ => exact h.elim
theorem snd_aug_loc (K0 : CxOk X) {i : Nat} {op : BOp} {e : PE} {x : Expr} {p pos : Pos} (he : SE X n sc e x) (hk : kStore sc (X.nm i) = true) (hl : kLoc sc (X.nm i) = true) (hd : nDbg (X.nm i) = true) : S1 X n sc (.augLoc i op e) (.AugAssign (.Name (X.nm i) p) (opOf op) x pos) := fun A env Pv W σ s Q E ok hf at_ h =>
  need_e h fun x ev h₁ => wpAny_AugAssign_Name (load_loc ok at_ hl hd ev fun a hx => he.post ok at_ h₁ fun b W₂ σ₂ s₂ y T₂ hy h₂ =>
    aug_ok (hx.le T₂.stp.le) hy h₂ fun v z tk hv hq => store_ok K0 ok hf (T₂.at_.toks (tk := tk)) hk hv fun s'' T' => ((T₂.trans (T₂.at_.tf (tk := tk))).trans T').flow .next hq)
theorem snd_aug_attr (K0 : CxOk X) (C : ClsOk X K) {o e : PE} {m : Nat} {op : BOp} {v x : Expr} {p pos : Pos} (he : SE X n sc e x) (ho : SE X n sc o v) : S1 X n sc (.augAttr o m op e) (.AugAssign (.Attribute v (X.nm m) p) (opOf op) x pos) := fun A env Pv W σ s Q E ok hf at_ h =>
  wpAny_AugAssign_AttributeAny (ho.post ok at_ h fun ov W₁ σ₁ s₁ g T₁ hg h₁ => inst_e hg h₁ fun i l t e hl hi h₁ eg => need_e h₁ fun x hx h₁ => Inst.of C T₁.at_.rel hi hl fun c cl es k' I => by
    subst e
    refine get_ok K0.inj I hx fun a ha => ?_
    have T₂ := T₁.trans (T₁.at_.tf (tk := s₁.toks + 1))
    refine wpAny_mono (he.post ok T₂.at_ h₁ fun b W₃ σ₃ s₃ y T₃ hy h₃ => aug_ok (Q := fun v s' => wpAny (model X.prog X.w) A (setAttr (.ref l.1) (X.nm m) v) (fun _ s' => Go X env Pv W σ s (FQ X Q) PySem.Flow.next s') (EX X env Pv W σ s E) s') (ha.le T₃.stp.le) hy h₃ fun v z tk hv hq =>
      put_attr K0 C (T₃.at_.toks (tk := tk)) (hg.le T₃.stp.le) hv hq fun W' σ' s' T hq => (((T₂.trans T₃).trans (T₃.at_.tf (tk := tk))).trans T).flow .next hq) (fun _ _ q => q) fun _ _ y => y.back T₂)
end
end Mine

end

section
set_option autoImplicit false
set_option linter.all false
set_option genSizeOf false
set_option genInjectivity false
namespace Mine
open PySem PySem.W PySem.Calls PyProof.Rows

section
variable {X : Cx} {K : Frag} {n : Nat} {sc : Sc}
theorem vCls {v : V} {k : Nat} (h : aCls v = some k) : v = .cls k := by cases v <;> first | (cases h; rfl) | cases h
theorem cls_of {W : Wd} {cv : Value} {k : Nat} (h : VR X W cv (.cls k)) : ∃ c, cv = .ref c ∧ X.clA k = some c := by cases h with | cls q => exact ⟨_, rfl, q⟩
theorem chkG_e {i : Nat} {y : Str} {G : Prop} (h : chkG X.ck sc i y = true) (g : y = X.nm i → kGlob sc y = true → nDbg y = true → G) : G := and3_e h fun a b c => g (of_decide_eq_true a) b c
theorem new_exc {H : Hp} {c : C} : (H.new c).get H.next = some c := if_pos rfl

theorem snd_raise (K0 : CxOk X) {i : Nat} {e : PE} {y : Str} {x : Expr} {np cpos pos : Pos} (hy : chkG X.ck sc i y = true) (he : SE X n sc e x) (hc : chkE X.ck sc e x = true) (hhd : sc.hd = true) : S1 X n sc (.raise i e) (.Raise (some (.Call (.Name y np) [x] [] cpos)) none pos) := fun A env Pv W σ s Q E ok hf at_ h =>
  need_e h fun v hv h => need_e h fun k ek h => by
    cases vCls ek
    obtain ⟨hx, h⟩ := h
    have bp := back_plain (env := env) (pos := cpos) (p := .cons e .nil) (es := [x]) (show (chkE X.ck sc e x && true) = true by rw [hc]; rfl)
    refine chkG_e hy fun g1 g2 g3 => ?_
    have hcl : ∀ cv, (∀ W, VR X W cv (.cls k)) → ∃ c, cv = .ref c ∧ X.clA k = some c := fun cv q => cls_of (q W)
    obtain ⟨c, hck⟩ : ∃ c, X.clA k = some c := by cases K0.glob i _ hv with
      | main cv mg ng h r => exact (hcl cv r).elim fun c q => ⟨c, q.2⟩
      | bi cv mg mb ng nb h hb r => exact (hcl cv r).elim fun c q => ⟨c, q.2⟩
    obtain ⟨bm, N, nm, q, bs, hdct, sn, sub, ab, col, dd, k0, k1, k2, k3, k5, mN, hC, hN, hni, hT, hsub⟩ := K0.exc k c hck hx
    refine wpAny_Raise_call_subT (nm := nm) (q := q) (C := c) (N := N) (bs := bs) (hdct := hdct) (sn := sn) (sub := sub) (ab := ab) (col := col) (dd := dd) (k0 := k0) (k1 := k1) (k2 := k2) (k3 := k3) (k5 := k5) PySem.F.excBase_ValueError (hT.hasType (by decide)) (ok.hh hhd) (by rw [bp]; exact plain_any) hni (load_glob K0 ok at_ g1 g2 g3 hv fun cv hcv => ?_)
    obtain ⟨c', rfl, hc'⟩ := hcl cv hcv
    cases Option.some.inj (hc'.symm.trans hck)
    refine ⟨rfl, ?_⟩
    rw [bp]
    refine wpAny_mono (args_then (E := noE) (snd_es_cons he snd_es_nil) ok at_ (Qv := fun avs σ₂ => avs.length = 1 ∧ E σ₂.H.next (σ₂.setH (σ₂.H.new (.exc k)))) (wpE_post h) (Q := fun a s₂ => Go X env Pv W σ s (fun (a : Args) _ σ₂ _ => a.kw = [] ∧ a.pos.length = 1 ∧ E σ₂.H.next (σ₂.setH (σ₂.H.new (.exc k)))) a s₂) fun cvs avs W' σ' s' T hvs hq => ⟨W', σ', T, rfl, hvs.length.trans hq.1, hq.2⟩) (fun a s₂ qq => qq.e fun W₂ σ₂ T₂ qq => ?_) fun _ _ z => z.no.elim
    have kb := T₂.at_.rel.bkeep
    refine ⟨qq.1, by rw [qq.2.1, sizeLine_eq]; decide, kb _ _ hC, hN.keeps kb, hT.keeps kb, fun h' e hm => ?_⟩
    obtain ⟨t, m1, m2, m3⟩ := hm.there
    obtain ⟨r, st⟩ := T₂.at_.rel.fresh (l := (e, e)) (c := .exc k) hm.keeps hm.new hm.new ⟨c, _, _, hck, hx, m1, rfl, rfl, rfl⟩
    have Tc₃ : Tc X W₂ σ₂.H s₂ (W₂.addφ σ₂.H.next (e, e)) (σ₂.H.new (.exc k)) { s₂ with heap := h' } := ⟨st, r, ⟨rfl, rfl, rfl⟩⟩
    exact ⟨_, ⟨_, σ₂.loc⟩, σ₂.H.next, (e, e), k, T₂.trans (Tc₃.tf T₂.at_), rfl, addφ_self, new_exc, ⟨_, _, _, m1, rfl, rfl, .inl rfl⟩, qq.2.2⟩
where wpE_post {P : Prog} {K : CT} {E : EP} {e : PE} {σ : St} {Q : St → Prop} (h : wpE P K E e σ fun _ σ₁ => Q σ₁) : wpEs P K E (.cons e .nil) σ fun avs σ₂ => avs.length = 1 ∧ Q σ₂ := wpE_mono' h
      wpE_mono' {P : Prog} {K : CT} {E : EP} {e : PE} {σ : St} {Q : St → Prop} (h : wpE P K E e σ fun _ σ₁ => Q σ₁) : wpE P K E e σ fun v σ₁ => ([v] : List V).length = 1 ∧ Q σ₁ := by
        have : (fun (v : V) (σ₁ : St) => ([v] : List V).length = 1 ∧ Q σ₁) = fun _ σ₁ => Q σ₁ := by funext v σ₁; exact propext ⟨fun h => h.2, fun h => ⟨rfl, h⟩⟩
        rw [this]; exact h

/-- the class of an exception, seen from a class of the text's -/
theorem match_ok {A : Around} {E : Value → Shared → Prop} {W : Wd} {H : Hp} {s : Shared} {i j k : Nat} {l : Addr × Addr} {c' : Addr} {Q : Bool → Shared → Prop} (K0 : CxOk X) (R : RelH X W H s.heap) (hi : H.get i = some (.exc j)) (hl : W.φ i = some l) (hk : X.P.exc k = true) (hc' : X.clA k = some c') (hs : X.P.sub j k = true) (h : Q true s) :
    wpAny (model X.prog X.w) A (excMatches (.ref l.1) (.ref c')) Q E s := by
  obtain ⟨c, o, vs, hc, hj, he, hcls, hd, _⟩ := R.at_ hi hl
  obtain ⟨bm, N, nm, q, bs, hdct, sn, sub, ab, col, dd, k0, k1, k2, k3, k5, mN, hC, hN, hni, hT, hsub⟩ := K0.exc j c hc hj
  obtain ⟨bm', N', nm', q', bs', hdct', sn', sub', ab', col', dd', k0', k1', k2', k3', k5', mN', hC', hN', hni', hT', hsub'⟩ := K0.exc k c' hc' hk
  have gC := R.bkeep _ _ hC
  have gC' := R.bkeep _ _ hC'
  have hcB : (Value.ref c' :: bm').contains (.type "BaseException") = true := by rw [List.contains_cons, hT'.hasType (X := "BaseException") (b := true) (by decide), Bool.or_true]
  have hcC : (Value.ref c :: bm).contains (.ref c') = true := by rw [hsub k c' hc', hs]
  have f := tc_notTuple
  obtain ⟨hh, g, d, t, os⟩ := s
  unfold excMatches
  repeat (first | (with_reducible refine wpAny_loadPart_at he ?_; rw [hcls]) | with_reducible refine wpAny_loadPart_at gC' ?_ | (with_reducible refine wpAny_isSubtype_exc gC' ?_; rw [hcB]) | (with_reducible refine wpAny_isSubtype_exc gC ?_; rw [hcC]) | wp_step)
  exact h

/-- the name behind «as» goes -/
theorem FrR.unbind {W : Wd} {H : Hp} {h h' : Heap} {env : Env} {Pv : Pr} {loc : Loc} {i : Nat} {u : Option Value} {m : Str → Option Value} (F : FrR X W H h env Pv loc) (hn : h.Ns env.locals m)
    (hm : ∀ j v, loc j = some v → env.kindOf (X.nm j) = some .local → MmR X W m j v) (hinj : ∀ j, X.nm j = X.nm i → j = i)
    (hk : env.kindOf (X.nm i) = some .local) (hn' : h'.Ns env.locals (fun x => if x = X.nm i then u else m x)) (hs : Heap.SameBut env.locals h h') : FrR X W H h' env Pv (unb loc i) := by
  have key : ∀ j v, unb loc i j = some v → j ≠ i ∧ loc j = some v := fun j v e => by
    have e' : (if j = i then none else loc j) = some v := e
    by_cases hj : j = i
    · rw [if_pos hj] at e'; cases e'
    · rw [if_neg hj] at e'; exact ⟨hj, e'⟩
  refine ⟨⟨_, hn', fun j v e k => ?_⟩, fun j v e k => ?_, fun x ef e => ?_, F.cellEq, fun x c e => ?_, F.pvL, F.priv, fun a p => ?_, fun e he => (F.frs e he).keep fun L o es n a b c d f => ⟨?_, d, f⟩, F.frc⟩
  · obtain ⟨cu, q, r⟩ := hm j v (key j v e).2 k
    exact ⟨cu, by rw [if_neg fun z => (key j v e).1 (hinj j z)]; exact q, r⟩
  · obtain ⟨c, cu, q, r, t⟩ := F.cells j v (key j v e).2 k
    exact ⟨c, cu, q, r.sameBut hs (F.cellNs _ _ q).1, t⟩
  · obtain ⟨c, u, q, r, t⟩ := F.hasCell x ef e
    exact ⟨c, u, q, r.sameBut hs (F.cellNs _ _ q).1, t⟩
  · obtain ⟨a, b, o, q⟩ := F.cellNs x c e
    exact ⟨a, b, o, (hs.2 c a).trans q⟩
  · by_cases ha : a = env.locals
    · subst ha; obtain ⟨o, _, _, ho, _⟩ := hn'; exact ⟨o, ho⟩
    · obtain ⟨o, q⟩ := F.pvAt a p; exact ⟨o, (hs.2 a ha).trans q⟩
  · by_cases ha : L = env.locals
    · subst ha; obtain ⟨o', es', n', ho', hd', _⟩ := hn'; exact ⟨o', es', n', ho', hd'⟩
    · exact ⟨o, es, n, (hs.2 L ha).trans b, c⟩
theorem unbind_ok {A : Around} {env : Env} {Pv : Pr} {W : Wd} {σ : St} {s : Shared} {Ex : Value → Shared → Prop} {Q : Unit → Shared → Prop} {i : Nat} {v : V} {pos : Pos} (K0 : CxOk X) (ok : EnvOk X A env Pv n sc) (at_ : At X env Pv W σ s) (hk : env.kindOf (X.nm i) = some .local) (hv : σ.loc i = some v)
    (h : ∀ s', Tf X env Pv W σ s W ⟨σ.H, unb σ.loc i⟩ s' → Q () s') : wpAny (model X.prog X.w) A (unbindBehindTheSuite env (X.nm i) pos) Q Ex s := by
  obtain ⟨m, hn, hm⟩ := at_.fr.ns
  obtain ⟨cv, hcv, _⟩ := hm i v hv hk
  unfold unbindBehindTheSuite
  exact wpAny_onRaise (wpAny_unbindName_local hk hn hcv (fn_hp ok) fun h' u hn' hs => h _ (store_tf at_ at_.fr.pvL hs (hn'.elim fun o q => ⟨o, q.elim fun _ q => q.elim fun _ q => q.1⟩) (at_.fr.unbind hn hm (fun j q => K0.inj _ _ q) hk hn' hs)))
theorem unb_put {σ : St} {a : Nat} {v : V} : (⟨(σ.put a v).H, unb (σ.put a v).loc a⟩ : St) = ⟨σ.H, unb σ.loc a⟩ := by
  show (⟨σ.H, unb (upd σ.loc a v) a⟩ : St) = ⟨σ.H, unb σ.loc a⟩
  congr 1
  funext z
  show (if z = a then none else (if z = a then some v else σ.loc z)) = (if z = a then none else σ.loc z)
  by_cases hz : z = a
  · rw [if_pos hz, if_pos hz]
  · rw [if_neg hz, if_neg hz, if_neg hz]

/-- the handler's suite -/
theorem snd_suite (K0 : CxOk X) {A : Around} {env : Env} {Pv : Pr} {W W₁ : Wd} {σ σ₁ : St} {s s₂ : Shared} {Q : Flow → St → Prop} {E : EP} {h : PSs} {as : Option Nat} {b₀ : Stmt} {hs : List Stmt} {nm : Option Str} {hpos : Pos} {j : Nat} {l : Addr × Addr} {R : Result → Shared → Prop} (hh : SS X n ⟨sc.sc, false⟩ h (b₀ :: hs)) (has : asOk X.ck sc as nm = true) (ok : EnvOk X A env Pv n sc) (hf : env.func ≠ none) (hl : W₁.φ j = some l)
    (again : ∀ (Q' : Unit → Shared → Prop) (E' : Value → Shared → Prop), (∀ s₃, Tf X env Pv W σ s W₁ σ₁ s₃ → Q' () s₃) → wpAny (model X.prog X.w) (A.mark (some (.ref l.1))) (setFlight (.ref l.1) none) Q' E' s₂)
    (hw : wpSs X.P (CW X.P n) h (asPut as j σ₁) (fun fl σ₂ => Q fl (asUnb as σ₂)) noE) (hR : ∀ f s', (match nm with | none => Go X env Pv W σ s (FQ X Q) f s' | some n => wpAny (model X.prog X.w) A (do bindName env n Value.none; unbindBehindTheSuite env n hpos) (fun _ s₃ => Go X env Pv W σ s (FQ X Q) f s₃) (EX X env Pv W σ s E) s') → R (.ok f) s') :
    codeAny (model X.prog X.w) (A.mark (some (.ref l.1))) (.handlers (.ref l.1) [.ExceptHandler none nm (b₀ :: hs) hpos] env) R s₂ := by
  have okH : EnvOk X (A.mark (some (.ref l.1))) env Pv n ⟨sc.sc, false⟩ := ⟨ok.stk, ok.top, ⟨ok.ok.depth, ok.ok.units⟩, (fun z => (Bool.false_ne_true z).elim), ok.kind, ok.glob, ok.bi, ok.names, ok.cl⟩
  cases as with
  | none =>
    cases (x0_ok has : nm = none)
    exact codeAny_handlers_suite (again _ _ fun s₃ T₃ => wpAny_mono (hh _ env Pv W₁ σ₁ s₃ _ noE okH hf T₃.at_ hw) (fun f s₄ q => hR f s₄ (Go.from T₃ q)) fun _ _ z => z.no.elim)
  | some a =>
    refine on_e has fun x hx' has => and_e has fun e1 e2 => ?_
    cases (hx' : nm = some x)
    cases (of_decide_eq_true e1 : x = X.nm a)
    have hkl := local_of ok e2
    refine codeAny_handlers_suite_as (again _ _ fun s₃ T₃ => store_local K0 okH T₃.at_ hkl (VR.ref hl) fun s₄ T₄ => wpAny_mono (hh _ env Pv W₁ _ s₄ _ noE okH hf T₄.at_ hw) (fun f s₅ q => q.e fun W₅ σ₅ T₅ q => q.e fun af hfr q => ?_) fun _ _ z => z.no.elim)
    refine hR f s₅ (wpAny_bind (wpAny_bindName (store_local K0 ok T₅.at_ hkl .none fun s₆ T₆ => ?_)))
    refine unbind_ok K0 ok T₆.at_ hkl (v := .none) (if_pos rfl) fun s₇ T₇ => ?_
    rw [unb_put] at T₇
    exact ((((T₃.trans T₄).trans T₅).trans T₆).trans T₇).flow hfr q
theorem snd_try (K0 : CxOk X) {body h : PSs} {i : Nat} {as : Option Nat} {b : List Stmt} {b₀ : Stmt} {hs : List Stmt} {y : Str} {np : Pos} {nm : Option Str} {hpos pos : Pos} (hy : chkG X.ck sc i y = true) (hb : SS X n sc body b) (hh : SS X n ⟨sc.sc, false⟩ h (b₀ :: hs)) (has : asOk X.ck sc as nm = true) (hhd : sc.hd = true) :
    S1 X n sc (.try_ body i as h) (.Try b [.ExceptHandler (some (.Name y np)) nm (b₀ :: hs) hpos] [] [] pos) := fun A env Pv W σ s Q E ok hf at_ hw =>
  need_e hw fun v hv hw => need_e hw fun k ek hw => by
    cases vCls ek
    refine wpAny_Try_except (wpAny_mono (hb A env Pv W σ s Q _ ok hf at_ hw) (fun fl s₁ qq => qq.e fun W₁ σ₁ T qq => qq.e fun af hfr q => ?_) fun e s₁ x => ?_)
    · cases hfr with
      | next => exact wpAny_execs_nil (T.flow .next q)
      | brk => exact T.flow .brk q
      | cont => exact T.flow .cont q
      | ret hr => exact T.flow (.ret hr) q
    · obtain ⟨W₁, σ₁, j, l, m, T, rfl, hl, hg, fl, hE⟩ := x
      rw [hg] at hE
      obtain ⟨hk, hsb, hw⟩ := hE
      obtain ⟨c, o, vs, hc, hx, ho, hcls, hdd, _⟩ := T.at_.rel.at_ hg hl
      have own_e : Own W₁ σ₁.H l.1 := ⟨j, _, l, hg, hl, .inl rfl⟩
      obtain ⟨hfrm, outer, hst⟩ := ok.top hf
      obtain ⟨L, hL⟩ : ∃ L, env.frame = some L := by cases q : env.frame with | none => exact absurd q hfrm | some L => exact ⟨L, rfl⟩
      have hc0 : ∀ x c, env.cells.lookup x = some c → ∃ o, s.heap.get? c = some o := fun x c q => (at_.fr.cellNs x c q).2.2
      have post : ∀ {s₂ : Shared} {h₁ : Heap}, Tf X env Pv W σ s W₁ σ₁ s₂ → Aft W₁ σ₁.H s.heap s₂.heap h₁ l.1 (.ref c) Pv.st → Tf X env Pv W σ s W₁ σ₁ { s₂ with heap := h₁ } := fun T a => ⟨a.stp T.stp own_e, ⟨a.rel T.at_.rel hg hl rfl hc rfl T.at_.fr.frs, a.frr T.at_.fr at_.fr.pvAt hc0 own_e⟩, ⟨T.rest.gens, T.rest.drawn, T.rest.os⟩⟩
      refine seen_ok (h₀ := s.heap) (cls := .ref c) T.at_.rel T.stp.there (by rw [ok.stk, hst]) hL (hst ▸ T.at_.fr.frs) fl (fun oe q => by rw [ho] at q; cases q; exact hcls) fun h₁ a₁ => ?_
      rw [← hst] at a₁
      have T₂ := post T a₁
      have okH : EnvOk X (A.mark (some (.ref l.1))) env Pv n ⟨sc.sc, false⟩ := ⟨ok.stk, ok.top, ⟨ok.ok.depth, ok.ok.units⟩, (fun z => (Bool.false_ne_true z).elim), ok.kind, ok.glob, ok.bi, ok.names, ok.cl⟩
      refine chkG_e hy fun g1 g2 g3 => wpAny_handleBy_cons (codeAny_handlers_test (load_glob K0 okH T₂.at_ g1 g2 g3 hv fun cv hcv => ?_)) (by intro q; cases q)
      obtain ⟨c', rfl, hc'⟩ := cls_of (hcv W₁)
      refine match_ok K0 T₂.at_.rel hg hl hk hc' hsb (snd_suite K0 hh has ok hf hl (fun Q' E' hQ' => ?_) hw fun f s' q => q)
      refine again_ok (s := { s₁ with heap := h₁ }) (h₀ := s.heap) (cls := .ref c) T₂.at_.rel T₂.stp.there T₂.at_.fr.frs a₁.fly (fun oe q => ?_) fun h₂ a₂ => hQ' _ (post T₂ a₂)
      obtain ⟨oe', vs', q1, q2, _⟩ := a₁.exc
      have q : h₁.get? l.1 = some oe := q
      rw [q1] at q; cases q; exact q2
theorem objs1 (K0 : CxOk X) (C : ClsOk X K) (hK : CallM X n) : Objs X n where
  call := fun sc fz f as x p vs pos hf hq has hc => snd_call1 K0 C hK hf hq has hc
  meth := fun sc fz o m as v ap pos vs ho has hc hns hlen hline hap => snd_meth K0 ho has hc hns hlen hline (meth_case K0 C hK has hlen hline hap)
  attr := fun sc e m v pos he hns => snd_attr K0 C he hns
  asgA := fun sc o e m v x p pos he ho => snd_assign_attr K0 C he ho
  augL := fun sc i op e x p pos he hk hl hd => snd_aug_loc K0 he hk hl hd
  augA := fun sc o e m op v x p pos he ho => snd_aug_attr K0 C he ho
  raise := fun sc i e y x np cpos pos hy he hc hhd => snd_raise K0 hy he hc hhd
  try_ := fun sc body i as h b b₀ hb y np nm hpos pos hy hs hh has hhd => snd_try K0 hy hs hh has hhd
theorem callM (K0 : CxOk X) (C : ClsOk X K) (n : Nat) : CallM X n := by
  induction n with
  | zero => exact call_zero
  | succ n ih => exact call_step K0 (objs1 K0 C ih)
end
end Mine

end

section
set_option autoImplicit false
set_option linter.all false
set_option genSizeOf false
set_option genInjectivity false
namespace Mine
open PySem PySem.W PySem.Calls PyProof.Rows

/-- plain positional parameters alone -/
noncomputable def plainArgs (p : Arguments) : Bool := p.posonlyargs.isEmpty && p.vararg.isNone && p.kwonlyargs.isEmpty && p.kwarg.isNone

theorem lookup_zip {ns : List Str} : ∀ {vs : List Value}, ns.length = vs.length → ∀ n ∈ ns, ∃ v, (ns.zip vs).lookup n = some v := by
  induction ns with
  | nil => exact fun _ n h => (nomatch h)
  | cons a r ih =>
    intro vs hl n h
    cases vs with
    | nil => cases hl
    | cons v vs =>
      rw [List.zip_cons_cons]
      cases hb : n == a with
      | true => exact ⟨v, lookup_eq hb⟩
      | false =>
        rw [lookup_ne hb]
        rcases List.mem_cons.mp h with q | q
        · subst q; rw [beq_self_eq_true] at hb; cases hb
        · exact ih (Nat.succ.inj hl) n q
theorem filterMap_zip {ns : List Str} : ∀ {vs : List Value}, ns.length = vs.length → ∀ (f : Str → Option Value), (∀ n v, (n, v) ∈ ns.zip vs → f n = some v) → ns.filterMap (fun n => (f n).map (n, ·)) = ns.zip vs := by
  induction ns with
  | nil => exact fun _ _ _ => rfl
  | cons a r ih =>
    intro vs hl f hf
    cases vs with
    | nil => cases hl
    | cons v vs =>
      rw [List.filterMap_cons, hf a v (.head _)]
      exact congrArg ((a, v) :: ·) (ih (Nat.succ.inj hl) f fun n w h => hf n w (.tail _ h))
theorem lookup_nodup {ns : List Str} : ∀ {vs : List Value}, ns.length = vs.length → ns.Nodup → ∀ n v, (n, v) ∈ ns.zip vs → (ns.zip vs).lookup n = some v := by
  induction ns with
  | nil => exact fun _ _ n v h => (nomatch h)
  | cons a r ih =>
    intro vs hl hn n v h
    cases vs with
    | nil => cases hl
    | cons w vs =>
      rw [List.zip_cons_cons] at h ⊢
      rcases List.mem_cons.mp h with q | q
      · cases q; exact lookup_eq (beq_self_eq_true _)
      · have ne : (n == a) = false := by
          cases hb : n == a with
          | false => rfl
          | true => exact absurd (eq_of_beq hb ▸ (List.of_mem_zip q).1) (List.nodup_cons.mp hn).1
        rw [lookup_ne ne]
        exact ih (Nat.succ.inj hl) (List.nodup_cons.mp hn).2 n v q


theorem bind_plain {fd : FuncData} {vs : List Value} (hp : plainArgs fd.params = true) (hd : fd.defaults = .none) (hn : (fd.params.args.map (·.arg)).Nodup) (hl : (fd.params.args.map (·.arg)).length = vs.length) :
    bindArgs fd ⟨vs, []⟩ = pure ((fd.params.args.map (·.arg)).zip vs) := by
  obtain ⟨name, qual, params, body, scope, globals, closure, defaults, kwdefaults, doc, pm, ann, code, ct, bi⟩ := fd
  obtain ⟨po, as, va, ko, kd, kw, df⟩ := params
  cases hd
  cases po with | cons => cases hp | nil =>
  cases va with | some => cases hp | none =>
  cases ko with | cons => cases hp | nil =>
  cases kw with | some => cases hp | none =>
  generalize hns : as.map (·.arg) = ns at hn hl
  have hmiss : (ns.filter fun n => ((ns.zip vs).lookup n).isNone) = [] := List.filter_eq_nil_iff.mpr fun n hm => (lookup_zip (vs := vs) hl n hm).elim fun v e => by rw [e]; exact Bool.false_ne_true
  have hbinds := filterMap_zip hl (fun n => (ns.zip vs).lookup n) fun n v h => lookup_nodup hl hn n v h
  have htake : ns.take vs.length = ns := by rw [← hl]; exact List.take_length
  have hlt : ¬ vs.length > vs.length := Nat.lt_irrefl _
  refine Eq.trans (if_neg (c := (decide (vs.length > (as.map (·.arg)).length) && Option.isNone (none : Option Arg)) = true) (by rw [hns, hl, decide_eq_false hlt]; exact Bool.false_ne_true)) ?_
  have hd : ∀ k, List.drop k ((none : Option (Array Value)).getD #[]).toList = [] := fun k => List.drop_nil
  rw [hd]
  refine Eq.trans (if_neg (c := (!(((as.map (·.arg)).take ((as.map (·.arg)).length - 0)).filter fun n => (((as.map (·.arg)).zip vs).lookup n).isNone).isEmpty) = true) (by rw [hns, Nat.sub_zero, hl, htake, hmiss]; exact Bool.false_ne_true)) ?_
  rw [List.zip_nil_right]
  refine Eq.trans (b := pure (List.filterMap (fun n => Option.map (fun x => (n, x)) (List.lookup n ((as.map (·.arg)).zip vs))) (as.map (·.arg) ++ []))) rfl ?_
  rw [hns, List.append_nil, hbinds]
end Mine

end

section
set_option autoImplicit false
set_option linter.all false
set_option genSizeOf false
set_option genInjectivity false
namespace Mine
open PySem PySem.W PySem.Calls PyProof.Rows

theorem lk_uniq {l : List (Nat × Str)} (hn : (l.map (·.2)).Nodup) {i j : Nat} {s : Str} (h : (i, s) ∈ l) (h' : (j, s) ∈ l) : i = j := by
  induction l with
  | nil => cases h
  | cons p r ih =>
    rw [List.map_cons, List.nodup_cons] at hn
    rcases List.mem_cons.mp h with q | q
    · rcases List.mem_cons.mp h' with q' | q'
      · exact congrArg (·.1) (q.trans q'.symm)
      · subst q; exact absurd (List.mem_map.mpr ⟨_, q', rfl⟩) hn.1
    · rcases List.mem_cons.mp h' with q' | q'
      · subst q'; exact absurd (List.mem_map.mpr ⟨_, q, rfl⟩) hn.1
      · exact ih hn.2 q q'
noncomputable def Tb.nm (t : Tb) (i : Nat) : Str := (lk t.nms i).getD ⟨Array.replicate (i + 1) 0⟩
/-- the name of a class -/
noncomputable def Tb.cname (t : Tb) (k : Nat) : Option Str := match lk t.clss k with
  | some y => some y.1
  | none => lk t.excs k
noncomputable def fst0 (s : Str) : Option Nat := s.cps[0]?
noncomputable def goodNm (s : Str) : Bool := on (fst0 s) fun c => !Nat.beq c 0 && !(s == (".0" : Str))
noncomputable def distinct : List Str → Bool
  | [] => true
  | x :: r => !(r.contains x) && distinct r
theorem distinct_nodup {l : List Str} (h : distinct l = true) : l.Nodup := by
  induction l with
  | nil => exact List.nodup_nil
  | cons x r ih => exact and_e h fun a b => List.nodup_cons.mpr ⟨fun m => (by rw [List.contains_iff_mem.mpr m] at a; cases a), ih b⟩
theorem nm_some {t : Tb} {i : Nat} {s : Str} (h : lk t.nms i = some s) : t.nm i = s := by unfold Tb.nm; rw [h]; rfl
theorem nm_none {t : Tb} {i : Nat} (h : lk t.nms i = none) : t.nm i = Str.mk (Array.replicate (i + 1) 0) := by unfold Tb.nm; rw [h]; rfl
theorem fst_zero (k : Nat) : fst0 (Str.mk (Array.replicate (k + 1) 0)) = some 0 := by
  show (Array.replicate (k + 1) 0)[0]? = some 0
  rw [Array.getElem?_replicate, if_pos (Nat.succ_pos k)]
theorem good_ne {s : Str} (h : goodNm s = true) : fst0 s ≠ some 0 ∧ s ≠ (".0" : Str) := on_e h fun c e h => and_e h fun a b => ⟨fun z => (by rw [e] at z; cases z; cases a), fun z => (by subst z; cases b)⟩
theorem nm_inj {t : Tb} (hg : (t.nms.map (·.2)).all goodNm = true) (hd : distinct (t.nms.map (·.2)) = true) : ∀ i j, t.nm i = t.nm j → i = j := by
  have first : ∀ i s, lk t.nms i = some s → ∀ k : Nat, s ≠ Str.mk (Array.replicate (k + 1) 0) := fun i s e k q =>
    (good_ne (List.all_eq_true.mp hg s (List.mem_map.mpr ⟨_, lk_in e, rfl⟩))).1 (by rw [q]; exact fst_zero k)
  intro i j h
  cases hi : lk t.nms i with
  | some a =>
    rw [nm_some hi] at h
    cases hj : lk t.nms j with
    | some b =>
      rw [nm_some hj] at h
      subst h
      exact lk_uniq (distinct_nodup hd) (lk_in hi) (lk_in hj)
    | none => rw [nm_none hj] at h; exact absurd h (first i a hi j)
  | none =>
    rw [nm_none hi] at h
    cases hj : lk t.nms j with
    | some b => rw [nm_some hj] at h; exact absurd h.symm (first j b hj i)
    | none =>
      rw [nm_none hj] at h
      have := congrArg (fun s => s.cps.size) h
      rw [Array.size_replicate, Array.size_replicate] at this
      exact Nat.succ.inj this
theorem nm_dot {t : Tb} (hg : (t.nms.map (·.2)).all goodNm = true) (i : Nat) : t.nm i ≠ (".0" : Str) := by
  cases hi : lk t.nms i with
  | some a => rw [nm_some hi]; exact (good_ne (List.all_eq_true.mp hg a (List.mem_map.mpr ⟨_, lk_in hi, rfl⟩))).2
  | none =>
    rw [nm_none hi]
    intro q
    have h0 := fst_zero i
    rw [q] at h0
    revert h0
    decide

noncomputable def usedNames (p : Program) (loose : List Str) : List Str := startupNames ++ loose ++ (recsOf p).map (·.name) ++ (litsOf p).map (·.1) ++ (clssOf p loose).map (·.name)
noncomputable def chkNms (t : Tb) : Bool := (t.nms.map (·.2)).all goodNm && distinct (t.nms.map (·.2)) && decide (t.nm t.nAppend = Str.ofString "append") && decide (t.nm t.nPop = Str.ofString "pop") && decide (t.nm t.nExtend = Str.ofString "extend") && (decide (t.nm t.nGet = Str.ofString "get") && decide (t.nm t.nSetdefault = Str.ofString "setdefault"))
/-- an address -/
noncomputable def adr : Value → Option Addr
  | .ref a => some a
  | _ => none
theorem adr_e {v : Value} {a : Addr} (h : adr v = some a) : v = .ref a := by cases v <;> first | (cases h; rfl) | cases h
noncomputable def rf (o : Option (Option Value)) : Option Addr := match o with
  | some (some v) => adr v
  | _ => none
theorem rf_e {o : Option (Option Value)} {a : Addr} (h : rf o = some a) : o = some (some (.ref a)) := by
  cases o with
  | none => cases h
  | some o => cases o with
    | none => cases h
    | some v => rw [adr_e h]
noncomputable def topA (K : Frag) (x : Str) : Option Addr := rf (nsIn K mainGlobals x)
noncomputable def inCls (K : Frag) (a : Addr) (x : Str) : Option Addr := rf (findIn K (.ref a) x)
/-- one after the other -/
noncomputable def thn {α β : Type} (o : Option α) (f : α → Option β) : Option β := match o with
  | some a => f a
  | none => none
theorem thn_e {α β : Type} {o : Option α} {f : α → Option β} {b : β} {G : Prop} (h : thn o f = some b) (g : ∀ a, o = some a → f a = some b → G) : G := by
  cases o with
  | none => cases h
  | some a => exact g a rfl h
theorem thn_i {α β : Type} {o : Option α} {a : α} {f : α → Option β} {b : Option β} (e : o = some a) (h : f a = b) : thn o f = b := by subst e; exact h
noncomputable def srcA (K : Frag) : Src → Option Addr
  | .g x => topA K x
  | .m c x => thn (topA K c) fun a => inCls K a x
noncomputable def Tb.fnA (t : Tb) (K : Frag) (k : Nat) : Option Addr := thn (lk t.fns k) fun y => srcA K y.1
noncomputable def Tb.clA (t : Tb) (K : Frag) (k : Nat) : Option Addr := thn (t.cname k) (topA K)
noncomputable def mkCx (p : Program) (w : World) (t : Tb) (K : Frag) (h : Heap) : Cx where
  prog := p
  w := w
  P := t.P
  nm := t.nm
  fnA := t.fnA K
  clA := t.clA K
  hb := h
  quiet := hasN t.quiet
  qg := hasN t.qg
noncomputable def Tb.ck (t : Tb) : Ck := ⟨t.nm, hasN t.qg, t.nAppend⟩

/-! the looks -/
noncomputable def kFn (sc : Scope) : Bool := match sc.kind with
  | .function => true
  | _ => false
noncomputable def isNoneV : Value → Bool
  | .none => true
  | _ => false
noncomputable def fncD : Data → Option FuncData
  | .func fd => some fd
  | _ => none
noncomputable def stmB : FuncBody → Option (List Stmt)
  | .stmts b => some b
  | _ => none
noncomputable def fdOf (K : Frag) (a : Addr) : Option (FuncData × List Stmt) := thn (K.lookup a) fun o => thn (fncD o.data) fun fd => thn (stmB fd.body) fun b => some (fd, b)
noncomputable def chkFd (t : Tb) (K : Frag) (q : Bool) (f : Fn) (y : FuncData × List Stmt) : Bool :=
  (plainArgs y.1.params && decide (y.1.params.args.map (·.arg) = f.params.map t.nm) && distinct (y.1.params.args.map (·.arg)) && kFn y.1.scope && !y.1.scope.isCoroutine && !y.1.scope.isGenerator) &&
  (f.params.all (fun i => kStore ⟨y.1.scope, true⟩ (t.nm i)) && y.1.scope.names.all (fun x => !(x.2 == NameKind.free)) && y.1.closure.isEmpty && decide (y.1.globals = mainGlobals) && decide (y.1.builtins = builtinsNs) && isNoneV y.1.defaults) &&
  codeIn K y.1.code y.1.qualname && chkSs t.ck ⟨y.1.scope, true⟩ f.body y.2 && (!q || chkSs t.ck ⟨y.1.scope, false⟩ f.body y.2)
noncomputable def chkFn (t : Tb) (K : Frag) (e : Nat × Src × Fn) : Bool := on (srcA K e.2.1) fun a => on (fdOf K a) fun y => chkFd t K (hasN t.quiet e.1) e.2.2 y
noncomputable def chkMeth (t : Tb) (K : Frag) (c : Addr) (x : Str) (f : Nat) : Bool := on (inCls K c x) fun a => decide (t.fnA K f = some a) && decide (typeIn K (.ref a) = some (.type "function"))
noncomputable def chkIni (t : Tb) (K : Frag) (c : Addr) : Option Nat → Bool
  | some f => chkMeth t K c "__init__" f
  | none => true
noncomputable def chkCl (t : Tb) (K : Frag) (e : Nat × Str × Cl) : Bool := on (topA K e.2.1) fun c =>
  (makesIn K c && decide (findIn K (.ref c) "__getattribute__" = some (some (.builtin "object.__getattribute__"))) && decide (findIn K (.ref c) "__getattr__" = some none) && decide (findIn K (.ref c) "__setattr__" = some (some (.builtin "object.__setattr__"))) && plainOver K c && hasDictIn K c) &&
  keepIn K (.ref c) && chkIni t K c e.2.2.init && e.2.2.meths.all (fun y => chkMeth t K c (t.nm y.1) y.2 && !(e.2.2.attrs.contains y.1)) && e.2.2.attrs.all (fun n => decide (findIn K (.ref c) (t.nm n) = some none)) && !isSm (lk e.2.2.meths t.nAppend)
noncomputable def clsD : Data → Option ClassData
  | .cls cd => some cd
  | _ => none
/-- the line of a class of exceptions -/
noncomputable def lineOf (K : Frag) (c : Addr) : Option (List Value) := thn (K.lookup c) fun o => thn (clsD o.data) fun cd => some cd.mro
noncomputable def chkEx (t : Tb) (K : Frag) (e : Nat × Str) : Bool := on (topA K e.2) fun c => excIn K c excB "ValueError.__new__" && on (lineOf K c) fun l => (t.clss.map (fun y => (y.1, y.2.1)) ++ t.excs).all fun y => on (topA K y.2) fun ck => (l.contains (.ref ck) == sub2 t.subs e.1 y.1)
/-- a built-in value -/
noncomputable def bvO (b : B) (o : Option Value) : Bool := on o fun v => v == bval b
noncomputable def isLI : B → Bool
  | .len => true
  | .isinstance => true
  | _ => false
noncomputable def srcG : Src → Option Str
  | .g x => some x
  | _ => none
noncomputable def vI : Value → Option Int
  | .int i _ => some i
  | _ => none
noncomputable def chkGlob (t : Tb) (K : Frag) (used : List Str) (e : Nat × V) : Bool := match e.2 with
  | .fn k => on (lk t.fns k) fun y => on (srcG y.1) fun x => decide (x = t.nm e.1) && isSm (topA K x) && (!hasN t.qg e.1 || hasN t.quiet k)
  | .cls k => on (t.cname k) fun x => decide (x = t.nm e.1) && isSm (topA K x) && !hasN t.qg e.1
  | .int v => on (nsIn K mainGlobals (t.nm e.1)) fun o => on o fun u => decide (vI u = some v) && !hasN t.qg e.1
  | .bt b => !(used.contains (t.nm e.1)) && !(t.nm e.1 == ("__name__" : Str)) && bvO b (bootBuiltins (t.nm e.1)) && (!hasN t.qg e.1 || isLI b)
  | _ => false
/-- isinstance -/
noncomputable def bTs : List B := [.int, .bool, .str, .list, .tuple]
noncomputable def kTs : List (Kd × Value) := [(.none, .type "NoneType"), (.bool, .type "bool"), (.int, .type "int"), (.str, .type "str"), (.list, .type "list"), (.tuple, .type "tuple")]
noncomputable def bkNo (k : Kd) (b : B) : Option Bool := match bKd b with
  | some j => kNo2 k j
  | none => none
noncomputable def ckB (K : Frag) : Bool := kTs.all fun y => bTs.all fun b => kitOne K y.2 (bval b) == bkNo y.1 b
noncomputable def ckC (K : Frag) (e : Nat × Str × Cl) : Bool := on (topA K e.2.1) fun c => insK K c && bTs.all fun b => kitOne K (.ref c) (bval b) == some false
noncomputable def ckE (t : Tb) (K : Frag) (e : Nat × Str) : Bool := on (topA K e.2) fun c => excK K c && kitOne K (.ref c) (.type "ValueError") == some true && t.excs.all fun y => on (topA K y.2) fun d => kitOne K (.ref c) (.ref d) == some (sub2 t.subs e.1 y.1)
noncomputable def chkIsi (t : Tb) (K : Frag) : Bool := ckB K && t.clss.all (ckC K) && t.excs.all (ckE t K)
/-- no class is of both kinds -/
noncomputable def chkTwo (t : Tb) : Bool := t.clss.all fun y => !isSm (lk t.excs y.1)
/-- all that hangs on the heap -/
noncomputable def chkAll (t : Tb) (K : Frag) : Bool := t.fns.all (chkFn t K) && t.clss.all (chkCl t K) && t.excs.all (chkEx t K) && chkIsi t K
end Mine

end

section
set_option autoImplicit false
set_option linter.all false
set_option genSizeOf false
set_option genInjectivity false
namespace Mine
open PySem PySem.W PySem.Calls PyProof.Rows

section
variable {p q : Program} {loose : List Str} {mean : ExcName → Option Value} {mg mb : Str → Option Value} {h : Heap} {w : World} {t : Tb} {K : Frag}

/-- a def of the table's, and its look -/
inductive FnOf (t : Tb) (K : Frag) (k : Nat) (a : Addr) : Prop
  | mk (y : Src × Fn) (z : FuncData × List Stmt) (hk : lk t.fns k = some y) (hz : fdOf K a = some z) (hc : chkFd t K (hasN t.quiet k) y.2 z = true)
theorem fn_of {k : Nat} {a : Addr} (h2 : t.fns.all (chkFn t K) = true) (e : t.fnA K k = some a) : FnOf t K k a :=
  thn_e e fun y hk ha => on_e (List.all_eq_true.mp h2 _ (lk_in hk)) fun a' ha' h => on_e h fun z hz hc => by
    cases Option.some.inj (ha'.symm.trans ha)
    exact ⟨y, z, hk, hz, hc⟩
theorem fdOf_ok {a : Addr} {y : FuncData × List Stmt} {G : Prop} (h : fdOf K a = some y) (g : ∀ o, K.lookup a = some o → o.data = .func y.1 → y.1.body = .stmts y.2 → G) : G :=
  thn_e h fun o ho h => thn_e h fun fd hd h => thn_e h fun b hb h => by
    cases h
    refine g o ho ?_ ?_
    · generalize o.data = d at hd
      cases d <;> first | (cases hd; rfl) | cases hd
    · generalize fd.body = d at hb
      cases d <;> first | (cases hb; rfl) | cases hb
theorem isS_e {α : Type} {o : Option α} (h : isSm o = true) : ∃ a, o = some a := by
  cases o with
  | none => cases h
  | some a => exact ⟨a, rfl⟩
theorem mp2_e {α β : Type} {o : Option (α × β)} {b : β} {G : Prop} (h : mp2 o = some b) (g : ∀ a, o = some (a, b) → G) : G := by
  cases o with
  | none => cases h
  | some y => cases h; exact g y.1 rfl
theorem cname_mem {k : Nat} {x : Str} (e : t.cname k = some x) : (k, x) ∈ t.clss.map (fun y => (y.1, y.2.1)) ++ t.excs := by
  unfold Tb.cname at e
  cases q : lk t.clss k with
  | some y => rw [q] at e; cases e; exact List.mem_append_left _ (List.mem_map.mpr ⟨_, lk_in q, rfl⟩)
  | none => rw [q] at e; exact List.mem_append_right _ (lk_in e)
theorem exc_nm {j : Nat} {x : Str} (hn : chkTwo t = true) (hx : lk t.excs j = some x) : t.clA K j = topA K x := by
  have hcl : lk t.clss j = none := by
    cases q : lk t.clss j with
    | none => rfl
    | some y => have := List.all_eq_true.mp hn _ (lk_in q); rw [hx] at this; cases this
  unfold Tb.clA Tb.cname
  rw [hcl, hx]; rfl
theorem cls_nm {k : Nat} {y : Str × Cl} (hk : lk t.clss k = some y) : t.clA K k = topA K y.1 := by
  unfold Tb.clA Tb.cname
  rw [hk]; rfl
/-- a class of exceptions, and its look -/
theorem ex_e {c : Nat × Str → Addr → Bool} {j : Nat} {a : Addr} {G : Prop} (h4 : (t.excs.all fun e => on (topA K e.2) (c e)) = true) (hn : chkTwo t = true) (e : t.clA K j = some a) (hj : isSm (lk t.excs j) = true) (g : ∀ x, topA K x = some a → c (j, x) a = true → G) : G := by
  obtain ⟨x, hx⟩ := isS_e hj
  rw [exc_nm hn hx] at e
  exact on_e (List.all_eq_true.mp h4 _ (lk_in hx)) fun a' ha' h => g x e (Option.some.inj (ha'.symm.trans e) ▸ h)
theorem cl_e {c : Nat × Str × Cl → Addr → Bool} {k : Nat} {a : Addr} {cl : Cl} {G : Prop} (h3 : (t.clss.all fun e => on (topA K e.2.1) (c e)) = true) (e : t.clA K k = some a) (hcl : mp2 (lk t.clss k) = some cl) (g : ∀ x, c (k, x, cl) a = true → G) : G :=
  mp2_e hcl fun x hk => by
    rw [cls_nm hk] at e
    exact on_e (List.all_eq_true.mp h3 _ (lk_in hk)) fun a' ha' h => g x (Option.some.inj (ha'.symm.trans e) ▸ h)

theorem ex_at {q : Program} {loose : List Str} {mg mb : Str → Option Value} (T : TopRead q loose mg mb h) {j : Nat} {c : Addr} (X : K.In h) (h4 : t.excs.all (chkEx t K) = true) (hn : chkTwo t = true) (e : t.clA K j = some c) (hj : isSm (lk t.excs j) = true) : ExAt (mkCx p w t K h) j c := by
  refine ex_e h4 hn e hj fun x hx this => and_e this fun he this => on_e this fun l hl hall => ?_
  obtain ⟨_, bm, ns, nm, qn, bs, hd, sn, sub, ab, col, dd, k0, k1, k2, k3, k5, mN, g1, g2, g3, g4⟩ := own_of_in X T (rf_e hx) he
  have hl' : l = .ref c :: bm := thn_e hl fun o eo hl => by cases (X c o eo).symm.trans g1; exact (Option.some.inj hl).symm
  refine ⟨bm, ns, nm, qn, bs, hd, sn, sub, ab, col, dd, k0, k1, k2, k3, k5, mN, g1, g2, g3, g4, fun k ck hk => ?_⟩
  refine thn_e hk fun xk hxk hck => on_e (List.all_eq_true.mp hall _ (cname_mem hxk)) fun c2 hc2 this => ?_
  cases Option.some.inj (hc2.symm.trans hck)
  rw [← hl']
  exact beq_iff_eq.mp this

theorem meth_of {c : Addr} {x : Str} {f : Nat} (e : chkMeth t K c x f = true) : FnIs (mkCx p w t K h) K c x f :=
  on_e e fun a ha e => and_e e fun e1 e2 => ⟨a, of_decide_eq_true e1, rf_e ha, of_decide_eq_true e2⟩
theorem cls_ok (X : K.In h) (h3 : t.clss.all (chkCl t K) = true) : ClsOk (mkCx p w t K h) K := by
  refine ⟨X, fun k c cl hc hcl => cl_e h3 hc hcl fun x this => and6_e this fun g1 g2 g3 g4 g5 g6 => and6_e g1 fun a1 a2 a3 a4 a5 a6 =>
    ⟨a1, of_decide_eq_true a2, of_decide_eq_true a3, of_decide_eq_true a4, a5, a6, g2, fun f hf => ?_, fun n f hf => meth_of (and2 (List.all_eq_true.mp g4 _ (lk_in hf))).1, fun n hn => of_decide_eq_true (List.all_eq_true.mp g5 _ hn), fun n f hf hn => ?_⟩⟩
  · have g3 : chkIni t K c cl.init = true := g3
    rw [hf] at g3
    exact meth_of g3
  · have := (and2 (List.all_eq_true.mp g4 _ (lk_in hf))).2
    rw [List.contains_iff_mem.mpr hn] at this; cases this

theorem bTs_mem {b : B} {j : Kd} (h : bKd b = some j) : b ∈ bTs := by
  cases b <;> first | exact nsome h | exact .head _ | exact .tail _ (.head _) | exact .tail _ (.tail _ (.head _)) | exact .tail _ (.tail _ (.tail _ (.head _))) | exact .tail _ (.tail _ (.tail _ (.tail _ (.head _))))
theorem bkNo_e {k : Kd} {b : B} {r : Bool} (e : bkNo k b = some r) : b ∈ bTs := by
  cases hb : bKd b with
  | none => unfold bkNo at e; rw [hb] at e; cases e
  | some j => exact bTs_mem hb
theorem isi_base {k : Kd} {b : B} {tv : Value} {r : Bool} (h : ckB K = true) (hm : (k, tv) ∈ kTs) (e : bkNo k b = some r) : kitOne K tv (bval b) = some r :=
  (beq_iff_eq.mp (List.all_eq_true.mp (List.all_eq_true.mp h _ hm) b (bkNo_e e))).trans e
theorem map_e {α β : Type} {o : Option α} {f : α → β} {b : β} {G : Prop} (h : o.map f = some b) (g : ∀ a, o = some a → b = f a → G) : G := by
  cases o with
  | none => cases h
  | some a => cases h; exact g a rfl rfl
theorem isi_all (X : K.In h) (hi : chkIsi t K = true) (hn : chkTwo t = true) : IsiK (mkCx p w t K h) K := and3_e hi fun hB hC hE => by
  refine ⟨X, fun k y b tv cv e hk ht => ?_, fun k c hc hk => ex_e hE hn hc hk fun x _ g => and3_e g fun a _ _ => a, fun k c cl hc hcl => cl_e hC hc hcl fun x g => (and2 g).1⟩
  cases y with
  | bt b' =>
    cases ht
    have e : isiB t.P k b' = some b := e
    cases k with
    | exc i =>
      refine map_e hk fun c hc ev => ?_
      subst ev
      cases b' <;> first | exact nsome e | skip
      cases q : t.P.exc i with
      | false => have e : (match t.P.exc i with | true => some true | false => none) = some b := e
                 rw [q] at e; cases e
      | true =>
        have e : (match t.P.exc i with | true => some true | false => none) = some b := e
        rw [q] at e; cases e
        exact ex_e hE hn hc q fun x _ g => and3_e g fun _ a _ => beq_iff_eq.mp a
    | inst i =>
      refine map_e hk fun c hc ev => ?_
      subst ev
      have e : (match t.P.cls i with | some _ => (match bKd b' with | some _ => some false | none => none) | none => none) = some b := e
      cases hcl : t.P.cls i with
      | none => rw [hcl] at e; cases e
      | some cl =>
        rw [hcl] at e
        have e : (match bKd b' with | some _ => some false | none => none) = some b := e
        cases hb : bKd b' with
        | none => rw [hb] at e; cases e
        | some j => rw [hb] at e; cases e; exact cl_e hC hc hcl fun x g => beq_iff_eq.mp (List.all_eq_true.mp (and2 g).2 b' (bTs_mem hb))
    | none => cases hk; exact isi_base (k := .none) hB (.head _) e
    | bool => cases hk; exact isi_base (k := .bool) hB (.tail _ (.head _)) e
    | int => cases hk; exact isi_base (k := .int) hB (.tail _ (.tail _ (.head _))) e
    | str => cases hk; exact isi_base (k := .str) hB (.tail _ (.tail _ (.tail _ (.head _)))) e
    | list => cases hk; exact isi_base (k := .list) hB (.tail _ (.tail _ (.tail _ (.tail _ (.head _))))) e
    | tuple => cases hk; exact isi_base (k := .tuple) hB (.tail _ (.tail _ (.tail _ (.tail _ (.tail _ (.head _)))))) e
  | cls j =>
    refine map_e ht fun d hd ev => ?_
    subst ev
    cases k with
    | exc i =>
      refine map_e hk fun c hc ev => ?_
      subst ev
      have e : (match t.P.exc i && t.P.exc j with | true => some (t.P.sub i j) | false => none) = some b := e
      cases q : t.P.exc i && t.P.exc j with
      | false => rw [q] at e; cases e
      | true =>
        rw [q] at e; cases e
        exact and_e q fun q1 q2 => ex_e hE hn hc q1 fun x _ g => and3_e g fun _ _ g3 => ex_e g3 hn hd q2 fun y _ g => beq_iff_eq.mp g
    | _ => exact nsome e
  | _ => exact nsome e
end
end Mine

end

section
set_option autoImplicit false
set_option linter.all false
set_option genSizeOf false
set_option genInjectivity false
namespace Mine
open PySem PySem.W PySem.Calls PyProof.Rows

section
variable {p q : Program} {loose : List Str} {mean : ExcName → Option Value} {mg mb : Str → Option Value} {h : Heap} {w : World} {t : Tb} {K : Frag}
theorem top_gl {i : Nat} {v : V} {x : Str} {a : Addr} (T : Top q loose mean mg mb h) (X : K.In h) (hx : x = t.nm i) (ha : topA K x = some a) (r : ∀ W, VR (mkCx p w t K h) W (.ref a) v) : GlAt (mkCx p w t K h) i v :=
  .main (.ref a) mg T.g (by show mg (t.nm i) = _; rw [← hx]; exact mg_of X T.g (rf_e ha)) r
theorem glob_ok {used : List Str} {i : Nat} {v : V} (T : Top q loose mean mg mb h) (X : K.In h) (hu : used = usedNames q loose) (hm : chkGlob t K used (i, v) = true) : GlAt (mkCx p w t K h) i v := by
  cases v with
  | fn k =>
    refine on_e hm fun y hk hm => on_e hm fun x hx hm => and3_e hm fun m1 m2 _ => ?_
    obtain ⟨a, ha⟩ := isS_e m2
    refine top_gl T X (of_decide_eq_true m1) ha fun W => .fn (thn_i hk ?_)
    generalize y.1 = s at hx
    cases s with
    | g z => cases hx; exact ha
    | m _ _ => cases hx
  | cls k =>
    refine on_e hm fun x hx hm => and3_e hm fun m1 m2 _ => ?_
    obtain ⟨a, ha⟩ := isS_e m2
    exact top_gl T X (of_decide_eq_true m1) ha fun W => .cls (thn_i hx ha)
  | int v =>
    refine on_e hm fun o ho hm => on_e hm fun u eo hm => and_e hm fun m1 _ => ?_
    have m1 := of_decide_eq_true m1
    subst eo
    cases u with
    | int u tk => cases m1; exact .main (.int v tk) mg T.g (mg_of X T.g ho) fun W => .int v tk
    | _ => cases m1
  | bt b =>
    refine and4_e hm fun m1 m2 m3 _ => ?_
    subst hu
    have nu : t.nm i ∉ usedNames q loose := fun z => by rw [List.contains_iff_mem.mpr z] at m1; cases m1
    unfold usedNames at nu
    simp only [List.mem_append, not_or] at nu
    obtain ⟨⟨⟨⟨n1, n2⟩, n3⟩, n4⟩, n5⟩ := nu
    refine .bi (bval b) mg mb T.g T.b (T.free _ n1 n2 n3 n4 n5) ?_ fun W => .bt b
    show mb (t.nm i) = _
    rw [T.builtins _ (fun z => by rw [z] at m2; cases m2)]
    exact on_e m3 fun u eu m3 => eu.trans (congrArg some (beq_iff_eq.mp m3))
  | _ => cases hm
theorem quiet_ok {used : List Str} {i : Nat} {v : V} (hm : chkGlob t K used (i, v) = true) (hq : hasN t.qg i = true) : Qt (mkCx p w t K h) v := by
  cases v with
  | fn k =>
    refine on_e hm fun y hk hm => on_e hm fun x hx hm => and3_e hm fun _ _ m3 => .fn ?_
    rw [hq] at m3; exact m3
  | cls k => exact on_e hm fun x hx hm => and3_e hm fun _ _ m3 => by rw [hq] at m3; cases m3
  | int v => exact on_e hm fun o ho hm => on_e hm fun u eo hm => and_e hm fun _ m2 => by rw [hq] at m2; cases m2
  | bt b =>
    refine and4_e hm fun _ _ _ m4 => ?_
    rw [hq] at m4
    cases b with
    | len => exact .len
    | isinstance => exact .isi
    | _ => cases m4
  | _ => cases hm
theorem noneV {v : Value} (h : isNoneV v = true) : v = .none := by cases v <;> first | rfl | cases h
theorem fnKind {s : Scope} (h : kFn s = true) : s.kind = .function := by
  unfold kFn at h
  cases hk : s.kind <;> rw [hk] at h <;> first | rfl | cases h
theorem fn_at {k : Nat} {a : Addr} {d : Fn} (X : K.In h) (h2 : t.fns.all (chkFn t K) = true) (e : t.fnA K k = some a) (ed : mp2 (lk t.fns k) = some d) : FnIn (mkCx p w t K h) (hasN t.quiet k) d a := by
  obtain ⟨y, z, hk, hz, hc⟩ := fn_of h2 e
  rw [hk] at ed
  cases ed
  refine fdOf_ok hz fun o ho hd hb => and5_e hc fun c1 c2 c3 c4 c5 => and6_e c1 fun a1 a2 a3 a4 a5 a6 => and6_e c2 fun b1 b2 b3 b4 b5 b6 => ?_
  have a2 := of_decide_eq_true a2
  refine ⟨o, z.1, z.2, X _ _ ho, hd, codeRec_of X c3, hb, fun vs hl => ?_, empty_ok b3, Bool.not_eq_true' _ ▸ a5, Bool.not_eq_true' _ ▸ a6, fnKind a4, of_decide_eq_true b4, of_decide_eq_true b5, fun i hi => List.all_eq_true.mp b1 i hi, fun u hu zz => ?_, c4, fun hq => ?_⟩
  · have := bind_plain (fd := z.1) (vs := vs) a1 (noneV b6) (distinct_nodup a3) (by rw [a2, List.length_map, hl])
    rw [this, a2]; rfl
  · have := List.all_eq_true.mp b2 u hu
    rw [zz] at this
    cases this
  · rw [hq] at c5; exact c5
theorem isS_no {α : Type} {o : Option α} (h : (!isSm o) = true) : o = none := by
  cases o with
  | none => rfl
  | some _ => cases h
theorem fn_ob {k : Nat} {a : Addr} (X : K.In h) (h2 : t.fns.all (chkFn t K) = true) (e : t.fnA K k = some a) : FnOb (mkCx p w t K h) a := by
  obtain ⟨y, z, hk, hz, hc⟩ := fn_of h2 e
  exact fdOf_ok hz fun o ho hd hb => ⟨o, z.1, X _ _ ho, hd⟩
theorem cx_ok (T : Top q loose mean mg mb h) (X : K.In h) (h1 : chkNms t = true) (h2 : chkAll t K = true) (h3 : t.globs.all (chkGlob t K (usedNames q loose)) = true) (hn : chkTwo t = true) : CxOk (mkCx p w t K h) :=
  and6_e h1 fun g1 g2 g3 g4 g5 g67 => and_e g67 fun g6 g7 => and4_e h2 fun h2 hcl hex hisi =>
    ⟨nm_inj g1 g2, nm_dot g1, T.nolimit, fun i v e => glob_ok T X rfl (List.all_eq_true.mp h3 _ (lk_in e)), of_decide_eq_true g3, of_decide_eq_true g4, of_decide_eq_true g5, of_decide_eq_true g6, of_decide_eq_true g7,
      fun k a e => fn_ob X h2 e, fun k a d e ed => fn_at X h2 e ed, fun i v hq e => quiet_ok (List.all_eq_true.mp h3 _ (lk_in e)) hq, fun k c e hj => ex_at (topRead_of T) X hex hn e hj,
      fun k cl e => mp2_e e fun x hk => on_e (List.all_eq_true.mp hcl _ (lk_in hk)) fun c hc this => and6_e this fun _ _ _ _ _ g6 => isS_no g6, ⟨K, isi_all X hisi hn⟩, T.g.elim fun o q => ⟨o, q.elim fun _ q => q.elim fun _ q => q.1⟩⟩
end

/-- the state at the call -/
noncomputable def W0 (h : Heap) : Wd := ⟨fun a => h.get? a, fun _ => none⟩
noncomputable def H0 : Hp := ⟨0, fun _ => none⟩
theorem rel0 {X : Cx} : RelH X (W0 X.hb) H0 X.hb :=
  ⟨fun _ _ e => e, fun _ _ e => e, fun _ _ e => (by cases e), fun a ⟨i, c, l, e, _, _⟩ => (by cases e), fun i j ci cj li lj e => (by cases e), fun _ _ => ⟨rfl, rfl⟩⟩
theorem vrs_ints {X : Cx} {W : Wd} {P : Params} {h : Heap} {is : List Int} : ∀ {vs : List Value}, WellAll P h vs (ofPys (is.map PyData.int)) → VRs X W vs (is.map V.int) := by
  induction is with
  | nil => intro vs r; cases r; exact .nil
  | cons i is ih =>
    intro vs r
    have r' : WellAll P h vs (.int i :: ofPys (is.map PyData.int)) := r
    cases r' with
    | cons a b =>
      cases a with
      | int _ t => exact .cons (.int i t) (ih b)

theorem law_end {p : Program} {w : World} {t : Tb} {K : Frag} {mg : Str → Option Value} {s₁ : Shared} {c : ClaimW} {cl : Str → Option Addr} {mean : ExcName → Option Value} {args : List WData} {k : Nat} {fa a : Addr} {is : List Int} {q : Program} {loose : List Str} {mean' : ExcName → Option Value} {mb : Str → Option Value} {P : Params}
    (T : Top q loose mean' mg mb s₁.heap) (X : K.In s₁.heap) (h1 : chkNms t = true) (h2 : chkAll t K = true) (h3 : t.globs.all (chkGlob t K (usedNames q loose)) = true) (hn : chkTwo t = true)
    (hg : s₁.gens = #[]) (x : Str) (hk : (thn (lk t.fns k) fun y => srcG y.1) = some x) (hs : isSm (topA K x) = true) (hmg : mg x = some (.ref fa)) (hw : Well P s₁.heap (.ref a) (ofPy (.list (is.map PyData.int)))) (hlen : ¬ ((63 : Nat) : Int) < (is.length : Nat))
    (hr : ∀ cls, c.raises args cls = false) (hp : c.post args (.bool true) args = true)
    (n : Nat) (hA : AOk callerA n)
    (main : ∀ is : List Int, is.length ≤ 63 → CW t.P n k [.lst (is.map V.int)] H0 (fun v _ => v = .bool true) (fun _ _ => False)) :
    wpAny (model p w) callerA (call (.ref fa) [.ref a]) (fun v s' => GoodWG c cl mean args s₁ (.ok (.ret v)) s') (fun e s' => GoodWG c cl mean args s₁ (.error e) s') s₁ := by
  have K0 : CxOk (mkCx p w t K s₁.heap) := cx_ok T X h1 h2 h3 hn
  have C : ClsOk (mkCx p w t K s₁.heap) K := cls_ok X (and4_e h2 fun _ z _ _ => z)
  have hl : is.length ≤ 63 := Int.ofNat_le.mp (Int.not_lt.mp hlen)
  cases hw with
  | list hgt hall =>
    have hv : VR (mkCx p w t K s₁.heap) (W0 s₁.heap) (.ref a) (.lst (is.map V.int)) := VR.lst (n := 0) hgt (vrs_ints hall) (by rw [List.length_map]; exact Nat.le_trans hl (by decide))
    have hfn : (mkCx p w t K s₁.heap).fnA k = some fa := by
      obtain ⟨a', ha'⟩ := isS_e hs
      have := mg_of X T.g (rf_e ha')
      rw [hmg] at this
      cases this
      refine thn_e hk fun y hy hx => thn_i hy ?_
      generalize y.1 = s at hx
      cases s with
      | g z => cases hx; exact ha'
      | m _ _ => cases hx
    refine wpAny_call (codeAny_mono (callM K0 C n callerA k fa [.lst (is.map V.int)] [.ref a] (W0 s₁.heap) H0 s₁ _ _ hA (.inl rfl) ⟨[], rfl, fun e he => by cases he⟩ rel0 (.cons hv .nil) hfn (main is hl)) fun r s' hr' => ?_)
    cases r with
    | ok fl =>
      cases fl with
      | ret v =>
        obtain ⟨W', H', av, TT, hv', rfl⟩ := hr'
        cases hv'
        exact GoodW.toG ⟨.inl ⟨_, .bool true, [], rfl, hr, .bool _, hp, fun _ => ⟨List.nodup_nil, fun _ z => (nomatch z)⟩⟩, TT.rel.bkeep, TT.rest.os, TT.rest.gens.trans hg⟩
      | _ => exact hr'.elim
    | error e =>
      obtain ⟨_, _, _, _, _, _, _, _, _, _, z⟩ := hr'
      exact z.elim
end Mine

end

section
set_option autoImplicit false
set_option linter.all false
set_option genSizeOf false
set_option genInjectivity false
namespace Mine
open PySem (Str)
/-! A text is run on states that are laid out: cells by number, names by number. -/
structure Sx where
  cs : List (Option C)
  lo : List (Nat × V)
inductive Ox (α : Type) where
  | ok (a : α) (s : Sx)
  | ex (j : Nat) (s : Sx)
noncomputable def atC (l : List (Option C)) : Nat → Option C := List.rec (motive := fun _ => Nat → Option C) (fun _ => none) (fun c _ ih n => Nat.rec (motive := fun _ => Option C) c (fun m _ => ih m) n) l
noncomputable def setN (l : List (Option C)) : Nat → Option C → List (Option C) := List.rec (motive := fun _ => Nat → Option C → List (Option C)) (fun _ _ => []) (fun c r ih n d => Nat.rec (motive := fun _ => List (Option C)) (d :: r) (fun m _ => c :: ih m d) n) l
noncomputable def hpOf (cs : List (Option C)) : Hp := ⟨cs.length, atC cs⟩
noncomputable def Sx.st (s : Sx) : St := ⟨hpOf s.cs, lk s.lo⟩
noncomputable def Sx.put (s : Sx) (i : Nat) (v : V) : Sx := ⟨s.cs, Mine.st s.lo i v⟩
noncomputable def Sx.set (s : Sx) (i : Nat) (c : C) : Sx := ⟨setN s.cs i (some c), s.lo⟩
noncomputable def Sx.del (s : Sx) (i : Nat) : Sx := ⟨setN s.cs i none, s.lo⟩
noncomputable def Sx.new (s : Sx) (c : C) : Sx := ⟨s.cs ++ [some c], s.lo⟩
theorem hp_ext {a b : Hp} (h1 : a.next = b.next) (h2 : ∀ i, a.get i = b.get i) : a = b := by
  obtain ⟨n, f⟩ := a
  obtain ⟨m, g⟩ := b
  cases h1
  exact congrArg (Hp.mk n) (funext h2)
theorem setN_len {d : Option C} : ∀ {cs : List (Option C)} {i : Nat}, (setN cs i d).length = cs.length
  | [], _ => rfl
  | _ :: _, 0 => rfl
  | _ :: r, i + 1 => congrArg (· + 1) (setN_len (cs := r))
theorem atC_set {d : Option C} : ∀ {cs : List (Option C)} {i j : Nat}, i < cs.length → atC (setN cs i d) j = if j = i then d else atC cs j
  | [], i, j, h => absurd h (Nat.not_lt_zero _)
  | c :: r, 0, 0, _ => rfl
  | c :: r, 0, j + 1, _ => rfl
  | c :: r, i + 1, 0, _ => rfl
  | c :: r, i + 1, j + 1, h => (atC_set (cs := r) (Nat.lt_of_succ_lt_succ h)).trans (by
      show (if j = i then d else atC r j) = if j + 1 = i + 1 then d else atC r j
      by_cases e : j = i
      · rw [if_pos e, if_pos (congrArg (· + 1) e)]
      · rw [if_neg e, if_neg fun z => e (Nat.succ.inj z)])
theorem atC_ge : ∀ {cs : List (Option C)} {i : Nat}, cs.length ≤ i → atC cs i = none
  | [], _, _ => rfl
  | c :: r, 0, h => absurd h (Nat.not_succ_le_zero _)
  | c :: r, i + 1, h => atC_ge (cs := r) (Nat.le_of_succ_le_succ h)
theorem atC_lt {cs : List (Option C)} {i : Nat} {c : C} (h : atC cs i = some c) : i < cs.length := by
  by_cases q : i < cs.length
  · exact q
  · rw [atC_ge (Nat.le_of_not_lt q)] at h; cases h
theorem atC_new {d : Option C} : ∀ {cs : List (Option C)} {j : Nat}, atC (cs ++ [d]) j = if j = cs.length then d else atC cs j
  | [], 0 => rfl
  | [], j + 1 => rfl
  | c :: r, 0 => rfl
  | c :: r, j + 1 => (atC_new (cs := r)).trans (by
      show (if j = r.length then d else atC r j) = if j + 1 = r.length + 1 then d else atC r j
      by_cases e : j = r.length
      · rw [if_pos e, if_pos (congrArg (· + 1) e)]
      · rw [if_neg e, if_neg fun z => e (Nat.succ.inj z)])
theorem hp_set {cs : List (Option C)} {i : Nat} {c : C} (h : i < cs.length) : hpOf (setN cs i (some c)) = (hpOf cs).set i c := hp_ext setN_len fun j => atC_set h
theorem hp_del {cs : List (Option C)} {i : Nat} (h : i < cs.length) : hpOf (setN cs i none) = (hpOf cs).del i := hp_ext setN_len fun j => atC_set h
theorem hp_new {cs : List (Option C)} {c : C} : hpOf (cs ++ [some c]) = (hpOf cs).new c := hp_ext (by show (cs ++ [some c]).length = _; rw [List.length_append]; rfl) fun j => atC_new
theorem lk_upd {l : List (Nat × V)} {i : Nat} {v : V} : lk (st l i v) = upd (lk l) i v := by
  funext j
  induction l with
  | nil =>
    show cond (Nat.beq i j) (some v) none = if j = i then some v else none
    by_cases e : j = i
    · subst e; rw [if_pos rfl, Nat.beq_refl]; rfl
    · rw [if_neg e]
      cases q : Nat.beq i j with
      | true => exact absurd (Nat.eq_of_beq_eq_true q).symm e
      | false => rfl
  | cons p r ih =>
    show lk (cond (Nat.beq p.1 i) ((p.1, v) :: r) (p :: st r i v)) j = if j = i then some v else cond (Nat.beq p.1 j) (some p.2) (lk r j)
    have ih : lk (st r i v) j = if j = i then some v else lk r j := ih
    cases q : Nat.beq p.1 i with
    | true =>
      have e := Nat.eq_of_beq_eq_true q
      show cond (Nat.beq p.1 j) (some v) (lk r j) = _
      by_cases e2 : j = i
      · rw [if_pos e2, e2, e, Nat.beq_refl]; rfl
      · rw [if_neg e2]
        cases q2 : Nat.beq p.1 j with
        | true => exact absurd ((Nat.eq_of_beq_eq_true q2).symm.trans e) e2
        | false => rfl
    | false =>
      show cond (Nat.beq p.1 j) (some p.2) (lk (st r i v) j) = _
      rw [ih]
      cases q2 : Nat.beq p.1 j with
      | true =>
        have e2 : j ≠ i := fun z => by rw [← z, ← Nat.eq_of_beq_eq_true q2, Nat.beq_refl] at q; cases q
        rw [if_neg e2, if_neg e2]
      | false => rfl
theorem st_put {s : Sx} {i : Nat} {v : V} : (s.put i v).st = s.st.put i v := congrArg (St.mk _) lk_upd
theorem st_set {s : Sx} {i : Nat} {c : C} (h : i < s.cs.length) : (s.set i c).st = s.st.setH (s.st.H.set i c) := congrArg (St.mk · _) (hp_set h)
theorem st_del {s : Sx} {i : Nat} (h : i < s.cs.length) : (s.del i).st = s.st.setH (s.st.H.del i) := congrArg (St.mk · _) (hp_del h)
theorem st_new {s : Sx} {c : C} : (s.new c).st = s.st.setH (s.st.H.new c) := congrArg (St.mk · _) hp_new
/-- what a run ends in -/
noncomputable def post {α : Type} (r : Ox α) (Q : α → St → Prop) (E : EP) : Prop := match r with
  | .ok a s => Q a s.st
  | .ex j s => E j s.st
noncomputable def bx {α β : Type} (r : Option (Ox α)) (f : α → Sx → Option (Ox β)) : Option (Ox β) := Option.rec (motive := fun _ => Option (Ox β)) none (fun o => Ox.rec (motive := fun _ => Option (Ox β)) f (fun j s => some (.ex j s)) o) r
theorem stepX {α β : Type} {r : Option (Ox α)} {f : α → Sx → Option (Ox β)} {o : Ox β} (h : bx r f = some o) {W : (α → St → Prop) → EP → Prop} (ih : ∀ r', r = some r' → ∀ Q E, post r' Q E → W Q E)
    {Q : β → St → Prop} {E : EP} (hp : post o Q E) {Q' : α → St → Prop} (k : ∀ a s, f a s = some o → Q' a s.st) : W Q' E := by
  cases r with
  | none => cases h
  | some r =>
    cases r with
    | ok a s => exact ih _ rfl Q' E (k a s h)
    | ex j s => cases h; exact ih _ rfl Q' E hp
/-- a thing that must be there -/
noncomputable def ndX {α β : Type} (o : Option α) (f : α → Option β) : Option β := Option.rec (motive := fun _ => Option β) none f o
theorem nd_e {α β : Type} {o : Option α} {f : α → Option β} {b : β} {G : Prop} (h : ndX o f = some b) (g : ∀ a, o = some a → f a = some b → G) : G := by
  cases o with
  | none => cases h
  | some a => exact g a rfl h
noncomputable def ysX {β : Type} (b : Bool) (r : Option β) : Option β := cond b r none
theorem ys_e {β : Type} {c : Bool} {r : Option β} {b : β} {G : Prop} (h : ysX c r = some b) (g : c = true → r = some b → G) : G := by
  cases c with
  | true => exact g rfl h
  | false => cases h
theorem need_ii {α : Type} {o : Option α} {a : α} {k : α → Prop} (e : o = some a) (h : k a) : need o k := by subst e; exact h
/-! the same thing, looked at -/
mutual
noncomputable def veq : V → V → Bool
  | .none, y => (match y with | .none => true | _ => false)
  | .bool a, y => (match y with | .bool b => a == b | _ => false)
  | .int a, y => (match y with | .int b => decide (a = b) | _ => false)
  | .str a, y => (match y with | .str b => decide (a = b) | _ => false)
  | .tup a, y => (match y with | .tup b => veqs a b | _ => false)
  | .lst a, y => (match y with | .lst b => veqs a b | _ => false)
  | .ref a, y => (match y with | .ref b => Nat.beq a b | _ => false)
  | _, _ => false
noncomputable def veqs : List V → List V → Bool
  | [], y => y.isEmpty
  | a :: r, y => (match y with | b :: t => veq a b && veqs r t | [] => false)
end
mutual
theorem veq_ok : ∀ a b : V, veq a b = true → a = b
  | .none, b, h => by cases b <;> first | rfl | cases h
  | .bool a, b, h => by cases b <;> first | exact congrArg V.bool (beq_iff_eq.mp h) | cases h
  | .int a, b, h => by cases b <;> first | exact congrArg V.int (of_decide_eq_true h) | cases h
  | .str a, b, h => by cases b <;> first | exact congrArg V.str (of_decide_eq_true h) | cases h
  | .tup a, b, h => by cases b <;> first | exact congrArg V.tup (veqs_ok a _ h) | cases h
  | .lst a, b, h => by cases b <;> first | exact congrArg V.lst (veqs_ok a _ h) | cases h
  | .ref a, b, h => by cases b <;> first | exact congrArg V.ref (Nat.eq_of_beq_eq_true h) | cases h
  | .rng _ _ _, b, h => by cases h
  | .bt _, b, h => by cases h
  | .fn _, b, h => by cases h
  | .cls _, b, h => by cases h
theorem veqs_ok : ∀ a b : List V, veqs a b = true → a = b
  | [], b, h => by cases b <;> first | rfl | cases h
  | a :: r, b, h => by
    cases b with
    | nil => cases h
    | cons b t =>
      have h := (Bool.and_eq_true ..).mp h
      rw [veq_ok a b h.1, veqs_ok r t h.2]
end
end Mine

end

section
set_option autoImplicit false
set_option linter.all false
set_option genSizeOf false
set_option genInjectivity false
namespace Mine
open PySem (Str)
/-! operations, as answers -/
noncomputable def binX (op : BOp) (x y : V) : Option V := ndX (aInt x) fun a => ndX (aInt y) fun b => match op with
  | .add => some (.int (a + b))
  | .sub => some (.int (a - b))
  | .fdiv => ysX (!decide (b = 0) && Nat.blt b.natAbs 1073741824) (some (.int (Int.fdiv a b)))
  | .mod => ysX (!decide (b = 0)) (some (.int (Int.fmod a b)))
  | .pow => ysX (decide (0 ≤ b) && decide (b ≤ 64) && decide (0 ≤ a) && decide (a ≤ 16)) (some (.int (a ^ b.toNat)))
  | _ => none
theorem aInt_is {x : V} {a : Int} (h : aInt x = some a) : x = .int a := by
  cases x <;> first | (cases h; rfl) | cases h
theorem ndec {p : Prop} [Decidable p] (h : (!decide p) = true) : ¬ p := by
  intro q
  rw [decide_eq_true q] at h; cases h
theorem binX_ok {op : BOp} {x y v : V} {k : LV → Prop} (h : binX op x y = some v) (g : k (.val v)) : binK op x y k := by
  refine nd_e h fun a ea h => nd_e h fun b eb h => ?_
  cases op with
  | add => cases h; cases aInt_is ea; exact need_ii eb g
  | sub => cases h; exact need_ii ea (need_ii eb g)
  | fdiv =>
    refine ys_e h fun c h => ?_
    cases h
    have c := (Bool.and_eq_true ..).mp c
    exact need_ii ea (need_ii eb ⟨⟨ndec c.1, Nat.blt_eq.mp c.2⟩, g⟩)
  | mod => exact ys_e h fun c h => by cases h; exact need_ii ea (need_ii eb ⟨ndec c, g⟩)
  | pow =>
    refine ys_e h fun c h => ?_
    cases h
    have c := (Bool.and_eq_true ..).mp c
    have c1 := (Bool.and_eq_true ..).mp c.1
    have c2 := (Bool.and_eq_true ..).mp c1.1
    exact need_ii ea (need_ii eb ⟨⟨of_decide_eq_true c2.1, of_decide_eq_true c2.2, of_decide_eq_true c1.2, of_decide_eq_true c.2⟩, g⟩)
  | _ => cases h
noncomputable def anyX (H : Hp) (a : V) (xs : List V) : Option Bool := ndX (deep H a) fun y => ndX (deepL (deepN H 11) xs) fun ys => some (ys.any fun z => eqD z y)
theorem anyX_ok {H : Hp} {a : V} {xs : List V} {b : Bool} {k : Bool → Prop} (h : anyX H a xs = some b) (g : k b) : cmpK.anyK H a xs k :=
  nd_e h fun y e h => nd_e h fun ys e' h => by cases h; exact need_ii e (need_ii e' g)
noncomputable def inX (H : Hp) (a b : V) : Option Bool := match b with
  | .ref i => (match H.get i with
    | some (.list xs) => anyX H a xs
    | some (.dict kvs) => ysX (keyOk (dKeys kvs) a) (some ((dKeys kvs).any fun z => eqD z a))
    | _ => none)
  | .lst xs => anyX H a xs
  | .tup xs => anyX H a xs
  | _ => none
theorem inX_ok {H : Hp} {a b : V} {r : Bool} {k : Bool → Prop} (h : inX H a b = some r) (g : k r) : cmpK.inK H a b k := by
  cases b with
  | ref i =>
    have h : (match H.get i with | some (.list xs) => anyX H a xs | some (.dict kvs) => ysX (keyOk (dKeys kvs) a) (some ((dKeys kvs).any fun z => eqD z a)) | _ => none) = some r := h
    show (match H.get i with | some (.list xs) => cmpK.anyK H a xs k | some (.dict kvs) => Nd (keyOk (dKeys kvs) a = true) (k ((dKeys kvs).any fun z => eqD z a)) | _ => False)
    cases q : H.get i with
    | none => rw [q] at h; cases h
    | some c =>
      rw [q] at h
      cases c with
      | list xs => exact anyX_ok h g
      | dict kvs => exact ys_e h fun c h => by cases h; exact ⟨c, g⟩
      | _ => cases h
  | lst xs => exact anyX_ok h g
  | tup xs => exact anyX_ok h g
  | _ => cases h
noncomputable def isX (a b : V) : Option Bool := match b with
  | .none => ysX (solid a) (some (isNone a))
  | .bool c => ysX (solid a) (some (isB c a))
  | _ => none
theorem isX_ok {a b : V} {r : Bool} {k : Bool → Prop} (h : isX a b = some r) (g : k r) : isK a b k := by
  cases b with
  | none => exact ys_e h fun c h => by cases h; exact ⟨c, g⟩
  | bool c => exact ys_e h fun c h => by cases h; exact ⟨c, g⟩
  | _ => cases h
noncomputable def ltX (e : Bool) (x y : V) : Option Bool := match x with
  | .int a => ndX (aInt y) fun b => some (cmpI e a b)
  | .tup xs => ndX (aPr (.tup xs)) fun p => ndX (aPr y) fun q => some (prI (cmpI e) e p.1 p.2 q.1 q.2)
  | _ => none
theorem ltX_ok {e : Bool} {x y : V} {r : Bool} {k : Bool → Prop} (h : ltX e x y = some r) (g : k r) : ltK e x y k := by
  cases x with
  | int a => exact nd_e h fun b eb h => by cases h; exact need_ii eb g
  | tup xs => exact nd_e h fun p ep h => nd_e h fun q eq h => by cases h; exact need_ii ep (need_ii eq g)
  | _ => cases h
noncomputable def lt2 (H : Hp) (e : Bool) (a b : V) : Option Bool := ndX (see H a) fun x => ndX (see H b) fun y => ltX e x y
noncomputable def cmpX (H : Hp) (op : COp) (a b : V) : Option Bool := match op with
  | .eq => ndX (deep H a) fun x => ndX (deep H b) fun y => some (eqD x y)
  | .ne => ndX (deep H a) fun x => ndX (deep H b) fun y => some (!eqD x y)
  | .lt => lt2 H false a b
  | .le => lt2 H true a b
  | .gt => lt2 H false b a
  | .ge => lt2 H true b a
  | .isIn => inX H a b
  | .notIn => ndX (inX H a b) fun r => some (!r)
  | .is => isX a b
  | .isNot => ndX (isX a b) fun r => some (!r)
theorem cmpX_ok {H : Hp} {op : COp} {a b : V} {r : Bool} {k : Bool → Prop} (h : cmpX H op a b = some r) (g : k r) : cmpK H op a b k := by
  cases op with
  | eq => exact nd_e h fun x ex h => nd_e h fun y ey h => by cases h; exact need_ii ex (need_ii ey g)
  | ne => exact nd_e h fun x ex h => nd_e h fun y ey h => by cases h; exact need_ii ex (need_ii ey g)
  | lt => exact nd_e h fun x ex h => nd_e h fun y ey h => need_ii ex (need_ii ey (ltX_ok h g))
  | le => exact nd_e h fun x ex h => nd_e h fun y ey h => need_ii ex (need_ii ey (ltX_ok h g))
  | gt => exact nd_e h fun x ex h => nd_e h fun y ey h => need_ii ey (need_ii ex (ltX_ok h g))
  | ge => exact nd_e h fun x ex h => nd_e h fun y ey h => need_ii ey (need_ii ex (ltX_ok h g))
  | isIn => exact inX_ok h g
  | notIn => exact nd_e h fun c e h => by cases h; exact inX_ok (k := fun r => k (!r)) e g
  | is => exact isX_ok h g
  | isNot => exact nd_e h fun c e h => by cases h; exact isX_ok (k := fun r => k (!r)) e g
noncomputable def truX (H : Hp) (v : V) : Option Bool := ndX (see H v) fun x => match x with
  | .none => some false
  | .bool b => some b
  | .int i => some (decide (i ≠ 0))
  | .str s => some (decide (s.length ≠ 0))
  | .tup xs => some (!xs.isEmpty)
  | .lst xs => some (!xs.isEmpty)
  | _ => none
theorem truX_ok {H : Hp} {v : V} {r : Bool} {k : Bool → Prop} (h : truX H v = some r) (g : k r) : truK H v k :=
  nd_e h fun x e h => need_ii e (by cases x <;> first | (cases h; exact g) | cases h)
noncomputable def atX (xs : List V) (i : Int) : Option V := ndX (pyIdx i xs.length) fun n => xs[n]?
noncomputable def idx0 (x y : V) : Option V := ndX (aInt y) fun i => match x with
  | .lst xs => atX xs i
  | .tup xs => atX xs i
  | _ => none
theorem idx0_ok {x y v : V} {k : V → Prop} (h : idx0 x y = some v) (g : k v) : idxK x y k :=
  nd_e h fun i e h => need_ii e (by
    cases x with
    | lst xs => exact nd_e h fun n en h => need_ii en (need_ii h g)
    | tup xs => exact nd_e h fun n en h => need_ii en (need_ii h g)
    | _ => cases h)
noncomputable def idxX (H : Hp) (a b : V) : Option V := match aRef a with
  | some i => (match H.get i with
    | some (.list xs) => idx0 (.lst xs) b
    | some (.dict kvs) => ysX (keyOk (dKeys kvs) b) (dGet kvs b)
    | _ => none)
  | none => idx0 a b
theorem idxX_ok {H : Hp} {a b v : V} {k : V → Prop} (h : idxX H a b = some v) (g : k v) : idxH H a b k := by
  have h : (match aRef a with | some i => (match H.get i with | some (.list xs) => idx0 (.lst xs) b | some (.dict kvs) => ysX (keyOk (dKeys kvs) b) (dGet kvs b) | _ => none) | none => idx0 a b) = some v := h
  show (match aRef a with | some i => (match H.get i with | some (.list xs) => idxK (.lst xs) b k | some (.dict kvs) => Nd (keyOk (dKeys kvs) b = true) (need (dGet kvs b) k) | _ => False) | none => idxK a b k)
  cases q : aRef a with
  | none => rw [q] at h; exact idx0_ok h g
  | some i =>
    rw [q] at h
    have h : (match H.get i with | some (.list xs) => idx0 (.lst xs) b | some (.dict kvs) => ysX (keyOk (dKeys kvs) b) (dGet kvs b) | _ => none) = some v := h
    show (match H.get i with | some (.list xs) => idxK (.lst xs) b k | some (.dict kvs) => Nd (keyOk (dKeys kvs) b = true) (need (dGet kvs b) k) | _ => False)
    cases q2 : H.get i with
    | none => rw [q2] at h; cases h
    | some c =>
      rw [q2] at h
      cases c with
      | list xs => exact idx0_ok h g
      | dict kvs => exact ys_e h fun c h => ⟨c, need_ii h g⟩
      | _ => cases h
noncomputable def slX (x : V) (lo hi : Option Int) : Option LV := ysX (notNeg lo && notNeg hi) (match x with
  | .lst xs => some (.newList (slL xs lo hi))
  | .tup xs => ndX (slT xs lo hi) fun ys => some (.val (.tup ys))
  | _ => none)
theorem slX_ok {x : V} {lo hi : Option Int} {r : LV} {k : LV → Prop} (h : slX x lo hi = some r) (g : k r) : slK x lo hi k :=
  ys_e h fun c h => by
    have c := (Bool.and_eq_true ..).mp c
    refine ⟨c.1, c.2, ?_⟩
    cases x with
    | lst xs => cases h; exact g
    | tup xs => exact nd_e h fun ys e h => by cases h; exact need_ii e g
    | _ => cases h
noncomputable def callBX (P : Prog) (H : Hp) (b : B) (as : List V) : Option LV := match as with
  | [v] => (match b with
    | .len => ndX (lenH H v) fun n => some (.val (.int n))
    | .list => ndX (see H v) fun x => ndX (itV x) fun xs => some (.newList xs)
    | .range => ndX (see H v) fun x => ndX (aInt x) fun n => ysX (Nat.ble n.natAbs SZ) (some (.val (.rng 0 n 1)))
    | _ => none)
  | [v, w] => (match b with
    | .isinstance => ndX (kind H v) fun q => ndX (isi1 P q w) fun r => some (.val (.bool r))
    | .max => ndX (see H v) fun x => ndX (see H w) fun y => ndX (aInt x) fun a => ndX (aInt y) fun b => some (.val (.int (if b > a then b else a)))
    | .min => ndX (see H v) fun x => ndX (see H w) fun y => ndX (aInt x) fun a => ndX (aInt y) fun b => some (.val (.int (if b < a then b else a)))
    | _ => none)
  | _ => none
theorem callBX_ok {P : Prog} {H : Hp} {b : B} {as : List V} {r : LV} {k : LV → Prop} (h : callBX P H b as = some r) (g : k r) : callB P H b as k := by
  match as, h with
  | [v], h =>
    cases b with
    | len => exact nd_e h fun n e h => by cases h; exact need_ii e g
    | list => exact nd_e h fun x e h => nd_e h fun xs e' h => by cases h; exact need_ii e (need_ii e' g)
    | range => exact nd_e h fun x e h => nd_e h fun n e' h => ys_e h fun c h => by cases h; exact need_ii e (need_ii e' ⟨Nat.le_of_ble_eq_true c, g⟩)
    | _ => cases h
  | [v, w], h =>
    cases b with
    | isinstance => exact nd_e h fun q e h => nd_e h fun x e' h => by cases h; exact need_ii e (need_ii e' g)
    | max => exact nd_e h fun x e h => nd_e h fun y e' h => nd_e h fun i e2 h => nd_e h fun j e3 h => by cases h; exact need_ii e (need_ii e' (need_ii e2 (need_ii e3 g)))
    | min => exact nd_e h fun x e h => nd_e h fun y e' h => nd_e h fun i e2 h => nd_e h fun j e3 h => by cases h; exact need_ii e (need_ii e' (need_ii e2 (need_ii e3 g)))
    | _ => cases h
/-- a made value is handed on -/
noncomputable def giveX (fz : Bool) (s : Sx) : LV → Option (Ox V)
  | .val v => some (.ok v s)
  | .newList xs => ysX (Nat.ble xs.length SZ) (cond fz (some (.ok (.lst xs) s)) (some (.ok (.ref s.cs.length) (s.new (.list xs)))))
theorem giveX_ok {fz : Bool} {s : Sx} {r : LV} {o : Ox V} {Q : V → St → Prop} {E : EP} (h : giveX fz s r = some o) (g : post o Q E) : give fz s.st Q r := by
  cases r with
  | val v => cases h; exact g
  | newList xs =>
    refine ys_e h fun c h => ⟨Nat.le_of_ble_eq_true c, ?_⟩
    cases fz with
    | true => cases h; exact g
    | false => cases h; exact st_new ▸ g
noncomputable def giveVX (fz : Bool) (s : Sx) (v : V) : Option (Ox V) := cond fz (match aRef v with
    | some i => (match cL (atC s.cs i) with | some xs => some (.ok (.lst xs) (s.del i)) | none => some (.ok v s))
    | none => some (.ok v s)) (some (.ok v s))
theorem cL_lt {cs : List (Option C)} {i : Nat} {xs : List V} (h : cL (atC cs i) = some xs) : i < cs.length := by
  cases q : atC cs i with
  | none => rw [q] at h; cases h
  | some c => exact atC_lt q
theorem giveVX_ok {fz : Bool} {s : Sx} {v : V} {o : Ox V} {Q : V → St → Prop} {E : EP} (h : giveVX fz s v = some o) (g : post o Q E) : giveV fz s.st Q v := by
  cases fz with
  | false => cases h; exact g
  | true =>
    have h : (match aRef v with | some i => (match cL (atC s.cs i) with | some xs => some (Ox.ok (.lst xs) (s.del i)) | none => some (.ok v s)) | none => some (.ok v s)) = some o := h
    show (match aRef v with | some i => (match cL (s.st.H.get i) with | some xs => Q (.lst xs) (s.st.setH (s.st.H.del i)) | none => Q v s.st) | none => Q v s.st)
    cases q : aRef v with
    | none => rw [q] at h; cases h; exact g
    | some i =>
      rw [q] at h
      have h : (match cL (atC s.cs i) with | some xs => some (Ox.ok (.lst xs) (s.del i)) | none => some (.ok v s)) = some o := h
      show (match cL (atC s.cs i) with | some xs => Q (.lst xs) (s.st.setH (s.st.H.del i)) | none => Q v s.st)
      cases q2 : cL (atC s.cs i) with
      | none => rw [q2] at h; cases h; exact g
      | some xs => rw [q2] at h; cases h; exact st_del (cL_lt q2) ▸ g
end Mine

end

section
set_option autoImplicit false
set_option linter.all false
set_option genSizeOf false
set_option genInjectivity false
namespace Mine
open PySem (Str)
noncomputable def methLX (P : Prog) (s : Sx) (i n : Nat) (as : List V) (xs : List V) : Option (Ox V) := ndX (one as) fun a =>
  cond (Nat.beq n P.nAppend) (ysX (Nat.blt xs.length SZ) (some (.ok .none (s.set i (.list (xs ++ [a])))))) <|
  cond (Nat.beq n P.nPop) (ndX (aInt a) fun k => ndX (pyIdx k xs.length) fun j => ndX xs[j]? fun v => some (.ok v (s.set i (.list (xs.take j ++ xs.drop (j + 1)))))) none
theorem Br_y {b : Bool} {t e : Prop} (q : b = true) (h : t) : Br b t e := by subst q; exact h
theorem Br_n {b : Bool} {t e : Prop} (q : b = false) (h : e) : Br b t e := by subst q; exact h
theorem cond_x {α : Type} {b : Bool} {x y z : α} {G : Prop} (h : cond b x y = z) (g1 : b = true → x = z → G) (g2 : b = false → y = z → G) : G := by
  cases b with
  | true => exact g1 rfl h
  | false => exact g2 rfl h
theorem methLX_ok {P : Prog} {s : Sx} {i n : Nat} {as xs : List V} {o : Ox V} {Q : V → St → Prop} {E : EP} (hi : i < s.cs.length) (h : methLX P s i n as xs = some o) (g : post o Q E) : methL P s.st i n as xs Q :=
  nd_e h fun a e h => need_ii e (cond_x h (fun c h => Br_y c (ys_e h fun c h => ⟨Nat.blt_eq.mp c, by cases h; exact st_set hi ▸ g⟩)) fun c h => Br_n c (cond_x h (fun c h => Br_y c (nd_e h fun k ek h => need_ii ek (nd_e h fun j ej h => need_ii ej (nd_e h fun v ev h => need_ii ev (by cases h; exact st_set hi ▸ g))))) fun _ h => nomatch h))
noncomputable def methDX (s : Sx) (as : List V) (kvs : List (V × V)) : Option (Ox V) := ndX (keyD as) fun t => ysX (keyOk (dKeys kvs) t.1) (some (.ok ((dGet kvs t.1).getD t.2) s))
theorem methDX_ok {P : Prog} {s : Sx} {i n : Nat} {as : List V} {kvs : List (V × V)} {o : Ox V} {Q : V → St → Prop} {E : EP} (h : methDX s as kvs = some o) (g : post o Q E) : methD P s.st i n as kvs Q :=
  nd_e h fun t e h => need_ii e (ys_e h fun c h => ⟨c, by cases h; exact g⟩)
noncomputable def putAX (P : Prog) (a : V) (n : Nat) (v : V) (s : Sx) : Option Sx := ndX (aRef a) fun i => ndX (cI (atC s.cs i)) fun t => ndX (P.cls t.1) fun c => ysX (c.attrs.contains n && Nat.blt t.2.length 1000) (some (s.set i (.inst t.1 (Mine.st t.2 n v))))
theorem cI_lt {cs : List (Option C)} {i : Nat} {t : Nat × List (Nat × V)} (h : cI (atC cs i) = some t) : i < cs.length := by
  cases q : atC cs i with
  | none => rw [q] at h; cases h
  | some c => exact atC_lt q
theorem putAX_ok {P : Prog} {a v : V} {n : Nat} {s s' : Sx} {Q : St → Prop} (h : putAX P a n v s = some s') (g : Q s'.st) : putA P a n v s.st Q :=
  nd_e h fun i ei h => nd_e h fun t et h => nd_e h fun c ec h => ys_e h fun b h => by
    have b := (Bool.and_eq_true ..).mp b
    cases h
    exact need_ii ei (need_ii et (need_ii ec ⟨b.1, Nat.blt_eq.mp b.2, st_set (cI_lt et) ▸ g⟩))
noncomputable def bindGoX : List Nat → List V → Sx → Option Sx
  | [], ys, s => (match ys with | [] => some s | _ => none)
  | i :: is, ys, s => (match ys with | x :: xs => bindGoX is xs (s.put i x) | [] => none)
theorem bindGoX_ok {K : St → Prop} : ∀ {is : List Nat} {ys : List V} {s s' : Sx}, bindGoX is ys s = some s' → K s'.st → bindGo is ys s.st K
  | [], [], s, s', h, g => by cases h; exact g
  | [], _ :: _, s, s', h, g => by cases h
  | i :: is, [], s, s', h, g => by cases h
  | i :: is, x :: xs, s, s', h, g => by
    have := bindGoX_ok (K := K) (is := is) (ys := xs) (s := s.put i x) h g
    rw [st_put] at this; exact this
noncomputable def bindTX (ts : List Nat) (v : V) (s : Sx) : Option Sx := match ts with
  | [i] => some (s.put i v)
  | ts => ndX (aTup v) fun xs => bindGoX ts xs s
theorem bindTX_ok {K : St → Prop} {ts : List Nat} {v : V} {s s' : Sx} (h : bindTX ts v s = some s') (g : K s'.st) : bindT ts v s.st K := by
  match ts, h with
  | [], h => exact nd_e h fun xs e h => need_ii e (bindGoX_ok h g)
  | [i], h => cases h; show K (s.st.put i v); rw [← st_put]; exact g
  | i :: j :: r, h => exact nd_e h fun xs e h => need_ii e (bindGoX_ok h g)
/-- no exception -/
noncomputable def okX {α : Type} (r : Option (Ox α)) : Option (α × Sx) := match r with
  | some (.ok a s) => some (a, s)
  | _ => none
theorem okX_e {α : Type} {r : Option (Ox α)} {p : α × Sx} (h : okX r = some p) : r = some (.ok p.1 p.2) := by
  match r, h with
  | some (.ok a s), h => cases h; rfl
noncomputable def stillX (v : V) (xs : List V) (s : Sx) : Bool := match items (hpOf s.cs) v with
  | some ys => veqs ys xs
  | none => false
theorem stillX_ok {v : V} {xs : List V} {s : Sx} (h : stillX v xs s = true) : still v xs s.st.H := by
  have h : (match items (hpOf s.cs) v with | some ys => veqs ys xs | none => false) = true := h
  show items (hpOf s.cs) v = some xs
  cases q : items (hpOf s.cs) v with
  | none => rw [q] at h; cases h
  | some ys => rw [q] at h; rw [veqs_ok ys xs h]
noncomputable def compX (tst : Sx → Option (Ox Bool)) (elt : Sx → Option (Ox V)) (ts : List Nat) (chk : Sx → Bool) : List V → List V → Sx → Option (List V × Sx)
  | [], acc, s => ysX (chk s && Nat.ble acc.length SZ) (some (acc, s))
  | v :: vs, acc, s => ysX (chk s && Nat.blt acc.length SZ) (ndX (bindTX ts v s) fun s₁ => ndX (okX (tst s₁)) fun p => cond p.1 (ndX (okX (elt p.2)) fun q => compX tst elt ts chk vs (acc ++ [q.1]) q.2) (compX tst elt ts chk vs acc p.2))
noncomputable def RunOk {α : Type} (f : Sx → Option (Ox α)) (w : St → (α → St → Prop) → Prop) : Prop := ∀ s a s', f s = some (.ok a s') → ∀ Q : α → St → Prop, Q a s'.st → w s.st Q
theorem compX_ok {tst : Sx → Option (Ox Bool)} {elt : Sx → Option (Ox V)} {ts : List Nat} {chk : Sx → Bool} {t : St → (Bool → St → Prop) → Prop} {el : St → (V → St → Prop) → Prop} {ck : Hp → Prop}
    (ht : RunOk tst t) (he : RunOk elt el) (hc : ∀ s, chk s = true → ck s.st.H) {Q : List V → St → Prop} : ∀ {xs acc : List V} {s : Sx} {ys : List V} {s' : Sx}, compX tst elt ts chk xs acc s = some (ys, s') → Q ys s'.st → compGo t el ts ck xs acc s.st Q
  | [], acc, s, ys, s', h, g => ys_e h fun c h => by
    have c := (Bool.and_eq_true ..).mp c
    cases h
    exact ⟨hc _ c.1, Nat.le_of_ble_eq_true c.2, g⟩
  | v :: vs, acc, s, ys, s', h, g => ys_e h fun c h => by
    have c := (Bool.and_eq_true ..).mp c
    refine ⟨hc _ c.1, Nat.blt_eq.mp c.2, nd_e h fun s₁ e₁ h => bindTX_ok e₁ (nd_e h fun p ep h => ht _ _ _ (okX_e ep) _ ?_)⟩
    exact cond_x h (fun c h => Br_y c (nd_e h fun q eq h => he _ _ _ (okX_e eq) _ (compX_ok ht he hc h g))) fun c h => Br_n c (compX_ok ht he hc h g)
noncomputable def loopX (turn : V → Sx → Option (Ox Flow)) (chk : Sx → Bool) : List V → Sx → Option (Ox Flow)
  | [], s => ysX (chk s) (some (.ok .next s))
  | v :: vs, s => ysX (chk s) (ndX (okX (turn v s)) fun p => match p.1 with
    | .next => loopX turn chk vs p.2
    | .cont => loopX turn chk vs p.2
    | .brk => some (.ok .next p.2)
    | .ret r => some (.ok (.ret r) p.2))
theorem loopX_ok {turn : V → Sx → Option (Ox Flow)} {chk : Sx → Bool} {t : V → St → (Flow → St → Prop) → Prop} {ck : Hp → Prop} (ht : ∀ v, RunOk (turn v) (t v)) (hc : ∀ s, chk s = true → ck s.st.H) {Q : Flow → St → Prop} {E : EP} :
    ∀ {xs : List V} {s : Sx} {o : Ox Flow}, loopX turn chk xs s = some o → post o Q E → loopGo t ck xs s.st Q
  | [], s, o, h, g => ys_e h fun c h => by cases h; exact ⟨hc _ c, g⟩
  | v :: vs, s, o, h, g => ys_e h fun c h => ⟨hc _ c, nd_e h fun p ep h => ht v _ _ _ (okX_e ep) _ (by
      obtain ⟨fl, s₁⟩ := p
      cases fl with
      | next => exact loopX_ok ht hc (o := o) h g
      | cont => exact loopX_ok ht hc (o := o) h g
      | brk => cases h; exact g
      | ret r => cases h; exact g)⟩
noncomputable def whileX (tst : Sx → Option (Ox Bool)) (body : Sx → Option (Ox Flow)) : Nat → Sx → Option (Ox Flow)
  | 0, _ => none
  | n + 1, s => ndX (okX (tst s)) fun p => cond p.1 (ndX (okX (body p.2)) fun q => match q.1 with
    | .next => whileX tst body n q.2
    | .cont => whileX tst body n q.2
    | .brk => some (.ok .next q.2)
    | .ret r => some (.ok (.ret r) q.2)) (some (.ok .next p.2))
theorem whileX_ok {tst : Sx → Option (Ox Bool)} {body : Sx → Option (Ox Flow)} {t : St → (Bool → St → Prop) → Prop} {b : St → (Flow → St → Prop) → Prop} (ht : RunOk tst t) (hb : RunOk body b) {Q : Flow → St → Prop} {E : EP} :
    ∀ {n : Nat} {s : Sx} {o : Ox Flow}, whileX tst body n s = some o → post o Q E → whileGo t b n s.st Q
  | 0, s, o, h, g => by cases h
  | n + 1, s, o, h, g => nd_e h fun p ep h => ht _ _ _ (okX_e ep) _ (cond_x h (fun c h => Br_y c (nd_e h fun q eq h => hb _ _ _ (okX_e eq) _ (by
      obtain ⟨fl, s₁⟩ := q
      cases fl with
      | next => exact whileX_ok ht hb (o := o) h g
      | cont => exact whileX_ok ht hb (o := o) h g
      | brk => cases h; exact g
      | ret r => cases h; exact g))) fun c h => Br_n c (by cases h; exact g))
end Mine

end

section
set_option autoImplicit false
set_option linter.all false
set_option genSizeOf false
set_option genInjectivity false
namespace Mine
open PySem (Str)
/-! A text is run on laid-out states: by the recursors, so that the kernel runs it fast. -/
abbrev Cf := Nat → List V → List (Option C) → Option (Ox V)
abbrev R1 := Sx → Option (Ox V)
abbrev RB := Sx → Option (Ox Bool)
abbrev RF := Sx → Option (Ox Flow)
abbrev RL := Sx → Option (Ox (List V))
structure R2 where
  es : RL
  nl : Bool
  va : R1
  vo : R1
structure R6 where
  al : RB
  an : RB
/-- a call's end, seen from the caller -/
noncomputable def backX (s : Sx) (r : Option (Ox V)) (f : V → Sx → Option (Ox V)) : Option (Ox V) := Option.rec (motive := fun _ => Option (Ox V)) none (fun o => Ox.rec (motive := fun _ => Option (Ox V)) (fun v s' => f v ⟨s'.cs, s.lo⟩) (fun j s' => some (.ex j ⟨s'.cs, s.lo⟩)) o) r
noncomputable def callFX (P : Prog) (call : Cf) (fz : Bool) (s : Sx) (f : V) (as : List V) : Option (Ox V) := match f with
  | .bt b => ndX (callBX P (hpOf s.cs) b as) (giveX fz s)
  | .fn k => backX s (call k as s.cs) fun v s' => giveVX fz s' v
  | .cls k => ndX (P.cls k) fun c => ndX c.init fun g => backX s (call g (.ref s.cs.length :: as) (s.cs ++ [some (.inst k [])])) fun v s' => ysX (isNone v) (some (.ok (.ref s.cs.length) s'))
  | _ => none
noncomputable def augX (op : BOp) (a b : V) : Option V := match op with
  | .add => ndX (aInt a) fun x => ndX (aInt b) fun y => some (.int (x + y))
  | _ => none
noncomputable def asX (as : Option Nat) (j : Nat) (s : Sx) : Sx := match as with
  | some n => s.put n (.ref j)
  | none => s
noncomputable def rmX (l : List (Nat × V)) (n : Nat) : List (Nat × V) := l.filter fun p => !Nat.beq p.1 n
noncomputable def unX (as : Option Nat) (s : Sx) : Sx := match as with
  | some n => ⟨s.cs, rmX s.lo n⟩
  | none => s
noncomputable def rmsX (l : List (Nat × V)) (ts : List Nat) : List (Nat × V) := l.filter fun p => !(ts.contains p.1)
noncomputable def enX (fl : Flow) (s : Sx) (f : RF) : Option (Ox Flow) := match fl with
  | .next => f s
  | fl => some (.ok fl s)
noncomputable def meX (P : Prog) (call : Cf) (fz : Bool) (n : Nat) (as : RL) (i : Nat) (s : Sx) : Option (Ox V) := match atC s.cs i with
  | some (.inst k _) => ndX (P.cls k) fun c => ndX (lk c.meths n) fun f => bx (as s) fun vs s₂ => callFX P call fz s₂ (.fn f) (.ref i :: vs)
  | some (.list _) => ysX (Nat.beq n P.nAppend || (Nat.beq n P.nPop || Nat.beq n P.nExtend)) (bx (as s) fun vs s₂ => ndX (cL (atC s₂.cs i)) fun xs => methLX P s₂ i n vs xs)
  | some (.dict _) => ysX (Nat.beq n P.nGet) (bx (as s) fun vs s₂ => ndX (cD (atC s₂.cs i)) fun kvs => methDX s₂ vs kvs)
  | _ => none
noncomputable def yNo : R1 := fun _ => none
noncomputable def yCst (v : V) : R1 := fun s => some (.ok v s)
noncomputable def yLoc (i : Nat) : R1 := fun s => ndX (lk s.lo i) fun v => some (.ok v s)
noncomputable def yGlob (P : Prog) (i : Nat) : R1 := fun s => ndX (P.glob i) fun v => some (.ok v s)
noncomputable def yAttr (n : Nat) (f : R1) : R1 := fun s => bx (f s) fun o s₁ => ndX (aRef o) fun i => ndX (cI (atC s₁.cs i)) fun t => ndX (lk t.2 n) fun v => some (.ok v s₁)
noncomputable def yBin (op : BOp) (f g : R1) : R1 := fun s => bx (f s) fun a s₁ => bx (g s₁) fun b s₂ => ndX (see (hpOf s₂.cs) a) fun x => ndX (see (hpOf s₂.cs) b) fun y => ndX (binX op x y) fun v => some (.ok v s₂)
noncomputable def yNeg (f : R1) : R1 := fun s => bx (f s) fun a s₁ => ndX (aInt a) fun i => some (.ok (.int (-i)) s₁)
noncomputable def yNot (f : R1) : R1 := fun s => bx (f s) fun v s₁ => ndX (truX (hpOf s₁.cs) v) fun b => some (.ok (.bool (!b)) s₁)
noncomputable def yCmp (op : COp) (f g : R1) : R1 := fun s => bx (f s) fun a s₁ => bx (g s₁) fun b s₂ => ndX (cmpX (hpOf s₂.cs) op a b) fun c => some (.ok (.bool c) s₂)
noncomputable def yCmp2 (o₁ o₂ : COp) (f g h : R1) : R1 := fun s => bx (f s) fun a s₁ => bx (g s₁) fun b s₂ => ndX (cmpX (hpOf s₂.cs) o₁ a b) fun c => cond c
      (bx (h s₂) fun d s₃ => ndX (cmpX (hpOf s₃.cs) o₂ b d) fun c => some (.ok (.bool c) s₃)) (some (.ok (.bool false) s₂))
noncomputable def yIte (t : RB) (f g : R1) : R1 := fun s => bx (t s) fun c s₁ => cond c (f s₁) (g s₁)
noncomputable def yList (fz : Bool) (r : R2) : R1 := fun s => bx (r.es s) fun vs s₁ => giveX fz s₁ (.newList vs)
noncomputable def yTup (r : R2) : R1 := fun s => bx (r.es s) fun vs s₁ => ysX (Nat.ble vs.length SZ) (some (.ok (.tup vs) s₁))
noncomputable def yDict (b : Bool) : R1 := fun s => ysX b (some (.ok (.ref s.cs.length) (s.new (.dict []))))
noncomputable def yIdx (f g : R1) : R1 := fun s => bx (f s) fun a s₁ => bx (g s₁) fun b s₂ => ndX (idxX (hpOf s₂.cs) a b) fun v => some (.ok v s₂)
noncomputable def ySl (fz : Bool) (f : R1) (lo hi : Sx → Option (Ox (Option V))) : R1 := fun s => bx (f s) fun a s₁ => bx (lo s₁) fun l s₂ => bx (hi s₂) fun h s₃ => ndX (optI l) fun l => ndX (optI h) fun h => ndX (see (hpOf s₃.cs) a) fun x => ndX (slX x l h) (giveX fz s₃)
noncomputable def yCall (P : Prog) (call : Cf) (fz : Bool) (f : R1) (r : R2) : R1 := fun s => bx (f s) fun g s₁ => bx (r.es s₁) fun vs s₂ => callFX P call fz s₂ g vs
noncomputable def ySu (P : Prog) (fz : Bool) (i j : Nat) (f g : R1) : R1 := fun s => ndX (P.glob i) fun w => ysX (isSrt w) (ndX (P.glob j) fun w => ysX (isSetB w) (bx (f s) fun a s₁ => ndX (see (hpOf s₁.cs) a) fun p => ndX (aLst p) fun p => ndX (intsOf p) fun l => ysX (Nat.blt l.length 64) (bx (g s₁) fun b s₂ => ndX (see (hpOf s₂.cs) b) fun q => ndX (aLst q) fun q => ndX (intsOf q) fun m => ysX (Nat.blt m.length 64) (ysX (uniK l m) (giveX fz s₂ (.newList ((mkSet (l ++ m)).map .int)))))))
noncomputable def yMeth (P : Prog) (call : Cf) (fz : Bool) (n : Nat) (f : R1) (r : R2) : R1 := fun s => bx (f s) fun a s₁ => ndX (aRef a) fun i => meX P call fz n r.es i s₁
noncomputable def yComp (fz : Bool) (ts : List Nat) (elt it : R1) (cd : RB) : R1 := fun s => bx (it s) fun v s₁ => ndX (items (hpOf s₁.cs) v) fun xs => ndX (compX cd elt ts (stillX v xs) xs [] ⟨s₁.cs, rmsX s₁.lo ts⟩) fun p => giveX fz ⟨p.2.cs, s₁.lo⟩ (.newList p.1)
noncomputable def yNil : R2 := ⟨fun s => some (.ok [] s), true, yNo, yNo⟩
noncomputable def yCons (f : R1) (r : R2) : R2 where
  es := fun s => bx (f s) fun v s₁ => bx (r.es s₁) fun vs s₂ => some (.ok (v :: vs) s₂)
  nl := false
  va := fun s => bx (f s) fun v s₁ => cond r.nl (some (.ok v s₁)) (ndX (truX (hpOf s₁.cs) v) fun b => cond b (r.va s₁) (some (.ok v s₁)))
  vo := fun s => bx (f s) fun v s₁ => cond r.nl (some (.ok v s₁)) (ndX (truX (hpOf s₁.cs) v) fun b => cond b (some (.ok v s₁)) (r.vo s₁))
noncomputable def yO0 : Sx → Option (Ox (Option V)) := fun s => some (.ok none s)
noncomputable def yO1 (f : R1) : Sx → Option (Ox (Option V)) := fun s => bx (f s) fun v s₁ => some (.ok (some v) s₁)
noncomputable def yTe (f : R1) : RB := fun s => bx (f s) fun v s₁ => ndX (truX (hpOf s₁.cs) v) fun b => some (.ok b s₁)
noncomputable def yTn (f : RB) : RB := fun s => bx (f s) fun b s₁ => some (.ok (!b) s₁)
noncomputable def yTs0 : R6 := ⟨fun s => some (.ok true s), fun s => some (.ok false s)⟩
noncomputable def yTs (f : RB) (r : R6) : R6 := ⟨fun s => bx (f s) fun b s₁ => cond b (r.al s₁) (some (.ok false s₁)), fun s => bx (f s) fun b s₁ => cond b (some (.ok true s₁)) (r.an s₁)⟩
noncomputable def yC0 : RB := fun s => some (.ok true s)
section
variable (P : Prog) (call : Cf)
noncomputable def evE (p : PE) : R1 := PE.rec (motive_1 := fun _ => R1) (motive_2 := fun _ => R2) (motive_3 := fun _ => Sx → Option (Ox (Option V))) (motive_4 := fun _ => Bool) (motive_5 := fun _ => RB) (motive_6 := fun _ => R6) (motive_7 := fun _ => RB)
    yCst yLoc (yGlob P) (fun _ n f => yAttr n f) (fun _ op _ _ f g => yBin op f g) (fun _ f => yNeg f) (fun _ f => yNot f) (fun op _ _ f g => yCmp op f g) (fun o₁ o₂ _ _ _ f g h => yCmp2 o₁ o₂ f g h) (fun _ r => r.va) (fun _ r => r.vo) (fun _ _ _ t f g => yIte t f g) (fun fz _ r => yList fz r) (fun _ r => yTup r) (fun _ b => yDict b) (fun _ _ f g => yIdx f g) (fun fz _ _ _ f l h => ySl fz f l h) (fun _ _ _ => yNo) (fun fz _ _ f r => yCall P call fz f r) (fun _ _ _ _ => yNo) (fun fz i j _ _ f g => ySu P fz i j f g) (fun _ _ => yNo) (fun fz _ n _ f r => yMeth P call fz n f r) (fun fz _ ts _ _ f g h => yComp fz ts f g h)
    yNil (fun _ _ f r => yCons f r) yO0 (fun _ f => yO1 f) true (fun _ _ _ _ _ _ => false) (fun _ f => yTe f) (fun _ f => yTn f) (fun _ r => r.al) (fun _ r => r.an) yTs0 (fun _ _ f r => yTs f r) yC0 (fun _ f => f) p
noncomputable def evEs (p : PEs) : R2 := PEs.rec (motive_1 := fun _ => R1) (motive_2 := fun _ => R2) (motive_3 := fun _ => Sx → Option (Ox (Option V))) (motive_4 := fun _ => Bool) (motive_5 := fun _ => RB) (motive_6 := fun _ => R6) (motive_7 := fun _ => RB)
    yCst yLoc (yGlob P) (fun _ n f => yAttr n f) (fun _ op _ _ f g => yBin op f g) (fun _ f => yNeg f) (fun _ f => yNot f) (fun op _ _ f g => yCmp op f g) (fun o₁ o₂ _ _ _ f g h => yCmp2 o₁ o₂ f g h) (fun _ r => r.va) (fun _ r => r.vo) (fun _ _ _ t f g => yIte t f g) (fun fz _ r => yList fz r) (fun _ r => yTup r) (fun _ b => yDict b) (fun _ _ f g => yIdx f g) (fun fz _ _ _ f l h => ySl fz f l h) (fun _ _ _ => yNo) (fun fz _ _ f r => yCall P call fz f r) (fun _ _ _ _ => yNo) (fun fz i j _ _ f g => ySu P fz i j f g) (fun _ _ => yNo) (fun fz _ n _ f r => yMeth P call fz n f r) (fun fz _ ts _ _ f g h => yComp fz ts f g h)
    yNil (fun _ _ f r => yCons f r) yO0 (fun _ f => yO1 f) true (fun _ _ _ _ _ _ => false) (fun _ f => yTe f) (fun _ f => yTn f) (fun _ r => r.al) (fun _ r => r.an) yTs0 (fun _ _ f r => yTs f r) yC0 (fun _ f => f) p
noncomputable def evO (p : PEo) : Sx → Option (Ox (Option V)) := PEo.rec (motive_1 := fun _ => R1) (motive_2 := fun _ => R2) (motive_3 := fun _ => Sx → Option (Ox (Option V))) (motive_4 := fun _ => Bool) (motive_5 := fun _ => RB) (motive_6 := fun _ => R6) (motive_7 := fun _ => RB)
    yCst yLoc (yGlob P) (fun _ n f => yAttr n f) (fun _ op _ _ f g => yBin op f g) (fun _ f => yNeg f) (fun _ f => yNot f) (fun op _ _ f g => yCmp op f g) (fun o₁ o₂ _ _ _ f g h => yCmp2 o₁ o₂ f g h) (fun _ r => r.va) (fun _ r => r.vo) (fun _ _ _ t f g => yIte t f g) (fun fz _ r => yList fz r) (fun _ r => yTup r) (fun _ b => yDict b) (fun _ _ f g => yIdx f g) (fun fz _ _ _ f l h => ySl fz f l h) (fun _ _ _ => yNo) (fun fz _ _ f r => yCall P call fz f r) (fun _ _ _ _ => yNo) (fun fz i j _ _ f g => ySu P fz i j f g) (fun _ _ => yNo) (fun fz _ n _ f r => yMeth P call fz n f r) (fun fz _ ts _ _ f g h => yComp fz ts f g h)
    yNil (fun _ _ f r => yCons f r) yO0 (fun _ f => yO1 f) true (fun _ _ _ _ _ _ => false) (fun _ f => yTe f) (fun _ f => yTn f) (fun _ r => r.al) (fun _ r => r.an) yTs0 (fun _ _ f r => yTs f r) yC0 (fun _ f => f) p
noncomputable def evKV (p : PKV) : Bool := PKV.rec (motive_1 := fun _ => R1) (motive_2 := fun _ => R2) (motive_3 := fun _ => Sx → Option (Ox (Option V))) (motive_4 := fun _ => Bool) (motive_5 := fun _ => RB) (motive_6 := fun _ => R6) (motive_7 := fun _ => RB)
    yCst yLoc (yGlob P) (fun _ n f => yAttr n f) (fun _ op _ _ f g => yBin op f g) (fun _ f => yNeg f) (fun _ f => yNot f) (fun op _ _ f g => yCmp op f g) (fun o₁ o₂ _ _ _ f g h => yCmp2 o₁ o₂ f g h) (fun _ r => r.va) (fun _ r => r.vo) (fun _ _ _ t f g => yIte t f g) (fun fz _ r => yList fz r) (fun _ r => yTup r) (fun _ b => yDict b) (fun _ _ f g => yIdx f g) (fun fz _ _ _ f l h => ySl fz f l h) (fun _ _ _ => yNo) (fun fz _ _ f r => yCall P call fz f r) (fun _ _ _ _ => yNo) (fun fz i j _ _ f g => ySu P fz i j f g) (fun _ _ => yNo) (fun fz _ n _ f r => yMeth P call fz n f r) (fun fz _ ts _ _ f g h => yComp fz ts f g h)
    yNil (fun _ _ f r => yCons f r) yO0 (fun _ f => yO1 f) true (fun _ _ _ _ _ _ => false) (fun _ f => yTe f) (fun _ f => yTn f) (fun _ r => r.al) (fun _ r => r.an) yTs0 (fun _ _ f r => yTs f r) yC0 (fun _ f => f) p
noncomputable def evT (p : PC) : RB := PC.rec (motive_1 := fun _ => R1) (motive_2 := fun _ => R2) (motive_3 := fun _ => Sx → Option (Ox (Option V))) (motive_4 := fun _ => Bool) (motive_5 := fun _ => RB) (motive_6 := fun _ => R6) (motive_7 := fun _ => RB)
    yCst yLoc (yGlob P) (fun _ n f => yAttr n f) (fun _ op _ _ f g => yBin op f g) (fun _ f => yNeg f) (fun _ f => yNot f) (fun op _ _ f g => yCmp op f g) (fun o₁ o₂ _ _ _ f g h => yCmp2 o₁ o₂ f g h) (fun _ r => r.va) (fun _ r => r.vo) (fun _ _ _ t f g => yIte t f g) (fun fz _ r => yList fz r) (fun _ r => yTup r) (fun _ b => yDict b) (fun _ _ f g => yIdx f g) (fun fz _ _ _ f l h => ySl fz f l h) (fun _ _ _ => yNo) (fun fz _ _ f r => yCall P call fz f r) (fun _ _ _ _ => yNo) (fun fz i j _ _ f g => ySu P fz i j f g) (fun _ _ => yNo) (fun fz _ n _ f r => yMeth P call fz n f r) (fun fz _ ts _ _ f g h => yComp fz ts f g h)
    yNil (fun _ _ f r => yCons f r) yO0 (fun _ f => yO1 f) true (fun _ _ _ _ _ _ => false) (fun _ f => yTe f) (fun _ f => yTn f) (fun _ r => r.al) (fun _ r => r.an) yTs0 (fun _ _ f r => yTs f r) yC0 (fun _ f => f) p
noncomputable def evTs (p : PCs) : R6 := PCs.rec (motive_1 := fun _ => R1) (motive_2 := fun _ => R2) (motive_3 := fun _ => Sx → Option (Ox (Option V))) (motive_4 := fun _ => Bool) (motive_5 := fun _ => RB) (motive_6 := fun _ => R6) (motive_7 := fun _ => RB)
    yCst yLoc (yGlob P) (fun _ n f => yAttr n f) (fun _ op _ _ f g => yBin op f g) (fun _ f => yNeg f) (fun _ f => yNot f) (fun op _ _ f g => yCmp op f g) (fun o₁ o₂ _ _ _ f g h => yCmp2 o₁ o₂ f g h) (fun _ r => r.va) (fun _ r => r.vo) (fun _ _ _ t f g => yIte t f g) (fun fz _ r => yList fz r) (fun _ r => yTup r) (fun _ b => yDict b) (fun _ _ f g => yIdx f g) (fun fz _ _ _ f l h => ySl fz f l h) (fun _ _ _ => yNo) (fun fz _ _ f r => yCall P call fz f r) (fun _ _ _ _ => yNo) (fun fz i j _ _ f g => ySu P fz i j f g) (fun _ _ => yNo) (fun fz _ n _ f r => yMeth P call fz n f r) (fun fz _ ts _ _ f g h => yComp fz ts f g h)
    yNil (fun _ _ f r => yCons f r) yO0 (fun _ f => yO1 f) true (fun _ _ _ _ _ _ => false) (fun _ f => yTe f) (fun _ f => yTn f) (fun _ r => r.al) (fun _ r => r.an) yTs0 (fun _ _ f r => yTs f r) yC0 (fun _ f => f) p
noncomputable def evC (p : PCo) : RB := PCo.rec (motive_1 := fun _ => R1) (motive_2 := fun _ => R2) (motive_3 := fun _ => Sx → Option (Ox (Option V))) (motive_4 := fun _ => Bool) (motive_5 := fun _ => RB) (motive_6 := fun _ => R6) (motive_7 := fun _ => RB)
    yCst yLoc (yGlob P) (fun _ n f => yAttr n f) (fun _ op _ _ f g => yBin op f g) (fun _ f => yNeg f) (fun _ f => yNot f) (fun op _ _ f g => yCmp op f g) (fun o₁ o₂ _ _ _ f g h => yCmp2 o₁ o₂ f g h) (fun _ r => r.va) (fun _ r => r.vo) (fun _ _ _ t f g => yIte t f g) (fun fz _ r => yList fz r) (fun _ r => yTup r) (fun _ b => yDict b) (fun _ _ f g => yIdx f g) (fun fz _ _ _ f l h => ySl fz f l h) (fun _ _ _ => yNo) (fun fz _ _ f r => yCall P call fz f r) (fun _ _ _ _ => yNo) (fun fz i j _ _ f g => ySu P fz i j f g) (fun _ _ => yNo) (fun fz _ n _ f r => yMeth P call fz n f r) (fun fz _ ts _ _ f g h => yComp fz ts f g h)
    yNil (fun _ _ f r => yCons f r) yO0 (fun _ f => yO1 f) true (fun _ _ _ _ _ _ => false) (fun _ f => yTe f) (fun _ f => yTn f) (fun _ r => r.al) (fun _ r => r.an) yTs0 (fun _ _ f r => yTs f r) yC0 (fun _ f => f) p
end
noncomputable def asgX (P : Prog) (E : PE → R1) (t : PT) (v : V) (s : Sx) (f : RF) : Option (Ox Flow) := match t with
  | .loc i => f (s.put i v)
  | .attr o n => bx (E o s) fun a s₁ => ndX (putAX P a n v s₁) f
  | .idx o x => bx (E o s) fun a s₁ => bx (E x s₁) fun b s₂ => ndX (aRef a) fun i => ndX (cD (atC s₂.cs i)) fun kvs => ysX (keyOk (dKeys kvs) b && Nat.blt kvs.length SZ) (f (s₂.set i (.dict (dSet kvs b v))))
  | .tup is => ndX (aTup v) fun xs => ndX (bindGoX is xs s) f
/-- what an exception leads to -/
noncomputable def tryX (P : Prog) (r : Option (Ox Flow)) (k : Nat) (f : Nat → RF) : Option (Ox Flow) := match r with
  | some (.ok fl s) => some (.ok fl s)
  | some (.ex j s) => ndX (cE (atC s.cs j)) fun m => ysX (P.exc k && P.sub m k) (f j s)
  | none => none
noncomputable def zExpr (f : R1) : RF := fun s => bx (f s) fun _ s₁ => some (.ok .next s₁)
noncomputable def zPass : RF := fun s => some (.ok .next s)
noncomputable def zAsg (P : Prog) (E : PE → R1) (t : PT) (f : R1) : RF := fun s => bx (f s) fun v s₁ => asgX P E t v s₁ zPass
noncomputable def zAugL (i : Nat) (op : BOp) (f : R1) : RF := fun s => ndX (lk s.lo i) fun a => bx (f s) fun b s₁ => ndX (augX op a b) fun v => some (.ok .next (s₁.put i v))
noncomputable def zAugA (P : Prog) (g : R1) (n : Nat) (op : BOp) (f : R1) : RF := fun s => bx (g s) fun a s₁ => ndX (aRef a) fun i => ndX (cI (atC s₁.cs i)) fun t => ndX (lk t.2 n) fun x => bx (f s₁) fun b s₂ => ndX (augX op x b) fun v => ndX (putAX P a n v s₂) zPass
noncomputable def zRet (f : Sx → Option (Ox (Option V))) : RF := fun s => bx (f s) fun v s₁ => some (.ok (.ret (v.getD .none)) s₁)
noncomputable def zIte (t : RB) (f g : RF) : RF := fun s => bx (t s) fun c s₁ => cond c (f s₁) (g s₁)
noncomputable def zLoop (ts : List Nat) (it : R1) (body : RF) : RF := fun s => bx (it s) fun v s₁ => ndX (items (hpOf s₁.cs) v) fun xs => loopX (fun v s₂ => ndX (bindTX ts v s₂) body) (stillX v xs) xs s₁
noncomputable def zEnum (P : Prog) (g : Nat) (it : R1) : RF := fun s => ndX (P.glob g) fun w => ysX (isEnu w) (bx (it s) fun v s₁ => ndX (see (hpOf s₁.cs) v) fun y => ndX (aLst y) fun xs => ysX xs.isEmpty (some (.ok .next s₁)))
noncomputable def zRaise (P : Prog) (i : Nat) (f : R1) : RF := fun s => ndX (P.glob i) fun v => ndX (aCls v) fun k => ysX (P.exc k) (ndX (okX (f s)) fun p => some (.ex p.2.cs.length (p.2.new (.exc k))))
noncomputable def zTry (P : Prog) (body : RF) (i : Nat) (as : Option Nat) (h : RF) : RF := fun s => ndX (P.glob i) fun v => ndX (aCls v) fun k => tryX P (body s) k fun j s₁ => ndX (okX (h (asX as j s₁))) fun p => some (.ok p.1 (unX as p.2))
noncomputable def zCons (f r : RF) : RF := fun s => bx (f s) fun fl s₁ => enX fl s₁ r
section
variable (P : Prog) (call : Cf) (N : Nat)
noncomputable def evS (p : PS) : RF := PS.rec (motive_1 := fun _ => RF) (motive_2 := fun _ => RF)
    (fun e => zExpr (evE P call e)) zPass (fun t e => zAsg P (evE P call) t (evE P call e)) (fun i op e => zAugL i op (evE P call e)) (fun o n op e => zAugA P (evE P call o) n op (evE P call e)) (fun e => zRet (evO P call e)) (fun t _ _ f g => zIte (evT P call t) f g) (fun ts it _ f => zLoop ts (evE P call it) f) (fun g _ _ it _ _ => zEnum P g (evE P call it)) (fun t _ f => whileX (evT P call t) f N) (fun i e => zRaise P i (evE P call e)) (fun _ i as _ f g => zTry P f i as g) zPass (fun _ _ f r => zCons f r) p
noncomputable def evSs (p : PSs) : RF := PSs.rec (motive_1 := fun _ => RF) (motive_2 := fun _ => RF)
    (fun e => zExpr (evE P call e)) zPass (fun t e => zAsg P (evE P call) t (evE P call e)) (fun i op e => zAugL i op (evE P call e)) (fun o n op e => zAugA P (evE P call o) n op (evE P call e)) (fun e => zRet (evO P call e)) (fun t _ _ f g => zIte (evT P call t) f g) (fun ts it _ f => zLoop ts (evE P call it) f) (fun g _ _ it _ _ => zEnum P g (evE P call it)) (fun t _ f => whileX (evT P call t) f N) (fun i e => zRaise P i (evE P call e)) (fun _ i as _ f g => zTry P f i as g) zPass (fun _ _ f r => zCons f r) p
end
noncomputable def bindX (ps : List Nat) : List V → List (Nat × V) → Option (List (Nat × V)) := List.rec (motive := fun _ => List V → List (Nat × V) → Option (List (Nat × V))) (fun vs m => List.rec (motive := fun _ => Option (List (Nat × V))) (some m) (fun _ _ _ => none) vs) (fun p _ ih vs m => List.rec (motive := fun _ => Option (List (Nat × V))) none (fun a as _ => ih as (st m p a)) vs) ps
/-- calls: d deep -/
noncomputable def cfX (P : Prog) (N : Nat) (d : Nat) : Cf := Nat.rec (motive := fun _ => Cf) (fun _ _ _ => none) (fun _ call f as cs => ndX (P.fn f) fun fd => ndX (bindX fd.params as []) fun l => bx (evSs P call N fd.body ⟨cs, l⟩) fun fl s => some (.ok (retV fl) s)) d
end Mine

end

section
set_option autoImplicit false
set_option linter.all false
set_option genSizeOf false
set_option genInjectivity false
namespace Mine
open PySem (Str)
section
variable (P : Prog) (K : CT)
noncomputable def OkE (e : PE) (f : R1) : Prop := ∀ s r, f s = some r → ∀ Q E, post r Q E → wpE P K E e s.st Q
noncomputable def OkT (e : PC) (f : RB) : Prop := ∀ s r, f s = some r → ∀ Q E, post r Q E → wpT P K E e s.st Q
noncomputable def OkO (e : PEo) (f : Sx → Option (Ox (Option V))) : Prop := ∀ s r, f s = some r → ∀ Q E, post r Q E → wpO P K E e s.st Q
noncomputable def OkC (e : PCo) (f : RB) : Prop := ∀ s r, f s = some r → ∀ Q E, post r Q E → wpC P K E e s.st Q
noncomputable def OkS (e : PS) (f : RF) : Prop := ∀ s r, f s = some r → ∀ Q E, post r Q E → wpS P K e s.st Q E
noncomputable def OkSs (e : PSs) (f : RF) : Prop := ∀ s r, f s = some r → ∀ Q E, post r Q E → wpSs P K e s.st Q E
noncomputable def isN : PEs → Bool
  | .nil => true
  | .cons _ _ => false
structure OkEs (e : PEs) (f : R2) : Prop where
  es : ∀ s r, f.es s = some r → ∀ Q E, post r Q E → wpEs P K E e s.st Q
  nl : f.nl = isN e
  va : ∀ s r, f.va s = some r → ∀ Q E, post r Q E → wpAnd P K E e s.st Q
  vo : ∀ s r, f.vo s = some r → ∀ Q E, post r Q E → wpOr P K E e s.st Q
structure OkTs (e : PCs) (f : R6) : Prop where
  al : ∀ s r, f.al s = some r → ∀ Q E, post r Q E → wpAllT P K E e s.st Q
  an : ∀ s r, f.an s = some r → ∀ Q E, post r Q E → wpAnyT P K E e s.st Q
noncomputable def isNK : PKV → Bool
  | .nil => true
  | .cons _ _ _ => false
end
noncomputable def CfOk (K : CT) (call : Cf) : Prop := ∀ f as cs r, call f as cs = some r → ∀ (Q : V → Hp → Prop) (E : Nat → Hp → Prop), post r (fun v σ => Q v σ.H) (fun j σ => E j σ.H) → K f as (hpOf cs) Q E
theorem lk_rm1 {l : List (Nat × V)} {n : Nat} : lk (rmX l n) = unb (lk l) n := by
  funext j
  show lk (l.filter fun p => !Nat.beq p.1 n) j = if j = n then none else lk l j
  induction l with
  | nil =>
    show none = if j = n then none else none
    by_cases e : j = n
    · rw [if_pos e]
    · rw [if_neg e]
  | cons p r ih =>
    rw [List.filter_cons]
    show _ = if j = n then none else cond (Nat.beq p.1 j) (some p.2) (lk r j)
    cases q : Nat.beq p.1 n with
    | true =>
      rw [if_neg (by simp), ih]
      by_cases e : j = n
      · rw [if_pos e, if_pos e]
      · rw [if_neg e, if_neg e]
        cases q2 : Nat.beq p.1 j with
        | true => exact absurd ((Nat.eq_of_beq_eq_true q2).symm.trans (Nat.eq_of_beq_eq_true q)) e
        | false => rfl
    | false =>
      rw [if_pos (by simp)]
      show cond (Nat.beq p.1 j) (some p.2) (lk (r.filter fun p => !Nat.beq p.1 n) j) = _
      rw [ih]
      by_cases e : j = n
      · rw [if_pos e, if_pos e, e, q]; rfl
      · rw [if_neg e, if_neg e]
theorem lk_rms1 {l : List (Nat × V)} {ts : List Nat} : lk (rmsX l ts) = unbs ts (lk l) := by
  funext j
  show lk (l.filter fun p => !(ts.contains p.1)) j = if ts.contains j then none else lk l j
  induction l with
  | nil => cases ts.contains j <;> rfl
  | cons p r ih =>
    rw [List.filter_cons]
    show _ = if ts.contains j then none else cond (Nat.beq p.1 j) (some p.2) (lk r j)
    cases q : ts.contains p.1 with
    | true =>
      rw [if_neg (by simp), ih]
      cases e : ts.contains j with
      | true => rfl
      | false =>
        cases q2 : Nat.beq p.1 j with
        | true => rw [Nat.eq_of_beq_eq_true q2, e] at q; cases q
        | false => rfl
    | false =>
      rw [if_pos (by simp)]
      show cond (Nat.beq p.1 j) (some p.2) (lk (r.filter fun p => !(ts.contains p.1)) j) = _
      rw [ih]
      cases e : ts.contains j with
      | true =>
        cases q2 : Nat.beq p.1 j with
        | true => rw [Nat.eq_of_beq_eq_true q2, e] at q; cases q
        | false => rfl
      | false => rfl
theorem asX_st {as : Option Nat} {j : Nat} {s : Sx} : (asX as j s).st = asPut as j s.st := by
  cases as with
  | none => rfl
  | some n => exact st_put
theorem unX_st {as : Option Nat} {s : Sx} : (unX as s).st = asUnb as s.st := by
  cases as with
  | none => rfl
  | some n => exact congrArg (St.mk _) lk_rm1
section
variable {P : Prog} {K : CT}
theorem OkE.s {e : PE} {f : R1} (ok : OkE P K e f) {β : Type} {s : Sx} {g : V → Sx → Option (Ox β)} {o : Ox β} (h : bx (f s) g = some o) {Q : β → St → Prop} {E : EP} (hp : post o Q E) {Q' : V → St → Prop} (k : ∀ a s₁, g a s₁ = some o → Q' a s₁.st) : wpE P K E e s.st Q' :=
  stepX (W := fun Q E => wpE P K E e s.st Q) h (fun r' e' => ok _ _ e') hp k
theorem OkT.s {e : PC} {f : RB} (ok : OkT P K e f) {β : Type} {s : Sx} {g : Bool → Sx → Option (Ox β)} {o : Ox β} (h : bx (f s) g = some o) {Q : β → St → Prop} {E : EP} (hp : post o Q E) {Q' : Bool → St → Prop} (k : ∀ a s₁, g a s₁ = some o → Q' a s₁.st) : wpT P K E e s.st Q' :=
  stepX (W := fun Q E => wpT P K E e s.st Q) h (fun r' e' => ok _ _ e') hp k
theorem OkO.s {e : PEo} {f : Sx → Option (Ox (Option V))} (ok : OkO P K e f) {β : Type} {s : Sx} {g : Option V → Sx → Option (Ox β)} {o : Ox β} (h : bx (f s) g = some o) {Q : β → St → Prop} {E : EP} (hp : post o Q E) {Q' : Option V → St → Prop} (k : ∀ a s₁, g a s₁ = some o → Q' a s₁.st) : wpO P K E e s.st Q' :=
  stepX (W := fun Q E => wpO P K E e s.st Q) h (fun r' e' => ok _ _ e') hp k
theorem OkEs.s {e : PEs} {f : R2} (ok : OkEs P K e f) {β : Type} {s : Sx} {g : List V → Sx → Option (Ox β)} {o : Ox β} (h : bx (f.es s) g = some o) {Q : β → St → Prop} {E : EP} (hp : post o Q E) {Q' : List V → St → Prop} (k : ∀ a s₁, g a s₁ = some o → Q' a s₁.st) : wpEs P K E e s.st Q' :=
  stepX (W := fun Q E => wpEs P K E e s.st Q) h (fun r' e' => ok.es _ _ e') hp k
theorem OkS.s {e : PS} {f : RF} (ok : OkS P K e f) {s : Sx} {g : Flow → Sx → Option (Ox Flow)} {o : Ox Flow} (h : bx (f s) g = some o) {Q : Flow → St → Prop} {E : EP} (hp : post o Q E) {Q' : Flow → St → Prop} (k : ∀ a s₁, g a s₁ = some o → Q' a s₁.st) : wpS P K e s.st Q' E :=
  stepX (W := fun Q E => wpS P K e s.st Q E) h (fun r' e' => ok _ _ e') hp k
theorem OkE.run {e : PE} {f : R1} (ok : OkE P K e f) : RunOk f fun σ k => wpE P K noE e σ k := fun s a s' h Q q => ok _ _ h Q noE q
theorem OkT.run {e : PC} {f : RB} (ok : OkT P K e f) : RunOk f fun σ k => wpT P K noE e σ k := fun s a s' h Q q => ok _ _ h Q noE q
theorem OkC.run {e : PCo} {f : RB} (ok : OkC P K e f) : RunOk f fun σ k => wpC P K noE e σ k := fun s a s' h Q q => ok _ _ h Q noE q
theorem OkSs.run {e : PSs} {f : RF} (ok : OkSs P K e f) : RunOk f fun σ k => wpSs P K e σ k noE := fun s a s' h Q q => ok _ _ h Q noE q
section
variable {call : Cf} (hC : CfOk K call)
include hC
theorem backX_ok {s : Sx} {k : Nat} {as : List V} {cs : List (Option C)} {f : V → Sx → Option (Ox V)} {o : Ox V} {Q : V → St → Prop} {E : EP} {Qv : V → Hp → Prop} (h : backX s (call k as cs) f = some o) (hp : post o Q E)
    (g : ∀ (v : V) (s' : Sx), f v ⟨s'.cs, s.lo⟩ = some o → Qv v (hpOf s'.cs)) : K k as (hpOf cs) Qv fun e H => E e (s.st.setH H) := by
  cases q : call k as cs with
  | none => rw [q] at h; cases h
  | some r =>
    rw [q] at h
    refine hC k as cs r q _ _ ?_
    cases r with
    | ok v s' => exact g v s' h
    | ex j s' => cases h; exact hp
theorem callFX_ok {fz : Bool} {s : Sx} {f : V} {as : List V} {o : Ox V} {Q : V → St → Prop} {E : EP} (h : callFX P call fz s f as = some o) (hp : post o Q E) : callF P K E fz s.st f as Q := by
  cases f with
  | bt b => exact nd_e h fun r e h => callBX_ok e (giveX_ok h hp)
  | fn k => exact backX_ok (f := fun v s' => giveVX fz s' v) hC h hp fun v s' h => giveVX_ok (s := ⟨s'.cs, s.lo⟩) h hp
  | cls k =>
    refine nd_e h fun c ec h => need_ii ec (nd_e h fun g eg h => need_ii eg ?_)
    have := backX_ok (Qv := fun v H => Nd (isNone v = true) (Q (.ref s.cs.length) (s.st.setH H))) hC h hp fun v s' h => ys_e h fun c h => ⟨c, by cases h; exact hp⟩
    rw [hp_new] at this
    exact this
  | _ => cases h
theorem meX_ok {fz : Bool} {n i : Nat} {as : PEs} {r : R2} (ok : OkEs P K as r) {s : Sx} {o : Ox V} {Q : V → St → Prop} {E : EP} (h : meX P call fz n r.es i s = some o) (hp : post o Q E) : (match s.st.H.get i with
    | some (.inst k _) => need (P.cls k) fun c => need (lk c.meths n) fun f => wpEs P K E as s.st fun vs σ₂ => callF P K E fz σ₂ (.fn f) (.ref i :: vs) Q
    | some (.list _) => Nd ((Nat.beq n P.nAppend || (Nat.beq n P.nPop || Nat.beq n P.nExtend)) = true) (wpEs P K E as s.st fun vs σ₂ => need (cL (σ₂.H.get i)) fun xs => methL P σ₂ i n vs xs Q)
    | some (.dict _) => Nd (Nat.beq n P.nGet = true) (wpEs P K E as s.st fun vs σ₂ => need (cD (σ₂.H.get i)) fun kvs => methD P σ₂ i n vs kvs Q)
    | _ => False) := by
  have h : (match atC s.cs i with
    | some (.inst k _) => ndX (P.cls k) fun c => ndX (lk c.meths n) fun f => bx (r.es s) fun vs s₂ => callFX P call fz s₂ (.fn f) (.ref i :: vs)
    | some (.list _) => ysX (Nat.beq n P.nAppend || (Nat.beq n P.nPop || Nat.beq n P.nExtend)) (bx (r.es s) fun vs s₂ => ndX (cL (atC s₂.cs i)) fun xs => methLX P s₂ i n vs xs)
    | some (.dict _) => ysX (Nat.beq n P.nGet) (bx (r.es s) fun vs s₂ => ndX (cD (atC s₂.cs i)) fun kvs => methDX s₂ vs kvs)
    | _ => none) = some o := h
  show (match atC s.cs i with
    | some (.inst k _) => need (P.cls k) fun c => need (lk c.meths n) fun f => wpEs P K E as s.st fun vs σ₂ => callF P K E fz σ₂ (.fn f) (.ref i :: vs) Q
    | some (.list _) => Nd ((Nat.beq n P.nAppend || (Nat.beq n P.nPop || Nat.beq n P.nExtend)) = true) (wpEs P K E as s.st fun vs σ₂ => need (cL (σ₂.H.get i)) fun xs => methL P σ₂ i n vs xs Q)
    | some (.dict _) => Nd (Nat.beq n P.nGet = true) (wpEs P K E as s.st fun vs σ₂ => need (cD (σ₂.H.get i)) fun kvs => methD P σ₂ i n vs kvs Q)
    | _ => False)
  cases q : atC s.cs i with
  | none => rw [q] at h; cases h
  | some c =>
    rw [q] at h
    cases c with
    | inst k fs => exact nd_e h fun c ec h => need_ii ec (nd_e h fun f ef h => need_ii ef (ok.s h hp fun vs s₂ h => callFX_ok hC h hp))
    | list xs => exact ys_e h fun c h => ⟨c, ok.s h hp fun vs s₂ h => nd_e h fun xs ex h => need_ii ex (methLX_ok (cL_lt ex) h hp)⟩
    | dict kvs => exact ys_e h fun c h => ⟨c, ok.s h hp fun vs s₂ h => nd_e h fun kvs ex h => need_ii ex (methDX_ok h hp)⟩
    | _ => cases h
end
theorem y_no {e : PE} : OkE P K e yNo := fun s r h => nomatch h
theorem y_cst (v : V) : OkE P K (.cst v) (yCst v) := fun s r h Q E hp => by cases h; exact hp
theorem y_loc (i : Nat) : OkE P K (.loc i) (yLoc i) := fun s r h Q E hp => nd_e h fun v e h => need_ii e (by cases h; exact hp)
theorem y_glob (i : Nat) : OkE P K (.glob i) (yGlob P i) := fun s r h Q E hp => nd_e h fun v e h => need_ii e (by cases h; exact hp)
section
variable {e e' e'' : PE} {f g k : R1} (he : OkE P K e f)
include he
theorem y_attr (n : Nat) : OkE P K (.attr e n) (yAttr n f) := fun s r h Q E hp => he.s h hp fun a s₁ h => nd_e h fun i ei h => nd_e h fun t et h => nd_e h fun v ev h => need_ii ei (need_ii et (need_ii ev (by cases h; exact hp)))
theorem y_neg : OkE P K (.neg e) (yNeg f) := fun s r h Q E hp => he.s h hp fun a s₁ h => nd_e h fun i ei h => need_ii ei (by cases h; exact hp)
theorem y_not : OkE P K (.not e) (yNot f) := fun s r h Q E hp => he.s h hp fun a s₁ h => nd_e h fun b eb h => truX_ok eb (by cases h; exact hp)
theorem y_sl (fz : Bool) {lo hi : PEo} {l u : Sx → Option (Ox (Option V))} (hl : OkO P K lo l) (hu : OkO P K hi u) : OkE P K (.sl fz e lo hi) (ySl fz f l u) := fun s r h Q E hp => he.s h hp fun a s₁ h => hl.s h hp fun l s₂ h => hu.s h hp fun g s₃ h => nd_e h fun l el h => need_ii el (nd_e h fun g eg h => need_ii eg (nd_e h fun x ex h => need_ii ex (nd_e h fun r er h => slX_ok er (giveX_ok h hp))))
theorem y_call (fz : Bool) {as : PEs} {r : R2} (ha : OkEs P K as r) {call : Cf} (hC : CfOk K call) : OkE P K (.call fz e as) (yCall P call fz f r) := fun s r h Q E hp => he.s h hp fun g s₁ h => ha.s h hp fun vs s₂ h => callFX_ok hC h hp
theorem y_meth (fz : Bool) (n : Nat) {as : PEs} {r : R2} (ha : OkEs P K as r) {call : Cf} (hC : CfOk K call) : OkE P K (.meth fz e n as) (yMeth P call fz n f r) := fun s r h Q E hp => he.s h hp fun a s₁ h => nd_e h fun i ei h => need_ii ei (meX_ok hC ha h hp)
theorem y_comp (fz : Bool) (ts : List Nat) (hi : OkE P K e' g) {cd : PCo} {t : RB} (hc : OkC P K cd t) : OkE P K (.comp fz e ts e' cd) (yComp fz ts f g t) := fun s r h Q E hp => hi.s h hp fun v s₁ h => nd_e h fun xs ex h => need_ii ex (nd_e h fun p ep h => by
      have : (⟨s₁.st.H, unbs ts s₁.st.loc⟩ : St) = (⟨s₁.cs, rmsX s₁.lo ts⟩ : Sx).st := congrArg (St.mk _) lk_rms1.symm
      show compGo _ _ ts (still v xs) xs [] ⟨s₁.st.H, unbs ts s₁.st.loc⟩ _
      rw [this]
      exact compX_ok (ys := p.1) (s' := p.2) hc.run he.run (fun s q => stillX_ok q) ep (giveX_ok (s := ⟨p.2.cs, s₁.lo⟩) h hp))
theorem y_bin (fz : Bool) (op : BOp) (hg : OkE P K e' g) : OkE P K (.bin fz op e e') (yBin op f g) := fun s r h Q E hp => he.s h hp fun a s₁ h => hg.s h hp fun b s₂ h => nd_e h fun x ex h => need_ii ex (nd_e h fun y ey h => need_ii ey (nd_e h fun v ev h => binX_ok ev (by cases h; exact hp)))
theorem y_cmp (op : COp) (hg : OkE P K e' g) : OkE P K (.cmp op e e') (yCmp op f g) := fun s r h Q E hp => he.s h hp fun a s₁ h => hg.s h hp fun b s₂ h => nd_e h fun c ec h => cmpX_ok ec (by cases h; exact hp)
theorem y_cmp2 (o₁ o₂ : COp) (hg : OkE P K e' g) (hk : OkE P K e'' k) : OkE P K (.cmp2 o₁ o₂ e e' e'') (yCmp2 o₁ o₂ f g k) := fun s r h Q E hp => he.s h hp fun a s₁ h => hg.s h hp fun b s₂ h => nd_e h fun c ec h => cmpX_ok ec (cond_x h (fun q h => Br_y q (hk.s h hp fun d s₃ h => nd_e h fun c ec h => cmpX_ok ec (by cases h; exact hp))) fun q h => Br_n q (by cases h; exact hp))
theorem y_idx (hg : OkE P K e' g) : OkE P K (.idx e e') (yIdx f g) := fun s r h Q E hp => he.s h hp fun a s₁ h => hg.s h hp fun b s₂ h => nd_e h fun v ev h => idxX_ok ev (by cases h; exact hp)
theorem y_su (fz : Bool) (i j : Nat) (hg : OkE P K e' g) : OkE P K (.sortedU fz i j e e') (ySu P fz i j f g) := fun s r h Q E hp => nd_e h fun w eg h => need_ii eg (ys_e h fun c h => ⟨c, nd_e h fun w eg h => need_ii eg (ys_e h fun c h => ⟨c, he.s h hp fun a s₁ h => nd_e h fun p ep h => need_ii ep (nd_e h fun p ep h => need_ii ep (nd_e h fun l el h => need_ii el (ys_e h fun c h => ⟨Nat.blt_eq.mp c, hg.s h hp fun b s₂ h => nd_e h fun q eq h => need_ii eq (nd_e h fun q eq h => need_ii eq (nd_e h fun m em h => need_ii em (ys_e h fun c h => ⟨Nat.blt_eq.mp c, ys_e h fun c h => ⟨c, giveX_ok h hp⟩⟩)))⟩)))⟩)⟩)
theorem y_cons {es : PEs} {r : R2} (hr : OkEs P K es r) : OkEs P K (.cons e es) (yCons f r) where
  es := fun s r h Q E hp => he.s h hp fun v s₁ h => hr.s h hp fun vs s₂ h => by cases h; exact hp
  nl := rfl
  va := fun s o h Q E hp => he.s h hp fun v s₁ h => by
    cases es with
    | nil => rw [hr.nl] at h; cases h; exact hp
    | cons x y => rw [hr.nl] at h; exact nd_e h fun b eb h => truX_ok eb (cond_x h (fun q h => Br_y q (hr.va _ _ h Q E hp)) fun q h => Br_n q (by cases h; exact hp))
  vo := fun s o h Q E hp => he.s h hp fun v s₁ h => by
    cases es with
    | nil => rw [hr.nl] at h; cases h; exact hp
    | cons x y => rw [hr.nl] at h; exact nd_e h fun b eb h => truX_ok eb (cond_x h (fun q h => Br_y q (by cases h; exact hp)) fun q h => Br_n q (hr.vo _ _ h Q E hp))
theorem y_o1 : OkO P K (.some e) (yO1 f) := fun s r h Q E hp => he.s h hp fun v s₁ h => by cases h; exact hp
theorem y_te : OkT P K (.e e) (yTe f) := fun s r h Q E hp => he.s h hp fun v s₁ h => nd_e h fun b eb h => truX_ok eb (by cases h; exact hp)
end
theorem y_ite {c : PC} {t : RB} {e e' : PE} {f g : R1} (hc : OkT P K c t) (he : OkE P K e f) (hg : OkE P K e' g) : OkE P K (.ite c e e') (yIte t f g) := fun s r h Q E hp => hc.s h hp fun c s₁ h => cond_x h (fun q h => Br_y q (he _ _ h Q E hp)) fun q h => Br_n q (hg _ _ h Q E hp)
theorem y_list (fz : Bool) {es : PEs} {r : R2} (hr : OkEs P K es r) : OkE P K (.list fz es) (yList fz r) := fun s r h Q E hp => hr.s h hp fun vs s₁ h => giveX_ok h hp
theorem y_tup {es : PEs} {r : R2} (hr : OkEs P K es r) : OkE P K (.tup es) (yTup r) := fun s r h Q E hp => hr.s h hp fun vs s₁ h => ys_e h fun c h => ⟨Nat.le_of_ble_eq_true c, by cases h; exact hp⟩
theorem y_dict {kvs : PKV} {b : Bool} (hb : b = isNK kvs) : OkE P K (.dict kvs) (yDict b) := fun s r h Q E hp => by
  subst hb
  cases kvs with
  | nil => cases h; exact ⟨Nat.zero_le _, rfl, st_new ▸ hp⟩
  | cons _ _ _ => cases h
theorem y_nil : OkEs P K .nil yNil where
  es := fun s r h Q E hp => by cases h; exact hp
  nl := rfl
  va := fun s r h => nomatch h
  vo := fun s r h => nomatch h
theorem y_o0 : OkO P K .none yO0 := fun s r h Q E hp => by cases h; exact hp
theorem y_tn {c : PC} {t : RB} (hc : OkT P K c t) : OkT P K (.not c) (yTn t) := fun s r h Q E hp => hc.s h hp fun b s₁ h => by cases h; exact hp
theorem y_ts0 : OkTs P K .nil yTs0 := ⟨fun s r h Q E hp => by cases h; exact hp, fun s r h Q E hp => by cases h; exact hp⟩
theorem y_ts {c : PC} {t : RB} (hc : OkT P K c t) {cs : PCs} {r : R6} (hr : OkTs P K cs r) : OkTs P K (.cons c cs) (yTs t r) where
  al := fun s o h Q E hp => hc.s h hp fun b s₁ h => cond_x h (fun q h => Br_y q (hr.al _ _ h Q E hp)) fun q h => Br_n q (by cases h; exact hp)
  an := fun s o h Q E hp => hc.s h hp fun b s₁ h => cond_x h (fun q h => Br_y q (by cases h; exact hp)) fun q h => Br_n q (hr.an _ _ h Q E hp)
theorem y_c0 : OkC P K .none yC0 := fun s r h Q E hp => by cases h; exact hp
section
variable {call : Cf} (hC : CfOk K call)
include hC
theorem evE_ok (p : PE) : OkE P K p (evE P call p) := PE.rec (motive_1 := fun e => OkE P K e (evE P call e)) (motive_2 := fun e => OkEs P K e (evEs P call e)) (motive_3 := fun e => OkO P K e (evO P call e)) (motive_4 := fun e => evKV P call e = isNK e) (motive_5 := fun e => OkT P K e (evT P call e)) (motive_6 := fun e => OkTs P K e (evTs P call e)) (motive_7 := fun e => OkC P K e (evC P call e))
    y_cst y_loc y_glob (fun _ n h => y_attr h n) (fun fz op _ _ h g => y_bin h fz op g) (fun _ h => y_neg h) (fun _ h => y_not h) (fun op _ _ h g => y_cmp h op g) (fun o₁ o₂ _ _ _ f g h => y_cmp2 f o₁ o₂ g h) (fun _ r => r.va) (fun _ r => r.vo) (fun _ _ _ t f g => y_ite t f g) (fun fz _ r => y_list fz r) (fun _ r => y_tup r) (fun _ b => y_dict b) (fun _ _ f g => y_idx f g) (fun fz _ _ _ f l h => y_sl f fz l h) (fun _ _ _ => y_no) (fun fz _ _ f r => y_call f fz r hC) (fun _ _ _ _ => y_no) (fun fz i j _ _ f g => y_su f fz i j g) (fun _ _ => y_no) (fun fz _ n _ f r => y_meth f fz n r hC) (fun fz _ ts _ _ f g h => y_comp f fz ts g h)
    y_nil (fun _ _ f r => y_cons f r) y_o0 (fun _ f => y_o1 f) rfl (fun _ _ _ _ _ _ => rfl) (fun _ f => y_te f) (fun _ f => y_tn f) (fun _ r => r.al) (fun _ r => r.an) y_ts0 (fun _ _ f r => y_ts f r) y_c0 (fun _ f => f) p
theorem evO_ok (p : PEo) : OkO P K p (evO P call p) := PEo.rec (motive_1 := fun e => OkE P K e (evE P call e)) (motive_2 := fun e => OkEs P K e (evEs P call e)) (motive_3 := fun e => OkO P K e (evO P call e)) (motive_4 := fun e => evKV P call e = isNK e) (motive_5 := fun e => OkT P K e (evT P call e)) (motive_6 := fun e => OkTs P K e (evTs P call e)) (motive_7 := fun e => OkC P K e (evC P call e))
    y_cst y_loc y_glob (fun _ n h => y_attr h n) (fun fz op _ _ h g => y_bin h fz op g) (fun _ h => y_neg h) (fun _ h => y_not h) (fun op _ _ h g => y_cmp h op g) (fun o₁ o₂ _ _ _ f g h => y_cmp2 f o₁ o₂ g h) (fun _ r => r.va) (fun _ r => r.vo) (fun _ _ _ t f g => y_ite t f g) (fun fz _ r => y_list fz r) (fun _ r => y_tup r) (fun _ b => y_dict b) (fun _ _ f g => y_idx f g) (fun fz _ _ _ f l h => y_sl f fz l h) (fun _ _ _ => y_no) (fun fz _ _ f r => y_call f fz r hC) (fun _ _ _ _ => y_no) (fun fz i j _ _ f g => y_su f fz i j g) (fun _ _ => y_no) (fun fz _ n _ f r => y_meth f fz n r hC) (fun fz _ ts _ _ f g h => y_comp f fz ts g h)
    y_nil (fun _ _ f r => y_cons f r) y_o0 (fun _ f => y_o1 f) rfl (fun _ _ _ _ _ _ => rfl) (fun _ f => y_te f) (fun _ f => y_tn f) (fun _ r => r.al) (fun _ r => r.an) y_ts0 (fun _ _ f r => y_ts f r) y_c0 (fun _ f => f) p
theorem evT_ok (p : PC) : OkT P K p (evT P call p) := PC.rec (motive_1 := fun e => OkE P K e (evE P call e)) (motive_2 := fun e => OkEs P K e (evEs P call e)) (motive_3 := fun e => OkO P K e (evO P call e)) (motive_4 := fun e => evKV P call e = isNK e) (motive_5 := fun e => OkT P K e (evT P call e)) (motive_6 := fun e => OkTs P K e (evTs P call e)) (motive_7 := fun e => OkC P K e (evC P call e))
    y_cst y_loc y_glob (fun _ n h => y_attr h n) (fun fz op _ _ h g => y_bin h fz op g) (fun _ h => y_neg h) (fun _ h => y_not h) (fun op _ _ h g => y_cmp h op g) (fun o₁ o₂ _ _ _ f g h => y_cmp2 f o₁ o₂ g h) (fun _ r => r.va) (fun _ r => r.vo) (fun _ _ _ t f g => y_ite t f g) (fun fz _ r => y_list fz r) (fun _ r => y_tup r) (fun _ b => y_dict b) (fun _ _ f g => y_idx f g) (fun fz _ _ _ f l h => y_sl f fz l h) (fun _ _ _ => y_no) (fun fz _ _ f r => y_call f fz r hC) (fun _ _ _ _ => y_no) (fun fz i j _ _ f g => y_su f fz i j g) (fun _ _ => y_no) (fun fz _ n _ f r => y_meth f fz n r hC) (fun fz _ ts _ _ f g h => y_comp f fz ts g h)
    y_nil (fun _ _ f r => y_cons f r) y_o0 (fun _ f => y_o1 f) rfl (fun _ _ _ _ _ _ => rfl) (fun _ f => y_te f) (fun _ f => y_tn f) (fun _ r => r.al) (fun _ r => r.an) y_ts0 (fun _ _ f r => y_ts f r) y_c0 (fun _ f => f) p
end
section
variable {E₀ : PE → R1} (hE : ∀ e, OkE P K e (E₀ e))
include hE
theorem asgX_ok {t : PT} {v : V} {s : Sx} {f : RF} {o : Ox Flow} {Q' : St → Prop} {Q : Flow → St → Prop} {E : EP} (h : asgX P E₀ t v s f = some o) (hp : post o Q E) (g : ∀ s', f s' = some o → Q' s'.st) : asgn P K E t v s.st Q' := by
  cases t with
  | loc i => show Q' (s.st.put i v); rw [← st_put]; exact g _ h
  | attr o n => exact (hE o).s h hp fun a s₁ h => nd_e h fun s₂ e h => putAX_ok e (g _ h)
  | idx o x => exact (hE o).s h hp fun a s₁ h => (hE x).s h hp fun b s₂ h => nd_e h fun i ei h => need_ii ei (nd_e h fun kvs ek h => need_ii ek (ys_e h fun c h => by
      have c := (Bool.and_eq_true ..).mp c
      have lt : i < s₂.cs.length := by
        cases q : atC s₂.cs i with
        | none => rw [q] at ek; cases ek
        | some c => exact atC_lt q
      exact ⟨c.1, Nat.blt_eq.mp c.2, st_set lt ▸ g _ h⟩))
  | tup is => exact nd_e h fun xs ex h => need_ii ex (nd_e h fun s₁ e h => bindGoX_ok e (g _ h))
end
theorem tryX_ok {body hd : PSs} {k : Nat} {as : Option Nat} {fb fh : RF} (hb : OkSs P K body fb) (hh : OkSs P K hd fh) {s : Sx} {o : Ox Flow} {Q : Flow → St → Prop} {E : EP} (h : tryX P (fb s) k (fun j s₁ => ndX (okX (fh (asX as j s₁))) fun p => some (.ok p.1 (unX as p.2))) = some o) (hp : post o Q E) :
    wpSs P K body s.st Q fun j σ₁ => need (cE (σ₁.H.get j)) fun m => Nd (P.exc k = true) (Nd (P.sub m k = true) (wpSs P K hd (asPut as j σ₁) (fun fl σ₂ => Q fl (asUnb as σ₂)) noE)) := by
  have h : (match fb s with
    | some (.ok fl s) => some (.ok fl s)
    | some (.ex j s) => ndX (cE (atC s.cs j)) fun m => ysX (P.exc k && P.sub m k) (ndX (okX (fh (asX as j s))) fun p => some (.ok p.1 (unX as p.2)))
    | none => none) = some o := h
  cases q : fb s with
  | none => rw [q] at h; cases h
  | some r =>
    rw [q] at h
    refine hb _ _ q _ _ ?_
    cases r with
    | ok fl s₁ => cases h; exact hp
    | ex j s₁ =>
      refine nd_e h fun m em h => need_ii em (ys_e h fun c h => ?_)
      have c := (Bool.and_eq_true ..).mp c
      refine ⟨c.1, c.2, nd_e h fun p ep h => ?_⟩
      cases h
      rw [← asX_st]
      refine hh _ _ (okX_e ep) _ _ ?_
      show Q p.1 (asUnb as p.2.st)
      rw [← unX_st]; exact hp
section
variable {call : Cf} (hC : CfOk K call)
include hC
theorem z_aug {op : BOp} {a b v : V} {k : V → Prop} (h : augX op a b = some v) (g : k v) : augK op a b k := by
  cases op with
  | add => exact nd_e h fun x ex ev => nd_e ev fun y ey ev => by cases ev; exact need_ii ex (need_ii ey g)
  | _ => cases h
theorem z_expr (e : PE) : OkS P K (.expr e) (zExpr (evE P call e)) := fun s r h Q E hp => (evE_ok hC e).s h hp fun a s₁ h => by cases h; exact hp
theorem z_pass : OkS P K .pass zPass := fun s r h Q E hp => by cases h; exact hp
theorem z_asg (t : PT) (e : PE) : OkS P K (.assign t e) (zAsg P (evE P call) t (evE P call e)) := fun s r h Q E hp => (evE_ok hC e).s h hp fun v s₁ h => asgX_ok (evE_ok hC) h hp fun s₂ h => by cases h; exact hp
theorem z_augL (i : Nat) (op : BOp) (e : PE) : OkS P K (.augLoc i op e) (zAugL i op (evE P call e)) := fun s r h Q E hp => nd_e h fun a ea h => need_ii ea ((evE_ok hC e).s h hp fun b s₁ h => nd_e h fun v ev h => z_aug hC ev (by cases h; show Q .next (s₁.st.put i _); rw [← st_put]; exact hp))
theorem z_augA (o' : PE) (n : Nat) (op : BOp) (e : PE) : OkS P K (.augAttr o' n op e) (zAugA P (evE P call o') n op (evE P call e)) := fun s r h Q E hp => (evE_ok hC o').s h hp fun a s₁ h => nd_e h fun i ei h => nd_e h fun t et h => nd_e h fun x ex h => need_ii ei (need_ii et (need_ii ex ((evE_ok hC e).s h hp fun b s₂ h => nd_e h fun v ev h => nd_e h fun s₃ e₃ h => z_aug hC ev (by cases h; exact putAX_ok e₃ hp))))
theorem z_ret (e : PEo) : OkS P K (.ret e) (zRet (evO P call e)) := fun s r h Q E hp => (evO_ok hC e).s h hp fun v s₁ h => by cases h; exact hp
theorem z_ite (t : PC) {a b : PSs} {f g : RF} (ha : OkSs P K a f) (hb : OkSs P K b g) : OkS P K (.ite t a b) (zIte (evT P call t) f g) := fun s r h Q E hp => (evT_ok hC t).s h hp fun c s₁ h => cond_x h (fun q h => Br_y q (ha _ _ h Q E hp)) fun q h => Br_n q (hb _ _ h Q E hp)
theorem z_loop (ts : List Nat) (it : PE) {b : PSs} {f : RF} (hb : OkSs P K b f) : OkS P K (.loop ts it b) (zLoop ts (evE P call it) f) := fun s r h Q E hp => (evE_ok hC it).s h hp fun v s₁ h => nd_e h fun xs ex h => need_ii ex (loopX_ok (t := fun v σ₂ k => bindT ts v σ₂ fun σ₃ => wpSs P K b σ₃ k noE) (fun v s a s' h Q q => nd_e h fun s₂ e h => bindTX_ok e (hb _ _ h Q noE q)) (fun s q => stillX_ok q) h hp)
theorem z_enum (g i x : Nat) (it : PE) (b : PSs) : OkS P K (.loopEnum g i x it b) (zEnum P g (evE P call it)) := fun s r h Q E hp => nd_e h fun w ew h => need_ii ew (ys_e h fun c h => ⟨c, (evE_ok hC it).s h hp fun v s₁ h => nd_e h fun y ey h => need_ii ey (nd_e h fun xs ex h => need_ii ex (ys_e h fun c h => ⟨List.isEmpty_iff.mp c, by cases h; exact hp⟩))⟩)
theorem z_while (N : Nat) (t : PC) {b : PSs} {f : RF} (hb : OkSs P K b f) : OkS P K (.while_ t b) (whileX (evT P call t) f N) := fun s r h Q E hp => ⟨N, whileX_ok (evT_ok hC t).run hb.run h hp⟩
theorem z_raise (i : Nat) (e : PE) : OkS P K (.raise i e) (zRaise P i (evE P call e)) := fun s r h Q E hp => nd_e h fun v ev h => need_ii ev (nd_e h fun k ek h => need_ii ek (ys_e h fun c h => ⟨c, nd_e h fun p ep h => evE_ok hC e _ _ (okX_e ep) _ noE (by cases h; show E p.2.cs.length (p.2.st.setH (p.2.st.H.new (.exc k))); rw [← st_new]; exact hp)⟩))
theorem z_try {body hd : PSs} (i : Nat) (as : Option Nat) {f g : RF} (hb : OkSs P K body f) (hh : OkSs P K hd g) : OkS P K (.try_ body i as hd) (zTry P f i as g) := fun s r h Q E hp => nd_e h fun v ev h => need_ii ev (nd_e h fun k ek h => need_ii ek (tryX_ok hb hh h hp))
theorem z_nil : OkSs P K .nil zPass := fun s r h Q E hp => by cases h; exact hp
theorem z_cons {c : PS} {r : PSs} {f g : RF} (hc : OkS P K c f) (hr : OkSs P K r g) : OkSs P K (.cons c r) (zCons f g) := fun s o h Q E hp => hc.s h hp fun fl s₁ h => by
  cases fl with
  | next => exact hr _ _ h Q E hp
  | _ => cases h; exact hp
theorem evS_ok (N : Nat) (p : PS) : OkS P K p (evS P call N p) := PS.rec (motive_1 := fun p => OkS P K p (evS P call N p)) (motive_2 := fun p => OkSs P K p (evSs P call N p))
    (z_expr hC) (z_pass hC) (z_asg hC) (z_augL hC) (z_augA hC) (z_ret hC) (fun t _ _ f g => z_ite hC t f g) (fun ts it _ f => z_loop hC ts it f) (fun g i x it b _ => z_enum hC g i x it b) (fun t _ f => z_while hC N t f) (z_raise hC) (fun _ i as _ f g => z_try hC i as f g) (z_nil hC) (fun _ _ f r => z_cons hC f r) p
theorem evSs_ok (N : Nat) (p : PSs) : OkSs P K p (evSs P call N p) := PSs.rec (motive_1 := fun p => OkS P K p (evS P call N p)) (motive_2 := fun p => OkSs P K p (evSs P call N p))
    (z_expr hC) (z_pass hC) (z_asg hC) (z_augL hC) (z_augA hC) (z_ret hC) (fun t _ _ f g => z_ite hC t f g) (fun ts it _ f => z_loop hC ts it f) (fun g i x it b _ => z_enum hC g i x it b) (fun t _ f => z_while hC N t f) (z_raise hC) (fun _ i as _ f g => z_try hC i as f g) (z_nil hC) (fun _ _ f r => z_cons hC f r) p
end
end
theorem bindX_ok : ∀ {ps : List Nat} {as : List V} {m l : List (Nat × V)}, bindX ps as m = some l → bindP ps as (lk m) = some (lk l)
  | [], [], m, l, h => by cases h; rfl
  | [], _ :: _, m, l, h => by cases h
  | p :: ps, [], m, l, h => by cases h
  | p :: ps, a :: as, m, l, h => by
    have := bindX_ok (ps := ps) (as := as) (m := st m p a) h
    rw [lk_upd] at this; exact this
theorem cfX_ok (P : Prog) (N : Nat) : ∀ d, CfOk (CW P d) (cfX P N d)
  | 0 => fun f as cs r h => nomatch h
  | d + 1 => fun f as cs r h Q E hp => nd_e h fun fd ef h => need_ii ef (nd_e h fun l el h => need_ii (bindX_ok el) (by
      refine stepX (W := fun Q E => wpSs P (CW P d) fd.body (⟨cs, l⟩ : Sx).st Q E) (Q := fun v σ => Q v σ.H) h (fun r' e' => evSs_ok (cfX_ok P N d) N fd.body _ _ e') hp fun fl s h => ?_
      cases h
      exact hp))
end Mine

end

section
set_option autoImplicit false
set_option linter.all false
namespace Mine
open PySem (Str)
noncomputable def s_no_list_of_h : Str := ⟨#[110, 111, 32, 108, 105, 115, 116, 32, 111, 102, 32, 104, 97, 110, 100, 115]⟩
noncomputable def s_no_count_of_ : Str := ⟨#[110, 111, 32, 99, 111, 117, 110, 116, 32, 111, 102, 32, 104, 97, 110, 100, 115]⟩
noncomputable def s_no_hand : Str := ⟨#[110, 111, 32, 104, 97, 110, 100]⟩
noncomputable def s_a_hand_in_no : Str := ⟨#[97, 32, 104, 97, 110, 100, 32, 105, 110, 32, 110, 111, 32, 108, 105, 115, 116]⟩
noncomputable def s_a_hand_that_ : Str := ⟨#[97, 32, 104, 97, 110, 100, 32, 116, 104, 97, 116, 32, 102, 101, 108, 108, 32, 97, 119, 97, 121]⟩
noncomputable def s_wish : Str := ⟨#[119, 105, 115, 104]⟩
noncomputable def s_take : Str := ⟨#[116, 97, 107, 101]⟩
noncomputable def s_hold : Str := ⟨#[104, 111, 108, 100]⟩
noncomputable def s_not_the_firs : Str := ⟨#[110, 111, 116, 32, 116, 104, 101, 32, 102, 105, 114, 115, 116, 32, 104, 97, 110, 100]⟩
noncomputable def s_prepare : Str := ⟨#[112, 114, 101, 112, 97, 114, 101]⟩
noncomputable def s_enter : Str := ⟨#[101, 110, 116, 101, 114]⟩
noncomputable def s_the_first_li : Str := ⟨#[116, 104, 101, 32, 102, 105, 114, 115, 116, 32, 108, 105, 115, 116]⟩
noncomputable def s_no_letter_th : Str := ⟨#[110, 111, 32, 108, 101, 116, 116, 101, 114, 32, 116, 104, 101, 114, 101]⟩
noncomputable def s_have : Str := ⟨#[104, 97, 118, 101]⟩
noncomputable def s_promise : Str := ⟨#[112, 114, 111, 109, 105, 115, 101]⟩
noncomputable def s_accept : Str := ⟨#[97, 99, 99, 101, 112, 116]⟩
noncomputable def s_agree : Str := ⟨#[97, 103, 114, 101, 101]⟩
noncomputable def s_odd : Str := ⟨#[111, 100, 100]⟩
noncomputable def s_news : Str := ⟨#[110, 101, 119, 115]⟩
noncomputable def s_first : Str := ⟨#[102, 105, 114, 115, 116]⟩
noncomputable def s_outside : Str := ⟨#[111, 117, 116, 115, 105, 100, 101]⟩
noncomputable def s_fallen : Str := ⟨#[102, 97, 108, 108, 101, 110]⟩
noncomputable def s_letter : Str := ⟨#[108, 101, 116, 116, 101, 114]⟩
noncomputable def s_list : Str := ⟨#[108, 105, 115, 116]⟩
noncomputable def s_hand : Str := ⟨#[104, 97, 110, 100]⟩
noncomputable def s_word : Str := ⟨#[119, 111, 114, 100]⟩
noncomputable def s_empty : Str := ⟨#[]⟩
noncomputable def s_x : Str := ⟨#[49]⟩
noncomputable def F_whole : Fn := ⟨[16], (.cons (.ret (.some (.and (.cons (.call true (.glob 42) (.cons (.loc 16) (.cons (.glob 43) .nil))) (.cons (.not (.call true (.glob 42) (.cons (.loc 16) (.cons (.glob 47) .nil)))) .nil)))))
  .nil)⟩
noncomputable def F_enough : Fn := ⟨[17], (.cons (.ret (.some (.bin true .add (.bin true .fdiv (.call true (.glob 46) (.cons (.loc 17) .nil)) (.cst (.int 2))) (.cst (.int 1)))))
  .nil)⟩
noncomputable def L_is_list_1 : PSs := (.cons (.ite (.or (.cons (.not (.e (.call true (.glob 5) (.cons (.loc 20) .nil)))) (.cons (.e (.cmp .le (.loc 20) (.loc 19))) (.cons (.e (.cmp .ge (.loc 20) (.loc 18))) .nil)))) (.cons (.ret (.some (.cst (.bool false))))
  .nil) .nil)
  (.cons (.assign (.loc 19) (.loc 20))
  .nil))
noncomputable def F_is_list : Fn := ⟨[16, 18], (.cons (.ite (.or (.cons (.not (.e (.call true (.glob 42) (.cons (.loc 16) (.cons (.glob 41) .nil))))) (.cons (.e (.cmp .eq (.call true (.glob 46) (.cons (.loc 16) .nil)) (.cst (.int 0)))) .nil))) (.cons (.ret (.some (.cst (.bool false))))
  .nil) .nil)
  (.cons (.assign (.loc 19) (.neg (.cst (.int 1))))
  (.cons (.loop [20] (.loc 16) L_is_list_1)
  (.cons (.ret (.some (.cst (.bool true))))
  .nil))))⟩
noncomputable def F_Offer___init__ : Fn := ⟨[108, 118, 123], (.cons (.assign (.attr (.loc 108) 118) (.loc 118))
  (.cons (.assign (.attr (.loc 108) 123) (.loc 123))
  (.cons (.assign (.attr (.loc 108) 146) (.dict .nil))
  (.cons (.assign (.attr (.loc 108) 147) (.cst .none))
  (.cons (.assign (.attr (.loc 108) 149) (.dict .nil))
  (.cons (.assign (.attr (.loc 108) 148) (.cst (.bool false)))
  .nil))))))⟩
noncomputable def F_Hand___init__ : Fn := ⟨[108, 109], (.cons (.assign (.attr (.loc 108) 109) (.loc 109))
  (.cons (.assign (.attr (.loc 108) 110) (.cst .none))
  (.cons (.assign (.attr (.loc 108) 111) (.neg (.cst (.int 1))))
  (.cons (.assign (.attr (.loc 108) 17) (.list true .nil))
  (.cons (.assign (.attr (.loc 108) 112) (.cst (.int 0)))
  (.cons (.assign (.attr (.loc 108) 113) (.cst (.bool true)))
  (.cons (.assign (.attr (.loc 108) 114) (.list false .nil))
  (.cons (.assign (.attr (.loc 108) 115) (.cst .none))
  (.cons (.expr (.meth true (.loc 108) 66 .nil))
  .nil)))))))))⟩
noncomputable def F_Hand_begin : Fn := ⟨[108], (.cons (.assign (.attr (.loc 108) 23) (.list false .nil))
  (.cons (.assign (.attr (.loc 108) 116) (.cst (.int 0)))
  (.cons (.assign (.attr (.loc 108) 117) (.cst (.bool false)))
  (.cons (.assign (.attr (.loc 108) 118) (.tup (.cons (.cst (.int 0)) (.cons (.neg (.cst (.int 1))) .nil))))
  (.cons (.assign (.attr (.loc 108) 119) (.cst .none))
  (.cons (.assign (.attr (.loc 108) 120) (.cst .none))
  (.cons (.assign (.attr (.loc 108) 121) (.dict .nil))
  .nil)))))))⟩
noncomputable def F_Hand_goes_into : Fn := ⟨[108, 110, 17, 115], (.cons (.expr (.meth true (.loc 108) 66 .nil))
  (.cons (.assign (.attr (.loc 108) 110) (.loc 110))
  (.cons (.assign (.attr (.loc 108) 17) (.call true (.glob 41) (.cons (.loc 17) .nil)))
  (.cons (.assign (.attr (.loc 108) 115) (.loc 115))
  (.cons (.ite (.e (.cmp .isNot (.loc 110) (.cst .none))) (.cons (.assign (.attr (.loc 108) 111) (.loc 110))
  .nil) .nil)
  .nil)))))⟩
noncomputable def F_Hand_others : Fn := ⟨[108], (.cons (.ret (.some (.comp true (.loc 20) [20] (.attr (.loc 108) 17) (.some (.e (.cmp .ne (.loc 20) (.attr (.loc 108) 109)))))))
  .nil)⟩
noncomputable def L_Hand_held_by_enough_1 : PSs := (.cons (.expr (.meth true (.loc 143) 0 (.cons (.meth true (.attr (.loc 108) 121) 3 (.cons (.loc 20) (.cons (.cst (.int 0)) .nil))) .nil)))
  .nil)
noncomputable def F_Hand_held_by_enough : Fn := ⟨[108], (.cons (.assign (.loc 143) (.list false (.cons (.call true (.glob 46) (.cons (.attr (.loc 108) 23) .nil)) .nil)))
  (.cons (.loop [20] (.meth true (.loc 108) 68 .nil) L_Hand_held_by_enough_1)
  (.cons (.ret (.some (.idx (.sortedRev true 150 (.loc 143)) (.bin true .sub (.call true (.glob 6) (.cons (.attr (.loc 108) 17) .nil)) (.cst (.int 1))))))
  .nil)))⟩
noncomputable def L_Hand_put_forward_1 : PSs := (.cons (.ite (.e (.cmp .gt (.call true (.glob 46) (.cons (.loc 23) .nil)) (.call true (.glob 46) (.cons (.loc 145) .nil)))) (.cons (.assign (.loc 145) (.loc 23))
  .nil) .nil)
  .nil)
noncomputable def L_Hand_put_forward_2 : PSs := (.cons (.ite (.e (.cmp .isIn (.loc 20) (.attr (.attr (.loc 108) 120) 146))) (.cons (.assign (.tup [23, 119]) (.idx (.attr (.attr (.loc 108) 120) 146) (.loc 20)))
  (.cons (.expr (.meth true (.loc 21) 0 (.cons (.loc 23) .nil)))
  (.cons (.ite (.and (.cons (.e (.cmp .isNot (.loc 119) (.cst .none))) (.cons (.or (.cons (.e (.cmp .is (.loc 144) (.cst .none))) (.cons (.e (.cmp .gt (.idx (.loc 119) (.cst (.int 0))) (.idx (.loc 144) (.cst (.int 0))))) .nil))) .nil))) (.cons (.assign (.loc 144) (.loc 119))
  .nil) .nil)
  .nil))) .nil)
  .nil)
noncomputable def F_Hand_put_forward : Fn := ⟨[108], (.cons (.assign (.loc 144) (.cst .none))
  (.cons (.assign (.loc 21) (.list false .nil))
  (.cons (.loop [20] (.attr (.loc 108) 17) L_Hand_put_forward_2)
  (.cons (.ite (.e (.cmp .isNot (.loc 144) (.cst .none))) (.cons (.ret (.some (.idx (.loc 144) (.cst (.int 1)))))
  .nil) .nil)
  (.cons (.assign (.loc 145) (.idx (.loc 21) (.cst (.int 0))))
  (.cons (.loop [23] (.loc 21) L_Hand_put_forward_1)
  (.cons (.ret (.some (.tup (.cons (.call true (.glob 41) (.cons (.attr (.attr (.loc 108) 120) 123) .nil)) (.cons (.call true (.glob 41) (.cons (.loc 145) .nil)) .nil)))))
  .nil)))))))⟩
noncomputable def L_Folk___init___1 : PSs := (.cons (.expr (.meth true (.idx (.attr (.loc 108) 123) (.loc 109)) 67 (.cons (.cst (.int 0)) (.cons (.loc 122) (.cons (.cst .none) .nil)))))
  .nil)
noncomputable def F_Folk___init__ : Fn := ⟨[108, 18, 122], (.cons (.ite (.or (.cons (.not (.e (.call true (.glob 5) (.cons (.loc 18) .nil)))) (.cons (.e (.cmp .lt (.loc 18) (.cst (.int 1)))) (.cons (.e (.cmp .gt (.loc 18) (.glob 71))) .nil)))) (.cons (.raise 52 (.cst (.str s_no_count_of_)))
  .nil) .nil)
  (.cons (.ite (.not (.e (.call true (.glob 7) (.cons (.loc 122) (.cons (.loc 18) .nil))))) (.cons (.raise 53 (.cst (.str s_no_list_of_h)))
  .nil) .nil)
  (.cons (.assign (.attr (.loc 108) 18) (.loc 18))
  (.cons (.assign (.attr (.loc 108) 123) (.comp true (.call true (.glob 59) (.cons (.loc 109) .nil)) [109] (.call true (.glob 44) (.cons (.loc 18) .nil)) .none))
  (.cons (.assign (.attr (.loc 108) 124) (.list false .nil))
  (.cons (.loop [109] (.loc 122) L_Folk___init___1)
  .nil))))))⟩
noncomputable def F_Folk_hand_of : Fn := ⟨[108, 20], (.cons (.ite (.or (.cons (.not (.e (.call true (.glob 5) (.cons (.loc 20) .nil)))) (.cons (.e (.cmp .lt (.loc 20) (.cst (.int 0)))) (.cons (.e (.cmp .ge (.loc 20) (.attr (.loc 108) 18))) .nil)))) (.cons (.raise 52 (.cst (.str s_no_hand)))
  .nil) .nil)
  (.cons (.ret (.some (.idx (.attr (.loc 108) 123) (.loc 20))))
  .nil))⟩
noncomputable def F_Folk_able : Fn := ⟨[108, 20], (.cons (.assign (.loc 125) (.meth true (.loc 108) 72 (.cons (.loc 20) .nil)))
  (.cons (.ite (.not (.e (.attr (.loc 125) 113))) (.cons (.raise 55 (.cst (.str s_a_hand_that_)))
  .nil) .nil)
  (.cons (.ite (.e (.cmp .is (.attr (.loc 125) 110) (.cst .none))) (.cons (.raise 56 (.cst (.str s_a_hand_in_no)))
  .nil) .nil)
  (.cons (.ret (.some (.loc 125)))
  .nil))))⟩
noncomputable def F_Folk_inside : Fn := ⟨[108, 20], (.cons (.assign (.loc 125) (.meth true (.loc 108) 72 (.cons (.loc 20) .nil)))
  (.cons (.ite (.e (.cmp .is (.attr (.loc 125) 110) (.cst .none))) (.cons (.raise 56 (.cst (.str s_a_hand_in_no)))
  .nil) .nil)
  (.cons (.ret (.some (.loc 125)))
  .nil)))⟩
noncomputable def L_Folk_send_1 : PSs := (.cons (.expr (.meth true (.attr (.loc 108) 124) 0 (.cons (.tup (.cons (.loc 126) (.cons (.attr (.loc 125) 109) (.cons (.loc 20) (.cons (.attr (.loc 125) 110) (.cons (.loc 128) .nil)))))) .nil)))
  .nil)
noncomputable def F_Folk_send : Fn := ⟨[108, 126, 125, 127, 128], (.cons (.loop [20] (.loc 127) L_Folk_send_1)
  .nil)⟩
noncomputable def F_Folk_say : Fn := ⟨[108, 20, 126], (.cons (.assign (.loc 125) (.meth true (.loc 108) 73 (.cons (.loc 20) .nil)))
  (.cons (.assign (.loc 131) (.tup (.cons (.loc 20) (.cons (.attr (.loc 125) 112) (.cons (.loc 126) .nil)))))
  (.cons (.augAttr (.loc 125) 112 .add (.cst (.int 1)))
  (.cons (.expr (.meth true (.loc 108) 75 (.cons (.cst (.str s_wish)) (.cons (.loc 125) (.cons (.sl true (.attr (.loc 125) 17) .none (.some (.cst (.int 1)))) (.cons (.loc 131) .nil))))))
  .nil))))⟩
noncomputable def L_Folk_press_1 : PSs := (.cons (.expr (.meth true (.loc 108) 75 (.cons (.cst (.str s_hold)) (.cons (.loc 125) (.cons (.meth true (.loc 125) 68 .nil) (.cons (.tup (.cons (.loc 131) (.cons (.loc 110) .nil))) .nil))))))
  .nil)
noncomputable def F_Folk_press : Fn := ⟨[108, 20], (.cons (.assign (.loc 125) (.meth true (.loc 108) 73 (.cons (.loc 20) .nil)))
  (.cons (.ite (.e (.cmp .ne (.idx (.attr (.loc 125) 17) (.cst (.int 0))) (.loc 20))) (.cons (.raise 57 (.cst (.str s_not_the_firs)))
  .nil) .nil)
  (.cons (.loopEnum 174 110 131 (.attr (.loc 125) 23) L_Folk_press_1)
  (.cons (.expr (.meth true (.loc 108) 75 (.cons (.cst (.str s_take)) (.cons (.loc 125) (.cons (.meth true (.loc 125) 68 .nil) (.cons (.attr (.loc 125) 116) .nil))))))
  .nil))))⟩
noncomputable def F_Folk_propose : Fn := ⟨[108, 20, 17], (.cons (.assign (.loc 125) (.meth true (.loc 108) 73 (.cons (.loc 20) .nil)))
  (.cons (.ite (.not (.e (.call true (.glob 7) (.cons (.loc 17) (.cons (.attr (.loc 108) 18) .nil))))) (.cons (.raise 53 (.cst (.str s_no_list_of_h)))
  .nil) .nil)
  (.cons (.assign (.loc 145) (.idx (.attr (.loc 125) 118) (.cst (.int 0))))
  (.cons (.ite (.e (.cmp .isNot (.attr (.loc 125) 120) (.cst .none))) (.cons (.assign (.loc 145) (.call true (.glob 151) (.cons (.loc 145) (.cons (.idx (.attr (.attr (.loc 125) 120) 118) (.cst (.int 0))) .nil))))
  .nil) .nil)
  (.cons (.assign (.attr (.loc 125) 120) (.call true (.glob 155) (.cons (.tup (.cons (.bin true .add (.loc 145) (.cst (.int 1))) (.cons (.loc 20) .nil))) (.cons (.call true (.glob 41) (.cons (.loc 17) .nil)) .nil))))
  (.cons (.expr (.meth true (.loc 108) 75 (.cons (.cst (.str s_prepare)) (.cons (.loc 125) (.cons (.attr (.loc 125) 17) (.cons (.attr (.attr (.loc 125) 120) 118) .nil))))))
  .nil))))))⟩
noncomputable def F_Folk_show : Fn := ⟨[108, 20, 129], (.cons (.assign (.loc 125) (.meth true (.loc 108) 73 (.cons (.loc 20) .nil)))
  (.cons (.expr (.meth true (.loc 108) 72 (.cons (.loc 129) .nil)))
  (.cons (.ite (.e (.cmp .is (.attr (.loc 125) 115) (.cst .none))) (.cons (.raise 58 (.cst (.str s_the_first_li)))
  .nil) .nil)
  (.cons (.expr (.meth true (.loc 108) 75 (.cons (.cst (.str s_enter)) (.cons (.loc 125) (.cons (.list true (.cons (.loc 129) .nil)) (.cons (.attr (.loc 125) 115) .nil))))))
  .nil))))⟩
noncomputable def F_Folk_fall : Fn := ⟨[108, 20], (.cons (.assign (.loc 125) (.meth true (.loc 108) 72 (.cons (.loc 20) .nil)))
  (.cons (.ite (.not (.e (.attr (.loc 125) 113))) (.cons (.raise 55 (.cst (.str s_a_hand_that_)))
  .nil) .nil)
  (.cons (.assign (.attr (.loc 125) 113) (.cst (.bool false)))
  .nil)))⟩
noncomputable def F_Folk_letter_at : Fn := ⟨[108, 110], (.cons (.ite (.or (.cons (.not (.e (.call true (.glob 5) (.cons (.loc 110) .nil)))) (.cons (.e (.cmp .lt (.loc 110) (.cst (.int 0)))) (.cons (.e (.cmp .ge (.loc 110) (.call true (.glob 46) (.cons (.attr (.loc 108) 124) .nil)))) .nil)))) (.cons (.raise 54 (.cst (.str s_no_letter_th)))
  .nil) .nil)
  (.cons (.ret (.some (.idx (.attr (.loc 108) 124) (.loc 110))))
  .nil))⟩
noncomputable def F_Folk_come : Fn := ⟨[108, 110], (.cons (.assign (.tup [126, 130, 127, 109, 128]) (.meth true (.loc 108) 81 (.cons (.loc 110) .nil)))
  (.cons (.expr (.meth true (.attr (.loc 108) 124) 1 (.cons (.loc 110) .nil)))
  (.cons (.assign (.loc 125) (.idx (.attr (.loc 108) 123) (.loc 127)))
  (.cons (.ite (.not (.e (.attr (.loc 125) 113))) (.cons (.ret .none)
  .nil) .nil)
  (.cons (.ite (.e (.cmp .eq (.loc 126) (.cst (.str s_enter)))) (.cons (.expr (.meth true (.loc 108) 94 (.cons (.loc 125) (.cons (.loc 128) .nil))))
  .nil) (.cons (.ite (.and (.cons (.e (.cmp .isNot (.attr (.loc 125) 110) (.cst .none))) (.cons (.e (.cmp .eq (.attr (.loc 125) 110) (.loc 109))) .nil))) (.cons (.expr (.meth true (.loc 108) 86 (.cons (.loc 126) (.cons (.loc 125) (.cons (.loc 130) (.cons (.loc 128) .nil))))))
  .nil) .nil)
  .nil))
  .nil)))))⟩
noncomputable def L_Folk_calm_1 : PSs := (.cons (.expr (.meth true (.loc 108) 84 (.cons (.cst (.int 0)) .nil)))
  (.cons (.augLoc 18 .add (.cst (.int 1)))
  .nil))
noncomputable def F_Folk_calm : Fn := ⟨[108], (.cons (.assign (.loc 18) (.cst (.int 0)))
  (.cons (.while_ (.e (.attr (.loc 108) 124)) L_Folk_calm_1)
  (.cons (.ret (.some (.loc 18)))
  .nil)))⟩
noncomputable def F_Folk_taken_up : Fn := ⟨[108, 126, 125, 130, 128], (.cons (.ite (.e (.cmp .eq (.loc 126) (.cst (.str s_wish)))) (.cons (.expr (.meth true (.loc 108) 87 (.cons (.loc 125) (.cons (.loc 128) .nil))))
  .nil) (.cons (.ite (.e (.cmp .eq (.loc 126) (.cst (.str s_hold)))) (.cons (.expr (.meth true (.loc 108) 88 (.cons (.loc 125) (.cons (.loc 130) (.cons (.loc 128) .nil)))))
  .nil) (.cons (.ite (.e (.cmp .eq (.loc 126) (.cst (.str s_have)))) (.cons (.assign (.idx (.attr (.loc 125) 121) (.loc 130)) (.call true (.glob 151) (.cons (.loc 128) (.cons (.meth true (.attr (.loc 125) 121) 3 (.cons (.loc 130) (.cons (.cst (.int 0)) .nil))) .nil))))
  (.cons (.expr (.meth true (.loc 108) 89 (.cons (.loc 125) .nil)))
  .nil)) (.cons (.ite (.e (.cmp .eq (.loc 126) (.cst (.str s_take)))) (.cons (.assign (.attr (.loc 125) 116) (.call true (.glob 151) (.cons (.attr (.loc 125) 116) (.cons (.call true (.glob 154) (.cons (.loc 128) (.cons (.call true (.glob 46) (.cons (.attr (.loc 125) 23) .nil)) .nil))) .nil))))
  .nil) (.cons (.ite (.e (.cmp .eq (.loc 126) (.cst (.str s_prepare)))) (.cons (.expr (.meth true (.loc 108) 90 (.cons (.loc 125) (.cons (.loc 130) (.cons (.loc 128) .nil)))))
  .nil) (.cons (.ite (.e (.cmp .eq (.loc 126) (.cst (.str s_promise)))) (.cons (.expr (.meth true (.loc 108) 91 (.cons (.loc 125) (.cons (.loc 130) (.cons (.loc 128) .nil)))))
  .nil) (.cons (.ite (.e (.cmp .eq (.loc 126) (.cst (.str s_accept)))) (.cons (.expr (.meth true (.loc 108) 92 (.cons (.loc 125) (.cons (.loc 130) (.cons (.loc 128) .nil)))))
  .nil) (.cons (.expr (.meth true (.loc 108) 93 (.cons (.loc 125) (.cons (.loc 130) (.cons (.loc 128) .nil)))))
  .nil))
  .nil))
  .nil))
  .nil))
  .nil))
  .nil))
  .nil))
  .nil)⟩
noncomputable def F_Folk_wished : Fn := ⟨[108, 125, 131], (.cons (.ite (.or (.cons (.e (.attr (.loc 125) 117)) (.cons (.e (.cmp .isIn (.loc 131) (.attr (.loc 125) 23))) .nil))) (.cons (.ret .none)
  .nil) .nil)
  (.cons (.expr (.meth true (.attr (.loc 125) 23) 0 (.cons (.loc 131) .nil)))
  (.cons (.expr (.meth true (.loc 108) 75 (.cons (.cst (.str s_hold)) (.cons (.loc 125) (.cons (.meth true (.loc 125) 68 .nil) (.cons (.tup (.cons (.loc 131) (.cons (.bin true .sub (.call true (.glob 46) (.cons (.attr (.loc 125) 23) .nil)) (.cst (.int 1))) .nil))) .nil))))))
  (.cons (.expr (.meth true (.loc 108) 89 (.cons (.loc 125) .nil)))
  .nil))))⟩
noncomputable def F_Folk_held : Fn := ⟨[108, 125, 130, 128], (.cons (.assign (.tup [131, 110]) (.loc 128))
  (.cons (.ite (.or (.cons (.e (.attr (.loc 125) 117)) (.cons (.e (.cmp .gt (.loc 110) (.call true (.glob 46) (.cons (.attr (.loc 125) 23) .nil)))) .nil))) (.cons (.ret .none)
  .nil) .nil)
  (.cons (.ite (.e (.cmp .eq (.loc 110) (.call true (.glob 46) (.cons (.attr (.loc 125) 23) .nil)))) (.cons (.expr (.meth true (.attr (.loc 125) 23) 0 (.cons (.loc 131) .nil)))
  .nil) .nil)
  (.cons (.expr (.meth true (.loc 108) 75 (.cons (.cst (.str s_have)) (.cons (.loc 125) (.cons (.list true (.cons (.loc 130) .nil)) (.cons (.call true (.glob 46) (.cons (.attr (.loc 125) 23) .nil)) .nil))))))
  .nil))))⟩
noncomputable def F_Folk_look : Fn := ⟨[108, 125], (.cons (.assign (.loc 18) (.meth true (.loc 125) 69 .nil))
  (.cons (.ite (.e (.cmp .gt (.loc 18) (.attr (.loc 125) 116))) (.cons (.assign (.attr (.loc 125) 116) (.loc 18))
  (.cons (.expr (.meth true (.loc 108) 75 (.cons (.cst (.str s_take)) (.cons (.loc 125) (.cons (.meth true (.loc 125) 68 .nil) (.cons (.loc 18) .nil))))))
  .nil)) .nil)
  .nil))⟩
noncomputable def F_Folk_prepared : Fn := ⟨[108, 125, 130, 118], (.cons (.ite (.e (.cmp .gt (.loc 118) (.attr (.loc 125) 118))) (.cons (.assign (.attr (.loc 125) 118) (.loc 118))
  (.cons (.assign (.attr (.loc 125) 117) (.cst (.bool true)))
  (.cons (.expr (.meth true (.loc 108) 75 (.cons (.cst (.str s_promise)) (.cons (.loc 125) (.cons (.list true (.cons (.loc 130) .nil)) (.cons (.tup (.cons (.loc 118) (.cons (.call true (.glob 41) (.cons (.attr (.loc 125) 23) .nil)) (.cons (.attr (.loc 125) 119) .nil)))) .nil))))))
  .nil))) .nil)
  .nil)⟩
noncomputable def F_Folk_promised : Fn := ⟨[108, 125, 130, 128], (.cons (.assign (.tup [118, 23, 119]) (.loc 128))
  (.cons (.assign (.loc 120) (.attr (.loc 125) 120))
  (.cons (.ite (.or (.cons (.e (.cmp .is (.loc 120) (.cst .none))) (.cons (.e (.cmp .ne (.attr (.loc 120) 118) (.loc 118))) (.cons (.e (.cmp .isNot (.attr (.loc 120) 147) (.cst .none))) .nil)))) (.cons (.ret .none)
  .nil) .nil)
  (.cons (.assign (.idx (.attr (.loc 120) 146) (.loc 130)) (.tup (.cons (.loc 23) (.cons (.loc 119) .nil))))
  (.cons (.ite (.e (.cmp .ge (.call true (.glob 46) (.cons (.attr (.loc 120) 146) .nil)) (.call true (.glob 6) (.cons (.attr (.loc 125) 17) .nil)))) (.cons (.assign (.attr (.loc 120) 147) (.meth true (.loc 125) 70 .nil))
  (.cons (.expr (.meth true (.loc 108) 75 (.cons (.cst (.str s_accept)) (.cons (.loc 125) (.cons (.attr (.loc 125) 17) (.cons (.tup (.cons (.loc 118) (.cons (.attr (.loc 120) 147) .nil))) .nil))))))
  .nil)) .nil)
  .nil)))))⟩
noncomputable def F_Folk_accepted : Fn := ⟨[108, 125, 130, 128], (.cons (.assign (.loc 118) (.idx (.loc 128) (.cst (.int 0))))
  (.cons (.ite (.e (.cmp .ge (.loc 118) (.attr (.loc 125) 118))) (.cons (.assign (.attr (.loc 125) 118) (.loc 118))
  (.cons (.assign (.attr (.loc 125) 117) (.cst (.bool true)))
  (.cons (.assign (.attr (.loc 125) 119) (.loc 128))
  (.cons (.expr (.meth true (.loc 108) 75 (.cons (.cst (.str s_agree)) (.cons (.loc 125) (.cons (.list true (.cons (.loc 130) .nil)) (.cons (.loc 118) .nil))))))
  .nil)))) .nil)
  .nil))⟩
noncomputable def F_Folk_agreed_to : Fn := ⟨[108, 125, 130, 118], (.cons (.assign (.loc 120) (.attr (.loc 125) 120))
  (.cons (.ite (.or (.cons (.e (.cmp .is (.loc 120) (.cst .none))) (.cons (.e (.cmp .ne (.attr (.loc 120) 118) (.loc 118))) (.cons (.e (.attr (.loc 120) 148)) .nil)))) (.cons (.ret .none)
  .nil) .nil)
  (.cons (.assign (.idx (.attr (.loc 120) 149) (.loc 130)) (.cst (.bool true)))
  (.cons (.ite (.e (.cmp .ge (.call true (.glob 46) (.cons (.attr (.loc 120) 149) .nil)) (.call true (.glob 6) (.cons (.attr (.loc 125) 17) .nil)))) (.cons (.assign (.attr (.loc 120) 148) (.cst (.bool true)))
  (.cons (.assign (.tup [123, 23]) (.attr (.loc 120) 147))
  (.cons (.assign (.loc 127) (.sortedU true 150 152 (.attr (.loc 125) 17) (.loc 123)))
  (.cons (.assign (.loc 100) (.comp true (.loc 20) [20] (.attr (.loc 125) 17) (.some (.e (.cmp .isIn (.loc 20) (.attr (.loc 120) 149))))))
  (.cons (.expr (.meth true (.loc 108) 75 (.cons (.cst (.str s_enter)) (.cons (.loc 125) (.cons (.loc 127) (.cons (.tup (.cons (.bin true .add (.attr (.loc 125) 110) (.cst (.int 1))) (.cons (.call true (.glob 41) (.cons (.loc 123) .nil)) (.cons (.call true (.glob 41) (.cons (.loc 23) .nil)) (.cons (.loc 100) .nil))))) .nil))))))
  .nil))))) .nil)
  .nil))))⟩
noncomputable def F_Folk_entered : Fn := ⟨[108, 125, 128], (.cons (.assign (.tup [109, 123, 23, 100]) (.loc 128))
  (.cons (.ite (.e (.cmp .is (.attr (.loc 125) 110) (.cst .none))) (.cons (.ite (.and (.cons (.e (.cmp .isIn (.attr (.loc 125) 109) (.loc 123))) (.cons (.e (.cmp .lt (.attr (.loc 125) 111) (.loc 109))) .nil))) (.cons (.expr (.meth true (.loc 125) 67 (.cons (.loc 109) (.cons (.loc 123) (.cons (.loc 128) .nil)))))
  .nil) .nil)
  (.cons (.ret .none)
  .nil)) .nil)
  (.cons (.ite (.e (.cmp .ne (.attr (.loc 125) 110) (.bin true .sub (.loc 109) (.cst (.int 1))))) (.cons (.ret .none)
  .nil) .nil)
  (.cons (.expr (.meth true (.attr (.loc 125) 114) 0 (.cons (.tup (.cons (.attr (.loc 125) 110) (.cons (.call true (.glob 41) (.cons (.attr (.loc 125) 17) .nil)) (.cons (.call true (.glob 41) (.cons (.loc 23) .nil)) .nil)))) .nil)))
  (.cons (.ite (.e (.cmp .isIn (.attr (.loc 125) 109) (.loc 123))) (.cons (.expr (.meth true (.loc 125) 67 (.cons (.loc 109) (.cons (.loc 123) (.cons (.loc 128) .nil)))))
  .nil) (.cons (.expr (.meth true (.loc 125) 67 (.cons (.cst .none) (.cons (.list true .nil) (.cons (.cst .none) .nil)))))
  .nil))
  .nil)))))⟩
noncomputable def F_Folk_letters : Fn := ⟨[108], (.cons (.ret (.some (.comp false (.sl true (.loc 134) .none (.some (.cst (.int 3)))) [134] (.attr (.loc 108) 124) .none)))
  .nil)⟩
noncomputable def F_Folk_stands : Fn := ⟨[108, 20], (.cons (.ret (.some (.attr (.meth true (.loc 108) 72 (.cons (.loc 20) .nil)) 113)))
  .nil)⟩
noncomputable def F_Folk_list_of : Fn := ⟨[108, 20], (.cons (.assign (.loc 125) (.meth true (.loc 108) 74 (.cons (.loc 20) .nil)))
  (.cons (.ret (.some (.tup (.cons (.attr (.loc 125) 110) (.cons (.call true (.glob 41) (.cons (.attr (.loc 125) 17) .nil)) .nil)))))
  .nil))⟩
noncomputable def F_Folk_taken : Fn := ⟨[108, 20], (.cons (.assign (.loc 125) (.meth true (.loc 108) 74 (.cons (.loc 20) .nil)))
  (.cons (.ret (.some (.call false (.glob 41) (.cons (.sl true (.attr (.loc 125) 23) .none (.some (.attr (.loc 125) 116))) .nil))))
  .nil))⟩
noncomputable def F_Folk_is_still : Fn := ⟨[108, 20], (.cons (.ret (.some (.attr (.meth true (.loc 108) 74 (.cons (.loc 20) .nil)) 117)))
  .nil)⟩
noncomputable def F_Folk_witness : Fn := ⟨[108, 20], (.cons (.assign (.loc 125) (.meth true (.loc 108) 74 (.cons (.loc 20) .nil)))
  (.cons (.ite (.e (.cmp .is (.attr (.loc 125) 115) (.cst .none))) (.cons (.ret (.some (.list false .nil)))
  .nil) .nil)
  (.cons (.ret (.some (.call false (.glob 41) (.cons (.idx (.attr (.loc 125) 115) (.cst (.int 3))) .nil))))
  .nil)))⟩
noncomputable def F_Folk_past : Fn := ⟨[108, 20], (.cons (.ret (.some (.comp false (.tup (.cons (.loc 110) (.cons (.call true (.glob 41) (.cons (.loc 123) .nil)) (.cons (.call true (.glob 41) (.cons (.loc 23) .nil)) .nil)))) [110, 123, 23] (.attr (.meth true (.loc 108) 72 (.cons (.loc 20) .nil)) 114) .none)))
  .nil)⟩
noncomputable def F__law_draw : Fn := ⟨[24, 25], (.cons (.ret (.some (.ite (.e (.cmp .gt (.call true (.glob 46) (.cons (.loc 24) .nil)) (.loc 25))) (.idx (.loc 24) (.loc 25)) (.cst (.int 0)))))
  .nil)⟩
noncomputable def F__law_words : Fn := ⟨[103], (.cons (.assign (.loc 104) (.list false .nil))
  (.cons (.ite (.e (.call true (.glob 42) (.cons (.loc 103) (.cons (.glob 52) .nil)))) (.cons (.expr (.meth true (.loc 104) 0 (.cons (.cst (.str s_hand)) .nil)))
  .nil) .nil)
  (.cons (.ite (.e (.call true (.glob 42) (.cons (.loc 103) (.cons (.glob 53) .nil)))) (.cons (.expr (.meth true (.loc 104) 0 (.cons (.cst (.str s_list)) .nil)))
  .nil) .nil)
  (.cons (.ite (.e (.call true (.glob 42) (.cons (.loc 103) (.cons (.glob 54) .nil)))) (.cons (.expr (.meth true (.loc 104) 0 (.cons (.cst (.str s_letter)) .nil)))
  .nil) .nil)
  (.cons (.ite (.e (.call true (.glob 42) (.cons (.loc 103) (.cons (.glob 55) .nil)))) (.cons (.expr (.meth true (.loc 104) 0 (.cons (.cst (.str s_fallen)) .nil)))
  .nil) .nil)
  (.cons (.ite (.e (.call true (.glob 42) (.cons (.loc 103) (.cons (.glob 56) .nil)))) (.cons (.expr (.meth true (.loc 104) 0 (.cons (.cst (.str s_outside)) .nil)))
  .nil) .nil)
  (.cons (.ite (.e (.call true (.glob 42) (.cons (.loc 103) (.cons (.glob 57) .nil)))) (.cons (.expr (.meth true (.loc 104) 0 (.cons (.cst (.str s_first)) .nil)))
  .nil) .nil)
  (.cons (.ite (.e (.call true (.glob 42) (.cons (.loc 103) (.cons (.glob 58) .nil)))) (.cons (.expr (.meth true (.loc 104) 0 (.cons (.cst (.str s_news)) .nil)))
  .nil) .nil)
  (.cons (.ret (.some (.ite (.and (.cons (.e (.cmp .eq (.call true (.glob 46) (.cons (.loc 104) .nil)) (.cst (.int 1)))) (.cons (.e (.call true (.glob 42) (.cons (.loc 103) (.cons (.glob 64) .nil)))) .nil))) (.idx (.loc 104) (.cst (.int 0))) (.cst (.str s_odd)))))
  .nil)))))))))⟩
noncomputable def F__law_call : Fn := ⟨[106, 31, 29, 12], (.cons (.ite (.e (.cmp .eq (.loc 31) (.cst (.int 0)))) (.cons (.ret (.some (.meth true (.loc 106) 76 (.cons (.loc 29) (.cons (.cst (.str s_word)) .nil)))))
  .nil) .nil)
  (.cons (.ite (.e (.cmp .eq (.loc 31) (.cst (.int 1)))) (.cons (.ret (.some (.meth true (.loc 106) 77 (.cons (.loc 29) .nil))))
  .nil) .nil)
  (.cons (.ite (.e (.cmp .eq (.loc 31) (.cst (.int 2)))) (.cons (.ret (.some (.meth true (.loc 106) 78 (.cons (.loc 29) (.cons (.loc 12) .nil)))))
  .nil) .nil)
  (.cons (.ite (.e (.cmp .eq (.loc 31) (.cst (.int 3)))) (.cons (.ret (.some (.meth true (.loc 106) 79 (.cons (.loc 29) (.cons (.loc 12) .nil)))))
  .nil) .nil)
  (.cons (.ite (.e (.cmp .eq (.loc 31) (.cst (.int 4)))) (.cons (.ret (.some (.meth true (.loc 106) 80 (.cons (.loc 29) .nil))))
  .nil) .nil)
  (.cons (.ite (.e (.cmp .eq (.loc 31) (.cst (.int 5)))) (.cons (.ret (.some (.meth true (.loc 106) 97 (.cons (.loc 29) .nil))))
  .nil) .nil)
  (.cons (.ite (.e (.cmp .eq (.loc 31) (.cst (.int 6)))) (.cons (.ret (.some (.meth true (.loc 106) 98 (.cons (.loc 29) .nil))))
  .nil) .nil)
  (.cons (.ite (.e (.cmp .eq (.loc 31) (.cst (.int 7)))) (.cons (.ret (.some (.meth true (.loc 106) 99 (.cons (.loc 29) .nil))))
  .nil) .nil)
  (.cons (.ite (.e (.cmp .eq (.loc 31) (.cst (.int 8)))) (.cons (.ret (.some (.meth true (.loc 106) 100 (.cons (.loc 29) .nil))))
  .nil) .nil)
  (.cons (.ite (.e (.cmp .eq (.loc 31) (.cst (.int 9)))) (.cons (.ret (.some (.meth true (.loc 106) 101 (.cons (.loc 29) .nil))))
  .nil) .nil)
  (.cons (.ret (.some (.meth true (.loc 106) 96 (.cons (.loc 29) .nil))))
  .nil)))))))))))⟩
noncomputable def F__law_told : Fn := ⟨[106, 31, 29, 12], (.cons (.try_ (.cons (.expr (.call true (.glob 168) (.cons (.loc 106) (.cons (.loc 31) (.cons (.loc 29) (.cons (.loc 12) .nil))))))
  .nil) 51 (some 103) (.cons (.ret (.some (.call true (.glob 61) (.cons (.loc 103) .nil))))
  .nil))
  (.cons (.ret (.some (.cst (.str s_empty))))
  .nil))⟩
noncomputable def F__law_due : Fn := ⟨[31, 29, 170, 171, 172, 173], (.cons (.ite (.not (.e (.loc 170))) (.cons (.ret (.some (.cst (.str s_hand))))
  .nil) .nil)
  (.cons (.ite (.and (.cons (.e (.cmp .lt (.loc 31) (.cst (.int 5)))) (.cons (.e (.cmp .eq (.loc 29) (.loc 172))) .nil))) (.cons (.ret (.some (.cst (.str s_fallen))))
  .nil) .nil)
  (.cons (.ite (.and (.cons (.or (.cons (.e (.cmp .lt (.loc 31) (.cst (.int 4)))) (.cons (.e (.cmp2 .lt .lt (.cst (.int 4)) (.loc 31) (.cst (.int 9)))) .nil))) (.cons (.e (.cmp .notIn (.loc 29) (.loc 173))) .nil))) (.cons (.ret (.some (.cst (.str s_outside))))
  .nil) .nil)
  (.cons (.ite (.and (.cons (.e (.cmp .eq (.loc 31) (.cst (.int 1)))) (.cons (.e (.cmp .ne (.loc 29) (.idx (.loc 173) (.cst (.int 0))))) .nil))) (.cons (.ret (.some (.cst (.str s_first))))
  .nil) .nil)
  (.cons (.ite (.and (.cons (.e (.cmp .eq (.loc 31) (.cst (.int 2)))) (.cons (.e (.loc 171)) .nil))) (.cons (.ret (.some (.cst (.str s_list))))
  .nil) .nil)
  (.cons (.ite (.and (.cons (.e (.cmp .eq (.loc 31) (.cst (.int 3)))) (.cons (.e (.loc 171)) .nil))) (.cons (.ret (.some (.cst (.str s_hand))))
  .nil) .nil)
  (.cons (.ite (.and (.cons (.e (.cmp .eq (.loc 31) (.cst (.int 3)))) (.cons (.e (.cmp .eq (.loc 173) (.list true (.cons (.cst (.int 0)) (.cons (.cst (.int 1)) (.cons (.cst (.int 2)) .nil)))))) .nil))) (.cons (.ret (.some (.cst (.str s_news))))
  .nil) .nil)
  (.cons (.ret (.some (.cst (.str s_empty))))
  .nil))))))))⟩
noncomputable def S_law_0 : PS := (.assign (.loc 106) (.call true (.glob 60) (.cons (.cst (.int 5)) (.cons (.list true (.cons (.cst (.int 0)) (.cons (.cst (.int 1)) (.cons (.cst (.int 2)) .nil)))) .nil))))
noncomputable def S_law_1 : PS := (.assign (.loc 173) (.list true (.cons (.cst (.int 0)) (.cons (.cst (.int 1)) (.cons (.cst (.int 2)) .nil)))))
noncomputable def S_law_2 : PS := (.ite (.e (.cmp .eq (.bin true .mod (.call true (.glob 9) (.cons (.loc 24) (.cons (.cst (.int 0)) .nil))) (.cst (.int 2))) (.cst (.int 1)))) (.cons (.expr (.meth true (.loc 106) 78 (.cons (.cst (.int 1)) (.cons (.list true (.cons (.cst (.int 1)) (.cons (.cst (.int 2)) (.cons (.cst (.int 3)) .nil)))) .nil))))
  (.cons (.expr (.meth true (.loc 106) 85 .nil))
  (.cons (.assign (.loc 173) (.list true (.cons (.cst (.int 1)) (.cons (.cst (.int 2)) (.cons (.cst (.int 3)) .nil)))))
  .nil))) .nil)
noncomputable def S_law_3 : PS := (.assign (.loc 172) (.bin true .mod (.call true (.glob 9) (.cons (.loc 24) (.cons (.cst (.int 1)) .nil))) (.cst (.int 8))))
noncomputable def S_law_4 : PS := (.ite (.e (.cmp .lt (.loc 172) (.cst (.int 5)))) (.cons (.expr (.meth true (.loc 106) 80 (.cons (.loc 172) .nil)))
  .nil) .nil)
noncomputable def S_law_5 : PS := (.assign (.loc 31) (.bin true .mod (.call true (.glob 9) (.cons (.loc 24) (.cons (.cst (.int 2)) .nil))) (.cst (.int 11))))
noncomputable def S_law_6 : PS := (.assign (.loc 29) (.bin true .mod (.call true (.glob 9) (.cons (.loc 24) (.cons (.cst (.int 3)) .nil))) (.cst (.int 5))))
noncomputable def S_law_7 : PS := (.assign (.loc 170) (.cmp .gt (.bin true .mod (.bin true .fdiv (.call true (.glob 9) (.cons (.loc 24) (.cons (.cst (.int 3)) .nil))) (.cst (.int 5))) (.cst (.int 4))) (.cst (.int 0))))
noncomputable def S_law_8 : PS := (.ite (.not (.e (.loc 170))) (.cons (.assign (.loc 29) (.idx (.list true (.cons (.neg (.cst (.int 1))) (.cons (.cst (.int 5)) (.cons (.cst (.bool true)) (.cons (.cst (.str s_x)) (.cons (.cst .none) (.cons (.bin true .pow (.cst (.int 10)) (.cst (.int 20))) (.cons (.cst (.bool false)) .nil)))))))) (.bin true .mod (.bin true .fdiv (.call true (.glob 9) (.cons (.loc 24) (.cons (.cst (.int 3)) .nil))) (.cst (.int 20))) (.cst (.int 7)))))
  .nil) .nil)
noncomputable def S_law_9 : PS := (.assign (.loc 171) (.cmp .eq (.bin true .mod (.call true (.glob 9) (.cons (.loc 24) (.cons (.cst (.int 4)) .nil))) (.cst (.int 2))) (.cst (.int 1))))
noncomputable def S_law_10 : PS := (.assign (.loc 12) (.list true (.cons (.cst (.int 3)) (.cons (.cst (.int 4)) .nil))))
noncomputable def S_law_11 : PS := (.ite (.and (.cons (.e (.cmp .eq (.loc 31) (.cst (.int 2)))) (.cons (.e (.loc 171)) .nil))) (.cons (.assign (.loc 12) (.idx (.list true (.cons (.list true .nil) (.cons (.list true (.cons (.cst (.int 4)) (.cons (.cst (.int 3)) .nil))) (.cons (.list true (.cons (.cst (.int 3)) (.cons (.cst (.int 3)) .nil))) (.cons (.list true (.cons (.cst (.int 5)) .nil)) (.cons (.tup (.cons (.cst (.int 3)) (.cons (.cst (.int 4)) .nil))) (.cons (.cst .none) (.cons (.list true (.cons (.neg (.cst (.int 1))) (.cons (.cst (.int 2)) .nil))) (.cons (.list true (.cons (.cst (.bool true)) .nil)) (.cons (.list true (.cons (.cst (.bool false)) (.cons (.cst (.int 3)) .nil))) .nil)))))))))) (.bin true .mod (.bin true .fdiv (.call true (.glob 9) (.cons (.loc 24) (.cons (.cst (.int 4)) .nil))) (.cst (.int 2))) (.cst (.int 9)))))
  .nil) .nil)
noncomputable def S_law_12 : PS := (.ite (.e (.cmp .eq (.loc 31) (.cst (.int 3)))) (.cons (.assign (.loc 12) (.bin true .mod (.bin true .fdiv (.call true (.glob 9) (.cons (.loc 24) (.cons (.cst (.int 4)) .nil))) (.cst (.int 2))) (.cst (.int 5))))
  (.cons (.ite (.e (.loc 171)) (.cons (.assign (.loc 12) (.idx (.list true (.cons (.neg (.cst (.int 1))) (.cons (.cst (.int 5)) (.cons (.cst (.bool false)) (.cons (.cst (.bool true)) (.cons (.cst .none) .nil)))))) (.loc 12)))
  .nil) .nil)
  .nil)) .nil)
noncomputable def S_law_13 : PS := (.assign (.loc 37) (.call true (.glob 13) (.cons (.loc 31) (.cons (.loc 29) (.cons (.loc 170) (.cons (.loc 171) (.cons (.loc 172) (.cons (.loc 173) .nil))))))))
noncomputable def S_law_14 : PS := (.ite (.e (.cmp .ne (.call true (.glob 169) (.cons (.loc 106) (.cons (.loc 31) (.cons (.loc 29) (.cons (.loc 12) .nil))))) (.loc 37))) (.cons (.ret (.some (.cst (.bool false))))
  .nil) .nil)
noncomputable def S_law_15 : PS := (.ite (.or (.cons (.e (.cmp .ne (.loc 37) (.cst (.str s_empty)))) (.cons (.e (.cmp .gt (.loc 31) (.cst (.int 3)))) .nil))) (.cons (.ret (.some (.cmp .eq (.meth true (.loc 106) 95 .nil) (.list true .nil))))
  .nil) .nil)
noncomputable def S_law_16 : PS := (.ret (.some (.cst (.bool true))))
noncomputable def F_law : Fn := ⟨[24], (.cons S_law_0 (.cons S_law_1 (.cons S_law_2 (.cons S_law_3 (.cons S_law_4 (.cons S_law_5 (.cons S_law_6 (.cons S_law_7 (.cons S_law_8 (.cons S_law_9 (.cons S_law_10 (.cons S_law_11 (.cons S_law_12 (.cons S_law_13 (.cons S_law_14 (.cons S_law_15 (.cons S_law_16 .nil)))))))))))))))))⟩
noncomputable def tb : Tb where
  nms := [(0, "append"), (1, "pop"), (2, "extend"), (3, "get"), (4, "setdefault"), (5, "whole"), (6, "enough"), (7, "is_list"), (9, "_law_draw"), (12, "_law_thing"), (13, "_law_due"), (14, "law"), (16, "thing"), (17, "members"), (18, "many"), (19, "ahead"), (20, "hand"), (21, "rows"), (23, "row"), (24, "_law_script"), (25, "_law_k"), (29, "_law_hand"), (31, "_law_way"), (37, "_law_due_here"), (41, "list"), (42, "isinstance"), (43, "int"), (44, "range"), (46, "len"), (47, "bool"), (51, "FolkError"), (52, "BadHand"), (53, "BadList"), (54, "NoLetter"), (55, "Fallen"), (56, "Outside"), (57, "NotFirst"), (58, "NoNews"), (59, "Hand"), (60, "Folk"), (61, "_law_words"), (64, "ValueError"), (65, "__init__"), (66, "begin"), (67, "goes_into"), (68, "others"), (69, "held_by_enough"), (70, "put_forward"), (71, "MOST"), (72, "hand_of"), (73, "able"), (74, "inside"), (75, "send"), (76, "say"), (77, "press"), (78, "propose"), (79, "show"), (80, "fall"), (81, "letter_at"), (84, "come"), (85, "calm"), (86, "taken_up"), (87, "wished"), (88, "held"), (89, "look"), (90, "prepared"), (91, "promised"), (92, "accepted"), (93, "agreed_to"), (94, "entered"), (95, "letters"), (96, "stands"), (97, "list_of"), (98, "taken"), (99, "is_still"), (100, "witness"), (101, "past"), (103, "_law_e"), (104, "_law_words_here"), (106, "_law_folk"), (108, "self"), (109, "number"), (110, "place"), (111, "highest"), (112, "said"), (113, "up"), (114, "gone"), (115, "news"), (116, "took"), (117, "still"), (118, "ballot"), (119, "agreed"), (120, "offer"), (121, "holds"), (122, "first"), (123, "hands"), (124, "under"), (125, "one"), (126, "word"), (127, "to"), (128, "content"), (129, "other"), (130, "sender"), (131, "message"), (134, "letter"), (143, "counts"), (144, "best"), (145, "most"), (146, "promises"), (147, "value"), (148, "is_over"), (149, "agrees"), (150, "sorted"), (151, "max"), (152, "set"), (154, "min"), (155, "Offer"), (168, "_law_call"), (169, "_law_told"), (170, "_law_good"), (171, "_law_is_bad"), (172, "_law_fell"), (173, "_law_members"), (174, "enumerate")].map fun x => (x.1, Str.ofString x.2)
  fns := [(5, .g "whole", F_whole),
    (244, .m "Folk" "hand_of", F_Folk_hand_of),
    (245, .m "Folk" "able", F_Folk_able),
    (246, .m "Folk" "inside", F_Folk_inside),
    (169, .g "_law_told", F__law_told),
    (168, .g "_law_call", F__law_call),
    (13, .g "_law_due", F__law_due),
    (61, .g "_law_words", F__law_words),
    (262, .m "Folk" "letters", F_Folk_letters),
    (247, .m "Folk" "send", F_Folk_send),
    (7, .g "is_list", F_is_list),
    (271, .m "Folk" "show", F_Folk_show),
    (270, .m "Folk" "propose", F_Folk_propose),
    (248, .m "Folk" "say", F_Folk_say),
    (269, .m "Folk" "press", F_Folk_press),
    (274, .m "Offer" "__init__", F_Offer___init__),
    (240, .m "Hand" "others", F_Hand_others),
    (6, .g "enough", F_enough),
    (237, .m "Hand" "__init__", F_Hand___init__),
    (238, .m "Hand" "begin", F_Hand_begin),
    (239, .m "Hand" "goes_into", F_Hand_goes_into),
    (241, .m "Hand" "held_by_enough", F_Hand_held_by_enough),
    (242, .m "Hand" "put_forward", F_Hand_put_forward),
    (243, .m "Folk" "__init__", F_Folk___init__),
    (249, .m "Folk" "fall", F_Folk_fall),
    (250, .m "Folk" "letter_at", F_Folk_letter_at),
    (251, .m "Folk" "come", F_Folk_come),
    (252, .m "Folk" "calm", F_Folk_calm),
    (253, .m "Folk" "taken_up", F_Folk_taken_up),
    (254, .m "Folk" "wished", F_Folk_wished),
    (255, .m "Folk" "held", F_Folk_held),
    (256, .m "Folk" "look", F_Folk_look),
    (257, .m "Folk" "prepared", F_Folk_prepared),
    (258, .m "Folk" "promised", F_Folk_promised),
    (259, .m "Folk" "accepted", F_Folk_accepted),
    (260, .m "Folk" "agreed_to", F_Folk_agreed_to),
    (261, .m "Folk" "entered", F_Folk_entered),
    (263, .m "Folk" "stands", F_Folk_stands),
    (264, .m "Folk" "list_of", F_Folk_list_of),
    (265, .m "Folk" "taken", F_Folk_taken),
    (266, .m "Folk" "is_still", F_Folk_is_still),
    (267, .m "Folk" "witness", F_Folk_witness),
    (268, .m "Folk" "past", F_Folk_past),
    (9, .g "_law_draw", F__law_draw),
    (14, .g "law", F_law)]
  globs := [(42, .bt .isinstance), (43, .bt .int), (47, .bt .bool), (5, .fn 5), (169, .fn 169), (168, .fn 168), (61, .fn 61), (52, .cls 52), (13, .fn 13), (51, .cls 51), (53, .cls 53), (54, .cls 54), (55, .cls 55), (56, .cls 56), (57, .cls 57), (58, .cls 58), (64, .bt .valueError), (46, .bt .len), (41, .bt .list), (7, .fn 7), (155, .cls 155), (6, .fn 6), (9, .fn 9), (14, .fn 14), (59, .cls 59), (60, .cls 60), (71, .int 9), (44, .bt .range), (152, .bt .set), (174, .bt .enumerate), (151, .bt .max), (154, .bt .min), (150, .bt .sorted)]
  clss := [(155, "Offer", ⟨some 274, [], [118, 123, 146, 147, 149, 148]⟩),
    (59, "Hand", ⟨some 237, [(68, 240), (66, 238), (67, 239), (69, 241), (70, 242)], [109, 110, 111, 17, 112, 113, 114, 115, 23, 116, 117, 118, 119, 120, 121]⟩),
    (60, "Folk", ⟨some 243, [(72, 244), (73, 245), (74, 246), (95, 262), (75, 247), (79, 271), (78, 270), (76, 248), (77, 269), (80, 249), (81, 250), (84, 251), (85, 252), (86, 253), (87, 254), (88, 255), (89, 256), (90, 257), (91, 258), (92, 259), (93, 260), (94, 261), (96, 263), (97, 264), (98, 265), (99, 266), (100, 267), (101, 268)], [18, 123, 124]⟩)]
  excs := [(51, "FolkError"), (52, "BadHand"), (53, "BadList"), (54, "NoLetter"), (55, "Fallen"), (56, "Outside"), (57, "NotFirst"), (58, "NoNews")]
  subs := [(51, 51), (52, 51), (52, 52), (53, 51), (53, 53), (54, 51), (54, 54), (55, 51), (55, 55), (56, 51), (56, 56), (57, 51), (57, 57), (58, 51), (58, 58)]
  quiet := [61]
  qg := [61, 42, 46]
  nAppend := 0
  nPop := 1
  nExtend := 2
  nGet := 3
  nSetdefault := 4
end Mine

end

section
set_option autoImplicit false
set_option linter.all false
set_option genSizeOf false
set_option genInjectivity false
namespace Mine
open PySem (Str)
/-! The states of the folk, laid out (printed by mkst.py from a run). -/
noncomputable def cs0 (a b c d e : Bool) : List (Option C) := [
  some (.inst 60 [(18, (.int 5)), (123, (.lst [(.ref 1), (.ref 5), (.ref 9), (.ref 13), (.ref 17)])), (124, (.ref 21))]),
  some (.inst 59 [(109, (.int 0)), (110, (.int 0)), (111, (.int 0)), (17, (.lst [(.int 0), (.int 1), (.int 2)])), (112, (.int 0)), (113, .bool a), (114, (.ref 2)), (115, .none), (23, (.ref 22)), (116, (.int 0)), (117, (.bool false)), (118, (.tup [(.int 0), (.int (-1))])), (119, .none), (120, .none), (121, (.ref 23))]),
  some (.list []),
  some (.list []),
  some (.dict []),
  some (.inst 59 [(109, (.int 1)), (110, (.int 0)), (111, (.int 0)), (17, (.lst [(.int 0), (.int 1), (.int 2)])), (112, (.int 0)), (113, .bool b), (114, (.ref 6)), (115, .none), (23, (.ref 24)), (116, (.int 0)), (117, (.bool false)), (118, (.tup [(.int 0), (.int (-1))])), (119, .none), (120, .none), (121, (.ref 25))]),
  some (.list []),
  some (.list []),
  some (.dict []),
  some (.inst 59 [(109, (.int 2)), (110, (.int 0)), (111, (.int 0)), (17, (.lst [(.int 0), (.int 1), (.int 2)])), (112, (.int 0)), (113, .bool c), (114, (.ref 10)), (115, .none), (23, (.ref 26)), (116, (.int 0)), (117, (.bool false)), (118, (.tup [(.int 0), (.int (-1))])), (119, .none), (120, .none), (121, (.ref 27))]),
  some (.list []),
  some (.list []),
  some (.dict []),
  some (.inst 59 [(109, (.int 3)), (110, .none), (111, (.int (-1))), (17, (.lst [])), (112, (.int 0)), (113, .bool d), (114, (.ref 14)), (115, .none), (23, (.ref 15)), (116, (.int 0)), (117, (.bool false)), (118, (.tup [(.int 0), (.int (-1))])), (119, .none), (120, .none), (121, (.ref 16))]),
  some (.list []),
  some (.list []),
  some (.dict []),
  some (.inst 59 [(109, (.int 4)), (110, .none), (111, (.int (-1))), (17, (.lst [])), (112, (.int 0)), (113, .bool e), (114, (.ref 18)), (115, .none), (23, (.ref 19)), (116, (.int 0)), (117, (.bool false)), (118, (.tup [(.int 0), (.int (-1))])), (119, .none), (120, .none), (121, (.ref 20))]),
  some (.list []),
  some (.list []),
  some (.dict []),
  some (.list []),
  some (.list []),
  some (.dict []),
  some (.list []),
  some (.dict []),
  some (.list []),
  some (.dict [])]
noncomputable def cs1 (a b c d e : Bool) : List (Option C) := [
  some (.inst 60 [(18, (.int 5)), (123, (.lst [(.ref 1), (.ref 5), (.ref 9), (.ref 13), (.ref 17)])), (124, (.ref 21))]),
  some (.inst 59 [(109, (.int 0)), (110, .none), (111, (.int 0)), (17, (.lst [])), (112, (.int 0)), (113, .bool a), (114, (.ref 2)), (115, .none), (23, (.ref 32)), (116, (.int 0)), (117, (.bool false)), (118, (.tup [(.int 0), (.int (-1))])), (119, .none), (120, .none), (121, (.ref 33))]),
  some (.list [(.tup [(.int 0), (.lst [(.int 0), (.int 1), (.int 2)]), (.lst [])])]),
  some (.list []),
  some (.dict []),
  some (.inst 59 [(109, (.int 1)), (110, (.int 1)), (111, (.int 1)), (17, (.lst [(.int 1), (.int 2), (.int 3)])), (112, (.int 0)), (113, .bool b), (114, (.ref 6)), (115, (.tup [(.int 1), (.lst [(.int 1), (.int 2), (.int 3)]), (.lst []), (.lst [(.int 0), (.int 1)])])), (23, (.ref 34)), (116, (.int 0)), (117, (.bool false)), (118, (.tup [(.int 0), (.int (-1))])), (119, .none), (120, .none), (121, (.ref 35))]),
  some (.list [(.tup [(.int 0), (.lst [(.int 0), (.int 1), (.int 2)]), (.lst [])])]),
  some (.list []),
  some (.dict []),
  some (.inst 59 [(109, (.int 2)), (110, (.int 1)), (111, (.int 1)), (17, (.lst [(.int 1), (.int 2), (.int 3)])), (112, (.int 0)), (113, .bool c), (114, (.ref 10)), (115, (.tup [(.int 1), (.lst [(.int 1), (.int 2), (.int 3)]), (.lst []), (.lst [(.int 0), (.int 1)])])), (23, (.ref 36)), (116, (.int 0)), (117, (.bool false)), (118, (.tup [(.int 0), (.int (-1))])), (119, .none), (120, .none), (121, (.ref 37))]),
  some (.list [(.tup [(.int 0), (.lst [(.int 0), (.int 1), (.int 2)]), (.lst [])])]),
  some (.list []),
  some (.dict []),
  some (.inst 59 [(109, (.int 3)), (110, (.int 1)), (111, (.int 1)), (17, (.lst [(.int 1), (.int 2), (.int 3)])), (112, (.int 0)), (113, .bool d), (114, (.ref 14)), (115, (.tup [(.int 1), (.lst [(.int 1), (.int 2), (.int 3)]), (.lst []), (.lst [(.int 0), (.int 1)])])), (23, (.ref 38)), (116, (.int 0)), (117, (.bool false)), (118, (.tup [(.int 0), (.int (-1))])), (119, .none), (120, .none), (121, (.ref 39))]),
  some (.list []),
  some (.list []),
  some (.dict []),
  some (.inst 59 [(109, (.int 4)), (110, .none), (111, (.int (-1))), (17, (.lst [])), (112, (.int 0)), (113, .bool e), (114, (.ref 18)), (115, .none), (23, (.ref 19)), (116, (.int 0)), (117, (.bool false)), (118, (.tup [(.int 0), (.int (-1))])), (119, .none), (120, .none), (121, (.ref 20))]),
  some (.list []),
  some (.list []),
  some (.dict []),
  some (.list []),
  some (.list []),
  some (.dict []),
  some (.list []),
  some (.dict []),
  some (.list []),
  some (.dict []),
  some (.inst 155 [(118, (.tup [(.int 1), (.int 1)])), (123, (.lst [(.int 1), (.int 2), (.int 3)])), (146, (.ref 29)), (147, (.tup [(.lst [(.int 1), (.int 2), (.int 3)]), (.lst [])])), (149, (.ref 30)), (148, (.bool true))]),
  some (.dict [((.int 0), (.tup [(.lst []), .none])), ((.int 1), (.tup [(.lst []), .none]))]),
  some (.dict [((.int 0), (.bool true)), ((.int 1), (.bool true))]),
  some (.list [(.lst []), (.lst [])]),
  some (.list []),
  some (.dict []),
  some (.list []),
  some (.dict []),
  some (.list []),
  some (.dict []),
  some (.list []),
  some (.dict [])]
noncomputable abbrev C6 : Cf := cfX tb.P 40 9
abbrev K6 : CT := CW tb.P 9
theorem hC6 : CfOk K6 C6 := cfX_ok tb.P 40 9
noncomputable def csM (m a b c d e : Bool) : List (Option C) := cond m (cs1 a b c d e) (cs0 a b c d e)
noncomputable def memM (m : Bool) : V := cond m (.lst [.int 1, .int 2, .int 3]) (.lst [.int 0, .int 1, .int 2])
noncomputable def lo0 (X : V) (m : Bool) : List (Nat × V) := [(24, X), (106, .ref 0), (173, memM m)]
section
variable {r : PSs} {s s' : Sx} {Q : Flow → St → Prop} {E : EP}
theorem stx {c : PS} (h : evS tb.P C6 40 c s = some (.ok .next s')) (k : wpSs tb.P K6 r s'.st Q E) : wpSs tb.P K6 (.cons c r) s.st Q E := evS_ok hC6 40 c s _ h _ E k
theorem stps {c : PSs} (h : evSs tb.P C6 40 c s = some (.ok .next s')) (k : Q .next s'.st) : wpSs tb.P K6 c s.st Q E := evSs_ok hC6 40 c s _ h _ E k
theorem ite_w {t : PC} {a : PSs} (c : Bool) (ht : ∀ Q' : Bool → St → Prop, Q' c s.st → wpT tb.P K6 E t s.st Q') (h1 : c = true → wpSs tb.P K6 a s.st (fun fl σ₁ => seqK fl σ₁ (fun σ₂ => wpSs tb.P K6 r σ₂ Q E) Q) E) (h2 : c = false → wpSs tb.P K6 r s.st Q E) : wpSs tb.P K6 (.cons (.ite t a .nil) r) s.st Q E := by
  refine ht _ ?_
  cases c with
  | true => exact h1 rfl
  | false => exact h2 rfl
end
theorem and_w {a b : Bool} {Q : Bool → St → Prop} {σ : St} (h : Q (a && b) σ) : Br a (Br b (Q true σ) (Q false σ)) (Q false σ) := by
  cases a <;> cases b <;> exact h
theorem or_w {a b : Bool} {Q : Bool → St → Prop} {σ : St} (h : Q (a || b) σ) : Br a (Q true σ) (Br b (Q true σ) (Q false σ)) := by
  cases a <;> cases b <;> exact h
noncomputable def s0 (X : V) (m : Bool) : Sx := ⟨csM m true true true true true, lo0 X m⟩
theorem set0 (X : V) : evS tb.P C6 40 S_law_0 ⟨[], [(24, X)]⟩ = some (.ok .next ⟨cs0 true true true true true, [(24, X), (106, .ref 0)]⟩) := by kernel_rfl
theorem set1 (X : V) : evS tb.P C6 40 S_law_1 ⟨cs0 true true true true true, [(24, X), (106, .ref 0)]⟩ = some (.ok .next (s0 X false)) := by kernel_rfl
noncomputable def thenOf : PS → PSs
  | .ite _ a _ => a
  | _ => .nil
theorem set2 (X : V) : evSs tb.P C6 40 (thenOf S_law_2) (s0 X false) = some (.ok .next (s0 X true)) := by kernel_rfl
/-- a hand falls away -/
noncomputable def sF (X : V) (m : Bool) (f : Nat) : Sx := ⟨csM m (!Nat.beq f 0) (!Nat.beq f 1) (!Nat.beq f 2) (!Nat.beq f 3) (!Nat.beq f 4), lo0 X m ++ [(172, .int f)]⟩
theorem fal (X : V) : ∀ (m : Bool) (f : Nat), f < 8 → evS tb.P C6 40 S_law_4 ((s0 X m).put 172 (.int f)) = some (.ok .next (sF X m f))
  | false, 0, _ => by kernel_rfl
  | false, 1, _ => by kernel_rfl
  | false, 2, _ => by kernel_rfl
  | false, 3, _ => by kernel_rfl
  | false, 4, _ => by kernel_rfl
  | false, 5, _ => by kernel_rfl
  | false, 6, _ => by kernel_rfl
  | false, 7, _ => by kernel_rfl
  | true, 0, _ => by kernel_rfl
  | true, 1, _ => by kernel_rfl
  | true, 2, _ => by kernel_rfl
  | true, 3, _ => by kernel_rfl
  | true, 4, _ => by kernel_rfl
  | true, 5, _ => by kernel_rfl
  | true, 6, _ => by kernel_rfl
  | true, 7, _ => by kernel_rfl
  | _, f + 8, h => absurd h (Nat.not_lt_of_le (Nat.le_add_left 8 f))
end Mine

end

section
set_option autoImplicit false
set_option linter.all false
set_option genSizeOf false
set_option genInjectivity false
namespace Mine
open PySem (Str)
/-! What is drawn. -/
noncomputable def dr (is : List Int) (k : Nat) : Int := (is[k]?).getD 0
theorem draw_eq (xs : List V) (k : Int) (H : Hp) (Q : V → Hp → Prop) (E : Nat → Hp → Prop) : K6 9 [.lst xs, .int k] H Q E = Br (decide (k < (xs.length : Int))) (atK xs k fun v => Q v H) (Q (.int 0) H) := by kernel_rfl
theorem atK_ok {xs : List V} {k : Nat} {v : V} {q : V → Prop} (h : xs[k]? = some v) (g : q v) : atK xs (k : Int) q := by
  have lt : k < xs.length := (List.getElem?_eq_some_iff.mp h).1
  have e : pyIdx (k : Int) xs.length = some k := by
    unfold pyIdx
    rw [if_pos (Int.natCast_nonneg k), if_pos (Int.ofNat_lt.mpr lt)]; rfl
  exact need_ii e (need_ii h g)
theorem drawW {is : List Int} {k : Nat} {H : Hp} {Q : V → Hp → Prop} {E : Nat → Hp → Prop} (h : Q (.int (dr is k)) H) : K6 9 [.lst (is.map .int), .int k] H Q E := by
  rw [draw_eq]
  by_cases c : k < is.length
  · refine Br_y (decide_eq_true (by rw [List.length_map]; exact Int.ofNat_lt.mpr c)) (atK_ok (v := .int (dr is k)) ?_ h)
    unfold dr
    rw [List.getElem?_map, List.getElem?_eq_getElem c]; rfl
  · refine Br_n (decide_eq_false (by rw [List.length_map]; exact fun z => c (Int.ofNat_lt.mp z))) ?_
    have e : dr is k = 0 := by unfold dr; rw [List.getElem?_eq_none (Nat.le_of_not_lt c)]; rfl
    rw [e] at h; exact h
theorem fm (x : Int) (n : Nat) (hn : 0 < n) : ∃ r : Nat, r < n ∧ Int.fmod x n = r := by
  have h0 : (0 : Int) < n := Int.ofNat_lt.mpr hn
  have h1 := Int.fmod_nonneg_of_pos x h0
  have h2 := Int.fmod_lt_of_pos x h0
  exact ⟨(Int.fmod x n).toNat, by omega, by omega⟩
theorem g9 : tb.P.glob 9 = some (.fn 9) := by kernel_rfl
abbrev dE (k : Int) : PE := .call true (.glob 9) (.cons (.loc 24) (.cons (.cst (.int k)) .nil))
theorem dE_eq (s : Sx) (k : Int) (E : EP) (Q : V → St → Prop) : wpE tb.P K6 E (dE k) s.st Q = need (lk s.lo 24) fun v => K6 9 [v, .int k] s.st.H (fun v H => giveV true (s.st.setH H) Q v) (fun e H => E e (s.st.setH H)) := by kernel_rfl
section
variable {s : Sx} {is : List Int} {k : Nat} {E : EP} (hl : lk s.lo 24 = some (.lst (is.map .int)))
include hl
theorem dE_w {Q : V → St → Prop} (h : Q (.int (dr is k)) s.st) : wpE tb.P K6 E (dE k) s.st Q := by
  rw [dE_eq, hl]
  exact drawW (Q := fun v H => giveV true (s.st.setH H) Q v) (E := fun e H => E e (s.st.setH H)) h
theorem dm_w {n : Nat} (hn : 0 < n) {Q : V → St → Prop} (h : ∀ r : Nat, r < n → Q (.int r) s.st) : wpE tb.P K6 E (.bin true .mod (dE k) (.cst (.int n))) s.st Q := by
  obtain ⟨r, hr, e⟩ := fm (dr is k) n hn
  have h := h r hr
  rw [← e] at h
  exact dE_w hl ⟨fun z => absurd (Int.ofNat.inj z) (Nat.ne_of_gt hn), h⟩
theorem dq_w {q n : Nat} (hq : q ≠ 0 ∧ q < 1073741824) (hn : 0 < n) {Q : V → St → Prop} (h : ∀ r : Nat, r < n → Q (.int r) s.st) : wpE tb.P K6 E (.bin true .mod (.bin true .fdiv (dE k) (.cst (.int q))) (.cst (.int n))) s.st Q := by
  obtain ⟨r, hr, e⟩ := fm (Int.fdiv (dr is k) q) n hn
  have h := h r hr
  rw [← e] at h
  exact dE_w hl ⟨⟨fun z => hq.1 (Int.ofNat.inj z), hq.2⟩, fun z => absurd (Int.ofNat.inj z) (Nat.ne_of_gt hn), h⟩
/-- a name := draw % n -/
theorem asg_mod {i n : Nat} {r : PSs} {Q : Flow → St → Prop} (hn : 0 < n) (h : ∀ d : Nat, d < n → wpSs tb.P K6 r (s.put i (.int d)).st Q E) : wpSs tb.P K6 (.cons (.assign (.loc i) (.bin true .mod (dE k) (.cst (.int n)))) r) s.st Q E :=
  dm_w hl hn fun d hd => by
    show wpSs tb.P K6 r (s.st.put i (.int d)) Q E
    rw [← st_put]; exact h d hd
theorem asg_quo {i q n : Nat} {r : PSs} {Q : Flow → St → Prop} (hq : q ≠ 0 ∧ q < 1073741824) (hn : 0 < n) (h : ∀ d : Nat, d < n → wpSs tb.P K6 r (s.put i (.int d)).st Q E) : wpSs tb.P K6 (.cons (.assign (.loc i) (.bin true .mod (.bin true .fdiv (dE k) (.cst (.int q))) (.cst (.int n)))) r) s.st Q E :=
  dq_w hl hq hn fun d hd => by
    show wpSs tb.P K6 r (s.st.put i (.int d)) Q E
    rw [← st_put]; exact h d hd
/-- a name := draw // q % n > 0 -/
theorem asg_gt {i q n : Nat} {r : PSs} {Q : Flow → St → Prop} (hq : q ≠ 0 ∧ q < 1073741824) (hn : 0 < n) (h : ∀ b : Bool, wpSs tb.P K6 r (s.put i (.bool b)).st Q E) : wpSs tb.P K6 (.cons (.assign (.loc i) (.cmp .gt (.bin true .mod (.bin true .fdiv (dE k) (.cst (.int q))) (.cst (.int n))) (.cst (.int 0)))) r) s.st Q E :=
  dq_w hl hq hn fun d hd => by
    show wpSs tb.P K6 r (s.st.put i (.bool (cmpI false 0 d))) Q E
    rw [← st_put]; exact h _
/-- a name := draw % n == 1 -/
theorem asg_one {i n : Nat} {r : PSs} {Q : Flow → St → Prop} (hn : 0 < n) (h : ∀ b : Bool, wpSs tb.P K6 r (s.put i (.bool b)).st Q E) : wpSs tb.P K6 (.cons (.assign (.loc i) (.cmp .eq (.bin true .mod (dE k) (.cst (.int n))) (.cst (.int 1)))) r) s.st Q E :=
  dm_w hl hn fun d hd => by
    show wpSs tb.P K6 r (s.st.put i (.bool (eqD (.int d) (.int 1)))) Q E
    rw [← st_put]; exact h _
/-- if draw % n == 1 -/
theorem ite_one {n : Nat} {a r : PSs} {Q : Flow → St → Prop} (hn : 0 < n) (h1 : wpSs tb.P K6 a s.st (fun fl σ₁ => seqK fl σ₁ (fun σ₂ => wpSs tb.P K6 r σ₂ Q E) Q) E) (h2 : wpSs tb.P K6 r s.st Q E) : wpSs tb.P K6 (.cons (.ite (.e (.cmp .eq (.bin true .mod (dE k) (.cst (.int n))) (.cst (.int 1)))) a .nil) r) s.st Q E :=
  dm_w hl hn fun d hd => by
    show Br (eqD (.int d) (.int 1)) _ _
    cases eqD (.int d) (.int 1) with
    | true => exact h1
    | false => exact h2
/-- a name := list[draw // q % n] -/
theorem asg_idx {i q n : Nat} {r : PSs} {L : PE} {vs : List V} {Q : Flow → St → Prop} (hL : evE tb.P C6 L s = some (.ok (.lst vs) s)) (hv : vs.length = n) (hq : q ≠ 0 ∧ q < 1073741824) (hn : 0 < n) (h : ∀ d : Nat, d < n → wpSs tb.P K6 r (s.put i (vs[d]?.getD .none)).st Q E) : wpSs tb.P K6 (.cons (.assign (.loc i) (.idx L (.bin true .mod (.bin true .fdiv (dE k) (.cst (.int q))) (.cst (.int n))))) r) s.st Q E := by
  refine evE_ok hC6 L s _ hL _ E ?_
  refine dq_w hl hq hn fun d hd => ?_
  have h := h d hd
  have e : vs[d]? = some (vs[d]?.getD .none) := by rw [List.getElem?_eq_getElem (hv.symm ▸ hd)]; rfl
  show atK vs (d : Int) _
  refine atK_ok e ?_
  show wpSs tb.P K6 r (s.st.put i _) Q E
  rw [← st_put]; exact h
end
end Mine

end

section
set_option autoImplicit false
set_option linter.all false
set_option genSizeOf false
set_option genInjectivity false
namespace Mine
open PySem (Str)
/-! What is due, for a hand that is one. -/
noncomputable def memI (m : Bool) : List Int := cond m [1, 2, 3] [0, 1, 2]
noncomputable def outM (m : Bool) (h : Int) : Bool := !((memI m).any fun z => decide (z = h))
noncomputable def dueS (m : Bool) (w h : Int) (e b : Bool) : Str :=
  cond (decide (w < 5) && e) s_fallen <|
  cond ((decide (w < 4) || (decide (4 < w) && decide (w < 9))) && outM m h) s_outside <|
  cond (decide (w = 1) && !decide (h = cond m 1 0)) s_first <|
  cond (decide (w = 2) && b) s_list <|
  cond (decide (w = 3) && b) s_hand <|
  cond (decide (w = 3) && !m) s_news s_empty
noncomputable def loD (w h f : Int) (b m : Bool) : List (Nat × V) := [(31, .int w), (29, .int h), (170, .bool true), (171, .bool b), (172, .int f), (173, memM m)]
section
variable (cs : List (Option C)) (w h f : Int) (b m : Bool) (E : EP) (Q : Bool → St → Prop)
theorem du1 : wpT tb.P (CW tb.P 8) E (.not (.e (.loc 170))) (⟨cs, loD w h f b m⟩ : Sx).st Q = Q false (⟨cs, loD w h f b m⟩ : Sx).st := by kernel_rfl
theorem du2 : wpT tb.P (CW tb.P 8) E (.and (.cons (.e (.cmp .lt (.loc 31) (.cst (.int 5)))) (.cons (.e (.cmp .eq (.loc 29) (.loc 172))) .nil))) (⟨cs, loD w h f b m⟩ : Sx).st Q = Br (decide (w < 5)) (Br (decide (h = f)) (Q true (⟨cs, loD w h f b m⟩ : Sx).st) (Q false (⟨cs, loD w h f b m⟩ : Sx).st)) (Q false (⟨cs, loD w h f b m⟩ : Sx).st) := by kernel_rfl
theorem du3 : wpT tb.P (CW tb.P 8) E (.or (.cons (.e (.cmp .lt (.loc 31) (.cst (.int 4)))) (.cons (.e (.cmp2 .lt .lt (.cst (.int 4)) (.loc 31) (.cst (.int 9)))) .nil))) (⟨cs, loD w h f b m⟩ : Sx).st Q = Br (decide (w < 4)) (Q true (⟨cs, loD w h f b m⟩ : Sx).st) (Br (decide (4 < w)) (Br (decide (w < 9)) (Q true (⟨cs, loD w h f b m⟩ : Sx).st) (Q false (⟨cs, loD w h f b m⟩ : Sx).st)) (Q false (⟨cs, loD w h f b m⟩ : Sx).st)) := by kernel_rfl
theorem du3b : wpT tb.P (CW tb.P 8) E (.e (.cmp .notIn (.loc 29) (.loc 173))) (⟨cs, loD w h f b m⟩ : Sx).st Q = Q (outM m h) (⟨cs, loD w h f b m⟩ : Sx).st := by cases m <;> kernel_rfl
theorem du4 : wpT tb.P (CW tb.P 8) E (.and (.cons (.e (.cmp .eq (.loc 31) (.cst (.int 1)))) (.cons (.e (.cmp .ne (.loc 29) (.idx (.loc 173) (.cst (.int 0))))) .nil))) (⟨cs, loD w h f b m⟩ : Sx).st Q = Br (decide (w = 1)) (Br (!decide (h = cond m 1 0)) (Q true (⟨cs, loD w h f b m⟩ : Sx).st) (Q false (⟨cs, loD w h f b m⟩ : Sx).st)) (Q false (⟨cs, loD w h f b m⟩ : Sx).st) := by cases m <;> kernel_rfl
theorem du5 (n : Int) : wpT tb.P (CW tb.P 8) E (.and (.cons (.e (.cmp .eq (.loc 31) (.cst (.int n)))) (.cons (.e (.loc 171)) .nil))) (⟨cs, loD w h f b m⟩ : Sx).st Q = Br (decide (w = n)) (Br b (Q true (⟨cs, loD w h f b m⟩ : Sx).st) (Q false (⟨cs, loD w h f b m⟩ : Sx).st)) (Q false (⟨cs, loD w h f b m⟩ : Sx).st) := by kernel_rfl
theorem du7 : wpT tb.P (CW tb.P 8) E (.and (.cons (.e (.cmp .eq (.loc 31) (.cst (.int 3)))) (.cons (.e (.cmp .eq (.loc 173) (.list true (.cons (.cst (.int 0)) (.cons (.cst (.int 1)) (.cons (.cst (.int 2)) .nil)))))) .nil))) (⟨cs, loD w h f b m⟩ : Sx).st Q = Br (decide (w = 3)) (Nd (3 ≤ SZ) (Br (!m) (Q true (⟨cs, loD w h f b m⟩ : Sx).st) (Q false (⟨cs, loD w h f b m⟩ : Sx).st))) (Q false (⟨cs, loD w h f b m⟩ : Sx).st) := by cases m <;> kernel_rfl
end
/-- an «if» that ends the def -/
theorem if_ret {s : Sx} {t : PC} {v : V} {r : PSs} {Q : Flow → St → Prop} {E : EP} {x : V} (c : Bool) (ht : ∀ Q' : Bool → St → Prop, Q' c s.st → wpT tb.P (CW tb.P 8) E t s.st Q') (h : Q (.ret (cond c v x)) s.st) (h2 : Q (.ret x) s.st → wpSs tb.P (CW tb.P 8) r s.st Q E) : wpSs tb.P (CW tb.P 8) (.cons (.ite t (.cons (.ret (.some (.cst v))) .nil) .nil) r) s.st Q E := by
  refine ht _ ?_
  cases c with
  | true => exact h
  | false => exact h2 h
theorem str_cond (c : Bool) (a b : Str) : V.str (cond c a b) = cond c (.str a) (.str b) := by cases c <;> rfl
theorem f13 : tb.P.fn 13 = some F__law_due := by kernel_rfl
theorem due_w {cs : List (Option C)} {w h f : Int} {b m : Bool} {Q : V → Hp → Prop} {E : Nat → Hp → Prop} (hq : Q (.str (dueS m w h (decide (h = f)) b)) (hpOf cs)) : K6 13 [.int w, .int h, .bool true, .bool b, .int f, memM m] (hpOf cs) Q E := by
  have key : wpSs tb.P (CW tb.P 8) F__law_due.body (⟨cs, loD w h f b m⟩ : Sx).st (fun fl σ => Q (retV fl) σ.H) (fun e σ => E e σ.H) := by
    unfold dueS at hq
    simp only [str_cond] at hq
    refine if_ret false (fun Q' q => by rw [du1]; exact q) hq fun hq => ?_
    refine if_ret (decide (w < 5) && decide (h = f)) (fun Q' q => by rw [du2]; exact and_w q) hq fun hq => ?_
    refine if_ret ((decide (w < 4) || (decide (4 < w) && decide (w < 9))) && outM m h) (fun Q' q => ?_) hq fun hq => ?_
    · show wpT tb.P (CW tb.P 8) _ (.or _) _ fun c σ₁ => Br c (wpT tb.P (CW tb.P 8) _ (.e _) σ₁ fun c σ₂ => Br c (Q' true σ₂) (Q' false σ₂)) (Q' false σ₁)
      rw [du3, du3b]
      revert q
      cases decide (w < 4) <;> cases decide (4 < w) <;> cases decide (w < 9) <;> cases outM m h <;> exact fun q => q
    refine if_ret (decide (w = 1) && !decide (h = cond m 1 0)) (fun Q' q => by rw [du4]; exact and_w q) hq fun hq => ?_
    refine if_ret (decide (w = 2) && b) (fun Q' q => by rw [du5]; exact and_w q) hq fun hq => ?_
    refine if_ret (decide (w = 3) && b) (fun Q' q => by rw [du5]; exact and_w q) hq fun hq => ?_
    refine if_ret (decide (w = 3) && !m) (fun Q' q => ?_) hq fun hq => ?_
    · rw [du7]
      have := and_w q
      revert this
      cases decide (w = 3) with
      | true => exact fun z => ⟨by decide, z⟩
      | false => exact fun z => z
    · exact hq
  have e : K6 13 [.int w, .int h, .bool true, .bool b, .int f, memM m] (hpOf cs) Q E = wpSs tb.P (CW tb.P 8) F__law_due.body (⟨cs, loD w h f b m⟩ : Sx).st (fun fl σ => Q (retV fl) σ.H) (fun e σ => E e σ.H) := by kernel_rfl
  rw [e]; exact key
end Mine

end

section
set_option autoImplicit false
set_option linter.all false
set_option genSizeOf false
set_option genInjectivity false
namespace Mine
open PySem (Str)
/-! What the script leads to: a way, a hand, a thing. -/
noncomputable def badL : List V := [.int (-1), .int 5, .bool true, .str s_x, .none, .int 100000000000000000000, .bool false]
noncomputable def th2L : List V := [.lst [], .lst [.int 4, .int 3], .lst [.int 3, .int 3], .lst [.int 5], .tup [.int 3, .int 4], .none, .lst [.int (-1), .int 2], .lst [.bool true], .lst [.bool false, .int 3]]
noncomputable def th3L : List V := [.int (-1), .int 5, .bool false, .bool true, .none]
noncomputable def badH (j : Nat) : V := badL[j]?.getD .none
noncomputable def th2 (j : Nat) : V := th2L[j]?.getD .none
noncomputable def th3 (j : Nat) : V := th3L[j]?.getD .none
inductive Hnd (g : Bool) (h : V) : Prop
  | good (k : Nat) (e : g = true) (hk : k < 5) (eh : h = .int k)
  | bad (j : Nat) (e : g = false) (hj : j < 7) (eh : h = badH j)
inductive Thg (w : Nat) (b : Bool) (t : V) : Prop
  | a (n2 : w ≠ 2) (n3 : w ≠ 3)
  | b (e : w = 2) (eb : b = false) (et : t = .lst [.int 3, .int 4])
  | c (e : w = 2) (eb : b = true) (j : Nat) (hj : j < 9) (et : t = th2 j)
  | d (e : w = 3) (eb : b = false) (j : Nat) (hj : j < 5) (et : t = .int j)
  | f (e : w = 3) (eb : b = true) (j : Nat) (hj : j < 5) (et : t = th3 j)
noncomputable def lo5 (X : V) (m : Bool) (f : V) (w : Nat) (h : V) (g : Bool) : List (Nat × V) := [(24, X), (106, .ref 0), (173, memM m), (172, f), (31, .int w), (29, h), (170, .bool g)]
noncomputable def loZ (X : V) (m : Bool) (f : V) (w : Nat) (h : V) (g b : Bool) (t : V) : List (Nat × V) := [(24, X), (106, .ref 0), (173, memM m), (172, f), (31, .int w), (29, h), (170, .bool g), (171, .bool b), (12, t)]
section
variable (cs : List (Option C)) (X : V) (m : Bool) (f : V) (w : Nat) (h : V) (g b : Bool) (t : V) (E : EP) (Q : Bool → St → Prop)
theorem md8 : wpT tb.P K6 E (.not (.e (.loc 170))) (⟨cs, lo5 X m f w h g⟩ : Sx).st Q = Q (!g) (⟨cs, lo5 X m f w h g⟩ : Sx).st := by kernel_rfl
theorem md11 : wpT tb.P K6 E (.and (.cons (.e (.cmp .eq (.loc 31) (.cst (.int 2)))) (.cons (.e (.loc 171)) .nil))) (⟨cs, loZ X m f w h g b t⟩ : Sx).st Q = Br (decide ((w : Int) = 2)) (Br b (Q true (⟨cs, loZ X m f w h g b t⟩ : Sx).st) (Q false (⟨cs, loZ X m f w h g b t⟩ : Sx).st)) (Q false (⟨cs, loZ X m f w h g b t⟩ : Sx).st) := by kernel_rfl
theorem md12 : wpT tb.P K6 E (.e (.cmp .eq (.loc 31) (.cst (.int 3)))) (⟨cs, loZ X m f w h g b t⟩ : Sx).st Q = Q (decide ((w : Int) = 3)) (⟨cs, loZ X m f w h g b t⟩ : Sx).st := by kernel_rfl
theorem md12b : wpT tb.P K6 E (.e (.loc 171)) (⟨cs, loZ X m f w h g b t⟩ : Sx).st Q = Q b (⟨cs, loZ X m f w h g b t⟩ : Sx).st := by kernel_rfl
end
/-- a name := list[name] -/
theorem asg_ix {s : Sx} {i i' j : Nat} {r : PSs} {L : PE} {vs : List V} {v : V} {Q : Flow → St → Prop} {E : EP} (hL : evE tb.P C6 L s = some (.ok (.lst vs) s)) (hi : lk s.lo i' = some (.int j)) (hv : vs[j]? = some v) (h : wpSs tb.P K6 r (s.put i v).st Q E) : wpSs tb.P K6 (.cons (.assign (.loc i) (.idx L (.loc i'))) r) s.st Q E := by
  refine evE_ok hC6 L s _ hL _ E ?_
  refine need_ii (o := lk s.lo i') hi ?_
  show atK vs (j : Int) _
  refine atK_ok hv ?_
  show wpSs tb.P K6 r (s.st.put i _) Q E
  rw [← st_put]; exact h
section
variable {cs : List (Option C)} {is : List Int} {m : Bool} {f : V} {R : PSs} {Q : Flow → St → Prop} {E : EP}
theorem mid12 {w : Nat} {h : V} {g b : Bool} (hw2 : b = true → w ≠ 2) (hz : ∀ t, Thg w b t → wpSs tb.P K6 R (⟨cs, loZ (.lst (is.map .int)) m f w h g b t⟩ : Sx).st Q E) : wpSs tb.P K6 (.cons S_law_12 R) (⟨cs, loZ (.lst (is.map .int)) m f w h g b (.lst [.int 3, .int 4])⟩ : Sx).st Q E := by
  refine ite_w (decide ((w : Int) = 3)) (fun Q' q => by rw [md12]; exact q) (fun e => ?_) fun e => ?_
  · have e : w = 3 := Int.ofNat.inj (of_decide_eq_true e)
    refine asg_quo (s := ⟨cs, loZ (.lst (is.map .int)) m f w h g b (.lst [.int 3, .int 4])⟩) (is := is) (k := 4) (q := 2) (n := 5) rfl ⟨by decide, by decide⟩ (by decide) fun j hj => ?_
    have e12 : ((⟨cs, loZ (.lst (is.map .int)) m f w h g b (.lst [.int 3, .int 4])⟩ : Sx).put 12 (.int j)) = ⟨cs, loZ (.lst (is.map .int)) m f w h g b (.int j)⟩ := by kernel_rfl
    rw [e12]
    refine ite_w b (fun Q' q => by rw [md12b]; exact q) (fun eb => ?_) fun eb => hz _ (.d e eb j hj rfl)
    have eL : evE tb.P C6 (.list true (.cons (.neg (.cst (.int 1))) (.cons (.cst (.int 5)) (.cons (.cst (.bool false)) (.cons (.cst (.bool true)) (.cons (.cst .none) .nil)))))) (⟨cs, loZ (.lst (is.map .int)) m f w h g b (.int j)⟩ : Sx) = some (.ok (.lst th3L) ⟨cs, loZ (.lst (is.map .int)) m f w h g b (.int j)⟩) := by kernel_rfl
    have ej : th3L[j]? = some (th3 j) := by unfold th3; rw [List.getElem?_eq_getElem (show j < th3L.length from hj)]; rfl
    refine asg_ix (s := ⟨cs, loZ (.lst (is.map .int)) m f w h g b (.int j)⟩) (i := 12) eL (i' := 12) rfl ej ?_
    have e13 : ((⟨cs, loZ (.lst (is.map .int)) m f w h g b (.int j)⟩ : Sx).put 12 (th3 j)) = ⟨cs, loZ (.lst (is.map .int)) m f w h g b (th3 j)⟩ := by kernel_rfl
    rw [e13]
    exact hz _ (.f e eb j hj rfl)
  · have e : w ≠ 3 := fun z => of_decide_eq_false e (congrArg Int.ofNat z)
    by_cases e2 : w = 2
    · cases b with
      | true => exact absurd e2 (hw2 rfl)
      | false => exact hz _ (.b e2 rfl rfl)
    · exact hz _ (.a e2 e)
theorem mid9 {w : Nat} {h : V} {g : Bool} (hz : ∀ b t, Thg w b t → wpSs tb.P K6 R (⟨cs, loZ (.lst (is.map .int)) m f w h g b t⟩ : Sx).st Q E) : wpSs tb.P K6 (.cons S_law_9 (.cons S_law_10 (.cons S_law_11 (.cons S_law_12 R)))) (⟨cs, lo5 (.lst (is.map .int)) m f w h g⟩ : Sx).st Q E := by
  refine asg_one (s := ⟨cs, lo5 (.lst (is.map .int)) m f w h g⟩) (is := is) (k := 4) (n := 2) rfl (by decide) fun b => ?_
  have e10 : evS tb.P C6 40 S_law_10 ((⟨cs, lo5 (.lst (is.map .int)) m f w h g⟩ : Sx).put 171 (.bool b)) = some (.ok .next ⟨cs, loZ (.lst (is.map .int)) m f w h g b (.lst [.int 3, .int 4])⟩) := by kernel_rfl
  refine stx e10 ?_
  refine ite_w (decide ((w : Int) = 2) && b) (fun Q' q => by rw [md11]; exact and_w q) (fun e => ?_) fun e => ?_
  · have e := (Bool.and_eq_true ..).mp e
    have e2 : w = 2 := Int.ofNat.inj (of_decide_eq_true e.1)
    refine asg_idx (s := ⟨cs, loZ (.lst (is.map .int)) m f w h g b (.lst [.int 3, .int 4])⟩) (is := is) (k := 4) (vs := th2L) (q := 2) (n := 9) rfl ?hL rfl ⟨by decide, by decide⟩ (by decide) fun j hj => ?_
    case hL => kernel_rfl
    have e12 : ((⟨cs, loZ (.lst (is.map .int)) m f w h g b (.lst [.int 3, .int 4])⟩ : Sx).put 12 (th2L[j]?.getD .none)) = ⟨cs, loZ (.lst (is.map .int)) m f w h g b (th2 j)⟩ := by kernel_rfl
    rw [e12]
    refine ite_w (decide ((w : Int) = 3)) (fun Q' q => by rw [md12]; exact q) (fun z => ?_) fun _ => hz _ _ (.c e2 e.2 j hj rfl)
    subst e2; cases z
  · exact mid12 (fun eb e2 => by subst eb e2; cases e) fun t ht => hz _ _ ht
theorem mid (hz : ∀ w h g b t, w < 11 → Hnd g h → Thg w b t → wpSs tb.P K6 R (⟨cs, loZ (.lst (is.map .int)) m f w h g b t⟩ : Sx).st Q E) : wpSs tb.P K6 (.cons S_law_5 (.cons S_law_6 (.cons S_law_7 (.cons S_law_8 (.cons S_law_9 (.cons S_law_10 (.cons S_law_11 (.cons S_law_12 R)))))))) (⟨cs, lo0 (.lst (is.map .int)) m ++ [(172, f)]⟩ : Sx).st Q E := by
  refine asg_mod (s := ⟨cs, lo0 (.lst (is.map .int)) m ++ [(172, f)]⟩) (is := is) (k := 2) (n := 11) rfl (by decide) fun w hw => ?_
  refine asg_mod (s := (⟨cs, lo0 (.lst (is.map .int)) m ++ [(172, f)]⟩ : Sx).put 31 (.int w)) (is := is) (k := 3) (n := 5) rfl (by decide) fun k hk => ?_
  refine asg_gt (s := ((⟨cs, lo0 (.lst (is.map .int)) m ++ [(172, f)]⟩ : Sx).put 31 (.int w)).put 29 (.int k)) (is := is) (k := 3) (q := 5) (n := 4) rfl ⟨by decide, by decide⟩ (by decide) fun g => ?_
  have e7 : ((((⟨cs, lo0 (.lst (is.map .int)) m ++ [(172, f)]⟩ : Sx).put 31 (.int w)).put 29 (.int k)).put 170 (.bool g)) = ⟨cs, lo5 (.lst (is.map .int)) m f w (.int k) g⟩ := by kernel_rfl
  rw [e7]
  refine ite_w (!g) (fun Q' q => by rw [md8]; exact q) (fun e => ?_) fun e => ?_
  · refine asg_idx (s := ⟨cs, lo5 (.lst (is.map .int)) m f w (.int k) g⟩) (is := is) (k := 3) (vs := badL) (q := 20) (n := 7) rfl ?hL rfl ⟨by decide, by decide⟩ (by decide) fun j hj => ?_
    case hL => kernel_rfl
    have e8 : ((⟨cs, lo5 (.lst (is.map .int)) m f w (.int k) g⟩ : Sx).put 29 (badL[j]?.getD .none)) = ⟨cs, lo5 (.lst (is.map .int)) m f w (badH j) g⟩ := by kernel_rfl
    rw [e8]
    exact mid9 fun b t ht => hz _ _ _ _ _ hw (.bad j (by cases g; rfl; cases e) hj rfl) ht
  · exact mid9 fun b t ht => hz _ _ _ _ _ hw (.good k (by cases g; cases e; rfl) hk rfl) ht
end
end Mine

end

section
set_option autoImplicit false
set_option linter.all false
set_option genSizeOf false
set_option genInjectivity false
namespace Mine
open PySem (Str)
/-! The deeds, run. -/
noncomputable def rest3 : PSs := .cons S_law_14 (.cons S_law_15 (.cons S_law_16 .nil))
noncomputable def okR : Option (Ox Flow) → Bool
  | some (.ok (.ret (.bool b)) _) => b
  | _ => false
theorem okR_e {r : Option (Ox Flow)} (h : okR r = true) : ∃ s, r = some (.ok (.ret (.bool true)) s) := by
  match r, h with
  | some (.ok (.ret (.bool true)) s), _ => exact ⟨s, rfl⟩
noncomputable def tld (cs : List (Option C)) (X : V) (m : Bool) (f : V) (w : Nat) (h : V) (g b : Bool) (t : V) (D : Str) : Bool := okR (evSs tb.P C6 40 rest3 ⟨cs, loZ X m f w h g b t ++ [(37, .str D)]⟩)
/-- hand h stands or not (u), of the others nothing is known -/
noncomputable def csH (m : Bool) (h : Nat) (u a₀ a₁ a₂ a₃ a₄ : Bool) : List (Option C) := csM m (cond (Nat.beq h 0) u a₀) (cond (Nat.beq h 1) u a₁) (cond (Nat.beq h 2) u a₂) (cond (Nat.beq h 3) u a₃) (cond (Nat.beq h 4) u a₄)
noncomputable def inN (m : Bool) : List Nat := cond m [1, 2, 3] [0, 1, 2]
noncomputable def outN (m : Bool) : List Nat := cond m [0, 4] [3, 4]
/-- a good hand's deed -/
noncomputable def gd (m : Bool) (w : Nat) (X f t : V) (b a₀ a₁ a₂ a₃ a₄ e : Bool) (h : Nat) : Bool := tld (csH m h (!e) a₀ a₁ a₂ a₃ a₄) X m f w (.int h) true b t (dueS m w h e b)
theorem bad0_0 (X f t : V) (b a₀ a₁ a₂ a₃ a₄ : Bool) : ((List.range 7).all fun j => tld (csM false a₀ a₁ a₂ a₃ a₄) X false f 0 (badH j) false b t s_hand) = true := by kernel_rfl
theorem bad0_1 (X f t : V) (b a₀ a₁ a₂ a₃ a₄ : Bool) : ((List.range 7).all fun j => tld (csM false a₀ a₁ a₂ a₃ a₄) X false f 1 (badH j) false b t s_hand) = true := by kernel_rfl
theorem bad0_2 (X f t : V) (b a₀ a₁ a₂ a₃ a₄ : Bool) : ((List.range 7).all fun j => tld (csM false a₀ a₁ a₂ a₃ a₄) X false f 2 (badH j) false b t s_hand) = true := by kernel_rfl
theorem bad0_3 (X f t : V) (b a₀ a₁ a₂ a₃ a₄ : Bool) : ((List.range 7).all fun j => tld (csM false a₀ a₁ a₂ a₃ a₄) X false f 3 (badH j) false b t s_hand) = true := by kernel_rfl
theorem bad0_4 (X f t : V) (b a₀ a₁ a₂ a₃ a₄ : Bool) : ((List.range 7).all fun j => tld (csM false a₀ a₁ a₂ a₃ a₄) X false f 4 (badH j) false b t s_hand) = true := by kernel_rfl
theorem bad0_5 (X f t : V) (b a₀ a₁ a₂ a₃ a₄ : Bool) : ((List.range 7).all fun j => tld (csM false a₀ a₁ a₂ a₃ a₄) X false f 5 (badH j) false b t s_hand) = true := by kernel_rfl
theorem bad0_6 (X f t : V) (b a₀ a₁ a₂ a₃ a₄ : Bool) : ((List.range 7).all fun j => tld (csM false a₀ a₁ a₂ a₃ a₄) X false f 6 (badH j) false b t s_hand) = true := by kernel_rfl
theorem bad0_7 (X f t : V) (b a₀ a₁ a₂ a₃ a₄ : Bool) : ((List.range 7).all fun j => tld (csM false a₀ a₁ a₂ a₃ a₄) X false f 7 (badH j) false b t s_hand) = true := by kernel_rfl
theorem bad0_8 (X f t : V) (b a₀ a₁ a₂ a₃ a₄ : Bool) : ((List.range 7).all fun j => tld (csM false a₀ a₁ a₂ a₃ a₄) X false f 8 (badH j) false b t s_hand) = true := by kernel_rfl
theorem bad0_9 (X f t : V) (b a₀ a₁ a₂ a₃ a₄ : Bool) : ((List.range 7).all fun j => tld (csM false a₀ a₁ a₂ a₃ a₄) X false f 9 (badH j) false b t s_hand) = true := by kernel_rfl
theorem bad0_10 (X f t : V) (b a₀ a₁ a₂ a₃ a₄ : Bool) : ((List.range 7).all fun j => tld (csM false a₀ a₁ a₂ a₃ a₄) X false f 10 (badH j) false b t s_hand) = true := by kernel_rfl
theorem bad1_0 (X f t : V) (b a₀ a₁ a₂ a₃ a₄ : Bool) : ((List.range 7).all fun j => tld (csM true a₀ a₁ a₂ a₃ a₄) X true f 0 (badH j) false b t s_hand) = true := by kernel_rfl
theorem bad1_1 (X f t : V) (b a₀ a₁ a₂ a₃ a₄ : Bool) : ((List.range 7).all fun j => tld (csM true a₀ a₁ a₂ a₃ a₄) X true f 1 (badH j) false b t s_hand) = true := by kernel_rfl
theorem bad1_2 (X f t : V) (b a₀ a₁ a₂ a₃ a₄ : Bool) : ((List.range 7).all fun j => tld (csM true a₀ a₁ a₂ a₃ a₄) X true f 2 (badH j) false b t s_hand) = true := by kernel_rfl
theorem bad1_3 (X f t : V) (b a₀ a₁ a₂ a₃ a₄ : Bool) : ((List.range 7).all fun j => tld (csM true a₀ a₁ a₂ a₃ a₄) X true f 3 (badH j) false b t s_hand) = true := by kernel_rfl
theorem bad1_4 (X f t : V) (b a₀ a₁ a₂ a₃ a₄ : Bool) : ((List.range 7).all fun j => tld (csM true a₀ a₁ a₂ a₃ a₄) X true f 4 (badH j) false b t s_hand) = true := by kernel_rfl
theorem bad1_5 (X f t : V) (b a₀ a₁ a₂ a₃ a₄ : Bool) : ((List.range 7).all fun j => tld (csM true a₀ a₁ a₂ a₃ a₄) X true f 5 (badH j) false b t s_hand) = true := by kernel_rfl
theorem bad1_6 (X f t : V) (b a₀ a₁ a₂ a₃ a₄ : Bool) : ((List.range 7).all fun j => tld (csM true a₀ a₁ a₂ a₃ a₄) X true f 6 (badH j) false b t s_hand) = true := by kernel_rfl
theorem bad1_7 (X f t : V) (b a₀ a₁ a₂ a₃ a₄ : Bool) : ((List.range 7).all fun j => tld (csM true a₀ a₁ a₂ a₃ a₄) X true f 7 (badH j) false b t s_hand) = true := by kernel_rfl
theorem bad1_8 (X f t : V) (b a₀ a₁ a₂ a₃ a₄ : Bool) : ((List.range 7).all fun j => tld (csM true a₀ a₁ a₂ a₃ a₄) X true f 8 (badH j) false b t s_hand) = true := by kernel_rfl
theorem bad1_9 (X f t : V) (b a₀ a₁ a₂ a₃ a₄ : Bool) : ((List.range 7).all fun j => tld (csM true a₀ a₁ a₂ a₃ a₄) X true f 9 (badH j) false b t s_hand) = true := by kernel_rfl
theorem bad1_10 (X f t : V) (b a₀ a₁ a₂ a₃ a₄ : Bool) : ((List.range 7).all fun j => tld (csM true a₀ a₁ a₂ a₃ a₄) X true f 10 (badH j) false b t s_hand) = true := by kernel_rfl
theorem bad_ok {m : Bool} {w : Nat} (hw : w < 11) (X f t : V) (b a₀ a₁ a₂ a₃ a₄ : Bool) {j : Nat} (hj : j < 7) : tld (csM m a₀ a₁ a₂ a₃ a₄) X m f w (badH j) false b t s_hand = true := by
  match m, w, hw with
  | false, 0, _ => exact List.all_eq_true.mp (bad0_0 X f t b a₀ a₁ a₂ a₃ a₄) j (List.mem_range.mpr hj)
  | false, 1, _ => exact List.all_eq_true.mp (bad0_1 X f t b a₀ a₁ a₂ a₃ a₄) j (List.mem_range.mpr hj)
  | false, 2, _ => exact List.all_eq_true.mp (bad0_2 X f t b a₀ a₁ a₂ a₃ a₄) j (List.mem_range.mpr hj)
  | false, 3, _ => exact List.all_eq_true.mp (bad0_3 X f t b a₀ a₁ a₂ a₃ a₄) j (List.mem_range.mpr hj)
  | false, 4, _ => exact List.all_eq_true.mp (bad0_4 X f t b a₀ a₁ a₂ a₃ a₄) j (List.mem_range.mpr hj)
  | false, 5, _ => exact List.all_eq_true.mp (bad0_5 X f t b a₀ a₁ a₂ a₃ a₄) j (List.mem_range.mpr hj)
  | false, 6, _ => exact List.all_eq_true.mp (bad0_6 X f t b a₀ a₁ a₂ a₃ a₄) j (List.mem_range.mpr hj)
  | false, 7, _ => exact List.all_eq_true.mp (bad0_7 X f t b a₀ a₁ a₂ a₃ a₄) j (List.mem_range.mpr hj)
  | false, 8, _ => exact List.all_eq_true.mp (bad0_8 X f t b a₀ a₁ a₂ a₃ a₄) j (List.mem_range.mpr hj)
  | false, 9, _ => exact List.all_eq_true.mp (bad0_9 X f t b a₀ a₁ a₂ a₃ a₄) j (List.mem_range.mpr hj)
  | false, 10, _ => exact List.all_eq_true.mp (bad0_10 X f t b a₀ a₁ a₂ a₃ a₄) j (List.mem_range.mpr hj)
  | true, 0, _ => exact List.all_eq_true.mp (bad1_0 X f t b a₀ a₁ a₂ a₃ a₄) j (List.mem_range.mpr hj)
  | true, 1, _ => exact List.all_eq_true.mp (bad1_1 X f t b a₀ a₁ a₂ a₃ a₄) j (List.mem_range.mpr hj)
  | true, 2, _ => exact List.all_eq_true.mp (bad1_2 X f t b a₀ a₁ a₂ a₃ a₄) j (List.mem_range.mpr hj)
  | true, 3, _ => exact List.all_eq_true.mp (bad1_3 X f t b a₀ a₁ a₂ a₃ a₄) j (List.mem_range.mpr hj)
  | true, 4, _ => exact List.all_eq_true.mp (bad1_4 X f t b a₀ a₁ a₂ a₃ a₄) j (List.mem_range.mpr hj)
  | true, 5, _ => exact List.all_eq_true.mp (bad1_5 X f t b a₀ a₁ a₂ a₃ a₄) j (List.mem_range.mpr hj)
  | true, 6, _ => exact List.all_eq_true.mp (bad1_6 X f t b a₀ a₁ a₂ a₃ a₄) j (List.mem_range.mpr hj)
  | true, 7, _ => exact List.all_eq_true.mp (bad1_7 X f t b a₀ a₁ a₂ a₃ a₄) j (List.mem_range.mpr hj)
  | true, 8, _ => exact List.all_eq_true.mp (bad1_8 X f t b a₀ a₁ a₂ a₃ a₄) j (List.mem_range.mpr hj)
  | true, 9, _ => exact List.all_eq_true.mp (bad1_9 X f t b a₀ a₁ a₂ a₃ a₄) j (List.mem_range.mpr hj)
  | true, 10, _ => exact List.all_eq_true.mp (bad1_10 X f t b a₀ a₁ a₂ a₃ a₄) j (List.mem_range.mpr hj)
  | _, w + 11, hw => exact absurd hw (Nat.not_lt_of_le (Nat.le_add_left 11 w))
end Mine

end

section
set_option autoImplicit false
set_option linter.all false
set_option genSizeOf false
set_option genInjectivity false
namespace Mine
open PySem (Str)
theorem gd0_0t (X f t : V) (b a₀ a₁ a₂ a₃ a₄ : Bool) : ((List.range 5).all (gd false 0 X f t b a₀ a₁ a₂ a₃ a₄ true)) = true := by kernel_rfl
theorem gd0_0f (X f t : V) (b a₀ a₁ a₂ a₃ a₄ : Bool) : ((List.range 5).all (gd false 0 X f t b a₀ a₁ a₂ a₃ a₄ false)) = true := by kernel_rfl
theorem gd0_1t (X f t : V) (b a₀ a₁ a₂ a₃ a₄ : Bool) : ((List.range 5).all (gd false 1 X f t b a₀ a₁ a₂ a₃ a₄ true)) = true := by kernel_rfl
theorem gd0_1f (X f t : V) (b a₀ a₁ a₂ a₃ a₄ : Bool) : ((List.range 5).all (gd false 1 X f t b a₀ a₁ a₂ a₃ a₄ false)) = true := by kernel_rfl
theorem gd0_4t (X f t : V) (b a₀ a₁ a₂ a₃ a₄ : Bool) : ((List.range 5).all (gd false 4 X f t b a₀ a₁ a₂ a₃ a₄ true)) = true := by kernel_rfl
theorem gd0_4f (X f t : V) (b a₀ a₁ a₂ a₃ a₄ : Bool) : ((List.range 5).all (gd false 4 X f t b a₀ a₁ a₂ a₃ a₄ false)) = true := by kernel_rfl
theorem gd0_5 (X f t : V) (b a₀ a₁ a₂ a₃ a₄ : Bool) (e : Bool) : ((List.range 5).all (gd false 5 X f t b a₀ a₁ a₂ a₃ a₄ e)) = true := by kernel_rfl
theorem gd0_6 (X f t : V) (b a₀ a₁ a₂ a₃ a₄ : Bool) (e : Bool) : ((List.range 5).all (gd false 6 X f t b a₀ a₁ a₂ a₃ a₄ e)) = true := by kernel_rfl
theorem gd0_7 (X f t : V) (b a₀ a₁ a₂ a₃ a₄ : Bool) (e : Bool) : ((List.range 5).all (gd false 7 X f t b a₀ a₁ a₂ a₃ a₄ e)) = true := by kernel_rfl
theorem gd0_8 (X f t : V) (b a₀ a₁ a₂ a₃ a₄ : Bool) (e : Bool) : ((List.range 5).all (gd false 8 X f t b a₀ a₁ a₂ a₃ a₄ e)) = true := by kernel_rfl
theorem gd0_9 (X f t : V) (b a₀ a₁ a₂ a₃ a₄ : Bool) (e : Bool) : ((List.range 5).all (gd false 9 X f t b a₀ a₁ a₂ a₃ a₄ e)) = true := by kernel_rfl
theorem gd0_10 (X f t : V) (b a₀ a₁ a₂ a₃ a₄ : Bool) (e : Bool) : ((List.range 5).all (gd false 10 X f t b a₀ a₁ a₂ a₃ a₄ e)) = true := by kernel_rfl
theorem gd1_0t (X f t : V) (b a₀ a₁ a₂ a₃ a₄ : Bool) : ((List.range 5).all (gd true 0 X f t b a₀ a₁ a₂ a₃ a₄ true)) = true := by kernel_rfl
theorem gd1_0f (X f t : V) (b a₀ a₁ a₂ a₃ a₄ : Bool) : ((List.range 5).all (gd true 0 X f t b a₀ a₁ a₂ a₃ a₄ false)) = true := by kernel_rfl
theorem gd1_1t (X f t : V) (b a₀ a₁ a₂ a₃ a₄ : Bool) : ((List.range 5).all (gd true 1 X f t b a₀ a₁ a₂ a₃ a₄ true)) = true := by kernel_rfl
theorem gd1_1f (X f t : V) (b a₀ a₁ a₂ a₃ a₄ : Bool) : ((List.range 5).all (gd true 1 X f t b a₀ a₁ a₂ a₃ a₄ false)) = true := by kernel_rfl
theorem gd1_4t (X f t : V) (b a₀ a₁ a₂ a₃ a₄ : Bool) : ((List.range 5).all (gd true 4 X f t b a₀ a₁ a₂ a₃ a₄ true)) = true := by kernel_rfl
theorem gd1_4f (X f t : V) (b a₀ a₁ a₂ a₃ a₄ : Bool) : ((List.range 5).all (gd true 4 X f t b a₀ a₁ a₂ a₃ a₄ false)) = true := by kernel_rfl
theorem gd1_5 (X f t : V) (b a₀ a₁ a₂ a₃ a₄ : Bool) (e : Bool) : ((List.range 5).all (gd true 5 X f t b a₀ a₁ a₂ a₃ a₄ e)) = true := by kernel_rfl
theorem gd1_6 (X f t : V) (b a₀ a₁ a₂ a₃ a₄ : Bool) (e : Bool) : ((List.range 5).all (gd true 6 X f t b a₀ a₁ a₂ a₃ a₄ e)) = true := by kernel_rfl
theorem gd1_7 (X f t : V) (b a₀ a₁ a₂ a₃ a₄ : Bool) (e : Bool) : ((List.range 5).all (gd true 7 X f t b a₀ a₁ a₂ a₃ a₄ e)) = true := by kernel_rfl
theorem gd1_8 (X f t : V) (b a₀ a₁ a₂ a₃ a₄ : Bool) (e : Bool) : ((List.range 5).all (gd true 8 X f t b a₀ a₁ a₂ a₃ a₄ e)) = true := by kernel_rfl
theorem gd1_9 (X f t : V) (b a₀ a₁ a₂ a₃ a₄ : Bool) (e : Bool) : ((List.range 5).all (gd true 9 X f t b a₀ a₁ a₂ a₃ a₄ e)) = true := by kernel_rfl
theorem gd1_10 (X f t : V) (b a₀ a₁ a₂ a₃ a₄ : Bool) (e : Bool) : ((List.range 5).all (gd true 10 X f t b a₀ a₁ a₂ a₃ a₄ e)) = true := by kernel_rfl
theorem gd_ok {m : Bool} {w : Nat} (hw : w < 11) (n2 : w ≠ 2) (n3 : w ≠ 3) (X f t : V) (b a₀ a₁ a₂ a₃ a₄ : Bool) (e : Bool) {h : Nat} (hh : h < 5) : gd m w X f t b a₀ a₁ a₂ a₃ a₄ e h = true := by
  match m, w, hw, e with
  | false, 0, _, true => exact List.all_eq_true.mp (gd0_0t X f t b a₀ a₁ a₂ a₃ a₄) h (List.mem_range.mpr hh)
  | false, 0, _, false => exact List.all_eq_true.mp (gd0_0f X f t b a₀ a₁ a₂ a₃ a₄) h (List.mem_range.mpr hh)
  | false, 1, _, true => exact List.all_eq_true.mp (gd0_1t X f t b a₀ a₁ a₂ a₃ a₄) h (List.mem_range.mpr hh)
  | false, 1, _, false => exact List.all_eq_true.mp (gd0_1f X f t b a₀ a₁ a₂ a₃ a₄) h (List.mem_range.mpr hh)
  | false, 4, _, true => exact List.all_eq_true.mp (gd0_4t X f t b a₀ a₁ a₂ a₃ a₄) h (List.mem_range.mpr hh)
  | false, 4, _, false => exact List.all_eq_true.mp (gd0_4f X f t b a₀ a₁ a₂ a₃ a₄) h (List.mem_range.mpr hh)
  | false, 5, _, e => exact List.all_eq_true.mp (gd0_5 X f t b a₀ a₁ a₂ a₃ a₄ e) h (List.mem_range.mpr hh)
  | false, 6, _, e => exact List.all_eq_true.mp (gd0_6 X f t b a₀ a₁ a₂ a₃ a₄ e) h (List.mem_range.mpr hh)
  | false, 7, _, e => exact List.all_eq_true.mp (gd0_7 X f t b a₀ a₁ a₂ a₃ a₄ e) h (List.mem_range.mpr hh)
  | false, 8, _, e => exact List.all_eq_true.mp (gd0_8 X f t b a₀ a₁ a₂ a₃ a₄ e) h (List.mem_range.mpr hh)
  | false, 9, _, e => exact List.all_eq_true.mp (gd0_9 X f t b a₀ a₁ a₂ a₃ a₄ e) h (List.mem_range.mpr hh)
  | false, 10, _, e => exact List.all_eq_true.mp (gd0_10 X f t b a₀ a₁ a₂ a₃ a₄ e) h (List.mem_range.mpr hh)
  | true, 0, _, true => exact List.all_eq_true.mp (gd1_0t X f t b a₀ a₁ a₂ a₃ a₄) h (List.mem_range.mpr hh)
  | true, 0, _, false => exact List.all_eq_true.mp (gd1_0f X f t b a₀ a₁ a₂ a₃ a₄) h (List.mem_range.mpr hh)
  | true, 1, _, true => exact List.all_eq_true.mp (gd1_1t X f t b a₀ a₁ a₂ a₃ a₄) h (List.mem_range.mpr hh)
  | true, 1, _, false => exact List.all_eq_true.mp (gd1_1f X f t b a₀ a₁ a₂ a₃ a₄) h (List.mem_range.mpr hh)
  | true, 4, _, true => exact List.all_eq_true.mp (gd1_4t X f t b a₀ a₁ a₂ a₃ a₄) h (List.mem_range.mpr hh)
  | true, 4, _, false => exact List.all_eq_true.mp (gd1_4f X f t b a₀ a₁ a₂ a₃ a₄) h (List.mem_range.mpr hh)
  | true, 5, _, e => exact List.all_eq_true.mp (gd1_5 X f t b a₀ a₁ a₂ a₃ a₄ e) h (List.mem_range.mpr hh)
  | true, 6, _, e => exact List.all_eq_true.mp (gd1_6 X f t b a₀ a₁ a₂ a₃ a₄ e) h (List.mem_range.mpr hh)
  | true, 7, _, e => exact List.all_eq_true.mp (gd1_7 X f t b a₀ a₁ a₂ a₃ a₄ e) h (List.mem_range.mpr hh)
  | true, 8, _, e => exact List.all_eq_true.mp (gd1_8 X f t b a₀ a₁ a₂ a₃ a₄ e) h (List.mem_range.mpr hh)
  | true, 9, _, e => exact List.all_eq_true.mp (gd1_9 X f t b a₀ a₁ a₂ a₃ a₄ e) h (List.mem_range.mpr hh)
  | true, 10, _, e => exact List.all_eq_true.mp (gd1_10 X f t b a₀ a₁ a₂ a₃ a₄ e) h (List.mem_range.mpr hh)
  | _, 2, _, _ => exact absurd rfl n2
  | _, 3, _, _ => exact absurd rfl n3
  | _, w + 11, hw, _ => exact absurd hw (Nat.not_lt_of_le (Nat.le_add_left 11 w))
end Mine

end

section
set_option autoImplicit false
set_option linter.all false
set_option genSizeOf false
set_option genInjectivity false
namespace Mine
open PySem (Str)
theorem fl0_2 (X f t : V) (b a₀ a₁ a₂ a₃ a₄ : Bool) : ((List.range 5).all (gd false 2 X f t b a₀ a₁ a₂ a₃ a₄ true)) = true := by kernel_rfl
theorem ou0_2 (X f t : V) (b a₀ a₁ a₂ a₃ a₄ : Bool) : ((outN false).all (gd false 2 X f t b a₀ a₁ a₂ a₃ a₄ false)) = true := by kernel_rfl
theorem th0_2_0 (X f : V) (a₀ a₁ a₂ a₃ a₄ : Bool) : (gd false 2 X f (.lst [.int 3, .int 4]) false a₀ a₁ a₂ a₃ a₄ false 0 && (List.range 9).all fun j => gd false 2 X f (th2 j) true a₀ a₁ a₂ a₃ a₄ false 0) = true := by kernel_rfl
theorem th0_2_1 (X f : V) (a₀ a₁ a₂ a₃ a₄ : Bool) : (gd false 2 X f (.lst [.int 3, .int 4]) false a₀ a₁ a₂ a₃ a₄ false 1 && (List.range 9).all fun j => gd false 2 X f (th2 j) true a₀ a₁ a₂ a₃ a₄ false 1) = true := by kernel_rfl
theorem th0_2_2 (X f : V) (a₀ a₁ a₂ a₃ a₄ : Bool) : (gd false 2 X f (.lst [.int 3, .int 4]) false a₀ a₁ a₂ a₃ a₄ false 2 && (List.range 9).all fun j => gd false 2 X f (th2 j) true a₀ a₁ a₂ a₃ a₄ false 2) = true := by kernel_rfl
theorem fl0_3 (X f t : V) (b a₀ a₁ a₂ a₃ a₄ : Bool) : ((List.range 5).all (gd false 3 X f t b a₀ a₁ a₂ a₃ a₄ true)) = true := by kernel_rfl
theorem ou0_3 (X f t : V) (b a₀ a₁ a₂ a₃ a₄ : Bool) : ((outN false).all (gd false 3 X f t b a₀ a₁ a₂ a₃ a₄ false)) = true := by kernel_rfl
theorem th0_3_0 (X f : V) (a₀ a₁ a₂ a₃ a₄ : Bool) : ((List.range 5).all fun j => gd false 3 X f (.int j) false a₀ a₁ a₂ a₃ a₄ false 0 && gd false 3 X f (th3 j) true a₀ a₁ a₂ a₃ a₄ false 0) = true := by kernel_rfl
theorem th0_3_1 (X f : V) (a₀ a₁ a₂ a₃ a₄ : Bool) : ((List.range 5).all fun j => gd false 3 X f (.int j) false a₀ a₁ a₂ a₃ a₄ false 1 && gd false 3 X f (th3 j) true a₀ a₁ a₂ a₃ a₄ false 1) = true := by kernel_rfl
theorem th0_3_2 (X f : V) (a₀ a₁ a₂ a₃ a₄ : Bool) : ((List.range 5).all fun j => gd false 3 X f (.int j) false a₀ a₁ a₂ a₃ a₄ false 2 && gd false 3 X f (th3 j) true a₀ a₁ a₂ a₃ a₄ false 2) = true := by kernel_rfl
theorem fl1_2 (X f t : V) (b a₀ a₁ a₂ a₃ a₄ : Bool) : ((List.range 5).all (gd true 2 X f t b a₀ a₁ a₂ a₃ a₄ true)) = true := by kernel_rfl
theorem ou1_2 (X f t : V) (b a₀ a₁ a₂ a₃ a₄ : Bool) : ((outN true).all (gd true 2 X f t b a₀ a₁ a₂ a₃ a₄ false)) = true := by kernel_rfl
theorem th1_2_1 (X f : V) (a₀ a₁ a₂ a₃ a₄ : Bool) : (gd true 2 X f (.lst [.int 3, .int 4]) false a₀ a₁ a₂ a₃ a₄ false 1 && (List.range 9).all fun j => gd true 2 X f (th2 j) true a₀ a₁ a₂ a₃ a₄ false 1) = true := by kernel_rfl
theorem th1_2_2 (X f : V) (a₀ a₁ a₂ a₃ a₄ : Bool) : (gd true 2 X f (.lst [.int 3, .int 4]) false a₀ a₁ a₂ a₃ a₄ false 2 && (List.range 9).all fun j => gd true 2 X f (th2 j) true a₀ a₁ a₂ a₃ a₄ false 2) = true := by kernel_rfl
theorem th1_2_3 (X f : V) (a₀ a₁ a₂ a₃ a₄ : Bool) : (gd true 2 X f (.lst [.int 3, .int 4]) false a₀ a₁ a₂ a₃ a₄ false 3 && (List.range 9).all fun j => gd true 2 X f (th2 j) true a₀ a₁ a₂ a₃ a₄ false 3) = true := by kernel_rfl
theorem fl1_3 (X f t : V) (b a₀ a₁ a₂ a₃ a₄ : Bool) : ((List.range 5).all (gd true 3 X f t b a₀ a₁ a₂ a₃ a₄ true)) = true := by kernel_rfl
theorem ou1_3 (X f t : V) (b a₀ a₁ a₂ a₃ a₄ : Bool) : ((outN true).all (gd true 3 X f t b a₀ a₁ a₂ a₃ a₄ false)) = true := by kernel_rfl
theorem th1_3_1 (X f : V) (a₀ a₁ a₂ a₃ a₄ : Bool) : ((List.range 5).all fun j => gd true 3 X f (.int j) false a₀ a₁ a₂ a₃ a₄ false 1 && gd true 3 X f (th3 j) true a₀ a₁ a₂ a₃ a₄ false 1) = true := by kernel_rfl
theorem th1_3_2 (X f : V) (a₀ a₁ a₂ a₃ a₄ : Bool) : ((List.range 5).all fun j => gd true 3 X f (.int j) false a₀ a₁ a₂ a₃ a₄ false 2 && gd true 3 X f (th3 j) true a₀ a₁ a₂ a₃ a₄ false 2) = true := by kernel_rfl
theorem th1_3_3 (X f : V) (a₀ a₁ a₂ a₃ a₄ : Bool) : ((List.range 5).all fun j => gd true 3 X f (.int j) false a₀ a₁ a₂ a₃ a₄ false 3 && gd true 3 X f (th3 j) true a₀ a₁ a₂ a₃ a₄ false 3) = true := by kernel_rfl
inductive Spl (m : Bool) (h : Nat) : Prop
  | i (hi : h ∈ inN m)
  | o (ho : h ∈ outN m)
theorem spl : ∀ (m : Bool) (h : Nat), h < 5 → Spl m h
  | false, 0, _ => .i (by decide)
  | false, 1, _ => .i (by decide)
  | false, 2, _ => .i (by decide)
  | false, 3, _ => .o (by decide)
  | false, 4, _ => .o (by decide)
  | true, 0, _ => .o (by decide)
  | true, 1, _ => .i (by decide)
  | true, 2, _ => .i (by decide)
  | true, 3, _ => .i (by decide)
  | true, 4, _ => .o (by decide)
  | _, h + 5, q => absurd q (Nat.not_lt_of_le (Nat.le_add_left 5 h))
theorem gd2_ok {m : Bool} (X f t : V) (b a₀ a₁ a₂ a₃ a₄ : Bool) (e : Bool) {h : Nat} (hh : h < 5) (ht : Thg 2 b t) : gd m 2 X f t b a₀ a₁ a₂ a₃ a₄ e h = true := by
  cases e with
  | true =>
    cases m with
    | false => exact List.all_eq_true.mp (fl0_2 X f t b a₀ a₁ a₂ a₃ a₄) h (List.mem_range.mpr hh)
    | true => exact List.all_eq_true.mp (fl1_2 X f t b a₀ a₁ a₂ a₃ a₄) h (List.mem_range.mpr hh)
  | false =>
    cases spl m h hh with
    | o ho =>
      cases m with
      | false => exact List.all_eq_true.mp (ou0_2 X f t b a₀ a₁ a₂ a₃ a₄) h ho
      | true => exact List.all_eq_true.mp (ou1_2 X f t b a₀ a₁ a₂ a₃ a₄) h ho
    | i hi =>
      have key : (gd m 2 X f (.lst [.int 3, .int 4]) false a₀ a₁ a₂ a₃ a₄ false h && (List.range 9).all fun j => gd m 2 X f (th2 j) true a₀ a₁ a₂ a₃ a₄ false h) = true := by
        match m, h, hh, hi with
        | false, 0, _, _ => exact th0_2_0 X f a₀ a₁ a₂ a₃ a₄
        | false, 1, _, _ => exact th0_2_1 X f a₀ a₁ a₂ a₃ a₄
        | false, 2, _, _ => exact th0_2_2 X f a₀ a₁ a₂ a₃ a₄
        | true, 1, _, _ => exact th1_2_1 X f a₀ a₁ a₂ a₃ a₄
        | true, 2, _, _ => exact th1_2_2 X f a₀ a₁ a₂ a₃ a₄
        | true, 3, _, _ => exact th1_2_3 X f a₀ a₁ a₂ a₃ a₄
        | false, 3, _, hi => exact absurd hi (by decide)
        | false, 4, _, hi => exact absurd hi (by decide)
        | true, 0, _, hi => exact absurd hi (by decide)
        | true, 4, _, hi => exact absurd hi (by decide)
        | _, h + 5, hh, _ => exact absurd hh (Nat.not_lt_of_le (Nat.le_add_left 5 h))
      have key := (Bool.and_eq_true ..).mp key
      cases ht with
      | b e eb et => subst eb et; exact key.1
      | c e eb j hj et => subst eb et; exact List.all_eq_true.mp key.2 j (List.mem_range.mpr hj)
      | a n2 n3 => exact absurd rfl n2
      | d e _ _ _ _ => cases e
      | f e _ _ _ _ => cases e
theorem gd3_ok {m : Bool} (X f t : V) (b a₀ a₁ a₂ a₃ a₄ : Bool) (e : Bool) {h : Nat} (hh : h < 5) (ht : Thg 3 b t) : gd m 3 X f t b a₀ a₁ a₂ a₃ a₄ e h = true := by
  cases e with
  | true =>
    cases m with
    | false => exact List.all_eq_true.mp (fl0_3 X f t b a₀ a₁ a₂ a₃ a₄) h (List.mem_range.mpr hh)
    | true => exact List.all_eq_true.mp (fl1_3 X f t b a₀ a₁ a₂ a₃ a₄) h (List.mem_range.mpr hh)
  | false =>
    cases spl m h hh with
    | o ho =>
      cases m with
      | false => exact List.all_eq_true.mp (ou0_3 X f t b a₀ a₁ a₂ a₃ a₄) h ho
      | true => exact List.all_eq_true.mp (ou1_3 X f t b a₀ a₁ a₂ a₃ a₄) h ho
    | i hi =>
      have key : ((List.range 5).all fun j => gd m 3 X f (.int j) false a₀ a₁ a₂ a₃ a₄ false h && gd m 3 X f (th3 j) true a₀ a₁ a₂ a₃ a₄ false h) = true := by
        match m, h, hh, hi with
        | false, 0, _, _ => exact th0_3_0 X f a₀ a₁ a₂ a₃ a₄
        | false, 1, _, _ => exact th0_3_1 X f a₀ a₁ a₂ a₃ a₄
        | false, 2, _, _ => exact th0_3_2 X f a₀ a₁ a₂ a₃ a₄
        | true, 1, _, _ => exact th1_3_1 X f a₀ a₁ a₂ a₃ a₄
        | true, 2, _, _ => exact th1_3_2 X f a₀ a₁ a₂ a₃ a₄
        | true, 3, _, _ => exact th1_3_3 X f a₀ a₁ a₂ a₃ a₄
        | false, 3, _, hi => exact absurd hi (by decide)
        | false, 4, _, hi => exact absurd hi (by decide)
        | true, 0, _, hi => exact absurd hi (by decide)
        | true, 4, _, hi => exact absurd hi (by decide)
        | _, h + 5, hh, _ => exact absurd hh (Nat.not_lt_of_le (Nat.le_add_left 5 h))
      have key := fun j hj => (Bool.and_eq_true ..).mp (List.all_eq_true.mp key j (List.mem_range.mpr hj))
      cases ht with
      | d e eb j hj et => subst eb et; exact (key j hj).1
      | f e eb j hj et => subst eb et; exact (key j hj).2
      | a n2 n3 => exact absurd rfl n3
      | b e _ _ => cases e
      | c e _ _ _ _ => cases e
end Mine

end

section
set_option autoImplicit false
set_option linter.all false
set_option genSizeOf false
set_option genInjectivity false
namespace Mine
open PySem (Str)
section
variable {cs : List (Option C)} {X f : V} {m : Bool} {w : Nat} {h t : V} {g b : Bool} {r : PSs} {Q : Flow → St → Prop} {E : EP}
theorem e37 {D : Str} : ((⟨cs, loZ X m f w h g b t⟩ : Sx).put 37 (.str D)) = ⟨cs, loZ X m f w h g b t ++ [(37, .str D)]⟩ := by kernel_rfl
theorem d13 {D : Str} (hD : ∀ (Q' : V → Hp → Prop) (E' : Nat → Hp → Prop), Q' (.str D) (hpOf cs) → K6 13 [.int w, h, .bool g, .bool b, f, memM m] (hpOf cs) Q' E') (k : wpSs tb.P K6 r (⟨cs, loZ X m f w h g b t ++ [(37, .str D)]⟩ : Sx).st Q E) : wpSs tb.P K6 (.cons S_law_13 r) (⟨cs, loZ X m f w h g b t⟩ : Sx).st Q E := by
  have e : wpSs tb.P K6 (.cons S_law_13 r) (⟨cs, loZ X m f w h g b t⟩ : Sx).st Q E = K6 13 [.int w, h, .bool g, .bool b, f, memM m] (hpOf cs) (fun v H => giveV true ⟨H, lk (loZ X m f w h g b t)⟩ (fun v σ => wpSs tb.P K6 r (σ.put 37 v) Q E) v) (fun e H => E e ⟨H, lk (loZ X m f w h g b t)⟩) := by kernel_rfl
  rw [e]
  refine hD _ _ ?_
  show wpSs tb.P K6 r ((⟨cs, loZ X m f w h g b t⟩ : Sx).st.put 37 (.str D)) Q E
  rw [← st_put, e37]; exact k
theorem fin6 {D : Str} (q : tld cs X m f w h g b t D = true) (hq : ∀ σ, Q (.ret (.bool true)) σ) : wpSs tb.P K6 rest3 (⟨cs, loZ X m f w h g b t ++ [(37, .str D)]⟩ : Sx).st Q E := by
  obtain ⟨s', e⟩ := okR_e q
  exact evSs_ok hC6 40 rest3 _ _ e Q E (hq s'.st)
/-- the cells when fn fell away -/
noncomputable abbrev csF (m : Bool) (fn : Nat) : List (Option C) := csM m (!Nat.beq fn 0) (!Nat.beq fn 1) (!Nat.beq fn 2) (!Nat.beq fn 3) (!Nat.beq fn 4)
theorem csF_e {m : Bool} {fn k : Nat} : csF m fn = csH m k (!decide ((k : Int) = fn)) (!Nat.beq fn 0) (!Nat.beq fn 1) (!Nat.beq fn 2) (!Nat.beq fn 3) (!Nat.beq fn 4) := by
  have key : ∀ i : Nat, (!Nat.beq fn i) = cond (Nat.beq k i) (!decide ((k : Int) = fn)) (!Nat.beq fn i) := fun i => by
    cases q : Nat.beq k i with
    | false => rfl
    | true =>
      have q := Nat.eq_of_beq_eq_true q
      subst q
      show (!Nat.beq fn k) = !decide ((k : Int) = fn)
      by_cases z : fn = k
      · subst z; rw [Nat.beq_refl, decide_eq_true rfl]
      · rw [decide_eq_false (show ¬ (k : Int) = (fn : Int) from fun y => z (Int.ofNat.inj y).symm)]
        cases q : Nat.beq fn k with
        | true => exact absurd (Nat.eq_of_beq_eq_true q) z
        | false => rfl
  show csM m _ _ _ _ _ = csM m _ _ _ _ _
  rw [← key 0, ← key 1, ← key 2, ← key 3, ← key 4]
theorem gd_all {fn k : Nat} (hk : k < 5) (hw : w < 11) (ht : Thg w b t) : tld (csH m k (!decide ((k : Int) = fn)) (!Nat.beq fn 0) (!Nat.beq fn 1) (!Nat.beq fn 2) (!Nat.beq fn 3) (!Nat.beq fn 4)) X m f w (.int k) true b t (dueS m w k (decide ((k : Int) = fn)) b) = true := by
  by_cases n2 : w = 2
  · subst n2; exact gd2_ok X f t b _ _ _ _ _ _ hk ht
  · by_cases n3 : w = 3
    · subst n3; exact gd3_ok X f t b _ _ _ _ _ _ hk ht
    · exact gd_ok hw n2 n3 X f t b _ _ _ _ _ _ hk
theorem e13 {j : Nat} : evS tb.P C6 40 S_law_13 ⟨cs, loZ X m f w (badH j) false b t⟩ = some (.ok .next ⟨cs, loZ X m f w (badH j) false b t ++ [(37, .str s_hand)]⟩) := by kernel_rfl
theorem end6 {fn : Nat} (hw : w < 11) (hh : Hnd g h) (ht : Thg w b t) (hq : ∀ σ, Q (.ret (.bool true)) σ) : wpSs tb.P K6 (.cons S_law_13 rest3) (⟨csF m fn, loZ X m (.int fn) w h g b t⟩ : Sx).st Q E := by
  cases hh with
  | bad j e hj eh =>
    subst e eh
    exact stx e13 (fin6 (bad_ok hw X (.int fn) t b _ _ _ _ _ hj) hq)
  | good k e hk eh =>
    subst e eh
    refine d13 (fun Q' E' q => due_w q) ?_
    rw [csF_e (k := k)]
    exact fin6 (gd_all hk hw ht) hq
end
theorem seq_next {σ : St} {go : St → Prop} {Q : Flow → St → Prop} (h : go σ) : seqK .next σ go Q := h
section
variable {is : List Int} {r : PSs} {Q : Flow → St → Prop} {E : EP}
theorem law2 (h0 : wpSs tb.P K6 r (s0 (.lst (is.map .int)) false).st Q E) (h1 : wpSs tb.P K6 r (s0 (.lst (is.map .int)) true).st Q E) : wpSs tb.P K6 (.cons S_law_2 r) (s0 (.lst (is.map .int)) false).st Q E :=
  ite_one (s := s0 (.lst (is.map .int)) false) (is := is) (k := 0) (n := 2) rfl (by decide) (stps (c := thenOf S_law_2) (set2 _) (seq_next h1)) h0
theorem law34 {m : Bool} (h : ∀ f : Nat, wpSs tb.P K6 r (⟨csF m f, lo0 (.lst (is.map .int)) m ++ [(172, .int f)]⟩ : Sx).st Q E) : wpSs tb.P K6 (.cons S_law_3 (.cons S_law_4 r)) (s0 (.lst (is.map .int)) m).st Q E :=
  asg_mod (s := s0 (.lst (is.map .int)) m) (is := is) (k := 1) (n := 8) rfl (by decide) fun f hf => stx (fal _ m f hf) (h f)
theorem law01 (h : wpSs tb.P K6 r (s0 (.lst (is.map .int)) false).st Q E) : wpSs tb.P K6 (.cons S_law_0 (.cons S_law_1 r)) (⟨[], [(24, .lst (is.map .int))]⟩ : Sx).st Q E := stx (set0 _) (stx (set1 _) h)
theorem all6 (hq : ∀ σ, Q (.ret (.bool true)) σ) : wpSs tb.P K6 (.cons S_law_0 (.cons S_law_1 (.cons S_law_2 (.cons S_law_3 (.cons S_law_4 (.cons S_law_5 (.cons S_law_6 (.cons S_law_7 (.cons S_law_8 (.cons S_law_9 (.cons S_law_10 (.cons S_law_11 (.cons S_law_12 (.cons S_law_13 rest3)))))))))))))) (⟨[], [(24, .lst (is.map .int))]⟩ : Sx).st Q E := by
  have from3 : ∀ m, wpSs tb.P K6 (.cons S_law_3 (.cons S_law_4 (.cons S_law_5 (.cons S_law_6 (.cons S_law_7 (.cons S_law_8 (.cons S_law_9 (.cons S_law_10 (.cons S_law_11 (.cons S_law_12 (.cons S_law_13 rest3))))))))))) (s0 (.lst (is.map .int)) m).st Q E := fun m =>
    law34 fun f => mid (cs := csF m f) fun w h g b t hw hh ht => end6 hw hh ht hq
  exact law01 (law2 (from3 false) (from3 true))
end
theorem f14 : tb.P.fn 14 = some ⟨[24], .cons S_law_0 (.cons S_law_1 (.cons S_law_2 (.cons S_law_3 (.cons S_law_4 (.cons S_law_5 (.cons S_law_6 (.cons S_law_7 (.cons S_law_8 (.cons S_law_9 (.cons S_law_10 (.cons S_law_11 (.cons S_law_12 (.cons S_law_13 rest3)))))))))))))⟩ := by kernel_rfl
theorem main06 (is : List Int) : CW tb.P 10 14 [.lst (is.map V.int)] (hpOf []) (fun v _ => v = .bool true) (fun _ _ => False) := by
  show need (tb.P.fn 14) fun fd => need (bindP fd.params [.lst (is.map V.int)] fun _ => none) fun l => wpSs tb.P (CW tb.P 9) fd.body ⟨hpOf [], l⟩ (fun fl σ => retV fl = .bool true) (fun _ _ => False)
  rw [f14]
  have e : bindP [24] [.lst (is.map V.int)] (fun _ => none) = some (lk [(24, .lst (is.map V.int))]) := bindX_ok (ps := [24]) (as := [.lst (is.map V.int)]) (m := []) rfl
  show need (bindP [24] [.lst (is.map V.int)] fun _ => none) fun l => _
  rw [e]
  exact all6 (Q := fun fl σ => retV fl = .bool true) (E := fun _ _ => False) fun σ => rfl
end Mine

end

section
set_option autoImplicit false
set_option linter.all false
namespace Mine
theorem hp0 : hpOf [] = H0 := rfl
theorem main06' (is : List Int) : CW tb.P 10 14 [.lst (is.map V.int)] H0 (fun v _ => v = .bool true) (fun _ _ => False) := by
  rw [← hp0]; exact main06 is
end Mine

end

section
open PySem PySem.W PyProof.Rows
set_option maxRecDepth 100000
set_option maxHeartbeats 8000000
namespace Mine
theorem head06.tw10029276065240076736 : True := trivial
theorem head06.tw10096717344973422654 : True := trivial
theorem head06.tw10115409993909440064 : True := trivial
theorem head06.tw1014440148725639041 : True := trivial
theorem head06.tw10184878983558137093 : True := trivial
theorem head06.tw10200846539192547506 : True := trivial
theorem head06.tw10210540809725931776 : True := trivial
theorem head06.tw10218499144856940198 : True := trivial
theorem head06.tw1022275110140583271 : True := trivial
theorem head06.tw10241091647630983815 : True := trivial
theorem head06.tw10243233148100928476 : True := trivial
theorem head06.tw10284414962962507021 : True := trivial
theorem head06.tw10299883097903101072 : True := trivial
theorem head06.tw10300838583097705549 : True := trivial
theorem head06.tw1034487680132170404 : True := trivial
theorem head06.tw10367615801891153561 : True := trivial
theorem head06.tw10398534952108267083 : True := trivial
theorem head06.tw1041771733668166689 : True := trivial
theorem head06.tw10434213609959182369 : True := trivial
theorem head06.tw10437203145800410898 : True := trivial
theorem head06.tw10450120794531375052 : True := trivial
theorem head06.tw10453844013287156671 : True := trivial
theorem head06.tw10515451438369842189 : True := trivial
theorem head06.tw1053466309713441461 : True := trivial
theorem head06.tw10689582452178642295 : True := trivial
theorem head06.tw10709951248599153694 : True := trivial
theorem head06.tw10710521870489045614 : True := trivial
theorem head06.tw10728863582576961842 : True := trivial
theorem head06.tw10734431493060343253 : True := trivial
theorem head06.tw10756494483972706348 : True := trivial
theorem head06.tw10821209923407009905 : True := trivial
theorem head06.tw10833120230882124940 : True := trivial
theorem head06.tw10850116510749310286 : True := trivial
theorem head06.tw10868002048117027016 : True := trivial
theorem head06.tw10874593078123775172 : True := trivial
theorem head06.tw10888489760752609377 : True := trivial
theorem head06.tw10912055198913628063 : True := trivial
theorem head06.tw10923468836251273746 : True := trivial
theorem head06.tw10937180569922719738 : True := trivial
theorem head06.tw11002203376031279670 : True := trivial
theorem head06.tw11005473497745464612 : True := trivial
theorem head06.tw11027098996105596057 : True := trivial
theorem head06.tw11045624414970380435 : True := trivial
theorem head06.tw11102527334007516250 : True := trivial
theorem head06.tw11111963215284174192 : True := trivial
theorem head06.tw11120501399444321767 : True := trivial
theorem head06.tw11150498505366819048 : True := trivial
theorem head06.tw11155859382597634139 : True := trivial
theorem head06.tw11156687392293713193 : True := trivial
theorem head06.tw1122084943418702144 : True := trivial
theorem head06.tw11288446775854631886 : True := trivial
theorem head06.tw11288482727118487370 : True := trivial
theorem head06.tw11308904788594974803 : True := trivial
theorem head06.tw11314802395316514136 : True := trivial
theorem head06.tw11377576782640281300 : True := trivial
theorem head06.tw11384603090574326343 : True := trivial
theorem head06.tw11405333327879986347 : True := trivial
theorem head06.tw11408371706127592894 : True := trivial
theorem head06.tw11442869171108901664 : True := trivial
theorem head06.tw11445068101606787375 : True := trivial
theorem head06.tw11463684875215011059 : True := trivial
theorem head06.tw11549992608687009191 : True := trivial
theorem head06.tw1156459661108476310 : True := trivial
theorem head06.tw11586771540331237786 : True := trivial
theorem head06.tw11596436936954833420 : True := trivial
theorem head06.tw11680075639680312819 : True := trivial
theorem head06.tw11712173849494403057 : True := trivial
theorem head06.tw11727660402270423064 : True := trivial
theorem head06.tw11747234221074124225 : True := trivial
theorem head06.tw11753083607832561487 : True := trivial
theorem head06.tw11806440215660773062 : True := trivial
theorem head06.tw11818465338905428180 : True := trivial
theorem head06.tw11856179523417513083 : True := trivial
theorem head06.tw11900573860845375556 : True := trivial
theorem head06.tw11926967726267283348 : True := trivial
theorem head06.tw11936997876031393304 : True := trivial
theorem head06.tw1197006323477085082 : True := trivial
theorem head06.tw11996880843126612794 : True := trivial
theorem head06.tw12006728552096144917 : True := trivial
theorem head06.tw12011292658769964001 : True := trivial
theorem head06.tw12037269255111660010 : True := trivial
theorem head06.tw12071648030036423360 : True := trivial
theorem head06.tw12086438272682274384 : True := trivial
theorem head06.tw12114736976864382037 : True := trivial
theorem head06.tw12121439389085372814 : True := trivial
theorem head06.tw12143779114368730268 : True := trivial
theorem head06.tw1218005915686952809 : True := trivial
theorem head06.tw12183928938825948696 : True := trivial
theorem head06.tw12196868412423456841 : True := trivial
theorem head06.tw12203859870559967347 : True := trivial
theorem head06.tw12205495886141924667 : True := trivial
theorem head06.tw12215858294160721545 : True := trivial
theorem head06.tw12226124197984754430 : True := trivial
theorem head06.tw12255359299080486355 : True := trivial
theorem head06.tw12297542633286917174 : True := trivial
theorem head06.tw12341393879078907413 : True := trivial
theorem head06.tw12348155692953215766 : True := trivial
theorem head06.tw1236608301289311220 : True := trivial
theorem head06.tw12377154289162581659 : True := trivial
theorem head06.tw1244735394070967646 : True := trivial
theorem head06.tw12526677400373221917 : True := trivial
theorem head06.tw12531842227127410324 : True := trivial
theorem head06.tw12576055702431272119 : True := trivial
theorem head06.tw12629118542353350780 : True := trivial
theorem head06.tw12631730031078055086 : True := trivial
theorem head06.tw12765494369714916572 : True := trivial
theorem head06.tw12776650916277638319 : True := trivial
theorem head06.tw12795730631712906164 : True := trivial
theorem head06.tw128493948707950443 : True := trivial
theorem head06.tw12856206143444768396 : True := trivial
theorem head06.tw1285643103314984569 : True := trivial
theorem head06.tw12926216397229179016 : True := trivial
theorem head06.tw12986861281845734322 : True := trivial
theorem head06.tw12994741745707377907 : True := trivial
theorem head06.tw13066458385847173971 : True := trivial
theorem head06.tw13185201894471667404 : True := trivial
theorem head06.tw13223719603389560988 : True := trivial
theorem head06.tw13269678311789757613 : True := trivial
theorem head06.tw13285755403945598616 : True := trivial
theorem head06.tw13296918659007495788 : True := trivial
theorem head06.tw13316297971464814257 : True := trivial
theorem head06.tw13324249629603635688 : True := trivial
theorem head06.tw13337404190522064810 : True := trivial
theorem head06.tw13415267321098713978 : True := trivial
theorem head06.tw13457695661976033977 : True := trivial
theorem head06.tw13465054416705497982 : True := trivial
theorem head06.tw13482782728898477020 : True := trivial
theorem head06.tw13487780528433821073 : True := trivial
theorem head06.tw13541241222014826321 : True := trivial
theorem head06.tw13627005849225262008 : True := trivial
theorem head06.tw13627409044167911369 : True := trivial
theorem head06.tw13637334297688863048 : True := trivial
theorem head06.tw136977260914501241 : True := trivial
theorem head06.tw13714556139962625539 : True := trivial
theorem head06.tw13719144920158354066 : True := trivial
theorem head06.tw13726461316510733939 : True := trivial
theorem head06.tw13748416106411242091 : True := trivial
theorem head06.tw13766587629497318588 : True := trivial
theorem head06.tw13768656618642714475 : True := trivial
theorem head06.tw13782768551658330526 : True := trivial
theorem head06.tw1378623789597388207 : True := trivial
theorem head06.tw13818254190212970086 : True := trivial
theorem head06.tw13856492543327692967 : True := trivial
theorem head06.tw13864082310216082670 : True := trivial
theorem head06.tw13894012176471764706 : True := trivial
theorem head06.tw13915033123255135255 : True := trivial
theorem head06.tw13954795282919931285 : True := trivial
theorem head06.tw14010271022029151857 : True := trivial
theorem head06.tw14088483600309021495 : True := trivial
theorem head06.tw14112263748529388617 : True := trivial
theorem head06.tw14140309302369614967 : True := trivial
theorem head06.tw14151698943223624563 : True := trivial
theorem head06.tw14153199621237339249 : True := trivial
theorem head06.tw14153470043827875198 : True := trivial
theorem head06.tw14170541533055318450 : True := trivial
theorem head06.tw142233886362286589 : True := trivial
theorem head06.tw14323632425447806204 : True := trivial
theorem head06.tw14332417419890110890 : True := trivial
theorem head06.tw14346138676439301835 : True := trivial
theorem head06.tw1436157849369092349 : True := trivial
theorem head06.tw14376885537607138343 : True := trivial
theorem head06.tw14382059285688950894 : True := trivial
theorem head06.tw143924196458900536 : True := trivial
theorem head06.tw1444885649196104968 : True := trivial
theorem head06.tw14462969524214893891 : True := trivial
theorem head06.tw14492914975054051273 : True := trivial
theorem head06.tw14494056215337451977 : True := trivial
theorem head06.tw14557519810741742128 : True := trivial
theorem head06.tw14579766336337765431 : True := trivial
theorem head06.tw1461284970836211406 : True := trivial
theorem head06.tw14664498723553412228 : True := trivial
theorem head06.tw14808603436731950554 : True := trivial
theorem head06.tw14809765594107734617 : True := trivial
theorem head06.tw14859518671547681637 : True := trivial
theorem head06.tw14873175461633020426 : True := trivial
theorem head06.tw14882018252330384910 : True := trivial
theorem head06.tw14906582525266335734 : True := trivial
theorem head06.tw14908146612716335016 : True := trivial
theorem head06.tw14926345664561209065 : True := trivial
theorem head06.tw14927717122098575614 : True := trivial
theorem head06.tw14928973760178511031 : True := trivial
theorem head06.tw14937069297039264761 : True := trivial
theorem head06.tw14946840437736953652 : True := trivial
theorem head06.tw14948119689795610893 : True := trivial
theorem head06.tw14952260234505464704 : True := trivial
theorem head06.tw14953711313575801021 : True := trivial
theorem head06.tw14974385471978471345 : True := trivial
theorem head06.tw14983649081827843399 : True := trivial
theorem head06.tw15023866423156716576 : True := trivial
theorem head06.tw15053235445332330062 : True := trivial
theorem head06.tw15063208622839315895 : True := trivial
theorem head06.tw15093298708264797619 : True := trivial
theorem head06.tw15102896859071291474 : True := trivial
theorem head06.tw1516429050811069243 : True := trivial
theorem head06.tw15174219493389785904 : True := trivial
theorem head06.tw15192237589221112022 : True := trivial
theorem head06.tw15197321667713696200 : True := trivial
theorem head06.tw15206664679476319540 : True := trivial
theorem head06.tw15219464898938604232 : True := trivial
theorem head06.tw15272189212543975099 : True := trivial
theorem head06.tw15286701748165423635 : True := trivial
theorem head06.tw15333817965145278896 : True := trivial
theorem head06.tw15340166106311341790 : True := trivial
theorem head06.tw1535108103684289077 : True := trivial
theorem head06.tw15386952604454156358 : True := trivial
theorem head06.tw15403872337198430243 : True := trivial
theorem head06.tw15455455777006733382 : True := trivial
theorem head06.tw1546097119938971460 : True := trivial
theorem head06.tw15463952289279112967 : True := trivial
theorem head06.tw1546415742909089033 : True := trivial
theorem head06.tw15498687881954893618 : True := trivial
theorem head06.tw15541891188407673660 : True := trivial
theorem head06.tw15570496110388421001 : True := trivial
theorem head06.tw15604789683314096357 : True := trivial
theorem head06.tw15607140306292385495 : True := trivial
theorem head06.tw15610078796646856674 : True := trivial
theorem head06.tw15620779125650679729 : True := trivial
theorem head06.tw15638160404401325094 : True := trivial
theorem head06.tw1566980077186621747 : True := trivial
theorem head06.tw15685002405588431434 : True := trivial
theorem head06.tw15712767341453903514 : True := trivial
theorem head06.tw15804004750559277955 : True := trivial
theorem head06.tw15841036449966048297 : True := trivial
theorem head06.tw15846060470663242809 : True := trivial
theorem head06.tw15847072986468384677 : True := trivial
theorem head06.tw1586258057729589881 : True := trivial
theorem head06.tw15879593578525050879 : True := trivial
theorem head06.tw15930474909693586606 : True := trivial
theorem head06.tw15994673825981595344 : True := trivial
theorem head06.tw16039017294194239667 : True := trivial
theorem head06.tw16142114042758355099 : True := trivial
theorem head06.tw16142178470785516246 : True := trivial
theorem head06.tw16143406611097751476 : True := trivial
theorem head06.tw16147650266240567746 : True := trivial
theorem head06.tw16187961797506945291 : True := trivial
theorem head06.tw16216563332850347117 : True := trivial
theorem head06.tw16217996839273853355 : True := trivial
theorem head06.tw16245453662513929319 : True := trivial
theorem head06.tw1630079269720927947 : True := trivial
theorem head06.tw1630701565730882829 : True := trivial
theorem head06.tw16308265667160775400 : True := trivial
theorem head06.tw16328744973305098893 : True := trivial
theorem head06.tw16329269652443019188 : True := trivial
theorem head06.tw16394688011527067663 : True := trivial
theorem head06.tw16409783654698241560 : True := trivial
theorem head06.tw16419019710360601622 : True := trivial
theorem head06.tw1643414235624269232 : True := trivial
theorem head06.tw16455880089247699973 : True := trivial
theorem head06.tw16464472883082264950 : True := trivial
theorem head06.tw16482994677141455782 : True := trivial
theorem head06.tw16489357084722388322 : True := trivial
theorem head06.tw16501710008555247352 : True := trivial
theorem head06.tw16562106197200254271 : True := trivial
theorem head06.tw16705598434391237030 : True := trivial
theorem head06.tw16732436131209298269 : True := trivial
theorem head06.tw16752398577251223546 : True := trivial
theorem head06.tw16752541574161698685 : True := trivial
theorem head06.tw16760940352556920103 : True := trivial
theorem head06.tw16765016556730150232 : True := trivial
theorem head06.tw16822134080506379167 : True := trivial
theorem head06.tw16825685979923775542 : True := trivial
theorem head06.tw16828864526722281046 : True := trivial
theorem head06.tw16833800923301355966 : True := trivial
theorem head06.tw16842130008658660063 : True := trivial
theorem head06.tw16843468561976541100 : True := trivial
theorem head06.tw16892895643242266538 : True := trivial
theorem head06.tw16903169561907282064 : True := trivial
theorem head06.tw16965435129481682148 : True := trivial
theorem head06.tw17002350418905350689 : True := trivial
theorem head06.tw17006235391052357362 : True := trivial
theorem head06.tw17028972303034980687 : True := trivial
theorem head06.tw17041116304070853166 : True := trivial
theorem head06.tw170488264184920216 : True := trivial
theorem head06.tw17072839574399983992 : True := trivial
theorem head06.tw17076967050326193136 : True := trivial
theorem head06.tw17077006636347989931 : True := trivial
theorem head06.tw17121114616862905107 : True := trivial
theorem head06.tw17122952903051771285 : True := trivial
theorem head06.tw17206926304204815681 : True := trivial
theorem head06.tw17230970016279552474 : True := trivial
theorem head06.tw17254139749793595942 : True := trivial
theorem head06.tw17263800057412895035 : True := trivial
theorem head06.tw17304198790204222112 : True := trivial
theorem head06.tw17308805790191128547 : True := trivial
theorem head06.tw17344200625575654705 : True := trivial
theorem head06.tw17345381572333748276 : True := trivial
theorem head06.tw17368031816557740396 : True := trivial
theorem head06.tw17389014243331950620 : True := trivial
theorem head06.tw1743938867740183899 : True := trivial
theorem head06.tw17450298524511319350 : True := trivial
theorem head06.tw17473929545064705410 : True := trivial
theorem head06.tw17574906397221014984 : True := trivial
theorem head06.tw17580273785610737830 : True := trivial
theorem head06.tw17582847187691412387 : True := trivial
theorem head06.tw17610647424953615573 : True := trivial
theorem head06.tw17614151374697512639 : True := trivial
theorem head06.tw17618015819972742329 : True := trivial
theorem head06.tw17680843237634661211 : True := trivial
theorem head06.tw17695292802315449185 : True := trivial
theorem head06.tw17703815024771793153 : True := trivial
theorem head06.tw17711781865325326041 : True := trivial
theorem head06.tw17728290280908930589 : True := trivial
theorem head06.tw17743812038052148822 : True := trivial
theorem head06.tw17750210302419968371 : True := trivial
theorem head06.tw17775741389550860907 : True := trivial
theorem head06.tw17870256145213619635 : True := trivial
theorem head06.tw17882173706266376165 : True := trivial
theorem head06.tw17971904013499376263 : True := trivial
theorem head06.tw17977025449634883179 : True := trivial
theorem head06.tw17996070954536619263 : True := trivial
theorem head06.tw18031826242909332378 : True := trivial
theorem head06.tw18035231776482201643 : True := trivial
theorem head06.tw18049511671041481257 : True := trivial
theorem head06.tw18084988727648554282 : True := trivial
theorem head06.tw18087825094564511016 : True := trivial
theorem head06.tw18103141554365537241 : True := trivial
theorem head06.tw181147808560293475 : True := trivial
theorem head06.tw18142780182721594927 : True := trivial
theorem head06.tw18244148840436471428 : True := trivial
theorem head06.tw18260221770411413035 : True := trivial
theorem head06.tw1834481696321190446 : True := trivial
theorem head06.tw18388429729707832492 : True := trivial
theorem head06.tw1841714017578331190 : True := trivial
theorem head06.tw1846623054041021572 : True := trivial
theorem head06.tw187125830952428282 : True := trivial
theorem head06.tw1881571439615581252 : True := trivial
theorem head06.tw1916160236382918293 : True := trivial
theorem head06.tw1953591780474471543 : True := trivial
theorem head06.tw1988710680208577136 : True := trivial
theorem head06.tw2016404350413733250 : True := trivial
theorem head06.tw2074102610997388492 : True := trivial
theorem head06.tw2098044059639139017 : True := trivial
theorem head06.tw2123294876477519864 : True := trivial
theorem head06.tw2149485476195994725 : True := trivial
theorem head06.tw2152309850218212737 : True := trivial
theorem head06.tw217352893373352384 : True := trivial
theorem head06.tw2195381869767642794 : True := trivial
theorem head06.tw2243204318880951790 : True := trivial
theorem head06.tw227066273117392480 : True := trivial
theorem head06.tw2274580211098281730 : True := trivial
theorem head06.tw2343812880334611530 : True := trivial
theorem head06.tw2348667040426735930 : True := trivial
theorem head06.tw2369984660275451926 : True := trivial
theorem head06.tw2372633204824216328 : True := trivial
theorem head06.tw2394494912521629377 : True := trivial
theorem head06.tw2595121820796472536 : True := trivial
theorem head06.tw2763400548018781649 : True := trivial
theorem head06.tw276483161100881357 : True := trivial
theorem head06.tw2785416131692261219 : True := trivial
theorem head06.tw2818719880249070472 : True := trivial
theorem head06.tw2826848862834126630 : True := trivial
theorem head06.tw2831925593827224180 : True := trivial
theorem head06.tw2832150275210682193 : True := trivial
theorem head06.tw2851014539617431597 : True := trivial
theorem head06.tw2868107991890485953 : True := trivial
theorem head06.tw2901269320201758759 : True := trivial
theorem head06.tw2922080404414111891 : True := trivial
theorem head06.tw2989455515670300666 : True := trivial
theorem head06.tw2998623588708622495 : True := trivial
theorem head06.tw3004458825999120096 : True := trivial
theorem head06.tw3011049302302397157 : True := trivial
theorem head06.tw3011165218633901075 : True := trivial
theorem head06.tw3015395660542476992 : True := trivial
theorem head06.tw301957026465222450 : True := trivial
theorem head06.tw3089366482125727525 : True := trivial
theorem head06.tw310739400997967412 : True := trivial
theorem head06.tw3218873143901250105 : True := trivial
theorem head06.tw3236323642885991373 : True := trivial
theorem head06.tw3287507591756859514 : True := trivial
theorem head06.tw3310016204476366231 : True := trivial
theorem head06.tw3323700820347801702 : True := trivial
theorem head06.tw3333873009780722374 : True := trivial
theorem head06.tw3353833135793580788 : True := trivial
theorem head06.tw3370581558266344187 : True := trivial
theorem head06.tw3387284178267122646 : True := trivial
theorem head06.tw3394480745034502070 : True := trivial
theorem head06.tw3416452954877261103 : True := trivial
theorem head06.tw3461175035733494748 : True := trivial
theorem head06.tw3479218841607288056 : True := trivial
theorem head06.tw3508182903938815077 : True := trivial
theorem head06.tw3516956943046226704 : True := trivial
theorem head06.tw3536878838624209485 : True := trivial
theorem head06.tw3538227494212449984 : True := trivial
theorem head06.tw3550513691630503190 : True := trivial
theorem head06.tw3645194904683308857 : True := trivial
theorem head06.tw3761149806268634587 : True := trivial
theorem head06.tw3776469165779323554 : True := trivial
theorem head06.tw3807091125893006241 : True := trivial
theorem head06.tw3850040150971290772 : True := trivial
theorem head06.tw387061321089990374 : True := trivial
theorem head06.tw3937325215015138611 : True := trivial
theorem head06.tw3987008068968531489 : True := trivial
theorem head06.tw4021946614293069010 : True := trivial
theorem head06.tw40444383194774184 : True := trivial
theorem head06.tw4053045343103407522 : True := trivial
theorem head06.tw4173813416420294545 : True := trivial
theorem head06.tw4179475552221133365 : True := trivial
theorem head06.tw420760253421466804 : True := trivial
theorem head06.tw4214903189730452148 : True := trivial
theorem head06.tw4226797103736324408 : True := trivial
theorem head06.tw4265531616079259686 : True := trivial
theorem head06.tw4271550937618136402 : True := trivial
theorem head06.tw4277680497578863814 : True := trivial
theorem head06.tw4283171024006052734 : True := trivial
theorem head06.tw429786071416940824 : True := trivial
theorem head06.tw4359443255690240285 : True := trivial
theorem head06.tw4368745764844225233 : True := trivial
theorem head06.tw4425509153492402955 : True := trivial
theorem head06.tw4429058181996518960 : True := trivial
theorem head06.tw4448013987665344586 : True := trivial
theorem head06.tw4527084171114186879 : True := trivial
theorem head06.tw4530528323901615193 : True := trivial
theorem head06.tw4604560722808795710 : True := trivial
theorem head06.tw4624924626860275545 : True := trivial
theorem head06.tw463984501079062607 : True := trivial
theorem head06.tw4661559848809476828 : True := trivial
theorem head06.tw4669133205005752170 : True := trivial
theorem head06.tw4673627528833659514 : True := trivial
theorem head06.tw4702219929682996225 : True := trivial
theorem head06.tw4723847296169609760 : True := trivial
theorem head06.tw4773268030492426026 : True := trivial
theorem head06.tw4829014013619637830 : True := trivial
theorem head06.tw487621471163152992 : True := trivial
theorem head06.tw4880967294686389406 : True := trivial
theorem head06.tw4889389955063330318 : True := trivial
theorem head06.tw4913944568212293520 : True := trivial
theorem head06.tw492638682712415673 : True := trivial
theorem head06.tw5005284998193740225 : True := trivial
theorem head06.tw501157010475184052 : True := trivial
theorem head06.tw5017545561368419696 : True := trivial
theorem head06.tw502459681882906608 : True := trivial
theorem head06.tw5071514869229072951 : True := trivial
theorem head06.tw5071977587687659878 : True := trivial
theorem head06.tw5079121398319841755 : True := trivial
theorem head06.tw5081948274395737766 : True := trivial
theorem head06.tw5094588894121944961 : True := trivial
theorem head06.tw5094730476478259198 : True := trivial
theorem head06.tw5108836583591864171 : True := trivial
theorem head06.tw5119153938004183778 : True := trivial
theorem head06.tw5148625697681280414 : True := trivial
theorem head06.tw5165538761980766191 : True := trivial
theorem head06.tw5168502862728440833 : True := trivial
theorem head06.tw5247291125803204625 : True := trivial
theorem head06.tw5279103798322381447 : True := trivial
theorem head06.tw5348901469314353742 : True := trivial
theorem head06.tw5350380935213682310 : True := trivial
theorem head06.tw5374189778364111123 : True := trivial
theorem head06.tw537466239314210969 : True := trivial
theorem head06.tw539055454523757549 : True := trivial
theorem head06.tw5406243576122309656 : True := trivial
theorem head06.tw5413404592473669018 : True := trivial
theorem head06.tw5419660484239644970 : True := trivial
theorem head06.tw5421689065412704502 : True := trivial
theorem head06.tw5522682743970641100 : True := trivial
theorem head06.tw5539881751444969141 : True := trivial
theorem head06.tw5545957414627697096 : True := trivial
theorem head06.tw5641222518113324981 : True := trivial
theorem head06.tw5695362395607174019 : True := trivial
theorem head06.tw5771191735494173252 : True := trivial
theorem head06.tw5871624648008114319 : True := trivial
theorem head06.tw5893269715482570194 : True := trivial
theorem head06.tw5937500546831458274 : True := trivial
theorem head06.tw6009116331521133571 : True := trivial
theorem head06.tw6053560813903508288 : True := trivial
theorem head06.tw6060819710079010728 : True := trivial
theorem head06.tw6148627481531334449 : True := trivial
theorem head06.tw6181576865714188892 : True := trivial
theorem head06.tw6193510992985917573 : True := trivial
theorem head06.tw6212704609035076124 : True := trivial
theorem head06.tw6214222378289176972 : True := trivial
theorem head06.tw6266569212393936904 : True := trivial
theorem head06.tw6276582972868027967 : True := trivial
theorem head06.tw6303069638829209848 : True := trivial
theorem head06.tw6310600853864065291 : True := trivial
theorem head06.tw6317450475745816103 : True := trivial
theorem head06.tw6391751116050281552 : True := trivial
theorem head06.tw6428112465615015028 : True := trivial
theorem head06.tw6444669680257304151 : True := trivial
theorem head06.tw6580792462107260585 : True := trivial
theorem head06.tw6587478922316566837 : True := trivial
theorem head06.tw6598297615841508882 : True := trivial
theorem head06.tw6601946397935056657 : True := trivial
theorem head06.tw6635573630270447236 : True := trivial
theorem head06.tw6657111606825681625 : True := trivial
theorem head06.tw6682139853709629099 : True := trivial
theorem head06.tw6701325493936047359 : True := trivial
theorem head06.tw6705330808715253060 : True := trivial
theorem head06.tw6715817658777912693 : True := trivial
theorem head06.tw6772304552946912512 : True := trivial
theorem head06.tw6794871089576404382 : True := trivial
theorem head06.tw680000260844339161 : True := trivial
theorem head06.tw6812051485734354684 : True := trivial
theorem head06.tw6814421977454527780 : True := trivial
theorem head06.tw682131969147948592 : True := trivial
theorem head06.tw6864844262899818546 : True := trivial
theorem head06.tw6915254304904272044 : True := trivial
theorem head06.tw69274608555247199 : True := trivial
theorem head06.tw6933543583546471276 : True := trivial
theorem head06.tw6935488812753874397 : True := trivial
theorem head06.tw6961315549667842595 : True := trivial
theorem head06.tw6986853485645249487 : True := trivial
theorem head06.tw6993770153221408979 : True := trivial
theorem head06.tw7094719156130353736 : True := trivial
theorem head06.tw7103053643989806869 : True := trivial
theorem head06.tw7105842725266805794 : True := trivial
theorem head06.tw712610243320049516 : True := trivial
theorem head06.tw7134669121466711943 : True := trivial
theorem head06.tw7225320393579364382 : True := trivial
theorem head06.tw7242954082567043694 : True := trivial
theorem head06.tw7245365292933105426 : True := trivial
theorem head06.tw7267333347067237382 : True := trivial
theorem head06.tw7290239072168640674 : True := trivial
theorem head06.tw7352794419135098324 : True := trivial
theorem head06.tw7407565728231983638 : True := trivial
theorem head06.tw7421270330575217649 : True := trivial
theorem head06.tw7422050816812027121 : True := trivial
theorem head06.tw7484994323427432226 : True := trivial
theorem head06.tw7503079491768906940 : True := trivial
theorem head06.tw7519914422669426441 : True := trivial
theorem head06.tw7548154914128216025 : True := trivial
theorem head06.tw7580058813791831672 : True := trivial
theorem head06.tw7585144378423425279 : True := trivial
theorem head06.tw7586082649242969464 : True := trivial
theorem head06.tw7610313397967099673 : True := trivial
theorem head06.tw7620959643455657521 : True := trivial
theorem head06.tw7624568798959337127 : True := trivial
theorem head06.tw7642253949197077057 : True := trivial
theorem head06.tw7653729238672347047 : True := trivial
theorem head06.tw7680458286146547351 : True := trivial
theorem head06.tw7708865151955290153 : True := trivial
theorem head06.tw7714391480565314556 : True := trivial
theorem head06.tw7818295195871867283 : True := trivial
theorem head06.tw7823736237169856511 : True := trivial
theorem head06.tw7827313554532250099 : True := trivial
theorem head06.tw7876732741877477477 : True := trivial
theorem head06.tw7878530464777934122 : True := trivial
theorem head06.tw7969945535872967196 : True := trivial
theorem head06.tw8013217574503265336 : True := trivial
theorem head06.tw8040590705372170417 : True := trivial
theorem head06.tw811432239695972794 : True := trivial
theorem head06.tw8139918003761711411 : True := trivial
theorem head06.tw8182630298127896415 : True := trivial
theorem head06.tw8187733246754444968 : True := trivial
theorem head06.tw821679193474875196 : True := trivial
theorem head06.tw8248913152014422441 : True := trivial
theorem head06.tw8273163501735684014 : True := trivial
theorem head06.tw8302220915206425520 : True := trivial
theorem head06.tw8315141631788399213 : True := trivial
theorem head06.tw8341905672837483832 : True := trivial
theorem head06.tw8408580804115982313 : True := trivial
theorem head06.tw8408715806643769752 : True := trivial
theorem head06.tw8409095887402642179 : True := trivial
theorem head06.tw8494425721781663898 : True := trivial
theorem head06.tw8547659838572256988 : True := trivial
theorem head06.tw8568217673343775670 : True := trivial
theorem head06.tw8596565857094988384 : True := trivial
theorem head06.tw8604403367499063729 : True := trivial
theorem head06.tw8620107032108741217 : True := trivial
theorem head06.tw8658254823142818157 : True := trivial
theorem head06.tw8685216042093126319 : True := trivial
theorem head06.tw8686662496433557340 : True := trivial
theorem head06.tw8687727678505593034 : True := trivial
theorem head06.tw8692554669525027101 : True := trivial
theorem head06.tw8730603829145747535 : True := trivial
theorem head06.tw8740598086291016933 : True := trivial
theorem head06.tw8784193710688414613 : True := trivial
theorem head06.tw8804720357763832478 : True := trivial
theorem head06.tw8829657218008191334 : True := trivial
theorem head06.tw8837181930286699677 : True := trivial
theorem head06.tw8875500064801698143 : True := trivial
theorem head06.tw8888158559949210137 : True := trivial
theorem head06.tw888842465443265787 : True := trivial
theorem head06.tw8904170628461704594 : True := trivial
theorem head06.tw8904970338832894308 : True := trivial
theorem head06.tw8909106776811500686 : True := trivial
theorem head06.tw8915015325241278843 : True := trivial
theorem head06.tw8937938018823175883 : True := trivial
theorem head06.tw8940704833298672315 : True := trivial
theorem head06.tw8985208259130028492 : True := trivial
theorem head06.tw9010721807216672919 : True := trivial
theorem head06.tw9021921863039111752 : True := trivial
theorem head06.tw9057107388118514949 : True := trivial
theorem head06.tw9103941192039663919 : True := trivial
theorem head06.tw9146418241701335093 : True := trivial
theorem head06.tw9180544469998238239 : True := trivial
theorem head06.tw9204614664987192131 : True := trivial
theorem head06.tw9241019285367181522 : True := trivial
theorem head06.tw9248454832469281136 : True := trivial
theorem head06.tw9282933142732864862 : True := trivial
theorem head06.tw9310769657858879060 : True := trivial
theorem head06.tw9337863478499617461 : True := trivial
theorem head06.tw9340697070853622803 : True := trivial
theorem head06.tw9419486036192004635 : True := trivial
theorem head06.tw9423432520458502588 : True := trivial
theorem head06.tw9425115432045790289 : True := trivial
theorem head06.tw9511266638700538315 : True := trivial
theorem head06.tw9635689831459075272 : True := trivial
theorem head06.tw9702589433301243103 : True := trivial
theorem head06.tw9835083871901619012 : True := trivial
theorem head06.tw9836450358605739889 : True := trivial
theorem head06.tw985357672662701244 : True := trivial
theorem head06.tw9856725229352098887 : True := trivial
theorem head06.tw9891982962764026662 : True := trivial
theorem head06.tw9948424125494209469 : True := trivial
theorem head06.tw9951028605469992886 : True := trivial
theorem head06.tw999773768463161851 : True := trivial
set_option Elab.async true in
theorem head06 : PySem.Challenge.rw_uf020034_06.Holds := by
  w_on; o_law; k_head; (case hw => w_witness2)
  intro w s₀ s₁ mg mb G Y fa o pm cd doc dV kV ho hd hcd hD hmg hg args vals as hpre hlay hrd hwl hlo
  have KX := kIn_of Y
  refine Ground.open G ?_
  intro T B D TE TW
  wrow_args hpre hlay hrd hwl hlo
  exact law_end (t := tb) (k := 14) T KX (by decide +kernel) (by kernel_rfl) (by kernel_rfl) (by decide +kernel) hg "law" rfl (by kernel_rfl) hmg (by assumption) (by assumption) (fun _ => rfl) (by wrow_post) 10 ⟨by decide, by decide⟩ (fun is _ => main06' is)
end Mine
end
theorem PySem.Challenge.cw_uf020034_06_holds : PySem.Challenge.rw_uf020034_06.Holds := by
  exact Mine.head06
