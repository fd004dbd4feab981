import PyProof.Rows.All
import Wide.All
import OpenK.AllK
import Wide.FinOn
import KE.KIsAll
import PyProof.Dict
import PyProof.ExcAttrAll.ValueError
import PyProof.Rows.CallKwBuiltin
import PyProof.Rows.SortRev
import PyProof.SetRoads
import PyProof.TableCode
import PySem.SetOps
import Lean
import PySem.Challenge.RW_uf020034_04
section
set_option autoImplicit false
set_option linter.all false
set_option genSizeOf false
set_option genInjectivity false
set_option genCtorIdx false
set_option backward.match.sparseCases false
set_option maxRecDepth 20000
set_option tactic.hygienic false
section
namespace Mine
theorem la2 {a n z:Nat}(h:a+(n+1)<=z):a+1+n<=z:=Nat.succ_add a n▸h
theorem la3 {a n z:Nat}(h:a+(n+1)<=z):a+n<=z:=Nat.le_of_lt h
theorem la1 {a n z:Nat}(h:a+(n+1)<=z):a < z:=Nat.lt_of_le_of_lt (Nat.le_add_right a n) h
theorem la4 {t M:Nat}(h:0<=(t:Int)/\(t:Int) < M):t < M:=Int.ofNat_lt.mp h.2
theorem la5 {i M:Int}(h:0<=i/\i < M):i=i.toNat:=(Int.toNat_of_nonneg h.1).symm
theorem la6 {i:Int}{M:Nat}(h:0<=i/\i < M):i.toNat < M:=(Int.toNat_lt h.1).mpr h.2
theorem la7 {a k b:Nat}(h:a<=k)(q:Nat.ble k b=true):a<=b:=Nat.le_trans h (Nat.le_of_ble_eq_true q)
theorem la8 {a k b:Nat}(h:a+k<=b):a<=b:=Nat.le_trans (Nat.le_add_right ..) h
theorem la9 {a k b c:Nat}(h:a+k<=b)(q:c<=k):a+c<=b:=Nat.le_trans (Nat.add_le_add_left q _) h
theorem lb1 {a n z:Nat}(h:a+(n+1)=z):a < z:=la1 (Nat.le_of_eq h)
theorem lb2 {a n z:Nat}(h:a+(n+1)=z):a+1+n=z:=(Nat.succ_add a n).trans h
theorem lb3 {t M:Nat}(h:t < M):¬ (M:Int)<=t:=fun z=>Nat.not_lt_of_le (Int.ofNat_le.mp z) h
theorem lb4 {a x:Int}(h:a < x):¬ x<=a:=fun z=>Int.not_lt.mpr z h
theorem lb5 {n:Nat}(h:(n:Int)=0):n=0:=Int.ofNat.inj h
theorem lb7 {u t:Nat}(h:(u:Int)=t):u=t:=Int.ofNat.inj h
theorem lb6 {u t:Nat}(h:¬ u=t):¬ (u:Int)=t:=fun z=>h (lb7 z)
theorem lb9 {u c d:Nat}(h:Nat.blt c d=true):u+c < d+u:=Nat.add_comm d u▸Nat.add_lt_add_left (Nat.le_of_ble_eq_true h) u
theorem lc1 {u d:Nat}(h:0 < d):u < d+u:=Nat.lt_add_of_pos_left h
theorem lc2 {a b c:Nat}(h:a<=b)(q:b=c):a<=c:=q▸h
theorem lc3 {a b c:Nat}(q:a=b)(h:b<=c):a<=c:=q▸h
theorem lc4 {a b:Nat}(h:b<=a):¬ a < b:=Nat.not_lt_of_le h
theorem lc5 {a b k:Nat}(h:a < k)(q:Nat.ble k b=true):a < b:=la7 h q
theorem lc6 {a b k:Nat}(h:a<=k)(q:Nat.blt k b=true):a < b:=Nat.lt_of_le_of_lt h (Nat.le_of_ble_eq_true q)
theorem lc7 {a:Nat}{b:Int}{k:Nat}(h:a<=k)(q:decide ((k:Int)<=b)=true):(a:Int)<=b:=Int.le_trans (Int.ofNat_le.mpr h) (of_decide_eq_true q)
theorem lc9 {t M:Nat}(h:(t:Int) < M):t < M:=Int.ofNat_lt.mp h
theorem ld1 {t M:Nat}(h:t < M):(t:Int) < M:=Int.ofNat_lt.mpr h
theorem ld2 {t M:Nat}(h:t<=M):(t:Int)<=M:=Int.ofNat_le.mpr h
theorem ld3 {t M:Nat}(h:(t:Int)<=M):t<=M:=Int.ofNat_le.mp h
theorem le1 {a b:Nat}(h:a < b)(q:b<=a):False:=Nat.not_lt_of_le q h
theorem le2 {a b:Int}(h:a < b)(q:b<=a):False:=Int.not_lt.mpr q h
theorem le3 {a k:Nat}:¬ a+1+k < a:=Nat.not_lt_of_le (Nat.le_trans (Nat.le_succ a) (Nat.le_add_right ..))
theorem le4 {a k:Nat}:a+1+k≠a:=Nat.ne_of_gt (Nat.lt_of_lt_of_le (Nat.lt_succ_self a) (Nat.le_add_right ..))
theorem le5 {a k c:Nat}:a+1+k+c≠a:=Nat.ne_of_gt (Nat.lt_of_lt_of_le (Nat.lt_succ_self a) (Nat.le_trans (Nat.le_add_right _ k) (Nat.le_add_right _ c)))
theorem le8 {M:Nat}:((M:Int) - 0).toNat=M:=(congrArg Int.toNat (Int.sub_zero _)).trans (Int.toNat_natCast M)
theorem le9 {i:Int}{M:Nat}(h:0<=i/\i < M):0<=i/\i < 0+M:=(Int.zero_add (M:Int)).symm▸h
theorem lf3 {z:Int}{p n:Nat}(h:0<=z/\z < ((p+1+n:Nat):Int)):0<=z/\z < ((p+(n+1):Nat):Int):=⟨h.1,Int.lt_of_lt_of_le h.2 (Int.le_of_eq (congrArg Nat.cast (Nat.succ_add p n)))⟩
theorem lf4 {M k:Nat}(h:M<=k):0+M<=k:=(Nat.zero_add M).symm▸h
theorem lf5 {x:Int}{n:Nat}(h:0<=x)(q:x < n):x.toNat < n:=(Int.toNat_lt h).mpr q
theorem lf6 {a n z:Nat}(h:a+(n+1)+1<=z):a+1 < z:=Nat.lt_of_le_of_lt (Nat.add_le_add_left (Nat.succ_le_succ (Nat.zero_le n)) a) h
theorem lf7 {a n z:Nat}(h:a+(n+1)+1<=z):a+1+n+1<=z:=Nat.succ_add a n▸h
theorem lg1 {b:Nat}(h:0 < b):(b:Int)≠0:=fun z=>Nat.ne_of_gt h (lb5 z)
theorem lg5 {M:Nat}(h:1<=M):0<=(M:Int) - 1:=Int.sub_nonneg_of_le (Int.ofNat_le.mpr h)
theorem lg6 {M:Nat}:(M:Int) - 1 < M:=Int.sub_lt_self _ (by decide)
theorem lg8 {a z n:Nat}(h:a+(n+1)<=z):a+1<=z:=la1 h
theorem lg9 {p M:Nat}(h:p < M):1+p<=M:=Nat.add_comm 1 p▸h
theorem lh1 {a b c:Nat}(h:a<=b)(q:b < c):c<=a->False:=fun z=>Nat.lt_irrefl _ (Nat.lt_of_le_of_lt (Nat.le_trans z h) q)
theorem lh2 {b i m l:Nat}(h:l<=i)(q:i < m):b+(i - l) < b+(m - l):=Nat.add_lt_add_left (Nat.sub_lt_sub_right h q) b
theorem lh3 {n:Nat}:((n+1:Nat):Int) - 1=n:=Int.add_sub_cancel (n:Int) 1
theorem lh4 {w u:Nat}(h:w < u+1)(c:¬ w=u):w < u:=Nat.lt_of_le_of_ne (Nat.le_of_lt_succ h) c
theorem lh5 {t c k:Nat}(h:Nat.blt c 8=true):c≠8 * (t+1)+k:=Nat.ne_of_lt (Nat.lt_of_lt_of_le (Nat.le_of_ble_eq_true h) (Nat.le_trans (Nat.le_mul_of_pos_right 8 (Nat.succ_pos t)) (Nat.le_add_right ..)))
theorem lh6 {a b k c:Nat}(h:a<=k)(q:Nat.blt (k * b) c=true){u:Nat}:u+a * b < c+u:=Nat.add_comm c u▸Nat.add_lt_add_left (Nat.lt_of_le_of_lt (Nat.mul_le_mul_right b h) (Nat.le_of_ble_eq_true q)) u
theorem lh7 {a b k c:Nat}(h:a<=k)(q:Nat.ble (k * b) c=true):a * b<=c:=Nat.le_trans (Nat.mul_le_mul_right b h) (Nat.le_of_ble_eq_true q)
theorem lh8 {a b c d:Nat}(h:a<=b)(q:1<=c):a+1<=c+b:=Nat.add_comm c b▸Nat.add_le_add h q
theorem lh9 {a b:Nat}(h:b < a)(q:a<=b+1):a=b+1:=Nat.le_antisymm q h
theorem li1 {z:Int}{p n:Nat}(h:0<=z/\z < ((0+n:Nat):Int)):0<=z/\z < (n:Int):=Nat.zero_add n▸h
theorem li2 {p:Nat}:((1+p:Nat):Int)=1+(p:Int):=rfl
theorem li3 {p c k:Nat}(h:p < c)(q:Nat.ble c k=true):(p:Int).natAbs<=k:=Nat.le_of_lt (la7 h q)
theorem li4 {p n k:Nat}(h:n<=k):min p n<=k:=Nat.le_trans (Nat.min_le_right ..) h
theorem li5 {n:Nat}:((n:Nat):Int).toNat=n:=Int.toNat_natCast n
theorem li6 {n m a:Nat}(h:n < a)(q:a<=m):n<=m:=Nat.le_trans (Nat.le_of_lt h) q
theorem li7 {n m a k:Nat}(h:n < a)(q:k<=m)(c:Nat.ble a k=true):n<=m:=Nat.le_trans (Nat.le_of_lt (la7 h c)) q
theorem li8 {n m a k:Nat}(h:n < a)(q:k<=m)(c:Nat.ble a k=true):n < m+1:=Nat.lt_succ_of_le (li7 h q c)
theorem li9 {a b c m:Nat}(h:(a+(b+1)) * 5 < m):(a+b) * 5 < m:=Nat.lt_of_le_of_lt (Nat.mul_le_mul_right 5 (Nat.le_succ _)) h
theorem lj1 {a b m:Nat}(h:(a+(b+1)) * 5 < m):(a+1) * 5 < m:=Nat.lt_of_le_of_lt (Nat.mul_le_mul_right 5 (Nat.add_le_add_left (Nat.succ_le_succ (Nat.zero_le b)) a)) h
theorem lj2 {a b m:Nat}(h:(a+(b+1)) * 5 < m):(a+1+b) * 5 < m:=Nat.succ_add a b▸h
theorem lj3 {m i n:Nat}(h:m < min i n):m < n:=Nat.lt_of_lt_of_le h (Nat.min_le_right ..)
theorem lj4 {m i n:Nat}(h:m < min (i+1) n)(c:¬ m=i):m < i:=lh4 (Nat.lt_of_lt_of_le h (Nat.min_le_left ..)) c
theorem lj5 {m i n:Nat}(h:m < n - (i+1)):i+1+m < n:=Nat.add_comm m (i+1)▸Nat.add_lt_of_lt_sub h
theorem lj6 {a x:Int}(c:¬ x < a)(d:¬ x=a):a < x:=(Int.lt_or_eq_of_le (Int.not_lt.mp c)).elim id fun z=>absurd z.symm d
theorem lj7 {a b k:Nat}(h:¬ a<=k):k+1<=a:=Nat.lt_of_not_le h
theorem lj8 {x:Int}{k:Nat}(h:x.natAbs<=k){b:Int}(q:decide (b<= -(k:Int))=true):b<=x:=Int.le_trans (of_decide_eq_true q) (Int.le_trans (Int.neg_le_neg (Int.ofNat_le.mpr h)) (Int.neg_le_of_neg_le (Int.natAbs_neg x▸Int.le_natAbs)))
theorem lj9 {x:Int}{k:Nat}(h:x.natAbs<=k){b:Int}(q:decide ((k:Int) < b)=true):x < b:=Int.lt_of_le_of_lt (Int.le_trans Int.le_natAbs (Int.ofNat_le.mpr h)) (of_decide_eq_true q)
theorem lk1 {a b c l:Nat}(h:a<=b+1)(q:b+(c+1)+1 < l):a+c+1 < l:=Nat.lt_of_le_of_lt (Nat.succ_le_succ (Nat.le_trans (Nat.add_le_add_right h c) (Nat.le_of_eq (Nat.succ_add b c)))) q
theorem lk2 {x a b c:Nat}(h:x<=a+c)(q:a<=b+1):x<=b+(c+1):=Nat.le_trans h (Nat.le_trans (Nat.add_le_add_right q c) (Nat.le_of_eq (Nat.succ_add b c)))
theorem lk3 {i:Int}{n:Nat}(h:0<=i+n): -(n:Int)<=i:=Int.le_of_add_le_add_right (a:= -(n:Int)) (b:=n) (c:=i) ((Int.add_left_neg (n:Int)).symm▸h)
theorem lk5 {a b c m:Nat}(h:m<=b)(q:a+80 < c)(d:Nat.ble b 80=true):a+m < c:=Nat.lt_of_le_of_lt (Nat.add_le_add_left (la7 h d) a) q
theorem lk4 {a b c m:Nat}(h:m<=b)(q:a+80 < c)(d:Nat.ble (b+1) 80=true):a+1+m < c:=Nat.succ_add a m▸lk5 (m:=m+1) (Nat.succ_le_succ h) q d
theorem lk6 {a b c k l:Nat}(h:a+b+k < c)(q:Nat.ble l k=true):a+l < c:=Nat.lt_of_le_of_lt (Nat.add_le_add (Nat.le_add_right a b) (Nat.le_of_ble_eq_true q)) h
theorem lk7 {a c k l:Nat}(h:a+k < c)(q:Nat.ble l k=true):a+l < c:=Nat.lt_of_le_of_lt (Nat.add_le_add_left (Nat.le_of_ble_eq_true q) a) h
theorem ll1 {A l:Nat}(h:A<=l):min A l+(l - A+1)=l+1:=(Nat.min_eq_left h).symm▸congrArg Nat.succ (Nat.add_sub_of_le h)
theorem ll2 {p:Nat}(h:(p+1) * 5 < 7 * 3):p<=4:=Nat.le_of_lt_succ (Nat.lt_of_succ_lt (Nat.lt_of_mul_lt_mul_right (a:=5) (Nat.lt_of_lt_of_le h (Nat.le_of_ble_eq_true rfl):(p+1) * 5 < 5 * 5)))
theorem ll3 {p m:Nat}(h:(p+1) * 5 < m * 3):p+1<=m:=Nat.le_of_lt (Nat.lt_of_mul_lt_mul_right (a:=3) (Nat.lt_of_le_of_lt (Nat.mul_le_mul_left _ (Nat.le_of_ble_eq_true rfl)) h))
theorem ll4 {a b c d l:Nat}(h:a+b<=l)(q:c+d<=b):a+c+d<=l:=Nat.add_assoc a c d▸la9 h q
theorem ll5 {a u n w:Nat}(e:u=a+n)(h:n < w):u < w+a:=e▸Nat.add_comm w a▸Nat.add_lt_add_left h a
theorem lm1 {u v m n w:Nat}(h:v<=u+m+n)(q:m+n < w):v < w+u:=Nat.lt_of_le_of_lt h (Nat.add_assoc u m n▸Nat.add_comm w u▸Nat.add_lt_add_left q u)
theorem lm2 {x y u v m n w z:Nat}(h:v<=u+m+n)(q:x+m+n<=y+w)(l:y+(w+u)<=z):x+v<=z:=by lia
theorem lm3 {y u v w z:Nat}(h:v < w+u)(l:y+(w+u)<=z):y+v<=z:=Nat.le_trans (Nat.add_le_add_left (Nat.le_of_lt h) y) l
theorem lm4 {a b c:Nat}(h:c<=a)(q:a < b):¬ b<=c:=Nat.not_le_of_lt (Nat.lt_of_le_of_lt h q)
theorem lm5 {a b c:Nat}(h:b < c)(q:a<=b+1)(d:c<=a):a=c:=Nat.le_antisymm (Nat.le_trans q h) d
theorem lm6 {l o:Nat}(h:l<=o+1)(q:1<=l):l / 2 < o+1:=Nat.lt_of_lt_of_le (Nat.div_lt_self q (Nat.le_refl 2)) h
end Mine
end
section
namespace Mine
open PySem
noncomputable def insS (x:Int):List Int->List Int
 | []=>[x]
 | y::r=>if x < y then x::y::r else if x=y then y::r else y::insS x r
noncomputable def mkSet:List Int->List Int
 | []=>[]
 | x::r=>insS x (mkSet r)
noncomputable def layT (L:List Int)(t:SetTable)(i:Int):List Int×SetTable×Bool:=match t.freeSlot (hashInt i) with
 | some (slot,wd)=>(L.take (t.put slot).2++i::L.drop (t.put slot).2,(t.put slot).1.orStandIn (L.length+1),wd)
 | none=>(L++[i],t.standIn (L.length+1),false)
noncomputable def relT (L:List Int)(t:SetTable)(n:Nat):List Int×SetTable:=match t.relaid (L.map hashInt).toArray n with
 | some (t',o)=>if (coversAll o L.length&&t'.fits (o.toList.filterMap fun k=>L[k]?).length)=true then (o.toList.filterMap fun k=>L[k]?,t') else (L,t.standIn L.length)
 | none=>(L,t.standIn L.length)
noncomputable def addT (p:List Int×SetTable)(i:Int):List Int×SetTable:=if i∈p.1 then p else
 if (!(layT p.1 p.2 i).2.2&&(layT p.1 p.2 i).2.1.tooFull)=true then relT (layT p.1 p.2 i).1 (layT p.1 p.2 i).2.1 (SetTable.grown (layT p.1 p.2 i).1.length) else ((layT p.1 p.2 i).1,(layT p.1 p.2 i).2.1)
noncomputable def reoT (L:List Int):Option (SetTable×Array Nat)->Option (List Int×SetTable)
 | none=>none
 | some (t,o)=>if ((o.toList.filterMap fun k=>L[k]?).length==L.length&&t.fits L.length)=true then some (o.toList.filterMap fun k=>L[k]?,t) else none
noncomputable def roomT (p:List Int×SetTable)(more:Nat):Option (List Int×SetTable):=match p.2.roomFor more with
 | none=>some p
 | some n=>if SetTable.sizeAbove n<=sizeLine then reoT p.1 (p.2.relaid (p.1.map hashInt).toArray n) else none
noncomputable def copyT (led:Bool)(p:List Int×SetTable):Option (List Int×SetTable):=if p.1.isEmpty=true then some ([],.fresh 0 0 led) else
 match roomT ([],.fresh 0 0 led) p.1.length with
 | none=>none
 | some r=>match r.2.road p.2 with
  | .slotForSlot=>some (p.1,{ p.2 with finger:=r.2.finger,led:=r.2.led&&p.2.led,moves:=r.2.moves,plain:=r.2.plain&&p.2.plain })
  | .clean=>reoT p.1 (SetTable.laid r.2.mask r.2.finger r.2.moves (led:=r.2.led&&p.2.led) (plain:=r.2.plain&&p.2.plain) (p.1.map hashInt).toArray)
  | .oneByOne=>none
noncomputable def stp (led:Bool)(t:SetTable):Nat->Nat
 | 0=>0
 | i+1=>if led=true then t.place.getD i 0+1 else 0
noncomputable def walkT (t:SetTable):Bool:=t.plain&&t.led&&(List.range (t.place.size+1)).all fun k=>SetTable.below t.place (stp true t k)==k
noncomputable def uniB (led:Bool)(l m:List Int):Bool:=match copyT led (l.foldl addT ([],.fresh 0 0 led)) with
 | none=>false
 | some c=>match roomT c (m.foldl addT ([],.fresh 0 0 led)).1.length with
  | none=>false
  | some r=>(m.foldl addT ([],.fresh 0 0 led)).2.led==led&&(m.foldl addT ([],.fresh 0 0 led)).2.plain&&!(m.foldl addT ([],.fresh 0 0 led)).1.isEmpty&&r.2.fill != 0&&Nat.blt (l.foldl addT ([],.fresh 0 0 led)).1.length 64&&Nat.blt c.1.length 64&&Nat.blt (r.1.length+(m.foldl addT ([],.fresh 0 0 led)).1.length) 64&&Nat.blt l.length 64&&Nat.blt m.length 64
   &&decide r.1.Nodup&&mkSet (r.1++(m.foldl addT ([],.fresh 0 0 led)).1)==mkSet (l++m)&&(!led || walkT ((m.foldl addT ([],.fresh 0 0 led)).1.foldl addT r).2)
noncomputable def lenB (l:List Int):Bool:=Nat.blt l.length 64&&((l.foldl addT ([],.fresh 0 0 true)).1.length==l.length&&(l.foldl addT ([],.fresh 0 0 false)).1.length==l.length)
noncomputable def uniK (l m:List Int):Bool:=uniB true l m&&uniB false l m
end Mine
end
section
namespace Mine
open PySem (Str)
set_option genCtorIdx true in
inductive B where
 | int | bool | list | tuple | str | valueError | range | set | enumerate
 | len | isinstance | max | min | sorted
set_option genCtorIdx true in
inductive V where
 | none
 | bool (b:Bool)
 | int (i:Int)
 | str (s:Str)
 | tup (xs:List V)
 | lst (xs:List V)
 | rng (a b c:Int)
 | ref (i:Nat)
 | bt (b:B)
 | fn (k:Nat)
 | cls (k:Nat)
inductive C where
 | list (xs:List V)
 | dict (kvs:List (V×V))
 | inst (k:Nat) (fs:List (Nat×V))
 | exc (k:Nat)
noncomputable def atC (l:List (Option C)):Nat->Option C:=List.rec (motive:=fun ø=>Nat->Option C) (fun ø=>none) (fun c ø ih n=>Nat.rec (motive:=fun ø=>Option C) c (fun m ø=>ih m) n) l
noncomputable def setN (l:List (Option C)):Nat->Option C->List (Option C):=List.rec (motive:=fun ø=>Nat->Option C->List (Option C)) (fun ø ø=>[]) (fun c r ih n d=>Nat.rec (motive:=fun ø=>List (Option C)) (d::r) (fun m ø=>c::ih m d) n) l
structure Hp where
 cs:List (Option C)
noncomputable def Hp.get (H:Hp)(i:Nat):Option C:=atC H.cs i
noncomputable def Hp.next (H:Hp):Nat:=H.cs.length
noncomputable def Hp.set (H:Hp)(i:Nat)(c:C):Hp:=⟨setN H.cs i (some c)⟩
noncomputable def Hp.new (H:Hp)(c:C):Hp:=⟨H.cs++[some c]⟩
noncomputable def Hp.del (H:Hp)(i:Nat):Hp:=⟨setN H.cs i none⟩
theorem ZdG {d:Option C}:∀{cs:List (Option C)} {i:Nat},(setN cs i d).length=cs.length
 | [],_=>rfl
 | _::_,0=>rfl
 | _::r,i+1=>congrArg (·+1) (ZdG (cs:=r))
theorem Zej {d:Option C}:∀{cs:List (Option C)} {i j:Nat},i < cs.length->atC (setN cs i d) j=if j=i then d else atC cs j
 | [],i,j,h=>absurd h (Nat.not_lt_zero _)
 | c::r,0,0,_=>rfl
 | c::r,0,j+1,_=>rfl
 | c::r,i+1,0,_=>rfl
 | c::r,i+1,j+1,h=>(Zej (cs:=r) (Nat.lt_of_succ_lt_succ h)).trans (by
   show (if j=i then d else atC r j)=if j+1=i+1 then d else atC r j
   by_cases e:j=i
   ·rw [if_pos e,if_pos (congrArg (·+1) e)]
   ·rw [if_neg e,if_neg fun z=>e (Nat.succ.inj z)])
theorem ZcW:∀{cs:List (Option C)} {i:Nat},cs.length<=i->atC cs i=none
 | [],_,_=>rfl
 | c::r,0,h=>absurd h (Nat.not_succ_le_zero _)
 | c::r,i+1,h=>ZcW (cs:=r) (Nat.le_of_succ_le_succ h)
theorem Zak {cs:List (Option C)}{i:Nat}{c:C}(h:atC cs i=some c):i < cs.length:=by
 by_cases q:i < cs.length
 ·exact q
 ·rw [ZcW (Nat.le_of_not_lt q)] at h; cases h
theorem ZgS {d:Option C}:∀{cs:List (Option C)} {j:Nat},atC (cs++[d]) j=if j=cs.length then d else atC cs j
 | [],0=>rfl
 | [],j+1=>rfl
 | c::r,0=>rfl
 | c::r,j+1=>(ZgS (cs:=r)).trans (by
   show (if j=r.length then d else atC r j)=if j+1=r.length+1 then d else atC r j
   by_cases e:j=r.length
   ·rw [if_pos e,if_pos (congrArg (·+1) e)]
   ·rw [if_neg e,if_neg fun z=>e (Nat.succ.inj z)])
theorem Hp.get_set {H:Hp}{i j:Nat}{c c':C}(h:H.get i=some c):(H.set i c').get j=if j=i then some c' else H.get j:=Zej (Zak h)
theorem Hp.get_del {H:Hp}{i j:Nat}{c:C}(h:H.get i=some c):(H.del i).get j=if j=i then none else H.get j:=Zej (Zak h)
theorem Hp.get_new {H:Hp}{j:Nat}{c:C}:(H.new c).get j=if j=H.next then some c else H.get j:=ZgS
theorem Hp.next_set {H:Hp}{i:Nat}{c:C}:(H.set i c).next=H.next:=ZdG
theorem Hp.next_del {H:Hp}{i:Nat}:(H.del i).next=H.next:=ZdG
theorem Hp.next_new {H:Hp}{c:C}:(H.new c).next=H.next+1:=by
 show (H.cs++[some c]).length=_
 rw [List.length_append]; rfl
noncomputable abbrev Loc:=Nat->Option V
noncomputable def upd (m:Loc)(i:Nat)(v:V):Loc:=fun j=>if j=i then some v else m j
noncomputable def unb (m:Loc)(i:Nat):Loc:=fun j=>if j=i then none else m j
noncomputable def unbs (ts:List Nat)(m:Loc):Loc:=fun j=>if ts.contains j then none else m j
structure St where
 H:Hp
 loc:Loc
noncomputable def St.setH (σ:St)(H:Hp):St:=⟨H,σ.loc⟩
noncomputable def St.put (σ:St)(i:Nat)(v:V):St:=⟨σ.H,upd σ.loc i v⟩
inductive Flow where
 | next | brk | cont
 | ret (v:V)
noncomputable def lk {α:Type}(l:List (Nat×α))(n:Nat):Option α:=List.rec (motive:=fun ø=>Option α) none (fun p ø ih=>cond (Nat.beq p.1 n) (some p.2) ih) l
noncomputable def st {α:Type}(l:List (Nat×α))(n:Nat)(v:α):List (Nat×α):=List.rec (motive:=fun ø=>List (Nat×α)) [(n,v)] (fun p r ih=>cond (Nat.beq p.1 n) ((p.1,v)::r) (p::ih)) l
noncomputable def SZ:Nat:=1048576
noncomputable def need {α:Type}(o:Option α)(k:α->Prop):Prop:=match o with
 | some a=>k a
 | none=>False
noncomputable def Nd (p t:Prop):Prop:=p/\t
noncomputable def Br (b:Bool)(t e:Prop):Prop:=match b with
 | true=>t
 | false=>e
noncomputable def cL:Option C->Option (List V)
 | some (.list xs)=>some xs
 | _=>none
noncomputable def cD:Option C->Option (List (V×V))
 | some (.dict kvs)=>some kvs
 | _=>none
noncomputable def cI:Option C->Option (Nat×List (Nat×V))
 | some (.inst k fs)=>some (k,fs)
 | _=>none
noncomputable def cE:Option C->Option Nat
 | some (.exc k)=>some k
 | _=>none
noncomputable def mL (o:Option (List V)):Option V:=match o with
 | some xs=>some (.lst xs)
 | none=>none
noncomputable def see (H:Hp):V->Option V
 | .ref i=>mL (cL (H.get i))
 | .bt _=>none
 | .fn _=>none
 | .cls _=>none
 | x=>some x
noncomputable def aRef:V->Option Nat
 | .ref i=>some i
 | _=>none
noncomputable def aInt:V->Option Int
 | .int i=>some i
 | _=>none
noncomputable def aStr:V->Option Str
 | .str s=>some s
 | _=>none
noncomputable def aLst:V->Option (List V)
 | .lst xs=>some xs
 | _=>none
noncomputable def aTup:V->Option (List V)
 | .tup xs=>some xs
 | _=>none
noncomputable def aBool:V->Option Bool
 | .bool b=>some b
 | _=>none
noncomputable def rngN (a b c:Int):Nat:=if c=1 then (b - a).toNat else 0
noncomputable def rngL (a c:Int):Nat->List V
 | 0=>[]
 | n+1=>.int a::rngL (a+c) c n
noncomputable def itV:V->Option (List V)
 | .lst xs=>some xs
 | .tup xs=>some xs
 | .rng a b c=>some (rngL a c (rngN a b c))
 | _=>none
noncomputable def deepL (f:V->Option V):List V->Option (List V)
 | []=>some []
 | x::r=>match f x with
  | some y=>(match deepL f r with | some ys=>some (y::ys) | none=>none)
  | none=>none
noncomputable def mT (o:Option (List V)):Option V:=match o with
 | some xs=>some (.tup xs)
 | none=>none
noncomputable def bindL (o:Option (List V))(f:List V->Option V):Option V:=match o with
 | some xs=>f xs
 | none=>none
noncomputable def deepN (H:Hp):Nat->V->Option V
 | 0,x=>(match x with
  | .none=>some .none
  | .bool b=>some (.bool b)
  | .int i=>some (.int i)
  | .str s=>some (.str s)
  | _=>none)
 | n+1,x=>(match x with
  | .none=>some .none
  | .bool b=>some (.bool b)
  | .int i=>some (.int i)
  | .str s=>some (.str s)
  | .tup xs=>mT (deepL (deepN H n) xs)
  | .lst xs=>mL (deepL (deepN H n) xs)
  | .ref i=>bindL (cL (H.get i)) fun xs=>mL (deepL (deepN H n) xs)
  | _=>none)
noncomputable def deep (H:Hp)(v:V):Option V:=deepN H 12 v
noncomputable def bI (b:Bool):Int:=cond b 1 0
noncomputable def isNone:V->Bool
 | .none=>true
 | _=>false
noncomputable def eqB (a:Bool):V->Bool
 | .bool b=>a==b
 | .int i=>decide (bI a=i)
 | _=>false
noncomputable def eqI (a:Int):V->Bool
 | .bool b=>decide (a=bI b)
 | .int i=>decide (a=i)
 | _=>false
noncomputable def eqS (a:Str):V->Bool
 | .str b=>decide (a=b)
 | _=>false
mutual
noncomputable def eqD:V->V->Bool
 | .none,y=>isNone y
 | .bool a,y=>eqB a y
 | .int a,y=>eqI a y
 | .str a,y=>eqS a y
 | .tup a,y=>(match y with | .tup b=>eqDs a b | _=>false)
 | .lst a,y=>(match y with | .lst b=>eqDs a b | _=>false)
 | _,_=>false
noncomputable def eqDs:List V->List V->Bool
 | [],y=>y.isEmpty
 | a::r,y=>(match y with | b::t=>eqD a b&&eqDs r t | []=>false)
end
set_option genCtorIdx true in
inductive BOp where
 | add | sub | mul | fdiv | mod | pow | bor
set_option genCtorIdx true in
inductive COp where
 | eq | ne | lt | le | gt | ge | isIn | notIn | is | isNot
inductive LV where
 | val (v:V)
 | newList (xs:List V)
noncomputable def repL (xs:List V):Nat->List V
 | 0=>[]
 | n+1=>xs++repL xs n
noncomputable def repS (s:Str):Nat->Str
 | 0=>Str.empty
 | n+1=>s++repS s n
noncomputable def addK (x y:V)(k:LV->Prop):Prop:=match x with
 | .int a=>need (aInt y) fun b=>k (.val (.int (a+b)))
 | .str a=>need (aStr y) fun b=>Nd (a.length+b.length<=SZ) (k (.val (.str (a++b))))
 | .lst a=>need (aLst y) fun b=>k (.newList (a++b))
 | _=>False
noncomputable def mulK (x y:V)(k:LV->Prop):Prop:=match x with
 | .int a=>need (aInt y) fun b=>Nd (a.natAbs < 4611686018427387904\/b.natAbs < 4611686018427387904) (k (.val (.int (a * b))))
 | .str s=>need (aInt y) fun n=>Nd (0<=n/\n<=1048576/\s.length * n.toNat<=SZ) (k (.val (.str (repS s n.toNat))))
 | .lst xs=>need (aInt y) fun n=>Nd (0<=n/\n<=1048576/\xs.length * n.toNat<=SZ) (k (.newList (repL xs n.toNat)))
 | _=>False
noncomputable def intK (x y:V)(k:Int->Int->Prop):Prop:=need (aInt x) fun a=>need (aInt y) fun b=>k a b
noncomputable def binK (op:BOp)(x y:V)(k:LV->Prop):Prop:=match op with
 | .add=>addK x y k
 | .mul=>mulK x y k
 | .sub=>intK x y fun a b=>k (.val (.int (a - b)))
 | .fdiv=>intK x y fun a b=>Nd (b≠0/\b.natAbs < 1073741824) (k (.val (.int (Int.fdiv a b))))
 | .mod=>intK x y fun a b=>Nd (b≠0) (k (.val (.int (Int.fmod a b))))
 | .pow=>False
 | .bor=>False
noncomputable def aPr (x:V):Option (Int×Int):=(aTup x).bind fun l=>match l with
 | [a,b]=>(aInt a).bind fun i=>(aInt b).map fun j=>(i,j)
 | _=>none
noncomputable def cmpI (e:Bool)(a b:Int):Bool:=cond e (decide (a<=b)) (decide (a < b))
noncomputable def prI (k:Int->Int->Bool)(z:Bool)(a b c d:Int):Bool:=cond (decide (a=c)) (cond (decide (b=d)) z (k b d)) (k a c)
noncomputable def ltK (e:Bool)(x y:V)(k:Bool->Prop):Prop:=match x with
 | .int a=>need (aInt y) fun b=>k (cmpI e a b)
 | .tup _=>need (aPr x) fun p=>need (aPr y) fun q=>k (prI (cmpI e) e p.1 p.2 q.1 q.2)
 | _=>False
noncomputable def isI:V->Bool
 | .int _=>true
 | _=>false
noncomputable def isStr:V->Bool
 | .str _=>true
 | _=>false
noncomputable def keyOk (ks:List V)(k:V):Bool:=isI k&&ks.all isI
noncomputable def dGet {α:Type}:List (V×α)->V->Option α
 | [],_=>none
 | p::r,k=>cond (eqD p.1 k) (some p.2) (dGet r k)
noncomputable def dSet {α:Type}:List (V×α)->V->α->List (V×α)
 | [],k,v=>[(k,v)]
 | p::r,k,v=>cond (eqD p.1 k) ((p.1,v)::r) (p::dSet r k v)
noncomputable def dKeys {α:Type}(kvs:List (V×α)):List V:=kvs.map (·.1)
noncomputable def keysOk:List V->Bool
 | []=>true
 | k::r=>keyOk r k&&!(r.any fun z=>eqD z k)&&keysOk r
noncomputable def solid:V->Bool
 | .rng _ _ _=>false
 | .bt _=>false
 | .fn _=>false
 | .cls _=>false
 | _=>true
noncomputable def isB (c:Bool):V->Bool
 | .bool d=>d==c
 | _=>false
noncomputable def isK (a b:V)(k:Bool->Prop):Prop:=match b with
 | .none=>Nd (solid a=true) (k (isNone a))
 | .bool c=>Nd (solid a=true) (k (isB c a))
 | _=>False
noncomputable def ins (x:Int):List Int->List Int
 | []=>[x]
 | y::r=>if x<=y then x::y::r else y::ins x r
noncomputable def srt:List Int->List Int
 | []=>[]
 | x::r=>ins x (srt r)
noncomputable def intsOf:List V->Option (List Int)
 | []=>some []
 | x::r=>(match aInt x with | some i=>(match intsOf r with | some l=>some (i::l) | none=>none) | none=>none)
noncomputable def intsK (x:V)(k:List Int->Prop):Prop:=need (aLst x) fun xs=>need (intsOf xs) k
noncomputable def pyIdx (i:Int)(n:Nat):Option Nat:=if 0<=i then (if i < n then some i.toNat else none) else (if 0<=i+n then some (i+n).toNat else none)
noncomputable def atK (xs:List V)(i:Int)(k:V->Prop):Prop:=need (pyIdx i xs.length) fun n=>need xs[n]? k
noncomputable def idxK (x y:V)(k:V->Prop):Prop:=need (aInt y) fun i=>match x with
 | .lst xs=>atK xs i k
 | .tup xs=>atK xs i k
 | _=>False
noncomputable def slL (xs:List V)(lo hi:Option Int):List V:=
 match lo,hi with
 | none,none=>xs
 | some a,none=>xs.drop a.toNat
 | none,some b=>xs.take b.toNat
 | some a,some b=>(xs.drop a.toNat).take (b.toNat - a.toNat)
noncomputable def notNeg:Option Int->Bool
 | none=>true
 | some i=>decide (0<=i)
noncomputable def slK (x:V)(lo hi:Option Int)(k:LV->Prop):Prop:=Nd (notNeg lo=true) (Nd (notNeg hi=true) (match x with
 | .lst xs=>k (.newList (slL xs lo hi))
 | _=>False))
noncomputable def trK (x:V)(k:Bool->Prop):Prop:=match x with
 | .none=>k false
 | .bool b=>k b
 | .int i=>k (decide (i≠0))
 | .str s=>k (decide (s.length≠0))
 | .tup xs=>k (!xs.isEmpty)
 | .lst xs=>k (!xs.isEmpty)
 | _=>False
noncomputable def lenV:V->Option Nat
 | .str s=>some s.length
 | .tup xs=>some xs.length
 | .lst xs=>some xs.length
 | _=>none
inductive Kd where
 | none | bool | int | str | tuple | list | inst (k:Nat) | exc (k:Nat)
noncomputable def kdV:V->Option Kd
 | .none=>some .none
 | .bool _=>some .bool
 | .int _=>some .int
 | .str _=>some .str
 | .tup _=>some .tuple
 | .lst _=>some .list
 | _=>none
noncomputable def kdC:Option C->Option Kd
 | some (.list _)=>some .list
 | _=>none
noncomputable def kind (H:Hp):V->Option Kd
 | .ref i=>kdC (H.get i)
 | x=>kdV x
noncomputable def lenH (H:Hp):V->Option Nat
 | .ref i=>(match H.get i with
  | some (.list xs)=>some xs.length
  | some (.dict kvs)=>some kvs.length
  | _=>none)
 | x=>lenV x
noncomputable def items (H:Hp):V->Option (List V)
 | .ref i=>cL (H.get i)
 | x=>itV x
mutual
inductive PE where
 | cst (v:V)
 | loc (i:Nat)
 | glob (i:Nat)
 | attr (e:PE) (n:Nat)
 | bin (fz:Bool) (op:BOp) (l r:PE)
 | neg (e:PE)
 | not (e:PE)
 | cmp (op:COp) (l r:PE)
 | cmp2 (op1 op2:COp) (a b c:PE)
 | and (es:PEs)
 | or (es:PEs)
 | ite (t:PC) (a b:PE)
 | list (fz:Bool) (es:PEs)
 | tup (es:PEs)
 | dict (kvs:PKV)
 | idx (e i:PE)
 | sl (fz:Bool) (e:PE) (lo hi:PEo)
 | rev (fz:Bool) (e:PE)
 | call (fz:Bool) (f:PE) (as:PEs)
 | sortedRev (fz:Bool) (i:Nat) (e:PE)
 | sortedU (fz:Bool) (i j:Nat) (a b:PE)
 | lenSet (i j:Nat) (e:PE)
 | meth (fz:Bool) (o:PE) (n:Nat) (as:PEs)
 | comp (fz:Bool) (elt:PE) (ts:List Nat) (it:PE) (cond:PCo)
inductive PEs where
 | nil
 | cons (e:PE) (r:PEs)
inductive PEo where
 | none
 | some (e:PE)
inductive PKV where
 | nil
 | cons (k v:PE) (r:PKV)
inductive PC where
 | e (e:PE)
 | not (c:PC)
 | and (cs:PCs)
 | or (cs:PCs)
inductive PCs where
 | nil
 | cons (c:PC) (r:PCs)
inductive PCo where
 | none
 | some (c:PC)
end
inductive PT where
 | loc (i:Nat)
 | attr (o:PE) (n:Nat)
 | idx (o i:PE)
 | tup (is:List Nat)
mutual
inductive PS where
 | expr (e:PE)
 | pass
 | assign (t:PT) (e:PE)
 | augLoc (i:Nat) (op:BOp) (e:PE)
 | augAttr (o:PE) (n:Nat) (op:BOp) (e:PE)
 | ret (e:PEo)
 | ite (t:PC) (a b:PSs)
 | loop (ts:List Nat) (it:PE) (body:PSs)
 | loopEnum (g i x:Nat) (it:PE) (body:PSs)
 | while_ (t:PC) (body:PSs)
 | raise (i:Nat) (e:PE)
 | try_ (body:PSs) (i:Nat) (as:Option Nat) (h:PSs)
inductive PSs where
 | nil
 | cons (s:PS) (r:PSs)
end
structure Fn where
 params:List Nat
 body:PSs
structure Cl where
 init:Option Nat
 meths:List (Nat×Nat)
 attrs:List Nat
structure Prog where
 fn:Nat->Option Fn
 cls:Nat->Option Cl
 glob:Nat->Option V
 sub:Nat->Nat->Bool
 exc:Nat->Bool
 nAppend:Nat
 nPop:Nat
 nExtend:Nat
 nGet:Nat
 nSetdefault:Nat
noncomputable def bKd:B->Option Kd
 | .int=>some .int
 | .bool=>some .bool
 | .str=>some .str
 | .list=>some .list
 | .tuple=>some .tuple
 | _=>none
noncomputable def kNo:Kd->Option Nat
 | .none=>some 0
 | .bool=>some 1
 | .int=>some 2
 | .str=>some 3
 | .list=>some 4
 | .tuple=>some 5
 | _=>none
noncomputable def kNo2 (k j:Kd):Option Bool:=match kNo k with
 | some m=>(match kNo j with
  | some p=>some (Nat.beq m p || (Nat.beq m 1&&Nat.beq p 2))
  | none=>none)
 | none=>none
noncomputable def isiB (k:Kd)(b:B):Option Bool:=match bKd b with
 | some j=>kNo2 k j
 | none=>none
noncomputable def isi0 (P:Prog)(k:Kd)(t:V):Option Bool:=match t with
 | .bt b=>isiB k b
 | _=>none
noncomputable def isi1 (P:Prog)(k:Kd)(t:V):Option Bool:=isi0 P k t
noncomputable def b1K (b:B)(s:Option V)(n:Option Nat)(k:LV->Prop):Prop:=match b with
 | .len=>need n fun n=>k (.val (.int n))
 | .list=>need s fun x=>need (itV x) fun xs=>k (.newList xs)
 | .sorted=>need s fun x=>intsK x fun l=>Nd (l.length < 64) (k (.newList ((srt l).map .int)))
 | .int=>need s fun x=>need (aBool x) fun b=>k (.val (.int (bI b)))
 | .range=>need s fun x=>need (aInt x) fun n=>Nd (n.natAbs<=SZ) (k (.val (.rng 0 n 1)))
 | _=>False
noncomputable def b2K (b:B)(x y:V)(k:LV->Prop):Prop:=match b with
 | .max=>intK x y fun a b=>k (.val (.int (if b > a then b else a)))
 | .min=>intK x y fun a b=>k (.val (.int (if b < a then b else a)))
 | _=>False
noncomputable def isIsi:B->Bool
 | .isinstance=>true
 | _=>false
noncomputable def callB (P:Prog)(H:Hp)(b:B)(as:List V)(k:LV->Prop):Prop:=match as with
 | [v]=>b1K b (see H v) (lenH H v) k
 | [v,w]=>Br (isIsi b) (need (kind H v) fun q=>need (isi1 P q w) fun r=>k (.val (.bool r))) (need (see H v) fun x=>need (see H w) fun y=>b2K b x y k)
 | _=>False
noncomputable def give (fz:Bool)(σ:St)(Q:V->St->Prop):LV->Prop
 | .val v=>Q v σ
 | .newList xs=>Nd (xs.length<=SZ) (Br fz (Q (.lst xs) σ) (Q (.ref σ.H.next) (σ.setH (σ.H.new (.list xs)))))
noncomputable def giveV (fz:Bool)(σ:St)(Q:V->St->Prop)(v:V):Prop:=Br fz (match aRef v with
  | some i=>(match cL (σ.H.get i) with | some xs=>Q (.lst xs) (σ.setH (σ.H.del i)) | none=>Q v σ)
  | none=>Q v σ) (Q v σ)
noncomputable abbrev CT:=Nat->List V->Hp->(V->Hp->Prop)->(Nat->Hp->Prop)->Prop
noncomputable abbrev EP:=Nat->St->Prop
noncomputable def bindGo:List Nat->List V->St->(St->Prop)->Prop
 | [],ys,σ,K=>(match ys with | []=>K σ | _=>False)
 | i::is,ys,σ,K=>(match ys with | x::xs=>bindGo is xs (σ.put i x) K | []=>False)
noncomputable def bindT (ts:List Nat)(v:V)(σ:St)(K:St->Prop):Prop:=match ts with
 | [i]=>K (σ.put i v)
 | ts=>need (aTup v) fun xs=>bindGo ts xs σ K
noncomputable def one {α:Type}:List α->Option α
 | [x]=>some x
 | _=>none
noncomputable def methL (P:Prog)(σ:St)(i:Nat)(n:Nat)(as:List V)(xs:List V)(Q:V->St->Prop):Prop:=need (one as) fun a=>
 Br (Nat.beq n P.nAppend) (Nd (xs.length < SZ) (Q .none (σ.setH (σ.H.set i (.list (xs++[a])))))) <|
 Br (Nat.beq n P.nPop) (need (aInt a) fun k=>need (pyIdx k xs.length) fun j=>need xs[j]? fun v=>Q v (σ.setH (σ.H.set i (.list (xs.take j++xs.drop (j+1)))))) <|
 need (see σ.H a) fun y=>need (aLst y) fun ys=>Nd (xs.length+ys.length<=SZ) (Q .none (σ.setH (σ.H.set i (.list (xs++ys)))))
noncomputable def keyD:List V->Option (V×V)
 | [k]=>some (k,.none)
 | [k,d]=>some (k,d)
 | _=>none
noncomputable def methD (P:Prog)(σ:St)(i:Nat)(n:Nat)(as:List V)(kvs:List (V×V))(Q:V->St->Prop):Prop:=need (keyD as) fun t=>Nd (keyOk (dKeys kvs) t.1=true) (Q ((dGet kvs t.1).getD t.2) σ)
noncomputable def callF (P:Prog)(K:CT)(E:EP)(fz:Bool)(σ:St)(f:V)(as:List V)(Q:V->St->Prop):Prop:=match f with
 | .bt b=>callB P σ.H b as (give fz σ Q)
 | .fn k=>K k as σ.H (fun v H=>giveV fz (σ.setH H) Q v) (fun e H=>E e (σ.setH H))
 | .cls k=>need (P.cls k) fun c=>need c.init fun f=>
   K f (.ref σ.H.next::as) (σ.H.new (.inst k [])) (fun v H=>Nd (isNone v=true) (Q (.ref σ.H.next) (σ.setH H))) (fun e H=>E e (σ.setH H))
 | _=>False
noncomputable def noE:EP:=fun ø ø=>False
noncomputable def compGo (tst:St->(Bool->St->Prop)->Prop)(elt:St->(V->St->Prop)->Prop)(ts:List Nat)(chk:Hp->Prop):List V->List V->St->(List V->St->Prop)->Prop
 | [],acc,σ,Q=>chk σ.H/\acc.length<=SZ/\Q acc σ
 | v::vs,acc,σ,Q=>chk σ.H/\acc.length < SZ/\bindT ts v σ fun σ1=>tst σ1 fun b σ2=>Br b (elt σ2 fun x σ3=>compGo tst elt ts chk vs (acc++[x]) σ3 Q) (compGo tst elt ts chk vs acc σ2 Q)
noncomputable def still (v:V)(xs:List V)(H:Hp):Prop:=items H v=some xs
noncomputable def cmpK (H:Hp)(op:COp)(a b:V)(k:Bool->Prop):Prop:=match op with
 | .eq=>need (deep H a) fun x=>need (deep H b) fun y=>k (eqD x y)
 | .ne=>need (deep H a) fun x=>need (deep H b) fun y=>k (!eqD x y)
 | .lt=>need (see H a) fun x=>need (see H b) fun y=>ltK false x y k
 | .le=>need (see H a) fun x=>need (see H b) fun y=>ltK true x y k
 | .gt=>need (see H a) fun x=>need (see H b) fun y=>ltK false y x k
 | .ge=>need (see H a) fun x=>need (see H b) fun y=>ltK true y x k
 | .isIn=>inK H a b k
 | .notIn=>inK H a b fun r=>k (!r)
 | .is=>isK a b k
 | .isNot=>isK a b fun r=>k (!r)
where
 anyK (H:Hp) (a:V) (xs:List V) (k:Bool->Prop):Prop:=need (deep H a) fun y=>need (deepL (deepN H 11) xs) fun ys=>k (ys.any fun z=>eqD z y)
 inK (H:Hp) (a b:V) (k:Bool->Prop):Prop:=match b with
  | .ref i=>(match H.get i with
   | some (.list xs)=>anyK H a xs k
   | some (.dict kvs)=>Nd (keyOk (dKeys kvs) a=true) (k ((dKeys kvs).any fun z=>eqD z a))
   | _=>False)
  | .lst xs=>anyK H a xs k
  | _=>False
noncomputable def isBn (k:Nat):V->Bool
 | .bt b=>Nat.beq b.ctorIdx k
 | _=>false
noncomputable def bOf (k:Nat):B:=[B.int,.bool,.list,.tuple,.str,.valueError,.range,.set,.enumerate,.len,.isinstance,.max,.min,.sorted].getD k .int
theorem ZnS (b:B):bOf b.ctorIdx=b:=by cases b <;> rfl
theorem ZgR {k:Nat}{v:V}(h:isBn k v=true):v=.bt (bOf k):=by
 cases v with
 | bt b=>exact Nat.eq_of_beq_eq_true h▸congrArg V.bt (ZnS b).symm
 | _=>exact Bool.noConfusion h
noncomputable def isSrt (v:V):Bool:=isBn 13 v
noncomputable def isSetB (v:V):Bool:=isBn 7 v
noncomputable def isLenB (v:V):Bool:=isBn 9 v
noncomputable def idxH (H:Hp)(a b:V)(k:V->Prop):Prop:=match aRef a with
 | some i=>(match H.get i with
  | some (.list xs)=>idxK (.lst xs) b k
  | some (.dict kvs)=>Nd (keyOk (dKeys kvs) b=true) (need (dGet kvs b) k)
  | _=>False)
 | none=>idxK a b k
noncomputable def optI:Option V->Option (Option Int)
 | none=>some none
 | some x=>(match aInt x with | some i=>some (some i) | none=>none)
noncomputable def instK (H:Hp)(a:V)(k:Nat->Nat->List (Nat×V)->Prop):Prop:=need (aRef a) fun i=>need (cI (H.get i)) fun t=>k i t.1 t.2
noncomputable def truK (H:Hp)(v:V)(k:Bool->Prop):Prop:=need (see H v) fun x=>trK x k
mutual
noncomputable def wpE (P:Prog)(K:CT)(E:EP):PE->St->(V->St->Prop)->Prop
 | .cst v,σ,Q=>Q v σ
 | .loc i,σ,Q=>need (σ.loc i) fun v=>Q v σ
 | .glob i,σ,Q=>need (P.glob i) fun v=>Q v σ
 | .attr e n,σ,Q=>wpE P K E e σ fun o σ1=>instK σ1.H o fun ø ø fs=>need (lk fs n) fun v=>Q v σ1
 | .bin fz op l r,σ,Q=>wpE P K E l σ fun a σ1=>wpE P K E r σ1 fun b σ2=>need (see σ2.H a) fun x=>need (see σ2.H b) fun y=>binK op x y (give fz σ2 Q)
 | .neg e,σ,Q=>wpE P K E e σ fun a σ1=>need (aInt a) fun i=>Q (.int (-i)) σ1
 | .not e,σ,Q=>wpE P K E e σ fun v σ1=>truK σ1.H v fun b=>Q (.bool (!b)) σ1
 | .cmp op l r,σ,Q=>wpE P K E l σ fun a σ1=>wpE P K E r σ1 fun b σ2=>cmpK σ2.H op a b fun c=>Q (.bool c) σ2
 | .cmp2 _ _ _ _ _,_,_=>False
 | .and es,σ,Q=>wpAnd P K E es σ Q
 | .or es,σ,Q=>wpOr P K E es σ Q
 | .ite t a b,σ,Q=>wpT P K E t σ fun c σ1=>Br c (wpE P K E a σ1 Q) (wpE P K E b σ1 Q)
 | .list fz es,σ,Q=>wpEs P K E es σ fun vs σ1=>give fz σ1 Q (.newList vs)
 | .tup es,σ,Q=>wpEs P K E es σ fun vs σ1=>Nd (vs.length<=SZ) (Q (.tup vs) σ1)
 | .dict kvs,σ,Q=>wpKV P K E kvs σ fun kvs σ1=>Nd (kvs.length<=100) (Nd (keysOk (dKeys kvs)=true) (Q (.ref σ1.H.next) (σ1.setH (σ1.H.new (.dict kvs)))))
 | .idx e i,σ,Q=>wpE P K E e σ fun a σ1=>wpE P K E i σ1 fun b σ2=>idxH σ2.H a b fun v=>Q v σ2
 | .sl fz e lo hi,σ,Q=>wpE P K E e σ fun a σ1=>wpO P K E lo σ1 fun l σ2=>wpO P K E hi σ2 fun h σ3=>
   need (optI l) fun l=>need (optI h) fun h=>need (see σ3.H a) fun x=>slK x l h (give fz σ3 Q)
 | .rev _ _,_,_=>False
 | .call fz f as,σ,Q=>wpE P K E f σ fun g σ1=>wpEs P K E as σ1 fun vs σ2=>callF P K E fz σ2 g vs Q
 | .sortedRev fz i e,σ,Q=>need (P.glob i) fun g=>Nd (isSrt g=true) (wpE P K E e σ fun a σ1=>need (see σ1.H a) fun x=>intsK x fun l=>Nd (l.length < 64) (give fz σ1 Q (.newList ((srt l).reverse.map .int))))
 | .sortedU fz i j x y,σ,Q=>need (P.glob i) fun g=>Nd (isSrt g=true) (need (P.glob j) fun g=>Nd (isSetB g=true) (wpE P K E x σ fun a σ1=>need (see σ1.H a) fun p=>intsK p fun l=>Nd (l.length < 64) (wpE P K E y σ1 fun b σ2=>need (see σ2.H b) fun q=>intsK q fun m=>Nd (m.length < 64) (Nd (uniK l m=true) (give fz σ2 Q (.newList ((mkSet (l++m)).map .int)))))))
 | .lenSet i j e,σ,Q=>need (P.glob i) fun g=>Nd (isLenB g=true) (need (P.glob j) fun g=>Nd (isSetB g=true) (wpE P K E e σ fun a σ1=>need (see σ1.H a) fun p=>intsK p fun l=>Nd (l.length < 64) (Nd (lenB l=true) (Q (.int l.length) σ1))))
 | .meth fz o n as,σ,Q=>wpE P K E o σ fun a σ1=>need (aRef a) fun i=>match σ1.H.get i with
  | some (.inst k _)=>need (P.cls k) fun c=>need (lk c.meths n) fun f=>wpEs P K E as σ1 fun vs σ2=>callF P K E fz σ2 (.fn f) (.ref i::vs) Q
  | some (.list _)=>Nd ((Nat.beq n P.nAppend || (Nat.beq n P.nPop || Nat.beq n P.nExtend))=true) (wpEs P K E as σ1 fun vs σ2=>need (cL (σ2.H.get i)) fun xs=>methL P σ2 i n vs xs Q)
  | some (.dict _)=>Nd (Nat.beq n P.nGet=true) (wpEs P K E as σ1 fun vs σ2=>need (cD (σ2.H.get i)) fun kvs=>methD P σ2 i n vs kvs Q)
  | _=>False
 | .comp fz elt ts it cond,σ,Q=>wpE P K E it σ fun v σ1=>need (items σ1.H v) fun xs=>
   compGo (fun σ2 k=>wpC P K noE cond σ2 k) (fun σ2 k=>wpE P K noE elt σ2 k) ts (still v xs) xs [] ⟨σ1.H,unbs ts σ1.loc⟩ fun ys σ2=>give fz ⟨σ2.H,σ1.loc⟩ Q (.newList ys)
noncomputable def wpT (P:Prog)(K:CT)(E:EP):PC->St->(Bool->St->Prop)->Prop
 | .not e,σ,Q=>wpT P K E e σ fun b σ1=>Q (!b) σ1
 | .and es,σ,Q=>wpAllT P K E es σ Q
 | .or es,σ,Q=>wpAnyT P K E es σ Q
 | .e e,σ,Q=>wpE P K E e σ fun v σ1=>truK σ1.H v fun b=>Q b σ1
noncomputable def wpAllT (P:Prog)(K:CT)(E:EP):PCs->St->(Bool->St->Prop)->Prop
 | .nil,σ,Q=>Q true σ
 | .cons e r,σ,Q=>wpT P K E e σ fun b σ1=>Br b (wpAllT P K E r σ1 Q) (Q false σ1)
noncomputable def wpAnyT (P:Prog)(K:CT)(E:EP):PCs->St->(Bool->St->Prop)->Prop
 | .nil,σ,Q=>Q false σ
 | .cons e r,σ,Q=>wpT P K E e σ fun b σ1=>Br b (Q true σ1) (wpAnyT P K E r σ1 Q)
noncomputable def wpAnd (P:Prog)(K:CT)(E:EP):PEs->St->(V->St->Prop)->Prop
 | .nil,_,_=>False
 | .cons e r,σ,Q=>wpE P K E e σ fun v σ1=>(match r with
  | .nil=>Q v σ1
  | .cons _ _=>truK σ1.H v fun b=>Br b (wpAnd P K E r σ1 Q) (Q v σ1))
noncomputable def wpOr (P:Prog)(K:CT)(E:EP):PEs->St->(V->St->Prop)->Prop
 | .nil,_,_=>False
 | .cons e r,σ,Q=>wpE P K E e σ fun v σ1=>(match r with
  | .nil=>Q v σ1
  | .cons _ _=>truK σ1.H v fun b=>Br b (Q v σ1) (wpOr P K E r σ1 Q))
noncomputable def wpEs (P:Prog)(K:CT)(E:EP):PEs->St->(List V->St->Prop)->Prop
 | .nil,σ,Q=>Q [] σ
 | .cons e r,σ,Q=>wpE P K E e σ fun v σ1=>wpEs P K E r σ1 fun vs σ2=>Q (v::vs) σ2
noncomputable def wpKV (P:Prog)(K:CT)(E:EP):PKV->St->(List (V×V)->St->Prop)->Prop
 | .nil,σ,Q=>Q [] σ
 | .cons k v r,σ,Q=>wpE P K E k σ fun a σ1=>wpE P K E v σ1 fun b σ2=>wpKV P K E r σ2 fun r σ3=>Q ((a,b)::r) σ3
noncomputable def wpO (P:Prog)(K:CT)(E:EP):PEo->St->(Option V->St->Prop)->Prop
 | .none,σ,Q=>Q none σ
 | .some e,σ,Q=>wpE P K E e σ fun v σ1=>Q (some v) σ1
noncomputable def wpC (P:Prog)(K:CT)(E:EP):PCo->St->(Bool->St->Prop)->Prop
 | .none,σ,Q=>Q true σ
 | .some e,σ,Q=>wpT P K E e σ Q
end
noncomputable def augK (op:BOp)(a b:V)(k:V->Prop):Prop:=match op with
 | .add=>intK a b fun x y=>k (.int (x+y))
 | _=>False
noncomputable def putA (P:Prog)(a:V)(n:Nat)(v:V)(σ:St)(Q:St->Prop):Prop:=instK σ.H a fun i k fs=>need (P.cls k) fun c=>Nd (c.attrs.contains n=true) (Nd (fs.length < 1000) (Q (σ.setH (σ.H.set i (.inst k (st fs n v))))))
noncomputable def asgn (P:Prog)(K:CT)(E:EP)(t:PT)(v:V)(σ:St)(Q:St->Prop):Prop:=match t with
 | .loc i=>Q (σ.put i v)
 | .attr o n=>wpE P K E o σ fun a σ1=>putA P a n v σ1 Q
 | .idx o x=>wpE P K E o σ fun a σ1=>wpE P K E x σ1 fun b σ2=>need (aRef a) fun i=>need (cD (σ2.H.get i)) fun kvs=>Nd (keyOk (dKeys kvs) b=true) (Nd (kvs.length < SZ) (Q (σ2.setH (σ2.H.set i (.dict (dSet kvs b v))))))
 | .tup is=>need (aTup v) fun xs=>bindGo is xs σ Q
noncomputable def asPut (as:Option Nat)(j:Nat)(σ:St):St:=match as with
 | some n=>σ.put n (.ref j)
 | none=>σ
noncomputable def asUnb (as:Option Nat)(σ:St):St:=match as with
 | some n=>⟨σ.H,unb σ.loc n⟩
 | none=>σ
noncomputable def endK (fl:Flow)(σ:St)(go:St->Prop)(Q:Flow->St->Prop):Prop:=match fl with
 | .next=>go σ
 | .cont=>go σ
 | .brk=>Q .next σ
 | .ret r=>Q (.ret r) σ
noncomputable def loopGo (turn:V->St->(Flow->St->Prop)->Prop)(chk:Hp->Prop):List V->St->(Flow->St->Prop)->Prop
 | [],σ,Q=>chk σ.H/\Q .next σ
 | v::vs,σ,Q=>chk σ.H/\turn v σ fun fl σ1=>endK fl σ1 (fun σ2=>loopGo turn chk vs σ2 Q) Q
noncomputable def whileGo (tst:St->(Bool->St->Prop)->Prop)(body:St->(Flow->St->Prop)->Prop):Nat->St->(Flow->St->Prop)->Prop
 | 0,_,_=>False
 | n+1,σ,Q=>tst σ fun b σ1=>Br b (body σ1 fun fl σ2=>endK fl σ2 (fun σ3=>whileGo tst body n σ3 Q) Q) (Q .next σ1)
noncomputable def aCls:V->Option Nat
 | .cls k=>some k
 | _=>none
noncomputable def seqK (fl:Flow)(σ:St)(go:St->Prop)(Q:Flow->St->Prop):Prop:=match fl with
 | .next=>go σ
 | .cont=>Q .cont σ
 | .brk=>Q .brk σ
 | .ret r=>Q (.ret r) σ
mutual
noncomputable def wpS (P:Prog)(K:CT):PS->St->(Flow->St->Prop)->EP->Prop
 | .expr e,σ,Q,E=>wpE P K E e σ fun ø σ1=>Q .next σ1
 | .pass,σ,Q,_=>Q .next σ
 | .assign t e,σ,Q,E=>wpE P K E e σ fun v σ1=>asgn P K E t v σ1 fun σ2=>Q .next σ2
 | .augLoc i op e,σ,Q,E=>need (σ.loc i) fun a=>wpE P K E e σ fun b σ1=>augK op a b fun v=>Q .next (σ1.put i v)
 | .augAttr o n op e,σ,Q,E=>wpE P K E o σ fun a σ1=>instK σ1.H a fun ø ø fs=>need (lk fs n) fun x=>wpE P K E e σ1 fun b σ2=>augK op x b fun v=>putA P a n v σ2 fun σ3=>Q .next σ3
 | .ret e,σ,Q,E=>wpO P K E e σ fun v σ1=>Q (.ret (v.getD .none)) σ1
 | .ite t a b,σ,Q,E=>wpT P K E t σ fun c σ1=>Br c (wpSs P K a σ1 Q E) (wpSs P K b σ1 Q E)
 | .loop ts it body,σ,Q,E=>wpE P K E it σ fun v σ1=>need (items σ1.H v) fun xs=>
   loopGo (fun v σ2 k=>bindT ts v σ2 fun σ3=>wpSs P K body σ3 k noE) (still v xs) xs σ1 Q
 | .loopEnum _ _ _ _ _,_,_,_=>False
 | .while_ t body,σ,Q,_=>∃n,whileGo (fun σ1 k=>wpT P K noE t σ1 k) (fun σ1 k=>wpSs P K body σ1 k noE) n σ Q
 | .raise i e,σ,_,E=>need (P.glob i) fun v=>need (aCls v) fun k=>Nd (P.exc k=true) (wpE P K noE e σ fun ø σ1=>E σ1.H.next (σ1.setH (σ1.H.new (.exc k))))
 | .try_ body i as h,σ,Q,_=>need (P.glob i) fun v=>need (aCls v) fun k=>wpSs P K body σ Q fun j σ1=>need (cE (σ1.H.get j)) fun m=>Nd (P.exc k=true) (Nd (P.sub m k=true) (wpSs P K h (asPut as j σ1) (fun fl σ2=>Q fl (asUnb as σ2)) noE))
noncomputable def wpSs (P:Prog)(K:CT):PSs->St->(Flow->St->Prop)->EP->Prop
 | .nil,σ,Q,_=>Q .next σ
 | .cons s r,σ,Q,E=>wpS P K s σ (fun fl σ1=>seqK fl σ1 (fun σ2=>wpSs P K r σ2 Q E) Q) E
end
noncomputable def bindP:List Nat->List V->Loc->Option Loc
 | [],vs,m=>(match vs with | []=>some m | _=>none)
 | p::ps,vs,m=>(match vs with | a::as=>bindP ps as (upd m p a) | []=>none)
noncomputable def retV:Flow->V
 | .ret v=>v
 | _=>.none
mutual
noncomputable def renV (ρ:Nat->Nat):V->V
 | .tup xs=>.tup (renVs ρ xs)
 | .lst xs=>.lst (renVs ρ xs)
 | .ref i=>.ref (ρ i)
 | x=>x
noncomputable def renVs (ρ:Nat->Nat):List V->List V
 | []=>[]
 | x::r=>renV ρ x::renVs ρ r
end
noncomputable def renF (ρ:Nat->Nat):List (Nat×V)->List (Nat×V)
 | []=>[]
 | p::r=>(p.1,renV ρ p.2)::renF ρ r
noncomputable def renK (ρ:Nat->Nat):List (V×V)->List (V×V)
 | []=>[]
 | p::r=>(p.1,renV ρ p.2)::renK ρ r
noncomputable def renC (ρ:Nat->Nat):C->C
 | .list xs=>.list (renVs ρ xs)
 | .dict kvs=>.dict (renK ρ kvs)
 | .inst k fs=>.inst k (renF ρ fs)
 | .exc k=>.exc k
noncomputable def rho (js:List Nat)(n i:Nat):Nat:=if i < js.length then js[i]?.getD 0 else n+(i - js.length)
noncomputable def pos0:List Nat->Nat->Option Nat
 | [],_=>none
 | a::r,j=>if a=j then some 0 else (match pos0 r j with | some i=>some (i+1) | none=>none)
noncomputable def pos (js:List Nat)(n j:Nat):Option Nat:=if n<=j then some (js.length+(j - n)) else pos0 js j
noncomputable def mrgC (ρ:Nat->Nat)(a b old:Option C):Option C:=match b with
 | some c=>some (renC ρ c)
 | none=>(match a with | some _=>none | none=>old)
noncomputable def mrgF (js:List Nat)(H₀ H H₁:Hp)(j:Nat):Option C:=match pos js H.next j with
 | some i=>mrgC (rho js H.next) (H₀.get i) (H₁.get i) (H.get j)
 | none=>H.get j
noncomputable def mrg (js:List Nat)(H₀ H H₁:Hp):Hp:=⟨(List.range (H.next+(H₁.next - js.length))).map (mrgF js H₀ H H₁)⟩
structure Emb (js:List Nat)(H₀ H:Hp):Prop where
 nx:H₀.next=js.length
 dom:∀i,js.length<=i->H₀.get i=none
 all:∀j∈js,∃c,H.get j=some c
 get:∀(i:Nat) c,H₀.get i=some c->∃j,js[i]?=some j/\pos0 js j=some i/\H.get j=some (renC (rho js H.next) c)
inductive Fc (run:List V->Hp->(V->Hp->Prop)->(Nat->Hp->Prop)->Prop):List V->Hp->(V->Hp->Prop)->(Nat->Hp->Prop)->Prop
 | run {as:List V} {H:Hp} {Q:V->Hp->Prop} {E:Nat->Hp->Prop} (h:run as H Q E):Fc run as H Q E
 | foc {as:List V} {H:Hp} {Q:V->Hp->Prop} {E:Nat->Hp->Prop} (js:List Nat) (as₁:List V) (H₀:Hp) (e:Emb js H₀ H) (ha:as=renVs (rho js H.next) as₁)
   (h:Fc run as₁ H₀ (fun v H₁=>Q (renV (rho js H.next) v) (mrg js H₀ H H₁)) fun i H₁=>js.length<=i/\E (rho js H.next i) (mrg js H₀ H H₁)):Fc run as H Q E
noncomputable def CW (P:Prog):Nat->CT
 | 0=>fun ø ø ø ø ø=>False
 | n+1=>fun f as H Q E=>Fc (fun as H Q E=>need (P.fn f) fun d=>need (bindP d.params as fun ø=>none) fun m=>
   wpSs P (CW P n) d.body ⟨H,m⟩ (fun fl σ=>Q (retV fl) σ.H) fun e σ=>E e σ.H) as H Q E
inductive Src where
 | g (x:Str)
 | m (c x:Str)
structure Tb where
 nms:List (Nat×Str)
 fns:List (Nat×Src×Fn)
 globs:List (Nat×V)
 clss:List (Nat×Str×Cl)
 excs:List (Nat×Str)
 subs:List (Nat×Nat)
 quiet:List Nat
 qg:List Nat
 nAppend:Nat
 nPop:Nat
 nExtend:Nat
 nGet:Nat
 nSetdefault:Nat
noncomputable def sub2:List (Nat×Nat)->Nat->Nat->Bool
 | [],_,_=>false
 | p::r,j,k=>cond (Nat.beq p.1 j&&Nat.beq p.2 k) true (sub2 r j k)
noncomputable def mp2 {α β:Type}:Option (α×β)->Option β
 | some y=>some y.2
 | none=>none
noncomputable def isSm {α:Type}:Option α->Bool
 | some _=>true
 | none=>false
noncomputable def hasN:List Nat->Nat->Bool
 | [],_=>false
 | a::r,k=>cond (Nat.beq a k) true (hasN r k)
noncomputable def Tb.P (t:Tb):Prog where
 fn:=fun k=>mp2 (lk t.fns k)
 cls:=fun k=>mp2 (lk t.clss k)
 glob:=fun i=>lk t.globs i
 sub:=fun j k=>sub2 t.subs j k
 exc:=fun k=>isSm (lk t.excs k)
 nAppend:=t.nAppend
 nPop:=t.nPop
 nExtend:=t.nExtend
 nGet:=t.nGet
 nSetdefault:=t.nSetdefault
end Mine
end
section
namespace Mine
theorem ZeP (x:Int)(l:List Int):(ins x l).Perm (x::l):=by
 induction l with
 | nil=>exact .refl _
 | cons y r ih=>
  show (if x<=y then x::y::r else y::ins x r).Perm _
  by_cases h:x<=y
  ·rw [if_pos h]
  ·rw [if_neg h]; exact (ih.cons y).trans (.swap x y r)
theorem Zih (l:List Int):(srt l).Perm l:=by
 induction l with
 | nil=>exact .refl _
 | cons x r ih=>exact (ZeP x _).trans (ih.cons x)
theorem ZfD (x:Int){l:List Int}(h:l.Pairwise (·<=·)):(ins x l).Pairwise (·<=·):=by
 induction l with
 | nil=>exact List.pairwise_singleton _ _
 | cons y r ih=>
  have h':=List.pairwise_cons.mp h
  show (if x<=y then x::y::r else y::ins x r).Pairwise _
  by_cases c:x<=y
  ·rw [if_pos c]
   refine List.pairwise_cons.mpr ⟨fun z hz=>?_,h⟩
   rcases List.mem_cons.mp hz with q | q
   ·rw [q]; exact c
   ·exact Int.le_trans c (h'.1 z q)
  ·rw [if_neg c]
   refine List.pairwise_cons.mpr ⟨fun z hz=>?_,ih h'.2⟩
   rcases List.mem_cons.mp ((ZeP x r).mem_iff.mp hz) with q | q
   ·rw [q]; exact Int.le_of_lt (Int.not_le.mp c)
   ·exact h'.1 z q
theorem ZfM (l:List Int):(srt l).Pairwise (·<=·):=by
 induction l with
 | nil=>exact .nil
 | cons x r ih=>exact ZfD x ih
theorem ZeV {a b:List Int}(h:a.Perm b)(ha:a.Pairwise (·<=·)):a=srt b:=
 (h.trans (Zih b).symm).eq_of_pairwise (le:=(·<=·)) (fun ø ø ø ø p q=>Int.le_antisymm p q) ha (ZfM b)
end Mine
end
section
namespace Mine
open PySem PySem.W PySem.Calls PyProof.Rows
noncomputable def bval:B->Value
 | .int=>.type "int"
 | .bool=>.type "bool"
 | .list=>.type "list"
 | .tuple=>.type "tuple"
 | .str=>.type "str"
 | .valueError=>.type "ValueError"
 | .range=>.type "range"
 | .set=>.type "set"
 | .enumerate=>.type "enumerate"
 | .len=>.builtin "len"
 | .isinstance=>.builtin "isinstance"
 | .max=>.builtin "max"
 | .min=>.builtin "min"
 | .sorted=>.builtin "sorted"
structure Cx where
 prog:Program
 w:World
 P:Prog
 nm:Nat->Str
 fnA:Nat->Option Addr
 clA:Nat->Option Addr
 hb:Heap
 quiet:Nat->Bool
 qg:Nat->Bool
structure Wd where
 Z:Addr->Option Obj
 φ:Nat->Option (Addr×Addr)
noncomputable abbrev tupO (vs:Array Value)(n:Nat):Obj:={ cls:=.type "tuple",data:=.seq vs n }
noncomputable abbrev lstO (vs:Array Value)(n:Nat):Obj:={ cls:=.type "list",data:=.seq vs n }
mutual
inductive VR (X:Cx)(W:Wd):Value->V->Prop
 | none:VR X W .none .none
 | bool (b:Bool):VR X W (.bool b) (.bool b)
 | int (i:Int) (t:Tok):VR X W (.int i t) (.int i)
 | str (s:Str) (t:Tok):PyData.strOk s=true->s.length<=SZ->VR X W (.str s t) (.str s)
 | tup {a:Addr} {vs:Array Value} {n:Nat} {xs:List V}:W.Z a=some (tupO vs n)->VRs X W vs.toList xs->xs.length<=SZ->VR X W (.ref a) (.tup xs)
 | lst {a:Addr} {vs:Array Value} {n:Nat} {xs:List V}:W.Z a=some (lstO vs n)->VRs X W vs.toList xs->xs.length<=SZ->VR X W (.ref a) (.lst xs)
 | rng {r:Addr} {a b c:Int} {t u v:Tok}:W.Z r=some { cls:=.type "range",dict:=none,data:=.fields #[.int a t,.int b u,.int c v],slots:=#[] }->a.natAbs<=SZ->b.natAbs<=SZ->c=1->VR X W (.ref r) (.rng a b c)
 | ref {i:Nat} {l:Addr×Addr}:W.φ i=some l->VR X W (.ref l.1) (.ref i)
 | bt (b:B):VR X W (bval b) (.bt b)
 | fn {k:Nat} {a:Addr}:X.fnA k=some a->VR X W (.ref a) (.fn k)
 | cls {k:Nat} {a:Addr}:X.clA k=some a->VR X W (.ref a) (.cls k)
inductive VRs (X:Cx)(W:Wd):List Value->List V->Prop
 | nil:VRs X W [] []
 | cons {v:Value} {vs:List Value} {x:V} {xs:List V}:VR X W v x->VRs X W vs xs->VRs X W (v::vs) (x::xs)
end
inductive KVs (X:Cx)(W:Wd):List (Int×Value)->List (V×V)->Prop
 | nil:KVs X W [] []
 | cons {i:Int} {v:Value} {x:V} {es:List (Int×Value)} {kvs:List (V×V)}:VR X W v x->KVs X W es kvs->KVs X W ((i,v)::es) ((.int i,x)::kvs)
inductive FVs (X:Cx)(W:Wd):List DictEntry->List (Nat×V)->Prop
 | nil:FVs X W [] []
 | cons {i:Nat} {hh:Int} {t:Tok} {v:Value} {x:V} {es:List DictEntry} {fs:List (Nat×V)}:VR X W v x->FVs X W es fs->FVs X W (⟨hh,.str (X.nm i) t,v⟩::es) ((i,x)::fs)
noncomputable abbrev dictO (es:Array DictEntry)(n:Nat):Obj:={ cls:=.type "dict",data:=.dict es n }
noncomputable abbrev instO (c dx:Addr):Obj:={ cls:=.ref c,dict:=some dx,data:=.plain }
inductive LstCell (X:Cx)(W:Wd)(h:Heap)(l:Addr×Addr)(xs:List V):Prop
 | mk (vs:Array Value) (n:Nat) (a:h.get? l.1=some (lstO vs n)) (b:VRs X W vs.toList xs) (e:l.2=l.1) (z:xs.length<=SZ)
inductive DicCell (X:Cx)(W:Wd)(h:Heap)(l:Addr×Addr)(kvs:List (V×V)):Prop
 | mk (es:List (Int×Value)) (a:h.DictOf (intKind X.prog X.w) l.1 es) (k:KVs X W es kvs) (e:l.2=l.1) (ne:(l.1==sysModules)=false) (z:kvs.length<=SZ)
inductive InsCell (X:Cx)(W:Wd)(h:Heap)(l:Addr×Addr)(k:Nat)(fs:List (Nat×V)):Prop
 | mk (c:Addr) (cl:Cl) (es:Array DictEntry) (n:Nat) (a:X.clA k=some c) (a':X.P.cls k=some cl) (b:h.get? l.1=some (instO c l.2)) (d:h.get? l.2=some (dictO es n)) (f:FVs X W es.toList fs) (ne:l.2≠l.1) (p:∀p∈fs,p.1∈cl.attrs) (z:fs.length<=1000)
inductive ExcCell (X:Cx)(h:Heap)(l:Addr×Addr)(k:Nat):Prop
 | mk (c:Addr) (o:Obj) (vs:Array Value) (a:X.clA k=some c) (a':X.P.exc k=true) (b:h.get? l.1=some o) (d:o.cls=.ref c) (f:o.data=.fields vs) (e:l.2=l.1)
noncomputable def CellAt (X:Cx)(W:Wd)(h:Heap)(l:Addr×Addr):C->Prop
 | .list xs=>LstCell X W h l xs
 | .dict kvs=>DicCell X W h l kvs
 | .inst k fs=>InsCell X W h l k fs
 | .exc k=>ExcCell X h l k
inductive Own (W:Wd)(H:Hp)(a:Addr):Prop
 | mk (i:Nat) (c:C) (l:Addr×Addr) (h:H.get i=some c) (p:W.φ i=some l) (e:a=l.1\/a=l.2)
inductive CellIn (X:Cx)(W:Wd)(h:Heap)(i:Nat)(c:C):Prop
 | mk (l:Addr×Addr) (p:W.φ i=some l) (r:CellAt X W h l c)
structure RelH (X:Cx)(W:Wd)(H:Hp)(h:Heap):Prop where
 z:∀a o,W.Z a=some o->h.get? a=some o
 base:∀a o,X.hb.get? a=some o->W.Z a=some o
 cell:∀i c,H.get i=some c->CellIn X W h i c
 off:∀a,Own W H a->W.Z a=none
 sep:∀i j ci cj li lj,H.get i=some ci->H.get j=some cj->W.φ i=some li->W.φ j=some lj->i≠j->li.1≠lj.1/\li.1≠lj.2/\li.2≠lj.1/\li.2≠lj.2
 dom:∀i,H.next<=i->H.get i=none/\W.φ i=none
noncomputable def SameO (o o':Obj):Prop:=o'=o\/((∃es n,o.data=.dict es n)/\∃sl,o'={ o with slots:=sl })
structure Wd.Le (W W':Wd):Prop where
 zz:∀a o,W.Z a=some o->W'.Z a=some o
 ff:∀i l,W.φ i=some l->W'.φ i=some l
noncomputable def noPv:Addr->Prop:=fun ø=>False
structure Stp (Pv:Addr->Prop)(W:Wd)(H:Hp)(h:Heap)(W':Wd)(H':Hp)(h':Heap):Prop where
 le:Wd.Le W W'
 keep:∀a o,h.get? a=some o->¬ Own W H a->¬ Pv a->∃o',h'.get? a=some o'/\SameO o o'
 own:∀a o,h.get? a=some o->¬ Own W H a->¬ Own W' H' a
 znew:∀a o,W'.Z a=some o->W.Z a=some o\/Own W H a\/h.get? a=none
 there:∀a o,h.get? a=some o->∃o',h'.get? a=some o'
theorem RelH.bkeep {X:Cx}{W:Wd}{H:Hp}{h:Heap}(R:RelH X W H h):∀a o,X.hb.get? a=some o->h.get? a=some o:=fun a o e=>R.z _ _ (R.base a o e)
structure Rest (s s':Shared):Prop where
 gens:s'.gens=s.gens
 drawn:s'.drawn=s.drawn
 os:s'.os=s.os
structure FrAt (W:Wd)(H:Hp)(h:Heap)(env:Env):Prop where
 kd:env.scope.kind≠.module
 at_:∃L o es n,env.frame=some L/\h.get? L=some o/\o.data=.dict es n/\¬ Own W H L/\W.Z L=none
noncomputable def Fly (W:Wd)(H:Hp)(h₀ h:Heap)(e:Addr):Prop:=∃oe vs a0,h.get? e=some oe/\oe.data=.fields vs/\vs[0]?=some a0/\(vs[1]?=some .none\/∃T oT ts,vs[1]?=some (.ref T)/\T≠e/\h.get? T=some oT/\oT.data=.fields ts/\ts[3]?=some .none/\h₀.get? T=none/\¬ Own W H T/\W.Z T=none)
structure Tc (X:Cx)(W:Wd)(H:Hp)(s:Shared)(W':Wd)(H':Hp)(s':Shared):Prop where
 stp:Stp noPv W H s.heap W' H' s'.heap
 rel:RelH X W' H' s'.heap
 rest:Rest s s'
noncomputable def kdT (X:Cx):Kd->Option Value
 | .none=>some (.type "NoneType")
 | .bool=>some (.type "bool")
 | .int=>some (.type "int")
 | .str=>some (.type "str")
 | .list=>some (.type "list")
 | .tuple=>some (.type "tuple")
 | _=>none
noncomputable def tVal (X:Cx):V->Option Value
 | .bt b=>some (bval b)
 | _=>none
structure IsiK (X:Cx)(K:Frag):Prop where
 inn:K.In X.hb
 one:∀k t b tv cv,isi0 X.P k t=some b->kdT X k=some tv->tVal X t=some cv->kitOne K tv cv=some b
noncomputable def opOf:BOp->Operator
 | .add=>.Add
 | .sub=>.Sub
 | .mul=>.Mult
 | .fdiv=>.FloorDiv
 | .mod=>.Mod
 | .pow=>.Pow
 | .bor=>.BitOr
noncomputable def cmpOf:COp->CmpOp
 | .eq=>.Eq
 | .ne=>.NotEq
 | .lt=>.Lt
 | .le=>.LtE
 | .gt=>.Gt
 | .ge=>.GtE
 | .isIn=>.In
 | .notIn=>.NotIn
 | .is=>.Is
 | .isNot=>.IsNot
end Mine
end
section
namespace Mine
open PySem
structure Sc where
 sc:Scope
 hd:Bool
structure Ck where
 nm:Nat->Str
 qg:Nat->Bool
 ap:Nat
noncomputable def nkNo:NameKind->Nat
 | .local=>1
 | .cell=>2
 | .free=>3
 | .globalImplicit=>4
 | _=>0
noncomputable def knd (sc:Sc)(x:Str):Nat:=match sc.sc.names.lookup x with
 | some k=>nkNo k
 | none=>0
noncomputable def kLoc (sc:Sc)(x:Str):Bool:=Nat.ble 1 (knd sc x)&&Nat.ble (knd sc x) 3
noncomputable def kLocal (sc:Sc)(x:Str):Bool:=Nat.beq (knd sc x) 1
noncomputable def kStore (sc:Sc)(x:Str):Bool:=Nat.beq (knd sc x) 1 || Nat.beq (knd sc x) 2
noncomputable def kGlob (sc:Sc)(x:Str):Bool:=Nat.beq (knd sc x) 4
noncomputable def nkOf:Nat->NameKind
 | 1=>.local
 | 2=>.cell
 | 3=>.free
 | _=>.globalImplicit
theorem Zn3 {k:NameKind}(h:nkNo k≠0):k=nkOf (nkNo k):=by cases k <;> first | rfl | exact absurd rfl h
theorem Zd4 {sc:Sc}{x:Str}{n:Nat}(h:knd sc x=n)(hn:n≠0):sc.sc.names.lookup x=some (nkOf n):=by
 have h:(match sc.sc.names.lookup x with | some k=>nkNo k | none=>0)=n:=h
 cases q:sc.sc.names.lookup x with
 | none=>rw [q] at h; exact absurd h.symm hn
 | some k=>rw [q] at h; rw [← h,← Zn3 (fun z=>hn (h.symm.trans z))]
noncomputable def nDbg (x:Str):Bool:=!(x==("__debug__":Str))&&!(x==("__classdict__":Str))
structure XU where
 tag:Nat
 a:Expr
 b:Expr
 c:Expr
 l:List Expr
 os:List (Option Expr)
 s:Str
 v:Const
 o:Operator
 u:UnaryOp
 cs:List CmpOp
 bo:BoolOp
 kw:List Keyword
 gs:List Comprehension
 sc:Option Scope
 k:Nat
 o0:Option Expr
 o1:Option Expr
 o2:Option Expr
 p:Pos
noncomputable def X0 (e:Expr)(p:Pos):XU:=⟨0,e,e,e,[],[],Str.empty,.none,.Add,.Not,[],.And,[],[],none,0,none,none,none,p⟩
noncomputable def xu (e:Expr):XU:=match e with
 | .Constant v k p=>{ X0 e p with tag:=1,v:=v,k:=k }
 | .Name x p=>{ X0 e p with tag:=2,s:=x }
 | .Attribute a x p=>{ X0 e p with tag:=3,a:=a,s:=x }
 | .BinOp a o b p=>{ X0 e p with tag:=4,a:=a,o:=o,b:=b }
 | .UnaryOp u a p=>{ X0 e p with tag:=5,u:=u,a:=a }
 | .Compare a cs l p=>{ X0 e p with tag:=6,a:=a,cs:=cs,l:=l }
 | .BoolOp bo l p=>{ X0 e p with tag:=7,bo:=bo,l:=l }
 | .IfExp a b c p=>{ X0 e p with tag:=8,a:=a,b:=b,c:=c }
 | .List l p=>{ X0 e p with tag:=9,l:=l }
 | .Tuple l k p=>{ X0 e p with tag:=10,l:=l,k:=k }
 | .Dict os l p=>{ X0 e p with tag:=11,os:=os,l:=l }
 | .Subscript a b p=>{ X0 e p with tag:=12,a:=a,b:=b }
 | .Slice o0 o1 o2 p=>{ X0 e p with tag:=13,o0:=o0,o1:=o1,o2:=o2 }
 | .Call a l kw p=>{ X0 e p with tag:=14,a:=a,l:=l,kw:=kw }
 | .ListComp a gs sc p=>{ X0 e p with tag:=15,a:=a,gs:=gs,sc:=some sc }
 | .Lambda _ _ _ p=>{ X0 e p with tag:=16 }
 | .Set _ _ p=>{ X0 e p with tag:=17 }
 | .NamedExpr _ _ p=>X0 e p
 | .SetComp _ _ _ p=>X0 e p
 | .DictComp _ _ _ _ p=>X0 e p
 | .GeneratorExp _ _ _ p=>X0 e p
 | .Await _ p=>X0 e p
 | .Yield _ p=>X0 e p
 | .YieldFrom _ p=>X0 e p
 | .FormattedValue _ _ _ p=>X0 e p
 | .JoinedStr _ p=>X0 e p
 | .Starred _ p=>X0 e p
noncomputable def scOf (t:XU):Scope:=t.sc.getD ⟨.function,[],false,false,[]⟩
noncomputable def backs (t:XU):List Expr:=[t.a,.Constant t.v t.k t.p,.Name t.s t.p,.Attribute t.a t.s t.p,.BinOp t.a t.o t.b t.p,.UnaryOp t.u t.a t.p,.Compare t.a t.cs t.l t.p,.BoolOp t.bo t.l t.p,.IfExp t.a t.b t.c t.p,.List t.l t.p,.Tuple t.l t.k t.p,.Dict t.os t.l t.p,.Subscript t.a t.b t.p,.Slice t.o0 t.o1 t.o2 t.p,.Call t.a t.l t.kw t.p,.ListComp t.a t.gs (scOf t) t.p]
noncomputable def back (t:XU)(n:Nat):Expr:=(backs t)[n]?.getD t.a
theorem Zni (e:Expr):Nat.blt (xu e).tag 16=true->e=back (xu e) (xu e).tag:=by
 cases e <;> first | exact fun ø=>rfl | exact fun h=>nomatch h
theorem ZdK {e:Expr}{n:Nat}(h:Nat.beq (xu e).tag n=true)(hn:Nat.blt n 16=true):e=back (xu e) n:=by
 have h:=Nat.eq_of_beq_eq_true h
 rw [← h] at hn
 exact (Zni e hn).trans (by rw [h])
noncomputable def on {α:Type}(o:Option α)(f:α->Bool):Bool:=match o with
 | some a=>f a
 | none=>false
noncomputable def chkC (v:V):Const->Bool
 | .none=>isNone v
 | .bool b=>on (aBool v) fun c=>c==b
 | .int i=>on (aInt v) fun c=>decide (c=i)
 | .str s=>on (aStr v) fun c=>decide (c=s)&&PyData.strOk s&&decide (s.length<=SZ)
 | _=>false
noncomputable def notSuper (e:Expr):Bool:=!(Nat.beq (xu e).tag 14&&(xu e).l.isEmpty&&(xu e).kw.isEmpty&&Nat.beq (xu (xu e).a).tag 2)
noncomputable def uniq:List (Str×NameKind)->Bool
 | []=>true
 | y::r=>r.all (fun z=>!(z.1==y.1))&&uniq r
noncomputable def chkSc (nm:Nat->Str)(sc:Sc)(sc':Scope)(ts:List Nat):Bool:=(match sc'.kind with | .function=>true | _=>false)&&uniq sc'.names&&
 sc'.names.all fun y=>match nkNo y.2 with
  | 1=>y.1==(".0":Str) || ts.any (fun i=>decide (y.1=nm i))
  | 3=>Nat.beq (knd sc y.1) 2 || Nat.beq (knd sc y.1) 3
  | 4=>true
  | _=>false
inductive A3 (a b c:Bool):Prop
 | mk (x:a=true) (y:b=true) (z:c=true)
theorem and2 {a b:Bool}(h:(a&&b)=true):a=true/\b=true:=by cases a <;> cases b <;> first | exact ⟨rfl,rfl⟩ | cases h
theorem Zan {a b:Bool}{G:Prop}(h:(a&&b)=true)(g:a=true->b=true->G):G:=g (and2 h).1 (and2 h).2
theorem Zaf {a b c:Bool}{G:Prop}(h:(a&&b&&c)=true)(g:a=true->b=true->c=true->G):G:=Zan h fun h z=>Zan h fun x y=>g x y z
theorem Zal {a b c d:Bool}{G:Prop}(h:(a&&b&&c&&d)=true)(g:a=true->b=true->c=true->d=true->G):G:=Zan h fun h u=>Zaf h fun x y z=>g x y z u
theorem Zea {a b c d e:Bool}{G:Prop}(h:(a&&b&&c&&d&&e)=true)(g:a=true->b=true->c=true->d=true->e=true->G):G:=Zan h fun h v=>Zal h fun x y z u=>g x y z u v
theorem Zav {a b c d e f:Bool}{G:Prop}(h:(a&&b&&c&&d&&e&&f)=true)(g:a=true->b=true->c=true->d=true->e=true->f=true->G):G:=Zan h fun h w=>Zea h fun x y z u v=>g x y z u v w
theorem ZaK {α:Type}{o:Option α}{f:α->Bool}{G:Prop}(h:on o f=true)(g:∀a,o=some a->f a=true->G):G:=by
 cases o with
 | none=>cases h
 | some a=>exact g a rfl h
noncomputable def x2 {α:Type}:List α->Option (α×α) | [a,b]=>some (a,b) | _=>none
noncomputable def x0 {α:Type}:Option α->Bool | none=>true | _=>false
theorem ZaG {α:Type}{l:List α}{a:α}(h:one l=some a):l=[a]:=by
 match l,h with
 | [_],h=>cases h; rfl
theorem ZoA {α:Type}{l:List α}{t:α×α}(h:x2 l=some t):l=[t.1,t.2]:=by
 match l,h with
 | [_,_],h=>cases h; rfl
theorem Zg1 {α:Type}{o:Option α}(h:x0 o=true):o=none:=by
 cases o with
 | none=>rfl
 | some _=>cases h
theorem Zbn {α:Type}{l:List α}{x:α}(h:l.head?=some x):l=x::l.tail:=by
 cases l with
 | nil=>cases h
 | cons a r=>cases h; rfl
theorem Zah {α:Type}{l:List α}(h:l.isEmpty=true):l=[]:=by
 cases l with
 | nil=>rfl
 | cons a r=>cases h
noncomputable def tg (e:Expr)(n:Nat):Bool:=Nat.beq (xu e).tag n
noncomputable def isM1 (e:Expr):Bool:=tg e 5&&decide ((xu e).u=.USub)&&tg (xu e).a 1&&decide ((xu (xu e).a).v=.int 1)
noncomputable def isRv (kw:List Keyword):Bool:=on (one kw) fun k=>decide (k.arg=some (Str.ofString "reverse"))&&tg k.value 1&&decide ((xu k.value).v=.bool true)
noncomputable def plainTest (e:Expr):Bool:=!(tg e 5&&decide ((xu e).u=.Not))&&!tg e 7&&!tg e 8
noncomputable def tgts (nm:Nat->Str)(sc:Sc):List Nat->List Expr->Bool
 | [],l=>l.isEmpty
 | i::is,l=>on l.head? fun t=>tg t 2&&decide ((xu t).s=nm i)&&kLocal sc (xu t).s&&tgts nm sc is l.tail
noncomputable def chkTgt (nm:Nat->Str)(sc:Sc)(ts:List Nat)(t:Expr):Bool:=(tg t 2&&on (one ts) fun j=>decide ((xu t).s=nm j)&&kLocal sc (xu t).s) || (tg t 10&&Nat.ble 2 ts.length&&tgts nm sc ts (xu t).l)
noncomputable def qGlob (c:Ck):PE->Bool
 | .glob i=>c.qg i
 | _=>false
noncomputable def noKV:PKV->Bool
 | .nil=>true
 | _=>false
noncomputable def dcO (a b:Operator):Bool:=decide (a=b)
noncomputable def chkG (c:Ck)(sc:Sc)(i:Nat)(x:Str):Bool:=decide (x=c.nm i)&&kGlob sc x&&nDbg x
noncomputable def chk1 (c:Ck)(sc:Sc)(i:Nat)(e:Expr)(f:Expr->Bool):Bool:=tg e 14&&tg (xu e).a 2&&chkG c sc i (xu (xu e).a).s&&(xu e).kw.isEmpty&&on (one (xu e).l) f
mutual
noncomputable def chkE (c:Ck)(sc:Sc):PE->Expr->Bool
 | .cst v,e=>tg e 1&&chkC v (xu e).v
 | .loc i,e=>tg e 2&&decide ((xu e).s=c.nm i)&&kLoc sc (xu e).s&&nDbg (xu e).s
 | .glob i,e=>tg e 2&&decide ((xu e).s=c.nm i)&&kGlob sc (xu e).s&&nDbg (xu e).s
 | .attr o n,e=>tg e 3&&chkE c sc o (xu e).a&&decide ((xu e).s=c.nm n)&&notSuper (xu e).a
 | .bin _ op l r,e=>tg e 4&&decide ((xu e).o=opOf op)&&chkE c sc l (xu e).a&&chkE c sc r (xu e).b
 | .neg a,e=>tg e 5&&decide ((xu e).u=.USub)&&chkE c sc a (xu e).a
 | .not a,e=>tg e 5&&decide ((xu e).u=.Not)&&chkE c sc a (xu e).a
 | .cmp op l r,e=>tg e 6&&on (one (xu e).cs) fun o=>on (one (xu e).l) fun r'=>decide (o=cmpOf op)&&chkE c sc l (xu e).a&&chkE c sc r r'
 | .cmp2 _ _ _ _ _,_=>false
 | .and es,e=>tg e 7&&decide ((xu e).bo=.And)&&chkEs c sc es (xu e).l
 | .or es,e=>tg e 7&&decide ((xu e).bo=.Or)&&chkEs c sc es (xu e).l
 | .ite d a b,e=>tg e 8&&chkT c sc d (xu e).a&&chkE c sc a (xu e).b&&chkE c sc b (xu e).c
 | .list _ es,e=>tg e 9&&chkEs c sc es (xu e).l
 | .tup es,e=>tg e 10&&chkEs c sc es (xu e).l
 | .dict kvs,e=>tg e 11&&noKV kvs&&(xu e).os.isEmpty&&(xu e).l.isEmpty
 | .idx a i,e=>tg e 12&&chkE c sc a (xu e).a&&chkE c sc i (xu e).b
 | .sl _ a lo hi,e=>tg e 12&&tg (xu e).b 13&&chkE c sc a (xu e).a&&chkO c sc lo (xu (xu e).b).o0&&chkO c sc hi (xu (xu e).b).o1&&x0 (xu (xu e).b).o2
 | .rev _ _,_=>false
 | .call _ f as,e=>tg e 14&&tg (xu e).a 2&&chkE c sc f (xu e).a&&chkEs c sc as (xu e).l&&(xu e).kw.isEmpty&&(sc.hd || qGlob c f)
 | .sortedRev _ i a,e=>tg e 14&&tg (xu e).a 2&&(decide ((xu (xu e).a).s=c.nm i)&&kGlob sc (xu (xu e).a).s&&nDbg (xu (xu e).a).s)&&(on (one (xu e).l) fun y=>chkE c sc a y)&&isRv (xu e).kw&&sc.hd
 | .sortedU _ i j a b,e=>tg e 14&&sc.hd&&chk1 c sc i e fun y=>tg y 4&&decide ((xu y).o=.BitOr)&&chk1 c sc j (xu y).a (fun z=>chkE c sc a z)&&chk1 c sc j (xu y).b (fun z=>chkE c sc b z)
 | .lenSet i j a,e=>tg e 14&&sc.hd&&chk1 c sc i e fun y=>chk1 c sc j y (fun z=>chkE c sc a z)
 | .meth _ o n as,e=>tg e 14&&tg (xu e).a 3&&chkE c sc o (xu (xu e).a).a&&decide ((xu (xu e).a).s=c.nm n)&&chkEs c sc as (xu e).l&&(notSuper (xu (xu e).a).a&&Nat.ble (xu e).l.length 20&&(xu e).kw.isEmpty&&Nat.beq (xu (xu e).a).p.endLine (xu e).p.line&&(sc.hd || Nat.beq n c.ap))
 | .comp _ elt ts it cond,e=>tg e 15&&on (one (xu e).gs) fun g=>
   chkE c ⟨scOf (xu e),true⟩ elt (xu e).a&&chkTgt c.nm ⟨scOf (xu e),true⟩ ts g.target&&chkE c sc it g.iter&&chkIf c ⟨scOf (xu e),true⟩ cond g.ifs&&chkSc c.nm sc (scOf (xu e)) ts&&(decide (g.is_async=0)&&sc.hd)
noncomputable def chkT (c:Ck)(sc:Sc):PC->Expr->Bool
 | .not d,e=>tg e 5&&decide ((xu e).u=.Not)&&chkT c sc d (xu e).a
 | .and cs,e=>tg e 7&&decide ((xu e).bo=.And)&&chkTs c sc cs (xu e).l
 | .or cs,e=>tg e 7&&decide ((xu e).bo=.Or)&&chkTs c sc cs (xu e).l
 | .e a,e=>plainTest e&&chkE c sc a e
noncomputable def chkTs (c:Ck)(sc:Sc):PCs->List Expr->Bool
 | .nil,l=>l.isEmpty
 | .cons d r,l=>on l.head? fun x=>chkT c sc d x&&chkTs c sc r l.tail
noncomputable def chkEs (c:Ck)(sc:Sc):PEs->List Expr->Bool
 | .nil,l=>l.isEmpty
 | .cons e r,l=>on l.head? fun x=>chkE c sc e x&&chkEs c sc r l.tail
noncomputable def chkO (c:Ck)(sc:Sc):PEo->Option Expr->Bool
 | .none,o=>x0 o
 | .some e,o=>on o fun x=>chkE c sc e x
noncomputable def chkIf (c:Ck)(sc:Sc):PCo->List Expr->Bool
 | .none,l=>l.isEmpty
 | .some d,l=>on (one l) fun x=>chkT c sc d x
end
theorem ZbI {c:Ck}{sc:Sc}{p:PE}{e:Expr}(h:chkE c sc p e=true):Nat.ble 1 (xu e).tag=true/\Nat.ble (xu e).tag 15=true:=by
 have k:∀n,tg e n=true->(Nat.ble 1 n&&Nat.ble n 15)=true->Nat.ble 1 (xu e).tag=true/\Nat.ble (xu e).tag 15=true:=fun n h q=>by
  rw [show (xu e).tag=n from Nat.eq_of_beq_eq_true h]; exact and2 q
 cases p with
 | cst _=>exact k 1 (and2 h).1 rfl
 | loc _=>exact Zal h fun a ø ø ø=>k 2 a rfl
 | glob _=>exact Zal h fun a ø ø ø=>k 2 a rfl
 | attr _ _=>exact Zal h fun a ø ø ø=>k 3 a rfl
 | bin _ _ _ _=>exact Zal h fun a ø ø ø=>k 4 a rfl
 | neg _=>exact Zaf h fun a ø ø=>k 5 a rfl
 | not _=>exact Zaf h fun a ø ø=>k 5 a rfl
 | cmp _ _ _=>exact k 6 (and2 h).1 rfl
 | cmp2 _ _ _ _ _=>exact nomatch (show false=true from h)
 | and _=>exact Zaf h fun a ø ø=>k 7 a rfl
 | or _=>exact Zaf h fun a ø ø=>k 7 a rfl
 | ite _ _ _=>exact Zal h fun a ø ø ø=>k 8 a rfl
 | list _ _=>exact k 9 (and2 h).1 rfl
 | tup _=>exact k 10 (and2 h).1 rfl
 | dict _=>exact Zal h fun a ø ø ø=>k 11 a rfl
 | idx _ _=>exact Zaf h fun a ø ø=>k 12 a rfl
 | sl _ _ _ _=>exact Zav h fun a ø ø ø ø ø=>k 12 a rfl
 | rev _ _=>exact nomatch (show false=true from h)
 | call _ _ _=>exact Zav h fun a ø ø ø ø ø=>k 14 a rfl
 | sortedRev _ _ _=>exact Zav h fun a ø ø ø ø ø=>k 14 a rfl
 | sortedU _ _ _ _ _=>exact Zaf h fun a ø ø=>k 14 a rfl
 | lenSet _ _ _=>exact Zaf h fun a ø ø=>k 14 a rfl
 | meth _ _ _ _=>exact Zav h fun a ø ø ø ø ø=>k 14 a rfl
 | comp _ _ _ _ _=>exact k 15 (and2 h).1 rfl
structure SU where
 tag:Nat
 a:Expr
 b:Expr
 l:List Expr
 o:Operator
 o0:Option Expr
 o1:Option Expr
 b0:List Stmt
 b1:List Stmt
 b2:List Stmt
 hs:List ExceptHandler
 p:Pos
noncomputable def e0:Expr:=.Name Str.empty ⟨0,0,0,0⟩
noncomputable def S0 (p:Pos):SU:=⟨0,e0,e0,[],.Add,none,none,[],[],[],[],p⟩
noncomputable def su (s:Stmt):SU:=match s with
 | .Expr a p=>{ S0 p with tag:=1,a:=a }
 | .Pass p=>{ S0 p with tag:=2 }
 | .Assign l a p=>{ S0 p with tag:=3,l:=l,a:=a }
 | .Return o p=>{ S0 p with tag:=4,o0:=o }
 | .If a b0 b1 p=>{ S0 p with tag:=5,a:=a,b0:=b0,b1:=b1 }
 | .For a b b0 b1 p=>{ S0 p with tag:=6,a:=a,b:=b,b0:=b0,b1:=b1 }
 | .Raise o0 o1 p=>{ S0 p with tag:=7,o0:=o0,o1:=o1 }
 | .Try b0 hs b1 b2 p=>{ S0 p with tag:=8,b0:=b0,hs:=hs,b1:=b1,b2:=b2 }
 | .AugAssign a o b p=>{ S0 p with tag:=9,a:=a,o:=o,b:=b }
 | .While a b0 b1 p=>{ S0 p with tag:=10,a:=a,b0:=b0,b1:=b1 }
 | _=>S0 ⟨0,0,0,0⟩
noncomputable def sbacks (t:SU):List Stmt:=[.Pass t.p,.Expr t.a t.p,.Pass t.p,.Assign t.l t.a t.p,.Return t.o0 t.p,.If t.a t.b0 t.b1 t.p,.For t.a t.b t.b0 t.b1 t.p,.Raise t.o0 t.o1 t.p,.Try t.b0 t.hs t.b1 t.b2 t.p,.AugAssign t.a t.o t.b t.p,.While t.a t.b0 t.b1 t.p]
noncomputable def sback (t:SU)(n:Nat):Stmt:=(sbacks t)[n]?.getD (.Pass t.p)
theorem ZnO (s:Stmt):Nat.ble 1 (su s).tag=true->s=sback (su s) (su s).tag:=by
 cases s <;> first | exact fun ø=>rfl | exact fun h=>nomatch h
noncomputable def sg (s:Stmt)(n:Nat):Bool:=Nat.beq (su s).tag n
theorem Znx {s:Stmt}{n:Nat}(h:sg s n=true)(hn:Nat.ble 1 n=true):s=sback (su s) n:=by
 have h:=Nat.eq_of_beq_eq_true h
 rw [← h] at hn
 exact (ZnO s hn).trans (by rw [h])
noncomputable def xHd:ExceptHandler->Option Expr×Option Str×List Stmt×Pos | .ExceptHandler a b c p=>(a,b,c,p)
theorem ZlY (e:ExceptHandler):e=.ExceptHandler (xHd e).1 (xHd e).2.1 (xHd e).2.2.1 (xHd e).2.2.2:=by cases e; rfl
noncomputable def chkNm (c:Ck)(sc:Sc)(i:Nat)(e:Expr):Bool:=tg e 2&&decide ((xu e).s=c.nm i)&&kStore sc (xu e).s
noncomputable def chkPT1 (c:Ck)(sc:Sc):PT->Expr->Bool
 | .loc i,e=>chkNm c sc i e
 | .attr o n,e=>tg e 3&&decide ((xu e).s=c.nm n)&&chkE c sc o (xu e).a
 | .idx o i,e=>tg e 12&&chkE c sc o (xu e).a&&chkE c sc i (xu e).b
 | .tup is,e=>tg e 10&&Nat.ble 2 is.length&&tgts c.nm sc is (xu e).l&&sc.hd
noncomputable def tupOk:PT->Expr->Bool
 | .tup _,x=>!tg x 10&&Nat.ble (xu x).tag 14
 | _,_=>true
noncomputable def asOk (c:Ck)(sc:Sc):Option Nat->Option Str->Bool
 | none,o=>x0 o
 | some n,o=>on o fun x=>decide (x=c.nm n)&&kLocal sc x
mutual
noncomputable def chkS (c:Ck)(sc:Sc):PS->Stmt->Bool
 | .expr e,s=>sg s 1&&chkE c sc e (su s).a&&tg (su s).a 14
 | .pass,s=>sg s 2
 | .assign t e,s=>sg s 3&&on (one (su s).l) fun y=>chkPT1 c sc t y&&chkE c sc e (su s).a&&tupOk t (su s).a
 | .augLoc i op e,s=>sg s 9&&chkNm c sc i (su s).a&&kLoc sc (xu (su s).a).s&&nDbg (xu (su s).a).s&&decide ((su s).o=opOf op)&&chkE c sc e (su s).b
 | .augAttr o n op e,s=>sg s 9&&tg (su s).a 3&&decide ((xu (su s).a).s=c.nm n)&&decide ((su s).o=opOf op)&&chkE c sc o (xu (su s).a).a&&chkE c sc e (su s).b
 | .ret e,s=>sg s 4&&chkO c sc e (su s).o0
 | .ite d a b,s=>sg s 5&&chkT c sc d (su s).a&&chkSs c sc a (su s).b0&&chkSs c sc b (su s).b1
 | .loop ts it body,s=>sg s 6&&(on (one ts) fun j=>chkNm c sc j (su s).a)&&chkE c sc it (su s).b&&chkSs c sc body (su s).b0&&(su s).b1.isEmpty&&sc.hd
 | .loopEnum _ _ _ _ _,_=>false
 | .while_ d body,s=>sg s 10&&chkT c sc d (su s).a&&chkSs c sc body (su s).b0&&(su s).b1.isEmpty
 | .raise i e,s=>sg s 7&&on (su s).o0 fun x=>tg x 14&&tg (xu x).a 2&&on (one (xu x).l) fun a=>chkG c sc i (xu (xu x).a).s&&chkE c sc e a&&(xu x).kw.isEmpty&&x0 (su s).o1&&sc.hd
 | .try_ body i as h,s=>sg s 8&&on (one (su s).hs) fun g=>on (xHd g).1 fun x=>tg x 2&&on (xHd g).2.2.1.head? fun ø=>chkG c sc i (xu x).s&&chkSs c sc body (su s).b0&&chkSs c ⟨sc.sc,false⟩ h (xHd g).2.2.1&&asOk c sc as (xHd g).2.1&&((su s).b1.isEmpty&&(su s).b2.isEmpty)&&sc.hd
noncomputable def chkSs (c:Ck)(sc:Sc):PSs->List Stmt->Bool
 | .nil,l=>l.isEmpty
 | .cons s r,l=>on l.head? fun x=>chkS c sc s x&&chkSs c sc r l.tail
end
end Mine
end
section
namespace Mine
open PySem PySem.W PySem.Calls PyProof.Rows
structure AOk (A:Around)(n:Nat):Prop where
 depth:A.depth+4 * n+4 < recursionLimit
 units:A.units+20 * n+100 < cLine
noncomputable def Cx.ck (X:Cx):Ck:=⟨X.nm,X.qg,X.P.nAppend⟩
structure FnAt (X:Cx)(q:Bool)(fn:Fn)(a:Addr)(o:Obj)(fd:FuncData)(body:List Stmt):Prop where
 at_:X.hb.get? a=some o
 data:o.data=.func fd
 code:X.hb.CodeRec fd.code fd.qualname
 body_:fd.body=.stmts body
 bind:∀vs:List Value,vs.length=fn.params.length->bindArgs fd ⟨vs,[]⟩=pure ((fn.params.map X.nm).zip vs)
 clo:fd.closure=[]
 co:fd.scope.isCoroutine=false
 gen:fd.scope.isGenerator=false
 kind:fd.scope.kind=.function
 glob:fd.globals=mainGlobals
 bi:fd.builtins=builtinsNs
 par:∀i∈fn.params,kStore ⟨fd.scope,true⟩ (X.nm i)=true
 free:∀x∈fd.scope.names,x.2≠.free
 chk:chkSs X.ck ⟨fd.scope,true⟩ fn.body body=true
 chkq:q=true->chkSs X.ck ⟨fd.scope,false⟩ fn.body body=true
inductive FnIn (X:Cx)(q:Bool)(fn:Fn)(a:Addr):Prop
 | mk (o:Obj) (fd:FuncData) (body:List Stmt) (h:FnAt X q fn a o fd body)
inductive FnOb (X:Cx)(a:Addr):Prop
 | mk (o:Obj) (fd:FuncData) (h:X.hb.get? a=some o) (hd:o.data=.func fd)
noncomputable abbrev excB:List Value:=[.type "ValueError",.type "Exception",.type "BaseException",.type "object"]
inductive ExAt (X:Cx)(j:Nat)(c:Addr):Prop
 | mk (bm:List Value) (N:Addr) (nm:_) (q:_) (bs:_) (hdct:_) (sn:_) (sub:_) (ab:_) (col:_) (dd:_) (k0 k1 k2 k3 k5:_) (mN:Str->Option Value) (h1:X.hb.get? c=some (excClassObj nm q c N bs bm hdct sn sub ab col dd k0 k1 k2 k3 k5 "ValueError.__new__")) (h2:X.hb.Ns N mN) (h3:mN "__init__"=none) (h4:OwnTail X.hb excB bm)
  (h5:∀k ck,X.clA k=some ck->(Value.ref c::bm).contains (.ref ck)=X.P.sub j k)
inductive GlAt (X:Cx)(i:Nat)(v:V):Prop
 | main (cv:Value) (mg:Str->Option Value) (ng:X.hb.Ns mainGlobals mg) (h:mg (X.nm i)=some cv) (r:∀W,VR X W cv v)
 | bi (cv:Value) (mg mb:Str->Option Value) (ng:X.hb.Ns mainGlobals mg) (nb:X.hb.Ns builtinsNs mb) (h:mg (X.nm i)=none) (hb:mb (X.nm i)=some cv) (r:∀W,VR X W cv v)
inductive Qt (X:Cx):V->Prop
 | fn {k:Nat} (h:X.quiet k=true):Qt X (.fn k)
 | len:Qt X (.bt .len)
 | isi:Qt X (.bt .isinstance)
structure CxOk (X:Cx):Prop where
 inj:∀i j,X.nm i=X.nm j->i=j
 dot:∀i,X.nm i≠(".0":Str)
 noLim:X.hb.NoLimit
 glob:∀i v,X.P.glob i=some v->GlAt X i v
 nAppend:X.nm X.P.nAppend=Str.ofString "append"
 nPop:X.nm X.P.nPop=Str.ofString "pop"
 nExtend:X.nm X.P.nExtend=Str.ofString "extend"
 nGet:X.nm X.P.nGet=Str.ofString "get"
 nSetdefault:X.nm X.P.nSetdefault=Str.ofString "setdefault"
 fnAt:∀k a,X.fnA k=some a->FnOb X a
 fn:∀k a d,X.fnA k=some a->X.P.fn k=some d->FnIn X (X.quiet k) d a
 qg:∀i v,X.qg i=true->X.P.glob i=some v->Qt X v
 exc:∀k c,X.clA k=some c->X.P.exc k=true->ExAt X k c
 apC:∀k cl,X.P.cls k=some cl->lk cl.meths X.P.nAppend=none
 isi:∃K,IsiK X K
 main:∃o,X.hb.get? mainGlobals=some o
inductive COk (X:Cx)(W:Wd)(H:Hp)(s:Shared)(Q:V->Hp->Prop)(v:Value)(s':Shared):Prop
 | mk (W':Wd) (H':Hp) (av:V) (t:Tc X W H s W' H' s') (r:VR X W' v av) (h:Q av H')
inductive CEr (X:Cx)(W:Wd)(H:Hp)(s:Shared)(E:Nat->Hp->Prop)(e:Value)(s':Shared):Prop
 | mk (W':Wd) (H':Hp) (i:Nat) (l:Addr×Addr) (k:Nat) (t:Tc X W H s W' H' s') (he:e=.ref l.1) (hl:W'.φ i=some l) (hk:H'.get i=some (.exc k)) (hf:Fly W' H' s.heap s'.heap l.1) (h:E i H')
noncomputable def CPost (X:Cx)(W:Wd)(H:Hp)(s:Shared)(Q:V->Hp->Prop)(E:Nat->Hp->Prop)(r:Result)(s':Shared):Prop:=match r with
 | .ok (.ret v)=>COk X W H s Q v s'
 | .ok _=>False
 | .error e=>CEr X W H s E e s'
noncomputable def FrsAt (A:Around)(W:Wd)(H:Hp)(h:Heap):Prop:=∃l,A.frames=some l/\∀e∈l,FrAt W H h e
noncomputable def CallM (X:Cx)(n:Nat):Prop:=∀(A:Around) (k:Nat) (a:Addr) (as:List V) (vs:List Value) (W:Wd) (H:Hp) (s:Shared) (Q:V->Hp->Prop) (E:Nat->Hp->Prop),
 AOk A n->(A.handled=none\/X.quiet k=true)->FrsAt A W H s.heap->RelH X W H s.heap->VRs X W vs as->X.fnA k=some a->CW X.P n k as H Q E->codeAny (model X.prog X.w) A (.call (.ref a) ⟨vs,[]⟩) (CPost X W H s Q E) s
inductive FnIs (X:Cx)(K:Frag)(c:Addr)(x:Str)(f:Nat):Prop
 | mk (a:Addr) (ha:X.fnA f=some a) (hf:findIn K (.ref c) x=some (some (.ref a))) (ht:typeIn K (.ref a)=some (.type "function"))
structure ClAt (X:Cx)(K:Frag)(c:Addr)(cl:Cl):Prop where
 mks:makesIn K c=true
 ga:findIn K (.ref c) "__getattribute__"=some (some (.builtin "object.__getattribute__"))
 gh:findIn K (.ref c) "__getattr__"=some none
 sa:findIn K (.ref c) "__setattr__"=some (some (.builtin "object.__setattr__"))
 po:plainOver K c=true
 hd:hasDictIn K c=true
 kp:keepIn K (.ref c)=true
 init:∀f,cl.init=some f->FnIs X K c "__init__" f
 meth:∀n f,lk cl.meths n=some f->FnIs X K c (X.nm n) f
 attr:∀n,n∈cl.attrs->findIn K (.ref c) (X.nm n)=some none
 dis:∀n f,lk cl.meths n=some f->n∉cl.attrs
structure ClsOk (X:Cx)(K:Frag):Prop where
 inn:K.In X.hb
 cls:∀k c cl,X.clA k=some c->X.P.cls k=some cl->ClAt X K c cl
inductive Bad (y:Cx×Frag×Nat):Prop
 | mk (ok:CxOk y.1) (cl:ClsOk y.1 y.2.1) (ih:CallM y.1 y.2.2) (h:¬ CallM y.1 (y.2.2+1))
theorem ZlZ:Nonempty (Cx×Frag×Nat):=⟨⟨default,⟨fun ø ø=>0,⟨fun ø=>0,fun ø=>0,fun t=>t,fun ø=>0,fun ø ø=>0,fun ø=>false,fun ø=>0,.refcount,.text,fun ø=>0,fun ø=>none,fun ø=>false,fun ø ø ø=>true,fun ø ø ø=>true,true,fun ø=>false,fun ø=>none,fun ø=>none,fun ø ø ø=>0,fun ø ø=>none,fun ø=>none,fun ø=>(0,false,Str.empty),fun ø=>none,fun d=>d,fun ø=>false⟩⟩,⟨fun ø=>none,fun ø=>none,fun ø=>none,fun ø ø=>false,fun ø=>false,0,0,0,0,0⟩,fun ø=>Str.empty,fun ø=>none,fun ø=>none,default,fun ø=>false,fun ø=>false⟩,[],0⟩
noncomputable def XKN:Cx×Frag×Nat:=@Classical.epsilon _ ZlZ Bad
noncomputable def X:Cx:=XKN.1
noncomputable def Kf:Frag:=XKN.2.1
noncomputable def n:Nat:=XKN.2.2
end Mine
end
section
namespace Mine
open PySem PySem.Calls PyProof.Rows
noncomputable def VRi (X:Cx)(W:Wd)(v:Value):V->Prop
 | .none=>v=.none
 | .bool b=>v=.bool b
 | .int i=>∃t,v=.int i t
 | .str s=>∃t,v=.str s t/\PyData.strOk s=true/\s.length<=SZ
 | .tup xs=>∃a vs n,v=.ref a/\W.Z a=some (tupO vs n)/\VRs X W vs.toList xs/\xs.length<=SZ
 | .lst xs=>∃a vs n,v=.ref a/\W.Z a=some (lstO vs n)/\VRs X W vs.toList xs/\xs.length<=SZ
 | .rng a b c=>∃r t u w,v=.ref r/\W.Z r=some { cls:=.type "range",dict:=none,data:=.fields #[.int a t,.int b u,.int c w],slots:=#[] }/\a.natAbs<=SZ/\b.natAbs<=SZ/\c=1
 | .ref i=>∃l,v=.ref l.1/\W.φ i=some l
 | .bt b=>v=bval b
 | .fn k=>∃a,v=.ref a/\X.fnA k=some a
 | .cls k=>∃a,v=.ref a/\X.clA k=some a
theorem VR.inv {W:Wd}{v:Value}{x:V}(r:VR X W v x):VRi X W v x:=by
 cases r with
 | none=>rfl
 | bool=>rfl
 | int i t=>exact ⟨t,rfl⟩
 | str s t a b=>exact ⟨t,rfl,a,b⟩
 | tup a b c=>exact ⟨_,_,_,rfl,a,b,c⟩
 | lst a b c=>exact ⟨_,_,_,rfl,a,b,c⟩
 | rng a b c d=>exact ⟨_,_,_,_,rfl,a,b,c,d⟩
 | ref e=>exact ⟨_,rfl,e⟩
 | bt=>rfl
 | fn e=>exact ⟨_,rfl,e⟩
 | cls e=>exact ⟨_,rfl,e⟩
theorem Wd.Le.refl (W:Wd):Wd.Le W W:=⟨fun ø ø e=>e,fun ø ø e=>e⟩
theorem Wd.Le.trans {W W' W'':Wd}(a:Wd.Le W W')(b:Wd.Le W' W''):Wd.Le W W'':=⟨fun ø ø e=>b.zz _ _ (a.zz _ _ e),fun ø ø e=>b.ff _ _ (a.ff _ _ e)⟩
theorem VR.le2 {W W':Wd}(h:Wd.Le W W'):(∀{v:Value} {x:V},VR X W v x->VR X W' v x)/\∀{vs:List Value} {xs:List V},VRs X W vs xs->VRs X W' vs xs:=by
 constructor
 ·intro v x r
  exact VR.rec (motive_1:=fun v x ø=>VR X W' v x) (motive_2:=fun vs xs ø=>VRs X W' vs xs) .none .bool .int .str (fun z ø q ih=>.tup (h.zz _ _ z) ih q) (fun z ø q ih=>.lst (h.zz _ _ z) ih q) (fun z p q r=>.rng (h.zz _ _ z) p q r) (fun e=>.ref (h.ff _ _ e)) .bt .fn .cls .nil (fun ø ø a b=>.cons a b) r
 ·intro v x r
  exact VRs.rec (motive_1:=fun v x ø=>VR X W' v x) (motive_2:=fun vs xs ø=>VRs X W' vs xs) .none .bool .int .str (fun z ø q ih=>.tup (h.zz _ _ z) ih q) (fun z ø q ih=>.lst (h.zz _ _ z) ih q) (fun z p q r=>.rng (h.zz _ _ z) p q r) (fun e=>.ref (h.ff _ _ e)) .bt .fn .cls .nil (fun ø ø a b=>.cons a b) r
theorem VR.le {W W':Wd}(h:Wd.Le W W'){v:Value}{x:V}(r:VR X W v x):VR X W' v x:=(VR.le2 h).1 r
theorem VRs.le {W W':Wd}(h:Wd.Le W W'){vs:List Value}{xs:List V}(r:VRs X W vs xs):VRs X W' vs xs:=(VR.le2 h).2 r
theorem VRs.ind {W:Wd}{p:List Value->List V->Prop}(h0:p [] [])(h1:∀{v:Value} {vs:List Value} {x:V} {xs:List V},VR X W v x->VRs X W vs xs->p vs xs->p (v::vs) (x::xs)){vs:List Value}{xs:List V}(r:VRs X W vs xs):p vs xs:=
 VRs.rec (motive_1:=fun ø ø ø=>True) (motive_2:=fun vs xs ø=>p vs xs) trivial (fun ø=>trivial) (fun ø ø=>trivial) (fun ø ø ø ø=>trivial) (fun ø ø ø ø=>trivial) (fun ø ø ø ø=>trivial) (fun ø ø ø ø=>trivial) (fun ø=>trivial) (fun ø=>trivial) (fun ø=>trivial) (fun ø=>trivial) h0 (fun a b ø ih=>h1 a b ih) r
theorem VRs.length {W:Wd}{vs:List Value}{xs:List V}(r:VRs X W vs xs):vs.length=xs.length:=VRs.ind (p:=fun vs xs=>vs.length=xs.length) rfl (fun ø ø ih=>congrArg (·+1) ih) r
theorem VRs.append {W:Wd}{vs ws:List Value}{xs ys:List V}(r:VRs X W vs xs)(h:VRs X W ws ys):VRs X W (vs++ws) (xs++ys):=VRs.ind (p:=fun vs xs=>VRs X W (vs++ws) (xs++ys)) h (fun a ø ih=>.cons a ih) r
theorem VRs.get {W:Wd}{vs:List Value}{xs:List V}(r:VRs X W vs xs){k:Nat}{x:V}(e:xs[k]?=some x):∃v,vs[k]?=some v/\VR X W v x:=
 VRs.ind (p:=fun vs xs=>∀(k:Nat) x,xs[k]?=some x->∃v,vs[k]?=some v/\VR X W v x) (fun ø ø e=>(nomatch e)) (fun {v _ _ _} a _ ih k x e=>by
  cases k with
  | zero=>exact ⟨v,rfl,Option.some.inj e▸a⟩
  | succ k=>exact ih k x e) r k x e
theorem VRs.take {W:Wd}{vs:List Value}{xs:List V}(k:Nat)(r:VRs X W vs xs):VRs X W (vs.take k) (xs.take k):=
 VRs.ind (p:=fun vs xs=>∀k:Nat,VRs X W (vs.take k) (xs.take k)) (fun k=>by cases k <;> exact .nil) (fun a ø ih k=>by
  cases k with
  | zero=>exact .nil
  | succ k=>exact .cons a (ih k)) r k
theorem VRs.drop {W:Wd}{vs:List Value}{xs:List V}(k:Nat)(r:VRs X W vs xs):VRs X W (vs.drop k) (xs.drop k):=
 VRs.ind (p:=fun vs xs=>∀k:Nat,VRs X W (vs.drop k) (xs.drop k)) (fun k=>by cases k <;> exact .nil) (fun a b ih k=>by
  cases k with
  | zero=>exact .cons a b
  | succ k=>exact ih k) r k
theorem VRs.reverse {W:Wd}{vs:List Value}{xs:List V}(r:VRs X W vs xs):VRs X W vs.reverse xs.reverse:=
 VRs.ind (p:=fun vs xs=>VRs X W vs.reverse xs.reverse) .nil (fun a ø ih=>by rw [List.reverse_cons,List.reverse_cons]; exact VRs.append ih (.cons a .nil)) r
theorem VRs.set {W:Wd}{vs:List Value}{xs:List V}(k:Nat){v:Value}{x:V}(r:VRs X W vs xs)(h:VR X W v x):VRs X W (vs.set k v) (xs.set k x):=
 VRs.ind (p:=fun vs xs=>∀k:Nat,VRs X W (vs.set k v) (xs.set k x)) (fun k=>.nil) (fun a b ih k=>by
  cases k with
  | zero=>exact .cons h b
  | succ k=>exact .cons a (ih k)) r k
theorem KVs.le {W W':Wd}(h:Wd.Le W W'){es:List (Int×Value)}{kvs:List (V×V)}(r:KVs X W es kvs):KVs X W' es kvs:=by
 induction r with
 | nil=>exact .nil
 | cons a _ ih=>exact .cons (a.le h) ih
theorem FVs.le {W W':Wd}(h:Wd.Le W W'){es:List DictEntry}{fs:List (Nat×V)}(r:FVs X W es fs):FVs X W' es fs:=by
 induction r with
 | nil=>exact .nil
 | cons a _ ih=>exact .cons (a.le h) ih
theorem CellAt.keeps {W W':Wd}{h h':Heap}{l:Addr×Addr}{c:C}(hc:CellAt X W h l c)(hw:Wd.Le W W')
  (h1:∀o,h.get? l.1=some o->h'.get? l.1=some o) (h2:∀o,h.get? l.2=some o->h'.get? l.2=some o):CellAt X W' h' l c:=by
 cases c with
 | list xs=>obtain ⟨vs,n,a,b,e,z⟩:=hc; exact ⟨vs,n,h1 _ a,b.le hw,e,z⟩
 | dict kvs=>obtain ⟨es,a,k,e,n,z⟩:=hc; exact ⟨es,a.at h1,k.le hw,e,n,z⟩
 | inst k fs=>obtain ⟨c,cl,es,n,a,a',b,d,f,ne,p,z⟩:=hc; exact ⟨c,cl,es,n,a,a',h1 _ b,h2 _ d,f.le hw,ne,p,z⟩
 | exc k=>obtain ⟨c,o,vs,a,a',b,d,f,e⟩:=hc; exact ⟨c,o,vs,a,a',h1 _ b,d,f,e⟩
theorem CellAt.there {W:Wd}{h:Heap}{l:Addr×Addr}{c:C}(hc:CellAt X W h l c):(∃o,h.get? l.1=some o)/\∃o,h.get? l.2=some o:=by
 cases c with
 | list xs=>obtain ⟨vs,n,a,b,e,_⟩:=hc; exact ⟨⟨_,a⟩,by rw [e]; exact ⟨_,a⟩⟩
 | dict kvs=>obtain ⟨es,⟨o,_,_,g,_⟩,k,e,_⟩:=hc; exact ⟨⟨o,g⟩,by rw [e]; exact ⟨o,g⟩⟩
 | inst k fs=>obtain ⟨c,cl,es,n,a,a',b,d,f,_⟩:=hc; exact ⟨⟨_,b⟩,_,d⟩
 | exc k=>obtain ⟨c,o,vs,a,a',b,d,f,e⟩:=hc; exact ⟨⟨_,b⟩,by rw [e]; exact ⟨_,b⟩⟩
theorem RelH.own_there {W:Wd}{H:Hp}{h:Heap}(R:RelH X W H h){a:Addr}(o:Own W H a):∃ob,h.get? a=some ob:=by
 obtain ⟨i,c,l,hc,hl,ha⟩:=o
 obtain ⟨l',hl',hcell⟩:=R.cell i c hc
 have:l'=l:=Option.some.inj (hl'.symm.trans hl)
 subst this
 rcases ha with rfl | rfl
 ·exact hcell.there.1
 ·exact hcell.there.2
theorem RelH.own_lt {W:Wd}{H:Hp}{h:Heap}(R:RelH X W H h){a:Addr}(o:Own W H a):a < h.objs.size:=let ⟨_,e⟩:=R.own_there o; Heap.lt_size e
noncomputable def NoNames (o:Obj):Prop:=∀es n,o.data≠.dict es n
theorem SameO.refl (o:Obj):SameO o o:=.inl rfl
theorem SameO.trans {a b c:Obj}(x:SameO a b)(y:SameO b c):SameO a c:=by
 rcases x with rfl | ⟨h,sl,rfl⟩
 ·exact y
 ·rcases y with rfl | ⟨_,sl',rfl⟩
  ·exact .inr ⟨h,sl,rfl⟩
  ·exact .inr ⟨h,sl',rfl⟩
theorem SameO.eq {a b:Obj}(x:SameO a b)(h:NoNames a):b=a:=x.elim id fun q=>by
 obtain ⟨⟨es,n,e⟩,_⟩:=q
 exact absurd e (h es n)
theorem SameO.cls {a b:Obj}(x:SameO a b):b.cls=a.cls:=by rcases x with rfl | ⟨_,_,rfl⟩ <;> rfl
theorem SameO.data {a b:Obj}(x:SameO a b):b.data=a.data:=by rcases x with rfl | ⟨_,_,rfl⟩ <;> rfl
theorem Stp.refl {Pv:Addr->Prop}{W:Wd}{H:Hp}{h:Heap}:Stp Pv W H h W H h:=
 ⟨.refl _,fun ø o e ø ø=>⟨o,e,.refl o⟩,fun ø ø ø n=>n,fun ø ø e=>.inl e,fun ø o e=>⟨o,e⟩⟩
theorem Stp.trans {Pv:Addr->Prop}{W W' W'':Wd}{H H' H'':Hp}{h h' h'':Heap}(a:Stp Pv W H h W' H' h')(b:Stp Pv W' H' h' W'' H'' h''):Stp Pv W H h W'' H'' h'' where
 le:=a.le.trans b.le
 keep:=fun x o e n p=>by
  obtain ⟨o1',e1',q1'⟩:=a.keep x o e n p
  obtain ⟨o2',e2',q2'⟩:=b.keep x o1' e1' (a.own x o e n) p
  exact ⟨o2',e2',q1'.trans q2'⟩
 own:=fun x o e n=>let ⟨_,e'⟩:=a.there x o e; b.own x _ e' (a.own x o e n)
 znew:=fun x o e=>by
  rcases b.znew x o e with q | q | q
  ·exact a.znew x o q
  ·by_cases ho:Own W H x
   ·exact .inr (.inl ho)
   ·cases hx:h.get? x with
    | none=>exact .inr (.inr rfl)
    | some o'=>exact absurd q (a.own x o' hx ho)
  ·cases hx:h.get? x with
   | none=>exact .inr (.inr rfl)
   | some o'=>obtain ⟨_,e'⟩:=a.there x o' hx; rw [e'] at q; cases q
 there:=fun x o e=>let ⟨_,e'⟩:=a.there x o e; b.there x _ e'
theorem Stp.mono {Pv Pv':Addr->Prop}{W W':Wd}{H H':Hp}{h h':Heap}(a:Stp Pv W H h W' H' h')(hp:∀x,Pv x->Pv' x):Stp Pv' W H h W' H' h':=
 ⟨a.le,fun x o e n p=>a.keep x o e n fun q=>p (hp x q),a.own,a.znew,a.there⟩
theorem Stp.transFresh {Pv Pv':Addr->Prop}{W W' W'':Wd}{H H' H'':Hp}{h h' h'':Heap}(a:Stp Pv W H h W' H' h')(b:Stp Pv' W' H' h' W'' H'' h'')(hf:∀x,Pv' x->h.get? x=none\/Pv x):Stp Pv W H h W'' H'' h'' where
 le:=a.le.trans b.le
 keep:=fun x o e n p=>by
  obtain ⟨o1',e1',q1'⟩:=a.keep x o e n p
  obtain ⟨o2',e2',q2'⟩:=b.keep x o1' e1' (a.own x o e n) fun q=>(hf x q).elim (fun z=>by rw [z] at e; cases e) p
  exact ⟨o2',e2',q1'.trans q2'⟩
 own:=fun x o e n=>let ⟨_,e'⟩:=a.there x o e; b.own x _ e' (a.own x o e n)
 znew:=fun x o e=>by
  rcases b.znew x o e with q | q | q
  ·exact a.znew x o q
  ·by_cases ho:Own W H x
   ·exact .inr (.inl ho)
   ·cases hx:h.get? x with
    | none=>exact .inr (.inr rfl)
    | some o'=>exact absurd q (a.own x o' hx ho)
  ·cases hx:h.get? x with
   | none=>exact .inr (.inr rfl)
   | some o'=>obtain ⟨_,e'⟩:=a.there x o' hx; rw [e'] at q; cases q
 there:=fun x o e=>let ⟨_,e'⟩:=a.there x o e; b.there x _ e'
theorem Stp.quiet {Pv:Addr->Prop}{W:Wd}{H:Hp}{h h':Heap}(hk:∀a o,h.get? a=some o->¬ Pv a->h'.get? a=some o)(ht:∀a o,h.get? a=some o->∃o',h'.get? a=some o'):
  Stp Pv W H h W H h':=⟨.refl _,fun x o e ø p=>⟨o,hk x o e p,.refl o⟩,fun ø ø ø n=>n,fun ø ø e=>.inl e,ht⟩
theorem RelH.quiet {Pv:Addr->Prop}{W:Wd}{H:Hp}{h h':Heap}(R:RelH X W H h)(hk:∀a o,h.get? a=some o->¬ Pv a->h'.get? a=some o)(hp:∀a,Pv a->¬ Own W H a/\W.Z a=none):RelH X W H h' where
 z:=fun a o e=>hk a o (R.z a o e) fun p=>by rw [(hp a p).2] at e; cases e
 base:=R.base
 cell:=fun i c e=>by
  obtain ⟨l,hl,hc⟩:=R.cell i c e
  exact ⟨l,hl,hc.keeps (.refl _) (fun o q=>hk _ o q fun p=>(hp _ p).1 ⟨i,c,l,e,hl,.inl rfl⟩) fun o q=>hk _ o q fun p=>(hp _ p).1 ⟨i,c,l,e,hl,.inr rfl⟩⟩
 off:=R.off
 sep:=R.sep
 dom:=R.dom
noncomputable def Wd.addZ (W:Wd)(a:Addr)(o:Obj):Wd:=⟨fun b=>if b=a then some o else W.Z b,W.φ⟩
noncomputable def Wd.addφ (W:Wd)(i:Nat)(l:Addr×Addr):Wd:=⟨W.Z,fun j=>if j=i then some l else W.φ j⟩
theorem Own.addZ {W:Wd}{H:Hp}{a b:Addr}{o:Obj}:Own (W.addZ a o) H b↔Own W H b:=⟨fun ⟨i,c,l,x,y,z⟩=>⟨i,c,l,x,y,z⟩,fun ⟨i,c,l,x,y,z⟩=>⟨i,c,l,x,y,z⟩⟩
section
variable {W:Wd}{H:Hp}{h h':Heap}(R:RelH X W H h)
include R
theorem RelH.leZ {a:Addr}{o:Obj}(hn:h.get? a=none):Wd.Le W (W.addZ a o):=
 ⟨fun b ob e=>(by
  show (if b=a then some o else W.Z b)=some ob
  rw [if_neg]
  ·exact e
  ·rintro rfl; rw [R.z _ _ e] at hn; cases hn),fun ø ø e=>e⟩
theorem RelH.frozen {a:Addr}{o:Obj}(hk:∀b ob,h.get? b=some ob->h'.get? b=some ob)(hn:h.get? a=none)(ha:h'.get? a=some o):
  RelH X (W.addZ a o) H h'/\Stp noPv W H h (W.addZ a o) H h':=by
 have L:Wd.Le W (W.addZ a o):=R.leZ hn
 refine ⟨⟨fun b ob e=>?_,fun b ob e=>L.zz _ _ (R.base b ob e),fun i c e=>?_,fun b hb=>?_,R.sep,R.dom⟩,⟨L,fun x ob e ø ø=>⟨ob,hk x ob e,.refl ob⟩,fun ø ø ø n z=>n (Own.addZ.mp z),fun x ob e=>?_,fun x ob e=>⟨ob,hk x ob e⟩⟩⟩
 ·have e':(if b=a then some o else W.Z b)=some ob:=e
  by_cases hb:b=a
  ·subst hb; rw [if_pos rfl] at e'; cases e'; exact ha
  ·rw [if_neg hb] at e'; exact hk _ _ (R.z _ _ e')
 ·obtain ⟨l,hl,hc⟩:=R.cell i c e
  exact ⟨l,hl,hc.keeps L (fun o q=>hk _ _ q) fun o q=>hk _ _ q⟩
 ·show (if b=a then some o else W.Z b)=none
  have hb':Own W H b:=Own.addZ.mp hb
  rw [if_neg]
  ·exact R.off b hb'
  ·rintro rfl
   obtain ⟨_,q⟩:=R.own_there hb'
   rw [q] at hn; cases hn
 ·have e':(if x=a then some o else W.Z x)=some ob:=e
  by_cases hb:x=a
  ·subst hb; exact .inr (.inr hn)
  ·rw [if_neg hb] at e'; exact .inl e'
theorem RelH.leF {l:Addr×Addr}:Wd.Le W (W.addφ H.next l):=
 ⟨fun ø ø e=>e,fun i k e=>by
  show (if i=H.next then some l else W.φ i)=some k
  rw [if_neg]
  ·exact e
  ·rintro rfl; rw [(R.dom _ (Nat.le_refl _)).2] at e; cases e⟩
theorem RelH.own_new {l:Addr×Addr}{c:C}{a:Addr}(ho:Own (W.addφ H.next l) (H.new c) a):Own W H a\/a=l.1\/a=l.2:=by
 obtain ⟨i,ci,li,hi,hl,ha⟩:=ho
 have hi':(if i=H.next then some c else H.get i)=some ci:=Hp.get_new.symm.trans hi
 have hl':(if i=H.next then some l else W.φ i)=some li:=hl
 by_cases hn:i=H.next
 ·rw [if_pos hn] at hl'; cases hl'; exact .inr ha
 ·rw [if_neg hn] at hi' hl'; exact .inl ⟨i,ci,li,hi',hl',ha⟩
theorem RelH.fresh {l:Addr×Addr}{c:C}(hk:∀b ob,h.get? b=some ob->h'.get? b=some ob)(h1:h.get? l.1=none)(h2:h.get? l.2=none)
  (hc:CellAt X (W.addφ H.next l) h' l c):RelH X (W.addφ H.next l) (H.new c) h'/\Stp noPv W H h (W.addφ H.next l) (H.new c) h':=by
 have L:Wd.Le W (W.addφ H.next l):=R.leF
 have nZ:∀b,h.get? b=none->W.Z b=none:=fun b e=>by
  cases q:W.Z b with
  | none=>rfl
  | some o=>rw [R.z _ _ q] at e; cases e
 have ne:∀i ci li,H.get i=some ci->W.φ i=some li->(li.1≠l.1/\li.1≠l.2/\li.2≠l.1/\li.2≠l.2):=fun i ci li hi hl=>by
  obtain ⟨o1,q1⟩:=R.own_there ⟨i,ci,li,hi,hl,.inl rfl⟩
  obtain ⟨o2,q2⟩:=R.own_there ⟨i,ci,li,hi,hl,.inr rfl⟩
  refine ⟨fun e=>?_,fun e=>?_,fun e=>?_,fun e=>?_⟩
  ·rw [e,h1] at q1; cases q1
  ·rw [e,h2] at q1; cases q1
  ·rw [e,h1] at q2; cases q2
  ·rw [e,h2] at q2; cases q2
 refine ⟨⟨fun b ob e=>hk _ _ (R.z b ob e),R.base,fun i ci e=>?_,fun b hb=>?_,fun i j ci cj li lj hi hj hli hlj nij=>?_,fun i hi=>?_⟩,⟨L,fun x ob e ø ø=>⟨ob,hk x ob e,.refl ob⟩,fun x ob e n o=>?_,fun ø ø e=>.inl e,fun x ob e=>⟨ob,hk x ob e⟩⟩⟩
 ·have e':(if i=H.next then some c else H.get i)=some ci:=Hp.get_new.symm.trans e
  by_cases hn:i=H.next
  ·rw [if_pos hn] at e'; cases e'
   exact ⟨l,by show (if i=H.next then some l else W.φ i)=some l; rw [if_pos hn],hc⟩
  ·rw [if_neg hn] at e'
   obtain ⟨k,hl,q⟩:=R.cell i ci e'
   exact ⟨k,L.ff _ _ hl,q.keeps L (fun o q=>hk _ _ q) fun o q=>hk _ _ q⟩
 ·rcases R.own_new hb with q | rfl | rfl
  ·exact R.off b q
  ·exact nZ _ h1
  ·exact nZ _ h2
 ·have hi':(if i=H.next then some c else H.get i)=some ci:=Hp.get_new.symm.trans hi
  have hj':(if j=H.next then some c else H.get j)=some cj:=Hp.get_new.symm.trans hj
  have hli':(if i=H.next then some l else W.φ i)=some li:=hli
  have hlj':(if j=H.next then some l else W.φ j)=some lj:=hlj
  by_cases hn:i=H.next
  ·have hm:¬ j=H.next:=fun q=>nij (hn.trans q.symm)
   rw [if_pos hn] at hli'; cases hli'
   rw [if_neg hm] at hj' hlj'
   obtain ⟨a,b,c,d⟩:=ne j cj lj hj' hlj'
   exact ⟨a.symm,c.symm,b.symm,d.symm⟩
  ·rw [if_neg hn] at hi' hli'
   by_cases hm:j=H.next
   ·rw [if_pos hm] at hlj'; cases hlj'
    obtain ⟨a,b,c,d⟩:=ne i ci li hi' hli'
    exact ⟨a,b,c,d⟩
   ·rw [if_neg hm] at hj' hlj'
    exact R.sep i j ci cj li lj hi' hj' hli' hlj' nij
 ·have hi2:H.next+1<=i:=Hp.next_new (H:=H) (c:=c)▸hi
  have:¬ i=H.next:=by exact fun zz=>Nat.not_le_of_lt (la1 hi2) (Nat.le_of_eq zz)
  constructor
  ·rw [Hp.get_new,if_neg this]; exact (R.dom i (by exact la8 hi2)).1
  ·show (if i=H.next then some l else W.φ i)=none
   rw [if_neg this]; exact (R.dom i (by exact la8 hi2)).2
 ·rcases R.own_new o with q | rfl | rfl
  ·exact n q
  ·rw [h1] at e; cases e
  ·rw [h2] at e; cases e
theorem RelH.own_set {i:Nat}{c c':C}{a:Addr}(hi:H.get i=some c):Own W (H.set i c') a↔Own W H a:=by
 constructor
 ·rintro ⟨j,cj,lj,hj,hl,ha⟩
  have hj':(if j=i then some c' else H.get j)=some cj:=(Hp.get_set hi).symm.trans hj
  by_cases hn:j=i
  ·exact ⟨j,c,lj,hn▸hi,hl,ha⟩
  ·rw [if_neg hn] at hj'; exact ⟨j,cj,lj,hj',hl,ha⟩
 ·rintro ⟨j,cj,lj,hj,hl,ha⟩
  by_cases hn:j=i
  ·exact ⟨j,c',lj,by rw [Hp.get_set hi,if_pos hn],hl,ha⟩
  ·exact ⟨j,cj,lj,by rw [Hp.get_set hi,if_neg hn]; exact hj,hl,ha⟩
theorem RelH.upd {i:Nat}{l:Addr×Addr}{c c':C}(hi:H.get i=some c)(hl:W.φ i=some l)(hk:∀b ob,h.get? b=some ob->b≠l.1->b≠l.2->h'.get? b=some ob)
  (hc:CellAt X W h' l c'):RelH X W (H.set i c') h'/\Stp noPv W H h W (H.set i c') h':=by
 have ow:∀b,b=l.1\/b=l.2->Own W H b:=fun b e=>⟨i,c,l,hi,hl,e⟩
 have hk':∀b ob,h.get? b=some ob->¬ Own W H b->h'.get? b=some ob:=fun b ob e n=>hk b ob e (fun q=>n (ow b (.inl q))) fun q=>n (ow b (.inr q))
 refine ⟨⟨fun b ob e=>hk' _ _ (R.z b ob e) fun o=>?_,R.base,fun j cj e=>?_,fun b hb=>R.off b ((R.own_set hi).mp hb),fun j k cj ck lj lk hj hk2 hlj hlk nij=>?_,fun j hj=>?_⟩,
  ⟨.refl _,fun x ob e n ø=>⟨ob,hk' x ob e n,.refl ob⟩,fun x ob ø n o=>n ((R.own_set hi).mp o),fun ø ø e=>.inl e,fun x ob e=>?_⟩⟩
 ·rw [R.off _ o] at e; cases e
 ·have e':(if j=i then some c' else H.get j)=some cj:=(Hp.get_set hi).symm.trans e
  by_cases hn:j=i
  ·rw [if_pos hn] at e'; cases e'; subst hn; exact ⟨l,hl,hc⟩
  ·rw [if_neg hn] at e'
   obtain ⟨k,hlj,q⟩:=R.cell j cj e'
   obtain ⟨a,b,c₁,d⟩:=R.sep j i cj c k l e' hi hlj hl hn
   exact ⟨k,hlj,q.keeps (.refl _) (fun o q=>hk _ _ q a b) fun o q=>hk _ _ q c₁ d⟩
 ·have g:∀j cj,(H.set i c').get j=some cj->∃c2',H.get j=some c2':=fun j cj e=>by
   have e':(if j=i then some c' else H.get j)=some cj:=(Hp.get_set hi).symm.trans e
   by_cases hn:j=i
   ·exact ⟨c,hn▸hi⟩
   ·rw [if_neg hn] at e'; exact ⟨_,e'⟩
  obtain ⟨_,a⟩:=g j cj hj
  obtain ⟨_,b⟩:=g k ck hk2
  exact R.sep j k _ _ lj lk a b hlj hlk nij
 ·have hj':H.next<=j:=Hp.next_set (H:=H) (i:=i) (c:=c')▸hj
  have hn:¬ j=i:=by rintro rfl; rw [(R.dom j hj').1] at hi; cases hi
  refine ⟨?_,(R.dom j hj').2⟩
  rw [Hp.get_set hi,if_neg hn]; exact (R.dom j hj').1
 ·by_cases h1:x=l.1
  ·subst h1; exact hc.there.1
  ·by_cases h2:x=l.2
   ·subst h2; exact hc.there.2
   ·exact ⟨ob,hk x ob e h1 h2⟩
theorem RelH.freeze {i:Nat}{xs:List V}{l:Addr×Addr}(hi:H.get i=some (.list xs))(hl:W.φ i=some l):
  ∃o,RelH X (W.addZ l.1 o) (H.del i) h/\Stp noPv W H h (W.addZ l.1 o) (H.del i) h/\VR X (W.addZ l.1 o) (.ref l.1) (.lst xs):=by
 obtain ⟨l',hl',vs,n,hg,hv,he,hsz⟩:=R.cell i _ hi
 have:l'=l:=Option.some.inj (hl'.symm.trans hl)
 subst this
 have own_i:∀b,b=l'.1\/b=l'.2->Own W H b:=fun b e=>⟨i,_,l',hi,hl,e⟩
 have L:Wd.Le W (W.addZ l'.1 (lstO vs n)):=⟨fun b ob e=>(by
  show (if b=l'.1 then some (lstO vs n) else W.Z b)=some ob
  rw [if_neg]
  ·exact e
  ·rintro rfl; rw [R.off _ (own_i _ (.inl rfl))] at e; cases e),fun ø ø e=>e⟩
 have od:∀b,Own (W.addZ l'.1 (lstO vs n)) (H.del i) b->Own W H b/\b≠l'.1:=fun b ⟨j,cj,lj,hj,hlj,ha⟩=>by
  have hj':(if j=i then none else H.get j)=some cj:=(Hp.get_del hi).symm.trans hj
  by_cases hn:j=i
  ·rw [if_pos hn] at hj'; cases hj'
  ·rw [if_neg hn] at hj'
   refine ⟨⟨j,cj,lj,hj',hlj,ha⟩, ?_⟩
   obtain ⟨a,b,c,d⟩:=R.sep j i cj _ lj l' hj' hi hlj hl hn
   rcases ha with rfl | rfl
   ·exact a
   ·exact c
 refine ⟨lstO vs n,⟨fun b ob e=>?_,fun b ob e=>L.zz _ _ (R.base b ob e),fun j cj e=>?_,fun b hb=>?_,fun j k cj ck lj lk hj hk hlj hlk nij=>?_,fun j hj=>?_⟩,
  ⟨L,fun x ob e ø ø=>⟨ob,e,.refl ob⟩,fun x ob e no o=>no (od x o).1,fun x ob e=>?_,fun x ob e=>⟨ob,e⟩⟩,.lst (n:=n) ?_ (hv.le L) hsz⟩
 ·have e':(if b=l'.1 then some (lstO vs n) else W.Z b)=some ob:=e
  by_cases hb:b=l'.1
  ·rw [if_pos hb] at e'; cases e'; rw [hb]; exact hg
  ·rw [if_neg hb] at e'; exact R.z _ _ e'
 ·have e':(if j=i then none else H.get j)=some cj:=(Hp.get_del hi).symm.trans e
  by_cases hn:j=i
  ·rw [if_pos hn] at e'; cases e'
  ·rw [if_neg hn] at e'
   obtain ⟨k,hlj,q⟩:=R.cell j cj e'
   exact ⟨k,hlj,q.keeps L (fun ø q=>q) fun ø q=>q⟩
 ·obtain ⟨a,b'⟩:=od b hb
  show (if b=l'.1 then some (lstO vs n) else W.Z b)=none
  rw [if_neg b']; exact R.off _ a
 ·have g:∀j cj,(H.del i).get j=some cj->H.get j=some cj:=fun j cj e=>by
   have e':(if j=i then none else H.get j)=some cj:=(Hp.get_del hi).symm.trans e
   by_cases hn:j=i
   ·rw [if_pos hn] at e'; cases e'
   ·rw [if_neg hn] at e'; exact e'
  exact R.sep j k cj ck lj lk (g _ _ hj) (g _ _ hk) hlj hlk nij
 ·have hj':H.next<=j:=Hp.next_del (H:=H) (i:=i)▸hj
  refine ⟨?_,(R.dom j hj').2⟩
  rw [Hp.get_del hi,(R.dom j hj').1]; simp
 ·have e':(if x=l'.1 then some (lstO vs n) else W.Z x)=some ob:=e
  by_cases hb:x=l'.1
  ·exact .inr (.inl (own_i _ (.inl hb)))
  ·rw [if_neg hb] at e'; exact .inl e'
 ·show (if l'.1=l'.1 then some (lstO vs n) else W.Z l'.1)=_
  rw [if_pos rfl]
end
theorem Rest.refl (s:Shared):Rest s s:=⟨rfl,rfl,rfl⟩
theorem Rest.trans {a b c:Shared}(x:Rest a b)(y:Rest b c):Rest a c:=⟨y.gens.trans x.gens,y.drawn.trans x.drawn,y.os.trans x.os⟩
theorem Rest.mk' {s:Shared}{h:Heap}{t:Nat}:Rest s { s with heap:=h,toks:=t }:=⟨rfl,rfl,rfl⟩
theorem Zep {h h':Heap}{a:Addr}{m:Str->Option Value}(hn:h.Ns a m)(hk:∀o,h.get? a=some o->∃o',h'.get? a=some o'/\SameO o o'):h'.Ns a m:=by
 obtain ⟨o,es,ep,ho,hd,r⟩:=hn
 obtain ⟨o',ho',q⟩:=hk o ho
 exact ⟨o',es,ep,ho',q.data.trans hd,r⟩
theorem ZbS {h h':Heap}{a:Addr}{v:Option Value}(hn:h.IsCell a v)(hk:∀o,h.get? a=some o->∃o',h'.get? a=some o'/\SameO o o'):h'.IsCell a v:=by
 obtain ⟨o,ho,hd⟩:=hn
 obtain ⟨o',ho',q⟩:=hk o ho
 exact ⟨o',ho',q.data.trans hd⟩
structure Pr where
 pv:Addr->Prop
 st:List Env
theorem FrAt.keep {W W':Wd}{H H':Hp}{h h':Heap}{env:Env}(F:FrAt W H h env)(k:∀L o es n,env.frame=some L->h.get? L=some o->o.data=.dict es n->¬ Own W H L->W.Z L=none->(∃o' es' n',h'.get? L=some o'/\o'.data=.dict es' n')/\¬ Own W' H' L/\W'.Z L=none):FrAt W' H' h' env:=by
 obtain ⟨kd,L,o,es,n,a,b,c,d,e⟩:=F
 obtain ⟨⟨o',es',n',b',c'⟩,d',e'⟩:=k L o es n a b c d e
 exact ⟨kd,L,o',es',n',a,b',c',d',e'⟩
inductive MmR (X:Cx)(W:Wd)(m:Str->Option Value)(i:Nat)(v:V):Prop
 | mk (cv:Value) (e:m (X.nm i)=some cv) (r:VR X W cv v)
inductive NsR (X:Cx)(W:Wd)(h:Heap)(env:Env)(loc:Loc):Prop
 | mk (m:Str->Option Value) (hn:h.Ns env.locals m) (hv:∀i v,loc i=some v->env.kindOf (X.nm i)=some .local->MmR X W m i v)
inductive ClR (X:Cx)(W:Wd)(h:Heap)(env:Env)(i:Nat)(v:V):Prop
 | mk (c:Addr) (cv:Value) (e:env.cells.lookup (X.nm i)=some c) (hc:h.IsCell c (some cv)) (r:VR X W cv v)
structure FrR (X:Cx)(W:Wd)(H:Hp)(h:Heap)(env:Env)(Pv:Pr)(loc:Loc):Prop where
 ns:NsR X W h env loc
 cells:∀i v,loc i=some v->(env.kindOf (X.nm i)=some .cell\/env.kindOf (X.nm i)=some .free)->ClR X W h env i v
 hasCell:∀x,env.func≠none->env.kindOf x=some .cell->∃c v,env.cells.lookup x=some c/\h.IsCell c v/\Pv.pv c
 cellEq:∀x y c,env.cells.lookup x=some c->env.cells.lookup y=some c->x=y
 cellNs:∀x c,env.cells.lookup x=some c->c≠env.locals/\¬ Own W H c/\∃o,h.get? c=some o
 pvL:Pv.pv env.locals
 priv:∀a,Pv.pv a->¬ Own W H a/\W.Z a=none
 pvAt:∀a,Pv.pv a->∃o,h.get? a=some o
 frs:∀e∈Pv.st,FrAt W H h e
 frc:∀x c,env.cells.lookup x=some c->∀e∈Pv.st,e.frame≠some c
theorem FrR.step {W W':Wd}{H H':Hp}{h h':Heap}{env:Env}{Pv:Pr}{Pv':Addr->Prop}{loc:Loc}(F:FrR X W H h env Pv loc)(S:Stp Pv' W H h W' H' h')(hp:∀a,Pv' a->h.get? a=none):FrR X W' H' h' env Pv loc:=by
 have kp:∀a,Pv.pv a->∀o,h.get? a=some o->∃o',h'.get? a=some o'/\SameO o o':=fun a p o e=>S.keep a o e (F.priv a p).1 fun q=>by rw [hp a q] at e; cases e
 have kc:∀x c,env.cells.lookup x=some c->∀o,h.get? c=some o->∃o',h'.get? c=some o'/\SameO o o':=fun x c q o e=>S.keep c o e (F.cellNs x c q).2.1 fun q=>by rw [hp c q] at e; cases e
 refine ⟨?_,fun i v e k=>?_,fun x ef e=>?_,F.cellEq,fun x c e=>?_,F.pvL,fun a p=>?_,fun a p=>?_,fun e he=>(F.frs e he).keep fun L o es n a b c d f=>?_,F.frc⟩
 ·obtain ⟨m,hn,hv⟩:=F.ns
  exact ⟨m,Zep hn (kp _ F.pvL),fun i v e k=>let ⟨cv,q,r⟩:=hv i v e k; ⟨cv,q,r.le S.le⟩⟩
 ·obtain ⟨c,cv,q,r,t⟩:=F.cells i v e k
  exact ⟨c,cv,q,ZbS r (kc _ _ q),t.le S.le⟩
 ·obtain ⟨c,v,q,r,t⟩:=F.hasCell x ef e
  exact ⟨c,v,q,ZbS r (kc _ _ q),t⟩
 ·obtain ⟨a,b,ob,q⟩:=F.cellNs x c e
  exact ⟨a,S.own c ob q b,S.there c ob q⟩
 ·obtain ⟨o,e⟩:=F.pvAt a p
  refine ⟨S.own a o e (F.priv a p).1, ?_⟩
  cases hq:W'.Z a with
  | none=>rfl
  | some ob=>
   rcases S.znew a ob hq with q | q | q
   ·rw [(F.priv a p).2] at q; cases q
   ·exact absurd q (F.priv a p).1
   ·rw [e] at q; cases q
 ·obtain ⟨o,e⟩:=F.pvAt a p
  exact S.there a o e
 ·obtain ⟨o',e',q⟩:=S.keep L o b d fun q=>by rw [hp L q] at b; cases b
  refine ⟨⟨o',es,n,e',q.data.trans c⟩,S.own L o b d, ?_⟩
  cases hq:W'.Z L with
  | none=>rfl
  | some ob=>
   rcases S.znew L ob hq with q | q | q
   ·rw [f] at q; cases q
   ·exact absurd q d
   ·rw [b] at q; cases q
theorem FrR.storeL {W:Wd}{H:Hp}{h h':Heap}{env:Env}{Pv:Pr}{loc:Loc}{i:Nat}{cv:Value}{v:V}{m:Str->Option Value}(F:FrR X W H h env Pv loc)(hn:h.Ns env.locals m)
  (hm:∀j v,loc j=some v->env.kindOf (X.nm j)=some .local->MmR X W m j v) (hinj:∀j,X.nm j=X.nm i->j=i)
  (hk:env.kindOf (X.nm i)=some .local) (hv:VR X W cv v) (hn':h'.Ns env.locals (fun x=>if x=X.nm i then some cv else m x)) (hs:Heap.SameBut env.locals h h'):FrR X W H h' env Pv (upd loc i v):=by
 refine ⟨⟨_,hn',fun j u e k=>?_⟩,fun j u e k=>?_,fun x ef e=>?_,F.cellEq,fun x c e=>?_,F.pvL,F.priv,fun a p=>?_,fun e he=>(F.frs e he).keep fun L o es n a b c d f=>⟨?_,d,f⟩,F.frc⟩
 ·have e':(if j=i then some v else loc j)=some u:=e
  by_cases hj:j=i
  ·rw [if_pos hj] at e'; cases e'; exact ⟨cv,by rw [hj,if_pos rfl],hv⟩
  ·rw [if_neg hj] at e'
   obtain ⟨cu,q,r⟩:=hm j u e' k
   exact ⟨cu,by rw [if_neg fun z=>hj (hinj j z)]; exact q,r⟩
 ·have e':(if j=i then some v else loc j)=some u:=e
  by_cases hj:j=i
  ·subst hj; rw [hk] at k; rcases k with k | k <;> cases k
  ·rw [if_neg hj] at e'
   obtain ⟨c,cu,q,r,t⟩:=F.cells j u e' k
   exact ⟨c,cu,q,r.sameBut hs (F.cellNs _ _ q).1,t⟩
 ·obtain ⟨c,u,q,r,t⟩:=F.hasCell x ef e
  exact ⟨c,u,q,r.sameBut hs (F.cellNs _ _ q).1,t⟩
 ·obtain ⟨a,b,o,q⟩:=F.cellNs x c e
  exact ⟨a,b,o,(hs.2 c a).trans q⟩
 ·by_cases ha:a=env.locals
  ·subst ha; obtain ⟨o,_,_,ho,_⟩:=hn'; exact ⟨o,ho⟩
  ·obtain ⟨o,q⟩:=F.pvAt a p; exact ⟨o,(hs.2 a ha).trans q⟩
 ·by_cases ha:L=env.locals
  ·subst ha; obtain ⟨o',es',n',ho',hd',_⟩:=hn'; exact ⟨o',es',n',ho',hd'⟩
  ·exact ⟨o,es,n,(hs.2 L ha).trans b,c⟩
theorem FrR.storeC {W:Wd}{H:Hp}{h h':Heap}{env:Env}{Pv:Pr}{loc:Loc}{i:Nat}{cv:Value}{v:V}{c:Addr}(F:FrR X W H h env Pv loc)(hinj:∀j,X.nm j=X.nm i->j=i)
  (hk:env.kindOf (X.nm i)=some .cell) (hc:env.cells.lookup (X.nm i)=some c) (hv:VR X W cv v) (hn':h'.IsCell c (some cv)) (hs:Heap.SameBut c h h'):FrR X W H h' env Pv (upd loc i v):=by
 obtain ⟨m,hn,hm⟩:=F.ns
 have ne:=(F.cellNs _ _ hc).1
 refine ⟨⟨m,hn.sameBut hs (Ne.symm ne),fun j u e k=>?_⟩,fun j u e k=>?_,fun x ef e=>?_,F.cellEq,fun x d e=>?_,F.pvL,F.priv,fun a p=>?_,fun e he=>(F.frs e he).keep fun L o es n a b q d f=>⟨⟨o,es,n,(hs.2 L fun z=>F.frc _ c hc e he (z▸a)).trans b,q⟩,d,f⟩,F.frc⟩
 ·have e':(if j=i then some v else loc j)=some u:=e
  by_cases hj:j=i
  ·subst hj; rw [hk] at k; cases k
  ·rw [if_neg hj] at e'; exact hm j u e' k
 ·have e':(if j=i then some v else loc j)=some u:=e
  by_cases hj:j=i
  ·rw [if_pos hj] at e'; cases e'; exact ⟨c,cv,hj▸hc,hn',hv⟩
  ·rw [if_neg hj] at e'
   obtain ⟨d,cu,q,r,t⟩:=F.cells j u e' k
   exact ⟨d,cu,q,r.sameBut hs fun z=>hj (hinj j (F.cellEq _ _ d q (z▸hc))),t⟩
 ·obtain ⟨d,u,q,r,t⟩:=F.hasCell x ef e
  by_cases hd:d=c
  ·subst hd; exact ⟨d,_,q,hn',t⟩
  ·exact ⟨d,u,q,r.sameBut hs hd,t⟩
 ·obtain ⟨a,b,o,q⟩:=F.cellNs x d e
  refine ⟨a,b, ?_⟩
  by_cases hd:d=c
  ·subst hd; obtain ⟨o',ho',_⟩:=hn'; exact ⟨o',ho'⟩
  ·exact ⟨o,(hs.2 d hd).trans q⟩
 ·by_cases ha:a=c
  ·subst ha; obtain ⟨o',ho',_⟩:=hn'; exact ⟨o',ho'⟩
  ·obtain ⟨o,q⟩:=F.pvAt a p; exact ⟨o,(hs.2 a ha).trans q⟩
theorem Fly.back {W:Wd}{H:Hp}{h₀ h1' h:Heap}{e:Addr}(f:Fly W H h1' h e)(t:∀a o,h₀.get? a=some o->∃o',h1'.get? a=some o'):Fly W H h₀ h e:=by
 obtain ⟨oe,vs,a0,x1,x2,x3,x4⟩:=f
 refine ⟨oe,vs,a0,x1,x2,x3,x4.imp id fun y=>?_⟩
 obtain ⟨T,oT,ts,y1,y2,y3,y4,y5,y6,y7⟩:=y
 refine ⟨T,oT,ts,y1,y2,y3,y4,y5, ?_,y7⟩
 cases q:h₀.get? T with
 | none=>rfl
 | some o=>obtain ⟨o',e'⟩:=t T o q; rw [y6] at e'; cases e'
structure At (X:Cx)(env:Env)(Pv:Pr)(W:Wd)(σ:St)(s:Shared):Prop where
 rel:RelH X W σ.H s.heap
 fr:FrR X W σ.H s.heap env Pv σ.loc
structure Tf (X:Cx)(env:Env)(Pv:Pr)(W:Wd)(σ:St)(s:Shared)(W':Wd)(σ':St)(s':Shared):Prop where
 stp:Stp Pv.pv W σ.H s.heap W' σ'.H s'.heap
 at_:At X env Pv W' σ' s'
 rest:Rest s s'
theorem Tf.refl {env:Env}{Pv:Pr}{W:Wd}{σ:St}{s:Shared}(a:At X env Pv W σ s):Tf X env Pv W σ s W σ s:=⟨.refl,a,.refl _⟩
theorem Tf.trans {env:Env}{Pv:Pr}{W W' W'':Wd}{σ σ' σ'':St}{s s' s'':Shared}(a:Tf X env Pv W σ s W' σ' s')(b:Tf X env Pv W' σ' s' W'' σ'' s''):Tf X env Pv W σ s W'' σ'' s'':=
 ⟨a.stp.trans b.stp,b.at_,a.rest.trans b.rest⟩
theorem Tc.refl {W:Wd}{H:Hp}{s:Shared}(a:RelH X W H s.heap):Tc X W H s W H s:=⟨.refl,a,.refl _⟩
theorem Tc.trans {W W' W'':Wd}{H H' H'':Hp}{s s' s'':Shared}(a:Tc X W H s W' H' s')(b:Tc X W' H' s' W'' H'' s''):Tc X W H s W'' H'' s'':=
 ⟨a.stp.trans b.stp,b.rel,a.rest.trans b.rest⟩
theorem Tc.tf {env:Env}{Pv:Pr}{W W':Wd}{σ:St}{H':Hp}{s s':Shared}(a:At X env Pv W σ s)(t:Tc X W σ.H s W' H' s'):Tf X env Pv W σ s W' ⟨H',σ.loc⟩ s':=
 ⟨t.stp.mono fun ø z=>z.elim,⟨t.rel,a.fr.step t.stp fun ø z=>z.elim⟩,t.rest⟩
inductive EXi (X:Cx)(env:Env)(Pv:Pr)(W:Wd)(σ:St)(s:Shared)(E:EP)(e:Value)(s':Shared):Prop
 | mk (W':Wd) (σ':St) (i:Nat) (l:Addr×Addr) (k:Nat) (t:Tf X env Pv W σ s W' σ' s') (he:e=.ref l.1) (hl:W'.φ i=some l) (hk:σ'.H.get i=some (.exc k)) (hf:Fly W' σ'.H s.heap s'.heap l.1) (h:E i σ')
noncomputable def EX (X:Cx)(env:Env)(Pv:Pr)(W:Wd)(σ:St)(s:Shared)(E:EP)(e:Value)(s':Shared):Prop:=
 EXi X env Pv W σ s E e s'
theorem EX.back {env:Env}{Pv:Pr}{W W':Wd}{σ σ':St}{s s' s'':Shared}{E:EP}{e:Value}(t:Tf X env Pv W σ s W' σ' s')(x:EX X env Pv W' σ' s' E e s''):EX X env Pv W σ s E e s'':=by
 obtain ⟨W2,σ2,i,l,k,a,b,c,d,f,g⟩:=x
 exact ⟨W2,σ2,i,l,k,t.trans a,b,c,d,f.back t.stp.there,g⟩
theorem EX.no {env:Env}{Pv:Pr}{W:Wd}{σ:St}{s s':Shared}{e:Value}(x:EX X env Pv W σ s noE e s'):False:=by
 obtain ⟨W2,σ2,i,l,k,a,b,c,d,f,g⟩:=x
 exact g
inductive Go {α:Type}(X:Cx)(env:Env)(Pv:Pr)(W:Wd)(σ:St)(s:Shared)(R:α->Wd->St->Shared->Prop)(a:α)(s':Shared):Prop
 | mk (W':Wd) (σ':St) (t:Tf X env Pv W σ s W' σ' s') (r:R a W' σ' s')
inductive GoC {α:Type}(X:Cx)(W:Wd)(H:Hp)(s:Shared)(R:α->Wd->Hp->Shared->Prop)(a:α)(s':Shared):Prop
 | mk (W':Wd) (H':Hp) (t:Tc X W H s W' H' s') (r:R a W' H' s')
inductive VQ (X:Cx)(Q:V->St->Prop)(v:Value)(W':Wd)(σ':St)(s':Shared):Prop
 | mk (av:V) (r:VR X W' v av) (h:Q av σ')
noncomputable def Ew {α:Type}(X:Cx)(A:Around)(env:Env)(Pv:Pr)(t:Sem α)(W:Wd)(σ:St)(s:Shared)(R:α->Wd->St->Shared->Prop)(E:EP):Prop:=
 wpAny (model X.prog X.w) A t (Go X env Pv W σ s R) (EX X env Pv W σ s E) s
section
variable {α β:Type}{A:Around}{env:Env}{Pv:Pr}{W:Wd}{σ:St}{s:Shared}{E:EP}
theorem Ew.from {t:Sem α}{W':Wd}{σ':St}{s':Shared}{R:α->Wd->St->Shared->Prop}(T:Tf X env Pv W σ s W' σ' s')(h:Ew X A env Pv t W' σ' s' R E):
  wpAny (model X.prog X.w) A t (Go X env Pv W σ s R) (EX X env Pv W σ s E) s':=
 wpAny_mono h (fun _ _ ⟨W2,σ2,a,b⟩=>⟨W2,σ2,T.trans a,b⟩) fun ø ø x=>x.back T
theorem Ew.bind {m:Sem α}{f:α->Sem β}{R:β->Wd->St->Shared->Prop}(h:Ew X A env Pv m W σ s (fun a W1 σ1 s1'=>Ew X A env Pv (f a) W1 σ1 s1' R E) E):Ew X A env Pv (m >>= f) W σ s R E:=
 wpAny_bind (wpAny_mono h (fun _ _ ⟨_,_,T,h'⟩=>Ew.from T h') fun ø ø x=>x)
theorem Ew.pure {a:α}{R:α->Wd->St->Shared->Prop}(at_:At X env Pv W σ s)(h:R a W σ s):Ew X A env Pv (pure a) W σ s R E:=wpAny_pure ⟨W,σ,.refl at_,h⟩
theorem Ew.mono {t:Sem α}{R R':α->Wd->St->Shared->Prop}(h:Ew X A env Pv t W σ s R E)(hr:∀a W' σ' s',At X env Pv W' σ' s'->R a W' σ' s'->R' a W' σ' s'):Ew X A env Pv t W σ s R' E:=
 wpAny_mono h (fun _ _ ⟨W',σ',T,r⟩=>⟨W',σ',T,hr _ _ _ _ T.at_ r⟩) fun ø ø x=>x
theorem Ew.bindT {m:Sem α}{f:α->Sem β}{R:β->Wd->St->Shared->Prop}(h:Ew X A env Pv m W σ s (fun a W1 σ1 s1'=>At X env Pv W1 σ1 s1'->Wd.Le W W1->Ew X A env Pv (f a) W1 σ1 s1' R E) E):Ew X A env Pv (m >>= f) W σ s R E:=
 wpAny_bind (wpAny_mono h (fun _ _ ⟨_,_,T,h'⟩=>Ew.from T (h' T.at_ T.stp.le)) fun ø ø x=>x)
theorem Ew.holding {vs:List Value}{m:Sem α}{R:α->Wd->St->Shared->Prop}(h:Ew X A env Pv m W σ s R E):Ew X A env Pv (holding vs m) W σ s R E:=wpAny_holding h
theorem Ew.standAt {pos:Pos}{f:Unit->Sem β}{R:β->Wd->St->Shared->Prop}(h:Ew X A env Pv (f ()) W σ s R E):Ew X A env Pv (standAt pos >>= f) W σ s R E:=wpAny_bind (wpAny_standAt h)
theorem Ew.rule {tag:String}{f:Unit->Sem β}{R:β->Wd->St->Shared->Prop}(h:Ew X A env Pv (f ()) W σ s R E):Ew X A env Pv (rule tag >>= f) W σ s R E:=wpAny_bind (wpAny_rule h)
theorem Ew.operate {vs:List Value}{m:Sem Value}{R:Value->Wd->St->Shared->Prop}(h:Ew X A env Pv m W σ s R E):Ew X A env Pv (operate vs m) W σ s R E:=by
 intro Γ p hΓ
 rw [Sem.wp_operate]; exact h Γ p hΓ
noncomputable def Ow (X:Cx)(A:Around)(t:Sem α)(W:Wd)(H:Hp)(s:Shared)(R:α->Wd->Hp->Shared->Prop):Prop:=
 ∀E:Value->Shared->Prop,wpAny (model X.prog X.w) A t (GoC X W H s R) E s
theorem Ow.ew {t:Sem α}{R:α->Wd->St->Shared->Prop}(at_:At X env Pv W σ s)(h:Ow X A t W σ.H s (fun a W' H' s'=>R a W' ⟨H',σ.loc⟩ s')):Ew X A env Pv t W σ s R E:=
 wpAny_mono (h _) (fun _ _ ⟨W',H',T,r⟩=>⟨W',⟨H',σ.loc⟩,T.tf at_,r⟩) fun ø ø x=>x
theorem Ow.bind {H:Hp}{m:Sem α}{f:α->Sem β}{R:β->Wd->Hp->Shared->Prop}(h:Ow X A m W H s (fun a W1 H₁ s1'=>Ow X A (f a) W1 H₁ s1' R)):Ow X A (m >>= f) W H s R:=
 fun E=>wpAny_bind (wpAny_mono (h E) (fun _ _ ⟨_,_,T,h'⟩=>wpAny_mono (h' E) (fun _ _ ⟨W2,H2',a,b⟩=>⟨W2,H2',T.trans a,b⟩) fun ø ø x=>x) fun ø ø x=>x)
theorem Ow.pure {H:Hp}{a:α}{R:α->Wd->Hp->Shared->Prop}(r:RelH X W H s.heap)(h:R a W H s):Ow X A (pure a) W H s R:=fun ø=>wpAny_pure ⟨W,H,.refl r,h⟩
theorem Ow.same {H:Hp}{t:Sem α}{R:α->Wd->Hp->Shared->Prop}(r:RelH X W H s.heap)
  (h:∀E:Value->Shared->Prop,wpAny (model X.prog X.w) A t (fun a s'=>(∃tk,s'={ s with toks:=tk })/\R a W H s') E s):Ow X A t W H s R:=
 fun E=>wpAny_mono (h E) (fun _ _ ⟨⟨tk,e⟩,q⟩=>⟨W,H,by subst e; exact ⟨.refl,r,⟨rfl,rfl,rfl⟩⟩,q⟩) fun ø ø x=>x
theorem Tc.frozen {H:Hp}{a:Addr}{o:Obj}{h':Heap}{tk:Nat}(r:RelH X W H s.heap)(hk:∀b ob,s.heap.get? b=some ob->h'.get? b=some ob)(hn:s.heap.get? a=none)(ha:h'.get? a=some o):
  Tc X W H s (W.addZ a o) H { s with heap:=h',toks:=tk }:=let ⟨x,y⟩:=r.frozen hk hn ha; ⟨y,x,⟨rfl,rfl,rfl⟩⟩
theorem Zag (h:Heap):h.get? h.objs.size=none:=by
 cases q:h.get? h.objs.size with
 | none=>rfl
 | some o=>exact absurd (Heap.lt_size q) (Nat.lt_irrefl _)
theorem Tc.pushZ {H:Hp}{o:Obj}{tk:Nat}(r:RelH X W H s.heap)(hf:o.isFreed=false):Tc X W H s (W.addZ s.heap.objs.size o) H { s with heap:=s.heap.push o,toks:=tk }:=
 Tc.frozen r (fun ø ø e=>Heap.get?_push_of_some _ e) (Zag _) (Heap.get?_push_size _ hf)
theorem Zbr {a:Addr}{o:Obj}:(W.addZ a o).Z a=some o:=by show (if a=a then some o else W.Z a)=some o; rw [if_pos rfl]
theorem Zbh {i:Nat}{l:Addr×Addr}:(W.addφ i l).φ i=some l:=by show (if i=i then some l else W.φ i)=some l; rw [if_pos rfl]
end
section
variable {js:List Nat}{n:Nat}
theorem ZaX:∀{js:List Nat} {j i:Nat},pos0 js j=some i->js[i]?=some j
 | [],j,i,h=>by cases h
 | a::r,j,i,h=>by
  have h:(if a=j then some 0 else (match pos0 r j with | some i=>some (i+1) | none=>none))=some i:=h
  by_cases e:a=j
  ·rw [if_pos e] at h; cases h; rw [e]; rfl
  ·rw [if_neg e] at h
   cases q:pos0 r j with
   | none=>rw [q] at h; cases h
   | some k=>rw [q] at h; cases h; rw [List.getElem?_cons_succ]; exact ZaX q
theorem ZdS:∀{js:List Nat} {j:Nat},pos0 js j=none->j∉js
 | [],j,_=>fun e=>by cases e
 | a::r,j,h=>fun e=>by
  have h:(if a=j then some 0 else (match pos0 r j with | some i=>some (i+1) | none=>none))=none:=h
  by_cases q:a=j
  ·rw [if_pos q] at h; cases h
  ·rw [if_neg q] at h
   rcases List.mem_cons.mp e with z | z
   ·exact q z.symm
   ·cases p:pos0 r j with
    | none=>exact ZdS p z
    | some k=>rw [p] at h; cases h
inductive PosC (js:List Nat)(n j:Nat):Prop
 | out (lt:j < n) (no:j∉js) (e:pos js n j=none)
 | old (i:Nat) (lt:j < n) (h:js[i]?=some j) (q:pos0 js j=some i) (e:pos js n j=some i) (r:rho js n i=j)
 | new (i:Nat) (le:n<=j) (li:js.length<=i) (e:pos js n j=some i) (r:rho js n i=j)
theorem ZbW {i j:Nat}(h:js[i]?=some j):rho js n i=j:=by
 have li:i < js.length:=(List.getElem?_eq_some_iff.mp h).1
 unfold rho
 rw [if_pos li,h]; rfl
theorem ZbU {i:Nat}(h:js.length<=i):rho js n i=n+(i - js.length):=by
 unfold rho
 rw [if_neg (Nat.not_lt_of_le h)]
theorem posC (js:List Nat)(n j:Nat):PosC js n j:=by
 by_cases le:n<=j
 ·have e:pos js n j=some (js.length+(j - n)):=by unfold pos; rw [if_pos le]
  refine .new _ le (Nat.le_add_right _ _) e ?_
  rw [ZbU (Nat.le_add_right _ _),Nat.add_sub_cancel_left,Nat.add_sub_cancel' le]
 ·have lt:=Nat.lt_of_not_le le
  have e:pos js n j=pos0 js j:=by unfold pos; rw [if_neg le]
  cases q:pos0 js j with
  | none=>exact .out lt (ZdS q) (e.trans q)
  | some i=>exact .old i lt (ZaX q) q (e.trans q) (ZbW (ZaX q))
theorem ZeB {i:Nat}(h:js.length<=i):pos js n (n+(i - js.length))=some i:=by
 unfold pos
 rw [if_pos (Nat.le_add_right _ _),Nat.add_sub_cancel_left,Nat.add_sub_cancel' h]
end
section
variable {W W':Wd}{ρ:Nat->Nat}
theorem Zaw:∀xs:List V,(renVs ρ xs).length=xs.length
 | []=>rfl
 | _::r=>congrArg (·+1) (Zaw r)
theorem VR.up (hz:∀a o,W.Z a=some o->NoNames o->W'.Z a=some o)(hf:∀i l,W.φ i=some l->W'.φ (ρ i)=some l):(∀{v:Value} {x:V},VR X W v x->VR X W' v (renV ρ x))/\∀{vs:List Value} {xs:List V},VRs X W vs xs->VRs X W' vs (renVs ρ xs):=by
 have sq:∀{c:Value} {vs:Array Value} {n:Nat},NoNames { cls:=c,data:=.seq vs n }:=fun es m q=>by cases q
 constructor
 ·intro v x r
  exact VR.rec (motive_1:=fun v x ø=>VR X W' v (renV ρ x)) (motive_2:=fun vs xs ø=>VRs X W' vs (renVs ρ xs)) .none .bool .int .str (fun z ø q ih=>.tup (hz _ _ z sq) ih (by rw [Zaw]; exact q)) (fun z ø q ih=>.lst (hz _ _ z sq) ih (by rw [Zaw]; exact q)) (fun z p q r=>.rng (hz _ _ z fun es m q=>by cases q) p q r) (fun e=>.ref (hf _ _ e)) .bt .fn .cls .nil (fun ø ø a b=>.cons a b) r
 ·intro v x r
  exact VRs.rec (motive_1:=fun v x ø=>VR X W' v (renV ρ x)) (motive_2:=fun vs xs ø=>VRs X W' vs (renVs ρ xs)) .none .bool .int .str (fun z ø q ih=>.tup (hz _ _ z sq) ih (by rw [Zaw]; exact q)) (fun z ø q ih=>.lst (hz _ _ z sq) ih (by rw [Zaw]; exact q)) (fun z p q r=>.rng (hz _ _ z fun es m q=>by cases q) p q r) (fun e=>.ref (hf _ _ e)) .bt .fn .cls .nil (fun ø ø a b=>.cons a b) r
section
variable (hz:∀a o,W.Z a=some o->W'.Z a=some o)(hf:∀i,W'.φ i=W.φ (ρ i))
include hz hf
mutual
theorem ZeA:∀(x:V) {v:Value},VR X W v (renV ρ x)->VR X W' v x
 | .none,v,r=>by cases (show v=.none from r.inv); exact .none
 | .bool b,v,r=>by cases (show v=.bool b from r.inv); exact .bool b
 | .int i,v,r=>by obtain ⟨t,rfl⟩:∃t,v=.int i t:=r.inv; exact .int _ _
 | .str s,v,r=>by obtain ⟨t,rfl,a,b⟩:∃t,v=.str s t/\_:=r.inv; exact .str _ _ a b
 | .tup xs,v,r=>by
  obtain ⟨a,vs,n,rfl,z,q,l⟩:∃a vs n,v=.ref a/\_:=r.inv
  exact .tup (hz _ _ z) (ZbN xs q) (Zaw (ρ:=ρ) xs▸l)
 | .lst xs,v,r=>by
  obtain ⟨a,vs,n,rfl,z,q,l⟩:∃a vs n,v=.ref a/\_:=r.inv
  exact .lst (hz _ _ z) (ZbN xs q) (Zaw (ρ:=ρ) xs▸l)
 | .rng a b c,v,r=>by obtain ⟨r,t,u,w,rfl,z,p,q,s⟩:∃r t u w,v=.ref r/\_:=r.inv; exact .rng (hz _ _ z) p q s
 | .ref i,v,r=>by obtain ⟨l,rfl,e⟩:∃l:Addr×Addr,v=.ref l.1/\_:=r.inv; exact .ref ((hf i).trans e)
 | .bt b,v,r=>by cases (show v=bval b from r.inv); exact .bt b
 | .fn k,v,r=>by obtain ⟨a,rfl,e⟩:∃a,v=.ref a/\_:=r.inv; exact .fn e
 | .cls k,v,r=>by obtain ⟨a,rfl,e⟩:∃a,v=.ref a/\_:=r.inv; exact .cls e
theorem ZbN:∀(xs:List V) {vs:List Value},VRs X W vs (renVs ρ xs)->VRs X W' vs xs
 | [],vs,r=>by cases r; exact .nil
 | x::t,vs,r=>by
  have r:VRs X W vs (renV ρ x::renVs ρ t):=r
  cases r with | cons a b=>exact .cons (ZeA x a) (ZbN t b)
end
end
theorem KVs.up (u:∀{v:Value} {x:V},VR X W v x->VR X W' v (renV ρ x)){es:List (Int×Value)}{kvs:List (V×V)}(r:KVs X W es kvs):KVs X W' es (renK ρ kvs):=by
 induction r with
 | nil=>exact .nil
 | cons a _ ih=>exact .cons (u a) ih
theorem FVs.up (u:∀{v:Value} {x:V},VR X W v x->VR X W' v (renV ρ x)){es:List DictEntry}{fs:List (Nat×V)}(r:FVs X W es fs):FVs X W' es (renF ρ fs):=by
 induction r with
 | nil=>exact .nil
 | cons a _ ih=>exact .cons (u a) ih
theorem Ze3 (d:∀{v:Value} {x:V},VR X W v (renV ρ x)->VR X W' v x):∀{kvs:List (V×V)} {es:List (Int×Value)},KVs X W es (renK ρ kvs)->KVs X W' es kvs
 | [],es,r=>by cases r; exact .nil
 | (k,x)::t,es,r=>by
  have r:KVs X W es ((k,renV ρ x)::renK ρ t):=r
  cases r with | cons a b=>exact .cons (d a) (Ze3 d b)
theorem Zfe (d:∀{v:Value} {x:V},VR X W v (renV ρ x)->VR X W' v x):∀{fs:List (Nat×V)} {es:List DictEntry},FVs X W es (renF ρ fs)->FVs X W' es fs
 | [],es,r=>by cases r; exact .nil
 | (k,x)::t,es,r=>by
  have r:FVs X W es ((k,renV ρ x)::renF ρ t):=r
  cases r with | cons a b=>exact .cons (d a) (Zfe d b)
theorem Zdt:∀l:List (V×V),(renK ρ l).length=l.length
 | []=>rfl
 | _::r=>congrArg (·+1) (Zdt r)
theorem Zdg:∀l:List (Nat×V),(renF ρ l).length=l.length
 | []=>rfl
 | _::r=>congrArg (·+1) (Zdg r)
theorem ZdH {q:Nat->Prop}:∀l:List (Nat×V),(∀p∈renF ρ l,q p.1)↔∀p∈l,q p.1
 | []=>⟨fun ø p h=>(nomatch h),fun ø p h=>(nomatch h)⟩
 | a::r=>by
  show (∀p∈(a.1,renV ρ a.2)::renF ρ r,q p.1)↔_
  rw [List.forall_mem_cons,List.forall_mem_cons,ZdH r]
theorem Zkf (u:∀{v:Value} {x:V},VR X W v x->VR X W' v (renV ρ x))(us:∀{vs:List Value} {xs:List V},VRs X W vs xs->VRs X W' vs (renVs ρ xs)){h:Heap}{l:Addr×Addr}{c:C}(hc:CellAt X W h l c):CellAt X W' h l (renC ρ c):=by
 cases c with
 | list xs=>obtain ⟨vs,n,a,b,e,z⟩:=hc; exact ⟨vs,n,a,us b,e,by rw [Zaw]; exact z⟩
 | dict kvs=>obtain ⟨es,a,k,e,n,z⟩:=hc; exact ⟨es,a,k.up u,e,n,by rw [Zdt]; exact z⟩
 | inst k fs=>obtain ⟨c,cl,es,n,a,a',b,d,f,ne,p,z⟩:=hc; exact ⟨c,cl,es,n,a,a',b,d,f.up u,ne,(ZdH (q:=(·∈cl.attrs)) fs).mpr p,by rw [Zdg]; exact z⟩
 | exc k=>obtain ⟨c,o,vs,a,a',b,d,f,e⟩:=hc; exact ⟨c,o,vs,a,a',b,d,f,e⟩
theorem Zf0 (hz:∀a o,W.Z a=some o->W'.Z a=some o)(hf:∀i,W'.φ i=W.φ (ρ i)){h:Heap}{l:Addr×Addr}{c:C}(hc:CellAt X W h l (renC ρ c)):CellAt X W' h l c:=by
 cases c with
 | list xs=>obtain ⟨vs,n,a,b,e,z⟩:=(hc:LstCell X W h l (renVs ρ xs)); exact ⟨vs,n,a,ZbN hz hf xs b,e,Zaw (ρ:=ρ) xs▸z⟩
 | dict kvs=>obtain ⟨es,a,k,e,n,z⟩:=(hc:DicCell X W h l (renK ρ kvs)); exact ⟨es,a,Ze3 (fun {v x} r=>ZeA hz hf x r) k,e,n,Zdt (ρ:=ρ) kvs▸z⟩
 | inst k fs=>obtain ⟨c,cl,es,n,a,a',b,d,f,ne,p,z⟩:=(hc:InsCell X W h l k (renF ρ fs)); exact ⟨c,cl,es,n,a,a',b,d,Zfe (fun {v x} r=>ZeA hz hf x r) f,ne,(ZdH (q:=(·∈cl.attrs)) fs).mp p,Zdg (ρ:=ρ) fs▸z⟩
 | exc k=>exact hc
end
open Classical
section
variable {W:Wd}{H H₀:Hp}{js:List Nat}
inductive Out (W:Wd)(H H₀:Hp)(js:List Nat)(a:Addr):Prop
 | mk (j:Nat) (c:C) (l:Addr×Addr) (h:H.get j=some c) (p:W.φ j=some l) (e:a=l.1\/a=l.2) (n:∀i,pos0 js j=some i->H₀.get i=none)
noncomputable def OutD (W:Wd)(H H₀:Hp)(js:List Nat)(h:Heap)(a:Addr):Prop:=Out W H H₀ js a/\∃o es n,h.get? a=some o/\o.data=.dict es n
theorem Out.own {a:Addr}(o:Out W H H₀ js a):Own W H a:=by obtain ⟨j,c,l,h,p,e,_⟩:=o; exact ⟨j,c,l,h,p,e⟩
noncomputable def Wd.part (W:Wd)(H H₀:Hp)(js:List Nat)(h:Heap):Wd:=⟨fun a=>if OutD W H H₀ js h a then h.get? a else W.Z a,fun i=>W.φ (rho js H.next i)⟩
variable {h:Heap}(R:RelH X W H h)(e:Emb js H₀ H)
include R
theorem zPart {a:Addr}{o:Obj}(z:W.Z a=some o):(W.part H H₀ js h).Z a=some o:=by
 show (if OutD W H H₀ js h a then h.get? a else W.Z a)=some o
 rw [if_neg fun d=>by rw [R.off a d.1.own] at z; cases z]; exact z
include e
theorem phiPart {i:Nat}{c:C}(g:H₀.get i=some c):∃j l,js[i]?=some j/\pos0 js j=some i/\H.get j=some (renC (rho js H.next) c)/\W.φ j=some l/\(W.part H H₀ js h).φ i=some l/\CellAt X W h l (renC (rho js H.next) c):=by
 obtain ⟨j,x1,x2,x3⟩:=e.get i c g
 obtain ⟨l,hl,hc⟩:=R.cell j _ x3
 exact ⟨j,l,x1,x2,x3,hl,by show W.φ (rho js H.next i)=some l; rw [ZbW x1]; exact hl,hc⟩
theorem ownPart {a:Addr}(o:Own (W.part H H₀ js h) H₀ a):Own W H a/\¬ Out W H H₀ js a:=by
 obtain ⟨i,c,l,g,p,ha⟩:=o
 obtain ⟨j,l',x1,x2,x3,x4,x5,_⟩:=phiPart R e g
 have:l'=l:=Option.some.inj (x5.symm.trans p)
 subst this
 refine ⟨⟨j,_,l',x3,x4,ha⟩,fun ⟨k,c',m,y1,y2,y3,y4⟩=>?_⟩
 by_cases q:j=k
 ·subst q; rw [y4 i x2] at g; cases g
 ·obtain ⟨a1,a2,a3,a4⟩:=R.sep j k _ _ l' m x3 y1 x4 y2 q
  rcases ha with rfl | rfl <;> rcases y3 with z | z <;> first | exact a1 z | exact a2 z | exact a3 z | exact a4 z
theorem relPart:RelH X (W.part H H₀ js h) H₀ h where
 z:=fun a o q=>by
  have q:(if OutD W H H₀ js h a then h.get? a else W.Z a)=some o:=q
  by_cases d:OutD W H H₀ js h a
  ·rw [if_pos d] at q; exact q
  ·rw [if_neg d] at q; exact R.z _ _ q
 base:=fun a o q=>zPart R (R.base a o q)
 cell:=fun i c g=>by
  obtain ⟨j,l,x1,x2,x3,x4,x5,x6⟩:=phiPart R e g
  exact ⟨l,x5,Zf0 (fun a o z=>zPart R z) (fun i=>rfl) x6⟩
 off:=fun a o=>by
  obtain ⟨o1,o2⟩:=ownPart R e o
  show (if OutD W H H₀ js h a then h.get? a else W.Z a)=none
  rw [if_neg fun d=>o2 d.1]; exact R.off a o1
 sep:=fun i k ci ck li lk hi hk pi pk ne=>by
  obtain ⟨j,l,x1,x2,x3,x4,x5,_⟩:=phiPart R e hi
  obtain ⟨j',l',y1,y2,y3,y4,y5,_⟩:=phiPart R e hk
  have a1:l=li:=Option.some.inj (x5.symm.trans pi)
  have a2:l'=lk:=Option.some.inj (y5.symm.trans pk)
  subst a1 a2
  exact R.sep j j' _ _ _ _ x3 y3 x4 y4 fun z=>ne (by subst z; rw [x2] at y2; exact Option.some.inj y2)
 dom:=fun i hi=>by
  rw [e.nx] at hi
  refine ⟨e.dom i hi, ?_⟩
  show W.φ (rho js H.next i)=none
  rw [ZbU hi]; exact (R.dom _ (Nat.le_add_right _ _)).2
end
end Mine
end
section
namespace Mine
open PySem PySem.Calls PyProof.Rows
open Classical
theorem Zha {f:Nat->Option C}:∀{n k j:Nat},atC ((List.range' k n).map f) j=if j < n then f (k+j) else none
 | 0,k,j=>by rw [if_neg (Nat.not_lt_zero j)]; rfl
 | n+1,k,0=>by rw [if_pos (Nat.succ_pos n)]; rfl
 | n+1,k,j+1=>by
  show atC ((List.range' (k+1) n).map f) j=_
  rw [Zha (n:=n) (k:=k+1) (j:=j),Nat.add_assoc,Nat.add_comm 1 j]
  by_cases q:j < n
  ·rw [if_pos q,if_pos (Nat.succ_lt_succ q)]
  ·rw [if_neg q,if_neg fun z=>q (Nat.lt_of_succ_lt_succ z)]
theorem Zdv {js:List Nat}{H₀ H H₁:Hp}{j:Nat}:(mrg js H₀ H H₁).get j=if j < H.next+(H₁.next - js.length) then mrgF js H₀ H H₁ j else none:=by
 show atC ((List.range _).map _) j=_
 rw [List.range_eq_range',Zha,Nat.zero_add]
theorem Zet {js:List Nat}{H₀ H H₁:Hp}:(mrg js H₀ H H₁).next=H.next+(H₁.next - js.length):=by
 show ((List.range _).map _).length=_
 rw [List.length_map,List.length_range]
theorem Zit {js:List Nat}{H₀ H H₁:Hp}{j:Nat}{c:C}(h:(mrg js H₀ H H₁).get j=some c):mrgF js H₀ H H₁ j=some c:=by
 rw [Zdv] at h
 by_cases q:j < H.next+(H₁.next - js.length)
 ·rw [if_pos q] at h; exact h
 ·rw [if_neg q] at h; cases h
noncomputable def Wd.whole (W:Wd)(H H₀:Hp)(js:List Nat)(h:Heap)(W1:Wd):Wd:=⟨fun a=>if OutD W H H₀ js h a then none else W1.Z a,fun j=>match pos js H.next j with | some i=>W1.φ i | none=>W.φ j⟩
section
variable {W W1:Wd}{H H₀ H₁:Hp}{js:List Nat}{s s':Shared}(R:RelH X W H s.heap)(e:Emb js H₀ H)(T:Tc X (W.part H H₀ js s.heap) H₀ s W1 H₁ s')
include R
theorem jsLt {j:Nat}{c:C}(g:H.get j=some c):j < H.next:=by
 by_cases q:j < H.next
 ·exact q
 ·rw [(R.dom j (Nat.le_of_not_lt q)).1] at g; cases g
include T
theorem zWhole {a:Addr}{o:Obj}(z:W1.Z a=some o)(n:NoNames o):(W.whole H H₀ js s.heap W1).Z a=some o:=by
 show (if OutD W H H₀ js s.heap a then none else W1.Z a)=some o
 rw [if_neg]
 ·exact z
 ·intro d
  obtain ⟨o',es,m,h1,h2⟩:=d.2
  have:(W.part H H₀ js s.heap).Z a=some o':=by show (if OutD W H H₀ js s.heap a then s.heap.get? a else W.Z a)=some o'; rw [if_pos d]; exact h1
  rw [T.stp.le.zz _ _ this] at z
  cases z
  exact n es m h2
include e
theorem phiW {i:Nat}{l:Addr×Addr}(p:W1.φ i=some l):(W.whole H H₀ js s.heap W1).φ (rho js H.next i)=some l:=by
 show (match pos js H.next (rho js H.next i) with | some i=>W1.φ i | none=>W.φ (rho js H.next i))=some l
 by_cases li:i < js.length
 ·have hj:js[i]?=some js[i]:=List.getElem?_eq_getElem li
  have er:rho js H.next i=js[i]:=ZbW hj
  obtain ⟨c,hc⟩:=e.all _ (List.getElem_mem li)
  obtain ⟨l0',hl,_⟩:=R.cell _ c hc
  have key:∀k,js[k]?=some js[i]->W1.φ k=some l0':=fun k hk=>T.stp.le.ff _ _ (by show W.φ (rho js H.next k)=some l0'; rw [ZbW hk]; exact hl)
  have:l0'=l:=Option.some.inj ((key i hj).symm.trans p)
  subst this
  rw [er]
  cases posC js H.next js[i] with
  | out _ no _=>exact absurd (List.getElem_mem li) no
  | old k _ hk _ ek _=>rw [ek]; exact key k hk
  | new k le _ _ _=>exact absurd (jsLt R hc) (Nat.not_lt_of_le le)
 ·have li:=Nat.le_of_not_lt li
  rw [ZbU li,ZeB li]; exact p
theorem leWhole:Wd.Le W (W.whole H H₀ js s.heap W1) where
 zz:=fun a o z=>by
  show (if OutD W H H₀ js s.heap a then none else W1.Z a)=some o
  rw [if_neg fun d=>by rw [R.off a d.1.own] at z; cases z]
  exact T.stp.le.zz _ _ (zPart R z)
 ff:=fun j l p=>by
  show (match pos js H.next j with | some i=>W1.φ i | none=>W.φ j)=some l
  cases posC js H.next j with
  | out _ _ ek=>rw [ek]; exact p
  | old k _ hk _ ek r=>rw [ek]; exact T.stp.le.ff _ _ (by show W.φ (rho js H.next k)=some l; rw [r]; exact p)
  | new k le _ _ _=>rw [(R.dom j le).2] at p; cases p
inductive CellM (W W1:Wd)(H H₀ H₁:Hp)(js:List Nat)(h:Heap)(j:Nat)(c:C):Prop
 | a (g:H.get j=some c) (p:(W.whole H H₀ js h W1).φ j=W.φ j) (n:∀i,pos0 js j=some i->H₀.get i=none)
 | b (i:Nat) (c₁:C) (g:H₁.get i=some c₁) (ec:c=renC (rho js H.next) c₁) (p:(W.whole H H₀ js h W1).φ j=W1.φ i) (r:rho js H.next i=j)
theorem cellM {j:Nat}{c:C}(g:(mrg js H₀ H H₁).get j=some c):CellM W W1 H H₀ H₁ js s.heap j c:=by
 have g:(match pos js H.next j with | some i=>mrgC (rho js H.next) (H₀.get i) (H₁.get i) (H.get j) | none=>H.get j)=some c:=Zit g
 have fp:∀o,pos js H.next j=o->(W.whole H H₀ js s.heap W1).φ j=(match o with | some i=>W1.φ i | none=>W.φ j):=fun o q=>by subst q; rfl
 have both:∀i,pos js H.next j=some i->rho js H.next i=j->(H₁.get i=none->H₀.get i=none->CellM W W1 H H₀ H₁ js s.heap j c)->CellM W W1 H H₀ H₁ js s.heap j c:=fun i ek r k=>by
  rw [ek] at g
  have g:mrgC (rho js H.next) (H₀.get i) (H₁.get i) (H.get j)=some c:=g
  cases q:H₁.get i with
  | some c₁=>rw [q] at g; exact .b i c₁ q (Option.some.inj g).symm (fp _ ek) r
  | none=>
   rw [q] at g
   cases q0:H₀.get i with
   | some c0'=>rw [q0] at g; cases g
   | none=>exact k q q0
 cases posC js H.next j with
 | out _ no ek=>rw [ek] at g; exact .a g (fp _ ek) fun i q=>absurd (List.mem_of_getElem? (ZaX q)) no
 | old i lt hi q0 ek r=>
  refine both i ek r fun n1 n0=>?_
  have g':H.get j=some c:=by
   rw [ek] at g
   have g:mrgC (rho js H.next) (H₀.get i) (H₁.get i) (H.get j)=some c:=g
   rw [n1,n0] at g; exact g
  obtain ⟨l,hl,_⟩:=R.cell j c g'
  refine .a g' ?_ fun k q=>by rw [q0] at q; cases q; exact n0
  rw [fp _ ek,hl]
  exact T.stp.le.ff _ _ (by show W.φ (rho js H.next i)=some l; rw [r]; exact hl)
 | new i le li ek r=>
  refine both i ek r fun n1 n0=>?_
  have g':H.get j=some c:=by
   rw [ek] at g
   have g:mrgC (rho js H.next) (H₀.get i) (H₁.get i) (H.get j)=some c:=g
   rw [n1,n0] at g; exact g
  exact absurd (jsLt R g') (Nat.not_lt_of_le le)
theorem ownW {a:Addr}(o:Own (W.whole H H₀ js s.heap W1) (mrg js H₀ H H₁) a):Out W H H₀ js a\/Own W1 H₁ a:=by
 obtain ⟨j,c,l,g,p,ha⟩:=o
 cases cellM R e T g with
 | a g' p' n=>exact .inl ⟨j,c,l,g',p'.symm.trans p,ha,n⟩
 | b i c₁ g' _ p' _=>exact .inr ⟨i,c₁,l,g',p'.symm.trans p,ha⟩
theorem outNo {a:Addr}(o:Out W H H₀ js a):¬ Own W1 H₁ a:=by
 obtain ⟨ob,ho⟩:=R.own_there o.own
 exact T.stp.own a ob ho fun z=>(ownPart R e z).2 o
theorem outKeep {a:Addr}(o:Out W H H₀ js a){ob:Obj}(ho:s.heap.get? a=some ob):s'.heap.get? a=some ob:=by
 by_cases d:∃es n,ob.data=.dict es n
 ·obtain ⟨es,n,hd⟩:=d
  have:(W.part H H₀ js s.heap).Z a=some ob:=by
   show (if OutD W H H₀ js s.heap a then s.heap.get? a else W.Z a)=some ob
   rw [if_pos ⟨o,ob,es,n,ho,hd⟩]; exact ho
  exact T.rel.z _ _ (T.stp.le.zz _ _ this)
 ·obtain ⟨o',h',q⟩:=T.stp.keep a ob ho (fun z=>(ownPart R e z).2 o) fun z=>z
  rw [q.eq fun es n z=>d ⟨es,n,z⟩] at h'; exact h'
theorem relWhole:RelH X (W.whole H H₀ js s.heap W1) (mrg js H₀ H H₁) s'.heap where
 z:=fun a o q=>by
  have q:(if OutD W H H₀ js s.heap a then none else W1.Z a)=some o:=q
  by_cases d:OutD W H H₀ js s.heap a
  ·rw [if_pos d] at q; cases q
  ·rw [if_neg d] at q; exact T.rel.z _ _ q
 base:=fun a o q=>(leWhole R e T).zz _ _ (R.base a o q)
 cell:=fun j c g=>by
  cases cellM R e T g with
  | a g' p' n=>
   obtain ⟨l,hl,hc⟩:=R.cell j c g'
   exact ⟨l,p'.trans hl,hc.keeps (leWhole R e T) (fun o q=>outKeep R e T ⟨j,c,l,g',hl,.inl rfl,n⟩ q) fun o q=>outKeep R e T ⟨j,c,l,g',hl,.inr rfl,n⟩ q⟩
  | b i c₁ g' ec p' _=>
   obtain ⟨l,hl,hc⟩:=T.rel.cell i c₁ g'
   have u:=VR.up (W:=W1) (W':=W.whole H H₀ js s.heap W1) (ρ:=rho js H.next) (fun a o z n=>zWhole R T z n) fun i l p=>phiW R e T p
   rw [ec]
   exact ⟨l,p'.trans hl,Zkf u.1 u.2 hc⟩
 off:=fun a o=>by
  show (if OutD W H H₀ js s.heap a then none else W1.Z a)=none
  by_cases d:OutD W H H₀ js s.heap a
  ·rw [if_pos d]
  ·rw [if_neg d]
   rcases ownW R e T o with q | q
   ·cases z:W1.Z a with
    | none=>rfl
    | some ob=>
     rcases T.stp.znew a ob z with y | y | y
     ·have y:(if OutD W H H₀ js s.heap a then s.heap.get? a else W.Z a)=some ob:=y
      rw [if_neg d,R.off a q.own] at y; cases y
     ·exact absurd q (ownPart R e y).2
     ·obtain ⟨_,w⟩:=R.own_there q.own
      rw [y] at w; cases w
   ·exact T.rel.off a q
 sep:=fun j k cj ck lj lk hj hk pj pk ne=>by
  have no:∀{x y:Addr},Out W H H₀ js x->Own W1 H₁ y->x≠y:=fun o w z=>outNo R e T o (z▸w)
  cases cellM R e T hj with
  | a g p n=>
   cases cellM R e T hk with
   | a g' p' n'=>exact R.sep j k _ _ lj lk g g' (p.symm.trans pj) (p'.symm.trans pk) ne
   | b i c₁ g' _ p' _=>
    have w:∀x,x=lk.1\/x=lk.2->Own W1 H₁ x:=fun x z=>⟨i,c₁,lk,g',p'.symm.trans pk,z⟩
    have v:∀x,x=lj.1\/x=lj.2->Out W H H₀ js x:=fun x z=>⟨j,cj,lj,g,p.symm.trans pj,z,n⟩
    exact ⟨no (v _ (.inl rfl)) (w _ (.inl rfl)),no (v _ (.inl rfl)) (w _ (.inr rfl)),no (v _ (.inr rfl)) (w _ (.inl rfl)),no (v _ (.inr rfl)) (w _ (.inr rfl))⟩
  | b i c₁ g _ p r=>
   have w:∀x,x=lj.1\/x=lj.2->Own W1 H₁ x:=fun x z=>⟨i,c₁,lj,g,p.symm.trans pj,z⟩
   cases cellM R e T hk with
   | a g' p' n'=>
    have v:∀x,x=lk.1\/x=lk.2->Out W H H₀ js x:=fun x z=>⟨k,ck,lk,g',p'.symm.trans pk,z,n'⟩
    exact ⟨(no (v _ (.inl rfl)) (w _ (.inl rfl))).symm,(no (v _ (.inr rfl)) (w _ (.inl rfl))).symm,(no (v _ (.inl rfl)) (w _ (.inr rfl))).symm,(no (v _ (.inr rfl)) (w _ (.inr rfl))).symm⟩
   | b i' c1' g' _ p' r'=>exact T.rel.sep i i' _ _ lj lk g g' (p.symm.trans pj) (p'.symm.trans pk) fun z=>ne (by rw [← r,← r',z])
 dom:=fun j hj=>by
  have hj:H.next+(H₁.next - js.length)<=j:=Zet (js:=js) (H₀:=H₀) (H:=H) (H₁:=H₁)▸hj
  have le:H.next<=j:=Nat.le_trans (Nat.le_add_right _ _) hj
  have ek:pos js H.next j=some (js.length+(j - H.next)):=by unfold pos; rw [if_pos le]
  have hi:H₁.next<=js.length+(j - H.next):=Nat.sub_le_iff_le_add'.mp (Nat.le_sub_of_add_le' hj)
  constructor
  ·exact ZcW (show (mrg js H₀ H H₁).next<=j by rw [Zet]; exact hj)
  ·show (match pos js H.next j with | some i=>W1.φ i | none=>W.φ j)=none
   rw [ek]; exact (T.rel.dom _ hi).2
theorem tcWhole:Tc X W H s (W.whole H H₀ js s.heap W1) (mrg js H₀ H H₁) s' where
 stp:={
  le:=leWhole R e T
  keep:=fun a o h n p=>T.stp.keep a o h (fun z=>n (ownPart R e z).1) p
  own:=fun a o h n z=>(ownW R e T z).elim (fun q=>n q.own) fun q=>T.stp.own a o h (fun w=>n (ownPart R e w).1) q
  znew:=fun a o z=>by
   have z:(if OutD W H H₀ js s.heap a then none else W1.Z a)=some o:=z
   by_cases d:OutD W H H₀ js s.heap a
   ·rw [if_pos d] at z; cases z
   ·rw [if_neg d] at z
    rcases T.stp.znew a o z with y | y | y
    ·have y:(if OutD W H H₀ js s.heap a then s.heap.get? a else W.Z a)=some o:=y
     rw [if_neg d] at y; exact .inl y
    ·exact .inr (.inl (ownPart R e y).1)
    ·exact .inr (.inr y)
  there:=T.stp.there }
 rel:=relWhole R e T
 rest:=T.rest
theorem vrWhole {v:Value}{x:V}(r:VR X W1 v x):VR X (W.whole H H₀ js s.heap W1) v (renV (rho js H.next) x):=(VR.up (fun a o z n=>zWhole R T z n) fun i l p=>phiW R e T p).1 r
end
end Mine
end
section
namespace Mine
open PySem PySem.W PySem.Calls PyProof.Rows
theorem Zab {α:Type}{o:Option α}{k:α->Prop}{G:Prop}(h:need o k)(g:∀a,o=some a->k a->G):G:=by
 cases o with
 | none=>exact h.elim
 | some a=>exact g a rfl h
theorem ZbL {α:Type}{o:Option α}{a:α}{k:α->Prop}(e:o=some a)(h:k a):need o k:=by subst e; exact h
theorem Zoa {b:Bool}{t e G:Prop}(h:Br b t e)(g1:b=true->t->G)(g2:b=false->e->G):G:=by
 cases b with
 | true=>exact g1 rfl h
 | false=>exact g2 rfl h
section
variable {W:Wd}{H:Hp}
inductive Sn (X:Cx)(W:Wd)(h:Heap):Value->V->Prop
 | none:Sn X W h .none .none
 | bool (b:Bool):Sn X W h (.bool b) (.bool b)
 | int (i:Int) (t:Tok):Sn X W h (.int i t) (.int i)
 | str (s:Str) (t:Tok) (o:PyData.strOk s=true) (z:s.length<=SZ):Sn X W h (.str s t) (.str s)
 | tup {a:Addr} {vs:Array Value} {n:Nat} {xs:List V} (g:h.get? a=some (tupO vs n)) (r:VRs X W vs.toList xs) (q:xs.length<=SZ) (z:vs.size=xs.length):Sn X W h (.ref a) (.tup xs)
 | lst {a:Addr} {vs:Array Value} {n:Nat} {xs:List V} (g:h.get? a=some (lstO vs n)) (r:VRs X W vs.toList xs) (q:xs.length<=SZ) (z:vs.size=xs.length):Sn X W h (.ref a) (.lst xs)
 | rng {r:Addr} {a b c:Int} {t u v:Tok} (g:h.get? r=some { cls:=.type "range",dict:=none,data:=.fields #[.int a t,.int b u,.int c v],slots:=#[] }) (p:a.natAbs<=SZ) (q:b.natAbs<=SZ) (hc:c=1):Sn X W h (.ref r) (.rng a b c)
theorem VRs.toArr {vs:Array Value}{xs:List V}(h:VRs X W vs.toList xs):vs.size=xs.length:=by rw [← h.length,Array.length_toList]
theorem RelH.at_ {h:Heap}(R:RelH X W H h){i:Nat}{c:C}{l:Addr×Addr}(hi:H.get i=some c)(hl:W.φ i=some l):CellAt X W h l c:=by
 obtain ⟨l',hl',q⟩:=R.cell i c hi
 exact Option.some.inj (hl'.symm.trans hl)▸q
theorem Zns {o:Option (List V)}{v:V}(h:mL o=some v):∃a,o=some a/\v=.lst a:=by
 cases o with
 | none=>cases h
 | some a=>exact ⟨a,rfl,(Option.some.inj h).symm⟩
theorem Zlh {o:Option C}{xs:List V}(h:cL o=some xs):o=some (.list xs):=by
 cases o with
 | none=>cases h
 | some c=>
  cases c with
  | list ys=>exact congrArg (some ∘ C.list) (Option.some.inj h)
  | _=>cases h
theorem Zn5 {o:Option C}{xs:List (V×V)}(h:cD o=some xs):o=some (.dict xs):=by
 cases o with
 | none=>cases h
 | some c=>
  cases c with
  | dict ys=>exact congrArg (some ∘ C.dict) (Option.some.inj h)
  | _=>cases h
theorem ZoC {o:Option C}{t:Nat×List (Nat×V)}(h:cI o=some t):o=some (.inst t.1 t.2):=by
 cases o with
 | none=>cases h
 | some c=>
  cases c with
  | inst k fs=>rw [← Option.some.inj h]
  | _=>cases h
theorem ZoG {o:Option C}{k:Nat}(h:cE o=some k):o=some (.exc k):=by
 cases o with
 | none=>cases h
 | some c=>
  cases c with
  | exc k=>exact congrArg (some ∘ C.exc) (Option.some.inj h)
  | _=>cases h
theorem Zao {h:Heap}(R:RelH X W H h){v:Value}{x y:V}(r:VR X W v x)(e:see H x=some y):Sn X W h v y:=by
 cases r with
 | none=>cases e; exact .none
 | bool b=>cases e; exact .bool b
 | int i t=>cases e; exact .int i t
 | str s t o z=>cases e; exact .str s t o z
 | tup z r q=>cases e; exact .tup (R.z _ _ z) r q r.toArr
 | lst z r q=>cases e; exact .lst (R.z _ _ z) r q r.toArr
 | rng z p q c=>cases e; exact .rng (R.z _ _ z) p q c
 | ref hl=>
  obtain ⟨xs,e',rfl⟩:=Zns e
  obtain ⟨vs,n,g,r,_,z⟩:=R.at_ (Zlh e') hl
  exact .lst g r z r.toArr
 | _=>cases e
theorem vInt {v:V}{b:Int}(h:aInt v=some b):v=.int b:=by cases v <;> first | (cases h; rfl) | cases h
theorem ZbJ {v:Value}{x:V}{i:Int}(r:VR X W v x)(e:aInt x=some i){G:Prop}(g:∀t,v=.int i t->G):G:=by
 cases vInt e
 obtain ⟨t,e⟩:∃t,v=.int i t:=r.inv
 exact g t e
theorem vRef {v:V}{b:Nat}(h:aRef v=some b):v=.ref b:=by cases v <;> first | (cases h; rfl) | cases h
theorem Zfd {v:Value}{x:V}{i:Nat}(r:VR X W v x)(e:aRef x=some i){G:Prop}(g:∀l,v=.ref l.1->W.φ i=some l->x=.ref i->G):G:=by
 cases vRef e
 obtain ⟨l,e,hl⟩:∃l:Addr×Addr,v=.ref l.1/\_:=r.inv
 exact g l e hl rfl
section
variable {h:Heap}{v:Value}
theorem Sn.toInt {x:V}{i:Int}(r:Sn X W h v x)(e:aInt x=some i):∃t,v=.int i t:=by
 cases r with
 | int i t=>exact ⟨t,Option.some.inj e▸rfl⟩
 | _=>cases e
theorem Sn.toStr {x:V}{s:Str}(r:Sn X W h v x)(e:aStr x=some s):∃t,v=.str s t/\PyData.strOk s=true/\s.length<=SZ:=by
 cases r with
 | str s t o z=>cases e; exact ⟨t,rfl,o,z⟩
 | _=>cases e
theorem Sn.toBool {x:V}{b:Bool}(r:Sn X W h v x)(e:aBool x=some b):v=.bool b:=by
 cases r with
 | bool b=>cases e; rfl
 | _=>cases e
inductive SqL (X:Cx)(W:Wd)(h:Heap)(v:Value)(xs:List V):Prop
 | mk (a:Addr) (vs:Array Value) (n:Nat) (e:v=.ref a) (g:h.get? a=some (lstO vs n)) (r:VRs X W vs.toList xs) (q:xs.length<=SZ) (z:vs.size=xs.length)
inductive SqT (X:Cx)(W:Wd)(h:Heap)(v:Value)(xs:List V):Prop
 | mk (a:Addr) (vs:Array Value) (n:Nat) (e:v=.ref a) (g:h.get? a=some (tupO vs n)) (r:VRs X W vs.toList xs) (q:xs.length<=SZ) (z:vs.size=xs.length)
theorem Sn.toLst {x:V}{xs:List V}(r:Sn X W h v x)(e:aLst x=some xs):SqL X W h v xs:=by
 cases r with
 | lst g r q z=>cases e; exact ⟨_,_,_,rfl,g,r,q,z⟩
 | _=>cases e
theorem Sn.toTup {x:V}{xs:List V}(r:Sn X W h v x)(e:aTup x=some xs):SqT X W h v xs:=by
 cases r with
 | tup g r q z=>cases e; exact ⟨_,_,_,rfl,g,r,q,z⟩
 | _=>cases e
end
theorem sz63 {n:Nat}(h:n<=SZ):(n:Int) < 2 ^ 63:=Int.lt_of_le_of_lt (Int.ofNat_le.mpr h) (by decide)
theorem szLine {n:Nat}(h:n<=SZ):n<=sizeLine:=Nat.le_trans h (by decide)
theorem Zam {h:Heap}{a:Addr}{vs:Array Value}{n:Nat}(e:h.get? a=some (lstO vs n)):h.IsList a vs:=⟨_,e,rfl,_,rfl⟩
theorem ZaN {h:Heap}{a:Addr}{vs:Array Value}{n:Nat}(e:h.get? a=some (tupO vs n)):IsTup h a vs:=⟨_,e,rfl,_,rfl⟩
end
section
variable {A:Around}{W:Wd}{H:Hp}{s:Shared}{E:Value->Shared->Prop}
noncomputable def Res (X:Cx)(fz:Bool)(H:Hp)(r:LV)(v:Value)(W':Wd)(H':Hp):Prop:=match r with
 | .val x=>VR X W' v x/\H'=H
 | .newList xs=>match fz with
  | true=>VR X W' v (.lst xs)/\H'=H
  | false=>VR X W' v (.ref H.next)/\H'=H.new (.list xs)
structure OpQ (X:Cx)(fz:Bool)(W:Wd)(H:Hp)(s:Shared)(k:LV->Prop)(Q:Value->Shared->Prop):Prop where
 out:∀r v' s' W' H',Tc X W H s W' H' s'->Res X fz H r v' W' H'->k r->Q v' s'
 sz:∀xs,k (.newList xs)->xs.length<=SZ
section
variable {fz:Bool}{k:LV->Prop}{Q:Value->Shared->Prop}(o:OpQ X fz W H s k Q)(R:RelH X W H s.heap)
include o R
theorem OpQ.val {x:V}{v:Value}{tk:Nat}(hv:VR X W v x)(h:k (.val x)):Q v { s with toks:=tk }:=o.out (.val x) v _ W H ⟨.refl,R,⟨rfl,rfl,rfl⟩⟩ ⟨hv,rfl⟩ h
theorem OpQ.more {x:V}{v:Value}{h':Heap}{tk:Nat}(hk:∀b ob,s.heap.get? b=some ob->h'.get? b=some ob)(hv:VR X W v x)(h:k (.val x)):Q v { s with heap:=h',toks:=tk }:=
 o.out (.val x) v _ W H ⟨.quiet (fun a o q ø=>hk a o q) fun a o q=>⟨o,hk a o q⟩,R.quiet (Pv:=noPv) (fun a o q ø=>hk a o q) fun ø z=>z.elim,⟨rfl,rfl,rfl⟩⟩ ⟨hv,rfl⟩ h
theorem OpQ.list {vs:Array Value}{n:Nat}{xs:List V}{h':Heap}{tk:Nat}{a:Addr}(hv:VRs X W vs.toList xs)(hk:∀b ob,s.heap.get? b=some ob->h'.get? b=some ob)(hn:s.heap.get? a=none)(ha:h'.get? a=some (lstO vs n))(h:k (.newList xs)):Q (.ref a) { s with heap:=h',toks:=tk }:=by
 have hz:=o.sz _ h
 cases fz with
 | true=>exact o.out (.newList xs) _ _ _ _ (Tc.frozen R hk hn ha) ⟨.lst Zbr (hv.le (R.leZ hn)) hz,rfl⟩ h
 | false=>
  obtain ⟨r,t⟩:=R.fresh (l:=(a,a)) (c:=.list xs) hk hn hn ⟨vs,n,ha,hv.le R.leF,rfl,hz⟩
  exact o.out (.newList xs) _ _ _ _ ⟨t,r,⟨rfl,rfl,rfl⟩⟩ ⟨VR.ref (l:=(a,a)) Zbh,rfl⟩ h
theorem OpQ.push {vs:Array Value}{n:Nat}{xs:List V}{tk:Nat}(hv:VRs X W vs.toList xs)(h:k (.newList xs)):Q (.ref s.heap.objs.size) { s with heap:=s.heap.push (lstO vs n),toks:=tk }:=
 o.list R hv (fun ø ø e=>Heap.get?_push_of_some _ e) (Zag _) (Heap.get?_push_size _ rfl) h
theorem OpQ.fro {x:V}{ob:Obj}{h':Heap}{tk:Nat}{a:Addr}(hk:∀b ob,s.heap.get? b=some ob->h'.get? b=some ob)(hn:s.heap.get? a=none)(ha:h'.get? a=some ob)(hv:VR X (W.addZ a ob) (.ref a) x)(h:k (.val x)):Q (.ref a) { s with heap:=h',toks:=tk }:=
 o.out (.val x) _ _ _ _ (Tc.frozen R hk hn ha) ⟨hv,rfl⟩ h
end
theorem Zb1 {a b:Str}(ha:PyData.strOk a=true)(hb:PyData.strOk b=true):PyData.strOk (a++b)=true:=by
 unfold PyData.strOk at *
 rw [Array.all_eq_true] at *
 rw [show (a++b).cps=a.cps++b.cps from rfl]
 intro i hi
 rw [Array.getElem_append]
 split
 ·exact ha i _
 ·exact hb _ _
theorem Zc5 (a b:Str):(a++b).length=a.length+b.length:=by
 show (a.cps++b.cps).size=_
 rw [Array.size_append]; rfl
theorem Zcq {vs:Array Value}{xs:List V}(z:vs.size=xs.length):vs.isEmpty=xs.isEmpty:=by
 show decide (vs.size=0)=_
 rw [z]
 cases xs <;> rfl
theorem Zc2 {i:Int}:decide (i≠0)=(i != 0):=by
 by_cases h:i=0
 ·subst h; rfl
 ·rw [decide_eq_true h]; exact (bne_iff_ne.mpr h).symm
theorem Zcb {v:Value}{x y:V}{k:Bool->Prop}{Q:Bool->Shared->Prop}(R:RelH X W H s.heap)(hv:VR X W v x)(e:truK H x k)(h:∀b tk,k b->Q b { s with toks:=tk }):wpAny (model X.prog X.w) A (truthy v) Q E s:=by
 refine Zab e fun y ey e=>?_
 cases Zao R hv ey with
 | none=>exact truthy_none (h _ s.toks e)
 | bool c=>exact wpAny_truthy_bool (h _ s.toks e)
 | int i t=>exact truthy_int (Zc2▸h _ s.toks e)
 | str t u ok z=>
  refine P.truthy_str (Int.not_le.mpr (sz63 z)) ?_
  have:(decide (t.length≠0))=(((t.length:Nat):Int) != 0):=by rw [← Zc2]; exact decide_eq_decide.mpr ⟨fun a z=>a (lb5 z),fun a z=>a (congrArg Nat.cast z)⟩
  exact this▸h _ (s.toks+1+1) e
 | tup g r q z=>
  refine truthy_tuple (ZaN g) (by rw [z]; exact sz63 q) ?_
  rw [Zcq z]; exact h _ _ e
 | lst g r q z=>
  refine wpAny_truthy_list (Zam g) (by rw [z]; exact sz63 q) ?_
  rw [Zcq z]; exact h _ _ e
 | _=>exact e.elim
theorem nsome {α:Type}{a:α}{p:Prop}(h:(none:Option α)=some a):p:=by cases h
theorem ZjH (items:Array Value)(k:Nat):∀acc:Array Value,(List.foldl (fun x1 x2=>x1++x2) acc (List.replicate k items)).toList=acc.toList++(List.replicate k items.toList).flatten:=by
 induction k with
 | zero=>intro acc; simp
 | succ k ih=>intro acc; rw [List.replicate_succ,List.foldl_cons,ih,List.replicate_succ,List.flatten_cons,Array.toList_append,List.append_assoc]
theorem VRs.rep {vs:List Value}{xs:List V}(h:VRs X W vs xs)(k:Nat):VRs X W (List.replicate k vs).flatten (repL xs k):=by
 induction k with
 | zero=>exact .nil
 | succ k ih=>rw [List.replicate_succ,List.flatten_cons]; exact h.append ih
theorem Zkc (k:Nat):repL [] k=[]:=by
 induction k with
 | zero=>rfl
 | succ k ih=>exact ih
theorem Zhd (x:Str)(k:Nat):∀acc:Array Nat,(List.replicate k x.cps).foldl (·++·) acc=acc++(repS x k).cps:=by
 induction k with
 | zero=>intro acc; show acc=acc++#[]; rw [Array.append_empty]
 | succ k ih=>intro acc; rw [List.replicate_succ,List.foldl_cons,ih,Array.append_assoc]; rfl
theorem ZiD (x:Str)(k:Nat):(repS x k).length=x.length * k:=by
 induction k with
 | zero=>rfl
 | succ k ih=>rw [show repS x (k+1)=x++repS x k from rfl,Zc5,ih,Nat.mul_succ,Nat.add_comm]
theorem Zk4 {x:Str}(h:PyData.strOk x=true)(k:Nat):PyData.strOk (repS x k)=true:=by
 induction k with
 | zero=>exact (by decide+kernel:PyData.strOk Str.empty=true)
 | succ k ih=>exact Zb1 h ih
theorem Zdq {a b:Str}(h:a.cps=b.cps):a=b:=by cases a; cases b; exact congrArg Str.mk h
theorem Zh4 {x:Str}(h:x.length=0)(k:Nat):repS x k=x:=by
 have e:x.cps=#[]:=Array.eq_empty_of_size_eq_zero h
 induction k with
 | zero=>exact (Zdq e).symm
 | succ k ih=>
  show x++repS x k=x
  rw [ih]
  apply Zdq
  show x.cps++x.cps=x.cps
  rw [e]; rfl
theorem ZkY {x:Str}{n:Int}(h:0<=n):Txt.mul x n=repS x n.toNat:=by
 unfold Txt.mul
 by_cases h1:n < 1
 ·rw [if_pos h1,show n.toNat=0 by exact Nat.le_antisymm (Nat.le_of_lt_succ (la6 (⟨h,h1⟩))) (lc3 (lb5 rfl) (Nat.zero_le _))]; rfl
 ·rw [if_neg h1]
  by_cases h2:(n==1 || x.length==0)=true
  ·rw [if_pos h2]
   rcases Bool.or_eq_true_iff.mp h2 with q | q
   ·rw [beq_iff_eq.mp q]; exact (Zdq (by show x.cps++#[]=x.cps; rw [Array.append_empty])).symm
   ·exact (Zh4 (beq_iff_eq.mp q) _).symm
  ·rw [if_neg h2]; exact Zdq ((Zhd x n.toNat #[]).trans (Array.empty_append ..))
theorem Zgn {i:Str}{t u:Tok}{n:Int}{fz:Bool}{k:LV->Prop}{Q:Value->Shared->Prop}(o:OpQ X fz W H s k Q)(R:RelH X W H s.heap)(o1:PyData.strOk i=true)(e:Nd (0<=n/\n<=1048576/\i.length * n.toNat<=SZ) (k (.val (.str (repS i n.toNat))))):
  wpAny (model X.prog X.w) A (binaryOp .Mult (.str i t) (.int n u)) Q E s:=by
 obtain ⟨⟨h0,h1,h2⟩,e⟩:=e
 refine SB.mul ⟨by rw [decide_eq_false (Int.not_lt.mpr (Int.le_trans (by decide) h0)),decide_eq_false (Int.not_le.mpr (Int.lt_of_le_of_lt h1 (by decide)))]; rfl,fun hn ø q=>?_,fun ø ø=>?_⟩ fun t' k=>by
  rw [ZkY h0]; exact o.val R (.str _ _ (Zk4 o1 _) (by rw [ZiD]; exact h2)) e
 ·have hl:i.length<=SZ:=Nat.le_trans (Nat.le_mul_of_pos_right _ (Int.lt_toNat.mpr (Int.not_lt.mp hn))) h2
  have:(2 ^ 63 - 1:Int) / 1048576<=(2 ^ 63 - 1) / n:=by
   rw [Int.le_ediv_iff_mul_le (show (0:Int) < n from Int.not_lt.mp hn)]
   exact Int.le_trans (Int.mul_le_mul_of_nonneg_left h1 (by decide)) (by decide)
  have h3:(1048576:Int)<=(2 ^ 63 - 1) / 1048576:=by decide
  unfold SZ at hl
  exact lb4 q (Int.le_trans (ld2 hl) (Int.le_trans h3 this))
 ·unfold Builtin.Str.tooLong
  exact decide_eq_false (Nat.not_lt.mpr (szLine h2))
section
variable {a b:Value}{x y:V}{fz:Bool}{k:LV->Prop}{Q:Value->Shared->Prop}(o:OpQ X fz W H s k Q)(R:RelH X W H s.heap)(ha:Sn X W s.heap a x)(hb:Sn X W s.heap b y)
include o R ha hb
theorem ZmH (e:addK x y k):wpAny (model X.prog X.w) A (binaryOp .Add a b) Q E s:=by
 cases ha with
 | int i t=>exact Zab e fun j ej e=>(hb.toInt ej).elim fun u q=>q▸add_int (o.val R (.int ..) e)
 | str i t o1 z1=>exact Zab e fun j ej e=>(hb.toStr ej).elim fun u q=>q.1▸PyProof.Rows.add_str (fun t' tk=>o.val R (.str _ _ (Zb1 o1 q.2.1) (by rw [Zc5]; exact e.1)) e.2) (szLine e.1)
 | @lst l vs n xs g r q z=>
  refine Zab e fun ys ey e=>?_
  obtain ⟨l2,vs2,n2,rfl,g2,r2,q2,z2⟩:=hb.toLst ey
  have hz':vs.size+vs2.size<=sizeLine:=by rw [z,z2,← List.length_append]; exact szLine (o.sz _ e)
  exact concat_meets ⟨_,g,rfl⟩ ⟨_,g2,rfl⟩ noFill_list_add seq_list_add PySem.F.slot_list_add PySem.F.entry_list_add (PySem.F.args_list_add_2 _ _) (list_addW l l2 vs vs2 n n2 none none #[] #[] hz') ⟨g,g2,o.push (vs:=vs++vs2) R (by rw [Array.toList_append]; exact r.append r2) e⟩
 | _=>exact e.elim
theorem ZmX (e:mulK x y k):wpAny (model X.prog X.w) A (binaryOp .Mult a b) Q E s:=by
 cases ha with
 | int i t=>exact Zab e fun j ej e=>(hb.toInt ej).elim fun u q=>q▸PyProof.Rows.mul_int (o.val R (.int ..) e.2) (e.1.elim (fun h=>IntMulOk.of_left (intBits_le_64 (by exact Int.lt_of_lt_of_le (Int.lt_add_one_of_le (Int.le_refl _)) (lj8 (Nat.le_of_lt h) rfl)) (by exact lj9 (Nat.le_of_lt h) rfl))) fun h=>IntMulOk.of_right (intBits_le_64 (by exact Int.lt_of_lt_of_le (Int.lt_add_one_of_le (Int.le_refl _)) (lj8 (Nat.le_of_lt h) rfl)) (by exact lj9 (Nat.le_of_lt h) rfl)))
 | @lst l vs n xs hl hv q z=>
  refine Zab e fun i ei e=>(hb.toInt ei).elim fun u eu=>?_
  subst eu
  obtain ⟨⟨h0,h01,h1⟩,e⟩:=e
  have hs:vs.size * i.toNat<=1048576:=by rw [z]; exact h1
  refine wpAny_binaryOp_repeat_ref (T:="list") (U:="int") (by decide) ⟨_,hl,rfl⟩ (fun s'=>typeIs_int s' i u) noFill_list_mul PySem.F.fills_int_mul PySem.F.slot_int_rmul repeat_list PySem.F.slot_int_index.lookup
   (call_meets PySem.F.slot_int_rmul (typeIs_int s i u) PySem.F.entry_int_rmul (PySem.F.args_int_rmul_2 _ _) (int___rmul___int_list i u l vs n)
    ⟨hl,rfl,⟨_,hl,rfl⟩,call_meets PySem.F.slot_list_mul ⟨_,hl,rfl⟩ PySem.F.entry_list_mul (PySem.F.args_list_mul_2 _ _)
     (AutoListH.list___mul___list_int_3 l vs n i u (by simp [Builtin.List.listFitsIndex]; exact ⟨Int.le_trans (by decide) h0,Int.lt_of_le_of_lt h01 (by decide)⟩) (by exact fun zz=>lb3 zz (lc7 hs rfl)) (by simp [Builtin.List.listTooLong,sizeLine]; lia)) ⟨hl, ?_⟩⟩)
  refine o.push R (xs:=repL xs i.toNat) ?_ e
  rw [ZjH]
  by_cases c:vs.isEmpty=true
  ·rw [if_pos c]
   have:vs=#[]:=Array.isEmpty_iff.mp c
   subst this
   cases hv
   rw [Zkc]
   exact .nil
  ·rw [if_neg c]
   exact hv.rep i.toNat
 | str i t o1 z1=>exact Zab e fun n en e=>(hb.toInt en).elim fun u q=>q▸Zgn o R o1 e
 | _=>exact e.elim
theorem ZlO {op:BOp}(e:binK op x y k):wpAny (model X.prog X.w) A (binaryOp (opOf op) a b) Q E s:=by
 cases op with
 | add=>exact ZmH o R ha hb e
 | mul=>exact ZmX o R ha hb e
 | bor=>exact e.elim
 | sub=>exact Zab e fun i ei e=>Zab e fun j ej e=>(ha.toInt ei).elim fun t q=>(hb.toInt ej).elim fun u q'=>q▸q'▸sub_int (o.val R (.int ..) e)
 | fdiv=>exact Zab e fun i ei e=>Zab e fun j ej e=>(ha.toInt ei).elim fun t q=>(hb.toInt ej).elim fun u q'=>q▸q'▸floordiv_int e.1.1 (o.val R (.int ..) e.2) (.inl (PyProof.noPylong_small (Nat.lt_of_lt_of_le e.1.2 (by decide))))
 | mod=>exact Zab e fun i ei e=>Zab e fun j ej e=>(ha.toInt ei).elim fun t q=>(hb.toInt ej).elim fun u q'=>q▸q'▸mod_int' e.1 (o.val R (.int ..) e.2)
 | pow=>exact e.elim
end
end
mutual
noncomputable def toPy:V->PyData
 | .bool b=>.bool b
 | .int i=>.int i
 | .str s=>.str s
 | .tup xs=>.tuple (toPys xs)
 | .lst xs=>.list (toPys xs)
 | _=>.none
noncomputable def toPys:List V->List PyData
 | []=>[]
 | x::r=>toPy x::toPys r
end
mutual
noncomputable def isD:V->Bool
 | .none=>true
 | .bool _=>true
 | .int _=>true
 | .str _=>true
 | .tup xs=>isDs xs
 | .lst xs=>isDs xs
 | _=>false
noncomputable def isDs:List V->Bool
 | []=>true
 | x::r=>isD x&&isDs r
end
theorem ZcC {α:Type} [DecidableEq α]{a b:α}:(a==b)=decide (a=b):=by
 by_cases h:a=b
 ·rw [decide_eq_true h,h]; exact beq_self_eq_true _
 ·rw [decide_eq_false h]; exact beq_false_of_ne h
mutual
theorem ZdN:∀x y:V,isD x=true->isD y=true->eqD x y=PyData.eqv (toPy x) (toPy y)
 | .none,y,_,h=>by cases y <;> first | rfl | cases h
 | .bool a,y,_,h=>by cases y <;> first | rfl | exact ZcC.symm | (cases a <;> exact ZcC.symm) | (cases h; done)
 | .int a,y,_,h=>by cases y <;> first | rfl | exact ZcC.symm | (rename_i b; cases b <;> exact ZcC.symm) | (cases h; done)
 | .str a,y,_,h=>by cases y <;> first | rfl | exact ZcC.symm | cases h
 | .tup a,y,hx,h=>by cases y <;> first | exact Zdu a _ hx h | rfl | cases h
 | .lst a,y,hx,h=>by cases y <;> first | exact Zdu a _ hx h | rfl | cases h
 | .rng _ _ _,_,h,_=>by cases h
 | .ref _,_,h,_=>by cases h
 | .bt _,_,h,_=>by cases h
 | .fn _,_,h,_=>by cases h
 | .cls _,_,h,_=>by cases h
theorem Zdu:∀x y:List V,isDs x=true->isDs y=true->eqDs x y=PyData.eqvAll (toPys x) (toPys y)
 | [],y,_,_=>by cases y <;> rfl
 | a::r,y,hx,hy=>by
  cases y with
  | nil=>rfl
  | cons b t=>
   have hx:=Bool.and_eq_true_iff.mp hx
   have hy:=Bool.and_eq_true_iff.mp hy
   exact (congrArg (·&&eqDs r t) (ZdN a b hx.1 hy.1)).trans (congrArg (PyData.eqv (toPy a) (toPy b)&&·) (Zdu r t hx.2 hy.2))
end
theorem ZdR {h:Heap}{a:Addr}{vs:Array Value}{n:Nat}{xs:List PyData}{as:List Addr}(e:h.get? a=some (tupO vs n))(r:ReadsAll h vs.toList xs as):Reads h (.ref a) (.tuple xs) as:=.tuple e rfl rfl r
theorem ZbK {h:Heap}{a:Addr}{vs:Array Value}{n:Nat}{xs:List PyData}{as:List Addr}(e:h.get? a=some (lstO vs n))(r:ReadsAll h vs.toList xs as):Reads h (.ref a) (.list xs) (a::as):=.list e rfl rfl r
section
variable {W:Wd}{H:Hp}{h:Heap}
inductive Dt (h:Heap)(n:Nat)(v:Value)(y:V):Prop
 | mk (as:List Addr) (rd:Reads h v (toPy y) as) (lay:(toPy y).canLay0=true) (dp:(toPy y).depth<=n) (d:isD y=true)
inductive Dts (h:Heap)(n:Nat)(vs:List Value)(ys:List V):Prop
 | mk (as:List Addr) (rd:ReadsAll h vs (toPys ys) as) (lay:PyData.canLayAll0 (toPys ys)=true) (dp:PyData.depthAll (toPys ys)<=n) (d:isDs ys=true)
theorem Zfx {f:V->Option V}{x:V}{r ys:List V}{G:Prop}(h:deepL f (x::r)=some ys)(g:∀y zs,f x=some y->deepL f r=some zs->ys=y::zs->G):G:=by
 have h:(match f x with | some y=>(match deepL f r with | some ys=>some (y::ys) | none=>none) | none=>none)=some ys:=h
 generalize f x=p at h g
 cases p with
 | none=>cases h
 | some v=>
  generalize deepL f r=q at h g
  cases q with
  | none=>cases h
  | some ws=>exact g v ws rfl rfl (Option.some.inj h).symm
theorem Zbv {f:V->Option V}{n:Nat}(hf:∀v x y,VR X W v x->f x=some y->Dt h n v y){vs:List Value}{xs:List V}(r:VRs X W vs xs){ys:List V}(e:deepL f xs=some ys):Dts h n vs ys:=
 VRs.ind (p:=fun vs xs=>∀ys,deepL f xs=some ys->Dts h n vs ys) (fun ys e=>Option.some.inj e▸⟨[],.nil,rfl,Nat.zero_le _,rfl⟩) (fun a ø ih ys e=>Zfx e fun y zs ey ez ee=>by
  subst ee
  obtain ⟨as,ra,la,da,ia⟩:=hf _ _ _ a ey
  obtain ⟨bs,rb,lb,db,ib⟩:=ih _ ez
  exact ⟨as++bs,.cons ra rb,Bool.and_eq_true_iff.mpr ⟨la,lb⟩,Nat.max_le.mpr ⟨da,db⟩,Bool.and_eq_true_iff.mpr ⟨ia,ib⟩⟩) r ys e
theorem Zou {o:Option (List V)}{v:V}(h:mT o=some v):∃a,o=some a/\v=.tup a:=by
 cases o with
 | none=>cases h
 | some a=>exact ⟨a,rfl,(Option.some.inj h).symm⟩
theorem ZjE {n:Nat}{a:Addr}{vs:Array Value}{k:Nat}{ys:List V}(g:h.get? a=some (lstO vs k))(B:Dts h n vs.toList ys):Dt h (n+1) (.ref a) (.lst ys):=by
 obtain ⟨as,rb,l,d,i⟩:=B
 exact ⟨_,ZbK g rb,l,Nat.succ_le_succ d,i⟩
theorem ZaF (R:RelH X W H h)(n:Nat):∀(v:Value) (x y:V),VR X W v x->deepN H n x=some y->Dt h n v y:=by
 induction n with
 | zero=>
  intro v x y r e
  cases r with
  | none=>cases e; exact ⟨_,.none,rfl,Nat.zero_le _,rfl⟩
  | bool b=>cases e; exact ⟨_,.bool b,rfl,Nat.zero_le _,rfl⟩
  | int i t=>cases e; exact ⟨_,.int i t,rfl,Nat.zero_le _,rfl⟩
  | str s t o z=>cases e; exact ⟨_,.str s t,o,Nat.zero_le _,rfl⟩
  | _=>cases e
 | succ n ih=>
  intro v x y r e
  cases r with
  | none=>cases e; exact ⟨_,.none,rfl,Nat.zero_le _,rfl⟩
  | bool b=>cases e; exact ⟨_,.bool b,rfl,Nat.zero_le _,rfl⟩
  | int i t=>cases e; exact ⟨_,.int i t,rfl,Nat.zero_le _,rfl⟩
  | str s t o z=>cases e; exact ⟨_,.str s t,o,Nat.zero_le _,rfl⟩
  | tup z r q=>
   obtain ⟨ys,ey,rfl⟩:=Zou e
   obtain ⟨as,rb,l,d,i⟩:=Zbv ih r ey
   exact ⟨_,ZdR (R.z _ _ z) rb,l,Nat.succ_le_succ d,i⟩
  | lst z r q=>
   obtain ⟨ys,ey,rfl⟩:=Zns e
   exact ZjE (R.z _ _ z) (Zbv ih r ey)
  | @ref i l hl=>
   have e:bindL (cL (H.get i)) (fun xs=>mL (deepL (deepN H n) xs))=some y:=e
   cases ec:cL (H.get i) with
   | none=>rw [ec] at e; cases e
   | some xs=>
    rw [ec] at e
    obtain ⟨ys,ey,rfl⟩:=Zns e
    obtain ⟨vs,k,g,r,_,_⟩:=R.at_ (Zlh ec) hl
    exact ZjE g (Zbv ih r ey)
  | _=>cases e
end
noncomputable def Room (A:Around):Prop:=A.units+80 < cLine
section
variable {A:Around}{W:Wd}{H:Hp}{s:Shared}{E:Value->Shared->Prop}{a b:Value}{x y:V}{k:Bool->Prop}{Q:Value->Shared->Prop}(R:RelH X W H s.heap)(hu:Room A)(ha:VR X W a x)(hb:VR X W b y)(h:∀r tk,k r->Q (.bool r) { s with toks:=tk })
include R hu ha h
theorem Zi9 {vs:Array Value}{xs:List V}(hv:VRs X W vs.toList xs)(e:cmpK.anyK H x xs k){G:Prop}(g:∀as bs d ds,Reads s.heap a d as->ReadsAll s.heap vs.toList ds bs->d.canLay0=true->PyData.canLayAll0 ds=true->A.units+1+min (PyData.depthAll ds) d.depth < cLine->k (ds.any fun y=>PyData.eqv y d)->G):G:=by
 refine Zab e fun u eu e=>Zab e fun v ev e=>?_
 obtain ⟨as,ra,la,da,ia⟩:=ZaF R _ _ _ _ ha eu
 obtain ⟨bs,rb,lb,db,ib⟩:=Zbv (ZaF R 11) hv ev
 have hd:(v.any fun z=>eqD z u)=((toPys v).any fun y=>PyData.eqv y (toPy u)):=by
  clear rb ev lb db e
  induction v with
  | nil=>rfl
  | cons z zs ih=>
   have ib:=Bool.and_eq_true_iff.mp ib
   rw [List.any_cons,ih ib.2,ZdN z u ib.1 ia]; rfl
 refine g as bs _ _ ra rb la lb ?_ (hd▸e)
 have:min (PyData.depthAll (toPys v)) (toPy u).depth<=12:=Nat.le_trans (Nat.min_le_right _ _) da
 unfold Room at hu; exact lk4 this hu rfl
include hb
theorem Znq (e:cmpK H .eq x y k):wpAny (model X.prog X.w) A (compareOp .Eq a b) Q E s:=by
 refine Zab e fun u eu e=>Zab e fun v ev e=>?_
 obtain ⟨as,ra,la,da,ia⟩:=ZaF R _ _ _ _ ha eu
 obtain ⟨bs,rb,lb,db,ib⟩:=ZaF R _ _ _ _ hb ev
 refine SeqAt.compareEq_reads ra rb la lb ?_ ?_
 ·unfold Room at hu; exact lk5 (Nat.le_trans (Nat.min_le_left ..) da) hu rfl
 ·rw [← ZdN _ _ ia ib]; exact h _ s.toks e
theorem Zne (e:cmpK H .ne x y k):wpAny (model X.prog X.w) A (compareOp .NotEq a b) Q E s:=by
 refine Zab e fun u eu e=>Zab e fun v ev e=>?_
 obtain ⟨as,ra,la,da,ia⟩:=ZaF R _ _ _ _ ha eu
 obtain ⟨bs,rb,lb,db,ib⟩:=ZaF R _ _ _ _ hb ev
 refine ne_dataH ra rb ?_ ?_ ?_ ?_
 ·simp [SeqAt.shaped,la]; exact la7 da rfl
 ·simp [SeqAt.shaped,lb]; exact la7 db rfl
 ·unfold Room at hu; exact lk5 (Nat.le_refl 64) hu rfl
 ·rw [← ZdN _ _ ia ib]; exact h _ s.toks e
end
noncomputable abbrev prO (a b:Int)(t u:Tok)(n:Nat):Obj:={ cls:=.type "tuple",data:=.seq #[.int a t,.int b u] n }
section
variable {A:Around}{s:Shared}{E:Value->Shared->Prop}
theorem ZeQ {k:Int->Int->Bool}{z:Bool}{a b c d:Int}{p:Bool->Prop}(h:p (prI k z a b c d)):(a≠c->p (k a c))/\(a=c->b≠d->p (k b d))/\(a=c->b=d->p z):=by
 unfold prI at h
 refine ⟨fun e=>?_,fun e e'=>?_,fun e e'=>?_⟩
 ·rw [decide_eq_false e] at h; exact h
 ·rw [decide_eq_true e,decide_eq_false e'] at h; exact h
 ·rw [decide_eq_true e,decide_eq_true e'] at h; exact h
theorem Zkn {x y:Addr}{n m:Nat}{a b c d:Int}{t1 t2 t3 t4:Tok}{Q:Value->Shared->Prop}(hu:A.units < cLine)(hx:s.heap.get? x=some (prO a b t1 t2 n))(hy:s.heap.get? y=some (prO c d t3 t4 m))
  (h:Q (.bool (prI (fun i j=>decide (j < i)) false a b c d)) s):wpAny (model X.prog X.w) A (compareOp .Gt (.ref x) (.ref y)) Q E s:=by
 show wpAny _ _ (richCompare .Gt (.ref x) (.ref y)) Q E s
 refine wpAny_richCompare_same_room (op:=.Gt) (T:="tuple") ⟨_,hx,rfl⟩ ⟨_,hy,rfl⟩ PySem.F.slot_tuple_gt ?_ hu
 refine wpAny_call_entry PySem.F.slot_tuple_gt ⟨_,hx,rfl⟩ PySem.F.entry_tuple_gt ?_ (PySem.F.args_tuple_gt_2 _ _)
 show wpAny _ _ (isInstance (.ref y) (.type "tuple") >>= _) _ _ s
 refine wpAny_bind (wpAny_isInstance (T:="tuple") ⟨_,hy,rfl⟩ isSubtype_tuple_tuple ?_)
 simp only [Bool.not_true,Bool.false_eq_true,if_false]
 refine wpAny_bind (wpAny_tupleItemsOf hx rfl (wpAny_bind (wpAny_tupleItemsOf hy rfl ?_)))
 obtain ⟨h1,h2,h3⟩:=ZeQ (p:=fun v=>Q (.bool v) s) h
 refine wpAny_bind ?_
 rw [show (#[Value.int a t1,Value.int b t2].toList.zip #[Value.int c t3,Value.int d t4].toList)=[(Value.int a t1,Value.int c t3),(Value.int b t2,Value.int d t4)] from rfl,List.forIn_cons]
 refine wpAny_bind (wpAny_bind ((intKind X.prog X.w).eqBool (a:=a) (b:=c) (intKind_is _ _ _ _) (intKind_is _ _ _ _) ?_))
 by_cases e:a=c
 ·rw [decide_eq_true e]
  refine wpAny_pure ?_
  show wpAny _ _ (forIn [(Value.int b t2,Value.int d t4)] _ _) _ _ s
  rw [List.forIn_cons]
  refine wpAny_bind (wpAny_bind ((intKind X.prog X.w).eqBool (a:=b) (b:=d) (intKind_is _ _ _ _) (intKind_is _ _ _ _) ?_))
  by_cases e':b=d
  ·rw [decide_eq_true e']
   exact wpAny_pure (wpAny_pure (wpAny_pure ⟨_,rfl,(nomatch ·),h3 e e'⟩))
  ·rw [decide_eq_false e']
   exact wpAny_bind (wpAny_rule (wpAny_bind (PyProof.Rows.gt_int (wpAny_bind (wpAny_pure (wpAny_pure (wpAny_pure (wpAny_pure ⟨_,rfl,(nomatch ·),h2 e e'⟩))))))))
 ·rw [decide_eq_false e]
  exact wpAny_bind (wpAny_rule (wpAny_bind (PyProof.Rows.gt_int (wpAny_bind (wpAny_pure (wpAny_pure (wpAny_pure (wpAny_pure ⟨_,rfl,(nomatch ·),h1 e⟩))))))))
theorem ZkS {x y:Addr}{n m:Nat}{a b c d:Int}{t1 t2 t3 t4:Tok}{Q:Value->Shared->Prop}(hu:A.units < cLine)(hx:s.heap.get? x=some (prO a b t1 t2 n))(hy:s.heap.get? y=some (prO c d t3 t4 m))
  (h:Q (.bool (prI (fun i j=>decide (j<=i)) true a b c d)) s):wpAny (model X.prog X.w) A (compareOp .GtE (.ref x) (.ref y)) Q E s:=by
 show wpAny _ _ (richCompare .GtE (.ref x) (.ref y)) Q E s
 refine wpAny_richCompare_same_room (op:=.GtE) (T:="tuple") ⟨_,hx,rfl⟩ ⟨_,hy,rfl⟩ PySem.F.slot_tuple_ge ?_ hu
 refine wpAny_call_entry PySem.F.slot_tuple_ge ⟨_,hx,rfl⟩ PySem.F.entry_tuple_ge ?_ (PySem.F.args_tuple_ge_2 _ _)
 show wpAny _ _ (isInstance (.ref y) (.type "tuple") >>= _) _ _ s
 refine wpAny_bind (wpAny_isInstance (T:="tuple") ⟨_,hy,rfl⟩ isSubtype_tuple_tuple ?_)
 simp only [Bool.not_true,Bool.false_eq_true,if_false]
 refine wpAny_bind (wpAny_tupleItemsOf hx rfl (wpAny_bind (wpAny_tupleItemsOf hy rfl ?_)))
 obtain ⟨h1,h2,h3⟩:=ZeQ (p:=fun v=>Q (.bool v) s) h
 refine wpAny_bind ?_
 rw [show (#[Value.int a t1,Value.int b t2].toList.zip #[Value.int c t3,Value.int d t4].toList)=[(Value.int a t1,Value.int c t3),(Value.int b t2,Value.int d t4)] from rfl,List.forIn_cons]
 refine wpAny_bind (wpAny_bind ((intKind X.prog X.w).eqBool (a:=a) (b:=c) (intKind_is _ _ _ _) (intKind_is _ _ _ _) ?_))
 by_cases e:a=c
 ·rw [decide_eq_true e]
  refine wpAny_pure ?_
  show wpAny _ _ (forIn [(Value.int b t2,Value.int d t4)] _ _) _ _ s
  rw [List.forIn_cons]
  refine wpAny_bind (wpAny_bind ((intKind X.prog X.w).eqBool (a:=b) (b:=d) (intKind_is _ _ _ _) (intKind_is _ _ _ _) ?_))
  by_cases e':b=d
  ·rw [decide_eq_true e']
   exact wpAny_pure (wpAny_pure (wpAny_pure ⟨_,rfl,(nomatch ·),h3 e e'⟩))
  ·rw [decide_eq_false e']
   exact wpAny_bind (wpAny_rule (wpAny_bind (PyProof.Rows.ge_int (wpAny_bind (wpAny_pure (wpAny_pure (wpAny_pure (wpAny_pure ⟨_,rfl,(nomatch ·),h2 e e'⟩))))))))
 ·rw [decide_eq_false e]
  exact wpAny_bind (wpAny_rule (wpAny_bind (PyProof.Rows.ge_int (wpAny_bind (wpAny_pure (wpAny_pure (wpAny_pure (wpAny_pure ⟨_,rfl,(nomatch ·),h1 e⟩))))))))
theorem Zla {x y:Addr}{n m:Nat}{a b c d:Int}{t1 t2 t3 t4:Tok}{Q:Value->Shared->Prop}(hu:A.units < cLine)(hx:s.heap.get? x=some (prO a b t1 t2 n))(hy:s.heap.get? y=some (prO c d t3 t4 m))
  (h:Q (.bool (prI (fun i j=>decide (i < j)) false a b c d)) s):wpAny (model X.prog X.w) A (compareOp .Lt (.ref x) (.ref y)) Q E s:=by
 show wpAny _ _ (richCompare .Lt (.ref x) (.ref y)) Q E s
 refine wpAny_richCompare_same_room (op:=.Lt) (T:="tuple") ⟨_,hx,rfl⟩ ⟨_,hy,rfl⟩ PySem.F.slot_tuple_lt ?_ hu
 refine wpAny_call_entry PySem.F.slot_tuple_lt ⟨_,hx,rfl⟩ PySem.F.entry_tuple_lt ?_ (PySem.F.args_tuple_lt_2 _ _)
 show wpAny _ _ (isInstance (.ref y) (.type "tuple") >>= _) _ _ s
 refine wpAny_bind (wpAny_isInstance (T:="tuple") ⟨_,hy,rfl⟩ isSubtype_tuple_tuple ?_)
 simp only [Bool.not_true,Bool.false_eq_true,if_false]
 refine wpAny_bind (wpAny_tupleItemsOf hx rfl (wpAny_bind (wpAny_tupleItemsOf hy rfl ?_)))
 obtain ⟨h1,h2,h3⟩:=ZeQ (p:=fun v=>Q (.bool v) s) h
 refine wpAny_bind ?_
 rw [show (#[Value.int a t1,Value.int b t2].toList.zip #[Value.int c t3,Value.int d t4].toList)=[(Value.int a t1,Value.int c t3),(Value.int b t2,Value.int d t4)] from rfl,List.forIn_cons]
 refine wpAny_bind (wpAny_bind ((intKind X.prog X.w).eqBool (a:=a) (b:=c) (intKind_is _ _ _ _) (intKind_is _ _ _ _) ?_))
 by_cases e:a=c
 ·rw [decide_eq_true e]
  refine wpAny_pure ?_
  show wpAny _ _ (forIn [(Value.int b t2,Value.int d t4)] _ _) _ _ s
  rw [List.forIn_cons]
  refine wpAny_bind (wpAny_bind ((intKind X.prog X.w).eqBool (a:=b) (b:=d) (intKind_is _ _ _ _) (intKind_is _ _ _ _) ?_))
  by_cases e':b=d
  ·rw [decide_eq_true e']
   exact wpAny_pure (wpAny_pure (wpAny_pure ⟨_,rfl,(nomatch ·),h3 e e'⟩))
  ·rw [decide_eq_false e']
   exact wpAny_bind (wpAny_rule (wpAny_bind (PyProof.Rows.lt_int (wpAny_bind (wpAny_pure (wpAny_pure (wpAny_pure (wpAny_pure ⟨_,rfl,(nomatch ·),h2 e e'⟩))))))))
 ·rw [decide_eq_false e]
  exact wpAny_bind (wpAny_rule (wpAny_bind (PyProof.Rows.lt_int (wpAny_bind (wpAny_pure (wpAny_pure (wpAny_pure (wpAny_pure ⟨_,rfl,(nomatch ·),h1 e⟩))))))))
theorem ZkJ {x y:Addr}{n m:Nat}{a b c d:Int}{t1 t2 t3 t4:Tok}{Q:Value->Shared->Prop}(hu:A.units < cLine)(hx:s.heap.get? x=some (prO a b t1 t2 n))(hy:s.heap.get? y=some (prO c d t3 t4 m))
  (h:Q (.bool (prI (fun i j=>decide (i<=j)) true a b c d)) s):wpAny (model X.prog X.w) A (compareOp .LtE (.ref x) (.ref y)) Q E s:=by
 show wpAny _ _ (richCompare .LtE (.ref x) (.ref y)) Q E s
 refine wpAny_richCompare_same_room (op:=.LtE) (T:="tuple") ⟨_,hx,rfl⟩ ⟨_,hy,rfl⟩ PySem.F.slot_tuple_le ?_ hu
 refine wpAny_call_entry PySem.F.slot_tuple_le ⟨_,hx,rfl⟩ PySem.F.entry_tuple_le ?_ (PySem.F.args_tuple_le_2 _ _)
 show wpAny _ _ (isInstance (.ref y) (.type "tuple") >>= _) _ _ s
 refine wpAny_bind (wpAny_isInstance (T:="tuple") ⟨_,hy,rfl⟩ isSubtype_tuple_tuple ?_)
 simp only [Bool.not_true,Bool.false_eq_true,if_false]
 refine wpAny_bind (wpAny_tupleItemsOf hx rfl (wpAny_bind (wpAny_tupleItemsOf hy rfl ?_)))
 obtain ⟨h1,h2,h3⟩:=ZeQ (p:=fun v=>Q (.bool v) s) h
 refine wpAny_bind ?_
 rw [show (#[Value.int a t1,Value.int b t2].toList.zip #[Value.int c t3,Value.int d t4].toList)=[(Value.int a t1,Value.int c t3),(Value.int b t2,Value.int d t4)] from rfl,List.forIn_cons]
 refine wpAny_bind (wpAny_bind ((intKind X.prog X.w).eqBool (a:=a) (b:=c) (intKind_is _ _ _ _) (intKind_is _ _ _ _) ?_))
 by_cases e:a=c
 ·rw [decide_eq_true e]
  refine wpAny_pure ?_
  show wpAny _ _ (forIn [(Value.int b t2,Value.int d t4)] _ _) _ _ s
  rw [List.forIn_cons]
  refine wpAny_bind (wpAny_bind ((intKind X.prog X.w).eqBool (a:=b) (b:=d) (intKind_is _ _ _ _) (intKind_is _ _ _ _) ?_))
  by_cases e':b=d
  ·rw [decide_eq_true e']
   exact wpAny_pure (wpAny_pure (wpAny_pure ⟨_,rfl,(nomatch ·),h3 e e'⟩))
  ·rw [decide_eq_false e']
   exact wpAny_bind (wpAny_rule (wpAny_bind (PyProof.Rows.le_int (wpAny_bind (wpAny_pure (wpAny_pure (wpAny_pure (wpAny_pure ⟨_,rfl,(nomatch ·),h2 e e'⟩))))))))
 ·rw [decide_eq_false e]
  exact wpAny_bind (wpAny_rule (wpAny_bind (PyProof.Rows.le_int (wpAny_bind (wpAny_pure (wpAny_pure (wpAny_pure (wpAny_pure ⟨_,rfl,(nomatch ·),h1 e⟩))))))))
end
section
variable {W:Wd}{es:List (Int×Value)}{kvs:List (V×V)}
theorem dKey {i j:Int}:eqD (.int j) (.int i)=decide (j=i):=rfl
theorem Zfp {i j:Int}{v:Value}:valueAt ((j,v)::es) i=cond (decide (j=i)) (some v) (valueAt es i):=by
 unfold valueAt
 rw [List.find?_cons]
 cases decide (j=i) <;> rfl
inductive DGv (X:Cx)(W:Wd):Option Value->Option V->Prop
 | none:DGv X W none none
 | some {v:Value} {x:V}:VR X W v x->DGv X W (some v) (some x)
theorem KVs.val {i:Int}(r:KVs X W es kvs):DGv X W (valueAt es i) (dGet kvs (.int i)):=by
 induction r with
 | nil=>exact .none
 | @cons j v x es kvs a r ih=>
  rw [Zfp]
  show DGv X W _ (cond (eqD (.int j) (.int i)) (some x) (dGet kvs (.int i)))
  rw [dKey]
  cases decide (j=i) with
  | true=>exact .some a
  | false=>exact ih
theorem KVs.any {i:Int}(r:KVs X W es kvs):(valueAt es i).isSome=(dKeys kvs).any fun z=>eqD z (.int i):=by
 induction r with
 | nil=>rfl
 | @cons j v x es kvs a r ih=>
  rw [Zfp]
  show _=(eqD (.int j) (.int i) || (dKeys kvs).any fun z=>eqD z (.int i))
  rw [dKey,← ih]
  cases decide (j=i) <;> rfl
theorem KVs.len (r:KVs X W es kvs):es.length=kvs.length:=by
 induction r with
 | nil=>rfl
 | cons a r ih=>exact congrArg (·+1) ih
theorem KVs.put {i:Int}{v:Value}{x:V}(hv:VR X W v x)(r:KVs X W es kvs)(hn:(es.map (·.1)).Nodup):KVs X W (stored es i v) (dSet kvs (.int i) x):=by
 induction r with
 | nil=>exact .cons hv .nil
 | @cons j u y es kvs a r ih=>
  rw [List.map_cons,List.nodup_cons] at hn
  show KVs X W _ (cond (eqD (.int j) (.int i)) ((.int j,x)::kvs) ((.int j,y)::dSet kvs (.int i) x))
  rw [dKey]
  unfold stored
  by_cases h:j=i
  ·subst h
   rw [List.any_cons,decide_eq_true rfl,List.map_cons,if_pos rfl,map_store_of_not_mem es j v hn.1]
   exact .cons hv r
  ·have ih:=ih hn.2
   unfold stored at ih
   rw [List.any_cons,decide_eq_false h,Bool.false_or,List.map_cons,if_neg h]
   by_cases q:es.any (fun kv=>decide (kv.1=i))=true
   ·rw [if_pos q] at ih ⊢; exact .cons a ih
   ·rw [if_neg q] at ih ⊢; exact .cons a ih
theorem Zhu {a:Value}{x:V}{ks:List V}{G:Prop}(ha:VR X W a x)(h:keyOk ks x=true)(g:∀i t,a=.int i t->x=.int i->G):G:=by
 have h:=(and_eq h).1
 cases x with
 | int i=>cases ha with | int _ t=>exact g i t rfl rfl
 | _=>cases h
where and_eq {a b:Bool} (h:(a&&b)=true):a=true/\b=true:=by cases a <;> cases b <;> first | exact ⟨rfl,rfl⟩ | cases h
end
section
variable {W:Wd}
theorem ZdC {vs:List Value}{xs:List V}(r:VRs X W vs xs):∀{l:List Int},intsOf xs=some l->IntsAre vs l:=by
 refine VRs.ind (p:=fun vs xs=>∀{l:List Int},intsOf xs=some l->IntsAre vs l) (fun e=>by cases e; exact .nil) (fun {v vs x xs} a _ ih l e=>?_) r
 have e:(match aInt x with | some i=>(match intsOf xs with | some l=>some (i::l) | none=>none) | none=>none)=some l:=e
 cases hx:aInt x with
 | none=>rw [hx] at e; cases e
 | some i=>
  rw [hx] at e
  have e:(match intsOf xs with | some l=>some (i::l) | none=>none)=some l:=e
  cases hr:intsOf xs with
  | none=>rw [hr] at e; cases e
  | some m=>
   rw [hr] at e; cases e
   cases x with
   | int j=>cases hx; cases a with | int _ t=>exact .cons _ t (ih hr)
   | _=>cases hx
theorem Zem {vs:List Value}{l:List Int}(h:IntsAre vs l):VRs X W vs (l.map .int):=by
 induction h with
 | nil=>exact .nil
 | cons n t _ ih=>exact .cons (.int n t) ih
end
noncomputable abbrev rngO (a b c:Int)(t u v:Tok):Obj:={ cls:=.type "range",dict:=none,data:=.fields #[.int a t,.int b u,.int c v],slots:=#[] }
theorem ZdM {a b c:Int}(hc:c=1):Builtin.Range.rangeSize a b c=rngN a b c:=by
 subst hc
 unfold Builtin.Range.rangeSize rngN
 rw [if_pos (by decide),Int.ediv_one,if_pos rfl]
 by_cases h:b > a
 ·rw [if_pos h,Int.toNat_of_nonneg (Int.sub_nonneg_of_le (Int.le_of_lt h))]; exact Int.sub_add_cancel (b - a) 1
 ·rw [if_neg h,Int.toNat_of_nonpos (Int.sub_nonpos_of_le (Int.not_lt.mp h))]; rfl
section
variable {A:Around}{s:Shared}{E:Value->Shared->Prop}
end
section
variable {A:Around}{W:Wd}{H:Hp}{s:Shared}{E:Value->Shared->Prop}
structure InQ (X:Cx)(A:Around)(E:Value->Shared->Prop)(s:Shared)(a b:Value)(k:Bool->Prop):Prop where
 yes:∀Q:Value->Shared->Prop,(∀r tk,k r->Q (.bool r) { s with toks:=tk })->wpAny (model X.prog X.w) A (compareOp .In a b) Q E s
 no:∀Q:Value->Shared->Prop,(∀r tk,k r->Q (.bool (!r)) { s with toks:=tk })->wpAny (model X.prog X.w) A (compareOp .NotIn a b) Q E s
theorem InQ.of {a b:Value}{k:Bool->Prop}(h:∀Q:Bool->Shared->Prop,(∀r tk,k r->Q r { s with toks:=tk })->wpAny (model X.prog X.w) A (contains b a) Q E s):InQ X A E s a b k:=
 ⟨fun Q g=>show wpAny _ _ (contains _ _ >>= _) _ _ _ from wpAny_bind (h _ fun r tk z=>wpAny_pure (g r tk z)),fun Q g=>show wpAny _ _ (contains _ _ >>= _) _ _ _ from wpAny_bind (h _ fun r tk z=>wpAny_pure (g r tk z))⟩
theorem Zjs {a:Value}{x:V}{l:Addr}{vs:Array Value}{n:Nat}{xs:List V}{k:Bool->Prop}(R:RelH X W H s.heap)(hu:Room A)(ha:VR X W a x)(g:s.heap.get? l=some (lstO vs n))(r:VRs X W vs.toList xs)(e:cmpK.anyK H x xs k):InQ X A E s a (.ref l) k:=
 ⟨fun Q h=>Zi9 (Q:=Q) R hu ha h r e fun as bs d ds ra rb c1 c2 hu' z=>SeqAt.in_list_reads (ZbK g rb) ra c2 c1 hu' (h _ s.toks z),
 fun Q h=>Zi9 (Q:=fun ø ø=>True) R hu ha (fun ø ø ø=>trivial) r e fun as bs d ds ra rb c1 c2 hu' z=>SeqAt.notIn_list_reads (ZbK g rb) ra c2 c1 hu' (h _ s.toks z)⟩
theorem Zlj {a:Value}{x:V}{l:Addr×Addr}{kvs:List (V×V)}{k:Bool->Prop}(ha:VR X W a x)(g:DicCell X W s.heap l kvs)(e:Nd (keyOk (dKeys kvs) x=true) (k ((dKeys kvs).any fun z=>eqD z x))):InQ X A E s a (.ref l.1) k:=by
 obtain ⟨es,d,r,_,ne,_⟩:=g
 refine Zhu ha e.1 fun i t ea ex=>?_
 subst ea ex
 have q:=e.2
 rw [← r.any] at q
 exact ⟨fun Q h=>wpAny_in_of (intKind_is _ _ i t) ne d.mapOf (h _ _ q),fun Q h=>wpAny_notIn_of (intKind_is _ _ i t) ne d.mapOf (h _ _ q)⟩
theorem Zmv {a b:Value}{x y:V}{k:Bool->Prop}(R:RelH X W H s.heap)(hu:Room A)(ha:VR X W a x)(hb:VR X W b y)(e:cmpK.inK H x y k):InQ X A E s a b k:=by
 cases hb with
 | lst z r q=>exact Zjs R hu ha (R.z _ _ z) r e
 | tup _ _ _=>exact e.elim
 | rng _ _ _ _=>exact e.elim
 | @ref i l hl=>
  have e:(match H.get i with | some (.list xs)=>cmpK.anyK H x xs k | some (.dict kvs)=>Nd (keyOk (dKeys kvs) x=true) (k ((dKeys kvs).any fun z=>eqD z x)) | _=>False):=e
  cases hc:H.get i with
  | none=>rw [hc] at e; exact e.elim
  | some c=>
   rw [hc] at e
   have q:=R.at_ hc hl
   cases c with
   | list xs=>obtain ⟨vs,n,g,r,_,_⟩:=q; exact Zjs R hu ha g r e
   | dict kvs=>exact Zlj ha q e
   | _=>exact e.elim
 | _=>exact e.elim
theorem Zl6 {a:Value}{x:V}(ha:VR X W a x)(hs:solid x=true):plainIs a .none=true/\(a==.none)=isNone x:=by
 cases ha <;> first | exact ⟨rfl,rfl⟩ | cases hs
theorem ZlW {a:Value}{x:V}{c:Bool}(ha:VR X W a x)(hs:solid x=true):plainIs a (.bool c)=true/\(a==.bool c)=isB c x:=by
 cases ha with
 | bool d=>exact ⟨rfl,by cases c <;> cases d <;> rfl⟩
 | _=>first | exact ⟨rfl,rfl⟩ | cases hs
theorem Zmr {a b:Value}{x y:V}{k:Bool->Prop}(ha:VR X W a x)(hb:VR X W b y)(e:isK x y k):∃r,plainIs a b=true/\(a==b)=r/\k r:=by
 cases y with
 | none=>cases (show b=.none from hb.inv); exact ⟨_,(Zl6 ha e.1).1,(Zl6 ha e.1).2,e.2⟩
 | bool c=>cases (show b=.bool c from hb.inv); exact ⟨_,(ZlW ha e.1).1,(ZlW ha e.1).2,e.2⟩
 | _=>exact e.elim
theorem ZmL {α:Type}{l:List α}{a b:α}(h:l.length=2)(h0:l[0]?=some a)(h1:l[1]?=some b):l=[a,b]:=by
 cases l with
 | nil=>cases h0
 | cons x r=>
  cases h0
  cases r with
  | nil=>cases h1
  | cons y r=>
   cases h1
   rw [List.length_eq_zero_iff.mp (Nat.succ.inj (Nat.succ.inj h))]
theorem ZmD {h:Heap}{v:Value}{x:V}{p:Int×Int}(r:Sn X W h v x)(e:aPr x=some p){G:Prop}(k:∀l n t u,v=.ref l->h.get? l=some (prO p.1 p.2 t u n)->G):G:=by
 obtain ⟨xs,ex,e⟩:=Option.bind_eq_some_iff.mp e
 obtain ⟨l,vs,n,ev,g,rr,_,_⟩:=r.toTup ex
 match xs,e with
 | [a,b],e=>
  obtain ⟨i,ei,e⟩:=Option.bind_eq_some_iff.mp e
  obtain ⟨j,ej,e⟩:=Option.map_eq_some_iff.mp e
  subst e
  obtain ⟨v0,h0,r0⟩:=rr.get (k:=0) rfl
  obtain ⟨v1,h1,r1⟩:=rr.get (k:=1) rfl
  obtain ⟨vs⟩:=vs
  cases ZmL rr.length h0 h1
  exact ZbJ r0 ei fun t q=>ZbJ r1 ej fun u q'=>k l n t u ev (by subst q q'; exact g)
theorem ZeT {k:Int->Int->Bool}{z:Bool}{a b c d:Int}:prI (fun i j=>k j i) z a b c d=prI k z c d a b:=by
 unfold prI
 rw [show decide (a=c)=decide (c=a) from decide_eq_decide.mpr eq_comm,show decide (b=d)=decide (d=b) from decide_eq_decide.mpr eq_comm]
theorem roomy {A:Around}(hu:Room A):A.units < cLine:=Nat.lt_of_le_of_lt (Nat.le_add_right _ _) hu
section
variable {a b:Value}{x y:V}{k:Bool->Prop}{Q:Value->Shared->Prop}(R:RelH X W H s.heap)(hu:Room A)(ha:VR X W a x)(hb:VR X W b y)(h:∀r tk,k r->Q (.bool r) { s with toks:=tk })
include R ha hb
theorem ZgD {k:Int->Int->Prop}(e:need (see H x) fun x=>need (see H y) fun y=>need (aInt x) fun i=>need (aInt y) fun j=>k i j){G:Prop}(g:∀i j t u,a=.int i t->b=.int j u->k i j->G):G:=
 Zab e fun x ex e=>Zab e fun y ey e=>Zab e fun i ei e=>Zab e fun j ej e=>((Zao R ha ex).toInt ei).elim fun t q=>((Zao R hb ey).toInt ej).elim fun u q'=>g i j t u q q' e
theorem Zfn {e':Bool}{k:Bool->Prop}(e:need (see H x) fun x=>need (see H y) fun y=>ltK e' x y k){G:Prop}(g:∀i j t u,a=.int i t->b=.int j u->k (cmpI e' i j)->G)
  (g':∀(p q:Int×Int) l m n n' t u t' u',a=.ref l->b=.ref m->s.heap.get? l=some (prO p.1 p.2 t u n)->s.heap.get? m=some (prO q.1 q.2 t' u' n')->k (prI (cmpI e') e' p.1 p.2 q.1 q.2)->G):G:=
 Zab e fun x ex e=>Zab e fun y ey e=>by
  have rx:=Zao R ha ex
  have ry:=Zao R hb ey
  cases x with
  | int i=>exact Zab e fun j ej e=>(rx.toInt rfl).elim fun t q=>(ry.toInt ej).elim fun u q'=>g i j t u q q' e
  | tup xs=>exact Zab e fun p ep e=>Zab e fun q eq e=>ZmD rx ep fun l n t u h1 h2=>ZmD ry eq fun m n' t' u' h3 h4=>g' p q l m n n' t u t' u' h1 h3 h2 h4 e
  | _=>exact e.elim
include hu h
theorem Zlo {op:COp}(e:cmpK H op x y k):wpAny (model X.prog X.w) A (compareOp (cmpOf op) a b) Q E s:=by
 cases op with
 | eq=>exact Znq R hu ha hb h e
 | ne=>exact Zne R hu ha hb h e
 | lt=>exact Zfn R ha hb e (fun i j t u q q' z=>by subst q q'; exact lt_int (h _ s.toks z)) fun p q l m n n' t u t' u' e1 e2 g1 g2 z=>by subst e1 e2; exact Zla (roomy hu) g1 g2 (h _ s.toks z)
 | le=>exact Zfn R ha hb e (fun i j t u q q' z=>by subst q q'; exact le_int (h _ s.toks z)) fun p q l m n n' t u t' u' e1 e2 g1 g2 z=>by subst e1 e2; exact ZkJ (roomy hu) g1 g2 (h _ s.toks z)
 | gt=>exact Zfn R hb ha (Zab e fun x ex e=>Zab e fun y ey e=>ZbL ey (ZbL ex e)) (fun i j t u q q' z=>by subst q q'; exact gt_int (h _ s.toks z)) fun p q l m n n' t u t' u' e1 e2 g1 g2 z=>by subst e1 e2; exact Zkn (roomy hu) g2 g1 (ZeT (k:=cmpI false)▸h _ s.toks z)
 | ge=>exact Zfn R hb ha (Zab e fun x ex e=>Zab e fun y ey e=>ZbL ey (ZbL ex e)) (fun i j t u q q' z=>by subst q q'; exact ge_int (h _ s.toks z)) fun p q l m n n' t u t' u' e1 e2 g1 g2 z=>by subst e1 e2; exact ZkS (roomy hu) g2 g1 (ZeT (k:=cmpI true)▸h _ s.toks z)
 | isIn=>exact (Zmv R hu ha hb e).yes Q h
 | notIn=>exact (Zmv (k:=fun r=>k (!r)) R hu ha hb e).no Q fun r tk z=>h _ tk z
 | is=>exact (Zmr ha hb e).elim fun r q=>wpAny_is_plain q.1 (by rw [q.2.1]; exact h _ s.toks q.2.2)
 | isNot=>exact (Zmr (k:=fun r=>k (!r)) ha hb e).elim fun r q=>wpAny_isNot_plain q.1 (by rw [q.2.1]; exact h _ s.toks q.2.2)
end
end
end Mine
end
section
set_option maxRecDepth 100000
namespace Mine
open PySem PySem.W PySem.Calls PyProof.Rows Builtin Builtin.ObjectAttr Builtin.Getset_descriptor
section
variable {A:Around}{W:Wd}{H:Hp}{s:Shared}{E:Value->Shared->Prop}{K:Frag}
theorem ZjU {k:Kd}{t:V}{b:Bool}{cv:Value}(e:isi0 X.P k t=some b)(h:VR X W cv t):tVal X t=some cv:=by
 cases h with
 | bt b=>rfl
 | _=>exact nsome e
theorem Zke {k:Kd}{t:V}{b:Bool}{cv tv:Value}(I:IsiK X K)(e:isi0 X.P k t=some b)(hk:kdT X k=some tv)(h:VR X W cv t):kitOne K tv cv=some b:=I.one k t b tv cv e hk (ZjU e h)
theorem Za4 {v t tv:Value}{k:Kd}{y:V}{b:Bool}{Hh:Heap->Prop}{Q:Value->Shared->Prop}(I:IsiK X K)(R:RelH X W H s.heap)(Z:KitX K v tv Hh)(hh:Hh s.heap)(hk:kdT X k=some tv)(hv:v≠.builtin "__main__.__loader__#opaque")(ht:VR X W t y)(e:isi1 X.P k y=some b)(h:∀tk,Q (.bool b) { s with toks:=tk }):
  wpAny (model X.prog X.w) A (call (.builtin "isinstance") [v,t]) Q E s:=by
 have hin:K.In s.heap:=fun x o q=>R.bkeep x o (I.inn x o q)
 cases ht with
 | bt bb=>exact kia_one Z hin hh (Zke (W:=W) (t:=.bt bb) I e hk (.bt bb)) hv h
 | _=>exact nsome e
theorem ZlK {v t:Value}{x y:V}{k:Bool->Prop}{Q:Value->Shared->Prop}(I:IsiK X K)(R:RelH X W H s.heap)(hv:VR X W v x)(ht:VR X W t y)(e:need (kind H x) fun q=>need (isi1 X.P q y) k)(h:∀b tk,k b->Q (.bool b) { s with toks:=tk }):
  wpAny (model X.prog X.w) A (call (.builtin "isinstance") [v,t]) Q E s:=by
 refine Zab e fun q ek e=>Zab e fun b e z=>?_
 have h:=fun tk=>h b tk z
 cases hv with
 | none=>cases ek; exact Za4 I R kitx_none trivial rfl (fun q=>nomatch q) ht e h
 | bool c=>cases ek; exact Za4 I R kitx_bool trivial rfl (fun q=>nomatch q) ht e h
 | int i u=>cases ek; exact Za4 I R kitx_int trivial rfl (fun q=>nomatch q) ht e h
 | str c u _ _=>cases ek; exact Za4 I R kitx_str trivial rfl (fun q=>nomatch q) ht e h
 | tup z r q=>cases ek; exact Za4 I R kitx_tuple ⟨_,R.z _ _ z,rfl⟩ rfl (fun q=>nomatch q) ht e h
 | lst z r q=>cases ek; exact Za4 I R kitx_list ⟨_,R.z _ _ z,rfl⟩ rfl (fun q=>nomatch q) ht e h
 | @ref i l hl=>
  have ek:kdC (H.get i)=some q:=ek
  cases hg:H.get i with
  | none=>rw [hg] at ek; cases ek
  | some c=>
   rw [hg] at ek
   have hcell:=R.at_ hg hl
   cases c with
   | list xs=>cases ek; obtain ⟨vs,k,hgg,_,_,_⟩:=hcell; exact Za4 I R kitx_list ⟨_,hgg,rfl⟩ rfl (fun q=>nomatch q) ht e h
   | dict kvs=>cases ek
   | inst k fs=>cases ek
   | exc k=>cases ek
 | _=>cases ek
end
end Mine
end
section
namespace Mine
open PySem PySem.W PySem.Calls PyProof.Rows
section
variable {A:Around}{W:Wd}{H:Hp}{s:Shared}{E:Value->Shared->Prop}
theorem Zcv {vs:Array Value}{xs:List V}(h:VRs X W vs.toList xs){k:Nat}{x:V}(e:xs[k]?=some x):∃v,vs[k]?=some v/\VR X W v x:=(h.get e).imp fun v q=>⟨by rw [← Array.getElem?_toList]; exact q.1,q.2⟩
theorem ZcB {i:Int}{n k:Nat}(e:pyIdx i n=some k)(h:0<=i):k=i.toNat/\i < n:=by
 unfold pyIdx at e
 rw [if_pos h] at e
 by_cases c:i < n
 ·rw [if_pos c] at e; exact ⟨(Option.some.inj e).symm,c⟩
 ·rw [if_neg c] at e; cases e
theorem ZcE {i:Int}{n k:Nat}(e:pyIdx i n=some k)(h:¬ 0<=i):k=(i+n).toNat/\0<=i+n:=by
 unfold pyIdx at e
 rw [if_neg h] at e
 by_cases c:0<=i+n
 ·rw [if_pos c] at e; exact ⟨(Option.some.inj e).symm,c⟩
 ·rw [if_neg c] at e; cases e
theorem ZdU {i:Int}{n k:Nat}(e:pyIdx i n=some k):seqIndex? i n=some k:=by
 unfold seqIndex?
 by_cases h:0<=i
 ·obtain ⟨rfl,hk⟩:=ZcB e h
  have:¬ i < 0:=Int.not_lt.mpr h
  simp [this,h,hk]
 ·obtain ⟨rfl,hk⟩:=ZcE e h
  have h':i < 0:=Int.not_le.mp h
  have:i+n < n:=Int.lt_of_lt_of_le (Int.add_lt_add_right h' n) (Int.le_of_eq (Int.zero_add _))
  simp_all
theorem Zds {i:Int}{n k:Nat}(e:pyIdx i n=some k)(q:n<=SZ): -(2 ^ 63:Int)<=i/\i < 2 ^ 63:=by
 have:=sz63 q
 by_cases h:0<=i
 ·have:=ZcB e h; exact ⟨Int.le_trans (by decide) h,Int.lt_of_lt_of_le this.2 (lc7 q rfl)⟩
 ·have:=ZcE e h; exact ⟨Int.le_trans (Int.le_trans (by decide:(-2 ^ 63:Int)<= -((SZ:Nat):Int)) (Int.neg_le_neg (ld2 q))) (lk3 this.2),Int.lt_of_lt_of_le (Int.not_le.mp h) (by decide)⟩
theorem Zcd {o i:Value}{value slice:Expr}{T id:String}{Q:Value->Shared->Prop}(hT:s.TypeIs o T)(hl:typeLookup (.type T) "__getitem__"=pure (some (.builtin id)))
  (h:wpAny (model X.prog X.w) A (getItem o i) Q E s):wpAny (model X.prog X.w) A (subscriptTail value slice o i) Q E s:=by
 unfold subscriptTail
 refine wpAny_bind ?_
 rw [getitemInPython_of_ne hT.not_modules]
 refine wpAny_bind (wpAny_specialOf hT hl ?_)
 have fin:wpAny (model X.prog X.w) A (subscripted slice false o i) (fun r s3'=>wpAny (model X.prog X.w) A (letTemporaryGo value o r >>= fun ø=>pure r) Q E s3') E s:=by
  have key:wpAny (model X.prog X.w) A (getItem o i) (fun r s3'=>wpAny (model X.prog X.w) A (letTemporaryGo value o r >>= fun ø=>pure r) Q E s3') E s:=
   wpAny_mono h (fun r s3' h₃=>wpAny_bind (wpAny_letTemporaryGo (wpAny_pure h₃))) fun ø ø x=>x
  unfold subscripted
  split
  ·exact wpAny_operating key
  ·cases ‹_=true›
  ·exact wpAny_operating key
 first
  | exact wpAny_pure (wpAny_bind fin)
  | exact wpAny_bind (wpAny_pure (wpAny_bind fin))
  | exact wpAny_bind fin
theorem Znd {t:Str}{i c:Nat}(ok:PyData.strOk t=true)(hc:t.cps[i]?=some c):PyData.strOk ⟨#[c]⟩=true:=by
 have hok:(t.cps.all (· < 0x110000))=true:=ok
 rw [Array.all_eq_true] at hok
 have:=hok i (Array.getElem?_eq_some_iff.mp hc).1
 rw [(Array.getElem?_eq_some_iff.mp hc).2] at this
 show ((#[c]:Array Nat).all (· < 0x110000))=true
 simpa using this
section
variable {a b:Value}{x y:V}{value slice:Expr}{k:V->Prop}{Q:Value->Shared->Prop}(h:∀v r tk,VR X W v r->k r->Q v { s with toks:=tk })
include h
theorem Zg4 {l:Addr}{vs:Array Value}{n:Nat}{xs:List V}{i:Int}{t:Tok}(g:s.heap.get? l=some (lstO vs n))(r:VRs X W vs.toList xs)(q:xs.length<=SZ)(e:atK xs i k):wpAny (model X.prog X.w) A (subscriptTail value slice (.ref l) (.int i t)) Q E s:=by
 refine Zab e fun m em e=>Zab e fun x ex e=>?_
 obtain ⟨v,hx,hr⟩:=Zcv r ex
 have hf:=h v x s.toks hr e
 have z:=r.toArr
 have b63:=Zds em q
 refine Zcd ⟨_,g,rfl⟩ list_getitem_lookup ?_
 by_cases h0:0<=i
 ·obtain ⟨rfl,hk⟩:=ZcB em h0
  exact wpAny_getItem_list (Zam g) h0 b63.2 hx hf
 ·obtain ⟨rfl,hk⟩:=ZcE em h0
  exact wpAny_getItem_list_neg (Zam g) (Int.not_le.mp h0) (by rw [z]; exact lk3 hk) b63.1 (by rw [z]; exact hx) hf
theorem ZjT {l:Addr×Addr}{kvs:List (V×V)}(hb:VR X W b y)(g:DicCell X W s.heap l kvs)(e:Nd (keyOk (dKeys kvs) y=true) (need (dGet kvs y) k)):wpAny (model X.prog X.w) A (subscriptTail value slice (.ref l.1) b) Q E s:=by
 obtain ⟨es,d,r,_,ne,_⟩:=g
 refine Zhu hb e.1 fun i t ea ex=>Zab e.2 fun z ez q=>?_
 subst ea ex
 have v:=r.val (i:=i)
 rw [ez] at v
 generalize hv:valueAt es i=o at v
 cases v with
 | some hr=>exact Zcd d.typeIs slot_dict_getitem.lookup (wpAny_getItem_of (intKind_is _ _ i t) d.mapOf hv (h _ _ _ hr q))
theorem ZmP (R:RelH X W H s.heap)(ha:VR X W a x)(hb:VR X W b y)(e:idxH H x y k):wpAny (model X.prog X.w) A (subscriptTail value slice a b) Q E s:=by
 have key:∀i,aInt y=some i->∃t,b=.int i t:=fun i ei=>ZbJ hb ei fun t q=>⟨t,q⟩
 cases ha with
 | @ref j l hl=>
  have e:(match H.get j with | some (.list xs)=>idxK (.lst xs) y k | some (.dict kvs)=>Nd (keyOk (dKeys kvs) y=true) (need (dGet kvs y) k) | _=>False):=e
  cases hc:H.get j with
  | none=>rw [hc] at e; exact e.elim
  | some c=>
   rw [hc] at e
   have q:=R.at_ hc hl
   cases c with
   | list xs=>
    refine Zab e fun i ei e=>(key i ei).elim fun t et=>?_
    subst et
    obtain ⟨vs,n,g,r,_,z⟩:=q
    exact Zg4 h g r z e
   | dict kvs=>exact ZjT h hb q e
   | _=>exact e.elim
 | lst z r q=>exact Zab e fun i ei e=>(key i ei).elim fun t et=>by subst et; exact Zg4 h (R.z _ _ z) r q e
 | @tup l vs n xs z r q=>
  refine Zab e fun i ei e=>(key i ei).elim fun t et=>Zab e fun m em e=>Zab e fun x ex e=>?_
  subst et
  obtain ⟨v,hx,hr⟩:=Zcv r ex
  have b63:=Zds em q
  exact Zcd (ZaN (R.z _ _ z)).typeIs slot_tuple_getitem.lookup (getItem_tuple (ZaN (R.z _ _ z)) b63.1 b63.2 (by rw [r.toArr]; exact ZdU em) hx (h v x s.toks hr e))
 | _=>exact Zab e fun ø ø e=>e.elim
end
theorem Zcc {x:Int}{n:Nat}(h:0<=x):min x (n:Int)=((min x.toNat n:Nat):Int):=by
 obtain ⟨k,rfl⟩:=Int.eq_ofNat_of_zero_le h
 show min (k:Int) n=((min k n:Nat):Int)
 by_cases h:k<=n
 ·rw [Int.min_eq_left (Int.ofNat_le.mpr h),Nat.min_eq_left h]
 ·rw [Int.min_eq_right (Int.ofNat_le.mpr (Nat.le_of_not_le h)),Nat.min_eq_right (Nat.le_of_not_le h)]
theorem max0 {n:Nat}:max 0 (n:Int)=n:=Int.max_eq_right (Int.natCast_nonneg n)
theorem Zi2 {α:Type}(l:List α)(a b:Nat):(l.drop (min a l.length)).take (min b l.length - min a l.length)=(l.drop a).take (b - a):=by
 rw [kmk_drop_min]
 by_cases c1:a<=l.length
 ·rw [Nat.min_eq_left c1]
  by_cases c2:b<=l.length
  ·rw [Nat.min_eq_left c2]
  ·rw [Nat.min_eq_right (Nat.le_of_not_le c2),List.take_of_length_le (by rw [List.length_drop]; exact Nat.le_refl _),List.take_of_length_le (by rw [List.length_drop]; exact Nat.sub_le_sub_right (Nat.le_of_not_le c2) _)]
 ·rw [List.drop_of_length_le (Nat.le_of_not_le c1),List.take_nil,List.take_nil]
theorem Zgr {vs:Array Value}{xs:List V}(hv:VRs X W vs.toList xs){lo hi:Option Int}(h1:notNeg lo=true)(h2:notNeg hi=true):VRs X W (slicePick vs lo hi none).toList (slL xs lo hi):=by
 have key:∀(a b:Nat),sliceBounds lo hi none vs.size=((a:Int),(b:Int),1)->VRs X W (slicePick vs lo hi none).toList ((xs.drop a).take (b - a)):=fun a b e=>by
  rw [kmk_pick_nat _ e]
  exact (hv.drop a).take (b - a)
 have z:=hv.toArr
 have neg:∀{x:Int},0<=x->¬ x < 0:=fun h=>Int.not_lt.mpr h
 cases lo with
 | none=>
  cases hi with
  | none=>
   have:=key 0 vs.size (by simp [sliceBounds])
   rw [z,Nat.sub_zero,List.drop_zero,List.take_length] at this
   exact this
  | some y=>
   have hy:0<=y:=of_decide_eq_true h2
   have e:sliceBounds none (some y) none vs.size=(((0:Nat):Int),((min y.toNat vs.size:Nat):Int),1):=by
    simp only [sliceBounds,Option.getD_none,show (1:Int) > 0 by decide,if_true,if_neg (neg hy),Zcc hy]
    rfl
   have:=key _ _ e
   rw [z,Nat.sub_zero,List.drop_zero,kmk_take_min] at this
   exact this
 | some x=>
  have hx:0<=x:=of_decide_eq_true h1
  cases hi with
  | none=>
   have e:sliceBounds (some x) none none vs.size=(((min x.toNat vs.size:Nat):Int),((vs.size:Nat):Int),1):=by
    simp only [sliceBounds,Option.getD_none,show (1:Int) > 0 by decide,if_true,if_neg (neg hx),Zcc hx,max0]
   have:=key _ _ e
   rw [z,kmk_drop_min,List.take_of_length_le (by rw [List.length_drop]; exact Nat.sub_le_sub_left (Nat.min_le_left _ _) _)] at this
   exact this
  | some y=>
   have hy:0<=y:=of_decide_eq_true h2
   have e:sliceBounds (some x) (some y) none vs.size=(((min x.toNat vs.size:Nat):Int),((min y.toNat vs.size:Nat):Int),1):=by
    simp only [sliceBounds,Option.getD_none,show (1:Int) > 0 by decide,if_true,if_neg (neg hx),if_neg (neg hy),Zcc hx,Zcc hy,max0]
   have:=key _ _ e
   rw [z,Zi2] at this
   exact this
theorem Znp (xs:List V)(lo hi:Option Int):(slL xs lo hi).length<=xs.length:=by
 cases lo with
 | none=>
  cases hi with
  | none=>exact Nat.le_refl _
  | some b=>exact List.length_take_le' _ _
 | some a=>
  cases hi with
  | none=>rw [show slL xs (some a) none=xs.drop a.toNat from rfl,List.length_drop]; exact Nat.sub_le _ _
  | some b=>exact Nat.le_trans (List.length_take_le' _ _) (by rw [List.length_drop]; exact Nat.sub_le _ _)
theorem ZhD {v:Value}{o:Option V}{i:Option Int}(hv:VR X W v (o.getD .none))(e:optI o=some i):IsPart v i:=by
 cases o with
 | none=>cases e; cases hv; exact .none
 | some x=>
  cases x with
  | int i=>cases e; cases hv; exact .int _ _
  | _=>cases e
noncomputable abbrev slO (a b c:Value):Obj:={ cls:=.type "slice",data:=.fields #[a,b,c] }
section
variable {fz:Bool}{k:LV->Prop}{Q:Value->Shared->Prop}(o:OpQ X fz W H s k Q)(R:RelH X W H s.heap)
include o R
theorem OpQ.behind {ob:Obj}:OpQ X fz W H { s with heap:=s.heap.push ob } k Q/\RelH X W H (s.heap.push ob):=by
 have hp:∀b o,s.heap.get? b=some o->(s.heap.push ob).get? b=some o:=fun ø ø q=>Heap.get?_push_of_some _ q
 have S1':Stp noPv W H s.heap W H (s.heap.push ob):=.quiet (fun a o q ø=>hp a o q) fun a o q=>⟨o,hp a o q⟩
 exact ⟨⟨fun r v' s' W' H' T z q=>o.out r v' s' W' H' ⟨S1'.trans T.stp,T.rel,⟨T.rest.gens,T.rest.drawn,T.rest.os⟩⟩ z q,o.sz⟩,R.quiet (Pv:=noPv) (fun a o q ø=>hp a o q) fun ø z=>z.elim⟩
theorem ZnL {a vl vu:Value}{x:V}{lo hi:Option Int}{value slice:Expr}(ha:Sn X W s.heap a x)(pl:IsPart vl lo)(pu:IsPart vu hi)(e:slK x lo hi k):
  wpAny (model X.prog X.w) A (newFields "slice" [vl,vu,.none]) (fun i s1'=>wpAny (model X.prog X.w) A (subscriptTail value slice a i) Q E s1') E s:=by
 obtain ⟨h1,h2,e⟩:=e
 obtain ⟨o1',R1⟩:=o.behind R (ob:=slO vl vu .none)
 refine wpAny_newObj_type ?_
 cases ha with
 | lst g r q z=>
  have hg1:=Heap.get?_push_of_some (slO vl vu .none) g
  exact Zcd (s:={ s with heap:=s.heap.push (slO vl vu .none) }) ⟨_,hg1,rfl⟩ list_getitem_lookup
   (wpAny_getItem_list_slice (Zam hg1) (Heap.IsSliceOf.new ..) pl pu .none (by simp) (o1'.push (n:=0) R1 (Zgr r h1 h2) e) (by rw [z]; exact szLine q))
 | _=>exact e.elim
end
theorem ZeO (c:Int)(n:Nat):∀(a:Int) (k:Nat),k < n->(rngL a c n)[k]?=some (.int (a+k * c)):=by
 induction n with
 | zero=>intro a k h; exact absurd h (Nat.not_lt_zero _)
 | succ n ih=>
  intro a k h
  cases k with
  | zero=>show some (V.int a)=_; rw [Int.natCast_zero,Int.zero_mul,Int.add_zero]
  | succ k=>
   show (rngL (a+c) c n)[k]?=_
   rw [ih (a+c) k (Nat.lt_of_succ_lt_succ h),Int.natCast_succ,Int.add_mul,Int.one_mul,Int.add_assoc,Int.add_comm c]
theorem Za3 (c:Int)(n:Nat):∀a:Int,(rngL a c n).length=n:=by
 induction n with
 | zero=>intro a; rfl
 | succ n ih=>intro a; exact congrArg (·+1) (ih (a+c))
theorem VRs.ofGet {vs:List Value}{xs:List V}(hl:vs.length=xs.length)(h:∀(k:Nat) (v:Value) (x:V),vs[k]?=some v->xs[k]?=some x->VR X W v x):VRs X W vs xs:=by
 induction vs generalizing xs with
 | nil=>cases xs with
  | nil=>exact .nil
  | cons=>cases hl
 | cons v vs ih=>cases xs with
  | nil=>cases hl
  | cons x xs=>exact .cons (h 0 v x rfl rfl) (ih (Nat.succ.inj hl) fun k v x a b=>h (k+1) v x a b)
theorem Zf2 {a b c:Int}(hc:c=1)(ha:a.natAbs<=SZ)(hb:b.natAbs<=SZ):rngN a b c<=2097152:=by
 subst hc
 unfold rngN
 rw [if_pos rfl]
 unfold SZ at ha hb
 exact Int.toNat_le.mpr (Int.le_trans (Int.sub_le_sub (Int.le_trans Int.le_natAbs (ld2 hb)) (lj8 (b:= -1048576) ha rfl)) (by decide))
theorem Zki {x:Int}(hx:x.natAbs<=4194304):Builtin.Range.rangeFitsLong x=true:=by
 unfold Builtin.Range.rangeFitsLong
 rw [Bool.and_eq_true]
 exact ⟨decide_eq_true (by exact lj8 hx rfl),decide_eq_true (by exact lj9 hx rfl)⟩
theorem Zd6 {a b c:Int}(hc:c=1)(ha:a.natAbs<=SZ)(hb:b.natAbs<=SZ):Builtin.Range.small a b c=true:=by
 have hn:=Zf2 hc ha hb
 unfold Builtin.Range.small
 rw [ZdM hc]
 subst hc
 unfold SZ at *
 have f:=fun x=>Zki (x:=x)
 rw [f a (by exact la7 ha rfl),f b (by exact la7 hb rfl),f _ (la7 hn rfl:((rngN a b 1:Nat):Int).natAbs<=4194304),f 1 (by decide)]
 simp only [show (1:Int) > 0 by decide,if_true,Bool.true_and,Bool.or_eq_true]
 exact .inr (f _ (by rw [Int.sub_self,Int.add_zero]; exact la7 hb rfl))
noncomputable def quietB (A:Around)(b:B):Prop:=A.handled=none\/b=.len\/b=.isinstance
theorem Zm1 {v:Value}{x:V}{n:Nat}{fz:Bool}{k:LV->Prop}{Q:Value->Shared->Prop}(o:OpQ X fz W H s k Q)(R:RelH X W H s.heap)(hv:VR X W v x)(e:lenH H x=some n)(h:k (.val (.int n))):wpAny (model X.prog X.w) A (call (bval .len) [v]) Q E s:=by
 have lst:∀{l:Addr} {vs:Array Value} {m:Nat} {xs:List V},s.heap.get? l=some (lstO vs m)->VRs X W vs.toList xs->xs.length<=SZ->some xs.length=some n->wpAny (model X.prog X.w) A (call (bval .len) [.ref l]) Q E s:=fun {l vs m xs} g r q e=>by
  refine call_len_list (Zam g) (by rw [r.toArr]; exact sz63 q) ?_
  rw [r.toArr,Option.some.inj e]; exact o.val R (.int ..) h
 cases hv with
 | str t u ok z=>exact PySem.P.len_str (Int.not_le.mpr (sz63 z)) (by rw [Option.some.inj e]; exact o.val R (.int ..) h)
 | tup z r q=>
  refine len_tuple (ZaN (R.z _ _ z)) (by rw [r.toArr]; exact sz63 q) ?_
  rw [r.toArr,Option.some.inj e]; exact o.val R (.int ..) h
 | lst z r q=>exact lst (R.z _ _ z) r q e
 | @ref i l hl=>
  have e:(match H.get i with | some (.list xs)=>some xs.length | some (.dict kvs)=>some kvs.length | _=>none)=some n:=e
  cases hc:H.get i with
  | none=>rw [hc] at e; cases e
  | some c=>
   rw [hc] at e
   have q:=R.at_ hc hl
   cases c with
   | list xs=>obtain ⟨vs,m,g,r,_,z⟩:=q; exact lst g r z e
   | dict kvs=>
    obtain ⟨es,d,r,_,ne,z⟩:=q
    refine call_len_dict ne d (by rw [r.len]; exact sz63 z) ?_
    rw [r.len,Option.some.inj e]; exact o.val R (.int ..) h
   | _=>cases e
 | _=>cases e
theorem Znm {b:B}{v:Value}{x:V}{fz:Bool}{k:LV->Prop}{Q:Value->Shared->Prop}(o:OpQ X fz W H s k Q)(hh:quietB A b)(R:RelH X W H s.heap)(hv:VR X W v x)(e:b1K b (see H x) (lenH H x) k):wpAny (model X.prog X.w) A (call (bval b) [v]) Q E s:=by
 have hq:(b≠.len/\b≠.isinstance)->A.handled=none:=fun z=>hh.elim id fun q=>(q.elim (fun q=>absurd q z.1) fun q=>absurd q z.2)
 cases b with
 | len=>exact Zab e fun n en e=>Zm1 o R hv en e
 | list=>
  refine Zab e fun y ey e=>Zab e fun xs ex e=>?_
  cases Zao R hv ey with
  | lst g r q z=>cases ex; exact call_list_seq _ (.inl rfl) g rfl rfl (fun h' c' hk ha=>o.list R r hk (Zag _) ha e) (by rw [z]; exact szLine q)
  | tup g r q z=>cases ex; exact call_list_seq _ (.inr rfl) g rfl rfl (fun h' c' hk ha=>o.list R r hk (Zag _) ha e) (by rw [z]; exact szLine q)
  | @rng rr a b c t u v z p q hc=>
   cases ex
   refine call_list_range (hq ⟨(nomatch ·),(nomatch ·)⟩) z (Zd6 hc p q) (ZdM hc) (Nat.le_trans (Zf2 hc p q) (by decide)) fun h' tk acc' c' hk ha hacc=>?_
   refine o.list R (vs:=acc') (VRs.ofGet ?_ fun k v x e1 e2=>?_) hk (Zag _) ha e
   ·rw [Za3,Array.length_toList]; exact hacc.1
   ·have hk':k < rngN a b c:=by
     have:=(List.getElem?_eq_some_iff.mp e2).1
     rwa [Za3] at this
    rw [ZeO _ _ _ _ hk'] at e2
    cases e2
    obtain ⟨t,q⟩:=hacc.2 k v (by rw [← Array.getElem?_toList]; exact e1)
    rw [q]; exact .int _ _
  | _=>cases ex
 | sorted=>
  refine Zab e fun y ey e=>Zab e fun xs ex e=>Zab e fun is ei e=>?_
  obtain ⟨l,vs,n,rfl,g,r,q,z⟩:=(Zao R hv ey).toLst ex
  have I:=ZdC r ei
  refine sorted_ints (vs:=vs.toList) (by simpa using Zam g) I (by rw [I.length]; exact e.1) fun out ns' ho hp hs=>?_
  rw [ZeV hp hs] at ho
  exact (sortedAll_at s.heap vs.toList out).elim fun c hc=>o.list R (Zem ho) (fun ø ø q=>sortedAll_old q) (Heap.get?_none_of_le (Nat.le_succ _)) hc e.2
 | int=>
  refine Zab e fun y ey e=>Zab e fun c ec e=>?_
  rw [(Zao R hv ey).toBool ec]
  refine PySem.call_int_bool ?_
  cases c <;> exact o.val R (.int ..) e
 | range=>exact Zab e fun y ey e=>Zab e fun n en e=>((Zao R hv ey).toInt en).elim fun t q=>q▸call_range_1 (o.fro R (fun ø ø e=>Heap.get?_push_of_some _ e) (Zag _) (Heap.get?_push_size _ rfl) (.rng Zbr (by decide) e.1 rfl) e.2)
 | _=>exact e.elim
theorem ZnA {b:B}{v w:Value}{x y:V}{fz:Bool}{k:LV->Prop}{Q:Value->Shared->Prop}(o:OpQ X fz W H s k Q)(hh:quietB A b)(R:RelH X W H s.heap)(h1:VR X W v x)(h2:VR X W w y)(e:need (see H x) fun x=>need (see H y) fun y=>b2K b x y k):wpAny (model X.prog X.w) A (call (bval b) [v,w]) Q E s:=by
 have hq:(b≠.len/\b≠.isinstance)->A.handled=none:=fun z=>hh.elim id fun q=>(q.elim (fun q=>absurd q z.1) fun q=>absurd q z.2)
 cases b with
 | max=>
  refine ZgD R h1 h2 e fun i j t u q q' e=>?_
  subst q q'
  refine max_two_ints (hq ⟨(nomatch ·),(nomatch ·)⟩) fun h' tk hk=>?_
  split
  ·rename_i c; exact o.more R hk (x:=.int (if j > i then j else i)) (by rw [if_pos c]; exact .int _ _) e
  ·rename_i c; exact o.more R hk (x:=.int (if j > i then j else i)) (by rw [if_neg c]; exact .int _ _) e
 | min=>
  refine ZgD R h1 h2 e fun i j t u q q' e=>?_
  subst q q'
  refine min_two_ints (hq ⟨(nomatch ·),(nomatch ·)⟩) fun h' tk hk=>?_
  split
  ·rename_i c; exact o.more R hk (x:=.int (if j < i then j else i)) (by rw [if_pos c]; exact .int _ _) e
  ·rename_i c; exact o.more R hk (x:=.int (if j < i then j else i)) (by rw [if_neg c]; exact .int _ _) e
 | _=>exact Zab e fun ø ø e=>Zab e fun ø ø e=>e.elim
theorem ZiE {K:Frag}{b:B}{vs:List Value}{xs:List V}{fz:Bool}{k:LV->Prop}{Q:Value->Shared->Prop}(o:OpQ X fz W H s k Q)(I:IsiK X K)(hh:quietB A b)(R:RelH X W H s.heap)(hv:VRs X W vs xs)(e:callB X.P H b xs k):wpAny (model X.prog X.w) A (call (bval b) vs) Q E s:=by
 cases hv with
 | nil=>exact e.elim
 | cons h1 r=>
  cases r with
  | nil=>exact Znm o hh R h1 e
  | cons h2 r=>
   cases r with
   | nil=>
    refine Zoa e (fun q e=>?_) fun ø e=>ZnA o hh R h1 h2 e
    cases b with
    | isinstance=>exact ZlK I R h1 h2 e fun r tk z=>o.val R (.bool _) z
    | _=>cases q
   | cons h3 r=>
    cases r with
    | nil=>exact e.elim
    | cons _ _=>exact e.elim
end
structure AOk2 (A:Around)(n:Nat):Prop where
 depth:A.depth+4 * n+6 < recursionLimit
 units:A.units+20 * n+110 < cLine
theorem AOk2.room {A:Around}{n:Nat}(h:AOk2 A n):Room A:=by have:=h.units; unfold Room; exact lk6 this rfl
theorem AOk2.call {A:Around}{n:Nat}(h:AOk2 A n):AOk A n:=⟨lk7 h.depth rfl,lk7 h.units rfl⟩
structure EnvOk (X:Cx)(A:Around)(env:Env)(Pv:Pr)(n:Nat)(sc:Sc):Prop where
 stk:A.frames=some Pv.st
 top:env.func≠none->env.frame≠none/\∃outer,Pv.st=env::outer
 ok:AOk2 A n
 hh:sc.hd=true->A.handled=none
 kind:env.scope.kind=.function
 glob:env.globals=mainGlobals
 bi:env.builtins=builtinsNs
 names:∀x k,sc.sc.names.lookup x=some k->env.kindOf x=some k\/(k=.free/\env.kindOf x=some .cell)
 cl:∀x,env.kindOf x=some .cell\/env.kindOf x=some .free->∃c,env.cells.lookup x=some c
theorem vNone {v:V}(h:isNone v=true):v=.none:=by cases v <;> first | rfl | cases h
theorem vBool {v:V}{b:Bool}(h:aBool v=some b):v=.bool b:=by cases v <;> first | (cases h; rfl) | cases h
theorem vStr {v:V}{b:Str}(h:aStr v=some b):v=.str b:=by cases v <;> first | (cases h; rfl) | cases h
section
variable {sc:Sc}
noncomputable def SE (X:Cx)(n:Nat)(sc:Sc)(p:PE)(e:Expr):Prop:=∀(A:Around) (env:Env) (Pv:Pr) (W:Wd) (σ:St) (s:Shared) (Q:V->St->Prop) (E:EP),
 EnvOk X A env Pv n sc->At X env Pv W σ s->wpE X.P (CW X.P n) E p σ Q->Ew X A env Pv (eval e env) W σ s (VQ X Q) E
noncomputable def BQ (Q:Bool->St->Prop)(b:Bool)(_:Wd)(σ:St)(_:Shared):Prop:=Q b σ
noncomputable def ST (X:Cx)(n:Nat)(sc:Sc)(p:PC)(e:Expr):Prop:=∀(A:Around) (env:Env) (Pv:Pr) (W:Wd) (σ:St) (s:Shared) (Q:Bool->St->Prop) (E:EP),
 EnvOk X A env Pv n sc->At X env Pv W σ s->wpT X.P (CW X.P n) E p σ Q->Ew X A env Pv (isTrue e env (eval e env)) W σ s (BQ Q) E
inductive VsQ (X:Cx)(Q:List V->St->Prop)(vs:List Value)(W':Wd)(σ':St)(s':Shared):Prop
 | mk (avs:List V) (r:VRs X W' vs avs) (h:Q avs σ')
noncomputable def SEs (X:Cx)(n:Nat)(sc:Sc)(p:PEs)(es:List Expr):Prop:=∀(A:Around) (env:Env) (Pv:Pr) (W:Wd) (σ:St) (s:Shared) (Q:List V->St->Prop) (E:EP),
 EnvOk X A env Pv n sc->At X env Pv W σ s->wpEs X.P (CW X.P n) E p σ Q->Ew X A env Pv (spliced (es.map fun e=>(false,eval e env))) W σ s (VsQ X Q) E
section
variable {A:Around}{env:Env}{Pv:Pr}{W:Wd}{σ:St}{s:Shared}{E:EP}
theorem At.toks {tk:Nat}(at_:At X env Pv W σ s):At X env Pv W σ { s with toks:=tk }:=⟨at_.rel,at_.fr⟩
theorem At.tf {tk:Nat}(at_:At X env Pv W σ s):Tf X env Pv W σ s W σ { s with toks:=tk }:=⟨.refl,at_.toks,⟨rfl,rfl,rfl⟩⟩
theorem At.fin {α:Type}{R:α->Wd->St->Shared->Prop}{v:α}{tk:Nat}(at_:At X env Pv W σ s)(h:R v W σ { s with toks:=tk }):Go X env Pv W σ s R v { s with toks:=tk }:=⟨W,σ,at_.tf,h⟩
theorem At.val {Q:V->St->Prop}{v:Value}{x:V}{tk:Nat}(at_:At X env Pv W σ s)(r:VR X W v x)(h:Q x σ):Go X env Pv W σ s (VQ X Q) v { s with toks:=tk }:=at_.fin ⟨x,r,h⟩
theorem At.bl {Q:Bool->St->Prop}{b:Bool}{tk:Nat}(at_:At X env Pv W σ s)(h:Q b σ):Go X env Pv W σ s (BQ Q) b { s with toks:=tk }:=at_.fin (R:=BQ Q) h
theorem At.op {fz:Bool}{Q:V->St->Prop}(at_:At X env Pv W σ s):OpQ X fz W σ.H s (give fz σ Q) (Go X env Pv W σ s (VQ X Q)) where
 sz:=fun ø h=>h.1
 out:=fun r v' s' W' H' T q g=>by
  have t:=T.tf at_
  cases r with
  | val x=>obtain ⟨a,rfl⟩:=q; exact ⟨_,_,t,x,a,g⟩
  | newList xs=>cases fz <;> (obtain ⟨a,rfl⟩:=q; exact ⟨_,_,t,_,a,g.2⟩)
theorem VQ.e {Q:V->St->Prop}{v:Value}{G:Prop}(q:VQ X Q v W σ s)(g:∀x,VR X W v x->Q x σ->G):G:=by obtain ⟨x,r,h⟩:=q; exact g x r h
theorem VsQ.e {Q:List V->St->Prop}{v:List Value}{G:Prop}(q:VsQ X Q v W σ s)(g:∀x,VRs X W v x->Q x σ->G):G:=by obtain ⟨x,r,h⟩:=q; exact g x r h
theorem Go.e {α:Type}{R:α->Wd->St->Shared->Prop}{a:α}{s':Shared}{G:Prop}(q:Go X env Pv W σ s R a s')(g:∀W' σ',Tf X env Pv W σ s W' σ' s'->R a W' σ' s'->G):G:=by obtain ⟨W',σ',t,r⟩:=q; exact g W' σ' t r
theorem SE.bind {β:Type}{p:PE}{e:Expr}{Q:V->St->Prop}{f:Value->Sem β}{R:β->Wd->St->Shared->Prop}(he:SE X n sc p e)(ok:EnvOk X A env Pv n sc)(at_:At X env Pv W σ s)(hw:wpE X.P (CW X.P n) E p σ Q)
  (g:∀v W1 σ1 s1' x,At X env Pv W1 σ1 s1'->Wd.Le W W1->VR X W1 v x->Q x σ1->Ew X A env Pv (f v) W1 σ1 s1' R E):Ew X A env Pv (eval e env >>= f) W σ s R E:=
 Ew.bindT ((he A env Pv W σ s _ E ok at_ hw).mono fun v W1 σ1 s1' ø q at1 le=>q.e fun x r h=>g v W1 σ1 s1' x at1 le r h)
theorem SE.hold {β:Type}{p:PE}{e:Expr}{Q:V->St->Prop}{f:Value->Sem β}{vs:List Value}{R:β->Wd->St->Shared->Prop}(he:SE X n sc p e)(ok:EnvOk X A env Pv n sc)(at_:At X env Pv W σ s)(hw:wpE X.P (CW X.P n) E p σ Q)
  (g:∀v W1 σ1 s1' x,At X env Pv W1 σ1 s1'->Wd.Le W W1->VR X W1 v x->Q x σ1->Ew X A env Pv (f v) W1 σ1 s1' R E):Ew X A env Pv (holding vs (eval e env) >>= f) W σ s R E:=
 Ew.bindT (Ew.holding ((he A env Pv W σ s _ E ok at_ hw).mono fun v W1 σ1 s1' ø q at1 le=>q.e fun x r h=>g v W1 σ1 s1' x at1 le r h))
theorem SE.two {β:Type}{l r:PE}{l' r':Expr}{Q:V->V->St->Prop}{f:Value->Value->Sem β}{R:β->Wd->St->Shared->Prop}(hl:SE X n sc l l')(hr:SE X n sc r r')(ok:EnvOk X A env Pv n sc)(at_:At X env Pv W σ s)(hw:wpE X.P (CW X.P n) E l σ fun x σ1=>wpE X.P (CW X.P n) E r σ1 (Q x))
  (g:∀a b W1 σ1 s1' x y,At X env Pv W1 σ1 s1'->VR X W1 a x->VR X W1 b y->Q x y σ1->Ew X A env Pv (f a b) W1 σ1 s1' R E):Ew X A env Pv (eval l' env >>= fun a=>holding [a] (eval r' env) >>= f a) W σ s R E:=
 hl.bind ok at_ hw fun a W1 σ1 s1' x at1 le hx h1'=>hr.hold ok at1 h1' fun b W2 σ2 s2' y at2 le2' hy h2'=>g a b W2 σ2 s2' x y at2 (hx.le le2') hy h2'
theorem bk (K:CxOk X)(R:RelH X W σ.H s.heap){a:Addr}{m:Str->Option Value}(h:X.hb.Ns a m):s.heap.Ns a m:=h.keeps R.bkeep
theorem ZkF {v:V}{c:Const}{k:Nat}{pos:Pos}(hc:chkC v c=true):SE X n sc (.cst v) (.Constant c k pos):=by
 intro A env Pv W σ s Q E ok at_ h
 show wpAny _ A (constValue env c) _ _ s
 cases c with
 | none=>cases vNone hc; exact wpAny_pure (at_.val (tk:=s.toks) .none h)
 | bool b=>exact ZaK (o:=aBool v) (f:=fun c=>c==b) hc fun c e q=>by cases vBool e; cases beq_iff_eq.mp q; exact wpAny_pure (at_.val (tk:=s.toks) (.bool _) h)
 | int i=>exact ZaK (o:=aInt v) (f:=fun c=>decide (c=i)) hc fun c e q=>by cases vInt e; cases of_decide_eq_true q; exact wpAny_mkInt (at_.val (.int _ _) h)
 | str t=>exact ZaK (o:=aStr v) (f:=fun c=>decide (c=t)&&PyData.strOk t&&decide (t.length<=SZ)) hc fun c e q=>Zaf q fun q1 q2 q3=>by cases vStr e; cases of_decide_eq_true q1; exact wpAny_mkText (at_.val (.str _ _ q2 (of_decide_eq_true q3)) h)
 | _=>cases hc
theorem ZeL {i:Nat}{v:V}{Ex:Value->Shared->Prop}{Q:Value->Shared->Prop}(ok:EnvOk X A env Pv n sc)(at_:At X env Pv W σ s)(hk:kLoc sc (X.nm i)=true)(hd:nDbg (X.nm i)=true)(ev:σ.loc i=some v)
  (fin:∀cv,VR X W cv v->Q cv s):wpAny (model X.prog X.w) A (loadName env (X.nm i)) Q Ex s:=by
 have hd:=(and2 hd).2
 have cellc:env.kindOf (X.nm i)=some .cell->wpAny (model X.prog X.w) A (loadName env (X.nm i)) Q Ex s:=fun q=>by
  obtain ⟨c,cv,a,b,r⟩:=at_.fr.cells i v ev (.inl q)
  exact wpAny_loadName_cell ok.kind q a b (fin cv r)
 have key:∀k,sc.sc.names.lookup (X.nm i)=some k->nkNo k≠0->nkNo k≠4->wpAny (model X.prog X.w) A (loadName env (X.nm i)) Q Ex s:=fun k e h0 h4=>by
  rcases ok.names _ _ e with q | ⟨_,q⟩
  ·cases k with
   | «local»=>
    obtain ⟨m,hn,hm⟩:=at_.fr.ns
    obtain ⟨cv,hcv,r⟩:=hm i v ev q
    exact wpAny_loadName_local ok.kind q hn hcv (fin cv r)
   | cell=>exact cellc q
   | free=>
    obtain ⟨c,cv,a,b,r⟩:=at_.fr.cells i v ev (.inr q)
    exact wpAny_loadName_free ok.kind q a b (fin cv r) (Bool.not_eq_true' _▸hd)
   | globalExplicit=>exact absurd rfl h0
   | globalImplicit=>exact absurd rfl h4
  ·exact cellc q
 exact Zan hk fun h1 h2=>by
  have h1:=Nat.le_of_ble_eq_true h1
  have h2:=Nat.le_of_ble_eq_true h2
  cases q:sc.sc.names.lookup (X.nm i) with
  | none=>
   have e:knd sc (X.nm i)=0:=by unfold knd; rw [q]
   rw [e] at h1; exact absurd h1 (by decide)
  | some k=>
   have e:knd sc (X.nm i)=nkNo k:=by unfold knd; rw [q]
   rw [e] at h1 h2
   exact key k q (fun z=>by rw [z] at h1; exact absurd h1 (by decide)) fun z=>by rw [z] at h2; exact absurd h2 (by decide)
theorem ZjD {x:Str}(h:nDbg x=true):(x==("__debug__":Str))=false:=Bool.not_eq_true' _▸(and2 h).1
theorem ZkW {i:Nat}{x:Str}{pos:Pos}(hx:x=X.nm i)(hk:kLoc sc x=true)(hd:nDbg x=true):SE X n sc (.loc i) (.Name x pos):=by
 intro A env Pv W σ s Q E ok at_ h
 subst hx
 exact Zab h fun v ev hq=>wpAny_Name (ZeL ok at_ hk hd ev fun cv r=>at_.val (tk:=s.toks) r hq) (ZjD hd)
theorem Zci (K:CxOk X){i:Nat}{x:Str}{pos:Pos}{v:V}{Ex:Value->Shared->Prop}{Q:Value->Shared->Prop}(ok:EnvOk X A env Pv n sc)(at_:At X env Pv W σ s)(hx:x=X.nm i)(hk:kGlob sc x=true)(hd:nDbg x=true)(ev:X.P.glob i=some v)
  (fin:∀cv,(∀W,VR X W cv v)->Q cv s):wpAny (model X.prog X.w) A (eval (.Name x pos) env) Q Ex s:=by
 subst hx
 refine wpAny_Name ?_ (ZjD hd)
 have e:=Zd4 (Nat.eq_of_beq_eq_true hk) (by decide)
 have q:env.kindOf (X.nm i)=some .globalImplicit:=(ok.names _ _ e).elim id fun z=>nomatch z.1
 rw [loadName_read ok.kind q]
 cases K.glob i v ev with
 | main cv mg ng hv r=>exact loadGlobal_global (by rw [ok.glob]; exact bk K at_.rel ng) hv (fin cv r)
 | bi cv mg mb ng nb hv hb r=>exact loadGlobal_builtin (by rw [ok.glob]; exact bk K at_.rel ng) hv (by rw [ok.bi]; exact bk K at_.rel nb) hb (fin cv r)
theorem Za0 (K:CxOk X){i:Nat}{x:Str}{pos:Pos}(hx:x=X.nm i)(hk:kGlob sc x=true)(hd:nDbg x=true):SE X n sc (.glob i) (.Name x pos):=
 fun A env Pv W σ s Q E ok at_ h=>Zab h fun v ev hq=>Zci K ok at_ hx hk hd ev fun cv r=>at_.val (tk:=s.toks) (r W) hq
theorem ZiZ {M:Model}{A:Around}{Ex:Value->Shared->Prop}{vs:List Value}{m:Sem Value}{Q:Value->Shared->Prop}(h:wpAny M A m Q Ex s):wpAny M A (operate vs m) Q Ex s:=by
 intro Γ p hΓ
 rw [Sem.wp_operate]; exact h Γ p hΓ
theorem Zk1 {fz:Bool}{op:BOp}{l r:PE}{l' r':Expr}{pos:Pos}(hl:SE X n sc l l')(hr:SE X n sc r r'):SE X n sc (.bin fz op l r) (.BinOp l' (opOf op) r' pos):=by
 intro A env Pv W σ s Q E ok at_ h
 rw [eval_BinOp]
 exact hl.two hr ok at_ h fun a b W1 σ1 s1' x y at1 hx hy h1'=>Ew.standAt (Ew.operate (Zab h1' fun x' ex h1'=>Zab h1' fun y' ey h1'=>ZlO at1.op at1.rel (Zao at1.rel hx ex) (Zao at1.rel hy ey) h1'))
theorem Zj0 {e:PE}{x:Expr}{pos:Pos}(he:SE X n sc e x):SE X n sc (.neg e) (.UnaryOp .USub x pos):=fun A env Pv W σ s Q E ok at_ h=>
 he.bind (f:=fun v=>do standAt pos; holding [v] (unaryOp .USub v)) ok at_ h fun a W1 σ1 s1' y at1 ø hy h1'=>Zab h1' fun i ei h1'=>ZbJ hy ei fun t q=>by
  subst q; exact Ew.standAt (Ew.holding (neg_int (at1.val (.int _ _) h1')))
theorem Zky {e:PE}{x:Expr}{pos:Pos}(he:SE X n sc e x):SE X n sc (.not e) (.UnaryOp .Not x pos):=fun A env Pv W σ s Q E ok at_ h=>
 he.bind (f:=fun v=>do standAt pos; holding [v] (unaryOp .Not v)) ok at_ h fun a W1 σ1 s1' y at1 ø hy h1'=>
  Ew.standAt (Ew.holding (not_of (Zcb (y:=y) at1.rel hy h1' fun b tk q=>at1.val (.bool _) q)))
theorem Zff {op:CmpOp}{e:Expr}(h:Nat.ble (xu e).tag 15=true):behindInMarks op e=false:=by
 cases e <;> first | rfl | cases h
theorem At.cmp {op:COp}{a b:Value}{x y:V}{k:Bool->Prop}{Q:Value->Shared->Prop}{Ex:Value->Shared->Prop}(at_:At X env Pv W σ s)(ok:EnvOk X A env Pv n sc)(hx:VR X W a x)(hy:VR X W b y)(h:cmpK σ.H op x y k)(g:∀c tk,k c->Q (.bool c) { s with toks:=tk }):wpAny (model X.prog X.w) A (compareOp (cmpOf op) a b) Q Ex s:=
 Zlo at_.rel ok.ok.room hx hy g h
theorem ZkK {op:COp}{l r:PE}{l' r':Expr}{pos:Pos}(hl:SE X n sc l l')(hr:SE X n sc r r')(hs:Nat.ble (xu r').tag 15=true):SE X n sc (.cmp op l r) (.Compare l' [cmpOf op] [r'] pos):=by
 intro A env Pv W σ s Q E ok at_ h
 rw [eval_Compare1,markedBehindIn_of_false (Zff hs)]
 exact hl.two hr ok at_ h fun a b W1 σ1 s1' x y at1 hx hy h1'=>Ew.standAt (Ew.operate (at1.cmp ok hx hy h1' fun c tk q=>at1.val (.bool _) q))
theorem Zh2 {op:COp}{l r:PE}{l' r':Expr}{pos:Pos}(hl:SE X n sc l l')(hr:SE X n sc r r')(hs:Nat.ble (xu r').tag 15=true):ST X n sc (.e (.cmp op l r)) (.Compare l' [cmpOf op] [r'] pos):=by
 intro A env Pv W σ s Q E ok at_ h
 rw [isTrue_Compare1,markedBehindIn_of_false (Zff hs)]
 exact hl.two hr ok at_ h fun a b W1 σ1 s1' x y at1 hx hy h1'=>Ew.standAt (wpAny_bind (ZiZ (at1.cmp ok hx hy h1' fun c tk q=>wpAny_holding (wpAny_truthy_bool (at1.bl q)))))
theorem Zdm {M:Model}{A:Around}{E:Value->Shared->Prop}{s:Shared}{vs ks:List Value}{Q:Unit->Shared->Prop}(h:Q () s):wpAny M A (release vs ks) Q E s:=by
 intro Γ p hΓ
 rw [Sem.wp_release]; exact h
theorem SE.chain {β:Type}{o:COp}{l r:PE}{l' r':Expr}{pos:Pos}{Q:V->Bool->St->Prop}{f:Value->Sem β}{g:Value->Sem β}{R:β->Wd->St->Shared->Prop}(hl:SE X n sc l l')(hr:SE X n sc r r')(ok:EnvOk X A env Pv n sc)(at_:At X env Pv W σ s)
  (hw:wpE X.P (CW X.P n) E l σ fun x σ1=>wpE X.P (CW X.P n) E r σ1 fun y σ2=>cmpK σ2.H o x y fun c=>Q y c σ2)
  (h1:∀b W1 σ1 s1' y,At X env Pv W1 σ1 s1'->VR X W1 b y->Q y true σ1->Ew X A env Pv (f b) W1 σ1 s1' R E) (h2:∀W1 σ1 s1' y,At X env Pv W1 σ1 s1'->Q y false σ1->Ew X A env Pv (g (.bool false)) W1 σ1 s1' R E):
  Ew X A env Pv (eval l' env >>= fun left=>holding [left] (eval r' env) >>= fun rv=>standAt pos >>= fun ø=>holding [left,rv] (compareOp (cmpOf o) left rv) >>= fun c₁=>release [left,rv] [c₁] >>= fun ø=>holding [c₁,rv] (truthy c₁) >>= fun t=>if t=true then f rv else g c₁) W σ s R E:=
 hl.two hr ok at_ hw fun a b W1 σ1 s1' x y at1 hx hy h1'=>Ew.standAt (wpAny_bind (wpAny_holding (at1.cmp ok hx hy h1' fun c tk q=>wpAny_bind (Zdm (wpAny_bind (wpAny_holding (wpAny_truthy_bool (Ew.from at1.tf (by
  cases c with
  | true=>exact h1 b W1 σ1 _ y at1.toks hy q
  | false=>exact h2 W1 σ1 _ y at1.toks q)))))))))
end
end
end Mine
end
section
set_option backward.match.sparseCases true
namespace Mine
open PySem PySem.W PySem.Calls PyProof.Rows
section
variable {sc:Sc}
theorem ZdJ {e:Expr}{env:Env}{t:Sem Value}(h:plainTest e=true)(h6:tg e 6=false):
  isTrue e env t=(do let v ← t; standAt e.pos; holding [v] (truthy v)):=by
 cases e with
 | UnaryOp op x p=>
  cases op with
  | Not=>cases h
  | _=>rfl
 | Compare _ _ _ _=>cases h6
 | BoolOp _ _ _=>cases h
 | IfExp _ _ _ _=>cases h
 | _=>rfl
theorem Zlx {e:PE}{x:Expr}(he:SE X n sc e x)(h:plainTest x=true)(h6:tg x 6=false):ST X n sc (.e e) x:=by
 intro A env Pv W σ s Q E ok at_ hw
 rw [ZdJ h h6]
 exact he.bind ok at_ hw fun a W1 σ1 s1' y at1 ø hy h1'=>Ew.standAt (Ew.holding (Zcb (y:=y) at1.rel hy h1' fun b tk q=>at1.bl q))
theorem ST.bind {β:Type}{A:Around}{env:Env}{Pv:Pr}{W:Wd}{σ:St}{s:Shared}{E:EP}{p:PC}{e:Expr}{Q:Bool->St->Prop}{f:Bool->Sem β}{R:β->Wd->St->Shared->Prop}(he:ST X n sc p e)(ok:EnvOk X A env Pv n sc)(at_:At X env Pv W σ s)(hw:wpT X.P (CW X.P n) E p σ Q)
  (g:∀b W1 σ1 s1',At X env Pv W1 σ1 s1'->Q b σ1->Ew X A env Pv (f b) W1 σ1 s1' R E):Ew X A env Pv (isTrue e env (eval e env) >>= f) W σ s R E:=
 Ew.bindT ((he A env Pv W σ s _ E ok at_ hw).mono fun v W1 σ1 s1' ø q at1 le=>g v W1 σ1 s1' at1 q)
theorem Zh0 {c:PC}{x:Expr}{pos:Pos}(hc:ST X n sc c x):ST X n sc (.not c) (.UnaryOp .Not x pos):=fun A env Pv W σ s Q E ok at_ h=>
 hc.bind (f:=fun b=>pure (!b)) ok at_ h fun b W1 σ1 s1' at1 h1'=>Ew.pure (R:=BQ Q) at1 h1'
noncomputable def SAll (X:Cx)(n:Nat)(sc:Sc)(p:PCs)(es:List Expr):Prop:=∀(A:Around) (env:Env) (Pv:Pr) (W:Wd) (σ:St) (s:Shared) (Q:Bool->St->Prop) (E:EP),
 EnvOk X A env Pv n sc->At X env Pv W σ s->(wpAllT X.P (CW X.P n) E p σ Q->Ew X A env Pv (allTrue .And es env) W σ s (BQ Q) E)/\(wpAnyT X.P (CW X.P n) E p σ Q->Ew X A env Pv (allTrue .Or es env) W σ s (BQ Q) E)
theorem ZeG:SAll X n sc .nil []:=fun A env Pv W σ s Q E ok at_=>⟨fun h=>Ew.pure (R:=BQ Q) at_ h,fun h=>Ew.pure (R:=BQ Q) at_ h⟩
theorem Zef {c:PC}{r:PCs}{x:Expr}{xs:List Expr}(hc:ST X n sc c x)(hr:SAll X n sc r xs):SAll X n sc (.cons c r) (x::xs):=fun A env Pv W σ s Q E ok at_=>
 ⟨fun h=>hc.bind (f:=fun b=>match BoolOp.And,b with | .And,false=>pure false | .Or,true=>pure true | _,_=>allTrue .And xs env) ok at_ h fun b W1 σ1 s1' at1 h1'=>by
  cases b with
  | false=>exact Ew.pure (R:=BQ Q) at1 h1'
  | true=>exact (hr A env Pv W1 σ1 s1' Q E ok at1).1 h1',
 fun h=>hc.bind (f:=fun b=>match BoolOp.Or,b with | .And,false=>pure false | .Or,true=>pure true | _,_=>allTrue .Or xs env) ok at_ h fun b W1 σ1 s1' at1 h1'=>by
  cases b with
  | true=>exact Ew.pure (R:=BQ Q) at1 h1'
  | false=>exact (hr A env Pv W1 σ1 s1' Q E ok at1).2 h1'⟩
theorem Zil {cs:PCs}{xs:List Expr}{pos:Pos}(h:SAll X n sc cs xs):ST X n sc (.and cs) (.BoolOp .And xs pos):=fun A env Pv W σ s Q E ok at_ hw=>(h A env Pv W σ s Q E ok at_).1 hw
theorem Zj9 {cs:PCs}{xs:List Expr}{pos:Pos}(h:SAll X n sc cs xs):ST X n sc (.or cs) (.BoolOp .Or xs pos):=fun A env Pv W σ s Q E ok at_ hw=>(h A env Pv W σ s Q E ok at_).2 hw
noncomputable def SBool (X:Cx)(n:Nat)(sc:Sc)(p:PEs)(es:List Expr):Prop:=∀(A:Around) (env:Env) (Pv:Pr) (W:Wd) (σ:St) (s:Shared) (Q:V->St->Prop) (E:EP) (pos:Pos),
 EnvOk X A env Pv n sc->At X env Pv W σ s->(wpAnd X.P (CW X.P n) E p σ Q->Ew X A env Pv (boolOp pos .And (evalEach es env)) W σ s (VQ X Q) E)/\
  (wpOr X.P (CW X.P n) E p σ Q->Ew X A env Pv (boolOp pos .Or (evalEach es env)) W σ s (VQ X Q) E)
theorem ZdV {es:List Expr}:SBool X n sc .nil es:=fun A env Pv W σ s Q E pos ok at_=>⟨fun h=>h.elim,fun h=>h.elim⟩
theorem ZdT {e:PE}{x:Expr}(he:SE X n sc e x):SBool X n sc (.cons e .nil) [x]:=fun A env Pv W σ s Q E pos ok at_=>⟨fun h=>he A env Pv W σ s Q E ok at_ h,fun h=>he A env Pv W σ s Q E ok at_ h⟩
theorem ZdF {e f:PE}{r:PEs}{x y:Expr}{xs:List Expr}(he:SE X n sc e x)(hr:SBool X n sc (.cons f r) (y::xs)):SBool X n sc (.cons e (.cons f r)) (x::y::xs):=fun A env Pv W σ s Q E pos ok at_=>
 ⟨fun h=>he.bind (f:=fun v=>standAt pos >>= fun ø=>holding [v] (truthy v) >>= fun t=>match BoolOp.And,t with
   | .And,false | .Or,true=>pure v
   | _,_=>boolOp pos .And (evalEach (y::xs) env)) ok at_ h fun v W1 σ1 s1' z at1 ø hz h1'=>Ew.standAt (wpAny_bind (wpAny_holding (Zcb (y:=z) at1.rel hz h1' fun b tk q=>Ew.from at1.tf (by
  cases b with
  | false=>exact Ew.pure at1.toks ⟨z,hz,q⟩
  | true=>exact (hr A env Pv W1 σ1 _ Q E pos ok at1.toks).1 q)))),
 fun h=>he.bind (f:=fun v=>standAt pos >>= fun ø=>holding [v] (truthy v) >>= fun t=>match BoolOp.Or,t with
   | .And,false | .Or,true=>pure v
   | _,_=>boolOp pos .Or (evalEach (y::xs) env)) ok at_ h fun v W1 σ1 s1' z at1 ø hz h1'=>Ew.standAt (wpAny_bind (wpAny_holding (Zcb (y:=z) at1.rel hz h1' fun b tk q=>Ew.from at1.tf (by
  cases b with
  | true=>exact Ew.pure at1.toks ⟨z,hz,q⟩
  | false=>exact (hr A env Pv W1 σ1 _ Q E pos ok at1.toks).2 q))))⟩
theorem Zkd {t:PC}{a b:PE}{t' a' b':Expr}{pos:Pos}(ht:ST X n sc t t')(ha:SE X n sc a a')(hb:SE X n sc b b'):SE X n sc (.ite t a b) (.IfExp t' a' b' pos):=fun A env Pv W σ s Q E ok at_ h=>
 ht.bind (f:=fun c=>if c=true then eval a' env else eval b' env) ok at_ h fun c W1 σ1 s1' at1 h1'=>by
  cases c with
  | true=>exact ha A env Pv W1 σ1 s1' Q E ok at1 h1'
  | false=>exact hb A env Pv W1 σ1 s1' Q E ok at1 h1'
theorem Zc1:SEs X n sc .nil []:=fun A env Pv W σ s Q E ok at_ h=>spliced_nil ⟨W,σ,.refl at_,[],.nil,h⟩
theorem ZcJ {e:PE}{r:PEs}{x:Expr}{xs:List Expr}(he:SE X n sc e x)(hr:SEs X n sc r xs):SEs X n sc (.cons e r) (x::xs):=fun A env Pv W σ s Q E ok at_ h=>
 spliced_cons (wpAny_mono (he A env Pv W σ s _ E ok at_ h) (fun v s1' q=>q.e fun W1 σ1 T q=>q.e fun z hz h1'=>
  wpAny_mono (hr A env Pv W1 σ1 s1' _ E ok T.at_ h1') (fun vs s2' q=>q.e fun W2 σ2 T2 q=>q.e fun zs hzs h2'=>⟨W2,σ2,T.trans T2,z::zs,.cons (hz.le T2.stp.le) hzs,h2'⟩) fun ø ø x=>x.back T) fun ø ø x=>x)
theorem Zia {x:Expr}{env:Env}{xs:List Expr}(h:Nat.ble 1 (xu x).tag=true):starEach (x::xs) env=(false,eval x env)::starEach xs env:=by
 cases x <;> first | rfl | cases h
theorem ZfE {c:Ck}{env:Env}{p:PEs}:∀{es:List Expr},chkEs c sc p es=true->starEach es env=es.map fun e=>(false,eval e env):=
 PEs.rec (motive_1:=fun ø=>True) (motive_2:=fun p=>∀{es:List Expr},chkEs c sc p es=true->starEach es env=es.map fun e=>(false,eval e env)) (motive_3:=fun ø=>True) (motive_4:=fun ø=>True) (motive_5:=fun ø=>True) (motive_6:=fun ø=>True) (motive_7:=fun ø=>True)
  (fun ø=>trivial) (fun ø=>trivial) (fun ø=>trivial) (fun ø ø ø=>trivial) (fun ø ø ø ø ø ø=>trivial) (fun ø ø=>trivial) (fun ø ø=>trivial) (fun ø ø ø ø ø=>trivial) (fun ø ø ø ø ø ø ø ø=>trivial) (fun ø ø=>trivial) (fun ø ø=>trivial) (fun ø ø ø ø ø ø=>trivial) (fun ø ø ø=>trivial) (fun ø ø=>trivial) (fun ø ø=>trivial) (fun ø ø ø ø=>trivial) (fun ø ø ø ø ø ø ø=>trivial) (fun ø ø ø=>trivial) (fun ø ø ø ø ø=>trivial) (fun ø ø ø ø=>trivial) (fun ø ø ø ø ø ø ø=>trivial) (fun ø ø ø ø=>trivial) (fun ø ø ø ø ø ø=>trivial) (fun ø ø ø ø ø ø ø ø=>trivial)
  (fun h=>by rw [Zah h]; rfl)
  (fun e r ø ih es h=>ZaK h fun x hx h=>Zan h fun h1 h2=>by rw [Zbn hx,Zia (ZbI h1).1,ih h2,List.map_cons])
  trivial (fun ø ø=>trivial) trivial (fun ø ø ø ø ø ø=>trivial) (fun ø ø=>trivial) (fun ø ø=>trivial) (fun ø ø=>trivial) (fun ø ø=>trivial) trivial (fun ø ø ø ø=>trivial) trivial (fun ø ø=>trivial) p
theorem Zas {c:Ck}{env:Env}{pos:Pos}{p:PEs}{es:List Expr}(h:chkEs c sc p es=true):backTo pos (starEach es env)=es.map fun e=>(false,eval e env):=by
 rw [ZfE h]
 unfold backTo
 rw [List.map_map]
 rfl
theorem SEs.bind {β:Type}{A:Around}{env:Env}{Pv:Pr}{W:Wd}{σ:St}{s:Shared}{E:EP}{p:PEs}{es:List Expr}{Q:List V->St->Prop}{f:List Value->Sem β}{R:β->Wd->St->Shared->Prop}(he:SEs X n sc p es)(ok:EnvOk X A env Pv n sc)(at_:At X env Pv W σ s)(hw:wpEs X.P (CW X.P n) E p σ Q)
  (g:∀v W1 σ1 s1' x,At X env Pv W1 σ1 s1'->VRs X W1 v x->Q x σ1->Ew X A env Pv (f v) W1 σ1 s1' R E):Ew X A env Pv (spliced (es.map fun e=>(false,eval e env)) >>= f) W σ s R E:=
 Ew.bindT ((he A env Pv W σ s _ E ok at_ hw).mono fun v W1 σ1 s1' ø q at1 le=>q.e fun x r h=>g v W1 σ1 s1' x at1 r h)
theorem Zga {W:Wd}{vs:List Value}{xs:List V}(hv:VRs X W vs xs)(hz:xs.length<=SZ):vs.toArray.size<=sizeLine:=by rw [List.size_toArray,hv.length]; exact szLine hz
theorem ZhL {fz:Bool}{c:Ck}{es:PEs}{xs:List Expr}{pos:Pos}(he:SEs X n sc es xs)(hc:chkEs c sc es xs=true):SE X n sc (.list fz es) (.List xs pos):=by
 intro A env Pv W σ s Q E ok at_ h
 show Ew X A env Pv (standAt pos >>= fun ø=>spliced (backTo pos (starEach xs env)) >>= fun vs=>newList vs) W σ s _ E
 rw [Zas hc]
 exact Ew.standAt (he.bind ok at_ h fun vs W1 σ1 s1' zs at1 hzs h1'=>wpAny_newObj_type (at1.op.push (n:=0) (vs:=vs.toArray) (tk:=s1'.toks) at1.rel hzs h1') (Zga hzs h1'.1))
theorem Zk3 {c:Ck}{es:PEs}{xs:List Expr}{k:Nat}{pos:Pos}(he:SEs X n sc es xs)(hc:chkEs c sc es xs=true):SE X n sc (.tup es) (.Tuple xs k pos):=by
 intro A env Pv W σ s Q E ok at_ h
 show Ew X A env Pv (standAt pos >>= fun ø=>spliced (backTo pos (starEach xs env)) >>= fun vs=>newTuple vs) W σ s _ E
 rw [Zas hc]
 exact Ew.standAt (he.bind ok at_ h fun vs W1 σ1 s1' zs at1 hzs h1'=>wpAny_newObj_type ((at1.op (fz:=true)).fro (x:=.tup zs) (ob:=tupO vs.toArray 0) (tk:=s1'.toks) at1.rel (fun ø ø e=>Heap.get?_push_of_some _ e) (Zag _) (Heap.get?_push_size _ rfl) (.tup Zbr (hzs.le (at1.rel.leZ (Zag _))) h1'.1) h1'.2) (Zga hzs h1'.1))
theorem ZjO (K:CxOk X){W:Wd}{H:Hp}{s:Shared}(R:RelH X W H s.heap):(s.heap.objs.size==sysModules)=false:=by
 obtain ⟨o,e⟩:=K.main
 have lt:mainGlobals < s.heap.objs.size:=Heap.lt_size (R.bkeep _ _ e)
 exact beq_eq_false_iff_ne.mpr fun z=>absurd (z▸lt:mainGlobals < sysModules) (by decide)
theorem ZgJ (K:CxOk X){pos:Pos}:SE X n sc (.dict .nil) (.Dict [] [] pos):=by
 intro A env Pv W σ s Q E ok at_ h
 rw [eval_Dict_empty]
 refine Ew.standAt (wpAny_newObj_type ?_)
 have hn:=Zag s.heap
 obtain ⟨r,t⟩:=at_.rel.fresh (h':=s.heap.push (dictO #[] 0)) (l:=(s.heap.objs.size,s.heap.objs.size)) (c:=.dict []) (fun ø ø e=>Heap.get?_push_of_some _ e) hn hn ⟨[],Heap.DictOf.new s.heap,.nil,rfl,ZjO K at_.rel,Nat.zero_le _⟩
 have T:Tc X W σ.H s _ (σ.H.new (.dict [])) { s with heap:=s.heap.push (dictO #[] 0) }:=⟨t,r,⟨rfl,rfl,rfl⟩⟩
 exact ⟨_,⟨_,σ.loc⟩,T.tf at_,_,VR.ref (l:=(s.heap.objs.size,s.heap.objs.size)) Zbh,h.2.2⟩
theorem Zj8 {e i:PE}{v x:Expr}{pos:Pos}(he:SE X n sc e v)(hi:SE X n sc i x):SE X n sc (.idx e i) (.Subscript v x pos):=by
 intro A env Pv W σ s Q E ok at_ h
 rw [eval_Subscript]
 exact he.two hi ok at_ h fun a b W1 σ1 s1' y z at1 hy hz h1'=>Ew.standAt (ZmP (fun v r tk q h=>at1.val q h) at1.rel hy hz h1')
inductive OQ (X:Cx)(Q:Option V->St->Prop)(v:Value)(W':Wd)(σ':St)(s':Shared):Prop
 | mk (o:Option V) (r:VR X W' v (o.getD .none)) (h:Q o σ')
noncomputable def SO (X:Cx)(n:Nat)(sc:Sc)(p:PEo)(e:Option Expr):Prop:=∀(A:Around) (env:Env) (Pv:Pr) (W:Wd) (σ:St) (s:Shared) (Q:Option V->St->Prop) (E:EP),
 EnvOk X A env Pv n sc->At X env Pv W σ s->wpO X.P (CW X.P n) E p σ Q->Ew X A env Pv (valueOrNone (evalOpt e env)) W σ s (OQ X Q) E
theorem ZfQ:SO X n sc .none none:=fun A env Pv W σ s Q E ok at_ h=>Ew.pure at_ ⟨none,.none,h⟩
theorem Zfu {e:PE}{x:Expr}(he:SE X n sc e x):SO X n sc (.some e) (some x):=fun A env Pv W σ s Q E ok at_ h=>
 (he A env Pv W σ s _ E ok at_ h).mono fun v W1 σ1 s1' ø q=>q.e fun z hz h1'=>⟨some z,hz,h1'⟩
theorem OQ.e {Q:Option V->St->Prop}{v:Value}{W:Wd}{σ:St}{s:Shared}{G:Prop}(q:OQ X Q v W σ s)(g:∀x,VR X W v (x.getD .none)->Q x σ->G):G:=by obtain ⟨x,r,h⟩:=q; exact g x r h
theorem SO.then {β:Type}{A:Around}{env:Env}{Pv:Pr}{W0' W:Wd}{σ0 σ:St}{s0' s:Shared}{E:EP}{p:PEo}{e:Option Expr}{Q:Option V->St->Prop}{f:Value->Sem β}{vs:List Value}{Ro:β->Shared->Prop}(he:SO X n sc p e)(ok:EnvOk X A env Pv n sc)(T0':Tf X env Pv W0' σ0 s0' W σ s)(hw:wpO X.P (CW X.P n) E p σ Q)
  (g:∀v W1 σ1 s1' o,Tf X env Pv W0' σ0 s0' W1 σ1 s1'->Wd.Le W W1->VR X W1 v (o.getD .none)->Q o σ1->wpAny (model X.prog X.w) A (f v) Ro (EX X env Pv W0' σ0 s0' E) s1'):wpAny (model X.prog X.w) A (holding vs (valueOrNone (evalOpt e env)) >>= f) Ro (EX X env Pv W0' σ0 s0' E) s:=
 wpAny_bind (wpAny_holding (wpAny_mono (he A env Pv W σ s _ E ok T0'.at_ hw) (fun v s1' q=>q.e fun W1 σ1 T q=>q.e fun o r h=>g v W1 σ1 s1' o (T0'.trans T) T.stp.le r h) fun ø ø x=>x.back T0'))
theorem OpQ.from {A:Around}{env:Env}{Pv:Pr}{W0' W:Wd}{σ0 σ:St}{s0' s:Shared}{fz:Bool}{Q:V->St->Prop}(T:Tf X env Pv W0' σ0 s0' W σ s):OpQ X fz W σ.H s (give fz σ Q) (Go X env Pv W0' σ0 s0' (VQ X Q)) where
 sz:=fun ø h=>h.1
 out:=fun r v' s' W' H' t q g=>((T.at_.op (fz:=fz)).out r v' s' W' H' t q g).e fun W2 σ2 T2 q=>⟨W2,σ2,T.trans T2,q⟩
theorem Zln {fz:Bool}{e:PE}{lo hi:PEo}{v:Expr}{l u:Option Expr}{p pos:Pos}(he:SE X n sc e v)(hl:SO X n sc lo l)(hu:SO X n sc hi u):SE X n sc (.sl fz e lo hi) (.Subscript v (.Slice l u none p) pos):=by
 intro A env Pv W σ s Q E ok at_ h
 rw [eval_Subscript]
 refine he.bind ok at_ h fun a W1 σ1 s1' y at1 ø hy h1'=>?_
 show wpAny _ A (holding [a] (valueOrNone (evalOpt l env) >>= fun l=>holding [l] (valueOrNone (evalOpt u env)) >>= fun u=>holding [l,u] (valueOrNone (evalOpt none env)) >>= fun s=>newFields "slice" [l,u,s]) >>= fun i=>standAt pos >>= fun ø=>subscriptTail v (.Slice l u none p) a i) _ _ s1'
 refine wpAny_bind (wpAny_holding (wpAny_bind (wpAny_mono (hl A env Pv W1 σ1 s1' _ E ok at1 h1') (fun b s2' q=>q.e fun W2 σ2 T2 q=>q.e fun o2' hb h2'=>?_) fun ø ø x=>x)))
 refine hu.then ok T2 h2' fun c W3 σ3 s3' o3 T3 le3' hc h₃=>wpAny_bind (wpAny_holding (wpAny_pure ?_))
 exact Zab h₃ fun i1 e1' h4'=>Zab h4' fun i2 e2' h₅=>Zab h₅ fun x ex hr=>wpAny_mono (ZnL (value:=v) (slice:=.Slice l u none p) (OpQ.from (A:=A) T3) T3.at_.rel (Zao T3.at_.rel (hy.le T3.stp.le) ex) (ZhD (hb.le le3') e1') (ZhD hc e2') hr)
  (fun i s' h'=>wpAny_bind (wpAny_standAt h')) fun ø ø x=>x
end
end Mine
end
section
namespace Mine
open PySem PySem.W PySem.Calls PyProof.Rows
section
variable {sc:Sc}
theorem ZaO {M:Model}{A:Around}{E:Value->Shared->Prop}{s:Shared}{f:Value}{ts:List (Bool×Sem Value)}{Q:Args->Shared->Prop}(hp:∀t∈ts,t.1=false)
  (h:wpAny M A (spliced ts) (fun vs s'=>Q ⟨vs,[]⟩ s') E s):wpAny M A (evalArgs f true ts []) Q E s:=by
 cases ts with
 | nil=>exact wpAny_bind (wpAny_mono h (fun vs s' h'=>wpAny_bind (wpAny_pure (wpAny_holding (wpAny_bind (wpAny_pure (wpAny_bind (wpAny_pure (wpAny_pure h')))))))) fun ø ø x=>x)
 | cons t r=>
  obtain ⟨b,x⟩:=t
  cases (hp (b,x) (.head _):b=false)
  exact evalArgs_plain h
theorem Ziw {fz:Bool}{σ:St}{Q:V->St->Prop}{v:Value}{av:V}{W:Wd}{s:Shared}(R:RelH X W σ.H s.heap)(hv:VR X W v av)(g:giveV fz σ Q av){G:Prop}
  (k:∀W' H' av',Tc X W σ.H s W' H' s->VR X W' v av'->Q av' ⟨H',σ.loc⟩->G):G:=by
 have no:Q av σ->G:=fun g=>k W σ.H av (.refl R) hv g
 refine Zoa g (fun ø g=>?_) fun ø g=>no g
 cases q:aRef av with
 | none=>rw [q] at g; exact no g
 | some i=>
  rw [q] at g
  have g:(match cL (σ.H.get i) with | some xs=>Q (.lst xs) (σ.setH (σ.H.del i)) | none=>Q av σ):=g
  cases q2:cL (σ.H.get i) with
  | none=>rw [q2] at g; exact no g
  | some xs=>
   rw [q2] at g
   refine Zfd hv q fun l e hl ø=>?_
   obtain ⟨o,r,t,z⟩:=R.freeze (Zlh q2) hl
   exact k _ _ _ ⟨t,r,.refl _⟩ (e▸z) g
theorem ZaA {env:Env}{vs:List Expr}:((vs.map fun e=>((false:Bool),eval e env)).any (·.1))=false:=by
 induction vs with
 | nil=>rfl
 | cons x r ih=>exact ih
theorem Zbl {env:Env}{vs:List Expr}:∀t∈(vs.map fun e=>((false:Bool),eval e env)),t.1=false:=fun t ht=>
 (List.mem_map.mp ht).elim fun e q=>q.2▸rfl
theorem Zat {A:Around}{env:Env}{Pv:Pr}{W:Wd}{σ:St}{s:Shared}{E:EP}{as:PEs}{vs:List Expr}{f:Value}{Qv:List V->St->Prop}{Q:Args->Shared->Prop}(has:SEs X n sc as vs)(ok:EnvOk X A env Pv n sc)(at_:At X env Pv W σ s)(h:wpEs X.P (CW X.P n) E as σ Qv)
  (hq:∀cvs avs W' σ' s',Tf X env Pv W σ s W' σ' s'->VRs X W' cvs avs->Qv avs σ'->Q ⟨cvs,[]⟩ s'):
  wpAny (model X.prog X.w) A (evalArgs f true (vs.map fun e=>(false,eval e env)) []) Q (EX X env Pv W σ s E) s:=
 ZaO Zbl (wpAny_mono (has A env Pv W σ s _ E ok at_ h) (fun cvs s' q=>q.e fun W' σ' T q=>q.e fun avs hv h=>hq cvs avs W' σ' s' T hv h) fun ø ø x=>x)
theorem Go.from {α:Type}{env:Env}{Pv:Pr}{W W':Wd}{σ σ':St}{s s' s'':Shared}{R:α->Wd->St->Shared->Prop}{a:α}(T:Tf X env Pv W σ s W' σ' s')(q:Go X env Pv W' σ' s' R a s''):Go X env Pv W σ s R a s'':=q.e fun W2 σ2 T2 r=>⟨W2,σ2,T.trans T2,r⟩
theorem Zf8 (hK:CallM X n){A:Around}{env:Env}{Pv:Pr}{W W0':Wd}{σ σ0:St}{s s0':Shared}{E:EP}{fz:Bool}{k:Nat}{a:Addr}{cvs:List Value}{avs:List V}{Q:V->St->Prop}(T0':Tf X env Pv W0' σ0 s0' W σ s)(ok:AOk A n)(hq:A.handled=none\/X.quiet k=true)(hst:A.frames=some Pv.st)(hv:VRs X W cvs avs)(ha:X.fnA k=some a)
  (h:CW X.P n k avs σ.H (fun v H=>giveV fz (σ.setH H) Q v) (fun e H=>E e (σ.setH H))):
  wpAny (model X.prog X.w) A (call (.ref a) cvs []) (Go X env Pv W0' σ0 s0' (VQ X Q)) (EX X env Pv W0' σ0 s0' E) s:=by
 refine wpAny_call (codeAny_mono (hK A k a avs cvs W σ.H s _ _ ok hq ⟨_,hst,T0'.at_.fr.frs⟩ T0'.at_.rel hv ha h) fun r s' hr=>?_)
 cases r with
 | ok fl=>
  cases fl with
  | ret v=>
   obtain ⟨W',H',av,T,hv',g⟩:=hr
   exact Ziw (σ:=σ.setH H') T.rel hv' g fun W2 H2' av2 T2 hv2 hq=>⟨W2,⟨H2',σ.loc⟩,T0'.trans ((T.trans T2).tf T0'.at_),av2,hv2,hq⟩
  | _=>exact hr.elim
 | error e=>
  obtain ⟨W',H',i,l,k,T,he,hl,hg,hf,hE⟩:=hr
  exact EX.back T0' ⟨W',⟨H',σ.loc⟩,i,l,k,T.tf T0'.at_,he,hl,hg,hf,hE⟩
inductive BvC (b:B):Prop
 | ty (T:String) (e:bval b=.type T)
 | fn (id:String) (e:bval b=.builtin id)
theorem Zfw (b:B):BvC b:=by
 cases b <;> first | exact .ty _ rfl | exact .fn _ rfl
theorem Zda {A:Around}{M:Model}{E:Value->Shared->Prop}{s:Shared}{pos:Pos}{f:Value}{first:List Value}{args:List (Bool×Sem Value)}{Q:Value->Shared->Prop}(h:wpAny M A (evalArgs f true args []) (fun ø ø=>False) E s):
  wpAny M A (callWith pos f first args []) Q E s:=by
 unfold callWith
 exact wpAny_bind (wpAny_holding (wpAny_mono h (fun ø ø h1'=>h1'.elim) fun ø ø x=>x))
theorem Zar (x:Str)(p:Pos)(args:List Expr)(pos:Pos)(env:Env):eval (.Call (.Name x p) args [] pos) env=(eval (.Name x p) env >>= fun f=>callWith pos f [] (backTo pos (starEach args env)) []):=rfl
theorem Zi0 {W:Wd}{cf:Value}{g:V}{P:Prog}{K:CT}{E:EP}{fz:Bool}{Q:V->St->Prop}{G:Prop}(hg:VR X W cf g)(hb:∀b,g=.bt b->cf=bval b->G)(hf:∀k a,g=.fn k->cf=.ref a->X.fnA k=some a->G)(hc:∀k a,g=.cls k->cf=.ref a->X.clA k=some a->G)
  (no:(∀σ as,callF P K E fz σ g as Q->False)->G):G:=by
 cases hg with
 | bt b=>exact hb b rfl rfl
 | fn ha=>exact hf _ _ rfl rfl ha
 | cls ha=>exact hc _ _ rfl rfl ha
 | _=>exact no fun ø ø q=>q
noncomputable def MayQ (X:Cx)(A:Around)(g:V):Prop:=A.handled=none\/Qt X g
theorem MayQ.bt {A:Around}{b:B}(h:MayQ X A (.bt b)):quietB A b:=by
 cases h with
 | inl q=>exact .inl q
 | inr q=>cases q with
  | len=>exact .inr (.inl rfl)
  | isi=>exact .inr (.inr rfl)
theorem MayQ.fn {A:Around}{k:Nat}(h:MayQ X A (.fn k)):A.handled=none\/X.quiet k=true:=h.imp id fun q=>by cases q; assumption
theorem Zee (K:CxOk X)(hK:CallM X n){A:Around}{env:Env}{Pv:Pr}{W:Wd}{σ:St}{s:Shared}{E:EP}{Q:V->St->Prop}{fz:Bool}{as:PEs}{vs:List Expr}{pos:Pos}{cf:Value}{g:V}(ok:EnvOk X A env Pv n sc)(at1:At X env Pv W σ s)(has:SEs X n sc as vs)(hg:VR X W cf g)(hq:MayQ X A g)
  (h1':wpEs X.P (CW X.P n) E as σ fun vs σ2=>callF X.P (CW X.P n) E fz σ2 g vs Q)
  (hcls:∀k a,g=.cls k->cf=.ref a->X.clA k=some a->Ew X A env Pv (callWith pos cf [] (vs.map fun e=>(false,eval e env)) []) W σ s (VQ X Q) E):Ew X A env Pv (callWith pos cf [] (vs.map fun e=>(false,eval e env)) []) W σ s (VQ X Q) E:=by
 refine Zi0 (P:=X.P) (K:=CW X.P n) (E:=E) (fz:=fz) (Q:=Q) hg (fun b e e'=>?_) (fun k a e e' ha=>?_) hcls fun hb=>Zda (Zat has ok at1 h1' fun cvs avs W' σ' s' T hv hq=>hb _ _ hq)
 ·subst e e'
  have key:∀cvs avs W' σ' s',Tf X env Pv W σ s W' σ' s'->VRs X W' cvs avs->callF X.P (CW X.P n) E fz σ' (.bt b) avs Q->
    wpAny (model X.prog X.w) A (call (bval b) cvs []) (Go X env Pv W σ s (VQ X Q)) (EX X env Pv W σ s E) s':=fun cvs avs W' σ' s' T hv hq'=>
   K.isi.elim fun ø I=>ZiE (OpQ.from (A:=A) T) I hq.bt T.at_.rel hv hq'
  cases Zfw b with
  | ty T e=>rw [e] at key ⊢; exact PyProof.Rows.callWith_type ZaA (Zat has ok at1 h1' key)
  | fn id e=>rw [e] at key ⊢; exact callWith_builtin ZaA (Zat has ok at1 h1' key)
 ·subst e e'
  obtain ⟨o,fd,ho,hd⟩:=K.fnAt _ _ ha
  exact callWith_function (o:=o) (fd:=fd) (Zat has ok at1 h1' fun cvs avs W' σ' s' T hv hq'=>⟨⟨T.at_.rel.bkeep _ _ ho,hd⟩,Zf8 hK T ok.ok.call hq.fn ok.stk hv ha hq'⟩)
theorem ZdY (K:CxOk X){fz:Bool}{f:PE}{as:PEs}{x:Str}{p pos:Pos}{vs:List Expr}(hf:SE X n sc f (.Name x p))(hq:(sc.hd || qGlob X.ck f)=true){A:Around}{env:Env}{Pv:Pr}{W:Wd}{σ:St}{s:Shared}{Q:V->St->Prop}{E:EP}(ok:EnvOk X A env Pv n sc)(at_:At X env Pv W σ s)(h:wpE X.P (CW X.P n) E (.call fz f as) σ Q)
  (k:∀cf W1 σ1 s1' g,At X env Pv W1 σ1 s1'->VR X W1 cf g->MayQ X A g->(wpEs X.P (CW X.P n) E as σ1 fun vs σ2=>callF X.P (CW X.P n) E fz σ2 g vs Q)->
   Ew X A env Pv (callWith pos cf [] (vs.map fun e=>(false,eval e env)) []) W1 σ1 s1' (VQ X Q) E):
  Ew X A env Pv (eval (.Name x p) env >>= fun cf=>callWith pos cf [] (vs.map fun e=>(false,eval e env)) []) W σ s (VQ X Q) E:=by
 cases e:sc.hd with
 | true=>exact hf.bind ok at_ h fun cf W1 σ1 s1' g at1 ø hg h1'=>k cf W1 σ1 s1' g at1 hg (.inl (ok.hh e)) h1'
 | false=>
  rw [e] at hq
  cases f with
  | glob i=>exact Zab h fun v hv h=>hf.bind (Q:=fun g σ1=>g=v/\wpEs X.P (CW X.P n) E as σ1 fun vs σ2=>callF X.P (CW X.P n) E fz σ2 g vs Q) ok at_ (ZbL hv ⟨rfl,h⟩) fun cf W1 σ1 s1' g at1 ø hg h1'=>k cf W1 σ1 s1' g at1 hg (.inr (h1'.1▸K.qg i v hq hv)) h1'.2
  | _=>cases hq
theorem ZlS (K:CxOk X)(hK:CallM X n)(hno:∀k,X.clA k=none){c:Ck}{fz:Bool}{f:PE}{as:PEs}{x:Str}{p:Pos}{vs:List Expr}{pos:Pos}(hf:SE X n sc f (.Name x p))(hq:(sc.hd || qGlob X.ck f)=true)(has:SEs X n sc as vs)(hc:chkEs c sc as vs=true):SE X n sc (.call fz f as) (.Call (.Name x p) vs [] pos):=by
 intro A env Pv W σ s Q E ok at_ h
 rw [Zar,Zas hc]
 exact ZdY K hf hq ok at_ h fun cf W1 σ1 s1' g at1 hg hq h1'=>Zee K hK ok at1 has hg hq h1' fun k a ø ø ha=>by rw [hno] at ha; cases ha
theorem ZcX {o:Expr}{a:Str}{env:Env}{t:Sem Value}(h:notSuper o=true):attributeBase o a env t=t:=by
 cases o with
 | Call f l kw p=>
  cases f with
  | Name x p=>
   cases l with
   | nil=>cases kw with
    | nil=>cases h
    | cons _ _=>rfl
   | cons _ _=>rfl
  | _=>rfl
 | _=>rfl
theorem Zc9 {env:Env}{vs:List Expr}{pos:Pos}(h:vs.length<=20):methodCallForm (vs.length+([]:List Keyword).length) (vs.map fun e=>((false:Bool),eval e env)) (backToKw pos (keywordEach [] env))=true:=by
 unfold methodCallForm
 have:((vs.map fun e=>((false:Bool),eval e env)).all (!·.1))=true:=by
  rw [List.all_eq_true]
  intro t ht
  rw [Zbl t ht]; rfl
 rw [this]
 exact decide_eq_true (p:=vs.length+0+0 < 30) (Nat.lt_of_le_of_lt h (by decide))
end
section
variable {sc:Sc}
theorem ZhS {a b:List Int}(h:a.Perm b)(ha:Ordered true a):a=(srt b).reverse:=by
 have ha:a.Pairwise (·≥·):=ha
 have:=ZeV ((List.reverse_perm a).trans h) (List.pairwise_reverse.mpr ha)
 rw [← this,List.reverse_reverse]
theorem Zhl {g:V}(h:isSrt g=true):g=.bt .sorted:=ZgR h
theorem ZjM (K:CxOk X){c:Ck}{fz:Bool}{i k:Nat}{a:PE}{x:Str}{p p' kp pos:Pos}{y:Expr}(hf:SE X n sc (.glob i) (.Name x p))(ha:SE X n sc a y)(hc:chkE c sc a y=true):SE X n sc (.sortedRev fz i a) (.Call (.Name x p) [y] [⟨some (Str.ofString "reverse"),.Constant (.bool true) k p',kp⟩] pos):=by
 intro A env Pv W σ s Q E ok at_ h
 refine Zab h fun g hg h=>?_
 cases Zhl h.1
 refine wpAny_Call_Name_kw ?_
 refine wpAny_mono (hf A env Pv W σ s (fun v σ1=>v=.bt .sorted/\σ1=σ) E ok at_ (ZbL hg ⟨rfl,rfl⟩)) (fun cf s1' q=>q.e fun W1 σ1 T1' q=>q.e fun v hv q=>?_) fun ø ø z=>z
 obtain ⟨rfl,rfl⟩:=q
 cases hv
 have hc':chkEs c sc (.cons a .nil) [y]=true:=by show (chkE c sc a y&&true)=true; rw [hc]; rfl
 rw [Zas hc']
 show wpAny _ A (callWith pos (.builtin "sorted") [] _ _) _ _ _
 refine callWith_builtin_kwB rfl rfl ?_
 refine evalArgs_kwB rfl ?_
 refine spliced_cons ?_
 refine wpAny_mono (ha A env Pv W1 σ1 s1' _ E ok T1'.at_ h.2) (fun v s2' q=>q.e fun W2 σ2 T2 q=>q.e fun z hz h=>spliced_nil ?_) fun ø ø z=>z.back T1'
 refine kws_cons ?_
 refine wpAny_pure ?_
 refine kws_nil ?_
 have T:=T1'.trans T2
 refine Zab h fun y ey e=>Zab e fun xs ex e=>Zab e fun is ei e=>?_
 obtain ⟨l,vs,m,rfl,g,r,q,z⟩:=(Zao T.at_.rel hz ey).toLst ex
 have I:=ZdC r ei
 refine sorted_ints_rev (vs:=vs.toList) (b:=true) (by simpa using Zam g) I (by rw [I.length]; exact e.1) fun out ns' ho hp hs=>?_
 rw [ZhS hp hs] at ho
 exact (sortedAll_at s2'.heap vs.toList out).elim fun c hc=>(OpQ.from (A:=A) T).list T.at_.rel (Zem ho) (fun ø ø q=>sortedAll_old q) (Heap.get?_none_of_le (Nat.le_succ _)) hc e.2
end
section
variable {sc:Sc}
theorem VRs.one_e {W:Wd}{vs:List Value}{x:V}{G:Prop}(h:VRs X W vs [x])(g:∀v,vs=[v]->VR X W v x->G):G:=by
 cases h with | cons a b=>cases b; exact g _ rfl a
section
variable {A:Around}{E:Value->Shared->Prop}{W:Wd}{H:Hp}{s:Shared}{i:Nat}{l:Addr×Addr}{xs:List V}{Q:Value->Shared->Prop}(R:RelH X W H s.heap)(hi:H.get i=some (.list xs))(hl:W.φ i=some l)
include R hi hl
theorem RelH.lset {ys:List V}{h':Heap}{vs':Array Value}{k' tk:Nat}(he:l.2=l.1)(hk:∀b ob,s.heap.get? b=some ob->b≠l.1->h'.get? b=some ob)(ha:h'.get? l.1=some (lstO vs' k'))(hv:VRs X W vs'.toList ys)(hz:ys.length<=SZ):Tc X W H s W (H.set i (.list ys)) { s with heap:=h',toks:=tk }:=
 let ⟨r,t⟩:=R.upd (h':=h') (c':=.list ys) hi hl (fun b ob e n1 ø=>hk b ob e n1) ⟨vs',k',ha,hv,he,hz⟩
 ⟨t,r,⟨rfl,rfl,rfl⟩⟩
theorem ZgN {v:Value}{x:V}(hv:VR X W v x)(hz:xs.length < SZ)
  (h:∀s',Tc X W H s W (H.set i (.list (xs++[x]))) s'->Q .none s'):wpAny (model X.prog X.w) A (call (.builtin "list.append") [.ref l.1,v]) Q E s:=by
 obtain ⟨vs,k,hg,hvs,he,_⟩:=R.at_ hi hl
 exact append_at hg (fun h' hs ha=>h _ (R.lset (tk:=s.toks) hi hl he (fun b ob e n1=>(hs.2 b n1).trans e) ha (by rw [Array.toList_push]; exact hvs.append (.cons hv .nil)) (by rw [List.length_append]; exact hz))) (by rw [hvs.toArr]; exact szLine (Nat.le_of_lt hz))
theorem Zhn {v:Value}{ys:List V}(hv:SqL X W s.heap v ys)(hz:xs.length+ys.length<=SZ)
  (h:∀s',Tc X W H s W (H.set i (.list (xs++ys))) s'->Q .none s'):wpAny (model X.prog X.w) A (call (.builtin "list.extend") [.ref l.1,v]) Q E s:=by
 obtain ⟨vs,k,hg,hvs,he,_⟩:=R.at_ hi hl
 obtain ⟨a,ws,k2,rfl,g2,r2,q2,z2⟩:=hv
 have hz':vs.size+ws.size<=sizeLine:=by rw [hvs.toArr,z2]; exact szLine hz
 refine call_meets F.slot_list_extend ⟨_,hg,rfl⟩ F.entry_list_extend (F.args_list_extend_2 _ _) (AutoSeq1.list_extend_list_list_0 l.1 vs k a ws k2 (extend_door hz') (Nat.le_trans (Nat.le_add_right _ _) hz') (Nat.le_succ_of_le hz')) ⟨hg,g2,h _ ?_⟩
 exact R.lset hi hl he (fun b ob q n1=>(Heap.get?_update_other _ _ (Ne.symm n1)).trans q) (Heap.get?_update_self _ hg rfl) (by show VRs X W (vs++ws).toList _; rw [Array.toList_append]; exact hvs.append r2) (by rw [List.length_append]; exact hz)
theorem ZmC {k:Int}{t:Tok}{j:Nat}{x:V}(hj:pyIdx k xs.length=some j)(hx:xs[j]?=some x)
  (h:∀v s',Tc X W H s W (H.set i (.list (xs.take j++xs.drop (j+1)))) s'->VR X W v x->Q v s'):wpAny (model X.prog X.w) A (call (.builtin "list.pop") [.ref l.1,.int k t]) Q E s:=by
 obtain ⟨vs,m,hg,hvs,he,hz⟩:=R.at_ hi hl
 have z:=hvs.toArr
 obtain ⟨v,hv,hr⟩:=Zcv hvs hx
 have hfit:Builtin.List.listFitsIndex k=true:=by
  have:=Zds hj hz
  unfold Builtin.List.listFitsIndex
  rw [decide_eq_true this.1,decide_eq_true this.2]; rfl
 refine call_meets F.slot_list_pop ⟨_,hg,rfl⟩ F.entry_list_pop (F.args_list_pop_2 _ _) (MeetsSeq.list_pop_at l.1 vs m k t j v hfit (by rw [z]; exact ZdU hj) hv (by rw [z]; exact szLine hz)) ⟨hg,h v _ ?_ hr⟩
 refine R.lset hi hl he (fun b ob q n1=>(Heap.get?_update_other _ _ (Ne.symm n1)).trans q) (Heap.get?_update_self _ hg rfl) ?_ ?_
 ·show VRs X W (vs.eraseIdxIfInBounds j).toList _
  rw [Array.toList_eraseIdxIfInBounds,List.eraseIdx_eq_take_drop_succ]
  exact (hvs.take j).append (hvs.drop (j+1))
 ·have:=(List.getElem?_eq_some_iff.mp hx).1
  rw [List.length_append,List.length_take,List.length_drop]; exact Nat.le_trans (Nat.add_le_add (Nat.le_trans (Nat.min_le_left ..) (Nat.le_succ j)) (Nat.le_refl _)) (Nat.le_trans (Nat.le_of_eq (Nat.add_sub_of_le this)) hz)
end
section
variable {A:Around}{env:Env}{Pv:Pr}{W:Wd}{σ:St}{s:Shared}{E:EP}{m:Nat}{as:PEs}{v:Expr}{ap pos:Pos}{vs:List Expr}
noncomputable abbrev mcall (X:Cx)(env:Env)(m:Nat)(v:Expr)(ap pos:Pos)(vs:List Expr)(a:Addr):Sem Value:=methodCall v (X.nm m) ap pos env (.ref a) (vs.length+([]:List Keyword).length) (vs.map fun e=>(false,eval e env)) (backToKw pos (keywordEach [] env))
theorem ZdD {T id:String}{a:Addr}{ob:Obj}{Q:V->St->Prop}{Qv:List V->St->Prop}(ok:EnvOk X A env Pv n sc)(at_:At X env Pv W σ s)(has:SEs X n sc as vs)(hlen:vs.length<=20)(hline:(ap.endLine==pos.line)=true)
  (pa:PlainAttrs T) (slot:Slot T (X.nm m) id) (hty:typeOf (.builtin id)=pure (.type "method_descriptor")) (hg:s.heap.get? a=some ob) (hT:s.TypeIs (.ref a) T) (hd:ob.dict=none) (h:wpEs X.P (CW X.P n) E as σ Qv)
  (hcall:∀cvs avs W' σ' s',Tf X env Pv W σ s W' σ' s'->VRs X W' cvs avs->Qv avs σ'->wpAny (model X.prog X.w) A (call (.builtin id) ([.ref a]++cvs) []) (Go X env Pv W σ s (VQ X Q)) (EX X env Pv W σ s E) s'):
  Ew X A env Pv (mcall X env m v ap pos vs a) W σ s (VQ X Q) E:=by
 have hpos:methodCallPos true v env ap pos=pure pos:=by unfold methodCallPos; simp [hline]
 unfold mcall methodCall
 rw [Zc9 hlen]
 exact wpAny_bind (wpAny_holding (getMethod_builtin hT pa slot hty (fun b e=>by cases e; exact ⟨ob,hg,hd⟩) (wpAny_bind (wpAny_of_eq hpos (callWith_builtin ZaA (Zat has ok at_ h hcall))))))
theorem ZnG {a b c:Bool}{G:Prop}(h:(a || (b || c))=true)(x:a=true->G)(y:b=true->G)(z:c=true->G):G:=by
 cases a with
 | true=>exact x rfl
 | false=>cases b with
  | true=>exact y rfl
  | false=>exact z h
theorem Zog {b:Bool}{t e:Prop}(h:Br b t e)(q:b=true):t:=by subst q; exact h
theorem ZnB {b:Bool}{t e:Prop}(h:Br b t e)(q:b=false):e:=by subst q; exact h
theorem Zkv (K:CxOk X){m k:Nat}{a b:Str}(ha:X.nm m=a)(hb:X.nm k=b)(hn:a≠b):Nat.beq m k=false:=by
 cases q:Nat.beq m k with
 | false=>rfl
 | true=>have:=Nat.eq_of_beq_eq_true q; subst this; exact absurd (ha.symm.trans hb) hn
theorem ZiM {m k:Nat}{a:Str}(h:Nat.beq m k=true)(e:X.nm k=a):X.nm m=a:=by
 rw [Nat.eq_of_beq_eq_true h]; exact e
theorem Zgx (K:CxOk X){Q:V->St->Prop}{i:Nat}{l:Addr×Addr}{xs:List V}(ok:EnvOk X A env Pv n sc)(at_:At X env Pv W σ s)(has:SEs X n sc as vs)(hlen:vs.length<=20)(hline:(ap.endLine==pos.line)=true)(hl:W.φ i=some l)(hgi:σ.H.get i=some (.list xs))
  (h:Nd ((Nat.beq m X.P.nAppend || (Nat.beq m X.P.nPop || Nat.beq m X.P.nExtend))=true) (wpEs X.P (CW X.P n) E as σ fun vs σ2=>need (cL (σ2.H.get i)) fun xs=>methL X.P σ2 i m vs xs Q)):
  Ew X A env Pv (mcall X env m v ap pos vs l.1) W σ s (VQ X Q) E:=by
 obtain ⟨ws,k,hg,hvs,he,hz⟩:=at_.rel.at_ hgi hl
 have fin:∀{W2:Wd} {σ2:St} {s2' s':Shared} {H':Hp} {v:Value} {x:V},Tf X env Pv W σ s W2 σ2 s2'->Tc X W2 σ2.H s2' W2 H' s'->VR X W2 v x->Q x (σ2.setH H')->Go X env Pv W σ s (VQ X Q) v s':=fun T T' r q=>⟨_,_,T.trans (T'.tf T.at_),_,r,q⟩
 refine ZnG h.1 (fun hA=>?_) (fun hP=>?_) fun hE=>?_
 ·have e:=ZiM hA K.nAppend
  refine ZdD ok at_ has hlen hline F.plainAttrs_list (e▸F.slot_list_append) F.type_list_append hg ⟨_,hg,rfl⟩ rfl h.2 fun cvs avs W2 σ2 s2' T hv hq=>Zab hq fun ys ey hq=>Zab hq fun a ea hq=>?_
  have hq:=Zog hq hA
  rw [ZaG ea] at hv
  exact hv.one_e fun cv ec hcv=>by
   subst ec
   exact ZgN T.at_.rel (Zlh ey) (T.stp.le.ff _ _ hl) hcv hq.1 fun s' T'=>fin T T' .none hq.2
 ·have e:=ZiM hP K.nPop
  refine ZdD ok at_ has hlen hline F.plainAttrs_list (e▸F.slot_list_pop) F.type_list_pop hg ⟨_,hg,rfl⟩ rfl h.2 fun cvs avs W2 σ2 s2' T hv hq=>Zab hq fun ys ey hq=>Zab hq fun a ea hq=>?_
  have hq:=Zog (ZnB hq (Zkv K e K.nAppend (by decide+kernel))) hP
  rw [ZaG ea] at hv
  exact hv.one_e fun cv ec hcv=>Zab hq fun kk ek hq=>Zab hq fun j hj hq=>Zab hq fun x hx hq=>ZbJ hcv ek fun t et=>by
   subst ec et
   exact ZmC T.at_.rel (Zlh ey) (T.stp.le.ff _ _ hl) hj hx fun v s' T' hv=>fin T T' hv hq
 ·have e:=ZiM hE K.nExtend
  refine ZdD ok at_ has hlen hline F.plainAttrs_list (e▸F.slot_list_extend) F.type_list_extend hg ⟨_,hg,rfl⟩ rfl h.2 fun cvs avs W2 σ2 s2' T hv hq=>Zab hq fun ys ey hq=>Zab hq fun a ea hq=>?_
  have hq:=ZnB (ZnB hq (Zkv K e K.nAppend (by decide+kernel))) (Zkv K e K.nPop (by decide+kernel))
  rw [ZaG ea] at hv
  exact hv.one_e fun cv ec hcv=>Zab hq fun y hy hq=>Zab hq fun zs hzs hq=>by
   subst ec
   exact Zhn T.at_.rel (Zlh ey) (T.stp.le.ff _ _ hl) ((Zao T.at_.rel hcv hy).toLst hzs) hq.1 fun s' T'=>fin T T' .none hq.2
theorem DGv.get {o:Option Value}{p:Option V}{v:Value}{x:V}{W:Wd}(h:DGv X W o p)(hv:VR X W v x):VR X W (o.getD v) (p.getD x):=by
 cases h with
 | none=>exact hv
 | some r=>exact r
theorem Zgw (K:CxOk X){Q:V->St->Prop}{i:Nat}{l:Addr×Addr}{xs:List (V×V)}(ok:EnvOk X A env Pv n sc)(at_:At X env Pv W σ s)(has:SEs X n sc as vs)(hlen:vs.length<=20)(hline:(ap.endLine==pos.line)=true)(hl:W.φ i=some l)(hgi:σ.H.get i=some (.dict xs))
  (h:Nd (Nat.beq m X.P.nGet=true) (wpEs X.P (CW X.P n) E as σ fun vs σ2=>need (cD (σ2.H.get i)) fun xs=>methD X.P σ2 i m vs xs Q)):
  Ew X A env Pv (mcall X env m v ap pos vs l.1) W σ s (VQ X Q) E:=by
 obtain ⟨es0,d0,_⟩:=at_.rel.at_ hgi hl
 obtain ⟨ob,_,_,hg,ex,_⟩:=d0
 have e:=ZiM h.1 K.nGet
 refine ZdD ok at_ has hlen hline F.plainAttrs_dict (e▸F.slot_dict_get) F.type_dict_get hg ⟨ob,hg,ex.1⟩ ex.2.1 h.2 fun cvs avs W2 σ2 s2' T hv hq=>Zab hq fun ys ey hq=>Zab hq fun t et hq=>?_
 obtain ⟨es,d,r,_,ne,_⟩:=T.at_.rel.at_ (Zn5 ey) (T.stp.le.ff _ _ hl)
 have fin:∀{w:Value} {x:V},VR X W2 w x->Q x σ2->Go X env Pv W σ s (VQ X Q) w { s2' with toks:=s2'.toks+1 }:=fun r q=>Go.from T (T.at_.val r q)
 cases hv with
 | nil=>cases et
 | cons a b=>
  cases b with
  | nil=>
   cases et
   refine Zhu a hq.1 fun j tk e1 e2=>?_
   subst e1 e2
   exact call_meetsIn F.slot_dict_get d.typeIs F.entry_dict_get (F.args_dict_get_2 _ _) (meets_dict_get (intKind X.prog X.w) l.1 (intKind_is _ _ j tk) ne) ⟨_,d.mapOf,fin (DGv.get (r.val (i:=j)) .none) hq.2⟩
  | cons b c=>
   cases c with
   | nil=>
    cases et
    refine Zhu a hq.1 fun j tk e1 e2=>?_
    subst e1 e2
    exact call_meetsIn F.slot_dict_get d.typeIs F.entry_dict_get (F.args_dict_get_3 _ _ _) (meets_dict_get_default (intKind X.prog X.w) l.1 (intKind_is _ _ j tk) ne _) ⟨_,d.mapOf,fin (DGv.get (r.val (i:=j)) b) hq.2⟩
   | cons _ _=>cases et
end
theorem ZhZ (K:CxOk X){c:Ck}{fz:Bool}{o:PE}{m:Nat}{as:PEs}{v:Expr}{ap pos:Pos}{vs:List Expr}(ho:SE X n sc o v)(has:SEs X n sc as vs)(hc:chkEs c sc as vs=true)(hns:notSuper v=true)(hlen:vs.length<=20)(hline:(ap.endLine==pos.line)=true)
  (hinst:∀(A:Around) (env:Env) (Pv:Pr) (W:Wd) (σ:St) (s:Shared) (Q:V->St->Prop) (E:EP) (i:Nat) (l:Addr×Addr) (k:Nat) (fs:List (Nat×V)),EnvOk X A env Pv n sc->At X env Pv W σ s->W.φ i=some l->σ.H.get i=some (.inst k fs)->
   (need (X.P.cls k) fun c=>need (lk c.meths m) fun f=>wpEs X.P (CW X.P n) E as σ fun vs σ2=>callF X.P (CW X.P n) E fz σ2 (.fn f) (.ref i::vs) Q)->
   Ew X A env Pv (mcall X env m v ap pos vs l.1) W σ s (VQ X Q) E):
  SE X n sc (.meth fz o m as) (.Call (.Attribute v (X.nm m) ap) vs [] pos):=by
 intro A env Pv W σ s Q E ok at_ h
 rw [arm_eval_Call,ZcX hns,Zas hc]
 refine ho.bind ok at_ h fun cf W1 σ1 s1' g at1 ø hg h1'=>Ew.standAt (Zab h1' fun i ei h1'=>Zfd hg ei fun l e hl ø=>?_)
 subst e
 cases hgi:σ1.H.get i with
 | none=>rw [hgi] at h1'; exact h1'.elim
 | some c=>
  rw [hgi] at h1'
  cases c with
  | inst k fs=>exact hinst A env Pv W1 σ1 s1' Q E i l k fs ok at1 hl hgi h1'
  | dict _=>exact Zgw K ok at1 has hlen hline hl hgi h1'
  | exc _=>exact h1'.elim
  | list xs=>exact Zgx K ok at1 has hlen hline hl hgi h1'
end
end Mine
end
section
namespace Mine
open PySem PySem.Calls PyProof.Rows
noncomputable def isL:V->Bool
 | .lst _=>true
 | .ref _=>true
 | _=>false
theorem Zeu {H:Hp}{v:V}{xs:List V}(q:isL v=true)(h:items H v=some xs):see H v=some (.lst xs):=by
 cases v with
 | lst ys=>exact congrArg (some ∘ V.lst) (Option.some.inj h)
 | ref i=>show mL (cL (H.get i))=_; rw [show cL (H.get i)=some xs from h]; rfl
 | _=>cases q
inductive ItAt (X:Cx)(W:Wd)(h:Heap)(I:Addr)(v:V)(k:Nat):Prop
 | lst (a:Addr) (r:VR X W (.ref a) v) (q:isL v=true) (it:h.IsListIter I a k)
 | tup (a:Addr) (xs:List V) (e:v=.tup xs) (r:VR X W (.ref a) v) (it:h.IsTupleIter I a k)
 | rng (a b c:Int) (e:v=.rng a b c) (hc:c=1) (it:IsRangeIter h I (a+(k:Nat) * c) ((rngN a b c:Int) - (k:Nat)) c)
section
variable {A:Around}{E:Value->Shared->Prop}{W:Wd}{H:Hp}{s:Shared}
theorem ItAt.keep {W':Wd}{h h':Heap}{I:Addr}{v:V}{k:Nat}(it:ItAt X W h I v k)(le:Wd.Le W W')(hk:∀o,h.get? I=some o->NoNames o->h'.get? I=some o):ItAt X W' h' I v k:=by
 cases it with
 | lst a r q it=>obtain ⟨o,ho,hc,hd⟩:=it; exact .lst a (r.le le) q ⟨o,hk o ho (fun es n q=>by rw [hd] at q; cases q),hc,hd⟩
 | tup a xs e r it=>obtain ⟨o,ho,hc,hd⟩:=it; exact .tup a xs e (r.le le) ⟨o,hk o ho (fun es n q=>by rw [hd] at q; cases q),hc,hd⟩
 | rng a b c e hc it=>exact .rng a b c e hc (hk _ it (fun es n q=>by cases q))
theorem ItAt.there {h:Heap}{I:Addr}{v:V}{k:Nat}(it:ItAt X W h I v k):∃o,h.get? I=some o:=by
 cases it with
 | lst a r q it=>exact it.elim fun o q=>⟨o,q.1⟩
 | tup a xs e r it=>exact it.elim fun o q=>⟨o,q.1⟩
 | rng a b c e hc it=>exact ⟨_,it⟩
theorem Zgp {cv:Value}{v:V}{xs:List V}{Q:Value->Shared->Prop}(R:RelH X W H s.heap)(hv:VR X W cv v)(hi:items H v=some xs)
  (h:∀o,o.isFreed=false->ItAt X W (s.heap.push o) s.heap.objs.size v 0->Q (.ref s.heap.objs.size) { s with heap:=s.heap.push o }):wpAny (model X.prog X.w) A (pyIter cv) Q E s:=by
 have lst:isL v=true->wpAny (model X.prog X.w) A (pyIter cv) Q E s:=fun q=>by
  obtain ⟨a,vs,n,rfl,hg,r,_,_⟩:=(Zao R hv (Zeu q hi)).toLst rfl
  exact wpAny_pyIter_list (items:=vs) (Zam hg) (h _ rfl (.lst a hv q ⟨_,Heap.get?_push_size _ rfl,rfl,rfl⟩))
 cases v with
 | lst ys=>exact lst rfl
 | ref i=>exact lst rfl
 | tup ys=>
  obtain ⟨a,vs,n,rfl,hg,r,_,_⟩:=(Zao R hv rfl).toTup rfl
  exact wpAny_pyIter_tuple (items:=vs) (ZaN hg) (h _ rfl (.tup a ys rfl hv ⟨_,Heap.get?_push_size _ rfl,rfl,rfl⟩))
 | rng a b c=>
  cases hv with
  | rng z ha hb hc=>
   refine wpAny_pyIter_range (R.z _ _ z) (Zd6 hc ha hb) (h _ rfl (.rng a b c rfl hc ?_))
   rw [ZdM hc]
   have:IsRangeIter (s.heap.push { cls:=.type "range_iterator",data:=.fields #[rawInt a,rawInt (rngN a b c),rawInt c] }) s.heap.objs.size a (rngN a b c) c:=Heap.get?_push_size _ rfl
   rw [show a+((0:Nat):Int) * c=a by rw [Int.natCast_zero,Int.zero_mul,Int.add_zero],show (rngN a b c:Int) - ((0:Nat):Int)=rngN a b c from Int.sub_zero _]
   exact this
 | _=>cases hi
theorem Zd9 {I:Addr}{v x:V}{xs:List V}{k:Nat}{Q:Option Value->Shared->Prop}(R:RelH X W H s.heap)(it:ItAt X W s.heap I v k)(hi:items H v=some xs)(hx:xs[k]?=some x)
  (h:∀cv h' tk,VR X W cv x->ItAt X W h' I v (k+1)->Heap.ExtBut I s.heap h'->Q (some cv) { s with heap:=h',toks:=tk }):wpAny (model X.prog X.w) A (pyNext (.ref I)) Q E s:=by
 cases it with
 | lst a r q it=>
  obtain ⟨a',vs,n,e,hg,rs,_,_⟩:=(Zao R r (Zeu q hi)).toLst rfl
  cases e
  exact (Zcv rs hx).elim fun cv z=>wpAny_pyNext_list_item it (items:=vs) (Zam hg) z.1 fun h' hit' hs=>h cv h' s.toks z.2 (.lst a r q hit') hs.extBut
 | tup a ys e r it=>
  subst e
  obtain ⟨a',vs,n,e,hg,rs,_,_⟩:=(Zao R r rfl).toTup rfl
  cases e
  cases (Option.some.inj hi:ys=xs)
  exact (Zcv rs hx).elim fun cv z=>wpAny_pyNext_tuple_item it (items:=vs) (ZaN hg) z.1 fun h' hit' hs=>h cv h' s.toks z.2 (.tup a _ rfl r hit') hs.extBut
 | rng a b c e hc it=>
  subst e
  have e:rngL a c (rngN a b c)=xs:=Option.some.inj hi
  have hk:k < rngN a b c:=by
   have:=(List.getElem?_eq_some_iff.mp hx).1
   rw [← e,Za3] at this; exact this
  rw [← e,ZeO c _ a k hk] at hx
  cases hx
  refine wpAny_pyNext_range_item it (Int.sub_pos_of_lt (ld1 hk)) fun h' hit' hs=>h _ h' _ (.int _ _) (.rng a b c rfl hc ?_) hs.extBut
  have e1:a+((k+1:Nat):Int) * c=a+(k:Int) * c+c:=by rw [Int.natCast_succ,Int.add_mul,Int.one_mul,Int.add_assoc]
  have e2:(rngN a b c:Int) - ((k+1:Nat):Int)=(rngN a b c:Int) - (k:Int) - 1:=(Int.sub_sub (rngN a b c:Int) k 1).symm
  rw [e1,e2]; exact hit'
theorem ZeN {I:Addr}{v:V}{xs:List V}{Q:Option Value->Shared->Prop}(hh:A.handled=none)(R:RelH X W H s.heap)(it:ItAt X W s.heap I v xs.length)(hi:items H v=some xs)
  (h:∀h',Heap.ExtBut I s.heap h'->Q none { s with heap:=h' }):wpAny (model X.prog X.w) A (pyNext (.ref I)) Q E s:=by
 have no:∀vs:Array Value,vs.size=xs.length->vs[xs.length]?=none:=fun vs z=>by rw [← z]; exact Array.getElem?_eq_none (Nat.le_refl _)
 cases it with
 | lst a r q it=>
  obtain ⟨a',vs,n,e,hg,rs,_,z⟩:=(Zao R r (Zeu q hi)).toLst rfl
  cases e
  exact wpAny_pyNext_list_end hh it (items:=vs) (Zam hg) (no vs z) h
 | tup a ys e r it=>
  subst e
  obtain ⟨a',vs,n,e,hg,rs,_,z⟩:=(Zao R r rfl).toTup rfl
  cases e
  cases (Option.some.inj hi:ys=xs)
  exact wpAny_pyNext_tuple_end hh it (items:=vs) (ZaN hg) (no vs z) h
 | rng a b c e hc it=>
  subst e
  have hk:xs.length=rngN a b c:=by rw [← (Option.some.inj hi:rngL a c (rngN a b c)=xs),Za3]
  exact wpAny_pyNext_range_end hh it (by rw [hk]; exact Int.le_of_eq (Int.sub_self _)) h
structure Lone (X:Cx)(env:Env)(Pv:Pr)(W:Wd)(H:Hp)(h:Heap)(I:Addr):Prop where
 own:¬ Own W H I
 z:W.Z I=none
 pv:¬ Pv.pv I
 cell:∀x c,env.cells.lookup x=some c->c≠I
 fr:∀e∈Pv.st,e.frame≠some I
 at_:∃o,h.get? I=some o
theorem Lone.step {env:Env}{Pv:Pr}{Pv':Addr->Prop}{W':Wd}{H':Hp}{h h':Heap}{I:Addr}(L:Lone X env Pv W H h I)(S:Stp Pv' W H h W' H' h'):Lone X env Pv W' H' h' I:=by
 obtain ⟨o,e⟩:=L.at_
 refine ⟨S.own I o e L.own, ?_,L.pv,L.cell,L.fr,S.there I o e⟩
 cases q:W'.Z I with
 | none=>rfl
 | some ob=>
  rcases S.znew I ob q with r | r | r
  ·rw [L.z] at r; cases r
  ·exact absurd r L.own
  ·rw [e] at r; cases r
theorem Lone.keep {env:Env}{Pv:Pr}{W':Wd}{H':Hp}{h h':Heap}{I:Addr}(L:Lone X env Pv W H h I)(S:Stp Pv.pv W H h W' H' h'):∀o,h.get? I=some o->NoNames o->h'.get? I=some o:=fun o e n=>
 (S.keep I o e L.own L.pv).elim fun o' q=>q.2.eq n▸q.1
theorem At.poke {env:Env}{Pv:Pr}{σ:St}{I:Addr}{h':Heap}{tk:Nat}(a:At X env Pv W σ s)(L:Lone X env Pv W σ.H s.heap I)(hs:Heap.ExtBut I s.heap h'):At X env Pv W σ { s with heap:=h',toks:=tk }:=by
 refine ⟨a.rel.quiet (Pv:=fun b=>b=I) (fun b o e n=>hs b o n e) (fun b e=>by subst e; exact ⟨L.own,L.z⟩), ?_⟩
 have F:=a.fr
 have nl:env.locals≠I:=fun e=>L.pv (e▸F.pvL)
 refine ⟨?_,fun i v e k=>?_,fun x ef e=>?_,F.cellEq,fun x c e=>?_,F.pvL,F.priv,fun b p=>?_,fun e he=>(F.frs e he).keep fun K o es n a b c d f=>⟨⟨o,es,n,hs K o (fun z=>L.fr e he (z▸a)) b,c⟩,d,f⟩,F.frc⟩
 ·obtain ⟨m,hn,hm⟩:=F.ns
  exact ⟨m,hn.extBut hs nl,hm⟩
 ·obtain ⟨c,cv,q,⟨o,ho,hd⟩,r⟩:=F.cells i v e k
  exact ⟨c,cv,q,⟨o,hs c o (L.cell _ _ q) ho,hd⟩,r⟩
 ·obtain ⟨c,cv,q,⟨o,ho,hd⟩,r⟩:=F.hasCell x ef e
  exact ⟨c,cv,q,⟨o,hs c o (L.cell _ _ q) ho,hd⟩,r⟩
 ·obtain ⟨p,q,o,ho⟩:=F.cellNs x c e
  exact ⟨p,q,o,hs c o (L.cell _ _ e) ho⟩
 ·obtain ⟨o,ho⟩:=F.pvAt b p
  exact ⟨o,hs b o (fun e=>L.pv (e▸p)) ho⟩
theorem Stp.poke {Pv:Addr->Prop}{W':Wd}{H':Hp}{h h' h'':Heap}{I:Addr}(S:Stp Pv W H h W' H' h')(hn:h.get? I=none)(hs:Heap.ExtBut I h' h''):Stp Pv W H h W' H' h'' where
 le:=S.le
 keep:=fun x o e n p=>(S.keep x o e n p).elim fun o' q=>⟨o',hs x o' (fun z=>by subst z; rw [hn] at e; cases e) q.1,q.2⟩
 own:=S.own
 znew:=S.znew
 there:=fun x o e=>(S.there x o e).elim fun o' e'=>⟨o',hs x o' (fun z=>by subst z; rw [hn] at e; cases e) e'⟩
theorem Tf.poke {env:Env}{Pv:Pr}{σ σ':St}{W':Wd}{s':Shared}{I:Addr}{h'':Heap}{tk:Nat}(T:Tf X env Pv W σ s W' σ' s')(hn:s.heap.get? I=none)(L:Lone X env Pv W' σ'.H s'.heap I)(hs:Heap.ExtBut I s'.heap h''):Tf X env Pv W σ s W' σ' { s' with heap:=h'',toks:=tk }:=
 ⟨T.stp.poke hn hs,T.at_.poke L hs,⟨T.rest.gens,T.rest.drawn,T.rest.os⟩⟩
theorem Lone.new {env:Env}{Pv:Pr}{σ:St}{h':Heap}(a:At X env Pv W σ s){I:Addr}(hn:s.heap.get? I=none)(hI:∃o,h'.get? I=some o):Lone X env Pv W σ.H h' I:=by
 have no:∀{o:Obj} {G:Prop},s.heap.get? I=some o->G:=fun e=>by rw [hn] at e; cases e
 refine ⟨fun o=>(a.rel.own_there o).elim fun ø e=>no e, ?_,fun p=>(a.fr.pvAt I p).elim fun ø e=>no e,fun x c e q=>?_,fun e he q=>?_,hI⟩
 ·cases q:W.Z I with
  | none=>rfl
  | some o=>exact no (a.rel.z _ _ q)
 ·subst q
  exact (a.fr.cellNs x c e).2.2.elim fun ø e=>no e
 ·obtain ⟨_,L,o,es,n,x1,x2,_⟩:=a.fr.frs e he
  rw [q] at x1; cases x1
  exact no x2
theorem Tf.push {env:Env}{Pv:Pr}{σ:St}{o:Obj}{tk:Nat}(a:At X env Pv W σ s):Tf X env Pv W σ s W σ { s with heap:=s.heap.push o,toks:=tk }:=by
 have hk:∀b ob,s.heap.get? b=some ob->(s.heap.push o).get? b=some ob:=fun b ob e=>Heap.get?_push_of_some _ e
 have S:Stp noPv W σ.H s.heap W σ.H (s.heap.push o):=.quiet (fun b ob e ø=>hk b ob e) fun b ob e=>⟨ob,hk b ob e⟩
 exact ⟨S.mono fun ø z=>z.elim,⟨a.rel.quiet (Pv:=noPv) (fun b ob e ø=>hk b ob e) fun ø z=>z.elim,a.fr.step S fun ø z=>z.elim⟩,⟨rfl,rfl,rfl⟩⟩
end
end Mine
end
section
set_option backward.match.sparseCases true
namespace Mine
open PySem PySem.W PySem.Calls PyProof.Rows
inductive FR (X:Cx)(W:Wd):PySem.Flow->Flow->Prop
 | next:FR X W .next .next
 | brk:FR X W .brk .brk
 | cont:FR X W .cont .cont
 | ret {v:Value} {x:V}:VR X W v x->FR X W (.ret v) (.ret x)
inductive FQ (X:Cx)(Q:Flow->St->Prop)(fl:PySem.Flow)(W':Wd)(σ':St)(s':Shared):Prop
 | mk (af:Flow) (r:FR X W' fl af) (h:Q af σ')
section
variable {sc:Sc}
theorem FQ.e {Q:Flow->St->Prop}{v:PySem.Flow}{W:Wd}{σ:St}{s:Shared}{G:Prop}(q:FQ X Q v W σ s)(g:∀x,FR X W v x->Q x σ->G):G:=by obtain ⟨x,r,h⟩:=q; exact g x r h
noncomputable def S1 (X:Cx)(n:Nat)(sc:Sc)(p:PS)(st:Stmt):Prop:=∀(A:Around) (env:Env) (Pv:Pr) (W:Wd) (σ:St) (s:Shared) (Q:Flow->St->Prop) (E:EP),
 EnvOk X A env Pv n sc->env.func≠none->At X env Pv W σ s->wpS X.P (CW X.P n) p σ Q E->Ew X A env Pv (exec st env) W σ s (FQ X Q) E
noncomputable def SS (X:Cx)(n:Nat)(sc:Sc)(p:PSs)(st:List Stmt):Prop:=∀(A:Around) (env:Env) (Pv:Pr) (W:Wd) (σ:St) (s:Shared) (Q:Flow->St->Prop) (E:EP),
 EnvOk X A env Pv n sc->env.func≠none->At X env Pv W σ s->wpSs X.P (CW X.P n) p σ Q E->Ew X A env Pv (execs st env) W σ s (FQ X Q) E
section
variable {A:Around}{env:Env}{Pv:Pr}{W:Wd}{σ:St}{s:Shared}{E:EP}{Ex:Value->Shared->Prop}
theorem SE.post {p:PE}{e:Expr}{Q:V->St->Prop}{R:Value->Shared->Prop}(he:SE X n sc p e)(ok:EnvOk X A env Pv n sc)(at_:At X env Pv W σ s)(hw:wpE X.P (CW X.P n) E p σ Q)
  (g:∀v W1 σ1 s1' x,Tf X env Pv W σ s W1 σ1 s1'->VR X W1 v x->Q x σ1->R v s1'):wpAny (model X.prog X.w) A (eval e env) R (EX X env Pv W σ s E) s:=
 wpAny_mono (he A env Pv W σ s _ E ok at_ hw) (fun v s1' q=>q.e fun W1 σ1 T q=>q.e fun x r h=>g v W1 σ1 s1' x T r h) fun ø ø x=>x
theorem Tf.flow {W':Wd}{σ':St}{s':Shared}{Q:Flow->St->Prop}{fl:PySem.Flow}{af:Flow}(T:Tf X env Pv W σ s W' σ' s')(r:FR X W' fl af)(h:Q af σ'):Go X env Pv W σ s (FQ X Q) fl s':=⟨W',σ',T,af,r,h⟩
theorem ZmU (ok:EnvOk X A env Pv n sc):(env.scope.kind==.class || (env.scope.kind==.module&&env.locals != env.globals))=false:=by rw [ok.kind]; rfl
theorem Zex {x:Str}{k:Nat}(ok:EnvOk X A env Pv n sc)(h:Nat.beq (knd sc x) k=true)(hk:k≠0)(h3:nkOf k≠.free):env.kindOf x=some (nkOf k):=
 (ok.names _ _ (Zd4 (Nat.eq_of_beq_eq_true h) hk)).elim id fun z=>absurd z.1 h3
theorem Zb7 {x:Str}(ok:EnvOk X A env Pv n sc)(h:kLocal sc x=true):env.kindOf x=some .local:=Zex ok h (by decide) (by decide)
theorem Zdp {a:Addr}{h':Heap}{loc':Loc}{tk:Nat}(at_:At X env Pv W σ s)(hp:Pv.pv a)(hs:Heap.SameBut a s.heap h')(ha:∃o,h'.get? a=some o)(F:FrR X W σ.H h' env Pv loc'):Tf X env Pv W σ s W ⟨σ.H,loc'⟩ { s with heap:=h',toks:=tk }:=by
 have hkp:∀b o,s.heap.get? b=some o->¬ Pv.pv b->h'.get? b=some o:=fun b o e p=>(hs.2 b fun q=>p (q▸hp)).trans e
 refine ⟨.quiet hkp fun b o e=>?_,⟨at_.rel.quiet hkp at_.fr.priv,F⟩,⟨rfl,rfl,rfl⟩⟩
 by_cases hb:b=a
 ·subst hb; exact ha
 ·exact ⟨o,(hs.2 b hb).trans e⟩
theorem ZaJ {Q:Unit->Shared->Prop}{i:Nat}{cv:Value}{v:V}(K:CxOk X)(ok:EnvOk X A env Pv n sc)(at_:At X env Pv W σ s)(hk:env.kindOf (X.nm i)=some .local)(hv:VR X W cv v)
  (h:∀s',Tf X env Pv W σ s W (σ.put i v) s'->Q () s'):wpAny (model X.prog X.w) A (storeName env (X.nm i) cv) Q Ex s:=by
 obtain ⟨m,hn,hm⟩:=at_.fr.ns
 exact wpAny_storeName_local hk hn (fun h' hn' hs=>h _ (Zdp at_ at_.fr.pvL hs (hn'.elim fun o q=>⟨o,q.elim fun ø q=>q.elim fun ø q=>q.1⟩) (at_.fr.storeL hn hm (fun j q=>K.inj _ _ q) hk hv hn' hs))) (ZmU ok)
theorem ZbR {Q:Unit->Shared->Prop}{i:Nat}{cv:Value}{v:V}(K:CxOk X)(ok:EnvOk X A env Pv n sc)(hf:env.func≠none)(at_:At X env Pv W σ s)(hk:kStore sc (X.nm i)=true)(hv:VR X W cv v)
  (h:∀s',Tf X env Pv W σ s W (σ.put i v) s'->Q () s'):wpAny (model X.prog X.w) A (storeName env (X.nm i) cv) Q Ex s:=by
 rcases Bool.or_eq_true_iff.mp hk with q | q
 ·exact ZaJ K ok at_ (Zb7 ok q) hv h
 ·have q:env.kindOf (X.nm i)=some .cell:=Zex ok q (by decide) (by decide)
  obtain ⟨c,v0',hc,hi,hp⟩:=at_.fr.hasCell _ hf q
  exact wpAny_storeName_cell ok.kind q hc hi fun h' hi' hs=>h _ (Zdp at_ hp hs (hi'.elim fun o q=>⟨o,q.1⟩) (at_.fr.storeC (fun j q=>K.inj _ _ q) q hc hv hi' hs))
end
theorem Zir {pos:Pos}:S1 X n sc .pass (.Pass pos):=fun A env Pv W σ s Q E ok hf at_ h=>wpAny_Pass ((Tf.refl at_).flow .next h)
theorem ZhP {A:Around}{env:Env}{Pv:Pr}(ok:EnvOk X A env Pv n sc):interactive env=false:=by unfold interactive; rw [ok.kind]; rfl
theorem Zic {e:PE}{x:Expr}{pos:Pos}(he:SE X n sc e x)(hx:tg x 14=true):S1 X n sc (.expr e) (.Expr x pos):=fun A env Pv W σ s Q E ok hf at_ h=>
 wpAny_Expr_any (he.post ok at_ h fun v W1 σ1 s1' y T ø q=>T.flow .next q) (ZhP ok) (by rw [ZdK hx rfl]; rfl)
theorem ZiX {x:Expr}{t:Option Expr}{l:Nat}{env:Env}(h:Nat.ble 1 (xu x).tag=true)(h':Nat.ble (xu x).tag 14=true):swapsWith x t l env=pure false:=by
 cases x <;> first | rfl | (cases h; done) | (cases h'; done)
theorem Zby (K:CxOk X){i:Nat}{e:PE}{x:Expr}{y:Str}{p pos:Pos}(he:SE X n sc e x)(hy:y=X.nm i)(hk:kStore sc y=true)(h1:Nat.ble 1 (xu x).tag=true)(h2:Nat.ble (xu x).tag 14=true):S1 X n sc (.assign (.loc i) e) (.Assign [.Name y p] x pos):=by
 intro A env Pv W σ s Q E ok hf at_ h
 subst hy
 exact wpAny_Assign_Name (he.post ok at_ h fun v W1 σ1 s1' y T hv q=>ZbR K ok hf T.at_ hk hv fun s'' T'=>(T.trans T').flow .next q) (ZiX h1 h2)
theorem Zd7 {pos:Pos}:S1 X n sc (.ret .none) (.Return none pos):=fun A env Pv W σ s Q E ok hf at_ h=>wpAny_Return_none ((Tf.refl at_).flow (.ret .none) h)
theorem Zku {e:PE}{x:Expr}{pos:Pos}(he:SE X n sc e x):S1 X n sc (.ret (.some e)) (.Return (some x) pos):=fun A env Pv W σ s Q E ok hf at_ h=>
 wpAny_Return_some (he.post ok at_ h fun v W1 σ1 s1' y T hv q=>T.flow (.ret hv) q)
theorem ZlP {t:PC}{a b:PSs}{x:Expr}{u v:List Stmt}{pos:Pos}(ht:ST X n sc t x)(ha:SS X n sc a u)(hb:SS X n sc b v):S1 X n sc (.ite t a b) (.If x u v pos):=fun A env Pv W σ s Q E ok hf at_ h=>
 wpAny_If (wpAny_mono (ht A env Pv W σ s _ E ok at_ h) (fun c s' q=>q.e fun W' σ' T q=>by
  cases c with
  | true=>exact Ew.from T (ha A env Pv W' σ' s' Q E ok hf T.at_ q)
  | false=>exact Ew.from T (hb A env Pv W' σ' s' Q E ok hf T.at_ q)) fun ø ø y=>y)
theorem ZfN:SS X n sc .nil []:=fun A env Pv W σ s Q E ok hf at_ h=>wpAny_execs_nil ((Tf.refl at_).flow .next h)
theorem ZeJ {p:PS}{ps:PSs}{st:Stmt}{sts:List Stmt}(h1:S1 X n sc p st)(h2:SS X n sc ps sts):SS X n sc (.cons p ps) (st::sts):=fun A env Pv W σ s Q E ok hf at_ h=>
 wpAny_execs_cons (wpAny_mono (h1 A env Pv W σ s _ E ok hf at_ h) (fun fl s' q=>q.e fun W' σ' T q=>q.e fun af r q=>by
  cases r with
  | next=>exact Ew.from T (h2 A env Pv W' σ' s' Q E ok hf T.at_ q)
  | brk=>exact T.flow .brk q
  | cont=>exact T.flow .cont q
  | ret hv=>exact T.flow (.ret hv) q) fun ø ø y=>y)
section
variable {A:Around}{env:Env}{Pv:Pr}{Ex:Value->Shared->Prop}{W:Wd}{Q:Unit->Shared->Prop}
theorem Zms {i:Nat}{is:List Nat}{elts:List Expr}{G:Prop}(h:tgts X.nm sc (i::is) elts=true)(g:∀p,elts=.Name (X.nm i) p::elts.tail->kLocal sc (X.nm i)=true->tgts X.nm sc is elts.tail=true->G):G:=
 ZaK h fun t ht h=>Zal h fun a b c d=>g (xu t).p (by
  have e:t=.Name (X.nm i) (xu t).p:=(ZdK a rfl).trans (of_decide_eq_true b▸rfl)
  exact (Zbn ht).trans (congrArg (·::elts.tail) e)) (of_decide_eq_true b▸c) d
theorem ZhM (ts:List Nat):∀(elts:List Expr) (xs:List V) (cvs:List Value) (σ:St) (Kk:St->Prop),tgts X.nm sc ts elts=true->VRs X W cvs xs->bindGo ts xs σ Kk->(assignEach elts env).length=cvs.length/\(assignEach elts env).findIdx? (·.1)=none:=by
 induction ts with
 | nil=>
  intro elts xs cvs σ Kk hc hv hb
  cases Zah hc
  cases hv with
  | nil=>exact ⟨rfl,rfl⟩
  | cons _ _=>exact hb.elim
 | cons i is ih=>
  intro elts xs cvs σ Kk hc hv hb
  refine Zms hc fun p e ø h3=>?_
  rw [e]
  cases hv with
  | nil=>exact hb.elim
  | cons a r=>
   have k:=ih elts.tail _ _ (σ.put i _) Kk h3 r hb
   refine ⟨congrArg (·+1) k.1, ?_⟩
   show List.findIdx? _ ((false,assign (.Name (X.nm i) p) env)::assignEach elts.tail env)=none
   rw [List.findIdx?_cons,k.2]; rfl
theorem ZgQ (K:CxOk X)(ok:EnvOk X A env Pv n sc)(ts:List Nat):∀(elts:List Expr) (xs:List V) (cvs:List Value) (σ:St) (s:Shared) (Kk:St->Prop),tgts X.nm sc ts elts=true->At X env Pv W σ s->VRs X W cvs xs->bindGo ts xs σ Kk->
  (∀s' σ',Tf X env Pv W σ s W σ' s'->Kk σ'->Q () s')->wpAny (model X.prog X.w) A (assignInOrder ((assignEach elts env).map (·.2)) cvs) Q Ex s:=by
 induction ts with
 | nil=>
  intro elts xs cvs σ s Kk hc at_ hv hb h
  cases Zah hc
  cases hv with
  | nil=>exact assignInOrder_nil (h s σ (.refl at_) hb)
  | cons _ _=>exact hb.elim
 | cons i is ih=>
  intro elts xs cvs σ s Kk hc at_ hv hb h
  refine Zms hc fun p e h2 h3=>?_
  rw [e]
  cases hv with
  | nil=>exact hb.elim
  | cons a r=>exact assignInOrder_cons (wpAny_assign_Name (ZaJ K ok at_ (Zb7 ok h2) a fun s1' T1'=>ih elts.tail _ _ _ s1' Kk h3 T1'.at_ r hb fun s' σ' T' q=>h s' σ' (T1'.trans T') q))
theorem Tf.more {σ:St}{s:Shared}{h':Heap}{tk:Nat}(at_:At X env Pv W σ s)(kp:∀b o,s.heap.get? b=some o->h'.get? b=some o):Tf X env Pv W σ s W σ { s with heap:=h',toks:=tk }:=by
 have S:Stp noPv W σ.H s.heap W σ.H h':=.quiet (fun b ob e ø=>kp b ob e) fun b ob e=>⟨ob,kp b ob e⟩
 exact ⟨S.mono fun ø z=>z.elim,⟨at_.rel.quiet (Pv:=noPv) (fun b ob e ø=>kp b ob e) fun ø z=>z.elim,at_.fr.step S fun ø z=>z.elim⟩,⟨rfl,rfl,rfl⟩⟩
theorem Zfv {ts:List Nat}{v:V}{σ:St}{Kk:St->Prop}(h:Nat.ble 2 ts.length=true)(hb:bindT ts v σ Kk):need (aTup v) fun xs=>bindGo ts xs σ Kk:=by
 match ts,h,hb with
 | _::_::_,_,hb=>exact hb
theorem Zfb (K:CxOk X){ts:List Nat}{elts:List Expr}{k:Nat}{p:Pos}{v:V}{cv:Value}{σ:St}{s:Shared}{Kk:St->Prop}(ok:EnvOk X A env Pv n sc)(hh:A.handled=none)(at_:At X env Pv W σ s)(hv:VR X W cv v)(hc:tgts X.nm sc ts elts=true)(hb:need (aTup v) fun xs=>bindGo ts xs σ Kk)
  (h:∀s' σ',Tf X env Pv W σ s W σ' s'->Kk σ'->Q () s'):wpAny (model X.prog X.w) A (assign (.Tuple elts k p) env cv) Q Ex s:=by
 refine Zab hb fun xs ex hgo=>?_
 have ev:v=.tup xs:=by cases v <;> first | (cases ex; rfl) | cases ex
 subst ev
 obtain ⟨a,vs,m,rfl,hg,hvs,_,hz⟩:=(Zao at_.rel hv rfl).toTup rfl
 have len:=ZhM (env:=env) ts elts xs vs.toList σ Kk hc hvs hgo
 refine assign_Tuple_tuple hh (ZaN hg) (by rw [len.1,Array.length_toList]) len.2 fun h' he=>?_
 have T:Tf X env Pv W σ s W σ { s with heap:=h' }:=Tf.more (tk:=s.toks) at_ fun b o q=>he b o (fun z=>by rw [z,Zag] at q; cases q) q
 exact ZgQ K ok ts elts xs vs.toList σ _ Kk hc T.at_ hvs hgo fun s' σ' T' q=>h s' σ' (T.trans T') q
theorem ZjK (K:CxOk X){ts:List Nat}{t:Expr}{v:V}{cv:Value}{σ:St}{s:Shared}{Kk:St->Prop}(ok:EnvOk X A env Pv n sc)(hh:A.handled=none)(at_:At X env Pv W σ s)(hv:VR X W cv v)(hc:chkTgt X.nm sc ts t=true)(hb:bindT ts v σ Kk)
  (h:∀s' σ',Tf X env Pv W σ s W σ' s'->Kk σ'->Q () s'):wpAny (model X.prog X.w) A (assign t env cv) Q Ex s:=by
 rcases Bool.or_eq_true_iff.mp hc with hc | hc
 ·refine Zan hc fun ht hc=>ZaK hc fun j hj hc=>Zan hc fun h1 h2=>?_
  cases ZaG hj
  have e:t=.Name (X.nm j) (xu t).p:=(ZdK ht rfl).trans (of_decide_eq_true h1▸rfl)
  rw [e]
  exact wpAny_assign_Name (ZaJ K ok at_ (Zb7 ok (of_decide_eq_true h1▸h2)) hv fun s' T=>h s' _ T hb)
 ·refine Zaf hc fun ht h1 h2=>?_
  rw [show t=.Tuple (xu t).l (xu t).k (xu t).p from ZdK ht rfl]
  exact Zfb K ok hh at_ hv h2 (Zfv h1 hb) h
end
theorem ZkC {A:Around}{E:Value->Shared->Prop}{s:Shared}{I:Addr}{o:Obj}{nm:String}{t:Expr}{cv:Value}{Q:Unit->Shared->Prop}(ho:s.heap.get? I=some o)(hc:o.cls=.type nm)
  (hn:(["enumerate","zip","dict_itemiterator","dict_reverseitemiterator","odict_iterator","itertools.zip_longest","itertools.pairwise"].contains nm)=false) (h:Q () s):wpAny (model X.prog X.w) A (letOwnedTupleGo t (.ref I) cv) Q E s:=by
 have key:∀a,wpAny (model X.prog X.w) A (do
   let o ← load I
   match o.cls,o.data with
   | .type n,.fields vs=>
    if ["enumerate","zip","dict_itemiterator","dict_reverseitemiterator","odict_iterator","itertools.zip_longest","itertools.pairwise"].contains n&&vs[0]?==some (rawInt a) then
     rule "for.unpacks-the-owned-tuple"
     updateField I 0 .none
   | _,_=>pure ()) Q E s:=fun a=>by
  refine wpAny_bind (wpAny_load ho ?_)
  rw [hc]
  cases o.data with
  | fields vs=>
   simp only [hn,Bool.false_and,Bool.false_eq_true,if_false]
   exact wpAny_pure h
  | _=>exact wpAny_pure h
 unfold letOwnedTupleGo
 cases t <;> first | exact wpAny_pure h | skip
 all_goals (cases cv <;> first | exact wpAny_pure h | exact key _)
theorem Zme {A:Around}{E:Value->Shared->Prop}{W:Wd}{s:Shared}{I:Addr}{v:V}{k:Nat}{t:Expr}{cv:Value}{Q:Unit->Shared->Prop}(it:ItAt X W s.heap I v k)(h:Q () s):wpAny (model X.prog X.w) A (letOwnedTupleGo t (.ref I) cv) Q E s:=by
 cases it with
 | lst a r q it=>obtain ⟨o,ho,hc,hd⟩:=it; exact ZkC ho hc (by decide) h
 | tup a xs e r it=>obtain ⟨o,ho,hc,hd⟩:=it; exact ZkC ho hc (by decide) h
 | rng a b c e hc it=>exact ZkC it rfl (by decide) h
theorem Zco {x:Expr}{env:Env}(hx:Nat.ble (xu x).tag 15=true):∀z,foldedSetIterable x env z=pure z:=fun z=>by
 cases x <;> first | rfl | cases hx
end
end Mine
end
section
namespace Mine
open PySem PySem.W PySem.Calls PyProof.Rows
theorem ZdQ {α:Type}{l:List α}{k:Nat}{x:α}{r:List α}(h:l.drop k=x::r):l[k]?=some x/\l.drop (k+1)=r:=by
 constructor
 ·have:=congrArg List.head? h
  rw [List.head?_drop] at this; exact this
 ·have:=congrArg List.tail h
  rw [List.tail_drop] at this; exact this
structure Stand (xs:List V)(k:Nat)(ys:List V)(m:Nat):Prop where
 d:xs.drop k=ys
 l:k+ys.length=xs.length
 m:m=ys.length
theorem Stand.nil {xs:List V}{k m:Nat}(h:Stand xs k [] m):k=xs.length:=h.l
theorem Stand.cons {xs:List V}{k:Nat}{u:V}{us:List V}{m:Nat}(h:Stand xs k (u::us) m):xs[k]?=some u/\us.length < m/\Stand xs (k+1) us us.length:=
 ⟨(ZdQ h.d).1,h.m▸Nat.lt_succ_self _,(ZdQ h.d).2,(Nat.succ_add_eq_add_succ k us.length).trans h.l,rfl⟩
section
variable {sc:Sc}
inductive LpI (X:Cx)(env:Env)(Pv:Pr)(W:Wd)(σ:St)(s:Shared)(I:Addr)(v:V)(xs:List V)(go:List V->St->Prop)(m:Nat)(s':Shared):Prop
 | mk (k:Nat) (W':Wd) (σ':St) (ys:List V) (t:Tf X env Pv W σ s W' σ' s') (it:ItAt X W' s'.heap I v k) (L:Lone X env Pv W' σ'.H s'.heap I) (st:Stand xs k ys m) (q:go ys σ')
noncomputable def Bnd (X:Cx)(n:Nat)(sc:Sc)(ts:List Nat)(t:Expr):Prop:=∀(A:Around) (env:Env) (Pv:Pr) (W:Wd) (σ:St) (s:Shared) (cv:Value) (v:V) (Kk:St->Prop) (Q:Unit->Shared->Prop) (Ex:Value->Shared->Prop),
 EnvOk X A env Pv n sc->env.func≠none->A.handled=none->At X env Pv W σ s->VR X W cv v->bindT ts v σ Kk->(∀s' σ',Tf X env Pv W σ s W σ' s'->Kk σ'->Q () s')->wpAny (model X.prog X.w) A (assign t env cv) Q Ex s
theorem ZiT (K:CxOk X){i:Nat}{y:Str}{p:Pos}(hy:y=X.nm i)(hk:kStore sc y=true):Bnd X n sc [i] (.Name y p):=fun A env Pv W σ s cv v Kk Q Ex ok hf hh at_ hv hb h=>by
 subst hy
 exact wpAny_assign_Name (ZbR K ok hf at_ hk hv fun s' T=>h s' _ T hb)
theorem ZcM {h h':Heap}{I:Addr}(hn:h'.get? I=none)(k:∀a o,h.get? a=some o->∃o',h'.get? a=some o'):h.get? I=none:=by
 cases hq:h.get? I with
 | none=>rfl
 | some o=>exact (k _ _ hq).elim fun o' e=>by rw [hn] at e; cases e
theorem ZiK (K:CxOk X){ts:List Nat}{it:PE}{body:PSs}{t:Expr}{pos:Pos}{x:Expr}{b:List Stmt}(hi:SE X n sc it x)(hb:SS X n sc body b)(ht:Bnd X n sc ts t)(hx:Nat.ble (xu x).tag 15=true)(hhd:sc.hd=true):S1 X n sc (.loop ts it body) (.For t x b [] pos):=fun A env Pv W σ s Q E ok hf at_ h=>
 wpAny_For (hi.post ok at_ h fun cv W1 σ1 s1' v T1' hv q=>Zab q fun xs hxs q=>Zgp T1'.at_.rel hv hxs fun o hfo hit=>by
  have nI:s1'.heap.get? s1'.heap.objs.size=none:=Zag _
  have T2:Tf X env Pv W σ s W1 σ1 { s1' with heap:=s1'.heap.push o }:=T1'.trans (Tf.push (tk:=s1'.toks) T1'.at_)
  have L2:Lone X env Pv W1 σ1.H (s1'.heap.push o) s1'.heap.objs.size:=Lone.new T1'.at_ nI ⟨o,Heap.get?_push_size _ hfo⟩
  have nI0:=ZcM nI T1'.stp.there
  generalize s1'.heap.objs.size=I at nI0 L2 hit ⊢
  refine codeAny_forLoop_any (LpI X env Pv W σ s I v xs fun ys σ'=>loopGo (fun v σ2 k=>bindT ts v σ2 fun σ3=>wpSs X.P (CW X.P n) body σ3 k noE) (still v xs) ys σ' Q) (fun m s' hI=>?_) xs.length ⟨0,W1,σ1,xs,T2,hit,L2,⟨rfl,Nat.zero_add _,rfl⟩,q⟩
  obtain ⟨k,W',σ',ys,T,hit',L,st,q⟩:=hI
  cases ys with
  | nil=>
   cases st.nil
   exact ZeN (ok.hh hhd) T.at_.rel hit' q.1 fun h' hs=>wpAny_execs_nil ((T.poke (tk:=s'.toks) nI0 L hs).flow .next q.2)
  | cons u us=>
   obtain ⟨hu,lt,st'⟩:=st.cons
   refine Zd9 T.at_.rel hit' q.1 hu fun cu h' tk hcu hit'' hs=>Zme hit'' ?_
   have T':=T.poke (tk:=tk) nI0 L hs
   have L':Lone X env Pv W' σ'.H h' I:=⟨L.own,L.z,L.pv,L.cell,L.fr,hit''.there⟩
   refine ht A env Pv W' σ' _ cu u _ _ _ ok hf (ok.hh hhd) T'.at_ hcu q.2 fun s3' σ3 T3 q=>?_
   have L3:=L'.step T3.stp
   have it3:=hit''.keep T3.stp.le (L'.keep T3.stp)
   refine wpAny_mono (hb A env Pv W' _ s3' _ noE ok hf T3.at_ q) (fun fl s4' q=>q.e fun W4' σ4 T4 q=>q.e fun af hfr q4=>?_) fun ø ø z=>z.no.elim
   have T'':=(T'.trans T3).trans T4
   have again:=fun g=>(⟨us.length,lt,k+1,W4',σ4,us,T'',it3.keep T4.stp.le (L3.keep T4.stp),L3.step T4.stp,st',g⟩:∃m',m' < m/\LpI X env Pv W σ s I v xs (fun ys σ'=>loopGo (fun v σ2 k=>bindT ts v σ2 fun σ3=>wpSs X.P (CW X.P n) body σ3 k noE) (still v xs) ys σ' Q) m' s4')
   cases hfr with
   | next=>exact again q4
   | cont=>exact again q4
   | brk=>exact T''.flow .next q4
   | ret hr=>exact T''.flow (.ret hr) q4) (Zco hx)
inductive WhI (X:Cx)(env:Env)(Pv:Pr)(W:Wd)(σ:St)(s:Shared)(go:Nat->St->Prop)(m:Nat)(s':Shared):Prop
 | mk (W':Wd) (σ':St) (t:Tf X env Pv W σ s W' σ' s') (q:go m σ')
theorem Zhf {t:PC}{body:PSs}{x:Expr}{b:List Stmt}{pos:Pos}(ht:ST X n sc t x)(hb:SS X n sc body b):S1 X n sc (.while_ t body) (.While x b [] pos):=fun A env Pv W σ s Q E ok hf at_ h=>h.elim fun k h=>
 wpAny_While (codeAny_whileLoop (WhI X env Pv W σ s fun m σ'=>whileGo (fun σ1 k=>wpT X.P (CW X.P n) noE t σ1 k) (fun σ1 k=>wpSs X.P (CW X.P n) body σ1 k noE) m σ' Q) (fun m s' hI=>by
  obtain ⟨W',σ',T,q⟩:=hI
  cases m with
  | zero=>exact q.elim
  | succ m=>
   refine wpAny_mono (ht A env Pv W' σ' s' _ noE ok T.at_ q) (fun c s1' q=>q.e fun W1 σ1 T1' q1'=>?_) fun ø ø z=>z.no.elim
   cases c with
   | false=>exact wpAny_execs_nil ((T.trans T1').flow .next q1')
   | true=>
    refine wpAny_mono (hb A env Pv W1 σ1 s1' _ noE ok hf T1'.at_ q1') (fun fl s2' q=>q.e fun W2 σ2 T2 q=>q.e fun af hfr q2'=>?_) fun ø ø z=>z.no.elim
    have T':=(T.trans T1').trans T2
    cases hfr with
    | next=>exact ⟨m,Nat.lt_succ_self _,W2,σ2,T',q2'⟩
    | cont=>exact ⟨m,Nat.lt_succ_self _,W2,σ2,T',q2'⟩
    | brk=>exact T'.flow .next q2'
    | ret hr=>exact T'.flow (.ret hr) q2') k ⟨W,σ,.refl at_,h⟩)
end
section
variable {sc:Sc}{A:Around}{env:Env}{Pv:Pr}{W:Wd}{σ:St}{s:Shared}{E:EP}
theorem call1 {c:Ck}{T:String}{b:B}{j:Nat}{a:PE}{x:Str}{p pos:Pos}{y:Expr}(hf:SE X n sc (.glob j) (.Name x p))(ha:SE X n sc a y)(hc:chkE c sc a y=true)(hg:X.P.glob j=some (.bt b))(hb:bval b=.type T)(ok:EnvOk X A env Pv n sc)(at_:At X env Pv W σ s){Qa:V->St->Prop}(h:wpE X.P (CW X.P n) E a σ Qa){Q:Value->Shared->Prop}
  (k:∀W2 σ2 s2' v z,Tf X env Pv W σ s W2 σ2 s2'->VR X W2 v z->Qa z σ2->wpAny (model X.prog X.w) A (call (.type T) [v]) Q (EX X env Pv W σ s E) s2'):
  wpAny (model X.prog X.w) A (eval (.Call (.Name x p) [y] [] pos) env) Q (EX X env Pv W σ s E) s:=by
 have hc':chkEs c sc (.cons a .nil) [y]=true:=by show (chkE c sc a y&&true)=true; rw [hc]; rfl
 rw [Zar,Zas hc']
 refine wpAny_bind (wpAny_mono (hf A env Pv W σ s (fun v σ1=>v=.bt b/\σ1=σ) E ok at_ (ZbL hg ⟨rfl,rfl⟩)) (fun cf s1' q=>q.e fun W1 σ1 T1' q=>q.e fun v hv q=>?_) fun ø ø z=>z)
 obtain ⟨rfl,rfl⟩:=q
 cases hv
 rw [hb]
 exact PyProof.Rows.callWith_type ZaA (ZaO Zbl (spliced_cons (wpAny_mono (ha A env Pv W1 σ1 s1' _ E ok T1'.at_ h) (fun v s2' q=>q.e fun W2 σ2 T2 q=>q.e fun z hz h=>spliced_nil (k W2 σ2 s2' v z (T1'.trans T2) hz h)) fun ø ø z=>z.back T1')))
end
section
variable {sc:Sc}
noncomputable def rl (env:Env)(x:Str)(k:NameKind):NameKind:=if (k==NameKind.free&&env.scope.kind==.function&&env.kindOf x==some .cell) then NameKind.cell else k
theorem ZiG {env:Env}{x:Str}{k:NameKind}(h:rl env x k=.local):k=.local:=by
 cases k with
 | «local»=>rfl
 | free=>
  unfold rl at h
  split at h
  ·cases h
  ·exact h
 | _=>cases h
theorem ZjI {env:Env}{x:Str}{k:NameKind}(nk:k≠.cell)(h:rl env x k=.cell\/rl env x k=.free):k=.free:=by
 cases k with
 | free=>rfl
 | cell=>exact absurd rfl nk
 | _=>rcases h with h | h <;> cases h
theorem ZnM {env:Env}{x:Str}(k:NameKind):rl env x k=k\/(k=.free/\rl env x k=.cell):=by
 cases k with
 | free=>
  unfold rl
  split
  ·exact .inr ⟨rfl,rfl⟩
  ·exact .inl rfl
 | _=>exact .inl rfl
theorem ZcR {env:Env}(x:Str)(names:List (Str×NameKind)):(names.map fun (n,k)=>if (k==NameKind.free&&env.scope.kind==.function&&env.kindOf n==some .cell) then (n,NameKind.cell) else (n,k)).lookup x=(names.lookup x).map (rl env x):=by
 induction names with
 | nil=>rfl
 | cons p r ih=>
  obtain ⟨y,k⟩:=p
  have e:(if (k==NameKind.free&&env.scope.kind==.function&&env.kindOf y==some .cell)=true then (y,NameKind.cell) else (y,k))=(y,rl env y k):=by unfold rl; split <;> rfl
  rw [List.map_cons]
  show List.lookup x ((if (k==NameKind.free&&env.scope.kind==.function&&env.kindOf y==some .cell)=true then (y,NameKind.cell) else (y,k))::_)=_
  rw [e,List.lookup_cons,List.lookup_cons,ih]
  cases hx:x==y with
  | true=>rw [eq_of_beq hx]; rfl
  | false=>rfl
theorem Zay {α β:Type} [BEq α] [LawfulBEq α]{l:List (α×β)}{x:α}{k:β}(h:l.lookup x=some k):(x,k)∈l:=by
 induction l with
 | nil=>cases h
 | cons p r ih=>
  obtain ⟨y,j⟩:=p
  rw [List.lookup_cons] at h
  cases hb:x==y with
  | true=>rw [hb] at h; cases h; rw [eq_of_beq hb]; exact .head _
  | false=>rw [hb] at h; exact .tail _ (ih h)
theorem ZcN {l:List (Str×NameKind)}(hu:uniq l=true){x:Str}{k:NameKind}(h:(x,k)∈l):l.lookup x=some k:=by
 induction l with
 | nil=>cases h
 | cons p r ih=>
  obtain ⟨y,j⟩:=p
  refine Zan hu fun h1 h2=>?_
  rw [List.lookup_cons]
  rcases List.mem_cons.mp h with q | q
  ·cases q; rw [beq_self_eq_true]
  ·rw [show (x==y)=false from Bool.not_eq_true' _▸List.all_eq_true.mp h1 _ q]; exact ih h2 q
structure ScOk (X:Cx)(sc:Sc)(sc':Scope)(ts:List Nat):Prop where
 kind:sc'.kind=.function
 uniq:uniq sc'.names=true
 cell:∀x,(x,NameKind.cell)∉sc'.names
 free:∀x,(x,NameKind.free)∈sc'.names->(Nat.beq (knd sc x) 2 || Nat.beq (knd sc x) 3)=true
 loc:∀i,(X.nm i,NameKind.local)∈sc'.names->X.nm i=(".0":Str)\/∃j∈ts,X.nm i=X.nm j
theorem ZnC {sc':Scope}{ts:List Nat}(h:chkSc X.nm sc sc' ts=true):ScOk X sc sc' ts:=Zaf h fun h1 h2 h3=>by
 have a:=List.all_eq_true.mp h3
 refine ⟨?_,h2,fun x hx=>(nomatch a _ hx),fun x hx=>a _ hx,fun i hx=>?_⟩
 ·cases e:sc'.kind <;> rw [e] at h1 <;> first | rfl | cases h1
 ·rcases Bool.or_eq_true_iff.mp (a _ hx) with q | q
  ·exact .inl (eq_of_beq q)
  ·obtain ⟨j,hj,q⟩:=List.any_eq_true.mp q
   exact .inr ⟨j,hj,of_decide_eq_true q⟩
section
variable {A:Around}{env:Env}{Pv:Pr}{sc':Scope}{ts:List Nat}
theorem Zi8 {x:Str}(ok:EnvOk X A env Pv n sc)(h:(Nat.beq (knd sc x) 2 || Nat.beq (knd sc x) 3)=true):env.kindOf x=some .cell\/env.kindOf x=some .free:=by
 rcases Bool.or_eq_true_iff.mp h with q | q
 ·exact .inl (Zex ok q (by decide) (by decide))
 ·exact (ok.names _ _ (Zd4 (Nat.eq_of_beq_eq_true q) (by decide))).elim .inr fun z=>.inl z.2
inductive ClO (env:Env)(names:List (Str×NameKind))(cs:List (Str×Addr))(f:Str×NameKind->List (Str×Addr)->Sem (ForInStep (List (Str×Addr)))):Prop
 | mk (cl:List (Str×Addr)) (h1:forIn names cs f=(pure cl:Sem (List (Str×Addr)))) (h2:∀x c,cl.lookup x=some c->env.cells.lookup x=some c) (h3:∀x,(x,NameKind.free)∈names->∃c,cl.lookup x=some c) (h4:∀x c,cs.lookup x=some c->∃c',cl.lookup x=some c')
theorem ZaL {α:Type}{x y:Str}{c:α}{r:List (Str×α)}(h:(x==y)=true):((y,c)::r).lookup x=some c:=by rw [List.lookup_cons,h]
theorem Zbc {α:Type}{x y:Str}{c:α}{r:List (Str×α)}(h:(x==y)=false):((y,c)::r).lookup x=r.lookup x:=by rw [List.lookup_cons,h]
theorem ZfP {env:Env}{f:Str×NameKind->List (Str×Addr)->Sem (ForInStep (List (Str×Addr)))}(hf:∀x k r,f (x,k) r=if (k==NameKind.free)=true then (do let c ← cellOf env x; pure (.yield ((x,c)::r))) else pure (.yield r))
  (names:List (Str×NameKind)):∀cs:List (Str×Addr),(∀x,(x,NameKind.free)∈names->∃c,env.cells.lookup x=some c)->(∀x c,cs.lookup x=some c->env.cells.lookup x=some c)->ClO env names cs f:=by
 induction names with
 | nil=>exact fun cs ø hc=>⟨cs,rfl,hc,fun ø h=>(nomatch h),fun ø c e=>⟨c,e⟩⟩
 | cons p r ih=>
  intro cs hn hc
  obtain ⟨y,k⟩:=p
  have hn':∀x,(x,NameKind.free)∈r->∃c,env.cells.lookup x=some c:=fun x h=>hn x (.tail _ h)
  by_cases hk:(k==NameKind.free)=true
  ·have e:k=.free:=by cases k <;> first | rfl | cases hk
   subst e
   obtain ⟨c,ec⟩:=hn y (.head _)
   obtain ⟨cl,h1,h2,h3,h4⟩:=ih ((y,c)::cs) hn' fun x d q=>by
    cases hb:x==y with
    | true=>rw [ZaL hb] at q; cases q; rw [eq_of_beq hb]; exact ec
    | false=>rw [Zbc hb] at q; exact hc x d q
   refine ⟨cl, ?_,h2,fun x hx=>?_,fun x d q=>?_⟩
   ·rw [List.forIn_cons,hf,if_pos hk,show cellOf env y=pure c by unfold cellOf; rw [ec],← h1]; rfl
   ·rcases List.mem_cons.mp hx with q | q
    ·cases q; exact h4 y c (ZaL (beq_self_eq_true y))
    ·exact h3 x q
   ·cases hb:x==y with
    | true=>exact h4 x c (ZaL hb)
    | false=>exact h4 x d ((Zbc hb).trans q)
  ·obtain ⟨cl,h1,h2,h3,h4⟩:=ih cs hn' hc
   refine ⟨cl, ?_,h2,fun x hx=>?_,h4⟩
   ·rw [List.forIn_cons,hf,if_neg hk,← h1]; rfl
   ·rcases List.mem_cons.mp hx with q | q
    ·cases q; exact absurd rfl hk
    ·exact h3 x q
structure CompFacts (X:Cx)(sc:Sc)(sc':Scope)(env:Env)(ts:List Nat)(cl:List (Str×Addr)):Prop extends ScOk X sc sc' ts where
 clos:closureFor sc' env=pure cl
 h2:∀x c,cl.lookup x=some c->env.cells.lookup x=some c
 h3:∀x,(x,NameKind.free)∈sc'.names->∃c,cl.lookup x=some c
theorem Zc3 (ok:EnvOk X A env Pv n sc)(hsc:chkSc X.nm sc sc' ts=true):∃cl,CompFacts X sc sc' env ts cl:=by
 have S:=ZnC hsc
 obtain ⟨cl,h1,h2,h3,_⟩:=ZfP (env:=env) (f:=fun (x:Str×NameKind) r=>if (x.2==NameKind.free)=true then (do let c ← cellOf env x.1; pure (.yield ((x.1,c)::r))) else pure (.yield r)) (fun ø ø ø=>rfl) sc'.names [] (fun x hx=>ok.cl x (Zi8 ok (S.free x hx))) (fun x c q=>by cases q)
 refine ⟨cl,S, ?_,h2,h3⟩
 show (forIn sc'.names [] (fun (x:Str×NameKind) r=>if (x.2==NameKind.free)=true then (do let c ← cellOf env x.1; pure (.yield ((x.1,c)::r))) else pure (.yield r)) >>= fun r=>pure r)=pure cl
 rw [h1]; rfl
noncomputable def only (C:Addr)(st:List Env):Pr:=⟨fun a=>a=C,st⟩
theorem Zez {cl:List (Str×Addr)}{C:Addr}(x:Str):(compEnvC sc' cl C env).kindOf x=(sc'.names.lookup x).map (rl env x):=ZcR x sc'.names
theorem CompFacts.out {cl:List (Str×Addr)}{C:Addr}{x:Str}(F:CompFacts X sc sc' env ts cl)(e:(compEnvC sc' cl C env).kindOf x=some .cell\/(compEnvC sc' cl C env).kindOf x=some .free):(x,NameKind.free)∈sc'.names:=by
 rw [Zez] at e
 cases hq:sc'.names.lookup x with
 | none=>rw [hq] at e; rcases e with e | e <;> cases e
 | some k=>
  rw [hq] at e
  have m:=Zay hq
  cases ZjI (fun z=>F.cell x (z▸m)) (e.imp Option.some.inj Option.some.inj)
  exact m
theorem Zh3 {cl:List (Str×Addr)}{C:Addr}(ok:EnvOk X A env Pv n sc)(F:CompFacts X sc sc' env ts cl)(hhd:sc.hd=true):EnvOk X A (compEnvC sc' cl C env) (only C Pv.st) n ⟨sc',true⟩:=by
 refine ⟨ok.stk,fun z=>absurd rfl z,ok.ok,fun ø=>ok.hh hhd,F.kind,ok.glob,ok.bi,fun x k e=>?_,fun x e=>F.h3 x (F.out e)⟩
 rw [Zez,show sc'.names.lookup x=some k from e]
 exact (ZnM k).imp (congrArg some) fun z=>⟨z.1,congrArg some z.2⟩
theorem Zkx (K:CxOk X){W:Wd}{σ:St}{s:Shared}{cl:List (Str×Addr)}{C:Addr}{h':Heap}{tk:Nat}(ok:EnvOk X A env Pv n sc)(at_:At X env Pv W σ s)(F':CompFacts X sc sc' env ts cl)
  (hn:s.heap.get? C=none) (hk:∀b o,s.heap.get? b=some o->h'.get? b=some o) (hC:∃m,h'.Ns C m):At X (compEnvC sc' cl C env) (only C Pv.st) W ⟨σ.H,unbs ts σ.loc⟩ { s with heap:=h',toks:=tk }:=by
 have F:=at_.fr
 have L:Lone X env Pv W σ.H h' C:=Lone.new at_ hn (let ⟨_,o,_,_,ho,_⟩:=hC; ⟨o,ho⟩)
 have ub:∀i v,unbs ts σ.loc i=some v->i∉ts/\σ.loc i=some v:=fun i v e=>by
  have e':(if ts.contains i then none else σ.loc i)=some v:=e
  by_cases hi:i∈ts
  ·rw [if_pos (List.contains_iff_mem.mpr hi)] at e'; cases e'
  ·rw [if_neg (fun z=>hi (List.contains_iff_mem.mp z))] at e'; exact ⟨hi,e'⟩
 refine ⟨at_.rel.quiet (Pv:=noPv) (fun b o e ø=>hk b o e) fun ø z=>z.elim, ?_,fun i v e k=>?_,fun x ef ø=>absurd rfl ef,fun x y c e e'=>F.cellEq x y c (F'.h2 _ _ e) (F'.h2 _ _ e'),fun x c e=>?_,rfl,fun a e=>?_,fun a e=>?_,fun e he=>(F.frs e he).keep fun K o es n a b c d f=>⟨⟨o,es,n,hk _ _ b,c⟩,d,f⟩,fun x c q=>F.frc x c (F'.h2 _ _ q)⟩
 ·obtain ⟨m,hm⟩:=hC
  refine ⟨m,hm,fun i v e k=>?_⟩
  rw [Zez] at k
  cases hq:sc'.names.lookup (X.nm i) with
  | none=>rw [hq] at k; cases k
  | some kk=>
   rw [hq] at k
   cases ZiG (Option.some.inj k)
   rcases F'.loc i (Zay hq) with q | ⟨j,hj,q⟩
   ·exact absurd q (K.dot i)
   ·exact absurd (K.inj _ _ q▸hj) (ub i v e).1
 ·have hm:=F'.out k
  obtain ⟨c,cv,hc,⟨o,ho,hd⟩,hv⟩:=F.cells i v (ub i v e).2 (Zi8 ok (F'.free _ hm))
  obtain ⟨c',hc'⟩:=F'.h3 _ hm
  cases Option.some.inj ((F'.h2 _ _ hc').symm.trans hc)
  exact ⟨c,cv,hc',⟨o,hk _ _ ho,hd⟩,hv⟩
 ·obtain ⟨p,q,o,ho⟩:=F.cellNs x c (F'.h2 _ _ e)
  exact ⟨fun z=>(by rw [show c=C from z,hn] at ho; cases ho),q,o,hk _ _ ho⟩
 ·rw [show a=C from e]; exact ⟨L.own,L.z⟩
 ·rw [show a=C from e]; exact L.at_
end
inductive AdL (X:Cx)(fz:Bool)(W:Wd)(H:Hp)(s:Shared)(W':Wd)(H':Hp)(s':Shared)(D:Addr)(xs:List V):Prop
 | mk (W'':Wd) (H'':Hp) (t:Tc X W H s W'' H'' s') (r:Res X fz H' (.newList xs) (.ref D) W'' H'') (o:∀b,b≠D->¬ Own W' H' b->W'.Z b=none->¬ Own W'' H'' b/\W''.Z b=none)
theorem Zdc {W W':Wd}{H H':Hp}{s s':Shared}{D:Addr}{vs:Array Value}{k:Nat}{xs:List V}{fz:Bool}(T:Tc X W H s W' H' s')(hn:s.heap.get? D=none)(ho:¬ Own W' H' D)(hz:W'.Z D=none)
  (hg:s'.heap.get? D=some (lstO vs k)) (hv:VRs X W' vs.toList xs) (hl:xs.length<=SZ):AdL X fz W H s W' H' s' D xs:=by
 have hD:(hideAll s'.heap [D]).get? D=none:=hideAll_none _ (.head _)
 have of:∀b o,(hideAll s'.heap [D]).get? b=some o->s'.heap.get? b=some o:=fun b o e=>of_hideAll _ e
 have to:∀b o,b≠D->s'.heap.get? b=some o->(hideAll s'.heap [D]).get? b=some o:=fun b o n e=>hideAll_get _ e (by simpa using n)
 have R:RelH X W' H' (hideAll s'.heap [D]):=T.rel.quiet (Pv:=fun a=>a=D) (fun a o e n=>to a o n e) fun a e=>by subst e; exact ⟨ho,hz⟩
 have S:Stp noPv W H s.heap W' H' (hideAll s'.heap [D]):=T.stp.poke hn fun b o n e=>to b o n e
 cases fz with
 | true=>
  obtain ⟨r,t⟩:=R.frozen of hD hg
  exact ⟨_,_,⟨S.trans t,r,T.rest⟩,⟨.lst Zbr (hv.le t.le) hl,rfl⟩,fun b nb ob zb=>⟨fun z=>ob (Own.addZ.mp z),(if_neg nb).trans zb⟩⟩
 | false=>
  obtain ⟨r,t⟩:=R.fresh (l:=(D,D)) (c:=.list xs) of hD hD ⟨vs,k,hg,hv.le R.leF,rfl,hl⟩
  exact ⟨_,_,⟨S.trans t,r,T.rest⟩,⟨VR.ref (l:=(D,D)) Zbh,rfl⟩,fun b nb ob zb=>⟨fun q=>(R.own_new q).elim ob fun q=>q.elim nb nb,zb⟩⟩
end
section
variable {sc:Sc}
theorem ZfY {A:Around}{E:Value->Shared->Prop}{W:Wd}{s:Shared}{I:Addr}{v:V}{k:Nat}{Q:Value->Shared->Prop}(it:ItAt X W s.heap I v k)(h:Q (.ref I) s):wpAny (model X.prog X.w) A (pyIter (.ref I)) Q E s:=by
 cases it with
 | lst a r q it=>exact wpAny_pyIter_listiter it h
 | tup a xs e r it=>exact wpAny_pyIter_tupleiter it h
 | rng a b c e hc it=>exact wpAny_pyIter_rangeiter it h
noncomputable abbrev ifsT (ifs:List Expr)(env:Env):Sem Bool:=forIn ifs true fun c r=>if r=true then do let ok ← isTrue c env (eval c env); pure (ForInStep.yield ok) else pure (ForInStep.yield r)
noncomputable def SCo (X:Cx)(n:Nat)(sc:Sc)(p:PCo)(ifs:List Expr):Prop:=∀(A:Around) (env:Env) (Pv:Pr) (W:Wd) (σ:St) (s:Shared) (Q:Bool->St->Prop) (E:EP),
 EnvOk X A env Pv n sc->At X env Pv W σ s->wpC X.P (CW X.P n) E p σ Q->Ew X A env Pv (ifsT ifs env) W σ s (BQ Q) E
theorem Zgc:SCo X n sc .none []:=fun A env Pv W σ s Q E ok at_ h=>wpAny_pure (at_.bl (tk:=s.toks) h)
theorem Zgo {t:PC}{x:Expr}(ht:ST X n sc t x):SCo X n sc (.some t) [x]:=fun A env Pv W σ s Q E ok at_ h=>by
 unfold ifsT
 rw [List.forIn_cons,if_pos rfl]
 exact wpAny_bind (wpAny_bind (wpAny_mono (ht A env Pv W σ s _ E ok at_ h) (fun b s' q=>wpAny_pure (wpAny_pure q)) fun ø ø y=>y))
theorem ZfL {A:Around}{s:Shared}{R:Result->Shared->Prop}{elt target iter:Expr}{ifs:List Expr}{scope:Scope}{pos:Pos}{it acc:Value}{env:Env}(J:Nat->Shared->Prop)
  (turn:∀k s,J k s->wpAny (model X.prog X.w) A (pyNext it) (fun r s1'=>match r with
   | none=>R (.ok .next) s1'
   | some v=>wpAny (model X.prog X.w) A (letOwnedTupleGo target it v) (fun ø s1'=>wpAny (model X.prog X.w) A (assign target env v) (fun ø s2'=>
     wpAny (model X.prog X.w) A (ifsT ifs env) (fun ok s3'=>
      if ok=true then wpAny (model X.prog X.w) A (eval elt env) (fun x s4'=>
       wpAny (model X.prog X.w) A (call (.builtin "list.append") [acc,x]) (fun ø s5=>∃m,m < k/\J m s5) (fun ø ø=>False) s4') (fun ø ø=>False) s3'
      else ∃m,m < k/\J m s3') (fun ø ø=>False) s2') (fun ø ø=>False) s1') (fun ø ø=>False) s1') (fun ø ø=>False) s)
  (k:Nat) (h:J k s):codeAny (model X.prog X.w) A (.compLoop (.ListComp elt [⟨target,iter,ifs,0⟩] scope pos) 0 it acc env) R s:=by
 refine codeAny_loop rfl J (fun k s hJ=>?_) k h
 show wpAny _ A ((compTurn (.ListComp elt [⟨target,iter,ifs,0⟩] scope pos) 0 it acc env).onRaise _) _ _ s
 refine wpAny_noted (wpAny_mono (E:=fun ø ø=>False) ?_ (fun ø ø z=>z) fun ø ø z=>z.elim)
 rw [compTurn_list]
 refine wpAny_bind (wpAny_standAt (wpAny_bind (wpAny_mono (turn k s hJ) (fun r s1' h1'=>?_) fun ø ø z=>z)))
 cases r with
 | none=>exact wpAny_pure h1'
 | some v=>
  refine wpAny_bind (wpAny_mono h1' (fun ø s1'' h1''=>wpAny_bind (wpAny_mono h1'' (fun ø s2' h2'=>wpAny_bind (wpAny_mono h2' (fun ok s3' h₃=>?_) fun ø ø z=>z)) fun ø ø z=>z)) fun ø ø z=>z)
  cases ok with
  | false=>exact wpAny_pure ⟨rfl,h₃⟩
  | true=>exact wpAny_bind (wpAny_bind (wpAny_mono h₃ (fun x s4' h4'=>wpAny_bind (wpAny_mono h4' (fun ø s5 h₅=>wpAny_pure (wpAny_pure ⟨rfl,h₅⟩)) fun ø ø z=>z)) fun ø ø z=>z))
structure Dp (X:Cx)(env:Env)(Pv:Pr)(W:Wd)(H:Hp)(h:Heap)(I D:Addr)(v:V)(k:Nat)(cvs:Array Value)(nn:Nat)(acc:List V):Prop where
 it:ItAt X W h I v k
 LI:Lone X env Pv W H h I
 LD:Lone X env Pv W H h D
 g:h.get? D=some (lstO cvs nn)
 acc:VRs X W cvs.toList acc
theorem Zmb {cs:Array Value}{k:Nat}:NoNames (lstO cs k):=fun es n q=>by cases q
theorem Dp.step {env:Env}{Pv:Pr}{W W':Wd}{H H':Hp}{h h':Heap}{I D:Addr}{v:V}{k:Nat}{cvs:Array Value}{nn:Nat}{acc:List V}(P:Dp X env Pv W H h I D v k cvs nn acc)(S:Stp Pv.pv W H h W' H' h'):Dp X env Pv W' H' h' I D v k cvs nn acc:=
 ⟨P.it.keep S.le (P.LI.keep S),P.LI.step S,P.LD.step S,P.LD.keep S _ P.g Zmb,P.acc.le S.le⟩
theorem Lone.at' {env:Env}{Pv:Pr}{W:Wd}{H:Hp}{h h':Heap}{I:Addr}(L:Lone X env Pv W H h I)(h:∃o,h'.get? I=some o):Lone X env Pv W H h' I:=⟨L.own,L.z,L.pv,L.cell,L.fr,h⟩
structure Inn (X:Cx)(W:Wd)(H:Hp)(s:Shared)(env:Env)(C:Addr)(st:List Env)(W':Wd)(σ':St)(s':Shared):Prop where
 tc:Tc X W H s W' σ'.H s'
 at_:At X env (only C st) W' σ' s'
section
variable {W W' W'':Wd}{H:Hp}{σ' σ'':St}{s s' s'':Shared}{env:Env}{C:Addr}{st:List Env}
theorem Inn.step (P:Inn X W H s env C st W' σ' s')(T':Tf X env (only C st) W' σ' s' W'' σ'' s'')(hn:s.heap.get? C=none):Inn X W H s env C st W'' σ'' s'':=
 ⟨⟨P.tc.stp.transFresh T'.stp fun x e=>.inl (by rw [show x=C from e]; exact hn),T'.at_.rel,P.tc.rest.trans T'.rest⟩,T'.at_⟩
theorem Tc.poke {H':Hp}{I:Addr}{h'':Heap}{tk:Nat}(T:Tc X W H s W' H' s')(hn:s.heap.get? I=none)(ho:¬ Own W' H' I)(hz:W'.Z I=none)(hs:Heap.ExtBut I s'.heap h''):Tc X W H s W' H' { s' with heap:=h'',toks:=tk }:=
 ⟨T.stp.poke hn hs,T.rel.quiet (Pv:=fun b=>b=I) (fun b o e m=>hs b o m e) (fun b e=>by subst e; exact ⟨ho,hz⟩),⟨T.rest.gens,T.rest.drawn,T.rest.os⟩⟩
theorem Inn.poke {I:Addr}{h'':Heap}{tk:Nat}(P:Inn X W H s env C st W' σ' s')(hn:s.heap.get? I=none)(L:Lone X env (only C st) W' σ'.H s'.heap I)(hs:Heap.ExtBut I s'.heap h''):Inn X W H s env C st W' σ' { s' with heap:=h'',toks:=tk }:=
 ⟨P.tc.poke hn L.own L.z hs,P.at_.poke L hs⟩
end
inductive CpI (X:Cx)(W:Wd)(H:Hp)(s:Shared)(env:Env)(C:Addr)(st:List Env)(I D:Addr)(v:V)(xs:List V)(go:List V->List V->St->Prop)(m:Nat)(s':Shared):Prop
 | mk (k:Nat) (W':Wd) (σ':St) (ys acc:List V) (cvs:Array Value) (nn:Nat) (T:Inn X W H s env C st W' σ' s') (P:Dp X env (only C st) W' σ'.H s'.heap I D v k cvs nn acc) (sd:Stand xs k ys m) (q:go ys acc σ')
inductive CpE (X:Cx)(W:Wd)(H:Hp)(s:Shared)(D C:Addr)(W':Wd)(H':Hp)(s':Shared)(ys:List V):Prop
 | mk (cvs:Array Value) (k:Nat) (m:Str->Option Value) (t:Tc X W H s W' H' s') (sD:s.heap.get? D=none) (sC:s.heap.get? C=none) (ne:D≠C) (oD:¬ Own W' H' D) (zD:W'.Z D=none) (oC:¬ Own W' H' C) (zC:W'.Z C=none) (g:s'.heap.get? D=some (lstO cvs k)) (hv:VRs X W' cvs.toList ys) (hz:ys.length<=SZ) (ns:s'.heap.Ns C m)
section
variable {A:Around}{env:Env}{Pv:Pr}{W:Wd}{σ:St}{s:Shared}{v:V}{xs:List V}{ts:List Nat}{elt:PE}{cond:PCo}{e x:Expr}{ifs:List Expr}{y:Expr}{pos:Pos}{sc':Scope}{cl:List (Str×Addr)}{Qc:List V->St->Prop}
noncomputable abbrev cgo (X:Cx)(n:Nat)(elt:PE)(ts:List Nat)(cond:PCo)(v:V)(xs:List V)(Qc:List V->St->Prop)(ys acc:List V)(σ:St):Prop:=compGo (fun σ2 k=>wpC X.P (CW X.P n) noE cond σ2 k) (fun σ2 k=>wpE X.P (CW X.P n) noE elt σ2 k) ts (still v xs) ys acc σ Qc
theorem Zhq (K:CxOk X){cenv:Env}{C I D:Addr}{st:List Env}{R:Result->Shared->Prop}{s0':Shared}{m:Nat}(okc:EnvOk X A cenv (only C st) n ⟨sc',true⟩)(he:SE X n ⟨sc',true⟩ elt e)(hc:SCo X n ⟨sc',true⟩ cond ifs)(hct:chkTgt X.nm ⟨sc',true⟩ ts y=true)
  (sI:s.heap.get? I=none) (sD:s.heap.get? D=none) (sC:s.heap.get? C=none) (nDI:D≠I) (nDC:D≠C) (lC:cenv.locals=C) (h:CpI X W σ.H s cenv C st I D v xs (cgo X n elt ts cond v xs Qc) m s0')
  (hR:∀W' H' loc' s' ys,CpE X W σ.H s D C W' H' s' ys->Qc ys ⟨H',loc'⟩->R (.ok .next) s'):
  codeAny (model X.prog X.w) A (.compLoop (.ListComp e [⟨y,x,ifs,0⟩] sc' pos) 0 (.ref I) (.ref D) cenv) R s0':=by
 have hh:=okc.hh rfl
 refine ZfL _ (fun m s' hI=>?_) m h
 obtain ⟨k,W',σ',ys,acc,cvs,nn,T,P,sd,q⟩:=hI
 cases ys with
 | nil=>
  cases sd.nil
  refine ZeN hh T.at_.rel P.it q.1 fun h' hs=>?_
  have a:=T.poke (tk:=s'.toks) sI P.LI hs
  have pvC:=T.at_.fr.priv C rfl
  obtain ⟨m',hm',_⟩:=a.at_.fr.ns
  exact hR W' σ'.H σ'.loc _ acc ⟨cvs,nn,m',a.tc,sD,sC,nDC,P.LD.own,P.LD.z,pvC.1,pvC.2,hs D _ nDI P.g,P.acc,q.2.1,lC▸hm'⟩ q.2.2
 | cons u us=>
  obtain ⟨hu,lt,sd'⟩:=sd.cons
  have hsz:=q.2.1
  refine Zd9 T.at_.rel P.it q.1 hu fun cu h' tk hcu hit hs=>Zme hit ?_
  have T1':=T.poke (tk:=tk) sI P.LI hs
  have P1:Dp X cenv (only C st) W' σ'.H h' I D v (k+1) cvs nn acc:=⟨hit,P.LI.at' hit.there,P.LD.at' ⟨_,hs D _ nDI P.g⟩,hs D _ nDI P.g,P.acc⟩
  refine ZjK K okc hh T1'.at_ hcu hct q.2.2 fun s3' σ3 T3 q=>?_
  have P3:=P1.step T3.stp
  have C3:=T1'.step T3 sC
  refine wpAny_mono (hc A cenv (only C st) W' _ s3' _ noE okc T3.at_ q) (fun b s4' q=>q.e fun W4' σ4 T4 q4=>?_) fun ø ø z=>z.no.elim
  have P4:=P3.step T4.stp
  have C4':=C3.step T4 sC
  cases b with
  | false=>exact ⟨us.length,lt,k+1,W4',σ4,us,acc,cvs,nn,C4',P4,sd',q4⟩
  | true=>
   refine wpAny_mono (he A cenv (only C st) W4' σ4 s4' _ noE okc T4.at_ q4) (fun r s5 q=>q.e fun W5 σ5 T5 q=>q.e fun ar hr q5=>?_) fun ø ø z=>z.no.elim
   have P5:=P4.step T5.stp
   refine append_at P5.g (fun h6' hs6 hg6=>?_) (by rw [P5.acc.toArr]; exact szLine (Nat.le_of_lt hsz))
   have it6:=P5.it.keep (.refl _) fun o z ø=>hs6.extBut I o (Ne.symm nDI) z
   exact ⟨us.length,lt,k+1,W5,σ5,us,acc++[ar],cvs.push r,nn+1,(C4'.step T5 sC).poke (tk:=s5.toks) sD P5.LD hs6.extBut,⟨it6,P5.LI.at' it6.there,P5.LD.at' ⟨_,hg6⟩,hg6,by rw [Array.toList_push]; exact P5.acc.append (.cons hr .nil)⟩,sd',q5⟩
theorem Zc0 (K:CxOk X){Ex:Value->Shared->Prop}{cv:Value}{RR:Value->Addr->Result->Shared->Prop}
  (ok:EnvOk X A env Pv n sc) (at_:At X env Pv W σ s) (he:SE X n ⟨sc',true⟩ elt e) (hc:SCo X n ⟨sc',true⟩ cond ifs) (hct:chkTgt X.nm ⟨sc',true⟩ ts y=true) (F:CompFacts X sc sc' env ts cl) (hhd:sc.hd=true)
  (hv:VR X W cv v) (hxs:items σ.H v=some xs) (hgo:cgo X n elt ts cond v xs Qc xs [] ⟨σ.H,unbs ts σ.loc⟩)
  (hRR:∀D C W' H' loc' s' ys,CpE X W σ.H s D C W' H' s' ys->Qc ys ⟨H',loc'⟩->RR (.ref D) C (.ok .next) s'):
  wpAny (model X.prog X.w) A (pyIter cv) (fun it s2'=>wpAny (model X.prog X.w) A (newList []) (fun acc s3'=>wpAny (model X.prog X.w) A (newFunctionEnv sc' env.globals cl [] env.qual none .none (some env)) (fun cenv s4'=>
   codeAny (model X.prog X.w) A (.compStart (.ListComp e [⟨y,x,ifs,0⟩] sc' pos) 0 it acc { cenv with scope:=relabel sc' env }) (RR acc cenv.locals) s4') Ex s3') Ex s2') Ex s:=by
 refine Zgp at_.rel hv hxs fun oI hfo hit=>wpAny_newObj_type (wpAny_newFunctionEnv (fun z hz q=>F.cell z.1 (q▸hz)) (fun z hz=>nomatch hz) (fun h1' hns hsb=>?_) F.kind)
 dsimp only at hns hsb ⊢
 have eD:(s.heap.push oI).objs.size=s.heap.objs.size+1:=Heap.size_push ..
 have eC:((s.heap.push oI).push { cls:=.type "list",dict:=none,data:=.seq ([]:List Value).toArray }).objs.size=s.heap.objs.size+1+1:=(Heap.size_push ..).trans (congrArg (·+1) eD)
 have k1:∀b o,((s.heap.push oI).push { cls:=.type "list",dict:=none,data:=.seq ([]:List Value).toArray }).get? b=some o->h1'.get? b=some o:=fun b o q=>hsb.extBut b o (Nat.ne_of_lt (Heap.lt_size q)) (Heap.get?_push_of_some _ q)
 have gD:h1'.get? (s.heap.push oI).objs.size=some (lstO #[] 0):=k1 _ _ (Heap.get?_push_size _ rfl)
 generalize ((s.heap.push oI).push { cls:=.type "list",dict:=none,data:=.seq ([]:List Value).toArray }).objs.size=C at hns hsb eC ⊢
 generalize (s.heap.push oI).objs.size=D at gD hns hsb eD ⊢
 have sI:=Zag s.heap
 have k0:∀b o,s.heap.get? b=some o->h1'.get? b=some o:=fun b o q=>k1 b o (Heap.get?_push_of_some _ (Heap.get?_push_of_some _ q))
 have gI:ItAt X W h1' s.heap.objs.size v 0:=hit.keep (.refl _) fun o q ø=>k1 _ _ (Heap.get?_push_of_some _ q)
 have sD:s.heap.get? D=none:=Heap.get?_none_of_le (by rw [eD]; exact Nat.le_succ _)
 have sC:s.heap.get? C=none:=Heap.get?_none_of_le (by rw [eC]; exact Nat.le_succ_of_le (Nat.le_succ _))
 have nDC:D≠C:=by rw [eC,eD]; exact Nat.ne_of_lt (Nat.lt_succ_self _)
 have nIC:s.heap.objs.size≠C:=by rw [eC]; exact Nat.ne_of_lt (Nat.lt_succ_of_lt (Nat.lt_succ_self _))
 have nDI:D≠s.heap.objs.size:=by rw [eD]; exact Nat.ne_of_gt (Nat.lt_succ_self _)
 have lone:∀b,s.heap.get? b=none->b≠C->(∃o,h1'.get? b=some o)->Lone X (compEnvC sc' cl C env) (only C Pv.st) W σ.H h1' b:=fun b hb ne hat=>
  have L:=Lone.new (h':=h1') at_ hb hat
  ⟨L.own,L.z,fun q=>ne q,fun z c q=>L.cell z c (F.h2 _ _ q),L.fr,hat⟩
 have loop:codeAny (model X.prog X.w) A (.compLoop (.ListComp e [⟨y,x,ifs,0⟩] sc' pos) 0 (.ref s.heap.objs.size) (.ref D) (compEnvC sc' cl C env)) (RR (.ref D) C) { s with heap:=h1',toks:=s.toks+([]:List (Str×Value)).length }:=
  Zhq K (Zh3 ok F hhd) he hc hct sI sD sC nDI nDC rfl ⟨0,W,⟨σ.H,unbs ts σ.loc⟩,xs,[],#[],0,⟨⟨.quiet (fun b o q ø=>k0 b o q) fun b o q=>⟨o,k0 b o q⟩,at_.rel.quiet (Pv:=noPv) (fun b o q ø=>k0 b o q) fun ø z=>z.elim,⟨rfl,rfl,rfl⟩⟩,Zkx K ok at_ F sC k0 ⟨_,hns⟩⟩,⟨gI,lone _ sI nIC gI.there,lone D sD nDC ⟨_,gD⟩,gD,.nil⟩,⟨rfl,Nat.zero_add _,rfl⟩,hgo⟩ (hRR D C)
 exact codeAny_compStart_list loop (ZfY gI loop)
end
theorem Ze5 {fz:Bool}{σ:St}{Q:V->St->Prop}{r:LV}{v:Value}{W':Wd}{H':Hp}(g:give fz σ Q r)(h:Res X fz σ.H r v W' H'){s':Shared}:VQ X Q v W' ⟨H',σ.loc⟩ s':=by
 cases r with
 | val x=>obtain ⟨a,rfl⟩:=h; exact ⟨x,a,g⟩
 | newList xs=>cases fz <;> (obtain ⟨a,rfl⟩:=h; exact ⟨_,a,g.2⟩)
section
variable {fz:Bool}{elt it:PE}{ts:List Nat}{cond:PCo}{e x:Expr}{ifs:List Expr}{y:Expr}{pos:Pos}{sc':Scope}(hi:SE X n sc it x)(he:SE X n ⟨sc',true⟩ elt e)(hc:SCo X n ⟨sc',true⟩ cond ifs)(hct:chkTgt X.nm ⟨sc',true⟩ ts y=true)(hsc:chkSc X.nm sc sc' ts=true)(hhd:sc.hd=true)(hx:Nat.ble (xu x).tag 15=true)
include hi he hc hct hsc hhd hx
theorem Ze4 (K:CxOk X):SE X n sc (.comp fz elt ts it cond) (.ListComp e [⟨y,x,ifs,0⟩] sc' pos):=by
 intro A env Pv W σ s Q E ok at_ h
 obtain ⟨cl,F⟩:=Zc3 ok hsc
 rw [eval_ListComp]
 refine wpAny_comprehension_free (use:=none) rfl (Zco hx) F.clos F.kind (fun x hx hl=>by obtain ⟨x,k⟩:=x; subst hl; exact ZcN F.uniq hx) (hi.post ok at_ h fun cv W1 σ1 s1' v T1' hv q=>Zab q fun xs hxs q=>Zc0 K ok T1'.at_ he hc hct F hhd hv hxs q fun D C W' H' loc' s' ys z hg=>?_)
 obtain ⟨cvs,k,m,T,sD,sC,ne,oD,zD,oC,zC,gD,hys,hsz,hm⟩:=z
 refine ⟨m,hm,fun h' hs=>?_⟩
 obtain ⟨W'',H'',T'',res,_⟩:=Zdc (fz:=fz) (T.poke (tk:=s'.toks) sC oC zC hs.extBut) sD oD zD (hs.extBut D _ ne gD) hys hsz
 exact ⟨_,_,T1'.trans (T''.tf T1'.at_),Ze5 (σ:=⟨H',σ1.loc⟩) hg res⟩
end
end
section
variable {sc:Sc}
section
variable {fz:Bool}{elt it:PE}{ts:List Nat}{cond:PCo}{e x:Expr}{ifs:List Expr}{y:Expr}{pos:Pos}{sc':Scope}(hi:SE X n sc it x)(he:SE X n ⟨sc',true⟩ elt e)(hc:SCo X n ⟨sc',true⟩ cond ifs)(hct:chkTgt X.nm ⟨sc',true⟩ ts y=true)(hsc:chkSc X.nm sc sc' ts=true)(hhd:sc.hd=true)(hx:Nat.ble (xu x).tag 15=true)
include hi he hc hct hsc hhd hx
theorem ZfJ (K:CxOk X){i:Nat}{pz pf:Pos}{A:Around}{env:Env}{Pv:Pr}{W:Wd}{σ:St}{s:Shared}{Q:Flow->St->Prop}{E:EP}(hk:kStore sc (X.nm i)=true)(ok:EnvOk X A env Pv n sc)(hf:env.func≠none)(at_:At X env Pv W σ s)
  (h:wpE X.P (CW X.P n) E (.comp fz elt ts it cond) σ fun v σ1=>Q .next (σ1.put i v)):
  wpAny (model X.prog X.w) A (comprehension (.ListComp e [⟨y,x,ifs,0⟩] sc' pos) sc' env pf (newList []) false (eval x env) (some (assign (.Name (X.nm i) pz) env))) (fun ø s'=>Go X env Pv W σ s (FQ X Q) PySem.Flow.next s') (EX X env Pv W σ s E) s:=by
 obtain ⟨cl,F⟩:=Zc3 ok hsc
 refine wpAny_comprehension_free (use:=some (assign (.Name (X.nm i) pz) env)) rfl (Zco hx) F.clos F.kind (fun x hx hl=>by obtain ⟨x,k⟩:=x; subst hl; exact ZcN F.uniq hx) (hi.post ok at_ h fun cv W1 σ1 s1' v T1' hv q=>Zab q fun xs hxs q=>Zc0 K ok T1'.at_ he hc hct F hhd hv hxs q fun D C W' H' loc' s' ys z hg=>?_)
 obtain ⟨cvs,k,m,T,sD,sC,ne,oD,zD,oC,zC,gD,hys,hsz,hm⟩:=z
 obtain ⟨W'',H'',T'',res,oth⟩:=Zdc (fz:=fz) T sD oD zD gD hys hsz
 have T2:Tf X env Pv W1 σ1 s1' W'' ⟨H'',σ1.loc⟩ s':=T''.tf T1'.at_
 have L:=Lone.new (h':=s'.heap) T1'.at_ sC (let ⟨o,_,_,ho,_⟩:=hm; ⟨o,ho⟩)
 have o:=oth C (Ne.symm ne) oC zC
 have LC:Lone X env Pv W'' H'' s'.heap C:=⟨o.1,o.2,L.pv,L.cell,L.fr,L.at_⟩
 exact (Ze5 (s':=s) (σ:=⟨H',σ1.loc⟩) hg res).e fun av hav hq=>wpAny_assign_Name (ZbR K ok hf T2.at_ hk hav fun s3' T3=>
  ⟨m,Zep hm fun o ho=>T3.stp.keep C o ho LC.own LC.pv,fun h'' hs=>(((T1'.trans T2).trans T3).poke (tk:=s3'.toks) (ZcM sC T1'.stp.there) (LC.step T3.stp) hs.extBut).flow .next hq⟩)
theorem Zcw (K:CxOk X){i:Nat}{z:Str}{pz pos':Pos}(hz:z=X.nm i)(hk:kStore sc z=true):S1 X n sc (.assign (.loc i) (.comp fz elt ts it cond)) (.Assign [.Name z pz] (.ListComp e [⟨y,x,ifs,0⟩] sc' pos) pos'):=by
 intro A env Pv W σ s Q E ok hf at_ h
 subst hz
 have sw:swapsWith (.ListComp e [⟨y,x,ifs,0⟩] sc' pos) (some (.Name (X.nm i) pz)) pos'.line env=pure (env.blockKind==.function&&env.kindOf (X.nm i)==some .local&&pz.line==pos.line&&!(sc'.names.any fun (n,k)=>n==X.nm i&&(k==.local || k==.cell))):=rfl
 generalize (env.blockKind==.function&&env.kindOf (X.nm i)==some .local&&pz.line==pos.line&&!(sc'.names.any fun (n,k)=>n==X.nm i&&(k==.local || k==.cell)))=b at sw
 cases b with
 | false=>exact wpAny_Assign_Name ((Ze4 hi he hc hct hsc hhd hx K).post ok at_ h fun v W1 σ1 s1' y T hv q=>ZbR K ok hf T.at_ hk hv fun s'' T'=>(T.trans T').flow .next q) sw
 | true=>
  unfold Ew
  rw [exec_Assign_Name_used _ _ _ _ sw]
  exact wpAny_bind (wpAny_standAt (wpAny_bind (wpAny_bind (wpAny_mono (ZfJ hi he hc hct hsc hhd hx K hk ok hf at_ h) (fun ø s' q=>wpAny_pure (wpAny_pure q)) fun ø ø z=>z))))
end
end
section
variable {sc:Sc}
theorem ZgT {x o i:Expr}{p:Pos}{l:Nat}{env:Env}:swapsWith x (some (.Subscript o i p)) l env=pure false:=by
 cases x <;> rfl
theorem Zij {A:Around}{env:Env}{Pv:Pr}{W:Wd}{σ:St}{s:Shared}{Ex:Value->Shared->Prop}{ov iv v:Value}{g y x:V}{Q:Unit->Shared->Prop}{q:St->Prop}(at_:At X env Pv W σ s)(ho:VR X W ov g)(hi:VR X W iv y)(hv:VR X W v x)
  (h:need (aRef g) fun i=>need (cD (σ.H.get i)) fun kvs=>Nd (keyOk (dKeys kvs) y=true) (Nd (kvs.length < SZ) (q (σ.setH (σ.H.set i (.dict (dSet kvs y x)))))))
  (hq:∀W' σ' s',Tf X env Pv W σ s W' σ' s'->q σ'->Q () s'):wpAny (model X.prog X.w) A (setItem ov iv v) Q Ex s:=
 Zab h fun i ei h=>Zab h fun kvs ek h=>Zfd ho ei fun l e hl ø=>Zhu hi h.1 fun j t e1 e2=>by
  subst e e1 e2
  obtain ⟨es,d,r,e,ne,z⟩:=at_.rel.at_ (Zn5 ek) hl
  have hn:(es.map (·.1)).Nodup:=d.elim fun ø d=>d.elim fun ø d=>d.elim fun ø d=>d.2.2.2.2.2
  refine wpAny_setItem_pairs (intKind_is _ _ j t) d (fun h' d' hs=>hq W _ _ (Tc.tf at_ (W':=W) (H':=σ.H.set i (.dict (dSet kvs (.int j) x))) ?_) h.2.2) (by rw [r.len]; exact szLine z)
  have len:(dSet kvs (.int j) x).length<=SZ:=by rw [← (r.put (i:=j) hv hn).len]; exact Nat.le_trans (stored_length_le _ _ _) (by rw [r.len]; exact h.2.1)
  obtain ⟨R,S⟩:=at_.rel.upd (h':=h') (c':=.dict (dSet kvs (.int j) x)) (Zn5 ek) hl (fun b ob q n1 ø=>(hs.2 b n1).trans q) ⟨stored es j v,d',r.put hv hn,e,ne,len⟩
  exact ⟨S,R,⟨rfl,rfl,rfl⟩⟩
theorem ZcO {o i e:PE}{v u x:Expr}{p pos:Pos}(he:SE X n sc e x)(ho:SE X n sc o v)(hi:SE X n sc i u):S1 X n sc (.assign (.idx o i) e) (.Assign [.Subscript v u p] x pos):=fun A env Pv W σ s Q E ok hf at_ h=>
 wpAny_Assign_Subscript (he.post ok at_ h fun cv W1 σ1 s1' x T1' hv h1'=>wpAny_mono (ho.post ok T1'.at_ h1' fun ov W2 σ2 s2' g T2 hg h2'=>wpAny_mono (hi.post ok T2.at_ h2' fun iv W3 σ3 s3' y T3 hy h₃=>
  Zij (Q:=fun ø s'=>Go X env Pv W σ s (FQ X Q) PySem.Flow.next s') (Ex:=EX X env Pv W σ s E) T3.at_ (hg.le T3.stp.le) hy (hv.le (T2.stp.le.trans T3.stp.le)) h₃ fun W' σ' s' T hq=>(((T1'.trans T2).trans T3).trans T).flow .next hq) (fun ø ø q=>q) fun ø ø y=>y.back (T1'.trans T2)) (fun ø ø q=>q) fun ø ø y=>y.back T1') ZgT
theorem ZcQ (K:CxOk X){is:List Nat}{elts:List Expr}{k:Nat}{p pos:Pos}{e:PE}{x:Expr}(he:SE X n sc e x)(ht:tgts X.nm sc is elts=true)(hhd:sc.hd=true)(h15:Nat.ble 1 (xu x).tag=true)(h14:Nat.ble (xu x).tag 14=true)(h10:tg x 10=false):S1 X n sc (.assign (.tup is) e) (.Assign [.Tuple elts k p] x pos):=fun A env Pv W σ s Q E ok hf at_ h=>
 wpAny_Assign_stores (he.post ok at_ h fun cv W1 σ1 s1' v T1' hv h1'=>show wpAny _ A (assign (.Tuple elts k p) env cv) _ _ s1' from Zfb K ok (ok.hh hhd) T1'.at_ hv ht h1' fun s' σ' T' q=>(T1'.trans T').flow .next q) (by
  cases x <;> first | rfl | (cases h15; done) | (cases h14; done)) (by
  cases x <;> first | rfl | (cases h10; done))
end
inductive ElT:List (Int×Value)->List Int->Prop
 | nil:ElT [] []
 | cons {l:List (Int×Value)} {L:List Int} (i:Int) (t:Tok):ElT l L->ElT ((hashInt i,.int i t)::l) (i::L)
inductive SetT (h:Heap)(a:Addr)(p:List Int×SetTable):Prop
 | mk (o:Obj) (es:Array (Int×Value)) (ep:Nat) (g:h.get? a=some o) (x:o.ExactSet) (d:o.data=.set es ep p.2) (e:ElT es.toList p.1) (f:p.2.fits es.size=true)
theorem ElT.len {l:List (Int×Value)}{L:List Int}(h:ElT l L):l.length=L.length:=by
 induction h with
 | nil=>rfl
 | cons _ _ _ ih=>exact congrArg (·+1) ih
theorem ElT.size {l:Array (Int×Value)}{L:List Int}(h:ElT l.toList L):l.size=L.length:=h.len
theorem ElT.hash {l:List (Int×Value)}{L:List Int}(h:ElT l L):l.map (·.1)=L.map hashInt:=by
 induction h with
 | nil=>rfl
 | cons i _ _ ih=>exact congrArg (hashInt i::·) ih
theorem ElT.append {l l':List (Int×Value)}{L L':List Int}(h:ElT l L)(h':ElT l' L'):ElT (l++l') (L++L'):=by
 induction h with
 | nil=>exact h'
 | cons i t _ ih=>exact .cons i t ih
theorem ElT.take {l:List (Int×Value)}{L:List Int}(h:ElT l L):∀k:Nat,ElT (l.take k) (L.take k):=by
 induction h with
 | nil=>intro k; cases k <;> exact .nil
 | cons i t _ ih=>
  intro k
  cases k with
  | zero=>exact .nil
  | succ k=>exact .cons i t (ih k)
theorem ElT.drop {l:List (Int×Value)}{L:List Int}(h:ElT l L):∀k:Nat,ElT (l.drop k) (L.drop k):=by
 induction h with
 | nil=>intro k; cases k <;> exact .nil
 | cons i t h ih=>
  intro k
  cases k with
  | zero=>exact .cons i t h
  | succ k=>exact ih k
theorem ElT.get {l:List (Int×Value)}{L:List Int}(h:ElT l L):∀k:Nat,(l[k]?=none/\L[k]?=none)\/∃i t,l[k]?=some (hashInt i,.int i t)/\L[k]?=some i:=by
 induction h with
 | nil=>exact fun k=>.inl ⟨rfl,rfl⟩
 | cons i t _ ih=>
  intro k
  cases k with
  | zero=>exact .inr ⟨i,t,rfl,rfl⟩
  | succ k=>exact ih k
theorem ElT.pick {l:List (Int×Value)}{L:List Int}(h:ElT l L)(o:List Nat):ElT (o.filterMap fun k=>l[k]?) (o.filterMap fun k=>L[k]?):=by
 induction o with
 | nil=>exact .nil
 | cons k o ih=>
  rw [List.filterMap_cons,List.filterMap_cons]
  rcases h.get k with ⟨a,b⟩ | ⟨i,t,a,b⟩
  ·rw [a,b]; exact ih
  ·rw [a,b]; exact .cons i t ih
theorem Zm4 {es:Array (Int×Value)}{L:List Int}(h:ElT es.toList L)(t:SetTable)(i:Int)(u:Tok):ElT (layNew t es (hashInt i) (.int i u)).1.toList (layT L t i).1/\(layNew t es (hashInt i) (.int i u)).2.1=(layT L t i).2.1/\(layNew t es (hashInt i) (.int i u)).2.2.1=(layT L t i).2.2:=by
 unfold layNew layT
 cases t.freeSlot (hashInt i) with
 | none=>
  refine ⟨?_,by rw [h.size],rfl⟩
  show ElT (es.push _).toList _
  rw [Array.toList_push]; exact h.append (.cons i u .nil)
 | some r=>
  obtain ⟨slot,wd⟩:=r
  have e:(SetTable.insertAt es (t.put slot).2 (hashInt i,Value.int i u)).toList=es.toList.take (t.put slot).2++(hashInt i,Value.int i u)::es.toList.drop (t.put slot).2:=SetTable.toList_insertAt ..
  have hE:ElT (SetTable.insertAt es (t.put slot).2 (hashInt i,Value.int i u)).toList (L.take (t.put slot).2++i::L.drop (t.put slot).2):=by
   rw [e]; exact (h.take _).append (.cons i u (h.drop _))
  refine ⟨hE, ?_,rfl⟩
  show (t.put slot).1.orStandIn (SetTable.insertAt es (t.put slot).2 (hashInt i,Value.int i u)).size=_
  rw [hE.size,List.length_append,List.length_cons,← Nat.add_assoc,← List.length_append,List.take_append_drop]
theorem Zm3 {es:Array (Int×Value)}{L:List Int}(h:ElT es.toList L)(t:SetTable)(n:Nat):ElT (relayAll t es n).1.toList (relT L t n).1/\(relayAll t es n).2.1=(relT L t n).2:=by
 have hm:es.map (·.1)=(L.map hashInt).toArray:=by
  apply Array.toList_inj.mp
  rw [Array.toList_map,h.hash]
 unfold relayAll relT
 rw [hm,h.size]
 cases t.relaid (L.map hashInt).toArray n with
 | none=>exact ⟨h,rfl⟩
 | some r=>
  obtain ⟨t',o⟩:=r
  have hE:ElT (o.filterMap (es[·]?)).toList (o.toList.filterMap fun k=>L[k]?):=by
   rw [Array.toList_filterMap]
   have:=h.pick o.toList
   simpa [Array.getElem?_toList] using this
  dsimp only
  rw [hE.size]
  split
  ·exact ⟨hE,rfl⟩
  ·exact ⟨h,rfl⟩
section
variable {A:Around}{E:Value->Shared->Prop}{s:Shared}
theorem ElT.elems {l:List (Int×Value)}{L:List Int}(h:ElT l L):ElemsOf (intKind X.prog X.w) l:=by
 induction h with
 | nil=>exact fun e he=>(nomatch he)
 | cons i t _ ih=>exact fun e he=>(List.mem_cons.mp he).elim (fun q=>q▸⟨⟨i,intKind_is _ _ _ _,rfl⟩,rfl⟩) (ih e)
theorem ElT.mem {l:List (Int×Value)}{L:List Int}(h:ElT l L){i:Int}:i∈L↔∃e∈l,(intKind X.prog X.w).is i e.2=true:=by
 induction h with
 | nil=>exact ⟨fun q=>(nomatch q),fun ⟨e,he,_⟩=>(nomatch he)⟩
 | @cons l L j t _ ih=>
  have hj:(intKind X.prog X.w).is i (.int j t)=true↔i=j:=by
   rw [KeyKind.is_eq_decide (intKind_is X.prog X.w j t) i,decide_eq_true_eq]
  constructor
  ·intro q
   rcases List.mem_cons.mp q with q | q
   ·exact ⟨_,.head _,hj.mpr q⟩
   ·obtain ⟨e,he,z⟩:=ih.mp q; exact ⟨e,.tail _ he,z⟩
  ·rintro ⟨e,he,z⟩
   rcases List.mem_cons.mp he with rfl | he
   ·rw [hj.mp z]; exact .head _
   ·exact .tail _ (ih.mpr ⟨e,he,z⟩)
theorem SetT.store {h:Heap}{a:Addr}{o:Obj}{es:Array (Int×Value)}{ep:Nat}{t:SetTable}(ho:h.get? a=some o)(hex:o.ExactSet)(hd:o.data=.set es ep t){es':Array (Int×Value)}{t':SetTable}{L:List Int}(e:ElT es'.toList L)(f:t'.fits es'.size=true):
  (h.update a (Obj.putSet es' t')).get? a=some { o with data:=.set es' (ep+1) t' }/\SetT (h.update a (Obj.putSet es' t')) a (L,t'):=by
 have hg:(h.update a (Obj.putSet es' t')).get? a=some { o with data:=.set es' (ep+1) t' }:=by
  have:=Heap.get?_update_self (Obj.putSet es' t') ho (by rw [putSet_of es' t' hd]; rfl)
  rw [putSet_of es' t' hd] at this; exact this
 exact ⟨hg,_,es',ep+1,hg,hex,rfl,e,f⟩
theorem SetT.keep {h h':Heap}{a:Addr}{p:List Int×SetTable}(S:SetT h a p)(k:∀o,h.get? a=some o->h'.get? a=some o):SetT h' a p:=by
 obtain ⟨o,es,ep,ho,hex,hd,e,f⟩:=S
 exact ⟨o,es,ep,k o ho,hex,hd,e,f⟩
theorem Zcr {L:List Int}{t:SetTable}{i:Int}:(layT L t i).1.length=L.length+1:=by
 unfold layT
 cases t.freeSlot (hashInt i) with
 | none=>exact List.length_append
 | some r=>show (L.take (t.put r.1).2++i::L.drop (t.put r.1).2).length=_; rw [List.length_append,List.length_cons,← Nat.add_assoc,← List.length_append,List.take_append_drop]
theorem Zfq {g:Bool->Sem Unit}(hg:∀(b:Bool) (s1':Shared) (Q':Unit->Shared->Prop),Q' () s1'->wpAny (model X.prog X.w) A (g b) Q' E s1')
  {a:Addr} {o:Obj} {es:Array (Int×Value)} {ep:Nat} {t:SetTable} (ho:s.heap.get? a=some o) (hex:o.ExactSet) (hd:o.data=.set es ep t)
  {es1:Array (Int×Value)} {t2:SetTable} {L:List Int} (e:ElT es1.toList L) (hb:es1.size < scanBound) (f:t2.fits es1.size=true) {wd:Bool} {R:Option Bool->Shared->Prop}
  (h:∀h',Heap.SameBut a s.heap h'->SetT h' a (if (!wd&&t2.tooFull)=true then relT L t2 (SetTable.grown L.length) else (L,t2))->R (some true) { s with heap:=h' }):
  wpAny (model X.prog X.w) A (do
    storeSet a es1 t2
    if (!wd&&t2.tooFull)=true then do
      g (relayAll t2 es1 (SetTable.grown es1.size)).2.2
      storeSet a (relayAll t2 es1 (SetTable.grown es1.size)).1 (relayAll t2 es1 (SetTable.grown es1.size)).2.1
      pure (some true)
     else pure (some true)) R E s:=by
 refine wpAny_bind (wpAny_storeSet_of ho hd ?_ (fits_of_scanBound hb))
 obtain ⟨ho1,S1⟩:=SetT.store ho hex hd e f
 have b1:=Heap.SameBut.update s.heap a (Obj.putSet es1 t2)
 by_cases c:(!wd&&t2.tooFull)=true
 ·rw [if_pos c] at h ⊢
  obtain ⟨e2,t2e⟩:=Zm3 e t2 (SetTable.grown es1.size)
  have rp:=relayAll_perm t2 es1 (SetTable.grown es1.size)
  have hz:(relayAll t2 es1 (SetTable.grown es1.size)).1.size=es1.size:=by rw [← Array.length_toList,rp.length_eq,Array.length_toList]
  refine wpAny_bind (hg _ _ _ (wpAny_bind (wpAny_storeSet_of ho1 rfl ?_ (fits_of_scanBound (by rw [hz]; exact hb)))))
  have S2:=(SetT.store ho1 hex rfl e2 (relayAll_fits t2 es1 (SetTable.grown es1.size))).2
  refine wpAny_pure (h _ (b1.trans (Heap.SameBut.update _ a _)) ?_)
  rw [← e.size]
  have:((relT L t2 (SetTable.grown es1.size)).1,(relayAll t2 es1 (SetTable.grown es1.size)).2.1)=relT L t2 (SetTable.grown es1.size):=by rw [t2e]
  rw [← this]; exact S2
 ·rw [if_neg c] at h ⊢
  exact wpAny_pure (h _ b1 S1)
theorem ZdW {a:Addr}{p:List Int×SetTable}{i:Int}{u:Tok}{Q:Bool->Shared->Prop}(S:SetT s.heap a p)(hr:p.1.length+1 < scanBound)
  (h:∀h' b,Heap.SameBut a s.heap h'->SetT h' a (addT p i)->Q b { s with heap:=h' }):wpAny (model X.prog X.w) A (setAddHashed a (.int i u) (hashInt i)) Q E s:=by
 obtain ⟨L,t⟩:=p
 obtain ⟨o,es,ep,ho,hex,hd,e,f⟩:=id S
 have hd:o.data=.set es ep t:=hd
 have e:ElT es.toList L:=e
 have f:t.fits es.size=true:=f
 have hr:L.length+1 < scanBound:=hr
 have hb:es.size < scanBound:=by rw [e.size]; exact Nat.lt_of_succ_lt hr
 have mem:i∈L↔∃e∈es.toList,(intKind X.prog X.w).is i e.2=true:=e.mem
 unfold setAddHashed setAddHashedIn
 refine wpAny_holding (wpAny_bind (wpAny_setState_of ho hd f ?_))
 dsimp only
 rw [byScan_of (knd:=intKind X.prog X.w) (x:=.int i u) rfl hb e.elems]
 simp only [↓reduceIte]
 unfold setAddByScan
 refine wpAny_bind (wpAny_bind (wpAny_rule (wpAny_bind (wpAny_setScan_of (knd:=intKind X.prog X.w) (intKind_is X.prog X.w i u) ho hd f e.elems ?_))))
 cases q:List.findIdx? (fun e=>(intKind X.prog X.w).is i e.2) es.toList with
 | some j=>
  obtain ⟨hj,hp,_⟩:=List.findIdx?_eq_some_iff_getElem.mp q
  have hi:i∈L:=mem.mpr ⟨_,List.getElem_mem hj,hp⟩
  refine wpAny_pure (wpAny_pure ?_)
  exact h s.heap false (Heap.SameBut.refl a s.heap) (by unfold addT; rw [if_pos hi]; exact S)
 | none=>
  have hi:i∉L:=fun z=>by
   obtain ⟨e',he,hp⟩:=mem.mp z
   rw [List.findIdx?_eq_none_iff.mp q e' he] at hp; cases hp
  obtain ⟨e1,q2,q3⟩:=Zm4 e t i u
  have hf:=layNew_fits t es (hashInt i) (.int i u)
  have hb1:(layNew t es (hashInt i) (.int i u)).1.size < scanBound:=by rw [e1.size,Zcr]; exact hr
  have h:∀h' b,Heap.SameBut a s.heap h'->SetT h' a (if (!(layT L t i).2.2&&(layT L t i).2.1.tooFull)=true then relT (layT L t i).1 (layT L t i).2.1 (SetTable.grown (layT L t i).1.length) else ((layT L t i).1,(layT L t i).2.1))->Q b { s with heap:=h' }:=fun h' b sb S'=>h h' b sb (by unfold addT; rw [if_neg hi]; exact S')
  rw [← q2,← q3] at h
  generalize (layT L t i).1=L1 at e1 h
  generalize layNew t es (hashInt i) (.int i u)=LL at e1 hf hb1 h ⊢
  obtain ⟨es1,t1,wd,gave⟩:=LL
  dsimp only at e1 hf hb1 h ⊢
  have hg:∀(b:Bool) (s1':Shared) (Q':Unit->Shared->Prop),Q' () s1'->wpAny (model X.prog X.w) A (match b with | true=>rule "set.scan.the-table-gave-way" | false=>pure ()) Q' E s1':=
   fun b s1' Q' hq=>by cases b <;> first | exact wpAny_pure hq | exact wpAny_rule hq
  refine wpAny_bind (hg _ _ _ ?_)
  split
  ·refine wpAny_bind ?_
   rw [hashByValue_scannable 8 (x:=.int i u) rfl]
   refine wpAny_pure ?_
   exact Zfq (wd:=wd) hg ho hex hd e1 hb1 hf fun h' sb S'=>wpAny_pure (h h' true sb S')
  ·refine wpAny_bind (wpAny_pure ?_)
   simp only [↓reduceIte]
   exact Zfq (wd:=wd) hg ho hex hd e1 hb1 hf fun h' sb S'=>wpAny_pure (h h' true sb S')
end
section
variable {A:Around}{E:Value->Shared->Prop}{s:Shared}
theorem Zdf {p:List Int×SetTable}{i:Int}:(addT p i).1.length<=p.1.length+1:=by
 unfold addT
 split
 ·exact Nat.le_succ _
 ·split
  ·unfold relT
   split
   ·rename_i t' o _
    split
    ·rename_i c
     have c:=(Bool.and_eq_true ..).mp c
     have hp:List.Perm o.toList (List.range (layT p.1 p.2 i).1.length):=List.isPerm_iff.mp c.1
     have h1:=List.length_filterMap_le (fun k=>(layT p.1 p.2 i).1[k]?) o.toList
     rw [hp.length_eq,List.length_range,Zcr] at h1
     exact h1
    ·exact Nat.le_of_eq Zcr
   ·exact Nat.le_of_eq Zcr
  ·exact Nat.le_of_eq Zcr
theorem ZhW {S I l:Addr}{items:Array Value}{ns:List Int}(hh:A.handled=none)(hi:IntsAre items.toList ns)(n1:S≠I)(n2:S≠l)(n3:I≠l){R:Result->Shared->Prop}(r:List Int):
  ∀(k:Nat) (L:List Int×SetTable) (s:Shared),ns.drop k=r->s.heap.IsListIter I l k->s.heap.IsList l items->SetT s.heap S L->L.1.length+r.length+1 < scanBound->
   (∀h' tk,SetT h' S (r.foldl addT L)->(∀b o,b≠S->b≠I->s.heap.get? b=some o->h'.get? b=some o)->R (.ok (.ret .none)) { s with heap:=h',toks:=tk })->
   codeAny (model X.prog X.w) A (.builtin "set.update.loop" ⟨[.ref S,.ref I],[]⟩) R s:=by
 induction r with
 | nil=>
  intro k L s hd it hl hS hb h
  have hn:items[k]?=none:=by
   rw [← Array.getElem?_toList]
   refine List.getElem?_eq_none ?_
   rw [hi.length]; exact List.drop_eq_nil_iff.mp hd
  refine codeAny_builtin PyProof.Rows.F.entry_set_update_loop ?_
  rw [Around.under_plainId PyProof.Rows.F.plain_set_update_loop _]
  show wpAny _ A.in1 (pyNext (.ref I) >>= _) _ _ s
  refine wpAny_bind (wpAny_pyNext_list_end (A:=A.in1) (by simp [hh]) it hl hn fun h' hs=>?_)
  show wpAny _ A.in1 (ret Value.none) _ _ _
  exact wpAny_pure (h h' s.toks (hS.keep fun o e=>hs S o n1 e) fun b o ø nb e=>hs b o nb e)
 | cons i r ih=>
  intro k L s hd it hl hS hb h
  have hk:ns[k]?=some i:=by rw [← List.head?_drop,hd]; rfl
  have hd':ns.drop (k+1)=r:=by rw [← List.tail_drop,hd]; rfl
  have lt:k < items.toList.length:=by rw [hi.length]; exact (List.getElem?_eq_some_iff.mp hk).1
  obtain ⟨t,ht⟩:=PyProof.Rows.IntsAre.int_at hi k _ (List.getElem?_eq_getElem lt)
  have hv:items[k]?=some (.int i t):=by
   rw [← Array.getElem?_toList,List.getElem?_eq_getElem lt,ht,List.getD_eq_getElem?_getD,hk]; rfl
  refine codeAny_builtin PyProof.Rows.F.entry_set_update_loop ?_
  rw [Around.under_plainId PyProof.Rows.F.plain_set_update_loop _]
  show wpAny _ A.in1 (pyNext (.ref I) >>= _) _ _ s
  refine wpAny_bind (wpAny_pyNext_list_item it hl hv fun h1' it1 hs1=>?_)
  show wpAny _ A.in1 (holding [Value.int i t] (setAdd S (.int i t)) >>= _) _ _ _
  refine wpAny_bind (wpAny_holding ?_)
  unfold setAdd
  refine wpAny_holding (wpAny_bind ((intKind X.prog X.w).pyHash (k:=i) (intKind_is _ _ _ _) ?_))
  have hb:L.1.length+(r.length+1)+1 < scanBound:=hb
  refine ZdW (s:={ s with heap:=h1',toks:=s.toks+1 }) (hS.keep fun o e=>hs1.extBut S o n1 e) (by exact lf6 (Nat.le_of_lt hb)) fun h2' b hs2 S2'=>?_
  refine wpAny_pure ⟨plainId_quiet PyProof.Rows.F.plain_set_update_loop _,ih (k+1) (addT L i) _ hd' ?_ ?_ S2' (by have:=Zdf (p:=L) (i:=i); exact lk1 this hb) fun h' tk S' kp=>h h' tk S' fun b o nb nI e=>?_⟩
  ·obtain ⟨o,ho,q⟩:=it1
   exact ⟨o,hs2.extBut I o (Ne.symm n1) ho,q⟩
  ·obtain ⟨o,ho,q⟩:=hl
   exact ⟨o,hs2.extBut l o (Ne.symm n2) (hs1.extBut l o (Ne.symm n3) ho),q⟩
  ·exact kp b o nb nI (hs2.extBut b o nb (hs1.extBut b o nI e))
end
end Mine
end
section
set_option maxRecDepth 100000
set_option maxHeartbeats 3200000
namespace Mine
open PySem PySem.W PySem.Calls PyProof.Rows
noncomputable def ledW (w:World):Bool:=!w.params.followText "set-order"
noncomputable abbrev setO (led:Bool):Obj:={ cls:=.type "set",dict:=none,data:=.set #[] 0 (.fresh 0 0 led) }
section
variable {A:Around}{E:Value->Shared->Prop}{s:Shared}
theorem ZjG (a:Value){Q₁:Value->Shared->Prop}(h:Q₁ (.ref s.heap.objs.size) { s with heap:=s.heap.push (setO (ledW X.w)) }):
  codeAny (model X.prog X.w) A (.call (.builtin "set.__new__") ⟨[.type "set",a],[]⟩) (wants Q₁ E) s:=by
 refine codeAny_of_tree ?_
 show wpAny _ A.in1 (do checkBuiltinCall "set.__new__" ⟨[.type "set",a],[]⟩; again (.builtin "set.__new__" ⟨[.type "set",a],[]⟩)) _ _ s
 refine wpAny_bind (wpAny_of_eq (PySem.F.newCall_set_1 a) (wpAny_pure ⟨plainId_quiet PySem.F.plain_set_new _,codeAny_builtin PySem.F.entry_set_new ?_⟩))
 rw [Around.under_plainId PySem.F.plain_set_new _]
 unfold Builtin.«set.__new__» Builtin.Frozenset.newClass
 have hsub:=sub_set_self
 obtain ⟨hp,g,d,tk,os⟩:=s
 dsimp only
 wp_walk
 refine wpAny_askSetting (wpAny_pure ?_)
 dsimp only
 simp only [newObj]
 exact wpAny_bind (wpAny_alloc (wpAny_pure (wpAny_pure h)))
noncomputable abbrev newT (w:World):List Int×SetTable:=([],.fresh 0 0 (ledW w))
theorem SetT.new {h:Heap}{w:World}:SetT (h.push (setO (ledW w))) h.objs.size (newT w):=⟨_,#[],0,Heap.get?_push_size _ rfl,⟨rfl,rfl,rfl⟩,rfl,.nil,by rfl⟩
theorem ZiY {l:Addr}{items:Array Value}{ns:List Int}{Q:Value->Shared->Prop}(hh:A.handled=none)(hl:s.heap.IsList l items)(hi:IntsAre items.toList ns)(hb:ns.length+1 < scanBound)
  (h:∀h' tk,SetT h' s.heap.objs.size (ns.foldl addT (newT X.w))->(∀b o,s.heap.get? b=some o->h'.get? b=some o)->Q (.ref s.heap.objs.size) { s with heap:=h',toks:=tk }):
  wpAny (model X.prog X.w) A (call (.type "set") [.ref l]) Q E s:=by
 obtain ⟨c,tl,hmro⟩:=PySem.F.called_set.mro
 have hmade:=PySem.F.called_set.made
 have hsub:=PySem.F.called_set.sub
 refine wpAny_call (codeAny_of_tree ?_)
 show wpAny _ _ (callAny (.type "set") _) _ _ _
 refine wpAny_pure ⟨Code.quiet_builtin _ (by decide+kernel),codeAny_builtin PySem.F.entry_type_call ?_⟩
 rw [Around.under_plain (weight_type_call_type "set" [.ref l] []) rfl]
 have h1:=PySem.F.called_set.notType
 have h2:=PySem.F.called_set.canCreate
 have hct:=PySem.F.typeCall_set_1 (.ref l)
 repeat (any_goals (first | assumption | wp_step))
 refine codeAny_mono (ZjG (.ref l) (E:=E) (Q₁:=fun obj s1'=>obj=.ref s.heap.objs.size/\s1'={ s with heap:=s.heap.push (setO (ledW X.w)) }) ⟨rfl,rfl⟩) fun r s1' hr=>?_
 cases r with
 | error e=>exact hr
 | ok fl=>
  cases fl with
  | ret obj=>
   obtain ⟨rfl,rfl⟩:=hr
   have hS:(s.heap.push (setO (ledW X.w))).get? s.heap.objs.size=some (setO (ledW X.w)):=Heap.get?_push_size _ rfl
   have hT:Shared.TypeIs { s with heap:=s.heap.push (setO (ledW X.w)) } (.ref s.heap.objs.size) "set":=⟨_,hS,rfl⟩
   have hli:=PySem.F.called_set.init.lookup
   have hbi:=PySem.F.called_set.init.bind (.ref s.heap.objs.size)
   repeat (any_goals (first | assumption | wp_step))
   refine codeAny_mono (codeAny_call_builtin (R:=wants (fun r s2'=>r=.none/\∃h' tk,s2'={ s with heap:=h',toks:=tk }/\SetT h' s.heap.objs.size (ns.foldl addT (newT X.w))/\∀b o,s.heap.get? b=some o->h'.get? b=some o) E) PySem.F.called_set.init.plain PySem.F.entry_set_init (check_set_init_1 hT ?_)) fun r2' s2' hr2=>?_
   ·obtain ⟨ol,hol,hcl,nl,hdl⟩:=hl
    obtain ⟨ocls,odict,odata,oslots⟩:=ol
    simp only at hcl hdl
    subst hcl; subst hdl
    have hol':(s.heap.push (setO (ledW X.w))).get? l=some { cls:=.type "list",dict:=odict,data:=.seq items nl,slots:=oslots }:=Heap.get?_push_of_some _ hol
    have hsls:=PySem.F.sub_list_set
    have hslf:=PySem.F.sub_list_frozenset
    have hne:(Value.type "list"==Value.type "dict")=false:=by decide
    have hl1:(s.heap.push (setO (ledW X.w))).IsList l items:=⟨_,hol',rfl,nl,rfl⟩
    have lt:l < s.heap.objs.size:=Heap.lt_size hol
    have eI:(s.heap.push (setO (ledW X.w))).objs.size=s.heap.objs.size+1:=Heap.size_push ..
    unfold Builtin.«set.__init__» noKeywords Builtin.Frozenset.updateFrom
    generalize hPI:pyIter=PI
    wp_walk
    subst hPI
    refine wpAny_pyIter_list hl1 (wpAny_bind (wpAny_runValue ?_))
    refine ZhW (by simp [hh]) hi (by rw [eI]; exact Nat.ne_of_lt (Nat.lt_succ_self _)) (Nat.ne_of_gt lt) (by rw [eI]; exact Nat.ne_of_gt (Nat.lt_succ_of_lt lt)) ns 0 (newT X.w) _ rfl ⟨_,Heap.get?_push_size _ rfl,rfl,rfl⟩ (hl1.push _) (SetT.new.keep fun o e=>Heap.get?_push_of_some _ e) (by simpa using hb) fun h' tk S' kp=>?_
    show wpAny _ _ _ _ _ _
    refine wpAny_pure ?_
    show wpAny _ _ (ret Value.none) _ _ _
    refine wpAny_pure ⟨rfl,h',tk,rfl,S',fun b o e=>kp b o (Nat.ne_of_lt (Heap.lt_size e)) (by rw [eI]; exact Nat.ne_of_lt (Nat.lt_succ_of_lt (Heap.lt_size e))) (Heap.get?_push_of_some _ (Heap.get?_push_of_some _ e))⟩
   ·cases r2' with
    | error e=>exact hr2
    | ok fl2=>
     cases fl2 with
     | ret r=>
      obtain ⟨rfl,h',tk,rfl,S',kp⟩:=hr2
      repeat (any_goals (first | assumption | wp_step))
      exact h _ _ S' kp
     | _=>exact hr2
  | _=>exact hr
end
end Mine
end
section
namespace Mine
open PySem PySem.W PySem.Calls PyProof.Rows
section
variable {A:Around}{E:Value->Shared->Prop}{s:Shared}
theorem ZjC {es:Array (Int×Value)}{L:List Int}(e:ElT es.toList L){x:Option (SetTable×Array Nat)}{r:List Int×SetTable}(h:reoT L x=some r){G:Prop}(g:∀o,x=some (r.2,o)->ElT (o.filterMap (es[·]?)).toList r.1->(o.filterMap (es[·]?)).size=es.size->r.2.fits (o.filterMap (es[·]?)).size=true->G):G:=by
 cases x with
 | none=>cases h
 | some y=>
  obtain ⟨t,o⟩:=y
  have h:(if ((o.toList.filterMap fun k=>L[k]?).length==L.length&&t.fits L.length)=true then some (o.toList.filterMap fun k=>L[k]?,t) else none)=some r:=h
  by_cases c:((o.toList.filterMap fun k=>L[k]?).length==L.length&&t.fits L.length)=true
  ·rw [if_pos c] at h
   cases h
   have c:=(Bool.and_eq_true ..).mp c
   have hE:ElT (o.filterMap (es[·]?)).toList (o.toList.filterMap fun k=>L[k]?):=by
    rw [Array.toList_filterMap]
    have:=e.pick o.toList
    simpa [Array.getElem?_toList] using this
   have hz:(o.filterMap (es[·]?)).size=es.size:=by rw [hE.size,beq_iff_eq.mp c.1,e.size]
   exact g o rfl hE hz (by rw [hz,e.size]; exact c.2)
  ·rw [if_neg c] at h; cases h
theorem ZhU {a:Addr}{p r:List Int×SetTable}{n:Nat}{Q:Unit->Shared->Prop}(S:SetT s.heap a p)(hb:p.1.length < scanBound)(hz:SetTable.sizeAbove n<=sizeLine)(he:reoT p.1 (p.2.relaid (p.1.map hashInt).toArray n)=some r)
  (h:∀h',Heap.SameBut a s.heap h'->SetT h' a r->Q () { s with heap:=h' }):wpAny (model X.prog X.w) A (setRelay a n) Q E s:=by
 obtain ⟨L,t⟩:=p
 obtain ⟨o,es,ep,ho,hex,hd,e,f⟩:=S
 have e:ElT es.toList L:=e
 have hm:es.map (·.1)=(L.map hashInt).toArray:=by
  apply Array.toList_inj.mp
  rw [Array.toList_map,e.hash]
 unfold setRelay
 refine wpAny_bind (wpAny_setState_of ho hd f ?_)
 dsimp only
 rw [if_neg (Nat.not_lt.mpr hz),hm]
 refine ZjC e he fun od hq hE hs hf=>?_
 rw [show t.relaid (L.map hashInt).toArray n=some (r.2,od) from hq]
 refine wpAny_bind ?_
 show wpAny _ _ (if ((od.filterMap (es[·]?)).size != es.size)=true then _ else _) _ _ _
 rw [hs,if_neg (by simp)]
 refine wpAny_pure ?_
 have S':=(SetT.store ho hex hd hE hf).2
 exact wpAny_storeSet_of ho hd (h _ (Heap.SameBut.update s.heap a _) S') (fits_of_scanBound (by rw [hs,e.size]; exact hb))
theorem Zg6 {a:Addr}{p r:List Int×SetTable}{n:Nat}{Q:Unit->Shared->Prop}(S:SetT s.heap a p)(hb:p.1.length < scanBound)(he:roomT p n=some r)
  (h:∀h',Heap.SameBut a s.heap h'->SetT h' a r->Q () { s with heap:=h' }):wpAny (model X.prog X.w) A (setRoomFor a n) Q E s:=by
 obtain ⟨o,es,ep,ho,hex,hd,e,f⟩:=id S
 unfold setRoomFor
 refine wpAny_bind (wpAny_setState_of ho hd f ?_)
 unfold roomT at he
 cases q:p.2.roomFor n with
 | none=>
  rw [q] at he; cases he
  dsimp only
  exact wpAny_pure (h s.heap (Heap.SameBut.refl a s.heap) S)
 | some m=>
  rw [q] at he
  dsimp only at he ⊢
  by_cases c:SetTable.sizeAbove m<=sizeLine
  ·rw [if_pos c] at he
   exact ZhU S hb c he h
  ·rw [if_neg c] at he; cases he
end
section
variable {A:Around}{E:Value->Shared->Prop}{s:Shared}
theorem ZhA {t t':SetTable}{n:Nat}(h:t.fits n=true)(h1:t'.mask=t.mask)(h2:t'.place=t.place)(h3:t'.dummies=t.dummies):t'.fits n=true:=by
 unfold SetTable.fits SetTable.fill at h ⊢
 rw [h1,h2,h3]; exact h
theorem ZkQ {a b:Addr}{p r:List Int×SetTable}{Q:Unit->Shared->Prop}(hab:a≠b)(Sa:SetT s.heap a (newT X.w))(Sb:SetT s.heap b p)(hb:p.1.length < scanBound)(he:copyT (ledW X.w) p=some r)
  (h:∀h',Heap.SameBut a s.heap h'->SetT h' a r->Q () { s with heap:=h' }):wpAny (model X.prog X.w) A (setMerge a b) Q E s:=by
 obtain ⟨o,es,ep,ho,hex,hd,e,f⟩:=id Sb
 unfold setMerge
 rw [if_neg (by simpa using hab)]
 refine wpAny_bind (wpAny_setState_of ho hd f ?_)
 dsimp only
 unfold copyT at he
 have em:es.isEmpty=p.1.isEmpty:=by
  have:=e.size
  cases q:p.1 with
  | nil=>rw [q] at this; exact decide_eq_true this
  | cons x l=>rw [q] at this; exact decide_eq_false (by rw [this]; exact Nat.succ_ne_zero _)
 rw [em]
 by_cases c:p.1.isEmpty=true
 ·rw [if_pos c] at he ⊢
  cases he
  exact wpAny_pure (h s.heap (Heap.SameBut.refl a s.heap) Sa)
 rw [if_neg c] at he ⊢
 rw [e.size]
 cases q:roomT (newT X.w) p.1.length with
 | none=>rw [q] at he; cases he
 | some r1'=>
  rw [q] at he
  refine wpAny_bind (Zg6 Sa (by show 0 < 4096; decide) q fun h1' sb1 S1'=>?_)
  obtain ⟨o1',es1',ep1,ho1',hex1,hd1,e1',f1'⟩:=id S1'
  refine wpAny_bind (wpAny_setState_of (s:={ s with heap:=h1' }) ho1' hd1 f1' ?_)
  dsimp only at he ⊢
  cases qr:r1'.2.road p.2 with
  | oneByOne=>rw [qr] at he; cases he
  | slotForSlot=>
   rw [qr] at he
   cases he
   have S':=(SetT.store (t':={ p.2 with finger:=r1'.2.finger,led:=r1'.2.led&&p.2.led,moves:=r1'.2.moves,plain:=r1'.2.plain&&p.2.plain }) ho1' hex1 hd1 e (ZhA f rfl rfl rfl)).2
   exact wpAny_storeSet_of (s:={ s with heap:=h1' }) ho1' hd1 (h _ (sb1.trans (Heap.SameBut.update _ a _)) S') (fits_of_scanBound (by rw [e.size]; exact hb))
  | clean=>
   rw [qr] at he
   have hm:es.map (·.1)=(p.1.map hashInt).toArray:=by
    apply Array.toList_inj.mp
    rw [Array.toList_map,e.hash]
   dsimp only
   rw [hm]
   refine ZjC e he fun od hq hE hs hf=>?_
   rw [hq]
   refine wpAny_bind ?_
   show wpAny _ _ (if ((od.filterMap (es[·]?)).size != es.size)=true then _ else _) _ _ _
   rw [hs,if_neg (by simp)]
   refine wpAny_pure ?_
   have S':=(SetT.store ho1' hex1 hd1 hE hf).2
   exact wpAny_storeSet_of (s:={ s with heap:=h1' }) ho1' hd1 (h _ (sb1.trans (Heap.SameBut.update _ a _)) S') (fits_of_scanBound (by rw [hs,e.size]; exact hb))
end
theorem Zkq {α:Type}(next:Nat->Nat):∀(n k:Nat) (l:List α) (out:Array α),n=l.length->(pickOrder.go next n k l out).toList.Perm (out.toList++l):=by
 intro zz0
 induction zz0 with
 | zero=>
  intro k l out h
  cases List.length_eq_zero_iff.mp h.symm
  rw [List.append_nil]; exact .refl _
 | succ n ih=>
  intro k l out h
  unfold pickOrder.go
  have lt:next k % l.length < l.length:=Nat.mod_lt _ (by rw [← h]; exact Nat.succ_pos _)
  rw [List.getElem?_eq_getElem lt]
  dsimp only
  have he:(l.eraseIdx (next k % l.length)).length=l.length - 1:=List.length_eraseIdx_of_lt lt
  refine (ih (k+1) _ _ (by rw [he,← h]; rfl)).trans ?_
  rw [Array.toList_push,List.append_assoc]
  refine List.Perm.append_left _ ?_
  rw [List.eraseIdx_eq_take_drop_succ]
  have:l=l.take (next k % l.length)++l[next k % l.length]::l.drop (next k % l.length+1):=by
   rw [← List.drop_eq_getElem_cons lt,List.take_append_drop]
  conv=>rhs; rw [this]
  rw [List.singleton_append]
  exact List.perm_middle.symm
theorem ZcH {α:Type}(next:Nat->Nat)(xs:Array α):(pickOrder next xs).toList.Perm xs.toList:=(Zkq next xs.size 0 xs.toList #[] rfl).trans (.refl _)
section
variable {A:Around}{E:Value->Shared->Prop}{s:Shared}
noncomputable def vInt?:Value->Option Int
 | .int i _=>some i
 | _=>none
theorem ElT.iff {l:List (Int×Value)}{L:List Int}(h:ElT l L):(∀e∈l,∃i t,e=(hashInt i,Value.int i t))/\L=l.filterMap fun e=>vInt? e.2:=by
 induction h with
 | nil=>exact ⟨fun e he=>(nomatch he),rfl⟩
 | @cons l L i t _ ih=>exact ⟨fun e he=>(List.mem_cons.mp he).elim (fun q=>⟨i,t,q⟩) (ih.1 e),by rw [List.filterMap_cons,← ih.2]; rfl⟩
theorem ElT.ex {l:List (Int×Value)}(h:∀e∈l,∃i t,e=(hashInt i,Value.int i t)):ElT l (l.filterMap fun e=>vInt? e.2):=by
 induction l with
 | nil=>exact .nil
 | cons e l ih=>
  obtain ⟨i,t,rfl⟩:=h e (.head _)
  rw [List.filterMap_cons]
  exact .cons i t (ih fun e he=>h e (.tail _ he))
theorem ElT.perm {l l':List (Int×Value)}{L:List Int}(h:ElT l L)(p:l'.Perm l):ElT l' (l'.filterMap fun e=>vInt? e.2)/\(l'.filterMap fun e=>vInt? e.2).Perm L:=by
 obtain ⟨h1,h2⟩:=h.iff
 exact ⟨.ex fun e he=>h1 e (p.mem_iff.mp he),by rw [h2]; exact p.filterMap _⟩
theorem Zk7 {a:Addr}{o:Obj}{es:Array (Int×Value)}{ep:Nat}{t:SetTable}{Q:Array (Int×Value)->Shared->Prop}(ho:s.heap.get? a=some o)(hd:o.data=.set es ep t)(f:t.fits es.size=true)(hl:t.led=ledW X.w)(hp:t.plain=true)
  (h:∀W:Array (Int×Value),W.toList.Perm es.toList->(ledW X.w=true->W=es)->Q W s):wpAny (model X.prog X.w) A (setWalk a) Q E s:=by
 unfold setWalk setsByText
 refine wpAny_bind (wpAny_setState_of ho hd f ?_)
 dsimp only
 refine wpAny_bind (wpAny_bind (wpAny_askSetting (wpAny_pure ?_)))
 cases q:X.w.params.followText "set-order" with
 | true=>
  rw [if_pos (by exact q)]
  refine wpAny_bind (wpAny_askSetting (wpAny_pure (h _ (ZcH _ _) fun z=>by unfold ledW at z; rw [q] at z; cases z)))
 | false=>
  have hl:t.led=true:=by rw [hl]; unfold ledW; rw [q]; rfl
  rw [if_neg (by rw [show (model X.prog X.w).w.params.followText "set-order"=false from q]; exact Bool.false_ne_true)]
  show wpAny _ _ (if (!t.plain&&decide (es.size > 1))=true then _ else _) _ _ _
  rw [hp,if_neg (by simp)]
  show wpAny _ _ ((if (!t.led&&decide (es.size > 1))=true then _ else _) >>= _) _ _ _
  rw [hl,if_neg (by simp)]
  exact wpAny_bind (wpAny_pure (wpAny_pure (h es (.refl _) fun ø=>rfl)))
end
noncomputable def addL (L:List Int)(i:Int):List Int:=if i∈L then L else L++[i]
theorem Ziy {L:List Int}{i j:Int}:j∈addL L i↔j∈L\/j=i:=by
 unfold addL
 by_cases c:i∈L
 ·rw [if_pos c]; exact ⟨.inl,fun h=>h.elim (fun x=>x) fun e=>e▸c⟩
 ·rw [if_neg c,List.mem_append,List.mem_singleton]
theorem ZfG {L:List Int}{i:Int}(h:L.Nodup):(addL L i).Nodup:=by
 unfold addL
 by_cases c:i∈L
 ·rw [if_pos c]; exact h
 ·rw [if_neg c]
  exact List.nodup_append.mpr ⟨h,List.pairwise_singleton _ i,fun a ha b hb e=>c (List.mem_singleton.mp hb▸e▸ha)⟩
theorem Zna {L:List Int}{i:Int}:(addL L i).length<=L.length+1:=by
 unfold addL
 by_cases c:i∈L
 ·rw [if_pos c]; exact Nat.le_succ _
 ·rw [if_neg c,List.length_append]; exact Nat.le_refl _
theorem ZhN {L:List Int}{i:Int}(k:Nat):(L.take k++i::L.drop k).Perm (L++[i]):=by
 have:(L++[i]).Perm (i::L):=List.perm_append_singleton i L
 refine (List.perm_middle).trans (.trans ?_ this.symm)
 rw [List.take_append_drop]
theorem ZeZ {L:List Int}{t:SetTable}{i:Int}:(layT L t i).1.Perm (L++[i]):=by
 unfold layT
 cases t.freeSlot (hashInt i) with
 | none=>exact .refl _
 | some r=>exact ZhN _
theorem ZhO (L:List Int):(List.range L.length).filterMap (fun k=>L[k]?)=L:=by simpa using filterMap_getElem?_range L.toArray
theorem ZiF {L:List Int}{t:SetTable}{n:Nat}:(relT L t n).1.Perm L:=by
 unfold relT
 cases t.relaid (L.map hashInt).toArray n with
 | none=>exact .refl _
 | some r=>
  dsimp only
  by_cases c:(coversAll r.2 L.length&&r.1.fits (r.2.toList.filterMap fun k=>L[k]?).length)=true
  ·rw [if_pos c]
   have hp:List.Perm r.2.toList (List.range L.length):=List.isPerm_iff.mp ((Bool.and_eq_true ..).mp c).1
   exact (hp.filterMap _).trans (by rw [ZhO])
  ·rw [if_neg c]
theorem ZdO {p:List Int×SetTable}{i:Int}:(addT p i).1.Perm (addL p.1 i):=by
 unfold addT addL
 by_cases c:i∈p.1
 ·rw [if_pos c,if_pos c]
 ·rw [if_neg c,if_neg c]
  split
  ·exact ZiF.trans ZeZ
  ·exact ZeZ
theorem ZiR {M:List Int}:∀{p:List Int×SetTable} {j:Int},j∈(M.foldl addT p).1↔j∈p.1\/j∈M:=by
 induction M with
 | nil=>exact ⟨.inl,fun h=>h.elim (fun x=>x) fun y=>(nomatch y)⟩
 | cons i M ih=>intro p j; rw [List.foldl_cons,ih,ZdO.mem_iff,Ziy,List.mem_cons,or_assoc]
theorem Zfy {M:List Int}:∀{p:List Int×SetTable},p.1.Nodup->(M.foldl addT p).1.Nodup:=by
 induction M with
 | nil=>exact fun h=>h
 | cons i M ih=>exact fun h=>ih (ZdO.nodup_iff.mpr (ZfG h))
section
variable {A:Around}{E:Value->Shared->Prop}{s:Shared}
inductive MgI (s:Shared)(a:Addr)(r T:List Int×SetTable)(rest:List (Int×Value))(s':Shared):Prop
 | mk (h':Heap) (p:List Int×SetTable) (R:List Int) (e:s'={ s with heap:=h' }) (b:Heap.SameBut a s.heap h') (S:SetT h' a p) (r:ElT rest R) (z:p.1.length+R.length+1 < scanBound) (f:R.foldl addT p=T)
theorem ZiQ {n:String}{a b:Addr}{p q r:List Int×SetTable}{Q:Unit->Shared->Prop}(hab:a≠b)(Sa:SetT s.heap a p)(Sb:SetT s.heap b q)(hl:q.2.led=ledW X.w)(hp:q.2.plain=true)(hq:q.1≠[])(he:roomT p q.1.length=some r)(hf:r.2.fill≠0)(hz:r.1.length+q.1.length+1 < scanBound)(hb:p.1.length < scanBound)
  (h:∀h' M,Heap.SameBut a s.heap h'->SetT h' a (M.foldl addT r)->M.Perm q.1->(ledW X.w=true->M=q.1)->Q () { s with heap:=h' }):wpAny (model X.prog X.w) A (Builtin.Frozenset.merge n a b) Q E s:=by
 obtain ⟨o,es,ep,ho,hex,hd,e,f⟩:=id Sb
 unfold Builtin.Frozenset.merge setEpoch
 refine wpAny_bind (wpAny_bind (wpAny_setState_of ho hd f (wpAny_pure ?_)))
 unfold setMerge
 rw [if_neg (by simpa using hab)]
 refine wpAny_bind (wpAny_setState_of ho hd f ?_)
 dsimp only
 have em:es.isEmpty=false:=by
  have:=e.size
  cases c:q.1 with
  | nil=>exact (hq c).elim
  | cons x l=>rw [c] at this; exact decide_eq_false (by rw [this]; exact Nat.succ_ne_zero _)
 rw [em,if_neg Bool.false_ne_true,e.size]
 refine wpAny_bind (Zg6 Sa hb he fun h1' sb1 S1'=>?_)
 obtain ⟨o1',es1',ep1,ho1',hex1,hd1,e1',f1'⟩:=id S1'
 refine wpAny_bind (wpAny_setState_of (s:={ s with heap:=h1' }) ho1' hd1 f1' ?_)
 dsimp only
 have hr:r.2.road q.2=.oneByOne:=by unfold SetTable.road; rw [if_pos (by simpa using hf)]
 rw [hr]
 dsimp only
 have hob:∀{h':Heap},Heap.SameBut a s.heap h'->h'.get? b=some o:=fun sb=>by rw [← ho]; exact sb.2 b (Ne.symm hab)
 unfold setWalkUnseen
 refine wpAny_bind (wpAny_bind (wpAny_setState_of (s:={ s with heap:=h1' }) (hob sb1) hd f ?_))
 dsimp only
 unfold setsByText
 refine wpAny_bind (wpAny_bind (wpAny_askSetting (wpAny_pure ?_)))
 rw [if_pos (by rw [hl,hp]; unfold ledW; show ((X.w.params.followText "set-order" || (!X.w.params.followText "set-order"&&true)) || _)=true; cases X.w.params.followText "set-order" <;> rfl)]
 refine Zk7 (s:={ s with heap:=h1' }) (hob sb1) hd f hl hp fun Wk pm wl=>wpAny_bind ?_
 have hR:=e.perm pm
 have hM:ledW X.w=true->(Wk.toList.filterMap fun e=>vInt? e.2)=q.1:=fun z=>by rw [wl z]; exact e.iff.2.symm
 generalize (Wk.toList.filterMap fun e=>vInt? e.2)=R at hR hM
 refine forIn_array_ _ (fun rest ø s'=>MgI s a r (R.foldl addT r) rest s') _ ?_ ?_ _ _ (.mk h1' r R rfl sb1 S1' hR.1 (by rw [hR.2.length_eq]; exact hz) rfl)
 ·rintro x rest _ s' ⟨h',p',R',rfl,sb,S,hR',hz,hm⟩
  cases hR' with
  | cons i t hR'=>
   dsimp only
   refine wpAny_bind (wpAny_holding (ZdW (s:={ s with heap:=h' }) S (by simp only [List.length_cons] at hz; exact lf6 (Nat.le_of_lt hz)) fun h'' ø sb' S'=>?_))
   have sb'':=sb.trans sb'
   refine wpAny_bind ?_
   unfold Builtin.Frozenset.unchanged setEpoch
   refine wpAny_bind (wpAny_bind (wpAny_setState_of (s:={ s with heap:=h'' }) (hob sb'') hd f (wpAny_pure ?_)))
   dsimp only
   rw [if_neg (by simp)]
   refine wpAny_pure ?_
   refine wpAny_bind (wpAny_setState_of (s:={ s with heap:=h'' }) (hob sb'') hd f ?_)
   dsimp only
   rw [if_neg (by simp)]
   refine wpAny_pure (.mk h'' _ _ rfl sb'' S' hR' ?_ hm)
   have:=Zdf (p:=p') (i:=i); simp only [List.length_cons] at hz; exact lk1 this hz
 ·rintro _ s' ⟨h',p',R',rfl,sb,S,hR',hz,hm⟩
  cases hR'
  cases hm
  exact wpAny_pure (h h' R sb S hR.2 hM)
end
theorem Zd5:entryFor table "set.__or__"=some Builtin.«frozenset.__or__»:=entryFor_alias (id':="frozenset.__or__") (by kernel_rfl) rfl (by decide+kernel) (by kernel_rfl)
section
variable {A:Around}{E:Value->Shared->Prop}{s:Shared}
theorem SetT.ty {h:Heap}{a:Addr}{p:List Int×SetTable}(S:SetT h a p){s:Shared}(e:s.heap=h):s.TypeIs (.ref a) "set":=by
 obtain ⟨o,es,ep,ho,hex,hd,_,f⟩:=S
 exact ⟨o,by rw [e]; exact ho,hex.1⟩
theorem ZeK {v:Value}{Q:Bool->Shared->Prop}(hT:s.TypeIs v "set")(h:Q true s):wpAny (model X.prog X.w) A (Builtin.Frozenset.isAnySet v) Q E s:=by
 unfold Builtin.Frozenset.isAnySet
 refine wpAny_bind (wpAny_isInstance hT PySem.F.sub_set_set ?_)
 exact wpAny_pure h
theorem Zf7 {Q:Value->Shared->Prop}(h:Q (.ref s.heap.objs.size) { s with heap:=s.heap.push (setO (ledW X.w)) }):wpAny (model X.prog X.w) A (newSet (.type "set")) Q E s:=by
 unfold newSet setsByText
 refine wpAny_bind (wpAny_bind (wpAny_askSetting (wpAny_pure ?_)))
 dsimp only
 simp only [newObj]
 exact wpAny_bind (wpAny_alloc (wpAny_pure h))
theorem ZnY {a b:Addr}{p q c r:List Int×SetTable}{Q:Value->Shared->Prop}(hab:a≠b)(Sa:SetT s.heap a p)(Sb:SetT s.heap b q)(hb:p.1.length < scanBound)(hc:copyT (ledW X.w) p=some c)(hbc:c.1.length < scanBound)(hl:q.2.led=ledW X.w)(hp:q.2.plain=true)(hq:q.1≠[])(he:roomT c q.1.length=some r)(hf:r.2.fill≠0)(hz:r.1.length+q.1.length+1 < scanBound)
  (h:∀h' M,(∀x o,s.heap.get? x=some o->h'.get? x=some o)->SetT h' s.heap.objs.size (M.foldl addT r)->M.Perm q.1->(ledW X.w=true->M=q.1)->Q (.ref s.heap.objs.size) { s with heap:=h' }):wpAny (model X.prog X.w) A (binaryOp .BitOr (.ref a) (.ref b)) Q E s:=by
 have ta:s.TypeIs (.ref a) "set":=Sa.ty rfl
 have tb:s.TypeIs (.ref b) "set":=Sb.ty rfl
 refine wpAny_binaryOp_same (op:=.BitOr) (T:="set") ta tb PySem.F.fills_set_or PySem.F.slot_set_or (wpAny_call_entry PySem.F.slot_set_or ta Zd5 ?_ (PySem.F.args_set_or_2 _ _))
 have la:a < s.heap.objs.size:=by obtain ⟨o,es,ep,ho,_⟩:=Sa; exact Heap.lt_size ho
 have lb:b < s.heap.objs.size:=by obtain ⟨o,es,ep,ho,_⟩:=Sb; exact Heap.lt_size ho
 show wpAny _ _ (do
  if !(← (Builtin.Frozenset.isAnySet (.ref a) <&&> Builtin.Frozenset.isAnySet (.ref b))) then rule s!"frozenset.{"__or__"}.declined"; return ← ret .notImplemented
  ret (← (do
   let result ← Builtin.Frozenset.copyOf a
   if Value.ref b != .ref a then holding [result] (Builtin.Frozenset.updateFrom s!"frozenset.{"__or__"}" (← Builtin.Frozenset.addrOf result) (.ref b))
   return result))) _ _ _
 refine wpAny_bind (wpAny_bind (ZeK ta (ZeK tb ?_)))
 rw [if_neg (by simp)]
 refine wpAny_bind (wpAny_bind ?_)
 unfold Builtin.Frozenset.copyOf Builtin.Frozenset.baseOf
 refine wpAny_bind (wpAny_bind (wpAny_isInstance ta PySem.F.sub_set_set (wpAny_pure ?_)))
 refine wpAny_bind (Zf7 (wpAny_bind (wpAny_pure (wpAny_bind ?_))))
 refine ZkQ (s:={ s with heap:=s.heap.push (setO (ledW X.w)) }) (Nat.ne_of_gt la) SetT.new (Sa.keep fun o e=>Heap.get?_push_of_some _ e) hb hc fun h1' sb1 S1'=>wpAny_pure ?_
 rw [if_pos (by simpa using Ne.symm hab)]
 have k1:∀x o,s.heap.get? x=some o->h1'.get? x=some o:=fun x o e=>by rw [sb1.2 x (Nat.ne_of_lt (Heap.lt_size e))]; exact Heap.get?_push_of_some _ e
 have Sb1:SetT h1' b q:=Sb.keep fun o e=>k1 b o e
 refine wpAny_bind (wpAny_pure (wpAny_bind (wpAny_holding ?_)))
 unfold Builtin.Frozenset.updateFrom
 refine wpAny_bind (ZeK (s:={ s with heap:=h1' }) (Sb1.ty rfl) ?_)
 rw [if_pos rfl]
 refine wpAny_bind (wpAny_pure ?_)
 refine ZiQ (s:={ s with heap:=h1' }) (Nat.ne_of_gt lb) S1' Sb1 hl hp hq he hf hz hbc fun h2' M sb2 S2' pm ex=>?_
 refine wpAny_pure (wpAny_pure ⟨_,rfl,by simp,h h2' M (fun x o e=>?_) S2' pm ex⟩)
 rw [sb2.2 x (Nat.ne_of_lt (Heap.lt_size e))]; exact k1 x o e
end
end Mine
end
section
set_option maxRecDepth 100000
namespace Mine
open PySem PySem.W PySem.Calls PyProof.Rows
theorem ZaQ:Slot "set_iterator" "__next__" "set_iterator.__next__":=
 .of (owner:="set_iterator") (n:="__next__") (by rw [typeLookup_type,builtinLookup_eq_fast]; kernel_rfl) (by decide+kernel) (by decide+kernel) (by decide+kernel)
  (by first | exact .inl (by decide+kernel) | exact .inr (by decide+kernel)) (by rw [isSubtype_type]; kernel_rfl)
theorem Zdw:entryFor table "set_iterator.__next__"=some Builtin.«set_iterator.__next__»:=entryFor_of_tree (by kernel_rfl)
theorem Zfk:Manifest.owners.lookup (String.ofList ("set_iterator".toList.reverse).reverse)=some Manifest.sig_set_iterator:=by kernel_rfl
theorem ZdZ (a:Value):argsOk "set_iterator.__next__" ⟨[a],[]⟩:=by
 unfold argsOk; rw [signature?_of (id:="set_iterator.__next__") (n:="__next__".toList.reverse) (o:="set_iterator".toList.reverse) (by kernel_rfl) Zfk]; kernel_rfl
theorem ZbZ:Slot "set_iterator" "__iter__" "set_iterator.__iter__":=
 .of (owner:="set_iterator") (n:="__iter__") (by rw [typeLookup_type,builtinLookup_eq_fast]; kernel_rfl) (by decide+kernel) (by decide+kernel) (by decide+kernel)
  (by first | exact .inl (by decide+kernel) | exact .inr (by decide+kernel)) (by rw [isSubtype_type]; kernel_rfl)
theorem Zdy:entryFor table "set_iterator.__iter__"=some Builtin.«dict_keyiterator.__iter__»:=
 entryFor_alias (id':="dict_keyiterator.__iter__") (by kernel_rfl) rfl (by decide+kernel) (by kernel_rfl)
theorem Zed (a:Value):argsOk "set_iterator.__iter__" ⟨[a],[]⟩:=by
 unfold argsOk; rw [signature?_of (id:="set_iterator.__iter__") (n:="__iter__".toList.reverse) (o:="set_iterator".toList.reverse) (by kernel_rfl) Zfk]; kernel_rfl
theorem ZcS:entryFor table "set.__iter__"=some Builtin.«frozenset.__iter__»:=
 entryFor_alias (id':="frozenset.__iter__") (by kernel_rfl) rfl (by decide+kernel) (by kernel_rfl)
structure Ord (w:World)(a:Addr)(es:Array (Int×Value))(ep:Nat)(t:SetTable)(W:Array (Int×Value)):Prop where
 f:t.fits es.size=true
 a:ledW w=false->W=pickOrder (w.params.setOrder a ep) es
 b:ledW w=true->W=es/\walkT t=true
section
variable {A:Around}{E:Value->Shared->Prop}{s:Shared}{a:Addr}{o:Obj}{es W:Array (Int×Value)}{ep:Nat}{t:SetTable}
theorem Ze6 {b:Bool}(h:ledW X.w=b):X.w.params.followText "set-order"=!b:=by
 unfold ledW at h; rw [← h,Bool.not_not]
theorem Ord.size (H:Ord X.w a es ep t W):W.size=es.size:=by
 cases q:ledW X.w with
 | false=>rw [H.a q]; exact (ZcH _ _).length_eq
 | true=>rw [(H.b q).1]
theorem Zkr (H:Ord X.w a es ep t W)(ho:s.heap.get? a=some o)(hd:o.data=.set es ep t)(i:Nat)(hi:i<=es.size){Q:Option (Value×Nat)->Shared->Prop}(h:Q (W[i]?.map fun e=>(e.2,stp (ledW X.w) t (i+1))) s):wpAny (model X.prog X.w) A (setNext a (stp (ledW X.w) t i) i ep) Q E s:=by
 unfold setNext setsByText
 refine wpAny_bind (wpAny_setState_of ho hd H.f ?_)
 dsimp only
 refine wpAny_bind (wpAny_bind (wpAny_askSetting (wpAny_pure ?_)))
 cases q:ledW X.w with
 | false=>
  rw [if_pos (by exact Ze6 q),if_neg (by simp)]
  refine wpAny_bind ?_
  unfold setWalk setsByText
  refine wpAny_bind (wpAny_setState_of ho hd H.f ?_)
  dsimp only
  refine wpAny_bind (wpAny_bind (wpAny_askSetting (wpAny_pure ?_)))
  rw [if_pos (by exact Ze6 q)]
  refine wpAny_bind (wpAny_askSetting (wpAny_pure (wpAny_pure ?_)))
  rw [q,H.a q] at h
  have e:stp false t i=0:=by cases i <;> rfl
  rw [e]
  exact h
 | true=>
  obtain ⟨rfl,hw⟩:=H.b q
  have hw:=(Bool.and_eq_true ..).mp hw
  have hpl:=(Bool.and_eq_true ..).mp hw.1
  have hz:t.place.size=W.size:=by
   have:=H.f; unfold SetTable.fits at this
   exact eq_of_beq ((Bool.and_eq_true ..).mp this).1
  have hb:SetTable.below t.place (stp true t i)=i:=by
   have:=List.all_eq_true.mp hw.2 i (List.mem_range.mpr (by rw [hz]; exact Nat.lt_succ_of_le hi))
   exact eq_of_beq this
  rw [if_neg (by rw [show (model X.prog X.w).w.params.followText "set-order"=false from Ze6 q]; exact Bool.false_ne_true)]
  show wpAny _ _ (if (!t.plain&&decide (W.size > 1))=true then _ else _) _ _ _
  rw [hpl.1,if_neg (by simp)]
  show wpAny _ _ ((if (!t.led&&!W.isEmpty)=true then _ else _) >>= _) _ _ _
  rw [hpl.2,if_neg (by simp)]
  refine wpAny_bind (wpAny_pure (wpAny_pure ?_))
  rw [hb]
  rw [q] at h
  by_cases c:i < W.size
  ·rw [Array.getElem?_eq_getElem c] at h ⊢
   have c':i < t.place.size:=by rw [hz]; exact c
   rw [Array.getElem?_eq_getElem c']
   have e:stp true t (i+1)=t.place[i]+1:=by
    show t.place.getD i 0+1=_
    rw [Array.getD_eq_getD_getElem?,Array.getElem?_eq_getElem c']; rfl
   rw [e] at h
   exact h
  ·rw [Array.getElem?_eq_none (Nat.le_of_not_lt c)] at h ⊢
   exact h
noncomputable def IsSi (h:Heap)(it a:Addr)(b:Bool)(t:SetTable)(i n ep:Nat):Prop:=∃o,h.get? it=some o/\o.cls=.type "set_iterator"/\o.data=.fields #[.int (stp b t i) 0,.int i 0,.ref a,.int n 0,.int ep 0]
theorem IsSi.ty {it:Addr}{b:Bool}{i n:Nat}(x:IsSi s.heap it a b t i n ep):s.TypeIs (.ref it) "set_iterator":=let ⟨o,ho,hc,_⟩:=x; ⟨o,ho,hc⟩
theorem Zj3 {it:Addr}{b:Bool}{i n:Nat}{Q:Value->Shared->Prop}(x:IsSi s.heap it a b t i n ep)(h:Q (.ref it) s):wpAny (model X.prog X.w) A (pyIter (.ref it)) Q E s:=by
 refine wpAny_pyIter_slot x.ty ZbZ (wpAny_call_entry ZbZ x.ty Zdy ?_ (Zed _))
 show wpAny _ _ (ret (.ref it)) _ _ s
 exact wpAny_pure ⟨_,rfl,"set_iterator",_,x.ty,ZaQ.lookup,h⟩
theorem Zib (H:Ord X.w a es ep t W)(ho:s.heap.get? a=some o)(hx:o.ExactSet)(hd:o.data=.set es ep t){Q:Value->Shared->Prop}
  (h:Q (.ref s.heap.objs.size) { s with heap:=s.heap.push { cls:=.type "set_iterator",data:=.fields #[.int 0 0,.int 0 0,.ref a,.int es.size 0,.int ep 0] } }):wpAny (model X.prog X.w) A (pyIter (.ref a)) Q E s:=by
 have T:s.TypeIs (.ref a) "set":=⟨o,ho,hx.1⟩
 refine wpAny_pyIter_slot T PySem.F.slot_set_iter (wpAny_call_entry PySem.F.slot_set_iter T ZcS ?_ (PySem.F.args_set_iter_1 _))
 show wpAny _ _ (do
  let n ← Builtin.Frozenset.sizeOf a
  let first ← if ← setDrawn a then newTuple ((← drawOrder n (List.range n)).map fun (i:Nat)=>rawInt i) else pure (rawInt 0)
  ret (← newFields "set_iterator" [first,rawInt 0,.ref a,rawInt n,rawInt (← setEpoch a)])) _ _ _
 unfold Builtin.Frozenset.sizeOf setEntries
 refine wpAny_bind (wpAny_bind (wpAny_bind (wpAny_setState_of ho hd H.f (wpAny_pure (wpAny_pure ?_)))))
 dsimp only
 unfold setDrawn setsByText
 refine wpAny_bind (wpAny_bind (wpAny_setState_of ho hd H.f ?_))
 dsimp only
 refine wpAny_bind (wpAny_bind (wpAny_askSetting (wpAny_pure (wpAny_pure ?_))))
 have hn:(!(X.w.params.followText "set-order")&&(!t.plain&&decide (es.size > 1)))=false:=by
  cases q:ledW X.w with
  | false=>rw [Ze6 q]; rfl
  | true=>
   obtain ⟨_,hw⟩:=H.b q
   rw [((Bool.and_eq_true ..).mp ((Bool.and_eq_true ..).mp hw).1).1]
   cases X.w.params.followText "set-order" <;> rfl
 rw [if_neg (by exact fun z=>Bool.false_ne_true (hn.symm.trans z))]
 refine wpAny_bind (wpAny_pure ?_)
 unfold setEpoch
 refine wpAny_bind (wpAny_bind (wpAny_setState_of ho hd H.f (wpAny_pure ?_)))
 exact wpAny_bind (wpAny_newObj_type (wpAny_pure ⟨_,rfl,"set_iterator",_,⟨_,Heap.get?_push_size _ rfl,rfl⟩,ZaQ.lookup,h⟩))
end
end Mine
end
section
set_option maxRecDepth 100000
namespace Mine
open PySem PySem.W PySem.Calls PyProof.Rows
section
variable {A:Around}{E:Value->Shared->Prop}{s:Shared}{a:Addr}{o:Obj}{es W:Array (Int×Value)}{ep:Nat}{t:SetTable}
theorem Zgh (hh:A.handled=none)(H:Ord X.w a es ep t W){it:Addr}(hne:a≠it){i:Nat}(hi:i<=es.size)(hit:IsSi s.heap it a (ledW X.w) t i es.size ep)(ho:s.heap.get? a=some o)(hd:o.data=.set es ep t){Q:Option Value->Shared->Prop}
  (h1:∀x h',W[i]?=some x->IsSi h' it a (ledW X.w) t (i+1) es.size ep->(∀b o,b∉[it]->s.heap.get? b=some o->h'.get? b=some o)->Q (some x.2) { s with heap:=h' })
  (h2:∀h',W[i]?=none->(∀b o,b∉[it]->s.heap.get? b=some o->h'.get? b=some o)->Q none { s with heap:=h' }):wpAny (model X.prog X.w) A (pyNext (.ref it)) Q E s:=by
 obtain ⟨oi,hoi,hci,hdi⟩:=id hit
 unfold pyNext
 refine wpAny_bind (wpAny_attempt (wpAny_callSpecial?_slot (name:=Str.ofString "__next__") hit.ty ZaQ (wpAny_call_entry ZaQ hit.ty Zdw ?_ (ZdZ _))))
 show wpAny _ _ (fieldsOf (.ref it) >>= _) _ _ s
 refine wpAny_bind (wpAny_fieldsOf hoi hdi ?_)
 dsimp only
 unfold setEntries
 refine wpAny_bind (wpAny_bind (wpAny_setState_of ho hd H.f (wpAny_pure ?_)))
 dsimp only
 rw [if_neg (by simp)]
 refine wpAny_bind (Zkr H ho hd i hi ?_)
 cases q:W[i]? with
 | some x=>
  dsimp only [Option.map]
  have ho1:=Heap.get?_update_self (Obj.mapFields (·.setIfInBounds 0 (rawInt (stp (ledW X.w) t (i+1))))) hoi (Obj.isFreed_of_fields (Obj.data_mapFields hdi _))
  refine wpAny_bind (wpAny_setField hoi hdi (by simp) ?_)
  refine wpAny_bind (wpAny_setField ho1 (Obj.data_mapFields hdi _) (by simp) ?_)
  refine wpAny_pure ⟨_,rfl,wpAny_pure (h1 x _ q ?_ fun b o hb e=>?_)⟩
  ·exact ⟨_,Heap.get?_update_self _ ho1 (Obj.isFreed_of_fields (Obj.data_mapFields (Obj.data_mapFields hdi _) _)),(Obj.cls_mapFields ..).trans ((Obj.cls_mapFields ..).trans hci),by
    rw [Obj.data_mapFields (Obj.data_mapFields hdi _)]; simp [rawInt]⟩
  ·have hb:it≠b:=fun z=>hb (by simp [z])
   exact (Heap.get?_update_other _ _ hb).trans ((Heap.get?_update_other _ _ hb).trans e)
 | none=>
  dsimp only [Option.map]
  refine wpAny_bind (wpAny_setField hoi hdi (by simp) ?_)
  show wpAny _ _ (newExc (.type "StopIteration") [] >>= _) _ _ _
  refine wpAny_bind ?_
  simp only [newExc,newTuple]
  refine wpAny_bind (wpAny_newObj_type ?_ (by size_fits))
  refine wpAny_bind (m:=firstArgMember _ _) (wpAny_of_eq (a:=Value.none) (by first | rfl | (simp only [firstArgMember]; rfl)) ?_)
  refine wpAny_newObj_type ?_ (by size_fits)
  simp only [raiseNew]
  refine wpAny_bind (wpAny_handled ?_)
  rw [show A.in1.handled=none from hh]
  refine wpAny_bind (wpAny_pure (wpAny_throw ?_))
  refine wpAny_bind (wpAny_isInstance (T:="StopIteration") (b:=true) ⟨_,Heap.get?_push_size _ rfl,rfl⟩ isSubtype_stop ?_)
  exact wpAny_pure (h2 _ q fun b o hb e=>(((Heap.SameBut.update ..).extBut.push _).push _) b o (fun z=>hb (by simp [z])) e)
theorem Zhg (hh:A.handled=none)(H:Ord X.w a es ep t W)(it:Addr)(hne:a≠it)(hd:o.data=.set es ep t):
  Walks X.prog X.w A it [it,a] [it] es.size (fun i v=>W[i]?.map (·.2)=some v) (fun i h=>(i<=es.size/\IsSi h it a (ledW X.w) t i es.size ep)/\h.get? a=some o) where
 sub:=fun b hb=>by simp at hb; simp [hb]
 frame:=fun ø ø ø st hk=>⟨⟨st.1.1,let ⟨o,ho,r⟩:=st.1.2; ⟨o,hk it (by simp) o ho,r⟩⟩,hk a (by simp) o st.2⟩
 item:=fun i s Q E hi st hQ=>by
  refine Zgh hh H hne st.1.1 st.1.2 st.2 hd (fun x h' ex hit' k=>hQ x.2 h' s.toks (by rw [ex]; rfl) ⟨⟨hi,hit'⟩,k a o (by simp [hne]) st.2⟩ k) fun h' ex ø=>?_
  rw [Array.getElem?_eq_none_iff,H.size] at ex
  exact absurd hi (Nat.not_lt.mpr ex)
 done:=fun s Q E st hQ=>by
  refine Zgh hh H hne st.1.1 st.1.2 st.2 hd (fun x h' ex ø ø=>?_) fun h' ø k=>hQ h' s.toks k
  rw [Array.getElem?_eq_none_iff.mpr (by rw [H.size]; exact Nat.le_refl _)] at ex; cases ex
 self:=fun ø ø ø ø st hQ=>Zj3 st.1.2 hQ
theorem Zix {Q:Bool->Shared->Prop}(hT:s.TypeIs (.ref a) "set")(h:Q false s):wpAny (model X.prog X.w) A (Builtin.List.listLengthHint (.ref a)) Q E s:=by
 unfold Builtin.List.listLengthHint
 refine wpAny_bind (wpAny_specialOf hT PySem.F.slot_set_len.lookup ?_)
 generalize hid:("set.__len__":String)=id0
 wp_delta
 rw [show splitId id0=some ("set","__len__") from by subst hid; decide+kernel]
 subst hid
 refine wpAny_bind (wpAny_isInstance (T:="set") (b:=true) hT (by rw [isSubtype_type]; kernel_rfl) ?_)
 refine wpAny_ite_split (fun hab=>absurd hab (by decide)) (fun ø=>?_)
 refine wpAny_ite_split (fun ø=>?_) (fun hab=>absurd (by decide+kernel) hab)
 refine wpAny_bind (wpAny_typeOf hT ?_)
 exact wpAny_pure h
theorem Zkg (H:Ord X.w a es ep t W)(hx:o.ExactSet)(hd:o.data=.set es ep t):KdlSrc X.prog X.w "set" a a es.size (fun i v=>W[i]?.map (·.2)=some v) (fun h=>h.get? a=some o) where
 type:=fun ø hm=>⟨o,hm,hx.1⟩
 there:=fun ø hm=>⟨Heap.lt_size hm,Heap.lt_size hm⟩
 keep:=fun ø ø hm hk=>hk a (.inl rfl) o hm
 notList:=by decide
 notTuple:=by decide
 hint:=fun ø ø ø ø hm hq=>Zix ⟨o,hm,hx.1⟩ hq
 iter:=fun ø ø hh hm=>⟨_,_,(fun ø ø hq=>Zib H hm hx hd hq),Zhg hh H _ (Nat.ne_of_lt (Heap.lt_size hm)) hd,⟨⟨Nat.zero_le _,_,Heap.get?_push_size _ rfl,rfl,rfl⟩,Heap.get?_push_of_some _ hm⟩⟩
theorem ZeH (hh:A.handled=none)(H:Ord X.w a es ep t W)(hm:s.heap.get? a=some o)(hx:o.ExactSet)(hd:o.data=.set es ep t)(hn:es.size<=sizeLine){Q:List Value->Shared->Prop}
  (h:∀h' tk,(∀b o,s.heap.get? b=some o->h'.get? b=some o)->Q (W.toList.map (·.2)) { s with heap:=h',toks:=tk }):wpAny (model X.prog X.w) A (collect (.ref a)) Q E s:=by
 unfold collect
 refine wpAny_bind (wpAny_runValue (codeAny_builtin PySem.F.entry_proto_collect ?_))
 rw [Around.under_plainId PySem.F.plain_proto_collect _]
 show wpAny _ A.in1 (newList [] >>= fun l=>again (.builtin "list.__iadd__" ⟨[l,.ref a],[]⟩)) _ _ s
 refine wpAny_bind (wpAny_newObj_type ?_)
 refine wpAny_pure ⟨plainId_quiet PySem.F.plain_list_iadd _,codeAny_builtin PySem.F.entry_list_iadd ?_⟩
 rw [Around.under_plainId PySem.F.plain_list_iadd _]
 have la:=Nat.ne_of_gt (Heap.lt_size hm)
 show wpAny _ A.in1 (Builtin.List.listExtendWith (.ref s.heap.objs.size) (.ref a) (.ref s.heap.objs.size)) _ _ _
 refine kdl_extend (A:=A) (R:=wants _ E) (s:={ s with heap:=s.heap.push { cls:=.type "list",data:=.seq #[] } }) (Zkg H hx hd) hh (Heap.get?_push_of_some _ hm) s.heap.objs.size la la _ 0 (Heap.get?_push_size _ rfl) (fun h' tk acc c kp hS hacc=>?_) hn
 show wpAny _ A (load s.heap.objs.size >>= _) _ _ _
 refine wpAny_bind (wpAny_load hS ?_)
 have e:acc.toList=W.toList.map (·.2):=by
  apply List.ext_getElem?
  intro j
  rw [List.getElem?_map,Array.getElem?_toList,Array.getElem?_toList]
  cases q:acc[j]? with
  | some v=>exact (hacc.2 j v q).symm
  | none=>
   rw [Array.getElem?_eq_none_iff,hacc.1,← H.size,← Array.getElem?_eq_none_iff] at q
   rw [q]; rfl
 refine wpAny_pure ?_
 rw [e]
 exact h h' tk fun b o hb=>kp b o (Nat.ne_of_lt (Heap.lt_size hb)) (Heap.get?_push_of_some _ hb)
end
end Mine
end
section
namespace Mine
theorem Zfo {x y:Int}:∀{l:List Int},y∈insS x l↔y=x\/y∈l:=by
 intro zz0
 induction zz0 with
 | nil=>
  exact List.mem_cons
 | cons z r ih=>
  show y∈(if x < z then x::z::r else if x=z then z::r else z::insS x r)↔_
  by_cases c:x < z
  ·rw [if_pos c,List.mem_cons]
  ·rw [if_neg c]
   by_cases d:x=z
   ·rw [if_pos d,d,List.mem_cons]; exact ⟨.inr,fun h=>h.elim .inl fun h=>h⟩
   ·rw [if_neg d,List.mem_cons,ih,List.mem_cons]; exact ⟨fun h=>h.elim (fun h=>.inr (.inl h)) fun h=>h.elim .inl fun h=>.inr (.inr h),fun h=>h.elim (fun h=>.inr (.inl h)) fun h=>h.elim .inl fun h=>.inr (.inr h)⟩
theorem ZaH {y:Int}:∀{l:List Int},y∈mkSet l↔y∈l:=by
 intro zz0
 induction zz0 with
 | nil=>
  exact .rfl
 | cons x r ih=>
  show y∈insS x (mkSet r)↔_; rw [Zfo,ih,List.mem_cons]
theorem Zj6 {x:Int}:∀{l:List Int},l.Pairwise (· < ·)->(insS x l).Pairwise (· < ·):=by
 intro zz0
 induction zz0 with
 | nil=>
  intro _
  exact List.pairwise_singleton _ _
 | cons z r ih=>
  intro h
  have h':=List.pairwise_cons.mp h
  show (if x < z then x::z::r else if x=z then z::r else z::insS x r).Pairwise _
  by_cases c:x < z
  ·rw [if_pos c]
   exact List.pairwise_cons.mpr ⟨fun y hy=>(List.mem_cons.mp hy).elim (fun q=>q▸c) fun q=>Int.lt_trans c (h'.1 y q),h⟩
  ·rw [if_neg c]
   by_cases d:x=z
   ·rw [if_pos d]; exact h
   ·rw [if_neg d]
    exact List.pairwise_cons.mpr ⟨fun y hy=>(Zfo.mp hy).elim (fun q=>by rw [q]; exact lj6 c d) (h'.1 y),ih h'.2⟩
theorem ZbO:∀(l:List Int),(mkSet l).Pairwise (· < ·):=by
 intro zz0
 induction zz0 with
 | nil=>
  exact .nil
 | cons _ r ih=>
  exact Zj6 (ih)
theorem Zdb {a l:List Int}(hs:a.Pairwise (·<=·))(hn:a.Nodup)(hm:∀i,i∈a↔i∈l):a=mkSet l:=by
 have h2:=ZbO l
 have p:a.Perm (mkSet l):=(List.perm_ext_iff_of_nodup hn (h2.imp fun h=>Int.ne_of_lt h)).mpr fun i=>by rw [hm,ZaH]
 exact p.eq_of_pairwise (le:=(·<=·)) (fun ø ø ø ø p q=>Int.le_antisymm p q) hs (h2.imp Int.le_of_lt)
end Mine
end
section
namespace Mine
open PySem PySem.W PySem.Calls PyProof.Rows
theorem ElT.ints {l:List (Int×Value)}{L:List Int}(h:ElT l L):IntsAre (l.map (·.2)) L:=by
 induction h with
 | nil=>exact .nil
 | cons i t _ ih=>exact .cons i t ih
section
variable {A:Around}{E:Value->Shared->Prop}{s:Shared}{a:Addr}
theorem Zlr {o:Obj}{es:Array (Int×Value)}{ep:Nat}{t:SetTable}(f:t.fits es.size=true)(hw:ledW X.w=true->walkT t=true):∃W,Ord X.w a es ep t W/\W.toList.Perm es.toList:=by
 cases q:ledW X.w with
 | true=>exact ⟨es,⟨f,fun z=>(by rw [q] at z; cases z),fun ø=>⟨rfl,hw q⟩⟩,.refl _⟩
 | false=>exact ⟨_,⟨f,fun ø=>rfl,fun z=>(by rw [q] at z; cases z)⟩,ZcH _ _⟩
theorem ZfK {p:List Int×SetTable}(hh:A.handled=none)(S:SetT s.heap a p)(hw:ledW X.w=true->walkT p.2=true)(h64:p.1.length < 64){Q:Value->Shared->Prop}
  (h:∀D out c h' tk ns,s.heap.get? D=none->(∀b o,s.heap.get? b=some o->h'.get? b=some o)->h'.get? D=some (seqObj "list" out c)->IntsAre out.toList ns->ns.Perm p.1->ns.Pairwise (·<=·)->Q (.ref D) { s with heap:=h',toks:=tk }):
  wpAny (model X.prog X.w) A (call (.builtin "sorted") [.ref a]) Q E s:=by
 obtain ⟨o,es,ep,ho,hx,hd,e,f⟩:=S
 obtain ⟨W,HO,pm⟩:=Zlr (a:=a) (o:=o) (ep:=ep) f hw
 obtain ⟨eW,pW⟩:=e.perm pm
 have hI:=eW.ints
 generalize (W.toList.filterMap fun e=>vInt? e.2)=L at hI pW
 refine Calls.call_function_entry kind_sorted plain_sorted entry_sorted (args_sorted1 _) ?_
 unfold Builtin.«sorted»
 refine wpAny_bind (m:=checkCount "sorted" 1 1 _) (wpAny_pure ?_)
 refine wpAny_bind (ZeH (A:=A.in1) hh HO ho hx hd (by rw [e.size]; exact Nat.le_trans (Nat.le_of_lt h64) (by decide+kernel)) fun h1' tk1 k₁=>?_)
 have hlen:(W.toList.map (·.2)).length < 64:=by rw [hI.length,pW.length_eq]; exact h64
 generalize W.toList.map (·.2)=vs at hI hlen ⊢
 refine wpAny_bind (wpAny_newList ?_)
 have hoL:(h1'.push (seqObj "list" vs.toArray 0)).get? h1'.objs.size=some (seqObj "list" vs.toArray 0):=Heap.get?_push_size _ rfl
 show wpAny _ _ _ _ _ { s with heap:=h1'.push (seqObj "list" vs.toArray 0),toks:=tk1 }
 refine wpAny_bind (wpAny_holding (wpAny_call_entry slot_list_sort ⟨_,hoL,rfl⟩ entry_list_sort (list_sort_tree (s:={ s with heap:=h1'.push (seqObj "list" vs.toArray 0),toks:=tk1 }) hoL hI hlen fun out ns' a1 a2 a3=>⟨_,rfl, ?_⟩) (args_list_sort _)))
 obtain ⟨c,hc⟩:=sortedHeap_at (vs:=vs) (out:=out) hoL
 refine wpAny_pure ⟨_,rfl,h h1'.objs.size out c _ _ ns' ?_ (fun b o hb=>?_) hc a1 (a2.trans pW) a3⟩
 ·cases q:s.heap.get? h1'.objs.size with
  | none=>rfl
  | some o=>exact absurd (Heap.lt_size (k₁ _ _ q)) (Nat.lt_irrefl _)
 ·have hb:=k₁ _ _ hb
  have lt:=Heap.lt_size hb
  rw [sortedHeap_old (Nat.ne_of_lt lt) (by rw [size_push']; exact Nat.lt_succ_of_lt lt),Heap.get?_push_ne _ _ _ (Nat.ne_of_lt lt)]
  exact hb
end
theorem Zh7 {M:List Int}:∀{p:List Int×SetTable},(M.foldl addT p).1.length<=p.1.length+M.length:=by
 induction M with
 | nil=>exact Nat.le_refl _
 | cons i M ih=>
  intro p
  have a:=ih (p:=addT p i)
  have b:=Zdf (p:=p) (i:=i)
  rw [List.foldl_cons,List.length_cons]; exact lk2 a b
inductive UniR (led:Bool)(l m:List Int)(p q:List Int×SetTable):Prop
 | mk (c r:List Int×SetTable) (h1:copyT led p=some c) (h2:roomT c q.1.length=some r) (h3:q.2.led=led) (h4:q.2.plain=true) (h5:q.1≠[]) (h6:r.2.fill≠0) (h7:p.1.length < 64) (h8:c.1.length < 64) (h9:r.1.length+q.1.length < 64)
   (h10:r.1.Nodup) (h11:mkSet (r.1++q.1)=mkSet (l++m)) (h12:led=true->walkT (q.1.foldl addT r).2=true)
theorem Znr {led:Bool}{l m:List Int}(h:uniB led l m=true):UniR led l m (l.foldl addT ([],.fresh 0 0 led)) (m.foldl addT ([],.fresh 0 0 led)):=by
 unfold uniB at h
 generalize l.foldl addT ([],.fresh 0 0 led)=p at h ⊢
 generalize m.foldl addT ([],.fresh 0 0 led)=q at h ⊢
 cases h1:copyT led p with
 | none=>rw [h1] at h; cases h
 | some c=>
  rw [h1] at h
  dsimp only at h
  cases h2:roomT c q.1.length with
  | none=>rw [h2] at h; cases h
  | some r=>
   rw [h2] at h
   dsimp only at h
   simp only [Bool.and_eq_true] at h
   obtain ⟨⟨⟨⟨⟨⟨⟨⟨⟨⟨⟨a1,a2⟩,a3⟩,a4⟩,a5⟩,a6⟩,a7⟩,a8⟩,a9⟩,a10⟩,a11⟩,a12⟩:=h
   refine ⟨c,r,h1,h2,beq_iff_eq.mp a1,a2,fun z=>?_,fun z=>?_,Nat.blt_eq.mp a5,Nat.blt_eq.mp a6,Nat.blt_eq.mp a7,of_decide_eq_true a10,beq_iff_eq.mp a11,fun z=>?_⟩
   ·rw [z] at a3; cases a3
   ·rw [z] at a4; cases a4
   ·rw [z] at a12; exact a12
section
variable {sc:Sc}{A:Around}{env:Env}{Pv:Pr}{W:Wd}{σ:St}{s:Shared}{E:EP}
inductive SetZ (W:Wd)(a:Addr)(p:List Int×SetTable):Prop
 | mk (o:Obj) (z:W.Z a=some o) (k:∀h:Heap,h.get? a=some o->SetT h a p)
theorem SetZ.le {W':Wd}{a:Addr}{p:List Int×SetTable}(S:SetZ W a p)(h:Wd.Le W W'):SetZ W' a p:=by
 obtain ⟨o,z,k⟩:=S; exact ⟨o,h.zz _ _ z,k⟩
theorem SetZ.t {H:Hp}{h:Heap}{a:Addr}{p:List Int×SetTable}(S:SetZ W a p)(R:RelH X W H h):SetT h a p:=by
 obtain ⟨o,z,k⟩:=S; exact k h (R.z _ _ z)
theorem SetT.z {h':Heap}{tk:Nat}{a:Addr}{p:List Int×SetTable}(S:SetT h' a p)(at_:At X env Pv W σ s)(hk:∀b o,s.heap.get? b=some o->h'.get? b=some o)(hn:s.heap.get? a=none):
  ∃W',Tf X env Pv W σ s W' σ { s with heap:=h',toks:=tk }/\SetZ W' a p:=by
 obtain ⟨o,es,ep,ho,hx,hd,e,f⟩:=S
 exact ⟨_,(Tc.frozen (tk:=tk) at_.rel hk hn ho).tf at_,o,Zbr,fun h g=>⟨o,es,ep,g,hx,hd,e,f⟩⟩
inductive SuQ (X:Cx)(s:Shared)(K:List Int->St->Prop)(v:Value)(W':Wd)(σ':St)(s':Shared):Prop
 | mk (a:Addr) (l:List Int) (e:v=.ref a) (S:SetZ W' a (l.foldl addT ([],.fresh 0 0 (ledW X.w)))) (nw:s.heap.get? a=none) (h:K l σ')
theorem Ze7 {g:V}(h:isSetB g=true):g=.bt .set:=ZgR h
theorem Zf1 {c:Ck}{j:Nat}{a:PE}{x:Str}{p pos:Pos}{y:Expr}(hf:SE X n sc (.glob j) (.Name x p))(ha:SE X n sc a y)(hc:chkE c sc a y=true)(hd:sc.hd=true)(hg:X.P.glob j=some (.bt .set)){Q:List Int->St->Prop}(ok:EnvOk X A env Pv n sc)(at_:At X env Pv W σ s)
  (h:wpE X.P (CW X.P n) E a σ fun v σ1=>need (see σ1.H v) fun p=>intsK p fun l=>Nd (l.length < 64) (Q l σ1)):Ew X A env Pv (eval (.Call (.Name x p) [y] [] pos) env) W σ s (SuQ X s Q) E:=
 call1 hf ha hc hg rfl ok at_ h fun W2 σ2 s2' v z T hz h=>Zab h fun y' ey h=>Zab h fun xs ex h=>Zab h fun is ei h=>by
  obtain ⟨l,vs,m,rfl,g,r,q,zz⟩:=(Zao T.at_.rel hz ey).toLst ex
  have I:=ZdC r ei
  refine ZiY (ok.hh hd) (Zam g) I (Nat.lt_of_lt_of_le (Nat.succ_lt_succ h.1) (by decide)) fun h' tk S hk=>?_
  obtain ⟨W',T',S'⟩:=S.z (tk:=tk) T.at_ hk (Zag _)
  exact ⟨W',σ2,T.trans T',_,is,rfl,S',ZcM (Zag _) T.stp.there,h.2⟩
inductive SvQ (X:Cx)(l m:List Int)(K:St->Prop)(v:Value)(W':Wd)(σ':St)(s':Shared):Prop
 | mk (a:Addr) (p:List Int×SetTable) (e:v=.ref a) (S:SetZ W' a p) (hw:ledW X.w=true->walkT p.2=true) (hl:p.1.length < 64) (hn:p.1.Nodup) (hm:∀ns:List Int,ns.Perm p.1->ns.Pairwise (·<=·)->ns=mkSet (l++m)) (h:K σ')
theorem Zno {a b:Addr}{l m:List Int}{K:St->Prop}(at_:At X env Pv W σ s)(Sa:SetZ W a (l.foldl addT ([],.fresh 0 0 (ledW X.w))))(Sb:SetZ W b (m.foldl addT ([],.fresh 0 0 (ledW X.w))))(hab:a≠b)(hu:uniK l m=true)(h:K σ):
  Ew X A env Pv (binaryOp .BitOr (.ref a) (.ref b)) W σ s (SvQ X l m K) E:=by
 have hu':uniB (ledW X.w) l m=true:=by
  have hu:=(Bool.and_eq_true ..).mp hu
  cases ledW X.w with
  | true=>exact hu.1
  | false=>exact hu.2
 obtain ⟨c,r,h1,h2,h3,h4,h5,h6,h7,h8,h9,h10,h11,h12⟩:=Znr hu'
 have sb:64 < scanBound:=by decide
 refine ZnY hab (Sa.t at_.rel) (Sb.t at_.rel) (Nat.lt_trans h7 sb) h1 (Nat.lt_trans h8 sb) h3 h4 h5 h2 h6 (by exact Nat.lt_of_lt_of_le (lc1 (Nat.lt_succ_self _)) (la9 (lg9 sb) h9)) fun h' M hk S hp hl=>?_
 obtain ⟨W',T',S'⟩:=S.z (tk:=s.toks) at_ hk (Zag _)
 have hd:(M.foldl addT r).1.Nodup:=Zfy h10
 refine ⟨W',σ,T',_,_,rfl,S',fun z=>?_, ?_,hd,fun ns p1 p2=>?_,h⟩
 ·rw [hl z]; exact h12 z
 ·exact Nat.lt_of_le_of_lt Zh7 (hp.length_eq▸h9)
 ·rw [← h11]
  exact Zdb p2 (p1.nodup_iff.mpr hd) fun i=>by rw [p1.mem_iff,ZiR,List.mem_append,hp.mem_iff]
theorem Zmk {c:Ck}{fz:Bool}{i j:Nat}{a b:PE}{x x1 x2:Str}{p p1 p2 q1 q2 pb pos:Pos}{ya yb:Expr}(hf:SE X n sc (.glob i) (.Name x p))(hf1:SE X n sc (.glob j) (.Name x1 p1))(hf2:SE X n sc (.glob j) (.Name x2 p2))(ha:SE X n sc a ya)(hca:chkE c sc a ya=true)(hb:SE X n sc b yb)(hcb:chkE c sc b yb=true)(hd:sc.hd=true):
  SE X n sc (.sortedU fz i j a b) (.Call (.Name x p) [.BinOp (.Call (.Name x1 p1) [ya] [] q1) .BitOr (.Call (.Name x2 p2) [yb] [] q2) pb] [] pos):=by
 intro A env Pv W σ s Q E ok at_ h
 refine Zab h fun g hg h=>?_
 cases Zhl h.1
 refine Zab h.2 fun g hg' h=>?_
 cases Ze7 h.1
 have h:=h.2
 rw [Zar]
 show Ew X A env Pv (eval (.Name x p) env >>= fun f=>callWith pos f [] (([.BinOp (.Call (.Name x1 p1) [ya] [] q1) .BitOr (.Call (.Name x2 p2) [yb] [] q2) pb]:List Expr).map fun e=>(false,eval e env)) []) W σ s _ E
 refine wpAny_bind (wpAny_mono (hf A env Pv W σ s (fun v σ1=>v=.bt .sorted/\σ1=σ) E ok at_ (ZbL hg ⟨rfl,rfl⟩)) (fun cf s1' q=>q.e fun W1 σ1 T1' q=>q.e fun v hv q=>?_) fun ø ø z=>z)
 obtain ⟨rfl,rfl⟩:=q
 cases hv
 show wpAny _ A (callWith pos (.builtin "sorted") [] _ _) _ _ _
 have key:Ew X A env Pv (eval (.BinOp (.Call (.Name x1 p1) [ya] [] q1) .BitOr (.Call (.Name x2 p2) [yb] [] q2) pb) env) W1 σ1 s1' (fun v W' σ' s'=>∃l m,SvQ X l m (fun σ2=>give fz σ2 Q (.newList ((mkSet (l++m)).map .int))) v W' σ' s') E:=by
  rw [eval_BinOp]
  refine Ew.bindT ((Zf1 hf1 ha hca hd hg' ok T1'.at_ h).mono fun v W2 σ2 s2' at2 q ø le=>?_)
  obtain ⟨a',l,rfl,Sa,_,h⟩:=q
  refine Ew.bindT (Ew.holding ((Zf1 hf2 hb hcb hd hg' ok at2 h).mono fun v W3 σ3 s3' at3 q ø le=>?_))
  obtain ⟨b',m,rfl,Sb,nb,h⟩:=q
  refine Ew.standAt (Ew.operate ((Zno at3 (Sa.le le) Sb (fun z=>?_) h.1 h.2).mono fun v W4' σ4 s4' ø q=>⟨l,m,q⟩))
  subst z
  obtain ⟨o,es,ep,ho,_⟩:=Sa.t at2.rel
  rw [nb] at ho; cases ho
 refine callWith_builtin ZaA (ZaO Zbl (spliced_cons (wpAny_mono key (fun v s2' q=>q.e fun W2 σ2 T2 q=>spliced_nil ?_) fun ø ø z=>z.back T1')))
 obtain ⟨l,m,a',P,rfl,S,hw,hl,hn,hm,h⟩:=q
 have T:=T1'.trans T2
 refine ZfK (ok.hh hd) (S.t T.at_.rel) hw hl fun D out c' h' tk ns hD hk hc hi hp hs=>?_
 cases hm ns hp hs
 exact (OpQ.from (A:=A) T).list T.at_.rel (Zem hi) hk hD hc h
theorem Ziu {g:V}(h:isLenB g=true):g=.bt .len:=ZgR h
theorem Zls {led:Bool}{l:List Int}(h:lenB l=true):(l.foldl addT ([],.fresh 0 0 led)).1.length=l.length:=by
 have h:=(Bool.and_eq_true ..).mp ((Bool.and_eq_true ..).mp h).2
 cases led with
 | true=>exact beq_iff_eq.mp h.1
 | false=>exact beq_iff_eq.mp h.2
theorem Zmh {c:Ck}{i j:Nat}{a:PE}{x x1:Str}{p p1 q1 pos:Pos}{ya:Expr}(hf:SE X n sc (.glob i) (.Name x p))(hf1:SE X n sc (.glob j) (.Name x1 p1))(ha:SE X n sc a ya)(hca:chkE c sc a ya=true)(hd:sc.hd=true):
  SE X n sc (.lenSet i j a) (.Call (.Name x p) [.Call (.Name x1 p1) [ya] [] q1] [] pos):=by
 intro A env Pv W σ s Q E ok at_ h
 refine Zab h fun g hg h=>?_
 cases Ziu h.1
 refine Zab h.2 fun g hg' h=>?_
 cases Ze7 h.1
 have h:=h.2
 rw [Zar]
 show Ew X A env Pv (eval (.Name x p) env >>= fun f=>callWith pos f [] (([.Call (.Name x1 p1) [ya] [] q1]:List Expr).map fun e=>(false,eval e env)) []) W σ s _ E
 refine wpAny_bind (wpAny_mono (hf A env Pv W σ s (fun v σ1=>v=.bt .len/\σ1=σ) E ok at_ (ZbL hg ⟨rfl,rfl⟩)) (fun cf s1' q=>q.e fun W1 σ1 T1' q=>q.e fun v hv q=>?_) fun ø ø z=>z)
 obtain ⟨rfl,rfl⟩:=q
 cases hv
 show wpAny _ A (callWith pos (.builtin "len") [] _ _) _ _ _
 refine callWith_builtin ZaA (ZaO Zbl (spliced_cons (wpAny_mono (Zf1 hf1 ha hca hd hg' ok T1'.at_ h) (fun v s2' q=>q.e fun W2 σ2 T2 q=>spliced_nil ?_) fun ø ø z=>z.back T1')))
 obtain ⟨a',l,rfl,S,_,h⟩:=q
 have T:=T1'.trans T2
 obtain ⟨o,es,ep,ho,hx,hd',e,f⟩:=S.t T.at_.rel
 have z:es.size=l.length:=e.size.trans (Zls h.1)
 refine call_len_set ho hx hd' f (z▸Int.ofNat_lt.mpr (Nat.lt_trans (Nat.blt_eq.mp ((Bool.and_eq_true ..).mp h.1).1) (by decide))) ?_
 rw [z]
 exact (OpQ.from (A:=A) (fz:=false) T).val T.at_.rel (.int _ _) h.2
end
section
structure Objs (X:Cx)(n:Nat):Prop where
 call:∀(sc:Sc) (fz:Bool) (f:PE) (as:PEs) (x:Str) (p:Pos) (vs:List Expr) (pos:Pos),SE X n sc f (.Name x p)->(sc.hd || qGlob X.ck f)=true->SEs X n sc as vs->chkEs X.ck sc as vs=true->SE X n sc (.call fz f as) (.Call (.Name x p) vs [] pos)
 meth:∀(sc:Sc) (fz:Bool) (o:PE) (m:Nat) (as:PEs) (v:Expr) (ap pos:Pos) (vs:List Expr),SE X n sc o v->SEs X n sc as vs->chkEs X.ck sc as vs=true->notSuper v=true->vs.length<=20->(ap.endLine==pos.line)=true->(sc.hd || Nat.beq m X.P.nAppend)=true->SE X n sc (.meth fz o m as) (.Call (.Attribute v (X.nm m) ap) vs [] pos)
 attr:∀(sc:Sc) (e:PE) (m:Nat) (v:Expr) (pos:Pos),SE X n sc e v->notSuper v=true->SE X n sc (.attr e m) (.Attribute v (X.nm m) pos)
 asgA:∀(sc:Sc) (o e:PE) (m:Nat) (v x:Expr) (p pos:Pos),SE X n sc e x->SE X n sc o v->S1 X n sc (.assign (.attr o m) e) (.Assign [.Attribute v (X.nm m) p] x pos)
 augL:∀(sc:Sc) (i:Nat) (op:BOp) (e:PE) (x:Expr) (p pos:Pos),SE X n sc e x->kStore sc (X.nm i)=true->kLoc sc (X.nm i)=true->nDbg (X.nm i)=true->S1 X n sc (.augLoc i op e) (.AugAssign (.Name (X.nm i) p) (opOf op) x pos)
 augA:∀(sc:Sc) (o e:PE) (m:Nat) (op:BOp) (v x:Expr) (p pos:Pos),SE X n sc e x->SE X n sc o v->S1 X n sc (.augAttr o m op e) (.AugAssign (.Attribute v (X.nm m) p) (opOf op) x pos)
 raise:∀(sc:Sc) (i:Nat) (e:PE) (y:Str) (x:Expr) (np cpos pos:Pos),chkG X.ck sc i y=true->SE X n sc e x->chkE X.ck sc e x=true->sc.hd=true->S1 X n sc (.raise i e) (.Raise (some (.Call (.Name y np) [x] [] cpos)) none pos)
 try_:∀(sc:Sc) (body:PSs) (i:Nat) (as:Option Nat) (h:PSs) (b:List Stmt) (b0':Stmt) (hb:List Stmt) (y:Str) (np:Pos) (nm:Option Str) (hpos pos:Pos),chkG X.ck sc i y=true->SS X n sc body b->SS X n ⟨sc.sc,false⟩ h (b0'::hb)->asOk X.ck sc as nm=true->sc.hd=true->S1 X n sc (.try_ body i as h) (.Try b [.ExceptHandler (some (.Name y np)) nm (b0'::hb) hpos] [] [] pos)
structure PO (X:Cx)(n:Nat)(sc:Sc)(p:PE)(e:Expr):Prop where
 se:SE X n sc p e
 st:plainTest e=true->ST X n sc (.e p) e
 as:∀(i:Nat) (y:Str) (q pos:Pos),y=X.nm i->kStore sc y=true->S1 X n sc (.assign (.loc i) p) (.Assign [.Name y q] e pos)
theorem ZaM {P:Expr->Prop}{e:Expr}{k:Nat}(t:tg e k=true)(hk:Nat.blt k 16=true)(h:P (back (xu e) k)):P e:=@Eq.subst Expr P _ _ (ZdK t hk).symm h
theorem Zc7 {e:Expr}{k:Nat}(t:tg e k=true):(xu e).tag=k:=Nat.eq_of_beq_eq_true t
theorem Zc6 (K:CxOk X){sc:Sc}{p:PE}{e:Expr}{k:Nat}(t:tg e k=true)(hk:(Nat.blt k 16&&Nat.ble 1 k&&Nat.ble k 14&&!Nat.beq k 6)=true)(h:SE X n sc p (back (xu e) k)):PO X n sc p e:=Zal hk fun h1 h2 h3 h4=>
 have s:SE X n sc p e:=ZaM (P:=SE X n sc p) t h1 h
 ⟨s,fun q=>Zlx s q (by unfold tg; rw [Zc7 t]; exact Bool.not_eq_true' _▸h4),fun i y q pos hy hk=>Zby K s hy hk (by rw [Zc7 t]; exact h2) (by rw [Zc7 t]; exact h3)⟩
theorem Zma {kw:List Keyword}{G:List Keyword->Prop}(h:isRv kw=true)(g:∀k p kp,G [⟨some (Str.ofString "reverse"),.Constant (.bool true) k p,kp⟩]):G kw:=ZaK h fun w hw h=>Zaf h fun h1 h2 h3=>by
 obtain ⟨a,v,kp⟩:=w
 cases (of_decide_eq_true h1:a=some (Str.ofString "reverse"))
 rw [ZaG hw]
 refine ZaM (P:=fun b=>G [⟨_,b,kp⟩]) h2 rfl ?_
 have h3:(xu v).v=.bool true:=of_decide_eq_true h3
 show G [⟨_,.Constant (xu v).v _ _,kp⟩]
 rw [h3]
 exact g _ _ _
theorem Zng (K:CxOk X){sc:Sc}{p:PE}{e:Expr}(t:tg e 6=true)(h:SE X n sc p (back (xu e) 6))(h':ST X n sc (.e p) (back (xu e) 6)):PO X n sc p e:=
 have s:SE X n sc p e:=ZaM (P:=SE X n sc p) t rfl h
 ⟨s,fun ø=>ZaM (P:=ST X n sc (.e p)) t rfl h',fun i y q pos hy hk=>Zby K s hy hk (by rw [Zc7 t]; rfl) (by rw [Zc7 t]; rfl)⟩
noncomputable def gE (X:Cx)(n:Nat)(p:PE):Prop:=∀(sc:Sc) (e:Expr),chkE X.ck sc p e=true->PO X n sc p e
structure PL (X:Cx)(n:Nat)(sc:Sc)(p:PEs)(es:List Expr):Prop where
 ls:SEs X n sc p es
 bo:SBool X n sc p es
noncomputable def gEs (X:Cx)(n:Nat)(p:PEs):Prop:=∀(sc:Sc) (es:List Expr),chkEs X.ck sc p es=true->PL X n sc p es
noncomputable def gO (X:Cx)(n:Nat)(p:PEo):Prop:=∀(sc:Sc) (e:Option Expr),chkO X.ck sc p e=true->SO X n sc p e
noncomputable def gT (X:Cx)(n:Nat)(p:PC):Prop:=∀(sc:Sc) (e:Expr),chkT X.ck sc p e=true->ST X n sc p e
noncomputable def gTs (X:Cx)(n:Nat)(p:PCs):Prop:=∀(sc:Sc) (es:List Expr),chkTs X.ck sc p es=true->SAll X n sc p es
noncomputable def gC (X:Cx)(n:Nat)(p:PCo):Prop:=∀(sc:Sc) (es:List Expr),chkIf X.ck sc p es=true->SCo X n sc p es
theorem ZlL {c:Ck}{sc:Sc}{i:Nat}{e:Expr}{f:Expr->Bool}{G:Expr->Prop}(h:chk1 c sc i e f=true)(k:∀x p q y,x=c.nm i->kGlob sc x=true->nDbg x=true->f y=true->G (.Call (.Name x p) [y] [] q)):G e:=Zea h fun t t' hg hk hl=>ZaK hl fun y hy hf=>Zaf hg fun g1 g2 g3=>ZaM (P:=G) t rfl (by
 show G (.Call (xu e).a (xu e).l (xu e).kw (xu e).p)
 rw [ZaG hy,Zah hk]
 exact ZaM (P:=fun b=>G (.Call b [y] [] (xu e).p)) t' rfl (k _ _ _ y (of_decide_eq_true g1) g2 g3 hf))
section
variable (K:CxOk X)(O:Objs X n)
include K
theorem ZlJ (v:V):gE X n (.cst v):=fun sc e h=>Zan h fun t c=>Zc6 K t rfl (ZkF c)
theorem ZlR (i:Nat):gE X n (.loc i):=fun sc e h=>Zal h fun t a b c=>Zc6 K t rfl (ZkW (of_decide_eq_true a) b c)
theorem Zi4 (i:Nat):gE X n (.glob i):=fun sc e h=>Zal h fun t a b c=>Zc6 K t rfl (Za0 K (of_decide_eq_true a) b c)
theorem Zlk (fz:Bool)(op:BOp)(l r:PE)(hl:gE X n l)(hr:gE X n r):gE X n (.bin fz op l r):=fun sc e h=>Zal h fun t o a b=>Zc6 K t rfl (by
 show SE X n sc _ (.BinOp (xu e).a (xu e).o (xu e).b (xu e).p)
 rw [of_decide_eq_true o]; exact Zk1 (hl sc _ a).se (hr sc _ b).se)
theorem ZlN (a:PE)(ha:gE X n a):gE X n (.neg a):=fun sc e h=>Zaf h fun t o a=>Zc6 K t rfl (by
 show SE X n sc _ (.UnaryOp (xu e).u (xu e).a (xu e).p)
 rw [of_decide_eq_true o]; exact Zj0 (ha sc _ a).se)
theorem Zli (a:PE)(ha:gE X n a):gE X n (.not a):=fun sc e h=>Zaf h fun t o a=>Zc6 K t rfl (by
 show SE X n sc _ (.UnaryOp (xu e).u (xu e).a (xu e).p)
 rw [of_decide_eq_true o]; exact Zky (ha sc _ a).se)
theorem Zje (op:COp)(l r:PE)(hl:gE X n l)(hr:gE X n r):gE X n (.cmp op l r):=fun sc e h=>Zan h fun t h=>ZaK h fun o ho h=>ZaK h fun r' hr' h=>Zaf h fun h0 h1 h2=>by
 have f:∀{P:Expr->Prop},P (.Compare (xu e).a [cmpOf op] [r'] (xu e).p)->P (back (xu e) 6):=fun {P} q=>by
  show P (Expr.Compare (xu e).a (xu e).cs (xu e).l (xu e).p)
  rw [ZaG ho,ZaG hr',of_decide_eq_true h0]; exact q
 exact Zng K t (f (ZkK (hl sc _ h1).se (hr sc _ h2).se (ZbI h2).2)) (f (Zh2 (hl sc _ h1).se (hr sc _ h2).se (ZbI h2).2))
theorem Zjq (o1' o2':COp)(a b c:PE)(ha:gE X n a)(hb:gE X n b)(hc:gE X n c):gE X n (.cmp2 o1' o2' a b c):=fun sc e h=>nomatch (show false=true from h)
theorem Zl4 (es:PEs)(he:gEs X n es):gE X n (.and es):=fun sc e h=>Zaf h fun t o a=>Zc6 K t rfl (by
 show SE X n sc _ (.BoolOp (xu e).bo (xu e).l (xu e).p)
 rw [of_decide_eq_true o]; exact fun A env Pv W σ s Q E ok at_ hw=>((he sc _ a).bo A env Pv W σ s Q E _ ok at_).1 hw)
theorem Zof (es:PEs)(he:gEs X n es):gE X n (.or es):=fun sc e h=>Zaf h fun t o a=>Zc6 K t rfl (by
 show SE X n sc _ (.BoolOp (xu e).bo (xu e).l (xu e).p)
 rw [of_decide_eq_true o]; exact fun A env Pv W σ s Q E ok at_ hw=>((he sc _ a).bo A env Pv W σ s Q E _ ok at_).2 hw)
theorem Zmo (c:PC)(a b:PE)(hc:gT X n c)(ha:gE X n a)(hb:gE X n b):gE X n (.ite c a b):=fun sc e h=>Zal h fun t h0 h1 h2=>Zc6 K t rfl (Zkd (hc sc _ h0) (ha sc _ h1).se (hb sc _ h2).se)
theorem Zjp (fz:Bool)(es:PEs)(he:gEs X n es):gE X n (.list fz es):=fun sc e h=>Zan h fun t h0=>Zc6 K t rfl (ZhL (he sc _ h0).ls h0)
theorem Zmz (es:PEs)(he:gEs X n es):gE X n (.tup es):=fun sc e h=>Zan h fun t h0=>Zc6 K t rfl (Zk3 (he sc _ h0).ls h0)
theorem Zjn (kvs:PKV):gE X n (.dict kvs):=fun sc e h=>Zal h fun t h1 h2 h3=>Zc6 K t rfl (by
 show SE X n sc _ (.Dict (xu e).os (xu e).l (xu e).p)
 rw [Zah h2,Zah h3]
 cases kvs with
 | nil=>exact ZgJ K
 | cons _ _ _=>cases h1)
theorem ZmB (a i:PE)(ha:gE X n a)(hi:gE X n i):gE X n (.idx a i):=fun sc e h=>Zaf h fun t h0 h1=>Zc6 K t rfl (Zj8 (ha sc _ h0).se (hi sc _ h1).se)
theorem Zoc (fz:Bool)(a:PE)(lo hi:PEo)(ha:gE X n a)(hl:gO X n lo)(hh:gO X n hi):gE X n (.sl fz a lo hi):=fun sc e h=>Zav h fun t t' h0 h1 h2 h3=>Zc6 K t rfl (by
 show SE X n sc _ (.Subscript (xu e).a (xu e).b (xu e).p)
 refine ZaM (P:=fun b=>SE X n sc _ (.Subscript (xu e).a b (xu e).p)) t' rfl ?_
 show SE X n sc _ (.Subscript (xu e).a (.Slice (xu (xu e).b).o0 (xu (xu e).b).o1 (xu (xu e).b).o2 (xu (xu e).b).p) (xu e).p)
 rw [Zg1 h3]; exact Zln (ha sc _ h0).se (hl sc _ h1) (hh sc _ h2))
theorem Zmj (fz:Bool)(a:PE)(ha:gE X n a):gE X n (.rev fz a):=fun sc e h=>nomatch (show false=true from h)
theorem Zju (fz:Bool)(elt:PE)(ts:List Nat)(it:PE)(cond:PCo)(he:gE X n elt)(hi:gE X n it)(hc:gC X n cond):gE X n (.comp fz elt ts it cond):=fun sc e h=>Zan h fun t h=>ZaK h fun g hg h=>Zav h fun h1 h2 h3 h4 h5 h6=>Zan h6 fun h7 h8=>by
 have f:∀{P:Expr->Prop},P (.ListComp (xu e).a [⟨g.target,g.iter,g.ifs,0⟩] (scOf (xu e)) (xu e).p)->P e:=fun {P} q=>ZaM (P:=P) t rfl (by
  show P (.ListComp (xu e).a (xu e).gs (scOf (xu e)) (xu e).p)
  have h7:g.is_async=0:=of_decide_eq_true h7
  rw [ZaG hg]
  cases g
  cases h7
  exact q)
 have s:SE X n sc (.comp fz elt ts it cond) e:=f (P:=SE X n sc _) (Ze4 (hi sc _ h3).se (he _ _ h1).se (hc _ _ h4) h2 h5 h8 (ZbI h3).2 K)
 exact ⟨s,fun q=>Zlx s q (by unfold tg; rw [Zc7 t]; rfl),fun i y q pos hy hk=>f (P:=fun e=>S1 X n sc _ (.Assign [.Name y q] e pos)) (Zcw (hi sc _ h3).se (he _ _ h1).se (hc _ _ h4) h2 h5 h8 (ZbI h3).2 K hy hk)⟩
include O
theorem Zja (o:PE)(m:Nat)(ho:gE X n o):gE X n (.attr o m):=fun sc e h=>Zal h fun t a b c=>Zc6 K t rfl (by
 show SE X n sc _ (.Attribute (xu e).a (xu e).s (xu e).p)
 rw [of_decide_eq_true b]; exact O.attr sc o m _ _ (ho sc _ a).se c)
theorem Zjj (fz:Bool)(f:PE)(as:PEs)(hf:gE X n f)(ha:gEs X n as):gE X n (.call fz f as):=fun sc e h=>Zav h fun t t' h0 h1 h2 h3=>Zc6 K t rfl (by
 show SE X n sc _ (.Call (xu e).a (xu e).l (xu e).kw (xu e).p)
 have s:=(hf sc _ h0).se
 rw [ZdK t' rfl] at s
 refine ZaM (P:=fun b=>SE X n sc _ (.Call b (xu e).l (xu e).kw (xu e).p)) t' rfl ?_
 rw [Zah h2]; exact O.call sc fz f as _ _ _ _ s h3 (ha sc _ h1).ls h1)
theorem Zm7 (fz:Bool)(i:Nat)(a:PE)(ha:gE X n a):gE X n (.sortedRev fz i a):=fun sc e h=>Zav h fun t t' h0 h1 h2 h3=>Zaf h0 fun g1 g2 g3=>ZaK h1 fun y hy h1=>Zc6 K t rfl (by
 show SE X n sc _ (.Call (xu e).a (xu e).l (xu e).kw (xu e).p)
 rw [ZaG hy]
 refine ZaM (P:=fun b=>SE X n sc _ (.Call b [y] (xu e).kw (xu e).p)) t' rfl ?_
 exact Zma (G:=fun kw=>SE X n sc _ (.Call (.Name (xu (xu e).a).s (xu (xu e).a).p) [y] kw (xu e).p)) h2 fun k p kp=>ZjM K (Za0 K (of_decide_eq_true g1) g2 g3) (ha sc y h1).se h1)
theorem Zoh (fz:Bool)(i j:Nat)(a b:PE)(ha:gE X n a)(hb:gE X n b):gE X n (.sortedU fz i j a b):=fun sc e h=>Zaf h fun t hd h=>Zc6 K t rfl (ZdK t rfl▸ZlL (G:=fun e=>SE X n sc _ e) h fun x p q y g1 g2 g3 hy=>Zal hy fun t4 o h1 h2=>ZaM (P:=fun y=>SE X n sc _ (.Call (.Name x p) [y] [] q)) t4 rfl (by
 show SE X n sc _ (.Call (.Name x p) [.BinOp (xu y).a (xu y).o (xu y).b (xu y).p] [] q)
 rw [of_decide_eq_true o]
 refine ZlL (G:=fun l=>SE X n sc _ (.Call (.Name x p) [.BinOp l .BitOr (xu y).b (xu y).p] [] q)) h1 fun x1 p1 q1 y1 k1 k2 k3 hy1=>?_
 exact ZlL (G:=fun r=>SE X n sc _ (.Call (.Name x p) [.BinOp _ .BitOr r (xu y).p] [] q)) h2 fun x2 p2 q2 y2 l1 l2 l3 hy2=>Zmk (Za0 K g1 g2 g3) (Za0 K k1 k2 k3) (Za0 K l1 l2 l3) (ha sc y1 hy1).se hy1 (hb sc y2 hy2).se hy2 hd))
theorem Zoi (i j:Nat)(a:PE)(ha:gE X n a):gE X n (.lenSet i j a):=fun sc e h=>Zaf h fun t hd h=>Zc6 K t rfl (ZdK t rfl▸ZlL (G:=fun e=>SE X n sc _ e) h fun x p q y g1 g2 g3 hy=>ZlL (G:=fun l=>SE X n sc _ (.Call (.Name x p) [l] [] q)) hy fun x1 p1 q1 y1 k1 k2 k3 hy1=>Zmh (Za0 K g1 g2 g3) (Za0 K k1 k2 k3) (ha sc y1 hy1).se hy1 hd)
theorem Zi5 (fz:Bool)(o:PE)(m:Nat)(as:PEs)(ho:gE X n o)(ha:gEs X n as):gE X n (.meth fz o m as):=fun sc e h=>Zav h fun t t' h0 h1 h2 h3=>Zea h3 fun g1 g2 g3 g4 g5=>Zc6 K t rfl (by
 show SE X n sc _ (.Call (xu e).a (xu e).l (xu e).kw (xu e).p)
 refine ZaM (P:=fun b=>SE X n sc _ (.Call b (xu e).l (xu e).kw (xu e).p)) t' rfl ?_
 show SE X n sc _ (.Call (.Attribute (xu (xu e).a).a (xu (xu e).a).s (xu (xu e).a).p) (xu e).l (xu e).kw (xu e).p)
 rw [Zah g3,of_decide_eq_true h1]
 exact O.meth sc fz o m as _ _ _ _ (ho sc _ h0).se (ha sc _ h2).ls h2 g1 (Nat.le_of_ble_eq_true g2) (beq_iff_eq.mpr (Nat.eq_of_beq_eq_true g4)) g5)
end
theorem Zjf:gEs X n .nil:=fun sc es h=>by rw [Zah h]; exact ⟨Zc1,ZdV⟩
theorem ZgI (c:PE)(r:PEs)(hc:gE X n c)(hr:gEs X n r):gEs X n (.cons c r):=fun sc es h=>ZaK h fun x hx h=>Zan h fun h1 h2=>by
 have ih:=hr sc _ h2
 have hc:=(hc sc x h1).se
 rw [Zbn hx]
 refine ⟨ZcJ hc ih.ls, ?_⟩
 cases r with
 | nil=>rw [Zah h2]; exact ZdT hc
 | cons d r'=>
  refine ZaK h2 fun y hy ø=>?_
  have b:=ih.bo
  rw [Zbn hy] at b ⊢
  exact ZdF hc b
theorem Zgu:gO X n .none:=fun sc e h=>by rw [Zg1 h]; exact ZfQ
theorem ZfS (a:PE)(ha:gE X n a):gO X n (.some a):=fun sc e h=>ZaK h fun x hx h=>by rw [hx]; exact Zfu (ha sc x h).se
theorem t_e (a:PE)(ha:gE X n a):gT X n (.e a):=fun sc e h=>Zan h fun h0 h1=>(ha sc e h1).st h0
theorem Zmn (c:PC)(hc:gT X n c):gT X n (.not c):=fun sc e h=>Zaf h fun t o a=>ZaM (P:=ST X n sc _) t rfl (by
 show ST X n sc _ (.UnaryOp (xu e).u (xu e).a (xu e).p)
 rw [of_decide_eq_true o]; exact Zh0 (hc sc _ a))
theorem Zl1 (cs:PCs)(hc:gTs X n cs):gT X n (.and cs):=fun sc e h=>Zaf h fun t o a=>ZaM (P:=ST X n sc _) t rfl (by
 show ST X n sc _ (.BoolOp (xu e).bo (xu e).l (xu e).p)
 rw [of_decide_eq_true o]; exact Zil (hc sc _ a))
theorem Zob (cs:PCs)(hc:gTs X n cs):gT X n (.or cs):=fun sc e h=>Zaf h fun t o a=>ZaM (P:=ST X n sc _) t rfl (by
 show ST X n sc _ (.BoolOp (xu e).bo (xu e).l (xu e).p)
 rw [of_decide_eq_true o]; exact Zj9 (hc sc _ a))
theorem Zjd:gTs X n .nil:=fun sc es h=>by rw [Zah h]; exact ZeG
theorem Zf9 (c:PC)(r:PCs)(hc:gT X n c)(hr:gTs X n r):gTs X n (.cons c r):=fun sc es h=>ZaK h fun x hx h=>Zan h fun h1 h2=>by
 rw [Zbn hx]; exact Zef (hc sc x h1) (hr sc _ h2)
theorem Zjt:gC X n .none:=fun sc es h=>by rw [Zah h]; exact Zgc
theorem Zjo (c:PC)(hc:gT X n c):gC X n (.some c):=fun sc es h=>ZaK h fun x hx h=>by rw [ZaG hx]; exact Zgo (hc sc x h)
theorem ZoJ {p:PE}(h:∀sc e,chkE X.ck sc p e=false):gE X n p:=fun sc e q=>by rw [h] at q; cases q
section
variable (K:CxOk X)(O:Objs X n)
include K O
theorem sndE (p:PE):gE X n p:=
 PE.rec (motive_1:=gE X n) (motive_2:=gEs X n) (motive_3:=gO X n) (motive_4:=fun ø=>True) (motive_5:=gT X n) (motive_6:=gTs X n) (motive_7:=gC X n)
  (ZlJ K) (ZlR K) (Zi4 K) (Zja K O) (Zlk K) (ZlN K) (Zli K) (Zje K) (Zjq K) (Zl4 K) (Zof K) (Zmo K) (Zjp K) (Zmz K) (fun kvs ø=>Zjn K kvs) (ZmB K) (Zoc K) (Zmj K) (Zjj K O) (Zm7 K O) (Zoh K O) (Zoi K O) (Zi5 K O) (Zju K)
  Zjf ZgI Zgu ZfS trivial (fun ø ø ø ø ø ø=>trivial) t_e Zmn Zl1 Zob Zjd Zf9 Zjt Zjo p
theorem sndT (p:PC):gT X n p:=
 PC.rec (motive_1:=gE X n) (motive_2:=gEs X n) (motive_3:=gO X n) (motive_4:=fun ø=>True) (motive_5:=gT X n) (motive_6:=gTs X n) (motive_7:=gC X n)
  (ZlJ K) (ZlR K) (Zi4 K) (Zja K O) (Zlk K) (ZlN K) (Zli K) (Zje K) (Zjq K) (Zl4 K) (Zof K) (Zmo K) (Zjp K) (Zmz K) (fun kvs ø=>Zjn K kvs) (ZmB K) (Zoc K) (Zmj K) (Zjj K O) (Zm7 K O) (Zoh K O) (Zoi K O) (Zi5 K O) (Zju K)
  Zjf ZgI Zgu ZfS trivial (fun ø ø ø ø ø ø=>trivial) t_e Zmn Zl1 Zob Zjd Zf9 Zjt Zjo p
theorem sndO (p:PEo):gO X n p:=by
 cases p with
 | none=>exact Zgu
 | some a=>exact ZfS a (sndE K O a)
end
end
section
noncomputable def gS (X:Cx)(n:Nat)(p:PS):Prop:=∀(sc:Sc) (e:Stmt),chkS X.ck sc p e=true->S1 X n sc p e
noncomputable def gSs (X:Cx)(n:Nat)(p:PSs):Prop:=∀(sc:Sc) (es:List Stmt),chkSs X.ck sc p es=true->SS X n sc p es
theorem Zcf {P:Stmt->Prop}{e:Stmt}{k:Nat}(t:sg e k=true)(hk:Nat.ble 1 k=true)(h:P (sback (su e) k)):P e:=@Eq.subst Stmt P _ _ (Znx t hk).symm h
theorem Znc {c:Ck}{sc:Sc}{i:Nat}{e:Expr}{G:Prop}(h:chkNm c sc i e=true)(g:e=.Name (c.nm i) (xu e).p->(xu e).s=c.nm i->kStore sc (c.nm i)=true->G):G:=Zaf h fun t a b=>
 have a:=of_decide_eq_true a
 g ((ZdK t rfl).trans (congrArg (Expr.Name · (xu e).p) a)) a (a▸b)
section
variable (K:CxOk X)(O:Objs X n)
include K O
theorem ZlE (a:PE):gS X n (.expr a):=fun sc e h=>Zaf h fun t h1 h2=>Zcf t rfl (Zic (sndE K O a sc _ h1).se h2)
theorem Zlp:gS X n .pass:=fun sc e h=>Zcf h rfl Zir
theorem ZiJ (t:PT)(a:PE):gS X n (.assign t a):=fun sc e h=>Zan h fun tt h=>ZaK h fun y hy h=>Zaf h fun h1 h2 h9=>Zcf tt rfl (by
 show S1 X n sc _ (.Assign (su e).l (su e).a (su e).p)
 rw [ZaG hy]
 cases t with
 | loc i=>exact Znc h1 fun e1 e2 hk=>e1▸(sndE K O a sc _ h2).as i _ _ _ rfl hk
 | attr o m=>
  refine Zaf h1 fun t h3 h4=>ZaM (P:=fun y=>S1 X n sc _ (.Assign [y] (su e).a (su e).p)) t rfl ?_
  show S1 X n sc _ (.Assign [.Attribute (xu y).a (xu y).s (xu y).p] (su e).a (su e).p)
  rw [of_decide_eq_true h3]
  exact O.asgA sc o a m _ _ _ _ (sndE K O a sc _ h2).se (sndE K O o sc _ h4).se
 | idx o i=>exact Zaf h1 fun t h3 h4=>ZaM (P:=fun y=>S1 X n sc _ (.Assign [y] (su e).a (su e).p)) t rfl (ZcO (sndE K O a sc _ h2).se (sndE K O o sc _ h3).se (sndE K O i sc _ h4).se)
 | tup is=>exact Zal h1 fun t ø h3 h4=>Zan h9 fun g1 g2=>ZaM (P:=fun y=>S1 X n sc _ (.Assign [y] (su e).a (su e).p)) t rfl (ZcQ K (sndE K O a sc _ h2).se h3 h4 (ZbI h2).1 g2 (Bool.not_eq_true' _▸g1)))
theorem Zlz (i:Nat)(op:BOp)(a:PE):gS X n (.augLoc i op a):=fun sc e h=>Zav h fun t h1 h2 h3 h4 h5=>Zcf t rfl (by
 show S1 X n sc _ (.AugAssign (su e).a (su e).o (su e).b (su e).p)
 refine Znc h1 fun e1 e2 hk=>?_
 rw [e2] at h2 h3
 rw [e1,of_decide_eq_true h4]
 exact O.augL sc i op a _ _ _ (sndE K O a sc _ h5).se hk h2 h3)
theorem Zmc (o:PE)(m:Nat)(op:BOp)(a:PE):gS X n (.augAttr o m op a):=fun sc e h=>Zav h fun t t' h1 h2 h3 h4=>Zcf t rfl (by
 show S1 X n sc _ (.AugAssign (su e).a (su e).o (su e).b (su e).p)
 rw [of_decide_eq_true h2]
 refine ZaM (P:=fun y=>S1 X n sc _ (.AugAssign y (opOf op) (su e).b (su e).p)) t' rfl ?_
 show S1 X n sc _ (.AugAssign (.Attribute (xu (su e).a).a (xu (su e).a).s (xu (su e).a).p) (opOf op) (su e).b (su e).p)
 rw [of_decide_eq_true h1]
 exact O.augA sc o a m op _ _ _ _ (sndE K O a sc _ h4).se (sndE K O o sc _ h3).se)
theorem ZnU (a:PEo):gS X n (.ret a):=fun sc e h=>Zan h fun t h=>Zcf t rfl (by
 show S1 X n sc _ (.Return (su e).o0 (su e).p)
 cases a with
 | none=>rw [Zg1 h]; exact Zd7
 | some a=>exact ZaK h fun x hx h=>hx▸Zku (sndE K O a sc x h).se)
theorem Zn1 (c:PC)(a b:PSs)(ha:gSs X n a)(hb:gSs X n b):gS X n (.ite c a b):=fun sc e h=>Zal h fun t h1 h2 h3=>Zcf t rfl (ZlP (sndT K O c sc _ h1) (ha sc _ h2) (hb sc _ h3))
theorem ZlT (ts:List Nat)(it:PE)(body:PSs)(hb:gSs X n body):gS X n (.loop ts it body):=fun sc e h=>Zav h fun t h1 h2 h3 h4 h5=>Zcf t rfl (by
 show S1 X n sc _ (.For (su e).a (su e).b (su e).b0 (su e).b1 (su e).p)
 rw [Zah h4]
 refine ZaK h1 fun j hj h1=>Znc h1 fun e1 e2 hk=>ZiK K (sndE K O it sc _ h2).se (hb sc _ h3) ?_ (ZbI h2).2 h5
 rw [ZaG hj,e1]
 exact ZiT K rfl hk)
theorem Zlm (g i x:Nat)(it:PE)(body:PSs)(hb:gSs X n body):gS X n (.loopEnum g i x it body):=fun sc e h=>nomatch (show false=true from h)
theorem Zkk (c:PC)(body:PSs)(hb:gSs X n body):gS X n (.while_ c body):=fun sc e h=>Zal h fun t h1 h2 h3=>Zcf t rfl (by
 show S1 X n sc _ (.While (su e).a (su e).b0 (su e).b1 (su e).p)
 rw [Zah h3]; exact Zhf (sndT K O c sc _ h1) (hb sc _ h2))
theorem Zkz (i:Nat)(a:PE):gS X n (.raise i a):=fun sc e h=>Zan h fun t h=>ZaK h fun x hx h=>Zaf h fun t1 t2 h=>ZaK h fun v hv h=>Zea h fun h1 h2 h3 h4 h5=>Zcf t rfl (by
 show S1 X n sc _ (.Raise (su e).o0 (su e).o1 (su e).p)
 rw [hx,Zg1 h4]
 refine ZaM (P:=fun y=>S1 X n sc _ (.Raise (some y) none (su e).p)) t1 rfl ?_
 show S1 X n sc _ (.Raise (some (.Call (xu x).a (xu x).l (xu x).kw (xu x).p)) none (su e).p)
 rw [ZaG hv,Zah h3]
 exact ZaM (P:=fun y=>S1 X n sc _ (.Raise (some (.Call y [v] [] (xu x).p)) none (su e).p)) t2 rfl (O.raise sc i a _ v _ _ _ h1 (sndE K O a sc v h2).se h2 h5))
theorem ZnH (body:PSs)(i:Nat)(as:Option Nat)(hh:PSs)(hb:gSs X n body)(hhh:gSs X n hh):gS X n (.try_ body i as hh):=fun sc e h=>Zan h fun t h=>ZaK h fun g hg h=>ZaK h fun x hx h=>Zan h fun t1 h=>ZaK h fun b0' hb0 h=>Zav h fun h1 h2 h3 h4 h5 h6=>Zan h5 fun h7 h8=>Zcf t rfl (by
 show S1 X n sc _ (.Try (su e).b0 (su e).hs (su e).b1 (su e).b2 (su e).p)
 have h3':=hhh ⟨sc.sc,false⟩ _ h3
 rw [Zbn hb0] at h3'
 rw [ZaG hg,Zah h7,Zah h8,ZlY g,hx,Zbn hb0]
 exact ZaM (P:=fun y=>S1 X n sc _ (.Try (su e).b0 [.ExceptHandler (some y) _ _ _] [] [] (su e).p)) t1 rfl (O.try_ sc body i as hh _ b0' _ _ _ _ _ _ h1 (hb sc _ h2) h3' h4 h6))
end
theorem Zm8:gSs X n .nil:=fun sc es h=>by rw [Zah h]; exact ZfN
theorem Zk6 (c:PS)(r:PSs)(hc:gS X n c)(hr:gSs X n r):gSs X n (.cons c r):=fun sc es h=>ZaK h fun x hx h=>Zan h fun h1 h2=>by
 rw [Zbn hx]; exact ZeJ (hc sc x h1) (hr sc _ h2)
theorem sndSs (K:CxOk X)(O:Objs X n)(p:PSs):gSs X n p:=
 PSs.rec (motive_1:=gS X n) (motive_2:=gSs X n) (ZlE K O) (Zlp K O) (ZiJ K O) (Zlz K O) (Zmc K O) (ZnU K O) (Zn1 K O) (ZlT K O) (Zlm K O) (Zkk K O) (Zkz K O) (ZnH K O) Zm8 Zk6 p
end
noncomputable def Hid (W:Wd)(H:Hp)(h₀:Heap)(e:Addr)(l:List Env)(a:Addr):Prop:=a=e\/a∈l.filterMap (·.frame)\/(h₀.get? a=none/\¬ Own W H a/\W.Z a=none)
structure Aft (W:Wd)(H:Hp)(h₀ h h':Heap)(e:Addr)(cls:Value)(l:List Env):Prop where
 same:∀b ob,h.get? b=some ob->¬ Hid W H h₀ e l b->h'.get? b=some ob
 fr:∀b ob,b∈l.filterMap (·.frame)->h.get? b=some ob->∃o',h'.get? b=some o'/\SameO ob o'
 fly:Fly W H h₀ h' e
 exc:∃oe vs,h'.get? e=some oe/\oe.cls=cls/\oe.data=.fields vs
section
variable {M:Model}{A:Around}{E:Value->Shared->Prop}{s:Shared}{W:Wd}{H:Hp}{h₀:Heap}{e:Addr}{env:Env}{outer:List Env}
theorem Zct {as:List Addr}{h:Heap}{l:List Env}(F:∀e∈l,FrAt W H h e)(hin:∀b∈l.filterMap (·.frame),b∈as):h.FunFrames (hideAll h as) l:=by
 induction l with
 | nil=>trivial
 | cons env r ih=>
  obtain ⟨kd,L,o,es,n,a,b,c,_⟩:=F env (.head _)
  exact ⟨kd,⟨L,o,a,hideAll_none _ (hin L (List.mem_filterMap.mpr ⟨env,.head _,a⟩)),b,fun vs q=>by rw [c] at q; cases q⟩,ih (fun e he=>F e (.tail _ he)) fun b hb=>hin b ((List.mem_filterMap.mp hb).elim fun e q=>List.mem_filterMap.mpr ⟨e,.tail _ q.1,q.2⟩)⟩
theorem ZiA {l:List Env}{h:Heap}(F:∀e∈l,FrAt W H h e):∀b,b∈l.filterMap (·.frame)->∃o es n,h.get? b=some o/\o.data=.dict es n/\¬ Own W H b/\W.Z b=none:=fun b hb=>by
 obtain ⟨e',he',q⟩:=List.mem_filterMap.mp hb
 obtain ⟨_,L',o,es,n,a,b',c,d,f⟩:=F e' he'
 rw [q] at a; cases a
 exact ⟨o,es,n,b',c,d,f⟩
theorem ZhH {cls a0:Value}{l:List Env}{as:List Addr}{h2':Heap}(R:RelH X W H s.heap)(there:∀a o,h₀.get? a=some o->∃o',s.heap.get? a=some o')(F:∀e∈l,FrAt W H s.heap e)(hin:∀a∈as,Hid W H h₀ e l a)(x:Heap.FlyingW (hideAll s.heap as) l e cls a0 h2')(u:s.heap.UpToSlots h2'):Aft W H h₀ s.heap h2' e cls l:=by
 have frOwn:=ZiA F
 obtain ⟨k1,_,_,oe,vs,T,oT,ts,he,⟨hc,h0⟩,hd,h1,hnT,hTe,hT,hdT,h3⟩:=x
 have fr:∀b ob,b∈l.filterMap (·.frame)->s.heap.get? b=some ob->∃o',h2'.get? b=some o'/\SameO ob o':=fun b ob hb hob=>by
  obtain ⟨o,es,n,q1,q2,_⟩:=frOwn b hb
  rw [hob] at q1; cases q1
  obtain ⟨sl,q⟩:=u b ob hob fun vs z=>by rw [q2] at z; cases z
  exact ⟨_,q,.inr ⟨⟨es,n,q2⟩,sl,rfl⟩⟩
 refine ⟨fun b ob hb hn=>k1 b ob (hideAll_get _ hb fun hm=>hn (hin b hm)),fr,⟨oe,vs,a0,he,hd,h0,.inr ⟨T,oT,ts,h1,hTe,hT,hdT,h3, ?_⟩⟩,oe,vs,he,hc,hd⟩
 cases hq:s.heap.get? T with
 | none=>
  refine ⟨?_,fun z=>?_, ?_⟩
  ·cases q:h₀.get? T with
   | none=>rfl
   | some o=>obtain ⟨o',z⟩:=there T o q; rw [hq] at z; cases z
  ·obtain ⟨o',z⟩:=R.own_there z; rw [hq] at z; cases z
  ·cases q:W.Z T with
   | none=>rfl
   | some o=>have:=R.z _ _ q; rw [hq] at this; cases this
 | some o=>
  have hm:T∈as:=by
   cases hd:decide (T∈as) with
   | true=>exact of_decide_eq_true hd
   | false=>have:=hideAll_get as hq (of_decide_eq_false hd); rw [hnT] at this; cases this
  rcases hin T hm with q | q | q
  ·exact absurd q hTe
  ·obtain ⟨o',z,zz⟩:=fr T o q hq
   obtain ⟨o2,es,n,q1,q2,_⟩:=frOwn T q
   rw [hq] at q1; cases q1
   rw [hT] at z; cases z
   rw [zz.data,q2] at hdT; cases hdT
  ·exact q
theorem hid1 {l:List Env}:∀a∈e::l.filterMap (·.frame),Hid W H h₀ e l a:=fun a ha=>by
 rcases List.mem_cons.mp ha with q | q
 ·exact .inl q
 ·exact .inr (.inl q)
theorem hid2 {l:List Env}{T:Addr}(y:h₀.get? T=none/\¬ Own W H T/\W.Z T=none):∀a∈e::T::l.filterMap (·.frame),Hid W H h₀ e l a:=fun a ha=>by
 rcases List.mem_cons.mp ha with q | q
 ·exact .inl q
 ·rcases List.mem_cons.mp q with q | q
  ·subst q; exact .inr (.inr y)
  ·exact .inr (.inl q)
theorem ZgC {L:Addr}{cls:Value}{Q:Unit->Shared->Prop}(R:RelH X W H s.heap)(there:∀a o,h₀.get? a=some o->∃o',s.heap.get? a=some o')(hfr:A.frames=some (env::outer))(hf:env.frame=some L)(F:∀e∈env::outer,FrAt W H s.heap e)
  (fl:Fly W H h₀ s.heap e) (hcls:∀oe,s.heap.get? e=some oe->oe.cls=cls) (hQ:∀h',Aft W H h₀ s.heap h' e cls (env::outer)->Q () { s with heap:=h' }):
  wpAny M A (noteFrame (.ref e) env) (fun ø s2'=>wpAny M A (setFlight (.ref e) none) Q E s2') E s:=by
 obtain ⟨oe,vs,a0,he,hd,h0,h1⟩:=fl
 have hc:=hcls oe he
 rcases h1 with h1 | ⟨T,oT,ts,h1,hTe,hT,hdT,h3,y⟩
 ·have FF:s.heap.FunFrames (hideAll s.heap (e::(env::outer).filterMap (·.frame))) (env::outer):=Zct (l:=env::outer) F fun b hb=>.tail _ hb
  have hkb:(hideAll s.heap (e::(env::outer).filterMap (·.frame))).StaysIn s.heap:=fun b o q=>of_hideAll _ q
  have hen:(hideAll s.heap (e::(env::outer).filterMap (·.frame))).get? e=none:=hideAll_none _ (.head _)
  unfold noteFrame
  simp only [hf]
  refine wpAny_bind (wpAny_field he hd h1 ?_)
  rw [if_neg (by decide)]
  refine wpAny_entryW hfr FF hf he hkb hen hd (Array.getElem?_eq_some_iff.mp h1).1 h0 fun h1' ⟨k1,k2,k3,k4⟩=>?_
  refine wpAny_landsW (s:={ s with heap:=h1' }) ⟨k1,hen,k2,k3⟩ fun h2' x u=>?_
  rw [hc] at x
  exact hQ _ (ZhH R there F hid1 x (Heap.UpToSlots.trans k4 u))
 ·have FF:s.heap.FunFrames (hideAll s.heap (e::T::(env::outer).filterMap (·.frame))) (env::outer):=Zct (l:=env::outer) F fun b hb=>.tail _ (.tail _ hb)
  have hkb:(hideAll s.heap (e::T::(env::outer).filterMap (·.frame))).StaysIn s.heap:=fun b o q=>of_hideAll _ q
  have hen:(hideAll s.heap (e::T::(env::outer).filterMap (·.frame))).get? e=none:=hideAll_none _ (.head _)
  have hTn:(hideAll s.heap (e::T::(env::outer).filterMap (·.frame))).get? T=none:=hideAll_none _ (.tail _ (.head _))
  refine wpAny_looks_onW hfr hf ⟨hkb,hen,FF,oe,vs,T,oT,ts,he,⟨hc,h0⟩,hd,h1,hTn,hTe,hT,hdT,h3⟩ fun h1' hh u1'=>?_
  exact wpAny_landsW (s:={ s with heap:=h1' }) hh fun h2' x u=>hQ _ (ZhH R there F (hid2 y) x (u1'.trans u))
theorem ZiH {l:List Env}{cls:Value}{Q:Unit->Shared->Prop}(R:RelH X W H s.heap)(there:∀a o,h₀.get? a=some o->∃o',s.heap.get? a=some o')(F:∀e∈l,FrAt W H s.heap e)
  (fl:Fly W H h₀ s.heap e) (hcls:∀oe,s.heap.get? e=some oe->oe.cls=cls) (hQ:∀h',Aft W H h₀ s.heap h' e cls l->Q () { s with heap:=h' }):
  wpAny M A (setFlight (.ref e) none) Q E s:=by
 obtain ⟨oe,vs,a0,he,hd,h0,h1⟩:=fl
 have hc:=hcls oe he
 rcases h1 with h1 | ⟨T,oT,ts,h1,hTe,hT,hdT,h3,y⟩
 ·unfold setFlight
  refine wpAny_bind (wpAny_field he hd h1 ?_)
  rw [if_neg (by decide)]
  exact wpAny_pure (hQ s.heap ⟨fun b ob q ø=>q,fun b ob ø q=>⟨ob,q,.refl ob⟩,⟨oe,vs,a0,he,hd,h0,.inl h1⟩,oe,vs,he,hc,hd⟩)
 ·have FF:s.heap.FunFrames (hideAll s.heap (e::T::l.filterMap (·.frame))) l:=Zct (l:=l) F fun b hb=>.tail _ (.tail _ hb)
  have hkb:(hideAll s.heap (e::T::l.filterMap (·.frame))).StaysIn s.heap:=fun b o q=>of_hideAll _ q
  have hen:(hideAll s.heap (e::T::l.filterMap (·.frame))).get? e=none:=hideAll_none _ (.head _)
  have hTn:(hideAll s.heap (e::T::l.filterMap (·.frame))).get? T=none:=hideAll_none _ (.tail _ (.head _))
  exact lands_againW ⟨hkb,hen,FF,oe,vs,T,oT,ts,he,⟨hc,h0⟩,hd,h1,hTn,hTe,hT,hdT,h3⟩ fun h2' x u=>hQ _ (ZhH R there F (hid2 y) x u)
theorem Aft.rel {h':Heap}{cls:Value}{l:List Env}{i k:Nat}{la:Addr×Addr}{c:Addr}(R:RelH X W H s.heap)(hi:H.get i=some (.exc k))(hl:W.φ i=some la)(hla:la.1=e)(hc:X.clA k=some c)(hcls:cls=.ref c)(F:∀e∈l,FrAt W H s.heap e)(a:Aft W H h₀ s.heap h' e cls l):RelH X W H h':=by
 have cell0:ExcCell X s.heap la k:=R.at_ hi hl
 have own_e:Own W H e:=⟨i,_,la,hi,hl,.inl hla.symm⟩
 have frOwn:∀b,b∈l.filterMap (·.frame)->¬ Own W H b/\W.Z b=none:=fun b hb=>by
  obtain ⟨e',he',q⟩:=List.mem_filterMap.mp hb
  obtain ⟨_,L',o,es,n,x1,x2,x3,x4,x5⟩:=F e' he'
  rw [q] at x1; cases x1
  exact ⟨x4,x5⟩
 refine ⟨fun b ob hz=>a.same b ob (R.z b ob hz) fun hd=>?_,R.base,fun j cj hj=>?_,R.off,R.sep,R.dom⟩
 ·rcases hd with q | q | q
  ·rw [q,R.off e own_e] at hz; cases hz
  ·rw [(frOwn b q).2] at hz; cases hz
  ·rw [q.2.2] at hz; cases hz
 ·obtain ⟨l',hl',cell⟩:=R.cell j cj hj
  by_cases hji:j=i
  ·subst hji
   have:l'=la:=Option.some.inj (hl'.symm.trans hl)
   subst this
   rw [hi] at hj; cases hj
   obtain ⟨oe,vs,q1,q2,q3⟩:=a.exc
   obtain ⟨_,_,_,_,hx,_,_,_,hl2⟩:=cell0
   exact ⟨l',hl,c,oe,vs,hc,hx,by rw [hla]; exact q1,q2.trans hcls,q3,hl2⟩
  ·obtain ⟨s1,s2,s3,s4⟩:=R.sep j i cj _ l' la hj hi hl' hl hji
   have nh:∀b,b=l'.1\/b=l'.2->¬ Hid W H h₀ e l b:=fun b hb hd=>by
    have ob:Own W H b:=⟨j,cj,l',hj,hl',hb⟩
    rcases hd with q | q | q
    ·rcases hb with r | r
     ·exact s1 (by rw [← r,q,hla])
     ·exact s3 (by rw [← r,q,hla])
    ·exact (frOwn b q).1 ob
    ·exact q.2.1 ob
   exact ⟨l',hl',cell.keeps (.refl _) (fun o q=>a.same _ _ q (nh _ (.inl rfl))) fun o q=>a.same _ _ q (nh _ (.inr rfl))⟩
theorem Stp.post {Pv:Addr->Prop}{W0':Wd}{H₀:Hp}{h h':Heap}(S:Stp Pv W0' H₀ h₀ W H h)(k:∀b,(∃o,h₀.get? b=some o)->∀ob,h.get? b=some ob->∃o',h'.get? b=some o'/\(¬ Own W H b->SameO ob o')):Stp Pv W0' H₀ h₀ W H h' where
 le:=S.le
 keep:=fun a o ha no np=>by
  obtain ⟨o1',h1,q1⟩:=S.keep a o ha no np
  obtain ⟨o2',h2,q2⟩:=k a ⟨o,ha⟩ o1' h1
  exact ⟨o2',h2,q1.trans (q2 (S.own a o ha no))⟩
 own:=S.own
 znew:=S.znew
 there:=fun a o ha=>by
  obtain ⟨o1',h1⟩:=S.there a o ha
  obtain ⟨o2',h2,_⟩:=k a ⟨o,ha⟩ o1' h1
  exact ⟨o2',h2⟩
theorem Aft.stp {Pv:Addr->Prop}{W0':Wd}{H₀:Hp}{h h':Heap}{cls:Value}{l:List Env}(S:Stp Pv W0' H₀ h₀ W H h)(ho:Own W H e)(a:Aft W H h₀ h h' e cls l):Stp Pv W0' H₀ h₀ W H h':=
 S.post fun b hb ob hob=>by
  by_cases hd:Hid W H h₀ e l b
  ·rcases hd with q | q | q
   ·obtain ⟨oe,vs,q1,_⟩:=a.exc
    exact ⟨oe,by rw [q]; exact q1,fun z=>absurd (q▸ho) z⟩
   ·obtain ⟨o',q1,q2⟩:=a.fr b ob q hob
    exact ⟨o',q1,fun ø=>q2⟩
   ·obtain ⟨o,z⟩:=hb; rw [q.1] at z; cases z
  ·exact ⟨ob,a.same b ob hob hd,fun ø=>.refl ob⟩
theorem Aft.frr {h h':Heap}{cls:Value}{env':Env}{Pv:Pr}{loc:Loc}(F:FrR X W H h env' Pv loc)(hp:∀b,Pv.pv b->∃o,h₀.get? b=some o)(hcl:∀x c,env'.cells.lookup x=some c->∃o,h₀.get? c=some o)(ho:Own W H e)(a:Aft W H h₀ h h' e cls Pv.st):FrR X W H h' env' Pv loc:=by
 have key:∀b,¬ Own W H b->(∃o,h₀.get? b=some o)->∀o,h.get? b=some o->∃o',h'.get? b=some o'/\SameO o o':=fun b nb hb o hob=>by
  by_cases hd:Hid W H h₀ e Pv.st b
  ·rcases hd with q | q | q
   ·exact absurd (q▸ho) nb
   ·exact a.fr b o q hob
   ·obtain ⟨o,z⟩:=hb; rw [q.1] at z; cases z
  ·exact ⟨o,a.same b o hob hd,.refl o⟩
 have kp:∀b,Pv.pv b->∀o,h.get? b=some o->∃o',h'.get? b=some o'/\SameO o o':=fun b p=>key b (F.priv b p).1 (hp b p)
 have kc:∀x c,env'.cells.lookup x=some c->∀o,h.get? c=some o->∃o',h'.get? c=some o'/\SameO o o':=fun x c q=>key c (F.cellNs x c q).2.1 (hcl x c q)
 refine ⟨?_,fun i v e k=>?_,fun x ef e=>?_,F.cellEq,fun x c e=>?_,F.pvL,F.priv,fun b p=>?_,fun e he=>(F.frs e he).keep fun L o es n x1 x2 x3 x4 x5=>⟨?_,x4,x5⟩,F.frc⟩
 ·obtain ⟨m,hn,hv⟩:=F.ns
  exact ⟨m,Zep hn (kp _ F.pvL),hv⟩
 ·obtain ⟨c,cv,q,r,t⟩:=F.cells i v e k
  exact ⟨c,cv,q,ZbS r (kc _ _ q),t⟩
 ·obtain ⟨c,v,q,r,t⟩:=F.hasCell x ef e
  exact ⟨c,v,q,ZbS r (kc _ _ q),t⟩
 ·obtain ⟨p,q,ob,r⟩:=F.cellNs x c e
  obtain ⟨o',z,_⟩:=kc x c e ob r
  exact ⟨p,q,o',z⟩
 ·obtain ⟨o,r⟩:=F.pvAt b p
  obtain ⟨o',z,_⟩:=kp b p o r
  exact ⟨o',z⟩
 ·obtain ⟨o',z,q⟩:=a.fr L o (List.mem_filterMap.mpr ⟨e,he,x1⟩) x2
  exact ⟨o',es,n,z,q.data.trans x3⟩
end
end Mine
end
section
namespace Mine
open PySem PySem.W PySem.Calls PyProof.Rows
open Classical
section
theorem ZfR (names:List (Str×NameKind)):∀(k:Nat) (acc:List (Str×Addr)) (x:Str),((x,NameKind.cell)∈names\/∃c,acc.lookup x=some c)->∃c,(cellsFrom k names acc).lookup x=some c:=by
 induction names with
 | nil=>exact fun ø ø ø h=>h.elim (fun q=>(nomatch q)) id
 | cons p r ih=>
  intro k acc x h
  obtain ⟨y,kd⟩:=p
  unfold cellsFrom
  split
  ·refine ih (k+1) ((y,k)::acc) x ?_
   rcases h with h | ⟨c,h⟩
   ·rcases List.mem_cons.mp h with q | q
    ·cases q; exact .inr ⟨k,ZaL (beq_self_eq_true x)⟩
    ·exact .inl q
   ·cases hb:x==y with
    | true=>exact .inr ⟨k,ZaL hb⟩
    | false=>exact .inr ⟨c,(Zbc hb).trans h⟩
  ·rename_i hk
   refine ih k acc x (h.imp (fun h=>?_) id)
   rcases List.mem_cons.mp h with q | q
   ·cases q; exact absurd rfl hk
   ·exact q
structure BR (X:Cx)(W:Wd)(kd:Str->Option NameKind)(loc:Loc)(m cm:Str->Option Value):Prop where
 l:∀i v,loc i=some v->kd (X.nm i)=some .local->MmR X W m i v
 c:∀i v,loc i=some v->kd (X.nm i)≠some .local->MmR X W cm i v
theorem Zf6 {ps:List Nat}{p:Nat}{as:List V}{l0' l:Loc}{G:Prop}(h:bindP (p::ps) as l0'=some l)(g:∀a as',as=a::as'->bindP ps as' (upd l0' p a)=some l->G):G:=by
 cases as with
 | nil=>cases h
 | cons a as=>exact g a as rfl h
theorem Zd8 {as:List V}{l0' l:Loc}(h:bindP [] as l0'=some l):as=[]/\l=l0':=by
 cases as with
 | nil=>exact ⟨rfl,(Option.some.inj h).symm⟩
 | cons _ _=>cases h
theorem Zio (K:CxOk X){W:Wd}{kd:Str->Option NameKind}(ps:List Nat):∀(vs:List Value) (as:List V) (l0' l:Loc) (m cm:Str->Option Value),VRs X W vs as->bindP ps as l0'=some l->BR X W kd l0' m cm->BR X W kd l (PySem.bindL kd ((ps.map X.nm).zip vs) m) (PySem.bindC kd ((ps.map X.nm).zip vs) cm):=by
 induction ps with
 | nil=>
  intro vs as l0' l m cm hv hb h
  rw [(Zd8 hb).2]; exact h
 | cons p ps ih=>
  intro vs as l0' l m cm hv hb h
  refine Zf6 hb fun a as' e hb'=>?_
  subst e
  cases hv with
  | @cons v vs _ _ hv hvs=>
   have key:∀i u,upd l0' p a i=some u->(i=p/\u=a)\/(X.nm i≠X.nm p/\l0' i=some u):=fun i u e=>by
    have e':(if i=p then some a else l0' i)=some u:=e
    by_cases hi:i=p
    ·rw [if_pos hi] at e'; exact .inl ⟨hi,(Option.some.inj e').symm⟩
    ·rw [if_neg hi] at e'; exact .inr ⟨fun q=>hi (K.inj _ _ q),e'⟩
   refine ih vs as' (upd l0' p a) l _ _ hvs hb' ⟨fun i u e q=>?_,fun i u e q=>?_⟩
   ·rcases key i u e with ⟨rfl,rfl⟩ | ⟨ne,e⟩
    ·exact ⟨v,by rw [if_pos q,if_pos rfl],hv⟩
    ·obtain ⟨cv,a1,a2⟩:=h.l i u e q
     refine ⟨cv, ?_,a2⟩
     split
     ·exact (if_neg ne).trans a1
     ·exact a1
   ·rcases key i u e with ⟨rfl,rfl⟩ | ⟨ne,e⟩
    ·exact ⟨v,by rw [if_neg q,if_pos rfl],hv⟩
    ·obtain ⟨cv,a1,a2⟩:=h.c i u e q
     refine ⟨cv, ?_,a2⟩
     split
     ·exact a1
     ·exact (if_neg ne).trans a1
theorem Zhv (ps:List Nat):∀(as:List V) (l0' l:Loc),bindP ps as l0'=some l->as.length=ps.length:=by
 induction ps with
 | nil=>exact fun as l0' l h=>by rw [(Zd8 h).1]; rfl
 | cons p ps ih=>exact fun as l0' l h=>Zf6 h fun a as' e h=>by rw [e]; exact congrArg (·+1) (ih as' _ l h)
theorem RelH.fresh_no {W:Wd}{H:Hp}{h:Heap}(R:RelH X W H h){b:Addr}(hb:h.get? b=none):¬ Own W H b/\W.Z b=none:=by
 refine ⟨fun q=>(R.own_there q).elim fun ø e=>(by rw [hb] at e; cases e), ?_⟩
 cases q:W.Z b with
 | none=>rfl
 | some ob=>have:=R.z _ _ q; rw [hb] at this; cases this
noncomputable def callPv (fd:FuncData)(L a:Addr)(outer:List Env):Pr:=⟨fun b=>b=L\/∃x,(callEnvC fd L a).cells.lookup x=some b,callEnvC fd L a::outer⟩
section
variable {A:Around}{k:Nat}{a:Addr}{as:List V}{vs:List Value}{W:Wd}{H:Hp}{s:Shared}{d:Fn}{m:Loc}{q:Bool}{o:Obj}{fd:FuncData}{body:List Stmt}{outer:List Env}
theorem Ziv (K:CxOk X)(O:Objs X n)(A:Around)(k:Nat)(a:Addr)(as:List V)(vs:List Value)(W:Wd)(H:Hp)(s:Shared)(Q:V->Hp->Prop)(E:Nat->Hp->Prop)(hA:AOk A (n+1))(hq:A.handled=none\/X.quiet k=true)(hst:FrsAt A W H s.heap)(R:RelH X W H s.heap)(hv:VRs X W vs as)(ha:X.fnA k=some a)
  (h:need (X.P.fn k) fun d=>need (bindP d.params as fun ø=>none) fun m=>wpSs X.P (CW X.P n) d.body ⟨H,m⟩ (fun fl σ=>Q (retV fl) σ.H) fun e σ=>E e σ.H):codeAny (model X.prog X.w) A (.call (.ref a) ⟨vs,[]⟩) (CPost X W H s Q E) s:=by
 obtain ⟨outer,hfr,hfrs⟩:=hst
 refine Zab h fun d hd h=>Zab h fun m hm h=>?_
 obtain ⟨o,fd,body,F⟩:=K.fn k a d ha hd
 have hlen:vs.length=d.params.length:=by rw [hv.length]; exact Zhv _ _ _ _ hm
 have cs:∀(N:Nat) x,fd.scope.names.lookup x=some .cell->∃c,(cellsFrom N fd.scope.names []).lookup x=some c:=fun N x q=>ZfR _ _ _ _ (.inl (Zay q))
 refine codeAny_call_cells (by have:=hA.depth; exact la1 (la8 (Nat.le_of_lt this))) (R.bkeep _ _ F.at_) F.data (K.noLim.keeps R.bkeep) (F.code.keeps R.bkeep) F.body_ (F.bind vs hlen) F.clo (fun x hx=>?_) (fun s1' ic=>?_) F.co F.gen F.kind
 ·obtain ⟨i,hi,e⟩:=List.mem_map.mp (List.of_mem_zip (show (x.1,x.2)∈_ from hx)).1
  rw [← e]
  rcases Bool.or_eq_true_iff.mp (F.par i hi) with q | q
  ·exact .inl (Zd4 (sc:=⟨fd.scope,true⟩) (Nat.eq_of_beq_eq_true q) (by decide))
  ·have q:fd.scope.names.lookup (X.nm i)=some .cell:=Zd4 (sc:=⟨fd.scope,true⟩) (Nat.eq_of_beq_eq_true q) (by decide)
   exact (cs (s.heap.objs.size+1) _ q).elim fun c hc=>.inr ⟨q,by rw [hc]; rfl⟩
 generalize hL:s.heap.objs.size=L at ic ⊢
 have sn:∀b,L<=b->s.heap.get? b=none:=fun b hb=>Heap.get?_none_of_le (by rw [hL]; exact hb)
 obtain ⟨h1',tk,rfl,keep⟩:=ic.done
 have ab:∀x c,(callEnvC fd L a).cells.lookup x=some c->L < c:=fun x c q=>ic.above x c (Zay q)
 have pvN:∀b,(callPv fd L a outer).pv b->s.heap.get? b=none:=fun b hb=>hb.elim (fun q=>by rw [q]; exact sn L (Nat.le_refl _)) fun ⟨x,q⟩=>sn b (Nat.le_of_lt (ab x b q))
 have S0:Stp noPv W H s.heap W H h1':=.quiet (fun b ob e ø=>keep b ob e) fun b ob e=>⟨ob,keep b ob e⟩
 have br:=Zio K (kd:=(callEnvC fd L a).kindOf) d.params vs as (fun ø=>none) m (fun ø=>none) (fun ø=>none) hv hm ⟨fun i v e=>(by cases e),fun i v e=>(by cases e)⟩
 have kc:∀x,(callEnvC fd L a).kindOf x=some .cell->∃c,(callEnvC fd L a).cells.lookup x=some c:=fun x q=>cs (L+1) x q
 have kf:∀x,(callEnvC fd L a).kindOf x≠some .free:=fun x q=>F.free _ (Zay (show fd.scope.names.lookup x=some .free from q)) rfl
 have fr:FrR X W H h1' (callEnvC fd L a) (callPv fd L a outer) m:=by
  refine ⟨⟨_,ic.toInCall.ns,br.l⟩,fun i v e q=>?_,fun x ø q=>?_,fun x y c q q'=>name_of_addr ic.apart (Zay q) (Zay q'),fun x c q=>?_,.inl rfl,fun b hb=>R.fresh_no (pvN b hb),fun b hb=>?_,fun e he=>?_,fun x c q e he z=>?_⟩
  ·have q':(callEnvC fd L a).kindOf (X.nm i)=some .cell:=q.elim id fun z=>absurd z (kf _)
   obtain ⟨c,hc⟩:=kc _ q'
   obtain ⟨cv,h1,h2⟩:=br.c i v e (by rw [q']; intro z; cases z)
   have hcell:=ic.cell _ c hc
   rw [h1] at hcell
   exact ⟨c,cv,hc,hcell,h2⟩
  ·exact (kc _ q).elim fun c hc=>⟨c,_,hc,ic.cell _ c hc,.inr ⟨x,hc⟩⟩
  ·exact (ic.cell _ c q).elim fun ob ho=>⟨Nat.ne_of_gt (ab x c q),(R.fresh_no (pvN c (.inr ⟨x,q⟩))).1,ob,ho.1⟩
  ·rcases hb with rfl | ⟨x,q⟩
   ·obtain ⟨ob,_,_,ho,_⟩:=ic.toInCall.ns; exact ⟨ob,ho⟩
   ·exact (ic.cell _ b q).elim fun ob ho=>⟨ob,ho.1⟩
  ·rcases List.mem_cons.mp he with q | q
   ·subst q
    obtain ⟨ob,es,n',ho,hd',_⟩:=ic.toInCall.ns
    exact ⟨by show fd.scope.kind≠_; rw [F.kind]; decide,L,ob,es,n',rfl,ho,hd',R.fresh_no (sn L (Nat.le_refl _))⟩
   ·exact (hfrs e q).keep fun L' o es n' a b c d f=>⟨⟨o,es,n',keep _ _ b,c⟩,d,f⟩
  ·rcases List.mem_cons.mp he with r | r
   ·subst r
    exact Nat.ne_of_lt (ab x c q) (Option.some.inj (show some L=some c from z))
   ·obtain ⟨_,L',o,es,n',x1,x2,_⟩:=hfrs e r
    rw [z] at x1; cases x1
    rw [pvN c (.inr ⟨x,q⟩)] at x2; cases x2
 have hfr':(A.deeper (callEnvC fd L a)).frames=some (callEnvC fd L a::outer):=by show A.frames.map _=_; rw [hfr]; rfl
 have hs:∀hd',(hd'=true->A.handled=none)->chkSs X.ck ⟨fd.scope,hd'⟩ d.body body=true->_:=fun hd' hh' hck=>sndSs K O d.body ⟨fd.scope,hd'⟩ body hck (A.deeper (callEnvC fd L a)) (callEnvC fd L a) (callPv fd L a outer) W ⟨H,m⟩ { s with heap:=h1',toks:=tk } _ _
  ⟨hfr',fun ø=>⟨(fun z=>by cases z),outer,rfl⟩,⟨by have:=hA.depth; show A.depth+1+4 * n+6 < _; exact lk1 (la2 (Nat.le_refl _)) (lk1 (Nat.le_add_right _ _) this),by have:=hA.units; show A.units+3+20 * n+110 < _; lia⟩,hh',F.kind,F.glob,F.bi,fun x k q=>.inl q,fun x q=>q.elim (kc x) fun z=>absurd z (kf x)⟩ (by intro z; cases z) ⟨R.quiet (Pv:=noPv) (fun b ob e ø=>keep b ob e) fun ø z=>z.elim,fr⟩ h
 refine wpAny_mono (hq.elim (fun q=>hs true (fun ø=>q) F.chk) fun q=>hs false (fun z=>(Bool.false_ne_true z).elim) (F.chkq q)) (fun fl s' qq=>qq.e fun W' σ' T qq=>qq.e fun af hfr q=>?_) fun e s' x=>?_
 ·have Tc':Tc X W H s W' σ'.H s':=⟨S0.transFresh T.stp fun b hb=>.inl (pvN b hb),T.at_.rel,⟨T.rest.gens,T.rest.drawn,T.rest.os⟩⟩
  cases hfr with
  | ret hr=>exact ⟨W',σ'.H,_,Tc',hr,q⟩
  | _=>exact ⟨W',σ'.H,_,Tc',.none,q⟩
 ·obtain ⟨W',σ',i,l,k',T,rfl,hl,hg,fl,hE⟩:=x
  obtain ⟨c,o,vs',hc,_,ho,hcls,hdd,_⟩:=T.at_.rel.at_ hg hl
  unfold leaving
  refine wpAny_bind (ZgC (h₀:=h1') (cls:=.ref c) T.at_.rel T.stp.there hfr' rfl T.at_.fr.frs fl (fun oe q=>by rw [ho] at q; cases q; exact hcls) fun h' aft=>?_)
  exact ⟨W',σ'.H,i,l,k',⟨S0.transFresh (aft.stp T.stp ⟨i,_,l,hg,hl,.inl rfl⟩) fun b hb=>.inl (pvN b hb),aft.rel T.at_.rel hg hl rfl hc rfl T.at_.fr.frs,⟨T.rest.gens,T.rest.drawn,T.rest.os⟩⟩,rfl,hl,hg,aft.fly.back fun a o q=>⟨o,keep a o q⟩,hE⟩
end
theorem Zhm (K:CxOk X)(O:Objs X n):CallM X (n+1):=by
 intro A k a as vs W H s Q E hA hq hst R hv ha h
 change Fc (fun as H Q E=>need (X.P.fn k) fun d=>need (bindP d.params as fun ø=>none) fun m=>wpSs X.P (CW X.P n) d.body ⟨H,m⟩ (fun fl σ=>Q (retV fl) σ.H) fun e σ=>E e σ.H) as H Q E at h
 induction h generalizing vs W with
 | @run as H Q E h=>exact Ziv K O A k a as vs W H s Q E hA hq hst R hv ha h
 | @foc as H Q E js as₁ H₀ e hs h ih=>
  subst hs
  have hst':FrsAt A (W.part H H₀ js s.heap) H₀ s.heap:=by
   obtain ⟨l,e1,e2⟩:=hst
   exact ⟨l,e1,fun ev he=>(e2 ev he).keep fun L o es n a b c d f=>⟨⟨o,es,n,b,c⟩,fun z=>d (ownPart R e z).1,by
    show (if OutD W H H₀ js s.heap L then s.heap.get? L else W.Z L)=none
    rw [if_neg fun q=>d q.1.own]; exact f⟩⟩
  have hv':VRs X (W.part H H₀ js s.heap) vs as₁:=ZbN (fun a o z=>zPart R z) (fun i=>rfl) as₁ hv
  refine codeAny_mono (ih vs _ hst' (relPart R e) hv') fun r s' q=>?_
  cases r with
  | ok fl=>
   cases fl with
   | ret v=>
    obtain ⟨W1,H₁,av,T,r,q⟩:=q
    exact ⟨_,_,_,tcWhole R e T,vrWhole R e T r,q⟩
   | _=>exact q.elim
  | error x=>
   obtain ⟨W1,H₁,i,l,k',T,he,hl,hg,hf,q⟩:=q
   have hg':(mrg js H₀ H H₁).get (rho js H.next i)=some (.exc k'):=by
    rw [ZbU q.1]
    have li:i < H₁.next:=Zak hg
    rw [Zdv,if_pos (lh2 q.1 li)]
    show (match pos js H.next (H.next+(i - js.length)) with | some i=>mrgC (rho js H.next) (H₀.get i) (H₁.get i) _ | none=>_)=_
    rw [ZeB q.1]
    show mrgC (rho js H.next) (H₀.get i) (H₁.get i) _=_
    rw [hg]; rfl
   refine ⟨_,_,rho js H.next i,l,k',tcWhole R e T,he,phiW R e T hl,hg', ?_,q.2⟩
   obtain ⟨oe,ws,a0,x1,x2,x3,x4⟩:=hf
   refine ⟨oe,ws,a0,x1,x2,x3,x4.imp id fun y=>?_⟩
   obtain ⟨t,ot,ts,y1,y2,y3,y4,y5,y6,y7,y8⟩:=y
   refine ⟨t,ot,ts,y1,y2,y3,y4,y5,y6,fun z=>(ownW R e T z).elim (fun o=>by obtain ⟨_,w⟩:=R.own_there o.own; rw [y6] at w; cases w) y7, ?_⟩
   show (if OutD W H H₀ js s.heap t then none else W1.Z t)=none
   by_cases d:OutD W H H₀ js s.heap t
   ·rw [if_pos d]
   ·rw [if_neg d]; exact y8
theorem ZlM:CallM X 0:=fun A k a as vs W H s Q E hA hq hst R hv ha h=>h.elim
end
end Mine
end
section
namespace Mine
open PySem PySem.W PySem.Calls PyProof.Rows
theorem Zen {α:Type}{i n:Nat}{x:α}{r:List (Nat×α)}{G:Prop}{o:Option α}(h:lk ((i,x)::r) n=o)(g1:i=n->o=some x->G)(g2:i≠n->lk r n=o->G):G:=by
 have h:cond (Nat.beq i n) (some x) (lk r n)=o:=h
 cases e:Nat.beq i n with
 | true=>rw [e] at h; exact g1 (Nat.eq_of_beq_eq_true e) h.symm
 | false=>rw [e] at h; exact g2 (Nat.ne_of_beq_eq_false e) h
theorem Zbd {α:Type}{l:List (Nat×α)}{i:Nat}{v:α}(h:lk l i=some v):(i,v)∈l:=by
 induction l with
 | nil=>cases h
 | cons p r ih=>
  obtain ⟨j,u⟩:=p
  exact Zen h (fun e q=>by cases q; subst e; exact .head _) fun ø q=>.tail _ (ih q)
theorem Zel {i n:Nat}{x y:V}{r:List (Nat×V)}{P:List (Nat×V)->Prop}(g1:i=n->P ((i,x)::r))(g2:i≠n->P ((i,y)::st r n x)):P (st ((i,y)::r) n x):=by
 show P (cond (Nat.beq i n) ((i,x)::r) ((i,y)::st r n x))
 cases e:Nat.beq i n with
 | true=>exact g1 (Nat.eq_of_beq_eq_true e)
 | false=>exact g2 (Nat.ne_of_beq_eq_false e)
theorem Zjc (n:Nat)(x:V)(fs:List (Nat×V)):(st fs n x).length<=fs.length+1:=by
 induction fs with
 | nil=>exact Nat.le_refl _
 | cons p r ih=>
  obtain ⟨i,y⟩:=p
  exact Zel (P:=fun l=>l.length<=((i,y)::r).length+1) (fun ø=>Nat.le_succ _) fun ø=>Nat.succ_le_succ ih
theorem ZmV {n:Nat}{x:V}{fs:List (Nat×V)}{p:Nat×V}:p∈st fs n x->p.1=n\/∃q∈fs,q.1=p.1:=by
 induction fs with
 | nil=>exact fun h=>by cases List.mem_singleton.mp h; exact .inl rfl
 | cons q r ih=>
  obtain ⟨i,y⟩:=q
  refine Zel (P:=fun l=>p∈l->p.1=n\/∃q∈(i,y)::r,q.1=p.1) (fun e h=>?_) fun ø h=>?_
  ·rcases List.mem_cons.mp h with rfl | h
   ·exact .inl e
   ·exact .inr ⟨p,.tail _ h,rfl⟩
  ·rcases List.mem_cons.mp h with rfl | h
   ·exact .inr ⟨_,.head _,rfl⟩
   ·exact (ih h).imp id fun ⟨q,hq,e⟩=>⟨q,.tail _ hq,e⟩
section
variable {K:Frag}{W:Wd}
theorem ZgM {x:Str}{t:Tok}:(Value.str x t).isStr x=true:=beq_self_eq_true x
theorem ZfT {x y:Str}{t:Tok}(h:x≠y):(Value.str x t).isStr y=false:=beq_eq_false_iff_ne.mpr h
inductive Fnd (X:Cx)(W:Wd)(es:List DictEntry)(y:Str)(x:V):Prop
 | mk (e:DictEntry) (h:es.find? (fun d=>d.key.isStr y)=some e) (r:VR X W e.val x)
theorem FVs.find {n:Nat}(inj:∀i j,X.nm i=X.nm j->i=j){es:List DictEntry}{fs:List (Nat×V)}(h:FVs X W es fs):(∀x,lk fs n=some x->Fnd X W es (X.nm n) x)/\(lk fs n=none->es.find? (fun d=>d.key.isStr (X.nm n))=none):=by
 induction h with
 | nil=>exact ⟨fun ø e=>by (cases e),fun ø=>rfl⟩
 | @cons i hh t v x es fs a r ih=>
  refine ⟨fun y e=>Zen e (fun q z=>?_) fun q z=>?_,fun e=>Zen e (fun q z=>by cases z) fun q z=>?_⟩
  ·cases z; subst q; exact ⟨_,by rw [List.find?_cons,ZgM],a⟩
  ·obtain ⟨en,he,r⟩:=ih.1 y z
   exact ⟨en,by rw [List.find?_cons,ZfT fun w=>q (inj _ _ w)]; exact he,r⟩
  ·rw [List.find?_cons,ZfT fun w=>q (inj _ _ w)]; exact ih.2 z
theorem FVs.noRef {es:List DictEntry}{fs:List (Nat×V)}(h:FVs X W es fs):es.any (·.refKey)=false:=by
 induction h with
 | nil=>rfl
 | cons a r ih=>rw [List.any_cons,ih]; rfl
theorem FVs.put {n:Nat}{hsh:Int}{t:Tok}{v:Value}{x:V}(inj:∀i j,X.nm i=X.nm j->i=j)(hv:VR X W v x){es:List DictEntry}{fs:List (Nat×V)}(h:FVs X W es fs):FVs X W (putL (X.nm n) hsh (.str (X.nm n) t) v es) (st fs n x):=by
 induction h with
 | nil=>exact .cons hv .nil
 | @cons i hh t' v' x' es fs a r ih=>
  refine Zel (P:=FVs X W (putL (X.nm n) hsh (.str (X.nm n) t) v (⟨hh,.str (X.nm i) t',v'⟩::es))) (fun q=>?_) fun q=>?_
  ·subst q
   rw [putL,if_pos ZgM]; exact .cons hv r
  ·rw [putL,if_neg (fun z=>by rw [ZfT fun w=>q (inj _ _ w)] at z; cases z)]; exact .cons a ih
theorem FVs.len {es:List DictEntry}{fs:List (Nat×V)}(h:FVs X W es fs):es.length=fs.length:=by
 induction h with
 | nil=>rfl
 | cons a r ih=>exact congrArg (·+1) ih
structure Inst (X:Cx)(K:Frag)(W:Wd)(h:Heap)(l:Addr×Addr)(k:Nat)(fs:List (Nat×V))(c:Addr)(cl:Cl)(es:Array DictEntry)(n:Nat):Prop where
 ca:X.clA k=some c
 cl_:X.P.cls k=some cl
 ob:h.get? l.1=some (instO c l.2)
 dc:h.get? l.2=some (dictO es n)
 fv:FVs X W es.toList fs
 ne:l.2≠l.1
 at_:∀p∈fs,p.1∈cl.attrs
 sz:fs.length<=1000
 ok:ClAt X K c cl
 inn:K.In h
theorem Inst.of {H:Hp}{h:Heap}{i:Nat}{l:Addr×Addr}{k:Nat}{fs:List (Nat×V)}(C:ClsOk X K)(R:RelH X W H h)(hi:H.get i=some (.inst k fs))(hl:W.φ i=some l){G:Prop}(g:∀c cl es n,Inst X K W h l k fs c cl es n->G):G:=by
 obtain ⟨c,cl,es,n,a,a',b,d,f,ne,gg,z⟩:=R.at_ hi hl
 exact g c cl es n ⟨a,a',b,d,f,ne,gg,z,C.cls _ _ _ a a',fun x o q=>R.bkeep x o (C.inn x o q)⟩
theorem Inst.inst {h:Heap}{l:Addr×Addr}{k:Nat}{fs:List (Nat×V)}{c:Addr}{cl:Cl}{es:Array DictEntry}{n:Nat}(I:Inst X K W h l k fs c cl es n):InstAt h l.1 (instO c l.2) c (some (dictO es n)):=⟨I.ob,rfl,rfl,I.dc⟩
theorem ZeI (b:B):handedIn (bval b)=true:=by cases b <;> decide+kernel
theorem handed {v:Value}{x:V}(h:VR X W v x):handedIn v=true:=by
 cases h with
 | bt b=>exact ZeI b
 | _=>rfl
section
variable {A:Around}{H:Hp}{s:Shared}{E:Value->Shared->Prop}{l:Addr×Addr}{k:Nat}{fs:List (Nat×V)}{c:Addr}{cl:Cl}{es:Array DictEntry}{n:Nat}(inj:∀i j,X.nm i=X.nm j->i=j)(I:Inst X K W s.heap l k fs c cl es n)
include inj I
theorem ZjF {m:Nat}{x:V}{ex:Bool}{Q:Value->Shared->Prop}(e:lk fs m=some x)
  (h:∀v,VR X W v x->Q v { s with toks:=s.toks+1 }):wpAny (model X.prog X.w) A (getAttr (.ref l.1) (X.nm m) ex) Q E s:=by
 obtain ⟨en,he,hv⟩:=(I.fv.find inj (n:=m)).1 x e
 have hl:lookIn (X.nm m) (dictO es n)=some (some en.val):=by
  unfold lookIn
  simp only [he]
 exact get_value I.inn I.inst I.ok.ga (findObj_own I.ok.hd (I.ok.attr m (I.at_ _ (Zbd e))) rfl hl) (handed hv) (h _ hv)
theorem Zlc {m:Nat}(e:lk fs m=none):lookIn (X.nm m) (dictO es n)=some none:=by
 unfold lookIn
 simp only [(I.fv.find inj (n:=m)).2 e,I.fv.noRef]
 rfl
theorem Zk5 {m f:Nat}{pl:Sem Bool}{Q:Value×List Value->Shared->Prop}(e:lk cl.meths m=some f)
  (h:∀a,X.fnA f=some a->Q (.ref a,[.ref l.1]) s):wpAny (model X.prog X.w) A (getMethod (.ref l.1) (X.nm m) pl) Q E s:=by
 obtain ⟨a,ha,hf,ht⟩:=I.ok.meth m f e
 have hn:lk fs m=none:=by
  cases q:lk fs m with
  | none=>rfl
  | some x=>exact absurd (I.at_ _ (Zbd q)) (I.ok.dis m f e)
 exact method_fn I.inn I.inst I.ok.ga I.ok.gh hf ht (by show (lookIn _ _).map _=_; rw [Zlc inj I hn]; rfl) (h a ha)
theorem Zmq {m:Nat}{v:Value}{x:V}{tk:Tok}{R:Result->Shared->Prop}(hm:m∈cl.attrs)(hz:fs.length < 1000)(hv:VR X W v x)
  (h:∀h' es' n',h'.get? l.2=some (dictO es' n')->FVs X W es'.toList (st fs m x)->Heap.SameBut l.2 s.heap h'->R (.ok (.ret .none)) { s with heap:=h',toks:=s.toks+1 }):
  codeAny (model X.prog X.w) A (.call (.builtin "object.__setattr__") ⟨[.ref l.1,.str (X.nm m) tk,v],[]⟩) R s:=by
 have fi:=I.ok.attr m hm
 refine osa_open I.inn I.inst I.ok.po (r:=none) (by unfold takerIn; rw [fi]; rfl) fun b=>?_
 obtain ⟨cd,hc,hd'⟩:=any_some I.ok.hd
 refine wpAny_bind (wpAny_pure (wpAny_bind (wpAny_bind (wpAny_loadPart I.ob (wpAny_bind ((looks_clsIn I.inn hc).here ?_))))))
 rw [hd']
 refine wpAny_pure (a:=some l.2) (wpAny_bind (wpAny_pure (wpAny_bind ?_)))
 unfold nsSet
 refine wpAny_bind (wpAny_bind (wpAny_askSetting (wpAny_pure (wpAny_bind (wpAny_mkText (wpAny_bind (wpAny_loadPart I.dc ?_)))))))
 dsimp only
 have c0:(!es.any (·.key.isStr (X.nm m))&&es.any (·.refKey))=false:=by
  rw [← Array.any_toList (p:=fun d:DictEntry=>d.refKey),I.fv.noRef,Bool.and_false]
 rw [aRefKeyMayBeTheName_at,c0]
 have P:=putName_dict (X.nm m) (PyData.keyHash X.w.params (X.nm m)) (.str (X.nm m) s.toks) v es.toList n
 have F:=I.fv.put inj hv (n:=m) (hsh:=PyData.keyHash X.w.params (X.nm m)) (t:=s.toks)
 have e0:dictOf es.toList n=dictO es n:=rfl
 rw [e0] at P
 have D':(s.heap.update l.2 (Obj.putName (X.nm m) (PyData.keyHash X.w.params (X.nm m)) (.str (X.nm m) s.toks) v)).get? l.2=some (dictO (putL (X.nm m) (PyData.keyHash X.w.params (X.nm m)) (.str (X.nm m) s.toks) v es.toList).toArray (putN (X.nm m) es.toList n)):=by
  rw [Heap.get?_update_self _ I.dc (by rw [P]; rfl),P]
 refine wpAny_updatePart I.dc ?_
 refine wpAny_bind (wpAny_lookBehind D' (pastItsLine_dict ?_) ?_)
 ·rw [List.size_toArray,F.len,sizeLine_eq]
  have:=Zjc m x fs; exact lk2 this (Nat.succ_le_succ (li6 hz (Nat.le_of_ble_eq_true rfl)))
 ·exact wpAny_pure (h _ _ _ D' F ⟨Heap.size_update _ _ _,fun b hb=>Heap.get?_update_other _ _ (Ne.symm hb)⟩)
theorem ZmY {i m:Nat}{v:Value}{x:V}{Q:Unit->Shared->Prop}(R:RelH X W H s.heap)(hi:H.get i=some (.inst k fs))(hl:W.φ i=some l)(hm:m∈cl.attrs)(hz:fs.length < 1000)(hv:VR X W v x)
  (h:∀s',Tc X W H s W (H.set i (.inst k (st fs m x))) s'->Q () s'):wpAny (model X.prog X.w) A (setAttr (.ref l.1) (X.nm m) v) Q E s:=by
 refine set_plain I.inn I.inst I.ok.sa (Zmq (s:={ s with toks:=s.toks+1 }) inj ⟨I.ca,I.cl_,I.ob,I.dc,I.fv,I.ne,I.at_,I.sz,I.ok,I.inn⟩ hm hz hv fun h' es' n' hd hf hs=>?_)
 obtain ⟨r,t⟩:=R.upd (h':=h') (c':=.inst k (st fs m x)) hi hl (fun b ob e ø n2=>(hs.2 b n2).trans e)
  ⟨c,cl,es',n',I.ca,I.cl_,(hs.2 _ (Ne.symm I.ne)).trans I.ob,hd,hf,I.ne,fun p hp=>(ZmV hp).elim (fun e=>e▸hm) fun ⟨q,hq,e⟩=>e▸I.at_ q hq,Nat.le_trans (Zjc m x fs) hz⟩
 exact h _ ⟨t,r,⟨rfl,rfl,rfl⟩⟩
end
theorem Zgg {H:Hp}{cf:Value}{g:V}{k:Nat->Nat->List (Nat×V)->Prop}{G:Prop}(hg:VR X W cf g)(h:instK H g k)(q:∀i (l:Addr×Addr) (t:Nat×List (Nat×V)),cf=.ref l.1->W.φ i=some l->H.get i=some (.inst t.1 t.2)->k i t.1 t.2->g=.ref i->G):G:=
 Zab h fun i ei h=>Zab h fun t et h=>Zfd hg ei fun l e hl eg=>q i l t e hl (ZoC et) h eg
theorem Zie {sc:Sc}(K0:CxOk X)(C:ClsOk X K){e:PE}{m:Nat}{v:Expr}{pos:Pos}(he:SE X n sc e v)(hs:notSuper v=true):SE X n sc (.attr e m) (.Attribute v (X.nm m) pos):=by
 intro A env Pv W σ s Q E ok at_ h
 rw [arm_eval_Attribute,ZcX hs]
 refine he.bind ok at_ h fun cf W1 σ1 s1' g at1 ø hg h1'=>Ew.standAt (Zgg hg h1' fun i l t e hl hi h1' ø=>Zab h1' fun x hx hq=>Inst.of C at1.rel hi hl fun c cl es k' I=>?_)
 subst e
 exact wpAny_bind (wpAny_holding (ZjF K0.inj I hx fun v hv=>wpAny_bind (wpAny_letTemporaryGo (wpAny_pure (at1.val hv hq)))))
end
section
variable {K:Frag}{sc:Sc}
theorem Zfz {A:Around}{n:Nat}{c:Addr}{rest:List Value}{kw:List (Str×Value)}(h:AOk2 A n):AOk (A.under (.builtin "type.__call__" ⟨.ref c::rest,kw⟩)) n:=by
 have h1:=h.depth
 have h2:=h.units
 refine ⟨?_, ?_⟩
 ·show A.depth+(Code.builtin "type.__call__" ⟨.ref c::rest,kw⟩).weight+4 * n+4 < _
  rw [show (Code.builtin "type.__call__" ⟨.ref c::rest,kw⟩).weight=1 from rfl]; exact lk1 (la2 (Nat.le_refl _)) (lk1 (Nat.le_add_right _ _) h1)
 ·show A.units+(Code.builtin "type.__call__" ⟨.ref c::rest,kw⟩).cUnits+20 * n+100 < _
  rw [show (Code.builtin "type.__call__" ⟨.ref c::rest,kw⟩).cUnits=1 from rfl]; lia
theorem Zeh {A:Around}{c:Addr}{rest:List Value}{kw:List (Str×Value)}{l:List Env}(h:A.frames=some l):(A.under (.builtin "type.__call__" ⟨.ref c::rest,kw⟩)).frames=some l:=by
 show pushEnvs (Code.envs (.builtin "type.__call__" ⟨.ref c::rest,kw⟩)) A.frames=_
 rw [show Code.envs (.builtin "type.__call__" ⟨.ref c::rest,kw⟩)=[] from rfl,h]; rfl
theorem ZhI (K0:CxOk X)(C:ClsOk X K)(hK:CallM X n){fz:Bool}{m:Nat}{as:PEs}{v:Expr}{ap pos:Pos}{vs:List Expr}(has:SEs X n sc as vs)(hlen:vs.length<=20)(hline:(ap.endLine==pos.line)=true)(hap:(sc.hd || Nat.beq m X.P.nAppend)=true)
  (A:Around) (env:Env) (Pv:Pr) (W:Wd) (σ:St) (s:Shared) (Q:V->St->Prop) (E:EP) (i:Nat) (l:Addr×Addr) (k:Nat) (fs:List (Nat×V)) (ok:EnvOk X A env Pv n sc) (at_:At X env Pv W σ s) (hl:W.φ i=some l) (hgi:σ.H.get i=some (.inst k fs))
  (h:need (X.P.cls k) fun c=>need (lk c.meths m) fun f=>wpEs X.P (CW X.P n) E as σ fun vs σ2=>callF X.P (CW X.P n) E fz σ2 (.fn f) (.ref i::vs) Q):
  Ew X A env Pv (mcall X env m v ap pos vs l.1) W σ s (VQ X Q) E:=by
 refine Zab h fun cl hcl h=>Zab h fun f hf hw=>Inst.of C at_.rel hgi hl fun c cl' es k' I=>?_
 cases Option.some.inj (I.cl_.symm.trans hcl)
 have hpos:methodCallPos true v env ap pos=pure pos:=by unfold methodCallPos; simp [hline]
 have hh:A.handled=none:=by
  cases e:sc.hd with
  | true=>exact ok.hh e
  | false=>rw [e] at hap; rw [Nat.eq_of_beq_eq_true hap,K0.apC _ _ hcl] at hf; cases hf
 unfold mcall methodCall
 rw [Zc9 hlen]
 refine wpAny_bind (wpAny_holding (Zk5 K0.inj I hf fun a ha=>wpAny_bind (wpAny_of_eq hpos ?_)))
 obtain ⟨o,fd,ho,hd⟩:=K0.fnAt _ _ ha
 exact callWith_function (o:=o) (fd:=fd) (Zat has ok at_ hw fun cvs avs W' σ' s' T hv hq=>⟨⟨T.at_.rel.bkeep _ _ ho,hd⟩,Zf8 hK T ok.ok.call (.inl hh) ok.stk (cvs:=.ref l.1::cvs) (.cons (.ref (T.stp.le.ff _ _ hl)) hv) ha hq⟩)
theorem ZkE (K0:CxOk X)(C:ClsOk X K)(hK:CallM X n){A:Around}{env:Env}{Pv:Pr}{W:Wd}{σ:St}{s:Shared}{E:EP}{fz:Bool}{k:Nat}{c:Addr}{cvs:List Value}{avs:List V}{Q:V->St->Prop}(ok:AOk2 A n)(hhd:A.handled=none)(hst:A.frames=some Pv.st)(at_:At X env Pv W σ s)(hv:VRs X W cvs avs)(hc:X.clA k=some c)
  (h:callF X.P (CW X.P n) E fz σ (.cls k) avs Q):
  wpAny (model X.prog X.w) A (call (.ref c) cvs []) (Go X env Pv W σ s (VQ X Q)) (EX X env Pv W σ s E) s:=by
 refine Zab h fun cl hcl h=>Zab h fun f hf h=>?_
 have O:=C.cls k c cl hc hcl
 obtain ⟨a,ha,hfi,hft⟩:=O.init f hf
 have inn:K.In s.heap:=fun x o q=>at_.rel.bkeep x o (C.inn x o q)
 obtain ⟨hh,g,d,t,os⟩:=s
 have R:RelH X W σ.H hh:=at_.rel
 refine wpAny_call (make_core (makes_of inn O.mks) (looks_findIn inn hfi) (fun self=>bind_fn inn self hft) (.inl rfl) ?_)
 have k1:∀b o,hh.get? b=some o->((hh.push emptyDict).push (instObj c hh.objs.size)).get? b=some o:=fun b o e=>Heap.get?_push_of_some _ (Heap.get?_push_of_some _ e)
 have g1:((hh.push emptyDict).push (instObj c hh.objs.size)).get? (hh.objs.size+1)=some (instObj c hh.objs.size):=by
  have:=Heap.get?_push_size (hh.push emptyDict) (o:=instObj c hh.objs.size) rfl
  rwa [Heap.size_push] at this
 obtain ⟨r,t1⟩:=R.fresh (l:=(hh.objs.size+1,hh.objs.size)) (c:=.inst k []) k1 (Heap.get?_none_of_le (Nat.le_succ _)) (Zag _)
  ⟨c,cl,#[],0,hc,hcl,g1,Heap.get?_push_of_some _ (Heap.get?_push_size _ rfl),.nil,Nat.ne_of_lt (Nat.lt_succ_self _),fun ø q=>(List.not_mem_nil q).elim,Nat.zero_le _⟩
 have T:Tc X W σ.H ⟨hh,g,d,t,os⟩ (W.addφ σ.H.next (hh.objs.size+1,hh.objs.size)) (σ.H.new (.inst k [])) ⟨(hh.push emptyDict).push (instObj c hh.objs.size),g,d,t,os⟩:=⟨t1,r,⟨rfl,rfl,rfl⟩⟩
 have e:(W.addφ σ.H.next (hh.objs.size+1,hh.objs.size)).φ σ.H.next=some (hh.objs.size+1,hh.objs.size):=Zbh
 refine codeAny_mono (hK _ f a (.ref σ.H.next::avs) (.ref (hh.objs.size+1)::cvs) _ _ _ _ _ (Zfz ok) (.inl hhd) ⟨_,Zeh hst,fun e he=>(at_.fr.frs e he).keep fun L o es n x1 x2 x3 x4 x5=>⟨⟨o,es,n,k1 _ _ x2,x3⟩,t1.own L o x2 x4,x5⟩⟩ r (.cons (VR.ref e) (hv.le t1.le)) ha h) fun rr s' hr=>?_
 cases rr with
 | ok fl=>
  cases fl with
  | ret v=>
   obtain ⟨W',H',av,T',hv',q⟩:=hr
   cases vNone q.1
   cases hv'
   exact ⟨rfl,W',⟨H',σ.loc⟩,(T.trans T').tf at_,_,VR.ref (T'.stp.le.ff _ _ e),q.2⟩
  | _=>exact hr.elim
 | error e=>
  obtain ⟨W',H',i,l,k',T',he,hl,hg,hf,hE⟩:=hr
  exact ⟨W',⟨H',σ.loc⟩,i,l,k',(T.trans T').tf at_,he,hl,hg,hf.back fun a o q=>⟨o,k1 a o q⟩,hE⟩
theorem MayQ.cls {A:Around}{k:Nat}(h:MayQ X A (.cls k)):A.handled=none:=h.elim id fun q=>by cases q
theorem Zgt (K0:CxOk X)(C:ClsOk X K)(hK:CallM X n){c:Ck}{fz:Bool}{f:PE}{as:PEs}{x:Str}{p:Pos}{vs:List Expr}{pos:Pos}(hf:SE X n sc f (.Name x p))(hq:(sc.hd || qGlob X.ck f)=true)(has:SEs X n sc as vs)(hc:chkEs c sc as vs=true):SE X n sc (.call fz f as) (.Call (.Name x p) vs [] pos):=by
 intro A env Pv W σ s Q E ok at_ h
 rw [Zar,Zas hc]
 refine ZdY K0 hf hq ok at_ h fun cf W1 σ1 s1' g at1 hg hq h1'=>Zee K0 hK ok at1 has hg hq h1' fun k a e e' ha=>?_
 subst e e'
 cases hcl:X.P.cls k with
 | none=>exact Zda (Zat has ok at1 h1' fun cvs avs W' σ' s' T hv hq'=>Zab (o:=X.P.cls k) hq' fun cl e ø=>by rw [hcl] at e; cases e)
 | some cl=>exact callWith_of (P:=K.In) (by rw [ZaA]; rfl) (keeps_K (C.cls _ _ _ ha hcl).kp) (Zat has ok at1 h1' fun cvs avs W' σ' s' T hv hq'=>⟨fun x o q=>T.at_.rel.bkeep x o (C.inn x o q),
   wpAny_mono (ZkE K0 C hK ok.ok hq.cls ok.stk T.at_ hv ha hq') (fun v s'' q=>Go.from T q) fun ø ø x=>x.back T⟩)
end
section
variable {K:Frag}{sc:Sc}
theorem ZfF {x o:Expr}{a:Str}{p:Pos}{l:Nat}{env:Env}:swapsWith x (some (.Attribute o a p)) l env=pure false:=by
 cases x <;> rfl
theorem Zfr (K0:CxOk X)(C:ClsOk X K){A:Around}{env:Env}{Pv:Pr}{W:Wd}{σ:St}{s:Shared}{Ex:Value->Shared->Prop}{ov v:Value}{g x:V}{m:Nat}{Q:Unit->Shared->Prop}{q:St->Prop}(at_:At X env Pv W σ s)(ho:VR X W ov g)(hv:VR X W v x)
  (h:putA X.P g m x σ q) (hq:∀W' σ' s',Tf X env Pv W σ s W' σ' s'->q σ'->Q () s'):wpAny (model X.prog X.w) A (setAttr ov (X.nm m) v) Q Ex s:=
 Zgg ho h fun i l t e hl hi h ø=>Zab h fun cl hcl h=>Inst.of C at_.rel hi hl fun c cl' es k' I=>by
  subst e
  cases Option.some.inj (I.cl_.symm.trans hcl)
  exact ZmY K0.inj I at_.rel hi hl (List.contains_iff_mem.mp h.1) h.2.1 hv fun s' T=>hq _ ⟨_,σ.loc⟩ _ (T.tf at_) h.2.2
theorem Zcn (K0:CxOk X)(C:ClsOk X K){o e:PE}{m:Nat}{v x:Expr}{p pos:Pos}(he:SE X n sc e x)(ho:SE X n sc o v):S1 X n sc (.assign (.attr o m) e) (.Assign [.Attribute v (X.nm m) p] x pos):=fun A env Pv W σ s Q E ok hf at_ h=>
 plainObj_wpAny_Assign_Attribute (he.post ok at_ h fun cv W1 σ1 s1' x T1' hv h1'=>wpAny_mono (ho.post ok T1'.at_ h1' fun ov W2 σ2 s2' g T2 hg h2'=>
  Zfr K0 C (Q:=fun ø s'=>Go X env Pv W σ s (FQ X Q) PySem.Flow.next s') (Ex:=EX X env Pv W σ s E) T2.at_ hg (hv.le T2.stp.le) h2' fun W' σ' s' T hq=>((T1'.trans T2).trans T).flow .next hq) (fun ø ø q=>q) fun ø ø y=>y.back T1') ZfF
theorem Zjg {A:Around}{W:Wd}{s:Shared}{E:Value->Shared->Prop}{op:BOp}{a b:Value}{x y:V}{k:V->Prop}{Q:Value->Shared->Prop}(ha:VR X W a x)(hb:VR X W b y)(h:augK op x y k)
  (hq:∀v z tk,VR X W v z->k z->Q v { s with toks:=tk }):wpAny (model X.prog X.w) A (inplaceOp (opOf op) a b) Q E s:=by
 cases op with
 | add=>
  refine Zab h fun i ei h=>Zab h fun j ej h=>ZbJ ha ei fun t e=>ZbJ hb ej fun u e'=>?_
  subst e e'; exact PyProof.Rows.iadd_int (hq _ _ _ (.int _ _) h)
 | _=>exact h.elim
theorem Zes (K0:CxOk X){i:Nat}{op:BOp}{e:PE}{x:Expr}{p pos:Pos}(he:SE X n sc e x)(hk:kStore sc (X.nm i)=true)(hl:kLoc sc (X.nm i)=true)(hd:nDbg (X.nm i)=true):S1 X n sc (.augLoc i op e) (.AugAssign (.Name (X.nm i) p) (opOf op) x pos):=fun A env Pv W σ s Q E ok hf at_ h=>
 Zab h fun x ev h1'=>wpAny_AugAssign_Name (ZeL ok at_ hl hd ev fun a hx=>he.post ok at_ h1' fun b W2 σ2 s2' y T2 hy h2'=>
  Zjg (hx.le T2.stp.le) hy h2' fun v z tk hv hq=>ZbR K0 ok hf (T2.at_.toks (tk:=tk)) hk hv fun s'' T'=>((T2.trans (T2.at_.tf (tk:=tk))).trans T').flow .next hq)
theorem Zeg (K0:CxOk X)(C:ClsOk X K){o e:PE}{m:Nat}{op:BOp}{v x:Expr}{p pos:Pos}(he:SE X n sc e x)(ho:SE X n sc o v):S1 X n sc (.augAttr o m op e) (.AugAssign (.Attribute v (X.nm m) p) (opOf op) x pos):=fun A env Pv W σ s Q E ok hf at_ h=>
 wpAny_AugAssign_AttributeAny (ho.post ok at_ h fun ov W1 σ1 s1' g T1' hg h1'=>Zgg hg h1' fun i l t e hl hi h1' eg=>Zab h1' fun x hx h1'=>Inst.of C T1'.at_.rel hi hl fun c cl es k' I=>by
  subst e
  refine ZjF K0.inj I hx fun a ha=>?_
  have T2:=T1'.trans (T1'.at_.tf (tk:=s1'.toks+1))
  refine wpAny_mono (he.post ok T2.at_ h1' fun b W3 σ3 s3' y T3 hy h₃=>Zjg (Q:=fun v s'=>wpAny (model X.prog X.w) A (setAttr (.ref l.1) (X.nm m) v) (fun ø s'=>Go X env Pv W σ s (FQ X Q) PySem.Flow.next s') (EX X env Pv W σ s E) s') (ha.le T3.stp.le) hy h₃ fun v z tk hv hq=>
   Zfr K0 C (T3.at_.toks (tk:=tk)) (hg.le T3.stp.le) hv hq fun W' σ' s' T hq=>(((T2.trans T3).trans (T3.at_.tf (tk:=tk))).trans T).flow .next hq) (fun ø ø q=>q) fun ø ø y=>y.back T2)
end
section
variable {K:Frag}{sc:Sc}
theorem vCls {v:V}{k:Nat}(h:aCls v=some k):v=.cls k:=by cases v <;> first | (cases h; rfl) | cases h
theorem Zjh {W:Wd}{cv:Value}{k:Nat}(h:VR X W cv (.cls k)):∃c,cv=.ref c/\X.clA k=some c:=by cases h with | cls q=>exact ⟨_,rfl,q⟩
theorem Zjb {i:Nat}{y:Str}{G:Prop}(h:chkG X.ck sc i y=true)(g:y=X.nm i->kGlob sc y=true->nDbg y=true->G):G:=Zaf h fun a b c=>g (of_decide_eq_true a) b c
theorem Zj4 {H:Hp}{c:C}:(H.new c).get H.next=some c:=Hp.get_new.trans (if_pos rfl)
theorem Zf5 {P:Prog}{K:CT}{E:EP}{e:PE}{σ:St}{Q:St->Prop}(h:wpE P K E e σ fun ø σ1=>Q σ1):wpE P K E e σ fun v σ1=>([v]:List V).length=1/\Q σ1:=by
 have:(fun (v:V) (σ1:St)=>([v]:List V).length=1/\Q σ1)=fun ø σ1=>Q σ1:=by funext v σ1; exact propext ⟨fun h=>h.2,fun h=>⟨rfl,h⟩⟩
 rw [this]; exact h
theorem Zh5 {P:Prog}{K:CT}{E:EP}{e:PE}{σ:St}{Q:St->Prop}(h:wpE P K E e σ fun ø σ1=>Q σ1):wpEs P K E (.cons e .nil) σ fun avs σ2=>avs.length=1/\Q σ2:=Zf5 h
theorem Zhi (K0:CxOk X){i:Nat}{e:PE}{y:Str}{x:Expr}{np cpos pos:Pos}(hy:chkG X.ck sc i y=true)(he:SE X n sc e x)(hc:chkE X.ck sc e x=true)(hhd:sc.hd=true):S1 X n sc (.raise i e) (.Raise (some (.Call (.Name y np) [x] [] cpos)) none pos):=fun A env Pv W σ s Q E ok hf at_ h=>
 Zab h fun v hv h=>Zab h fun k ek h=>by
  cases vCls ek
  obtain ⟨hx,h⟩:=h
  have bp:=Zas (env:=env) (pos:=cpos) (p:=.cons e .nil) (es:=[x]) (show (chkE X.ck sc e x&&true)=true by rw [hc]; rfl)
  refine Zjb hy fun g1 g2 g3=>?_
  have hcl:∀cv,(∀W,VR X W cv (.cls k))->∃c,cv=.ref c/\X.clA k=some c:=fun cv q=>Zjh (q W)
  obtain ⟨c,hck⟩:∃c,X.clA k=some c:=by cases K0.glob i _ hv with
   | main cv mg ng h r=>exact (hcl cv r).elim fun c q=>⟨c,q.2⟩
   | bi cv mg mb ng nb h hb r=>exact (hcl cv r).elim fun c q=>⟨c,q.2⟩
  obtain ⟨bm,N,nm,q,bs,hdct,sn,sub,ab,col,dd,k0,k1,k2,k3,k5,mN,hC,hN,hni,hT,hsub⟩:=K0.exc k c hck hx
  refine wpAny_Raise_call_subT (nm:=nm) (q:=q) (C:=c) (N:=N) (bs:=bs) (hdct:=hdct) (sn:=sn) (sub:=sub) (ab:=ab) (col:=col) (dd:=dd) (k0:=k0) (k1:=k1) (k2:=k2) (k3:=k3) (k5:=k5) PySem.F.excBase_ValueError (hT.hasType (by decide)) (ok.hh hhd) (by rw [bp]; exact ZaA) hni (Zci K0 ok at_ g1 g2 g3 hv fun cv hcv=>?_)
  obtain ⟨c',rfl,hc'⟩:=hcl cv hcv
  cases Option.some.inj (hc'.symm.trans hck)
  refine ⟨rfl, ?_⟩
  rw [bp]
  refine wpAny_mono (Zat (E:=noE) (ZcJ he Zc1) ok at_ (Qv:=fun avs σ2=>avs.length=1/\E σ2.H.next (σ2.setH (σ2.H.new (.exc k)))) (Zh5 h) (Q:=fun a s2'=>Go X env Pv W σ s (fun (a:Args) _ σ2 _=>a.kw=[]/\a.pos.length=1/\E σ2.H.next (σ2.setH (σ2.H.new (.exc k)))) a s2') fun cvs avs W' σ' s' T hvs hq=>⟨W',σ',T,rfl,hvs.length.trans hq.1,hq.2⟩) (fun a s2' qq=>qq.e fun W2 σ2 T2 qq=>?_) fun ø ø z=>z.no.elim
  have kb:=T2.at_.rel.bkeep
  refine ⟨qq.1,by rw [qq.2.1,sizeLine_eq]; decide,kb _ _ hC,hN.keeps kb,hT.keeps kb,fun h' e hm=>?_⟩
  obtain ⟨t,m1,m2,m3⟩:=hm.there
  obtain ⟨r,st⟩:=T2.at_.rel.fresh (l:=(e,e)) (c:=.exc k) hm.keeps hm.new hm.new ⟨c,_,_,hck,hx,m1,rfl,rfl,rfl⟩
  have Tc3:Tc X W2 σ2.H s2' (W2.addφ σ2.H.next (e,e)) (σ2.H.new (.exc k)) { s2' with heap:=h' }:=⟨st,r,⟨rfl,rfl,rfl⟩⟩
  exact ⟨_,⟨_,σ2.loc⟩,σ2.H.next,(e,e),k,T2.trans (Tc3.tf T2.at_),rfl,Zbh,Zj4,⟨_,_,_,m1,rfl,rfl,.inl rfl⟩,qq.2.2⟩
theorem ZhR {A:Around}{E:Value->Shared->Prop}{W:Wd}{H:Hp}{s:Shared}{i j k:Nat}{l:Addr×Addr}{c':Addr}{Q:Bool->Shared->Prop}(K0:CxOk X)(R:RelH X W H s.heap)(hi:H.get i=some (.exc j))(hl:W.φ i=some l)(hk:X.P.exc k=true)(hc':X.clA k=some c')(hs:X.P.sub j k=true)(h:Q true s):
  wpAny (model X.prog X.w) A (excMatches (.ref l.1) (.ref c')) Q E s:=by
 obtain ⟨c,o,vs,hc,hj,he,hcls,hd,_⟩:=R.at_ hi hl
 obtain ⟨bm,N,nm,q,bs,hdct,sn,sub,ab,col,dd,k0,k1,k2,k3,k5,mN,hC,hN,hni,hT,hsub⟩:=K0.exc j c hc hj
 obtain ⟨bm',N',nm',q',bs',hdct',sn',sub',ab',col',dd',k0',k1',k2',k3',k5',mN',hC',hN',hni',hT',hsub'⟩:=K0.exc k c' hc' hk
 have gC:=R.bkeep _ _ hC
 have gC':=R.bkeep _ _ hC'
 have hcB:(Value.ref c'::bm').contains (.type "BaseException")=true:=by rw [List.contains_cons,hT'.hasType (X:="BaseException") (b:=true) (by decide),Bool.or_true]
 have hcC:(Value.ref c::bm).contains (.ref c')=true:=by rw [hsub k c' hc',hs]
 have f:=tc_notTuple
 obtain ⟨hh,g,d,t,os⟩:=s
 unfold excMatches
 repeat (first | (with_reducible refine wpAny_loadPart_at he ?_; rw [hcls]) | with_reducible refine wpAny_loadPart_at gC' ?_ | (with_reducible refine wpAny_isSubtype_exc gC' ?_; rw [hcB]) | (with_reducible refine wpAny_isSubtype_exc gC ?_; rw [hcC]) | wp_step)
 exact h
theorem FrR.unbind {W:Wd}{H:Hp}{h h':Heap}{env:Env}{Pv:Pr}{loc:Loc}{i:Nat}{u:Option Value}{m:Str->Option Value}(F:FrR X W H h env Pv loc)(hn:h.Ns env.locals m)
  (hm:∀j v,loc j=some v->env.kindOf (X.nm j)=some .local->MmR X W m j v) (hinj:∀j,X.nm j=X.nm i->j=i)
  (hk:env.kindOf (X.nm i)=some .local) (hn':h'.Ns env.locals (fun x=>if x=X.nm i then u else m x)) (hs:Heap.SameBut env.locals h h'):FrR X W H h' env Pv (unb loc i):=by
 have key:∀j v,unb loc i j=some v->j≠i/\loc j=some v:=fun j v e=>by
  have e':(if j=i then none else loc j)=some v:=e
  by_cases hj:j=i
  ·rw [if_pos hj] at e'; cases e'
  ·rw [if_neg hj] at e'; exact ⟨hj,e'⟩
 refine ⟨⟨_,hn',fun j v e k=>?_⟩,fun j v e k=>?_,fun x ef e=>?_,F.cellEq,fun x c e=>?_,F.pvL,F.priv,fun a p=>?_,fun e he=>(F.frs e he).keep fun L o es n a b c d f=>⟨?_,d,f⟩,F.frc⟩
 ·obtain ⟨cu,q,r⟩:=hm j v (key j v e).2 k
  exact ⟨cu,by rw [if_neg fun z=>(key j v e).1 (hinj j z)]; exact q,r⟩
 ·obtain ⟨c,cu,q,r,t⟩:=F.cells j v (key j v e).2 k
  exact ⟨c,cu,q,r.sameBut hs (F.cellNs _ _ q).1,t⟩
 ·obtain ⟨c,u,q,r,t⟩:=F.hasCell x ef e
  exact ⟨c,u,q,r.sameBut hs (F.cellNs _ _ q).1,t⟩
 ·obtain ⟨a,b,o,q⟩:=F.cellNs x c e
  exact ⟨a,b,o,(hs.2 c a).trans q⟩
 ·by_cases ha:a=env.locals
  ·subst ha; obtain ⟨o,_,_,ho,_⟩:=hn'; exact ⟨o,ho⟩
  ·obtain ⟨o,q⟩:=F.pvAt a p; exact ⟨o,(hs.2 a ha).trans q⟩
 ·by_cases ha:L=env.locals
  ·subst ha; obtain ⟨o',es',n',ho',hd',_⟩:=hn'; exact ⟨o',es',n',ho',hd'⟩
  ·exact ⟨o,es,n,(hs.2 L ha).trans b,c⟩
theorem Zgd {A:Around}{env:Env}{Pv:Pr}{W:Wd}{σ:St}{s:Shared}{Ex:Value->Shared->Prop}{Q:Unit->Shared->Prop}{i:Nat}{v:V}{pos:Pos}(K0:CxOk X)(ok:EnvOk X A env Pv n sc)(at_:At X env Pv W σ s)(hk:env.kindOf (X.nm i)=some .local)(hv:σ.loc i=some v)
  (h:∀s',Tf X env Pv W σ s W ⟨σ.H,unb σ.loc i⟩ s'->Q () s'):wpAny (model X.prog X.w) A (unbindBehindTheSuite env (X.nm i) pos) Q Ex s:=by
 obtain ⟨m,hn,hm⟩:=at_.fr.ns
 obtain ⟨cv,hcv,_⟩:=hm i v hv hk
 unfold unbindBehindTheSuite
 exact wpAny_onRaise (wpAny_unbindName_local hk hn hcv (ZmU ok) fun h' u hn' hs=>h _ (Zdp at_ at_.fr.pvL hs (hn'.elim fun o q=>⟨o,q.elim fun ø q=>q.elim fun ø q=>q.1⟩) (at_.fr.unbind hn hm (fun j q=>K0.inj _ _ q) hk hn' hs)))
theorem ZjN {σ:St}{a:Nat}{v:V}:(⟨(σ.put a v).H,unb (σ.put a v).loc a⟩:St)=⟨σ.H,unb σ.loc a⟩:=by
 show (⟨σ.H,unb (upd σ.loc a v) a⟩:St)=⟨σ.H,unb σ.loc a⟩
 congr 1
 funext z
 show (if z=a then none else (if z=a then some v else σ.loc z))=(if z=a then none else σ.loc z)
 by_cases hz:z=a
 ·rw [if_pos hz,if_pos hz]
 ·rw [if_neg hz,if_neg hz,if_neg hz]
theorem Zhr (K0:CxOk X){A:Around}{env:Env}{Pv:Pr}{W W1:Wd}{σ σ1:St}{s s2':Shared}{Q:Flow->St->Prop}{E:EP}{h:PSs}{as:Option Nat}{b0':Stmt}{hs:List Stmt}{nm:Option Str}{hpos:Pos}{j:Nat}{l:Addr×Addr}{R:Result->Shared->Prop}(hh:SS X n ⟨sc.sc,false⟩ h (b0'::hs))(has:asOk X.ck sc as nm=true)(ok:EnvOk X A env Pv n sc)(hf:env.func≠none)(hl:W1.φ j=some l)
  (again:∀(Q':Unit->Shared->Prop) (E':Value->Shared->Prop),(∀s3',Tf X env Pv W σ s W1 σ1 s3'->Q' () s3')->wpAny (model X.prog X.w) (A.mark (some (.ref l.1))) (setFlight (.ref l.1) none) Q' E' s2')
  (hw:wpSs X.P (CW X.P n) h (asPut as j σ1) (fun fl σ2=>Q fl (asUnb as σ2)) noE) (hR:∀f s',(match nm with | none=>Go X env Pv W σ s (FQ X Q) f s' | some n=>wpAny (model X.prog X.w) A (do bindName env n Value.none; unbindBehindTheSuite env n hpos) (fun ø s3'=>Go X env Pv W σ s (FQ X Q) f s3') (EX X env Pv W σ s E) s')->R (.ok f) s'):
  codeAny (model X.prog X.w) (A.mark (some (.ref l.1))) (.handlers (.ref l.1) [.ExceptHandler none nm (b0'::hs) hpos] env) R s2':=by
 have okH:EnvOk X (A.mark (some (.ref l.1))) env Pv n ⟨sc.sc,false⟩:=⟨ok.stk,ok.top,⟨ok.ok.depth,ok.ok.units⟩,(fun z=>(Bool.false_ne_true z).elim),ok.kind,ok.glob,ok.bi,ok.names,ok.cl⟩
 cases as with
 | none=>
  cases (Zg1 has:nm=none)
  exact codeAny_handlers_suite (again _ _ fun s3' T3=>wpAny_mono (hh _ env Pv W1 σ1 s3' _ noE okH hf T3.at_ hw) (fun f s4' q=>hR f s4' (Go.from T3 q)) fun ø ø z=>z.no.elim)
 | some a=>
  refine ZaK has fun x hx' has=>Zan has fun e1 e2=>?_
  cases (hx':nm=some x)
  cases (of_decide_eq_true e1:x=X.nm a)
  have hkl:=Zb7 ok e2
  refine codeAny_handlers_suite_as (again _ _ fun s3' T3=>ZaJ K0 okH T3.at_ hkl (VR.ref hl) fun s4' T4=>wpAny_mono (hh _ env Pv W1 _ s4' _ noE okH hf T4.at_ hw) (fun f s5 q=>q.e fun W5 σ5 T5 q=>q.e fun af hfr q=>?_) fun ø ø z=>z.no.elim)
  refine hR f s5 (wpAny_bind (wpAny_bindName (ZaJ K0 ok T5.at_ hkl .none fun s6 T6=>?_)))
  refine Zgd K0 ok T6.at_ hkl (v:=.none) (if_pos rfl) fun s7 T7=>?_
  rw [ZjN] at T7
  exact ((((T3.trans T4).trans T5).trans T6).trans T7).flow hfr q
theorem Zkb (K0:CxOk X){body h:PSs}{i:Nat}{as:Option Nat}{b:List Stmt}{b0':Stmt}{hs:List Stmt}{y:Str}{np:Pos}{nm:Option Str}{hpos pos:Pos}(hy:chkG X.ck sc i y=true)(hb:SS X n sc body b)(hh:SS X n ⟨sc.sc,false⟩ h (b0'::hs))(has:asOk X.ck sc as nm=true)(hhd:sc.hd=true):
  S1 X n sc (.try_ body i as h) (.Try b [.ExceptHandler (some (.Name y np)) nm (b0'::hs) hpos] [] [] pos):=fun A env Pv W σ s Q E ok hf at_ hw=>
 Zab hw fun v hv hw=>Zab hw fun k ek hw=>by
  cases vCls ek
  refine wpAny_Try_except (wpAny_mono (hb A env Pv W σ s Q _ ok hf at_ hw) (fun fl s1' qq=>qq.e fun W1 σ1 T qq=>qq.e fun af hfr q=>?_) fun e s1' x=>?_)
  ·cases hfr with
   | next=>exact wpAny_execs_nil (T.flow .next q)
   | brk=>exact T.flow .brk q
   | cont=>exact T.flow .cont q
   | ret hr=>exact T.flow (.ret hr) q
  ·obtain ⟨W1,σ1,j,l,m,T,rfl,hl,hg,fl,hE⟩:=x
   rw [hg] at hE
   obtain ⟨hk,hsb,hw⟩:=hE
   obtain ⟨c,o,vs,hc,hx,ho,hcls,hdd,_⟩:=T.at_.rel.at_ hg hl
   have own_e:Own W1 σ1.H l.1:=⟨j,_,l,hg,hl,.inl rfl⟩
   obtain ⟨hfrm,outer,hst⟩:=ok.top hf
   obtain ⟨L,hL⟩:∃L,env.frame=some L:=by cases q:env.frame with | none=>exact absurd q hfrm | some L=>exact ⟨L,rfl⟩
   have hc0:∀x c,env.cells.lookup x=some c->∃o,s.heap.get? c=some o:=fun x c q=>(at_.fr.cellNs x c q).2.2
   have post:∀{s2':Shared} {h1':Heap},Tf X env Pv W σ s W1 σ1 s2'->Aft W1 σ1.H s.heap s2'.heap h1' l.1 (.ref c) Pv.st->Tf X env Pv W σ s W1 σ1 { s2' with heap:=h1' }:=fun T a=>⟨a.stp T.stp own_e,⟨a.rel T.at_.rel hg hl rfl hc rfl T.at_.fr.frs,a.frr T.at_.fr at_.fr.pvAt hc0 own_e⟩,⟨T.rest.gens,T.rest.drawn,T.rest.os⟩⟩
   refine ZgC (h₀:=s.heap) (cls:=.ref c) T.at_.rel T.stp.there (by rw [ok.stk,hst]) hL (hst▸T.at_.fr.frs) fl (fun oe q=>by rw [ho] at q; cases q; exact hcls) fun h1' a1'=>?_
   rw [← hst] at a1'
   have T2:=post T a1'
   have okH:EnvOk X (A.mark (some (.ref l.1))) env Pv n ⟨sc.sc,false⟩:=⟨ok.stk,ok.top,⟨ok.ok.depth,ok.ok.units⟩,(fun z=>(Bool.false_ne_true z).elim),ok.kind,ok.glob,ok.bi,ok.names,ok.cl⟩
   refine Zjb hy fun g1 g2 g3=>wpAny_handleBy_cons (codeAny_handlers_test (Zci K0 okH T2.at_ g1 g2 g3 hv fun cv hcv=>?_)) (by intro q; cases q)
   obtain ⟨c',rfl,hc'⟩:=Zjh (hcv W1)
   refine ZhR K0 T2.at_.rel hg hl hk hc' hsb (Zhr K0 hh has ok hf hl (fun Q' E' hQ'=>?_) hw fun f s' q=>q)
   refine ZiH (s:={ s1' with heap:=h1' }) (h₀:=s.heap) (cls:=.ref c) T2.at_.rel T2.stp.there T2.at_.fr.frs a1'.fly (fun oe q=>?_) fun h2' a2'=>hQ' _ (post T2 a2')
   obtain ⟨oe',vs',q1,q2,_⟩:=a1'.exc
   have q:h1'.get? l.1=some oe:=q
   rw [q1] at q; cases q; exact q2
theorem objs1 (K0:CxOk X)(C:ClsOk X K)(hK:CallM X n):Objs X n where
 call:=fun sc fz f as x p vs pos hf hq has hc=>Zgt K0 C hK hf hq has hc
 meth:=fun sc fz o m as v ap pos vs ho has hc hns hlen hline hap=>ZhZ K0 ho has hc hns hlen hline (ZhI K0 C hK has hlen hline hap)
 attr:=fun sc e m v pos he hns=>Zie K0 C he hns
 asgA:=fun sc o e m v x p pos he ho=>Zcn K0 C he ho
 augL:=fun sc i op e x p pos he hk hl hd=>Zes K0 he hk hl hd
 augA:=fun sc o e m op v x p pos he ho=>Zeg K0 C he ho
 raise:=fun sc i e y x np cpos pos hy he hc hhd=>Zhi K0 hy he hc hhd
 try_:=fun sc body i as h b b0' hb y np nm hpos pos hy hs hh has hhd=>Zkb K0 hy hs hh has hhd
theorem callM {X':Cx}{K':Frag}(h:CxOk X')(c:ClsOk X' K')(m:Nat):CallM X' m:=by
 induction m with
 | zero=>exact fun A k a as vs W H s Q E hA hq hst R hv ha h=>h.elim
 | succ m ih=>
  refine Classical.byContradiction fun nb=>?_
  have z:Bad XKN:=@Classical.epsilon_spec _ Bad ⟨(X',K',m),⟨h,c,ih,nb⟩⟩
  obtain ⟨ok,cl,ih',nh⟩:=z
  exact nh (Zhm ok (objs1 ok cl ih'))
end
noncomputable def plainArgs (p:Arguments):Bool:=p.posonlyargs.isEmpty&&p.vararg.isNone&&p.kwonlyargs.isEmpty&&p.kwarg.isNone
theorem ZfB {ns:List Str}:∀{vs:List Value},ns.length=vs.length->∀n∈ns,∃v,(ns.zip vs).lookup n=some v:=by
 induction ns with
 | nil=>exact fun ø n h=>(nomatch h)
 | cons a r ih=>
  intro vs hl n h
  cases vs with
  | nil=>cases hl
  | cons v vs=>
   rw [List.zip_cons_cons]
   cases hb:n==a with
   | true=>exact ⟨v,ZaL hb⟩
   | false=>
    rw [Zbc hb]
    rcases List.mem_cons.mp h with q | q
    ·subst q; rw [beq_self_eq_true] at hb; cases hb
    ·exact ih (Nat.succ.inj hl) n q
theorem Zdi {ns:List Str}:∀{vs:List Value},ns.length=vs.length->∀(f:Str->Option Value),(∀n v,(n,v)∈ns.zip vs->f n=some v)->ns.filterMap (fun n=>(f n).map (n,·))=ns.zip vs:=by
 induction ns with
 | nil=>exact fun ø ø ø=>rfl
 | cons a r ih=>
  intro vs hl f hf
  cases vs with
  | nil=>cases hl
  | cons v vs=>
   rw [List.filterMap_cons,hf a v (.head _)]
   exact congrArg ((a,v)::·) (ih (Nat.succ.inj hl) f fun n w h=>hf n w (.tail _ h))
theorem Zd3 {ns:List Str}:∀{vs:List Value},ns.length=vs.length->ns.Nodup->∀n v,(n,v)∈ns.zip vs->(ns.zip vs).lookup n=some v:=by
 induction ns with
 | nil=>exact fun ø ø n v h=>(nomatch h)
 | cons a r ih=>
  intro vs hl hn n v h
  cases vs with
  | nil=>cases hl
  | cons w vs=>
   rw [List.zip_cons_cons] at h ⊢
   rcases List.mem_cons.mp h with q | q
   ·cases q; exact ZaL (beq_self_eq_true _)
   ·have ne:(n==a)=false:=by
     cases hb:n==a with
     | false=>rfl
     | true=>exact absurd (eq_of_beq hb▸(List.of_mem_zip q).1) (List.nodup_cons.mp hn).1
    rw [Zbc ne]
    exact ih (Nat.succ.inj hl) (List.nodup_cons.mp hn).2 n v q
theorem ZfC {fd:FuncData}{vs:List Value}(hp:plainArgs fd.params=true)(hd:fd.defaults=.none)(hn:(fd.params.args.map (·.arg)).Nodup)(hl:(fd.params.args.map (·.arg)).length=vs.length):
  bindArgs fd ⟨vs,[]⟩=pure ((fd.params.args.map (·.arg)).zip vs):=by
 obtain ⟨name,qual,params,body,scope,globals,closure,defaults,kwdefaults,doc,pm,ann,code,ct,bi⟩:=fd
 obtain ⟨po,as,va,ko,kd,kw,df⟩:=params
 cases hd
 cases po with | cons=>cases hp | nil=>
 cases va with | some=>cases hp | none=>
 cases ko with | cons=>cases hp | nil=>
 cases kw with | some=>cases hp | none=>
 generalize hns:as.map (·.arg)=ns at hn hl
 have hmiss:(ns.filter fun n=>((ns.zip vs).lookup n).isNone)=[]:=List.filter_eq_nil_iff.mpr fun n hm=>(ZfB (vs:=vs) hl n hm).elim fun v e=>by rw [e]; exact Bool.false_ne_true
 have hbinds:=Zdi hl (fun n=>(ns.zip vs).lookup n) fun n v h=>Zd3 hl hn n v h
 have htake:ns.take vs.length=ns:=by rw [← hl]; exact List.take_length
 have hlt:¬ vs.length > vs.length:=Nat.lt_irrefl _
 refine Eq.trans (if_neg (c:=(decide (vs.length > (as.map (·.arg)).length)&&Option.isNone (none:Option Arg))=true) (by rw [hns,hl,decide_eq_false hlt]; exact Bool.false_ne_true)) ?_
 have hd:∀k,List.drop k ((none:Option (Array Value)).getD #[]).toList=[]:=fun k=>List.drop_nil
 rw [hd]
 refine Eq.trans (if_neg (c:=(!(((as.map (·.arg)).take ((as.map (·.arg)).length - 0)).filter fun n=>(((as.map (·.arg)).zip vs).lookup n).isNone).isEmpty)=true) (by rw [hns,Nat.sub_zero,hl,htake,hmiss]; exact Bool.false_ne_true)) ?_
 rw [List.zip_nil_right]
 refine Eq.trans (b:=pure (List.filterMap (fun n=>Option.map (fun x=>(n,x)) (List.lookup n ((as.map (·.arg)).zip vs))) (as.map (·.arg)++[]))) rfl ?_
 rw [hns,List.append_nil,hbinds]
theorem Zj2 {l:List (Nat×Str)}(hn:(l.map (·.2)).Nodup){i j:Nat}{s:Str}(h:(i,s)∈l)(h':(j,s)∈l):i=j:=by
 induction l with
 | nil=>cases h
 | cons p r ih=>
  rw [List.map_cons,List.nodup_cons] at hn
  rcases List.mem_cons.mp h with q | q
  ·rcases List.mem_cons.mp h' with q' | q'
   ·exact congrArg (·.1) (q.trans q'.symm)
   ·subst q; exact absurd (List.mem_map.mpr ⟨_,q',rfl⟩) hn.1
  ·rcases List.mem_cons.mp h' with q' | q'
   ·subst q'; exact absurd (List.mem_map.mpr ⟨_,q,rfl⟩) hn.1
   ·exact ih hn.2 q q'
noncomputable def Tb.nm (t:Tb)(i:Nat):Str:=(lk t.nms i).getD ⟨Array.replicate (i+1) 0⟩
noncomputable def Tb.cname (t:Tb)(k:Nat):Option Str:=match lk t.clss k with
 | some y=>some y.1
 | none=>lk t.excs k
noncomputable def fst0 (s:Str):Option Nat:=s.cps[0]?
noncomputable def goodNm (s:Str):Bool:=on (fst0 s) fun c=>!Nat.beq c 0&&!(s==(".0":Str))
noncomputable def distinct:List Str->Bool
 | []=>true
 | x::r=>!(r.contains x)&&distinct r
theorem ZbC {l:List Str}(h:distinct l=true):l.Nodup:=by
 induction l with
 | nil=>exact List.nodup_nil
 | cons x r ih=>exact Zan h fun a b=>List.nodup_cons.mpr ⟨fun m=>(by rw [List.contains_iff_mem.mpr m] at a; cases a),ih b⟩
theorem Zdj {t:Tb}{i:Nat}{s:Str}(h:lk t.nms i=some s):t.nm i=s:=by unfold Tb.nm; rw [h]; rfl
theorem ZdL {t:Tb}{i:Nat}(h:lk t.nms i=none):t.nm i=Str.mk (Array.replicate (i+1) 0):=by unfold Tb.nm; rw [h]; rfl
theorem Zfs (k:Nat):fst0 (Str.mk (Array.replicate (k+1) 0))=some 0:=by
 show (Array.replicate (k+1) 0)[0]?=some 0
 rw [Array.getElem?_replicate,if_pos (Nat.succ_pos k)]
theorem ZfW {s:Str}(h:goodNm s=true):fst0 s≠some 0/\s≠(".0":Str):=ZaK h fun c e h=>Zan h fun a b=>⟨fun z=>(by rw [e] at z; cases z; cases a),fun z=>(by subst z; cases b)⟩
theorem ZmA {t:Tb}(hg:(t.nms.map (·.2)).all goodNm=true)(hd:distinct (t.nms.map (·.2))=true):∀i j,t.nm i=t.nm j->i=j:=by
 have first:∀i s,lk t.nms i=some s->∀k:Nat,s≠Str.mk (Array.replicate (k+1) 0):=fun i s e k q=>
  (ZfW (List.all_eq_true.mp hg s (List.mem_map.mpr ⟨_,Zbd e,rfl⟩))).1 (by rw [q]; exact Zfs k)
 intro i j h
 cases hi:lk t.nms i with
 | some a=>
  rw [Zdj hi] at h
  cases hj:lk t.nms j with
  | some b=>
   rw [Zdj hj] at h
   subst h
   exact Zj2 (ZbC hd) (Zbd hi) (Zbd hj)
  | none=>rw [ZdL hj] at h; exact absurd h (first i a hi j)
 | none=>
  rw [ZdL hi] at h
  cases hj:lk t.nms j with
  | some b=>rw [Zdj hj] at h; exact absurd h.symm (first j b hj i)
  | none=>
   rw [ZdL hj] at h
   have:=congrArg (fun s=>s.cps.size) h
   rw [Array.size_replicate,Array.size_replicate] at this
   exact Nat.succ.inj this
theorem Zll {t:Tb}(hg:(t.nms.map (·.2)).all goodNm=true)(i:Nat):t.nm i≠(".0":Str):=by
 cases hi:lk t.nms i with
 | some a=>rw [Zdj hi]; exact (ZfW (List.all_eq_true.mp hg a (List.mem_map.mpr ⟨_,Zbd hi,rfl⟩))).2
 | none=>
  rw [ZdL hi]
  intro q
  have h0:=Zfs i
  rw [q] at h0
  revert h0
  decide
noncomputable def usedNames (p:Program)(loose:List Str):List Str:=startupNames++loose++(recsOf p).map (·.name)++(litsOf p).map (·.1)++(clssOf p loose).map (·.name)
noncomputable def chkNms (t:Tb):Bool:=(t.nms.map (·.2)).all goodNm&&distinct (t.nms.map (·.2))&&decide (t.nm t.nAppend=Str.ofString "append")&&decide (t.nm t.nPop=Str.ofString "pop")&&decide (t.nm t.nExtend=Str.ofString "extend")&&(decide (t.nm t.nGet=Str.ofString "get")&&decide (t.nm t.nSetdefault=Str.ofString "setdefault"))
noncomputable def adr:Value->Option Addr
 | .ref a=>some a
 | _=>none
theorem ZnI {v:Value}{a:Addr}(h:adr v=some a):v=.ref a:=by cases v <;> first | (cases h; rfl) | cases h
noncomputable def rf (o:Option (Option Value)):Option Addr:=match o with
 | some (some v)=>adr v
 | _=>none
theorem Znb {o:Option (Option Value)}{a:Addr}(h:rf o=some a):o=some (some (.ref a)):=by
 cases o with
 | none=>cases h
 | some o=>cases o with
  | none=>cases h
  | some v=>rw [ZnI h]
noncomputable def topA (K:Frag)(x:Str):Option Addr:=rf (nsIn K mainGlobals x)
noncomputable def inCls (K:Frag)(a:Addr)(x:Str):Option Addr:=rf (findIn K (.ref a) x)
noncomputable def thn {α β:Type}(o:Option α)(f:α->Option β):Option β:=match o with
 | some a=>f a
 | none=>none
theorem Zek {α β:Type}{o:Option α}{f:α->Option β}{b:β}{G:Prop}(h:thn o f=some b)(g:∀a,o=some a->f a=some b->G):G:=by
 cases o with
 | none=>cases h
 | some a=>exact g a rfl h
theorem ZjR {α β:Type}{o:Option α}{a:α}{f:α->Option β}{b:Option β}(e:o=some a)(h:f a=b):thn o f=b:=by subst e; exact h
noncomputable def srcA (K:Frag):Src->Option Addr
 | .g x=>topA K x
 | .m c x=>thn (topA K c) fun a=>inCls K a x
noncomputable def Tb.fnA (t:Tb)(K:Frag)(k:Nat):Option Addr:=thn (lk t.fns k) fun y=>srcA K y.1
noncomputable def Tb.clA (t:Tb)(K:Frag)(k:Nat):Option Addr:=thn (t.cname k) (topA K)
noncomputable def mkCx (p:Program)(w:World)(t:Tb)(K:Frag)(h:Heap):Cx where
 prog:=p
 w:=w
 P:=t.P
 nm:=t.nm
 fnA:=t.fnA K
 clA:=t.clA K
 hb:=h
 quiet:=hasN t.quiet
 qg:=hasN t.qg
noncomputable def Tb.ck (t:Tb):Ck:=⟨t.nm,hasN t.qg,t.nAppend⟩
noncomputable def kFn (sc:Scope):Bool:=match sc.kind with
 | .function=>true
 | _=>false
noncomputable def isNoneV:Value->Bool
 | .none=>true
 | _=>false
noncomputable def fncD:Data->Option FuncData
 | .func fd=>some fd
 | _=>none
noncomputable def stmB:FuncBody->Option (List Stmt)
 | .stmts b=>some b
 | _=>none
noncomputable def fdOf (K:Frag)(a:Addr):Option (FuncData×List Stmt):=thn (K.lookup a) fun o=>thn (fncD o.data) fun fd=>thn (stmB fd.body) fun b=>some (fd,b)
noncomputable def chkFd (t:Tb)(K:Frag)(q:Bool)(f:Fn)(y:FuncData×List Stmt):Bool:=
 (plainArgs y.1.params&&decide (y.1.params.args.map (·.arg)=f.params.map t.nm)&&distinct (y.1.params.args.map (·.arg))&&kFn y.1.scope&&!y.1.scope.isCoroutine&&!y.1.scope.isGenerator)&&
 (f.params.all (fun i=>kStore ⟨y.1.scope,true⟩ (t.nm i))&&y.1.scope.names.all (fun x=>!(x.2==NameKind.free))&&y.1.closure.isEmpty&&decide (y.1.globals=mainGlobals)&&decide (y.1.builtins=builtinsNs)&&isNoneV y.1.defaults)&&
 codeIn K y.1.code y.1.qualname&&chkSs t.ck ⟨y.1.scope,true⟩ f.body y.2&&(!q || chkSs t.ck ⟨y.1.scope,false⟩ f.body y.2)
noncomputable def chkFn (t:Tb)(K:Frag)(e:Nat×Src×Fn):Bool:=on (srcA K e.2.1) fun a=>on (fdOf K a) fun y=>chkFd t K (hasN t.quiet e.1) e.2.2 y
noncomputable def chkMeth (t:Tb)(K:Frag)(c:Addr)(x:Str)(f:Nat):Bool:=on (inCls K c x) fun a=>decide (t.fnA K f=some a)&&decide (typeIn K (.ref a)=some (.type "function"))
noncomputable def chkIni (t:Tb)(K:Frag)(c:Addr):Option Nat->Bool
 | some f=>chkMeth t K c "__init__" f
 | none=>true
noncomputable def chkCl (t:Tb)(K:Frag)(e:Nat×Str×Cl):Bool:=on (topA K e.2.1) fun c=>
 (makesIn K c&&decide (findIn K (.ref c) "__getattribute__"=some (some (.builtin "object.__getattribute__")))&&decide (findIn K (.ref c) "__getattr__"=some none)&&decide (findIn K (.ref c) "__setattr__"=some (some (.builtin "object.__setattr__")))&&plainOver K c&&hasDictIn K c)&&
 keepIn K (.ref c)&&chkIni t K c e.2.2.init&&e.2.2.meths.all (fun y=>chkMeth t K c (t.nm y.1) y.2&&!(e.2.2.attrs.contains y.1))&&e.2.2.attrs.all (fun n=>decide (findIn K (.ref c) (t.nm n)=some none))&&!isSm (lk e.2.2.meths t.nAppend)
noncomputable def clsD:Data->Option ClassData
 | .cls cd=>some cd
 | _=>none
noncomputable def lineOf (K:Frag)(c:Addr):Option (List Value):=thn (K.lookup c) fun o=>thn (clsD o.data) fun cd=>some cd.mro
noncomputable def chkEx (t:Tb)(K:Frag)(e:Nat×Str):Bool:=on (topA K e.2) fun c=>excIn K c excB "ValueError.__new__"&&on (lineOf K c) fun l=>(t.clss.map (fun y=>(y.1,y.2.1))++t.excs).all fun y=>on (topA K y.2) fun ck=>(l.contains (.ref ck)==sub2 t.subs e.1 y.1)
noncomputable def bvO (b:B)(o:Option Value):Bool:=on o fun v=>v==bval b
noncomputable def isLI:B->Bool
 | .len=>true
 | .isinstance=>true
 | _=>false
noncomputable def srcG:Src->Option Str
 | .g x=>some x
 | _=>none
noncomputable def vI:Value->Option Int
 | .int i _=>some i
 | _=>none
noncomputable def chkGlob (t:Tb)(K:Frag)(used:List Str)(e:Nat×V):Bool:=match e.2 with
 | .fn k=>on (lk t.fns k) fun y=>on (srcG y.1) fun x=>decide (x=t.nm e.1)&&isSm (topA K x)&&(!hasN t.qg e.1 || hasN t.quiet k)
 | .cls k=>on (t.cname k) fun x=>decide (x=t.nm e.1)&&isSm (topA K x)&&!hasN t.qg e.1
 | .int v=>on (nsIn K mainGlobals (t.nm e.1)) fun o=>on o fun u=>decide (vI u=some v)&&!hasN t.qg e.1
 | .bt b=>!(used.contains (t.nm e.1))&&!(t.nm e.1==("__name__":Str))&&bvO b (bootBuiltins (t.nm e.1))&&(!hasN t.qg e.1 || isLI b)
 | _=>false
noncomputable def bTs:List B:=[.int,.bool,.str,.list,.tuple]
noncomputable def kTs:List (Kd×Value):=[(.none,.type "NoneType"),(.bool,.type "bool"),(.int,.type "int"),(.str,.type "str"),(.list,.type "list"),(.tuple,.type "tuple")]
noncomputable def bkNo (k:Kd)(b:B):Option Bool:=match bKd b with
 | some j=>kNo2 k j
 | none=>none
noncomputable def ckB (K:Frag):Bool:=kTs.all fun y=>bTs.all fun b=>kitOne K y.2 (bval b)==bkNo y.1 b
noncomputable def chkIsi (t:Tb)(K:Frag):Bool:=ckB K
noncomputable def chkTwo (t:Tb):Bool:=t.clss.all fun y=>!isSm (lk t.excs y.1)
noncomputable def chkAll (t:Tb)(K:Frag):Bool:=t.fns.all (chkFn t K)&&t.clss.all (chkCl t K)&&t.excs.all (chkEx t K)&&chkIsi t K
section
variable {p q:Program}{loose:List Str}{mean:ExcName->Option Value}{mg mb:Str->Option Value}{h:Heap}{w:World}{t:Tb}{K:Frag}
inductive FnOf (t:Tb)(K:Frag)(k:Nat)(a:Addr):Prop
 | mk (y:Src×Fn) (z:FuncData×List Stmt) (hk:lk t.fns k=some y) (hz:fdOf K a=some z) (hc:chkFd t K (hasN t.quiet k) y.2 z=true)
theorem ZmS {k:Nat}{a:Addr}(h2:t.fns.all (chkFn t K)=true)(e:t.fnA K k=some a):FnOf t K k a:=
 Zek e fun y hk ha=>ZaK (List.all_eq_true.mp h2 _ (Zbd hk)) fun a' ha' h=>ZaK h fun z hz hc=>by
  cases Option.some.inj (ha'.symm.trans ha)
  exact ⟨y,z,hk,hz,hc⟩
theorem Zgl {a:Addr}{y:FuncData×List Stmt}{G:Prop}(h:fdOf K a=some y)(g:∀o,K.lookup a=some o->o.data=.func y.1->y.1.body=.stmts y.2->G):G:=
 Zek h fun o ho h=>Zek h fun fd hd h=>Zek h fun b hb h=>by
  cases h
  refine g o ho ?_ ?_
  ·generalize o.data=d at hd
   cases d <;> first | (cases hd; rfl) | cases hd
  ·generalize fd.body=d at hb
   cases d <;> first | (cases hb; rfl) | cases hb
theorem Zi1 {α:Type}{o:Option α}(h:isSm o=true):∃a,o=some a:=by
 cases o with
 | none=>cases h
 | some a=>exact ⟨a,rfl⟩
theorem Zmp {α β:Type}{o:Option (α×β)}{b:β}{G:Prop}(h:mp2 o=some b)(g:∀a,o=some (a,b)->G):G:=by
 cases o with
 | none=>cases h
 | some y=>cases h; exact g y.1 rfl
theorem ZhB {k:Nat}{x:Str}(e:t.cname k=some x):(k,x)∈t.clss.map (fun y=>(y.1,y.2.1))++t.excs:=by
 unfold Tb.cname at e
 cases q:lk t.clss k with
 | some y=>rw [q] at e; cases e; exact List.mem_append_left _ (List.mem_map.mpr ⟨_,Zbd q,rfl⟩)
 | none=>rw [q] at e; exact List.mem_append_right _ (Zbd e)
theorem ZlA {j:Nat}{x:Str}(hn:chkTwo t=true)(hx:lk t.excs j=some x):t.clA K j=topA K x:=by
 have hcl:lk t.clss j=none:=by
  cases q:lk t.clss j with
  | none=>rfl
  | some y=>have:=List.all_eq_true.mp hn _ (Zbd q); rw [hx] at this; cases this
 unfold Tb.clA Tb.cname
 rw [hcl,hx]; rfl
theorem Zm5 {k:Nat}{y:Str×Cl}(hk:lk t.clss k=some y):t.clA K k=topA K y.1:=by
 unfold Tb.clA Tb.cname
 rw [hk]; rfl
theorem Zoz {c:Nat×Str->Addr->Bool}{j:Nat}{a:Addr}{G:Prop}(h4:(t.excs.all fun e=>on (topA K e.2) (c e))=true)(hn:chkTwo t=true)(e:t.clA K j=some a)(hj:isSm (lk t.excs j)=true)(g:∀x,topA K x=some a->c (j,x) a=true->G):G:=by
 obtain ⟨x,hx⟩:=Zi1 hj
 rw [ZlA hn hx] at e
 exact ZaK (List.all_eq_true.mp h4 _ (Zbd hx)) fun a' ha' h=>g x e (Option.some.inj (ha'.symm.trans e)▸h)
theorem Zot {c:Nat×Str×Cl->Addr->Bool}{k:Nat}{a:Addr}{cl:Cl}{G:Prop}(h3:(t.clss.all fun e=>on (topA K e.2.1) (c e))=true)(e:t.clA K k=some a)(hcl:mp2 (lk t.clss k)=some cl)(g:∀x,c (k,x,cl) a=true->G):G:=
 Zmp hcl fun x hk=>by
  rw [Zm5 hk] at e
  exact ZaK (List.all_eq_true.mp h3 _ (Zbd hk)) fun a' ha' h=>g x (Option.some.inj (ha'.symm.trans e)▸h)
theorem ZnF {q:Program}{loose:List Str}{mg mb:Str->Option Value}(T:TopRead q loose mg mb h){j:Nat}{c:Addr}(X:K.In h)(h4:t.excs.all (chkEx t K)=true)(hn:chkTwo t=true)(e:t.clA K j=some c)(hj:isSm (lk t.excs j)=true):ExAt (mkCx p w t K h) j c:=by
 refine Zoz h4 hn e hj fun x hx this=>Zan this fun he this=>ZaK this fun l hl hall=>?_
 obtain ⟨_,bm,ns,nm,qn,bs,hd,sn,sub,ab,col,dd,k0,k1,k2,k3,k5,mN,g1,g2,g3,g4⟩:=own_of_in X T (Znb hx) he
 have hl':l=.ref c::bm:=Zek hl fun o eo hl=>by cases (X c o eo).symm.trans g1; exact (Option.some.inj hl).symm
 refine ⟨bm,ns,nm,qn,bs,hd,sn,sub,ab,col,dd,k0,k1,k2,k3,k5,mN,g1,g2,g3,g4,fun k ck hk=>?_⟩
 refine Zek hk fun xk hxk hck=>ZaK (List.all_eq_true.mp hall _ (ZhB hxk)) fun c2 hc2 this=>?_
 cases Option.some.inj (hc2.symm.trans hck)
 rw [← hl']
 exact beq_iff_eq.mp this
theorem ZgU {c:Addr}{x:Str}{f:Nat}(e:chkMeth t K c x f=true):FnIs (mkCx p w t K h) K c x f:=
 ZaK e fun a ha e=>Zan e fun e1 e2=>⟨a,of_decide_eq_true e1,Znb ha,of_decide_eq_true e2⟩
theorem ZlI (X:K.In h)(h3:t.clss.all (chkCl t K)=true):ClsOk (mkCx p w t K h) K:=by
 refine ⟨X,fun k c cl hc hcl=>Zot h3 hc hcl fun x this=>Zav this fun g1 g2 g3 g4 g5 g6=>Zav g1 fun a1 a2 a3 a4 a5 a6=>
  ⟨a1,of_decide_eq_true a2,of_decide_eq_true a3,of_decide_eq_true a4,a5,a6,g2,fun f hf=>?_,fun n f hf=>ZgU (and2 (List.all_eq_true.mp g4 _ (Zbd hf))).1,fun n hn=>of_decide_eq_true (List.all_eq_true.mp g5 _ hn),fun n f hf hn=>?_⟩⟩
 ·have g3:chkIni t K c cl.init=true:=g3
  rw [hf] at g3
  exact ZgU g3
 ·have:=(and2 (List.all_eq_true.mp g4 _ (Zbd hf))).2
  rw [List.contains_iff_mem.mpr hn] at this; cases this
theorem ZkG {b:B}{j:Kd}(h:bKd b=some j):b∈bTs:=by
 cases b <;> first | exact nsome h | exact .head _ | exact .tail _ (.head _) | exact .tail _ (.tail _ (.head _)) | exact .tail _ (.tail _ (.tail _ (.head _))) | exact .tail _ (.tail _ (.tail _ (.tail _ (.head _))))
theorem Zmg {k:Kd}{b:B}{r:Bool}(e:bkNo k b=some r):b∈bTs:=by
 cases hb:bKd b with
 | none=>unfold bkNo at e; rw [hb] at e; cases e
 | some j=>exact ZkG hb
theorem Zbt {k:Kd}{b:B}{tv:Value}{r:Bool}(h:ckB K=true)(hm:(k,tv)∈kTs)(e:bkNo k b=some r):kitOne K tv (bval b)=some r:=
 (beq_iff_eq.mp (List.all_eq_true.mp (List.all_eq_true.mp h _ hm) b (Zmg e))).trans e
theorem Zow {α β:Type}{o:Option α}{f:α->β}{b:β}{G:Prop}(h:o.map f=some b)(g:∀a,o=some a->b=f a->G):G:=by
 cases o with
 | none=>cases h
 | some a=>cases h; exact g a rfl rfl
theorem ZkV (X:K.In h)(hB:chkIsi t K=true):IsiK (mkCx p w t K h) K:=by
 refine ⟨X,fun k y b tv cv e hk ht=>?_⟩
 cases y with
 | bt b'=>
  cases ht
  have e:isiB k b'=some b:=e
  cases k with
  | none=>cases hk; exact Zbt (k:=.none) hB (.head _) e
  | bool=>cases hk; exact Zbt (k:=.bool) hB (.tail _ (.head _)) e
  | int=>cases hk; exact Zbt (k:=.int) hB (.tail _ (.tail _ (.head _))) e
  | str=>cases hk; exact Zbt (k:=.str) hB (.tail _ (.tail _ (.tail _ (.head _)))) e
  | list=>cases hk; exact Zbt (k:=.list) hB (.tail _ (.tail _ (.tail _ (.tail _ (.head _))))) e
  | tuple=>cases hk; exact Zbt (k:=.tuple) hB (.tail _ (.tail _ (.tail _ (.tail _ (.tail _ (.head _)))))) e
  | _=>cases hk
 | _=>exact nsome e
end
section
variable {p q:Program}{loose:List Str}{mean:ExcName->Option Value}{mg mb:Str->Option Value}{h:Heap}{w:World}{t:Tb}{K:Frag}
theorem Zjx {i:Nat}{v:V}{x:Str}{a:Addr}(T:Top q loose mean mg mb h)(X:K.In h)(hx:x=t.nm i)(ha:topA K x=some a)(r:∀W,VR (mkCx p w t K h) W (.ref a) v):GlAt (mkCx p w t K h) i v:=
 .main (.ref a) mg T.g (by show mg (t.nm i)=_; rw [← hx]; exact mg_of X T.g (Znb ha)) r
theorem Zlb {used:List Str}{i:Nat}{v:V}(T:Top q loose mean mg mb h)(X:K.In h)(hu:used=usedNames q loose)(hm:chkGlob t K used (i,v)=true):GlAt (mkCx p w t K h) i v:=by
 cases v with
 | fn k=>
  refine ZaK hm fun y hk hm=>ZaK hm fun x hx hm=>Zaf hm fun m1 m2 ø=>?_
  obtain ⟨a,ha⟩:=Zi1 m2
  refine Zjx T X (of_decide_eq_true m1) ha fun W=>.fn (ZjR hk ?_)
  generalize y.1=s at hx
  cases s with
  | g z=>cases hx; exact ha
  | m _ _=>cases hx
 | cls k=>
  refine ZaK hm fun x hx hm=>Zaf hm fun m1 m2 ø=>?_
  obtain ⟨a,ha⟩:=Zi1 m2
  exact Zjx T X (of_decide_eq_true m1) ha fun W=>.cls (ZjR hx ha)
 | int v=>
  refine ZaK hm fun o ho hm=>ZaK hm fun u eo hm=>Zan hm fun m1 ø=>?_
  have m1:=of_decide_eq_true m1
  subst eo
  cases u with
  | int u tk=>cases m1; exact .main (.int v tk) mg T.g (mg_of X T.g ho) fun W=>.int v tk
  | _=>cases m1
 | bt b=>
  refine Zal hm fun m1 m2 m3 ø=>?_
  subst hu
  have nu:t.nm i∉usedNames q loose:=fun z=>by rw [List.contains_iff_mem.mpr z] at m1; cases m1
  unfold usedNames at nu
  simp only [List.mem_append,not_or] at nu
  obtain ⟨⟨⟨⟨n1,n2⟩,n3⟩,n4⟩,n5⟩:=nu
  refine .bi (bval b) mg mb T.g T.b (T.free _ n1 n2 n3 n4 n5) ?_ fun W=>.bt b
  show mb (t.nm i)=_
  rw [T.builtins _ (fun z=>by rw [z] at m2; cases m2)]
  exact ZaK m3 fun u eu m3=>eu.trans (congrArg some (beq_iff_eq.mp m3))
 | _=>cases hm
theorem ZhX {used:List Str}{i:Nat}{v:V}(hm:chkGlob t K used (i,v)=true)(hq:hasN t.qg i=true):Qt (mkCx p w t K h) v:=by
 cases v with
 | fn k=>
  refine ZaK hm fun y hk hm=>ZaK hm fun x hx hm=>Zaf hm fun ø ø m3=>.fn ?_
  rw [hq] at m3; exact m3
 | cls k=>exact ZaK hm fun x hx hm=>Zaf hm fun ø ø m3=>by rw [hq] at m3; cases m3
 | int v=>exact ZaK hm fun o ho hm=>ZaK hm fun u eo hm=>Zan hm fun ø m2=>by rw [hq] at m2; cases m2
 | bt b=>
  refine Zal hm fun ø ø ø m4=>?_
  rw [hq] at m4
  cases b with
  | len=>exact .len
  | isinstance=>exact .isi
  | _=>cases m4
 | _=>cases hm
theorem noneV {v:Value}(h:isNoneV v=true):v=.none:=by cases v <;> first | rfl | cases h
theorem fnKind {s:Scope}(h:kFn s=true):s.kind=.function:=by
 unfold kFn at h
 cases hk:s.kind <;> rw [hk] at h <;> first | rfl | cases h
theorem Zn6 {k:Nat}{a:Addr}{d:Fn}(X:K.In h)(h2:t.fns.all (chkFn t K)=true)(e:t.fnA K k=some a)(ed:mp2 (lk t.fns k)=some d):FnIn (mkCx p w t K h) (hasN t.quiet k) d a:=by
 obtain ⟨y,z,hk,hz,hc⟩:=ZmS h2 e
 rw [hk] at ed
 cases ed
 refine Zgl hz fun o ho hd hb=>Zea hc fun c1 c2 c3 c4 c5=>Zav c1 fun a1 a2 a3 a4 a5 a6=>Zav c2 fun b1 b2 b3 b4 b5 b6=>?_
 have a2:=of_decide_eq_true a2
 refine ⟨o,z.1,z.2,X _ _ ho,hd,codeRec_of X c3,hb,fun vs hl=>?_,Zah b3,Bool.not_eq_true' _▸a5,Bool.not_eq_true' _▸a6,fnKind a4,of_decide_eq_true b4,of_decide_eq_true b5,fun i hi=>List.all_eq_true.mp b1 i hi,fun u hu zz=>?_,c4,fun hq=>?_⟩
 ·have:=ZfC (fd:=z.1) (vs:=vs) a1 (noneV b6) (ZbC a3) (by rw [a2,List.length_map,hl])
  rw [this,a2]; rfl
 ·have:=List.all_eq_true.mp b2 u hu
  rw [zz] at this
  cases this
 ·rw [hq] at c5; exact c5
theorem Zm9 {α:Type}{o:Option α}(h:(!isSm o)=true):o=none:=by
 cases o with
 | none=>rfl
 | some _=>cases h
theorem ZnN {k:Nat}{a:Addr}(X:K.In h)(h2:t.fns.all (chkFn t K)=true)(e:t.fnA K k=some a):FnOb (mkCx p w t K h) a:=by
 obtain ⟨y,z,hk,hz,hc⟩:=ZmS h2 e
 exact Zgl hz fun o ho hd hb=>⟨o,z.1,X _ _ ho,hd⟩
theorem ZnD (T:Top q loose mean mg mb h)(X:K.In h)(h1:chkNms t=true)(h2:chkAll t K=true)(h3:t.globs.all (chkGlob t K (usedNames q loose))=true)(hn:chkTwo t=true):CxOk (mkCx p w t K h):=
 Zav h1 fun g1 g2 g3 g4 g5 g67=>Zan g67 fun g6 g7=>Zal h2 fun h2 hcl hex hisi=>
  ⟨ZmA g1 g2,Zll g1,T.nolimit,fun i v e=>Zlb T X rfl (List.all_eq_true.mp h3 _ (Zbd e)),of_decide_eq_true g3,of_decide_eq_true g4,of_decide_eq_true g5,of_decide_eq_true g6,of_decide_eq_true g7,
   fun k a e=>ZnN X h2 e,fun k a d e ed=>Zn6 X h2 e ed,fun i v hq e=>ZhX (List.all_eq_true.mp h3 _ (Zbd e)) hq,fun k c e hj=>ZnF (topRead_of T) X hex hn e hj,
   fun k cl e=>Zmp e fun x hk=>ZaK (List.all_eq_true.mp hcl _ (Zbd hk)) fun c hc this=>Zav this fun ø ø ø ø ø g6=>Zm9 g6,⟨K,ZkV X hisi⟩,T.g.elim fun o q=>⟨o,q.elim fun ø q=>q.elim fun ø q=>q.1⟩⟩
end
noncomputable def W0 (h:Heap):Wd:=⟨fun a=>h.get? a,fun ø=>none⟩
noncomputable def H0:Hp:=⟨[]⟩
theorem rel0 {X:Cx}:RelH X (W0 X.hb) H0 X.hb:=
 ⟨fun ø ø e=>e,fun ø ø e=>e,fun ø ø e=>(by cases e),fun a ⟨i,c,l,e,_,_⟩=>(by cases e),fun i j ci cj li lj e=>(by cases e),fun ø ø=>⟨rfl,rfl⟩⟩
theorem ZiB {X:Cx}{W:Wd}{P:Params}{h:Heap}{is:List Int}:∀{vs:List Value},WellAll P h vs (ofPys (is.map PyData.int))->VRs X W vs (is.map V.int):=by
 induction is with
 | nil=>intro vs r; cases r; exact .nil
 | cons i is ih=>
  intro vs r
  have r':WellAll P h vs (.int i::ofPys (is.map PyData.int)):=r
  cases r' with
  | cons a b=>
   cases a with
   | int _ t=>exact .cons (.int i t) (ih b)
theorem law_end {p:Program}{w:World}{t:Tb}{K:Frag}{mg:Str->Option Value}{s1':Shared}{c:ClaimW}{cl:Str->Option Addr}{mean:ExcName->Option Value}{args:List WData}{k:Nat}{fa a:Addr}{is:List Int}{q:Program}{loose:List Str}{mean':ExcName->Option Value}{mb:Str->Option Value}{P:Params}
  (T:Top q loose mean' mg mb s1'.heap) (X:K.In s1'.heap) (h1:chkNms t=true) (h2:chkAll t K=true) (h3:t.globs.all (chkGlob t K (usedNames q loose))=true) (hn:chkTwo t=true)
  (hg:s1'.gens=#[]) (x:Str) (hk:(thn (lk t.fns k) fun y=>srcG y.1)=some x) (hs:isSm (topA K x)=true) (hmg:mg x=some (.ref fa)) (hw:Well P s1'.heap (.ref a) (ofPy (.list (is.map PyData.int)))) (hlen:¬ ((63:Nat):Int) < (is.length:Nat))
  (hr:∀cls,c.raises args cls=false) (hp:c.post args (.bool true) args=true)
  (n:Nat) (hA:AOk callerA n)
  (main:∀is:List Int,is.length<=63->CW t.P n k [.lst (is.map V.int)] H0 (fun v ø=>v=.bool true) (fun ø ø=>False)):
  wpAny (model p w) callerA (call (.ref fa) [.ref a]) (fun v s'=>GoodWG c cl mean args s1' (.ok (.ret v)) s') (fun e s'=>GoodWG c cl mean args s1' (.error e) s') s1':=by
 have K0:CxOk (mkCx p w t K s1'.heap):=ZnD T X h1 h2 h3 hn
 have C:ClsOk (mkCx p w t K s1'.heap) K:=ZlI X (Zal h2 fun ø z ø ø=>z)
 have hl:is.length<=63:=Int.ofNat_le.mp (Int.not_lt.mp hlen)
 cases hw with
 | list hgt hall=>
  have hv:VR (mkCx p w t K s1'.heap) (W0 s1'.heap) (.ref a) (.lst (is.map V.int)):=VR.lst (n:=0) hgt (ZiB hall) (by rw [List.length_map]; exact Nat.le_trans hl (by decide))
  have hfn:(mkCx p w t K s1'.heap).fnA k=some fa:=by
   obtain ⟨a',ha'⟩:=Zi1 hs
   have:=mg_of X T.g (Znb ha')
   rw [hmg] at this
   cases this
   refine Zek hk fun y hy hx=>ZjR hy ?_
   generalize y.1=s at hx
   cases s with
   | g z=>cases hx; exact ha'
   | m _ _=>cases hx
  refine wpAny_call (codeAny_mono (callM K0 C n callerA k fa [.lst (is.map V.int)] [.ref a] (W0 s1'.heap) H0 s1' _ _ hA (.inl rfl) ⟨[],rfl,fun e he=>by cases he⟩ rel0 (.cons hv .nil) hfn (main is hl)) fun r s' hr'=>?_)
  cases r with
  | ok fl=>
   cases fl with
   | ret v=>
    obtain ⟨W',H',av,TT,hv',rfl⟩:=hr'
    cases hv'
    exact GoodW.toG ⟨.inl ⟨_,.bool true,[],rfl,hr,.bool _,hp,fun ø=>⟨List.nodup_nil,fun ø z=>(nomatch z)⟩⟩,TT.rel.bkeep,TT.rest.os,TT.rest.gens.trans hg⟩
   | _=>exact hr'.elim
  | error e=>
   obtain ⟨_,_,_,_,_,_,_,_,_,_,z⟩:=hr'
   exact z.elim
end Mine
end
section
namespace Mine
open PySem (Str)
noncomputable def Zbz:Str:=⟨#[110,111,32,108,105,115,116,32,111,102,32,104,97,110,100,115]⟩
noncomputable def ZcU:Str:=⟨#[110,111,32,99,111,117,110,116,32,111,102,32,104,97,110,100,115]⟩
noncomputable def Zg5:Str:=⟨#[110,111,32,104,97,110,100]⟩
noncomputable def ZbG:Str:=⟨#[97,32,104,97,110,100,32,105,110,32,110,111,32,108,105,115,116]⟩
noncomputable def ZbF:Str:=⟨#[97,32,104,97,110,100,32,116,104,97,116,32,102,101,108,108,32,97,119,97,121]⟩
noncomputable def ZeS:Str:=⟨#[119,105,115,104]⟩
noncomputable def Zbo:Str:=⟨#[112,114,101,112,97,114,101]⟩
noncomputable def ZcV:Str:=⟨#[110,111,32,108,101,116,116,101,114,32,116,104,101,114,101]⟩
noncomputable def Zcu:Str:=⟨#[101,110,116,101,114]⟩
noncomputable def ZdX:Str:=⟨#[104,111,108,100]⟩
noncomputable def Zcl:Str:=⟨#[104,97,118,101]⟩
noncomputable def ZgV:Str:=⟨#[116,97,107,101]⟩
noncomputable def Zcp:Str:=⟨#[112,114,111,109,105,115,101]⟩
noncomputable def ZdA:Str:=⟨#[97,99,99,101,112,116]⟩
noncomputable def ZhF:Str:=⟨#[97,103,114,101,101]⟩
noncomputable def s_w:Str:=⟨#[119]⟩
noncomputable def Zgy:Fn:=⟨[16],(.cons (.ret (.some (.and (.cons (.call true (.glob 42) (.cons (.loc 16) (.cons (.glob 43) .nil))) (.cons (.not (.call true (.glob 42) (.cons (.loc 16) (.cons (.glob 47) .nil)))) .nil)))))
 .nil)⟩
noncomputable def Zfj:Fn:=⟨[17],(.cons (.ret (.some (.bin true .add (.bin true .fdiv (.call true (.glob 46) (.cons (.loc 17) .nil)) (.cst (.int 2))) (.cst (.int 1)))))
 .nil)⟩
noncomputable def Zcz:PSs:=(.cons (.ite (.or (.cons (.not (.e (.call true (.glob 5) (.cons (.loc 20) .nil)))) (.cons (.e (.cmp .le (.loc 20) (.loc 19))) (.cons (.e (.cmp .ge (.loc 20) (.loc 18))) .nil)))) (.cons (.ret (.some (.cst (.bool false))))
 .nil) .nil)
 (.cons (.assign (.loc 19) (.loc 20))
 .nil))
noncomputable def Zd0:Fn:=⟨[16,18],(.cons (.ite (.or (.cons (.not (.e (.call true (.glob 42) (.cons (.loc 16) (.cons (.glob 41) .nil))))) (.cons (.e (.cmp .eq (.call true (.glob 46) (.cons (.loc 16) .nil)) (.cst (.int 0)))) .nil))) (.cons (.ret (.some (.cst (.bool false))))
 .nil) .nil)
 (.cons (.assign (.loc 19) (.neg (.cst (.int 1))))
 (.cons (.loop [20] (.loc 16) Zcz)
 (.cons (.ret (.some (.cst (.bool true))))
 .nil))))⟩
noncomputable def Za9:Fn:=⟨[108,118,123],(.cons (.assign (.attr (.loc 108) 118) (.loc 118))
 (.cons (.assign (.attr (.loc 108) 123) (.loc 123))
 (.cons (.assign (.attr (.loc 108) 146) (.dict .nil))
 (.cons (.assign (.attr (.loc 108) 147) (.cst .none))
 (.cons (.assign (.attr (.loc 108) 149) (.dict .nil))
 (.cons (.assign (.attr (.loc 108) 148) (.cst (.bool false)))
 .nil))))))⟩
noncomputable def Zbp:Fn:=⟨[108,109],(.cons (.assign (.attr (.loc 108) 109) (.loc 109))
 (.cons (.assign (.attr (.loc 108) 110) (.cst .none))
 (.cons (.assign (.attr (.loc 108) 111) (.neg (.cst (.int 1))))
 (.cons (.assign (.attr (.loc 108) 17) (.list true .nil))
 (.cons (.assign (.attr (.loc 108) 112) (.cst (.int 0)))
 (.cons (.assign (.attr (.loc 108) 113) (.cst (.bool true)))
 (.cons (.assign (.attr (.loc 108) 114) (.list false .nil))
 (.cons (.assign (.attr (.loc 108) 115) (.cst .none))
 (.cons (.expr (.meth true (.loc 108) 66 .nil))
 .nil)))))))))⟩
noncomputable def Zb3:Fn:=⟨[108],(.cons (.assign (.attr (.loc 108) 23) (.list false .nil))
 (.cons (.assign (.attr (.loc 108) 116) (.cst (.int 0)))
 (.cons (.assign (.attr (.loc 108) 117) (.cst (.bool false)))
 (.cons (.assign (.attr (.loc 108) 118) (.tup (.cons (.cst (.int 0)) (.cons (.neg (.cst (.int 1))) .nil))))
 (.cons (.assign (.attr (.loc 108) 119) (.cst .none))
 (.cons (.assign (.attr (.loc 108) 120) (.cst .none))
 (.cons (.assign (.attr (.loc 108) 121) (.dict .nil))
 .nil)))))))⟩
noncomputable def Za6:Fn:=⟨[108,110,17,115],(.cons (.expr (.meth true (.loc 108) 66 .nil))
 (.cons (.assign (.attr (.loc 108) 110) (.loc 110))
 (.cons (.assign (.attr (.loc 108) 17) (.call true (.glob 41) (.cons (.loc 17) .nil)))
 (.cons (.assign (.attr (.loc 108) 115) (.loc 115))
 (.cons (.ite (.e (.cmp .isNot (.loc 110) (.cst .none))) (.cons (.assign (.attr (.loc 108) 111) (.loc 110))
 .nil) .nil)
 .nil)))))⟩
noncomputable def Zdr:Fn:=⟨[108],(.cons (.ret (.some (.comp true (.loc 20) [20] (.attr (.loc 108) 17) (.some (.e (.cmp .ne (.loc 20) (.attr (.loc 108) 109)))))))
 .nil)⟩
noncomputable def Zau:PSs:=(.cons (.expr (.meth true (.loc 143) 0 (.cons (.meth true (.attr (.loc 108) 121) 3 (.cons (.loc 20) (.cons (.cst (.int 0)) .nil))) .nil)))
 .nil)
noncomputable def ZaB:Fn:=⟨[108],(.cons (.assign (.loc 143) (.list false (.cons (.call true (.glob 46) (.cons (.attr (.loc 108) 23) .nil)) .nil)))
 (.cons (.loop [20] (.meth true (.loc 108) 68 .nil) Zau)
 (.cons (.ret (.some (.idx (.sortedRev true 150 (.loc 143)) (.bin true .sub (.call true (.glob 6) (.cons (.attr (.loc 108) 17) .nil)) (.cst (.int 1))))))
 .nil)))⟩
noncomputable def ZaD:PSs:=(.cons (.ite (.e (.cmp .gt (.call true (.glob 46) (.cons (.loc 23) .nil)) (.call true (.glob 46) (.cons (.loc 145) .nil)))) (.cons (.assign (.loc 145) (.loc 23))
 .nil) .nil)
 .nil)
noncomputable def Zaq:PSs:=(.cons (.ite (.e (.cmp .isIn (.loc 20) (.attr (.attr (.loc 108) 120) 146))) (.cons (.assign (.tup [23,119]) (.idx (.attr (.attr (.loc 108) 120) 146) (.loc 20)))
 (.cons (.expr (.meth true (.loc 21) 0 (.cons (.loc 23) .nil)))
 (.cons (.ite (.and (.cons (.e (.cmp .isNot (.loc 119) (.cst .none))) (.cons (.or (.cons (.e (.cmp .is (.loc 144) (.cst .none))) (.cons (.e (.cmp .gt (.idx (.loc 119) (.cst (.int 0))) (.idx (.loc 144) (.cst (.int 0))))) .nil))) .nil))) (.cons (.assign (.loc 144) (.loc 119))
 .nil) .nil)
 .nil))) .nil)
 .nil)
noncomputable def ZaP:Fn:=⟨[108],(.cons (.assign (.loc 144) (.cst .none))
 (.cons (.assign (.loc 21) (.list false .nil))
 (.cons (.loop [20] (.attr (.loc 108) 17) Zaq)
 (.cons (.ite (.e (.cmp .isNot (.loc 144) (.cst .none))) (.cons (.ret (.some (.idx (.loc 144) (.cst (.int 1)))))
 .nil) .nil)
 (.cons (.assign (.loc 145) (.idx (.loc 21) (.cst (.int 0))))
 (.cons (.loop [23] (.loc 21) ZaD)
 (.cons (.ret (.some (.tup (.cons (.call true (.glob 41) (.cons (.attr (.attr (.loc 108) 120) 123) .nil)) (.cons (.call true (.glob 41) (.cons (.loc 145) .nil)) .nil)))))
 .nil)))))))⟩
noncomputable def Zax:PSs:=(.cons (.expr (.meth true (.idx (.attr (.loc 108) 123) (.loc 109)) 67 (.cons (.cst (.int 0)) (.cons (.loc 122) (.cons (.cst .none) .nil)))))
 .nil)
noncomputable def Zbq:Fn:=⟨[108,18,122],(.cons (.ite (.or (.cons (.not (.e (.call true (.glob 5) (.cons (.loc 18) .nil)))) (.cons (.e (.cmp .lt (.loc 18) (.cst (.int 1)))) (.cons (.e (.cmp .gt (.loc 18) (.glob 71))) .nil)))) (.cons (.raise 52 (.cst (.str ZcU)))
 .nil) .nil)
 (.cons (.ite (.not (.e (.call true (.glob 7) (.cons (.loc 122) (.cons (.loc 18) .nil))))) (.cons (.raise 53 (.cst (.str Zbz)))
 .nil) .nil)
 (.cons (.assign (.attr (.loc 108) 18) (.loc 18))
 (.cons (.assign (.attr (.loc 108) 123) (.comp true (.call true (.glob 59) (.cons (.loc 109) .nil)) [109] (.call true (.glob 44) (.cons (.loc 18) .nil)) .none))
 (.cons (.assign (.attr (.loc 108) 124) (.list false .nil))
 (.cons (.loop [109] (.loc 122) Zax)
 .nil))))))⟩
noncomputable def ZbD:Fn:=⟨[108,20],(.cons (.ite (.or (.cons (.not (.e (.call true (.glob 5) (.cons (.loc 20) .nil)))) (.cons (.e (.cmp .lt (.loc 20) (.cst (.int 0)))) (.cons (.e (.cmp .ge (.loc 20) (.attr (.loc 108) 18))) .nil)))) (.cons (.raise 52 (.cst (.str Zg5)))
 .nil) .nil)
 (.cons (.ret (.some (.idx (.attr (.loc 108) 123) (.loc 20))))
 .nil))⟩
noncomputable def ZcF:Fn:=⟨[108,20],(.cons (.assign (.loc 125) (.meth true (.loc 108) 72 (.cons (.loc 20) .nil)))
 (.cons (.ite (.not (.e (.attr (.loc 125) 113))) (.cons (.raise 55 (.cst (.str ZbF)))
 .nil) .nil)
 (.cons (.ite (.e (.cmp .is (.attr (.loc 125) 110) (.cst .none))) (.cons (.raise 56 (.cst (.str ZbG)))
 .nil) .nil)
 (.cons (.ret (.some (.loc 125)))
 .nil))))⟩
noncomputable def ZbQ:Fn:=⟨[108,20],(.cons (.assign (.loc 125) (.meth true (.loc 108) 72 (.cons (.loc 20) .nil)))
 (.cons (.ite (.e (.cmp .is (.attr (.loc 125) 110) (.cst .none))) (.cons (.raise 56 (.cst (.str ZbG)))
 .nil) .nil)
 (.cons (.ret (.some (.loc 125)))
 .nil)))⟩
noncomputable def ZaE:PSs:=(.cons (.expr (.meth true (.attr (.loc 108) 124) 0 (.cons (.tup (.cons (.loc 126) (.cons (.attr (.loc 125) 109) (.cons (.loc 20) (.cons (.attr (.loc 125) 110) (.cons (.loc 128) .nil)))))) .nil)))
 .nil)
noncomputable def Zeq:Fn:=⟨[108,126,125,127,128],(.cons (.loop [20] (.loc 127) ZaE)
 .nil)⟩
noncomputable def ZcZ:Fn:=⟨[108,20,126],(.cons (.assign (.loc 125) (.meth true (.loc 108) 73 (.cons (.loc 20) .nil)))
 (.cons (.assign (.loc 131) (.tup (.cons (.loc 20) (.cons (.attr (.loc 125) 112) (.cons (.loc 126) .nil)))))
 (.cons (.augAttr (.loc 125) 112 .add (.cst (.int 1)))
 (.cons (.expr (.meth true (.loc 108) 75 (.cons (.cst (.str ZeS)) (.cons (.loc 125) (.cons (.sl true (.attr (.loc 125) 17) .none (.some (.cst (.int 1)))) (.cons (.loc 131) .nil))))))
 .nil))))⟩
noncomputable def ZbA:Fn:=⟨[108,20,17],(.cons (.assign (.loc 125) (.meth true (.loc 108) 73 (.cons (.loc 20) .nil)))
 (.cons (.ite (.not (.e (.call true (.glob 7) (.cons (.loc 17) (.cons (.attr (.loc 108) 18) .nil))))) (.cons (.raise 53 (.cst (.str Zbz)))
 .nil) .nil)
 (.cons (.assign (.loc 145) (.idx (.attr (.loc 125) 118) (.cst (.int 0))))
 (.cons (.ite (.e (.cmp .isNot (.attr (.loc 125) 120) (.cst .none))) (.cons (.assign (.loc 145) (.call true (.glob 151) (.cons (.loc 145) (.cons (.idx (.attr (.attr (.loc 125) 120) 118) (.cst (.int 0))) .nil))))
 .nil) .nil)
 (.cons (.assign (.attr (.loc 125) 120) (.call true (.glob 155) (.cons (.tup (.cons (.bin true .add (.loc 145) (.cst (.int 1))) (.cons (.loc 20) .nil))) (.cons (.call true (.glob 41) (.cons (.loc 17) .nil)) .nil))))
 (.cons (.expr (.meth true (.loc 108) 75 (.cons (.cst (.str Zbo)) (.cons (.loc 125) (.cons (.attr (.loc 125) 17) (.cons (.attr (.attr (.loc 125) 120) 118) .nil))))))
 .nil))))))⟩
noncomputable def Zcj:Fn:=⟨[108,20],(.cons (.assign (.loc 125) (.meth true (.loc 108) 72 (.cons (.loc 20) .nil)))
 (.cons (.ite (.not (.e (.attr (.loc 125) 113))) (.cons (.raise 55 (.cst (.str ZbF)))
 .nil) .nil)
 (.cons (.assign (.attr (.loc 125) 113) (.cst (.bool false)))
 .nil)))⟩
noncomputable def Za8:Fn:=⟨[108,110],(.cons (.ite (.or (.cons (.not (.e (.call true (.glob 5) (.cons (.loc 110) .nil)))) (.cons (.e (.cmp .lt (.loc 110) (.cst (.int 0)))) (.cons (.e (.cmp .ge (.loc 110) (.call true (.glob 46) (.cons (.attr (.loc 108) 124) .nil)))) .nil)))) (.cons (.raise 54 (.cst (.str ZcV)))
 .nil) .nil)
 (.cons (.ret (.some (.idx (.attr (.loc 108) 124) (.loc 110))))
 .nil))⟩
noncomputable def ZcK:Fn:=⟨[108,110],(.cons (.assign (.tup [126,130,127,109,128]) (.meth true (.loc 108) 81 (.cons (.loc 110) .nil)))
 (.cons (.expr (.meth true (.attr (.loc 108) 124) 1 (.cons (.loc 110) .nil)))
 (.cons (.assign (.loc 125) (.idx (.attr (.loc 108) 123) (.loc 127)))
 (.cons (.ite (.not (.e (.attr (.loc 125) 113))) (.cons (.ret .none)
 .nil) .nil)
 (.cons (.ite (.e (.cmp .eq (.loc 126) (.cst (.str Zcu)))) (.cons (.expr (.meth true (.loc 108) 94 (.cons (.loc 125) (.cons (.loc 128) .nil))))
 .nil) (.cons (.ite (.and (.cons (.e (.cmp .isNot (.attr (.loc 125) 110) (.cst .none))) (.cons (.e (.cmp .eq (.attr (.loc 125) 110) (.loc 109))) .nil))) (.cons (.expr (.meth true (.loc 108) 86 (.cons (.loc 126) (.cons (.loc 125) (.cons (.loc 130) (.cons (.loc 128) .nil))))))
 .nil) .nil)
 .nil))
 .nil)))))⟩
noncomputable def Za1:PSs:=(.cons (.expr (.meth true (.loc 108) 84 (.cons (.cst (.int 0)) .nil)))
 (.cons (.augLoc 18 .add (.cst (.int 1)))
 .nil))
noncomputable def Zcx:Fn:=⟨[108],(.cons (.assign (.loc 18) (.cst (.int 0)))
 (.cons (.while_ (.e (.attr (.loc 108) 124)) Za1)
 (.cons (.ret (.some (.loc 18)))
 .nil)))⟩
noncomputable def Zbk:Fn:=⟨[108,126,125,130,128],(.cons (.ite (.e (.cmp .eq (.loc 126) (.cst (.str ZeS)))) (.cons (.expr (.meth true (.loc 108) 87 (.cons (.loc 125) (.cons (.loc 128) .nil))))
 .nil) (.cons (.ite (.e (.cmp .eq (.loc 126) (.cst (.str ZdX)))) (.cons (.expr (.meth true (.loc 108) 88 (.cons (.loc 125) (.cons (.loc 130) (.cons (.loc 128) .nil)))))
 .nil) (.cons (.ite (.e (.cmp .eq (.loc 126) (.cst (.str Zcl)))) (.cons (.assign (.idx (.attr (.loc 125) 121) (.loc 130)) (.call true (.glob 151) (.cons (.loc 128) (.cons (.meth true (.attr (.loc 125) 121) 3 (.cons (.loc 130) (.cons (.cst (.int 0)) .nil))) .nil))))
 (.cons (.expr (.meth true (.loc 108) 89 (.cons (.loc 125) .nil)))
 .nil)) (.cons (.ite (.e (.cmp .eq (.loc 126) (.cst (.str ZgV)))) (.cons (.assign (.attr (.loc 125) 116) (.call true (.glob 151) (.cons (.attr (.loc 125) 116) (.cons (.call true (.glob 154) (.cons (.loc 128) (.cons (.call true (.glob 46) (.cons (.attr (.loc 125) 23) .nil)) .nil))) .nil))))
 .nil) (.cons (.ite (.e (.cmp .eq (.loc 126) (.cst (.str Zbo)))) (.cons (.expr (.meth true (.loc 108) 90 (.cons (.loc 125) (.cons (.loc 130) (.cons (.loc 128) .nil)))))
 .nil) (.cons (.ite (.e (.cmp .eq (.loc 126) (.cst (.str Zcp)))) (.cons (.expr (.meth true (.loc 108) 91 (.cons (.loc 125) (.cons (.loc 130) (.cons (.loc 128) .nil)))))
 .nil) (.cons (.ite (.e (.cmp .eq (.loc 126) (.cst (.str ZdA)))) (.cons (.expr (.meth true (.loc 108) 92 (.cons (.loc 125) (.cons (.loc 130) (.cons (.loc 128) .nil)))))
 .nil) (.cons (.expr (.meth true (.loc 108) 93 (.cons (.loc 125) (.cons (.loc 130) (.cons (.loc 128) .nil)))))
 .nil))
 .nil))
 .nil))
 .nil))
 .nil))
 .nil))
 .nil))
 .nil)⟩
noncomputable def ZbP:Fn:=⟨[108,125,131],(.cons (.ite (.or (.cons (.e (.attr (.loc 125) 117)) (.cons (.e (.cmp .isIn (.loc 131) (.attr (.loc 125) 23))) .nil))) (.cons (.ret .none)
 .nil) .nil)
 (.cons (.expr (.meth true (.attr (.loc 125) 23) 0 (.cons (.loc 131) .nil)))
 (.cons (.expr (.meth true (.loc 108) 75 (.cons (.cst (.str ZdX)) (.cons (.loc 125) (.cons (.meth true (.loc 125) 68 .nil) (.cons (.tup (.cons (.loc 131) (.cons (.bin true .sub (.call true (.glob 46) (.cons (.attr (.loc 125) 23) .nil)) (.cst (.int 1))) .nil))) .nil))))))
 (.cons (.expr (.meth true (.loc 108) 89 (.cons (.loc 125) .nil)))
 .nil))))⟩
noncomputable def Zck:Fn:=⟨[108,125,130,128],(.cons (.assign (.tup [131,110]) (.loc 128))
 (.cons (.ite (.or (.cons (.e (.attr (.loc 125) 117)) (.cons (.e (.cmp .gt (.loc 110) (.call true (.glob 46) (.cons (.attr (.loc 125) 23) .nil)))) .nil))) (.cons (.ret .none)
 .nil) .nil)
 (.cons (.ite (.e (.cmp .eq (.loc 110) (.call true (.glob 46) (.cons (.attr (.loc 125) 23) .nil)))) (.cons (.expr (.meth true (.attr (.loc 125) 23) 0 (.cons (.loc 131) .nil)))
 .nil) .nil)
 (.cons (.expr (.meth true (.loc 108) 75 (.cons (.cst (.str Zcl)) (.cons (.loc 125) (.cons (.list true (.cons (.loc 130) .nil)) (.cons (.call true (.glob 46) (.cons (.attr (.loc 125) 23) .nil)) .nil))))))
 .nil))))⟩
noncomputable def Zcm:Fn:=⟨[108,125],(.cons (.assign (.loc 18) (.meth true (.loc 125) 69 .nil))
 (.cons (.ite (.e (.cmp .gt (.loc 18) (.attr (.loc 125) 116))) (.cons (.assign (.attr (.loc 125) 116) (.loc 18))
 (.cons (.expr (.meth true (.loc 108) 75 (.cons (.cst (.str ZgV)) (.cons (.loc 125) (.cons (.meth true (.loc 125) 68 .nil) (.cons (.loc 18) .nil))))))
 .nil)) .nil)
 .nil))⟩
noncomputable def Zbe:Fn:=⟨[108,125,130,118],(.cons (.ite (.e (.cmp .gt (.loc 118) (.attr (.loc 125) 118))) (.cons (.assign (.attr (.loc 125) 118) (.loc 118))
 (.cons (.assign (.attr (.loc 125) 117) (.cst (.bool true)))
 (.cons (.expr (.meth true (.loc 108) 75 (.cons (.cst (.str Zcp)) (.cons (.loc 125) (.cons (.list true (.cons (.loc 130) .nil)) (.cons (.tup (.cons (.loc 118) (.cons (.call true (.glob 41) (.cons (.attr (.loc 125) 23) .nil)) (.cons (.attr (.loc 125) 119) .nil)))) .nil))))))
 .nil))) .nil)
 .nil)⟩
noncomputable def Zbs:Fn:=⟨[108,125,130,128],(.cons (.assign (.tup [118,23,119]) (.loc 128))
 (.cons (.assign (.loc 120) (.attr (.loc 125) 120))
 (.cons (.ite (.or (.cons (.e (.cmp .is (.loc 120) (.cst .none))) (.cons (.e (.cmp .ne (.attr (.loc 120) 118) (.loc 118))) (.cons (.e (.cmp .isNot (.attr (.loc 120) 147) (.cst .none))) .nil)))) (.cons (.ret .none)
 .nil) .nil)
 (.cons (.assign (.idx (.attr (.loc 120) 146) (.loc 130)) (.tup (.cons (.loc 23) (.cons (.loc 119) .nil))))
 (.cons (.ite (.e (.cmp .ge (.call true (.glob 46) (.cons (.attr (.loc 120) 146) .nil)) (.call true (.glob 6) (.cons (.attr (.loc 125) 17) .nil)))) (.cons (.assign (.attr (.loc 120) 147) (.meth true (.loc 125) 70 .nil))
 (.cons (.expr (.meth true (.loc 108) 75 (.cons (.cst (.str ZdA)) (.cons (.loc 125) (.cons (.attr (.loc 125) 17) (.cons (.tup (.cons (.loc 118) (.cons (.attr (.loc 120) 147) .nil))) .nil))))))
 .nil)) .nil)
 .nil)))))⟩
noncomputable def Zbi:Fn:=⟨[108,125,130,128],(.cons (.assign (.loc 118) (.idx (.loc 128) (.cst (.int 0))))
 (.cons (.ite (.e (.cmp .ge (.loc 118) (.attr (.loc 125) 118))) (.cons (.assign (.attr (.loc 125) 118) (.loc 118))
 (.cons (.assign (.attr (.loc 125) 117) (.cst (.bool true)))
 (.cons (.assign (.attr (.loc 125) 119) (.loc 128))
 (.cons (.expr (.meth true (.loc 108) 75 (.cons (.cst (.str ZhF)) (.cons (.loc 125) (.cons (.list true (.cons (.loc 130) .nil)) (.cons (.loc 118) .nil))))))
 .nil)))) .nil)
 .nil))⟩
noncomputable def Za5:Fn:=⟨[108,125,130,118],(.cons (.assign (.loc 120) (.attr (.loc 125) 120))
 (.cons (.ite (.or (.cons (.e (.cmp .is (.loc 120) (.cst .none))) (.cons (.e (.cmp .ne (.attr (.loc 120) 118) (.loc 118))) (.cons (.e (.attr (.loc 120) 148)) .nil)))) (.cons (.ret .none)
 .nil) .nil)
 (.cons (.assign (.idx (.attr (.loc 120) 149) (.loc 130)) (.cst (.bool true)))
 (.cons (.ite (.e (.cmp .ge (.call true (.glob 46) (.cons (.attr (.loc 120) 149) .nil)) (.call true (.glob 6) (.cons (.attr (.loc 125) 17) .nil)))) (.cons (.assign (.attr (.loc 120) 148) (.cst (.bool true)))
 (.cons (.assign (.tup [123,23]) (.attr (.loc 120) 147))
 (.cons (.assign (.loc 127) (.sortedU true 150 152 (.attr (.loc 125) 17) (.loc 123)))
 (.cons (.assign (.loc 100) (.comp true (.loc 20) [20] (.attr (.loc 125) 17) (.some (.e (.cmp .isIn (.loc 20) (.attr (.loc 120) 149))))))
 (.cons (.expr (.meth true (.loc 108) 75 (.cons (.cst (.str Zcu)) (.cons (.loc 125) (.cons (.loc 127) (.cons (.tup (.cons (.bin true .add (.attr (.loc 125) 110) (.cst (.int 1))) (.cons (.call true (.glob 41) (.cons (.loc 123) .nil)) (.cons (.call true (.glob 41) (.cons (.loc 23) .nil)) (.cons (.loc 100) .nil))))) .nil))))))
 .nil))))) .nil)
 .nil))))⟩
noncomputable def Zbx:Fn:=⟨[108,125,128],(.cons (.assign (.tup [109,123,23,100]) (.loc 128))
 (.cons (.ite (.e (.cmp .is (.attr (.loc 125) 110) (.cst .none))) (.cons (.ite (.and (.cons (.e (.cmp .isIn (.attr (.loc 125) 109) (.loc 123))) (.cons (.e (.cmp .lt (.attr (.loc 125) 111) (.loc 109))) .nil))) (.cons (.expr (.meth true (.loc 125) 67 (.cons (.loc 109) (.cons (.loc 123) (.cons (.loc 128) .nil)))))
 .nil) .nil)
 (.cons (.ret .none)
 .nil)) .nil)
 (.cons (.ite (.e (.cmp .ne (.attr (.loc 125) 110) (.bin true .sub (.loc 109) (.cst (.int 1))))) (.cons (.ret .none)
 .nil) .nil)
 (.cons (.expr (.meth true (.attr (.loc 125) 114) 0 (.cons (.tup (.cons (.attr (.loc 125) 110) (.cons (.call true (.glob 41) (.cons (.attr (.loc 125) 17) .nil)) (.cons (.call true (.glob 41) (.cons (.loc 23) .nil)) .nil)))) .nil)))
 (.cons (.ite (.e (.cmp .isIn (.attr (.loc 125) 109) (.loc 123))) (.cons (.expr (.meth true (.loc 125) 67 (.cons (.loc 109) (.cons (.loc 123) (.cons (.loc 128) .nil)))))
 .nil) (.cons (.expr (.meth true (.loc 125) 67 (.cons (.cst .none) (.cons (.list true .nil) (.cons (.cst .none) .nil)))))
 .nil))
 .nil)))))⟩
noncomputable def ZbM:Fn:=⟨[108,20],(.cons (.ret (.some (.attr (.meth true (.loc 108) 72 (.cons (.loc 20) .nil)) 113)))
 .nil)⟩
noncomputable def ZbE:Fn:=⟨[108,20],(.cons (.assign (.loc 125) (.meth true (.loc 108) 74 (.cons (.loc 20) .nil)))
 (.cons (.ret (.some (.tup (.cons (.attr (.loc 125) 110) (.cons (.call true (.glob 41) (.cons (.attr (.loc 125) 17) .nil)) .nil)))))
 .nil))⟩
noncomputable def Zb0:Fn:=⟨[108,20],(.cons (.assign (.loc 125) (.meth true (.loc 108) 74 (.cons (.loc 20) .nil)))
 (.cons (.ret (.some (.call false (.glob 41) (.cons (.sl true (.attr (.loc 125) 23) .none (.some (.attr (.loc 125) 116))) .nil))))
 .nil))⟩
noncomputable def Zbb:Fn:=⟨[108,20],(.cons (.ret (.some (.attr (.meth true (.loc 108) 74 (.cons (.loc 20) .nil)) 117)))
 .nil)⟩
noncomputable def ZbH:Fn:=⟨[108,20],(.cons (.assign (.loc 125) (.meth true (.loc 108) 74 (.cons (.loc 20) .nil)))
 (.cons (.ite (.e (.cmp .is (.attr (.loc 125) 115) (.cst .none))) (.cons (.ret (.some (.list false .nil)))
 .nil) .nil)
 (.cons (.ret (.some (.call false (.glob 41) (.cons (.idx (.attr (.loc 125) 115) (.cst (.int 3))) .nil))))
 .nil)))⟩
noncomputable def ZcG:Fn:=⟨[108,20],(.cons (.ret (.some (.comp false (.tup (.cons (.loc 110) (.cons (.call true (.glob 41) (.cons (.loc 123) .nil)) (.cons (.call true (.glob 41) (.cons (.loc 23) .nil)) .nil)))) [110,123,23] (.attr (.meth true (.loc 108) 72 (.cons (.loc 20) .nil)) 114) .none)))
 .nil)⟩
noncomputable def Zcg:Fn:=⟨[24,25],(.cons (.ret (.some (.ite (.e (.cmp .gt (.call true (.glob 46) (.cons (.loc 24) .nil)) (.loc 25))) (.idx (.loc 24) (.loc 25)) (.cst (.int 0)))))
 .nil)⟩
noncomputable def ZaT:PSs:=(.cons (.ite (.e (.cmp .eq (.bin true .mod (.loc 27) (.cst (.int 2))) (.cst (.int 1)))) (.cons (.expr (.meth true (.loc 26) 0 (.cons (.loc 29) .nil)))
 .nil) .nil)
 (.cons (.assign (.loc 27) (.bin true .fdiv (.loc 27) (.cst (.int 2))))
 .nil))
noncomputable def Zb4:Fn:=⟨[27,28],(.cons (.assign (.loc 26) (.list false .nil))
 (.cons (.loop [29] (.call true (.glob 44) (.cons (.loc 28) .nil)) ZaT)
 (.cons (.ret (.some (.loc 26)))
 .nil)))⟩
noncomputable def ZcI:Fn:=⟨[106,29],(.cons (.try_ (.cons (.ret (.some (.meth true (.loc 106) 97 (.cons (.loc 29) .nil))))
 .nil) 56 none (.cons (.ret (.some (.cst .none)))
 .nil))
 .nil)⟩
noncomputable def ZaU:PSs:=(.cons (.ite (.or (.cons (.e (.cmp .ne (.call true (.glob 156) (.cons (.loc 106) (.cons (.loc 29) .nil))) (.tup (.cons (.cst (.int 0)) (.cons (.loc 105) .nil))))) (.cons (.e (.cmp .isNot (.meth true (.loc 106) 99 (.cons (.loc 29) .nil)) (.cst (.bool true)))) (.cons (.e (.cmp .ne (.meth true (.loc 106) 101 (.cons (.loc 29) .nil)) (.list true .nil))) .nil)))) (.cons (.ret (.some (.cst (.bool false))))
 .nil) .nil)
 (.cons (.ite (.e (.cmp .ne (.meth true (.loc 106) 98 (.cons (.loc 29) .nil)) (.loc 136))) (.cons (.ret (.some (.cst (.bool false))))
 .nil) .nil)
 .nil))
noncomputable def ZbY:Fn:=⟨[106,140,105,136],(.cons (.loop [29] (.loc 140) ZaU)
 (.cons (.ret (.some (.cst (.bool true))))
 .nil))⟩
noncomputable def ZbB:Fn:=⟨[106,29,105,140],(.cons (.assign (.loc 26) (.meth true (.loc 106) 100 (.cons (.loc 29) .nil)))
 (.cons (.ite (.or (.cons (.not (.e (.call true (.glob 42) (.cons (.loc 26) (.cons (.glob 41) .nil))))) (.cons (.e (.cmp .ne (.call true (.glob 46) (.cons (.loc 26) .nil)) (.bin true .add (.bin true .fdiv (.call true (.glob 46) (.cons (.loc 105) .nil)) (.cst (.int 2))) (.cst (.int 1))))) (.cons (.e (.cmp .ne (.loc 26) (.call true (.glob 150) (.cons (.loc 26) .nil)))) .nil)))) (.cons (.ret (.some (.cst (.bool false))))
 .nil) .nil)
 (.cons (.ret (.some (.and (.cons (.cmp .eq (.lenSet 46 152 (.loc 26)) (.call true (.glob 46) (.cons (.loc 26) .nil))) (.cons (.cmp .eq (.comp true (.loc 161) [161] (.loc 26) (.some (.or (.cons (.e (.cmp .notIn (.loc 161) (.loc 105))) (.cons (.e (.cmp .notIn (.loc 161) (.loc 140))) .nil))))) (.list true .nil)) .nil)))))
 .nil)))⟩
noncomputable def Zch:Fn:=⟨[106,29,105,136,160,140],(.cons (.assign (.loc 26) (.meth true (.loc 106) 101 (.cons (.loc 29) .nil)))
 (.cons (.ite (.e (.cmp .ne (.loc 26) (.bin true .mul (.list true (.cons (.tup (.cons (.cst (.int 0)) (.cons (.loc 105) (.cons (.loc 136) .nil)))) .nil)) (.call true (.glob 43) (.cons (.cmp .isIn (.loc 29) (.loc 105)) .nil))))) (.cons (.ret (.some (.cst (.bool false))))
 .nil) .nil)
 (.cons (.ite (.e (.cmp .notIn (.loc 29) (.loc 160))) (.cons (.ret (.some (.cmp .is (.call true (.glob 156) (.cons (.loc 106) (.cons (.loc 29) .nil))) (.cst .none))))
 .nil) .nil)
 (.cons (.ite (.or (.cons (.e (.cmp .ne (.call true (.glob 156) (.cons (.loc 106) (.cons (.loc 29) .nil))) (.tup (.cons (.cst (.int 1)) (.cons (.loc 160) .nil))))) (.cons (.e (.cmp .ne (.meth true (.loc 106) 98 (.cons (.loc 29) .nil)) (.list true .nil))) (.cons (.e (.cmp .isNot (.meth true (.loc 106) 99 (.cons (.loc 29) .nil)) (.cst (.bool false)))) .nil)))) (.cons (.ret (.some (.cst (.bool false))))
 .nil) .nil)
 (.cons (.ret (.some (.call true (.glob 158) (.cons (.loc 106) (.cons (.loc 29) (.cons (.loc 105) (.cons (.loc 140) .nil)))))))
 .nil)))))⟩
noncomputable def Zev:PSs:=(.cons (.expr (.meth true (.loc 106) 76 (.cons (.idx (.loc 105) (.cst (.int 0))) (.cons (.bin true .mul (.cst (.str s_w)) (.loc 25)) .nil))))
 (.cons (.expr (.meth true (.loc 136) 0 (.cons (.tup (.cons (.idx (.loc 105) (.cst (.int 0))) (.cons (.loc 25) (.cons (.bin true .mul (.cst (.str s_w)) (.loc 25)) .nil)))) .nil)))
 .nil))
noncomputable def Zdh:PSs:=(.cons (.ite (.e (.cmp .notIn (.loc 29) (.loc 140))) (.cons (.expr (.meth true (.loc 106) 80 (.cons (.loc 29) .nil)))
 .nil) .nil)
 .nil)
noncomputable def ZdB:PSs:=(.cons (.ite (.or (.cons (.e (.cmp .isIn (.loc 29) (.loc 140))) (.cons (.e (.cmp .notIn (.loc 29) (.loc 105))) .nil))) (.cons (.ite (.not (.e (.call true (.glob 159) (.cons (.loc 106) (.cons (.loc 29) (.cons (.loc 105) (.cons (.loc 136) (.cons (.loc 160) (.cons (.loc 140) .nil))))))))) (.cons (.ret (.some (.cst (.bool false))))
 .nil) .nil)
 .nil) .nil)
 .nil)
noncomputable def Zhz:PS:=(.assign (.loc 28) (.bin true .add (.cst (.int 1)) (.bin true .mod (.call true (.glob 9) (.cons (.loc 24) (.cons (.cst (.int 0)) .nil))) (.cst (.int 9)))))
noncomputable def Zkj:PS:=(.assign (.loc 105) (.call true (.glob 11) (.cons (.bin true .add (.cst (.int 1)) (.call true (.glob 9) (.cons (.loc 24) (.cons (.cst (.int 1)) .nil)))) (.cons (.loc 28) .nil))))
noncomputable def ZjZ:PS:=(.ite (.e (.cmp .eq (.loc 105) (.list true .nil))) (.cons (.assign (.loc 105) (.list true (.cons (.bin true .sub (.loc 28) (.cst (.int 1))) .nil)))
 .nil) .nil)
noncomputable def ZgB:PS:=(.assign (.loc 106) (.call true (.glob 60) (.cons (.loc 28) (.cons (.call true (.glob 41) (.cons (.loc 105) .nil)) .nil))))
noncomputable def ZgF:PS:=(.assign (.loc 136) (.list false .nil))
noncomputable def Zhw:PS:=(.loop [25] (.call true (.glob 44) (.cons (.bin true .mod (.call true (.glob 9) (.cons (.loc 24) (.cons (.cst (.int 2)) .nil))) (.cst (.int 4))) .nil)) Zev)
noncomputable def ZgA:PS:=(.expr (.meth true (.loc 106) 85 .nil))
noncomputable def Zg8:PS:=(.assign (.loc 140) (.call true (.glob 41) (.cons (.loc 105) .nil)))
noncomputable def Zgq:PS:=(.ite (.e (.cmp .eq (.bin true .mod (.call true (.glob 9) (.cons (.loc 24) (.cons (.cst (.int 3)) .nil))) (.cst (.int 2))) (.cst (.int 1)))) (.cons (.assign (.loc 140) (.comp true (.idx (.loc 105) (.loc 25)) [25] (.call true (.glob 44) (.cons (.call true (.glob 46) (.cons (.loc 105) .nil)) .nil)) (.some (.e (.cmp .gt (.bin true .mod (.bin true .fdiv (.call true (.glob 9) (.cons (.loc 24) (.cons (.cst (.int 3)) .nil))) (.bin true .add (.cst (.int 2)) (.loc 25))) (.cst (.int 3))) (.cst (.int 0)))))))
 (.cons (.loop [29] (.loc 105) Zdh)
 .nil)) .nil)
noncomputable def Zhp:PS:=(.ite (.e (.cmp .eq (.loc 140) (.list true .nil))) (.cons (.ret (.some (.cmp .eq (.comp true (.meth true (.loc 106) 96 (.cons (.loc 29) .nil)) [29] (.loc 105) .none) (.bin true .mul (.list true (.cons (.cst (.bool false)) .nil)) (.call true (.glob 46) (.cons (.loc 105) .nil))))))
 .nil) .nil)
noncomputable def ZiP:PS:=(.assign (.loc 160) (.call true (.glob 11) (.cons (.bin true .add (.cst (.int 1)) (.call true (.glob 9) (.cons (.loc 24) (.cons (.cst (.int 4)) .nil)))) (.cons (.loc 28) .nil))))
noncomputable def Zis:PS:=(.ite (.e (.cmp .eq (.loc 160) (.list true .nil))) (.cons (.assign (.loc 160) (.list true (.cons (.cst (.int 0)) .nil)))
 .nil) .nil)
noncomputable def ZeX:PS:=(.assign (.loc 39) (.call false (.glob 41) (.cons (.loc 160) .nil)))
noncomputable def Zfm:PS:=(.ite (.or (.cons (.e (.cmp .isNot (.meth true (.loc 106) 78 (.cons (.idx (.loc 140) (.bin true .mod (.call true (.glob 9) (.cons (.loc 24) (.cons (.cst (.int 5)) .nil))) (.call true (.glob 46) (.cons (.loc 140) .nil)))) (.cons (.loc 39) .nil))) (.cst .none))) (.cons (.e (.cmp .ne (.loc 39) (.loc 160))) .nil))) (.cons (.ret (.some (.cst (.bool false))))
 .nil) .nil)
noncomputable def ZeY:PS:=(.expr (.meth true (.loc 39) 0 (.cons (.cst (.int 0)) .nil)))
noncomputable def ZiU:PS:=(.expr (.meth true (.loc 106) 85 .nil))
noncomputable def Ze1:PS:=(.ite (.e (.cmp .le (.bin true .mul (.cst (.int 2)) (.call true (.glob 46) (.cons (.loc 140) .nil))) (.call true (.glob 46) (.cons (.loc 105) .nil)))) (.cons (.ret (.some (.call true (.glob 157) (.cons (.loc 106) (.cons (.loc 140) (.cons (.loc 105) (.cons (.loc 136) .nil)))))))
 .nil) .nil)
noncomputable def ZeR:PS:=(.loop [29] (.call true (.glob 44) (.cons (.loc 28) .nil)) ZdB)
noncomputable def Zft:PS:=(.ret (.some (.cst (.bool true))))
noncomputable def Zl0:Fn:=⟨[24],(.cons Zhz (.cons Zkj (.cons ZjZ (.cons ZgB (.cons ZgF (.cons Zhw (.cons ZgA (.cons Zg8 (.cons Zgq (.cons Zhp (.cons ZiP (.cons Zis (.cons ZeX (.cons Zfm (.cons ZeY (.cons ZiU (.cons Ze1 (.cons ZeR (.cons Zft .nil)))))))))))))))))))⟩
noncomputable def tb:Tb where
 nms:=[(0,"append"),(1,"pop"),(2,"extend"),(3,"get"),(4,"setdefault"),(5,"whole"),(6,"enough"),(7,"is_list"),(9,"_law_draw"),(11,"_law_hands"),(14,"law"),(16,"thing"),(17,"members"),(18,"many"),(19,"ahead"),(20,"hand"),(21,"rows"),(23,"row"),(24,"_law_script"),(25,"_law_k"),(26,"_law_found"),(27,"_law_bits"),(28,"_law_many"),(29,"_law_hand"),(39,"_law_handed"),(41,"list"),(42,"isinstance"),(43,"int"),(44,"range"),(46,"len"),(47,"bool"),(52,"BadHand"),(53,"BadList"),(54,"NoLetter"),(55,"Fallen"),(56,"Outside"),(59,"Hand"),(60,"Folk"),(65,"__init__"),(66,"begin"),(67,"goes_into"),(68,"others"),(69,"held_by_enough"),(70,"put_forward"),(71,"MOST"),(72,"hand_of"),(73,"able"),(74,"inside"),(75,"send"),(76,"say"),(78,"propose"),(80,"fall"),(81,"letter_at"),(84,"come"),(85,"calm"),(86,"taken_up"),(87,"wished"),(88,"held"),(89,"look"),(90,"prepared"),(91,"promised"),(92,"accepted"),(93,"agreed_to"),(94,"entered"),(96,"stands"),(97,"list_of"),(98,"taken"),(99,"is_still"),(100,"witness"),(101,"past"),(105,"_law_first"),(106,"_law_folk"),(108,"self"),(109,"number"),(110,"place"),(111,"highest"),(112,"said"),(113,"up"),(114,"gone"),(115,"news"),(116,"took"),(117,"still"),(118,"ballot"),(119,"agreed"),(120,"offer"),(121,"holds"),(122,"first"),(123,"hands"),(124,"under"),(125,"one"),(126,"word"),(127,"to"),(128,"content"),(130,"sender"),(131,"message"),(136,"_law_said"),(140,"_law_up"),(143,"counts"),(144,"best"),(145,"most"),(146,"promises"),(147,"value"),(148,"is_over"),(149,"agrees"),(150,"sorted"),(151,"max"),(152,"set"),(154,"min"),(155,"Offer"),(156,"_law_list"),(157,"_law_stays"),(158,"_law_witness"),(159,"_law_went"),(160,"_law_wish"),(161,"_law_one")].map fun x=>(x.1,Str.ofString x.2)
 fns:=[(5,.g "whole",Zgy),
  (6,.g "enough",Zfj),
  (7,.g "is_list",Zd0),
  (274,.m "Offer" "__init__",Za9),
  (237,.m "Hand" "__init__",Zbp),
  (238,.m "Hand" "begin",Zb3),
  (239,.m "Hand" "goes_into",Za6),
  (240,.m "Hand" "others",Zdr),
  (241,.m "Hand" "held_by_enough",ZaB),
  (242,.m "Hand" "put_forward",ZaP),
  (243,.m "Folk" "__init__",Zbq),
  (244,.m "Folk" "hand_of",ZbD),
  (245,.m "Folk" "able",ZcF),
  (246,.m "Folk" "inside",ZbQ),
  (247,.m "Folk" "send",Zeq),
  (248,.m "Folk" "say",ZcZ),
  (270,.m "Folk" "propose",ZbA),
  (249,.m "Folk" "fall",Zcj),
  (250,.m "Folk" "letter_at",Za8),
  (251,.m "Folk" "come",ZcK),
  (252,.m "Folk" "calm",Zcx),
  (253,.m "Folk" "taken_up",Zbk),
  (254,.m "Folk" "wished",ZbP),
  (255,.m "Folk" "held",Zck),
  (256,.m "Folk" "look",Zcm),
  (257,.m "Folk" "prepared",Zbe),
  (258,.m "Folk" "promised",Zbs),
  (259,.m "Folk" "accepted",Zbi),
  (260,.m "Folk" "agreed_to",Za5),
  (261,.m "Folk" "entered",Zbx),
  (263,.m "Folk" "stands",ZbM),
  (264,.m "Folk" "list_of",ZbE),
  (265,.m "Folk" "taken",Zb0),
  (266,.m "Folk" "is_still",Zbb),
  (267,.m "Folk" "witness",ZbH),
  (268,.m "Folk" "past",ZcG),
  (9,.g "_law_draw",Zcg),
  (11,.g "_law_hands",Zb4),
  (156,.g "_law_list",ZcI),
  (157,.g "_law_stays",ZbY),
  (158,.g "_law_witness",ZbB),
  (159,.g "_law_went",Zch),
  (14,.g "law",Zl0)]
 globs:=[(5,.fn 5),(6,.fn 6),(7,.fn 7),(9,.fn 9),(11,.fn 11),(156,.fn 156),(157,.fn 157),(158,.fn 158),(159,.fn 159),(14,.fn 14),(155,.cls 155),(59,.cls 59),(60,.cls 60),(52,.cls 52),(53,.cls 53),(54,.cls 54),(55,.cls 55),(56,.cls 56),(71,.int 9),(43,.bt .int),(47,.bt .bool),(41,.bt .list),(44,.bt .range),(152,.bt .set),(46,.bt .len),(42,.bt .isinstance),(151,.bt .max),(154,.bt .min),(150,.bt .sorted)]
 clss:=[(155,"Offer",⟨some 274,[],[118,123,146,147,149,148]⟩),
  (59,"Hand",⟨some 237,[(66,238),(67,239),(68,240),(69,241),(70,242)],[109,110,111,17,112,113,114,115,23,116,117,118,119,120,121]⟩),
  (60,"Folk",⟨some 243,[(72,244),(73,245),(74,246),(75,247),(76,248),(78,270),(80,249),(81,250),(84,251),(85,252),(86,253),(87,254),(88,255),(89,256),(90,257),(91,258),(92,259),(93,260),(94,261),(96,263),(97,264),(98,265),(99,266),(100,267),(101,268)],[18,123,124]⟩)]
 excs:=[(52,"BadHand"),(53,"BadList"),(54,"NoLetter"),(55,"Fallen"),(56,"Outside")]
 subs:=[(52,52),(53,53),(54,54),(55,55),(56,56)]
 quiet:=[]
 qg:=[]
 nAppend:=0
 nPop:=1
 nExtend:=2
 nGet:=3
 nSetdefault:=4
theorem Zaa {α:Type}{o:Option α}{a:α}{k:α->Prop}(e:o=some a)(h:k a):need o k:=by subst e; exact h
theorem Zht {b:Bool}{t e:Prop}(q:b=true)(h:t):Br b t e:=by subst q; exact h
theorem Zei {b:Bool}{t e:Prop}(q:b=false)(h:e):Br b t e:=by subst q; exact h
theorem ZbV {b:Bool}{t e:Prop}(h1:b=true->t)(h2:b=false->e):Br b t e:=by
 cases b with
 | true=>exact h1 rfl
 | false=>exact h2 rfl
section
variable {P:Prog}{n:Nat}{Q:V->Hp->Prop}{E:Nat->Hp->Prop}
theorem Zad {f:Nat}{as:List V}{H:Hp}(ps:List Nat)(body:PSs)(m:Loc)(hf:P.fn f=some ⟨ps,body⟩)(hb:bindP ps as (fun ø=>none)=some m)(h:wpSs P (CW P n) body ⟨H,m⟩ (fun fl σ=>Q (retV fl) σ.H) fun e σ=>E e σ.H):CW P (n+1) f as H Q E:=
 .run (Zaa hf (Zaa hb h))
end
noncomputable def folkC (m:V)(hs:List V):C:=.inst 60 [(18,m),(123,.lst hs),(124,.ref 1)]
noncomputable def ltr (w:Str)(a p c:V)(t:V):V:=.tup [.str w,a,t,p,c]
section
variable {n:Nat}{m:V}{hs u:List V}{k:Nat}{fs:List (Nat×V)}{r:List (Option C)}{Q:V->Hp->Prop}{E:Nat->Hp->Prop}
theorem f247:tb.P.fn 247=some ⟨[108,126,125,127,128],.cons (.loop [20] (.loc 127) ZaE) .nil⟩:=by kernel_rfl
theorem ZfX (K:CT)(w:Str)(c a p v:V)(lo:Loc)(Q:Flow->St->Prop)(E:EP)(h1:lo 108=some (.ref 0))(h2:lo 126=some (.str w))(h3:lo 125=some (.ref 2))(h4:lo 128=some c)(g1:lk fs 109=some a)(g2:lk fs 110=some p)(hu:u.length < SZ)
  (h:Q .next ⟨⟨some (folkC m hs)::some (.list (u++[ltr w a p c v]))::some (.inst k fs)::r⟩,upd lo 20 v⟩):
  wpSs tb.P K ZaE ⟨⟨some (folkC m hs)::some (.list u)::some (.inst k fs)::r⟩,upd lo 20 v⟩ Q E:=by
 refine Zaa (o:=lo 108) h1 ?_
 refine ⟨rfl, ?_⟩
 refine Zaa (o:=lo 126) h2 ?_
 refine Zaa (o:=lo 125) h3 ?_
 refine Zaa (o:=lk fs 109) g1 ?_
 refine Zaa (o:=lo 125) h3 ?_
 refine Zaa (o:=lk fs 110) g2 ?_
 refine Zaa (o:=lo 128) h4 ?_
 exact ⟨Nat.le_of_ble_eq_true rfl,hu,h⟩
theorem Zhh (K:CT)(w:Str)(c a p:V)(to:List V)(Q:Flow->St->Prop)(g1:lk fs 109=some a)(g2:lk fs 110=some p):∀(vs u:List V) (lo:Loc),lo 108=some (.ref 0)->lo 126=some (.str w)->lo 125=some (.ref 2)->lo 128=some c->u.length+vs.length<=SZ->
  (∀lo',Q .next ⟨⟨some (folkC m hs)::some (.list (u++vs.map (ltr w a p c)))::some (.inst k fs)::r⟩,lo'⟩)->
  loopGo (fun v σ2 k=>bindT [20] v σ2 fun σ3=>wpSs tb.P K ZaE σ3 k noE) (still (.lst to) to) vs ⟨⟨some (folkC m hs)::some (.list u)::some (.inst k fs)::r⟩,lo⟩ Q:=by
 intro zz0
 induction zz0 with
 | nil=>
  intro u lo h1 h2 h3 h4 hz h
  have h:=h lo
  rw [List.map_nil,List.append_nil] at h
  exact ⟨rfl,h⟩
 | cons v vs ih=>
  intro u lo h1 h2 h3 h4 hz h
  rw [List.length_cons] at hz
  refine ⟨rfl,ZfX K w c a p v lo _ _ h1 h2 h3 h4 g1 g2 (by exact la1 hz) ?_⟩
  refine ih (u++[ltr w a p c v]) (upd lo 20 v) h1 h2 h3 h4 (by rw [List.length_append]; show u.length+1+_<=_; exact la2 hz) fun lo'=>?_
  have h:=h lo'
  rw [List.map_cons,List.append_cons] at h
  exact h
theorem Zbm {w:Str}{to:List V}{c a p:V}(g1:lk fs 109=some a)(g2:lk fs 110=some p)(hz:u.length+to.length<=SZ)(h:Q .none ⟨some (folkC m hs)::some (.list (u++to.map (ltr w a p c)))::some (.inst k fs)::r⟩):
  CW tb.P (n+1) 247 [.ref 0,.str w,.ref 2,.lst to,c] ⟨some (folkC m hs)::some (.list u)::some (.inst k fs)::r⟩ Q E:=
 Zad _ _ _ f247 rfl (Zhh (CW tb.P n) w c a p to _ g1 g2 to u _ rfl rfl rfl rfl hz fun lo'=>h)
end
structure Msg where
 h:Int
 n:Int
 w:Str
noncomputable def Msg.v (m:Msg):V:=.tup [.int m.h,.int m.n,.str m.w]
noncomputable def iV (l:List Int):List V:=l.map .int
noncomputable def mV (l:List Msg):List V:=l.map Msg.v
noncomputable def hoV (l:List (Int×Int)):List (V×V):=l.map fun x=>(.int x.1,.int x.2)
theorem Zae (l:List Int):(iV l).length=l.length:=List.length_map ..
theorem Zap (l:List Msg):(mV l).length=l.length:=List.length_map ..
theorem ZkZ (l:List (Int×Int)):(hoV l).length=l.length:=List.length_map ..
noncomputable abbrev Bal:=Int×Int
noncomputable def bV (b:Bal):V:=.tup [.int b.1,.int b.2]
structure Val where
 hs:List Int
 row:List Msg
noncomputable def Val.v (x:Val):V:=.tup [.lst (iV x.hs),.lst (mV x.row)]
noncomputable def vV:Option Val->V
 | none=>.none
 | some x=>x.v
structure Acc where
 b:Bal
 x:Val
noncomputable def Acc.v (a:Acc):V:=.tup [bV a.b,a.x.v]
noncomputable def aV:Option Acc->V
 | none=>.none
 | some a=>a.v
structure News where
 no:Int
 hs:List Int
 row:List Msg
 wit:List Int
noncomputable def News.v (w:News):V:=.tup [.int w.no,.lst (iV w.hs),.lst (mV w.row),.lst (iV w.wit)]
noncomputable def nV:Option News->V
 | none=>.none
 | some w=>w.v
noncomputable def plV:Option Int->V
 | none=>.none
 | some i=>.int i
set_option genCtorIdx true in
inductive Cont where
 | wish (m:Msg)
 | hold (m:Msg) (p:Int)
 | have_ (n:Int)
 | take (n:Int)
 | prep (b:Bal)
 | prom (b:Bal) (row:List Msg) (a:Option Acc)
 | acc (a:Acc)
 | agr (b:Bal)
 | ent (w:News)
structure Letter where
 from_:Int
 to:Int
 pl:Int
 c:Cont
noncomputable def Cont.word:Cont->Str
 | .wish _=>ZeS
 | .hold _ _=>ZdX
 | .have_ _=>Zcl
 | .take _=>ZgV
 | .prep _=>Zbo
 | .prom _ _ _=>Zcp
 | .acc _=>ZdA
 | .agr _=>ZhF
 | .ent _=>Zcu
noncomputable def Cont.v:Cont->V
 | .wish m=>m.v
 | .hold m p=>.tup [m.v,.int p]
 | .have_ n=>.int n
 | .take n=>.int n
 | .prep b=>bV b
 | .prom b row a=>.tup [bV b,.lst (mV row),aV a]
 | .acc a=>a.v
 | .agr b=>bV b
 | .ent w=>w.v
noncomputable def Letter.v (l:Letter):V:=.tup [.str l.c.word,.int l.from_,.int l.to,.int l.pl,l.c.v]
noncomputable def lV (l:List Letter):List V:=l.map Letter.v
theorem Zba (l:List Letter):(lV l).length=l.length:=List.length_map ..
noncomputable abbrev PR:=List Msg×Option Acc
noncomputable def prV (l:List (Int×PR)):List (V×V):=l.map fun p=>(.int p.1,.tup [.lst (mV p.2.1),aV p.2.2])
noncomputable def agV (l:List Int):List (V×V):=l.map fun i=>(.int i,.bool true)
structure Off where
 b:Bal
 hs:List Int
 prom:List (Int×PR)
 val:Option Val
 agr:List Int
 over:Bool
noncomputable abbrev Gn:=Int×List Int×List Msg
noncomputable def gV (l:List Gn):List V:=l.map fun g=>.tup [.int g.1,.lst (iV g.2.1),.lst (mV g.2.2)]
structure Hd where
 place:Option Int
 hi:Int
 ms:List Int
 said:Int
 up:Bool
 gone:List Gn
 news:Option News
 row:List Msg
 took:Int
 still:Bool
 bal:Bal
 agd:Option Acc
 off:Option Off
 holds:List (Int×Int)
structure Lh where
 r:Nat
 d:Nat
 g:Nat
 o:Nat
 p:Nat
 a:Nat
noncomputable def oR:Option Off->Nat->V
 | none,_=>.none
 | some _,i=>.ref i
noncomputable def hFL (k:Int)(x:Hd)(l:Lh):List (Nat×V):=[(109,.int k),(110,plV x.place),(111,.int x.hi),(17,.lst (iV x.ms)),(112,.int x.said),(113,.bool x.up),(114,.ref l.g),(115,nV x.news),(23,.ref l.r),(116,.int x.took),(117,.bool x.still),(118,bV x.bal),(119,aV x.agd),(120,oR x.off l.o),(121,.ref l.d)]
noncomputable def oFL (o:Off)(p a:Nat):List (Nat×V):=[(118,bV o.b),(123,.lst (iV o.hs)),(146,.ref p),(147,vV o.val),(149,.ref a),(148,.bool o.over)]
noncomputable def l0:Lh:=⟨3,4,5,6,7,8⟩
noncomputable def oC:Option Off->Option C
 | none=>none
 | some o=>some (.inst 155 (oFL o 7 8))
noncomputable def pC:Option Off->Option C
 | none=>none
 | some o=>some (.dict (prV o.prom))
noncomputable def aC:Option Off->Option C
 | none=>none
 | some o=>some (.dict (agV o.agr))
noncomputable def fA (m:V)(hs:List V)(U:List Letter)(k:Int)(x:Hd)(g:List (Option C)):List (Option C):=
 some (folkC m hs)::some (.list (lV U))::some (.inst 59 (hFL k x l0))::some (.list (mV x.row))::some (.dict (hoV x.holds))::some (.list (gV x.gone))::oC x.off::pC x.off::aC x.off::none::none::none::none::none::none::none::none::none::none::g
noncomputable def sendF (k pl:Int)(ts:List Int)(c:Cont):List Letter:=ts.map fun t=>⟨k,t,pl,c⟩
theorem Zg9 (k pl:Int)(ts:List Int)(c:Cont):(sendF k pl ts c).length=ts.length:=List.length_map ..
theorem ZbX {U:List Letter}{n pl:Int}{ts:List Int}{c:Cont}:lV U++(iV ts).map (ltr c.word (.int n) (.int pl) c.v)=lV (U++sendF n pl ts c):=by
 unfold lV iV sendF
 rw [List.map_append,List.map_map,List.map_map]; rfl
theorem Zeb {U:List Letter}{n pl t:Int}{c:Cont}:lV U++[ltr c.word (.int n) (.int pl) c.v (.int t)]=lV (U++[⟨n,t,pl,c⟩]):=by
 unfold lV
 rw [List.map_append]; rfl
noncomputable def oth (n:Int)(ms:List Int):List Int:=ms.filter fun x=>!decide (x=n)
theorem Zde (n:Int)(a:List Int):(oth n a).length<=a.length:=List.length_filter_le ..
section
variable {n:Nat}{Q:V->Hp->Prop}{E:Nat->Hp->Prop}
noncomputable abbrev othT:PC:=.e (.cmp .ne (.loc 20) (.attr (.loc 108) 109))
theorem f240:tb.P.fn 240=some ⟨[108],.cons (.ret (.some (.comp true (.loc 20) [20] (.attr (.loc 108) 17) (.some othT)))) .nil⟩:=by kernel_rfl
theorem Zif (K:CT){a b:Option C}{fs:List (Nat×V)}{r:List (Option C)}{k:Int}(g2:lk fs 109=some (.int k))(ms:List V)(Q:List V->St->Prop):∀(xs acc:List Int) (lo:Loc),lo 108=some (.ref 2)->acc.length+xs.length<=SZ->(∀lo',Q (iV (acc++oth k xs)) ⟨⟨a::b::some (.inst 59 fs)::r⟩,lo'⟩)->
  compGo (fun σ2 k=>wpC tb.P K noE (.some othT) σ2 k) (fun σ2 k=>wpE tb.P K noE (.loc 20) σ2 k) [20] (still (.lst ms) ms) (iV xs) (iV acc) ⟨⟨a::b::some (.inst 59 fs)::r⟩,lo⟩ Q:=by
 intro zz0
 induction zz0 with
 | nil=>
  intro acc lo h1 hz h
  have h:=h lo
  rw [show oth k []=[] from rfl,List.append_nil] at h
  exact ⟨rfl,by rw [Zae]; exact hz,h⟩
 | cons x xs ih=>
  intro acc lo h1 hz h
  rw [List.length_cons] at hz
  refine ⟨rfl,by rw [Zae]; exact la1 hz, ?_⟩
  refine Zaa (o:=lo 108) h1 ?_
  refine Zaa (o:=lk fs 109) g2 ?_
  refine ZbV (fun c=>?_) fun c=>?_
  ·have c:decide (x=k)=false:=by have c:(!decide (x=k))=true:=c; cases q:decide (x=k) with | false=>rfl | true=>rw [q] at c; cases c
   have e:iV acc++[.int x]=iV (acc++[x]):=by unfold iV; rw [List.map_append]; rfl
   show compGo _ _ [20] _ (iV xs) (iV acc++[.int x]) ⟨_,upd lo 20 (.int x)⟩ Q
   rw [e]
   refine ih (acc++[x]) _ h1 (by rw [List.length_append]; show acc.length+1+_<=_; exact la2 hz) fun lo'=>?_
   have h:=h lo'
   rw [show oth k (x::xs)=x::oth k xs by unfold oth; rw [List.filter_cons,c]; rfl,List.append_cons] at h
   exact h
  ·have c:decide (x=k)=true:=by have c:(!decide (x=k))=false:=c; cases q:decide (x=k) with | true=>rfl | false=>rw [q] at c; cases c
   refine ih acc _ h1 (by exact la3 hz) fun lo'=>?_
   have h:=h lo'
   rw [show oth k (x::xs)=oth k xs by unfold oth; rw [List.filter_cons,c]; rfl] at h
   exact h
theorem Zj5 {a b:Option C}{fs:List (Nat×V)}{r:List (Option C)}{k:Int}{ms:List Int}(g1:lk fs 17=some (.lst (iV ms)))(g2:lk fs 109=some (.int k))(hz:ms.length<=SZ)(h:Q (.lst (iV (oth k ms))) ⟨a::b::some (.inst 59 fs)::r⟩):
  CW tb.P (n+1) 240 [.ref 2] ⟨a::b::some (.inst 59 fs)::r⟩ Q E:=by
 refine Zad _ _ _ f240 rfl ?_
 refine Zaa (o:=lk fs 17) g1 ?_
 refine Zif (CW tb.P n) g2 (iV ms) _ ms [] _ rfl (by rw [show ([]:List Int).length=0 from rfl,Nat.zero_add]; exact hz) fun lo'=>?_
 exact ⟨by rw [List.nil_append,Zae]; exact Nat.le_trans (Zde k ms) hz,h⟩
end
noncomputable def hoD:List (Int×Int)->Int->Int
 | [],_=>0
 | p::r,x=>cond (decide (p.1=x)) p.2 (hoD r x)
theorem ZdI (hd:List (Int×Int))(x:Int):keyOk (dKeys (hoV hd)) (.int x)=true:=by
 have:∀hd:List (Int×Int),(dKeys (hoV hd)).all isI=true:=fun hd=>by
  induction hd with
  | nil=>rfl
  | cons p r ih=>exact ih
 exact this hd
theorem ZgG (x:Int):∀hd:List (Int×Int),(dGet (hoV hd) (.int x)).getD (.int 0)=.int (hoD hd x):=by
 intro zz0
 induction zz0 with
 | nil=>
  exact rfl
 | cons p r ih=>
  show Option.getD (cond (decide (p.1=x)) (some (V.int p.2)) (dGet (hoV r) (.int x))) _=.int (cond (decide (p.1=x)) p.2 (hoD r x))
  cases decide (p.1=x) with
  | true=>rfl
  | false=>exact ih
theorem Zbg:∀l:List Int,intsOf (iV l)=some l:=by
 intro zz0
 induction zz0 with
 | nil=>
  exact rfl
 | cons x r ih=>
  show (match intsOf (iV r) with | some l=>some (x::l) | none=>none)=_
  rw [ih]
noncomputable def cnts (n:Int)(ms:List Int)(len:Nat)(hd:List (Int×Int)):List Int:=(len:Int)::(oth n ms).map (hoD hd)
noncomputable def hbe (n:Int)(ms:List Int)(len:Nat)(hd:List (Int×Int)):Int:=((srt (cnts n ms len hd)).reverse)[ms.length / 2]?.getD 0
theorem ZiS (n:Nat):Int.fdiv (n:Int) 2+1 - 1=((n / 2:Nat):Int):=by
 have:Int.fdiv (n:Int) 2=((n / 2:Nat):Int):=by rw [Int.fdiv_eq_ediv_of_nonneg _ (by decide)]; rfl
 lia
theorem Zkt (x:Int):∀l:List Int,(ins x l).length=l.length+1:=by
 intro zz0
 induction zz0 with
 | nil=>
  exact rfl
 | cons y r ih=>
  show (if x<=y then x::y::r else y::ins x r).length=_
  by_cases h:x<=y
  ·rw [if_pos h]; rfl
  ·rw [if_neg h]; exact congrArg (·+1) (ih)
theorem Zer:∀l:List Int,(srt l).length=l.length:=by
 intro zz0
 induction zz0 with
 | nil=>
  exact rfl
 | cons x r ih=>
  exact (Zkt x _).trans (congrArg (·+1) (ih))
theorem Zaz {i n:Nat}(h:i < n):pyIdx (i:Int) n=some i:=by
 unfold pyIdx
 rw [if_pos (Int.natCast_nonneg i),if_pos (Int.ofNat_lt.mpr h)]; rfl
section
variable {n:Nat}{m:V}{hs:List V}{U:List Letter}{k:Int}{x:Hd}{Q:V->Hp->Prop}{E:Nat->Hp->Prop}
theorem f6:tb.P.fn 6=some Zfj:=by kernel_rfl
theorem Zdk {H:Hp}{l:List V}(h:Q (.int (Int.fdiv (l.length:Int) 2+1)) H):CW tb.P (n+1) 6 [.lst l] H Q E:=
 Zad _ _ _ f6 rfl ⟨⟨by decide,by decide⟩,h⟩
theorem f241:tb.P.fn 241=some ZaB:=by kernel_rfl
theorem Zh8 (K:CT)(to:List V)(len:Int)(Q:Flow->St->Prop):∀(vs acc:List Int) (lo:Loc),lo 143=some (.ref 19)->lo 108=some (.ref 2)->acc.length+vs.length+1<=SZ->
  (∀lo':Loc,lo' 143=some (.ref 19)->lo' 108=some (.ref 2)->Q .next ⟨⟨fA m hs U k x [some (.list (iV (len::(acc++vs).map (hoD x.holds))))]⟩,lo'⟩)->
  loopGo (fun v σ2 k=>bindT [20] v σ2 fun σ3=>wpSs tb.P K Zau σ3 k noE) (still (.lst to) to) (iV vs) ⟨⟨fA m hs U k x [some (.list (iV (len::acc.map (hoD x.holds))))]⟩,lo⟩ Q:=by
 intro zz0
 induction zz0 with
 | nil=>
  intro acc lo h1 h2 hz h
  have h:=h lo h1 h2
  rw [List.append_nil] at h
  exact ⟨rfl,h⟩
 | cons v vs ih=>
  intro acc lo h1 h2 hz h
  rw [List.length_cons] at hz
  refine ⟨rfl, ?_⟩
  refine Zaa (o:=lo 143) h1 ?_
  refine ⟨rfl, ?_⟩
  refine Zaa (o:=lo 108) h2 ?_
  refine ⟨rfl, ?_⟩
  refine ⟨ZdI x.holds v, ?_⟩
  refine ⟨?_, ?_⟩
  ·show (iV (len::acc.map (hoD x.holds))).length < SZ
   rw [Zae,List.length_cons,List.length_map]; exact lf6 hz
  ·show loopGo _ _ (iV vs) ⟨⟨fA m hs U k x [some (.list (iV (len::acc.map (hoD x.holds))++[(dGet (hoV x.holds) (.int v)).getD (.int 0)]))]⟩,upd lo 20 (.int v)⟩ Q
   rw [ZgG,show iV (len::acc.map (hoD x.holds))++[.int (hoD x.holds v)]=iV (len::(acc++[v]).map (hoD x.holds)) by unfold iV; rw [List.map_append,List.map_cons,List.map_cons,List.map_append]; rfl]
   refine ih (acc++[v]) _ h1 h2 (by rw [List.length_append]; show acc.length+1+_+1<=_; exact lf7 hz) fun lo' q1 q2=>?_
   have h:=h lo' q1 q2
   rw [List.append_cons] at h
   exact h
theorem Znh (hz:x.ms.length<=50)(hn:x.ms.length / 2 < (oth k x.ms).length+1)(h:Q (.int (hbe k x.ms x.row.length x.holds)) ⟨fA m hs U k x [some (.list (iV (cnts k x.ms x.row.length x.holds)))]⟩):
  CW tb.P (n+2) 241 [.ref 2] ⟨fA m hs U k x []⟩ Q E:=by
 have lo:=Zde k x.ms
 refine Zad _ _ _ f241 rfl ?_
 refine ⟨Nat.le_of_ble_eq_true rfl, ?_⟩
 refine Zj5 (ms:=x.ms) (k:=k) rfl rfl (by unfold SZ; exact la7 hz rfl) ?_
 show loopGo _ (still (.lst (iV (oth k x.ms))) (iV (oth k x.ms))) (iV (oth k x.ms)) ⟨⟨fA m hs U k x [some (.list [.int (mV x.row).length])]⟩,_⟩ _
 rw [Zap]
 refine Zh8 (CW tb.P (n+1)) (iV (oth k x.ms)) x.row.length _ (oth k x.ms) [] _ rfl rfl (by show 0+_+1<=SZ; unfold SZ; lia) fun lo' h1 h2=>?_
 have ln:(cnts k x.ms x.row.length x.holds).length=(oth k x.ms).length+1:=congrArg (·+1) (List.length_map ..)
 refine ⟨rfl, ?_⟩
 refine Zaa (o:=lo' 143) h1 ?_
 refine Zaa (o:=intsOf (iV (cnts k x.ms x.row.length x.holds))) (Zbg _) ?_
 refine ⟨by rw [ln]; lia, ?_⟩
 refine ⟨by rw [List.length_map,List.length_reverse,Zer,ln]; unfold SZ; lia, ?_⟩
 refine Zaa (o:=lo' 108) h2 ?_
 refine Zdk ?_
 have hl':x.ms.length / 2 < (srt (cnts k x.ms x.row.length x.holds)).reverse.length:=by rw [List.length_reverse,Zer,ln]; exact hn
 have hl:x.ms.length / 2 < ((srt (cnts k x.ms x.row.length x.holds)).reverse.map V.int).length:=by rw [List.length_map]; exact hl'
 refine Zaa (o:=pyIdx (Int.fdiv ((iV x.ms).length:Int) 2+1 - 1) ((srt (cnts k x.ms x.row.length x.holds)).reverse.map V.int).length) (a:=x.ms.length / 2) (by rw [Zae,ZiS]; exact Zaz hl) ?_
 refine Zaa (o:=((srt (cnts k x.ms x.row.length x.holds)).reverse.map V.int)[x.ms.length / 2]?) (a:=.int (hbe k x.ms x.row.length x.holds)) ?_ h
 rw [List.getElem?_map,List.getElem?_eq_getElem hl']
 unfold hbe
 rw [List.getElem?_eq_getElem hl']; rfl
end
noncomputable def lookF (k pl:Int)(x:Hd)(U:List Letter):Hd×List Letter:=cond (decide (x.took < hbe k x.ms x.row.length x.holds))
 ({ x with took:=hbe k x.ms x.row.length x.holds },U++sendF k pl (oth k x.ms) (.take (hbe k x.ms x.row.length x.holds))) (x,U)
theorem Zb5 {α:Type}{b:Bool}{t e:α}(c:b=true):cond b t e=t:=by subst c; rfl
theorem ZbT {α:Type}{b:Bool}{t e:α}(c:b=false):cond b t e=e:=by subst c; rfl
theorem gv {fz:Bool}{σ:St}{Q:V->St->Prop}{v:V}(hv:aRef v=none)(h:Q v σ):giveV fz σ Q v:=by
 cases fz with
 | false=>exact h
 | true=>
  show (match aRef v with | some i=>(match cL (σ.H.get i) with | some xs=>Q (.lst xs) (σ.setH (σ.H.del i)) | none=>Q v σ) | none=>Q v σ)
  rw [hv]; exact h
noncomputable def hasM (row:List Msg)(m:Msg):Bool:=(mV row).any fun z=>eqD z m.v
theorem ZgY {H:Hp}{n:Nat}:∀row:List Msg,deepL (deepN H (n+2)) (mV row)=some (mV row):=by
 intro zz0
 induction zz0 with
 | nil=>
  exact rfl
 | cons m r ih=>
  show (match some m.v with | some y=>(match deepL (deepN H (n+2)) (mV r) with | some ys=>some (y::ys) | none=>none) | none=>none)=_
  rw [ih]; rfl
theorem ZaI {x:Hd}{pl:Int}(hp:x.place=some pl):some (plV x.place)=some (V.int pl):=by rw [hp]; rfl
section
variable {n:Nat}{m:V}{hs:List V}{U:List Letter}{k pl:Int}{x:Hd}{Q:V->Hp->Prop}{E:Nat->Hp->Prop}
theorem f256:tb.P.fn 256=some Zcm:=by kernel_rfl
theorem Zji (hp:x.place=some pl)(hz:x.ms.length<=50)(hn:x.ms.length / 2 < (oth k x.ms).length+1)(hU:U.length+50<=SZ)(h:∀g,Q .none ⟨fA m hs (lookF k pl x U).2 k (lookF k pl x U).1 g⟩):
  CW tb.P (n+3) 256 [.ref 0,.ref 2] ⟨fA m hs U k x []⟩ Q E:=by
 have lo:=Zde k x.ms
 unfold lookF at h
 refine Zad _ _ _ f256 rfl ?_
 refine Znh hz hn ?_
 refine ZbV (b:=decide (x.took < hbe k x.ms x.row.length x.holds)) (fun c=>?_) fun c=>?_
 ·rw [Zb5 c] at h
  refine ⟨rfl,Nat.le_of_ble_eq_true rfl, ?_⟩
  refine Zj5 (ms:=x.ms) (k:=k) rfl rfl (by unfold SZ; exact la7 hz rfl) ?_
  refine Zbm (a:=.int k) (p:=.int pl) rfl (ZaI hp) (by rw [Zba,Zae]; exact la9 hU (Nat.le_trans lo hz)) ?_
  have h:=h [some (.list (iV (cnts k x.ms x.row.length x.holds)))]
  have e:=ZbX (U:=U) (n:=k) (pl:=pl) (ts:=oth k x.ms) (c:=.take (hbe k x.ms x.row.length x.holds))
  have h:Q .none ⟨some (folkC m hs)::some (.list (lV (U++sendF k pl (oth k x.ms) (.take (hbe k x.ms x.row.length x.holds)))))::_⟩:=h
  rw [← e] at h
  exact h
 ·rw [ZbT c] at h
  exact h _
theorem f254:tb.P.fn 254=some ZbP:=by kernel_rfl
noncomputable def wishF (k pl:Int)(x:Hd)(U:List Letter)(m:Msg):Hd×List Letter:=cond x.still (x,U) <| cond (hasM x.row m) (x,U) <|
 lookF k pl { x with row:=x.row++[m] } (U++sendF k pl (oth k x.ms) (.hold m x.row.length))
theorem ZmK {mm:Msg}(hp:x.place=some pl)(hz:x.ms.length<=50)(hn:x.ms.length / 2 < (oth k x.ms).length+1)(hU:U.length+100<=SZ)(hr:x.row.length < SZ)
  (h:∀g,Q .none ⟨fA m hs (wishF k pl x U mm).2 k (wishF k pl x U mm).1 g⟩):
  CW tb.P (n+4) 254 [.ref 0,.ref 2,mm.v] ⟨fA m hs U k x []⟩ Q E:=by
 have lo:=Zde k x.ms
 unfold wishF at h
 refine Zad _ _ _ f254 rfl ?_
 refine ZbV (b:=x.still) (fun c=>?_) fun c=>?_
 ·rw [Zb5 c] at h; exact h []
 rw [ZbT c] at h
 refine Zaa (o:=deepL (deepN _ 11) (mV x.row)) (ZgY x.row) ?_
 refine ZbV (b:=hasM x.row mm) (fun c=>?_) fun c=>?_
 ·rw [Zb5 c] at h; exact h []
 rw [ZbT c] at h
 have eA:lV U++(iV (oth k x.ms)).map (ltr ZdX (.int k) (.int pl) (.tup [mm.v,.int (((mV x.row++[mm.v]).length:Int) - 1)]))=lV (U++sendF k pl (oth k x.ms) (.hold mm x.row.length)):=by
  rw [show (((mV x.row++[mm.v]).length:Int) - 1)=x.row.length by rw [List.length_append,Zap]; show ((x.row.length+1:Nat):Int) - 1=_; exact lh3]
  exact ZbX (c:=.hold mm x.row.length)
 have eB:mV x.row++[mm.v]=mV (x.row++[mm]):=by unfold mV; rw [List.map_append]; rfl
 refine ⟨rfl,by rw [Zap]; exact hr, ?_⟩
 refine Zj5 (ms:=x.ms) (k:=k) rfl rfl (by unfold SZ; exact la7 hz rfl) ?_
 refine ⟨Nat.le_of_ble_eq_true rfl, ?_⟩
 refine Zbm (a:=.int k) (p:=.int pl) rfl (ZaI hp) (by rw [Zba,Zae]; exact la9 hU (Nat.le_trans lo (la7 hz rfl))) ?_
 show CW tb.P (n+3) 256 [.ref 0,.ref 2] ⟨some (folkC m hs)::some (.list (lV U++(iV (oth k x.ms)).map (ltr ZdX (.int k) (.int pl) (.tup [mm.v,.int (((mV x.row++[mm.v]).length:Int) - 1)]))))::some (.inst 59 (hFL k x l0))::some (.list (mV x.row++[mm.v]))::(fA m hs U k x []).drop 4⟩ _ _
 rw [eA,eB]
 exact Zji (x:={ x with row:=x.row++[mm] }) hp hz hn (by rw [List.length_append,Zg9]; lia) h
noncomputable def holdF (k pl:Int)(x:Hd)(U:List Letter)(src:Int)(m:Msg)(p:Int):Hd×List Letter:=cond x.still (x,U) <| cond (decide ((x.row.length:Int) < p)) (x,U) <|
 cond (decide (p=(x.row.length:Int))) ({ x with row:=x.row++[m] },U++[⟨k,src,pl,.have_ (x.row.length+1)⟩]) (x,U++[⟨k,src,pl,.have_ x.row.length⟩])
theorem f255:tb.P.fn 255=some Zck:=by kernel_rfl
theorem Zl9 {mm:Msg}{p src:Int}(hp:x.place=some pl)(hU:U.length+1<=SZ)(hr:x.row.length < SZ)(h:Q .none ⟨fA m hs (holdF k pl x U src mm p).2 k (holdF k pl x U src mm p).1 []⟩):
  CW tb.P (n+2) 255 [.ref 0,.ref 2,.int src,.tup [mm.v,.int p]] ⟨fA m hs U k x []⟩ Q E:=by
 have eB:mV x.row++[mm.v]=mV (x.row++[mm]):=by unfold mV; rw [List.map_append]; rfl
 unfold holdF at h
 refine Zad _ _ _ f255 rfl ?_
 refine ZbV (b:=x.still) (fun c=>?_) fun c=>?_
 ·rw [Zb5 c] at h; exact h
 rw [ZbT c] at h
 refine ZbV (b:=decide (((mV x.row).length:Int) < p)) (fun c=>?_) fun c=>?_
 ·rw [Zap] at c
  rw [Zb5 c] at h
  exact h
 ·rw [Zap] at c
  rw [ZbT c] at h
  refine ZbV (b:=decide (p=((mV x.row).length:Int))) (fun c=>?_) fun c=>?_
  ·rw [Zap] at c
   rw [Zb5 c] at h
   refine ⟨rfl,by rw [Zap]; exact hr, ?_⟩
   refine ⟨Nat.le_of_ble_eq_true rfl, ?_⟩
   refine Zbm (a:=.int k) (p:=.int pl) rfl (ZaI hp) (by rw [Zba]; exact hU) ?_
   show Q .none ⟨some (folkC m hs)::some (.list (lV U++[ltr Zcl (.int k) (.int pl) (.int ((mV x.row++[mm.v]).length:Nat)) (.int src)]))::some (.inst 59 (hFL k x l0))::some (.list (mV x.row++[mm.v]))::(fA m hs U k x []).drop 4⟩
   rw [eB,Zap,show (((x.row++[mm]).length:Nat):Int)=x.row.length+1 by rw [List.length_append]; rfl,show ltr Zcl (.int k) (.int pl) (.int ((x.row.length:Int)+1)) (.int src)=ltr (Cont.have_ (x.row.length+1)).word (.int k) (.int pl) (Cont.have_ (x.row.length+1)).v (.int src) from rfl,Zeb]
   exact h
  ·rw [Zap] at c
   rw [ZbT c] at h
   refine ⟨Nat.le_of_ble_eq_true rfl, ?_⟩
   refine Zbm (a:=.int k) (p:=.int pl) rfl (ZaI hp) (by rw [Zba]; exact hU) ?_
   show Q .none ⟨some (folkC m hs)::some (.list (lV U++[ltr Zcl (.int k) (.int pl) (.int ((mV x.row).length:Nat)) (.int src)]))::(fA m hs U k x []).drop 2⟩
   rw [Zap,show ltr Zcl (.int k) (.int pl) (.int (x.row.length:Int)) (.int src)=ltr (Cont.have_ x.row.length).word (.int k) (.int pl) (Cont.have_ x.row.length).v (.int src) from rfl,Zeb]
   exact h
end
noncomputable def bLt (a b:Bal):Bool:=prI (cmpI false) false a.1 a.2 b.1 b.2
noncomputable def bLe (a b:Bal):Bool:=prI (cmpI true) true a.1 a.2 b.1 b.2
noncomputable def bEq (a b:Bal):Bool:=eqD (bV a) (bV b)
noncomputable def bst (best a:Option Acc):Option Acc:=match a with
 | none=>best
 | some a=>match best with
  | none=>some a
  | some b=>cond (bLt b.b a.b) (some a) (some b)
noncomputable def prG:List (Int×PR)->Int->Option PR
 | [],_=>none
 | p::r,x=>cond (decide (p.1=x)) (some p.2) (prG r x)
noncomputable def prS:List (Int×PR)->Int->PR->List (Int×PR)
 | [],k,v=>[(k,v)]
 | p::r,k,v=>cond (decide (p.1=k)) ((p.1,v)::r) (p::prS r k v)
noncomputable def pfGo (pr:List (Int×PR)):List Int->Option Acc->List (List Msg)->Option Acc×List (List Msg)
 | [],best,rows=>(best,rows)
 | h::r,best,rows=>match prG pr h with
  | none=>pfGo pr r best rows
  | some p=>pfGo pr r (bst best p.2) (rows++[p.1])
noncomputable def lng:List (List Msg)->List Msg->List Msg
 | [],m=>m
 | r::rs,m=>lng rs (cond (decide ((m.length:Int) < r.length)) r m)
noncomputable def pfF (ms:List Int)(o:Off):Val:=match (pfGo o.prom ms none []).1 with
 | some a=>a.x
 | none=>⟨o.hs,lng (pfGo o.prom ms none []).2 ((pfGo o.prom ms none []).2.headD [])⟩
theorem Zdn (l:List (Int×PR))(x:Int):keyOk (dKeys (prV l)) (.int x)=true:=by
 have:∀l:List (Int×PR),(dKeys (prV l)).all isI=true:=fun l=>by
  induction l with
  | nil=>rfl
  | cons p r ih=>exact ih
 exact this l
noncomputable def prW (p:PR):V:=.tup [.lst (mV p.1),aV p.2]
theorem Zk9 (x:Int):∀l:List (Int×PR),dGet (prV l) (.int x)=(prG l x).map prW:=by
 intro zz0
 induction zz0 with
 | nil=>
  exact rfl
 | cons p r ih=>
  show cond (decide (p.1=x)) (some (prW p.2)) (dGet (prV r) (.int x))=(cond (decide (p.1=x)) (some p.2) (prG r x)).map prW
  cases decide (p.1=x) with
  | true=>rfl
  | false=>exact ih
theorem ZmO (x:Int):∀l:List (Int×PR),((dKeys (prV l)).any fun z=>eqD z (.int x))=(prG l x).isSome:=by
 intro zz0
 induction zz0 with
 | nil=>
  exact rfl
 | cons p r ih=>
  show (decide (p.1=x) || (dKeys (prV r)).any fun z=>eqD z (.int x))=(cond (decide (p.1=x)) (some p.2) (prG r x)).isSome
  cases decide (p.1=x) with
  | true=>rfl
  | false=>exact ih
theorem ZjX (x:Int)(v:PR):∀l:List (Int×PR),dSet (prV l) (.int x) (prW v)=prV (prS l x v):=by
 intro zz0
 induction zz0 with
 | nil=>
  exact rfl
 | cons p r ih=>
  show cond (decide (p.1=x)) ((V.int p.1,prW v)::prV r) ((V.int p.1,prW p.2)::dSet (prV r) (.int x) (prW v))=prV (cond (decide (p.1=x)) ((p.1,v)::r) (p::prS r x v))
  rw [ih]
  cases decide (p.1=x) <;> rfl
theorem ZeF (l:List (Int×PR)):(prV l).length=l.length:=List.length_map ..
section
variable {n:Nat}{m:V}{hs:List V}{U:List Letter}{k pl:Int}{x:Hd}{Q:V->Hp->Prop}{E:Nat->Hp->Prop}
theorem f257:tb.P.fn 257=some Zbe:=by kernel_rfl
noncomputable def prepF (k pl:Int)(x:Hd)(U:List Letter)(src:Int)(b:Bal):Hd×List Letter:=cond (bLt x.bal b) ({ x with bal:=b,still:=true },U++[⟨k,src,pl,.prom b x.row x.agd⟩]) (x,U)
theorem Zol {H:Hp}(a:Option Acc):solid (aV a)=true:=by cases a <;> rfl
theorem ZlB {b:Bal}{src:Int}(hp:x.place=some pl)(hU:U.length+1<=SZ)(hr:x.row.length<=SZ)(h:Q .none ⟨fA m hs (prepF k pl x U src b).2 k (prepF k pl x U src b).1 []⟩):
  CW tb.P (n+2) 257 [.ref 0,.ref 2,.int src,bV b] ⟨fA m hs U k x []⟩ Q E:=by
 unfold prepF at h
 refine Zad _ _ _ f257 rfl ?_
 refine ZbV (b:=bLt x.bal b) (fun c=>?_) fun c=>?_
 ·rw [Zb5 c] at h
  refine ⟨rfl,Nat.le_of_ble_eq_true rfl, ?_⟩
  refine ⟨rfl,Nat.le_of_ble_eq_true rfl, ?_⟩
  refine ⟨Nat.le_of_ble_eq_true rfl, ?_⟩
  refine ⟨by rw [Zap]; exact hr, ?_⟩
  refine ⟨Nat.le_of_ble_eq_true rfl, ?_⟩
  refine Zbm (a:=.int k) (p:=.int pl) rfl (ZaI hp) (by rw [Zba]; exact hU) ?_
  show Q .none ⟨some (folkC m hs)::some (.list (lV U++[ltr (Cont.prom b x.row x.agd).word (.int k) (.int pl) (Cont.prom b x.row x.agd).v (.int src)]))::(fA m hs U k { x with bal:=b,still:=true } []).drop 2⟩
  rw [Zeb]
  exact h
 ·rw [ZbT c] at h
  exact h
theorem f259:tb.P.fn 259=some Zbi:=by kernel_rfl
noncomputable def accF (k pl:Int)(x:Hd)(U:List Letter)(src:Int)(a:Acc):Hd×List Letter:=cond (bLe x.bal a.b) ({ x with bal:=a.b,still:=true,agd:=some a },U++[⟨k,src,pl,.agr a.b⟩]) (x,U)
theorem Znj {a:Acc}{src:Int}(hp:x.place=some pl)(hU:U.length+1<=SZ)(h:Q .none ⟨fA m hs (accF k pl x U src a).2 k (accF k pl x U src a).1 []⟩):
  CW tb.P (n+2) 259 [.ref 0,.ref 2,.int src,a.v] ⟨fA m hs U k x []⟩ Q E:=by
 unfold accF at h
 refine Zad _ _ _ f259 rfl ?_
 refine ZbV (b:=bLe x.bal a.b) (fun c=>?_) fun c=>?_
 ·rw [Zb5 c] at h
  refine ⟨rfl,Nat.le_of_ble_eq_true rfl, ?_⟩
  refine ⟨rfl,Nat.le_of_ble_eq_true rfl, ?_⟩
  refine ⟨rfl,Nat.le_of_ble_eq_true rfl, ?_⟩
  refine ⟨Nat.le_of_ble_eq_true rfl, ?_⟩
  refine Zbm (a:=.int k) (p:=.int pl) rfl (ZaI hp) (by rw [Zba]; exact hU) ?_
  show Q .none ⟨some (folkC m hs)::some (.list (lV U++[ltr (Cont.agr a.b).word (.int k) (.int pl) (Cont.agr a.b).v (.int src)]))::(fA m hs U k { x with bal:=a.b,still:=true,agd:=some a } []).drop 2⟩
  rw [Zeb]
  exact h
 ·rw [ZbT c] at h
  exact h
theorem f242:tb.P.fn 242=some ZaP:=by kernel_rfl
end
noncomputable def rwV (l:List (List Msg)):List V:=l.map fun r=>.lst (mV r)
theorem Zka (l:List (List Msg)):(rwV l).length=l.length:=List.length_map ..
theorem ZoD {a:Option Acc}{k:Bool->Prop}(h:k a.isNone):isK (aV a) .none k:=by cases a <;> exact ⟨rfl,h⟩
theorem Zop {a:Option Val}{k:Bool->Prop}(h:k a.isNone):isK (vV a) .none k:=by cases a <;> exact ⟨rfl,h⟩
section
variable {n:Nat}{m:V}{hs:List V}{U:List Letter}{k pl:Int}{x:Hd}{o:Off}{Q:V->Hp->Prop}{E:Nat->Hp->Prop}
theorem ZjS (K:CT)(h:Int)(best:Option Acc)(rows:List (List Msg))(lo:Loc)(Q:Flow->St->Prop)(E:EP)(h1:lo 108=some (.ref 2))(h2:lo 21=some (.ref 19))(h3:lo 144=some (aV best))(hz:rows.length < SZ)
  (hq:∀lo':Loc,lo' 108=some (.ref 2)->lo' 21=some (.ref 19)->lo' 144=some (aV (match prG o.prom h with | none=>best | some p=>bst best p.2))->Q .next ⟨⟨fA m hs U k { x with off:=some o } [some (.list (rwV (match prG o.prom h with | none=>rows | some p=>rows++[p.1])))]⟩,lo'⟩):
  wpSs tb.P K Zaq ⟨⟨fA m hs U k { x with off:=some o } [some (.list (rwV rows))]⟩,upd lo 20 (.int h)⟩ Q E:=by
 refine Zaa (o:=lo 108) h1 ?_
 refine ⟨Zdn o.prom h, ?_⟩
 show Br ((dKeys (prV o.prom)).any fun z=>eqD z (.int h)) _ _
 rw [ZmO]
 cases e:prG o.prom h with
 | none=>
  rw [e] at hq
  exact hq _ h1 h2 h3
 | some p=>
  rw [e] at hq
  refine Zaa (o:=lo 108) h1 ?_
  refine ⟨Zdn o.prom h, ?_⟩
  refine Zaa (o:=dGet (prV o.prom) (.int h)) (a:=prW p) (by rw [Zk9,e]; rfl) ?_
  refine Zaa (o:=lo 21) h2 ?_
  refine ⟨rfl,by rw [Zka]; exact hz, ?_⟩
  have e1:rwV rows++[.lst (mV p.1)]=rwV (rows++[p.1]):=by unfold rwV; rw [List.map_append]; rfl
  show wpSs tb.P K _ ⟨⟨fA m hs U k { x with off:=some o } [some (.list (rwV rows++[.lst (mV p.1)]))]⟩,upd (upd (upd lo 20 (.int h)) 23 (.lst (mV p.1))) 119 (aV p.2)⟩ _ E
  rw [e1]
  obtain ⟨row,a⟩:=p
  cases a with
  | none=>exact ⟨rfl,hq _ h1 h2 h3⟩
  | some a=>
   refine ⟨rfl, ?_⟩
   refine Zaa (o:=lo 144) h3 ?_
   cases best with
   | none=>exact ⟨rfl,hq _ h1 h2 rfl⟩
   | some b=>
    refine ⟨rfl, ?_⟩
    refine Zaa (o:=lo 144) h3 ?_
    refine ZbV (b:=bLt b.b a.b) (fun c=>?_) fun c=>?_
    ·refine hq _ h1 h2 ?_
     show some a.v=some (aV (cond (bLt b.b a.b) (some a) (some b)))
     rw [c]; rfl
    ·refine hq _ h1 h2 ?_
     show lo 144=some (aV (cond (bLt b.b a.b) (some a) (some b)))
     rw [c]; exact h3
theorem ZkH (K:CT)(to:List V)(Q:Flow->St->Prop):∀(vs:List Int) (best:Option Acc) (rows:List (List Msg)) (lo:Loc),lo 108=some (.ref 2)->lo 21=some (.ref 19)->lo 144=some (aV best)->rows.length+vs.length<=SZ->
  (∀lo':Loc,lo' 108=some (.ref 2)->lo' 21=some (.ref 19)->lo' 144=some (aV (pfGo o.prom vs best rows).1)->Q .next ⟨⟨fA m hs U k { x with off:=some o } [some (.list (rwV (pfGo o.prom vs best rows).2))]⟩,lo'⟩)->
  loopGo (fun v σ2 k=>bindT [20] v σ2 fun σ3=>wpSs tb.P K Zaq σ3 k noE) (still (.lst to) to) (iV vs) ⟨⟨fA m hs U k { x with off:=some o } [some (.list (rwV rows))]⟩,lo⟩ Q:=by
 intro zz0
 induction zz0 with
 | nil=>
  intro best rows lo h1 h2 h3 hz h
  exact ⟨rfl,h lo h1 h2 h3⟩
 | cons v vs ih=>
  intro best rows lo h1 h2 h3 hz h
  rw [List.length_cons] at hz
  refine ⟨rfl,ZjS K v best rows lo _ _ h1 h2 h3 (by exact la1 hz) fun lo' q1 q2 q3=>?_⟩
  refine ih _ _ lo' q1 q2 q3 (by cases prG o.prom v with | none=>show rows.length+_<=_; exact la3 hz | some p=>show (rows++[p.1]).length+_<=_; rw [List.length_append]; show rows.length+1+_<=_; exact la2 hz) fun lo'' w1 w2 w3=>?_
  have h:=h lo'' w1 w2
  unfold pfGo at h
  cases e:prG o.prom v with
  | none=>rw [e] at h w3; exact h w3
  | some p=>rw [e] at h w3; exact h w3
theorem ZiO (K:CT)(H:Hp)(us:List V)(Q:Flow->St->Prop)(hi:items H (.ref 19)=some us):∀(rows:List (List Msg)) (mst:List Msg) (lo:Loc),lo 108=some (.ref 2)->lo 145=some (.lst (mV mst))->
  (∀lo':Loc,lo' 108=some (.ref 2)->lo' 145=some (.lst (mV (lng rows mst)))->Q .next ⟨H,lo'⟩)->
  loopGo (fun v σ2 k=>bindT [23] v σ2 fun σ3=>wpSs tb.P K ZaD σ3 k noE) (still (.ref 19) us) (rwV rows) ⟨H,lo⟩ Q:=by
 intro zz0
 induction zz0 with
 | nil=>
  intro mst lo h1 h2 h
  exact ⟨hi,h lo h1 h2⟩
 | cons r rows ih=>
  intro mst lo h1 h2 h
  refine ⟨hi, ?_⟩
  refine Zaa (o:=lo 145) h2 ?_
  refine ZbV (b:=decide (((mV mst).length:Int) < (mV r).length)) (fun c=>?_) fun c=>?_
  ·rw [Zap,Zap] at c
   refine ih r _ h1 rfl fun lo' q1 q2=>h lo' q1 ?_
   unfold lng; rw [Zb5 c]; exact q2
  ·rw [Zap,Zap] at c
   refine ih mst _ h1 h2 fun lo' q1 q2=>h lo' q1 ?_
   unfold lng; rw [ZbT c]; exact q2
theorem Znv:∀(rows:List (List Msg)) (mst:List Msg) (N:Nat),mst.length<=N->(∀r∈rows,r.length<=N)->(lng rows mst).length<=N:=by
 intro zz0
 induction zz0 with
 | nil=>
  intro mst N h _
  exact h
 | cons r rows ih=>
  intro mst N h hr
  unfold lng
  refine ih _ N ?_ fun r' h'=>hr r' (.tail _ h')
  cases decide ((mst.length:Int) < r.length) with
  | true=>exact hr r (.head _)
  | false=>exact h
structure PfOk (ms:List Int)(o:Off):Prop where
 hz:ms.length<=50
 ne:(pfGo o.prom ms none []).1=none->(pfGo o.prom ms none []).2≠[]
 hh:o.hs.length<=SZ
 hr:(pfF ms o).row.length<=SZ
theorem Zoy (p:PfOk x.ms o)(h:∀g,Q (pfF x.ms o).v ⟨fA m hs U k { x with off:=some o } g⟩):CW tb.P (n+1) 242 [.ref 2] ⟨fA m hs U k { x with off:=some o } []⟩ Q E:=by
 obtain ⟨hz,ne,hh,hr⟩:=p
 have h:=h [some (.list (rwV (pfGo o.prom x.ms none []).2))]
 refine Zad _ _ _ f242 rfl ?_
 refine ⟨Nat.le_of_ble_eq_true rfl, ?_⟩
 refine ZkH (CW tb.P n) (iV x.ms) _ x.ms none [] _ rfl rfl rfl (by show 0+_<=_; unfold SZ; exact lf4 (la7 hz rfl)) fun lo h1 h2 h3=>?_
 refine Zaa (o:=lo 144) h3 ?_
 unfold pfF at h hr
 cases e:(pfGo o.prom x.ms none []).1 with
 | some a=>
  rw [e] at h h3
  refine ⟨rfl, ?_⟩
  refine Zaa (o:=lo 144) h3 ?_
  exact h
 | none=>
  rw [e] at h h3 hr
  have ne:=ne e
  refine ⟨rfl, ?_⟩
  refine Zaa (o:=lo 21) h2 ?_
  cases q:(pfGo o.prom x.ms none []).2 with
  | nil=>exact absurd q ne
  | cons r0 rs=>
   rw [q] at h hr
   refine Zaa (o:=pyIdx ((0:Nat):Int) (rwV (r0::rs)).length) (Zaz (Nat.succ_pos _)) ?_
   refine Zaa (o:=lo 21) h2 ?_
   refine ZiO (CW tb.P n) _ (rwV (r0::rs)) _ rfl (r0::rs) r0 _ h1 rfl fun lo' q1 q2=>?_
   refine Zaa (o:=lo' 108) q1 ?_
   refine ⟨by rw [Zae]; exact hh, ?_⟩
   refine Zaa (o:=lo' 145) q2 ?_
   refine ⟨by rw [Zap]; exact hr, ?_⟩
   exact ⟨Nat.le_of_ble_eq_true rfl,h⟩
end
noncomputable def enF (ms:List Int)(n:Nat):Bool:=decide (Int.fdiv (ms.length:Int) 2+1<=(n:Int))
noncomputable def prom2 (k pl:Int)(x:Hd)(U:List Letter)(b:Bal)(o:Off):Hd×List Letter:=cond (enF x.ms o.prom.length)
 ({ x with off:=some { o with val:=some (pfF x.ms o) } },U++sendF k pl x.ms (.acc ⟨b,pfF x.ms o⟩)) ({ x with off:=some o },U)
noncomputable def promO (k pl:Int)(x:Hd)(U:List Letter)(src:Int)(b:Bal)(row:List Msg)(a:Option Acc)(o:Off):Hd×List Letter:=
 cond (bEq o.b b) (cond o.val.isNone (prom2 k pl x U b { o with prom:=prS o.prom src (row,a) }) ({ x with off:=some o },U)) ({ x with off:=some o },U)
noncomputable def promF (k pl:Int)(x:Hd)(U:List Letter)(src:Int)(b:Bal)(row:List Msg)(a:Option Acc):Hd×List Letter:=match x.off with
 | none=>(x,U)
 | some o=>promO k pl x U src b row a o
noncomputable def agS:List Int->Int->List Int
 | [],k=>[k]
 | p::r,k=>cond (decide (p=k)) (p::r) (p::agS r k)
theorem Zey (l:List Int):(agV l).length=l.length:=List.length_map ..
theorem Ze8 (l:List Int)(x:Int):keyOk (dKeys (agV l)) (.int x)=true:=by
 have:∀l:List Int,(dKeys (agV l)).all isI=true:=fun l=>by
  induction l with
  | nil=>rfl
  | cons p r ih=>exact ih
 exact this l
theorem ZkR (x:Int):∀l:List Int,dSet (agV l) (.int x) (.bool true)=agV (agS l x):=by
 intro zz0
 induction zz0 with
 | nil=>
  exact rfl
 | cons p r ih=>
  show cond (decide (p=x)) ((V.int p,V.bool true)::agV r) ((V.int p,V.bool true)::dSet (agV r) (.int x) (.bool true))=agV (cond (decide (p=x)) (p::r) (p::agS r x))
  rw [ih]
  cases decide (p=x) <;> rfl
noncomputable def agHas (l:List Int)(x:Int):Bool:=(dKeys (agV l)).any fun z=>eqD z (.int x)
theorem ZgO (x:Int):∀l:List Int,agHas l x=decide (x∈l):=by
 intro zz0
 induction zz0 with
 | nil=>
  exact rfl
 | cons p r ih=>
  show (decide (p=x) || agHas r x)=_
  rw [ih]
  by_cases c:p=x
  ·subst c; rw [decide_eq_true rfl,decide_eq_true (List.mem_cons_self ..)]; rfl
  ·rw [decide_eq_false c,Bool.false_or]
   exact decide_eq_decide.mpr ⟨fun h=>.tail _ h,fun h=>(List.mem_cons.mp h).elim (fun z=>absurd z.symm c) id⟩
noncomputable def witF (ms:List Int)(ag:List Int):List Int:=ms.filter (agHas ag)
noncomputable def agr2 (k pl:Int)(x:Hd)(U:List Letter)(o:Off)(v:Val):Hd×List Letter:=cond (enF x.ms o.agr.length)
 ({ x with off:=some { o with over:=true } },U++sendF k pl (mkSet (x.ms++v.hs)) (.ent ⟨pl+1,v.hs,v.row,witF x.ms o.agr⟩)) ({ x with off:=some o },U)
noncomputable def agrO (k pl:Int)(x:Hd)(U:List Letter)(src:Int)(b:Bal)(o:Off):Hd×List Letter:=
 cond (bEq o.b b) (cond o.over ({ x with off:=some o },U) (agr2 k pl x U { o with agr:=agS o.agr src } (o.val.getD ⟨[],[]⟩))) ({ x with off:=some o },U)
noncomputable def agrF (k pl:Int)(x:Hd)(U:List Letter)(src:Int)(b:Bal):Hd×List Letter:=match x.off with
 | none=>(x,U)
 | some o=>agrO k pl x U src b o
section
variable {n:Nat}{m:V}{hs:List V}{U:List Letter}{k pl:Int}{x:Hd}{o:Off}{Q:V->Hp->Prop}{E:Nat->Hp->Prop}
theorem f258:tb.P.fn 258=some Zbs:=by kernel_rfl
theorem Zmx {b:Bal}{src:Int}{row:List Msg}{a:Option Acc}(hp:x.place=some pl)(hU:U.length+50<=SZ)(hl:o.prom.length < SZ)(hz:x.ms.length<=50)
  (hf:bEq o.b b=true->o.val=none->enF x.ms (prS o.prom src (row,a)).length=true->PfOk x.ms { o with prom:=prS o.prom src (row,a) })
  (h:∀g,Q .none ⟨fA m hs (promO k pl x U src b row a o).2 k (promO k pl x U src b row a o).1 g⟩):
  CW tb.P (n+2) 258 [.ref 0,.ref 2,.int src,.tup [bV b,.lst (mV row),aV a]] ⟨fA m hs U k { x with off:=some o } []⟩ Q E:=by
 unfold promO at h
 refine Zad _ _ _ f258 rfl ?_
 refine ⟨rfl, ?_⟩
 refine ZbV (b:=!bEq o.b b) (fun c=>?_) fun c=>?_
 ·have c:bEq o.b b=false:=by cases q:bEq o.b b with | false=>rfl | true=>rw [q] at c; cases c
  rw [ZbT c] at h; exact h []
 have cb:bEq o.b b=true:=by cases q:bEq o.b b with | true=>rfl | false=>rw [q] at c; cases c
 rw [Zb5 cb] at h
 have en:isNone (vV o.val)=o.val.isNone:=by cases o.val <;> rfl
 refine ⟨show solid (vV o.val)=true by cases o.val <;> rfl, ?_⟩
 refine ZbV (b:=!isNone (vV o.val)) (fun c=>?_) fun c=>?_
 ·rw [en] at c
  have c:o.val.isNone=false:=by cases q:o.val.isNone with | false=>rfl | true=>rw [q] at c; cases c
  rw [ZbT c] at h; exact h []
 rw [en] at c
 have cv:o.val.isNone=true:=by cases q:o.val.isNone with | true=>rfl | false=>rw [q] at c; cases c
 rw [Zb5 cv] at h
 have ev:o.val=none:=Option.isNone_iff_eq_none.mp cv
 unfold prom2 at h
 refine ⟨Nat.le_of_ble_eq_true rfl, ?_⟩
 refine ⟨Zdn o.prom src,by rw [ZeF]; exact hl, ?_⟩
 show wpSs tb.P _ _ ⟨⟨some (folkC m hs)::some (.list (lV U))::some (.inst 59 (hFL k { x with off:=some o } l0))::some (.list (mV x.row))::some (.dict (hoV x.holds))::some (.list (gV x.gone))::some (.inst 155 (oFL o 7 8))::some (.dict (dSet (prV o.prom) (.int src) (prW (row,a))))::(fA m hs U k { x with off:=some o } []).drop 8⟩,_⟩ _ _
 rw [ZjX]
 refine Zdk ?_
 refine gv rfl ?_
 refine ZbV (b:=decide (Int.fdiv ((iV x.ms).length:Int) 2+1<=((prV (prS o.prom src (row,a))).length:Int))) (fun c=>?_) fun c=>?_
 ·rw [Zae,ZeF] at c
  have c:enF x.ms (prS o.prom src (row,a)).length=true:=c
  rw [Zb5 c] at h
  refine Zoy (x:=x) (o:={ o with prom:=prS o.prom src (row,a) }) (hf cb ev c) fun g=>?_
  refine gv rfl ?_
  refine ⟨rfl,Nat.le_of_ble_eq_true rfl, ?_⟩
  refine ⟨Nat.le_of_ble_eq_true rfl, ?_⟩
  refine Zbm (a:=.int k) (p:=.int pl) (to:=iV x.ms) rfl (ZaI hp) (by rw [Zba,Zae]; exact la9 hU hz) ?_
  show Q .none ⟨some (folkC m hs)::some (.list (lV U++(iV x.ms).map (ltr (Cont.acc ⟨b,pfF x.ms { o with prom:=prS o.prom src (row,a) }⟩).word (.int k) (.int pl) (Cont.acc ⟨b,pfF x.ms { o with prom:=prS o.prom src (row,a) }⟩).v)))::(fA m hs U k { x with off:=some { o with prom:=prS o.prom src (row,a),val:=some (pfF x.ms { o with prom:=prS o.prom src (row,a) }) } } g).drop 2⟩
  rw [ZbX]
  exact h g
 ·rw [Zae,ZeF] at c
  have c:enF x.ms (prS o.prom src (row,a)).length=false:=c
  rw [ZbT c] at h
  exact h []
theorem Zly {b:Bal}{src:Int}{row:List Msg}{a:Option Acc}(h:Q .none ⟨fA m hs U k { x with off:=none } []⟩):
  CW tb.P (n+2) 258 [.ref 0,.ref 2,.int src,.tup [bV b,.lst (mV row),aV a]] ⟨fA m hs U k { x with off:=none } []⟩ Q E:=by
 refine Zad _ _ _ f258 rfl ?_
 exact ⟨rfl,h⟩
theorem f260:tb.P.fn 260=some Za5:=by kernel_rfl
noncomputable abbrev witT:PC:=.e (.cmp .isIn (.loc 20) (.attr (.loc 120) 149))
theorem Zim (K:CT)(H:Hp)(ag:List Int)(ms:List V)(Q:List V->St->Prop)(g6:∃fs,H.get 6=some (.inst 155 fs)/\lk fs 149=some (.ref 8))(g8:H.get 8=some (.dict (agV ag))):∀(xs acc:List Int) (lo:Loc),lo 120=some (.ref 6)->acc.length+xs.length<=SZ->(∀lo':Loc,Q (iV (acc++witF xs ag)) ⟨H,lo'⟩)->
  compGo (fun σ2 k=>wpC tb.P K noE (.some witT) σ2 k) (fun σ2 k=>wpE tb.P K noE (.loc 20) σ2 k) [20] (still (.lst ms) ms) (iV xs) (iV acc) ⟨H,lo⟩ Q:=by
 intro zz0
 induction zz0 with
 | nil=>
  intro acc lo h1 hz h
  have h:=h lo
  rw [show witF [] ag=[] from rfl,List.append_nil] at h
  exact ⟨rfl,by rw [Zae]; exact hz,h⟩
 | cons x xs ih=>
  intro acc lo h1 hz h
  rw [List.length_cons] at hz
  refine ⟨rfl,by rw [Zae]; exact la1 hz, ?_⟩
  refine Zaa (o:=lo 120) h1 ?_
  obtain ⟨fs,g6,g6'⟩:=g6
  refine Zaa (o:=cI (H.get 6)) (a:=(155,fs)) (by rw [g6]; rfl) ?_
  refine Zaa (o:=lk fs 149) g6' ?_
  show (match H.get 8 with
   | some (.list xs)=>_
   | some (.dict kvs)=>Nd (keyOk (dKeys kvs) (.int x)=true) _
   | _=>False)
  rw [g8]
  refine ⟨Ze8 ag x, ?_⟩
  refine ZbV (b:=agHas ag x) (fun c=>?_) fun c=>?_
  ·have e:iV acc++[.int x]=iV (acc++[x]):=by unfold iV; rw [List.map_append]; rfl
   show compGo _ _ [20] _ (iV xs) (iV acc++[.int x]) ⟨_,upd lo 20 (.int x)⟩ Q
   rw [e]
   refine ih (acc++[x]) _ h1 (by rw [List.length_append]; show acc.length+1+_<=_; exact la2 hz) fun lo'=>?_
   have h:=h lo'
   rw [show witF (x::xs) ag=x::witF xs ag by unfold witF; rw [List.filter_cons,c]; rfl,List.append_cons] at h
   exact h
  ·refine ih acc _ h1 (by exact la3 hz) fun lo'=>?_
   have h:=h lo'
   rw [show witF (x::xs) ag=witF xs ag by unfold witF; rw [List.filter_cons,c]; rfl] at h
   exact h
theorem Zh1 (ms ag:List Int):(witF ms ag).length<=ms.length:=List.length_filter_le ..
theorem Znw {b:Bal}{src:Int}(h:Q .none ⟨fA m hs U k { x with off:=none } []⟩):
  CW tb.P (n+2) 260 [.ref 0,.ref 2,.int src,bV b] ⟨fA m hs U k { x with off:=none } []⟩ Q E:=by
 refine Zad _ _ _ f260 rfl ?_
 exact ⟨rfl,h⟩
structure AgOk (ms:List Int)(v:Val):Prop where
 h1:ms.length < 64
 h2:v.hs.length < 64
 u:uniK ms v.hs=true
 s:(mkSet (ms++v.hs)).length<=50
 r:v.row.length<=SZ
theorem Znk {b:Bal}{src:Int}(hp:x.place=some pl)(hU:U.length+50<=SZ)(hl:o.agr.length < SZ)(hz:x.ms.length<=50)
  (hf:bEq o.b b=true->o.over=false->enF x.ms (agS o.agr src).length=true->∃v,o.val=some v/\AgOk x.ms v)
  (h:Q .none ⟨fA m hs (agrO k pl x U src b o).2 k (agrO k pl x U src b o).1 []⟩):
  CW tb.P (n+2) 260 [.ref 0,.ref 2,.int src,bV b] ⟨fA m hs U k { x with off:=some o } []⟩ Q E:=by
 unfold agrO at h
 refine Zad _ _ _ f260 rfl ?_
 refine ⟨rfl, ?_⟩
 refine ZbV (b:=!bEq o.b b) (fun c=>?_) fun c=>?_
 ·have c:bEq o.b b=false:=by cases q:bEq o.b b with | false=>rfl | true=>rw [q] at c; cases c
  rw [ZbT c] at h; exact h
 have cb:bEq o.b b=true:=by cases q:bEq o.b b with | true=>rfl | false=>rw [q] at c; cases c
 rw [Zb5 cb] at h
 refine ZbV (b:=o.over) (fun c=>?_) fun c=>?_
 ·rw [Zb5 c] at h; exact h
 rw [ZbT c] at h
 have co:=c
 unfold agr2 at h
 refine ⟨Ze8 o.agr src,by rw [Zey]; exact hl, ?_⟩
 show wpSs tb.P _ _ ⟨⟨some (folkC m hs)::some (.list (lV U))::some (.inst 59 (hFL k { x with off:=some o } l0))::some (.list (mV x.row))::some (.dict (hoV x.holds))::some (.list (gV x.gone))::some (.inst 155 (oFL o 7 8))::some (.dict (prV o.prom))::some (.dict (dSet (agV o.agr) (.int src) (.bool true)))::(fA m hs U k { x with off:=some o } []).drop 9⟩,_⟩ _ _
 rw [ZkR]
 refine Zdk ?_
 refine gv rfl ?_
 refine ZbV (b:=decide (Int.fdiv ((iV x.ms).length:Int) 2+1<=((agV (agS o.agr src)).length:Int))) (fun c=>?_) fun c=>?_
 ·rw [Zae,Zey] at c
  have c:enF x.ms (agS o.agr src).length=true:=c
  rw [Zb5 c] at h
  obtain ⟨v,ev,ok⟩:=hf cb co c
  rw [show o.val.getD ⟨[],[]⟩=v by rw [ev]; rfl] at h
  refine ⟨rfl,Nat.le_of_ble_eq_true rfl, ?_⟩
  refine Zaa (o:=aTup (vV o.val)) (a:=[.lst (iV v.hs),.lst (mV v.row)]) (by rw [ev]; rfl) ?_
  refine ⟨rfl, ?_⟩
  refine ⟨rfl, ?_⟩
  refine Zaa (o:=intsOf (iV x.ms)) (Zbg _) ?_
  refine ⟨ok.h1, ?_⟩
  refine Zaa (o:=intsOf (iV v.hs)) (Zbg _) ?_
  refine ⟨ok.h2,ok.u, ?_⟩
  refine ⟨by rw [List.length_map]; exact Nat.le_trans ok.s (by unfold SZ; exact Nat.le_of_ble_eq_true rfl), ?_⟩
  refine Zim (CW tb.P (n+1)) _ (agS o.agr src) (iV x.ms) _ ⟨_,rfl,rfl⟩ rfl x.ms [] _ rfl (by show 0+_<=_; unfold SZ; exact lf4 (la7 hz rfl)) fun lo'=>?_
  refine ⟨by rw [Zae,List.nil_append]; exact Nat.le_trans (Zh1 _ _) (Nat.le_trans hz (by unfold SZ; exact Nat.le_of_ble_eq_true rfl)), ?_⟩
  refine Zaa (o:=see _ (plV x.place)) (a:=.int pl) (by rw [hp]; rfl) ?_
  refine ⟨by rw [Zae]; exact Nat.le_trans (Nat.le_of_lt ok.h2) (by unfold SZ; exact Nat.le_of_ble_eq_true rfl), ?_⟩
  refine ⟨by rw [Zap]; exact ok.r, ?_⟩
  refine ⟨Nat.le_of_ble_eq_true rfl, ?_⟩
  refine Zbm (a:=.int k) (p:=.int pl) (to:=iV (mkSet (x.ms++v.hs))) rfl (ZaI hp) (by rw [Zba,Zae]; have:=ok.s; exact la9 hU this) ?_
  show Q .none ⟨some (folkC m hs)::some (.list (lV U++(iV (mkSet (x.ms++v.hs))).map (ltr (Cont.ent ⟨pl+1,v.hs,v.row,witF x.ms (agS o.agr src)⟩).word (.int k) (.int pl) (Cont.ent ⟨pl+1,v.hs,v.row,witF x.ms (agS o.agr src)⟩).v)))::(fA m hs U k { x with off:=some { o with agr:=agS o.agr src,over:=true } } []).drop 2⟩
  rw [ZbX]
  exact h
 ·rw [Zae,Zey] at c
  have c:enF x.ms (agS o.agr src).length=false:=c
  rw [ZbT c] at h
  exact h
end
theorem Zac {a b:Nat}(h:Nat.ble a b=true):a<=b:=Nat.le_of_ble_eq_true h
noncomputable def attrOk (P:Prog)(k nm:Nat):Bool:=match P.cls k with
 | some c=>c.attrs.contains nm
 | none=>false
theorem sa2 {P:Prog}{K:CT}{E:EP}{e:PE}{nm k:Nat}{v:V}{a b:Option C}{fs fs':List (Nat×V)}{r r':List (Option C)}{lo:Loc}{rest:PSs}{Q:Flow->St->Prop}(hl:lo 108=some (.ref 2))(he:∀Q':V->St->Prop,Q' v ⟨⟨a::b::some (.inst k fs)::r'⟩,lo⟩->wpE P K E e ⟨⟨a::b::some (.inst k fs)::r⟩,lo⟩ Q')(hc:attrOk P k nm=true)(hs:st fs nm v=fs')(hz:fs.length < 1000)
  (h:wpSs P K rest ⟨⟨a::b::some (.inst k fs')::r'⟩,lo⟩ Q E):wpSs P K (.cons (.assign (.attr (.loc 108) nm) e) rest) ⟨⟨a::b::some (.inst k fs)::r⟩,lo⟩ Q E:=by
 subst hs
 refine he _ ?_
 refine Zaa (o:=lo 108) hl ?_
 unfold attrOk at hc
 cases q:P.cls k with
 | none=>rw [q] at hc; cases hc
 | some c=>
  rw [q] at hc
  exact Zaa (o:=P.cls k) q ⟨hc,hz,h⟩
noncomputable def begF (x:Hd):Hd:={ x with row:=[],took:=0,still:=false,bal:=(0, -1),agd:=none,off:=none,holds:=[] }
noncomputable def intoF (x:Hd)(p:Option Int)(ms:List Int)(w:Option News):Hd:={ begF x with place:=p,ms:=ms,news:=w,hi:=p.getD x.hi }
noncomputable def l1:Lh:=⟨19,20,5,6,7,8⟩
noncomputable def tA (x:Hd):List (Option C):=some (.list (mV x.row))::some (.dict (hoV x.holds))::some (.list (gV x.gone))::oC x.off::pC x.off::aC x.off::none::none::none::none::none::none::none::none::none::[none]
noncomputable def fB (m:V)(hs:List V)(U:List Letter)(k:Int)(y x:Hd):List (Option C):=some (folkC m hs)::some (.list (lV U))::some (.inst 59 (hFL k x l1))::(tA y++[some (C.list []),some (C.dict [])])
section
variable {n:Nat}{m:V}{hs:List V}{U:List Letter}{k pl:Int}{x:Hd}{Q:V->Hp->Prop}{E:Nat->Hp->Prop}
theorem f238:tb.P.fn 238=some Zb3:=by kernel_rfl
theorem f239:tb.P.fn 239=some Za6:=by kernel_rfl
theorem Zn9 {a b:Option C}(h:Q .none ⟨a::b::some (.inst 59 (hFL k (begF x) l1))::(tA x++[some (C.list []),some (C.dict [])])⟩):CW tb.P (n+1) 238 [.ref 2] ⟨a::b::some (.inst 59 (hFL k x l0))::tA x⟩ Q E:=by
 refine Zad _ _ _ f238 rfl ?_
 refine sa2 (v:=.ref 19) (fs':=[(109,.int k),(110,plV x.place),(111,.int x.hi),(17,.lst (iV x.ms)),(112,.int x.said),(113,.bool x.up),(114,.ref 5),(115,nV x.news),(23,.ref 19),(116,.int x.took),(117,.bool x.still),(118,bV x.bal),(119,aV x.agd),(120,oR x.off 6),(121,.ref 4)]) (r':=tA x++[some (C.list [])]) rfl (fun Q' q=>⟨Zac rfl,q⟩) (by kernel_rfl) rfl (Zac rfl) ?_
 refine sa2 (v:=.int 0) (fs':=[(109,.int k),(110,plV x.place),(111,.int x.hi),(17,.lst (iV x.ms)),(112,.int x.said),(113,.bool x.up),(114,.ref 5),(115,nV x.news),(23,.ref 19),(116,.int 0),(117,.bool x.still),(118,bV x.bal),(119,aV x.agd),(120,oR x.off 6),(121,.ref 4)]) (r':=tA x++[some (C.list [])]) rfl (fun Q' q=>q) (by kernel_rfl) rfl (Zac rfl) ?_
 refine sa2 (v:=.bool false) (fs':=[(109,.int k),(110,plV x.place),(111,.int x.hi),(17,.lst (iV x.ms)),(112,.int x.said),(113,.bool x.up),(114,.ref 5),(115,nV x.news),(23,.ref 19),(116,.int 0),(117,.bool false),(118,bV x.bal),(119,aV x.agd),(120,oR x.off 6),(121,.ref 4)]) (r':=tA x++[some (C.list [])]) rfl (fun Q' q=>q) (by kernel_rfl) rfl (Zac rfl) ?_
 refine sa2 (v:=.tup [.int 0,.int (-1)]) (fs':=[(109,.int k),(110,plV x.place),(111,.int x.hi),(17,.lst (iV x.ms)),(112,.int x.said),(113,.bool x.up),(114,.ref 5),(115,nV x.news),(23,.ref 19),(116,.int 0),(117,.bool false),(118,.tup [.int 0,.int (-1)]),(119,aV x.agd),(120,oR x.off 6),(121,.ref 4)]) (r':=tA x++[some (C.list [])]) rfl (fun Q' q=>⟨Zac rfl,q⟩) (by kernel_rfl) rfl (Zac rfl) ?_
 refine sa2 (v:=.none) (fs':=[(109,.int k),(110,plV x.place),(111,.int x.hi),(17,.lst (iV x.ms)),(112,.int x.said),(113,.bool x.up),(114,.ref 5),(115,nV x.news),(23,.ref 19),(116,.int 0),(117,.bool false),(118,.tup [.int 0,.int (-1)]),(119,.none),(120,oR x.off 6),(121,.ref 4)]) (r':=tA x++[some (C.list [])]) rfl (fun Q' q=>q) (by kernel_rfl) rfl (Zac rfl) ?_
 refine sa2 (v:=.none) (fs':=[(109,.int k),(110,plV x.place),(111,.int x.hi),(17,.lst (iV x.ms)),(112,.int x.said),(113,.bool x.up),(114,.ref 5),(115,nV x.news),(23,.ref 19),(116,.int 0),(117,.bool false),(118,.tup [.int 0,.int (-1)]),(119,.none),(120,.none),(121,.ref 4)]) (r':=tA x++[some (C.list [])]) rfl (fun Q' q=>q) (by kernel_rfl) rfl (Zac rfl) ?_
 refine sa2 (v:=.ref 20) (fs':=[(109,.int k),(110,plV x.place),(111,.int x.hi),(17,.lst (iV x.ms)),(112,.int x.said),(113,.bool x.up),(114,.ref 5),(115,nV x.news),(23,.ref 19),(116,.int 0),(117,.bool false),(118,.tup [.int 0,.int (-1)]),(119,.none),(120,.none),(121,.ref 20)]) (r':=tA x++[some (C.list []),some (C.dict [])]) rfl (fun Q' q=>⟨Zac rfl,rfl,q⟩) (by kernel_rfl) rfl (Zac rfl) ?_
 exact h
theorem Zfh {a b:Option C}{p:Option Int}{ms:List Int}{w:Option News}(hz:ms.length<=SZ)(h:Q .none ⟨a::b::some (.inst 59 (hFL k (intoF x p ms w) l1))::(tA x++[some (C.list []),some (C.dict [])])⟩):
  CW tb.P (n+2) 239 [.ref 2,plV p,.lst (iV ms),nV w] ⟨a::b::some (.inst 59 (hFL k x l0))::tA x⟩ Q E:=by
 refine Zad _ _ _ f239 rfl ?_
 refine Zn9 ?_
 refine gv rfl ?_
 refine sa2 (v:=plV p) (fs':=[(109,.int k),(110,plV p),(111,.int x.hi),(17,.lst (iV x.ms)),(112,.int x.said),(113,.bool x.up),(114,.ref 5),(115,nV x.news),(23,.ref 19),(116,.int 0),(117,.bool false),(118,.tup [.int 0,.int (-1)]),(119,.none),(120,.none),(121,.ref 20)]) (r':=tA x++[some (C.list []),some (C.dict [])]) rfl (fun Q' q=>q) (by kernel_rfl) rfl (Zac rfl) ?_
 refine sa2 (v:=.lst (iV ms)) (fs':=[(109,.int k),(110,plV p),(111,.int x.hi),(17,.lst (iV ms)),(112,.int x.said),(113,.bool x.up),(114,.ref 5),(115,nV x.news),(23,.ref 19),(116,.int 0),(117,.bool false),(118,.tup [.int 0,.int (-1)]),(119,.none),(120,.none),(121,.ref 20)]) (r':=tA x++[some (C.list []),some (C.dict [])]) rfl (fun Q' q=>⟨by rw [Zae]; exact hz,q⟩) (by kernel_rfl) rfl (Zac rfl) ?_
 refine sa2 (v:=nV w) (fs':=[(109,.int k),(110,plV p),(111,.int x.hi),(17,.lst (iV ms)),(112,.int x.said),(113,.bool x.up),(114,.ref 5),(115,nV w),(23,.ref 19),(116,.int 0),(117,.bool false),(118,.tup [.int 0,.int (-1)]),(119,.none),(120,.none),(121,.ref 20)]) (r':=tA x++[some (C.list []),some (C.dict [])]) rfl (fun Q' q=>q) (by kernel_rfl) rfl (Zac rfl) ?_
 cases p with
 | none=>exact ⟨rfl,h⟩
 | some i=>
  refine ⟨rfl, ?_⟩
  refine sa2 (rest:=.nil) (v:=.int i) (fs':=[(109,.int k),(110,.int i),(111,.int i),(17,.lst (iV ms)),(112,.int x.said),(113,.bool x.up),(114,.ref 5),(115,nV w),(23,.ref 19),(116,.int 0),(117,.bool false),(118,.tup [.int 0,.int (-1)]),(119,.none),(120,.none),(121,.ref 20)]) (r':=tA x++[some (C.list []),some (C.dict [])]) rfl (fun Q' q=>q) (by kernel_rfl) rfl (Zac rfl) ?_
  exact h
noncomputable def memF (l:List Int)(k:Int):Bool:=(iV l).any fun z=>eqD z (.int k)
theorem Zbj {H:Hp}{n:Nat}:∀l:List Int,deepL (deepN H (n+1)) (iV l)=some (iV l):=by
 intro zz0
 induction zz0 with
 | nil=>
  exact rfl
 | cons i r ih=>
  show (match some (V.int i) with | some y=>(match deepL (deepN H (n+1)) (iV r) with | some ys=>some (y::ys) | none=>none) | none=>none)=_
  rw [ih]; rfl
theorem f261:tb.P.fn 261=some Zbx:=by kernel_rfl
theorem Zkm {w:News}(hp:x.place=none)(c:(memF w.hs k&&decide (x.hi < w.no))=false)(h:Q .none ⟨fA m hs U k x []⟩):CW tb.P (n+3) 261 [.ref 0,.ref 2,w.v] ⟨fA m hs U k x []⟩ Q E:=by
 obtain ⟨xp,xhi,xms,xsaid,xup,xgone,xnews,xrow,xtook,xstill,xbal,xagd,xoff,xholds⟩:=x
 cases hp
 refine Zad _ _ _ f261 rfl ?_
 refine ⟨rfl, ?_⟩
 refine Zaa (o:=deepL (deepN _ 11) (iV w.hs)) (Zbj w.hs) ?_
 refine ZbV (b:=memF w.hs k) (fun d=>?_) fun d=>?_
 ·refine Zei (b:=decide (xhi < w.no)) (by rw [d,Bool.true_and] at c; exact c) ?_
  exact h
 ·exact h
theorem ZmT {w:News}(hp:x.place=none)(c:(memF w.hs k&&decide (x.hi < w.no))=true)(hz:w.hs.length<=SZ)(h:Q .none ⟨fB m hs U k x (intoF x (some w.no) w.hs (some w))⟩):CW tb.P (n+3) 261 [.ref 0,.ref 2,w.v] ⟨fA m hs U k x []⟩ Q E:=by
 obtain ⟨xp,xhi,xms,xsaid,xup,xgone,xnews,xrow,xtook,xstill,xbal,xagd,xoff,xholds⟩:=x
 cases hp
 refine Zad _ _ _ f261 rfl ?_
 refine ⟨rfl, ?_⟩
 refine Zaa (o:=deepL (deepN _ 11) (iV w.hs)) (Zbj w.hs) ?_
 have c:=Bool.and_eq_true_iff.mp c
 refine Zht (b:=memF w.hs k) c.1 ?_
 refine Zht (b:=decide (xhi < w.no)) c.2 ?_
 refine Zfh (k:=k) (x:=⟨none,xhi,xms,xsaid,xup,xgone,xnews,xrow,xtook,xstill,xbal,xagd,xoff,xholds⟩) (p:=some w.no) (ms:=w.hs) (w:=some w) hz ?_
 exact gv rfl h
theorem ZkI {w:News}(hp:x.place=some pl)(c:pl≠w.no - 1)(h:Q .none ⟨fA m hs U k x []⟩):CW tb.P (n+3) 261 [.ref 0,.ref 2,w.v] ⟨fA m hs U k x []⟩ Q E:=by
 obtain ⟨xp,xhi,xms,xsaid,xup,xgone,xnews,xrow,xtook,xstill,xbal,xagd,xoff,xholds⟩:=x
 cases hp
 refine Zad _ _ _ f261 rfl ?_
 refine ⟨rfl, ?_⟩
 refine Zht (b:=!decide (pl=w.no - 1)) (by rw [decide_eq_false c]; rfl) ?_
 exact h
noncomputable def goneF (x:Hd)(pl:Int)(row:List Msg):Hd:={ x with gone:=x.gone++[(pl,x.ms,row)] }
noncomputable def onF (k pl:Int)(x:Hd)(w:News):Hd:=cond (memF w.hs k) (intoF (goneF x pl w.row) (some w.no) w.hs (some w)) (intoF (goneF x pl w.row) none [] none)
theorem Zlu {w:News}(hp:x.place=some pl)(c:pl=w.no - 1)(hz:w.hs.length<=SZ)(hm:x.ms.length<=SZ)(hr:w.row.length<=SZ)(hg:x.gone.length < SZ)(h:Q .none ⟨fB m hs U k (goneF x pl w.row) (onF k pl x w)⟩):CW tb.P (n+3) 261 [.ref 0,.ref 2,w.v] ⟨fA m hs U k x []⟩ Q E:=by
 have eg:gV x.gone++[.tup [.int pl,.lst (iV x.ms),.lst (mV w.row)]]=gV (x.gone++[(pl,x.ms,w.row)]):=by unfold gV; rw [List.map_append]; rfl
 have lg:(gV x.gone).length=x.gone.length:=List.length_map ..
 obtain ⟨xp,xhi,xms,xsaid,xup,xgone,xnews,xrow,xtook,xstill,xbal,xagd,xoff,xholds⟩:=x
 cases hp
 refine Zad _ _ _ f261 rfl ?_
 refine ⟨rfl, ?_⟩
 refine Zei (b:=!decide (pl=w.no - 1)) (by rw [decide_eq_true c]; rfl) ?_
 refine ⟨rfl, ?_⟩
 refine ⟨by rw [Zae]; exact hm, ?_⟩
 refine ⟨by rw [Zap]; exact hr, ?_⟩
 refine ⟨Zac rfl, ?_⟩
 refine ⟨by rw [lg]; exact hg, ?_⟩
 show wpSs tb.P (CW tb.P (n+2)) _ ⟨⟨some (folkC m hs)::some (.list (lV U))::some (.inst 59 (hFL k ⟨some pl,xhi,xms,xsaid,xup,xgone,xnews,xrow,xtook,xstill,xbal,xagd,xoff,xholds⟩ l0))::some (.list (mV xrow))::some (.dict (hoV xholds))::some (.list (gV xgone++[.tup [.int pl,.lst (iV xms),.lst (mV w.row)]]))::oC xoff::pC xoff::aC xoff::none::none::none::none::none::none::none::none::none::[none]⟩,_⟩ _ _
 rw [eg]
 refine Zaa (o:=deepL (deepN _ 11) (iV w.hs)) (Zbj w.hs) ?_
 unfold onF at h
 refine ZbV (b:=memF w.hs k) (fun d=>?_) fun d=>?_
 ·rw [Zb5 d] at h
  refine Zfh (k:=k) (x:=goneF ⟨some pl,xhi,xms,xsaid,xup,xgone,xnews,xrow,xtook,xstill,xbal,xagd,xoff,xholds⟩ pl w.row) (p:=some w.no) (ms:=w.hs) (w:=some w) hz ?_
  exact gv rfl h
 ·rw [ZbT d] at h
  refine ⟨Zac rfl, ?_⟩
  refine Zfh (k:=k) (x:=goneF ⟨some pl,xhi,xms,xsaid,xup,xgone,xnews,xrow,xtook,xstill,xbal,xagd,xoff,xholds⟩ pl w.row) (p:=none) (ms:=[]) (w:=none) (Zac rfl) ?_
  exact gv rfl h
end
noncomputable def mx (a b:Int):Int:=if b > a then b else a
noncomputable def mn (a b:Int):Int:=if b < a then b else a
noncomputable def hoS:List (Int×Int)->Int->Int->List (Int×Int)
 | [],k,v=>[(k,v)]
 | p::r,k,v=>cond (decide (p.1=k)) ((p.1,v)::r) (p::hoS r k v)
theorem Zks (x v:Int):∀hd:List (Int×Int),dSet (hoV hd) (.int x) (.int v)=hoV (hoS hd x v):=by
 intro zz0
 induction zz0 with
 | nil=>
  exact rfl
 | cons p r ih=>
  show cond (decide (p.1=x)) ((V.int p.1,V.int v)::hoV r) ((V.int p.1,V.int p.2)::dSet (hoV r) (.int x) (.int v))=hoV (cond (decide (p.1=x)) ((p.1,v)::r) (p::hoS r x v))
  rw [ih]
  cases decide (p.1=x) <;> rfl
noncomputable def stepF (k pl:Int)(x:Hd)(U:List Letter)(src:Int):Cont->Hd×List Letter
 | .wish m=>wishF k pl x U m
 | .hold m p=>holdF k pl x U src m p
 | .have_ c=>lookF k pl { x with holds:=hoS x.holds src (mx c (hoD x.holds src)) } U
 | .take c=>({ x with took:=mx x.took (mn c x.row.length) },U)
 | .prep b=>prepF k pl x U src b
 | .prom b row a=>promF k pl x U src b row a
 | .acc a=>accF k pl x U src a
 | .agr b=>agrF k pl x U src b
 | .ent _=>(x,U)
noncomputable def entF (k:Int)(x:Hd)(w:News):Hd:=match x.place with
 | none=>cond (memF w.hs k&&decide (x.hi < w.no)) (intoF x (some w.no) w.hs (some w)) x
 | some pl=>cond (decide (pl=w.no - 1)) (onF k pl x w) x
noncomputable def hereF (k:Int)(x:Hd)(U:List Letter)(L:Letter):Hd×List Letter:=match x.place with
 | none=>(x,U)
 | some p=>cond (decide (p=L.pl)) (stepF k p x U L.from_ L.c) (x,U)
noncomputable def newsOf:Cont->Option News
 | .ent w=>some w
 | _=>none
noncomputable def comeF (k:Int)(x:Hd)(U:List Letter)(L:Letter):Hd×List Letter:=cond x.up (match newsOf L.c with
  | some w=>(entF k x w,U)
  | none=>hereF k x U L) (x,U)
noncomputable def l2:Lh:=⟨3,4,5,19,20,21⟩
noncomputable def fC (m:V)(hs:List V)(U:List Letter)(k:Int)(y:Hd)(o:Off):List (Option C):=some (folkC m hs)::some (.list (lV U))::some (.inst 59 (hFL k { y with off:=some o } l2))::(tA y++[some (C.inst 155 (oFL o 20 21)),some (C.dict []),some (C.dict [])])
inductive SM (m:V)(hs:List V)(k:Int)(y:Hd)(U:List Letter)(x:Hd):Hp->Prop
 | a (g:List (Option C)) (ho:x.off.isSome=y.off.isSome):SM m hs k y U x ⟨fA m hs U k x g⟩
 | b (z:Hd) (ho:x.off=none) (hr:x.row=[]) (hh:x.holds=[]) (hg:x.gone=z.gone):SM m hs k y U x ⟨fB m hs U k z x⟩
 | c (o:Off) (hx:x={ y with off:=some o }) (hp:o.prom=[]) (ha:o.agr=[]):SM m hs k y U x ⟨fC m hs U k y o⟩
theorem ZaR {b:Bool}{p q:Hd×List Letter}{v:Bool}(h1:p.1.off.isSome=v)(h2:q.1.off.isSome=v):(cond b p q).1.off.isSome=v:=by cases b <;> assumption
theorem Ze0 {k pl:Int}{x:Hd}{U:List Letter}:(lookF k pl x U).1.off.isSome=x.off.isSome:=ZaR rfl rfl
theorem ZhT {k pl:Int}{x:Hd}{U:List Letter}{src:Int}{c:Cont}:(stepF k pl x U src c).1.off.isSome=x.off.isSome:=by
 cases c with
 | wish m=>exact ZaR rfl (ZaR rfl Ze0)
 | hold m p=>exact ZaR rfl (ZaR rfl (ZaR rfl rfl))
 | have_ c=>exact Ze0
 | take c=>rfl
 | prep b=>exact ZaR rfl rfl
 | prom b row a=>
  show (promF k pl x U src b row a).1.off.isSome=_
  unfold promF
  cases e:x.off with
  | none=>show x.off.isSome=_; rw [e]
  | some o=>exact ZaR (ZaR (ZaR rfl rfl) rfl) rfl
 | acc a=>exact ZaR rfl rfl
 | agr b=>
  show (agrF k pl x U src b).1.off.isSome=_
  unfold agrF
  cases e:x.off with
  | none=>show x.off.isSome=_; rw [e]
  | some o=>exact ZaR (ZaR rfl (ZaR rfl rfl)) rfl
 | ent w=>rfl
structure OkA (U:List Letter)(k:Int)(x:Hd):Prop where
 hz:x.ms.length<=50
 hn:∀pl,x.place=some pl->x.ms.length / 2 < (oth k x.ms).length+1
 hU:U.length+100<=SZ
 hr:x.row.length < SZ
 hh:x.holds.length < SZ
 hg:x.gone.length < SZ
 ho:∀o,x.off=some o->o.prom.length < SZ/\o.agr.length < SZ
noncomputable def OkC (x:Hd)(src:Int):Cont->Prop
 | .prom b row a=>∀o,x.off=some o->bEq o.b b=true->o.val=none->enF x.ms (prS o.prom src (row,a)).length=true->PfOk x.ms { o with prom:=prS o.prom src (row,a) }
 | .agr b=>∀o,x.off=some o->bEq o.b b=true->o.over=false->enF x.ms (agS o.agr src).length=true->∃v,o.val=some v/\AgOk x.ms v
 | .ent w=>w.hs.length<=SZ/\w.row.length<=SZ
 | _=>True
section
variable {n:Nat}{m:V}{hs:List V}{U:List Letter}{k pl:Int}{x:Hd}{Q:V->Hp->Prop}{E:Nat->Hp->Prop}
theorem Zlt {b:Bal}{src:Int}{row:List Msg}{a:Option Acc}(hp:x.place=some pl)(hU:U.length+50<=SZ)(ho:∀o,x.off=some o->o.prom.length < SZ)(hz:x.ms.length<=50)(oc:OkC x src (.prom b row a))
  (h:∀g,Q .none ⟨fA m hs (promF k pl x U src b row a).2 k (promF k pl x U src b row a).1 g⟩):CW tb.P (n+2) 258 [.ref 0,.ref 2,.int src,.tup [bV b,.lst (mV row),aV a]] ⟨fA m hs U k x []⟩ Q E:=by
 obtain ⟨xp,xhi,xms,xsaid,xup,xgone,xnews,xrow,xtook,xstill,xbal,xagd,xoff,xholds⟩:=x
 cases xoff with
 | none=>exact Zly (x:=⟨xp,xhi,xms,xsaid,xup,xgone,xnews,xrow,xtook,xstill,xbal,xagd,none,xholds⟩) (h [])
 | some oo=>exact Zmx (x:=⟨xp,xhi,xms,xsaid,xup,xgone,xnews,xrow,xtook,xstill,xbal,xagd,some oo,xholds⟩) hp hU (ho oo rfl) hz (oc oo rfl) h
theorem ZnR {b:Bal}{src:Int}(hp:x.place=some pl)(hU:U.length+50<=SZ)(ho:∀o,x.off=some o->o.agr.length < SZ)(hz:x.ms.length<=50)(oc:OkC x src (.agr b))
  (h:Q .none ⟨fA m hs (agrF k pl x U src b).2 k (agrF k pl x U src b).1 []⟩):CW tb.P (n+2) 260 [.ref 0,.ref 2,.int src,bV b] ⟨fA m hs U k x []⟩ Q E:=by
 obtain ⟨xp,xhi,xms,xsaid,xup,xgone,xnews,xrow,xtook,xstill,xbal,xagd,xoff,xholds⟩:=x
 cases xoff with
 | none=>exact Znw (x:=⟨xp,xhi,xms,xsaid,xup,xgone,xnews,xrow,xtook,xstill,xbal,xagd,none,xholds⟩) h
 | some oo=>exact Znk (x:=⟨xp,xhi,xms,xsaid,xup,xgone,xnews,xrow,xtook,xstill,xbal,xagd,some oo,xholds⟩) hp hU (ho oo rfl) hz (oc oo rfl) h
theorem f253:tb.P.fn 253=some Zbk:=by kernel_rfl
theorem ZoE {src:Int}{c:Cont}(hc:newsOf c=none)(hp:x.place=some pl)(o:OkA U k x)(oc:OkC x src c)(h:∀g,Q .none ⟨fA m hs (stepF k pl x U src c).2 k (stepF k pl x U src c).1 g⟩):
  CW tb.P (n+5) 253 [.ref 0,.str c.word,.ref 2,.int src,c.v] ⟨fA m hs U k x []⟩ Q E:=by
 obtain ⟨hz,hn,hU,hr,hh,hg,ho⟩:=o
 have hn:=hn pl hp
 cases c with
 | wish mm=>
  refine Zad _ _ _ f253 rfl ?_
  exact ZmK hp hz hn hU hr h
 | hold mm p=>
  refine Zad _ _ _ f253 rfl ?_
  exact Zl9 hp (by exact la9 hU (Nat.le_of_ble_eq_true rfl)) hr (h [])
 | have_ c=>
  refine Zad _ _ _ f253 rfl ?_
  refine ⟨rfl,ZdI x.holds src, ?_⟩
  show need (see _ ((dGet (hoV x.holds) (.int src)).getD (.int 0))) _
  rw [ZgG]
  refine ⟨ZdI x.holds src,by rw [ZkZ]; exact hh, ?_⟩
  show CW tb.P (n+4) 256 [.ref 0,.ref 2] ⟨some (folkC m hs)::some (.list (lV U))::some (.inst 59 (hFL k x l0))::some (.list (mV x.row))::some (.dict (dSet (hoV x.holds) (.int src) (.int (mx c (hoD x.holds src)))))::(fA m hs U k x []).drop 5⟩ _ _
  rw [Zks]
  exact Zji (x:={ x with holds:=hoS x.holds src (mx c (hoD x.holds src)) }) hp hz hn (by exact la9 hU (Nat.le_of_ble_eq_true rfl)) h
 | take c=>
  refine Zad _ _ _ f253 rfl ?_
  refine ⟨rfl,Nat.le_of_ble_eq_true rfl, ?_⟩
  have h:Q .none ⟨fA m hs U k { x with took:=mx x.took (mn c x.row.length) } []⟩:=h []
  rw [← Zap x.row] at h
  exact h
 | prep b=>
  refine Zad _ _ _ f253 rfl ?_
  exact ZlB hp (by exact la9 hU (Nat.le_of_ble_eq_true rfl)) (by exact Nat.le_of_lt hr) (h [])
 | prom b row a=>exact Zad _ _ _ f253 rfl (Zlt (U:=U) hp (by exact la9 hU (Nat.le_of_ble_eq_true rfl)) (fun o e=>(ho o e).1) hz oc h)
 | acc a=>
  refine Zad _ _ _ f253 rfl ?_
  exact Znj hp (by exact la9 hU (Nat.le_of_ble_eq_true rfl)) (h [])
 | agr b=>exact Zad _ _ _ f253 rfl (ZnR (U:=U) hp (by exact la9 hU (Nat.le_of_ble_eq_true rfl)) (fun o e=>(ho o e).2) hz oc (h []))
 | ent w=>cases hc
theorem ZnW {src:Int}{w:News}(o:OkA U k x)(oc:OkC x src (.ent w))(h:∀H,SM m hs k x U (entF k x w) H->Q .none H):CW tb.P (n+3) 261 [.ref 0,.ref 2,w.v] ⟨fA m hs U k x []⟩ Q E:=by
 obtain ⟨hz,hn,hU,hr,hh,hg,ho⟩:=o
 unfold entF at h
 cases e:x.place with
 | none=>
  rw [e] at h
  cases c:memF w.hs k&&decide (x.hi < w.no) with
  | false=>exact Zkm e c (h _ (by rw [c]; exact .a [] rfl))
  | true=>exact ZmT e c oc.1 (h _ (by rw [c]; exact .b x rfl rfl rfl rfl))
 | some pl=>
  rw [e] at h
  by_cases c:pl=w.no - 1
  ·refine Zlu e c oc.1 (by unfold SZ; exact la7 hz rfl) oc.2 hg (h _ ?_)
   show SM m hs k x U (cond (decide (pl=w.no - 1)) (onF k pl x w) x) _
   rw [decide_eq_true c]
   show SM m hs k x U (onF k pl x w) _
   unfold onF
   cases memF w.hs k with
   | true=>exact .b _ rfl rfl rfl rfl
   | false=>exact .b _ rfl rfl rfl rfl
  ·exact ZkI e c (h _ (by show SM m hs k x U (cond (decide (pl=w.no - 1)) (onF k pl x w) x) _; rw [decide_eq_false c]; exact .a [] rfl))
theorem f5:tb.P.fn 5=some Zgy:=by kernel_rfl
theorem Zdz {H:Hp}{i:Int}(h:Q (.bool true) H):CW tb.P (n+1) 5 [.int i] H Q E:=Zad _ _ _ f5 rfl h
theorem f250:tb.P.fn 250=some Za8:=by kernel_rfl
theorem ZoF {u:List V}{r:List (Option C)}{p:Nat}{v:V}(hv:u[p]?=some v)(h:Q v ⟨some (folkC m hs)::some (.list u)::r⟩):CW tb.P (n+2) 250 [.ref 0,.int p] ⟨some (folkC m hs)::some (.list u)::r⟩ Q E:=by
 have lt:p < u.length:=(List.getElem?_eq_some_iff.mp hv).1
 refine Zad _ _ _ f250 rfl ?_
 refine Zdz ?_
 refine gv rfl ?_
 refine Zei (b:=decide ((u.length:Int)<=p)) (decide_eq_false (by exact fun zz=>lb3 lt zz)) ?_
 refine Zaa (o:=pyIdx (p:Int) u.length) (Zaz lt) ?_
 exact Zaa (o:=u[p]?) hv h
theorem f251:tb.P.fn 251=some ZcK:=by kernel_rfl
noncomputable def dropAt {α:Type}(l:List α)(p:Nat):List α:=l.take p++l.drop (p+1)
theorem Zld (U:List Letter)(p:Nat):(lV U).take p++(lV U).drop (p+1)=lV (dropAt U p):=by
 unfold dropAt lV
 rw [List.map_append,List.map_take,List.map_drop]
noncomputable def loC (p t src lp:Int)(c:Cont):Loc:=upd (upd (upd (upd (upd (upd (upd (upd (fun ø=>none) 108 (.ref 0)) 110 (.int p)) 126 (.str c.word)) 130 (.int src)) 127 (.int t)) 109 (.int lp)) 128 c.v) 125 (.ref 2)
theorem ZiW {p t src lp:Int}{c:Cont}{Q:Flow->St->Prop}{E:EP}(e:x.up=true)(o:OkA U k x)(oc:(newsOf c=none->x.place=some lp)->OkC x src c)
  (h:∀H,SM m hs k x (match newsOf c with | some w=>(entF k x w,U) | none=>hereF k x U ⟨src,t,lp,c⟩).2 (match newsOf c with | some w=>(entF k x w,U) | none=>hereF k x U ⟨src,t,lp,c⟩).1 H->Q .next ⟨H,loC p t src lp c⟩):
  wpSs tb.P (CW tb.P (n+5)) (.cons (.ite (.e (.cmp .eq (.loc 126) (.cst (.str Zcu)))) (.cons (.expr (.meth true (.loc 108) 94 (.cons (.loc 125) (.cons (.loc 128) .nil)))) .nil) (.cons (.ite (.and (.cons (.e (.cmp .isNot (.attr (.loc 125) 110) (.cst .none))) (.cons (.e (.cmp .eq (.attr (.loc 125) 110) (.loc 109))) .nil))) (.cons (.expr (.meth true (.loc 108) 86 (.cons (.loc 126) (.cons (.loc 125) (.cons (.loc 130) (.cons (.loc 128) .nil)))))) .nil) .nil) .nil)) .nil) ⟨⟨fA m hs U k x []⟩,loC p t src lp c⟩ Q E:=by
 cases q:newsOf c with
 | some w=>
  rw [q] at h
  cases c with
  | ent w'=>
   cases q
   exact ZnW (n:=n+2) (src:=src) o (oc fun z=>nomatch z) fun H s=>gv rfl (h H s)
  | _=>cases q
 | none=>
  rw [q] at h
  have h:∀H,SM m hs k x (hereF k x U ⟨src,t,lp,c⟩).2 (hereF k x U ⟨src,t,lp,c⟩).1 H->Q .next ⟨H,loC p t src lp c⟩:=h
  unfold hereF at h
  refine Zei (b:=eqD (.str c.word) (.str Zcu)) (by cases c <;> first | (cases q; done) | kernel_rfl) ?_
  cases ep:x.place with
  | none=>
   rw [ep] at h
   refine ⟨show solid (plV x.place)=true by rw [ep]; rfl, ?_⟩
   exact Zei (b:=!isNone (plV x.place)) (by rw [ep]; rfl) (h _ (.a [] rfl))
  | some pl=>
   rw [ep] at h
   have h:∀H,SM m hs k x (cond (decide (pl=lp)) (stepF k pl x U src c) (x,U)).2 (cond (decide (pl=lp)) (stepF k pl x U src c) (x,U)).1 H->Q .next ⟨H,loC p t src lp c⟩:=h
   refine ⟨show solid (plV x.place)=true by rw [ep]; rfl, ?_⟩
   refine Zht (b:=!isNone (plV x.place)) (by rw [ep]; rfl) ?_
   refine Zaa (o:=deep _ (plV x.place)) (a:=.int pl) (by rw [ep]; rfl) ?_
   refine ZbV (b:=decide (pl=lp)) (fun d=>?_) fun d=>?_
   ·rw [Zb5 d] at h
    exact ZoE (n:=n) q ep o (oc fun ø=>ep.trans (congrArg some (of_decide_eq_true d))) fun g=>gv rfl (h _ (.a g ZhT))
   ·rw [ZbT d] at h
    exact h _ (.a [] rfl)
theorem Zlq {p t:Nat}{L:Letter}(hp:U[p]?=some L)(ht:L.to=t)(hv:hs[t]?=some (.ref 2))(o:OkA (dropAt U p) k x)(oc:x.up=true->(newsOf L.c=none->x.place=some L.pl)->OkC x L.from_ L.c)(h:∀H,SM m hs k x (comeF k x (dropAt U p) L).2 (comeF k x (dropAt U p) L).1 H->Q .none H):
  CW tb.P (n+6) 251 [.ref 0,.int p] ⟨fA m hs U k x []⟩ Q E:=by
 obtain ⟨src,to,lp,c⟩:=L
 cases ht
 have lu:p < (lV U).length:=by rw [Zba]; exact (List.getElem?_eq_some_iff.mp hp).1
 have hu:(lV U)[p]?=some (Letter.v ⟨src,t,lp,c⟩):=by unfold lV; rw [List.getElem?_map,hp]; rfl
 have lt:t < hs.length:=(List.getElem?_eq_some_iff.mp hv).1
 unfold comeF at h
 refine Zad _ _ _ f251 rfl ?_
 refine ZoF hu ?_
 refine ⟨rfl, ?_⟩
 refine Zaa (o:=pyIdx (p:Int) (lV U).length) (Zaz lu) ?_
 refine Zaa (o:=(lV U)[p]?) hu ?_
 refine Zaa (o:=pyIdx (t:Int) hs.length) (Zaz lt) ?_
 refine Zaa (o:=hs[t]?) hv ?_
 have ed:=Zld U p
 refine ZbV (b:=!x.up) (fun e=>?_) fun e=>?_
 ·have e:x.up=false:=by cases q:x.up with | false=>rfl | true=>rw [q] at e; cases e
  rw [ZbT e] at h
  have h:=h _ (.a [] rfl)
  unfold fA at h
  rw [← ed] at h
  exact h
 have e:x.up=true:=by cases q:x.up with | true=>rfl | false=>rw [q] at e; cases e
 rw [Zb5 e] at h
 have key:=ZiW (n:=n) (m:=m) (hs:=hs) (U:=dropAt U p) (k:=k) (x:=x) (p:=p) (t:=t) (Q:=fun fl σ=>Q (retV fl) σ.H) (E:=fun e σ=>E e σ.H) e o (oc e) h
 unfold fA at key
 rw [← ed] at key
 exact key
end
structure AtA (t M:Nat)(hs:List V):Prop where
 lt:t < M
 at_:hs[t]?=some (.ref 2)
structure Fi (M:Nat)(fi:List Int):Prop where
 ne:fi≠[]
 up:fi.Pairwise (· < ·)
 lt:∀i∈fi,0<=i/\i < M
theorem sa9 {P:Prog}{K:CT}{E:EP}{e:PE}{nm k:Nat}{v:V}{a0 a1 a2 a3 a4 a5 a6 a7 a8 a9 a10 a11 a12 a13 a14 a15 a16 a17 a18:Option C}{fs fs':List (Nat×V)}{r r':List (Option C)}{lo:Loc}{rest:PSs}{Q:Flow->St->Prop}(hl:lo 108=some (.ref 19))(he:∀Q':V->St->Prop,Q' v ⟨⟨a0::a1::a2::a3::a4::a5::a6::a7::a8::a9::a10::a11::a12::a13::a14::a15::a16::a17::a18::some (.inst k fs)::r'⟩,lo⟩->wpE P K E e ⟨⟨a0::a1::a2::a3::a4::a5::a6::a7::a8::a9::a10::a11::a12::a13::a14::a15::a16::a17::a18::some (.inst k fs)::r⟩,lo⟩ Q')(hc:attrOk P k nm=true)(hs:st fs nm v=fs')(hz:fs.length < 1000)
  (h:wpSs P K rest ⟨⟨a0::a1::a2::a3::a4::a5::a6::a7::a8::a9::a10::a11::a12::a13::a14::a15::a16::a17::a18::some (.inst k fs')::r'⟩,lo⟩ Q E):wpSs P K (.cons (.assign (.attr (.loc 108) nm) e) rest) ⟨⟨a0::a1::a2::a3::a4::a5::a6::a7::a8::a9::a10::a11::a12::a13::a14::a15::a16::a17::a18::some (.inst k fs)::r⟩,lo⟩ Q E:=by
 subst hs
 refine he _ ?_
 refine Zaa (o:=lo 108) hl ?_
 unfold attrOk at hc
 cases q:P.cls k with
 | none=>rw [q] at hc; cases hc
 | some c=>
  rw [q] at hc
  exact Zaa (o:=P.cls k) q ⟨hc,hz,h⟩
section
variable {n M t:Nat}{hs:List V}{U:List Letter}{k pl:Int}{x:Hd}{Q:V->Hp->Prop}{E:Nat->Hp->Prop}
theorem f274:tb.P.fn 274=some Za9:=by kernel_rfl
theorem ZkO {a0 a1 a2 a3 a4 a5 a6 a7 a8 a9 a10 a11 a12 a13 a14 a15 a16 a17 a18:Option C}{b:Bal}{l:List Int}(h:Q .none ⟨a0::a1::a2::a3::a4::a5::a6::a7::a8::a9::a10::a11::a12::a13::a14::a15::a16::a17::a18::[some (.inst 155 (oFL ⟨b,l,[],none,[],false⟩ 20 21)),some (.dict []),some (.dict [])]⟩):CW tb.P (n+1) 274 [.ref 19,bV b,.lst (iV l)] ⟨a0::a1::a2::a3::a4::a5::a6::a7::a8::a9::a10::a11::a12::a13::a14::a15::a16::a17::a18::[some (.inst 155 [])]⟩ Q E:=by
 refine Zad _ _ _ f274 rfl ?_
 refine sa9 (v:=bV b) (fs':=[(118,bV b)]) (r':=[]) rfl (fun Q' q=>q) (by kernel_rfl) rfl (Zac rfl) ?_
 refine sa9 (v:=.lst (iV l)) (fs':=[(118,bV b),(123,.lst (iV l))]) (r':=[]) rfl (fun Q' q=>q) (by kernel_rfl) rfl (Zac rfl) ?_
 refine sa9 (v:=.ref 20) (fs':=[(118,bV b),(123,.lst (iV l)),(146,.ref 20)]) (r':=[some (.dict [])]) rfl (fun Q' q=>⟨Zac rfl,rfl,q⟩) (by kernel_rfl) rfl (Zac rfl) ?_
 refine sa9 (v:=.none) (fs':=[(118,bV b),(123,.lst (iV l)),(146,.ref 20),(147,.none)]) (r':=[some (.dict [])]) rfl (fun Q' q=>q) (by kernel_rfl) rfl (Zac rfl) ?_
 refine sa9 (v:=.ref 21) (fs':=[(118,bV b),(123,.lst (iV l)),(146,.ref 20),(147,.none),(149,.ref 21)]) (r':=[some (.dict []),some (.dict [])]) rfl (fun Q' q=>⟨Zac rfl,rfl,q⟩) (by kernel_rfl) rfl (Zac rfl) ?_
 refine sa9 (v:=.bool false) (fs':=[(118,bV b),(123,.lst (iV l)),(146,.ref 20),(147,.none),(149,.ref 21),(148,.bool false)]) (r':=[some (.dict []),some (.dict [])]) rfl (fun Q' q=>q) (by kernel_rfl) rfl (Zac rfl) ?_
 exact h
theorem f244:tb.P.fn 244=some ZbD:=by kernel_rfl
theorem Zc4 {v:V}{r:List (Option C)}(hM:t < M)(hv:hs[t]?=some v)(h:Q v ⟨some (folkC (.int M) hs)::r⟩):CW tb.P (n+2) 244 [.ref 0,.int t] ⟨some (folkC (.int M) hs)::r⟩ Q E:=by
 have lt:t < hs.length:=(List.getElem?_eq_some_iff.mp hv).1
 refine Zad _ _ _ f244 rfl ?_
 refine Zdz ?_
 refine gv rfl ?_
 refine Zei (b:=decide ((M:Int)<=t)) (decide_eq_false (by exact fun zz=>lc4 (ld3 zz) hM)) ?_
 refine Zaa (o:=pyIdx (t:Int) hs.length) (Zaz lt) ?_
 exact Zaa (o:=hs[t]?) hv h
theorem f245:tb.P.fn 245=some ZcF:=by kernel_rfl
theorem ZgE (o:AtA t M hs)(hu:x.up=true)(hp:x.place=some pl)(h:Q (.ref 2) ⟨fA (.int M) hs U k x []⟩):CW tb.P (n+3) 245 [.ref 0,.int t] ⟨fA (.int M) hs U k x []⟩ Q E:=by
 obtain ⟨xp,xhi,xms,xsaid,xup,xgone,xnews,xrow,xtook,xstill,xbal,xagd,xoff,xholds⟩:=x
 cases hp
 cases hu
 refine Zad _ _ _ f245 rfl ?_
 refine Zc4 o.lt o.at_ ?_
 exact ⟨rfl,h⟩
theorem f248:tb.P.fn 248=some ZcZ:=by kernel_rfl
theorem Znf {f:Int}{fs:List Int}{w:Str}(o:AtA t M hs)(hu:x.up=true)(hp:x.place=some pl)(hk:k=t)(hf:x.ms=f::fs)(hU:U.length+1<=SZ)(h:Q .none ⟨fA (.int M) hs (U++[⟨t,f,pl,.wish ⟨t,x.said,w⟩⟩]) k { x with said:=x.said+1 } []⟩):
  CW tb.P (n+4) 248 [.ref 0,.int t,.str w] ⟨fA (.int M) hs U k x []⟩ Q E:=by
 subst hk
 refine Zad _ _ _ f248 rfl ?_
 refine ZgE o hu hp ?_
 refine ⟨Nat.le_of_ble_eq_true rfl, ?_⟩
 refine ⟨rfl,Nat.le_of_ble_eq_true rfl, ?_⟩
 refine ⟨rfl,rfl, ?_⟩
 have e1:(iV x.ms).take 1=[.int f]:=by rw [hf]; rfl
 refine ⟨show ((iV x.ms).take 1).length<=SZ by rw [e1]; exact Zac rfl, ?_⟩
 show CW tb.P (n+3) 247 [.ref 0,.str ZeS,.ref 2,.lst ((iV x.ms).take 1),.tup [.int t,.int x.said,.str w]] ⟨fA (.int M) hs U t { x with said:=x.said+1 } []⟩ _ _
 rw [e1]
 refine Zbm (a:=.int t) (p:=.int pl) rfl (ZaI hp) (by rw [Zba]; exact hU) ?_
 show Q .none ⟨some (folkC (.int M) hs)::some (.list (lV U++[ltr (Cont.wish ⟨t,x.said,w⟩).word (.int t) (.int pl) (Cont.wish ⟨t,x.said,w⟩).v (.int f)]))::_⟩
 rw [Zeb]
 exact h
theorem f7l:tb.P.fn 7=some Zd0:=by kernel_rfl
theorem Ze2 {M:Nat}{H:Hp}(to:List V)(v:V)(hi:items H v=some to)(Q:Flow->St->Prop):∀(xs:List Int) (a:Int) (lo:Loc),lo 18=some (.int M)->lo 19=some (.int a)->(a::xs).Pairwise (· < ·)->(∀i∈xs,i < M)->(∀lo',Q .next ⟨H,lo'⟩)->
  loopGo (fun v σ2 k=>bindT [20] v σ2 fun σ3=>wpSs tb.P (CW tb.P (n+1)) Zcz σ3 k noE) (still v to) (iV xs) ⟨H,lo⟩ Q:=by
 intro zz0
 induction zz0 with
 | nil=>
  intro a lo h1 h2 hp hb h
  exact ⟨hi,h lo⟩
 | cons x xs ih=>
  intro a lo h1 h2 hp hb h
  have hp:=List.pairwise_cons.mp hp
  have ax:=hp.1 x (.head _)
  have xM:=hb x (.head _)
  refine ⟨hi, ?_⟩
  refine Zdz ?_
  refine gv rfl ?_
  refine Zaa (o:=lo 19) h2 ?_
  refine Zei (b:=decide (x<=a)) (decide_eq_false (by exact fun zz=>Int.not_lt_of_ge zz ax)) ?_
  refine Zaa (o:=lo 18) h1 ?_
  refine Zei (b:=decide ((M:Int)<=x)) (decide_eq_false (by exact fun zz=>lb4 xM zz)) ?_
  exact ih x (upd (upd lo 20 (.int x)) 19 (.int x)) h1 rfl hp.2 (fun i hi=>hb i (.tail _ hi)) h
theorem ZlV {M:Nat}{fi:List Int}{H:Hp}(f:Fi M fi)(h:Q (.bool true) H):CW tb.P (n+2) 7 [.lst (iV fi),.int M] H Q E:=by
 refine Zad _ _ _ f7l rfl ?_
 refine Zei (b:=decide (((iV fi).length:Int)=0)) (decide_eq_false fun z=>f.ne (List.length_eq_zero_iff.mp (by rw [Zae] at z; exact lb5 z))) ?_
 refine Ze2 (iV fi) (.lst (iV fi)) rfl _ fi (-1) _ rfl rfl (List.pairwise_cons.mpr ⟨fun i hi=>by have:=f.lt i hi; exact this.1,f.up⟩) (fun i hi=>(f.lt i hi).2) fun lo'=>?_
 exact h
theorem f270:tb.P.fn 270=some ZbA:=by kernel_rfl
noncomputable def mostF (x:Hd):Int:=match x.off with
 | none=>x.bal.1
 | some o=>mx x.bal.1 o.b.1
noncomputable def offF (k:Int)(x:Hd)(l:List Int):Off:=⟨(mostF x+1,k),l,[],none,[],false⟩
theorem ZnQ {P:Prog}{K:CT}{E:EP}{i:Nat}{e:PE}{rest:PSs}{σ σ':St}{v:V}{Q:Flow->St->Prop}(he:∀Q':V->St->Prop,Q' v σ'->wpE P K E e σ Q')(h:wpSs P K rest (σ'.put i v) Q E):wpSs P K (.cons (.assign (.loc i) e) rest) σ Q E:=he _ h
theorem Zoe {P:Prog}{K:CT}{E:EP}{t:PC}{a rest:PSs}{σ σ':St}{Q:Flow->St->Prop}(ht:∀k:Bool->St->Prop,k false σ'->wpT P K E t σ k)(h:wpSs P K rest σ' Q E):wpSs P K (.cons (.ite t a .nil) rest) σ Q E:=ht _ h
theorem Zos {P:Prog}{K:CT}{E:EP}{t:PC}{a b rest:PSs}{σ σ':St}{Q:Flow->St->Prop}(ht:∀k:Bool->St->Prop,k true σ'->wpT P K E t σ k)(h:wpSs P K a σ' (fun fl σ1=>seqK fl σ1 (fun σ2=>wpSs P K rest σ2 Q E) Q) E):wpSs P K (.cons (.ite t a b) rest) σ Q E:=ht _ h
theorem Zfg {l:List Int}{lo:Loc}(hp:x.place=some pl)(hl:l.length<=SZ)(hz:x.ms.length<=50)(hU:U.length+50<=SZ)(h1:lo 108=some (.ref 0))(h2:lo 125=some (.ref 2))(h3:lo 20=some (.int t))(h4:lo 17=some (.lst (iV l)))(h5:lo 145=some (.int (mostF x)))(h:∀H,SM (.int M) hs t x (U++sendF t pl x.ms (.prep (mostF x+1,t))) { x with off:=some (offF t x l) } H->Q .none H):wpSs tb.P (CW tb.P (n+3)) (.cons (.assign (.attr (.loc 125) 120) (.call true (.glob 155) (.cons (.tup (.cons (.bin true .add (.loc 145) (.cst (.int 1))) (.cons (.loc 20) .nil))) (.cons (.call true (.glob 41) (.cons (.loc 17) .nil)) .nil))))
  (.cons (.expr (.meth true (.loc 108) 75 (.cons (.cst (.str Zbo)) (.cons (.loc 125) (.cons (.attr (.loc 125) 17) (.cons (.attr (.attr (.loc 125) 120) 118) .nil)))))) .nil)) ⟨⟨fA (.int M) hs U t x []⟩,lo⟩ (fun fl σ=>Q (retV fl) σ.H) fun e σ=>E e σ.H:=by
 refine Zaa (o:=lo 145) h5 ?_
 refine Zaa (o:=lo 20) h3 ?_
 refine ⟨Zac rfl, ?_⟩
 refine Zaa (o:=lo 17) h4 ?_
 refine ⟨by rw [Zae]; exact hl, ?_⟩
 refine ZkO (b:=(mostF x+1,t)) (l:=l) ?_
 refine ⟨rfl, ?_⟩
 refine Zaa (o:=lo 125) h2 ?_
 refine ⟨rfl,Zac rfl, ?_⟩
 refine Zaa (o:=lo 108) h1 ?_
 refine Zaa (o:=lo 125) h2 ?_
 refine Zaa (o:=lo 125) h2 ?_
 refine Zaa (o:=lo 125) h2 ?_
 refine Zbm (a:=.int t) (p:=.int pl) (to:=iV x.ms) (k:=59) (fs:=hFL t { x with off:=some (offF t x l) } l2) rfl (ZaI hp) (by rw [Zba,Zae]; exact la9 hU hz) ?_
 have h:=h _ (.c (offF t x l) rfl rfl rfl)
 have h:Q .none ⟨some (folkC (.int M) hs)::some (.list (lV (U++sendF t pl x.ms (.prep (mostF x+1,t)))))::_⟩:=h
 rw [← ZbX] at h
 exact h
theorem Zl7 {l:List Int}(o:AtA t M hs)(hu:x.up=true)(hp:x.place=some pl)(hk:k=t)(f:Fi M l)(hl:l.length<=SZ)(hz:x.ms.length<=50)(hU:U.length+50<=SZ)(h:∀H,SM (.int M) hs k x (U++sendF k pl x.ms (.prep (mostF x+1,k))) { x with off:=some (offF k x l) } H->Q .none H):
  CW tb.P (n+4) 270 [.ref 0,.int t,.lst (iV l)] ⟨fA (.int M) hs U k x []⟩ Q E:=by
 subst hk
 refine Zad _ _ _ f270 rfl ?_
 refine ZnQ (v:=.ref 2) (fun Q' q=>ZgE o hu hp q) ?_
 refine Zoe (fun k' q=>ZlV f (gv rfl q)) ?_
 refine ZnQ (v:=.int x.bal.1) (fun Q' q=>q) ?_
 obtain ⟨xp,xhi,xms,xsaid,xup,xgone,xnews,xrow,xtook,xstill,xbal,xagd,xoff,xholds⟩:=x
 cases xoff with
 | none=>
  refine Zoe (fun k' q=>⟨rfl,q⟩) ?_
  exact Zfg (x:=⟨xp,xhi,xms,xsaid,xup,xgone,xnews,xrow,xtook,xstill,xbal,xagd,none,xholds⟩) hp hl hz hU rfl rfl rfl rfl rfl h
 | some oo=>
  refine Zos (fun k' q=>⟨rfl,q⟩) ?_
  refine ZnQ (v:=.int (mx xbal.1 oo.b.1)) (fun Q' q=>q) ?_
  exact Zfg (x:=⟨xp,xhi,xms,xsaid,xup,xgone,xnews,xrow,xtook,xstill,xbal,xagd,some oo,xholds⟩) hp hl hz hU rfl rfl rfl rfl rfl h
end
structure Lay where
 fk:Nat
 un:Nat
 hs:List Nat
noncomputable def rol (t i:Nat):Nat:=8 * (t+1)+i
structure OfR (H:Hp)(ow:Nat->Nat)(t:Nat)(o:Off)(l:Lh):Prop where
 go:H.get l.o=some (.inst 155 (oFL o l.p l.a))
 gp:H.get l.p=some (.dict (prV o.prom))
 ga:H.get l.a=some (.dict (agV o.agr))
 wo:ow l.o=rol t 4
 wp:ow l.p=rol t 5
 wa:ow l.a=rol t 6
structure HdR (H:Hp)(ow:Nat->Nat)(t h:Nat)(x:Hd)(l:Lh):Prop where
 hd:H.get h=some (.inst 59 (hFL t x l))
 row:H.get l.r=some (.list (mV x.row))
 hol:H.get l.d=some (.dict (hoV x.holds))
 gon:H.get l.g=some (.list (gV x.gone))
 off:∀o,x.off=some o->OfR H ow t o l
 wh:ow h=rol t 0
 wr:ow l.r=rol t 1
 wd:ow l.d=rol t 2
 wg:ow l.g=rol t 3
structure Rep (H:Hp)(ow:Nat->Nat)(L:Lay)(M:Nat)(U:List Letter)(X:Nat->Hd):Prop where
 fk:H.get L.fk=some (.inst 60 [(18,.int M),(123,.lst (L.hs.map .ref)),(124,.ref L.un)])
 un:H.get L.un=some (.list (lV U))
 hl:L.hs.length=M
 hM:M<=9
 wf:ow L.fk=1
 wu:ow L.un=2
 hd:∀t h,L.hs[t]?=some h->∃l,HdR H ow t h (X t) l
noncomputable def Keep (H:Hp)(ow:Nat->Nat)(H':Hp)(ow':Nat->Nat):Prop:=∀j c,H.get j=some c->ow j=0->H'.get j=some c/\ow' j=0
theorem Keep.trans {H H' H'':Hp}{ow ow' ow'':Nat->Nat}(a:Keep H ow H' ow')(b:Keep H' ow' H'' ow''):Keep H ow H'' ow'':=fun j c g w=>b j c (a j c g w).1 (a j c g w).2
theorem Keep.refl {H:Hp}{ow:Nat->Nat}:Keep H ow H ow:=fun ø ø g w=>⟨g,w⟩
section
variable {ρ:Nat->Nat}
theorem Za7:∀l:List Int,renVs ρ (iV l)=iV l:=by
 intro zz0
 induction zz0 with
 | nil=>
  exact rfl
 | cons x r ih=>
  exact congrArg (V.int x::·) (ih)
theorem Zb2:∀l:List Msg,renVs ρ (mV l)=mV l:=by
 intro zz0
 induction zz0 with
 | nil=>
  exact rfl
 | cons m r ih=>
  exact congrArg (m.v::·) (ih)
theorem Zhs:∀l:List (Int×Int),renK ρ (hoV l)=hoV l:=by
 intro zz0
 induction zz0 with
 | nil=>
  exact rfl
 | cons p r ih=>
  exact congrArg ((V.int p.1,V.int p.2)::·) (ih)
theorem ZfU:∀l:List Int,renK ρ (agV l)=agV l:=by
 intro zz0
 induction zz0 with
 | nil=>
  exact rfl
 | cons p r ih=>
  exact congrArg ((V.int p,V.bool true)::·) (ih)
theorem ZhC (x:Val):renV ρ x.v=x.v:=by
 show V.tup [.lst (renVs ρ (iV x.hs)),.lst (renVs ρ (mV x.row))]=_
 rw [Za7,Zb2]; rfl
theorem Zl2 (x:Option Val):renV ρ (vV x)=vV x:=by
 cases x with
 | none=>rfl
 | some x=>exact ZhC x
theorem ZeM (a:Option Acc):renV ρ (aV a)=aV a:=by
 cases a with
 | none=>rfl
 | some a=>
  show V.tup [bV a.b,renV ρ a.x.v]=_
  rw [ZhC]; rfl
theorem Zfi (w:News):renV ρ w.v=w.v:=by
 show V.tup [.int w.no,.lst (renVs ρ (iV w.hs)),.lst (renVs ρ (mV w.row)),.lst (renVs ρ (iV w.wit))]=_
 rw [Za7,Zb2,Za7]; rfl
theorem Zi7 (w:Option News):renV ρ (nV w)=nV w:=by
 cases w with
 | none=>rfl
 | some w=>exact Zfi w
theorem Zgk (p:Option Int):renV ρ (plV p)=plV p:=by cases p <;> rfl
theorem Zhb:∀l:List (Int×PR),renK ρ (prV l)=prV l:=by
 intro zz0
 induction zz0 with
 | nil=>
  exact rfl
 | cons p r ih=>
  show (V.int p.1,V.tup [.lst (renVs ρ (mV p.2.1)),renV ρ (aV p.2.2)])::renK ρ (prV r)=_
  rw [Zb2,ZeM,ih]; rfl
theorem Zgv:∀l:List Gn,renVs ρ (gV l)=gV l:=by
 intro zz0
 induction zz0 with
 | nil=>
  exact rfl
 | cons g r ih=>
  show V.tup [.int g.1,.lst (renVs ρ (iV g.2.1)),.lst (renVs ρ (mV g.2.2))]::renVs ρ (gV r)=_
  rw [Za7,Zb2,ih]; rfl
theorem Zmf (c:Cont):renV ρ c.v=c.v:=by
 cases c with
 | wish m=>rfl
 | hold m p=>rfl
 | have_ n=>rfl
 | take n=>rfl
 | prep b=>rfl
 | prom b row a=>
  show V.tup [bV b,.lst (renVs ρ (mV row)),renV ρ (aV a)]=_
  rw [Zb2,ZeM]; rfl
 | acc a=>exact ZeM (some a)
 | agr b=>rfl
 | ent w=>exact Zfi w
theorem Zi6:∀l:List Letter,renVs ρ (lV l)=lV l:=by
 intro zz0
 induction zz0 with
 | nil=>
  exact rfl
 | cons L r ih=>
  show V.tup [.str L.c.word,.int L.from_,.int L.to,.int L.pl,renV ρ L.c.v]::renVs ρ (lV r)=_
  rw [Zmf,ih]; rfl
noncomputable def Lh.ren (ρ:Nat->Nat)(l:Lh):Lh:=⟨ρ l.r,ρ l.d,ρ l.g,ρ l.o,ρ l.p,ρ l.a⟩
theorem Zmu (o:Option Off)(i:Nat):renV ρ (oR o i)=oR o (ρ i):=by cases o <;> rfl
theorem Zjm (k:Int)(x:Hd)(l:Lh):renC ρ (.inst 59 (hFL k x l))=.inst 59 (hFL k x (l.ren ρ)):=by
 show C.inst 59 [_,(110,renV ρ (plV x.place)),_,(17,.lst (renVs ρ (iV x.ms))),_,_,_,(115,renV ρ (nV x.news)),_,_,_,_,(119,renV ρ (aV x.agd)),(120,renV ρ (oR x.off l.o)),_]=_
 rw [Zgk,Za7,Zi7,ZeM,Zmu]; rfl
theorem Zhy (o:Off)(p a:Nat):renC ρ (.inst 155 (oFL o p a))=.inst 155 (oFL o (ρ p) (ρ a)):=by
 show C.inst 155 [_,(123,.lst (renVs ρ (iV o.hs))),_,(147,renV ρ (vV o.val)),_,_]=_
 rw [Za7,Zl2]; rfl
end
theorem ZcA {a:Nat}{r:List Nat}:pos0 (a::r) a=some 0:=if_pos rfl
theorem Zg3 {a j i:Nat}{r:List Nat}(n:a≠j)(h:pos0 r j=some i):pos0 (a::r) j=some (i+1):=by
 show (if a=j then some 0 else (match pos0 r j with | some i=>some (i+1) | none=>none))=_
 rw [if_neg n,h]
theorem ZfV {ow:Nat->Nat}{j:Nat}:∀{js:List Nat} {k i:Nat},((js.take k).map ow).Nodup->i < k->js[i]?=some j->pos0 js j=some i
 | [],k,i,hn,hi,h=>nomatch h
 | a::r,0,i,hn,hi,h=>absurd hi (Nat.not_lt_zero _)
 | a::r,k+1,0,hn,hi,h=>by cases h; exact ZcA
 | a::r,k+1,i+1,hn,hi,h=>by
  have hn:(ow a::(r.take k).map ow).Nodup:=hn
  have hn:=List.nodup_cons.mp hn
  have hi:=Nat.lt_of_succ_lt_succ hi
  have h:r[i]?=some j:=h
  refine Zg3 (fun z=>hn.1 ?_) (ZfV hn.2 hi h)
  subst z
  refine List.mem_map.mpr ⟨a,List.mem_of_getElem? (i:=i) ?_,rfl⟩
  rw [List.getElem?_take,if_pos hi]; exact h
section
variable {js:List Nat}{H₀ H H₁:Hp}{j:Nat}{c:C}
theorem Zhe (g:H.get j=some c):(mrg js H₀ H H₁).get j=(match pos0 js j with | some i=>mrgC (rho js H.next) (H₀.get i) (H₁.get i) (some c) | none=>some c):=by
 have lt:j < H.next:=Zak g
 rw [Zdv,if_pos (by exact Nat.lt_add_right _ lt)]
 show (match pos js H.next j with | some i=>mrgC (rho js H.next) (H₀.get i) (H₁.get i) (H.get j) | none=>H.get j)=_
 rw [g,show pos js H.next j=pos0 js j by unfold pos; rw [if_neg (Nat.not_le_of_lt lt)]]
theorem Zdd {i:Nat}{c₁:C}(g:H.get j=some c)(p:pos0 js j=some i)(g1:H₁.get i=some c₁):(mrg js H₀ H H₁).get j=some (renC (rho js H.next) c₁):=by
 rw [Zhe g,p]
 show mrgC _ (H₀.get i) (H₁.get i) _=_
 rw [g1]; rfl
theorem Zgz (g:H.get j=some c)(p:∀i,pos0 js j=some i->H₀.get i=none/\H₁.get i=none):(mrg js H₀ H H₁).get j=some c:=by
 rw [Zhe g]
 cases q:pos0 js j with
 | none=>rfl
 | some i=>
  show mrgC _ (H₀.get i) (H₁.get i) _=_
  rw [(p i q).1,(p i q).2]; rfl
theorem Zbf {i:Nat}{c₁:C}(hi:js.length<=i)(g1:H₁.get i=some c₁):(mrg js H₀ H H₁).get (H.next+(i - js.length))=some (renC (rho js H.next) c₁):=by
 have lt:i < H₁.next:=Zak g1
 rw [Zdv,if_pos (lh2 hi lt)]
 show (match pos js H.next (H.next+(i - js.length)) with | some i=>mrgC _ (H₀.get i) (H₁.get i) _ | none=>_)=_
 rw [ZeB hi]
 show mrgC _ (H₀.get i) (H₁.get i) _=_
 rw [g1]; rfl
end
noncomputable def shV (t M:Nat):List V:=(List.range M).map fun u=>if u=t then .ref 2 else .ref (9+u)
noncomputable def pick:Option Off->Nat->Nat->Nat
 | none,_,d=>d
 | some _,a,_=>a
noncomputable def jsL (L:Lay)(h:Nat)(l:Lh)(o:Option Off):List Nat:=L.fk::L.un::h::l.r::l.d::l.g::pick o l.o L.fk::pick o l.p L.fk::pick o l.a L.fk::(L.hs++List.replicate (10 - L.hs.length) L.fk)
section
variable {H:Hp}{ow:Nat->Nat}{L:Lay}{M t h:Nat}{l:Lh}{U:List Letter}{X:Nat->Hd}{o:Option Off}
theorem Zec (hM:L.hs.length<=9):(jsL L h l o).length=19:=by
 show (L.hs++List.replicate (10 - L.hs.length) L.fk).length+9=19
 rw [List.length_append,List.length_replicate]; exact congrArg (·+9) (Nat.add_sub_of_le (Nat.le_succ_of_le hM))
theorem Zmi {n u:Nat}(hu:u < L.hs.length):rho (jsL L h l o) n (9+u)=L.hs[u]:=by
 refine ZbW ?_
 show (L.fk::L.un::h::l.r::l.d::l.g::pick o l.o L.fk::pick o l.p L.fk::pick o l.a L.fk::(L.hs++List.replicate (10 - L.hs.length) L.fk))[9+u]?=_
 rw [show 9+u=u+1+1+1+1+1+1+1+1+1 from Nat.add_comm 9 u]
 simp only [List.getElem?_cons_succ]
 rw [List.getElem?_append_left hu,List.getElem?_eq_getElem hu]
theorem Zg2 {α:Type}{ρ:Nat->Nat}(f:α->V):∀l:List α,renVs ρ (l.map f)=l.map fun x=>renV ρ (f x):=by
 intro zz0
 induction zz0 with
 | nil=>
  exact rfl
 | cons x r ih=>
  exact congrArg (renV ρ (f x)::·) (ih)
theorem Zjl {n:Nat}(ht:L.hs[t]?=some h):renVs (rho (jsL L h l o) n) (shV t L.hs.length)=L.hs.map .ref:=by
 unfold shV
 rw [Zg2]
 refine List.ext_getElem (by rw [List.length_map,List.length_map,List.length_range]) fun u h1 h2=>?_
 rw [List.getElem_map,List.getElem_map,List.getElem_range]
 rw [List.length_map] at h2
 by_cases c:u=t
 ·rw [if_pos c]
  subst c
  show V.ref (rho (jsL L h l o) n 2)=_
  have:rho (jsL L h l o) n 2=h:=rfl
  rw [this]
  rw [List.getElem?_eq_getElem h2] at ht
  cases ht; rfl
 ·rw [if_neg c]
  show V.ref (rho (jsL L h l o) n (9+u))=_
  rw [Zmi h2]
end
theorem Zg7 (t i:Nat):8<=rol t i:=Nat.le_trans (Nat.le_mul_of_pos_right 8 (Nat.succ_pos t)) (Nat.le_add_right ..)
theorem Zgi {t i:Nat}(h:i < 8):rol t i / 8=t+1:=by
 unfold rol
 rw [Nat.mul_add_div (by decide),Nat.div_eq_of_lt h,Nat.add_zero]
theorem rolN (t:Nat):[1,2,rol t 0,rol t 1,rol t 2,rol t 3,rol t 4,rol t 5,rol t 6].Nodup:=by
 have ge:∀a∈[0,1,2,3,4,5,6].map (rol t),8<=a:=fun a ha=>(List.mem_map.mp ha).elim fun i q=>q.2▸Zg7 t i
 refine List.nodup_cons.mpr ⟨fun h=>(List.mem_cons.mp h).elim (fun z=>nomatch z) fun z=>absurd (ge 1 z) (by decide),List.nodup_cons.mpr ⟨fun z=>absurd (ge 2 z) (by decide), ?_⟩⟩
 exact List.Pairwise.map (R:=(·≠·)) (rol t) (fun a b n z=>n (Nat.add_left_cancel z)) (by decide:[0,1,2,3,4,5,6].Nodup)
theorem rolN6 (t:Nat):[1,2,rol t 0,rol t 1,rol t 2,rol t 3].Nodup:=by
 have:=rolN t
 exact List.Nodup.sublist (List.take_sublist 6 [1,2,rol t 0,rol t 1,rol t 2,rol t 3,rol t 4,rol t 5,rol t 6]) this
noncomputable def updX (X:Nat->Hd)(t:Nat)(x:Hd):Nat->Hd:=fun u=>if u=t then x else X u
noncomputable def owN (n:Nat)(ow:Nat->Nat)(rs:List Nat):Nat->Nat:=fun j=>if j < n then ow j else rs.getD (j - n) 0
noncomputable def Far (t w:Nat):Prop:=w≠1/\w≠2/\∀i,i < 7->w≠rol t i
theorem lt8 {a b:Nat}(h:a < 8):a≠rol b 0/\∀i,a≠rol b i:=⟨fun z=>absurd (z▸Zg7 b 0) (Nat.not_le_of_lt h),fun i z=>absurd (z▸Zg7 b i) (Nat.not_le_of_lt h)⟩
theorem far0 (t:Nat):Far t 0:=⟨by decide,by decide,fun i ø=>(lt8 (by decide)).2 i⟩
theorem farU {t u i:Nat}(h:u≠t)(hi:i < 7):Far t (rol u i):=⟨((lt8 (by decide)).2 i).symm,((lt8 (by decide)).2 i).symm,fun j hj z=>h (by
 have:=congrArg (· / 8) z
 exact Nat.succ.inj ((Zgi (Nat.lt_succ_of_lt hi)).symm.trans (this.trans (Zgi (Nat.lt_succ_of_lt hj)))))⟩
theorem Zgs {m:V}{hs:List V}{U:List Letter}{k:Int}{x:Hd}{g:List (Option C)}:∀{i:Nat},9<=i->i < 19->atC (fA m hs U k x g) i=none
 | 9,_,_=>rfl
 | 10,_,_=>rfl
 | 11,_,_=>rfl
 | 12,_,_=>rfl
 | 13,_,_=>rfl
 | 14,_,_=>rfl
 | 15,_,_=>rfl
 | 16,_,_=>rfl
 | 17,_,_=>rfl
 | 18,_,_=>rfl
 | 0,h,_=>absurd h (by decide)
 | 1,h,_=>absurd h (by decide)
 | 2,h,_=>absurd h (by decide)
 | 3,h,_=>absurd h (by decide)
 | 4,h,_=>absurd h (by decide)
 | 5,h,_=>absurd h (by decide)
 | 6,h,_=>absurd h (by decide)
 | 7,h,_=>absurd h (by decide)
 | 8,h,_=>absurd h (by decide)
 | i+19,_,h=>absurd h (Nat.not_lt_of_le (Nat.le_add_left 19 i))
section
variable {H:Hp}{ow:Nat->Nat}{L:Lay}{M t h:Nat}{l:Lh}{U:List Letter}{X:Nat->Hd}(R:Rep H ow L M U X)(ht:L.hs[t]?=some h)(hd:HdR H ow t h (X t) l)
include R ht hd
theorem Zox {i j:Nat}(hi:i < 9)(hj:(jsL L h l (X t).off)[i]?=some j):¬ Far t (ow j):=fun f=>by
 obtain ⟨f1,f2,f3⟩:=f
 match i,hi,hj with
 | 0,_,hj=>cases hj; exact f1 R.wf
 | 1,_,hj=>cases hj; exact f2 R.wu
 | 2,_,hj=>cases hj; exact f3 0 (by decide) hd.wh
 | 3,_,hj=>cases hj; exact f3 1 (by decide) hd.wr
 | 4,_,hj=>cases hj; exact f3 2 (by decide) hd.wd
 | 5,_,hj=>cases hj; exact f3 3 (by decide) hd.wg
 | 6,_,hj=>
  cases e:(X t).off with
  | none=>rw [e] at hj; cases hj; exact f1 R.wf
  | some o=>rw [e] at hj; cases hj; exact f3 4 (by decide) (hd.off o e).wo
 | 7,_,hj=>
  cases e:(X t).off with
  | none=>rw [e] at hj; cases hj; exact f1 R.wf
  | some o=>rw [e] at hj; cases hj; exact f3 5 (by decide) (hd.off o e).wp
 | 8,_,hj=>
  cases e:(X t).off with
  | none=>rw [e] at hj; cases hj; exact f1 R.wf
  | some o=>rw [e] at hj; cases hj; exact f3 6 (by decide) (hd.off o e).wa
 | i+9,hi,_=>exact absurd hi (Nat.not_lt_of_le (Nat.le_add_left 9 i))
theorem ZmM {i j:Nat}(hi:i < 6)(hj:(jsL L h l (X t).off)[i]?=some j):pos0 (jsL L h l (X t).off) j=some i:=by
 refine ZfV (ow:=ow) (k:=6) ?_ hi hj
 show [ow L.fk,ow L.un,ow h,ow l.r,ow l.d,ow l.g].Nodup
 rw [R.wf,R.wu,hd.wh,hd.wr,hd.wd,hd.wg]; exact rolN6 t
theorem ZmR {o:Off}{i j:Nat}(e:(X t).off=some o)(hi:i < 9)(hj:(jsL L h l (X t).off)[i]?=some j):pos0 (jsL L h l (X t).off) j=some i:=by
 refine ZfV (ow:=ow) (k:=9) ?_ hi hj
 have O:=hd.off o e
 rw [e]
 show [ow L.fk,ow L.un,ow h,ow l.r,ow l.d,ow l.g,ow l.o,ow l.p,ow l.a].Nodup
 rw [R.wf,R.wu,hd.wh,hd.wr,hd.wd,hd.wg,O.wo,O.wp,O.wa]; exact rolN t
theorem embA:Emb (jsL L h l (X t).off) ⟨fA (.int M) (shV t M) U t (X t) []⟩ H where
 nx:=(Zec (R.hl.symm▸R.hM)).symm
 dom:=fun i hi=>ZcW (by rw [Zec (R.hl.symm▸R.hM)] at hi; exact hi)
 all:=by
  have fk:∃c,H.get L.fk=some c:=⟨_,R.fk⟩
  have po:∀i:Nat,(∀o,(X t).off=some o->∃c,H.get i=some c)->∃c,H.get (pick (X t).off i L.fk)=some c:=fun i q=>by
   cases e:(X t).off with
   | none=>exact fk
   | some o=>exact q o e
  refine List.forall_mem_cons.mpr ⟨fk,List.forall_mem_cons.mpr ⟨⟨_,R.un⟩,List.forall_mem_cons.mpr ⟨⟨_,hd.hd⟩,List.forall_mem_cons.mpr ⟨⟨_,hd.row⟩,List.forall_mem_cons.mpr ⟨⟨_,hd.hol⟩,List.forall_mem_cons.mpr ⟨⟨_,hd.gon⟩,List.forall_mem_cons.mpr ⟨po _ fun o e=>⟨_,(hd.off o e).go⟩,List.forall_mem_cons.mpr ⟨po _ fun o e=>⟨_,(hd.off o e).gp⟩,List.forall_mem_cons.mpr ⟨po _ fun o e=>⟨_,(hd.off o e).ga⟩,fun j hj=>?_⟩⟩⟩⟩⟩⟩⟩⟩⟩
  rcases List.mem_append.mp hj with z | z
  ·obtain ⟨u,hu⟩:=List.getElem?_of_mem z
   obtain ⟨l',d'⟩:=R.hd u j hu
   exact ⟨_,d'.hd⟩
  ·exact (List.eq_of_mem_replicate z)▸fk
 get:=by
  have k6:∀{i j:Nat} {c' c:C},i < 6->(jsL L h l (X t).off)[i]?=some j->H.get j=some (renC (rho (jsL L h l (X t).off) H.next) c')->some c'=some c->∃j,(jsL L h l (X t).off)[i]?=some j/\pos0 (jsL L h l (X t).off) j=some i/\H.get j=some (renC (rho (jsL L h l (X t).off) H.next) c):=fun hi hj hg e=>⟨_,hj,ZmM R ht hd hi hj,Option.some.inj e▸hg⟩
  have k9:∀{i j:Nat} {c':Off->C} {c:C} {f:Option Off->Option C},f none=none->(∀o,f (some o)=some (c' o))->i < 9->(∀o,(X t).off=some o->(jsL L h l (X t).off)[i]?=some j/\H.get j=some (renC (rho (jsL L h l (X t).off) H.next) (c' o)))->f (X t).off=some c->∃j,(jsL L h l (X t).off)[i]?=some j/\pos0 (jsL L h l (X t).off) j=some i/\H.get j=some (renC (rho (jsL L h l (X t).off) H.next) c):=fun {i j c' c f} f0 f1 hi q e=>by
   cases eo:(X t).off with
   | none=>rw [eo,f0] at e; cases e
   | some o=>
    obtain ⟨q1,q2⟩:=q o eo
    rw [eo,f1] at e
    rw [← eo]
    exact ⟨j,q1,ZmR R ht hd eo hi q1,Option.some.inj e▸q2⟩
  intro i c g
  have li:i < 19:=Zak g
  match i,g with
  | 0,g=>exact k6 (by decide) rfl (by show _=some (C.inst 60 [(18,.int M),(123,.lst (renVs _ (shV t M))),(124,.ref L.un)]); rw [← R.hl,Zjl ht,R.hl]; exact R.fk) g
  | 1,g=>exact k6 (by decide) rfl (by show _=some (C.list (renVs _ (lV U))); rw [Zi6]; exact R.un) g
  | 2,g=>
   refine k6 (by decide) rfl ?_ g
   rw [Zjm]
   refine hd.hd.trans ?_
   show some (C.inst 59 (hFL t (X t) l))=some (.inst 59 (hFL t (X t) ⟨l.r,l.d,l.g,pick (X t).off l.o L.fk,_,_⟩))
   unfold hFL
   cases (X t).off <;> rfl
  | 3,g=>exact k6 (by decide) rfl (by show _=some (C.list (renVs _ (mV (X t).row))); rw [Zb2]; exact hd.row) g
  | 4,g=>exact k6 (by decide) rfl (by show _=some (C.dict (renK _ (hoV (X t).holds))); rw [Zhs]; exact hd.hol) g
  | 5,g=>exact k6 (by decide) rfl (by show _=some (C.list (renVs _ (gV (X t).gone))); rw [Zgv]; exact hd.gon) g
  | 6,g=>exact k9 (j:=l.o) (f:=oC) rfl (fun ø=>rfl) (by decide) (fun o e=>⟨by rw [e]; rfl,by rw [Zhy]; exact (hd.off o e).go.trans (by rw [e]; rfl)⟩) g
  | 7,g=>exact k9 (j:=l.p) (f:=pC) rfl (fun ø=>rfl) (by decide) (fun o e=>⟨by rw [e]; rfl,by show _=some (C.dict (renK _ (prV o.prom))); rw [Zhb]; exact (hd.off o e).gp⟩) g
  | 8,g=>exact k9 (j:=l.a) (f:=aC) rfl (fun ø=>rfl) (by decide) (fun o e=>⟨by rw [e]; rfl,by show _=some (C.dict (renK _ (agV o.agr))); rw [ZfU]; exact (hd.off o e).ga⟩) g
  | i+9,g=>
   have g:atC (fA (.int M) (shV t M) U t (X t) []) (i+9)=some c:=g
   rw [Zgs (Nat.le_add_left 9 i) li] at g; cases g
end
inductive Pos (t:Nat)(rs:List Nat)(i0:Nat)(i r:Nat):Prop
 | old (h:i=i0)
 | new (h:19<=i) (w:rs.getD (i - 19) 0=rol t r)
structure OfS (t:Nat)(y:Option Off)(rs:List Nat)(o:Off)(l:Lh)(H:Hp):Prop where
 go:H.get l.o=some (.inst 155 (oFL o l.p l.a))
 gp:H.get l.p=some (.dict (prV o.prom))
 ga:H.get l.a=some (.dict (agV o.agr))
 po:Pos t rs 6 l.o 4
 pp:Pos t rs 7 l.p 5
 pa:Pos t rs 8 l.a 6
 ys:l.o < 19\/l.p < 19\/l.a < 19->y.isSome=true
structure Sml (t M:Nat)(y:Option Off)(rs:List Nat)(U:List Letter)(x:Hd)(l:Lh)(H:Hp):Prop where
 f0:H.get 0=some (folkC (.int M) (shV t M))
 f1:H.get 1=some (.list (lV U))
 f2:H.get 2=some (.inst 59 (hFL t x l))
 gr:H.get l.r=some (.list (mV x.row))
 gd:H.get l.d=some (.dict (hoV x.holds))
 gg:H.get l.g=some (.list (gV x.gone))
 pr:Pos t rs 3 l.r 1
 pd:Pos t rs 4 l.d 2
 pg:Pos t rs 5 l.g 3
 off:∀o,x.off=some o->OfS t y rs o l H
 mid:∀i,9<=i->i < 19->H.get i=none
section
variable {H:Hp}{ow:Nat->Nat}{L:Lay}{M t h:Nat}{l:Lh}{U:List Letter}{X:Nat->Hd}{rs:List Nat}{U':List Letter}{x':Hd}{l':Lh}{H₁:Hp}(R:Rep H ow L M U X)(ht:L.hs[t]?=some h)(hd:HdR H ow t h (X t) l)
noncomputable def whA (L:Lay)(t h M:Nat)(l:Lh)(U:List Letter)(X:Nat->Hd)(H H₁:Hp):Hp:=mrg (jsL L h l (X t).off) ⟨fA (.int M) (shV t M) U t (X t) []⟩ H H₁
include R ht hd
theorem hidA {j:Nat}{c:C}(mid:∀i,9<=i->i < 19->H₁.get i=none)(g:H.get j=some c)(f:Far t (ow j)):(whA L t h M l U X H H₁).get j=some c/\owN H.next ow rs j=ow j:=by
 refine ⟨Zgz g fun i p=>?_,if_pos (Zak g)⟩
 have e:=ZaX p
 have li:i < 19:=Zec (h:=h) (l:=l) (o:=(X t).off) (R.hl.symm▸R.hM)▸(List.getElem?_eq_some_iff.mp e).1
 by_cases c:i < 9
 ·exact absurd f (Zox R ht hd c e)
 ·exact ⟨Zgs (Nat.le_of_not_lt c) li,mid i (Nat.le_of_not_lt c) li⟩
theorem visA {i0 i r j0:Nat}{c c0:C}(p:Pos t rs i0 i r)(g:H₁.get i=some c)(hj:i < 19->(jsL L h l (X t).off)[i0]?=some j0/\pos0 (jsL L h l (X t).off) j0=some i0/\H.get j0=some c0/\ow j0=rol t r)(i9:i0 < 19):
  (whA L t h M l U X H H₁).get (rho (jsL L h l (X t).off) H.next i)=some (renC (rho (jsL L h l (X t).off) H.next) c)/\owN H.next ow rs (rho (jsL L h l (X t).off) H.next i)=rol t r:=by
 have len:(jsL L h l (X t).off).length=19:=Zec (R.hl.symm▸R.hM)
 cases p with
 | old e=>
  subst e
  obtain ⟨a,b,c,d⟩:=hj i9
  rw [ZbW a]
  refine ⟨Zdd c b g, ?_⟩
  exact (if_pos (show j0 < H.next from Zak c)).trans d
 | new e w=>
  rw [ZbU (by rw [len]; exact e)]
  refine ⟨Zbf (by rw [len]; exact e) g, ?_⟩
  unfold owN
  rw [if_neg (by exact fun zz=>Nat.lt_irrefl _ (Nat.lt_add_right _ zz)),len,Nat.add_sub_cancel_left]; exact w
theorem liftA (s:Sml t M (X t).off rs U' x' l' H₁):Rep (whA L t h M l U X H H₁) (owN H.next ow rs) L M U' (updX X t x')/\Keep H ow (whA L t h M l U X H H₁) (owN H.next ow rs):=by
 have P6:=fun {i j:Nat}=>ZmM R ht hd (i:=i) (j:=j)
 have old:∀{j:Nat} {c:C},H.get j=some c->owN H.next ow rs j=ow j:=fun g=>if_pos (Zak g)
 have w2:(whA L t h M l U X H H₁).get h=some (.inst 59 (hFL t x' (l'.ren (rho (jsL L h l (X t).off) H.next)))):=by
  rw [← Zjm]; exact Zdd hd.hd (P6 (i:=2) (by decide) rfl) s.f2
 refine ⟨⟨?_, ?_,R.hl,R.hM, ?_, ?_,fun u k hu=>?_⟩,fun j c g w=>?_⟩
 ·refine (Zdd R.fk (P6 (i:=0) (by decide) rfl) s.f0).trans ?_
  show some (C.inst 60 [(18,.int M),(123,.lst (renVs _ (shV t M))),(124,.ref L.un)])=_
  rw [← R.hl,Zjl ht]
 ·refine (Zdd R.un (P6 (i:=1) (by decide) rfl) s.f1).trans ?_
  show some (C.list (renVs _ (lV U')))=_
  rw [Zi6]
 ·rw [old R.fk]; exact R.wf
 ·rw [old R.un]; exact R.wu
 ·by_cases c:u=t
  ·subst c
   rw [ht] at hu
   cases hu
   have ex:updX X u x' u=x':=if_pos rfl
   rw [ex]
   have vr:=visA R ht hd s.pr s.gr (fun ø=>⟨rfl,P6 (by decide) rfl,hd.row,hd.wr⟩) (by decide)
   have vd:=visA R ht hd s.pd s.gd (fun ø=>⟨rfl,P6 (by decide) rfl,hd.hol,hd.wd⟩) (by decide)
   have vg:=visA R ht hd s.pg s.gg (fun ø=>⟨rfl,P6 (by decide) rfl,hd.gon,hd.wg⟩) (by decide)
   refine ⟨l'.ren (rho (jsL L h l (X u).off) H.next),w2,vr.1.trans ?_,vd.1.trans ?_,vg.1.trans ?_,fun o e=>?_,(old hd.hd).trans hd.wh,vr.2,vd.2,vg.2⟩
   ·show some (C.list (renVs _ (mV x'.row)))=_
    rw [Zb2]
   ·show some (C.dict (renK _ (hoV x'.holds)))=_
    rw [Zhs]
   ·show some (C.list (renVs _ (gV x'.gone)))=_
    rw [Zgv]
   ·have S:=s.off o e
    have key:∀(i0 i r j0:Nat) (c:C),(i < 19->l'.o < 19\/l'.p < 19\/l'.a < 19)->i0 < 9->Pos u rs i0 i r->H₁.get i=some c->(∀y,(X u).off=some y->(jsL L h l (X u).off)[i0]?=some j0/\(∃c0,H.get j0=some c0)/\ow j0=rol u r)->(whA L u h M l U X H H₁).get (rho (jsL L h l (X u).off) H.next i)=some (renC (rho (jsL L h l (X u).off) H.next) c)/\owN H.next ow rs (rho (jsL L h l (X u).off) H.next i)=rol u r:=fun i0 i r j0 c hi h9 p g q=>by
     by_cases li:i < 19
     ·have ys:=S.ys (hi li)
      cases ey:(X u).off with
      | none=>rw [ey] at ys; cases ys
      | some y=>
       obtain ⟨q1,⟨c0,q2⟩,q3⟩:=q y ey
       rw [← ey]
       exact visA R ht hd p g (fun ø=>⟨q1,ZmR R ht hd ey h9 q1,q2,q3⟩) (by exact lc5 h9 rfl)
     ·exact visA (c0:=c) (j0:=0) R ht hd p g (fun z=>absurd z li) (by exact lc5 h9 rfl)
    have vo:=key 6 l'.o 4 l.o _ (fun z=>.inl z) (by decide) S.po S.go fun y ey=>⟨by rw [ey]; rfl,⟨_,(hd.off y ey).go⟩,(hd.off y ey).wo⟩
    have vp:=key 7 l'.p 5 l.p _ (fun z=>.inr (.inl z)) (by decide) S.pp S.gp fun y ey=>⟨by rw [ey]; rfl,⟨_,(hd.off y ey).gp⟩,(hd.off y ey).wp⟩
    have va:=key 8 l'.a 6 l.a _ (fun z=>.inr (.inr z)) (by decide) S.pa S.ga fun y ey=>⟨by rw [ey]; rfl,⟨_,(hd.off y ey).ga⟩,(hd.off y ey).wa⟩
    refine ⟨vo.1.trans ?_,vp.1.trans ?_,va.1.trans ?_,vo.2,vp.2,va.2⟩
    ·rw [Zhy]; rfl
    ·show some (C.dict (renK _ (prV o.prom)))=_
     rw [Zhb]
    ·show some (C.dict (renK _ (agV o.agr)))=_
     rw [ZfU]
  ·obtain ⟨m,d⟩:=R.hd u k hu
   have e:updX X t x' u=X u:=if_neg c
   rw [e]
   have hid:∀{j:Nat} {cc:C} {r:Nat},r < 7->H.get j=some cc->ow j=rol u r->(whA L t h M l U X H H₁).get j=some cc/\owN H.next ow rs j=rol u r:=fun hr g w=>by
    have q:=hidA (rs:=rs) R ht hd s.mid g (w▸farU c hr)
    exact ⟨q.1,q.2.trans w⟩
   have a0:=hid (by decide) d.hd d.wh
   have a1:=hid (by decide) d.row d.wr
   have a2:=hid (by decide) d.hol d.wd
   have a3:=hid (by decide) d.gon d.wg
   refine ⟨m,a0.1,a1.1,a2.1,a3.1,fun o eo=>?_,a0.2,a1.2,a2.2,a3.2⟩
   have O:=d.off o eo
   have b0:=hid (by decide) O.go O.wo
   have b1:=hid (by decide) O.gp O.wp
   have b2:=hid (by decide) O.ga O.wa
   exact ⟨b0.1,b1.1,b2.1,b0.2,b1.2,b2.2⟩
 ·have q:=hidA (rs:=rs) R ht hd s.mid g (w▸far0 t)
  exact ⟨q.1,q.2.trans w⟩
end
theorem Zjr {x:Hd}{a b c:Option C}{r:List (Option C)}:∀{i:Nat},9<=i->i < 19->atC (a::b::c::(tA x++r)) i=none
 | 9,_,_=>rfl
 | 10,_,_=>rfl
 | 11,_,_=>rfl
 | 12,_,_=>rfl
 | 13,_,_=>rfl
 | 14,_,_=>rfl
 | 15,_,_=>rfl
 | 16,_,_=>rfl
 | 17,_,_=>rfl
 | 18,_,_=>rfl
 | 0,h,_=>absurd h (by decide)
 | 1,h,_=>absurd h (by decide)
 | 2,h,_=>absurd h (by decide)
 | 3,h,_=>absurd h (by decide)
 | 4,h,_=>absurd h (by decide)
 | 5,h,_=>absurd h (by decide)
 | 6,h,_=>absurd h (by decide)
 | 7,h,_=>absurd h (by decide)
 | 8,h,_=>absurd h (by decide)
 | i+19,_,h=>absurd h (Nat.not_lt_of_le (Nat.le_add_left 19 i))
theorem smlA {t M:Nat}{y:Option Off}{U:List Letter}{x:Hd}{g:List (Option C)}(ho:x.off.isSome=y.isSome):Sml t M y [] U x l0 ⟨fA (.int M) (shV t M) U t x g⟩ where
 f0:=rfl
 f1:=rfl
 f2:=rfl
 gr:=rfl
 gd:=rfl
 gg:=rfl
 pr:=.old rfl
 pd:=.old rfl
 pg:=.old rfl
 off:=fun o e=>⟨by show oC x.off=_; rw [e]; rfl,by show pC x.off=_; rw [e]; rfl,by show aC x.off=_; rw [e]; rfl,.old rfl,.old rfl,.old rfl,fun ø=>by rw [← ho,e]; rfl⟩
 mid:=fun i a b=>Zgs a b
theorem SM.sml {t M:Nat}{y x:Hd}{U:List Letter}{H:Hp}(s:SM (.int M) (shV t M) t y U x H):∃rs l,Sml t M y.off rs U x l H:=by
 cases s with
 | a g ho=>exact ⟨[],l0,smlA ho⟩
 | b z ho hr hh hg=>
  refine ⟨[rol t 1,rol t 2],l1,rfl,rfl,rfl, ?_, ?_, ?_,.new (by decide) rfl,.new (by decide) rfl,.old rfl,fun o e=>(by rw [ho] at e; cases e),fun i a b=>Zjr a b⟩
  ·rw [hr]; rfl
  ·rw [hh]; rfl
  ·rw [hg]; rfl
 | c o hx hp ha=>
  subst hx
  refine ⟨[rol t 4,rol t 5,rol t 6],l2,rfl,rfl,rfl,rfl,rfl,rfl,.old rfl,.old rfl,.old rfl,fun o' e=>?_,fun i a b=>Zjr a b⟩
  cases e
  refine ⟨rfl, ?_, ?_,.new (by decide) rfl,.new (by decide) rfl,.new (by decide) rfl,fun z=>absurd z (by decide)⟩
  ·rw [hp]; rfl
  ·rw [ha]; rfl
theorem ZaC {X:Nat->Hd}{t:Nat}:updX X t (X t)=X:=funext fun u=>by
 show (if u=t then X t else X u)=X u
 by_cases c:u=t
 ·rw [if_pos c,c]
 ·rw [if_neg c]
theorem Zb6 {t M:Nat}(h:t < M):AtA t M (shV t M) where
 lt:=h
 at_:=by
  unfold shV
  rw [List.getElem?_map,List.getElem?_range h]
  show some (if t=t then V.ref 2 else _)=_
  rw [if_pos rfl]
structure FcA (H:Hp)(ow:Nat->Nat)(L:Lay)(M t:Nat)(U:List Letter)(X:Nat->Hd)(Q:V->Hp->Prop)(E:Nat->Hp->Prop)(Q₁:V->Hp->Prop)(E1:Nat->Hp->Prop):Prop where
 val:∀{v U' x' H₁},(∀ρ,renV ρ v=v)->SM (.int M) (shV t M) t (X t) U' x' H₁->(∀H' ow',Rep H' ow' L M U' (updX X t x')->Keep H ow H' ow'->Q v H')->Q₁ v H₁
 hnd:∀{hd U' x' H₁},L.hs[t]?=some hd->SM (.int M) (shV t M) t (X t) U' x' H₁->(∀H' ow',Rep H' ow' L M U' (updX X t x')->Keep H ow H' ow'->Q (.ref hd) H')->Q₁ (.ref 2) H₁
 new:∀{xs},(∀ρ,renVs ρ xs=xs)->(∀H' ow',Rep H' ow' L M U X->Keep H ow H' ow'->H'.get H.next=some (.list xs)->ow' H.next=0->Q (.ref H.next) H')->Q₁ (.ref 19) ⟨fA (.int M) (shV t M) U t (X t) [some (.list xs)]⟩
 exc:∀{k},(∀H' ow' j,Rep H' ow' L M U X->Keep H ow H' ow'->H'.get j=some (.exc k)->E j H')->E1 19 ⟨fA (.int M) (shV t M) U t (X t) [some (.exc k)]⟩
section
variable {n:Nat}{H:Hp}{ow:Nat->Nat}{L:Lay}{M t f:Nat}{U:List Letter}{X:Nat->Hd}{ds:List V}{Q:V->Hp->Prop}{E:Nat->Hp->Prop}(R:Rep H ow L M U X)(ht:t < M)
include R
theorem focG {hd':Nat}{as as₁:List V}(hh:L.hs[t]?=some hd')(ha:∀ρ:Nat->Nat,ρ 0=L.fk->ρ 2=hd'->as=renVs ρ as₁)(h:∀Q₁ E1,FcA H ow L M t U X Q E Q₁ E1->CW tb.P (n+1) f as₁ ⟨fA (.int M) (shV t M) U t (X t) []⟩ Q₁ E1):CW tb.P (n+1) f as H Q E:=by
 obtain ⟨l,hd⟩:=R.hd t _ hh
 have len:(jsL L hd' l (X t).off).length=19:=Zec (R.hl.symm▸R.hM)
 have ej:rho (jsL L hd' l (X t).off) H.next 19=H.next:=by rw [ZbU (Nat.le_of_eq len),len]; rfl
 refine .foc (jsL L hd' l (X t).off) as₁ _ (embA R hh hd) (ha _ rfl rfl) (h _ _ ⟨?_, ?_, ?_, ?_⟩)
 ·intro v U' x' H₁ hv s q
  obtain ⟨rs,l',s⟩:=s.sml
  have g:=liftA R hh hd s
  show Q (renV _ v) _
  rw [hv]
  exact q _ _ g.1 g.2
 ·intro hd'' U' x' H₁ hq s q
  obtain ⟨rs,l',s⟩:=s.sml
  have g:=liftA R hh hd s
  cases hh.symm.trans hq
  exact q _ _ g.1 g.2
 ·intro xs hx q
  have g:=liftA R hh hd (smlA (M:=M) (U:=U) (x:=X t) (g:=[some (.list xs)]) rfl)
  rw [ZaC] at g
  show Q (.ref (rho (jsL L hd' l (X t).off) H.next 19)) _
  rw [ej]
  refine q _ _ g.1 g.2 ?_ ?_
  ·have e:=Zbf (js:=jsL L hd' l (X t).off) (H₀:=⟨fA (.int M) (shV t M) U t (X t) []⟩) (H:=H) (H₁:=⟨fA (.int M) (shV t M) U t (X t) [some (.list xs)]⟩) (i:=19) (c₁:=.list xs) (Nat.le_of_eq len) rfl
   rw [len] at e
   refine e.trans ?_
   show some (C.list (renVs _ xs))=_
   rw [hx]
  ·unfold owN
   rw [if_neg (Nat.lt_irrefl _),Nat.sub_self]; rfl
 ·intro k q
  have g:=liftA R hh hd (smlA (M:=M) (U:=U) (x:=X t) (g:=[some (.exc k)]) rfl)
  rw [ZaC] at g
  show (jsL L hd' l (X t).off).length<=19/\E (rho (jsL L hd' l (X t).off) H.next 19) _
  rw [ej]
  refine ⟨Nat.le_of_eq len,q _ _ _ g.1 g.2 ?_⟩
  have e:=Zbf (js:=jsL L hd' l (X t).off) (H₀:=⟨fA (.int M) (shV t M) U t (X t) []⟩) (H:=H) (H₁:=⟨fA (.int M) (shV t M) U t (X t) [some (.exc k)]⟩) (i:=19) (c₁:=.exc k) (Nat.le_of_eq len) rfl
  rw [len] at e
  exact e
include ht
theorem focA (hds:∀ρ,renVs ρ ds=ds)(h:∀Q₁ E1,FcA H ow L M t U X Q E Q₁ E1->CW tb.P (n+1) f (.ref 0::ds) ⟨fA (.int M) (shV t M) U t (X t) []⟩ Q₁ E1):CW tb.P (n+1) f (.ref L.fk::ds) H Q E:=by
 have lt:t < L.hs.length:=R.hl.symm▸ht
 refine focG R (List.getElem?_eq_getElem lt) (fun ρ h0 ø=>?_) h
 show V.ref L.fk::ds=V.ref (ρ 0)::renVs ρ ds
 rw [hds,h0]
end
section
variable {n:Nat}{H:Hp}{ow:Nat->Nat}{L:Lay}{M t:Nat}{U:List Letter}{X:Nat->Hd}{Q:V->Hp->Prop}{E:Nat->Hp->Prop}(R:Rep H ow L M U X)(ht:t < M)
include R ht
theorem Znl {f pl:Int}{fs:List Int}{w:Str}(hu:(X t).up=true)(hp:(X t).place=some pl)(hf:(X t).ms=f::fs)(hU:U.length+1<=SZ)(h:∀H' ow',Rep H' ow' L M (U++[⟨t,f,pl,.wish ⟨t,(X t).said,w⟩⟩]) (updX X t { X t with said:=(X t).said+1 })->Keep H ow H' ow'->Q .none H'):CW tb.P (n+4) 248 [.ref L.fk,.int t,.str w] H Q E:=
 focA R ht (fun ø=>rfl) fun Q₁ E1 F=>Znf (Zb6 ht) hu hp rfl hf hU (F.val (fun ø=>rfl) (.a [] rfl) h)
theorem Zod {pl:Int}{l:List Int}(hu:(X t).up=true)(hp:(X t).place=some pl)(fi:Fi M l)(hl:l.length<=SZ)(hz:(X t).ms.length<=50)(hU:U.length+50<=SZ)(h:∀H' ow',Rep H' ow' L M (U++sendF t pl (X t).ms (.prep (mostF (X t)+1,t))) (updX X t { X t with off:=some (offF t (X t) l) })->Keep H ow H' ow'->Q .none H'):CW tb.P (n+4) 270 [.ref L.fk,.int t,.lst (iV l)] H Q E:=
 focA R ht (fun ρ=>by show [V.int t,.lst (renVs ρ (iV l))]=_; rw [Za7]) fun Q₁ E1 F=>Zl7 (Zb6 ht) hu hp rfl fi hl hz hU fun H₁ s=>F.val (fun ø=>rfl) s h
theorem ZlH {p:Nat}{Lt:Letter}(hp:U[p]?=some Lt)(hto:Lt.to=t)(o:OkA (dropAt U p) t (X t))(oc:(X t).up=true->(newsOf Lt.c=none->(X t).place=some Lt.pl)->OkC (X t) Lt.from_ Lt.c)(h:∀H' ow',Rep H' ow' L M (comeF t (X t) (dropAt U p) Lt).2 (updX X t (comeF t (X t) (dropAt U p) Lt).1)->Keep H ow H' ow'->Q .none H'):CW tb.P (n+6) 251 [.ref L.fk,.int p] H Q E:=
 focA R ht (fun ø=>rfl) fun Q₁ E1 F=>Zlq hp hto (Zb6 ht).at_ o oc fun H₁ s=>F.val (fun ø=>rfl) s h
end
noncomputable def hG (k:Int)(pl hi ms:V)(g r d:Nat):List (Nat×V):=[(109,.int k),(110,pl),(111,hi),(17,ms),(112,.int 0),(113,.bool true),(114,.ref g),(115,.none),(23,.ref r),(116,.int 0),(117,.bool false),(118,.tup [.int 0,.int (-1)]),(119,.none),(120,.none),(121,.ref d)]
theorem ZhE {js:List Nat}{H₀ H H₁:Hp}{j:Nat}{c:C}(g:H.get j=some c)(n:j∉js):(mrg js H₀ H H₁).get j=some c:=Zgz g fun i p=>absurd (List.mem_of_getElem? (ZaX p)) n
section
variable {n:Nat}{Q:V->Hp->Prop}{E:Nat->Hp->Prop}
theorem f237:tb.P.fn 237=some Zbp:=by kernel_rfl
theorem sa {P:Prog}{K:CT}{E:EP}{e:PE}{nm k:Nat}{v:V}{fs fs':List (Nat×V)}{r r':List (Option C)}{lo:Loc}{rest:PSs}{Q:Flow->St->Prop}(hl:lo 108=some (.ref 0))(he:∀Q':V->St->Prop,Q' v ⟨⟨some (.inst k fs)::r'⟩,lo⟩->wpE P K E e ⟨⟨some (.inst k fs)::r⟩,lo⟩ Q')(hc:attrOk P k nm=true)(hs:st fs nm v=fs')(hz:fs.length < 1000)
  (h:wpSs P K rest ⟨⟨some (.inst k fs')::r'⟩,lo⟩ Q E):wpSs P K (.cons (.assign (.attr (.loc 108) nm) e) rest) ⟨⟨some (.inst k fs)::r⟩,lo⟩ Q E:=by
 subst hs
 refine he _ ?_
 refine Zaa (o:=lo 108) hl ?_
 unfold attrOk at hc
 cases q:P.cls k with
 | none=>rw [q] at hc; cases hc
 | some c=>
  rw [q] at hc
  exact Zaa (o:=P.cls k) q ⟨hc,hz,h⟩
theorem begA {k:Int}{Q:V->Hp->Prop}{E:Nat->Hp->Prop}(h:Q .none ⟨some (.inst 59 [(109,.int k),(110,.none),(111,.int (-1)),(17,.lst []),(112,.int 0),(113,.bool true),(114,.ref 1),(115,.none),(23,.ref 2),(116,.int 0),(117,.bool false),(118,.tup [.int 0,.int (-1)]),(119,.none),(120,.none),(121,.ref 3)])::[some (.list []),some (.list []),some (.dict [])]⟩):CW tb.P (n+1) 238 [.ref 0] ⟨some (.inst 59 [(109,.int k),(110,.none),(111,.int (-1)),(17,.lst []),(112,.int 0),(113,.bool true),(114,.ref 1),(115,.none)])::[some (.list [])]⟩ Q E:=by
 refine Zad _ _ _ f238 rfl ?_
 refine sa (v:=.ref 2) (fs':=[(109,.int k),(110,.none),(111,.int (-1)),(17,.lst []),(112,.int 0),(113,.bool true),(114,.ref 1),(115,.none),(23,.ref 2)]) (r':=[some (.list []),some (.list [])]) rfl (fun Q' q=>⟨Zac rfl,q⟩) (by kernel_rfl) rfl (Zac rfl) ?_
 refine sa (v:=.int 0) (fs':=[(109,.int k),(110,.none),(111,.int (-1)),(17,.lst []),(112,.int 0),(113,.bool true),(114,.ref 1),(115,.none),(23,.ref 2),(116,.int 0)]) (r':=[some (.list []),some (.list [])]) rfl (fun Q' q=>q) (by kernel_rfl) rfl (Zac rfl) ?_
 refine sa (v:=.bool false) (fs':=[(109,.int k),(110,.none),(111,.int (-1)),(17,.lst []),(112,.int 0),(113,.bool true),(114,.ref 1),(115,.none),(23,.ref 2),(116,.int 0),(117,.bool false)]) (r':=[some (.list []),some (.list [])]) rfl (fun Q' q=>q) (by kernel_rfl) rfl (Zac rfl) ?_
 refine sa (v:=.tup [.int 0,.int (-1)]) (fs':=[(109,.int k),(110,.none),(111,.int (-1)),(17,.lst []),(112,.int 0),(113,.bool true),(114,.ref 1),(115,.none),(23,.ref 2),(116,.int 0),(117,.bool false),(118,.tup [.int 0,.int (-1)])]) (r':=[some (.list []),some (.list [])]) rfl (fun Q' q=>⟨Zac rfl,q⟩) (by kernel_rfl) rfl (Zac rfl) ?_
 refine sa (v:=.none) (fs':=[(109,.int k),(110,.none),(111,.int (-1)),(17,.lst []),(112,.int 0),(113,.bool true),(114,.ref 1),(115,.none),(23,.ref 2),(116,.int 0),(117,.bool false),(118,.tup [.int 0,.int (-1)]),(119,.none)]) (r':=[some (.list []),some (.list [])]) rfl (fun Q' q=>q) (by kernel_rfl) rfl (Zac rfl) ?_
 refine sa (v:=.none) (fs':=[(109,.int k),(110,.none),(111,.int (-1)),(17,.lst []),(112,.int 0),(113,.bool true),(114,.ref 1),(115,.none),(23,.ref 2),(116,.int 0),(117,.bool false),(118,.tup [.int 0,.int (-1)]),(119,.none),(120,.none)]) (r':=[some (.list []),some (.list [])]) rfl (fun Q' q=>q) (by kernel_rfl) rfl (Zac rfl) ?_
 refine sa (v:=.ref 3) (fs':=[(109,.int k),(110,.none),(111,.int (-1)),(17,.lst []),(112,.int 0),(113,.bool true),(114,.ref 1),(115,.none),(23,.ref 2),(116,.int 0),(117,.bool false),(118,.tup [.int 0,.int (-1)]),(119,.none),(120,.none),(121,.ref 3)]) (r':=[some (.list []),some (.list []),some (.dict [])]) rfl (fun Q' q=>⟨Zac rfl,rfl,q⟩) (by kernel_rfl) rfl (Zac rfl) ?_
 exact h
theorem ZmZ {k:Int}(h:Q .none ⟨[some (.inst 59 (hG k .none (.int (-1)) (.lst []) 1 2 3)),some (.list []),some (.list []),some (.dict [])]⟩):CW tb.P (n+2) 237 [.ref 0,.int k] ⟨[some (.inst 59 [])]⟩ Q E:=by
 refine Zad _ _ _ f237 rfl ?_
 refine sa (v:=.int k) (fs':=[(109,.int k)]) (r':=[]) rfl (fun Q' q=>q) (by kernel_rfl) rfl (Zac rfl) ?_
 refine sa (v:=.none) (fs':=[(109,.int k),(110,.none)]) (r':=[]) rfl (fun Q' q=>q) (by kernel_rfl) rfl (Zac rfl) ?_
 refine sa (v:=.int (-1)) (fs':=[(109,.int k),(110,.none),(111,.int (-1))]) (r':=[]) rfl (fun Q' q=>q) (by kernel_rfl) rfl (Zac rfl) ?_
 refine sa (v:=.lst []) (fs':=[(109,.int k),(110,.none),(111,.int (-1)),(17,.lst [])]) (r':=[]) rfl (fun Q' q=>⟨Zac rfl,q⟩) (by kernel_rfl) rfl (Zac rfl) ?_
 refine sa (v:=.int 0) (fs':=[(109,.int k),(110,.none),(111,.int (-1)),(17,.lst []),(112,.int 0)]) (r':=[]) rfl (fun Q' q=>q) (by kernel_rfl) rfl (Zac rfl) ?_
 refine sa (v:=.bool true) (fs':=[(109,.int k),(110,.none),(111,.int (-1)),(17,.lst []),(112,.int 0),(113,.bool true)]) (r':=[]) rfl (fun Q' q=>q) (by kernel_rfl) rfl (Zac rfl) ?_
 refine sa (v:=.ref 1) (fs':=[(109,.int k),(110,.none),(111,.int (-1)),(17,.lst []),(112,.int 0),(113,.bool true),(114,.ref 1)]) (r':=[some (.list [])]) rfl (fun Q' q=>⟨Zac rfl,q⟩) (by kernel_rfl) rfl (Zac rfl) ?_
 refine sa (v:=.none) (fs':=[(109,.int k),(110,.none),(111,.int (-1)),(17,.lst []),(112,.int 0),(113,.bool true),(114,.ref 1),(115,.none)]) (r':=[some (.list [])]) rfl (fun Q' q=>q) (by kernel_rfl) rfl (Zac rfl) ?_
 refine begA ?_
 exact h
structure Made (H H':Hp)(j:Nat)(k:Int):Prop where
 nx:H'.next=H.next+3
 hd:H'.get j=some (.inst 59 (hG k .none (.int (-1)) (.lst []) H.next (H.next+1) (H.next+2)))
 g:H'.get H.next=some (.list [])
 r:H'.get (H.next+1)=some (.list [])
 d:H'.get (H.next+2)=some (.dict [])
 kp:∀i c,H.get i=some c->i≠j->H'.get i=some c
theorem ZlX {H:Hp}{j:Nat}{k:Int}(hj:H.get j=some (.inst 59 []))(h:∀H',Made H H' j k->Q .none H'):CW tb.P (n+2) 237 [.ref j,.int k] H Q E:=by
 have p0:pos0 [j] j=some 0:=ZcA
 refine .foc [j] [.ref 0,.int k] ⟨[some (.inst 59 [])]⟩ ⟨rfl,fun i hi=>ZcW hi,fun i hi=>⟨_,(List.mem_singleton.mp hi)▸hj⟩,fun i c g=>?_⟩ rfl (ZmZ ?_)
 ·match i,g with
  | 0,g=>cases g; exact ⟨j,rfl,p0,hj⟩
  | i+1,g=>exact absurd (Zak (show atC [some (.inst 59 [])] (i+1)=some c from g)) (by show ¬ i+1 < 1; exact fun zz=>Nat.lt_irrefl _ (Nat.lt_add_left _ zz))
 ·refine h _ ⟨?_, ?_, ?_, ?_, ?_,fun i c g ne=>ZhE g fun z=>ne (List.mem_singleton.mp z)⟩
  ·rw [Zet]; rfl
  ·exact Zdd (c₁:=.inst 59 (hG k .none (.int (-1)) (.lst []) 1 2 3)) hj p0 rfl
  ·exact Zbf (js:=[j]) (i:=1) (c₁:=.list []) (Nat.le_refl 1) rfl
  ·exact Zbf (js:=[j]) (i:=2) (c₁:=.list []) (by show 1<=2; decide) rfl
  ·exact Zbf (js:=[j]) (i:=3) (c₁:=.dict []) (by show 1<=3; decide) rfl
end
theorem saL {P:Prog}{K:CT}{E:EP}{e:PE}{nm k j:Nat}{v:V}{fs:List (Nat×V)}{H H₁:Hp}{lo:Loc}{rest:PSs}{Q:Flow->St->Prop}(hl:lo 108=some (.ref j))(he:∀Q':V->St->Prop,Q' v ⟨H₁,lo⟩->wpE P K E e ⟨H,lo⟩ Q')(hg:H₁.get j=some (.inst k fs))(hc:attrOk P k nm=true)(hz:fs.length < 1000)
  (h:wpSs P K rest ⟨H₁.set j (.inst k (st fs nm v)),lo⟩ Q E):wpSs P K (.cons (.assign (.attr (.loc 108) nm) e) rest) ⟨H,lo⟩ Q E:=by
 refine he _ ?_
 refine Zaa (o:=lo 108) hl ?_
 refine Zaa (o:=cI (H₁.get j)) (a:=(k,fs)) (by rw [hg]; rfl) ?_
 unfold attrOk at hc
 cases q:P.cls k with
 | none=>rw [q] at hc; cases hc
 | some c=>
  rw [q] at hc
  exact Zaa (o:=P.cls k) q ⟨hc,hz,h⟩
structure HN (H:Hp)(h w:Nat):Prop where
 hd:H.get h=some (.inst 59 (hG w .none (.int (-1)) (.lst []) (h+1) (h+2) (h+3)))
 g:H.get (h+1)=some (.list [])
 r:H.get (h+2)=some (.list [])
 d:H.get (h+3)=some (.dict [])
structure MkI (B H:Hp)(j b M u:Nat):Prop where
 nx:H.next=b+4 * u
 jb:j < b
 fk:H.get j=some (.inst 60 [(18,.int M)])
 hn:∀w,w < u->HN H (b+4 * w) w
 kp:∀i c,B.get i=some c->i≠j->H.get i=some c
theorem MkI.step {B H H':Hp}{j b M u:Nat}(I:MkI B H j b M u)(m:Made (H.new (.inst 59 [])) H' H.next u):MkI B H' j b M (u+1):=by
 have nx:=I.nx
 have kp:∀i c,H.get i=some c->H'.get i=some c:=fun i c g=>by
  have lt:i < H.next:=Zak g
  exact m.kp i c (by rw [Hp.get_new,if_neg (Nat.ne_of_lt lt)]; exact g) (Nat.ne_of_lt lt)
 have en:(H.new (.inst 59 [])).next=H.next+1:=Hp.next_new
 refine ⟨?_,I.jb,kp _ _ I.fk,fun w hw=>?_,fun i c g ne=>kp _ _ (I.kp i c g ne)⟩
 ·rw [m.nx,en,nx]; exact Nat.le_antisymm (Nat.le_refl _) (Nat.le_refl _)
 ·by_cases c:w=u
  ·subst c
   have a:=m.hd; have b1:=m.g; have b2:=m.r; have b3:=m.d
   rw [en] at a b1 b2 b3
   rw [← nx]
   exact ⟨a,b1,b2,b3⟩
  ·have d:=I.hn w (by exact lh4 hw c)
   exact ⟨kp _ _ d.hd,kp _ _ d.g,kp _ _ d.r,kp _ _ d.d⟩
section
variable {n:Nat}
theorem ZfA (k:Nat):∀a:Nat,rngL (a:Int) 1 k=(List.range' a k).map fun u=>V.int (u:Nat):=by
 induction k with
 | zero=>exact fun ø=>rfl
 | succ k ih=>
  intro a
  show V.int a::rngL ((a:Int)+1) 1 k=_
  rw [show ((a:Int)+1)=((a+1:Nat):Int) from rfl,ih (a+1)]; rfl
theorem ZkM {B:Hp}{j b M:Nat}(v:V)(all:List V)(hv:∀H,items H v=some all)(hM:M<=9)(Q:List V->St->Prop):∀(k u:Nat) (H:Hp) (lo:Loc),u+k=M->MkI B H j b M u->(∀H' lo',MkI B H' j b M M->Q ((List.range M).map fun w=>.ref (b+4 * w)) ⟨H',lo'⟩)->
  compGo (fun σ2 k=>wpC tb.P (CW tb.P (n+2)) noE .none σ2 k) (fun σ2 k=>wpE tb.P (CW tb.P (n+2)) noE (.call true (.glob 59) (.cons (.loc 109) .nil)) σ2 k) [109] (still v all) ((List.range' u k).map fun u=>V.int (u:Nat)) ((List.range u).map fun w=>.ref (b+4 * w)) ⟨H,lo⟩ Q:=by
 intro zz0
 induction zz0 with
 | zero=>
  intro u H lo e I h
  have:u=M:=by exact e
  subst this
  exact ⟨hv H,by rw [List.length_map,List.length_range]; unfold SZ; exact la7 hM rfl,h H lo I⟩
 | succ k ih=>
  intro u H lo e I h
  refine ⟨hv H,by rw [List.length_map,List.length_range]; unfold SZ; exact Nat.lt_of_lt_of_le (lb1 e) (la7 hM rfl), ?_⟩
  refine ZlX (H:=H.new (.inst 59 [])) (j:=H.next) (by rw [Hp.get_new,if_pos rfl]) fun H' m=>?_
  refine ⟨rfl, ?_⟩
  have e2:((List.range u).map fun w=>V.ref (b+4 * w))++[V.ref H.next]=(List.range (u+1)).map fun w=>V.ref (b+4 * w):=by
   rw [List.range_succ,List.map_append,I.nx]; rfl
  show compGo _ _ [109] _ ((List.range' (u+1) k).map fun u=>V.int (u:Nat)) (((List.range u).map fun w=>V.ref (b+4 * w))++[V.ref H.next]) ⟨H',upd lo 109 (.int u)⟩ Q
  rw [e2]
  exact ih (u+1) H' _ (by exact lb2 e) (I.step m) h
end
noncomputable def methOf (P:Prog)(k nm:Nat):Option Nat:=match P.cls k with
 | some c=>lk c.meths nm
 | none=>none
theorem ZaS {P:Prog}{K:CT}{E:EP}{fz:Bool}{l i k nm f:Nat}{as:PEs}{fs:List (Nat×V)}{σ:St}{Q:V->St->Prop}(hl:σ.loc l=some (.ref i))(hg:σ.H.get i=some (.inst k fs))(hm:methOf P k nm=some f)(h:wpEs P K E as σ fun vs σ2=>callF P K E fz σ2 (.fn f) (.ref i::vs) Q):wpE P K E (.meth fz (.loc l) nm as) σ Q:=by
 unfold methOf at hm
 show need (σ.loc l) fun a=>need (aRef a) fun i=>match σ.H.get i with
  | some (.inst k _)=>need (P.cls k) fun c=>need (lk c.meths nm) fun f=>wpEs P K E as σ fun vs σ2=>callF P K E fz σ2 (.fn f) (.ref i::vs) Q
  | some (.list _)=>_
  | some (.dict _)=>_
  | _=>False
 rw [hl]
 show (match σ.H.get i with
  | some (.inst k _)=>need (P.cls k) fun c=>need (lk c.meths nm) fun f=>wpEs P K E as σ fun vs σ2=>callF P K E fz σ2 (.fn f) (.ref i::vs) Q
  | some (.list _)=>_
  | some (.dict _)=>_
  | _=>False)
 rw [hg]
 cases q:P.cls k with
 | none=>rw [q] at hm; cases hm
 | some c=>
  rw [q] at hm
  show need (P.cls k) _
  rw [q]
  exact Zaa (o:=some c) rfl (Zaa (o:=lk c.meths nm) hm h)
theorem Zmy {P:Prog}{K:CT}{E:EP}{fz:Bool}{o:PE}{i k nm f:Nat}{as:PEs}{fs:List (Nat×V)}{σ:St}{Q:V->St->Prop}(ho:∀Q':V->St->Prop,Q' (.ref i) σ->wpE P K E o σ Q')(hg:σ.H.get i=some (.inst k fs))(hm:methOf P k nm=some f)(h:wpEs P K E as σ fun vs σ2=>callF P K E fz σ2 (.fn f) (.ref i::vs) Q):wpE P K E (.meth fz o nm as) σ Q:=by
 unfold methOf at hm
 refine ho _ ?_
 show (match σ.H.get i with
  | some (.inst k _)=>need (P.cls k) fun c=>need (lk c.meths nm) fun f=>wpEs P K E as σ fun vs σ2=>callF P K E fz σ2 (.fn f) (.ref i::vs) Q
  | some (.list _)=>_
  | some (.dict _)=>_
  | _=>False)
 rw [hg]
 cases q:P.cls k with
 | none=>rw [q] at hm; cases hm
 | some c=>
  rw [q] at hm
  show need (P.cls k) _
  rw [q]
  exact Zaa (o:=some c) rfl (Zaa (o:=lk c.meths nm) hm h)
theorem m67:methOf tb.P 59 67=some 239:=by kernel_rfl
noncomputable def x00:Hd:=⟨none, -1,[],0,true,[],none,[],0,false,(0, -1),none,none,[]⟩
noncomputable def x01 (fi:List Int):Hd:=⟨some 0,0,fi,0,true,[],none,[],0,false,(0, -1),none,none,[]⟩
noncomputable def XF (fi ys:List Int):Nat->Hd:=fun t=>if (t:Int)∈ys then x01 fi else x00
theorem ZjQ {fi ys:List Int}{t:Nat}:updX (XF fi ys) t (intoF (XF fi ys t) (some 0) fi none)=XF fi (ys++[(t:Int)]):=funext fun u=>by
 show (if u=t then intoF (if (t:Int)∈ys then x01 fi else x00) (some 0) fi none else (if (u:Int)∈ys then x01 fi else x00))=if (u:Int)∈ys++[(t:Int)] then x01 fi else x00
 by_cases c:u=t
 ·have e:(if (u:Int)∈ys++[(t:Int)] then x01 fi else x00)=x01 fi:=if_pos (c▸List.mem_append_right _ (List.mem_cons_self ..))
  rw [if_pos c,e]
  by_cases d:(t:Int)∈ys
  ·rw [if_pos d]; rfl
  ·rw [if_neg d]; rfl
 ·rw [if_neg c]
  by_cases d:(u:Int)∈ys
  ·rw [if_pos d,if_pos (List.mem_append_left _ d)]
  ·rw [if_neg d,if_neg fun z=>(List.mem_append.mp z).elim d fun z=>c (by have:=List.mem_singleton.mp z; exact lb7 this)]
section
variable {n:Nat}{H:Hp}{ow:Nat->Nat}{L:Lay}{M:Nat}{U:List Letter}{X:Nat->Hd}
theorem Zmd {t h:Nat}{Q:V->Hp->Prop}{E:Nat->Hp->Prop}{p:Option Int}{ms:List Int}{w:Option News}(R:Rep H ow L M U X)(hh:L.hs[t]?=some h)(hz:ms.length<=SZ)(hg:∀H' ow',Rep H' ow' L M U (updX X t (intoF (X t) p ms w))->Keep H ow H' ow'->Q .none H'):CW tb.P (n+2) 239 [.ref h,plV p,.lst (iV ms),nV w] H Q E:=
 focG R (as₁:=[.ref 2,plV p,.lst (iV ms),nV w]) hh (fun ρ ø h2=>by show _=[V.ref (ρ 2),renV ρ (plV p),.lst (renVs ρ (iV ms)),renV ρ (nV w)]; rw [h2,Zgk,Za7,Zi7]) fun Q₁ E1 F=>Zfh hz (F.val (fun ø=>rfl) (.b (X t) rfl rfl rfl rfl) hg)
theorem ZjV {fi:List Int}(f:Fi M fi)(hz:fi.length<=SZ)(H₀:Hp)(ow0':Nat->Nat)(Q:Flow->St->Prop):∀(xs ys:List Int) (H:Hp) (ow:Nat->Nat) (lo:Loc),(∀i∈xs,0<=i/\i < M)->lo 108=some (.ref L.fk)->lo 122=some (.lst (iV fi))->Rep H ow L M [] (XF fi ys)->Keep H₀ ow0' H ow->(∀H' ow' lo',Rep H' ow' L M [] (XF fi (ys++xs))->Keep H₀ ow0' H' ow'->Q .next ⟨H',lo'⟩)->
  loopGo (fun v σ2 k=>bindT [109] v σ2 fun σ3=>wpSs tb.P (CW tb.P (n+2)) Zax σ3 k noE) (still (.lst (iV fi)) (iV fi)) (iV xs) ⟨H,lo⟩ Q:=by
 intro zz0
 induction zz0 with
 | nil=>
  intro ys H ow lo hx h1 h2 R K h
  refine ⟨rfl,h H ow lo ?_ K⟩
  rw [List.append_nil]; exact R
 | cons x xs ih=>
  intro ys H ow lo hx h1 h2 R K h
  have lx:=hx x (.head _)
  obtain ⟨t,rfl⟩:∃t:Nat,x=t:=⟨x.toNat,by exact la5 lx⟩
  have tM:t < L.hs.length:=by rw [R.hl]; exact la4 lx
  have hh:L.hs[t]?=some L.hs[t]:=List.getElem?_eq_getElem tM
  obtain ⟨l,hd⟩:=R.hd t _ hh
  refine ⟨rfl, ?_⟩
  refine Zmy (i:=L.hs[t]) (fun Q' q'=>?_) hd.hd m67 ?_
  ·refine Zaa (o:=lo 108) h1 ?_
   refine Zaa (o:=cI (H.get L.fk)) (a:=(60,[(18,.int M),(123,.lst (L.hs.map .ref)),(124,.ref L.un)])) (by rw [R.fk]; rfl) ?_
   refine Zaa (o:=pyIdx (t:Int) (L.hs.map V.ref).length) (Zaz (by rw [List.length_map]; exact tM)) ?_
   exact Zaa (o:=(L.hs.map V.ref)[t]?) (a:=.ref L.hs[t]) (by rw [List.getElem?_map,hh]; rfl) q'
  ·refine Zaa (o:=lo 122) h2 ?_
   refine Zmd (n:=n) (p:=some 0) (w:=none) R hh hz fun H' ow' R' K'=>?_
   refine gv rfl ?_
   rw [ZjQ] at R'
   refine ih (ys++[(t:Int)]) H' ow' (upd lo 109 (.int t)) (fun i hi=>hx i (.tail _ hi)) h1 h2 R' (K.trans K') fun H'' ow'' lo'' R'' K''=>h H'' ow'' lo'' ?_ K''
   rw [List.append_cons]; exact R''
theorem f243:tb.P.fn 243=some Zbq:=by kernel_rfl
noncomputable def mkL (j M:Nat):Lay where
 fk:=j
 un:=j+1+4 * M
 hs:=(List.range M).map fun w=>j+1+4 * w
noncomputable def ow0 (j M:Nat):Nat->Nat:=fun i=>if i < j then 0 else if i=j then 1 else if i < j+1+4 * M then rol ((i - (j+1)) / 4) ([0,3,1,2].getD ((i - (j+1)) % 4) 0) else 2
theorem Zfc {j M w i:Nat}(hw:w < M)(hi:i < 4):ow0 j M (j+1+4 * w+i)=rol w ([0,3,1,2].getD i 0):=by
 have lt:4 * w+i < 4 * M:=Nat.lt_of_lt_of_le (Nat.add_lt_add_left hi _) (Nat.mul_le_mul_left 4 hw)
 have ge:j+1<=j+1+(4 * w+i):=Nat.le_add_right ..
 unfold ow0
 rw [Nat.add_assoc,if_neg (Nat.not_lt_of_le (Nat.le_of_succ_le ge)),if_neg (Nat.ne_of_gt ge),if_pos (Nat.add_lt_add_left lt _),Nat.add_sub_cancel_left,Nat.mul_add_div (by decide),Nat.div_eq_of_lt hi,Nat.add_zero,Nat.mul_add_mod,Nat.mod_eq_of_lt hi]
theorem rep0 {H:Hp}{j M:Nat}{fi:List Int}(hM:M<=9)(fk:H.get j=some (.inst 60 [(18,.int M),(123,.lst ((List.range M).map fun w=>.ref (j+1+4 * w))),(124,.ref (j+1+4 * M))]))(un:H.get (j+1+4 * M)=some (.list []))(hn:∀w,w < M->HN H (j+1+4 * w) w):Rep H (ow0 j M) (mkL j M) M [] (XF fi []):=by
 refine ⟨?_,un,by show ((List.range M).map _).length=M; rw [List.length_map,List.length_range],hM, ?_, ?_,fun t h ht=>?_⟩
 ·show H.get j=some (.inst 60 [(18,.int M),(123,.lst (((List.range M).map fun w=>j+1+4 * w).map .ref)),(124,.ref (j+1+4 * M))])
  rw [List.map_map]; exact fk
 ·show ow0 j M j=1
  unfold ow0; rw [if_neg (Nat.lt_irrefl _),if_pos rfl]
 ·show ow0 j M (j+1+4 * M)=2
  unfold ow0; rw [if_neg (by exact fun zz=>le3 zz),if_neg (by exact fun zz=>le4 zz),if_neg (by exact fun zz=>Nat.lt_irrefl _ zz)]
 ·have ht:((List.range M).map fun w=>j+1+4 * w)[t]?=some h:=ht
  have lt:t < M:=by have:=(List.getElem?_eq_some_iff.mp ht).1; rw [List.length_map,List.length_range] at this; exact this
  rw [List.getElem?_map,List.getElem?_range lt] at ht
  cases ht
  have d:=hn t lt
  refine ⟨⟨j+1+4 * t+2,j+1+4 * t+3,j+1+4 * t+1,0,0,0⟩,d.hd,d.r,d.d,d.g,fun o e=>(by cases e),Zfc (i:=0) lt (by decide),Zfc (i:=2) lt (by decide),Zfc (i:=3) lt (by decide),Zfc (i:=1) lt (by decide)⟩
theorem Fi.len {M:Nat}{fi:List Int}(h:Fi M fi):fi.length<=M:=by
 have nd:fi.Nodup:=h.up.imp fun q=>Int.ne_of_lt q
 have:=nd.length_le_of_subset (l₂:=(List.range M).map Int.ofNat) fun i hi=>List.mem_map.mpr ⟨i.toNat,List.mem_range.mpr (la6 (h.lt i hi)),(la5 (h.lt i hi)).symm⟩
 rw [List.length_map,List.length_range] at this
 exact this
theorem ZmI {H:Hp}{M:Nat}{fi:List Int}{Q:V->Hp->Prop}{E:Nat->Hp->Prop}(f:Fi M fi)(h1:1<=M)(hM:M<=9)(h:∀H' ow',Rep H' ow' (mkL H.next M) M [] (XF fi fi)->Keep H (fun ø=>0) H' ow'->Q .none H'):CW tb.P (n+3) 243 [.ref H.next,.int M,.lst (iV fi)] (H.new (.inst 60 [])) Q E:=by
 have hz:fi.length<=SZ:=Nat.le_trans f.len (Nat.le_trans hM (by unfold SZ; exact Nat.le_of_ble_eq_true rfl))
 refine Zad _ _ _ f243 rfl ?_
 refine Zdz ?_
 refine gv rfl ?_
 refine Zei (b:=decide ((M:Int) < 1)) (decide_eq_false (by exact fun zz=>lb3 (lc9 zz) (ld2 h1))) ?_
 refine Zei (b:=decide ((9:Int) < M)) (decide_eq_false (by exact fun zz=>lb3 (lc9 zz) (lc7 hM rfl))) ?_
 refine ZlV f ?_
 refine gv rfl ?_
 have g0:(H.new (.inst 60 [])).get H.next=some (.inst 60 []):=by rw [Hp.get_new,if_pos rfl]
 refine saL (v:=.int M) (H₁:=H.new (.inst 60 [])) rfl (fun Q' q=>q) g0 (by kernel_rfl) (Zac rfl) ?_
 have I0:MkI H ((H.new (.inst 60 [])).set H.next (.inst 60 [(18,.int M)])) H.next (H.next+1) M 0:=⟨by rw [Hp.next_set,Hp.next_new],Nat.lt_succ_self _,by rw [Hp.get_set g0,if_pos rfl],fun w hw=>absurd hw (Nat.not_lt_zero _),fun i c g ne=>by rw [Hp.get_set g0,if_neg ne,Hp.get_new,if_neg ne]; exact g⟩
 have er:rngL 0 1 (rngN 0 (M:Int) 1)=(List.range' 0 M).map fun u=>V.int (u:Nat):=by
  rw [show rngN 0 (M:Int) 1=M by unfold rngN; rw [if_pos rfl]; exact le8]
  exact ZfA M 0
 refine ⟨by show M<=SZ; unfold SZ; exact la7 hM rfl, ?_⟩
 show compGo _ _ [109] (still (.rng 0 M 1) (rngL 0 1 (rngN 0 (M:Int) 1))) (rngL 0 1 (rngN 0 (M:Int) 1)) [] ⟨(H.new (.inst 60 [])).set H.next (.inst 60 [(18,.int M)]),_⟩ _
 rw [er]
 refine ZkM (n:=n) (.rng 0 M 1) _ (fun H'=>by show some (rngL 0 1 (rngN 0 (M:Int) 1))=_; rw [er]) hM _ M 0 _ _ (Nat.zero_add M) I0 fun H' lo' I=>?_
 refine ⟨by rw [List.length_map,List.length_range]; unfold SZ; exact la7 hM rfl, ?_⟩
 have g1:H'.get H.next=some (.inst 60 [(18,.int M)]):=I.fk
 refine Zaa (o:=cI (H'.get H.next)) (a:=(60,[(18,.int M)])) (by rw [g1]; rfl) ?_
 refine ⟨rfl,Zac rfl, ?_⟩
 have g2:(H'.set H.next (.inst 60 [(18,.int M),(123,.lst ((List.range M).map fun w=>.ref (H.next+1+4 * w)))])).get H.next=some (.inst 60 [(18,.int M),(123,.lst ((List.range M).map fun w=>.ref (H.next+1+4 * w)))]):=by rw [Hp.get_set g1,if_pos rfl]
 have nx2:(H'.set H.next (.inst 60 [(18,.int M),(123,.lst ((List.range M).map fun w=>.ref (H.next+1+4 * w)))])).next=H.next+1+4 * M:=by rw [Hp.next_set,I.nx]
 have k2:∀i c,H'.get i=some c->i≠H.next->(H'.set H.next (.inst 60 [(18,.int M),(123,.lst ((List.range M).map fun w=>.ref (H.next+1+4 * w)))])).get i=some c:=fun i c g ne=>by rw [Hp.get_set g1,if_neg ne]; exact g
 show wpSs tb.P (CW tb.P (n+2)) (.cons (.assign (.attr (.loc 108) 124) (.list false .nil)) (.cons (.loop [109] (.loc 122) Zax) .nil)) ⟨H'.set H.next (.inst 60 [(18,.int M),(123,.lst ((List.range M).map fun w=>.ref (H.next+1+4 * w)))]),_⟩ _ _
 generalize H'.set H.next (.inst 60 [(18,.int M),(123,.lst ((List.range M).map fun w=>.ref (H.next+1+4 * w)))])=H2 at g2 nx2 k2 ⊢
 have k3:∀i c,H2.get i=some c->(H2.new (.list [])).get i=some c:=fun i c g=>by rw [Hp.get_new,if_neg (show i≠H2.next from Nat.ne_of_lt (Zak g))]; exact g
 have g3:(H2.new (.list [])).get H.next=some (.inst 60 [(18,.int M),(123,.lst ((List.range M).map fun w=>.ref (H.next+1+4 * w)))]):=k3 _ _ g2
 refine saL (v:=.ref (H.next+1+4 * M)) (H₁:=H2.new (.list [])) rfl (fun Q' q=>⟨Zac rfl, ?_⟩) g3 (by kernel_rfl) (Zac rfl) ?_
 ·rw [← nx2] at q; exact q
 have g4:∀i c,(H2.new (.list [])).get i=some c->i≠H.next->((H2.new (.list [])).set H.next (.inst 60 [(18,.int M),(123,.lst ((List.range M).map fun w=>.ref (H.next+1+4 * w))),(124,.ref (H.next+1+4 * M))])).get i=some c:=fun i c g ne=>by rw [Hp.get_set g3,if_neg ne]; exact g
 have hn:∀w,w < M->HN ((H2.new (.list [])).set H.next (.inst 60 [(18,.int M),(123,.lst ((List.range M).map fun w=>.ref (H.next+1+4 * w))),(124,.ref (H.next+1+4 * M))])) (H.next+1+4 * w) w:=fun w hw=>by
  have d:=I.hn w hw
  have k:∀i c,H'.get i=some c->i≠H.next->((H2.new (.list [])).set H.next (.inst 60 [(18,.int M),(123,.lst ((List.range M).map fun w=>.ref (H.next+1+4 * w))),(124,.ref (H.next+1+4 * M))])).get i=some c:=fun i c g ne=>g4 i c (k3 i c (k2 i c g ne)) ne
  exact ⟨k _ _ d.hd (by exact fun zz=>le4 zz),k _ _ d.g (by exact fun zz=>le5 zz),k _ _ d.r (by exact fun zz=>le5 zz),k _ _ d.d (by exact fun zz=>le5 zz)⟩
 have k5:∀i c,H.get i=some c->((H2.new (.list [])).set H.next (.inst 60 [(18,.int M),(123,.lst ((List.range M).map fun w=>.ref (H.next+1+4 * w))),(124,.ref (H.next+1+4 * M))])).get i=some c:=fun i c g=>by
  have ne:i≠H.next:=Nat.ne_of_lt (Zak g)
  exact g4 i c (k3 i c (k2 i c (I.kp i c g ne) ne)) ne
 have R0:=rep0 (fi:=fi) hM (H:=(H2.new (.list [])).set H.next (.inst 60 [(18,.int M),(123,.lst ((List.range M).map fun w=>.ref (H.next+1+4 * w))),(124,.ref (H.next+1+4 * M))])) (by rw [Hp.get_set g3,if_pos rfl]) (g4 _ _ (by rw [Hp.get_new,if_pos nx2.symm]) (by exact fun zz=>le4 zz)) hn
 refine ZjV (n:=n) (L:=mkL H.next M) f hz H (fun ø=>0) _ fi [] _ _ _ f.lt rfl rfl R0 (fun i c g ø=>⟨k5 i c g,by have:i < H.next:=Zak g; unfold ow0; rw [if_pos this]⟩) fun H' ow' lo' R' K'=>?_
 exact h H' ow' R' K'
end
theorem m84:methOf tb.P 60 84=some 251:=by kernel_rfl
structure StJ (M:Nat)(J:Nat->List Letter->(Nat->Hd)->Prop)(N:Nat)(Lt:Letter)(U:List Letter)(X:Nat->Hd):Prop where
 ex:∃t:Nat,Lt.to=t/\t < M/\OkA U t (X t)/\((X t).up=true->(newsOf Lt.c=none->(X t).place=some Lt.pl)->OkC (X t) Lt.from_ Lt.c)/\∃N':Nat,N' < N/\J N' (comeF t (X t) U Lt).2 (updX X t (comeF t (X t) U Lt).1)
theorem f252:tb.P.fn 252=some Zcx:=by kernel_rfl
section
variable {n:Nat}{L:Lay}{M:Nat}(J:Nat->List Letter->(Nat->Hd)->Prop)
 (step:∀N Lt U X,J N (Lt::U) X->StJ M J N Lt U X)
include step
theorem ZfZ (H₀:Hp)(ow0':Nat->Nat)(Q:Flow->St->Prop)(h:∀H' ow' X' N' lo c,J N' [] X'->Rep H' ow' L M [] X'->Keep H₀ ow0' H' ow'->lo 18=some (.int c)->Q .next ⟨H',lo⟩):∀(F N:Nat) (U:List Letter) (X:Nat->Hd) (H:Hp) (ow:Nat->Nat) (lo:Loc) (c:Int),N < F->J N U X->Rep H ow L M U X->Keep H₀ ow0' H ow->lo 108=some (.ref L.fk)->lo 18=some (.int c)->
  whileGo (fun σ1 k=>wpT tb.P (CW tb.P (n+6)) noE (.e (.attr (.loc 108) 124)) σ1 k) (fun σ1 k=>wpSs tb.P (CW tb.P (n+6)) Za1 σ1 k noE) F ⟨H,lo⟩ Q:=by
 intro zz0
 induction zz0 with
 | zero=>
  intro N U X H ow lo c hN hJ R K h1 h2
  exact absurd hN (Nat.not_lt_zero _)
 | succ F ih=>
  intro N U X H ow lo c hN hJ R K h1 h2
  have go:∀k:Bool->St->Prop,(k (!(lV U).isEmpty) ⟨H,lo⟩)->wpT tb.P (CW tb.P (n+6)) noE (.e (.attr (.loc 108) 124)) ⟨H,lo⟩ k:=fun k q=>by
   refine Zaa (o:=lo 108) h1 ?_
   refine Zaa (o:=cI (H.get L.fk)) (a:=(60,[(18,.int M),(123,.lst (L.hs.map .ref)),(124,.ref L.un)])) (by rw [R.fk]; rfl) ?_
   refine Zaa (o:=mL (cL (H.get L.un))) (a:=.lst (lV U)) (by rw [R.un]; rfl) ?_
   exact q
  refine go _ ?_
  cases U with
  | nil=>exact h H ow X N lo c hJ R K h2
  | cons Lt U=>
   obtain ⟨t,e1,e2,o,oc,N',hN',hJ'⟩:=(step N Lt U X hJ).ex
   show wpSs tb.P (CW tb.P (n+6)) Za1 ⟨H,lo⟩ _ noE
   refine ZaS (σ:=⟨H,lo⟩) h1 R.fk m84 ?_
   refine ZlH (n:=n) (p:=0) R e2 rfl e1 o oc fun H' ow' R' K'=>?_
   refine gv rfl ?_
   refine Zaa (o:=lo 18) h2 ?_
   exact ih N' _ _ H' ow' (upd lo 18 (.int (c+1))) (c+1) (by exact Nat.lt_of_lt_of_le hN' (Nat.le_of_lt_succ hN)) hJ' R' (K.trans K') h1 rfl
theorem ZlF {N:Nat}{U:List Letter}{X:Nat->Hd}{H:Hp}{ow:Nat->Nat}{Q:V->Hp->Prop}{E:Nat->Hp->Prop}(hJ:J N U X)(R:Rep H ow L M U X)(h:∀H' ow' X' N' c,J N' [] X'->Rep H' ow' L M [] X'->Keep H ow H' ow'->Q (.int c) H'):CW tb.P (n+7) 252 [.ref L.fk] H Q E:=by
 refine Zad _ _ _ f252 rfl ?_
 refine ⟨N+1, ?_⟩
 refine ZfZ J step H ow _ (fun H' ow' X' N' lo c j r k e=>?_) (N+1) N U X H ow _ 0 (Nat.lt_succ_self N) hJ R Keep.refl rfl rfl
 refine Zaa (o:=lo 18) e ?_
 exact h H' ow' X' N' c j r k
end
section
variable {n M t:Nat}{hs:List V}{U:List Letter}{k pl:Int}{x:Hd}{Q:V->Hp->Prop}{E:Nat->Hp->Prop}
theorem f246:tb.P.fn 246=some ZbQ:=by kernel_rfl
theorem Zb8 (o:AtA t M hs)(hp:x.place=some pl)(h:Q (.ref 2) ⟨fA (.int M) hs U k x []⟩):CW tb.P (n+3) 246 [.ref 0,.int t] ⟨fA (.int M) hs U k x []⟩ Q E:=by
 refine Zad _ _ _ f246 rfl ?_
 refine Zc4 o.lt o.at_ ?_
 refine ⟨show solid (plV x.place)=true by rw [hp]; rfl, ?_⟩
 exact Zei (b:=isNone (plV x.place)) (by rw [hp]; rfl) h
theorem ZgZ (o:AtA t M hs)(hp:x.place=none)(h:E 19 ⟨fA (.int M) hs U k x [some (.exc 56)]⟩):CW tb.P (n+3) 246 [.ref 0,.int t] ⟨fA (.int M) hs U k x []⟩ Q E:=by
 refine Zad _ _ _ f246 rfl ?_
 refine Zc4 o.lt o.at_ ?_
 refine ⟨show solid (plV x.place)=true by rw [hp]; rfl, ?_⟩
 exact Zht (b:=isNone (plV x.place)) (by rw [hp]; rfl) ⟨rfl,h⟩
theorem f249:tb.P.fn 249=some Zcj:=by kernel_rfl
theorem Zmm (o:AtA t M hs)(hu:x.up=true)(h:Q .none ⟨fA (.int M) hs U k { x with up:=false } []⟩):CW tb.P (n+3) 249 [.ref 0,.int t] ⟨fA (.int M) hs U k x []⟩ Q E:=by
 refine Zad _ _ _ f249 rfl ?_
 refine Zc4 o.lt o.at_ ?_
 refine Zei (b:=!x.up) (by rw [hu]; rfl) ?_
 exact ⟨rfl,Nat.le_of_ble_eq_true rfl,h⟩
theorem f263:tb.P.fn 263=some ZbM:=by kernel_rfl
theorem Zik (o:AtA t M hs)(h:Q (.bool x.up) ⟨fA (.int M) hs U k x []⟩):CW tb.P (n+3) 263 [.ref 0,.int t] ⟨fA (.int M) hs U k x []⟩ Q E:=by
 refine Zad _ _ _ f263 rfl ?_
 refine Zc4 o.lt o.at_ ?_
 exact h
theorem f264:tb.P.fn 264=some ZbE:=by kernel_rfl
theorem ZlU (o:AtA t M hs)(hp:x.place=some pl)(hz:x.ms.length<=SZ)(h:Q (.tup [.int pl,.lst (iV x.ms)]) ⟨fA (.int M) hs U k x []⟩):CW tb.P (n+4) 264 [.ref 0,.int t] ⟨fA (.int M) hs U k x []⟩ Q E:=by
 have e:plV x.place=.int pl:=by rw [hp]; rfl
 refine Zad _ _ _ f264 rfl ?_
 refine Zb8 o hp ?_
 rw [← e] at h
 exact ⟨by rw [Zae]; exact hz,Nat.le_of_ble_eq_true rfl,h⟩
theorem Zkh (o:AtA t M hs)(hp:x.place=none)(h:E 19 ⟨fA (.int M) hs U k x [some (.exc 56)]⟩):CW tb.P (n+4) 264 [.ref 0,.int t] ⟨fA (.int M) hs U k x []⟩ Q E:=by
 refine Zad _ _ _ f264 rfl ?_
 exact ZgZ o hp h
theorem f266:tb.P.fn 266=some Zbb:=by kernel_rfl
theorem ZkB (o:AtA t M hs)(hp:x.place=some pl)(h:Q (.bool x.still) ⟨fA (.int M) hs U k x []⟩):CW tb.P (n+4) 266 [.ref 0,.int t] ⟨fA (.int M) hs U k x []⟩ Q E:=by
 refine Zad _ _ _ f266 rfl ?_
 refine Zb8 o hp ?_
 exact h
theorem f265:tb.P.fn 265=some Zb0:=by kernel_rfl
theorem ZkL (o:AtA t M hs)(hp:x.place=some pl)(ht:0<=x.took)(hr:x.row.length<=SZ)(h:Q (.ref 19) ⟨fA (.int M) hs U k x [some (.list (mV (x.row.take x.took.toNat)))]⟩):CW tb.P (n+4) 265 [.ref 0,.int t] ⟨fA (.int M) hs U k x []⟩ Q E:=by
 have lz:((mV x.row).take x.took.toNat).length<=SZ:=by rw [List.length_take,Zap]; exact Nat.le_trans (Nat.min_le_right ..) hr
 rw [show mV (x.row.take x.took.toNat)=(mV x.row).take x.took.toNat from List.map_take ..] at h
 refine Zad _ _ _ f265 rfl ?_
 refine Zb8 o hp ?_
 exact ⟨rfl,decide_eq_true ht,lz,lz,h⟩
theorem f267:tb.P.fn 267=some ZbH:=by kernel_rfl
noncomputable def wiF:Option News->List Int
 | none=>[]
 | some w=>w.wit
theorem ZnE (o:AtA t M hs)(hp:x.place=some pl)(hz:(wiF x.news).length<=SZ)(h:Q (.ref 19) ⟨fA (.int M) hs U k x [some (.list (iV (wiF x.news)))]⟩):CW tb.P (n+4) 267 [.ref 0,.int t] ⟨fA (.int M) hs U k x []⟩ Q E:=by
 refine Zad _ _ _ f267 rfl ?_
 refine Zb8 o hp ?_
 cases e:x.news with
 | none=>
  rw [e] at h
  refine ⟨show solid (nV x.news)=true by rw [e]; rfl, ?_⟩
  exact Zht (b:=isNone (nV x.news)) (by rw [e]; rfl) ⟨Nat.zero_le _,h⟩
 | some w=>
  rw [e] at h hz
  refine ⟨show solid (nV x.news)=true by rw [e]; rfl, ?_⟩
  refine Zei (b:=isNone (nV x.news)) (by rw [e]; rfl) ?_
  show idxH _ (nV x.news) (.int 3) _
  rw [e]
  exact ⟨by rw [Zae]; exact hz,h⟩
theorem f268:tb.P.fn 268=some ZcG:=by kernel_rfl
theorem ZgW (K:CT)(H:Hp)(us:List V)(Q:List V->St->Prop)(hi:items H (.ref 5)=some us):∀(xs acc:List Gn) (lo:Loc),(∀g∈xs,g.2.1.length<=SZ/\g.2.2.length<=SZ)->acc.length+xs.length<=SZ->(∀lo',Q (gV (acc++xs)) ⟨H,lo'⟩)->
  compGo (fun σ2 k=>wpC tb.P K noE .none σ2 k) (fun σ2 k=>wpE tb.P K noE (.tup (.cons (.loc 110) (.cons (.call true (.glob 41) (.cons (.loc 123) .nil)) (.cons (.call true (.glob 41) (.cons (.loc 23) .nil)) .nil)))) σ2 k) [110,123,23] (still (.ref 5) us) (gV xs) (gV acc) ⟨H,lo⟩ Q:=by
 intro zz0
 induction zz0 with
 | nil=>
  intro acc lo hg hz h
  have h:=h lo
  rw [List.append_nil] at h
  exact ⟨hi,by show (acc.map _).length<=SZ; rw [List.length_map]; exact hz,h⟩
 | cons g xs ih=>
  intro acc lo hg hz h
  rw [List.length_cons] at hz
  have g1:=hg g (.head _)
  refine ⟨hi,by show (acc.map _).length < SZ; rw [List.length_map]; exact la1 hz, ?_⟩
  refine ⟨by rw [Zae]; exact g1.1, ?_⟩
  refine ⟨by rw [Zap]; exact g1.2, ?_⟩
  refine ⟨Nat.le_of_ble_eq_true rfl, ?_⟩
  have e:gV acc++[.tup [.int g.1,.lst (iV g.2.1),.lst (mV g.2.2)]]=gV (acc++[g]):=by unfold gV; rw [List.map_append]; rfl
  show compGo _ _ [110,123,23] _ (gV xs) (gV acc++[.tup [.int g.1,.lst (iV g.2.1),.lst (mV g.2.2)]]) ⟨H,_⟩ Q
  rw [e]
  refine ih (acc++[g]) _ (fun y hy=>hg y (.tail _ hy)) (by rw [List.length_append]; show acc.length+1+_<=_; exact la2 hz) fun lo'=>?_
  have h:=h lo'
  rw [List.append_cons] at h
  exact h
theorem ZlG (o:AtA t M hs)(hg:∀g∈x.gone,g.2.1.length<=SZ/\g.2.2.length<=SZ)(hz:x.gone.length<=SZ)(h:Q (.ref 19) ⟨fA (.int M) hs U k x [some (.list (gV x.gone))]⟩):CW tb.P (n+3) 268 [.ref 0,.int t] ⟨fA (.int M) hs U k x []⟩ Q E:=by
 refine Zad _ _ _ f268 rfl ?_
 refine Zc4 o.lt o.at_ ?_
 refine ZgW (CW tb.P (n+2)) _ (gV x.gone) _ rfl x.gone [] _ hg (by show 0+_<=_; exact lf4 hz) fun lo'=>?_
 exact ⟨by show (x.gone.map _).length<=SZ; rw [List.length_map]; exact hz,h⟩
end
section
variable {n:Nat}{H:Hp}{ow:Nat->Nat}{L:Lay}{M t:Nat}{U:List Letter}{X:Nat->Hd}{Q:V->Hp->Prop}{E:Nat->Hp->Prop}(R:Rep H ow L M U X)(ht:t < M)
include R ht
theorem Zl3 (hu:(X t).up=true)(h:∀H' ow',Rep H' ow' L M U (updX X t { X t with up:=false })->Keep H ow H' ow'->Q .none H'):CW tb.P (n+3) 249 [.ref L.fk,.int t] H Q E:=
 focA R ht (fun ø=>rfl) fun Q₁ E1 F=>Zmm (Zb6 ht) hu (F.val (fun ø=>rfl) (.a [] rfl) h)
theorem ZiI (h:∀H' ow',Rep H' ow' L M U X->Keep H ow H' ow'->Q (.bool (X t).up) H'):CW tb.P (n+3) 263 [.ref L.fk,.int t] H Q E:=
 focA R ht (fun ø=>rfl) fun Q₁ E1 F=>Zik (Zb6 ht) (F.val (x':=X t) (fun ø=>rfl) (.a [] rfl) fun H' ow' r k=>h H' ow' (by rw [ZaC] at r; exact r) k)
theorem Zm2 {pl:Int}(hp:(X t).place=some pl)(hz:(X t).ms.length<=SZ)(h:∀H' ow',Rep H' ow' L M U X->Keep H ow H' ow'->Q (.tup [.int pl,.lst (iV (X t).ms)]) H'):CW tb.P (n+4) 264 [.ref L.fk,.int t] H Q E:=
 focA R ht (fun ø=>rfl) fun Q₁ E1 F=>ZlU (Zb6 ht) hp hz (F.val (x':=X t) (fun ρ=>by show V.tup [.int pl,.lst (renVs ρ (iV (X t).ms))]=_; rw [Za7]) (.a [] rfl) fun H' ow' r k=>h H' ow' (by rw [ZaC] at r; exact r) k)
theorem ZhK (hp:(X t).place=none)(h:∀H' ow' j,Rep H' ow' L M U X->Keep H ow H' ow'->H'.get j=some (.exc 56)->E j H'):CW tb.P (n+4) 264 [.ref L.fk,.int t] H Q E:=
 focA R ht (fun ø=>rfl) fun Q₁ E1 F=>Zkh (Zb6 ht) hp (F.exc h)
theorem ZkT {pl:Int}(hp:(X t).place=some pl)(h:∀H' ow',Rep H' ow' L M U X->Keep H ow H' ow'->Q (.bool (X t).still) H'):CW tb.P (n+4) 266 [.ref L.fk,.int t] H Q E:=
 focA R ht (fun ø=>rfl) fun Q₁ E1 F=>ZkB (Zb6 ht) hp (F.val (x':=X t) (fun ø=>rfl) (.a [] rfl) fun H' ow' r k=>h H' ow' (by rw [ZaC] at r; exact r) k)
theorem Zk8 {pl:Int}(hp:(X t).place=some pl)(h0:0<=(X t).took)(hr:(X t).row.length<=SZ)(h:∀H' ow',Rep H' ow' L M U X->Keep H ow H' ow'->H'.get H.next=some (.list (mV ((X t).row.take (X t).took.toNat)))->ow' H.next=0->Q (.ref H.next) H'):CW tb.P (n+4) 265 [.ref L.fk,.int t] H Q E:=
 focA R ht (fun ø=>rfl) fun Q₁ E1 F=>ZkL (Zb6 ht) hp h0 hr (F.new (fun ø=>Zb2 _) h)
theorem ZnJ {pl:Int}(hp:(X t).place=some pl)(hz:(wiF (X t).news).length<=SZ)(h:∀H' ow',Rep H' ow' L M U X->Keep H ow H' ow'->H'.get H.next=some (.list (iV (wiF (X t).news)))->ow' H.next=0->Q (.ref H.next) H'):CW tb.P (n+4) 267 [.ref L.fk,.int t] H Q E:=
 focA R ht (fun ø=>rfl) fun Q₁ E1 F=>ZnE (Zb6 ht) hp hz (F.new (fun ø=>Za7 _) h)
theorem Zm6 (hg:∀g∈(X t).gone,g.2.1.length<=SZ/\g.2.2.length<=SZ)(hz:(X t).gone.length<=SZ)(h:∀H' ow',Rep H' ow' L M U X->Keep H ow H' ow'->H'.get H.next=some (.list (gV (X t).gone))->ow' H.next=0->Q (.ref H.next) H'):CW tb.P (n+3) 268 [.ref L.fk,.int t] H Q E:=
 focA R ht (fun ø=>rfl) fun Q₁ E1 F=>ZlG (Zb6 ht) hg hz (F.new (fun ø=>Zgv _) h)
end
section
variable {n:Nat}{H:Hp}{ow:Nat->Nat}{L:Lay}{M t hd:Nat}{U:List Letter}{X:Nat->Hd}{Q:V->Hp->Prop}{E:Nat->Hp->Prop}
theorem Zlv {pl:Int}(R:Rep H ow L M U X)(ht:t < M)(hh:L.hs[t]?=some hd)(hu:(X t).up=true)(hp:(X t).place=some pl)(h:∀H' ow',Rep H' ow' L M U X->Keep H ow H' ow'->Q (.ref hd) H'):CW tb.P (n+3) 245 [.ref L.fk,.int t] H Q E:=
 focA R ht (fun ø=>rfl) fun Q₁ E1 F=>ZgE (Zb6 ht) hu hp (F.hnd (x':=X t) hh (.a [] rfl) fun H' ow' r k=>h H' ow' (by rw [ZaC] at r; exact r) k)
theorem Zn2 {j:Nat}{l:List Int}(g:H.get j=some (.list (iV l)))(f:Fi M l)(h:Q (.bool true) H):CW tb.P (n+2) 7 [.ref j,.int M] H Q E:=by
 have gi:items H (.ref j)=some (iV l):=by show cL (H.get j)=_; rw [g]; rfl
 refine Zad _ _ _ f7l rfl ?_
 refine Zaa (o:=kind H (.ref j)) (a:=.list) (by show kdC (H.get j)=_; rw [g]; rfl) ?_
 refine Zaa (o:=lenH H (.ref j)) (a:=(iV l).length) (by show (match H.get j with | some (.list xs)=>some xs.length | some (.dict kvs)=>some kvs.length | _=>none)=_; rw [g]) ?_
 refine Zei (b:=decide (((iV l).length:Int)=0)) (decide_eq_false fun z=>f.ne (List.length_eq_zero_iff.mp (by rw [Zae] at z; exact lb5 z))) ?_
 refine Zaa (o:=items H (.ref j)) gi ?_
 refine Ze2 (iV l) (.ref j) gi _ l (-1) _ rfl rfl (List.pairwise_cons.mpr ⟨fun i hi=>by have:=f.lt i hi; exact this.1,f.up⟩) (fun i hi=>(f.lt i hi).2) fun lo'=>?_
 exact h
theorem Zmt {pl:Int}{c:Cont}{ts:List Int}(R:Rep H ow L M U X)(hh:L.hs[t]?=some hd)(hp:(X t).place=some pl)(hz:U.length+ts.length<=SZ)(h:∀H' ow',Rep H' ow' L M (U++sendF t pl ts c) X->Keep H ow H' ow'->Q .none H'):CW tb.P (n+1) 247 [.ref L.fk,.str c.word,.ref hd,.lst (iV ts),c.v] H Q E:=
 focG R (as₁:=[.ref 0,.str c.word,.ref 2,.lst (iV ts),c.v]) hh (fun ρ h0 h2=>by show _=[V.ref (ρ 0),.str c.word,.ref (ρ 2),.lst (renVs ρ (iV ts)),renV ρ c.v]; rw [h0,h2,Za7,Zmf]) fun Q₁ E1 F=>Zbm (a:=.int t) (p:=.int pl) rfl (ZaI hp) (by rw [Zba,Zae]; exact hz) (by
  have:=F.val (v:=.none) (x':=X t) (U':=U++sendF t pl ts c) (fun ø=>rfl) (.a [] rfl) fun H' ow' r k=>h H' ow' (by rw [ZaC] at r; exact r) k
  unfold fA at this
  rw [← ZbX] at this
  exact this)
structure Mo (H H':Hp)(b:Bal)(l:List Int):Prop where
 o:H'.get H.next=some (.inst 155 (oFL ⟨b,l,[],none,[],false⟩ (H.next+1) (H.next+2)))
 p:H'.get (H.next+1)=some (.dict [])
 a:H'.get (H.next+2)=some (.dict [])
 kp:∀i c,H.get i=some c->H'.get i=some c
theorem ZkA {b:Bal}{l:List Int}(h:Q .none ⟨[some (.inst 155 (oFL ⟨b,l,[],none,[],false⟩ 1 2)),some (.dict []),some (.dict [])]⟩):CW tb.P (n+1) 274 [.ref 0,bV b,.lst (iV l)] ⟨[some (.inst 155 [])]⟩ Q E:=by
 refine Zad _ _ _ f274 rfl ?_
 refine sa (v:=bV b) (fs':=[(118,bV b)]) (r':=[]) rfl (fun Q' q=>q) (by kernel_rfl) rfl (Zac rfl) ?_
 refine sa (v:=.lst (iV l)) (fs':=[(118,bV b),(123,.lst (iV l))]) (r':=[]) rfl (fun Q' q=>q) (by kernel_rfl) rfl (Zac rfl) ?_
 refine sa (v:=.ref 1) (fs':=[(118,bV b),(123,.lst (iV l)),(146,.ref 1)]) (r':=[some (.dict [])]) rfl (fun Q' q=>⟨Zac rfl,rfl,q⟩) (by kernel_rfl) rfl (Zac rfl) ?_
 refine sa (v:=.none) (fs':=[(118,bV b),(123,.lst (iV l)),(146,.ref 1),(147,.none)]) (r':=[some (.dict [])]) rfl (fun Q' q=>q) (by kernel_rfl) rfl (Zac rfl) ?_
 refine sa (v:=.ref 2) (fs':=[(118,bV b),(123,.lst (iV l)),(146,.ref 1),(147,.none),(149,.ref 2)]) (r':=[some (.dict []),some (.dict [])]) rfl (fun Q' q=>⟨Zac rfl,rfl,q⟩) (by kernel_rfl) rfl (Zac rfl) ?_
 refine sa (v:=.bool false) (fs':=[(118,bV b),(123,.lst (iV l)),(146,.ref 1),(147,.none),(149,.ref 2),(148,.bool false)]) (r':=[some (.dict []),some (.dict [])]) rfl (fun Q' q=>q) (by kernel_rfl) rfl (Zac rfl) ?_
 exact h
theorem Zj7 {b:Bal}{l:List Int}(h:∀H',Mo H H' b l->Q .none H'):CW tb.P (n+1) 274 [.ref H.next,bV b,.lst (iV l)] (H.new (.inst 155 [])) Q E:=by
 have hj:(H.new (.inst 155 [])).get H.next=some (.inst 155 []):=by rw [Hp.get_new,if_pos rfl]
 have en:(H.new (.inst 155 [])).next=H.next+1:=Hp.next_new
 have p0:pos0 [H.next] H.next=some 0:=ZcA
 refine .foc [H.next] [.ref 0,bV b,.lst (iV l)] ⟨[some (.inst 155 [])]⟩ ⟨rfl,fun i hi=>ZcW hi,fun i hi=>⟨_,(List.mem_singleton.mp hi)▸hj⟩,fun i c g=>?_⟩ ?_ (ZkA ?_)
 ·match i,g with
  | 0,g=>cases g; exact ⟨H.next,rfl,p0,hj⟩
  | i+1,g=>exact absurd (Zak (show atC [some (.inst 155 [])] (i+1)=some c from g)) (by show ¬ i+1 < 1; exact fun zz=>Nat.lt_irrefl _ (Nat.lt_add_left _ zz))
 ·show _=[V.ref H.next,bV b,.lst (renVs _ (iV l))]
  rw [Za7]
 ·refine h _ ⟨?_, ?_, ?_,fun i c g=>ZhE (by rw [Hp.get_new,if_neg (show i≠H.next from Nat.ne_of_lt (Zak g))]; exact g) fun z=>absurd (List.mem_singleton.mp z) (Nat.ne_of_lt (Zak g))⟩
  ·refine (Zdd (c₁:=.inst 155 (oFL ⟨b,l,[],none,[],false⟩ 1 2)) hj p0 rfl).trans ?_
   rw [Zhy]
   show some (C.inst 155 (oFL _ ((H.new (.inst 155 [])).next+0) ((H.new (.inst 155 [])).next+1)))=_
   rw [en]
  ·have:=Zbf (js:=[H.next]) (H₀:=⟨[some (.inst 155 [])]⟩) (H:=H.new (.inst 155 [])) (H₁:=⟨[some (.inst 155 (oFL ⟨b,l,[],none,[],false⟩ 1 2)),some (.dict []),some (.dict [])]⟩) (i:=1) (c₁:=.dict []) (Nat.le_refl 1) rfl
   rw [en] at this; exact this
  ·have:=Zbf (js:=[H.next]) (H₀:=⟨[some (.inst 155 [])]⟩) (H:=H.new (.inst 155 [])) (H₁:=⟨[some (.inst 155 (oFL ⟨b,l,[],none,[],false⟩ 1 2)),some (.dict []),some (.dict [])]⟩) (i:=2) (c₁:=.dict []) (by show 1<=2; decide) rfl
   rw [en] at this; exact this
end
section
variable {P:Prog}{K:CT}{E:EP}{r:PSs}{σ:St}{Q:Flow->St->Prop}
theorem ZcY {e:PE}(h:wpE P K E e σ fun ø σ1=>wpSs P K r σ1 Q E):wpSs P K (.cons (.expr e) r) σ Q E:=h
theorem ZcP {i:Nat}{e:PE}(h:wpE P K E e σ fun v σ1=>wpSs P K r (σ1.put i v) Q E):wpSs P K (.cons (.assign (.loc i) e) r) σ Q E:=h
theorem Zn0 {o e:PE}{nm:Nat}(h:wpE P K E e σ fun v σ1=>wpE P K E o σ1 fun a σ2=>putA P a nm v σ2 fun σ3=>wpSs P K r σ3 Q E):wpSs P K (.cons (.assign (.attr o nm) e) r) σ Q E:=h
theorem Zcs {fz:Bool}{g:Nat}{f:V}{as:PEs}{Q:V->St->Prop}(hg:P.glob g=some f)(h:wpEs P K E as σ fun vs σ2=>callF P K E fz σ2 f vs Q):wpE P K E (.call fz (.glob g) as) σ Q:=Zaa (o:=P.glob g) hg h
theorem ZoH {t:PC}{a b:PSs}(ht:∀Q':Bool->St->Prop,Q' true σ->wpT P K E t σ Q')(h:wpSs P K a σ (fun fl σ1=>seqK fl σ1 (fun σ2=>wpSs P K r σ2 Q E) Q) E):wpSs P K (.cons (.ite t a b) r) σ Q E:=ht _ h
theorem Zn4 {t:PC}{a:PSs}(ht:∀Q':Bool->St->Prop,Q' false σ->wpT P K E t σ Q')(h:wpSs P K r σ Q E):wpSs P K (.cons (.ite t a .nil) r) σ Q E:=ht _ h
theorem Zor {i:Nat}{e:PE}{v:V}(he:∀Q':V->St->Prop,Q' v σ->wpE P K E e σ Q')(h:wpSs P K r (σ.put i v) Q E):wpSs P K (.cons (.assign (.loc i) e) r) σ Q E:=he _ h
theorem Zew {e:PE}(h:wpE P K E e σ fun v σ1=>Q (.ret v) σ1):wpSs P K (.cons (.ret (.some e)) r) σ Q E:=h
theorem ZoI {l i k nm:Nat}{fs:List (Nat×V)}{v:V}{Q:V->St->Prop}(hl:σ.loc l=some (.ref i))(hg:σ.H.get i=some (.inst k fs))(hv:lk fs nm=some v)(h:Q v σ):wpE P K E (.attr (.loc l) nm) σ Q:=
 Zaa (o:=σ.loc l) hl (Zaa (o:=cI (σ.H.get i)) (a:=(k,fs)) (by rw [hg]; rfl) (Zaa (o:=lk fs nm) hv h))
theorem gvI {fz:Bool}{i k:Nat}{fs:List (Nat×V)}{Q:V->St->Prop}(hg:σ.H.get i=some (.inst k fs))(h:Q (.ref i) σ):giveV fz σ Q (.ref i):=by
 cases fz with
 | false=>exact h
 | true=>
  show (match cL (σ.H.get i) with | some xs=>Q (.lst xs) (σ.setH (σ.H.del i)) | none=>Q (.ref i) σ)
  rw [hg]; exact h
end
section
variable {n:Nat}{H H':Hp}{ow:Nat->Nat}{L:Lay}{M t hd:Nat}{U:List Letter}{X:Nat->Hd}{Q:V->Hp->Prop}{E:Nat->Hp->Prop}{b:Bal}{l:List Int}
theorem Rep.offer {lh:Lh}(R:Rep H ow L M U X)(hh:L.hs[t]?=some hd)(d:HdR H ow t hd (X t) lh)(m:Mo H H' b l):
  Rep (H'.set hd (.inst 59 (hFL t { X t with off:=some ⟨b,l,[],none,[],false⟩} { lh with o:=H.next,p:=H.next+1,a:=H.next+2 }))) (owN H.next ow [rol t 4,rol t 5,rol t 6]) L M U (updX X t { X t with off:=some ⟨b,l,[],none,[],false⟩})
  /\Keep H ow (H'.set hd (.inst 59 (hFL t { X t with off:=some ⟨b,l,[],none,[],false⟩} { lh with o:=H.next,p:=H.next+1,a:=H.next+2 }))) (owN H.next ow [rol t 4,rol t 5,rol t 6]):=by
 have gh:=m.kp _ _ d.hd
 have lt:hd < H.next:=Zak d.hd
 have get:∀{i c},H'.get i=some c->i≠hd->(H'.set hd (.inst 59 (hFL t { X t with off:=some ⟨b,l,[],none,[],false⟩} { lh with o:=H.next,p:=H.next+1,a:=H.next+2 }))).get i=some c:=fun g ne=>by rw [Hp.get_set gh,if_neg ne]; exact g
 have old:∀{i c},H.get i=some c->owN H.next ow [rol t 4,rol t 5,rol t 6] i=ow i:=fun g=>if_pos (Zak g)
 have ne:∀{i w},ow i=w->w≠rol t 0->i≠hd:=fun e q z=>q (by rw [← e,z]; exact d.wh)
 have new:∀i,owN H.next ow [rol t 4,rol t 5,rol t 6] (H.next+i)=[rol t 4,rol t 5,rol t 6].getD i 0:=fun i=>by
  unfold owN
  rw [if_neg (Nat.not_lt_of_le (Nat.le_add_right ..)),Nat.add_sub_cancel_left]
 have kk:∀{i c w},H.get i=some c->ow i=w->w≠rol t 0->(H'.set hd (.inst 59 (hFL t { X t with off:=some ⟨b,l,[],none,[],false⟩} { lh with o:=H.next,p:=H.next+1,a:=H.next+2 }))).get i=some c/\owN H.next ow [rol t 4,rol t 5,rol t 6] i=w:=fun g e q=>⟨get (m.kp _ _ g) (ne e q),(old g).trans e⟩
 have rne:∀{i},i≠0->rol t i≠rol t 0:=fun q z=>q (Nat.add_left_cancel z)
 have k1:=kk R.fk R.wf (lh5 rfl)
 have k2:=kk R.un R.wu (lh5 rfl)
 refine ⟨⟨k1.1,k2.1,R.hl,R.hM,k1.2,k2.2,fun u k hu=>?_⟩,fun j c g w=>kk g w (lh5 rfl)⟩
 by_cases c:u=t
 ·subst c
  cases hh.symm.trans hu
  rw [show updX X u { X u with off:=some ⟨b,l,[],none,[],false⟩} u={ X u with off:=some ⟨b,l,[],none,[],false⟩} from if_pos rfl]
  have r1:=kk d.row d.wr (rne (by decide))
  have r2:=kk d.hol d.wd (rne (by decide))
  have r3:=kk d.gon d.wg (rne (by decide))
  refine ⟨{ lh with o:=H.next,p:=H.next+1,a:=H.next+2 },by rw [Hp.get_set gh,if_pos rfl],r1.1,r2.1,r3.1,fun o e=>?_,(old d.hd).trans d.wh,r1.2,r2.2,r3.2⟩
  cases e
  exact ⟨get m.o (Nat.ne_of_gt lt),get m.p (Nat.ne_of_gt (Nat.lt_succ_of_lt lt)),get m.a (Nat.ne_of_gt (Nat.lt_succ_of_lt (Nat.lt_succ_of_lt lt))),new 0,new 1,new 2⟩
 ·obtain ⟨lu,du⟩:=R.hd u k hu
  rw [show updX X t { X t with off:=some ⟨b,l,[],none,[],false⟩} u=X u from if_neg c]
  have rn:∀{i},i < 7->rol u i≠rol t 0:=fun q=>(farU c q).2.2 0 (by decide)
  have r0:=kk du.hd du.wh (rn (by decide))
  have r1:=kk du.row du.wr (rn (by decide))
  have r2:=kk du.hol du.wd (rn (by decide))
  have r3:=kk du.gon du.wg (rn (by decide))
  refine ⟨lu,r0.1,r1.1,r2.1,r3.1,fun o e=>?_,r0.2,r1.2,r2.2,r3.2⟩
  have O:=du.off o e
  have q1:=kk O.go O.wo (rn (by decide))
  have q2:=kk O.gp O.wp (rn (by decide))
  have q3:=kk O.ga O.wa (rn (by decide))
  exact ⟨q1.1,q2.1,q3.1,q1.2,q2.2,q3.2⟩
theorem m75:methOf tb.P 60 75=some 247:=by kernel_rfl
theorem m73:methOf tb.P 60 73=some 245:=by kernel_rfl
theorem ZlQ {pl:Int}{j:Nat}(R:Rep H ow L M U X)(ht:t < M)(hu:(X t).up=true)(hp:(X t).place=some pl)(ho:(X t).off=none)(f:Fi M l)(gj:H.get j=some (.list (iV l)))(wj:ow j=0)(hl:l.length<=SZ)(hU:U.length+(X t).ms.length<=SZ)
  (h:∀H' ow',Rep H' ow' L M (U++sendF t pl (X t).ms (.prep ((X t).bal.1+1,t))) (updX X t { X t with off:=some ⟨((X t).bal.1+1,t),l,[],none,[],false⟩})->Keep H ow H' ow'->Q .none H'):CW tb.P (n+4) 270 [.ref L.fk,.int t,.ref j] H Q E:=by
 have lt:t < L.hs.length:=R.hl.symm▸ht
 have hh:L.hs[t]?=some L.hs[t]:=List.getElem?_eq_getElem lt
 refine Zad _ _ _ f270 rfl ?_
 refine ZcP ?_
 refine ZaS (σ:=⟨H,_⟩) rfl R.fk m73 ?_
 refine Zlv (n:=n) R ht hh hu hp fun H₁ ow1 R1 K1'=>?_
 obtain ⟨lh,d⟩:=R1.hd t _ hh
 have g1:=K1' j _ gj wj
 refine gvI (σ:=⟨H₁,_⟩) d.hd ?_
 refine Zn4 (fun k q=>?_) ?_
 ·refine Zaa (o:=cI (H₁.get L.fk)) (a:=(60,[(18,.int M),(123,.lst (L.hs.map .ref)),(124,.ref L.un)])) (by rw [R1.fk]; rfl) ?_
  exact Zn2 g1.1 f (gv rfl q)
 refine Zor (v:=.int (X t).bal.1) (fun Q' q=>?_) ?_
 ·exact Zaa (o:=cI (H₁.get L.hs[t])) (a:=(59,hFL t (X t) lh)) (by rw [d.hd]; rfl) q
 refine Zn4 (fun k q=>?_) ?_
 ·refine Zaa (o:=cI (H₁.get L.hs[t])) (a:=(59,hFL t (X t) lh)) (by rw [d.hd]; rfl) ?_
  refine ⟨show solid (oR (X t).off lh.o)=true by rw [ho]; rfl, ?_⟩
  show k (!isNone (oR (X t).off lh.o)) _
  rw [ho]; exact q
 refine Zn0 ?_
 refine ⟨Zac rfl, ?_⟩
 refine Zaa (o:=mL (cL (H₁.get j))) (a:=.lst (iV l)) (by rw [g1.1]; rfl) ?_
 refine ⟨by rw [Zae]; exact hl, ?_⟩
 refine Zj7 (n:=n+2) (b:=((X t).bal.1+1,t)) (l:=l) fun H2' m=>?_
 refine ⟨rfl, ?_⟩
 have gh:=m.kp _ _ d.hd
 refine Zaa (o:=cI (H2'.get L.hs[t])) (a:=(59,hFL t (X t) lh)) (by rw [gh]; rfl) ?_
 refine ⟨rfl,Zac rfl, ?_⟩
 obtain ⟨R3,K3⟩:=R1.offer hh d m
 show wpSs tb.P (CW tb.P (n+3)) (.cons (.expr (.meth true (.loc 108) 75 (.cons (.cst (.str Zbo)) (.cons (.loc 125) (.cons (.attr (.loc 125) 17) (.cons (.attr (.attr (.loc 125) 120) 118) .nil)))))) .nil) ⟨H2'.set L.hs[t] (.inst 59 (hFL t { X t with off:=some ⟨((X t).bal.1+1,t),l,[],none,[],false⟩} { lh with o:=H₁.next,p:=H₁.next+1,a:=H₁.next+2 })),_⟩ _ _
 have go:=Hp.get_set (j:=L.hs[t]) (c':=.inst 59 (hFL t { X t with off:=some ⟨((X t).bal.1+1,t),l,[],none,[],false⟩} { lh with o:=H₁.next,p:=H₁.next+1,a:=H₁.next+2 })) gh
 rw [if_pos rfl] at go
 have gq:(H2'.set L.hs[t] (.inst 59 (hFL t { X t with off:=some ⟨((X t).bal.1+1,t),l,[],none,[],false⟩} { lh with o:=H₁.next,p:=H₁.next+1,a:=H₁.next+2 }))).get H₁.next=some (.inst 155 (oFL ⟨((X t).bal.1+1,t),l,[],none,[],false⟩ (H₁.next+1) (H₁.next+2))):=by
  rw [Hp.get_set gh,if_neg (show H₁.next≠L.hs[t] from Nat.ne_of_gt (Zak d.hd))]; exact m.o
 generalize H2'.set L.hs[t] (.inst 59 (hFL t { X t with off:=some ⟨((X t).bal.1+1,t),l,[],none,[],false⟩} { lh with o:=H₁.next,p:=H₁.next+1,a:=H₁.next+2 }))=H3 at R3 K3 go gq ⊢
 refine ZcY ?_
 refine ZaS (σ:=⟨H3,_⟩) rfl R3.fk m75 ?_
 refine Zaa (o:=cI (H3.get L.hs[t])) (a:=(59,hFL t { X t with off:=some ⟨((X t).bal.1+1,t),l,[],none,[],false⟩} { lh with o:=H₁.next,p:=H₁.next+1,a:=H₁.next+2 })) (by rw [go]; rfl) ?_
 refine Zaa (o:=cI (H3.get L.hs[t])) (a:=(59,hFL t { X t with off:=some ⟨((X t).bal.1+1,t),l,[],none,[],false⟩} { lh with o:=H₁.next,p:=H₁.next+1,a:=H₁.next+2 })) (by rw [go]; rfl) ?_
 refine Zaa (o:=cI (H3.get H₁.next)) (a:=(155,oFL ⟨((X t).bal.1+1,t),l,[],none,[],false⟩ (H₁.next+1) (H₁.next+2))) (by rw [gq]; rfl) ?_
 refine Zmt (n:=n+2) (c:=.prep ((X t).bal.1+1,t)) (ts:=(X t).ms) R3 hh (by rw [show updX X t { X t with off:=some ⟨((X t).bal.1+1,t),l,[],none,[],false⟩} t={ X t with off:=some ⟨((X t).bal.1+1,t),l,[],none,[],false⟩} from if_pos rfl]; exact hp) hU fun H4' ow4 R4 K4'=>?_
 refine gv rfl ?_
 exact h H4' ow4 R4 ((K1'.trans K3).trans K4')
end
end Mine
end
section
namespace Mine
open PySem PySem.SetTable
theorem ZhY {xs:Array Nat}{j c:Nat}(h:∀k,k < xs.size->(xs.getD k j < j↔k < c)):∀(f lo hi:Nat),lo<=c->c<=hi->hi<=xs.size->hi<=lo+f->below.go xs j f lo hi=c:=by
 intro zz0
 induction zz0 with
 | zero=>
  intro lo hi h1 h2 h3 h4
  exact Nat.le_antisymm h1 (Nat.le_trans h2 h4)
 | succ f ih=>
  intro lo hi h1 h2 h3 h4
  show (if lo < hi then (if xs.getD ((lo+hi) / 2) j < j then below.go xs j f ((lo+hi) / 2+1) hi else below.go xs j f lo ((lo+hi) / 2)) else lo)=c
  by_cases q:lo < hi
  ·rw [if_pos q]
   have ml:(lo+hi) / 2 < hi:=Nat.div_lt_of_lt_mul (Nat.two_mul hi▸Nat.add_lt_add_right q hi)
   have lm:lo<=(lo+hi) / 2:=(Nat.le_div_iff_mul_le (Nat.succ_pos 1)).mpr (Nat.mul_two lo▸Nat.add_le_add_left (Nat.le_of_lt q) lo)
   have hm:=h ((lo+hi) / 2) (Nat.lt_of_lt_of_le ml h3)
   by_cases r:xs.getD ((lo+hi) / 2) j < j
   ·rw [if_pos r]
    have:=hm.mp r
    exact ih _ hi this h2 h3 ((Nat.succ_add _ f).symm▸Nat.le_trans h4 (Nat.add_le_add_right lm (f+1)))
   ·rw [if_neg r]
    have:¬ (lo+hi) / 2 < c:=fun z=>r (hm.mpr z)
    exact ih lo _ h1 (Nat.le_of_not_lt this) (Nat.le_trans (Nat.le_of_lt ml) h3) (Nat.le_of_lt_succ (Nat.lt_of_lt_of_le ml h4))
  ·rw [if_neg q]; exact Nat.le_antisymm h1 (Nat.le_trans h2 (Nat.le_of_not_lt q))
theorem ZaY {A B:List Nat}{j:Nat}(ha:∀a∈A,a < j)(hb:∀b∈B,j<=b):below (A++B).toArray j=A.length:=by
 refine ZhY (fun k hk=>?_) _ 0 _ (Nat.zero_le _) ?_ (Nat.le_refl _) (Nat.le_of_eq (Nat.zero_add _).symm)
 ·rw [List.size_toArray] at hk
  rw [Array.getD_eq_getD_getElem?,List.getElem?_toArray]
  by_cases c:k < A.length
  ·rw [List.getElem?_append_left c,List.getElem?_eq_getElem c]
   exact ⟨fun ø=>c,fun ø=>ha _ (List.getElem_mem c)⟩
  ·have c':=Nat.le_of_not_lt c
   rw [List.getElem?_append_right c']
   have lt:k - A.length < B.length:=Nat.sub_lt_left_of_lt_add c' (by rw [List.length_append] at hk; exact hk)
   rw [List.getElem?_eq_getElem lt]
   exact ⟨fun z=>absurd z (Nat.not_lt_of_le (hb _ (List.getElem_mem lt))),fun z=>absurd z c⟩
 ·rw [List.size_toArray,List.length_append]; exact Nat.le_add_right ..
theorem ZhJ (j:Nat):∀P:List Nat,P.Pairwise (· < ·)->∃A B,P=A++B/\(∀a∈A,a < j)/\∀b∈B,j<=b:=by
 intro zz0
 induction zz0 with
 | nil=>
  intro _
  exact ⟨[],[],rfl,fun ø h=>(nomatch h),fun ø h=>(nomatch h)⟩
 | cons x r ih=>
  intro h
  have h:=List.pairwise_cons.mp h
  by_cases c:x < j
  ·obtain ⟨A,B,e,ha,hb⟩:=ih h.2
   exact ⟨x::A,B,by rw [e]; rfl,fun a q=>(List.mem_cons.mp q).elim (fun z=>z▸c) (ha a),hb⟩
  ·exact ⟨[],x::r,rfl,fun ø h=>(nomatch h),fun b q=>(List.mem_cons.mp q).elim (fun z=>z▸Nat.le_of_not_lt c) fun z=>Nat.le_trans (Nat.le_of_not_lt c) (Nat.le_of_lt (h.1 b z))⟩
structure Tg (led:Bool)(t:SetTable)(P:List Nat):Prop where
 pl:t.place=P.toArray
 up:P.Pairwise (· < ·)
 mx:∀a∈P,a<=t.mask
 du:t.dummies=#[]
 ld:t.led=led
 pn:t.plain=true
theorem Zhk {led:Bool}{t:SetTable}{P:List Nat}{j:Nat}(g:Tg led t P)(h:j∉P):t.slot j=.empty:=by
 obtain ⟨A,B,e,ha,hb⟩:=ZhJ j P g.up
 unfold SetTable.slot
 rw [g.pl,g.du,e,ZaY ha hb]
 show (if ((A++B).toArray[A.length]?==some j)=true then Slot.live A.length else if has #[] j=true then Slot.dummy else Slot.empty)=_
 rw [List.getElem?_toArray,List.getElem?_append_right (Nat.le_refl _),Nat.sub_self]
 have ne:(B[0]?==some j)=false:=by
  cases B with
  | nil=>rfl
  | cons b r=>
   show (some b==some j)=false
   rw [beq_eq_false_iff_ne]
   exact fun z=>h (by rw [e]; exact List.mem_append_right _ (Option.some.inj z▸ .head _))
 rw [ne]; rfl
theorem ZmW {led:Bool}{t:SetTable}{P:List Nat}{j:Nat}(g:Tg led t P)(h:j∉P)(hj:j<=t.mask):∃A B,P=A++B/\(t.put j).2=A.length/\(t.put j).1={ t with place:=(A++j::B).toArray }/\Tg led (t.put j).1 (A++j::B):=by
 obtain ⟨A,B,e,ha,hb⟩:=ZhJ j P g.up
 have e2:(t.put j).2=A.length:=by show below t.place j=_; rw [g.pl,e,ZaY ha hb]
 have e1:(t.put j).1={ t with place:=(A++j::B).toArray }:=by
  show ({ t with place:=insertAt t.place (below t.place j) j,dummies:=if has t.dummies j then _ else t.dummies }:SetTable)=_
  have hz:has #[] j=false:=rfl
  have hi:insertAt (A++B).toArray A.length j=(A++j::B).toArray:=by
   unfold insertAt
   apply Array.ext'
   simp
  rw [g.pl,g.du,e,ZaY ha hb,hz,hi]; rfl
 refine ⟨A,B,e,e2,e1, ?_⟩
 rw [e1]
 have up:=g.up
 rw [e] at up
 obtain ⟨u1,u2,u3⟩:=List.pairwise_append.mp up
 refine ⟨rfl,List.pairwise_append.mpr ⟨u1,List.pairwise_cons.mpr ⟨fun b q=>Nat.lt_of_le_of_ne (hb b q) fun z=>h (by rw [e]; exact List.mem_append_right _ (z▸q)),u2⟩,fun a qa b qb=>?_⟩,fun a q=>?_,g.du,g.ld,g.pn⟩
 ·rcases List.mem_cons.mp qb with z | z
  ·exact z▸ha a qa
  ·exact u3 a qa b z
 ·rcases List.mem_append.mp q with z | z
  ·exact g.mx a (by rw [e]; exact List.mem_append_left _ z)
  ·rcases List.mem_cons.mp z with z | z
   ·exact z▸hj
   ·exact g.mx a (by rw [e]; exact List.mem_append_right _ z)
theorem hash9:∀n:Nat,n < 9->hashInt (n:Int)=n/\bits (n:Int)=n
 | 0,_=>⟨rfl,rfl⟩
 | 1,_=>⟨rfl,rfl⟩
 | 2,_=>⟨rfl,rfl⟩
 | 3,_=>⟨rfl,rfl⟩
 | 4,_=>⟨rfl,rfl⟩
 | 5,_=>⟨rfl,rfl⟩
 | 6,_=>⟨rfl,rfl⟩
 | 7,_=>⟨rfl,rfl⟩
 | 8,_=>⟨rfl,rfl⟩
 | n+9,h=>absurd h (by exact fun zz=>Nat.lt_irrefl _ (Nat.lt_add_left _ zz))
theorem ZiV {led:Bool}{t:SetTable}{P:List Nat}{j:Nat}(g:Tg led t P)(h:j∈P):∃i,t.slot j=.live i:=by
 obtain ⟨A,B,e,ha,hb⟩:=ZhJ j P g.up
 have mB:j∈B:=by
  rw [e] at h
  exact (List.mem_append.mp h).elim (fun z=>absurd (ha j z) (Nat.lt_irrefl _)) id
 refine ⟨A.length, ?_⟩
 unfold SetTable.slot
 rw [g.pl,e,ZaY ha hb]
 show (if ((A++B).toArray[A.length]?==some j)=true then Slot.live A.length else _)=_
 rw [List.getElem?_toArray,List.getElem?_append_right (Nat.le_refl _),Nat.sub_self]
 have up:=g.up
 rw [e] at up
 have up:=(List.pairwise_append.mp up).2.1
 cases B with
 | nil=>cases mB
 | cons b r=>
  have:b=j:=by
   rcases List.mem_cons.mp mB with z | z
   ·exact z.symm
   ·have:=(List.pairwise_cons.mp up).1 j z
    have:=hb b (.head _)
    lia
  subst this
  show (if (some b==some b)=true then _ else _)=_
  rw [if_pos (beq_self_eq_true _)]
noncomputable def qn:Nat->Nat->Nat
 | 0,i=>i
 | k+1,i=>qn k ((i * 5+1) % 8)
theorem adv7 {t:SetTable}{i π:Nat}(h7:t.mask=7)(hπ:π < 32):t.advance ⟨i,0,i,π,none⟩=⟨(i * 5+1) % 8,0,(i * 5+1) % 8,0,none⟩:=by
 have e:π / 32=0:=Nat.div_eq_of_lt hπ
 have r:∀x,runEnd 7 x - x=0:=fun x=>by
  unfold runEnd
  rw [if_neg (by exact fun zz=>lc4 zz (Nat.lt_succ_of_le (Nat.le_add_left _ _))),Nat.sub_self]
 show (⟨(i * 5+1+π / 32) % (t.mask+1),runEnd t.mask ((i * 5+1+π / 32) % (t.mask+1)) - (i * 5+1+π / 32) % (t.mask+1),(i * 5+1+π / 32) % (t.mask+1),π / 32,none⟩:Probe)=_
 rw [h7,e,r]
theorem hh (h:Int):(h+1==h)=false:=by rw [beq_eq_false_iff_ne]; exact fun zz=>lb4 (Int.lt_add_one_of_le (Int.le_of_eq zz)) (Int.le_refl _)
theorem go7 {led:Bool}{t:SetTable}{P:List Nat}{h:Int}(g:Tg led t P)(h7:t.mask=7):∀(k F i π:Nat),k < F->π < 32->i < 8->qn k i∉P->∃j,probe.go t (fun ø=>h+1) h F ⟨i,0,i,π,none⟩=some (.empty j none)/\j∉P/\j<=7
 | k,0,i,π,hF,_,_,_=>absurd hF (Nat.not_lt_zero _)
 | k,F+1,i,π,hF,hπ,hi,hq=>by
  show ∃j,(match t.slot i with
   | .empty=>some (Met.empty i none)
   | .dummy=>probe.go t (fun ø=>h+1) h F (t.advance { (⟨i,0,i,π,none⟩:Probe) with dummy:=some i })
   | .live m=>if (h+1==h)=true then some (Met.candidate i m (t.advance ⟨i,0,i,π,none⟩)) else probe.go t (fun ø=>h+1) h F (t.advance ⟨i,0,i,π,none⟩))=some (.empty j none)/\_
  by_cases c:i∈P
  ·obtain ⟨m,e⟩:=ZiV g c
   rw [e]
   show ∃j,(if (h+1==h)=true then _ else _)=_/\_
   rw [hh,if_neg (by decide),adv7 h7 hπ]
   cases k with
   | zero=>exact absurd c hq
   | succ k=>exact go7 g h7 k F _ 0 (Nat.lt_of_succ_lt_succ hF) (by decide) (Nat.mod_lt _ (by decide)) hq
  ·rw [Zhk g c]
   exact ⟨i,rfl,c,Nat.le_of_lt_succ hi⟩
theorem Zh6:∀s:Fin 8,((List.range 8).map fun k=>qn k s.1).Nodup:=by decide
theorem free7 {led:Bool}{t:SetTable}{P:List Nat}{n:Nat}(g:Tg led t P)(h7:t.mask=7)(hP:P.length < 8)(hn:n < 9):∃j,t.freeSlot (n:Int)=some (j,false)/\j∉P/\j<=7:=by
 have ex:∃k,k < 8/\qn k (n % 8)∉P:=Classical.byContradiction fun z=>by
  have sub:((List.range 8).map fun k=>qn k (n % 8)) ⊆ P:=fun a ha=>by
   obtain ⟨k,hk,e⟩:=List.mem_map.mp ha
   exact Classical.byContradiction fun q=>z ⟨k,List.mem_range.mp hk,e▸q⟩
  have:=(Zh6 ⟨n % 8,Nat.mod_lt _ (by decide)⟩).length_le_of_subset sub
  rw [List.length_map,List.length_range] at this
  exact lc4 this hP
 obtain ⟨k,hk,hq⟩:=ex
 have r:∀x,runEnd 7 x - x=0:=fun x=>by
  unfold runEnd
  rw [if_neg (by exact fun zz=>lc4 zz (Nat.lt_succ_of_le (Nat.le_add_left _ _))),Nat.sub_self]
 obtain ⟨j,e,h1,h2⟩:=go7 (h:=(n:Int)) g h7 k 220 (n % 8) n (by exact lc5 hk rfl) (by exact lc5 hn rfl) (Nat.mod_lt _ (by decide)) hq
 refine ⟨j, ?_,h1,h2⟩
 have e2:t.probe (fun ø=>(n:Int)+1) n (t.probeStart n)=some (.empty j none):=by
  show probe.go t (fun ø=>(n:Int)+1) n (10 * (t.mask+15)) ⟨bits n % (t.mask+1),runEnd t.mask (bits n % (t.mask+1)) - bits n % (t.mask+1),bits n % (t.mask+1),bits n,none⟩=_
  rw [h7,(hash9 n hn).2,r]; exact e
 unfold freeSlot
 rw [e2]; rfl
theorem Zk2 {led:Bool}{t:SetTable}{P:List Nat}{n:Nat}(g:Tg led t P)(hn:n < 9)(hm:n<=t.mask)(h:n∉P):t.freeSlot (n:Int)=some (n,false):=by
 have e:bits n % (t.mask+1)=n:=by rw [(hash9 n hn).2]; exact Nat.mod_eq_of_lt (Nat.lt_succ_of_le hm)
 have e2:t.probe (fun ø=>(n:Int)+1) n (t.probeStart n)=some (.empty n none):=by
  show probe.go t (fun ø=>(n:Int)+1) n (10 * (t.mask+14+1)) ⟨bits n % (t.mask+1),_,bits n % (t.mask+1),bits n,none⟩=_
  rw [e,Nat.mul_succ]
  show (match t.slot n with | .empty=>some (Met.empty n none) | .dummy=>_ | .live m=>_)=_
  rw [Zhk g h]
 unfold freeSlot
 rw [e2]; rfl
structure Sm (L:List Int):Prop where
 nd:L.Nodup
 lt:∀i∈L,∃n:Nat,n < 9/\i=n
theorem Sm.hash {L:List Int}(h:∀i∈L,∃n:Nat,n < 9/\i=n):L.map hashInt=L:=by
 induction L with
 | nil=>rfl
 | cons a r ih=>
  obtain ⟨n,hn,e⟩:=h a (.head _)
  rw [List.map_cons,ih fun i hi=>h i (.tail _ hi),e,(hash9 n hn).1]
noncomputable def ixO (L:List Int)(j:Nat)(k:Nat):Option Nat:=match L with
 | []=>none
 | a::r=>match ixO r j (k+1) with
  | some x=>some x
  | none=>if a=(j:Int) then some k else none
theorem ZmE {mask:Nat}(hm:15<=mask):∀(L:List Int) (O:Array (Option Nat)) (k:Nat),O.size=mask+1->L.Nodup->(∀i∈L,∃n:Nat,n < 9/\i=n)->(∀n:Nat,(n:Int)∈L->O[n]?=some none)->
  ∃O':Array (Option Nat),L.foldl (fun acc h=>do
   let (owner,k) ← acc
   let j ← layClean.free mask owner (turns mask) (bits h % (mask+1)) (bits h)
   pure (owner.setIfInBounds j (some k),k+1)) (some (O,k))=some (O',k+L.length)/\O'.size=mask+1/\∀j,j<=mask->O'[j]?=some (match ixO L j k with | some x=>some x | none=>(O[j]?).getD none):=by
 intro zz0
 induction zz0 with
 | nil=>
  intro O k hs nd lt em
  exact ⟨O,rfl,hs,fun j hj=>by
   show O[j]?=some ((O[j]?).getD none)
   rw [Array.getElem?_eq_getElem (by exact Nat.lt_of_le_of_lt hj (lb1 hs.symm))]; rfl⟩
 | cons a r ih=>
  intro O k hs nd lt em
  obtain ⟨n,hn,e⟩:=lt a (.head _)
  have en:O[n]?=some none:=em n (e▸ .head _)
  have nd:=List.nodup_cons.mp nd
  have lt9:n < O.size:=by exact Nat.lt_of_le_of_lt (li7 hn hm rfl) (lb1 hs.symm)
  have fr:layClean.free mask O (turns mask) (bits a % (mask+1)) (bits a)=some n:=by
   rw [e,(hash9 n hn).2,Nat.mod_eq_of_lt (by exact Nat.lt_of_lt_of_le lt9 (Nat.le_of_eq hs):n < mask+1)]
   show (match (List.range (runEnd mask n+1 - n)).find? fun k=>(O.getD (n+k) (some 0)).isNone with | some k=>some (n+k) | none=>_)=_
   have:(List.range (runEnd mask n+1 - n)).find? (fun k=>(O.getD (n+k) (some 0)).isNone)=some 0:=by
    have rr:runEnd mask n+1 - n=(runEnd mask n - n)+1:=by
     have:n<=runEnd mask n:=by
      unfold runEnd
      split
      ·exact Nat.le_add_right ..
      ·exact Nat.le_refl _
     exact Nat.succ_sub this
    rw [rr,List.range_succ_eq_map,List.find?_cons_of_pos]
    show (O.getD n (some 0)).isNone=true
    rw [Array.getD_eq_getD_getElem?,en]; rfl
   rw [this]; rfl
  obtain ⟨O',e1,e2,e3⟩:=ih (O.setIfInBounds n (some k)) (k+1) (by rw [Array.size_setIfInBounds]; exact hs) nd.2 (fun i hi=>lt i (.tail _ hi)) fun m hm'=>by
   rw [Array.getElem?_setIfInBounds,if_neg fun z=>nd.1 (by rw [e,z]; exact hm')]
   exact em m (.tail _ hm')
  refine ⟨O', ?_,e2,fun j hj=>?_⟩
  ·rw [List.foldl_cons]
   show r.foldl _ ((layClean.free mask O (turns mask) (bits a % (mask+1)) (bits a)).bind fun j=>some (O.setIfInBounds j (some k),k+1))=_
   rw [fr]
   refine e1.trans ?_
   rw [List.length_cons,Nat.add_assoc,Nat.add_comm 1]
  ·rw [e3 j hj]
   congr 1
   show _=(match (match ixO r j (k+1) with | some x=>some x | none=>if a=(j:Int) then some k else none) with | some x=>some x | none=>(O[j]?).getD none)
   cases ixO r j (k+1) with
   | some x=>rfl
   | none=>
    show ((O.setIfInBounds n (some k))[j]?).getD none=_
    rw [Array.getElem?_setIfInBounds]
    by_cases c:n=j
    ·rw [if_pos c,if_pos lt9,if_pos (by rw [e,c])]; rfl
    ·rw [if_neg c,if_neg fun z=>c (by rw [e] at z; exact Int.ofNat.inj z)]
theorem Zbu {j:Nat}:∀{L:List Int} {k x:Nat},ixO L j k=some x->k<=x/\L[x - k]?=some (j:Int):=by
 intro zz0
 induction zz0 with
 | nil=>
  intro k x h
  exact nomatch h
 | cons a r ih=>
  intro k x h
  have h:(match ixO r j (k+1) with | some x=>some x | none=>if a=(j:Int) then some k else none)=some x:=h
  cases e:ixO r j (k+1) with
  | some y=>
   rw [e] at h
   cases h
   obtain ⟨h1,h2⟩:=ih e
   refine ⟨by exact la8 h1, ?_⟩
   rw [show x - k=(x - (k+1))+1 from (Nat.sub_add_cancel (Nat.sub_pos_of_lt h1)).symm]; exact h2
  | none=>
   rw [e] at h
   have h:(if a=(j:Int) then some k else none)=some x:=h
   by_cases c:a=(j:Int)
   ·rw [if_pos c] at h; cases h
    exact ⟨Nat.le_refl _,by rw [Nat.sub_self,← c]; rfl⟩
   ·rw [if_neg c] at h; cases h
theorem Zgj {j:Nat}:∀{L:List Int} {k:Nat},(j:Int)∈L->∃x,ixO L j k=some x:=by
 intro zz0
 induction zz0 with
 | nil=>
  intro k h
  exact nomatch h
 | cons a r ih=>
  intro k h
  show ∃x,(match ixO r j (k+1) with | some x=>some x | none=>if a=(j:Int) then some k else none)=some x
  cases e:ixO r j (k+1) with
  | some y=>exact ⟨y,rfl⟩
  | none=>
   rcases List.mem_cons.mp h with z | z
   ·exact ⟨k,if_pos z.symm⟩
   ·obtain ⟨x,q⟩:=ih (k:=k+1) z
    rw [e] at q; cases q
structure Laid (L:List Int)(mask:Nat)(S O:List Nat):Prop where
 up:S.Pairwise (· < ·)
 mx:∀a∈S,a<=mask
 mem:∀a:Nat,a∈S↔(a:Int)∈L
 pm:O.Perm (List.range L.length)
 ev:O.filterMap (L[·]?)=S.map fun (a:Nat)=>(a:Int)
theorem Zhj {L:List Int}{mask:Nat}(hm:15<=mask)(h:Sm L)(f m:Nat)(led pn:Bool):∃S O:List Nat,laid mask f m led pn (L.map hashInt).toArray=some (⟨mask,S.toArray,#[],f,led,m,pn⟩,O.toArray)/\Laid L mask S O:=by
 rw [Sm.hash h.lt]
 obtain ⟨Ow,e1,e2,e3⟩:=ZmE hm L (Array.replicate (mask+1) none) 0 Array.size_replicate h.nd h.lt fun n hn=>by
  obtain ⟨q,hq,e⟩:=h.lt _ hn
  rw [Array.getElem?_replicate,if_pos (by exact Nat.lt_succ_of_le (lc3 (lb7 e) (li7 hq hm rfl)))]
 have hg:∀j,j<=mask->Ow.getD j none=ixO L j 0:=fun j hj=>by
  rw [Array.getD_eq_getD_getElem?,e3 j hj]
  show (match ixO L j 0 with | some x=>some x | none=>((Array.replicate (mask+1) none)[j]?).getD none)=_
  cases ixO L j 0 with
  | some x=>rfl
  | none=>
   show ((Array.replicate (mask+1) none)[j]?).getD none=_
   rw [Array.getElem?_replicate,if_pos (by exact Nat.lt_succ_of_le hj)]; rfl
 have lc:layClean mask L.toArray=some Ow:=by
  unfold layClean
  rw [List.foldl_toArray]
  exact congrArg (Option.map fun x:Array (Option Nat)×Nat=>x.1) e1
 have lv:((List.range (mask+1)).filterMap fun j=>(Ow.getD j none).map ((j,·):Nat->Nat×Nat))=(List.range (mask+1)).filterMap fun j=>(ixO L j 0).map ((j,·):Nat->Nat×Nat):=by
  have:∀l:List Nat,(∀j∈l,j<=mask)->(l.filterMap fun j=>(Ow.getD j none).map ((j,·):Nat->Nat×Nat))=l.filterMap fun j=>(ixO L j 0).map ((j,·):Nat->Nat×Nat):=fun l=>by
   induction l with
   | nil=>exact fun ø=>rfl
   | cons a r ih=>
    intro hl
    rw [List.filterMap_cons,List.filterMap_cons,hg a (hl a (.head _)),ih fun j hj=>hl j (.tail _ hj)]
  exact this _ fun j hj=>Nat.le_of_lt_succ (List.mem_range.mp hj)
 refine ⟨((List.range (mask+1)).filterMap fun j=>(ixO L j 0).map ((j,·):Nat->Nat×Nat)).map (·.1),((List.range (mask+1)).filterMap fun j=>(ixO L j 0).map ((j,·):Nat->Nat×Nat)).map (·.2), ?_, ?_⟩
 ·unfold laid
  rw [lc,← lv]; rfl
 ·have mm:∀p:Nat×Nat,p∈((List.range (mask+1)).filterMap fun j=>(ixO L j 0).map ((j,·):Nat->Nat×Nat))↔p.1<=mask/\ixO L p.1 0=some p.2:=fun p=>by
   rw [List.mem_filterMap]
   constructor
   ·rintro ⟨j,hj,e⟩
    obtain ⟨x,ex,e⟩:=Option.map_eq_some_iff.mp e
    cases e
    exact ⟨Nat.le_of_lt_succ (List.mem_range.mp hj),ex⟩
   ·rintro ⟨h1,h2⟩
    exact ⟨p.1,List.mem_range.mpr (Nat.lt_succ_of_le h1),by rw [h2]; rfl⟩
  have pw:((List.range (mask+1)).filterMap fun j=>(ixO L j 0).map ((j,·):Nat->Nat×Nat)).Pairwise fun p q=>p.1 < q.1:=by
   refine List.Pairwise.filterMap (R:=(· < ·)) _ (fun a b ab p hp q hq=>?_) List.pairwise_lt_range
   obtain ⟨x,ex,e⟩:=Option.map_eq_some_iff.mp hp
   obtain ⟨y,ey,e'⟩:=Option.map_eq_some_iff.mp hq
   cases e; cases e'; exact ab
  refine ⟨List.pairwise_map.mpr pw,fun a ha=>?_,fun a=>?_, ?_, ?_⟩
  ·obtain ⟨p,hp,e⟩:=List.mem_map.mp ha
   exact e▸((mm p).mp hp).1
  ·constructor
   ·intro ha
    obtain ⟨p,hp,e⟩:=List.mem_map.mp ha
    have:=(Zbu ((mm p).mp hp).2).2
    rw [e] at this
    exact List.mem_of_getElem? this
   ·intro ha
    obtain ⟨n,hn,e⟩:=h.lt _ ha
    obtain ⟨x,ex⟩:=Zgj (k:=0) ha
    exact List.mem_map.mpr ⟨(a,x),(mm (a,x)).mpr ⟨show a<=mask by exact lc3 (lb7 e) (li7 hn hm rfl),ex⟩,rfl⟩
  ·refine (List.perm_ext_iff_of_nodup ?_ List.nodup_range).mpr fun x=>?_
   ·refine List.pairwise_map.mpr (pw.imp_of_mem fun {p q} hp hq lt z=>?_)
    have a:=(Zbu ((mm p).mp hp).2).2
    have b:=(Zbu ((mm q).mp hq).2).2
    rw [z,b] at a
    have:=Int.ofNat.inj (Option.some.inj a)
    exact Nat.ne_of_lt lt this.symm
   ·rw [List.mem_map,List.mem_range]
    constructor
    ·rintro ⟨p,hp,e⟩
     have:=(Zbu ((mm p).mp hp).2).2
     rw [Nat.sub_zero,e] at this
     exact (List.getElem?_eq_some_iff.mp this).1
    ·intro hx
     have gx:L[x]?=some L[x]:=List.getElem?_eq_getElem hx
     obtain ⟨n,hn,e⟩:=h.lt _ (List.getElem_mem hx)
     rw [e] at gx
     obtain ⟨y,ey⟩:=Zgj (k:=0) (List.mem_of_getElem? gx)
     have gy:=(Zbu ey).2
     rw [Nat.sub_zero] at gy
     have:y=x:=(List.getElem?_inj (List.getElem?_eq_some_iff.mp gy).1 h.nd).mp (gy.trans gx.symm)
     exact ⟨(n,y),(mm (n,y)).mpr ⟨show n<=mask by exact li7 hn hm rfl,ey⟩,this⟩
  ·rw [List.filterMap_map,List.map_map]
   have:∀l:List (Nat×Nat),(∀p∈l,L[p.2]?=some (p.1:Int))->l.filterMap ((L[·]?) ∘ (·.2))=l.map ((fun (a:Nat)=>(a:Int)) ∘ (·.1)):=fun l=>by
    induction l with
    | nil=>exact fun ø=>rfl
    | cons a r ih=>
     intro hl
     have ea:((L[·]?) ∘ (·.2)) a=some (a.1:Int):=hl a (.head _)
     rw [List.filterMap_cons,ea,ih fun p hp=>hl p (.tail _ hp)]; rfl
   exact this _ fun p hp=>by have:=(Zbu ((mm p).mp hp).2).2; rwa [Nat.sub_zero] at this
structure Gp (led:Bool)(p:List Int×SetTable)(P:List Nat):Prop where
 tg:Tg led p.2 P
 ln:P.length=p.1.length
 sm:Sm p.1
 big:p.2.mask=7\/(15<=p.2.mask/\∀a:Nat,a∈P↔(a:Int)∈p.1)
section
variable {led:Bool}{p:List Int×SetTable}{P:List Nat}
theorem Gp.fill (g:Gp led p P):p.2.fill=P.length:=by
 unfold SetTable.fill
 rw [g.tg.pl,g.tg.du]; rfl
theorem Gp.free {n:Nat}(g:Gp led p P)(hn:n < 9)(hl:P.length<=4\/15<=p.2.mask)(h:(n:Int)∉p.1):∃j,p.2.freeSlot (n:Int)=some (j,false)/\j∉P/\j<=p.2.mask/\(15<=p.2.mask->j=n):=by
 by_cases c:15<=p.2.mask
 ·have b:=(g.big.resolve_left (by exact fun zz=>lc4 c (Nat.lt_succ_of_le (lc3 zz (Nat.le_of_ble_eq_true rfl))))).2
  have np:n∉P:=fun z=>h ((b n).mp z)
  exact ⟨n,Zk2 g.tg hn (by exact li7 hn c rfl) np,np,by exact li7 hn c rfl,fun ø=>rfl⟩
 ·have h7:=g.big.resolve_right fun z=>c z.1
  have hl:=hl.resolve_right c
  obtain ⟨j,e,h1,h2⟩:=free7 g.tg h7 (by exact lc6 hl rfl) hn
  exact ⟨j,e,h1,by exact lc2 h2 h7.symm,fun z=>absurd z c⟩
structure New (led:Bool)(p:List Int×SetTable)(n:Nat)(q:List Int×SetTable)(P:List Nat):Prop where
 g:Gp led q P
 mem:∀x,x∈q.1↔x=(n:Int)\/x∈p.1
 len:q.1.length=p.1.length+1
theorem ZgX {n:Nat}(g:Gp led p P)(hn:n < 9)(hl:P.length<=4\/15<=p.2.mask)(hf:P.length+1<=p.2.mask)(h:(n:Int)∉p.1):(layT p.1 p.2 (n:Int)).2.2=false/\(layT p.1 p.2 (n:Int)).2.1.mask=p.2.mask/\∃Q,New led p n ((layT p.1 p.2 (n:Int)).1,(layT p.1 p.2 (n:Int)).2.1) Q:=by
 obtain ⟨j,e,h1,h2,h3⟩:=g.free hn hl h
 obtain ⟨A,B,eP,e2,e1,tg⟩:=ZmW g.tg h1 h2
 have lA:A.length<=p.1.length:=by rw [← g.ln,eP,List.length_append]; exact Nat.le_add_right ..
 have sz:(A++j::B).length=p.1.length+1:=by rw [← g.ln,eP,List.length_append,List.length_append,List.length_cons]; rfl
 have ft:(p.2.put j).1.fits (p.1.length+1)=true:=by
  have:(p.2.put j).1.fill=p.1.length+1:=by unfold SetTable.fill; rw [tg.pl,tg.du,List.size_toArray,sz]; rfl
  unfold SetTable.fits
  rw [this,tg.pl,List.size_toArray,sz,beq_self_eq_true,Bool.true_and,decide_eq_true_iff,e1]
  show p.1.length+1<=p.2.mask
  rw [← g.ln]; exact hf
 have el:layT p.1 p.2 (n:Int)=(p.1.take A.length++(n:Int)::p.1.drop A.length,(p.2.put j).1,false):=by
  unfold layT
  rw [(hash9 n hn).1,e]
  show (p.1.take (p.2.put j).2++(n:Int)::p.1.drop (p.2.put j).2,(p.2.put j).1.orStandIn (p.1.length+1),false)=_
  rw [e2]
  unfold orStandIn
  rw [if_pos ft]
 rw [el]
 have mm:∀x,x∈p.1.take A.length++(n:Int)::p.1.drop A.length↔x=(n:Int)\/x∈p.1:=fun x=>by
  rw [List.mem_append,List.mem_cons]
  constructor
  ·rintro (z | z | z)
   ·exact .inr (List.mem_of_mem_take z)
   ·exact .inl z
   ·exact .inr (List.mem_of_mem_drop z)
  ·rintro (z | z)
   ·exact .inr (.inl z)
   ·rw [← List.take_append_drop A.length p.1] at z
    exact (List.mem_append.mp z).imp id .inr
 refine ⟨rfl,by rw [e1],A++j::B,⟨tg, ?_,⟨?_,fun i hi=>?_⟩, ?_⟩,mm, ?_⟩
 ·rw [sz,List.length_append,List.length_cons,List.length_take,List.length_drop]; exact (ll1 lA).symm
 ·have nd:=g.sm.nd
  rw [← List.take_append_drop A.length p.1] at nd
  obtain ⟨n1,n2,n3⟩:=List.nodup_append.mp nd
  refine List.nodup_append.mpr ⟨n1,List.nodup_cons.mpr ⟨fun z=>h (List.mem_of_mem_drop z),n2⟩,fun a ha b hb z=>?_⟩
  rcases List.mem_cons.mp hb with y | y
  ·exact h (y▸z▸List.mem_of_mem_take ha)
  ·exact n3 a ha b y z
 ·rcases (mm i).mp hi with z | z
  ·exact ⟨n,hn,z⟩
  ·exact g.sm.lt i z
 ·show (p.2.put j).1.mask=7\/(15<=(p.2.put j).1.mask/\_)
  rw [e1]
  rcases g.big with b | b
  ·exact .inl b
  ·refine .inr ⟨b.1,fun a=>?_⟩
   rw [mm,← b.2 a,h3 b.1,eP,List.mem_append,List.mem_cons,List.mem_append]
   constructor
   ·rintro (z | z | z)
    ·exact .inr (.inl z)
    ·exact .inl (by rw [z])
    ·exact .inr (.inr z)
   ·rintro (z | z | z)
    ·exact .inr (.inl (Int.ofNat.inj z))
    ·exact .inl z
    ·exact .inr (.inr z)
 ·rw [List.length_append,List.length_cons,List.length_take,List.length_drop]; exact ll1 lA
theorem ZkD {i:Int}(h:i∈p.1):addT p i=p:=if_pos h
theorem ZeE {n:Nat}(g:Gp led p P)(hn:n < 9)(hf:(P.length+1) * 5 < p.2.mask * 3)(h:(n:Int)∉p.1):(addT p (n:Int)).2.mask=p.2.mask/\∃Q,New led p n (addT p (n:Int)) Q:=by
 have hl:P.length<=4\/15<=p.2.mask:=g.big.elim (fun b=>.inl (ll2 (b▸hf))) fun b=>.inr b.1
 obtain ⟨e1,e2,Q,N⟩:=ZgX g hn hl (ll3 hf) h
 have tf:(layT p.1 p.2 (n:Int)).2.1.tooFull=false:=by
  unfold SetTable.tooFull
  rw [N.g.fill,e2,N.g.ln,N.len,← g.ln]
  exact decide_eq_false (by exact fun zz=>lc4 zz hf)
 have ea:addT p (n:Int)=((layT p.1 p.2 (n:Int)).1,(layT p.1 p.2 (n:Int)).2.1):=by
  unfold addT
  rw [if_neg h,e1,tf]; rfl
 rw [ea]
 exact ⟨e2,Q,N⟩
end
section
variable {led:Bool}{p:List Int×SetTable}{P:List Nat}
structure Rl (led:Bool)(L:List Int)(mask:Nat)(q:List Int×SetTable)(S:List Nat):Prop where
 g:Gp led q S
 mem:∀x,x∈q.1↔x∈L
 len:q.1.length=L.length
 mk':q.2.mask=mask
theorem Zf3 {L:List Int}{mask:Nat}{S O:List Nat}(h:Sm L)(hm:15<=mask)(l:Laid L mask S O)(f m:Nat):Rl led L mask (S.map fun (a:Nat)=>(a:Int),⟨mask,S.toArray,#[],f,led,m,true⟩) S/\(O.toArray.toList.filterMap fun k=>L[k]?)=S.map (fun (a:Nat)=>(a:Int))/\S.length=L.length/\coversAll O.toArray L.length=true:=by
 have ln:S.length=L.length:=by
  have e:=l.ev
  have e1:(O.filterMap (L[·]?)).length=O.length:=by
   have:∀l:List Nat,(∀x∈l,x < L.length)->(l.filterMap (L[·]?)).length=l.length:=fun l=>by
    induction l with
    | nil=>exact fun ø=>rfl
    | cons a r ih=>
     intro hl
     rw [List.filterMap_cons,List.getElem?_eq_getElem (hl a (.head _))]
     exact congrArg (·+1) (ih fun x hx=>hl x (.tail _ hx))
   exact this O fun x hx=>List.mem_range.mp (l.pm.mem_iff.mp hx)
  rw [e,List.length_map] at e1
  rw [e1,l.pm.length_eq,List.length_range]
 have mm:∀x:Int,x∈S.map (fun (a:Nat)=>(a:Int))↔x∈L:=fun x=>by
  rw [List.mem_map]
  constructor
  ·rintro ⟨a,ha,e⟩; exact e▸(l.mem a).mp ha
  ·intro hx
   obtain ⟨n,hn,e⟩:=h.lt x hx
   exact ⟨n,(l.mem n).mpr (e▸hx),e.symm⟩
 refine ⟨⟨⟨⟨rfl,l.up,l.mx,rfl,rfl,rfl⟩,(List.length_map ..).symm,⟨?_,fun i hi=>h.lt i ((mm i).mp hi)⟩,.inr ⟨hm,fun a=>?_⟩⟩,mm,by rw [List.length_map]; exact ln,rfl⟩,l.ev,ln,List.isPerm_iff.mpr l.pm⟩
 ·exact List.pairwise_map.mpr (l.up.imp fun h z=>absurd (Int.ofNat.inj z) (Nat.ne_of_lt h))
 ·rw [mm,l.mem]
theorem ZmQ {L:List Int}{mask f m:Nat}(h:Sm L)(hm:15<=mask)(hs:L.length<=mask):∃q S,reoT L (laid mask f m led true (L.map hashInt).toArray)=some q/\Rl led L mask q S:=by
 obtain ⟨S,O,e,l⟩:=Zhj hm h f m led true
 obtain ⟨g,e2,ln,cv⟩:=Zf3 (led:=led) h hm l f m
 refine ⟨_,S, ?_,g⟩
 rw [e]
 show (if (((O.toArray.toList.filterMap fun k=>L[k]?).length==L.length&&(⟨mask,S.toArray,#[],f,led,m,true⟩:SetTable).fits L.length)=true) then some (O.toArray.toList.filterMap fun k=>L[k]?,_) else none)=_
 rw [e2,List.length_map,ln,beq_self_eq_true,Bool.true_and]
 have:(⟨mask,S.toArray,#[],f,led,m,true⟩:SetTable).fits L.length=true:=by
  unfold SetTable.fits SetTable.fill
  show (S.length==L.length&&decide (S.length+0<=mask))=true
  rw [ln,beq_self_eq_true,Bool.true_and]; exact decide_eq_true hs
 rw [if_pos this]
theorem ZlC {t:SetTable}{L:List Int}{n mask:Nat}(h:Sm L)(hp:t.plain=true)(hl:t.led=led)(em:sizeAbove n - 1=mask)(hm:15<=mask)(hs:L.length<=mask):∃S,Rl led L mask (relT L t n) S:=by
 obtain ⟨S,O,e,l⟩:=Zhj hm h t.finger (t.movedTo mask) led true
 obtain ⟨g,e2,ln,cv⟩:=Zf3 (led:=led) h hm l t.finger (t.movedTo mask)
 refine ⟨S, ?_⟩
 have er:relT L t n=(S.map (fun (a:Nat)=>(a:Int)),⟨mask,S.toArray,#[],t.finger,led,t.movedTo mask,true⟩):=by
  unfold relT SetTable.relaid
  rw [em,hp,hl,e]
  show (if (coversAll O.toArray L.length&&(⟨mask,S.toArray,#[],t.finger,led,t.movedTo mask,true⟩:SetTable).fits (O.toArray.toList.filterMap fun k=>L[k]?).length)=true then (O.toArray.toList.filterMap fun k=>L[k]?,_) else _)=_
  rw [e2,cv,List.length_map,Bool.true_and]
  have:(⟨mask,S.toArray,#[],t.finger,led,t.movedTo mask,true⟩:SetTable).fits S.length=true:=by
   unfold SetTable.fits SetTable.fill
   show (S.length==S.length&&decide (S.length+0<=mask))=true
   rw [beq_self_eq_true,Bool.true_and]; exact decide_eq_true (by exact lc3 ln hs)
  rw [if_pos this]
 rw [er]; exact g
theorem ZiC {n:Nat}(g:Gp led p P)(hn:n < 9)(h7:p.2.mask=7)(h4:P.length=4)(h:(n:Int)∉p.1):(addT p (n:Int)).2.mask=31/\∃Q,New led p n (addT p (n:Int)) Q:=by
 obtain ⟨e1,e2,Q,N⟩:=ZgX g hn (.inl (by exact lc3 h4 (Nat.le_of_ble_eq_true rfl))) (by lia) h
 have l5:(layT p.1 p.2 (n:Int)).1.length=5:=by rw [N.len,← g.ln,h4]
 have tf:(layT p.1 p.2 (n:Int)).2.1.tooFull=true:=by
  unfold SetTable.tooFull
  rw [N.g.fill,e2,N.g.ln,l5,h7]; rfl
 have ea:addT p (n:Int)=relT (layT p.1 p.2 (n:Int)).1 (layT p.1 p.2 (n:Int)).2.1 20:=by
  unfold addT
  rw [if_neg h,e1,tf,l5]; rfl
 obtain ⟨S,R⟩:=ZlC (n:=20) (mask:=31) N.g.sm N.g.tg.pn N.g.tg.ld rfl (by decide) (show (layT p.1 p.2 (n:Int)).1.length<=31 by exact lc3 l5 (Nat.le_of_ble_eq_true rfl))
 rw [ea]
 exact ⟨R.mk',S,R.g,fun x=>(R.mem x).trans (N.mem x),R.len.trans N.len⟩
structure Tl (led:Bool)(l:List Int)(q:List Int×SetTable)(P:List Nat):Prop where
 g:Gp led q P
 mem:∀x,x∈q.1↔x∈l
 len:q.1.length=l.length
 mk7:q.1.length<=4->q.2.mask=7
 mk31:5<=q.1.length->q.2.mask=31
theorem ZnX:∀(r l:List Int) (q:List Int×SetTable) (P:List Nat),Tl led l q P->(l++r).Nodup->(∀i∈r,∃n:Nat,n < 9/\i=n)->(l++r).length<=9->∃Q,Tl led (l++r) (r.foldl addT q) Q:=by
 intro zz0
 induction zz0 with
 | nil=>
  intro l q P T nd lt le
  exact ⟨P,by rw [List.append_nil]; exact T⟩
 | cons i r ih=>
  intro l q P T nd lt le
  obtain ⟨n,hn,e⟩:=lt i (.head _)
  subst e
  have ni:(n:Int)∉q.1:=fun z=>(List.nodup_append.mp nd).2.2 _ ((T.mem _).mp z) _ (.head _) rfl
  have lq:q.1.length<=8:=by rw [T.len]; rw [List.length_append,List.length_cons] at le; exact Nat.le_of_lt_succ (la1 le)
  have gl:=T.g.ln
  have st:∃Q,Tl led (l++[(n:Int)]) (addT q (n:Int)) Q:=by
   have mm:∀{Q},New led q n (addT q (n:Int)) Q->∀x,x∈(addT q (n:Int)).1↔x∈l++[(n:Int)]:=fun N x=>by
    rw [N.mem,T.mem,List.mem_append,List.mem_singleton,or_comm]
   have ll:∀{Q},New led q n (addT q (n:Int)) Q->(addT q (n:Int)).1.length=(l++[(n:Int)]).length:=fun N=>by
    rw [N.len,T.len,List.length_append]; rfl
   by_cases c4:q.1.length=4
   ·obtain ⟨e1,Q,N⟩:=ZiC T.g hn (T.mk7 (by exact lc3 c4 (Nat.le_of_ble_eq_true rfl))) (by exact Nat.le_antisymm (lc3 gl (lc3 c4 (Nat.le_of_ble_eq_true rfl))) (lc3 c4.symm (Nat.le_of_eq gl.symm))) ni
    exact ⟨Q,N.g,mm N,ll N,fun z=>by rw [N.len] at z; lia,fun ø=>e1⟩
   ·by_cases c:q.1.length<=4
    ·obtain ⟨e1,Q,N⟩:=ZeE T.g hn (by rw [T.mk7 c]; lia) ni
     exact ⟨Q,N.g,mm N,ll N,fun ø=>e1.trans (T.mk7 c),fun z=>by rw [N.len] at z; lia⟩
    ·obtain ⟨e1,Q,N⟩:=ZeE T.g hn (by rw [T.mk31 (by lia)]; lia) ni
     exact ⟨Q,N.g,mm N,ll N,fun z=>by rw [N.len] at z; lia,fun ø=>e1.trans (T.mk31 (by lia))⟩
  obtain ⟨Q,T'⟩:=st
  have:=ih (l++[(n:Int)]) (addT q (n:Int)) Q T' (by rw [← List.append_cons]; exact nd) (fun x hx=>lt x (.tail _ hx)) (by rw [← List.append_cons]; exact le)
  rw [← List.append_cons] at this
  exact this
theorem Zin {l:List Int}(h:Sm l)(hl:l.length<=9):∃P,Tl led l (l.foldl addT ([],.fresh 0 0 led)) P:=by
 have T0:Tl led [] ([],.fresh 0 0 led) []:=⟨⟨⟨rfl,.nil,fun ø h=>(nomatch h),rfl,rfl,rfl⟩,rfl,⟨.nil,fun ø h=>(nomatch h)⟩,.inl rfl⟩,fun ø=>Iff.rfl,rfl,fun ø=>rfl,fun h=>(nomatch h)⟩
 exact ZnX l [] _ [] T0 h.nd h.lt hl
end
section
variable {led:Bool}
structure Cg (led:Bool)(l:List Int)(q:List Int×SetTable)(P:List Nat):Prop where
 g:Gp led q P
 mem:∀x,x∈q.1↔x∈l
 len:q.1.length=l.length
theorem sizes:∀n:Nat,5<=n->n<=18->(15<=sizeAbove (n * 2) - 1/\n * 5 < (sizeAbove (n * 2) - 1) * 3/\sizeAbove (n * 2)<=64):=by
 have:∀n:Fin 19,5<=n.1->(15<=sizeAbove (n.1 * 2) - 1/\n.1 * 5 < (sizeAbove (n.1 * 2) - 1) * 3/\sizeAbove (n.1 * 2)<=64):=by decide
 exact fun n h1 h2=>this ⟨n,by exact lc6 h2 rfl⟩ h1
theorem ZeW {l:List Int}{q:List Int×SetTable}{P:List Nat}{k:Nat}(c:Cg led l q P)(h1:q.1.length+k<=18)(h5:5<=q.1.length+k\/q.2.mask=7)(hm:q.2.mask<=31):∃r Q,roomT q k=some r/\Cg led l r Q/\(Q.length+k) * 5 < r.2.mask * 3/\(r.2.mask=q.2.mask\/r.2.mask=sizeAbove ((q.1.length+k) * 2) - 1):=by
 unfold roomT SetTable.roomFor
 rw [c.g.fill]
 by_cases d:(P.length+k) * 5≥q.2.mask * 3
 ·rw [if_pos d]
  have sz:q.2.place.size=P.length:=by rw [c.g.tg.pl]; rfl
  have h5':5<=P.length+k:=by
   rcases h5 with z | z
   ·rw [c.g.ln]; exact z
   ·rw [z] at d; exact Nat.lt_of_not_le fun q=>absurd (Nat.le_trans d (Nat.mul_le_mul_right 5 q)) (by decide)
  obtain ⟨s1,s2,s3⟩:=sizes (P.length+k) h5' (by rw [c.g.ln]; exact h1)
  show ∃r Q,(if sizeAbove ((q.2.place.size+k) * 2)<=sizeLine then reoT q.1 (q.2.relaid (q.1.map hashInt).toArray ((q.2.place.size+k) * 2)) else none)=some r/\_
  rw [sz,if_pos (Nat.le_trans s3 (by decide))]
  unfold SetTable.relaid
  rw [c.g.tg.ld,c.g.tg.pn]
  have lq:=c.g.ln
  obtain ⟨r,S,e,R⟩:=ZmQ (led:=led) (f:=q.2.finger) (m:=q.2.movedTo (sizeAbove ((P.length+k) * 2) - 1)) c.g.sm s1 (by lia)
  refine ⟨r,S,e,⟨R.g,fun x=>(R.mem x).trans (c.mem x),R.len.trans c.len⟩, ?_⟩
  rw [R.mk',R.g.ln,R.len,← c.g.ln]; exact ⟨s2,.inr rfl⟩
 ·rw [if_neg d]
  exact ⟨q,P,rfl,c,by exact Nat.lt_of_not_le d,.inl rfl⟩
theorem Zii {l:List Int}{p:List Int×SetTable}{P:List Nat}(T:Tl led l p P)(h0:1<=l.length)(h9:l.length<=9):∃c Q,copyT led p=some c/\Cg led l c Q/\c.2.mask<=31/\(5<=c.1.length\/c.2.mask=7):=by
 have ne:p.1.isEmpty=false:=by
  cases e:p.1 with
  | nil=>have:=T.len; rw [e] at this; exact absurd this (by show ¬ 0=l.length; exact fun zz=>Nat.lt_irrefl _ (Nat.lt_succ_of_le (lc2 h0 this.symm)))
  | cons _ _=>rfl
 unfold copyT
 rw [ne]
 show ∃c Q,(match roomT ([],.fresh 0 0 led) p.1.length with | none=>none | some r=>_)=some c/\_
 by_cases c4:p.1.length<=4
 ·have e:roomT ([],.fresh 0 0 led) p.1.length=some ([],.fresh 0 0 led):=by
   have e0:(([]:List Int),SetTable.fresh 0 0 led).2.roomFor p.1.length=none:=if_neg (show ¬ (0+p.1.length) * 5≥21 from fun q=>absurd (Nat.le_trans q (Nat.mul_le_mul_right 5 (lf4 c4))) (by decide))
   unfold roomT
   rw [e0]
  rw [e]
  have er:(SetTable.fresh 0 0 led).road p.2=.slotForSlot:=by
   unfold SetTable.road
   rw [T.g.tg.du,T.mk7 c4]; rfl
  show ∃c Q,(match (SetTable.fresh 0 0 led).road p.2 with | .slotForSlot=>_ | .clean=>_ | .oneByOne=>_)=some c/\_
  rw [er]
  refine ⟨_,P,rfl,⟨⟨⟨T.g.tg.pl,T.g.tg.up,T.g.tg.mx,T.g.tg.du, ?_, ?_⟩,T.g.ln,T.g.sm,T.g.big⟩,T.mem,T.len⟩, ?_,.inr (T.mk7 c4)⟩
  ·show (led&&p.2.led)=led
   rw [T.g.tg.ld,Bool.and_self]
  ·show (true&&p.2.plain)=true
   rw [T.g.tg.pn]; rfl
  ·show p.2.mask<=31
   rw [T.mk7 c4]; decide
 ·have c5:5<=p.1.length:=lj7 (b:=0) c4
  have E:Cg led [] ([],.fresh 0 0 led) []:=⟨⟨⟨rfl,.nil,fun ø h=>(nomatch h),rfl,rfl,rfl⟩,rfl,⟨.nil,fun ø h=>(nomatch h)⟩,.inl rfl⟩,fun ø=>Iff.rfl,rfl⟩
  obtain ⟨r,Q,e,R,rm,rk⟩:=ZeW (k:=p.1.length) E (by show 0+_<=18; have:=T.len; exact la9 (lf4 (Nat.le_refl _)) (la7 (lc3 this h9) rfl)) (.inr rfl) (show 7<=31 by decide)
  rw [e]
  have rf:r.2.fill=0:=by rw [R.g.fill,R.g.ln,R.len]; rfl
  have rl:r.2.led=led:=R.g.tg.ld
  have rp:r.2.plain=true:=R.g.tg.pn
  have rmk:15<=r.2.mask:=by
   rcases R.g.big with b | b
   ·rw [b] at rm; lia
   ·exact b.1
  have s9:∀n:Fin 10,sizeAbove ((0+n.1) * 2) - 1<=31:=by decide
  have rm31:r.2.mask<=31:=by
   rcases rk with z | z
   ·rw [z]; exact (by decide:7<=31)
   ·rw [z]; exact s9 ⟨p.1.length,by have:=T.len; exact lc6 (lc3 this h9) rfl⟩
  show ∃c Q,(match r.2.road p.2 with | .slotForSlot=>_ | .clean=>_ | .oneByOne=>_)=some c/\_
  unfold SetTable.road
  rw [rf]
  show ∃c Q,(match (if (r.2.mask==p.2.mask&&p.2.dummies.isEmpty)=true then Road.slotForSlot else Road.clean) with | .slotForSlot=>_ | .clean=>_ | .oneByOne=>_)=some c/\_
  rw [T.g.tg.du]
  by_cases cm:(r.2.mask==p.2.mask&&(#[]:Array Nat).isEmpty)=true
  ·rw [if_pos cm]
   refine ⟨_,P,rfl,⟨⟨⟨T.g.tg.pl,T.g.tg.up,T.g.tg.mx,T.g.tg.du, ?_, ?_⟩,T.g.ln,T.g.sm,T.g.big⟩,T.mem,T.len⟩, ?_,.inl c5⟩
   ·show (r.2.led&&p.2.led)=led
    rw [rl,T.g.tg.ld,Bool.and_self]
   ·show (r.2.plain&&p.2.plain)=true
    rw [rp,T.g.tg.pn]; rfl
   ·show p.2.mask<=31
    rw [T.mk31 c5]; exact Nat.le_refl _
  ·rw [if_neg cm]
   obtain ⟨q,S,e,R'⟩:=ZmQ (led:=led) (f:=r.2.finger) (m:=r.2.moves) T.g.sm rmk (by have:=T.len; exact Nat.le_trans (lc3 this h9) (li7 (Nat.lt_succ_self _) rmk rfl))
   refine ⟨q,S, ?_,⟨R'.g,fun x=>(R'.mem x).trans (T.mem x),R'.len.trans T.len⟩,by rw [R'.mk']; exact rm31,.inl (by rw [R'.len]; exact c5)⟩
   show reoT p.1 (laid r.2.mask r.2.finger r.2.moves (r.2.led&&p.2.led) (r.2.plain&&p.2.plain) (p.1.map hashInt).toArray)=some q
   rw [rl,rp,T.g.tg.ld,T.g.tg.pn,Bool.and_self]; exact e
end
section
variable {led:Bool}
theorem Zkp {mask:Nat}:∀(ms:List Int) (p:List Int×SetTable) (P:List Nat),Gp led p P->p.2.mask=mask->(∀i∈ms,∃n:Nat,n < 9/\i=n)->(P.length+ms.length) * 5 < mask * 3->∃Q,Gp led (ms.foldl addT p) Q:=by
 intro zz0
 induction zz0 with
 | nil=>
  intro p P g hm lt hf
  exact ⟨P,g⟩
 | cons i r ih=>
  intro p P g hm lt hf
  obtain ⟨n,hn,e⟩:=lt i (.head _)
  subst e
  rw [List.length_cons] at hf
  by_cases c:(n:Int)∈p.1
  ·rw [List.foldl_cons,ZkD c]
   exact ih p P g hm (fun x hx=>lt x (.tail _ hx)) (li9 (c:=0) hf)
  ·obtain ⟨e1,Q,N⟩:=ZeE g hn (by rw [hm]; exact lj1 hf) c
   have lq:Q.length=P.length+1:=by rw [N.g.ln,N.len,← g.ln]
   exact ih _ Q N.g (e1.trans hm) (fun x hx=>lt x (.tail _ hx)) (by rw [lq]; exact lj2 hf)
theorem Zig {p:List Int×SetTable}{P:List Nat}(g:Gp true p P):walkT p.2=true:=by
 unfold walkT
 rw [g.tg.pn,g.tg.ld,Bool.true_and,Bool.true_and,List.all_eq_true]
 intro k hk
 rw [List.mem_range,g.tg.pl,List.size_toArray] at hk
 rw [beq_iff_eq,g.tg.pl]
 cases k with
 | zero=>exact ZaY (A:=[]) (B:=P) (fun ø h=>(nomatch h)) fun b ø=>Nat.zero_le b
 | succ i=>
  have hi:i < P.length:=by exact la1 (Nat.le_of_lt_succ hk)
  have es:stp true p.2 (i+1)=P[i]+1:=by
   show (if true=true then p.2.place.getD i 0+1 else 0)=_
   rw [if_pos rfl,g.tg.pl,Array.getD_eq_getD_getElem?,List.getElem?_toArray,List.getElem?_eq_getElem hi]; rfl
  rw [es]
  have up:=g.tg.up
  have b:=ZaY (A:=P.take (i+1)) (B:=P.drop (i+1)) (j:=P[i]+1) (fun a ha=>?_) fun b hb=>?_
  ·rw [List.take_append_drop,List.length_take,Nat.min_eq_left (by exact hi)] at b; exact b
  ·obtain ⟨m,hm,e⟩:=List.getElem_of_mem ha
   rw [List.length_take] at hm
   rw [List.getElem_take] at e
   rw [← e]
   by_cases c:m=i
   ·subst c; exact Nat.lt_succ_self _
   ·exact Nat.lt_succ_of_lt (List.pairwise_iff_getElem.mp up m i (by exact lj3 hm) hi (by exact lj4 hm c))
  ·obtain ⟨m,hm,e⟩:=List.getElem_of_mem hb
   rw [List.length_drop] at hm
   rw [List.getElem_drop] at e
   rw [← e]
   exact List.pairwise_iff_getElem.mp up i (i+1+m) hi (by exact lj5 hm) (by exact la1 (Nat.le_add_right _ _))
theorem Zgm {a b:List Int}(h:∀x,x∈a↔x∈b):mkSet a=mkSet b:=Zdb ((ZbO a).imp Int.le_of_lt) ((ZbO a).imp Int.ne_of_lt) fun i=>ZaH.trans (h i)
theorem ZgP {l m:List Int}(hl:Sm l)(hm:Sm m)(l1:1<=l.length)(m1:1<=m.length)(l9:l.length<=9)(m9:m.length<=9):uniB led l m=true:=by
 obtain ⟨Pl,Tl⟩:=Zin (led:=led) hl l9
 obtain ⟨Pm,Tm⟩:=Zin (led:=led) hm m9
 obtain ⟨c,Pc,ec,C,cm,c5⟩:=Zii Tl l1 l9
 have tl:=Tl.len
 have tm:=Tm.len
 have cl:=C.len
 obtain ⟨r,Q,er,R,rf,_⟩:=ZeW (k:=(m.foldl addT ([],.fresh 0 0 led)).1.length) C (by rw [cl,tm]; exact Nat.add_le_add l9 m9) (c5.imp (fun z=>by exact Nat.le_trans z (Nat.le_add_right _ _)) id) cm
 have rl:=R.len
 have ql:=R.g.ln
 obtain ⟨W,gw⟩:=Zkp (led:=led) (m.foldl addT ([],.fresh 0 0 led)).1 r Q R.g rfl Tm.g.sm.lt (by exact rf)
 unfold uniB
 rw [ec]
 show (match roomT c (m.foldl addT ([],.fresh 0 0 led)).1.length with | none=>false | some r=>_)=true
 rw [er]
 have e1:((m.foldl addT ([],.fresh 0 0 led)).2.led==led)=true:=by rw [Tm.g.tg.ld]; exact beq_self_eq_true _
 have e2:(m.foldl addT ([],.fresh 0 0 led)).1.isEmpty=false:=by
  cases e:(m.foldl addT ([],.fresh 0 0 led)).1 with
  | nil=>rw [e] at tm; exact absurd tm (by show ¬ 0=m.length; exact fun zz=>Nat.lt_irrefl _ (Nat.lt_succ_of_le (lc2 m1 tm.symm)))
  | cons _ _=>rfl
 have e3:(r.2.fill != 0)=true:=by rw [R.g.fill,ql,rl,bne_iff_ne]; exact Nat.ne_of_gt l1
 have e4:mkSet (r.1++(m.foldl addT ([],.fresh 0 0 led)).1)=mkSet (l++m):=Zgm fun x=>by rw [List.mem_append,List.mem_append,R.mem,Tm.mem]
 have e5:(!led || walkT ((m.foldl addT ([],.fresh 0 0 led)).1.foldl addT r).2)=true:=by
  cases led with
  | false=>rfl
  | true=>exact Zig gw
 have bl:∀{a:Nat},a < 64->Nat.blt a 64=true:=fun h=>Nat.ble_eq_true_of_le h
 show ((m.foldl addT ([],.fresh 0 0 led)).2.led==led&&(m.foldl addT ([],.fresh 0 0 led)).2.plain&&!(m.foldl addT ([],.fresh 0 0 led)).1.isEmpty&&r.2.fill != 0&&Nat.blt (l.foldl addT ([],.fresh 0 0 led)).1.length 64&&Nat.blt c.1.length 64&&Nat.blt (r.1.length+(m.foldl addT ([],.fresh 0 0 led)).1.length) 64&&Nat.blt l.length 64&&Nat.blt m.length 64&&decide r.1.Nodup&&mkSet (r.1++(m.foldl addT ([],.fresh 0 0 led)).1)==mkSet (l++m)&&(!led || walkT ((m.foldl addT ([],.fresh 0 0 led)).1.foldl addT r).2))=true
 rw [e1,Tm.g.tg.pn,e2,e3,bl (by exact lc6 (lc3 tl l9) rfl),bl (by exact lc6 (lc3 cl l9) rfl),bl (by rw [rl,tm]; exact lc6 (Nat.add_le_add l9 m9) rfl),bl (by exact lc6 l9 rfl),bl (by exact lc6 m9 rfl),decide_eq_true R.g.sm.nd,e4,beq_self_eq_true,e5]; rfl
end
theorem Zko {l m:List Int}(hl:Sm l)(hm:Sm m)(l1:1<=l.length)(m1:1<=m.length)(l9:l.length<=9)(m9:m.length<=9):uniK l m=true:=by
 unfold uniK
 rw [ZgP hl hm l1 m1 l9 m9,ZgP hl hm l1 m1 l9 m9]; rfl
end Mine
end
section
namespace Mine
open PySem (Str)
noncomputable def wgt:Cont->Nat
 | .wish _=>109
 | .hold _ _=>11
 | .have_ _=>10
 | .take _=>1
 | .prep _=>101
 | .prom _ _ _=>100
 | .acc _=>11
 | .agr _=>10
 | .ent _=>1
noncomputable def wsum:List Letter->Nat
 | []=>0
 | L::r=>wgt L.c+wsum r
theorem ZaZ (a b:List Letter):wsum (a++b)=wsum a+wsum b:=by
 induction a with
 | nil=>exact (Nat.zero_add _).symm
 | cons L r ih=>show wgt L.c+wsum (r++b)=wgt L.c+wsum r+wsum b; rw [ih,Nat.add_assoc]
theorem ZaW {k pl:Int}{c:Cont}:∀ts:List Int,wsum (sendF k pl ts c)=ts.length * wgt c:=by
 intro zz0
 induction zz0 with
 | nil=>
  exact (Nat.zero_mul _).symm
 | cons t r ih=>
  show wgt c+wsum (sendF k pl r c)=(r.length+1) * wgt c
  rw [ih,Nat.add_mul,Nat.one_mul,Nat.add_comm]
theorem Zeo (c:Cont):1<=wgt c:=by cases c <;> exact Nat.le_of_ble_eq_true rfl
theorem Zfa:∀U:List Letter,U.length<=wsum U:=by
 intro zz0
 induction zz0 with
 | nil=>
  exact Nat.le_refl _
 | cons L r ih=>
  have:=ih
  have:=Zeo L.c
  show r.length+1<=wgt L.c+wsum r
  lia
theorem Znz {x:Int}{v:PR}:∀l:List (Int×PR),(prS l x v).length<=l.length+1:=by
 intro zz0
 induction zz0 with
 | nil=>
  exact Nat.le_refl _
 | cons p r ih=>
  show (cond (decide (p.1=x)) ((p.1,v)::r) (p::prS r x v)).length<=_
  cases decide (p.1=x) with
  | true=>exact Nat.le_succ _
  | false=>exact Nat.succ_le_succ (ih)
theorem ZeD {x:Int}{v:PR}:∀l:List (Int×PR),prG (prS l x v) x=some v:=by
 intro zz0
 induction zz0 with
 | nil=>
  show cond (decide (x=x)) _ _=_; rw [decide_eq_true rfl]; rfl
 | cons p r ih=>
  show prG (cond (decide (p.1=x)) ((p.1,v)::r) (p::prS r x v)) x=_
  cases c:decide (p.1=x) with
  | true=>show cond (decide (p.1=x)) _ _=_; rw [c]; rfl
  | false=>show cond (decide (p.1=x)) _ (prG (prS r x v) x)=_; rw [c]; exact ih
theorem ZjL {pr:List (Int×PR)}:∀(ms:List Int) (best:Option Acc) (rows:List (List Msg)),rows≠[]->(pfGo pr ms best rows).2≠[]:=by
 intro zz0
 induction zz0 with
 | nil=>
  intro best rows h
  exact h
 | cons i r ih=>
  intro best rows h
  unfold pfGo
  cases e:prG pr i with
  | none=>exact ih best rows h
  | some p=>exact ih _ _ fun z=>by cases List.append_eq_nil_iff.mp z with | intro a b=>cases b
theorem Zh9 {pr:List (Int×PR)}{s:Int}{p:PR}(hp:prG pr s=some p):∀(ms:List Int) (best:Option Acc) (rows:List (List Msg)),s∈ms->(pfGo pr ms best rows).2≠[]
 | i::r,best,rows,h=>by
  unfold pfGo
  by_cases c:s=i
  ·subst c
   rw [hp]
   exact ZjL r _ _ fun z=>by cases List.append_eq_nil_iff.mp z with | intro a b=>cases b
  ·have h:s∈r:=(List.mem_cons.mp h).elim (fun z=>absurd z c) id
   cases e:prG pr i with
   | none=>exact Zh9 hp r best rows h
   | some q=>exact Zh9 hp r _ _ h
theorem ZjJ {x:Int}:∀l:List Int,(agS l x).length<=l.length+1:=by
 intro zz0
 induction zz0 with
 | nil=>
  exact Nat.le_refl _
 | cons p r ih=>
  show (cond (decide (p=x)) (p::r) (p::agS r x)).length<=_
  cases decide (p=x) with
  | true=>exact Nat.le_succ _
  | false=>exact Nat.succ_le_succ (ih)
theorem ZhG {i y:Int}:∀l:List Int,y∈agS l i↔y=i\/y∈l:=by
 intro zz0
 induction zz0 with
 | nil=>
  show y∈[i]↔_; rw [List.mem_singleton]; exact ⟨.inl,fun z=>z.elim id fun z=>nomatch z⟩
 | cons p r ih=>
  show y∈cond (decide (p=i)) (p::r) (p::agS r i)↔_
  by_cases c:p=i
  ·rw [decide_eq_true c,c]
   show y∈i::r↔_
   rw [List.mem_cons]
   exact ⟨.inr,fun z=>z.elim .inl id⟩
  ·rw [decide_eq_false c]
   show y∈p::agS r i↔_
   rw [List.mem_cons,ih,List.mem_cons]
   constructor
   ·rintro (z | z | z)
    ·exact .inr (.inl z)
    ·exact .inl z
    ·exact .inr (.inr z)
   ·rintro (z | z | z)
    ·exact .inr (.inl z)
    ·exact .inl z
    ·exact .inr (.inr z)
theorem ZgK {i:Int}:∀l:List Int,l.Nodup->(agS l i).Nodup:=by
 intro zz0
 induction zz0 with
 | nil=>
  intro _
  exact List.pairwise_singleton ..
 | cons p r ih=>
  intro h
  have h:=List.nodup_cons.mp h
  show (cond (decide (p=i)) (p::r) (p::agS r i)).Nodup
  by_cases c:p=i
  ·rw [decide_eq_true c]; exact List.nodup_cons.mpr h
  ·rw [decide_eq_false c]
   exact List.nodup_cons.mpr ⟨fun z=>((ZhG r).mp z).elim c h.1,ih h.2⟩
structure K4 where
 M:Nat
 fi:List Int
 up:List Int
 w:List Int
 R:List Msg
 q:Nat
noncomputable def K4.en (k:K4):Nat:=k.fi.length / 2+1
noncomputable def K4.maj (k:K4):Prop:=k.en<=k.up.length
noncomputable def K4.bq (k:K4):Bal:=(1,k.q)
noncomputable def K4.v (k:K4):Val:=⟨k.w,k.R⟩
structure K4ok (k:K4):Prop where
 fi:Fi k.M k.fi
 w:Fi k.M k.w
 sub:∀i∈k.up,i∈k.fi
 nd:k.up.Nodup
 q:(k.q:Int)∈k.up
 h9:k.M<=9
 R:k.R.length<=100
structure Wt (k:K4)(l:List Int):Prop where
 sub:l.Sublist k.fi
 up:∀i∈l,i∈k.up
 len:l.length=k.en
structure Oq4 (k:K4)(o:Off):Prop where
 b:o.b=k.bq
 hs:o.hs=k.w
 pr:∀p∈o.prom,p.1∈k.up/\p.2=(k.R,none)
 pn:(o.prom.map (·.1)).Nodup
 val:∀v,o.val=some v->v=k.v/\k.maj
 vlt:o.val=none->o.prom.length < k.en
 ag:∀a∈o.agr,a∈k.up
 an:o.agr.Nodup
 alt:o.over=false->o.agr.length < k.en
 ov:o.over=true->o.val≠none
structure A0 (k:K4)(t:Nat)(x:Hd):Prop where
 mem:(t:Int)∈k.fi
 up:x.up=decide ((t:Int)∈k.up)
 pl:x.place=some 0
 ms:x.ms=k.fi
 row:x.row=k.R
 took:x.took=k.R.length
 gone:x.gone=[]
 hol:x.holds.length<=1000
 bal:(x.bal=(0, -1)/\x.still=false/\x.agd=none)\/(x.bal=k.bq/\x.still=true)
 agd:∀a,x.agd=some a->a=⟨k.bq,k.v⟩
 off:∀o,x.off=some o->t=k.q/\Oq4 k o
 offq:t=k.q->x.off≠none
structure Wn (k:K4)(t:Nat)(x:Hd):Prop where
 up:x.up=true
 pl:x.place=if (t:Int)∈k.w then some 1 else none
 ms:x.ms=if (t:Int)∈k.w then k.w else []
 row:x.row=[]
 took:x.took=0
 still:x.still=false
 gone:x.gone=if (t:Int)∈k.fi then [(0,k.fi,k.R)] else []
 hol:x.holds=[]
 off:x.off=none
 hi:(t:Int)∉k.fi->x.hi=1
 news:(t:Int)∈k.w->∃n,x.news=some n/\Wt k n.wit
 maj:k.maj
inductive H4 (k:K4)(t:Nat)(x:Hd):Prop
 | a (h:A0 k t x)
 | w (h:Wn k t x)
 | o (h:(t:Int)∉k.fi) (e:x=x00)
noncomputable def Vs (k:K4)(x:Hd):Prop:=∀o,x.off=some o->o.val=some k.v
noncomputable def Ov (x:Hd):Prop:=∀o,x.off=some o->o.over=true
noncomputable def C4 (k:K4)(X:Nat->Hd)(s t:Nat):Cont->Prop
 | .prep b=>b=k.bq/\s=k.q/\(t:Int)∈k.fi
 | .prom b row a=>b=k.bq/\row=k.R/\a=none/\(s:Int)∈k.up/\t=k.q
 | .acc a=>a=⟨k.bq,k.v⟩/\s=k.q/\(t:Int)∈k.fi/\k.maj/\Vs k (X k.q)
 | .agr b=>b=k.bq/\(s:Int)∈k.up/\t=k.q/\k.maj/\Vs k (X k.q)
 | .ent n=>n.no=1/\n.hs=k.w/\n.row=k.R/\Wt k n.wit/\k.maj/\Ov (X k.q)
 | _=>False
structure L4 (k:K4)(X:Nat->Hd)(L:Letter):Prop where
 ex:∃s t:Nat,L.from_=s/\L.to=t/\s < k.M/\t < k.M/\L.pl=0/\C4 k X s t L.c
noncomputable def isPrep (t:Nat)(L:Letter):Prop:=L.to=t/\∃b,L.c=.prep b
noncomputable def isProm (t:Nat)(L:Letter):Prop:=L.from_=t/\∃b r a,L.c=.prom b r a
noncomputable def isAcc (t:Nat)(L:Letter):Prop:=L.to=t/\∃a,L.c=.acc a
noncomputable def isAgr (t:Nat)(L:Letter):Prop:=L.from_=t/\∃b,L.c=.agr b
noncomputable def isEnt (t:Nat)(L:Letter):Prop:=L.to=t/\∃n,L.c=.ent n
structure Lv (k:K4)(U:List Letter)(X:Nat->Hd):Prop where
 st:∀t:Nat,(t:Int)∈k.up->A0 k t (X t)->(X t).still=true\/∃L∈U,isPrep t L
 pr:∀t:Nat,(t:Int)∈k.up->(X t).still=true->∀o,(X k.q).off=some o->o.val=none->(∃L∈U,isProm t L)\/(t:Int)∈o.prom.map (·.1)
 ag:∀t:Nat,(t:Int)∈k.up->∀o,(X k.q).off=some o->o.val≠none->o.over=false->(∃L∈U,isAcc t L)\/(∃L∈U,isAgr t L)\/(t:Int)∈o.agr
 en:Ov (X k.q)->∀t:Nat,t < k.M->(t:Int)∈k.up\/((t:Int)∉k.fi/\(t:Int)∈k.w)->Wn k t (X t)\/∃L∈U,isEnt t L
structure I4 (k:K4)(U:List Letter)(X:Nat->Hd):Prop where
 hd:∀t,t < k.M->H4 k t (X t)
 lt:∀L∈U,L4 k X L
 lv:Lv k U X
 wo:∀t,t < k.M->Wn k t (X t)->Ov (X k.q)
theorem ZjA {k:K4}{n:Nat}:enF k.fi n=decide (k.en<=n):=by
 unfold enF K4.en
 have:Int.fdiv (k.fi.length:Int) 2=((k.fi.length / 2:Nat):Int):=by rw [Int.fdiv_eq_ediv_of_nonneg _ (by decide)]; rfl
 rw [this]
 exact decide_eq_decide.mpr ⟨fun h=>ld3 h,fun h=>ld2 h⟩
theorem Zbw {a b:List Int}(h:a.Nodup)(s:∀x∈a,x∈b):a.length<=b.length:=h.length_le_of_subset fun ø hx=>s _ hx
theorem Zle {k:K4}{X:Nat->Hd}(h:K4ok k)(I:I4 k [] X)(n:¬ k.maj):∀t:Nat,t < k.M->(t:Int)∈k.up->A0 k t (X t)/\(X t).still=true:=fun t ht hu=>by
 have a:A0 k t (X t):=by
  cases I.hd t ht with
  | a h=>exact h
  | w h=>exact absurd h.maj n
  | o h' _=>exact absurd (h.sub _ hu) h'
 exact ⟨a,(I.lv.st t hu a).elim id fun ⟨_,z,_⟩=>nomatch z⟩
theorem Zkw {k:K4}{X:Nat->Hd}(h:K4ok k)(I:I4 k [] X)(mj:k.maj):∀t:Nat,t < k.M->(t:Int)∈k.up\/((t:Int)∉k.fi/\(t:Int)∈k.w)->Wn k t (X t):=fun t ht hu=>by
 have ov:Ov (X k.q):=fun o eo=>by
  have qM:k.q < k.M:=by have:=h.fi.lt _ (h.sub _ h.q); exact la4 this
  have oq:Oq4 k o:=by
   cases I.hd k.q qM with
   | a a=>exact (a.off o eo).2
   | w a=>rw [a.off] at eo; cases eo
   | o a e=>rw [e] at eo; cases eo
  cases ev:o.val with
  | none=>
   have sub:∀x∈k.up,x∈o.prom.map (·.1):=fun x hx=>by
    have lx:=h.fi.lt x (h.sub x hx)
    obtain ⟨u,rfl⟩:∃u:Nat,x=u:=⟨x.toNat,by exact la5 lx⟩
    have au:A0 k u (X u):=by
     cases I.hd u (by exact la4 lx) with
     | a a=>exact a
     | w a=>exact absurd ev (oq.ov (I.wo u (by exact la4 lx) a o eo))
     | o a _=>exact absurd (h.sub _ hx) a
    have su:=(I.lv.st u hx au).elim id fun ⟨_,z,_⟩=>nomatch z
    rcases I.lv.pr u hx su o eo ev with ⟨_,z,_⟩ | z
    ·exact nomatch z
    ·exact z
   have:=Zbw h.nd sub
   rw [List.length_map] at this
   exact absurd mj (lm4 this (oq.vlt ev))
  | some v=>
   cases eo':o.over with
   | true=>rfl
   | false=>
    have sub:∀x∈k.up,x∈o.agr:=fun x hx=>by
     have lx:=h.fi.lt x (h.sub x hx)
     obtain ⟨u,rfl⟩:∃u:Nat,x=u:=⟨x.toNat,by exact la5 lx⟩
     rcases I.lv.ag u hx o eo (by rw [ev]; exact Option.some_ne_none _) eo' with ⟨_,z,_⟩ | ⟨_,z,_⟩ | z
     ·exact nomatch z
     ·exact nomatch z
     ·exact z
    exact absurd mj (lm4 (Zbw h.nd sub) (oq.alt eo'))
 exact (I.lv.en ov t ht hu).elim id fun ⟨_,z,_⟩=>nomatch z
section
variable {k:K4}{X:Nat->Hd}{U:List Letter}{Lt:Letter}
theorem K4ok.qM (h:K4ok k):k.q < k.M:=by have:=h.fi.lt _ (h.sub _ h.q); exact la4 this
theorem ZaV {L:Letter}(h:L∈Lt::U)(n:L≠Lt):L∈U:=(List.mem_cons.mp h).elim (fun z=>absurd z n) id
theorem I4.drop (I:I4 k (Lt::U) X)
  (h1:∀t:Nat,isPrep t Lt->(t:Int)∈k.up->A0 k t (X t)->(X t).still=true)
  (h2:∀t:Nat,isProm t Lt->∀o,(X k.q).off=some o->o.val=none->(t:Int)∈o.prom.map (·.1))
  (h3:∀t:Nat,isAcc t Lt->(t:Int)∈k.up->∀o,(X k.q).off=some o->o.over=false->(t:Int)∈o.agr)
  (h4:∀t:Nat,isAgr t Lt->∀o,(X k.q).off=some o->o.over=false->(t:Int)∈o.agr)
  (h5:∀t:Nat,isEnt t Lt->(t:Int)∈k.up\/((t:Int)∉k.fi/\(t:Int)∈k.w)->Wn k t (X t)):I4 k U X where
 hd:=I.hd
 lt:=fun L hL=>I.lt L (.tail _ hL)
 wo:=I.wo
 lv:={
  st:=fun t hu a=>(I.lv.st t hu a).elim .inl fun ⟨L,hL,q⟩=>(List.mem_cons.mp hL).elim (fun z=>.inl (h1 t (z▸q) hu a)) fun z=>.inr ⟨L,z,q⟩
  pr:=fun t hu hs o eo ev=>(I.lv.pr t hu hs o eo ev).elim (fun ⟨L,hL,q⟩=>(List.mem_cons.mp hL).elim (fun z=>.inr (h2 t (z▸q) o eo ev)) fun z=>.inl ⟨L,z,q⟩) .inr
  ag:=fun t hu o eo ev eo'=>(I.lv.ag t hu o eo ev eo').elim (fun ⟨L,hL,q⟩=>(List.mem_cons.mp hL).elim (fun z=>.inr (.inr (h3 t (z▸q) hu o eo eo'))) fun z=>.inl ⟨L,z,q⟩) fun z=>z.elim (fun ⟨L,hL,q⟩=>(List.mem_cons.mp hL).elim (fun z=>.inr (.inr (h4 t (z▸q) o eo eo'))) fun z=>.inr (.inl ⟨L,z,q⟩)) fun z=>.inr (.inr z)
  en:=fun ov t ht hu=>(I.lv.en ov t ht hu).elim .inl fun ⟨L,hL,q⟩=>(List.mem_cons.mp hL).elim (fun z=>.inl (h5 t (z▸q) hu)) fun z=>.inr ⟨L,z,q⟩}
theorem I4.oq (h:K4ok k)(I:I4 k U X){o:Off}(eo:(X k.q).off=some o):Oq4 k o/\A0 k k.q (X k.q):=by
 cases I.hd k.q h.qM with
 | a a=>exact ⟨(a.off o eo).2,a⟩
 | w a=>rw [a.off] at eo; cases eo
 | o a e=>rw [e] at eo; cases eo
theorem ZfO {q:Nat}:bLt (0, -1) (1,(q:Int))=true/\bLt (1,(q:Int)) (1,(q:Int))=false/\bLe (0, -1) (1,(q:Int))=true/\bLe (1,(q:Int)) (1,(q:Int))=true/\bEq (1,(q:Int)) (1,(q:Int))=true:=by
 refine ⟨rfl, ?_,rfl, ?_, ?_⟩
 ·show cond (decide ((1:Int)=1)) (cond (decide ((q:Int)=q)) false (cmpI false q q)) (cmpI false 1 1)=false
  rw [decide_eq_true rfl,decide_eq_true rfl]; rfl
 ·show cond (decide ((1:Int)=1)) (cond (decide ((q:Int)=q)) true (cmpI true q q)) (cmpI true 1 1)=true
  rw [decide_eq_true rfl,decide_eq_true rfl]; rfl
 ·show (decide ((1:Int)=1)&&(decide ((q:Int)=q)&&true))=true
  rw [decide_eq_true rfl,decide_eq_true rfl]; rfl
theorem L4.keep {X':Nat->Hd}(hv:Vs k (X k.q)->Vs k (X' k.q))(ho:Ov (X k.q)->Ov (X' k.q)){L:Letter}(h:L4 k X L):L4 k X' L:=by
 obtain ⟨s,t,e1,e2,e3,e4,e5,c⟩:=h.ex
 refine ⟨s,t,e1,e2,e3,e4,e5, ?_⟩
 cases hc:L.c with
 | acc a=>rw [hc] at c; exact ⟨c.1,c.2.1,c.2.2.1,c.2.2.2.1,hv c.2.2.2.2⟩
 | agr b=>rw [hc] at c; exact ⟨c.1,c.2.1,c.2.2.1,c.2.2.2.1,hv c.2.2.2.2⟩
 | ent n=>rw [hc] at c; exact ⟨c.1,c.2.1,c.2.2.1,c.2.2.2.1,c.2.2.2.2.1,ho c.2.2.2.2.2⟩
 | _=>rw [hc] at c; exact c
theorem Zai {x:Hd}{t:Nat}:updX X t x t=x:=if_pos rfl
theorem Zaj {x:Hd}{t u:Nat}(h:u≠t):updX X t x u=X u:=if_neg h
theorem I4.same {t:Nat}{x:Hd}{ns:List Letter}(I:I4 k (Lt::U) X)(ho:x.off=(X t).off)(ha:A0 k t (X t)->A0 k t x)(h0:A0 k t (X t))(hx:x.still=true)
  (hn:∀L∈ns,L4 k X L)
  (hp:∀u:Nat,isPrep u Lt->u=t)
  (h1:∀o,(X k.q).off=some o->o.val=none->(∃L∈ns,isProm t L)\/((∀L,isProm t L->L≠Lt)/\(X t).still=true))
  (h2:∀u:Nat,¬ isProm u Lt)
  (h3:∀u:Nat,isAcc u Lt->u=t/\∃L∈ns,isAgr t L)
  (h4:∀u:Nat,¬ isAgr u Lt) (h5:∀u:Nat,¬ isEnt u Lt):I4 k (U++ns) (updX X t x):=by
 have eq:(updX X t x k.q).off=(X k.q).off:=by
  by_cases c:k.q=t
  ·rw [c,Zai,ho]
  ·rw [Zaj c]
 have a':=ha h0
 refine ⟨fun u hu=>?_,fun L hL=>?_,⟨fun u hu a=>?_,fun u hu hs o eo ev=>?_,fun u hu o eo ev eo'=>?_,fun ov u hu hd=>?_⟩,fun u hu w=>?_⟩
 ·by_cases c:u=t
  ·subst c; rw [Zai]; exact .a a'
  ·rw [Zaj c]; exact I.hd u hu
 ·have kp:∀{L},L4 k X L->L4 k (updX X t x) L:=fun h=>h.keep (fun v o e=>v o (eq▸e)) fun v o e=>v o (eq▸e)
  rcases List.mem_append.mp hL with z | z
  ·exact kp (I.lt L (.tail _ z))
  ·exact kp (hn L z)
 ·by_cases c:u=t
  ·subst c; rw [Zai]; exact .inl hx
  ·rw [Zaj c] at a ⊢
   exact (I.lv.st u hu a).imp id fun ⟨L,hL,q⟩=>⟨L,List.mem_append_left _ (ZaV hL fun z=>c (hp u (z▸q))),q⟩
 ·rw [eq] at eo
  by_cases c:u=t
  ·subst c
   rcases h1 o eo ev with ⟨L,hL,q⟩ | ⟨nq,hst⟩
   ·exact .inl ⟨L,List.mem_append_right _ hL,q⟩
   ·exact (I.lv.pr u hu hst o eo ev).imp (fun ⟨L,hL,q⟩=>⟨L,List.mem_append_left _ (ZaV hL (nq L q)),q⟩) id
  ·rw [Zaj c] at hs
   exact (I.lv.pr u hu hs o eo ev).imp (fun ⟨L,hL,q⟩=>⟨L,List.mem_append_left _ (ZaV hL fun z=>h2 u (z▸q)),q⟩) id
 ·rw [eq] at eo
  rcases I.lv.ag u hu o eo ev eo' with ⟨L,hL,q⟩ | ⟨L,hL,q⟩ | z
  ·rcases List.mem_cons.mp hL with z | z
   ·obtain ⟨e,L',hL',q'⟩:=h3 u (z▸q)
    exact .inr (.inl ⟨L',List.mem_append_right _ hL',e▸q'⟩)
   ·exact .inl ⟨L,List.mem_append_left _ z,q⟩
  ·exact .inr (.inl ⟨L,List.mem_append_left _ (ZaV hL fun z=>h4 u (z▸q)),q⟩)
  ·exact .inr (.inr z)
 ·have ov':Ov (X k.q):=fun o e=>ov o (eq▸e)
  rcases I.lv.en ov' u hu hd with w | ⟨L,hL,q⟩
  ·by_cases c:u=t
   ·subst c
    have:=w.pl
    rw [h0.pl] at this
    by_cases m:(u:Int)∈k.w
    ·rw [if_pos m] at this; cases this
    ·rw [if_neg m] at this; cases this
   ·exact .inl (by rw [Zaj c]; exact w)
  ·exact .inr ⟨L,List.mem_append_left _ (ZaV hL fun z=>h5 u (z▸q)),q⟩
 ·by_cases c:u=t
  ·subst c
   rw [Zai] at w
   have:=w.pl
   rw [a'.pl] at this
   by_cases m:(u:Int)∈k.w
   ·rw [if_pos m] at this; cases this
   ·rw [if_neg m] at this; cases this
  ·rw [Zaj c] at w
   exact fun o e=>I.wo u hu w o (eq▸e)
end
section
variable {k:K4}{X:Nat->Hd}{U:List Letter}{s t:Nat}{x:Hd}
theorem Zd2 {L:Letter}(hu:x.up=true)(hp:x.place=some 0)(hl:L.pl=0)(hn:newsOf L.c=none):comeF t x U L=stepF t 0 x U L.from_ L.c:=by
 unfold comeF hereF
 rw [hu,hn,hp,hl]; rfl
theorem Ziz {L:Letter}(hp:x.place≠some 0)(hl:L.pl=0)(hn:newsOf L.c=none):comeF t x U L=(x,U):=by
 unfold comeF hereF
 rw [hn,hl]
 cases x.up with
 | false=>rfl
 | true=>
  cases e:x.place with
  | none=>rfl
  | some p=>
   show cond (decide (p=0)) _ _=_
   rw [decide_eq_false fun z=>hp (by rw [e,z])]; rfl
theorem ZdP {L:Letter}(hu:x.up=false):comeF t x U L=(x,U):=by
 unfold comeF
 rw [hu]; rfl
structure G4 (k:K4)(X:Nat->Hd)(U:List Letter)(t w:Nat)(r:Hd×List Letter):Prop where
 i:I4 k r.2 (updX X t r.1)
 w:wsum r.2 < w+wsum U
theorem G4.no {w:Nat}(i:I4 k U X)(hw:0 < w):G4 k X U t w (X t,U):=⟨by rw [ZaC]; exact i,by show wsum U < _; exact lc1 hw⟩
theorem Wn.pl0 {x:Hd}(w:Wn k t x):x.place≠some 0:=fun z=>by
 have:=w.pl
 rw [z] at this
 by_cases m:(t:Int)∈k.w
 ·rw [if_pos m] at this; cases this
 ·rw [if_neg m] at this; cases this
theorem prep4 (h:K4ok k){b:Bal}(I:I4 k (⟨s,t,0,.prep b⟩::U) X)(c:C4 k X s t (.prep b))(a:A0 k t (X t))(hu:(t:Int)∈k.up):G4 k X U t 101 (prepF t 0 (X t) U s b):=by
 obtain ⟨rfl,rfl,_⟩:=c
 unfold prepF
 rcases a.bal with ⟨e1,e2,e3⟩ | ⟨e1,e2⟩
 ·rw [e1,show bLt (0, -1) k.bq=true from ZfO.1]
  refine ⟨I.same (Lt:=⟨k.q,t,0,.prep k.bq⟩) (ns:=[⟨t,k.q,0,.prom k.bq (X t).row (X t).agd⟩]) rfl (fun a=>⟨a.mem,a.up,a.pl,a.ms,a.row,a.took,a.gone,a.hol,.inr ⟨rfl,rfl⟩,a.agd,a.off,a.offq⟩) a rfl (fun L hL=>?_) (fun u q=>(Int.ofNat.inj q.1).symm) (fun o eo ev=>.inl ⟨_,.head _,rfl,_,_,_,rfl⟩) (fun u q=>by obtain ⟨_,_,_,_,z⟩:=q; cases z) (fun u q=>by obtain ⟨_,_,z⟩:=q; cases z) (fun u q=>by obtain ⟨_,_,z⟩:=q; cases z) (fun u q=>by obtain ⟨_,_,z⟩:=q; cases z), ?_⟩
  ·cases List.mem_singleton.mp hL
   have tM:t < k.M:=by have:=h.fi.lt _ a.mem; exact la4 this
   refine ⟨t,k.q,rfl,rfl,tM,h.qM,rfl,rfl,a.row,e3,hu,rfl⟩
  ·show wsum (U++[_]) < 101+wsum U
   rw [ZaZ]
   show wsum U+100 < _
   exact lb9 rfl
 ·rw [e1,show bLt k.bq k.bq=false from ZfO.2.1]
  refine .no (I.drop (fun u q ø ø=>?_) (fun u q=>?_) (fun u q=>?_) (fun u q=>?_) fun u q=>?_) (by decide)
  ·have:u=t:=(Int.ofNat.inj q.1).symm
   subst this; exact e2
  ·obtain ⟨_,_,_,_,z⟩:=q; cases z
  ·obtain ⟨_,_,z⟩:=q; cases z
  ·obtain ⟨_,_,z⟩:=q; cases z
  ·obtain ⟨_,_,z⟩:=q; cases z
theorem acc4 (h:K4ok k){a:Acc}(I:I4 k (⟨s,t,0,.acc a⟩::U) X)(c:C4 k X s t (.acc a))(a0:A0 k t (X t))(hu:(t:Int)∈k.up):G4 k X U t 11 (accF t 0 (X t) U s a):=by
 obtain ⟨rfl,rfl,_,mj,vs⟩:=c
 unfold accF
 have le:bLe (X t).bal (⟨k.bq,k.v⟩:Acc).b=true:=by
  rcases a0.bal with ⟨e1,_⟩ | ⟨e1,_⟩
  ·rw [e1]; exact ZfO.2.2.1
  ·rw [e1]; exact ZfO.2.2.2.1
 rw [le]
 refine ⟨I.same (Lt:=⟨k.q,t,0,.acc ⟨k.bq,k.v⟩⟩) (ns:=[⟨t,k.q,0,.agr k.bq⟩]) rfl (fun a=>⟨a.mem,a.up,a.pl,a.ms,a.row,a.took,a.gone,a.hol,.inr ⟨rfl,rfl⟩,fun a' e=>(Option.some.inj e).symm,a.off,a.offq⟩) a0 rfl (fun L hL=>?_) (fun u q=>by obtain ⟨_,_,z⟩:=q; cases z) (fun o eo ev=>by rw [vs o eo] at ev; cases ev) (fun u q=>by obtain ⟨_,_,_,_,z⟩:=q; cases z) (fun u q=>⟨(Int.ofNat.inj q.1).symm,_,.head _,rfl,_,rfl⟩) (fun u q=>by obtain ⟨_,_,z⟩:=q; cases z) (fun u q=>by obtain ⟨_,_,z⟩:=q; cases z), ?_⟩
 ·cases List.mem_singleton.mp hL
  have tM:t < k.M:=by have:=h.fi.lt _ a0.mem; exact la4 this
  exact ⟨t,k.q,rfl,rfl,tM,h.qM,rfl,rfl,hu,rfl,mj,vs⟩
 ·show wsum (U++[_]) < 11+wsum U
  rw [ZaZ]
  show wsum U+10 < _
  exact lb9 rfl
theorem far4 (h:K4ok k){c:Cont}(hn:newsOf c=none)(I:I4 k (⟨s,t,0,c⟩::U) X)(cc:C4 k X s t c)(w:Wn k t (X t))(tM:t < k.M):I4 k U X:=by
 have ov:=I.wo t tM w
 refine I.drop (fun u q hu a=>?_) (fun u q o eo ev=>?_) (fun u q hu o eo e=>?_) (fun u q o eo e=>?_) fun u q ø=>?_
 ·have:u=t:=(Int.ofNat.inj q.1).symm
  subst this
  exact absurd a.pl w.pl0
 ·exact absurd ev ((I.oq h eo).1.ov (ov o eo))
 ·rw [ov o eo] at e; cases e
 ·rw [ov o eo] at e; cases e
 ·obtain ⟨_,n,z⟩:=q
  have z:c=.ent n:=z
  rw [z] at hn; cases hn
theorem down4 (h:K4ok k){c:Cont}(I:I4 k (⟨s,t,0,c⟩::U) X)(cc:C4 k X s t c)(a:A0 k t (X t))(hu:(t:Int)∉k.up):I4 k U X:=by
 refine I.drop (fun u q hu' a=>?_) (fun u q o eo ev=>?_) (fun u q hu' o eo e=>?_) (fun u q o eo e=>?_) fun u q e=>?_
 ·have:u=t:=(Int.ofNat.inj q.1).symm
  subst this; exact absurd hu' hu
 ·obtain ⟨_,_,_,_,z⟩:=q
  have z:c=.prom _ _ _:=z
  rw [z] at cc
  have:t=k.q:=cc.2.2.2.2
  exact absurd h.q (this▸hu)
 ·have:u=t:=(Int.ofNat.inj q.1).symm
  subst this; exact absurd hu' hu
 ·obtain ⟨_,_,z⟩:=q
  have z:c=.agr _:=z
  rw [z] at cc
  have:t=k.q:=cc.2.2.1
  exact absurd h.q (this▸hu)
 ·have:u=t:=(Int.ofNat.inj q.1).symm
  subst this
  exact absurd a.mem (e.elim (fun z=>absurd z hu) fun z=>absurd a.mem z.1)
end
section
variable {k:K4}{X:Nat->Hd}{U ns:List Letter}{Lt:Letter}{s:Nat}{o o':Off}
theorem I4.offq (h:K4ok k)(I:I4 k (Lt::U) X)(a:A0 k k.q (X k.q))(eo:(X k.q).off=some o)(oq:Oq4 k o')
  (hv:o.val=some k.v->o'.val=some k.v) (ho:o.over=true->o'.over=true) (hp:∀u:Nat,¬ isPrep u Lt)
  (hn:∀L∈ns,L4 k (updX X k.q { X k.q with off:=some o' }) L)
  (pr:∀t:Nat,(t:Int)∈k.up->(X t).still=true->o'.val=none->(∃L∈U++ns,isProm t L)\/(t:Int)∈o'.prom.map (·.1))
  (ag:∀t:Nat,(t:Int)∈k.up->o'.val≠none->o'.over=false->(∃L∈U++ns,isAcc t L)\/(∃L∈U++ns,isAgr t L)\/(t:Int)∈o'.agr)
  (en:o'.over=true->∀t:Nat,t < k.M->(t:Int)∈k.up\/((t:Int)∉k.fi/\(t:Int)∈k.w)->Wn k t (X t)\/∃L∈U++ns,isEnt t L):I4 k (U++ns) (updX X k.q { X k.q with off:=some o' }):=by
 have a':A0 k k.q { X k.q with off:=some o' }:=⟨a.mem,a.up,a.pl,a.ms,a.row,a.took,a.gone,a.hol,a.bal,a.agd,fun o e=>⟨rfl,Option.some.inj e▸oq⟩,fun ø z=>nomatch z⟩
 have st:∀u,(updX X k.q { X k.q with off:=some o' } u).still=(X u).still:=fun u=>by
  by_cases c:u=k.q
  ·subst c; rw [Zai]
  ·rw [Zaj c]
 have wn:∀{u},Wn k u (X u)->u≠k.q:=fun w z=>by subst z; exact w.pl0 a.pl
 have vs:Vs k (X k.q)->Vs k (updX X k.q { X k.q with off:=some o' } k.q):=fun v o'' e=>by
  rw [Zai] at e; cases e; exact hv (v o eo)
 have ov:Ov (X k.q)->Ov (updX X k.q { X k.q with off:=some o' } k.q):=fun v o'' e=>by
  rw [Zai] at e; cases e; exact ho (v o eo)
 refine ⟨fun u hu=>?_,fun L hL=>?_,⟨fun u hu au=>?_,fun u hu hs o'' e ev=>?_,fun u hu o'' e ev eo'=>?_,fun ov' u hu hd=>?_⟩,fun u hu w=>?_⟩
 ·by_cases c:u=k.q
  ·subst c; rw [Zai]; exact .a a'
  ·rw [Zaj c]; exact I.hd u hu
 ·rcases List.mem_append.mp hL with z | z
  ·exact (I.lt L (.tail _ z)).keep vs ov
  ·exact hn L z
 ·rw [st]
  have au:A0 k u (X u):=by
   by_cases c:u=k.q
   ·subst c; exact a
   ·rw [Zaj c] at au; exact au
  exact (I.lv.st u hu au).imp id fun ⟨L,hL,q⟩=>⟨L,List.mem_append_left _ (ZaV hL fun z=>hp u (z▸q)),q⟩
 ·rw [Zai] at e
  cases e
  exact pr u hu (st u▸hs) ev
 ·rw [Zai] at e
  cases e
  exact ag u hu ev eo'
 ·have oo:o'.over=true:=ov' o' (by rw [Zai])
  exact (en oo u hu hd).imp (fun w=>by rw [Zaj (wn w)]; exact w) id
 ·by_cases c:u=k.q
  ·subst c
   rw [Zai] at w
   exact absurd a.pl w.pl0
  ·rw [Zaj c] at w
   exact ov (I.wo u hu w)
theorem Zid {l:List (Int×PR)}{i:Int}{v:PR}:(∀y,y∈(prS l i v).map (·.1)↔y=i\/y∈l.map (·.1))/\((l.map (·.1)).Nodup->((prS l i v).map (·.1)).Nodup):=by
 induction l with
 | nil=>exact ⟨fun y=>by show y∈[i]↔_; rw [List.mem_singleton]; exact ⟨.inl,fun z=>z.elim id fun z=>nomatch z⟩,fun ø=>List.pairwise_singleton ..⟩
 | cons p r ih=>
  have e:prS (p::r) i v=cond (decide (p.1=i)) ((p.1,v)::r) (p::prS r i v):=rfl
  by_cases c:p.1=i
  ·rw [e,decide_eq_true c]
   refine ⟨fun y=>?_,fun n=>n⟩
   show y∈p.1::r.map (·.1)↔y=i\/y∈p.1::r.map (·.1)
   rw [List.mem_cons,c]
   exact ⟨.inr,fun z=>z.elim .inl id⟩
  ·rw [e,decide_eq_false c]
   refine ⟨fun y=>?_,fun n=>?_⟩
   ·show y∈p.1::(prS r i v).map (·.1)↔y=i\/y∈p.1::r.map (·.1)
    rw [List.mem_cons,List.mem_cons,ih.1]
    constructor
    ·rintro (z | z | z)
     ·exact .inr (.inl z)
     ·exact .inl z
     ·exact .inr (.inr z)
    ·rintro (z | z | z)
     ·exact .inr (.inl z)
     ·exact .inl z
     ·exact .inr (.inr z)
   ·have n:(p.1::r.map (·.1)).Nodup:=n
    have n:=List.nodup_cons.mp n
    show (p.1::(prS r i v).map (·.1)).Nodup
    exact List.nodup_cons.mpr ⟨fun z=>((ih.1 _).mp z).elim c n.1,ih.2 n.2⟩
theorem Ze9 {l:List (Int×PR)}{i:Int}{v:PR}{q:Int×PR}(h:q∈prS l i v):q∈l\/q=(i,v):=by
 induction l with
 | nil=>exact .inr (List.mem_singleton.mp h)
 | cons p r ih=>
  have h:q∈cond (decide (p.1=i)) ((p.1,v)::r) (p::prS r i v):=h
  by_cases c:p.1=i
  ·rw [decide_eq_true c] at h
   rcases List.mem_cons.mp h with z | z
   ·exact .inr (z.trans (by rw [c]))
   ·exact .inl (.tail _ z)
  ·rw [decide_eq_false c] at h
   rcases List.mem_cons.mp h with z | z
   ·exact .inl (z▸ .head _)
   ·exact (ih z).imp (.tail _) id
theorem Zi3 {R:List Msg}{pr:List (Int×PR)}(h:∀p∈pr,p.2=(R,none)):∀(ms:List Int) (rows:List (List Msg)),(∀r∈rows,r=R)->(pfGo pr ms none rows).1=none/\∀r∈(pfGo pr ms none rows).2,r=R:=by
 intro zz0
 induction zz0 with
 | nil=>
  intro rows hr
  exact ⟨rfl,hr⟩
 | cons i ms ih=>
  intro rows hr
  unfold pfGo
  cases e:prG pr i with
  | none=>exact ih rows hr
  | some p=>
   have ep:p=(R,none):=by
    have:∀l:List (Int×PR),(∀p∈l,p.2=(R,none))->prG l i=some p->p=(R,none):=fun l=>by
     induction l with
     | nil=>exact fun ø z=>nomatch z
     | cons y r ih=>
      intro hl z
      have z:cond (decide (y.1=i)) (some y.2) (prG r i)=some p:=z
      cases c:decide (y.1=i) with
      | true=>rw [c] at z; exact (Option.some.inj z)▸hl y (.head _)
      | false=>rw [c] at z; exact ih (fun p hp=>hl p (.tail _ hp)) z
    exact this pr h e
   subst ep
   exact ih (rows++[R]) fun r hr'=>(List.mem_append.mp hr').elim (hr r) List.mem_singleton.mp
theorem Zgf {R:List Msg}:∀rows:List (List Msg),(∀r∈rows,r=R)->lng rows R=R:=by
 intro zz0
 induction zz0 with
 | nil=>
  intro _
  exact rfl
 | cons r rs ih=>
  intro h
  unfold lng
  rw [h r (.head _),ZbT (decide_eq_false (Int.lt_irrefl _))]
  exact ih fun r hr=>h r (.tail _ hr)
end
section
variable {k:K4}{X:Nat->Hd}{U:List Letter}{s:Nat}
theorem A0.some (a:A0 k k.q (X k.q)):∃o,(X k.q).off=some o:=Option.ne_none_iff_exists'.mp (a.offq rfl)
theorem Zok (h:K4ok k){o:Off}(hs:o.hs=k.w)(hp:∀p∈o.prom,p.2=(k.R,none)){i:Int}{p:PR}(hi:i∈k.fi)(hg:prG o.prom i=some p):pfF k.fi o=k.v:=by
 obtain ⟨e1,e2⟩:=Zi3 hp k.fi [] fun ø z=>nomatch z
 have ne:=Zh9 hg k.fi none [] hi
 unfold pfF
 rw [e1]
 show (⟨o.hs,lng _ _⟩:Val)=⟨k.w,k.R⟩
 rw [hs]
 congr 1
 cases q:(pfGo o.prom k.fi none []).2 with
 | nil=>exact absurd q ne
 | cons r rs=>
  rw [q] at e2
  show lng (r::rs) r=k.R
  rw [e2 r (.head _)]
  exact Zgf _ fun x hx=>(List.mem_cons.mp hx).elim id fun z=>e2 x (.tail _ z)
theorem prom4 (h:K4ok k){b:Bal}{row:List Msg}{a:Option Acc}(I:I4 k (⟨s,k.q,0,.prom b row a⟩::U) X)(c:C4 k X s k.q (.prom b row a))(a0:A0 k k.q (X k.q))(hsM:s < k.M):G4 k X U k.q 100 (promF k.q 0 (X k.q) U s b row a):=by
 obtain ⟨rfl,rfl,rfl,hs,_⟩:=c
 obtain ⟨o,eo⟩:=a0.some
 have oq:=(a0.off o eo).2
 have es:({ X k.q with off:=some o }:Hd)=X k.q:=by rw [← eo]
 have e0:promF k.q 0 (X k.q) U s k.bq k.R none=promO k.q 0 (X k.q) U s k.bq k.R none o:=by unfold promF; rw [eo]
 have np:∀u:Nat,¬ isPrep u ⟨s,k.q,0,.prom k.bq k.R none⟩:=fun u z=>by obtain ⟨_,_,z⟩:=z; cases z
 have na:∀u:Nat,¬ isAcc u ⟨s,k.q,0,.prom k.bq k.R none⟩:=fun u z=>by obtain ⟨_,_,z⟩:=z; cases z
 have ng:∀u:Nat,¬ isAgr u ⟨s,k.q,0,.prom k.bq k.R none⟩:=fun u z=>by obtain ⟨_,_,z⟩:=z; cases z
 have ne:∀u:Nat,¬ isEnt u ⟨s,k.q,0,.prom k.bq k.R none⟩:=fun u z=>by obtain ⟨_,_,z⟩:=z; cases z
 have eb:bEq o.b k.bq=true:=by rw [oq.b]; exact ZfO.2.2.2.2
 rw [e0]
 unfold promO
 rw [Zb5 eb]
 cases ec:o.val.isNone with
 | false=>
  show G4 k X U k.q 100 ({ X k.q with off:=some o },U)
  rw [es]
  refine .no (I.drop (fun u q=>absurd q (np u)) (fun u q o' eo' ev'=>?_) (fun u q=>absurd q (na u)) (fun u q=>absurd q (ng u)) fun u q=>absurd q (ne u)) (by decide)
  rw [eo] at eo'; cases eo'
  rw [ev'] at ec; cases ec
 | true=>
  have ev:o.val=none:=Option.isNone_iff_eq_none.mp ec
  show G4 k X U k.q 100 (prom2 k.q 0 (X k.q) U k.bq { o with prom:=prS o.prom s (k.R,none) })
  have kp:=Zid (l:=o.prom) (i:=(s:Int)) (v:=(k.R,none))
  have pr1:∀p∈prS o.prom (s:Int) (k.R,none),p.1∈k.up/\p.2=(k.R,none):=fun p hp=>(Ze9 hp).elim (oq.pr p) fun z=>by rw [z]; exact ⟨hs,rfl⟩
  have len:(prS o.prom (s:Int) (k.R,none)).length<=k.up.length:=by
   rw [← List.length_map (as:=prS o.prom (s:Int) (k.R,none)) (·.1)]
   exact Zbw (kp.2 oq.pn) fun y hy=>by
    obtain ⟨p,hp,e⟩:=List.mem_map.mp hy
    exact e▸(pr1 p hp).1
  have nov:o.over=true->False:=fun z=>oq.ov z ev
  have eov:o.over=false:=by cases z:o.over with | false=>rfl | true=>exact (nov z).elim
  unfold prom2
  have e1:enF (X k.q).ms ({ o with prom:=prS o.prom (s:Int) (k.R,none) }:Off).prom.length=decide (k.en<=(prS o.prom (s:Int) (k.R,none)).length):=by rw [a0.ms,ZjA]
  rw [e1]
  by_cases d:k.en<=(prS o.prom (s:Int) (k.R,none)).length
  ·rw [Zb5 (decide_eq_true d)]
   have mj:k.maj:=Nat.le_trans d len
   have pv:pfF (X k.q).ms { o with prom:=prS o.prom (s:Int) (k.R,none) }=k.v:=by rw [a0.ms]; exact Zok h oq.hs (fun p hp=>(pr1 p hp).2) (h.sub _ hs) (ZeD _)
   rw [pv]
   have oq':Oq4 k { o with prom:=prS o.prom (s:Int) (k.R,none),val:=some k.v }:=⟨oq.b,oq.hs,pr1,kp.2 oq.pn,fun v e=>by cases e; exact ⟨rfl,mj⟩,(fun z=>nomatch z),oq.ag,oq.an,oq.alt,fun ø z=>nomatch z⟩
   refine ⟨I.offq h a0 eo oq' (fun ø=>rfl) id np (fun L hL=>?_) (fun u ø ø z=>nomatch z) (fun u hu ø ø=>.inl ?_) (fun z=>(nov z).elim), ?_⟩
   ·obtain ⟨i,hi,e⟩:=List.mem_map.mp hL
    rw [a0.ms] at hi
    have li:=h.fi.lt i hi
    subst e
    refine ⟨k.q,i.toNat,rfl,show i=_ by exact la5 li,h.qM,by exact la6 li,rfl,rfl,rfl, ?_,mj,fun o' e=>?_⟩
    ·rw [show ((i.toNat:Nat):Int)=i by exact Int.toNat_of_nonneg li.1]; exact hi
    ·rw [Zai] at e; cases e; rfl
   ·exact ⟨_,List.mem_append_right _ (List.mem_map.mpr ⟨_,a0.ms.symm▸h.sub _ hu,rfl⟩),rfl,_,rfl⟩
   ·show wsum (U++sendF _ _ _ _) < _
    rw [ZaZ,ZaW,a0.ms]
    exact lh6 (k:=9) (Nat.le_trans h.fi.len h.h9) rfl
  ·rw [ZbT (decide_eq_false d)]
   have oq':Oq4 k { o with prom:=prS o.prom (s:Int) (k.R,none) }:=⟨oq.b,oq.hs,pr1,kp.2 oq.pn,oq.val,fun ø=>Nat.lt_of_not_le d,oq.ag,oq.an,oq.alt,oq.ov⟩
   have:=I.offq (ns:=[]) h a0 eo oq' id id np (fun ø z=>nomatch z) (fun u hu su e=>?_) (fun u hu e=>absurd ev e) fun z=>(nov z).elim
   ·rw [List.append_nil] at this
    exact ⟨this,show wsum U < _ by exact lc1 (Nat.lt_succ_of_le (Nat.le_of_ble_eq_true rfl))⟩
   ·rw [List.append_nil]
    rcases I.lv.pr u hu su o eo ev with ⟨L,hL,q⟩ | z
    ·rcases List.mem_cons.mp hL with y | y
     ·subst y
      exact .inr ((kp.1 _).mpr (.inl q.1.symm))
     ·exact .inl ⟨L,y,q⟩
    ·exact .inr ((kp.1 _).mpr (.inr z))
end
section
variable {k:K4}{X:Nat->Hd}{U:List Letter}{s t:Nat}
theorem Znn (h:K4ok k){ag:List Int}(nd:ag.Nodup)(hu:∀a∈ag,a∈k.up)(hl:ag.length=k.en):Wt k (witF k.fi ag):=by
 have mm:∀i,i∈witF k.fi ag↔i∈ag:=fun i=>by
  unfold witF
  rw [List.mem_filter,ZgO,decide_eq_true_iff]
  exact ⟨fun z=>z.2,fun z=>⟨h.sub _ (hu i z),z⟩⟩
 have sub:(witF k.fi ag).Sublist k.fi:=List.filter_sublist
 have fn:k.fi.Nodup:=h.fi.up.imp fun h=>Int.ne_of_lt h
 refine ⟨sub,fun i hi=>hu i ((mm i).mp hi), ?_⟩
 rw [← hl]
 exact ((List.perm_ext_iff_of_nodup (fn.sublist sub) nd).mpr mm).length_eq
theorem agr4 (h:K4ok k){b:Bal}(I:I4 k (⟨s,k.q,0,.agr b⟩::U) X)(c:C4 k X s k.q (.agr b))(a0:A0 k k.q (X k.q))(hsM:s < k.M):G4 k X U k.q 10 (agrF k.q 0 (X k.q) U s b):=by
 obtain ⟨rfl,hs,_,mj,vs⟩:=c
 obtain ⟨o,eo⟩:=a0.some
 have oq:=(a0.off o eo).2
 have ev:=vs o eo
 have es:({ X k.q with off:=some o }:Hd)=X k.q:=by rw [← eo]
 have e0:agrF k.q 0 (X k.q) U s k.bq=agrO k.q 0 (X k.q) U s k.bq o:=by unfold agrF; rw [eo]
 have np:∀u:Nat,¬ isPrep u ⟨s,k.q,0,.agr k.bq⟩:=fun u z=>by obtain ⟨_,_,z⟩:=z; cases z
 have nm:∀u:Nat,¬ isProm u ⟨s,k.q,0,.agr k.bq⟩:=fun u z=>by obtain ⟨_,_,_,_,z⟩:=z; cases z
 have na:∀u:Nat,¬ isAcc u ⟨s,k.q,0,.agr k.bq⟩:=fun u z=>by obtain ⟨_,_,z⟩:=z; cases z
 have ne:∀u:Nat,¬ isEnt u ⟨s,k.q,0,.agr k.bq⟩:=fun u z=>by obtain ⟨_,_,z⟩:=z; cases z
 have eb:bEq o.b k.bq=true:=by rw [oq.b]; exact ZfO.2.2.2.2
 rw [e0]
 unfold agrO
 rw [Zb5 eb]
 by_cases ec:o.over=true
 ·rw [Zb5 ec,es]
  refine .no (I.drop (fun u q=>absurd q (np u)) (fun u q=>absurd q (nm u)) (fun u q=>absurd q (na u)) (fun u q o' eo' ev'=>?_) fun u q=>absurd q (ne u)) (by decide)
  rw [eo] at eo'; cases eo'
  rw [ev'] at ec; cases ec
 have ef:o.over=false:=by cases z:o.over with | false=>rfl | true=>exact absurd z ec
 rw [ZbT ef,show o.val.getD ⟨[],[]⟩=k.v by rw [ev]; rfl]
 have km:∀y,y∈agS o.agr (s:Int)↔y=(s:Int)\/y∈o.agr:=fun y=>ZhG o.agr
 have an:=ZgK (i:=(s:Int)) o.agr oq.an
 have ag1:∀a∈agS o.agr (s:Int),a∈k.up:=fun a ha=>((km a).mp ha).elim (fun z=>z▸hs) (oq.ag a)
 unfold agr2
 have e1:enF (X k.q).ms ({ o with agr:=agS o.agr (s:Int) }:Off).agr.length=decide (k.en<=(agS o.agr (s:Int)).length):=by rw [a0.ms,ZjA]
 rw [e1]
 by_cases d:k.en<=(agS o.agr (s:Int)).length
 ·rw [Zb5 (decide_eq_true d)]
  have len:(agS o.agr (s:Int)).length=k.en:=by
   exact lm5 (oq.alt ef) (ZjJ (x:=(s:Int)) o.agr) d
  have wt:Wt k (witF (X k.q).ms (agS o.agr (s:Int))):=by rw [a0.ms]; exact Znn h an ag1 len
  have oq':Oq4 k { o with agr:=agS o.agr (s:Int),over:=true }:=⟨oq.b,oq.hs,oq.pr,oq.pn,oq.val,oq.vlt,ag1,an,(fun z=>nomatch z),fun ø z=>by rw [show ({ o with agr:=agS o.agr (s:Int),over:=true }:Off).val=o.val from rfl,ev] at z; cases z⟩
  have bnd:∀i∈mkSet ((X k.q).ms++k.v.hs),0<=i/\i < k.M:=fun i hi=>by
   rw [ZaH,a0.ms,List.mem_append] at hi
   exact hi.elim (h.fi.lt i) (h.w.lt i)
  refine ⟨I.offq h a0 eo oq' id (fun ø=>rfl) np (fun L hL=>?_) (fun u hu su z=>?_) (fun u hu ø z=>nomatch z) (fun ø u hu hd=>.inr ?_), ?_⟩
  ·obtain ⟨i,hi,e⟩:=List.mem_map.mp hL
   have li:=bnd i hi
   subst e
   refine ⟨k.q,i.toNat,rfl,show i=_ by exact la5 li,h.qM,by exact la6 li,rfl,rfl,rfl,rfl,wt,mj,fun o' e=>?_⟩
   rw [Zai] at e; cases e; rfl
  ·have z:o.val=none:=z
   rw [ev] at z; cases z
  ·have mu:(u:Int)∈mkSet ((X k.q).ms++k.v.hs):=by
    rw [ZaH,a0.ms,List.mem_append]
    exact hd.elim (fun z=>.inl (h.sub _ z)) fun z=>.inr z.2
   exact ⟨_,List.mem_append_right _ (List.mem_map.mpr ⟨_,mu,rfl⟩),rfl,_,rfl⟩
  ·show wsum (U++sendF _ _ _ _) < _
   rw [ZaZ,ZaW]
   have ne:mkSet ((X k.q).ms++k.v.hs)≠[]:=fun z=>by
    have:(k.q:Int)∈mkSet ((X k.q).ms++k.v.hs):=by rw [ZaH,a0.ms]; exact List.mem_append_left _ a0.mem
    rw [z] at this; cases this
   have f:Fi k.M (mkSet ((X k.q).ms++k.v.hs)):=⟨ne,ZbO _,bnd⟩
   exact lh6 (k:=9) (Nat.le_trans f.len h.h9) rfl
 ·rw [ZbT (decide_eq_false d)]
  have oq':Oq4 k { o with agr:=agS o.agr (s:Int) }:=⟨oq.b,oq.hs,oq.pr,oq.pn,oq.val,oq.vlt,ag1,an,fun ø=>Nat.lt_of_not_le d,oq.ov⟩
  have:=I.offq (ns:=[]) h a0 eo oq' id id np (fun ø z=>nomatch z) (fun u hu su z=>?_) (fun u hu e e'=>?_) fun z=>absurd z ec
  ·rw [List.append_nil] at this
   exact ⟨this,show wsum U < _ by exact lc1 (Nat.lt_succ_of_le (Nat.le_of_ble_eq_true rfl))⟩
  ·have z:o.val=none:=z
   rw [ev] at z; cases z
  ·rw [List.append_nil]
   rcases I.lv.ag u hu o eo e ef with ⟨L,hL,q⟩ | ⟨L,hL,q⟩ | z
   ·exact .inl ⟨L,ZaV hL fun z=>na u (z▸q),q⟩
   ·rcases List.mem_cons.mp hL with y | y
    ·subst y
     exact .inr (.inr ((km _).mpr (.inl q.1.symm)))
    ·exact .inr (.inl ⟨L,y,q⟩)
   ·exact .inr (.inr ((km _).mpr (.inr z)))
end
section
variable {k:K4}{X:Nat->Hd}{U:List Letter}{s t:Nat}
theorem Zdo {l:List Int}{i:Int}:memF l i=decide (i∈l):=by
 unfold memF iV
 by_cases c:i∈l
 ·rw [decide_eq_true c]
  exact List.any_eq_true.mpr ⟨.int i,List.mem_map.mpr ⟨_,c,rfl⟩,decide_eq_true rfl⟩
 ·rw [decide_eq_false c]
  refine List.any_eq_false.mpr fun y hy=>?_
  obtain ⟨z,hz,e⟩:=List.mem_map.mp hy
  subst e
  show ¬ decide (z=i)=true
  rw [decide_eq_true_iff]
  exact fun q=>c (q▸hz)
theorem I4.went {n:News}{x:Hd}(h:K4ok k)(I:I4 k (⟨s,t,0,.ent n⟩::U) X)(ov:Ov (X k.q))(w:Wn k t x):I4 k U (updX X t x):=by
 have ov':Ov (updX X t x k.q):=fun o e=>by
  by_cases c:k.q=t
  ·rw [c,Zai,w.off] at e; cases e
  ·rw [Zaj c] at e; exact ov o e
 have same:∀{o},(updX X t x k.q).off=some o->(X k.q).off=some o:=fun {o} e=>by
  by_cases c:k.q=t
  ·rw [c,Zai,w.off] at e; cases e
  ·rw [Zaj c] at e; exact e
 refine ⟨fun u hu=>?_,fun L hL=>(I.lt L (.tail _ hL)).keep (fun v o e=>v o (same e)) (fun ø=>ov'),⟨fun u hu a=>?_,fun u hu hs o e ev=>?_,fun u hu o e ev eo=>?_,fun ø u hu hd=>?_⟩,fun u hu ø=>ov'⟩
 ·by_cases c:u=t
  ·subst c; rw [Zai]; exact .w w
  ·rw [Zaj c]; exact I.hd u hu
 ·by_cases c:u=t
  ·subst c
   rw [Zai] at a
   exact absurd a.pl w.pl0
  ·rw [Zaj c] at a ⊢
   exact (I.lv.st u hu a).imp id fun ⟨L,hL,q⟩=>⟨L,ZaV hL (fun z=>by subst z; obtain ⟨_,_,y⟩:=q; cases y),q⟩
 ·exact absurd ev ((I.oq h (same e)).1.ov (ov o (same e)))
 ·rw [ov o (same e)] at eo; cases eo
 ·by_cases c:u=t
  ·subst c; rw [Zai]; exact .inl w
  ·rw [Zaj c]
   exact (I.lv.en ov u hu hd).imp id fun ⟨L,hL,q⟩=>⟨L,ZaV hL (fun z=>by subst z; exact c (Int.ofNat.inj q.1).symm),q⟩
theorem ent4 (h:K4ok k){n:News}(I:I4 k (⟨s,t,0,.ent n⟩::U) X)(c:C4 k X s t (.ent n))(tM:t < k.M):G4 k X U t 1 (comeF t (X t) U ⟨s,t,0,.ent n⟩):=by
 obtain ⟨e1,e2,e3,wt,mj,ov⟩:=c
 have np:∀u:Nat,¬ isPrep u ⟨s,t,0,.ent n⟩:=fun u z=>by obtain ⟨_,_,z⟩:=z; cases z
 have nm:∀u:Nat,¬ isProm u ⟨s,t,0,.ent n⟩:=fun u z=>by obtain ⟨_,_,_,_,z⟩:=z; cases z
 have na:∀u:Nat,¬ isAcc u ⟨s,t,0,.ent n⟩:=fun u z=>by obtain ⟨_,_,z⟩:=z; cases z
 have ng:∀u:Nat,¬ isAgr u ⟨s,t,0,.ent n⟩:=fun u z=>by obtain ⟨_,_,z⟩:=z; cases z
 have up1:(X t).up=true->comeF t (X t) U ⟨s,t,0,.ent n⟩=(entF t (X t) n,U):=fun hu=>by
  unfold comeF
  rw [hu]; rfl
 have keep:((t:Int)∈k.up\/((t:Int)∉k.fi/\(t:Int)∈k.w)->Wn k t (X t))->I4 k U X:=fun q=>I.drop (fun u z=>absurd z (np u)) (fun u z=>absurd z (nm u)) (fun u z=>absurd z (na u)) (fun u z=>absurd z (ng u)) fun u z e=>by
  have:u=t:=(Int.ofNat.inj z.1).symm
  subst this; exact q e
 cases I.hd t tM with
 | a a=>
  by_cases hu:(t:Int)∈k.up
  ·have u1:(X t).up=true:=by rw [a.up]; exact decide_eq_true hu
   have ee:entF t (X t) n=onF t 0 (X t) n:=by
    unfold entF
    rw [a.pl]
    show cond (decide ((0:Int)=n.no - 1)) _ _=_
    rw [e1]; rfl
   rw [up1 u1,ee]
   refine ⟨I.went h ov ?_,show wsum U < _ by exact lc1 (Nat.lt_succ_self _)⟩
   unfold onF
   rw [e2,Zdo]
   by_cases m:(t:Int)∈k.w
   ·rw [decide_eq_true m]
    refine ⟨u1, ?_, ?_,rfl,rfl,rfl, ?_,rfl,rfl,fun z=>absurd a.mem z,fun ø=>⟨n,rfl,wt⟩,mj⟩
    ·rw [if_pos m,← e1]; rfl
    ·rw [if_pos m]; rfl
    ·rw [if_pos a.mem]
     show (X t).gone++[(0,(X t).ms,n.row)]=_
     rw [a.gone,a.ms,e3]; rfl
   ·rw [decide_eq_false m]
    refine ⟨u1, ?_, ?_,rfl,rfl,rfl, ?_,rfl,rfl,fun z=>absurd a.mem z,fun z=>absurd z m,mj⟩
    ·rw [if_neg m]; rfl
    ·rw [if_neg m]; rfl
    ·rw [if_pos a.mem]
     show (X t).gone++[(0,(X t).ms,n.row)]=_
     rw [a.gone,a.ms,e3]; rfl
  ·rw [ZdP (by rw [a.up]; exact decide_eq_false hu)]
   exact .no (keep fun z=>z.elim (fun y=>absurd y hu) fun y=>absurd a.mem y.1) (by decide)
 | w a=>
  have ee:entF t (X t) n=X t:=by
   unfold entF
   by_cases m:(t:Int)∈k.w
   ·rw [a.pl,if_pos m]
    show cond (decide ((1:Int)=n.no - 1)) _ _=_
    rw [e1]; rfl
   ·rw [a.pl,if_neg m]
    show cond (memF n.hs t&&_) _ _=_
    rw [e2,Zdo,decide_eq_false m]; rfl
  rw [up1 a.up,ee]
  exact .no (keep fun ø=>a) (by decide)
 | o a e=>
  rw [up1 (by rw [e]; rfl)]
  have ee:entF t (X t) n=cond (decide ((t:Int)∈k.w)) (intoF x00 (some n.no) n.hs (some n)) x00:=by
   unfold entF
   rw [e]
   show cond (memF n.hs t&&decide ((-1:Int) < n.no)) _ _=_
   rw [e2,Zdo,e1,show decide ((-1:Int) < 1)=true from rfl,Bool.and_true]
  rw [ee]
  by_cases m:(t:Int)∈k.w
  ·rw [decide_eq_true m]
   refine ⟨I.went h ov ?_,show wsum U < _ by exact lc1 (Nat.lt_succ_self _)⟩
   refine ⟨rfl, ?_, ?_,rfl,rfl,rfl, ?_,rfl,rfl,fun ø=>e1,fun ø=>⟨n,rfl,wt⟩,mj⟩
   ·rw [if_pos m,← e1]; rfl
   ·rw [if_pos m,← e2]; rfl
   ·rw [if_neg a]; rfl
  ·rw [decide_eq_false m]
   show G4 k X U t 1 (x00,U)
   rw [← e]
   exact .no (keep fun z=>z.elim (fun y=>absurd (h.sub _ y) a) fun y=>absurd y.2 m) (by decide)
end
theorem ZcT {n:Nat}(h:n<=100100):n < SZ:=Nat.lt_of_le_of_lt h (Nat.le_of_ble_eq_true rfl)
theorem Zd1 {n:Nat}(h:n<=100100):n<=SZ:=Nat.le_of_lt (ZcT h)
theorem Fi.nd {M:Nat}{l:List Int}(h:Fi M l):l.Nodup:=h.up.imp fun h=>Int.ne_of_lt h
theorem Fi.sm {M:Nat}{l:List Int}(h:Fi M l)(h9:M<=9):Sm l:=⟨h.nd,fun i hi=>by have:=h.lt i hi; exact ⟨i.toNat,by exact Nat.lt_of_lt_of_le (la6 this) h9,by exact la5 this⟩⟩
theorem Fi.pos {M:Nat}{l:List Int}(h:Fi M l):1<=l.length:=List.length_pos_iff.mpr h.ne
theorem Zl5 {k:Int}:∀{l:List Int},l.Nodup->l.length<=(oth k l).length+1:=by
 intro zz0
 induction zz0 with
 | nil=>
  intro _
  exact Nat.zero_le _
 | cons a r ih=>
  intro h
  have h:=List.nodup_cons.mp h
  by_cases c:a=k
  ·have e:oth k (a::r)=r:=by
    unfold oth
    rw [List.filter_cons,decide_eq_true c]
    show r.filter _=r
    exact List.filter_eq_self.mpr fun x hx=>by
     rw [decide_eq_false fun z=>h.1 (by rw [c,← z]; exact hx)]; rfl
   rw [e]; exact Nat.le_refl _
  ·have e:oth k (a::r)=a::oth k r:=by
    unfold oth
    rw [List.filter_cons,decide_eq_false c]; rfl
   rw [e,List.length_cons,List.length_cons]
   exact Nat.succ_le_succ (ih h.2)
theorem Zb9 {M:Nat}{k:Int}{l:List Int}(h:Fi M l):l.length / 2 < (oth k l).length+1:=by
 exact lm6 (Zl5 (k:=k) h.nd) h.pos
section
variable {k:K4}{X:Nat->Hd}{U:List Letter}{L:Letter}{t:Nat}
theorem K4ok.fl (h:K4ok k):k.fi.length<=9/\k.w.length<=9/\k.up.length<=9:=by
 have a:=h.fi.len
 have b:=h.w.len
 have c:=Zbw h.nd h.sub
 have d:=h.h9
 exact ⟨Nat.le_trans a d,Nat.le_trans b d,Nat.le_trans c (Nat.le_trans a d)⟩
theorem okA4 (h:K4ok k)(hh:H4 k t (X t))(hU:U.length<=2000):OkA U t (X t):=by
 obtain ⟨f1,f2,f3⟩:=h.fl
 have u:U.length+100<=SZ:=Zd1 (Nat.le_trans (Nat.add_le_add_right hU 100) (by decide))
 have z:0 < SZ:=ZcT (by decide)
 cases hh with
 | a a=>
  refine ⟨by rw [a.ms]; exact la7 f1 rfl,fun ø ø=>by rw [a.ms]; exact Zb9 h.fi,u,by rw [a.row]; exact ZcT (Nat.le_trans h.R (by decide)),ZcT (Nat.le_trans a.hol (by decide)),by rw [a.gone]; exact z,fun o e=>?_⟩
  have oq:=(a.off o e).2
  have l1:o.prom.length<=k.up.length:=by
   rw [← List.length_map (as:=o.prom) (·.1)]
   exact Zbw oq.pn fun y hy=>by
    obtain ⟨p,hp,e⟩:=List.mem_map.mp hy
    exact e▸(oq.pr p hp).1
  have l2:=Zbw oq.an oq.ag
  exact ⟨ZcT (by exact Nat.le_trans l1 (la7 f3 rfl)),ZcT (by exact Nat.le_trans l2 (la7 f3 rfl))⟩
 | w a=>
  have gl:(X t).gone.length < SZ:=by
   rw [a.gone]
   refine ZcT (Nat.le_trans (?_ :_<=1) (by decide))
   by_cases c:(t:Int)∈k.fi
   ·rw [if_pos c]; exact Nat.le_refl 1
   ·rw [if_neg c]; exact Nat.zero_le _
  have no:∀o,(X t).off=some o->o.prom.length < SZ/\o.agr.length < SZ:=fun o e=>by rw [a.off] at e; cases e
  by_cases m:(t:Int)∈k.w
  ·exact ⟨by rw [a.ms,if_pos m]; exact la7 f2 rfl,fun ø ø=>by rw [a.ms,if_pos m]; exact Zb9 h.w,u,by rw [a.row]; exact z,by rw [a.hol]; exact z,gl,no⟩
  ·exact ⟨by rw [a.ms,if_neg m]; exact Nat.zero_le _,(fun pl e=>by rw [a.pl,if_neg m] at e; cases e),u,by rw [a.row]; exact z,by rw [a.hol]; exact z,gl,no⟩
 | o a e=>rw [e]; exact ⟨Nat.zero_le _,(fun ø z=>nomatch z),u,z,z,z,fun ø z=>nomatch z⟩
theorem okC4 (h:K4ok k)(I:I4 k (L::U) X)(et:L.to=t)(tM:t < k.M)(hp:newsOf L.c=none->(X t).place=some L.pl):OkC (X t) L.from_ L.c:=by
 obtain ⟨f1,f2,f3⟩:=h.fl
 obtain ⟨s,t',e1,e2,e3,e4,e5,c⟩:=(I.lt L (.head _)).ex
 have:t'=t:=Int.ofNat.inj (e2.symm.trans et)
 subst this
 obtain ⟨src,to,lp,cc⟩:=L
 cases e1; cases e2; cases e5
 have at0:newsOf cc=none->A0 k t' (X t'):=fun z=>by
  have hp:=hp z
  cases I.hd t' tM with
  | a a=>exact a
  | w a=>exact absurd hp a.pl0
  | o a e=>rw [e] at hp; cases hp
 cases cc with
 | prom b row a=>
  obtain ⟨rfl,rfl,rfl,hs,rfl⟩:=c
  intro o eo _ _ _
  have a0:=at0 rfl
  have oq:=(a0.off o eo).2
  have pr1:∀p∈prS o.prom (s:Int) (k.R,none),p.2=(k.R,none):=fun p hp=>(Ze9 hp).elim (fun z=>(oq.pr p z).2) fun z=>by rw [z]
  have ms:(s:Int)∈k.fi:=h.sub _ hs
  show PfOk (X k.q).ms { o with prom:=prS o.prom (s:Int) (k.R,none) }
  refine ⟨by rw [a0.ms]; exact la7 f1 rfl,fun ø=>Zh9 (ZeD _) _ _ _ (by rw [a0.ms]; exact ms), ?_, ?_⟩
  ·show o.hs.length<=SZ
   rw [oq.hs]; exact Zd1 (by exact la7 f2 rfl)
  ·rw [a0.ms,Zok h (o:={ o with prom:=prS o.prom (s:Int) (k.R,none) }) oq.hs pr1 ms (ZeD _)]
   exact Zd1 (Nat.le_trans h.R (by decide))
 | agr b=>
  obtain ⟨rfl,hs,rfl,mj,vs⟩:=c
  intro o eo _ _ _
  have a0:=at0 rfl
  refine ⟨k.v,vs o eo, ?_, ?_, ?_, ?_, ?_⟩
  ·rw [a0.ms]; exact lc6 f1 rfl
  ·show k.w.length < 64
   exact lc6 f2 rfl
  ·rw [a0.ms]
   exact Zko (h.fi.sm h.h9) (h.w.sm h.h9) h.fi.pos h.w.pos f1 f2
  ·have ne:mkSet ((X k.q).ms++k.v.hs)≠[]:=fun z=>by
    have:(k.q:Int)∈mkSet ((X k.q).ms++k.v.hs):=by rw [ZaH,a0.ms]; exact List.mem_append_left _ a0.mem
    rw [z] at this; cases this
   have f:Fi k.M (mkSet ((X k.q).ms++k.v.hs)):=⟨ne,ZbO _,fun i hi=>by
    rw [ZaH,a0.ms,List.mem_append] at hi
    exact hi.elim (h.fi.lt i) (h.w.lt i)⟩
   exact la7 (Nat.le_trans f.len h.h9) rfl
  ·exact Zd1 (Nat.le_trans h.R (by decide))
 | ent n=>
  obtain ⟨_,e2,e3,_⟩:=c
  exact ⟨by rw [e2]; exact Zd1 (by exact la7 f2 rfl),by rw [e3]; exact Zd1 (Nat.le_trans h.R (by decide))⟩
 | wish m=>exact c.elim
 | hold m p=>exact c.elim
 | have_ n=>exact c.elim
 | take n=>exact c.elim
 | prep b=>trivial
 | acc a=>trivial
end
structure J4 (k:K4)(N:Nat)(U:List Letter)(X:Nat->Hd):Prop where
 w:wsum U=N
 b:N<=2000
 i:I4 k U X
theorem step4 {k:K4}(h:K4ok k):∀N L U X,J4 k N (L::U) X->StJ k.M (J4 k) N L U X:=fun N L U X J=>by
 have I:=J.i
 have hw:wgt L.c+wsum U=N:=J.w
 have hb:=J.b
 have lu:=Zfa U
 obtain ⟨s,t,e1,e2,e3,e4,e5,c⟩:=(I.lt L (.head _)).ex
 have g:G4 k X U t (wgt L.c) (comeF t (X t) U L):=by
  obtain ⟨src,to,lp,cc⟩:=L
  cases e1; cases e2; cases e5
  have un:newsOf cc=none->((A0 k t (X t))->(t:Int)∈k.up->G4 k X U t (wgt cc) (stepF t 0 (X t) U s cc))->G4 k X U t (wgt cc) (comeF t (X t) U ⟨s,t,0,cc⟩):=fun hn q=>by
   cases I.hd t e4 with
   | a a=>
    by_cases hu:(t:Int)∈k.up
    ·rw [Zd2 (by rw [a.up]; exact decide_eq_true hu) a.pl rfl hn]
     exact q a hu
    ·rw [ZdP (by rw [a.up]; exact decide_eq_false hu)]
     exact .no (down4 h I c a hu) (Zeo cc)
   | w a=>
    rw [Ziz a.pl0 rfl hn]
    exact .no (far4 h hn I c a e4) (Zeo cc)
   | o a e=>
    cases cc with
    | prep b=>exact absurd c.2.2 a
    | prom b r y=>exact absurd (h.sub _ h.q) (c.2.2.2.2▸a)
    | acc y=>exact absurd c.2.2.1 a
    | agr b=>exact absurd (h.sub _ h.q) (c.2.2.1▸a)
    | ent n=>cases hn
    | _=>exact c.elim
  cases cc with
  | prep b=>exact un rfl fun a hu=>prep4 h I c a hu
  | prom b r y=>
   obtain rfl:t=k.q:=c.2.2.2.2
   exact un rfl fun a hu=>prom4 h I c a e3
  | acc y=>exact un rfl fun a hu=>acc4 h I c a hu
  | agr b=>
   obtain rfl:t=k.q:=c.2.2.1
   exact un rfl fun a hu=>agr4 h I c a e3
  | ent n=>exact ent4 h I c e4
  | _=>exact c.elim
 have gw:=g.w
 exact ⟨t,e2,e4,okA4 h (I.hd t e4) (Nat.le_trans lu (Nat.le_trans (Nat.le_trans (Nat.le_add_left ..) (Nat.le_of_eq hw)) hb)),fun ø hp=>okC4 h I e2 e4 hp,_,by exact Nat.lt_of_lt_of_le gw (Nat.le_of_eq hw),rfl,by exact Nat.le_trans (Nat.le_of_lt gw) (lc3 hw hb),g.i⟩
structure B0 (k:K4)(t:Nat)(x:Hd):Prop where
 mem:(t:Int)∈k.fi
 up:x.up=decide ((t:Int)∈k.up)
 pl:x.place=some 0
 ms:x.ms=k.fi
 row:x.row=k.R
 took:x.took=k.R.length
 gone:x.gone=[]
 hol:x.holds.length<=1000
 bal:x.bal=(0, -1)
 still:x.still=false
 agd:x.agd=none
 off:x.off=none
theorem start4 {k:K4}{X:Nat->Hd}(h:K4ok k)(hb:∀t:Nat,t < k.M->(t:Int)∈k.fi->B0 k t (X t))(ho:∀t:Nat,t < k.M->(t:Int)∉k.fi->X t=x00):J4 k (wsum (sendF k.q 0 k.fi (.prep k.bq))) (sendF k.q 0 k.fi (.prep k.bq)) (updX X k.q { X k.q with off:=some ⟨k.bq,k.w,[],none,[],false⟩}):=by
 obtain ⟨f1,f2,f3⟩:=h.fl
 have en0:0 < k.en:=Nat.succ_pos _
 have oq:Oq4 k ⟨k.bq,k.w,[],none,[],false⟩:=⟨rfl,rfl,(fun ø z=>nomatch z),.nil,(fun ø z=>nomatch z),fun ø=>en0,(fun ø z=>nomatch z),.nil,fun ø=>en0,fun z=>nomatch z⟩
 have ha:∀u,u < k.M->(u:Int)∈k.fi->A0 k u (updX X k.q { X k.q with off:=some ⟨k.bq,k.w,[],none,[],false⟩} u)/\(updX X k.q { X k.q with off:=some ⟨k.bq,k.w,[],none,[],false⟩} u).still=false:=fun u hu m=>by
  have b:=hb u hu m
  by_cases c:u=k.q
  ·subst c
   rw [Zai]
   exact ⟨⟨m,b.up,b.pl,b.ms,b.row,b.took,b.gone,b.hol,.inl ⟨b.bal,b.still,b.agd⟩,fun a e=>(by rw [show ({ X k.q with off:=some ⟨k.bq,k.w,[],none,[],false⟩}:Hd).agd=(X k.q).agd from rfl,b.agd] at e; cases e),fun o e=>⟨rfl,Option.some.inj e▸oq⟩,fun ø z=>nomatch z⟩,b.still⟩
  ·rw [Zaj c]
   exact ⟨⟨m,b.up,b.pl,b.ms,b.row,b.took,b.gone,b.hol,.inl ⟨b.bal,b.still,b.agd⟩,fun a e=>(by rw [b.agd] at e; cases e),fun o e=>(by rw [b.off] at e; cases e),fun z=>absurd z c⟩,b.still⟩
 have eo:∀{o},(updX X k.q { X k.q with off:=some ⟨k.bq,k.w,[],none,[],false⟩} k.q).off=some o->o=⟨k.bq,k.w,[],none,[],false⟩:=fun e=>by rw [Zai] at e; exact (Option.some.inj e).symm
 have nw:∀u,u < k.M->¬ Wn k u (updX X k.q { X k.q with off:=some ⟨k.bq,k.w,[],none,[],false⟩} u):=fun u hu w=>by
  by_cases m:(u:Int)∈k.fi
  ·exact w.pl0 (ha u hu m).1.pl
  ·have c:u≠k.q:=fun z=>m (z▸h.sub _ h.q)
   have:=w.hi m
   rw [Zaj c,ho u hu m] at this
   cases this
 refine ⟨rfl, ?_,fun u hu=>?_,fun L hL=>?_,⟨fun u hu a=>.inr ?_,fun u hu hs o e ev=>?_,fun u hu o e ev=>?_,fun ov=>?_⟩,fun u hu w=>absurd w (nw u hu)⟩
 ·rw [ZaW]
  show k.fi.length * 101<=2000
  exact lh7 f1 rfl
 ·by_cases m:(u:Int)∈k.fi
  ·exact .a (ha u hu m).1
  ·have c:u≠k.q:=fun z=>m (z▸h.sub _ h.q)
   exact .o m (by rw [Zaj c]; exact ho u hu m)
 ·obtain ⟨i,hi,e⟩:=List.mem_map.mp hL
  have li:=h.fi.lt i hi
  subst e
  exact ⟨k.q,i.toNat,rfl,show i=_ by exact la5 li,h.qM,by exact la6 li,rfl,rfl,rfl,by rw [show ((i.toNat:Nat):Int)=i by exact Int.toNat_of_nonneg li.1]; exact hi⟩
 ·exact ⟨_,List.mem_map.mpr ⟨_,h.sub _ hu,rfl⟩,rfl,_,rfl⟩
 ·have m:=h.sub _ hu
  have:=(ha u (by have:=h.fi.lt _ m; exact la4 this) m).2
  rw [hs] at this; cases this
 ·rw [eo e] at ev; exact absurd rfl ev
 ·have:=ov ⟨k.bq,k.w,[],none,[],false⟩ (by rw [Zai])
  cases this
structure K1 where
 M:Nat
 f:Nat
 fs:List Int
 W:List Msg
noncomputable def K1.fi (k:K1):List Int:=(k.f:Int)::k.fs
structure K1ok (k:K1):Prop where
 fi:Fi k.M k.fi
 h9:k.M<=9
 W:k.W.length<=3
 nd:∀a b m,k.W=a++m::b->hasM a m=false
noncomputable def sim (h:Int):List Letter->List Msg×Int->Option (List Msg×Int)
 | [],x=>some x
 | L::r,x=>if L.to=h then (match L.c with
  | .hold m p=>if (x.1.length:Int) < p then none else if p=x.1.length then sim h r (x.1++[m],x.2) else sim h r x
  | .take c=>sim h r (x.1,mx x.2 (mn c x.1.length))
  | _=>sim h r x) else sim h r x
noncomputable def wsh:List Letter->List Msg
 | []=>[]
 | L::r=>match L.c with
  | .wish m=>m::wsh r
  | _=>wsh r
theorem Zdl {h:Int}{b:List Letter}:∀(a:List Letter) (x:List Msg×Int),sim h (a++b) x=(sim h a x).bind (sim h b):=by
 intro zz0
 induction zz0 with
 | nil=>
  intro x
  exact rfl
 | cons L r ih=>
  intro x
  show (if L.to=h then (match L.c with
   | .hold m p=>if (x.1.length:Int) < p then none else if p=x.1.length then sim h (r++b) (x.1++[m],x.2) else sim h (r++b) x
   | .take c=>sim h (r++b) (x.1,mx x.2 (mn c x.1.length))
   | _=>sim h (r++b) x) else sim h (r++b) x)=(if L.to=h then (match L.c with
   | .hold m p=>if (x.1.length:Int) < p then none else if p=x.1.length then sim h r (x.1++[m],x.2) else sim h r x
   | .take c=>sim h r (x.1,mx x.2 (mn c x.1.length))
   | _=>sim h r x) else sim h r x).bind (sim h b)
  by_cases c:L.to=h
  ·rw [if_pos c,if_pos c]
   cases L.c with
   | hold m p=>
    show (if (x.1.length:Int) < p then none else if p=x.1.length then sim h (r++b) (x.1++[m],x.2) else sim h (r++b) x)=(if (x.1.length:Int) < p then none else if p=x.1.length then sim h r (x.1++[m],x.2) else sim h r x).bind (sim h b)
    by_cases d:(x.1.length:Int) < p
    ·rw [if_pos d,if_pos d]; rfl
    ·rw [if_neg d,if_neg d]
     by_cases e:p=x.1.length
     ·rw [if_pos e,if_pos e]; exact ih _
     ·rw [if_neg e,if_neg e]; exact ih _
   | take n=>exact ih _
   | _=>exact ih _
  ·rw [if_neg c,if_neg c]; exact ih _
theorem ZeC {b:List Letter}:∀a:List Letter,wsh (a++b)=wsh a++wsh b:=by
 intro zz0
 induction zz0 with
 | nil=>
  exact rfl
 | cons L r ih=>
  show (match L.c with | .wish m=>m::wsh (r++b) | _=>wsh (r++b))=(match L.c with | .wish m=>m::wsh r | _=>wsh r)++wsh b
  cases L.c with
  | wish m=>exact congrArg (m::·) (ih)
  | _=>exact ih
theorem Zfl {h:Int}{n pl:Int}{c:Cont}:∀(ts:List Int) (x:List Msg×Int),ts.Nodup->sim h (sendF n pl ts c) x=if h∈ts then sim h [⟨n,h,pl,c⟩] x else some x:=by
 intro zz0
 induction zz0 with
 | nil=>
  intro x _
  exact rfl
 | cons t r ih=>
  intro x nd
  have nd:=List.nodup_cons.mp nd
  have ne:∀y,sim h (sendF n pl (t::r) c) y=(sim h [⟨n,t,pl,c⟩] y).bind (sim h (sendF n pl r c)):=fun y=>Zdl [⟨n,t,pl,c⟩] y
  rw [ne]
  by_cases d:t=h
  ·subst d
   rw [if_pos (.head _)]
   have q:∀y,sim t (sendF n pl r c) y=some y:=fun y=>by rw [ih y nd.2,if_neg nd.1]
   cases e:sim t [⟨n,t,pl,c⟩] x with
   | none=>rfl
   | some y=>exact q y
  ·have q:sim h [⟨n,t,pl,c⟩] x=some x:=if_neg d
   rw [q]
   show sim h (sendF n pl r c) x=_
   rw [ih x nd.2]
   by_cases m:h∈r
   ·rw [if_pos m,if_pos (.tail _ m)]
   ·rw [if_neg m,if_neg fun z=>(List.mem_cons.mp z).elim (fun y=>d y.symm) m]
theorem Zk0 {x y:Int}:∀l:List Int,y∈ins x l->y=x\/y∈l:=by
 intro zz0
 induction zz0 with
 | nil=>
  intro h
  exact .inl (List.mem_singleton.mp h)
 | cons a r ih=>
  intro h
  have h:y∈(if x<=a then x::a::r else a::ins x r):=h
  by_cases c:x<=a
  ·rw [if_pos c] at h; exact List.mem_cons.mp h
  ·rw [if_neg c] at h
   rcases List.mem_cons.mp h with z | z
   ·exact .inr (z▸ .head _)
   ·exact (ih z).imp id (.tail _)
theorem ZjW {y:Int}:∀l:List Int,y∈srt l->y∈l:=by
 intro zz0
 induction zz0 with
 | nil=>
  intro h
  exact h
 | cons a r ih=>
  intro h
  exact (Zk0 _ h).elim (fun z=>z▸ .head _) fun z=>.tail _ (ih z)
theorem Zge {M:Nat}{k:Int}{ms:List Int}{len:Nat}{ho:List (Int×Int)}(h:Fi M ms):hbe k ms len ho=len\/∃i∈oth k ms,hbe k ms len ho=hoD ho i:=by
 have lt:ms.length / 2 < (srt (cnts k ms len ho)).reverse.length:=by
  rw [List.length_reverse,Zer]
  show _ < ((oth k ms).map (hoD ho)).length+1
  rw [List.length_map]
  exact Zb9 h
 have e:hbe k ms len ho=(srt (cnts k ms len ho)).reverse[ms.length / 2]:=by
  unfold hbe
  rw [List.getElem?_eq_getElem lt]; rfl
 have m:hbe k ms len ho∈cnts k ms len ho:=ZjW _ (List.mem_reverse.mp (e▸List.getElem_mem lt))
 rcases List.mem_cons.mp m with z | z
 ·exact .inl z
 ·obtain ⟨i,hi,q⟩:=List.mem_map.mp z
  exact .inr ⟨i,hi,q.symm⟩
structure Lk (k:K1)(x:Hd)(U:List Letter)(r:Hd×List Letter):Prop where
 ex:∃τ ns,r=({ x with took:=τ },U++ns)/\wsum ns<=k.fs.length/\wsh ns=[]/\(∀L∈ns,∃h∈k.fs,∃c,L=⟨k.f,h,0,.take c⟩)
  /\hbe k.f k.fi x.row.length x.holds<=τ/\τ<=x.row.length/\x.took<=τ
  /\∀h∈k.fs,∀y,sim h U y=some (x.row,x.took)->sim h (U++ns) y=some (x.row,τ)
theorem K1ok.others {k:K1}(h:K1ok k):oth k.f k.fi=k.fs:=by
 have nd:=List.nodup_cons.mp h.fi.nd
 unfold oth K1.fi
 rw [List.filter_cons,decide_eq_true rfl]
 exact List.filter_eq_self.mpr fun x hx=>by
  rw [decide_eq_false (show x≠(k.f:Int) from fun z=>nd.1 (z▸hx))]; rfl
theorem look1 {k:K1}{x:Hd}{U:List Letter}(h:K1ok k)(hm:x.ms=k.fi)(bd:∀i∈k.fs,hoD x.holds i<=x.row.length)(t0:0<=x.took)(t1:x.took<=x.row.length):Lk k x U (lookF k.f 0 x U):=by
 have hb:hbe k.f k.fi x.row.length x.holds<=x.row.length:=by
  rcases Zge (k:=k.f) (len:=x.row.length) (ho:=x.holds) h.fi with z | ⟨i,hi,z⟩
  ·rw [z]; exact Int.le_refl _
  ·rw [z]; rw [h.others] at hi; exact bd i hi
 unfold lookF
 rw [hm,h.others]
 by_cases c:x.took < hbe k.f k.fi x.row.length x.holds
 ·rw [Zb5 (decide_eq_true c)]
  refine ⟨hbe k.f k.fi x.row.length x.holds,sendF k.f 0 k.fs (.take (hbe k.f k.fi x.row.length x.holds)),by rw [← hm], ?_, ?_,fun L hL=>?_,Int.le_refl _,hb,Int.le_of_lt c,fun i hi y e=>?_⟩
  ·rw [ZaW]; exact Nat.le_of_eq (Nat.mul_one _)
  ·have:∀l:List Int,wsh (sendF k.f 0 l (.take (hbe k.f k.fi x.row.length x.holds)))=[]:=fun l=>by
    induction l with
    | nil=>rfl
    | cons a r ih=>exact ih
   exact this _
  ·obtain ⟨i,hi,e⟩:=List.mem_map.mp hL
   exact ⟨i,hi,_,e.symm⟩
  ·have nd:=(List.nodup_cons.mp h.fi.nd).2
   rw [Zdl,e]
   show sim i (sendF k.f 0 k.fs _) (x.row,x.took)=_
   rw [Zfl _ _ nd,if_pos hi]
   show (if i=i then some (x.row,mx x.took (mn (hbe k.f k.fi x.row.length x.holds) x.row.length)) else _)=_
   rw [if_pos rfl]
   have e1:mn (hbe k.f k.fi x.row.length x.holds) x.row.length=hbe k.f k.fi x.row.length x.holds:=by
    unfold mn
    by_cases q:(x.row.length:Int) < hbe k.f k.fi x.row.length x.holds
    ·rw [if_pos q]; exact Int.le_antisymm (Int.le_of_lt q) hb
    ·rw [if_neg q]
   rw [e1]
   unfold mx
   rw [if_pos c]
 ·rw [ZbT (decide_eq_false c)]
  exact ⟨x.took,[],by rw [List.append_nil],Nat.zero_le _,rfl,(fun ø z=>nomatch z),Int.not_lt.mp c,t1,Int.le_refl _,fun i hi y e=>by rw [List.append_nil]; exact e⟩
structure Sw1 (k:K1)(x:Hd):Prop where
 up:x.up=true
 pl:x.place=some 0
 ms:x.ms=k.fi
 gone:x.gone=[]
 still:x.still=false
 bal:x.bal=(0, -1)
 agd:x.agd=none
 off:x.off=none
 rl:x.row.length<=3
noncomputable def T1 (k:K1)(X:Nat->Hd)(L:Letter):Prop:=L.pl=0/\match L.c with
 | .wish _=>L.to=k.f
 | .hold _ _=>L.from_=k.f/\L.to∈k.fs
 | .have_ c=>L.from_∈k.fs/\L.to=k.f/\c<=(X k.f).row.length
 | .take _=>L.to∈k.fs
 | _=>False
noncomputable def isHold (h:Int)(L:Letter):Prop:=L.to=h/\∃m p,L.c=.hold m p
noncomputable def isHave (h:Int)(n:Nat)(L:Letter):Prop:=L.from_=h/\∃c,L.c=.have_ c/\(n:Int)<=c
structure I1 (k:K1)(U:List Letter)(X:Nat->Hd):Prop where
 hd:∀t:Nat,(t:Int)∈k.fi->Sw1 k (X t)
 out:∀t:Nat,t < k.M->(t:Int)∉k.fi->X t=x00
 hl:∀t:Nat,(t:Int)∈k.fi->(X t).holds.length+wsum U<=400
 sm:∀t:Nat,(t:Int)∈k.fs->sim t U ((X t).row,(X t).took)=some ((X k.f).row,(X k.f).took)
 ws:(X k.f).row++wsh U=k.W
 pv:∀t:Nat,(t:Int)∈k.fs->(∃L∈U,isHold t L)\/((X t).row.length:Int)<=hoD (X k.f).holds t\/∃L∈U,isHave t (X t).row.length L
 bd:∀i∈k.fs,hoD (X k.f).holds i<=(X k.f).row.length
 tk:hbe k.f k.fi (X k.f).row.length (X k.f).holds<=(X k.f).took/\(X k.f).took<=(X k.f).row.length/\0<=(X k.f).took
 lt:∀L∈U,T1 k X L
theorem K1ok.fM {k:K1}(h:K1ok k):k.f < k.M:=by have:=h.fi.lt _ (.head _); exact la4 this
theorem K1ok.sub {k:K1}{i:Int}(hi:i∈k.fs):i∈k.fi:=.tail _ hi
theorem K1ok.ne {k:K1}(h:K1ok k){t:Nat}(ht:(t:Int)∈k.fs):t≠k.f:=fun z=>(List.nodup_cons.mp h.fi.nd).1 (z▸ht)
theorem end1 {k:K1}{X:Nat->Hd}(h:K1ok k)(I:I1 k [] X):∀t:Nat,(t:Int)∈k.fi->(X t).row=k.W/\(X t).took=k.W.length:=by
 have rf:(X k.f).row=k.W:=by have:=I.ws; rw [show wsh []=[] from rfl,List.append_nil] at this; exact this
 have ro:∀t:Nat,(t:Int)∈k.fs->(X t).row=k.W/\(X t).took=(X k.f).took:=fun t ht=>by
  have:=I.sm t ht
  have e:((X t).row,(X t).took)=((X k.f).row,(X k.f).took):=Option.some.inj this
  exact ⟨(congrArg Prod.fst e).trans rf,congrArg Prod.snd e⟩
 have tf:(X k.f).took=k.W.length:=by
  have t:=I.tk
  rw [rf] at t
  refine Int.le_antisymm t.2.1 (Int.le_trans ?_ t.1)
  rcases Zge (k:=k.f) (len:=k.W.length) (ho:=(X k.f).holds) h.fi with z | ⟨i,hi,z⟩
  ·rw [z]; exact Int.le_refl _
  ·rw [z]
   rw [h.others] at hi
   have li:=h.fi.lt i (K1ok.sub hi)
   obtain ⟨u,rfl⟩:∃u:Nat,i=u:=⟨i.toNat,by exact la5 li⟩
   have:=I.pv u hi
   rw [(ro u hi).1] at this
   exact this.elim (fun ⟨_,z,_⟩=>nomatch z) fun z=>z.elim id fun ⟨_,z,_⟩=>nomatch z
 intro t ht
 rcases List.mem_cons.mp ht with z | z
 ·have:t=k.f:=Int.ofNat.inj z
  subst this; exact ⟨rf,tf⟩
 ·exact ⟨(ro t z).1,(ro t z).2.trans tf⟩
theorem ZgL {h:Int}:∀(U:List Letter) (x y:List Msg×Int),sim h U x=some y->x.1.length<=y.1.length:=by
 intro zz0
 induction zz0 with
 | nil=>
  intro x y e
  cases e; exact Nat.le_refl _
 | cons L r ih=>
  intro x y e
  have e:(if L.to=h then (match L.c with
   | .hold m p=>if (x.1.length:Int) < p then none else if p=x.1.length then sim h r (x.1++[m],x.2) else sim h r x
   | .take c=>sim h r (x.1,mx x.2 (mn c x.1.length))
   | _=>sim h r x) else sim h r x)=some y:=e
  by_cases c:L.to=h
  ·rw [if_pos c] at e
   cases hc:L.c with
   | hold m p=>
    rw [hc] at e
    have e:(if (x.1.length:Int) < p then none else if p=x.1.length then sim h r (x.1++[m],x.2) else sim h r x)=some y:=e
    by_cases d:(x.1.length:Int) < p
    ·rw [if_pos d] at e; cases e
    ·rw [if_neg d] at e
     by_cases q:p=x.1.length
     ·rw [if_pos q] at e
      have:=ih _ _ e
      rw [show ((x.1++[m],x.2):List Msg×Int).1=x.1++[m] from rfl,List.length_append] at this
      exact Nat.le_trans (Nat.le_add_right ..) this
     ·rw [if_neg q] at e; exact ih _ _ e
   | take n=>rw [hc] at e; exact ih (x.1,mx x.2 (mn n x.1.length)) y e
   | wish _=>rw [hc] at e; exact ih _ _ e
   | have_ _=>rw [hc] at e; exact ih _ _ e
   | prep _=>rw [hc] at e; exact ih _ _ e
   | prom _ _ _=>rw [hc] at e; exact ih _ _ e
   | acc _=>rw [hc] at e; exact ih _ _ e
   | agr _=>rw [hc] at e; exact ih _ _ e
   | ent _=>rw [hc] at e; exact ih _ _ e
  ·rw [if_neg c] at e; exact ih _ _ e
theorem Zce {h:Int}{L:Letter}{U:List Letter}{x:List Msg×Int}(n:L.to≠h):sim h (L::U) x=sim h U x:=if_neg n
theorem ZjP {i s v:Int}:∀l:List (Int×Int),hoD (hoS l s v) i=if i=s then v else hoD l i:=by
 intro zz0
 induction zz0 with
 | nil=>
  show cond (decide (s=i)) v 0=_
  by_cases c:i=s
  ·rw [if_pos c,decide_eq_true c.symm]; rfl
  ·rw [if_neg c,decide_eq_false fun z=>c z.symm]; rfl
 | cons p r ih=>
  show hoD (cond (decide (p.1=s)) ((p.1,v)::r) (p::hoS r s v)) i=if i=s then v else cond (decide (p.1=i)) p.2 (hoD r i)
  by_cases d:p.1=s
  ·rw [decide_eq_true d]
   show cond (decide (p.1=i)) v (hoD r i)=_
   by_cases c:i=s
   ·rw [if_pos c,decide_eq_true (d.trans c.symm)]; rfl
   ·rw [if_neg c,decide_eq_false fun z=>c (z.symm.trans d)]; rfl
  ·rw [decide_eq_false d]
   show cond (decide (p.1=i)) p.2 (hoD (hoS r s v) i)=_
   rw [ih]
   by_cases c:i=s
   ·rw [if_pos c,if_pos c,decide_eq_false fun z=>d (z.trans c)]; rfl
   ·rw [if_neg c,if_neg c]
theorem ZkX {s v:Int}:∀l:List (Int×Int),(hoS l s v).length<=l.length+1:=by
 intro zz0
 induction zz0 with
 | nil=>
  exact Nat.le_refl _
 | cons p r ih=>
  show (cond (decide (p.1=s)) ((p.1,v)::r) (p::hoS r s v)).length<=_
  cases decide (p.1=s) with
  | true=>exact Nat.le_succ _
  | false=>exact Nat.succ_le_succ (ih)
structure G1 (k:K1)(X:Nat->Hd)(U:List Letter)(t w:Nat)(r:Hd×List Letter):Prop where
 i:I1 k r.2 (updX X t r.1)
 w:wsum r.2 < w+wsum U
section
variable {k:K1}{X:Nat->Hd}{U:List Letter}{s:Int}
theorem K1ok.fl (h:K1ok k):k.fs.length<=8:=by
 exact Nat.le_of_succ_le_succ (Nat.le_trans h.fi.len h.h9)
theorem first1 (h:K1ok k){Lt:Letter}{w:Nat}{x:Hd}{ms:List Letter}{r:Hd×List Letter}(I:I1 k (Lt::U) X)(ew:wgt Lt.c=w)(hx:Sw1 k x)(lk:Lk k x (U++ms) r)(t0:0<=x.took)
  (hw:wsum ms+k.fs.length < w) (hl:x.holds.length+wsum ms+k.fs.length<=(X k.f).holds.length+w)
  (sm:∀t:Nat,(t:Int)∈k.fs->sim t (U++ms) ((X t).row,(X t).took)=some (x.row,x.took))
  (ws:x.row++wsh (U++ms)=k.W)
  (pv:∀t:Nat,(t:Int)∈k.fs->(∃L∈U++ms,isHold t L)\/((X t).row.length:Int)<=hoD x.holds t\/∃L∈U++ms,isHave t (X t).row.length L)
  (bd:∀i∈k.fs,hoD x.holds i<=x.row.length) (rl:(X k.f).row.length<=x.row.length)
  (lt:∀L∈ms,T1 k (updX X k.f x) L):G1 k X U k.f w r:=by
 obtain ⟨τ,ns,rfl,wn,hn,tn,b1,b2,b3,sn⟩:=lk.ex
 have mL:∀{L},L∈U++ms->L∈U++ms++ns:=fun z=>List.mem_append_left _ z
 have ww:wsum (U++ms++ns)<=wsum U+wsum ms+k.fs.length:=by rw [ZaZ,ZaZ]; exact la9 (Nat.le_refl _) wn
 have hw0:wsum (Lt::U)=w+wsum U:=by rw [← ew]; rfl
 have at_:updX X k.f { x with took:=τ } k.f={ x with took:=τ }:=Zai
 have ne:∀t:Nat,(t:Int)∈k.fs->updX X k.f { x with took:=τ } t=X t:=fun t ht=>Zaj (h.ne ht)
 have lim:=I.hl k.f (.head _)
 refine ⟨⟨fun t ht=>?_,fun t hM ht=>?_,fun t ht=>?_,fun t ht=>?_, ?_,fun t ht=>?_, ?_, ?_,fun L hL=>?_⟩,lm1 ww hw⟩
 ·rcases List.mem_cons.mp ht with z | z
  ·have:t=k.f:=Int.ofNat.inj z
   subst this
   rw [at_]
   exact ⟨hx.up,hx.pl,hx.ms,hx.gone,hx.still,hx.bal,hx.agd,hx.off,hx.rl⟩
  ·rw [ne t z]; exact I.hd t ht
 ·rw [Zaj (show t≠k.f from fun z=>ht (by rw [z]; exact .head _))]; exact I.out t hM ht
 ·rcases List.mem_cons.mp ht with z | z
  ·have:t=k.f:=Int.ofNat.inj z
   subst this
   rw [at_]
   exact lm2 ww hl (hw0▸lim)
  ·have:=I.hl t ht
   rw [ne t z]
   exact lm3 (lm1 ww hw) (hw0▸this)
 ·rw [at_,ne t ht]
  exact sn t ht _ (sm t ht)
 ·rw [at_,ZeC,hn,List.append_nil]; exact ws
 ·rw [at_,ne t ht]
  exact (pv t ht).imp (fun ⟨L,a,b⟩=>⟨L,mL a,b⟩) fun z=>z.imp id fun ⟨L,a,b⟩=>⟨L,mL a,b⟩
 ·rw [at_]; exact bd
 ·rw [at_]; exact ⟨b1,b2,Int.le_trans t0 b3⟩
 ·have up:∀{L},T1 k X L->T1 k (updX X k.f { x with took:=τ }) L:=fun {L} z=>by
   refine ⟨z.1, ?_⟩
   have z:=z.2
   cases hc:L.c with
   | have_ c=>
    rw [hc] at z
    refine ⟨z.1,z.2.1, ?_⟩
    rw [at_]
    exact Int.le_trans z.2.2 (Int.ofNat_le.mpr rl)
   | _=>rw [hc] at z; exact z
  rcases List.mem_append.mp hL with z | z
  ·rcases List.mem_append.mp z with y | y
   ·exact up (I.lt L (.tail _ y))
   ·refine ⟨(lt L y).1, ?_⟩
    have q:=(lt L y).2
    cases hc:L.c with
    | have_ c=>
     rw [hc] at q
     refine ⟨q.1,q.2.1, ?_⟩
     have q:=q.2.2
     rw [Zai] at q
     rw [at_]; exact q
    | _=>rw [hc] at q; exact q
  ·obtain ⟨i,hi,c,e⟩:=tn L z
   subst e
   exact ⟨rfl,hi⟩
end
section
variable {k:K1}{X:Nat->Hd}{U:List Letter}{s:Int}
theorem Sw1.row' {x:Hd}{r:List Msg}(h:Sw1 k x)(hr:r.length<=3):Sw1 k { x with row:=r }:=⟨h.up,h.pl,h.ms,h.gone,h.still,h.bal,h.agd,h.off,hr⟩
theorem wish1 (h:K1ok k){m:Msg}(I:I1 k (⟨s,k.f,0,.wish m⟩::U) X):G1 k X U k.f 109 (wishF k.f 0 (X k.f) U m):=by
 have hf:=I.hd k.f (.head _)
 have ws:(X k.f).row++m::wsh U=k.W:=I.ws
 have hm:=h.nd _ _ _ ws.symm
 have fl:=h.fl
 have nd:=(List.nodup_cons.mp h.fi.nd).2
 have lw:(X k.f).row.length+1<=3:=by
  have:=h.W
  rw [← ws,List.length_append,List.length_cons] at this
  exact lg8 this
 have l1:((X k.f).row++[m]).length=(X k.f).row.length+1:=List.length_append
 have e:wishF k.f 0 (X k.f) U m=lookF k.f 0 { X k.f with row:=(X k.f).row++[m] } (U++sendF k.f 0 k.fs (.hold m (X k.f).row.length)):=by
  have eo:oth k.f (X k.f).ms=k.fs:=by rw [hf.ms,h.others]
  unfold wishF
  rw [ZbT hf.still,ZbT hm,eo]
 have bd1:∀i∈k.fs,hoD (X k.f).holds i<=(((X k.f).row++[m]).length:Nat):=fun i hi=>by
  have:=I.bd i hi
  rw [l1]; exact Int.le_trans this (ld2 (Nat.le_add_right _ _))
 have tk:=I.tk
 rw [e]
 have wz:∀l:List Int,wsh (sendF k.f 0 l (.hold m (X k.f).row.length))=[]:=fun l=>by
  induction l with
  | nil=>rfl
  | cons a r ih=>exact ih
 refine first1 h (x:={ X k.f with row:=(X k.f).row++[m] }) I rfl (hf.row' (by rw [l1]; exact lw)) (look1 h hf.ms bd1 tk.2.2 (by show (X k.f).took<=(((X k.f).row++[m]).length:Nat); rw [l1]; exact Int.le_trans tk.2.1 (ld2 (Nat.le_add_right _ _)))) tk.2.2 ?_ ?_ (fun t ht=>?_) ?_ (fun t ht=>.inl ?_) bd1 (by show _<=((X k.f).row++[m]).length; exact la8 (Nat.le_of_eq l1.symm)) fun L hL=>?_
 ·rw [ZaW]
  show k.fs.length * 11+_ < 109
  lia
 ·rw [ZaW]
  show (X k.f).holds.length+k.fs.length * 11+_<=_
  lia
 ·have:=I.sm t ht
  rw [Zce (show ((⟨s,k.f,0,.wish m⟩:Letter).to:Int)≠(t:Int) from fun z=>h.ne ht (Int.ofNat.inj z).symm)] at this
  rw [Zdl,this]
  show sim t (sendF k.f 0 k.fs _) ((X k.f).row,(X k.f).took)=_
  rw [Zfl _ _ nd,if_pos ht]
  show (if (t:Int)=t then (if (((X k.f).row.length:Nat):Int) < (X k.f).row.length then none else if ((X k.f).row.length:Int)=(X k.f).row.length then some ((X k.f).row++[m],(X k.f).took) else _) else _)=_
  rw [if_pos rfl,if_neg (Int.lt_irrefl _),if_pos rfl]
 ·show ((X k.f).row++[m])++wsh (U++_)=_
  rw [ZeC,wz,List.append_nil,List.append_assoc]; exact ws
 ·exact ⟨_,List.mem_append_right _ (List.mem_map.mpr ⟨_,ht,rfl⟩),rfl,_,_,rfl⟩
 ·obtain ⟨i,hi,e⟩:=List.mem_map.mp hL
  subst e
  exact ⟨rfl,rfl,hi⟩
theorem have1 (h:K1ok k){c:Int}{u:Nat}(hu:(u:Int)∈k.fs)(I:I1 k (⟨u,k.f,0,.have_ c⟩::U) X):G1 k X U k.f 10 (lookF k.f 0 { X k.f with holds:=hoS (X k.f).holds u (mx c (hoD (X k.f).holds u)) } U):=by
 have hf:=I.hd k.f (.head _)
 have fl:=h.fl
 have tk:=I.tk
 have hc:c<=(X k.f).row.length:=(I.lt _ (.head _)).2.2.2
 have mxl:∀a b:Int,a<=mx a b/\b<=mx a b/\(mx a b=a\/mx a b=b):=fun a b=>by
  unfold mx
  by_cases q:b > a
  ·rw [if_pos q]; exact ⟨Int.le_of_lt q,Int.le_refl _,.inr rfl⟩
  ·rw [if_neg q]; exact ⟨Int.le_refl _,Int.not_lt.mp q,.inl rfl⟩
 have bd1:∀i∈k.fs,hoD (hoS (X k.f).holds u (mx c (hoD (X k.f).holds u))) i<=((X k.f).row.length:Nat):=fun i hi=>by
  rw [ZjP]
  by_cases q:i=u
  ·rw [if_pos q]
   rcases (mxl c (hoD (X k.f).holds u)).2.2 with z | z
   ·rw [z]; exact hc
   ·rw [z]; exact I.bd _ hu
  ·rw [if_neg q]; exact I.bd i hi
 have lk:=look1 (U:=U) h (x:={ X k.f with holds:=hoS (X k.f).holds u (mx c (hoD (X k.f).holds u)) }) hf.ms bd1 tk.2.2 tk.2.1
 have e0:U++[]=U:=List.append_nil U
 refine first1 h (x:={ X k.f with holds:=hoS (X k.f).holds u (mx c (hoD (X k.f).holds u)) }) (ms:=[]) I rfl ⟨hf.up,hf.pl,hf.ms,hf.gone,hf.still,hf.bal,hf.agd,hf.off,hf.rl⟩ (e0.symm▸lk) tk.2.2 ?_ ?_ (fun t ht=>?_) ?_ (fun t ht=>?_) bd1 (Nat.le_refl _) fun ø z=>nomatch z
 ·show 0+_ < 10
  exact Nat.lt_succ_of_le (Nat.le_succ_of_le (lf4 fl))
 ·have:=ZkX (s:=(u:Int)) (v:=mx c (hoD (X k.f).holds u)) (X k.f).holds
  show (hoS (X k.f).holds u _).length+0+_<=_
  exact la9 (lk2 (Nat.le_refl _) this) (la7 fl rfl)
 ·have:=I.sm t ht
  rw [Zce (show ((⟨u,k.f,0,.have_ c⟩:Letter).to:Int)≠(t:Int) from fun z=>h.ne ht (Int.ofNat.inj z).symm)] at this
  rw [e0]; exact this
 ·rw [e0]; exact I.ws
 ·rw [e0]
  have ge:hoD (X k.f).holds t<=hoD (hoS (X k.f).holds u (mx c (hoD (X k.f).holds u))) t:=by
   rw [ZjP]
   by_cases q:(t:Int)=u
   ·rw [if_pos q,q]; exact (mxl c _).2.1
   ·rw [if_neg q]; exact Int.le_refl _
  rcases I.pv t ht with ⟨L,hL,q⟩ | z | ⟨L,hL,q⟩
  ·exact .inl ⟨L,(List.mem_cons.mp hL).elim (fun z=>by subst z; obtain ⟨_,_,_,y⟩:=q; cases y) id,q⟩
  ·exact .inr (.inl (Int.le_trans z ge))
  ·rcases List.mem_cons.mp hL with y | y
   ·subst y
    obtain ⟨e1,c',e2,e3⟩:=q
    cases e2
    refine .inr (.inl ?_)
    show _<=hoD (hoS (X k.f).holds u (mx c (hoD (X k.f).holds u))) t
    rw [ZjP,if_pos e1.symm]
    exact Int.le_trans e3 (mxl c _).1
   ·exact .inr (.inr ⟨L,y,q⟩)
end
section
variable {k:K1}{X:Nat->Hd}{U:List Letter}{t:Nat}
theorem other1 (h:K1ok k){Lt:Letter}{w:Nat}{x:Hd}{ns:List Letter}(I:I1 k (Lt::U) X)(ew:wgt Lt.c=w)(ht:(t:Int)∈k.fs)(to:Lt.to=t)(hx:Sw1 k x)(eh:x.holds=(X t).holds)(hw:wsum ns < w)(hn:wsh ns=[])(hq:wsh (Lt::U)=wsh U)
  (tn:∀L∈ns,T1 k X L/\L.to=k.f)
  (sm:sim t U (x.row,x.took)=some ((X k.f).row,(X k.f).took))
  (pv:(∃L∈ns,isHave t x.row.length L)\/(x.row=(X t).row/\¬ isHold t Lt/\∀u:Int,∀n,¬ isHave u n Lt)) (nv:∀u:Int,∀n,¬ isHave u n Lt):G1 k X U t w (x,U++ns):=by
 have nf:=h.ne ht
 have ef:updX X t x k.f=X k.f:=Zaj fun z=>nf z.symm
 have ww:wsum (U++ns)=wsum U+wsum ns:=ZaZ ..
 have w0:wsum (Lt::U)=w+wsum U:=by rw [← ew]; rfl
 have sn:∀(u:Nat) y,(u:Int)∈k.fs->sim u (U++ns) y=sim u U y:=fun u y hu=>by
  rw [Zdl]
  have:∀(l:List Letter),(∀L∈l,L.to=k.f)->∀z,sim u l z=some z:=fun l=>by
   induction l with
   | nil=>exact fun ø ø=>rfl
   | cons a r ih=>
    intro q z
    rw [Zce (show a.to≠(u:Int) by rw [q a (.head _)]; exact fun z=>h.ne hu (Int.ofNat.inj z).symm)]
    exact ih (fun L hL=>q L (.tail _ hL)) z
  have q:=this ns fun L hL=>(tn L hL).2
  cases sim u U y with
  | none=>rfl
  | some z=>exact q z
 refine ⟨⟨fun u hu=>?_,fun u hM hu=>?_,fun u hu=>?_,fun u hu=>?_, ?_,fun u hu=>?_, ?_, ?_,fun L hL=>?_⟩,ll5 ww hw⟩
 ·by_cases c:u=t
  ·subst c; rw [Zai]; exact hx
  ·rw [Zaj c]; exact I.hd u hu
 ·rw [Zaj (show u≠t from fun z=>hu (by rw [z]; exact .tail _ ht))]; exact I.out u hM hu
 ·have:=I.hl u hu
  by_cases c:u=t
  ·subst c; rw [Zai,eh]
   exact lm3 (ll5 ww hw) (w0▸this)
  ·rw [Zaj c]
   exact lm3 (ll5 ww hw) (w0▸this)
 ·rw [ef,sn u _ hu]
  by_cases c:u=t
  ·subst c; rw [Zai]; exact sm
  ·rw [Zaj c]
   have:=I.sm u hu
   rw [Zce (show Lt.to≠(u:Int) by rw [to]; exact fun z=>c (Int.ofNat.inj z).symm)] at this
   exact this
 ·rw [ef,ZeC,hn,List.append_nil,← hq]; exact I.ws
 ·rw [ef]
  by_cases c:u=t
  ·subst c
   rw [Zai]
   rcases pv with ⟨L,hL,q⟩ | ⟨er,n1,n2⟩
   ·exact .inr (.inr ⟨L,List.mem_append_right _ hL,q⟩)
   ·rw [er]
    exact (I.pv u hu).imp (fun ⟨L,hL,q⟩=>⟨L,List.mem_append_left _ (ZaV hL fun z=>n1 (z▸q)),q⟩) fun z=>z.imp id fun ⟨L,hL,q⟩=>⟨L,List.mem_append_left _ (ZaV hL fun z=>n2 _ _ (z▸q)),q⟩
  ·rw [Zaj c]
   exact (I.pv u hu).imp (fun ⟨L,hL,q⟩=>⟨L,List.mem_append_left _ (ZaV hL fun z=>c (by subst z; exact (Int.ofNat.inj (to.symm.trans q.1)).symm)),q⟩) fun z=>z.imp id fun ⟨L,hL,q⟩=>⟨L,List.mem_append_left _ (ZaV hL fun z=>nv _ _ (z▸q)),q⟩
 ·rw [ef]; exact I.bd
 ·rw [ef]; exact I.tk
 ·have up:∀{L},T1 k X L->T1 k (updX X t x) L:=fun {L} z=>by
   refine ⟨z.1, ?_⟩
   have z:=z.2
   cases hc:L.c with
   | have_ c=>rw [hc] at z; exact ⟨z.1,z.2.1,by rw [ef]; exact z.2.2⟩
   | _=>rw [hc] at z; exact z
  rcases List.mem_append.mp hL with z | z
  ·exact up (I.lt L (.tail _ z))
  ·exact up (tn L z).1
theorem hold1 (h:K1ok k){m:Msg}{p:Int}(ht:(t:Int)∈k.fs)(I:I1 k (⟨k.f,t,0,.hold m p⟩::U) X):G1 k X U t 11 (holdF t 0 (X t) U k.f m p):=by
 have hf:=I.hd t (.tail _ ht)
 have hfl:=(I.hd k.f (.head _)).rl
 have s0:(if (t:Int)=t then (if ((X t).row.length:Int) < p then none else if p=(X t).row.length then sim t U ((X t).row++[m],(X t).took) else sim t U ((X t).row,(X t).took)) else sim t U ((X t).row,(X t).took))=some ((X k.f).row,(X k.f).took):=I.sm t ht
 rw [if_pos rfl] at s0
 have nv:∀u:Int,∀n,¬ isHave u n ⟨k.f,t,0,.hold m p⟩:=fun u n q=>by obtain ⟨_,_,y,_⟩:=q; cases y
 have tn:∀n:Nat,n<=(X k.f).row.length->∀L∈[(⟨t,k.f,0,.have_ (n:Int)⟩:Letter)],T1 k X L/\L.to=k.f:=fun n hn L hL=>by
  cases List.mem_singleton.mp hL
  exact ⟨⟨rfl,ht,rfl,Int.ofNat_le.mpr hn⟩,rfl⟩
 unfold holdF
 rw [ZbT hf.still]
 by_cases d:((X t).row.length:Int) < p
 ·rw [if_pos d] at s0; cases s0
 ·rw [if_neg d] at s0
  rw [ZbT (decide_eq_false d)]
  by_cases c:p=(X t).row.length
  ·rw [if_pos c] at s0
   rw [Zb5 (decide_eq_true c)]
   have l1:((X t).row++[m]).length=(X t).row.length+1:=List.length_append
   have sl:((X t).row++[m]).length<=(X k.f).row.length:=ZgL U _ _ s0
   have:=other1 h (x:={ X t with row:=(X t).row++[m] }) (ns:=[⟨t,k.f,0,.have_ (((X t).row.length+1:Nat):Int)⟩]) I rfl ht rfl (hf.row' (by exact Nat.le_trans sl hfl)) rfl (Nat.le_of_ble_eq_true rfl) rfl rfl (tn _ (by exact lc3 l1.symm sl)) s0 (.inl ⟨_,.head _,rfl,_,rfl,by rw [l1]; exact Int.le_refl _⟩) nv
   exact this
  ·rw [if_neg c] at s0
   rw [ZbT (decide_eq_false c)]
   have sl:(X t).row.length<=(X k.f).row.length:=ZgL U _ _ s0
   exact other1 h (x:=X t) (ns:=[⟨t,k.f,0,.have_ ((X t).row.length:Int)⟩]) I rfl ht rfl hf rfl (Nat.le_of_ble_eq_true rfl) rfl rfl (tn _ sl) s0 (.inl ⟨_,.head _,rfl,_,rfl,Int.le_refl _⟩) nv
theorem take1 (h:K1ok k){s c:Int}(ht:(t:Int)∈k.fs)(I:I1 k (⟨s,t,0,.take c⟩::U) X):G1 k X U t 1 ({ X t with took:=mx (X t).took (mn c (X t).row.length) },U):=by
 have hf:=I.hd t (.tail _ ht)
 have s0:(if (t:Int)=t then sim t U ((X t).row,mx (X t).took (mn c (X t).row.length)) else sim t U ((X t).row,(X t).took))=some ((X k.f).row,(X k.f).took):=I.sm t ht
 rw [if_pos rfl] at s0
 have nv:∀u:Int,∀n,¬ isHave u n ⟨s,t,0,.take c⟩:=fun u n q=>by obtain ⟨_,_,y,_⟩:=q; cases y
 have:=other1 h (x:={ X t with took:=mx (X t).took (mn c (X t).row.length) }) (ns:=[]) I rfl ht rfl ⟨hf.up,hf.pl,hf.ms,hf.gone,hf.still,hf.bal,hf.agd,hf.off,hf.rl⟩ rfl (Nat.le_of_ble_eq_true rfl) rfl rfl (fun ø z=>nomatch z) s0 (.inr ⟨rfl,fun q=>(by obtain ⟨_,_,_,y⟩:=q; cases y),nv⟩) nv
 rw [List.append_nil] at this
 exact this
end
structure J1 (k:K1)(N:Nat)(U:List Letter)(X:Nat->Hd):Prop where
 w:wsum U=N
 i:I1 k U X
theorem step1 {k:K1}(h:K1ok k):∀N L U X,J1 k N (L::U) X->StJ k.M (J1 k) N L U X:=fun N L U X J=>by
 have I:=J.i
 have lu:=Zfa U
 have hw:wgt L.c+wsum U=N:=J.w
 have lb:=I.hl k.f (.head _)
 have lb:(X k.f).holds.length+(wgt L.c+wsum U)<=400:=lb
 have c:=I.lt L (.head _)
 have ok:∀t:Nat,(t:Int)∈k.fi->OkA U t (X t):=fun t ht=>by
  have b:=I.hd t ht
  have f9:=Nat.le_trans h.fi.len h.h9
  have hh:=I.hl t ht
  exact ⟨by rw [b.ms]; exact la7 f9 rfl,fun ø ø=>by rw [b.ms]; exact Zb9 h.fi,Zd1 (Nat.add_le_add (Nat.le_trans lu (Nat.le_trans (Nat.le_add_left ..) (Nat.le_trans (Nat.le_add_left ..) lb))) (Nat.le_refl 100) |> fun z=>la7 z rfl),ZcT (Nat.le_trans b.rl (by decide)),ZcT (by exact la7 (la8 hh) rfl),by rw [b.gone]; exact ZcT (by decide),fun o e=>by rw [b.off] at e; cases e⟩
 have ex:∃t:Nat,L.to=t/\(t:Int)∈k.fi/\OkC (X t) L.from_ L.c/\G1 k X U t (wgt L.c) (stepF t 0 (X t) U L.from_ L.c)/\newsOf L.c=none:=by
  obtain ⟨src,to,lp,cc⟩:=L
  obtain ⟨c0,c⟩:=c
  cases c0
  cases cc with
  | wish m=>
   cases (show to=(k.f:Int) from c)
   exact ⟨k.f,rfl,.head _,trivial,wish1 h I,rfl⟩
  | hold m p=>
   obtain ⟨c1,c2⟩:=c
   cases (show src=(k.f:Int) from c1)
   have l2:=h.fi.lt _ (K1ok.sub c2)
   obtain ⟨t,e⟩:∃t:Nat,to=t:=⟨to.toNat,by have:0<=to/\to < k.M:=l2; exact la5 this⟩
   subst e
   exact ⟨t,rfl,.tail _ c2,trivial,hold1 h c2 I,rfl⟩
  | have_ n=>
   obtain ⟨c1,c2,c3⟩:=c
   cases (show to=(k.f:Int) from c2)
   have l2:=h.fi.lt _ (K1ok.sub c1)
   obtain ⟨t,e⟩:∃t:Nat,src=t:=⟨src.toNat,by have:0<=src/\src < k.M:=l2; exact la5 this⟩
   subst e
   exact ⟨k.f,rfl,.head _,trivial,have1 h c1 I,rfl⟩
  | take n=>
   have c:to∈k.fs:=c
   have l2:=h.fi.lt _ (K1ok.sub c)
   obtain ⟨t,e⟩:∃t:Nat,to=t:=⟨to.toNat,by exact la5 l2⟩
   subst e
   exact ⟨t,rfl,.tail _ c,trivial,take1 h c I,rfl⟩
  | _=>exact c.elim
 obtain ⟨t,e,ht,oc,g,nn⟩:=ex
 have b:=I.hd t ht
 have ec:comeF t (X t) U L=stepF t 0 (X t) U L.from_ L.c:=Zd2 b.up b.pl c.1 nn
 have gw:=g.w
 have tM:t < k.M:=by have:=h.fi.lt _ ht; exact la4 this
 refine ⟨t,e,tM,ok t ht,fun ø ø=>oc,wsum (comeF t (X t) U L).2, ?_,rfl, ?_⟩
 ·rw [ec]; exact Nat.lt_of_lt_of_le gw (Nat.le_of_eq hw)
 ·rw [ec]; exact g.i
noncomputable def wshL (f:Nat)(W:List Msg):List Letter:=W.map fun m=>⟨f,f,0,.wish m⟩
theorem start1 {k:K1}{X:Nat->Hd}(h:K1ok k)(hd:∀t:Nat,(t:Int)∈k.fi->Sw1 k (X t)/\(X t).row=[]/\(X t).took=0/\(X t).holds=[])(ho:∀t:Nat,t < k.M->(t:Int)∉k.fi->X t=x00):J1 k (wsum (wshL k.f k.W)) (wshL k.f k.W) X:=by
 obtain ⟨_,r0,t0,h0⟩:=hd k.f (.head _)
 have wl:∀W:List Msg,wsum (wshL k.f W)=W.length * 109:=fun W=>by
  induction W with
  | nil=>rfl
  | cons a r ih=>
   show 109+wsum (wshL k.f r)=(r.length+1) * 109
   rw [ih,Nat.add_mul,Nat.one_mul,Nat.add_comm]
 refine ⟨rfl,fun t ht=>(hd t ht).1,ho,fun t ht=>?_,fun t ht=>?_, ?_,fun t ht=>.inr (.inl ?_),fun i hi=>?_, ?_,fun L hL=>?_⟩
 ·rw [(hd t ht).2.2.2,wl]
  have:=h.W
  show 0+_<=400
  exact lf4 (lh7 this rfl)
 ·obtain ⟨_,r1,t1,_⟩:=hd t (.tail _ ht)
  rw [r0,t0,r1,t1]
  have:∀W:List Msg,sim t (wshL k.f W) ([],0)=some ([],0):=fun W=>by
   induction W with
   | nil=>rfl
   | cons a r ih=>
    show sim t (⟨k.f,k.f,0,.wish a⟩::wshL k.f r) ([],0)=_
    rw [Zce (show ((⟨k.f,k.f,0,.wish a⟩:Letter).to:Int)≠(t:Int) from fun z=>h.ne ht (Int.ofNat.inj z).symm)]
    exact ih
  exact this k.W
 ·rw [r0]
  have:∀W:List Msg,wsh (wshL k.f W)=W:=fun W=>by
   induction W with
   | nil=>rfl
   | cons a r ih=>exact congrArg (a::·) ih
  exact this k.W
 ·rw [(hd t (.tail _ ht)).2.1,h0]; exact Int.le_refl _
 ·rw [h0,r0]; exact Int.le_refl _
 ·rw [r0,t0,h0]
  refine ⟨?_,Int.le_refl _,Int.le_refl _⟩
  rcases Zge (k:=k.f) (len:=([]:List Msg).length) (ho:=[]) h.fi with z | ⟨i,hi,z⟩
  ·rw [z]; exact Int.le_refl _
  ·rw [z]; exact Int.le_refl _
 ·obtain ⟨m,hm,e⟩:=List.mem_map.mp hL
  subst e
  exact ⟨rfl,rfl⟩
theorem ZdE {x:Int}{n:Nat}(h:0 < n):∃p:Nat,Int.fmod x n=p/\p < n:=by
 have h1:(0:Int) < n:=Int.ofNat_lt.mpr h
 have a:=Int.fmod_nonneg_of_pos x h1
 have b:=Int.fmod_lt_of_pos x h1
 exact ⟨(Int.fmod x n).toNat,by exact la5 (⟨a,b⟩),by exact la6 (⟨a,b⟩)⟩
theorem Za2 (M:Nat):rngN 0 (M:Nat) 1=M:=by unfold rngN; rw [if_pos rfl]; exact le8
theorem Zlf {P:Prog}{K:CT}{E:EP}{fz:Bool}{l j:Nat}{a:PE}{xs:List V}{v:V}{σ:St}{Q:V->St->Prop}(hn:P.nAppend=0)(hl:σ.loc l=some (.ref j))(hg:σ.H.get j=some (.list xs))(ha:∀Q':V->St->Prop,Q' v σ->wpE P K E a σ Q')(hz:xs.length < SZ)(h:Q .none (σ.setH (σ.H.set j (.list (xs++[v]))))):wpE P K E (.meth fz (.loc l) 0 (.cons a .nil)) σ Q:=by
 refine Zaa (o:=σ.loc l) hl ?_
 show (match σ.H.get j with
  | some (.inst k _)=>_
  | some (.list _)=>Nd ((Nat.beq 0 P.nAppend || (Nat.beq 0 P.nPop || Nat.beq 0 P.nExtend))=true) (wpEs P K E (.cons a .nil) σ fun vs σ2=>need (cL (σ2.H.get j)) fun xs=>methL P σ2 j 0 vs xs Q)
  | some (.dict _)=>_
  | _=>False)
 rw [hg]
 refine ⟨by rw [hn]; rfl,ha _ ?_⟩
 refine Zaa (o:=cL (σ.H.get j)) (a:=xs) (by rw [hg]; rfl) ?_
 show Br (Nat.beq 0 P.nAppend) _ _
 rw [hn]
 exact ⟨hz,h⟩
theorem ZeU {α:Type}{l:List α}{f:α->V}{p:Nat}{a:α}{k:V->Prop}(hp:l[p]?=some a)(h:k (f a)):atK (l.map f) (p:Int) k:=by
 have lt:=(List.getElem?_eq_some_iff.mp hp).1
 refine Zaa (o:=pyIdx (p:Int) (l.map f).length) (Zaz (by rw [List.length_map]; exact lt)) ?_
 exact Zaa (o:=(l.map f)[p]?) (by rw [List.getElem?_map,hp]; rfl) h
theorem sz0 {n:Nat}(h:n<=30000):n<=SZ:=Zd1 (Nat.le_trans h (by decide))
theorem sz9 {n:Nat}(h:n<=9):n<=SZ:=sz0 (Nat.le_trans h (by decide))
theorem ZcL {t i:Nat}:rol t i≠0:=by unfold rol; exact fun zz=>lc4 (la8 (Nat.le_of_eq zz)) (Nat.lt_succ_of_le (Nat.zero_le _))
theorem Rep.frame {H H':Hp}{ow:Nat->Nat}{L:Lay}{M:Nat}{U:List Letter}{X:Nat->Hd}(R:Rep H ow L M U X)(k:∀j c,H.get j=some c->ow j≠0->H'.get j=some c):Rep H' ow L M U X where
 fk:=k _ _ R.fk (by rw [R.wf]; decide)
 un:=k _ _ R.un (by rw [R.wu]; decide)
 hl:=R.hl
 hM:=R.hM
 wf:=R.wf
 wu:=R.wu
 hd:=fun t h ht=>by
  obtain ⟨l,d⟩:=R.hd t h ht
  exact ⟨l,k _ _ d.hd (d.wh▸ZcL),k _ _ d.row (d.wr▸ZcL),k _ _ d.hol (d.wd▸ZcL),k _ _ d.gon (d.wg▸ZcL),fun o e=>by
   have O:=d.off o e
   exact ⟨k _ _ O.go (O.wo▸ZcL),k _ _ O.gp (O.wp▸ZcL),k _ _ O.ga (O.wa▸ZcL),O.wo,O.wp,O.wa⟩,d.wh,d.wr,d.wd,d.wg⟩
theorem Rep.set {H:Hp}{ow:Nat->Nat}{L:Lay}{M j:Nat}{U:List Letter}{X:Nat->Hd}{c c':C}(R:Rep H ow L M U X)(g:H.get j=some c)(w:ow j=0):Rep (H.set j c') ow L M U X:=
 R.frame fun i ø gi wi=>by rw [Hp.get_set g,if_neg (show i≠j from fun z=>wi (z▸w))]; exact gi
theorem Rep.del {H:Hp}{ow:Nat->Nat}{L:Lay}{M j:Nat}{U:List Letter}{X:Nat->Hd}{c:C}(R:Rep H ow L M U X)(g:H.get j=some c)(w:ow j=0):Rep (H.del j) ow L M U X:=
 R.frame fun i ø gi wi=>by rw [Hp.get_del g,if_neg (show i≠j from fun z=>wi (z▸w))]; exact gi
section
variable {P:Prog}{K:CT}{E:EP}{r:PSs}{σ:St}{Q:Flow->St->Prop}
theorem ZmJ {body h:PSs}{i k:Nat}{as:Option Nat}(hg:P.glob i=some (.cls k))
  (q:wpSs P K body σ (fun fl σ1=>seqK fl σ1 (fun σ2=>wpSs P K r σ2 Q E) Q) fun j σ1=>need (cE (σ1.H.get j)) fun m=>Nd (P.exc k=true) (Nd (P.sub m k=true) (wpSs P K h (asPut as j σ1) (fun fl σ2=>seqK fl (asUnb as σ2) (fun σ3=>wpSs P K r σ3 Q E) Q) noE))):
  wpSs P K (.cons (.try_ body i as h) r) σ Q E:=Zaa (o:=P.glob i) hg q
end
theorem f9:tb.P.fn 9=some Zcg:=by kernel_rfl
theorem f11:tb.P.fn 11=some Zb4:=by kernel_rfl
theorem Zc8 {n k:Nat}{is:List Int}{H:Hp}{Q:V->Hp->Prop}{E:Nat->Hp->Prop}(h:∀x:Int,Q (.int x) H):CW tb.P (n+1) 9 [.lst (is.map .int),.int k] H Q E:=by
 refine Zad _ _ _ f9 rfl ?_
 refine ZbV (b:=decide ((k:Int) < ((is.map V.int).length:Nat))) (fun c=>?_) fun c=>?_
 ·have c:=of_decide_eq_true c
  rw [List.length_map] at c
  exact ZeU (List.getElem?_eq_getElem (show k < is.length by exact lc9 c)) (h _)
 ·exact h 0
theorem ZfH {K:CT}{v:V}{xs:List V}{j:Nat}{H₀:Hp}(hs:∀H,still v xs H)(Q:Flow->St->Prop):
  ∀(N p:Nat) (b:Int) (zs:List Int) (H:Hp) (lo:Loc),p+N<=100->H.get j=some (.list (iV zs))->zs.Pairwise (· < ·)->(∀z∈zs,0<=z/\z < p)->zs.length<=p->lo 26=some (.ref j)->lo 27=some (.int b)->(∀i c,H₀.get i=some c->i≠j->H.get i=some c)->
  (∀zs' H' lo',H'.get j=some (.list (iV zs'))->zs'.Pairwise (· < ·)->(∀z∈zs',0<=z/\z < ((p+N:Nat):Int))->lo' 26=some (.ref j)->(∀i c,H₀.get i=some c->i≠j->H'.get i=some c)->Q .next ⟨H',lo'⟩)->
  loopGo (fun v σ2 k=>bindT [29] v σ2 fun σ3=>wpSs tb.P K ZaT σ3 k noE) (still v xs) (rngL p 1 N) ⟨H,lo⟩ Q:=by
 intro zz0
 induction zz0 with
 | zero=>
  intro p b zs H lo hp g z1 z2 z3 l1 l2 kp h
  exact ⟨hs H,h zs H lo g z1 z2 l1 kp⟩
 | succ N ih=>
  intro p b zs H lo hp g z1 z2 z3 l1 l2 kp h
  have h':∀zs' H' lo',H'.get j=some (.list (iV zs'))->zs'.Pairwise (· < ·)->(∀z∈zs',0<=z/\z < ((p+1+N:Nat):Int))->lo' 26=some (.ref j)->(∀i c,H₀.get i=some c->i≠j->H'.get i=some c)->Q .next ⟨H',lo'⟩:=fun zs' H' lo' a b c d=>h zs' H' lo' a b (fun z hz=>by have:=c z hz; exact lf3 this) d
  refine ⟨hs H, ?_⟩
  show wpSs tb.P K ZaT ⟨H,upd lo 29 (.int p)⟩ _ noE
  refine Zaa (o:=lo 27) l2 ?_
  refine ⟨by decide, ?_⟩
  refine ZbV (b:=decide (Int.fmod b 2=1)) (fun c=>?_) fun c=>?_
  ·refine ZcY ?_
   refine Zlf (σ:=⟨H,upd lo 29 (.int p)⟩) (l:=26) (j:=j) (v:=.int p) rfl l1 g (fun ø q=>q) (by rw [Zae]; exact sz0 (la7 (Nat.le_trans (Nat.succ_le_succ z3) (lg8 hp)) rfl)) ?_
   refine Zaa (o:=lo 27) l2 ?_
   refine ⟨⟨by decide,by decide⟩, ?_⟩
   have e:iV zs++[.int p]=iV (zs++[(p:Int)]):=by unfold iV; rw [List.map_append]; rfl
   refine ih (p+1) (Int.fdiv b 2) (zs++[(p:Int)]) _ _ (by exact la2 hp) (by rw [← e]; exact (Hp.get_set g).trans (if_pos rfl)) ?_ ?_ ?_ l1 rfl (fun i c q ne=>((Hp.get_set g).trans (if_neg ne)).trans (kp i c q ne)) h'
   ·refine List.pairwise_append.mpr ⟨z1,List.pairwise_singleton ..,fun a ha b hb=>?_⟩
    cases List.mem_singleton.mp hb
    exact (z2 a ha).2
   ·intro z hz
    rcases List.mem_append.mp hz with hz | hz
    ·have:=z2 z hz; exact ⟨this.1,Int.lt_of_lt_of_le this.2 (ld2 (Nat.le_add_right _ _))⟩
    ·cases List.mem_singleton.mp hz; exact ⟨ld2 (Nat.zero_le _),ld1 (Nat.lt_succ_self _)⟩
   ·rw [List.length_append]; show _+1<=_; exact Nat.succ_le_succ z3
  ·refine Zaa (o:=lo 27) l2 ?_
   refine ⟨⟨by decide,by decide⟩, ?_⟩
   exact ih (p+1) (Int.fdiv b 2) zs H _ (by exact la2 hp) g z1 (fun z hz=>by have:=z2 z hz; exact ⟨this.1,Int.lt_of_lt_of_le this.2 (ld2 (Nat.le_add_right _ _))⟩) (by exact Nat.le_succ_of_le z3) l1 rfl kp h'
theorem ZjY {n M:Nat}{b:Int}{σ:St}{Q:V->St->Prop}{E:Nat->Hp->Prop}(hM:M<=9)(h:∀zs H',(∀i c,σ.H.get i=some c->H'.get i=some c)->zs.Pairwise (· < ·)->(∀z∈zs,0<=z/\z < (M:Int))->Q (.lst (iV zs)) (σ.setH H')):CW tb.P (n+1) 11 [.int b,.int M] σ.H (fun v H'=>giveV true (σ.setH H') Q v) E:=by
 refine Zad _ _ _ f11 rfl ?_
 refine ⟨Zac rfl, ?_⟩
 refine ⟨show ((M:Nat):Int).natAbs<=SZ by rw [Int.natAbs_natCast]; exact sz9 hM, ?_⟩
 refine ZfH (H₀:=σ.H) (j:=σ.H.next) (v:=.rng 0 (M:Nat) 1) (xs:=rngL 0 1 (rngN 0 (M:Nat) 1)) (fun ø=>rfl) _ (rngN 0 (M:Nat) 1) 0 b [] (σ.H.new (.list [])) _ (by rw [Za2]; exact lf4 (la7 hM rfl)) (by rw [Hp.get_new,if_pos rfl]; rfl) .nil (fun ø h=>nomatch h) (Nat.le_refl _) rfl rfl (fun i c q ne=>(Hp.get_new.trans (if_neg ne)).trans q) fun zs H' lo' g z1 z2 l kp=>?_
 refine Zaa (o:=lo' 26) l ?_
 show (match cL (H'.get σ.H.next) with | some xs=>Q (.lst xs) ((σ.setH H').setH (H'.del σ.H.next)) | none=>_)
 rw [g]
 refine h zs _ (fun i c q=>?_) z1 fun z hz=>by have:=z2 z hz; rw [Za2] at this; exact li1 (p:=0) this
 have ne:i≠σ.H.next:=Nat.ne_of_lt (Zak q)
 exact ((Hp.get_del g).trans (if_neg ne)).trans (kp i c q ne)
section
variable {n M:Nat}{is:List Int}{H:Hp}{lo:Loc}{r:PSs}{Q:Flow->St->Prop}{E:EP}
theorem ZoB (l1:lo 24=some (.lst (is.map .int)))(h:∀M:Nat,1<=M->M<=9->wpSs tb.P (CW tb.P (n+1)) r ⟨H,upd lo 28 (.int M)⟩ Q E):wpSs tb.P (CW tb.P (n+1)) (.cons Zhz r) ⟨H,lo⟩ Q E:=by
 refine ZcP ?_
 refine Zaa (o:=lo 24) l1 ?_
 refine Zc8 (k:=0) fun x=>?_
 refine gv rfl ?_
 obtain ⟨p,e,hp⟩:=ZdE (x:=x) (n:=9) (by decide)
 refine ⟨by decide, ?_⟩
 have h:=h (1+p) (by exact Nat.le_add_right _ _) (by exact lg9 hp)
 rw [show ((1+p:Nat):Int)=1+Int.fmod x (9:Nat) by rw [e]; exact li2] at h
 exact h
theorem Zoj {i k:Nat}{d:Int}{ed:PE}(hM:M<=9)(hd:0<=d/\d < M)(l1:lo 24=some (.lst (is.map .int)))(l2:lo 28=some (.int M))(hi:i≠28)(he:∀(lo':Loc) H' (Q':V->St->Prop),lo' 28=some (.int M)->Q' (.int d) ⟨H',lo'⟩->wpE tb.P (CW tb.P (n+1)) E ed ⟨H',lo'⟩ Q')
  (h:∀w H',Fi M w->(∀i c,H.get i=some c->H'.get i=some c)->∀lo',lo' i=some (.lst (iV w))->(∀j,j≠i->lo' j=lo j)->wpSs tb.P (CW tb.P (n+1)) r ⟨H',lo'⟩ Q E):
  wpSs tb.P (CW tb.P (n+1)) (.cons (.assign (.loc i) (.call true (.glob 11) (.cons (.bin true .add (.cst (.int 1)) (.call true (.glob 9) (.cons (.loc 24) (.cons (.cst (.int k)) .nil)))) (.cons (.loc 28) .nil)))) (.cons (.ite (.e (.cmp .eq (.loc i) (.list true .nil))) (.cons (.assign (.loc i) (.list true (.cons ed .nil))) .nil) .nil) r)) ⟨H,lo⟩ Q E:=by
 refine ZcP ?_
 refine Zaa (o:=lo 24) l1 ?_
 refine Zc8 (k:=k) fun x=>?_
 refine gv rfl ?_
 refine Zaa (o:=lo 28) l2 ?_
 refine ZjY (σ:=⟨H,lo⟩) (M:=M) hM fun zs H' kp z1 z2=>?_
 have e1:upd lo i (.lst (iV zs)) i=some (.lst (iV zs)):=if_pos rfl
 refine Zaa (o:=upd lo i (.lst (iV zs)) i) e1 ?_
 refine ⟨Zac rfl, ?_⟩
 have e:deep H' (.lst (iV zs))=some (.lst (iV zs)):=by show mL (deepL (deepN H' 11) (iV zs))=_; rw [Zbj]; rfl
 refine Zaa (o:=deep H' (.lst (iV zs))) e ?_
 cases zs with
 | nil=>
  refine he (upd lo i (.lst (iV []))) H' _ ((if_neg (Ne.symm hi)).trans l2) ?_
  refine ⟨Zac rfl, ?_⟩
  refine h [d] H' ⟨fun z=>(nomatch z),List.pairwise_singleton ..,fun i hi=>?_⟩ kp _ (if_pos rfl) fun j hj=>(if_neg hj).trans (if_neg hj)
  cases List.mem_singleton.mp hi
  exact hd
 | cons z zs=>exact h (z::zs) H' ⟨fun z=>(nomatch z),z1,z2⟩ kp _ e1 fun j hj=>if_neg hj
theorem g60:tb.P.glob 60=some (.cls 60):=by kernel_rfl
theorem Zon {fi:List Int}(f:Fi M fi)(h1:1<=M)(h9:M<=9)(l1:lo 105=some (.lst (iV fi)))(l2:lo 28=some (.int M))(h:∀H' ow',Rep H' ow' (mkL H.next M) M [] (XF fi fi)->wpSs tb.P (CW tb.P (n+3)) r ⟨H',upd lo 106 (.ref H.next)⟩ Q E):wpSs tb.P (CW tb.P (n+3)) (.cons ZgB r) ⟨H,lo⟩ Q E:=by
 refine ZcP ?_
 refine Zcs g60 ?_
 refine Zaa (o:=lo 28) l2 ?_
 refine Zaa (o:=lo 105) l1 ?_
 refine ⟨show (iV fi).length<=SZ by rw [Zae]; exact sz9 (Nat.le_trans f.len h9), ?_⟩
 refine ZmI (n:=n) f h1 h9 fun H' ow' R K=>?_
 exact ⟨rfl,h H' ow' R⟩
end
theorem Rep.new {H:Hp}{ow:Nat->Nat}{L:Lay}{M:Nat}{U:List Letter}{X:Nat->Hd}{c:C}(R:Rep H ow L M U X):Rep (H.new c) (owN H.next ow []) L M U X:=by
 have k:∀{j c'},H.get j=some c'->(H.new c).get j=some c':=fun g=>(Hp.get_new.trans (if_neg (Nat.ne_of_lt (Zak g)))).trans g
 have w:∀{j c' v},H.get j=some c'->ow j=v->owN H.next ow [] j=v:=fun g e=>(if_pos (Zak g)).trans e
 refine ⟨k R.fk,k R.un,R.hl,R.hM,w R.fk R.wf,w R.un R.wu,fun t h ht=>?_⟩
 obtain ⟨l,d⟩:=R.hd t h ht
 exact ⟨l,k d.hd,k d.row,k d.hol,k d.gon,fun o e=>by
  have O:=d.off o e
  exact ⟨k O.go,k O.gp,k O.ga,w O.go O.wo,w O.gp O.wp,w O.ga O.wa⟩,w d.hd d.wh,w d.row d.wr,w d.hol d.wd,w d.gon d.wg⟩
noncomputable def W4 (f:Nat):Nat->List Msg
 | 0=>[]
 | k+1=>W4 f k++[⟨f,k,repS s_w k⟩]
noncomputable def X4 (fi:List Int)(f k:Nat):Nat->Hd:=updX (XF fi fi) f { x01 fi with said:=k }
theorem Zho {f:Nat}:∀k,(W4 f k).length=k:=by
 intro zz0
 induction zz0 with
 | zero=>
  exact rfl
 | succ k ih=>
  show (W4 f k++_).length=_; rw [List.length_append,ih]; rfl
theorem ZhV {f:Nat}{a b:List Msg}:wshL f (a++b)=wshL f a++wshL f b:=List.map_append ..
theorem m76:methOf tb.P 60 76=some 248:=by kernel_rfl
section
variable {n M f:Nat}{fs fi:List Int}{L:Lay}{j:Nat}{E:EP}
theorem Zhx {v:V}{xs:List V}(hs:∀H,still v xs H)(F:Fi M fi)(e:fi=(f:Int)::fs)(Q:Flow->St->Prop):∀(N k:Nat) (H:Hp) (ow:Nat->Nat) (lo:Loc),k+N<=3->Rep H ow L M (wshL f (W4 f k)) (X4 fi f k)->H.get j=some (.list (mV (W4 f k)))->ow j=0->lo 106=some (.ref L.fk)->lo 105=some (.lst (iV fi))->lo 136=some (.ref j)->
  (∀H' ow' lo',Rep H' ow' L M (wshL f (W4 f (k+N))) (X4 fi f (k+N))->H'.get j=some (.list (mV (W4 f (k+N))))->ow' j=0->(∀i,i≠25->lo' i=lo i)->Q .next ⟨H',lo'⟩)->
  loopGo (fun v σ2 k=>bindT [25] v σ2 fun σ3=>wpSs tb.P (CW tb.P (n+4)) Zev σ3 k noE) (still v xs) (rngL k 1 N) ⟨H,lo⟩ Q:=by
 intro zz0
 induction zz0 with
 | zero=>
  intro k H ow lo hk R g w l1 l2 l3 h
  exact ⟨hs H,h H ow lo R g w fun ø ø=>rfl⟩
 | succ N ih=>
  intro k H ow lo hk R g w l1 l2 l3 h
  have hf:f < M:=by have:=F.lt f (e▸ .head _); exact la4 this
  have ex:X4 fi f k f={ x01 fi with said:=k }:=if_pos rfl
  have at0:∀K:V->Prop,K (.int f)->atK (iV fi) 0 K:=fun K q=>by rw [e]; exact ZeU (l:=(f:Int)::fs) (p:=0) rfl q
  have mk:∀(σ:St) (Q':V->St->Prop),σ.loc 25=some (.int k)->Q' (.str (repS s_w k)) σ->wpE tb.P (CW tb.P (n+4)) noE (.bin true .mul (.cst (.str s_w)) (.loc 25)) σ Q':=fun σ Q' a q=>by
   refine Zaa (o:=σ.loc 25) a ?_
   exact ⟨⟨Int.natCast_nonneg _,by exact lc7 (la8 hk) rfl,show 1 * k<=SZ from by rw [Nat.one_mul]; exact sz9 (by exact la7 (la8 hk) rfl)⟩,q⟩
  refine ⟨hs H, ?_⟩
  show wpSs tb.P (CW tb.P (n+4)) Zev ⟨H,upd lo 25 (.int k)⟩ _ noE
  refine ZcY ?_
  refine ZaS (σ:=⟨H,upd lo 25 (.int k)⟩) l1 R.fk m76 ?_
  refine Zaa (o:=lo 105) l2 ?_
  refine at0 _ ?_
  refine mk _ _ rfl ?_
  refine Znl (n:=n) (w:=repS s_w k) (f:=f) (fs:=fs) (pl:=0) R hf (by rw [ex]; rfl) (by rw [ex]; rfl) (by rw [ex]; exact e) (by rw [show (wshL f (W4 f k)).length=k from (List.length_map ..).trans (Zho k)]; exact sz9 (by exact la9 (la7 hk rfl) (Nat.le_add_left _ _))) fun H₁ ow1 R1 K1'=>?_
  refine gv rfl ?_
  have g1:=K1' j _ g w
  have eu:updX (X4 fi f k) f { X4 fi f k f with said:=(X4 fi f k f).said+1 }=X4 fi f (k+1):=funext fun u=>by
   by_cases c:u=f
   ·subst c
    show (if u=u then _ else _)=(if u=u then _ else _)
    rw [if_pos rfl,if_pos rfl,ex]; rfl
   ·show (if u=f then _ else (if u=f then _ else _))=(if u=f then _ else _)
    rw [if_neg c,if_neg c,if_neg c]
  rw [eu,ex] at R1
  have R1:Rep H₁ ow1 L M (wshL f (W4 f (k+1))) (X4 fi f (k+1)):=by
   show Rep H₁ ow1 L M (wshL f (W4 f k++[⟨f,k,repS s_w k⟩])) (X4 fi f (k+1))
   rw [ZhV]; exact R1
  have em:mV (W4 f k)++[Msg.v ⟨f,k,repS s_w k⟩]=mV (W4 f (k+1)):=by
   show _=mV (W4 f k++_)
   unfold mV; rw [List.map_append]; rfl
  refine ZcY ?_
  refine Zlf (σ:=⟨H₁,upd lo 25 (.int k)⟩) (l:=136) (j:=j) (v:=Msg.v ⟨f,k,repS s_w k⟩) rfl l3 g1.1 (fun Q' q=>?_) (by rw [Zap,Zho]; exact sz9 (show k+1<=9 by exact la9 (la7 hk rfl) (Nat.le_add_left _ _))) ?_
  ·refine Zaa (o:=lo 105) l2 ?_
   refine at0 _ ?_
   refine mk ⟨H₁,upd lo 25 (.int k)⟩ _ rfl ?_
   exact ⟨Zac rfl,q⟩
  ·rw [em]
   refine ih (k+1) _ ow1 (upd lo 25 (.int k)) (by exact la2 hk) (R1.set g1.1 g1.2) ((Hp.get_set g1.1).trans (if_pos rfl)) g1.2 l1 l2 l3 fun H' ow' lo' a b c d=>?_
   rw [show k+1+N=k+(N+1) by exact lb2 (Nat.le_antisymm (Nat.le_refl _) (Nat.le_refl _))] at a b
   exact h H' ow' lo' a b c fun i hi=>(d i hi).trans (if_neg hi)
end
theorem Znu {f:Nat}:∀k,(W4 f k).Pairwise (·.n < ·.n)/\∀m∈W4 f k,m.n < (k:Int):=by
 intro zz0
 induction zz0 with
 | zero=>
  exact ⟨.nil,fun ø h=>nomatch h⟩
 | succ k ih=>
  obtain ⟨a,b⟩:=ih
  refine ⟨List.pairwise_append.mpr ⟨a,List.pairwise_singleton ..,fun x hx y hy=>?_⟩,fun m hm=>?_⟩
  ·cases List.mem_singleton.mp hy
   exact b x hx
  ·rcases List.mem_append.mp hm with h | h
   ·have:=b m h; exact Int.lt_of_lt_of_le this (ld2 (Nat.le_add_right _ _))
   ·cases List.mem_singleton.mp h
    show (k:Int) < ((k+1:Nat):Int); exact ld1 (Nat.lt_succ_self _)
theorem ZkU {m:Msg}:∀{a:List Msg},(∀x∈a,x.n≠m.n)->hasM a m=false:=by
 intro zz0
 induction zz0 with
 | nil=>
  intro _
  exact rfl
 | cons x a ih=>
  intro h
  show (eqD x.v m.v || hasM a m)=false
  rw [ih fun y hy=>h y (.tail _ hy),Bool.or_false]
  show (decide (x.h=m.h)&&(decide (x.n=m.n)&&_))=false
  rw [decide_eq_false (h x (.head _)),Bool.false_and,Bool.and_false]
theorem ZnP {f k:Nat}(a b:List Msg)(m:Msg)(e:W4 f k=a++m::b):hasM a m=false:=ZkU fun x hx=>by
 have p:=(Znu (f:=f) k).1
 rw [e] at p
 have:=(List.pairwise_append.mp p).2.2 x hx m (.head _)
 exact fun zz=>Int.ne_of_lt this zz
theorem m85:methOf tb.P 60 85=some 252:=by kernel_rfl
section
variable {n M f:Nat}{is fs fi:List Int}{H:Hp}{ow:Nat->Nat}{L:Lay}{lo:Loc}{r:PSs}{Q:Flow->St->Prop}{E:EP}
theorem Zjz {J:Nat->List Letter->(Nat->Hd)->Prop}(hJ:∀N Lt U X,J N (Lt::U) X->StJ M J N Lt U X){N:Nat}{U:List Letter}{X:Nat->Hd}(j:J N U X)(R:Rep H ow L M U X)(l1:lo 106=some (.ref L.fk))(h:∀H' ow' X' N',J N' [] X'->Rep H' ow' L M [] X'->Keep H ow H' ow'->wpSs tb.P (CW tb.P (n+7)) r ⟨H',lo⟩ Q E):wpSs tb.P (CW tb.P (n+7)) (.cons (.expr (.meth true (.loc 106) 85 .nil)) r) ⟨H,lo⟩ Q E:=by
 refine ZcY ?_
 refine ZaS (σ:=⟨H,lo⟩) l1 R.fk m85 ?_
 refine ZlF (n:=n) J hJ j R fun H' ow' X' N' c j' R' K'=>?_
 refine gv rfl ?_
 exact h H' ow' X' N' j' R' K'
theorem Zml (F:Fi M fi)(e:fi=(f:Int)::fs)(h9:M<=9)(R:Rep H ow L M [] (XF fi fi))(l1:lo 106=some (.ref L.fk))(l2:lo 105=some (.lst (iV fi)))(l4:lo 24=some (.lst (is.map .int)))
  (h:∀W j H' ow' X' lo',K1ok ⟨M,f,fs,W⟩->I1 ⟨M,f,fs,W⟩ [] X'->Rep H' ow' L M [] X'->H'.get j=some (.list (mV W))->ow' j=0->lo' 136=some (.ref j)->(∀i,i≠136->i≠25->lo' i=lo i)->wpSs tb.P (CW tb.P (n+7)) r ⟨H',lo'⟩ Q E):wpSs tb.P (CW tb.P (n+7)) (.cons ZgF (.cons Zhw (.cons ZgA r))) ⟨H,lo⟩ Q E:=by
 refine ZcP ?_
 refine ⟨Zac rfl, ?_⟩
 refine Zaa (o:=lo 24) l4 ?_
 refine Zc8 (k:=2) fun x=>?_
 refine gv rfl ?_
 obtain ⟨p,ep,hp⟩:=ZdE (x:=x) (n:=4) (by decide)
 refine ⟨by decide, ?_⟩
 refine ⟨show (Int.fmod x (4:Nat)).natAbs<=SZ by rw [ep]; exact sz9 (by exact li3 hp rfl), ?_⟩
 show loopGo _ (still (.rng 0 (Int.fmod x (4:Nat)) 1) (rngL 0 1 (rngN 0 (Int.fmod x (4:Nat)) 1))) (rngL 0 1 (rngN 0 (Int.fmod x (4:Nat)) 1)) ⟨H.new (.list []),upd lo 136 (.ref H.next)⟩ _
 rw [ep,Za2]
 refine Zhx (n:=n+3) (f:=f) (j:=H.next) (v:=.rng 0 (p:Nat) 1) (xs:=rngL 0 1 p) (fun H=>by show some (rngL 0 1 (rngN 0 (p:Nat) 1))=_; rw [Za2]) F e _ p 0 (H.new (.list [])) (owN H.next ow []) (upd lo 136 (.ref H.next)) (by exact lf4 (Nat.le_of_lt_succ hp)) ?_ (Hp.get_new.trans (if_pos rfl)) ?_ l1 l2 rfl fun H₁ ow1 lo1 R1 g1' w1' k₁=>?_
 ·have ez:X4 fi f 0=XF fi fi:=funext fun u=>by
   by_cases c:u=f
   ·subst c
    show (if u=u then _ else _)=(if (u:Int)∈fi then _ else _)
    rw [if_pos rfl,if_pos (e▸ .head _)]; rfl
   ·exact if_neg c
  rw [ez]
  exact R.new
 ·show (if H.next < H.next then _ else _)=0
  rw [if_neg (Nat.lt_irrefl _)]; rfl
 ·rw [Nat.zero_add] at R1 g1'
  have ok:K1ok ⟨M,f,fs,W4 f p⟩:=⟨by rw [show K1.fi ⟨M,f,fs,W4 f p⟩=fi from e.symm]; exact F,h9,by show (W4 f p).length<=3; rw [Zho]; exact Nat.le_of_lt_succ hp,ZnP⟩
  have st:J1 ⟨M,f,fs,W4 f p⟩ (wsum (wshL f (W4 f p))) (wshL f (W4 f p)) (X4 fi f p):=by
   refine start1 (k:=⟨M,f,fs,W4 f p⟩) ok (fun t ht=>?_) fun t ht hn=>?_
   ·rw [show K1.fi ⟨M,f,fs,W4 f p⟩=fi from e.symm] at ht
    have ex:X4 fi f p t={ x01 fi with said:=(X4 fi f p t).said }:=by
     by_cases c:t=f
     ·subst c
      rw [show X4 fi t p t={ x01 fi with said:=p } from if_pos rfl]
     ·rw [show X4 fi f p t=x01 fi from (if_neg c).trans (if_pos ht)]
    rw [ex]
    exact ⟨⟨rfl,rfl,e,rfl,rfl,rfl,rfl,rfl,Nat.zero_le 3⟩,rfl,rfl,rfl⟩
   ·rw [show K1.fi ⟨M,f,fs,W4 f p⟩=fi from e.symm] at hn
    exact (if_neg (show t≠f from fun z=>hn (by rw [z,e]; exact .head _))).trans (if_neg hn)
  refine Zjz (n:=n) (step1 ok) st R1 ((k₁ 106 (by decide)).trans l1) fun H2' ow2 X2 N2 J2 R2 K2=>?_
  have g2:=K2 _ _ g1' w1'
  exact h _ _ H2' ow2 X2 lo1 ok J2.i R2 g2.1 g2.2 (k₁ 136 (by decide)) fun i h1 h2=>(k₁ i h2).trans (if_neg h1)
end
noncomputable def XD (X:Nat->Hd)(ys up:List Int):Nat->Hd:=fun t=>if (t:Int)∈ys/\(t:Int)∉up then { X t with up:=false } else X t
theorem m80:methOf tb.P 60 80=some 249:=by kernel_rfl
section
variable {n M:Nat}{is fi up:List Int}{L:Lay}{X:Nat->Hd}
theorem Zny {v:V}{xs:List V}{H:Hp}(hs:∀H,still v xs H)(l9:fi.length<=9)(Q:List V->St->Prop)(h:∀up lo',up.Sublist fi->Q (iV up) ⟨H,lo'⟩):∀(N p:Nat) (acc:List Int) (lo:Loc),p+N=fi.length->acc.Sublist (fi.take p)->lo 24=some (.lst (is.map .int))->lo 105=some (.lst (iV fi))->
  compGo (fun σ2 k=>wpC tb.P (CW tb.P (n+1)) noE (.some (.e (.cmp .gt (.bin true .mod (.bin true .fdiv (.call true (.glob 9) (.cons (.loc 24) (.cons (.cst (.int 3)) .nil))) (.bin true .add (.cst (.int 2)) (.loc 25))) (.cst (.int 3))) (.cst (.int 0))))) σ2 k) (fun σ2 k=>wpE tb.P (CW tb.P (n+1)) noE (.idx (.loc 105) (.loc 25)) σ2 k) [25] (still v xs) (rngL p 1 N) (iV acc) ⟨H,lo⟩ Q:=by
 intro zz0
 induction zz0 with
 | zero=>
  intro p acc lo hp ha l1 l2
  exact ⟨hs H,by rw [Zae]; exact sz9 (Nat.le_trans ha.length_le (by rw [List.length_take]; exact li4 l9)),h acc lo (ha.trans (List.take_sublist ..))⟩
 | succ N ih=>
  intro p acc lo hp ha l1 l2
  have al:acc.length<=9:=Nat.le_trans ha.length_le (by rw [List.length_take]; exact li4 l9)
  have lt:p < fi.length:=by exact lb1 hp
  refine ⟨hs H,by rw [Zae]; exact sz0 (show acc.length+1<=30000 by exact Nat.succ_le_succ (la7 al rfl)), ?_⟩
  refine Zaa (o:=lo 24) l1 ?_
  refine Zc8 (k:=3) fun x=>?_
  refine gv rfl ?_
  refine ⟨⟨Int.ne_of_gt (ld1 (Nat.lt_of_lt_of_le (Nat.succ_pos 1) (Nat.le_add_right 2 p))),show 2+p < 1073741824 from Nat.lt_of_lt_of_le (Nat.add_lt_add_left (Nat.lt_of_lt_of_le lt l9) 2) (Zac rfl)⟩, ?_⟩
  refine ⟨by decide, ?_⟩
  refine ZbV (fun c=>?_) fun c=>?_
  ·refine Zaa (o:=lo 105) l2 ?_
   refine ZeU (List.getElem?_eq_getElem lt) ?_
   have ea:iV acc++[.int fi[p]]=iV (acc++[fi[p]]):=by unfold iV; rw [List.map_append]; rfl
   have g:=ih (p+1) (acc++[fi[p]]) (upd lo 25 (.int p)) (by exact lb2 hp) (by rw [List.take_succ,List.getElem?_eq_getElem lt]; exact ha.append (.refl _)) l1 l2
   rw [← ea] at g
   exact g
  ·exact ih (p+1) acc _ (by exact lb2 hp) (ha.trans (by rw [List.take_succ]; exact List.sublist_append_left ..)) l1 l2
end
theorem ZnK {t:Int}:∀{l:List Int},t∉l->((iV l).any fun z=>eqD z (.int t))=false:=by
 intro zz0
 induction zz0 with
 | nil=>
  intro _
  exact rfl
 | cons a l ih=>
  intro h
  show (decide (a=t) || (iV l).any fun z=>eqD z (.int t))=false
  rw [ih fun z=>h (.tail _ z),Bool.or_false]
  exact decide_eq_false fun z=>h (z▸ .head _)
theorem Zjw {t:Int}:∀{l:List Int},t∈l->((iV l).any fun z=>eqD z (.int t))=true
 | a::l,h=>by
  show (decide (a=t) || (iV l).any fun z=>eqD z (.int t))=true
  cases h with
  | head=>rw [decide_eq_true rfl]; rfl
  | tail _ h=>rw [Zjw h,Bool.or_true]
theorem Zjy {t:Int}{l:List Int}:((iV l).any fun z=>eqD z (.int t))=decide (t∈l):=by
 by_cases c:t∈l
 ·rw [Zjw c,decide_eq_true c]
 ·rw [ZnK c,decide_eq_false c]
theorem Zcy {H:Hp}{l:List Int}{t:Int}{k:Bool->Prop}(h:k (!decide (t∈l))):cmpK H .notIn (.int t) (.lst (iV l)) k:=by
 refine Zaa (o:=deepL (deepN H 11) (iV l)) (Zbj l) ?_
 show k (!((iV l).any fun z=>eqD z (.int t)))
 rw [Zjy]; exact h
theorem Zom {H:Hp}{l:List Int}{t:Int}{k:Bool->Prop}(h:k (decide (t∈l))):cmpK H .isIn (.int t) (.lst (iV l)) k:=by
 refine Zaa (o:=deepL (deepN H 11) (iV l)) (Zbj l) ?_
 show k ((iV l).any fun z=>eqD z (.int t))
 rw [Zjy]; exact h
section
variable {n M:Nat}{is fi up:List Int}{L:Lay}{X:Nat->Hd}
theorem ZgH {v:V}{xs:List V}(hs:∀H,still v xs H)(F:Fi M fi)(hu:∀t:Nat,(t:Int)∈fi->(X t).up=true)(H₀:Hp)(ow0':Nat->Nat)(Q:Flow->St->Prop):∀(zs ys:List Int) (H:Hp) (ow:Nat->Nat) (lo:Loc),fi=ys++zs->Rep H ow L M [] (XD X ys up)->Keep H₀ ow0' H ow->lo 106=some (.ref L.fk)->lo 140=some (.lst (iV up))->
  (∀H' ow' lo',Rep H' ow' L M [] (XD X fi up)->Keep H₀ ow0' H' ow'->(∀i,i≠29->lo' i=lo i)->Q .next ⟨H',lo'⟩)->
  loopGo (fun v σ2 k=>bindT [29] v σ2 fun σ3=>wpSs tb.P (CW tb.P (n+3)) Zdh σ3 k noE) (still v xs) (iV zs) ⟨H,lo⟩ Q:=by
 intro zz0
 induction zz0 with
 | nil=>
  intro ys H ow lo e R K l1 l2 h
  exact ⟨hs H,h H ow lo (by rw [e,List.append_nil]; exact R) K fun ø ø=>rfl⟩
 | cons z zs ih=>
  intro ys H ow lo e R K l1 l2 h
  have m:z∈fi:=by rw [e]; exact List.mem_append_right _ (.head _)
  have b:=F.lt z m
  obtain ⟨t,rfl⟩:=Int.eq_ofNat_of_zero_le b.1
  have nd:(t:Int)∉ys:=fun q=>by
   have:=F.up
   rw [e] at this
   have:=(List.pairwise_append.mp this).2.2 _ q _ (.head _)
   exact Int.lt_irrefl _ this
  have nx:∀H' ow',Rep H' ow' L M [] (XD X (ys++[(t:Int)]) up)->Keep H₀ ow0' H' ow'->loopGo (fun v σ2 k=>bindT [29] v σ2 fun σ3=>wpSs tb.P (CW tb.P (n+3)) Zdh σ3 k noE) (still v xs) (iV zs) ⟨H',upd lo 29 (.int t)⟩ Q:=fun H' ow' R' K'=>
   ih (ys++[(t:Int)]) H' ow' (upd lo 29 (.int t)) (by rw [e,List.append_assoc]; rfl) R' K' l1 l2 fun H' ow' lo' a b d=>h H' ow' lo' a b fun i hi=>(d i hi).trans (if_neg hi)
  refine ⟨hs H, ?_⟩
  show wpSs tb.P (CW tb.P (n+3)) Zdh ⟨H,upd lo 29 (.int t)⟩ _ noE
  refine Zaa (o:=lo 140) l2 ?_
  refine Zcy ?_
  by_cases c:(t:Int)∈up
  ·rw [decide_eq_true c]
   refine nx H ow ?_ K
   rw [show XD X (ys++[(t:Int)]) up=XD X ys up from funext fun u=>?_]
   ·exact R
   ·unfold XD
    by_cases d:u=t
    ·subst d; rw [if_neg fun z=>z.2 c,if_neg fun z=>z.2 c]
    ·congr 1
     rw [List.mem_append,List.mem_singleton,or_iff_left (show ¬ (u:Int)=t by exact fun zz=>lb6 d zz)]
  ·rw [decide_eq_false c]
   refine ZaS (σ:=⟨H,upd lo 29 (.int t)⟩) l1 R.fk m80 ?_
   refine Zl3 (n:=n) R (by exact la4 b) ?_ fun H₁ ow1 R1 K1'=>?_
   ·rw [show XD X ys up t=X t from if_neg fun z=>nd z.1]; exact hu t m
   refine gv rfl ?_
   refine nx H₁ ow1 ?_ (K.trans K1')
   rw [show XD X (ys++[(t:Int)]) up=updX (XD X ys up) t { XD X ys up t with up:=false } from funext fun u=>?_]
   ·exact R1
   ·by_cases d:u=t
    ·subst d
     rw [show updX (XD X ys up) u { XD X ys up u with up:=false } u={ XD X ys up u with up:=false } from if_pos rfl,show XD X ys up u=X u from if_neg fun z=>nd z.1]
     exact if_pos ⟨List.mem_append_right _ (.head _),c⟩
    ·rw [show updX (XD X ys up) t { XD X ys up t with up:=false } u=XD X ys up u from if_neg d]
     unfold XD
     congr 1
     rw [List.mem_append,List.mem_singleton,or_iff_left (show ¬ (u:Int)=t by exact fun zz=>lb6 d zz)]
end
section
variable {n M:Nat}{is fi up:List Int}{L:Lay}{X:Nat->Hd}{H:Hp}{ow:Nat->Nat}{lo:Loc}{r:PSs}{Q:Flow->St->Prop}{E:EP}
theorem Zkl:XD X fi fi=X:=funext fun t=>if_neg fun z=>z.2 z.1
theorem ZnZ (F:Fi M fi)(h9:M<=9)(R:Rep H ow L M [] X)(hu:∀t:Nat,(t:Int)∈fi->(X t).up=true)(l1:lo 106=some (.ref L.fk))(l2:lo 105=some (.lst (iV fi)))(l4:lo 24=some (.lst (is.map .int)))
  (h:∀up H' ow' lo',up.Sublist fi->Rep H' ow' L M [] (XD X fi up)->Keep H ow H' ow'->lo' 140=some (.lst (iV up))->(∀i,i≠140->i≠29->i≠25->lo' i=lo i)->wpSs tb.P (CW tb.P (n+3)) r ⟨H',lo'⟩ Q E):wpSs tb.P (CW tb.P (n+3)) (.cons Zg8 (.cons Zgq r)) ⟨H,lo⟩ Q E:=by
 have f9:fi.length<=9:=Nat.le_trans F.len h9
 refine ZcP ?_
 refine Zaa (o:=lo 105) l2 ?_
 refine ⟨show (iV fi).length<=SZ by rw [Zae]; exact sz9 f9, ?_⟩
 refine Zaa (o:=lo 24) l4 ?_
 refine Zc8 (k:=3) fun x=>?_
 refine gv rfl ?_
 refine ⟨by decide, ?_⟩
 refine ZbV (b:=decide (Int.fmod x 2=1)) (fun c=>?_) fun c=>?_
 ·refine ZcP ?_
  refine Zaa (o:=lo 105) l2 ?_
  refine ⟨show (((iV fi).length:Nat):Int).natAbs<=SZ by rw [Int.natAbs_natCast,Zae]; exact sz9 f9, ?_⟩
  have er:rngL 0 1 (rngN 0 ((iV fi).length:Nat) 1)=rngL ((0:Nat):Int) 1 fi.length:=by rw [Za2,Zae]; rfl
  show compGo _ _ [25] (still (.rng 0 ((iV fi).length:Nat) 1) (rngL 0 1 (rngN 0 ((iV fi).length:Nat) 1))) (rngL 0 1 (rngN 0 ((iV fi).length:Nat) 1)) [] _ _
  rw [er]
  refine Zny (n:=n+2) (is:=is) (fi:=fi) (v:=.rng 0 ((iV fi).length:Nat) 1) (xs:=rngL ((0:Nat):Int) 1 fi.length) (fun ø=>congrArg some er) f9 _ (fun up lo' su=>?_) fi.length 0 [] _ (Nat.zero_add _) (List.nil_sublist _) l4 l2
  refine ⟨show (iV up).length<=SZ by rw [Zae]; exact sz9 (Nat.le_trans su.length_le f9), ?_⟩
  refine Zaa (o:=lo 105) l2 ?_
  refine ZgH (n:=n) (up:=up) (v:=.lst (iV fi)) (xs:=iV fi) (fun ø=>rfl) F hu H ow _ fi [] H ow _ rfl (by rw [show XD X [] up=X from funext fun t=>if_neg fun z=>nomatch z.1]; exact R) .refl l1 rfl fun H' ow' lo1 R' K' k'=>?_
  exact h up H' ow' lo1 su R' K' (k' 140 (by decide)) fun i h1 h2 ø=>(k' i h2).trans ((if_neg h1).trans (if_neg h1))
 ·exact h fi H ow _ (.refl _) (by rw [Zkl]; exact R) .refl rfl fun i h1 ø ø=>if_neg h1
end
theorem Ziq {v:V}:∀a,repL [v] a++[v]=repL [v] (a+1):=by
 intro zz0
 induction zz0 with
 | zero=>
  exact rfl
 | succ a ih=>
  exact congrArg (v::·) (ih)
theorem Zca {v:V}:∀a,(repL [v] a).length=a:=by
 intro zz0
 induction zz0 with
 | zero=>
  exact rfl
 | succ a ih=>
  exact congrArg (·+1) (ih)
theorem Zip {H:Hp}:∀a,deepL (deepN H 11) (repL [.bool false] a)=some (repL [.bool false] a):=by
 intro zz0
 induction zz0 with
 | zero=>
  exact rfl
 | succ a ih=>
  show (match deepL (deepN H 11) (repL [.bool false] a) with | some ys=>some (V.bool false::ys) | none=>none)=_
  rw [ih]; rfl
theorem ZmN:∀a,eqDs (repL [.bool false] a) (repL [.bool false] a)=true:=by
 intro zz0
 induction zz0 with
 | zero=>
  exact rfl
 | succ a ih=>
  exact ih
theorem m96:methOf tb.P 60 96=some 263:=by kernel_rfl
section
variable {n M:Nat}{is fi up:List Int}{L:Lay}{X:Nat->Hd}{H:Hp}{ow:Nat->Nat}{lo:Loc}{r:PSs}{Q:Flow->St->Prop}{E:EP}
theorem Zn7 {v:V}{xs:List V}(hs:∀H,still v xs H)(F:Fi M fi)(hu:∀t:Nat,(t:Int)∈fi->(X t).up=false)(Q:List V->St->Prop):∀(zs:List Int) (a:Nat) (H:Hp) (ow:Nat->Nat) (lo:Loc),(∀z∈zs,z∈fi)->a+zs.length<=9->Rep H ow L M [] X->lo 106=some (.ref L.fk)->(∀H' lo',Q (repL [.bool false] (a+zs.length)) ⟨H',lo'⟩)->
  compGo (fun σ2 k=>wpC tb.P (CW tb.P (n+3)) E .none σ2 k) (fun σ2 k=>wpE tb.P (CW tb.P (n+3)) E (.meth true (.loc 106) 96 (.cons (.loc 29) .nil)) σ2 k) [29] (still v xs) (iV zs) (repL [.bool false] a) ⟨H,lo⟩ Q:=by
 intro zz0
 induction zz0 with
 | nil=>
  intro a H ow lo hz ha R l1 h
  exact ⟨hs H,by rw [Zca]; exact sz9 ha,h H lo⟩
 | cons z zs ih=>
  intro a H ow lo hz ha R l1 h
  rw [List.length_cons] at ha h
  have m:=hz z (.head _)
  have b:=F.lt z m
  obtain ⟨t,rfl⟩:=Int.eq_ofNat_of_zero_le b.1
  refine ⟨hs H,by rw [Zca]; exact sz9 (show a+1<=9 by exact lg8 ha), ?_⟩
  refine ZaS (σ:=⟨H,upd lo 29 (.int t)⟩) l1 R.fk m96 ?_
  refine ZiI (n:=n) R (by exact la4 b) fun H₁ ow1 R1 K1'=>?_
  refine gv rfl ?_
  rw [hu t m]
  have g:=ih (a+1) H₁ ow1 (upd lo 29 (.int t)) (fun y hy=>hz y (.tail _ hy)) (by exact la2 ha) R1 l1 fun H' lo'=>by rw [show a+1+zs.length=a+(zs.length+1) by exact lb2 (Nat.le_antisymm (Nat.le_refl _) (Nat.le_refl _))]; exact h H' lo'
  rw [← Ziq] at g
  exact g
theorem Zoq (F:Fi M fi)(h9:M<=9)(R:Rep H ow L M [] (XD X fi up))(l1:lo 106=some (.ref L.fk))(l2:lo 105=some (.lst (iV fi)))(l5:lo 140=some (.lst (iV up)))(hr:∀σ,Q (.ret (.bool true)) σ)(h:up≠[]->wpSs tb.P (CW tb.P (n+3)) r ⟨H,lo⟩ Q E):wpSs tb.P (CW tb.P (n+3)) (.cons Zhp r) ⟨H,lo⟩ Q E:=by
 have f9:fi.length<=9:=Nat.le_trans F.len h9
 refine Zaa (o:=lo 140) l5 ?_
 refine ⟨Zac rfl, ?_⟩
 have e:deep H (.lst (iV up))=some (.lst (iV up)):=by show mL (deepL (deepN H 11) (iV up))=_; rw [Zbj]; rfl
 refine Zaa (o:=deep H (.lst (iV up))) e ?_
 cases up with
 | cons z zs=>exact h fun z=>nomatch z
 | nil=>
  refine Zew ?_
  refine Zaa (o:=lo 105) l2 ?_
  refine Zn7 (n:=n) (v:=.lst (iV fi)) (xs:=iV fi) (fun ø=>rfl) F (fun t ht=>by rw [show XD X fi [] t={ X t with up:=false } from if_pos ⟨ht,fun z=>nomatch z⟩]) _ fi 0 H ow _ (fun ø h=>h) (by exact lf4 f9) R l1 fun H' lo'=>?_
  rw [Nat.zero_add]
  refine ⟨show (repL [.bool false] fi.length).length<=SZ by rw [Zca]; exact sz9 f9, ?_⟩
  refine ⟨Zac rfl, ?_⟩
  refine Zaa (o:=lo 105) l2 ?_
  refine ⟨⟨Int.natCast_nonneg _,show (((iV fi).length:Nat):Int)<=1048576 by rw [Zae]; exact lc7 f9 rfl,show 1 * (iV fi).length<=SZ by rw [Nat.one_mul,Zae]; exact sz9 f9⟩, ?_⟩
  have el:(((iV fi).length:Nat):Int).toNat=fi.length:=by rw [Zae]; exact li5
  refine ⟨show (repL [.bool false] (((iV fi).length:Nat):Int).toNat).length<=SZ by rw [Zca,el]; exact sz9 f9, ?_⟩
  refine Zht rfl ?_
  show cmpK H' .eq (.lst (repL [.bool false] fi.length)) (.lst (repL [.bool false] (((iV fi).length:Nat):Int).toNat)) _
  rw [el]
  have e':deep H' (.lst (repL [.bool false] fi.length))=some (.lst (repL [.bool false] fi.length)):=by show mL (deepL (deepN H' 11) _)=_; rw [Zip]; rfl
  refine Zaa (o:=deep H' (.lst (repL [.bool false] fi.length))) e' ?_
  refine Zaa (o:=deep H' (.lst (repL [.bool false] fi.length))) e' ?_
  show Q (.ret (.bool (eqDs (repL [.bool false] fi.length) (repL [.bool false] fi.length)))) _
  rw [ZmN]
  exact hr _
end
theorem ZiN:∀l:List Int,eqDs (iV l) (iV l)=true:=by
 intro zz0
 induction zz0 with
 | nil=>
  exact rfl
 | cons m r ih=>
  show (decide (m=m)&&eqDs (iV r) (iV r))=true
  rw [decide_eq_true rfl,ih]; rfl
theorem Zm0:∀l:List Msg,eqDs (mV l) (mV l)=true:=by
 intro zz0
 induction zz0 with
 | nil=>
  exact rfl
 | cons m r ih=>
  show ((decide (m.h=m.h)&&(decide (m.n=m.n)&&(decide (m.w=m.w)&&true)))&&eqDs (mV r) (mV r))=true
  rw [decide_eq_true rfl,decide_eq_true rfl,decide_eq_true rfl,ih]; rfl
theorem ZcD {H:Hp}{n:Nat}{l:List Int}:deepN H (n+2) (.lst (iV l))=some (.lst (iV l)):=by
 show mL (deepL (deepN H (n+1)) (iV l))=_
 rw [Zbj]; rfl
theorem Zf4 {H:Hp}{n:Nat}{l:List Msg}:deepN H (n+3) (.lst (mV l))=some (.lst (mV l)):=by
 show mL (deepL (deepN H (n+2)) (mV l))=_
 rw [ZgY]; rfl
theorem Zj1 {H:Hp}{n j:Nat}{l:List Int}(g:H.get j=some (.list (iV l))):deepN H (n+2) (.ref j)=some (.lst (iV l)):=by
 show bindL (cL (H.get j)) (fun xs=>mL (deepL (deepN H (n+1)) xs))=_
 rw [g]
 exact ZcD
theorem Zg0 {H:Hp}{n j:Nat}{l:List Msg}(g:H.get j=some (.list (mV l))):deepN H (n+3) (.ref j)=some (.lst (mV l)):=by
 show bindL (cL (H.get j)) (fun xs=>mL (deepL (deepN H (n+2)) xs))=_
 rw [g]
 exact Zf4
theorem Zlg {H:Hp}{a b x:V}{k:Bool->Prop}(ha:deep H a=some x)(hb:deep H b=some x)(he:eqD x x=true)(h:k false):cmpK H .ne a b k:=
 Zaa (o:=deep H a) ha (Zaa (o:=deep H b) hb (by rw [he]; exact h))
theorem gvL {σ:St}{Q:V->St->Prop}{i:Nat}{xs:List V}(g:σ.H.get i=some (.list xs))(h:Q (.lst xs) (σ.setH (σ.H.del i))):giveV true σ Q (.ref i):=by
 show (match cL (σ.H.get i) with | some xs=>Q (.lst xs) (σ.setH (σ.H.del i)) | none=>Q (.ref i) σ)
 rw [g]; exact h
theorem m78:methOf tb.P 60 78=some 270:=by kernel_rfl
section
variable {n M q:Nat}{is fi up w:List Int}{L:Lay}{X:Nat->Hd}{H:Hp}{ow:Nat->Nat}{lo:Loc}{r:PSs}{Q:Flow->St->Prop}{E:EP}
theorem Znt {K:CT}(hl:w.length<=9)(l6:lo 160=some (.lst (iV w)))(h:wpSs tb.P K r ⟨H.new (.list (iV w)),upd lo 39 (.ref H.next)⟩ Q E):wpSs tb.P K (.cons ZeX r) ⟨H,lo⟩ Q E:=by
 refine ZcP ?_
 refine Zaa (o:=lo 160) l6 ?_
 exact ⟨show (iV w).length<=SZ by rw [Zae]; exact sz9 hl,h⟩
theorem Zlw {j:Nat}(fw:Fi M w)(h9:M<=9)(un:up≠[])(f9:fi.length<=9)(hup:∀i∈up,∃t:Nat,i=t/\t < M/\(X t).up=true/\(X t).place=some 0/\(X t).off=none/\(X t).bal=(0, -1)/\(X t).ms=fi)(R:Rep H ow L M [] X)(g:H.get j=some (.list (iV w)))(wj:ow j=0)(l1:lo 106=some (.ref L.fk))(l4:lo 24=some (.lst (is.map .int)))(l5:lo 140=some (.lst (iV up)))(l6:lo 160=some (.lst (iV w)))(l7:lo 39=some (.ref j))
  (h:∀(t:Nat) H' ow',(t:Int)∈up->Rep H' ow' L M (sendF t 0 fi (.prep (1,t))) (updX X t { X t with off:=some ⟨(1,t),w,[],none,[],false⟩})->(∀i c,H.get i=some c->i≠j->ow i=0->H'.get i=some c/\ow' i=0)->wpSs tb.P (CW tb.P (n+4)) r ⟨H',lo⟩ Q E):wpSs tb.P (CW tb.P (n+4)) (.cons Zfm (.cons ZeY r)) ⟨H,lo⟩ Q E:=by
 refine ZaS (σ:=⟨H,lo⟩) l1 R.fk m78 ?_
 refine Zaa (o:=lo 140) l5 ?_
 refine Zaa (o:=lo 24) l4 ?_
 refine Zc8 (k:=5) fun x=>?_
 refine gv rfl ?_
 refine Zaa (o:=lo 140) l5 ?_
 have pos:0 < up.length:=List.length_pos_iff.mpr un
 obtain ⟨p,ep,hp⟩:=ZdE (x:=x) (n:=up.length) pos
 have el:(((iV up).length:Nat):Int)=(up.length:Nat):=by rw [Zae]
 refine ⟨show (((iV up).length:Nat):Int)≠0 by rw [el]; exact fun zz=>lg1 pos zz, ?_⟩
 show atK (iV up) (Int.fmod x ((iV up).length:Nat)) _
 rw [el,ep]
 refine ZeU (List.getElem?_eq_getElem hp) ?_
 obtain ⟨t,et,tM,t1,t2,t3,t4,t5⟩:=hup up[p] (List.getElem_mem hp)
 have hm:(t:Int)∈up:=et▸List.getElem_mem hp
 rw [et]
 refine Zaa (o:=lo 39) l7 ?_
 refine ZlQ (n:=n) R tM t1 t2 t3 fw g wj (sz9 (Nat.le_trans fw.len h9)) (by rw [t5]; exact sz9 (by rw [show ([]:List Letter).length=0 from rfl]; exact lf4 f9)) fun H₁ ow1 R1 K1'=>?_
 rw [t4,t5] at R1
 refine gv rfl ?_
 refine ⟨rfl, ?_⟩
 have g1:=K1' j _ g wj
 refine Zaa (o:=lo 39) l7 ?_
 refine Zaa (o:=lo 160) l6 ?_
 refine Zlg (Zj1 g1.1) ZcD (ZiN w) ?_
 refine ZcY ?_
 refine Zlf (σ:=⟨H₁,lo⟩) (l:=39) (j:=j) (v:=.int 0) rfl l7 g1.1 (fun ø q=>q) (by rw [Zae]; exact sz0 (show w.length+1<=30000 from la7 (Nat.succ_le_succ (Nat.le_trans fw.len h9)) rfl)) ?_
 exact h t _ ow1 hm (R1.set g1.1 g1.2) fun i c gi ne wi=>⟨(Hp.get_set g1.1).trans ((if_neg ne).trans (K1' i c gi wi).1),(K1' i c gi wi).2⟩
end
structure Z4 (L:Lay)(M j:Nat)(W:List Msg)(X:Nat->Hd)(H:Hp)(ow:Nat->Nat):Prop where
 R:Rep H ow L M [] X
 g:H.get j=some (.list (mV W))
 w:ow j=0
section
variable {L:Lay}{M j:Nat}{W:List Msg}{X:Nat->Hd}{H H':Hp}{ow ow':Nat->Nat}
theorem Z4.on (z:Z4 L M j W X H ow)(R:Rep H' ow' L M [] X)(K:Keep H ow H' ow'):Z4 L M j W X H' ow':=⟨R,(K _ _ z.g z.w).1,(K _ _ z.g z.w).2⟩
theorem Z4.del {c:C}(z:Z4 L M j W X H ow)(R:Rep H' ow' L M [] X)(K:Keep H ow H' ow')(g:H'.get H.next=some c)(w:ow' H.next=0):Z4 L M j W X (H'.del H.next) ow':=
 ⟨R.del g w,(Hp.get_del g).trans ((if_neg (Nat.ne_of_lt (Zak z.g))).trans (K _ _ z.g z.w).1),(K _ _ z.g z.w).2⟩
end
theorem m97:methOf tb.P 60 97=some 264:=by kernel_rfl
theorem m98:methOf tb.P 60 98=some 265:=by kernel_rfl
theorem m99:methOf tb.P 60 99=some 266:=by kernel_rfl
theorem m100:methOf tb.P 60 100=some 267:=by kernel_rfl
theorem m101:methOf tb.P 60 101=some 268:=by kernel_rfl
theorem g56:tb.P.glob 56=some (.cls 56):=by kernel_rfl
theorem g156:tb.P.glob 156=some (.fn 156):=by kernel_rfl
theorem f156:tb.P.fn 156=some ZcI:=by kernel_rfl
theorem e56:tb.P.exc 56=true/\tb.P.sub 56 56=true:=⟨by kernel_rfl,by kernel_rfl⟩
section
variable {n t:Nat}{L:Lay}{M j:Nat}{W:List Msg}{X:Nat->Hd}{H:Hp}{ow:Nat->Nat}{lo:Loc}{E:EP}{Q:V->St->Prop}(z:Z4 L M j W X H ow)(tM:t < M)(l1:lo 106=some (.ref L.fk))(l2:lo 29=some (.int t))
include z tM l1 l2
theorem ZjB {pl:Int}(hp:(X t).place=some pl)(hz:(X t).ms.length<=SZ)(h:∀H' ow',Z4 L M j W X H' ow'->Q (.tup [.int pl,.lst (iV (X t).ms)]) ⟨H',lo⟩):wpE tb.P (CW tb.P (n+5)) E (.call true (.glob 156) (.cons (.loc 106) (.cons (.loc 29) .nil))) ⟨H,lo⟩ Q:=by
 refine Zcs g156 ?_
 refine Zaa (o:=lo 106) l1 ?_
 refine Zaa (o:=lo 29) l2 ?_
 refine Zad _ _ _ f156 rfl ?_
 refine ZmJ g56 ?_
 refine Zew ?_
 refine ZaS (σ:=⟨H,_⟩) rfl z.R.fk m97 ?_
 refine Zm2 (n:=n) z.R tM hp hz fun H' ow' R' K'=>?_
 refine gv rfl ?_
 show giveV true ⟨H',lo⟩ Q (.tup [.int pl,.lst (iV (X t).ms)])
 exact gv rfl (h H' ow' (z.on R' K'))
theorem Zl8 (hp:(X t).place=none)(h:∀H' ow',Z4 L M j W X H' ow'->Q .none ⟨H',lo⟩):wpE tb.P (CW tb.P (n+5)) E (.call true (.glob 156) (.cons (.loc 106) (.cons (.loc 29) .nil))) ⟨H,lo⟩ Q:=by
 refine Zcs g156 ?_
 refine Zaa (o:=lo 106) l1 ?_
 refine Zaa (o:=lo 29) l2 ?_
 refine Zad _ _ _ f156 rfl ?_
 refine ZmJ g56 ?_
 refine Zew ?_
 refine ZaS (σ:=⟨H,_⟩) rfl z.R.fk m97 ?_
 refine ZhK (n:=n) z.R tM hp fun H' ow' i R' K' g=>?_
 refine Zaa (o:=cE (H'.get i)) (a:=56) (by rw [g]; rfl) ?_
 refine ⟨e56.1,e56.2, ?_⟩
 show giveV true ⟨H',lo⟩ Q .none
 exact gv rfl (h H' ow' (z.on R' K'))
theorem Zgb {pl:Int}(hp:(X t).place=some pl)(h:∀H' ow',Z4 L M j W X H' ow'->Q (.bool (X t).still) ⟨H',lo⟩):wpE tb.P (CW tb.P (n+5)) E (.meth true (.loc 106) 99 (.cons (.loc 29) .nil)) ⟨H,lo⟩ Q:=by
 refine ZaS (σ:=⟨H,lo⟩) l1 z.R.fk m99 ?_
 refine Zaa (o:=lo 29) l2 ?_
 refine ZkT (n:=n+1) z.R tM hp fun H' ow' R' K'=>?_
 refine gv rfl ?_
 exact h H' ow' (z.on R' K')
theorem Zjk (hg:∀g∈(X t).gone,g.2.1.length<=SZ/\g.2.2.length<=SZ)(hz:(X t).gone.length<=SZ)(h:∀H' ow',Z4 L M j W X H' ow'->Q (.lst (gV (X t).gone)) ⟨H',lo⟩):wpE tb.P (CW tb.P (n+5)) E (.meth true (.loc 106) 101 (.cons (.loc 29) .nil)) ⟨H,lo⟩ Q:=by
 refine ZaS (σ:=⟨H,lo⟩) l1 z.R.fk m101 ?_
 refine Zaa (o:=lo 29) l2 ?_
 refine Zm6 (n:=n+2) z.R tM hg hz fun H' ow' R' K' g w=>?_
 refine gvL (σ:=⟨H',lo⟩) g ?_
 exact h _ ow' (z.del R' K' g w)
theorem Zhc {pl:Int}(hp:(X t).place=some pl)(h0:0<=(X t).took)(hr:(X t).row.length<=SZ)(h:∀H' ow',Z4 L M j W X H' ow'->Q (.lst (mV ((X t).row.take (X t).took.toNat))) ⟨H',lo⟩):wpE tb.P (CW tb.P (n+5)) E (.meth true (.loc 106) 98 (.cons (.loc 29) .nil)) ⟨H,lo⟩ Q:=by
 refine ZaS (σ:=⟨H,lo⟩) l1 z.R.fk m98 ?_
 refine Zaa (o:=lo 29) l2 ?_
 refine Zk8 (n:=n+1) z.R tM hp h0 hr fun H' ow' R' K' g w=>?_
 refine gvL (σ:=⟨H',lo⟩) g ?_
 exact h _ ow' (z.del R' K' g w)
theorem Zn8 {pl:Int}(hp:(X t).place=some pl)(hz:(wiF (X t).news).length<=SZ)(h:∀H' ow',Z4 L M j W X H' ow'->Q (.lst (iV (wiF (X t).news))) ⟨H',lo⟩):wpE tb.P (CW tb.P (n+5)) E (.meth true (.loc 106) 100 (.cons (.loc 29) .nil)) ⟨H,lo⟩ Q:=by
 refine ZaS (σ:=⟨H,lo⟩) l1 z.R.fk m100 ?_
 refine Zaa (o:=lo 29) l2 ?_
 refine ZnJ (n:=n+1) z.R tM hp hz fun H' ow' R' K' g w=>?_
 refine gvL (σ:=⟨H',lo⟩) g ?_
 exact h _ ow' (z.del R' K' g w)
end
theorem ZhQ {H:Hp}{a:Int}{l:List Int}:deep H (.tup [.int a,.lst (iV l)])=some (.tup [.int a,.lst (iV l)]):=by
 show mT (match some (V.int a) with | some y=>(match (match deepN H 11 (.lst (iV l)) with | some y=>some [y] | none=>none) with | some ys=>some (y::ys) | none=>none) | none=>none)=_
 rw [ZcD]; rfl
theorem ZlD {a:Int}{l:List Int}:eqD (.tup [.int a,.lst (iV l)]) (.tup [.int a,.lst (iV l)])=true:=by
 show (decide (a=a)&&(eqDs (iV l) (iV l)&&true))=true
 rw [decide_eq_true rfl,ZiN]; rfl
theorem f157:tb.P.fn 157=some ZbY:=by kernel_rfl
section
variable {n:Nat}{L:Lay}{k:K4}{j:Nat}{X:Nat->Hd}{H:Hp}{ow:Nat->Nat}
theorem ZfI (hk:K4ok k){v:V}{xs:List V}(hs:∀H,still v xs H)(Q:Flow->St->Prop)(hq:∀σ,Q .next σ):∀(zs:List Int) (H:Hp) (ow:Nat->Nat) (lo:Loc),(∀y∈zs,∃t:Nat,y=t/\t < k.M/\A0 k t (X t)/\(X t).still=true)->Z4 L k.M j k.R X H ow->lo 106=some (.ref L.fk)->lo 105=some (.lst (iV k.fi))->lo 136=some (.ref j)->
  loopGo (fun v σ2 k=>bindT [29] v σ2 fun σ3=>wpSs tb.P (CW tb.P (n+5)) ZaU σ3 k noE) (still v xs) (iV zs) ⟨H,lo⟩ Q:=by
 intro zz0
 induction zz0 with
 | nil=>
  intro H ow lo hz z l1 l2 l3
  exact ⟨hs H,hq _⟩
 | cons y zs ih=>
  intro H ow lo hz z l1 l2 l3
  obtain ⟨t,rfl,tM,a,st⟩:=hz y (.head _)
  refine ⟨hs H, ?_⟩
  show wpSs tb.P (CW tb.P (n+5)) ZaU ⟨H,upd lo 29 (.int t)⟩ _ noE
  refine ZjB (n:=n) (t:=t) (lo:=upd lo 29 (.int t)) z tM l1 rfl a.pl (by rw [a.ms]; exact sz9 hk.fl.1) fun H₁ ow1 z1'=>?_
  rw [a.ms]
  refine Zaa (o:=lo 105) l2 ?_
  refine ⟨Zac rfl, ?_⟩
  refine Zlg ZhQ ZhQ ZlD ?_
  refine Zgb (n:=n) (t:=t) (lo:=upd lo 29 (.int t)) z1' tM l1 rfl a.pl fun H2' ow2 z2'=>?_
  rw [st]
  refine ⟨rfl, ?_⟩
  refine Zjk (n:=n) (t:=t) (lo:=upd lo 29 (.int t)) z2' tM l1 rfl (by rw [a.gone]; exact fun ø h=>nomatch h) (by rw [a.gone]; exact Nat.zero_le _) fun H3 ow3 z3'=>?_
  rw [a.gone]
  refine ⟨Zac rfl, ?_⟩
  refine Zhc (n:=n) (t:=t) (lo:=upd lo 29 (.int t)) z3' tM l1 rfl a.pl (by rw [a.took]; exact Int.natCast_nonneg _) (by rw [a.row]; exact sz0 (Nat.le_trans hk.R (by decide))) fun H4' ow4 z4=>?_
  rw [a.row,a.took,Int.toNat_natCast,List.take_length]
  refine Zaa (o:=lo 136) l3 ?_
  refine Zlg Zf4 (Zg0 z4.g) (Zm0 _) ?_
  exact ih H4' ow4 (upd lo 29 (.int t)) (fun x hx=>hz x (.tail _ hx)) z4 l1 l2 l3
theorem ZkP {Q:V->Hp->Prop}{E:Nat->Hp->Prop}(hk:K4ok k)(hz:∀y∈k.up,∃t:Nat,y=t/\t < k.M/\A0 k t (X t)/\(X t).still=true)(z:Z4 L k.M j k.R X H ow)(h:∀H',Q (.bool true) H'):CW tb.P (n+6) 157 [.ref L.fk,.lst (iV k.up),.lst (iV k.fi),.ref j] H Q E:=by
 refine Zad _ _ _ f157 rfl ?_
 exact ZfI (n:=n) hk (v:=.lst (iV k.up)) (xs:=iV k.up) (fun ø=>rfl) _ (fun σ=>h _) k.up H ow _ hz z rfl rfl rfl
end
theorem ZkN {l:List Int}(h:Sm l)(hl:l.length<=9):lenB l=true:=by
 obtain ⟨P,T⟩:=Zin (led:=true) h hl
 obtain ⟨P',T'⟩:=Zin (led:=false) h hl
 unfold lenB
 rw [T.len,T'.len,beq_self_eq_true,Bool.and_self,Bool.and_true]
 exact Nat.ble_eq_true_of_le (Nat.lt_of_le_of_lt hl (by decide))
theorem ZmF:∀{l:List Int},l.Pairwise (· < ·)->srt l=l:=by
 intro zz0
 induction zz0 with
 | nil=>
  intro _
  exact rfl
 | cons x r ih=>
  intro h
  show ins x (srt r)=_
  rw [ih (List.pairwise_cons.mp h).2]
  cases r with
  | nil=>rfl
  | cons y s=>exact if_pos (Int.le_of_lt ((List.pairwise_cons.mp h).1 y (.head _)))
theorem f158:tb.P.fn 158=some ZbB:=by kernel_rfl
section
variable {n t:Nat}{L:Lay}{k:K4}{j:Nat}{X:Nat->Hd}{H:Hp}{ow:Nat->Nat}{fi up:List Int}
theorem ZnV {K:CT}{v:V}{xs:List V}(hs:still v xs H)(Q:List V->St->Prop)(h:∀lo',Q [] ⟨H,lo'⟩):∀(zs:List Int) (lo:Loc),(∀y∈zs,y∈fi/\y∈up)->lo 105=some (.lst (iV fi))->lo 140=some (.lst (iV up))->
  compGo (fun σ2 k=>wpC tb.P K noE (.some (.or (.cons (.e (.cmp .notIn (.loc 161) (.loc 105))) (.cons (.e (.cmp .notIn (.loc 161) (.loc 140))) .nil)))) σ2 k) (fun σ2 k=>wpE tb.P K noE (.loc 161) σ2 k) [161] (still v xs) (iV zs) [] ⟨H,lo⟩ Q:=by
 intro zz0
 induction zz0 with
 | nil=>
  intro lo hz l1 l2
  exact ⟨hs,Nat.zero_le _,h lo⟩
 | cons y zs ih=>
  intro lo hz l1 l2
  have m:=hz y (.head _)
  refine ⟨hs,Zac rfl, ?_⟩
  refine Zaa (o:=lo 105) l1 ?_
  refine Zcy ?_
  rw [decide_eq_true m.1]
  refine Zaa (o:=lo 140) l2 ?_
  refine Zcy ?_
  rw [decide_eq_true m.2]
  exact ih (upd lo 161 (.int y)) (fun x hx=>hz x (.tail _ hx)) l1 l2
theorem wit4 {pl:Int}{nw:News}{Q:V->Hp->Prop}{E:Nat->Hp->Prop}(hk:K4ok k)(z:Z4 L k.M j k.R X H ow)(tM:t < k.M)(hp:(X t).place=some pl)(en:(X t).news=some nw)(wt:Wt k nw.wit)(h:∀H' ow',Z4 L k.M j k.R X H' ow'->Q (.bool true) H'):CW tb.P (n+6) 158 [.ref L.fk,.int t,.lst (iV k.fi),.lst (iV k.up)] H Q E:=by
 have ew:wiF (X t).news=nw.wit:=by rw [en]; rfl
 have lw:nw.wit.length<=9:=Nat.le_trans wt.sub.length_le hk.fl.1
 have up:nw.wit.Pairwise (· < ·):=hk.fi.up.sublist wt.sub
 have sm:Sm nw.wit:=⟨up.imp fun h=>Int.ne_of_lt h,fun i hi=>(hk.fi.sm hk.h9).lt i (wt.sub.subset hi)⟩
 have l64:nw.wit.length < 64:=Nat.lt_of_le_of_lt lw (by decide)
 refine Zad _ _ _ f158 rfl ?_
 refine ZcP ?_
 refine Zn8 (n:=n) (t:=t) z tM rfl rfl hp (by rw [ew]; exact sz9 lw) fun H₁ ow1 z1'=>?_
 rw [ew]
 refine ⟨⟨by decide,by decide⟩, ?_⟩
 have el:(((iV nw.wit).length:Nat):Int)=Int.fdiv ((iV k.fi).length:Nat) 2+1:=by
  rw [Zae,Zae,wt.len,Int.fdiv_eq_ediv_of_nonneg _ (by decide)]; rfl
 refine Zei (b:=!decide ((((iV nw.wit).length:Nat):Int)=Int.fdiv ((iV k.fi).length:Nat) 2+1)) (by rw [decide_eq_true el]; rfl) ?_
 refine Zaa (o:=intsOf (iV nw.wit)) (Zbg _) ?_
 refine ⟨l64, ?_⟩
 rw [ZmF up]
 refine ⟨show (iV nw.wit).length<=SZ by rw [Zae]; exact sz9 lw, ?_⟩
 refine Zht rfl ?_
 refine Zlg ZcD ZcD (ZiN nw.wit) ?_
 refine Zew ?_
 refine ⟨rfl,rfl, ?_⟩
 refine Zaa (o:=intsOf (iV nw.wit)) (Zbg _) ?_
 refine ⟨l64,ZkN sm lw, ?_⟩
 refine Zht (b:=decide (((nw.wit.length:Nat):Int)=((iV nw.wit).length:Nat))) (decide_eq_true (by rw [Zae])) ?_
 refine ZnV (fi:=k.fi) (up:=k.up) (v:=.lst (iV nw.wit)) (xs:=iV nw.wit) rfl _ (fun lo'=>?_) nw.wit _ (fun y hy=>⟨wt.sub.subset hy,wt.up y hy⟩) rfl rfl
 refine ⟨Nat.zero_le _, ?_⟩
 refine ⟨Zac rfl, ?_⟩
 exact h H₁ ow1 z1'
end
theorem Zdx {f:V->Option V}{x y:V}{r ys:List V}(hx:f x=some y)(hr:deepL f r=some ys):deepL f (x::r)=some (y::ys):=by
 show (match f x with | some y=>(match deepL f r with | some ys=>some (y::ys) | none=>none) | none=>none)=_
 rw [hx,hr]
theorem Zjv {H:Hp}{a:Int}{b c b' c':V}(hb:deepN H 10 b=some b')(hc:deepN H 10 c=some c'):deep H (.lst [.tup [.int a,b,c]])=some (.lst [.tup [.int a,b',c']]):=by
 have e:deepN H 11 (.tup [.int a,b,c])=some (.tup [.int a,b',c']):=by
  show mT (deepL (deepN H 10) [.int a,b,c])=_
  rw [Zdx (f:=deepN H 10) (x:=.int a) (y:=.int a) rfl (Zdx hb (Zdx hc rfl))]; rfl
 show mL (deepL (deepN H 11) [.tup [.int a,b,c]])=_
 rw [Zdx e rfl]; rfl
theorem Zov {a:Int}{l:List Int}{m:List Msg}:eqD (.lst [.tup [.int a,.lst (iV l),.lst (mV m)]]) (.lst [.tup [.int a,.lst (iV l),.lst (mV m)]])=true:=by
 show ((decide (a=a)&&(eqDs (iV l) (iV l)&&(eqDs (mV m) (mV m)&&true)))&&true)=true
 rw [decide_eq_true rfl,ZiN,Zm0]; rfl
theorem Zoo {P:Prog}{K:CT}{E:EP}{σ:St}{Q:V->St->Prop}{l r:Nat}{t:Int}{xs:List Int}(hl:σ.loc l=some (.int t))(hr:σ.loc r=some (.lst (iV xs)))(h:Q (.bool (decide (t∈xs))) σ):wpE P K E (.cmp .isIn (.loc l) (.loc r)) σ Q:=
 Zaa (o:=σ.loc l) hl (Zaa (o:=σ.loc r) hr (Zom h))
structure V4 (k:K4)(t:Nat)(x:Hd):Prop where
 gone:x.gone=if (t:Int)∈k.fi then [(0,k.fi,k.R)] else []
 pl:x.place=if (t:Int)∈k.w then some 1 else none
 wn:(t:Int)∈k.w->Wn k t x
theorem f159:tb.P.fn 159=some Zch:=by kernel_rfl
theorem g43:tb.P.glob 43=some (.bt .int):=by kernel_rfl
theorem g158:tb.P.glob 158=some (.fn 158):=by kernel_rfl
section
variable {n t:Nat}{L:Lay}{k:K4}{j:Nat}{X:Nat->Hd}{H:Hp}{ow:Nat->Nat}
theorem Zmw {Q:V->Hp->Prop}{E:Nat->Hp->Prop}(hk:K4ok k)(z:Z4 L k.M j k.R X H ow)(tM:t < k.M)(v:V4 k t (X t))(h:∀H' ow',Z4 L k.M j k.R X H' ow'->Q (.bool true) H'):CW tb.P (n+7) 159 [.ref L.fk,.int t,.lst (iV k.fi),.ref j,.lst (iV k.w),.lst (iV k.up)] H Q E:=by
 have gl:∀g∈(X t).gone,g.2.1.length<=SZ/\g.2.2.length<=SZ:=by
  rw [v.gone]
  intro g hg
  by_cases c:(t:Int)∈k.fi
  ·rw [if_pos c] at hg
   cases List.mem_singleton.mp hg
   exact ⟨sz9 hk.fl.1,sz0 (Nat.le_trans hk.R (by decide))⟩
  ·rw [if_neg c] at hg; exact nomatch hg
 have gz:(X t).gone.length<=SZ:=by
  rw [v.gone]
  by_cases c:(t:Int)∈k.fi
  ·rw [if_pos c]; exact sz9 (Zac rfl)
  ·rw [if_neg c]; exact Nat.zero_le _
 refine Zad _ _ _ f159 rfl ?_
 refine ZcP ?_
 refine Zjk (n:=n+1) (t:=t) z tM rfl rfl gl gz fun H₁ ow1 z1'=>?_
 have go:∀{lo:Loc} {Q':Flow->St->Prop} {E'},lo 106=some (.ref L.fk)->lo 29=some (.int t)->lo 160=some (.lst (iV k.w))->lo 105=some (.lst (iV k.fi))->lo 140=some (.lst (iV k.up))->(∀H' ow' lo',Z4 L k.M j k.R X H' ow'->Q' (.ret (.bool true)) ⟨H',lo'⟩)->wpSs tb.P (CW tb.P (n+6)) (.cons (.ite (.e (.cmp .notIn (.loc 29) (.loc 160))) (.cons (.ret (.some (.cmp .is (.call true (.glob 156) (.cons (.loc 106) (.cons (.loc 29) .nil))) (.cst .none)))) .nil) .nil) (.cons (.ite (.or (.cons (.e (.cmp .ne (.call true (.glob 156) (.cons (.loc 106) (.cons (.loc 29) .nil))) (.tup (.cons (.cst (.int 1)) (.cons (.loc 160) .nil))))) (.cons (.e (.cmp .ne (.meth true (.loc 106) 98 (.cons (.loc 29) .nil)) (.list true .nil))) (.cons (.e (.cmp .isNot (.meth true (.loc 106) 99 (.cons (.loc 29) .nil)) (.cst (.bool false)))) .nil)))) (.cons (.ret (.some (.cst (.bool false)))) .nil) .nil) (.cons (.ret (.some (.call true (.glob 158) (.cons (.loc 106) (.cons (.loc 29) (.cons (.loc 105) (.cons (.loc 140) .nil))))))) .nil))) ⟨H₁,lo⟩ Q' E':=by
  intro lo Q' E' l1 l2 l3 l4 l5 hq
  refine Zaa (o:=lo 29) l2 ?_
  refine Zaa (o:=lo 160) l3 ?_
  refine Zcy ?_
  by_cases c:(t:Int)∈k.w
  ·rw [decide_eq_true c]
   have wn:=v.wn c
   have ep:(X t).place=some 1:=wn.pl.trans (if_pos c)
   have em:(X t).ms=k.w:=wn.ms.trans (if_pos c)
   obtain ⟨nw,en,wt⟩:=wn.news c
   refine ZjB (n:=n+1) z1' tM l1 l2 ep (by rw [em]; exact sz9 hk.fl.2.1) fun H2' ow2 z2'=>?_
   rw [em]
   refine Zaa (o:=lo 160) l3 ?_
   refine ⟨Zac rfl, ?_⟩
   refine Zlg ZhQ ZhQ ZlD ?_
   refine Zhc (n:=n+1) z2' tM l1 l2 ep (by rw [wn.took]; exact Int.le_refl 0) (by rw [wn.row]; exact Nat.zero_le _) fun H3 ow3 z3'=>?_
   rw [wn.row,List.take_nil]
   refine ⟨Zac rfl, ?_⟩
   refine Zgb (n:=n+1) z3' tM l1 l2 ep fun H4' ow4 z4=>?_
   rw [wn.still]
   refine ⟨rfl, ?_⟩
   refine Zew ?_
   refine Zcs g158 ?_
   refine Zaa (o:=lo 106) l1 ?_
   refine Zaa (o:=lo 29) l2 ?_
   refine Zaa (o:=lo 105) l4 ?_
   refine Zaa (o:=lo 140) l5 ?_
   refine wit4 (n:=n) hk z4 tM ep en wt fun H5 ow5 z5=>?_
   refine gv rfl ?_
   exact hq H5 ow5 lo z5
  ·rw [decide_eq_false c]
   refine Zew ?_
   refine Zl8 (n:=n+1) z1' tM l1 l2 (v.pl.trans (if_neg c)) fun H2' ow2 z2'=>?_
   exact ⟨rfl,hq H2' ow2 lo z2'⟩
 refine Zn4 (fun K' q=>?_) ?_
 ·refine ⟨Zac rfl,Zac rfl, ?_⟩
  refine Zht rfl ?_
  refine Zcs g43 ?_
  refine Zoo (t:=(t:Int)) (xs:=k.fi) rfl rfl ?_
  by_cases c:(t:Int)∈k.fi
  ·rw [v.gone.trans (if_pos c)] at q ⊢
   rw [decide_eq_true c]
   refine ⟨⟨by decide,by decide,Zac rfl⟩, ?_⟩
   refine ⟨Zac rfl, ?_⟩
   refine Zht rfl ?_
   exact Zlg (x:=.lst (gV [(0,k.fi,k.R)])) (Zjv ZcD Zf4) (Zjv ZcD (Zg0 z1'.g)) Zov q
  ·rw [v.gone.trans (if_neg c)] at q ⊢
   rw [decide_eq_false c]
   refine ⟨⟨by decide,by decide,Zac rfl⟩, ?_⟩
   exact ⟨Zac rfl,q⟩
 ·refine go ?_ ?_ ?_ ?_ ?_ ?_
  ·rfl
  ·rfl
  ·rfl
  ·rfl
  ·rfl
  ·exact fun H' ow' lo' z'=>h H' ow' z'
end
theorem g157:tb.P.glob 157=some (.fn 157):=by kernel_rfl
theorem g159:tb.P.glob 159=some (.fn 159):=by kernel_rfl
section
variable {n:Nat}{L:Lay}{k:K4}{j:Nat}{X:Nat->Hd}
theorem ZiL {v:V}{xs:List V}(hs:∀H,still v xs H)(hk:K4ok k)(hv:∀t:Nat,t < k.M->(t:Int)∈k.up\/(t:Int)∉k.fi->V4 k t (X t))(Q:Flow->St->Prop)(hq:∀σ,Q .next σ):∀(N p:Nat) (H:Hp) (ow:Nat->Nat) (lo:Loc),p+N<=k.M->Z4 L k.M j k.R X H ow->lo 106=some (.ref L.fk)->lo 105=some (.lst (iV k.fi))->lo 136=some (.ref j)->lo 160=some (.lst (iV k.w))->lo 140=some (.lst (iV k.up))->
  loopGo (fun v σ2 k=>bindT [29] v σ2 fun σ3=>wpSs tb.P (CW tb.P (n+7)) ZdB σ3 k noE) (still v xs) (rngL p 1 N) ⟨H,lo⟩ Q:=by
 intro zz0
 induction zz0 with
 | zero=>
  intro p H ow lo hp z l1 l2 l3 l4 l5
  exact ⟨hs H,hq _⟩
 | succ N ih=>
  intro p H ow lo hp z l1 l2 l3 l4 l5
  have nx:∀H' ow',Z4 L k.M j k.R X H' ow'->loopGo (fun v σ2 k=>bindT [29] v σ2 fun σ3=>wpSs tb.P (CW tb.P (n+7)) ZdB σ3 k noE) (still v xs) (rngL ((p+1:Nat):Int) 1 N) ⟨H',upd lo 29 (.int p)⟩ Q:=fun H' ow' z'=>
   ih (p+1) H' ow' (upd lo 29 (.int p)) (by exact la2 hp) z' l1 l2 l3 l4 l5
  refine ⟨hs H, ?_⟩
  show wpSs tb.P (CW tb.P (n+7)) ZdB ⟨H,upd lo 29 (.int p)⟩ _ noE
  refine Zaa (o:=lo 140) l5 ?_
  refine Zom ?_
  have go:(p:Int)∈k.up\/(p:Int)∉k.fi->∀Q':V->St->Prop,(∀H' ow',Z4 L k.M j k.R X H' ow'->Q' (.bool true) ⟨H',upd lo 29 (.int p)⟩)->wpE tb.P (CW tb.P (n+7)) noE (.call true (.glob 159) (.cons (.loc 106) (.cons (.loc 29) (.cons (.loc 105) (.cons (.loc 136) (.cons (.loc 160) (.cons (.loc 140) .nil))))))) ⟨H,upd lo 29 (.int p)⟩ Q':=fun c Q' q=>by
   refine Zcs g159 ?_
   refine Zaa (o:=lo 106) l1 ?_
   refine Zaa (o:=lo 105) l2 ?_
   refine Zaa (o:=lo 136) l3 ?_
   refine Zaa (o:=lo 160) l4 ?_
   refine Zaa (o:=lo 140) l5 ?_
   refine Zmw (n:=n) hk z (show p < k.M by exact la1 hp) (hv p (by exact la1 hp) c) fun H' ow' z'=>?_
   exact gv rfl (q H' ow' z')
  by_cases c:(p:Int)∈k.up
  ·rw [decide_eq_true c]
   exact go (.inl c) _ fun H' ow' z'=>nx H' ow' z'
  ·rw [decide_eq_false c]
   refine Zaa (o:=lo 105) l2 ?_
   refine Zcy ?_
   by_cases d:(p:Int)∈k.fi
   ·rw [decide_eq_true d]
    exact nx H ow z
   ·rw [decide_eq_false d]
    exact go (.inr d) _ fun H' ow' z'=>nx H' ow' z'
end
section
variable {n:Nat}{L:Lay}{k:K4}{j:Nat}{X:Nat->Hd}{H:Hp}{ow:Nat->Nat}{lo:Loc}{Q:Flow->St->Prop}{E:EP}
theorem ZmG (hk:K4ok k)(I:I4 k [] X)(z:Z4 L k.M j k.R X H ow)(l1:lo 106=some (.ref L.fk))(l2:lo 105=some (.lst (iV k.fi)))(l3:lo 136=some (.ref j))(l4:lo 160=some (.lst (iV k.w)))(l5:lo 140=some (.lst (iV k.up)))(l6:lo 28=some (.int k.M))(h:∀σ,Q (.ret (.bool true)) σ):wpSs tb.P (CW tb.P (n+7)) (.cons Ze1 (.cons ZeR (.cons Zft .nil))) ⟨H,lo⟩ Q E:=by
 refine Zaa (o:=lo 140) l5 ?_
 refine ⟨.inl (by decide), ?_⟩
 refine Zaa (o:=lo 105) l2 ?_
 refine ZbV (b:=decide ((2:Int) * ((iV k.up).length:Nat)<=((iV k.fi).length:Nat))) (fun c=>?_) fun c=>?_
 ·have c:=of_decide_eq_true c
  rw [Zae,Zae] at c
  have nm:¬ k.maj:=fun m=>by
   have m:k.fi.length / 2+1<=k.up.length:=m
   lia
  refine Zew ?_
  refine Zcs g157 ?_
  refine Zaa (o:=lo 106) l1 ?_
  refine Zaa (o:=lo 140) l5 ?_
  refine Zaa (o:=lo 105) l2 ?_
  refine Zaa (o:=lo 136) l3 ?_
  refine ZkP (n:=n+1) hk (fun y hy=>?_) z fun H'=>gv rfl (h _)
  have b:=hk.fi.lt y (hk.sub y hy)
  obtain ⟨t,rfl⟩:=Int.eq_ofNat_of_zero_le b.1
  exact ⟨t,rfl,by exact la4 b,Zle hk I nm t (by exact la4 b) hy⟩
 ·have c:=of_decide_eq_false c
  rw [Zae,Zae] at c
  have mj:k.maj:=show k.fi.length / 2+1<=k.up.length by lia
  refine Zaa (o:=lo 28) l6 ?_
  refine ⟨show ((k.M:Nat):Int).natAbs<=SZ by rw [Int.natAbs_natCast]; exact sz9 hk.h9, ?_⟩
  show loopGo _ (still (.rng 0 (k.M:Nat) 1) (rngL 0 1 (rngN 0 (k.M:Nat) 1))) (rngL 0 1 (rngN 0 (k.M:Nat) 1)) ⟨H,lo⟩ _
  rw [Za2]
  refine ZiL (n:=n) (v:=.rng 0 (k.M:Nat) 1) (xs:=rngL 0 1 k.M) (fun H=>by show some (rngL 0 1 (rngN 0 (k.M:Nat) 1))=_; rw [Za2]) hk (fun t tM ht=>?_) _ (fun σ=>h _) k.M 0 H ow lo (by exact lf4 (Nat.le_refl _)) z l1 l2 l3 l4 l5
  by_cases d:(t:Int)∈k.up\/((t:Int)∉k.fi/\(t:Int)∈k.w)
  ·have w:=Zkw hk I mj t tM d
   exact ⟨w.gone,w.pl,fun ø=>w⟩
  ·have nf:(t:Int)∉k.fi:=ht.resolve_left fun z=>d (.inl z)
   have nw:(t:Int)∉k.w:=fun z=>d (.inr ⟨nf,z⟩)
   refine ⟨?_, ?_,fun z=>absurd z nw⟩
   ·rw [if_neg nf]
    cases I.hd t tM with
    | a a=>exact absurd a.mem nf
    | w a=>exact a.gone.trans (if_neg nf)
    | o _ e=>rw [e]; rfl
   ·rw [if_neg nw]
    cases I.hd t tM with
    | a a=>exact absurd a.mem nf
    | w a=>exact a.pl.trans (if_neg nw)
    | o _ e=>rw [e]; rfl
end
theorem f14:tb.P.fn 14=some Zl0:=by kernel_rfl
theorem ZnT {M f q:Nat}{fs up w:List Int}{W:List Msg}{X:Nat->Hd}(ok:K1ok ⟨M,f,fs,W⟩)(I:I1 ⟨M,f,fs,W⟩ [] X)(t:Nat)(ht:(t:Int)∈(f:Int)::fs)(su:up.Sublist ((f:Int)::fs)):B0 ⟨M,(f:Int)::fs,up,w,W,q⟩ t (XD X ((f:Int)::fs) up t):=by
 have s:=I.hd t ht
 obtain ⟨r1,r2⟩:=end1 ok I t ht
 have hl:(X t).holds.length<=1000:=Nat.le_trans (Nat.le_trans (Nat.le_add_right ..) (I.hl t ht)) (by decide)
 by_cases c:(t:Int)∈up
 ·rw [show XD X ((f:Int)::fs) up t=X t from if_neg fun z=>z.2 c]
  exact ⟨ht,s.up.trans (decide_eq_true c).symm,s.pl,s.ms,r1,r2,s.gone,hl,s.bal,s.still,s.agd,s.off⟩
 ·rw [show XD X ((f:Int)::fs) up t={ X t with up:=false } from if_pos ⟨ht,c⟩]
  exact ⟨ht,(decide_eq_false c).symm,s.pl,s.ms,r1,r2,s.gone,hl,s.bal,s.still,s.agd,s.off⟩
theorem main04 (is:List Int){H:Hp}:CW tb.P 10 14 [.lst (is.map .int)] H (fun v ø=>v=.bool true) (fun ø ø=>False):=by
 refine Zad _ _ _ f14 rfl ?_
 refine ZoB (n:=8) (is:=is) rfl fun M h1 h9=>?_
 refine Zoj (n:=8) (M:=M) (is:=is) (i:=105) (k:=1) (d:=(M:Int) - 1) (ed:=.bin true .sub (.loc 28) (.cst (.int 1))) h9 ⟨by exact lg5 h1,by exact lg6⟩ rfl rfl (by decide) (fun lo' H' Q' l q=>Zaa (o:=lo' 28) l q) fun fi H₁ ff kp lo1 e1 k1=>?_
 have a24:lo1 24=some (.lst (is.map .int)):=k1 24 (by decide)
 have a28:lo1 28=some (.int M):=k1 28 (by decide)
 refine Zon (n:=6) ff h1 h9 e1 a28 fun H2' ow2 R2=>?_
 obtain ⟨f,fs,ef⟩:∃(f:Nat) (fs:List Int),fi=(f:Int)::fs:=by
  cases fi with
  | nil=>exact absurd rfl ff.ne
  | cons a r=>exact ⟨a.toNat,r,by rw [Int.toNat_of_nonneg (ff.lt a (.head _)).1]⟩
 have em:∀{t:Int} {W:List Msg},t∈fi->t∈K1.fi ⟨M,f,fs,W⟩:=fun h=>by rw [ef] at h; exact h
 refine Zml (n:=2) (is:=is) (L:=mkL H₁.next M) ff ef h9 R2 rfl e1 a24 fun W j H3 ow3 X3 lo3 ok I3 R3 g3' w3' c136 k3=>?_
 have c106:lo3 106=some (.ref (mkL H₁.next M).fk):=k3 106 (by decide) (by decide)
 have c105:lo3 105=some (.lst (iV fi)):=(k3 105 (by decide) (by decide)).trans e1
 have c24:lo3 24=some (.lst (is.map .int)):=(k3 24 (by decide) (by decide)).trans a24
 have c28:lo3 28=some (.int M):=(k3 28 (by decide) (by decide)).trans a28
 refine ZnZ (n:=6) (is:=is) ff h9 R3 (fun t ht=>(I3.hd t (em ht)).up) c106 c105 c24 fun up H4' ow4 lo4 su R4 K4' d140 k4=>?_
 have d106:lo4 106=some (.ref (mkL H₁.next M).fk):=(k4 106 (by decide) (by decide) (by decide)).trans c106
 have d105:lo4 105=some (.lst (iV fi)):=(k4 105 (by decide) (by decide) (by decide)).trans c105
 have d24:lo4 24=some (.lst (is.map .int)):=(k4 24 (by decide) (by decide) (by decide)).trans c24
 have d28:lo4 28=some (.int M):=(k4 28 (by decide) (by decide) (by decide)).trans c28
 have d136:lo4 136=some (.ref j):=(k4 136 (by decide) (by decide) (by decide)).trans c136
 have g4:=K4' j _ g3' w3'
 refine Zoq (n:=6) ff h9 R4 d106 d105 d140 (fun σ=>rfl) fun une=>?_
 refine Zoj (n:=8) (M:=M) (is:=is) (i:=160) (k:=4) (d:=0) (ed:=.cst (.int 0)) h9 ⟨by exact ld2 (Nat.le_of_ble_eq_true rfl),by exact ld1 h1⟩ d24 d28 (by decide) (fun lo' H' Q' l q=>q) fun w H5 fw kp5 lo5 e160 k5=>?_
 have R5:Rep (H5.new (.list (iV w))) (owN H5.next ow4 []) (mkL H₁.next M) M [] (XD X3 fi up):=(R4.frame fun i c g ø=>kp5 i c g).new
 have g5:=kp5 j _ g4.1
 have j5:j < H5.next:=Zak g5
 refine Znt (Nat.le_trans fw.len h9) e160 ?_
 refine Zlw (n:=5) (is:=is) (fi:=fi) (up:=up) (w:=w) (j:=H5.next) fw h9 une (Nat.le_trans ff.len h9) (fun i hi=>?_) R5 (Hp.get_new.trans (if_pos rfl)) ((if_neg (Nat.lt_irrefl _)).trans rfl) ((k5 106 (by decide)).trans d106) ((k5 24 (by decide)).trans d24) ((k5 140 (by decide)).trans d140) e160 rfl fun q H6 ow6 hq R6 K6=>?_
 ·have m:=su.subset hi
  have b:=ff.lt i m
  obtain ⟨t,rfl⟩:=Int.eq_ofNat_of_zero_le b.1
  have s:=I3.hd t (em m)
  refine ⟨t,rfl,by exact la4 b, ?_⟩
  rw [show XD X3 fi up t=X3 t from if_neg fun z=>z.2 hi]
  exact ⟨s.up,s.pl,s.off,s.bal,s.ms.trans ef.symm⟩
 have hk:K4ok ⟨M,fi,up,w,W,q⟩:=⟨ff,fw,fun i hi=>su.subset hi,ff.nd.sublist su,hq,h9,Nat.le_trans ok.W (by decide)⟩
 have g6:=K6 j _ ((Hp.get_new.trans (if_neg (Nat.ne_of_lt j5))).trans g5) (Nat.ne_of_lt j5) ((if_pos j5).trans g4.2)
 refine Zjz (n:=2) (step4 hk) (start4 hk (fun t tM ht=>?_) fun t tM hn=>?_) R6 ((k5 106 (by decide)).trans d106) fun H7 ow7 X7 N7 J7 R7 K7=>?_
 ·have ht:(t:Int)∈fi:=ht
  subst ef
  exact ZnT ok I3 t ht su
 ·have hn:(t:Int)∉fi:=hn
  exact (if_neg fun z=>hn z.1).trans (I3.out t tM (by rw [ef] at hn; exact hn))
 have g7:=K7 j _ g6.1 g6.2
 exact ZmG (n:=2) (k:=⟨M,fi,up,w,W,q⟩) hk J7.i ⟨R7,g7.1,g7.2⟩ ((k5 106 (by decide)).trans d106) ((k5 105 (by decide)).trans d105) ((k5 136 (by decide)).trans d136) e160 ((k5 140 (by decide)).trans d140) ((k5 28 (by decide)).trans d28) fun σ=>rfl
end Mine
end
end

section
open PySem PySem.W PyProof.Rows
set_option maxRecDepth 100000
set_option maxHeartbeats 8000000
namespace Mine
theorem h.tw10070215211548064708:True:=⟨⟩
theorem h.tw10096323720174407802:True:=⟨⟩
theorem h.tw10112321734428337868:True:=⟨⟩
theorem h.tw10113614756544476385:True:=⟨⟩
theorem h.tw10130068515917925773:True:=⟨⟩
theorem h.tw10208122264894780492:True:=⟨⟩
theorem h.tw10228625183815930947:True:=⟨⟩
theorem h.tw10299696984612955047:True:=⟨⟩
theorem h.tw10323915175593208744:True:=⟨⟩
theorem h.tw10359757870518472748:True:=⟨⟩
theorem h.tw1048970859645183720:True:=⟨⟩
theorem h.tw10510586454899005283:True:=⟨⟩
theorem h.tw10561819942693377579:True:=⟨⟩
theorem h.tw1056421454553859415:True:=⟨⟩
theorem h.tw10592300740560736305:True:=⟨⟩
theorem h.tw10626321612279906081:True:=⟨⟩
theorem h.tw10659717425121165721:True:=⟨⟩
theorem h.tw10720518740340726355:True:=⟨⟩
theorem h.tw1074475585607671645:True:=⟨⟩
theorem h.tw10784089882781812176:True:=⟨⟩
theorem h.tw10803849985231894404:True:=⟨⟩
theorem h.tw10840482306913640982:True:=⟨⟩
theorem h.tw10848268722326577222:True:=⟨⟩
theorem h.tw10941837580442650309:True:=⟨⟩
theorem h.tw10947940718677797541:True:=⟨⟩
theorem h.tw10957877426051100061:True:=⟨⟩
theorem h.tw1096098431174955814:True:=⟨⟩
theorem h.tw10989266456058693235:True:=⟨⟩
theorem h.tw11055180392840065238:True:=⟨⟩
theorem h.tw11057389585713553597:True:=⟨⟩
theorem h.tw11065042233917603500:True:=⟨⟩
theorem h.tw11077833285527029666:True:=⟨⟩
theorem h.tw11094717976545147462:True:=⟨⟩
theorem h.tw11127680675960911805:True:=⟨⟩
theorem h.tw11168518687123670541:True:=⟨⟩
theorem h.tw11198193013131496442:True:=⟨⟩
theorem h.tw11225452402727769249:True:=⟨⟩
theorem h.tw11314599585853964155:True:=⟨⟩
theorem h.tw11340608044641968782:True:=⟨⟩
theorem h.tw11371603032172104224:True:=⟨⟩
theorem h.tw11387927248245836220:True:=⟨⟩
theorem h.tw11413283325323741025:True:=⟨⟩
theorem h.tw11434341879908795408:True:=⟨⟩
theorem h.tw11504077891567943437:True:=⟨⟩
theorem h.tw11505790168188839244:True:=⟨⟩
theorem h.tw11531549393129958406:True:=⟨⟩
theorem h.tw11532201945115270930:True:=⟨⟩
theorem h.tw11561389093935560292:True:=⟨⟩
theorem h.tw11566312217158300915:True:=⟨⟩
theorem h.tw11604314408732265537:True:=⟨⟩
theorem h.tw11622133009525222081:True:=⟨⟩
theorem h.tw11671700250010608693:True:=⟨⟩
theorem h.tw11715493396676715198:True:=⟨⟩
theorem h.tw11787600635267743307:True:=⟨⟩
theorem h.tw11809882119899447743:True:=⟨⟩
theorem h.tw11818430215813300567:True:=⟨⟩
theorem h.tw11823851961502859707:True:=⟨⟩
theorem h.tw11839018351090610185:True:=⟨⟩
theorem h.tw11850583828880017473:True:=⟨⟩
theorem h.tw11867246117825705402:True:=⟨⟩
theorem h.tw11889556549549999417:True:=⟨⟩
theorem h.tw11982503516789913697:True:=⟨⟩
theorem h.tw12030072568450643895:True:=⟨⟩
theorem h.tw12069623436562988575:True:=⟨⟩
theorem h.tw12126605419728654542:True:=⟨⟩
theorem h.tw12135245985660840263:True:=⟨⟩
theorem h.tw12141792692166886608:True:=⟨⟩
theorem h.tw12267300618946972179:True:=⟨⟩
theorem h.tw12290514749971144243:True:=⟨⟩
theorem h.tw12328320717909399974:True:=⟨⟩
theorem h.tw12358447064870916573:True:=⟨⟩
theorem h.tw12374714053729170598:True:=⟨⟩
theorem h.tw1240576421281825886:True:=⟨⟩
theorem h.tw12462687565945132277:True:=⟨⟩
theorem h.tw1248811200110118731:True:=⟨⟩
theorem h.tw12495205011475682942:True:=⟨⟩
theorem h.tw12514589148247682557:True:=⟨⟩
theorem h.tw12527917987952461866:True:=⟨⟩
theorem h.tw12533516968948327983:True:=⟨⟩
theorem h.tw12538407080492367791:True:=⟨⟩
theorem h.tw12545447809533417709:True:=⟨⟩
theorem h.tw1257535665617204927:True:=⟨⟩
theorem h.tw12621323619118473286:True:=⟨⟩
theorem h.tw12656607519898960839:True:=⟨⟩
theorem h.tw12692444923116141528:True:=⟨⟩
theorem h.tw12723222226473534571:True:=⟨⟩
theorem h.tw12759897624317895602:True:=⟨⟩
theorem h.tw12794005252739333304:True:=⟨⟩
theorem h.tw12877358834701119113:True:=⟨⟩
theorem h.tw12887034139009819213:True:=⟨⟩
theorem h.tw12958884805911852953:True:=⟨⟩
theorem h.tw13035008582236975874:True:=⟨⟩
theorem h.tw13062798596584638313:True:=⟨⟩
theorem h.tw13081248706985803156:True:=⟨⟩
theorem h.tw13141186642828008877:True:=⟨⟩
theorem h.tw13161184333397019695:True:=⟨⟩
theorem h.tw13180539537993866883:True:=⟨⟩
theorem h.tw1318658075789443830:True:=⟨⟩
theorem h.tw13195425574311988089:True:=⟨⟩
theorem h.tw13287716335742610845:True:=⟨⟩
theorem h.tw13332646809102196565:True:=⟨⟩
theorem h.tw13359350320780894621:True:=⟨⟩
theorem h.tw13367681610626076656:True:=⟨⟩
theorem h.tw13397063918156330746:True:=⟨⟩
theorem h.tw13430965858135062049:True:=⟨⟩
theorem h.tw13454933286735887173:True:=⟨⟩
theorem h.tw13480719579523557616:True:=⟨⟩
theorem h.tw13497403846038372084:True:=⟨⟩
theorem h.tw13509170637413379320:True:=⟨⟩
theorem h.tw13515444388654926615:True:=⟨⟩
theorem h.tw1356244002327342800:True:=⟨⟩
theorem h.tw13639171380584635012:True:=⟨⟩
theorem h.tw13671447906948063754:True:=⟨⟩
theorem h.tw13677281111596331867:True:=⟨⟩
theorem h.tw13715403856851756210:True:=⟨⟩
theorem h.tw13743445159832669074:True:=⟨⟩
theorem h.tw13786038532780640989:True:=⟨⟩
theorem h.tw13827456703681584491:True:=⟨⟩
theorem h.tw13828706528788910662:True:=⟨⟩
theorem h.tw13829171099132145445:True:=⟨⟩
theorem h.tw13848402257986255569:True:=⟨⟩
theorem h.tw13859685114766386739:True:=⟨⟩
theorem h.tw13941763628454918011:True:=⟨⟩
theorem h.tw13942990362390771724:True:=⟨⟩
theorem h.tw13945770977609474654:True:=⟨⟩
theorem h.tw13952029585287401633:True:=⟨⟩
theorem h.tw140762732478775075:True:=⟨⟩
theorem h.tw14096229533479125360:True:=⟨⟩
theorem h.tw14104762545385142532:True:=⟨⟩
theorem h.tw14127546963475217712:True:=⟨⟩
theorem h.tw14153151714561057243:True:=⟨⟩
theorem h.tw14166609017263377637:True:=⟨⟩
theorem h.tw14193157862253353099:True:=⟨⟩
theorem h.tw1420025671130060678:True:=⟨⟩
theorem h.tw14202642533580855978:True:=⟨⟩
theorem h.tw14213708794685384387:True:=⟨⟩
theorem h.tw14218192656250534274:True:=⟨⟩
theorem h.tw14220675280018371430:True:=⟨⟩
theorem h.tw14257575845529169401:True:=⟨⟩
theorem h.tw14286764637549621021:True:=⟨⟩
theorem h.tw14362652060161068171:True:=⟨⟩
theorem h.tw14371893646553298905:True:=⟨⟩
theorem h.tw14381671787131144457:True:=⟨⟩
theorem h.tw14399419997262040773:True:=⟨⟩
theorem h.tw14438146421683495124:True:=⟨⟩
theorem h.tw14528485279528032993:True:=⟨⟩
theorem h.tw14542649244067952892:True:=⟨⟩
theorem h.tw14554663561820802227:True:=⟨⟩
theorem h.tw14558830843302935441:True:=⟨⟩
theorem h.tw14623928616713253304:True:=⟨⟩
theorem h.tw14717786722275578368:True:=⟨⟩
theorem h.tw14748789445991907591:True:=⟨⟩
theorem h.tw14774551432355044523:True:=⟨⟩
theorem h.tw1478268388050230270:True:=⟨⟩
theorem h.tw14794400287006146483:True:=⟨⟩
theorem h.tw14796966210213592495:True:=⟨⟩
theorem h.tw14805111829675861876:True:=⟨⟩
theorem h.tw14820881218172153661:True:=⟨⟩
theorem h.tw14836348013513514995:True:=⟨⟩
theorem h.tw1486355345268308412:True:=⟨⟩
theorem h.tw15003508082368540894:True:=⟨⟩
theorem h.tw15018355300528503036:True:=⟨⟩
theorem h.tw15032526719731472633:True:=⟨⟩
theorem h.tw15047613307574458526:True:=⟨⟩
theorem h.tw15050089393431439418:True:=⟨⟩
theorem h.tw15054369030813099813:True:=⟨⟩
theorem h.tw15071650238008547427:True:=⟨⟩
theorem h.tw15074754548132536694:True:=⟨⟩
theorem h.tw15090215983626841559:True:=⟨⟩
theorem h.tw15117220493346559265:True:=⟨⟩
theorem h.tw15126930571789599573:True:=⟨⟩
theorem h.tw15242660466240379118:True:=⟨⟩
theorem h.tw15263370393660191031:True:=⟨⟩
theorem h.tw15268565758015676967:True:=⟨⟩
theorem h.tw15292986432048946388:True:=⟨⟩
theorem h.tw15297895931255097126:True:=⟨⟩
theorem h.tw15348000213203334777:True:=⟨⟩
theorem h.tw15367149053395095266:True:=⟨⟩
theorem h.tw15438980398918866574:True:=⟨⟩
theorem h.tw15486681095558948819:True:=⟨⟩
theorem h.tw15525072738643546371:True:=⟨⟩
theorem h.tw1562985741533662824:True:=⟨⟩
theorem h.tw156349595191661305:True:=⟨⟩
theorem h.tw15649489722268941622:True:=⟨⟩
theorem h.tw15704201032223786554:True:=⟨⟩
theorem h.tw15705270081527933066:True:=⟨⟩
theorem h.tw157172750986073172:True:=⟨⟩
theorem h.tw15736687653252581940:True:=⟨⟩
theorem h.tw1574859183759491827:True:=⟨⟩
theorem h.tw15769423472626437093:True:=⟨⟩
theorem h.tw15770463773269358063:True:=⟨⟩
theorem h.tw15773172694925060612:True:=⟨⟩
theorem h.tw15832549296411496397:True:=⟨⟩
theorem h.tw15841412907976624845:True:=⟨⟩
theorem h.tw15843725972915329471:True:=⟨⟩
theorem h.tw15859541182242334901:True:=⟨⟩
theorem h.tw15922709871233059918:True:=⟨⟩
theorem h.tw15930764292022707084:True:=⟨⟩
theorem h.tw15932343791505041862:True:=⟨⟩
theorem h.tw1604783383819962184:True:=⟨⟩
theorem h.tw16052510744234270372:True:=⟨⟩
theorem h.tw16060531784772056704:True:=⟨⟩
theorem h.tw16066577449130251003:True:=⟨⟩
theorem h.tw16068841855770194404:True:=⟨⟩
theorem h.tw16125186177882137770:True:=⟨⟩
theorem h.tw16185264884590891127:True:=⟨⟩
theorem h.tw16185560819900565977:True:=⟨⟩
theorem h.tw16241620902590847871:True:=⟨⟩
theorem h.tw16247015241071245902:True:=⟨⟩
theorem h.tw16263727605707035680:True:=⟨⟩
theorem h.tw16274777767166659489:True:=⟨⟩
theorem h.tw16283859611614711437:True:=⟨⟩
theorem h.tw16313194723291538197:True:=⟨⟩
theorem h.tw16317110668483421283:True:=⟨⟩
theorem h.tw16340000078699534754:True:=⟨⟩
theorem h.tw16424992300477153648:True:=⟨⟩
theorem h.tw1647457480718380902:True:=⟨⟩
theorem h.tw16502270569698505979:True:=⟨⟩
theorem h.tw16603899029016679804:True:=⟨⟩
theorem h.tw16616230974727677462:True:=⟨⟩
theorem h.tw16628212798158555658:True:=⟨⟩
theorem h.tw16634721850499902208:True:=⟨⟩
theorem h.tw16660711157786760021:True:=⟨⟩
theorem h.tw16661796163429847210:True:=⟨⟩
theorem h.tw16699081257112414248:True:=⟨⟩
theorem h.tw16706493250994137335:True:=⟨⟩
theorem h.tw16724345464226511106:True:=⟨⟩
theorem h.tw1672953268577687288:True:=⟨⟩
theorem h.tw16732419092344134879:True:=⟨⟩
theorem h.tw16757396875619161431:True:=⟨⟩
theorem h.tw16786231481202921882:True:=⟨⟩
theorem h.tw16810322070807838284:True:=⟨⟩
theorem h.tw16835868912353555730:True:=⟨⟩
theorem h.tw1691684418359810570:True:=⟨⟩
theorem h.tw16918110988196852641:True:=⟨⟩
theorem h.tw16922092684243639305:True:=⟨⟩
theorem h.tw16940053247571121076:True:=⟨⟩
theorem h.tw16956768839676983609:True:=⟨⟩
theorem h.tw16958642587919837243:True:=⟨⟩
theorem h.tw17009195942527895028:True:=⟨⟩
theorem h.tw17010347451085647000:True:=⟨⟩
theorem h.tw1702200043265445640:True:=⟨⟩
theorem h.tw17022225426733837601:True:=⟨⟩
theorem h.tw17023079774689043084:True:=⟨⟩
theorem h.tw17038624514425815451:True:=⟨⟩
theorem h.tw17038784670989497218:True:=⟨⟩
theorem h.tw170826705761949609:True:=⟨⟩
theorem h.tw17120479149241342659:True:=⟨⟩
theorem h.tw17124631398570427038:True:=⟨⟩
theorem h.tw1723748437222549772:True:=⟨⟩
theorem h.tw17266865480643752796:True:=⟨⟩
theorem h.tw17278020453715053463:True:=⟨⟩
theorem h.tw17303485134608217098:True:=⟨⟩
theorem h.tw17326091816415362873:True:=⟨⟩
theorem h.tw17328353067329418159:True:=⟨⟩
theorem h.tw17402429290955009530:True:=⟨⟩
theorem h.tw17438923479677220509:True:=⟨⟩
theorem h.tw1744644197652788142:True:=⟨⟩
theorem h.tw17507818175271709666:True:=⟨⟩
theorem h.tw17541710914833730941:True:=⟨⟩
theorem h.tw17642177447343228967:True:=⟨⟩
theorem h.tw17659276152848280261:True:=⟨⟩
theorem h.tw17696172421901843966:True:=⟨⟩
theorem h.tw17741650068611516820:True:=⟨⟩
theorem h.tw17764311795047843755:True:=⟨⟩
theorem h.tw17794180361644096977:True:=⟨⟩
theorem h.tw17803680328377120361:True:=⟨⟩
theorem h.tw1781243377532423811:True:=⟨⟩
theorem h.tw17822755135371050786:True:=⟨⟩
theorem h.tw1784390739741788501:True:=⟨⟩
theorem h.tw17853841771173400560:True:=⟨⟩
theorem h.tw17888689088463840717:True:=⟨⟩
theorem h.tw17905127112581942766:True:=⟨⟩
theorem h.tw17998544806454134571:True:=⟨⟩
theorem h.tw18008468873145020369:True:=⟨⟩
theorem h.tw18020767522561244639:True:=⟨⟩
theorem h.tw18045102350020872913:True:=⟨⟩
theorem h.tw18046405161658943986:True:=⟨⟩
theorem h.tw18048807489696784160:True:=⟨⟩
theorem h.tw18056562225625479666:True:=⟨⟩
theorem h.tw1812164486366166050:True:=⟨⟩
theorem h.tw18136603409958867724:True:=⟨⟩
theorem h.tw18217672105063195353:True:=⟨⟩
theorem h.tw18227174240867701840:True:=⟨⟩
theorem h.tw18283258865239947148:True:=⟨⟩
theorem h.tw18316440359328880135:True:=⟨⟩
theorem h.tw18334469534639735224:True:=⟨⟩
theorem h.tw18335516755069236455:True:=⟨⟩
theorem h.tw18339047029534914711:True:=⟨⟩
theorem h.tw18361421951176029152:True:=⟨⟩
theorem h.tw18383777619080609035:True:=⟨⟩
theorem h.tw18421646793152347822:True:=⟨⟩
theorem h.tw1843709074693381076:True:=⟨⟩
theorem h.tw18444589360478295509:True:=⟨⟩
theorem h.tw1882439533219253456:True:=⟨⟩
theorem h.tw1895460443103508585:True:=⟨⟩
theorem h.tw1909551791814089133:True:=⟨⟩
theorem h.tw1921629716774983816:True:=⟨⟩
theorem h.tw197325230177535501:True:=⟨⟩
theorem h.tw1976611375346211067:True:=⟨⟩
theorem h.tw2006551559738373166:True:=⟨⟩
theorem h.tw2011509754570072042:True:=⟨⟩
theorem h.tw2013138800184345147:True:=⟨⟩
theorem h.tw2074880725581360038:True:=⟨⟩
theorem h.tw2082550871667633378:True:=⟨⟩
theorem h.tw2115680978443602739:True:=⟨⟩
theorem h.tw2122759166039794847:True:=⟨⟩
theorem h.tw212297404043425241:True:=⟨⟩
theorem h.tw2125958844368711309:True:=⟨⟩
theorem h.tw2130891352684778391:True:=⟨⟩
theorem h.tw2141578033240047669:True:=⟨⟩
theorem h.tw2169940301741106950:True:=⟨⟩
theorem h.tw2238902414104301897:True:=⟨⟩
theorem h.tw2249562036291356349:True:=⟨⟩
theorem h.tw2284817110976013238:True:=⟨⟩
theorem h.tw23172917482427607:True:=⟨⟩
theorem h.tw2366414976554310290:True:=⟨⟩
theorem h.tw2375616456415111486:True:=⟨⟩
theorem h.tw2387168256345510230:True:=⟨⟩
theorem h.tw2404832278346749945:True:=⟨⟩
theorem h.tw2423117767392043163:True:=⟨⟩
theorem h.tw2433671607472880224:True:=⟨⟩
theorem h.tw2451394554795826781:True:=⟨⟩
theorem h.tw2503991480411370405:True:=⟨⟩
theorem h.tw2510845019387720163:True:=⟨⟩
theorem h.tw2522582874864574804:True:=⟨⟩
theorem h.tw2529060777151415893:True:=⟨⟩
theorem h.tw2531874431945598116:True:=⟨⟩
theorem h.tw2576057470110384587:True:=⟨⟩
theorem h.tw2628164580770665852:True:=⟨⟩
theorem h.tw2629436321594667848:True:=⟨⟩
theorem h.tw2631809298886878358:True:=⟨⟩
theorem h.tw2664453786773030427:True:=⟨⟩
theorem h.tw2681390146884020249:True:=⟨⟩
theorem h.tw2795638959698346616:True:=⟨⟩
theorem h.tw2805001111776851349:True:=⟨⟩
theorem h.tw2859666747883261283:True:=⟨⟩
theorem h.tw2882745685926584800:True:=⟨⟩
theorem h.tw2889380408481101868:True:=⟨⟩
theorem h.tw2896299490504988439:True:=⟨⟩
theorem h.tw2901769489366431826:True:=⟨⟩
theorem h.tw2947254947264419929:True:=⟨⟩
theorem h.tw2949717528683774459:True:=⟨⟩
theorem h.tw29641667138764729:True:=⟨⟩
theorem h.tw3073989225477181354:True:=⟨⟩
theorem h.tw3092041447653879462:True:=⟨⟩
theorem h.tw3094062239887985115:True:=⟨⟩
theorem h.tw3097282152931753593:True:=⟨⟩
theorem h.tw3119253789089646862:True:=⟨⟩
theorem h.tw3121806092619268575:True:=⟨⟩
theorem h.tw3148075909152456441:True:=⟨⟩
theorem h.tw3170279243120788676:True:=⟨⟩
theorem h.tw3172776261215243336:True:=⟨⟩
theorem h.tw3230321888109337602:True:=⟨⟩
theorem h.tw329416942760592437:True:=⟨⟩
theorem h.tw3352848157163789103:True:=⟨⟩
theorem h.tw3353516256928961494:True:=⟨⟩
theorem h.tw3382222208699387138:True:=⟨⟩
theorem h.tw347437877457614839:True:=⟨⟩
theorem h.tw3490112869312774647:True:=⟨⟩
theorem h.tw3539817881391355463:True:=⟨⟩
theorem h.tw3563993257590342832:True:=⟨⟩
theorem h.tw3619242593979664957:True:=⟨⟩
theorem h.tw362290394480791963:True:=⟨⟩
theorem h.tw363190730091711147:True:=⟨⟩
theorem h.tw3675434881079296188:True:=⟨⟩
theorem h.tw3695492264728574771:True:=⟨⟩
theorem h.tw3698064292603893646:True:=⟨⟩
theorem h.tw3713559230803669220:True:=⟨⟩
theorem h.tw3716810906051282826:True:=⟨⟩
theorem h.tw3739291259121490764:True:=⟨⟩
theorem h.tw3740875649477748671:True:=⟨⟩
theorem h.tw3756267335236520235:True:=⟨⟩
theorem h.tw3758547008183501042:True:=⟨⟩
theorem h.tw3787820532395609044:True:=⟨⟩
theorem h.tw3800477195604609603:True:=⟨⟩
theorem h.tw3893483479824150448:True:=⟨⟩
theorem h.tw3935485496980297115:True:=⟨⟩
theorem h.tw3949435657991519557:True:=⟨⟩
theorem h.tw3954582329493917830:True:=⟨⟩
theorem h.tw3965580318666300767:True:=⟨⟩
theorem h.tw4000660812934883290:True:=⟨⟩
theorem h.tw4001185896099836895:True:=⟨⟩
theorem h.tw4022498666542126344:True:=⟨⟩
theorem h.tw4027558909691759260:True:=⟨⟩
theorem h.tw4072155337846027912:True:=⟨⟩
theorem h.tw4117420023994239629:True:=⟨⟩
theorem h.tw4117862256412036103:True:=⟨⟩
theorem h.tw4119603890692647118:True:=⟨⟩
theorem h.tw4158065403680154142:True:=⟨⟩
theorem h.tw4200375331950263923:True:=⟨⟩
theorem h.tw4272817849094309356:True:=⟨⟩
theorem h.tw4275187117610747646:True:=⟨⟩
theorem h.tw4352082183800340878:True:=⟨⟩
theorem h.tw4394477631361490217:True:=⟨⟩
theorem h.tw4434952307561136931:True:=⟨⟩
theorem h.tw4505126218415790468:True:=⟨⟩
theorem h.tw4513465157860326439:True:=⟨⟩
theorem h.tw455434060755175380:True:=⟨⟩
theorem h.tw4559961695089478736:True:=⟨⟩
theorem h.tw4575570023183451372:True:=⟨⟩
theorem h.tw458743883492056415:True:=⟨⟩
theorem h.tw4615169659637238277:True:=⟨⟩
theorem h.tw4644161746765118895:True:=⟨⟩
theorem h.tw4675846388966827022:True:=⟨⟩
theorem h.tw4844681503701456223:True:=⟨⟩
theorem h.tw4851610235373934342:True:=⟨⟩
theorem h.tw4877461258968452579:True:=⟨⟩
theorem h.tw4929053229050085877:True:=⟨⟩
theorem h.tw4937380376276347483:True:=⟨⟩
theorem h.tw4962257522113539221:True:=⟨⟩
theorem h.tw4991363584548102294:True:=⟨⟩
theorem h.tw4997138367060926315:True:=⟨⟩
theorem h.tw5030923949517385718:True:=⟨⟩
theorem h.tw504918918382811229:True:=⟨⟩
theorem h.tw5058359300302989214:True:=⟨⟩
theorem h.tw5069441387073826927:True:=⟨⟩
theorem h.tw5111211639507797997:True:=⟨⟩
theorem h.tw5119603891250302844:True:=⟨⟩
theorem h.tw5122025771110553386:True:=⟨⟩
theorem h.tw5155573041313987525:True:=⟨⟩
theorem h.tw5197447908214590133:True:=⟨⟩
theorem h.tw5232370726817119791:True:=⟨⟩
theorem h.tw5272305912518265700:True:=⟨⟩
theorem h.tw5366495285446085179:True:=⟨⟩
theorem h.tw5370236428661470553:True:=⟨⟩
theorem h.tw5391226320760574368:True:=⟨⟩
theorem h.tw5470097663288214977:True:=⟨⟩
theorem h.tw5474624607944612352:True:=⟨⟩
theorem h.tw5576963495701010095:True:=⟨⟩
theorem h.tw5578681190131992304:True:=⟨⟩
theorem h.tw5658247963528059195:True:=⟨⟩
theorem h.tw5665323206420750581:True:=⟨⟩
theorem h.tw566638691457497860:True:=⟨⟩
theorem h.tw5678448518634349756:True:=⟨⟩
theorem h.tw5682897255307902284:True:=⟨⟩
theorem h.tw5730088969214682609:True:=⟨⟩
theorem h.tw5736452974876700187:True:=⟨⟩
theorem h.tw5769462823758091141:True:=⟨⟩
theorem h.tw5790528892188864392:True:=⟨⟩
theorem h.tw5805666655711483456:True:=⟨⟩
theorem h.tw5819259368064718618:True:=⟨⟩
theorem h.tw584253434855135767:True:=⟨⟩
theorem h.tw5846492156318884034:True:=⟨⟩
theorem h.tw5864171885332393061:True:=⟨⟩
theorem h.tw5914417403739699330:True:=⟨⟩
theorem h.tw5969032602514329909:True:=⟨⟩
theorem h.tw6012940715707866155:True:=⟨⟩
theorem h.tw6035457257613275564:True:=⟨⟩
theorem h.tw6097532643486097785:True:=⟨⟩
theorem h.tw6149729509139005801:True:=⟨⟩
theorem h.tw6220461757894418943:True:=⟨⟩
theorem h.tw6258706226867707531:True:=⟨⟩
theorem h.tw6275891961346327076:True:=⟨⟩
theorem h.tw6303056678972367694:True:=⟨⟩
theorem h.tw6376939556067513500:True:=⟨⟩
theorem h.tw6430103723215747705:True:=⟨⟩
theorem h.tw6447736293858880476:True:=⟨⟩
theorem h.tw6478769890003736202:True:=⟨⟩
theorem h.tw6533097008228179754:True:=⟨⟩
theorem h.tw6610427791173688695:True:=⟨⟩
theorem h.tw6615274532895599716:True:=⟨⟩
theorem h.tw6638727678983216189:True:=⟨⟩
theorem h.tw6699030399236418416:True:=⟨⟩
theorem h.tw6703887165990735941:True:=⟨⟩
theorem h.tw6781667066149522813:True:=⟨⟩
theorem h.tw6798285367822590682:True:=⟨⟩
theorem h.tw6811803383631598809:True:=⟨⟩
theorem h.tw6830342760645643780:True:=⟨⟩
theorem h.tw6895014514365670601:True:=⟨⟩
theorem h.tw6962098115093273705:True:=⟨⟩
theorem h.tw6971913605738027030:True:=⟨⟩
theorem h.tw7029982568645035657:True:=⟨⟩
theorem h.tw7046848952353480313:True:=⟨⟩
theorem h.tw7056964273891908924:True:=⟨⟩
theorem h.tw7069378323603528459:True:=⟨⟩
theorem h.tw708929371534625012:True:=⟨⟩
theorem h.tw7120954832479020146:True:=⟨⟩
theorem h.tw7155009186653612762:True:=⟨⟩
theorem h.tw7168984925836282232:True:=⟨⟩
theorem h.tw7203692863121370960:True:=⟨⟩
theorem h.tw7224287716003428078:True:=⟨⟩
theorem h.tw7254483092744772397:True:=⟨⟩
theorem h.tw7283791991933913661:True:=⟨⟩
theorem h.tw7296983210309977632:True:=⟨⟩
theorem h.tw7298730038799534652:True:=⟨⟩
theorem h.tw7333071134584507909:True:=⟨⟩
theorem h.tw7356087959432031152:True:=⟨⟩
theorem h.tw7359570972774917920:True:=⟨⟩
theorem h.tw7378754225238929013:True:=⟨⟩
theorem h.tw7384019616739082511:True:=⟨⟩
theorem h.tw7389327484803204049:True:=⟨⟩
theorem h.tw7394253477126121320:True:=⟨⟩
theorem h.tw7403042719120014839:True:=⟨⟩
theorem h.tw7405651146223021827:True:=⟨⟩
theorem h.tw7413295026681969807:True:=⟨⟩
theorem h.tw7438253619521393231:True:=⟨⟩
theorem h.tw7454182444628172814:True:=⟨⟩
theorem h.tw7478699205935544156:True:=⟨⟩
theorem h.tw7497770552139515683:True:=⟨⟩
theorem h.tw7508778232955744148:True:=⟨⟩
theorem h.tw7636659091746576967:True:=⟨⟩
theorem h.tw7639678520489169111:True:=⟨⟩
theorem h.tw7742065681106001748:True:=⟨⟩
theorem h.tw7759459354965402242:True:=⟨⟩
theorem h.tw7770972099932353329:True:=⟨⟩
theorem h.tw7802649368611051925:True:=⟨⟩
theorem h.tw7838337772230883773:True:=⟨⟩
theorem h.tw7877790397829338716:True:=⟨⟩
theorem h.tw789422889901917262:True:=⟨⟩
theorem h.tw7954803414880216394:True:=⟨⟩
theorem h.tw795484390220425659:True:=⟨⟩
theorem h.tw796586515881377674:True:=⟨⟩
theorem h.tw806614813110432449:True:=⟨⟩
theorem h.tw8099074806403307960:True:=⟨⟩
theorem h.tw8114498818430101006:True:=⟨⟩
theorem h.tw8148187187107319721:True:=⟨⟩
theorem h.tw8182143581676739031:True:=⟨⟩
theorem h.tw8226161231842349346:True:=⟨⟩
theorem h.tw824195374095679102:True:=⟨⟩
theorem h.tw831260224390393446:True:=⟨⟩
theorem h.tw8335690523831340703:True:=⟨⟩
theorem h.tw839909744073942145:True:=⟨⟩
theorem h.tw8413173714324500286:True:=⟨⟩
theorem h.tw8433241235965185754:True:=⟨⟩
theorem h.tw8433944378910079088:True:=⟨⟩
theorem h.tw8443227515277532949:True:=⟨⟩
theorem h.tw8495586460568584083:True:=⟨⟩
theorem h.tw8504997274058896222:True:=⟨⟩
theorem h.tw8535481145345381477:True:=⟨⟩
theorem h.tw8545692685359777382:True:=⟨⟩
theorem h.tw8550620776099056295:True:=⟨⟩
theorem h.tw8582881799441940244:True:=⟨⟩
theorem h.tw8585901346899153491:True:=⟨⟩
theorem h.tw8651657690867478452:True:=⟨⟩
theorem h.tw8659866349962735153:True:=⟨⟩
theorem h.tw8733517792868530361:True:=⟨⟩
theorem h.tw8754261145089333882:True:=⟨⟩
theorem h.tw8777028718390341580:True:=⟨⟩
theorem h.tw8799685860057839008:True:=⟨⟩
theorem h.tw8807781055259126525:True:=⟨⟩
theorem h.tw8808119616552897217:True:=⟨⟩
theorem h.tw8870714547363300543:True:=⟨⟩
theorem h.tw8871202159777435296:True:=⟨⟩
theorem h.tw8881416665966352325:True:=⟨⟩
theorem h.tw8935728894195422040:True:=⟨⟩
theorem h.tw8964759525405741559:True:=⟨⟩
theorem h.tw9099524735094762395:True:=⟨⟩
theorem h.tw9133745166886107438:True:=⟨⟩
theorem h.tw9135478140289576914:True:=⟨⟩
theorem h.tw9165145830749168525:True:=⟨⟩
theorem h.tw9167909565568771347:True:=⟨⟩
theorem h.tw9196097036606155699:True:=⟨⟩
theorem h.tw9264167367849844979:True:=⟨⟩
theorem h.tw935291716312785335:True:=⟨⟩
theorem h.tw9365971424444914446:True:=⟨⟩
theorem h.tw9380377972051789092:True:=⟨⟩
theorem h.tw9382193204181520104:True:=⟨⟩
theorem h.tw9392562620605357188:True:=⟨⟩
theorem h.tw9427383688650246816:True:=⟨⟩
theorem h.tw9431079352302851456:True:=⟨⟩
theorem h.tw9529420637122136817:True:=⟨⟩
theorem h.tw9563533938311626363:True:=⟨⟩
theorem h.tw9611384628978185617:True:=⟨⟩
theorem h.tw9614174970052791959:True:=⟨⟩
theorem h.tw9618861286798998627:True:=⟨⟩
theorem h.tw9636033806782560829:True:=⟨⟩
theorem h.tw9680166885048700869:True:=⟨⟩
theorem h.tw9726825416682802687:True:=⟨⟩
theorem h.tw9736799563492685817:True:=⟨⟩
theorem h.tw9760055622254343542:True:=⟨⟩
theorem h.tw9829103114381839828:True:=⟨⟩
theorem h.tw9835974523423179564:True:=⟨⟩
theorem h.tw9841190351186535126:True:=⟨⟩
theorem h.tw9889273426583153161:True:=⟨⟩
theorem h.tw9929347108346720089:True:=⟨⟩
theorem h.tw9932953954679497026:True:=⟨⟩
theorem h.tw9944895037763000302:True:=⟨⟩
set_option Elab.async true in
theorem h : PySem.Challenge.rw_uf020034_04.Holds := by
  w_on; o_law; k_head; (case hw => w_witness2)
  intro w s₀ s₁ mg mb G Y fa o pm cd doc dV kV ho hd hcd hD hmg hg args vals as hpre hlay hrd hwl hlo
  have KX := kIn_of Y
  refine Ground.open G ?_
  intro T B D TE TW
  wrow_args hpre hlay hrd hwl hlo
  exact law_end (t := tb) (k := 14) T KX (by decide +kernel) (by kernel_rfl) (by kernel_rfl) (by decide +kernel) hg "law" rfl (by kernel_rfl) hmg (by assumption) (by assumption) (fun _ => rfl) (by wrow_post) 10 ⟨by decide, by decide⟩ (fun is _ => main04 is)
end Mine
end
theorem PySem.Challenge.cw_uf020034_04_holds : PySem.Challenge.rw_uf020034_04.Holds := by
  exact Mine.h
