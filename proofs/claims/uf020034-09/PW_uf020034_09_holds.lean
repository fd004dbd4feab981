import PyProof.Rows.All
import Wide.All
import OpenK.AllK
import Wide.FinOn
import KE.KDictLaws
import KE.KIsAll
import PyProof.Dict
import PyProof.EnumMake
import PyProof.ExcAttrAll.ValueError
import PyProof.ListIndex
import PyProof.Rows.CallKwBuiltin
import PyProof.Rows.SortRev
import PyProof.SetRoads
import PyProof.TableCode
import PySem.SetOps
import Lean
import PySem.Challenge.RW_uf020034_09
section
set_option autoImplicit false
set_option linter.all false
set_option genSizeOf false
set_option genInjectivity false
set_option genCtorIdx false
set_option backward.match.sparseCases false
set_option maxRecDepth 20000
set_option tactic.hygienic false
namespace Mine.Internal
noncomputable section
open PySem (Str)
open Nat (beq ble blt zero_add lt_succ_self add_assoc not_lt_zero not_lt_of_le le_of_lt_succ succ_add)
open Int (fmod fdiv natCast_nonneg)
open List (prefix_rfl map_append append_nil map_cons mem_map pairwise_singleton length_range map_take forIn_cons replicate pairwise_cons nodup_cons forall_mem_cons mem_append_right mem_append_left getElem?_map)
noncomputable abbrev Yb:=@PySem.wpAny_bind
noncomputable abbrev Yp:=@PySem.wpAny_pure
noncomputable abbrev Ym:=@PySem.wpAny_mono
variable {a b p l s i m M k u w:Nat}{G:Prop}
section
variable {c t z d r:Nat}{x:Int}
theorem Sj{α:Type}{a b:α}(h:some a=some b):a=b:=Option.some.inj h
theorem Nt(h:a<=b)(q:b<=c):a<=c:=Nat.le_trans h q
theorem Bq(h:ble a b=true):a<=b:=Nat.le_of_ble_eq_true h
theorem Od{p:Prop}[i:Decidable p](h:decide p=true):p:=of_decide_eq_true h
theorem Dq{p:Prop}[i:Decidable p](h:p):decide p=true:=decide_eq_true h
theorem Df{p:Prop}[i:Decidable p](h:¬p):decide p=false:=decide_eq_false h
theorem Mc{α:Type}{a b:α}{l:List α}(h:a∈b::l):a=b\/a∈l:=List.mem_cons.mp h
theorem Mg{α:Type}{a b:α}(h:a∈[b]):a=b:=List.mem_singleton.mp h
theorem Mp{α:Type}{a:α}{s t:List α}(h:a∈s++t):a∈s\/a∈t:=List.mem_append.mp h
theorem Nl(h:a<=b)(q:b<c):a<c:=Nat.lt_of_le_of_lt h q
theorem La{α:Type}{a b:List α}:(a++b).length=a.length+b.length:=List.length_append
theorem Lm{α β:Type}{l:List α}(f:α->β):(l.map f).length=l.length:=List.length_map f
theorem Zr(a:Nat):a<=a:=Nat.le_refl a
theorem Zz(a:Nat):0<=a:=Nat.zero_le a
theorem An{a b:Bool}(h:(a&&b)=true):a=true/\b=true:=Bool.and_eq_true_iff.mp h
theorem Lg{α:Type}{l:List α}(h:i<l.length):l[i]?=some l[i]:=List.getElem?_eq_getElem h
theorem Ar(n k:Nat):n<=n+k:=Nat.le_add_right n k
theorem Aw(n k:Nat):n<=k+n:=Nat.le_add_left n k
theorem Us(n:Nat):n<=n+1:=Nat.le_succ n
theorem Fl{n:Nat}(h:n<=m)(k:Nat):k+n<=k+m:=Nat.add_le_add_left h k
theorem Fr{n:Nat}(h:n<=m)(k:Nat):n+k<=m+k:=Nat.add_le_add_right h k
theorem Fs{n:Nat}(h:n<=m):n+1<=m+1:=Nat.succ_le_succ h
theorem Gl(h:a<b)(q:b<=c):a<c:=Nat.lt_of_lt_of_le h q
theorem It{a b c:Int}(h:a<=b)(q:b<=c):a<=c:=Int.le_trans h q
theorem Nx(h:a<b):a≠b:=Nat.ne_of_lt h
theorem Ny(h:a<b):a<=b:=Nat.le_of_lt h
theorem Nz(h:a=b):a<=b:=Nat.le_of_eq h
theorem Bz(h:beq a b=true):a=b:=Nat.eq_of_beq_eq_true h
theorem Lc{α:Type}{a:α}{b:List α}:(a::b).length=b.length+1:=List.length_cons
theorem Al{α:Type}{p:α->Bool}{l:List α}(h:l.all p=true):∀x∈l,p x=true:=List.all_eq_true.mp h
theorem la2{n:Nat}(h:a+(n+1)<=z):a+1+n<=z:=succ_add a n▸h
theorem la3{n:Nat}(h:a+(n+1)<=z):a+n<=z:=Ny h
theorem la1{n:Nat}(h:a+(n+1)<=z):a<z:=Nl (Ar a n) h
theorem la4(h:0<=(t:Int)/\(t:Int)<M):t<M:=Int.ofNat_lt.mp h.2
theorem la5{i M:Int}(h:0<=i/\i<M):i=i.toNat:=(Int.toNat_of_nonneg h.1).symm
theorem la6{i:Int}(h:0<=i/\i<M):i.toNat<M:=(Int.toNat_lt h.1).mpr h.2
theorem la7(h:a<=k)(q:ble k b=true):a<=b:=Nt h<|Bq q
theorem la8(h:a+k<=b):a<=b:=Nt (Ar ..) h
theorem la9(h:a+k<=b)(q:c<=k):a+c<=b:=Nt (Fl q _) h
theorem lb1{n:Nat}(h:a+(n+1)=z):a<z:=la1<|Nz h
theorem lb2{n:Nat}(h:a+(n+1)=z):a+1+n=z:=(succ_add a n).trans h
theorem lb3(h:t<M):¬ (M:Int)<=t:=λz=>not_lt_of_le (Int.ofNat_le.mp z) h
theorem lb4{a:Int}(h:a<x):¬ x<=a:=λz=>Int.not_lt.mpr z h
theorem lb5{n:Nat}(h:(n:Int)=0):n=0:=Int.ofNat.inj h
theorem lb7(h:(u:Int)=t):u=t:=Int.ofNat.inj h
theorem lc1(h:0<d):u<d+u:=Nat.lt_add_of_pos_left h
theorem lc3(q:a=b)(h:b<=c):a<=c:=q▸h
theorem lc4(h:b<=a):¬ a<b:=not_lt_of_le h
theorem lc5(h:a<k)(q:ble k b=true):a<b:=la7 h q
theorem lc7{b:Int}(h:a<=k)(q:decide ((k:Int)<=b)=true):(a:Int)<=b:=It (Int.ofNat_le.mpr h)<|Od q
theorem lc9(h:(t:Int)<M):t<M:=Int.ofNat_lt.mp h
theorem ld1(h:t<M):(t:Int)<M:=Int.ofNat_lt.mpr h
theorem ld2(h:t<=M):(t:Int)<=M:=Int.ofNat_le.mpr h
theorem ld3(h:(t:Int)<=M):t<=M:=Int.ofNat_le.mp h
theorem le3:¬ a+1+k<a:=not_lt_of_le<|Nt (Us a)<|Ar ..
theorem le4:a+1+k≠a:=Nat.ne_of_gt<|Gl (lt_succ_self a)<|Ar ..
theorem le5:a+1+k+c≠a:=Nat.ne_of_gt<|Gl (lt_succ_self a)<|Nt (Ar _ k)<|Ar _ c
theorem le8:((M:Int) - 0).toNat=M:=(congrArg Int.toNat<|Int.sub_zero _).trans<|Int.toNat_natCast M
theorem lf3{z:Int}{n:Nat}(h:0<=z/\z<((p+1+n:Nat):Int)):0<=z/\z<((p+(n+1):Nat):Int):=⟨h.1,Int.lt_of_lt_of_le h.2<|Int.le_of_eq<|congrArg Nat.cast<|succ_add p n⟩
theorem lf4(h:M<=k):0+M<=k:=(zero_add M).symm▸h
theorem lf6{n:Nat}(h:a+(n+1)+1<=z):a+1<z:=Nl (Fl (Fs<|Zz n) a) h
theorem lf7{n:Nat}(h:a+(n+1)+1<=z):a+1+n+1<=z:=succ_add a n▸h
theorem lg1(h:0<b):(b:Int)≠0:=λz=>Nat.ne_of_gt h<|lb5 z
theorem lg8{n:Nat}(h:a+(n+1)<=z):a+1<=z:=la1 h
theorem lg9(h:p<M):1+p<=M:=Nat.add_comm 1 p▸h
theorem lh2(h:l<=i)(q:i<m):b+(i - l)<b+(m - l):=Nat.add_lt_add_left (Nat.sub_lt_sub_right h q) b
theorem lh3{n:Nat}:((n+1:Nat):Int) - 1=n:=Int.add_sub_cancel (n:Int) 1
theorem lh4(h:w<u+1)(c:¬ w=u):w<u:=Nat.lt_of_le_of_ne (le_of_lt_succ h) c
theorem lh6(h:a<=k)(q:blt (k * b) c=true):u+a * b<c+u:=Nat.add_comm c u▸Nat.add_lt_add_left (Nl (Nat.mul_le_mul_right b h)<|Bq q) u
theorem lh7(h:a<=k)(q:ble (k * b) c=true):a * b<=c:=Nt (Nat.mul_le_mul_right b h)<|Bq q
theorem lh8{d:Nat}(h:a<=b)(q:1<=c):a+1<=c+b:=Nat.add_comm c b▸Nat.add_le_add h q
theorem li1{z:Int}{p n:Nat}(h:0<=z/\z<((0+n:Nat):Int)):0<=z/\z<(n:Int):=zero_add n▸h
theorem li4{n:Nat}(h:n<=k):min p n<=k:=Nt (Nat.min_le_right ..) h
theorem li6{n:Nat}(h:n<a)(q:a<=m):n<=m:=Nt (Ny h) q
theorem lj6{a:Int}(c:¬ x<a)(d:¬ x=a):a<x:=(Int.lt_or_eq_of_le<|Int.not_lt.mp c).elim id λz=>absurd z.symm d
theorem lj8(h:x.natAbs<=k){b:Int}(q:decide (b<= -(k:Int))=true):b<=x:=It (Od q)<|It (Int.neg_le_neg<|Int.ofNat_le.mpr h)<|Int.neg_le_of_neg_le<|Int.natAbs_neg x▸Int.le_natAbs
theorem lj9(h:x.natAbs<=k){b:Int}(q:decide ((k:Int)<b)=true):x<b:=Int.lt_of_le_of_lt (It Int.le_natAbs<|Int.ofNat_le.mpr h)<|Od q
theorem lk1(h:a<=b+1)(q:b+(c+1)+1<l):a+c+1<l:=Nl (Fs<|Nt (Fr h c)<|Nz<|succ_add b c) q
theorem lk2{x:Nat}(h:x<=a+c)(q:a<=b+1):x<=b+(c+1):=Nt h<|Nt (Fr q c)<|Nz<|succ_add b c
theorem lk3{i:Int}{n:Nat}(h:0<=i+n): -(n:Int)<=i:=Int.le_of_add_le_add_right (a:= -(n:Int)) (b:=n) (c:=i)<|(Int.add_left_neg (n:Int)).symm▸h
theorem lk5(h:m<=b)(q:a+80<c)(d:ble b 80=true):a+m<c:=Nl (Fl (la7 h d) a) q
theorem lk4(h:m<=b)(q:a+80<c)(d:ble (b+1) 80=true):a+1+m<c:=succ_add a m▸lk5 (m:=m+1) (Fs h) q d
theorem lk6(h:a+b+k<c)(q:ble l k=true):a+l<c:=Nl (Nat.add_le_add (Ar a b)<|Bq q) h
theorem lk7(h:a+k<c)(q:ble l k=true):a+l<c:=Nl (Fl (Bq q) a) h
theorem lm6{o:Nat}(h:l<=o+1)(q:1<=l):l / 2<o+1:=Gl (Nat.div_lt_self q<|Zr 2) h
theorem ln1{q:Nat}(h:p+q<=l)(a:l<2 * p)(b:l<2 * q):False:=Nat.lt_irrefl _<|Gl (Nat.add_lt_add a b)<|Nt (Nz<|(Nat.mul_add 2 p q).symm.trans<|Nat.two_mul _)<|Nat.add_le_add h h
theorem ln2{n:Nat}(h:fdiv (m:Int) 2+1<=(n:Int)):m<2 * n:=Gl (Nat.lt_mul_div_succ m<|by decide)<|Nat.mul_le_mul_left 2<|Int.ofNat_le.mp<|show((m / 2:Nat):Int)+1<=n from Int.ofNat_fdiv m 2▸h
theorem ln3(h:b<=c+1):a+b+d<=a+c+d+1:=Nt (Fr (Fl h a) d)<|Nz<|Nat.add_right_comm (a+c) 1 d
theorem ln4{q:Nat}(h:p<=q+1):a+(p+b)<=a+(q+b)+1:=Fl (Nt (Fr h b)<|Nz<|Nat.add_right_comm q 1 b) a
theorem ln5{y x:Nat}(h:y<=x+1):y<=x+b+c+1:=Nt h<|Fs<|Nt (Ar x b)<|Ar ..
theorem ln6(g:r<=w+1)(e:u=1+d)(q:w+u<=k):(r:Int)+d<=k:=ld2<|Nt (Fr g d) (by rw[e,← add_assoc]at q;exact q)
theorem ln7(g:r<=w)(e:u=0+d)(q:w+u<=k):(r:Int)+d<=k:=ld2<|Nt (Fr g d) (by rw[e,zero_add]at q;exact q)
theorem ln8{p:Int}(g:r<=max w (p+1).toNat)(e:u=0+d)(h:p+1+u<=k)(q:w+u<=k):(r:Int)+d<=k:=by
 rcases Nat.le_total (p+1).toNat w with z |z
 ·exact ln7 (Nat.max_eq_left z▸g) e q
 ·rw[Nat.max_eq_right z]at g
  rcases Int.le_total 0 (p+1) with y |y
  ·rw[e,zero_add]at h;exact It (Int.add_le_add_right (Int.toNat_of_nonneg y▸ld2 g) _) h
  ·rw[Int.toNat_of_nonpos y]at g;exact ln7 (Nt g<|Zz w) e q
theorem ln9(e:a+s=b+t)(h:t<=s+1)(c:w<u)(d:b+u<=z):a+w<=z:=
 have y:a<=b+1:=Nat.le_of_add_le_add_right (b:=s)<|Nt (Nz e)<|Nt (Fl h b)<|Nz<|Nat.add_right_comm b s 1
 Nt (Fr y w) (Nt (Nz<|Nat.add_right_comm b 1 w)<|Nt (Fl c b) d)
theorem lo1{v:Nat}(e:a+s=b+t)(h:t<=s)(c:w<=u+v)(d:b+u<=z):a+w<=z+v:=
 have y:a<=b:=Nat.le_of_add_le_add_right (b:=s)<|Nt (Nz e)<|Fl h b
 Nt (Nat.add_le_add y c) (Nt (Nz (add_assoc b u v).symm)<|Fr d v)
theorem lo2(h:a+b+c+d<=z):a<=z/\b<=z/\c<=z:=⟨la8<|la8<|la8 h,Nt (Aw b a)<|la8<|la8 h,Nt (Aw c _)<|la8 h⟩
theorem lo3(h:a<=b)(q:b+(k+1)<=z):a<z:=Nl h<|la1 q
theorem lo5{v:Nat}(h:r<=w)(e:u=v+c)(q:c<=1)(d:w+v<=k):r+u<=k+1:=e▸Nt (Fr h _) (Nt (Nz (add_assoc w v c).symm)<|Nat.add_le_add d q)
theorem lo6{p:Int}{v:Nat}(e:u=v+c)(q:c<=1)(d:p+1+v<=k):p+1+u<=((k+1:Nat):Int):=e▸It (Int.le_of_eq (Int.add_assoc (p+1) v c).symm) (Int.add_le_add d<|ld2 q)
theorem lo7{n:Nat}(h:p<n):min p n+(n - (p+1))+1=n:=by rw[Nat.min_eq_left<|Ny h,Nat.add_right_comm];exact Nat.add_sub_cancel' h
theorem lo8{a:Int}{n:Nat}(h0:0<=a)(h:a+((n+1:Nat):Int)<=12):0<=a+1/\a+1+(n:Int)<=12:=⟨Int.le_add_one h0,It (Int.le_of_eq ((Int.add_assoc a 1 n).trans (congrArg (a+·)<|Int.add_comm 1 n))) h⟩
theorem lo9{a:Int}(h0:0<=a)(h:a<=k):a.natAbs<=k:=Int.ofNat_le.mp<|Int.natAbs_of_nonneg h0▸h
theorem lp1{f:Nat}(h:l+1<f+1+p):l<f+p:=Nat.lt_of_succ_lt_succ<|Nat.lt_of_lt_of_eq h<|Nat.add_right_comm f 1 p
theorem lp2(h:p<l):∃k,l=k+1:=⟨l - 1,(Nat.sub_add_cancel<|Nl (Zz p) h).symm⟩
theorem lp7{d g n:Nat}(h:a<=g+n)(h1:b<=1)(h2:c<=s):a+(b+c)<=g+s+(n+1):=by rw[Nat.add_add_add_comm g s n 1,Nat.add_comm s 1];exact Nat.add_le_add h<|Nat.add_le_add h1 h2
theorem noS{α:Type}{a:α}(h:none=some a):G:=nomatch h
theorem noZ{α:Type}{a:α}(h:some a=none):G:=nomatch h
theorem noT(h:false=true):G:=nomatch h
theorem noF(h:true=false):G:=nomatch h
end
section
open PySem
noncomputable def insS(x:Int):List Int->List Int
 | []=>[x]
 |y::r=>if x<y then x::y::r else if x=y then y::r else y::insS x r
def mkSet:List Int->List Int
 | []=>[]
 |x::r=>insS x<|mkSet r
noncomputable def layT(L:List Int)(t:SetTable)(i:Int):List Int×SetTable×Bool:=match t.freeSlot (hashInt i) with
 |some (slot,wd)=>(L.take (t.put slot).2++i::L.drop (t.put slot).2,(t.put slot).1.orStandIn<|L.length+1,wd)
 |none=>(L++[i],t.standIn<|L.length+1,false)
noncomputable def relT(L:List Int)(t:SetTable)(n:Nat):List Int×SetTable:=match t.relaid (L.map hashInt).toArray n with
 |some (t',o)=>if (coversAll o L.length&&t'.fits (o.toList.filterMap λk=>L[k]?).length)=true then (o.toList.filterMap λk=>L[k]?,t') else (L,t.standIn L.length)
 |none=>(L,t.standIn L.length)
def addT(p:List Int×SetTable)(i:Int):List Int×SetTable:=if i∈p.1 then p else
 if (!(layT p.1 p.2 i).2.2&&(layT p.1 p.2 i).2.1.tooFull)=true then relT (layT p.1 p.2 i).1 (layT p.1 p.2 i).2.1 (SetTable.grown (layT p.1 p.2 i).1.length) else ((layT p.1 p.2 i).1,(layT p.1 p.2 i).2.1)
noncomputable def reoT(L:List Int):Option (SetTable×Array Nat)->Option (List Int×SetTable)
 |none=>none
 |some (t,o)=>if ((o.toList.filterMap λk=>L[k]?).length==L.length&&t.fits L.length)=true then some (o.toList.filterMap λk=>L[k]?,t) else none
def roomT(p:List Int×SetTable)(more:Nat):Option (List Int×SetTable):=match p.2.roomFor more with
 |none=>some p
 |some n=>if SetTable.sizeAbove n<=sizeLine then reoT p.1 (p.2.relaid (p.1.map hashInt).toArray n) else none
def copyT(led:Bool)(p:List Int×SetTable):Option (List Int×SetTable):=if p.1.isEmpty=true then some ([],.fresh 0 0 led) else
 match roomT ([],.fresh 0 0 led) p.1.length with
 |none=>none
 |some r=>match r.2.road p.2 with
  |.slotForSlot=>some (p.1,{ p.2 with finger:=r.2.finger,led:=r.2.led&&p.2.led,moves:=r.2.moves,plain:=r.2.plain&&p.2.plain })
  |.clean=>reoT p.1<|SetTable.laid r.2.mask r.2.finger r.2.moves (led:=r.2.led&&p.2.led) (plain:=r.2.plain&&p.2.plain) (p.1.map hashInt).toArray
  |.oneByOne=>none
noncomputable def stp(led:Bool)(t:SetTable):Nat->Nat
 |0=>0
 |i+1=>if led=true then t.place.getD i 0+1 else 0
def walkT(t:SetTable):Bool:=t.plain&&t.led&&(List.range (t.place.size+1)).all λk=>SetTable.below t.place (stp true t k)==k
def uniB(led:Bool)(l m:List Int):Bool:=match copyT led (l.foldl addT ([],.fresh 0 0 led)) with
 |none=>false
 |some c=>match roomT c (m.foldl addT ([],.fresh 0 0 led)).1.length with
  |none=>false
  |some r=>(m.foldl addT ([],.fresh 0 0 led)).2.led==led&&(m.foldl addT ([],.fresh 0 0 led)).2.plain&&!(m.foldl addT ([],.fresh 0 0 led)).1.isEmpty&&r.2.fill != 0&&blt (l.foldl addT ([],.fresh 0 0 led)).1.length 64&&blt c.1.length 64&&blt (r.1.length+(m.foldl addT ([],.fresh 0 0 led)).1.length) 64&&blt l.length 64&&blt m.length 64
   &&decide r.1.Nodup&&mkSet (r.1++(m.foldl addT ([],.fresh 0 0 led)).1)==mkSet (l++m)&&(!led ||walkT ((m.foldl addT ([],.fresh 0 0 led)).1.foldl addT r).2)
def uniK(l m:List Int):Bool:=uniB true l m&&uniB false l m
end
variable {j:Nat}
section
open PySem (Str)
set_option genCtorIdx true in
inductive B where
 |int |bool |list |tuple |str |valueError |range |set |enumerate
 |len |isinstance |max |min |sorted
set_option genCtorIdx true in
inductive V where
 |none
 |bool (b:Bool)
 |int (i:Int)
 |str (s:Str)
 |tup (xs:List V)
 |lst (xs:List V)
 |rng (a b c:Int)
 |ref (i:Nat)
 |bt (b:B)
 |fn (k:Nat)
 |cls (k:Nat)
inductive C where
 |list (xs:List V)
 |dict (kvs:List (V×V))
 |inst (k:Nat) (fs:List (Nat×V))
 |exc (k:Nat)
noncomputable def atC(l:List (Option C)):Nat->Option C:=List.rec (motive:=λø=>Nat->Option C) (λø=>none) (λc ø ih n=>Nat.rec (motive:=λø=>Option C) c (λm ø=>ih m) n) l
noncomputable def setN(l:List (Option C)):Nat->Option C->List (Option C):=List.rec (motive:=λø=>Nat->Option C->List (Option C)) (λø ø=>[]) (λc r ih n d=>Nat.rec (motive:=λø=>List<|Option C) (d::r) (λm ø=>c::ih m d) n) l
structure Hp where
 cs:List (Option C)
def Hp.get(H:Hp)(i:Nat):Option C:=atC H.cs i
noncomputable def Hp.next(H:Hp):Nat:=H.cs.length
def Hp.set(H:Hp)(i:Nat)(c:C):Hp:=⟨setN H.cs i (some c)⟩
noncomputable def Hp.new(H:Hp)(c:C):Hp:=⟨H.cs++[some c]⟩
def Hp.del(H:Hp)(i:Nat):Hp:=⟨setN H.cs i none⟩
theorem Zee{d:Option C}:∀{cs:List (Option C)}{i:Nat},(setN cs i d).length=cs.length
 | [],_=>rfl
 |_::_,0=>rfl
 |_::r,i+1=>congrArg (·+1)<|Zee (cs:=r)
theorem Zfi{d:Option C}:∀{cs:List (Option C)}{i j:Nat},i<cs.length->atC (setN cs i d) j=if j=i then d else atC cs j
 | [],i,j,h=>absurd h<|not_lt_zero _
 |c::r,0,0,_=>rfl
 |c::r,0,j+1,_=>rfl
 |c::r,i+1,0,_=>rfl
 |c::r,i+1,j+1,h=>(Zfi (cs:=r)<|Nat.lt_of_succ_lt_succ h).trans (by
   show(if j=i then d else atC r j)=if j+1=i+1 then d else atC r j
   by_cases e:j=i
   ·rw[if_pos e,if_pos (congrArg (·+1) e)]
   ·rw[if_neg e,if_neg λz=>e<|Nat.succ.inj z])
theorem ZeC:∀{cs:List (Option C)}{i:Nat},cs.length<=i->atC cs i=none
 | [],_,_=>rfl
 |c::r,0,h=>absurd h<|Nat.not_succ_le_zero _
 |c::r,i+1,h=>ZeC (cs:=r)<|Nat.le_of_succ_le_succ h
theorem Zas{cs:List (Option C)}{c:C}(h:atC cs i=some c):i<cs.length:=by
 by_cases q:i<cs.length
 ·exact q
 ·rw[ZeC<|Nat.le_of_not_lt q]at h;exact noS h
theorem ZgI{d:Option C}:∀{cs:List (Option C)}{j:Nat},atC (cs++[d]) j=if j=cs.length then d else atC cs j
 | [],0=>rfl
 | [],j+1=>rfl
 |c::r,0=>rfl
 |c::r,j+1=>(ZgI (cs:=r)).trans (by
   show(if j=r.length then d else atC r j)=if j+1=r.length+1 then d else atC r j
   by_cases e:j=r.length
   ·rw[if_pos e,if_pos (congrArg (·+1) e)]
   ·rw[if_neg e,if_neg λz=>e<|Nat.succ.inj z])
theorem Hp.get_set{H:Hp}{c c':C}(h:H.get i=some c):(H.set i c').get j=if j=i then some c' else H.get j:=Zfi<|Zas h
theorem Hp.get_del{H:Hp}{c:C}(h:H.get i=some c):(H.del i).get j=if j=i then none else H.get j:=Zfi<|Zas h
theorem Hp.get_new{H:Hp}{c:C}:(H.new c).get j=if j=H.next then some c else H.get j:=ZgI
theorem Hp.next_set{H:Hp}{c:C}:(H.set i c).next=H.next:=Zee
theorem Hp.next_del{H:Hp}:(H.del i).next=H.next:=Zee
theorem Hp.next_new{H:Hp}{c:C}:(H.new c).next=H.next+1:=by
 show(H.cs++[some c]).length=_;rw[La];rfl
noncomputable abbrev Loc:=Nat->Option V
noncomputable def upd(m:Loc)(i:Nat)(v:V):Loc:=λj=>if j=i then some v else m j
noncomputable def unb(m:Loc)(i:Nat):Loc:=λj=>if j=i then none else m j
noncomputable def unbs(ts:List Nat)(m:Loc):Loc:=λj=>if ts.contains j then none else m j
structure St where
 H:Hp
 loc:Loc
noncomputable def St.setH(σ:St)(H:Hp):St:=⟨H,σ.loc⟩
def St.put(σ:St)(i:Nat)(v:V):St:=⟨σ.H,upd σ.loc i v⟩
inductive Flow where
 |next |brk |cont
 |ret (v:V)
noncomputable def lk{α:Type}(l:List (Nat×α))(n:Nat):Option α:=List.rec (motive:=λø=>Option α) none (λp ø ih=>cond (beq p.1 n) (some p.2) ih) l
noncomputable def st{α:Type}(l:List (Nat×α))(n:Nat)(v:α):List (Nat×α):=List.rec (motive:=λø=>List<|Nat×α) [(n,v)] (λp r ih=>cond (beq p.1 n) ((p.1,v)::r) (p::ih)) l
noncomputable def SZ:Nat:=1048576
def need{α:Type}(o:Option α)(k:α->Prop):Prop:=match o with
 |some a=>k a
 |none=>False
def Nd(p t:Prop):Prop:=p/\t
def Br(b:Bool)(t e:Prop):Prop:=match b with
 |true=>t
 |false=>e
noncomputable def cL:Option C->Option (List V)
 |some (.list xs)=>some xs
 |_=>none
noncomputable def cD:Option C->Option (List (V×V))
 |some (.dict kvs)=>some kvs
 |_=>none
noncomputable def cI:Option C->Option (Nat×List (Nat×V))
 |some (.inst k fs)=>some (k,fs)
 |_=>none
noncomputable def cE:Option C->Option Nat
 |some (.exc k)=>some k
 |_=>none
noncomputable def mL(o:Option (List V)):Option V:=match o with
 |some xs=>some<|.lst xs
 |none=>none
def see(H:Hp):V->Option V
 |.ref i=>mL<|cL<|H.get i
 |.bt _=>none
 |.fn _=>none
 |.cls _=>none
 |x=>some x
noncomputable def aRef:V->Option Nat
 |.ref i=>some i
 |_=>none
noncomputable def aInt:V->Option Int
 |.int i=>some i
 |_=>none
noncomputable def aStr:V->Option Str
 |.str s=>some s
 |_=>none
noncomputable def aLst:V->Option (List V)
 |.lst xs=>some xs
 |_=>none
noncomputable def aTup:V->Option (List V)
 |.tup xs=>some xs
 |_=>none
noncomputable def aBool:V->Option Bool
 |.bool b=>some b
 |_=>none
noncomputable def rngN(a b c:Int):Nat:=if c=1 then (b - a).toNat else if c= -1 then (a - b).toNat else 0
noncomputable def rngL(a c:Int):Nat->List V
 |0=>[]
 |n+1=>.int a::rngL (a+c) c n
def itV:V->Option (List V)
 |.lst xs=>some xs
 |.tup xs=>some xs
 |.rng a b c=>some<|rngL a c<|rngN a b c
 |_=>none
noncomputable def deepL(f:V->Option V):List V->Option (List V)
 | []=>some []
 |x::r=>match f x with
  |some y=>(match deepL f r with |some ys=>some (y::ys) |none=>none)
  |none=>none
noncomputable def mT(o:Option (List V)):Option V:=match o with
 |some xs=>some<|.tup xs
 |none=>none
noncomputable def bindL(o:Option (List V))(f:List V->Option V):Option V:=match o with
 |some xs=>f xs
 |none=>none
def deepN(H:Hp):Nat->V->Option V
 |0,x=>(match x with
  |.none=>some .none
  |.bool b=>some<|.bool b
  |.int i=>some<|.int i
  |.str s=>some<|.str s
  |_=>none)
 |n+1,x=>(match x with
  |.none=>some .none
  |.bool b=>some<|.bool b
  |.int i=>some<|.int i
  |.str s=>some<|.str s
  |.tup xs=>mT<|deepL (deepN H n) xs
  |.lst xs=>mL<|deepL (deepN H n) xs
  |.ref i=>bindL (cL<|H.get i) λxs=>mL<|deepL (deepN H n) xs
  |_=>none)
def deep(H:Hp)(v:V):Option V:=deepN H 12 v
noncomputable def bI(b:Bool):Int:=cond b 1 0
noncomputable def isNone:V->Bool
 |.none=>true
 |_=>false
def eqB(a:Bool):V->Bool
 |.bool b=>a==b
 |.int i=>decide<|bI a=i
 |_=>false
def eqI(a:Int):V->Bool
 |.bool b=>decide<|a=bI b
 |.int i=>decide<|a=i
 |_=>false
noncomputable def eqS(a:Str):V->Bool
 |.str b=>decide<|a=b
 |_=>false
mutual
noncomputable def eqD:V->V->Bool
 |.none,y=>isNone y
 |.bool a,y=>eqB a y
 |.int a,y=>eqI a y
 |.str a,y=>eqS a y
 |.tup a,y=>(match y with |.tup b=>eqDs a b |_=>false)
 |.lst a,y=>(match y with |.lst b=>eqDs a b |_=>false)
 |_,_=>false
noncomputable def eqDs:List V->List V->Bool
 | [],y=>y.isEmpty
 |a::r,y=>(match y with |b::t=>eqD a b&&eqDs r t | []=>false)
end
set_option genCtorIdx true in
inductive BOp where
 |add |sub |mul |fdiv |mod |pow |bor
set_option genCtorIdx true in
inductive COp where
 |eq |ne |lt |le |gt |ge |isIn |notIn |is |isNot
inductive LV where
 |val (v:V)
 |newList (xs:List V)
noncomputable def repL(xs:List V):Nat->List V
 |0=>[]
 |n+1=>xs++repL xs n
noncomputable def repS(s:Str):Nat->Str
 |0=>Str.empty
 |n+1=>s++repS s n
def addK(x y:V)(k:LV->Prop):Prop:=match x with
 |.int a=>need (aInt y) λb=>k<|.val<|.int<|a+b
 |.str a=>need (aStr y) λb=>Nd (a.length+b.length<=SZ)<|k<|.val<|.str<|a++b
 |.lst a=>need (aLst y) λb=>k<|.newList<|a++b
 |_=>False
def mulK(x y:V)(k:LV->Prop):Prop:=match x with
 |.int a=>need (aInt y) λb=>Nd (a.natAbs<4611686018427387904\/b.natAbs<4611686018427387904)<|k<|.val<|.int<|a * b
 |.str s=>need (aInt y) λn=>Nd (0<=n/\n<=1048576/\s.length * n.toNat<=SZ)<|k<|.val<|.str<|repS s n.toNat
 |.lst xs=>need (aInt y) λn=>Nd (0<=n/\n<=1048576/\xs.length * n.toNat<=SZ)<|k<|.newList<|repL xs n.toNat
 |_=>False
def intK(x y:V)(k:Int->Int->Prop):Prop:=need (aInt x) λa=>need (aInt y) λb=>k a b
def binK(op:BOp)(x y:V)(k:LV->Prop):Prop:=match op with
 |.add=>addK x y k
 |.mul=>mulK x y k
 |.sub=>intK x y λa b=>k<|.val<|.int<|a - b
 |.fdiv=>intK x y λa b=>Nd (b≠0/\b.natAbs<1073741824)<|k<|.val<|.int<|fdiv a b
 |.mod=>intK x y λa b=>Nd (b≠0)<|k<|.val<|.int<|fmod a b
 |.pow=>False
 |.bor=>False
def aPr(x:V):Option (Int×Int):=(aTup x).bind λl=>match l with
 | [a,b]=>(aInt a).bind λi=>(aInt b).map λj=>(i,j)
 |_=>none
noncomputable def cmpI(e:Bool)(a b:Int):Bool:=cond e (decide (a<=b))<|decide (a<b)
noncomputable def prI(k:Int->Int->Bool)(z:Bool)(a b c d:Int):Bool:=cond (decide (a=c)) (cond (decide (b=d)) z (k b d))<|k a c
def ltK(e:Bool)(x y:V)(k:Bool->Prop):Prop:=match x with
 |.int a=>need (aInt y) λb=>k<|cmpI e a b
 |.tup _=>need (aPr x) λp=>need (aPr y) λq=>k<|prI (cmpI e) e p.1 p.2 q.1 q.2
 |_=>False
noncomputable def isI:V->Bool
 |.int _=>true
 |_=>false
noncomputable def isStr:V->Bool
 |.str _=>true
 |_=>false
def keyOk(ks:List V)(k:V):Bool:=isI k&&ks.all isI
def dGet{α:Type}:List (V×α)->V->Option α
 | [],_=>none
 |p::r,k=>cond (eqD p.1 k) (some p.2)<|dGet r k
def dSet{α:Type}:List (V×α)->V->α->List (V×α)
 | [],k,v=>[(k,v)]
 |p::r,k,v=>cond (eqD p.1 k) ((p.1,v)::r) (p::dSet r k v)
noncomputable def dKeys{α:Type}(kvs:List (V×α)):List V:=kvs.map (·.1)
def keysOk:List V->Bool
 | []=>true
 |k::r=>keyOk r k&&!(r.any λz=>eqD z k)&&keysOk r
noncomputable def solid:V->Bool
 |.rng _ _ _=>false
 |.bt _=>false
 |.fn _=>false
 |.cls _=>false
 |_=>true
noncomputable def isB(c:Bool):V->Bool
 |.bool d=>d==c
 |_=>false
def isK(a b:V)(k:Bool->Prop):Prop:=match b with
 |.none=>Nd (solid a=true)<|k<|isNone a
 |.bool c=>Nd (solid a=true)<|k<|isB c a
 |_=>False
noncomputable def ins(x:Int):List Int->List Int
 | []=>[x]
 |y::r=>if x<=y then x::y::r else y::ins x r
def srt:List Int->List Int
 | []=>[]
 |x::r=>ins x<|srt r
def intsOf:List V->Option (List Int)
 | []=>some []
 |x::r=>(match aInt x with |some i=>(match intsOf r with |some l=>some (i::l) |none=>none) |none=>none)
def intsK(x:V)(k:List Int->Prop):Prop:=need (aLst x) λxs=>need (intsOf xs) k
noncomputable def pyIdx(i:Int)(n:Nat):Option Nat:=if 0<=i then (if i<n then some i.toNat else none) else (if 0<=i+n then some (i+n).toNat else none)
def atK(xs:List V)(i:Int)(k:V->Prop):Prop:=need (pyIdx i xs.length) λn=>need xs[n]? k
def idxK(x y:V)(k:V->Prop):Prop:=need (aInt y) λi=>match x with
 |.lst xs=>atK xs i k
 |.tup xs=>atK xs i k
 |.str s=>Nd (0<=i)<|need s.cps[i.toNat]? λc=>k<|.str ⟨#[c]⟩
 |_=>False
noncomputable def slL(xs:List V)(lo hi:Option Int):List V:=
 match lo,hi with
 |none,none=>xs
 |some a,none=>xs.drop a.toNat
 |none,some b=>xs.take b.toNat
 |some a,some b=>(xs.drop a.toNat).take<|b.toNat - a.toNat
noncomputable def notNeg:Option Int->Bool
 |none=>true
 |some i=>decide<|0<=i
noncomputable def slT(xs:List V)(lo hi:Option Int):Option (List V):=match lo with
 |some _=>none
 |none=>(match hi with |some i=>cond (blt i.toNat xs.length) (some<|xs.take i.toNat) none |none=>none)
def slK(x:V)(lo hi:Option Int)(k:LV->Prop):Prop:=Nd (notNeg lo=true) (Nd (notNeg hi=true) (match x with
 |.lst xs=>k<|.newList<|slL xs lo hi
 |.tup xs=>need (slT xs lo hi) λys=>k<|.val<|.tup ys
 |_=>False))
def trK(x:V)(k:Bool->Prop):Prop:=match x with
 |.none=>k false
 |.bool b=>k b
 |.int i=>k<|decide<|i≠0
 |.str s=>k<|decide<|s.length≠0
 |.tup xs=>k<|!xs.isEmpty
 |.lst xs=>k<|!xs.isEmpty
 |_=>False
noncomputable def lenV:V->Option Nat
 |.str s=>some s.length
 |.tup xs=>some xs.length
 |.lst xs=>some xs.length
 |_=>none
inductive Kd where
 |none |bool |int |str |tuple |list |inst (k:Nat) |exc (k:Nat)
noncomputable def kdV:V->Option Kd
 |.none=>some .none
 |.bool _=>some .bool
 |.int _=>some .int
 |.str _=>some .str
 |.tup _=>some .tuple
 |.lst _=>some .list
 |_=>none
noncomputable def kdC:Option C->Option Kd
 |some (.list _)=>some .list
 |_=>none
def kind(H:Hp):V->Option Kd
 |.ref i=>kdC<|H.get i
 |x=>kdV x
def lenH(H:Hp):V->Option Nat
 |.ref i=>(match H.get i with
  |some (.list xs)=>some xs.length
  |some (.dict kvs)=>some kvs.length
  |_=>none)
 |x=>lenV x
def items(H:Hp):V->Option (List V)
 |.ref i=>cL<|H.get i
 |x=>itV x
mutual
inductive PE where
 |cst (v:V)
 |loc (i:Nat)
 |glob (i:Nat)
 |attr (e:PE) (n:Nat)
 |bin (fz:Bool) (op:BOp) (l r:PE)
 |neg (e:PE)
 |not (e:PE)
 |cmp (op:COp) (l r:PE)
 |cmp2 (op1 op2:COp) (a b c:PE)
 |and (es:PEs)
 |or (es:PEs)
 |ite (t:PC) (a b:PE)
 |list (fz:Bool) (es:PEs)
 |tup (es:PEs)
 |dict (kvs:PKV)
 |idx (e i:PE)
 |sl (fz:Bool) (e:PE) (lo hi:PEo)
 |call (fz:Bool) (f:PE) (as:PEs)
 |sortedRev (fz:Bool) (i:Nat) (e:PE)
 |sortedU (fz:Bool) (i j:Nat) (a b:PE)
 |meth (fz:Bool) (o:PE) (n:Nat) (as:PEs)
 |comp (fz:Bool) (elt:PE) (ts:List Nat) (it:PE) (cond:PCo)
inductive PEs where
 |nil
 |cons (e:PE) (r:PEs)
inductive PEo where
 |none
 |some (e:PE)
inductive PKV where
 |nil
 |cons (k v:PE) (r:PKV)
inductive PC where
 |e (e:PE)
 |not (c:PC)
 |and (cs:PCs)
 |or (cs:PCs)
inductive PCs where
 |nil
 |cons (c:PC) (r:PCs)
inductive PCo where
 |none
 |some (c:PC)
end
inductive PT where
 |loc (i:Nat)
 |attr (o:PE) (n:Nat)
 |idx (o i:PE)
 |tup (is:List Nat)
mutual
inductive PS where
 |expr (e:PE)
 |pass
 |assign (t:PT) (e:PE)
 |augLoc (i:Nat) (op:BOp) (e:PE)
 |augAttr (o:PE) (n:Nat) (op:BOp) (e:PE)
 |ret (e:PEo)
 |ite (t:PC) (a b:PSs)
 |loop (ts:List Nat) (it:PE) (body:PSs)
 |loopEnum (g i x:Nat) (it:PE) (body:PSs)
 |while_ (t:PC) (body:PSs)
 |raise (i:Nat) (e:PE)
 |try_ (body:PSs) (i:Nat) (as:Option Nat) (h:PSs)
inductive PSs where
 |nil
 |cons (s:PS) (r:PSs)
end
structure Fn where
 params:List Nat
 body:PSs
structure Cl where
 init:Option Nat
 meths:List (Nat×Nat)
 attrs:List Nat
structure Prog where
 fn:Nat->Option Fn
 cls:Nat->Option Cl
 glob:Nat->Option V
 sub:Nat->Nat->Bool
 exc:Nat->Bool
 nAppend:Nat
 nPop:Nat
 nExtend:Nat
 nGet:Nat
 nSetdefault:Nat
noncomputable def bKd:B->Option Kd
 |.int=>some .int
 |.bool=>some .bool
 |.str=>some .str
 |.list=>some .list
 |.tuple=>some .tuple
 |_=>none
noncomputable def kNo:Kd->Option Nat
 |.none=>some 0
 |.bool=>some 1
 |.int=>some 2
 |.str=>some 3
 |.list=>some 4
 |.tuple=>some 5
 |_=>none
def kNo2(k j:Kd):Option Bool:=match kNo k with
 |some m=>(match kNo j with
  |some p=>some<|beq m p ||(beq m 1&&beq p 2)
  |none=>none)
 |none=>none
def isiB(k:Kd)(b:B):Option Bool:=match bKd b with
 |some j=>kNo2 k j
 |none=>none
def isi0(P:Prog)(k:Kd)(t:V):Option Bool:=match t with
 |.bt b=>isiB k b
 |_=>none
def isi1(P:Prog)(k:Kd)(t:V):Option Bool:=isi0 P k t
def b1K(b:B)(s:Option V)(n:Option Nat)(k:LV->Prop):Prop:=match b with
 |.len=>need n λn=>k<|.val<|.int n
 |.list=>need s λx=>need (itV x) λxs=>k<|.newList xs
 |.sorted=>need s λx=>intsK x λl=>Nd (l.length<64)<|k<|.newList<|(srt l).map .int
 |.int=>need s λx=>need (aBool x) λb=>k<|.val<|.int<|bI b
 |.range=>need s λx=>need (aInt x) λn=>Nd (n.natAbs<=SZ)<|k<|.val<|.rng 0 n 1
 |_=>False
def b2K(b:B)(x y:V)(k:LV->Prop):Prop:=match b with
 |.max=>intK x y λa b=>k<|.val<|.int<|if b > a then b else a
 |.min=>intK x y λa b=>k<|.val<|.int<|if b<a then b else a
 |.range=>intK x y λa b=>Nd (a.natAbs<=SZ/\b.natAbs<=SZ)<|k<|.val<|.rng a b 1
 |_=>False
def b3K(b:B)(x y z:V)(k:LV->Prop):Prop:=match b with
 |.range=>need (aInt z) λc=>intK x y λa b=>Nd (a.natAbs<=SZ/\b.natAbs<=SZ/\c= -1)<|k<|.val<|.rng a b c
 |_=>False
noncomputable def isIsi:B->Bool
 |.isinstance=>true
 |_=>false
def callB(P:Prog)(H:Hp)(b:B)(as:List V)(k:LV->Prop):Prop:=match as with
 | [v]=>b1K b (see H v) (lenH H v) k
 | [v,w]=>Br (isIsi b) (need (kind H v) λq=>need (isi1 P q w) λr=>k<|.val<|.bool r)<|need (see H v) λx=>need (see H w) λy=>b2K b x y k
 | [u,v,w]=>need (see H u) λx=>need (see H v) λy=>need (see H w) λz=>b3K b x y z k
 |_=>False
def give(fz:Bool)(σ:St)(Q:V->St->Prop):LV->Prop
 |.val v=>Q v σ
 |.newList xs=>Nd (xs.length<=SZ)<|Br fz (Q (.lst xs) σ)<|Q (.ref σ.H.next)<|σ.setH<|σ.H.new<|.list xs
def giveV(fz:Bool)(σ:St)(Q:V->St->Prop)(v:V):Prop:=Br fz (match aRef v with
  |some i=>(match cL (σ.H.get i) with |some xs=>Q (.lst xs) (σ.setH<|σ.H.del i) |none=>Q v σ)
  |none=>Q v σ)<|Q v σ
noncomputable abbrev CT:=Nat->List V->Hp->(V->Hp->Prop)->(Nat->Hp->Prop)->Prop
noncomputable abbrev EP:=Nat->St->Prop
def bindGo:List Nat->List V->St->(St->Prop)->Prop
 | [],ys,σ,K=>(match ys with | []=>K σ |_=>False)
 |i::is,ys,σ,K=>(match ys with |x::xs=>bindGo is xs (σ.put i x) K | []=>False)
def bindT(ts:List Nat)(v:V)(σ:St)(K:St->Prop):Prop:=match ts with
 | [i]=>K<|σ.put i v
 |ts=>need (aTup v) λxs=>bindGo ts xs σ K
noncomputable def one{α:Type}:List α->Option α
 | [x]=>some x
 |_=>none
def methL(P:Prog)(σ:St)(i:Nat)(n:Nat)(as:List V)(xs:List V)(Q:V->St->Prop):Prop:=need (one as) λa=>
 Br (beq n P.nAppend) (Nd (xs.length<SZ)<|Q .none<|σ.setH<|σ.H.set i<|.list<|xs++[a]) <|
 Br (beq n P.nPop) (need (aInt a) λk=>need (pyIdx k xs.length) λj=>need xs[j]? λv=>Q v<|σ.setH<|σ.H.set i<|.list<|xs.take j++xs.drop (j+1)) <|
 need (see σ.H a) λy=>need (aLst y) λys=>Nd (xs.length+ys.length<=SZ)<|Q .none<|σ.setH<|σ.H.set i<|.list<|xs++ys
noncomputable def keyD:List V->Option (V×V)
 | [k]=>some (k,.none)
 | [k,d]=>some (k,d)
 |_=>none
noncomputable def two2{α:Type}:List α->Option (α×α)
 | [a,b]=>some (a,b)
 |_=>none
def sdK(σ:St)(i:Nat)(kvs:List (V×V))(t:V×V)(Q:V->St->Prop):Prop:=match dGet kvs t.1 with
 |some v=>Q v σ
 |none=>Nd (kvs.length<SZ)<|Q t.2<|σ.setH<|σ.H.set i<|.dict<|dSet kvs t.1 t.2
def methD(P:Prog)(σ:St)(i:Nat)(n:Nat)(as:List V)(kvs:List (V×V))(Q:V->St->Prop):Prop:=Br (beq n P.nGet) (need (keyD as) λt=>Nd (keyOk (dKeys kvs) t.1=true)<|Q ((dGet kvs t.1).getD t.2) σ)<|need (two2 as) λt=>Nd (keyOk (dKeys kvs) t.1=true)<|sdK σ i kvs t Q
def callF(P:Prog)(K:CT)(E:EP)(fz:Bool)(σ:St)(f:V)(as:List V)(Q:V->St->Prop):Prop:=match f with
 |.bt b=>callB P σ.H b as<|give fz σ Q
 |.fn k=>K k as σ.H (λv H=>giveV fz (σ.setH H) Q v)<|λe H=>E e<|σ.setH H
 |.cls k=>need (P.cls k) λc=>need c.init λf=>
   K f (.ref σ.H.next::as) (σ.H.new<|.inst k []) (λv H=>Nd (isNone v=true)<|Q (.ref σ.H.next)<|σ.setH H) (λe H=>E e<|σ.setH H)
 |_=>False
noncomputable def noE:EP:=λø ø=>False
def compGo(tst:St->(Bool->St->Prop)->Prop)(elt:St->(V->St->Prop)->Prop)(ts:List Nat)(chk:Hp->Prop):List V->List V->St->(List V->St->Prop)->Prop
 | [],acc,σ,Q=>chk σ.H/\acc.length<=SZ/\Q acc σ
 |v::vs,acc,σ,Q=>chk σ.H/\acc.length<SZ/\bindT ts v σ λσ1=>tst σ1 λb σ2=>Br b (elt σ2 λx σ3=>compGo tst elt ts chk vs (acc++[x]) σ3 Q)<|compGo tst elt ts chk vs acc σ2 Q
def still(v:V)(xs:List V)(H:Hp):Prop:=items H v=some xs
def cmpK(H:Hp)(op:COp)(a b:V)(k:Bool->Prop):Prop:=match op with
 |.eq=>need (deep H a) λx=>need (deep H b) λy=>k<|eqD x y
 |.ne=>need (deep H a) λx=>need (deep H b) λy=>k<|!eqD x y
 |.lt=>need (see H a) λx=>need (see H b) λy=>ltK false x y k
 |.le=>need (see H a) λx=>need (see H b) λy=>ltK true x y k
 |.gt=>need (see H a) λx=>need (see H b) λy=>ltK false y x k
 |.ge=>need (see H a) λx=>need (see H b) λy=>ltK true y x k
 |.isIn=>inK H a b k
 |.notIn=>inK H a b λr=>k<|!r
 |.is=>isK a b k
 |.isNot=>isK a b λr=>k<|!r
where
 anyK (H:Hp) (a:V) (xs:List V) (k:Bool->Prop):Prop:=need (deep H a) λy=>need (deepL (deepN H 11) xs) λys=>k<|ys.any λz=>eqD z y
 inK (H:Hp) (a b:V) (k:Bool->Prop):Prop:=match b with
  |.ref i=>(match H.get i with
   |some (.list xs)=>anyK H a xs k
   |some (.dict kvs)=>Nd (keyOk (dKeys kvs) a=true)<|k<|(dKeys kvs).any λz=>eqD z a
   |_=>False)
  |.lst xs=>anyK H a xs k
  |_=>False
noncomputable def isBn(k:Nat):V->Bool
 |.bt b=>beq b.ctorIdx k
 |_=>false
noncomputable def bOf(k:Nat):B:=[B.int,.bool,.list,.tuple,.str,.valueError,.range,.set,.enumerate,.len,.isinstance,.max,.min,.sorted].getD k .int
theorem ZpT(b:B):bOf b.ctorIdx=b:=by induction b <;> rfl
theorem Zit{v:V}(h:isBn k v=true):v=.bt (bOf k):=by
 induction v using V.casesOn with
 |bt b=>exact Bz h▸congrArg V.bt (ZpT b).symm
 |_=>exact Bool.noConfusion h
def isSrt(v:V):Bool:=isBn 13 v
def isSetB(v:V):Bool:=isBn 7 v
def isEnu(v:V):Bool:=isBn 8 v
def idxH(H:Hp)(a b:V)(k:V->Prop):Prop:=match aRef a with
 |some i=>(match H.get i with
  |some (.list xs)=>idxK (.lst xs) b k
  |some (.dict kvs)=>Nd (keyOk (dKeys kvs) b=true)<|need (dGet kvs b) k
  |_=>False)
 |none=>idxK a b k
def optI:Option V->Option (Option Int)
 |none=>some none
 |some x=>(match aInt x with |some i=>some (some i) |none=>none)
def instK(H:Hp)(a:V)(k:Nat->Nat->List (Nat×V)->Prop):Prop:=need (aRef a) λi=>need (cI (H.get i)) λt=>k i t.1 t.2
def truK(H:Hp)(v:V)(k:Bool->Prop):Prop:=need (see H v) λx=>trK x k
mutual
def wpE(P:Prog)(K:CT)(E:EP):PE->St->(V->St->Prop)->Prop
 |.cst v,σ,Q=>Q v σ
 |.loc i,σ,Q=>need (σ.loc i) λv=>Q v σ
 |.glob i,σ,Q=>need (P.glob i) λv=>Q v σ
 |.attr e n,σ,Q=>wpE P K E e σ λo σ1=>instK σ1.H o λø ø fs=>need (lk fs n) λv=>Q v σ1
 |.bin fz op l r,σ,Q=>wpE P K E l σ λa σ1=>wpE P K E r σ1 λb σ2=>need (see σ2.H a) λx=>need (see σ2.H b) λy=>binK op x y<|give fz σ2 Q
 |.neg e,σ,Q=>wpE P K E e σ λa σ1=>need (aInt a) λi=>Q (.int (-i)) σ1
 |.not e,σ,Q=>wpE P K E e σ λv σ1=>truK σ1.H v λb=>Q (.bool<|!b) σ1
 |.cmp op l r,σ,Q=>wpE P K E l σ λa σ1=>wpE P K E r σ1 λb σ2=>cmpK σ2.H op a b λc=>Q (.bool c) σ2
 |.cmp2 o1' o2' x y z,σ,Q=>wpE P K E x σ λa σ1=>wpE P K E y σ1 λb σ2=>cmpK σ2.H o1' a b λc=>Br c
   (wpE P K E z σ2 λd σ3=>cmpK σ3.H o2' b d λc=>Q (.bool c) σ3) (Q (.bool false) σ2)
 |.and es,σ,Q=>wpAnd P K E es σ Q
 |.or es,σ,Q=>wpOr P K E es σ Q
 |.ite t a b,σ,Q=>wpT P K E t σ λc σ1=>Br c (wpE P K E a σ1 Q)<|wpE P K E b σ1 Q
 |.list fz es,σ,Q=>wpEs P K E es σ λvs σ1=>give fz σ1 Q<|.newList vs
 |.tup es,σ,Q=>wpEs P K E es σ λvs σ1=>Nd (vs.length<=SZ)<|Q (.tup vs) σ1
 |.dict kvs,σ,Q=>wpKV P K E kvs σ λkvs σ1=>Nd (kvs.length<=100)<|Nd (keysOk (dKeys kvs)=true)<|Q (.ref σ1.H.next)<|σ1.setH<|σ1.H.new<|.dict kvs
 |.idx e i,σ,Q=>wpE P K E e σ λa σ1=>wpE P K E i σ1 λb σ2=>idxH σ2.H a b λv=>Q v σ2
 |.sl fz e lo hi,σ,Q=>wpE P K E e σ λa σ1=>wpO P K E lo σ1 λl σ2=>wpO P K E hi σ2 λh σ3=>
   need (optI l) λl=>need (optI h) λh=>need (see σ3.H a) λx=>slK x l h<|give fz σ3 Q
 |.call fz f as,σ,Q=>wpE P K E f σ λg σ1=>wpEs P K E as σ1 λvs σ2=>callF P K E fz σ2 g vs Q
 |.sortedRev fz i e,σ,Q=>need (P.glob i) λg=>Nd (isSrt g=true)<|wpE P K E e σ λa σ1=>need (see σ1.H a) λx=>intsK x λl=>Nd (l.length<64)<|give fz σ1 Q<|.newList<|(srt l).reverse.map .int
 |.sortedU fz i j x y,σ,Q=>need (P.glob i) λg=>Nd (isSrt g=true)<|need (P.glob j) λg=>Nd (isSetB g=true)<|wpE P K E x σ λa σ1=>need (see σ1.H a) λp=>intsK p λl=>Nd (l.length<64)<|wpE P K E y σ1 λb σ2=>need (see σ2.H b) λq=>intsK q λm=>Nd (m.length<64)<|Nd (uniK l m=true)<|give fz σ2 Q<|.newList<|(mkSet<|l++m).map .int
 |.meth fz o n as,σ,Q=>wpE P K E o σ λa σ1=>need (aRef a) λi=>match σ1.H.get i with
  |some (.inst k _)=>need (P.cls k) λc=>need (lk c.meths n) λf=>wpEs P K E as σ1 λvs σ2=>callF P K E fz σ2 (.fn f) (.ref i::vs) Q
  |some (.list _)=>Nd ((beq n P.nAppend ||(beq n P.nPop ||beq n P.nExtend))=true)<|wpEs P K E as σ1 λvs σ2=>need (cL<|σ2.H.get i) λxs=>methL P σ2 i n vs xs Q
  |some (.dict _)=>Nd ((beq n P.nGet ||beq n P.nSetdefault)=true)<|wpEs P K E as σ1 λvs σ2=>need (cD<|σ2.H.get i) λkvs=>methD P σ2 i n vs kvs Q
  |_=>False
 |.comp fz elt ts it cond,σ,Q=>wpE P K E it σ λv σ1=>need (items σ1.H v) λxs=>
   compGo (λσ2 k=>wpC P K noE cond σ2 k) (λσ2 k=>wpE P K noE elt σ2 k) ts (still v xs) xs [] ⟨σ1.H,unbs ts σ1.loc⟩ λys σ2=>give fz ⟨σ2.H,σ1.loc⟩ Q<|.newList ys
def wpT(P:Prog)(K:CT)(E:EP):PC->St->(Bool->St->Prop)->Prop
 |.not e,σ,Q=>wpT P K E e σ λb σ1=>Q (!b) σ1
 |.and es,σ,Q=>wpAllT P K E es σ Q
 |.or es,σ,Q=>wpAnyT P K E es σ Q
 |.e e,σ,Q=>wpE P K E e σ λv σ1=>truK σ1.H v λb=>Q b σ1
def wpAllT(P:Prog)(K:CT)(E:EP):PCs->St->(Bool->St->Prop)->Prop
 |.nil,σ,Q=>Q true σ
 |.cons e r,σ,Q=>wpT P K E e σ λb σ1=>Br b (wpAllT P K E r σ1 Q)<|Q false σ1
def wpAnyT(P:Prog)(K:CT)(E:EP):PCs->St->(Bool->St->Prop)->Prop
 |.nil,σ,Q=>Q false σ
 |.cons e r,σ,Q=>wpT P K E e σ λb σ1=>Br b (Q true σ1)<|wpAnyT P K E r σ1 Q
def wpAnd(P:Prog)(K:CT)(E:EP):PEs->St->(V->St->Prop)->Prop
 |.nil,_,_=>False
 |.cons e r,σ,Q=>wpE P K E e σ λv σ1=>(match r with
  |.nil=>Q v σ1
  |.cons _ _=>truK σ1.H v λb=>Br b (wpAnd P K E r σ1 Q)<|Q v σ1)
def wpOr(P:Prog)(K:CT)(E:EP):PEs->St->(V->St->Prop)->Prop
 |.nil,_,_=>False
 |.cons e r,σ,Q=>wpE P K E e σ λv σ1=>(match r with
  |.nil=>Q v σ1
  |.cons _ _=>truK σ1.H v λb=>Br b (Q v σ1)<|wpOr P K E r σ1 Q)
def wpEs(P:Prog)(K:CT)(E:EP):PEs->St->(List V->St->Prop)->Prop
 |.nil,σ,Q=>Q [] σ
 |.cons e r,σ,Q=>wpE P K E e σ λv σ1=>wpEs P K E r σ1 λvs σ2=>Q (v::vs) σ2
def wpKV(P:Prog)(K:CT)(E:EP):PKV->St->(List (V×V)->St->Prop)->Prop
 |.nil,σ,Q=>Q [] σ
 |.cons k v r,σ,Q=>wpE P K E k σ λa σ1=>wpE P K E v σ1 λb σ2=>wpKV P K E r σ2 λr σ3=>Q ((a,b)::r) σ3
def wpO(P:Prog)(K:CT)(E:EP):PEo->St->(Option V->St->Prop)->Prop
 |.none,σ,Q=>Q none σ
 |.some e,σ,Q=>wpE P K E e σ λv σ1=>Q (some v) σ1
def wpC(P:Prog)(K:CT)(E:EP):PCo->St->(Bool->St->Prop)->Prop
 |.none,σ,Q=>Q true σ
 |.some e,σ,Q=>wpT P K E e σ Q
end
def augK(op:BOp)(a b:V)(k:V->Prop):Prop:=match op with
 |.add=>intK a b λx y=>k<|.int<|x+y
 |_=>False
def putI(σ:St)(i:Nat)(b v:V)(Q:St->Prop):Prop:=Br (cL (σ.H.get i)).isSome
 (need (cL<|σ.H.get i) λxs=>need (aInt b) λk=>Nd (0<=k/\k<xs.length)<|Q<|σ.setH<|σ.H.set i<|.list<|xs.set k.toNat v)
 (need (cD<|σ.H.get i) λkvs=>Nd (keyOk (dKeys kvs) b=true)<|Nd (kvs.length<SZ)<|Q<|σ.setH<|σ.H.set i<|.dict<|dSet kvs b v)
def putA(P:Prog)(a:V)(n:Nat)(v:V)(σ:St)(Q:St->Prop):Prop:=instK σ.H a λi k fs=>need (P.cls k) λc=>Nd (c.attrs.contains n=true)<|Nd (fs.length<1000) (Q (σ.setH (σ.H.set i (.inst k (st fs n v)))))
def asgn(P:Prog)(K:CT)(E:EP)(t:PT)(v:V)(σ:St)(Q:St->Prop):Prop:=match t with
 |.loc i=>Q<|σ.put i v
 |.attr o n=>wpE P K E o σ λa σ1=>putA P a n v σ1 Q
 |.idx o x=>wpE P K E o σ λa σ1=>wpE P K E x σ1 λb σ2=>need (aRef a) λi=>putI σ2 i b v Q
 |.tup is=>need (aTup v) λxs=>bindGo is xs σ Q
noncomputable def asPut(as:Option Nat)(j:Nat)(σ:St):St:=match as with
 |some n=>σ.put n<|.ref j
 |none=>σ
def asUnb(as:Option Nat)(σ:St):St:=match as with
 |some n=>⟨σ.H,unb σ.loc n⟩
 |none=>σ
def endK(fl:Flow)(σ:St)(go:St->Prop)(Q:Flow->St->Prop):Prop:=match fl with
 |.next=>go σ
 |.cont=>go σ
 |.brk=>Q .next σ
 |.ret r=>Q (.ret r) σ
def loopGo(turn:V->St->(Flow->St->Prop)->Prop)(chk:Hp->Prop):List V->St->(Flow->St->Prop)->Prop
 | [],σ,Q=>chk σ.H/\Q .next σ
 |v::vs,σ,Q=>chk σ.H/\turn v σ λfl σ1=>endK fl σ1 (λσ2=>loopGo turn chk vs σ2 Q) Q
def whileGo(tst:St->(Bool->St->Prop)->Prop)(body:St->(Flow->St->Prop)->Prop):Nat->St->(Flow->St->Prop)->Prop
 |0,_,_=>False
 |n+1,σ,Q=>tst σ λb σ1=>Br b (body σ1 λfl σ2=>endK fl σ2 (λσ3=>whileGo tst body n σ3 Q) Q)<|Q .next σ1
noncomputable def enumL(k:Int):List V->List V
 | []=>[]
 |x::r=>.tup [.int k,x]::enumL (k+1) r
noncomputable def aCls:V->Option Nat
 |.cls k=>some k
 |_=>none
def seqK(fl:Flow)(σ:St)(go:St->Prop)(Q:Flow->St->Prop):Prop:=match fl with
 |.next=>go σ
 |.cont=>Q .cont σ
 |.brk=>Q .brk σ
 |.ret r=>Q (.ret r) σ
mutual
def wpS(P:Prog)(K:CT):PS->St->(Flow->St->Prop)->EP->Prop
 |.expr e,σ,Q,E=>wpE P K E e σ λø σ1=>Q .next σ1
 |.pass,σ,Q,_=>Q .next σ
 |.assign t e,σ,Q,E=>wpE P K E e σ λv σ1=>asgn P K E t v σ1 λσ2=>Q .next σ2
 |.augLoc i op e,σ,Q,E=>need (σ.loc i) λa=>wpE P K E e σ λb σ1=>augK op a b λv=>Q .next<|σ1.put i v
 |.augAttr o n op e,σ,Q,E=>wpE P K E o σ λa σ1=>instK σ1.H a λø ø fs=>need (lk fs n) λx=>wpE P K E e σ1 λb σ2=>augK op x b λv=>putA P a n v σ2 λσ3=>Q .next σ3
 |.ret e,σ,Q,E=>wpO P K E e σ λv σ1=>Q (.ret<|v.getD .none) σ1
 |.ite t a b,σ,Q,E=>wpT P K E t σ λc σ1=>Br c (wpSs P K a σ1 Q E)<|wpSs P K b σ1 Q E
 |.loop ts it body,σ,Q,E=>wpE P K E it σ λv σ1=>need (items σ1.H v) λxs=>
   loopGo (λv σ2 k=>bindT ts v σ2 λσ3=>wpSs P K body σ3 k noE) (still v xs) xs σ1 Q
 |.loopEnum g i x it body,σ,Q,E=>need (P.glob g) λw=>Nd (isEnu w=true) (wpE P K E it σ λv σ1=>need (see σ1.H v) λy=>need (aLst y) λxs=>
   loopGo (λv σ2 k=>bindT [i,x] v σ2 λσ3=>wpSs P K body σ3 k noE) (λH=>see H v=some y) (enumL 0 xs) σ1 Q)
 |.while_ t body,σ,Q,_=>∃n,whileGo (λσ1 k=>wpT P K noE t σ1 k) (λσ1 k=>wpSs P K body σ1 k noE) n σ Q
 |.raise i e,σ,_,E=>need (P.glob i) λv=>need (aCls v) λk=>Nd (P.exc k=true)<|wpE P K noE e σ λø σ1=>E σ1.H.next<|σ1.setH<|σ1.H.new<|.exc k
 |.try_ body i as h,σ,Q,_=>need (P.glob i) λv=>need (aCls v) λk=>wpSs P K body σ Q λj σ1=>need (cE<|σ1.H.get j) λm=>Nd (P.exc k=true)<|Nd (P.sub m k=true)<|wpSs P K h (asPut as j σ1) (λfl σ2=>Q fl<|asUnb as σ2) noE
def wpSs(P:Prog)(K:CT):PSs->St->(Flow->St->Prop)->EP->Prop
 |.nil,σ,Q,_=>Q .next σ
 |.cons s r,σ,Q,E=>wpS P K s σ (λfl σ1=>seqK fl σ1 (λσ2=>wpSs P K r σ2 Q E) Q) E
end
def bindP:List Nat->List V->Loc->Option Loc
 | [],vs,m=>(match vs with | []=>some m |_=>none)
 |p::ps,vs,m=>(match vs with |a::as=>bindP ps as (upd m p a) | []=>none)
noncomputable def retV:Flow->V
 |.ret v=>v
 |_=>.none
mutual
noncomputable def renV(ρ:Nat->Nat):V->V
 |.tup xs=>.tup<|renVs ρ xs
 |.lst xs=>.lst<|renVs ρ xs
 |.ref i=>.ref<|ρ i
 |x=>x
noncomputable def renVs(ρ:Nat->Nat):List V->List V
 | []=>[]
 |x::r=>renV ρ x::renVs ρ r
end
def renF(ρ:Nat->Nat):List (Nat×V)->List (Nat×V)
 | []=>[]
 |p::r=>(p.1,renV ρ p.2)::renF ρ r
def renK(ρ:Nat->Nat):List (V×V)->List (V×V)
 | []=>[]
 |p::r=>(p.1,renV ρ p.2)::renK ρ r
def renC(ρ:Nat->Nat):C->C
 |.list xs=>.list<|renVs ρ xs
 |.dict kvs=>.dict<|renK ρ kvs
 |.inst k fs=>.inst k<|renF ρ fs
 |.exc k=>.exc k
noncomputable def rho(js:List Nat)(n i:Nat):Nat:=if i<js.length then js[i]?.getD 0 else n+(i - js.length)
noncomputable def pos0:List Nat->Nat->Option Nat
 | [],_=>none
 |a::r,j=>if a=j then some 0 else (match pos0 r j with |some i=>some (i+1) |none=>none)
def pos(js:List Nat)(n j:Nat):Option Nat:=if n<=j then some (js.length+(j - n)) else pos0 js j
def mrgC(ρ:Nat->Nat)(a b old:Option C):Option C:=match b with
 |some c=>some<|renC ρ c
 |none=>(match a with |some _=>none |none=>old)
def mrgF(js:List Nat)(H₀ H H₁:Hp)(j:Nat):Option C:=match pos js H.next j with
 |some i=>mrgC (rho js H.next) (H₀.get i) (H₁.get i)<|H.get j
 |none=>H.get j
def mrg(js:List Nat)(H₀ H H₁:Hp):Hp:=⟨(List.range (H.next+(H₁.next - js.length))).map (mrgF js H₀ H H₁)⟩
structure Emb(js:List Nat)(H₀ H:Hp):Prop where
 nx:H₀.next=js.length
 dom:∀i,js.length<=i->H₀.get i=none
 all:∀j∈js,∃c,H.get j=some c
 get:∀(i:Nat) c,H₀.get i=some c->∃j,js[i]?=some j/\pos0 js j=some i/\H.get j=some (renC (rho js H.next) c)
inductive Fc(run:List V->Hp->(V->Hp->Prop)->(Nat->Hp->Prop)->Prop):List V->Hp->(V->Hp->Prop)->(Nat->Hp->Prop)->Prop
 |run {as:List V} {H:Hp} {Q:V->Hp->Prop} {E:Nat->Hp->Prop} (h:run as H Q E):Fc run as H Q E
 |foc {as:List V} {H:Hp} {Q:V->Hp->Prop} {E:Nat->Hp->Prop} (js:List Nat) (as₁:List V) (H₀:Hp) (e:Emb js H₀ H) (ha:as=renVs (rho js H.next) as₁)
   (h:Fc run as₁ H₀ (λv H₁=>Q (renV (rho js H.next) v)<|mrg js H₀ H H₁) λi H₁=>js.length<=i/\E (rho js H.next i) (mrg js H₀ H H₁)):Fc run as H Q E
def CW(P:Prog):Nat->CT
 |0=>λø ø ø ø ø=>False
 |n+1=>λf as H Q E=>Fc (λas H Q E=>need (P.fn f) λd=>need (bindP d.params as λø=>none) λm=>
   wpSs P (CW P n) d.body ⟨H,m⟩ (λfl σ=>Q (retV fl) σ.H) λe σ=>E e σ.H) as H Q E
inductive Src where
 |g (x:Str)
 |m (c x:Str)
structure Tb where
 nms:List (Nat×Str)
 fns:List (Nat×Src×Fn)
 globs:List (Nat×V)
 clss:List (Nat×Str×Cl)
 excs:List (Nat×Str)
 subs:List (Nat×Nat)
 quiet:List Nat
 qg:List Nat
 nAppend:Nat
 nPop:Nat
 nExtend:Nat
 nGet:Nat
 nSetdefault:Nat
noncomputable def sub2:List (Nat×Nat)->Nat->Nat->Bool
 | [],_,_=>false
 |p::r,j,k=>cond (beq p.1 j&&beq p.2 k) true<|sub2 r j k
noncomputable def mp2{α β:Type}:Option (α×β)->Option β
 |some y=>some y.2
 |none=>none
noncomputable def isSm{α:Type}:Option α->Bool
 |some _=>true
 |none=>false
noncomputable def hasN:List Nat->Nat->Bool
 | [],_=>false
 |a::r,k=>cond (beq a k) true<|hasN r k
def Tb.P(t:Tb):Prog where
 fn:=λk=>mp2<|lk t.fns k
 cls:=λk=>mp2<|lk t.clss k
 glob:=λi=>lk t.globs i
 sub:=λj k=>sub2 t.subs j k
 exc:=λk=>isSm<|lk t.excs k
 nAppend:=t.nAppend
 nPop:=t.nPop
 nExtend:=t.nExtend
 nGet:=t.nGet
 nSetdefault:=t.nSetdefault
end
abbrev Yq:=V->St->Prop
abbrev Yf:=Flow->St->Prop
abbrev Yt:=Bool->St->Prop
abbrev Yh:=Nat->Hp->Prop
abbrev Yl:=List V->St->Prop
theorem ZfM(x:Int)(l:List Int):(ins x l).Perm (x::l):=by
 induction l with
 |nil=>exact .refl _
 |cons y r ih=>
  show(if x<=y then x::y::r else y::ins x r).Perm _
  by_cases h:x<=y
  ·rw[if_pos h]
  ·rw[if_neg h];exact(ih.cons y).trans (.swap x y r)
theorem ZfA(l:List Int):(srt l).Perm l:=by
 induction l with
 |nil=>exact .refl _
 |cons x r ih=>exact(ZfM x _).trans (ih.cons x)
theorem Zge(x:Int){l:List Int}(h:l.Pairwise (·<=·)):(ins x l).Pairwise (·<=·):=by
 induction l with
 |nil=>exact pairwise_singleton _ _
 |cons y r ih=>
  have h':=pairwise_cons.mp h;show(if x<=y then x::y::r else y::ins x r).Pairwise _
  by_cases c:x<=y
  ·rw[if_pos c];refine pairwise_cons.mpr ⟨λz hz=>?_,h⟩
   rcases Mc hz with q |q
   ·rw[q];exact c
   ·exact It c<|h'.1 z q
  ·rw[if_neg c];refine pairwise_cons.mpr ⟨λz hz=>?_,ih h'.2⟩
   rcases Mc ((ZfM x r).mem_iff.mp hz) with q |q
   ·rw[q];exact Int.le_of_lt<|Int.not_le.mp c
   ·exact h'.1 z q
theorem ZdM(l:List Int):(srt l).Pairwise (·<=·):=by
 induction l with
 |nil=>exact .nil
 |cons x r ih=>exact Zge x ih
theorem ZfW{a b:List Int}(h:a.Perm b)(ha:a.Pairwise (·<=·)):a=srt b:=
 (h.trans (ZfA b).symm).eq_of_pairwise (le:=(·<=·)) (λø ø ø ø p q=>Int.le_antisymm p q) ha (ZdM b)
variable {H:Hp}
section
open PySem PySem.W PySem.Calls PyProof.Rows
noncomputable def bval:B->Value
 |.int=>.type "int"
 |.bool=>.type "bool"
 |.list=>.type "list"
 |.tuple=>.type "tuple"
 |.str=>.type "str"
 |.valueError=>.type "ValueError"
 |.range=>.type "range"
 |.set=>.type "set"
 |.enumerate=>.type "enumerate"
 |.len=>.builtin "len"
 |.isinstance=>.builtin "isinstance"
 |.max=>.builtin "max"
 |.min=>.builtin "min"
 |.sorted=>.builtin "sorted"
structure Cx where
 prog:Program
 w:World
 P:Prog
 nm:Nat->Str
 fnA:Nat->Option Addr
 clA:Nat->Option Addr
 hb:Heap
 quiet:Nat->Bool
 qg:Nat->Bool
structure Wd where
 Z:Addr->Option Obj
 φ:Nat->Option (Addr×Addr)
noncomputable abbrev tupO(vs:Array Value)(n:Nat):Obj:={ cls:=.type "tuple",data:=.seq vs n }
noncomputable abbrev lstO(vs:Array Value)(n:Nat):Obj:={ cls:=.type "list",data:=.seq vs n }
mutual
inductive VR(X:Cx)(W:Wd):Value->V->Prop
 |none:VR X W .none .none
 |bool (b:Bool):VR X W (.bool b) (.bool b)
 |int (i:Int) (t:Tok):VR X W (.int i t) (.int i)
 |str (s:Str) (t:Tok):PyData.strOk s=true->s.length<=SZ->VR X W (.str s t) (.str s)
 |tup {a:Addr} {vs:Array Value} {n:Nat} {xs:List V}:W.Z a=some (tupO vs n)->VRs X W vs.toList xs->xs.length<=SZ->VR X W (.ref a) (.tup xs)
 |lst {a:Addr} {vs:Array Value} {n:Nat} {xs:List V}:W.Z a=some (lstO vs n)->VRs X W vs.toList xs->xs.length<=SZ->VR X W (.ref a) (.lst xs)
 |rng {r:Addr} {a b c:Int} {t u v:Tok}:W.Z r=some { cls:=.type "range",dict:=none,data:=.fields #[.int a t,.int b u,.int c v],slots:=#[] }->a.natAbs<=SZ->b.natAbs<=SZ->(c=1\/c= -1)->VR X W (.ref r) (.rng a b c)
 |ref {i:Nat} {l:Addr×Addr}:W.φ i=some l->VR X W (.ref l.1) (.ref i)
 |bt (b:B):VR X W (bval b) (.bt b)
 |fn {k:Nat} {a:Addr}:X.fnA k=some a->VR X W (.ref a) (.fn k)
 |cls {k:Nat} {a:Addr}:X.clA k=some a->VR X W (.ref a) (.cls k)
inductive VRs(X:Cx)(W:Wd):List Value->List V->Prop
 |nil:VRs X W [] []
 |cons {v:Value} {vs:List Value} {x:V} {xs:List V}:VR X W v x->VRs X W vs xs->VRs X W (v::vs) (x::xs)
end
inductive KVs(X:Cx)(W:Wd):List (Int×Value)->List (V×V)->Prop
 |nil:KVs X W [] []
 |cons {i:Int} {v:Value} {x:V} {es:List (Int×Value)} {kvs:List (V×V)}:VR X W v x->KVs X W es kvs->KVs X W ((i,v)::es) ((.int i,x)::kvs)
inductive FVs(X:Cx)(W:Wd):List DictEntry->List (Nat×V)->Prop
 |nil:FVs X W [] []
 |cons {i:Nat} {hh:Int} {t:Tok} {v:Value} {x:V} {es:List DictEntry} {fs:List (Nat×V)}:VR X W v x->FVs X W es fs->FVs X W (⟨hh,.str (X.nm i) t,v⟩::es) ((i,x)::fs)
noncomputable abbrev dictO(es:Array DictEntry)(n:Nat):Obj:={ cls:=.type "dict",data:=.dict es n }
noncomputable abbrev instO(c dx:Addr):Obj:={ cls:=.ref c,dict:=some dx,data:=.plain }
inductive LstCell(X:Cx)(W:Wd)(h:Heap)(l:Addr×Addr)(xs:List V):Prop
 |mk (vs:Array Value) (n:Nat) (a:h.get? l.1=some (lstO vs n)) (b:VRs X W vs.toList xs) (e:l.2=l.1) (z:xs.length<=SZ)
inductive DicCell(X:Cx)(W:Wd)(h:Heap)(l:Addr×Addr)(kvs:List (V×V)):Prop
 |mk (es:List (Int×Value)) (a:h.DictOf (intKind X.prog X.w) l.1 es) (k:KVs X W es kvs) (e:l.2=l.1) (ne:(l.1==sysModules)=false) (z:kvs.length<=SZ)
inductive InsCell(X:Cx)(W:Wd)(h:Heap)(l:Addr×Addr)(k:Nat)(fs:List (Nat×V)):Prop
 |mk (c:Addr) (cl:Cl) (es:Array DictEntry) (n:Nat) (a:X.clA k=some c) (a':X.P.cls k=some cl) (b:h.get? l.1=some (instO c l.2)) (d:h.get? l.2=some (dictO es n)) (f:FVs X W es.toList fs) (ne:l.2≠l.1) (p:∀p∈fs,p.1∈cl.attrs) (z:fs.length<=1000)
inductive ExcCell(X:Cx)(h:Heap)(l:Addr×Addr)(k:Nat):Prop
 |mk (c:Addr) (o:Obj) (vs:Array Value) (a:X.clA k=some c) (a':X.P.exc k=true) (b:h.get? l.1=some o) (d:o.cls=.ref c) (f:o.data=.fields vs) (e:l.2=l.1)
def CellAt(X:Cx)(W:Wd)(h:Heap)(l:Addr×Addr):C->Prop
 |.list xs=>LstCell X W h l xs
 |.dict kvs=>DicCell X W h l kvs
 |.inst k fs=>InsCell X W h l k fs
 |.exc k=>ExcCell X h l k
inductive Own(W:Wd)(H:Hp)(a:Addr):Prop
 |mk (i:Nat) (c:C) (l:Addr×Addr) (h:H.get i=some c) (p:W.φ i=some l) (e:a=l.1\/a=l.2)
inductive CellIn(X:Cx)(W:Wd)(h:Heap)(i:Nat)(c:C):Prop
 |mk (l:Addr×Addr) (p:W.φ i=some l) (r:CellAt X W h l c)
structure RelH(X:Cx)(W:Wd)(H:Hp)(h:Heap):Prop where
 z:∀a o,W.Z a=some o->h.get? a=some o
 base:∀a o,X.hb.get? a=some o->W.Z a=some o
 cell:∀i c,H.get i=some c->CellIn X W h i c
 off:∀a,Own W H a->W.Z a=none
 sep:∀i j ci cj li lj,H.get i=some ci->H.get j=some cj->W.φ i=some li->W.φ j=some lj->i≠j->li.1≠lj.1/\li.1≠lj.2/\li.2≠lj.1/\li.2≠lj.2
 dom:∀i,H.next<=i->H.get i=none/\W.φ i=none
def SameO(o o':Obj):Prop:=o'=o\/((∃es n,o.data=.dict es n)/\∃sl,o'={ o with slots:=sl })
structure Wd.Le(W W':Wd):Prop where
 zz:∀a o,W.Z a=some o->W'.Z a=some o
 ff:∀i l,W.φ i=some l->W'.φ i=some l
def noPv:Addr->Prop:=λø=>False
structure Stp(Pv:Addr->Prop)(W:Wd)(H:Hp)(h:Heap)(W':Wd)(H':Hp)(h':Heap):Prop where
 le:Wd.Le W W'
 keep:∀a o,h.get? a=some o->¬ Own W H a->¬ Pv a->∃o',h'.get? a=some o'/\SameO o o'
 own:∀a o,h.get? a=some o->¬ Own W H a->¬ Own W' H' a
 znew:∀a o,W'.Z a=some o->W.Z a=some o\/Own W H a\/h.get? a=none
 there:∀a o,h.get? a=some o->∃o',h'.get? a=some o'
theorem RelH.bkeep{X:Cx}{W:Wd}{h:Heap}(R:RelH X W H h):∀a o,X.hb.get? a=some o->h.get? a=some o:=λa o e=>R.z _ _<|R.base a o e
structure Rest(s s':Shared):Prop where
 gens:s'.gens=s.gens
 drawn:s'.drawn=s.drawn
 os:s'.os=s.os
structure FrAt(W:Wd)(H:Hp)(h:Heap)(env:Env):Prop where
 kd:env.scope.kind≠.module
 at_:∃L o es n,env.frame=some L/\h.get? L=some o/\o.data=.dict es n/\¬ Own W H L/\W.Z L=none
def Fly(W:Wd)(H:Hp)(h₀ h:Heap)(e:Addr):Prop:=∃oe vs a0,h.get? e=some oe/\oe.data=.fields vs/\vs[0]?=some a0/\(vs[1]?=some .none\/∃T oT ts,vs[1]?=some (.ref T)/\T≠e/\h.get? T=some oT/\oT.data=.fields ts/\ts[3]?=some .none/\h₀.get? T=none/\¬ Own W H T/\W.Z T=none)
structure Tc(X:Cx)(W:Wd)(H:Hp)(s:Shared)(W':Wd)(H':Hp)(s':Shared):Prop where
 stp:Stp noPv W H s.heap W' H' s'.heap
 rel:RelH X W' H' s'.heap
 rest:Rest s s'
noncomputable def kdT(X:Cx):Kd->Option Value
 |.none=>some<|.type "NoneType"
 |.bool=>some<|.type "bool"
 |.int=>some<|.type "int"
 |.str=>some<|.type "str"
 |.list=>some<|.type "list"
 |.tuple=>some<|.type "tuple"
 |_=>none
def tVal(X:Cx):V->Option Value
 |.bt b=>some<|bval b
 |_=>none
structure IsiK(X:Cx)(K:Frag):Prop where
 inn:K.In X.hb
 one:∀k t b tv cv,isi0 X.P k t=some b->kdT X k=some tv->tVal X t=some cv->kitOne K tv cv=some b
noncomputable def opOf:BOp->Operator
 |.add=>.Add
 |.sub=>.Sub
 |.mul=>.Mult
 |.fdiv=>.FloorDiv
 |.mod=>.Mod
 |.pow=>.Pow
 |.bor=>.BitOr
noncomputable def cmpOf:COp->CmpOp
 |.eq=>.Eq
 |.ne=>.NotEq
 |.lt=>.Lt
 |.le=>.LtE
 |.gt=>.Gt
 |.ge=>.GtE
 |.isIn=>.In
 |.notIn=>.NotIn
 |.is=>.Is
 |.isNot=>.IsNot
end
variable {b:Bool}{p:PE}{x:Str}
section
open PySem
variable {a c:Bool}{e:Expr}
structure Sc where
 sc:Scope
 hd:Bool
structure Ck where
 nm:Nat->Str
 qg:Nat->Bool
 ap:Nat
noncomputable def nkNo:NameKind->Nat
 |.local=>1
 |.cell=>2
 |.free=>3
 |.globalImplicit=>4
 |_=>0
def knd(sc:Sc)(x:Str):Nat:=match sc.sc.names.lookup x with
 |some k=>nkNo k
 |none=>0
def kLoc(sc:Sc)(x:Str):Bool:=ble 1 (knd sc x)&&ble (knd sc x) 3
def kLocal(sc:Sc)(x:Str):Bool:=beq (knd sc x) 1
def kStore(sc:Sc)(x:Str):Bool:=beq (knd sc x) 1 ||beq (knd sc x) 2
def kGlob(sc:Sc)(x:Str):Bool:=beq (knd sc x) 4
noncomputable def nkOf:Nat->NameKind
 |1=>.local
 |2=>.cell
 |3=>.free
 |_=>.globalImplicit
theorem ZoU{k:NameKind}(h:nkNo k≠0):k=nkOf (nkNo k):=by induction k <;> first |rfl |exact absurd rfl h
theorem Zew{sc:Sc}{n:Nat}(h:knd sc x=n)(hn:n≠0):sc.sc.names.lookup x=some (nkOf n):=by
 have h:(match sc.sc.names.lookup x with |some k=>nkNo k |none=>0)=n:=h
 induction q:sc.sc.names.lookup x with
 |none=>rw[q]at h;exact absurd h.symm hn
 |some k=>rw[q]at h;rw[← h,← ZoU (λz=>hn<|h.symm.trans z)]
noncomputable def nDbg(x:Str):Bool:=!(x==("__debug__":Str))&&!(x==("__classdict__":Str))
structure XU where
 tag:Nat
 a:Expr
 b:Expr
 c:Expr
 l:List Expr
 os:List (Option Expr)
 s:Str
 v:Const
 o:Operator
 u:UnaryOp
 cs:List CmpOp
 bo:BoolOp
 kw:List Keyword
 gs:List Comprehension
 sc:Option Scope
 k:Nat
 o0:Option Expr
 o1:Option Expr
 o2:Option Expr
 p:Pos
noncomputable def X0(e:Expr)(p:Pos):XU:=⟨0,e,e,e,[],[],Str.empty,.none,.Add,.Not,[],.And,[],[],none,0,none,none,none,p⟩
def xu(e:Expr):XU:=match e with
 |.Constant v k p=>{ X0 e p with tag:=1,v:=v,k:=k }
 |.Name x p=>{ X0 e p with tag:=2,s:=x }
 |.Attribute a x p=>{ X0 e p with tag:=3,a:=a,s:=x }
 |.BinOp a o b p=>{ X0 e p with tag:=4,a:=a,o:=o,b:=b }
 |.UnaryOp u a p=>{ X0 e p with tag:=5,u:=u,a:=a }
 |.Compare a cs l p=>{ X0 e p with tag:=6,a:=a,cs:=cs,l:=l }
 |.BoolOp bo l p=>{ X0 e p with tag:=7,bo:=bo,l:=l }
 |.IfExp a b c p=>{ X0 e p with tag:=8,a:=a,b:=b,c:=c }
 |.List l p=>{ X0 e p with tag:=9,l:=l }
 |.Tuple l k p=>{ X0 e p with tag:=10,l:=l,k:=k }
 |.Dict os l p=>{ X0 e p with tag:=11,os:=os,l:=l }
 |.Subscript a b p=>{ X0 e p with tag:=12,a:=a,b:=b }
 |.Slice o0 o1 o2 p=>{ X0 e p with tag:=13,o0:=o0,o1:=o1,o2:=o2 }
 |.Call a l kw p=>{ X0 e p with tag:=14,a:=a,l:=l,kw:=kw }
 |.ListComp a gs sc p=>{ X0 e p with tag:=15,a:=a,gs:=gs,sc:=some sc }
 |.Lambda _ _ _ p=>{ X0 e p with tag:=16 }
 |.Set _ _ p=>{ X0 e p with tag:=17 }
 |.NamedExpr _ _ p=>X0 e p
 |.SetComp _ _ _ p=>X0 e p
 |.DictComp _ _ _ _ p=>X0 e p
 |.GeneratorExp _ _ _ p=>X0 e p
 |.Await _ p=>X0 e p
 |.Yield _ p=>X0 e p
 |.YieldFrom _ p=>X0 e p
 |.FormattedValue _ _ _ p=>X0 e p
 |.JoinedStr _ p=>X0 e p
 |.Starred _ p=>X0 e p
noncomputable def scOf(t:XU):Scope:=t.sc.getD ⟨.function,[],false,false,[]⟩
def backs(t:XU):List Expr:=[t.a,.Constant t.v t.k t.p,.Name t.s t.p,.Attribute t.a t.s t.p,.BinOp t.a t.o t.b t.p,.UnaryOp t.u t.a t.p,.Compare t.a t.cs t.l t.p,.BoolOp t.bo t.l t.p,.IfExp t.a t.b t.c t.p,.List t.l t.p,.Tuple t.l t.k t.p,.Dict t.os t.l t.p,.Subscript t.a t.b t.p,.Slice t.o0 t.o1 t.o2 t.p,.Call t.a t.l t.kw t.p,.ListComp t.a t.gs (scOf t) t.p]
def back(t:XU)(n:Nat):Expr:=(backs t)[n]?.getD t.a
theorem ZpI(e:Expr):blt (xu e).tag 16=true->e=back (xu e) (xu e).tag:=by
 induction e using PySem.Expr.casesOn <;> first |exact λø=>rfl |exact λh=>nomatch h
theorem ZeY{n:Nat}(h:beq (xu e).tag n=true)(hn:blt n 16=true):e=back (xu e) n:=by
 have h:=Bz h;rw[← h]at hn;exact(ZpI e hn).trans (by rw[h])
noncomputable def on{α:Type}(o:Option α)(f:α->Bool):Bool:=match o with
 |some a=>f a
 |none=>false
def chkC(v:V):Const->Bool
 |.none=>isNone v
 |.bool b=>on (aBool v) λc=>c==b
 |.int i=>on (aInt v) λc=>decide<|c=i
 |.str s=>on (aStr v) λc=>decide (c=s)&&PyData.strOk s&&decide (s.length<=SZ)
 |_=>false
def notSuper(e:Expr):Bool:=!(beq (xu e).tag 14&&(xu e).l.isEmpty&&(xu e).kw.isEmpty&&beq (xu (xu e).a).tag 2)
noncomputable def uniq:List (Str×NameKind)->Bool
 | []=>true
 |y::r=>r.all (λz=>!(z.1==y.1))&&uniq r
def chkSc(nm:Nat->Str)(sc:Sc)(sc':Scope)(ts:List Nat):Bool:=(match sc'.kind with |.function=>true |_=>false)&&uniq sc'.names&&
 sc'.names.all λy=>match nkNo y.2 with
  |1=>y.1==(".0":Str) ||ts.any (λi=>decide<|y.1=nm i)
  |3=>beq (knd sc y.1) 2 ||beq (knd sc y.1) 3
  |4=>true
  |_=>false
inductive A3(a b c:Bool):Prop
 |mk (x:a=true) (y:b=true) (z:c=true)
theorem and2(h:(a&&b)=true):a=true/\b=true:=by induction a <;> induction b <;> first |exact⟨rfl,rfl⟩ |exact noT h
theorem Zao(h:(a&&b)=true)(g:a=true->b=true->G):G:=g (and2 h).1 (and2 h).2
theorem Zah(h:(a&&b&&c)=true)(g:a=true->b=true->c=true->G):G:=Zao h λh z=>Zao h λx y=>g x y z
theorem Zau{d:Bool}(h:(a&&b&&c&&d)=true)(g:a=true->b=true->c=true->d=true->G):G:=Zao h λh u=>Zah h λx y z=>g x y z u
theorem ZdT{d e:Bool}(h:(a&&b&&c&&d&&e)=true)(g:a=true->b=true->c=true->d=true->e=true->G):G:=Zao h λh v=>Zau h λx y z u=>g x y z u v
theorem Zaz{d e f:Bool}(h:(a&&b&&c&&d&&e&&f)=true)(g:a=true->b=true->c=true->d=true->e=true->f=true->G):G:=Zao h λh w=>ZdT h λx y z u v=>g x y z u v w
theorem ZaL{α:Type}{o:Option α}{f:α->Bool}(h:on o f=true)(g:∀a,o=some a->f a=true->G):G:=by
 induction o with
 |none=>exact noT h
 |some a=>exact g a rfl h
noncomputable def x2{α:Type}:List α->Option (α×α) | [a,b]=>some (a,b) |_=>none
noncomputable def x0{α:Type}:Option α->Bool |none=>true |_=>false
theorem ZaN{α:Type}{l:List α}{a:α}(h:one l=some a):l=[a]:=by
 match l,h with
 | [_],h=>obtain rfl:=Eq.symm<|Sj h;rfl
theorem Zng{α:Type}{l:List α}{t:α×α}(h:x2 l=some t):l=[t.1,t.2]:=by
 match l,h with
 | [_,_],h=>obtain rfl:=Sj h;rfl
theorem ZhJ{α:Type}{o:Option α}(h:x0 o=true):o=none:=by
 induction o with
 |none=>rfl
 |some _=>exact noT h
theorem ZbD{α:Type}{l:List α}{x:α}(h:l.head?=some x):l=x::l.tail:=by
 induction l using List.casesOn with
 |nil=>exact noS h
 |cons a r=>obtain rfl:=Eq.symm<|Sj h;rfl
theorem Zag{α:Type}{l:List α}(h:l.isEmpty=true):l=[]:=by
 induction l using List.casesOn with
 |nil=>rfl
 |cons a r=>exact noT h
def tg(e:Expr)(n:Nat):Bool:=beq (xu e).tag n
def isRv(kw:List Keyword):Bool:=on (one kw) λk=>decide (k.arg=some (Str.ofString "reverse"))&&tg k.value 1&&decide ((xu k.value).v=.bool true)
def plainTest(e:Expr):Bool:=!(tg e 5&&decide ((xu e).u=.Not))&&!tg e 7&&!tg e 8
def tgts(nm:Nat->Str)(sc:Sc):List Nat->List Expr->Bool
 | [],l=>l.isEmpty
 |i::is,l=>on l.head? λt=>tg t 2&&decide ((xu t).s=nm i)&&kLocal sc (xu t).s&&tgts nm sc is l.tail
def chkTgt(nm:Nat->Str)(sc:Sc)(ts:List Nat)(t:Expr):Bool:=(tg t 2&&on (one ts) λj=>decide ((xu t).s=nm j)&&kLocal sc (xu t).s) ||(tg t 10&&ble 2 ts.length&&tgts nm sc ts (xu t).l)
noncomputable def qGlob(c:Ck):PE->Bool
 |.glob i=>c.qg i
 |_=>false
noncomputable def noKV:PKV->Bool
 |.nil=>true
 |_=>false
def kInt:PE->Option Int
 |.cst v=>aInt v
 |_=>none
noncomputable def kVar:PE->Option Nat
 |.loc j=>some j
 |_=>none
def chkKV(c:Ck)(sc:Sc)(kvs:PKV)(os:List (Option Expr))(l:List Expr):Bool:=match kvs with
 |.nil=>os.isEmpty&&l.isEmpty
 |.cons k v r=>noKV r&&on (one os) λo=>on o λke=>on (one l) λve=>on (kInt k) λi=>on (kVar v) λj=>(tg ke 1&&decide ((xu ke).v=.int i))&&(tg ve 2&&decide ((xu ve).s=c.nm j)&&kLoc sc (xu ve).s&&nDbg (xu ve).s)
def chkG(c:Ck)(sc:Sc)(i:Nat)(x:Str):Bool:=decide (x=c.nm i)&&kGlob sc x&&nDbg x
def chk1(c:Ck)(sc:Sc)(i:Nat)(e:Expr)(f:Expr->Bool):Bool:=tg e 14&&tg (xu e).a 2&&chkG c sc i (xu (xu e).a).s&&(xu e).kw.isEmpty&&on (one (xu e).l) f
mutual
noncomputable def chkE(c:Ck)(sc:Sc):PE->Expr->Bool
 |.cst v,e=>tg e 1&&chkC v (xu e).v
 |.loc i,e=>tg e 2&&decide ((xu e).s=c.nm i)&&kLoc sc (xu e).s&&nDbg (xu e).s
 |.glob i,e=>tg e 2&&decide ((xu e).s=c.nm i)&&kGlob sc (xu e).s&&nDbg (xu e).s
 |.attr o n,e=>tg e 3&&chkE c sc o (xu e).a&&decide ((xu e).s=c.nm n)&&notSuper (xu e).a
 |.bin _ op l r,e=>tg e 4&&decide ((xu e).o=opOf op)&&chkE c sc l (xu e).a&&chkE c sc r (xu e).b
 |.neg a,e=>tg e 5&&decide ((xu e).u=.USub)&&chkE c sc a (xu e).a
 |.not a,e=>tg e 5&&decide ((xu e).u=.Not)&&chkE c sc a (xu e).a
 |.cmp op l r,e=>tg e 6&&on (one (xu e).cs) λo=>on (one (xu e).l) λr'=>decide (o=cmpOf op)&&chkE c sc l (xu e).a&&chkE c sc r r'
 |.cmp2 o1' o2' a b d,e=>tg e 6&&on (x2 (xu e).cs) λo=>on (x2 (xu e).l) λr=>decide (o.1=cmpOf o1')&&decide (o.2=cmpOf o2')&&chkE c sc a (xu e).a&&chkE c sc b r.1&&chkE c sc d r.2
 |.and es,e=>tg e 7&&decide ((xu e).bo=.And)&&chkEs c sc es (xu e).l
 |.or es,e=>tg e 7&&decide ((xu e).bo=.Or)&&chkEs c sc es (xu e).l
 |.ite d a b,e=>tg e 8&&chkT c sc d (xu e).a&&chkE c sc a (xu e).b&&chkE c sc b (xu e).c
 |.list _ es,e=>tg e 9&&chkEs c sc es (xu e).l
 |.tup es,e=>tg e 10&&chkEs c sc es (xu e).l
 |.dict kvs,e=>tg e 11&&chkKV c sc kvs (xu e).os (xu e).l
 |.idx a i,e=>tg e 12&&chkE c sc a (xu e).a&&chkE c sc i (xu e).b
 |.sl _ a lo hi,e=>tg e 12&&tg (xu e).b 13&&chkE c sc a (xu e).a&&chkO c sc lo (xu (xu e).b).o0&&chkO c sc hi (xu (xu e).b).o1&&x0 (xu (xu e).b).o2
 |.call _ f as,e=>tg e 14&&tg (xu e).a 2&&chkE c sc f (xu e).a&&chkEs c sc as (xu e).l&&(xu e).kw.isEmpty&&(sc.hd ||qGlob c f)
 |.sortedRev _ i a,e=>tg e 14&&tg (xu e).a 2&&(decide ((xu (xu e).a).s=c.nm i)&&kGlob sc (xu (xu e).a).s&&nDbg (xu (xu e).a).s)&&(on (one (xu e).l) λy=>chkE c sc a y)&&isRv (xu e).kw&&sc.hd
 |.sortedU _ i j a b,e=>tg e 14&&sc.hd&&chk1 c sc i e λy=>tg y 4&&decide ((xu y).o=.BitOr)&&chk1 c sc j (xu y).a (λz=>chkE c sc a z)&&chk1 c sc j (xu y).b (λz=>chkE c sc b z)
 |.meth _ o n as,e=>tg e 14&&tg (xu e).a 3&&chkE c sc o (xu (xu e).a).a&&decide ((xu (xu e).a).s=c.nm n)&&chkEs c sc as (xu e).l&&(notSuper (xu (xu e).a).a&&ble (xu e).l.length 20&&(xu e).kw.isEmpty&&beq (xu (xu e).a).p.endLine (xu e).p.line&&(sc.hd ||beq n c.ap))
 |.comp _ elt ts it cond,e=>tg e 15&&on (one (xu e).gs) λg=>
   chkE c ⟨scOf<|xu e,true⟩ elt (xu e).a&&chkTgt c.nm ⟨scOf<|xu e,true⟩ ts g.target&&chkE c sc it g.iter&&chkIf c ⟨scOf<|xu e,true⟩ cond g.ifs&&chkSc c.nm sc (scOf<|xu e) ts&&(decide (g.is_async=0)&&sc.hd)
noncomputable def chkT(c:Ck)(sc:Sc):PC->Expr->Bool
 |.not d,e=>tg e 5&&decide ((xu e).u=.Not)&&chkT c sc d (xu e).a
 |.and cs,e=>tg e 7&&decide ((xu e).bo=.And)&&chkTs c sc cs (xu e).l
 |.or cs,e=>tg e 7&&decide ((xu e).bo=.Or)&&chkTs c sc cs (xu e).l
 |.e a,e=>plainTest e&&chkE c sc a e
noncomputable def chkTs(c:Ck)(sc:Sc):PCs->List Expr->Bool
 |.nil,l=>l.isEmpty
 |.cons d r,l=>on l.head? λx=>chkT c sc d x&&chkTs c sc r l.tail
noncomputable def chkEs(c:Ck)(sc:Sc):PEs->List Expr->Bool
 |.nil,l=>l.isEmpty
 |.cons e r,l=>on l.head? λx=>chkE c sc e x&&chkEs c sc r l.tail
noncomputable def chkO(c:Ck)(sc:Sc):PEo->Option Expr->Bool
 |.none,o=>x0 o
 |.some e,o=>on o λx=>chkE c sc e x
noncomputable def chkIf(c:Ck)(sc:Sc):PCo->List Expr->Bool
 |.none,l=>l.isEmpty
 |.some d,l=>on (one l) λx=>chkT c sc d x
end
theorem Zbj{c:Ck}{sc:Sc}(h:chkE c sc p e=true):ble 1 (xu e).tag=true/\ble (xu e).tag 15=true:=by
 have k:∀n,tg e n=true->(ble 1 n&&ble n 15)=true->ble 1 (xu e).tag=true/\ble (xu e).tag 15=true:=λn h q=>by
  rw[show(xu e).tag=n from Bz h];exact and2 q
 induction p using PE.casesOn with
 |cst _=>exact k 1 (and2 h).1 rfl
 |loc _=>exact Zau h λa ø ø ø=>k 2 a rfl
 |glob _=>exact Zau h λa ø ø ø=>k 2 a rfl
 |attr _ _=>exact Zau h λa ø ø ø=>k 3 a rfl
 |bin _ _ _ _=>exact Zau h λa ø ø ø=>k 4 a rfl
 |neg _=>exact Zah h λa ø ø=>k 5 a rfl
 |not _=>exact Zah h λa ø ø=>k 5 a rfl
 |cmp _ _ _=>exact k 6 (and2 h).1 rfl
 |cmp2 _ _ _ _ _=>exact k 6 (and2 h).1 rfl
 |and _=>exact Zah h λa ø ø=>k 7 a rfl
 |or _=>exact Zah h λa ø ø=>k 7 a rfl
 |ite _ _ _=>exact Zau h λa ø ø ø=>k 8 a rfl
 |list _ _=>exact k 9 (and2 h).1 rfl
 |tup _=>exact k 10 (and2 h).1 rfl
 |dict _=>exact k 11 (and2 h).1 rfl
 |idx _ _=>exact Zah h λa ø ø=>k 12 a rfl
 |sl _ _ _ _=>exact Zaz h λa ø ø ø ø ø=>k 12 a rfl
 |call _ _ _=>exact Zaz h λa ø ø ø ø ø=>k 14 a rfl
 |sortedRev _ _ _=>exact Zaz h λa ø ø ø ø ø=>k 14 a rfl
 |sortedU _ _ _ _ _=>exact Zah h λa ø ø=>k 14 a rfl
 |meth _ _ _ _=>exact Zaz h λa ø ø ø ø ø=>k 14 a rfl
 |comp _ _ _ _ _=>exact k 15 (and2 h).1 rfl
structure SU where
 tag:Nat
 a:Expr
 b:Expr
 l:List Expr
 o:Operator
 o0:Option Expr
 o1:Option Expr
 b0:List Stmt
 b1:List Stmt
 b2:List Stmt
 hs:List ExceptHandler
 p:Pos
noncomputable def e0:Expr:=.Name Str.empty ⟨0,0,0,0⟩
def S0(p:Pos):SU:=⟨0,e0,e0,[],.Add,none,none,[],[],[],[],p⟩
def su(s:Stmt):SU:=match s with
 |.Expr a p=>{ S0 p with tag:=1,a:=a }
 |.Pass p=>{ S0 p with tag:=2 }
 |.Assign l a p=>{ S0 p with tag:=3,l:=l,a:=a }
 |.Return o p=>{ S0 p with tag:=4,o0:=o }
 |.If a b0 b1 p=>{ S0 p with tag:=5,a:=a,b0:=b0,b1:=b1 }
 |.For a b b0 b1 p=>{ S0 p with tag:=6,a:=a,b:=b,b0:=b0,b1:=b1 }
 |.Raise o0 o1 p=>{ S0 p with tag:=7,o0:=o0,o1:=o1 }
 |.Try b0 hs b1 b2 p=>{ S0 p with tag:=8,b0:=b0,hs:=hs,b1:=b1,b2:=b2 }
 |.AugAssign a o b p=>{ S0 p with tag:=9,a:=a,o:=o,b:=b }
 |.While a b0 b1 p=>{ S0 p with tag:=10,a:=a,b0:=b0,b1:=b1 }
 |_=>S0 ⟨0,0,0,0⟩
noncomputable def sbacks(t:SU):List Stmt:=[.Pass t.p,.Expr t.a t.p,.Pass t.p,.Assign t.l t.a t.p,.Return t.o0 t.p,.If t.a t.b0 t.b1 t.p,.For t.a t.b t.b0 t.b1 t.p,.Raise t.o0 t.o1 t.p,.Try t.b0 t.hs t.b1 t.b2 t.p,.AugAssign t.a t.o t.b t.p,.While t.a t.b0 t.b1 t.p]
def sback(t:SU)(n:Nat):Stmt:=(sbacks t)[n]?.getD (.Pass t.p)
theorem ZoZ(s:Stmt):ble 1 (su s).tag=true->s=sback (su s) (su s).tag:=by
 induction s using PySem.Stmt.casesOn <;> first |exact λø=>rfl |exact λh=>nomatch h
def sg(s:Stmt)(n:Nat):Bool:=beq (su s).tag n
theorem Zpt{s:Stmt}{n:Nat}(h:sg s n=true)(hn:ble 1 n=true):s=sback (su s) n:=by
 have h:=Bz h;rw[← h]at hn;exact(ZoZ s hn).trans (by rw[h])
noncomputable def xHd:ExceptHandler->Option Expr×Option Str×List Stmt×Pos |.ExceptHandler a b c p=>(a,b,c,p)
theorem Zm6(e:ExceptHandler):e=.ExceptHandler (xHd e).1 (xHd e).2.1 (xHd e).2.2.1 (xHd e).2.2.2:=by cases e;rfl
def chkNm(c:Ck)(sc:Sc)(i:Nat)(e:Expr):Bool:=tg e 2&&decide ((xu e).s=c.nm i)&&kStore sc (xu e).s
def chkPT1(c:Ck)(sc:Sc):PT->Expr->Bool
 |.loc i,e=>chkNm c sc i e
 |.attr o n,e=>tg e 3&&decide ((xu e).s=c.nm n)&&chkE c sc o (xu e).a
 |.idx o i,e=>tg e 12&&chkE c sc o (xu e).a&&chkE c sc i (xu e).b
 |.tup is,e=>tg e 10&&ble 2 is.length&&tgts c.nm sc is (xu e).l&&sc.hd
def tupOk:PT->Expr->Bool
 |.tup _,x=>!tg x 10&&ble (xu x).tag 14
 |_,_=>true
def asOk(c:Ck)(sc:Sc):Option Nat->Option Str->Bool
 |none,o=>x0 o
 |some n,o=>on o λx=>decide (x=c.nm n)&&kLocal sc x
mutual
noncomputable def chkS(c:Ck)(sc:Sc):PS->Stmt->Bool
 |.expr e,s=>sg s 1&&chkE c sc e (su s).a&&tg (su s).a 14
 |.pass,s=>sg s 2
 |.assign t e,s=>sg s 3&&on (one (su s).l) λy=>chkPT1 c sc t y&&chkE c sc e (su s).a&&tupOk t (su s).a
 |.augLoc i op e,s=>sg s 9&&chkNm c sc i (su s).a&&kLoc sc (xu (su s).a).s&&nDbg (xu (su s).a).s&&decide ((su s).o=opOf op)&&chkE c sc e (su s).b
 |.augAttr o n op e,s=>sg s 9&&tg (su s).a 3&&decide ((xu (su s).a).s=c.nm n)&&decide ((su s).o=opOf op)&&chkE c sc o (xu (su s).a).a&&chkE c sc e (su s).b
 |.ret e,s=>sg s 4&&chkO c sc e (su s).o0
 |.ite d a b,s=>sg s 5&&chkT c sc d (su s).a&&chkSs c sc a (su s).b0&&chkSs c sc b (su s).b1
 |.loop ts it body,s=>sg s 6&&(on (one ts) λj=>chkNm c sc j (su s).a)&&chkE c sc it (su s).b&&chkSs c sc body (su s).b0&&(su s).b1.isEmpty&&sc.hd
 |.loopEnum g i x it body,s=>sg s 6&&(tg (su s).a 10&&tgts c.nm sc [i,x] (xu (su s).a).l)&&chk1 c sc g (su s).b (λy=>chkE c sc it y)&&chkSs c sc body (su s).b0&&(su s).b1.isEmpty&&sc.hd
 |.while_ d body,s=>sg s 10&&chkT c sc d (su s).a&&chkSs c sc body (su s).b0&&(su s).b1.isEmpty
 |.raise i e,s=>sg s 7&&on (su s).o0 λx=>tg x 14&&tg (xu x).a 2&&on (one (xu x).l) λa=>chkG c sc i (xu (xu x).a).s&&chkE c sc e a&&(xu x).kw.isEmpty&&x0 (su s).o1&&sc.hd
 |.try_ body i as h,s=>sg s 8&&on (one (su s).hs) λg=>on (xHd g).1 λx=>tg x 2&&on (xHd g).2.2.1.head? λø=>chkG c sc i (xu x).s&&chkSs c sc body (su s).b0&&chkSs c ⟨sc.sc,false⟩ h (xHd g).2.2.1&&asOk c sc as (xHd g).2.1&&((su s).b1.isEmpty&&(su s).b2.isEmpty)&&sc.hd
noncomputable def chkSs(c:Ck)(sc:Sc):PSs->List Stmt->Bool
 |.nil,l=>l.isEmpty
 |.cons s r,l=>on l.head? λx=>chkS c sc s x&&chkSs c sc r l.tail
end
end
section
open PySem PySem.W PySem.Calls PyProof.Rows
structure AOk(A:Around)(n:Nat):Prop where
 depth:A.depth+4 * n+4<recursionLimit
 units:A.units+20 * n+100<cLine
noncomputable def Cx.ck(X:Cx):Ck:=⟨X.nm,X.qg,X.P.nAppend⟩
structure FnAt(X:Cx)(q:Bool)(fn:Fn)(a:Addr)(o:Obj)(fd:FuncData)(body:List Stmt):Prop where
 at_:X.hb.get? a=some o
 data:o.data=.func fd
 code:X.hb.CodeRec fd.code fd.qualname
 body_:fd.body=.stmts body
 bind:∀vs:List Value,vs.length=fn.params.length->bindArgs fd ⟨vs,[]⟩=pure ((fn.params.map X.nm).zip vs)
 clo:fd.closure=[]
 co:fd.scope.isCoroutine=false
 gen:fd.scope.isGenerator=false
 kind:fd.scope.kind=.function
 glob:fd.globals=mainGlobals
 bi:fd.builtins=builtinsNs
 par:∀i∈fn.params,kStore ⟨fd.scope,true⟩ (X.nm i)=true
 free:∀x∈fd.scope.names,x.2≠.free
 chk:chkSs X.ck ⟨fd.scope,true⟩ fn.body body=true
 chkq:q=true->chkSs X.ck ⟨fd.scope,false⟩ fn.body body=true
inductive FnIn(X:Cx)(q:Bool)(fn:Fn)(a:Addr):Prop
 |mk (o:Obj) (fd:FuncData) (body:List Stmt) (h:FnAt X q fn a o fd body)
inductive FnOb(X:Cx)(a:Addr):Prop
 |mk (o:Obj) (fd:FuncData) (h:X.hb.get? a=some o) (hd:o.data=.func fd)
noncomputable abbrev excB:List Value:=[.type "ValueError",.type "Exception",.type "BaseException",.type "object"]
inductive ExAt(X:Cx)(j:Nat)(c:Addr):Prop
 |mk (bm:List Value) (N:Addr) (nm:_) (q:_) (bs:_) (hdct:_) (sn:_) (sub:_) (ab:_) (col:_) (dd:_) (k0 k1 k2 k3 k5:_) (mN:Str->Option Value) (h1:X.hb.get? c=some (excClassObj nm q c N bs bm hdct sn sub ab col dd k0 k1 k2 k3 k5 "ValueError.__new__")) (h2:X.hb.Ns N mN) (h3:mN "__init__"=none) (h4:OwnTail X.hb excB bm)
  (h5:∀k ck,X.clA k=some ck->(Value.ref c::bm).contains (.ref ck)=X.P.sub j k)
inductive GlAt(X:Cx)(i:Nat)(v:V):Prop
 |main (cv:Value) (mg:Str->Option Value) (ng:X.hb.Ns mainGlobals mg) (h:mg (X.nm i)=some cv) (r:∀W,VR X W cv v)
 |bi (cv:Value) (mg mb:Str->Option Value) (ng:X.hb.Ns mainGlobals mg) (nb:X.hb.Ns builtinsNs mb) (h:mg (X.nm i)=none) (hb:mb (X.nm i)=some cv) (r:∀W,VR X W cv v)
inductive Qt(X:Cx):V->Prop
 |fn {k:Nat} (h:X.quiet k=true):Qt X (.fn k)
 |len:Qt X (.bt .len)
 |isi:Qt X (.bt .isinstance)
structure CxOk(X:Cx):Prop where
 inj:∀i j,X.nm i=X.nm j->i=j
 dot:∀i,X.nm i≠(".0":Str)
 noLim:X.hb.NoLimit
 glob:∀i v,X.P.glob i=some v->GlAt X i v
 nAppend:X.nm X.P.nAppend=Str.ofString "append"
 nPop:X.nm X.P.nPop=Str.ofString "pop"
 nExtend:X.nm X.P.nExtend=Str.ofString "extend"
 nGet:X.nm X.P.nGet=Str.ofString "get"
 nSetdefault:X.nm X.P.nSetdefault=Str.ofString "setdefault"
 fnAt:∀k a,X.fnA k=some a->FnOb X a
 fn:∀k a d,X.fnA k=some a->X.P.fn k=some d->FnIn X (X.quiet k) d a
 qg:∀i v,X.qg i=true->X.P.glob i=some v->Qt X v
 exc:∀k c,X.clA k=some c->X.P.exc k=true->ExAt X k c
 apC:∀k cl,X.P.cls k=some cl->lk cl.meths X.P.nAppend=none
 isi:∃K,IsiK X K
 main:∃o,X.hb.get? mainGlobals=some o
inductive COk(X:Cx)(W:Wd)(H:Hp)(s:Shared)(Q:V->Hp->Prop)(v:Value)(s':Shared):Prop
 |mk (W':Wd) (H':Hp) (av:V) (t:Tc X W H s W' H' s') (r:VR X W' v av) (h:Q av H')
inductive CEr(X:Cx)(W:Wd)(H:Hp)(s:Shared)(E:Yh)(e:Value)(s':Shared):Prop
 |mk (W':Wd) (H':Hp) (i:Nat) (l:Addr×Addr) (k:Nat) (t:Tc X W H s W' H' s') (he:e=.ref l.1) (hl:W'.φ i=some l) (hk:H'.get i=some (.exc k)) (hf:Fly W' H' s.heap s'.heap l.1) (h:E i H')
def CPost(X:Cx)(W:Wd)(H:Hp)(s:Shared)(Q:V->Hp->Prop)(E:Yh)(r:Result)(s':Shared):Prop:=match r with
 |.ok (.ret v)=>COk X W H s Q v s'
 |.ok _=>False
 |.error e=>CEr X W H s E e s'
def FrsAt(A:Around)(W:Wd)(H:Hp)(h:Heap):Prop:=∃l,A.frames=some l/\∀e∈l,FrAt W H h e
def CallM(X:Cx)(n:Nat):Prop:=∀(A:Around)(k:Nat)(a:Addr)(as:List V)(vs:List Value)(W:Wd)(H:Hp)(s:Shared)(Q:V->Hp->Prop)(E:Yh),
 AOk A n->(A.handled=none\/X.quiet k=true)->FrsAt A W H s.heap->RelH X W H s.heap->VRs X W vs as->X.fnA k=some a->CW X.P n k as H Q E->codeAny (model X.prog X.w) A (.call (.ref a) ⟨vs,[]⟩) (CPost X W H s Q E) s
inductive FnIs(X:Cx)(K:Frag)(c:Addr)(x:Str)(f:Nat):Prop
 |mk (a:Addr) (ha:X.fnA f=some a) (hf:findIn K (.ref c) x=some (some<|.ref a)) (ht:typeIn K (.ref a)=some (.type "function"))
structure ClAt(X:Cx)(K:Frag)(c:Addr)(cl:Cl):Prop where
 mks:makesIn K c=true
 ga:findIn K (.ref c) "__getattribute__"=some (some<|.builtin "object.__getattribute__")
 gh:findIn K (.ref c) "__getattr__"=some none
 sa:findIn K (.ref c) "__setattr__"=some (some<|.builtin "object.__setattr__")
 po:plainOver K c=true
 hd:hasDictIn K c=true
 kp:keepIn K (.ref c)=true
 init:∀f,cl.init=some f->FnIs X K c "__init__" f
 meth:∀n f,lk cl.meths n=some f->FnIs X K c (X.nm n) f
 attr:∀n,n∈cl.attrs->findIn K (.ref c) (X.nm n)=some none
 dis:∀n f,lk cl.meths n=some f->n∉cl.attrs
structure ClsOk(X:Cx)(K:Frag):Prop where
 inn:K.In X.hb
 cls:∀k c cl,X.clA k=some c->X.P.cls k=some cl->ClAt X K c cl
inductive Bad(y:Cx×Frag×Nat):Prop
 |mk (ok:CxOk y.1) (cl:ClsOk y.1 y.2.1) (ih:CallM y.1 y.2.2) (h:¬ CallM y.1 (y.2.2+1))
theorem Znp:Nonempty (Cx×Frag×Nat):=⟨⟨default,⟨λø ø=>0,⟨λø=>0,λø=>0,λt=>t,λø=>0,λø ø=>0,λø=>false,λø=>0,.refcount,.text,λø=>0,λø=>none,λø=>false,λø ø ø=>true,λø ø ø=>true,true,λø=>false,λø=>none,λø=>none,λø ø ø=>0,λø ø=>none,λø=>none,λø=>(0,false,Str.empty),λø=>none,λd=>d,λø=>false⟩⟩,⟨λø=>none,λø=>none,λø=>none,λø ø=>false,λø=>false,0,0,0,0,0⟩,λø=>Str.empty,λø=>none,λø=>none,default,λø=>false,λø=>false⟩,[],0⟩
noncomputable def XKN:Cx×Frag×Nat:=@Classical.epsilon _ Znp Bad
noncomputable def X:Cx:=XKN.1
noncomputable def Kf:Frag:=XKN.2.1
noncomputable def n:Nat:=XKN.2.2
end
abbrev Yv:=PySem.Value->PySem.Shared->Prop
noncomputable abbrev Yw{α:Type}:=PySem.wpAny (α:=α)<|PySem.model X.prog X.w
variable {c':C}{W W' W'':Wd}{xs ys:List V}{kvs:List (V×V)}{fs:List (Nat×V)}{H' H'' H₀:Hp}{loc:Loc}{σ σ' σ'':St}{js:List Nat}
section
open PySem PySem.Calls PyProof.Rows
variable {a:Addr}{b o:Obj}{c:C}{l:Addr×Addr}{s s' s'':Shared}{m:Str->Option Value}{x:V}{v cv:Value}{h h':Heap}{vs:List Value}{es:List (Int×Value)}{Pv Pv':Addr->Prop}{env:Env}{E:EP}
def VRi(X:Cx)(W:Wd)(v:Value):V->Prop
 |.none=>v=.none
 |.bool b=>v=.bool b
 |.int i=>∃t,v=.int i t
 |.str s=>∃t,v=.str s t/\PyData.strOk s=true/\s.length<=SZ
 |.tup xs=>∃a vs n,v=.ref a/\W.Z a=some (tupO vs n)/\VRs X W vs.toList xs/\xs.length<=SZ
 |.lst xs=>∃a vs n,v=.ref a/\W.Z a=some (lstO vs n)/\VRs X W vs.toList xs/\xs.length<=SZ
 |.rng a b c=>∃r t u w,v=.ref r/\W.Z r=some { cls:=.type "range",dict:=none,data:=.fields #[.int a t,.int b u,.int c w],slots:=#[] }/\a.natAbs<=SZ/\b.natAbs<=SZ/\(c=1\/c= -1)
 |.ref i=>∃l,v=.ref l.1/\W.φ i=some l
 |.bt b=>v=bval b
 |.fn k=>∃a,v=.ref a/\X.fnA k=some a
 |.cls k=>∃a,v=.ref a/\X.clA k=some a
theorem VR.inv(r:VR X W v x):VRi X W v x:=by
 cases r with
 |none=>rfl
 |bool=>rfl
 |int i t=>exact⟨t,rfl⟩
 |str s t a b=>exact⟨t,rfl,a,b⟩
 |tup a b c=>exact⟨_,_,_,rfl,a,b,c⟩
 |lst a b c=>exact⟨_,_,_,rfl,a,b,c⟩
 |rng a b c d=>exact⟨_,_,_,_,rfl,a,b,c,d⟩
 |ref e=>exact⟨_,rfl,e⟩
 |bt=>rfl
 |fn e=>exact⟨_,rfl,e⟩
 |cls e=>exact⟨_,rfl,e⟩
theorem Wd.Le.refl(W:Wd):Wd.Le W W:=⟨λø ø e=>e,λø ø e=>e⟩
theorem Wd.Le.trans(a:Wd.Le W W')(b:Wd.Le W' W''):Wd.Le W W'':=⟨λø ø e=>b.zz _ _<|a.zz _ _ e,λø ø e=>b.ff _ _<|a.ff _ _ e⟩
theorem VR.le2(h:Wd.Le W W'):(∀{v:Value}{x:V},VR X W v x->VR X W' v x)/\∀{vs:List Value}{xs:List V},VRs X W vs xs->VRs X W' vs xs:=by
 constructor
 ·intro v x r;exact VR.rec (motive_1:=λv x ø=>VR X W' v x) (motive_2:=λvs xs ø=>VRs X W' vs xs) .none .bool .int .str (λz ø q ih=>.tup (h.zz _ _ z) ih q) (λz ø q ih=>.lst (h.zz _ _ z) ih q) (λz p q r=>.rng (h.zz _ _ z) p q r) (λe=>.ref<|h.ff _ _ e) .bt .fn .cls .nil (λø ø a b=>.cons a b) r
 ·intro v x r;exact VRs.rec (motive_1:=λv x ø=>VR X W' v x) (motive_2:=λvs xs ø=>VRs X W' vs xs) .none .bool .int .str (λz ø q ih=>.tup (h.zz _ _ z) ih q) (λz ø q ih=>.lst (h.zz _ _ z) ih q) (λz p q r=>.rng (h.zz _ _ z) p q r) (λe=>.ref<|h.ff _ _ e) .bt .fn .cls .nil (λø ø a b=>.cons a b) r
theorem VR.le(h:Wd.Le W W')(r:VR X W v x):VR X W' v x:=(VR.le2 h).1 r
theorem VRs.le(h:Wd.Le W W')(r:VRs X W vs xs):VRs X W' vs xs:=(VR.le2 h).2 r
theorem VRs.ind{p:List Value->List V->Prop}(h0:p [] [])(h1:∀{v:Value}{vs:List Value}{x:V}{xs:List V},VR X W v x->VRs X W vs xs->p vs xs->p (v::vs) (x::xs))(r:VRs X W vs xs):p vs xs:=
 VRs.rec (motive_1:=λø ø ø=>True) (motive_2:=λvs xs ø=>p vs xs) trivial (λø=>trivial) (λø ø=>trivial) (λø ø ø ø=>trivial) (λø ø ø ø=>trivial) (λø ø ø ø=>trivial) (λø ø ø ø=>trivial) (λø=>trivial) (λø=>trivial) (λø=>trivial) (λø=>trivial) h0 (λa b ø ih=>h1 a b ih) r
theorem VRs.length(r:VRs X W vs xs):vs.length=xs.length:=VRs.ind (p:=λvs xs=>vs.length=xs.length) rfl (λø ø ih=>congrArg (·+1) ih) r
theorem VRs.append{ws:List Value}(r:VRs X W vs xs)(h:VRs X W ws ys):VRs X W (vs++ws) (xs++ys):=VRs.ind (p:=λvs xs=>VRs X W (vs++ws)<|xs++ys) h (λa ø ih=>.cons a ih) r
theorem VRs.get(r:VRs X W vs xs)(e:xs[k]?=some x):∃v,vs[k]?=some v/\VR X W v x:=
 VRs.ind (p:=λvs xs=>∀(k:Nat) x,xs[k]?=some x->∃v,vs[k]?=some v/\VR X W v x) (λø ø e=>(nomatch e)) (λ{v _ _ _} a _ ih k x e=>by
  induction k using Nat.casesOn with
  |zero=>exact⟨v,rfl,Sj e▸a⟩
  |succ k=>exact ih k x e) r k x e
theorem VRs.take(k:Nat)(r:VRs X W vs xs):VRs X W (vs.take k) (xs.take k):=
 VRs.ind (p:=λvs xs=>∀k:Nat,VRs X W (vs.take k)<|xs.take k) (λk=>by induction k using Nat.casesOn <;> exact .nil) (λa ø ih k=>by
  induction k using Nat.casesOn with
  |zero=>exact .nil
  |succ k=>exact .cons a<|ih k) r k
theorem VRs.drop(k:Nat)(r:VRs X W vs xs):VRs X W (vs.drop k) (xs.drop k):=
 VRs.ind (p:=λvs xs=>∀k:Nat,VRs X W (vs.drop k)<|xs.drop k) (λk=>by induction k using Nat.casesOn <;> exact .nil) (λa b ih k=>by
  induction k using Nat.casesOn with
  |zero=>exact .cons a b
  |succ k=>exact ih k) r k
theorem VRs.set(k:Nat)(r:VRs X W vs xs)(h:VR X W v x):VRs X W (vs.set k v) (xs.set k x):=
 VRs.ind (p:=λvs xs=>∀k:Nat,VRs X W (vs.set k v)<|xs.set k x) (λk=>.nil) (λa b ih k=>by
  induction k using Nat.casesOn with
  |zero=>exact .cons h b
  |succ k=>exact .cons a<|ih k) r k
theorem KVs.le(h:Wd.Le W W')(r:KVs X W es kvs):KVs X W' es kvs:=by
 induction r with
 |nil=>exact .nil
 |cons a _ ih=>exact .cons (a.le h) ih
theorem FVs.le(h:Wd.Le W W'){es:List DictEntry}(r:FVs X W es fs):FVs X W' es fs:=by
 induction r with
 |nil=>exact .nil
 |cons a _ ih=>exact .cons (a.le h) ih
theorem CellAt.keeps(hc:CellAt X W h l c)(hw:Wd.Le W W')
  (h1:∀o,h.get? l.1=some o->h'.get? l.1=some o) (h2:∀o,h.get? l.2=some o->h'.get? l.2=some o):CellAt X W' h' l c:=by
 induction c with
 |list xs=>obtain⟨vs,n,a,b,e,z⟩:=hc;exact⟨vs,n,h1 _ a,b.le hw,e,z⟩
 |dict kvs=>obtain⟨es,a,k,e,n,z⟩:=hc;exact⟨es,a.at h1,k.le hw,e,n,z⟩
 |inst k fs=>obtain⟨c,cl,es,n,a,a',b,d,f,ne,p,z⟩:=hc;exact⟨c,cl,es,n,a,a',h1 _ b,h2 _ d,f.le hw,ne,p,z⟩
 |exc k=>obtain⟨c,o,vs,a,a',b,d,f,e⟩:=hc;exact⟨c,o,vs,a,a',h1 _ b,d,f,e⟩
theorem CellAt.there(hc:CellAt X W h l c):(∃o,h.get? l.1=some o)/\∃o,h.get? l.2=some o:=by
 induction c with
 |list xs=>obtain⟨vs,n,a,b,e,_⟩:=hc;exact⟨⟨_,a⟩,by rw[e];exact⟨_,a⟩⟩
 |dict kvs=>obtain⟨es,⟨o,_,_,g,_⟩,k,e,_⟩:=hc;exact⟨⟨o,g⟩,by rw[e];exact⟨o,g⟩⟩
 |inst k fs=>obtain⟨c,cl,es,n,a,a',b,d,f,_⟩:=hc;exact⟨⟨_,b⟩,_,d⟩
 |exc k=>obtain⟨c,o,vs,a,a',b,d,f,e⟩:=hc;exact⟨⟨_,b⟩,by rw[e];exact⟨_,b⟩⟩
theorem RelH.own_there(R:RelH X W H h)(o:Own W H a):∃ob,h.get? a=some ob:=by
 obtain⟨i,c,l,hc,hl,ha⟩:=o;obtain⟨l',hl',hcell⟩:=R.cell i c hc;have:l'=l:=Sj<|hl'.symm.trans hl;subst this
 rcases ha with rfl |rfl
 ·exact hcell.there.1
 ·exact hcell.there.2
def NoNames(o:Obj):Prop:=∀es n,o.data≠.dict es n
theorem SameO.refl(o:Obj):SameO o o:=.inl rfl
theorem SameO.trans{a c:Obj}(x:SameO a b)(y:SameO b c):SameO a c:=by
 rcases x with rfl |⟨h,sl,rfl⟩
 ·exact y
 ·rcases y with rfl |⟨_,sl',rfl⟩
  ·exact .inr ⟨h,sl,rfl⟩
  ·exact .inr ⟨h,sl',rfl⟩
theorem SameO.eq{a:Obj}(x:SameO a b)(h:NoNames a):b=a:=x.elim id λq=>by
 obtain⟨⟨es,n,e⟩,_⟩:=q;exact absurd e<|h es n
theorem SameO.data{a:Obj}(x:SameO a b):b.data=a.data:=by rcases x with rfl |⟨_,_,rfl⟩ <;> rfl
theorem Stp.refl:Stp Pv W H h W H h:=
 ⟨.refl _,λø o e ø ø=>⟨o,e,.refl o⟩,λø ø ø n=>n,λø ø e=>.inl e,λø o e=>⟨o,e⟩⟩
theorem Stp.trans{h'':Heap}(a:Stp Pv W H h W' H' h')(b:Stp Pv W' H' h' W'' H'' h''):Stp Pv W H h W'' H'' h'' where
 le:=a.le.trans b.le
 keep:=λx o e n p=>by
  obtain⟨o1',e1',q1'⟩:=a.keep x o e n p;obtain⟨o2',e2',q2'⟩:=b.keep x o1' e1' (a.own x o e n) p;exact⟨o2',e2',q1'.trans q2'⟩
 own:=λx o e n=>let ⟨_,e'⟩:=a.there x o e;b.own x _ e' (a.own x o e n)
 znew:=λx o e=>by
  rcases b.znew x o e with q |q |q
  ·exact a.znew x o q
  ·by_cases ho:Own W H x
   ·exact .inr<|.inl ho
   ·induction hx:h.get? x with
    |none=>exact .inr<|.inr rfl
    |some o'=>exact absurd q<|a.own x o' hx ho
  ·induction hx:h.get? x with
   |none=>exact .inr<|.inr rfl
   |some o'=>obtain⟨_,e'⟩:=a.there x o' hx;rw[e']at q;exact noZ q
 there:=λx o e=>let ⟨_,e'⟩:=a.there x o e;b.there x _ e'
theorem Stp.mono(a:Stp Pv W H h W' H' h')(hp:∀x,Pv x->Pv' x):Stp Pv' W H h W' H' h':=
 ⟨a.le,λx o e n p=>a.keep x o e n λq=>p<|hp x q,a.own,a.znew,a.there⟩
theorem Stp.transFresh{h'':Heap}(a:Stp Pv W H h W' H' h')(b:Stp Pv' W' H' h' W'' H'' h'')(hf:∀x,Pv' x->h.get? x=none\/Pv x):Stp Pv W H h W'' H'' h'' where
 le:=a.le.trans b.le
 keep:=λx o e n p=>by
  obtain⟨o1',e1',q1'⟩:=a.keep x o e n p;obtain⟨o2',e2',q2'⟩:=b.keep x o1' e1' (a.own x o e n) λq=>(hf x q).elim (λz=>by rw[z]at e;exact noS e) p;exact⟨o2',e2',q1'.trans q2'⟩
 own:=λx o e n=>let ⟨_,e'⟩:=a.there x o e;b.own x _ e' (a.own x o e n)
 znew:=λx o e=>by
  rcases b.znew x o e with q |q |q
  ·exact a.znew x o q
  ·by_cases ho:Own W H x
   ·exact .inr<|.inl ho
   ·induction hx:h.get? x with
    |none=>exact .inr<|.inr rfl
    |some o'=>exact absurd q<|a.own x o' hx ho
  ·induction hx:h.get? x with
   |none=>exact .inr<|.inr rfl
   |some o'=>obtain⟨_,e'⟩:=a.there x o' hx;rw[e']at q;exact noZ q
 there:=λx o e=>let ⟨_,e'⟩:=a.there x o e;b.there x _ e'
theorem Stp.quiet(hk:∀a o,h.get? a=some o->¬ Pv a->h'.get? a=some o)(ht:∀a o,h.get? a=some o->∃o',h'.get? a=some o'):
  Stp Pv W H h W H h':=⟨.refl _,λx o e ø p=>⟨o,hk x o e p,.refl o⟩,λø ø ø n=>n,λø ø e=>.inl e,ht⟩
theorem RelH.quiet(R:RelH X W H h)(hk:∀a o,h.get? a=some o->¬ Pv a->h'.get? a=some o)(hp:∀a,Pv a->¬ Own W H a/\W.Z a=none):RelH X W H h' where
 z:=λa o e=>hk a o (R.z a o e) λp=>by rw[(hp a p).2]at e;exact noS e
 base:=R.base
 cell:=λi c e=>by
  obtain⟨l,hl,hc⟩:=R.cell i c e;exact⟨l,hl,hc.keeps (.refl _) (λo q=>hk _ o q λp=>(hp _ p).1 ⟨i,c,l,e,hl,.inl rfl⟩) λo q=>hk _ o q λp=>(hp _ p).1 ⟨i,c,l,e,hl,.inr rfl⟩⟩
 off:=R.off
 sep:=R.sep
 dom:=R.dom
noncomputable def Wd.addZ(W:Wd)(a:Addr)(o:Obj):Wd:=⟨λb=>if b=a then some o else W.Z b,W.φ⟩
noncomputable def Wd.addφ(W:Wd)(i:Nat)(l:Addr×Addr):Wd:=⟨W.Z,λj=>if j=i then some l else W.φ j⟩
theorem Own.addZ{b:Addr}:Own (W.addZ a o) H b↔Own W H b:=⟨λ⟨i,c,l,x,y,z⟩=>⟨i,c,l,x,y,z⟩,λ⟨i,c,l,x,y,z⟩=>⟨i,c,l,x,y,z⟩⟩
section
variable (R:RelH X W H h)
include R
theorem RelH.leZ(hn:h.get? a=none):Wd.Le W (W.addZ a o):=
 ⟨λb ob e=>(by
  show(if b=a then some o else W.Z b)=some ob;rw[if_neg]
  ·exact e
  ·rintro rfl;rw[R.z _ _ e]at hn;exact noZ hn),λø ø e=>e⟩
theorem RelH.frozen(hk:∀b ob,h.get? b=some ob->h'.get? b=some ob)(hn:h.get? a=none)(ha:h'.get? a=some o):
  RelH X (W.addZ a o) H h'/\Stp noPv W H h (W.addZ a o) H h':=by
 have L:Wd.Le W (W.addZ a o):=R.leZ hn;refine⟨⟨λb ob e=>?_,λb ob e=>L.zz _ _<|R.base b ob e,λi c e=>?_,λb hb=>?_,R.sep,R.dom⟩,⟨L,λx ob e ø ø=>⟨ob,hk x ob e,.refl ob⟩,λø ø ø n z=>n<|Own.addZ.mp z,λx ob e=>?_,λx ob e=>⟨ob,hk x ob e⟩⟩⟩
 ·have e':(if b=a then some o else W.Z b)=some ob:=e
  by_cases hb:b=a
  ·subst hb;rw[if_pos rfl]at e'; obtain rfl:=Sj e'; exact ha
  ·rw[if_neg hb]at e'; exact hk _ _<|R.z _ _ e'
 ·obtain⟨l,hl,hc⟩:=R.cell i c e;exact⟨l,hl,hc.keeps L (λo q=>hk _ _ q) λo q=>hk _ _ q⟩
 ·show(if b=a then some o else W.Z b)=none;have hb':Own W H b:=Own.addZ.mp hb;rw[if_neg]
  ·exact R.off b hb'
  ·rintro rfl
   obtain⟨_,q⟩:=R.own_there hb';rw[q]at hn;exact noZ hn
 ·have e':(if x=a then some o else W.Z x)=some ob:=e
  by_cases hb:x=a
  ·subst hb;exact .inr<|.inr hn
  ·rw[if_neg hb]at e'; exact .inl e'
theorem RelH.leF:Wd.Le W (W.addφ H.next l):=
 ⟨λø ø e=>e,λi k e=>by
  show(if i=H.next then some l else W.φ i)=some k;rw[if_neg]
  ·exact e
  ·rintro rfl;rw[(R.dom _<|Zr _).2]at e;exact noS e⟩
theorem RelH.own_new(ho:Own (W.addφ H.next l) (H.new c) a):Own W H a\/a=l.1\/a=l.2:=by
 obtain⟨i,ci,li,hi,hl,ha⟩:=ho;have hi':(if i=H.next then some c else H.get i)=some ci:=Hp.get_new.symm.trans hi;have hl':(if i=H.next then some l else W.φ i)=some li:=hl
 by_cases hn:i=H.next
 ·rw[if_pos hn]at hl'; obtain rfl:=Sj hl'; exact .inr ha
 ·rw[if_neg hn]at hi' hl'; exact .inl ⟨i,ci,li,hi',hl',ha⟩
theorem RelH.fresh(hk:∀b ob,h.get? b=some ob->h'.get? b=some ob)(h1:h.get? l.1=none)(h2:h.get? l.2=none)
  (hc:CellAt X (W.addφ H.next l) h' l c):RelH X (W.addφ H.next l) (H.new c) h'/\Stp noPv W H h (W.addφ H.next l) (H.new c) h':=by
 have L:Wd.Le W (W.addφ H.next l):=R.leF
 have nZ:∀b,h.get? b=none->W.Z b=none:=λb e=>by
  induction q:W.Z b with
  |none=>rfl
  |some o=>rw[R.z _ _ q]at e;exact noZ e
 have ne:∀i ci li,H.get i=some ci->W.φ i=some li->(li.1≠l.1/\li.1≠l.2/\li.2≠l.1/\li.2≠l.2):=λi ci li hi hl=>by
  obtain⟨o1,q1⟩:=R.own_there ⟨i,ci,li,hi,hl,.inl rfl⟩;obtain⟨o2,q2⟩:=R.own_there ⟨i,ci,li,hi,hl,.inr rfl⟩;refine⟨λe=>?_,λe=>?_,λe=>?_,λe=>?_⟩
  ·rw[e,h1]at q1;exact noS q1
  ·rw[e,h2]at q1;exact noS q1
  ·rw[e,h1]at q2;exact noS q2
  ·rw[e,h2]at q2;exact noS q2
 refine⟨⟨λb ob e=>hk _ _<|R.z b ob e,R.base,λi ci e=>?_,λb hb=>?_,λi j ci cj li lj hi hj hli hlj nij=>?_,λi hi=>?_⟩,⟨L,λx ob e ø ø=>⟨ob,hk x ob e,.refl ob⟩,λx ob e n o=>?_,λø ø e=>.inl e,λx ob e=>⟨ob,hk x ob e⟩⟩⟩
 ·have e':(if i=H.next then some c else H.get i)=some ci:=Hp.get_new.symm.trans e
  by_cases hn:i=H.next
  ·rw[if_pos hn]at e'; obtain rfl:=Sj e';exact⟨l,by show(if i=H.next then some l else W.φ i)=some l;rw[if_pos hn],hc⟩
  ·rw[if_neg hn]at e';obtain⟨k,hl,q⟩:=R.cell i ci e';exact⟨k,L.ff _ _ hl,q.keeps L (λo q=>hk _ _ q) λo q=>hk _ _ q⟩
 ·rcases R.own_new hb with q |rfl |rfl
  ·exact R.off b q
  ·exact nZ _ h1
  ·exact nZ _ h2
 ·have hi':(if i=H.next then some c else H.get i)=some ci:=Hp.get_new.symm.trans hi;have hj':(if j=H.next then some c else H.get j)=some cj:=Hp.get_new.symm.trans hj;have hli':(if i=H.next then some l else W.φ i)=some li:=hli;have hlj':(if j=H.next then some l else W.φ j)=some lj:=hlj
  by_cases hn:i=H.next
  ·have hm:¬ j=H.next:=λq=>nij<|hn.trans q.symm;rw[if_pos hn]at hli'; obtain rfl:=Sj hli';rw[if_neg hm]at hj' hlj';obtain⟨a,b,c,d⟩:=ne j cj lj hj' hlj';exact⟨a.symm,c.symm,b.symm,d.symm⟩
  ·rw[if_neg hn]at hi' hli'
   by_cases hm:j=H.next
   ·rw[if_pos hm]at hlj'; obtain rfl:=Sj hlj';obtain⟨a,b,c,d⟩:=ne i ci li hi' hli';exact⟨a,b,c,d⟩
   ·rw[if_neg hm]at hj' hlj';exact R.sep i j ci cj li lj hi' hj' hli' hlj' nij
 ·have hi2:H.next+1<=i:=Hp.next_new (H:=H) (c:=c)▸hi
  have:¬ i=H.next:=by exact λzz=>Nat.not_le_of_lt (la1 hi2)<|Nz zz
  constructor
  ·rw[Hp.get_new,if_neg this];exact(R.dom i<|by exact la8 hi2).1
  ·show(if i=H.next then some l else W.φ i)=none;rw[if_neg this];exact(R.dom i<|by exact la8 hi2).2
 ·rcases R.own_new o with q |rfl |rfl
  ·exact n q
  ·rw[h1]at e;exact noS e
  ·rw[h2]at e;exact noS e
theorem RelH.own_set(hi:H.get i=some c):Own W (H.set i c') a↔Own W H a:=by
 constructor
 ·rintro⟨j,cj,lj,hj,hl,ha⟩
  have hj':(if j=i then some c' else H.get j)=some cj:=(Hp.get_set hi).symm.trans hj
  by_cases hn:j=i
  ·exact⟨j,c,lj,hn▸hi,hl,ha⟩
  ·rw[if_neg hn]at hj'; exact⟨j,cj,lj,hj',hl,ha⟩
 ·rintro⟨j,cj,lj,hj,hl,ha⟩
  by_cases hn:j=i
  ·exact⟨j,c',lj,by rw[Hp.get_set hi,if_pos hn],hl,ha⟩
  ·exact⟨j,cj,lj,by rw[Hp.get_set hi,if_neg hn];exact hj,hl,ha⟩
theorem RelH.upd(hi:H.get i=some c)(hl:W.φ i=some l)(hk:∀b ob,h.get? b=some ob->b≠l.1->b≠l.2->h'.get? b=some ob)
  (hc:CellAt X W h' l c'):RelH X W (H.set i c') h'/\Stp noPv W H h W (H.set i c') h':=by
 have ow:∀b,b=l.1\/b=l.2->Own W H b:=λb e=>⟨i,c,l,hi,hl,e⟩
 have hk':∀b ob,h.get? b=some ob->¬ Own W H b->h'.get? b=some ob:=λb ob e n=>hk b ob e (λq=>n<|ow b<|.inl q) λq=>n<|ow b<|.inr q
 refine⟨⟨λb ob e=>hk' _ _ (R.z b ob e) λo=>?_,R.base,λj cj e=>?_,λb hb=>R.off b<|(R.own_set hi).mp hb,λj k cj ck lj lk hj hk2 hlj hlk nij=>?_,λj hj=>?_⟩,
  ⟨.refl _,λx ob e n ø=>⟨ob,hk' x ob e n,.refl ob⟩,λx ob ø n o=>n<|(R.own_set hi).mp o,λø ø e=>.inl e,λx ob e=>?_⟩⟩
 ·rw[R.off _ o]at e;exact noS e
 ·have e':(if j=i then some c' else H.get j)=some cj:=(Hp.get_set hi).symm.trans e
  by_cases hn:j=i
  ·rw[if_pos hn]at e'; obtain rfl:=Sj e'; subst hn;exact⟨l,hl,hc⟩
  ·rw[if_neg hn]at e';obtain⟨k,hlj,q⟩:=R.cell j cj e';obtain⟨a,b,c₁,d⟩:=R.sep j i cj c k l e' hi hlj hl hn;exact⟨k,hlj,q.keeps (.refl _) (λo q=>hk _ _ q a b) λo q=>hk _ _ q c₁ d⟩
 ·have g:∀j cj,(H.set i c').get j=some cj->∃c2',H.get j=some c2':=λj cj e=>by
   have e':(if j=i then some c' else H.get j)=some cj:=(Hp.get_set hi).symm.trans e
   by_cases hn:j=i
   ·exact⟨c,hn▸hi⟩
   ·rw[if_neg hn]at e'; exact⟨_,e'⟩
  obtain⟨_,a⟩:=g j cj hj;obtain⟨_,b⟩:=g k ck hk2;exact R.sep j k _ _ lj lk a b hlj hlk nij
 ·have hj':H.next<=j:=Hp.next_set (H:=H) (i:=i) (c:=c')▸hj
  have hn:¬ j=i:=by rintro rfl;rw[(R.dom j hj').1]at hi;exact noS hi
  refine⟨?_,(R.dom j hj').2⟩;rw[Hp.get_set hi,if_neg hn];exact(R.dom j hj').1
 ·by_cases h1:x=l.1
  ·subst h1;exact hc.there.1
  ·by_cases h2:x=l.2
   ·subst h2;exact hc.there.2
   ·exact⟨ob,hk x ob e h1 h2⟩
theorem RelH.freeze(hi:H.get i=some (.list xs))(hl:W.φ i=some l):
  ∃o,RelH X (W.addZ l.1 o) (H.del i) h/\Stp noPv W H h (W.addZ l.1 o) (H.del i) h/\VR X (W.addZ l.1 o) (.ref l.1) (.lst xs):=by
 obtain⟨l',hl',vs,n,hg,hv,he,hsz⟩:=R.cell i _ hi;have:l'=l:=Sj<|hl'.symm.trans hl;subst this
 have own_i:∀b,b=l'.1\/b=l'.2->Own W H b:=λb e=>⟨i,_,l',hi,hl,e⟩
 have L:Wd.Le W (W.addZ l'.1<|lstO vs n):=⟨λb ob e=>(by
  show(if b=l'.1 then some (lstO vs n) else W.Z b)=some ob;rw[if_neg]
  ·exact e
  ·rintro rfl;rw[R.off _<|own_i _<|.inl rfl]at e;exact noS e),λø ø e=>e⟩
 have od:∀b,Own (W.addZ l'.1<|lstO vs n) (H.del i) b->Own W H b/\b≠l'.1:=λb ⟨j,cj,lj,hj,hlj,ha⟩=>by
  have hj':(if j=i then none else H.get j)=some cj:=(Hp.get_del hi).symm.trans hj
  by_cases hn:j=i
  ·rw[if_pos hn]at hj'; exact noS hj'
  ·rw[if_neg hn]at hj';refine⟨⟨j,cj,lj,hj',hlj,ha⟩,?_⟩;obtain⟨a,b,c,d⟩:=R.sep j i cj _ lj l' hj' hi hlj hl hn
   rcases ha with rfl |rfl
   ·exact a
   ·exact c
 refine⟨lstO vs n,⟨λb ob e=>?_,λb ob e=>L.zz _ _<|R.base b ob e,λj cj e=>?_,λb hb=>?_,λj k cj ck lj lk hj hk hlj hlk nij=>?_,λj hj=>?_⟩,
  ⟨L,λx ob e ø ø=>⟨ob,e,.refl ob⟩,λx ob e no o=>no (od x o).1,λx ob e=>?_,λx ob e=>⟨ob,e⟩⟩,.lst (n:=n) ?_ (hv.le L) hsz⟩
 ·have e':(if b=l'.1 then some (lstO vs n) else W.Z b)=some ob:=e
  by_cases hb:b=l'.1
  ·rw[if_pos hb]at e'; obtain rfl:=Sj e'; rw[hb];exact hg
  ·rw[if_neg hb]at e'; exact R.z _ _ e'
 ·have e':(if j=i then none else H.get j)=some cj:=(Hp.get_del hi).symm.trans e
  by_cases hn:j=i
  ·rw[if_pos hn]at e'; exact noS e'
  ·rw[if_neg hn]at e';obtain⟨k,hlj,q⟩:=R.cell j cj e';exact⟨k,hlj,q.keeps L (λø q=>q) λø q=>q⟩
 ·obtain⟨a,b'⟩:=od b hb;show(if b=l'.1 then some (lstO vs n) else W.Z b)=none;rw[if_neg b'];exact R.off _ a
 ·have g:∀j cj,(H.del i).get j=some cj->H.get j=some cj:=λj cj e=>by
   have e':(if j=i then none else H.get j)=some cj:=(Hp.get_del hi).symm.trans e
   by_cases hn:j=i
   ·rw[if_pos hn]at e'; exact noS e'
   ·rw[if_neg hn]at e'; exact e'
  exact R.sep j k cj ck lj lk (g _ _ hj) (g _ _ hk) hlj hlk nij
 ·have hj':H.next<=j:=Hp.next_del (H:=H) (i:=i)▸hj;refine⟨?_,(R.dom j hj').2⟩;rw[Hp.get_del hi,(R.dom j hj').1];simp
 ·have e':(if x=l'.1 then some (lstO vs n) else W.Z x)=some ob:=e
  by_cases hb:x=l'.1
  ·exact .inr<|.inl<|own_i _<|.inl hb
  ·rw[if_neg hb]at e'; exact .inl e'
 ·show(if l'.1=l'.1 then some (lstO vs n) else W.Z l'.1)=_;rw[if_pos rfl]
end
theorem Rest.refl(s:Shared):Rest s s:=⟨rfl,rfl,rfl⟩
theorem Rest.trans{a b c:Shared}(x:Rest a b)(y:Rest b c):Rest a c:=⟨y.gens.trans x.gens,y.drawn.trans x.drawn,y.os.trans x.os⟩
theorem Rest.mk'{t:Nat}:Rest s { s with heap:=h,toks:=t }:=⟨rfl,rfl,rfl⟩
theorem Ze3(hn:h.Ns a m)(hk:∀o,h.get? a=some o->∃o',h'.get? a=some o'/\SameO o o'):h'.Ns a m:=by
 obtain⟨o,es,ep,ho,hd,r⟩:=hn;obtain⟨o',ho',q⟩:=hk o ho;exact⟨o',es,ep,ho',q.data.trans hd,r⟩
theorem Zcd{v:Option Value}(hn:h.IsCell a v)(hk:∀o,h.get? a=some o->∃o',h'.get? a=some o'/\SameO o o'):h'.IsCell a v:=by
 obtain⟨o,ho,hd⟩:=hn;obtain⟨o',ho',q⟩:=hk o ho;exact⟨o',ho',q.data.trans hd⟩
structure Pr where
 pv:Addr->Prop
 st:List Env
theorem FrAt.keep(F:FrAt W H h env)(k:∀L o es n,env.frame=some L->h.get? L=some o->o.data=.dict es n->¬ Own W H L->W.Z L=none->(∃o' es' n',h'.get? L=some o'/\o'.data=.dict es' n')/\¬ Own W' H' L/\W'.Z L=none):FrAt W' H' h' env:=by
 obtain⟨kd,L,o,es,n,a,b,c,d,e⟩:=F;obtain⟨⟨o',es',n',b',c'⟩,d',e'⟩:=k L o es n a b c d e;exact⟨kd,L,o',es',n',a,b',c',d',e'⟩
inductive MmR(X:Cx)(W:Wd)(m:Str->Option Value)(i:Nat)(v:V):Prop
 |mk (cv:Value) (e:m (X.nm i)=some cv) (r:VR X W cv v)
inductive NsR(X:Cx)(W:Wd)(h:Heap)(env:Env)(loc:Loc):Prop
 |mk (m:Str->Option Value) (hn:h.Ns env.locals m) (hv:∀i v,loc i=some v->env.kindOf (X.nm i)=some .local->MmR X W m i v)
inductive ClR(X:Cx)(W:Wd)(h:Heap)(env:Env)(i:Nat)(v:V):Prop
 |mk (c:Addr) (cv:Value) (e:env.cells.lookup (X.nm i)=some c) (hc:h.IsCell c (some cv)) (r:VR X W cv v)
structure FrR(X:Cx)(W:Wd)(H:Hp)(h:Heap)(env:Env)(Pv:Pr)(loc:Loc):Prop where
 ns:NsR X W h env loc
 cells:∀i v,loc i=some v->(env.kindOf (X.nm i)=some .cell\/env.kindOf (X.nm i)=some .free)->ClR X W h env i v
 hasCell:∀x,env.func≠none->env.kindOf x=some .cell->∃c v,env.cells.lookup x=some c/\h.IsCell c v/\Pv.pv c
 cellEq:∀x y c,env.cells.lookup x=some c->env.cells.lookup y=some c->x=y
 cellNs:∀x c,env.cells.lookup x=some c->c≠env.locals/\¬ Own W H c/\∃o,h.get? c=some o
 pvL:Pv.pv env.locals
 priv:∀a,Pv.pv a->¬ Own W H a/\W.Z a=none
 pvAt:∀a,Pv.pv a->∃o,h.get? a=some o
 frs:∀e∈Pv.st,FrAt W H h e
 frc:∀x c,env.cells.lookup x=some c->∀e∈Pv.st,e.frame≠some c
theorem FrR.step{Pv:Pr}(F:FrR X W H h env Pv loc)(S:Stp Pv' W H h W' H' h')(hp:∀a,Pv' a->h.get? a=none):FrR X W' H' h' env Pv loc:=by
 have kp:∀a,Pv.pv a->∀o,h.get? a=some o->∃o',h'.get? a=some o'/\SameO o o':=λa p o e=>S.keep a o e (F.priv a p).1 λq=>by rw[hp a q]at e;exact noS e
 have kc:∀x c,env.cells.lookup x=some c->∀o,h.get? c=some o->∃o',h'.get? c=some o'/\SameO o o':=λx c q o e=>S.keep c o e (F.cellNs x c q).2.1 λq=>by rw[hp c q]at e;exact noS e
 refine⟨?_,λi v e k=>?_,λx ef e=>?_,F.cellEq,λx c e=>?_,F.pvL,λa p=>?_,λa p=>?_,λe he=>(F.frs e he).keep λL o es n a b c d f=>?_,F.frc⟩
 ·obtain⟨m,hn,hv⟩:=F.ns;exact⟨m,Ze3 hn<|kp _ F.pvL,λi v e k=>let ⟨cv,q,r⟩:=hv i v e k;⟨cv,q,r.le S.le⟩⟩
 ·obtain⟨c,cv,q,r,t⟩:=F.cells i v e k;exact⟨c,cv,q,Zcd r<|kc _ _ q,t.le S.le⟩
 ·obtain⟨c,v,q,r,t⟩:=F.hasCell x ef e;exact⟨c,v,q,Zcd r<|kc _ _ q,t⟩
 ·obtain⟨a,b,ob,q⟩:=F.cellNs x c e;exact⟨a,S.own c ob q b,S.there c ob q⟩
 ·obtain⟨o,e⟩:=F.pvAt a p;refine⟨S.own a o e (F.priv a p).1,?_⟩
  induction hq:W'.Z a with
  |none=>rfl
  |some ob=>
   rcases S.znew a ob hq with q |q |q
   ·rw[(F.priv a p).2]at q;exact noS q
   ·exact absurd q (F.priv a p).1
   ·rw[e]at q;exact noZ q
 ·obtain⟨o,e⟩:=F.pvAt a p;exact S.there a o e
 ·obtain⟨o',e',q⟩:=S.keep L o b d λq=>by rw[hp L q]at b;exact noS b
  refine⟨⟨o',es,n,e',q.data.trans c⟩,S.own L o b d,?_⟩
  induction hq:W'.Z L with
  |none=>rfl
  |some ob=>
   rcases S.znew L ob hq with q |q |q
   ·rw[f]at q;exact noS q
   ·exact absurd q d
   ·rw[b]at q;exact noZ q
theorem FrR.storeL{Pv:Pr}{v:V}(F:FrR X W H h env Pv loc)(hn:h.Ns env.locals m)
  (hm:∀j v,loc j=some v->env.kindOf (X.nm j)=some .local->MmR X W m j v) (hinj:∀j,X.nm j=X.nm i->j=i)
  (hk:env.kindOf (X.nm i)=some .local) (hv:VR X W cv v) (hn':h'.Ns env.locals (λx=>if x=X.nm i then some cv else m x)) (hs:Heap.SameBut env.locals h h'):FrR X W H h' env Pv (upd loc i v):=by
 refine⟨⟨_,hn',λj u e k=>?_⟩,λj u e k=>?_,λx ef e=>?_,F.cellEq,λx c e=>?_,F.pvL,F.priv,λa p=>?_,λe he=>(F.frs e he).keep λL o es n a b c d f=>⟨?_,d,f⟩,F.frc⟩
 ·have e':(if j=i then some v else loc j)=some u:=e
  by_cases hj:j=i
  ·rw[if_pos hj]at e'; obtain rfl:=Sj e'; exact⟨cv,by rw[hj,if_pos rfl],hv⟩
  ·rw[if_neg hj]at e';obtain⟨cu,q,r⟩:=hm j u e' k;exact⟨cu,by rw[if_neg λz=>hj<|hinj j z];exact q,r⟩
 ·have e':(if j=i then some v else loc j)=some u:=e
  by_cases hj:j=i
  ·subst hj;rw[hk]at k;rcases k with k |k <;> cases k
  ·rw[if_neg hj]at e';obtain⟨c,cu,q,r,t⟩:=F.cells j u e' k;exact⟨c,cu,q,r.sameBut hs (F.cellNs _ _ q).1,t⟩
 ·obtain⟨c,u,q,r,t⟩:=F.hasCell x ef e;exact⟨c,u,q,r.sameBut hs (F.cellNs _ _ q).1,t⟩
 ·obtain⟨a,b,o,q⟩:=F.cellNs x c e;exact⟨a,b,o,(hs.2 c a).trans q⟩
 ·by_cases ha:a=env.locals
  ·subst ha;obtain⟨o,_,_,ho,_⟩:=hn'; exact⟨o,ho⟩
  ·obtain⟨o,q⟩:=F.pvAt a p;exact⟨o,(hs.2 a ha).trans q⟩
 ·by_cases ha:L=env.locals
  ·subst ha;obtain⟨o',es',n',ho',hd',_⟩:=hn'; exact⟨o',es',n',ho',hd'⟩
  ·exact⟨o,es,n,(hs.2 L ha).trans b,c⟩
theorem FrR.storeC{Pv:Pr}{v:V}{c:Addr}(F:FrR X W H h env Pv loc)(hinj:∀j,X.nm j=X.nm i->j=i)
  (hk:env.kindOf (X.nm i)=some .cell) (hc:env.cells.lookup (X.nm i)=some c) (hv:VR X W cv v) (hn':h'.IsCell c (some cv)) (hs:Heap.SameBut c h h'):FrR X W H h' env Pv (upd loc i v):=by
 obtain⟨m,hn,hm⟩:=F.ns;have ne:=(F.cellNs _ _ hc).1;refine⟨⟨m,hn.sameBut hs<|Ne.symm ne,λj u e k=>?_⟩,λj u e k=>?_,λx ef e=>?_,F.cellEq,λx d e=>?_,F.pvL,F.priv,λa p=>?_,λe he=>(F.frs e he).keep λL o es n a b q d f=>⟨⟨o,es,n,(hs.2 L λz=>F.frc _ c hc e he<|z▸a).trans b,q⟩,d,f⟩,F.frc⟩
 ·have e':(if j=i then some v else loc j)=some u:=e
  by_cases hj:j=i
  ·subst hj;rw[hk]at k;cases k
  ·rw[if_neg hj]at e'; exact hm j u e' k
 ·have e':(if j=i then some v else loc j)=some u:=e
  by_cases hj:j=i
  ·rw[if_pos hj]at e'; obtain rfl:=Sj e'; exact⟨c,cv,hj▸hc,hn',hv⟩
  ·rw[if_neg hj]at e';obtain⟨d,cu,q,r,t⟩:=F.cells j u e' k;exact⟨d,cu,q,r.sameBut hs λz=>hj<|hinj j<|F.cellEq _ _ d q<|z▸hc,t⟩
 ·obtain⟨d,u,q,r,t⟩:=F.hasCell x ef e
  by_cases hd:d=c
  ·subst hd;exact⟨d,_,q,hn',t⟩
  ·exact⟨d,u,q,r.sameBut hs hd,t⟩
 ·obtain⟨a,b,o,q⟩:=F.cellNs x d e;refine⟨a,b,?_⟩
  by_cases hd:d=c
  ·subst hd;obtain⟨o',ho',_⟩:=hn'; exact⟨o',ho'⟩
  ·exact⟨o,(hs.2 d hd).trans q⟩
 ·by_cases ha:a=c
  ·subst ha;obtain⟨o',ho',_⟩:=hn'; exact⟨o',ho'⟩
  ·obtain⟨o,q⟩:=F.pvAt a p;exact⟨o,(hs.2 a ha).trans q⟩
theorem Fly.back{h₀ h1':Heap}{e:Addr}(f:Fly W H h1' h e)(t:∀a o,h₀.get? a=some o->∃o',h1'.get? a=some o'):Fly W H h₀ h e:=by
 obtain⟨oe,vs,a0,x1,x2,x3,x4⟩:=f;refine⟨oe,vs,a0,x1,x2,x3,x4.imp id λy=>?_⟩;obtain⟨T,oT,ts,y1,y2,y3,y4,y5,y6,y7⟩:=y;refine⟨T,oT,ts,y1,y2,y3,y4,y5,?_,y7⟩
 induction q:h₀.get? T with
 |none=>rfl
 |some o=>obtain⟨o',e'⟩:=t T o q;rw[y6]at e'; exact noS e'
structure At(X:Cx)(env:Env)(Pv:Pr)(W:Wd)(σ:St)(s:Shared):Prop where
 rel:RelH X W σ.H s.heap
 fr:FrR X W σ.H s.heap env Pv σ.loc
structure Tf(X:Cx)(env:Env)(Pv:Pr)(W:Wd)(σ:St)(s:Shared)(W':Wd)(σ':St)(s':Shared):Prop where
 stp:Stp Pv.pv W σ.H s.heap W' σ'.H s'.heap
 at_:At X env Pv W' σ' s'
 rest:Rest s s'
theorem Tf.refl{Pv:Pr}(a:At X env Pv W σ s):Tf X env Pv W σ s W σ s:=⟨.refl,a,.refl _⟩
theorem Tf.trans{Pv:Pr}(a:Tf X env Pv W σ s W' σ' s')(b:Tf X env Pv W' σ' s' W'' σ'' s''):Tf X env Pv W σ s W'' σ'' s'':=
 ⟨a.stp.trans b.stp,b.at_,a.rest.trans b.rest⟩
theorem Tc.refl(a:RelH X W H s.heap):Tc X W H s W H s:=⟨.refl,a,.refl _⟩
theorem Tc.trans(a:Tc X W H s W' H' s')(b:Tc X W' H' s' W'' H'' s''):Tc X W H s W'' H'' s'':=
 ⟨a.stp.trans b.stp,b.rel,a.rest.trans b.rest⟩
theorem Tc.tf{Pv:Pr}(a:At X env Pv W σ s)(t:Tc X W σ.H s W' H' s'):Tf X env Pv W σ s W' ⟨H',σ.loc⟩ s':=
 ⟨t.stp.mono λø z=>z.elim,⟨t.rel,a.fr.step t.stp λø z=>z.elim⟩,t.rest⟩
inductive EXi(X:Cx)(env:Env)(Pv:Pr)(W:Wd)(σ:St)(s:Shared)(E:EP)(e:Value)(s':Shared):Prop
 |mk (W':Wd) (σ':St) (i:Nat) (l:Addr×Addr) (k:Nat) (t:Tf X env Pv W σ s W' σ' s') (he:e=.ref l.1) (hl:W'.φ i=some l) (hk:σ'.H.get i=some (.exc k)) (hf:Fly W' σ'.H s.heap s'.heap l.1) (h:E i σ')
def EX(X:Cx)(env:Env)(Pv:Pr)(W:Wd)(σ:St)(s:Shared)(E:EP)(e:Value)(s':Shared):Prop:=
 EXi X env Pv W σ s E e s'
theorem EX.back{Pv:Pr}{e:Value}(t:Tf X env Pv W σ s W' σ' s')(x:EX X env Pv W' σ' s' E e s''):EX X env Pv W σ s E e s'':=by
 obtain⟨W2,σ2,i,l,k,a,b,c,d,f,g⟩:=x;exact⟨W2,σ2,i,l,k,t.trans a,b,c,d,f.back t.stp.there,g⟩
theorem EX.no{Pv:Pr}{e:Value}(x:EX X env Pv W σ s noE e s'):False:=by
 obtain⟨W2,σ2,i,l,k,a,b,c,d,f,g⟩:=x;exact g
inductive Go{α:Type}(X:Cx)(env:Env)(Pv:Pr)(W:Wd)(σ:St)(s:Shared)(R:α->Wd->St->Shared->Prop)(a:α)(s':Shared):Prop
 |mk (W':Wd) (σ':St) (t:Tf X env Pv W σ s W' σ' s') (r:R a W' σ' s')
inductive VQ(X:Cx)(Q:Yq)(v:Value)(W':Wd)(σ':St)(s':Shared):Prop
 |mk (av:V) (r:VR X W' v av) (h:Q av σ')
def Ew{α:Type}(X:Cx)(A:Around)(env:Env)(Pv:Pr)(t:Sem α)(W:Wd)(σ:St)(s:Shared)(R:α->Wd->St->Shared->Prop)(E:EP):Prop:=
 Yw A t (Go X env Pv W σ s R) (EX X env Pv W σ s E) s
section
variable {α β:Type}{A:Around}{Pv:Pr}
theorem Ew.from{t:Sem α}{R:α->Wd->St->Shared->Prop}(T:Tf X env Pv W σ s W' σ' s')(h:Ew X A env Pv t W' σ' s' R E):
  Yw A t (Go X env Pv W σ s R) (EX X env Pv W σ s E) s':=
 Ym h (λ_ _ ⟨W2,σ2,a,b⟩=>⟨W2,σ2,T.trans a,b⟩) λø ø x=>x.back T
theorem Ew.pure{a:α}{R:α->Wd->St->Shared->Prop}(at_:At X env Pv W σ s)(h:R a W σ s):Ew X A env Pv (pure a) W σ s R E:=Yp ⟨W,σ,.refl at_,h⟩
theorem Ew.mono{t:Sem α}{R R':α->Wd->St->Shared->Prop}(h:Ew X A env Pv t W σ s R E)(hr:∀a W' σ' s',At X env Pv W' σ' s'->R a W' σ' s'->R' a W' σ' s'):Ew X A env Pv t W σ s R' E:=
 Ym h (λ_ _ ⟨W',σ',T,r⟩=>⟨W',σ',T,hr _ _ _ _ T.at_ r⟩) λø ø x=>x
theorem Ew.bindT{m:Sem α}{f:α->Sem β}{R:β->Wd->St->Shared->Prop}(h:Ew X A env Pv m W σ s (λa W1 σ1 s1'=>At X env Pv W1 σ1 s1'->Wd.Le W W1->Ew X A env Pv (f a) W1 σ1 s1' R E) E):Ew X A env Pv (m >>= f) W σ s R E:=
 Yb (Ym h (λ_ _ ⟨_,_,T,h'⟩=>Ew.from T<|h' T.at_ T.stp.le) λø ø x=>x)
theorem Ew.holding{m:Sem α}{R:α->Wd->St->Shared->Prop}(h:Ew X A env Pv m W σ s R E):Ew X A env Pv (holding vs m) W σ s R E:=wpAny_holding h
theorem Ew.standAt{pos:Pos}{f:Unit->Sem β}{R:β->Wd->St->Shared->Prop}(h:Ew X A env Pv (f ()) W σ s R E):Ew X A env Pv (standAt pos >>= f) W σ s R E:=Yb<|wpAny_standAt h
theorem Ew.operate{m:Sem Value}{R:Value->Wd->St->Shared->Prop}(h:Ew X A env Pv m W σ s R E):Ew X A env Pv (operate vs m) W σ s R E:=by
 intro Γ p hΓ;rw[Sem.wp_operate];exact h Γ p hΓ
theorem Tc.frozen{tk:Nat}(r:RelH X W H s.heap)(hk:∀b ob,s.heap.get? b=some ob->h'.get? b=some ob)(hn:s.heap.get? a=none)(ha:h'.get? a=some o):
  Tc X W H s (W.addZ a o) H { s with heap:=h',toks:=tk }:=let ⟨x,y⟩:=r.frozen hk hn ha;⟨y,x,⟨rfl,rfl,rfl⟩⟩
theorem Zae(h:Heap):h.get? h.objs.size=none:=by
 induction q:h.get? h.objs.size with
 |none=>rfl
 |some o=>exact absurd (Heap.lt_size q)<|Nat.lt_irrefl _
theorem ZaP:(W.addZ a o).Z a=some o:=by show(if a=a then some o else W.Z a)=some o;rw[if_pos rfl]
theorem Zbe:(W.addφ i l).φ i=some l:=by show(if i=i then some l else W.φ i)=some l;rw[if_pos rfl]
end
section
variable {n:Nat}
theorem Zbf:∀{js:List Nat}{j i:Nat},pos0 js j=some i->js[i]?=some j
 | [],j,i,h=>by exact noS h
 |a::r,j,i,h=>by
  have h:(if a=j then some 0 else (match pos0 r j with |some i=>some (i+1) |none=>none))=some i:=h
  by_cases e:a=j
  ·rw[if_pos e]at h;obtain rfl:=Sj h;rw[e];rfl
  ·rw[if_neg e]at h
   induction q:pos0 r j with
   |none=>rw[q]at h;exact noS h
   |some k=>rw[q]at h;obtain rfl:=Sj h;rw[List.getElem?_cons_succ];exact Zbf q
theorem ZeQ:∀{js:List Nat}{j:Nat},pos0 js j=none->j∉js
 | [],j,_=>λe=>by cases e
 |a::r,j,h=>λe=>by
  have h:(if a=j then some 0 else (match pos0 r j with |some i=>some (i+1) |none=>none))=none:=h
  by_cases q:a=j
  ·rw[if_pos q]at h;exact noZ h
  ·rw[if_neg q]at h
   rcases Mc e with z |z
   ·exact q z.symm
   ·induction p:pos0 r j with
    |none=>exact ZeQ p z
    |some k=>rw[p]at h;exact noZ h
inductive PosC(js:List Nat)(n j:Nat):Prop
 |out (lt:j<n) (no:j∉js) (e:pos js n j=none)
 |old (i:Nat) (lt:j<n) (h:js[i]?=some j) (q:pos0 js j=some i) (e:pos js n j=some i) (r:rho js n i=j)
 |new (i:Nat) (le:n<=j) (li:js.length<=i) (e:pos js n j=some i) (r:rho js n i=j)
theorem Zcg(h:js[i]?=some j):rho js n i=j:=by
 have li:i<js.length:=(List.getElem?_eq_some_iff.mp h).1;unfold rho;rw[if_pos li,h];rfl
theorem Zcj(h:js.length<=i):rho js n i=n+(i - js.length):=by
 unfold rho;rw[if_neg<|not_lt_of_le h]
theorem posC(js:List Nat)(n j:Nat):PosC js n j:=by
 by_cases le:n<=j
 ·have e:pos js n j=some (js.length+(j - n)):=by unfold pos;rw[if_pos le]
  refine .new _ le (Ar _ _) e ?_;rw[Zcj<|Ar _ _,Nat.add_sub_cancel_left,Nat.add_sub_cancel' le]
 ·have lt:=Nat.lt_of_not_le le
  have e:pos js n j=pos0 js j:=by unfold pos;rw[if_neg le]
  induction q:pos0 js j with
  |none=>exact .out lt (ZeQ q)<|e.trans q
  |some i=>exact .old i lt (Zbf q) q (e.trans q)<|Zcg<|Zbf q
theorem Zff(h:js.length<=i):pos js n (n+(i - js.length))=some i:=by
 unfold pos;rw[if_pos<|Ar _ _,Nat.add_sub_cancel_left,Nat.add_sub_cancel' h]
end
section
variable {ρ:Nat->Nat}
theorem ZaE:∀xs:List V,(renVs ρ xs).length=xs.length
 | []=>rfl
 |_::r=>congrArg (·+1)<|ZaE r
theorem VR.up(hz:∀a o,W.Z a=some o->NoNames o->W'.Z a=some o)(hf:∀i l,W.φ i=some l->W'.φ (ρ i)=some l):(∀{v:Value}{x:V},VR X W v x->VR X W' v (renV ρ x))/\∀{vs:List Value}{xs:List V},VRs X W vs xs->VRs X W' vs (renVs ρ xs):=by
 have sq:∀{c:Value}{vs:Array Value}{n:Nat},NoNames { cls:=c,data:=.seq vs n }:=λes m q=>by injection q
 constructor
 ·intro v x r;exact VR.rec (motive_1:=λv x ø=>VR X W' v<|renV ρ x) (motive_2:=λvs xs ø=>VRs X W' vs<|renVs ρ xs) .none .bool .int .str (λz ø q ih=>.tup (hz _ _ z sq) ih (by rw[ZaE];exact q)) (λz ø q ih=>.lst (hz _ _ z sq) ih (by rw[ZaE];exact q)) (λz p q r=>.rng (hz _ _ z λes m q=>by injection q) p q r) (λe=>.ref<|hf _ _ e) .bt .fn .cls .nil (λø ø a b=>.cons a b) r
 ·intro v x r;exact VRs.rec (motive_1:=λv x ø=>VR X W' v<|renV ρ x) (motive_2:=λvs xs ø=>VRs X W' vs<|renVs ρ xs) .none .bool .int .str (λz ø q ih=>.tup (hz _ _ z sq) ih (by rw[ZaE];exact q)) (λz ø q ih=>.lst (hz _ _ z sq) ih (by rw[ZaE];exact q)) (λz p q r=>.rng (hz _ _ z λes m q=>by injection q) p q r) (λe=>.ref<|hf _ _ e) .bt .fn .cls .nil (λø ø a b=>.cons a b) r
section
variable (hz:∀a o,W.Z a=some o->W'.Z a=some o)(hf:∀i,W'.φ i=W.φ (ρ i))
include hz hf
mutual
theorem Zfs:∀(x:V){v:Value},VR X W v (renV ρ x)->VR X W' v x
 |.none,v,r=>by obtain rfl:=(show v=.none from r.inv);exact .none
 |.bool b,v,r=>by obtain rfl:=(show v=.bool b from r.inv);exact .bool b
 |.int i,v,r=>by obtain⟨t,rfl⟩:∃t,v=.int i t:=r.inv;exact .int _ _
 |.str s,v,r=>by obtain⟨t,rfl,a,b⟩:∃t,v=.str s t/\_:=r.inv;exact .str _ _ a b
 |.tup xs,v,r=>by
  obtain⟨a,vs,n,rfl,z,q,l⟩:∃a vs n,v=.ref a/\_:=r.inv;exact .tup (hz _ _ z) (Zce xs q)<|ZaE (ρ:=ρ) xs▸l
 |.lst xs,v,r=>by
  obtain⟨a,vs,n,rfl,z,q,l⟩:∃a vs n,v=.ref a/\_:=r.inv;exact .lst (hz _ _ z) (Zce xs q)<|ZaE (ρ:=ρ) xs▸l
 |.rng a b c,v,r=>by obtain⟨r,t,u,w,rfl,z,p,q,s⟩:∃r t u w,v=.ref r/\_:=r.inv;exact .rng (hz _ _ z) p q s
 |.ref i,v,r=>by obtain⟨l,rfl,e⟩:∃l:Addr×Addr,v=.ref l.1/\_:=r.inv;exact .ref<|(hf i).trans e
 |.bt b,v,r=>by obtain rfl:=(show v=bval b from r.inv);exact .bt b
 |.fn k,v,r=>by obtain⟨a,rfl,e⟩:∃a,v=.ref a/\_:=r.inv;exact .fn e
 |.cls k,v,r=>by obtain⟨a,rfl,e⟩:∃a,v=.ref a/\_:=r.inv;exact .cls e
theorem Zce:∀(xs:List V){vs:List Value},VRs X W vs (renVs ρ xs)->VRs X W' vs xs
 | [],vs,r=>by cases r;exact .nil
 |x::t,vs,r=>by
  have r:VRs X W vs (renV ρ x::renVs ρ t):=r
  cases r with |cons a b=>exact .cons (Zfs x a)<|Zce t b
end
end
theorem KVs.up(u:∀{v:Value}{x:V},VR X W v x->VR X W' v (renV ρ x))(r:KVs X W es kvs):KVs X W' es (renK ρ kvs):=by
 induction r with
 |nil=>exact .nil
 |cons a _ ih=>exact .cons (u a) ih
theorem FVs.up(u:∀{v:Value}{x:V},VR X W v x->VR X W' v (renV ρ x)){es:List DictEntry}(r:FVs X W es fs):FVs X W' es (renF ρ fs):=by
 induction r with
 |nil=>exact .nil
 |cons a _ ih=>exact .cons (u a) ih
theorem ZfS(d:∀{v:Value}{x:V},VR X W v (renV ρ x)->VR X W' v x):∀{kvs:List (V×V)}{es:List (Int×Value)},KVs X W es (renK ρ kvs)->KVs X W' es kvs
 | [],es,r=>by cases r;exact .nil
 |(k,x)::t,es,r=>by
  have r:KVs X W es ((k,renV ρ x)::renK ρ t):=r
  cases r with |cons a b=>exact .cons (d a)<|ZfS d b
theorem ZfU(d:∀{v:Value}{x:V},VR X W v (renV ρ x)->VR X W' v x):∀{fs:List (Nat×V)}{es:List DictEntry},FVs X W es (renF ρ fs)->FVs X W' es fs
 | [],es,r=>by cases r;exact .nil
 |(k,x)::t,es,r=>by
  have r:FVs X W es ((k,renV ρ x)::renF ρ t):=r
  cases r with |cons a b=>exact .cons (d a)<|ZfU d b
theorem ZdZ:∀l:List (V×V),(renK ρ l).length=l.length
 | []=>rfl
 |_::r=>congrArg (·+1)<|ZdZ r
theorem Zeb:∀l:List (Nat×V),(renF ρ l).length=l.length
 | []=>rfl
 |_::r=>congrArg (·+1)<|Zeb r
theorem Zel{q:Nat->Prop}:∀l:List (Nat×V),(∀p∈renF ρ l,q p.1)↔∀p∈l,q p.1
 | []=>⟨λø p h=>(nomatch h),λø p h=>(nomatch h)⟩
 |a::r=>by
  show(∀p∈(a.1,renV ρ a.2)::renF ρ r,q p.1)↔_;rw[forall_mem_cons,forall_mem_cons,Zel r]
theorem ZlF(u:∀{v:Value}{x:V},VR X W v x->VR X W' v (renV ρ x))(us:∀{vs:List Value}{xs:List V},VRs X W vs xs->VRs X W' vs (renVs ρ xs))(hc:CellAt X W h l c):CellAt X W' h l (renC ρ c):=by
 induction c with
 |list xs=>obtain⟨vs,n,a,b,e,z⟩:=hc;exact⟨vs,n,a,us b,e,by rw[ZaE];exact z⟩
 |dict kvs=>obtain⟨es,a,k,e,n,z⟩:=hc;exact⟨es,a,k.up u,e,n,by rw[ZdZ];exact z⟩
 |inst k fs=>obtain⟨c,cl,es,n,a,a',b,d,f,ne,p,z⟩:=hc;exact⟨c,cl,es,n,a,a',b,d,f.up u,ne,(Zel (q:=(·∈cl.attrs)) fs).mpr p,by rw[Zeb];exact z⟩
 |exc k=>obtain⟨c,o,vs,a,a',b,d,f,e⟩:=hc;exact⟨c,o,vs,a,a',b,d,f,e⟩
theorem Zho(hz:∀a o,W.Z a=some o->W'.Z a=some o)(hf:∀i,W'.φ i=W.φ (ρ i))(hc:CellAt X W h l (renC ρ c)):CellAt X W' h l c:=by
 induction c with
 |list xs=>obtain⟨vs,n,a,b,e,z⟩:=(hc:LstCell X W h l (renVs ρ xs));exact⟨vs,n,a,Zce hz hf xs b,e,ZaE (ρ:=ρ) xs▸z⟩
 |dict kvs=>obtain⟨es,a,k,e,n,z⟩:=(hc:DicCell X W h l (renK ρ kvs));exact⟨es,a,ZfS (λ{v x} r=>Zfs hz hf x r) k,e,n,ZdZ (ρ:=ρ) kvs▸z⟩
 |inst k fs=>obtain⟨c,cl,es,n,a,a',b,d,f,ne,p,z⟩:=(hc:InsCell X W h l k (renF ρ fs));exact⟨c,cl,es,n,a,a',b,d,ZfU (λ{v x} r=>Zfs hz hf x r) f,ne,(Zel (q:=(·∈cl.attrs)) fs).mp p,Zeb (ρ:=ρ) fs▸z⟩
 |exc k=>exact hc
end
open Classical
section
inductive Out(W:Wd)(H H₀:Hp)(js:List Nat)(a:Addr):Prop
 |mk (j:Nat) (c:C) (l:Addr×Addr) (h:H.get j=some c) (p:W.φ j=some l) (e:a=l.1\/a=l.2) (n:∀i,pos0 js j=some i->H₀.get i=none)
def OutD(W:Wd)(H H₀:Hp)(js:List Nat)(h:Heap)(a:Addr):Prop:=Out W H H₀ js a/\∃o es n,h.get? a=some o/\o.data=.dict es n
theorem Out.own(o:Out W H H₀ js a):Own W H a:=by obtain⟨j,c,l,h,p,e,_⟩:=o;exact⟨j,c,l,h,p,e⟩
def Wd.part(W:Wd)(H H₀:Hp)(js:List Nat)(h:Heap):Wd:=⟨λa=>if OutD W H H₀ js h a then h.get? a else W.Z a,λi=>W.φ<|rho js H.next i⟩
variable (R:RelH X W H h)(e:Emb js H₀ H)
include R
theorem zPart(z:W.Z a=some o):(W.part H H₀ js h).Z a=some o:=by
 show(if OutD W H H₀ js h a then h.get? a else W.Z a)=some o;rw[if_neg λd=>by rw[R.off a d.1.own]at z;exact noS z];exact z
include e
theorem phiPart(g:H₀.get i=some c):∃j l,js[i]?=some j/\pos0 js j=some i/\H.get j=some (renC (rho js H.next) c)/\W.φ j=some l/\(W.part H H₀ js h).φ i=some l/\CellAt X W h l (renC (rho js H.next) c):=by
 obtain⟨j,x1,x2,x3⟩:=e.get i c g;obtain⟨l,hl,hc⟩:=R.cell j _ x3;exact⟨j,l,x1,x2,x3,hl,by show W.φ (rho js H.next i)=some l;rw[Zcg x1];exact hl,hc⟩
theorem ownPart(o:Own (W.part H H₀ js h) H₀ a):Own W H a/\¬ Out W H H₀ js a:=by
 obtain⟨i,c,l,g,p,ha⟩:=o;obtain⟨j,l',x1,x2,x3,x4,x5,_⟩:=phiPart R e g;have:l'=l:=Sj<|x5.symm.trans p;subst this;refine⟨⟨j,_,l',x3,x4,ha⟩,λ⟨k,c',m,y1,y2,y3,y4⟩=>?_⟩
 by_cases q:j=k
 ·subst q;rw[y4 i x2]at g;exact noS g
 ·obtain⟨a1,a2,a3,a4⟩:=R.sep j k _ _ l' m x3 y1 x4 y2 q
  rcases ha with rfl |rfl <;> rcases y3 with z |z <;> first |exact a1 z |exact a2 z |exact a3 z |exact a4 z
theorem relPart:RelH X (W.part H H₀ js h) H₀ h where
 z:=λa o q=>by
  have q:(if OutD W H H₀ js h a then h.get? a else W.Z a)=some o:=q
  by_cases d:OutD W H H₀ js h a
  ·rw[if_pos d]at q;exact q
  ·rw[if_neg d]at q;exact R.z _ _ q
 base:=λa o q=>zPart R<|R.base a o q
 cell:=λi c g=>by
  obtain⟨j,l,x1,x2,x3,x4,x5,x6⟩:=phiPart R e g;exact⟨l,x5,Zho (λa o z=>zPart R z) (λi=>rfl) x6⟩
 off:=λa o=>by
  obtain⟨o1,o2⟩:=ownPart R e o;show(if OutD W H H₀ js h a then h.get? a else W.Z a)=none;rw[if_neg λd=>o2 d.1];exact R.off a o1
 sep:=λi k ci ck li lk hi hk pi pk ne=>by
  obtain⟨j,l,x1,x2,x3,x4,x5,_⟩:=phiPart R e hi;obtain⟨j',l',y1,y2,y3,y4,y5,_⟩:=phiPart R e hk;have a1:l=li:=Sj<|x5.symm.trans pi;have a2:l'=lk:=Sj<|y5.symm.trans pk;subst a1 a2;exact R.sep j j' _ _ _ _ x3 y3 x4 y4 λz=>ne (by subst z;rw[x2]at y2;exact Sj y2)
 dom:=λi hi=>by
  rw[e.nx]at hi;refine⟨e.dom i hi,?_⟩;show W.φ (rho js H.next i)=none;rw[Zcj hi];exact(R.dom _<|Ar _ _).2
end
end
variable {H₁:Hp}
section
open PySem PySem.Calls PyProof.Rows
open Classical
variable {a:Addr}{c:C}
theorem ZgT{f:Nat->Option C}:∀{n k j:Nat},atC ((List.range' k n).map f) j=if j<n then f (k+j) else none
 |0,k,j=>by rw[if_neg<|not_lt_zero j];rfl
 |n+1,k,0=>by rw[if_pos<|Nat.succ_pos n];rfl
 |n+1,k,j+1=>by
  show atC ((List.range' (k+1) n).map f) j=_;rw[ZgT (n:=n) (k:=k+1) (j:=j),add_assoc,Nat.add_comm 1 j]
  by_cases q:j<n
  ·rw[if_pos q,if_pos<|Nat.succ_lt_succ q]
  ·rw[if_neg q,if_neg λz=>q<|Nat.lt_of_succ_lt_succ z]
theorem Zeq:(mrg js H₀ H H₁).get j=if j<H.next+(H₁.next - js.length) then mrgF js H₀ H H₁ j else none:=by
 show atC ((List.range _).map _) j=_;rw[List.range_eq_range',ZgT,zero_add]
theorem Zfv:(mrg js H₀ H H₁).next=H.next+(H₁.next - js.length):=by
 show((List.range _).map _).length=_;rw[Lm,length_range]
theorem Zjy(h:(mrg js H₀ H H₁).get j=some c):mrgF js H₀ H H₁ j=some c:=by
 rw[Zeq]at h
 by_cases q:j<H.next+(H₁.next - js.length)
 ·rw[if_pos q]at h;exact h
 ·rw[if_neg q]at h;exact noS h
def Wd.whole(W:Wd)(H H₀:Hp)(js:List Nat)(h:Heap)(W1:Wd):Wd:=⟨λa=>if OutD W H H₀ js h a then none else W1.Z a,λj=>match pos js H.next j with |some i=>W1.φ i |none=>W.φ j⟩
section
variable {W1:Wd}{s s':Shared}(R:RelH X W H s.heap)(e:Emb js H₀ H)(T:Tc X (W.part H H₀ js s.heap) H₀ s W1 H₁ s')
include R
theorem jsLt(g:H.get j=some c):j<H.next:=by
 by_cases q:j<H.next
 ·exact q
 ·rw[(R.dom j<|Nat.le_of_not_lt q).1]at g;exact noS g
include T
theorem zWhole{o:Obj}(z:W1.Z a=some o)(n:NoNames o):(W.whole H H₀ js s.heap W1).Z a=some o:=by
 show(if OutD W H H₀ js s.heap a then none else W1.Z a)=some o;rw[if_neg]
 ·exact z
 ·intro d;obtain⟨o',es,m,h1,h2⟩:=d.2
  have:(W.part H H₀ js s.heap).Z a=some o':=by show(if OutD W H H₀ js s.heap a then s.heap.get? a else W.Z a)=some o'; rw[if_pos d];exact h1
  rw[T.stp.le.zz _ _ this]at z;obtain rfl:=Eq.symm<|Sj z;exact n es m h2
include e
theorem phiW{l:Addr×Addr}(p:W1.φ i=some l):(W.whole H H₀ js s.heap W1).φ (rho js H.next i)=some l:=by
 show(match pos js H.next (rho js H.next i) with |some i=>W1.φ i |none=>W.φ<|rho js H.next i)=some l
 by_cases li:i<js.length
 ·have hj:js[i]?=some js[i]:=Lg li;have er:rho js H.next i=js[i]:=Zcg hj;obtain⟨c,hc⟩:=e.all _<|List.getElem_mem li;obtain⟨l0',hl,_⟩:=R.cell _ c hc;have key:∀k,js[k]?=some js[i]->W1.φ k=some l0':=λk hk=>T.stp.le.ff _ _ (by show W.φ (rho js H.next k)=some l0'; rw[Zcg hk];exact hl);have:l0'=l:=Sj<|(key i hj).symm.trans p;subst this;rw[er]
  induction posC js H.next js[i] with
  |out _ no _=>exact absurd (List.getElem_mem li) no
  |old k _ hk _ ek _=>rw[ek];exact key k hk
  |new k le _ _ _=>exact absurd (jsLt R hc)<|not_lt_of_le le
 ·have li:=Nat.le_of_not_lt li;rw[Zcj li,Zff li];exact p
theorem leWhole:Wd.Le W (W.whole H H₀ js s.heap W1) where
 zz:=λa o z=>by
  show(if OutD W H H₀ js s.heap a then none else W1.Z a)=some o;rw[if_neg λd=>by rw[R.off a d.1.own]at z;exact noS z];exact T.stp.le.zz _ _<|zPart R z
 ff:=λj l p=>by
  show(match pos js H.next j with |some i=>W1.φ i |none=>W.φ j)=some l
  induction posC js H.next j with
  |out _ _ ek=>rw[ek];exact p
  |old k _ hk _ ek r=>rw[ek];exact T.stp.le.ff _ _ (by show W.φ (rho js H.next k)=some l;rw[r];exact p)
  |new k le _ _ _=>rw[(R.dom j le).2]at p;exact noS p
inductive CellM(W W1:Wd)(H H₀ H₁:Hp)(js:List Nat)(h:Heap)(j:Nat)(c:C):Prop
 |a (g:H.get j=some c) (p:(W.whole H H₀ js h W1).φ j=W.φ j) (n:∀i,pos0 js j=some i->H₀.get i=none)
 |b (i:Nat) (c₁:C) (g:H₁.get i=some c₁) (ec:c=renC (rho js H.next) c₁) (p:(W.whole H H₀ js h W1).φ j=W1.φ i) (r:rho js H.next i=j)
theorem cellM(g:(mrg js H₀ H H₁).get j=some c):CellM W W1 H H₀ H₁ js s.heap j c:=by
 have g:(match pos js H.next j with |some i=>mrgC (rho js H.next) (H₀.get i) (H₁.get i) (H.get j) |none=>H.get j)=some c:=Zjy g
 have fp:∀o,pos js H.next j=o->(W.whole H H₀ js s.heap W1).φ j=(match o with |some i=>W1.φ i |none=>W.φ j):=λo q=>by subst q;rfl
 have both:∀i,pos js H.next j=some i->rho js H.next i=j->(H₁.get i=none->H₀.get i=none->CellM W W1 H H₀ H₁ js s.heap j c)->CellM W W1 H H₀ H₁ js s.heap j c:=λi ek r k=>by
  rw[ek]at g;have g:mrgC (rho js H.next) (H₀.get i) (H₁.get i) (H.get j)=some c:=g
  induction q:H₁.get i with
  |some c₁=>rw[q]at g;exact .b i c₁ q (Sj g).symm (fp _ ek) r
  |none=>
   rw[q]at g
   induction q0:H₀.get i with
   |some c0'=>rw[q0]at g;exact noS g
   |none=>exact k q q0
 induction posC js H.next j with
 |out _ no ek=>rw[ek]at g;exact .a g (fp _ ek) λi q=>absurd (List.mem_of_getElem?<|Zbf q) no
 |old i lt hi q0 ek r=>
  refine both i ek r λn1 n0=>?_
  have g':H.get j=some c:=by
   rw[ek]at g;have g:mrgC (rho js H.next) (H₀.get i) (H₁.get i) (H.get j)=some c:=g;rw[n1,n0]at g;exact g
  obtain⟨l,hl,_⟩:=R.cell j c g'
  refine .a g' ?_ λk q=>by rw[q0]at q;obtain rfl:=Sj q;exact n0
  rw[fp _ ek,hl];exact T.stp.le.ff _ _ (by show W.φ (rho js H.next i)=some l;rw[r];exact hl)
 |new i le li ek r=>
  refine both i ek r λn1 n0=>?_
  have g':H.get j=some c:=by
   rw[ek]at g;have g:mrgC (rho js H.next) (H₀.get i) (H₁.get i) (H.get j)=some c:=g;rw[n1,n0]at g;exact g
  exact absurd (jsLt R g')<|not_lt_of_le le
theorem ownW(o:Own (W.whole H H₀ js s.heap W1) (mrg js H₀ H H₁) a):Out W H H₀ js a\/Own W1 H₁ a:=by
 obtain⟨j,c,l,g,p,ha⟩:=o
 induction cellM R e T g with
 |a g' p' n=>exact .inl ⟨j,c,l,g',p'.symm.trans p,ha,n⟩
 |b i c₁ g' _ p' _=>exact .inr ⟨i,c₁,l,g',p'.symm.trans p,ha⟩
theorem outNo(o:Out W H H₀ js a):¬ Own W1 H₁ a:=by
 obtain⟨ob,ho⟩:=R.own_there o.own;exact T.stp.own a ob ho λz=>(ownPart R e z).2 o
theorem outKeep(o:Out W H H₀ js a){ob:Obj}(ho:s.heap.get? a=some ob):s'.heap.get? a=some ob:=by
 by_cases d:∃es n,ob.data=.dict es n
 ·obtain⟨es,n,hd⟩:=d
  have:(W.part H H₀ js s.heap).Z a=some ob:=by
   show(if OutD W H H₀ js s.heap a then s.heap.get? a else W.Z a)=some ob;rw[if_pos ⟨o,ob,es,n,ho,hd⟩];exact ho
  exact T.rel.z _ _<|T.stp.le.zz _ _ this
 ·obtain⟨o',h',q⟩:=T.stp.keep a ob ho (λz=>(ownPart R e z).2 o) λz=>z;rw[q.eq λes n z=>d ⟨es,n,z⟩]at h'; exact h'
theorem relWhole:RelH X (W.whole H H₀ js s.heap W1) (mrg js H₀ H H₁) s'.heap where
 z:=λa o q=>by
  have q:(if OutD W H H₀ js s.heap a then none else W1.Z a)=some o:=q
  by_cases d:OutD W H H₀ js s.heap a
  ·rw[if_pos d]at q;exact noS q
  ·rw[if_neg d]at q;exact T.rel.z _ _ q
 base:=λa o q=>(leWhole R e T).zz _ _<|R.base a o q
 cell:=λj c g=>by
  induction cellM R e T g with
  |a g' p' n=>
   obtain⟨l,hl,hc⟩:=R.cell j c g';exact⟨l,p'.trans hl,hc.keeps (leWhole R e T) (λo q=>outKeep R e T ⟨j,c,l,g',hl,.inl rfl,n⟩ q) λo q=>outKeep R e T ⟨j,c,l,g',hl,.inr rfl,n⟩ q⟩
  |b i c₁ g' ec p' _=>
   obtain⟨l,hl,hc⟩:=T.rel.cell i c₁ g';have u:=VR.up (W:=W1) (W':=W.whole H H₀ js s.heap W1) (ρ:=rho js H.next) (λa o z n=>zWhole R T z n) λi l p=>phiW R e T p;rw[ec];exact⟨l,p'.trans hl,ZlF u.1 u.2 hc⟩
 off:=λa o=>by
  show(if OutD W H H₀ js s.heap a then none else W1.Z a)=none
  by_cases d:OutD W H H₀ js s.heap a
  ·rw[if_pos d]
  ·rw[if_neg d]
   rcases ownW R e T o with q |q
   ·induction z:W1.Z a with
    |none=>rfl
    |some ob=>
     rcases T.stp.znew a ob z with y |y |y
     ·have y:(if OutD W H H₀ js s.heap a then s.heap.get? a else W.Z a)=some ob:=y;rw[if_neg d,R.off a q.own]at y;exact noS y
     ·exact absurd q (ownPart R e y).2
     ·obtain⟨_,w⟩:=R.own_there q.own;rw[y]at w;exact noS w
   ·exact T.rel.off a q
 sep:=λj k cj ck lj lk hj hk pj pk ne=>by
  have no:∀{x y:Addr},Out W H H₀ js x->Own W1 H₁ y->x≠y:=λo w z=>outNo R e T o<|z▸w
  induction cellM R e T hj with
  |a g p n=>
   induction cellM R e T hk with
   |a g' p' n'=>exact R.sep j k _ _ lj lk g g' (p.symm.trans pj) (p'.symm.trans pk) ne
   |b i c₁ g' _ p' _=>
    have w:∀x,x=lk.1\/x=lk.2->Own W1 H₁ x:=λx z=>⟨i,c₁,lk,g',p'.symm.trans pk,z⟩
    have v:∀x,x=lj.1\/x=lj.2->Out W H H₀ js x:=λx z=>⟨j,cj,lj,g,p.symm.trans pj,z,n⟩
    exact⟨no (v _<|.inl rfl)<|w _<|.inl rfl,no (v _<|.inl rfl)<|w _<|.inr rfl,no (v _<|.inr rfl)<|w _<|.inl rfl,no (v _<|.inr rfl)<|w _<|.inr rfl⟩
  |b i c₁ g _ p r=>
   have w:∀x,x=lj.1\/x=lj.2->Own W1 H₁ x:=λx z=>⟨i,c₁,lj,g,p.symm.trans pj,z⟩
   induction cellM R e T hk with
   |a g' p' n'=>
    have v:∀x,x=lk.1\/x=lk.2->Out W H H₀ js x:=λx z=>⟨k,ck,lk,g',p'.symm.trans pk,z,n'⟩
    exact⟨(no (v _<|.inl rfl)<|w _<|.inl rfl).symm,(no (v _<|.inr rfl)<|w _<|.inl rfl).symm,(no (v _<|.inl rfl)<|w _<|.inr rfl).symm,(no (v _<|.inr rfl)<|w _<|.inr rfl).symm⟩
   |b i' c1' g' _ p' r'=>exact T.rel.sep i i' _ _ lj lk g g' (p.symm.trans pj) (p'.symm.trans pk) λz=>ne<|by rw[← r,← r',z]
 dom:=λj hj=>by
  have hj:H.next+(H₁.next - js.length)<=j:=Zfv (js:=js) (H₀:=H₀) (H:=H) (H₁:=H₁)▸hj;have le:H.next<=j:=Nt (Ar _ _) hj
  have ek:pos js H.next j=some (js.length+(j - H.next)):=by unfold pos;rw[if_pos le]
  have hi:H₁.next<=js.length+(j - H.next):=Nat.sub_le_iff_le_add'.mp<|Nat.le_sub_of_add_le' hj
  constructor
  ·exact ZeC (show(mrg js H₀ H H₁).next<=j by rw[Zfv];exact hj)
  ·show(match pos js H.next j with |some i=>W1.φ i |none=>W.φ j)=none;rw[ek];exact(T.rel.dom _ hi).2
theorem tcWhole:Tc X W H s (W.whole H H₀ js s.heap W1) (mrg js H₀ H H₁) s' where
 stp:={
  le:=leWhole R e T
  keep:=λa o h n p=>T.stp.keep a o h (λz=>n (ownPart R e z).1) p
  own:=λa o h n z=>(ownW R e T z).elim (λq=>n q.own) λq=>T.stp.own a o h (λw=>n (ownPart R e w).1) q
  znew:=λa o z=>by
   have z:(if OutD W H H₀ js s.heap a then none else W1.Z a)=some o:=z
   by_cases d:OutD W H H₀ js s.heap a
   ·rw[if_pos d]at z;exact noS z
   ·rw[if_neg d]at z
    rcases T.stp.znew a o z with y |y |y
    ·have y:(if OutD W H H₀ js s.heap a then s.heap.get? a else W.Z a)=some o:=y;rw[if_neg d]at y;exact .inl y
    ·exact .inr<|.inl (ownPart R e y).1
    ·exact .inr<|.inr y
  there:=T.stp.there }
 rel:=relWhole R e T
 rest:=T.rest
theorem vrWhole{v:Value}{x:V}(r:VR X W1 v x):VR X (W.whole H H₀ js s.heap W1) v (renV (rho js H.next) x):=(VR.up (λa o z n=>zWhole R T z n) λi l p=>phiW R e T p).1 r
end
end
variable {y:V}{fz:Bool}{Q:Yv}
section
open PySem PySem.W PySem.Calls PyProof.Rows
variable {a v:Value}{s:Shared}{k:Bool->Prop}{x:V}{E:Yv}{A:Around}
theorem Zab{α:Type}{o:Option α}{k:α->Prop}(h:need o k)(g:∀a,o=some a->k a->G):G:=by
 induction o with
 |none=>exact h.elim
 |some a=>exact g a rfl h
theorem Zcy{α:Type}{o:Option α}{a:α}{k:α->Prop}(e:o=some a)(h:k a):need o k:=by subst e;exact h
theorem ZpY{t e:Prop}(h:Br b t e)(g1:b=true->t->G)(g2:b=false->e->G):G:=by
 induction b with
 |true=>exact g1 rfl h
 |false=>exact g2 rfl h
inductive Sn(X:Cx)(W:Wd)(h:Heap):Value->V->Prop
 |none:Sn X W h .none .none
 |bool (b:Bool):Sn X W h (.bool b) (.bool b)
 |int (i:Int) (t:Tok):Sn X W h (.int i t) (.int i)
 |str (s:Str) (t:Tok) (o:PyData.strOk s=true) (z:s.length<=SZ):Sn X W h (.str s t) (.str s)
 |tup {a:Addr} {vs:Array Value} {n:Nat} {xs:List V} (g:h.get? a=some (tupO vs n)) (r:VRs X W vs.toList xs) (q:xs.length<=SZ) (z:vs.size=xs.length):Sn X W h (.ref a) (.tup xs)
 |lst {a:Addr} {vs:Array Value} {n:Nat} {xs:List V} (g:h.get? a=some (lstO vs n)) (r:VRs X W vs.toList xs) (q:xs.length<=SZ) (z:vs.size=xs.length):Sn X W h (.ref a) (.lst xs)
 |rng {r:Addr} {a b c:Int} {t u v:Tok} (g:h.get? r=some { cls:=.type "range",dict:=none,data:=.fields #[.int a t,.int b u,.int c v],slots:=#[] }) (p:a.natAbs<=SZ) (q:b.natAbs<=SZ) (hc:c=1\/c= -1):Sn X W h (.ref r) (.rng a b c)
theorem VRs.toArr{vs:Array Value}(h:VRs X W vs.toList xs):vs.size=xs.length:=by rw[← h.length,Array.length_toList]
theorem RelH.at_{h:Heap}(R:RelH X W H h){c:C}{l:Addr×Addr}(hi:H.get i=some c)(hl:W.φ i=some l):CellAt X W h l c:=by
 obtain⟨l',hl',q⟩:=R.cell i c hi;exact Sj (hl'.symm.trans hl)▸q
theorem Zpg{o:Option (List V)}{v:V}(h:mL o=some v):∃a,o=some a/\v=.lst a:=by
 induction o with
 |none=>exact noS h
 |some a=>exact⟨a,rfl,(Sj h).symm⟩
theorem Zj8{o:Option C}(h:cL o=some xs):o=some (.list xs):=by
 induction o with
 |none=>exact noS h
 |some c=>
  induction c with
  |list ys=>exact congrArg (some ∘ C.list)<|Sj h
  |_=>exact noS h
theorem ZnV{o:Option C}{xs:List (V×V)}(h:cD o=some xs):o=some (.dict xs):=by
 induction o with
 |none=>exact noS h
 |some c=>
  induction c with
  |dict ys=>exact congrArg (some ∘ C.dict)<|Sj h
  |_=>exact noS h
theorem Zqj{o:Option C}{t:Nat×List (Nat×V)}(h:cI o=some t):o=some (.inst t.1 t.2):=by
 induction o with
 |none=>exact noS h
 |some c=>
  induction c with
  |inst k fs=>rw[← Sj h]
  |_=>exact noS h
theorem Zap{h:Heap}(R:RelH X W H h)(r:VR X W v x)(e:see H x=some y):Sn X W h v y:=by
 cases r with
 |none=>obtain rfl:=Sj e;exact .none
 |bool b=>obtain rfl:=Sj e;exact .bool b
 |int i t=>obtain rfl:=Sj e;exact .int i t
 |str s t o z=>obtain rfl:=Sj e;exact .str s t o z
 |tup z r q=>obtain rfl:=Sj e;exact .tup (R.z _ _ z) r q r.toArr
 |lst z r q=>obtain rfl:=Sj e;exact .lst (R.z _ _ z) r q r.toArr
 |rng z p q c=>obtain rfl:=Sj e;exact .rng (R.z _ _ z) p q c
 |ref hl=>
  obtain⟨xs,e',rfl⟩:=Zpg e;obtain⟨vs,n,g,r,_,z⟩:=R.at_ (Zj8 e') hl;exact .lst g r z r.toArr
 |_=>exact noS e
theorem vInt{v:V}{b:Int}(h:aInt v=some b):v=.int b:=by induction v using V.casesOn <;> first |(obtain rfl:=Eq.symm<|Sj h;rfl) |exact noS h
theorem ZbG{v:Value}{x:V}{i:Int}(r:VR X W v x)(e:aInt x=some i){G:Prop}(g:∀t,v=.int i t->G):G:=by
 obtain rfl:=vInt e;obtain⟨t,e⟩:∃t,v=.int i t:=r.inv;exact g t e
theorem vRef{v:V}{b:Nat}(h:aRef v=some b):v=.ref b:=by induction v using V.casesOn <;> first |(obtain rfl:=Eq.symm<|Sj h;rfl) |exact noS h
theorem ZfL{v:Value}{x:V}{i:Nat}(r:VR X W v x)(e:aRef x=some i){G:Prop}(g:∀l,v=.ref l.1->W.φ i=some l->x=.ref i->G):G:=by
 obtain rfl:=vRef e;obtain⟨l,e,hl⟩:∃l:Addr×Addr,v=.ref l.1/\_:=r.inv;exact g l e hl rfl
section
variable {h:Heap}
theorem Sn.toInt{x:V}{i:Int}(r:Sn X W h v x)(e:aInt x=some i):∃t,v=.int i t:=by
 cases r with
 |int i t=>exact⟨t,Sj e▸rfl⟩
 |_=>exact noS e
theorem Sn.toStr{x:V}{s:Str}(r:Sn X W h v x)(e:aStr x=some s):∃t,v=.str s t/\PyData.strOk s=true/\s.length<=SZ:=by
 cases r with
 |str s t o z=>obtain rfl:=Sj e;exact⟨t,rfl,o,z⟩
 |_=>exact noS e
theorem Sn.toBool{x:V}{b:Bool}(r:Sn X W h v x)(e:aBool x=some b):v=.bool b:=by
 cases r with
 |bool b=>obtain rfl:=Sj e;rfl
 |_=>exact noS e
inductive SqL(X:Cx)(W:Wd)(h:Heap)(v:Value)(xs:List V):Prop
 |mk (a:Addr) (vs:Array Value) (n:Nat) (e:v=.ref a) (g:h.get? a=some (lstO vs n)) (r:VRs X W vs.toList xs) (q:xs.length<=SZ) (z:vs.size=xs.length)
inductive SqT(X:Cx)(W:Wd)(h:Heap)(v:Value)(xs:List V):Prop
 |mk (a:Addr) (vs:Array Value) (n:Nat) (e:v=.ref a) (g:h.get? a=some (tupO vs n)) (r:VRs X W vs.toList xs) (q:xs.length<=SZ) (z:vs.size=xs.length)
theorem Sn.toLst{x:V}{xs:List V}(r:Sn X W h v x)(e:aLst x=some xs):SqL X W h v xs:=by
 cases r with
 |lst g r q z=>obtain rfl:=Eq.symm<|Sj e;exact⟨_,_,_,rfl,g,r,q,z⟩
 |_=>exact noS e
theorem Sn.toTup{x:V}{xs:List V}(r:Sn X W h v x)(e:aTup x=some xs):SqT X W h v xs:=by
 cases r with
 |tup g r q z=>obtain rfl:=Eq.symm<|Sj e;exact⟨_,_,_,rfl,g,r,q,z⟩
 |_=>exact noS e
end
theorem sz63{n:Nat}(h:n<=SZ):(n:Int)<2 ^ 63:=Int.lt_of_le_of_lt (Int.ofNat_le.mpr h)<|by decide
theorem szLine{n:Nat}(h:n<=SZ):n<=sizeLine:=Nt h<|by decide
theorem Zaq{h:Heap}{a:Addr}{vs:Array Value}{n:Nat}(e:h.get? a=some (lstO vs n)):h.IsList a vs:=⟨_,e,rfl,_,rfl⟩
theorem ZaV{h:Heap}{a:Addr}{vs:Array Value}{n:Nat}(e:h.get? a=some (tupO vs n)):IsTup h a vs:=⟨_,e,rfl,_,rfl⟩
def Res(X:Cx)(fz:Bool)(H:Hp)(r:LV)(v:Value)(W':Wd)(H':Hp):Prop:=match r with
 |.val x=>VR X W' v x/\H'=H
 |.newList xs=>match fz with
  |true=>VR X W' v (.lst xs)/\H'=H
  |false=>VR X W' v (.ref H.next)/\H'=H.new (.list xs)
structure OpQ(X:Cx)(fz:Bool)(W:Wd)(H:Hp)(s:Shared)(k:LV->Prop)(Q:Yv):Prop where
 out:∀r v' s' W' H',Tc X W H s W' H' s'->Res X fz H r v' W' H'->k r->Q v' s'
 sz:∀xs,k (.newList xs)->xs.length<=SZ
section
variable {k:LV->Prop}(o:OpQ X fz W H s k Q)(R:RelH X W H s.heap)
include o R
theorem OpQ.val{x:V}{v:Value}{tk:Nat}(hv:VR X W v x)(h:k (.val x)):Q v { s with toks:=tk }:=o.out (.val x) v _ W H ⟨.refl,R,⟨rfl,rfl,rfl⟩⟩ ⟨hv,rfl⟩ h
theorem OpQ.more{x:V}{v:Value}{h':Heap}{tk:Nat}(hk:∀b ob,s.heap.get? b=some ob->h'.get? b=some ob)(hv:VR X W v x)(h:k (.val x)):Q v { s with heap:=h',toks:=tk }:=
 o.out (.val x) v _ W H ⟨.quiet (λa o q ø=>hk a o q) λa o q=>⟨o,hk a o q⟩,R.quiet (Pv:=noPv) (λa o q ø=>hk a o q) λø z=>z.elim,⟨rfl,rfl,rfl⟩⟩ ⟨hv,rfl⟩ h
theorem OpQ.list{vs:Array Value}{n:Nat}{xs:List V}{h':Heap}{tk:Nat}{a:Addr}(hv:VRs X W vs.toList xs)(hk:∀b ob,s.heap.get? b=some ob->h'.get? b=some ob)(hn:s.heap.get? a=none)(ha:h'.get? a=some (lstO vs n))(h:k (.newList xs)):Q (.ref a) { s with heap:=h',toks:=tk }:=by
 have hz:=o.sz _ h
 induction fz with
 |true=>exact o.out (.newList xs) _ _ _ _ (Tc.frozen R hk hn ha) ⟨.lst ZaP (hv.le<|R.leZ hn) hz,rfl⟩ h
 |false=>
  obtain⟨r,t⟩:=R.fresh (l:=(a,a)) (c:=.list xs) hk hn hn ⟨vs,n,ha,hv.le R.leF,rfl,hz⟩;exact o.out (.newList xs) _ _ _ _ ⟨t,r,⟨rfl,rfl,rfl⟩⟩ ⟨VR.ref (l:=(a,a)) Zbe,rfl⟩ h
theorem OpQ.push{vs:Array Value}{n:Nat}{xs:List V}{tk:Nat}(hv:VRs X W vs.toList xs)(h:k (.newList xs)):Q (.ref s.heap.objs.size) { s with heap:=s.heap.push<|lstO vs n,toks:=tk }:=
 o.list R hv (λø ø e=>Heap.get?_push_of_some _ e) (Zae _) (Heap.get?_push_size _ rfl) h
theorem OpQ.fro{x:V}{ob:Obj}{h':Heap}{tk:Nat}{a:Addr}(hk:∀b ob,s.heap.get? b=some ob->h'.get? b=some ob)(hn:s.heap.get? a=none)(ha:h'.get? a=some ob)(hv:VR X (W.addZ a ob) (.ref a) x)(h:k (.val x)):Q (.ref a) { s with heap:=h',toks:=tk }:=
 o.out (.val x) _ _ _ _ (Tc.frozen R hk hn ha) ⟨hv,rfl⟩ h
end
theorem Zcw{a b:Str}(ha:PyData.strOk a=true)(hb:PyData.strOk b=true):PyData.strOk (a++b)=true:=by
 unfold PyData.strOk at *;rw[Array.all_eq_true]at *;rw[show(a++b).cps=a.cps++b.cps from rfl];intro i hi;rw[Array.getElem_append]
 split
 ·exact ha i _
 ·exact hb _ _
theorem Zcl(a b:Str):(a++b).length=a.length+b.length:=by
 show(a.cps++b.cps).size=_;rw[Array.size_append];rfl
theorem Zc8{vs:Array Value}{xs:List V}(z:vs.size=xs.length):vs.isEmpty=xs.isEmpty:=by
 show decide (vs.size=0)=_;rw[z]
 induction xs using List.casesOn <;> rfl
theorem ZdI{i:Int}:decide (i≠0)=(i != 0):=by
 by_cases h:i=0
 ·subst h;rfl
 ·rw[Dq h];exact(bne_iff_ne.mpr h).symm
theorem ZcJ{v:Value}{x y:V}{k:Bool->Prop}{Q:Bool->Shared->Prop}(R:RelH X W H s.heap)(hv:VR X W v x)(e:truK H x k)(h:∀b tk,k b->Q b { s with toks:=tk }):Yw A (truthy v) Q E s:=by
 refine Zab e λy ey e=>?_
 cases Zap R hv ey with
 |none=>exact truthy_none<|h _ s.toks e
 |bool c=>exact wpAny_truthy_bool<|h _ s.toks e
 |int i t=>exact truthy_int<|ZdI▸h _ s.toks e
 |str t u ok z=>
  refine P.truthy_str (Int.not_le.mpr<|sz63 z) ?_
  have:(decide<|t.length≠0)=(((t.length:Nat):Int) != 0):=by rw[← ZdI];exact decide_eq_decide.mpr ⟨λa z=>a<|lb5 z,λa z=>a<|congrArg Nat.cast z⟩
  exact this▸h _ (s.toks+1+1) e
 |tup g r q z=>
  refine truthy_tuple (ZaV g) (by rw[z];exact sz63 q) ?_;rw[Zc8 z];exact h _ _ e
 |lst g r q z=>
  refine wpAny_truthy_list (Zaq g) (by rw[z];exact sz63 q) ?_;rw[Zc8 z];exact h _ _ e
 |_=>exact e.elim
theorem nsome{α:Type}{a:α}{p:Prop}(h:(none:Option α)=some a):p:=by exact noS h
theorem Zk7(items:Array Value)(k:Nat):∀acc:Array Value,(List.foldl (λx1 x2=>x1++x2) acc<|replicate k items).toList=acc.toList++(replicate k items.toList).flatten:=by
 induction k with
 |zero=>intro acc;simp
 |succ k ih=>intro acc;rw[List.replicate_succ,List.foldl_cons,ih,List.replicate_succ,List.flatten_cons,Array.toList_append,List.append_assoc]
theorem VRs.rep{vs:List Value}{xs:List V}(h:VRs X W vs xs)(k:Nat):VRs X W (replicate k vs).flatten (repL xs k):=by
 induction k with
 |zero=>exact .nil
 |succ k ih=>rw[List.replicate_succ,List.flatten_cons];exact h.append ih
theorem Zme(k:Nat):repL [] k=[]:=by
 induction k with
 |zero=>rfl
 |succ k ih=>exact ih
theorem Zh9(x:Str)(k:Nat):∀acc:Array Nat,(replicate k x.cps).foldl (·++·) acc=acc++(repS x k).cps:=by
 induction k with
 |zero=>intro acc;show acc=acc++#[];rw[Array.append_empty]
 |succ k ih=>intro acc;rw[List.replicate_succ,List.foldl_cons,ih,Array.append_assoc];rfl
theorem Zje(x:Str)(k:Nat):(repS x k).length=x.length * k:=by
 induction k with
 |zero=>rfl
 |succ k ih=>rw[show repS x (k+1)=x++repS x k from rfl,Zcl,ih,Nat.mul_succ,Nat.add_comm]
theorem ZlP{x:Str}(h:PyData.strOk x=true)(k:Nat):PyData.strOk (repS x k)=true:=by
 induction k with
 |zero=>exact(by decide+kernel:PyData.strOk Str.empty=true)
 |succ k ih=>exact Zcw h ih
theorem Zem{a b:Str}(h:a.cps=b.cps):a=b:=by cases a;cases b;exact congrArg Str.mk h
theorem ZiJ{x:Str}(h:x.length=0)(k:Nat):repS x k=x:=by
 have e:x.cps=#[]:=Array.eq_empty_of_size_eq_zero h
 induction k with
 |zero=>exact(Zem e).symm
 |succ k ih=>
  show x++repS x k=x;rw[ih]
  apply Zem
  show x.cps++x.cps=x.cps;rw[e];rfl
theorem Zlw{x:Str}{n:Int}(h:0<=n):Txt.mul x n=repS x n.toNat:=by
 unfold Txt.mul
 by_cases h1:n<1
 ·rw[if_pos h1,show n.toNat=0 by exact Nat.le_antisymm (le_of_lt_succ<|la6<|⟨h,h1⟩)<|lc3 (lb5 rfl)<|Zz _];rfl
 ·rw[if_neg h1]
  by_cases h2:(n==1 ||x.length==0)=true
  ·rw[if_pos h2]
   rcases Bool.or_eq_true_iff.mp h2 with q |q
   ·rw[beq_iff_eq.mp q];exact(Zem (by show x.cps++#[]=x.cps;rw[Array.append_empty])).symm
   ·exact(ZiJ (beq_iff_eq.mp q) _).symm
  ·rw[if_neg h2];exact Zem<|(Zh9 x n.toNat #[]).trans<|Array.empty_append ..
theorem ZgV{i:Str}{t u:Tok}{n:Int}{fz:Bool}{k:LV->Prop}{Q:Yv}(o:OpQ X fz W H s k Q)(R:RelH X W H s.heap)(o1:PyData.strOk i=true)(e:Nd (0<=n/\n<=1048576/\i.length * n.toNat<=SZ) (k<|.val<|.str<|repS i n.toNat)):
  Yw A (binaryOp .Mult (.str i t)<|.int n u) Q E s:=by
 obtain⟨⟨h0,h1,h2⟩,e⟩:=e
 refine SB.mul ⟨by rw[Df<|Int.not_lt.mpr<|It (by decide) h0,Df<|Int.not_le.mpr<|Int.lt_of_le_of_lt h1<|by decide];rfl,λhn ø q=>?_,λø ø=>?_⟩ λt' k=>by
  rw[Zlw h0];exact o.val R (.str _ _ (ZlP o1 _) (by rw[Zje];exact h2)) e
 ·have hl:i.length<=SZ:=Nt (Nat.le_mul_of_pos_right _<|Int.lt_toNat.mpr<|Int.not_lt.mp hn) h2
  have:(2 ^ 63 - 1:Int) / 1048576<=(2 ^ 63 - 1) / n:=by
   rw[Int.le_ediv_iff_mul_le<|show(0:Int)<n from Int.not_lt.mp hn];exact It (Int.mul_le_mul_of_nonneg_left h1<|by decide)<|by decide
  have h3:(1048576:Int)<=(2 ^ 63 - 1) / 1048576:=by decide
  unfold SZ at hl;exact lb4 q<|It (ld2 hl)<|It h3 this
 ·unfold Builtin.Str.tooLong;exact Df<|Nat.not_lt.mpr<|szLine h2
section
variable {b:Value}{k:LV->Prop}(o:OpQ X fz W H s k Q)(R:RelH X W H s.heap)(ha:Sn X W s.heap a x)(hb:Sn X W s.heap b y)
include o R ha hb
theorem ZmQ(e:addK x y k):Yw A (binaryOp .Add a b) Q E s:=by
 cases ha with
 |int i t=>exact Zab e λj ej e=>(hb.toInt ej).elim λu q=>q▸add_int (o.val R (.int ..) e)
 |str i t o1 z1=>exact Zab e λj ej e=>(hb.toStr ej).elim λu q=>q.1▸PyProof.Rows.add_str (λt' tk=>o.val R (.str _ _ (Zcw o1 q.2.1) (by rw[Zcl];exact e.1)) e.2) (szLine e.1)
 |@lst l vs n xs g r q z=>
  refine Zab e λys ey e=>?_;obtain⟨l2,vs2,n2,rfl,g2,r2,q2,z2⟩:=hb.toLst ey
  have hz':vs.size+vs2.size<=sizeLine:=by rw[z,z2,← La];exact szLine<|o.sz _ e
  exact concat_meets ⟨_,g,rfl⟩ ⟨_,g2,rfl⟩ noFill_list_add seq_list_add PySem.F.slot_list_add PySem.F.entry_list_add (PySem.F.args_list_add_2 _ _) (list_addW l l2 vs vs2 n n2 none none #[] #[] hz') ⟨g,g2,o.push (vs:=vs++vs2) R (by rw[Array.toList_append];exact r.append r2) e⟩
 |_=>exact e.elim
theorem Zmz(e:mulK x y k):Yw A (binaryOp .Mult a b) Q E s:=by
 cases ha with
 |int i t=>exact Zab e λj ej e=>(hb.toInt ej).elim λu q=>q▸PyProof.Rows.mul_int (o.val R (.int ..) e.2) (e.1.elim (λh=>IntMulOk.of_left<|intBits_le_64 (by exact Int.lt_of_lt_of_le (Int.lt_add_one_of_le<|Int.le_refl _)<|lj8 (Ny h) rfl)<|by exact lj9 (Ny h) rfl) λh=>IntMulOk.of_right<|intBits_le_64 (by exact Int.lt_of_lt_of_le (Int.lt_add_one_of_le<|Int.le_refl _)<|lj8 (Ny h) rfl)<|by exact lj9 (Ny h) rfl)
 |@lst l vs n xs hl hv q z=>
  refine Zab e λi ei e=>(hb.toInt ei).elim λu eu=>?_;subst eu;obtain⟨⟨h0,h01,h1⟩,e⟩:=e
  have hs:vs.size * i.toNat<=1048576:=by rw[z];exact h1
  refine wpAny_binaryOp_repeat_ref (T:="list") (U:="int") (by decide) ⟨_,hl,rfl⟩ (λs'=>typeIs_int s' i u) noFill_list_mul PySem.F.fills_int_mul PySem.F.slot_int_rmul repeat_list PySem.F.slot_int_index.lookup
   (call_meets PySem.F.slot_int_rmul (typeIs_int s i u) PySem.F.entry_int_rmul (PySem.F.args_int_rmul_2 _ _) (int___rmul___int_list i u l vs n)
    ⟨hl,rfl,⟨_,hl,rfl⟩,call_meets PySem.F.slot_list_mul ⟨_,hl,rfl⟩ PySem.F.entry_list_mul (PySem.F.args_list_mul_2 _ _)
     (AutoListH.list___mul___list_int_3 l vs n i u (by simp[Builtin.List.listFitsIndex];exact⟨It (by decide) h0,Int.lt_of_le_of_lt h01<|by decide⟩) (by exact λzz=>lb3 zz<|lc7 hs rfl) (by simp[Builtin.List.listTooLong,sizeLine];lia)) ⟨hl,?_⟩⟩)
  refine o.push R (xs:=repL xs i.toNat) ?_ e;rw[Zk7]
  by_cases c:vs.isEmpty=true
  ·rw[if_pos c];have:vs=#[]:=Array.isEmpty_iff.mp c;subst this
   cases hv
   rw[Zme];exact .nil
  ·rw[if_neg c];exact hv.rep i.toNat
 |str i t o1 z1=>exact Zab e λn en e=>(hb.toInt en).elim λu q=>q▸ZgV o R o1 e
 |_=>exact e.elim
theorem ZoF{op:BOp}(e:binK op x y k):Yw A (binaryOp (opOf op) a b) Q E s:=by
 induction op with
 |add=>exact ZmQ o R ha hb e
 |mul=>exact Zmz o R ha hb e
 |bor=>exact e.elim
 |sub=>exact Zab e λi ei e=>Zab e λj ej e=>(ha.toInt ei).elim λt q=>(hb.toInt ej).elim λu q'=>q▸q'▸sub_int (o.val R (.int ..) e)
 |fdiv=>exact Zab e λi ei e=>Zab e λj ej e=>(ha.toInt ei).elim λt q=>(hb.toInt ej).elim λu q'=>q▸q'▸floordiv_int e.1.1 (o.val R (.int ..) e.2) (.inl<|PyProof.noPylong_small<|Gl e.1.2<|by decide)
 |mod=>exact Zab e λi ei e=>Zab e λj ej e=>(ha.toInt ei).elim λt q=>(hb.toInt ej).elim λu q'=>q▸q'▸mod_int' e.1 (o.val R (.int ..) e.2)
 |pow=>exact e.elim
end
mutual
noncomputable def toPy:V->PyData
 |.bool b=>.bool b
 |.int i=>.int i
 |.str s=>.str s
 |.tup xs=>.tuple<|toPys xs
 |.lst xs=>.list<|toPys xs
 |_=>.none
noncomputable def toPys:List V->List PyData
 | []=>[]
 |x::r=>toPy x::toPys r
end
mutual
noncomputable def isD:V->Bool
 |.none=>true
 |.bool _=>true
 |.int _=>true
 |.str _=>true
 |.tup xs=>isDs xs
 |.lst xs=>isDs xs
 |_=>false
noncomputable def isDs:List V->Bool
 | []=>true
 |x::r=>isD x&&isDs r
end
theorem ZcV{α:Type} [DecidableEq α]{a b:α}:(a==b)=decide (a=b):=by
 by_cases h:a=b
 ·rw[Dq h,h];exact beq_self_eq_true _
 ·rw[Df h];exact beq_false_of_ne h
mutual
theorem Zer:∀x y:V,isD x=true->isD y=true->eqD x y=PyData.eqv (toPy x) (toPy y)
 |.none,y,_,h=>by induction y using V.casesOn <;> first |rfl |exact noT h
 |.bool a,y,_,h=>by induction y using V.casesOn <;> first |rfl |exact ZcV.symm |(induction a <;> exact ZcV.symm) |(cases h;done)
 |.int a,y,_,h=>by induction y using V.casesOn <;> first |rfl |exact ZcV.symm |(rename_i b;induction b <;> exact ZcV.symm) |(cases h;done)
 |.str a,y,_,h=>by induction y using V.casesOn <;> first |rfl |exact ZcV.symm |cases h
 |.tup a,y,hx,h=>by induction y using V.casesOn <;> first |exact Zd6 a _ hx h |rfl |cases h
 |.lst a,y,hx,h=>by induction y using V.casesOn <;> first |exact Zd6 a _ hx h |rfl |cases h
 |.rng _ _ _,_,h,_=>by exact noT h
 |.ref _,_,h,_=>by exact noT h
 |.bt _,_,h,_=>by exact noT h
 |.fn _,_,h,_=>by exact noT h
 |.cls _,_,h,_=>by exact noT h
theorem Zd6:∀x y:List V,isDs x=true->isDs y=true->eqDs x y=PyData.eqvAll (toPys x) (toPys y)
 | [],y,_,_=>by induction y using List.casesOn <;> rfl
 |a::r,y,hx,hy=>by
  induction y using List.casesOn with
  |nil=>rfl
  |cons b t=>
   have hx:=An hx;have hy:=An hy;exact(congrArg (·&&eqDs r t)<|Zer a b hx.1 hy.1).trans (congrArg (PyData.eqv (toPy a) (toPy b)&&·)<|Zd6 r t hx.2 hy.2)
end
theorem Zex{h:Heap}{a:Addr}{vs:Array Value}{n:Nat}{xs:List PyData}{as:List Addr}(e:h.get? a=some (tupO vs n))(r:ReadsAll h vs.toList xs as):Reads h (.ref a) (.tuple xs) as:=.tuple e rfl rfl r
theorem Zb6{h:Heap}{a:Addr}{vs:Array Value}{n:Nat}{xs:List PyData}{as:List Addr}(e:h.get? a=some (lstO vs n))(r:ReadsAll h vs.toList xs as):Reads h (.ref a) (.list xs) (a::as):=.list e rfl rfl r
section
variable {h:Heap}
inductive Dt(h:Heap)(n:Nat)(v:Value)(y:V):Prop
 |mk (as:List Addr) (rd:Reads h v (toPy y) as) (lay:(toPy y).canLay0=true) (dp:(toPy y).depth<=n) (d:isD y=true)
inductive Dts(h:Heap)(n:Nat)(vs:List Value)(ys:List V):Prop
 |mk (as:List Addr) (rd:ReadsAll h vs (toPys ys) as) (lay:PyData.canLayAll0 (toPys ys)=true) (dp:PyData.depthAll (toPys ys)<=n) (d:isDs ys=true)
theorem Zgk{f:V->Option V}{x:V}{r ys:List V}{G:Prop}(h:deepL f (x::r)=some ys)(g:∀y zs,f x=some y->deepL f r=some zs->ys=y::zs->G):G:=by
 have h:(match f x with |some y=>(match deepL f r with |some ys=>some (y::ys) |none=>none) |none=>none)=some ys:=h;generalize f x=p at h g
 induction p with
 |none=>exact noS h
 |some v=>
  generalize deepL f r=q at h g
  induction q with
  |none=>exact noS h
  |some ws=>exact g v ws rfl rfl (Sj h).symm
theorem ZbL{f:V->Option V}{n:Nat}(hf:∀v x y,VR X W v x->f x=some y->Dt h n v y){vs:List Value}{xs:List V}(r:VRs X W vs xs){ys:List V}(e:deepL f xs=some ys):Dts h n vs ys:=
 VRs.ind (p:=λvs xs=>∀ys,deepL f xs=some ys->Dts h n vs ys) (λys e=>Sj e▸⟨[],.nil,rfl,Zz _,rfl⟩) (λa ø ih ys e=>Zgk e λy zs ey ez ee=>by
  subst ee;obtain⟨as,ra,la,da,ia⟩:=hf _ _ _ a ey;obtain⟨bs,rb,lb,db,ib⟩:=ih _ ez
  exact⟨as++bs,.cons ra rb,Bool.and_eq_true_iff.mpr ⟨la,lb⟩,Nat.max_le.mpr ⟨da,db⟩,Bool.and_eq_true_iff.mpr ⟨ia,ib⟩⟩) r ys e
theorem Zqe{o:Option (List V)}{v:V}(h:mT o=some v):∃a,o=some a/\v=.tup a:=by
 induction o with
 |none=>exact noS h
 |some a=>exact⟨a,rfl,(Sj h).symm⟩
theorem ZjZ{n:Nat}{a:Addr}{vs:Array Value}{k:Nat}{ys:List V}(g:h.get? a=some (lstO vs k))(B:Dts h n vs.toList ys):Dt h (n+1) (.ref a) (.lst ys):=by
 obtain⟨as,rb,l,d,i⟩:=B;exact⟨_,Zb6 g rb,l,Fs d,i⟩
theorem ZaX(R:RelH X W H h)(n:Nat):∀(v:Value)(x y:V),VR X W v x->deepN H n x=some y->Dt h n v y:=by
 induction n with
 |zero=>
  intro v x y r e
  cases r with
  |none=>obtain rfl:=Sj e;exact⟨_,.none,rfl,Zz _,rfl⟩
  |bool b=>obtain rfl:=Sj e;exact⟨_,.bool b,rfl,Zz _,rfl⟩
  |int i t=>obtain rfl:=Sj e;exact⟨_,.int i t,rfl,Zz _,rfl⟩
  |str s t o z=>obtain rfl:=Sj e;exact⟨_,.str s t,o,Zz _,rfl⟩
  |_=>exact noS e
 |succ n ih=>
  intro v x y r e
  cases r with
  |none=>obtain rfl:=Sj e;exact⟨_,.none,rfl,Zz _,rfl⟩
  |bool b=>obtain rfl:=Sj e;exact⟨_,.bool b,rfl,Zz _,rfl⟩
  |int i t=>obtain rfl:=Sj e;exact⟨_,.int i t,rfl,Zz _,rfl⟩
  |str s t o z=>obtain rfl:=Sj e;exact⟨_,.str s t,o,Zz _,rfl⟩
  |tup z r q=>
   obtain⟨ys,ey,rfl⟩:=Zqe e;obtain⟨as,rb,l,d,i⟩:=ZbL ih r ey;exact⟨_,Zex (R.z _ _ z) rb,l,Fs d,i⟩
  |lst z r q=>
   obtain⟨ys,ey,rfl⟩:=Zpg e;exact ZjZ (R.z _ _ z)<|ZbL ih r ey
  |@ref i l hl=>
   have e:bindL (cL<|H.get i) (λxs=>mL<|deepL (deepN H n) xs)=some y:=e
   induction ec:cL (H.get i) with
   |none=>rw[ec]at e;exact noS e
   |some xs=>
    rw[ec]at e;obtain⟨ys,ey,rfl⟩:=Zpg e;obtain⟨vs,k,g,r,_,_⟩:=R.at_ (Zj8 ec) hl;exact ZjZ g<|ZbL ih r ey
  |_=>exact noS e
end
def Room(A:Around):Prop:=A.units+80<cLine
section
variable {b:Value}(R:RelH X W H s.heap)(hu:Room A)(ha:VR X W a x)(hb:VR X W b y)(h:∀r tk,k r->Q (.bool r) { s with toks:=tk })
include R hu ha h
theorem Zke{vs:Array Value}{xs:List V}(hv:VRs X W vs.toList xs)(e:cmpK.anyK H x xs k){G:Prop}(g:∀as bs d ds,Reads s.heap a d as->ReadsAll s.heap vs.toList ds bs->d.canLay0=true->PyData.canLayAll0 ds=true->A.units+1+min (PyData.depthAll ds) d.depth<cLine->k (ds.any λy=>PyData.eqv y d)->G):G:=by
 refine Zab e λu eu e=>Zab e λv ev e=>?_;obtain⟨as,ra,la,da,ia⟩:=ZaX R _ _ _ _ ha eu;obtain⟨bs,rb,lb,db,ib⟩:=ZbL (ZaX R 11) hv ev
 have hd:(v.any λz=>eqD z u)=((toPys v).any λy=>PyData.eqv y<|toPy u):=by
  clear rb ev lb db e
  induction v with
  |nil=>rfl
  |cons z zs ih=>
   have ib:=An ib;rw[List.any_cons,ih ib.2,Zer z u ib.1 ia];rfl
 refine g as bs _ _ ra rb la lb ?_<|hd▸e;have:min (PyData.depthAll<|toPys v) (toPy u).depth<=12:=Nt (Nat.min_le_right _ _) da;unfold Room at hu;exact lk4 this hu rfl
include hb
theorem Zpx(e:cmpK H .eq x y k):Yw A (compareOp .Eq a b) Q E s:=by
 refine Zab e λu eu e=>Zab e λv ev e=>?_;obtain⟨as,ra,la,da,ia⟩:=ZaX R _ _ _ _ ha eu;obtain⟨bs,rb,lb,db,ib⟩:=ZaX R _ _ _ _ hb ev;refine SeqAt.compareEq_reads ra rb la lb ?_ ?_
 ·unfold Room at hu;exact lk5 (Nt (Nat.min_le_left ..) da) hu rfl
 ·rw[← Zer _ _ ia ib];exact h _ s.toks e
theorem ZpX(e:cmpK H .ne x y k):Yw A (compareOp .NotEq a b) Q E s:=by
 refine Zab e λu eu e=>Zab e λv ev e=>?_;obtain⟨as,ra,la,da,ia⟩:=ZaX R _ _ _ _ ha eu;obtain⟨bs,rb,lb,db,ib⟩:=ZaX R _ _ _ _ hb ev;refine ne_dataH ra rb ?_ ?_ ?_ ?_
 ·simp[SeqAt.shaped,la];exact la7 da rfl
 ·simp[SeqAt.shaped,lb];exact la7 db rfl
 ·unfold Room at hu;exact lk5 (Zr 64) hu rfl
 ·rw[← Zer _ _ ia ib];exact h _ s.toks e
end
noncomputable abbrev prO(a b:Int)(t u:Tok)(n:Nat):Obj:={ cls:=.type "tuple",data:=.seq #[.int a t,.int b u] n }
theorem Zfy{k:Int->Int->Bool}{z:Bool}{a b c d:Int}{p:Bool->Prop}(h:p (prI k z a b c d)):(a≠c->p (k a c))/\(a=c->b≠d->p (k b d))/\(a=c->b=d->p z):=by
 unfold prI at h;refine⟨λe=>?_,λe e'=>?_,λe e'=>?_⟩
 ·rw[Df e]at h;exact h
 ·rw[Dq e,Df e']at h;exact h
 ·rw[Dq e,Dq e']at h;exact h
theorem ZlO{x y:Addr}{n m:Nat}{a b c d:Int}{t1 t2 t3 t4:Tok}{Q:Yv}(hu:A.units<cLine)(hx:s.heap.get? x=some (prO a b t1 t2 n))(hy:s.heap.get? y=some (prO c d t3 t4 m))
  (h:Q (.bool<|prI (λi j=>decide<|j<i) false a b c d) s):Yw A (compareOp .Gt (.ref x)<|.ref y) Q E s:=by
 show wpAny _ _ (richCompare .Gt (.ref x)<|.ref y) Q E s;refine wpAny_richCompare_same_room (op:=.Gt) (T:="tuple") ⟨_,hx,rfl⟩ ⟨_,hy,rfl⟩ PySem.F.slot_tuple_gt ?_ hu;refine wpAny_call_entry PySem.F.slot_tuple_gt ⟨_,hx,rfl⟩ PySem.F.entry_tuple_gt ?_<|PySem.F.args_tuple_gt_2 _ _;show wpAny _ _ (isInstance (.ref y) (.type "tuple") >>= _) _ _ s;refine Yb<|wpAny_isInstance (T:="tuple") ⟨_,hy,rfl⟩ isSubtype_tuple_tuple ?_;simp only[Bool.not_true,Bool.false_eq_true,if_false];refine Yb<|wpAny_tupleItemsOf hx rfl<|Yb<|wpAny_tupleItemsOf hy rfl ?_;obtain⟨h1,h2,h3⟩:=Zfy (p:=λv=>Q (.bool v) s) h;refine Yb ?_;rw[show(#[Value.int a t1,Value.int b t2].toList.zip #[Value.int c t3,Value.int d t4].toList)=[(Value.int a t1,Value.int c t3),(Value.int b t2,Value.int d t4)] from rfl,forIn_cons];refine Yb<|Yb<|(intKind X.prog X.w).eqBool (a:=a) (b:=c) (intKind_is _ _ _ _) (intKind_is _ _ _ _) ?_
 by_cases e:a=c
 ·rw[Dq e];refine Yp ?_;show wpAny _ _ (forIn [(Value.int b t2,Value.int d t4)] _ _) _ _ s;rw[forIn_cons];refine Yb (Yb<|(intKind X.prog X.w).eqBool (a:=b) (b:=d) (intKind_is _ _ _ _) (intKind_is _ _ _ _) ?_)
  by_cases e':b=d
  ·rw[Dq e'];exact Yp (Yp (Yp ⟨_,rfl,(nomatch ·),h3 e e'⟩))
  ·rw[Df e'];exact Yb (wpAny_rule (Yb (PyProof.Rows.gt_int (Yb (Yp (Yp (Yp (Yp ⟨_,rfl,(nomatch ·),h2 e e'⟩))))))))
 ·rw[Df e];exact Yb (wpAny_rule (Yb (PyProof.Rows.gt_int (Yb (Yp (Yp (Yp (Yp ⟨_,rfl,(nomatch ·),h1 e⟩))))))))
theorem ZkM{x y:Addr}{n m:Nat}{a b c d:Int}{t1 t2 t3 t4:Tok}{Q:Yv}(hu:A.units<cLine)(hx:s.heap.get? x=some (prO a b t1 t2 n))(hy:s.heap.get? y=some (prO c d t3 t4 m))
  (h:Q (.bool<|prI (λi j=>decide<|j<=i) true a b c d) s):Yw A (compareOp .GtE (.ref x)<|.ref y) Q E s:=by
 show wpAny _ _ (richCompare .GtE (.ref x)<|.ref y) Q E s;refine wpAny_richCompare_same_room (op:=.GtE) (T:="tuple") ⟨_,hx,rfl⟩ ⟨_,hy,rfl⟩ PySem.F.slot_tuple_ge ?_ hu;refine wpAny_call_entry PySem.F.slot_tuple_ge ⟨_,hx,rfl⟩ PySem.F.entry_tuple_ge ?_<|PySem.F.args_tuple_ge_2 _ _;show wpAny _ _ (isInstance (.ref y) (.type "tuple") >>= _) _ _ s;refine Yb<|wpAny_isInstance (T:="tuple") ⟨_,hy,rfl⟩ isSubtype_tuple_tuple ?_;simp only[Bool.not_true,Bool.false_eq_true,if_false];refine Yb<|wpAny_tupleItemsOf hx rfl<|Yb<|wpAny_tupleItemsOf hy rfl ?_;obtain⟨h1,h2,h3⟩:=Zfy (p:=λv=>Q (.bool v) s) h;refine Yb ?_;rw[show(#[Value.int a t1,Value.int b t2].toList.zip #[Value.int c t3,Value.int d t4].toList)=[(Value.int a t1,Value.int c t3),(Value.int b t2,Value.int d t4)] from rfl,forIn_cons];refine Yb<|Yb<|(intKind X.prog X.w).eqBool (a:=a) (b:=c) (intKind_is _ _ _ _) (intKind_is _ _ _ _) ?_
 by_cases e:a=c
 ·rw[Dq e];refine Yp ?_;show wpAny _ _ (forIn [(Value.int b t2,Value.int d t4)] _ _) _ _ s;rw[forIn_cons];refine Yb (Yb<|(intKind X.prog X.w).eqBool (a:=b) (b:=d) (intKind_is _ _ _ _) (intKind_is _ _ _ _) ?_)
  by_cases e':b=d
  ·rw[Dq e'];exact Yp (Yp (Yp ⟨_,rfl,(nomatch ·),h3 e e'⟩))
  ·rw[Df e'];exact Yb (wpAny_rule (Yb (PyProof.Rows.ge_int (Yb (Yp (Yp (Yp (Yp ⟨_,rfl,(nomatch ·),h2 e e'⟩))))))))
 ·rw[Df e];exact Yb (wpAny_rule (Yb (PyProof.Rows.ge_int (Yb (Yp (Yp (Yp (Yp ⟨_,rfl,(nomatch ·),h1 e⟩))))))))
theorem ZlC{x y:Addr}{n m:Nat}{a b c d:Int}{t1 t2 t3 t4:Tok}{Q:Yv}(hu:A.units<cLine)(hx:s.heap.get? x=some (prO a b t1 t2 n))(hy:s.heap.get? y=some (prO c d t3 t4 m))
  (h:Q (.bool<|prI (λi j=>decide<|i<j) false a b c d) s):Yw A (compareOp .Lt (.ref x)<|.ref y) Q E s:=by
 show wpAny _ _ (richCompare .Lt (.ref x)<|.ref y) Q E s;refine wpAny_richCompare_same_room (op:=.Lt) (T:="tuple") ⟨_,hx,rfl⟩ ⟨_,hy,rfl⟩ PySem.F.slot_tuple_lt ?_ hu;refine wpAny_call_entry PySem.F.slot_tuple_lt ⟨_,hx,rfl⟩ PySem.F.entry_tuple_lt ?_<|PySem.F.args_tuple_lt_2 _ _;show wpAny _ _ (isInstance (.ref y) (.type "tuple") >>= _) _ _ s;refine Yb<|wpAny_isInstance (T:="tuple") ⟨_,hy,rfl⟩ isSubtype_tuple_tuple ?_;simp only[Bool.not_true,Bool.false_eq_true,if_false];refine Yb<|wpAny_tupleItemsOf hx rfl<|Yb<|wpAny_tupleItemsOf hy rfl ?_;obtain⟨h1,h2,h3⟩:=Zfy (p:=λv=>Q (.bool v) s) h;refine Yb ?_;rw[show(#[Value.int a t1,Value.int b t2].toList.zip #[Value.int c t3,Value.int d t4].toList)=[(Value.int a t1,Value.int c t3),(Value.int b t2,Value.int d t4)] from rfl,forIn_cons];refine Yb<|Yb<|(intKind X.prog X.w).eqBool (a:=a) (b:=c) (intKind_is _ _ _ _) (intKind_is _ _ _ _) ?_
 by_cases e:a=c
 ·rw[Dq e];refine Yp ?_;show wpAny _ _ (forIn [(Value.int b t2,Value.int d t4)] _ _) _ _ s;rw[forIn_cons];refine Yb (Yb<|(intKind X.prog X.w).eqBool (a:=b) (b:=d) (intKind_is _ _ _ _) (intKind_is _ _ _ _) ?_)
  by_cases e':b=d
  ·rw[Dq e'];exact Yp (Yp (Yp ⟨_,rfl,(nomatch ·),h3 e e'⟩))
  ·rw[Df e'];exact Yb (wpAny_rule (Yb (PyProof.Rows.lt_int (Yb (Yp (Yp (Yp (Yp ⟨_,rfl,(nomatch ·),h2 e e'⟩))))))))
 ·rw[Df e];exact Yb (wpAny_rule (Yb (PyProof.Rows.lt_int (Yb (Yp (Yp (Yp (Yp ⟨_,rfl,(nomatch ·),h1 e⟩))))))))
theorem ZlR{x y:Addr}{n m:Nat}{a b c d:Int}{t1 t2 t3 t4:Tok}{Q:Yv}(hu:A.units<cLine)(hx:s.heap.get? x=some (prO a b t1 t2 n))(hy:s.heap.get? y=some (prO c d t3 t4 m))
  (h:Q (.bool<|prI (λi j=>decide<|i<=j) true a b c d) s):Yw A (compareOp .LtE (.ref x)<|.ref y) Q E s:=by
 show wpAny _ _ (richCompare .LtE (.ref x)<|.ref y) Q E s;refine wpAny_richCompare_same_room (op:=.LtE) (T:="tuple") ⟨_,hx,rfl⟩ ⟨_,hy,rfl⟩ PySem.F.slot_tuple_le ?_ hu;refine wpAny_call_entry PySem.F.slot_tuple_le ⟨_,hx,rfl⟩ PySem.F.entry_tuple_le ?_<|PySem.F.args_tuple_le_2 _ _;show wpAny _ _ (isInstance (.ref y) (.type "tuple") >>= _) _ _ s;refine Yb<|wpAny_isInstance (T:="tuple") ⟨_,hy,rfl⟩ isSubtype_tuple_tuple ?_;simp only[Bool.not_true,Bool.false_eq_true,if_false];refine Yb<|wpAny_tupleItemsOf hx rfl<|Yb<|wpAny_tupleItemsOf hy rfl ?_;obtain⟨h1,h2,h3⟩:=Zfy (p:=λv=>Q (.bool v) s) h;refine Yb ?_;rw[show(#[Value.int a t1,Value.int b t2].toList.zip #[Value.int c t3,Value.int d t4].toList)=[(Value.int a t1,Value.int c t3),(Value.int b t2,Value.int d t4)] from rfl,forIn_cons];refine Yb<|Yb<|(intKind X.prog X.w).eqBool (a:=a) (b:=c) (intKind_is _ _ _ _) (intKind_is _ _ _ _) ?_
 by_cases e:a=c
 ·rw[Dq e];refine Yp ?_;show wpAny _ _ (forIn [(Value.int b t2,Value.int d t4)] _ _) _ _ s;rw[forIn_cons];refine Yb (Yb<|(intKind X.prog X.w).eqBool (a:=b) (b:=d) (intKind_is _ _ _ _) (intKind_is _ _ _ _) ?_)
  by_cases e':b=d
  ·rw[Dq e'];exact Yp (Yp (Yp ⟨_,rfl,(nomatch ·),h3 e e'⟩))
  ·rw[Df e'];exact Yb (wpAny_rule (Yb (PyProof.Rows.le_int (Yb (Yp (Yp (Yp (Yp ⟨_,rfl,(nomatch ·),h2 e e'⟩))))))))
 ·rw[Df e];exact Yb (wpAny_rule (Yb (PyProof.Rows.le_int (Yb (Yp (Yp (Yp (Yp ⟨_,rfl,(nomatch ·),h1 e⟩))))))))
section
variable {es:List (Int×Value)}
theorem dKey{i j:Int}:eqD (.int j) (.int i)=decide (j=i):=rfl
theorem ZfD{i j:Int}{v:Value}:valueAt ((j,v)::es) i=cond (decide<|j=i) (some v) (valueAt es i):=by
 unfold valueAt;rw[List.find?_cons]
 induction decide (j=i) <;> rfl
inductive DGv(X:Cx)(W:Wd):Option Value->Option V->Prop
 |none:DGv X W none none
 |some {v:Value} {x:V}:VR X W v x->DGv X W (some v) (some x)
theorem KVs.val{i:Int}(r:KVs X W es kvs):DGv X W (valueAt es i) (dGet kvs<|.int i):=by
 induction r with
 |nil=>exact .none
 |@cons j v x es kvs a r ih=>
  rw[ZfD];show DGv X W _ (cond (eqD (.int j)<|.int i) (some x)<|dGet kvs<|.int i);rw[dKey]
  induction decide (j=i) with
  |true=>exact .some a
  |false=>exact ih
theorem KVs.any{i:Int}(r:KVs X W es kvs):(valueAt es i).isSome=(dKeys kvs).any λz=>eqD z (.int i):=by
 induction r with
 |nil=>rfl
 |@cons j v x es kvs a r ih=>
  rw[ZfD]
  show _=(eqD (.int j) (.int i) ||(dKeys kvs).any λz=>eqD z<|.int i)
  rw[dKey,← ih]
  induction decide (j=i) <;> rfl
theorem KVs.len(r:KVs X W es kvs):es.length=kvs.length:=by
 induction r with
 |nil=>rfl
 |cons a r ih=>exact congrArg (·+1) ih
theorem KVs.put{i:Int}{v:Value}{x:V}(hv:VR X W v x)(r:KVs X W es kvs)(hn:(es.map (·.1)).Nodup):KVs X W (stored es i v) (dSet kvs (.int i) x):=by
 induction r with
 |nil=>exact .cons hv .nil
 |@cons j u y es kvs a r ih=>
  rw[map_cons,nodup_cons]at hn;show KVs X W _ (cond (eqD (.int j)<|.int i) ((.int j,x)::kvs) ((.int j,y)::dSet kvs (.int i) x));rw[dKey];unfold stored
  by_cases h:j=i
  ·subst h;rw[List.any_cons,Dq rfl,map_cons,if_pos rfl,map_store_of_not_mem es j v hn.1];exact .cons hv r
  ·have ih:=ih hn.2;unfold stored at ih;rw[List.any_cons,Df h,Bool.false_or,map_cons,if_neg h]
   by_cases q:es.any (λkv=>decide<|kv.1=i)=true
   ·rw[if_pos q]at ih ⊢; exact .cons a ih
   ·rw[if_neg q]at ih ⊢; exact .cons a ih
theorem Zgw{a:Value}{x:V}{ks:List V}{G:Prop}(ha:VR X W a x)(h:keyOk ks x=true)(g:∀i t,a=.int i t->x=.int i->G):G:=by
 have h:=(and_eq h).1
 induction x using V.casesOn with
 |int i=>cases ha with |int _ t=>exact g i t rfl rfl
 |_=>exact noT h
where and_eq {a b:Bool} (h:(a&&b)=true):a=true/\b=true:=by induction a <;> induction b <;> first |exact⟨rfl,rfl⟩ |exact noT h
end
theorem ZdX{vs:List Value}{xs:List V}(r:VRs X W vs xs):∀{l:List Int},intsOf xs=some l->IntsAre vs l:=by
 refine VRs.ind (p:=λvs xs=>∀{l:List Int},intsOf xs=some l->IntsAre vs l) (λe=>by obtain rfl:=Sj e;exact .nil) (λ{v vs x xs} a _ ih l e=>?_) r;have e:(match aInt x with |some i=>(match intsOf xs with |some l=>some (i::l) |none=>none) |none=>none)=some l:=e
 induction hx:aInt x with
 |none=>rw[hx]at e;exact noS e
 |some i=>
  rw[hx]at e;have e:(match intsOf xs with |some l=>some (i::l) |none=>none)=some l:=e
  induction hr:intsOf xs with
  |none=>rw[hr]at e;exact noS e
  |some m=>
   rw[hr]at e;obtain rfl:=Sj e
   induction x using V.casesOn with
   |int j=>obtain rfl:=Eq.symm<|Sj hx;cases a with |int _ t=>exact .cons _ t<|ih hr
   |_=>exact noS hx
theorem Zfn{vs:List Value}{l:List Int}(h:IntsAre vs l):VRs X W vs (l.map .int):=by
 induction h with
 |nil=>exact .nil
 |cons n t _ ih=>exact .cons (.int n t) ih
theorem Zef{a b c:Int}(hc:c=1\/c= -1):Builtin.Range.rangeSize a b c=rngN a b c:=by
 unfold Builtin.Range.rangeSize rngN
 rcases hc with rfl |rfl
 ·rw[if_pos<|by decide,Int.ediv_one,if_pos rfl]
  by_cases h:b > a
  ·rw[if_pos h,Int.toNat_of_nonneg<|Int.sub_nonneg_of_le<|Int.le_of_lt h];exact Int.sub_add_cancel (b - a) 1
  ·rw[if_neg h,Int.toNat_of_nonpos<|Int.sub_nonpos_of_le<|Int.not_lt.mp h];rfl
 ·rw[if_neg<|show ¬ ((-1:Int) > 0) by decide,Int.neg_neg,Int.ediv_one,if_neg<|show ¬ ((-1:Int)=1) by decide,if_pos rfl]
  by_cases h:b<a
  ·rw[if_pos h,Int.toNat_of_nonneg<|Int.sub_nonneg_of_le<|Int.le_of_lt h];exact Int.sub_add_cancel (a - b) 1
  ·rw[if_neg h,Int.toNat_of_nonpos<|Int.sub_nonpos_of_le<|Int.not_lt.mp h];rfl
theorem ZhO(j n:Nat)(h:j<=n):Builtin.Slice.sliceAdjust none (some (j:Int)) 1 (n:Int)=(0,(j:Int)):=by
 unfold Builtin.Slice.sliceAdjust
 have h1:¬ ((1:Int)<0):=by exact λzz=>lb3 (lc9 zz)<|ld2<|Bq rfl
 have h2:¬ ((j:Int)<0):=by exact λzz=>lb3 (lc9 zz)<|natCast_nonneg _
 simp only[h1,h2,if_false]
 congr 1
 omega
theorem ZhB(j:Nat):Builtin.Slice.slicePlaces 0 (j:Int) 1=j:=by
 unfold Builtin.Slice.slicePlaces
 have h1:(1:Int) > 0:=by exact ld1<|lt_succ_self _
 simp only[h1,if_true,Int.ediv_one]
 split <;> omega
theorem ZcM{sl:Addr}{j n:Nat}{u:Tok}{Q:Int×Int×Nat->Shared->Prop}(hs:s.heap.IsSliceOf sl .none (.int j u) .none)(hj:j<=n)(h:Q ((0:Int),1,j) s):
  Yw A (Builtin.Slice.sliceApplied (.ref sl)<|pure (n:Int)) Q E s:=by
 obtain⟨os,hos,hcs,hds⟩:=id hs;unfold Builtin.Slice.sliceApplied Builtin.Slice.sliceFields;refine Yb<|Yb<|wpAny_field hos hds (x:=.none) rfl<|Yb<|wpAny_field hos hds (x:=.int j u) rfl<|Yb<|wpAny_field hos hds (x:=.none) rfl<|Yp ?_;refine Yb<|slicePart_none ?_;show wpAny _ _ (if ((1:Int)==0)=true then _ else _) _ _ s;rw[if_neg<|by decide];refine Yb<|slicePart_none<|Yb<|slicePart_int<|Yb<|Yp ?_;show wpAny _ _ (match Builtin.Slice.sliceAdjust none (some (j:Int)) 1 (n:Int) with |(lo,hi)=>pure (lo,(1:Int),Builtin.Slice.slicePlaces lo hi 1)) _ _ s;rw[ZhO j n hj];show wpAny _ _ (pure ((0:Int),(1:Int),Builtin.Slice.slicePlaces 0 (j:Int) 1)) _ _ s;rw[ZhB j];exact Yp h
theorem ZiZ{α:Type}(l:List α)(j:Nat)(h:j<=l.length):(List.range j).filterMap (λk=>l[k]?)=l.take j:=by
 induction j with
 |zero=>rfl
 |succ j ih=>
  rw[List.range_succ,List.filterMap_append,ih<|Nat.le_of_succ_le h,List.take_succ,Lg h];show _++(match l[j]? with |none=>_ |some b=>b::_)=_;rw[Lg h];rfl
theorem Zli(xs:Array Value)(j:Nat)(h:j<=xs.size):((List.range j).filterMap λ(k:Nat)=>xs[((0:Int)+(k:Int) * 1).toNat]?).toArray=(xs.toList.take j).toArray:=by
 have e:(λ(k:Nat)=>xs[((0:Int)+(k:Int) * 1).toNat]?)=λk=>xs.toList[k]?:=by
  funext k
  rw[show((0:Int)+(k:Int) * 1).toNat=k from congrArg Int.toNat ((Int.zero_add _).trans<|Int.mul_one _),Array.getElem?_toList]
 rw[e,ZiZ _ _ (by rw[Array.length_toList];exact h)]
theorem ZcD{t sl:Addr}{items:Array Value}{j:Nat}{u:Tok}{Q:Yv}(ht:IsTup s.heap t items)(hs:s.heap.IsSliceOf sl .none (.int j u) .none)(hj:j<items.size)
  (h:Q (.ref s.heap.objs.size) { s with heap:=s.heap.push { cls:=.type "tuple",data:=.seq (items.toList.take j).toArray } })
  (hsz:items.size<=sizeLine):Yw A (getItem (.ref t)<|.ref sl) Q E s:=by
 have htake:sizeOk (.seq (items.toList.take j).toArray):=by
  show(items.toList.take j).toArray.size<=sizeLine;rw[List.size_toArray,List.length_take,Array.length_toList];exact li4 hsz
 obtain⟨os,hos,hcs,hds⟩:=id hs
 have hTs:s.TypeIs (.ref sl) "slice":=⟨os,hos,hcs⟩
 unfold getItem
 try with_reducible refine wpAny_holding ?_
 first |refine Yb (Yp ?_) |skip
 refine Yb<|wpAny_sequenceKey ht.typeIs (by decide) ?_
 refine Yb (wpAny_callSpecial?_slot (name:=Str.ofString "__getitem__") ht.typeIs slot_tuple_getitem
  (wpAny_call_entry slot_tuple_getitem ht.typeIs entry_tuple_getitem ?_<|args_tuple_getitem _ _))
 show wpAny _ _ (Builtin.Tuple.tupleItemsOf (.ref t) >>= _) _ _ s;refine Yb<|tupleItemsOf_ ht ?_;refine Yb<|wpAny_typeOf hTs ?_;rw[if_pos<|by decide];refine Yb<|ZcM hs (Ny hj) ?_
 have hno:¬ (((0:Int)==0&&(1:Int)==1&&j==items.size)=true):=by
  have:(j==items.size)=false:=by rw[beq_eq_false_iff_ne];exact λzz=>Nx hj zz
  rw[this];simp
 show wpAny _ _ (if ((0:Int)==0&&(1:Int)==1&&j==items.size)=true then _ else _) _ _ s;rw[if_neg hno,Zli items j<|Ny hj]
 first
  |exact Yb (m:=Builtin.Tuple.tupleExact _)<|wpAny_newObj_type (Yp ⟨_,rfl,Yp h⟩) htake
  |exact Yb (m:=Builtin.Tuple.tupleExact _)<|wpAny_newObj_type (Yb<|Yp<|Yp ⟨_,rfl,Yp h⟩) htake
  |exact Yb<|Yb (m:=Builtin.Tuple.tupleExact _)<|wpAny_newObj_type (Yp<|Yp ⟨_,rfl,Yp h⟩) htake
  |exact Yb<|Yb (m:=Builtin.Tuple.tupleExact _)<|wpAny_newObj_type (Yp ⟨_,rfl,Yp h⟩) htake
structure InQ(X:Cx)(A:Around)(E:Yv)(s:Shared)(a b:Value)(k:Bool->Prop):Prop where
 yes:∀Q:Yv,(∀r tk,k r->Q (.bool r) { s with toks:=tk })->Yw A (compareOp .In a b) Q E s
 no:∀Q:Yv,(∀r tk,k r->Q (.bool<|!r) { s with toks:=tk })->Yw A (compareOp .NotIn a b) Q E s
theorem ZjO{a:Value}{x:V}{l:Addr}{vs:Array Value}{n:Nat}{xs:List V}{k:Bool->Prop}(R:RelH X W H s.heap)(hu:Room A)(ha:VR X W a x)(g:s.heap.get? l=some (lstO vs n))(r:VRs X W vs.toList xs)(e:cmpK.anyK H x xs k):InQ X A E s a (.ref l) k:=
 ⟨λQ h=>Zke (Q:=Q) R hu ha h r e λas bs d ds ra rb c1 c2 hu' z=>SeqAt.in_list_reads (Zb6 g rb) ra c2 c1 hu'<|h _ s.toks z,
 λQ h=>Zke (Q:=λø ø=>True) R hu ha (λø ø ø=>trivial) r e λas bs d ds ra rb c1 c2 hu' z=>SeqAt.notIn_list_reads (Zb6 g rb) ra c2 c1 hu'<|h _ s.toks z⟩
theorem Znn{a:Value}{x:V}{l:Addr×Addr}{kvs:List (V×V)}{k:Bool->Prop}(ha:VR X W a x)(g:DicCell X W s.heap l kvs)(e:Nd (keyOk (dKeys kvs) x=true) (k<|(dKeys kvs).any λz=>eqD z x)):InQ X A E s a (.ref l.1) k:=by
 obtain⟨es,d,r,_,ne,_⟩:=g;refine Zgw ha e.1 λi t ea ex=>?_;subst ea ex;have q:=e.2;rw[← r.any]at q;exact⟨λQ h=>wpAny_in_of (intKind_is _ _ i t) ne d.mapOf<|h _ _ q,λQ h=>wpAny_notIn_of (intKind_is _ _ i t) ne d.mapOf<|h _ _ q⟩
theorem ZmO{a b:Value}{x y:V}{k:Bool->Prop}(R:RelH X W H s.heap)(hu:Room A)(ha:VR X W a x)(hb:VR X W b y)(e:cmpK.inK H x y k):InQ X A E s a b k:=by
 cases hb with
 |lst z r q=>exact ZjO R hu ha (R.z _ _ z) r e
 |tup _ _ _=>exact e.elim
 |rng _ _ _ _=>exact e.elim
 |@ref i l hl=>
  have e:(match H.get i with |some (.list xs)=>cmpK.anyK H x xs k |some (.dict kvs)=>Nd (keyOk (dKeys kvs) x=true) (k<|(dKeys kvs).any λz=>eqD z x) |_=>False):=e
  induction hc:H.get i with
  |none=>rw[hc]at e;exact e.elim
  |some c=>
   rw[hc]at e;have q:=R.at_ hc hl
   induction c with
   |list xs=>obtain⟨vs,n,g,r,_,_⟩:=q;exact ZjO R hu ha g r e
   |dict kvs=>exact Znn ha q e
   |_=>exact e.elim
 |_=>exact e.elim
theorem ZnR{a:Value}{x:V}(ha:VR X W a x)(hs:solid x=true):plainIs a .none=true/\(a==.none)=isNone x:=by
 cases ha <;> first |exact⟨rfl,rfl⟩ |exact noT hs
theorem Znq{a:Value}{x:V}{c:Bool}(ha:VR X W a x)(hs:solid x=true):plainIs a (.bool c)=true/\(a==.bool c)=isB c x:=by
 cases ha with
 |bool d=>exact⟨rfl,by induction c <;> induction d <;> rfl⟩
 |_=>first |exact⟨rfl,rfl⟩ |exact noT hs
theorem Znt{a b:Value}{x y:V}{k:Bool->Prop}(ha:VR X W a x)(hb:VR X W b y)(e:isK x y k):∃r,plainIs a b=true/\(a==b)=r/\k r:=by
 induction y using V.casesOn with
 |none=>obtain rfl:=(show b=.none from hb.inv);exact⟨_,(ZnR ha e.1).1,(ZnR ha e.1).2,e.2⟩
 |bool c=>obtain rfl:=(show b=.bool c from hb.inv);exact⟨_,(Znq ha e.1).1,(Znq ha e.1).2,e.2⟩
 |_=>exact e.elim
theorem Znh{α:Type}{l:List α}{a b:α}(h:l.length=2)(h0:l[0]?=some a)(h1:l[1]?=some b):l=[a,b]:=by
 induction l using List.casesOn with
 |nil=>exact noS h0
 |cons x r=>
  obtain rfl:=Eq.symm<|Sj h0
  induction r using List.casesOn with
  |nil=>exact noS h1
  |cons y r=>
   obtain rfl:=Eq.symm<|Sj h1;rw[List.length_eq_zero_iff.mp<|Nat.succ.inj<|Nat.succ.inj h]
theorem Zn9{h:Heap}{v:Value}{x:V}{p:Int×Int}(r:Sn X W h v x)(e:aPr x=some p){G:Prop}(k:∀l n t u,v=.ref l->h.get? l=some (prO p.1 p.2 t u n)->G):G:=by
 obtain⟨xs,ex,e⟩:=Option.bind_eq_some_iff.mp e;obtain⟨l,vs,n,ev,g,rr,_,_⟩:=r.toTup ex
 match xs,e with
 | [a,b],e=>
  obtain⟨i,ei,e⟩:=Option.bind_eq_some_iff.mp e;obtain⟨j,ej,e⟩:=Option.map_eq_some_iff.mp e;subst e;obtain⟨v0,h0,r0⟩:=rr.get (k:=0) rfl;obtain⟨v1,h1,r1⟩:=rr.get (k:=1) rfl;obtain⟨vs⟩:=vs;obtain rfl:=Znh rr.length h0 h1;exact ZbG r0 ei λt q=>ZbG r1 ej λu q'=>k l n t u ev (by subst q q'; exact g)
theorem ZfP{k:Int->Int->Bool}{z:Bool}{a b c d:Int}:prI (λi j=>k j i) z a b c d=prI k z c d a b:=by
 unfold prI;rw[show decide (a=c)=decide (c=a) from decide_eq_decide.mpr eq_comm,show decide (b=d)=decide (d=b) from decide_eq_decide.mpr eq_comm]
theorem roomy{A:Around}(hu:Room A):A.units<cLine:=Nl (Ar _ _) hu
section
variable {b:Value}(R:RelH X W H s.heap)(hu:Room A)(ha:VR X W a x)(hb:VR X W b y)(h:∀r tk,k r->Q (.bool r) { s with toks:=tk })
include R ha hb
theorem Zfr{k:Int->Int->Prop}(e:need (see H x) λx=>need (see H y) λy=>need (aInt x) λi=>need (aInt y) λj=>k i j){G:Prop}(g:∀i j t u,a=.int i t->b=.int j u->k i j->G):G:=
 Zab e λx ex e=>Zab e λy ey e=>Zab e λi ei e=>Zab e λj ej e=>((Zap R ha ex).toInt ei).elim λt q=>((Zap R hb ey).toInt ej).elim λu q'=>g i j t u q q' e
theorem Zf0{e':Bool}{k:Bool->Prop}(e:need (see H x) λx=>need (see H y) λy=>ltK e' x y k){G:Prop}(g:∀i j t u,a=.int i t->b=.int j u->k (cmpI e' i j)->G)
  (g':∀(p q:Int×Int) l m n n' t u t' u',a=.ref l->b=.ref m->s.heap.get? l=some (prO p.1 p.2 t u n)->s.heap.get? m=some (prO q.1 q.2 t' u' n')->k (prI (cmpI e') e' p.1 p.2 q.1 q.2)->G):G:=
 Zab e λx ex e=>Zab e λy ey e=>by
  have rx:=Zap R ha ex;have ry:=Zap R hb ey
  induction x using V.casesOn with
  |int i=>exact Zab e λj ej e=>(rx.toInt rfl).elim λt q=>(ry.toInt ej).elim λu q'=>g i j t u q q' e
  |tup xs=>exact Zab e λp ep e=>Zab e λq eq e=>Zn9 rx ep λl n t u h1 h2=>Zn9 ry eq λm n' t' u' h3 h4=>g' p q l m n n' t u t' u' h1 h3 h2 h4 e
  |_=>exact e.elim
include hu h
theorem ZnI{op:COp}(e:cmpK H op x y k):Yw A (compareOp (cmpOf op) a b) Q E s:=by
 induction op with
 |eq=>exact Zpx R hu ha hb h e
 |ne=>exact ZpX R hu ha hb h e
 |lt=>exact Zf0 R ha hb e (λi j t u q q' z=>by subst q q'; exact lt_int<|h _ s.toks z) λp q l m n n' t u t' u' e1 e2 g1 g2 z=>by subst e1 e2;exact ZlC (roomy hu) g1 g2<|h _ s.toks z
 |le=>exact Zf0 R ha hb e (λi j t u q q' z=>by subst q q'; exact le_int<|h _ s.toks z) λp q l m n n' t u t' u' e1 e2 g1 g2 z=>by subst e1 e2;exact ZlR (roomy hu) g1 g2<|h _ s.toks z
 |gt=>exact Zf0 R hb ha (Zab e λx ex e=>Zab e λy ey e=>Zcy ey<|Zcy ex e) (λi j t u q q' z=>by subst q q'; exact gt_int<|h _ s.toks z) λp q l m n n' t u t' u' e1 e2 g1 g2 z=>by subst e1 e2;exact ZlO (roomy hu) g2 g1<|ZfP (k:=cmpI false)▸h _ s.toks z
 |ge=>exact Zf0 R hb ha (Zab e λx ex e=>Zab e λy ey e=>Zcy ey<|Zcy ex e) (λi j t u q q' z=>by subst q q'; exact ge_int<|h _ s.toks z) λp q l m n n' t u t' u' e1 e2 g1 g2 z=>by subst e1 e2;exact ZkM (roomy hu) g2 g1<|ZfP (k:=cmpI true)▸h _ s.toks z
 |isIn=>exact(ZmO R hu ha hb e).yes Q h
 |notIn=>exact(ZmO (k:=λr=>k<|!r) R hu ha hb e).no Q λr tk z=>h _ tk z
 |is=>exact(Znt ha hb e).elim λr q=>wpAny_is_plain q.1 (by rw[q.2.1];exact h _ s.toks q.2.2)
 |isNot=>exact(Znt (k:=λr=>k<|!r) ha hb e).elim λr q=>wpAny_isNot_plain q.1 (by rw[q.2.1];exact h _ s.toks q.2.2)
end
end
section
set_option maxRecDepth 100000
open PySem PySem.W PySem.Calls PyProof.Rows Builtin Builtin.ObjectAttr Builtin.Getset_descriptor
section
variable {A:Around}{s:Shared}{E:Yv}{K:Frag}
theorem Zmb{k:Kd}{t:V}{b:Bool}{cv:Value}(e:isi0 X.P k t=some b)(h:VR X W cv t):tVal X t=some cv:=by
 cases h with
 |bt b=>rfl
 |_=>exact nsome e
theorem ZlI{k:Kd}{t:V}{b:Bool}{cv tv:Value}(I:IsiK X K)(e:isi0 X.P k t=some b)(hk:kdT X k=some tv)(h:VR X W cv t):kitOne K tv cv=some b:=I.one k t b tv cv e hk<|Zmb e h
theorem Zbk{v t tv:Value}{k:Kd}{y:V}{b:Bool}{Hh:Heap->Prop}{Q:Yv}(I:IsiK X K)(R:RelH X W H s.heap)(Z:KitX K v tv Hh)(hh:Hh s.heap)(hk:kdT X k=some tv)(hv:v≠.builtin "__main__.__loader__#opaque")(ht:VR X W t y)(e:isi1 X.P k y=some b)(h:∀tk,Q (.bool b) { s with toks:=tk }):
  Yw A (call (.builtin "isinstance") [v,t]) Q E s:=by
 have hin:K.In s.heap:=λx o q=>R.bkeep x o<|I.inn x o q
 cases ht with
 |bt bb=>exact kia_one Z hin hh (ZlI (W:=W) (t:=.bt bb) I e hk<|.bt bb) hv h
 |_=>exact nsome e
theorem Zoe{v t:Value}{x y:V}{k:Bool->Prop}{Q:Yv}(I:IsiK X K)(R:RelH X W H s.heap)(hv:VR X W v x)(ht:VR X W t y)(e:need (kind H x) λq=>need (isi1 X.P q y) k)(h:∀b tk,k b->Q (.bool b) { s with toks:=tk }):
  Yw A (call (.builtin "isinstance") [v,t]) Q E s:=by
 refine Zab e λq ek e=>Zab e λb e z=>?_;have h:=λtk=>h b tk z
 cases hv with
 |none=>obtain rfl:=Sj ek;exact Zbk I R kitx_none trivial rfl (λq=>nomatch q) ht e h
 |bool c=>obtain rfl:=Sj ek;exact Zbk I R kitx_bool trivial rfl (λq=>nomatch q) ht e h
 |int i u=>obtain rfl:=Sj ek;exact Zbk I R kitx_int trivial rfl (λq=>nomatch q) ht e h
 |str c u _ _=>obtain rfl:=Sj ek;exact Zbk I R kitx_str trivial rfl (λq=>nomatch q) ht e h
 |tup z r q=>obtain rfl:=Sj ek;exact Zbk I R kitx_tuple ⟨_,R.z _ _ z,rfl⟩ rfl (λq=>nomatch q) ht e h
 |lst z r q=>obtain rfl:=Sj ek;exact Zbk I R kitx_list ⟨_,R.z _ _ z,rfl⟩ rfl (λq=>nomatch q) ht e h
 |@ref i l hl=>
  have ek:kdC (H.get i)=some q:=ek
  induction hg:H.get i with
  |none=>rw[hg]at ek;exact noS ek
  |some c=>
   rw[hg]at ek;have hcell:=R.at_ hg hl
   induction c with
   |list xs=>obtain rfl:=Sj ek;obtain⟨vs,k,hgg,_,_,_⟩:=hcell;exact Zbk I R kitx_list ⟨_,hgg,rfl⟩ rfl (λq=>nomatch q) ht e h
   |dict kvs=>exact noS ek
   |inst k fs=>exact noS ek
   |exc k=>exact noS ek
 |_=>exact noS ek
end
end
variable {a:PE}{sc:Sc}{Pv:Pr}{Ex:Yv}{o1' o2':COp}
section
open PySem PySem.W PySem.Calls PyProof.Rows
variable {l r:PE}{s:Shared}{k:LV->Prop}{v:Value}{vs:List Value}{E:Yv}{A:Around}{tk:Nat}{value slice l' r':Expr}
theorem Zdu{vs:Array Value}{xs:List V}(h:VRs X W vs.toList xs){k:Nat}{x:V}(e:xs[k]?=some x):∃v,vs[k]?=some v/\VR X W v x:=(h.get e).imp λv q=>⟨by rw[← Array.getElem?_toList];exact q.1,q.2⟩
theorem Zdo{i:Int}{n k:Nat}(e:pyIdx i n=some k)(h:0<=i):k=i.toNat/\i<n:=by
 unfold pyIdx at e;rw[if_pos h]at e
 by_cases c:i<n
 ·rw[if_pos c]at e;exact⟨(Sj e).symm,c⟩
 ·rw[if_neg c]at e;exact noS e
theorem ZcN{i:Int}{n k:Nat}(e:pyIdx i n=some k)(h:¬ 0<=i):k=(i+n).toNat/\0<=i+n:=by
 unfold pyIdx at e;rw[if_neg h]at e
 by_cases c:0<=i+n
 ·rw[if_pos c]at e;exact⟨(Sj e).symm,c⟩
 ·rw[if_neg c]at e;exact noS e
theorem ZcR{i:Int}{n k:Nat}(e:pyIdx i n=some k):seqIndex? i n=some k:=by
 unfold seqIndex?
 by_cases h:0<=i
 ·obtain⟨rfl,hk⟩:=Zdo e h;have:¬ i<0:=Int.not_lt.mpr h;simp[this,h,hk]
 ·obtain⟨rfl,hk⟩:=ZcN e h;have h':i<0:=Int.not_le.mp h;have:i+n<n:=Int.lt_of_lt_of_le (Int.add_lt_add_right h' n)<|Int.le_of_eq<|Int.zero_add _;simp_all
theorem ZcF{i:Int}{n k:Nat}(e:pyIdx i n=some k)(q:n<=SZ): -(2 ^ 63:Int)<=i/\i<2 ^ 63:=by
 have:=sz63 q
 by_cases h:0<=i
 ·have:=Zdo e h;exact⟨It (by decide) h,Int.lt_of_lt_of_le this.2<|lc7 q rfl⟩
 ·have:=ZcN e h;exact⟨It (It (by decide:(-2 ^ 63:Int)<= -((SZ:Nat):Int))<|Int.neg_le_neg<|ld2 q)<|lk3 this.2,Int.lt_of_lt_of_le (Int.not_le.mp h)<|by decide⟩
theorem ZbP{o i:Value}{value slice:Expr}{T id:String}{Q:Yv}(hT:s.TypeIs o T)(hl:typeLookup (.type T) "__getitem__"=pure (some<|.builtin id))
  (h:Yw A (getItem o i) Q E s):Yw A (subscriptTail value slice o i) Q E s:=by
 unfold subscriptTail;refine Yb ?_;rw[getitemInPython_of_ne hT.not_modules];refine Yb<|wpAny_specialOf hT hl ?_
 have fin:Yw A (subscripted slice false o i) (λr s3'=>Yw A (letTemporaryGo value o r >>= λø=>pure r) Q E s3') E s:=by
  have key:Yw A (getItem o i) (λr s3'=>Yw A (letTemporaryGo value o r >>= λø=>pure r) Q E s3') E s:=
   Ym h (λr s3' h₃=>Yb<|wpAny_letTemporaryGo<|Yp h₃) λø ø x=>x
  unfold subscripted
  split
  ·exact wpAny_operating key
  ·exact noT<|‹_=true›
  ·exact wpAny_operating key
 first
  |exact Yp<|Yb fin
  |exact Yb<|Yp<|Yb fin
  |exact Yb fin
theorem ZlK{t:Str}{i c:Nat}(ok:PyData.strOk t=true)(hc:t.cps[i]?=some c):PyData.strOk ⟨#[c]⟩=true:=by
 have hok:(t.cps.all (· < 0x110000))=true:=ok;rw[Array.all_eq_true]at hok;have:=hok i (Array.getElem?_eq_some_iff.mp hc).1;rw[(Array.getElem?_eq_some_iff.mp hc).2]at this;show((#[c]:Array Nat).all (· < 0x110000))=true
 simpa using this
section
variable {a b:Value}{x:V}{k:V->Prop}(h:∀v r tk,VR X W v r->k r->Q v { s with toks:=tk })
include h
theorem Zg1{l:Addr}{vs:Array Value}{n:Nat}{xs:List V}{i:Int}{t:Tok}(g:s.heap.get? l=some (lstO vs n))(r:VRs X W vs.toList xs)(q:xs.length<=SZ)(e:atK xs i k):Yw A (subscriptTail value slice (.ref l)<|.int i t) Q E s:=by
 refine Zab e λm em e=>Zab e λx ex e=>?_;obtain⟨v,hx,hr⟩:=Zdu r ex;have hf:=h v x s.toks hr e;have z:=r.toArr;have b63:=ZcF em q;refine ZbP ⟨_,g,rfl⟩ list_getitem_lookup ?_
 by_cases h0:0<=i
 ·obtain⟨rfl,hk⟩:=Zdo em h0;exact wpAny_getItem_list (Zaq g) h0 b63.2 hx hf
 ·obtain⟨rfl,hk⟩:=ZcN em h0;exact wpAny_getItem_list_neg (Zaq g) (Int.not_le.mp h0) (by rw[z];exact lk3 hk) b63.1 (by rw[z];exact hx) hf
theorem ZkP{l:Addr×Addr}{kvs:List (V×V)}(hb:VR X W b y)(g:DicCell X W s.heap l kvs)(e:Nd (keyOk (dKeys kvs) y=true) (need (dGet kvs y) k)):Yw A (subscriptTail value slice (.ref l.1) b) Q E s:=by
 obtain⟨es,d,r,_,ne,_⟩:=g;refine Zgw hb e.1 λi t ea ex=>Zab e.2 λz ez q=>?_;subst ea ex;have v:=r.val (i:=i);rw[ez]at v;generalize hv:valueAt es i=o at v
 cases v with
 |some hr=>exact ZbP d.typeIs slot_dict_getitem.lookup<|wpAny_getItem_of (intKind_is _ _ i t) d.mapOf hv<|h _ _ _ hr q
theorem Znz(R:RelH X W H s.heap)(ha:VR X W a x)(hb:VR X W b y)(e:idxH H x y k):Yw A (subscriptTail value slice a b) Q E s:=by
 have key:∀i,aInt y=some i->∃t,b=.int i t:=λi ei=>ZbG hb ei λt q=>⟨t,q⟩
 cases ha with
 |@ref j l hl=>
  have e:(match H.get j with |some (.list xs)=>idxK (.lst xs) y k |some (.dict kvs)=>Nd (keyOk (dKeys kvs) y=true) (need (dGet kvs y) k) |_=>False):=e
  induction hc:H.get j with
  |none=>rw[hc]at e;exact e.elim
  |some c=>
   rw[hc]at e;have q:=R.at_ hc hl
   induction c with
   |list xs=>
    refine Zab e λi ei e=>(key i ei).elim λt et=>?_;subst et;obtain⟨vs,n,g,r,_,z⟩:=q;exact Zg1 h g r z e
   |dict kvs=>exact ZkP h hb q e
   |_=>exact e.elim
 |lst z r q=>exact Zab e λi ei e=>(key i ei).elim λt et=>by subst et;exact Zg1 h (R.z _ _ z) r q e
 |@tup l vs n xs z r q=>
  refine Zab e λi ei e=>(key i ei).elim λt et=>Zab e λm em e=>Zab e λx ex e=>?_;subst et;obtain⟨v,hx,hr⟩:=Zdu r ex;have b63:=ZcF em q;exact ZbP (ZaV<|R.z _ _ z).typeIs slot_tuple_getitem.lookup<|getItem_tuple (ZaV<|R.z _ _ z) b63.1 b63.2 (by rw[r.toArr];exact ZcR em) hx<|h v x s.toks hr e
 |str t u ok z=>
  refine Zab e λi ei e=>(key i ei).elim λtk et=>?_;subst et;obtain⟨h0,e⟩:=e;refine Zab e λc hc e=>?_;have hlt:i.toNat<t.cps.size:=(Array.getElem?_eq_some_iff.mp hc).1
  have pi:pyIdx i t.length=some i.toNat:=by unfold pyIdx;rw[if_pos h0,if_pos<|show i<((t.length:Nat):Int) from(Int.toNat_lt h0).mp hlt]
  have b63:=ZcF pi z;refine ZbP (typeIs_str s _ _) slot_str_getitem.lookup<|PyProof.Rows.getItem_str ?_ ?_ ?_ (c:=c)
  ·rw[Df<|Int.not_lt.mpr b63.1,Df<|Int.not_le.mpr b63.2];rfl
  ·rw[ZcR pi];exact hc
  ·exact h _ _ _ (.str _ _ (ZlK ok hc) (by show 1<=SZ;decide)) e
 |_=>exact Zab e λø ø e=>e.elim
end
theorem ZcG{x:Int}{n:Nat}(h:0<=x):min x (n:Int)=((min x.toNat n:Nat):Int):=by
 obtain⟨k,rfl⟩:=Int.eq_ofNat_of_zero_le h
 show min (k:Int) n=((min k n:Nat):Int)
 by_cases h:k<=n
 ·rw[Int.min_eq_left<|Int.ofNat_le.mpr h,Nat.min_eq_left h]
 ·rw[Int.min_eq_right<|Int.ofNat_le.mpr<|Nat.le_of_not_le h,Nat.min_eq_right<|Nat.le_of_not_le h]
theorem max0{n:Nat}:max 0 (n:Int)=n:=Int.max_eq_right<|natCast_nonneg n
theorem ZiB{α:Type}(l:List α)(a b:Nat):(l.drop<|min a l.length).take (min b l.length - min a l.length)=(l.drop a).take (b - a):=by
 rw[kmk_drop_min]
 by_cases c1:a<=l.length
 ·rw[Nat.min_eq_left c1]
  by_cases c2:b<=l.length
  ·rw[Nat.min_eq_left c2]
  ·rw[Nat.min_eq_right<|Nat.le_of_not_le c2,List.take_of_length_le (by rw[List.length_drop];exact Zr _),List.take_of_length_le (by rw[List.length_drop];exact Nat.sub_le_sub_right (Nat.le_of_not_le c2) _)]
 ·rw[List.drop_of_length_le<|Nat.le_of_not_le c1,List.take_nil,List.take_nil]
theorem Zg5{vs:Array Value}{xs:List V}(hv:VRs X W vs.toList xs){lo hi:Option Int}(h1:notNeg lo=true)(h2:notNeg hi=true):VRs X W (slicePick vs lo hi none).toList (slL xs lo hi):=by
 have key:∀(a b:Nat),sliceBounds lo hi none vs.size=((a:Int),(b:Int),1)->VRs X W (slicePick vs lo hi none).toList ((xs.drop a).take<|b - a):=λa b e=>by
  rw[kmk_pick_nat _ e];exact(hv.drop a).take (b - a)
 have z:=hv.toArr;have neg:∀{x:Int},0<=x->¬ x<0:=λh=>Int.not_lt.mpr h
 induction lo with
 |none=>
  induction hi with
  |none=>
   have:=key 0 vs.size (by simp[sliceBounds]);rw[z,Nat.sub_zero,List.drop_zero,List.take_length]at this;exact this
  |some y=>
   have hy:0<=y:=Od h2
   have e:sliceBounds none (some y) none vs.size=(((0:Nat):Int),((min y.toNat vs.size:Nat):Int),1):=by
    simp only[sliceBounds,Option.getD_none,show(1:Int) > 0 by decide,if_true,if_neg<|neg hy,ZcG hy];rfl
   have:=key _ _ e;rw[z,Nat.sub_zero,List.drop_zero,kmk_take_min]at this;exact this
 |some x=>
  have hx:0<=x:=Od h1
  induction hi with
  |none=>
   have e:sliceBounds (some x) none none vs.size=(((min x.toNat vs.size:Nat):Int),((vs.size:Nat):Int),1):=by
    simp only[sliceBounds,Option.getD_none,show(1:Int) > 0 by decide,if_true,if_neg<|neg hx,ZcG hx,max0]
   have:=key _ _ e;rw[z,kmk_drop_min,List.take_of_length_le (by rw[List.length_drop];exact Nat.sub_le_sub_left (Nat.min_le_left _ _) _)]at this;exact this
  |some y=>
   have hy:0<=y:=Od h2
   have e:sliceBounds (some x) (some y) none vs.size=(((min x.toNat vs.size:Nat):Int),((min y.toNat vs.size:Nat):Int),1):=by
    simp only[sliceBounds,Option.getD_none,show(1:Int) > 0 by decide,if_true,if_neg<|neg hx,if_neg<|neg hy,ZcG hx,ZcG hy,max0]
   have:=key _ _ e;rw[z,ZiB]at this;exact this
theorem Zg6{v:Value}{o:Option V}{i:Option Int}(hv:VR X W v (o.getD .none))(e:optI o=some i):IsPart v i:=by
 induction o with
 |none=>obtain rfl:=Sj e;cases hv;exact .none
 |some x=>
  induction x using V.casesOn with
  |int i=>obtain rfl:=Sj e;cases hv;exact .int _ _
  |_=>exact noS e
noncomputable abbrev slO(a b c:Value):Obj:={ cls:=.type "slice",data:=.fields #[a,b,c] }
theorem Zo1{xs ys:List V}{lo hi:Option Int}{G:Prop}(h:slT xs lo hi=some ys)(hn:notNeg hi=true)(g:∀j:Nat,lo=none->hi=some (j:Int)->j<xs.length->ys=xs.take j->G):G:=by
 induction lo with
 |some _=>exact noS h
 |none=>
  induction hi with
  |none=>exact noS h
  |some i=>
   have h:cond (blt i.toNat xs.length) (some<|xs.take i.toNat) none=some ys:=h
   induction q:blt i.toNat xs.length with
   |false=>rw[q]at h;exact noS h
   |true=>
    rw[q]at h;obtain rfl:=Sj h;have h0:0<=i:=Od hn;exact g i.toNat rfl (congrArg some (Int.toNat_of_nonneg h0).symm) (Bq q) rfl
section
variable (o:OpQ X fz W H s k Q)(R:RelH X W H s.heap)
include o R
theorem OpQ.behind{ob:Obj}:OpQ X fz W H { s with heap:=s.heap.push ob } k Q/\RelH X W H (s.heap.push ob):=by
 have hp:∀b o,s.heap.get? b=some o->(s.heap.push ob).get? b=some o:=λø ø q=>Heap.get?_push_of_some _ q
 have S1':Stp noPv W H s.heap W H (s.heap.push ob):=.quiet (λa o q ø=>hp a o q) λa o q=>⟨o,hp a o q⟩
 exact⟨⟨λr v' s' W' H' T z q=>o.out r v' s' W' H' ⟨S1'.trans T.stp,T.rel,⟨T.rest.gens,T.rest.drawn,T.rest.os⟩⟩ z q,o.sz⟩,R.quiet (Pv:=noPv) (λa o q ø=>hp a o q) λø z=>z.elim⟩
theorem ZpD{a vl vu:Value}{x:V}{lo hi:Option Int}(ha:Sn X W s.heap a x)(pl:IsPart vl lo)(pu:IsPart vu hi)(e:slK x lo hi k):
  Yw A (newFields "slice" [vl,vu,.none]) (λi s1'=>Yw A (subscriptTail value slice a i) Q E s1') E s:=by
 obtain⟨h1,h2,e⟩:=e;obtain⟨o1',R1⟩:=o.behind R (ob:=slO vl vu .none);refine wpAny_newObj_type ?_
 cases ha with
 |lst g r q z=>
  have hg1:=Heap.get?_push_of_some (slO vl vu .none) g
  exact ZbP (s:={ s with heap:=s.heap.push (slO vl vu .none) }) ⟨_,hg1,rfl⟩ list_getitem_lookup
   (wpAny_getItem_list_slice (Zaq hg1) (Heap.IsSliceOf.new ..) pl pu .none (by simp) (o1'.push (n:=0) R1 (Zg5 r h1 h2) e) (by rw[z];exact szLine q))
 |@tup l vs n xs g r q z=>
  have hg1:=Heap.get?_push_of_some (slO vl vu .none) g;refine Zab e λys ey e=>Zo1 ey h2 λj e1 e2 hj e3=>?_;subst e1 e2 e3
  cases pl
  cases pu with
  |int _ t=>
   refine ZbP (s:={ s with heap:=s.heap.push (slO .none (.int j t) .none) }) ⟨_,hg1,rfl⟩ slot_tuple_getitem.lookup (ZcD (ZaV hg1) (Heap.IsSliceOf.new ..) (by rw[z];exact hj) ?_ (by rw[z];exact szLine q));exact o1'.fro (tk:=s.toks) R1 (λø ø e=>Heap.get?_push_of_some _ e) (Zae _) (Heap.get?_push_size _ rfl) (.tup (n:=0) ZaP ((r.take j).le<|R1.leZ<|Zae _)<|Nt (by rw[List.length_take];exact Nat.min_le_right _ _) q) e
 |_=>exact e.elim
end
theorem ZfF(c:Int)(n:Nat):∀(a:Int)(k:Nat),k<n->(rngL a c n)[k]?=some (.int<|a+k * c):=by
 induction n with
 |zero=>intro a k h;exact absurd h<|not_lt_zero _
 |succ n ih=>
  intro a k h
  induction k using Nat.casesOn with
  |zero=>show some (V.int a)=_;rw[Int.natCast_zero,Int.zero_mul,Int.add_zero]
  |succ k=>
   show(rngL (a+c) c n)[k]?=_;rw[ih (a+c) k<|Nat.lt_of_succ_lt_succ h,Int.natCast_succ,Int.add_mul,Int.one_mul,Int.add_assoc,Int.add_comm c]
theorem Zbm(c:Int)(n:Nat):∀a:Int,(rngL a c n).length=n:=by
 induction n with
 |zero=>intro a;rfl
 |succ n ih=>intro a;exact congrArg (·+1)<|ih<|a+c
theorem VRs.ofGet(hl:vs.length=xs.length)(h:∀(k:Nat)(v:Value)(x:V),vs[k]?=some v->xs[k]?=some x->VR X W v x):VRs X W vs xs:=by
 induction vs generalizing xs with
 |nil=>induction xs using List.casesOn with
  |nil=>exact .nil
  |cons=>injection hl
 |cons v vs ih=>induction xs using List.casesOn with
  |nil=>injection hl
  |cons x xs=>exact .cons (h 0 v x rfl rfl)<|ih (Nat.succ.inj hl) λk v x a b=>h (k+1) v x a b
theorem Zj5{a b:Int}(ha:a.natAbs<=SZ)(hb:b.natAbs<=SZ):(b - a).toNat<=2097152:=by
 unfold SZ at ha hb;exact Int.toNat_le.mpr<|It (Int.sub_le_sub (It Int.le_natAbs<|ld2 hb)<|lj8 (b:= -1048576) ha rfl)<|by decide
theorem Zg7{a b c:Int}(hc:c=1\/c= -1)(ha:a.natAbs<=SZ)(hb:b.natAbs<=SZ):rngN a b c<=2097152:=by
 unfold rngN
 rcases hc with rfl |rfl
 ·rw[if_pos rfl];exact Zj5 ha hb
 ·rw[if_neg<|by decide,if_pos rfl];exact Zj5 hb ha
theorem ZkD{x:Int}(hx:x.natAbs<=4194304):Builtin.Range.rangeFitsLong x=true:=by
 unfold Builtin.Range.rangeFitsLong;rw[Bool.and_eq_true];exact⟨Dq<|by exact lj8 hx rfl,Dq<|by exact lj9 hx rfl⟩
theorem Zey{a b c:Int}(hc:c=1\/c= -1)(ha:a.natAbs<=SZ)(hb:b.natAbs<=SZ):Builtin.Range.small a b c=true:=by
 have hn:=Zg7 hc ha hb;unfold Builtin.Range.small;rw[Zef hc];unfold SZ at *;have f:=λx=>ZkD (x:=x);rw[f a<|by exact la7 ha rfl,f b<|by exact la7 hb rfl,f _ (la7 hn rfl:((rngN a b c:Nat):Int).natAbs<=4194304)]
 rcases hc with rfl |rfl
 ·rw[f 1<|by decide];simp only[show(1:Int) > 0 by decide,if_true,Bool.true_and,Bool.or_eq_true];exact .inr<|f _ (by rw[Int.sub_self,Int.add_zero];exact la7 hb rfl)
 ·rw[f (-1)<|by decide];simp only[show ¬ ((-1:Int) > 0) by decide,if_false,Bool.true_and,Bool.or_eq_true];exact .inr<|f _<|by omega
def quietB(A:Around)(b:B):Prop:=A.handled=none\/b=.len\/b=.isinstance
theorem Zn1{x:V}{n:Nat}(o:OpQ X fz W H s k Q)(R:RelH X W H s.heap)(hv:VR X W v x)(e:lenH H x=some n)(h:k (.val<|.int n)):Yw A (call (bval .len) [v]) Q E s:=by
 have lst:∀{l:Addr}{vs:Array Value}{m:Nat}{xs:List V},s.heap.get? l=some (lstO vs m)->VRs X W vs.toList xs->xs.length<=SZ->some xs.length=some n->Yw A (call (bval .len) [.ref l]) Q E s:=λ{l vs m xs} g r q e=>by
  refine call_len_list (Zaq g) (by rw[r.toArr];exact sz63 q) ?_;rw[r.toArr,Sj e];exact o.val R (.int ..) h
 cases hv with
 |str t u ok z=>exact PySem.P.len_str (Int.not_le.mpr<|sz63 z) (by rw[Sj e];exact o.val R (.int ..) h)
 |tup z r q=>
  refine len_tuple (ZaV<|R.z _ _ z) (by rw[r.toArr];exact sz63 q) ?_;rw[r.toArr,Sj e];exact o.val R (.int ..) h
 |lst z r q=>exact lst (R.z _ _ z) r q e
 |@ref i l hl=>
  have e:(match H.get i with |some (.list xs)=>some xs.length |some (.dict kvs)=>some kvs.length |_=>none)=some n:=e
  induction hc:H.get i with
  |none=>rw[hc]at e;exact noS e
  |some c=>
   rw[hc]at e;have q:=R.at_ hc hl
   induction c with
   |list xs=>obtain⟨vs,m,g,r,_,z⟩:=q;exact lst g r z e
   |dict kvs=>
    obtain⟨es,d,r,_,ne,z⟩:=q;refine call_len_dict ne d (by rw[r.len];exact sz63 z) ?_;rw[r.len,Sj e];exact o.val R (.int ..) h
   |_=>exact noS e
 |_=>exact noS e
theorem ZpE{b:B}{x:V}(o:OpQ X fz W H s k Q)(hh:quietB A b)(R:RelH X W H s.heap)(hv:VR X W v x)(e:b1K b (see H x) (lenH H x) k):Yw A (call (bval b) [v]) Q E s:=by
 have hq:(b≠.len/\b≠.isinstance)->A.handled=none:=λz=>hh.elim id λq=>(q.elim (λq=>absurd q z.1) λq=>absurd q z.2)
 induction b with
 |len=>exact Zab e λn en e=>Zn1 o R hv en e
 |list=>
  refine Zab e λy ey e=>Zab e λxs ex e=>?_
  cases Zap R hv ey with
  |lst g r q z=>obtain rfl:=Eq.symm<|Sj ex;exact call_list_seq _ (.inl rfl) g rfl rfl (λh' c' hk ha=>o.list R r hk (Zae _) ha e) (by rw[z];exact szLine q)
  |tup g r q z=>obtain rfl:=Eq.symm<|Sj ex;exact call_list_seq _ (.inr rfl) g rfl rfl (λh' c' hk ha=>o.list R r hk (Zae _) ha e) (by rw[z];exact szLine q)
  |@rng rr a b c t u v z p q hc=>
   obtain rfl:=Sj ex;refine call_list_range (hq ⟨(nomatch ·),(nomatch ·)⟩) z (Zey hc p q) (Zef hc) (Nt (Zg7 hc p q)<|by decide) λh' tk acc' c' hk ha hacc=>o.list R (vs:=acc') (VRs.ofGet ?_ λk v x e1 e2=>?_) hk (Zae _) ha e
   ·rw[Zbm,Array.length_toList];exact hacc.1
   ·have hk':k<rngN a b c:=by
     have:=(List.getElem?_eq_some_iff.mp e2).1;rwa [Zbm]at this
    rw[ZfF _ _ _ _ hk']at e2;obtain rfl:=Sj e2;obtain⟨t,q⟩:=hacc.2 k v (by rw[← Array.getElem?_toList];exact e1);rw[q];exact .int _ _
  |_=>exact noS ex
 |sorted=>
  refine Zab e λy ey e=>Zab e λxs ex e=>Zab e λis ei e=>?_;obtain⟨l,vs,n,rfl,g,r,q,z⟩:=(Zap R hv ey).toLst ex;have I:=ZdX r ei;refine sorted_ints (vs:=vs.toList) (by simpa using Zaq g) I (by rw[I.length];exact e.1) λout ns' ho hp hs=>?_;rw[ZfW hp hs]at ho;exact(sortedAll_at s.heap vs.toList out).elim λc hc=>o.list R (Zfn ho) (λø ø q=>sortedAll_old q) (Heap.get?_none_of_le<|Us _) hc e.2
 |int=>
  refine Zab e λy ey e=>Zab e λc ec e=>?_;rw[(Zap R hv ey).toBool ec];refine PySem.call_int_bool ?_
  induction c <;> exact o.val R (.int ..) e
 |range=>exact Zab e λy ey e=>Zab e λn en e=>((Zap R hv ey).toInt en).elim λt q=>q▸call_range_1 (o.fro R (λø ø e=>Heap.get?_push_of_some _ e) (Zae _) (Heap.get?_push_size _ rfl) (.rng ZaP (by decide) e.1<|.inl rfl) e.2)
 |_=>exact e.elim
theorem Zpq{b:B}{w:Value}{x:V}(o:OpQ X fz W H s k Q)(hh:quietB A b)(R:RelH X W H s.heap)(h1:VR X W v x)(h2:VR X W w y)(e:need (see H x) λx=>need (see H y) λy=>b2K b x y k):Yw A (call (bval b) [v,w]) Q E s:=by
 have hq:(b≠.len/\b≠.isinstance)->A.handled=none:=λz=>hh.elim id λq=>(q.elim (λq=>absurd q z.1) λq=>absurd q z.2)
 induction b with
 |max=>
  refine Zfr R h1 h2 e λi j t u q q' e=>?_;subst q q';refine max_two_ints (hq ⟨(nomatch ·),(nomatch ·)⟩) λh' tk hk=>?_
  split
  ·rename_i c;exact o.more R hk (x:=.int<|if j > i then j else i) (by rw[if_pos c];exact .int _ _) e
  ·rename_i c;exact o.more R hk (x:=.int<|if j > i then j else i) (by rw[if_neg c];exact .int _ _) e
 |min=>
  refine Zfr R h1 h2 e λi j t u q q' e=>?_;subst q q';refine min_two_ints (hq ⟨(nomatch ·),(nomatch ·)⟩) λh' tk hk=>?_
  split
  ·rename_i c;exact o.more R hk (x:=.int<|if j<i then j else i) (by rw[if_pos c];exact .int _ _) e
  ·rename_i c;exact o.more R hk (x:=.int<|if j<i then j else i) (by rw[if_neg c];exact .int _ _) e
 |range=>
  refine Zfr R h1 h2 e λi j t u q q' e=>?_;subst q q';exact call_range_2<|o.fro R (λø ø e=>Heap.get?_push_of_some _ e) (Zae _) (Heap.get?_push_size _ rfl) (.rng ZaP e.1.1 e.1.2<|.inl rfl) e.2
 |_=>exact Zab e λø ø e=>Zab e λø ø e=>e.elim
theorem Zpo{b:B}{u w:Value}{x z:V}(o:OpQ X fz W H s k Q)(R:RelH X W H s.heap)(h1:VR X W u x)(h2:VR X W v y)(h3:VR X W w z)(e:need (see H x) λx=>need (see H y) λy=>need (see H z) λz=>b3K b x y z k):Yw A (call (bval b) [u,v,w]) Q E s:=by
 induction b with
 |range=>
  refine Zab e λx ex e=>Zab e λy ey e=>Zab e λz ez e=>Zab e λc ec e=>((Zap R h3 ez).toInt ec).elim λt q=>Zab e λi ei e=>Zab e λj ej e=>((Zap R h1 ex).toInt ei).elim λt1 q1=>((Zap R h2 ey).toInt ej).elim λt2 q2=>?_;subst q q1 q2;obtain⟨⟨n1,n2,rfl⟩,e⟩:=e;exact call_range_3 (by decide) (o.fro R (λø ø e=>Heap.get?_push_of_some _ e) (Zae _) (Heap.get?_push_size _ rfl) (.rng ZaP n1 n2<|.inr rfl) e)<|.inl<|PyProof.noPylong_small<|by decide
 |_=>exact Zab e λø ø e=>Zab e λø ø e=>Zab e λø ø e=>e.elim
theorem ZiX{K:Frag}{b:B}(o:OpQ X fz W H s k Q)(I:IsiK X K)(hh:quietB A b)(R:RelH X W H s.heap)(hv:VRs X W vs xs)(e:callB X.P H b xs k):Yw A (call (bval b) vs) Q E s:=by
 cases hv with
 |nil=>exact e.elim
 |cons h1 r=>
  cases r with
  |nil=>exact ZpE o hh R h1 e
  |cons h2 r=>
   cases r with
   |nil=>
    refine ZpY e (λq e=>?_) λø e=>Zpq o hh R h1 h2 e
    induction b with
    |isinstance=>exact Zoe I R h1 h2 e λr tk z=>o.val R (.bool _) z
    |_=>exact noT q
   |cons h3 r=>
    cases r with
    |nil=>exact Zpo o R h1 h2 h3 e
    |cons _ _=>exact e.elim
structure AOk2(A:Around)(n:Nat):Prop where
 depth:A.depth+4 * n+6<recursionLimit
 units:A.units+20 * n+110<cLine
theorem AOk2.room{n:Nat}(h:AOk2 A n):Room A:=by have:=h.units;unfold Room;exact lk6 this rfl
theorem AOk2.call{n:Nat}(h:AOk2 A n):AOk A n:=⟨lk7 h.depth rfl,lk7 h.units rfl⟩
structure EnvOk(X:Cx)(A:Around)(env:Env)(Pv:Pr)(n:Nat)(sc:Sc):Prop where
 stk:A.frames=some Pv.st
 top:env.func≠none->env.frame≠none/\∃outer,Pv.st=env::outer
 ok:AOk2 A n
 hh:sc.hd=true->A.handled=none
 kind:env.scope.kind=.function
 glob:env.globals=mainGlobals
 bi:env.builtins=builtinsNs
 names:∀x k,sc.sc.names.lookup x=some k->env.kindOf x=some k\/(k=.free/\env.kindOf x=some .cell)
 cl:∀x,env.kindOf x=some .cell\/env.kindOf x=some .free->∃c,env.cells.lookup x=some c
theorem vNone{v:V}(h:isNone v=true):v=.none:=by induction v using V.casesOn <;> first |rfl |exact noT h
theorem vBool{v:V}(h:aBool v=some b):v=.bool b:=by induction v using V.casesOn <;> first |(obtain rfl:=Eq.symm<|Sj h;rfl) |exact noS h
theorem vStr{v:V}{b:Str}(h:aStr v=some b):v=.str b:=by induction v using V.casesOn <;> first |(obtain rfl:=Eq.symm<|Sj h;rfl) |exact noS h
def SE(X:Cx)(n:Nat)(sc:Sc)(p:PE)(e:Expr):Prop:=∀(A:Around)(env:Env)(Pv:Pr)(W:Wd)(σ:St)(s:Shared)(Q:Yq)(E:EP),
 EnvOk X A env Pv n sc->At X env Pv W σ s->wpE X.P (CW X.P n) E p σ Q->Ew X A env Pv (eval e env) W σ s (VQ X Q) E
def BQ(Q:Yt)(b:Bool)(_:Wd)(σ:St)(_:Shared):Prop:=Q b σ
def ST(X:Cx)(n:Nat)(sc:Sc)(p:PC)(e:Expr):Prop:=∀(A:Around)(env:Env)(Pv:Pr)(W:Wd)(σ:St)(s:Shared)(Q:Yt)(E:EP),
 EnvOk X A env Pv n sc->At X env Pv W σ s->wpT X.P (CW X.P n) E p σ Q->Ew X A env Pv (isTrue e env<|eval e env) W σ s (BQ Q) E
inductive VsQ(X:Cx)(Q:Yl)(vs:List Value)(W':Wd)(σ':St)(s':Shared):Prop
 |mk (avs:List V) (r:VRs X W' vs avs) (h:Q avs σ')
def SEs(X:Cx)(n:Nat)(sc:Sc)(p:PEs)(es:List Expr):Prop:=∀(A:Around)(env:Env)(Pv:Pr)(W:Wd)(σ:St)(s:Shared)(Q:Yl)(E:EP),
 EnvOk X A env Pv n sc->At X env Pv W σ s->wpEs X.P (CW X.P n) E p σ Q->Ew X A env Pv (spliced<|es.map λe=>(false,eval e env)) W σ s (VsQ X Q) E
section
variable {env:Env}{E:EP}
theorem At.toks(at_:At X env Pv W σ s):At X env Pv W σ { s with toks:=tk }:=⟨at_.rel,at_.fr⟩
theorem At.tf(at_:At X env Pv W σ s):Tf X env Pv W σ s W σ { s with toks:=tk }:=⟨.refl,at_.toks,⟨rfl,rfl,rfl⟩⟩
theorem At.fin{α:Type}{R:α->Wd->St->Shared->Prop}{v:α}(at_:At X env Pv W σ s)(h:R v W σ { s with toks:=tk }):Go X env Pv W σ s R v { s with toks:=tk }:=⟨W,σ,at_.tf,h⟩
theorem At.val{Q:Yq}{x:V}(at_:At X env Pv W σ s)(r:VR X W v x)(h:Q x σ):Go X env Pv W σ s (VQ X Q) v { s with toks:=tk }:=at_.fin ⟨x,r,h⟩
theorem At.bl{Q:Yt}(at_:At X env Pv W σ s)(h:Q b σ):Go X env Pv W σ s (BQ Q) b { s with toks:=tk }:=at_.fin (R:=BQ Q) h
theorem At.op{Q:Yq}(at_:At X env Pv W σ s):OpQ X fz W σ.H s (give fz σ Q) (Go X env Pv W σ s<|VQ X Q) where
 sz:=λø h=>h.1
 out:=λr v' s' W' H' T q g=>by
  have t:=T.tf at_
  induction r with
  |val x=>obtain⟨a,rfl⟩:=q;exact⟨_,_,t,x,a,g⟩
  |newList xs=>induction fz <;> (obtain⟨a,rfl⟩:=q;exact⟨_,_,t,_,a,g.2⟩)
theorem VQ.e{Q:Yq}(q:VQ X Q v W σ s)(g:∀x,VR X W v x->Q x σ->G):G:=by obtain⟨x,r,h⟩:=q;exact g x r h
theorem VsQ.e{Q:Yl}{v:List Value}(q:VsQ X Q v W σ s)(g:∀x,VRs X W v x->Q x σ->G):G:=by obtain⟨x,r,h⟩:=q;exact g x r h
theorem Go.e{α:Type}{R:α->Wd->St->Shared->Prop}{a:α}{s':Shared}(q:Go X env Pv W σ s R a s')(g:∀W' σ',Tf X env Pv W σ s W' σ' s'->R a W' σ' s'->G):G:=by obtain⟨W',σ',t,r⟩:=q;exact g W' σ' t r
theorem SE.bind{β:Type}{e:Expr}{Q:Yq}{f:Value->Sem β}{R:β->Wd->St->Shared->Prop}(he:SE X n sc p e)(ok:EnvOk X A env Pv n sc)(at_:At X env Pv W σ s)(hw:wpE X.P (CW X.P n) E p σ Q)
  (g:∀v W1 σ1 s1' x,At X env Pv W1 σ1 s1'->Wd.Le W W1->VR X W1 v x->Q x σ1->Ew X A env Pv (f v) W1 σ1 s1' R E):Ew X A env Pv (eval e env >>= f) W σ s R E:=
 Ew.bindT ((he A env Pv W σ s _ E ok at_ hw).mono λv W1 σ1 s1' ø q at1 le=>q.e λx r h=>g v W1 σ1 s1' x at1 le r h)
theorem SE.hold{β:Type}{e:Expr}{Q:Yq}{f:Value->Sem β}{R:β->Wd->St->Shared->Prop}(he:SE X n sc p e)(ok:EnvOk X A env Pv n sc)(at_:At X env Pv W σ s)(hw:wpE X.P (CW X.P n) E p σ Q)
  (g:∀v W1 σ1 s1' x,At X env Pv W1 σ1 s1'->Wd.Le W W1->VR X W1 v x->Q x σ1->Ew X A env Pv (f v) W1 σ1 s1' R E):Ew X A env Pv (holding vs (eval e env) >>= f) W σ s R E:=
 Ew.bindT (Ew.holding<|(he A env Pv W σ s _ E ok at_ hw).mono λv W1 σ1 s1' ø q at1 le=>q.e λx r h=>g v W1 σ1 s1' x at1 le r h)
theorem SE.two{β:Type}{Q:V->Yq}{f:Value->Value->Sem β}{R:β->Wd->St->Shared->Prop}(hl:SE X n sc l l')(hr:SE X n sc r r')(ok:EnvOk X A env Pv n sc)(at_:At X env Pv W σ s)(hw:wpE X.P (CW X.P n) E l σ λx σ1=>wpE X.P (CW X.P n) E r σ1<|Q x)
  (g:∀a b W1 σ1 s1' x y,At X env Pv W1 σ1 s1'->VR X W1 a x->VR X W1 b y->Q x y σ1->Ew X A env Pv (f a b) W1 σ1 s1' R E):Ew X A env Pv (eval l' env >>= λa=>holding [a] (eval r' env) >>= f a) W σ s R E:=
 hl.bind ok at_ hw λa W1 σ1 s1' x at1 le hx h1'=>hr.hold ok at1 h1' λb W2 σ2 s2' y at2 le2' hy h2'=>g a b W2 σ2 s2' x y at2 (hx.le le2') hy h2'
theorem bk(K:CxOk X)(R:RelH X W σ.H s.heap){a:Addr}{m:Str->Option Value}(h:X.hb.Ns a m):s.heap.Ns a m:=h.keeps R.bkeep
theorem Zls{v:V}{c:Const}{k:Nat}{pos:Pos}(hc:chkC v c=true):SE X n sc (.cst v) (.Constant c k pos):=by
 intro A env Pv W σ s Q E ok at_ h;show wpAny _ A (constValue env c) _ _ s
 induction c with
 |none=>obtain rfl:=vNone hc;exact Yp<|at_.val (tk:=s.toks) .none h
 |bool b=>exact ZaL (o:=aBool v) (f:=λc=>c==b) hc λc e q=>by obtain rfl:=vBool e;obtain rfl:=Eq.symm<|beq_iff_eq.mp q;exact Yp<|at_.val (tk:=s.toks) (.bool _) h
 |int i=>exact ZaL (o:=aInt v) (f:=λc=>decide<|c=i) hc λc e q=>by obtain rfl:=vInt e;obtain rfl:=Eq.symm<|Od q;exact wpAny_mkInt<|at_.val (.int _ _) h
 |str t=>exact ZaL (o:=aStr v) (f:=λc=>decide (c=t)&&PyData.strOk t&&decide (t.length<=SZ)) hc λc e q=>Zah q λq1 q2 q3=>by obtain rfl:=vStr e;obtain rfl:=Eq.symm<|Od q1;exact wpAny_mkText<|at_.val (.str _ _ q2<|Od q3) h
 |_=>exact noT hc
theorem Zea{v:V}(ok:EnvOk X A env Pv n sc)(at_:At X env Pv W σ s)(hk:kLoc sc (X.nm i)=true)(hd:nDbg (X.nm i)=true)(ev:σ.loc i=some v)
  (fin:∀cv,VR X W cv v->Q cv s):Yw A (loadName env<|X.nm i) Q Ex s:=by
 have hd:=(and2 hd).2
 have cellc:env.kindOf (X.nm i)=some .cell->Yw A (loadName env<|X.nm i) Q Ex s:=λq=>by
  obtain⟨c,cv,a,b,r⟩:=at_.fr.cells i v ev<|.inl q;exact wpAny_loadName_cell ok.kind q a b<|fin cv r
 have key:∀k,sc.sc.names.lookup (X.nm i)=some k->nkNo k≠0->nkNo k≠4->Yw A (loadName env<|X.nm i) Q Ex s:=λk e h0 h4=>by
  rcases ok.names _ _ e with q |⟨_,q⟩
  ·induction k with
   | «local»=>
    obtain⟨m,hn,hm⟩:=at_.fr.ns;obtain⟨cv,hcv,r⟩:=hm i v ev q;exact wpAny_loadName_local ok.kind q hn hcv<|fin cv r
   |cell=>exact cellc q
   |free=>
    obtain⟨c,cv,a,b,r⟩:=at_.fr.cells i v ev<|.inr q;exact wpAny_loadName_free ok.kind q a b (fin cv r)<|Bool.not_eq_true' _▸hd
   |globalExplicit=>exact absurd rfl h0
   |globalImplicit=>exact absurd rfl h4
  ·exact cellc q
 exact Zao hk λh1 h2=>by
  have h1:=Bq h1;have h2:=Bq h2
  induction q:sc.sc.names.lookup (X.nm i) with
  |none=>
   have e:knd sc (X.nm i)=0:=by unfold knd;rw[q]
   rw[e]at h1;exact absurd h1<|by decide
  |some k=>
   have e:knd sc (X.nm i)=nkNo k:=by unfold knd;rw[q]
   rw[e]at h1 h2
   exact key k q (λz=>by rw[z]at h1;exact absurd h1<|by decide) λz=>by rw[z]at h2;exact absurd h2<|by decide
theorem Zha(h:nDbg x=true):(x==("__debug__":Str))=false:=Bool.not_eq_true' _▸(and2 h).1
theorem Zmm{pos:Pos}(hx:x=X.nm i)(hk:kLoc sc x=true)(hd:nDbg x=true):SE X n sc (.loc i) (.Name x pos):=by
 intro A env Pv W σ s Q E ok at_ h;subst hx;exact Zab h λv ev hq=>wpAny_Name (Zea ok at_ hk hd ev λcv r=>at_.val (tk:=s.toks) r hq)<|Zha hd
theorem Zc7(K:CxOk X){pos:Pos}{v:V}(ok:EnvOk X A env Pv n sc)(at_:At X env Pv W σ s)(hx:x=X.nm i)(hk:kGlob sc x=true)(hd:nDbg x=true)(ev:X.P.glob i=some v)
  (fin:∀cv,(∀W,VR X W cv v)->Q cv s):Yw A (eval (.Name x pos) env) Q Ex s:=by
 subst hx;refine wpAny_Name ?_<|Zha hd;have e:=Zew (Bz hk)<|by decide
 have q:env.kindOf (X.nm i)=some .globalImplicit:=(ok.names _ _ e).elim id λz=>nomatch z.1
 rw[loadName_read ok.kind q]
 induction K.glob i v ev with
 |main cv mg ng hv r=>exact loadGlobal_global (by rw[ok.glob];exact bk K at_.rel ng) hv<|fin cv r
 |bi cv mg mb ng nb hv hb r=>exact loadGlobal_builtin (by rw[ok.glob];exact bk K at_.rel ng) hv (by rw[ok.bi];exact bk K at_.rel nb) hb<|fin cv r
theorem ZbN(K:CxOk X){pos:Pos}(hx:x=X.nm i)(hk:kGlob sc x=true)(hd:nDbg x=true):SE X n sc (.glob i) (.Name x pos):=
 λA env Pv W σ s Q E ok at_ h=>Zab h λv ev hq=>Zc7 K ok at_ hx hk hd ev λcv r=>at_.val (tk:=s.toks) (r W) hq
theorem Zf9{M:Model}{m:Sem Value}(h:wpAny M A m Q Ex s):wpAny M A (operate vs m) Q Ex s:=by
 intro Γ p hΓ;rw[Sem.wp_operate];exact h Γ p hΓ
theorem Zlv{op:BOp}{pos:Pos}(hl:SE X n sc l l')(hr:SE X n sc r r'):SE X n sc (.bin fz op l r) (.BinOp l' (opOf op) r' pos):=by
 intro A env Pv W σ s Q E ok at_ h;rw[eval_BinOp];exact hl.two hr ok at_ h λa b W1 σ1 s1' x y at1 hx hy h1'=>Ew.standAt<|Ew.operate (Zab h1' λx' ex h1'=>Zab h1' λy' ey h1'=>ZoF at1.op at1.rel (Zap at1.rel hx ex) (Zap at1.rel hy ey) h1')
theorem Zmr{e:PE}{x:Expr}{pos:Pos}(he:SE X n sc e x):SE X n sc (.neg e) (.UnaryOp .USub x pos):=λA env Pv W σ s Q E ok at_ h=>
 he.bind (f:=λv=>do standAt pos;holding [v] (unaryOp .USub v)) ok at_ h λa W1 σ1 s1' y at1 ø hy h1'=>Zab h1' λi ei h1'=>ZbG hy ei λt q=>by
  subst q;exact Ew.standAt<|Ew.holding<|neg_int<|at1.val (.int _ _) h1'
theorem ZkQ{e:PE}{x:Expr}{pos:Pos}(he:SE X n sc e x):SE X n sc (.not e) (.UnaryOp .Not x pos):=λA env Pv W σ s Q E ok at_ h=>
 he.bind (f:=λv=>do standAt pos;holding [v] (unaryOp .Not v)) ok at_ h λa W1 σ1 s1' y at1 ø hy h1'=>
  Ew.standAt (Ew.holding<|not_of<|ZcJ (y:=y) at1.rel hy h1' λb tk q=>at1.val (.bool _) q)
theorem ZcI{op:CmpOp}{e:Expr}(h:ble (xu e).tag 15=true):behindInMarks op e=false:=by
 induction e using PySem.Expr.casesOn <;> first |rfl |exact noT h
theorem At.cmp{op:COp}{a b:Value}{x:V}{k:Bool->Prop}(at_:At X env Pv W σ s)(ok:EnvOk X A env Pv n sc)(hx:VR X W a x)(hy:VR X W b y)(h:cmpK σ.H op x y k)(g:∀c tk,k c->Q (.bool c) { s with toks:=tk }):Yw A (compareOp (cmpOf op) a b) Q Ex s:=
 ZnI at_.rel ok.ok.room hx hy g h
theorem Zlp{op:COp}{pos:Pos}(hl:SE X n sc l l')(hr:SE X n sc r r')(hs:ble (xu r').tag 15=true):SE X n sc (.cmp op l r) (.Compare l' [cmpOf op] [r'] pos):=by
 intro A env Pv W σ s Q E ok at_ h;rw[eval_Compare1,markedBehindIn_of_false (ZcI hs)];exact hl.two hr ok at_ h λa b W1 σ1 s1' x y at1 hx hy h1'=>Ew.standAt<|Ew.operate (at1.cmp ok hx hy h1' λc tk q=>at1.val (.bool _) q)
theorem Zja{op:COp}{pos:Pos}(hl:SE X n sc l l')(hr:SE X n sc r r')(hs:ble (xu r').tag 15=true):ST X n sc (.e<|.cmp op l r) (.Compare l' [cmpOf op] [r'] pos):=by
 intro A env Pv W σ s Q E ok at_ h;rw[isTrue_Compare1,markedBehindIn_of_false (ZcI hs)];exact hl.two hr ok at_ h λa b W1 σ1 s1' x y at1 hx hy h1'=>Ew.standAt<|Yb (Zf9 (at1.cmp ok hx hy h1' λc tk q=>wpAny_holding<|wpAny_truthy_bool (at1.bl q)))
theorem Zeg{M:Model}{E:Yv}{ks:List Value}{Q:Unit->Shared->Prop}(h:Q () s):wpAny M A (release vs ks) Q E s:=by
 intro Γ p hΓ;rw[Sem.wp_release];exact h
theorem SE.chain{β:Type}{o:COp}{pos:Pos}{Q:V->Yt}{f:Value->Sem β}{g:Value->Sem β}{R:β->Wd->St->Shared->Prop}(hl:SE X n sc l l')(hr:SE X n sc r r')(ok:EnvOk X A env Pv n sc)(at_:At X env Pv W σ s)
  (hw:wpE X.P (CW X.P n) E l σ λx σ1=>wpE X.P (CW X.P n) E r σ1 λy σ2=>cmpK σ2.H o x y λc=>Q y c σ2)
  (h1:∀b W1 σ1 s1' y,At X env Pv W1 σ1 s1'->VR X W1 b y->Q y true σ1->Ew X A env Pv (f b) W1 σ1 s1' R E) (h2:∀W1 σ1 s1' y,At X env Pv W1 σ1 s1'->Q y false σ1->Ew X A env Pv (g<|.bool false) W1 σ1 s1' R E):
  Ew X A env Pv (eval l' env >>= λleft=>holding [left] (eval r' env) >>= λrv=>standAt pos >>= λø=>holding [left,rv] (compareOp (cmpOf o) left rv) >>= λc₁=>release [left,rv] [c₁] >>= λø=>holding [c₁,rv] (truthy c₁) >>= λt=>if t=true then f rv else g c₁) W σ s R E:=
 hl.two hr ok at_ hw λa b W1 σ1 s1' x y at1 hx hy h1'=>Ew.standAt (Yb (wpAny_holding (at1.cmp ok hx hy h1' λc tk q=>Yb (Zeg (Yb (wpAny_holding (wpAny_truthy_bool (Ew.from at1.tf (by
  induction c with
  |true=>exact h1 b W1 σ1 _ y at1.toks hy q
  |false=>exact h2 W1 σ1 _ y at1.toks q)))))))))
theorem Zd1(env:Env)(l:Expr)(o1' o2':CmpOp)(b c:Expr)(pos:Pos)(hc:behindInMarks o2' c=false):eval (.Compare l [o1',o2'] [b,c] pos) env=(eval l env >>= λleft=>holding [left] (eval b env) >>= λrv=>standAt pos >>= λø=>holding [left,rv] (compareOp o1' left rv) >>= λc₁=>release [left,rv] [c₁] >>= λø=>holding [c₁,rv] (truthy c₁) >>= λt=>if t=true then
   (do
   let rw ← holding [rv] (eval c env)
   standAt pos
   operate [rv,rw] (compareOp o2' rv rw)) else pure c₁):=by
 have:eval (.Compare l [o1',o2'] [b,c] pos) env=(do compareChain pos (← eval l env) [o1',o2'] [eval b env,markedBehindIn o2' c<|eval c env]):=rfl;rw[this,markedBehindIn_of_false hc];rfl
theorem Zdd(env:Env)(l:Expr)(o1' o2':CmpOp)(b c:Expr)(pos:Pos)(t:Sem Value)(hc:behindInMarks o2' c=false):isTrue (.Compare l [o1',o2'] [b,c] pos) env t=(eval l env >>= λleft=>holding [left] (eval b env) >>= λrv=>standAt pos >>= λø=>holding [left,rv] (compareOp o1' left rv) >>= λc₁=>release [left,rv] [c₁] >>= λø=>holding [c₁,rv] (truthy c₁) >>= λt=>if t=true then
   (do
   let rw ← holding [rv] (eval c env)
   standAt pos
   let c2' ← operate [rv,rw] (compareOp o2' rv rw)
   holding [c2'] (truthy c2')) else (λø=>pure false) c₁):=by
 have:isTrue (.Compare l [o1',o2'] [b,c] pos) env t=(do testChain pos (← eval l env) [o1',o2'] [eval b env,markedBehindIn o2' c<|eval c env]):=rfl;rw[this,markedBehindIn_of_false hc];rfl
theorem ZiC{b c:PE}{a' b' c':Expr}{pos:Pos}(ha:SE X n sc a a')(hb:SE X n sc b b')(hc:SE X n sc c c')(hs:ble (xu c').tag 15=true):SE X n sc (.cmp2 o1' o2' a b c) (.Compare a' [cmpOf o1',cmpOf o2'] [b',c'] pos):=by
 intro A env Pv W σ s Q E ok at_ h;rw[Zd1 _ _ _ _ _ _ _ (ZcI hs)];exact ha.chain hb ok at_ h (λv W1 σ1 s1' y at1 hy q=>hc.hold ok at1 q λw W2 σ2 s2' z at2 le hz q=>Ew.standAt<|Ew.operate (at2.cmp ok (hy.le le) hz q λc tk q=>at2.val (.bool _) q)) λW1 σ1 s1' y at1 q=>Ew.pure at1 ⟨_,.bool _,q⟩
theorem Zif{b c:PE}{a' b' c':Expr}{pos:Pos}(ha:SE X n sc a a')(hb:SE X n sc b b')(hc:SE X n sc c c')(hs:ble (xu c').tag 15=true):ST X n sc (.e<|.cmp2 o1' o2' a b c) (.Compare a' [cmpOf o1',cmpOf o2'] [b',c'] pos):=by
 intro A env Pv W σ s Q E ok at_ h;rw[Zdd _ _ _ _ _ _ _ _ (ZcI hs)];exact ha.chain hb ok at_ h (λv W1 σ1 s1' y at1 hy q=>hc.hold ok at1 q λw W2 σ2 s2' z at2 le hz q=>Ew.standAt<|Yb (Zf9 (at2.cmp ok (hy.le le) hz q λc tk q=>wpAny_holding<|wpAny_truthy_bool (at2.bl q)))) λW1 σ1 s1' y at1 q=>Ew.pure (R:=BQ Q) at1 q
end
end
variable {cs:PCs}{es:PEs}{W0':Wd}{σ0:St}
section
set_option backward.match.sparseCases true
open PySem PySem.W PySem.Calls PyProof.Rows
variable {c:Ck}{p r:PEs}{s s0':Shared}{x v:Expr}{vs:List Value}{xs es:List Expr}{env:Env}{E:EP}{A:Around}{Q:Option V->St->Prop}
theorem Zd8{e:Expr}{t:Sem Value}(h:plainTest e=true)(h6:tg e 6=false):
  isTrue e env t=(do let v ← t;standAt e.pos;holding [v] (truthy v)):=by
 induction e using PySem.Expr.casesOn with
 |UnaryOp op x p=>
  induction op with
  |Not=>exact noT h
  |_=>rfl
 |Compare _ _ _ _=>exact noF h6
 |BoolOp _ _ _=>exact noT h
 |IfExp _ _ _ _=>exact noT h
 |_=>rfl
theorem Zm3{e:PE}(he:SE X n sc e x)(h:plainTest x=true)(h6:tg x 6=false):ST X n sc (.e e) x:=by
 intro A env Pv W σ s Q E ok at_ hw;rw[Zd8 h h6];exact he.bind ok at_ hw λa W1 σ1 s1' y at1 ø hy h1'=>Ew.standAt<|Ew.holding (ZcJ (y:=y) at1.rel hy h1' λb tk q=>at1.bl q)
theorem ST.bind{β:Type}{p:PC}{e:Expr}{Q:Yt}{f:Bool->Sem β}{R:β->Wd->St->Shared->Prop}(he:ST X n sc p e)(ok:EnvOk X A env Pv n sc)(at_:At X env Pv W σ s)(hw:wpT X.P (CW X.P n) E p σ Q)
  (g:∀b W1 σ1 s1',At X env Pv W1 σ1 s1'->Q b σ1->Ew X A env Pv (f b) W1 σ1 s1' R E):Ew X A env Pv (isTrue e env (eval e env) >>= f) W σ s R E:=
 Ew.bindT ((he A env Pv W σ s _ E ok at_ hw).mono λv W1 σ1 s1' ø q at1 le=>g v W1 σ1 s1' at1 q)
theorem Zjt{c:PC}{pos:Pos}(hc:ST X n sc c x):ST X n sc (.not c) (.UnaryOp .Not x pos):=λA env Pv W σ s Q E ok at_ h=>
 hc.bind (f:=λb=>pure<|!b) ok at_ h λb W1 σ1 s1' at1 h1'=>Ew.pure (R:=BQ Q) at1 h1'
def SAll(X:Cx)(n:Nat)(sc:Sc)(p:PCs)(es:List Expr):Prop:=∀(A:Around)(env:Env)(Pv:Pr)(W:Wd)(σ:St)(s:Shared)(Q:Yt)(E:EP),
 EnvOk X A env Pv n sc->At X env Pv W σ s->(wpAllT X.P (CW X.P n) E p σ Q->Ew X A env Pv (allTrue .And es env) W σ s (BQ Q) E)/\(wpAnyT X.P (CW X.P n) E p σ Q->Ew X A env Pv (allTrue .Or es env) W σ s (BQ Q) E)
theorem Ze9:SAll X n sc .nil []:=λA env Pv W σ s Q E ok at_=>⟨λh=>Ew.pure (R:=BQ Q) at_ h,λh=>Ew.pure (R:=BQ Q) at_ h⟩
theorem ZeN{c:PC}{r:PCs}(hc:ST X n sc c x)(hr:SAll X n sc r xs):SAll X n sc (.cons c r) (x::xs):=λA env Pv W σ s Q E ok at_=>
 ⟨λh=>hc.bind (f:=λb=>match BoolOp.And,b with |.And,false=>pure false |.Or,true=>pure true |_,_=>allTrue .And xs env) ok at_ h λb W1 σ1 s1' at1 h1'=>by
  induction b with
  |false=>exact Ew.pure (R:=BQ Q) at1 h1'
  |true=>exact(hr A env Pv W1 σ1 s1' Q E ok at1).1 h1',
 λh=>hc.bind (f:=λb=>match BoolOp.Or,b with |.And,false=>pure false |.Or,true=>pure true |_,_=>allTrue .Or xs env) ok at_ h λb W1 σ1 s1' at1 h1'=>by
  induction b with
  |true=>exact Ew.pure (R:=BQ Q) at1 h1'
  |false=>exact(hr A env Pv W1 σ1 s1' Q E ok at1).2 h1'⟩
theorem Zi2{pos:Pos}(h:SAll X n sc cs xs):ST X n sc (.and cs) (.BoolOp .And xs pos):=λA env Pv W σ s Q E ok at_ hw=>(h A env Pv W σ s Q E ok at_).1 hw
theorem Zlq{pos:Pos}(h:SAll X n sc cs xs):ST X n sc (.or cs) (.BoolOp .Or xs pos):=λA env Pv W σ s Q E ok at_ hw=>(h A env Pv W σ s Q E ok at_).2 hw
def SBool(X:Cx)(n:Nat)(sc:Sc)(p:PEs)(es:List Expr):Prop:=∀(A:Around)(env:Env)(Pv:Pr)(W:Wd)(σ:St)(s:Shared)(Q:Yq)(E:EP)(pos:Pos),
 EnvOk X A env Pv n sc->At X env Pv W σ s->(wpAnd X.P (CW X.P n) E p σ Q->Ew X A env Pv (boolOp pos .And<|evalEach es env) W σ s (VQ X Q) E)/\
  (wpOr X.P (CW X.P n) E p σ Q->Ew X A env Pv (boolOp pos .Or<|evalEach es env) W σ s (VQ X Q) E)
theorem ZeX:SBool X n sc .nil es:=λA env Pv W σ s Q E pos ok at_=>⟨λh=>h.elim,λh=>h.elim⟩
theorem ZeK{e:PE}(he:SE X n sc e x):SBool X n sc (.cons e .nil) [x]:=λA env Pv W σ s Q E pos ok at_=>⟨λh=>he A env Pv W σ s Q E ok at_ h,λh=>he A env Pv W σ s Q E ok at_ h⟩
theorem Zen{e f:PE}{y:Expr}(he:SE X n sc e x)(hr:SBool X n sc (.cons f r) (y::xs)):SBool X n sc (.cons e<|.cons f r) (x::y::xs):=λA env Pv W σ s Q E pos ok at_=>
 ⟨λh=>he.bind (f:=λv=>standAt pos >>= λø=>holding [v] (truthy v) >>= λt=>match BoolOp.And,t with
   |.And,false |.Or,true=>pure v
   |_,_=>boolOp pos .And<|evalEach (y::xs) env) ok at_ h λv W1 σ1 s1' z at1 ø hz h1'=>Ew.standAt (Yb (wpAny_holding (ZcJ (y:=z) at1.rel hz h1' λb tk q=>Ew.from at1.tf (by
  induction b with
  |false=>exact Ew.pure at1.toks ⟨z,hz,q⟩
  |true=>exact(hr A env Pv W1 σ1 _ Q E pos ok at1.toks).1 q)))),
 λh=>he.bind (f:=λv=>standAt pos >>= λø=>holding [v] (truthy v) >>= λt=>match BoolOp.Or,t with
   |.And,false |.Or,true=>pure v
   |_,_=>boolOp pos .Or<|evalEach (y::xs) env) ok at_ h λv W1 σ1 s1' z at1 ø hz h1'=>Ew.standAt (Yb (wpAny_holding (ZcJ (y:=z) at1.rel hz h1' λb tk q=>Ew.from at1.tf (by
  induction b with
  |true=>exact Ew.pure at1.toks ⟨z,hz,q⟩
  |false=>exact(hr A env Pv W1 σ1 _ Q E pos ok at1.toks).2 q))))⟩
theorem ZkU{t:PC}{b:PE}{t' a' b':Expr}{pos:Pos}(ht:ST X n sc t t')(ha:SE X n sc a a')(hb:SE X n sc b b'):SE X n sc (.ite t a b) (.IfExp t' a' b' pos):=λA env Pv W σ s Q E ok at_ h=>
 ht.bind (f:=λc=>if c=true then eval a' env else eval b' env) ok at_ h λc W1 σ1 s1' at1 h1'=>by
  induction c with
  |true=>exact ha A env Pv W1 σ1 s1' Q E ok at1 h1'
  |false=>exact hb A env Pv W1 σ1 s1' Q E ok at1 h1'
theorem ZdK:SEs X n sc .nil []:=λA env Pv W σ s Q E ok at_ h=>spliced_nil ⟨W,σ,.refl at_,[],.nil,h⟩
theorem Zc2{e:PE}(he:SE X n sc e x)(hr:SEs X n sc r xs):SEs X n sc (.cons e r) (x::xs):=λA env Pv W σ s Q E ok at_ h=>
 spliced_cons (Ym (he A env Pv W σ s _ E ok at_ h) (λv s1' q=>q.e λW1 σ1 T q=>q.e λz hz h1'=>
  Ym (hr A env Pv W1 σ1 s1' _ E ok T.at_ h1') (λvs s2' q=>q.e λW2 σ2 T2 q=>q.e λzs hzs h2'=>⟨W2,σ2,T.trans T2,z::zs,.cons (hz.le T2.stp.le) hzs,h2'⟩) λø ø x=>x.back T) λø ø x=>x)
theorem Zi7(h:ble 1 (xu x).tag=true):starEach (x::xs) env=(false,eval x env)::starEach xs env:=by
 induction x using PySem.Expr.casesOn <;> first |rfl |exact noT h
theorem Zgo:∀{es:List Expr},chkEs c sc p es=true->starEach es env=es.map λe=>(false,eval e env):=
 PEs.rec (motive_1:=λø=>True) (motive_2:=λp=>∀{es:List Expr},chkEs c sc p es=true->starEach es env=es.map λe=>(false,eval e env)) (motive_3:=λø=>True) (motive_4:=λø=>True) (motive_5:=λø=>True) (motive_6:=λø=>True) (motive_7:=λø=>True)
  (λø=>trivial) (λø=>trivial) (λø=>trivial) (λø ø ø=>trivial) (λø ø ø ø ø ø=>trivial) (λø ø=>trivial) (λø ø=>trivial) (λø ø ø ø ø=>trivial) (λø ø ø ø ø ø ø ø=>trivial) (λø ø=>trivial) (λø ø=>trivial) (λø ø ø ø ø ø=>trivial) (λø ø ø=>trivial) (λø ø=>trivial) (λø ø=>trivial) (λø ø ø ø=>trivial) (λø ø ø ø ø ø ø=>trivial) (λø ø ø ø ø=>trivial) (λø ø ø ø=>trivial) (λø ø ø ø ø ø ø=>trivial) (λø ø ø ø ø ø=>trivial) (λø ø ø ø ø ø ø ø=>trivial)
  (λh=>by rw[Zag h];rfl)
  (λe r ø ih es h=>ZaL h λx hx h=>Zao h λh1 h2=>by rw[ZbD hx,Zi7 (Zbj h1).1,ih h2,map_cons])
  trivial (λø ø=>trivial) trivial (λø ø ø ø ø ø=>trivial) (λø ø=>trivial) (λø ø=>trivial) (λø ø=>trivial) (λø ø=>trivial) trivial (λø ø ø ø=>trivial) trivial (λø ø=>trivial) p
theorem ZaH{pos:Pos}(h:chkEs c sc p es=true):backTo pos (starEach es env)=es.map λe=>(false,eval e env):=by
 rw[Zgo h];unfold backTo;rw[List.map_map];rfl
theorem SEs.bind{β:Type}{Q:Yl}{f:List Value->Sem β}{R:β->Wd->St->Shared->Prop}(he:SEs X n sc p es)(ok:EnvOk X A env Pv n sc)(at_:At X env Pv W σ s)(hw:wpEs X.P (CW X.P n) E p σ Q)
  (g:∀v W1 σ1 s1' x,At X env Pv W1 σ1 s1'->VRs X W1 v x->Q x σ1->Ew X A env Pv (f v) W1 σ1 s1' R E):Ew X A env Pv (spliced (es.map λe=>(false,eval e env)) >>= f) W σ s R E:=
 Ew.bindT ((he A env Pv W σ s _ E ok at_ hw).mono λv W1 σ1 s1' ø q at1 le=>q.e λx r h=>g v W1 σ1 s1' x at1 r h)
theorem ZgW{xs:List V}(hv:VRs X W vs xs)(hz:xs.length<=SZ):vs.toArray.size<=sizeLine:=by rw[List.size_toArray,hv.length];exact szLine hz
theorem Zjw{es:PEs}{pos:Pos}(he:SEs X n sc es xs)(hc:chkEs c sc es xs=true):SE X n sc (.list fz es) (.List xs pos):=by
 intro A env Pv W σ s Q E ok at_ h;show Ew X A env Pv (standAt pos >>= λø=>spliced (backTo pos (starEach xs env)) >>= λvs=>newList vs) W σ s _ E;rw[ZaH hc];exact Ew.standAt<|he.bind ok at_ h λvs W1 σ1 s1' zs at1 hzs h1'=>wpAny_newObj_type (at1.op.push (n:=0) (vs:=vs.toArray) (tk:=s1'.toks) at1.rel hzs h1')<|ZgW hzs h1'.1
theorem Zmp{es:PEs}{pos:Pos}(he:SEs X n sc es xs)(hc:chkEs c sc es xs=true):SE X n sc (.tup es) (.Tuple xs k pos):=by
 intro A env Pv W σ s Q E ok at_ h;show Ew X A env Pv (standAt pos >>= λø=>spliced (backTo pos (starEach xs env)) >>= λvs=>newTuple vs) W σ s _ E;rw[ZaH hc];exact Ew.standAt<|he.bind ok at_ h λvs W1 σ1 s1' zs at1 hzs h1'=>wpAny_newObj_type ((at1.op (fz:=true)).fro (x:=.tup zs) (ob:=tupO vs.toArray 0) (tk:=s1'.toks) at1.rel (λø ø e=>Heap.get?_push_of_some _ e) (Zae _) (Heap.get?_push_size _ rfl) (.tup ZaP (hzs.le (at1.rel.leZ (Zae _))) h1'.1) h1'.2)<|ZgW hzs h1'.1
theorem Zin(K:CxOk X)(R:RelH X W H s.heap):(s.heap.objs.size==sysModules)=false:=by
 obtain⟨o,e⟩:=K.main;have lt:mainGlobals<s.heap.objs.size:=Heap.lt_size<|R.bkeep _ _ e;exact beq_eq_false_iff_ne.mpr λz=>absurd (z▸lt:mainGlobals<sysModules)<|by decide
theorem ZgN(K:CxOk X){pos:Pos}:SE X n sc (.dict .nil) (.Dict [] [] pos):=by
 intro A env Pv W σ s Q E ok at_ h;rw[eval_Dict_empty];refine Ew.standAt<|wpAny_newObj_type ?_;have hn:=Zae s.heap;obtain⟨r,t⟩:=at_.rel.fresh (h':=s.heap.push<|dictO #[] 0) (l:=(s.heap.objs.size,s.heap.objs.size)) (c:=.dict []) (λø ø e=>Heap.get?_push_of_some _ e) hn hn ⟨[],Heap.DictOf.new s.heap,.nil,rfl,Zin K at_.rel,Zz _⟩
 have T:Tc X W σ.H s _ (σ.H.new<|.dict []) { s with heap:=s.heap.push (dictO #[] 0) }:=⟨t,r,⟨rfl,rfl,rfl⟩⟩
 exact⟨_,⟨_,σ.loc⟩,T.tf at_,_,VR.ref (l:=(s.heap.objs.size,s.heap.objs.size)) Zbe,h.2.2⟩
theorem ZlL{e i:PE}{pos:Pos}(he:SE X n sc e v)(hi:SE X n sc i x):SE X n sc (.idx e i) (.Subscript v x pos):=by
 intro A env Pv W σ s Q E ok at_ h;rw[eval_Subscript];exact he.two hi ok at_ h λa b W1 σ1 s1' y z at1 hy hz h1'=>Ew.standAt<|Znz (λv r tk q h=>at1.val q h) at1.rel hy hz h1'
inductive OQ(X:Cx)(Q:Option V->St->Prop)(v:Value)(W':Wd)(σ':St)(s':Shared):Prop
 |mk (o:Option V) (r:VR X W' v (o.getD .none)) (h:Q o σ')
def SO(X:Cx)(n:Nat)(sc:Sc)(p:PEo)(e:Option Expr):Prop:=∀(A:Around)(env:Env)(Pv:Pr)(W:Wd)(σ:St)(s:Shared)(Q:Option V->St->Prop)(E:EP),
 EnvOk X A env Pv n sc->At X env Pv W σ s->wpO X.P (CW X.P n) E p σ Q->Ew X A env Pv (valueOrNone<|evalOpt e env) W σ s (OQ X Q) E
theorem Zgh:SO X n sc .none none:=λA env Pv W σ s Q E ok at_ h=>Ew.pure at_ ⟨none,.none,h⟩
theorem Zgs{e:PE}(he:SE X n sc e x):SO X n sc (.some e) (some x):=λA env Pv W σ s Q E ok at_ h=>
 (he A env Pv W σ s _ E ok at_ h).mono λv W1 σ1 s1' ø q=>q.e λz hz h1'=>⟨some z,hz,h1'⟩
theorem OQ.e{v:Value}(q:OQ X Q v W σ s)(g:∀x,VR X W v (x.getD .none)->Q x σ->G):G:=by obtain⟨x,r,h⟩:=q;exact g x r h
theorem SO.then{β:Type}{p:PEo}{e:Option Expr}{f:Value->Sem β}{Ro:β->Shared->Prop}(he:SO X n sc p e)(ok:EnvOk X A env Pv n sc)(T0:Tf X env Pv W0' σ0 s0' W σ s)(hw:wpO X.P (CW X.P n) E p σ Q)
  (g:∀v W1 σ1 s1' o,Tf X env Pv W0' σ0 s0' W1 σ1 s1'->Wd.Le W W1->VR X W1 v (o.getD .none)->Q o σ1->Yw A (f v) Ro (EX X env Pv W0' σ0 s0' E) s1'):Yw A (holding vs (valueOrNone<|evalOpt e env) >>= f) Ro (EX X env Pv W0' σ0 s0' E) s:=
 Yb (wpAny_holding<|Ym (he A env Pv W σ s _ E ok T0.at_ hw) (λv s1' q=>q.e λW1 σ1 T q=>q.e λo r h=>g v W1 σ1 s1' o (T0.trans T) T.stp.le r h) λø ø x=>x.back T0)
theorem OpQ.from{A:Around}{Q:Yq}(T:Tf X env Pv W0' σ0 s0' W σ s):OpQ X fz W σ.H s (give fz σ Q) (Go X env Pv W0' σ0 s0'<|VQ X Q) where
 sz:=λø h=>h.1
 out:=λr v' s' W' H' t q g=>((T.at_.op (fz:=fz)).out r v' s' W' H' t q g).e λW2 σ2 T2 q=>⟨W2,σ2,T.trans T2,q⟩
theorem Zoz{e:PE}{lo hi:PEo}{l u:Option Expr}{p pos:Pos}(he:SE X n sc e v)(hl:SO X n sc lo l)(hu:SO X n sc hi u):SE X n sc (.sl fz e lo hi) (.Subscript v (.Slice l u none p) pos):=by
 intro A env Pv W σ s Q E ok at_ h;rw[eval_Subscript];refine he.bind ok at_ h λa W1 σ1 s1' y at1 ø hy h1'=>?_;show wpAny _ A (holding [a] (valueOrNone (evalOpt l env) >>= λl=>holding [l] (valueOrNone (evalOpt u env)) >>= λu=>holding [l,u] (valueOrNone (evalOpt none env)) >>= λs=>newFields "slice" [l,u,s]) >>= λi=>standAt pos >>= λø=>subscriptTail v (.Slice l u none p) a i) _ _ s1';refine Yb<|wpAny_holding (Yb (Ym (hl A env Pv W1 σ1 s1' _ E ok at1 h1') (λb s2' q=>q.e λW2 σ2 T2 q=>q.e λo2' hb h2'=>?_) λø ø x=>x));refine hu.then ok T2 h2' λc W3 σ3 s3' o3 T3 le3' hc h₃=>Yb<|wpAny_holding (Yp ?_)
 exact Zab h₃ λi1' e1' h4'=>Zab h4' λi2' e2' h5'=>Zab h5' λx ex hr=>Ym (ZpD (value:=v) (slice:=.Slice l u none p) (OpQ.from (A:=A) T3) T3.at_.rel (Zap T3.at_.rel (hy.le T3.stp.le) ex) (Zg6 (hb.le le3') e1') (Zg6 hc e2') hr)
  (λi s' h'=>Yb<|wpAny_standAt h') λø ø x=>x
end
variable {o:PE}{as:PEs}{Qv:Yl}{avs:List V}{P:Prog}{T:String}
section
open PySem PySem.W PySem.Calls PyProof.Rows
variable {a:Str}{c:Ck}{l:Addr×Addr}{s:Shared}{x g:V}{v f cf:Value}{vs:List Expr}{h':Heap}{env:Env}{E:EP}{A:Around}{tk:Nat}{Q:Yq}
theorem ZbB{M:Model}{E:Yv}{ts:List (Bool×Sem Value)}{Q:Args->Shared->Prop}(hp:∀t∈ts,t.1=false)
  (h:wpAny M A (spliced ts) (λvs s'=>Q ⟨vs,[]⟩ s') E s):wpAny M A (evalArgs f true ts []) Q E s:=by
 induction ts using List.casesOn with
 |nil=>exact Yb<|Ym h (λvs s' h'=>Yb<|Yp<|wpAny_holding<|Yb<|Yp<|Yb<|Yp<|Yp h') λø ø x=>x
 |cons t r=>
  obtain⟨b,x⟩:=t
  obtain rfl:=(hp (b,x) (.head _):b=false)
  exact evalArgs_plain h
theorem Zjf{av:V}(R:RelH X W σ.H s.heap)(hv:VR X W v av)(g:giveV fz σ Q av)
  (k:∀W' H' av',Tc X W σ.H s W' H' s->VR X W' v av'->Q av' ⟨H',σ.loc⟩->G):G:=by
 have no:Q av σ->G:=λg=>k W σ.H av (.refl R) hv g;refine ZpY g (λø g=>?_) λø g=>no g
 induction q:aRef av with
 |none=>rw[q]at g;exact no g
 |some i=>
  rw[q]at g;have g:(match cL (σ.H.get i) with |some xs=>Q (.lst xs) (σ.setH<|σ.H.del i) |none=>Q av σ):=g
  induction q2:cL (σ.H.get i) with
  |none=>rw[q2]at g;exact no g
  |some xs=>
   rw[q2]at g;refine ZfL hv q λl e hl ø=>?_;obtain⟨o,r,t,z⟩:=R.freeze (Zj8 q2) hl;exact k _ _ _ ⟨t,r,.refl _⟩ (e▸z) g
theorem Za2:((vs.map λe=>((false:Bool),eval e env)).any (·.1))=false:=by
 induction vs with
 |nil=>rfl
 |cons x r ih=>exact ih
theorem Zcf:∀t∈(vs.map λe=>((false:Bool),eval e env)),t.1=false:=λt ht=>
 (mem_map.mp ht).elim λe q=>q.2▸rfl
theorem ZaC{Q:Args->Shared->Prop}(has:SEs X n sc as vs)(ok:EnvOk X A env Pv n sc)(at_:At X env Pv W σ s)(h:wpEs X.P (CW X.P n) E as σ Qv)
  (hq:∀cvs avs W' σ' s',Tf X env Pv W σ s W' σ' s'->VRs X W' cvs avs->Qv avs σ'->Q ⟨cvs,[]⟩ s'):
  Yw A (evalArgs f true (vs.map λe=>(false,eval e env)) []) Q (EX X env Pv W σ s E) s:=
 ZbB Zcf (Ym (has A env Pv W σ s _ E ok at_ h) (λcvs s' q=>q.e λW' σ' T q=>q.e λavs hv h=>hq cvs avs W' σ' s' T hv h) λø ø x=>x)
theorem Go.from{α:Type}{s' s'':Shared}{R:α->Wd->St->Shared->Prop}{a:α}(T:Tf X env Pv W σ s W' σ' s')(q:Go X env Pv W' σ' s' R a s''):Go X env Pv W σ s R a s'':=q.e λW2 σ2 T2 r=>⟨W2,σ2,T.trans T2,r⟩
theorem ZgK(hK:CallM X n){s0':Shared}{a:Addr}{cvs:List Value}(T0:Tf X env Pv W0' σ0 s0' W σ s)(ok:AOk A n)(hq:A.handled=none\/X.quiet k=true)(hst:A.frames=some Pv.st)(hv:VRs X W cvs avs)(ha:X.fnA k=some a)
  (h:CW X.P n k avs σ.H (λv H=>giveV fz (σ.setH H) Q v) (λe H=>E e<|σ.setH H)):
  Yw A (call (.ref a) cvs []) (Go X env Pv W0' σ0 s0'<|VQ X Q) (EX X env Pv W0' σ0 s0' E) s:=by
 refine wpAny_call<|codeAny_mono (hK A k a avs cvs W σ.H s _ _ ok hq ⟨_,hst,T0.at_.fr.frs⟩ T0.at_.rel hv ha h) λr s' hr=>?_
 induction r with
 |ok fl=>
  induction fl with
  |ret v=>
   obtain⟨W',H',av,T,hv',g⟩:=hr
   exact Zjf (σ:=σ.setH H') T.rel hv' g λW2 H2' av2 T2 hv2 hq=>⟨W2,⟨H2',σ.loc⟩,T0.trans<|(T.trans T2).tf T0.at_,av2,hv2,hq⟩
  |_=>exact hr.elim
 |error e=>
  obtain⟨W',H',i,l,k,T,he,hl,hg,hf,hE⟩:=hr;exact EX.back T0 ⟨W',⟨H',σ.loc⟩,i,l,k,T.tf T0.at_,he,hl,hg,hf,hE⟩
inductive BvC(b:B):Prop
 |ty (T:String) (e:bval b=.type T)
 |fn (id:String) (e:bval b=.builtin id)
theorem Zgp(b:B):BvC b:=by
 induction b <;> first |exact .ty _ rfl |exact .fn _ rfl
theorem ZdF{M:Model}{E:Yv}{pos:Pos}{first:List Value}{args:List (Bool×Sem Value)}{Q:Yv}(h:wpAny M A (evalArgs f true args []) (λø ø=>False) E s):
  wpAny M A (callWith pos f first args []) Q E s:=by
 unfold callWith;exact Yb<|wpAny_holding<|Ym h (λø ø h1'=>h1'.elim) λø ø x=>x
theorem Zbb(x:Str)(p:Pos)(args:List Expr)(pos:Pos)(env:Env):eval (.Call (.Name x p) args [] pos) env=(eval (.Name x p) env >>= λf=>callWith pos f [] (backTo pos<|starEach args env) []):=rfl
theorem ZiV{K:CT}(hg:VR X W cf g)(hb:∀b,g=.bt b->cf=bval b->G)(hf:∀k a,g=.fn k->cf=.ref a->X.fnA k=some a->G)(hc:∀k a,g=.cls k->cf=.ref a->X.clA k=some a->G)
  (no:(∀σ as,callF P K E fz σ g as Q->False)->G):G:=by
 cases hg with
 |bt b=>exact hb b rfl rfl
 |fn ha=>exact hf _ _ rfl rfl ha
 |cls ha=>exact hc _ _ rfl rfl ha
 |_=>exact no λø ø q=>q
def MayQ(X:Cx)(A:Around)(g:V):Prop:=A.handled=none\/Qt X g
theorem MayQ.bt{b:B}(h:MayQ X A (.bt b)):quietB A b:=by
 induction h with
 |inl q=>exact .inl q
 |inr q=>cases q with
  |len=>exact .inr<|.inl rfl
  |isi=>exact .inr<|.inr rfl
theorem MayQ.fn(h:MayQ X A (.fn k)):A.handled=none\/X.quiet k=true:=h.imp id λq=>by cases q;assumption
theorem Zig(K:CxOk X)(hK:CallM X n){pos:Pos}(ok:EnvOk X A env Pv n sc)(at1:At X env Pv W σ s)(has:SEs X n sc as vs)(hg:VR X W cf g)(hq:MayQ X A g)
  (h1':wpEs X.P (CW X.P n) E as σ λvs σ2=>callF X.P (CW X.P n) E fz σ2 g vs Q)
  (hcls:∀k a,g=.cls k->cf=.ref a->X.clA k=some a->Ew X A env Pv (callWith pos cf [] (vs.map λe=>(false,eval e env)) []) W σ s (VQ X Q) E):Ew X A env Pv (callWith pos cf [] (vs.map λe=>(false,eval e env)) []) W σ s (VQ X Q) E:=by
 refine ZiV (P:=X.P) (K:=CW X.P n) (E:=E) (fz:=fz) (Q:=Q) hg (λb e e'=>?_) (λk a e e' ha=>?_) hcls λhb=>ZdF<|ZaC has ok at1 h1' λcvs avs W' σ' s' T hv hq=>hb _ _ hq
 ·subst e e'
  have key:∀cvs avs W' σ' s',Tf X env Pv W σ s W' σ' s'->VRs X W' cvs avs->callF X.P (CW X.P n) E fz σ' (.bt b) avs Q->
    Yw A (call (bval b) cvs []) (Go X env Pv W σ s<|VQ X Q) (EX X env Pv W σ s E) s':=λcvs avs W' σ' s' T hv hq'=>
   K.isi.elim λø I=>ZiX (OpQ.from (A:=A) T) I hq.bt T.at_.rel hv hq'
  induction Zgp b with
  |ty T e=>rw[e]at key ⊢; exact PyProof.Rows.callWith_type Za2<|ZaC has ok at1 h1' key
  |fn id e=>rw[e]at key ⊢; exact callWith_builtin Za2<|ZaC has ok at1 h1' key
 ·subst e e';obtain⟨o,fd,ho,hd⟩:=K.fnAt _ _ ha;exact callWith_function (o:=o) (fd:=fd)<|ZaC has ok at1 h1' λcvs avs W' σ' s' T hv hq'=>⟨⟨T.at_.rel.bkeep _ _ ho,hd⟩,ZgK hK T ok.ok.call hq.fn ok.stk hv ha hq'⟩
theorem ZgR(K:CxOk X){f:PE}{x:Str}{p pos:Pos}(hf:SE X n sc f (.Name x p))(hq:(sc.hd ||qGlob X.ck f)=true)(ok:EnvOk X A env Pv n sc)(at_:At X env Pv W σ s)(h:wpE X.P (CW X.P n) E (.call fz f as) σ Q)
  (k:∀cf W1 σ1 s1' g,At X env Pv W1 σ1 s1'->VR X W1 cf g->MayQ X A g->(wpEs X.P (CW X.P n) E as σ1 λvs σ2=>callF X.P (CW X.P n) E fz σ2 g vs Q)->
   Ew X A env Pv (callWith pos cf [] (vs.map λe=>(false,eval e env)) []) W1 σ1 s1' (VQ X Q) E):
  Ew X A env Pv (eval (.Name x p) env >>= λcf=>callWith pos cf [] (vs.map λe=>(false,eval e env)) []) W σ s (VQ X Q) E:=by
 induction e:sc.hd with
 |true=>exact hf.bind ok at_ h λcf W1 σ1 s1' g at1 ø hg h1'=>k cf W1 σ1 s1' g at1 hg (.inl<|ok.hh e) h1'
 |false=>
  rw[e]at hq
  induction f using PE.casesOn with
  |glob i=>exact Zab h λv hv h=>hf.bind (Q:=λg σ1=>g=v/\wpEs X.P (CW X.P n) E as σ1 λvs σ2=>callF X.P (CW X.P n) E fz σ2 g vs Q) ok at_ (Zcy hv ⟨rfl,h⟩) λcf W1 σ1 s1' g at1 ø hg h1'=>k cf W1 σ1 s1' g at1 hg (.inr<|h1'.1▸K.qg i v hq hv) h1'.2
  |_=>exact noT hq
theorem ZdN{o:Expr}{t:Sem Value}(h:notSuper o=true):attributeBase o a env t=t:=by
 induction o using PySem.Expr.casesOn with
 |Call f l kw p=>
  induction f using PySem.Expr.casesOn with
  |Name x p=>
   induction l using List.casesOn with
   |nil=>induction kw using List.casesOn with
    |nil=>exact noT h
    |cons _ _=>rfl
   |cons _ _=>rfl
  |_=>rfl
 |_=>rfl
theorem ZdR{pos:Pos}(h:vs.length<=20):methodCallForm (vs.length+([]:List Keyword).length) (vs.map λe=>((false:Bool),eval e env)) (backToKw pos<|keywordEach [] env)=true:=by
 unfold methodCallForm
 have:((vs.map λe=>((false:Bool),eval e env)).all (!·.1))=true:=by
  rw[List.all_eq_true];intro t ht;rw[Zcf t ht];rfl
 rw[this];exact Dq (p:=vs.length+0+0<30)<|Nl h<|by decide
theorem Zjv{a b:List Int}(h:a.Perm b)(ha:Ordered true a):a=(srt b).reverse:=by
 have ha:a.Pairwise (·≥·):=ha;have:=ZfW ((List.reverse_perm a).trans h)<|List.pairwise_reverse.mpr ha;rw[← this,List.reverse_reverse]
theorem Zh6(h:isSrt g=true):g=.bt .sorted:=Zit h
theorem ZlY(K:CxOk X){a:PE}{x:Str}{p p' kp pos:Pos}{y:Expr}(hf:SE X n sc (.glob i) (.Name x p))(ha:SE X n sc a y)(hc:chkE c sc a y=true):SE X n sc (.sortedRev fz i a) (.Call (.Name x p) [y] [⟨some<|Str.ofString "reverse",.Constant (.bool true) k p',kp⟩] pos):=by
 intro A env Pv W σ s Q E ok at_ h;refine Zab h λg hg h=>?_;obtain rfl:=Zh6 h.1;refine wpAny_Call_Name_kw<|Ym (hf A env Pv W σ s (λv σ1=>v=.bt .sorted/\σ1=σ) E ok at_ (Zcy hg ⟨rfl,rfl⟩)) (λcf s1' q=>q.e λW1 σ1 T1 q=>q.e λv hv q=>?_) λø ø z=>z;obtain⟨rfl,rfl⟩:=q
 cases hv
 have hc':chkEs c sc (.cons a .nil) [y]=true:=by show(chkE c sc a y&&true)=true;rw[hc];rfl
 rw[ZaH hc'];show wpAny _ A (callWith pos (.builtin "sorted") [] _ _) _ _ _;refine callWith_builtin_kwB rfl rfl ?_;refine evalArgs_kwB rfl ?_;refine spliced_cons ?_;refine Ym (ha A env Pv W1 σ1 s1' _ E ok T1.at_ h.2) (λv s2' q=>q.e λW2 σ2 T2 q=>q.e λz hz h=>spliced_nil ?_) λø ø z=>z.back T1;refine kws_cons ?_;refine Yp ?_;refine kws_nil ?_;have T:=T1.trans T2;refine Zab h λy ey e=>Zab e λxs ex e=>Zab e λis ei e=>?_;obtain⟨l,vs,m,rfl,g,r,q,z⟩:=(Zap T.at_.rel hz ey).toLst ex;have I:=ZdX r ei;refine sorted_ints_rev (vs:=vs.toList) (b:=true) (by simpa using Zaq g) I (by rw[I.length];exact e.1) λout ns' ho hp hs=>?_;rw[Zjv hp hs]at ho;exact(sortedAll_at s2'.heap vs.toList out).elim λc hc=>(OpQ.from (A:=A) T).list T.at_.rel (Zfn ho) (λø ø q=>sortedAll_old q) (Heap.get?_none_of_le<|Us _) hc e.2
theorem VRs.one_e{vs:List Value}(h:VRs X W vs [x])(g:∀v,vs=[v]->VR X W v x->G):G:=by
 cases h with |cons a b=>cases b;exact g _ rfl a
section
variable {E:Yv}{Q:Yv}(R:RelH X W H s.heap)(hi:H.get i=some (.list xs))(hl:W.φ i=some l)
include R hi hl
theorem RelH.lset{vs':Array Value}{k':Nat}(he:l.2=l.1)(hk:∀b ob,s.heap.get? b=some ob->b≠l.1->h'.get? b=some ob)(ha:h'.get? l.1=some (lstO vs' k'))(hv:VRs X W vs'.toList ys)(hz:ys.length<=SZ):Tc X W H s W (H.set i<|.list ys) { s with heap:=h',toks:=tk }:=
 let ⟨r,t⟩:=R.upd (h':=h') (c':=.list ys) hi hl (λb ob e n1 ø=>hk b ob e n1) ⟨vs',k',ha,hv,he,hz⟩
 ⟨t,r,⟨rfl,rfl,rfl⟩⟩
theorem Zh2(hv:VR X W v x)(hz:xs.length<SZ)
  (h:∀s',Tc X W H s W (H.set i<|.list<|xs++[x]) s'->Q .none s'):Yw A (call (.builtin "list.append") [.ref l.1,v]) Q E s:=by
 obtain⟨vs,k,hg,hvs,he,_⟩:=R.at_ hi hl;exact append_at hg (λh' hs ha=>h _<|R.lset (tk:=s.toks) hi hl he (λb ob e n1=>(hs.2 b n1).trans e) ha (by rw[Array.toList_push];exact hvs.append<|.cons hv .nil) (by rw[La];exact hz)) (by rw[hvs.toArr];exact szLine<|Ny hz)
theorem Zh3(hv:SqL X W s.heap v ys)(hz:xs.length+ys.length<=SZ)
  (h:∀s',Tc X W H s W (H.set i<|.list<|xs++ys) s'->Q .none s'):Yw A (call (.builtin "list.extend") [.ref l.1,v]) Q E s:=by
 obtain⟨vs,k,hg,hvs,he,_⟩:=R.at_ hi hl;obtain⟨a,ws,k2,rfl,g2,r2,q2,z2⟩:=hv
 have hz':vs.size+ws.size<=sizeLine:=by rw[hvs.toArr,z2];exact szLine hz
 refine call_meets F.slot_list_extend ⟨_,hg,rfl⟩ F.entry_list_extend (F.args_list_extend_2 _ _) (AutoSeq1.list_extend_list_list_0 l.1 vs k a ws k2 (extend_door hz') (Nt (Ar _ _) hz')<|Nat.le_succ_of_le hz') ⟨hg,g2,h _ ?_⟩;exact R.lset hi hl he (λb ob q n1=>(Heap.get?_update_other _ _<|Ne.symm n1).trans q) (Heap.get?_update_self _ hg rfl) (by show VRs X W (vs++ws).toList _;rw[Array.toList_append];exact hvs.append r2) (by rw[La];exact hz)
theorem ZmE{k:Int}{t:Tok}(hj:pyIdx k xs.length=some j)(hx:xs[j]?=some x)
  (h:∀v s',Tc X W H s W (H.set i<|.list<|xs.take j++xs.drop (j+1)) s'->VR X W v x->Q v s'):Yw A (call (.builtin "list.pop") [.ref l.1,.int k t]) Q E s:=by
 obtain⟨vs,m,hg,hvs,he,hz⟩:=R.at_ hi hl;have z:=hvs.toArr;obtain⟨v,hv,hr⟩:=Zdu hvs hx
 have hfit:Builtin.List.listFitsIndex k=true:=by
  have:=ZcF hj hz;unfold Builtin.List.listFitsIndex;rw[Dq this.1,Dq this.2];rfl
 refine call_meets F.slot_list_pop ⟨_,hg,rfl⟩ F.entry_list_pop (F.args_list_pop_2 _ _) (MeetsSeq.list_pop_at l.1 vs m k t j v hfit (by rw[z];exact ZcR hj) hv (by rw[z];exact szLine hz)) ⟨hg,h v _ ?_ hr⟩;refine R.lset hi hl he (λb ob q n1=>(Heap.get?_update_other _ _<|Ne.symm n1).trans q) (Heap.get?_update_self _ hg rfl) ?_ ?_
 ·show VRs X W (vs.eraseIdxIfInBounds j).toList _;rw[Array.toList_eraseIdxIfInBounds,List.eraseIdx_eq_take_drop_succ];exact(hvs.take j).append (hvs.drop<|j+1)
 ·have:=(List.getElem?_eq_some_iff.mp hx).1;rw[La,List.length_take,List.length_drop];exact Nt (Nat.add_le_add (Nt (Nat.min_le_left ..)<|Us j)<|Zr _)<|Nt (Nz<|Nat.add_sub_of_le this) hz
end
section
variable {v:Expr}{ap pos:Pos}
noncomputable abbrev mcall(X:Cx)(env:Env)(m:Nat)(v:Expr)(ap pos:Pos)(vs:List Expr)(a:Addr):Sem Value:=methodCall v (X.nm m) ap pos env (.ref a) (vs.length+([]:List Keyword).length) (vs.map λe=>(false,eval e env))<|backToKw pos (keywordEach [] env)
theorem Zdi{id:String}{a:Addr}{ob:Obj}(ok:EnvOk X A env Pv n sc)(at_:At X env Pv W σ s)(has:SEs X n sc as vs)(hlen:vs.length<=20)(hline:(ap.endLine==pos.line)=true)
  (pa:PlainAttrs T) (slot:Slot T (X.nm m) id) (hty:typeOf (.builtin id)=pure (.type "method_descriptor")) (hg:s.heap.get? a=some ob) (hT:s.TypeIs (.ref a) T) (hd:ob.dict=none) (h:wpEs X.P (CW X.P n) E as σ Qv)
  (hcall:∀cvs avs W' σ' s',Tf X env Pv W σ s W' σ' s'->VRs X W' cvs avs->Qv avs σ'->Yw A (call (.builtin id) ([.ref a]++cvs) []) (Go X env Pv W σ s<|VQ X Q) (EX X env Pv W σ s E) s'):
  Ew X A env Pv (mcall X env m v ap pos vs a) W σ s (VQ X Q) E:=by
 have hpos:methodCallPos true v env ap pos=pure pos:=by unfold methodCallPos;simp[hline]
 unfold mcall methodCall;rw[ZdR hlen];exact Yb<|wpAny_holding<|getMethod_builtin hT pa slot hty (λb e=>by(injection e with zz;obtain rfl:=zz);exact⟨ob,hg,hd⟩)<|Yb<|wpAny_of_eq hpos<|callWith_builtin Za2<|ZaC has ok at_ h hcall
theorem ZpN{a c:Bool}(h:(a ||(b ||c))=true)(x:a=true->G)(y:b=true->G)(z:c=true->G):G:=by
 induction a with
 |true=>exact x rfl
 |false=>induction b with
  |true=>exact y rfl
  |false=>exact z h
theorem Zps{t e:Prop}(h:Br b t e)(q:b=true):t:=by subst q;exact h
theorem ZoT{t e:Prop}(h:Br b t e)(q:b=false):e:=by subst q;exact h
theorem Zlk(K:CxOk X){b:Str}(ha:X.nm m=a)(hb:X.nm k=b)(hn:a≠b):beq m k=false:=by
 induction q:beq m k with
 |false=>rfl
 |true=>have:=Bz q;subst this;exact absurd (ha.symm.trans hb) hn
theorem ZhM(h:beq m k=true)(e:X.nm k=a):X.nm m=a:=by
 rw[Bz h];exact e
theorem Zg0(K:CxOk X)(ok:EnvOk X A env Pv n sc)(at_:At X env Pv W σ s)(has:SEs X n sc as vs)(hlen:vs.length<=20)(hline:(ap.endLine==pos.line)=true)(hl:W.φ i=some l)(hgi:σ.H.get i=some (.list xs))
  (h:Nd ((beq m X.P.nAppend ||(beq m X.P.nPop ||beq m X.P.nExtend))=true) (wpEs X.P (CW X.P n) E as σ λvs σ2=>need (cL<|σ2.H.get i) λxs=>methL X.P σ2 i m vs xs Q)):
  Ew X A env Pv (mcall X env m v ap pos vs l.1) W σ s (VQ X Q) E:=by
 obtain⟨ws,k,hg,hvs,he,hz⟩:=at_.rel.at_ hgi hl
 have fin:∀{W2:Wd}{σ2:St}{s2' s':Shared}{H':Hp}{v:Value}{x:V},Tf X env Pv W σ s W2 σ2 s2'->Tc X W2 σ2.H s2' W2 H' s'->VR X W2 v x->Q x (σ2.setH H')->Go X env Pv W σ s (VQ X Q) v s':=λT T' r q=>⟨_,_,T.trans<|T'.tf T.at_,_,r,q⟩
 refine ZpN h.1 (λhA=>?_) (λhP=>?_) λhE=>?_
 ·have e:=ZhM hA K.nAppend;refine Zdi ok at_ has hlen hline F.plainAttrs_list (e▸F.slot_list_append) F.type_list_append hg ⟨_,hg,rfl⟩ rfl h.2 λcvs avs W2 σ2 s2' T hv hq=>Zab hq λys ey hq=>Zab hq λa ea hq=>?_;have hq:=Zps hq hA;rw[ZaN ea]at hv
  exact hv.one_e λcv ec hcv=>by
   subst ec;exact Zh2 T.at_.rel (Zj8 ey) (T.stp.le.ff _ _ hl) hcv hq.1 λs' T'=>fin T T' .none hq.2
 ·have e:=ZhM hP K.nPop;refine Zdi ok at_ has hlen hline F.plainAttrs_list (e▸F.slot_list_pop) F.type_list_pop hg ⟨_,hg,rfl⟩ rfl h.2 λcvs avs W2 σ2 s2' T hv hq=>Zab hq λys ey hq=>Zab hq λa ea hq=>?_;have hq:=Zps (ZoT hq<|Zlk K e K.nAppend<|by decide+kernel) hP;rw[ZaN ea]at hv
  exact hv.one_e λcv ec hcv=>Zab hq λkk ek hq=>Zab hq λj hj hq=>Zab hq λx hx hq=>ZbG hcv ek λt et=>by
   subst ec et;exact ZmE T.at_.rel (Zj8 ey) (T.stp.le.ff _ _ hl) hj hx λv s' T' hv=>fin T T' hv hq
 ·have e:=ZhM hE K.nExtend;refine Zdi ok at_ has hlen hline F.plainAttrs_list (e▸F.slot_list_extend) F.type_list_extend hg ⟨_,hg,rfl⟩ rfl h.2 λcvs avs W2 σ2 s2' T hv hq=>Zab hq λys ey hq=>Zab hq λa ea hq=>?_;have hq:=ZoT (ZoT hq<|Zlk K e K.nAppend<|by decide+kernel) (Zlk K e K.nPop<|by decide+kernel);rw[ZaN ea]at hv
  exact hv.one_e λcv ec hcv=>Zab hq λy hy hq=>Zab hq λzs hzs hq=>by
   subst ec;exact Zh3 T.at_.rel (Zj8 ey) (T.stp.le.ff _ _ hl) ((Zap T.at_.rel hcv hy).toLst hzs) hq.1 λs' T'=>fin T T' .none hq.2
theorem DGv.get{o:Option Value}{p:Option V}{v:Value}(h:DGv X W o p)(hv:VR X W v x):VR X W (o.getD v) (p.getD x):=by
 cases h with
 |none=>exact hv
 |some r=>exact r
theorem Tc.put{j:Int}{es:List (Int×Value)}{cv:Value}(R:RelH X W H s.heap)(hk:H.get i=some (.dict kvs))(hl:W.φ i=some l)(d:s.heap.DictOf (intKind X.prog X.w) l.1 es)(r:KVs X W es kvs)(e:l.2=l.1)(ne:(l.1==sysModules)=false)(hv:VR X W cv x)(hz:kvs.length<SZ)
  (d':h'.DictOf (intKind X.prog X.w) l.1 (stored es j cv)) (hs:Heap.SameBut l.1 s.heap h'):Tc X W H s W (H.set i<|.dict<|dSet kvs (.int j) x) { s with heap:=h',toks:=tk }:=by
 have hn:(es.map (·.1)).Nodup:=d.elim λø d=>d.elim λø d=>d.elim λø d=>d.2.2.2.2.2
 have len:(dSet kvs (.int j) x).length<=SZ:=by rw[← (r.put (i:=j) hv hn).len];exact Nt (stored_length_le _ _ _) (by rw[r.len];exact hz)
 obtain⟨R',S⟩:=R.upd (h':=h') (c':=.dict<|dSet kvs (.int j) x) hk hl (λb ob q n1 ø=>(hs.2 b n1).trans q) ⟨stored es j cv,d',r.put hv hn,e,ne,len⟩;exact⟨S,R',⟨rfl,rfl,rfl⟩⟩
theorem ZoJ{α:Type}{l:List α}{t:α×α}(h:two2 l=some t):l=[t.1,t.2]:=by
 match l,h with
 | [_,_],h=>obtain rfl:=Sj h;rfl
theorem VRs.two_e{vs:List Value}{a b:V}(h:VRs X W vs [a,b])(g:∀u v,vs=[u,v]->VR X W u a->VR X W v b->G):G:=by
 cases h with
 |cons h1 h=>cases h with
  |cons h2 h=>cases h;exact g _ _ rfl h1 h2
theorem Zhn(K:CxOk X){xs:List (V×V)}(ok:EnvOk X A env Pv n sc)(at_:At X env Pv W σ s)(has:SEs X n sc as vs)(hlen:vs.length<=20)(hline:(ap.endLine==pos.line)=true)(hl:W.φ i=some l)(hgi:σ.H.get i=some (.dict xs))
  (h:Nd ((beq m X.P.nGet ||beq m X.P.nSetdefault)=true) (wpEs X.P (CW X.P n) E as σ λvs σ2=>need (cD<|σ2.H.get i) λxs=>methD X.P σ2 i m vs xs Q)):
  Ew X A env Pv (mcall X env m v ap pos vs l.1) W σ s (VQ X Q) E:=by
 obtain⟨es0,d0,_⟩:=at_.rel.at_ hgi hl;obtain⟨ob,_,_,hg,ex,_⟩:=d0
 induction g:beq m X.P.nGet with
 |true=>
  have e:=ZhM g K.nGet;refine Zdi ok at_ has hlen hline F.plainAttrs_dict (e▸F.slot_dict_get) F.type_dict_get hg ⟨ob,hg,ex.1⟩ ex.2.1 h.2 λcvs avs W2 σ2 s2' T hv hq=>Zab hq λys ey hq=>Zab (Zps hq g) λt et hq=>?_;obtain⟨es,d,r,_,ne,_⟩:=T.at_.rel.at_ (ZnV ey)<|T.stp.le.ff _ _ hl;have fin:∀{w:Value}{x:V},VR X W2 w x->Q x σ2->Go X env Pv W σ s (VQ X Q) w { s2' with toks:=s2'.toks+1 }:=λr q=>Go.from T<|T.at_.val r q
  cases hv with
  |nil=>exact noS et
  |cons a b=>
   cases b with
   |nil=>
    obtain rfl:=Sj et;refine Zgw a hq.1 λj tk e1 e2=>?_;subst e1 e2;exact call_meetsIn F.slot_dict_get d.typeIs F.entry_dict_get (F.args_dict_get_2 _ _) (meets_dict_get (intKind X.prog X.w) l.1 (intKind_is _ _ j tk) ne) ⟨_,d.mapOf,fin (DGv.get (r.val (i:=j)) .none) hq.2⟩
   |cons b c=>
    cases c with
    |nil=>
     obtain rfl:=Sj et;refine Zgw a hq.1 λj tk e1 e2=>?_;subst e1 e2;exact call_meetsIn F.slot_dict_get d.typeIs F.entry_dict_get (F.args_dict_get_3 _ _ _) (meets_dict_get_default (intKind X.prog X.w) l.1 (intKind_is _ _ j tk) ne _) ⟨_,d.mapOf,fin (DGv.get (r.val (i:=j)) b) hq.2⟩
    |cons _ _=>exact noS et
 |false=>
  have e:=ZhM (by have:=h.1;rw[g]at this;exact this) K.nSetdefault;refine Zdi ok at_ has hlen hline F.plainAttrs_dict (e▸F.slot_dict_setdefault) F.type_dict_setdefault hg ⟨ob,hg,ex.1⟩ ex.2.1 h.2 λcvs avs W2 σ2 s2' T hv hq=>Zab hq λys ey hq=>Zab (ZoT hq g) λt et hq=>?_;obtain⟨es,d,r,e2,ne,z⟩:=T.at_.rel.at_ (ZnV ey)<|T.stp.le.ff _ _ hl;rw[ZoJ et]at hv;refine hv.two_e λu w ec hu hw=>Zgw hu hq.1 λj tk e3 e4=>?_;subst ec e3;have hq:=hq.2;unfold sdK at hq;rw[e4]at hq;have D:DGv X W2 (valueAt es j) (dGet ys<|.int j):=r.val;refine call_meetsIn F.slot_dict_setdefault d.typeIs F.entry_dict_setdefault (F.args_dict_setdefault_3 _ _ _) (kt_meets_setdefault (intKind X.prog X.w) l.1 (intKind_is _ _ j tk) ne _) ⟨es,d,by rw[r.len];exact szLine z,λv hv=>?_,λhn h' d' hs=>?_⟩
  ·rw[hv]at D;generalize dGet ys (.int j)=o at D hq
   cases D with
   |some r=>exact Go.from T<|T.at_.val r hq
  ·rw[hn]at D;generalize dGet ys (.int j)=o at D hq
   cases D with
   |none=>exact⟨_,_,T.trans<|(Tc.put T.at_.rel (ZnV ey) (T.stp.le.ff _ _ hl) d r e2 ne hw hq.1 d' hs).tf T.at_,_,hw,hq.2⟩
end
theorem ZjD(K:CxOk X){v:Expr}{ap pos:Pos}(ho:SE X n sc o v)(has:SEs X n sc as vs)(hc:chkEs c sc as vs=true)(hns:notSuper v=true)(hlen:vs.length<=20)(hline:(ap.endLine==pos.line)=true)
  (hinst:∀(A:Around)(env:Env)(Pv:Pr)(W:Wd)(σ:St)(s:Shared)(Q:Yq)(E:EP)(i:Nat)(l:Addr×Addr)(k:Nat)(fs:List (Nat×V)),EnvOk X A env Pv n sc->At X env Pv W σ s->W.φ i=some l->σ.H.get i=some (.inst k fs)->
   (need (X.P.cls k) λc=>need (lk c.meths m) λf=>wpEs X.P (CW X.P n) E as σ λvs σ2=>callF X.P (CW X.P n) E fz σ2 (.fn f) (.ref i::vs) Q)->
   Ew X A env Pv (mcall X env m v ap pos vs l.1) W σ s (VQ X Q) E):
  SE X n sc (.meth fz o m as) (.Call (.Attribute v (X.nm m) ap) vs [] pos):=by
 intro A env Pv W σ s Q E ok at_ h;rw[arm_eval_Call,ZdN hns,ZaH hc];refine ho.bind ok at_ h λcf W1 σ1 s1' g at1 ø hg h1'=>Ew.standAt<|Zab h1' λi ei h1'=>ZfL hg ei λl e hl ø=>?_;subst e
 induction hgi:σ1.H.get i with
 |none=>rw[hgi]at h1'; exact h1'.elim
 |some c=>
  rw[hgi]at h1'
  induction c with
  |inst k fs=>exact hinst A env Pv W1 σ1 s1' Q E i l k fs ok at1 hl hgi h1'
  |dict _=>exact Zhn K ok at1 has hlen hline hl hgi h1'
  |exc _=>exact h1'.elim
  |list xs=>exact Zg0 K ok at1 has hlen hline hl hgi h1'
end
section
open PySem PySem.Calls PyProof.Rows
variable {v:V}{h h' h'':Heap}{env:Env}{tk:Nat}{Q:Option Value->Shared->Prop}{I:Addr}
noncomputable def isL:V->Bool
 |.lst _=>true
 |.ref _=>true
 |_=>false
theorem Ze2(q:isL v=true)(h:items H v=some xs):see H v=some (.lst xs):=by
 induction v using V.casesOn with
 |lst ys=>exact congrArg (some ∘ V.lst)<|Sj h
 |ref i=>show mL (cL<|H.get i)=_;rw[show cL (H.get i)=some xs from h];rfl
 |_=>exact noT q
inductive ItAt(X:Cx)(W:Wd)(h:Heap)(I:Addr)(v:V)(k:Nat):Prop
 |lst (a:Addr) (r:VR X W (.ref a) v) (q:isL v=true) (it:h.IsListIter I a k)
 |tup (a:Addr) (xs:List V) (e:v=.tup xs) (r:VR X W (.ref a) v) (it:h.IsTupleIter I a k)
 |rng (a b c:Int) (e:v=.rng a b c) (hc:c=1\/c= -1) (it:IsRangeIter h I (a+(k:Nat) * c) ((rngN a b c:Int) - (k:Nat)) c)
section
variable {A:Around}{E:Yv}{s:Shared}
theorem ItAt.keep(it:ItAt X W h I v k)(le:Wd.Le W W')(hk:∀o,h.get? I=some o->NoNames o->h'.get? I=some o):ItAt X W' h' I v k:=by
 induction it with
 |lst a r q it=>obtain⟨o,ho,hc,hd⟩:=it;exact .lst a (r.le le) q ⟨o,hk o ho (λes n q=>by rw[hd]at q;injection q),hc,hd⟩
 |tup a xs e r it=>obtain⟨o,ho,hc,hd⟩:=it;exact .tup a xs e (r.le le) ⟨o,hk o ho (λes n q=>by rw[hd]at q;injection q),hc,hd⟩
 |rng a b c e hc it=>exact .rng a b c e hc<|hk _ it<|λes n q=>by injection q
theorem ItAt.there(it:ItAt X W h I v k):∃o,h.get? I=some o:=by
 induction it with
 |lst a r q it=>exact it.elim λo q=>⟨o,q.1⟩
 |tup a xs e r it=>exact it.elim λo q=>⟨o,q.1⟩
 |rng a b c e hc it=>exact⟨_,it⟩
theorem ZhC{cv:Value}{Q:Yv}(R:RelH X W H s.heap)(hv:VR X W cv v)(hi:items H v=some xs)
  (h:∀o,o.isFreed=false->ItAt X W (s.heap.push o) s.heap.objs.size v 0->Q (.ref s.heap.objs.size) { s with heap:=s.heap.push o }):Yw A (pyIter cv) Q E s:=by
 have lst:isL v=true->Yw A (pyIter cv) Q E s:=λq=>by
  obtain⟨a,vs,n,rfl,hg,r,_,_⟩:=(Zap R hv<|Ze2 q hi).toLst rfl;exact wpAny_pyIter_list (items:=vs) (Zaq hg)<|h _ rfl<|.lst a hv q ⟨_,Heap.get?_push_size _ rfl,rfl,rfl⟩
 induction v using V.casesOn with
 |lst ys=>exact lst rfl
 |ref i=>exact lst rfl
 |tup ys=>
  obtain⟨a,vs,n,rfl,hg,r,_,_⟩:=(Zap R hv rfl).toTup rfl;exact wpAny_pyIter_tuple (items:=vs) (ZaV hg)<|h _ rfl<|.tup a ys rfl hv ⟨_,Heap.get?_push_size _ rfl,rfl,rfl⟩
 |rng a b c=>
  cases hv with
  |rng z ha hb hc=>
   refine wpAny_pyIter_range (R.z _ _ z) (Zey hc ha hb)<|h _ rfl<|.rng a b c rfl hc ?_;rw[Zef hc];have:IsRangeIter (s.heap.push { cls:=.type "range_iterator",data:=.fields #[rawInt a,rawInt<|rngN a b c,rawInt c] }) s.heap.objs.size a (rngN a b c) c:=Heap.get?_push_size _ rfl;rw[show a+((0:Nat):Int) * c=a by rw[Int.natCast_zero,Int.zero_mul,Int.add_zero],show(rngN a b c:Int) - ((0:Nat):Int)=rngN a b c from Int.sub_zero _];exact this
 |_=>exact noS hi
theorem ZeG{x:V}(R:RelH X W H s.heap)(it:ItAt X W s.heap I v k)(hi:items H v=some xs)(hx:xs[k]?=some x)
  (h:∀cv h' tk,VR X W cv x->ItAt X W h' I v (k+1)->Heap.ExtBut I s.heap h'->Q (some cv) { s with heap:=h',toks:=tk }):Yw A (pyNext<|.ref I) Q E s:=by
 induction it with
 |lst a r q it=>
  obtain⟨a',vs,n,e,hg,rs,_,_⟩:=(Zap R r<|Ze2 q hi).toLst rfl
  (injection e with zz;obtain rfl:=zz)
  exact(Zdu rs hx).elim λcv z=>wpAny_pyNext_list_item it (items:=vs) (Zaq hg) z.1 λh' hit' hs=>h cv h' s.toks z.2 (.lst a r q hit') hs.extBut
 |tup a ys e r it=>
  subst e;obtain⟨a',vs,n,e,hg,rs,_,_⟩:=(Zap R r rfl).toTup rfl
  (injection e with zz;obtain rfl:=zz)
  obtain rfl:=Eq.symm<|(Sj hi:ys=xs);exact(Zdu rs hx).elim λcv z=>wpAny_pyNext_tuple_item it (items:=vs) (ZaV hg) z.1 λh' hit' hs=>h cv h' s.toks z.2 (.tup a _ rfl r hit') hs.extBut
 |rng a b c e hc it=>
  subst e;have e:rngL a c (rngN a b c)=xs:=Sj hi
  have hk:k<rngN a b c:=by
   have:=(List.getElem?_eq_some_iff.mp hx).1;rw[← e,Zbm]at this;exact this
  rw[← e,ZfF c _ a k hk]at hx;obtain rfl:=Sj hx;refine wpAny_pyNext_range_item it (Int.sub_pos_of_lt<|ld1 hk) λh' hit' hs=>h _ h' _ (.int _ _) (.rng a b c rfl hc ?_) hs.extBut
  have e1:a+((k+1:Nat):Int) * c=a+(k:Int) * c+c:=by rw[Int.natCast_succ,Int.add_mul,Int.one_mul,Int.add_assoc]
  have e2:(rngN a b c:Int) - ((k+1:Nat):Int)=(rngN a b c:Int) - (k:Int) - 1:=(Int.sub_sub (rngN a b c:Int) k 1).symm;rw[e1,e2];exact hit'
theorem ZfE(hh:A.handled=none)(R:RelH X W H s.heap)(it:ItAt X W s.heap I v xs.length)(hi:items H v=some xs)
  (h:∀h',Heap.ExtBut I s.heap h'->Q none { s with heap:=h' }):Yw A (pyNext<|.ref I) Q E s:=by
 have no:∀vs:Array Value,vs.size=xs.length->vs[xs.length]?=none:=λvs z=>by rw[← z];exact Array.getElem?_eq_none<|Zr _
 induction it with
 |lst a r q it=>
  obtain⟨a',vs,n,e,hg,rs,_,z⟩:=(Zap R r<|Ze2 q hi).toLst rfl
  (injection e with zz;obtain rfl:=zz)
  exact wpAny_pyNext_list_end hh it (items:=vs) (Zaq hg) (no vs z) h
 |tup a ys e r it=>
  subst e;obtain⟨a',vs,n,e,hg,rs,_,z⟩:=(Zap R r rfl).toTup rfl
  (injection e with zz;obtain rfl:=zz)
  obtain rfl:=Eq.symm<|(Sj hi:ys=xs);exact wpAny_pyNext_tuple_end hh it (items:=vs) (ZaV hg) (no vs z) h
 |rng a b c e hc it=>
  subst e
  have hk:xs.length=rngN a b c:=by rw[← (Sj hi:rngL a c (rngN a b c)=xs),Zbm]
  exact wpAny_pyNext_range_end hh it (by rw[hk];exact Int.le_of_eq<|Int.sub_self _) h
structure Lone(X:Cx)(env:Env)(Pv:Pr)(W:Wd)(H:Hp)(h:Heap)(I:Addr):Prop where
 own:¬ Own W H I
 z:W.Z I=none
 pv:¬ Pv.pv I
 cell:∀x c,env.cells.lookup x=some c->c≠I
 fr:∀e∈Pv.st,e.frame≠some I
 at_:∃o,h.get? I=some o
theorem Lone.step{Pv':Addr->Prop}(L:Lone X env Pv W H h I)(S:Stp Pv' W H h W' H' h'):Lone X env Pv W' H' h' I:=by
 obtain⟨o,e⟩:=L.at_;refine⟨S.own I o e L.own,?_,L.pv,L.cell,L.fr,S.there I o e⟩
 induction q:W'.Z I with
 |none=>rfl
 |some ob=>
  rcases S.znew I ob q with r |r |r
  ·rw[L.z]at r;exact noS r
  ·exact absurd r L.own
  ·rw[e]at r;exact noZ r
theorem Lone.keep(L:Lone X env Pv W H h I)(S:Stp Pv.pv W H h W' H' h'):∀o,h.get? I=some o->NoNames o->h'.get? I=some o:=λo e n=>
 (S.keep I o e L.own L.pv).elim λo' q=>q.2.eq n▸q.1
theorem At.poke(a:At X env Pv W σ s)(L:Lone X env Pv W σ.H s.heap I)(hs:Heap.ExtBut I s.heap h'):At X env Pv W σ { s with heap:=h',toks:=tk }:=by
 refine⟨a.rel.quiet (Pv:=λb=>b=I) (λb o e n=>hs b o n e) (λb e=>by subst e;exact⟨L.own,L.z⟩),?_⟩;have F:=a.fr;have nl:env.locals≠I:=λe=>L.pv<|e▸F.pvL;refine⟨?_,λi v e k=>?_,λx ef e=>?_,F.cellEq,λx c e=>?_,F.pvL,F.priv,λb p=>?_,λe he=>(F.frs e he).keep λK o es n a b c d f=>⟨⟨o,es,n,hs K o (λz=>L.fr e he<|z▸a) b,c⟩,d,f⟩,F.frc⟩
 ·obtain⟨m,hn,hm⟩:=F.ns;exact⟨m,hn.extBut hs nl,hm⟩
 ·obtain⟨c,cv,q,⟨o,ho,hd⟩,r⟩:=F.cells i v e k;exact⟨c,cv,q,⟨o,hs c o (L.cell _ _ q) ho,hd⟩,r⟩
 ·obtain⟨c,cv,q,⟨o,ho,hd⟩,r⟩:=F.hasCell x ef e;exact⟨c,cv,q,⟨o,hs c o (L.cell _ _ q) ho,hd⟩,r⟩
 ·obtain⟨p,q,o,ho⟩:=F.cellNs x c e;exact⟨p,q,o,hs c o (L.cell _ _ e) ho⟩
 ·obtain⟨o,ho⟩:=F.pvAt b p;exact⟨o,hs b o (λe=>L.pv<|e▸p) ho⟩
theorem Stp.poke{Pv:Addr->Prop}(S:Stp Pv W H h W' H' h')(hn:h.get? I=none)(hs:Heap.ExtBut I h' h''):Stp Pv W H h W' H' h'' where
 le:=S.le
 keep:=λx o e n p=>(S.keep x o e n p).elim λo' q=>⟨o',hs x o' (λz=>by subst z;rw[hn]at e;exact noS e) q.1,q.2⟩
 own:=S.own
 znew:=S.znew
 there:=λx o e=>(S.there x o e).elim λo' e'=>⟨o',hs x o' (λz=>by subst z;rw[hn]at e;exact noS e) e'⟩
theorem Tf.poke{s':Shared}(T:Tf X env Pv W σ s W' σ' s')(hn:s.heap.get? I=none)(L:Lone X env Pv W' σ'.H s'.heap I)(hs:Heap.ExtBut I s'.heap h''):Tf X env Pv W σ s W' σ' { s' with heap:=h'',toks:=tk }:=
 ⟨T.stp.poke hn hs,T.at_.poke L hs,⟨T.rest.gens,T.rest.drawn,T.rest.os⟩⟩
theorem Lone.new(a:At X env Pv W σ s)(hn:s.heap.get? I=none)(hI:∃o,h'.get? I=some o):Lone X env Pv W σ.H h' I:=by
 have no:∀{o:Obj}{G:Prop},s.heap.get? I=some o->G:=λe=>by rw[hn]at e;exact noS e
 refine⟨λo=>(a.rel.own_there o).elim λø e=>no e,?_,λp=>(a.fr.pvAt I p).elim λø e=>no e,λx c e q=>?_,λe he q=>?_,hI⟩
 ·induction q:W.Z I with
  |none=>rfl
  |some o=>exact no<|a.rel.z _ _ q
 ·subst q;exact(a.fr.cellNs x c e).2.2.elim λø e=>no e
 ·obtain⟨_,L,o,es,n,x1,x2,_⟩:=a.fr.frs e he;rw[q]at x1;obtain rfl:=Sj x1;exact no x2
theorem Tf.push{o:Obj}(a:At X env Pv W σ s):Tf X env Pv W σ s W σ { s with heap:=s.heap.push o,toks:=tk }:=by
 have hk:∀b ob,s.heap.get? b=some ob->(s.heap.push o).get? b=some ob:=λb ob e=>Heap.get?_push_of_some _ e
 have S:Stp noPv W σ.H s.heap W σ.H (s.heap.push o):=.quiet (λb ob e ø=>hk b ob e) λb ob e=>⟨ob,hk b ob e⟩
 exact⟨S.mono λø z=>z.elim,⟨a.rel.quiet (Pv:=noPv) (λb ob e ø=>hk b ob e) λø z=>z.elim,a.fr.step S λø z=>z.elim⟩,⟨rfl,rfl,rfl⟩⟩
end
end
variable {y:Str}{ts:List Nat}{Kk:St->Prop}
section
set_option backward.match.sparseCases true
open PySem PySem.W PySem.Calls PyProof.Rows
variable {s:Shared}{t x:Expr}{v:V}{h':Heap}{env:Env}{cv:Value}{E:Yv}{A:Around}{tk:Nat}{Q:Unit->Shared->Prop}{I:Addr}{elts:List Expr}
inductive FR(X:Cx)(W:Wd):PySem.Flow->Flow->Prop
 |next:FR X W .next .next
 |brk:FR X W .brk .brk
 |cont:FR X W .cont .cont
 |ret {v:Value} {x:V}:VR X W v x->FR X W (.ret v) (.ret x)
inductive FQ(X:Cx)(Q:Yf)(fl:PySem.Flow)(W':Wd)(σ':St)(s':Shared):Prop
 |mk (af:Flow) (r:FR X W' fl af) (h:Q af σ')
theorem FQ.e{Q:Yf}{v:PySem.Flow}(q:FQ X Q v W σ s)(g:∀x,FR X W v x->Q x σ->G):G:=by obtain⟨x,r,h⟩:=q;exact g x r h
def S1(X:Cx)(n:Nat)(sc:Sc)(p:PS)(st:Stmt):Prop:=∀(A:Around)(env:Env)(Pv:Pr)(W:Wd)(σ:St)(s:Shared)(Q:Yf)(E:EP),
 EnvOk X A env Pv n sc->env.func≠none->At X env Pv W σ s->wpS X.P (CW X.P n) p σ Q E->Ew X A env Pv (exec st env) W σ s (FQ X Q) E
def SS(X:Cx)(n:Nat)(sc:Sc)(p:PSs)(st:List Stmt):Prop:=∀(A:Around)(env:Env)(Pv:Pr)(W:Wd)(σ:St)(s:Shared)(Q:Yf)(E:EP),
 EnvOk X A env Pv n sc->env.func≠none->At X env Pv W σ s->wpSs X.P (CW X.P n) p σ Q E->Ew X A env Pv (execs st env) W σ s (FQ X Q) E
section
variable {E:EP}
theorem SE.post{e:Expr}{Q:Yq}{R:Yv}(he:SE X n sc p e)(ok:EnvOk X A env Pv n sc)(at_:At X env Pv W σ s)(hw:wpE X.P (CW X.P n) E p σ Q)
  (g:∀v W1 σ1 s1' x,Tf X env Pv W σ s W1 σ1 s1'->VR X W1 v x->Q x σ1->R v s1'):Yw A (eval e env) R (EX X env Pv W σ s E) s:=
 Ym (he A env Pv W σ s _ E ok at_ hw) (λv s1' q=>q.e λW1 σ1 T q=>q.e λx r h=>g v W1 σ1 s1' x T r h) λø ø x=>x
theorem Tf.flow{s':Shared}{Q:Yf}{fl:PySem.Flow}{af:Flow}(T:Tf X env Pv W σ s W' σ' s')(r:FR X W' fl af)(h:Q af σ'):Go X env Pv W σ s (FQ X Q) fl s':=⟨W',σ',T,af,r,h⟩
theorem ZnB(ok:EnvOk X A env Pv n sc):(env.scope.kind==.class ||(env.scope.kind==.module&&env.locals != env.globals))=false:=by rw[ok.kind];rfl
theorem Zfm{x:Str}(ok:EnvOk X A env Pv n sc)(h:beq (knd sc x) k=true)(hk:k≠0)(h3:nkOf k≠.free):env.kindOf x=some (nkOf k):=
 (ok.names _ _<|Zew (Bz h) hk).elim id λz=>absurd z.1 h3
theorem ZcH{x:Str}(ok:EnvOk X A env Pv n sc)(h:kLocal sc x=true):env.kindOf x=some .local:=Zfm ok h (by decide)<|by decide
theorem Zd0{a:Addr}{loc':Loc}(at_:At X env Pv W σ s)(hp:Pv.pv a)(hs:Heap.SameBut a s.heap h')(ha:∃o,h'.get? a=some o)(F:FrR X W σ.H h' env Pv loc'):Tf X env Pv W σ s W ⟨σ.H,loc'⟩ { s with heap:=h',toks:=tk }:=by
 have hkp:∀b o,s.heap.get? b=some o->¬ Pv.pv b->h'.get? b=some o:=λb o e p=>(hs.2 b λq=>p<|q▸hp).trans e;refine⟨.quiet hkp λb o e=>?_,⟨at_.rel.quiet hkp at_.fr.priv,F⟩,⟨rfl,rfl,rfl⟩⟩
 by_cases hb:b=a
 ·subst hb;exact ha
 ·exact⟨o,(hs.2 b hb).trans e⟩
theorem ZaZ(K:CxOk X)(ok:EnvOk X A env Pv n sc)(at_:At X env Pv W σ s)(hk:env.kindOf (X.nm i)=some .local)(hv:VR X W cv v)
  (h:∀s',Tf X env Pv W σ s W (σ.put i v) s'->Q () s'):Yw A (storeName env (X.nm i) cv) Q Ex s:=by
 obtain⟨m,hn,hm⟩:=at_.fr.ns;exact wpAny_storeName_local hk hn (λh' hn' hs=>h _<|Zd0 at_ at_.fr.pvL hs (hn'.elim λo q=>⟨o,q.elim λø q=>q.elim λø q=>q.1⟩)<|at_.fr.storeL hn hm (λj q=>K.inj _ _ q) hk hv hn' hs)<|ZnB ok
theorem Zcb(K:CxOk X)(ok:EnvOk X A env Pv n sc)(hf:env.func≠none)(at_:At X env Pv W σ s)(hk:kStore sc (X.nm i)=true)(hv:VR X W cv v)
  (h:∀s',Tf X env Pv W σ s W (σ.put i v) s'->Q () s'):Yw A (storeName env (X.nm i) cv) Q Ex s:=by
 rcases Bool.or_eq_true_iff.mp hk with q |q
 ·exact ZaZ K ok at_ (ZcH ok q) hv h
 ·have q:env.kindOf (X.nm i)=some .cell:=Zfm ok q (by decide) (by decide);obtain⟨c,v0',hc,hi,hp⟩:=at_.fr.hasCell _ hf q;exact wpAny_storeName_cell ok.kind q hc hi λh' hi' hs=>h _<|Zd0 at_ hp hs (hi'.elim λo q=>⟨o,q.1⟩)<|at_.fr.storeC (λj q=>K.inj _ _ q) q hc hv hi' hs
end
theorem Zi5{pos:Pos}:S1 X n sc .pass (.Pass pos):=λA env Pv W σ s Q E ok hf at_ h=>wpAny_Pass<|(Tf.refl at_).flow .next h
theorem ZiD(ok:EnvOk X A env Pv n sc):interactive env=false:=by unfold interactive;rw[ok.kind];rfl
theorem Zjb{e:PE}{pos:Pos}(he:SE X n sc e x)(hx:tg x 14=true):S1 X n sc (.expr e) (.Expr x pos):=λA env Pv W σ s Q E ok hf at_ h=>
 wpAny_Expr_any (he.post ok at_ h λv W1 σ1 s1' y T ø q=>T.flow .next q) (ZiD ok) (by rw[ZeY hx rfl];rfl)
theorem ZiE{t:Option Expr}(h:ble 1 (xu x).tag=true)(h':ble (xu x).tag 14=true):swapsWith x t l env=pure false:=by
 induction x using PySem.Expr.casesOn <;> first |rfl |(exact noT h;done) |(exact noT h'; done)
theorem Zb0(K:CxOk X){e:PE}{p pos:Pos}(he:SE X n sc e x)(hy:y=X.nm i)(hk:kStore sc y=true)(h1:ble 1 (xu x).tag=true)(h2:ble (xu x).tag 14=true):S1 X n sc (.assign (.loc i) e) (.Assign [.Name y p] x pos):=by
 intro A env Pv W σ s Q E ok hf at_ h;subst hy;exact wpAny_Assign_Name (he.post ok at_ h λv W1 σ1 s1' y T hv q=>Zcb K ok hf T.at_ hk hv λs'' T'=>(T.trans T').flow .next q)<|ZiE h1 h2
theorem ZeP{pos:Pos}:S1 X n sc (.ret .none) (.Return none pos):=λA env Pv W σ s Q E ok hf at_ h=>wpAny_Return_none<|(Tf.refl at_).flow (.ret .none) h
theorem ZlQ{e:PE}{pos:Pos}(he:SE X n sc e x):S1 X n sc (.ret<|.some e) (.Return (some x) pos):=λA env Pv W σ s Q E ok hf at_ h=>
 wpAny_Return_some (he.post ok at_ h λv W1 σ1 s1' y T hv q=>T.flow (.ret hv) q)
theorem Zm0{t:PC}{a b:PSs}{u v:List Stmt}{pos:Pos}(ht:ST X n sc t x)(ha:SS X n sc a u)(hb:SS X n sc b v):S1 X n sc (.ite t a b) (.If x u v pos):=λA env Pv W σ s Q E ok hf at_ h=>
 wpAny_If (Ym (ht A env Pv W σ s _ E ok at_ h) (λc s' q=>q.e λW' σ' T q=>by
  induction c with
  |true=>exact Ew.from T<|ha A env Pv W' σ' s' Q E ok hf T.at_ q
  |false=>exact Ew.from T<|hb A env Pv W' σ' s' Q E ok hf T.at_ q) λø ø y=>y)
theorem Zgx:SS X n sc .nil []:=λA env Pv W σ s Q E ok hf at_ h=>wpAny_execs_nil<|(Tf.refl at_).flow .next h
theorem Ze1{p:PS}{ps:PSs}{st:Stmt}{sts:List Stmt}(h1:S1 X n sc p st)(h2:SS X n sc ps sts):SS X n sc (.cons p ps) (st::sts):=λA env Pv W σ s Q E ok hf at_ h=>
 wpAny_execs_cons (Ym (h1 A env Pv W σ s _ E ok hf at_ h) (λfl s' q=>q.e λW' σ' T q=>q.e λaf r q=>by
  cases r with
  |next=>exact Ew.from T<|h2 A env Pv W' σ' s' Q E ok hf T.at_ q
  |brk=>exact T.flow .brk q
  |cont=>exact T.flow .cont q
  |ret hv=>exact T.flow (.ret hv) q) λø ø y=>y)
theorem ZmN{is:List Nat}(h:tgts X.nm sc (i::is) elts=true)(g:∀p,elts=.Name (X.nm i) p::elts.tail->kLocal sc (X.nm i)=true->tgts X.nm sc is elts.tail=true->G):G:=
 ZaL h λt ht h=>Zau h λa b c d=>g (xu t).p (by
  have e:t=.Name (X.nm i) (xu t).p:=(ZeY a rfl).trans<|Od b▸rfl
  exact(ZbD ht).trans (congrArg (·::elts.tail) e)) (Od b▸c) d
theorem Zf1(ts:List Nat):∀(elts:List Expr)(xs:List V)(cvs:List Value)(σ:St)(Kk:St->Prop),tgts X.nm sc ts elts=true->VRs X W cvs xs->bindGo ts xs σ Kk->(assignEach elts env).length=cvs.length/\(assignEach elts env).findIdx? (·.1)=none:=by
 induction ts with
 |nil=>
  intro elts xs cvs σ Kk hc hv hb;obtain rfl:=Zag hc
  cases hv with
  |nil=>exact⟨rfl,rfl⟩
  |cons _ _=>exact hb.elim
 |cons i is ih=>
  intro elts xs cvs σ Kk hc hv hb;refine ZmN hc λp e ø h3=>?_;rw[e]
  cases hv with
  |nil=>exact hb.elim
  |cons a r=>
   have k:=ih elts.tail _ _ (σ.put i _) Kk h3 r hb;refine⟨congrArg (·+1) k.1,?_⟩;show List.findIdx? _ ((false,assign (.Name (X.nm i) p) env)::assignEach elts.tail env)=none;rw[List.findIdx?_cons,k.2];rfl
theorem ZeI(K:CxOk X)(ok:EnvOk X A env Pv n sc)(ts:List Nat):∀(elts:List Expr)(xs:List V)(cvs:List Value)(σ:St)(s:Shared)(Kk:St->Prop),tgts X.nm sc ts elts=true->At X env Pv W σ s->VRs X W cvs xs->bindGo ts xs σ Kk->
  (∀s' σ',Tf X env Pv W σ s W σ' s'->Kk σ'->Q () s')->Yw A (assignInOrder ((assignEach elts env).map (·.2)) cvs) Q Ex s:=by
 induction ts with
 |nil=>
  intro elts xs cvs σ s Kk hc at_ hv hb h;obtain rfl:=Zag hc
  cases hv with
  |nil=>exact assignInOrder_nil<|h s σ (.refl at_) hb
  |cons _ _=>exact hb.elim
 |cons i is ih=>
  intro elts xs cvs σ s Kk hc at_ hv hb h;refine ZmN hc λp e h2 h3=>?_;rw[e]
  cases hv with
  |nil=>exact hb.elim
  |cons a r=>exact assignInOrder_cons<|wpAny_assign_Name<|ZaZ K ok at_ (ZcH ok h2) a λs1' T1=>ih elts.tail _ _ _ s1' Kk h3 T1.at_ r hb λs' σ' T' q=>h s' σ' (T1.trans T') q
theorem Tf.more(at_:At X env Pv W σ s)(kp:∀b o,s.heap.get? b=some o->h'.get? b=some o):Tf X env Pv W σ s W σ { s with heap:=h',toks:=tk }:=by
 have S:Stp noPv W σ.H s.heap W σ.H h':=.quiet (λb ob e ø=>kp b ob e) λb ob e=>⟨ob,kp b ob e⟩
 exact⟨S.mono λø z=>z.elim,⟨at_.rel.quiet (Pv:=noPv) (λb ob e ø=>kp b ob e) λø z=>z.elim,at_.fr.step S λø z=>z.elim⟩,⟨rfl,rfl,rfl⟩⟩
theorem ZgD(h:ble 2 ts.length=true)(hb:bindT ts v σ Kk):need (aTup v) λxs=>bindGo ts xs σ Kk:=by
 match ts,h,hb with
 |_::_::_,_,hb=>exact hb
theorem Zf3(K:CxOk X){p:Pos}(ok:EnvOk X A env Pv n sc)(hh:A.handled=none)(at_:At X env Pv W σ s)(hv:VR X W cv v)(hc:tgts X.nm sc ts elts=true)(hb:need (aTup v) λxs=>bindGo ts xs σ Kk)
  (h:∀s' σ',Tf X env Pv W σ s W σ' s'->Kk σ'->Q () s'):Yw A (assign (.Tuple elts k p) env cv) Q Ex s:=by
 refine Zab hb λxs ex hgo=>?_
 have ev:v=.tup xs:=by induction v using V.casesOn <;> first |(obtain rfl:=Eq.symm<|Sj ex;rfl) |exact noS ex
 subst ev;obtain⟨a,vs,m,rfl,hg,hvs,_,hz⟩:=(Zap at_.rel hv rfl).toTup rfl;have len:=Zf1 (env:=env) ts elts xs vs.toList σ Kk hc hvs hgo;refine assign_Tuple_tuple hh (ZaV hg) (by rw[len.1,Array.length_toList]) len.2 λh' he=>?_;have T:Tf X env Pv W σ s W σ { s with heap:=h' }:=Tf.more (tk:=s.toks) at_ λb o q=>he b o (λz=>by rw[z,Zae]at q;exact noS q) q;exact ZeI K ok ts elts xs vs.toList σ _ Kk hc T.at_ hvs hgo λs' σ' T' q=>h s' σ' (T.trans T') q
theorem ZlU(K:CxOk X)(ok:EnvOk X A env Pv n sc)(hh:A.handled=none)(at_:At X env Pv W σ s)(hv:VR X W cv v)(hc:chkTgt X.nm sc ts t=true)(hb:bindT ts v σ Kk)
  (h:∀s' σ',Tf X env Pv W σ s W σ' s'->Kk σ'->Q () s'):Yw A (assign t env cv) Q Ex s:=by
 rcases Bool.or_eq_true_iff.mp hc with hc |hc
 ·refine Zao hc λht hc=>ZaL hc λj hj hc=>Zao hc λh1 h2=>?_;obtain rfl:=ZaN hj;have e:t=.Name (X.nm j) (xu t).p:=(ZeY ht rfl).trans<|Od h1▸rfl;rw[e];exact wpAny_assign_Name<|ZaZ K ok at_ (ZcH ok<|Od h1▸h2) hv λs' T=>h s' _ T hb
 ·refine Zah hc λht h1 h2=>?_;rw[show t=.Tuple (xu t).l (xu t).k (xu t).p from ZeY ht rfl];exact Zf3 K ok hh at_ hv h2 (ZgD h1 hb) h
theorem Zl7{o:Obj}{nm:String}(ho:s.heap.get? I=some o)(hc:o.cls=.type nm)
  (hn:(["enumerate","zip","dict_itemiterator","dict_reverseitemiterator","odict_iterator","itertools.zip_longest","itertools.pairwise"].contains nm)=false) (h:Q () s):Yw A (letOwnedTupleGo t (.ref I) cv) Q E s:=by
 have key:∀a,Yw A (do
   let o ← load I
   match o.cls,o.data with
   |.type n,.fields vs=>
    if ["enumerate","zip","dict_itemiterator","dict_reverseitemiterator","odict_iterator","itertools.zip_longest","itertools.pairwise"].contains n&&vs[0]?==some (rawInt a) then
     rule "for.unpacks-the-owned-tuple"
     updateField I 0 .none
   |_,_=>pure ()) Q E s:=λa=>by
  refine Yb<|wpAny_load ho ?_;rw[hc]
  induction o.data with
  |fields vs=>
   simp only[hn,Bool.false_and,Bool.false_eq_true,if_false];exact Yp h
  |_=>exact Yp h
 unfold letOwnedTupleGo
 induction t using PySem.Expr.casesOn <;> first |exact Yp h |skip
 all_goals (induction cv <;> first |exact Yp h |exact key _)
theorem Zn2(it:ItAt X W s.heap I v k)(h:Q () s):Yw A (letOwnedTupleGo t (.ref I) cv) Q E s:=by
 induction it with
 |lst a r q it=>obtain⟨o,ho,hc,hd⟩:=it;exact Zl7 ho hc (by decide) h
 |tup a xs e r it=>obtain⟨o,ho,hc,hd⟩:=it;exact Zl7 ho hc (by decide) h
 |rng a b c e hc it=>exact Zl7 it rfl (by decide) h
theorem Zdf(hx:ble (xu x).tag 15=true):∀z,foldedSetIterable x env z=pure z:=λz=>by
 induction x using PySem.Expr.casesOn <;> first |rfl |exact noT hx
end
variable {q:St->Prop}{e it elt:PE}{us:List V}{body:PSs}{L:List Int}{ep:Nat}
section
open PySem PySem.W PySem.Calls PyProof.Rows
variable {a I D:Addr}{b:List Stmt}{c:Ck}{p:List Int×SetTable}{l:List (Int×Value)}{s s':Shared}{t:SetTable}{i:Int}{y:Expr}{v:Value}{h h' h'':Heap}{vs:Array Value}{es:Array (Int×Value)}{env:Env}{E:Yv}{A:Around}{R:Result->Shared->Prop}{tk:Nat}{Q:Unit->Shared->Prop}{elts ifs:List Expr}{cl:List (Str×Addr)}
theorem ZeS{α:Type}{l:List α}{x:α}{r:List α}(h:l.drop k=x::r):l[k]?=some x/\l.drop (k+1)=r:=by
 constructor
 ·have:=congrArg List.head? h;rw[List.head?_drop]at this;exact this
 ·have:=congrArg List.tail h;rw[List.tail_drop]at this;exact this
structure Stand(xs:List V)(k:Nat)(ys:List V)(m:Nat):Prop where
 d:xs.drop k=ys
 l:k+ys.length=xs.length
 m:m=ys.length
theorem Stand.nil(h:Stand xs k [] m):k=xs.length:=h.l
theorem Stand.cons{u:V}(h:Stand xs k (u::us) m):xs[k]?=some u/\us.length<m/\Stand xs (k+1) us us.length:=
 ⟨(ZeS h.d).1,h.m▸lt_succ_self _,(ZeS h.d).2,(Nat.succ_add_eq_add_succ k us.length).trans h.l,rfl⟩
inductive LpI(X:Cx)(env:Env)(Pv:Pr)(W:Wd)(σ:St)(s:Shared)(I:Addr)(v:V)(xs:List V)(go:Yl)(m:Nat)(s':Shared):Prop
 |mk (k:Nat) (W':Wd) (σ':St) (ys:List V) (t:Tf X env Pv W σ s W' σ' s') (it:ItAt X W' s'.heap I v k) (L:Lone X env Pv W' σ'.H s'.heap I) (st:Stand xs k ys m) (q:go ys σ')
def Bnd(X:Cx)(n:Nat)(sc:Sc)(ts:List Nat)(t:Expr):Prop:=∀(A:Around)(env:Env)(Pv:Pr)(W:Wd)(σ:St)(s:Shared)(cv:Value)(v:V)(Kk:St->Prop)(Q:Unit->Shared->Prop)(Ex:Yv),
 EnvOk X A env Pv n sc->env.func≠none->A.handled=none->At X env Pv W σ s->VR X W cv v->bindT ts v σ Kk->(∀s' σ',Tf X env Pv W σ s W σ' s'->Kk σ'->Q () s')->Yw A (assign t env cv) Q Ex s
theorem Zjr(K:CxOk X){i:Nat}{y:Str}{p:Pos}(hy:y=X.nm i)(hk:kStore sc y=true):Bnd X n sc [i] (.Name y p):=λA env Pv W σ s cv v Kk Q Ex ok hf hh at_ hv hb h=>by
 subst hy;exact wpAny_assign_Name<|Zcb K ok hf at_ hk hv λs' T=>h s' _ T hb
theorem ZbC(hn:h'.get? I=none)(k:∀a o,h.get? a=some o->∃o',h'.get? a=some o'):h.get? I=none:=by
 induction hq:h.get? I with
 |none=>rfl
 |some o=>exact(k _ _ hq).elim λo' e=>by rw[hn]at e;exact noS e
theorem Zi9(K:CxOk X){t:Expr}{pos:Pos}{x:Expr}(hi:SE X n sc it x)(hb:SS X n sc body b)(ht:Bnd X n sc ts t)(hx:ble (xu x).tag 15=true)(hhd:sc.hd=true):S1 X n sc (.loop ts it body) (.For t x b [] pos):=λA env Pv W σ s Q E ok hf at_ h=>
 wpAny_For (hi.post ok at_ h λcv W1 σ1 s1' v T1 hv q=>Zab q λxs hxs q=>ZhC T1.at_.rel hv hxs λo hfo hit=>by
  have nI:s1'.heap.get? s1'.heap.objs.size=none:=Zae _;have T2:Tf X env Pv W σ s W1 σ1 { s1' with heap:=s1'.heap.push o }:=T1.trans<|Tf.push (tk:=s1'.toks) T1.at_;have L2:Lone X env Pv W1 σ1.H (s1'.heap.push o) s1'.heap.objs.size:=Lone.new T1.at_ nI ⟨o,Heap.get?_push_size _ hfo⟩;have nI0:=ZbC nI T1.stp.there;generalize s1'.heap.objs.size=I at nI0 L2 hit ⊢;refine codeAny_forLoop_any (LpI X env Pv W σ s I v xs λys σ'=>loopGo (λv σ2 k=>bindT ts v σ2 λσ3=>wpSs X.P (CW X.P n) body σ3 k noE) (still v xs) ys σ' Q) (λm s' hI=>?_) xs.length ⟨0,W1,σ1,xs,T2,hit,L2,⟨rfl,zero_add _,rfl⟩,q⟩;obtain⟨k,W',σ',ys,T,hit',L,st,q⟩:=hI
  induction ys using List.casesOn with
  |nil=>
   obtain rfl:=st.nil;exact ZfE (ok.hh hhd) T.at_.rel hit' q.1 λh' hs=>wpAny_execs_nil<|(T.poke (tk:=s'.toks) nI0 L hs).flow .next q.2
  |cons u us=>
   obtain⟨hu,lt,st'⟩:=st.cons;refine ZeG T.at_.rel hit' q.1 hu λcu h' tk hcu hit'' hs=>Zn2 hit'' ?_;have T':=T.poke (tk:=tk) nI0 L hs
   have L':Lone X env Pv W' σ'.H h' I:=⟨L.own,L.z,L.pv,L.cell,L.fr,hit''.there⟩
   refine ht A env Pv W' σ' _ cu u _ _ _ ok hf (ok.hh hhd) T'.at_ hcu q.2 λs3' σ3 T3 q=>?_;have L3:=L'.step T3.stp;have it3:=hit''.keep T3.stp.le<|L'.keep T3.stp;refine Ym (hb A env Pv W' _ s3' _ noE ok hf T3.at_ q) (λfl s4' q=>q.e λW4 σ4 T4 q=>q.e λaf hfr q4=>?_) λø ø z=>z.no.elim;have T'':=(T'.trans T3).trans T4
   have again:=λg=>(⟨us.length,lt,k+1,W4,σ4,us,T'',it3.keep T4.stp.le<|L3.keep T4.stp,L3.step T4.stp,st',g⟩:∃m',m'<m/\LpI X env Pv W σ s I v xs (λys σ'=>loopGo (λv σ2 k=>bindT ts v σ2 λσ3=>wpSs X.P (CW X.P n) body σ3 k noE) (still v xs) ys σ' Q) m' s4')
   cases hfr with
   |next=>exact again q4
   |cont=>exact again q4
   |brk=>exact T''.flow .next q4
   |ret hr=>exact T''.flow (.ret hr) q4) (Zdf hx)
inductive WhI(X:Cx)(env:Env)(Pv:Pr)(W:Wd)(σ:St)(s:Shared)(go:Nat->St->Prop)(m:Nat)(s':Shared):Prop
 |mk (W':Wd) (σ':St) (t:Tf X env Pv W σ s W' σ' s') (q:go m σ')
theorem ZhV{t:PC}{x:Expr}{pos:Pos}(ht:ST X n sc t x)(hb:SS X n sc body b):S1 X n sc (.while_ t body) (.While x b [] pos):=λA env Pv W σ s Q E ok hf at_ h=>h.elim λk h=>
 wpAny_While (codeAny_whileLoop (WhI X env Pv W σ s λm σ'=>whileGo (λσ1 k=>wpT X.P (CW X.P n) noE t σ1 k) (λσ1 k=>wpSs X.P (CW X.P n) body σ1 k noE) m σ' Q) (λm s' hI=>by
  obtain⟨W',σ',T,q⟩:=hI
  induction m using Nat.casesOn with
  |zero=>exact q.elim
  |succ m=>
   refine Ym (ht A env Pv W' σ' s' _ noE ok T.at_ q) (λc s1' q=>q.e λW1 σ1 T1 q1'=>?_) λø ø z=>z.no.elim
   induction c with
   |false=>exact wpAny_execs_nil<|(T.trans T1).flow .next q1'
   |true=>
    refine Ym (hb A env Pv W1 σ1 s1' _ noE ok hf T1.at_ q1') (λfl s2' q=>q.e λW2 σ2 T2 q=>q.e λaf hfr q2'=>?_) λø ø z=>z.no.elim;have T':=(T.trans T1).trans T2
    cases hfr with
    |next=>exact⟨m,lt_succ_self _,W2,σ2,T',q2'⟩
    |cont=>exact⟨m,lt_succ_self _,W2,σ2,T',q2'⟩
    |brk=>exact T'.flow .next q2'
    |ret hr=>exact T'.flow (.ret hr) q2') k ⟨W,σ,.refl at_,h⟩)
section
variable {E:EP}
theorem call1{b:B}{a:PE}{p pos:Pos}(hf:SE X n sc (.glob j) (.Name x p))(ha:SE X n sc a y)(hc:chkE c sc a y=true)(hg:X.P.glob j=some (.bt b))(hb:bval b=.type T)(ok:EnvOk X A env Pv n sc)(at_:At X env Pv W σ s){Qa:Yq}(h:wpE X.P (CW X.P n) E a σ Qa){Q:Yv}
  (k:∀W2 σ2 s2' v z,Tf X env Pv W σ s W2 σ2 s2'->VR X W2 v z->Qa z σ2->Yw A (call (.type T) [v]) Q (EX X env Pv W σ s E) s2'):
  Yw A (eval (.Call (.Name x p) [y] [] pos) env) Q (EX X env Pv W σ s E) s:=by
 have hc':chkEs c sc (.cons a .nil) [y]=true:=by show(chkE c sc a y&&true)=true;rw[hc];rfl
 rw[Zbb,ZaH hc'];refine Yb<|Ym (hf A env Pv W σ s (λv σ1=>v=.bt b/\σ1=σ) E ok at_<|Zcy hg ⟨rfl,rfl⟩) (λcf s1' q=>q.e λW1 σ1 T1 q=>q.e λv hv q=>?_) λø ø z=>z;obtain⟨rfl,rfl⟩:=q
 cases hv
 rw[hb];exact PyProof.Rows.callWith_type Za2<|ZbB Zcf<|spliced_cons<|Ym (ha A env Pv W1 σ1 s1' _ E ok T1.at_ h) (λv s2' q=>q.e λW2 σ2 T2 q=>q.e λz hz h=>spliced_nil<|k W2 σ2 s2' v z (T1.trans T2) hz h) λø ø z=>z.back T1
theorem At.pokeB{B:Addr->Prop}(a:At X env Pv W σ s)(L:∀I,B I->Lone X env Pv W σ.H s.heap I)(hs:∀b o,¬ B b->s.heap.get? b=some o->h'.get? b=some o):At X env Pv W σ { s with heap:=h',toks:=tk }:=by
 refine⟨a.rel.quiet (Pv:=B) (λb o e n=>hs b o n e)<|λb e=>⟨(L b e).own,(L b e).z⟩,?_⟩;have F:=a.fr;refine⟨?_,λi v e k=>?_,λx ef e=>?_,F.cellEq,λx c e=>?_,F.pvL,F.priv,λb p=>?_,λe he=>(F.frs e he).keep λK o es n a b c d f=>⟨⟨o,es,n,hs K o (λz=>(L K z).fr e he a) b,c⟩,d,f⟩,F.frc⟩
 ·obtain⟨m,hn,hm⟩:=F.ns;exact⟨m,hn.at λo x=>hs _ o (λz=>(L _ z).pv F.pvL) x,hm⟩
 ·obtain⟨c,cv,q,⟨o,ho,hd⟩,r⟩:=F.cells i v e k;exact⟨c,cv,q,⟨o,hs c o (λz=>(L c z).cell _ _ q rfl) ho,hd⟩,r⟩
 ·obtain⟨c,cv,q,⟨o,ho,hd⟩,r⟩:=F.hasCell x ef e;exact⟨c,cv,q,⟨o,hs c o (λz=>(L c z).cell _ _ q rfl) ho,hd⟩,r⟩
 ·obtain⟨p,q,o,ho⟩:=F.cellNs x c e;exact⟨p,q,o,hs c o (λz=>(L c z).cell _ _ e rfl) ho⟩
 ·obtain⟨o,ho⟩:=F.pvAt b p;exact⟨o,hs b o (λz=>(L b z).pv p) ho⟩
theorem Tf.pokeB{B:Addr->Prop}(T:Tf X env Pv W σ s W' σ' s')(hn:∀I,B I->s.heap.get? I=none)(L:∀I,B I->Lone X env Pv W' σ'.H s'.heap I)(hs:∀b o,¬ B b->s'.heap.get? b=some o->h'.get? b=some o):Tf X env Pv W σ s W' σ' { s' with heap:=h',toks:=tk }:=by
 have nb:∀x o,s.heap.get? x=some o->¬ B x:=λx o e z=>by rw[hn x z]at e;exact noS e
 exact⟨⟨T.stp.le,λx o e n p=>(T.stp.keep x o e n p).elim λo' q=>⟨o',hs x o' (nb x o e) q.1,q.2⟩,T.stp.own,T.stp.znew,λx o e=>(T.stp.there x o e).elim λo' e'=>⟨o',hs x o' (nb x o e) e'⟩⟩,T.at_.pokeB L hs,⟨T.rest.gens,T.rest.drawn,T.rest.os⟩⟩
inductive EnI(X:Cx)(env:Env)(Pv:Pr)(W:Wd)(σ:St)(s:Shared)(I J l:Addr)(v:V)(xs:List V)(go:Yl)(m:Nat)(s':Shared):Prop
 |mk (k:Nat) (old:Value) (W':Wd) (σ':St) (ys:List V) (t:Tf X env Pv W σ s W' σ' s') (he:IsEnum s'.heap I J k old) (hi:s'.heap.IsListIter J l k) (LI:Lone X env Pv W' σ'.H s'.heap I) (LJ:Lone X env Pv W' σ'.H s'.heap J) (r:VR X W' (.ref l) v) (st:Stand xs k ys m) (q:go (enumL k ys) σ')
theorem ZiG(K:CxOk X){g i kk:Nat}{a:PE}{p q tp pos:Pos}(hf:SE X n sc (.glob g) (.Name x p))(ha:SE X n sc a y)(hc:chkE c sc a y=true)(hb:SS X n sc body b)(ht:tgts X.nm sc [i,j] elts=true)(hd:sc.hd=true):S1 X n sc (.loopEnum g i j a body) (.For (.Tuple elts kk tp) (.Call (.Name x p) [y] [] q) b [] pos):=λA env Pv W σ s Q E ok hfn at_ h=>by
 refine Zab h λw hg h=>?_;obtain rfl:=Zit h.1;refine wpAny_For ?_<|λø=>rfl;refine call1 hf ha hc hg rfl ok at_ h.2 λW2 σ2 s2' cv v T hz h=>Zab h λy' ey h=>Zab h λxs ex h=>?_
 have ey':y'=.lst xs:=by induction y' using V.casesOn <;> first |(obtain rfl:=Eq.symm<|Sj ex;rfl) |exact noS ex
 subst ey';obtain⟨l,vs,m,rfl,gg,r,q,zz⟩:=(Zap T.at_.rel hz ey).toLst rfl;have hL:s2'.heap.IsList l vs:=Zaq gg;refine call_enumerate_list hL λh' hE hI hsz hk=>wpAny_pyIter_enum hE ?_;have nJ:s2'.heap.get? s2'.heap.objs.size=none:=Zae _;have nI:s2'.heap.get? (s2'.heap.objs.size+1)=none:=Heap.get?_none_of_le<|Us _;have ne:s2'.heap.objs.size+1≠s2'.heap.objs.size:=Nat.succ_ne_self _;have T2:Tf X env Pv W σ s W2 σ2 { s2' with heap:=h' }:=T.trans<|Tf.more (tk:=s2'.toks) T.at_ hk;have LI:Lone X env Pv W2 σ2.H h' (s2'.heap.objs.size+1):=Lone.new T.at_ nI ⟨_,hE⟩;have LJ:Lone X env Pv W2 σ2.H h' s2'.heap.objs.size:=Lone.new T.at_ nJ<|hI.elim λo q=>⟨o,q.1⟩;have nI0:=ZbC nI T.stp.there;have nJ0:=ZbC nJ T.stp.there;generalize s2'.heap.objs.size+1=I at hE LI nI0 ne ⊢;generalize s2'.heap.objs.size=J at hE hI LJ nJ0 ne ⊢;refine codeAny_forLoop_any (EnI X env Pv W σ s I J l v xs λys σ'=>loopGo (λv σ2 k=>bindT [i,j] v σ2 λσ3=>wpSs X.P (CW X.P n) body σ3 k noE) (λH=>see H v=some (.lst xs)) ys σ' Q) (λm s' hI=>?_) xs.length ⟨0,.none,W2,σ2,xs,T2,hE,hI,LI,LJ,hz,⟨rfl,zero_add _,rfl⟩,h⟩;obtain⟨k,old,W',σ',ys,T,he,hi,LI,LJ,r',st,q⟩:=hI
 have seen:see σ'.H v=some (.lst xs)->∃vs:Array Value,s'.heap.IsList l vs/\VRs X W' vs.toList xs/\vs.size=xs.length:=λe=>by
  obtain⟨l',vs,m',e',gg,rr,_,zz⟩:=(Zap T.at_.rel r' e).toLst rfl
  (injection e' with zz;obtain rfl:=zz)
  exact⟨vs,Zaq gg,rr,zz⟩
 induction ys using List.casesOn with
 |nil=>
  obtain⟨vs,hL,rr,zz⟩:=seen q.1;obtain rfl:=st.nil;refine wpAny_pyNext_enum_end (ok.hh hd) he hi hL (Array.getElem?_eq_none<|Nz zz) λh'' ex=>wpAny_execs_nil ?_;exact(T.poke (tk:=s'.toks) nJ0 LJ ex).flow .next q.2
 |cons u us=>
  obtain⟨vs,hL,rr,zz⟩:=seen q.1;obtain⟨hu,lt,st'⟩:=st.cons;obtain⟨cu,hcu,hr⟩:=rr.get hu;rw[Array.getElem?_toList]at hcu;refine wpAny_pyNext_enum_item he hi hL hcu ne λh1' heo hit1 ht1 hz1 hk1=>wpAny_letOwnedTupleGo_enum heo λh2' he2 hs2=>?_
  replace hs2:Heap.SameBut I h1' h2':=hs2
  have kp:∀b o,¬ (b=I\/b=J)->s'.heap.get? b=some o->h2'.get? b=some o:=λb o nb e=>(hs2.2 b λz=>nb<|.inl z).trans<|hk1 b o (λz=>nb<|.inl z) (λz=>nb<|.inr z) e;have LL:∀B,B=I\/B=J->Lone X env Pv W' σ'.H s'.heap B:=λB z=>z.elim (λz=>z▸LI) λz=>z▸LJ;have T':Tf X env Pv W σ s W' σ' { s' with heap:=h2',toks:=s'.toks+1 }:=T.pokeB (B:=λb=>b=I\/b=J) (λB z=>z.elim (λz=>z▸nI0) λz=>z▸nJ0) LL kp;have hi2':h2'.IsListIter J l (k+1):=hit1.at λo e=>(hs2.2 J ne.symm).trans e
  have LI':Lone X env Pv W' σ'.H h2' I:=⟨LI.own,LI.z,LI.pv,LI.cell,LI.fr,_,he2⟩
  have LJ':Lone X env Pv W' σ'.H h2' J:=⟨LJ.own,LJ.z,LJ.pv,LJ.cell,LJ.fr,hi2'.elim λo q=>⟨o,q.1⟩⟩
  have tup:h2'.get? s'.heap.objs.size=some { cls:=.type "tuple",data:=.seq #[.int k s'.toks,cu] }:=(hs2.2 _ λz=>absurd (Heap.lt_size he)<|z▸Nat.lt_irrefl _).trans ht1;have hvs:VRs X W' [.int k s'.toks,cu] [.int k,u]:=.cons (.int _ _)<|.cons hr .nil;have hgo:bindGo [i,j] [.int k,u] σ' λσ3=>wpSs X.P (CW X.P n) body σ3 (λfl σ1=>endK fl σ1 (λσ2=>loopGo (λv σ2 k=>bindT [i,j] v σ2 λσ3=>wpSs X.P (CW X.P n) body σ3 k noE) (λH=>see H v=some (.lst xs)) (enumL ((k:Int)+1) us) σ2 Q) Q) noE:=q.2;have len:=Zf1 (env:=env) [i,j] elts [.int k,u] [.int k s'.toks,cu] σ' _ ht hvs hgo;refine assign_Tuple_tuple (ok.hh hd) ⟨_,tup,rfl,_,rfl⟩ len.1 len.2 λh₃ he3=>?_;have T3:Tf X env Pv W' σ' { s' with heap:=h2',toks:=s'.toks+1 } W' σ' { s' with heap:=h₃,toks:=s'.toks+1 }:=Tf.more (tk:=s'.toks+1) T'.at_ λb o q=>he3 b o (λz=>by rw[z,Zae]at q;exact noS q) q;refine ZeI K ok [i,j] elts [.int k,u] [.int k s'.toks,cu] σ' _ _ ht T3.at_ hvs hgo λs4' σ4 T4 q=>?_;have TT:=T3.trans T4;have LI4:=LI'.step TT.stp;have LJ4:=LJ'.step TT.stp;have he4:=LI'.keep TT.stp _ he2<|λes n q=>by injection q
  have hi4:s4'.heap.IsListIter J l (k+1):=by
   obtain⟨o,ho,hc,hd⟩:=hi2';exact⟨o,LJ'.keep TT.stp o ho (λes n q=>by rw[hd]at q;injection q),hc,hd⟩
  refine Ym (hb A env Pv W' σ4 s4' _ noE ok hfn TT.at_ q) (λfl s5 q=>q.e λW5 σ5 T5 q=>q.e λaf hfr q5=>?_) λø ø z=>z.no.elim;have T'':=(T'.trans TT).trans T5
  have again:=λg=>(⟨us.length,lt,k+1,cu,W5,σ5,us,T'',(by
    have:=LI4.keep T5.stp _ he4<|λes n q=>by injection q
    rw[show(((k+1:Nat)):Int)=(k:Int)+1 from rfl];exact this),(by
    obtain⟨o,ho,hc,hd⟩:=hi4
    exact⟨o,LJ4.keep T5.stp o ho (λes n q=>by rw[hd]at q;injection q),hc,hd⟩),LI4.step T5.stp,LJ4.step T5.stp,r'.le<|TT.stp.le.trans T5.stp.le,st',g⟩:∃m',m'<m/\EnI X env Pv W σ s I J l v xs (λys σ'=>loopGo (λv σ2 k=>bindT [i,j] v σ2 λσ3=>wpSs X.P (CW X.P n) body σ3 k noE) (λH=>see H v=some (.lst xs)) ys σ' Q) m' s5)
  cases hfr with
  |next=>exact again q5
  |cont=>exact again q5
  |brk=>exact T''.flow .next q5
  |ret hr=>exact T''.flow (.ret hr) q5
end
noncomputable def rl(env:Env)(x:Str)(k:NameKind):NameKind:=if (k==NameKind.free&&env.scope.kind==.function&&env.kindOf x==some .cell) then NameKind.cell else k
theorem ZiN{k:NameKind}(h:rl env x k=.local):k=.local:=by
 induction k with
 | «local»=>rfl
 |free=>
  unfold rl at h
  split at h
  ·injection h
  ·exact h
 |_=>injection h
theorem Zlf{k:NameKind}(nk:k≠.cell)(h:rl env x k=.cell\/rl env x k=.free):k=.free:=by
 induction k with
 |free=>rfl
 |cell=>exact absurd rfl nk
 |_=>rcases h with h |h <;> injection h
theorem ZpJ(k:NameKind):rl env x k=k\/(k=.free/\rl env x k=.cell):=by
 induction k with
 |free=>
  unfold rl
  split
  ·exact .inr ⟨rfl,rfl⟩
  ·exact .inl rfl
 |_=>exact .inl rfl
theorem ZdB(x:Str)(names:List (Str×NameKind)):(names.map λ(n,k)=>if (k==NameKind.free&&env.scope.kind==.function&&env.kindOf n==some .cell) then (n,NameKind.cell) else (n,k)).lookup x=(names.lookup x).map (rl env x):=by
 induction names with
 |nil=>rfl
 |cons p r ih=>
  obtain⟨y,k⟩:=p
  have e:(if (k==NameKind.free&&env.scope.kind==.function&&env.kindOf y==some .cell)=true then (y,NameKind.cell) else (y,k))=(y,rl env y k):=by unfold rl;split <;> rfl
  rw[map_cons];show List.lookup x ((if (k==NameKind.free&&env.scope.kind==.function&&env.kindOf y==some .cell)=true then (y,NameKind.cell) else (y,k))::_)=_;rw[e,List.lookup_cons,List.lookup_cons,ih]
  induction hx:x==y with
  |true=>rw[eq_of_beq hx];rfl
  |false=>rfl
theorem ZaI{α β:Type}[BEq α][LawfulBEq α]{l:List (α×β)}{x:α}{k:β}(h:l.lookup x=some k):(x,k)∈l:=by
 induction l with
 |nil=>exact noS h
 |cons p r ih=>
  obtain⟨y,j⟩:=p;rw[List.lookup_cons]at h
  induction hb:x==y with
  |true=>rw[hb]at h;obtain rfl:=Eq.symm<|Sj h;rw[eq_of_beq hb];exact .head _
  |false=>rw[hb]at h;exact .tail _<|ih h
theorem ZcY{l:List (Str×NameKind)}(hu:uniq l=true){k:NameKind}(h:(x,k)∈l):l.lookup x=some k:=by
 induction l with
 |nil=>cases h
 |cons p r ih=>
  obtain⟨y,j⟩:=p;refine Zao hu λh1 h2=>?_;rw[List.lookup_cons]
  rcases Mc h with q |q
  ·cases q;rw[beq_self_eq_true]
  ·rw[show(x==y)=false from Bool.not_eq_true' _▸Al h1 _ q];exact ih h2 q
structure ScOk(X:Cx)(sc:Sc)(sc':Scope)(ts:List Nat):Prop where
 kind:sc'.kind=.function
 uniq:uniq sc'.names=true
 cell:∀x,(x,NameKind.cell)∉sc'.names
 free:∀x,(x,NameKind.free)∈sc'.names->(beq (knd sc x) 2 ||beq (knd sc x) 3)=true
 loc:∀i,(X.nm i,NameKind.local)∈sc'.names->X.nm i=(".0":Str)\/∃j∈ts,X.nm i=X.nm j
theorem ZpV{sc':Scope}(h:chkSc X.nm sc sc' ts=true):ScOk X sc sc' ts:=Zah h λh1 h2 h3=>by
 have a:=Al h3;refine⟨?_,h2,λx hx=>(nomatch a _ hx),λx hx=>a _ hx,λi hx=>?_⟩
 ·induction e:sc'.kind <;> rw[e]at h1 <;> first |rfl |exact noT h1
 ·rcases Bool.or_eq_true_iff.mp (a _ hx) with q |q
  ·exact .inl<|eq_of_beq q
  ·obtain⟨j,hj,q⟩:=List.any_eq_true.mp q;exact .inr ⟨j,hj,Od q⟩
section
variable {sc':Scope}
theorem Zkd(ok:EnvOk X A env Pv n sc)(h:(beq (knd sc x) 2 ||beq (knd sc x) 3)=true):env.kindOf x=some .cell\/env.kindOf x=some .free:=by
 rcases Bool.or_eq_true_iff.mp h with q |q
 ·exact .inl<|Zfm ok q (by decide)<|by decide
 ·exact(ok.names _ _<|Zew (Bz q)<|by decide).elim .inr λz=>.inl z.2
inductive ClO(env:Env)(names:List (Str×NameKind))(cs:List (Str×Addr))(f:Str×NameKind->List (Str×Addr)->Sem (ForInStep (List (Str×Addr)))):Prop
 |mk (cl:List (Str×Addr)) (h1:forIn names cs f=(pure cl:Sem (List<|Str×Addr))) (h2:∀x c,cl.lookup x=some c->env.cells.lookup x=some c) (h3:∀x,(x,NameKind.free)∈names->∃c,cl.lookup x=some c) (h4:∀x c,cs.lookup x=some c->∃c',cl.lookup x=some c')
theorem ZaY{α:Type}{y:Str}{c:α}{r:List (Str×α)}(h:(x==y)=true):((y,c)::r).lookup x=some c:=by rw[List.lookup_cons,h]
theorem ZbH{α:Type}{y:Str}{c:α}{r:List (Str×α)}(h:(x==y)=false):((y,c)::r).lookup x=r.lookup x:=by rw[List.lookup_cons,h]
theorem Zgr{f:Str×NameKind->List (Str×Addr)->Sem (ForInStep<|List<|Str×Addr)}(hf:∀x k r,f (x,k) r=if (k==NameKind.free)=true then (do let c ← cellOf env x;pure (.yield ((x,c)::r))) else pure (.yield r))
  (names:List (Str×NameKind)):∀cs:List (Str×Addr),(∀x,(x,NameKind.free)∈names->∃c,env.cells.lookup x=some c)->(∀x c,cs.lookup x=some c->env.cells.lookup x=some c)->ClO env names cs f:=by
 induction names with
 |nil=>exact λcs ø hc=>⟨cs,rfl,hc,λø h=>(nomatch h),λø c e=>⟨c,e⟩⟩
 |cons p r ih=>
  intro cs hn hc;obtain⟨y,k⟩:=p;have hn':∀x,(x,NameKind.free)∈r->∃c,env.cells.lookup x=some c:=λx h=>hn x<|.tail _ h
  by_cases hk:(k==NameKind.free)=true
  ·have e:k=.free:=by induction k <;> first |rfl |exact noT hk
   subst e;obtain⟨c,ec⟩:=hn y<|.head _
   obtain⟨cl,h1,h2,h3,h4⟩:=ih ((y,c)::cs) hn' λx d q=>by
    induction hb:x==y with
    |true=>rw[ZaY hb]at q;obtain rfl:=Sj q;rw[eq_of_beq hb];exact ec
    |false=>rw[ZbH hb]at q;exact hc x d q
   refine⟨cl,?_,h2,λx hx=>?_,λx d q=>?_⟩
   ·rw[forIn_cons,hf,if_pos hk,show cellOf env y=pure c by unfold cellOf;rw[ec],← h1];rfl
   ·rcases Mc hx with q |q
    ·cases q;exact h4 y c<|ZaY<|beq_self_eq_true y
    ·exact h3 x q
   ·induction hb:x==y with
    |true=>exact h4 x c<|ZaY hb
    |false=>exact h4 x d<|(ZbH hb).trans q
  ·obtain⟨cl,h1,h2,h3,h4⟩:=ih cs hn' hc;refine⟨cl,?_,h2,λx hx=>?_,h4⟩
   ·rw[forIn_cons,hf,if_neg hk,← h1];rfl
   ·rcases Mc hx with q |q
    ·cases q;exact absurd rfl hk
    ·exact h3 x q
structure CompFacts(X:Cx)(sc:Sc)(sc':Scope)(env:Env)(ts:List Nat)(cl:List (Str×Addr)):Prop extends ScOk X sc sc' ts where
 clos:closureFor sc' env=pure cl
 h2:∀x c,cl.lookup x=some c->env.cells.lookup x=some c
 h3:∀x,(x,NameKind.free)∈sc'.names->∃c,cl.lookup x=some c
theorem ZdU(ok:EnvOk X A env Pv n sc)(hsc:chkSc X.nm sc sc' ts=true):∃cl,CompFacts X sc sc' env ts cl:=by
 have S:=ZpV hsc;obtain⟨cl,h1,h2,h3,_⟩:=Zgr (env:=env) (f:=λ(x:Str×NameKind) r=>if (x.2==NameKind.free)=true then (do let c ← cellOf env x.1;pure (.yield ((x.1,c)::r))) else pure (.yield r)) (λø ø ø=>rfl) sc'.names [] (λx hx=>ok.cl x<|Zkd ok<|S.free x hx) (λx c q=>by exact noS q);refine⟨cl,S,?_,h2,h3⟩;show(forIn sc'.names [] (λ(x:Str×NameKind) r=>if (x.2==NameKind.free)=true then (do let c ← cellOf env x.1;pure (.yield ((x.1,c)::r))) else pure (.yield r)) >>= λr=>pure r)=pure cl;rw[h1];rfl
def only(C:Addr)(st:List Env):Pr:=⟨λa=>a=C,st⟩
theorem Zfl{C:Addr}(x:Str):(compEnvC sc' cl C env).kindOf x=(sc'.names.lookup x).map (rl env x):=ZdB x sc'.names
theorem CompFacts.out{C:Addr}(F:CompFacts X sc sc' env ts cl)(e:(compEnvC sc' cl C env).kindOf x=some .cell\/(compEnvC sc' cl C env).kindOf x=some .free):(x,NameKind.free)∈sc'.names:=by
 rw[Zfl]at e
 induction hq:sc'.names.lookup x with
 |none=>rw[hq]at e;rcases e with e |e <;> exact noS e
 |some k=>
  rw[hq]at e;have m:=ZaI hq;obtain rfl:=Zlf (λz=>F.cell x<|z▸m)<|e.imp Sj Sj;exact m
theorem ZiL{C:Addr}(ok:EnvOk X A env Pv n sc)(F:CompFacts X sc sc' env ts cl)(hhd:sc.hd=true):EnvOk X A (compEnvC sc' cl C env) (only C Pv.st) n ⟨sc',true⟩:=by
 refine⟨ok.stk,λz=>absurd rfl z,ok.ok,λø=>ok.hh hhd,F.kind,ok.glob,ok.bi,λx k e=>?_,λx e=>F.h3 x<|F.out e⟩;rw[Zfl,show sc'.names.lookup x=some k from e]
 exact(ZpJ k).imp (congrArg some) λz=>⟨z.1,congrArg some z.2⟩
theorem Zk4(K:CxOk X){C:Addr}(ok:EnvOk X A env Pv n sc)(at_:At X env Pv W σ s)(F':CompFacts X sc sc' env ts cl)
  (hn:s.heap.get? C=none) (hk:∀b o,s.heap.get? b=some o->h'.get? b=some o) (hC:∃m,h'.Ns C m):At X (compEnvC sc' cl C env) (only C Pv.st) W ⟨σ.H,unbs ts σ.loc⟩ { s with heap:=h',toks:=tk }:=by
 have F:=at_.fr;have L:Lone X env Pv W σ.H h' C:=Lone.new at_ hn (let ⟨_,o,_,_,ho,_⟩:=hC;⟨o,ho⟩)
 have ub:∀i v,unbs ts σ.loc i=some v->i∉ts/\σ.loc i=some v:=λi v e=>by
  have e':(if ts.contains i then none else σ.loc i)=some v:=e
  by_cases hi:i∈ts
  ·rw[if_pos<|List.contains_iff_mem.mpr hi]at e'; exact noS e'
  ·rw[if_neg<|λz=>hi<|List.contains_iff_mem.mp z]at e'; exact⟨hi,e'⟩
 refine⟨at_.rel.quiet (Pv:=noPv) (λb o e ø=>hk b o e) λø z=>z.elim,?_,λi v e k=>?_,λx ef ø=>absurd rfl ef,λx y c e e'=>F.cellEq x y c (F'.h2 _ _ e)<|F'.h2 _ _ e',λx c e=>?_,rfl,λa e=>?_,λa e=>?_,λe he=>(F.frs e he).keep λK o es n a b c d f=>⟨⟨o,es,n,hk _ _ b,c⟩,d,f⟩,λx c q=>F.frc x c<|F'.h2 _ _ q⟩
 ·obtain⟨m,hm⟩:=hC;refine⟨m,hm,λi v e k=>?_⟩;rw[Zfl]at k
  induction hq:sc'.names.lookup (X.nm i) with
  |none=>rw[hq]at k;exact noS k
  |some kk=>
   rw[hq]at k;obtain rfl:=ZiN<|Sj k
   rcases F'.loc i (ZaI hq) with q |⟨j,hj,q⟩
   ·exact absurd q<|K.dot i
   ·exact absurd (K.inj _ _ q▸hj) (ub i v e).1
 ·have hm:=F'.out k;obtain⟨c,cv,hc,⟨o,ho,hd⟩,hv⟩:=F.cells i v (ub i v e).2<|Zkd ok<|F'.free _ hm;obtain⟨c',hc'⟩:=F'.h3 _ hm;obtain rfl:=Eq.symm<|Sj<|(F'.h2 _ _ hc').symm.trans hc;exact⟨c,cv,hc',⟨o,hk _ _ ho,hd⟩,hv⟩
 ·obtain⟨p,q,o,ho⟩:=F.cellNs x c<|F'.h2 _ _ e;exact⟨λz=>(by rw[show c=C from z,hn]at ho;exact noS ho),q,o,hk _ _ ho⟩
 ·rw[show a=C from e];exact⟨L.own,L.z⟩
 ·rw[show a=C from e];exact L.at_
end
inductive AdL(X:Cx)(fz:Bool)(W:Wd)(H:Hp)(s:Shared)(W':Wd)(H':Hp)(s':Shared)(D:Addr)(xs:List V):Prop
 |mk (W'':Wd) (H'':Hp) (t:Tc X W H s W'' H'' s') (r:Res X fz H' (.newList xs) (.ref D) W'' H'') (o:∀b,b≠D->¬ Own W' H' b->W'.Z b=none->¬ Own W'' H'' b/\W''.Z b=none)
theorem ZdP(T:Tc X W H s W' H' s')(hn:s.heap.get? D=none)(ho:¬ Own W' H' D)(hz:W'.Z D=none)
  (hg:s'.heap.get? D=some (lstO vs k)) (hv:VRs X W' vs.toList xs) (hl:xs.length<=SZ):AdL X fz W H s W' H' s' D xs:=by
 have hD:(hideAll s'.heap [D]).get? D=none:=hideAll_none _<|.head _;have of:∀b o,(hideAll s'.heap [D]).get? b=some o->s'.heap.get? b=some o:=λb o e=>of_hideAll _ e;have to:∀b o,b≠D->s'.heap.get? b=some o->(hideAll s'.heap [D]).get? b=some o:=λb o n e=>hideAll_get _ e<|by simpa using n
 have R:RelH X W' H' (hideAll s'.heap [D]):=T.rel.quiet (Pv:=λa=>a=D) (λa o e n=>to a o n e) λa e=>by subst e;exact⟨ho,hz⟩
 have S:Stp noPv W H s.heap W' H' (hideAll s'.heap [D]):=T.stp.poke hn λb o n e=>to b o n e
 induction fz with
 |true=>
  obtain⟨r,t⟩:=R.frozen of hD hg;exact⟨_,_,⟨S.trans t,r,T.rest⟩,⟨.lst ZaP (hv.le t.le) hl,rfl⟩,λb nb ob zb=>⟨λz=>ob<|Own.addZ.mp z,(if_neg nb).trans zb⟩⟩
 |false=>
  obtain⟨r,t⟩:=R.fresh (l:=(D,D)) (c:=.list xs) of hD hD ⟨vs,k,hg,hv.le R.leF,rfl,hl⟩;exact⟨_,_,⟨S.trans t,r,T.rest⟩,⟨VR.ref (l:=(D,D)) Zbe,rfl⟩,λb nb ob zb=>⟨λq=>(R.own_new q).elim ob λq=>q.elim nb nb,zb⟩⟩
theorem Zis{v:V}{Q:Yv}(it:ItAt X W s.heap I v k)(h:Q (.ref I) s):Yw A (pyIter<|.ref I) Q E s:=by
 induction it with
 |lst a r q it=>exact wpAny_pyIter_listiter it h
 |tup a xs e r it=>exact wpAny_pyIter_tupleiter it h
 |rng a b c e hc it=>exact wpAny_pyIter_rangeiter it h
noncomputable abbrev ifsT(ifs:List Expr)(env:Env):Sem Bool:=forIn ifs true λc r=>if r=true then do let ok ← isTrue c env (eval c env);pure (ForInStep.yield ok) else pure (ForInStep.yield r)
def SCo(X:Cx)(n:Nat)(sc:Sc)(p:PCo)(ifs:List Expr):Prop:=∀(A:Around)(env:Env)(Pv:Pr)(W:Wd)(σ:St)(s:Shared)(Q:Yt)(E:EP),
 EnvOk X A env Pv n sc->At X env Pv W σ s->wpC X.P (CW X.P n) E p σ Q->Ew X A env Pv (ifsT ifs env) W σ s (BQ Q) E
theorem Zhp:SCo X n sc .none []:=λA env Pv W σ s Q E ok at_ h=>Yp<|at_.bl (tk:=s.toks) h
theorem Zie{t:PC}{x:Expr}(ht:ST X n sc t x):SCo X n sc (.some t) [x]:=λA env Pv W σ s Q E ok at_ h=>by
 unfold ifsT;rw[forIn_cons,if_pos rfl];exact Yb<|Yb<|Ym (ht A env Pv W σ s _ E ok at_ h) (λb s' q=>Yp<|Yp q) λø ø y=>y
theorem Zgt{elt target iter:Expr}{scope:Scope}{pos:Pos}{it acc:Value}(J:Nat->Shared->Prop)
  (turn:∀k s,J k s->Yw A (pyNext it) (λr s1'=>match r with
   |none=>R (.ok .next) s1'
   |some v=>Yw A (letOwnedTupleGo target it v) (λø s1'=>Yw A (assign target env v) (λø s2'=>
     Yw A (ifsT ifs env) (λok s3'=>
      if ok=true then Yw A (eval elt env) (λx s4'=>
       Yw A (call (.builtin "list.append") [acc,x]) (λø s5=>∃m,m<k/\J m s5) (λø ø=>False) s4') (λø ø=>False) s3'
      else ∃m,m<k/\J m s3') (λø ø=>False) s2') (λø ø=>False) s1') (λø ø=>False) s1') (λø ø=>False) s)
  (k:Nat) (h:J k s):codeAny (model X.prog X.w) A (.compLoop (.ListComp elt [⟨target,iter,ifs,0⟩] scope pos) 0 it acc env) R s:=by
 refine codeAny_loop rfl J (λk s hJ=>?_) k h;show wpAny _ A ((compTurn (.ListComp elt [⟨target,iter,ifs,0⟩] scope pos) 0 it acc env).onRaise _) _ _ s;refine wpAny_noted<|Ym (E:=λø ø=>False) ?_ (λø ø z=>z) λø ø z=>z.elim;rw[compTurn_list];refine Yb<|wpAny_standAt<|Yb<|Ym (turn k s hJ) (λr s1' h1'=>?_) λø ø z=>z
 induction r with
 |none=>exact Yp h1'
 |some v=>
  refine Yb<|Ym h1' (λø s1'' h1''=>Yb<|Ym h1'' (λø s2' h2'=>Yb<|Ym h2' (λok s3' h₃=>?_) λø ø z=>z) λø ø z=>z) λø ø z=>z
  induction ok with
  |false=>exact Yp ⟨rfl,h₃⟩
  |true=>exact Yb<|Yb<|Ym h₃ (λx s4' h4'=>Yb<|Ym h4' (λø s5 h5'=>Yp<|Yp ⟨rfl,h5'⟩) λø ø z=>z) λø ø z=>z
structure Dp(X:Cx)(env:Env)(Pv:Pr)(W:Wd)(H:Hp)(h:Heap)(I D:Addr)(v:V)(k:Nat)(cvs:Array Value)(nn:Nat)(acc:List V):Prop where
 it:ItAt X W h I v k
 LI:Lone X env Pv W H h I
 LD:Lone X env Pv W H h D
 g:h.get? D=some (lstO cvs nn)
 acc:VRs X W cvs.toList acc
theorem ZmS{cs:Array Value}:NoNames (lstO cs k):=λes n q=>by injection q
theorem Dp.step{v:V}{cvs:Array Value}{nn:Nat}{acc:List V}(P:Dp X env Pv W H h I D v k cvs nn acc)(S:Stp Pv.pv W H h W' H' h'):Dp X env Pv W' H' h' I D v k cvs nn acc:=
 ⟨P.it.keep S.le<|P.LI.keep S,P.LI.step S,P.LD.step S,P.LD.keep S _ P.g ZmS,P.acc.le S.le⟩
theorem Lone.at'(L:Lone X env Pv W H h I)(h:∃o,h'.get? I=some o):Lone X env Pv W H h' I:=⟨L.own,L.z,L.pv,L.cell,L.fr,h⟩
structure Inn(X:Cx)(W:Wd)(H:Hp)(s:Shared)(env:Env)(C:Addr)(st:List Env)(W':Wd)(σ':St)(s':Shared):Prop where
 tc:Tc X W H s W' σ'.H s'
 at_:At X env (only C st) W' σ' s'
section
variable {s'':Shared}{C:Addr}{st:List Env}
theorem Inn.step(P:Inn X W H s env C st W' σ' s')(T':Tf X env (only C st) W' σ' s' W'' σ'' s'')(hn:s.heap.get? C=none):Inn X W H s env C st W'' σ'' s'':=
 ⟨⟨P.tc.stp.transFresh T'.stp λx e=>.inl (by rw[show x=C from e];exact hn),T'.at_.rel,P.tc.rest.trans T'.rest⟩,T'.at_⟩
theorem Tc.poke(T:Tc X W H s W' H' s')(hn:s.heap.get? I=none)(ho:¬ Own W' H' I)(hz:W'.Z I=none)(hs:Heap.ExtBut I s'.heap h''):Tc X W H s W' H' { s' with heap:=h'',toks:=tk }:=
 ⟨T.stp.poke hn hs,T.rel.quiet (Pv:=λb=>b=I) (λb o e m=>hs b o m e) (λb e=>by subst e;exact⟨ho,hz⟩),⟨T.rest.gens,T.rest.drawn,T.rest.os⟩⟩
theorem Inn.poke(P:Inn X W H s env C st W' σ' s')(hn:s.heap.get? I=none)(L:Lone X env (only C st) W' σ'.H s'.heap I)(hs:Heap.ExtBut I s'.heap h''):Inn X W H s env C st W' σ' { s' with heap:=h'',toks:=tk }:=
 ⟨P.tc.poke hn L.own L.z hs,P.at_.poke L hs⟩
end
inductive CpI(X:Cx)(W:Wd)(H:Hp)(s:Shared)(env:Env)(C:Addr)(st:List Env)(I D:Addr)(v:V)(xs:List V)(go:List V->Yl)(m:Nat)(s':Shared):Prop
 |mk (k:Nat) (W':Wd) (σ':St) (ys acc:List V) (cvs:Array Value) (nn:Nat) (T:Inn X W H s env C st W' σ' s') (P:Dp X env (only C st) W' σ'.H s'.heap I D v k cvs nn acc) (sd:Stand xs k ys m) (q:go ys acc σ')
inductive CpE(X:Cx)(W:Wd)(H:Hp)(s:Shared)(D C:Addr)(W':Wd)(H':Hp)(s':Shared)(ys:List V):Prop
 |mk (cvs:Array Value) (k:Nat) (m:Str->Option Value) (t:Tc X W H s W' H' s') (sD:s.heap.get? D=none) (sC:s.heap.get? C=none) (ne:D≠C) (oD:¬ Own W' H' D) (zD:W'.Z D=none) (oC:¬ Own W' H' C) (zC:W'.Z C=none) (g:s'.heap.get? D=some (lstO cvs k)) (hv:VRs X W' cvs.toList ys) (hz:ys.length<=SZ) (ns:s'.heap.Ns C m)
section
variable {v:V}{cond:PCo}{e x:Expr}{pos:Pos}{sc':Scope}{Qc:Yl}
noncomputable abbrev cgo(X:Cx)(n:Nat)(elt:PE)(ts:List Nat)(cond:PCo)(v:V)(xs:List V)(Qc:Yl)(ys acc:List V)(σ:St):Prop:=compGo (λσ2 k=>wpC X.P (CW X.P n) noE cond σ2 k) (λσ2 k=>wpE X.P (CW X.P n) noE elt σ2 k) ts (still v xs) ys acc σ Qc
theorem Zhl(K:CxOk X){cenv:Env}{C:Addr}{st:List Env}{s0':Shared}(okc:EnvOk X A cenv (only C st) n ⟨sc',true⟩)(he:SE X n ⟨sc',true⟩ elt e)(hc:SCo X n ⟨sc',true⟩ cond ifs)(hct:chkTgt X.nm ⟨sc',true⟩ ts y=true)
  (sI:s.heap.get? I=none) (sD:s.heap.get? D=none) (sC:s.heap.get? C=none) (nDI:D≠I) (nDC:D≠C) (lC:cenv.locals=C) (h:CpI X W σ.H s cenv C st I D v xs (cgo X n elt ts cond v xs Qc) m s0')
  (hR:∀W' H' loc' s' ys,CpE X W σ.H s D C W' H' s' ys->Qc ys ⟨H',loc'⟩->R (.ok .next) s'):
  codeAny (model X.prog X.w) A (.compLoop (.ListComp e [⟨y,x,ifs,0⟩] sc' pos) 0 (.ref I) (.ref D) cenv) R s0':=by
 have hh:=okc.hh rfl;refine Zgt _ (λm s' hI=>?_) m h;obtain⟨k,W',σ',ys,acc,cvs,nn,T,P,sd,q⟩:=hI
 induction ys using List.casesOn with
 |nil=>
  obtain rfl:=sd.nil;refine ZfE hh T.at_.rel P.it q.1 λh' hs=>?_;have a:=T.poke (tk:=s'.toks) sI P.LI hs;have pvC:=T.at_.fr.priv C rfl;obtain⟨m',hm',_⟩:=a.at_.fr.ns;exact hR W' σ'.H σ'.loc _ acc ⟨cvs,nn,m',a.tc,sD,sC,nDC,P.LD.own,P.LD.z,pvC.1,pvC.2,hs D _ nDI P.g,P.acc,q.2.1,lC▸hm'⟩ q.2.2
 |cons u us=>
  obtain⟨hu,lt,sd'⟩:=sd.cons;have hsz:=q.2.1;refine ZeG T.at_.rel P.it q.1 hu λcu h' tk hcu hit hs=>Zn2 hit ?_;have T1:=T.poke (tk:=tk) sI P.LI hs
  have P1:Dp X cenv (only C st) W' σ'.H h' I D v (k+1) cvs nn acc:=⟨hit,P.LI.at' hit.there,P.LD.at' ⟨_,hs D _ nDI P.g⟩,hs D _ nDI P.g,P.acc⟩
  refine ZlU K okc hh T1.at_ hcu hct q.2.2 λs3' σ3 T3 q=>?_;have P3:=P1.step T3.stp;have C3:=T1.step T3 sC;refine Ym (hc A cenv (only C st) W' _ s3' _ noE okc T3.at_ q) (λb s4' q=>q.e λW4 σ4 T4 q4=>?_) λø ø z=>z.no.elim;have P4:=P3.step T4.stp;have C4:=C3.step T4 sC
  induction b with
  |false=>exact⟨us.length,lt,k+1,W4,σ4,us,acc,cvs,nn,C4,P4,sd',q4⟩
  |true=>
   refine Ym (he A cenv (only C st) W4 σ4 s4' _ noE okc T4.at_ q4) (λr s5 q=>q.e λW5 σ5 T5 q=>q.e λar hr q5=>?_) λø ø z=>z.no.elim;have P5:=P4.step T5.stp;refine append_at P5.g (λh6' hs6 hg6=>?_) (by rw[P5.acc.toArr];exact szLine<|Ny hsz);have it6:=P5.it.keep (.refl _) λo z ø=>hs6.extBut I o (Ne.symm nDI) z;exact⟨us.length,lt,k+1,W5,σ5,us,acc++[ar],cvs.push r,nn+1,(C4.step T5 sC).poke (tk:=s5.toks) sD P5.LD hs6.extBut,⟨it6,P5.LI.at' it6.there,P5.LD.at' ⟨_,hg6⟩,hg6,by rw[Array.toList_push];exact P5.acc.append<|.cons hr .nil⟩,sd',q5⟩
theorem ZdV(K:CxOk X){cv:Value}{RR:Value->Addr->Result->Shared->Prop}
  (ok:EnvOk X A env Pv n sc) (at_:At X env Pv W σ s) (he:SE X n ⟨sc',true⟩ elt e) (hc:SCo X n ⟨sc',true⟩ cond ifs) (hct:chkTgt X.nm ⟨sc',true⟩ ts y=true) (F:CompFacts X sc sc' env ts cl) (hhd:sc.hd=true)
  (hv:VR X W cv v) (hxs:items σ.H v=some xs) (hgo:cgo X n elt ts cond v xs Qc xs [] ⟨σ.H,unbs ts σ.loc⟩)
  (hRR:∀D C W' H' loc' s' ys,CpE X W σ.H s D C W' H' s' ys->Qc ys ⟨H',loc'⟩->RR (.ref D) C (.ok .next) s'):
  Yw A (pyIter cv) (λit s2'=>Yw A (newList []) (λacc s3'=>Yw A (newFunctionEnv sc' env.globals cl [] env.qual none .none (some env)) (λcenv s4'=>
   codeAny (model X.prog X.w) A (.compStart (.ListComp e [⟨y,x,ifs,0⟩] sc' pos) 0 it acc { cenv with scope:=relabel sc' env }) (RR acc cenv.locals) s4') Ex s3') Ex s2') Ex s:=by
 refine ZhC at_.rel hv hxs λoI hfo hit=>wpAny_newObj_type (wpAny_newFunctionEnv (λz hz q=>F.cell z.1<|q▸hz) (λz hz=>nomatch hz) (λh1' hns hsb=>?_) F.kind);dsimp only at hns hsb ⊢;have eD:(s.heap.push oI).objs.size=s.heap.objs.size+1:=Heap.size_push ..;have eC:((s.heap.push oI).push { cls:=.type "list",dict:=none,data:=.seq ([]:List Value).toArray }).objs.size=s.heap.objs.size+1+1:=(Heap.size_push ..).trans (congrArg (·+1) eD);have k1:∀b o,((s.heap.push oI).push { cls:=.type "list",dict:=none,data:=.seq ([]:List Value).toArray }).get? b=some o->h1'.get? b=some o:=λb o q=>hsb.extBut b o (Nx<|Heap.lt_size q)<|Heap.get?_push_of_some _ q;have gD:h1'.get? (s.heap.push oI).objs.size=some (lstO #[] 0):=k1 _ _<|Heap.get?_push_size _ rfl;generalize ((s.heap.push oI).push { cls:=.type "list",dict:=none,data:=.seq ([]:List Value).toArray }).objs.size=C at hns hsb eC ⊢;generalize (s.heap.push oI).objs.size=D at gD hns hsb eD ⊢;have sI:=Zae s.heap;have k0:∀b o,s.heap.get? b=some o->h1'.get? b=some o:=λb o q=>k1 b o<|Heap.get?_push_of_some _<|Heap.get?_push_of_some _ q;have gI:ItAt X W h1' s.heap.objs.size v 0:=hit.keep (.refl _) λo q ø=>k1 _ _<|Heap.get?_push_of_some _ q;have sD:s.heap.get? D=none:=Heap.get?_none_of_le (by rw[eD];exact Us _);have sC:s.heap.get? C=none:=Heap.get?_none_of_le (by rw[eC];exact Nat.le_succ_of_le<|Us _)
 have nDC:D≠C:=by rw[eC,eD];exact Nx<|lt_succ_self _
 have nIC:s.heap.objs.size≠C:=by rw[eC];exact Nx<|Nat.lt_succ_of_lt<|lt_succ_self _
 have nDI:D≠s.heap.objs.size:=by rw[eD];exact Nat.ne_of_gt<|lt_succ_self _
 have lone:∀b,s.heap.get? b=none->b≠C->(∃o,h1'.get? b=some o)->Lone X (compEnvC sc' cl C env) (only C Pv.st) W σ.H h1' b:=λb hb ne hat=>
  have L:=Lone.new (h':=h1') at_ hb hat
  ⟨L.own,L.z,λq=>ne q,λz c q=>L.cell z c<|F.h2 _ _ q,L.fr,hat⟩
 have loop:codeAny (model X.prog X.w) A (.compLoop (.ListComp e [⟨y,x,ifs,0⟩] sc' pos) 0 (.ref s.heap.objs.size) (.ref D)<|compEnvC sc' cl C env) (RR (.ref D) C) { s with heap:=h1',toks:=s.toks+([]:List (Str×Value)).length }:=
  Zhl K (ZiL ok F hhd) he hc hct sI sD sC nDI nDC rfl ⟨0,W,⟨σ.H,unbs ts σ.loc⟩,xs,[],#[],0,⟨⟨.quiet (λb o q ø=>k0 b o q) λb o q=>⟨o,k0 b o q⟩,at_.rel.quiet (Pv:=noPv) (λb o q ø=>k0 b o q) λø z=>z.elim,⟨rfl,rfl,rfl⟩⟩,Zk4 K ok at_ F sC k0 ⟨_,hns⟩⟩,⟨gI,lone _ sI nIC gI.there,lone D sD nDC ⟨_,gD⟩,gD,.nil⟩,⟨rfl,zero_add _,rfl⟩,hgo⟩ (hRR D C)
 exact codeAny_compStart_list loop<|Zis gI loop
end
theorem Zgb{Q:Yq}{r:LV}(g:give fz σ Q r)(h:Res X fz σ.H r v W' H'):VQ X Q v W' ⟨H',σ.loc⟩ s':=by
 induction r with
 |val x=>obtain⟨a,rfl⟩:=h;exact⟨x,a,g⟩
 |newList xs=>induction fz <;> (obtain⟨a,rfl⟩:=h;exact⟨_,a,g.2⟩)
section
variable {cond:PCo}{e x:Expr}{pos:Pos}{sc':Scope}(hi:SE X n sc it x)(he:SE X n ⟨sc',true⟩ elt e)(hc:SCo X n ⟨sc',true⟩ cond ifs)(hct:chkTgt X.nm ⟨sc',true⟩ ts y=true)(hsc:chkSc X.nm sc sc' ts=true)(hhd:sc.hd=true)(hx:ble (xu x).tag 15=true)
include hi he hc hct hsc hhd hx
theorem ZfO(K:CxOk X):SE X n sc (.comp fz elt ts it cond) (.ListComp e [⟨y,x,ifs,0⟩] sc' pos):=by
 intro A env Pv W σ s Q E ok at_ h;obtain⟨cl,F⟩:=ZdU ok hsc;rw[eval_ListComp];refine wpAny_comprehension_free (use:=none) rfl (Zdf hx) F.clos F.kind (λx hx hl=>by obtain⟨x,k⟩:=x;subst hl;exact ZcY F.uniq hx)<|hi.post ok at_ h λcv W1 σ1 s1' v T1 hv q=>Zab q λxs hxs q=>ZdV K ok T1.at_ he hc hct F hhd hv hxs q λD C W' H' loc' s' ys z hg=>?_;obtain⟨cvs,k,m,T,sD,sC,ne,oD,zD,oC,zC,gD,hys,hsz,hm⟩:=z;refine⟨m,hm,λh' hs=>?_⟩;obtain⟨W'',H'',T'',res,_⟩:=ZdP (fz:=fz) (T.poke (tk:=s'.toks) sC oC zC hs.extBut) sD oD zD (hs.extBut D _ ne gD) hys hsz;exact⟨_,_,T1.trans (T''.tf T1.at_),Zgb (σ:=⟨H',σ1.loc⟩) hg res⟩
end
section
variable {cond:PCo}{e x:Expr}{pos:Pos}{sc':Scope}(hi:SE X n sc it x)(he:SE X n ⟨sc',true⟩ elt e)(hc:SCo X n ⟨sc',true⟩ cond ifs)(hct:chkTgt X.nm ⟨sc',true⟩ ts y=true)(hsc:chkSc X.nm sc sc' ts=true)(hhd:sc.hd=true)(hx:ble (xu x).tag 15=true)
include hi he hc hct hsc hhd hx
theorem ZgA(K:CxOk X){i:Nat}{pz pf:Pos}{Q:Yf}{E:EP}(hk:kStore sc (X.nm i)=true)(ok:EnvOk X A env Pv n sc)(hf:env.func≠none)(at_:At X env Pv W σ s)
  (h:wpE X.P (CW X.P n) E (.comp fz elt ts it cond) σ λv σ1=>Q .next<|σ1.put i v):
  Yw A (comprehension (.ListComp e [⟨y,x,ifs,0⟩] sc' pos) sc' env pf (newList []) false (eval x env)<|some<|assign (.Name (X.nm i) pz) env) (λø s'=>Go X env Pv W σ s (FQ X Q) PySem.Flow.next s') (EX X env Pv W σ s E) s:=by
 obtain⟨cl,F⟩:=ZdU ok hsc;refine wpAny_comprehension_free (use:=some<|assign (.Name (X.nm i) pz) env) rfl (Zdf hx) F.clos F.kind (λx hx hl=>by obtain⟨x,k⟩:=x;subst hl;exact ZcY F.uniq hx)<|hi.post ok at_ h λcv W1 σ1 s1' v T1 hv q=>Zab q λxs hxs q=>ZdV K ok T1.at_ he hc hct F hhd hv hxs q λD C W' H' loc' s' ys z hg=>?_;obtain⟨cvs,k,m,T,sD,sC,ne,oD,zD,oC,zC,gD,hys,hsz,hm⟩:=z;obtain⟨W'',H'',T'',res,oth⟩:=ZdP (fz:=fz) T sD oD zD gD hys hsz;have T2:Tf X env Pv W1 σ1 s1' W'' ⟨H'',σ1.loc⟩ s':=T''.tf T1.at_;have L:=Lone.new (h':=s'.heap) T1.at_ sC (let ⟨o,_,_,ho,_⟩:=hm;⟨o,ho⟩);have o:=oth C (Ne.symm ne) oC zC
 have LC:Lone X env Pv W'' H'' s'.heap C:=⟨o.1,o.2,L.pv,L.cell,L.fr,L.at_⟩
 exact(Zgb (s':=s) (σ:=⟨H',σ1.loc⟩) hg res).e λav hav hq=>wpAny_assign_Name (Zcb K ok hf T2.at_ hk hav λs3' T3=>
  ⟨m,Ze3 hm λo ho=>T3.stp.keep C o ho LC.own LC.pv,λh'' hs=>(((T1.trans T2).trans T3).poke (tk:=s3'.toks) (ZbC sC T1.stp.there) (LC.step T3.stp) hs.extBut).flow .next hq⟩)
theorem Zdm(K:CxOk X){i:Nat}{z:Str}{pz pos':Pos}(hz:z=X.nm i)(hk:kStore sc z=true):S1 X n sc (.assign (.loc i)<|.comp fz elt ts it cond) (.Assign [.Name z pz] (.ListComp e [⟨y,x,ifs,0⟩] sc' pos) pos'):=by
 intro A env Pv W σ s Q E ok hf at_ h;subst hz;have sw:swapsWith (.ListComp e [⟨y,x,ifs,0⟩] sc' pos) (some (.Name (X.nm i) pz)) pos'.line env=pure (env.blockKind==.function&&env.kindOf (X.nm i)==some .local&&pz.line==pos.line&&!(sc'.names.any λ(n,k)=>n==X.nm i&&(k==.local ||k==.cell))):=rfl;generalize (env.blockKind==.function&&env.kindOf (X.nm i)==some .local&&pz.line==pos.line&&!(sc'.names.any λ(n,k)=>n==X.nm i&&(k==.local ||k==.cell)))=b at sw
 induction b with
 |false=>exact wpAny_Assign_Name ((ZfO hi he hc hct hsc hhd hx K).post ok at_ h λv W1 σ1 s1' y T hv q=>Zcb K ok hf T.at_ hk hv λs'' T'=>(T.trans T').flow .next q) sw
 |true=>
  unfold Ew;rw[exec_Assign_Name_used _ _ _ _ sw];exact Yb<|wpAny_standAt<|Yb<|Yb<|Ym (ZgA hi he hc hct hsc hhd hx K hk ok hf at_ h) (λø s' q=>Yp<|Yp q) λø ø z=>z
end
theorem ZhG{x o i:Expr}{p:Pos}{l:Nat}:swapsWith x (some<|.Subscript o i p) l env=pure false:=by
 induction x using PySem.Expr.casesOn <;> rfl
set_option maxRecDepth 100000 in
theorem ZnO{l:Addr}{k:Int}{t:Tok}(hg:s.heap.get? l=some (lstO vs m))(h0:0<=k)(hn:k<vs.size)(h63:k<2 ^ 63)
  (h:Q () { s with heap:=s.heap.update l (Obj.mapSeq (·.setIfInBounds k.toNat v)) }):Yw A (setItem (.ref l) (.int k t) v) Q E s:=by
 have hl:s.heap.IsList l vs:=⟨_,hg,rfl,_,rfl⟩
 unfold setItem;refine wpAny_holding ?_;refine Yb (wpAny_sequenceKey hl.typeIs (by decide) ?_);refine Yb<|wpAny_callSpecial?_slot (name:=Str.ofString "__setitem__") hl.typeIs slot_list_setitem<|wpAny_call_entry slot_list_setitem hl.typeIs entry_list_setitem ?_<|args_list_setitem _ _ _;show wpAny _ _ (Builtin.List.listSubscript? (.int k t) >>= _) _ _ s;refine Yb<|wpAny_listSubscript_int (fitsIndex_of h0 h63) ?_
 clear h63
 obtain⟨j,rfl⟩:=Int.eq_ofNat_of_zero_le h0;have hj:j<vs.size:=Int.ofNat_lt.mp hn;show wpAny _ _ ((seqItemAt l j >>= λr=>pure (r.map (j,·))) >>= _) _ _ s;refine Yb<|Yb<|wpAny_seqItemAt hg rfl<|Yp ?_;rw[Array.getElem?_eq_getElem hj];show wpAny _ _ (setSeqItemAt l j v >>= _) _ _ s;refine Yb<|wpAny_setSeqItemAt hg rfl ?_;exact Yp ⟨.none,rfl,Yp h⟩
theorem Zi6{ov iv:Value}{g y x:V}(at_:At X env Pv W σ s)(ho:VR X W ov g)(hi:VR X W iv y)(hv:VR X W v x)(h:need (aRef g) λi=>putI σ i y x q)
  (hq:∀W' σ' s',Tf X env Pv W σ s W' σ' s'->q σ'->Q () s'):Yw A (setItem ov iv v) Q Ex s:=
 Zab h λi ei h=>ZfL ho ei λl e hl ø=>ZpY h (λø h=>Zab h λxs ex h=>Zab h λk ek h=>ZbG hi ek λt et=>by
  subst e et;obtain⟨vs,m,hg,hvs,he,hz⟩:=at_.rel.at_ (Zj8 ex) hl
  have hn:k<vs.size:=by rw[hvs.toArr];exact h.1.2
  refine ZnO hg h.1.1 hn (Int.lt_trans h.1.2<|Int.lt_of_le_of_lt (Int.ofNat_le.mpr hz)<|by decide)<|hq W _ _ (Tc.tf at_<|at_.rel.lset (tk:=s.toks) (Zj8 ex) hl he (λb ob q n1=>(Heap.get?_update_other _ _<|Ne.symm n1).trans q) (Heap.get?_update_self _ hg rfl) ?_ ?_) h.2
  ·show VRs X W (vs.setIfInBounds k.toNat v).toList _;rw[Array.toList_setIfInBounds];exact hvs.set k.toNat hv
  ·rw[List.length_set];exact hz) λø h=>Zab h λkvs ek h=>Zgw hi h.1 λj t e1 e2=>by
  subst e e1 e2;obtain⟨es,d,r,e,ne,z⟩:=at_.rel.at_ (ZnV ek) hl;exact wpAny_setItem_pairs (intKind_is _ _ j t) d (λh' d' hs=>hq W _ _ (Tc.tf at_<|Tc.put at_.rel (ZnV ek) hl d r e ne hv h.2.1 d' hs) h.2.2) (by rw[r.len];exact szLine z)
theorem ZdC{i:PE}{v u x:Expr}{p pos:Pos}(he:SE X n sc e x)(ho:SE X n sc o v)(hi:SE X n sc i u):S1 X n sc (.assign (.idx o i) e) (.Assign [.Subscript v u p] x pos):=λA env Pv W σ s Q E ok hf at_ h=>
 wpAny_Assign_Subscript (he.post ok at_ h λcv W1 σ1 s1' x T1 hv h1'=>Ym (ho.post ok T1.at_ h1' λov W2 σ2 s2' g T2 hg h2'=>Ym (hi.post ok T2.at_ h2' λiv W3 σ3 s3' y T3 hy h₃=>
  Zi6 (Q:=λø s'=>Go X env Pv W σ s (FQ X Q) PySem.Flow.next s') (Ex:=EX X env Pv W σ s E) T3.at_ (hg.le T3.stp.le) hy (hv.le<|T2.stp.le.trans T3.stp.le) h₃ λW' σ' s' T hq=>(((T1.trans T2).trans T3).trans T).flow .next hq) (λø ø q=>q) λø ø y=>y.back<|T1.trans T2) (λø ø q=>q) λø ø y=>y.back T1) ZhG
theorem ZdA(K:CxOk X){is:List Nat}{p pos:Pos}{x:Expr}(he:SE X n sc e x)(ht:tgts X.nm sc is elts=true)(hhd:sc.hd=true)(h15:ble 1 (xu x).tag=true)(h14:ble (xu x).tag 14=true)(h10:tg x 10=false):S1 X n sc (.assign (.tup is) e) (.Assign [.Tuple elts k p] x pos):=λA env Pv W σ s Q E ok hf at_ h=>
 wpAny_Assign_stores (he.post ok at_ h λcv W1 σ1 s1' v T1 hv h1'=>show wpAny _ A (assign (.Tuple elts k p) env cv) _ _ s1' from Zf3 K ok (ok.hh hhd) T1.at_ hv ht h1' λs' σ' T' q=>(T1.trans T').flow .next q) (by
  induction x using PySem.Expr.casesOn <;> first |rfl |(cases h15;done) |(cases h14;done)) (by
  induction x using PySem.Expr.casesOn <;> first |rfl |(exact noF h10;done))
theorem Zhu(K:CxOk X){kp vp pos:Pos}(hk:kLoc sc (X.nm j)=true)(hd:nDbg (X.nm j)=true):SE X n sc (.dict<|.cons (.cst<|.int i) (.loc j) .nil) (.Dict [some<|.Constant (.int i) k kp] [.Name (X.nm j) vp] pos):=by
 intro A env Pv W σ s Q E ok at_ h;refine Zab h λx ex h=>?_;have hn:=Zae s.heap;refine wpAny_Dict_pairs (knd:=intKind X.prog X.w) (pairs:=[(eval (.Constant (.int i) k kp) env,do let y ← eval (.Name (X.nm j) vp) env;standAt pos;pure y)]) rfl (List.cons_ne_nil _ _) (Bq rfl)<|evalPairs_cons ?_;refine wpAny_mkInt ?_;have T1:Tf X env Pv W σ s W σ { s with heap:=s.heap.push<|dictO #[] 0,toks:=s.toks+1 }:=Tf.more at_ λb o q=>Heap.get?_push_of_some _ q;refine Yb<|wpAny_Name (Zea ok T1.at_ hk hd ex λcv hcv=>?_) (Zha hd);refine Yb<|wpAny_standAt (Yp (evalPairs_nil ⟨[(i,cv)],⟨intKind_is _ _ i _,rfl,trivial⟩,Heap.DictOf.new s.heap,λh' d' hs=>?_⟩));have d':h'.DictOf (intKind X.prog X.w) s.heap.objs.size [(i,cv)]:=d';have kp':∀b ob,s.heap.get? b=some ob->h'.get? b=some ob:=λb ob q=>(hs.2 b λz=>by rw[z,hn]at q;exact noS q).trans<|Heap.get?_push_of_some _ q;obtain⟨r,t⟩:=at_.rel.fresh (h':=h') (l:=(s.heap.objs.size,s.heap.objs.size)) (c:=.dict [(.int i,x)]) kp' hn hn ⟨[(i,cv)],d',.cons (hcv.le at_.rel.leF) .nil,rfl,Zin K at_.rel,Bq rfl⟩
 have T:Tc X W σ.H s _ (σ.H.new<|.dict [(.int i,x)]) { s with heap:=h',toks:=s.toks+1+1 }:=⟨t,r,⟨rfl,rfl,rfl⟩⟩
 exact⟨_,⟨_,σ.loc⟩,T.tf at_,_,VR.ref (l:=(s.heap.objs.size,s.heap.objs.size)) Zbe,h.2.2⟩
inductive ElT:List (Int×Value)->List Int->Prop
 |nil:ElT [] []
 |cons {l:List (Int×Value)} {L:List Int} (i:Int) (t:Tok):ElT l L->ElT ((hashInt i,.int i t)::l) (i::L)
inductive SetT(h:Heap)(a:Addr)(p:List Int×SetTable):Prop
 |mk (o:Obj) (es:Array (Int×Value)) (ep:Nat) (g:h.get? a=some o) (x:o.ExactSet) (d:o.data=.set es ep p.2) (e:ElT es.toList p.1) (f:p.2.fits es.size=true)
theorem ElT.len(h:ElT l L):l.length=L.length:=by
 induction h with
 |nil=>rfl
 |cons _ _ _ ih=>exact congrArg (·+1) ih
theorem ElT.size{l:Array (Int×Value)}(h:ElT l.toList L):l.size=L.length:=h.len
theorem ElT.hash(h:ElT l L):l.map (·.1)=L.map hashInt:=by
 induction h with
 |nil=>rfl
 |cons i _ _ ih=>exact congrArg (hashInt i::·) ih
theorem ElT.append{l':List (Int×Value)}{L':List Int}(h:ElT l L)(h':ElT l' L'):ElT (l++l') (L++L'):=by
 induction h with
 |nil=>exact h'
 |cons i t _ ih=>exact .cons i t ih
theorem ElT.take(h:ElT l L):∀k:Nat,ElT (l.take k) (L.take k):=by
 induction h with
 |nil=>intro k;induction k using Nat.casesOn <;> exact .nil
 |cons i t _ ih=>
  intro k
  induction k using Nat.casesOn with
  |zero=>exact .nil
  |succ k=>exact .cons i t<|ih k
theorem ElT.drop(h:ElT l L):∀k:Nat,ElT (l.drop k) (L.drop k):=by
 induction h with
 |nil=>intro k;induction k using Nat.casesOn <;> exact .nil
 |cons i t h ih=>
  intro k
  induction k using Nat.casesOn with
  |zero=>exact .cons i t h
  |succ k=>exact ih k
theorem ElT.get(h:ElT l L):∀k:Nat,(l[k]?=none/\L[k]?=none)\/∃i t,l[k]?=some (hashInt i,.int i t)/\L[k]?=some i:=by
 induction h with
 |nil=>exact λk=>.inl ⟨rfl,rfl⟩
 |cons i t _ ih=>
  intro k
  induction k using Nat.casesOn with
  |zero=>exact .inr ⟨i,t,rfl,rfl⟩
  |succ k=>exact ih k
theorem ElT.pick(h:ElT l L)(o:List Nat):ElT (o.filterMap λk=>l[k]?) (o.filterMap λk=>L[k]?):=by
 induction o with
 |nil=>exact .nil
 |cons k o ih=>
  rw[List.filterMap_cons,List.filterMap_cons]
  rcases h.get k with⟨a,b⟩ |⟨i,t,a,b⟩
  ·rw[a,b];exact ih
  ·rw[a,b];exact .cons i t ih
theorem ZmM(h:ElT es.toList L)(t:SetTable)(i:Int)(u:Tok):ElT (layNew t es (hashInt i)<|.int i u).1.toList (layT L t i).1/\(layNew t es (hashInt i)<|.int i u).2.1=(layT L t i).2.1/\(layNew t es (hashInt i)<|.int i u).2.2.1=(layT L t i).2.2:=by
 unfold layNew layT
 induction t.freeSlot (hashInt i) with
 |none=>
  refine⟨?_,by rw[h.size],rfl⟩;show ElT (es.push _).toList _;rw[Array.toList_push];exact h.append<|.cons i u .nil
 |some r=>
  obtain⟨slot,wd⟩:=r;have e:(SetTable.insertAt es (t.put slot).2 (hashInt i,Value.int i u)).toList=es.toList.take (t.put slot).2++(hashInt i,Value.int i u)::es.toList.drop (t.put slot).2:=SetTable.toList_insertAt ..
  have hE:ElT (SetTable.insertAt es (t.put slot).2 (hashInt i,Value.int i u)).toList (L.take (t.put slot).2++i::L.drop (t.put slot).2):=by
   rw[e];exact(h.take _).append (.cons i u<|h.drop _)
  refine⟨hE,?_,rfl⟩;show(t.put slot).1.orStandIn (SetTable.insertAt es (t.put slot).2 (hashInt i,Value.int i u)).size=_;rw[hE.size,La,Lc,← add_assoc,← La,List.take_append_drop]
theorem ZnZ(h:ElT es.toList L)(t:SetTable)(n:Nat):ElT (relayAll t es n).1.toList (relT L t n).1/\(relayAll t es n).2.1=(relT L t n).2:=by
 have hm:es.map (·.1)=(L.map hashInt).toArray:=by
  apply Array.toList_inj.mp
  rw[Array.toList_map,h.hash]
 unfold relayAll relT;rw[hm,h.size]
 induction t.relaid (L.map hashInt).toArray n with
 |none=>exact⟨h,rfl⟩
 |some r=>
  obtain⟨t',o⟩:=r
  have hE:ElT (o.filterMap (es[·]?)).toList (o.toList.filterMap λk=>L[k]?):=by
   rw[Array.toList_filterMap];have:=h.pick o.toList
   simpa [Array.getElem?_toList] using this
  dsimp only;rw[hE.size]
  split
  ·exact⟨hE,rfl⟩
  ·exact⟨h,rfl⟩
theorem ElT.elems(h:ElT l L):ElemsOf (intKind X.prog X.w) l:=by
 induction h with
 |nil=>exact λe he=>(nomatch he)
 |cons i t _ ih=>exact λe he=>(Mc he).elim (λq=>q▸⟨⟨i,intKind_is _ _ _ _,rfl⟩,rfl⟩)<|ih e
theorem ElT.mem(h:ElT l L):i∈L↔∃e∈l,(intKind X.prog X.w).is i e.2=true:=by
 induction h with
 |nil=>exact⟨λq=>(nomatch q),λ⟨e,he,_⟩=>(nomatch he)⟩
 |@cons l L j t _ ih=>
  have hj:(intKind X.prog X.w).is i (.int j t)=true↔i=j:=by
   rw[KeyKind.is_eq_decide (intKind_is X.prog X.w j t) i,decide_eq_true_eq]
  constructor
  ·intro q
   rcases Mc q with q |q
   ·exact⟨_,.head _,hj.mpr q⟩
   ·obtain⟨e,he,z⟩:=ih.mp q;exact⟨e,.tail _ he,z⟩
  ·rintro⟨e,he,z⟩
   rcases Mc he with rfl |he
   ·rw[hj.mp z];exact .head _
   ·exact .tail _<|ih.mpr ⟨e,he,z⟩
theorem SetT.store{o:Obj}(ho:h.get? a=some o)(hex:o.ExactSet)(hd:o.data=.set es ep t){es':Array (Int×Value)}{t':SetTable}(e:ElT es'.toList L)(f:t'.fits es'.size=true):
  (h.update a<|Obj.putSet es' t').get? a=some { o with data:=.set es' (ep+1) t' }/\SetT (h.update a<|Obj.putSet es' t') a (L,t'):=by
 have hg:(h.update a<|Obj.putSet es' t').get? a=some { o with data:=.set es' (ep+1) t' }:=by
  have:=Heap.get?_update_self (Obj.putSet es' t') ho (by rw[putSet_of es' t' hd];rfl);rw[putSet_of es' t' hd]at this;exact this
 exact⟨hg,_,es',ep+1,hg,hex,rfl,e,f⟩
theorem SetT.keep(S:SetT h a p)(k:∀o,h.get? a=some o->h'.get? a=some o):SetT h' a p:=by
 obtain⟨o,es,ep,ho,hex,hd,e,f⟩:=S;exact⟨o,es,ep,k o ho,hex,hd,e,f⟩
theorem ZcZ:(layT L t i).1.length=L.length+1:=by
 unfold layT
 induction t.freeSlot (hashInt i) with
 |none=>exact La
 |some r=>show(L.take (t.put r.1).2++i::L.drop (t.put r.1).2).length=_;rw[La,Lc,← add_assoc,← La,List.take_append_drop]
theorem Zfx{g:Bool->Sem Unit}(hg:∀(b:Bool)(s1':Shared)(Q':Unit->Shared->Prop),Q' () s1'->Yw A (g b) Q' E s1')
  {a:Addr} {o:Obj} {es:Array (Int×Value)} {ep:Nat} {t:SetTable} (ho:s.heap.get? a=some o) (hex:o.ExactSet) (hd:o.data=.set es ep t)
  {es1:Array (Int×Value)} {t2:SetTable} {L:List Int} (e:ElT es1.toList L) (hb:es1.size<scanBound) (f:t2.fits es1.size=true) {wd:Bool} {R:Option Bool->Shared->Prop}
  (h:∀h',Heap.SameBut a s.heap h'->SetT h' a (if (!wd&&t2.tooFull)=true then relT L t2 (SetTable.grown L.length) else (L,t2))->R (some true) { s with heap:=h' }):
  Yw A (do
    storeSet a es1 t2
    if (!wd&&t2.tooFull)=true then do
      g (relayAll t2 es1<|SetTable.grown es1.size).2.2
      storeSet a (relayAll t2 es1<|SetTable.grown es1.size).1 (relayAll t2 es1<|SetTable.grown es1.size).2.1
      pure (some true)
     else pure (some true)) R E s:=by
 refine Yb<|wpAny_storeSet_of ho hd ?_<|fits_of_scanBound hb;obtain⟨ho1,S1⟩:=SetT.store ho hex hd e f;have b1:=Heap.SameBut.update s.heap a<|Obj.putSet es1 t2
 by_cases c:(!wd&&t2.tooFull)=true
 ·rw[if_pos c]at h ⊢;obtain⟨e2,t2e⟩:=ZnZ e t2<|SetTable.grown es1.size;have rp:=relayAll_perm t2 es1 (SetTable.grown es1.size)
  have hz:(relayAll t2 es1<|SetTable.grown es1.size).1.size=es1.size:=by rw[← Array.length_toList,rp.length_eq,Array.length_toList]
  refine Yb (hg _ _ _<|Yb<|wpAny_storeSet_of ho1 rfl ?_<|fits_of_scanBound (by rw[hz];exact hb));have S2:=(SetT.store ho1 hex rfl e2<|relayAll_fits t2 es1<|SetTable.grown es1.size).2;refine Yp<|h _ (b1.trans<|Heap.SameBut.update _ a _) ?_;rw[← e.size]
  have:((relT L t2<|SetTable.grown es1.size).1,(relayAll t2 es1<|SetTable.grown es1.size).2.1)=relT L t2 (SetTable.grown es1.size):=by rw[t2e]
  rw[← this];exact S2
 ·rw[if_neg c]at h ⊢;exact Yp<|h _ b1 S1
theorem ZeV{u:Tok}{Q:Bool->Shared->Prop}(S:SetT s.heap a p)(hr:p.1.length+1<scanBound)
  (h:∀h' b,Heap.SameBut a s.heap h'->SetT h' a (addT p i)->Q b { s with heap:=h' }):Yw A (setAddHashed a (.int i u)<|hashInt i) Q E s:=by
 obtain⟨L,t⟩:=p;obtain⟨o,es,ep,ho,hex,hd,e,f⟩:=id S;have hd:o.data=.set es ep t:=hd;have e:ElT es.toList L:=e;have f:t.fits es.size=true:=f;have hr:L.length+1<scanBound:=hr
 have hb:es.size<scanBound:=by rw[e.size];exact Nat.lt_of_succ_lt hr
 have mem:i∈L↔∃e∈es.toList,(intKind X.prog X.w).is i e.2=true:=e.mem;unfold setAddHashed setAddHashedIn;refine wpAny_holding<|Yb<|wpAny_setState_of ho hd f ?_;dsimp only;rw[byScan_of (knd:=intKind X.prog X.w) (x:=.int i u) rfl hb e.elems];simp only[↓reduceIte];unfold setAddByScan;refine Yb<|Yb<|wpAny_rule<|Yb<|wpAny_setScan_of (knd:=intKind X.prog X.w) (intKind_is X.prog X.w i u) ho hd f e.elems ?_
 induction q:List.findIdx? (λe=>(intKind X.prog X.w).is i e.2) es.toList with
 |some j=>
  obtain⟨hj,hp,_⟩:=List.findIdx?_eq_some_iff_getElem.mp q;have hi:i∈L:=mem.mpr ⟨_,List.getElem_mem hj,hp⟩;refine Yp<|Yp ?_;exact h s.heap false (Heap.SameBut.refl a s.heap) (by unfold addT;rw[if_pos hi];exact S)
 |none=>
  have hi:i∉L:=λz=>by
   obtain⟨e',he,hp⟩:=mem.mp z;rw[List.findIdx?_eq_none_iff.mp q e' he]at hp;exact noT hp
  obtain⟨e1,q2,q3⟩:=ZmM e t i u;have hf:=layNew_fits t es (hashInt i)<|.int i u
  have hb1:(layNew t es (hashInt i)<|.int i u).1.size<scanBound:=by rw[e1.size,ZcZ];exact hr
  have h:∀h' b,Heap.SameBut a s.heap h'->SetT h' a (if (!(layT L t i).2.2&&(layT L t i).2.1.tooFull)=true then relT (layT L t i).1 (layT L t i).2.1 (SetTable.grown (layT L t i).1.length) else ((layT L t i).1,(layT L t i).2.1))->Q b { s with heap:=h' }:=λh' b sb S'=>h h' b sb (by unfold addT;rw[if_neg hi];exact S');rw[← q2,← q3]at h;generalize (layT L t i).1=L1 at e1 h;generalize layNew t es (hashInt i) (.int i u)=LL at e1 hf hb1 h ⊢;obtain⟨es1,t1,wd,gave⟩:=LL;dsimp only at e1 hf hb1 h ⊢
  have hg:∀(b:Bool)(s1':Shared)(Q':Unit->Shared->Prop),Q' () s1'->Yw A (match b with |true=>rule "set.scan.the-table-gave-way" |false=>pure ()) Q' E s1':=
   λb s1' Q' hq=>by induction b <;> first |exact Yp hq |exact wpAny_rule hq
  refine Yb<|hg _ _ _ ?_
  split
  ·refine Yb ?_;rw[hashByValue_scannable 8 (x:=.int i u) rfl];exact Yp<|Zfx (wd:=wd) hg ho hex hd e1 hb1 hf λh' sb S'=>Yp<|h h' true sb S'
  ·refine Yb<|Yp ?_;simp only[↓reduceIte];exact Zfx (wd:=wd) hg ho hex hd e1 hb1 hf λh' sb S'=>Yp<|h h' true sb S'
theorem Zd2:(addT p i).1.length<=p.1.length+1:=by
 unfold addT
 split
 ·exact Us _
 ·split
  ·unfold relT
   split
   ·rename_i t' o _
    split
    ·rename_i c
     have c:=(Bool.and_eq_true ..).mp c;have hp:List.Perm o.toList (List.range (layT p.1 p.2 i).1.length):=List.isPerm_iff.mp c.1;have h1:=List.length_filterMap_le (λk=>(layT p.1 p.2 i).1[k]?) o.toList;rw[hp.length_eq,length_range,ZcZ]at h1;exact h1
    ·exact Nz ZcZ
   ·exact Nz ZcZ
  ·exact Nz ZcZ
theorem Zjn{S l:Addr}{items:Array Value}{ns:List Int}(hh:A.handled=none)(hi:IntsAre items.toList ns)(n1:S≠I)(n2:S≠l)(n3:I≠l)(r:List Int):
  ∀(k:Nat)(L:List Int×SetTable)(s:Shared),ns.drop k=r->s.heap.IsListIter I l k->s.heap.IsList l items->SetT s.heap S L->L.1.length+r.length+1<scanBound->
   (∀h' tk,SetT h' S (r.foldl addT L)->(∀b o,b≠S->b≠I->s.heap.get? b=some o->h'.get? b=some o)->R (.ok<|.ret .none) { s with heap:=h',toks:=tk })->
   codeAny (model X.prog X.w) A (.builtin "set.update.loop" ⟨[.ref S,.ref I],[]⟩) R s:=by
 induction r with
 |nil=>
  intro k L s hd it hl hS hb h
  have hn:items[k]?=none:=by
   rw[← Array.getElem?_toList];refine List.getElem?_eq_none ?_;rw[hi.length];exact List.drop_eq_nil_iff.mp hd
  refine codeAny_builtin PyProof.Rows.F.entry_set_update_loop ?_;rw[Around.under_plainId PyProof.Rows.F.plain_set_update_loop _];show wpAny _ A.in1 (pyNext (.ref I) >>= _) _ _ s;refine Yb (wpAny_pyNext_list_end (A:=A.in1) (by simp[hh]) it hl hn λh' hs=>?_);show wpAny _ A.in1 (ret Value.none) _ _ _;exact Yp<|h h' s.toks (hS.keep λo e=>hs S o n1 e) λb o ø nb e=>hs b o nb e
 |cons i r ih=>
  intro k L s hd it hl hS hb h
  have hk:ns[k]?=some i:=by rw[← List.head?_drop,hd];rfl
  have hd':ns.drop (k+1)=r:=by rw[← List.tail_drop,hd];rfl
  have lt:k<items.toList.length:=by rw[hi.length];exact(List.getElem?_eq_some_iff.mp hk).1
  obtain⟨t,ht⟩:=PyProof.Rows.IntsAre.int_at hi k _<|Lg lt
  have hv:items[k]?=some (.int i t):=by
   rw[← Array.getElem?_toList,Lg lt,ht,List.getD_eq_getElem?_getD,hk];rfl
  refine codeAny_builtin PyProof.Rows.F.entry_set_update_loop ?_;rw[Around.under_plainId PyProof.Rows.F.plain_set_update_loop _];show wpAny _ A.in1 (pyNext (.ref I) >>= _) _ _ s;refine Yb<|wpAny_pyNext_list_item it hl hv λh1' it1 hs1=>?_;show wpAny _ A.in1 (holding [Value.int i t] (setAdd S<|.int i t) >>= _) _ _ _;refine Yb<|wpAny_holding ?_;unfold setAdd;refine wpAny_holding<|Yb<|(intKind X.prog X.w).pyHash (k:=i) (intKind_is _ _ _ _) ?_;have hb:L.1.length+(r.length+1)+1<scanBound:=hb;refine ZeV (s:={ s with heap:=h1',toks:=s.toks+1 }) (hS.keep λo e=>hs1.extBut S o n1 e) (by exact lf6<|Ny hb) λh2' b hs2 S2'=>Yp ⟨plainId_quiet PyProof.Rows.F.plain_set_update_loop _,ih (k+1) (addT L i) _ hd' ?_ ?_ S2' (by have:=Zd2 (p:=L) (i:=i);exact lk1 this hb) λh' tk S' kp=>h h' tk S' λb o nb nI e=>?_⟩
  ·obtain⟨o,ho,q⟩:=it1;exact⟨o,hs2.extBut I o (Ne.symm n1) ho,q⟩
  ·obtain⟨o,ho,q⟩:=hl;exact⟨o,hs2.extBut l o (Ne.symm n2)<|hs1.extBut l o (Ne.symm n3) ho,q⟩
  ·exact kp b o nb nI<|hs2.extBut b o nb<|hs1.extBut b o nI e
end
section
set_option maxRecDepth 100000
set_option maxHeartbeats 3200000
open PySem PySem.W PySem.Calls PyProof.Rows
noncomputable def ledW(w:World):Bool:=!w.params.followText "set-order"
noncomputable abbrev setO(led:Bool):Obj:={ cls:=.type "set",dict:=none,data:=.set #[] 0 (.fresh 0 0 led) }
section
variable {A:Around}{E:Yv}{s:Shared}
theorem ZlD(a:Value){Q₁:Yv}(h:Q₁ (.ref s.heap.objs.size) { s with heap:=s.heap.push (setO<|ledW X.w) }):
  codeAny (model X.prog X.w) A (.call (.builtin "set.__new__") ⟨[.type "set",a],[]⟩) (wants Q₁ E) s:=by
 refine codeAny_of_tree ?_;show wpAny _ A.in1 (do checkBuiltinCall "set.__new__" ⟨[.type "set",a],[]⟩;again (.builtin "set.__new__" ⟨[.type "set",a],[]⟩)) _ _ s;refine Yb<|wpAny_of_eq (PySem.F.newCall_set_1 a)<|Yp ⟨plainId_quiet PySem.F.plain_set_new _,codeAny_builtin PySem.F.entry_set_new ?_⟩;rw[Around.under_plainId PySem.F.plain_set_new _];unfold Builtin.«set.__new__» Builtin.Frozenset.newClass;have hsub:=sub_set_self;obtain⟨hp,g,d,tk,os⟩:=s;dsimp only
 wp_walk
 refine wpAny_askSetting<|Yp ?_;dsimp only;simp only[newObj];exact Yb<|wpAny_alloc<|Yp<|Yp h
noncomputable abbrev newT(w:World):List Int×SetTable:=([],.fresh 0 0 (ledW w))
theorem SetT.new{h:Heap}{w:World}:SetT (h.push<|setO<|ledW w) h.objs.size (newT w):=⟨_,#[],0,Heap.get?_push_size _ rfl,⟨rfl,rfl,rfl⟩,rfl,.nil,by rfl⟩
theorem ZjA{l:Addr}{items:Array Value}{ns:List Int}(hh:A.handled=none)(hl:s.heap.IsList l items)(hi:IntsAre items.toList ns)(hb:ns.length+1<scanBound)
  (h:∀h' tk,SetT h' s.heap.objs.size (ns.foldl addT<|newT X.w)->(∀b o,s.heap.get? b=some o->h'.get? b=some o)->Q (.ref s.heap.objs.size) { s with heap:=h',toks:=tk }):
  Yw A (call (.type "set") [.ref l]) Q E s:=by
 obtain⟨c,tl,hmro⟩:=PySem.F.called_set.mro;have hmade:=PySem.F.called_set.made;have hsub:=PySem.F.called_set.sub;refine wpAny_call<|codeAny_of_tree ?_;show wpAny _ _ (callAny (.type "set") _) _ _ _;refine Yp ⟨Code.quiet_builtin _<|by decide+kernel,codeAny_builtin PySem.F.entry_type_call ?_⟩;rw[Around.under_plain (weight_type_call_type "set" [.ref l] []) rfl];have h1:=PySem.F.called_set.notType;have h2:=PySem.F.called_set.canCreate;have hct:=PySem.F.typeCall_set_1<|.ref l
 repeat (any_goals (first |assumption |wp_step))
 refine codeAny_mono (ZlD (.ref l) (E:=E) (Q₁:=λobj s1'=>obj=.ref s.heap.objs.size/\s1'={ s with heap:=s.heap.push (setO<|ledW X.w) }) ⟨rfl,rfl⟩) λr s1' hr=>?_
 induction r with
 |error e=>exact hr
 |ok fl=>
  induction fl with
  |ret obj=>
   obtain⟨rfl,rfl⟩:=hr;have hS:(s.heap.push<|setO<|ledW X.w).get? s.heap.objs.size=some (setO<|ledW X.w):=Heap.get?_push_size _ rfl
   have hT:Shared.TypeIs { s with heap:=s.heap.push (setO<|ledW X.w) } (.ref s.heap.objs.size) "set":=⟨_,hS,rfl⟩
   have hli:=PySem.F.called_set.init.lookup;have hbi:=PySem.F.called_set.init.bind<|.ref s.heap.objs.size
   repeat (any_goals (first |assumption |wp_step))
   refine codeAny_mono (codeAny_call_builtin (R:=wants (λr s2'=>r=.none/\∃h' tk,s2'={ s with heap:=h',toks:=tk }/\SetT h' s.heap.objs.size (ns.foldl addT<|newT X.w)/\∀b o,s.heap.get? b=some o->h'.get? b=some o) E) PySem.F.called_set.init.plain PySem.F.entry_set_init<|check_set_init_1 hT ?_) λr2' s2' hr2=>?_
   ·obtain⟨ol,hol,hcl,nl,hdl⟩:=hl;obtain⟨ocls,odict,odata,oslots⟩:=ol;simp only at hcl hdl;subst hcl;subst hdl;have hol':(s.heap.push<|setO<|ledW X.w).get? l=some { cls:=.type "list",dict:=odict,data:=.seq items nl,slots:=oslots }:=Heap.get?_push_of_some _ hol;have hsls:=PySem.F.sub_list_set;have hslf:=PySem.F.sub_list_frozenset
    have hne:(Value.type "list"==Value.type "dict")=false:=by decide
    have hl1:(s.heap.push<|setO<|ledW X.w).IsList l items:=⟨_,hol',rfl,nl,rfl⟩
    have lt:l<s.heap.objs.size:=Heap.lt_size hol;have eI:(s.heap.push<|setO<|ledW X.w).objs.size=s.heap.objs.size+1:=Heap.size_push ..;unfold Builtin.«set.__init__» noKeywords Builtin.Frozenset.updateFrom;generalize hPI:pyIter=PI
    wp_walk
    subst hPI;refine wpAny_pyIter_list hl1<|Yb<|wpAny_runValue ?_;refine Zjn (by simp[hh]) hi (by rw[eI];exact Nx<|lt_succ_self _) (Nat.ne_of_gt lt) (by rw[eI];exact Nat.ne_of_gt<|Nat.lt_succ_of_lt lt) ns 0 (newT X.w) _ rfl ⟨_,Heap.get?_push_size _ rfl,rfl,rfl⟩ (hl1.push _) (SetT.new.keep λo e=>Heap.get?_push_of_some _ e) (by simpa using hb) λh' tk S' kp=>?_;show wpAny _ _ _ _ _ _;refine Yp ?_;show wpAny _ _ (ret Value.none) _ _ _;refine Yp ⟨rfl,h',tk,rfl,S',λb o e=>kp b o (Nx<|Heap.lt_size e) (by rw[eI];exact Nx<|Nat.lt_succ_of_lt<|Heap.lt_size e)<|Heap.get?_push_of_some _<|Heap.get?_push_of_some _ e⟩
   ·induction r2' with
    |error e=>exact hr2
    |ok fl2=>
     induction fl2 with
     |ret r=>
      obtain⟨rfl,h',tk,rfl,S',kp⟩:=hr2
      repeat (any_goals (first |assumption |wp_step))
      exact h _ _ S' kp
     |_=>exact hr2
  |_=>exact hr
end
end
section
open PySem PySem.W PySem.Calls PyProof.Rows
variable {a b:Addr}{p r:List Int×SetTable}{l:List (Int×Value)}{s:Shared}{t:SetTable}{i:Int}{M:List Int}{es:Array (Int×Value)}{E:Yv}{A:Around}{Q:Unit->Shared->Prop}
theorem ZjU(e:ElT es.toList L){x:Option (SetTable×Array Nat)}(h:reoT L x=some r)(g:∀o,x=some (r.2,o)->ElT (o.filterMap (es[·]?)).toList r.1->(o.filterMap (es[·]?)).size=es.size->r.2.fits (o.filterMap (es[·]?)).size=true->G):G:=by
 induction x with
 |none=>exact noS h
 |some y=>
  obtain⟨t,o⟩:=y;have h:(if ((o.toList.filterMap λk=>L[k]?).length==L.length&&t.fits L.length)=true then some (o.toList.filterMap λk=>L[k]?,t) else none)=some r:=h
  by_cases c:((o.toList.filterMap λk=>L[k]?).length==L.length&&t.fits L.length)=true
  ·rw[if_pos c]at h;obtain rfl:=Sj h;have c:=(Bool.and_eq_true ..).mp c
   have hE:ElT (o.filterMap (es[·]?)).toList (o.toList.filterMap λk=>L[k]?):=by
    rw[Array.toList_filterMap];have:=e.pick o.toList
    simpa [Array.getElem?_toList] using this
   have hz:(o.filterMap (es[·]?)).size=es.size:=by rw[hE.size,beq_iff_eq.mp c.1,e.size]
   exact g o rfl hE hz (by rw[hz,e.size];exact c.2)
  ·rw[if_neg c]at h;exact noS h
theorem Zjg{n:Nat}(S:SetT s.heap a p)(hb:p.1.length<scanBound)(hz:SetTable.sizeAbove n<=sizeLine)(he:reoT p.1 (p.2.relaid (p.1.map hashInt).toArray n)=some r)
  (h:∀h',Heap.SameBut a s.heap h'->SetT h' a r->Q () { s with heap:=h' }):Yw A (setRelay a n) Q E s:=by
 obtain⟨L,t⟩:=p;obtain⟨o,es,ep,ho,hex,hd,e,f⟩:=S;have e:ElT es.toList L:=e
 have hm:es.map (·.1)=(L.map hashInt).toArray:=by
  apply Array.toList_inj.mp
  rw[Array.toList_map,e.hash]
 unfold setRelay;refine Yb<|wpAny_setState_of ho hd f ?_;dsimp only;rw[if_neg<|Nat.not_lt.mpr hz,hm];refine ZjU e he λod hq hE hs hf=>?_;rw[show t.relaid (L.map hashInt).toArray n=some (r.2,od) from hq];refine Yb ?_;show wpAny _ _ (if ((od.filterMap (es[·]?)).size != es.size)=true then _ else _) _ _ _;rw[hs,if_neg<|by simp];refine Yp ?_;have S':=(SetT.store ho hex hd hE hf).2;exact wpAny_storeSet_of ho hd (h _ (Heap.SameBut.update s.heap a _) S')<|fits_of_scanBound (by rw[hs,e.size];exact hb)
theorem ZgY{n:Nat}(S:SetT s.heap a p)(hb:p.1.length<scanBound)(he:roomT p n=some r)
  (h:∀h',Heap.SameBut a s.heap h'->SetT h' a r->Q () { s with heap:=h' }):Yw A (setRoomFor a n) Q E s:=by
 obtain⟨o,es,ep,ho,hex,hd,e,f⟩:=id S;unfold setRoomFor;refine Yb<|wpAny_setState_of ho hd f ?_;unfold roomT at he
 induction q:p.2.roomFor n with
 |none=>
  rw[q]at he;obtain rfl:=Sj he;dsimp only;exact Yp<|h s.heap (Heap.SameBut.refl a s.heap) S
 |some m=>
  rw[q]at he;dsimp only at he ⊢
  by_cases c:SetTable.sizeAbove m<=sizeLine
  ·rw[if_pos c]at he;exact Zjg S hb c he h
  ·rw[if_neg c]at he;exact noS he
theorem Zil{t':SetTable}{n:Nat}(h:t.fits n=true)(h1:t'.mask=t.mask)(h2:t'.place=t.place)(h3:t'.dummies=t.dummies):t'.fits n=true:=by
 unfold SetTable.fits SetTable.fill at h ⊢;rw[h1,h2,h3];exact h
theorem Zk5(hab:a≠b)(Sa:SetT s.heap a (newT X.w))(Sb:SetT s.heap b p)(hb:p.1.length<scanBound)(he:copyT (ledW X.w) p=some r)
  (h:∀h',Heap.SameBut a s.heap h'->SetT h' a r->Q () { s with heap:=h' }):Yw A (setMerge a b) Q E s:=by
 obtain⟨o,es,ep,ho,hex,hd,e,f⟩:=id Sb;unfold setMerge;rw[if_neg<|by simpa using hab];refine Yb<|wpAny_setState_of ho hd f ?_;dsimp only;unfold copyT at he
 have em:es.isEmpty=p.1.isEmpty:=by
  have:=e.size
  induction q:p.1 using List.casesOn with
  |nil=>rw[q]at this;exact Dq this
  |cons x l=>rw[q]at this;exact Df (by rw[this];exact Nat.succ_ne_zero _)
 rw[em]
 by_cases c:p.1.isEmpty=true
 ·rw[if_pos c]at he ⊢;obtain rfl:=Sj he;exact Yp<|h s.heap (Heap.SameBut.refl a s.heap) Sa
 rw[if_neg c]at he ⊢;rw[e.size]
 induction q:roomT (newT X.w) p.1.length with
 |none=>rw[q]at he;exact noS he
 |some r1'=>
  rw[q]at he;refine Yb (ZgY Sa (by show 0<4096;decide) q λh1' sb1 S1'=>?_);obtain⟨o1',es1',ep1,ho1',hex1,hd1,e1',f1'⟩:=id S1';refine Yb<|wpAny_setState_of (s:={ s with heap:=h1' }) ho1' hd1 f1' ?_;dsimp only at he ⊢
  induction qr:r1'.2.road p.2 with
  |oneByOne=>rw[qr]at he;exact noS he
  |slotForSlot=>
   rw[qr]at he;obtain rfl:=Sj he;have S':=(SetT.store (t':={ p.2 with finger:=r1'.2.finger,led:=r1'.2.led&&p.2.led,moves:=r1'.2.moves,plain:=r1'.2.plain&&p.2.plain }) ho1' hex1 hd1 e<|Zil f rfl rfl rfl).2;exact wpAny_storeSet_of (s:={ s with heap:=h1' }) ho1' hd1 (h _ (sb1.trans<|Heap.SameBut.update _ a _) S')<|fits_of_scanBound (by rw[e.size];exact hb)
  |clean=>
   rw[qr]at he
   have hm:es.map (·.1)=(p.1.map hashInt).toArray:=by
    apply Array.toList_inj.mp
    rw[Array.toList_map,e.hash]
   dsimp only;rw[hm];refine ZjU e he λod hq hE hs hf=>?_;rw[hq];refine Yb ?_;show wpAny _ _ (if ((od.filterMap (es[·]?)).size != es.size)=true then _ else _) _ _ _;rw[hs,if_neg<|by simp];refine Yp ?_;have S':=(SetT.store ho1' hex1 hd1 hE hf).2;exact wpAny_storeSet_of (s:={ s with heap:=h1' }) ho1' hd1 (h _ (sb1.trans<|Heap.SameBut.update _ a _) S')<|fits_of_scanBound (by rw[hs,e.size];exact hb)
theorem Zmt{α:Type}(next:Nat->Nat):∀(n k:Nat)(l:List α)(out:Array α),n=l.length->(pickOrder.go next n k l out).toList.Perm (out.toList++l):=by
 intro zz0
 induction zz0 with
 |zero=>
  intro k l out h;obtain rfl:=List.length_eq_zero_iff.mp h.symm;rw[append_nil];exact .refl _
 |succ n ih=>
  intro k l out h;unfold pickOrder.go;have lt:next k % l.length<l.length:=Nat.mod_lt _ (by rw[← h];exact Nat.succ_pos _);rw[Lg lt];dsimp only;have he:(l.eraseIdx (next k % l.length)).length=l.length - 1:=List.length_eraseIdx_of_lt lt;refine(ih (k+1) _ _ (by rw[he,← h];rfl)).trans ?_;rw[Array.toList_push,List.append_assoc];refine List.Perm.append_left _ ?_;rw[List.eraseIdx_eq_take_drop_succ]
  have:l=l.take (next k % l.length)++l[next k % l.length]::l.drop (next k % l.length+1):=by
   rw[← List.drop_eq_getElem_cons lt,List.take_append_drop]
  conv=>rhs;rw[this]
  rw[List.singleton_append];exact List.perm_middle.symm
theorem Zdc{α:Type}(next:Nat->Nat)(xs:Array α):(pickOrder next xs).toList.Perm xs.toList:=(Zmt next xs.size 0 xs.toList #[] rfl).trans<|.refl _
noncomputable def vInt?:Value->Option Int
 |.int i _=>some i
 |_=>none
theorem ElT.iff(h:ElT l L):(∀e∈l,∃i t,e=(hashInt i,Value.int i t))/\L=l.filterMap λe=>vInt? e.2:=by
 induction h with
 |nil=>exact⟨λe he=>(nomatch he),rfl⟩
 |@cons l L i t _ ih=>exact⟨λe he=>(Mc he).elim (λq=>⟨i,t,q⟩)<|ih.1 e,by rw[List.filterMap_cons,← ih.2];rfl⟩
theorem ElT.ex(h:∀e∈l,∃i t,e=(hashInt i,Value.int i t)):ElT l (l.filterMap λe=>vInt? e.2):=by
 induction l with
 |nil=>exact .nil
 |cons e l ih=>
  obtain⟨i,t,rfl⟩:=h e<|.head _;rw[List.filterMap_cons];exact .cons i t<|ih λe he=>h e<|.tail _ he
theorem ElT.perm{l':List (Int×Value)}(h:ElT l L)(p:l'.Perm l):ElT l' (l'.filterMap λe=>vInt? e.2)/\(l'.filterMap λe=>vInt? e.2).Perm L:=by
 obtain⟨h1,h2⟩:=h.iff;exact⟨.ex λe he=>h1 e<|p.mem_iff.mp he,by rw[h2];exact p.filterMap _⟩
theorem ZlZ{o:Obj}{Q:Array (Int×Value)->Shared->Prop}(ho:s.heap.get? a=some o)(hd:o.data=.set es ep t)(f:t.fits es.size=true)(hl:t.led=ledW X.w)(hp:t.plain=true)
  (h:∀W:Array (Int×Value),W.toList.Perm es.toList->(ledW X.w=true->W=es)->Q W s):Yw A (setWalk a) Q E s:=by
 unfold setWalk setsByText;refine Yb<|wpAny_setState_of ho hd f ?_;dsimp only;refine Yb<|Yb<|wpAny_askSetting<|Yp ?_
 induction q:X.w.params.followText "set-order" with
 |true=>
  rw[if_pos<|by exact q];refine Yb<|wpAny_askSetting<|Yp (h _ (Zdc _ _) λz=>by unfold ledW at z;rw[q]at z;exact noT z)
 |false=>
  have hl:t.led=true:=by rw[hl];unfold ledW;rw[q];rfl
  rw[if_neg (by rw[show(model X.prog X.w).w.params.followText "set-order"=false from q];exact Bool.false_ne_true)];show wpAny _ _ (if (!t.plain&&decide (es.size > 1))=true then _ else _) _ _ _;rw[hp,if_neg<|by simp];show wpAny _ _ ((if (!t.led&&decide (es.size > 1))=true then _ else _) >>= _) _ _ _;rw[hl,if_neg<|by simp];exact Yb<|Yp<|Yp<|h es (.refl _) λø=>rfl
noncomputable def addL(L:List Int)(i:Int):List Int:=if i∈L then L else L++[i]
theorem Ziz{j:Int}:j∈addL L i↔j∈L\/j=i:=by
 unfold addL
 by_cases c:i∈L
 ·rw[if_pos c];exact⟨.inl,λh=>h.elim (λx=>x) λe=>e▸c⟩
 ·rw[if_neg c,List.mem_append,List.mem_singleton]
theorem Zgm(h:L.Nodup):(addL L i).Nodup:=by
 unfold addL
 by_cases c:i∈L
 ·rw[if_pos c];exact h
 ·rw[if_neg c];exact List.nodup_append.mpr ⟨h,pairwise_singleton _ i,λa ha b hb e=>c<|Mg hb▸e▸ha⟩
theorem ZjH(k:Nat):(L.take k++i::L.drop k).Perm (L++[i]):=by
 have:(L++[i]).Perm (i::L):=List.perm_append_singleton i L;refine(List.perm_middle).trans (.trans ?_ this.symm);rw[List.take_append_drop]
theorem ZfG:(layT L t i).1.Perm (L++[i]):=by
 unfold layT
 induction t.freeSlot (hashInt i) with
 |none=>exact .refl _
 |some r=>exact ZjH _
theorem ZiS(L:List Int):(List.range L.length).filterMap (λk=>L[k]?)=L:=by simpa using filterMap_getElem?_range L.toArray
theorem ZiT{n:Nat}:(relT L t n).1.Perm L:=by
 unfold relT
 induction t.relaid (L.map hashInt).toArray n with
 |none=>exact .refl _
 |some r=>
  dsimp only
  by_cases c:(coversAll r.2 L.length&&r.1.fits (r.2.toList.filterMap λk=>L[k]?).length)=true
  ·rw[if_pos c];have hp:List.Perm r.2.toList (List.range L.length):=List.isPerm_iff.mp ((Bool.and_eq_true ..).mp c).1;exact(hp.filterMap _).trans (by rw[ZiS])
  ·rw[if_neg c]
theorem ZeZ:(addT p i).1.Perm (addL p.1 i):=by
 unfold addT addL
 by_cases c:i∈p.1
 ·rw[if_pos c,if_pos c]
 ·rw[if_neg c,if_neg c]
  split
  ·exact ZiT.trans ZfG
  ·exact ZfG
theorem ZiU:∀{p:List Int×SetTable}{j:Int},j∈(M.foldl addT p).1↔j∈p.1\/j∈M:=by
 induction M with
 |nil=>exact⟨.inl,λh=>h.elim (λx=>x) λy=>(nomatch y)⟩
 |cons i M ih=>intro p j;rw[List.foldl_cons,ih,ZeZ.mem_iff,Ziz,List.mem_cons,or_assoc]
theorem ZgB:∀{p:List Int×SetTable},p.1.Nodup->(M.foldl addT p).1.Nodup:=by
 induction M with
 |nil=>exact λh=>h
 |cons i M ih=>exact λh=>ih<|ZeZ.nodup_iff.mpr<|Zgm h
inductive MgI(s:Shared)(a:Addr)(r T:List Int×SetTable)(rest:List (Int×Value))(s':Shared):Prop
 |mk (h':Heap) (p:List Int×SetTable) (R:List Int) (e:s'={ s with heap:=h' }) (b:Heap.SameBut a s.heap h') (S:SetT h' a p) (r:ElT rest R) (z:p.1.length+R.length+1<scanBound) (f:R.foldl addT p=T)
theorem Zjo{n:String}{q:List Int×SetTable}(hab:a≠b)(Sa:SetT s.heap a p)(Sb:SetT s.heap b q)(hl:q.2.led=ledW X.w)(hp:q.2.plain=true)(hq:q.1≠[])(he:roomT p q.1.length=some r)(hf:r.2.fill≠0)(hz:r.1.length+q.1.length+1<scanBound)(hb:p.1.length<scanBound)
  (h:∀h' M,Heap.SameBut a s.heap h'->SetT h' a (M.foldl addT r)->M.Perm q.1->(ledW X.w=true->M=q.1)->Q () { s with heap:=h' }):Yw A (Builtin.Frozenset.merge n a b) Q E s:=by
 obtain⟨o,es,ep,ho,hex,hd,e,f⟩:=id Sb;unfold Builtin.Frozenset.merge setEpoch;refine Yb<|Yb<|wpAny_setState_of ho hd f<|Yp ?_;unfold setMerge;rw[if_neg<|by simpa using hab];refine Yb<|wpAny_setState_of ho hd f ?_;dsimp only
 have em:es.isEmpty=false:=by
  have:=e.size
  induction c:q.1 using List.casesOn with
  |nil=>exact(hq c).elim
  |cons x l=>rw[c]at this;exact Df (by rw[this];exact Nat.succ_ne_zero _)
 rw[em,if_neg Bool.false_ne_true,e.size];refine Yb<|ZgY Sa hb he λh1' sb1 S1'=>?_;obtain⟨o1',es1',ep1,ho1',hex1,hd1,e1',f1'⟩:=id S1';refine Yb<|wpAny_setState_of (s:={ s with heap:=h1' }) ho1' hd1 f1' ?_;dsimp only
 have hr:r.2.road q.2=.oneByOne:=by unfold SetTable.road;rw[if_pos<|by simpa using hf]
 rw[hr];dsimp only
 have hob:∀{h':Heap},Heap.SameBut a s.heap h'->h'.get? b=some o:=λsb=>by rw[← ho];exact sb.2 b<|Ne.symm hab
 unfold setWalkUnseen;refine Yb<|Yb<|wpAny_setState_of (s:={ s with heap:=h1' }) (hob sb1) hd f ?_;dsimp only;unfold setsByText;refine Yb<|Yb<|wpAny_askSetting<|Yp ?_;rw[if_pos (by rw[hl,hp];unfold ledW;show((X.w.params.followText "set-order" ||(!X.w.params.followText "set-order"&&true)) ||_)=true;induction X.w.params.followText "set-order" <;> rfl)];refine ZlZ (s:={ s with heap:=h1' }) (hob sb1) hd f hl hp λWk pm wl=>Yb ?_;have hR:=e.perm pm
 have hM:ledW X.w=true->(Wk.toList.filterMap λe=>vInt? e.2)=q.1:=λz=>by rw[wl z];exact e.iff.2.symm
 generalize (Wk.toList.filterMap λe=>vInt? e.2)=R at hR hM;refine forIn_array_ _ (λrest ø s'=>MgI s a r (R.foldl addT r) rest s') _ ?_ ?_ _ _<|.mk h1' r R rfl sb1 S1' hR.1 (by rw[hR.2.length_eq];exact hz) rfl
 ·rintro x rest _ s' ⟨h',p',R',rfl,sb,S,hR',hz,hm⟩
  cases hR' with
  |cons i t hR'=>
   dsimp only;refine Yb (wpAny_holding<|ZeV (s:={ s with heap:=h' }) S (by simp only[Lc]at hz;exact lf6<|Ny hz) λh'' ø sb' S'=>?_);have sb'':=sb.trans sb';refine Yb ?_;unfold Builtin.Frozenset.unchanged setEpoch;refine Yb<|Yb<|wpAny_setState_of (s:={ s with heap:=h'' }) (hob sb'') hd f<|Yp ?_;dsimp only;rw[if_neg<|by simp];refine Yp<|Yb (wpAny_setState_of (s:={ s with heap:=h'' }) (hob sb'') hd f ?_);dsimp only;rw[if_neg<|by simp];refine Yp<|.mk h'' _ _ rfl sb'' S' hR' ?_ hm;have:=Zd2 (p:=p') (i:=i);simp only[Lc]at hz;exact lk1 this hz
 ·rintro _ s' ⟨h',p',R',rfl,sb,S,hR',hz,hm⟩
  cases hR'
  obtain rfl:=hm;exact Yp<|h h' R sb S hR.2 hM
theorem ZeW:entryFor table "set.__or__"=some Builtin.«frozenset.__or__»:=entryFor_alias (id':="frozenset.__or__") (by kernel_rfl) rfl (by decide+kernel)<|by kernel_rfl
theorem SetT.ty{h:Heap}(S:SetT h a p)(e:s.heap=h):s.TypeIs (.ref a) "set":=by
 obtain⟨o,es,ep,ho,hex,hd,_,f⟩:=S;exact⟨o,by rw[e];exact ho,hex.1⟩
theorem Zfo{v:Value}{Q:Bool->Shared->Prop}(hT:s.TypeIs v "set")(h:Q true s):Yw A (Builtin.Frozenset.isAnySet v) Q E s:=by
 unfold Builtin.Frozenset.isAnySet;refine Yb<|wpAny_isInstance hT PySem.F.sub_set_set ?_;exact Yp h
theorem ZhT{Q:Yv}(h:Q (.ref s.heap.objs.size) { s with heap:=s.heap.push (setO<|ledW X.w) }):Yw A (newSet<|.type "set") Q E s:=by
 unfold newSet setsByText;refine Yb<|Yb<|wpAny_askSetting<|Yp ?_;dsimp only;simp only[newObj];exact Yb<|wpAny_alloc<|Yp h
theorem Zpm{q c:List Int×SetTable}{Q:Yv}(hab:a≠b)(Sa:SetT s.heap a p)(Sb:SetT s.heap b q)(hb:p.1.length<scanBound)(hc:copyT (ledW X.w) p=some c)(hbc:c.1.length<scanBound)(hl:q.2.led=ledW X.w)(hp:q.2.plain=true)(hq:q.1≠[])(he:roomT c q.1.length=some r)(hf:r.2.fill≠0)(hz:r.1.length+q.1.length+1<scanBound)
  (h:∀h' M,(∀x o,s.heap.get? x=some o->h'.get? x=some o)->SetT h' s.heap.objs.size (M.foldl addT r)->M.Perm q.1->(ledW X.w=true->M=q.1)->Q (.ref s.heap.objs.size) { s with heap:=h' }):Yw A (binaryOp .BitOr (.ref a)<|.ref b) Q E s:=by
 have ta:s.TypeIs (.ref a) "set":=Sa.ty rfl;have tb:s.TypeIs (.ref b) "set":=Sb.ty rfl;refine wpAny_binaryOp_same (op:=.BitOr) (T:="set") ta tb PySem.F.fills_set_or PySem.F.slot_set_or<|wpAny_call_entry PySem.F.slot_set_or ta ZeW ?_<|PySem.F.args_set_or_2 _ _
 have la:a<s.heap.objs.size:=by obtain⟨o,es,ep,ho,_⟩:=Sa;exact Heap.lt_size ho
 have lb:b<s.heap.objs.size:=by obtain⟨o,es,ep,ho,_⟩:=Sb;exact Heap.lt_size ho
 show wpAny _ _ (do
  if !(← (Builtin.Frozenset.isAnySet (.ref a) <&&> Builtin.Frozenset.isAnySet (.ref b))) then rule s!"frozenset.{"__or__"}.declined"; return ← ret .notImplemented
  ret (← (do
   let result ← Builtin.Frozenset.copyOf a
   if Value.ref b != .ref a then holding [result] (Builtin.Frozenset.updateFrom s!"frozenset.{"__or__"}" (← Builtin.Frozenset.addrOf result) (.ref b))
   return result))) _ _ _
 refine Yb<|Yb<|Zfo ta<|Zfo tb ?_;rw[if_neg<|by simp];refine Yb<|Yb ?_;unfold Builtin.Frozenset.copyOf Builtin.Frozenset.baseOf;refine Yb<|Yb<|wpAny_isInstance ta PySem.F.sub_set_set<|Yp ?_;refine Yb<|ZhT<|Yb<|Yp<|Yb ?_;refine Zk5 (s:={ s with heap:=s.heap.push (setO<|ledW X.w) }) (Nat.ne_of_gt la) SetT.new (Sa.keep λo e=>Heap.get?_push_of_some _ e) hb hc λh1' sb1 S1'=>Yp ?_;rw[if_pos<|by simpa using Ne.symm hab]
 have k1:∀x o,s.heap.get? x=some o->h1'.get? x=some o:=λx o e=>by rw[sb1.2 x<|Nx<|Heap.lt_size e];exact Heap.get?_push_of_some _ e
 have Sb1:SetT h1' b q:=Sb.keep λo e=>k1 b o e;refine Yb<|Yp<|Yb<|wpAny_holding ?_;unfold Builtin.Frozenset.updateFrom;refine Yb<|Zfo (s:={ s with heap:=h1' }) (Sb1.ty rfl) ?_;rw[if_pos rfl];refine Yb<|Yp ?_;refine Zjo (s:={ s with heap:=h1' }) (Nat.ne_of_gt lb) S1' Sb1 hl hp hq he hf hz hbc λh2' M sb2 S2' pm ex=>Yp (Yp ⟨_,rfl,by simp,h h2' M (λx o e=>?_) S2' pm ex⟩);rw[sb2.2 x<|Nx<|Heap.lt_size e];exact k1 x o e
end
section
set_option maxRecDepth 100000
open PySem PySem.W PySem.Calls PyProof.Rows
variable {it:Addr}
theorem Za6:Slot "set_iterator" "__next__" "set_iterator.__next__":=
 .of (owner:="set_iterator") (n:="__next__") (by rw[typeLookup_type,builtinLookup_eq_fast];kernel_rfl) (by decide+kernel) (by decide+kernel) (by decide+kernel)
  (by first |exact .inl (by decide+kernel) |exact .inr<|by decide+kernel) (by rw[isSubtype_type];kernel_rfl)
theorem Zep:entryFor table "set_iterator.__next__"=some Builtin.«set_iterator.__next__»:=entryFor_of_tree<|by kernel_rfl
theorem ZfI:Manifest.owners.lookup (String.ofList ("set_iterator".toList.reverse).reverse)=some Manifest.sig_set_iterator:=by kernel_rfl
theorem ZeR(a:Value):argsOk "set_iterator.__next__" ⟨[a],[]⟩:=by
 unfold argsOk;rw[signature?_of (id:="set_iterator.__next__") (n:="__next__".toList.reverse) (o:="set_iterator".toList.reverse) (by kernel_rfl) ZfI];kernel_rfl
theorem Zcs:Slot "set_iterator" "__iter__" "set_iterator.__iter__":=
 .of (owner:="set_iterator") (n:="__iter__") (by rw[typeLookup_type,builtinLookup_eq_fast];kernel_rfl) (by decide+kernel) (by decide+kernel) (by decide+kernel)
  (by first |exact .inl (by decide+kernel) |exact .inr<|by decide+kernel) (by rw[isSubtype_type];kernel_rfl)
theorem Zet:entryFor table "set_iterator.__iter__"=some Builtin.«dict_keyiterator.__iter__»:=
 entryFor_alias (id':="dict_keyiterator.__iter__") (by kernel_rfl) rfl (by decide+kernel) (by kernel_rfl)
theorem ZeO(a:Value):argsOk "set_iterator.__iter__" ⟨[a],[]⟩:=by
 unfold argsOk;rw[signature?_of (id:="set_iterator.__iter__") (n:="__iter__".toList.reverse) (o:="set_iterator".toList.reverse) (by kernel_rfl) ZfI];kernel_rfl
theorem ZdD:entryFor table "set.__iter__"=some Builtin.«frozenset.__iter__»:=
 entryFor_alias (id':="frozenset.__iter__") (by kernel_rfl) rfl (by decide+kernel) (by kernel_rfl)
structure Ord(w:World)(a:Addr)(es:Array (Int×Value))(ep:Nat)(t:SetTable)(W:Array (Int×Value)):Prop where
 f:t.fits es.size=true
 a:ledW w=false->W=pickOrder (w.params.setOrder a ep) es
 b:ledW w=true->W=es/\walkT t=true
section
variable {A:Around}{E:Yv}{s:Shared}{a:Addr}{o:Obj}{es W:Array (Int×Value)}{t:SetTable}
theorem Zfz(h:ledW X.w=b):X.w.params.followText "set-order"=!b:=by
 unfold ledW at h;rw[← h,Bool.not_not]
theorem Ord.size(H:Ord X.w a es ep t W):W.size=es.size:=by
 induction q:ledW X.w with
 |false=>rw[H.a q];exact(Zdc _ _).length_eq
 |true=>rw[(H.b q).1]
theorem Zl9(H:Ord X.w a es ep t W)(ho:s.heap.get? a=some o)(hd:o.data=.set es ep t)(i:Nat)(hi:i<=es.size){Q:Option (Value×Nat)->Shared->Prop}(h:Q (W[i]?.map λe=>(e.2,stp (ledW X.w) t<|i+1)) s):Yw A (setNext a (stp (ledW X.w) t i) i ep) Q E s:=by
 unfold setNext setsByText;refine Yb<|wpAny_setState_of ho hd H.f ?_;dsimp only;refine Yb<|Yb<|wpAny_askSetting<|Yp ?_
 induction q:ledW X.w with
 |false=>
  rw[if_pos<|by exact Zfz q,if_neg<|by simp];refine Yb ?_;unfold setWalk setsByText;refine Yb<|wpAny_setState_of ho hd H.f ?_;dsimp only;refine Yb<|Yb<|wpAny_askSetting<|Yp ?_;rw[if_pos<|by exact Zfz q];refine Yb<|wpAny_askSetting<|Yp<|Yp ?_;rw[q,H.a q]at h
  have e:stp false t i=0:=by induction i using Nat.casesOn <;> rfl
  rw[e];exact h
 |true=>
  obtain⟨rfl,hw⟩:=H.b q;have hw:=(Bool.and_eq_true ..).mp hw;have hpl:=(Bool.and_eq_true ..).mp hw.1
  have hz:t.place.size=W.size:=by
   have:=H.f;unfold SetTable.fits at this;exact eq_of_beq ((Bool.and_eq_true ..).mp this).1
  have hb:SetTable.below t.place (stp true t i)=i:=by
   have:=Al hw.2 i (List.mem_range.mpr (by rw[hz];exact Nat.lt_succ_of_le hi));exact eq_of_beq this
  rw[if_neg (by rw[show(model X.prog X.w).w.params.followText "set-order"=false from Zfz q];exact Bool.false_ne_true)];show wpAny _ _ (if (!t.plain&&decide (W.size > 1))=true then _ else _) _ _ _;rw[hpl.1,if_neg<|by simp];show wpAny _ _ ((if (!t.led&&!W.isEmpty)=true then _ else _) >>= _) _ _ _;rw[hpl.2,if_neg<|by simp];refine Yb<|Yp<|Yp ?_;rw[hb];rw[q]at h
  by_cases c:i<W.size
  ·rw[Array.getElem?_eq_getElem c]at h ⊢
   have c':i<t.place.size:=by rw[hz];exact c
   rw[Array.getElem?_eq_getElem c']
   have e:stp true t (i+1)=t.place[i]+1:=by
    show t.place.getD i 0+1=_;rw[Array.getD_eq_getD_getElem?,Array.getElem?_eq_getElem c'];rfl
   rw[e]at h;exact h
  ·rw[Array.getElem?_eq_none<|Nat.le_of_not_lt c]at h ⊢;exact h
def IsSi(h:Heap)(it a:Addr)(b:Bool)(t:SetTable)(i n ep:Nat):Prop:=∃o,h.get? it=some o/\o.cls=.type "set_iterator"/\o.data=.fields #[.int (stp b t i) 0,.int i 0,.ref a,.int n 0,.int ep 0]
theorem IsSi.ty{n:Nat}(x:IsSi s.heap it a b t i n ep):s.TypeIs (.ref it) "set_iterator":=let ⟨o,ho,hc,_⟩:=x;⟨o,ho,hc⟩
theorem Zmq{n:Nat}(x:IsSi s.heap it a b t i n ep)(h:Q (.ref it) s):Yw A (pyIter<|.ref it) Q E s:=by
 refine wpAny_pyIter_slot x.ty Zcs<|wpAny_call_entry Zcs x.ty Zet ?_<|ZeO _;show wpAny _ _ (ret<|.ref it) _ _ s;exact Yp ⟨_,rfl,"set_iterator",_,x.ty,Za6.lookup,h⟩
theorem Zjs(H:Ord X.w a es ep t W)(ho:s.heap.get? a=some o)(hx:o.ExactSet)(hd:o.data=.set es ep t)
  (h:Q (.ref s.heap.objs.size) { s with heap:=s.heap.push { cls:=.type "set_iterator",data:=.fields #[.int 0 0,.int 0 0,.ref a,.int es.size 0,.int ep 0] } }):Yw A (pyIter<|.ref a) Q E s:=by
 have T:s.TypeIs (.ref a) "set":=⟨o,ho,hx.1⟩
 refine wpAny_pyIter_slot T PySem.F.slot_set_iter<|wpAny_call_entry PySem.F.slot_set_iter T ZdD ?_<|PySem.F.args_set_iter_1 _
 show wpAny _ _ (do
  let n ← Builtin.Frozenset.sizeOf a
  let first ← if ← setDrawn a then newTuple ((← drawOrder n (List.range n)).map λ(i:Nat)=>rawInt i) else pure (rawInt 0)
  ret (← newFields "set_iterator" [first,rawInt 0,.ref a,rawInt n,rawInt<|← setEpoch a])) _ _ _
 unfold Builtin.Frozenset.sizeOf setEntries;refine Yb<|Yb<|Yb<|wpAny_setState_of ho hd H.f<|Yp<|Yp ?_;dsimp only;unfold setDrawn setsByText;refine Yb<|Yb<|wpAny_setState_of ho hd H.f ?_;dsimp only;refine Yb<|Yb<|wpAny_askSetting<|Yp<|Yp ?_
 have hn:(!(X.w.params.followText "set-order")&&(!t.plain&&decide (es.size > 1)))=false:=by
  induction q:ledW X.w with
  |false=>rw[Zfz q];rfl
  |true=>
   obtain⟨_,hw⟩:=H.b q;rw[((Bool.and_eq_true ..).mp ((Bool.and_eq_true ..).mp hw).1).1]
   induction X.w.params.followText "set-order" <;> rfl
 rw[if_neg<|by exact λz=>Bool.false_ne_true<|hn.symm.trans z];refine Yb<|Yp ?_;unfold setEpoch;refine Yb<|Yb<|wpAny_setState_of ho hd H.f<|Yp ?_;exact Yb<|wpAny_newObj_type<|Yp ⟨_,rfl,"set_iterator",_,⟨_,Heap.get?_push_size _ rfl,rfl⟩,Za6.lookup,h⟩
end
end
section
set_option maxRecDepth 100000
open PySem PySem.W PySem.Calls PyProof.Rows
section
variable {A:Around}{E:Yv}{s:Shared}{a:Addr}{o:Obj}{es W:Array (Int×Value)}{t:SetTable}
theorem Ziv(hh:A.handled=none)(H:Ord X.w a es ep t W){it:Addr}(hne:a≠it)(hi:i<=es.size)(hit:IsSi s.heap it a (ledW X.w) t i es.size ep)(ho:s.heap.get? a=some o)(hd:o.data=.set es ep t){Q:Option Value->Shared->Prop}
  (h1:∀x h',W[i]?=some x->IsSi h' it a (ledW X.w) t (i+1) es.size ep->(∀b o,b∉[it]->s.heap.get? b=some o->h'.get? b=some o)->Q (some x.2) { s with heap:=h' })
  (h2:∀h',W[i]?=none->(∀b o,b∉[it]->s.heap.get? b=some o->h'.get? b=some o)->Q none { s with heap:=h' }):Yw A (pyNext<|.ref it) Q E s:=by
 obtain⟨oi,hoi,hci,hdi⟩:=id hit;unfold pyNext;refine Yb<|wpAny_attempt<|wpAny_callSpecial?_slot (name:=Str.ofString "__next__") hit.ty Za6<|wpAny_call_entry Za6 hit.ty Zep ?_<|ZeR _;show wpAny _ _ (fieldsOf (.ref it) >>= _) _ _ s;refine Yb<|wpAny_fieldsOf hoi hdi ?_;dsimp only;unfold setEntries;refine Yb<|Yb<|wpAny_setState_of ho hd H.f<|Yp ?_;dsimp only;rw[if_neg<|by simp];refine Yb<|Zl9 H ho hd i hi ?_
 induction q:W[i]? with
 |some x=>
  dsimp only [Option.map];have ho1:=Heap.get?_update_self (Obj.mapFields (·.setIfInBounds 0 (rawInt<|stp (ledW X.w) t<|i+1))) hoi<|Obj.isFreed_of_fields<|Obj.data_mapFields hdi _;refine Yb (wpAny_setField hoi hdi (by simp) ?_);refine Yb (wpAny_setField ho1 (Obj.data_mapFields hdi _) (by simp) ?_);refine Yp ⟨_,rfl,Yp<|h1 x _ q ?_ λb o hb e=>?_⟩
  ·exact⟨_,Heap.get?_update_self _ ho1<|Obj.isFreed_of_fields<|Obj.data_mapFields (Obj.data_mapFields hdi _) _,(Obj.cls_mapFields ..).trans<|(Obj.cls_mapFields ..).trans hci,by
    rw[Obj.data_mapFields<|Obj.data_mapFields hdi _];simp[rawInt]⟩
  ·have hb:it≠b:=λz=>hb (by simp[z]);exact(Heap.get?_update_other _ _ hb).trans ((Heap.get?_update_other _ _ hb).trans e)
 |none=>
  dsimp only [Option.map];refine Yb (wpAny_setField hoi hdi (by simp) ?_);show wpAny _ _ (newExc (.type "StopIteration") [] >>= _) _ _ _;refine Yb ?_;simp only[newExc,newTuple];refine Yb (wpAny_newObj_type ?_<|by size_fits);refine Yb (m:=firstArgMember _ _) (wpAny_of_eq (a:=Value.none) (by first |rfl |(simp only[firstArgMember];rfl)) ?_);refine wpAny_newObj_type ?_ (by size_fits);simp only[raiseNew];refine Yb<|wpAny_handled ?_;rw[show A.in1.handled=none from hh];refine Yb<|Yp<|wpAny_throw ?_;refine Yb<|wpAny_isInstance (T:="StopIteration") (b:=true) ⟨_,Heap.get?_push_size _ rfl,rfl⟩ isSubtype_stop ?_;exact Yp<|h2 _ q λb o hb e=>(((Heap.SameBut.update ..).extBut.push _).push _) b o (λz=>hb<|by simp[z]) e
theorem Zhc(hh:A.handled=none)(H:Ord X.w a es ep t W)(it:Addr)(hne:a≠it)(hd:o.data=.set es ep t):
  Walks X.prog X.w A it [it,a] [it] es.size (λi v=>W[i]?.map (·.2)=some v) (λi h=>(i<=es.size/\IsSi h it a (ledW X.w) t i es.size ep)/\h.get? a=some o) where
 sub:=λb hb=>by simp at hb;simp[hb]
 frame:=λø ø ø st hk=>⟨⟨st.1.1,let ⟨o,ho,r⟩:=st.1.2;⟨o,hk it (by simp) o ho,r⟩⟩,hk a (by simp) o st.2⟩
 item:=λi s Q E hi st hQ=>by
  refine Ziv hh H hne st.1.1 st.1.2 st.2 hd (λx h' ex hit' k=>hQ x.2 h' s.toks (by rw[ex];rfl) ⟨⟨hi,hit'⟩,k a o (by simp[hne]) st.2⟩ k) λh' ex ø=>?_;rw[Array.getElem?_eq_none_iff,H.size]at ex;exact absurd hi<|Nat.not_lt.mpr ex
 done:=λs Q E st hQ=>by
  refine Ziv hh H hne st.1.1 st.1.2 st.2 hd (λx h' ex ø ø=>?_) λh' ø k=>hQ h' s.toks k;rw[Array.getElem?_eq_none_iff.mpr (by rw[H.size];exact Zr _)]at ex;exact noS ex
 self:=λø ø ø ø st hQ=>Zmq st.1.2 hQ
theorem Ziy{Q:Bool->Shared->Prop}(hT:s.TypeIs (.ref a) "set")(h:Q false s):Yw A (Builtin.List.listLengthHint<|.ref a) Q E s:=by
 unfold Builtin.List.listLengthHint;refine Yb<|wpAny_specialOf hT PySem.F.slot_set_len.lookup ?_;generalize hid:("set.__len__":String)=id0
 wp_delta
 rw[show splitId id0=some ("set","__len__") from by subst hid;decide+kernel];subst hid;refine Yb (wpAny_isInstance (T:="set") (b:=true) hT (by rw[isSubtype_type];kernel_rfl) ?_);refine wpAny_ite_split (λhab=>absurd hab<|by decide)<|λø=>?_;refine wpAny_ite_split (λø=>?_) (λhab=>absurd (by decide+kernel) hab);refine Yb<|wpAny_typeOf hT ?_;exact Yp h
theorem ZkK(H:Ord X.w a es ep t W)(hx:o.ExactSet)(hd:o.data=.set es ep t):KdlSrc X.prog X.w "set" a a es.size (λi v=>W[i]?.map (·.2)=some v) (λh=>h.get? a=some o) where
 type:=λø hm=>⟨o,hm,hx.1⟩
 there:=λø hm=>⟨Heap.lt_size hm,Heap.lt_size hm⟩
 keep:=λø ø hm hk=>hk a (.inl rfl) o hm
 notList:=by decide
 notTuple:=by decide
 hint:=λø ø ø ø hm hq=>Ziy ⟨o,hm,hx.1⟩ hq
 iter:=λø ø hh hm=>⟨_,_,(λø ø hq=>Zjs H hm hx hd hq),Zhc hh H _ (Nx<|Heap.lt_size hm) hd,⟨⟨Zz _,_,Heap.get?_push_size _ rfl,rfl,rfl⟩,Heap.get?_push_of_some _ hm⟩⟩
theorem Zfk(hh:A.handled=none)(H:Ord X.w a es ep t W)(hm:s.heap.get? a=some o)(hx:o.ExactSet)(hd:o.data=.set es ep t)(hn:es.size<=sizeLine){Q:List Value->Shared->Prop}
  (h:∀h' tk,(∀b o,s.heap.get? b=some o->h'.get? b=some o)->Q (W.toList.map (·.2)) { s with heap:=h',toks:=tk }):Yw A (collect<|.ref a) Q E s:=by
 unfold collect;refine Yb<|wpAny_runValue<|codeAny_builtin PySem.F.entry_proto_collect ?_;rw[Around.under_plainId PySem.F.plain_proto_collect _];show wpAny _ A.in1 (newList [] >>= λl=>again<|.builtin "list.__iadd__" ⟨[l,.ref a],[]⟩) _ _ s;refine Yb<|wpAny_newObj_type ?_;refine Yp ⟨plainId_quiet PySem.F.plain_list_iadd _,codeAny_builtin PySem.F.entry_list_iadd ?_⟩;rw[Around.under_plainId PySem.F.plain_list_iadd _];have la:=Nat.ne_of_gt<|Heap.lt_size hm;show wpAny _ A.in1 (Builtin.List.listExtendWith (.ref s.heap.objs.size) (.ref a)<|.ref s.heap.objs.size) _ _ _;refine kdl_extend (A:=A) (R:=wants _ E) (s:={ s with heap:=s.heap.push { cls:=.type "list",data:=.seq #[] } }) (ZkK H hx hd) hh (Heap.get?_push_of_some _ hm) s.heap.objs.size la la _ 0 (Heap.get?_push_size _ rfl) (λh' tk acc c kp hS hacc=>?_) hn;show wpAny _ A (load s.heap.objs.size >>= _) _ _ _;refine Yb<|wpAny_load hS ?_
 have e:acc.toList=W.toList.map (·.2):=by
  apply List.ext_getElem?
  intro j;rw[getElem?_map,Array.getElem?_toList,Array.getElem?_toList]
  induction q:acc[j]? with
  |some v=>exact(hacc.2 j v q).symm
  |none=>
   rw[Array.getElem?_eq_none_iff,hacc.1,← H.size,← Array.getElem?_eq_none_iff]at q;rw[q];rfl
 refine Yp ?_;rw[e];exact h h' tk λb o hb=>kp b o (Nx<|Heap.lt_size hb)<|Heap.get?_push_of_some _ hb
end
end
variable {l:List Int}{x:Int}
section
variable {y:Int}
theorem ZcK:∀{l:List Int},y∈insS x l↔y=x\/y∈l:=by
 intro zz0
 induction zz0 with
 |nil=>
  exact List.mem_cons
 |cons z r ih=>
  show y∈(if x<z then x::z::r else if x=z then z::r else z::insS x r)↔_
  by_cases c:x<z
  ·rw[if_pos c,List.mem_cons]
  ·rw[if_neg c]
   by_cases d:x=z
   ·rw[if_pos d,d,List.mem_cons];exact⟨.inr,λh=>h.elim .inl λh=>h⟩
   ·rw[if_neg d,List.mem_cons,ih,List.mem_cons];exact⟨λh=>h.elim (λh=>.inr<|.inl h) λh=>h.elim .inl λh=>.inr<|.inr h,λh=>h.elim (λh=>.inr<|.inl h) λh=>h.elim .inl λh=>.inr<|.inr h⟩
theorem ZcU:∀{l:List Int},y∈mkSet l↔y∈l:=by
 intro zz0
 induction zz0 with
 |nil=>
  exact .rfl
 |cons x r ih=>
  show y∈insS x (mkSet r)↔_;rw[ZcK,ih,List.mem_cons]
theorem Zl8:∀{l:List Int},l.Pairwise (· < ·)->(insS x l).Pairwise (· < ·):=by
 intro zz0
 induction zz0 with
 |nil=>
  intro _;exact pairwise_singleton _ _
 |cons z r ih=>
  intro h;have h':=pairwise_cons.mp h;show(if x<z then x::z::r else if x=z then z::r else z::insS x r).Pairwise _
  by_cases c:x<z
  ·rw[if_pos c];exact pairwise_cons.mpr ⟨λy hy=>(Mc hy).elim (λq=>q▸c) λq=>Int.lt_trans c<|h'.1 y q,h⟩
  ·rw[if_neg c]
   by_cases d:x=z
   ·rw[if_pos d];exact h
   ·rw[if_neg d];exact pairwise_cons.mpr ⟨λy hy=>(ZcK.mp hy).elim (λq=>by rw[q];exact lj6 c d)<|h'.1 y,ih h'.2⟩
theorem ZfT:∀(l:List Int),(mkSet l).Pairwise (· < ·):=by
 intro zz0
 induction zz0 with
 |nil=>
  exact .nil
 |cons _ r ih=>
  exact Zl8<|ih
theorem Zgg{a:List Int}(hs:a.Pairwise (·<=·))(hn:a.Nodup)(hm:∀i,i∈a↔i∈l):a=mkSet l:=by
 have h2:=ZfT l
 have p:a.Perm (mkSet l):=(List.perm_ext_iff_of_nodup hn<|h2.imp λh=>Int.ne_of_lt h).mpr λi=>by rw[hm,ZcU]
 exact p.eq_of_pairwise (le:=(·<=·)) (λø ø ø ø p q=>Int.le_antisymm p q) hs<|h2.imp Int.le_of_lt
end
section
open PySem PySem.W PySem.Calls PyProof.Rows
variable {a:Addr}{c:Ck}{p:List Int×SetTable}{l:List Env}{s:Shared}{x:Str}{h h':Heap}{e:Expr}{env:Env}{E:Yv}{A:Around}{Q:Unit->Shared->Prop}{as:List Addr}{cls:Value}
theorem ElT.ints{l:List (Int×Value)}(h:ElT l L):IntsAre (l.map (·.2)) L:=by
 induction h with
 |nil=>exact .nil
 |cons i t _ ih=>exact .cons i t ih
theorem ZmV{o:Obj}{es:Array (Int×Value)}{t:SetTable}(f:t.fits es.size=true)(hw:ledW X.w=true->walkT t=true):∃W,Ord X.w a es ep t W/\W.toList.Perm es.toList:=by
 induction q:ledW X.w with
 |true=>exact⟨es,⟨f,λz=>(by rw[q]at z;exact noF z),λø=>⟨rfl,hw q⟩⟩,.refl _⟩
 |false=>exact⟨_,⟨f,λø=>rfl,λz=>(by rw[q]at z;exact noT z)⟩,Zdc _ _⟩
theorem Zgq(hh:A.handled=none)(S:SetT s.heap a p)(hw:ledW X.w=true->walkT p.2=true)(h64:p.1.length<64){Q:Yv}
  (h:∀D out c h' tk ns,s.heap.get? D=none->(∀b o,s.heap.get? b=some o->h'.get? b=some o)->h'.get? D=some (seqObj "list" out c)->IntsAre out.toList ns->ns.Perm p.1->ns.Pairwise (·<=·)->Q (.ref D) { s with heap:=h',toks:=tk }):
  Yw A (call (.builtin "sorted") [.ref a]) Q E s:=by
 obtain⟨o,es,ep,ho,hx,hd,e,f⟩:=S;obtain⟨W,HO,pm⟩:=ZmV (a:=a) (o:=o) (ep:=ep) f hw;obtain⟨eW,pW⟩:=e.perm pm;have hI:=eW.ints;generalize (W.toList.filterMap λe=>vInt? e.2)=L at hI pW;refine Calls.call_function_entry kind_sorted plain_sorted entry_sorted (args_sorted1 _) ?_;unfold Builtin.«sorted»;refine Yb (m:=checkCount "sorted" 1 1 _)<|Yp ?_;refine Yb<|Zfk (A:=A.in1) hh HO ho hx hd (by rw[e.size];exact Nt (Ny h64)<|by decide+kernel) λh1' tk1 k₁=>?_
 have hlen:(W.toList.map (·.2)).length<64:=by rw[hI.length,pW.length_eq];exact h64
 generalize W.toList.map (·.2)=vs at hI hlen ⊢;refine Yb<|wpAny_newList ?_;have hoL:(h1'.push<|seqObj "list" vs.toArray 0).get? h1'.objs.size=some (seqObj "list" vs.toArray 0):=Heap.get?_push_size _ rfl;show wpAny _ _ _ _ _ { s with heap:=h1'.push<|seqObj "list" vs.toArray 0,toks:=tk1 };refine Yb<|wpAny_holding<|wpAny_call_entry slot_list_sort ⟨_,hoL,rfl⟩ entry_list_sort (list_sort_tree (s:={ s with heap:=h1'.push<|seqObj "list" vs.toArray 0,toks:=tk1 }) hoL hI hlen λout ns' a1 a2 a3=>⟨_,rfl,?_⟩)<|args_list_sort _;obtain⟨c,hc⟩:=sortedHeap_at (vs:=vs) (out:=out) hoL;refine Yp ⟨_,rfl,h h1'.objs.size out c _ _ ns' ?_ (λb o hb=>?_) hc a1 (a2.trans pW) a3⟩
 ·induction q:s.heap.get? h1'.objs.size with
  |none=>rfl
  |some o=>exact absurd (Heap.lt_size<|k₁ _ _ q)<|Nat.lt_irrefl _
 ·have hb:=k₁ _ _ hb;have lt:=Heap.lt_size hb;rw[sortedHeap_old (Nx lt) (by rw[size_push'];exact Nat.lt_succ_of_lt lt),Heap.get?_push_ne _ _ _<|Nx lt];exact hb
theorem Zjk{M:List Int}:∀{p:List Int×SetTable},(M.foldl addT p).1.length<=p.1.length+M.length:=by
 induction M with
 |nil=>exact Zr _
 |cons i M ih=>
  intro p;have a:=ih (p:=addT p i);have b:=Zd2 (p:=p) (i:=i);rw[List.foldl_cons,Lc];exact lk2 a b
inductive UniR(led:Bool)(l m:List Int)(p q:List Int×SetTable):Prop
 |mk (c r:List Int×SetTable) (h1:copyT led p=some c) (h2:roomT c q.1.length=some r) (h3:q.2.led=led) (h4:q.2.plain=true) (h5:q.1≠[]) (h6:r.2.fill≠0) (h7:p.1.length<64) (h8:c.1.length<64) (h9:r.1.length+q.1.length<64)
   (h10:r.1.Nodup) (h11:mkSet (r.1++q.1)=mkSet (l++m)) (h12:led=true->walkT (q.1.foldl addT r).2=true)
theorem ZpB{led:Bool}{l m:List Int}(h:uniB led l m=true):UniR led l m (l.foldl addT ([],.fresh 0 0 led)) (m.foldl addT ([],.fresh 0 0 led)):=by
 unfold uniB at h;generalize l.foldl addT ([],.fresh 0 0 led)=p at h ⊢;generalize m.foldl addT ([],.fresh 0 0 led)=q at h ⊢
 induction h1:copyT led p with
 |none=>rw[h1]at h;exact noT h
 |some c=>
  rw[h1]at h;dsimp only at h
  induction h2:roomT c q.1.length with
  |none=>rw[h2]at h;exact noT h
  |some r=>
   rw[h2]at h;dsimp only at h;simp only[Bool.and_eq_true]at h;obtain⟨⟨⟨⟨⟨⟨⟨⟨⟨⟨⟨a1,a2⟩,a3⟩,a4⟩,a5⟩,a6⟩,a7⟩,a8⟩,a9⟩,a10⟩,a11⟩,a12⟩:=h;refine⟨c,r,h1,h2,beq_iff_eq.mp a1,a2,λz=>?_,λz=>?_,Nat.blt_eq.mp a5,Nat.blt_eq.mp a6,Nat.blt_eq.mp a7,Od a10,beq_iff_eq.mp a11,λz=>?_⟩
   ·rw[z]at a3;exact noT a3
   ·rw[z]at a4;exact noT a4
   ·rw[z]at a12;exact a12
section
variable {E:EP}
inductive SetZ(W:Wd)(a:Addr)(p:List Int×SetTable):Prop
 |mk (o:Obj) (z:W.Z a=some o) (k:∀h:Heap,h.get? a=some o->SetT h a p)
theorem SetZ.le(S:SetZ W a p)(h:Wd.Le W W'):SetZ W' a p:=by
 obtain⟨o,z,k⟩:=S;exact⟨o,h.zz _ _ z,k⟩
theorem SetZ.t(S:SetZ W a p)(R:RelH X W H h):SetT h a p:=by
 obtain⟨o,z,k⟩:=S;exact k h<|R.z _ _ z
theorem SetT.z{tk:Nat}(S:SetT h' a p)(at_:At X env Pv W σ s)(hk:∀b o,s.heap.get? b=some o->h'.get? b=some o)(hn:s.heap.get? a=none):
  ∃W',Tf X env Pv W σ s W' σ { s with heap:=h',toks:=tk }/\SetZ W' a p:=by
 obtain⟨o,es,ep,ho,hx,hd,e,f⟩:=S;exact⟨_,(Tc.frozen (tk:=tk) at_.rel hk hn ho).tf at_,o,ZaP,λh g=>⟨o,es,ep,g,hx,hd,e,f⟩⟩
inductive SuQ(X:Cx)(s:Shared)(K:List Int->St->Prop)(v:Value)(W':Wd)(σ':St)(s':Shared):Prop
 |mk (a:Addr) (l:List Int) (e:v=.ref a) (S:SetZ W' a (l.foldl addT ([],.fresh 0 0<|ledW X.w))) (nw:s.heap.get? a=none) (h:K l σ')
theorem Zjh{g:V}(h:isSetB g=true):g=.bt .set:=Zit h
theorem ZjR{a:PE}{p pos:Pos}{y:Expr}(hf:SE X n sc (.glob j) (.Name x p))(ha:SE X n sc a y)(hc:chkE c sc a y=true)(hd:sc.hd=true)(hg:X.P.glob j=some (.bt .set)){Q:List Int->St->Prop}(ok:EnvOk X A env Pv n sc)(at_:At X env Pv W σ s)
  (h:wpE X.P (CW X.P n) E a σ λv σ1=>need (see σ1.H v) λp=>intsK p λl=>Nd (l.length<64)<|Q l σ1):Ew X A env Pv (eval (.Call (.Name x p) [y] [] pos) env) W σ s (SuQ X s Q) E:=
 call1 hf ha hc hg rfl ok at_ h λW2 σ2 s2' v z T hz h=>Zab h λy' ey h=>Zab h λxs ex h=>Zab h λis ei h=>by
  obtain⟨l,vs,m,rfl,g,r,q,zz⟩:=(Zap T.at_.rel hz ey).toLst ex;have I:=ZdX r ei;refine ZjA (ok.hh hd) (Zaq g) I (Gl (Nat.succ_lt_succ h.1)<|by decide) λh' tk S hk=>?_;obtain⟨W',T',S'⟩:=S.z (tk:=tk) T.at_ hk<|Zae _;exact⟨W',σ2,T.trans T',_,is,rfl,S',ZbC (Zae _) T.stp.there,h.2⟩
inductive SvQ(X:Cx)(l m:List Int)(K:St->Prop)(v:Value)(W':Wd)(σ':St)(s':Shared):Prop
 |mk (a:Addr) (p:List Int×SetTable) (e:v=.ref a) (S:SetZ W' a p) (hw:ledW X.w=true->walkT p.2=true) (hl:p.1.length<64) (hn:p.1.Nodup) (hm:∀ns:List Int,ns.Perm p.1->ns.Pairwise (·<=·)->ns=mkSet (l++m)) (h:K σ')
theorem Zpj{b:Addr}{l m:List Int}{K:St->Prop}(at_:At X env Pv W σ s)(Sa:SetZ W a (l.foldl addT ([],.fresh 0 0<|ledW X.w)))(Sb:SetZ W b (m.foldl addT ([],.fresh 0 0<|ledW X.w)))(hab:a≠b)(hu:uniK l m=true)(h:K σ):
  Ew X A env Pv (binaryOp .BitOr (.ref a)<|.ref b) W σ s (SvQ X l m K) E:=by
 have hu':uniB (ledW X.w) l m=true:=by
  have hu:=(Bool.and_eq_true ..).mp hu
  induction ledW X.w with
  |true=>exact hu.1
  |false=>exact hu.2
 obtain⟨c,r,h1,h2,h3,h4,h5,h6,h7,h8,h9,h10,h11,h12⟩:=ZpB hu'
 have sb:64<scanBound:=by decide
 refine Zpm hab (Sa.t at_.rel) (Sb.t at_.rel) (Nat.lt_trans h7 sb) h1 (Nat.lt_trans h8 sb) h3 h4 h5 h2 h6 (by exact Gl (lc1<|lt_succ_self _)<|la9 (lg9 sb) h9) λh' M hk S hp hl=>?_;obtain⟨W',T',S'⟩:=S.z (tk:=s.toks) at_ hk<|Zae _;have hd:(M.foldl addT r).1.Nodup:=ZgB h10;refine⟨W',σ,T',_,_,rfl,S',λz=>?_,?_,hd,λns p1 p2=>?_,h⟩
 ·rw[hl z];exact h12 z
 ·exact Nl Zjk<|hp.length_eq▸h9
 ·rw[← h11]
  exact Zgg p2 (p1.nodup_iff.mpr hd) λi=>by rw[p1.mem_iff,ZiU,List.mem_append,hp.mem_iff]
theorem Zn0{a b:PE}{x1 x2:Str}{p p1 p2 q1 q2 pb pos:Pos}{ya yb:Expr}(hf:SE X n sc (.glob i) (.Name x p))(hf1:SE X n sc (.glob j) (.Name x1 p1))(hf2:SE X n sc (.glob j) (.Name x2 p2))(ha:SE X n sc a ya)(hca:chkE c sc a ya=true)(hb:SE X n sc b yb)(hcb:chkE c sc b yb=true)(hd:sc.hd=true):
  SE X n sc (.sortedU fz i j a b) (.Call (.Name x p) [.BinOp (.Call (.Name x1 p1) [ya] [] q1) .BitOr (.Call (.Name x2 p2) [yb] [] q2) pb] [] pos):=by
 intro A env Pv W σ s Q E ok at_ h;refine Zab h λg hg h=>?_;obtain rfl:=Zh6 h.1;refine Zab h.2 λg hg' h=>?_;obtain rfl:=Zjh h.1;have h:=h.2;rw[Zbb];show Ew X A env Pv (eval (.Name x p) env >>= λf=>callWith pos f [] (([.BinOp (.Call (.Name x1 p1) [ya] [] q1) .BitOr (.Call (.Name x2 p2) [yb] [] q2) pb]:List Expr).map λe=>(false,eval e env)) []) W σ s _ E;refine Yb<|Ym (hf A env Pv W σ s (λv σ1=>v=.bt .sorted/\σ1=σ) E ok at_ (Zcy hg ⟨rfl,rfl⟩)) (λcf s1' q=>q.e λW1 σ1 T1 q=>q.e λv hv q=>?_) λø ø z=>z;obtain⟨rfl,rfl⟩:=q
 cases hv
 show wpAny _ A (callWith pos (.builtin "sorted") [] _ _) _ _ _
 have key:Ew X A env Pv (eval (.BinOp (.Call (.Name x1 p1) [ya] [] q1) .BitOr (.Call (.Name x2 p2) [yb] [] q2) pb) env) W1 σ1 s1' (λv W' σ' s'=>∃l m,SvQ X l m (λσ2=>give fz σ2 Q<|.newList<|(mkSet<|l++m).map .int) v W' σ' s') E:=by
  rw[eval_BinOp];refine Ew.bindT<|(ZjR hf1 ha hca hd hg' ok T1.at_ h).mono λv W2 σ2 s2' at2 q ø le=>?_;obtain⟨a',l,rfl,Sa,_,h⟩:=q;refine Ew.bindT<|Ew.holding<|(ZjR hf2 hb hcb hd hg' ok at2 h).mono λv W3 σ3 s3' at3 q ø le=>?_;obtain⟨b',m,rfl,Sb,nb,h⟩:=q;refine Ew.standAt<|Ew.operate<|(Zpj at3 (Sa.le le) Sb (λz=>?_) h.1 h.2).mono λv W4 σ4 s4' ø q=>⟨l,m,q⟩;subst z;obtain⟨o,es,ep,ho,_⟩:=Sa.t at2.rel;rw[nb]at ho;exact noS ho
 refine callWith_builtin Za2<|ZbB Zcf<|spliced_cons<|Ym key (λv s2' q=>q.e λW2 σ2 T2 q=>spliced_nil ?_) λø ø z=>z.back T1;obtain⟨l,m,a',P,rfl,S,hw,hl,hn,hm,h⟩:=q;have T:=T1.trans T2;refine Zgq (ok.hh hd) (S.t T.at_.rel) hw hl λD out c' h' tk ns hD hk hc hi hp hs=>?_;obtain rfl:=hm ns hp hs;exact(OpQ.from (A:=A) T).list T.at_.rel (Zfn hi) hk hD hc h
end
structure Objs(X:Cx)(n:Nat):Prop where
 call:∀(sc:Sc)(fz:Bool)(f:PE)(as:PEs)(x:Str)(p:Pos)(vs:List Expr)(pos:Pos),SE X n sc f (.Name x p)->(sc.hd ||qGlob X.ck f)=true->SEs X n sc as vs->chkEs X.ck sc as vs=true->SE X n sc (.call fz f as) (.Call (.Name x p) vs [] pos)
 meth:∀(sc:Sc)(fz:Bool)(o:PE)(m:Nat)(as:PEs)(v:Expr)(ap pos:Pos)(vs:List Expr),SE X n sc o v->SEs X n sc as vs->chkEs X.ck sc as vs=true->notSuper v=true->vs.length<=20->(ap.endLine==pos.line)=true->(sc.hd ||beq m X.P.nAppend)=true->SE X n sc (.meth fz o m as) (.Call (.Attribute v (X.nm m) ap) vs [] pos)
 attr:∀(sc:Sc)(e:PE)(m:Nat)(v:Expr)(pos:Pos),SE X n sc e v->notSuper v=true->SE X n sc (.attr e m) (.Attribute v (X.nm m) pos)
 asgA:∀(sc:Sc)(o e:PE)(m:Nat)(v x:Expr)(p pos:Pos),SE X n sc e x->SE X n sc o v->S1 X n sc (.assign (.attr o m) e) (.Assign [.Attribute v (X.nm m) p] x pos)
 augL:∀(sc:Sc)(i:Nat)(op:BOp)(e:PE)(x:Expr)(p pos:Pos),SE X n sc e x->kStore sc (X.nm i)=true->kLoc sc (X.nm i)=true->nDbg (X.nm i)=true->S1 X n sc (.augLoc i op e) (.AugAssign (.Name (X.nm i) p) (opOf op) x pos)
 augA:∀(sc:Sc)(o e:PE)(m:Nat)(op:BOp)(v x:Expr)(p pos:Pos),SE X n sc e x->SE X n sc o v->S1 X n sc (.augAttr o m op e) (.AugAssign (.Attribute v (X.nm m) p) (opOf op) x pos)
 raise:∀(sc:Sc)(i:Nat)(e:PE)(y:Str)(x:Expr)(np cpos pos:Pos),chkG X.ck sc i y=true->SE X n sc e x->chkE X.ck sc e x=true->sc.hd=true->S1 X n sc (.raise i e) (.Raise (some<|.Call (.Name y np) [x] [] cpos) none pos)
 try_:∀(sc:Sc)(body:PSs)(i:Nat)(as:Option Nat)(h:PSs)(b:List Stmt)(b0':Stmt)(hb:List Stmt)(y:Str)(np:Pos)(nm:Option Str)(hpos pos:Pos),chkG X.ck sc i y=true->SS X n sc body b->SS X n ⟨sc.sc,false⟩ h (b0'::hb)->asOk X.ck sc as nm=true->sc.hd=true->S1 X n sc (.try_ body i as h) (.Try b [.ExceptHandler (some<|.Name y np) nm (b0'::hb) hpos] [] [] pos)
structure PO(X:Cx)(n:Nat)(sc:Sc)(p:PE)(e:Expr):Prop where
 se:SE X n sc p e
 st:plainTest e=true->ST X n sc (.e p) e
 as:∀(i:Nat)(y:Str)(q pos:Pos),y=X.nm i->kStore sc y=true->S1 X n sc (.assign (.loc i) p) (.Assign [.Name y q] e pos)
theorem ZaQ{P:Expr->Prop}(t:tg e k=true)(hk:blt k 16=true)(h:P (back (xu e) k)):P e:=@Eq.subst Expr P _ _ (ZeY t hk).symm h
theorem ZdQ(t:tg e k=true):(xu e).tag=k:=Bz t
theorem Zec(K:CxOk X){p:PE}(t:tg e k=true)(hk:(blt k 16&&ble 1 k&&ble k 14&&!beq k 6)=true)(h:SE X n sc p (back (xu e) k)):PO X n sc p e:=Zau hk λh1 h2 h3 h4=>
 have s:SE X n sc p e:=ZaQ (P:=SE X n sc p) t h1 h
 ⟨s,λq=>Zm3 s q (by unfold tg;rw[ZdQ t];exact Bool.not_eq_true' _▸h4),λi y q pos hy hk=>Zb0 K s hy hk (by rw[ZdQ t];exact h2) (by rw[ZdQ t];exact h3)⟩
theorem Zor{kw:List Keyword}{G:List Keyword->Prop}(h:isRv kw=true)(g:∀k p kp,G [⟨some<|Str.ofString "reverse",.Constant (.bool true) k p,kp⟩]):G kw:=ZaL h λw hw h=>Zah h λh1 h2 h3=>by
 obtain⟨a,v,kp⟩:=w
 obtain rfl:=(Od h1:a=some (Str.ofString "reverse"))
 rw[ZaN hw];refine ZaQ (P:=λb=>G [⟨_,b,kp⟩]) h2 rfl ?_;have h3:(xu v).v=.bool true:=Od h3;show G [⟨_,.Constant (xu v).v _ _,kp⟩];rw[h3];exact g _ _ _
theorem ZnL(K:CxOk X){p:PE}(t:tg e 6=true)(h:SE X n sc p (back (xu e) 6))(h':ST X n sc (.e p) (back (xu e) 6)):PO X n sc p e:=
 have s:SE X n sc p e:=ZaQ (P:=SE X n sc p) t rfl h
 ⟨s,λø=>ZaQ (P:=ST X n sc<|.e p) t rfl h',λi y q pos hy hk=>Zb0 K s hy hk (by rw[ZdQ t];rfl) (by rw[ZdQ t];rfl)⟩
def gE(X:Cx)(n:Nat)(p:PE):Prop:=∀(sc:Sc)(e:Expr),chkE X.ck sc p e=true->PO X n sc p e
structure PL(X:Cx)(n:Nat)(sc:Sc)(p:PEs)(es:List Expr):Prop where
 ls:SEs X n sc p es
 bo:SBool X n sc p es
def gEs(X:Cx)(n:Nat)(p:PEs):Prop:=∀(sc:Sc)(es:List Expr),chkEs X.ck sc p es=true->PL X n sc p es
def gO(X:Cx)(n:Nat)(p:PEo):Prop:=∀(sc:Sc)(e:Option Expr),chkO X.ck sc p e=true->SO X n sc p e
def gT(X:Cx)(n:Nat)(p:PC):Prop:=∀(sc:Sc)(e:Expr),chkT X.ck sc p e=true->ST X n sc p e
def gTs(X:Cx)(n:Nat)(p:PCs):Prop:=∀(sc:Sc)(es:List Expr),chkTs X.ck sc p es=true->SAll X n sc p es
def gC(X:Cx)(n:Nat)(p:PCo):Prop:=∀(sc:Sc)(es:List Expr),chkIf X.ck sc p es=true->SCo X n sc p es
theorem ZoQ{f:Expr->Bool}{G:Expr->Prop}(h:chk1 c sc i e f=true)(k:∀x p q y,x=c.nm i->kGlob sc x=true->nDbg x=true->f y=true->G (.Call (.Name x p) [y] [] q)):G e:=ZdT h λt t' hg hk hl=>ZaL hl λy hy hf=>Zah hg λg1 g2 g3=>ZaQ (P:=G) t rfl (by
 show G (.Call (xu e).a (xu e).l (xu e).kw (xu e).p);rw[ZaN hy,Zag hk]
 exact ZaQ (P:=λb=>G<|.Call b [y] [] (xu e).p) t' rfl<|k _ _ _ y (Od g1) g2 g3 hf)
theorem Znd{r:PKV}(h:noKV r=true):r=.nil:=by
 induction r using PKV.casesOn with
 |nil=>rfl
 |cons _ _ _=>exact noT h
theorem ZnG{k:PE}{i:Int}(h:kInt k=some i):k=.cst (.int i):=by
 induction k using PE.casesOn with
 |cst c=>exact congrArg PE.cst<|vInt h
 |_=>exact noS h
theorem Znr{k:PE}(h:kVar k=some i):k=.loc i:=by
 induction k using PE.casesOn with
 |loc c=>exact congrArg PE.loc<|Sj h
 |_=>exact noS h
section
variable (K:CxOk X)(O:Objs X n)
include K
theorem Zoq(v:V):gE X n (.cst v):=λsc e h=>Zao h λt c=>Zec K t rfl<|Zls c
theorem Zm8(i:Nat):gE X n (.loc i):=λsc e h=>Zau h λt a b c=>Zec K t rfl<|Zmm (Od a) b c
theorem Zkj(i:Nat):gE X n (.glob i):=λsc e h=>Zau h λt a b c=>Zec K t rfl<|ZbN K (Od a) b c
theorem ZnA(fz:Bool)(op:BOp)(l r:PE)(hl:gE X n l)(hr:gE X n r):gE X n (.bin fz op l r):=λsc e h=>Zau h λt o a b=>Zec K t rfl (by
 show SE X n sc _ (.BinOp (xu e).a (xu e).o (xu e).b (xu e).p)
 rw[Od o];exact Zlv (hl sc _ a).se (hr sc _ b).se)
theorem ZnS(a:PE)(ha:gE X n a):gE X n (.neg a):=λsc e h=>Zah h λt o a=>Zec K t rfl (by
 show SE X n sc _ (.UnaryOp (xu e).u (xu e).a (xu e).p)
 rw[Od o];exact Zmr (ha sc _ a).se)
theorem ZnC(a:PE)(ha:gE X n a):gE X n (.not a):=λsc e h=>Zah h λt o a=>Zec K t rfl (by
 show SE X n sc _ (.UnaryOp (xu e).u (xu e).a (xu e).p)
 rw[Od o];exact ZkQ (ha sc _ a).se)
theorem Zj4(op:COp)(l r:PE)(hl:gE X n l)(hr:gE X n r):gE X n (.cmp op l r):=λsc e h=>Zao h λt h=>ZaL h λo ho h=>ZaL h λr' hr' h=>Zah h λh0 h1 h2=>by
 have f:∀{P:Expr->Prop},P (.Compare (xu e).a [cmpOf op] [r'] (xu e).p)->P (back (xu e) 6):=λ{P} q=>by
  show P (Expr.Compare (xu e).a (xu e).cs (xu e).l (xu e).p);rw[ZaN ho,ZaN hr',Od h0];exact q
 exact ZnL K t (f<|Zlp (hl sc _ h1).se (hr sc _ h2).se (Zbj h2).2)<|f<|Zja (hl sc _ h1).se (hr sc _ h2).se (Zbj h2).2
theorem Zj2(o1' o2':COp)(a b c:PE)(ha:gE X n a)(hb:gE X n b)(hc:gE X n c):gE X n (.cmp2 o1' o2' a b c):=λsc e h=>Zao h λt h=>ZaL h λo ho h=>ZaL h λr hr h=>ZdT h λh0 h00 h1 h2 h3=>by
 have f:∀{P:Expr->Prop},P (.Compare (xu e).a [cmpOf o1',cmpOf o2'] [r.1,r.2] (xu e).p)->P (back (xu e) 6):=λ{P} q=>by
  show P (Expr.Compare (xu e).a (xu e).cs (xu e).l (xu e).p);rw[Zng ho,Zng hr,Od h0,Od h00];exact q
 exact ZnL K t (f<|ZiC (ha sc _ h1).se (hb sc _ h2).se (hc sc _ h3).se (Zbj h3).2)<|f<|Zif (ha sc _ h1).se (hb sc _ h2).se (hc sc _ h3).se (Zbj h3).2
theorem ZmR(es:PEs)(he:gEs X n es):gE X n (.and es):=λsc e h=>Zah h λt o a=>Zec K t rfl (by
 show SE X n sc _ (.BoolOp (xu e).bo (xu e).l (xu e).p)
 rw[Od o];exact λA env Pv W σ s Q E ok at_ hw=>((he sc _ a).bo A env Pv W σ s Q E _ ok at_).1 hw)
theorem Zp2(es:PEs)(he:gEs X n es):gE X n (.or es):=λsc e h=>Zah h λt o a=>Zec K t rfl (by
 show SE X n sc _ (.BoolOp (xu e).bo (xu e).l (xu e).p)
 rw[Od o];exact λA env Pv W σ s Q E ok at_ hw=>((he sc _ a).bo A env Pv W σ s Q E _ ok at_).2 hw)
theorem ZmA(c:PC)(a b:PE)(hc:gT X n c)(ha:gE X n a)(hb:gE X n b):gE X n (.ite c a b):=λsc e h=>Zau h λt h0 h1 h2=>Zec K t rfl<|ZkU (hc sc _ h0) (ha sc _ h1).se (hb sc _ h2).se
theorem ZjK(fz:Bool)(es:PEs)(he:gEs X n es):gE X n (.list fz es):=λsc e h=>Zao h λt h0=>Zec K t rfl<|Zjw (he sc _ h0).ls h0
theorem Znf(es:PEs)(he:gEs X n es):gE X n (.tup es):=λsc e h=>Zao h λt h0=>Zec K t rfl<|Zmp (he sc _ h0).ls h0
theorem Zi0{i:Int}{ke ve:Expr}{p:Pos}(h:((tg ke 1&&decide ((xu ke).v=.int i))&&(tg ve 2&&decide ((xu ve).s=X.ck.nm j)&&kLoc sc (xu ve).s&&nDbg (xu ve).s))=true):SE X n sc (.dict<|.cons (.cst<|.int i) (.loc j) .nil) (.Dict [some ke] [ve] p):=
 Zao h λa b=>Zao a λa1 a2=>Zau b λb1 b2 b3 b4=>ZaQ (P:=λz=>SE X n sc (.dict<|.cons (.cst<|.int i) (.loc j) .nil)<|.Dict [some z] [ve] p) a1 rfl (ZaQ (P:=λz=>SE X n sc (.dict<|.cons (.cst<|.int i) (.loc j) .nil)<|.Dict [some<|.Constant (xu ke).v (xu ke).k (xu ke).p] [z] p) b1 rfl (by
  have e2:(xu ve).s=X.nm j:=Od b2;show SE X n sc (.dict<|.cons (.cst<|.int i) (.loc j) .nil) (.Dict [some<|.Constant (xu ke).v (xu ke).k (xu ke).p] [.Name (xu ve).s (xu ve).p] p);rw[Od a2];rw[e2]at b3 b4 ⊢
  exact Zhu K b3 b4))
theorem Zj1(kvs:PKV):gE X n (.dict kvs):=λsc e h=>Zao h λt h1=>Zec K t rfl (by
 show SE X n sc _ (.Dict (xu e).os (xu e).l (xu e).p)
 induction kvs using PKV.casesOn with
 |nil=>exact Zao h1 λh2 h3=>by rw[Zag h2,Zag h3];exact ZgN K
 |cons k v r=>exact Zao h1 λh0 h1=>ZaL h1 λo ho h1=>ZaL h1 λke hke h1=>ZaL h1 λve hve h1=>ZaL h1 λi hi h1=>ZaL h1 λj hj h1=>(by rw[Znd h0,ZaN ho,hke,ZaN hve,ZnG hi,Znr hj];exact Zi0 K h1))
theorem ZmD(a i:PE)(ha:gE X n a)(hi:gE X n i):gE X n (.idx a i):=λsc e h=>Zah h λt h0 h1=>Zec K t rfl<|ZlL (ha sc _ h0).se (hi sc _ h1).se
theorem Zp6(fz:Bool)(a:PE)(lo hi:PEo)(ha:gE X n a)(hl:gO X n lo)(hh:gO X n hi):gE X n (.sl fz a lo hi):=λsc e h=>Zaz h λt t' h0 h1 h2 h3=>Zec K t rfl (by
 show SE X n sc _ (.Subscript (xu e).a (xu e).b (xu e).p);refine ZaQ (P:=λb=>SE X n sc _<|.Subscript (xu e).a b (xu e).p) t' rfl ?_;show SE X n sc _ (.Subscript (xu e).a (.Slice (xu (xu e).b).o0 (xu (xu e).b).o1 (xu (xu e).b).o2 (xu (xu e).b).p) (xu e).p)
 rw[ZhJ h3];exact Zoz (ha sc _ h0).se (hl sc _ h1)<|hh sc _ h2)
theorem Zkg(fz:Bool)(elt:PE)(ts:List Nat)(it:PE)(cond:PCo)(he:gE X n elt)(hi:gE X n it)(hc:gC X n cond):gE X n (.comp fz elt ts it cond):=λsc e h=>Zao h λt h=>ZaL h λg hg h=>Zaz h λh1 h2 h3 h4 h5 h6=>Zao h6 λh7 h8=>by
 have f:∀{P:Expr->Prop},P (.ListComp (xu e).a [⟨g.target,g.iter,g.ifs,0⟩] (scOf<|xu e) (xu e).p)->P e:=λ{P} q=>ZaQ (P:=P) t rfl (by
  show P (.ListComp (xu e).a (xu e).gs (scOf<|xu e) (xu e).p);have h7:g.is_async=0:=Od h7;rw[ZaN hg]
  cases g
  obtain rfl:=h7
  exact q)
 have s:SE X n sc (.comp fz elt ts it cond) e:=f (P:=SE X n sc _)<|ZfO (hi sc _ h3).se (he _ _ h1).se (hc _ _ h4) h2 h5 h8 (Zbj h3).2 K;exact⟨s,λq=>Zm3 s q (by unfold tg;rw[ZdQ t];rfl),λi y q pos hy hk=>f (P:=λe=>S1 X n sc _<|.Assign [.Name y q] e pos)<|Zdm (hi sc _ h3).se (he _ _ h1).se (hc _ _ h4) h2 h5 h8 (Zbj h3).2 K hy hk⟩
include O
theorem ZjX(o:PE)(m:Nat)(ho:gE X n o):gE X n (.attr o m):=λsc e h=>Zau h λt a b c=>Zec K t rfl (by
 show SE X n sc _ (.Attribute (xu e).a (xu e).s (xu e).p)
 rw[Od b];exact O.attr sc o m _ _ (ho sc _ a).se c)
theorem Zj9(fz:Bool)(f:PE)(as:PEs)(hf:gE X n f)(ha:gEs X n as):gE X n (.call fz f as):=λsc e h=>Zaz h λt t' h0 h1 h2 h3=>Zec K t rfl (by
 show SE X n sc _ (.Call (xu e).a (xu e).l (xu e).kw (xu e).p);have s:=(hf sc _ h0).se;rw[ZeY t' rfl]at s;refine ZaQ (P:=λb=>SE X n sc _<|.Call b (xu e).l (xu e).kw (xu e).p) t' rfl ?_
 rw[Zag h2];exact O.call sc fz f as _ _ _ _ s h3 (ha sc _ h1).ls h1)
theorem Zoo(fz:Bool)(i:Nat)(a:PE)(ha:gE X n a):gE X n (.sortedRev fz i a):=λsc e h=>Zaz h λt t' h0 h1 h2 h3=>Zah h0 λg1 g2 g3=>ZaL h1 λy hy h1=>Zec K t rfl (by
 show SE X n sc _ (.Call (xu e).a (xu e).l (xu e).kw (xu e).p);rw[ZaN hy];refine ZaQ (P:=λb=>SE X n sc _<|.Call b [y] (xu e).kw (xu e).p) t' rfl ?_
 exact Zor (G:=λkw=>SE X n sc _<|.Call (.Name (xu (xu e).a).s (xu (xu e).a).p) [y] kw (xu e).p) h2 λk p kp=>ZlY K (ZbN K (Od g1) g2 g3) (ha sc y h1).se h1)
theorem Zp5(fz:Bool)(i j:Nat)(a b:PE)(ha:gE X n a)(hb:gE X n b):gE X n (.sortedU fz i j a b):=λsc e h=>Zah h λt hd h=>Zec K t rfl (ZeY t rfl▸ZoQ (G:=λe=>SE X n sc _ e) h λx p q y g1 g2 g3 hy=>Zau hy λt4 o h1 h2=>ZaQ (P:=λy=>SE X n sc _<|.Call (.Name x p) [y] [] q) t4 rfl (by
 show SE X n sc _ (.Call (.Name x p) [.BinOp (xu y).a (xu y).o (xu y).b (xu y).p] [] q);rw[Od o];refine ZoQ (G:=λl=>SE X n sc _<|.Call (.Name x p) [.BinOp l .BitOr (xu y).b (xu y).p] [] q) h1 λx1 p1 q1 y1 k1 k2 k3 hy1=>?_
 exact ZoQ (G:=λr=>SE X n sc _<|.Call (.Name x p) [.BinOp _ .BitOr r (xu y).p] [] q) h2 λx2 p2 q2 y2 l1 l2 l3 hy2=>Zn0 (ZbN K g1 g2 g3) (ZbN K k1 k2 k3) (ZbN K l1 l2 l3) (ha sc y1 hy1).se hy1 (hb sc y2 hy2).se hy2 hd))
theorem Zkq(fz:Bool)(o:PE)(m:Nat)(as:PEs)(ho:gE X n o)(ha:gEs X n as):gE X n (.meth fz o m as):=λsc e h=>Zaz h λt t' h0 h1 h2 h3=>ZdT h3 λg1 g2 g3 g4 g5=>Zec K t rfl (by
 show SE X n sc _ (.Call (xu e).a (xu e).l (xu e).kw (xu e).p);refine ZaQ (P:=λb=>SE X n sc _<|.Call b (xu e).l (xu e).kw (xu e).p) t' rfl ?_;show SE X n sc _ (.Call (.Attribute (xu (xu e).a).a (xu (xu e).a).s (xu (xu e).a).p) (xu e).l (xu e).kw (xu e).p);rw[Zag g3,Od h1]
 exact O.meth sc fz o m as _ _ _ _ (ho sc _ h0).se (ha sc _ h2).ls h2 g1 (Bq g2) (beq_iff_eq.mpr<|Bz g4) g5)
end
theorem Zkp:gEs X n .nil:=λsc es h=>by rw[Zag h];exact⟨ZdK,ZeX⟩
theorem ZhL(c:PE)(r:PEs)(hc:gE X n c)(hr:gEs X n r):gEs X n (.cons c r):=λsc es h=>ZaL h λx hx h=>Zao h λh1 h2=>by
 have ih:=hr sc _ h2;have hc:=(hc sc x h1).se;rw[ZbD hx];refine⟨Zc2 hc ih.ls,?_⟩
 induction r using PEs.casesOn with
 |nil=>rw[Zag h2];exact ZeK hc
 |cons d r'=>
  refine ZaL h2 λy hy ø=>?_;have b:=ih.bo;rw[ZbD hy]at b ⊢;exact Zen hc b
theorem Zkb:gO X n .none:=λsc e h=>by rw[ZhJ h];exact Zgh
theorem Zkl(a:PE)(ha:gE X n a):gO X n (.some a):=λsc e h=>ZaL h λx hx h=>by rw[hx];exact Zgs (ha sc x h).se
theorem t_e(a:PE)(ha:gE X n a):gT X n (.e a):=λsc e h=>Zao h λh0 h1=>(ha sc e h1).st h0
theorem Zns(c:PC)(hc:gT X n c):gT X n (.not c):=λsc e h=>Zah h λt o a=>ZaQ (P:=ST X n sc _) t rfl (by
 show ST X n sc _ (.UnaryOp (xu e).u (xu e).a (xu e).p)
 rw[Od o];exact Zjt<|hc sc _ a)
theorem Zon(cs:PCs)(hc:gTs X n cs):gT X n (.and cs):=λsc e h=>Zah h λt o a=>ZaQ (P:=ST X n sc _) t rfl (by
 show ST X n sc _ (.BoolOp (xu e).bo (xu e).l (xu e).p)
 rw[Od o];exact Zi2<|hc sc _ a)
theorem Zp4(cs:PCs)(hc:gTs X n cs):gT X n (.or cs):=λsc e h=>Zah h λt o a=>ZaQ (P:=ST X n sc _) t rfl (by
 show ST X n sc _ (.BoolOp (xu e).bo (xu e).l (xu e).p)
 rw[Od o];exact Zlq<|hc sc _ a)
theorem ZjW:gTs X n .nil:=λsc es h=>by rw[Zag h];exact Ze9
theorem ZhF(c:PC)(r:PCs)(hc:gT X n c)(hr:gTs X n r):gTs X n (.cons c r):=λsc es h=>ZaL h λx hx h=>Zao h λh1 h2=>by
 rw[ZbD hx];exact ZeN (hc sc x h1)<|hr sc _ h2
theorem Zkv:gC X n .none:=λsc es h=>by rw[Zag h];exact Zhp
theorem Zj7(c:PC)(hc:gT X n c):gC X n (.some c):=λsc es h=>ZaL h λx hx h=>by rw[ZaN hx];exact Zie<|hc sc x h
section
variable (K:CxOk X)(O:Objs X n)
include K O
theorem sndE(p:PE):gE X n p:=
 PE.rec (motive_1:=gE X n) (motive_2:=gEs X n) (motive_3:=gO X n) (motive_4:=λø=>True) (motive_5:=gT X n) (motive_6:=gTs X n) (motive_7:=gC X n)
  (Zoq K) (Zm8 K) (Zkj K) (ZjX K O) (ZnA K) (ZnS K) (ZnC K) (Zj4 K) (Zj2 K) (ZmR K) (Zp2 K) (ZmA K) (ZjK K) (Znf K) (λkvs ø=>Zj1 K kvs) (ZmD K) (Zp6 K) (Zj9 K O) (Zoo K O) (Zp5 K O) (Zkq K O) (Zkg K)
  Zkp ZhL Zkb Zkl trivial (λø ø ø ø ø ø=>trivial) t_e Zns Zon Zp4 ZjW ZhF Zkv Zj7 p
theorem sndT(p:PC):gT X n p:=
 PC.rec (motive_1:=gE X n) (motive_2:=gEs X n) (motive_3:=gO X n) (motive_4:=λø=>True) (motive_5:=gT X n) (motive_6:=gTs X n) (motive_7:=gC X n)
  (Zoq K) (Zm8 K) (Zkj K) (ZjX K O) (ZnA K) (ZnS K) (ZnC K) (Zj4 K) (Zj2 K) (ZmR K) (Zp2 K) (ZmA K) (ZjK K) (Znf K) (λkvs ø=>Zj1 K kvs) (ZmD K) (Zp6 K) (Zj9 K O) (Zoo K O) (Zp5 K O) (Zkq K O) (Zkg K)
  Zkp ZhL Zkb Zkl trivial (λø ø ø ø ø ø=>trivial) t_e Zns Zon Zp4 ZjW ZhF Zkv Zj7 p
end
def gS(X:Cx)(n:Nat)(p:PS):Prop:=∀(sc:Sc)(e:Stmt),chkS X.ck sc p e=true->S1 X n sc p e
def gSs(X:Cx)(n:Nat)(p:PSs):Prop:=∀(sc:Sc)(es:List Stmt),chkSs X.ck sc p es=true->SS X n sc p es
theorem ZcC{P:Stmt->Prop}{e:Stmt}(t:sg e k=true)(hk:ble 1 k=true)(h:P (sback (su e) k)):P e:=@Eq.subst Stmt P _ _ (Zpt t hk).symm h
theorem Zp1(h:chkNm c sc i e=true)(g:e=.Name (c.nm i) (xu e).p->(xu e).s=c.nm i->kStore sc (c.nm i)=true->G):G:=Zah h λt a b=>
 have a:=Od a
 g ((ZeY t rfl).trans (congrArg (Expr.Name · (xu e).p) a)) a (a▸b)
section
variable (K:CxOk X)(O:Objs X n)
include K O
theorem ZnU(a:PE):gS X n (.expr a):=λsc e h=>Zah h λt h1 h2=>ZcC t rfl<|Zjb (sndE K O a sc _ h1).se h2
theorem Zm9:gS X n .pass:=λsc e h=>ZcC h rfl Zi5
theorem Zjp(t:PT)(a:PE):gS X n (.assign t a):=λsc e h=>Zao h λtt h=>ZaL h λy hy h=>Zah h λh1 h2 h9=>ZcC tt rfl (by
 show S1 X n sc _ (.Assign (su e).l (su e).a (su e).p);rw[ZaN hy]
 induction t with
 |loc i=>exact Zp1 h1 λe1 e2 hk=>e1▸(sndE K O a sc _ h2).as i _ _ _ rfl hk
 |attr o m=>
  refine Zah h1 λt h3 h4=>ZaQ (P:=λy=>S1 X n sc _<|.Assign [y] (su e).a (su e).p) t rfl ?_;show S1 X n sc _ (.Assign [.Attribute (xu y).a (xu y).s (xu y).p] (su e).a (su e).p);rw[Od h3];exact O.asgA sc o a m _ _ _ _ (sndE K O a sc _ h2).se (sndE K O o sc _ h4).se
 |idx o i=>exact Zah h1 λt h3 h4=>ZaQ (P:=λy=>S1 X n sc _<|.Assign [y] (su e).a (su e).p) t rfl<|ZdC (sndE K O a sc _ h2).se (sndE K O o sc _ h3).se (sndE K O i sc _ h4).se
 |tup is=>exact Zau h1 λt ø h3 h4=>Zao h9 λg1 g2=>ZaQ (P:=λy=>S1 X n sc _<|.Assign [y] (su e).a (su e).p) t rfl<|ZdA K (sndE K O a sc _ h2).se h3 h4 (Zbj h2).1 g2<|Bool.not_eq_true' _▸g1)
theorem ZoE(i:Nat)(op:BOp)(a:PE):gS X n (.augLoc i op a):=λsc e h=>Zaz h λt h1 h2 h3 h4 h5=>ZcC t rfl (by
 show S1 X n sc _ (.AugAssign (su e).a (su e).o (su e).b (su e).p);refine Zp1 h1 λe1 e2 hk=>?_;rw[e2]at h2 h3;rw[e1,Od h4]
 exact O.augL sc i op a _ _ _ (sndE K O a sc _ h5).se hk h2 h3)
theorem Zn7(o:PE)(m:Nat)(op:BOp)(a:PE):gS X n (.augAttr o m op a):=λsc e h=>Zaz h λt t' h1 h2 h3 h4=>ZcC t rfl (by
 show S1 X n sc _ (.AugAssign (su e).a (su e).o (su e).b (su e).p);rw[Od h2];refine ZaQ (P:=λy=>S1 X n sc _<|.AugAssign y (opOf op) (su e).b (su e).p) t' rfl ?_;show S1 X n sc _ (.AugAssign (.Attribute (xu (su e).a).a (xu (su e).a).s (xu (su e).a).p) (opOf op) (su e).b (su e).p);rw[Od h1]
 exact O.augA sc o a m op _ _ _ _ (sndE K O a sc _ h4).se (sndE K O o sc _ h3).se)
theorem ZpO(a:PEo):gS X n (.ret a):=λsc e h=>Zao h λt h=>ZcC t rfl (by
 show S1 X n sc _ (.Return (su e).o0 (su e).p)
 induction a using PEo.casesOn with
 |none=>rw[ZhJ h];exact ZeP
 |some a=>exact ZaL h λx hx h=>hx▸ZlQ (sndE K O a sc x h).se)
theorem ZpQ(c:PC)(a b:PSs)(ha:gSs X n a)(hb:gSs X n b):gS X n (.ite c a b):=λsc e h=>Zau h λt h1 h2 h3=>ZcC t rfl<|Zm0 (sndT K O c sc _ h1) (ha sc _ h2)<|hb sc _ h3
theorem ZnW(ts:List Nat)(it:PE)(body:PSs)(hb:gSs X n body):gS X n (.loop ts it body):=λsc e h=>Zaz h λt h1 h2 h3 h4 h5=>ZcC t rfl (by
 show S1 X n sc _ (.For (su e).a (su e).b (su e).b0 (su e).b1 (su e).p);rw[Zag h4];refine ZaL h1 λj hj h1=>Zp1 h1 λe1 e2 hk=>Zi9 K (sndE K O it sc _ h2).se (hb sc _ h3) ?_ (Zbj h2).2 h5;rw[ZaN hj,e1]
 exact Zjr K rfl hk)
theorem Zoc(g i x:Nat)(it:PE)(body:PSs)(hb:gSs X n body):gS X n (.loopEnum g i x it body):=λsc e h=>Zaz h λt h0 h1 h2 h3 h4=>Zao h0 λt0 h0=>ZcC t rfl (by
 show S1 X n sc _ (.For (su e).a (su e).b (su e).b0 (su e).b1 (su e).p);rw[Zag h3];refine ZaQ (P:=λa=>S1 X n sc _<|.For a (su e).b (su e).b0 [] (su e).p) t0 rfl ?_;show S1 X n sc _ (.For (.Tuple (xu (su e).a).l (xu (su e).a).k (xu (su e).a).p) (su e).b (su e).b0 [] (su e).p)
 exact ZoQ (G:=λb=>S1 X n sc _<|.For _ b (su e).b0 [] (su e).p) h1 λx p q y g1 g2 g3 hy=>ZiG K (ZbN K g1 g2 g3) (sndE K O it sc y hy).se hy (hb sc _ h2) h0 h4)
theorem Zma(c:PC)(body:PSs)(hb:gSs X n body):gS X n (.while_ c body):=λsc e h=>Zau h λt h1 h2 h3=>ZcC t rfl (by
 show S1 X n sc _ (.While (su e).a (su e).b0 (su e).b1 (su e).p)
 rw[Zag h3];exact ZhV (sndT K O c sc _ h1)<|hb sc _ h2)
theorem Zk2(i:Nat)(a:PE):gS X n (.raise i a):=λsc e h=>Zao h λt h=>ZaL h λx hx h=>Zah h λt1 t2 h=>ZaL h λv hv h=>ZdT h λh1 h2 h3 h4 h5=>ZcC t rfl (by
 show S1 X n sc _ (.Raise (su e).o0 (su e).o1 (su e).p);rw[hx,ZhJ h4];refine ZaQ (P:=λy=>S1 X n sc _<|.Raise (some y) none (su e).p) t1 rfl ?_;show S1 X n sc _ (.Raise (some<|.Call (xu x).a (xu x).l (xu x).kw (xu x).p) none (su e).p);rw[ZaN hv,Zag h3]
 exact ZaQ (P:=λy=>S1 X n sc _<|.Raise (some<|.Call y [v] [] (xu x).p) none (su e).p) t2 rfl<|O.raise sc i a _ v _ _ _ h1 (sndE K O a sc v h2).se h2 h5)
theorem Zp0(body:PSs)(i:Nat)(as:Option Nat)(hh:PSs)(hb:gSs X n body)(hhh:gSs X n hh):gS X n (.try_ body i as hh):=λsc e h=>Zao h λt h=>ZaL h λg hg h=>ZaL h λx hx h=>Zao h λt1 h=>ZaL h λb0' hb0 h=>Zaz h λh1 h2 h3 h4 h5 h6=>Zao h5 λh7 h8=>ZcC t rfl (by
 show S1 X n sc _ (.Try (su e).b0 (su e).hs (su e).b1 (su e).b2 (su e).p);have h3':=hhh ⟨sc.sc,false⟩ _ h3;rw[ZbD hb0]at h3';rw[ZaN hg,Zag h7,Zag h8,Zm6 g,hx,ZbD hb0]
 exact ZaQ (P:=λy=>S1 X n sc _<|.Try (su e).b0 [.ExceptHandler (some y) _ _ _] [] [] (su e).p) t1 rfl<|O.try_ sc body i as hh _ b0' _ _ _ _ _ _ h1 (hb sc _ h2) h3' h4 h6)
end
theorem ZmW:gSs X n .nil:=λsc es h=>by rw[Zag h];exact Zgx
theorem Zlb(c:PS)(r:PSs)(hc:gS X n c)(hr:gSs X n r):gSs X n (.cons c r):=λsc es h=>ZaL h λx hx h=>Zao h λh1 h2=>by
 rw[ZbD hx];exact Ze1 (hc sc x h1)<|hr sc _ h2
theorem sndSs(K:CxOk X)(O:Objs X n)(p:PSs):gSs X n p:=
 PSs.rec (motive_1:=gS X n) (motive_2:=gSs X n) (ZnU K O) (Zm9 K O) (Zjp K O) (ZoE K O) (Zn7 K O) (ZpO K O) (ZpQ K O) (ZnW K O) (Zoc K O) (Zma K O) (Zk2 K O) (Zp0 K O) ZmW Zlb p
def Hid(W:Wd)(H:Hp)(h₀:Heap)(e:Addr)(l:List Env)(a:Addr):Prop:=a=e\/a∈l.filterMap (·.frame)\/(h₀.get? a=none/\¬ Own W H a/\W.Z a=none)
structure Aft(W:Wd)(H:Hp)(h₀ h h':Heap)(e:Addr)(cls:Value)(l:List Env):Prop where
 same:∀b ob,h.get? b=some ob->¬ Hid W H h₀ e l b->h'.get? b=some ob
 fr:∀b ob,b∈l.filterMap (·.frame)->h.get? b=some ob->∃o',h'.get? b=some o'/\SameO ob o'
 fly:Fly W H h₀ h' e
 exc:∃oe vs,h'.get? e=some oe/\oe.cls=cls/\oe.data=.fields vs
section
variable {M:Model}{h₀:Heap}{e:Addr}{outer:List Env}
theorem Zdp(F:∀e∈l,FrAt W H h e)(hin:∀b∈l.filterMap (·.frame),b∈as):h.FunFrames (hideAll h as) l:=by
 induction l with
 |nil=>trivial
 |cons env r ih=>
  obtain⟨kd,L,o,es,n,a,b,c,_⟩:=F env<|.head _;exact⟨kd,⟨L,o,a,hideAll_none _<|hin L<|List.mem_filterMap.mpr ⟨env,.head _,a⟩,b,λvs q=>by rw[c]at q;injection q⟩,ih (λe he=>F e<|.tail _ he) λb hb=>hin b<|(List.mem_filterMap.mp hb).elim λe q=>List.mem_filterMap.mpr ⟨e,.tail _ q.1,q.2⟩⟩
theorem ZiO(F:∀e∈l,FrAt W H h e):∀b,b∈l.filterMap (·.frame)->∃o es n,h.get? b=some o/\o.data=.dict es n/\¬ Own W H b/\W.Z b=none:=λb hb=>by
 obtain⟨e',he',q⟩:=List.mem_filterMap.mp hb;obtain⟨_,L',o,es,n,a,b',c,d,f⟩:=F e' he';rw[q]at a;obtain rfl:=Sj a;exact⟨o,es,n,b',c,d,f⟩
theorem ZhH{a0:Value}{h2':Heap}(R:RelH X W H s.heap)(there:∀a o,h₀.get? a=some o->∃o',s.heap.get? a=some o')(F:∀e∈l,FrAt W H s.heap e)(hin:∀a∈as,Hid W H h₀ e l a)(x:Heap.FlyingW (hideAll s.heap as) l e cls a0 h2')(u:s.heap.UpToSlots h2'):Aft W H h₀ s.heap h2' e cls l:=by
 have frOwn:=ZiO F;obtain⟨k1,_,_,oe,vs,T,oT,ts,he,⟨hc,h0⟩,hd,h1,hnT,hTe,hT,hdT,h3⟩:=x
 have fr:∀b ob,b∈l.filterMap (·.frame)->s.heap.get? b=some ob->∃o',h2'.get? b=some o'/\SameO ob o':=λb ob hb hob=>by
  obtain⟨o,es,n,q1,q2,_⟩:=frOwn b hb;rw[hob]at q1;obtain rfl:=Sj q1
  obtain⟨sl,q⟩:=u b ob hob λvs z=>by rw[q2]at z;injection z
  exact⟨_,q,.inr ⟨⟨es,n,q2⟩,sl,rfl⟩⟩
 refine⟨λb ob hb hn=>k1 b ob<|hideAll_get _ hb λhm=>hn<|hin b hm,fr,⟨oe,vs,a0,he,hd,h0,.inr ⟨T,oT,ts,h1,hTe,hT,hdT,h3,?_⟩⟩,oe,vs,he,hc,hd⟩
 induction hq:s.heap.get? T with
 |none=>
  refine⟨?_,λz=>?_,?_⟩
  ·induction q:h₀.get? T with
   |none=>rfl
   |some o=>obtain⟨o',z⟩:=there T o q;rw[hq]at z;exact noS z
  ·obtain⟨o',z⟩:=R.own_there z;rw[hq]at z;exact noS z
  ·induction q:W.Z T with
   |none=>rfl
   |some o=>have:=R.z _ _ q;rw[hq]at this;exact noS this
 |some o=>
  have hm:T∈as:=by
   induction hd:decide (T∈as) with
   |true=>exact Od hd
   |false=>have:=hideAll_get as hq<|of_decide_eq_false hd;rw[hnT]at this;exact noS this
  rcases hin T hm with q |q |q
  ·exact absurd q hTe
  ·obtain⟨o',z,zz⟩:=fr T o q hq;obtain⟨o2,es,n,q1,q2,_⟩:=frOwn T q;rw[hq]at q1;obtain rfl:=Sj q1;rw[hT]at z;obtain rfl:=Sj z;rw[zz.data,q2]at hdT;injection hdT
  ·exact q
theorem hid1:∀a∈e::l.filterMap (·.frame),Hid W H h₀ e l a:=λa ha=>by
 rcases Mc ha with q |q
 ·exact .inl q
 ·exact .inr<|.inl q
theorem hid2{T:Addr}(y:h₀.get? T=none/\¬ Own W H T/\W.Z T=none):∀a∈e::T::l.filterMap (·.frame),Hid W H h₀ e l a:=λa ha=>by
 rcases Mc ha with q |q
 ·exact .inl q
 ·rcases Mc q with q |q
  ·subst q;exact .inr<|.inr y
  ·exact .inr<|.inl q
theorem Zhq{L:Addr}(R:RelH X W H s.heap)(there:∀a o,h₀.get? a=some o->∃o',s.heap.get? a=some o')(hfr:A.frames=some (env::outer))(hf:env.frame=some L)(F:∀e∈env::outer,FrAt W H s.heap e)
  (fl:Fly W H h₀ s.heap e) (hcls:∀oe,s.heap.get? e=some oe->oe.cls=cls) (hQ:∀h',Aft W H h₀ s.heap h' e cls (env::outer)->Q () { s with heap:=h' }):
  wpAny M A (noteFrame (.ref e) env) (λø s2'=>wpAny M A (setFlight (.ref e) none) Q E s2') E s:=by
 obtain⟨oe,vs,a0,he,hd,h0,h1⟩:=fl;have hc:=hcls oe he
 rcases h1 with h1 |⟨T,oT,ts,h1,hTe,hT,hdT,h3,y⟩
 ·have FF:s.heap.FunFrames (hideAll s.heap (e::(env::outer).filterMap (·.frame))) (env::outer):=Zdp (l:=env::outer) F λb hb=>.tail _ hb;have hkb:(hideAll s.heap (e::(env::outer).filterMap (·.frame))).StaysIn s.heap:=λb o q=>of_hideAll _ q;have hen:(hideAll s.heap (e::(env::outer).filterMap (·.frame))).get? e=none:=hideAll_none _<|.head _;unfold noteFrame;simp only[hf];refine Yb<|wpAny_field he hd h1 ?_;rw[if_neg<|by decide];refine wpAny_entryW hfr FF hf he hkb hen hd (Array.getElem?_eq_some_iff.mp h1).1 h0 λh1' ⟨k1,k2,k3,k4⟩=>?_;refine wpAny_landsW (s:={ s with heap:=h1' }) ⟨k1,hen,k2,k3⟩ λh2' x u=>?_;rw[hc]at x;exact hQ _<|ZhH R there F hid1 x<|Heap.UpToSlots.trans k4 u
 ·have FF:s.heap.FunFrames (hideAll s.heap (e::T::(env::outer).filterMap (·.frame))) (env::outer):=Zdp (l:=env::outer) F λb hb=>.tail _<|.tail _ hb;have hkb:(hideAll s.heap (e::T::(env::outer).filterMap (·.frame))).StaysIn s.heap:=λb o q=>of_hideAll _ q;have hen:(hideAll s.heap (e::T::(env::outer).filterMap (·.frame))).get? e=none:=hideAll_none _<|.head _;have hTn:(hideAll s.heap (e::T::(env::outer).filterMap (·.frame))).get? T=none:=hideAll_none _<|.tail _<|.head _;exact wpAny_looks_onW hfr hf ⟨hkb,hen,FF,oe,vs,T,oT,ts,he,⟨hc,h0⟩,hd,h1,hTn,hTe,hT,hdT,h3⟩ λh1' hh u1=>wpAny_landsW (s:={ s with heap:=h1' }) hh λh2' x u=>hQ _<|ZhH R there F (hid2 y) x<|u1.trans u
theorem Zjc(R:RelH X W H s.heap)(there:∀a o,h₀.get? a=some o->∃o',s.heap.get? a=some o')(F:∀e∈l,FrAt W H s.heap e)
  (fl:Fly W H h₀ s.heap e) (hcls:∀oe,s.heap.get? e=some oe->oe.cls=cls) (hQ:∀h',Aft W H h₀ s.heap h' e cls l->Q () { s with heap:=h' }):
  wpAny M A (setFlight (.ref e) none) Q E s:=by
 obtain⟨oe,vs,a0,he,hd,h0,h1⟩:=fl;have hc:=hcls oe he
 rcases h1 with h1 |⟨T,oT,ts,h1,hTe,hT,hdT,h3,y⟩
 ·unfold setFlight;refine Yb<|wpAny_field he hd h1 ?_;rw[if_neg<|by decide];exact Yp<|hQ s.heap ⟨λb ob q ø=>q,λb ob ø q=>⟨ob,q,.refl ob⟩,⟨oe,vs,a0,he,hd,h0,.inl h1⟩,oe,vs,he,hc,hd⟩
 ·have FF:s.heap.FunFrames (hideAll s.heap (e::T::l.filterMap (·.frame))) l:=Zdp (l:=l) F λb hb=>.tail _<|.tail _ hb;have hkb:(hideAll s.heap (e::T::l.filterMap (·.frame))).StaysIn s.heap:=λb o q=>of_hideAll _ q;have hen:(hideAll s.heap (e::T::l.filterMap (·.frame))).get? e=none:=hideAll_none _<|.head _;have hTn:(hideAll s.heap (e::T::l.filterMap (·.frame))).get? T=none:=hideAll_none _<|.tail _<|.head _;exact lands_againW ⟨hkb,hen,FF,oe,vs,T,oT,ts,he,⟨hc,h0⟩,hd,h1,hTn,hTe,hT,hdT,h3⟩ λh2' x u=>hQ _<|ZhH R there F (hid2 y) x u
theorem Aft.rel{la:Addr×Addr}{c:Addr}(R:RelH X W H s.heap)(hi:H.get i=some (.exc k))(hl:W.φ i=some la)(hla:la.1=e)(hc:X.clA k=some c)(hcls:cls=.ref c)(F:∀e∈l,FrAt W H s.heap e)(a:Aft W H h₀ s.heap h' e cls l):RelH X W H h':=by
 have cell0:ExcCell X s.heap la k:=R.at_ hi hl
 have own_e:Own W H e:=⟨i,_,la,hi,hl,.inl hla.symm⟩
 have frOwn:∀b,b∈l.filterMap (·.frame)->¬ Own W H b/\W.Z b=none:=λb hb=>by
  obtain⟨e',he',q⟩:=List.mem_filterMap.mp hb;obtain⟨_,L',o,es,n,x1,x2,x3,x4,x5⟩:=F e' he';rw[q]at x1;obtain rfl:=Sj x1;exact⟨x4,x5⟩
 refine⟨λb ob hz=>a.same b ob (R.z b ob hz) λhd=>?_,R.base,λj cj hj=>?_,R.off,R.sep,R.dom⟩
 ·rcases hd with q |q |q
  ·rw[q,R.off e own_e]at hz;exact noS hz
  ·rw[(frOwn b q).2]at hz;exact noS hz
  ·rw[q.2.2]at hz;exact noS hz
 ·obtain⟨l',hl',cell⟩:=R.cell j cj hj
  by_cases hji:j=i
  ·subst hji;have:l'=la:=Sj<|hl'.symm.trans hl;subst this;rw[hi]at hj;obtain rfl:=Sj hj;obtain⟨oe,vs,q1,q2,q3⟩:=a.exc;obtain⟨_,_,_,_,hx,_,_,_,hl2⟩:=cell0;exact⟨l',hl,c,oe,vs,hc,hx,by rw[hla];exact q1,q2.trans hcls,q3,hl2⟩
  ·obtain⟨s1,s2,s3,s4⟩:=R.sep j i cj _ l' la hj hi hl' hl hji
   have nh:∀b,b=l'.1\/b=l'.2->¬ Hid W H h₀ e l b:=λb hb hd=>by
    have ob:Own W H b:=⟨j,cj,l',hj,hl',hb⟩
    rcases hd with q |q |q
    ·rcases hb with r |r
     ·exact s1<|by rw[← r,q,hla]
     ·exact s3<|by rw[← r,q,hla]
    ·exact(frOwn b q).1 ob
    ·exact q.2.1 ob
   exact⟨l',hl',cell.keeps (.refl _) (λo q=>a.same _ _ q<|nh _<|.inl rfl) λo q=>a.same _ _ q<|nh _<|.inr rfl⟩
theorem Stp.post{Pv:Addr->Prop}(S:Stp Pv W0' H₀ h₀ W H h)(k:∀b,(∃o,h₀.get? b=some o)->∀ob,h.get? b=some ob->∃o',h'.get? b=some o'/\(¬ Own W H b->SameO ob o')):Stp Pv W0' H₀ h₀ W H h' where
 le:=S.le
 keep:=λa o ha no np=>by
  obtain⟨o1',h1,q1⟩:=S.keep a o ha no np;obtain⟨o2',h2,q2⟩:=k a ⟨o,ha⟩ o1' h1;exact⟨o2',h2,q1.trans<|q2<|S.own a o ha no⟩
 own:=S.own
 znew:=S.znew
 there:=λa o ha=>by
  obtain⟨o1',h1⟩:=S.there a o ha;obtain⟨o2',h2,_⟩:=k a ⟨o,ha⟩ o1' h1;exact⟨o2',h2⟩
theorem Aft.stp{Pv:Addr->Prop}(S:Stp Pv W0' H₀ h₀ W H h)(ho:Own W H e)(a:Aft W H h₀ h h' e cls l):Stp Pv W0' H₀ h₀ W H h':=
 S.post λb hb ob hob=>by
  by_cases hd:Hid W H h₀ e l b
  ·rcases hd with q |q |q
   ·obtain⟨oe,vs,q1,_⟩:=a.exc;exact⟨oe,by rw[q];exact q1,λz=>absurd (q▸ho) z⟩
   ·obtain⟨o',q1,q2⟩:=a.fr b ob q hob;exact⟨o',q1,λø=>q2⟩
   ·obtain⟨o,z⟩:=hb;rw[q.1]at z;exact noS z
  ·exact⟨ob,a.same b ob hob hd,λø=>.refl ob⟩
theorem Aft.frr{env':Env}(F:FrR X W H h env' Pv loc)(hp:∀b,Pv.pv b->∃o,h₀.get? b=some o)(hcl:∀x c,env'.cells.lookup x=some c->∃o,h₀.get? c=some o)(ho:Own W H e)(a:Aft W H h₀ h h' e cls Pv.st):FrR X W H h' env' Pv loc:=by
 have key:∀b,¬ Own W H b->(∃o,h₀.get? b=some o)->∀o,h.get? b=some o->∃o',h'.get? b=some o'/\SameO o o':=λb nb hb o hob=>by
  by_cases hd:Hid W H h₀ e Pv.st b
  ·rcases hd with q |q |q
   ·exact absurd (q▸ho) nb
   ·exact a.fr b o q hob
   ·obtain⟨o,z⟩:=hb;rw[q.1]at z;exact noS z
  ·exact⟨o,a.same b o hob hd,.refl o⟩
 have kp:∀b,Pv.pv b->∀o,h.get? b=some o->∃o',h'.get? b=some o'/\SameO o o':=λb p=>key b (F.priv b p).1<|hp b p;have kc:∀x c,env'.cells.lookup x=some c->∀o,h.get? c=some o->∃o',h'.get? c=some o'/\SameO o o':=λx c q=>key c (F.cellNs x c q).2.1<|hcl x c q;refine⟨?_,λi v e k=>?_,λx ef e=>?_,F.cellEq,λx c e=>?_,F.pvL,F.priv,λb p=>?_,λe he=>(F.frs e he).keep λL o es n x1 x2 x3 x4 x5=>⟨?_,x4,x5⟩,F.frc⟩
 ·obtain⟨m,hn,hv⟩:=F.ns;exact⟨m,Ze3 hn<|kp _ F.pvL,hv⟩
 ·obtain⟨c,cv,q,r,t⟩:=F.cells i v e k;exact⟨c,cv,q,Zcd r<|kc _ _ q,t⟩
 ·obtain⟨c,v,q,r,t⟩:=F.hasCell x ef e;exact⟨c,v,q,Zcd r<|kc _ _ q,t⟩
 ·obtain⟨p,q,ob,r⟩:=F.cellNs x c e;obtain⟨o',z,_⟩:=kc x c e ob r;exact⟨p,q,o',z⟩
 ·obtain⟨o,r⟩:=F.pvAt b p;obtain⟨o',z,_⟩:=kp b p o r;exact⟨o',z⟩
 ·obtain⟨o',z,q⟩:=a.fr L o (List.mem_filterMap.mpr ⟨e,he,x1⟩) x2;exact⟨o',es,n,z,q.data.trans x3⟩
end
end
variable {p:Nat}{l0':Loc}
section
open PySem PySem.W PySem.Calls PyProof.Rows
open Classical
variable {as:List V}
theorem Zgu(names:List (Str×NameKind)):∀(k:Nat)(acc:List (Str×Addr))(x:Str),((x,NameKind.cell)∈names\/∃c,acc.lookup x=some c)->∃c,(cellsFrom k names acc).lookup x=some c:=by
 induction names with
 |nil=>exact λø ø ø h=>h.elim (λq=>(nomatch q)) id
 |cons p r ih=>
  intro k acc x h;obtain⟨y,kd⟩:=p;unfold cellsFrom
  split
  ·refine ih (k+1) ((y,k)::acc) x ?_
   rcases h with h |⟨c,h⟩
   ·rcases Mc h with q |q
    ·cases q;exact .inr ⟨k,ZaY<|beq_self_eq_true x⟩
    ·exact .inl q
   ·induction hb:x==y with
    |true=>exact .inr ⟨k,ZaY hb⟩
    |false=>exact .inr ⟨c,(ZbH hb).trans h⟩
  ·rename_i hk
   refine ih k acc x<|h.imp (λh=>?_) id
   rcases Mc h with q |q
   ·cases q;exact absurd rfl hk
   ·exact q
structure BR(X:Cx)(W:Wd)(kd:Str->Option NameKind)(loc:Loc)(m cm:Str->Option Value):Prop where
 l:∀i v,loc i=some v->kd (X.nm i)=some .local->MmR X W m i v
 c:∀i v,loc i=some v->kd (X.nm i)≠some .local->MmR X W cm i v
theorem ZhN{ps:List Nat}{l:Loc}(h:bindP (p::ps) as l0'=some l)(g:∀a as',as=a::as'->bindP ps as' (upd l0' p a)=some l->G):G:=by
 induction as using List.casesOn with
 |nil=>exact noS h
 |cons a as=>exact g a as rfl h
theorem ZeA{l:Loc}(h:bindP [] as l0'=some l):as=[]/\l=l0':=by
 induction as using List.casesOn with
 |nil=>exact⟨rfl,(Sj h).symm⟩
 |cons _ _=>exact noS h
theorem Zjz(K:CxOk X){kd:Str->Option NameKind}(ps:List Nat):∀(vs:List Value)(as:List V)(l0' l:Loc)(m cm:Str->Option Value),VRs X W vs as->bindP ps as l0'=some l->BR X W kd l0' m cm->BR X W kd l (PySem.bindL kd ((ps.map X.nm).zip vs) m) (PySem.bindC kd ((ps.map X.nm).zip vs) cm):=by
 induction ps with
 |nil=>
  intro vs as l0' l m cm hv hb h;rw[(ZeA hb).2];exact h
 |cons p ps ih=>
  intro vs as l0' l m cm hv hb h;refine ZhN hb λa as' e hb'=>?_;subst e
  cases hv with
  |@cons v vs _ _ hv hvs=>
   have key:∀i u,upd l0' p a i=some u->(i=p/\u=a)\/(X.nm i≠X.nm p/\l0' i=some u):=λi u e=>by
    have e':(if i=p then some a else l0' i)=some u:=e
    by_cases hi:i=p
    ·rw[if_pos hi]at e'; exact .inl ⟨hi,(Sj e').symm⟩
    ·rw[if_neg hi]at e'; exact .inr ⟨λq=>hi<|K.inj _ _ q,e'⟩
   refine ih vs as' (upd l0' p a) l _ _ hvs hb' ⟨λi u e q=>?_,λi u e q=>?_⟩
   ·rcases key i u e with⟨rfl,rfl⟩ |⟨ne,e⟩
    ·exact⟨v,by rw[if_pos q,if_pos rfl],hv⟩
    ·obtain⟨cv,a1,a2⟩:=h.l i u e q;refine⟨cv,?_,a2⟩
     split
     ·exact(if_neg ne).trans a1
     ·exact a1
   ·rcases key i u e with⟨rfl,rfl⟩ |⟨ne,e⟩
    ·exact⟨v,by rw[if_neg q,if_pos rfl],hv⟩
    ·obtain⟨cv,a1,a2⟩:=h.c i u e q;refine⟨cv,?_,a2⟩
     split
     ·exact a1
     ·exact(if_neg ne).trans a1
theorem Ziw(ps:List Nat):∀(as:List V)(l0' l:Loc),bindP ps as l0'=some l->as.length=ps.length:=by
 induction ps with
 |nil=>exact λas l0' l h=>by rw[(ZeA h).1];rfl
 |cons p ps ih=>exact λas l0' l h=>ZhN h λa as' e h=>by rw[e];exact congrArg (·+1)<|ih as' _ l h
theorem RelH.fresh_no{h:Heap}(R:RelH X W H h){b:Addr}(hb:h.get? b=none):¬ Own W H b/\W.Z b=none:=by
 refine⟨λq=>(R.own_there q).elim λø e=>(by rw[hb]at e;exact noS e),?_⟩
 induction q:W.Z b with
 |none=>rfl
 |some ob=>have:=R.z _ _ q;rw[hb]at this;exact noS this
noncomputable def callPv(fd:FuncData)(L a:Addr)(outer:List Env):Pr:=⟨λb=>b=L\/∃x,(callEnvC fd L a).cells.lookup x=some b,callEnvC fd L a::outer⟩
section
variable {A:Around}{a:Addr}{vs:List Value}{s:Shared}{d:Fn}{m:Loc}{q:Bool}{o:Obj}{fd:FuncData}{body:List Stmt}{outer:List Env}
theorem Zi4(K:CxOk X)(O:Objs X n)(A:Around)(k:Nat)(a:Addr)(as:List V)(vs:List Value)(W:Wd)(H:Hp)(s:Shared)(Q:V->Hp->Prop)(E:Yh)(hA:AOk A (n+1))(hq:A.handled=none\/X.quiet k=true)(hst:FrsAt A W H s.heap)(R:RelH X W H s.heap)(hv:VRs X W vs as)(ha:X.fnA k=some a)
  (h:need (X.P.fn k) λd=>need (bindP d.params as λø=>none) λm=>wpSs X.P (CW X.P n) d.body ⟨H,m⟩ (λfl σ=>Q (retV fl) σ.H) λe σ=>E e σ.H):codeAny (model X.prog X.w) A (.call (.ref a) ⟨vs,[]⟩) (CPost X W H s Q E) s:=by
 obtain⟨outer,hfr,hfrs⟩:=hst;refine Zab h λd hd h=>Zab h λm hm h=>?_;obtain⟨o,fd,body,F⟩:=K.fn k a d ha hd
 have hlen:vs.length=d.params.length:=by rw[hv.length];exact Ziw _ _ _ _ hm
 have cs:∀(N:Nat) x,fd.scope.names.lookup x=some .cell->∃c,(cellsFrom N fd.scope.names []).lookup x=some c:=λN x q=>Zgu _ _ _ _<|.inl<|ZaI q;refine codeAny_call_cells (by have:=hA.depth;exact la1<|la8<|Ny this) (R.bkeep _ _ F.at_) F.data (K.noLim.keeps R.bkeep) (F.code.keeps R.bkeep) F.body_ (F.bind vs hlen) F.clo (λx hx=>?_) (λs1' ic=>?_) F.co F.gen F.kind
 ·obtain⟨i,hi,e⟩:=mem_map.mp (List.of_mem_zip<|show(x.1,x.2)∈_ from hx).1;rw[← e]
  rcases Bool.or_eq_true_iff.mp (F.par i hi) with q |q
  ·exact .inl<|Zew (sc:=⟨fd.scope,true⟩) (Bz q)<|by decide
  ·have q:fd.scope.names.lookup (X.nm i)=some .cell:=Zew (sc:=⟨fd.scope,true⟩) (Bz q) (by decide);exact(cs (s.heap.objs.size+1) _ q).elim λc hc=>.inr ⟨q,by rw[hc];rfl⟩
 generalize hL:s.heap.objs.size=L at ic ⊢;have sn:∀b,L<=b->s.heap.get? b=none:=λb hb=>Heap.get?_none_of_le (by rw[hL];exact hb);obtain⟨h1',tk,rfl,keep⟩:=ic.done;have ab:∀x c,(callEnvC fd L a).cells.lookup x=some c->L<c:=λx c q=>ic.above x c<|ZaI q;have pvN:∀b,(callPv fd L a outer).pv b->s.heap.get? b=none:=λb hb=>hb.elim (λq=>by rw[q];exact sn L<|Zr _) λ⟨x,q⟩=>sn b<|Ny<|ab x b q
 have S0:Stp noPv W H s.heap W H h1':=.quiet (λb ob e ø=>keep b ob e) λb ob e=>⟨ob,keep b ob e⟩
 have br:=Zjz K (kd:=(callEnvC fd L a).kindOf) d.params vs as (λø=>none) m (λø=>none) (λø=>none) hv hm ⟨λi v e=>(by exact noS e),λi v e=>(by exact noS e)⟩;have kc:∀x,(callEnvC fd L a).kindOf x=some .cell->∃c,(callEnvC fd L a).cells.lookup x=some c:=λx q=>cs (L+1) x q;have kf:∀x,(callEnvC fd L a).kindOf x≠some .free:=λx q=>F.free _ (ZaI<|show fd.scope.names.lookup x=some .free from q) rfl
 have fr:FrR X W H h1' (callEnvC fd L a) (callPv fd L a outer) m:=by
  refine⟨⟨_,ic.toInCall.ns,br.l⟩,λi v e q=>?_,λx ø q=>?_,λx y c q q'=>name_of_addr ic.apart (ZaI q)<|ZaI q',λx c q=>?_,.inl rfl,λb hb=>R.fresh_no<|pvN b hb,λb hb=>?_,λe he=>?_,λx c q e he z=>?_⟩
  ·have q':(callEnvC fd L a).kindOf (X.nm i)=some .cell:=q.elim id λz=>absurd z<|kf _;obtain⟨c,hc⟩:=kc _ q';obtain⟨cv,h1,h2⟩:=br.c i v e (by rw[q'];intro z;cases z);have hcell:=ic.cell _ c hc;rw[h1]at hcell;exact⟨c,cv,hc,hcell,h2⟩
  ·exact(kc _ q).elim λc hc=>⟨c,_,hc,ic.cell _ c hc,.inr ⟨x,hc⟩⟩
  ·exact(ic.cell _ c q).elim λob ho=>⟨Nat.ne_of_gt<|ab x c q,(R.fresh_no<|pvN c<|.inr ⟨x,q⟩).1,ob,ho.1⟩
  ·rcases hb with rfl |⟨x,q⟩
   ·obtain⟨ob,_,_,ho,_⟩:=ic.toInCall.ns;exact⟨ob,ho⟩
   ·exact(ic.cell _ b q).elim λob ho=>⟨ob,ho.1⟩
  ·rcases Mc he with q |q
   ·subst q;obtain⟨ob,es,n',ho,hd',_⟩:=ic.toInCall.ns;exact⟨by show fd.scope.kind≠_;rw[F.kind];decide,L,ob,es,n',rfl,ho,hd',R.fresh_no<|sn L<|Zr _⟩
   ·exact(hfrs e q).keep λL' o es n' a b c d f=>⟨⟨o,es,n',keep _ _ b,c⟩,d,f⟩
  ·rcases Mc he with r |r
   ·subst r;exact Nx (ab x c q)<|Sj<|show some L=some c from z
   ·obtain⟨_,L',o,es,n',x1,x2,_⟩:=hfrs e r;rw[z]at x1;obtain rfl:=Sj x1;rw[pvN c<|.inr ⟨x,q⟩]at x2;exact noS x2
 have hfr':(A.deeper<|callEnvC fd L a).frames=some (callEnvC fd L a::outer):=by show A.frames.map _=_;rw[hfr];rfl
 have hs:∀hd',(hd'=true->A.handled=none)->chkSs X.ck ⟨fd.scope,hd'⟩ d.body body=true->_:=λhd' hh' hck=>sndSs K O d.body ⟨fd.scope,hd'⟩ body hck (A.deeper<|callEnvC fd L a) (callEnvC fd L a) (callPv fd L a outer) W ⟨H,m⟩ { s with heap:=h1',toks:=tk } _ _
  ⟨hfr',λø=>⟨(λz=>by exact noZ z),outer,rfl⟩,⟨by have:=hA.depth;show A.depth+1+4 * n+6<_;exact lk1 (la2<|Zr _)<|lk1 (Ar _ _) this,by have:=hA.units;show A.units+3+20 * n+110<_;lia⟩,hh',F.kind,F.glob,F.bi,λx k q=>.inl q,λx q=>q.elim (kc x) λz=>absurd z<|kf x⟩ (by intro z;exact noZ z) ⟨R.quiet (Pv:=noPv) (λb ob e ø=>keep b ob e) λø z=>z.elim,fr⟩ h
 refine Ym (hq.elim (λq=>hs true (λø=>q) F.chk) λq=>hs false (λz=>(Bool.false_ne_true z).elim)<|F.chkq q) (λfl s' qq=>qq.e λW' σ' T qq=>qq.e λaf hfr q=>?_) λe s' x=>?_
 ·have Tc':Tc X W H s W' σ'.H s':=⟨S0.transFresh T.stp λb hb=>.inl<|pvN b hb,T.at_.rel,⟨T.rest.gens,T.rest.drawn,T.rest.os⟩⟩
  cases hfr with
  |ret hr=>exact⟨W',σ'.H,_,Tc',hr,q⟩
  |_=>exact⟨W',σ'.H,_,Tc',.none,q⟩
 ·obtain⟨W',σ',i,l,k',T,rfl,hl,hg,fl,hE⟩:=x;obtain⟨c,o,vs',hc,_,ho,hcls,hdd,_⟩:=T.at_.rel.at_ hg hl;unfold leaving;refine Yb (Zhq (h₀:=h1') (cls:=.ref c) T.at_.rel T.stp.there hfr' rfl T.at_.fr.frs fl (λoe q=>by rw[ho]at q;obtain rfl:=Sj q;exact hcls) λh' aft=>?_);exact⟨W',σ'.H,i,l,k',⟨S0.transFresh (aft.stp T.stp ⟨i,_,l,hg,hl,.inl rfl⟩) λb hb=>.inl<|pvN b hb,aft.rel T.at_.rel hg hl rfl hc rfl T.at_.fr.frs,⟨T.rest.gens,T.rest.drawn,T.rest.os⟩⟩,rfl,hl,hg,aft.fly.back λa o q=>⟨o,keep a o q⟩,hE⟩
end
theorem Zht(K:CxOk X)(O:Objs X n):CallM X (n+1):=by
 intro A k a as vs W H s Q E hA hq hst R hv ha h
 change Fc (λas H Q E=>need (X.P.fn k) λd=>need (bindP d.params as λø=>none) λm=>wpSs X.P (CW X.P n) d.body ⟨H,m⟩ (λfl σ=>Q (retV fl) σ.H) λe σ=>E e σ.H) as H Q E at h
 induction h generalizing vs W with
 |@run as H Q E h=>exact Zi4 K O A k a as vs W H s Q E hA hq hst R hv ha h
 |@foc as H Q E js as₁ H₀ e hs h ih=>
  subst hs
  have hst':FrsAt A (W.part H H₀ js s.heap) H₀ s.heap:=by
   obtain⟨l,e1,e2⟩:=hst
   exact⟨l,e1,λev he=>(e2 ev he).keep λL o es n a b c d f=>⟨⟨o,es,n,b,c⟩,λz=>d (ownPart R e z).1,by
    show(if OutD W H H₀ js s.heap L then s.heap.get? L else W.Z L)=none
    rw[if_neg λq=>d q.1.own];exact f⟩⟩
  have hv':VRs X (W.part H H₀ js s.heap) vs as₁:=Zce (λa o z=>zPart R z) (λi=>rfl) as₁ hv;refine codeAny_mono (ih vs _ hst' (relPart R e) hv') λr s' q=>?_
  induction r with
  |ok fl=>
   induction fl with
   |ret v=>
    obtain⟨W1,H₁,av,T,r,q⟩:=q;exact⟨_,_,_,tcWhole R e T,vrWhole R e T r,q⟩
   |_=>exact q.elim
  |error x=>
   obtain⟨W1,H₁,i,l,k',T,he,hl,hg,hf,q⟩:=q
   have hg':(mrg js H₀ H H₁).get (rho js H.next i)=some (.exc k'):=by
    rw[Zcj q.1];have li:i<H₁.next:=Zas hg;rw[Zeq,if_pos<|lh2 q.1 li];show(match pos js H.next (H.next+(i - js.length)) with |some i=>mrgC (rho js H.next) (H₀.get i) (H₁.get i) _ |none=>_)=_;rw[Zff q.1];show mrgC (rho js H.next) (H₀.get i) (H₁.get i) _=_;rw[hg];rfl
   refine⟨_,_,rho js H.next i,l,k',tcWhole R e T,he,phiW R e T hl,hg',?_,q.2⟩;obtain⟨oe,ws,a0,x1,x2,x3,x4⟩:=hf;refine⟨oe,ws,a0,x1,x2,x3,x4.imp id λy=>?_⟩;obtain⟨t,ot,ts,y1,y2,y3,y4,y5,y6,y7,y8⟩:=y;refine⟨t,ot,ts,y1,y2,y3,y4,y5,y6,λz=>(ownW R e T z).elim (λo=>by obtain⟨_,w⟩:=R.own_there o.own;rw[y6]at w;exact noS w) y7,?_⟩;show(if OutD W H H₀ js s.heap t then none else W1.Z t)=none
   by_cases d:OutD W H H₀ js s.heap t
   ·rw[if_pos d]
   ·rw[if_neg d];exact y8
end
variable {s:Str}{h:PSs}{K:CT}{op:BOp}{is:List Int}{cl:Cl}{loose used:List Str}
section
open PySem PySem.W PySem.Calls PyProof.Rows
variable {a c:Addr}{b:B}{p np hpos:Pos}{l:Addr×Addr}{s:Shared}{t:Tb}{x:Str}{w:World}{q:Program}{r:Bool}{v:Value}{f:Nat}{g:V}{h:Heap}{vs:List Expr}{env:Env}{E:EP}{A:Around}{R:Result->Shared->Prop}{Q:Unit->Shared->Prop}{K:Frag}{kw:List (Str×Value)}{rest:List Value}{b0':Stmt}{hs:List Stmt}{mg mb:Str->Option Value}
theorem Ze7{α:Type}{n:Nat}{x:α}{r:List (Nat×α)}{o:Option α}(h:lk ((i,x)::r) n=o)(g1:i=n->o=some x->G)(g2:i≠n->lk r n=o->G):G:=by
 have h:cond (beq i n) (some x) (lk r n)=o:=h
 induction e:beq i n with
 |true=>rw[e]at h;exact g1 (Bz e) h.symm
 |false=>rw[e]at h;exact g2 (Nat.ne_of_beq_eq_false e) h
theorem ZbK{α:Type}{l:List (Nat×α)}{v:α}(h:lk l i=some v):(i,v)∈l:=by
 induction l with
 |nil=>exact noS h
 |cons p r ih=>
  obtain⟨j,u⟩:=p;exact Ze7 h (λe q=>by obtain rfl:=Sj q;subst e;exact .head _) λø q=>.tail _<|ih q
theorem Zfd{n:Nat}{x y:V}{r:List (Nat×V)}{P:List (Nat×V)->Prop}(g1:i=n->P ((i,x)::r))(g2:i≠n->P ((i,y)::st r n x)):P (st ((i,y)::r) n x):=by
 show P (cond (beq i n) ((i,x)::r) ((i,y)::st r n x))
 induction e:beq i n with
 |true=>exact g1<|Bz e
 |false=>exact g2<|Nat.ne_of_beq_eq_false e
theorem Zj6(n:Nat)(x:V)(fs:List (Nat×V)):(st fs n x).length<=fs.length+1:=by
 induction fs with
 |nil=>exact Zr _
 |cons p r ih=>
  obtain⟨i,y⟩:=p;exact Zfd (P:=λl=>l.length<=((i,y)::r).length+1) (λø=>Us _) λø=>Fs ih
theorem Zoh{n:Nat}{x:V}{p:Nat×V}:p∈st fs n x->p.1=n\/∃q∈fs,q.1=p.1:=by
 induction fs with
 |nil=>exact λh=>by obtain rfl:=Mg h;exact .inl rfl
 |cons q r ih=>
  obtain⟨i,y⟩:=q;refine Zfd (P:=λl=>p∈l->p.1=n\/∃q∈(i,y)::r,q.1=p.1) (λe h=>?_) λø h=>?_
  ·rcases Mc h with rfl |h
   ·exact .inl e
   ·exact .inr ⟨p,.tail _ h,rfl⟩
  ·rcases Mc h with rfl |h
   ·exact .inr ⟨_,.head _,rfl⟩
   ·exact(ih h).imp id λ⟨q,hq,e⟩=>⟨q,.tail _ hq,e⟩
theorem Zhi{t:Tok}:(Value.str x t).isStr x=true:=beq_self_eq_true x
theorem ZgX{t:Tok}(h:x≠y):(Value.str x t).isStr y=false:=beq_eq_false_iff_ne.mpr h
inductive Fnd(X:Cx)(W:Wd)(es:List DictEntry)(y:Str)(x:V):Prop
 |mk (e:DictEntry) (h:es.find? (λd=>d.key.isStr y)=some e) (r:VR X W e.val x)
theorem FVs.find{n:Nat}(inj:∀i j,X.nm i=X.nm j->i=j){es:List DictEntry}(h:FVs X W es fs):(∀x,lk fs n=some x->Fnd X W es (X.nm n) x)/\(lk fs n=none->es.find? (λd=>d.key.isStr<|X.nm n)=none):=by
 induction h with
 |nil=>exact⟨λø e=>by(exact noS e),λø=>rfl⟩
 |@cons i hh t v x es fs a r ih=>
  refine⟨λy e=>Ze7 e (λq z=>?_) λq z=>?_,λe=>Ze7 e (λq z=>by exact noS z) λq z=>?_⟩
  ·obtain rfl:=Eq.symm<|Sj z;subst q;exact⟨_,by rw[List.find?_cons,Zhi],a⟩
  ·obtain⟨en,he,r⟩:=ih.1 y z;exact⟨en,by rw[List.find?_cons,ZgX λw=>q<|inj _ _ w];exact he,r⟩
  ·rw[List.find?_cons,ZgX λw=>q<|inj _ _ w];exact ih.2 z
theorem FVs.noRef{es:List DictEntry}(h:FVs X W es fs):es.any (·.refKey)=false:=by
 induction h with
 |nil=>rfl
 |cons a r ih=>rw[List.any_cons,ih];rfl
theorem FVs.put{n:Nat}{hsh:Int}{t:Tok}{x:V}(inj:∀i j,X.nm i=X.nm j->i=j)(hv:VR X W v x){es:List DictEntry}(h:FVs X W es fs):FVs X W (putL (X.nm n) hsh (.str (X.nm n) t) v es) (st fs n x):=by
 induction h with
 |nil=>exact .cons hv .nil
 |@cons i hh t' v' x' es fs a r ih=>
  refine Zfd (P:=FVs X W<|putL (X.nm n) hsh (.str (X.nm n) t) v (⟨hh,.str (X.nm i) t',v'⟩::es)) (λq=>?_) λq=>?_
  ·subst q;rw[putL,if_pos Zhi];exact .cons hv r
  ·rw[putL,if_neg (λz=>by rw[ZgX λw=>q<|inj _ _ w]at z;exact noT z)];exact .cons a ih
theorem FVs.len{es:List DictEntry}(h:FVs X W es fs):es.length=fs.length:=by
 induction h with
 |nil=>rfl
 |cons a r ih=>exact congrArg (·+1) ih
structure Inst(X:Cx)(K:Frag)(W:Wd)(h:Heap)(l:Addr×Addr)(k:Nat)(fs:List (Nat×V))(c:Addr)(cl:Cl)(es:Array DictEntry)(n:Nat):Prop where
 ca:X.clA k=some c
 cl_:X.P.cls k=some cl
 ob:h.get? l.1=some (instO c l.2)
 dc:h.get? l.2=some (dictO es n)
 fv:FVs X W es.toList fs
 ne:l.2≠l.1
 at_:∀p∈fs,p.1∈cl.attrs
 sz:fs.length<=1000
 ok:ClAt X K c cl
 inn:K.In h
theorem Inst.of(C:ClsOk X K)(R:RelH X W H h)(hi:H.get i=some (.inst k fs))(hl:W.φ i=some l)(g:∀c cl es n,Inst X K W h l k fs c cl es n->G):G:=by
 obtain⟨c,cl,es,n,a,a',b,d,f,ne,gg,z⟩:=R.at_ hi hl;exact g c cl es n ⟨a,a',b,d,f,ne,gg,z,C.cls _ _ _ a a',λx o q=>R.bkeep x o<|C.inn x o q⟩
theorem Inst.inst{es:Array DictEntry}{n:Nat}(I:Inst X K W h l k fs c cl es n):InstAt h l.1 (instO c l.2) c (some<|dictO es n):=⟨I.ob,rfl,rfl,I.dc⟩
theorem Zfb(b:B):handedIn (bval b)=true:=by induction b <;> decide+kernel
theorem handed{x:V}(h:VR X W v x):handedIn v=true:=by
 cases h with
 |bt b=>exact Zfb b
 |_=>rfl
section
variable {E:Yv}{es:Array DictEntry}{n:Nat}(inj:∀i j,X.nm i=X.nm j->i=j)(I:Inst X K W s.heap l k fs c cl es n)
include inj I
theorem Zkn{x:V}{ex:Bool}{Q:Yv}(e:lk fs m=some x)
  (h:∀v,VR X W v x->Q v { s with toks:=s.toks+1 }):Yw A (getAttr (.ref l.1) (X.nm m) ex) Q E s:=by
 obtain⟨en,he,hv⟩:=(I.fv.find inj (n:=m)).1 x e
 have hl:lookIn (X.nm m) (dictO es n)=some (some en.val):=by
  unfold lookIn;simp only[he]
 exact get_value I.inn I.inst I.ok.ga (findObj_own I.ok.hd (I.ok.attr m<|I.at_ _<|ZbK e) rfl hl) (handed hv)<|h _ hv
theorem Zk3(e:lk fs m=none):lookIn (X.nm m) (dictO es n)=some none:=by
 unfold lookIn;simp only[(I.fv.find inj (n:=m)).2 e,I.fv.noRef];rfl
theorem ZlJ{pl:Sem Bool}{Q:Value×List Value->Shared->Prop}(e:lk cl.meths m=some f)
  (h:∀a,X.fnA f=some a->Q (.ref a,[.ref l.1]) s):Yw A (getMethod (.ref l.1) (X.nm m) pl) Q E s:=by
 obtain⟨a,ha,hf,ht⟩:=I.ok.meth m f e
 have hn:lk fs m=none:=by
  induction q:lk fs m with
  |none=>rfl
  |some x=>exact absurd (I.at_ _<|ZbK q)<|I.ok.dis m f e
 exact method_fn I.inn I.inst I.ok.ga I.ok.gh hf ht (by show(lookIn _ _).map _=_;rw[Zk3 inj I hn];rfl)<|h a ha
theorem Znw{x:V}{tk:Tok}(hm:m∈cl.attrs)(hz:fs.length<1000)(hv:VR X W v x)
  (h:∀h' es' n',h'.get? l.2=some (dictO es' n')->FVs X W es'.toList (st fs m x)->Heap.SameBut l.2 s.heap h'->R (.ok<|.ret .none) { s with heap:=h',toks:=s.toks+1 }):
  codeAny (model X.prog X.w) A (.call (.builtin "object.__setattr__") ⟨[.ref l.1,.str (X.nm m) tk,v],[]⟩) R s:=by
 have fi:=I.ok.attr m hm;refine osa_open I.inn I.inst I.ok.po (r:=none) (by unfold takerIn;rw[fi];rfl) λb=>?_;obtain⟨cd,hc,hd'⟩:=any_some I.ok.hd;refine Yb<|Yp<|Yb<|Yb<|wpAny_loadPart I.ob<|Yb<|(looks_clsIn I.inn hc).here ?_;rw[hd'];refine Yp (a:=some l.2)<|Yb<|Yp<|Yb ?_;unfold nsSet;refine Yb<|Yb<|wpAny_askSetting<|Yp<|Yb<|wpAny_mkText<|Yb<|wpAny_loadPart I.dc ?_;dsimp only
 have c0:(!es.any (·.key.isStr (X.nm m))&&es.any (·.refKey))=false:=by
  rw[← Array.any_toList (p:=λd:DictEntry=>d.refKey),I.fv.noRef,Bool.and_false]
 rw[aRefKeyMayBeTheName_at,c0];have P:=putName_dict (X.nm m) (PyData.keyHash X.w.params<|X.nm m) (.str (X.nm m) s.toks) v es.toList n;have F:=I.fv.put inj hv (n:=m) (hsh:=PyData.keyHash X.w.params<|X.nm m) (t:=s.toks);have e0:dictOf es.toList n=dictO es n:=rfl;rw[e0]at P
 have D':(s.heap.update l.2<|Obj.putName (X.nm m) (PyData.keyHash X.w.params<|X.nm m) (.str (X.nm m) s.toks) v).get? l.2=some (dictO (putL (X.nm m) (PyData.keyHash X.w.params<|X.nm m) (.str (X.nm m) s.toks) v es.toList).toArray<|putN (X.nm m) es.toList n):=by
  rw[Heap.get?_update_self _ I.dc (by rw[P];rfl),P]
 refine wpAny_updatePart I.dc<|Yb (wpAny_lookBehind D' (pastItsLine_dict ?_) ?_)
 ·rw[List.size_toArray,F.len,sizeLine_eq];have:=Zj6 m x fs;exact lk2 this<|Fs<|li6 hz<|Bq rfl
 ·exact Yp<|h _ _ _ D' F ⟨Heap.size_update _ _ _,λb hb=>Heap.get?_update_other _ _<|Ne.symm hb⟩
theorem ZoG{x:V}(R:RelH X W H s.heap)(hi:H.get i=some (.inst k fs))(hl:W.φ i=some l)(hm:m∈cl.attrs)(hz:fs.length<1000)(hv:VR X W v x)
  (h:∀s',Tc X W H s W (H.set i<|.inst k<|st fs m x) s'->Q () s'):Yw A (setAttr (.ref l.1) (X.nm m) v) Q E s:=by
 refine set_plain I.inn I.inst I.ok.sa<|Znw (s:={ s with toks:=s.toks+1 }) inj ⟨I.ca,I.cl_,I.ob,I.dc,I.fv,I.ne,I.at_,I.sz,I.ok,I.inn⟩ hm hz hv λh' es' n' hd hf hs=>?_
 obtain⟨r,t⟩:=R.upd (h':=h') (c':=.inst k<|st fs m x) hi hl (λb ob e ø n2=>(hs.2 b n2).trans e)
  ⟨c,cl,es',n',I.ca,I.cl_,(hs.2 _<|Ne.symm I.ne).trans I.ob,hd,hf,I.ne,λp hp=>(Zoh hp).elim (λe=>e▸hm) λ⟨q,hq,e⟩=>e▸I.at_ q hq,Nt (Zj6 m x fs) hz⟩
 exact h _ ⟨t,r,⟨rfl,rfl,rfl⟩⟩
end
theorem ZhA{cf:Value}{k:Nat->Nat->List (Nat×V)->Prop}(hg:VR X W cf g)(h:instK H g k)(q:∀i (l:Addr×Addr) (t:Nat×List (Nat×V)),cf=.ref l.1->W.φ i=some l->H.get i=some (.inst t.1 t.2)->k i t.1 t.2->g=.ref i->G):G:=
 Zab h λi ei h=>Zab h λt et h=>ZfL hg ei λl e hl eg=>q i l t e hl (Zqj et) h eg
theorem Zjd(K0:CxOk X)(C:ClsOk X K){v:Expr}{pos:Pos}(he:SE X n sc e v)(hs:notSuper v=true):SE X n sc (.attr e m) (.Attribute v (X.nm m) pos):=by
 intro A env Pv W σ s Q E ok at_ h;rw[arm_eval_Attribute,ZdN hs];refine he.bind ok at_ h λcf W1 σ1 s1' g at1 ø hg h1'=>Ew.standAt<|ZhA hg h1' λi l t e hl hi h1' ø=>Zab h1' λx hx hq=>Inst.of C at1.rel hi hl λc cl es k' I=>?_;subst e;exact Yb<|wpAny_holding (Zkn K0.inj I hx λv hv=>Yb<|wpAny_letTemporaryGo (Yp (at1.val hv hq)))
theorem Zgv{n:Nat}(h:AOk2 A n):AOk (A.under<|.builtin "type.__call__" ⟨.ref c::rest,kw⟩) n:=by
 have h1:=h.depth;have h2:=h.units;refine⟨?_,?_⟩
 ·show A.depth+(Code.builtin "type.__call__" ⟨.ref c::rest,kw⟩).weight+4 * n+4<_;rw[show(Code.builtin "type.__call__" ⟨.ref c::rest,kw⟩).weight=1 from rfl];exact lk1 (la2<|Zr _)<|lk1 (Ar _ _) h1
 ·show A.units+(Code.builtin "type.__call__" ⟨.ref c::rest,kw⟩).cUnits+20 * n+100<_;rw[show(Code.builtin "type.__call__" ⟨.ref c::rest,kw⟩).cUnits=1 from rfl];lia
theorem Zez{l:List Env}(h:A.frames=some l):(A.under<|.builtin "type.__call__" ⟨.ref c::rest,kw⟩).frames=some l:=by
 show pushEnvs (Code.envs<|.builtin "type.__call__" ⟨.ref c::rest,kw⟩) A.frames=_;rw[show Code.envs (.builtin "type.__call__" ⟨.ref c::rest,kw⟩)=[] from rfl,h];rfl
theorem Zhr(K0:CxOk X)(C:ClsOk X K)(hK:CallM X n){v:Expr}{ap pos:Pos}(has:SEs X n sc as vs)(hlen:vs.length<=20)(hline:(ap.endLine==pos.line)=true)(hap:(sc.hd ||beq m X.P.nAppend)=true)
  (A:Around) (env:Env) (Pv:Pr) (W:Wd) (σ:St) (s:Shared) (Q:Yq) (E:EP) (i:Nat) (l:Addr×Addr) (k:Nat) (fs:List (Nat×V)) (ok:EnvOk X A env Pv n sc) (at_:At X env Pv W σ s) (hl:W.φ i=some l) (hgi:σ.H.get i=some (.inst k fs))
  (h:need (X.P.cls k) λc=>need (lk c.meths m) λf=>wpEs X.P (CW X.P n) E as σ λvs σ2=>callF X.P (CW X.P n) E fz σ2 (.fn f) (.ref i::vs) Q):
  Ew X A env Pv (mcall X env m v ap pos vs l.1) W σ s (VQ X Q) E:=by
 refine Zab h λcl hcl h=>Zab h λf hf hw=>Inst.of C at_.rel hgi hl λc cl' es k' I=>?_;obtain rfl:=Eq.symm<|Sj<|I.cl_.symm.trans hcl
 have hpos:methodCallPos true v env ap pos=pure pos:=by unfold methodCallPos;simp[hline]
 have hh:A.handled=none:=by
  induction e:sc.hd with
  |true=>exact ok.hh e
  |false=>rw[e]at hap;rw[Bz hap,K0.apC _ _ hcl]at hf;exact noS hf
 unfold mcall methodCall;rw[ZdR hlen];refine Yb<|wpAny_holding<|ZlJ K0.inj I hf λa ha=>Yb<|wpAny_of_eq hpos ?_;obtain⟨o,fd,ho,hd⟩:=K0.fnAt _ _ ha;exact callWith_function (o:=o) (fd:=fd)<|ZaC has ok at_ hw λcvs avs W' σ' s' T hv hq=>⟨⟨T.at_.rel.bkeep _ _ ho,hd⟩,ZgK hK T ok.ok.call (.inl hh) ok.stk (cvs:=.ref l.1::cvs) (.cons (.ref<|T.stp.le.ff _ _ hl) hv) ha hq⟩
theorem Zlc(K0:CxOk X)(C:ClsOk X K)(hK:CallM X n){cvs:List Value}{Q:Yq}(ok:AOk2 A n)(hhd:A.handled=none)(hst:A.frames=some Pv.st)(at_:At X env Pv W σ s)(hv:VRs X W cvs avs)(hc:X.clA k=some c)
  (h:callF X.P (CW X.P n) E fz σ (.cls k) avs Q):
  Yw A (call (.ref c) cvs []) (Go X env Pv W σ s<|VQ X Q) (EX X env Pv W σ s E) s:=by
 refine Zab h λcl hcl h=>Zab h λf hf h=>?_;have O:=C.cls k c cl hc hcl;obtain⟨a,ha,hfi,hft⟩:=O.init f hf;have inn:K.In s.heap:=λx o q=>at_.rel.bkeep x o<|C.inn x o q;obtain⟨hh,g,d,t,os⟩:=s;have R:RelH X W σ.H hh:=at_.rel;refine wpAny_call<|make_core (makes_of inn O.mks) (looks_findIn inn hfi) (λself=>bind_fn inn self hft) (.inl rfl) ?_;have k1:∀b o,hh.get? b=some o->((hh.push emptyDict).push<|instObj c hh.objs.size).get? b=some o:=λb o e=>Heap.get?_push_of_some _<|Heap.get?_push_of_some _ e
 have g1:((hh.push emptyDict).push<|instObj c hh.objs.size).get? (hh.objs.size+1)=some (instObj c hh.objs.size):=by
  have:=Heap.get?_push_size (hh.push emptyDict) (o:=instObj c hh.objs.size) rfl;rwa [Heap.size_push]at this
 obtain⟨r,t1⟩:=R.fresh (l:=(hh.objs.size+1,hh.objs.size)) (c:=.inst k []) k1 (Heap.get?_none_of_le<|Us _) (Zae _)
  ⟨c,cl,#[],0,hc,hcl,g1,Heap.get?_push_of_some _<|Heap.get?_push_size _ rfl,.nil,Nx<|lt_succ_self _,λø q=>(List.not_mem_nil q).elim,Zz _⟩
 have T:Tc X W σ.H ⟨hh,g,d,t,os⟩ (W.addφ σ.H.next (hh.objs.size+1,hh.objs.size)) (σ.H.new<|.inst k []) ⟨(hh.push emptyDict).push<|instObj c hh.objs.size,g,d,t,os⟩:=⟨t1,r,⟨rfl,rfl,rfl⟩⟩
 have e:(W.addφ σ.H.next (hh.objs.size+1,hh.objs.size)).φ σ.H.next=some (hh.objs.size+1,hh.objs.size):=Zbe;refine codeAny_mono (hK _ f a (.ref σ.H.next::avs) (.ref (hh.objs.size+1)::cvs) _ _ _ _ _ (Zgv ok) (.inl hhd) ⟨_,Zez hst,λe he=>(at_.fr.frs e he).keep λL o es n x1 x2 x3 x4 x5=>⟨⟨o,es,n,k1 _ _ x2,x3⟩,t1.own L o x2 x4,x5⟩⟩ r (.cons (VR.ref e)<|hv.le t1.le) ha h) λrr s' hr=>?_
 induction rr with
 |ok fl=>
  induction fl with
  |ret v=>
   obtain⟨W',H',av,T',hv',q⟩:=hr;obtain rfl:=vNone q.1
   cases hv'
   exact⟨rfl,W',⟨H',σ.loc⟩,(T.trans T').tf at_,_,VR.ref<|T'.stp.le.ff _ _ e,q.2⟩
  |_=>exact hr.elim
 |error e=>
  obtain⟨W',H',i,l,k',T',he,hl,hg,hf,hE⟩:=hr;exact⟨W',⟨H',σ.loc⟩,i,l,k',(T.trans T').tf at_,he,hl,hg,hf.back λa o q=>⟨o,k1 a o q⟩,hE⟩
theorem MayQ.cls(h:MayQ X A (.cls k)):A.handled=none:=h.elim id λq=>by cases q
theorem ZgE(K0:CxOk X)(C:ClsOk X K)(hK:CallM X n){c:Ck}{f:PE}{pos:Pos}(hf:SE X n sc f (.Name x p))(hq:(sc.hd ||qGlob X.ck f)=true)(has:SEs X n sc as vs)(hc:chkEs c sc as vs=true):SE X n sc (.call fz f as) (.Call (.Name x p) vs [] pos):=by
 intro A env Pv W σ s Q E ok at_ h;rw[Zbb,ZaH hc];refine ZgR K0 hf hq ok at_ h λcf W1 σ1 s1' g at1 hg hq h1'=>Zig K0 hK ok at1 has hg hq h1' λk a e e' ha=>?_;subst e e'
 induction hcl:X.P.cls k with
 |none=>exact ZdF (ZaC has ok at1 h1' λcvs avs W' σ' s' T hv hq'=>Zab (o:=X.P.cls k) hq' λcl e ø=>by rw[hcl]at e;exact noS e)
 |some cl=>exact callWith_of (P:=K.In) (by rw[Za2];rfl) (keeps_K (C.cls _ _ _ ha hcl).kp) (ZaC has ok at1 h1' λcvs avs W' σ' s' T hv hq'=>⟨λx o q=>T.at_.rel.bkeep x o<|C.inn x o q,
   Ym (Zlc K0 C hK ok.ok hq.cls ok.stk T.at_ hv ha hq') (λv s'' q=>Go.from T q) λø ø x=>x.back T⟩)
theorem Zgl{x o:Expr}{a:Str}{l:Nat}:swapsWith x (some<|.Attribute o a p) l env=pure false:=by
 induction x using PySem.Expr.casesOn <;> rfl
theorem Zf8(K0:CxOk X)(C:ClsOk X K){ov:Value}{x:V}{q:St->Prop}(at_:At X env Pv W σ s)(ho:VR X W ov g)(hv:VR X W v x)
  (h:putA X.P g m x σ q) (hq:∀W' σ' s',Tf X env Pv W σ s W' σ' s'->q σ'->Q () s'):Yw A (setAttr ov (X.nm m) v) Q Ex s:=
 ZhA ho h λi l t e hl hi h ø=>Zab h λcl hcl h=>Inst.of C at_.rel hi hl λc cl' es k' I=>by
  subst e;obtain rfl:=Eq.symm<|Sj<|I.cl_.symm.trans hcl;exact ZoG K0.inj I at_.rel hi hl (List.contains_iff_mem.mp h.1) h.2.1 hv λs' T=>hq _ ⟨_,σ.loc⟩ _ (T.tf at_) h.2.2
theorem Zdh(K0:CxOk X)(C:ClsOk X K){v x:Expr}{pos:Pos}(he:SE X n sc e x)(ho:SE X n sc o v):S1 X n sc (.assign (.attr o m) e) (.Assign [.Attribute v (X.nm m) p] x pos):=λA env Pv W σ s Q E ok hf at_ h=>
 plainObj_wpAny_Assign_Attribute (he.post ok at_ h λcv W1 σ1 s1' x T1 hv h1'=>Ym (ho.post ok T1.at_ h1' λov W2 σ2 s2' g T2 hg h2'=>
  Zf8 K0 C (Q:=λø s'=>Go X env Pv W σ s (FQ X Q) PySem.Flow.next s') (Ex:=EX X env Pv W σ s E) T2.at_ hg (hv.le T2.stp.le) h2' λW' σ' s' T hq=>((T1.trans T2).trans T).flow .next hq) (λø ø q=>q) λø ø y=>y.back T1) Zgl
theorem ZjQ{E:Yv}{a b:Value}{x y:V}{k:V->Prop}{Q:Yv}(ha:VR X W a x)(hb:VR X W b y)(h:augK op x y k)
  (hq:∀v z tk,VR X W v z->k z->Q v { s with toks:=tk }):Yw A (inplaceOp (opOf op) a b) Q E s:=by
 induction op with
 |add=>
  refine Zab h λi ei h=>Zab h λj ej h=>ZbG ha ei λt e=>ZbG hb ej λu e'=>?_;subst e e'; exact PyProof.Rows.iadd_int<|hq _ _ _ (.int _ _) h
 |_=>exact h.elim
theorem Zfe(K0:CxOk X){x:Expr}{pos:Pos}(he:SE X n sc e x)(hk:kStore sc (X.nm i)=true)(hl:kLoc sc (X.nm i)=true)(hd:nDbg (X.nm i)=true):S1 X n sc (.augLoc i op e) (.AugAssign (.Name (X.nm i) p) (opOf op) x pos):=λA env Pv W σ s Q E ok hf at_ h=>
 Zab h λx ev h1'=>wpAny_AugAssign_Name (Zea ok at_ hl hd ev λa hx=>he.post ok at_ h1' λb W2 σ2 s2' y T2 hy h2'=>
  ZjQ (hx.le T2.stp.le) hy h2' λv z tk hv hq=>Zcb K0 ok hf (T2.at_.toks (tk:=tk)) hk hv λs'' T'=>((T2.trans<|T2.at_.tf (tk:=tk)).trans T').flow .next hq)
theorem ZeM(K0:CxOk X)(C:ClsOk X K){v x:Expr}{pos:Pos}(he:SE X n sc e x)(ho:SE X n sc o v):S1 X n sc (.augAttr o m op e) (.AugAssign (.Attribute v (X.nm m) p) (opOf op) x pos):=λA env Pv W σ s Q E ok hf at_ h=>
 wpAny_AugAssign_AttributeAny (ho.post ok at_ h λov W1 σ1 s1' g T1 hg h1'=>ZhA hg h1' λi l t e hl hi h1' eg=>Zab h1' λx hx h1'=>Inst.of C T1.at_.rel hi hl λc cl es k' I=>by
  subst e;refine Zkn K0.inj I hx λa ha=>?_;have T2:=T1.trans<|T1.at_.tf (tk:=s1'.toks+1)
  refine Ym (he.post ok T2.at_ h1' λb W3 σ3 s3' y T3 hy h₃=>ZjQ (Q:=λv s'=>Yw A (setAttr (.ref l.1) (X.nm m) v) (λø s'=>Go X env Pv W σ s (FQ X Q) PySem.Flow.next s') (EX X env Pv W σ s E) s') (ha.le T3.stp.le) hy h₃ λv z tk hv hq=>
   Zf8 K0 C (T3.at_.toks (tk:=tk)) (hg.le T3.stp.le) hv hq λW' σ' s' T hq=>(((T2.trans T3).trans<|T3.at_.tf (tk:=tk)).trans T).flow .next hq) (λø ø q=>q) λø ø y=>y.back T2)
theorem vCls{v:V}(h:aCls v=some k):v=.cls k:=by induction v using V.casesOn <;> first |(obtain rfl:=Eq.symm<|Sj h;rfl) |exact noS h
theorem Zko{cv:Value}(h:VR X W cv (.cls k)):∃c,cv=.ref c/\X.clA k=some c:=by cases h with |cls q=>exact⟨_,rfl,q⟩
theorem ZjT(h:chkG X.ck sc i y=true)(g:y=X.nm i->kGlob sc y=true->nDbg y=true->G):G:=Zah h λa b c=>g (Od a) b c
theorem Zmi{c:C}:(H.new c).get H.next=some c:=Hp.get_new.trans<|if_pos rfl
theorem Zhm{K:CT}{Q:St->Prop}(h:wpE P K E e σ λø σ1=>Q σ1):wpE P K E e σ λv σ1=>([v]:List V).length=1/\Q σ1:=by
 have:(λ(v:V)(σ1:St)=>([v]:List V).length=1/\Q σ1)=λø σ1=>Q σ1:=by funext v σ1;exact propext ⟨λh=>h.2,λh=>⟨rfl,h⟩⟩
 rw[this];exact h
theorem ZjE{K:CT}{Q:St->Prop}(h:wpE P K E e σ λø σ1=>Q σ1):wpEs P K E (.cons e .nil) σ λavs σ2=>avs.length=1/\Q σ2:=Zhm h
theorem Zhj(K0:CxOk X){x:Expr}{cpos pos:Pos}(hy:chkG X.ck sc i y=true)(he:SE X n sc e x)(hc:chkE X.ck sc e x=true)(hhd:sc.hd=true):S1 X n sc (.raise i e) (.Raise (some<|.Call (.Name y np) [x] [] cpos) none pos):=λA env Pv W σ s Q E ok hf at_ h=>
 Zab h λv hv h=>Zab h λk ek h=>by
  obtain rfl:=vCls ek;obtain⟨hx,h⟩:=h;have bp:=ZaH (env:=env) (pos:=cpos) (p:=.cons e .nil) (es:=[x]) (show(chkE X.ck sc e x&&true)=true by rw[hc];rfl);refine ZjT hy λg1 g2 g3=>?_;have hcl:∀cv,(∀W,VR X W cv<|.cls k)->∃c,cv=.ref c/\X.clA k=some c:=λcv q=>Zko<|q W
  obtain⟨c,hck⟩:∃c,X.clA k=some c:=by induction K0.glob i _ hv with
   |main cv mg ng h r=>exact(hcl cv r).elim λc q=>⟨c,q.2⟩
   |bi cv mg mb ng nb h hb r=>exact(hcl cv r).elim λc q=>⟨c,q.2⟩
  obtain⟨bm,N,nm,q,bs,hdct,sn,sub,ab,col,dd,k0,k1,k2,k3,k5,mN,hC,hN,hni,hT,hsub⟩:=K0.exc k c hck hx;refine wpAny_Raise_call_subT (nm:=nm) (q:=q) (C:=c) (N:=N) (bs:=bs) (hdct:=hdct) (sn:=sn) (sub:=sub) (ab:=ab) (col:=col) (dd:=dd) (k0:=k0) (k1:=k1) (k2:=k2) (k3:=k3) (k5:=k5) PySem.F.excBase_ValueError (hT.hasType<|by decide) (ok.hh hhd) (by rw[bp];exact Za2) hni<|Zc7 K0 ok at_ g1 g2 g3 hv λcv hcv=>?_;obtain⟨c',rfl,hc'⟩:=hcl cv hcv;obtain rfl:=Eq.symm<|Sj<|hc'.symm.trans hck;refine⟨rfl,?_⟩;rw[bp];refine Ym (ZaC (E:=noE) (Zc2 he ZdK) ok at_ (Qv:=λavs σ2=>avs.length=1/\E σ2.H.next (σ2.setH<|σ2.H.new<|.exc k)) (ZjE h) (Q:=λa s2'=>Go X env Pv W σ s (λ(a:Args) _ σ2 _=>a.kw=[]/\a.pos.length=1/\E σ2.H.next (σ2.setH<|σ2.H.new<|.exc k)) a s2') λcvs avs W' σ' s' T hvs hq=>⟨W',σ',T,rfl,hvs.length.trans hq.1,hq.2⟩) (λa s2' qq=>qq.e λW2 σ2 T2 qq=>?_) λø ø z=>z.no.elim;have kb:=T2.at_.rel.bkeep;refine⟨qq.1,by rw[qq.2.1,sizeLine_eq];decide,kb _ _ hC,hN.keeps kb,hT.keeps kb,λh' e hm=>?_⟩;obtain⟨t,m1,m2,m3⟩:=hm.there;obtain⟨r,st⟩:=T2.at_.rel.fresh (l:=(e,e)) (c:=.exc k) hm.keeps hm.new hm.new ⟨c,_,_,hck,hx,m1,rfl,rfl,rfl⟩
  have Tc3:Tc X W2 σ2.H s2' (W2.addφ σ2.H.next (e,e)) (σ2.H.new<|.exc k) { s2' with heap:=h' }:=⟨st,r,⟨rfl,rfl,rfl⟩⟩
  exact⟨_,⟨_,σ2.loc⟩,σ2.H.next,(e,e),k,T2.trans<|Tc3.tf T2.at_,rfl,Zbe,Zmi,⟨_,_,_,m1,rfl,rfl,.inl rfl⟩,qq.2.2⟩
theorem Zjm{E:Yv}{c':Addr}{Q:Bool->Shared->Prop}(K0:CxOk X)(R:RelH X W H s.heap)(hi:H.get i=some (.exc j))(hl:W.φ i=some l)(hk:X.P.exc k=true)(hc':X.clA k=some c')(hs:X.P.sub j k=true)(h:Q true s):
  Yw A (excMatches (.ref l.1)<|.ref c') Q E s:=by
 obtain⟨c,o,vs,hc,hj,he,hcls,hd,_⟩:=R.at_ hi hl;obtain⟨bm,N,nm,q,bs,hdct,sn,sub,ab,col,dd,k0,k1,k2,k3,k5,mN,hC,hN,hni,hT,hsub⟩:=K0.exc j c hc hj;obtain⟨bm',N',nm',q',bs',hdct',sn',sub',ab',col',dd',k0',k1',k2',k3',k5',mN',hC',hN',hni',hT',hsub'⟩:=K0.exc k c' hc' hk;have gC:=R.bkeep _ _ hC;have gC':=R.bkeep _ _ hC'
 have hcB:(Value.ref c'::bm').contains (.type "BaseException")=true:=by rw[List.contains_cons,hT'.hasType (X:="BaseException") (b:=true)<|by decide,Bool.or_true]
 have hcC:(Value.ref c::bm).contains (.ref c')=true:=by rw[hsub k c' hc',hs]
 have f:=tc_notTuple;obtain⟨hh,g,d,t,os⟩:=s;unfold excMatches
 repeat (first |(with_reducible refine wpAny_loadPart_at he ?_;rw[hcls]) |with_reducible refine wpAny_loadPart_at gC' ?_ |(with_reducible refine wpAny_isSubtype_exc gC' ?_;rw[hcB]) |(with_reducible refine wpAny_isSubtype_exc gC ?_;rw[hcC]) |wp_step)
 exact h
theorem FrR.unbind{h':Heap}{u:Option Value}{m:Str->Option Value}(F:FrR X W H h env Pv loc)(hn:h.Ns env.locals m)
  (hm:∀j v,loc j=some v->env.kindOf (X.nm j)=some .local->MmR X W m j v) (hinj:∀j,X.nm j=X.nm i->j=i)
  (hk:env.kindOf (X.nm i)=some .local) (hn':h'.Ns env.locals (λx=>if x=X.nm i then u else m x)) (hs:Heap.SameBut env.locals h h'):FrR X W H h' env Pv (unb loc i):=by
 have key:∀j v,unb loc i j=some v->j≠i/\loc j=some v:=λj v e=>by
  have e':(if j=i then none else loc j)=some v:=e
  by_cases hj:j=i
  ·rw[if_pos hj]at e'; exact noS e'
  ·rw[if_neg hj]at e'; exact⟨hj,e'⟩
 refine⟨⟨_,hn',λj v e k=>?_⟩,λj v e k=>?_,λx ef e=>?_,F.cellEq,λx c e=>?_,F.pvL,F.priv,λa p=>?_,λe he=>(F.frs e he).keep λL o es n a b c d f=>⟨?_,d,f⟩,F.frc⟩
 ·obtain⟨cu,q,r⟩:=hm j v (key j v e).2 k;exact⟨cu,by rw[if_neg λz=>(key j v e).1<|hinj j z];exact q,r⟩
 ·obtain⟨c,cu,q,r,t⟩:=F.cells j v (key j v e).2 k;exact⟨c,cu,q,r.sameBut hs (F.cellNs _ _ q).1,t⟩
 ·obtain⟨c,u,q,r,t⟩:=F.hasCell x ef e;exact⟨c,u,q,r.sameBut hs (F.cellNs _ _ q).1,t⟩
 ·obtain⟨a,b,o,q⟩:=F.cellNs x c e;exact⟨a,b,o,(hs.2 c a).trans q⟩
 ·by_cases ha:a=env.locals
  ·subst ha;obtain⟨o,_,_,ho,_⟩:=hn'; exact⟨o,ho⟩
  ·obtain⟨o,q⟩:=F.pvAt a p;exact⟨o,(hs.2 a ha).trans q⟩
 ·by_cases ha:L=env.locals
  ·subst ha;obtain⟨o',es',n',ho',hd',_⟩:=hn'; exact⟨o',es',n',ho',hd'⟩
  ·exact⟨o,es,n,(hs.2 L ha).trans b,c⟩
theorem Zh8{v:V}{pos:Pos}(K0:CxOk X)(ok:EnvOk X A env Pv n sc)(at_:At X env Pv W σ s)(hk:env.kindOf (X.nm i)=some .local)(hv:σ.loc i=some v)
  (h:∀s',Tf X env Pv W σ s W ⟨σ.H,unb σ.loc i⟩ s'->Q () s'):Yw A (unbindBehindTheSuite env (X.nm i) pos) Q Ex s:=by
 obtain⟨m,hn,hm⟩:=at_.fr.ns;obtain⟨cv,hcv,_⟩:=hm i v hv hk;unfold unbindBehindTheSuite;exact wpAny_onRaise<|wpAny_unbindName_local hk hn hcv (ZnB ok) λh' u hn' hs=>h _<|Zd0 at_ at_.fr.pvL hs (hn'.elim λo q=>⟨o,q.elim λø q=>q.elim λø q=>q.1⟩)<|at_.fr.unbind hn hm (λj q=>K0.inj _ _ q) hk hn' hs
theorem ZlA{a:Nat}{v:V}:(⟨(σ.put a v).H,unb (σ.put a v).loc a⟩:St)=⟨σ.H,unb σ.loc a⟩:=by
 show(⟨σ.H,unb (upd σ.loc a v) a⟩:St)=⟨σ.H,unb σ.loc a⟩
 congr 1
 funext z
 show(if z=a then none else (if z=a then some v else σ.loc z))=(if z=a then none else σ.loc z)
 by_cases hz:z=a
 ·rw[if_pos hz,if_pos hz]
 ·rw[if_neg hz,if_neg hz,if_neg hz]
theorem Zh1(K0:CxOk X){W1:Wd}{σ1:St}{s2':Shared}{Q:Yf}{h:PSs}{as:Option Nat}{nm:Option Str}(hh:SS X n ⟨sc.sc,false⟩ h (b0'::hs))(has:asOk X.ck sc as nm=true)(ok:EnvOk X A env Pv n sc)(hf:env.func≠none)(hl:W1.φ j=some l)
  (again:∀(Q':Unit->Shared->Prop)(E':Yv),(∀s3',Tf X env Pv W σ s W1 σ1 s3'->Q' () s3')->Yw (A.mark<|some<|.ref l.1) (setFlight (.ref l.1) none) Q' E' s2')
  (hw:wpSs X.P (CW X.P n) h (asPut as j σ1) (λfl σ2=>Q fl<|asUnb as σ2) noE) (hR:∀f s',(match nm with |none=>Go X env Pv W σ s (FQ X Q) f s' |some n=>Yw A (do bindName env n Value.none;unbindBehindTheSuite env n hpos) (λø s3'=>Go X env Pv W σ s (FQ X Q) f s3') (EX X env Pv W σ s E) s')->R (.ok f) s'):
  codeAny (model X.prog X.w) (A.mark<|some<|.ref l.1) (.handlers (.ref l.1) [.ExceptHandler none nm (b0'::hs) hpos] env) R s2':=by
 have okH:EnvOk X (A.mark<|some<|.ref l.1) env Pv n ⟨sc.sc,false⟩:=⟨ok.stk,ok.top,⟨ok.ok.depth,ok.ok.units⟩,(λz=>(Bool.false_ne_true z).elim),ok.kind,ok.glob,ok.bi,ok.names,ok.cl⟩
 induction as with
 |none=>
  obtain rfl:=(ZhJ has:nm=none)
  exact codeAny_handlers_suite<|again _ _ λs3' T3=>Ym (hh _ env Pv W1 σ1 s3' _ noE okH hf T3.at_ hw) (λf s4' q=>hR f s4'<|Go.from T3 q) λø ø z=>z.no.elim
 |some a=>
  refine ZaL has λx hx' has=>Zao has λe1 e2=>?_
  obtain rfl:=(hx':nm=some x)
  obtain rfl:=(Od e1:x=X.nm a)
  have hkl:=ZcH ok e2;refine codeAny_handlers_suite_as<|again _ _ λs3' T3=>ZaZ K0 okH T3.at_ hkl (VR.ref hl) λs4' T4=>Ym (hh _ env Pv W1 _ s4' _ noE okH hf T4.at_ hw) (λf s5 q=>q.e λW5 σ5 T5 q=>q.e λaf hfr q=>?_) λø ø z=>z.no.elim;refine hR f s5<|Yb<|wpAny_bindName<|ZaZ K0 ok T5.at_ hkl .none λs6 T6=>?_;refine Zh8 K0 ok T6.at_ hkl (v:=.none) (if_pos rfl) λs7 T7=>?_;rw[ZlA]at T7;exact((((T3.trans T4).trans T5).trans T6).trans T7).flow hfr q
theorem Zmo(K0:CxOk X){h:PSs}{as:Option Nat}{b:List Stmt}{nm:Option Str}{pos:Pos}(hy:chkG X.ck sc i y=true)(hb:SS X n sc body b)(hh:SS X n ⟨sc.sc,false⟩ h (b0'::hs))(has:asOk X.ck sc as nm=true)(hhd:sc.hd=true):
  S1 X n sc (.try_ body i as h) (.Try b [.ExceptHandler (some<|.Name y np) nm (b0'::hs) hpos] [] [] pos):=λA env Pv W σ s Q E ok hf at_ hw=>
 Zab hw λv hv hw=>Zab hw λk ek hw=>by
  obtain rfl:=vCls ek;refine wpAny_Try_except<|Ym (hb A env Pv W σ s Q _ ok hf at_ hw) (λfl s1' qq=>qq.e λW1 σ1 T qq=>qq.e λaf hfr q=>?_) λe s1' x=>?_
  ·cases hfr with
   |next=>exact wpAny_execs_nil<|T.flow .next q
   |brk=>exact T.flow .brk q
   |cont=>exact T.flow .cont q
   |ret hr=>exact T.flow (.ret hr) q
  ·obtain⟨W1,σ1,j,l,m,T,rfl,hl,hg,fl,hE⟩:=x;rw[hg]at hE;obtain⟨hk,hsb,hw⟩:=hE;obtain⟨c,o,vs,hc,hx,ho,hcls,hdd,_⟩:=T.at_.rel.at_ hg hl
   have own_e:Own W1 σ1.H l.1:=⟨j,_,l,hg,hl,.inl rfl⟩
   obtain⟨hfrm,outer,hst⟩:=ok.top hf
   obtain⟨L,hL⟩:∃L,env.frame=some L:=by induction q:env.frame with |none=>exact absurd q hfrm |some L=>exact⟨L,rfl⟩
   have hc0:∀x c,env.cells.lookup x=some c->∃o,s.heap.get? c=some o:=λx c q=>(at_.fr.cellNs x c q).2.2
   have post:∀{s2':Shared}{h1':Heap},Tf X env Pv W σ s W1 σ1 s2'->Aft W1 σ1.H s.heap s2'.heap h1' l.1 (.ref c) Pv.st->Tf X env Pv W σ s W1 σ1 { s2' with heap:=h1' }:=λT a=>⟨a.stp T.stp own_e,⟨a.rel T.at_.rel hg hl rfl hc rfl T.at_.fr.frs,a.frr T.at_.fr at_.fr.pvAt hc0 own_e⟩,⟨T.rest.gens,T.rest.drawn,T.rest.os⟩⟩
   refine Zhq (h₀:=s.heap) (cls:=.ref c) T.at_.rel T.stp.there (by rw[ok.stk,hst]) hL (hst▸T.at_.fr.frs) fl (λoe q=>by rw[ho]at q;obtain rfl:=Sj q;exact hcls) λh1' a1'=>?_;rw[← hst]at a1';have T2:=post T a1'
   have okH:EnvOk X (A.mark<|some<|.ref l.1) env Pv n ⟨sc.sc,false⟩:=⟨ok.stk,ok.top,⟨ok.ok.depth,ok.ok.units⟩,(λz=>(Bool.false_ne_true z).elim),ok.kind,ok.glob,ok.bi,ok.names,ok.cl⟩
   refine ZjT hy λg1 g2 g3=>wpAny_handleBy_cons (codeAny_handlers_test<|Zc7 K0 okH T2.at_ g1 g2 g3 hv λcv hcv=>?_) (by intro q;injection q);obtain⟨c',rfl,hc'⟩:=Zko<|hcv W1;refine Zjm K0 T2.at_.rel hg hl hk hc' hsb<|Zh1 K0 hh has ok hf hl (λQ' E' hQ'=>?_) hw λf s' q=>q;refine Zjc (s:={ s1' with heap:=h1' }) (h₀:=s.heap) (cls:=.ref c) T2.at_.rel T2.stp.there T2.at_.fr.frs a1'.fly (λoe q=>?_) λh2' a2'=>hQ' _<|post T2 a2';obtain⟨oe',vs',q1,q2,_⟩:=a1'.exc;have q:h1'.get? l.1=some oe:=q;rw[q1]at q;obtain rfl:=Eq.symm<|Sj q;exact q2
theorem objs1(K0:CxOk X)(C:ClsOk X K)(hK:CallM X n):Objs X n where
 call:=λsc fz f as x p vs pos hf hq has hc=>ZgE K0 C hK hf hq has hc
 meth:=λsc fz o m as v ap pos vs ho has hc hns hlen hline hap=>ZjD K0 ho has hc hns hlen hline<|Zhr K0 C hK has hlen hline hap
 attr:=λsc e m v pos he hns=>Zjd K0 C he hns
 asgA:=λsc o e m v x p pos he ho=>Zdh K0 C he ho
 augL:=λsc i op e x p pos he hk hl hd=>Zfe K0 he hk hl hd
 augA:=λsc o e m op v x p pos he ho=>ZeM K0 C he ho
 raise:=λsc i e y x np cpos pos hy he hc hhd=>Zhj K0 hy he hc hhd
 try_:=λsc body i as h b b0' hb y np nm hpos pos hy hs hh has hhd=>Zmo K0 hy hs hh has hhd
theorem callM{X':Cx}{K':Frag}(h:CxOk X')(c:ClsOk X' K')(m:Nat):CallM X' m:=by
 induction m with
 |zero=>exact λA k a as vs W H s Q E hA hq hst R hv ha h=>h.elim
 |succ m ih=>
  refine Classical.byContradiction λnb=>?_;have z:Bad XKN:=@Classical.epsilon_spec _ Bad ⟨(X',K',m),⟨h,c,ih,nb⟩⟩;obtain⟨ok,cl,ih',nh⟩:=z;exact nh<|Zht ok<|objs1 ok cl ih'
noncomputable def plainArgs(p:Arguments):Bool:=p.posonlyargs.isEmpty&&p.vararg.isNone&&p.kwonlyargs.isEmpty&&p.kwarg.isNone
theorem Zgy{ns:List Str}:∀{vs:List Value},ns.length=vs.length->∀n∈ns,∃v,(ns.zip vs).lookup n=some v:=by
 induction ns with
 |nil=>exact λø n h=>(nomatch h)
 |cons a r ih=>
  intro vs hl n h
  induction vs using List.casesOn with
  |nil=>injection hl
  |cons v vs=>
   rw[List.zip_cons_cons]
   induction hb:n==a with
   |true=>exact⟨v,ZaY hb⟩
   |false=>
    rw[ZbH hb]
    rcases Mc h with q |q
    ·subst q;rw[beq_self_eq_true]at hb;exact noF hb
    ·exact ih (Nat.succ.inj hl) n q
theorem Zes{ns:List Str}:∀{vs:List Value},ns.length=vs.length->∀(f:Str->Option Value),(∀n v,(n,v)∈ns.zip vs->f n=some v)->ns.filterMap (λn=>(f n).map (n,·))=ns.zip vs:=by
 induction ns with
 |nil=>exact λø ø ø=>rfl
 |cons a r ih=>
  intro vs hl f hf
  induction vs using List.casesOn with
  |nil=>injection hl
  |cons v vs=>
   rw[List.filterMap_cons,hf a v<|.head _];exact congrArg ((a,v)::·)<|ih (Nat.succ.inj hl) f λn w h=>hf n w<|.tail _ h
theorem ZeL{ns:List Str}:∀{vs:List Value},ns.length=vs.length->ns.Nodup->∀n v,(n,v)∈ns.zip vs->(ns.zip vs).lookup n=some v:=by
 induction ns with
 |nil=>exact λø ø n v h=>(nomatch h)
 |cons a r ih=>
  intro vs hl hn n v h
  induction vs using List.casesOn with
  |nil=>injection hl
  |cons w vs=>
   rw[List.zip_cons_cons]at h ⊢
   rcases Mc h with q |q
   ·cases q;exact ZaY<|beq_self_eq_true _
   ·have ne:(n==a)=false:=by
     induction hb:n==a with
     |false=>rfl
     |true=>exact absurd (eq_of_beq hb▸(List.of_mem_zip q).1) (nodup_cons.mp hn).1
    rw[ZbH ne];exact ih (Nat.succ.inj hl) (nodup_cons.mp hn).2 n v q
theorem Zgi{fd:FuncData}{vs:List Value}(hp:plainArgs fd.params=true)(hd:fd.defaults=.none)(hn:(fd.params.args.map (·.arg)).Nodup)(hl:(fd.params.args.map (·.arg)).length=vs.length):
  bindArgs fd ⟨vs,[]⟩=pure ((fd.params.args.map (·.arg)).zip vs):=by
 obtain⟨name,qual,params,body,scope,globals,closure,defaults,kwdefaults,doc,pm,ann,code,ct,bi⟩:=fd;obtain⟨po,as,va,ko,kd,kw,df⟩:=params;obtain rfl:=hd
 induction po using List.casesOn with |cons=>exact noT hp |nil=>
 induction va with |some=>exact noT hp |none=>
 induction ko using List.casesOn with |cons=>exact noT hp |nil=>
 induction kw with |some=>exact noT hp |none=>
 generalize hns:as.map (·.arg)=ns at hn hl
 have hmiss:(ns.filter λn=>((ns.zip vs).lookup n).isNone)=[]:=List.filter_eq_nil_iff.mpr λn hm=>(Zgy (vs:=vs) hl n hm).elim λv e=>by rw[e];exact Bool.false_ne_true
 have hbinds:=Zes hl (λn=>(ns.zip vs).lookup n) λn v h=>ZeL hl hn n v h
 have htake:ns.take vs.length=ns:=by rw[← hl];exact List.take_length
 have hlt:¬ vs.length > vs.length:=Nat.lt_irrefl _;refine Eq.trans (if_neg (c:=(decide (vs.length > (as.map (·.arg)).length)&&Option.isNone (none:Option Arg))=true) (by rw[hns,hl,Df hlt];exact Bool.false_ne_true)) ?_;have hd:∀k,List.drop k ((none:Option (Array Value)).getD #[]).toList=[]:=λk=>List.drop_nil;rw[hd];refine Eq.trans (if_neg (c:=(!(((as.map (·.arg)).take ((as.map (·.arg)).length - 0)).filter λn=>(((as.map (·.arg)).zip vs).lookup n).isNone).isEmpty)=true) (by rw[hns,Nat.sub_zero,hl,htake,hmiss];exact Bool.false_ne_true)) ?_;rw[List.zip_nil_right];refine Eq.trans (b:=pure (List.filterMap (λn=>Option.map (λx=>(n,x)) (List.lookup n ((as.map (·.arg)).zip vs))) (as.map (·.arg)++[]))) rfl ?_;rw[hns,append_nil,hbinds]
theorem Zl2{l:List (Nat×Str)}(hn:(l.map (·.2)).Nodup){s:Str}(h:(i,s)∈l)(h':(j,s)∈l):i=j:=by
 induction l with
 |nil=>cases h
 |cons p r ih=>
  rw[map_cons,nodup_cons]at hn
  rcases Mc h with q |q
  ·rcases Mc h' with q' |q'
   ·exact congrArg (·.1)<|q.trans q'.symm
   ·subst q;exact absurd (mem_map.mpr ⟨_,q',rfl⟩) hn.1
  ·rcases Mc h' with q' |q'
   ·subst q'; exact absurd (mem_map.mpr ⟨_,q,rfl⟩) hn.1
   ·exact ih hn.2 q q'
def Tb.nm(t:Tb)(i:Nat):Str:=(lk t.nms i).getD ⟨Array.replicate (i+1) 0⟩
def Tb.cname(t:Tb)(k:Nat):Option Str:=match lk t.clss k with
 |some y=>some y.1
 |none=>lk t.excs k
noncomputable def fst0(s:Str):Option Nat:=s.cps[0]?
def goodNm(s:Str):Bool:=on (fst0 s) λc=>!beq c 0&&!(s==(".0":Str))
noncomputable def distinct:List Str->Bool
 | []=>true
 |x::r=>!(r.contains x)&&distinct r
theorem ZbW{l:List Str}(h:distinct l=true):l.Nodup:=by
 induction l with
 |nil=>exact List.nodup_nil
 |cons x r ih=>exact Zao h λa b=>nodup_cons.mpr ⟨λm=>(by rw[List.contains_iff_mem.mpr m]at a;exact noT a),ih b⟩
theorem ZdY{s:Str}(h:lk t.nms i=some s):t.nm i=s:=by unfold Tb.nm;rw[h];rfl
theorem Zej(h:lk t.nms i=none):t.nm i=Str.mk (Array.replicate (i+1) 0):=by unfold Tb.nm;rw[h];rfl
theorem ZfB(k:Nat):fst0 (Str.mk<|Array.replicate (k+1) 0)=some 0:=by
 show(Array.replicate (k+1) 0)[0]?=some 0;rw[Array.getElem?_replicate,if_pos<|Nat.succ_pos k]
theorem ZhK{s:Str}(h:goodNm s=true):fst0 s≠some 0/\s≠(".0":Str):=ZaL h λc e h=>Zao h λa b=>⟨λz=>(by rw[e]at z;obtain rfl:=Sj z;exact noT a),λz=>(by subst z;exact noT b)⟩
theorem Zm2(hg:(t.nms.map (·.2)).all goodNm=true)(hd:distinct (t.nms.map (·.2))=true):∀i j,t.nm i=t.nm j->i=j:=by
 have first:∀i s,lk t.nms i=some s->∀k:Nat,s≠Str.mk (Array.replicate (k+1) 0):=λi s e k q=>
  (ZhK<|Al hg s<|mem_map.mpr ⟨_,ZbK e,rfl⟩).1 (by rw[q];exact ZfB k)
 intro i j h
 induction hi:lk t.nms i with
 |some a=>
  rw[ZdY hi]at h
  induction hj:lk t.nms j with
  |some b=>
   rw[ZdY hj]at h;subst h;exact Zl2 (ZbW hd) (ZbK hi)<|ZbK hj
  |none=>rw[Zej hj]at h;exact absurd h<|first i a hi j
 |none=>
  rw[Zej hi]at h
  induction hj:lk t.nms j with
  |some b=>rw[ZdY hj]at h;exact absurd h.symm<|first j b hj i
  |none=>
   rw[Zej hj]at h;have:=congrArg (λs=>s.cps.size) h;rw[Array.size_replicate,Array.size_replicate]at this;exact Nat.succ.inj this
theorem ZmZ(hg:(t.nms.map (·.2)).all goodNm=true)(i:Nat):t.nm i≠(".0":Str):=by
 induction hi:lk t.nms i with
 |some a=>rw[ZdY hi];exact(ZhK<|Al hg a<|mem_map.mpr ⟨_,ZbK hi,rfl⟩).2
 |none=>
  rw[Zej hi];intro q;have h0:=ZfB i;rw[q]at h0
  revert h0
  decide
noncomputable def usedNames(p:Program)(loose:List Str):List Str:=startupNames++loose++(recsOf p).map (·.name)++(litsOf p).map (·.1)++(clssOf p loose).map (·.name)
def chkNms(t:Tb):Bool:=(t.nms.map (·.2)).all goodNm&&distinct (t.nms.map (·.2))&&decide (t.nm t.nAppend=Str.ofString "append")&&decide (t.nm t.nPop=Str.ofString "pop")&&decide (t.nm t.nExtend=Str.ofString "extend")&&(decide (t.nm t.nGet=Str.ofString "get")&&decide (t.nm t.nSetdefault=Str.ofString "setdefault"))
noncomputable def adr:Value->Option Addr
 |.ref a=>some a
 |_=>none
theorem Zo4(h:adr v=some a):v=.ref a:=by induction v <;> first |(obtain rfl:=Eq.symm<|Sj h;rfl) |exact noS h
def rf(o:Option (Option Value)):Option Addr:=match o with
 |some (some v)=>adr v
 |_=>none
theorem ZoR{o:Option (Option Value)}(h:rf o=some a):o=some (some<|.ref a):=by
 induction o with
 |none=>exact noS h
 |some o=>induction o with
  |none=>exact noS h
  |some v=>rw[Zo4 h]
def topA(K:Frag)(x:Str):Option Addr:=rf<|nsIn K mainGlobals x
def inCls(K:Frag)(a:Addr)(x:Str):Option Addr:=rf<|findIn K (.ref a) x
noncomputable def thn{α β:Type}(o:Option α)(f:α->Option β):Option β:=match o with
 |some a=>f a
 |none=>none
theorem Zfj{α β:Type}{o:Option α}{f:α->Option β}{b:β}(h:thn o f=some b)(g:∀a,o=some a->f a=some b->G):G:=by
 induction o with
 |none=>exact noS h
 |some a=>exact g a rfl h
theorem ZlT{α β:Type}{o:Option α}{a:α}{f:α->Option β}{b:Option β}(e:o=some a)(h:f a=b):thn o f=b:=by subst e;exact h
def srcA(K:Frag):Src->Option Addr
 |.g x=>topA K x
 |.m c x=>thn (topA K c) λa=>inCls K a x
def Tb.fnA(t:Tb)(K:Frag)(k:Nat):Option Addr:=thn (lk t.fns k) λy=>srcA K y.1
def Tb.clA(t:Tb)(K:Frag)(k:Nat):Option Addr:=thn (t.cname k)<|topA K
def mkCx(p:Program)(w:World)(t:Tb)(K:Frag)(h:Heap):Cx where
 prog:=p
 w:=w
 P:=t.P
 nm:=t.nm
 fnA:=t.fnA K
 clA:=t.clA K
 hb:=h
 quiet:=hasN t.quiet
 qg:=hasN t.qg
def Tb.ck(t:Tb):Ck:=⟨t.nm,hasN t.qg,t.nAppend⟩
noncomputable def kFn(sc:Scope):Bool:=match sc.kind with
 |.function=>true
 |_=>false
noncomputable def isNoneV:Value->Bool
 |.none=>true
 |_=>false
noncomputable def fncD:Data->Option FuncData
 |.func fd=>some fd
 |_=>none
noncomputable def stmB:FuncBody->Option (List Stmt)
 |.stmts b=>some b
 |_=>none
def fdOf(K:Frag)(a:Addr):Option (FuncData×List Stmt):=thn (K.lookup a) λo=>thn (fncD o.data) λfd=>thn (stmB fd.body) λb=>some (fd,b)
def chkFd(t:Tb)(K:Frag)(q:Bool)(f:Fn)(y:FuncData×List Stmt):Bool:=
 (plainArgs y.1.params&&decide (y.1.params.args.map (·.arg)=f.params.map t.nm)&&distinct (y.1.params.args.map (·.arg))&&kFn y.1.scope&&!y.1.scope.isCoroutine&&!y.1.scope.isGenerator)&&
 (f.params.all (λi=>kStore ⟨y.1.scope,true⟩<|t.nm i)&&y.1.scope.names.all (λx=>!(x.2==NameKind.free))&&y.1.closure.isEmpty&&decide (y.1.globals=mainGlobals)&&decide (y.1.builtins=builtinsNs)&&isNoneV y.1.defaults)&&
 codeIn K y.1.code y.1.qualname&&chkSs t.ck ⟨y.1.scope,true⟩ f.body y.2&&(!q ||chkSs t.ck ⟨y.1.scope,false⟩ f.body y.2)
def chkFn(t:Tb)(K:Frag)(e:Nat×Src×Fn):Bool:=on (srcA K e.2.1) λa=>on (fdOf K a) λy=>chkFd t K (hasN t.quiet e.1) e.2.2 y
def chkMeth(t:Tb)(K:Frag)(c:Addr)(x:Str)(f:Nat):Bool:=on (inCls K c x) λa=>decide (t.fnA K f=some a)&&decide (typeIn K (.ref a)=some (.type "function"))
def chkIni(t:Tb)(K:Frag)(c:Addr):Option Nat->Bool
 |some f=>chkMeth t K c "__init__" f
 |none=>true
def chkCl(t:Tb)(K:Frag)(e:Nat×Str×Cl):Bool:=on (topA K e.2.1) λc=>
 (makesIn K c&&decide (findIn K (.ref c) "__getattribute__"=some (some<|.builtin "object.__getattribute__"))&&decide (findIn K (.ref c) "__getattr__"=some none)&&decide (findIn K (.ref c) "__setattr__"=some (some<|.builtin "object.__setattr__"))&&plainOver K c&&hasDictIn K c)&&
 keepIn K (.ref c)&&chkIni t K c e.2.2.init&&e.2.2.meths.all (λy=>chkMeth t K c (t.nm y.1) y.2&&!(e.2.2.attrs.contains y.1))&&e.2.2.attrs.all (λn=>decide<|findIn K (.ref c) (t.nm n)=some none)&&!isSm (lk e.2.2.meths t.nAppend)
noncomputable def clsD:Data->Option ClassData
 |.cls cd=>some cd
 |_=>none
def lineOf(K:Frag)(c:Addr):Option (List Value):=thn (K.lookup c) λo=>thn (clsD o.data) λcd=>some cd.mro
def chkEx(t:Tb)(K:Frag)(e:Nat×Str):Bool:=on (topA K e.2) λc=>excIn K c excB "ValueError.__new__"&&on (lineOf K c) λl=>(t.clss.map (λy=>(y.1,y.2.1))++t.excs).all λy=>on (topA K y.2) λck=>(l.contains (.ref ck)==sub2 t.subs e.1 y.1)
def bvO(b:B)(o:Option Value):Bool:=on o λv=>v==bval b
noncomputable def isLI:B->Bool
 |.len=>true
 |.isinstance=>true
 |_=>false
noncomputable def srcG:Src->Option Str
 |.g x=>some x
 |_=>none
noncomputable def vI:Value->Option Int
 |.int i _=>some i
 |_=>none
def chkGlob(t:Tb)(K:Frag)(used:List Str)(e:Nat×V):Bool:=match e.2 with
 |.fn k=>on (lk t.fns k) λy=>on (srcG y.1) λx=>decide (x=t.nm e.1)&&isSm (topA K x)&&(!hasN t.qg e.1 ||hasN t.quiet k)
 |.cls k=>on (t.cname k) λx=>decide (x=t.nm e.1)&&isSm (topA K x)&&!hasN t.qg e.1
 |.int v=>on (nsIn K mainGlobals<|t.nm e.1) λo=>on o λu=>decide (vI u=some v)&&!hasN t.qg e.1
 |.bt b=>!(used.contains<|t.nm e.1)&&!(t.nm e.1==("__name__":Str))&&bvO b (bootBuiltins<|t.nm e.1)&&(!hasN t.qg e.1 ||isLI b)
 |_=>false
noncomputable def bTs:List B:=[.int,.bool,.str,.list,.tuple]
noncomputable def kTs:List (Kd×Value):=[(.none,.type "NoneType"),(.bool,.type "bool"),(.int,.type "int"),(.str,.type "str"),(.list,.type "list"),(.tuple,.type "tuple")]
def bkNo(k:Kd)(b:B):Option Bool:=match bKd b with
 |some j=>kNo2 k j
 |none=>none
def ckB(K:Frag):Bool:=kTs.all λy=>bTs.all λb=>kitOne K y.2 (bval b)==bkNo y.1 b
def chkIsi(t:Tb)(K:Frag):Bool:=ckB K
def chkTwo(t:Tb):Bool:=t.clss.all λy=>!isSm (lk t.excs y.1)
def chkAll(t:Tb)(K:Frag):Bool:=t.fns.all (chkFn t K)&&t.clss.all (chkCl t K)&&t.excs.all (chkEx t K)&&chkIsi t K
section
variable {p:Program}{mean:ExcName->Option Value}
inductive FnOf(t:Tb)(K:Frag)(k:Nat)(a:Addr):Prop
 |mk (y:Src×Fn) (z:FuncData×List Stmt) (hk:lk t.fns k=some y) (hz:fdOf K a=some z) (hc:chkFd t K (hasN t.quiet k) y.2 z=true)
theorem Zm5(h2:t.fns.all (chkFn t K)=true)(e:t.fnA K k=some a):FnOf t K k a:=
 Zfj e λy hk ha=>ZaL (Al h2 _<|ZbK hk) λa' ha' h=>ZaL h λz hz hc=>by
  obtain rfl:=Eq.symm<|Sj<|ha'.symm.trans ha;exact⟨y,z,hk,hz,hc⟩
theorem Zg8{y:FuncData×List Stmt}(h:fdOf K a=some y)(g:∀o,K.lookup a=some o->o.data=.func y.1->y.1.body=.stmts y.2->G):G:=
 Zfj h λo ho h=>Zfj h λfd hd h=>Zfj h λb hb h=>by
  obtain rfl:=Sj h;refine g o ho ?_ ?_
  ·generalize o.data=d at hd
   induction d <;> first |(obtain rfl:=Eq.symm<|Sj hd;rfl) |exact noS hd
  ·generalize fd.body=d at hb
   induction d <;> first |(obtain rfl:=Eq.symm<|Sj hb;rfl) |exact noS hb
theorem ZjF{α:Type}{o:Option α}(h:isSm o=true):∃a,o=some a:=by
 induction o with
 |none=>exact noT h
 |some a=>exact⟨a,rfl⟩
theorem ZmC{α β:Type}{o:Option (α×β)}{b:β}(h:mp2 o=some b)(g:∀a,o=some (a,b)->G):G:=by
 induction o with
 |none=>exact noS h
 |some y=>obtain rfl:=Sj h;exact g y.1 rfl
theorem Zhb(e:t.cname k=some x):(k,x)∈t.clss.map (λy=>(y.1,y.2.1))++t.excs:=by
 unfold Tb.cname at e
 induction q:lk t.clss k with
 |some y=>rw[q]at e;obtain rfl:=Sj e;exact mem_append_left _<|mem_map.mpr ⟨_,ZbK q,rfl⟩
 |none=>rw[q]at e;exact mem_append_right _<|ZbK e
theorem Zox(hn:chkTwo t=true)(hx:lk t.excs j=some x):t.clA K j=topA K x:=by
 have hcl:lk t.clss j=none:=by
  induction q:lk t.clss j with
  |none=>rfl
  |some y=>have:=Al hn _<|ZbK q;rw[hx]at this;exact noT this
 unfold Tb.clA Tb.cname;rw[hcl,hx];rfl
theorem ZnF{y:Str×Cl}(hk:lk t.clss k=some y):t.clA K k=topA K y.1:=by
 unfold Tb.clA Tb.cname;rw[hk];rfl
theorem Zqh{c:Nat×Str->Addr->Bool}(h4:(t.excs.all λe=>on (topA K e.2)<|c e)=true)(hn:chkTwo t=true)(e:t.clA K j=some a)(hj:isSm (lk t.excs j)=true)(g:∀x,topA K x=some a->c (j,x) a=true->G):G:=by
 obtain⟨x,hx⟩:=ZjF hj;rw[Zox hn hx]at e;exact ZaL (Al h4 _<|ZbK hx) λa' ha' h=>g x e<|Sj (ha'.symm.trans e)▸h
theorem Zql{c:Nat×Str×Cl->Addr->Bool}(h3:(t.clss.all λe=>on (topA K e.2.1)<|c e)=true)(e:t.clA K k=some a)(hcl:mp2 (lk t.clss k)=some cl)(g:∀x,c (k,x,cl) a=true->G):G:=
 ZmC hcl λx hk=>by
  rw[ZnF hk]at e;exact ZaL (Al h3 _<|ZbK hk) λa' ha' h=>g x<|Sj (ha'.symm.trans e)▸h
theorem ZoV(T:TopRead q loose mg mb h)(X:K.In h)(h4:t.excs.all (chkEx t K)=true)(hn:chkTwo t=true)(e:t.clA K j=some c)(hj:isSm (lk t.excs j)=true):ExAt (mkCx p w t K h) j c:=by
 refine Zqh h4 hn e hj λx hx this=>Zao this λhe this=>ZaL this λl hl hall=>?_;obtain⟨_,bm,ns,nm,qn,bs,hd,sn,sub,ab,col,dd,k0,k1,k2,k3,k5,mN,g1,g2,g3,g4⟩:=own_of_in X T (ZoR hx) he
 have hl':l=.ref c::bm:=Zfj hl λo eo hl=>by obtain rfl:=Sj<|(X c o eo).symm.trans g1;exact(Sj hl).symm
 refine⟨bm,ns,nm,qn,bs,hd,sn,sub,ab,col,dd,k0,k1,k2,k3,k5,mN,g1,g2,g3,g4,λk ck hk=>?_⟩;refine Zfj hk λxk hxk hck=>ZaL (Al hall _<|Zhb hxk) λc2 hc2 this=>?_;obtain rfl:=Eq.symm<|Sj<|hc2.symm.trans hck;rw[← hl'];exact beq_iff_eq.mp this
theorem Zic(e:chkMeth t K c x f=true):FnIs (mkCx p w t K h) K c x f:=
 ZaL e λa ha e=>Zao e λe1 e2=>⟨a,Od e1,ZoR ha,Od e2⟩
theorem Zm1(X:K.In h)(h3:t.clss.all (chkCl t K)=true):ClsOk (mkCx p w t K h) K:=by
 refine⟨X,λk c cl hc hcl=>Zql h3 hc hcl λx this=>Zaz this λg1 g2 g3 g4 g5 g6=>Zaz g1 λa1 a2 a3 a4 a5 a6=>
  ⟨a1,Od a2,Od a3,Od a4,a5,a6,g2,λf hf=>?_,λn f hf=>Zic (and2<|Al g4 _<|ZbK hf).1,λn hn=>Od<|Al g5 _ hn,λn f hf hn=>?_⟩⟩
 ·have g3:chkIni t K c cl.init=true:=g3;rw[hf]at g3;exact Zic g3
 ·have:=(and2<|Al g4 _<|ZbK hf).2;rw[List.contains_iff_mem.mpr hn]at this;exact noT this
theorem Zl6{j:Kd}(h:bKd b=some j):b∈bTs:=by
 induction b <;> first |exact nsome h |exact .head _ |exact .tail _ (.head _) |exact .tail _ (.tail _<|.head _) |exact .tail _ (.tail _<|.tail _<|.head _) |exact .tail _<|.tail _<|.tail _<|.tail _<|.head _
theorem Zod{k:Kd}(e:bkNo k b=some r):b∈bTs:=by
 induction hb:bKd b with
 |none=>unfold bkNo at e;rw[hb]at e;exact noS e
 |some j=>exact Zl6 hb
theorem ZbO{k:Kd}{tv:Value}(h:ckB K=true)(hm:(k,tv)∈kTs)(e:bkNo k b=some r):kitOne K tv (bval b)=some r:=
 (beq_iff_eq.mp<|Al (Al h _ hm) b<|Zod e).trans e
theorem Zlm(X:K.In h)(hB:chkIsi t K=true):IsiK (mkCx p w t K h) K:=by
 refine⟨X,λk y b tv cv e hk ht=>?_⟩
 induction y using V.casesOn with
 |bt b'=>
  obtain rfl:=Sj ht;have e:isiB k b'=some b:=e
  induction k with
  |none=>obtain rfl:=Sj hk;exact ZbO (k:=.none) hB (.head _) e
  |bool=>obtain rfl:=Sj hk;exact ZbO (k:=.bool) hB (.tail _<|.head _) e
  |int=>obtain rfl:=Sj hk;exact ZbO (k:=.int) hB (.tail _<|.tail _<|.head _) e
  |str=>obtain rfl:=Sj hk;exact ZbO (k:=.str) hB (.tail _<|.tail _<|.tail _<|.head _) e
  |list=>obtain rfl:=Sj hk;exact ZbO (k:=.list) hB (.tail _<|.tail _<|.tail _<|.tail _<|.head _) e
  |tuple=>obtain rfl:=Sj hk;exact ZbO (k:=.tuple) hB (.tail _<|.tail _<|.tail _<|.tail _<|.tail _<|.head _) e
  |_=>exact noS hk
 |_=>exact nsome e
end
section
variable {p:Program}{mean:ExcName->Option Value}
theorem Zkm{v:V}(T:Top q loose mean mg mb h)(X:K.In h)(hx:x=t.nm i)(ha:topA K x=some a)(r:∀W,VR (mkCx p w t K h) W (.ref a) v):GlAt (mkCx p w t K h) i v:=
 .main (.ref a) mg T.g (by show mg (t.nm i)=_;rw[← hx];exact mg_of X T.g<|ZoR ha) r
theorem ZkL{v:V}(T:Top q loose mean mg mb h)(X:K.In h)(hu:used=usedNames q loose)(hm:chkGlob t K used (i,v)=true):GlAt (mkCx p w t K h) i v:=by
 induction v using V.casesOn with
 |fn k=>
  refine ZaL hm λy hk hm=>ZaL hm λx hx hm=>Zah hm λm1 m2 ø=>?_;obtain⟨a,ha⟩:=ZjF m2;refine Zkm T X (Od m1) ha λW=>.fn<|ZlT hk ?_;generalize y.1=s at hx
  induction s with
  |g z=>obtain rfl:=Eq.symm<|Sj hx;exact ha
  |m _ _=>exact noS hx
 |cls k=>
  refine ZaL hm λx hx hm=>Zah hm λm1 m2 ø=>?_;obtain⟨a,ha⟩:=ZjF m2;exact Zkm T X (Od m1) ha λW=>.cls<|ZlT hx ha
 |int v=>
  refine ZaL hm λo ho hm=>ZaL hm λu eo hm=>Zao hm λm1 ø=>?_;have m1:=Od m1;subst eo
  induction u with
  |int u tk=>obtain rfl:=Eq.symm<|Sj m1;exact .main (.int v tk) mg T.g (mg_of X T.g ho) λW=>.int v tk
  |_=>exact noS m1
 |bt b=>
  refine Zau hm λm1 m2 m3 ø=>?_;subst hu
  have nu:t.nm i∉usedNames q loose:=λz=>by rw[List.contains_iff_mem.mpr z]at m1;exact noT m1
  unfold usedNames at nu;simp only[List.mem_append,not_or]at nu;obtain⟨⟨⟨⟨n1,n2⟩,n3⟩,n4⟩,n5⟩:=nu;refine .bi (bval b) mg mb T.g T.b (T.free _ n1 n2 n3 n4 n5) ?_ λW=>.bt b;show mb (t.nm i)=_;rw[T.builtins _ (λz=>by rw[z]at m2;exact noT m2)];exact ZaL m3 λu eu m3=>eu.trans<|congrArg some<|beq_iff_eq.mp m3
 |_=>exact noT hm
theorem Zi1{v:V}(hm:chkGlob t K used (i,v)=true)(hq:hasN t.qg i=true):Qt (mkCx p w t K h) v:=by
 induction v using V.casesOn with
 |fn k=>
  refine ZaL hm λy hk hm=>ZaL hm λx hx hm=>Zah hm λø ø m3=>.fn ?_;rw[hq]at m3;exact m3
 |cls k=>exact ZaL hm λx hx hm=>Zah hm λø ø m3=>by rw[hq]at m3;exact noT m3
 |int v=>exact ZaL hm λo ho hm=>ZaL hm λu eo hm=>Zao hm λø m2=>by rw[hq]at m2;exact noT m2
 |bt b=>
  refine Zau hm λø ø ø m4=>?_;rw[hq]at m4
  induction b with
  |len=>exact .len
  |isinstance=>exact .isi
  |_=>exact noT m4
 |_=>exact noT hm
theorem noneV(h:isNoneV v=true):v=.none:=by induction v <;> first |rfl |exact noT h
theorem fnKind{s:Scope}(h:kFn s=true):s.kind=.function:=by
 unfold kFn at h
 induction hk:s.kind <;> rw[hk]at h <;> first |rfl |exact noT h
theorem Zpf{d:Fn}(X:K.In h)(h2:t.fns.all (chkFn t K)=true)(e:t.fnA K k=some a)(ed:mp2 (lk t.fns k)=some d):FnIn (mkCx p w t K h) (hasN t.quiet k) d a:=by
 obtain⟨y,z,hk,hz,hc⟩:=Zm5 h2 e;rw[hk]at ed;obtain rfl:=Sj ed;refine Zg8 hz λo ho hd hb=>ZdT hc λc1 c2 c3 c4 c5=>Zaz c1 λa1 a2 a3 a4 a5 a6=>Zaz c2 λb1 b2 b3 b4 b5 b6=>?_;have a2:=Od a2;refine⟨o,z.1,z.2,X _ _ ho,hd,codeRec_of X c3,hb,λvs hl=>?_,Zag b3,Bool.not_eq_true' _▸a5,Bool.not_eq_true' _▸a6,fnKind a4,Od b4,Od b5,λi hi=>Al b1 i hi,λu hu zz=>?_,c4,λhq=>?_⟩
 ·have:=Zgi (fd:=z.1) (vs:=vs) a1 (noneV b6) (ZbW a3) (by rw[a2,Lm,hl]);rw[this,a2];rfl
 ·have:=Al b2 u hu;rw[zz]at this;exact noT this
 ·rw[hq]at c5;exact c5
theorem Znl{α:Type}{o:Option α}(h:(!isSm o)=true):o=none:=by
 induction o with
 |none=>rfl
 |some _=>exact noT h
theorem Zpp(X:K.In h)(h2:t.fns.all (chkFn t K)=true)(e:t.fnA K k=some a):FnOb (mkCx p w t K h) a:=by
 obtain⟨y,z,hk,hz,hc⟩:=Zm5 h2 e
 exact Zg8 hz λo ho hd hb=>⟨o,z.1,X _ _ ho,hd⟩
theorem ZoX(T:Top q loose mean mg mb h)(X:K.In h)(h1:chkNms t=true)(h2:chkAll t K=true)(h3:t.globs.all (chkGlob t K<|usedNames q loose)=true)(hn:chkTwo t=true):CxOk (mkCx p w t K h):=
 Zaz h1 λg1 g2 g3 g4 g5 g67=>Zao g67 λg6 g7=>Zau h2 λh2 hcl hex hisi=>
  ⟨Zm2 g1 g2,ZmZ g1,T.nolimit,λi v e=>ZkL T X rfl<|Al h3 _<|ZbK e,Od g3,Od g4,Od g5,Od g6,Od g7,
   λk a e=>Zpp X h2 e,λk a d e ed=>Zpf X h2 e ed,λi v hq e=>Zi1 (Al h3 _<|ZbK e) hq,λk c e hj=>ZoV (topRead_of T) X hex hn e hj,
   λk cl e=>ZmC e λx hk=>ZaL (Al hcl _<|ZbK hk) λc hc this=>Zaz this λø ø ø ø ø g6=>Znl g6,⟨K,Zlm X hisi⟩,T.g.elim λo q=>⟨o,q.elim λø q=>q.elim λø q=>q.1⟩⟩
end
noncomputable def W0(h:Heap):Wd:=⟨λa=>h.get? a,λø=>none⟩
noncomputable def H0:Hp:=⟨[]⟩
theorem rel0{X:Cx}:RelH X (W0 X.hb) H0 X.hb:=
 ⟨λø ø e=>e,λø ø e=>e,λø ø e=>(by exact noS e),λa ⟨i,c,l,e,_,_⟩=>(by exact noS e),λi j ci cj li lj e=>(by exact noS e),λø ø=>⟨rfl,rfl⟩⟩
theorem Zjj{X:Cx}{P:Params}:∀{vs:List Value},WellAll P h vs (ofPys<|is.map PyData.int)->VRs X W vs (is.map V.int):=by
 induction is with
 |nil=>intro vs r;cases r;exact .nil
 |cons i is ih=>
  intro vs r;have r':WellAll P h vs (.int i::ofPys (is.map PyData.int)):=r
  cases r' with
  |cons a b=>
   cases a with
   |int _ t=>exact .cons (.int i t)<|ih b
theorem law_end{p:Program}{s1':Shared}{c:ClaimW}{cl:Str->Option Addr}{mean:ExcName->Option Value}{args:List WData}{fa:Addr}{mean':ExcName->Option Value}{P:Params}
  (T:Top q loose mean' mg mb s1'.heap) (X:K.In s1'.heap) (h1:chkNms t=true) (h2:chkAll t K=true) (h3:t.globs.all (chkGlob t K<|usedNames q loose)=true) (hn:chkTwo t=true)
  (hg:s1'.gens=#[]) (x:Str) (hk:(thn (lk t.fns k) λy=>srcG y.1)=some x) (hs:isSm (topA K x)=true) (hmg:mg x=some (.ref fa)) (hw:Well P s1'.heap (.ref a) (ofPy<|.list<|is.map PyData.int)) (hlen:¬ ((63:Nat):Int)<(is.length:Nat))
  (hr:∀cls,c.raises args cls=false) (hp:c.post args (.bool true) args=true)
  (n:Nat) (hA:AOk callerA n)
  (main:∀is:List Int,is.length<=63->CW t.P n k [.lst<|is.map V.int] H0 (λv ø=>v=.bool true) (λø ø=>False)):
  wpAny (model p w) callerA (call (.ref fa) [.ref a]) (λv s'=>GoodWG c cl mean args s1' (.ok<|.ret v) s') (λe s'=>GoodWG c cl mean args s1' (.error e) s') s1':=by
 have K0:CxOk (mkCx p w t K s1'.heap):=ZoX T X h1 h2 h3 hn;have C:ClsOk (mkCx p w t K s1'.heap) K:=Zm1 X<|Zau h2 λø z ø ø=>z;have hl:is.length<=63:=Int.ofNat_le.mp<|Int.not_lt.mp hlen
 cases hw with
 |list hgt hall=>
  have hv:VR (mkCx p w t K s1'.heap) (W0 s1'.heap) (.ref a) (.lst<|is.map V.int):=VR.lst (n:=0) hgt (Zjj hall) (by rw[Lm];exact Nt hl<|by decide)
  have hfn:(mkCx p w t K s1'.heap).fnA k=some fa:=by
   obtain⟨a',ha'⟩:=ZjF hs;have:=mg_of X T.g<|ZoR ha';rw[hmg]at this
   cases this
   refine Zfj hk λy hy hx=>ZlT hy ?_;generalize y.1=s at hx
   induction s with
   |g z=>obtain rfl:=Eq.symm<|Sj hx;exact ha'
   |m _ _=>exact noS hx
  refine wpAny_call<|codeAny_mono (callM K0 C n callerA k fa [.lst<|is.map V.int] [.ref a] (W0 s1'.heap) H0 s1' _ _ hA (.inl rfl) ⟨[],rfl,λe he=>by cases he⟩ rel0 (.cons hv .nil) hfn (main is hl)) λr s' hr'=>?_
  induction r with
  |ok fl=>
   induction fl with
   |ret v=>
    obtain⟨W',H',av,TT,hv',rfl⟩:=hr'
    cases hv'
    exact GoodW.toG ⟨.inl ⟨_,.bool true,[],rfl,hr,.bool _,hp,λø=>⟨List.nodup_nil,λø z=>(nomatch z)⟩⟩,TT.rel.bkeep,TT.rest.os,TT.rest.gens.trans hg⟩
   |_=>exact hr'.elim
  |error e=>
   obtain⟨_,_,_,_,_,_,_,_,_,_,z⟩:=hr';exact z.elim
end
variable {a:Option C}{t n nm:Nat}{m:V}{w:Str}{Q:V->Hp->Prop}{lo:Loc}{r':List (Option C)}{pl src:Int}{rest:PSs}{hs:List V}{ms fi:List Int}{fs':List (Nat×V)}{ow ow':Nat->Nat}
section
open PySem (Str)
variable {k:Int}{u:List V}{r:List (Option C)}{f h:Nat}{E:Yh}
noncomputable def ZbX:Str:=⟨#[110,111,32,108,105,115,116,32,111,102,32,104,97,110,100,115]⟩
noncomputable def Zdx:Str:=⟨#[110,111,32,99,111,117,110,116,32,111,102,32,104,97,110,100,115]⟩
noncomputable def Zir:Str:=⟨#[110,111,32,104,97,110,100]⟩
noncomputable def ZbR:Str:=⟨#[97,32,104,97,110,100,32,105,110,32,110,111,32,108,105,115,116]⟩
noncomputable def ZbZ:Str:=⟨#[97,32,104,97,110,100,32,116,104,97,116,32,102,101,108,108,32,97,119,97,121]⟩
noncomputable def ZdL:Str:=⟨#[119,105,115,104]⟩
noncomputable def ZdG:Str:=⟨#[116,97,107,101]⟩
noncomputable def Zco:Str:=⟨#[104,111,108,100]⟩
noncomputable def ZdE:Str:=⟨#[110,111,116,32,116,104,101,32,102,105,114,115,116,32,104,97,110,100]⟩
noncomputable def Za3:Str:=⟨#[112,114,101,112,97,114,101]⟩
noncomputable def Za9:Str:=⟨#[101,110,116,101,114]⟩
noncomputable def Zdz:Str:=⟨#[116,104,101,32,102,105,114,115,116,32,108,105,115,116]⟩
noncomputable def Zdw:Str:=⟨#[110,111,32,108,101,116,116,101,114,32,116,104,101,114,101]⟩
noncomputable def Zb8:Str:=⟨#[104,97,118,101]⟩
noncomputable def Zbg:Str:=⟨#[112,114,111,109,105,115,101]⟩
noncomputable def ZbM:Str:=⟨#[97,99,99,101,112,116]⟩
noncomputable def Zdb:Str:=⟨#[97,103,114,101,101]⟩
noncomputable def Zfa:Str:=⟨#[]⟩
noncomputable def s_x:Str:=⟨#[97,98,99,88,89,90,32,48,57,46,44,59,58,33,63,45,43,42,47,60,62,61,40,41,91,93,123,125,35,38,39,124,126,95,94]⟩
noncomputable def s_w:Str:=⟨#[119]⟩
noncomputable abbrev Qb(i:Int):PE:=.cst<|.int i
noncomputable abbrev Qd(g:Nat)(a:PEs):PE:=.call true (.glob g) a
noncomputable abbrev Qe(o m:Nat)(a:PEs):PE:=.meth true (.loc o) m a
noncomputable abbrev Qf(x:PE):PEs:=.cons x .nil
noncomputable abbrev Qg(x y:PE):PEs:=.cons x<|.cons y .nil
noncomputable abbrev Qh(x y z:PE):PEs:=.cons x<|.cons y (.cons z .nil)
noncomputable abbrev Qi(x y z w:PE):PEs:=.cons x<|.cons y (.cons z (.cons w .nil))
noncomputable abbrev Qj(o m:Nat):PE:=.attr (.loc o) m
noncomputable abbrev Qk(i:Nat)(e:PE):PS:=.assign (.loc i) e
noncomputable abbrev Ql(o m:Nat)(e:PE):PS:=.assign (.attr (.loc o) m) e
noncomputable def Zhe:Fn:=⟨[16],(.cons (.ret (.some (.and (.cons (Qd 42 (Qg (.loc 16) (.glob 43))) (.cons (.not (Qd 42 (Qg (.loc 16) (.glob 47)))) .nil))))) .nil)⟩
noncomputable def Zga:Fn:=⟨[17],(.cons (.ret (.some (.bin true .add (.bin true .fdiv (Qd 46 (Qf (.loc 17))) (Qb 2)) (Qb 1)))) .nil)⟩
noncomputable def ZcX:PSs:=(.cons (.ite (.or (.cons (.not (.e (Qd 5 (Qf (.loc 20))))) (.cons (.e (.cmp .le (.loc 20) (.loc 19))) (.cons (.e (.cmp .ge (.loc 20) (.loc 18))) .nil)))) (.cons (.ret (.some (.cst (.bool false)))) .nil) .nil) (.cons (Qk 19 (.loc 20)) .nil))
def ZeB:Fn:=⟨[16,18],(.cons (.ite (.or (.cons (.not (.e (Qd 42 (Qg (.loc 16) (.glob 41))))) (.cons (.e (.cmp .eq (Qd 46 (Qf (.loc 16))) (Qb 0))) .nil))) (.cons (.ret (.some (.cst (.bool false)))) .nil) .nil) (.cons (Qk 19 (.neg (Qb 1))) (.cons (.loop [20] (.loc 16) ZcX) (.cons (.ret (.some (.cst (.bool true)))) .nil))))⟩
noncomputable def Zbt:Fn:=⟨[108,118,123],(.cons (Ql 108 118 (.loc 118)) (.cons (Ql 108 123 (.loc 123)) (.cons (Ql 108 146 (.dict .nil)) (.cons (Ql 108 147 (.cst .none)) (.cons (Ql 108 149 (.dict .nil)) (.cons (Ql 108 148 (.cst (.bool false))) .nil))))))⟩
noncomputable def ZbA:Fn:=⟨[108,109],(.cons (Ql 108 109 (.loc 109)) (.cons (Ql 108 110 (.cst .none)) (.cons (Ql 108 111 (.neg (Qb 1))) (.cons (Ql 108 17 (.list true .nil)) (.cons (Ql 108 112 (Qb 0)) (.cons (Ql 108 113 (.cst (.bool true))) (.cons (Ql 108 114 (.list false .nil)) (.cons (Ql 108 115 (.cst .none)) (.cons (.expr (Qe 108 66 .nil)) .nil)))))))))⟩
noncomputable def Zcp:Fn:=⟨[108],(.cons (Ql 108 23 (.list false .nil)) (.cons (Ql 108 116 (Qb 0)) (.cons (Ql 108 117 (.cst (.bool false))) (.cons (Ql 108 118 (.tup (Qg (Qb 0) (.neg (Qb 1))))) (.cons (Ql 108 119 (.cst .none)) (.cons (Ql 108 120 (.cst .none)) (.cons (Ql 108 121 (.dict .nil)) .nil)))))))⟩
noncomputable def Zbv:Fn:=⟨[108,110,17,115],(.cons (.expr (Qe 108 66 .nil)) (.cons (Ql 108 110 (.loc 110)) (.cons (Ql 108 17 (Qd 41 (Qf (.loc 17)))) (.cons (Ql 108 115 (.loc 115)) (.cons (.ite (.e (.cmp .isNot (.loc 110) (.cst .none))) (.cons (Ql 108 111 (.loc 110)) .nil) .nil) .nil)))))⟩
noncomputable def Zeh:Fn:=⟨[108],(.cons (.ret (.some (.comp true (.loc 20) [20] (Qj 108 17) (.some (.e (.cmp .ne (.loc 20) (Qj 108 109))))))) .nil)⟩
noncomputable def ZaD:PSs:=(.cons (.expr (Qe 143 0 (Qf (.meth true (Qj 108 121) 3 (Qg (.loc 20) (Qb 0)))))) .nil)
def ZaO:Fn:=⟨[108],(.cons (Qk 143 (.list false (Qf (Qd 46 (Qf (Qj 108 23)))))) (.cons (.loop [20] (Qe 108 68 .nil) ZaD) (.cons (.ret (.some (.idx (.sortedRev true 150 (.loc 143)) (.bin true .sub (Qd 6 (Qf (Qj 108 17))) (Qb 1))))) .nil)))⟩
noncomputable def ZaS:PSs:=(.cons (.ite (.e (.cmp .gt (Qd 46 (Qf (.loc 23))) (Qd 46 (Qf (.loc 145))))) (.cons (Qk 145 (.loc 23)) .nil) .nil) .nil)
noncomputable def Zav:PSs:=(.cons (.ite (.e (.cmp .isIn (.loc 20) (.attr (Qj 108 120) 146))) (.cons (.assign (.tup [23,119]) (.idx (.attr (Qj 108 120) 146) (.loc 20))) (.cons (.expr (Qe 21 0 (Qf (.loc 23)))) (.cons (.ite (.and (.cons (.e (.cmp .isNot (.loc 119) (.cst .none))) (.cons (.or (.cons (.e (.cmp .is (.loc 144) (.cst .none))) (.cons (.e (.cmp .gt (.idx (.loc 119) (Qb 0)) (.idx (.loc 144) (Qb 0)))) .nil))) .nil))) (.cons (Qk 144 (.loc 119)) .nil) .nil) .nil))) .nil) .nil)
def Za7:Fn:=⟨[108],(.cons (Qk 144 (.cst .none)) (.cons (Qk 21 (.list false .nil)) (.cons (.loop [20] (Qj 108 17) Zav) (.cons (.ite (.e (.cmp .isNot (.loc 144) (.cst .none))) (.cons (.ret (.some (.idx (.loc 144) (Qb 1)))) .nil) .nil) (.cons (Qk 145 (.idx (.loc 21) (Qb 0))) (.cons (.loop [23] (.loc 21) ZaS) (.cons (.ret (.some (.tup (Qg (Qd 41 (Qf (.attr (Qj 108 120) 123))) (Qd 41 (Qf (.loc 145))))))) .nil)))))))⟩
noncomputable def ZaJ:PSs:=(.cons (.expr (.meth true (.idx (Qj 108 123) (.loc 109)) 67 (Qh (Qb 0) (.loc 122) (.cst .none)))) .nil)
def ZbI:Fn:=⟨[108,18,122],(.cons (.ite (.or (.cons (.not (.e (Qd 5 (Qf (.loc 18))))) (.cons (.e (.cmp .lt (.loc 18) (Qb 1))) (.cons (.e (.cmp .gt (.loc 18) (.glob 71))) .nil)))) (.cons (.raise 52 (.cst (.str Zdx))) .nil) .nil) (.cons (.ite (.not (.e (Qd 7 (Qg (.loc 122) (.loc 18))))) (.cons (.raise 53 (.cst (.str ZbX))) .nil) .nil) (.cons (Ql 108 18 (.loc 18)) (.cons (Ql 108 123 (.comp true (Qd 59 (Qf (.loc 109))) [109] (Qd 44 (Qf (.loc 18))) .none)) (.cons (Ql 108 124 (.list false .nil)) (.cons (.loop [109] (.loc 122) ZaJ) .nil))))))⟩
def ZbT:Fn:=⟨[108,20],(.cons (.ite (.or (.cons (.not (.e (Qd 5 (Qf (.loc 20))))) (.cons (.e (.cmp .lt (.loc 20) (Qb 0))) (.cons (.e (.cmp .ge (.loc 20) (Qj 108 18))) .nil)))) (.cons (.raise 52 (.cst (.str Zir))) .nil) .nil) (.cons (.ret (.some (.idx (Qj 108 123) (.loc 20)))) .nil))⟩
def Zdq:Fn:=⟨[108,20],(.cons (Qk 125 (Qe 108 72 (Qf (.loc 20)))) (.cons (.ite (.not (.e (Qj 125 113))) (.cons (.raise 55 (.cst (.str ZbZ))) .nil) .nil) (.cons (.ite (.e (.cmp .is (Qj 125 110) (.cst .none))) (.cons (.raise 56 (.cst (.str ZbR))) .nil) .nil) (.cons (.ret (.some (.loc 125))) .nil))))⟩
def Zcc:Fn:=⟨[108,20],(.cons (Qk 125 (Qe 108 72 (Qf (.loc 20)))) (.cons (.ite (.e (.cmp .is (Qj 125 110) (.cst .none))) (.cons (.raise 56 (.cst (.str ZbR))) .nil) .nil) (.cons (.ret (.some (.loc 125))) .nil)))⟩
noncomputable def ZaW:PSs:=(.cons (.expr (.meth true (Qj 108 124) 0 (Qf (.tup (.cons (.loc 126) (Qi (Qj 125 109) (.loc 20) (Qj 125 110) (.loc 128))))))) .nil)
def Ze0:Fn:=⟨[108,126,125,127,128],(.cons (.loop [20] (.loc 127) ZaW) .nil)⟩
def ZdS:Fn:=⟨[108,20,126],(.cons (Qk 125 (Qe 108 73 (Qf (.loc 20)))) (.cons (Qk 131 (.tup (Qh (.loc 20) (Qj 125 112) (.loc 126)))) (.cons (.augAttr (.loc 125) 112 .add (Qb 1)) (.cons (.expr (Qe 108 75 (Qi (.cst (.str ZdL)) (.loc 125) (.sl true (Qj 125 17) .none (.some (Qb 1))) (.loc 131)))) .nil))))⟩
def Zb1:PSs:=(.cons (.expr (Qe 108 75 (Qi (.cst (.str Zco)) (.loc 125) (Qe 125 68 .nil) (.tup (Qg (.loc 131) (.loc 110)))))) .nil)
def Zct:Fn:=⟨[108,20],(.cons (Qk 125 (Qe 108 73 (Qf (.loc 20)))) (.cons (.ite (.e (.cmp .ne (.idx (Qj 125 17) (Qb 0)) (.loc 20))) (.cons (.raise 57 (.cst (.str ZdE))) .nil) .nil) (.cons (.loopEnum 174 110 131 (Qj 125 23) Zb1) (.cons (.expr (Qe 108 75 (Qi (.cst (.str ZdG)) (.loc 125) (Qe 125 68 .nil) (Qj 125 116)))) .nil))))⟩
def ZbU:Fn:=⟨[108,20,17],(.cons (Qk 125 (Qe 108 73 (Qf (.loc 20)))) (.cons (.ite (.not (.e (Qd 7 (Qg (.loc 17) (Qj 108 18))))) (.cons (.raise 53 (.cst (.str ZbX))) .nil) .nil) (.cons (Qk 145 (.idx (Qj 125 118) (Qb 0))) (.cons (.ite (.e (.cmp .isNot (Qj 125 120) (.cst .none))) (.cons (Qk 145 (Qd 151 (Qg (.loc 145) (.idx (.attr (Qj 125 120) 118) (Qb 0))))) .nil) .nil) (.cons (Ql 125 120 (Qd 155 (Qg (.tup (Qg (.bin true .add (.loc 145) (Qb 1)) (.loc 20))) (Qd 41 (Qf (.loc 17)))))) (.cons (.expr (Qe 108 75 (Qi (.cst (.str Za3)) (.loc 125) (Qj 125 17) (.attr (Qj 125 120) 118)))) .nil))))))⟩
def ZcS:Fn:=⟨[108,20,129],(.cons (Qk 125 (Qe 108 73 (Qf (.loc 20)))) (.cons (.expr (Qe 108 72 (Qf (.loc 129)))) (.cons (.ite (.e (.cmp .is (Qj 125 115) (.cst .none))) (.cons (.raise 58 (.cst (.str Zdz))) .nil) .nil) (.cons (.expr (Qe 108 75 (Qi (.cst (.str Za9)) (.loc 125) (.list true (Qf (.loc 129))) (Qj 125 115)))) .nil))))⟩
def ZcQ:Fn:=⟨[108,20],(.cons (Qk 125 (Qe 108 72 (Qf (.loc 20)))) (.cons (.ite (.not (.e (Qj 125 113))) (.cons (.raise 55 (.cst (.str ZbZ))) .nil) .nil) (.cons (Ql 125 113 (.cst (.bool false))) .nil)))⟩
def Zbx:Fn:=⟨[108,110],(.cons (.ite (.or (.cons (.not (.e (Qd 5 (Qf (.loc 110))))) (.cons (.e (.cmp .lt (.loc 110) (Qb 0))) (.cons (.e (.cmp .ge (.loc 110) (Qd 46 (Qf (Qj 108 124))))) .nil)))) (.cons (.raise 54 (.cst (.str Zdw))) .nil) .nil) (.cons (.ret (.some (.idx (Qj 108 124) (.loc 110)))) .nil))⟩
noncomputable def Zdg:Fn:=⟨[108,110],(.cons (.expr (Qe 108 81 (Qf (.loc 110)))) (.cons (.expr (.meth true (Qj 108 124) 1 (Qf (.loc 110)))) .nil))⟩
noncomputable def Zb7:Fn:=⟨[108,110],(.cons (.expr (.meth true (Qj 108 124) 0 (Qf (Qe 108 81 (Qf (.loc 110)))))) .nil)⟩
def Zdk:Fn:=⟨[108,110],(.cons (.assign (.tup [126,130,127,109,128]) (Qe 108 81 (Qf (.loc 110)))) (.cons (.expr (.meth true (Qj 108 124) 1 (Qf (.loc 110)))) (.cons (Qk 125 (.idx (Qj 108 123) (.loc 127))) (.cons (.ite (.not (.e (Qj 125 113))) (.cons (.ret .none) .nil) .nil) (.cons (.ite (.e (.cmp .eq (.loc 126) (.cst (.str Za9)))) (.cons (.expr (Qe 108 94 (Qg (.loc 125) (.loc 128)))) .nil) (.cons (.ite (.and (.cons (.e (.cmp .isNot (Qj 125 110) (.cst .none))) (.cons (.e (.cmp .eq (Qj 125 110) (.loc 109))) .nil))) (.cons (.expr (Qe 108 86 (Qi (.loc 126) (.loc 125) (.loc 130) (.loc 128)))) .nil) .nil) .nil)) .nil)))))⟩
noncomputable def Zbo:PSs:=(.cons (.expr (Qe 108 84 (Qf (Qb 0)))) (.cons (.augLoc 18 .add (Qb 1)) .nil))
def ZcP:Fn:=⟨[108],(.cons (Qk 18 (Qb 0)) (.cons (.while_ (.e (Qj 108 124)) Zbo) (.cons (.ret (.some (.loc 18))) .nil)))⟩
def ZbE:Fn:=⟨[108,126,125,130,128],(.cons (.ite (.e (.cmp .eq (.loc 126) (.cst (.str ZdL)))) (.cons (.expr (Qe 108 87 (Qg (.loc 125) (.loc 128)))) .nil) (.cons (.ite (.e (.cmp .eq (.loc 126) (.cst (.str Zco)))) (.cons (.expr (Qe 108 88 (Qh (.loc 125) (.loc 130) (.loc 128)))) .nil) (.cons (.ite (.e (.cmp .eq (.loc 126) (.cst (.str Zb8)))) (.cons (.assign (.idx (.attr (.loc 125) 121) (.loc 130)) (Qd 151 (Qg (.loc 128) (.meth true (Qj 125 121) 3 (Qg (.loc 130) (Qb 0)))))) (.cons (.expr (Qe 108 89 (Qf (.loc 125)))) .nil)) (.cons (.ite (.e (.cmp .eq (.loc 126) (.cst (.str ZdG)))) (.cons (Ql 125 116 (Qd 151 (Qg (Qj 125 116) (Qd 154 (Qg (.loc 128) (Qd 46 (Qf (Qj 125 23)))))))) .nil) (.cons (.ite (.e (.cmp .eq (.loc 126) (.cst (.str Za3)))) (.cons (.expr (Qe 108 90 (Qh (.loc 125) (.loc 130) (.loc 128)))) .nil) (.cons (.ite (.e (.cmp .eq (.loc 126) (.cst (.str Zbg)))) (.cons (.expr (Qe 108 91 (Qh (.loc 125) (.loc 130) (.loc 128)))) .nil) (.cons (.ite (.e (.cmp .eq (.loc 126) (.cst (.str ZbM)))) (.cons (.expr (Qe 108 92 (Qh (.loc 125) (.loc 130) (.loc 128)))) .nil) (.cons (.expr (Qe 108 93 (Qh (.loc 125) (.loc 130) (.loc 128)))) .nil)) .nil)) .nil)) .nil)) .nil)) .nil)) .nil)) .nil)⟩
def Zb9:Fn:=⟨[108,125,131],(.cons (.ite (.or (.cons (.e (Qj 125 117)) (.cons (.e (.cmp .isIn (.loc 131) (Qj 125 23))) .nil))) (.cons (.ret .none) .nil) .nil) (.cons (.expr (.meth true (Qj 125 23) 0 (Qf (.loc 131)))) (.cons (.expr (Qe 108 75 (Qi (.cst (.str Zco)) (.loc 125) (Qe 125 68 .nil) (.tup (Qg (.loc 131) (.bin true .sub (Qd 46 (Qf (Qj 125 23))) (Qb 1))))))) (.cons (.expr (Qe 108 89 (Qf (.loc 125)))) .nil))))⟩
def Zc5:Fn:=⟨[108,125,130,128],(.cons (.assign (.tup [131,110]) (.loc 128)) (.cons (.ite (.or (.cons (.e (Qj 125 117)) (.cons (.e (.cmp .gt (.loc 110) (Qd 46 (Qf (Qj 125 23))))) .nil))) (.cons (.ret .none) .nil) .nil) (.cons (.ite (.e (.cmp .eq (.loc 110) (Qd 46 (Qf (Qj 125 23))))) (.cons (.expr (.meth true (Qj 125 23) 0 (Qf (.loc 131)))) .nil) .nil) (.cons (.expr (Qe 108 75 (Qi (.cst (.str Zb8)) (.loc 125) (.list true (Qf (.loc 130))) (Qd 46 (Qf (Qj 125 23)))))) .nil))))⟩
def Zc3:Fn:=⟨[108,125],(.cons (Qk 18 (Qe 125 69 .nil)) (.cons (.ite (.e (.cmp .gt (.loc 18) (Qj 125 116))) (.cons (Ql 125 116 (.loc 18)) (.cons (.expr (Qe 108 75 (Qi (.cst (.str ZdG)) (.loc 125) (Qe 125 68 .nil) (.loc 18)))) .nil)) .nil) .nil))⟩
def ZbF:Fn:=⟨[108,125,130,118],(.cons (.ite (.e (.cmp .gt (.loc 118) (Qj 125 118))) (.cons (Ql 125 118 (.loc 118)) (.cons (Ql 125 117 (.cst (.bool true))) (.cons (.expr (Qe 108 75 (Qi (.cst (.str Zbg)) (.loc 125) (.list true (Qf (.loc 130))) (.tup (Qh (.loc 118) (Qd 41 (Qf (Qj 125 23))) (Qj 125 119)))))) .nil))) .nil) .nil)⟩
def ZbJ:Fn:=⟨[108,125,130,128],(.cons (.assign (.tup [118,23,119]) (.loc 128)) (.cons (Qk 120 (Qj 125 120)) (.cons (.ite (.or (.cons (.e (.cmp .is (.loc 120) (.cst .none))) (.cons (.e (.cmp .ne (Qj 120 118) (.loc 118))) (.cons (.e (.cmp .isNot (Qj 120 147) (.cst .none))) .nil)))) (.cons (.ret .none) .nil) .nil) (.cons (.assign (.idx (.attr (.loc 120) 146) (.loc 130)) (.tup (Qg (.loc 23) (.loc 119)))) (.cons (.ite (.e (.cmp .ge (Qd 46 (Qf (Qj 120 146))) (Qd 6 (Qf (Qj 125 17))))) (.cons (Ql 120 147 (Qe 125 70 .nil)) (.cons (.expr (Qe 108 75 (Qi (.cst (.str ZbM)) (.loc 125) (Qj 125 17) (.tup (Qg (.loc 118) (Qj 120 147)))))) .nil)) .nil) .nil)))))⟩
def Zbz:Fn:=⟨[108,125,130,128],(.cons (Qk 118 (.idx (.loc 128) (Qb 0))) (.cons (.ite (.e (.cmp .ge (.loc 118) (Qj 125 118))) (.cons (Ql 125 118 (.loc 118)) (.cons (Ql 125 117 (.cst (.bool true))) (.cons (Ql 125 119 (.loc 128)) (.cons (.expr (Qe 108 75 (Qi (.cst (.str Zdb)) (.loc 125) (.list true (Qf (.loc 130))) (.loc 118)))) .nil)))) .nil) .nil))⟩
def Zbw:Fn:=⟨[108,125,130,118],(.cons (Qk 120 (Qj 125 120)) (.cons (.ite (.or (.cons (.e (.cmp .is (.loc 120) (.cst .none))) (.cons (.e (.cmp .ne (Qj 120 118) (.loc 118))) (.cons (.e (Qj 120 148)) .nil)))) (.cons (.ret .none) .nil) .nil) (.cons (.assign (.idx (.attr (.loc 120) 149) (.loc 130)) (.cst (.bool true))) (.cons (.ite (.e (.cmp .ge (Qd 46 (Qf (Qj 120 149))) (Qd 6 (Qf (Qj 125 17))))) (.cons (Ql 120 148 (.cst (.bool true))) (.cons (.assign (.tup [123,23]) (Qj 120 147)) (.cons (Qk 127 (.sortedU true 150 152 (Qj 125 17) (.loc 123))) (.cons (Qk 100 (.comp true (.loc 20) [20] (Qj 125 17) (.some (.e (.cmp .isIn (.loc 20) (Qj 120 149)))))) (.cons (.expr (Qe 108 75 (Qi (.cst (.str Za9)) (.loc 125) (.loc 127) (.tup (Qi (.bin true .add (Qj 125 110) (Qb 1)) (Qd 41 (Qf (.loc 123))) (Qd 41 (Qf (.loc 23))) (.loc 100)))))) .nil))))) .nil) .nil))))⟩
noncomputable def ZbY:Fn:=⟨[108,125,128],(.cons (.assign (.tup [109,123,23,100]) (.loc 128)) (.cons (.ite (.e (.cmp .is (Qj 125 110) (.cst .none))) (.cons (.ite (.and (.cons (.e (.cmp .isIn (Qj 125 109) (.loc 123))) (.cons (.e (.cmp .lt (Qj 125 111) (.loc 109))) .nil))) (.cons (.expr (Qe 125 67 (Qh (.loc 109) (.loc 123) (.loc 128)))) .nil) .nil) (.cons (.ret .none) .nil)) .nil) (.cons (.ite (.e (.cmp .ne (Qj 125 110) (.bin true .sub (.loc 109) (Qb 1)))) (.cons (.ret .none) .nil) .nil) (.cons (.expr (.meth true (Qj 125 114) 0 (Qf (.tup (Qh (Qj 125 110) (Qd 41 (Qf (Qj 125 17))) (Qd 41 (Qf (.loc 23)))))))) (.cons (.ite (.e (.cmp .isIn (Qj 125 109) (.loc 123))) (.cons (.expr (Qe 125 67 (Qh (.loc 109) (.loc 123) (.loc 128)))) .nil) (.cons (.expr (Qe 125 67 (Qh (.cst .none) (.list true .nil) (.cst .none)))) .nil)) .nil)))))⟩
noncomputable def ZbS:Fn:=⟨[108],(.cons (.ret (.some (.comp false (.sl true (.loc 134) .none (.some (Qb 3))) [134] (Qj 108 124) .none))) .nil)⟩
noncomputable def ZbV:Fn:=⟨[108,20],(.cons (Qk 125 (Qe 108 74 (Qf (.loc 20)))) (.cons (.ret (.some (.tup (Qg (Qj 125 110) (Qd 41 (Qf (Qj 125 17))))))) .nil))⟩
noncomputable def Zcx:Fn:=⟨[108,20],(.cons (Qk 125 (Qe 108 74 (Qf (.loc 20)))) (.cons (.ret (.some (.call false (.glob 41) (Qf (.sl true (Qj 125 23) .none (.some (Qj 125 116))))))) .nil))⟩
noncomputable def Zdr:Fn:=⟨[108,20],(.cons (.ret (.some (.comp false (.tup (Qh (.loc 110) (Qd 41 (Qf (.loc 123))) (Qd 41 (Qf (.loc 23))))) [110,123,23] (.attr (Qe 108 72 (Qf (.loc 20))) 114) .none))) .nil)⟩
noncomputable def Zdt:Fn:=⟨[24,25],(.cons (.ret (.some (.ite (.e (.cmp .gt (Qd 46 (Qf (.loc 24))) (.loc 25))) (.idx (.loc 24) (.loc 25)) (Qb 0)))) .nil)⟩
noncomputable def Za8:PSs:=(.cons (.ite (.e (.cmp .eq (.bin true .mod (.loc 27) (Qb 2)) (Qb 1))) (.cons (.expr (Qe 26 0 (Qf (.loc 29)))) .nil) .nil) (.cons (Qk 27 (.bin true .fdiv (.loc 27) (Qb 2))) .nil))
def Zcu:Fn:=⟨[27,28],(.cons (Qk 26 (.list false .nil)) (.cons (.loop [29] (Qd 44 (Qf (.loc 28))) Za8) (.cons (.ret (.some (.loc 26))) .nil)))⟩
noncomputable def Zbn:PSs:=(.cons (Qk 138 (.bin true .add (.loc 138) (.idx (.loc 132) (.bin true .mod (.bin true .add (.bin true .fdiv (.loc 137) (Qb 4)) (.bin true .mul (.bin true .mul (Qb 31) (.loc 25)) (.loc 25))) (Qd 46 (Qf (.loc 132))))))) .nil)
def Zc9:Fn:=⟨[137],(.cons (Qk 132 (.cst (.str s_x))) (.cons (Qk 138 (.cst (.str Zfa))) (.cons (.loop [25] (Qd 44 (Qf (.bin true .mod (.loc 137) (Qb 4)))) Zbn) (.cons (.ret (.some (.loc 138))) .nil))))⟩
noncomputable def Zcq:Fn:=⟨[106,31,29,12],(.cons (.try_ (.cons (.ite (.e (.cmp .eq (.loc 31) (Qb 0))) (.cons (.expr (Qe 106 76 (Qg (.loc 29) (.loc 12)))) .nil) (.cons (.ite (.e (.cmp .eq (.loc 31) (Qb 1))) (.cons (.expr (Qe 106 77 (Qf (.loc 29)))) .nil) (.cons (.ite (.e (.cmp .eq (.loc 31) (Qb 2))) (.cons (.expr (Qe 106 80 (Qf (.loc 29)))) .nil) (.cons (.ite (.e (.cmp .eq (.loc 31) (Qb 3))) (.cons (.expr (Qe 106 78 (Qg (.loc 29) (.loc 12)))) .nil) (.cons (.expr (Qe 106 79 (Qg (.loc 29) (.loc 12)))) .nil)) .nil)) .nil)) .nil)) .nil) 51 none (.cons (.ret (.some (.cst (.bool false)))) .nil)) (.cons (.ret (.some (.cst (.bool true)))) .nil))⟩
noncomputable def ZcT:Fn:=⟨[106,29],(.cons (.try_ (.cons (.ret (.some (Qe 106 97 (Qf (.loc 29))))) .nil) 56 none (.cons (.ret (.some (.cst .none))) .nil)) .nil)⟩
noncomputable def ZaF:PSs:=(.cons (Qk 34 (Qd 46 (Qf (Qe 106 95 .nil)))) (.cons (.ite (.e (.cmp .gt (.loc 34) (Qb 0))) (.cons (.expr (Qe 106 84 (Qf (.bin true .mod (.idx (.list true (Qi (Qb 0) (Qb 0) (.bin true .fdiv (.loc 139) (Qb 12)) (.bin true .add (.bin true .mul (.bin true .fdiv (.loc 139) (Qb 12)) (.bin true .add (.loc 25) (Qb 1))) (.loc 25)))) (.bin true .mod (.bin true .fdiv (.loc 139) (Qb 3)) (Qb 4))) (.loc 34))))) .nil) .nil) .nil))
def Zbs:Fn:=⟨[106,139],(.cons (.loop [25] (Qd 44 (Qf (.bin true .add (Qb 1) (.bin true .mod (.loc 139) (Qb 12))))) ZaF) .nil)⟩
noncomputable def ZaK:PSs:=(.cons (Qk 166 (.idx (Qe 106 95 .nil) (.loc 164))) (.cons (.ite (.and (.cons (.e (.cmp .eq (.idx (.loc 166) (Qb 0)) (.loc 188))) (.cons (.e (.cmp .notIn (.idx (.loc 166) (Qb 2)) (.loc 189))) .nil))) (.cons (.expr (Qe 106 84 (Qf (.loc 164)))) (.cons (Qk 190 (.bin true .sub (.loc 190) (Qb 1))) .nil)) (.cons (Qk 164 (.bin true .add (.loc 164) (Qb 1))) .nil)) .nil))
def ZcA:Fn:=⟨[106,188,189],(.cons (Qk 190 (Qd 46 (Qf (Qe 106 95 .nil)))) (.cons (Qk 164 (Qb 0)) (.cons (.while_ (.e (.cmp .lt (.loc 164) (.loc 190))) ZaK) .nil)))⟩
noncomputable def Zdl:Fn:=⟨[191,28],(.cons (.ite (.e (.cmp .eq (.bin true .mod (.loc 191) (Qb 3)) (Qb 0))) (.cons (.ret (.some (.list true .nil))) .nil) .nil) (.cons (.ret (.some (Qd 11 (Qg (.bin true .fdiv (.loc 191) (Qb 3)) (.loc 28))))) .nil))⟩
noncomputable def Zbc:PSs:=(.cons (Qk 132 (.bin true .mod (.bin true .mul (.bin true .add (.loc 132) (.loc 139)) (Qb 69621)) (Qb 10009))) (.cons (.expr (Qd 180 (Qh (.loc 106) (.loc 188) (Qd 181 (Qg (.loc 132) (.loc 28)))))) .nil))
def Za4:Fn:=⟨[106,139,28],(.cons (Qk 160 (Qd 11 (Qg (.bin true .fdiv (.loc 139) (.loc 28)) (.loc 28)))) (.cons (.expr (Qd 175 (Qi (.loc 106) (Qb 3) (.bin true .mod (.loc 139) (.loc 28)) (.ite (.e (.cmp .ne (.loc 160) (.list true .nil))) (.loc 160) (.list true (Qf (.bin true .mod (.loc 139) (.loc 28)))))))) (.cons (Qk 132 (.bin true .mod (.bin true .mul (.bin true .add (.loc 139) (Qb 5)) (Qb 48271)) (Qb 10007))) (.cons (.loop [188] (.sl true (.list true (.cons (.cst (.str Za3)) (Qi (.cst (.str Zbg)) (.cst (.str ZbM)) (.cst (.str Zdb)) (.cst (.str Za9))))) .none (.some (.bin true .mod (.loc 132) (Qb 6)))) Zbc) .nil))))⟩
noncomputable def ZcE:PSs:=(.cons (.expr (Qd 180 (Qh (.loc 106) (.loc 188) (.list true (Qf (Qb 0)))))) .nil)
noncomputable def ZcB:PSs:=(.cons (.expr (Qd 180 (Qh (.loc 106) (.loc 188) (.list true (Qf (.loc 206)))))) .nil)
def ZaR:PSs:=(.cons (Qk 29 (.bin true .mod (.bin true .fdiv (.loc 137) (.bin true .add (Qb 6) (.loc 25))) (Qb 3))) (.cons (.ite (.e (Qd 175 (Qi (.loc 106) (Qb 0) (.loc 29) (.bin true .mul (.cst (.str s_w)) (.loc 25))))) (.cons (.expr (.meth true (.idx (.loc 136) (.loc 29)) 0 (Qf (.tup (Qg (Qb 0) (.bin true .mul (.cst (.str s_w)) (.loc 25))))))) .nil) .nil) .nil))
def Zax:Fn:=⟨[106,137,136],(.cons (Qk 206 (.bin true .add (Qb 1) (.bin true .mod (.loc 137) (Qb 2)))) (.cons (.loop [25] (Qd 44 (Qf (.bin true .add (Qb 1) (.bin true .mod (.bin true .fdiv (.loc 137) (Qb 2)) (Qb 3))))) ZaR) (.cons (.loop [188] (.sl true (.list true (Qi (.cst (.str ZdL)) (.cst (.str Zco)) (.cst (.str Zb8)) (.cst (.str ZdG)))) .none (.some (.bin true .add (Qb 1) (.bin true .mod (.bin true .fdiv (.loc 137) (Qb 6)) (Qb 4))))) ZcB) (.cons (Qk 207 (.bin true .add (Qb 1) (.bin true .mod (.bin true .fdiv (.loc 137) (Qb 24)) (Qb 2)))) (.cons (.expr (Qd 175 (Qi (.loc 106) (Qb 3) (.loc 207) (Qd 11 (Qg (.bin true .add (Qb 1) (.bin true .mod (.bin true .fdiv (.loc 137) (Qb 48)) (Qb 7))) (Qb 3)))))) (.cons (.loop [188] (.sl true (.list true (.cons (.cst (.str Za3)) (Qi (.cst (.str Zbg)) (.cst (.str ZbM)) (.cst (.str Zdb)) (.cst (.str Za9))))) .none (.some (.bin true .sub (Qb 5) (.bin true .mod (.bin true .fdiv (.loc 137) (Qb 336)) (Qb 2))))) ZcE) .nil))))))⟩
def Zb5:Fn:=⟨[106,137,28,136],(.cons (Qk 31 (.bin true .mod (.loc 137) (Qb 16))) (.cons (Qk 139 (.bin true .fdiv (.loc 137) (Qb 16))) (.cons (Qk 29 (.bin true .mod (.loc 139) (.loc 28))) (.cons (Qk 34 (Qd 46 (Qf (Qe 106 95 .nil)))) (.cons (.ite (.e (.cmp .lt (.loc 31) (Qb 2))) (.cons (.expr (Qd 176 (Qg (.loc 106) (.loc 139)))) .nil) (.cons (.ite (.and (.cons (.e (.cmp .lt (.loc 31) (Qb 6))) (.cons (.e (.cmp .gt (.loc 34) (Qb 0))) .nil))) (.cons (.expr (Qd 180 (Qh (.loc 106) (.idx (.idx (Qe 106 95 .nil) (.bin true .mod (.loc 139) (.loc 34))) (Qb 0)) (Qd 181 (Qg (.bin true .fdiv (.loc 139) (Qb 7)) (.loc 28)))))) .nil) (.cons (.ite (.e (.cmp .lt (.loc 31) (Qb 9))) (.cons (Qk 138 (Qd 135 (Qf (.bin true .fdiv (.loc 139) (.loc 28))))) (.cons (Qk 164 (Qd 156 (Qg (.loc 106) (.loc 29)))) (.cons (.ite (.e (Qd 175 (Qi (.loc 106) (Qb 0) (.loc 29) (.loc 138)))) (.cons (.expr (.meth true (.idx (.loc 136) (.loc 29)) 0 (Qf (.tup (Qg (.idx (.loc 164) (Qb 0)) (.loc 138)))))) .nil) .nil) .nil))) (.cons (.ite (.e (.cmp .lt (.loc 31) (Qb 11))) (.cons (.expr (Qd 182 (Qh (.loc 106) (.loc 139) (.loc 28)))) .nil) (.cons (.ite (.e (.cmp .eq (.loc 31) (Qb 11))) (.cons (.expr (Qd 175 (Qi (.loc 106) (Qb 1) (.loc 29) (.cst (.str Zfa))))) .nil) (.cons (.ite (.and (.cons (.e (.cmp .eq (.loc 31) (Qb 12))) (.cons (.e (.cmp .gt (.loc 34) (Qb 0))) .nil))) (.cons (.expr (Qe 106 82 (Qf (.bin true .mod (.loc 139) (.loc 34))))) .nil) (.cons (.ite (.and (.cons (.e (.cmp .eq (.loc 31) (Qb 13))) (.cons (.e (.cmp .gt (.loc 34) (Qb 0))) .nil))) (.cons (.expr (Qe 106 83 (Qf (.bin true .mod (.loc 139) (.loc 34))))) .nil) (.cons (.ite (.e (.cmp .eq (.loc 31) (Qb 14))) (.cons (.expr (Qd 175 (Qi (.loc 106) (.bin true .sub (Qb 4) (.bin true .mul (Qb 2) (Qd 43 (Qf (.cmp .eq (.bin true .mod (.bin true .fdiv (.loc 139) (.loc 28)) (Qb 5)) (Qb 1)))))) (.loc 29) (.bin true .mod (.bin true .fdiv (.bin true .fdiv (.loc 139) (.loc 28)) (Qb 5)) (.loc 28))))) .nil) (.cons (.ite (.and (.cons (.e (.cmp .eq (.loc 31) (Qb 15))) (.cons (.e (.cmp .eq (.bin true .mod (.loc 139) (Qb 3)) (Qb 0))) .nil))) (.cons (.expr (Qe 106 85 .nil)) .nil) .nil) .nil)) .nil)) .nil)) .nil)) .nil)) .nil)) .nil)) .nil)) .nil)))))⟩
noncomputable def Zar:PSs:=(.cons (Qk 153 (.idx (.loc 38) (.loc 25))) (.cons (.ite (.or (.cons (.not (.e (Qd 42 (Qg (.loc 153) (.glob 48))))) (.cons (.e (.cmp .ne (Qd 46 (Qf (.loc 153))) (Qb 3))) (.cons (.e (.cmp .isIn (.loc 153) (.sl true (.loc 38) .none (.some (.loc 25))))) (.cons (.e (.cmp .notIn (.idx (.loc 153) (Qb 0)) (.loc 136))) .nil))))) (.cons (.ret (.some (.cst (.bool false)))) .nil) .nil) (.cons (.ite (.not (.e (.cmp2 .le .lt (Qb 0) (.idx (.loc 153) (Qb 1)) (Qd 46 (Qf (.idx (.loc 136) (.idx (.loc 153) (Qb 0)))))))) (.cons (.ret (.some (.cst (.bool false)))) .nil) .nil) (.cons (.ite (.e (.cmp .ne (.idx (.idx (.loc 136) (.idx (.loc 153) (Qb 0))) (.idx (.loc 153) (Qb 1))) (.tup (Qg (.loc 191) (.idx (.loc 153) (Qb 2)))))) (.cons (.ret (.some (.cst (.bool false)))) .nil) .nil) .nil))))
def Zbu:Fn:=⟨[38,191,136],(.cons (.ite (.not (.e (Qd 42 (Qg (.loc 38) (.glob 41))))) (.cons (.ret (.some (.cst (.bool false)))) .nil) .nil) (.cons (.loop [25] (Qd 44 (Qf (Qd 46 (Qf (.loc 38))))) Zar) (.cons (.ret (.some (.cst (.bool true)))) .nil)))⟩
noncomputable def Zaw:PSs:=(.cons (.ite (.not (.e (Qd 203 (Qh (.idx (.loc 197) (Qb 2)) (.idx (.loc 197) (Qb 0)) (.loc 136))))) (.cons (.ret (.some (.cst (.bool false)))) .nil) .nil) (.cons (.expr (Qe 208 4 (Qg (.idx (.loc 197) (Qb 0)) (Qd 41 (Qf (.idx (.loc 197) (Qb 2))))))) (.cons (.ite (.e (.cmp .ne (.idx (.loc 208) (.idx (.loc 197) (Qb 0))) (.idx (.loc 197) (Qb 2)))) (.cons (.ret (.some (.cst (.bool false)))) .nil) .nil) .nil)))
def Zba:PSs:=(.cons (.loop [197] (Qe 106 101 (Qf (.loc 29))) Zaw) .nil)
def Zcr:Fn:=⟨[106,28,208,136],(.cons (.loop [29] (Qd 44 (Qf (.loc 28))) Zba) (.cons (.ret (.some (.cst (.bool true)))) .nil))⟩
noncomputable def ZaU:PSs:=(.cons (Qk 198 (Qd 156 (Qg (.loc 106) (.loc 29)))) (.cons (.ite (.e (.cmp .isNot (.loc 198) (.cst .none))) (.cons (Qk 38 (Qe 106 98 (Qf (.loc 29)))) (.cons (Qk 179 (Qe 208 3 (Qg (.idx (.loc 198) (Qb 0)) (Qe 36 3 (Qg (.idx (.loc 198) (Qb 0)) (.list true .nil)))))) (.cons (.ite (.not (.e (Qd 203 (Qh (.loc 38) (.idx (.loc 198) (Qb 0)) (.loc 136))))) (.cons (.ret (.some (.cst (.bool false)))) .nil) .nil) (.cons (.ite (.and (.cons (.e (.cmp .ne (.sl true (.loc 179) .none (.some (Qd 46 (Qf (.loc 38))))) (.loc 38))) (.cons (.or (.cons (.e (.cmp .isIn (.idx (.loc 198) (Qb 0)) (.loc 208))) (.cons (.e (.cmp .ne (.sl true (.loc 38) .none (.some (Qd 46 (Qf (.loc 179))))) (.loc 179))) .nil))) .nil))) (.cons (.ret (.some (.cst (.bool false)))) .nil) .nil) (.cons (.ite (.e (.cmp .gt (Qd 46 (Qf (.loc 38))) (Qd 46 (Qf (Qe 36 3 (Qg (.idx (.loc 198) (Qb 0)) (.list true .nil))))))) (.cons (.assign (.idx (.loc 36) (.idx (.loc 198) (.cst (.int 0)))) (.loc 38)) .nil) .nil) .nil))))) .nil) .nil))
def ZcW:Fn:=⟨[106,28,208,136],(.cons (Qk 36 (.dict .nil)) (.cons (.loop [29] (Qd 44 (Qf (.loc 28))) ZaU) (.cons (.ret (.some (.cst (.bool true)))) .nil)))⟩
noncomputable def Zfh:PSs:=(.cons (.assign (.idx (.loc 136) (.loc 29)) (.list false .nil)) .nil)
noncomputable def Ze5:PSs:=(.cons (Qk 198 (Qe 106 101 (Qf (.loc 29)))) (.cons (.ite (.e (.cmp .ne (.sl true (.loc 198) .none (.some (Qd 46 (Qf (.idx (.loc 178) (.loc 29)))))) (.idx (.loc 178) (.loc 29)))) (.cons (.ret (.some (.cst (.bool false)))) .nil) .nil) (.cons (.assign (.idx (.loc 178) (.loc 29)) (.comp true (.tup (Qh (.idx (.loc 197) (Qb 0)) (Qd 41 (Qf (.idx (.loc 197) (Qb 1)))) (Qd 41 (Qf (.idx (.loc 197) (Qb 2)))))) [197] (.loc 198) .none)) .nil)))
def Ze8:PSs:=(.cons (.expr (Qd 177 (Qi (.loc 106) (.loc 137) (.loc 28) (.loc 136)))) (.cons (.ite (.or (.cons (.not (.e (Qd 204 (Qi (.loc 106) (.loc 28) (.loc 208) (.loc 136))))) (.cons (.not (.e (Qd 205 (Qi (.loc 106) (.loc 28) (.loc 208) (.loc 136))))) .nil))) (.cons (.ret (.some (.cst (.bool false)))) .nil) .nil) (.cons (.loop [29] (Qd 44 (Qf (.loc 28))) Ze5) .nil)))
noncomputable def ZgH:PS:=(Qk 28 (.idx (.list true (.cons (Qb 3) (.cons (Qb 4) (Qi (Qb 5) (Qb 1) (Qb 2) (Qb 6))))) (.bin true .mod (Qd 9 (Qg (.loc 24) (Qb 0))) (Qb 6))))
noncomputable def ZgG:PS:=(Qk 105 (Qd 11 (Qg (.bin true .add (Qb 1) (.bin true .fdiv (Qd 9 (Qg (.loc 24) (Qb 1))) (Qb 2))) (.loc 28))))
noncomputable def Zhf:PS:=(.ite (.or (.cons (.e (.cmp .eq (.loc 105) (.list true .nil))) (.cons (.e (.cmp .eq (.bin true .mod (Qd 9 (Qg (.loc 24) (Qb 1))) (Qb 2)) (Qb 1))) .nil))) (.cons (Qk 105 (Qd 41 (Qf (Qd 44 (Qf (.loc 28)))))) .nil) .nil)
noncomputable def Zhs:PS:=(Qk 209 (.and (.cons (.cmp .eq (.loc 28) (Qb 3)) (.cons (.cmp .eq (.bin true .mod (.bin true .fdiv (Qd 9 (Qg (.loc 24) (Qb 0))) (Qb 6)) (Qb 2)) (Qb 1)) .nil))))
noncomputable def ZcO:PS:=(.ite (.e (.loc 209)) (.cons (Qk 105 (.list true (Qh (Qb 0) (Qb 1) (Qb 2)))) .nil) .nil)
noncomputable def Zhv:PS:=(Qk 106 (Qd 60 (Qg (.loc 28) (Qd 41 (Qf (.loc 105))))))
noncomputable def ZhU:PS:=(Qk 136 (.dict .nil))
noncomputable def Zhx:PS:=(Qk 178 (.comp false (.list true .nil) [29] (Qd 44 (Qf (.loc 28))) .none))
noncomputable def Zg4:PS:=(Qk 208 (.dict .nil))
def ZhS:PS:=(.loop [29] (Qd 44 (Qf (.loc 28))) Zfh)
noncomputable def ZiK:PS:=(.ite (.e (.loc 209)) (.cons (.expr (Qd 202 (Qh (.loc 106) (.bin true .fdiv (Qd 9 (Qg (.loc 24) (Qb 1))) (Qb 2)) (.loc 136)))) .nil) .nil)
def Zf6:PS:=(.loop [137] (.sl true (.loc 24) (.some (Qb 2)) (.some (Qb 62))) Ze8)
noncomputable def ZfR:PS:=(.ret (.some (.cst (.bool true))))
def Zn3:Fn:=⟨[24],(.cons ZgH (.cons ZgG (.cons Zhf (.cons Zhs (.cons ZcO (.cons Zhv (.cons ZhU (.cons Zhx (.cons Zg4 (.cons ZhS (.cons ZiK (.cons Zf6 (.cons ZfR .nil)))))))))))))⟩
noncomputable def tb:Tb where
 nms:=[(0,"append"),(1,"pop"),(2,"extend"),(3,"get"),(4,"setdefault"),(5,"whole"),(6,"enough"),(7,"is_list"),(9,"_law_draw"),(11,"_law_hands"),(12,"_law_thing"),(14,"law"),(16,"thing"),(17,"members"),(18,"many"),(19,"ahead"),(20,"hand"),(21,"rows"),(23,"row"),(24,"_law_script"),(25,"_law_k"),(26,"_law_found"),(27,"_law_bits"),(28,"_law_many"),(29,"_law_hand"),(31,"_law_way"),(34,"_law_count"),(36,"_law_rows"),(38,"_law_row"),(41,"list"),(42,"isinstance"),(43,"int"),(44,"range"),(46,"len"),(47,"bool"),(48,"tuple"),(51,"FolkError"),(52,"BadHand"),(53,"BadList"),(54,"NoLetter"),(55,"Fallen"),(56,"Outside"),(57,"NotFirst"),(58,"NoNews"),(59,"Hand"),(60,"Folk"),(65,"__init__"),(66,"begin"),(67,"goes_into"),(68,"others"),(69,"held_by_enough"),(70,"put_forward"),(71,"MOST"),(72,"hand_of"),(73,"able"),(74,"inside"),(75,"send"),(76,"say"),(77,"press"),(78,"propose"),(79,"show"),(80,"fall"),(81,"letter_at"),(82,"lose"),(83,"double"),(84,"come"),(85,"calm"),(86,"taken_up"),(87,"wished"),(88,"held"),(89,"look"),(90,"prepared"),(91,"promised"),(92,"accepted"),(93,"agreed_to"),(94,"entered"),(95,"letters"),(97,"list_of"),(98,"taken"),(100,"witness"),(101,"past"),(105,"_law_first"),(106,"_law_folk"),(108,"self"),(109,"number"),(110,"place"),(111,"highest"),(112,"said"),(113,"up"),(114,"gone"),(115,"news"),(116,"took"),(117,"still"),(118,"ballot"),(119,"agreed"),(120,"offer"),(121,"holds"),(122,"first"),(123,"hands"),(124,"under"),(125,"one"),(126,"word"),(127,"to"),(128,"content"),(129,"other"),(130,"sender"),(131,"message"),(132,"_law_some"),(134,"letter"),(135,"_law_word"),(136,"_law_said"),(137,"_law_cell"),(138,"_law_word_here"),(139,"_law_more"),(143,"counts"),(144,"best"),(145,"most"),(146,"promises"),(147,"value"),(148,"is_over"),(149,"agrees"),(150,"sorted"),(151,"max"),(152,"set"),(153,"_law_message"),(154,"min"),(155,"Offer"),(156,"_law_list"),(160,"_law_wish"),(164,"_law_place"),(166,"_law_letter"),(174,"enumerate"),(175,"_law_tried"),(176,"_law_some_come"),(177,"_law_deed"),(178,"_law_before"),(179,"_law_best"),(180,"_law_phase"),(181,"_law_away"),(182,"_law_round"),(188,"_law_kind"),(189,"_law_away_here"),(190,"_law_left"),(191,"_law_number"),(197,"_law_entry"),(198,"_law_now"),(202,"_law_told_on"),(203,"_law_row_right"),(204,"_law_ended"),(205,"_law_open"),(206,"_law_late"),(207,"_law_offerer"),(208,"_law_ends"),(209,"_law_story")].map λx=>(x.1,Str.ofString x.2)
 fns:=[(5,.g "whole",Zhe),
  (6,.g "enough",Zga),
  (7,.g "is_list",ZeB),
  (274,.m "Offer" "__init__",Zbt),
  (237,.m "Hand" "__init__",ZbA),
  (238,.m "Hand" "begin",Zcp),
  (239,.m "Hand" "goes_into",Zbv),
  (240,.m "Hand" "others",Zeh),
  (241,.m "Hand" "held_by_enough",ZaO),
  (242,.m "Hand" "put_forward",Za7),
  (243,.m "Folk" "__init__",ZbI),
  (244,.m "Folk" "hand_of",ZbT),
  (245,.m "Folk" "able",Zdq),
  (246,.m "Folk" "inside",Zcc),
  (247,.m "Folk" "send",Ze0),
  (248,.m "Folk" "say",ZdS),
  (269,.m "Folk" "press",Zct),
  (270,.m "Folk" "propose",ZbU),
  (271,.m "Folk" "show",ZcS),
  (249,.m "Folk" "fall",ZcQ),
  (250,.m "Folk" "letter_at",Zbx),
  (272,.m "Folk" "lose",Zdg),
  (273,.m "Folk" "double",Zb7),
  (251,.m "Folk" "come",Zdk),
  (252,.m "Folk" "calm",ZcP),
  (253,.m "Folk" "taken_up",ZbE),
  (254,.m "Folk" "wished",Zb9),
  (255,.m "Folk" "held",Zc5),
  (256,.m "Folk" "look",Zc3),
  (257,.m "Folk" "prepared",ZbF),
  (258,.m "Folk" "promised",ZbJ),
  (259,.m "Folk" "accepted",Zbz),
  (260,.m "Folk" "agreed_to",Zbw),
  (261,.m "Folk" "entered",ZbY),
  (262,.m "Folk" "letters",ZbS),
  (264,.m "Folk" "list_of",ZbV),
  (265,.m "Folk" "taken",Zcx),
  (268,.m "Folk" "past",Zdr),
  (9,.g "_law_draw",Zdt),
  (11,.g "_law_hands",Zcu),
  (135,.g "_law_word",Zc9),
  (175,.g "_law_tried",Zcq),
  (156,.g "_law_list",ZcT),
  (176,.g "_law_some_come",Zbs),
  (180,.g "_law_phase",ZcA),
  (181,.g "_law_away",Zdl),
  (182,.g "_law_round",Za4),
  (202,.g "_law_told_on",Zax),
  (177,.g "_law_deed",Zb5),
  (203,.g "_law_row_right",Zbu),
  (204,.g "_law_ended",Zcr),
  (205,.g "_law_open",ZcW),
  (14,.g "law",Zn3)]
 globs:=[(5,.fn 5),(6,.fn 6),(7,.fn 7),(9,.fn 9),(11,.fn 11),(135,.fn 135),(175,.fn 175),(156,.fn 156),(176,.fn 176),(180,.fn 180),(181,.fn 181),(182,.fn 182),(202,.fn 202),(177,.fn 177),(203,.fn 203),(204,.fn 204),(205,.fn 205),(14,.fn 14),(155,.cls 155),(59,.cls 59),(60,.cls 60),(51,.cls 51),(52,.cls 52),(53,.cls 53),(54,.cls 54),(55,.cls 55),(56,.cls 56),(57,.cls 57),(58,.cls 58),(71,.int 9),(43,.bt .int),(47,.bt .bool),(41,.bt .list),(48,.bt .tuple),(44,.bt .range),(152,.bt .set),(174,.bt .enumerate),(46,.bt .len),(42,.bt .isinstance),(151,.bt .max),(154,.bt .min),(150,.bt .sorted)]
 clss:=[(155,"Offer",⟨some 274,[],[118,123,146,147,149,148]⟩),
  (59,"Hand",⟨some 237,[(66,238),(67,239),(68,240),(69,241),(70,242)],[109,110,111,17,112,113,114,115,23,116,117,118,119,120,121]⟩),
  (60,"Folk",⟨some 243,[(72,244),(73,245),(74,246),(75,247),(76,248),(77,269),(78,270),(79,271),(80,249),(81,250),(82,272),(83,273),(84,251),(85,252),(86,253),(87,254),(88,255),(89,256),(90,257),(91,258),(92,259),(93,260),(94,261),(95,262),(97,264),(98,265),(101,268)],[18,123,124]⟩)]
 excs:=[(51,"FolkError"),(52,"BadHand"),(53,"BadList"),(54,"NoLetter"),(55,"Fallen"),(56,"Outside"),(57,"NotFirst"),(58,"NoNews")]
 subs:=[(51,51),(52,51),(52,52),(53,51),(53,53),(54,51),(54,54),(55,51),(55,55),(56,51),(56,56),(57,51),(57,57),(58,51),(58,58)]
 quiet:=[]
 qg:=[]
 nAppend:=0
 nPop:=1
 nExtend:=2
 nGet:=3
 nSetdefault:=4
theorem Zaa{α:Type}{o:Option α}{a:α}{k:α->Prop}(e:o=some a)(h:k a):need o k:=by subst e;exact h
theorem Zeu{t e:Prop}(q:b=true)(h:t):Br b t e:=by subst q;exact h
theorem Zdv{t e:Prop}(q:b=false)(h:e):Br b t e:=by subst q;exact h
theorem Zby{t e:Prop}(h1:b=true->t)(h2:b=false->e):Br b t e:=by
 induction b with
 |true=>exact h1 rfl
 |false=>exact h2 rfl
theorem Zac{as:List V}(ps:List Nat)(body:PSs)(m:Loc)(hf:P.fn f=some ⟨ps,body⟩)(hb:bindP ps as (λø=>none)=some m)(h:wpSs P (CW P n) body ⟨H,m⟩ (λfl σ=>Q (retV fl) σ.H) λe σ=>E e σ.H):CW P (n+1) f as H Q E:=
 .run (Zaa hf<|Zaa hb h)
noncomputable def folkC(m:V)(hs:List V):C:=.inst 60 [(18,m),(123,.lst hs),(124,.ref 1)]
noncomputable def ltr(w:Str)(a p c:V)(t:V):V:=.tup [.str w,a,t,p,c]
section
variable {k:Nat}
theorem f247:tb.P.fn 247=some ⟨[108,126,125,127,128],.cons (.loop [20] (.loc 127) ZaW) .nil⟩:=by kernel_rfl
theorem Zhk(K:CT)(w:Str)(c a p v:V)(lo:Loc)(Q:Yf)(E:EP)(h1:lo 108=some (.ref 0))(h2:lo 126=some (.str w))(h3:lo 125=some (.ref 2))(h4:lo 128=some c)(g1:lk fs 109=some a)(g2:lk fs 110=some p)(hu:u.length<SZ)
  (h:Q .next ⟨⟨some (folkC m hs)::some (.list<|u++[ltr w a p c v])::some (.inst k fs)::r⟩,upd lo 20 v⟩):
  wpSs tb.P K ZaW ⟨⟨some (folkC m hs)::some (.list u)::some (.inst k fs)::r⟩,upd lo 20 v⟩ Q E:=by
 refine Zaa (o:=lo 108) h1<|⟨rfl,?_⟩;exact Zaa (o:=lo 126) h2<|Zaa (o:=lo 125) h3<|Zaa (o:=lk fs 109) g1<|Zaa (o:=lo 125) h3<|Zaa (o:=lk fs 110) g2<|Zaa (o:=lo 128) h4<|⟨Bq rfl,hu,h⟩
theorem ZhD(K:CT)(w:Str)(c a p:V)(to:List V)(Q:Yf)(g1:lk fs 109=some a)(g2:lk fs 110=some p):∀(vs u:List V)(lo:Loc),lo 108=some (.ref 0)->lo 126=some (.str w)->lo 125=some (.ref 2)->lo 128=some c->u.length+vs.length<=SZ->
  (∀lo',Q .next ⟨⟨some (folkC m hs)::some (.list<|u++vs.map (ltr w a p c))::some (.inst k fs)::r⟩,lo'⟩)->
  loopGo (λv σ2 k=>bindT [20] v σ2 λσ3=>wpSs tb.P K ZaW σ3 k noE) (still (.lst to) to) vs ⟨⟨some (folkC m hs)::some (.list u)::some (.inst k fs)::r⟩,lo⟩ Q:=by
 intro zz0
 induction zz0 with
 |nil=>
  intro u lo h1 h2 h3 h4 hz h;have h:=h lo;rw[List.map_nil,append_nil]at h;exact⟨rfl,h⟩
 |cons v vs ih=>
  intro u lo h1 h2 h3 h4 hz h;rw[Lc]at hz;refine⟨rfl,Zhk K w c a p v lo _ _ h1 h2 h3 h4 g1 g2 (by exact la1 hz) ?_⟩;refine ih (u++[ltr w a p c v]) (upd lo 20 v) h1 h2 h3 h4 (by rw[La];show u.length+1+_<=_;exact la2 hz) λlo'=>?_;have h:=h lo';rw[map_cons,List.append_cons]at h;exact h
theorem Zbi{to:List V}{c a p:V}(g1:lk fs 109=some a)(g2:lk fs 110=some p)(hz:u.length+to.length<=SZ)(h:Q .none ⟨some (folkC m hs)::some (.list<|u++to.map (ltr w a p c))::some (.inst k fs)::r⟩):
  CW tb.P (n+1) 247 [.ref 0,.str w,.ref 2,.lst to,c] ⟨some (folkC m hs)::some (.list u)::some (.inst k fs)::r⟩ Q E:=
 Zac _ _ _ f247 rfl (ZhD (CW tb.P n) w c a p to _ g1 g2 to u _ rfl rfl rfl rfl hz λlo'=>h)
end
structure Msg where
 h:Int
 n:Int
 w:Str
noncomputable def Msg.v(m:Msg):V:=.tup [.int m.h,.int m.n,.str m.w]
noncomputable def iV(l:List Int):List V:=l.map .int
def mV(l:List Msg):List V:=l.map Msg.v
noncomputable def hoV(l:List (Int×Int)):List (V×V):=l.map λx=>(.int x.1,.int x.2)
theorem Zaj(l:List Int):(iV l).length=l.length:=Lm ..
theorem Zan(l:List Msg):(mV l).length=l.length:=Lm ..
theorem ZkR(l:List (Int×Int)):(hoV l).length=l.length:=Lm ..
noncomputable abbrev Bal:=Int×Int
noncomputable def bV(b:Bal):V:=.tup [.int b.1,.int b.2]
structure Val where
 hs:List Int
 row:List Msg
def Val.v(x:Val):V:=.tup [.lst (iV x.hs),.lst (mV x.row)]
noncomputable def vV:Option Val->V
 |none=>.none
 |some x=>x.v
structure Acc where
 b:Bal
 x:Val
def Acc.v(a:Acc):V:=.tup [bV a.b,a.x.v]
noncomputable def aV:Option Acc->V
 |none=>.none
 |some a=>a.v
structure News where
 no:Int
 hs:List Int
 row:List Msg
 wit:List Int
def News.v(w:News):V:=.tup [.int w.no,.lst (iV w.hs),.lst (mV w.row),.lst (iV w.wit)]
noncomputable def nV:Option News->V
 |none=>.none
 |some w=>w.v
noncomputable def plV:Option Int->V
 |none=>.none
 |some i=>.int i
set_option genCtorIdx true in
inductive Cont where
 |wish (m:Msg)
 |hold (m:Msg) (p:Int)
 |have_ (n:Int)
 |take (n:Int)
 |prep (b:Bal)
 |prom (b:Bal) (row:List Msg) (a:Option Acc)
 |acc (a:Acc)
 |agr (b:Bal)
 |ent (w:News)
structure Letter where
 from_:Int
 to:Int
 pl:Int
 c:Cont
def Cont.word:Cont->Str
 |.wish _=>ZdL
 |.hold _ _=>Zco
 |.have_ _=>Zb8
 |.take _=>ZdG
 |.prep _=>Za3
 |.prom _ _ _=>Zbg
 |.acc _=>ZbM
 |.agr _=>Zdb
 |.ent _=>Za9
def Cont.v:Cont->V
 |.wish m=>m.v
 |.hold m p=>.tup [m.v,.int p]
 |.have_ n=>.int n
 |.take n=>.int n
 |.prep b=>bV b
 |.prom b row a=>.tup [bV b,.lst<|mV row,aV a]
 |.acc a=>a.v
 |.agr b=>bV b
 |.ent w=>w.v
noncomputable def Letter.v(l:Letter):V:=.tup [.str l.c.word,.int l.from_,.int l.to,.int l.pl,l.c.v]
def lV(l:List Letter):List V:=l.map Letter.v
theorem ZaT(l:List Letter):(lV l).length=l.length:=Lm ..
noncomputable abbrev PR:=List Msg×Option Acc
def prV(l:List (Int×PR)):List (V×V):=l.map λp=>(.int p.1,.tup [.lst (mV p.2.1),aV p.2.2])
noncomputable def agV(l:List Int):List (V×V):=l.map λi=>(.int i,.bool true)
structure Off where
 b:Bal
 hs:List Int
 prom:List (Int×PR)
 val:Option Val
 agr:List Int
 over:Bool
noncomputable abbrev Gn:=Int×List Int×List Msg
def gV(l:List Gn):List V:=l.map λg=>.tup [.int g.1,.lst (iV g.2.1),.lst (mV g.2.2)]
structure Hd where
 place:Option Int
 hi:Int
 ms:List Int
 said:Int
 up:Bool
 gone:List Gn
 news:Option News
 row:List Msg
 took:Int
 still:Bool
 bal:Bal
 agd:Option Acc
 off:Option Off
 holds:List (Int×Int)
structure Lh where
 r:Nat
 d:Nat
 g:Nat
 o:Nat
 p:Nat
 a:Nat
noncomputable def oR:Option Off->Nat->V
 |none,_=>.none
 |some _,i=>.ref i
def hFL(k:Int)(x:Hd)(l:Lh):List (Nat×V):=[(109,.int k),(110,plV x.place),(111,.int x.hi),(17,.lst (iV x.ms)),(112,.int x.said),(113,.bool x.up),(114,.ref l.g),(115,nV x.news),(23,.ref l.r),(116,.int x.took),(117,.bool x.still),(118,bV x.bal),(119,aV x.agd),(120,oR x.off l.o),(121,.ref l.d)]
def oFL(o:Off)(p a:Nat):List (Nat×V):=[(118,bV o.b),(123,.lst (iV o.hs)),(146,.ref p),(147,vV o.val),(149,.ref a),(148,.bool o.over)]
noncomputable def l0:Lh:=⟨3,4,5,6,7,8⟩
def oC:Option Off->Option C
 |none=>none
 |some o=>some<|.inst 155<|oFL o 7 8
def pC:Option Off->Option C
 |none=>none
 |some o=>some<|.dict<|prV o.prom
def aC:Option Off->Option C
 |none=>none
 |some o=>some<|.dict<|agV o.agr
def fA(m:V)(hs:List V)(U:List Letter)(k:Int)(x:Hd)(g:List (Option C)):List (Option C):=
 some (folkC m hs)::some (.list<|lV U)::some (.inst 59<|hFL k x l0)::some (.list<|mV x.row)::some (.dict<|hoV x.holds)::some (.list<|gV x.gone)::oC x.off::pC x.off::aC x.off::none::none::none::none::none::none::none::none::none::none::g
noncomputable def sendF(k pl:Int)(ts:List Int)(c:Cont):List Letter:=ts.map λt=>⟨k,t,pl,c⟩
theorem Zds(k pl:Int)(ts:List Int)(c:Cont):(sendF k pl ts c).length=ts.length:=Lm ..
theorem Zb3{U:List Letter}{n:Int}{ts:List Int}{c:Cont}:lV U++(iV ts).map (ltr c.word (.int n) (.int pl) c.v)=lV (U++sendF n pl ts c):=by
 unfold lV iV sendF;rw[map_append,List.map_map,List.map_map];rfl
theorem ZdH{U:List Letter}{n t:Int}{c:Cont}:lV U++[ltr c.word (.int n) (.int pl) c.v<|.int t]=lV (U++[⟨n,t,pl,c⟩]):=by
 unfold lV;rw[map_append];rfl
def oth(n:Int)(ms:List Int):List Int:=ms.filter λx=>!decide (x=n)
theorem Zbr(n:Int)(a:List Int):(oth n a).length<=a.length:=List.length_filter_le ..
noncomputable abbrev othT:PC:=.e<|.cmp .ne (.loc 20) (.attr (.loc 108) 109)
theorem f240:tb.P.fn 240=some ⟨[108],.cons (.ret<|.some<|.comp true (.loc 20) [20] (.attr (.loc 108) 17) (.some othT)) .nil⟩:=by kernel_rfl
theorem ZiP(K:CT){b:Option C}(g2:lk fs 109=some (.int k))(ms:List V)(Q:Yl):∀(xs acc:List Int)(lo:Loc),lo 108=some (.ref 2)->acc.length+xs.length<=SZ->(∀lo',Q (iV<|acc++oth k xs) ⟨⟨a::b::some (.inst 59 fs)::r⟩,lo'⟩)->
  compGo (λσ2 k=>wpC tb.P K noE (.some othT) σ2 k) (λσ2 k=>wpE tb.P K noE (.loc 20) σ2 k) [20] (still (.lst ms) ms) (iV xs) (iV acc) ⟨⟨a::b::some (.inst 59 fs)::r⟩,lo⟩ Q:=by
 intro zz0
 induction zz0 with
 |nil=>
  intro acc lo h1 hz h;have h:=h lo;rw[show oth k []=[] from rfl,append_nil]at h;exact⟨rfl,by rw[Zaj];exact hz,h⟩
 |cons x xs ih=>
  intro acc lo h1 hz h;rw[Lc]at hz;refine⟨rfl,by rw[Zaj];exact la1 hz,?_⟩;refine Zaa (o:=lo 108) h1<|Zaa (o:=lk fs 109) g2<|Zby (λc=>?_) λc=>?_
  ·have c:decide (x=k)=false:=by have c:(!decide (x=k))=true:=c;induction q:decide (x=k) with |false=>rfl |true=>rw[q]at c;exact noT c
   have e:iV acc++[.int x]=iV (acc++[x]):=by unfold iV;rw[map_append];rfl
   show compGo _ _ [20] _ (iV xs) (iV acc++[.int x]) ⟨_,upd lo 20<|.int x⟩ Q;rw[e];refine ih (acc++[x]) _ h1 (by rw[La];show acc.length+1+_<=_;exact la2 hz) λlo'=>?_;have h:=h lo';rw[show oth k (x::xs)=x::oth k xs by unfold oth;rw[List.filter_cons,c];rfl,List.append_cons]at h;exact h
  ·have c:decide (x=k)=true:=by have c:(!decide (x=k))=false:=c;induction q:decide (x=k) with |true=>rfl |false=>rw[q]at c;exact noF c
   refine ih acc _ h1 (by exact la3 hz) λlo'=>?_;have h:=h lo';rw[show oth k (x::xs)=oth k xs by unfold oth;rw[List.filter_cons,c];rfl]at h;exact h
theorem Zg2{b:Option C}(g1:lk fs 17=some (.lst<|iV ms))(g2:lk fs 109=some (.int k))(hz:ms.length<=SZ)(h:Q (.lst<|iV<|oth k ms) ⟨a::b::some (.inst 59 fs)::r⟩):
  CW tb.P (n+1) 240 [.ref 2] ⟨a::b::some (.inst 59 fs)::r⟩ Q E:=by
 exact Zac _ _ _ f240 rfl<|Zaa (o:=lk fs 17) g1<|ZiP (CW tb.P n) g2 (iV ms) _ ms [] _ rfl (by rw[show([]:List Int).length=0 from rfl,zero_add];exact hz) λlo'=>⟨by rw[List.nil_append,Zaj];exact Nt (Zbr k ms) hz,h⟩
noncomputable def hoD:List (Int×Int)->Int->Int
 | [],_=>0
 |p::r,x=>cond (decide<|p.1=x) p.2<|hoD r x
theorem Zd7(hd:List (Int×Int))(x:Int):keyOk (dKeys<|hoV hd) (.int x)=true:=by
 have:∀hd:List (Int×Int),(dKeys<|hoV hd).all isI=true:=λhd=>by
  induction hd with
  |nil=>rfl
  |cons p r ih=>exact ih
 exact this hd
theorem ZgU(x:Int):∀hd:List (Int×Int),(dGet (hoV hd)<|.int x).getD (.int 0)=.int (hoD hd x):=by
 intro zz0
 induction zz0 with
 |nil=>
  exact rfl
 |cons p r ih=>
  show Option.getD (cond (decide<|p.1=x) (some<|V.int p.2)<|dGet (hoV r)<|.int x) _=.int (cond (decide<|p.1=x) p.2<|hoD r x)
  induction decide (p.1=x) with
  |true=>rfl
  |false=>exact ih
theorem Zc4:∀l:List Int,intsOf (iV l)=some l:=by
 intro zz0
 induction zz0 with
 |nil=>
  exact rfl
 |cons x r ih=>
  show(match intsOf (iV r) with |some l=>some (x::l) |none=>none)=_;rw[ih]
def cnts(n:Int)(ms:List Int)(len:Nat)(hd:List (Int×Int)):List Int:=(len:Int)::(oth n ms).map (hoD hd)
def hbe(n:Int)(ms:List Int)(len:Nat)(hd:List (Int×Int)):Int:=((srt (cnts n ms len hd)).reverse)[ms.length / 2]?.getD 0
theorem Zji(n:Nat):fdiv (n:Int) 2+1 - 1=((n / 2:Nat):Int):=by
 have:fdiv (n:Int) 2=((n / 2:Nat):Int):=by rw[Int.fdiv_eq_ediv_of_nonneg _<|by decide];rfl
 rw[this];exact Int.add_sub_cancel ..
theorem ZkA(x:Int):∀l:List Int,(ins x l).length=l.length+1:=by
 intro zz0
 induction zz0 with
 |nil=>
  exact rfl
 |cons y r ih=>
  show(if x<=y then x::y::r else y::ins x r).length=_
  by_cases h:x<=y
  ·rw[if_pos h];rfl
  ·rw[if_neg h];exact congrArg (·+1)<|ih
theorem Zfg:∀l:List Int,(srt l).length=l.length:=by
 intro zz0
 induction zz0 with
 |nil=>
  exact rfl
 |cons x r ih=>
  exact(ZkA x _).trans (congrArg (·+1)<|ih)
theorem Zal(h:i<n):pyIdx (i:Int) n=some i:=by
 unfold pyIdx;rw[if_pos<|natCast_nonneg i,if_pos<|Int.ofNat_lt.mpr h];rfl
section
variable {U:List Letter}{x:Hd}
theorem f6:tb.P.fn 6=some Zga:=by kernel_rfl
theorem Zed{l:List V}(h:Q (.int<|fdiv (l.length:Int) 2+1) H):CW tb.P (n+1) 6 [.lst l] H Q E:=
 Zac _ _ _ f6 rfl ⟨⟨by decide,by decide⟩,h⟩
theorem f241:tb.P.fn 241=some ZaO:=by kernel_rfl
theorem Zju(K:CT)(to:List V)(len:Int)(Q:Yf):∀(vs acc:List Int)(lo:Loc),lo 143=some (.ref 19)->lo 108=some (.ref 2)->acc.length+vs.length+1<=SZ->
  (∀lo':Loc,lo' 143=some (.ref 19)->lo' 108=some (.ref 2)->Q .next ⟨⟨fA m hs U k x [some<|.list<|iV (len::(acc++vs).map (hoD x.holds))]⟩,lo'⟩)->
  loopGo (λv σ2 k=>bindT [20] v σ2 λσ3=>wpSs tb.P K ZaD σ3 k noE) (still (.lst to) to) (iV vs) ⟨⟨fA m hs U k x [some<|.list<|iV (len::acc.map (hoD x.holds))]⟩,lo⟩ Q:=by
 intro zz0
 induction zz0 with
 |nil=>
  intro acc lo h1 h2 hz h;have h:=h lo h1 h2;rw[append_nil]at h;exact⟨rfl,h⟩
 |cons v vs ih=>
  intro acc lo h1 h2 hz h;rw[Lc]at hz;refine⟨rfl,?_⟩;refine Zaa (o:=lo 143) h1<|⟨rfl,?_⟩;refine Zaa (o:=lo 108) h2<|⟨rfl,?_⟩;refine⟨Zd7 x.holds v,?_⟩;refine⟨?_,?_⟩
  ·show(iV (len::acc.map (hoD x.holds))).length<SZ;rw[Zaj,Lc,Lm];exact lf6 hz
  ·show loopGo _ _ (iV vs) ⟨⟨fA m hs U k x [some<|.list<|iV (len::acc.map (hoD x.holds))++[(dGet (hoV x.holds)<|.int v).getD<|.int 0]]⟩,upd lo 20<|.int v⟩ Q;rw[ZgU,show iV (len::acc.map (hoD x.holds))++[.int<|hoD x.holds v]=iV (len::(acc++[v]).map (hoD x.holds)) by unfold iV;rw[map_append,map_cons,map_cons,map_append];rfl];refine ih (acc++[v]) _ h1 h2 (by rw[La];show acc.length+1+_+1<=_;exact lf7 hz) λlo' q1 q2=>?_;have h:=h lo' q1 q2;rw[List.append_cons]at h;exact h
theorem ZpH(hz:x.ms.length<=50)(hn:x.ms.length / 2<(oth k x.ms).length+1)(h:Q (.int<|hbe k x.ms x.row.length x.holds) ⟨fA m hs U k x [some<|.list<|iV<|cnts k x.ms x.row.length x.holds]⟩):
  CW tb.P (n+2) 241 [.ref 2] ⟨fA m hs U k x []⟩ Q E:=by
 have lo:=Zbr k x.ms;refine Zac _ _ _ f241 rfl<|⟨Bq rfl,?_⟩;refine Zg2 (ms:=x.ms) (k:=k) rfl rfl (by unfold SZ;exact la7 hz rfl) ?_;show loopGo _ (still (.lst<|iV<|oth k x.ms)<|iV<|oth k x.ms) (iV<|oth k x.ms) ⟨⟨fA m hs U k x [some<|.list [.int (mV x.row).length]]⟩,_⟩ _;rw[Zan];refine Zju (CW tb.P<|n+1) (iV<|oth k x.ms) x.row.length _ (oth k x.ms) [] _ rfl rfl (by exact la7 (k:=51) (Fs<|lf4<|Nt lo hz) rfl) λlo' h1 h2=>?_;have ln:(cnts k x.ms x.row.length x.holds).length=(oth k x.ms).length+1:=congrArg (·+1)<|Lm ..;refine⟨rfl,?_⟩;refine Zaa (o:=lo' 143) h1<|Zaa (o:=intsOf<|iV<|cnts k x.ms x.row.length x.holds) (Zc4 _)<|⟨by rw[ln];exact Nl (Fs<|Nt lo hz)<|by decide,?_⟩;refine⟨by rw[Lm,List.length_reverse,Zfg,ln];exact la7 (k:=51) (Fs<|Nt lo hz) rfl,?_⟩;refine Zaa (o:=lo' 108) h2<|Zed ?_
 have hl':x.ms.length / 2<(srt<|cnts k x.ms x.row.length x.holds).reverse.length:=by rw[List.length_reverse,Zfg,ln];exact hn
 have hl:x.ms.length / 2<((srt<|cnts k x.ms x.row.length x.holds).reverse.map V.int).length:=by rw[Lm];exact hl'
 refine Zaa (o:=pyIdx (fdiv ((iV x.ms).length:Int) 2+1 - 1) ((srt<|cnts k x.ms x.row.length x.holds).reverse.map V.int).length) (a:=x.ms.length / 2) (by rw[Zaj,Zji];exact Zal hl)<|Zaa (o:=((srt<|cnts k x.ms x.row.length x.holds).reverse.map V.int)[x.ms.length / 2]?) (a:=.int<|hbe k x.ms x.row.length x.holds) ?_ h;rw[getElem?_map,Lg hl'];unfold hbe;rw[Lg hl'];rfl
end
def lookF(k pl:Int)(x:Hd)(U:List Letter):Hd×List Letter:=cond (decide (x.took<hbe k x.ms x.row.length x.holds))
 ({ x with took:=hbe k x.ms x.row.length x.holds },U++sendF k pl (oth k x.ms) (.take<|hbe k x.ms x.row.length x.holds)) (x,U)
theorem ZdO{α:Type}{t e:α}(c:b=true):cond b t e=t:=by subst c;rfl
theorem ZdJ{α:Type}{t e:α}(c:b=false):cond b t e=e:=by subst c;rfl
theorem gv{Q:Yq}{v:V}(hv:aRef v=none)(h:Q v σ):giveV fz σ Q v:=by
 induction fz with
 |false=>exact h
 |true=>
  show(match aRef v with |some i=>(match cL (σ.H.get i) with |some xs=>Q (.lst xs) (σ.setH<|σ.H.del i) |none=>Q v σ) |none=>Q v σ);rw[hv];exact h
def hasM(row:List Msg)(m:Msg):Bool:=(mV row).any λz=>eqD z m.v
theorem Zeo:∀row:List Msg,deepL (deepN H<|n+2) (mV row)=some (mV row):=by
 intro zz0
 induction zz0 with
 |nil=>
  exact rfl
 |cons m r ih=>
  show(match some m.v with |some y=>(match deepL (deepN H<|n+2) (mV r) with |some ys=>some (y::ys) |none=>none) |none=>none)=_;rw[ih];rfl
theorem ZaG{x:Hd}(hp:x.place=some pl):some (plV x.place)=some (V.int pl):=by rw[hp];rfl
section
variable {U:List Letter}{x:Hd}
theorem f256:tb.P.fn 256=some Zc3:=by kernel_rfl
theorem Zj3(hp:x.place=some pl)(hz:x.ms.length<=50)(hn:x.ms.length / 2<(oth k x.ms).length+1)(hU:U.length+50<=SZ)(h:∀g,Q .none ⟨fA m hs (lookF k pl x U).2 k (lookF k pl x U).1 g⟩):
  CW tb.P (n+3) 256 [.ref 0,.ref 2] ⟨fA m hs U k x []⟩ Q E:=by
 have lo:=Zbr k x.ms;unfold lookF at h;refine Zac _ _ _ f256 rfl<|ZpH hz hn<|Zby (b:=decide<|x.took<hbe k x.ms x.row.length x.holds) (λc=>?_) λc=>?_
 ·rw[ZdO c]at h;refine⟨rfl,Bq rfl,?_⟩;refine Zg2 (ms:=x.ms) (k:=k) rfl rfl (by unfold SZ;exact la7 hz rfl)<|Zbi (a:=.int k) (p:=.int pl) rfl (ZaG hp) (by rw[ZaT,Zaj];exact la9 hU<|Nt lo hz) ?_;have h:=h [some<|.list<|iV<|cnts k x.ms x.row.length x.holds];have e:=Zb3 (U:=U) (n:=k) (pl:=pl) (ts:=oth k x.ms) (c:=.take<|hbe k x.ms x.row.length x.holds);have h:Q .none ⟨some (folkC m hs)::some (.list<|lV<|U++sendF k pl (oth k x.ms) (.take<|hbe k x.ms x.row.length x.holds))::_⟩:=h;rw[← e]at h;exact h
 ·rw[ZdJ c]at h;exact h _
theorem f254:tb.P.fn 254=some Zb9:=by kernel_rfl
def wishF(k pl:Int)(x:Hd)(U:List Letter)(m:Msg):Hd×List Letter:=cond x.still (x,U) <|cond (hasM x.row m) (x,U) <|
 lookF k pl { x with row:=x.row++[m] } (U++sendF k pl (oth k x.ms) (.hold m x.row.length))
theorem ZoK{mm:Msg}(hp:x.place=some pl)(hz:x.ms.length<=50)(hn:x.ms.length / 2<(oth k x.ms).length+1)(hU:U.length+100<=SZ)(hr:x.row.length<SZ)
  (h:∀g,Q .none ⟨fA m hs (wishF k pl x U mm).2 k (wishF k pl x U mm).1 g⟩):
  CW tb.P (n+4) 254 [.ref 0,.ref 2,mm.v] ⟨fA m hs U k x []⟩ Q E:=by
 have lo:=Zbr k x.ms;unfold wishF at h;refine Zac _ _ _ f254 rfl<|Zby (b:=x.still) (λc=>?_) λc=>?_
 ·rw[ZdO c]at h;exact h []
 rw[ZdJ c]at h;refine Zaa (o:=deepL (deepN _ 11)<|mV x.row) (Zeo x.row)<|Zby (b:=hasM x.row mm) (λc=>?_) λc=>?_
 ·rw[ZdO c]at h;exact h []
 rw[ZdJ c]at h
 have eA:lV U++(iV<|oth k x.ms).map (ltr Zco (.int k) (.int pl)<|.tup [mm.v,.int<|((mV x.row++[mm.v]).length:Int) - 1])=lV (U++sendF k pl (oth k x.ms) (.hold mm x.row.length)):=by
  rw[show(((mV x.row++[mm.v]).length:Int) - 1)=x.row.length by rw[La,Zan];show((x.row.length+1:Nat):Int) - 1=_;exact lh3];exact Zb3 (c:=.hold mm x.row.length)
 have eB:mV x.row++[mm.v]=mV (x.row++[mm]):=by unfold mV;rw[map_append];rfl
 refine⟨rfl,by rw[Zan];exact hr,?_⟩;refine Zg2 (ms:=x.ms) (k:=k) rfl rfl (by unfold SZ;exact la7 hz rfl)<|⟨Bq rfl,?_⟩;refine Zbi (a:=.int k) (p:=.int pl) rfl (ZaG hp) (by rw[ZaT,Zaj];exact la9 hU<|Nt lo<|la7 hz rfl) ?_;show CW tb.P (n+3) 256 [.ref 0,.ref 2] ⟨some (folkC m hs)::some (.list<|lV U++(iV<|oth k x.ms).map (ltr Zco (.int k) (.int pl)<|.tup [mm.v,.int<|((mV x.row++[mm.v]).length:Int) - 1]))::some (.inst 59<|hFL k x l0)::some (.list<|mV x.row++[mm.v])::(fA m hs U k x []).drop 4⟩ _ _;rw[eA,eB];exact Zj3 (x:={ x with row:=x.row++[mm] }) hp hz hn (by rw[La,Zds,add_assoc];exact la9 hU<|Fr (Nt lo hz) _) h
noncomputable def holdF(k pl:Int)(x:Hd)(U:List Letter)(src:Int)(m:Msg)(p:Int):Hd×List Letter:=cond x.still (x,U) <|cond (decide ((x.row.length:Int)<p)) (x,U) <|
 cond (decide<|p=(x.row.length:Int)) ({ x with row:=x.row++[m] },U++[⟨k,src,pl,.have_<|x.row.length+1⟩]) (x,U++[⟨k,src,pl,.have_ x.row.length⟩])
theorem f255:tb.P.fn 255=some Zc5:=by kernel_rfl
theorem ZoL{mm:Msg}{p:Int}(hp:x.place=some pl)(hU:U.length+1<=SZ)(hr:x.row.length<SZ)(h:Q .none ⟨fA m hs (holdF k pl x U src mm p).2 k (holdF k pl x U src mm p).1 []⟩):
  CW tb.P (n+2) 255 [.ref 0,.ref 2,.int src,.tup [mm.v,.int p]] ⟨fA m hs U k x []⟩ Q E:=by
 have eB:mV x.row++[mm.v]=mV (x.row++[mm]):=by unfold mV;rw[map_append];rfl
 unfold holdF at h;refine Zac _ _ _ f255 rfl<|Zby (b:=x.still) (λc=>?_) λc=>?_
 ·rw[ZdO c]at h;exact h
 rw[ZdJ c]at h;refine Zby (b:=decide<|((mV x.row).length:Int)<p) (λc=>?_) λc=>?_
 ·rw[Zan]at c;rw[ZdO c]at h;exact h
 ·rw[Zan]at c;rw[ZdJ c]at h;refine Zby (b:=decide<|p=((mV x.row).length:Int)) (λc=>?_) λc=>?_
  ·rw[Zan]at c;rw[ZdO c]at h;refine⟨rfl,by rw[Zan];exact hr,?_⟩;refine⟨Bq rfl,?_⟩;refine Zbi (a:=.int k) (p:=.int pl) rfl (ZaG hp) (by rw[ZaT];exact hU) ?_;show Q .none ⟨some (folkC m hs)::some (.list<|lV U++[ltr Zb8 (.int k) (.int pl) (.int ((mV x.row++[mm.v]).length:Nat))<|.int src])::some (.inst 59<|hFL k x l0)::some (.list<|mV x.row++[mm.v])::(fA m hs U k x []).drop 4⟩;rw[eB,Zan,show(((x.row++[mm]).length:Nat):Int)=x.row.length+1 by rw[La];rfl,show ltr Zb8 (.int k) (.int pl) (.int<|(x.row.length:Int)+1) (.int src)=ltr (Cont.have_<|x.row.length+1).word (.int k) (.int pl) (Cont.have_<|x.row.length+1).v (.int src) from rfl,ZdH];exact h
  ·rw[Zan]at c;rw[ZdJ c]at h;refine⟨Bq rfl,?_⟩;refine Zbi (a:=.int k) (p:=.int pl) rfl (ZaG hp) (by rw[ZaT];exact hU) ?_;show Q .none ⟨some (folkC m hs)::some (.list<|lV U++[ltr Zb8 (.int k) (.int pl) (.int ((mV x.row).length:Nat))<|.int src])::(fA m hs U k x []).drop 2⟩;rw[Zan,show ltr Zb8 (.int k) (.int pl) (.int (x.row.length:Int)) (.int src)=ltr (Cont.have_ x.row.length).word (.int k) (.int pl) (Cont.have_ x.row.length).v (.int src) from rfl,ZdH];exact h
end
def bLt(a b:Bal):Bool:=prI (cmpI false) false a.1 a.2 b.1 b.2
def bLe(a b:Bal):Bool:=prI (cmpI true) true a.1 a.2 b.1 b.2
def bEq(a b:Bal):Bool:=eqD (bV a)<|bV b
def bst(best a:Option Acc):Option Acc:=match a with
 |none=>best
 |some a=>match best with
  |none=>some a
  |some b=>cond (bLt b.b a.b) (some a)<|some b
noncomputable def prG:List (Int×PR)->Int->Option PR
 | [],_=>none
 |p::r,x=>cond (decide<|p.1=x) (some p.2)<|prG r x
noncomputable def prS:List (Int×PR)->Int->PR->List (Int×PR)
 | [],k,v=>[(k,v)]
 |p::r,k,v=>cond (decide<|p.1=k) ((p.1,v)::r) (p::prS r k v)
def pfGo(pr:List (Int×PR)):List Int->Option Acc->List (List Msg)->Option Acc×List (List Msg)
 | [],best,rows=>(best,rows)
 |h::r,best,rows=>match prG pr h with
  |none=>pfGo pr r best rows
  |some p=>pfGo pr r (bst best p.2)<|rows++[p.1]
noncomputable def lng:List (List Msg)->List Msg->List Msg
 | [],m=>m
 |r::rs,m=>lng rs<|cond (decide<|(m.length:Int)<r.length) r m
def pfF(ms:List Int)(o:Off):Val:=match (pfGo o.prom ms none []).1 with
 |some a=>a.x
 |none=>⟨o.hs,lng (pfGo o.prom ms none []).2<|(pfGo o.prom ms none []).2.headD []⟩
theorem Zd4(l:List (Int×PR))(x:Int):keyOk (dKeys<|prV l) (.int x)=true:=by
 have:∀l:List (Int×PR),(dKeys<|prV l).all isI=true:=λl=>by
  induction l with
  |nil=>rfl
  |cons p r ih=>exact ih
 exact this l
def prW(p:PR):V:=.tup [.lst (mV p.1),aV p.2]
theorem ZlW(x:Int):∀l:List (Int×PR),dGet (prV l) (.int x)=(prG l x).map prW:=by
 intro zz0
 induction zz0 with
 |nil=>
  exact rfl
 |cons p r ih=>
  show cond (decide<|p.1=x) (some<|prW p.2) (dGet (prV r)<|.int x)=(cond (decide<|p.1=x) (some p.2)<|prG r x).map prW
  induction decide (p.1=x) with
  |true=>rfl
  |false=>exact ih
theorem Zn6(x:Int):∀l:List (Int×PR),((dKeys<|prV l).any λz=>eqD z<|.int x)=(prG l x).isSome:=by
 intro zz0
 induction zz0 with
 |nil=>
  exact rfl
 |cons p r ih=>
  show(decide (p.1=x) ||(dKeys<|prV r).any λz=>eqD z<|.int x)=(cond (decide<|p.1=x) (some p.2)<|prG r x).isSome
  induction decide (p.1=x) with
  |true=>rfl
  |false=>exact ih
theorem Zl0(x:Int)(v:PR):∀l:List (Int×PR),dSet (prV l) (.int x) (prW v)=prV (prS l x v):=by
 intro zz0
 induction zz0 with
 |nil=>
  exact rfl
 |cons p r ih=>
  show cond (decide<|p.1=x) ((V.int p.1,prW v)::prV r) ((V.int p.1,prW p.2)::dSet (prV r) (.int x) (prW v))=prV (cond (decide<|p.1=x) ((p.1,v)::r) (p::prS r x v));rw[ih]
  induction decide (p.1=x) <;> rfl
theorem Zfq(l:List (Int×PR)):(prV l).length=l.length:=Lm ..
section
variable {U:List Letter}{x:Hd}
theorem f257:tb.P.fn 257=some ZbF:=by kernel_rfl
def prepF(k pl:Int)(x:Hd)(U:List Letter)(src:Int)(b:Bal):Hd×List Letter:=cond (bLt x.bal b) ({ x with bal:=b,still:=true },U++[⟨k,src,pl,.prom b x.row x.agd⟩]) (x,U)
theorem ZnN{b:Bal}(hp:x.place=some pl)(hU:U.length+1<=SZ)(hr:x.row.length<=SZ)(h:Q .none ⟨fA m hs (prepF k pl x U src b).2 k (prepF k pl x U src b).1 []⟩):
  CW tb.P (n+2) 257 [.ref 0,.ref 2,.int src,bV b] ⟨fA m hs U k x []⟩ Q E:=by
 unfold prepF at h;refine Zac _ _ _ f257 rfl<|Zby (b:=bLt x.bal b) (λc=>?_) λc=>?_
 ·rw[ZdO c]at h;refine⟨rfl,Bq rfl,?_⟩;refine⟨rfl,Bq rfl,?_⟩;refine⟨Bq rfl,?_⟩;refine⟨by rw[Zan];exact hr,?_⟩;refine⟨Bq rfl,?_⟩;refine Zbi (a:=.int k) (p:=.int pl) rfl (ZaG hp) (by rw[ZaT];exact hU) ?_;show Q .none ⟨some (folkC m hs)::some (.list<|lV U++[ltr (Cont.prom b x.row x.agd).word (.int k) (.int pl) (Cont.prom b x.row x.agd).v<|.int src])::(fA m hs U k { x with bal:=b,still:=true } []).drop 2⟩;rw[ZdH];exact h
 ·rw[ZdJ c]at h;exact h
theorem f259:tb.P.fn 259=some Zbz:=by kernel_rfl
def accF(k pl:Int)(x:Hd)(U:List Letter)(src:Int)(a:Acc):Hd×List Letter:=cond (bLe x.bal a.b) ({ x with bal:=a.b,still:=true,agd:=some a },U++[⟨k,src,pl,.agr a.b⟩]) (x,U)
theorem Zo0{a:Acc}(hp:x.place=some pl)(hU:U.length+1<=SZ)(h:Q .none ⟨fA m hs (accF k pl x U src a).2 k (accF k pl x U src a).1 []⟩):
  CW tb.P (n+2) 259 [.ref 0,.ref 2,.int src,a.v] ⟨fA m hs U k x []⟩ Q E:=by
 unfold accF at h;refine Zac _ _ _ f259 rfl<|Zby (b:=bLe x.bal a.b) (λc=>?_) λc=>?_
 ·rw[ZdO c]at h;refine⟨rfl,Bq rfl,?_⟩;refine⟨rfl,Bq rfl,?_⟩;refine⟨rfl,Bq rfl,?_⟩;refine⟨Bq rfl,?_⟩;refine Zbi (a:=.int k) (p:=.int pl) rfl (ZaG hp) (by rw[ZaT];exact hU) ?_;show Q .none ⟨some (folkC m hs)::some (.list<|lV U++[ltr (Cont.agr a.b).word (.int k) (.int pl) (Cont.agr a.b).v<|.int src])::(fA m hs U k { x with bal:=a.b,still:=true,agd:=some a } []).drop 2⟩;rw[ZdH];exact h
 ·rw[ZdJ c]at h;exact h
theorem f242:tb.P.fn 242=some Za7:=by kernel_rfl
end
def rwV(l:List (List Msg)):List V:=l.map λr=>.lst<|mV r
theorem ZlM(l:List (List Msg)):(rwV l).length=l.length:=Lm ..
section
variable {U:List Letter}{x:Hd}{o:Off}
theorem Zmf(K:CT)(h:Int)(best:Option Acc)(rows:List (List Msg))(lo:Loc)(Q:Yf)(E:EP)(h1:lo 108=some (.ref 2))(h2:lo 21=some (.ref 19))(h3:lo 144=some (aV best))(hz:rows.length<SZ)
  (hq:∀lo':Loc,lo' 108=some (.ref 2)->lo' 21=some (.ref 19)->lo' 144=some (aV<|match prG o.prom h with |none=>best |some p=>bst best p.2)->Q .next ⟨⟨fA m hs U k { x with off:=some o } [some<|.list<|rwV (match prG o.prom h with |none=>rows |some p=>rows++[p.1])]⟩,lo'⟩):
  wpSs tb.P K Zav ⟨⟨fA m hs U k { x with off:=some o } [some<|.list<|rwV rows]⟩,upd lo 20<|.int h⟩ Q E:=by
 refine Zaa (o:=lo 108) h1<|⟨Zd4 o.prom h,?_⟩;show Br ((dKeys<|prV o.prom).any λz=>eqD z<|.int h) _ _;rw[Zn6]
 induction e:prG o.prom h with
 |none=>
  rw[e]at hq;exact hq _ h1 h2 h3
 |some p=>
  rw[e]at hq;refine Zaa (o:=lo 108) h1<|⟨Zd4 o.prom h,?_⟩;refine Zaa (o:=dGet (prV o.prom)<|.int h) (a:=prW p) (by rw[ZlW,e];rfl)<|Zaa (o:=lo 21) h2<|⟨rfl,by rw[ZlM];exact hz,?_⟩
  have e1:rwV rows++[.lst<|mV p.1]=rwV (rows++[p.1]):=by unfold rwV;rw[map_append];rfl
  show wpSs tb.P K _ ⟨⟨fA m hs U k { x with off:=some o } [some<|.list<|rwV rows++[.lst<|mV p.1]]⟩,upd (upd (upd lo 20<|.int h) 23<|.lst<|mV p.1) 119<|aV p.2⟩ _ E;rw[e1];obtain⟨row,a⟩:=p
  induction a with
  |none=>exact⟨rfl,hq _ h1 h2 h3⟩
  |some a=>
   refine⟨rfl,?_⟩;refine Zaa (o:=lo 144) h3 ?_
   induction best with
   |none=>exact⟨rfl,hq _ h1 h2 rfl⟩
   |some b=>
    refine⟨rfl,?_⟩;refine Zaa (o:=lo 144) h3<|Zby (b:=bLt b.b a.b) (λc=>?_) λc=>?_
    ·refine hq _ h1 h2 ?_;show some a.v=some (aV<|cond (bLt b.b a.b) (some a)<|some b);rw[c];rfl
    ·refine hq _ h1 h2 ?_;show lo 144=some (aV<|cond (bLt b.b a.b) (some a)<|some b);rw[c];exact h3
theorem Zlu(K:CT)(to:List V)(Q:Yf):∀(vs:List Int)(best:Option Acc)(rows:List (List Msg))(lo:Loc),lo 108=some (.ref 2)->lo 21=some (.ref 19)->lo 144=some (aV best)->rows.length+vs.length<=SZ->
  (∀lo':Loc,lo' 108=some (.ref 2)->lo' 21=some (.ref 19)->lo' 144=some (aV (pfGo o.prom vs best rows).1)->Q .next ⟨⟨fA m hs U k { x with off:=some o } [some<|.list<|rwV (pfGo o.prom vs best rows).2]⟩,lo'⟩)->
  loopGo (λv σ2 k=>bindT [20] v σ2 λσ3=>wpSs tb.P K Zav σ3 k noE) (still (.lst to) to) (iV vs) ⟨⟨fA m hs U k { x with off:=some o } [some<|.list<|rwV rows]⟩,lo⟩ Q:=by
 intro zz0
 induction zz0 with
 |nil=>
  intro best rows lo h1 h2 h3 hz h;exact⟨rfl,h lo h1 h2 h3⟩
 |cons v vs ih=>
  intro best rows lo h1 h2 h3 hz h;rw[Lc]at hz;refine⟨rfl,Zmf K v best rows lo _ _ h1 h2 h3 (by exact la1 hz) λlo' q1 q2 q3=>?_⟩;refine ih _ _ lo' q1 q2 q3 (by induction prG o.prom v with |none=>show rows.length+_<=_;exact la3 hz |some p=>show(rows++[p.1]).length+_<=_;rw[La];show rows.length+1+_<=_;exact la2 hz) λlo'' w1 w2 w3=>?_;have h:=h lo'' w1 w2;unfold pfGo at h
  induction e:prG o.prom v with
  |none=>rw[e]at h w3;exact h w3
  |some p=>rw[e]at h w3;exact h w3
theorem ZiY(K:CT)(H:Hp)(us:List V)(Q:Yf)(hi:items H (.ref 19)=some us):∀(rows:List (List Msg))(mst:List Msg)(lo:Loc),lo 108=some (.ref 2)->lo 145=some (.lst<|mV mst)->
  (∀lo':Loc,lo' 108=some (.ref 2)->lo' 145=some (.lst<|mV<|lng rows mst)->Q .next ⟨H,lo'⟩)->
  loopGo (λv σ2 k=>bindT [23] v σ2 λσ3=>wpSs tb.P K ZaS σ3 k noE) (still (.ref 19) us) (rwV rows) ⟨H,lo⟩ Q:=by
 intro zz0
 induction zz0 with
 |nil=>
  intro mst lo h1 h2 h;exact⟨hi,h lo h1 h2⟩
 |cons r rows ih=>
  intro mst lo h1 h2 h;refine⟨hi,?_⟩;refine Zaa (o:=lo 145) h2<|Zby (b:=decide<|((mV mst).length:Int)<(mV r).length) (λc=>?_) λc=>?_
  ·rw[Zan,Zan]at c;refine ih r _ h1 rfl λlo' q1 q2=>h lo' q1 ?_;unfold lng;rw[ZdO c];exact q2
  ·rw[Zan,Zan]at c;refine ih mst _ h1 h2 λlo' q1 q2=>h lo' q1 ?_;unfold lng;rw[ZdJ c];exact q2
structure PfOk(ms:List Int)(o:Off):Prop where
 hz:ms.length<=50
 ne:(pfGo o.prom ms none []).1=none->(pfGo o.prom ms none []).2≠[]
 hh:o.hs.length<=SZ
 hr:(pfF ms o).row.length<=SZ
theorem Zqc(p:PfOk x.ms o)(h:∀g,Q (pfF x.ms o).v ⟨fA m hs U k { x with off:=some o } g⟩):CW tb.P (n+1) 242 [.ref 2] ⟨fA m hs U k { x with off:=some o } []⟩ Q E:=by
 obtain⟨hz,ne,hh,hr⟩:=p;have h:=h [some<|.list<|rwV (pfGo o.prom x.ms none []).2];refine Zac _ _ _ f242 rfl<|⟨Bq rfl,?_⟩;refine Zlu (CW tb.P n) (iV x.ms) _ x.ms none [] _ rfl rfl rfl (by show 0+_<=_;unfold SZ;exact lf4<|la7 hz rfl) λlo h1 h2 h3=>Zaa (o:=lo 144) h3 ?_;unfold pfF at h hr
 induction e:(pfGo o.prom x.ms none []).1 with
 |some a=>
  rw[e]at h h3;refine⟨rfl,?_⟩;exact Zaa (o:=lo 144) h3<|h
 |none=>
  rw[e]at h h3 hr;have ne:=ne e;refine⟨rfl,?_⟩;refine Zaa (o:=lo 21) h2 ?_
  induction q:(pfGo o.prom x.ms none []).2 using List.casesOn with
  |nil=>exact absurd q ne
  |cons r0 rs=>
   rw[q]at h hr;refine Zaa (o:=pyIdx ((0:Nat):Int) (rwV (r0::rs)).length) (Zal<|Nat.succ_pos _)<|Zaa (o:=lo 21) h2<|ZiY (CW tb.P n) _ (rwV (r0::rs)) _ rfl (r0::rs) r0 _ h1 rfl λlo' q1 q2=>Zaa (o:=lo' 108) q1 ?_;refine⟨by rw[Zaj];exact hh,?_⟩;refine Zaa (o:=lo' 145) q2<|⟨by rw[Zan];exact hr,?_⟩;exact⟨Bq rfl,h⟩
end
def enF(ms:List Int)(n:Nat):Bool:=decide<|fdiv (ms.length:Int) 2+1<=(n:Int)
def prom2(k pl:Int)(x:Hd)(U:List Letter)(b:Bal)(o:Off):Hd×List Letter:=cond (enF x.ms o.prom.length)
 ({ x with off:=some { o with val:=some (pfF x.ms o) } },U++sendF k pl x.ms (.acc ⟨b,pfF x.ms o⟩)) ({ x with off:=some o },U)
def promO(k pl:Int)(x:Hd)(U:List Letter)(src:Int)(b:Bal)(row:List Msg)(a:Option Acc)(o:Off):Hd×List Letter:=
 cond (bEq o.b b) (cond o.val.isNone (prom2 k pl x U b { o with prom:=prS o.prom src (row,a) }) ({ x with off:=some o },U)) ({ x with off:=some o },U)
def promF(k pl:Int)(x:Hd)(U:List Letter)(src:Int)(b:Bal)(row:List Msg)(a:Option Acc):Hd×List Letter:=match x.off with
 |none=>(x,U)
 |some o=>promO k pl x U src b row a o
noncomputable def agS:List Int->Int->List Int
 | [],k=>[k]
 |p::r,k=>cond (decide<|p=k) (p::r) (p::agS r k)
theorem Zft(l:List Int):(agV l).length=l.length:=Lm ..
theorem ZfH(l:List Int)(x:Int):keyOk (dKeys<|agV l) (.int x)=true:=by
 have:∀l:List Int,(dKeys<|agV l).all isI=true:=λl=>by
  induction l with
  |nil=>rfl
  |cons p r ih=>exact ih
 exact this l
theorem Zmx(x:Int):∀l:List Int,dSet (agV l) (.int x) (.bool true)=agV (agS l x):=by
 intro zz0
 induction zz0 with
 |nil=>
  exact rfl
 |cons p r ih=>
  show cond (decide<|p=x) ((V.int p,V.bool true)::agV r) ((V.int p,V.bool true)::dSet (agV r) (.int x) (.bool true))=agV (cond (decide<|p=x) (p::r) (p::agS r x));rw[ih]
  induction decide (p=x) <;> rfl
def agHas(l:List Int)(x:Int):Bool:=(dKeys (agV l)).any λz=>eqD z<|.int x
theorem Zip(x:Int):∀l:List Int,agHas l x=decide (x∈l):=by
 intro zz0
 induction zz0 with
 |nil=>
  exact rfl
 |cons p r ih=>
  show(decide (p=x) ||agHas r x)=_;rw[ih]
  by_cases c:p=x
  ·subst c;rw[Dq rfl,Dq<|List.mem_cons_self ..];rfl
  ·rw[Df c,Bool.false_or];exact decide_eq_decide.mpr ⟨λh=>.tail _ h,λh=>(Mc h).elim (λz=>absurd z.symm c) id⟩
def witF(ms:List Int)(ag:List Int):List Int:=ms.filter<|agHas ag
def agr2(k pl:Int)(x:Hd)(U:List Letter)(o:Off)(v:Val):Hd×List Letter:=cond (enF x.ms o.agr.length)
 ({ x with off:=some { o with over:=true } },U++sendF k pl (mkSet<|x.ms++v.hs) (.ent ⟨pl+1,v.hs,v.row,witF x.ms o.agr⟩)) ({ x with off:=some o },U)
def agrO(k pl:Int)(x:Hd)(U:List Letter)(src:Int)(b:Bal)(o:Off):Hd×List Letter:=
 cond (bEq o.b b) (cond o.over ({ x with off:=some o },U)<|agr2 k pl x U { o with agr:=agS o.agr src } (o.val.getD ⟨[],[]⟩)) ({ x with off:=some o },U)
def agrF(k pl:Int)(x:Hd)(U:List Letter)(src:Int)(b:Bal):Hd×List Letter:=match x.off with
 |none=>(x,U)
 |some o=>agrO k pl x U src b o
section
variable {U:List Letter}{x:Hd}{o:Off}
theorem f258:tb.P.fn 258=some ZbJ:=by kernel_rfl
theorem ZoB{b:Bal}{row:List Msg}{a:Option Acc}(hp:x.place=some pl)(hU:U.length+50<=SZ)(hl:o.prom.length<SZ)(hz:x.ms.length<=50)
  (hf:bEq o.b b=true->o.val=none->enF x.ms (prS o.prom src (row,a)).length=true->PfOk x.ms { o with prom:=prS o.prom src (row,a) })
  (h:∀g,Q .none ⟨fA m hs (promO k pl x U src b row a o).2 k (promO k pl x U src b row a o).1 g⟩):
  CW tb.P (n+2) 258 [.ref 0,.ref 2,.int src,.tup [bV b,.lst<|mV row,aV a]] ⟨fA m hs U k { x with off:=some o } []⟩ Q E:=by
 unfold promO at h;refine Zac _ _ _ f258 rfl<|⟨rfl,?_⟩;refine Zby (b:=!bEq o.b b) (λc=>?_) λc=>?_
 ·have c:bEq o.b b=false:=by induction q:bEq o.b b with |false=>rfl |true=>rw[q]at c;exact noT c
  rw[ZdJ c]at h;exact h []
 have cb:bEq o.b b=true:=by induction q:bEq o.b b with |true=>rfl |false=>rw[q]at c;exact noF c
 rw[ZdO cb]at h
 have en:isNone (vV o.val)=o.val.isNone:=by induction o.val <;> rfl
 refine⟨show solid (vV o.val)=true by induction o.val <;> rfl,?_⟩;refine Zby (b:=!isNone (vV o.val)) (λc=>?_) λc=>?_
 ·rw[en]at c
  have c:o.val.isNone=false:=by induction q:o.val.isNone with |false=>rfl |true=>rw[q]at c;exact noT c
  rw[ZdJ c]at h;exact h []
 rw[en]at c
 have cv:o.val.isNone=true:=by induction q:o.val.isNone with |true=>rfl |false=>rw[q]at c;exact noF c
 rw[ZdO cv]at h;have ev:o.val=none:=Option.isNone_iff_eq_none.mp cv;unfold prom2 at h;refine⟨Bq rfl,?_⟩;refine⟨Zd4 o.prom src,by rw[Zfq];exact hl,?_⟩;show wpSs tb.P _ _ ⟨⟨some (folkC m hs)::some (.list<|lV U)::some (.inst 59<|hFL k { x with off:=some o } l0)::some (.list<|mV x.row)::some (.dict<|hoV x.holds)::some (.list<|gV x.gone)::some (.inst 155<|oFL o 7 8)::some (.dict<|dSet (prV o.prom) (.int src)<|prW (row,a))::(fA m hs U k { x with off:=some o } []).drop 8⟩,_⟩ _ _;rw[Zl0];refine Zed<|gv rfl<|Zby (b:=decide<|fdiv ((iV x.ms).length:Int) 2+1<=((prV<|prS o.prom src (row,a)).length:Int)) (λc=>?_) λc=>?_
 ·rw[Zaj,Zfq]at c;have c:enF x.ms (prS o.prom src (row,a)).length=true:=c;rw[ZdO c]at h;refine Zqc (x:=x) (o:={ o with prom:=prS o.prom src (row,a) }) (hf cb ev c) λg=>gv rfl ?_;refine⟨rfl,Bq rfl,?_⟩;refine⟨Bq rfl,?_⟩;refine Zbi (a:=.int k) (p:=.int pl) (to:=iV x.ms) rfl (ZaG hp) (by rw[ZaT,Zaj];exact la9 hU hz) ?_;show Q .none ⟨some (folkC m hs)::some (.list<|lV U++(iV x.ms).map (ltr (Cont.acc ⟨b,pfF x.ms { o with prom:=prS o.prom src (row,a) }⟩).word (.int k) (.int pl) (Cont.acc ⟨b,pfF x.ms { o with prom:=prS o.prom src (row,a) }⟩).v))::(fA m hs U k { x with off:=some { o with prom:=prS o.prom src (row,a),val:=some (pfF x.ms { o with prom:=prS o.prom src (row,a) }) } } g).drop 2⟩;rw[Zb3];exact h g
 ·rw[Zaj,Zfq]at c;have c:enF x.ms (prS o.prom src (row,a)).length=false:=c;rw[ZdJ c]at h;exact h []
theorem Zne{b:Bal}{row:List Msg}{a:Option Acc}(h:Q .none ⟨fA m hs U k { x with off:=none } []⟩):
  CW tb.P (n+2) 258 [.ref 0,.ref 2,.int src,.tup [bV b,.lst<|mV row,aV a]] ⟨fA m hs U k { x with off:=none } []⟩ Q E:=by
 exact Zac _ _ _ f258 rfl<|⟨rfl,h⟩
theorem f260:tb.P.fn 260=some Zbw:=by kernel_rfl
noncomputable abbrev witT:PC:=.e<|.cmp .isIn (.loc 20) (.attr (.loc 120) 149)
theorem ZjI(K:CT)(H:Hp)(ag:List Int)(ms:List V)(Q:Yl)(g6:∃fs,H.get 6=some (.inst 155 fs)/\lk fs 149=some (.ref 8))(g8:H.get 8=some (.dict<|agV ag)):∀(xs acc:List Int)(lo:Loc),lo 120=some (.ref 6)->acc.length+xs.length<=SZ->(∀lo':Loc,Q (iV<|acc++witF xs ag) ⟨H,lo'⟩)->
  compGo (λσ2 k=>wpC tb.P K noE (.some witT) σ2 k) (λσ2 k=>wpE tb.P K noE (.loc 20) σ2 k) [20] (still (.lst ms) ms) (iV xs) (iV acc) ⟨H,lo⟩ Q:=by
 intro zz0
 induction zz0 with
 |nil=>
  intro acc lo h1 hz h;have h:=h lo;rw[show witF [] ag=[] from rfl,append_nil]at h;exact⟨rfl,by rw[Zaj];exact hz,h⟩
 |cons x xs ih=>
  intro acc lo h1 hz h;rw[Lc]at hz;refine⟨rfl,by rw[Zaj];exact la1 hz,?_⟩;refine Zaa (o:=lo 120) h1 ?_;obtain⟨fs,g6,g6'⟩:=g6;refine Zaa (o:=cI<|H.get 6) (a:=(155,fs)) (by rw[g6];rfl)<|Zaa (o:=lk fs 149) g6' ?_
  show(match H.get 8 with
   |some (.list xs)=>_
   |some (.dict kvs)=>Nd (keyOk (dKeys kvs) (.int x)=true) _
   |_=>False)
  rw[g8];refine⟨ZfH ag x,?_⟩;refine Zby (b:=agHas ag x) (λc=>?_) λc=>?_
  ·have e:iV acc++[.int x]=iV (acc++[x]):=by unfold iV;rw[map_append];rfl
   show compGo _ _ [20] _ (iV xs) (iV acc++[.int x]) ⟨_,upd lo 20<|.int x⟩ Q;rw[e];refine ih (acc++[x]) _ h1 (by rw[La];show acc.length+1+_<=_;exact la2 hz) λlo'=>?_;have h:=h lo';rw[show witF (x::xs) ag=x::witF xs ag by unfold witF;rw[List.filter_cons,c];rfl,List.append_cons]at h;exact h
  ·refine ih acc _ h1 (by exact la3 hz) λlo'=>?_;have h:=h lo';rw[show witF (x::xs) ag=witF xs ag by unfold witF;rw[List.filter_cons,c];rfl]at h;exact h
theorem ZiA(ms ag:List Int):(witF ms ag).length<=ms.length:=List.length_filter_le ..
theorem Zo8{b:Bal}(h:Q .none ⟨fA m hs U k { x with off:=none } []⟩):
  CW tb.P (n+2) 260 [.ref 0,.ref 2,.int src,bV b] ⟨fA m hs U k { x with off:=none } []⟩ Q E:=by
 exact Zac _ _ _ f260 rfl<|⟨rfl,h⟩
structure AgOk(ms:List Int)(v:Val):Prop where
 h1:ms.length<64
 h2:v.hs.length<64
 u:uniK ms v.hs=true
 s:(mkSet<|ms++v.hs).length<=50
 r:v.row.length<=SZ
theorem Zph{b:Bal}(hp:x.place=some pl)(hU:U.length+50<=SZ)(hl:o.agr.length<SZ)(hz:x.ms.length<=50)
  (hf:bEq o.b b=true->o.over=false->enF x.ms (agS o.agr src).length=true->∃v,o.val=some v/\AgOk x.ms v)
  (h:Q .none ⟨fA m hs (agrO k pl x U src b o).2 k (agrO k pl x U src b o).1 []⟩):
  CW tb.P (n+2) 260 [.ref 0,.ref 2,.int src,bV b] ⟨fA m hs U k { x with off:=some o } []⟩ Q E:=by
 unfold agrO at h;refine Zac _ _ _ f260 rfl<|⟨rfl,?_⟩;refine Zby (b:=!bEq o.b b) (λc=>?_) λc=>?_
 ·have c:bEq o.b b=false:=by induction q:bEq o.b b with |false=>rfl |true=>rw[q]at c;exact noT c
  rw[ZdJ c]at h;exact h
 have cb:bEq o.b b=true:=by induction q:bEq o.b b with |true=>rfl |false=>rw[q]at c;exact noF c
 rw[ZdO cb]at h;refine Zby (b:=o.over) (λc=>?_) λc=>?_
 ·rw[ZdO c]at h;exact h
 rw[ZdJ c]at h;have co:=c;unfold agr2 at h;refine⟨ZfH o.agr src,by rw[Zft];exact hl,?_⟩;show wpSs tb.P _ _ ⟨⟨some (folkC m hs)::some (.list<|lV U)::some (.inst 59<|hFL k { x with off:=some o } l0)::some (.list<|mV x.row)::some (.dict<|hoV x.holds)::some (.list<|gV x.gone)::some (.inst 155<|oFL o 7 8)::some (.dict<|prV o.prom)::some (.dict<|dSet (agV o.agr) (.int src)<|.bool true)::(fA m hs U k { x with off:=some o } []).drop 9⟩,_⟩ _ _;rw[Zmx];refine Zed<|gv rfl<|Zby (b:=decide<|fdiv ((iV x.ms).length:Int) 2+1<=((agV<|agS o.agr src).length:Int)) (λc=>?_) λc=>?_
 ·rw[Zaj,Zft]at c;have c:enF x.ms (agS o.agr src).length=true:=c;rw[ZdO c]at h;obtain⟨v,ev,ok⟩:=hf cb co c;rw[show o.val.getD ⟨[],[]⟩=v by rw[ev];rfl]at h;refine⟨rfl,Bq rfl,?_⟩;refine Zaa (o:=aTup<|vV o.val) (a:=[.lst<|iV v.hs,.lst<|mV v.row]) (by rw[ev];rfl)<|⟨rfl,?_⟩;refine⟨rfl,?_⟩;refine Zaa (o:=intsOf<|iV x.ms) (Zc4 _)<|⟨ok.h1,?_⟩;refine Zaa (o:=intsOf<|iV v.hs) (Zc4 _)<|⟨ok.h2,ok.u,?_⟩;refine⟨by rw[Lm];exact Nt ok.s (by unfold SZ;exact Bq rfl),?_⟩;refine ZjI (CW tb.P<|n+1) _ (agS o.agr src) (iV x.ms) _ ⟨_,rfl,rfl⟩ rfl x.ms [] _ rfl (by show 0+_<=_;unfold SZ;exact lf4<|la7 hz rfl) λlo'=>⟨by rw[Zaj,List.nil_append];exact Nt (ZiA _ _)<|Nt hz (by unfold SZ;exact Bq rfl),?_⟩;refine Zaa (o:=see _<|plV x.place) (a:=.int pl) (by rw[hp];rfl)<|⟨by rw[Zaj];exact Nt (Ny ok.h2) (by unfold SZ;exact Bq rfl),?_⟩;refine⟨by rw[Zan];exact ok.r,?_⟩;refine⟨Bq rfl,?_⟩;refine Zbi (a:=.int k) (p:=.int pl) (to:=iV<|mkSet<|x.ms++v.hs) rfl (ZaG hp) (by rw[ZaT,Zaj];have:=ok.s;exact la9 hU this) ?_;show Q .none ⟨some (folkC m hs)::some (.list<|lV U++(iV<|mkSet<|x.ms++v.hs).map (ltr (Cont.ent ⟨pl+1,v.hs,v.row,witF x.ms<|agS o.agr src⟩).word (.int k) (.int pl) (Cont.ent ⟨pl+1,v.hs,v.row,witF x.ms<|agS o.agr src⟩).v))::(fA m hs U k { x with off:=some { o with agr:=agS o.agr src,over:=true } } []).drop 2⟩;rw[Zb3];exact h
 ·rw[Zaj,Zft]at c;have c:enF x.ms (agS o.agr src).length=false:=c;rw[ZdJ c]at h;exact h
end
theorem Zad{a b:Nat}(h:ble a b=true):a<=b:=Bq h
noncomputable def attrOk(P:Prog)(k nm:Nat):Bool:=match P.cls k with
 |some c=>c.attrs.contains nm
 |none=>false
theorem sa2{E:EP}{k:Nat}{v:V}{b:Option C}{Q:Yf}(hl:lo 108=some (.ref 2))(he:∀Q':Yq,Q' v ⟨⟨a::b::some (.inst k fs)::r'⟩,lo⟩->wpE P K E e ⟨⟨a::b::some (.inst k fs)::r⟩,lo⟩ Q')(hc:attrOk P k nm=true)(hs:st fs nm v=fs')(hz:fs.length<1000)
  (h:wpSs P K rest ⟨⟨a::b::some (.inst k fs')::r'⟩,lo⟩ Q E):wpSs P K (.cons (.assign (.attr (.loc 108) nm) e) rest) ⟨⟨a::b::some (.inst k fs)::r⟩,lo⟩ Q E:=by
 subst hs;refine he _<|Zaa (o:=lo 108) hl ?_;unfold attrOk at hc
 induction q:P.cls k with
 |none=>rw[q]at hc;exact noT hc
 |some c=>
  rw[q]at hc;exact Zaa (o:=P.cls k) q ⟨hc,hz,h⟩
noncomputable def begF(x:Hd):Hd:={ x with row:=[],took:=0,still:=false,bal:=(0, -1),agd:=none,off:=none,holds:=[] }
def intoF(x:Hd)(p:Option Int)(ms:List Int)(w:Option News):Hd:={ begF x with place:=p,ms:=ms,news:=w,hi:=p.getD x.hi }
noncomputable def l1:Lh:=⟨19,20,5,6,7,8⟩
def tA(x:Hd):List (Option C):=some (.list (mV x.row))::some (.dict (hoV x.holds))::some (.list (gV x.gone))::oC x.off::pC x.off::aC x.off::none::none::none::none::none::none::none::none::none::[none]
def fB(m:V)(hs:List V)(U:List Letter)(k:Int)(y x:Hd):List (Option C):=some (folkC m hs)::some (.list (lV U))::some (.inst 59 (hFL k x l1))::(tA y++[some (C.list []),some (C.dict [])])
section
variable {U:List Letter}{x:Hd}
theorem f238:tb.P.fn 238=some Zcp:=by kernel_rfl
theorem f239:tb.P.fn 239=some Zbv:=by kernel_rfl
theorem Zpn{b:Option C}(h:Q .none ⟨a::b::some (.inst 59<|hFL k (begF x) l1)::(tA x++[some<|C.list [],some<|C.dict []])⟩):CW tb.P (n+1) 238 [.ref 2] ⟨a::b::some (.inst 59<|hFL k x l0)::tA x⟩ Q E:=by
 exact Zac _ _ _ f238 rfl<|sa2 (v:=.ref 19) (fs':=[(109,.int k),(110,plV x.place),(111,.int x.hi),(17,.lst<|iV x.ms),(112,.int x.said),(113,.bool x.up),(114,.ref 5),(115,nV x.news),(23,.ref 19),(116,.int x.took),(117,.bool x.still),(118,bV x.bal),(119,aV x.agd),(120,oR x.off 6),(121,.ref 4)]) (r':=tA x++[some<|C.list []]) rfl (λQ' q=>⟨Zad rfl,q⟩) (by kernel_rfl) rfl (Zad rfl)<|sa2 (v:=.int 0) (fs':=[(109,.int k),(110,plV x.place),(111,.int x.hi),(17,.lst<|iV x.ms),(112,.int x.said),(113,.bool x.up),(114,.ref 5),(115,nV x.news),(23,.ref 19),(116,.int 0),(117,.bool x.still),(118,bV x.bal),(119,aV x.agd),(120,oR x.off 6),(121,.ref 4)]) (r':=tA x++[some<|C.list []]) rfl (λQ' q=>q) (by kernel_rfl) rfl (Zad rfl)<|sa2 (v:=.bool false) (fs':=[(109,.int k),(110,plV x.place),(111,.int x.hi),(17,.lst<|iV x.ms),(112,.int x.said),(113,.bool x.up),(114,.ref 5),(115,nV x.news),(23,.ref 19),(116,.int 0),(117,.bool false),(118,bV x.bal),(119,aV x.agd),(120,oR x.off 6),(121,.ref 4)]) (r':=tA x++[some<|C.list []]) rfl (λQ' q=>q) (by kernel_rfl) rfl (Zad rfl)<|sa2 (v:=.tup [.int 0,.int (-1)]) (fs':=[(109,.int k),(110,plV x.place),(111,.int x.hi),(17,.lst<|iV x.ms),(112,.int x.said),(113,.bool x.up),(114,.ref 5),(115,nV x.news),(23,.ref 19),(116,.int 0),(117,.bool false),(118,.tup [.int 0,.int (-1)]),(119,aV x.agd),(120,oR x.off 6),(121,.ref 4)]) (r':=tA x++[some<|C.list []]) rfl (λQ' q=>⟨Zad rfl,q⟩) (by kernel_rfl) rfl (Zad rfl)<|sa2 (v:=.none) (fs':=[(109,.int k),(110,plV x.place),(111,.int x.hi),(17,.lst<|iV x.ms),(112,.int x.said),(113,.bool x.up),(114,.ref 5),(115,nV x.news),(23,.ref 19),(116,.int 0),(117,.bool false),(118,.tup [.int 0,.int (-1)]),(119,.none),(120,oR x.off 6),(121,.ref 4)]) (r':=tA x++[some<|C.list []]) rfl (λQ' q=>q) (by kernel_rfl) rfl (Zad rfl)<|sa2 (v:=.none) (fs':=[(109,.int k),(110,plV x.place),(111,.int x.hi),(17,.lst<|iV x.ms),(112,.int x.said),(113,.bool x.up),(114,.ref 5),(115,nV x.news),(23,.ref 19),(116,.int 0),(117,.bool false),(118,.tup [.int 0,.int (-1)]),(119,.none),(120,.none),(121,.ref 4)]) (r':=tA x++[some<|C.list []]) rfl (λQ' q=>q) (by kernel_rfl) rfl (Zad rfl)<|sa2 (v:=.ref 20) (fs':=[(109,.int k),(110,plV x.place),(111,.int x.hi),(17,.lst<|iV x.ms),(112,.int x.said),(113,.bool x.up),(114,.ref 5),(115,nV x.news),(23,.ref 19),(116,.int 0),(117,.bool false),(118,.tup [.int 0,.int (-1)]),(119,.none),(120,.none),(121,.ref 20)]) (r':=tA x++[some<|C.list [],some<|C.dict []]) rfl (λQ' q=>⟨Zad rfl,rfl,q⟩) (by kernel_rfl) rfl (Zad rfl)<|h
theorem ZfZ{b:Option C}{p:Option Int}{w:Option News}(hz:ms.length<=SZ)(h:Q .none ⟨a::b::some (.inst 59<|hFL k (intoF x p ms w) l1)::(tA x++[some<|C.list [],some<|C.dict []])⟩):
  CW tb.P (n+2) 239 [.ref 2,plV p,.lst<|iV ms,nV w] ⟨a::b::some (.inst 59<|hFL k x l0)::tA x⟩ Q E:=by
 refine Zac _ _ _ f239 rfl<|Zpn<|gv rfl<|sa2 (v:=plV p) (fs':=[(109,.int k),(110,plV p),(111,.int x.hi),(17,.lst<|iV x.ms),(112,.int x.said),(113,.bool x.up),(114,.ref 5),(115,nV x.news),(23,.ref 19),(116,.int 0),(117,.bool false),(118,.tup [.int 0,.int (-1)]),(119,.none),(120,.none),(121,.ref 20)]) (r':=tA x++[some<|C.list [],some<|C.dict []]) rfl (λQ' q=>q) (by kernel_rfl) rfl (Zad rfl)<|sa2 (v:=.lst<|iV ms) (fs':=[(109,.int k),(110,plV p),(111,.int x.hi),(17,.lst<|iV ms),(112,.int x.said),(113,.bool x.up),(114,.ref 5),(115,nV x.news),(23,.ref 19),(116,.int 0),(117,.bool false),(118,.tup [.int 0,.int (-1)]),(119,.none),(120,.none),(121,.ref 20)]) (r':=tA x++[some<|C.list [],some<|C.dict []]) rfl (λQ' q=>⟨by rw[Zaj];exact hz,q⟩) (by kernel_rfl) rfl (Zad rfl)<|sa2 (v:=nV w) (fs':=[(109,.int k),(110,plV p),(111,.int x.hi),(17,.lst<|iV ms),(112,.int x.said),(113,.bool x.up),(114,.ref 5),(115,nV w),(23,.ref 19),(116,.int 0),(117,.bool false),(118,.tup [.int 0,.int (-1)]),(119,.none),(120,.none),(121,.ref 20)]) (r':=tA x++[some<|C.list [],some<|C.dict []]) rfl (λQ' q=>q) (by kernel_rfl) rfl (Zad rfl) ?_
 induction p with
 |none=>exact⟨rfl,h⟩
 |some i=>
  refine⟨rfl,?_⟩;exact sa2 (rest:=.nil) (v:=.int i) (fs':=[(109,.int k),(110,.int i),(111,.int i),(17,.lst<|iV ms),(112,.int x.said),(113,.bool x.up),(114,.ref 5),(115,nV w),(23,.ref 19),(116,.int 0),(117,.bool false),(118,.tup [.int 0,.int (-1)]),(119,.none),(120,.none),(121,.ref 20)]) (r':=tA x++[some<|C.list [],some<|C.dict []]) rfl (λQ' q=>q) (by kernel_rfl) rfl (Zad rfl)<|h
def memF(l:List Int)(k:Int):Bool:=(iV l).any λz=>eqD z<|.int k
theorem Zck:∀l:List Int,deepL (deepN H<|n+1) (iV l)=some (iV l):=by
 intro zz0
 induction zz0 with
 |nil=>
  exact rfl
 |cons i r ih=>
  show(match some (V.int i) with |some y=>(match deepL (deepN H<|n+1) (iV r) with |some ys=>some (y::ys) |none=>none) |none=>none)=_;rw[ih];rfl
theorem f261:tb.P.fn 261=some ZbY:=by kernel_rfl
theorem Zll{w:News}(hp:x.place=none)(c:(memF w.hs k&&decide (x.hi<w.no))=false)(h:Q .none ⟨fA m hs U k x []⟩):CW tb.P (n+3) 261 [.ref 0,.ref 2,w.v] ⟨fA m hs U k x []⟩ Q E:=by
 obtain⟨xp,xhi,xms,xsaid,xup,xgone,xnews,xrow,xtook,xstill,xbal,xagd,xoff,xholds⟩:=x;obtain rfl:=hp;refine Zac _ _ _ f261 rfl<|⟨rfl,?_⟩;refine Zaa (o:=deepL (deepN _ 11)<|iV w.hs) (Zck w.hs)<|Zby (b:=memF w.hs k) (λd=>?_) λd=>?_
 ·exact Zdv (b:=decide<|xhi<w.no) (by rw[d,Bool.true_and]at c;exact c)<|h
 ·exact h
theorem Zos{w:News}(hp:x.place=none)(c:(memF w.hs k&&decide (x.hi<w.no))=true)(hz:w.hs.length<=SZ)(h:Q .none ⟨fB m hs U k x<|intoF x (some w.no) w.hs<|some w⟩):CW tb.P (n+3) 261 [.ref 0,.ref 2,w.v] ⟨fA m hs U k x []⟩ Q E:=by
 obtain⟨xp,xhi,xms,xsaid,xup,xgone,xnews,xrow,xtook,xstill,xbal,xagd,xoff,xholds⟩:=x;obtain rfl:=hp;refine Zac _ _ _ f261 rfl<|⟨rfl,?_⟩;refine Zaa (o:=deepL (deepN _ 11)<|iV w.hs) (Zck w.hs) ?_;have c:=An c;exact Zeu (b:=memF w.hs k) c.1<|Zeu (b:=decide<|xhi<w.no) c.2<|ZfZ (k:=k) (x:=⟨none,xhi,xms,xsaid,xup,xgone,xnews,xrow,xtook,xstill,xbal,xagd,xoff,xholds⟩) (p:=some w.no) (ms:=w.hs) (w:=some w) hz<|gv rfl h
theorem ZkO{w:News}(hp:x.place=some pl)(c:pl≠w.no - 1)(h:Q .none ⟨fA m hs U k x []⟩):CW tb.P (n+3) 261 [.ref 0,.ref 2,w.v] ⟨fA m hs U k x []⟩ Q E:=by
 obtain⟨xp,xhi,xms,xsaid,xup,xgone,xnews,xrow,xtook,xstill,xbal,xagd,xoff,xholds⟩:=x;obtain rfl:=hp;refine Zac _ _ _ f261 rfl<|⟨rfl,?_⟩;exact Zeu (b:=!decide (pl=w.no - 1)) (by rw[Df c];rfl)<|h
noncomputable def goneF(x:Hd)(pl:Int)(row:List Msg):Hd:={ x with gone:=x.gone++[(pl,x.ms,row)] }
def onF(k pl:Int)(x:Hd)(w:News):Hd:=cond (memF w.hs k) (intoF (goneF x pl w.row) (some w.no) w.hs (some w))<|intoF (goneF x pl w.row) none [] none
theorem Zn8{w:News}(hp:x.place=some pl)(c:pl=w.no - 1)(hz:w.hs.length<=SZ)(hm:x.ms.length<=SZ)(hr:w.row.length<=SZ)(hg:x.gone.length<SZ)(h:Q .none ⟨fB m hs U k (goneF x pl w.row)<|onF k pl x w⟩):CW tb.P (n+3) 261 [.ref 0,.ref 2,w.v] ⟨fA m hs U k x []⟩ Q E:=by
 have eg:gV x.gone++[.tup [.int pl,.lst<|iV x.ms,.lst<|mV w.row]]=gV (x.gone++[(pl,x.ms,w.row)]):=by unfold gV;rw[map_append];rfl
 have lg:(gV x.gone).length=x.gone.length:=Lm ..;obtain⟨xp,xhi,xms,xsaid,xup,xgone,xnews,xrow,xtook,xstill,xbal,xagd,xoff,xholds⟩:=x;obtain rfl:=hp;refine Zac _ _ _ f261 rfl<|⟨rfl,?_⟩;refine Zdv (b:=!decide (pl=w.no - 1)) (by rw[Dq c];rfl)<|⟨rfl,?_⟩;refine⟨by rw[Zaj];exact hm,?_⟩;refine⟨by rw[Zan];exact hr,?_⟩;refine⟨Zad rfl,?_⟩;refine⟨by rw[lg];exact hg,?_⟩;show wpSs tb.P (CW tb.P<|n+2) _ ⟨⟨some (folkC m hs)::some (.list<|lV U)::some (.inst 59<|hFL k ⟨some pl,xhi,xms,xsaid,xup,xgone,xnews,xrow,xtook,xstill,xbal,xagd,xoff,xholds⟩ l0)::some (.list<|mV xrow)::some (.dict<|hoV xholds)::some (.list<|gV xgone++[.tup [.int pl,.lst<|iV xms,.lst<|mV w.row]])::oC xoff::pC xoff::aC xoff::none::none::none::none::none::none::none::none::none::[none]⟩,_⟩ _ _;rw[eg];refine Zaa (o:=deepL (deepN _ 11)<|iV w.hs) (Zck w.hs) ?_;unfold onF at h;refine Zby (b:=memF w.hs k) (λd=>?_) λd=>?_
 ·rw[ZdO d]at h;exact ZfZ (k:=k) (x:=goneF ⟨some pl,xhi,xms,xsaid,xup,xgone,xnews,xrow,xtook,xstill,xbal,xagd,xoff,xholds⟩ pl w.row) (p:=some w.no) (ms:=w.hs) (w:=some w) hz<|gv rfl h
 ·rw[ZdJ d]at h;refine⟨Zad rfl,?_⟩;exact ZfZ (k:=k) (x:=goneF ⟨some pl,xhi,xms,xsaid,xup,xgone,xnews,xrow,xtook,xstill,xbal,xagd,xoff,xholds⟩ pl w.row) (p:=none) (ms:=[]) (w:=none) (Zad rfl)<|gv rfl h
end
noncomputable def mx(a b:Int):Int:=if b > a then b else a
noncomputable def mn(a b:Int):Int:=if b<a then b else a
noncomputable def hoS:List (Int×Int)->Int->Int->List (Int×Int)
 | [],k,v=>[(k,v)]
 |p::r,k,v=>cond (decide<|p.1=k) ((p.1,v)::r) (p::hoS r k v)
theorem Zmc(x v:Int):∀hd:List (Int×Int),dSet (hoV hd) (.int x) (.int v)=hoV (hoS hd x v):=by
 intro zz0
 induction zz0 with
 |nil=>
  exact rfl
 |cons p r ih=>
  show cond (decide<|p.1=x) ((V.int p.1,V.int v)::hoV r) ((V.int p.1,V.int p.2)::dSet (hoV r) (.int x) (.int v))=hoV (cond (decide<|p.1=x) ((p.1,v)::r) (p::hoS r x v));rw[ih]
  induction decide (p.1=x) <;> rfl
def stepF(k pl:Int)(x:Hd)(U:List Letter)(src:Int):Cont->Hd×List Letter
 |.wish m=>wishF k pl x U m
 |.hold m p=>holdF k pl x U src m p
 |.have_ c=>lookF k pl { x with holds:=hoS x.holds src (mx c<|hoD x.holds src) } U
 |.take c=>({ x with took:=mx x.took (mn c x.row.length) },U)
 |.prep b=>prepF k pl x U src b
 |.prom b row a=>promF k pl x U src b row a
 |.acc a=>accF k pl x U src a
 |.agr b=>agrF k pl x U src b
 |.ent _=>(x,U)
def entF(k:Int)(x:Hd)(w:News):Hd:=match x.place with
 |none=>cond (memF w.hs k&&decide (x.hi<w.no)) (intoF x (some w.no) w.hs<|some w) x
 |some pl=>cond (decide<|pl=w.no - 1) (onF k pl x w) x
def hereF(k:Int)(x:Hd)(U:List Letter)(L:Letter):Hd×List Letter:=match x.place with
 |none=>(x,U)
 |some p=>cond (decide<|p=L.pl) (stepF k p x U L.from_ L.c) (x,U)
noncomputable def newsOf:Cont->Option News
 |.ent w=>some w
 |_=>none
def comeF(k:Int)(x:Hd)(U:List Letter)(L:Letter):Hd×List Letter:=cond x.up (match newsOf L.c with
  |some w=>(entF k x w,U)
  |none=>hereF k x U L) (x,U)
noncomputable def l2:Lh:=⟨3,4,5,19,20,21⟩
def fC(m:V)(hs:List V)(U:List Letter)(k:Int)(y:Hd)(o:Off):List (Option C):=some (folkC m hs)::some (.list (lV U))::some (.inst 59 (hFL k { y with off:=some o } l2))::(tA y++[some (C.inst 155 (oFL o 20 21)),some (C.dict []),some (C.dict [])])
inductive SM(m:V)(hs:List V)(k:Int)(y:Hd)(U:List Letter)(x:Hd):Hp->Prop
 |a (g:List (Option C)) (ho:x.off.isSome=y.off.isSome):SM m hs k y U x ⟨fA m hs U k x g⟩
 |b (z:Hd) (ho:x.off=none) (hr:x.row=[]) (hh:x.holds=[]) (hg:x.gone=z.gone):SM m hs k y U x ⟨fB m hs U k z x⟩
 |c (o:Off) (hx:x={ y with off:=some o }) (hp:o.prom=[]) (ha:o.agr=[]):SM m hs k y U x ⟨fC m hs U k y o⟩
theorem Za5{p q:Hd×List Letter}{v:Bool}(h1:p.1.off.isSome=v)(h2:q.1.off.isSome=v):(cond b p q).1.off.isSome=v:=by induction b <;> assumption
theorem Zfw{x:Hd}{U:List Letter}:(lookF k pl x U).1.off.isSome=x.off.isSome:=Za5 rfl rfl
theorem ZiH{x:Hd}{U:List Letter}{c:Cont}:(stepF k pl x U src c).1.off.isSome=x.off.isSome:=by
 induction c with
 |wish m=>exact Za5 rfl<|Za5 rfl Zfw
 |hold m p=>exact Za5 rfl<|Za5 rfl<|Za5 rfl rfl
 |have_ c=>exact Zfw
 |take c=>rfl
 |prep b=>exact Za5 rfl rfl
 |prom b row a=>
  show(promF k pl x U src b row a).1.off.isSome=_;unfold promF
  induction e:x.off with
  |none=>show x.off.isSome=_;rw[e]
  |some o=>exact Za5 (Za5 (Za5 rfl rfl) rfl) rfl
 |acc a=>exact Za5 rfl rfl
 |agr b=>
  show(agrF k pl x U src b).1.off.isSome=_;unfold agrF
  induction e:x.off with
  |none=>show x.off.isSome=_;rw[e]
  |some o=>exact Za5 (Za5 rfl<|Za5 rfl rfl) rfl
 |ent w=>rfl
structure OkA(U:List Letter)(k:Int)(x:Hd):Prop where
 hz:x.ms.length<=50
 hn:∀pl,x.place=some pl->x.ms.length / 2<(oth k x.ms).length+1
 hU:U.length+100<=SZ
 hr:x.row.length<SZ
 hh:x.holds.length<SZ
 hg:x.gone.length<SZ
 ho:∀o,x.off=some o->o.prom.length<SZ/\o.agr.length<SZ
def OkC(x:Hd)(src:Int):Cont->Prop
 |.prom b row a=>∀o,x.off=some o->bEq o.b b=true->o.val=none->enF x.ms (prS o.prom src (row,a)).length=true->PfOk x.ms { o with prom:=prS o.prom src (row,a) }
 |.agr b=>∀o,x.off=some o->bEq o.b b=true->o.over=false->enF x.ms (agS o.agr src).length=true->∃v,o.val=some v/\AgOk x.ms v
 |.ent w=>w.hs.length<=SZ/\w.row.length<=SZ
 |_=>True
section
variable {U:List Letter}{x:Hd}
theorem Zna{b:Bal}{row:List Msg}{a:Option Acc}(hp:x.place=some pl)(hU:U.length+50<=SZ)(ho:∀o,x.off=some o->o.prom.length<SZ)(hz:x.ms.length<=50)(oc:OkC x src (.prom b row a))
  (h:∀g,Q .none ⟨fA m hs (promF k pl x U src b row a).2 k (promF k pl x U src b row a).1 g⟩):CW tb.P (n+2) 258 [.ref 0,.ref 2,.int src,.tup [bV b,.lst<|mV row,aV a]] ⟨fA m hs U k x []⟩ Q E:=by
 obtain⟨xp,xhi,xms,xsaid,xup,xgone,xnews,xrow,xtook,xstill,xbal,xagd,xoff,xholds⟩:=x
 induction xoff with
 |none=>exact Zne (x:=⟨xp,xhi,xms,xsaid,xup,xgone,xnews,xrow,xtook,xstill,xbal,xagd,none,xholds⟩)<|h []
 |some oo=>exact ZoB (x:=⟨xp,xhi,xms,xsaid,xup,xgone,xnews,xrow,xtook,xstill,xbal,xagd,some oo,xholds⟩) hp hU (ho oo rfl) hz (oc oo rfl) h
theorem Zpw{b:Bal}(hp:x.place=some pl)(hU:U.length+50<=SZ)(ho:∀o,x.off=some o->o.agr.length<SZ)(hz:x.ms.length<=50)(oc:OkC x src (.agr b))
  (h:Q .none ⟨fA m hs (agrF k pl x U src b).2 k (agrF k pl x U src b).1 []⟩):CW tb.P (n+2) 260 [.ref 0,.ref 2,.int src,bV b] ⟨fA m hs U k x []⟩ Q E:=by
 obtain⟨xp,xhi,xms,xsaid,xup,xgone,xnews,xrow,xtook,xstill,xbal,xagd,xoff,xholds⟩:=x
 induction xoff with
 |none=>exact Zo8 (x:=⟨xp,xhi,xms,xsaid,xup,xgone,xnews,xrow,xtook,xstill,xbal,xagd,none,xholds⟩) h
 |some oo=>exact Zph (x:=⟨xp,xhi,xms,xsaid,xup,xgone,xnews,xrow,xtook,xstill,xbal,xagd,some oo,xholds⟩) hp hU (ho oo rfl) hz (oc oo rfl) h
theorem f253:tb.P.fn 253=some ZbE:=by kernel_rfl
theorem Zqi{c:Cont}(hc:newsOf c=none)(hp:x.place=some pl)(o:OkA U k x)(oc:OkC x src c)(h:∀g,Q .none ⟨fA m hs (stepF k pl x U src c).2 k (stepF k pl x U src c).1 g⟩):
  CW tb.P (n+5) 253 [.ref 0,.str c.word,.ref 2,.int src,c.v] ⟨fA m hs U k x []⟩ Q E:=by
 obtain⟨hz,hn,hU,hr,hh,hg,ho⟩:=o;have hn:=hn pl hp
 induction c with
 |wish mm=>
  exact Zac _ _ _ f253 rfl<|ZoK hp hz hn hU hr h
 |hold mm p=>
  exact Zac _ _ _ f253 rfl<|ZoL hp (by exact la9 hU<|Bq rfl) hr (h [])
 |have_ c=>
  refine Zac _ _ _ f253 rfl<|⟨rfl,Zd7 x.holds src,?_⟩;show need (see _<|(dGet (hoV x.holds)<|.int src).getD<|.int 0) _;rw[ZgU];refine⟨Zd7 x.holds src,by rw[ZkR];exact hh,?_⟩;show CW tb.P (n+4) 256 [.ref 0,.ref 2] ⟨some (folkC m hs)::some (.list<|lV U)::some (.inst 59<|hFL k x l0)::some (.list<|mV x.row)::some (.dict<|dSet (hoV x.holds) (.int src)<|.int<|mx c<|hoD x.holds src)::(fA m hs U k x []).drop 5⟩ _ _;rw[Zmc];exact Zj3 (x:={ x with holds:=hoS x.holds src (mx c<|hoD x.holds src) }) hp hz hn (by exact la9 hU<|Bq rfl) h
 |take c=>
  refine Zac _ _ _ f253 rfl<|⟨rfl,Bq rfl,?_⟩;have h:Q .none ⟨fA m hs U k { x with took:=mx x.took (mn c x.row.length) } []⟩:=h [];rw[← Zan x.row]at h;exact h
 |prep b=>
  exact Zac _ _ _ f253 rfl<|ZnN hp (by exact la9 hU<|Bq rfl) (by exact Ny hr) (h [])
 |prom b row a=>exact Zac _ _ _ f253 rfl<|Zna (U:=U) hp (by exact la9 hU<|Bq rfl) (λo e=>(ho o e).1) hz oc h
 |acc a=>
  exact Zac _ _ _ f253 rfl<|Zo0 hp (by exact la9 hU<|Bq rfl) (h [])
 |agr b=>exact Zac _ _ _ f253 rfl<|Zpw (U:=U) hp (by exact la9 hU<|Bq rfl) (λo e=>(ho o e).2) hz oc<|h []
 |ent w=>exact noZ hc
theorem Zo2{w:News}(o:OkA U k x)(oc:OkC x src (.ent w))(h:∀H,SM m hs k x U (entF k x w) H->Q .none H):CW tb.P (n+3) 261 [.ref 0,.ref 2,w.v] ⟨fA m hs U k x []⟩ Q E:=by
 obtain⟨hz,hn,hU,hr,hh,hg,ho⟩:=o;unfold entF at h
 induction e:x.place with
 |none=>
  rw[e]at h
  induction c:memF w.hs k&&decide (x.hi<w.no) with
  |false=>exact Zll e c<|h _ (by rw[c];exact .a [] rfl)
  |true=>exact Zos e c oc.1<|h _ (by rw[c];exact .b x rfl rfl rfl rfl)
 |some pl=>
  rw[e]at h
  by_cases c:pl=w.no - 1
  ·refine Zn8 e c oc.1 (by unfold SZ;exact la7 hz rfl) oc.2 hg<|h _ ?_;show SM m hs k x U (cond (decide<|pl=w.no - 1) (onF k pl x w) x) _;rw[Dq c];show SM m hs k x U (onF k pl x w) _;unfold onF
   induction memF w.hs k with
   |true=>exact .b _ rfl rfl rfl rfl
   |false=>exact .b _ rfl rfl rfl rfl
  ·exact ZkO e c<|h _ (by show SM m hs k x U (cond (decide<|pl=w.no - 1) (onF k pl x w) x) _;rw[Df c];exact .a [] rfl)
theorem f5:tb.P.fn 5=some Zhe:=by kernel_rfl
theorem ZdW{i:Int}(h:Q (.bool true) H):CW tb.P (n+1) 5 [.int i] H Q E:=Zac _ _ _ f5 rfl h
theorem f250:tb.P.fn 250=some Zbx:=by kernel_rfl
theorem ZpP{v:V}(hv:u[p]?=some v)(h:Q v ⟨some (folkC m hs)::some (.list u)::r⟩):CW tb.P (n+2) 250 [.ref 0,.int p] ⟨some (folkC m hs)::some (.list u)::r⟩ Q E:=by
 have lt:p<u.length:=(List.getElem?_eq_some_iff.mp hv).1;exact Zac _ _ _ f250 rfl<|ZdW<|gv rfl<|Zdv (b:=decide<|(u.length:Int)<=p) (Df<|by exact λzz=>lb3 lt zz)<|Zaa (o:=pyIdx (p:Int) u.length) (Zal lt)<|Zaa (o:=u[p]?) hv h
theorem f251:tb.P.fn 251=some Zdk:=by kernel_rfl
noncomputable def dropAt{α:Type}(l:List α)(p:Nat):List α:=l.take p++l.drop (p+1)
theorem Zhz(U:List Letter)(p:Nat):(lV U).take p++(lV U).drop (p+1)=lV (dropAt U p):=by
 unfold dropAt lV;rw[map_append,map_take,List.map_drop]
def loC(p t src lp:Int)(c:Cont):Loc:=upd (upd (upd (upd (upd (upd (upd (upd (λø=>none) 108 (.ref 0)) 110 (.int p)) 126 (.str c.word)) 130 (.int src)) 127 (.int t)) 109 (.int lp)) 128 c.v) 125<|.ref 2
theorem Zi3{p t lp:Int}{c:Cont}{Q:Yf}{E:EP}(e:x.up=true)(o:OkA U k x)(oc:(newsOf c=none->x.place=some lp)->OkC x src c)
  (h:∀H,SM m hs k x (match newsOf c with |some w=>(entF k x w,U) |none=>hereF k x U ⟨src,t,lp,c⟩).2 (match newsOf c with |some w=>(entF k x w,U) |none=>hereF k x U ⟨src,t,lp,c⟩).1 H->Q .next ⟨H,loC p t src lp c⟩):
  wpSs tb.P (CW tb.P<|n+5) (.cons (.ite (.e<|.cmp .eq (.loc 126)<|.cst<|.str Za9) (.cons (.expr<|.meth true (.loc 108) 94<|.cons (.loc 125)<|.cons (.loc 128) .nil) .nil)<|.cons (.ite (.and<|.cons (.e<|.cmp .isNot (.attr (.loc 125) 110)<|.cst .none)<|.cons (.e<|.cmp .eq (.attr (.loc 125) 110)<|.loc 109) .nil) (.cons (.expr<|.meth true (.loc 108) 86<|.cons (.loc 126)<|.cons (.loc 125)<|.cons (.loc 130)<|.cons (.loc 128) .nil) .nil) .nil) .nil) .nil) ⟨⟨fA m hs U k x []⟩,loC p t src lp c⟩ Q E:=by
 induction q:newsOf c with
 |some w=>
  rw[q]at h
  induction c with
  |ent w'=>
   obtain rfl:=Eq.symm<|Sj q;exact Zo2 (n:=n+2) (src:=src) o (oc λz=>nomatch z) λH s=>gv rfl<|h H s
  |_=>exact noS q
 |none=>
  rw[q]at h;have h:∀H,SM m hs k x (hereF k x U ⟨src,t,lp,c⟩).2 (hereF k x U ⟨src,t,lp,c⟩).1 H->Q .next ⟨H,loC p t src lp c⟩:=h;unfold hereF at h;refine Zdv (b:=eqD (.str c.word)<|.str Za9) (by induction c <;> first |(exact noZ q;done) |kernel_rfl) ?_
  induction ep:x.place with
  |none=>
   rw[ep]at h;refine⟨show solid (plV x.place)=true by rw[ep];rfl,?_⟩;exact Zdv (b:=!isNone (plV x.place)) (by rw[ep];rfl)<|h _<|.a [] rfl
  |some pl=>
   rw[ep]at h;have h:∀H,SM m hs k x (cond (decide<|pl=lp) (stepF k pl x U src c) (x,U)).2 (cond (decide<|pl=lp) (stepF k pl x U src c) (x,U)).1 H->Q .next ⟨H,loC p t src lp c⟩:=h;refine⟨show solid (plV x.place)=true by rw[ep];rfl,?_⟩;refine Zeu (b:=!isNone (plV x.place)) (by rw[ep];rfl)<|Zaa (o:=deep _<|plV x.place) (a:=.int pl) (by rw[ep];rfl)<|Zby (b:=decide<|pl=lp) (λd=>?_) λd=>?_
   ·rw[ZdO d]at h;exact Zqi (n:=n) q ep o (oc λø=>ep.trans<|congrArg some<|Od d) λg=>gv rfl<|h _<|.a g ZiH
   ·rw[ZdJ d]at h;exact h _<|.a [] rfl
theorem ZoA{L:Letter}(hp:U[p]?=some L)(ht:L.to=t)(hv:hs[t]?=some (.ref 2))(o:OkA (dropAt U p) k x)(oc:x.up=true->(newsOf L.c=none->x.place=some L.pl)->OkC x L.from_ L.c)(h:∀H,SM m hs k x (comeF k x (dropAt U p) L).2 (comeF k x (dropAt U p) L).1 H->Q .none H):
  CW tb.P (n+6) 251 [.ref 0,.int p] ⟨fA m hs U k x []⟩ Q E:=by
 obtain⟨src,to,lp,c⟩:=L;obtain rfl:=ht
 have lu:p<(lV U).length:=by rw[ZaT];exact(List.getElem?_eq_some_iff.mp hp).1
 have hu:(lV U)[p]?=some (Letter.v ⟨src,t,lp,c⟩):=by unfold lV;rw[getElem?_map,hp];rfl
 have lt:t<hs.length:=(List.getElem?_eq_some_iff.mp hv).1;unfold comeF at h;refine Zac _ _ _ f251 rfl<|ZpP hu<|⟨rfl,?_⟩;refine Zaa (o:=pyIdx (p:Int) (lV U).length) (Zal lu)<|Zaa (o:=(lV U)[p]?) hu<|Zaa (o:=pyIdx (t:Int) hs.length) (Zal lt)<|Zaa (o:=hs[t]?) hv ?_;have ed:=Zhz U p;refine Zby (b:=!x.up) (λe=>?_) λe=>?_
 ·have e:x.up=false:=by induction q:x.up with |false=>rfl |true=>rw[q]at e;exact noT e
  rw[ZdJ e]at h;have h:=h _<|.a [] rfl;unfold fA at h;rw[← ed]at h;exact h
 have e:x.up=true:=by induction q:x.up with |true=>rfl |false=>rw[q]at e;exact noF e
 rw[ZdO e]at h;have key:=Zi3 (n:=n) (m:=m) (hs:=hs) (U:=dropAt U p) (k:=k) (x:=x) (p:=p) (t:=t) (Q:=λfl σ=>Q (retV fl) σ.H) (E:=λe σ=>E e σ.H) e o (oc e) h;unfold fA at key;rw[← ed]at key;exact key
end
structure AtA(t M:Nat)(hs:List V):Prop where
 lt:t<M
 at_:hs[t]?=some (.ref 2)
structure Fi(M:Nat)(fi:List Int):Prop where
 ne:fi≠[]
 up:fi.Pairwise (· < ·)
 lt:∀i∈fi,0<=i/\i<M
theorem sa9{E:EP}{k:Nat}{v:V}{a0 a1 a2 a3 a4 a5 a6 a7 a8 a9 a10 a11 a12 a13 a14 a15 a16 a17 a18:Option C}{Q:Yf}(hl:lo 108=some (.ref 19))(he:∀Q':Yq,Q' v ⟨⟨a0::a1::a2::a3::a4::a5::a6::a7::a8::a9::a10::a11::a12::a13::a14::a15::a16::a17::a18::some (.inst k fs)::r'⟩,lo⟩->wpE P K E e ⟨⟨a0::a1::a2::a3::a4::a5::a6::a7::a8::a9::a10::a11::a12::a13::a14::a15::a16::a17::a18::some (.inst k fs)::r⟩,lo⟩ Q')(hc:attrOk P k nm=true)(hs:st fs nm v=fs')(hz:fs.length<1000)
  (h:wpSs P K rest ⟨⟨a0::a1::a2::a3::a4::a5::a6::a7::a8::a9::a10::a11::a12::a13::a14::a15::a16::a17::a18::some (.inst k fs')::r'⟩,lo⟩ Q E):wpSs P K (.cons (.assign (.attr (.loc 108) nm) e) rest) ⟨⟨a0::a1::a2::a3::a4::a5::a6::a7::a8::a9::a10::a11::a12::a13::a14::a15::a16::a17::a18::some (.inst k fs)::r⟩,lo⟩ Q E:=by
 subst hs;refine he _<|Zaa (o:=lo 108) hl ?_;unfold attrOk at hc
 induction q:P.cls k with
 |none=>rw[q]at hc;exact noT hc
 |some c=>
  rw[q]at hc;exact Zaa (o:=P.cls k) q ⟨hc,hz,h⟩
section
variable {U:List Letter}{x:Hd}
theorem f274:tb.P.fn 274=some Zbt:=by kernel_rfl
theorem Zk6{a0 a1 a2 a3 a4 a5 a6 a7 a8 a9 a10 a11 a12 a13 a14 a15 a16 a17 a18:Option C}{b:Bal}(h:Q .none ⟨a0::a1::a2::a3::a4::a5::a6::a7::a8::a9::a10::a11::a12::a13::a14::a15::a16::a17::a18::[some<|.inst 155<|oFL ⟨b,l,[],none,[],false⟩ 20 21,some<|.dict [],some<|.dict []]⟩):CW tb.P (n+1) 274 [.ref 19,bV b,.lst<|iV l] ⟨a0::a1::a2::a3::a4::a5::a6::a7::a8::a9::a10::a11::a12::a13::a14::a15::a16::a17::a18::[some<|.inst 155 []]⟩ Q E:=by
 exact Zac _ _ _ f274 rfl<|sa9 (v:=bV b) (fs':=[(118,bV b)]) (r':=[]) rfl (λQ' q=>q) (by kernel_rfl) rfl (Zad rfl)<|sa9 (v:=.lst<|iV l) (fs':=[(118,bV b),(123,.lst<|iV l)]) (r':=[]) rfl (λQ' q=>q) (by kernel_rfl) rfl (Zad rfl)<|sa9 (v:=.ref 20) (fs':=[(118,bV b),(123,.lst<|iV l),(146,.ref 20)]) (r':=[some<|.dict []]) rfl (λQ' q=>⟨Zad rfl,rfl,q⟩) (by kernel_rfl) rfl (Zad rfl)<|sa9 (v:=.none) (fs':=[(118,bV b),(123,.lst<|iV l),(146,.ref 20),(147,.none)]) (r':=[some<|.dict []]) rfl (λQ' q=>q) (by kernel_rfl) rfl (Zad rfl)<|sa9 (v:=.ref 21) (fs':=[(118,bV b),(123,.lst<|iV l),(146,.ref 20),(147,.none),(149,.ref 21)]) (r':=[some<|.dict [],some<|.dict []]) rfl (λQ' q=>⟨Zad rfl,rfl,q⟩) (by kernel_rfl) rfl (Zad rfl)<|sa9 (v:=.bool false) (fs':=[(118,bV b),(123,.lst<|iV l),(146,.ref 20),(147,.none),(149,.ref 21),(148,.bool false)]) (r':=[some<|.dict [],some<|.dict []]) rfl (λQ' q=>q) (by kernel_rfl) rfl (Zad rfl)<|h
theorem f244:tb.P.fn 244=some ZbT:=by kernel_rfl
theorem Zca{v:V}(hM:t<M)(hv:hs[t]?=some v)(h:Q v ⟨some (folkC (.int M) hs)::r⟩):CW tb.P (n+2) 244 [.ref 0,.int t] ⟨some (folkC (.int M) hs)::r⟩ Q E:=by
 have lt:t<hs.length:=(List.getElem?_eq_some_iff.mp hv).1;exact Zac _ _ _ f244 rfl<|ZdW<|gv rfl<|Zdv (b:=decide<|(M:Int)<=t) (Df<|by exact λzz=>lc4 (ld3 zz) hM)<|Zaa (o:=pyIdx (t:Int) hs.length) (Zal lt)<|Zaa (o:=hs[t]?) hv h
theorem f245:tb.P.fn 245=some Zdq:=by kernel_rfl
theorem Zc1(o:AtA t M hs)(hu:x.up=true)(hp:x.place=some pl)(h:Q (.ref 2) ⟨fA (.int M) hs U k x []⟩):CW tb.P (n+3) 245 [.ref 0,.int t] ⟨fA (.int M) hs U k x []⟩ Q E:=by
 obtain⟨xp,xhi,xms,xsaid,xup,xgone,xnews,xrow,xtook,xstill,xbal,xagd,xoff,xholds⟩:=x;obtain rfl:=hp;obtain rfl:=hu;exact Zac _ _ _ f245 rfl<|Zca o.lt o.at_<|⟨rfl,h⟩
theorem f248:tb.P.fn 248=some ZdS:=by kernel_rfl
theorem Zpr{f:Int}{fs:List Int}(o:AtA t M hs)(hu:x.up=true)(hp:x.place=some pl)(hk:k=t)(hf:x.ms=f::fs)(hU:U.length+1<=SZ)(h:Q .none ⟨fA (.int M) hs (U++[⟨t,f,pl,.wish ⟨t,x.said,w⟩⟩]) k { x with said:=x.said+1 } []⟩):
  CW tb.P (n+4) 248 [.ref 0,.int t,.str w] ⟨fA (.int M) hs U k x []⟩ Q E:=by
 subst hk;refine Zac _ _ _ f248 rfl<|Zc1 o hu hp<|⟨Bq rfl,?_⟩;refine⟨rfl,Bq rfl,?_⟩;refine⟨rfl,rfl,?_⟩
 have e1:(iV x.ms).take 1=[.int f]:=by rw[hf];rfl
 refine⟨show((iV x.ms).take 1).length<=SZ by rw[e1];exact Zad rfl,?_⟩;show CW tb.P (n+3) 247 [.ref 0,.str ZdL,.ref 2,.lst<|(iV x.ms).take 1,.tup [.int t,.int x.said,.str w]] ⟨fA (.int M) hs U t { x with said:=x.said+1 } []⟩ _ _;rw[e1];refine Zbi (a:=.int t) (p:=.int pl) rfl (ZaG hp) (by rw[ZaT];exact hU) ?_;show Q .none ⟨some (folkC (.int M) hs)::some (.list<|lV U++[ltr (Cont.wish ⟨t,x.said,w⟩).word (.int t) (.int pl) (Cont.wish ⟨t,x.said,w⟩).v<|.int f])::_⟩;rw[ZdH];exact h
theorem f7l:tb.P.fn 7=some ZeB:=by kernel_rfl
theorem ZiR(to:List V)(v:V)(hi:items H v=some to)(Q:Yf):∀(xs:List Int)(a:Int)(lo:Loc),lo 18=some (.int M)->lo 19=some (.int a)->(a::xs).Pairwise (· < ·)->(∀i∈xs,i<M)->(∀lo',Q .next ⟨H,lo'⟩)->
  loopGo (λv σ2 k=>bindT [20] v σ2 λσ3=>wpSs tb.P (CW tb.P<|n+1) ZcX σ3 k noE) (still v to) (iV xs) ⟨H,lo⟩ Q:=by
 intro zz0
 induction zz0 with
 |nil=>
  intro a lo h1 h2 hp hb h;exact⟨hi,h lo⟩
 |cons x xs ih=>
  intro a lo h1 h2 hp hb h;have hp:=pairwise_cons.mp hp;have ax:=hp.1 x<|.head _;have xM:=hb x<|.head _;refine⟨hi,?_⟩;exact ZdW<|gv rfl<|Zaa (o:=lo 19) h2<|Zdv (b:=decide<|x<=a) (Df (by exact λzz=>Int.not_lt_of_ge zz ax))<|Zaa (o:=lo 18) h1<|Zdv (b:=decide<|(M:Int)<=x) (Df (by exact λzz=>lb4 xM zz))<|ih x (upd (upd lo 20 (.int x)) 19 (.int x)) h1 rfl hp.2 (λi hi=>hb i<|.tail _ hi) h
theorem ZnE(f:Fi M fi)(h:Q (.bool true) H):CW tb.P (n+2) 7 [.lst<|iV fi,.int M] H Q E:=by
 exact Zac _ _ _ f7l rfl<|Zdv (b:=decide<|((iV fi).length:Int)=0) (Df λz=>f.ne<|List.length_eq_zero_iff.mp (by rw[Zaj]at z;exact lb5 z))<|ZiR (iV fi) (.lst<|iV fi) rfl _ fi (-1) _ rfl rfl (pairwise_cons.mpr ⟨λi hi=>by have:=f.lt i hi;exact this.1,f.up⟩) (λi hi=>(f.lt i hi).2) λlo'=>h
theorem f270:tb.P.fn 270=some ZbU:=by kernel_rfl
def mostF(x:Hd):Int:=match x.off with
 |none=>x.bal.1
 |some o=>mx x.bal.1 o.b.1
def offF(k:Int)(x:Hd)(l:List Int):Off:=⟨(mostF x+1,k),l,[],none,[],false⟩
theorem ZpG{E:EP}{v:V}{Q:Yf}(he:∀Q':Yq,Q' v σ'->wpE P K E e σ Q')(h:wpSs P K rest (σ'.put i v) Q E):wpSs P K (.cons (.assign (.loc i) e) rest) σ Q E:=he _ h
theorem Zqb{E:EP}{t:PC}{a:PSs}{Q:Yf}(ht:∀k:Yt,k false σ'->wpT P K E t σ k)(h:wpSs P K rest σ' Q E):wpSs P K (.cons (.ite t a .nil) rest) σ Q E:=ht _ h
theorem Zo9{E:EP}{t:PC}{a b:PSs}{Q:Yf}(ht:∀k:Yt,k true σ'->wpT P K E t σ k)(h:wpSs P K a σ' (λfl σ1=>seqK fl σ1 (λσ2=>wpSs P K rest σ2 Q E) Q) E):wpSs P K (.cons (.ite t a b) rest) σ Q E:=ht _ h
theorem ZfJ(hp:x.place=some pl)(hl:l.length<=SZ)(hz:x.ms.length<=50)(hU:U.length+50<=SZ)(h1:lo 108=some (.ref 0))(h2:lo 125=some (.ref 2))(h3:lo 20=some (.int t))(h4:lo 17=some (.lst<|iV l))(h5:lo 145=some (.int<|mostF x))(h:∀H,SM (.int M) hs t x (U++sendF t pl x.ms (.prep (mostF x+1,t))) { x with off:=some (offF t x l) } H->Q .none H):wpSs tb.P (CW tb.P<|n+3) (.cons (.assign (.attr (.loc 125) 120)<|.call true (.glob 155)<|.cons (.tup<|.cons (.bin true .add (.loc 145)<|.cst<|.int 1)<|.cons (.loc 20) .nil)<|.cons (.call true (.glob 41)<|.cons (.loc 17) .nil) .nil)
  (.cons (.expr<|.meth true (.loc 108) 75<|.cons (.cst<|.str Za3)<|.cons (.loc 125)<|.cons (.attr (.loc 125) 17)<|.cons (.attr (.attr (.loc 125) 120) 118) .nil) .nil)) ⟨⟨fA (.int M) hs U t x []⟩,lo⟩ (λfl σ=>Q (retV fl) σ.H) λe σ=>E e σ.H:=by
 refine Zaa (o:=lo 145) h5<|Zaa (o:=lo 20) h3<|⟨Zad rfl,?_⟩;refine Zaa (o:=lo 17) h4<|⟨by rw[Zaj];exact hl,?_⟩;refine Zk6 (b:=(mostF x+1,t)) (l:=l)<|⟨rfl,?_⟩;refine Zaa (o:=lo 125) h2<|⟨rfl,Zad rfl,?_⟩;refine Zaa (o:=lo 108) h1<|Zaa (o:=lo 125) h2<|Zaa (o:=lo 125) h2<|Zaa (o:=lo 125) h2<|Zbi (a:=.int t) (p:=.int pl) (to:=iV x.ms) (k:=59) (fs:=hFL t { x with off:=some (offF t x l) } l2) rfl (ZaG hp) (by rw[ZaT,Zaj];exact la9 hU hz) ?_;have h:=h _<|.c (offF t x l) rfl rfl rfl;have h:Q .none ⟨some (folkC (.int M) hs)::some (.list<|lV<|U++sendF t pl x.ms (.prep (mostF x+1,t)))::_⟩:=h;rw[← Zb3]at h;exact h
theorem Zn4(o:AtA t M hs)(hu:x.up=true)(hp:x.place=some pl)(hk:k=t)(f:Fi M l)(hl:l.length<=SZ)(hz:x.ms.length<=50)(hU:U.length+50<=SZ)(h:∀H,SM (.int M) hs k x (U++sendF k pl x.ms (.prep (mostF x+1,k))) { x with off:=some (offF k x l) } H->Q .none H):
  CW tb.P (n+4) 270 [.ref 0,.int t,.lst<|iV l] ⟨fA (.int M) hs U k x []⟩ Q E:=by
 subst hk;refine Zac _ _ _ f270 rfl<|ZpG (v:=.ref 2) (λQ' q=>Zc1 o hu hp q)<|Zqb (λk' q=>ZnE f<|gv rfl q)<|ZpG (v:=.int x.bal.1) (λQ' q=>q) ?_;obtain⟨xp,xhi,xms,xsaid,xup,xgone,xnews,xrow,xtook,xstill,xbal,xagd,xoff,xholds⟩:=x
 induction xoff with
 |none=>
  exact Zqb (λk' q=>⟨rfl,q⟩)<|ZfJ (x:=⟨xp,xhi,xms,xsaid,xup,xgone,xnews,xrow,xtook,xstill,xbal,xagd,none,xholds⟩) hp hl hz hU rfl rfl rfl rfl rfl h
 |some oo=>
  exact Zo9 (λk' q=>⟨rfl,q⟩)<|ZpG (v:=.int<|mx xbal.1 oo.b.1) (λQ' q=>q)<|ZfJ (x:=⟨xp,xhi,xms,xsaid,xup,xgone,xnews,xrow,xtook,xstill,xbal,xagd,some oo,xholds⟩) hp hl hz hU rfl rfl rfl rfl rfl h
end
structure Lay where
 fk:Nat
 un:Nat
 hs:List Nat
noncomputable def rol(t i:Nat):Nat:=8 * (t+1)+i
structure OfR(H:Hp)(ow:Nat->Nat)(t:Nat)(o:Off)(l:Lh):Prop where
 go:H.get l.o=some (.inst 155<|oFL o l.p l.a)
 gp:H.get l.p=some (.dict<|prV o.prom)
 ga:H.get l.a=some (.dict<|agV o.agr)
 wo:ow l.o=rol t 4
 wp:ow l.p=rol t 5
 wa:ow l.a=rol t 6
structure HdR(H:Hp)(ow:Nat->Nat)(t h:Nat)(x:Hd)(l:Lh):Prop where
 hd:H.get h=some (.inst 59<|hFL t x l)
 row:H.get l.r=some (.list<|mV x.row)
 hol:H.get l.d=some (.dict<|hoV x.holds)
 gon:H.get l.g=some (.list<|gV x.gone)
 off:∀o,x.off=some o->OfR H ow t o l
 wh:ow h=rol t 0
 wr:ow l.r=rol t 1
 wd:ow l.d=rol t 2
 wg:ow l.g=rol t 3
structure Rep(H:Hp)(ow:Nat->Nat)(L:Lay)(M:Nat)(U:List Letter)(X:Nat->Hd):Prop where
 fk:H.get L.fk=some (.inst 60 [(18,.int M),(123,.lst<|L.hs.map .ref),(124,.ref L.un)])
 un:H.get L.un=some (.list<|lV U)
 hl:L.hs.length=M
 hM:M<=9
 wf:ow L.fk=1
 wu:ow L.un=2
 hd:∀t h,L.hs[t]?=some h->∃l,HdR H ow t h (X t) l
def Keep(H:Hp)(ow:Nat->Nat)(H':Hp)(ow':Nat->Nat):Prop:=∀j c,H.get j=some c->ow j=0->H'.get j=some c/\ow' j=0
theorem Keep.trans{ow'':Nat->Nat}(a:Keep H ow H' ow')(b:Keep H' ow' H'' ow''):Keep H ow H'' ow'':=λj c g w=>b j c (a j c g w).1 (a j c g w).2
theorem Keep.refl:Keep H ow H ow:=λø ø g w=>⟨g,w⟩
section
variable {ρ:Nat->Nat}
theorem Zb2:∀l:List Int,renVs ρ (iV l)=iV l:=by
 intro zz0
 induction zz0 with
 |nil=>
  exact rfl
 |cons x r ih=>
  exact congrArg (V.int x::·)<|ih
theorem Zcz:∀l:List Msg,renVs ρ (mV l)=mV l:=by
 intro zz0
 induction zz0 with
 |nil=>
  exact rfl
 |cons m r ih=>
  exact congrArg (m.v::·)<|ih
theorem Zhw:∀l:List (Int×Int),renK ρ (hoV l)=hoV l:=by
 intro zz0
 induction zz0 with
 |nil=>
  exact rfl
 |cons p r ih=>
  exact congrArg ((V.int p.1,V.int p.2)::·)<|ih
theorem ZhE:∀l:List Int,renK ρ (agV l)=agV l:=by
 intro zz0
 induction zz0 with
 |nil=>
  exact rfl
 |cons p r ih=>
  exact congrArg ((V.int p,V.bool true)::·)<|ih
theorem ZgP(x:Val):renV ρ x.v=x.v:=by
 show V.tup [.lst<|renVs ρ<|iV x.hs,.lst<|renVs ρ<|mV x.row]=_;rw[Zb2,Zcz];rfl
theorem ZmX(x:Option Val):renV ρ (vV x)=vV x:=by
 induction x with
 |none=>rfl
 |some x=>exact ZgP x
theorem Zf7(a:Option Acc):renV ρ (aV a)=aV a:=by
 induction a with
 |none=>rfl
 |some a=>
  show V.tup [bV a.b,renV ρ a.x.v]=_;rw[ZgP];rfl
theorem ZfY(w:News):renV ρ w.v=w.v:=by
 show V.tup [.int w.no,.lst<|renVs ρ<|iV w.hs,.lst<|renVs ρ<|mV w.row,.lst<|renVs ρ<|iV w.wit]=_;rw[Zb2,Zcz,Zb2];rfl
theorem Zky(w:Option News):renV ρ (nV w)=nV w:=by
 induction w with
 |none=>rfl
 |some w=>exact ZfY w
theorem Zh7(p:Option Int):renV ρ (plV p)=plV p:=by induction p <;> rfl
theorem ZgJ:∀l:List (Int×PR),renK ρ (prV l)=prV l:=by
 intro zz0
 induction zz0 with
 |nil=>
  exact rfl
 |cons p r ih=>
  show(V.int p.1,V.tup [.lst<|renVs ρ<|mV p.2.1,renV ρ<|aV p.2.2])::renK ρ (prV r)=_;rw[Zcz,Zf7,ih];rfl
theorem Zhy:∀l:List Gn,renVs ρ (gV l)=gV l:=by
 intro zz0
 induction zz0 with
 |nil=>
  exact rfl
 |cons g r ih=>
  show V.tup [.int g.1,.lst<|renVs ρ<|iV g.2.1,.lst<|renVs ρ<|mV g.2.2]::renVs ρ (gV r)=_;rw[Zb2,Zcz,ih];rfl
theorem Zpi(c:Cont):renV ρ c.v=c.v:=by
 induction c with
 |wish m=>rfl
 |hold m p=>rfl
 |have_ n=>rfl
 |take n=>rfl
 |prep b=>rfl
 |prom b row a=>
  show V.tup [bV b,.lst<|renVs ρ<|mV row,renV ρ<|aV a]=_;rw[Zcz,Zf7];rfl
 |acc a=>exact Zf7<|some a
 |agr b=>rfl
 |ent w=>exact ZfY w
theorem Zkt:∀l:List Letter,renVs ρ (lV l)=lV l:=by
 intro zz0
 induction zz0 with
 |nil=>
  exact rfl
 |cons L r ih=>
  show V.tup [.str L.c.word,.int L.from_,.int L.to,.int L.pl,renV ρ L.c.v]::renVs ρ (lV r)=_;rw[Zpi,ih];rfl
noncomputable def Lh.ren(ρ:Nat->Nat)(l:Lh):Lh:=⟨ρ l.r,ρ l.d,ρ l.g,ρ l.o,ρ l.p,ρ l.a⟩
theorem Znu(o:Option Off)(i:Nat):renV ρ (oR o i)=oR o (ρ i):=by induction o <;> rfl
theorem Zkr(k:Int)(x:Hd)(l:Lh):renC ρ (.inst 59<|hFL k x l)=.inst 59 (hFL k x<|l.ren ρ):=by
 show C.inst 59 [_,(110,renV ρ<|plV x.place),_,(17,.lst<|renVs ρ<|iV x.ms),_,_,_,(115,renV ρ<|nV x.news),_,_,_,_,(119,renV ρ<|aV x.agd),(120,renV ρ<|oR x.off l.o),_]=_;rw[Zh7,Zb2,Zky,Zf7,Znu];rfl
theorem Zj0(o:Off)(p a:Nat):renC ρ (.inst 155<|oFL o p a)=.inst 155 (oFL o (ρ p)<|ρ a):=by
 show C.inst 155 [_,(123,.lst<|renVs ρ<|iV o.hs),_,(147,renV ρ<|vV o.val),_,_]=_;rw[Zb2,ZmX];rfl
end
theorem ZeH{a:Nat}{r:List Nat}:pos0 (a::r) a=some 0:=if_pos rfl
theorem ZgF{a:Nat}{r:List Nat}(n:a≠j)(h:pos0 r j=some i):pos0 (a::r) j=some (i+1):=by
 show(if a=j then some 0 else (match pos0 r j with |some i=>some (i+1) |none=>none))=_;rw[if_neg n,h]
theorem ZhQ:∀{js:List Nat}{k i:Nat},((js.take k).map ow).Nodup->i<k->js[i]?=some j->pos0 js j=some i
 | [],k,i,hn,hi,h=>nomatch h
 |a::r,0,i,hn,hi,h=>absurd hi<|not_lt_zero _
 |a::r,k+1,0,hn,hi,h=>by obtain rfl:=Eq.symm<|Sj h;exact ZeH
 |a::r,k+1,i+1,hn,hi,h=>by
  have hn:(ow a::(r.take k).map ow).Nodup:=hn;have hn:=nodup_cons.mp hn;have hi:=Nat.lt_of_succ_lt_succ hi;have h:r[i]?=some j:=h;refine ZgF (λz=>hn.1 ?_)<|ZhQ hn.2 hi h;subst z;refine mem_map.mpr ⟨a,List.mem_of_getElem? (i:=i) ?_,rfl⟩;rw[List.getElem?_take,if_pos hi];exact h
section
variable {c:C}
theorem Zib(g:H.get j=some c):(mrg js H₀ H H₁).get j=(match pos0 js j with |some i=>mrgC (rho js H.next) (H₀.get i) (H₁.get i) (some c) |none=>some c):=by
 have lt:j<H.next:=Zas g;rw[Zeq,if_pos<|by exact Nat.lt_add_right _ lt];show(match pos js H.next j with |some i=>mrgC (rho js H.next) (H₀.get i) (H₁.get i) (H.get j) |none=>H.get j)=_;rw[g,show pos js H.next j=pos0 js j by unfold pos;rw[if_neg<|Nat.not_le_of_lt lt]]
theorem ZeE{c₁:C}(g:H.get j=some c)(p:pos0 js j=some i)(g1:H₁.get i=some c₁):(mrg js H₀ H H₁).get j=some (renC (rho js H.next) c₁):=by
 rw[Zib g,p];show mrgC _ (H₀.get i) (H₁.get i) _=_;rw[g1];rfl
theorem Zio(g:H.get j=some c)(p:∀i,pos0 js j=some i->H₀.get i=none/\H₁.get i=none):(mrg js H₀ H H₁).get j=some c:=by
 rw[Zib g]
 induction q:pos0 js j with
 |none=>rfl
 |some i=>
  show mrgC _ (H₀.get i) (H₁.get i) _=_;rw[(p i q).1,(p i q).2];rfl
theorem Zch{i:Nat}{c₁:C}(hi:js.length<=i)(g1:H₁.get i=some c₁):(mrg js H₀ H H₁).get (H.next+(i - js.length))=some (renC (rho js H.next) c₁):=by
 have lt:i<H₁.next:=Zas g1;rw[Zeq,if_pos<|lh2 hi lt];show(match pos js H.next (H.next+(i - js.length)) with |some i=>mrgC _ (H₀.get i) (H₁.get i) _ |none=>_)=_;rw[Zff hi];show mrgC _ (H₀.get i) (H₁.get i) _=_;rw[g1];rfl
end
noncomputable def shV(t M:Nat):List V:=(List.range M).map λu=>if u=t then .ref 2 else .ref (9+u)
noncomputable def pick:Option Off->Nat->Nat->Nat
 |none,_,d=>d
 |some _,a,_=>a
def jsL(L:Lay)(h:Nat)(l:Lh)(o:Option Off):List Nat:=L.fk::L.un::h::l.r::l.d::l.g::pick o l.o L.fk::pick o l.p L.fk::pick o l.a L.fk::(L.hs++replicate (10 - L.hs.length) L.fk)
section
variable {L:Lay}{l:Lh}{U:List Letter}{X:Nat->Hd}{o:Option Off}
theorem ZeJ(hM:L.hs.length<=9):(jsL L h l o).length=19:=by
 show(L.hs++replicate (10 - L.hs.length) L.fk).length+9=19;rw[La,List.length_replicate];exact congrArg (·+9)<|Nat.add_sub_of_le<|Nat.le_succ_of_le hM
theorem Znb{n u:Nat}(hu:u<L.hs.length):rho (jsL L h l o) n (9+u)=L.hs[u]:=by
 refine Zcg ?_;show(L.fk::L.un::h::l.r::l.d::l.g::pick o l.o L.fk::pick o l.p L.fk::pick o l.a L.fk::(L.hs++replicate (10 - L.hs.length) L.fk))[9+u]?=_;rw[show 9+u=u+1+1+1+1+1+1+1+1+1 from Nat.add_comm 9 u];simp only[List.getElem?_cons_succ];rw[List.getElem?_append_left hu,Lg hu]
theorem Zid{α:Type}{ρ:Nat->Nat}(f:α->V):∀l:List α,renVs ρ (l.map f)=l.map λx=>renV ρ (f x):=by
 intro zz0
 induction zz0 with
 |nil=>
  exact rfl
 |cons x r ih=>
  exact congrArg (renV ρ (f x)::·)<|ih
theorem ZjY{n:Nat}(ht:L.hs[t]?=some h):renVs (rho (jsL L h l o) n) (shV t L.hs.length)=L.hs.map .ref:=by
 unfold shV;rw[Zid];refine List.ext_getElem (by rw[Lm,Lm,length_range]) λu h1 h2=>?_;rw[List.getElem_map,List.getElem_map,List.getElem_range];rw[Lm]at h2
 by_cases c:u=t
 ·rw[if_pos c];subst c;show V.ref (rho (jsL L h l o) n 2)=_;have:rho (jsL L h l o) n 2=h:=rfl;rw[this];rw[Lg h2]at ht;obtain rfl:=Sj ht;rfl
 ·rw[if_neg c];show V.ref (rho (jsL L h l o) n<|9+u)=_;rw[Znb h2]
end
theorem Zhg(t i:Nat):8<=rol t i:=Nt (Nat.le_mul_of_pos_right 8<|Nat.succ_pos t)<|Ar ..
theorem Zij{t i:Nat}(h:i<8):rol t i / 8=t+1:=by
 unfold rol;rw[Nat.mul_add_div<|by decide,Nat.div_eq_of_lt h,Nat.add_zero]
theorem rolN(t:Nat):[1,2,rol t 0,rol t 1,rol t 2,rol t 3,rol t 4,rol t 5,rol t 6].Nodup:=by
 have ge:∀a∈[0,1,2,3,4,5,6].map (rol t),8<=a:=λa ha=>(mem_map.mp ha).elim λi q=>q.2▸Zhg t i;refine nodup_cons.mpr ⟨λh=>(Mc h).elim (λz=>nomatch z) λz=>absurd (ge 1 z)<|by decide,nodup_cons.mpr ⟨λz=>absurd (ge 2 z)<|by decide,?_⟩⟩;exact List.Pairwise.map (R:=(·≠·)) (rol t) (λa b n z=>n<|Nat.add_left_cancel z) (by decide:[0,1,2,3,4,5,6].Nodup)
theorem rolN6(t:Nat):[1,2,rol t 0,rol t 1,rol t 2,rol t 3].Nodup:=by
 have:=rolN t;exact List.Nodup.sublist (List.take_sublist 6 [1,2,rol t 0,rol t 1,rol t 2,rol t 3,rol t 4,rol t 5,rol t 6]) this
def updX(X:Nat->Hd)(t:Nat)(x:Hd):Nat->Hd:=λu=>if u=t then x else X u
def owN(n:Nat)(ow:Nat->Nat)(rs:List Nat):Nat->Nat:=λj=>if j<n then ow j else rs.getD (j - n) 0
def Far(t w:Nat):Prop:=w≠1/\w≠2/\∀i,i<7->w≠rol t i
theorem lt8{a b:Nat}(h:a<8):a≠rol b 0/\∀i,a≠rol b i:=⟨λz=>absurd (z▸Zhg b 0)<|Nat.not_le_of_lt h,λi z=>absurd (z▸Zhg b i)<|Nat.not_le_of_lt h⟩
theorem far0(t:Nat):Far t 0:=⟨by decide,by decide,λi ø=>(lt8<|by decide).2 i⟩
theorem farU{t u i:Nat}(h:u≠t)(hi:i<7):Far t (rol u i):=⟨((lt8<|by decide).2 i).symm,((lt8<|by decide).2 i).symm,λj hj z=>h (by
 have:=congrArg (· / 8) z
 exact Nat.succ.inj<|(Zij<|Nat.lt_succ_of_lt hi).symm.trans<|this.trans<|Zij<|Nat.lt_succ_of_lt hj)⟩
theorem Zf4{m:V}{hs:List V}{U:List Letter}{k:Int}{x:Hd}{g:List (Option C)}:∀{i:Nat},9<=i->i<19->atC (fA m hs U k x g) i=none
 |9,_,_=>rfl
 |10,_,_=>rfl
 |11,_,_=>rfl
 |12,_,_=>rfl
 |13,_,_=>rfl
 |14,_,_=>rfl
 |15,_,_=>rfl
 |16,_,_=>rfl
 |17,_,_=>rfl
 |18,_,_=>rfl
 |0,h,_=>absurd h<|by decide
 |1,h,_=>absurd h<|by decide
 |2,h,_=>absurd h<|by decide
 |3,h,_=>absurd h<|by decide
 |4,h,_=>absurd h<|by decide
 |5,h,_=>absurd h<|by decide
 |6,h,_=>absurd h<|by decide
 |7,h,_=>absurd h<|by decide
 |8,h,_=>absurd h<|by decide
 |i+19,_,h=>absurd h<|not_lt_of_le<|Aw 19 i
section
variable {L:Lay}{l:Lh}{U:List Letter}{X:Nat->Hd}(R:Rep H ow L M U X)(ht:L.hs[t]?=some h)(hd:HdR H ow t h (X t) l)
include R ht hd
theorem Zqf{i j:Nat}(hi:i<9)(hj:(jsL L h l (X t).off)[i]?=some j):¬ Far t (ow j):=λf=>by
 obtain⟨f1,f2,f3⟩:=f
 match i,hi,hj with
 |0,_,hj=>obtain rfl:=Sj hj;exact f1 R.wf
 |1,_,hj=>obtain rfl:=Sj hj;exact f2 R.wu
 |2,_,hj=>obtain rfl:=Sj hj;exact f3 0 (by decide) hd.wh
 |3,_,hj=>obtain rfl:=Sj hj;exact f3 1 (by decide) hd.wr
 |4,_,hj=>obtain rfl:=Sj hj;exact f3 2 (by decide) hd.wd
 |5,_,hj=>obtain rfl:=Sj hj;exact f3 3 (by decide) hd.wg
 |6,_,hj=>
  induction e:(X t).off with
  |none=>rw[e]at hj;obtain rfl:=Sj hj;exact f1 R.wf
  |some o=>rw[e]at hj;obtain rfl:=Sj hj;exact f3 4 (by decide) (hd.off o e).wo
 |7,_,hj=>
  induction e:(X t).off with
  |none=>rw[e]at hj;obtain rfl:=Sj hj;exact f1 R.wf
  |some o=>rw[e]at hj;obtain rfl:=Sj hj;exact f3 5 (by decide) (hd.off o e).wp
 |8,_,hj=>
  induction e:(X t).off with
  |none=>rw[e]at hj;obtain rfl:=Sj hj;exact f1 R.wf
  |some o=>rw[e]at hj;obtain rfl:=Sj hj;exact f3 6 (by decide) (hd.off o e).wa
 |i+9,hi,_=>exact absurd hi<|not_lt_of_le<|Aw 9 i
theorem Zov{i j:Nat}(hi:i<6)(hj:(jsL L h l (X t).off)[i]?=some j):pos0 (jsL L h l (X t).off) j=some i:=by
 refine ZhQ (ow:=ow) (k:=6) ?_ hi hj;show [ow L.fk,ow L.un,ow h,ow l.r,ow l.d,ow l.g].Nodup;rw[R.wf,R.wu,hd.wh,hd.wr,hd.wd,hd.wg];exact rolN6 t
theorem ZmT{o:Off}{i j:Nat}(e:(X t).off=some o)(hi:i<9)(hj:(jsL L h l (X t).off)[i]?=some j):pos0 (jsL L h l (X t).off) j=some i:=by
 refine ZhQ (ow:=ow) (k:=9) ?_ hi hj;have O:=hd.off o e;rw[e];show [ow L.fk,ow L.un,ow h,ow l.r,ow l.d,ow l.g,ow l.o,ow l.p,ow l.a].Nodup;rw[R.wf,R.wu,hd.wh,hd.wr,hd.wd,hd.wg,O.wo,O.wp,O.wa];exact rolN t
theorem embA:Emb (jsL L h l (X t).off) ⟨fA (.int M) (shV t M) U t (X t) []⟩ H where
 nx:=(ZeJ<|R.hl.symm▸R.hM).symm
 dom:=λi hi=>ZeC (by rw[ZeJ<|R.hl.symm▸R.hM]at hi;exact hi)
 all:=by
  have fk:∃c,H.get L.fk=some c:=⟨_,R.fk⟩
  have po:∀i:Nat,(∀o,(X t).off=some o->∃c,H.get i=some c)->∃c,H.get (pick (X t).off i L.fk)=some c:=λi q=>by
   induction e:(X t).off with
   |none=>exact fk
   |some o=>exact q o e
  refine forall_mem_cons.mpr ⟨fk,forall_mem_cons.mpr ⟨⟨_,R.un⟩,forall_mem_cons.mpr ⟨⟨_,hd.hd⟩,forall_mem_cons.mpr ⟨⟨_,hd.row⟩,forall_mem_cons.mpr ⟨⟨_,hd.hol⟩,forall_mem_cons.mpr ⟨⟨_,hd.gon⟩,forall_mem_cons.mpr ⟨po _ λo e=>⟨_,(hd.off o e).go⟩,forall_mem_cons.mpr ⟨po _ λo e=>⟨_,(hd.off o e).gp⟩,forall_mem_cons.mpr ⟨po _ λo e=>⟨_,(hd.off o e).ga⟩,λj hj=>?_⟩⟩⟩⟩⟩⟩⟩⟩⟩
  rcases Mp hj with z |z
  ·obtain⟨u,hu⟩:=List.getElem?_of_mem z;obtain⟨l',d'⟩:=R.hd u j hu;exact⟨_,d'.hd⟩
  ·exact(List.eq_of_mem_replicate z)▸fk
 get:=by
  have k6:∀{i j:Nat}{c' c:C},i<6->(jsL L h l (X t).off)[i]?=some j->H.get j=some (renC (rho (jsL L h l (X t).off) H.next) c')->some c'=some c->∃j,(jsL L h l (X t).off)[i]?=some j/\pos0 (jsL L h l (X t).off) j=some i/\H.get j=some (renC (rho (jsL L h l (X t).off) H.next) c):=λhi hj hg e=>⟨_,hj,Zov R ht hd hi hj,Sj e▸hg⟩
  have k9:∀{i j:Nat}{c':Off->C}{c:C}{f:Option Off->Option C},f none=none->(∀o,f (some o)=some (c' o))->i<9->(∀o,(X t).off=some o->(jsL L h l (X t).off)[i]?=some j/\H.get j=some (renC (rho (jsL L h l (X t).off) H.next)<|c' o))->f (X t).off=some c->∃j,(jsL L h l (X t).off)[i]?=some j/\pos0 (jsL L h l (X t).off) j=some i/\H.get j=some (renC (rho (jsL L h l (X t).off) H.next) c):=λ{i j c' c f} f0 f1 hi q e=>by
   induction eo:(X t).off with
   |none=>rw[eo,f0]at e;exact noS e
   |some o=>
    obtain⟨q1,q2⟩:=q o eo;rw[eo,f1]at e;rw[← eo];exact⟨j,q1,ZmT R ht hd eo hi q1,Sj e▸q2⟩
  intro i c g;have li:i<19:=Zas g
  match i,g with
  |0,g=>exact k6 (by decide) rfl (by show _=some (C.inst 60 [(18,.int M),(123,.lst<|renVs _<|shV t M),(124,.ref L.un)]);rw[← R.hl,ZjY ht,R.hl];exact R.fk) g
  |1,g=>exact k6 (by decide) rfl (by show _=some (C.list<|renVs _<|lV U);rw[Zkt];exact R.un) g
  |2,g=>
   refine k6 (by decide) rfl ?_ g;rw[Zkr];refine hd.hd.trans ?_;show some (C.inst 59<|hFL t (X t) l)=some (.inst 59<|hFL t (X t) ⟨l.r,l.d,l.g,pick (X t).off l.o L.fk,_,_⟩);unfold hFL
   induction (X t).off <;> rfl
  |3,g=>exact k6 (by decide) rfl (by show _=some (C.list<|renVs _<|mV (X t).row);rw[Zcz];exact hd.row) g
  |4,g=>exact k6 (by decide) rfl (by show _=some (C.dict<|renK _<|hoV (X t).holds);rw[Zhw];exact hd.hol) g
  |5,g=>exact k6 (by decide) rfl (by show _=some (C.list<|renVs _<|gV (X t).gone);rw[Zhy];exact hd.gon) g
  |6,g=>exact k9 (j:=l.o) (f:=oC) rfl (λø=>rfl) (by decide) (λo e=>⟨by rw[e];rfl,by rw[Zj0];exact(hd.off o e).go.trans (by rw[e];rfl)⟩) g
  |7,g=>exact k9 (j:=l.p) (f:=pC) rfl (λø=>rfl) (by decide) (λo e=>⟨by rw[e];rfl,by show _=some (C.dict<|renK _<|prV o.prom);rw[ZgJ];exact(hd.off o e).gp⟩) g
  |8,g=>exact k9 (j:=l.a) (f:=aC) rfl (λø=>rfl) (by decide) (λo e=>⟨by rw[e];rfl,by show _=some (C.dict<|renK _<|agV o.agr);rw[ZhE];exact(hd.off o e).ga⟩) g
  |i+9,g=>
   have g:atC (fA (.int M) (shV t M) U t (X t) []) (i+9)=some c:=g;rw[Zf4 (Aw 9 i) li]at g;exact noS g
end
inductive Pos(t:Nat)(rs:List Nat)(i0:Nat)(i r:Nat):Prop
 |old (h:i=i0)
 |new (h:19<=i) (w:rs.getD (i - 19) 0=rol t r)
structure OfS(t:Nat)(y:Option Off)(rs:List Nat)(o:Off)(l:Lh)(H:Hp):Prop where
 go:H.get l.o=some (.inst 155<|oFL o l.p l.a)
 gp:H.get l.p=some (.dict<|prV o.prom)
 ga:H.get l.a=some (.dict<|agV o.agr)
 po:Pos t rs 6 l.o 4
 pp:Pos t rs 7 l.p 5
 pa:Pos t rs 8 l.a 6
 ys:l.o<19\/l.p<19\/l.a<19->y.isSome=true
structure Sml(t M:Nat)(y:Option Off)(rs:List Nat)(U:List Letter)(x:Hd)(l:Lh)(H:Hp):Prop where
 f0:H.get 0=some (folkC (.int M)<|shV t M)
 f1:H.get 1=some (.list<|lV U)
 f2:H.get 2=some (.inst 59<|hFL t x l)
 gr:H.get l.r=some (.list<|mV x.row)
 gd:H.get l.d=some (.dict<|hoV x.holds)
 gg:H.get l.g=some (.list<|gV x.gone)
 pr:Pos t rs 3 l.r 1
 pd:Pos t rs 4 l.d 2
 pg:Pos t rs 5 l.g 3
 off:∀o,x.off=some o->OfS t y rs o l H
 mid:∀i,9<=i->i<19->H.get i=none
section
variable {L:Lay}{l:Lh}{U:List Letter}{X:Nat->Hd}{rs:List Nat}{U':List Letter}{x':Hd}{l':Lh}(R:Rep H ow L M U X)(ht:L.hs[t]?=some h)(hd:HdR H ow t h (X t) l)
def whA(L:Lay)(t h M:Nat)(l:Lh)(U:List Letter)(X:Nat->Hd)(H H₁:Hp):Hp:=mrg (jsL L h l (X t).off) ⟨fA (.int M) (shV t M) U t (X t) []⟩ H H₁
include R ht hd
theorem hidA{j:Nat}{c:C}(mid:∀i,9<=i->i<19->H₁.get i=none)(g:H.get j=some c)(f:Far t (ow j)):(whA L t h M l U X H H₁).get j=some c/\owN H.next ow rs j=ow j:=by
 refine⟨Zio g λi p=>?_,if_pos<|Zas g⟩;have e:=Zbf p;have li:i<19:=ZeJ (h:=h) (l:=l) (o:=(X t).off) (R.hl.symm▸R.hM)▸(List.getElem?_eq_some_iff.mp e).1
 by_cases c:i<9
 ·exact absurd f<|Zqf R ht hd c e
 ·exact⟨Zf4 (Nat.le_of_not_lt c) li,mid i (Nat.le_of_not_lt c) li⟩
theorem visA{i0 i r j0:Nat}{c c0:C}(p:Pos t rs i0 i r)(g:H₁.get i=some c)(hj:i<19->(jsL L h l (X t).off)[i0]?=some j0/\pos0 (jsL L h l (X t).off) j0=some i0/\H.get j0=some c0/\ow j0=rol t r)(i9:i0<19):
  (whA L t h M l U X H H₁).get (rho (jsL L h l (X t).off) H.next i)=some (renC (rho (jsL L h l (X t).off) H.next) c)/\owN H.next ow rs (rho (jsL L h l (X t).off) H.next i)=rol t r:=by
 have len:(jsL L h l (X t).off).length=19:=ZeJ<|R.hl.symm▸R.hM
 induction p with
 |old e=>
  subst e;obtain⟨a,b,c,d⟩:=hj i9;rw[Zcg a];refine⟨ZeE c b g,?_⟩;exact(if_pos<|show j0<H.next from Zas c).trans d
 |new e w=>
  rw[Zcj (by rw[len];exact e)];refine⟨Zch (by rw[len];exact e) g,?_⟩;unfold owN;rw[if_neg<|by exact λzz=>Nat.lt_irrefl _<|Nat.lt_add_right _ zz,len,Nat.add_sub_cancel_left];exact w
theorem liftA(s:Sml t M (X t).off rs U' x' l' H₁):Rep (whA L t h M l U X H H₁) (owN H.next ow rs) L M U' (updX X t x')/\Keep H ow (whA L t h M l U X H H₁) (owN H.next ow rs):=by
 have P6:=λ{i j:Nat}=>Zov R ht hd (i:=i) (j:=j);have old:∀{j:Nat}{c:C},H.get j=some c->owN H.next ow rs j=ow j:=λg=>if_pos<|Zas g
 have w2:(whA L t h M l U X H H₁).get h=some (.inst 59<|hFL t x'<|l'.ren<|rho (jsL L h l (X t).off) H.next):=by
  rw[← Zkr];exact ZeE hd.hd (P6 (i:=2) (by decide) rfl) s.f2
 refine⟨⟨?_,?_,R.hl,R.hM,?_,?_,λu k hu=>?_⟩,λj c g w=>?_⟩
 ·refine(ZeE R.fk (P6 (i:=0) (by decide) rfl) s.f0).trans ?_;show some (C.inst 60 [(18,.int M),(123,.lst<|renVs _<|shV t M),(124,.ref L.un)])=_;rw[← R.hl,ZjY ht]
 ·refine(ZeE R.un (P6 (i:=1) (by decide) rfl) s.f1).trans ?_;show some (C.list<|renVs _<|lV U')=_;rw[Zkt]
 ·rw[old R.fk];exact R.wf
 ·rw[old R.un];exact R.wu
 ·by_cases c:u=t
  ·subst c;rw[ht]at hu;obtain rfl:=Sj hu;have ex:updX X u x' u=x':=if_pos rfl;rw[ex];have vr:=visA R ht hd s.pr s.gr (λø=>⟨rfl,P6 (by decide) rfl,hd.row,hd.wr⟩) (by decide);have vd:=visA R ht hd s.pd s.gd (λø=>⟨rfl,P6 (by decide) rfl,hd.hol,hd.wd⟩) (by decide);have vg:=visA R ht hd s.pg s.gg (λø=>⟨rfl,P6 (by decide) rfl,hd.gon,hd.wg⟩) (by decide);refine⟨l'.ren<|rho (jsL L h l (X u).off) H.next,w2,vr.1.trans ?_,vd.1.trans ?_,vg.1.trans ?_,λo e=>?_,(old hd.hd).trans hd.wh,vr.2,vd.2,vg.2⟩
   ·show some (C.list<|renVs _<|mV x'.row)=_;rw[Zcz]
   ·show some (C.dict<|renK _<|hoV x'.holds)=_;rw[Zhw]
   ·show some (C.list<|renVs _<|gV x'.gone)=_;rw[Zhy]
   ·have S:=s.off o e
    have key:∀(i0 i r j0:Nat)(c:C),(i<19->l'.o<19\/l'.p<19\/l'.a<19)->i0<9->Pos u rs i0 i r->H₁.get i=some c->(∀y,(X u).off=some y->(jsL L h l (X u).off)[i0]?=some j0/\(∃c0,H.get j0=some c0)/\ow j0=rol u r)->(whA L u h M l U X H H₁).get (rho (jsL L h l (X u).off) H.next i)=some (renC (rho (jsL L h l (X u).off) H.next) c)/\owN H.next ow rs (rho (jsL L h l (X u).off) H.next i)=rol u r:=λi0 i r j0 c hi h9 p g q=>by
     by_cases li:i<19
     ·have ys:=S.ys (hi li)
      induction ey:(X u).off with
      |none=>rw[ey]at ys;exact noT ys
      |some y=>
       obtain⟨q1,⟨c0,q2⟩,q3⟩:=q y ey;rw[← ey];exact visA R ht hd p g (λø=>⟨q1,ZmT R ht hd ey h9 q1,q2,q3⟩)<|by exact lc5 h9 rfl
     ·exact visA (c0:=c) (j0:=0) R ht hd p g (λz=>absurd z li)<|by exact lc5 h9 rfl
    have vo:=key 6 l'.o 4 l.o _ (λz=>.inl z) (by decide) S.po S.go λy ey=>⟨by rw[ey];rfl,⟨_,(hd.off y ey).go⟩,(hd.off y ey).wo⟩
    have vp:=key 7 l'.p 5 l.p _ (λz=>.inr<|.inl z) (by decide) S.pp S.gp λy ey=>⟨by rw[ey];rfl,⟨_,(hd.off y ey).gp⟩,(hd.off y ey).wp⟩
    have va:=key 8 l'.a 6 l.a _ (λz=>.inr<|.inr z) (by decide) S.pa S.ga λy ey=>⟨by rw[ey];rfl,⟨_,(hd.off y ey).ga⟩,(hd.off y ey).wa⟩
    refine⟨vo.1.trans ?_,vp.1.trans ?_,va.1.trans ?_,vo.2,vp.2,va.2⟩
    ·rw[Zj0];rfl
    ·show some (C.dict<|renK _<|prV o.prom)=_;rw[ZgJ]
    ·show some (C.dict<|renK _<|agV o.agr)=_;rw[ZhE]
  ·obtain⟨m,d⟩:=R.hd u k hu;have e:updX X t x' u=X u:=if_neg c;rw[e]
   have hid:∀{j:Nat}{cc:C}{r:Nat},r<7->H.get j=some cc->ow j=rol u r->(whA L t h M l U X H H₁).get j=some cc/\owN H.next ow rs j=rol u r:=λhr g w=>by
    have q:=hidA (rs:=rs) R ht hd s.mid g<|w▸farU c hr;exact⟨q.1,q.2.trans w⟩
   have a0:=hid (by decide) d.hd d.wh;have a1:=hid (by decide) d.row d.wr;have a2:=hid (by decide) d.hol d.wd;have a3:=hid (by decide) d.gon d.wg;refine⟨m,a0.1,a1.1,a2.1,a3.1,λo eo=>?_,a0.2,a1.2,a2.2,a3.2⟩;have O:=d.off o eo;have b0:=hid (by decide) O.go O.wo;have b1:=hid (by decide) O.gp O.wp;have b2:=hid (by decide) O.ga O.wa;exact⟨b0.1,b1.1,b2.1,b0.2,b1.2,b2.2⟩
 ·have q:=hidA (rs:=rs) R ht hd s.mid g<|w▸far0 t;exact⟨q.1,q.2.trans w⟩
end
theorem ZjV{x:Hd}{a b c:Option C}{r:List (Option C)}:∀{i:Nat},9<=i->i<19->atC (a::b::c::(tA x++r)) i=none
 |9,_,_=>rfl
 |10,_,_=>rfl
 |11,_,_=>rfl
 |12,_,_=>rfl
 |13,_,_=>rfl
 |14,_,_=>rfl
 |15,_,_=>rfl
 |16,_,_=>rfl
 |17,_,_=>rfl
 |18,_,_=>rfl
 |0,h,_=>absurd h<|by decide
 |1,h,_=>absurd h<|by decide
 |2,h,_=>absurd h<|by decide
 |3,h,_=>absurd h<|by decide
 |4,h,_=>absurd h<|by decide
 |5,h,_=>absurd h<|by decide
 |6,h,_=>absurd h<|by decide
 |7,h,_=>absurd h<|by decide
 |8,h,_=>absurd h<|by decide
 |i+19,_,h=>absurd h<|not_lt_of_le<|Aw 19 i
theorem smlA{t M:Nat}{y:Option Off}{U:List Letter}{x:Hd}{g:List (Option C)}(ho:x.off.isSome=y.isSome):Sml t M y [] U x l0 ⟨fA (.int M) (shV t M) U t x g⟩ where
 f0:=rfl
 f1:=rfl
 f2:=rfl
 gr:=rfl
 gd:=rfl
 gg:=rfl
 pr:=.old rfl
 pd:=.old rfl
 pg:=.old rfl
 off:=λo e=>⟨by show oC x.off=_;rw[e];rfl,by show pC x.off=_;rw[e];rfl,by show aC x.off=_;rw[e];rfl,.old rfl,.old rfl,.old rfl,λø=>by rw[← ho,e];rfl⟩
 mid:=λi a b=>Zf4 a b
theorem SM.sml{t M:Nat}{y x:Hd}{U:List Letter}{H:Hp}(s:SM (.int M) (shV t M) t y U x H):∃rs l,Sml t M y.off rs U x l H:=by
 cases s with
 |a g ho=>exact⟨[],l0,smlA ho⟩
 |b z ho hr hh hg=>
  refine⟨[rol t 1,rol t 2],l1,rfl,rfl,rfl,?_,?_,?_,.new (by decide) rfl,.new (by decide) rfl,.old rfl,λo e=>(by rw[ho]at e;exact noS e),λi a b=>ZjV a b⟩
  ·rw[hr];rfl
  ·rw[hh];rfl
  ·rw[hg];rfl
 |c o hx hp ha=>
  subst hx;refine⟨[rol t 4,rol t 5,rol t 6],l2,rfl,rfl,rfl,rfl,rfl,rfl,.old rfl,.old rfl,.old rfl,λo' e=>?_,λi a b=>ZjV a b⟩;obtain rfl:=Sj e;refine⟨rfl,?_,?_,.new (by decide) rfl,.new (by decide) rfl,.new (by decide) rfl,λz=>absurd z<|by decide⟩
  ·rw[hp];rfl
  ·rw[ha];rfl
theorem Zaf{X:Nat->Hd}{t:Nat}:updX X t (X t)=X:=funext λu=>by
 show(if u=t then X t else X u)=X u
 by_cases c:u=t
 ·rw[if_pos c,c]
 ·rw[if_neg c]
theorem Zbh{t M:Nat}(h:t<M):AtA t M (shV t M) where
 lt:=h
 at_:=by
  unfold shV;rw[getElem?_map,List.getElem?_range h];show some (if t=t then V.ref 2 else _)=_;rw[if_pos rfl]
structure FcA(H:Hp)(ow:Nat->Nat)(L:Lay)(M t:Nat)(U:List Letter)(X:Nat->Hd)(Q:V->Hp->Prop)(E:Yh)(Q₁:V->Hp->Prop)(E1:Yh):Prop where
 val:∀{v U' x' H₁},(∀ρ,renV ρ v=v)->SM (.int M) (shV t M) t (X t) U' x' H₁->(∀H' ow',Rep H' ow' L M U' (updX X t x')->Keep H ow H' ow'->Q v H')->Q₁ v H₁
 hnd:∀{hd U' x' H₁},L.hs[t]?=some hd->SM (.int M) (shV t M) t (X t) U' x' H₁->(∀H' ow',Rep H' ow' L M U' (updX X t x')->Keep H ow H' ow'->Q (.ref hd) H')->Q₁ (.ref 2) H₁
 new:∀{xs},(∀ρ,renVs ρ xs=xs)->(∀H' ow',Rep H' ow' L M U X->Keep H ow H' ow'->H'.get H.next=some (.list xs)->ow' H.next=0->Q (.ref H.next) H')->Q₁ (.ref 19) ⟨fA (.int M) (shV t M) U t (X t) [some<|.list xs]⟩
 exc:∀{k},(∀H' ow' j,Rep H' ow' L M U X->Keep H ow H' ow'->H'.get j=some (.exc k)->E j H')->E1 19 ⟨fA (.int M) (shV t M) U t (X t) [some<|.exc k]⟩
section
variable {L:Lay}{U:List Letter}{X:Nat->Hd}{ds:List V}(R:Rep H ow L M U X)(ht:t<M)
include R
theorem focG{hd':Nat}{as as₁:List V}(hh:L.hs[t]?=some hd')(ha:∀ρ:Nat->Nat,ρ 0=L.fk->ρ 2=hd'->as=renVs ρ as₁)(h:∀Q₁ E1,FcA H ow L M t U X Q E Q₁ E1->CW tb.P (n+1) f as₁ ⟨fA (.int M) (shV t M) U t (X t) []⟩ Q₁ E1):CW tb.P (n+1) f as H Q E:=by
 obtain⟨l,hd⟩:=R.hd t _ hh;have len:(jsL L hd' l (X t).off).length=19:=ZeJ<|R.hl.symm▸R.hM
 have ej:rho (jsL L hd' l (X t).off) H.next 19=H.next:=by rw[Zcj<|Nz len,len];rfl
 refine .foc (jsL L hd' l (X t).off) as₁ _ (embA R hh hd) (ha _ rfl rfl)<|h _ _ ⟨?_,?_,?_,?_⟩
 ·intro v U' x' H₁ hv s q;obtain⟨rs,l',s⟩:=s.sml;have g:=liftA R hh hd s;show Q (renV _ v) _;rw[hv];exact q _ _ g.1 g.2
 ·intro hd'' U' x' H₁ hq s q;obtain⟨rs,l',s⟩:=s.sml;have g:=liftA R hh hd s;obtain rfl:=Sj<|hh.symm.trans hq;exact q _ _ g.1 g.2
 ·intro xs hx q;have g:=liftA R hh hd<|smlA (M:=M) (U:=U) (x:=X t) (g:=[some<|.list xs]) rfl;rw[Zaf]at g;show Q (.ref<|rho (jsL L hd' l (X t).off) H.next 19) _;rw[ej];refine q _ _ g.1 g.2 ?_ ?_
  ·have e:=Zch (js:=jsL L hd' l (X t).off) (H₀:=⟨fA (.int M) (shV t M) U t (X t) []⟩) (H:=H) (H₁:=⟨fA (.int M) (shV t M) U t (X t) [some<|.list xs]⟩) (i:=19) (c₁:=.list xs) (Nz len) rfl;rw[len]at e;refine e.trans ?_;show some (C.list<|renVs _ xs)=_;rw[hx]
  ·unfold owN;rw[if_neg<|Nat.lt_irrefl _,Nat.sub_self];rfl
 ·intro k q;have g:=liftA R hh hd<|smlA (M:=M) (U:=U) (x:=X t) (g:=[some<|.exc k]) rfl;rw[Zaf]at g;show(jsL L hd' l (X t).off).length<=19/\E (rho (jsL L hd' l (X t).off) H.next 19) _;rw[ej];refine⟨Nz len,q _ _ _ g.1 g.2 ?_⟩;have e:=Zch (js:=jsL L hd' l (X t).off) (H₀:=⟨fA (.int M) (shV t M) U t (X t) []⟩) (H:=H) (H₁:=⟨fA (.int M) (shV t M) U t (X t) [some<|.exc k]⟩) (i:=19) (c₁:=.exc k) (Nz len) rfl;rw[len]at e;exact e
include ht
theorem focA(hds:∀ρ,renVs ρ ds=ds)(h:∀Q₁ E1,FcA H ow L M t U X Q E Q₁ E1->CW tb.P (n+1) f (.ref 0::ds) ⟨fA (.int M) (shV t M) U t (X t) []⟩ Q₁ E1):CW tb.P (n+1) f (.ref L.fk::ds) H Q E:=by
 have lt:t<L.hs.length:=R.hl.symm▸ht;refine focG R (Lg lt) (λρ h0 ø=>?_) h;show V.ref L.fk::ds=V.ref (ρ 0)::renVs ρ ds;rw[hds,h0]
end
section
variable {L:Lay}{U:List Letter}{X:Nat->Hd}(R:Rep H ow L M U X)(ht:t<M)
include R ht
theorem Zo5{f pl:Int}{fs:List Int}{w:Str}(hu:(X t).up=true)(hp:(X t).place=some pl)(hf:(X t).ms=f::fs)(hU:U.length+1<=SZ)(h:∀H' ow',Rep H' ow' L M (U++[⟨t,f,pl,.wish ⟨t,(X t).said,w⟩⟩]) (updX X t { X t with said:=(X t).said+1 })->Keep H ow H' ow'->Q .none H'):CW tb.P (n+4) 248 [.ref L.fk,.int t,.str w] H Q E:=
 focA R ht (λø=>rfl) λQ₁ E1 F=>Zpr (Zbh ht) hu hp rfl hf hU<|F.val (λø=>rfl) (.a [] rfl) h
theorem ZmP{pl:Int}{l:List Int}(hu:(X t).up=true)(hp:(X t).place=some pl)(fi:Fi M l)(hl:l.length<=SZ)(hz:(X t).ms.length<=50)(hU:U.length+50<=SZ)(h:∀H' ow',Rep H' ow' L M (U++sendF t pl (X t).ms (.prep (mostF (X t)+1,t))) (updX X t { X t with off:=some (offF t (X t) l) })->Keep H ow H' ow'->Q .none H'):CW tb.P (n+4) 270 [.ref L.fk,.int t,.lst<|iV l] H Q E:=
 focA R ht (λρ=>by show [V.int t,.lst<|renVs ρ<|iV l]=_;rw[Zb2]) λQ₁ E1 F=>Zn4 (Zbh ht) hu hp rfl fi hl hz hU λH₁ s=>F.val (λø=>rfl) s h
theorem ZjM{p:Nat}{Lt:Letter}(hp:U[p]?=some Lt)(hto:Lt.to=t)(o:OkA (dropAt U p) t (X t))(oc:(X t).up=true->(newsOf Lt.c=none->(X t).place=some Lt.pl)->OkC (X t) Lt.from_ Lt.c)(h:∀H' ow',Rep H' ow' L M (comeF t (X t) (dropAt U p) Lt).2 (updX X t (comeF t (X t) (dropAt U p) Lt).1)->Keep H ow H' ow'->Q .none H'):CW tb.P (n+6) 251 [.ref L.fk,.int p] H Q E:=
 focA R ht (λø=>rfl) λQ₁ E1 F=>ZoA hp hto (Zbh ht).at_ o oc λH₁ s=>F.val (λø=>rfl) s h
end
noncomputable def hG(k:Int)(pl hi ms:V)(g r d:Nat):List (Nat×V):=[(109,.int k),(110,pl),(111,hi),(17,ms),(112,.int 0),(113,.bool true),(114,.ref g),(115,.none),(23,.ref r),(116,.int 0),(117,.bool false),(118,.tup [.int 0,.int (-1)]),(119,.none),(120,.none),(121,.ref d)]
theorem ZkS{js:List Nat}{H₀ H H₁:Hp}{j:Nat}{c:C}(g:H.get j=some c)(n:j∉js):(mrg js H₀ H H₁).get j=some c:=Zio g λi p=>absurd (List.mem_of_getElem?<|Zbf p) n
theorem f237:tb.P.fn 237=some ZbA:=by kernel_rfl
theorem sa{P:Prog}{K:CT}{E:EP}{e:PE}{nm k:Nat}{v:V}{fs fs':List (Nat×V)}{r r':List (Option C)}{lo:Loc}{rest:PSs}{Q:Yf}(hl:lo 108=some (.ref 0))(he:∀Q':Yq,Q' v ⟨⟨some (.inst k fs)::r'⟩,lo⟩->wpE P K E e ⟨⟨some (.inst k fs)::r⟩,lo⟩ Q')(hc:attrOk P k nm=true)(hs:st fs nm v=fs')(hz:fs.length<1000)
  (h:wpSs P K rest ⟨⟨some (.inst k fs')::r'⟩,lo⟩ Q E):wpSs P K (.cons (.assign (.attr (.loc 108) nm) e) rest) ⟨⟨some (.inst k fs)::r⟩,lo⟩ Q E:=by
 subst hs;refine he _<|Zaa (o:=lo 108) hl ?_;unfold attrOk at hc
 induction q:P.cls k with
 |none=>rw[q]at hc;exact noT hc
 |some c=>
  rw[q]at hc;exact Zaa (o:=P.cls k) q ⟨hc,hz,h⟩
theorem begA{k:Int}{Q:V->Hp->Prop}{E:Yh}(h:Q .none ⟨some (.inst 59 [(109,.int k),(110,.none),(111,.int (-1)),(17,.lst []),(112,.int 0),(113,.bool true),(114,.ref 1),(115,.none),(23,.ref 2),(116,.int 0),(117,.bool false),(118,.tup [.int 0,.int (-1)]),(119,.none),(120,.none),(121,.ref 3)])::[some<|.list [],some<|.list [],some<|.dict []]⟩):CW tb.P (n+1) 238 [.ref 0] ⟨some (.inst 59 [(109,.int k),(110,.none),(111,.int (-1)),(17,.lst []),(112,.int 0),(113,.bool true),(114,.ref 1),(115,.none)])::[some<|.list []]⟩ Q E:=by
 exact Zac _ _ _ f238 rfl<|sa (v:=.ref 2) (fs':=[(109,.int k),(110,.none),(111,.int (-1)),(17,.lst []),(112,.int 0),(113,.bool true),(114,.ref 1),(115,.none),(23,.ref 2)]) (r':=[some<|.list [],some<|.list []]) rfl (λQ' q=>⟨Zad rfl,q⟩) (by kernel_rfl) rfl (Zad rfl)<|sa (v:=.int 0) (fs':=[(109,.int k),(110,.none),(111,.int (-1)),(17,.lst []),(112,.int 0),(113,.bool true),(114,.ref 1),(115,.none),(23,.ref 2),(116,.int 0)]) (r':=[some<|.list [],some<|.list []]) rfl (λQ' q=>q) (by kernel_rfl) rfl (Zad rfl)<|sa (v:=.bool false) (fs':=[(109,.int k),(110,.none),(111,.int (-1)),(17,.lst []),(112,.int 0),(113,.bool true),(114,.ref 1),(115,.none),(23,.ref 2),(116,.int 0),(117,.bool false)]) (r':=[some<|.list [],some<|.list []]) rfl (λQ' q=>q) (by kernel_rfl) rfl (Zad rfl)<|sa (v:=.tup [.int 0,.int (-1)]) (fs':=[(109,.int k),(110,.none),(111,.int (-1)),(17,.lst []),(112,.int 0),(113,.bool true),(114,.ref 1),(115,.none),(23,.ref 2),(116,.int 0),(117,.bool false),(118,.tup [.int 0,.int (-1)])]) (r':=[some<|.list [],some<|.list []]) rfl (λQ' q=>⟨Zad rfl,q⟩) (by kernel_rfl) rfl (Zad rfl)<|sa (v:=.none) (fs':=[(109,.int k),(110,.none),(111,.int (-1)),(17,.lst []),(112,.int 0),(113,.bool true),(114,.ref 1),(115,.none),(23,.ref 2),(116,.int 0),(117,.bool false),(118,.tup [.int 0,.int (-1)]),(119,.none)]) (r':=[some<|.list [],some<|.list []]) rfl (λQ' q=>q) (by kernel_rfl) rfl (Zad rfl)<|sa (v:=.none) (fs':=[(109,.int k),(110,.none),(111,.int (-1)),(17,.lst []),(112,.int 0),(113,.bool true),(114,.ref 1),(115,.none),(23,.ref 2),(116,.int 0),(117,.bool false),(118,.tup [.int 0,.int (-1)]),(119,.none),(120,.none)]) (r':=[some<|.list [],some<|.list []]) rfl (λQ' q=>q) (by kernel_rfl) rfl (Zad rfl)<|sa (v:=.ref 3) (fs':=[(109,.int k),(110,.none),(111,.int (-1)),(17,.lst []),(112,.int 0),(113,.bool true),(114,.ref 1),(115,.none),(23,.ref 2),(116,.int 0),(117,.bool false),(118,.tup [.int 0,.int (-1)]),(119,.none),(120,.none),(121,.ref 3)]) (r':=[some<|.list [],some<|.list [],some<|.dict []]) rfl (λQ' q=>⟨Zad rfl,rfl,q⟩) (by kernel_rfl) rfl (Zad rfl)<|h
theorem Znm{k:Int}(h:Q .none ⟨[some<|.inst 59<|hG k .none (.int (-1)) (.lst []) 1 2 3,some<|.list [],some<|.list [],some<|.dict []]⟩):CW tb.P (n+2) 237 [.ref 0,.int k] ⟨[some<|.inst 59 []]⟩ Q E:=by
 exact Zac _ _ _ f237 rfl<|sa (v:=.int k) (fs':=[(109,.int k)]) (r':=[]) rfl (λQ' q=>q) (by kernel_rfl) rfl (Zad rfl)<|sa (v:=.none) (fs':=[(109,.int k),(110,.none)]) (r':=[]) rfl (λQ' q=>q) (by kernel_rfl) rfl (Zad rfl)<|sa (v:=.int (-1)) (fs':=[(109,.int k),(110,.none),(111,.int (-1))]) (r':=[]) rfl (λQ' q=>q) (by kernel_rfl) rfl (Zad rfl)<|sa (v:=.lst []) (fs':=[(109,.int k),(110,.none),(111,.int (-1)),(17,.lst [])]) (r':=[]) rfl (λQ' q=>⟨Zad rfl,q⟩) (by kernel_rfl) rfl (Zad rfl)<|sa (v:=.int 0) (fs':=[(109,.int k),(110,.none),(111,.int (-1)),(17,.lst []),(112,.int 0)]) (r':=[]) rfl (λQ' q=>q) (by kernel_rfl) rfl (Zad rfl)<|sa (v:=.bool true) (fs':=[(109,.int k),(110,.none),(111,.int (-1)),(17,.lst []),(112,.int 0),(113,.bool true)]) (r':=[]) rfl (λQ' q=>q) (by kernel_rfl) rfl (Zad rfl)<|sa (v:=.ref 1) (fs':=[(109,.int k),(110,.none),(111,.int (-1)),(17,.lst []),(112,.int 0),(113,.bool true),(114,.ref 1)]) (r':=[some<|.list []]) rfl (λQ' q=>⟨Zad rfl,q⟩) (by kernel_rfl) rfl (Zad rfl)<|sa (v:=.none) (fs':=[(109,.int k),(110,.none),(111,.int (-1)),(17,.lst []),(112,.int 0),(113,.bool true),(114,.ref 1),(115,.none)]) (r':=[some<|.list []]) rfl (λQ' q=>q) (by kernel_rfl) rfl (Zad rfl)<|begA<|h
structure Made(H H':Hp)(j:Nat)(k:Int):Prop where
 nx:H'.next=H.next+3
 hd:H'.get j=some (.inst 59<|hG k .none (.int (-1)) (.lst []) H.next (H.next+1)<|H.next+2)
 g:H'.get H.next=some (.list [])
 r:H'.get (H.next+1)=some (.list [])
 d:H'.get (H.next+2)=some (.dict [])
 kp:∀i c,H.get i=some c->i≠j->H'.get i=some c
theorem Znk{H:Hp}{j:Nat}{k:Int}(hj:H.get j=some (.inst 59 []))(h:∀H',Made H H' j k->Q .none H'):CW tb.P (n+2) 237 [.ref j,.int k] H Q E:=by
 have p0:pos0 [j] j=some 0:=ZeH;refine .foc [j] [.ref 0,.int k] ⟨[some<|.inst 59 []]⟩ ⟨rfl,λi hi=>ZeC hi,λi hi=>⟨_,(Mg hi)▸hj⟩,λi c g=>?_⟩ rfl (Znm ?_)
 ·match i,g with
  |0,g=>obtain rfl:=Sj g;exact⟨j,rfl,p0,hj⟩
  |i+1,g=>exact absurd (Zas<|show atC [some<|.inst 59 []] (i+1)=some c from g) (by show ¬ i+1<1;exact λzz=>Nat.lt_irrefl _<|Nat.lt_add_left _ zz)
 ·refine h _ ⟨?_,?_,?_,?_,?_,λi c g ne=>ZkS g λz=>ne<|Mg z⟩
  ·rw[Zfv];rfl
  ·exact ZeE (c₁:=.inst 59<|hG k .none (.int (-1)) (.lst []) 1 2 3) hj p0 rfl
  ·exact Zch (js:=[j]) (i:=1) (c₁:=.list []) (Zr 1) rfl
  ·exact Zch (js:=[j]) (i:=2) (c₁:=.list []) (by show 1<=2;decide) rfl
  ·exact Zch (js:=[j]) (i:=3) (c₁:=.dict []) (by show 1<=3;decide) rfl
theorem saL{P:Prog}{K:CT}{E:EP}{e:PE}{nm k j:Nat}{v:V}{fs:List (Nat×V)}{H H₁:Hp}{lo:Loc}{rest:PSs}{Q:Yf}(hl:lo 108=some (.ref j))(he:∀Q':Yq,Q' v ⟨H₁,lo⟩->wpE P K E e ⟨H,lo⟩ Q')(hg:H₁.get j=some (.inst k fs))(hc:attrOk P k nm=true)(hz:fs.length<1000)
  (h:wpSs P K rest ⟨H₁.set j<|.inst k<|st fs nm v,lo⟩ Q E):wpSs P K (.cons (.assign (.attr (.loc 108) nm) e) rest) ⟨H,lo⟩ Q E:=by
 refine he _<|Zaa (o:=lo 108) hl<|Zaa (o:=cI<|H₁.get j) (a:=(k,fs)) (by rw[hg];rfl) ?_;unfold attrOk at hc
 induction q:P.cls k with
 |none=>rw[q]at hc;exact noT hc
 |some c=>
  rw[q]at hc;exact Zaa (o:=P.cls k) q ⟨hc,hz,h⟩
structure HN(H:Hp)(h w:Nat):Prop where
 hd:H.get h=some (.inst 59<|hG w .none (.int (-1)) (.lst []) (h+1) (h+2)<|h+3)
 g:H.get (h+1)=some (.list [])
 r:H.get (h+2)=some (.list [])
 d:H.get (h+3)=some (.dict [])
structure MkI(B H:Hp)(j b M u:Nat):Prop where
 nx:H.next=b+4 * u
 jb:j<b
 fk:H.get j=some (.inst 60 [(18,.int M)])
 hn:∀w,w<u->HN H (b+4 * w) w
 kp:∀i c,B.get i=some c->i≠j->H.get i=some c
theorem MkI.step{B H H':Hp}{j b M u:Nat}(I:MkI B H j b M u)(m:Made (H.new<|.inst 59 []) H' H.next u):MkI B H' j b M (u+1):=by
 have nx:=I.nx
 have kp:∀i c,H.get i=some c->H'.get i=some c:=λi c g=>by
  have lt:i<H.next:=Zas g;exact m.kp i c (by rw[Hp.get_new,if_neg<|Nx lt];exact g)<|Nx lt
 have en:(H.new<|.inst 59 []).next=H.next+1:=Hp.next_new;refine⟨?_,I.jb,kp _ _ I.fk,λw hw=>?_,λi c g ne=>kp _ _<|I.kp i c g ne⟩
 ·rw[m.nx,en,nx];exact Nat.le_antisymm (Zr _)<|Zr _
 ·by_cases c:w=u
  ·subst c;have a:=m.hd;have b1:=m.g;have b2:=m.r;have b3:=m.d;rw[en]at a b1 b2 b3;rw[← nx];exact⟨a,b1,b2,b3⟩
  ·have d:=I.hn w (by exact lh4 hw c);exact⟨kp _ _ d.hd,kp _ _ d.g,kp _ _ d.r,kp _ _ d.d⟩
theorem ZgC(k:Nat):∀a:Nat,rngL (a:Int) 1 k=(List.range' a k).map λu=>V.int (u:Nat):=by
 induction k with
 |zero=>exact λø=>rfl
 |succ k ih=>
  intro a;show V.int a::rngL ((a:Int)+1) 1 k=_;rw[show((a:Int)+1)=((a+1:Nat):Int) from rfl,ih (a+1)];rfl
theorem ZkE{B:Hp}{j b M:Nat}(v:V)(all:List V)(hv:∀H,items H v=some all)(hM:M<=9)(Q:Yl):∀(k u:Nat)(H:Hp)(lo:Loc),u+k=M->MkI B H j b M u->(∀H' lo',MkI B H' j b M M->Q ((List.range M).map λw=>.ref<|b+4 * w) ⟨H',lo'⟩)->
  compGo (λσ2 k=>wpC tb.P (CW tb.P<|n+2) noE .none σ2 k) (λσ2 k=>wpE tb.P (CW tb.P<|n+2) noE (.call true (.glob 59)<|.cons (.loc 109) .nil) σ2 k) [109] (still v all) ((List.range' u k).map λu=>V.int (u:Nat)) ((List.range u).map λw=>.ref<|b+4 * w) ⟨H,lo⟩ Q:=by
 intro zz0
 induction zz0 with
 |zero=>
  intro u H lo e I h
  have:u=M:=by exact e
  subst this;exact⟨hv H,by rw[Lm,length_range];unfold SZ;exact la7 hM rfl,h H lo I⟩
 |succ k ih=>
  intro u H lo e I h;refine⟨hv H,by rw[Lm,length_range];unfold SZ;exact Gl (lb1 e)<|la7 hM rfl,?_⟩;refine Znk (H:=H.new<|.inst 59 []) (j:=H.next) (by rw[Hp.get_new,if_pos rfl]) λH' m=>⟨rfl,?_⟩
  have e2:((List.range u).map λw=>V.ref<|b+4 * w)++[V.ref H.next]=(List.range<|u+1).map λw=>V.ref (b+4 * w):=by
   rw[List.range_succ,map_append,I.nx];rfl
  show compGo _ _ [109] _ ((List.range' (u+1) k).map λu=>V.int (u:Nat)) (((List.range u).map λw=>V.ref<|b+4 * w)++[V.ref H.next]) ⟨H',upd lo 109<|.int u⟩ Q;rw[e2];exact ih (u+1) H' _ (by exact lb2 e) (I.step m) h
def methOf(P:Prog)(k nm:Nat):Option Nat:=match P.cls k with
 |some c=>lk c.meths nm
 |none=>none
theorem Za0{P:Prog}{K:CT}{E:EP}{fz:Bool}{l i k nm f:Nat}{as:PEs}{fs:List (Nat×V)}{σ:St}{Q:Yq}(hl:σ.loc l=some (.ref i))(hg:σ.H.get i=some (.inst k fs))(hm:methOf P k nm=some f)(h:wpEs P K E as σ λvs σ2=>callF P K E fz σ2 (.fn f) (.ref i::vs) Q):wpE P K E (.meth fz (.loc l) nm as) σ Q:=by
 unfold methOf at hm
 show need (σ.loc l) λa=>need (aRef a) λi=>match σ.H.get i with
  |some (.inst k _)=>need (P.cls k) λc=>need (lk c.meths nm) λf=>wpEs P K E as σ λvs σ2=>callF P K E fz σ2 (.fn f) (.ref i::vs) Q
  |some (.list _)=>_
  |some (.dict _)=>_
  |_=>False
 rw[hl]
 show(match σ.H.get i with
  |some (.inst k _)=>need (P.cls k) λc=>need (lk c.meths nm) λf=>wpEs P K E as σ λvs σ2=>callF P K E fz σ2 (.fn f) (.ref i::vs) Q
  |some (.list _)=>_
  |some (.dict _)=>_
  |_=>False)
 rw[hg]
 induction q:P.cls k with
 |none=>rw[q]at hm;exact noS hm
 |some c=>
  rw[q]at hm;show need (P.cls k) _;rw[q];exact Zaa (o:=some c) rfl<|Zaa (o:=lk c.meths nm) hm h
theorem ZmK{P:Prog}{K:CT}{E:EP}{fz:Bool}{o:PE}{i k nm f:Nat}{as:PEs}{fs:List (Nat×V)}{σ:St}{Q:Yq}(ho:∀Q':Yq,Q' (.ref i) σ->wpE P K E o σ Q')(hg:σ.H.get i=some (.inst k fs))(hm:methOf P k nm=some f)(h:wpEs P K E as σ λvs σ2=>callF P K E fz σ2 (.fn f) (.ref i::vs) Q):wpE P K E (.meth fz o nm as) σ Q:=by
 unfold methOf at hm;refine ho _ ?_
 show(match σ.H.get i with
  |some (.inst k _)=>need (P.cls k) λc=>need (lk c.meths nm) λf=>wpEs P K E as σ λvs σ2=>callF P K E fz σ2 (.fn f) (.ref i::vs) Q
  |some (.list _)=>_
  |some (.dict _)=>_
  |_=>False)
 rw[hg]
 induction q:P.cls k with
 |none=>rw[q]at hm;exact noS hm
 |some c=>
  rw[q]at hm;show need (P.cls k) _;rw[q];exact Zaa (o:=some c) rfl<|Zaa (o:=lk c.meths nm) hm h
theorem m67:methOf tb.P 59 67=some 239:=by kernel_rfl
noncomputable def x00:Hd:=⟨none, -1,[],0,true,[],none,[],0,false,(0, -1),none,none,[]⟩
noncomputable def x01(fi:List Int):Hd:=⟨some 0,0,fi,0,true,[],none,[],0,false,(0, -1),none,none,[]⟩
def XF(fi ys:List Int):Nat->Hd:=λt=>if (t:Int)∈ys then x01 fi else x00
theorem Zld{fi ys:List Int}{t:Nat}:updX (XF fi ys) t (intoF (XF fi ys t) (some 0) fi none)=XF fi (ys++[(t:Int)]):=funext λu=>by
 show(if u=t then intoF (if (t:Int)∈ys then x01 fi else x00) (some 0) fi none else (if (u:Int)∈ys then x01 fi else x00))=if (u:Int)∈ys++[(t:Int)] then x01 fi else x00
 by_cases c:u=t
 ·have e:(if (u:Int)∈ys++[(t:Int)] then x01 fi else x00)=x01 fi:=if_pos<|c▸mem_append_right _ (List.mem_cons_self ..);rw[if_pos c,e]
  by_cases d:(t:Int)∈ys
  ·rw[if_pos d];rfl
  ·rw[if_neg d];rfl
 ·rw[if_neg c]
  by_cases d:(u:Int)∈ys
  ·rw[if_pos d,if_pos<|mem_append_left _ d]
  ·rw[if_neg d,if_neg λz=>(Mp z).elim d λz=>c (by have:=Mg z;exact lb7 this)]
section
variable {L:Lay}{U:List Letter}{X:Nat->Hd}
theorem Zni{t h:Nat}{Q:V->Hp->Prop}{E:Yh}{p:Option Int}{ms:List Int}{w:Option News}(R:Rep H ow L M U X)(hh:L.hs[t]?=some h)(hz:ms.length<=SZ)(hg:∀H' ow',Rep H' ow' L M U (updX X t<|intoF (X t) p ms w)->Keep H ow H' ow'->Q .none H'):CW tb.P (n+2) 239 [.ref h,plV p,.lst<|iV ms,nV w] H Q E:=
 focG R (as₁:=[.ref 2,plV p,.lst<|iV ms,nV w]) hh (λρ ø h2=>by show _=[V.ref<|ρ 2,renV ρ<|plV p,.lst<|renVs ρ<|iV ms,renV ρ<|nV w];rw[h2,Zh7,Zb2,Zky]) λQ₁ E1 F=>ZfZ hz<|F.val (λø=>rfl) (.b (X t) rfl rfl rfl rfl) hg
theorem Zml{fi:List Int}(f:Fi M fi)(hz:fi.length<=SZ)(H₀:Hp)(ow0':Nat->Nat)(Q:Yf):∀(xs ys:List Int)(H:Hp)(ow:Nat->Nat)(lo:Loc),(∀i∈xs,0<=i/\i<M)->lo 108=some (.ref L.fk)->lo 122=some (.lst<|iV fi)->Rep H ow L M [] (XF fi ys)->Keep H₀ ow0' H ow->(∀H' ow' lo',Rep H' ow' L M [] (XF fi<|ys++xs)->Keep H₀ ow0' H' ow'->Q .next ⟨H',lo'⟩)->
  loopGo (λv σ2 k=>bindT [109] v σ2 λσ3=>wpSs tb.P (CW tb.P<|n+2) ZaJ σ3 k noE) (still (.lst<|iV fi)<|iV fi) (iV xs) ⟨H,lo⟩ Q:=by
 intro zz0
 induction zz0 with
 |nil=>
  intro ys H ow lo hx h1 h2 R K h;refine⟨rfl,h H ow lo ?_ K⟩;rw[append_nil];exact R
 |cons x xs ih=>
  intro ys H ow lo hx h1 h2 R K h;have lx:=hx x<|.head _
  obtain⟨t,rfl⟩:∃t:Nat,x=t:=⟨x.toNat,by exact la5 lx⟩
  have tM:t<L.hs.length:=by rw[R.hl];exact la4 lx
  have hh:L.hs[t]?=some L.hs[t]:=Lg tM;obtain⟨l,hd⟩:=R.hd t _ hh;refine⟨rfl,?_⟩;refine ZmK (i:=L.hs[t]) (λQ' q'=>?_) hd.hd m67 ?_
  ·exact Zaa (o:=lo 108) h1<|Zaa (o:=cI<|H.get L.fk) (a:=(60,[(18,.int M),(123,.lst<|L.hs.map .ref),(124,.ref L.un)])) (by rw[R.fk];rfl)<|Zaa (o:=pyIdx (t:Int) (L.hs.map V.ref).length) (Zal (by rw[Lm];exact tM))<|Zaa (o:=(L.hs.map V.ref)[t]?) (a:=.ref L.hs[t]) (by rw[getElem?_map,hh];rfl) q'
  ·refine Zaa (o:=lo 122) h2<|Zni (n:=n) (p:=some 0) (w:=none) R hh hz λH' ow' R' K'=>gv rfl ?_;rw[Zld]at R';refine ih (ys++[(t:Int)]) H' ow' (upd lo 109<|.int t) (λi hi=>hx i<|.tail _ hi) h1 h2 R' (K.trans K') λH'' ow'' lo'' R'' K''=>h H'' ow'' lo'' ?_ K'';rw[List.append_cons];exact R''
theorem f243:tb.P.fn 243=some ZbI:=by kernel_rfl
noncomputable def mkL(j M:Nat):Lay where
 fk:=j
 un:=j+1+4 * M
 hs:=(List.range M).map λw=>j+1+4 * w
def ow0(j M:Nat):Nat->Nat:=λi=>if i<j then 0 else if i=j then 1 else if i<j+1+4 * M then rol ((i - (j+1)) / 4) ([0,3,1,2].getD ((i - (j+1)) % 4) 0) else 2
theorem ZfN{j M w i:Nat}(hw:w<M)(hi:i<4):ow0 j M (j+1+4 * w+i)=rol w ([0,3,1,2].getD i 0):=by
 have lt:4 * w+i<4 * M:=Gl (Nat.add_lt_add_left hi _)<|Nat.mul_le_mul_left 4 hw;have ge:j+1<=j+1+(4 * w+i):=Ar ..;unfold ow0;rw[add_assoc,if_neg<|not_lt_of_le<|Nat.le_of_succ_le ge,if_neg<|Nat.ne_of_gt ge,if_pos<|Nat.add_lt_add_left lt _,Nat.add_sub_cancel_left,Nat.mul_add_div<|by decide,Nat.div_eq_of_lt hi,Nat.add_zero,Nat.mul_add_mod,Nat.mod_eq_of_lt hi]
theorem rep0{H:Hp}{j M:Nat}{fi:List Int}(hM:M<=9)(fk:H.get j=some (.inst 60 [(18,.int M),(123,.lst<|(List.range M).map λw=>.ref<|j+1+4 * w),(124,.ref<|j+1+4 * M)]))(un:H.get (j+1+4 * M)=some (.list []))(hn:∀w,w<M->HN H (j+1+4 * w) w):Rep H (ow0 j M) (mkL j M) M [] (XF fi []):=by
 refine⟨?_,un,by show((List.range M).map _).length=M;rw[Lm,length_range],hM,?_,?_,λt h ht=>?_⟩
 ·show H.get j=some (.inst 60 [(18,.int M),(123,.lst<|((List.range M).map λw=>j+1+4 * w).map .ref),(124,.ref<|j+1+4 * M)]);rw[List.map_map];exact fk
 ·show ow0 j M j=1;unfold ow0;rw[if_neg<|Nat.lt_irrefl _,if_pos rfl]
 ·show ow0 j M (j+1+4 * M)=2;unfold ow0;rw[if_neg<|by exact λzz=>le3 zz,if_neg<|by exact λzz=>le4 zz,if_neg<|by exact λzz=>Nat.lt_irrefl _ zz]
 ·have ht:((List.range M).map λw=>j+1+4 * w)[t]?=some h:=ht
  have lt:t<M:=by have:=(List.getElem?_eq_some_iff.mp ht).1;rw[Lm,length_range]at this;exact this
  rw[getElem?_map,List.getElem?_range lt]at ht;obtain rfl:=Sj ht;have d:=hn t lt;refine⟨⟨j+1+4 * t+2,j+1+4 * t+3,j+1+4 * t+1,0,0,0⟩,d.hd,d.r,d.d,d.g,λo e=>(by exact noS e),ZfN (i:=0) lt<|by decide,ZfN (i:=2) lt<|by decide,ZfN (i:=3) lt<|by decide,ZfN (i:=1) lt<|by decide⟩
theorem Fi.len{M:Nat}{fi:List Int}(h:Fi M fi):fi.length<=M:=by
 have nd:fi.Nodup:=h.up.imp λq=>Int.ne_of_lt q;have:=nd.length_le_of_subset (l₂:=(List.range M).map Int.ofNat) λi hi=>mem_map.mpr ⟨i.toNat,List.mem_range.mpr<|la6<|h.lt i hi,(la5<|h.lt i hi).symm⟩;rw[Lm,length_range]at this;exact this
theorem Zog{H:Hp}{M:Nat}{fi:List Int}{Q:V->Hp->Prop}{E:Yh}(f:Fi M fi)(h1:1<=M)(hM:M<=9)(h:∀H' ow',Rep H' ow' (mkL H.next M) M [] (XF fi fi)->Keep H (λø=>0) H' ow'->Q .none H'):CW tb.P (n+3) 243 [.ref H.next,.int M,.lst<|iV fi] (H.new<|.inst 60 []) Q E:=by
 have hz:fi.length<=SZ:=Nt f.len (Nt hM (by unfold SZ;exact Bq rfl));refine Zac _ _ _ f243 rfl<|ZdW<|gv rfl<|Zdv (b:=decide<|(M:Int)<1) (Df<|by exact λzz=>lb3 (lc9 zz)<|ld2 h1)<|Zdv (b:=decide<|(9:Int)<M) (Df<|by exact λzz=>lb3 (lc9 zz)<|lc7 hM rfl)<|ZnE f<|gv rfl ?_
 have g0:(H.new<|.inst 60 []).get H.next=some (.inst 60 []):=by rw[Hp.get_new,if_pos rfl]
 refine saL (v:=.int M) (H₁:=H.new<|.inst 60 []) rfl (λQ' q=>q) g0 (by kernel_rfl) (Zad rfl) ?_
 have I0:MkI H ((H.new<|.inst 60 []).set H.next<|.inst 60 [(18,.int M)]) H.next (H.next+1) M 0:=⟨by rw[Hp.next_set,Hp.next_new],lt_succ_self _,by rw[Hp.get_set g0,if_pos rfl],λw hw=>absurd hw<|not_lt_zero _,λi c g ne=>by rw[Hp.get_set g0,if_neg ne,Hp.get_new,if_neg ne];exact g⟩
 have er:rngL 0 1 (rngN 0 (M:Int) 1)=(List.range' 0 M).map λu=>V.int (u:Nat):=by
  rw[show rngN 0 (M:Int) 1=M by unfold rngN;rw[if_pos rfl];exact le8];exact ZgC M 0
 refine⟨by show M<=SZ;unfold SZ;exact la7 hM rfl,?_⟩;show compGo _ _ [109] (still (.rng 0 M 1)<|rngL 0 1<|rngN 0 (M:Int) 1) (rngL 0 1<|rngN 0 (M:Int) 1) [] ⟨(H.new<|.inst 60 []).set H.next<|.inst 60 [(18,.int M)],_⟩ _;rw[er];refine ZkE (n:=n) (.rng 0 M 1) _ (λH'=>by show some (rngL 0 1<|rngN 0 (M:Int) 1)=_;rw[er]) hM _ M 0 _ _ (zero_add M) I0 λH' lo' I=>⟨by rw[Lm,length_range];unfold SZ;exact la7 hM rfl,?_⟩;have g1:H'.get H.next=some (.inst 60 [(18,.int M)]):=I.fk;refine Zaa (o:=cI<|H'.get H.next) (a:=(60,[(18,.int M)])) (by rw[g1];rfl)<|⟨rfl,Zad rfl,?_⟩
 have g2:(H'.set H.next<|.inst 60 [(18,.int M),(123,.lst<|(List.range M).map λw=>.ref<|H.next+1+4 * w)]).get H.next=some (.inst 60 [(18,.int M),(123,.lst<|(List.range M).map λw=>.ref<|H.next+1+4 * w)]):=by rw[Hp.get_set g1,if_pos rfl]
 have nx2:(H'.set H.next<|.inst 60 [(18,.int M),(123,.lst<|(List.range M).map λw=>.ref<|H.next+1+4 * w)]).next=H.next+1+4 * M:=by rw[Hp.next_set,I.nx]
 have k2:∀i c,H'.get i=some c->i≠H.next->(H'.set H.next<|.inst 60 [(18,.int M),(123,.lst<|(List.range M).map λw=>.ref<|H.next+1+4 * w)]).get i=some c:=λi c g ne=>by rw[Hp.get_set g1,if_neg ne];exact g
 show wpSs tb.P (CW tb.P<|n+2) (.cons (.assign (.attr (.loc 108) 124)<|.list false .nil)<|.cons (.loop [109] (.loc 122) ZaJ) .nil) ⟨H'.set H.next<|.inst 60 [(18,.int M),(123,.lst<|(List.range M).map λw=>.ref<|H.next+1+4 * w)],_⟩ _ _;generalize H'.set H.next (.inst 60 [(18,.int M),(123,.lst<|(List.range M).map λw=>.ref<|H.next+1+4 * w)])=H2 at g2 nx2 k2 ⊢
 have k3:∀i c,H2.get i=some c->(H2.new<|.list []).get i=some c:=λi c g=>by rw[Hp.get_new,if_neg<|show i≠H2.next from Nx (Zas g)];exact g
 have g3:(H2.new<|.list []).get H.next=some (.inst 60 [(18,.int M),(123,.lst<|(List.range M).map λw=>.ref<|H.next+1+4 * w)]):=k3 _ _ g2;refine saL (v:=.ref<|H.next+1+4 * M) (H₁:=H2.new<|.list []) rfl (λQ' q=>⟨Zad rfl,?_⟩) g3 (by kernel_rfl) (Zad rfl) ?_
 ·rw[← nx2]at q;exact q
 have g4:∀i c,(H2.new<|.list []).get i=some c->i≠H.next->((H2.new<|.list []).set H.next<|.inst 60 [(18,.int M),(123,.lst<|(List.range M).map λw=>.ref<|H.next+1+4 * w),(124,.ref<|H.next+1+4 * M)]).get i=some c:=λi c g ne=>by rw[Hp.get_set g3,if_neg ne];exact g
 have hn:∀w,w<M->HN ((H2.new<|.list []).set H.next<|.inst 60 [(18,.int M),(123,.lst<|(List.range M).map λw=>.ref<|H.next+1+4 * w),(124,.ref<|H.next+1+4 * M)]) (H.next+1+4 * w) w:=λw hw=>by
  have d:=I.hn w hw;have k:∀i c,H'.get i=some c->i≠H.next->((H2.new<|.list []).set H.next<|.inst 60 [(18,.int M),(123,.lst<|(List.range M).map λw=>.ref<|H.next+1+4 * w),(124,.ref<|H.next+1+4 * M)]).get i=some c:=λi c g ne=>g4 i c (k3 i c<|k2 i c g ne) ne;exact⟨k _ _ d.hd<|by exact λzz=>le4 zz,k _ _ d.g<|by exact λzz=>le5 zz,k _ _ d.r<|by exact λzz=>le5 zz,k _ _ d.d<|by exact λzz=>le5 zz⟩
 have k5:∀i c,H.get i=some c->((H2.new<|.list []).set H.next<|.inst 60 [(18,.int M),(123,.lst<|(List.range M).map λw=>.ref<|H.next+1+4 * w),(124,.ref<|H.next+1+4 * M)]).get i=some c:=λi c g=>by
  have ne:i≠H.next:=Nx<|Zas g;exact g4 i c (k3 i c<|k2 i c (I.kp i c g ne) ne) ne
 have R0:=rep0 (fi:=fi) hM (H:=(H2.new<|.list []).set H.next<|.inst 60 [(18,.int M),(123,.lst<|(List.range M).map λw=>.ref<|H.next+1+4 * w),(124,.ref<|H.next+1+4 * M)]) (by rw[Hp.get_set g3,if_pos rfl]) (g4 _ _ (by rw[Hp.get_new,if_pos nx2.symm])<|by exact λzz=>le4 zz) hn;exact Zml (n:=n) (L:=mkL H.next M) f hz H (λø=>0) _ fi [] _ _ _ f.lt rfl rfl R0 (λi c g ø=>⟨k5 i c g,by have:i<H.next:=Zas g;unfold ow0;rw[if_pos this]⟩) λH' ow' lo' R' K'=>h H' ow' R' K'
end
theorem m84:methOf tb.P 60 84=some 251:=by kernel_rfl
structure StJ(M:Nat)(J:Nat->List Letter->(Nat->Hd)->Prop)(N:Nat)(Lt:Letter)(U:List Letter)(X:Nat->Hd):Prop where
 ex:∃t:Nat,Lt.to=t/\t<M/\OkA U t (X t)/\((X t).up=true->(newsOf Lt.c=none->(X t).place=some Lt.pl)->OkC (X t) Lt.from_ Lt.c)/\∃N':Nat,N'<N/\J N' (comeF t (X t) U Lt).2 (updX X t (comeF t (X t) U Lt).1)
theorem f252:tb.P.fn 252=some ZcP:=by kernel_rfl
section
variable {L:Lay}(J:Nat->List Letter->(Nat->Hd)->Prop)
 (step:∀N Lt U X,J N (Lt::U) X->StJ M J N Lt U X)
include step
theorem ZgL(H₀:Hp)(ow0':Nat->Nat)(Q:Yf)(h:∀H' ow' X' N' lo c,J N' [] X'->Rep H' ow' L M [] X'->Keep H₀ ow0' H' ow'->lo 18=some (.int c)->Q .next ⟨H',lo⟩):∀(F N:Nat)(U:List Letter)(X:Nat->Hd)(H:Hp)(ow:Nat->Nat)(lo:Loc)(c:Int),N<F->J N U X->Rep H ow L M U X->Keep H₀ ow0' H ow->lo 108=some (.ref L.fk)->lo 18=some (.int c)->
  whileGo (λσ1 k=>wpT tb.P (CW tb.P<|n+6) noE (.e<|.attr (.loc 108) 124) σ1 k) (λσ1 k=>wpSs tb.P (CW tb.P<|n+6) Zbo σ1 k noE) F ⟨H,lo⟩ Q:=by
 intro zz0
 induction zz0 with
 |zero=>
  intro N U X H ow lo c hN hJ R K h1 h2;exact absurd hN<|not_lt_zero _
 |succ F ih=>
  intro N U X H ow lo c hN hJ R K h1 h2
  have go:∀k:Yt,(k (!(lV U).isEmpty) ⟨H,lo⟩)->wpT tb.P (CW tb.P<|n+6) noE (.e<|.attr (.loc 108) 124) ⟨H,lo⟩ k:=λk q=>by
   exact Zaa (o:=lo 108) h1<|Zaa (o:=cI<|H.get L.fk) (a:=(60,[(18,.int M),(123,.lst<|L.hs.map .ref),(124,.ref L.un)])) (by rw[R.fk];rfl)<|Zaa (o:=mL<|cL<|H.get L.un) (a:=.lst<|lV U) (by rw[R.un];rfl)<|q
  refine go _ ?_
  induction U using List.casesOn with
  |nil=>exact h H ow X N lo c hJ R K h2
  |cons Lt U=>
   obtain⟨t,e1,e2,o,oc,N',hN',hJ'⟩:=(step N Lt U X hJ).ex;show wpSs tb.P (CW tb.P<|n+6) Zbo ⟨H,lo⟩ _ noE;refine Za0 (σ:=⟨H,lo⟩) h1 R.fk m84<|ZjM (n:=n) (p:=0) R e2 rfl e1 o oc λH' ow' R' K'=>gv rfl ?_;exact Zaa (o:=lo 18) h2<|ih N' _ _ H' ow' (upd lo 18<|.int<|c+1) (c+1) (by exact Gl hN'<|le_of_lt_succ hN) hJ' R' (K.trans K') h1 rfl
theorem Zob{N:Nat}{U:List Letter}{X:Nat->Hd}{H:Hp}{ow:Nat->Nat}{Q:V->Hp->Prop}{E:Yh}(hJ:J N U X)(R:Rep H ow L M U X)(h:∀H' ow' X' N' c,J N' [] X'->Rep H' ow' L M [] X'->Keep H ow H' ow'->Q (.int c) H'):CW tb.P (n+7) 252 [.ref L.fk] H Q E:=by
 refine Zac _ _ _ f252 rfl<|⟨N+1,?_⟩;refine ZgL J step H ow _ (λH' ow' X' N' lo c j r k e=>?_) (N+1) N U X H ow _ 0 (lt_succ_self N) hJ R Keep.refl rfl rfl;exact Zaa (o:=lo 18) e<|h H' ow' X' N' c j r k
end
section
variable {U:List Letter}{x:Hd}
theorem f246:tb.P.fn 246=some Zcc:=by kernel_rfl
theorem Zgd(o:AtA t M hs)(hp:x.place=some pl)(h:Q (.ref 2) ⟨fA (.int M) hs U k x []⟩):CW tb.P (n+3) 246 [.ref 0,.int t] ⟨fA (.int M) hs U k x []⟩ Q E:=by
 refine Zac _ _ _ f246 rfl<|Zca o.lt o.at_<|⟨show solid (plV x.place)=true by rw[hp];rfl,?_⟩;exact Zdv (b:=isNone<|plV x.place) (by rw[hp];rfl) h
theorem ZhR(o:AtA t M hs)(hp:x.place=none)(h:E 19 ⟨fA (.int M) hs U k x [some<|.exc 56]⟩):CW tb.P (n+3) 246 [.ref 0,.int t] ⟨fA (.int M) hs U k x []⟩ Q E:=by
 refine Zac _ _ _ f246 rfl<|Zca o.lt o.at_<|⟨show solid (plV x.place)=true by rw[hp];rfl,?_⟩;exact Zeu (b:=isNone<|plV x.place) (by rw[hp];rfl) ⟨rfl,h⟩
theorem f249:tb.P.fn 249=some ZcQ:=by kernel_rfl
theorem ZnT(o:AtA t M hs)(hu:x.up=true)(h:Q .none ⟨fA (.int M) hs U k { x with up:=false } []⟩):CW tb.P (n+3) 249 [.ref 0,.int t] ⟨fA (.int M) hs U k x []⟩ Q E:=by
 exact Zac _ _ _ f249 rfl<|Zca o.lt o.at_<|Zdv (b:=!x.up) (by rw[hu];rfl)<|⟨rfl,Bq rfl,h⟩
theorem f264:tb.P.fn 264=some ZbV:=by kernel_rfl
theorem ZmY(o:AtA t M hs)(hp:x.place=some pl)(hz:x.ms.length<=SZ)(h:Q (.tup [.int pl,.lst<|iV x.ms]) ⟨fA (.int M) hs U k x []⟩):CW tb.P (n+4) 264 [.ref 0,.int t] ⟨fA (.int M) hs U k x []⟩ Q E:=by
 have e:plV x.place=.int pl:=by rw[hp];rfl
 refine Zac _ _ _ f264 rfl<|Zgd o hp ?_;rw[← e]at h;exact⟨by rw[Zaj];exact hz,Bq rfl,h⟩
theorem Zk8(o:AtA t M hs)(hp:x.place=none)(h:E 19 ⟨fA (.int M) hs U k x [some<|.exc 56]⟩):CW tb.P (n+4) 264 [.ref 0,.int t] ⟨fA (.int M) hs U k x []⟩ Q E:=by
 exact Zac _ _ _ f264 rfl<|ZhR o hp h
theorem f265:tb.P.fn 265=some Zcx:=by kernel_rfl
theorem ZlB(o:AtA t M hs)(hp:x.place=some pl)(ht:0<=x.took)(hr:x.row.length<=SZ)(h:Q (.ref 19) ⟨fA (.int M) hs U k x [some<|.list<|mV<|x.row.take x.took.toNat]⟩):CW tb.P (n+4) 265 [.ref 0,.int t] ⟨fA (.int M) hs U k x []⟩ Q E:=by
 have lz:((mV x.row).take x.took.toNat).length<=SZ:=by rw[List.length_take,Zan];exact Nt (Nat.min_le_right ..) hr
 rw[show mV (x.row.take x.took.toNat)=(mV x.row).take x.took.toNat from map_take ..]at h;exact Zac _ _ _ f265 rfl<|Zgd o hp<|⟨rfl,Dq ht,lz,lz,h⟩
theorem f268:tb.P.fn 268=some Zdr:=by kernel_rfl
theorem ZhY(K:CT)(H:Hp)(us:List V)(Q:Yl)(hi:items H (.ref 5)=some us):∀(xs acc:List Gn)(lo:Loc),(∀g∈xs,g.2.1.length<=SZ/\g.2.2.length<=SZ)->acc.length+xs.length<=SZ->(∀lo',Q (gV<|acc++xs) ⟨H,lo'⟩)->
  compGo (λσ2 k=>wpC tb.P K noE .none σ2 k) (λσ2 k=>wpE tb.P K noE (.tup<|.cons (.loc 110)<|.cons (.call true (.glob 41)<|.cons (.loc 123) .nil)<|.cons (.call true (.glob 41)<|.cons (.loc 23) .nil) .nil) σ2 k) [110,123,23] (still (.ref 5) us) (gV xs) (gV acc) ⟨H,lo⟩ Q:=by
 intro zz0
 induction zz0 with
 |nil=>
  intro acc lo hg hz h;have h:=h lo;rw[append_nil]at h;exact⟨hi,by show(acc.map _).length<=SZ;rw[Lm];exact hz,h⟩
 |cons g xs ih=>
  intro acc lo hg hz h;rw[Lc]at hz;have g1:=hg g<|.head _;refine⟨hi,by show(acc.map _).length<SZ;rw[Lm];exact la1 hz,?_⟩;refine⟨by rw[Zaj];exact g1.1,?_⟩;refine⟨by rw[Zan];exact g1.2,?_⟩;refine⟨Bq rfl,?_⟩
  have e:gV acc++[.tup [.int g.1,.lst<|iV g.2.1,.lst<|mV g.2.2]]=gV (acc++[g]):=by unfold gV;rw[map_append];rfl
  show compGo _ _ [110,123,23] _ (gV xs) (gV acc++[.tup [.int g.1,.lst<|iV g.2.1,.lst<|mV g.2.2]]) ⟨H,_⟩ Q;rw[e];refine ih (acc++[g]) _ (λy hy=>hg y<|.tail _ hy) (by rw[La];show acc.length+1+_<=_;exact la2 hz) λlo'=>?_;have h:=h lo';rw[List.append_cons]at h;exact h
theorem ZoO(o:AtA t M hs)(hg:∀g∈x.gone,g.2.1.length<=SZ/\g.2.2.length<=SZ)(hz:x.gone.length<=SZ)(h:Q (.ref 19) ⟨fA (.int M) hs U k x [some<|.list<|gV x.gone]⟩):CW tb.P (n+3) 268 [.ref 0,.int t] ⟨fA (.int M) hs U k x []⟩ Q E:=by
 exact Zac _ _ _ f268 rfl<|Zca o.lt o.at_<|ZhY (CW tb.P<|n+2) _ (gV x.gone) _ rfl x.gone [] _ hg (by show 0+_<=_;exact lf4 hz) λlo'=>⟨by show(x.gone.map _).length<=SZ;rw[Lm];exact hz,h⟩
end
section
variable {L:Lay}{U:List Letter}{X:Nat->Hd}(R:Rep H ow L M U X)(ht:t<M)
include R ht
theorem ZmI(hu:(X t).up=true)(h:∀H' ow',Rep H' ow' L M U (updX X t { X t with up:=false })->Keep H ow H' ow'->Q .none H'):CW tb.P (n+3) 249 [.ref L.fk,.int t] H Q E:=
 focA R ht (λø=>rfl) λQ₁ E1 F=>ZnT (Zbh ht) hu<|F.val (λø=>rfl) (.a [] rfl) h
theorem Znj{pl:Int}(hp:(X t).place=some pl)(hz:(X t).ms.length<=SZ)(h:∀H' ow',Rep H' ow' L M U X->Keep H ow H' ow'->Q (.tup [.int pl,.lst<|iV (X t).ms]) H'):CW tb.P (n+4) 264 [.ref L.fk,.int t] H Q E:=
 focA R ht (λø=>rfl) λQ₁ E1 F=>ZmY (Zbh ht) hp hz<|F.val (x':=X t) (λρ=>by show V.tup [.int pl,.lst<|renVs ρ<|iV (X t).ms]=_;rw[Zb2]) (.a [] rfl) λH' ow' r k=>h H' ow' (by rw[Zaf]at r;exact r) k
theorem ZiQ(hp:(X t).place=none)(h:∀H' ow' j,Rep H' ow' L M U X->Keep H ow H' ow'->H'.get j=some (.exc 56)->E j H'):CW tb.P (n+4) 264 [.ref L.fk,.int t] H Q E:=
 focA R ht (λø=>rfl) λQ₁ E1 F=>Zk8 (Zbh ht) hp<|F.exc h
theorem Zl1{pl:Int}(hp:(X t).place=some pl)(h0:0<=(X t).took)(hr:(X t).row.length<=SZ)(h:∀H' ow',Rep H' ow' L M U X->Keep H ow H' ow'->H'.get H.next=some (.list<|mV<|(X t).row.take (X t).took.toNat)->ow' H.next=0->Q (.ref H.next) H'):CW tb.P (n+4) 265 [.ref L.fk,.int t] H Q E:=
 focA R ht (λø=>rfl) λQ₁ E1 F=>ZlB (Zbh ht) hp h0 hr<|F.new (λø=>Zcz _) h
theorem Zow(hg:∀g∈(X t).gone,g.2.1.length<=SZ/\g.2.2.length<=SZ)(hz:(X t).gone.length<=SZ)(h:∀H' ow',Rep H' ow' L M U X->Keep H ow H' ow'->H'.get H.next=some (.list<|gV (X t).gone)->ow' H.next=0->Q (.ref H.next) H'):CW tb.P (n+3) 268 [.ref L.fk,.int t] H Q E:=
 focA R ht (λø=>rfl) λQ₁ E1 F=>ZoO (Zbh ht) hg hz<|F.new (λø=>Zhy _) h
end
section
variable {U:List Letter}{x:Hd}
theorem f272:tb.P.fn 272=some Zdg:=by kernel_rfl
theorem Zol{p:Nat}{L:Letter}{r:List (Option C)}(hp:U[p]?=some L)(h:Q .none ⟨some (folkC (.int M) hs)::some (.list<|lV<|dropAt U p)::r⟩):CW tb.P (n+3) 272 [.ref 0,.int p] ⟨some (folkC (.int M) hs)::some (.list<|lV U)::r⟩ Q E:=by
 have lu:p<(lV U).length:=by rw[ZaT];exact(List.getElem?_eq_some_iff.mp hp).1
 have hu:(lV U)[p]?=some L.v:=by unfold lV;rw[getElem?_map,hp];rfl
 rw[← Zhz]at h;refine Zac _ _ _ f272 rfl<|ZpP hu<|gv rfl<|⟨rfl,?_⟩;exact Zaa (o:=pyIdx (p:Int) (lV U).length) (Zal lu)<|Zaa (o:=(lV U)[p]?) hu h
theorem f273:tb.P.fn 273=some Zb7:=by kernel_rfl
theorem ZjC{p:Nat}{L:Letter}{r:List (Option C)}(hp:U[p]?=some L)(hU:U.length<SZ)(h:Q .none ⟨some (folkC (.int M) hs)::some (.list<|lV<|U++[L])::r⟩):CW tb.P (n+3) 273 [.ref 0,.int p] ⟨some (folkC (.int M) hs)::some (.list<|lV U)::r⟩ Q E:=by
 have hu:(lV U)[p]?=some L.v:=by unfold lV;rw[getElem?_map,hp];rfl
 rw[show lV (U++[L])=lV U++[L.v] by unfold lV;rw[map_append];rfl]at h;refine Zac _ _ _ f273 rfl<|⟨rfl,?_⟩;exact ZpP hu<|gv rfl<|⟨by rw[ZaT];exact hU,h⟩
theorem f262:tb.P.fn 262=some ZbS:=by kernel_rfl
noncomputable def l3V(L:Letter):V:=.tup [.str L.c.word,.int L.from_,.int L.to]
theorem Zcv(K:CT)(H:Hp)(us:List V)(Q:Yl):∀(xs:List Letter)(acc:List V)(lo:Loc),acc.length+xs.length<=SZ->items H (.ref 1)=some us->(∀lo',Q (acc++xs.map l3V) ⟨H,lo'⟩)->
  compGo (λσ2 k=>wpC tb.P K noE .none σ2 k) (λσ2 k=>wpE tb.P K noE (.sl true (.loc 134) .none<|.some<|.cst<|.int 3) σ2 k) [134] (still (.ref 1) us) (lV xs) acc ⟨H,lo⟩ Q
 | [],acc,lo,hz,hi,h=>by
  have h:=h lo;rw[List.map_nil,append_nil]at h;exact⟨hi,hz,h⟩
 |L::xs,acc,lo,hz,hi,h=>by
  rw[Lc]at hz;refine⟨hi,by exact la1 hz,?_⟩;refine⟨rfl,rfl,?_⟩;refine Zcv K H us Q xs (acc++[l3V L]) _ (by rw[La];show acc.length+1+_<=_;exact la2 hz) hi λlo'=>?_;have h:=h lo';rw[map_cons,List.append_cons]at h;exact h
theorem Zik{r:List (Option C)}(hU:U.length<=SZ)(h:Q (.ref<|r.length+2) ⟨some (folkC (.int M) hs)::some (.list<|lV U)::(r++[some<|.list<|U.map l3V])⟩):CW tb.P (n+1) 262 [.ref 0] ⟨some (folkC (.int M) hs)::some (.list<|lV U)::r⟩ Q E:=by
 exact Zac _ _ _ f262 rfl<|Zcv (CW tb.P n) _ (lV U) _ U [] _ (by show 0+_<=SZ;exact lf4 hU) rfl λlo'=>⟨by rw[List.nil_append,Lm];exact hU,h⟩
end
section
variable {L:Lay}{U:List Letter}{X:Nat->Hd}(R:Rep H ow L M U X)(hM:0<M)
include R hM
theorem Zm7{p:Nat}{Lt:Letter}(hp:U[p]?=some Lt)(h:∀H' ow',Rep H' ow' L M (dropAt U p) X->Keep H ow H' ow'->Q .none H'):CW tb.P (n+3) 272 [.ref L.fk,.int p] H Q E:=
 focA R hM (λø=>rfl) λQ₁ E1 F=>Zol hp<|F.val (x':=X 0) (λø=>rfl) (.a [] rfl) λH' ow' r k=>h H' ow' (by rw[Zaf]at r;exact r) k
theorem ZiW{p:Nat}{Lt:Letter}(hp:U[p]?=some Lt)(hU:U.length<SZ)(h:∀H' ow',Rep H' ow' L M (U++[Lt]) X->Keep H ow H' ow'->Q .none H'):CW tb.P (n+3) 273 [.ref L.fk,.int p] H Q E:=
 focA R hM (λø=>rfl) λQ₁ E1 F=>ZjC hp hU<|F.val (x':=X 0) (λø=>rfl) (.a [] rfl) λH' ow' r k=>h H' ow' (by rw[Zaf]at r;exact r) k
theorem Zkw{ρ:Nat->Nat}:∀l:List Letter,renVs ρ (l.map l3V)=l.map l3V
 | []=>rfl
 |a::r=>congrArg (l3V a::·)<|Zkw r
theorem Zhh(hU:U.length<=SZ)(h:∀H' ow',Rep H' ow' L M U X->Keep H ow H' ow'->H'.get H.next=some (.list<|U.map l3V)->ow' H.next=0->Q (.ref H.next) H'):CW tb.P (n+1) 262 [.ref L.fk] H Q E:=
 focA R hM (λø=>rfl) λQ₁ E1 F=>Zik hU<|F.new (λø=>Zkw R hM _) h
end
def pressL(k pl:Int)(ts:List Int):List Msg->Nat->List Letter
 | [],_=>[]
 |m::r,i=>sendF k pl ts (.hold m i)++pressL k pl ts r (i+1)
theorem Zgj(k pl:Int)(ts:List Int):∀(r:List Msg)(i:Nat),(pressL k pl ts r i).length=r.length * ts.length:=by
 intro r
 induction r with
 |nil=>exact λø=>(Nat.zero_mul _).symm
 |cons m r ih=>
  intro i;show(sendF k pl ts (.hold m i)++pressL k pl ts r (i+1)).length=(r.length+1) * ts.length;rw[La,Zds,ih (i+1),Nat.add_mul,Nat.one_mul,Nat.add_comm]
noncomputable def isRf(e:Nat):Bool:=ble 51 e&&ble e 58
section
variable {U:List Letter}{x:Hd}
theorem Zd9(o:AtA t M hs)(hu:x.up=false\/x.place=none)(h:∀e,isRf e=true->E 19 ⟨fA (.int M) hs U k x [some<|.exc e]⟩):CW tb.P (n+3) 245 [.ref 0,.int t] ⟨fA (.int M) hs U k x []⟩ Q E:=by
 refine Zac _ _ _ f245 rfl<|Zca o.lt o.at_<|Zby (b:=!x.up) (λc=>⟨rfl,h 55 rfl⟩) λc=>?_;have hp:x.place=none:=hu.elim (λz=>by rw[z]at c;exact noF c) id;refine⟨show solid (plV x.place)=true by rw[hp];rfl,?_⟩;exact Zeu (b:=isNone<|plV x.place) (by rw[hp];rfl) ⟨rfl,h 56 rfl⟩
theorem Znc{w:Str}(o:AtA t M hs)(hu:x.up=false\/x.place=none)(h:∀e,isRf e=true->E 19 ⟨fA (.int M) hs U k x [some<|.exc e]⟩):CW tb.P (n+4) 248 [.ref 0,.int t,.str w] ⟨fA (.int M) hs U k x []⟩ Q E:=Zac _ _ _ f248 rfl<|Zd9 o hu h
theorem ZkC{l:List Int}(o:AtA t M hs)(hu:x.up=false\/x.place=none)(h:∀e,isRf e=true->E 19 ⟨fA (.int M) hs U k x [some<|.exc e]⟩):CW tb.P (n+4) 270 [.ref 0,.int t,.lst<|iV l] ⟨fA (.int M) hs U k x []⟩ Q E:=Zac _ _ _ f270 rfl<|Zd9 o hu h
theorem Zl3(o:AtA t M hs)(hu:x.up=false)(h:∀e,isRf e=true->E 19 ⟨fA (.int M) hs U k x [some<|.exc e]⟩):CW tb.P (n+3) 249 [.ref 0,.int t] ⟨fA (.int M) hs U k x []⟩ Q E:=by
 exact Zac _ _ _ f249 rfl<|Zca o.lt o.at_<|Zeu (b:=!x.up) (by rw[hu];rfl) ⟨rfl,h 55 rfl⟩
theorem gvR{fz:Bool}{σ:St}{Q:Yq}{j:Nat}(hc:cL (σ.H.get j)=none)(h:Q (.ref j) σ):giveV fz σ Q (.ref j):=by
 induction fz with
 |false=>exact h
 |true=>
  show(match cL (σ.H.get j) with |some xs=>Q (.lst xs) (σ.setH<|σ.H.del j) |none=>Q (.ref j) σ);rw[hc];exact h
theorem f271:tb.P.fn 271=some ZcS:=by kernel_rfl
theorem ZhI{v:V}(o:AtA t M hs)(hu:x.up=false\/x.place=none)(h:∀e,isRf e=true->E 19 ⟨fA (.int M) hs U k x [some<|.exc e]⟩):CW tb.P (n+4) 271 [.ref 0,.int t,v] ⟨fA (.int M) hs U k x []⟩ Q E:=Zac _ _ _ f271 rfl<|Zd9 o hu h
theorem Zof{u j:Nat}(o:AtA t M hs)(hu:x.up=true)(hp:x.place=some pl)(lu:u<M)(hv:hs[u]?=some (.ref j))(hj:cL (atC (fA (.int M) hs U k x []) j)=none)(hn:x.news=none)(h:∀e,isRf e=true->E 19 ⟨fA (.int M) hs U k x [some<|.exc e]⟩):CW tb.P (n+4) 271 [.ref 0,.int t,.int u] ⟨fA (.int M) hs U k x []⟩ Q E:=by
 refine Zac _ _ _ f271 rfl<|Zc1 o hu hp<|Zca lu hv<|gvR hj<|⟨show solid (nV x.news)=true by rw[hn];rfl,?_⟩;exact Zeu (b:=isNone<|nV x.news) (by rw[hn];rfl) ⟨rfl,h 58 rfl⟩
theorem Zoi{u j:Nat}{w:News}(o:AtA t M hs)(hu:x.up=true)(hp:x.place=some pl)(lu:u<M)(hv:hs[u]?=some (.ref j))(hj:cL (atC (fA (.int M) hs U k x []) j)=none)(hn:x.news=some w)(hk:k=t)(hU:U.length+1<=SZ)(h:Q .none ⟨fA (.int M) hs (U++[⟨k,u,pl,.ent w⟩]) k x []⟩):CW tb.P (n+4) 271 [.ref 0,.int t,.int u] ⟨fA (.int M) hs U k x []⟩ Q E:=by
 refine Zac _ _ _ f271 rfl<|Zc1 o hu hp<|Zca lu hv<|gvR hj<|⟨show solid (nV x.news)=true by rw[hn];rfl,?_⟩;refine Zdv (b:=isNone<|nV x.news) (by rw[hn];rfl)<|⟨Bq rfl,?_⟩;refine Zbi (a:=.int k) (p:=.int pl) (to:=[.int u]) rfl (ZaG hp) (by rw[ZaT];exact hU) ?_;show Q .none ⟨some (folkC (.int M) hs)::some (.list<|lV U++[ltr Za9 (.int k) (.int pl) (nV x.news)<|.int u])::(fA (.int M) hs U k x []).drop 2⟩;rw[hn];have h:Q .none ⟨some (folkC (.int M) hs)::some (.list<|lV<|U++[⟨k,u,pl,.ent w⟩])::(fA (.int M) hs U k x []).drop 2⟩:=h;rw[← ZdH]at h;exact h
end
section
variable {U:List Letter}{x:Hd}
theorem f269:tb.P.fn 269=some Zct:=by kernel_rfl
theorem Zgf{m:V}(hp:x.place=some pl)(hz:x.ms.length<=50)(Q:Yf):∀(xs:List Msg)(i:Nat)(U:List Letter)(lo:Loc),lo 108=some (.ref 0)->lo 125=some (.ref 2)->U.length+xs.length * (oth k x.ms).length<=SZ->
  (∀lo':Loc,lo' 108=some (.ref 0)->lo' 125=some (.ref 2)->Q .next ⟨⟨fA m hs (U++pressL k pl (oth k x.ms) xs i) k x []⟩,lo'⟩)->
  loopGo (λv σ2 kk=>bindT [110,131] v σ2 λσ3=>wpSs tb.P (CW tb.P<|n+1) Zb1 σ3 kk noE) (λH=>see H (.ref 3)=some (.lst<|mV x.row)) (enumL i<|mV xs) ⟨⟨fA m hs U k x []⟩,lo⟩ Q:=by
 intro xs
 induction xs with
 |nil=>
  intro i U lo h1 h2 hU h;have h:=h lo h1 h2;rw[show pressL k pl (oth k x.ms) [] i=[] from rfl,append_nil]at h;exact⟨rfl,h⟩
 |cons mm xs ih=>
  intro i U lo h1 h2 hU h;have lo':=Zbr k x.ms;rw[Lc,Nat.add_mul,Nat.one_mul]at hU;refine⟨rfl,?_⟩;refine Zaa (o:=lo 108) h1<|Zaa (o:=lo 125) h2<|Zaa (o:=lo 125) h2<|Zg2 (ms:=x.ms) (k:=k) rfl rfl (by unfold SZ;exact la7 hz rfl)<|⟨Bq rfl,?_⟩;refine Zbi (a:=.int k) (p:=.int pl) rfl (ZaG hp) (by rw[ZaT,Zaj];exact Nt (Fl (Aw _ _) _) hU) ?_;show loopGo _ _ (enumL ((i:Int)+1) (mV xs)) ⟨⟨some (folkC m hs)::some (.list (lV U++(iV (oth k x.ms)).map (ltr (Cont.hold mm i).word (.int k) (.int pl) (Cont.hold mm i).v)))::_⟩,_⟩ Q;rw[Zb3];refine ih (i+1) (U++sendF k pl (oth k x.ms) (.hold mm i)) (upd (upd lo 110 (.int i)) 131 mm.v) h1 h2 (by rw[La,Zds,add_assoc,Nat.add_comm (oth k x.ms).length];exact hU) λlo' q1 q2=>?_;have h:=h lo' q1 q2;rw[show pressL k pl (oth k x.ms) (mm::xs) i=sendF k pl (oth k x.ms) (.hold mm i)++pressL k pl (oth k x.ms) xs (i+1) from rfl,← List.append_assoc]at h;exact h
theorem Zmn{f:Int}{fs:List Int}(o:AtA t M hs)(hu:x.up=true)(hp:x.place=some pl)(hk:k=t)(hf:x.ms=f::fs)(hf':f=t)(hz:x.ms.length<=50)(hU:U.length+x.row.length * (oth k x.ms).length+50<=SZ)(h:Q .none ⟨fA (.int M) hs (U++(pressL k pl (oth k x.ms) x.row 0++sendF k pl (oth k x.ms) (.take x.took))) k x []⟩):
  CW tb.P (n+4) 269 [.ref 0,.int t] ⟨fA (.int M) hs U k x []⟩ Q E:=by
 have lo:=Zbr k x.ms;refine Zac _ _ _ f269 rfl<|Zc1 o hu hp ?_;subst hk
 have e1:(iV x.ms)[0]?=some (.int t):=by rw[hf,hf'];rfl
 have l1:0<(iV x.ms).length:=by rw[hf];exact Nat.succ_pos _
 refine Zaa (o:=pyIdx ((0:Nat):Int) (iV x.ms).length) (Zal l1)<|Zaa (o:=(iV x.ms)[0]?) e1<|Zdv (b:=!eqD (.int t) (.int t)) (by show(!decide ((t:Int)=t))=false;rw[Dq rfl];rfl)<|⟨rfl,?_⟩;refine Zgf (n:=n+2) (x:=x) (k:=t) (hs:=hs) (m:=.int M) hp hz _ x.row 0 U _ rfl rfl (la8 hU) λlo' h1 h2=>Zaa (o:=lo' 108) h1 ?_;refine Zaa (o:=lo' 125) h2<|Zaa (o:=lo' 125) h2<|Zg2 (ms:=x.ms) (k:=t) rfl rfl (by unfold SZ;exact la7 hz rfl)<|Zaa (o:=lo' 125) h2<|Zbi (a:=.int t) (p:=.int pl) rfl (ZaG hp) (by rw[ZaT,Zaj,La,Zgj];exact Nt (Fl (Nt lo hz) _) hU) ?_;show Q .none ⟨some (folkC (.int M) hs)::some (.list<|lV (U++pressL t pl (oth t x.ms) x.row 0)++(iV<|oth t x.ms).map (ltr (Cont.take x.took).word (.int t) (.int pl) (Cont.take x.took).v))::_⟩;rw[Zb3,List.append_assoc];exact h
theorem Zf2(o:AtA t M hs)(hu:x.up=false\/x.place=none)(h:∀e,isRf e=true->E 19 ⟨fA (.int M) hs U k x [some<|.exc e]⟩):CW tb.P (n+4) 269 [.ref 0,.int t] ⟨fA (.int M) hs U k x []⟩ Q E:=Zac _ _ _ f269 rfl<|Zd9 o hu h
theorem Zly{f:Int}{fs:List Int}(o:AtA t M hs)(hu:x.up=true)(hp:x.place=some pl)(hf:x.ms=f::fs)(hf':f≠t)(h:∀e,isRf e=true->E 19 ⟨fA (.int M) hs U k x [some<|.exc e]⟩):CW tb.P (n+4) 269 [.ref 0,.int t] ⟨fA (.int M) hs U k x []⟩ Q E:=by
 refine Zac _ _ _ f269 rfl<|Zc1 o hu hp ?_
 have e1:(iV x.ms)[0]?=some (.int f):=by rw[hf];rfl
 have l1:0<(iV x.ms).length:=by rw[hf];exact Nat.succ_pos _
 exact Zaa (o:=pyIdx ((0:Nat):Int) (iV x.ms).length) (Zal l1)<|Zaa (o:=(iV x.ms)[0]?) e1<|Zeu (b:=!eqD (.int f) (.int t)) (by show(!decide (f=(t:Int)))=true;rw[Df hf'];rfl)<|⟨rfl,h 57 rfl⟩
end
theorem Zki{t M u:Nat}(h:u<M):(shV t M)[u]?=some (.ref<|if u=t then 2 else 9+u):=by
 unfold shV;rw[getElem?_map,List.getElem?_range h];show some (if u=t then V.ref 2 else .ref (9+u))=_
 by_cases c:u=t
 ·rw[if_pos c,if_pos c]
 ·rw[if_neg c,if_neg c]
theorem Zih{m:V}{hs:List V}{U:List Letter}{k:Int}{x:Hd}{t M u:Nat}(h:u<M)(h9:M<=9):cL (atC (fA m hs U k x [])<|if u=t then 2 else 9+u)=none:=by
 by_cases c:u=t
 ·rw[if_pos c];rfl
 ·rw[if_neg c,Zf4 (Ar 9 u)<|Gl (Nat.add_lt_add_left (Gl h h9) 9)<|by decide];rfl
section
variable {L:Lay}{U:List Letter}{X:Nat->Hd}(R:Rep H ow L M U X)(ht:t<M)
include R ht
theorem Zdy{Q₁:V->Hp->Prop}{E1:Yh}(F:FcA H ow L M t U X Q E Q₁ E1)(h:∀e H' ow' j,isRf e=true->Rep H' ow' L M U X->Keep H ow H' ow'->H'.get j=some (.exc e)->E j H'):∀e,isRf e=true->E1 19 ⟨fA (.int M) (shV t M) U t (X t) [some<|.exc e]⟩:=λe he=>F.exc λH' ow' j r k g=>h e H' ow' j he r k g
theorem ZkJ{w:Str}(hu:(X t).up=false\/(X t).place=none)(h:∀e H' ow' j,isRf e=true->Rep H' ow' L M U X->Keep H ow H' ow'->H'.get j=some (.exc e)->E j H'):CW tb.P (n+4) 248 [.ref L.fk,.int t,.str w] H Q E:=
 focA R ht (λø=>rfl) λQ₁ E1 F=>Znc (Zbh ht) hu<|Zdy R ht F h
theorem ZfX{l:List Int}(hu:(X t).up=false\/(X t).place=none)(h:∀e H' ow' j,isRf e=true->Rep H' ow' L M U X->Keep H ow H' ow'->H'.get j=some (.exc e)->E j H'):CW tb.P (n+4) 270 [.ref L.fk,.int t,.lst<|iV l] H Q E:=
 focA R ht (λρ=>by show [V.int t,.lst<|renVs ρ<|iV l]=_;rw[Zb2]) λQ₁ E1 F=>ZkC (Zbh ht) hu<|Zdy R ht F h
theorem ZiM(hu:(X t).up=false)(h:∀e H' ow' j,isRf e=true->Rep H' ow' L M U X->Keep H ow H' ow'->H'.get j=some (.exc e)->E j H'):CW tb.P (n+3) 249 [.ref L.fk,.int t] H Q E:=
 focA R ht (λø=>rfl) λQ₁ E1 F=>Zl3 (Zbh ht) hu<|Zdy R ht F h
theorem Zl5{f pl:Int}{fs:List Int}(hu:(X t).up=true)(hp:(X t).place=some pl)(hf:(X t).ms=f::fs)(hf':f=t)(hz:(X t).ms.length<=50)(hU:U.length+(X t).row.length * (oth t (X t).ms).length+50<=SZ)(h:∀H' ow',Rep H' ow' L M (U++(pressL t pl (oth t (X t).ms) (X t).row 0++sendF t pl (oth t (X t).ms) (.take (X t).took))) X->Keep H ow H' ow'->Q .none H'):CW tb.P (n+4) 269 [.ref L.fk,.int t] H Q E:=
 focA R ht (λø=>rfl) λQ₁ E1 F=>Zmn (Zbh ht) hu hp rfl hf hf' hz hU<|F.val (x':=X t) (λø=>rfl) (.a [] rfl) λH' ow' r k=>h H' ow' (by rw[Zaf]at r;exact r) k
theorem ZeD(hu:(X t).up=false\/(X t).place=none\/∃pl f fs,(X t).up=true/\(X t).place=some pl/\(X t).ms=f::fs/\f≠(t:Int))(h:∀e H' ow' j,isRf e=true->Rep H' ow' L M U X->Keep H ow H' ow'->H'.get j=some (.exc e)->E j H'):CW tb.P (n+4) 269 [.ref L.fk,.int t] H Q E:=
 focA R ht (λø=>rfl) λQ₁ E1 F=>by
  rcases hu with z |z |⟨pl,f,fs,a,b,c,d⟩
  ·exact Zf2 (Zbh ht) (.inl z)<|Zdy R ht F h
  ·exact Zf2 (Zbh ht) (.inr z)<|Zdy R ht F h
  ·exact Zly (Zbh ht) a b c d<|Zdy R ht F h
theorem ZmJ{u:Nat}{pl:Int}{w:News}(lu:u<M)(h9:M<=9)(hu:(X t).up=true)(hp:(X t).place=some pl)(hn:(X t).news=some w)(hU:U.length+1<=SZ)(h:∀H' ow',Rep H' ow' L M (U++[⟨t,u,pl,.ent w⟩]) X->Keep H ow H' ow'->Q .none H'):CW tb.P (n+4) 271 [.ref L.fk,.int t,.int u] H Q E:=
 focA R ht (λø=>rfl) λQ₁ E1 F=>Zoi (Zbh ht) hu hp lu (Zki lu) (Zih lu h9) hn rfl hU<|F.val (x':=X t) (λø=>rfl) (.a [] rfl) λH' ow' r k=>h H' ow' (by rw[Zaf]at r;exact r) k
theorem Zf5{u:Nat}(lu:u<M)(h9:M<=9)(hu:(X t).up=false\/(X t).place=none\/∃pl,(X t).up=true/\(X t).place=some pl/\(X t).news=none)(h:∀e H' ow' j,isRf e=true->Rep H' ow' L M U X->Keep H ow H' ow'->H'.get j=some (.exc e)->E j H'):CW tb.P (n+4) 271 [.ref L.fk,.int t,.int u] H Q E:=
 focA R ht (λø=>rfl) λQ₁ E1 F=>by
  rcases hu with z |z |⟨pl,a,b,c⟩
  ·exact ZhI (Zbh ht) (.inl z)<|Zdy R ht F h
  ·exact ZhI (Zbh ht) (.inr z)<|Zdy R ht F h
  ·exact Zof (Zbh ht) a b lu (Zki lu) (Zih lu h9) c<|Zdy R ht F h
end
noncomputable def wgt:Cont->Nat
 |.wish _=>109
 |.hold _ _=>11
 |.have_ _=>10
 |.take _=>1
 |.prep _=>101
 |.prom _ _ _=>100
 |.acc _=>11
 |.agr _=>10
 |.ent _=>1
def wsum:List Letter->Nat
 | []=>0
 |L::r=>wgt L.c+wsum r
theorem Zbq(a b:List Letter):wsum (a++b)=wsum a+wsum b:=by
 induction a with
 |nil=>exact(zero_add _).symm
 |cons L r ih=>show wgt L.c+wsum (r++b)=wgt L.c+wsum r+wsum b;rw[ih,add_assoc]
theorem Za1{k pl:Int}{c:Cont}:∀ts:List Int,wsum (sendF k pl ts c)=ts.length * wgt c:=by
 intro zz0
 induction zz0 with
 |nil=>
  exact(Nat.zero_mul _).symm
 |cons t r ih=>
  show wgt c+wsum (sendF k pl r c)=(r.length+1) * wgt c;rw[ih,Nat.add_mul,Nat.one_mul,Nat.add_comm]
theorem Zcn(c:Cont):1<=wgt c:=by induction c <;> exact Bq rfl
theorem Zgc:∀U:List Letter,U.length<=wsum U:=by
 intro zz0
 induction zz0 with
 |nil=>
  exact Zr _
 |cons L r ih=>
  exact lh8 (d:=0) ih<|Zcn L.c
theorem Zlh{x:Int}{v:PR}:∀l:List (Int×PR),(prS l x v).length<=l.length+1:=by
 intro zz0
 induction zz0 with
 |nil=>
  exact Zr _
 |cons p r ih=>
  show(cond (decide<|p.1=x) ((p.1,v)::r) (p::prS r x v)).length<=_
  induction decide (p.1=x) with
  |true=>exact Us _
  |false=>exact Fs<|ih
theorem Zlx{x:Int}{v:PR}:∀l:List (Int×PR),prG (prS l x v) x=some v:=by
 intro zz0
 induction zz0 with
 |nil=>
  show cond (decide<|x=x) _ _=_;rw[Dq rfl];rfl
 |cons p r ih=>
  show prG (cond (decide<|p.1=x) ((p.1,v)::r) (p::prS r x v)) x=_
  induction c:decide (p.1=x) with
  |true=>show cond (decide<|p.1=x) _ _=_;rw[c];rfl
  |false=>show cond (decide<|p.1=x) _ (prG (prS r x v) x)=_;rw[c];exact ih
theorem ZkY{pr:List (Int×PR)}:∀(ms:List Int)(best:Option Acc)(rows:List (List Msg)),rows≠[]->(pfGo pr ms best rows).2≠[]:=by
 intro zz0
 induction zz0 with
 |nil=>
  intro best rows h;exact h
 |cons i r ih=>
  intro best rows h;unfold pfGo
  induction e:prG pr i with
  |none=>exact ih best rows h
  |some p=>exact ih _ _ λz=>by induction List.append_eq_nil_iff.mp z with |intro a b=>injection b
theorem Zmh{pr:List (Int×PR)}{s:Int}{p:PR}(hp:prG pr s=some p):∀(ms:List Int)(best:Option Acc)(rows:List (List Msg)),s∈ms->(pfGo pr ms best rows).2≠[]
 |i::r,best,rows,h=>by
  unfold pfGo
  by_cases c:s=i
  ·subst c;rw[hp]
   exact ZkY r _ _ λz=>by induction List.append_eq_nil_iff.mp z with |intro a b=>injection b
  ·have h:s∈r:=(Mc h).elim (λz=>absurd z c) id
   induction e:prG pr i with
   |none=>exact Zmh hp r best rows h
   |some q=>exact Zmh hp r _ _ h
theorem ZkV{x:Int}:∀l:List Int,(agS l x).length<=l.length+1:=by
 intro zz0
 induction zz0 with
 |nil=>
  exact Zr _
 |cons p r ih=>
  show(cond (decide<|p=x) (p::r) (p::agS r x)).length<=_
  induction decide (p=x) with
  |true=>exact Us _
  |false=>exact Fs<|ih
theorem Zh4{i y:Int}:∀l:List Int,y∈agS l i↔y=i\/y∈l:=by
 intro zz0
 induction zz0 with
 |nil=>
  show y∈[i]↔_;rw[List.mem_singleton];exact⟨.inl,λz=>z.elim id λz=>nomatch z⟩
 |cons p r ih=>
  show y∈cond (decide<|p=i) (p::r) (p::agS r i)↔_
  by_cases c:p=i
  ·rw[Dq c,c];show y∈i::r↔_;rw[List.mem_cons];exact⟨.inr,λz=>z.elim .inl id⟩
  ·rw[Df c];show y∈p::agS r i↔_;rw[List.mem_cons,ih,List.mem_cons]
   constructor
   ·rintro(z |z |z)
    ·exact .inr<|.inl z
    ·exact .inl z
    ·exact .inr<|.inr z
   ·rintro(z |z |z)
    ·exact .inr<|.inl z
    ·exact .inl z
    ·exact .inr<|.inr z
theorem ZgZ{i:Int}:∀l:List Int,l.Nodup->(agS l i).Nodup:=by
 intro zz0
 induction zz0 with
 |nil=>
  intro _;exact pairwise_singleton ..
 |cons p r ih=>
  intro h;have h:=nodup_cons.mp h;show(cond (decide (p=i)) (p::r) (p::agS r i)).Nodup
  by_cases c:p=i
  ·rw[Dq c];exact nodup_cons.mpr h
  ·rw[Df c];exact nodup_cons.mpr ⟨λz=>((Zh4 r).mp z).elim c h.1,ih h.2⟩
end
noncomputable abbrev Yc:=CW tb.P
section
set_option maxRecDepth 100000
open PySem
noncomputable def sbs:List Int->List (List Int)
 | []=>[[]]
 |a::r=>sbs r++(sbs r).map (a::·)
theorem ZlS{l r:List Int}(h:l.Sublist r):l∈sbs r:=by
 induction h with
 |slnil=>exact .head _
 |cons a _ ih=>exact mem_append_left _ ih
 |cons_cons a _ ih=>exact mem_append_right _<|mem_map.mpr ⟨_,ih,rfl⟩
theorem Zks{r:List Int}:∀{l:List Int},r.Pairwise (· < ·)->l.Pairwise (· < ·)->(∀i∈l,i∈r)->l.Sublist r:=by
 induction r with
 |nil=>
  intro l _ _ h
  induction l using List.casesOn with
  |nil=>exact .slnil
  |cons a l=>exact nomatch h a (.head _)
 |cons b r ih=>
  intro l hr hl h;have hr:=pairwise_cons.mp hr
  induction l using List.casesOn with
  |nil=>exact List.nil_sublist _
  |cons a l=>
   have hl':=pairwise_cons.mp hl
   by_cases c:a=b
   ·subst c;refine .cons_cons a<|ih hr.2 hl'.2 λi hi=>(Mc<|h i<|.tail _ hi).elim (λz=>?_) id;exact absurd (hl'.1 i hi)<|z▸Int.lt_irrefl _
   ·refine .cons b<|ih hr.2 hl λi hi=>(Mc<|h i hi).elim (λz=>?_) id;have ab:b<a:=(Mc<|h a<|.head _).elim (λz=>absurd z c) (hr.1 a)
    rcases Mc hi with z' |z'
    ·exact absurd (z'.symm.trans z) c
    ·exact absurd (Int.lt_trans ab<|hl'.1 i z')<|z▸Int.lt_irrefl _
noncomputable def r6:List Int:=[0,1,2,3,4,5]
theorem ZnK{i:Int}{M:Nat}(h:0<=i/\i<M)(m:M<=6):i∈r6:=mem_map (f:=Int.ofNat) (l:=List.range 6) |>.mpr ⟨i.toNat,List.mem_range.mpr<|Gl (la6 h) m,(la5 h).symm⟩
noncomputable def cT(m v:Nat)(led:Bool)(s:List Int):List Int×SetTable:=(s,⟨m,(s.map Int.toNat).toArray,#[],0,led,v,true⟩)
def mv(n:Nat):Nat×Nat:=if n<5 then (7,0) else (31,1)
def ok1(led:Bool)(s:List Int):Bool:=s.foldl addT ([],.fresh 0 0 led)==cT (mv s.length).1 (mv s.length).2 led s
noncomputable def ps6:List (Nat×Nat):=[(7,0),(15,1),(31,1),(31,2)]
def fit(p:Nat×Nat)(n:Nat):Bool:=blt (n * 5)<|p.1 * 3
noncomputable def low6(p:Nat×Nat):Nat:=if p.2==2 then 5 else 1
def ok3(led:Bool)(s:List Int)(n:Nat):Bool:=s.isEmpty ||match copyT led (cT (mv s.length).1 (mv s.length).2 led s) with
 |none=>false
 |some c=>c.1==s&&match roomT c n with
  |none=>false
  |some r=>ps6.any λp=>r==cT p.1 p.2 led s&&(fit p (s.length+n)&&ble (low6 p) s.length)
def ok4(led:Bool)(s:List Int)(p:Nat×Nat)(i:Int):Bool:=blt s.length (low6 p) || !(fit p (insS i s).length) ||s.contains i ||addT (cT p.1 p.2 led s) i==cT p.1 p.2 led (insS i s)
def ok5(s:List Int)(p:Nat×Nat):Bool:=walkT (cT p.1 p.2 true s).2
theorem t1:((sbs r6).all λs=>ok1 true s&&ok1 false s)=true:=by decide+kernel
theorem t3:((sbs r6).all λs=>[1,2,3,4,5,6].all λn=>ok3 true s n&&ok3 false s n)=true:=by decide+kernel
theorem t4:((sbs r6).all λs=>ps6.all λp=>r6.all λi=>ok4 true s p i&&ok4 false s p i)=true:=by decide+kernel
theorem t5:((sbs r6).all λs=>ps6.all λp=>ok5 s p)=true:=by decide+kernel
theorem two{f:Bool->Bool}(h:(f true&&f false)=true)(b:Bool):f b=true:=by
 have h:=An h
 induction b with
 |true=>exact h.1
 |false=>exact h.2
structure L6(l:List Int):Prop where
 up:l.Pairwise (· < ·)
 lt:∀i∈l,i∈r6
theorem L6.mem{l:List Int}(h:L6 l):l∈sbs r6:=ZlS<|Zks (by decide) h.up h.lt
theorem L6.len{l:List Int}(h:L6 l):l.length<=6:=(Zks (r:=r6) (by decide) h.up h.lt).length_le
theorem Zlg{x:Int}:∀{l:List Int},l.Pairwise (· < ·)->(insS x l).Pairwise (· < ·):=by
 intro l
 induction l with
 |nil=>exact λø=>pairwise_singleton ..
 |cons y r ih=>
  intro h;have h':=pairwise_cons.mp h;show(if x<y then x::y::r else if x=y then y::r else y::insS x r).Pairwise (· < ·)
  by_cases c:x<y
  ·rw[if_pos c];exact pairwise_cons.mpr ⟨λz hz=>(Mc hz).elim (λe=>e▸c) λe=>Int.lt_trans c<|h'.1 z e,h⟩
  ·rw[if_neg c]
   by_cases d:x=y
   ·rw[if_pos d];exact h
   ·rw[if_neg d];refine pairwise_cons.mpr ⟨λz hz=>(ZcK.mp hz).elim (λe=>e▸lj6 c d)<|h'.1 z,ih h'.2⟩
theorem Zjx{x:Int}:∀{l:List Int},(insS x l).length<=l.length+1:=by
 intro l
 induction l with
 |nil=>exact Zr _
 |cons y r ih=>
  show(if x<y then x::y::r else if x=y then y::r else y::insS x r).length<=_
  by_cases c:x<y
  ·rw[if_pos c];exact Zr _
  ·rw[if_neg c]
   by_cases d:x=y
   ·rw[if_pos d];exact Us _
   ·rw[if_neg d];exact Fs ih
theorem Zlr{x:Int}:∀{l:List Int},l.length<=(insS x l).length:=by
 intro l
 induction l with
 |nil=>exact Zz _
 |cons y r ih=>
  show _<=(if x<y then x::y::r else if x=y then y::r else y::insS x r).length
  by_cases c:x<y
  ·rw[if_pos c];exact Us _
  ·rw[if_neg c]
   by_cases d:x=y
   ·rw[if_pos d];exact Zr _
   ·rw[if_neg d];exact Fs ih
theorem fold6{led:Bool}{p:Nat×Nat}(hp:p∈ps6):∀{m:List Int}{s:List Int},L6 s->(∀i∈m,i∈r6)->fit p (s.length+m.length)=true->low6 p<=s.length->∃s',L6 s'/\m.foldl addT (cT p.1 p.2 led s)=cT p.1 p.2 led s':=by
 intro m
 induction m with
 |nil=>exact λ{s} h _ _ _=>⟨s,h,rfl⟩
 |cons i m ih=>
  intro s h hm hf lo;have hi:=hm i<|.head _;have hf:(s.length+(m.length+1)) * 5<p.1 * 3:=Bq hf;show ∃s',L6 s'/\m.foldl addT (addT (cT p.1 p.2 led s) i)=_
  by_cases mi:i∈s
  ·have e:addT (cT p.1 p.2 led s) i=cT p.1 p.2 led s:=if_pos mi;rw[e];exact ih h (λj hj=>hm j<|.tail _ hj) (Nat.ble_eq_true_of_le<|Nl (Nat.mul_le_mul_right 5<|Us _) hf) lo
  ·have l:=Zjx (x:=i) (l:=s);have l':=Zlr (x:=i) (l:=s);have e:=Al (Al (Al t4 s h.mem) p hp) i hi;have e:=two (f:=λb=>ok4 b s p i) e led;have ft:fit p (insS i s).length=true:=Nat.ble_eq_true_of_le (Nl (Nat.mul_le_mul_right 5<|Nt l<|Fl (Fs<|Zz _) _) hf)
   have bl:blt s.length (low6 p)=false:=by induction q:blt s.length (low6 p) with |false=>rfl |true=>exact absurd (Bq q)<|not_lt_of_le lo
   have mc:s.contains i=false:=by induction q:s.contains i with |false=>rfl |true=>exact absurd (List.contains_iff_mem.mp q) mi
   unfold ok4 at e;rw[ft,bl,mc]at e;have e:addT (cT p.1 p.2 led s) i=cT p.1 p.2 led (insS i s):=eq_of_beq e;rw[e];exact ih ⟨Zlg h.up,λj hj=>(ZcK.mp hj).elim (λz=>z▸hi)<|h.lt j⟩ (λj hj=>hm j<|.tail _ hj) (Nat.ble_eq_true_of_le<|Nl (Nat.mul_le_mul_right 5<|Nt (Fr l _)<|la2<|Zr _) hf)<|Nt lo l'
theorem n6{n:Nat}(h1:n≠0)(h:n<=6):n∈[1,2,3,4,5,6]:=by
 match n,h1,h with
 |1,_,_ |2,_,_ |3,_,_ |4,_,_ |5,_,_ |6,_,_=>decide
theorem uni6{l m:List Int}(hl:L6 l)(hm:L6 m)(nl:l≠[])(nm:m≠[]):uniK l m=true:=by
 have key:∀led,uniB led l m=true:=λled=>by
  have el:l.foldl addT ([],.fresh 0 0 led)=cT (mv l.length).1 (mv l.length).2 led l:=eq_of_beq<|two (f:=λb=>ok1 b l) (Al t1 l hl.mem) led;have em:m.foldl addT ([],.fresh 0 0 led)=cT (mv m.length).1 (mv m.length).2 led m:=eq_of_beq<|two (f:=λb=>ok1 b m) (Al t1 m hm.mem) led;have e3:=two (f:=λb=>ok3 b l m.length) (Al (Al t3 l hl.mem) m.length<|n6 (λz=>nm<|List.length_eq_zero_iff.mp z) hm.len) led;unfold ok3 at e3;rw[List.isEmpty_eq_false_iff.mpr nl]at e3;unfold uniB;rw[el,em]
  induction hc:copyT led (cT (mv l.length).1 (mv l.length).2 led l) with
  |none=>rw[hc]at e3;exact noT e3
  |some c=>
   rw[hc]at e3;have e3:=An<|show((c.1==l)&&_)=true from e3;have ec:c.1=l:=eq_of_beq e3.1;have e3:=e3.2;show(match roomT c (cT (mv m.length).1 (mv m.length).2 led m).1.length with |none=>false |some r=>_)=true
   change (match roomT c m.length with |none=>false |some r=>_)=true at e3
   change (match roomT c m.length with |none=>false |some r=>_)=true
   induction hr:roomT c m.length with
   |none=>rw[hr]at e3;exact noT e3
   |some r=>
    rw[hr]at e3;obtain⟨p,hp,q⟩:=List.any_eq_true.mp e3;have q:=An q
    obtain rfl:=(eq_of_beq q.1:r=cT p.1 p.2 led l)
    have q2:=An q.2;obtain⟨s',h',ef⟩:=fold6 (led:=led) hp hl hm.lt q2.1<|Bq q2.2
    have f0:((cT p.1 p.2 led l).2.fill != 0)=true:=by
     induction l using List.casesOn with
     |nil=>exact absurd rfl nl
     |cons a b=>rfl
    have w:(!led ||walkT (m.foldl addT<|cT p.1 p.2 led l).2)=true:=by
     rw[ef]
     induction led with
     |false=>rfl
     |true=>exact Al (Al t5 s' h'.mem) p hp
    have b64:∀{n:Nat},n<=12->blt n 64=true:=λh=>Nat.ble_eq_true_of_le (Nl h<|by decide);have l1:=hl.len;have l2:=hm.len;show(led==led&&true&&!m.isEmpty&&(cT p.1 p.2 led l).2.fill != 0&&blt l.length 64&&blt c.1.length 64&&blt (l.length+m.length) 64&&blt l.length 64&&blt m.length 64&&decide l.Nodup&&mkSet (l++m)==mkSet (l++m)&&(!led ||walkT (m.foldl addT<|cT p.1 p.2 led l).2))=true;rw[w,f0,ec,b64<|Nt l1<|by decide,b64<|Nt l2<|by decide,b64<|Nat.add_le_add l1 l2,List.isEmpty_eq_false_iff.mpr nm,Dq<|show l.Nodup from hl.up.imp Int.ne_of_lt,beq_self_eq_true,beq_self_eq_true];rfl
 unfold uniK;rw[key,key];rfl
end
theorem Zd5{a b:List Int}(h:a.Nodup)(s:∀x∈a,x∈b):a.length<=b.length:=h.length_le_of_subset λø hx=>s _ hx
theorem Zd3{l:List Int}{i:Int}:memF l i=decide (i∈l):=by
 unfold memF iV
 by_cases c:i∈l
 ·rw[Dq c];exact List.any_eq_true.mpr ⟨.int i,mem_map.mpr ⟨_,c,rfl⟩,Dq rfl⟩
 ·rw[Df c];refine List.any_eq_false.mpr λy hy=>?_;obtain⟨z,hz,e⟩:=mem_map.mp hy;subst e;show ¬ decide (z=i)=true;rw[decide_eq_true_iff];exact λq=>c<|q▸hz
theorem Zno{n:Nat}(h:n<=100100):n<SZ:=Nl h<|Bq rfl
theorem ZpK{n:Nat}(h:n<=100100):n<=SZ:=Ny<|Zno h
theorem Fi.nd{M:Nat}{l:List Int}(h:Fi M l):l.Nodup:=h.up.imp λh=>Int.ne_of_lt h
theorem Fi.pos{M:Nat}{l:List Int}(h:Fi M l):1<=l.length:=List.length_pos_iff.mpr h.ne
theorem ZnH{k:Int}:∀{l:List Int},l.Nodup->l.length<=(oth k l).length+1:=by
 intro zz0
 induction zz0 with
 |nil=>
  intro _;exact Zz _
 |cons a r ih=>
  intro h;have h:=nodup_cons.mp h
  by_cases c:a=k
  ·have e:oth k (a::r)=r:=by
    unfold oth;rw[List.filter_cons,Dq c];show r.filter _=r
    exact List.filter_eq_self.mpr λx hx=>by
     rw[Df λz=>h.1 (by rw[c,← z];exact hx)];rfl
   rw[e];exact Zr _
  ·have e:oth k (a::r)=a::oth k r:=by
    unfold oth;rw[List.filter_cons,Df c];rfl
   rw[e,Lc,Lc];exact Fs<|ih h.2
theorem ZfQ{M:Nat}{k:Int}{l:List Int}(h:Fi M l):l.length / 2<(oth k l).length+1:=by
 exact lm6 (ZnH (k:=k) h.nd) h.pos
variable {a b m y:Int}{v vv:V}{X X':Nat->Hd}{ys aw:List Int}{ks:List V}{L:Lay}{U:List Letter}{row:List Msg}{ow0':Nat->Nat}{e1 e2:PE}{kv:List (V×V)}{be:List (List Gn)}
section
open PySem (Str)
def Bl(a b:Bal):Prop:=a.1<b.1\/(a.1=b.1/\a.2<b.2)
theorem Zmj{a b:Bal}:bLt a b=true↔Bl a b:=by
 show cond (decide<|a.1=b.1) (cond (decide<|a.2=b.2) false<|decide<|a.2<b.2) (decide<|a.1<b.1)=true↔_;unfold Bl
 by_cases c:a.1=b.1
 ·rw[Dq c]
  by_cases d:a.2=b.2
  ·rw[Dq d];exact⟨λh=>(nomatch h),λh=>h.elim (λz=>absurd c<|Int.ne_of_lt z) λz=>absurd d<|Int.ne_of_lt z.2⟩
  ·rw[Df d];exact⟨λh=>.inr ⟨c,Od h⟩,λh=>h.elim (λz=>absurd c<|Int.ne_of_lt z) λz=>Dq z.2⟩
 ·rw[Df c];exact⟨λh=>.inl<|Od h,λh=>h.elim (λz=>Dq z) λz=>absurd z.1 c⟩
theorem Bl.irr{a:Bal}(h:Bl a a):False:=h.elim (λz=>Int.lt_irrefl _ z) λz=>Int.lt_irrefl _ z.2
theorem Bl.trans{a b c:Bal}(h:Bl a b)(q:Bl b c):Bl a c:=by
 rcases h with h |⟨h,h'⟩
 ·rcases q with q |⟨q,q'⟩
  ·exact .inl<|Int.lt_trans h q
  ·exact .inl<|q▸h
 ·rcases q with q |⟨q,q'⟩
  ·exact .inl<|h▸q
  ·exact .inr ⟨h.trans q,Int.lt_trans h' q'⟩
theorem Bl.tri(a b:Bal):Bl a b\/a=b\/Bl b a:=by
 rcases Int.lt_trichotomy a.1 b.1 with h |h |h
 ·exact .inl<|.inl h
 ·rcases Int.lt_trichotomy a.2 b.2 with q |q |q
  ·exact .inl<|.inr ⟨h,q⟩
  ·exact .inr<|.inl<|Prod.ext h q
  ·exact .inr<|.inr<|.inr ⟨h.symm,q⟩
 ·exact .inr<|.inr<|.inl h
def Be(a b:Bal):Prop:=¬ Bl b a
theorem ZpL{a b:Bal}:bLe a b=true↔Be a b:=by
 show cond (decide<|a.1=b.1) (cond (decide<|a.2=b.2) true<|decide<|a.2<=b.2) (decide<|a.1<=b.1)=true↔_;unfold Be Bl
 by_cases c:a.1=b.1
 ·rw[Dq c]
  by_cases d:a.2=b.2
  ·rw[Dq d];exact⟨λø h=>h.elim (λz=>absurd c.symm<|Int.ne_of_lt z) λz=>absurd d.symm<|Int.ne_of_lt z.2,λø=>rfl⟩
  ·rw[Df d];exact⟨λh q=>q.elim (λz=>absurd c.symm<|Int.ne_of_lt z) λz=>Int.not_lt.mpr (Od h) z.2,λh=>Dq<|Int.not_lt.mp λz=>h<|.inr ⟨c.symm,z⟩⟩
 ·rw[Df c];exact⟨λh q=>q.elim (λz=>Int.not_lt.mpr (Od h) z) λz=>c z.1.symm,λh=>Dq<|Int.not_lt.mp λz=>h<|.inl z⟩
theorem Be.refl(a:Bal):Be a a:=Bl.irr
theorem Be.lt{a b c:Bal}(h:Be a b)(q:Bl b c):Bl a c:=(Bl.tri a b).elim (λz=>z.trans q) λz=>z.elim (λz=>z▸q) λz=>absurd z h
theorem Be.trans{a b c:Bal}(h:Be a b)(q:Be b c):Be a c:=λz=>(Bl.tri b c).elim (λy=>Bl.irr<|(h.lt y).trans z) λy=>y.elim (λy=>h<|y▸z) λy=>q y
theorem Bl.le{a b:Bal}(h:Bl a b):Be a b:=λz=>(h.trans z).irr
theorem Zhd{a b:Bal}(h:bEq a b=true):a=b:=by
 have h:(decide (a.1=b.1)&&(decide (a.2=b.2)&&true))=true:=h;have h1:=An h;exact Prod.ext (Od h1.1)<|Od (An h1.2).1
structure Mj(l q:List Int):Prop where
 sub:∀a∈q,a∈l
 nd:q.Nodup
 en:l.length<2 * q.length
theorem Mj.meet{l p q:List Int}(a:Mj l p)(b:Mj l q):∃x,x∈p/\x∈q:=Classical.byContradiction λh=>by
 have d:(p++q).Nodup:=List.nodup_append.mpr ⟨a.nd,b.nd,λx hx y hy e=>h ⟨x,hx,e▸hy⟩⟩;have:=Zd5 d λx hx=>(Mp hx).elim (a.sub x)<|b.sub x;rw[La]at this;exact ln1 this a.en b.en
noncomputable abbrev Snt:=Letter->Prop
def vt(S:Snt)(n a:Int)(b:Bal):Prop:=∃to,S ⟨a,to,n,.agr b⟩
def pm(S:Snt)(n a:Int)(b:Bal):Prop:=∃to row g,S ⟨a,to,n,.prom b row g⟩
def pp(S:Snt)(n:Int)(b:Bal)(x:Val):Prop:=∃p to,S ⟨p,to,n,.acc ⟨b,x⟩⟩
def bd(S:Snt)(n a:Int)(b:Bal):Prop:=pm S n a b\/vt S n a b
inductive Ls(fi:List Int)(S:Snt)(n:Int)(l:List Int):Prop
 |first (h:n=0) (e:l=fi)
 |new (L:Letter) (w:News) (hL:S L) (hc:L.c=.ent w) (hn:w.no=n) (e:w.hs=l)
inductive Dead(fi:List Int)(S:Snt)(n:Int)(b:Bal):Prop
 |mk (l q:List Int) (hl:Ls fi S n l) (hq:Mj l q) (h:∀a∈q,(∃b',Bl b b'/\bd S n a b')/\¬ vt S n a b)
def Saf(fi:List Int)(S:Snt)(n:Int)(b:Bal)(x:Val):Prop:=∀b',Bl b' b->pp S n b' x\/Dead fi S n b'
structure Dc(M:Nat)(fi:List Int)(S:Snt)(w:News)(l:List Int)(b:Bal):Prop where
 no:1<=w.no
 ls:Ls fi S (w.no - 1) l
 pp:pp S (w.no - 1) b ⟨w.hs,w.row⟩
 mj:Mj l w.wit
 up:w.wit.Pairwise (· < ·)
 vt:∀a∈w.wit,vt S (w.no - 1) a b
 hs:Fi M w.hs
def Gd(M:Nat)(fi:List Int)(S:Snt)(L:Letter):Prop:=match L.c with
 |.prom b r g=>(∀b',Bl b' b->vt S L.pl L.from_ b'->∃c,g=some c/\Be b' c.b)/\(∀c,g=some c->Bl c.b b/\pp S L.pl c.b c.x)/\r.length<=100
 |.acc c=>c.b.2=L.from_/\Saf fi S L.pl c.b c.x/\Fi M c.x.hs/\c.x.row.length<=100
 |.agr b=>∃x,pp S L.pl b x
 |.ent w=>∃l b,Dc M fi S w l b
 |_=>True
structure IS(M:Nat)(fi:List Int)(S:Snt):Prop where
 ff:Fi M fi
 gd:∀L,S L->Gd M fi S L
 fr:∀L,S L->∃l,Ls fi S L.pl l/\L.from_∈l
 to:∀L,S L->∃t:Nat,t<M/\L.to=t
 pu:∀n b x y,pp S n b x->pp S n b y->x=y
section
variable {S:Snt}(I:IS M fi S)
include I
theorem IS.one{n:Int}{l:List Int}{b b':Bal}{x y:Val}{p q:List Int}(hp:Mj l p)(hq:Mj l q)(u:∀l',Ls fi S n l'->l'=l)(hx:pp S n b x)(hy:pp S n b' y)(vp:∀a∈p,vt S n a b)(vq:∀a∈q,vt S n a b'):x=y:=by
 have key:∀{b b':Bal}{x y:Val}{q:List Int},Mj l q->pp S n b x->pp S n b' y->(∀a∈q,vt S n a b')->Bl b' b->x=y:=λ{b b' x y q} hq hx hy vq lt=>by
  obtain⟨_,_,hL⟩:=hx
  rcases(I.gd _ hL).2.1 b' lt with z |⟨l',r,hl,hr,h⟩
  ·exact I.pu n b' x y z hy
  ·obtain rfl:=Eq.symm<|u l' hl;obtain⟨a,a1,a2⟩:=hr.meet hq;exact absurd (vq a a2) (h a a1).2
 rcases Bl.tri b b' with z |z |z
 ·exact(key hp hy hx vp z).symm
 ·obtain rfl:=z;exact I.pu n b x y hx hy
 ·exact key hq hx hy vq z
theorem IS.uniq(k:Nat):∀l l',Ls fi S k l->Ls fi S k l'->l=l':=by
 have no0:∀{L:Letter}{w:News},S L->L.c=.ent w->1<=w.no:=λ{L w} hL hc=>by
  have g:=I.gd L hL;unfold Gd at g;rw[hc]at g;obtain⟨_,_,d⟩:=g;exact d.no
 induction k with
 |zero=>
  intro l l' h h'
  have key:∀l,Ls fi S ((0:Nat):Int) l->l=fi:=λl h=>by
   induction h with
   |first _ e=>exact e
   |new L w hL hc hn e=>exact absurd (no0 hL hc) (by rw[hn];decide)
  exact(key l h).trans (key l' h').symm
 |succ k ih=>
  intro l l' h h'
  have ne:((k+1:Nat):Int)≠0:=λz=>by have:=Int.ofNat.inj z;injection this
  induction h with
  |first z _=>exact absurd z ne
  |new L w hL hc hn e=>
   induction h' with
   |first z _=>exact absurd z ne
   |new L' w' hL' hc' hn' e'=>
    have g:=I.gd L hL;have g':=I.gd L' hL';unfold Gd at g g';rw[hc]at g;rw[hc']at g';obtain⟨m,b,d⟩:=g;obtain⟨m',b',d'⟩:=g'
    have en:w.no - 1=(k:Int):=by rw[hn];exact Int.add_sub_cancel (k:Int) 1
    have en':w'.no - 1=(k:Int):=by rw[hn'];exact Int.add_sub_cancel (k:Int) 1
    have dl:=d.ls;have dp:=d.pp;have dv:=d.vt;have dl':=d'.ls;have dp':=d'.pp;have dv':=d'.vt;rw[en]at dl dp dv;rw[en']at dl' dp' dv';obtain rfl:=Eq.symm<|ih m' m dl' dl;have:=I.one d.mj d'.mj (λl' h=>ih l' _ h dl) dp dp' dv dv';exact e.symm.trans<|(congrArg Val.hs this).trans e'
theorem IS.nn{n:Int}{l:List Int}(h:Ls fi S n l):0<=n:=by
 induction h with
 |first h _=>exact Int.le_of_eq h.symm
 |new L w hL hc hn e=>
  have g:=I.gd L hL;unfold Gd at g;rw[hc]at g;obtain⟨_,_,d⟩:=g;exact It (by decide)<|hn▸d.no
theorem IS.eq{n:Int}{l l':List Int}(h:Ls fi S n l)(h':Ls fi S n l'):l=l':=by
 obtain⟨k,rfl⟩:∃k:Nat,n=k:=⟨n.toNat,(Int.toNat_of_nonneg<|I.nn h).symm⟩
 exact I.uniq k l l' h h'
theorem IS.lfi{n:Int}{l:List Int}(h:Ls fi S n l):Fi M l:=by
 induction h with
 |first _ e=>exact e▸I.ff
 |new L w hL hc hn e=>
  have g:=I.gd L hL;unfold Gd at g;rw[hc]at g;obtain⟨_,_,d⟩:=g;exact e▸d.hs
end
structure Cr where
 place:Option Int
 hi:Int
 ms:List Int
 gone:List Gn
 news:Option News
 still:Bool
 bal:Bal
 agd:Option Acc
 off:Option Off
noncomputable def Hd.cr(x:Hd):Cr:=⟨x.place,x.hi,x.ms,x.gone,x.news,x.still,x.bal,x.agd,x.off⟩
structure OO(M:Nat)(S:Snt)(t n:Int)(o:Off):Prop where
 b2:o.b.2=t
 hs:Fi M o.hs
 pr:∀p∈o.prom,∃to,S ⟨p.1,to,n,.prom o.b p.2.1 p.2.2⟩
 pn:(o.prom.map (·.1)).Nodup
 ag:∀a∈o.agr,vt S n a o.b
 an:o.agr.Nodup
 vl:∀v,o.val=some v->Fi M v.hs
structure HP(M:Nat)(fi:List Int)(S:Snt)(t n:Int)(x:Cr):Prop where
 ms:Ls fi S n x.ms
 me:t∈x.ms
 hi:x.hi=n
 bl:∀b,bd S n t b->Be b x.bal/\x.still=true
 vt:∀b,vt S n t b->∃c,x.agd=some c/\Be b c.b
 ag:∀c,x.agd=some c->Mine.Internal.vt S n t c.b/\pp S n c.b c.x
 ac:∀c to,S ⟨t,to,n,.acc c⟩->∃o,x.off=some o/\(Bl c.b o.b\/(c.b=o.b/\o.val=some c.x))
 off:∀o,x.off=some o->OO M S t n o
 ne:(n=0/\x.news=none)\/∃w L,x.news=some w/\w.no=n/\S L/\L.c=.ent w
structure HG(fi:List Int)(S:Snt)(t:Int)(x:Cr):Prop where
 fr:∀L,S L->L.from_=t->x.place=some L.pl\/L.pl∈x.gone.map (·.1)
 gl:∀g∈x.gone,Ls fi S g.1 g.2.1/\t∈g.2.1/\g.1<=x.hi/\∀n,x.place=some n->g.1<n
 gr:∀g∈x.gone,g.2.2.length<=100
 nx:∀g∈x.gone,∃l,Ls fi S (g.1+1) l/\(t∈l->x.place=some (g.1+1)\/g.1+1∈x.gone.map (·.1))
 up:(x.gone.map (·.1)).Pairwise (· < ·)
structure HS(M:Nat)(fi:List Int)(S:Snt)(t:Int)(x:Cr):Prop where
 p:∀n,x.place=some n->HP M fi S t n x
 g:HG fi S t x
 o:x.place=none->x.ms=[]
 f:x.place=none->x.off=none
noncomputable def ad(S:Snt)(ns:List Letter):Snt:=λL=>S L\/L∈ns
structure Nw(S:Snt)(ns:List Letter)(t n:Int):Prop where
 fr:∀L∈ns,L.from_=t/\L.pl=n
 vt:∀L∈ns,∀b,L.c=.agr b->∀b',bd S n t b'->Be b' b
section
variable {S:Snt}{ns:List Letter}{t n:Int}
theorem Ls.ad{m:Int}{l:List Int}(h:Ls fi S m l):Ls fi (ad S ns) m l:=by
 induction h with
 |first h e=>exact .first h e
 |new L w hL hc hn e=>exact .new L w (.inl hL) hc hn e
theorem pp.ad{m:Int}{b:Bal}{x:Val}:pp S m b x->pp (ad S ns) m b x:=λ⟨p,to,h⟩=>⟨p,to,.inl h⟩
theorem vt.ad{m a:Int}{b:Bal}:vt S m a b->vt (ad S ns) m a b:=λ⟨to,h⟩=>⟨to,.inl h⟩
theorem bd.ad{m a:Int}{b:Bal}:bd S m a b->bd (ad S ns) m a b:=λh=>h.imp (λ⟨to,r,g,h⟩=>⟨to,r,g,.inl h⟩) vt.ad
theorem Nw.vo(N:Nw S ns t n){m a:Int}{b:Bal}:Mine.Internal.vt (Mine.Internal.ad S ns) m a b->Mine.Internal.vt S m a b\/(a=t/\m=n/\∀b',bd S n t b'->Be b' b):=λ⟨to,h⟩=>h.imp (λh=>⟨to,h⟩) λh=>⟨(N.fr _ h).1,(N.fr _ h).2,N.vt _ h b rfl⟩
theorem Dead.ad(N:Nw S ns t n){m:Int}{b:Bal}(h:Dead fi S m b):Dead fi (ad S ns) m b:=by
 obtain⟨l,q,hl,hq,h⟩:=h;refine⟨l,q,hl.ad,hq,λa ha=>?_⟩;obtain⟨⟨b',lt,hb⟩,nv⟩:=h a ha;refine⟨⟨b',lt,hb.ad⟩,λv=>?_⟩
 rcases N.vo v with z |⟨e1,e2,z⟩
 ·exact nv z
 ·subst e1 e2;exact z b' hb lt
theorem Saf.ad(N:Nw S ns t n){m:Int}{b:Bal}{x:Val}(h:Saf fi S m b x):Saf fi (ad S ns) m b x:=λb' lt=>(h b' lt).imp pp.ad<|Dead.ad N
theorem Dc.ad{w:News}{l:List Int}{b:Bal}(d:Dc M fi S w l b):Dc M fi (ad S ns) w l b:=⟨d.no,d.ls.ad,d.pp.ad,d.mj,d.up,λa ha=>(d.vt a ha).ad,d.hs⟩
theorem Gd.ad(N:Nw S ns t n){L:Letter}(hL:S L)(g:Gd M fi S L):Gd M fi (ad S ns) L:=by
 obtain⟨fr,to,pl,c⟩:=L
 induction c with
 |prom b r a=>
  refine⟨λb' lt v=>?_,λc e=>⟨(g.2.1 c e).1,(g.2.1 c e).2.ad⟩,g.2.2⟩
  rcases N.vo v with z |⟨e1,e2,z⟩
  ·exact g.1 b' lt z
  ·have e1:fr=t:=e1;have e2:pl=n:=e2;subst e1 e2;exact absurd lt<|z b<|.inl ⟨to,r,a,hL⟩
 |acc c=>exact⟨g.1,g.2.1.ad N,g.2.2⟩
 |agr b=>exact g.elim λx h=>⟨x,h.ad⟩
 |ent w=>exact g.elim λl h=>h.elim λb h=>⟨l,b,h.ad⟩
 |_=>trivial
theorem IS.ad(I:IS M fi S)(N:Nw S ns t n){l:List Int}(hl:Ls fi S n l)(ht:t∈l)(gd:∀L∈ns,Gd M fi (ad S ns) L)(to:∀L∈ns,∃u:Nat,u<M/\L.to=u)
  (pu:∀L∈ns,∀b x,L.c=.acc ⟨b,x⟩->∀y,pp (Mine.Internal.ad S ns) n b y->y=x):IS M fi (Mine.Internal.ad S ns) where
 ff:=I.ff
 gd:=λL h=>h.elim (λh=>(I.gd L h).ad N h)<|gd L
 fr:=λL h=>h.elim (λh=>(I.fr L h).elim λl q=>⟨l,q.1.ad,q.2⟩) λh=>⟨l,(N.fr L h).2▸hl.ad,(N.fr L h).1▸ht⟩
 to:=λL h=>h.elim (I.to L)<|to L
 pu:=λm b x y hx hy=>by
  obtain⟨p,to,h⟩:=hx
  rcases h with h |h
  ·obtain⟨p',to',h'⟩:=hy
   rcases h' with h' |h'
   ·exact I.pu m b x y ⟨p,to,h⟩ ⟨p',to',h'⟩
   ·obtain rfl:=(N.fr _ h').2;exact pu _ h' b y rfl x ⟨p,to,.inl h⟩
  ·obtain rfl:=(N.fr _ h).2;exact(pu _ h b x rfl y hy).symm
theorem OO.ad{u m:Int}{o:Off}(h:OO M S u m o):OO M (ad S ns) u m o:=⟨h.b2,h.hs,λp hp=>(h.pr p hp).elim λto q=>⟨to,.inl q⟩,h.pn,λa ha=>(h.ag a ha).ad,h.an,h.vl⟩
theorem HP.ad{u m:Int}{x:Cr}(h:HP M fi S u m x)(nb:∀b,bd (ad S ns) m u b->bd S m u b)(nv:∀b,Mine.Internal.vt (Mine.Internal.ad S ns) m u b->Mine.Internal.vt S m u b)(na:∀c to,(⟨u,to,m,.acc c⟩:Letter)∉ns):HP M fi (Mine.Internal.ad S ns) u m x where
 ms:=h.ms.ad
 me:=h.me
 hi:=h.hi
 bl:=λb q=>h.bl b<|nb b q
 vt:=λb q=>h.vt b<|nv b q
 ag:=λc e=>⟨(h.ag c e).1.ad,(h.ag c e).2.ad⟩
 ac:=λc to q=>q.elim (h.ac c to) λq=>absurd q<|na c to
 off:=λo e=>(h.off o e).ad
 ne:=h.ne.imp id λ⟨w,L,a,b,c,d⟩=>⟨w,L,a,b,.inl c,d⟩
theorem HG.ad{u:Int}{x:Cr}(h:HG fi S u x)(hn:∀L∈ns,L.from_=u->x.place=some L.pl):HG fi (ad S ns) u x where
 fr:=λL q e=>q.elim (λq=>h.fr L q e) λq=>.inl<|hn L q e
 gl:=λg hg=>⟨(h.gl g hg).1.ad,(h.gl g hg).2⟩
 gr:=h.gr
 nx:=λg hg=>(h.nx g hg).elim λl q=>⟨l,q.1.ad,q.2⟩
 up:=h.up
theorem HS.oth(N:Nw S ns t n){u:Int}{x:Cr}(h:HS M fi S u x)(ne:u≠t):HS M fi (ad S ns) u x where
 p:=λm e=>(h.p m e).ad (λb q=>q.imp (λ⟨to,r,g,q⟩=>⟨to,r,g,q.elim id λq=>absurd (N.fr _ q).1 ne⟩) λ⟨to,q⟩=>⟨to,q.elim id λq=>absurd (N.fr _ q).1 ne⟩)
  (λb ⟨to,q⟩=>⟨to,q.elim id λq=>absurd (N.fr _ q).1 ne⟩) λc to q=>absurd (N.fr _ q).1 ne
 g:=h.g.ad λL q e=>absurd (e.symm.trans (N.fr _ q).1) ne
 o:=h.o
 f:=h.f
noncomputable def dull:Cont->Bool
 |.prom _ _ _=>false
 |.agr _=>false
 |.acc _=>false
 |_=>true
theorem HP.dull{x:Cr}(h:HP M fi S t n x)(d:∀L∈ns,Mine.Internal.dull L.c=true):HP M fi (Mine.Internal.ad S ns) t n x:=
 h.ad (λb q=>q.imp (λ⟨to,r,g,q⟩=>⟨to,r,g,q.elim id λq=>nomatch d _ q⟩) λ⟨to,q⟩=>⟨to,q.elim id λq=>nomatch d _ q⟩)
  (λb ⟨to,q⟩=>⟨to,q.elim id λq=>nomatch d _ q⟩) λc to q=>nomatch d _ q
end
structure In8(M:Nat)(fi:List Int)(S:Snt)(U:List Letter)(X:Nat->Hd):Prop where
 is:IS M fi S
 un:∀L∈U,S L
 hs:∀t:Nat,t<M->HS M fi S t (X t).cr
section
variable {S:Snt}{U' ns:List Letter}{n:Int}{x:Hd}
theorem In8.add(I:In8 M fi S U X)(ht:t<M)(hp:(X t).place=some n)(N:Nw S ns t n)(gd:∀L∈ns,Gd M fi (ad S ns) L)(to:∀L∈ns,∃u:Nat,u<M/\L.to=u)
  (pu:∀L∈ns,∀b x,L.c=.acc ⟨b,x⟩->∀y,pp (ad S ns) n b y->y=x) (hu:∀L∈U',L∈U\/L∈ns) (hx:HP M fi (ad S ns) t n x.cr) (hpl:x.place=some n) (hg:x.gone=(X t).gone):In8 M fi (ad S ns) U' (updX X t x):=by
 have h:=I.hs t ht;have P:=h.p n hp;refine⟨I.is.ad N P.ms P.me gd to pu,λL hL=>(hu L hL).imp (I.un L) id,λu hu=>?_⟩;unfold updX
 by_cases c:u=t
 ·subst c;rw[if_pos rfl];refine⟨λm e=>?_,?_,λe=>(nomatch hpl.symm.trans e),λe=>(nomatch hpl.symm.trans e)⟩
  ·obtain rfl:=Sj<|hpl.symm.trans e;exact hx
  ·have e:x.cr.place=(X u).cr.place:=hpl.trans hp.symm;have eg:x.cr.gone=(X u).cr.gone:=hg;have ei:x.cr.hi=(X u).cr.hi:=hx.hi.trans P.hi.symm;have g:HG fi (ad S ns) u (X u).cr:=h.g.ad λL q ø=>hp.trans<|congrArg some (N.fr L q).2.symm;exact⟨by rw[e,eg];exact g.fr,by rw[e,eg,ei];exact g.gl,by rw[eg];exact g.gr,by rw[e,eg];exact g.nx,by rw[eg];exact g.up⟩
 ·rw[if_neg c];exact(I.hs u hu).oth N λz=>c<|Int.ofNat.inj z
theorem In8.dul(I:In8 M fi S U X)(ht:t<M)(hp:(X t).place=some n)(hd:∀L∈ns,L.from_=t/\L.pl=n/\dull L.c=true/\Gd M fi S L/\∃u:Nat,u<M/\L.to=u)(hu:∀L∈U',L∈U\/L∈ns)(hx:x.cr=(X t).cr):In8 M fi (ad S ns) U' (updX X t x):=by
 have N:Nw S ns t n:=⟨λL h=>⟨(hd L h).1,(hd L h).2.1⟩,λL h b e=>nomatch (show true=false from(hd L h).2.2.1.symm.trans (by rw[e];rfl))⟩
 refine I.add ht hp N (λL h=>?_) (λL h=>(hd L h).2.2.2.2) (λL h b y e=>nomatch (show true=false from(hd L h).2.2.1.symm.trans (by rw[e];rfl))) hu (hx▸((I.hs t ht).p n hp).dull λL h=>(hd L h).2.2.1) ((congrArg Cr.place hx).trans hp)<|congrArg Cr.gone hx;obtain⟨_,_,d,g,_⟩:=hd L h;obtain⟨fr,to,pl,c⟩:=L
 induction c with
 |ent w=>exact g.elim λl h=>h.elim λb h=>⟨l,b,h.ad⟩
 |prom _ _ _=>exact noT d
 |agr _=>exact noT d
 |acc _=>exact noT d
 |_=>trivial
end
inductive Nx8(M:Nat)(fi:List Int)(S:Snt)(U:List Letter)(X:Nat->Hd):Prop
 |mk (S':Snt) (sub:∀L,S L->S' L) (nw:∀L,S' L->S L\/L∈U) (h:In8 M fi S' U X)
theorem In8.nx{M:Nat}{fi:List Int}{S:Snt}{ns U:List Letter}{X:Nat->Hd}(h:In8 M fi (ad S ns) (U++ns) X):Nx8 M fi S (U++ns) X:=⟨_,λø=>.inl,λø q=>q.imp _root_.id<|mem_append_right U,h⟩
theorem In8.id{M:Nat}{fi:List Int}{S:Snt}{U U':List Letter}{X:Nat->Hd}{t:Nat}(h:In8 M fi S U X)(hu:∀L∈U',L∈U):Nx8 M fi S U' (updX X t<|X t):=⟨S,λø=>λz=>z,λø=>.inl,⟨h.is,λL hL=>h.un L<|hu L hL,Zaf.symm▸h.hs⟩⟩
def N8(M:Nat)(fi:List Int)(S:Snt)(X:Nat->Hd)(t:Nat)(r:Hd×List Letter):Prop:=Nx8 M fi S r.2<|updX X t r.1
theorem cd8{M:Nat}{fi:List Int}{S:Snt}{X:Nat->Hd}{t:Nat}{b:Bool}{p q:Hd×List Letter}(h1:b=true->N8 M fi S X t p)(h2:b=false->N8 M fi S X t q):N8 M fi S X t (cond b p q):=by
 induction b with
 |true=>exact h1 rfl
 |false=>exact h2 rfl
theorem Zbl{α:Type}{a b:α}{l:List α}(h:a∈l++[b]):a∈l\/a∈[b]:=Mp h
section
variable {S:Snt}{n:Int}(I:In8 M fi S U X)(ht:t<M)(hp:(X t).place=some n)
include I ht hp
theorem prep8{b:Bal}(hr:(X t).row.length<=100)(hs:∃u:Nat,u<M/\src=u):N8 M fi S X t (prepF t n (X t) U src b):=by
 have P:=(I.hs t ht).p n hp;refine cd8 (λc=>?_) λø=>I.id λø h=>h
 ·have lt:=Zmj.mp c
  have nv:∀{m a:Int}{b':Bal},vt (ad S [⟨t,src,n,.prom b (X t).row (X t).agd⟩]) m a b'->vt S m a b':=λ⟨to,h⟩=>⟨to,h.elim _root_.id λh=>nomatch Mg h⟩
  refine(I.add (ns:=[⟨t,src,n,.prom b (X t).row (X t).agd⟩]) (x:={ X t with bal:=b,still:=true }) ht hp ⟨λL h=>?_,λL h b' e=>?_⟩ (λL h=>?_) (λL h=>?_) (λL h b' y e=>?_) (λL h=>Zbl h) ⟨P.ms.ad,P.me,P.hi,λb' h=>?_,λb' h=>P.vt b'<|nv h,λc e=>⟨(P.ag c e).1.ad,(P.ag c e).2.ad⟩,λc to h=>?_,λo e=>(P.off o e).ad,?_⟩ hp rfl).nx
  ·obtain rfl:=Mg h;exact⟨rfl,rfl⟩
  ·obtain rfl:=Mg h;injection e
  ·obtain rfl:=Mg h;refine⟨λb' l v=>P.vt b'<|nv v,λc e=>?_,hr⟩;have g:=P.ag c e;exact⟨(P.bl _<|.inr g.1).1.lt lt,g.2.ad⟩
  ·obtain rfl:=Mg h;exact hs
  ·obtain rfl:=Mg h;injection e
  ·rcases h with⟨to,r,g,h |h⟩ |h
   ·exact⟨(P.bl b'<|.inl ⟨to,r,g,h⟩).1.trans lt.le,rfl⟩
   ·cases Mg h;exact⟨.refl _,rfl⟩
   ·exact⟨(P.bl b'<|.inr<|nv h).1.trans lt.le,rfl⟩
  ·exact h.elim (P.ac c to) λh=>nomatch Mg h
  ·exact P.ne.imp _root_.id λ⟨w,L,a,b,c,d⟩=>⟨w,L,a,b,.inl c,d⟩
theorem acc8{a:Acc}(hs:∃u:Nat,u<M/\src=u)(hL:S ⟨src,t,n,.acc a⟩):N8 M fi S X t (accF t n (X t) U src a):=by
 have P:=(I.hs t ht).p n hp;refine cd8 (λc=>?_) λø=>I.id λø h=>h
 ·have le:=ZpL.mp c
  have vn:vt (ad S [⟨t,src,n,.agr a.b⟩]) n t a.b:=⟨src,.inr<|.head _⟩
  have pn:pp (ad S [⟨t,src,n,.agr a.b⟩]) n a.b a.x:=⟨src,t,.inl hL⟩
  have ob:∀b',vt (ad S [⟨t,src,n,.agr a.b⟩]) n t b'->Be b' a.b:=λb' ⟨to,h⟩=>h.elim (λh=>(P.bl b'<|.inr ⟨to,h⟩).1.trans le) λh=>by cases Mg h;exact .refl _
  refine(I.add (ns:=[⟨t,src,n,.agr a.b⟩]) (x:={ X t with bal:=a.b,still:=true,agd:=some a }) ht hp ⟨λL h=>?_,λL h b' e b'' hb=>?_⟩ (λL h=>?_) (λL h=>?_) (λL h b' y e=>?_) (λL h=>Zbl h) ⟨P.ms.ad,P.me,P.hi,λb' h=>⟨?_,rfl⟩,λb' h=>⟨a,rfl,ob b' h⟩,λc e=>?_,λc to h=>?_,λo e=>(P.off o e).ad,?_⟩ hp rfl).nx
  ·obtain rfl:=Mg h;exact⟨rfl,rfl⟩
  ·obtain rfl:=Mg h;(injection e with zz;obtain rfl:=zz);exact(P.bl _ hb).1.trans le
  ·obtain rfl:=Mg h;exact⟨a.x,pn⟩
  ·obtain rfl:=Mg h;exact hs
  ·obtain rfl:=Mg h;injection e
  ·rcases h with⟨to,r,g,h |h⟩ |h
   ·exact(P.bl b'<|.inl ⟨to,r,g,h⟩).1.trans le
   ·cases Mg h
   ·exact ob b' h
  ·obtain rfl:=Sj e;exact⟨vn,pn⟩
  ·exact h.elim (P.ac c to) λh=>nomatch Mg h
  ·exact P.ne.imp _root_.id λ⟨w,L,a,b,c,d⟩=>⟨w,L,a,b,.inl c,d⟩
end
theorem Zei{x:Int}{v:PR}{p:Int×PR}:∀{l:List (Int×PR)},p∈prS l x v->p=(x,v)\/p∈l:=by
 intro l
 induction l with
 |nil=>exact λh=>.inl<|Mg h
 |cons q r ih=>
  intro h;have h:p∈cond (decide (q.1=x)) ((q.1,v)::r) (q::prS r x v):=h
  induction c:decide (q.1=x) with
  |true=>
   rw[c]at h;exact(Mc h).imp (λz=>z.trans (congrArg (·,v)<|Od c)) λz=>.tail _ z
  |false=>
   rw[c]at h;exact(Mc h).elim (λz=>.inr<|z▸ .head _) λz=>(ih z).imp id λz=>.tail _ z
theorem Zc0{x:Int}{v:PR}:∀{l:List (Int×PR)},(l.map (·.1)).Nodup->((prS l x v).map (·.1)).Nodup:=by
 intro l
 induction l with
 |nil=>exact λø=>pairwise_singleton ..
 |cons q r ih=>
  intro h;have h:=nodup_cons.mp h;show((cond (decide (q.1=x)) ((q.1,v)::r) (q::prS r x v)).map (·.1)).Nodup
  induction c:decide (q.1=x) with
  |true=>exact nodup_cons.mpr h
  |false=>exact nodup_cons.mpr ⟨λz=>by
    obtain⟨p,hp,e⟩:=mem_map.mp z
    rcases Zei hp with y |y
    ·exact of_decide_eq_false c<|e.symm.trans<|congrArg Prod.fst y
    ·exact h.1<|e▸mem_map.mpr ⟨p,y,rfl⟩,ih h.2⟩
theorem Zdj{x:Int}{v:PR}:∀{l:List (Int×PR)},prG l x=some v->(x,v)∈l:=by
 intro l
 induction l with
 |nil=>exact λh=>nomatch h
 |cons q r ih=>
  intro h;have h:cond (decide (q.1=x)) (some q.2) (prG r x)=some v:=h
  induction c:decide (q.1=x) with
  |true=>rw[c]at h;obtain rfl:=Sj h;obtain rfl:=(Od c:q.1=x);exact .head _
  |false=>rw[c]at h;exact .tail _<|ih h
theorem ZjP{p:Int×PR}:∀{l:List (Int×PR)},(l.map (·.1)).Nodup->p∈l->prG l p.1=some p.2:=by
 intro l
 induction l with
 |nil=>exact λø h=>nomatch h
 |cons q r ih=>
  intro h hp;have h:=nodup_cons.mp h;show cond (decide (q.1=p.1)) (some q.2) (prG r p.1)=_
  rcases Mc hp with e |e
  ·obtain rfl:=e;rw[Dq rfl];rfl
  ·rw[Df<|show ¬ q.1=p.1 from λz=>h.1<|mem_map.mpr ⟨p,e,z.symm⟩];exact ih h.2 e
theorem Zmy{b a:Option Acc}:∀c,(b=some c\/a=some c)->∃c',bst b a=some c'/\Be c.b c'.b:=λc h=>by
 induction a with
 |none=>exact h.elim (λh=>⟨c,h,.refl _⟩) λh=>nomatch h
 |some a=>
  induction b with
  |none=>exact h.elim (λh=>nomatch h) λh=>⟨a,rfl,Sj h▸ .refl _⟩
  |some b=>
   show ∃c',cond (bLt b.b a.b) (some a) (some b)=some c'/\_
   induction q:bLt b.b a.b with
   |true=>exact⟨a,rfl,h.elim (λh=>Sj h▸(Zmj.mp q).le) λh=>Sj h▸ .refl _⟩
   |false=>exact⟨b,rfl,h.elim (λh=>Sj h▸ .refl _) λh=>Sj h▸λz=>by rw[Zmj.mpr z]at q;exact noF q⟩
theorem Zm4{b a:Option Acc}:bst b a=b\/bst b a=a:=by
 induction a with
 |none=>exact .inl rfl
 |some a=>
  induction b with
  |none=>exact .inr rfl
  |some b=>
   show cond (bLt b.b a.b) (some a) (some b)=_\/cond (bLt b.b a.b) (some a) (some b)=_
   induction bLt b.b a.b with
   |true=>exact .inr rfl
   |false=>exact .inl rfl
theorem Zoj{pr:List (Int×PR)}:∀(ms:List Int)(b:Option Acc)(rows:List (List Msg))(c:Acc),(b=some c\/∃h∈ms,∃p,prG pr h=some p/\p.2=some c)->∃c',(pfGo pr ms b rows).1=some c'/\Be c.b c'.b:=by
 intro ms
 induction ms with
 |nil=>exact λb rows c h=>h.elim (λh=>⟨c,h,.refl _⟩) λ⟨_,h,_⟩=>nomatch h
 |cons i r ih=>
  intro b rows c h;unfold pfGo
  induction e:prG pr i with
  |none=>
   refine ih b rows c<|h.imp id λ⟨j,hj,p,ep,q⟩=>⟨j,(Mc hj).elim (λz=>?_) id,p,ep,q⟩;rw[z,e]at ep;exact noS ep
  |some q=>
   have f:∀c₁,(b=some c₁\/q.2=some c₁)->∃c',(pfGo pr r (bst b q.2)<|rows++[q.1]).1=some c'/\Be c₁.b c'.b:=λc₁ h=>by
    obtain⟨c2',e2',l₂⟩:=Zmy c₁ h;obtain⟨c3',e3',l₃⟩:=ih (bst b q.2) (rows++[q.1]) c2'<|.inl e2';exact⟨c3',e3',l₂.trans l₃⟩
   rcases h with h |⟨j,hj,p,ep,h⟩
   ·exact f c<|.inl h
   ·rcases Mc hj with z |z
    ·rw[z,e]at ep;obtain rfl:=Sj ep;exact f c<|.inr h
    ·exact ih _ _ c<|.inr ⟨j,z,p,ep,h⟩
theorem Zoy{pr:List (Int×PR)}:∀(ms:List Int)(b:Option Acc)(rows:List (List Msg)),(pfGo pr ms b rows).1=b\/∃h∈ms,∃p,prG pr h=some p/\p.2=(pfGo pr ms b rows).1:=by
 intro ms
 induction ms with
 |nil=>exact λb rows=>.inl rfl
 |cons i r ih=>
  intro b rows;unfold pfGo
  induction e:prG pr i with
  |none=>exact(ih b rows).imp id λ⟨h,hh,z⟩=>⟨h,.tail _ hh,z⟩
  |some q=>
   rcases ih (bst b q.2) (rows++[q.1]) with z |⟨h,hh,z⟩
   ·rcases Zm4 (b:=b) (a:=q.2) with y |y
    ·exact .inl<|z.trans y
    ·exact .inr ⟨i,.head _,q,e,(z.trans y).symm⟩
   ·exact .inr ⟨h,.tail _ hh,z⟩
theorem ZoD{ms:List Int}{n:Nat}(h:enF ms n=true):ms.length<2 * n:=by
 have h:fdiv (ms.length:Int) 2+1<=(n:Int):=Od h;exact ln2 h
theorem Zfu{M:Nat}{l:List Int}(f:Fi M l){i:Int}(h:i∈l):∃u:Nat,u<M/\i=u:=⟨i.toNat,la6<|f.lt i h,la5<|f.lt i h⟩
theorem Zam{k pl:Int}{ts:List Int}{c:Cont}{L:Letter}(h:L∈sendF k pl ts c):∃i∈ts,L=⟨k,i,pl,c⟩:=(mem_map.mp h).elim λi q=>⟨i,q.1,q.2.symm⟩
theorem ZoN:∀{rs:List (List Msg)},(∀r∈rs,r.length<=100)->∀m:List Msg,m.length<=100->(lng rs m).length<=100:=by
 intro rs
 induction rs with
 |nil=>exact λø m h=>h
 |cons r rs ih=>
  intro h m hm;show(lng rs (cond (decide ((m.length:Int)<r.length)) r m)).length<=100;refine ih (λr hr=>h r<|.tail _ hr) _ ?_
  induction decide ((m.length:Int)<r.length) with
  |true=>exact h r<|.head _
  |false=>exact hm
theorem Zpk{rs:List (List Msg)}(h:∀r∈rs,r.length<=100):(rs.headD []).length<=100:=by
 induction rs using List.casesOn with
 |nil=>exact Zz _
 |cons r rs=>exact h r<|.head _
theorem Zh0{pr:List (Int×PR)}:∀(ms:List Int)(b:Option Acc)(rows:List (List Msg))(r:List Msg),r∈(pfGo pr ms b rows).2->r∈rows\/∃h p,prG pr h=some p/\p.1=r:=by
 intro ms
 induction ms with
 |nil=>exact λb rows r h=>.inl h
 |cons i ms ih=>
  intro b rows r h;unfold pfGo at h
  induction e:prG pr i with
  |none=>rw[e]at h;exact ih _ _ r h
  |some q=>
   rw[e]at h
   rcases ih _ _ r h with z |z
   ·exact(Mp z).imp id λz=>⟨i,q,e,(Mg z).symm⟩
   ·exact .inr z
section
variable {S:Snt}(I:IS M fi S){n:Int}{o:Off}
include I
theorem ZgQ{t:Int}(hl:Ls fi S n ms)(O:OO M S t n o)(en:enF ms o.prom.length=true):Mj ms (o.prom.map (·.1)):=by
 refine⟨λa ha=>?_,O.pn,by rw[Lm];exact ZoD en⟩;obtain⟨p,hp,e⟩:=mem_map.mp ha;obtain⟨to,h⟩:=O.pr p hp;obtain⟨l,h1,h2⟩:=I.fr _ h;obtain rfl:=Eq.symm<|I.eq h1 hl;exact e▸h2
theorem Ziq{t:Int}(hl:Ls fi S n ms)(O:OO M S t n o)(en:enF ms o.prom.length=true):Saf fi S n o.b (pfF ms o)/\Fi M (pfF ms o).hs/\(pfF ms o).row.length<=100:=by
 have J:=ZgQ I hl O en
 have key:∀b',Bl b' o.b->(∀c,(pfGo o.prom ms none []).1=some c->Bl c.b b')->Dead fi S n b':=λb' lt top=>by
  refine⟨ms,_,hl,J,λa ha=>?_⟩;obtain⟨p,hp,e⟩:=mem_map.mp ha;obtain⟨to,h⟩:=O.pr p hp;subst e;refine⟨⟨o.b,lt,.inl ⟨to,_,_,h⟩⟩,λv=>?_⟩;obtain⟨c,ec,lc⟩:=(I.gd _ h).1 b' lt v;obtain⟨c',e',l'⟩:=Zoj ms none [] c (.inr ⟨p.1,J.sub _ ha,p.2,ZjP O.pn hp,ec⟩);exact(lc.trans l') (top c' e')
 unfold pfF
 induction e:(pfGo o.prom ms none []).1 with
 |none=>exact⟨λb' lt=>.inr (key b' lt λc z=>by rw[e]at z;exact noS z),O.hs,ZoN (λr hr=>(Zh0 ms none [] r hr).elim (λz=>(nomatch z)) λ⟨h,p,ep,z⟩=>z▸(O.pr _<|Zdj ep).elim λto q=>(I.gd _ q).2.2) _ (Zpk λr hr=>(Zh0 ms none [] r hr).elim (λz=>(nomatch z)) λ⟨h,p,ep,z⟩=>z▸(O.pr _<|Zdj ep).elim λto q=>(I.gd _ q).2.2)⟩
 |some c=>
  have hc:Bl c.b o.b/\pp S n c.b c.x:=by
   rcases Zoy (pr:=o.prom) ms none [] with z |⟨h,_,p,ep,z⟩
   ·rw[e]at z;exact noZ z
   ·obtain⟨to,q⟩:=O.pr _<|Zdj ep;exact(I.gd _ q).2.1 c (z.trans e)
  obtain⟨lt,p,to,hL⟩:=hc;have g:=I.gd _ hL;refine⟨λb' l'=>?_,g.2.2⟩
  rcases Bl.tri b' c.b with z |z |z
  ·exact g.2.1 b' z
  ·exact .inl<|z▸⟨p,to,hL⟩
  ·exact .inr (key b' l' λc' e'=>by rw[e]at e'; obtain rfl:=Sj e'; exact z)
end
section
variable {S:Snt}{n:Int}(I:In8 M fi S U X)(ht:t<M)(hp:(X t).place=some n)
include I ht hp
theorem off8{o o':Off}{ns:List Letter}(hd:∀L∈ns,L.from_=t/\L.pl=n/\dull L.c=true/\Gd M fi (ad S ns) L/\∃u:Nat,u<M/\L.to=u)(hac:∀c to,S ⟨t,to,n,.acc c⟩->Bl c.b o'.b\/(c.b=o'.b/\o'.val=some c.x))(O:OO M S t n o'):Nx8 M fi S (U++ns) (updX X t { X t with off:=some o' }):=by
 have P:=(I.hs t ht).p n hp;refine(I.add (ns:=ns) (x:={ X t with off:=some o' }) ht hp ⟨λL h=>⟨(hd L h).1,(hd L h).2.1⟩,λL h b e=>nomatch (show true=false from(hd L h).2.2.1.symm.trans (by rw[e];rfl))⟩ (λL h=>(hd L h).2.2.2.1) (λL h=>(hd L h).2.2.2.2) (λL h b y e=>nomatch (show true=false from(hd L h).2.2.1.symm.trans (by rw[e];rfl))) (λL h=>Mp h) ?_ hp rfl).nx
 have P':HP M fi S t n ({ X t with off:=some o' }:Hd).cr:=⟨P.ms,P.me,P.hi,P.bl,P.vt,P.ag,λc to h=>⟨o',rfl,hac c to h⟩,λo e=>Sj e▸O,P.ne⟩
 exact P'.dull λL h=>(hd L h).2.2.1
theorem off9{o o':Off}(eo:(X t).off=some o)(hb:o'.b=o.b)(hv:o'.val=o.val):∀c to,S ⟨t,to,n,.acc c⟩->Bl c.b o'.b\/(c.b=o'.b/\o'.val=some c.x):=λc to h=>by
 obtain⟨o1',e1',z⟩:=((I.hs t ht).p n hp).ac c to h;obtain rfl:=Sj<|eo.symm.trans e1';rw[hb,hv];exact z
theorem offS{o o':Off}(eo:(X t).off=some o)(hb:o'.b=o.b)(hv:o'.val=o.val)(O:OO M S t n o'):Nx8 M fi S U (updX X t { X t with off:=some o' }):=by
 have:=off8 (o:=o) (ns:=[]) I ht hp (λL h=>(nomatch h)) (off9 I ht hp eo hb hv) O;rw[append_nil]at this;exact this
theorem Ze6{o:Off}{x:Val}(eo:(X t).off=some o)(h:pp S n o.b x):o.val=some x:=by
 have P:=(I.hs t ht).p n hp;obtain⟨p,to,h⟩:=h;have e:o.b.2=p:=(I.is.gd _ h).1;have e':=(P.off o eo).b2;obtain rfl:=e.symm.trans e';obtain⟨o1',e1',z⟩:=P.ac _ to h;obtain rfl:=Sj<|eo.symm.trans e1';exact z.elim (λz=>absurd z Bl.irr) λz=>z.2
theorem prom8{b:Bal}{row:List Msg}{g:Option Acc}{fr:Int}(hL:S ⟨src,fr,n,.prom b row g⟩):N8 M fi S X t (promF t n (X t) U src b row g):=by
 have P:=(I.hs t ht).p n hp;unfold promF
 induction eo:(X t).off with
 |none=>exact I.id λø h=>h
 |some o=>
  have same:N8 M fi S X t ({ X t with off:=some o },U):=offS I ht hp eo rfl rfl<|P.off o eo;refine cd8 (λcb=>cd8 (λcv=>?_) λø=>same) λø=>same;obtain rfl:=Zhd cb;have ev:o.val=none:=Option.isNone_iff_eq_none.mp cv;have O:=P.off o eo
  have O':OO M S t n { o with prom:=prS o.prom src (row,g) }:=⟨O.b2,O.hs,λp hp=>(Zei hp).elim (λz=>z▸⟨fr,hL⟩)<|O.pr p,Zc0 O.pn,O.ag,O.an,O.vl⟩
  show N8 M fi S X t (prom2 t n (X t) U o.b { o with prom:=prS o.prom src (row,g) });generalize hoo:({ o with prom:=prS o.prom src (row,g) }:Off)=oo at O' ⊢;have eb:oo.b=o.b:=hoo▸rfl;have evv:oo.val=none:=hoo▸ev;refine cd8 (λen=>?_) λø=>offS I ht hp eo eb (evv.trans ev.symm) O';have sf:Saf fi S n oo.b (pfF (X t).ms oo)/\Fi M (pfF (X t).ms oo).hs/\(pfF (X t).ms oo).row.length<=100:=Ziq I.is P.ms O' en;rw[eb]at sf;show Nx8 M fi S (U++sendF t n (X t).ms (.acc ⟨o.b,pfF (X t).ms oo⟩)) (updX X t { X t with off:=some { oo with val:=some (pfF (X t).ms oo) } });generalize pfF (X t).ms oo=v at sf ⊢
  have nA:∀L∈sendF t n (X t).ms (.acc ⟨o.b,v⟩),L.from_=t/\L.pl=n/\L.c=.acc ⟨o.b,v⟩:=λL h=>by obtain⟨i,_,e⟩:=Zam h;rw[e];exact⟨rfl,rfl,rfl⟩
  have N:Nw S (sendF t n (X t).ms<|.acc ⟨o.b,v⟩) t n:=⟨λL h=>⟨(nA L h).1,(nA L h).2.1⟩,λL h b' e=>by rw[(nA L h).2.2]at e;injection e⟩
  have nv:∀{m a:Int}{b':Bal},vt (ad S<|sendF t n (X t).ms<|.acc ⟨o.b,v⟩) m a b'->vt S m a b':=λ⟨to,h⟩=>⟨to,h.elim _root_.id λh=>nomatch (nA _ h).2.2⟩
  have one:∀y,pp (ad S<|sendF t n (X t).ms<|.acc ⟨o.b,v⟩) n o.b y->y=v:=λy ⟨p,to,h⟩=>by
   rcases h with h |h
   ·have:=Ze6 I ht hp eo ⟨p,to,h⟩;rw[ev]at this;exact noS this
   ·have:=(nA _ h).2.2;cases this;rfl
  refine(I.add (ns:=sendF t n (X t).ms<|.acc ⟨o.b,v⟩) (x:={ X t with off:=some { oo with val:=some v } }) ht hp N (λL h=>?_) (λL h=>?_) (λL h b' y e=>?_) (λL h=>Mp h) ⟨P.ms.ad,P.me,P.hi,λb' h=>P.bl b' ?_,λb' h=>P.vt b'<|nv h,λc e=>⟨(P.ag c e).1.ad,(P.ag c e).2.ad⟩,λc to h=>⟨_,rfl,?_⟩,λo1' e=>?_,?_⟩ hp rfl).nx
  ·obtain⟨i,_,e⟩:=Zam h;rw[e];exact⟨O.b2,sf.1.ad N,sf.2⟩
  ·obtain⟨i,hi,e⟩:=Zam h;rw[e];exact Zfu (I.is.lfi P.ms) hi
  ·rw[(nA L h).2.2]at e;cases e;exact one
  ·exact h.imp (λ⟨to,r,g,h⟩=>⟨to,r,g,h.elim _root_.id λh=>nomatch (nA _ h).2.2⟩) nv
  ·show Bl c.b oo.b\/(c.b=oo.b/\some v=some c.x)
   rw[eb]
   rcases h with h |h
   ·obtain⟨o1',e1',z⟩:=P.ac c to h;obtain rfl:=Sj<|eo.symm.trans e1';rw[ev]at z
    exact z.imp _root_.id λz=>nomatch z.2
   ·have:=(nA _ h).2.2;(injection this with zz;obtain rfl:=zz);exact .inr ⟨rfl,rfl⟩
  ·obtain rfl:=Sj e;have O':OO M (ad S<|sendF t n (X t).ms<|.acc ⟨o.b,v⟩) t n oo:=O'.ad;exact⟨O'.b2,O'.hs,O'.pr,O'.pn,O'.ag,O'.an,λv e=>Sj e▸sf.2.1⟩
  ·exact P.ne.imp _root_.id λ⟨w,L,a,b,c,d⟩=>⟨w,L,a,b,.inl c,d⟩
end
section
variable {S:Snt}{n:Int}(I:In8 M fi S U X)(ht:t<M)
include I ht
theorem agr8{b:Bal}{fr:Int}(hp:(X t).place=some n)(hL:S ⟨src,fr,n,.agr b⟩):N8 M fi S X t (agrF t n (X t) U src b):=by
 have P:=(I.hs t ht).p n hp;unfold agrF
 induction eo:(X t).off with
 |none=>exact I.id λø h=>h
 |some o=>
  have same:N8 M fi S X t ({ X t with off:=some o },U):=offS I ht hp eo rfl rfl<|P.off o eo;refine cd8 (λcb=>cd8 (λø=>same) λcv=>?_) λø=>same;obtain rfl:=Zhd cb;have O:=P.off o eo
  have O':OO M S t n { o with agr:=agS o.agr src }:=⟨O.b2,O.hs,O.pr,O.pn,λa ha=>((Zh4 _).mp ha).elim (λz=>⟨fr,z.symm▸hL⟩)<|O.ag a,ZgZ _ O.an,O.vl⟩
  obtain⟨x,hx⟩:∃x,pp S n o.b x:=I.is.gd _ hL;have evx:=Ze6 I ht hp eo hx
  have ex:o.val.getD ⟨[],[]⟩=x:=by rw[evx];rfl
  rw[ex];generalize hoo:({ o with agr:=agS o.agr src }:Off)=oo at O' ⊢;have eb:oo.b=o.b:=hoo▸rfl;have evv:oo.val=o.val:=hoo▸rfl;refine cd8 (λen=>?_) λø=>offS I ht hp eo eb evv O';have f:Fi M (X t).ms:=I.is.lfi P.ms;have fx:Fi M x.hs:=hx.elim λp h=>h.elim λto h=>(I.is.gd _ h).2.2.1
  have am:∀a∈oo.agr,a∈(X t).ms:=λa ha=>by
   obtain⟨to,h⟩:=O'.ag a ha;obtain⟨l,h1,h2⟩:=I.is.fr _ h;obtain rfl:=I.is.eq h1 P.ms;exact h2
  have wm:∀a,a∈witF (X t).ms oo.agr↔a∈(X t).ms/\a∈oo.agr:=λa=>by
   unfold witF;rw[List.mem_filter,Zip];exact⟨λh=>⟨h.1,Od h.2⟩,λh=>⟨h.1,Dq h.2⟩⟩
  have sl:(witF (X t).ms oo.agr).Sublist (X t).ms:=List.filter_sublist;have en':n+1 - 1=n:=Int.add_sub_cancel n 1
  have dc:Dc M fi S ⟨n+1,x.hs,x.row,witF (X t).ms oo.agr⟩ (X t).ms o.b:=by
   refine⟨Int.le_add_of_nonneg_left<|I.is.nn P.ms,by show Ls fi S (n+1 - 1) _;rw[en'];exact P.ms,by show pp S (n+1 - 1) _ _;rw[en'];exact hx,⟨λa ha=>((wm a).mp ha).1,(f.up.sublist sl).imp Int.ne_of_lt,?_⟩,f.up.sublist sl,λa ha=>by show vt S (n+1 - 1) _ _;rw[en',← eb];exact O'.ag a ((wm a).mp ha).2,fx⟩;exact Gl (ZoD en)<|Nat.mul_le_mul_left 2<|Zd5 O'.an λa ha=>(wm a).mpr ⟨am a ha,ha⟩
  refine off8 (o:=o) I ht hp (λL h=>?_) (off9 I ht hp eo (o':={ oo with over:=true }) eb evv) ⟨O'.b2,O'.hs,O'.pr,O'.pn,O'.ag,O'.an,O'.vl⟩;obtain⟨i,hi,e⟩:=Zam h;rw[e];refine⟨rfl,rfl,rfl,⟨_,_,dc.ad⟩,?_⟩;exact(Mp<|ZcU.mp hi).elim (Zfu f) (Zfu fx)
theorem In8.set{x:Hd}(hx:HS M fi S t x.cr):Nx8 M fi S U (updX X t x):=by
 refine⟨S,λø z=>z,λø=>.inl,I.is,I.un,λu hu=>?_⟩;unfold updX
 by_cases c:u=t
 ·rw[if_pos c,c];exact hx
 ·rw[if_neg c];exact I.hs u hu
omit I ht
theorem into8{y:Cr}{w:News}{L:Letter}(no:∀L,S L->L.from_=t->L.pl≠w.no)(hL:S L)(hc:L.c=.ent w)(hm:(t:Int)∈w.hs)(e:y.place=some w.no)(e1:y.hi=w.no)(e2:y.ms=w.hs)(e3:y.agd=none)(e4:y.off=none)(e5:y.news=some w)(g:HG fi S t y):HS M fi S t y where
 g:=g
 o:=λz=>nomatch e.symm.trans z
 f:=λz=>nomatch e.symm.trans z
 p:=λm hm'=>by
  obtain rfl:=Sj<|e.symm.trans hm';exact⟨e2▸ .new L w hL hc rfl rfl,e2▸hm,e1,λb h=>h.elim (λ⟨_,_,_,z⟩=>absurd rfl<|no _ z rfl) λ⟨_,z⟩=>absurd rfl<|no _ z rfl,λb ⟨_,z⟩=>absurd rfl<|no _ z rfl,λc z=>by rw[e3]at z;(exact noS z),λc to z=>absurd rfl<|no _ z rfl,λo z=>by rw[e4]at z;(exact noS z),.inr ⟨w,L,e5,rfl,hL,hc⟩⟩
theorem gone8{x:Hd}{y:Cr}{l:List Int}{row:List Msg}(h:HS M fi S t x.cr)(hp:x.place=some n)(hl:Ls fi S (n+1) l)(hr:row.length<=100)(eg:y.gone=x.gone++[(n,x.ms,row)])(hi:n<=y.hi)(hn:∀m,y.place=some m->m=n+1)(hm:(t:Int)∈l->y.place=some (n+1)):HG fi S t y:=by
 have P:=h.p n hp;have G:=h.g
 have em:y.gone.map (·.1)=x.gone.map (·.1)++[n]:=by rw[eg,map_append];rfl
 have lt:∀g∈x.gone,g.1<n:=λg hg=>(G.gl g hg).2.2.2 n hp;refine⟨λL hL e=>.inr ?_,λg hg=>?_,λg hg=>?_,λg hg=>?_,?_⟩
 ·rw[em]
  rcases G.fr L hL e with z |z
  ·obtain rfl:=Sj<|(show some n=some L.pl from hp.symm.trans z);exact mem_append_right _<|.head _
  ·exact mem_append_left _ z
 ·rw[eg]at hg
  rcases Mp hg with z |z
  ·have q:=G.gl g z;exact⟨q.1,q.2.1,It (Int.le_of_lt<|lt g z) hi,λm e=>hn m e▸Int.lt_trans (lt g z) (Int.lt_succ n)⟩
  ·obtain rfl:=Mg z;exact⟨P.ms,P.me,hi,λm e=>hn m e▸Int.lt_succ n⟩
 ·rw[eg]at hg
  rcases Mp hg with z |z
  ·exact G.gr g z
  ·obtain rfl:=Mg z;exact hr
 ·rw[eg]at hg
  rcases Mp hg with z |z
  ·obtain⟨l',q,r⟩:=G.nx g z;refine⟨l',q,λm=>.inr ?_⟩;rw[em]
   rcases r m with z |z
   ·obtain rfl:=Sj<|(show some n=some (g.1+1) from hp.symm.trans z);exact mem_append_right _<|.head _
   ·exact mem_append_left _ z
  ·obtain rfl:=Mg z;exact⟨l,hl,λm=>.inl<|hm m⟩
 ·rw[em];refine List.pairwise_append.mpr ⟨G.up,pairwise_singleton ..,λa ha b hb=>?_⟩;obtain rfl:=Eq.symm<|Mg hb;obtain⟨g,hg,e⟩:=mem_map.mp ha;exact e▸lt g hg
include I ht
theorem ent8{w:News}{L:Letter}(hL:S L)(hc:L.c=.ent w):Nx8 M fi S U (updX X t<|entF t (X t) w):=by
 have h:=I.hs t ht;have G:=h.g;have hw:Ls fi S w.no w.hs:=.new L w hL hc rfl rfl
 have le:∀L,S L->L.from_=t->L.pl<=(X t).hi:=λL q e=>(G.fr L q e).elim (λz=>Int.le_of_eq (h.p _ z).hi.symm) λz=>by
  obtain⟨g,hg,e⟩:=mem_map.mp z;exact e▸(G.gl g hg).2.2.1
 unfold entF
 induction ep:(X t).place with
 |none=>
  induction c:memF w.hs t&&decide ((X t).hi<w.no) with
  |false=>exact I.id λø h=>h
  |true=>
   have c:=An c;have lt:(X t).hi<w.no:=Od c.2;refine I.set ht (into8 (λL q e z=>Int.not_lt.mpr (le L q e)<|z▸lt) hL hc (Od<|Zd3▸c.1) rfl rfl rfl rfl rfl rfl ⟨λL q e=>(G.fr L q e).elim (λz=>nomatch ep.symm.trans z) .inr,λg hg=>?_,G.gr,λg hg=>?_,G.up⟩)
   ·have q:=G.gl g hg;exact⟨q.1,q.2.1,Int.le_of_lt<|Int.lt_of_le_of_lt q.2.2.1 lt,λm e=>Sj e▸Int.lt_of_le_of_lt q.2.2.1 lt⟩
   ·obtain⟨l,q,r⟩:=G.nx g hg;exact⟨l,q,λm=>(r m).elim (λz=>nomatch ep.symm.trans z) .inr⟩
 |some pl=>
  show Nx8 M fi S U (updX X t<|cond (decide<|pl=w.no - 1) (onF t pl (X t) w)<|X t)
  by_cases c:pl=w.no - 1
  ·rw[Dq c];have P:=h.p pl ep
   have e1:pl+1=w.no:=by rw[c];exact Int.sub_add_cancel ..
   have ei:(X t).hi=pl:=P.hi;have hw':Ls fi S (pl+1) w.hs:=e1.symm▸hw
   have hr:w.row.length<=100:=by
    have g:=I.is.gd L hL;unfold Gd at g;rw[hc]at g;obtain⟨l,b,d⟩:=g;obtain⟨p,to,q⟩:=d.pp;exact(I.is.gd _ q).2.2.2
   show Nx8 M fi S U (updX X t<|onF t pl (X t) w);unfold onF
   induction cm:memF w.hs t with
   |true=>
    have hm:(t:Int)∈w.hs:=Od<|Zd3▸cm;refine I.set ht<|into8 (λL q e z=>?_) hL hc hm rfl rfl rfl rfl rfl rfl<|gone8 h ep hw' hr rfl ?_ (λm e=>?_) λø=>congrArg some e1.symm
    ·have:=le L q e;rw[ei,z,← e1]at this;exact Int.not_lt.mpr this<|Int.lt_succ pl
    ·show pl<=w.no;rw[← e1];exact Int.le_of_lt<|Int.lt_succ pl
    ·obtain rfl:=Sj e;exact e1.symm
   |false=>
    refine I.set ht ⟨λm e=>(nomatch e),gone8 h ep hw' hr rfl (Int.le_of_eq ei.symm) (λm e=>(nomatch e))<|λm=>?_,λø=>rfl,λø=>rfl⟩;rw[Zd3,Dq m]at cm;exact noF cm
  ·rw[Df c];exact I.id λø h=>h
end
theorem ZoH{X:Nat->Hd}{t:Nat}{x y:Hd}:updX (updX X t x) t y=updX X t y:=funext λu=>by
 show(if u=t then y else if u=t then x else X u)=if u=t then y else X u
 by_cases c:u=t
 ·rw[if_pos c,if_pos c]
 ·rw[if_neg c,if_neg c,if_neg c]
noncomputable def pln:Cont->Bool
 |.wish _=>true
 |.hold _ _=>true
 |.have_ _=>true
 |.take _=>true
 |.prep _=>true
 |_=>false
theorem Zoa{M:Nat}{fi:List Int}{S:Snt}{L:Letter}(h:pln L.c=true):dull L.c=true/\Gd M fi S L:=by
 obtain⟨fr,to,pl,c⟩:=L
 induction c <;> first |exact⟨rfl,trivial⟩ |exact noT h
theorem ZhW{k i:Int}{l:List Int}(h:i∈oth k l):i∈l:=(List.mem_filter.mp h).1
section
variable {S:Snt}{n:Int}(I:In8 M fi S U X)(ht:t<M)(hp:(X t).place=some n)
include I ht hp
theorem snd8{x:Hd}{ts:List Int}{c:Cont}(hx:x.cr=(X t).cr)(hc:pln c=true)(hts:∀i∈ts,∃u:Nat,u<M/\i=u):Nx8 M fi S (U++sendF t n ts c) (updX X t x):=
 (I.dul ht hp (ns:=sendF t n ts c) (λL h=>by
  obtain⟨i,hi,e⟩:=Zam h;rw[e];have:=Zoa (M:=M) (fi:=fi) (S:=S) (L:=⟨t,i,n,c⟩) hc
  exact⟨rfl,rfl,this.1,this.2,hts i hi⟩) (λL h=>Mp h) hx).nx
theorem same8{x:Hd}(hx:x.cr=(X t).cr):Nx8 M fi S U (updX X t x):=by
 have:=snd8 I ht hp (x:=x) (ts:=[]) (c:=.take 0) hx rfl λi h=>nomatch h
 exact append_nil U▸this
theorem oth8:∀i∈oth t (X t).ms,∃u:Nat,u<M/\i=u:=λi h=>Zfu (I.is.lfi ((I.hs t ht).p n hp).ms)<|ZhW h
theorem look8{x:Hd}(hx:x.cr=(X t).cr):N8 M fi S X t (lookF t n x U):=by
 have em:x.ms=(X t).ms:=congrArg Cr.ms hx;exact cd8 (λø=>snd8 I ht hp (x:={ x with took:=hbe t x.ms x.row.length x.holds }) hx rfl<|em▸oth8 I ht hp) λø=>same8 I ht hp hx
theorem hold8{m:Msg}{p:Int}(hs:∃u:Nat,u<M/\src=u):N8 M fi S X t (holdF t n (X t) U src m p):=by
 have h1:∀i∈[src],∃u:Nat,u<M/\i=u:=λi h=>Mg h▸hs;exact cd8 (λø=>same8 I ht hp rfl) λø=>cd8 (λø=>same8 I ht hp rfl) λø=>cd8 (λø=>snd8 I ht hp (x:={ X t with row:=(X t).row++[m] }) (ts:=[src]) (c:=.have_<|(X t).row.length+1) rfl rfl h1) λø=>snd8 I ht hp (x:=X t) (ts:=[src]) (c:=.have_ (X t).row.length) rfl rfl h1
end
section
variable {S:Snt}{n:Int}{L:Letter}(I:In8 M fi S U X)(ht:t<M)
include I ht
theorem prop8{l:List Int}(hp:(X t).place=some n)(fl:Fi M l):Nx8 M fi S (U++sendF t n (X t).ms (.prep (mostF (X t)+1,t))) (updX X t { X t with off:=some (offF t (X t) l) }):=by
 have P:=(I.hs t ht).p n hp;refine off8 (o:=offF t (X t) l) I ht hp (λL h=>?_) (λc to h=>.inl ?_) ⟨rfl,fl,λp h=>(nomatch h),.nil,λa h=>(nomatch h),.nil,λv e=>(nomatch e)⟩
 ·obtain⟨i,hi,e⟩:=Zam h;rw[e];exact⟨rfl,rfl,rfl,trivial,Zfu (I.is.lfi P.ms) hi⟩
 ·obtain⟨o,eo,z⟩:=P.ac c to h;have le:c.b.1<=o.b.1:=z.elim (λz=>z.elim Int.le_of_lt λz=>Int.le_of_eq z.1) λz=>Int.le_of_eq<|congrArg Prod.fst z.1;have eo:(X t).off=some o:=eo;refine .inl<|Int.lt_of_le_of_lt le ?_;show o.b.1<mostF (X t)+1;unfold mostF;rw[eo];show o.b.1<mx (X t).bal.1 o.b.1+1;unfold mx
  by_cases c:o.b.1 > (X t).bal.1
  ·rw[if_pos c];exact Int.lt_succ _
  ·rw[if_neg c];exact Int.lt_of_le_of_lt (Int.not_lt.mp c)<|Int.lt_succ _
theorem show8{u:Nat}{w:News}(hu:u<M)(hp:(X t).place=some n)(hw:(X t).news=some w):Nx8 M fi S (U++[⟨t,u,n,.ent w⟩]) X:=by
 have P:=(I.hs t ht).p n hp
 obtain⟨L,sL,cL⟩:∃L,S L/\L.c=.ent w:=by
  rcases P.ne with z |⟨w',L,e,_,q,r⟩
  ·exact nomatch hw.symm.trans z.2
  ·obtain rfl:=Sj<|hw.symm.trans e;exact⟨L,q,r⟩
 have g:=I.is.gd L sL;unfold Gd at g;rw[cL]at g;have:=(I.dul ht hp (ns:=[⟨t,u,n,.ent w⟩]) (x:=X t) (λL h=>by obtain rfl:=Mg h;exact⟨rfl,rfl,rfl,g,u,hu,rfl⟩) (λL h=>Zbl h) rfl).nx;rw[Zaf]at this;exact this
theorem fall8{x:Hd}(hx:x.cr=(X t).cr):In8 M fi S U (updX X t x):=by
 refine⟨I.is,I.un,λu hu=>?_⟩;unfold updX
 by_cases c:u=t
 ·rw[if_pos c,hx,c];exact I.hs t ht
 ·rw[if_neg c];exact I.hs u hu
end
noncomputable def isW:Cont->Nat
 |.wish _=>1
 |_=>0
def wc:List Letter->Nat
 | []=>0
 |L::r=>isW L.c+wc r
theorem Zda(a b:List Letter):wc (a++b)=wc a+wc b:=by
 induction a with
 |nil=>exact(zero_add _).symm
 |cons L r ih=>show isW L.c+wc (r++b)=isW L.c+wc r+wc b;rw[ih,add_assoc]
theorem Zb4{k pl:Int}{c:Cont}(h:isW c=0):∀ts:List Int,wc (sendF k pl ts c)=0:=by
 intro ts
 induction ts with
 |nil=>rfl
 |cons t r ih=>show isW c+wc (sendF k pl r c)=0;rw[h,ih]
noncomputable def ofz:Option Off->Nat
 |none=>0
 |some o=>o.prom.length+o.agr.length
def sz(x:Hd):Nat:=x.gone.length+x.holds.length+ofz x.off
structure G8(x:Hd)(U:List Letter)(w rb:Nat)(r:Hd×List Letter):Prop where
 w:wsum r.2<w+wsum U
 l:U.length<=r.2.length
 c:wc r.2=wc U
 s:sz r.1<=sz x+1
 ro:r.1.row.length<=rb
 h:∀L∈r.2,L∈U\/∀m p,L.c=.hold m p->p+1<=(r.1.row.length:Int)
section
variable {x:Hd}{w rb:Nat}{k:Int}
theorem G8.cd{b:Bool}{p q:Hd×List Letter}(h1:b=true->G8 x U w rb p)(h2:b=false->G8 x U w rb q):G8 x U w rb (cond b p q):=by
 induction b with
 |true=>exact h1 rfl
 |false=>exact h2 rfl
theorem G8.snd{y:Hd}{ts:List Int}{c:Cont}(hc:isW c=0)(hh:∀m p,c≠.hold m p)(hw:ts.length * wgt c<w)(hs:sz y<=sz x+1)(hr:y.row.length<=rb):G8 x U w rb (y,U++sendF k pl ts c) where
 w:=by show wsum (U++sendF k pl ts c)<_;rw[Zbq,Za1,Nat.add_comm];exact Nat.add_lt_add_right hw _
 l:=by rw[La];exact Ar ..
 c:=by show wc (U++sendF k pl ts c)=_;rw[Zda,Zb4 hc];rfl
 s:=hs
 ro:=hr
 h:=λL h=>(Mp h).imp id λh m p e=>by obtain⟨i,_,q⟩:=Zam h;rw[q]at e;exact absurd e<|hh m p
theorem G8.no{y:Hd}(hw:0<w)(hs:sz y<=sz x+1)(hr:y.row.length<=rb):G8 x U w rb (y,U) where
 w:=Nat.lt_add_of_pos_left hw
 l:=Zr _
 c:=rfl
 s:=hs
 ro:=hr
 h:=λL h=>.inl h
theorem ZkH{i v:Int}:∀l:List (Int×Int),(hoS l i v).length<=l.length+1:=by
 intro l
 induction l with
 |nil=>exact Zr _
 |cons p r ih=>
  show(cond (decide<|p.1=i) ((p.1,v)::r) (p::hoS r i v)).length<=_
  induction decide (p.1=i) with
  |true=>exact Us _
  |false=>exact Fs ih
theorem G8.wish{m:Msg}(h9:x.ms.length<=9):G8 x U 109 (x.row.length+1) (wishF k pl x U m):=by
 have o9:(oth k x.ms).length<=9:=Nt (Zbr k x.ms) h9;refine G8.cd (λø=>.no (by decide) (Us _)<|Us _) λø=>G8.cd (λø=>.no (by decide) (Us _)<|Us _) λø=>?_
 have e:∀y:Hd,y.row=x.row++[m]->(y.row.length:Int)=x.row.length+1:=λy q=>by rw[q,La];rfl
 have hh:∀y:Hd,y.row=x.row++[m]->∀L∈sendF k pl (oth k x.ms) (.hold m x.row.length),∀m' p,L.c=.hold m' p->p+1<=(y.row.length:Int):=λy q L h m' p e'=>by
  obtain⟨i,_,r⟩:=Zam h;rw[r]at e'
  cases e'
  rw[e y q];exact Int.le_refl _
 refine G8.cd (λø=>⟨?_,by rw[La,La,add_assoc];exact Ar ..,?_,Us _,by rw[La];exact Zr _,λL h=>?_⟩) λø=>⟨?_,by rw[La];exact Ar ..,?_,Us _,by rw[La];exact Zr _,λL h=>?_⟩
 ·show wsum (U++_++_)<_;rw[Zbq,Zbq,Za1,Za1];show wsum U+(oth k x.ms).length * 11+(oth k x.ms).length * 1<_;rw[add_assoc,← Nat.mul_add];exact lh6 o9 rfl
 ·show wc (U++_++_)=_;rw[Zda,Zda,Zb4 rfl,Zb4 rfl];rfl
 ·rcases Mp h with h |h
  ·exact(Mp h).imp id (hh { x with row:=x.row++[m],took:=hbe k x.ms (x.row++[m]).length x.holds } rfl L)
  ·exact .inr λm p e=>by obtain⟨i,_,q⟩:=Zam h;rw[q]at e;injection e
 ·show wsum (U++_)<_;rw[Zbq,Za1];show wsum U+(oth k x.ms).length * 11<_;exact lh6 o9 rfl
 ·show wc (U++_)=_;rw[Zda,Zb4 rfl];rfl
 ·exact(Mp h).imp id (hh { x with row:=x.row++[m] } rfl L)
theorem G8.hav{c:Int}(h9:x.ms.length<=9):G8 x U 10 x.row.length (lookF k pl { x with holds:=hoS x.holds src (mx c<|hoD x.holds src) } U):=by
 have o9:(oth k x.ms).length<=9:=Nt (Zbr k x.ms) h9
 have hs:sz { x with holds:=hoS x.holds src (mx c<|hoD x.holds src) }<=sz x+1:=by
  have:=ZkH (i:=src) (v:=mx c<|hoD x.holds src) x.holds;show x.gone.length+(hoS x.holds src _).length+ofz x.off<=x.gone.length+x.holds.length+ofz x.off+1;exact ln3 this
 exact G8.cd (λø=>.snd rfl (λø ø e=>nomatch e) (by show _ * 1<10;rw[Nat.mul_one];exact Nat.lt_succ_of_le o9) hs<|Zr _) λø=>.no (by decide) hs<|Zr _
theorem G8.hold{m:Msg}{p:Int}(hr:x.row.length<=rb)(hp:p+1<=(rb:Int)):G8 x U 11 rb (holdF k pl x U src m p):=by
 refine G8.cd (λø=>.no (by decide) (Us _) hr) λø=>G8.cd (λø=>.no (by decide) (Us _) hr) λø=>G8.cd (λc=>?_) λø=>.snd (ts:=[src]) (c:=.have_ x.row.length) rfl (λø ø e=>nomatch e) (Bq rfl) (Us _) hr;refine .snd (ts:=[src]) (c:=.have_<|x.row.length+1) rfl (λø ø e=>nomatch e) (Bq rfl) (Us _) ?_;have c:p=(x.row.length:Int):=Od c;rw[c]at hp;show(x.row++[m]).length<=rb;rw[La];exact Int.ofNat_le.mp hp
theorem G8.prom{b:Bal}{row:List Msg}{a:Option Acc}(h9:x.ms.length<=9):G8 x U 100 x.row.length (promF k pl x U src b row a):=by
 unfold promF
 induction eo:x.off with
 |none=>exact .no (by decide) (Us _)<|Zr _
 |some o=>
  have e:sz x=x.gone.length+x.holds.length+(o.prom.length+o.agr.length):=by unfold sz;rw[eo];rfl
  have s0:sz { x with off:=some o }<=sz x+1:=by rw[e];exact Us _
  have l:=Zlh (x:=src) (v:=(row,a)) o.prom
  have s1:x.gone.length+x.holds.length+((prS o.prom src (row,a)).length+o.agr.length)<=sz x+1:=by rw[e];exact ln4 l
  refine G8.cd (λø=>G8.cd (λø=>G8.cd (λø=>?_) λø=>.no (by decide) s1<|Zr _) λø=>.no (by decide) s0<|Zr _) λø=>.no (by decide) s0<|Zr _;refine .snd rfl (λø ø e=>nomatch e) ?_ s1<|Zr _;show x.ms.length * 11<100;exact Nat.lt_succ_of_le<|lh7 h9 rfl
theorem G8.agr{b:Bal}(hm:∀o,x.off=some o->(mkSet<|x.ms++(o.val.getD ⟨[],[]⟩).hs).length<=9):G8 x U 10 x.row.length (agrF k pl x U src b):=by
 unfold agrF
 induction eo:x.off with
 |none=>exact .no (by decide) (Us _)<|Zr _
 |some o=>
  have e:sz x=x.gone.length+x.holds.length+(o.prom.length+o.agr.length):=by unfold sz;rw[eo];rfl
  have s0:sz { x with off:=some o }<=sz x+1:=by rw[e];exact Us _
  have l:=ZkV (x:=src) o.agr
  have s1:x.gone.length+x.holds.length+(o.prom.length+(agS o.agr src).length)<=sz x+1:=by rw[e];exact Fl (Fl l _) _
  refine G8.cd (λø=>G8.cd (λø=>.no (by decide) s0<|Zr _) λø=>G8.cd (λø=>?_) λø=>.no (by decide) s1<|Zr _) λø=>.no (by decide) s0<|Zr _;refine .snd rfl (λø ø e=>nomatch e) ?_ s1<|Zr _;show _ * 1<10;rw[Nat.mul_one];exact Nat.lt_succ_of_le<|hm o eo
theorem G8.ent{wn:News}:G8 x U 1 x.row.length (entF k x wn,U):=by
 have s2:∀(y:Hd)(p:Option Int)(ms:List Int)(w:Option News),y.gone.length<=x.gone.length+1->sz (intoF y p ms w)<=sz x+1:=λy p ms w h=>by
  exact ln5 h
 have g1:∀pl,(goneF x pl wn.row).gone.length<=x.gone.length+1:=λpl=>by show(x.gone++[_]).length<=_;rw[La];exact Zr _
 have key:sz (entF k x wn)<=sz x+1/\(entF k x wn).row.length<=x.row.length:=by
  unfold entF
  induction x.place with
  |none=>
   show sz (cond (memF wn.hs k&&decide (x.hi<wn.no)) _ _)<=_/\(cond (memF wn.hs k&&decide (x.hi<wn.no)) _ _:Hd).row.length<=_
   induction memF wn.hs k&&decide (x.hi<wn.no) with
   |true=>exact⟨s2 _ _ _ _<|Us _,Zz _⟩
   |false=>exact⟨Us _,Zr _⟩
  |some pl=>
   show sz (cond (decide<|pl=wn.no - 1) (onF k pl x wn) x)<=_/\(cond (decide<|pl=wn.no - 1) (onF k pl x wn) x).row.length<=_
   induction decide (pl=wn.no - 1) with
   |true=>
    show sz (onF k pl x wn)<=_/\(onF k pl x wn).row.length<=_;unfold onF
    induction memF wn.hs k with
    |true=>exact⟨s2 _ _ _ _<|g1 pl,Zz _⟩
    |false=>exact⟨s2 _ _ _ _<|g1 pl,Zz _⟩
   |false=>exact⟨Us _,Zr _⟩
 exact .no (by decide) key.1 key.2
end
def rbF(n:Nat):Cont->Nat
 |.wish _=>n+1
 |.hold _ p=>max n (p+1).toNat
 |_=>n
theorem G8.step{x:Hd}{U:List Letter}{k pl src:Int}{c:Cont}(h9:x.ms.length<=9)(hm:∀o,x.off=some o->(mkSet<|x.ms++(o.val.getD ⟨[],[]⟩).hs).length<=9):G8 x U (wgt c) (rbF x.row.length c) (stepF k pl x U src c):=by
 induction c with
 |wish m=>exact .wish h9
 |hold m p=>exact .hold (Nat.le_max_left ..)<|It (Int.self_le_toNat _)<|Int.ofNat_le.mpr<|Nat.le_max_right ..
 |have_ c=>exact .hav h9
 |take c=>exact .no (Zcn _) (Us _)<|Zr _
 |prep b=>exact G8.cd (λø=>.snd (ts:=[src]) (c:=.prom b x.row x.agd) rfl (λø ø e=>nomatch e) (Bq rfl) (Us _)<|Zr _) λø=>.no (Zcn _) (Us _)<|Zr _
 |prom b row a=>exact .prom h9
 |acc a=>exact G8.cd (λø=>.snd (ts:=[src]) (c:=.agr a.b) rfl (λø ø e=>nomatch e) (Bq rfl) (Us _)<|Zr _) λø=>.no (Zcn _) (Us _)<|Zr _
 |agr b=>exact .agr hm
 |ent w=>exact .no (Zcn _) (Us _)<|Zr _
theorem Zpz{n:Nat}{c:Cont}:n<=rbF n c:=by
 induction c with
 |wish m=>exact Us _
 |hold m p=>exact Nat.le_max_left ..
 |_=>exact Zr _
theorem G8.come{x:Hd}{U:List Letter}{k:Int}{L:Letter}(h9:x.ms.length<=9)(hm:∀o,x.off=some o->(mkSet<|x.ms++(o.val.getD ⟨[],[]⟩).hs).length<=9):G8 x U (wgt L.c) (rbF x.row.length L.c) (comeF k x U L):=by
 have no:G8 x U (wgt L.c) (rbF x.row.length L.c) (x,U):=.no (Zcn _) (Us _) Zpz;refine G8.cd (λø=>?_) λø=>no
 induction q:newsOf L.c with
 |some w=>
  obtain⟨fr,to,pl,c⟩:=L
  induction c with
  |ent w'=>exact .ent
  |_=>exact noS q
 |none=>
  show G8 x U (wgt L.c) _ (hereF k x U L);unfold hereF
  induction x.place with
  |none=>exact no
  |some p=>exact G8.cd (λø=>.step h9 hm) λø=>no
def gs(X:Nat->Hd):Nat->Nat
 |0=>0
 |n+1=>gs X n+sz (X n)
theorem Zpy{X:Nat->Hd}{t:Nat}:∀{M:Nat},t<M->sz (X t)<=gs X M:=by
 intro M
 induction M with
 |zero=>exact λh=>absurd h<|not_lt_zero _
 |succ n ih=>
  intro h;show _<=gs X n+sz (X n)
  rcases Nat.lt_or_eq_of_le (le_of_lt_succ h) with z |z
  ·exact Nt (ih z)<|Ar ..
  ·exact z▸Aw ..
theorem ZmH{X:Nat->Hd}{t:Nat}{x:Hd}:∀{M:Nat},M<=t->gs (updX X t x) M=gs X M:=by
 intro M
 induction M with
 |zero=>exact λø=>rfl
 |succ n ih=>
  intro h;show gs (updX X t x) n+sz (updX X t x n)=gs X n+sz (X n);rw[ih (Nat.le_of_succ_le h)];unfold updX;rw[if_neg (Nx h)]
theorem ZjN{X:Nat->Hd}{t:Nat}{x:Hd}:∀{M:Nat},t<M->gs (updX X t x) M+sz (X t)=gs X M+sz x:=by
 intro M
 induction M with
 |zero=>exact λh=>absurd h<|not_lt_zero _
 |succ n ih=>
  intro h;show gs (updX X t x) n+sz (updX X t x n)+sz (X t)=gs X n+sz (X n)+sz x
  rcases Nat.lt_or_eq_of_le (le_of_lt_succ h) with z |z
  ·have e:updX X t x n=X n:=if_neg<|Nat.ne_of_gt z;rw[e,Nat.add_right_comm,ih z,Nat.add_right_comm]
  ·have e:updX X t x n=x:=if_pos z.symm;rw[e,ZmH<|Nz z.symm,z,Nat.add_right_comm]
structure Nm(M B k:Nat)(U:List Letter)(X:Nat->Hd):Prop where
 w:wsum U<=B
 s:gs X M+wsum U<=B
 r:∀t,t<M->(X t).row.length+wc U<=k
 h:∀L∈U,∀m p,L.c=.hold m p->p+1+wc U<=(k:Int)
theorem Nm.st{M B k:Nat}{U:List Letter}{X:Nat->Hd}(N:Nm M B k U X){t:Nat}(ht:t<M):sz (X t)+wsum U<=B:=Nt (Fr (Zpy ht) _) N.s
theorem Zde{L:Letter}:∀{U:List Letter}{p:Nat},U[p]?=some L->wsum U=wgt L.c+wsum (dropAt U p)/\wc U=isW L.c+wc (dropAt U p):=by
 intro U
 induction U with
 |nil=>exact λh=>nomatch h
 |cons A r ih=>
  intro p h
  induction p using Nat.casesOn with
  |zero=>obtain rfl:=Eq.symm<|Sj h;exact⟨rfl,rfl⟩
  |succ p=>
   have ih:=ih (p:=p) h
   constructor
   ·show wgt A.c+wsum r=wgt L.c+(wgt A.c+wsum (dropAt r p));rw[ih.1,Nat.add_left_comm]
   ·show isW A.c+wc r=isW L.c+(isW A.c+wc (dropAt r p));rw[ih.2,Nat.add_left_comm]
theorem ZcL{α:Type}{U:List α}{p:Nat}{a:α}(h:a∈dropAt U p):a∈U:=(Mp h).elim (λh=>List.mem_of_mem_take h) λh=>List.mem_of_mem_drop h
theorem Nm.come{M B k:Nat}{U:List Letter}{X:Nat->Hd}{t p:Nat}{L:Letter}(N:Nm M B k U X)(ht:t<M)(hp:U[p]?=some L)(h9:(X t).ms.length<=9)(hm:∀o,(X t).off=some o->(mkSet<|(X t).ms++(o.val.getD ⟨[],[]⟩).hs).length<=9):Nm M B k (comeF t (X t) (dropAt U p) L).2 (updX X t (comeF t (X t) (dropAt U p) L).1)/\wsum (comeF t (X t) (dropAt U p) L).2<wsum U/\(dropAt U p).length<=(comeF t (X t) (dropAt U p) L).2.length:=by
 have g:G8 (X t) (dropAt U p) (wgt L.c) (rbF (X t).row.length L.c) (comeF t (X t) (dropAt U p) L):=.come h9 hm;obtain⟨e1,e2⟩:=Zde hp;generalize comeF t (X t) (dropAt U p) L=r at g ⊢;obtain⟨gw,gl,gc,gs,gr,gh⟩:=g
 have lw:wsum r.2<wsum U:=by rw[e1];exact gw
 have hr:(r.1.row.length:Int)+wc r.2<=k:=by
  have q:=N.r t ht;rw[gc];obtain⟨fr,to,pl,c⟩:=L
  induction c with
  |wish m=>
   have e2:wc U=1+wc (dropAt U p):=e2;exact ln6 gr e2 q
  |hold m q'=>
   have h:=N.h _ (List.mem_of_getElem? hp) m q' rfl;have e2:wc U=0+wc (dropAt U p):=e2;exact ln8 (p:=q') gr e2 h q
  |_=>
   have e2:wc U=0+wc (dropAt U p):=e2;exact ln7 gr e2 q
 have lc:wc r.2<=wc U:=by rw[gc,e2];exact Aw ..
 refine⟨⟨Nt (Ny lw) N.w,?_,λu hu=>?_,λL' hL m' p' e=>?_⟩,lw,gl⟩
 ·exact ln9 (ZjN (X:=X) (x:=r.1) ht) gs lw N.s
 ·unfold updX
  by_cases c:u=t
  ·rw[if_pos c];exact ld3 hr
  ·rw[if_neg c];have:=N.r u hu;exact la9 this lc
 ·rcases gh L' hL with z |z
  ·exact It (Int.add_le_add_left (ld2 lc) _)<|N.h L' (ZcL z) m' p' e
  ·exact It (Int.add_le_add_right (z m' p' e) _) hr
theorem Zlt{M:Nat}{l:List Int}(h:∀i∈l,0<=i/\i<(M:Int)):(mkSet l).length<=M:=by
 have nd:(mkSet l).Nodup:=(ZfT l).imp λq=>Int.ne_of_lt q
 have:=nd.length_le_of_subset (l₂:=(List.range M).map Int.ofNat) λi hi=>by
  have q:=h i<|ZcU.mp hi;exact mem_map.mpr ⟨i.toNat,List.mem_range.mpr<|la6 q,(la5 q).symm⟩
 rw[Lm,length_range]at this;exact this
section
variable {B:Nat}{S:Snt}{L:Letter}(I:In8 M fi S U X)(ht:t<M)(h6:M<=6)
include I ht h6
theorem ms6:(X t).ms.length<=6:=by
 induction e:(X t).place with
 |none=>have:(X t).ms=[]:=(I.hs t ht).o e;rw[this];exact Zz _
 |some n=>exact Nt (I.is.lfi ((I.hs t ht).p n e).ms).len h6
theorem set6{n:Int}{l:List Int}(hp:(X t).place=some n)(hl:∀i∈l,0<=i/\i<(M:Int)):(mkSet<|(X t).ms++l).length<=6:=by
 have f:=I.is.lfi ((I.hs t ht).p n hp).ms;exact Nt (Zlt λi hi=>(Mp hi).elim (f.lt i)<|hl i) h6
theorem hm8{n:Int}(hp:(X t).place=some n):∀o,(X t).off=some o->(mkSet<|(X t).ms++(o.val.getD ⟨[],[]⟩).hs).length<=9:=λo eo=>by
 have O:=((I.hs t ht).p n hp).off o eo;refine Nt (set6 I ht h6 hp λi hi=>?_)<|by decide
 induction e:o.val with
 |none=>rw[e]at hi;exact nomatch hi
 |some v=>rw[e]at hi;exact(O.vl v e).lt i hi
theorem okA8(N:Nm M B k U X)(hB:B+100<=SZ)(hk:k<=100){U':List Letter}(hU:wsum U'<=B):OkA U' t (X t) where
 hz:=Nt (ms6 I ht h6)<|by decide
 hn:=λpl e=>ZfQ<|I.is.lfi ((I.hs t ht).p pl e).ms
 hU:=Nt (Fr (Nt (Zgc U') hU) 100) hB
 hr:=Nl (la8<|N.r t ht)<|Nl hk<|Bq rfl
 hh:=lo3 (lo2<|N.st ht).2.1 hB
 hg:=lo3 (lo2<|N.st ht).1 hB
 ho:=λo e=>by
  have h:ofz (X t).off<=B:=(lo2<|N.st ht).2.2;rw[e]at h;exact⟨lo3 (la8 h) hB,lo3 (Nt (Aw ..) h) hB⟩
omit h6
theorem okC8(h6:M<=6)(hu:∀l m,Fi M l->Fi M m->uniK l m=true)(hL:S L)(hto:L.to=t)(hp:newsOf L.c=none->(X t).place=some L.pl):OkC (X t) L.from_ L.c:=by
 obtain⟨src,to,n,c⟩:=L;have hto:to=t:=hto;subst hto
 induction c with
 |prom b row a=>
  intro o eo eb ev en;have hp:=hp rfl;have P:=(I.hs t ht).p n hp;have O:=P.off o eo;obtain rfl:=Zhd eb
  have O':OO M S t n { o with prom:=prS o.prom src (row,a) }:=⟨O.b2,O.hs,λp hp=>(Zei hp).elim (λz=>z▸⟨t,hL⟩)<|O.pr p,Zc0 O.pn,O.ag,O.an,O.vl⟩
  obtain⟨l,h1,h2⟩:=I.is.fr _ hL;obtain rfl:=I.is.eq h1 P.ms;refine⟨Nt (ms6 I ht h6)<|by decide,λø=>Zmh (Zlx o.prom) _ none [] h2,Nt O.hs.len<|Nt h6<|Bq rfl,?_⟩;exact Nt (Ziq I.is P.ms O' en).2.2<|Bq rfl
 |agr b=>
  intro o eo eb ev en;have hp:=hp rfl;have P:=(I.hs t ht).p n hp;obtain rfl:=Zhd eb;obtain⟨x,hx⟩:∃x,pp S n o.b x:=I.is.gd _ hL;have f:=I.is.lfi P.ms;obtain⟨fx,rx⟩:Fi M x.hs/\x.row.length<=100:=hx.elim λp h=>h.elim λto h=>(I.is.gd _ h).2.2;have l1:=Nt f.len h6;have l2:=Nt fx.len h6;exact⟨x,Ze6 I ht hp eo hx,⟨Nl l1 (by decide),Nl l2 (by decide),hu _ _ f fx,Nt (set6 I ht h6 hp fx.lt) (by decide),Nt rx (Bq rfl)⟩⟩
 |ent w=>
  obtain⟨l,b,d⟩:=I.is.gd _ hL;obtain⟨p,to,h⟩:=d.pp;have g:=(I.is.gd _ h).2.2;exact⟨Nt d.hs.len<|Nt h6<|Bq rfl,Nt g.2<|Bq rfl⟩
 |_=>trivial
end
theorem ZeU{k pl:Int}{ts:List Int}{L:Letter}:∀{r:List Msg}{i:Nat},L∈pressL k pl ts r i->∃m j t,t∈ts/\L=⟨k,t,pl,.hold m (j:Nat)⟩/\j<i+r.length:=by
 intro r
 induction r with
 |nil=>exact λh=>nomatch h
 |cons m r ih=>
  intro i h
  rcases Mp h with h |h
  ·obtain⟨t,ht,e⟩:=Zam h;exact⟨m,i,t,ht,e,by rw[Lc];exact la1<|Zr _⟩
  ·obtain⟨m',j,t,ht,e,l⟩:=ih h;exact⟨m',j,t,ht,e,by rw[Lc];exact Gl l<|la2<|Zr _⟩
theorem ZfC{k pl:Int}{ts:List Int}:∀{r:List Msg}{i:Nat},wsum (pressL k pl ts r i)=r.length * (ts.length * 11)/\wc (pressL k pl ts r i)=0:=by
 intro r
 induction r with
 |nil=>exact⟨(Nat.zero_mul _).symm,rfl⟩
 |cons m r ih=>
  intro i
  constructor
  ·show wsum (sendF k pl ts (.hold m i)++pressL k pl ts r (i+1))=_;rw[Zbq,Za1,ih.1,Lc,Nat.add_mul,Nat.one_mul,Nat.add_comm];rfl
  ·show wc (sendF k pl ts (.hold m i)++pressL k pl ts r (i+1))=_;rw[Zda,Zb4 rfl,ih.2]
section
variable {B:Nat}{S:Snt}{ns:List Letter}{n:Int}{x:Hd}
theorem Nm.add(N:Nm M B k U X)(ht:t<M)(hw:wsum ns<=9000)(hc:wc ns<=1)(hs:sz x<=sz (X t))(hr:x.row.length<=(X t).row.length)(hh:∀L∈ns,∀m p,L.c=.hold m p->p+1+wc U<=(k:Int)):Nm M (B+9000) (k+1) (U++ns) (updX X t x):=by
 have ew:=Zbq U ns;have ec:=Zda U ns;refine⟨by have:=N.w;exact lc3 ew<|Nat.add_le_add this hw,?_,λu hu=>?_,λL hL m q e=>?_⟩
 ·exact lo1 (ZjN (X:=X) (x:=x) ht) hs (ew▸Fl hw _) N.s
 ·unfold updX
  by_cases c:u=t
  ·rw[if_pos c];exact lo5 hr ec hc<|N.r t ht
  ·rw[if_neg c];exact lo5 (Zr _) ec hc<|N.r u hu
 ·rcases Mp hL with z |z
  ·exact lo6 ec hc<|N.h L z m q e
  ·exact lo6 ec hc<|hh L z m q e
theorem Nm.less(N:Nm M B k U X){U':List Letter}(hw:wsum U'<=wsum U)(hc:wc U'<=wc U)(hu:∀L∈U',L∈U):Nm M B k U' X:=
 ⟨Nt hw N.w,Nt (Fl hw _) N.s,λt ht=>Nt (Fl hc _)<|N.r t ht,λL hL m p e=>It (Int.add_le_add_left (Int.ofNat_le.mpr hc) _)<|N.h L (hu L hL) m p e⟩
theorem Nm.mono(N:Nm M B k U X){B' k':Nat}(hB:B<=B')(hk:k<=k'):Nm M B' k' U X:=
 ⟨Nt N.w hB,Nt N.s hB,λt ht=>Nt (N.r t ht) hk,λL hL m p e=>It (N.h L hL m p e)<|Int.ofNat_le.mpr hk⟩
theorem Nm.lose(N:Nm M B k U X){L:Letter}(h:U[p]?=some L):Nm M B k (dropAt U p) X:=by
 obtain⟨e1,e2⟩:=Zde h;exact N.less (by rw[e1];exact Aw ..) (by rw[e2];exact Aw ..) λø=>ZcL
theorem In8.less(I:In8 M fi S U X){U':List Letter}(hu:∀L∈U',L∈U):In8 M fi S U' X:=⟨I.is,λL h=>I.un L<|hu L h,I.hs⟩
variable (I:In8 M fi S U X)(ht:t<M)
include I ht
theorem say8{f:Int}{fs:List Int}{w:Str}(hp:(X t).place=some n)(hf:(X t).ms=f::fs):Nx8 M fi S (U++[⟨t,f,n,.wish ⟨t,(X t).said,w⟩⟩]) (updX X t { X t with said:=(X t).said+1 }):=
 snd8 I ht hp (x:={ X t with said:=(X t).said+1 }) (ts:=[f]) (c:=.wish ⟨t,(X t).said,w⟩) rfl rfl λi h=>by
  obtain rfl:=Eq.symm<|Mg h;exact Zfu (I.is.lfi ((I.hs t ht).p n hp).ms)<|show f∈(X t).ms from hf▸ .head _
theorem press8(hp:(X t).place=some n):Nx8 M fi S (U++(pressL t n (oth t (X t).ms) (X t).row 0++sendF t n (oth t (X t).ms) (.take (X t).took))) X:=by
 have:=(I.dul ht hp (ns:=pressL t n (oth t (X t).ms) (X t).row 0++sendF t n (oth t (X t).ms) (.take (X t).took)) (x:=X t) (λL h=>by
  rcases Mp h with h |h
  ·obtain⟨m,j,i,hi,e,_⟩:=ZeU h;rw[e];exact⟨rfl,rfl,rfl,trivial,oth8 I ht hp i hi⟩
  ·obtain⟨i,hi,e⟩:=Zam h;rw[e]
   exact⟨rfl,rfl,rfl,trivial,oth8 I ht hp i hi⟩) (λL h=>Mp h) rfl).nx
 rw[Zaf]at this;exact this
end
structure Gh where
 S:Snt
 R:Int->List Msg
 Sd:Nat->List (Int×Str)
 Go:Nat->List Gn
def been(x:Hd)(n:Int):Prop:=x.place=some n\/n∈x.gone.map (·.1)
structure HV(G:Gh)(X:Nat->Hd)(n c:Int)(a:Int):Prop where
 bn:been (X a.toNat) n
 rw:(X a.toNat).place=some n->c<=(X a.toNat).row.length
 pr:∀to b r g,G.S ⟨a,to,n,.prom b r g⟩->c<=r.length
 rl:c<=(G.R n).length
inductive TK(fi:List Int)(G:Gh)(X:Nat->Hd)(n c:Int):Prop
 |z (h:c<=0)
 |mk (l q:List Int) (hl:Ls fi G.S n l) (hq:Mj l q) (h:∀a∈q,HV G X n c a)
inductive Pm(fi:List Int)(S:Snt)(n:Int)(k:Nat):Prop
 |mk (l q:List Int) (hl:Ls fi S n l) (hq:Mj l q) (h:∀a∈q,∃to b r g,S ⟨a,to,n,.prom b r g⟩/\r.length<=k)
inductive Sai(M:Nat)(Sd:Nat->List (Int×Str))(n:Int)(m:Msg):Prop
 |mk (t k:Nat) (ht:t<M) (h1:m.h=t) (h2:m.n=k) (h:(Sd t)[k]?=some (n,m.w))
inductive DD(fi:List Int)(S:Snt)(n:Int)(row:List Msg):Prop
 |mk (l q:List Int) (b:Bal) (hs:List Int) (hl:Ls fi S n l) (hq:Mj l q) (hp:pp S n b ⟨hs,row⟩) (h:∀a∈q,vt S n a b)
def Fst(fi:List Int)(S:Snt)(n f:Int):Prop:=∃fs,Ls fi S n (f::fs)
def G9(M:Nat)(fi:List Int)(G:Gh)(X:Nat->Hd)(L:Letter):Prop:=match L.c with
 |.wish m=>Fst fi G.S L.pl L.to/\Sai M G.Sd L.pl m
 |.hold m p=>Fst fi G.S L.pl L.from_/\∃j:Nat,p=j/\(G.R L.pl)[j]?=some m
 |.have_ c=>Fst fi G.S L.pl L.to/\HV G X L.pl c L.from_
 |.take c=>TK fi G X L.pl c
 |.prom _ r _=>r <+:G.R L.pl
 |.acc a=>a.x.row <+:G.R L.pl/\Pm fi G.S L.pl a.x.row.length
 |_=>True
structure H9(fi:List Int)(G:Gh)(X:Nat->Hd)(t:Nat)(n:Int):Prop where
 row:(X t).row <+:G.R n
 hd:∀fs,(X t).ms=(t:Int)::fs->(X t).row=G.R n
 tk:TK fi G X n (X t).took
 t0:0<=(X t).took
 tl:(X t).took<=(X t).row.length
 ho:∀p∈(X t).holds,p.2<=0\/HV G X n p.2 p.1
 pr:∀to b r g,G.S ⟨t,to,n,.prom b r g⟩->(X t).row.length<=r.length
structure In9(M:Nat)(fi:List Int)(G:Gh)(X:Nat->Hd):Prop where
 gd:∀L,G.S L->G9 M fi G X L
 hs:∀t,t<M->∀n,(X t).place=some n->H9 fi G X t n
 rs:∀n,∀m∈G.R n,Sai M G.Sd n m
 rn:∀n,(G.R n).Nodup
 rb:∀n,G.R n=[]\/∃f:Int,Fst fi G.S n f/\been (X f.toNat) n
 go:∀t,t<M->(X t).gone=G.Go t
 dd:∀t,t<M->∀g∈G.Go t,DD fi G.S g.1 g.2.2
 sd:∀t,t<M->(X t).said=(G.Sd t).length
structure Ev(G G':Gh)(X X':Nat->Hd):Prop where
 sub:∀L,G.S L->G'.S L
 rp:∀n,G.R n <+:G'.R n
 sp:∀t,G.Sd t <+:G'.Sd t
 bn:∀t n,been (X t) n->been (X' t) n
 rw:∀t n,been (X t) n->(X' t).place=some n->(X t).place=some n/\(X t).row.length<=(X' t).row.length
 np:∀a to n b r g,G'.S ⟨a,to,n,.prom b r g⟩->G.S ⟨a,to,n,.prom b r g⟩\/((X a.toNat).place=some n/\(X a.toNat).row.length<=r.length)
theorem Ls.sub{fi:List Int}{S S':Snt}{n:Int}{l:List Int}(s:∀L,S L->S' L)(h:Ls fi S n l):Ls fi S' n l:=by
 induction h with
 |first h e=>exact .first h e
 |new L w hL hc hn e=>exact .new L w (s L hL) hc hn e
theorem Zfc{α:Type}{a b:List α}{k:Nat}{x:α}(h:a <+:b)(e:a[k]?=some x):b[k]?=some x:=by
 obtain⟨r,rfl⟩:=h;have lt:=(List.getElem?_eq_some_iff.mp e).1;rw[List.getElem?_append_left lt];exact e
section
variable {G G':Gh}{n c:Int}(E:Ev G G' X X')
include E
theorem HV.ev{a:Int}(h:HV G X n c a):HV G' X' n c a where
 bn:=E.bn _ _ h.bn
 rw:=λe=>(E.rw _ _ h.bn e).elim λp q=>It (h.rw p)<|ld2 q
 pr:=λto b r g q=>(E.np _ _ _ _ _ _ q).elim (h.pr to b r g) λz=>It (h.rw z.1)<|ld2 z.2
 rl:=It h.rl<|ld2 (E.rp n).length_le
theorem TK.ev(h:TK fi G X n c):TK fi G' X' n c:=by
 induction h with
 |z h=>exact .z h
 |mk l q hl hq h=>exact .mk l q (hl.sub E.sub) hq λa ha=>(h a ha).ev E
theorem Pm.ev{k:Nat}(h:Pm fi G.S n k):Pm fi G'.S n k:=by
 obtain⟨l,q,hl,hq,h⟩:=h;exact⟨l,q,hl.sub E.sub,hq,λa ha=>(h a ha).elim λto h=>h.elim λb h=>h.elim λr h=>h.elim λg h=>⟨to,b,r,g,E.sub _ h.1,h.2⟩⟩
theorem Sai.ev{m:Msg}(h:Sai M G.Sd n m):Sai M G'.Sd n m:=by
 obtain⟨t,k,ht,h1,h2,h⟩:=h;exact⟨t,k,ht,h1,h2,Zfc (E.sp t) h⟩
theorem DD.ev{row:List Msg}(h:DD fi G.S n row):DD fi G'.S n row:=by
 obtain⟨l,q,b,hs,hl,hq,⟨p,to,hp⟩,h⟩:=h;exact⟨l,q,b,hs,hl.sub E.sub,hq,⟨p,to,E.sub _ hp⟩,λa ha=>(h a ha).elim λto h=>⟨to,E.sub _ h⟩⟩
theorem Fst.ev{f:Int}(h:Fst fi G.S n f):Fst fi G'.S n f:=h.elim λfs h=>⟨fs,h.sub E.sub⟩
theorem G9.ev{L:Letter}(h:G9 M fi G X L):G9 M fi G' X' L:=by
 obtain⟨fr,to,pl,c⟩:=L
 induction c with
 |wish m=>exact⟨Fst.ev E h.1,h.2.ev E⟩
 |hold m p=>exact⟨Fst.ev E h.1,h.2.elim λj q=>⟨j,q.1,Zfc (E.rp pl) q.2⟩⟩
 |have_ c=>exact⟨Fst.ev E h.1,h.2.ev E⟩
 |take c=>exact TK.ev E h
 |prom b r g=>exact List.IsPrefix.trans h<|E.rp pl
 |acc a=>exact⟨h.1.trans<|E.rp pl,h.2.ev E⟩
 |_=>trivial
end
theorem HV.mono{G:Gh}{X:Nat->Hd}{n c c' a:Int}(h:HV G X n c a)(l:c'<=c):HV G X n c' a:=⟨h.bn,λe=>It l<|h.rw e,λto b r g q=>It l<|h.pr to b r g q,It l h.rl⟩
theorem TK.mono{fi:List Int}{G:Gh}{X:Nat->Hd}{n c c':Int}(h:TK fi G X n c)(l:c'<=c):TK fi G X n c':=by
 induction h with
 |z h=>exact .z<|It l h
 |mk a q hl hq h=>exact .mk a q hl hq λa ha=>(h a ha).mono l
theorem Mj.some{l q:List Int}(h:Mj l q):∃a,a∈q:=by
 induction q using List.casesOn with
 |nil=>exact absurd h.en<|not_lt_zero _
 |cons a r=>exact⟨a,.head _⟩
theorem TK.le{fi:List Int}{G:Gh}{X:Nat->Hd}{n c:Int}(h:TK fi G X n c):c<=(G.R n).length:=by
 induction h with
 |z h=>exact It h<|ld2<|Zz _
 |mk l q hl hq h=>obtain⟨a,ha⟩:=hq.some;exact(h a ha).rl
theorem TK.pm{M:Nat}{fi:List Int}{G:Gh}{X:Nat->Hd}{n c:Int}{k:Nat}(I:IS M fi G.S)(h:TK fi G X n c)(p:Pm fi G.S n k):c<=k:=by
 induction h with
 |z h=>exact It h<|ld2<|Zz _
 |mk l q hl hq h=>
  obtain⟨l',q',hl',hq',h'⟩:=p;obtain rfl:=I.eq hl hl';obtain⟨a,a1,a2⟩:=hq.meet hq';obtain⟨to,b,r,g,hs,hr⟩:=h' a a2;exact It ((h a a1).pr to b r g hs)<|ld2 hr
theorem DD.eq{M:Nat}{fi:List Int}{S:Snt}{n:Int}{r r':List Msg}(I:IS M fi S)(h:DD fi S n r)(h':DD fi S n r'):r=r':=by
 obtain⟨l,q,b,hs,hl,hq,hp,h⟩:=h;obtain⟨l',q',b',hs',hl',hq',hp',h'⟩:=h';obtain rfl:=I.eq hl hl';have:=I.one hq hq' (λl₁ z=>I.eq z hl) hp hp' h h';exact congrArg Val.row this
theorem In9.dr{M:Nat}{fi:List Int}{G:Gh}{X:Nat->Hd}(J:In9 M fi G X){n:Int}{row:List Msg}(h:DD fi G.S n row):row <+:G.R n/\Pm fi G.S n row.length:=by
 obtain⟨l,q,b,hs,hl,hq,⟨p,to,hp⟩,h⟩:=h;exact J.gd _ hp
theorem ZkT(t:Int):∀(s:List Int),s.Pairwise (·≥·)->∀(e:Nat)(v:Int),s[e]?=some v->t<=v->e<s.countP λx=>decide (t<=x):=by
 intro s
 induction s with
 |nil=>exact λø e v h=>noS h
 |cons a r ih=>
  intro hp e v h l;have hp:=pairwise_cons.mp hp
  have la:t<=a:=by
   induction e using Nat.casesOn with
   |zero=>exact Sj h▸l
   |succ e=>exact It l<|hp.1 v<|List.mem_of_getElem? h
  rw[List.countP_cons_of_pos (p:=λx=>decide<|t<=x)<|Dq la]
  induction e using Nat.casesOn with
  |zero=>exact Nat.succ_pos _
  |succ e=>exact Nat.succ_lt_succ<|ih hp.2 e v h l
theorem Zkf{k i:Int}{l:List Int}(h:i∈oth k l):i≠k:=λz=>by
 have:=(List.mem_filter.mp h).2;rw[Dq z]at this;exact noT this
theorem ZhP{i v:Int}:∀{l:List (Int×Int)},hoD l i=v->v<=0\/(i,v)∈l:=by
 intro l
 induction l with
 |nil=>exact λh=>.inl<|Int.le_of_eq h.symm
 |cons p r ih=>
  intro h;have h:cond (decide (p.1=i)) p.2 (hoD r i)=v:=h
  induction c:decide (p.1=i) with
  |true=>rw[c]at h;obtain rfl:=h;obtain rfl:=Od c;exact .inr<|.head _
  |false=>rw[c]at h;exact(ih h).imp id λz=>.tail _ z
theorem Zmv{i v:Int}{p:Int×Int}:∀{l:List (Int×Int)},p∈hoS l i v->p=(i,v)\/p∈l:=by
 intro l
 induction l with
 |nil=>exact λh=>.inl<|Mg h
 |cons q r ih=>
  intro h;have h:p∈cond (decide (q.1=i)) ((q.1,v)::r) (q::hoS r i v):=h
  induction c:decide (q.1=i) with
  |true=>
   rw[c]at h;exact(Mc h).imp (λz=>z.trans (congrArg (·,v)<|Od c)) λz=>.tail _ z
  |false=>
   rw[c]at h;exact(Mc h).elim (λz=>.inr<|z▸ .head _) λz=>(ih z).imp id λz=>.tail _ z
theorem Zlo{n q:Nat}(h:n / 2<q):n<2 * q:=Gl (Nat.lt_mul_div_succ n<|by decide)<|Nat.mul_le_mul_left 2 h
theorem Zpb{M:Nat}{k:Int}{ms:List Int}{len:Nat}{ho:List (Int×Int)}(f:Fi M ms)(hk:k∈ms):∃q,Mj ms q/\∀a∈q,(a=k/\hbe k ms len ho<=len)\/hbe k ms len ho<=hoD ho a:=by
 have hn:=ZfQ (k:=k) f
 have hl:ms.length / 2<(srt<|cnts k ms len ho).reverse.length:=by
  rw[List.length_reverse,Zfg];show _<((oth k ms).map<|hoD ho).length+1;rw[Lm];exact hn
 have ct:=ZkT (hbe k ms len ho) (srt<|cnts k ms len ho).reverse (List.pairwise_reverse.mpr<|ZdM _) (ms.length / 2) (hbe k ms len ho) (by unfold hbe;rw[Lg hl];rfl)<|Int.le_refl _;rw[((List.reverse_perm _).trans<|ZfA _).countP_eq]at ct;generalize hbe k ms len ho=c at ct ⊢
 have e:cnts k ms len ho=(k::oth k ms).map λa=>if a=k then (len:Int) else hoD ho a:=by
  show _::_=(if k=k then (len:Int) else hoD ho k)::(oth k ms).map _;rw[if_pos rfl];exact congrArg _<|List.map_congr_left λa ha=>(if_neg<|Zkf ha).symm
 rw[e,List.countP_map,List.countP_eq_length_filter]at ct;refine⟨(k::oth k ms).filter<|(λx=>decide<|c<=x) ∘ λa=>if a=k then (len:Int) else hoD ho a,⟨λa ha=>?_,?_,Zlo ct⟩,λa ha=>?_⟩
 ·exact(Mc (List.mem_filter.mp ha).1).elim (λz=>z▸hk) ZhW
 ·exact List.Nodup.sublist List.filter_sublist<|nodup_cons.mpr ⟨λz=>Zkf z rfl,f.nd.sublist List.filter_sublist⟩
 ·have h:decide (c<=if a=k then (len:Int) else hoD ho a)=true:=(List.mem_filter.mp ha).2;have h:=Od h
  by_cases z:a=k
  ·rw[if_pos z]at h;exact .inl ⟨z,h⟩
  ·rw[if_neg z]at h;exact .inr h
theorem Zpe{pr:List (Int×PR)}{h:Int}{p:PR}(e:prG pr h=some p):∀(ms:List Int)(b:Option Acc)(rows:List (List Msg)),(h∈ms\/p.1∈rows)->p.1∈(pfGo pr ms b rows).2:=by
 intro ms
 induction ms with
 |nil=>exact λb rows q=>q.elim (λz=>nomatch z) id
 |cons i ms ih=>
  intro b rows q;unfold pfGo
  induction e':prG pr i with
  |none=>exact ih b rows<|q.imp (λz=>(Mc z).elim (λz=>by rw[← z,e]at e'; exact noZ e') id) id
  |some w=>
   refine ih _ _ ?_
   rcases q with q |q
   ·rcases Mc q with z |z
    ·rw[← z,e]at e'; obtain rfl:=Sj e'; exact .inr<|mem_append_right _<|.head _
    ·exact .inl z
   ·exact .inr<|mem_append_left _ q
theorem ZnQ:∀{rs:List (List Msg)}{m r:List Msg},(r∈rs\/r.length<=m.length)->r.length<=(lng rs m).length:=by
 intro rs
 induction rs with
 |nil=>exact λh=>h.elim (λz=>nomatch z) id
 |cons a rs ih=>
  intro m r h;refine ih (m:=cond (decide ((m.length:Int)<a.length)) a m) ?_
  have le:m.length<=(cond (decide<|(m.length:Int)<a.length) a m).length/\a.length<=(cond (decide<|(m.length:Int)<a.length) a m).length:=by
   by_cases c:(m.length:Int)<a.length
   ·rw[Dq c];exact⟨Ny<|lc9 c,Zr _⟩
   ·rw[Df c];exact⟨Zr _,ld3<|Int.not_lt.mp c⟩
  rcases h with h |h
  ·rcases Mc h with z |z
   ·exact .inr<|z▸le.2
   ·exact .inl z
  ·exact .inr<|Nt h le.1
theorem ZnX:∀{rs:List (List Msg)}{m:List Msg}{p:List Msg->Prop},p m->(∀r∈rs,p r)->p (lng rs m):=by
 intro rs
 induction rs with
 |nil=>exact λh ø=>h
 |cons a rs ih=>
  intro m p h q;refine ih (m:=cond (decide ((m.length:Int)<a.length)) a m) ?_ λr hr=>q r<|.tail _ hr
  induction decide ((m.length:Int)<a.length) with
  |true=>exact q a<|.head _
  |false=>exact h
theorem ZpR{rs:List (List Msg)}{p:List Msg->Prop}(h:∀r∈rs,p r)(h0:p []):p (rs.headD []):=by
 induction rs using List.casesOn with
 |nil=>exact h0
 |cons a rs=>exact h a<|.head _
theorem pf9{M:Nat}{fi:List Int}{G:Gh}{X:Nat->Hd}{n:Int}{ms:List Int}{o:Off}{t:Int}(I:IS M fi G.S)(J:In9 M fi G X)(hl:Ls fi G.S n ms)(O:OO M G.S t n o)(en:enF ms o.prom.length=true):(pfF ms o).row <+:G.R n/\Pm fi G.S n (pfF ms o).row.length:=by
 have mj:=ZgQ I hl O en;unfold pfF
 induction e:(pfGo o.prom ms none []).1 with
 |none=>
  have al:∀r∈(pfGo o.prom ms none []).2,r <+:G.R n:=λr hr=>(Zh0 ms none [] r hr).elim (λz=>nomatch z) λ⟨h,p,ep,z⟩=>z▸(O.pr _<|Zdj ep).elim λto q=>J.gd _ q;refine⟨ZnX (ZpR al<|List.nil_prefix) al,ms,_,hl,mj,λa ha=>?_⟩;obtain⟨p,hp,e⟩:=mem_map.mp ha;obtain⟨to,h⟩:=O.pr p hp;obtain rfl:=e;exact⟨to,_,_,_,h,ZnQ<|.inl<|Zpe (ZjP O.pn hp) ms none [] (.inl<|mj.sub _ ha)⟩
 |some c=>
  rcases Zoy (pr:=o.prom) ms none [] with z |⟨h,_,p,ep,z⟩
  ·rw[e]at z;exact noZ z
  ·obtain⟨to,q⟩:=O.pr _<|Zdj ep;obtain⟨_,p',to',hL⟩:=(I.gd _ q).2.1 c<|z.trans e;exact J.gd _ hL
structure Fu(G G':Gh):Prop where
 sd:G'.Sd=G.Sd
 go:∀t,G.Go t <+:G'.Go t
theorem Fu.rf{G:Gh}:Fu G G:=⟨rfl,λø=>prefix_rfl⟩
theorem Fu.tr{G G' G'':Gh}(a:Fu G G')(b:Fu G' G''):Fu G G'':=⟨b.sd.trans a.sd,λt=>(a.go t).trans<|b.go t⟩
inductive Nx9(M:Nat)(fi:List Int)(G:Gh)(U:List Letter)(X:Nat->Hd):Prop
 |mk (G':Gh) (fu:Fu G G') (h:In8 M fi G'.S U X) (k:In9 M fi G' X)
def N9(M:Nat)(fi:List Int)(G:Gh)(X:Nat->Hd)(t:Nat)(r:Hd×List Letter):Prop:=Nx9 M fi G r.2<|updX X t r.1
theorem ZaA{X:Nat->Hd}{t:Nat}{x:Hd}:updX X t x t=x:=if_pos rfl
theorem ZeT{X:Nat->Hd}{t u:Nat}{x:Hd}(h:u≠t):updX X t x u=X u:=if_neg h
theorem In8.same{M:Nat}{fi:List Int}{S:Snt}{U:List Letter}{X:Nat->Hd}(I:In8 M fi S U X){t u:Nat}{n:Int}{f g:Int}{fs gs:List Int}(ht:t<M)(hu:u<M)(pt:(X t).place=some n)(pu:(X u).place=some n)(et:(X t).ms=f::fs)(eu:(X u).ms=g::gs):f=g:=by
 have h1:Ls fi S n (X t).ms:=((I.hs t ht).p n pt).ms;have h2:Ls fi S n (X u).ms:=((I.hs u hu).p n pu).ms;have:=I.is.eq h1 h2;rw[et,eu]at this;exact(List.cons.inj this).1
theorem H9.up{fi:List Int}{G:Gh}{X:Nat->Hd}{t:Nat}{n:Int}{x:Hd}(e:X t=x)(h:x.row <+:G.R n)(hd:∀fs,x.ms=(t:Int)::fs->x.row=G.R n)(tk:TK fi G X n x.took)(t0:0<=x.took)(tl:x.took<=x.row.length)(ho:∀p∈x.holds,p.2<=0\/HV G X n p.2 p.1)(pr:∀to b r g,G.S ⟨t,to,n,.prom b r g⟩->x.row.length<=r.length):H9 fi G X t n:=by
 subst e;exact⟨h,hd,tk,t0,tl,ho,pr⟩
theorem Ev.of{G G':Gh}{X:Nat->Hd}{t:Nat}{x:Hd}(sub:∀L,G.S L->G'.S L)(rp:∀n,G.R n <+:G'.R n)(sp:∀t,G.Sd t <+:G'.Sd t)(e1:x.place=(X t).place)(e2:x.gone=(X t).gone)(e3:(X t).row.length<=x.row.length)(np:∀a to n b r g,G'.S ⟨a,to,n,.prom b r g⟩->G.S ⟨a,to,n,.prom b r g⟩\/((X a.toNat).place=some n/\(X a.toNat).row.length<=r.length)):Ev G G' X (updX X t x):=by
 refine⟨sub,rp,sp,λu m b=>?_,λu m b e=>?_,np⟩
 ·by_cases c:u=t
  ·subst c;rw[ZaA];unfold been;rw[e1,e2];exact b
  ·rw[ZeT c];exact b
 ·by_cases c:u=t
  ·subst c;rw[ZaA]at e ⊢; rw[e1]at e;exact⟨e,e3⟩
  ·rw[ZeT c]at e ⊢; exact⟨e,Zr _⟩
section
variable {G:Gh}(I:In8 M fi G.S U X)(J:In9 M fi G X)(ht:t<M)
include I J ht
theorem In9.step{G':Gh}{x:Hd}(E:Ev G G' X (updX X t x))(nl:∀L,G'.S L->G.S L\/G9 M fi G' (updX X t x) L)(np:∀a to n b r g,G'.S ⟨a,to,n,.prom b r g⟩->a≠t->G.S ⟨a,to,n,.prom b r g⟩)
  (hR:∀m,G'.R m=G.R m\/((X t).place=some m/\∃fs,(X t).ms=(t:Int)::fs)) (h9:∀m,x.place=some m->H9 fi G' (updX X t x) t m)
  (rs:∀m,G'.R m=G.R m\/((∀w∈G'.R m,Sai M G'.Sd m w)/\(G'.R m).Nodup/\∃f:Int,Fst fi G'.S m f/\been (updX X t x f.toNat) m))
  (go:x.gone=G'.Go t) (go':∀u,u≠t->G'.Go u=G.Go u) (dd:∀g∈G'.Go t,DD fi G'.S g.1 g.2.2) (sd:x.said=(G'.Sd t).length) (sd':∀u,u≠t->G'.Sd u=G.Sd u):In9 M fi G' (updX X t x) where
 gd:=λL h=>(nl L h).elim (λh=>(J.gd L h).ev E) id
 hs:=λu hu m e=>by
  by_cases c:u=t
  ·subst c;rw[ZaA]at e;exact h9 m e
  ·have eq:updX X t x u=X u:=ZeT c;rw[eq]at e;have h:=J.hs u hu m e
   exact⟨by rw[eq];exact h.row.trans<|E.rp m,λfs ef=>by
    rw[eq]at ef ⊢
    rcases hR m with z |⟨z,fs',ef'⟩
    ·rw[z];exact h.hd fs ef
    ·exact absurd (Int.ofNat.inj<|I.same hu ht e z ef ef') c,by rw[eq];exact h.tk.ev E,by rw[eq];exact h.t0,by rw[eq];exact h.tl,λp hp=>by rw[eq]at hp;exact(h.ho p hp).imp id λz=>z.ev E,λto b r g q=>by rw[eq];exact h.pr to b r g<|np _ _ _ _ _ _ q λz=>c<|Int.ofNat.inj z⟩
 rs:=λm w hw=>by
  rcases rs m with z |z
  ·rw[z]at hw;exact(J.rs m w hw).ev E
  ·exact z.1 w hw
 rn:=λm=>(rs m).elim (λz=>z▸J.rn m) λz=>z.2.1
 rb:=λm=>by
  rcases rs m with z |z
  ·rw[z];exact(J.rb m).imp id λ⟨f,a,b⟩=>⟨f,a.ev E,E.bn _ _ b⟩
  ·exact .inr z.2.2
 go:=λu hu=>by
  by_cases c:u=t
  ·subst c;rw[ZaA];exact go
  ·rw[ZeT c,go' u c];exact J.go u hu
 dd:=λu hu g hg=>by
  by_cases c:u=t
  ·subst c;exact dd g hg
  ·rw[go' u c]at hg;exact(J.dd u hu g hg).ev E
 sd:=λu hu=>by
  by_cases c:u=t
  ·subst c;rw[ZaA];exact sd
  ·rw[ZeT c,sd' u c];exact J.sd u hu
variable {n:Int}(hp:(X t).place=some n)
omit I J ht hp in
structure P9(M:Nat)(fi:List Int)(G:Gh)(U:List Letter)(X:Nat->Hd)(t:Nat)(n:Int)(r:Hd×List Letter):Prop where
 pl:r.1.place=(X t).place
 go:r.1.gone=(X t).gone
 row:r.1.row=(X t).row
 ms:r.1.ms=(X t).ms
 sd:r.1.said=(X t).said
 tk:TK fi G X n r.1.took
 t0:0<=r.1.took
 tl:r.1.took<=(X t).row.length
 ho:∀p∈r.1.holds,p.2<=0\/HV G X n p.2 p.1
 ls:∀L∈r.2,L∈U\/(L.from_=t/\L.pl=n/\G9 M fi G X L/\∀b r g,L.c=.prom b r g->r=(X t).row)
include hp
theorem P9.go9{r:Hd×List Letter}(h:P9 M fi G U X t n r)(N:N8 M fi G.S X t r):N9 M fi G X t r:=by
 obtain⟨S',sub,nw,I'⟩:=N;have key:∀L,S' L->G.S L\/(L.from_=t/\L.pl=n/\G9 M fi G X L/\∀b r g,L.c=.prom b r g->r=(X t).row):=λL q=>(nw L q).elim .inl λq=>(h.ls L q).imp (I.un L) id;have H:=J.hs t ht n hp
 have E:Ev G ⟨S',G.R,G.Sd,G.Go⟩ X (updX X t r.1):=.of sub (λø=>prefix_rfl) (λø=>prefix_rfl) h.pl h.go (Nz<|congrArg List.length h.row.symm) λa to m b w g q=>by
  rcases key _ q with z |⟨z1,z2,_,z3⟩
  ·exact .inl z
  ·have z1:a=t:=z1;have z2:m=n:=z2;subst z1 z2;exact .inr ⟨hp,Nz<|congrArg List.length (z3 b w g rfl).symm⟩
 refine⟨⟨S',G.R,G.Sd,G.Go⟩,⟨rfl,λø=>prefix_rfl⟩,I',In9.step I J ht E (λL q=>(key L q).imp id λz=>z.2.2.1.ev E) (λa to m b w g q ne=>(key _ q).elim id λz=>absurd z.1 ne) (λø=>.inl rfl) (λm e=>?_) (λø=>.inl rfl) (h.go.trans<|J.go t ht) (λø ø=>rfl) (λg hg=>(J.dd t ht g hg).ev E) (h.sd.trans<|J.sd t ht) λø ø=>rfl⟩;obtain rfl:=Sj<|hp.symm.trans<|h.pl.symm.trans e
 exact⟨by rw[ZaA,h.row];exact H.row,λfs ef=>by rw[ZaA]at ef ⊢; rw[h.ms]at ef;rw[h.row];exact H.hd fs ef,by rw[ZaA];exact h.tk.ev E,by rw[ZaA];exact h.t0,by rw[ZaA,h.row];exact h.tl,λp q=>by rw[ZaA]at q;exact(h.ho p q).imp id λz=>z.ev E,λto b w g q=>by
  rw[ZaA,h.row]
  exact(key _ q).elim (H.pr to b w g) λz=>Nz<|congrArg List.length (z.2.2.2 b w g rfl).symm⟩
theorem P9.of{x:Hd}{U':List Letter}(e1:x.place=(X t).place)(e2:x.gone=(X t).gone)(e3:x.row=(X t).row)(e4:x.ms=(X t).ms)(e5:x.said=(X t).said)(e6:x.took=(X t).took)(e7:x.holds=(X t).holds)(ls:∀L∈U',L∈U\/(L.from_=t/\L.pl=n/\G9 M fi G X L/\∀b r g,L.c=.prom b r g->r=(X t).row)):P9 M fi G U X t n (x,U'):=by
 have H:=J.hs t ht n hp;exact⟨e1,e2,e3,e4,e5,by rw[show((x,U'):Hd×List Letter).1.took=_ from e6];exact H.tk,by rw[show((x,U'):Hd×List Letter).1.took=_ from e6];exact H.t0,by rw[show((x,U'):Hd×List Letter).1.took=_ from e6];exact H.tl,by rw[show((x,U'):Hd×List Letter).1.holds=_ from e7];exact H.ho,ls⟩
theorem P9.idd:P9 M fi G U X t n (X t,U):=P9.of I J ht hp rfl rfl rfl rfl rfl rfl rfl λL h=>.inl h
omit I J ht hp in
theorem P9.cd{b:Bool}{p q:Hd×List Letter}(h1:b=true->P9 M fi G U X t n p)(h2:b=false->P9 M fi G U X t n q):P9 M fi G U X t n (cond b p q):=by
 induction b with
 |true=>exact h1 rfl
 |false=>exact h2 rfl
omit I J ht hp in
theorem ls9{ts:List Int}{c:Cont}(h:∀i∈ts,G9 M fi G X ⟨t,i,n,c⟩)(np:∀b r g,c=.prom b r g->r=(X t).row):∀L∈U++sendF t n ts c,L∈U\/(L.from_=t/\L.pl=n/\G9 M fi G X L/\∀b r g,L.c=.prom b r g->r=(X t).row):=λL q=>(Mp q).imp id λq=>by
 obtain⟨i,hi,e⟩:=Zam q;rw[e];exact⟨rfl,rfl,h i hi,np⟩
theorem prep9{src:Int}{b:Bal}:P9 M fi G U X t n (prepF t n (X t) U src b):=
 P9.cd (λø=>P9.of I J ht hp rfl rfl rfl rfl rfl rfl rfl (ls9 (ts:=[src]) (c:=.prom b (X t).row (X t).agd) (λi ø=>(J.hs t ht n hp).row) λb r g e=>by injection e with _ e _;exact e.symm)) λø=>P9.idd I J ht hp
theorem acc9{src:Int}{a:Acc}:P9 M fi G U X t n (accF t n (X t) U src a):=
 P9.cd (λø=>P9.of I J ht hp rfl rfl rfl rfl rfl rfl rfl (ls9 (ts:=[src]) (c:=.agr a.b) (λi ø=>trivial) λb r g e=>nomatch e)) λø=>P9.idd I J ht hp
theorem offI{o:Off}:P9 M fi G U X t n ({ X t with off:=some o },U):=P9.of I J ht hp rfl rfl rfl rfl rfl rfl rfl λL h=>.inl h
theorem prom9{src fr:Int}{b:Bal}{row:List Msg}{g:Option Acc}(hL:G.S ⟨src,fr,n,.prom b row g⟩):P9 M fi G U X t n (promF t n (X t) U src b row g):=by
 have P:=(I.hs t ht).p n hp;unfold promF
 induction eo:(X t).off with
 |none=>exact P9.idd I J ht hp
 |some o=>
  refine P9.cd (λcb=>P9.cd (λcv=>P9.cd (λen=>?_) λø=>offI I J ht hp) λø=>offI I J ht hp) λø=>offI I J ht hp;obtain rfl:=Zhd cb;have O:=P.off o eo
  have O':OO M G.S t n { o with prom:=prS o.prom src (row,g) }:=⟨O.b2,O.hs,λp hp=>(Zei hp).elim (λz=>z▸⟨fr,hL⟩)<|O.pr p,Zc0 O.pn,O.ag,O.an,O.vl⟩
  exact P9.of I J ht hp rfl rfl rfl rfl rfl rfl rfl (ls9 (λi ø=>pf9 I.is J P.ms O' en) λb r g e=>nomatch e)
theorem agr9{src:Int}{b:Bal}:P9 M fi G U X t n (agrF t n (X t) U src b):=by
 unfold agrF
 induction eo:(X t).off with
 |none=>exact P9.idd I J ht hp
 |some o=>exact P9.cd (λø=>P9.cd (λø=>offI I J ht hp) λø=>P9.cd (λø=>P9.of I J ht hp rfl rfl rfl rfl rfl rfl rfl (ls9 (λi ø=>trivial) λb r g e=>nomatch e)) λø=>offI I J ht hp) λø=>offI I J ht hp
theorem take9{c:Int}(h:TK fi G X n c):P9 M fi G U X t n ({ X t with took:=mx (X t).took (mn c (X t).row.length) },U):=by
 have H:=J.hs t ht n hp
 have h1:TK fi G X n (mn c (X t).row.length)/\mn c (X t).row.length<=(X t).row.length:=by
  unfold mn
  by_cases q:((X t).row.length:Int)<c
  ·rw[if_pos q];exact⟨h.mono<|Int.le_of_lt q,Int.le_refl _⟩
  ·rw[if_neg q];exact⟨h,Int.not_lt.mp q⟩
 generalize mn c (X t).row.length=d at h1 ⊢
 have h2:TK fi G X n (mx (X t).took d)/\mx (X t).took d<=(X t).row.length/\0<=mx (X t).took d:=by
  unfold mx
  by_cases q:d > (X t).took
  ·rw[if_pos q];exact⟨h1.1,h1.2,It H.t0<|Int.le_of_lt q⟩
  ·rw[if_neg q];exact⟨H.tk,H.tl,H.t0⟩
 exact⟨rfl,rfl,rfl,rfl,rfl,h2.1,h2.2.2,h2.2.1,H.ho,λL h=>.inl h⟩
theorem own9{c:Int}(h:c<=(X t).row.length):HV G X n c t:=by
 have H:=J.hs t ht n hp;exact⟨.inl hp,λø=>h,λto b r g q=>It h<|ld2<|H.pr to b r g q,It h<|ld2 H.row.length_le⟩
theorem hbe9:TK fi G X n (hbe t (X t).ms (X t).row.length (X t).holds):=by
 have P:=(I.hs t ht).p n hp;have f:Fi M (X t).ms:=I.is.lfi P.ms;have H:=J.hs t ht n hp;obtain⟨q,mj,h⟩:=Zpb (k:=t) (len:=(X t).row.length) (ho:=(X t).holds) f P.me;generalize hbe t (X t).ms (X t).row.length (X t).holds=c at h ⊢
 by_cases z:c<=0
 ·exact .z z
 refine .mk _ q P.ms mj λa ha=>?_
 rcases h a ha with⟨e,h⟩ |h
 ·subst e;exact own9 I J ht hp h
 ·rcases ZhP (l:=(X t).holds) (i:=a) rfl with y |y
  ·exact absurd (It h y) z
  ·exact(H.ho _ y).elim (λy=>absurd (It h y) z) λy=>y.mono h
theorem look9{fs:List Int}(hf:(X t).ms=(t:Int)::fs):P9 M fi G U X t n (lookF t n (X t) U):=by
 have H:=J.hs t ht n hp;have T:=hbe9 I J ht hp
 have hl:hbe t (X t).ms (X t).row.length (X t).holds<=(X t).row.length:=by
  have:=T.le;rw[← H.hd fs hf]at this;exact this
 refine P9.cd (λc=>?_) λø=>P9.idd I J ht hp;exact⟨rfl,rfl,rfl,rfl,rfl,T,It H.t0<|Int.le_of_lt<|Od c,hl,H.ho,ls9 (λi ø=>T) λb r g e=>nomatch e⟩
end
theorem Znv(m:Msg):eqD m.v m.v=true:=by
 show(decide (m.h=m.h)&&(decide (m.n=m.n)&&(decide (m.w=m.w)&&true)))=true;rw[Dq rfl,Dq rfl,Dq rfl];rfl
theorem Zpv{a b:Msg}(e:eqD a.v b.v=true):a=b:=by
 obtain⟨h,n,w⟩:=a;obtain⟨h',n',w'⟩:=b;have e:(decide (h=h')&&(decide (n=n')&&(decide (w=w')&&true)))=true:=e;have e:=An e;have e2:=An e.2;have e3:=An e2.2;rw[Od e.1,Od e2.1,Od e3.1]
theorem ZmU{row:List Msg}{m:Msg}(h:m∉row):hasM row m=false:=by
 refine List.any_eq_false.mpr λy hy z=>?_;obtain⟨a,ha,e⟩:=mem_map.mp hy;subst e;exact h<|Zpv z▸ha
theorem Zms{row:List Msg}{m:Msg}(h:hasM row m=false):m∉row:=λz=>by
 have:hasM row m=true:=List.any_eq_true.mpr ⟨m.v,mem_map.mpr ⟨m,z,rfl⟩,Znv m⟩;exact noT<|h.symm.trans this
def upR(R:Int->List Msg)(n:Int)(r:List Msg):Int->List Msg:=λk=>if k=n then r else R k
theorem Zjl{R:Int->List Msg}{n:Int}{r:List Msg}:upR R n r n=r:=if_pos rfl
theorem Zmk{R:Int->List Msg}{n k:Int}{r:List Msg}(h:k≠n):upR R n r k=R k:=if_neg h
section
variable {G:Gh}{n:Int}(I:In8 M fi G.S U X)(J:In9 M fi G X)(ht:t<M)(hp:(X t).place=some n)
omit I J ht hp in
theorem then9{y:Hd}{U1:List Letter}{r:Hd×List Letter}(A:Nx9 M fi G U1 (updX X t y))(B:∀G1:Gh,In8 M fi G1.S U1 (updX X t y)->In9 M fi G1 (updX X t y)->N9 M fi G1 (updX X t y) t r):N9 M fi G X t r:=by
 obtain⟨G1,fu,I1,J1⟩:=A;have Q:=B G1 I1 J1;unfold N9 at Q;rw[ZoH]at Q;obtain⟨G2,fu2,I2,J2⟩:=Q;exact⟨G2,fu.tr fu2,I2,J2⟩
include I J ht hp
omit J in
theorem fst9(h:Fst fi G.S n t):∃fs,(X t).ms=(t:Int)::fs:=by
 obtain⟨fs,h⟩:=h;exact⟨fs,I.is.eq ((I.hs t ht).p n hp).ms h⟩
theorem lookN{y:Hd}{fs:List Int}{U1:List Letter}(A:Nx9 M fi G U1 (updX X t y))(e:y.place=some n)(hf:y.ms=(t:Int)::fs):N9 M fi G X t (lookF t n y U1):=
 then9 A λG1 I1 J1=>by
  have hp1:(updX X t y t).place=some n:=by rw[ZaA];exact e
  have N:=look8 I1 ht hp1 (x:=updX X t y t) rfl;have P:=look9 I1 J1 ht hp1 (by rw[ZaA];exact hf);have Q:=P.go9 I1 J1 ht hp1 N;rw[ZaA]at Q;exact Q
theorem have9{src c:Int}(hL:G9 M fi G X ⟨src,t,n,.have_ c⟩):N9 M fi G X t (lookF t n { X t with holds:=hoS (X t).holds src (mx c<|hoD (X t).holds src) } U):=by
 have H:=J.hs t ht n hp;obtain⟨fs,hf⟩:=fst9 I ht hp hL.1
 have P:P9 M fi G U X t n ({ X t with holds:=hoS (X t).holds src (mx c<|hoD (X t).holds src) },U):=⟨rfl,rfl,rfl,rfl,rfl,H.tk,H.t0,H.tl,λp hp'=>by
  rcases Zmv hp' with z |z
  ·subst z;show mx c (hoD (X t).holds src)<=0\/HV G X n (mx c<|hoD (X t).holds src) src;unfold mx
   by_cases q:hoD (X t).holds src > c
   ·rw[if_pos q];exact(ZhP rfl).elim .inl (H.ho _)
   ·rw[if_neg q];exact .inr hL.2
  ·exact H.ho p z,λL h=>.inl h⟩
 exact lookN I J ht hp (P.go9 I J ht hp<|same8 I ht hp (x:={ X t with holds:=hoS (X t).holds src (mx c<|hoD (X t).holds src) }) rfl) hp hf
omit J in
theorem nopr(ns:(X t).still=false):∀to b r g,¬ G.S ⟨t,to,n,.prom b r g⟩:=λto b r g q=>by
 have h:(X t).still=true:=(((I.hs t ht).p n hp).bl b<|.inl ⟨to,r,g,q⟩).2;exact noT<|ns.symm.trans h
theorem app9{m:Msg}{U':List Letter}{rn:List Msg}(ns:(X t).still=false)(N:Nx8 M fi G.S U' (updX X t { X t with row:=(X t).row++[m] }))
  (hr:(X t).row++[m] <+:rn) (hh:∀fs,(X t).ms=(t:Int)::fs->(X t).row++[m]=rn) (hg:G.R n <+:rn)
  (h0:rn=G.R n\/((∃fs,(X t).ms=(t:Int)::fs)/\(∀w∈rn,Sai M G.Sd n w)/\rn.Nodup))
  (ls:∀L∈U',L∈U\/(L.from_=t/\(∀b r g,L.c≠.prom b r g)/\∀S',Ev G ⟨S',upR G.R n rn,G.Sd,G.Go⟩ X (updX X t { X t with row:=(X t).row++[m] })->(∀to b r g,¬ S' ⟨t,to,n,.prom b r g⟩)->G9 M fi ⟨S',upR G.R n rn,G.Sd,G.Go⟩ (updX X t { X t with row:=(X t).row++[m] }) L)):
  Nx9 M fi G U' (updX X t { X t with row:=(X t).row++[m] }):=by
 obtain⟨S',sub,nw,I'⟩:=N;have H:=J.hs t ht n hp
 have key:∀L,S' L->G.S L\/(L∈U'/\L.from_=t/\(∀b r g,L.c≠.prom b r g)):=λL q=>(nw L q).elim .inl λq=>(ls L q).imp (I.un L) λz=>⟨q,z.1,z.2.1⟩
 have le:(X t).row.length<=((X t).row++[m]).length:=by rw[La];exact Ar ..
 have E:Ev G ⟨S',upR G.R n rn,G.Sd,G.Go⟩ X (updX X t { X t with row:=(X t).row++[m] }):=.of sub (λk=>by
  show _ <+:upR _ _ _ _
  by_cases c:k=n
  ·subst c;rw[Zjl];exact hg
  ·rw[Zmk c];exact prefix_rfl) (λø=>prefix_rfl) rfl rfl le λa to k b w g q=>.inl<|(key _ q).elim id λz=>absurd rfl<|z.2.2 b w g
 have np:∀to b r g,¬ S' ⟨t,to,n,.prom b r g⟩:=λto b r g q=>(key _ q).elim (nopr I ht hp ns to b r g) λz=>z.2.2 b r g rfl;have Rn:(⟨S',upR G.R n rn,G.Sd,G.Go⟩:Gh).R n=rn:=Zjl;refine⟨⟨S',upR G.R n rn,G.Sd,G.Go⟩,⟨rfl,λø=>prefix_rfl⟩,I',In9.step I J ht E (λL q=>?_) (λa to k b w g q ne=>(key _ q).elim id λz=>absurd z.2.1 ne) (λk=>?_) (λk e=>?_) (λk=>?_) (J.go t ht) (λø ø=>rfl) (λg hg=>(J.dd t ht g hg).ev E) (J.sd t ht) λø ø=>rfl⟩
 ·rcases key L q with z |z
  ·exact .inl z
  ·exact(ls L z.1).imp (I.un L) λy=>y.2.2 S' E np
 ·by_cases c:k=n
  ·subst c;rw[Rn];exact h0.imp id λz=>⟨hp,z.1⟩
  ·exact .inl<|Zmk c
 ·obtain rfl:=Sj<|hp.symm.trans e;exact .up ZaA (Rn.symm▸hr) (λfs ef=>(hh fs ef).trans Rn.symm) (H.tk.ev E) H.t0 (It H.tl<|ld2 le) (λp q=>(H.ho p q).imp id λz=>z.ev E) λto b w g q=>absurd q<|np to b w g
 ·by_cases c:k=n
  ·subst c;rw[Rn]
   refine h0.imp id λz=>⟨z.2.1,z.2.2,t,z.1.elim λfs e=>⟨fs,e▸(show Ls fi G.S k (X t).ms from((I.hs t ht).p k hp).ms).sub sub⟩,?_⟩
   show been (updX X t _ t) k;rw[ZaA];exact .inl hp
  ·exact .inl<|Zmk c
theorem hold9{src p:Int}{m:Msg}(hL:G9 M fi G X ⟨src,t,n,.hold m p⟩)(hs:∃u:Nat,u<M/\src=u):N9 M fi G X t (holdF t n (X t) U src m p):=by
 have N:=hold8 I ht hp (m:=m) (p:=p) hs;have H:=J.hs t ht n hp;unfold holdF at N ⊢;have sm:∀{U':List Letter},N8 M fi G.S X t (X t,U)->N9 M fi G X t (X t,U):=λN=>(P9.idd I J ht hp).go9 I J ht hp N
 rcases Bool.eq_false_or_eq_true (X t).still with c1 |c1
 ·rw[ZdO c1]at N ⊢; exact sm (U':=U) N
 ·rw[ZdJ c1]at N ⊢
  induction c2:decide (((X t).row.length:Int)<p) with
  |true=>rw[c2]at N;exact sm (U':=U) N
  |false=>
   rw[c2]at N;obtain⟨F,j,ej,hj⟩:=hL;have hj:(G.R n)[j]?=some m:=hj
   induction c3:decide (p=((X t).row.length:Int)) with
   |true=>
    rw[c3]at N;have e:j=(X t).row.length:=lb7<|ej.symm.trans<|Od c3;subst e
    have hr:(X t).row++[m] <+:G.R n:=by
     obtain⟨r,hr⟩:=H.row;rw[← hr,List.getElem?_append_right<|Zr _,Nat.sub_self]at hj
     induction r using List.casesOn with
     |nil=>exact noS hj
     |cons a r=>obtain rfl:=Sj hj;exact⟨r,by rw[← hr,List.append_assoc];rfl⟩
    refine app9 I J ht hp c1 N hr (λfs ef=>?_) prefix_rfl (.inl rfl) λL q=>(Zbl q).imp id λq=>?_
    ·rw[← H.hd fs ef]at hr;have:=hr.length_le;rw[La]at this;exact absurd this<|Nat.not_succ_le_self _
    ·obtain rfl:=Mg q;refine⟨rfl,λb r g e=>(nomatch e),λS' E np=>⟨Fst.ev E F,?_⟩⟩
     have e1:(((X t).row++[m]).length:Int)=(X t).row.length+1:=by rw[La];rfl
     refine⟨?_,λø=>?_,λto b r g q=>absurd q<|np to b r g,?_⟩
     ·show been (updX X t _ t) n;rw[ZaA];exact .inl hp
     ·show _<=(((updX X t _ t).row.length:Nat):Int)
      rw[ZaA];exact Int.le_of_eq e1.symm
     ·show _<=(((upR G.R n (G.R n) n).length:Nat):Int)
      rw[Zjl,← e1];exact ld2 hr.length_le
   |false=>
    rw[c3]at N;refine(P9.of I J ht hp (x:=X t) (U':=U++[⟨t,src,n,.have_ (X t).row.length⟩]) rfl rfl rfl rfl rfl rfl rfl (ls9 (ts:=[src]) (c:=.have_ (X t).row.length) (λi hi=>?_) λb r g e=>nomatch e)).go9 I J ht hp N;obtain rfl:=Mg hi;exact⟨F,own9 I J ht hp<|Int.le_refl _⟩
theorem wish9{m:Msg}{fr:Int}(hL:G9 M fi G X ⟨fr,t,n,.wish m⟩):N9 M fi G X t (wishF t n (X t) U m):=by
 have H:=J.hs t ht n hp;obtain⟨fs,hf⟩:=fst9 I ht hp hL.1;have er:=H.hd fs hf;unfold wishF;have sm:N9 M fi G X t (X t,U):=(P9.idd I J ht hp).go9 I J ht hp<|same8 I ht hp (x:=X t) rfl
 rcases Bool.eq_false_or_eq_true (X t).still with c1 |c1
 ·rw[ZdO c1];exact sm
 ·rw[ZdJ c1]
  induction c2:hasM (X t).row m with
  |true=>exact sm
  |false=>
   have nm:=Zms c2;refine lookN I J ht hp (y:={ X t with row:=(X t).row++[m] }) (fs:=fs) (app9 I J ht hp (rn:=(X t).row++[m]) c1 (snd8 I ht hp (x:={ X t with row:=(X t).row++[m] }) (c:=.hold m (X t).row.length) rfl rfl<|oth8 I ht hp) prefix_rfl (λø ø=>rfl) (er▸List.prefix_append ..) (.inr ⟨⟨fs,hf⟩,λw hw=>?_,?_⟩) λL q=>(Mp q).imp id λq=>?_) hp hf
   ·rcases Mp hw with z |z
    ·exact J.rs n w<|er▸z
    ·obtain rfl:=Mg z;exact hL.2
   ·refine List.nodup_append.mpr ⟨er▸J.rn n,pairwise_singleton ..,λa ha b hb=>?_⟩;obtain rfl:=Mg hb;exact λz=>nm<|z▸ha
   ·obtain⟨i,hi,e⟩:=Zam q;rw[e];refine⟨rfl,λb r g e=>(nomatch e),λS' E np=>⟨Fst.ev E hL.1,(X t).row.length,rfl,?_⟩⟩;show(upR G.R n ((X t).row++[m]) n)[(X t).row.length]?=some m;rw[Zjl,List.getElem?_append_right<|Zr _,Nat.sub_self];rfl
end
noncomputable def upG{α:Type}(g:Nat->α)(t:Nat)(x:α):Nat->α:=λu=>if u=t then x else g u
section
variable {G:Gh}(I:In8 M fi G.S U X)(J:In9 M fi G X)(ht:t<M)
include I J ht
theorem mv9{x:Hd}(N:Nx8 M fi G.S U (updX X t x))(bg:∀m,been (X t) m->m∈x.gone.map (·.1))(e1:x.row=[])(e2:x.took=0)(e3:x.holds=[])(e4:x.said=(X t).said)(pg:(X t).gone <+:x.gone)(dd:∀g∈x.gone,g∈(X t).gone\/DD fi G.S g.1 g.2.2):Nx9 M fi G U (updX X t x):=by
 obtain⟨S',sub,nw,I'⟩:=N;have key:∀L,S' L->G.S L:=λL q=>(nw L q).elim id<|I.un L
 have hs':HS M fi S' t x.cr:=by have:=I'.hs t ht;rw[ZaA]at this;exact this
 have nb:∀m,been (X t) m->x.place=some m->False:=λm b e=>by
  obtain⟨g,hg,eg⟩:=mem_map.mp<|bg m b;exact Int.lt_irrefl m<|eg▸(hs'.g.gl g hg).2.2.2 m e
 have E:Ev G ⟨S',G.R,G.Sd,upG G.Go t x.gone⟩ X (updX X t x):=by
  refine⟨sub,λø=>prefix_rfl,λø=>prefix_rfl,λu m b=>?_,λu m b e=>?_,λa to m b w g q=>.inl<|key _ q⟩
  ·by_cases c:u=t
   ·subst c;rw[ZaA];exact .inr<|bg m b
   ·rw[ZeT c];exact b
  ·by_cases c:u=t
   ·subst c;rw[ZaA]at e;exact(nb m b e).elim
   ·rw[ZeT c]at e ⊢; exact⟨e,Zr _⟩
 have et:upG G.Go t x.gone t=x.gone:=if_pos rfl;refine⟨⟨S',G.R,G.Sd,upG G.Go t x.gone⟩,⟨rfl,λu=>?_⟩,I',In9.step I J ht E (λL q=>.inl<|key L q) (λa to m b w g q ne=>key _ q) (λø=>.inl rfl) (λm e=>?_) (λø=>.inl rfl) et.symm (λu c=>if_neg c) (λg hg=>?_) (e4.trans<|J.sd t ht) λø ø=>rfl⟩
 ·show G.Go u <+:upG G.Go t x.gone u;unfold upG
  by_cases c:u=t
  ·subst c;rw[if_pos rfl,← J.go u ht];exact pg
  ·rw[if_neg c];exact prefix_rfl
 ·refine⟨by rw[ZaA,e1];exact List.nil_prefix,λfs ef=>?_,by rw[ZaA,e2];exact .z<|Int.le_refl 0,by rw[ZaA,e2];exact Int.le_refl 0,by rw[ZaA,e2,e1];exact Int.le_refl 0,λp q=>by rw[ZaA,e3]at q;exact(nomatch q),λto b w g q=>?_⟩
  ·rw[ZaA]at ef ⊢;rw[e1]
   rcases J.rb m with z |⟨f,⟨fs',hf⟩,b⟩
   ·exact z.symm
   ·have h1:Ls fi S' m x.ms:=(hs'.p m e).ms;rw[ef]at h1;obtain rfl:=(List.cons.inj<|I'.is.eq h1<|hf.sub sub).1;exact(nb m b e).elim
  ·exact(nb m ((I.hs t ht).g.fr _ (key _ q) rfl) e).elim
 ·have hg:g∈upG G.Go t x.gone t:=hg;rw[et]at hg
  rcases dd g hg with z |z
  ·exact(J.dd t ht g<|J.go t ht▸z).ev E
  ·exact z.ev E
theorem ent9{w:News}{L:Letter}(hL:G.S L)(hc:L.c=.ent w):Nx9 M fi G U (updX X t<|entF t (X t) w):=by
 have N:=ent8 I ht hL hc (U:=U)
 have idd:Nx8 M fi G.S U (updX X t<|X t)->Nx9 M fi G U (updX X t<|X t):=λø=>by rw[Zaf];exact⟨G,.rf,I,J⟩
 unfold entF at N ⊢
 induction ep:(X t).place with
 |none=>
  rw[ep]at N;have N:Nx8 M fi G.S U (updX X t<|cond (memF w.hs t&&decide ((X t).hi<w.no)) (intoF (X t) (some w.no) w.hs<|some w)<|X t):=N;show Nx9 M fi G U (updX X t<|cond (memF w.hs t&&decide ((X t).hi<w.no)) (intoF (X t) (some w.no) w.hs<|some w)<|X t)
  induction c:memF w.hs t&&decide ((X t).hi<w.no) with
  |false=>rw[c]at N;exact idd N
  |true=>
   rw[c]at N;exact mv9 I J ht (x:=intoF (X t) (some w.no) w.hs<|some w) N (λm b=>b.elim (λz=>nomatch ep.symm.trans z) id) rfl rfl rfl rfl prefix_rfl λg hg=>.inl hg
 |some pl=>
  rw[ep]at N;have N:Nx8 M fi G.S U (updX X t<|cond (decide<|pl=w.no - 1) (onF t pl (X t) w)<|X t):=N;show Nx9 M fi G U (updX X t<|cond (decide<|pl=w.no - 1) (onF t pl (X t) w)<|X t)
  induction c:decide (pl=w.no - 1) with
  |false=>rw[c]at N;exact idd N
  |true=>
   rw[c]at N;have c:=Od c;have N:Nx8 M fi G.S U (updX X t<|onF t pl (X t) w):=N;show Nx9 M fi G U (updX X t<|onF t pl (X t) w)
   have d:DD fi G.S pl w.row:=by
    have g:=I.is.gd L hL;unfold Gd at g;rw[hc]at g;obtain⟨l,b,d⟩:=g;rw[c];exact⟨l,w.wit,b,w.hs,d.ls,d.mj,d.pp,d.vt⟩
   have key:∀{x:Hd},Nx8 M fi G.S U (updX X t x)->x.gone=(X t).gone++[(pl,(X t).ms,w.row)]->x.row=[]->x.took=0->x.holds=[]->x.said=(X t).said->Nx9 M fi G U (updX X t x):=λ{x} N eg e1 e2 e3 e4=>by
    refine mv9 I J ht N (λm b=>?_) e1 e2 e3 e4 (eg▸List.prefix_append ..) λg hg=>?_
    ·rw[eg,map_append]
     rcases b with z |z
     ·obtain rfl:=Sj<|ep.symm.trans z;exact mem_append_right _<|.head _
     ·exact mem_append_left _ z
    ·rw[eg]at hg
     exact(Zbl hg).imp id λz=>by rw[Mg z];exact d
   unfold onF at N ⊢
   induction cm:memF w.hs t with
   |true=>rw[cm]at N;exact key (x:=intoF (goneF (X t) pl w.row) (some w.no) w.hs<|some w) N rfl rfl rfl rfl rfl
   |false=>rw[cm]at N;exact key (x:=intoF (goneF (X t) pl w.row) none [] none) N rfl rfl rfl rfl rfl
variable {n:Int}
theorem step9{c:Cont}{src:Int}(hp:(X t).place=some n)(hr:(X t).row.length<=100)(hL:G.S ⟨src,t,n,c⟩):N9 M fi G X t (stepF t n (X t) U src c):=by
 have hs:∃u:Nat,u<M/\src=u:=by
  obtain⟨l,h1,h2⟩:=I.is.fr _ hL;exact Zfu (I.is.lfi h1) h2
 have g:=J.gd _ hL
 induction c with
 |wish m=>exact wish9 I J ht hp (fr:=src) g
 |hold m p=>exact hold9 I J ht hp g hs
 |have_ c=>exact have9 I J ht hp g
 |take c=>exact(take9 I J ht hp g).go9 I J ht hp (same8 I ht hp (x:={ X t with took:=mx (X t).took (mn c (X t).row.length) }) rfl)
 |prep b=>exact(prep9 I J ht hp).go9 I J ht hp (prep8 I ht hp hr hs)
 |prom b row a=>exact(prom9 I J ht hp hL).go9 I J ht hp (prom8 I ht hp hL)
 |acc a=>exact(acc9 I J ht hp).go9 I J ht hp (acc8 I ht hp hs hL)
 |agr b=>exact(agr9 I J ht hp).go9 I J ht hp (agr8 I ht hp hL)
 |ent w=>exact(P9.idd I J ht hp).go9 I J ht hp (same8 I ht hp (x:=X t) rfl)
theorem come9{U':List Letter}{L:Letter}(hL:L∈U)(hU:∀L∈U',L∈U)(hto:L.to=t)(hr:(X t).row.length<=100):N9 M fi G X t (comeF t (X t) U' L):=by
 have I':In8 M fi G.S U' X:=⟨I.is,λL h=>I.un L<|hU L h,I.hs⟩
 have sL:=I.un L hL
 have idd:N9 M fi G X t (X t,U'):=by unfold N9;rw[Zaf];exact⟨G,.rf,I',J⟩
 obtain⟨fr,to,pl,c⟩:=L;have hto:to=t:=hto;subst hto;unfold comeF
 induction (X t).up with
 |false=>exact idd
 |true=>
  induction q:newsOf c with
  |some w=>
   induction c with
   |ent w'=>obtain rfl:=Eq.symm<|Sj q;exact ent9 I' J ht sL rfl
   |_=>exact noS q
  |none=>
   show N9 M fi G X t (hereF t (X t) U' ⟨fr,t,pl,c⟩);unfold hereF
   induction ep:(X t).place with
   |none=>exact idd
   |some p=>
    show N9 M fi G X t (cond (decide<|p=pl) (stepF t p (X t) U' fr c) (X t,U'))
    induction d:decide (p=pl) with
    |false=>exact idd
    |true=>
     obtain rfl:=Eq.symm<|(Od d:p=pl);exact step9 I' J ht ep hr sL
theorem prop9{l:List Int}(hp:(X t).place=some n)(fl:Fi M l):Nx9 M fi G (U++sendF t n (X t).ms (.prep (mostF (X t)+1,t))) (updX X t { X t with off:=some (offF t (X t) l) }):=
 P9.go9 I J ht hp (r:=({ X t with off:=some (offF t (X t) l) },_)) (P9.of I J ht hp rfl rfl rfl rfl rfl rfl rfl (ls9 (λi ø=>trivial) λb r g e=>nomatch e)) (prop8 I ht hp fl)
theorem show9{u:Nat}{w:News}(hu:u<M)(hp:(X t).place=some n)(hw:(X t).news=some w):Nx9 M fi G (U++[⟨t,u,n,.ent w⟩]) X:=by
 have N:=show8 I ht hu hp hw;have Q:=P9.go9 I J ht hp (r:=(X t,U++[⟨t,u,n,.ent w⟩])) (P9.of I J ht hp rfl rfl rfl rfl rfl rfl rfl (ls9 (ts:=[(u:Int)]) (c:=.ent w) (λi ø=>trivial) λb r g e=>nomatch e)) (by unfold N8;rw[Zaf];exact N);unfold N9 at Q;rw[Zaf]at Q;exact Q
omit I J ht in
theorem Zjq{k pl:Int}{ts:List Int}{L:Letter}:∀{r:List Msg}{i:Nat},L∈pressL k pl ts r i->∃m j t,L=⟨k,t,pl,.hold m ((i+j:Nat):Int)⟩/\r[j]?=some m:=by
 intro r
 induction r with
 |nil=>exact λh=>nomatch h
 |cons m r ih=>
  intro i h
  rcases Mp h with h |h
  ·obtain⟨t,ht,e⟩:=Zam h;exact⟨m,0,t,e,rfl⟩
  ·obtain⟨m',j,t,e,l⟩:=ih h;exact⟨m',j+1,t,by rw[e,add_assoc,Nat.add_comm 1 j],l⟩
theorem press9{fs:List Int}(hp:(X t).place=some n)(hf:(X t).ms=(t:Int)::fs):Nx9 M fi G (U++(pressL t n (oth t (X t).ms) (X t).row 0++sendF t n (oth t (X t).ms) (.take (X t).took))) X:=by
 have H:=J.hs t ht n hp;have N:=press8 I ht hp
 have F:Fst fi G.S n t:=⟨fs,hf▸(show Ls fi G.S n (X t).ms from((I.hs t ht).p n hp).ms)⟩
 have Q:=P9.go9 I J ht hp (r:=(X t,U++(pressL t n (oth t (X t).ms) (X t).row 0++sendF t n (oth t (X t).ms) (.take (X t).took)))) (P9.of I J ht hp rfl rfl rfl rfl rfl rfl rfl λL h=>(Mp h).imp id λh=>by
  rcases Mp h with h |h
  ·obtain⟨m,j,i,e,hj⟩:=Zjq h;rw[e];exact⟨rfl,rfl,⟨F,_,rfl,by rw[zero_add];exact Zfc H.row hj⟩,λb r g e=>nomatch e⟩
  ·obtain⟨i,hi,e⟩:=Zam h;rw[e]
   exact⟨rfl,rfl,H.tk,λb r g e=>nomatch e⟩) (by unfold N8;rw[Zaf];exact N)
 unfold N9 at Q;rw[Zaf]at Q;exact Q
theorem say9{f:Int}{fs:List Int}{w:Str}(hp:(X t).place=some n)(hf:(X t).ms=f::fs):∃G':Gh,G'.Sd=upG G.Sd t (G.Sd t++[(n,w)])/\(∀u,G.Go u <+:G'.Go u)/\In8 M fi G'.S (U++[⟨t,f,n,.wish ⟨t,(X t).said,w⟩⟩]) (updX X t { X t with said:=(X t).said+1 })/\In9 M fi G' (updX X t { X t with said:=(X t).said+1 }):=by
 obtain⟨S',sub,nw,I'⟩:=say8 (w:=w) I ht hp hf;have H:=J.hs t ht n hp;have es:=J.sd t ht;have key:∀L,S' L->G.S L\/L=⟨t,f,n,.wish ⟨t,(X t).said,w⟩⟩:=λL q=>(nw L q).elim .inl λq=>(Zbl q).imp (I.un L) Mg;have et:upG G.Sd t (G.Sd t++[(n,w)]) t=G.Sd t++[(n,w)]:=if_pos rfl
 have E:Ev G ⟨S',G.R,upG G.Sd t<|G.Sd t++[(n,w)],G.Go⟩ X (updX X t { X t with said:=(X t).said+1 }):=.of sub (λø=>prefix_rfl) (λu=>by
  show _ <+:upG G.Sd t _ u
  by_cases c:u=t
  ·subst c;rw[et];exact List.prefix_append ..
  ·rw[show upG G.Sd t (G.Sd t++[(n,w)]) u=G.Sd u from if_neg c];exact prefix_rfl) rfl rfl (Zr _) λa to m b w g q=>.inl ((key _ q).elim id λz=>nomatch z)
 refine⟨⟨S',G.R,upG G.Sd t<|G.Sd t++[(n,w)],G.Go⟩,rfl,λø=>prefix_rfl,I',In9.step I J ht E (λL q=>?_) (λa to m b w g q ne=>(key _ q).elim id λz=>nomatch z) (λø=>.inl rfl) (λm e=>?_) (λø=>.inl rfl) (J.go t ht) (λø ø=>rfl) (λg hg=>(J.dd t ht g hg).ev E) ?_ λu c=>if_neg c⟩
 ·rcases key L q with z |z
  ·exact .inl z
  ·rw[z];refine .inr ⟨⟨fs,hf▸(show Ls fi G.S n (X t).ms from((I.hs t ht).p n hp).ms).sub sub⟩,t,(G.Sd t).length,ht,rfl,es,?_⟩;show(upG G.Sd t (G.Sd t++[(n,w)]) t)[(G.Sd t).length]?=_;rw[et,List.getElem?_append_right<|Zr _,Nat.sub_self];rfl
 ·obtain rfl:=Sj (hp.symm.trans e)
  exact .up ZaA H.row H.hd (H.tk.ev E) H.t0 H.tl (λp q=>(H.ho p q).imp id λz=>z.ev E) λto b w g q=>(key _ q).elim (H.pr to b w g) λz=>nomatch z
 ·show(X t).said+1=((upG G.Sd t (G.Sd t++[(n,w)]) t).length:Int)
  rw[et,es,La];rfl
theorem fall9:Nx9 M fi G U (updX X t { X t with up:=false }):=by
 have N:Nx8 M fi G.S U (updX X t { X t with up:=false }):=⟨G.S,λø z=>z,λø=>.inl,fall8 I ht rfl⟩
 rcases Option.eq_none_or_eq_some (X t).place with hp |⟨n,hp⟩
 ·exact⟨G,.rf,fall8 I ht rfl,In9.step I J ht (.of (λø z=>z) (λø=>prefix_rfl) (λø=>prefix_rfl) rfl rfl (Zr _) λø ø ø ø ø ø q=>.inl q) (λL q=>.inl q) (λø ø ø ø ø ø q ø=>q) (λø=>.inl rfl) (λm e=>nomatch hp.symm.trans e) (λø=>.inl rfl) (J.go t ht) (λø ø=>rfl) (J.dd t ht) (J.sd t ht) λø ø=>rfl⟩
 ·exact P9.go9 I J ht hp (r:=({ X t with up:=false },U)) (P9.of I J ht hp rfl rfl rfl rfl rfl rfl rfl λL h=>.inl h) N
end
section
variable {E:EP}{r:PSs}{Q:Yf}
theorem Zat(h:wpE P K E e σ λø σ1=>wpSs P K r σ1 Q E):wpSs P K (.cons (.expr e) r) σ Q E:=h
theorem Zbp(h:wpE P K E e σ λv σ1=>wpSs P K r (σ1.put i v) Q E):wpSs P K (.cons (.assign (.loc i) e) r) σ Q E:=h
theorem Zak{g:Nat}{f:V}{Q:Yq}(hg:P.glob g=some f)(h:wpEs P K E as σ λvs σ2=>callF P K E fz σ2 f vs Q):wpE P K E (.call fz (.glob g) as) σ Q:=Zaa (o:=P.glob g) hg h
theorem ZnY(h:wpE P K E e σ λv σ1=>Q (.ret v) σ1):wpSs P K (.cons (.ret<|.some e) r) σ Q E:=h
theorem ZlV{as:Option Nat}(hg:P.glob i=some (.cls k))
  (q:wpSs P K body σ (λfl σ1=>seqK fl σ1 (λσ2=>wpSs P K r σ2 Q E) Q) λj σ1=>need (cE<|σ1.H.get j) λm=>Nd (P.exc k=true)<|Nd (P.sub m k=true)<|wpSs P K h (asPut as j σ1) (λfl σ2=>seqK fl (asUnb as σ2) (λσ3=>wpSs P K r σ3 Q E) Q) noE):
  wpSs P K (.cons (.try_ body i as h) r) σ Q E:=Zaa (o:=P.glob i) hg q
theorem gvL{Q:Yq}(hg:σ.H.get i=some (.list xs))(h:Q (.lst xs) (σ.setH<|σ.H.del i)):giveV true σ Q (.ref i):=by
 show(match cL (σ.H.get i) with |some xs=>Q (.lst xs) (σ.setH<|σ.H.del i) |none=>Q (.ref i) σ);rw[hg];exact h
end
theorem ZaM(h:0<n):∃p:Nat,fmod x n=p/\p<n:=by
 have h1:(0:Int)<n:=Int.ofNat_lt.mpr h;have a:=Int.fmod_nonneg_of_pos x h1;have b:=Int.fmod_lt_of_pos x h1;exact⟨(fmod x n).toNat,la5 ⟨a,b⟩,la6 ⟨a,b⟩⟩
theorem Zc6:rol t i≠0:=by unfold rol;exact λzz=>lc4 (la8<|Nz zz)<|Nat.lt_succ_of_le<|Zz _
theorem Rep.frame(R:Rep H ow L M U X)(k:∀j c,H.get j=some c->ow j≠0->H'.get j=some c):Rep H' ow L M U X where
 fk:=k _ _ R.fk (by rw[R.wf];decide)
 un:=k _ _ R.un (by rw[R.wu];decide)
 hl:=R.hl
 hM:=R.hM
 wf:=R.wf
 wu:=R.wu
 hd:=λt h ht=>by
  obtain⟨l,d⟩:=R.hd t h ht
  exact⟨l,k _ _ d.hd<|d.wh▸Zc6,k _ _ d.row<|d.wr▸Zc6,k _ _ d.hol<|d.wd▸Zc6,k _ _ d.gon<|d.wg▸Zc6,λo e=>by
   have O:=d.off o e
   exact⟨k _ _ O.go<|O.wo▸Zc6,k _ _ O.gp<|O.wp▸Zc6,k _ _ O.ga<|O.wa▸Zc6,O.wo,O.wp,O.wa⟩,d.wh,d.wr,d.wd,d.wg⟩
theorem Rep.set{c:C}(R:Rep H ow L M U X)(g:H.get j=some c)(w:ow j=0):Rep (H.set j c') ow L M U X:=
 R.frame λi ø gi wi=>by rw[Hp.get_set g,if_neg<|show i≠j from λz=>wi<|z▸w];exact gi
theorem Rep.del{c:C}(R:Rep H ow L M U X)(g:H.get j=some c)(w:ow j=0):Rep (H.del j) ow L M U X:=
 R.frame λi ø gi wi=>by rw[Hp.get_del g,if_neg<|show i≠j from λz=>wi<|z▸w];exact gi
theorem Keep.del(k:Keep H ow H' ow')(g:H'.get H.next=some (.list xs)):Keep H ow (H'.del H.next) ow':=λj c gj w=>⟨by rw[Hp.get_del g,if_neg<|show j≠H.next from Nx (Zas gj)];exact(k j c gj w).1,(k j c gj w).2⟩
structure C8(M:Nat)(fi:List Int):Prop where
 m0:0<M
 m6:M<=6
 ff:Fi M fi
theorem C8.uni(c:C8 M fi):∀l m,Fi M l->Fi M m->uniK l m=true:=by
 have r6i:∀{i:Int},0<=i/\i<(M:Int)->i∈r6:=λ{i} h=>by
  exact ZnK h c.m6
 exact λl m a b=>uni6 ⟨a.up,λi hi=>r6i<|a.lt i hi⟩ ⟨b.up,λi hi=>r6i<|b.lt i hi⟩ a.ne b.ne
structure GS(M:Nat)(fi:List Int)(L:Lay)(B k:Nat)(S:Gh)(H:Hp)(ow:Nat->Nat)(U:List Letter)(X:Nat->Hd):Prop where
 rep:Rep H ow L M U X
 inv:In8 M fi S.S U X
 i9:In9 M fi S X
 nm:Nm M B k U X
inductive GN(M:Nat)(fi:List Int)(L:Lay)(B k:Nat)(S0':Gh)(H₀:Hp)(ow0':Nat->Nat)(H:Hp):Prop
 |mk (S:Gh) (ow:Nat->Nat) (U:List Letter) (X:Nat->Hd) (sub:Fu S0' S) (kp:Keep H₀ ow0' H ow) (g:GS M fi L B k S H ow U X)
section
variable {B:Nat}{S:Gh}{E:Yh}
structure Rm(B k:Nat):Prop where
 b:B+10100<=SZ
 k:k+1<=100
theorem GS.ul(g:GS M fi L B k S H ow U X)(r:Rm B k):U.length+10100<=SZ:=Nt (Fr (Nt (Zgc U) g.nm.w) _) r.b
theorem ZjL(c:C8 M fi)(r:Rm B k)(g:GS M fi L B k S H ow U X)(hp:p<U.length)(h:∀H' S' ow' U' X',Fu S S'->Keep H ow H' ow'->GS M fi L B k S' H' ow' U' X'->U.length<=U'.length+1->Q .none H'):Yc (n+6) 251 [.ref L.fk,.int p] H Q E:=by
 have hq:U[p]?=some U[p]:=Lg hp;generalize U[p]=Lt at hq;have mL:=List.mem_of_getElem? hq;obtain⟨t,ht,hto⟩:=g.inv.is.to Lt<|g.inv.un Lt mL;have h6:=c.m6;have hr:(X t).row.length<=100:=Nt (la8<|g.nm.r t ht)<|Ny r.k;have wd:wsum (dropAt U p)<=B:=Nt (by rw[(Zde hq).1];exact Aw ..) g.nm.w
 have hm:∀o,(X t).off=some o->(mkSet<|(X t).ms++(o.val.getD ⟨[],[]⟩).hs).length<=9:=λo eo=>by
  induction ep:(X t).place with
  |some pl=>exact hm8 g.inv ht h6 ep o eo
  |none=>exact absurd ((g.inv.hs t ht).f ep) (by show(X t).off≠none;rw[eo];exact λz=>nomatch z)
 have N:=g.nm.come ht hq (Nt (ms6 g.inv ht h6)<|by decide) hm;refine ZjM g.rep ht hq hto (okA8 g.inv ht h6 g.nm (Nt (Fl (by decide) B) r.b) (Ny r.k) wd) (λø hp'=>okC8 g.inv ht h6 c.uni (g.inv.un Lt mL) hto hp') λH' ow' R' k'=>?_;obtain⟨S',sub,J,J9⟩:=come9 g.inv g.i9 ht mL (λL h=>ZcL h) hto hr;refine h H' S' ow' _ _ sub k' ⟨R',J,J9,N.1⟩ ?_;have:=N.2.2
 have e:(dropAt U p).length+1=U.length:=by
  unfold dropAt;rw[La,List.length_take,List.length_drop];exact lo7 hp
 exact lc3 e.symm<|Fs this
end
theorem g46:tb.P.glob 46=some (.bt .len):=by kernel_rfl
theorem m95:methOf tb.P 60 95=some 262:=by kernel_rfl
section
variable {B:Nat}{S:Gh}
theorem ZkW{E:EP}{Q:Yq}(c:C8 M fi)(r:Rm B k)(g:GS M fi L B k S H ow U X)(hl:lo 106=some (.ref L.fk))(h:∀H' ow',Keep H ow H' ow'->GS M fi L B k S H' ow' U X->Q (.lst<|U.map l3V) ⟨H',lo⟩):wpE tb.P (Yc<|n+1) E (.meth true (.loc 106) 95 .nil) ⟨H,lo⟩ Q:=by
 exact Za0 (σ:=⟨H,lo⟩) hl g.rep.fk m95<|Zhh g.rep c.m0 (la8<|g.ul r) λH' ow' R' k' gl w=>gvL (σ:=⟨H',lo⟩) gl<|h _ ow' (k'.del gl) ⟨R'.del gl w,g.inv,g.i9,g.nm⟩
theorem Zk9{E:EP}{Q:Yq}(c:C8 M fi)(r:Rm B k)(g:GS M fi L B k S H ow U X)(hl:lo 106=some (.ref L.fk))(h:∀H' ow',Keep H ow H' ow'->GS M fi L B k S H' ow' U X->Q (.int U.length) ⟨H',lo⟩):wpE tb.P (Yc<|n+1) E (.call true (.glob 46)<|.cons (.meth true (.loc 106) 95 .nil) .nil) ⟨H,lo⟩ Q:=by
 refine Zak g46<|ZkW c r g hl λH' ow' k' g'=>?_;have h:=h H' ow' k' g';rw[← Lm (f:=l3V)]at h;exact h
theorem Zkx{i:Int}{k:V->Prop}(h0:0<=i)(h1:i<xs.length)(h:∀v∈xs,k v):atK xs i k:=by
 obtain⟨p,rfl⟩:=Int.eq_ofNat_of_zero_le h0;have lt:=lc9 h1;exact Zaa (o:=pyIdx (p:Int) xs.length) (Zal lt)<|Zaa (o:=xs[p]?) (Lg lt) (h _<|List.getElem_mem lt)
theorem Zbd{p:V->Prop}{a:V}{b:List V}(h1:p a)(h2:∀v∈b,p v):∀v∈a::b,p v:=λv hv=>(Mc hv).elim (λz=>z▸h1)<|h2 v
theorem Ziu{p:V->Prop}:∀v∈([]:List V),p v:=λv hv=>nomatch hv
theorem at4{p q r s i:Int}{k:V->Prop}(h0:0<=i)(h1:i<4)(h:∀x:Int,k<|.int x):atK [.int p,.int q,.int r,.int s] i k:=by
 exact Zkx h0 h1<|Zbd (h p)<|Zbd (h q)<|Zbd (h r)<|Zbd (h s) Ziu
theorem f176:tb.P.fn 176=some Zbs:=by kernel_rfl
theorem Zk0{S0':Gh}(hs:∀H,still v xs H)(c:C8 M fi)(r:Rm B k)(Q:Yf)(h:∀H' lo',GN M fi L B k S0' H₀ ow0' H'->Q .next ⟨H',lo'⟩):
  ∀(N:Nat)(a:Int)(H:Hp)(S:Gh)(ow:Nat->Nat)(U:List Letter)(X:Nat->Hd)(lo:Loc),0<=a->a+N<=12->Fu S0' S->Keep H₀ ow0' H ow->GS M fi L B k S H ow U X->lo 106=some (.ref L.fk)->lo 139=some (.int m)->
  loopGo (λv σ2 k=>bindT [25] v σ2 λσ3=>wpSs tb.P (Yc<|n+6) ZaF σ3 k noE) (still v xs) (rngL a 1 N) ⟨H,lo⟩ Q:=by
 intro N
 induction N with
 |zero=>exact λa H S ow U X lo h0 h1 sb kp g l1 l2=>⟨hs H,h H lo ⟨S,ow,U,X,sb,kp,g⟩⟩
 |succ N ih=>
  intro a H S ow U X lo h0 h1 sb kp g l1 l2;refine⟨hs H,?_⟩;show wpSs tb.P (Yc (n+6)) ZaF ⟨H,upd lo 25 (.int a)⟩ _ noE;refine Zbp<|Zk9 (n:=n+5) c r g l1 λH₁ ow1 k₁ g1'=>?_;have nx:=lo8 h0 h1;refine Zby (b:=decide<|(0:Int)<U.length) (λp=>?_) λp=>ih (a+1) H₁ S ow1 U X _ nx.1 nx.2 sb (kp.trans k₁) g1' l1 l2;have p:=Od p;have i0:=Int.fmod_nonneg_of_pos (fdiv m 3) (show(0:Int)<4 by decide);have i1:=Int.fmod_lt_of_pos (fdiv m 3) (show(0:Int)<4 by decide);refine Za0 (σ:=⟨H₁,_⟩) (l:=106) l1 g1'.rep.fk m84<|Zaa (o:=lo 139) l2<|⟨⟨by decide,by decide⟩,?_⟩;refine Zaa (o:=lo 139) l2<|⟨⟨by decide,by decide⟩,?_⟩;refine⟨.inr (Nl (lo9 (k:=12) nx.1 (It (Int.le_add_of_nonneg_right (natCast_nonneg N)) nx.2)) (by decide)),?_⟩;refine⟨Zad rfl,?_⟩;refine Zaa (o:=lo 139) l2<|⟨⟨by decide,by decide⟩,?_⟩;refine⟨by decide,?_⟩;refine at4 i0 i1 λx=>?_;obtain⟨q,e,hq⟩:=ZaM (x:=x) (n:=U.length)<|Int.ofNat_lt.mp p;refine⟨show((U.length:Nat):Int)≠0 from λz=>absurd p<|z▸Int.lt_irrefl _,?_⟩;rw[e];refine ZjL c r g1' hq λH2' S2' ow2 U2 X2 sb2 k₂ g2' ø=>gv rfl ?_;exact ih (a+1) H2' S2' ow2 U2 X2 _ nx.1 nx.2 (sb.tr sb2) (kp.trans (k₁.trans k₂)) g2' l1 l2
theorem Zom{E:Yh}(c:C8 M fi)(r:Rm B k)(g:GS M fi L B k S H ow U X)(h:∀H',GN M fi L B k S H ow H'->Q .none H'):Yc (n+7) 176 [.ref L.fk,.int m] H Q E:=by
 have i0:=Int.fmod_nonneg_of_pos m (show(0:Int)<12 by decide);have i1:=Int.fmod_lt_of_pos m (show(0:Int)<12 by decide);refine Zac _ _ _ f176 rfl<|⟨by decide,?_⟩;have i2:0<=1+fmod m 12:=Int.add_nonneg (by decide) i0;have i3:(1+fmod m 12).natAbs<=12:=lo9 i2<|Int.add_comm _ 1▸i1;refine⟨Nt i3<|Bq rfl,?_⟩;exact Zk0 (v:=.rng 0 (1+fmod m 12) 1) (xs:=rngL 0 1<|rngN 0 (1+fmod m 12) 1) (λø=>rfl) c r _ (λH' lo' gn=>h H' gn) _ 0 H S ow U X _ (Int.le_refl 0) (by unfold rngN;rw[if_pos rfl,Int.sub_zero,Int.zero_add,Int.toNat_of_nonneg i2,Int.add_comm];exact i1) .rf Keep.refl g rfl rfl
theorem f180:tb.P.fn 180=some ZcA:=by kernel_rfl
theorem ZlX{S0':Gh}(c:C8 M fi)(r:Rm B k)(Q:Yf)(h:∀H' lo',GN M fi L B k S0' H₀ ow0' H'->Q .next ⟨H',lo'⟩):
  ∀(F p l:Nat)(H:Hp)(S:Gh)(ow:Nat->Nat)(U:List Letter)(X:Nat->Hd)(lo:Loc),l<F+p->p<=l->l<=U.length->Fu S0' S->Keep H₀ ow0' H ow->GS M fi L B k S H ow U X->lo 106=some (.ref L.fk)->lo 188=some (.str s)->lo 189=some (.lst<|iV aw)->lo 190=some (.int l)->lo 164=some (.int p)->
  whileGo (λσ1 k=>wpT tb.P (Yc<|n+6) noE (.e<|.cmp .lt (.loc 164)<|.loc 190) σ1 k) (λσ1 k=>wpSs tb.P (Yc<|n+6) ZaK σ1 k noE) F ⟨H,lo⟩ Q:=by
 intro F
 induction F with
 |zero=>exact λp l H S ow U X lo hF hpl=>absurd hF<|by exact λzz=>Nat.not_le_of_lt zz<|lf4 hpl
 |succ F ih=>
  intro p l H S ow U X lo hF hpl hlU sb kp g l1 l2 l3 l4 l5;refine Zaa (o:=lo 164) l5<|Zaa (o:=lo 190) l4<|Zby (b:=decide<|(p:Int)<(l:Int)) (λq=>?_) λø=>h H lo ⟨S,ow,U,X,sb,kp,g⟩;have q:p<l:=Int.ofNat_lt.mp<|Od q;have pU:p<U.length:=Gl q hlU;show wpSs tb.P (Yc (n+6)) ZaK ⟨H,lo⟩ _ noE;refine Zbp<|ZkW (n:=n+5) c r g l1 λH₁ ow1 k₁ g1'=>?_;refine Zaa (o:=lo 164) l5<|Zaa (o:=pyIdx (p:Int) (U.map l3V).length) (Zal (by rw[Lm];exact pU))<|Zaa (o:=(U.map l3V)[p]?) (by rw[getElem?_map,Lg pU];rfl) ?_;generalize U[p]=Lt;have go:∀lo',lo' 106=some (.ref L.fk)->lo' 188=some (.str s)->lo' 189=some (.lst (iV aw))->lo' 190=some (.int l)->lo' 164=some (.int (p+1:Nat))->whileGo (λσ1 k=>wpT tb.P (Yc (n+6)) noE (.e (.cmp .lt (.loc 164) (.loc 190))) σ1 k) (λσ1 k=>wpSs tb.P (Yc (n+6)) ZaK σ1 k noE) F ⟨H₁,lo'⟩ Q:=λlo' a1 a2 a3 a4 a5=>ih (p+1) l H₁ S ow1 U X lo' (by exact Gl hF<|la2 (Zr _)) q hlU sb (kp.trans k₁) g1' a1 a2 a3 a4 a5;refine Zaa (o:=lo 188) l2<|Zby (b:=eqD (.str Lt.c.word)<|.str s) (λø=>?_) λø=>Zaa (o:=lo 164) l5<|go _ l1 l2 l3 l4 rfl;refine Zaa (o:=lo 189) l3<|Zaa (o:=deepL (deepN H₁ 11)<|iV aw) (Zck aw)<|Zby (b:=!((iV aw).any λz=>eqD z<|.int Lt.to)) (λø=>?_) λø=>Zaa (o:=lo 164) l5<|go _ l1 l2 l3 l4 rfl;refine Za0 (σ:=⟨H₁,_⟩) (l:=106) l1 g1'.rep.fk m84<|Zaa (o:=lo 164) l5<|ZjL c r g1' pU λH2' S2' ow2 U2 X2 sb2 k₂ g2' hl=>gv rfl ?_;refine Zaa (o:=lo 190) l4 ?_;obtain⟨l',rfl⟩:=lp2 q;refine ih p l' H2' S2' ow2 U2 X2 _ (lp1 hF) (by exact le_of_lt_succ q) (by exact le_of_lt_succ<|la1 (Nt hlU hl)) (sb.tr sb2) (kp.trans (k₁.trans k₂)) g2' l1 l2 l3 ?_ l5;show some (V.int ((l'+1:Nat) - 1))=_;rw[show((l'+1:Nat):Int) - 1=l' from lh3]
theorem Zfp{E:Yh}(c:C8 M fi)(r:Rm B k)(g:GS M fi L B k S H ow U X)(h:∀H',GN M fi L B k S H ow H'->Q .none H'):Yc (n+7) 180 [.ref L.fk,.str s,.lst<|iV aw] H Q E:=by
 refine Zac _ _ _ f180 rfl<|Zbp (Zk9 (n:=n+5) c r g rfl λH₁ ow1 k₁ g1'=>?_);refine⟨U.length+1,?_⟩;exact ZlX c r _ (λH' lo' gn=>h H' gn) (U.length+1) 0 U.length H₁ S ow1 U X _ (by exact lt_succ_self _) (Zz _) (Zr _) .rf k₁ g1' rfl rfl rfl rfl rfl
end
theorem m76:methOf tb.P 60 76=some 248:=by kernel_rfl
theorem m77:methOf tb.P 60 77=some 269:=by kernel_rfl
theorem m78:methOf tb.P 60 78=some 270:=by kernel_rfl
theorem m79:methOf tb.P 60 79=some 271:=by kernel_rfl
theorem m80:methOf tb.P 60 80=some 249:=by kernel_rfl
theorem g51:tb.P.glob 51=some (.cls 51):=by kernel_rfl
theorem f175:tb.P.fn 175=some Zcq:=by kernel_rfl
theorem sub51{e:Nat}(h:isRf e=true):tb.P.sub e 51=true:=by
 have h:=An h;have a:=Bq h.1;have b:=Bq h.2;have q:=Al (show((List.range 8).all λk=>tb.P.sub (k+51) 51)=true by kernel_rfl) (e - 51)<|List.mem_range.mpr<|Nat.lt_succ_of_le<|Nat.sub_le_of_le_add b;exact Nat.sub_add_cancel a▸q
section
variable {B:Nat}{S:Gh}
theorem GS.more(g:GS M fi L B k S H ow U X)(R:Rep H' ow' L M U X):GS M fi L (B+9000) (k+1) S H' ow' U X:=⟨R,g.inv,g.i9,g.nm.mono (Ar ..)<|Us _⟩
theorem abl(x:Hd):(x.up=true/\∃pl,x.place=some pl)\/(x.up=false\/x.place=none):=by
 induction e:x.up with
 |false=>exact .inr<|.inl rfl
 |true=>
  induction q:x.place with
  |none=>exact .inr<|.inr rfl
  |some pl=>exact .inl ⟨rfl,pl,rfl⟩
structure Dd(M:Nat)(fi:List Int)(L:Lay)(B k:Nat)(S:Gh)(H:Hp)(ow:Nat->Nat)(Q:V->Hp->Prop)(E:Yh):Prop where
 y:∀H',GN M fi L B k S H ow H'->Q .none H'
 n:∀e H' j,isRf e=true->GN M fi L B k S H ow H'->H'.get j=some (.exc e)->E j H'
theorem ZpU{E:Yh}(c:C8 M fi)(r:Rm B k)(g:GS M fi L B k S H ow U X)(ht:t<M)(hy:∀H' ow' S' U' pl,(X t).place=some pl->S'.Sd=upG S.Sd t (S.Sd t++[(pl,w)])->(∀u,S.Go u <+:S'.Go u)->Keep H ow H' ow'->GS M fi L (B+9000) (k+1) S' H' ow' U' (updX X t { X t with said:=(X t).said+1 })->Q .none H')(hn:∀e H' ow' j,isRf e=true->Keep H ow H' ow'->GS M fi L (B+9000) (k+1) S H' ow' U X->H'.get j=some (.exc e)->E j H'):Yc (n+4) 248 [.ref L.fk,.int t,.str w] H Q E:=by
 rcases abl (X t) with⟨hu,pl,hp⟩ |z
 ·have f:=g.inv.is.lfi ((g.inv.hs t ht).p pl hp).ms;have ne:(X t).ms≠[]:=f.ne
  induction hf:(X t).ms using List.casesOn with
  |nil=>exact absurd hf ne
  |cons a as=>
   refine Zo5 g.rep ht hu hp hf (la9 (g.ul r)<|by decide) λH' ow' R' k'=>?_;obtain⟨S',e1,e2,I',J'⟩:=say9 (w:=w) g.inv g.i9 ht hp hf;refine hy H' ow' S' _ pl hp e1 e2 k' ⟨R',I',J',g.nm.add ht (Bq rfl) (Bq rfl) (Zr _) (Zr _) λL hL m p e=>?_⟩;obtain rfl:=Mg hL;injection e
 ·exact ZkJ g.rep ht z λe H' ow' j he R kp ge=>hn e H' ow' j he kp (g.more R) ge
variable {E:Yh}(c:C8 M fi)(r:Rm B k)(g:GS M fi L B k S H ow U X)(ht:t<M)(d:Dd M fi L (B+9000) (k+1) S H ow Q E)
include g d
theorem ZjJ:∀e H' ow' j,isRf e=true->Rep H' ow' L M U X->Keep H ow H' ow'->H'.get j=some (.exc e)->E j H':=λe H' ow' j he R kp ge=>d.n e H' j he ⟨S,ow',U,X,.rf,kp,g.more R⟩ ge
theorem Zmu{ns:List Letter}{x:Hd}(ht:t<M)(N:Nx9 M fi S (U++ns) (updX X t x))(hw:wsum ns<=9000)(hc:wc ns<=1)(hs:sz x<=sz (X t))(hr:x.row.length<=(X t).row.length)(hh:∀L∈ns,∀m p,L.c=.hold m p->p+1+wc U<=(k:Int))(R:Rep H' ow' L M (U++ns) (updX X t x))(kp:Keep H ow H' ow'):Q .none H':=by
 obtain⟨S',sub,J,J9⟩:=N;exact d.y H' ⟨S',ow',_,_,sub,kp,R,J,J9,g.nm.add ht hw hc hs hr hh⟩
include c r ht
theorem ZnJ:Yc (n+3) 249 [.ref L.fk,.int t] H Q E:=by
 induction hu:(X t).up with
 |false=>exact ZiM g.rep ht hu<|ZjJ g d
 |true=>
  refine ZmI g.rep ht hu λH' ow' R' k'=>?_;obtain⟨S',sub,J,J9⟩:=fall9 g.inv g.i9 ht;refine d.y H' ⟨S',ow',U,_,sub,k',R',J,J9,?_⟩
  have N:=g.nm.add (ns:=[]) (x:={ X t with up:=false }) ht (Zz _) (Zz _) (Zr _) (Zr _) λL h=>nomatch h
  rw[append_nil]at N;exact N
theorem ZnD(fl:Fi M l):Yc (n+4) 270 [.ref L.fk,.int t,.lst<|iV l] H Q E:=by
 rcases abl (X t) with⟨hu,pl,hp⟩ |z
 ·have m6:=ms6 g.inv ht c.m6;refine ZmP g.rep ht hu hp fl (Nt fl.len<|Nt c.m6<|Bq rfl) (Nt m6<|by decide) (la9 (g.ul r)<|by decide) λH' ow' R' k'=>Zmu g d ht (prop9 g.inv g.i9 ht hp fl) ?_ ?_ ?_ (Zr _) (λL hL m p e=>?_) R' k'
  ·rw[Za1];exact Nt (Nat.mul_le_mul_right _ m6)<|Bq rfl
  ·rw[Zb4 rfl];exact Zz _
  ·show(X t).gone.length+(X t).holds.length+0<=sz (X t);exact Fl (Zz _) _
  ·obtain⟨i,_,q⟩:=Zam hL;rw[q]at e;injection e
 ·exact ZfX g.rep ht z<|ZjJ g d
theorem Zot(hu':u<M):Yc (n+4) 271 [.ref L.fk,.int t,.int u] H Q E:=by
 have h9:M<=9:=Nt c.m6<|by decide
 rcases abl (X t) with⟨hu,pl,hp⟩ |z
 ·induction hn:(X t).news with
  |none=>exact Zf5 g.rep ht hu' h9 (.inr<|.inr ⟨pl,hu,hp,hn⟩)<|ZjJ g d
  |some w=>
   refine ZmJ g.rep ht hu' h9 hu hp hn (la9 (g.ul r)<|by decide) λH' ow' R' k'=>Zmu (x:=X t) g d ht (by rw[Zaf];exact show9 g.inv g.i9 ht hu' hp hn) (Bq rfl) (Zz _) (Zr _) (Zr _) (λL hL m p e=>?_) (by rw[Zaf];exact R') k';obtain rfl:=Mg hL;injection e
 ·exact Zf5 g.rep ht hu' h9 (z.imp id .inl)<|ZjJ g d
theorem Zmd:Yc (n+4) 269 [.ref L.fk,.int t] H Q E:=by
 rcases abl (X t) with⟨hu,pl,hp⟩ |z
 ·have f:=g.inv.is.lfi ((g.inv.hs t ht).p pl hp).ms;have ne:(X t).ms≠[]:=f.ne;have m6:=ms6 g.inv ht c.m6;have o6:(oth t (X t).ms).length<=6:=Nt (Zbr t _) m6;have hr:(X t).row.length+wc U<=k:=g.nm.r t ht;have hrk:(X t).row.length<=99:=Nt (la8 hr)<|Nat.le_of_succ_le_succ r.k;have lr:(X t).row.length * (oth t (X t).ms).length<=99 * 6:=Nat.mul_le_mul hrk o6
  induction hf:(X t).ms using List.casesOn with
  |nil=>exact absurd hf ne
  |cons a as=>
   by_cases ha:a=(t:Int)
   ·refine Zl5 g.rep ht hu hp hf ha (Nt m6<|by decide) ?_ λH' ow' R' k'=>Zmu (x:=X t) g d ht (by rw[Zaf];exact press9 g.inv g.i9 ht hp<|ha▸hf) ?_ ?_ (Zr _) (Zr _) (λL hL m p e=>?_) (by rw[Zaf];exact R') k'
    ·rw[add_assoc];exact Nt (Fl (Nt (Fr lr 50) (by decide:99 * 6+50<=10100)) _)<|g.ul r
    ·rw[Zbq,ZfC.1,Za1];have:(X t).row.length * ((oth t (X t).ms).length * 11)<=99 * 66:=Nat.mul_le_mul hrk<|Nat.mul_le_mul_right 11 o6;exact Nt (Nat.add_le_add this<|Nat.mul_le_mul_right 1 o6)<|by decide
    ·rw[Zda,ZfC.2,Zb4 rfl];exact Zz _
    ·rcases Mp hL with z |z
     ·obtain⟨m',j,i,_,q,lj⟩:=ZeU z;rw[q]at e;cases e;exact It (Int.add_le_add_right (Int.ofNat_le.mpr<|zero_add (X t).row.length▸lj) _)<|ld2 hr
     ·obtain⟨i,_,q⟩:=Zam z;rw[q]at e;injection e
   ·exact ZeD g.rep ht (.inr<|.inr ⟨pl,a,as,hu,hp,hf,ha⟩)<|ZjJ g d
 ·exact ZeD g.rep ht (z.imp id .inl)<|ZjJ g d
end
theorem Zay(M:Nat):rngN 0 (M:Nat) 1=M:=by unfold rngN;rw[if_pos rfl];exact le8
theorem ZoY{E:EP}{l:Nat}{a:PE}{Q:Yq}(hn:P.nAppend=0)(hl:σ.loc l=some (.ref j))(hg:σ.H.get j=some (.list xs))(ha:∀Q':Yq,Q' v σ->wpE P K E a σ Q')(hz:xs.length<SZ)(h:Q .none (σ.setH<|σ.H.set j<|.list<|xs++[v])):wpE P K E (.meth fz (.loc l) 0<|.cons a .nil) σ Q:=by
 refine Zaa (o:=σ.loc l) hl ?_
 show(match σ.H.get j with
  |some (.inst k _)=>_
  |some (.list _)=>Nd ((beq 0 P.nAppend ||(beq 0 P.nPop ||beq 0 P.nExtend))=true)<|wpEs P K E (.cons a .nil) σ λvs σ2=>need (cL<|σ2.H.get j) λxs=>methL P σ2 j 0 vs xs Q
  |some (.dict _)=>_
  |_=>False)
 rw[hg];refine⟨by rw[hn];rfl,ha _ ?_⟩;refine Zaa (o:=cL<|σ.H.get j) (a:=xs) (by rw[hg];rfl) ?_;show Br (beq 0 P.nAppend) _ _;rw[hn];exact⟨hz,h⟩
theorem Zg3{α:Type}{l:List α}{f:α->V}{a:α}{k:V->Prop}(hp:l[p]?=some a)(h:k (f a)):atK (l.map f) (p:Int) k:=by
 have lt:=(List.getElem?_eq_some_iff.mp hp).1;exact Zaa (o:=pyIdx (p:Int) (l.map f).length) (Zal (by rw[Lm];exact lt))<|Zaa (o:=(l.map f)[p]?) (by rw[getElem?_map,hp];rfl) h
theorem sz0(h:n<=30000):n<=SZ:=ZpK<|Nt h<|by decide
theorem sz9(h:n<=9):n<=SZ:=sz0<|Nt h<|by decide
theorem f9:tb.P.fn 9=some Zdt:=by kernel_rfl
theorem f11:tb.P.fn 11=some Zcu:=by kernel_rfl
theorem Zev{E:Yh}(h:∀x:Int,Q (.int x) H):Yc (n+1) 9 [.lst<|is.map .int,.int k] H Q E:=by
 refine Zac _ _ _ f9 rfl<|Zby (b:=decide<|(k:Int)<((is.map V.int).length:Nat)) (λc=>?_) λc=>?_
 ·have c:=Od c;rw[Lm]at c;exact Zg3 (Lg<|show k<is.length by exact lc9 c)<|h _
 ·exact h 0
theorem Zgn(hs:∀H,still v xs H)(Q:Yf):
  ∀(N p:Nat)(b:Int)(zs:List Int)(H:Hp)(lo:Loc),p+N<=100->H.get j=some (.list<|iV zs)->zs.Pairwise (· < ·)->(∀z∈zs,0<=z/\z<p)->zs.length<=p->lo 26=some (.ref j)->lo 27=some (.int b)->(∀i c,H₀.get i=some c->i≠j->H.get i=some c)->
  (∀zs' H' lo',H'.get j=some (.list<|iV zs')->zs'.Pairwise (· < ·)->(∀z∈zs',0<=z/\z<((p+N:Nat):Int))->lo' 26=some (.ref j)->(∀i c,H₀.get i=some c->i≠j->H'.get i=some c)->Q .next ⟨H',lo'⟩)->
  loopGo (λv σ2 k=>bindT [29] v σ2 λσ3=>wpSs tb.P K Za8 σ3 k noE) (still v xs) (rngL p 1 N) ⟨H,lo⟩ Q:=by
 intro zz0
 induction zz0 with
 |zero=>
  intro p b zs H lo hp g z1 z2 z3 l1 l2 kp h;exact⟨hs H,h zs H lo g z1 z2 l1 kp⟩
 |succ N ih=>
  intro p b zs H lo hp g z1 z2 z3 l1 l2 kp h;have h':∀zs' H' lo',H'.get j=some (.list (iV zs'))->zs'.Pairwise (· < ·)->(∀z∈zs',0<=z/\z<((p+1+N:Nat):Int))->lo' 26=some (.ref j)->(∀i c,H₀.get i=some c->i≠j->H'.get i=some c)->Q .next ⟨H',lo'⟩:=λzs' H' lo' a b c d=>h zs' H' lo' a b (λz hz=>by have:=c z hz;exact lf3 this) d;refine⟨hs H,?_⟩;show wpSs tb.P K Za8 ⟨H,upd lo 29 (.int p)⟩ _ noE;refine Zaa (o:=lo 27) l2<|⟨by decide,?_⟩;refine Zby (b:=decide<|fmod b 2=1) (λc=>?_) λc=>?_
  ·refine Zat<|ZoY (σ:=⟨H,upd lo 29<|.int p⟩) (l:=26) (j:=j) (v:=.int p) rfl l1 g (λø q=>q) (by rw[Zaj];exact sz0<|la7 (Nt (Fs z3)<|lg8 hp) rfl)<|Zaa (o:=lo 27) l2<|⟨⟨by decide,by decide⟩,?_⟩
   have e:iV zs++[.int p]=iV (zs++[(p:Int)]):=by unfold iV;rw[map_append];rfl
   refine ih (p+1) (fdiv b 2) (zs++[(p:Int)]) _ _ (by exact la2 hp) (by rw[← e];exact(Hp.get_set g).trans (if_pos rfl)) ?_ ?_ ?_ l1 rfl (λi c q ne=>((Hp.get_set g).trans<|if_neg ne).trans<|kp i c q ne) h'
   ·refine List.pairwise_append.mpr ⟨z1,pairwise_singleton ..,λa ha b hb=>?_⟩;obtain rfl:=Mg hb;exact(z2 a ha).2
   ·intro z hz
    rcases Mp hz with hz |hz
    ·have:=z2 z hz;exact⟨this.1,Int.lt_of_lt_of_le this.2<|ld2<|Ar _ _⟩
    ·obtain rfl:=Mg hz;exact⟨ld2<|Zz _,ld1<|lt_succ_self _⟩
   ·rw[La];show _+1<=_;exact Fs z3
  ·refine Zaa (o:=lo 27) l2<|⟨⟨by decide,by decide⟩,?_⟩;exact ih (p+1) (fdiv b 2) zs H _ (by exact la2 hp) g z1 (λz hz=>by have:=z2 z hz;exact⟨this.1,Int.lt_of_lt_of_le this.2<|ld2<|Ar _ _⟩) (by exact Nat.le_succ_of_le z3) l1 rfl kp h'
theorem Zek{Q:Yq}{E:Yh}(hM:M<=9)(h:∀zs H',(∀i c,σ.H.get i=some c->H'.get i=some c)->zs.Pairwise (· < ·)->(∀z∈zs,0<=z/\z<(M:Int))->Q (.lst<|iV zs) (σ.setH H')):Yc (n+1) 11 [.int b,.int M] σ.H (λv H'=>giveV true (σ.setH H') Q v) E:=by
 refine Zac _ _ _ f11 rfl<|⟨Zad rfl,?_⟩;refine⟨show((M:Nat):Int).natAbs<=SZ by rw[Int.natAbs_natCast];exact sz9 hM,?_⟩;refine Zgn (H₀:=σ.H) (j:=σ.H.next) (v:=.rng 0 (M:Nat) 1) (xs:=rngL 0 1<|rngN 0 (M:Nat) 1) (λø=>rfl) _ (rngN 0 (M:Nat) 1) 0 b [] (σ.H.new<|.list []) _ (by rw[Zay];exact lf4<|la7 hM rfl) (by rw[Hp.get_new,if_pos rfl];rfl) .nil (λø h=>nomatch h) (Zr _) rfl rfl (λi c q ne=>(Hp.get_new.trans<|if_neg ne).trans q) λzs H' lo' g z1 z2 l kp=>Zaa (o:=lo' 26) l ?_;show(match cL (H'.get σ.H.next) with |some xs=>Q (.lst xs) ((σ.setH H').setH<|H'.del σ.H.next) |none=>_);rw[g]
 refine h zs _ (λi c q=>?_) z1 λz hz=>by have:=z2 z hz;rw[Zay]at this;exact li1 (p:=0) this
 have ne:i≠σ.H.next:=Nx<|Zas q;exact((Hp.get_del g).trans<|if_neg ne).trans (kp i c q ne)
theorem f270e{k:Int}{x:Hd}{E:Yh}(o:AtA t M hs)(hu:x.up=true)(hp:x.place=some pl)(h:∀e,isRf e=true->E 19 ⟨fA (.int M) hs U k x [some<|.exc e]⟩):Yc (n+4) 270 [.ref 0,.int t,.lst []] ⟨fA (.int M) hs U k x []⟩ Q E:=by
 exact Zac _ _ _ f270 rfl<|Zc1 o hu hp<|Zac _ _ _ f7l rfl<|⟨rfl,h 53 rfl⟩
section
variable {B:Nat}{S:Gh}{E:Yh}
theorem ZlH(c:C8 M fi)(r:Rm B k)(g:GS M fi L B k S H ow U X)(ht:t<M)(d:Dd M fi L (B+9000) (k+1) S H ow Q E)(fl:l=[]\/Fi M l):Yc (n+4) 270 [.ref L.fk,.int t,.lst<|iV l] H Q E:=by
 rcases fl with rfl |fl
 ·rcases abl (X t) with⟨hu,pl,hp⟩ |z
  ·exact focA g.rep ht (λø=>rfl) λQ₁ E1 F=>f270e (Zbh ht) hu hp<|Zdy g.rep ht F<|ZjJ g d
  ·exact ZfX g.rep ht z<|ZjJ g d
 ·exact ZnD c r g ht d fl
end
section
variable {B:Nat}{S:Gh}{E:Yh}
theorem Zdn{w:Int}(c:C8 M fi)(r:Rm B k)(g:GS M fi L B k S H ow U X)(ht:t<M)(h0:w≠0)(h3:w=3->∃l,v=.lst (iV l)/\(l=[]\/Fi M l))(h4:w≠1->w≠2->w≠3->∃u:Nat,u<M/\v=.int u)
  (h:∀b H',GN M fi L (B+9000) (k+1) S H ow H'->Q (.bool b) H'):Yc (n+5) 175 [.ref L.fk,.int w,.int t,v] H Q E:=by
 refine Zac _ _ _ f175 rfl<|ZlV g51 ?_
 have d:∀{Q':V->Hp->Prop}{E':Yh},(∀H',(∀b,Q (.bool b) H')->Q' .none H')->(∀e H' j,isRf e=true->(∀b,Q (.bool b) H')->H'.get j=some (.exc e)->E' j H')->Dd M fi L (B+9000) (k+1) S H ow Q' E':=λq e=>⟨λH' gn=>q H' λb=>h b H' gn,λx H' j hx gn ge=>e x H' j hx (λb=>h b H' gn) ge⟩
 have ex:∀{e:Nat}{H':Hp}{j:Nat}{lo:Loc},isRf e=true->(∀b,Q (.bool b) H')->H'.get j=some (.exc e)->need (cE<|H'.get j) λm=>Nd (tb.P.exc 51=true) (Nd (tb.P.sub m 51=true)<|Q (.bool false) H'):=λhe hb ge=>Zaa (a:=_) (by rw[ge];rfl) ⟨by kernel_rfl,sub51 he,hb false⟩;refine Zdv (b:=decide<|w=0) (Df h0)<|Zby (b:=decide<|w=1) (λw1=>?_) λw1=>Zby (b:=decide<|w=2) (λw2=>?_) λw2=>Zby (b:=decide<|w=3) (λw3=>?_) λw3=>?_
 ·refine Zat<|Za0 (σ:=⟨H,_⟩) (l:=106) rfl g.rep.fk m77 ?_;exact Zmd (n:=n) c r g ht<|d (λH' hb=>gv rfl<|hb true) λe H' j he hb ge=>ex (lo:=λø=>none) he hb ge
 ·refine Zat<|Za0 (σ:=⟨H,_⟩) (l:=106) rfl g.rep.fk m80 ?_;exact ZnJ (n:=n+1) c r g ht<|d (λH' hb=>gv rfl<|hb true) λe H' j he hb ge=>ex (lo:=λø=>none) he hb ge
 ·obtain⟨l,rfl,fl⟩:=h3<|Od w3;refine Zat<|Za0 (σ:=⟨H,_⟩) (l:=106) rfl g.rep.fk m78 ?_;exact ZlH (n:=n) c r g ht (d (λH' hb=>gv rfl<|hb true) λe H' j he hb ge=>ex (lo:=λø=>none) he hb ge) fl
 ·obtain⟨u,lu,rfl⟩:=h4 (of_decide_eq_false w1) (of_decide_eq_false w2)<|of_decide_eq_false w3;refine Zat<|Za0 (σ:=⟨H,_⟩) (l:=106) rfl g.rep.fk m79 ?_;exact Zot (n:=n) c r g ht (d (λH' hb=>gv rfl<|hb true) λe H' j he hb ge=>ex (lo:=λø=>none) he hb ge) lu
theorem ZmB(c:C8 M fi)(r:Rm B k)(g:GS M fi L B k S H ow U X)(ht:t<M)(hy:∀H' ow' S' U' pl,(X t).place=some pl->S'.Sd=upG S.Sd t (S.Sd t++[(pl,w)])->(∀u,S.Go u <+:S'.Go u)->Keep H ow H' ow'->GS M fi L (B+9000) (k+1) S' H' ow' U' (updX X t { X t with said:=(X t).said+1 })->Q (.bool true) H')
  (hn:∀H' ow',Keep H ow H' ow'->GS M fi L (B+9000) (k+1) S H' ow' U X->Q (.bool false) H'):Yc (n+5) 175 [.ref L.fk,.int 0,.int t,.str w] H Q E:=by
 refine Zac _ _ _ f175 rfl<|ZlV g51<|Zo9 (λkk q=>q)<|Zat (Za0 (σ:=⟨H,_⟩) (l:=106) rfl g.rep.fk m76 ?_);exact ZpU (n:=n) c r g ht (λH' ow' S' U' pl hp e1 e2 kp g'=>gv rfl<|hy H' ow' S' U' pl hp e1 e2 kp g') λe H' ow' j he kp g' ge=>Zaa (o:=cE<|H'.get j) (a:=e) (by rw[ge];rfl) ⟨by kernel_rfl,sub51 he,hn H' ow' kp g'⟩
end
theorem f181:tb.P.fn 181=some Zdl:=by kernel_rfl
theorem g11:tb.P.glob 11=some (.fn 11):=by kernel_rfl
theorem g181:tb.P.glob 181=some (.fn 181):=by kernel_rfl
theorem g180:tb.P.glob 180=some (.fn 180):=by kernel_rfl
theorem g175:tb.P.glob 175=some (.fn 175):=by kernel_rfl
theorem Zka{E:Yh}(hM:M<=9)(h:∀zs H',(∀i c,H.get i=some c->H'.get i=some c)->Q (.lst<|iV zs) H'):Yc (n+2) 181 [.int b,.int M] H Q E:=by
 refine Zac _ _ _ f181 rfl<|⟨by decide,?_⟩;refine Zby (b:=decide<|fmod b 3=0) (λø=>⟨Zz _,h [] H λø ø z=>z⟩) λø=>ZnY<|Zak g11 ?_;refine⟨⟨by decide,by decide⟩,?_⟩;exact Zek (σ:=⟨H,_⟩) hM λzs H' kp ø ø=>h zs H' kp
section
variable {B:Nat}{S:Gh}
theorem GS.ext(g:GS M fi L B k S H ow U X)(kp:∀i c,H.get i=some c->H'.get i=some c):GS M fi L B k S H' ow U X:=⟨g.rep.frame λj c q ø=>kp j c q,g.inv,g.i9,g.nm⟩
theorem Keep.ext(kp:∀i c,H.get i=some c->H'.get i=some c):Keep H ow H' ow:=λj c q w=>⟨kp j c q,w⟩
end
theorem f182:tb.P.fn 182=some Za4:=by kernel_rfl
theorem ZfV(l:List Int):deep H (.lst<|iV l)=some (.lst<|iV l):=by
 show mL (deepL (deepN H 11)<|iV l)=_;rw[Zck];rfl
theorem ZmL{zs:List Int}(h1:zs.Pairwise (· < ·))(h2:∀z∈zs,0<=z/\z<(M:Int)):zs=[]\/Fi M zs:=by
 induction zs using List.casesOn with
 |nil=>exact .inl rfl
 |cons a l=>exact .inr ⟨List.cons_ne_nil _ _,h1,h2⟩
theorem C8.nz(c:C8 M fi):(M:Int)≠0/\(M:Int).natAbs<1073741824:=⟨lg1 c.m0,Nl c.m6<|by decide⟩
section
variable {B:Nat}{S:Gh}
theorem Zk1{S0':Gh}(hs:∀H,still v xs H)(c:C8 M fi)(r:Rm B k)(Q:Yf)(h:∀H' lo',GN M fi L B k S0' H₀ ow0' H'->Q .next ⟨H',lo'⟩):
  ∀(ks:List V),(∀x∈ks,∃s,x=.str s)->∀(s:Int)(H:Hp)(S:Gh)(ow:Nat->Nat)(U:List Letter)(X:Nat->Hd)(lo:Loc),Fu S0' S->Keep H₀ ow0' H ow->GS M fi L B k S H ow U X->lo 106=some (.ref L.fk)->lo 139=some (.int m)->lo 28=some (.int M)->lo 132=some (.int s)->
  loopGo (λv σ2 k=>bindT [188] v σ2 λσ3=>wpSs tb.P (Yc<|n+7) Zbc σ3 k noE) (still v xs) ks ⟨H,lo⟩ Q:=by
 intro ks
 induction ks with
 |nil=>exact λø s H S ow U X lo sb kp g l1 l2 l3 l4=>⟨hs H,h H lo ⟨S,ow,U,X,sb,kp,g⟩⟩
 |cons x ks ih=>
  intro hx s H S ow U X lo sb kp g l1 l2 l3 l4;obtain⟨z,rfl⟩:=hx x<|.head _;refine⟨hs H,?_⟩;show wpSs tb.P (Yc (n+7)) Zbc ⟨H,upd lo 188 (.str z)⟩ _ noE;refine Zaa (o:=lo 132) l4<|Zaa (o:=lo 139) l2<|⟨.inr (by decide),?_⟩;refine⟨by decide,?_⟩;refine Zat<|Zak g180 ?_;refine Zaa (o:=lo 106) l1<|Zak g181<|Zaa (o:=lo 28) l3<|Zka (Nt c.m6 (by decide)) λzs H₁ k₁=>gv rfl ?_;refine Zfp c r (g.ext k₁) λH2' gn=>gv rfl ?_;obtain⟨S2',ow2,U2,X2,sb2,k₂,g2'⟩:=gn;exact ih (λx hx'=>hx x<|.tail _ hx') _ H2' S2' ow2 U2 X2 _ (sb.tr sb2) (kp.trans ((Keep.ext k₁).trans k₂)) g2' l1 l2 l3 rfl
def ks5:List V:=[.str Za3,.str Zbg,.str ZbM,.str Zdb,.str Za9]
noncomputable def psT:PSs->PSs
 |.cons _ r=>r
 |.nil=>.nil
theorem Zle{Q:Yf}{E:EP}(c:C8 M fi)(r:Rm B k)(g:GS M fi L B k S H ow U X)(l1:lo 106=some (.ref L.fk))(l2:lo 139=some (.int m))(l3:lo 28=some (.int M))(h:∀H' lo',GN M fi L B k S H ow H'->Q .next ⟨H',lo'⟩):wpSs tb.P (Yc<|n+7) (psT<|psT Za4.body) ⟨H,lo⟩ Q E:=by
 refine Zaa (o:=lo 139) l2<|⟨.inr<|by decide,?_⟩;refine⟨by decide,?_⟩;refine⟨Bq rfl,?_⟩;refine⟨by decide,?_⟩;refine⟨rfl,Dq<|Int.fmod_nonneg_of_pos _<|by decide,Nt (List.length_take_le' _ _)<|Bq rfl,?_⟩;refine Zeu rfl<|Zk1 (v:=.lst<|ks5.take (fmod (fmod ((m+5) * 48271) 10007) 6).toNat) (xs:=ks5.take (fmod (fmod ((m+5) * 48271) 10007) 6).toNat) (λø=>rfl) c r _ (λH' lo' gn=>?_) (ks5.take (fmod (fmod ((m+5) * 48271) 10007) 6).toNat) (λx hx=>?_) (fmod ((m+5) * 48271) 10007) H S ow U X (upd lo 132<|.int<|fmod ((m+5) * 48271) 10007) .rf Keep.refl g l1 l2 l3 rfl
 ·exact h H' lo' gn
 have hx:=List.mem_of_mem_take hx
 rcases Mc hx with rfl |hx
 ·exact⟨_,rfl⟩
 rcases Mc hx with rfl |hx
 ·exact⟨_,rfl⟩
 rcases Mc hx with rfl |hx
 ·exact⟨_,rfl⟩
 rcases Mc hx with rfl |hx
 ·exact⟨_,rfl⟩
 rcases Mc hx with rfl |hx
 ·exact⟨_,rfl⟩
 ·exact nomatch hx
theorem ZlG{E:Yh}(c:C8 M fi)(r:Rm B k)(r':Rm (B+9000) (k+1))(g:GS M fi L B k S H ow U X)(h:∀H',GN M fi L (B+9000) (k+1) S H ow H'->Q .none H'):Yc (n+8) 182 [.ref L.fk,.int m,.int M] H Q E:=by
 have h9:M<=9:=Nt c.m6 (by decide);obtain⟨t,et,ht⟩:=ZaM (x:=m) (n:=M) c.m0;refine Zac _ _ _ f182 rfl<|Zbp (Zak g11 ?_);refine⟨c.nz,?_⟩;refine Zek (n:=n+6) (σ:=⟨H,_⟩) h9 λzs H₁ k₁ z1 z2=>Zat<|Zak g175 ?_;refine⟨c.nz.1,?_⟩;rw[et]
 have tl:Fi M [(t:Int)]:=⟨List.cons_ne_nil _ _,pairwise_singleton ..,λi hi=>by obtain rfl:=Mg hi;exact⟨natCast_nonneg t,Int.ofNat_lt.mpr ht⟩⟩
 refine⟨Zz _,?_⟩;refine Zaa (o:=deep H₁<|.lst<|iV zs) (ZfV zs) ?_
 have fin:∀{lo:Loc}{H2':Hp},lo 106=some (.ref L.fk)->lo 139=some (.int m)->lo 28=some (.int M)->GN M fi L (B+9000) (k+1) S H₁ ow H2'->wpSs tb.P (Yc<|n+7) (psT<|psT Za4.body) ⟨H2',lo⟩ (λfl σ=>Q (retV fl) σ.H) λe σ=>E e σ.H:=λ{lo H2'} l1 l2 l3 gn=>by
  obtain⟨S2',ow2,U2,X2,sb2,k₂,g2'⟩:=gn;refine Zle c r' g2' l1 l2 l3 λH' lo' gn=>h H' ?_;obtain⟨S3,ow3,U3,X3,sb3,k₃,g3'⟩:=gn;exact⟨S3,ow3,U3,X3,sb2.tr sb3,(Keep.ext k₁).trans<|k₂.trans k₃,g3'⟩
 refine Zby (b:=!eqD (.lst<|iV zs) (.lst [])) (λø=>?_) λø=>?_
 ·exact Zdn (n:=n+2) c r (g.ext k₁) ht (by decide) (λø=>⟨zs,rfl,ZmL z1 z2⟩) (λø ø z=>absurd rfl z) λb H2' gn=>gv rfl<|fin rfl rfl rfl gn
 ·refine⟨c.nz.1,?_⟩;rw[et];refine⟨Bq rfl,?_⟩;exact Zdn (n:=n+2) c r (g.ext k₁) ht (by decide) (λø=>⟨[(t:Int)],rfl,.inr tl⟩) (λø ø z=>absurd rfl z) λb H2' gn=>gv rfl<|fin rfl rfl rfl gn
end
theorem m82:methOf tb.P 60 82=some 272:=by kernel_rfl
theorem m83:methOf tb.P 60 83=some 273:=by kernel_rfl
theorem m85:methOf tb.P 60 85=some 252:=by kernel_rfl
theorem f177:tb.P.fn 177=some Zb5:=by kernel_rfl
theorem g176:tb.P.glob 176=some (.fn 176):=by kernel_rfl
theorem g182:tb.P.glob 182=some (.fn 182):=by kernel_rfl
section
variable {B:Nat}{S:Gh}
theorem GN.up(gn:GN M fi L B k S H ow H'):GN M fi L (B+9000) (k+1) S H ow H':=by
 obtain⟨S',ow',U',X',sb,kp,g⟩:=gn;exact⟨S',ow',U',X',sb,kp,g.more g.rep⟩
theorem GN.self(g:GS M fi L B k S H ow U X):GN M fi L B k S H ow H:=⟨S,ow,U,X,.rf,Keep.refl,g⟩
theorem GN.then{S1':Gh}{ow1:Nat->Nat}(sb:Fu S S1')(kp:Keep H ow H₁ ow1)(gn:GN M fi L B k S1' H₁ ow1 H'):GN M fi L B k S H ow H':=by
 obtain⟨S',ow',U',X',sb',kp',g⟩:=gn;exact⟨S',ow',U',X',sb.tr sb',kp.trans kp',g⟩
theorem Znx{E:Yh}(c:C8 M fi)(g:GS M fi L B k S H ow U X)(hp:p<U.length)(h:∀H' ow',Keep H ow H' ow'->GS M fi L B k S H' ow' (dropAt U p) X->Q .none H'):Yc (n+3) 272 [.ref L.fk,.int p] H Q E:=
 have hq:U[p]?=some U[p]:=Lg hp
 Zm7 g.rep c.m0 hq λH' ow' R' k'=>h H' ow' k' ⟨R',g.inv.less λø=>ZcL,g.i9,g.nm.lose hq⟩
theorem ZiF{E:Yh}(c:C8 M fi)(r:Rm B k)(g:GS M fi L B k S H ow U X)(hp:p<U.length)(h:∀H',GN M fi L (B+9000) (k+1) S H ow H'->Q .none H'):Yc (n+3) 273 [.ref L.fk,.int p] H Q E:=by
 have hq:U[p]?=some U[p]:=Lg hp;have mL:=List.mem_of_getElem? hq;refine ZiW g.rep c.m0 hq (Gl (Nat.lt_add_of_pos_right<|by decide)<|g.ul r) λH' ow' R' k'=>h H' ⟨S,ow',_,X,.rf,k',R',g.inv.less λL hL=>(Zbl hL).elim id λz=>Mg z▸mL,g.i9,?_⟩;have N:=g.nm.add (ns:=[U[p]]) (x:=X 0) c.m0 ?_ ?_ (Zr _) (Zr _) λL hL m q e=>?_
 ·rw[Zaf]at N;exact N
 ·show wgt U[p].c+0<=9000
  induction U[p].c <;> exact Bq rfl
 ·show isW U[p].c+0<=1
  induction U[p].c <;> exact Bq rfl
 ·obtain rfl:=Mg hL;exact g.nm.h _ mL m q e
end
section
variable {E:EP}{k:Yt}
theorem ZoS(hl:lo i=some (.int a))(h:k (decide<|a<b) ⟨H,lo⟩):wpT P K E (.e<|.cmp .lt (.loc i)<|.cst<|.int b) ⟨H,lo⟩ k:=Zaa (o:=lo i) hl h
theorem ZpA(hl:lo i=some (.int a))(h:k (decide<|b<a) ⟨H,lo⟩):wpT P K E (.e<|.cmp .gt (.loc i)<|.cst<|.int b) ⟨H,lo⟩ k:=Zaa (o:=lo i) hl h
theorem Zny(hl:lo i=some (.int a))(h:k (decide<|a=b) ⟨H,lo⟩):wpT P K E (.e<|.cmp .eq (.loc i)<|.cst<|.int b) ⟨H,lo⟩ k:=Zaa (o:=lo i) hl h
theorem Ze4{i:PE}{Q:Yq}(h:wpE P K E e σ λa σ1=>wpE P K E i σ1 λb σ2=>idxH σ2.H a b λv=>Q v σ2):wpE P K E (.idx e i) σ Q:=h
theorem ix0{L:Letter}{kk:V->Prop}(h:kk (.str L.c.word)):idxH H (l3V L) (.int 0) kk:=h
theorem Zi8{b1 b2:Bool}(h1:∀k:Yt,k b1 σ->wpT P K E (.e e1) σ k)(h2:∀k:Yt,k b2 σ->wpT P K E (.e e2) σ k)(h:k (b1&&b2) σ):wpT P K E (.and<|.cons (.e e1)<|.cons (.e e2) .nil) σ k:=by
 refine h1 (λb σ1=>Br b (wpAllT P K E (.cons (.e e2) .nil) σ1 k)<|k false σ1) ?_
 induction b1 with
 |false=>exact h
 |true=>
  refine h2 (λb σ1=>Br b (wpAllT P K E .nil σ1 k)<|k false σ1) ?_
  induction b2 with
  |false=>exact h
  |true=>exact h
theorem it2{t:PC}{a b:PSs}{c:Bool}{Q:Yf}(ht:∀k:Yt,k c σ->wpT P K E t σ k)(hy:c=true->wpSs P K a σ (λfl σ1=>seqK fl σ1 (λσ2=>wpSs P K rest σ2 Q E) Q) E)(hn:c=false->wpSs P K b σ (λfl σ1=>seqK fl σ1 (λσ2=>wpSs P K rest σ2 Q E) Q) E):wpSs P K (.cons (.ite t a b) rest) σ Q E:=by
 refine ht _ ?_
 induction c with
 |true=>exact hy rfl
 |false=>exact hn rfl
end
theorem ZhX{E:EP}{Q:Yf}:(λfl σ1=>seqK fl σ1 (λσ2=>wpSs P K .nil σ2 Q E) Q)=Q:=funext λfl=>funext λø=>match fl with
 |.next=>rfl
 |.cont=>rfl
 |.brk=>rfl
 |.ret _=>rfl
theorem it2t{E:EP}{t:PC}{a b:PSs}{c:Bool}{Q:Yf}(ht:∀k:Yt,k c σ->wpT P K E t σ k)(hy:c=true->wpSs P K a σ Q E)(hn:c=false->wpSs P K b σ Q E):wpSs P K (.cons (.ite t a b) .nil) σ Q E:=
 it2 ht (λe=>by rw[ZhX];exact hy e) λe=>by rw[ZhX];exact hn e
section
variable {B:Nat}{S:Gh}{E:Yh}
theorem ZnP(c:C8 M fi)(r:Rm B k)(g:GS M fi L B k S H ow U X)(h:∀i H',GN M fi L B k S H ow H'->Q (.int i) H'):Yc (n+7) 252 [.ref L.fk] H Q E:=by
 refine Zob (λN U X=>wsum U=N/\(∃S':Gh,Fu S S'/\In8 M fi S'.S U X/\In9 M fi S' X)/\Nm M B k U X) (λN Lt U X J=>?_) (N:=wsum U) ⟨rfl,⟨S,.rf,g.inv,g.i9⟩,g.nm⟩ g.rep λH' ow' X' N' i J R k'=>?_
 ·obtain⟨hN,⟨S',sub,I,I9⟩,nm⟩:=J;have mL:Lt∈Lt::U:=.head _;obtain⟨t,ht,hto⟩:=I.is.to Lt<|I.un Lt mL;have h6:=c.m6;have hr:(X t).row.length<=100:=Nt (la8<|nm.r t ht)<|Ny r.k;have wd:wsum U<=B:=Nt (Aw _<|wgt Lt.c) nm.w
  have hm:∀o,(X t).off=some o->(mkSet<|(X t).ms++(o.val.getD ⟨[],[]⟩).hs).length<=9:=λo eo=>by
   induction ep:(X t).place with
   |some pl=>exact hm8 I ht h6 ep o eo
   |none=>exact absurd ((I.hs t ht).f ep) (by show(X t).off≠none;rw[eo];exact λz=>nomatch z)
  have N:=nm.come (p:=0) ht rfl (Nt (ms6 I ht h6)<|by decide) hm;obtain⟨S2',sub2',J2,J9'⟩:=come9 I I9 ht mL (U':=U) (λL h=>.tail _ h) hto hr;exact⟨t,hto,ht,okA8 I ht h6 nm (Nt (Fl (by decide) B) r.b) (Ny r.k) wd,λø hp'=>okC8 I ht h6 c.uni (I.un Lt mL) hto hp',_,hN▸N.2.1,rfl,⟨S2',sub.tr sub2',J2,J9'⟩,N.1⟩
 ·obtain⟨_,⟨S',sub,I,I9⟩,nm⟩:=J;exact h i H' ⟨S',ow',[],X',sub,k',R,I,I9,nm⟩
end
theorem bl{a b:Nat}(h:ble a b=true):a<=b:=Bq h
section
variable {E:EP}
theorem ZaB{r:PEs}{Q:Yl}(h:wpE P K E e σ λv σ1=>wpEs P K E r σ1 λvs σ2=>Q (v::vs) σ2):wpEs P K E (.cons e r) σ Q:=h
theorem ZeF{Q:Yl}(h:Q [] σ):wpEs P K E .nil σ Q:=h
theorem Zpa{Q:Yq}(h:wpEs P K E es σ λvs σ1=>Nd (vs.length<=SZ)<|Q (.lst vs) σ1):wpE P K E (.list true es) σ Q:=h
theorem ZbQ{Q:Yq}(h:Q v σ):wpE P K E (.cst v) σ Q:=h
theorem Zai{Q:Yq}(hl:σ.loc i=some v)(h:Q v σ):wpE P K E (.loc i) σ Q:=Zaa (o:=σ.loc i) hl h
end
theorem Zqa{E:EP}{m l:Nat}{Q:Yq}(hn:(beq m P.nGet ||beq m P.nSetdefault)=true)(hl:σ.loc l=some (.ref j))(hg:σ.H.get j=some (.dict kvs))(h:wpEs P K E as σ λvs σ2=>need (cD<|σ2.H.get j) λkvs=>methD P σ2 j m vs kvs Q):wpE P K E (.meth fz (.loc l) m as) σ Q:=by
 refine Zaa (o:=σ.loc l) hl ?_
 show(match σ.H.get j with
  |some (.inst k _)=>_
  |some (.list _)=>_
  |some (.dict _)=>Nd ((beq m P.nGet ||beq m P.nSetdefault)=true)<|wpEs P K E as σ λvs σ2=>need (cD<|σ2.H.get j) λkvs=>methD P σ2 j m vs kvs Q
  |_=>False)
 rw[hg];exact⟨hn,h⟩
theorem Zix{E:EP}{t:PC}{a:PSs}{Q:Yf}(ht:∀k:Yt,k false σ->wpT P K E t σ k)(h:wpSs P K rest σ Q E):wpSs P K (.cons (.ite t a .nil) rest) σ Q E:=ht _ h
theorem Zpc:∀l:List Int,eqDs (iV l) (iV l)=true:=by
 intro zz0
 induction zz0 with
 |nil=>
  exact rfl
 |cons m r ih=>
  show(decide (m=m)&&eqDs (iV r) (iV r))=true;rw[Dq rfl,ih];rfl
theorem ng:tb.P.nGet=3:=by kernel_rfl
theorem ns:tb.P.nSetdefault=4:=by kernel_rfl
theorem g41:tb.P.glob 41=some (.bt .list):=by kernel_rfl
theorem Zpd{E:EP}{r:PSs}{Q:Yf}(h:wpE P K E it σ λv σ1=>need (items σ1.H v) λxs=>loopGo (λv σ2 k=>bindT ts v σ2 λσ3=>wpSs P K body σ3 k noE) (still v xs) xs σ1 λfl σ1=>seqK fl σ1 (λσ2=>wpSs P K r σ2 Q E) Q):wpSs P K (.cons (.loop ts it body) r) σ Q E:=h
theorem m97:methOf tb.P 60 97=some 264:=by kernel_rfl
theorem m101:methOf tb.P 60 101=some 268:=by kernel_rfl
theorem g56:tb.P.glob 56=some (.cls 56):=by kernel_rfl
theorem g156:tb.P.glob 156=some (.fn 156):=by kernel_rfl
theorem f156:tb.P.fn 156=some ZcT:=by kernel_rfl
theorem e56:tb.P.exc 56=true/\tb.P.sub 56 56=true:=⟨by kernel_rfl,by kernel_rfl⟩
theorem m98:methOf tb.P 60 98=some 265:=by kernel_rfl
theorem int01{b:Bool}(h:4 - 2 * bI b=3):G:=match b,h with
 |true,h=>absurd (show(2:Int)=3 from h)<|by decide
 |false,h=>absurd (show(4:Int)=3 from h)<|by decide
theorem int00{b:Bool}:4 - 2 * bI b≠0:=match b with
 |true=>by show(2:Int)≠0;decide
 |false=>by show(4:Int)≠0;decide
theorem Rep.new{c:C}(R:Rep H ow L M U X):Rep (H.new c) (owN H.next ow []) L M U X:=by
 have k:∀{j c'},H.get j=some c'->(H.new c).get j=some c':=λg=>(Hp.get_new.trans<|if_neg<|Nx<|Zas g).trans g;have w:∀{j c' v},H.get j=some c'->ow j=v->owN H.next ow [] j=v:=λg e=>(if_pos<|Zas g).trans e;refine⟨k R.fk,k R.un,R.hl,R.hM,w R.fk R.wf,w R.un R.wu,λt h ht=>?_⟩;obtain⟨l,d⟩:=R.hd t h ht
 exact⟨l,k d.hd,k d.row,k d.hol,k d.gon,λo e=>by
  have O:=d.off o e
  exact⟨k O.go,k O.gp,k O.ga,w O.go O.wo,w O.gp O.wp,w O.ga O.wa⟩,w d.hd d.wh,w d.row d.wr,w d.hol d.wd,w d.gon d.wg⟩
section
variable {α:Type}(f:α->V)
noncomputable def dV(l:List (Int×α)):List (V×V):=l.map λp=>(.int p.1,f p.2)
omit f in
noncomputable def dG:List (Int×α)->Int->Option α
 | [],_=>none
 |p::r,x=>cond (decide<|p.1=x) (some p.2)<|dG r x
omit f in
noncomputable def dS:List (Int×α)->Int->α->List (Int×α)
 | [],x,l=>[(x,l)]
 |p::r,x,l=>cond (decide<|p.1=x) ((p.1,l)::r) (p::dS r x l)
theorem Zci(l:List (Int×α))(x:Int):keyOk (dKeys<|dV f l) (.int x)=true:=by
 have:∀l:List (Int×α),(dKeys<|dV f l).all isI=true:=λl=>by
  induction l with
  |nil=>rfl
  |cons p r ih=>exact ih
 exact this l
theorem ZgM(x:Int)(l:List (Int×α)):dGet (dV f l) (.int x)=(dG l x).map f:=by
 induction l with
 |nil=>rfl
 |cons p r ih=>
  show cond (decide<|p.1=x) (some<|f p.2) (dGet (dV f r)<|.int x)=(cond (decide<|p.1=x) (some p.2)<|dG r x).map _
  induction decide (p.1=x) with
  |true=>rfl
  |false=>exact ih
theorem Zpu(x:Int)(l:List (Int×α)):((dKeys<|dV f l).any λz=>eqD z<|.int x)=(dG l x).isSome:=by
 induction l with
 |nil=>rfl
 |cons p r ih=>
  show(decide (p.1=x) ||(dKeys<|dV f r).any λz=>eqD z<|.int x)=(cond (decide<|p.1=x) (some p.2)<|dG r x).isSome;rw[ih]
  induction decide (p.1=x) <;> rfl
theorem ZhZ(x:Int)(v:α)(l:List (Int×α)):dSet (dV f l) (.int x) (f v)=dV f (dS l x v):=by
 induction l with
 |nil=>rfl
 |cons p r ih=>
  show cond (decide<|p.1=x) ((V.int p.1,f v)::dV f r) ((V.int p.1,f p.2)::dSet (dV f r) (.int x) (f v))=dV f (cond (decide<|p.1=x) ((p.1,v)::r) (p::dS r x v));rw[ih]
  induction decide (p.1=x) <;> rfl
omit f
theorem Zop{v:α}(l:List (Int×α)):dG (dS l x v) y=if x=y then some v else dG l y:=by
 induction l with
 |nil=>
  show cond (decide<|x=y) (some v) none=_
  by_cases c:x=y
  ·rw[Dq c,if_pos c];rfl
  ·rw[Df c,if_neg c];rfl
 |cons p r ih=>
  show dG (cond (decide<|p.1=x) ((p.1,v)::r) (p::dS r x v)) y=if x=y then some v else cond (decide<|p.1=y) (some p.2) (dG r y)
  by_cases c:p.1=x
  ·rw[Dq c];show cond (decide<|p.1=y) (some v) (dG r y)=_;rw[c]
   by_cases d:x=y
   ·rw[Dq d,if_pos d];rfl
   ·rw[Df d,if_neg d];rfl
  ·rw[Df c];show cond (decide<|p.1=y) (some p.2) (dG (dS r x v) y)=_;rw[ih]
   by_cases d:p.1=y
   ·have hn:¬ x=y:=λz=>c<|d.trans z.symm;rw[Dq d];exact(if_neg hn).symm
   ·rw[Df d];rfl
theorem Zok{v:α}(l:List (Int×α)):y∈(dS l x v).map (·.1)->y=x\/y∈l.map (·.1):=by
 induction l with
 |nil=>exact λh=>.inl<|Mg h
 |cons p r ih=>
  show y∈(cond (decide<|p.1=x) ((p.1,v)::r) (p::dS r x v)).map (·.1)->_
  induction decide (p.1=x) with
  |true=>exact λh=>.inr h
  |false=>
   intro h
   rcases Mc h with z |z
   ·exact .inr<|z▸ .head _
   ·exact(ih z).imp id (.tail _)
theorem Zo7{v:α}(l:List (Int×α)):(l.map (·.1)).Nodup->((dS l x v).map (·.1)).Nodup:=by
 induction l with
 |nil=>exact λø=>nodup_cons.mpr ⟨List.not_mem_nil,.nil⟩
 |cons p r ih=>
  intro h;have h':p.1∉r.map (·.1)/\(r.map (·.1)).Nodup:=nodup_cons.mp h;show((cond (decide (p.1=x)) ((p.1,v)::r) (p::dS r x v)).map (·.1)).Nodup
  by_cases c:p.1=x
  ·rw[Dq c];exact h
  ·rw[Df c];exact nodup_cons.mpr ⟨λz=>(Zok r z).elim c h'.1,ih h'.2⟩
theorem Zkk{v:α}(l:List (Int×α)):(dS l x v).length<=l.length+1:=by
 induction l with
 |nil=>exact Zr _
 |cons p r ih=>
  show(cond (decide<|p.1=x) ((p.1,v)::r) (p::dS r x v)).length<=_
  induction decide (p.1=x) with
  |true=>exact Us _
  |false=>exact Fs ih
theorem ZoM(l:List (Int×α)):x∈l.map (·.1)->∃v,dG l x=some v:=by
 induction l with
 |nil=>exact λh=>nomatch h
 |cons p r ih=>
  intro h;show ∃v,cond (decide (p.1=x)) (some p.2) (dG r x)=some v
  by_cases c:p.1=x
  ·rw[Dq c];exact⟨_,rfl⟩
  ·rw[Df c]
   rcases Mc h with z |z
   ·exact absurd z.symm c
   ·exact ih z
end
def rV(r:List Msg):V:=.lst<|mV r
noncomputable def sV(l:List (Int×Str)):List V:=l.map λp=>.tup [.int p.1,.str p.2]
theorem Zkz(l:List (Int×Str)):(sV l).length=l.length:=Lm ..
theorem Zn5(h:some (C.list xs)=some (C.dict kv)):G:=noS<|congrArg cD h
theorem Zlz(h:some (C.dict kv)=some (C.list xs)):G:=noZ<|congrArg cD h
noncomputable abbrev EN:=List<|Int×List Msg
structure Ad where
 sd:Nat
 ls:Nat->Nat
 ad:List (Int×Nat)
 e:Nat
 b:Nat
structure W9(M:Nat)(fi:List Int)(L:Lay)(D:Ad)(i:Nat)(S:Gh)(en:EN)(be:List (List Gn))(H:Hp)(ow:Nat->Nat)(U:List Letter)(X:Nat->Hd):Prop where
 g:GS M fi L (9000 * i) i S H ow U X
 d:H.get D.sd=some (.dict<|dV .ref D.ad)/\ow D.sd=0
 l:∀t,t<M->dG D.ad t=some (D.ls t)/\(H.get (D.ls t)=some (.list<|sV<|S.Sd t)/\ow (D.ls t)=0)/\(S.Sd t).length<=i
 u:∀t u,t<M->u<M->D.ls t=D.ls u->t=u
 e:H.get D.e=some (.dict<|dV rV en)/\ow D.e=0
 b:H.get D.b=some (.list<|be.map λl=>.lst<|gV l)/\ow D.b=0
 nb:∀t,t<M->D.ls t≠D.b
 ne:D.sd≠D.e
 bl:be.length=M
 bp:∀t l,be[t]?=some l->l <+:S.Go t
 ek:(en.map (·.1)).Nodup
 ep:∀n r,dG en n=some r->∃t,t<M/\∃ms,(n,ms,r)∈S.Go t
section
variable {i':Nat}{D:Ad}{S S':Gh}{en en':EN}{U':List Letter}
theorem W9.on(w:W9 M fi L D i S en be H ow U X)(k:Keep H ow H' ow')(fu:Fu S S')(hi:i<=i')(g:GS M fi L (9000 * i') i' S' H' ow' U' X'):W9 M fi L D i' S' en be H' ow' U' X' where
 g:=g
 d:=k _ _ w.d.1 w.d.2
 l:=λt ht=>⟨(w.l t ht).1,fu.sd▸k _ _ (w.l t ht).2.1.1 (w.l t ht).2.1.2,fu.sd▸Nt (w.l t ht).2.2 hi⟩
 u:=w.u
 e:=k _ _ w.e.1 w.e.2
 b:=k _ _ w.b.1 w.b.2
 nb:=w.nb
 ne:=w.ne
 bl:=w.bl
 bp:=λt l e=>(w.bp t l e).trans<|fu.go t
 ek:=w.ek
 ep:=λn r e=>(w.ep n r e).elim λt q=>⟨t,q.1,q.2.elim λms q=>⟨ms,(fu.go t).subset q⟩⟩
theorem W9.up(w:W9 M fi L D i S en be H ow U X)(hi:i<=i'):W9 M fi L D i' S en be H ow U X:=w.on Keep.refl .rf hi ⟨w.g.rep,w.g.inv,w.g.i9,w.g.nm.mono (Nat.mul_le_mul_left 9000 hi) hi⟩
theorem W9.of(w:W9 M fi L D i S en be H ow U X)(k:Keep H ow H' ow')(R:Rep H' ow' L M U X):W9 M fi L D i S en be H' ow' U X:=w.on k .rf (Zr _) ⟨R,w.g.inv,w.g.i9,w.g.nm⟩
theorem W9.say{p:Int×Str}(w:W9 M fi L D i S en be H ow U X)(ht:t<M)(k:Keep H ow H' ow')(e:S'.Sd=upG S.Sd t (S.Sd t++[p]))(go:∀u,S.Go u <+:S'.Go u)(g:GS M fi L (9000 * (i+1)) (i+1) S' H' ow' U' X'):H'.get (D.ls t)=some (.list<|sV<|S.Sd t)/\W9 M fi L D (i+1) S' en be (H'.set (D.ls t)<|.list<|sV (S.Sd t)++[.tup [.int p.1,.str p.2]]) ow' U' X':=by
 have gt:=k _ _ (w.l t ht).2.1.1 (w.l t ht).2.1.2
 have gs:∀{j:Nat}{c:C},j≠D.ls t->(H'.get j=some c/\ow' j=0)->(H'.set (D.ls t)<|.list<|sV (S.Sd t)++[.tup [.int p.1,.str p.2]]).get j=some c/\ow' j=0:=λn h=>⟨(Hp.get_set gt.1).trans<|(if_neg n).trans h.1,h.2⟩
 have nd:∀{j:Nat}{kv:List (V×V)},H'.get j=some (.dict kv)->j≠D.ls t:=λh z=>by rw[z,gt.1]at h;exact Zn5 h
 refine⟨gt.1,⟨g.rep.set gt.1 gt.2,g.inv,g.i9,g.nm⟩,?_,λu hu=>⟨(w.l u hu).1,?_⟩,w.u,?_,gs (λz=>w.nb t ht z.symm)<|k _ _ w.b.1 w.b.2,w.nb,w.ne,w.bl,λt l e=>(w.bp t l e).trans<|go t,w.ek,λn r e=>(w.ep n r e).elim λt q=>⟨t,q.1,q.2.elim λms q=>⟨ms,(go t).subset q⟩⟩⟩
 ·have h:=k _ _ w.d.1 w.d.2;exact gs (nd h.1) h
 ·rw[e];unfold upG
  by_cases c:u=t
  ·subst c;rw[if_pos rfl];refine⟨⟨(Hp.get_set gt.1).trans<|(if_pos rfl).trans ?_,gt.2⟩,?_⟩
   ·unfold sV;rw[map_append];rfl
   ·rw[La];exact Fs (w.l u hu).2.2
  ·rw[if_neg c];exact⟨gs (λz=>c<|w.u u t hu ht z)<|k _ _ (w.l u hu).2.1.1 (w.l u hu).2.1.2,Nat.le_succ_of_le (w.l u hu).2.2⟩
 ·have h:=k _ _ w.e.1 w.e.2;exact gs (nd h.1) h
theorem W9.end(w:W9 M fi L D i S en be H ow U X)(ek:(en'.map (·.1)).Nodup)(ep:∀n r,dG en' n=some r->∃t,t<M/\∃ms,(n,ms,r)∈S.Go t):W9 M fi L D i S en' be (H.set D.e<|.dict<|dV rV en') ow U X:=by
 have gs:∀{j:Nat}{c:C},j≠D.e->(H.get j=some c/\ow j=0)->(H.set D.e<|.dict<|dV rV en').get j=some c/\ow j=0:=λn h=>⟨(Hp.get_set w.e.1).trans<|(if_neg n).trans h.1,h.2⟩
 have nl:∀{j:Nat}{xs:List V},H.get j=some (.list xs)->j≠D.e:=λh z=>by rw[z,w.e.1]at h;exact Zlz h
 exact⟨⟨w.g.rep.set w.e.1 w.e.2,w.g.inv,w.g.i9,w.g.nm⟩,gs w.ne w.d,λt ht=>⟨(w.l t ht).1,gs (nl (w.l t ht).2.1.1) (w.l t ht).2.1,(w.l t ht).2.2⟩,w.u,⟨(Hp.get_set w.e.1).trans<|if_pos rfl,w.e.2⟩,gs (nl w.b.1) w.b,w.nb,w.ne,w.bl,w.bp,ek,ep⟩
theorem W9.bef{be':List (List Gn)}(w:W9 M fi L D i S en be H ow U X)(bl:be'.length=M)(bp:∀t l,be'[t]?=some l->l <+:S.Go t):W9 M fi L D i S en be' (H.set D.b<|.list<|be'.map λl=>.lst<|gV l) ow U X:=by
 have gs:∀{j:Nat}{c:C},j≠D.b->(H.get j=some c/\ow j=0)->(H.set D.b<|.list<|be'.map λl=>.lst<|gV l).get j=some c/\ow j=0:=λn h=>⟨(Hp.get_set w.b.1).trans<|(if_neg n).trans h.1,h.2⟩
 have nd:∀{j:Nat}{kv:List (V×V)},H.get j=some (.dict kv)->j≠D.b:=λh z=>by rw[z,w.b.1]at h;exact Zn5 h
 exact⟨⟨w.g.rep.set w.b.1 w.b.2,w.g.inv,w.g.i9,w.g.nm⟩,gs (nd w.d.1) w.d,λt ht=>⟨(w.l t ht).1,gs (w.nb t ht) (w.l t ht).2.1,(w.l t ht).2.2⟩,w.u,gs (nd w.e.1) w.e,⟨(Hp.get_set w.b.1).trans<|if_pos rfl,w.b.2⟩,w.nb,w.ne,bl,bp,w.ek,w.ep⟩
end
section
variable {B:Nat}{S:Gh}{E:EP}{Q:Yq}(g:GS M fi L B k S H ow U X)(tM:t<M)(l1:lo 106=some (.ref L.fk))(l2:lo i=some (.int t))
include g tM l1 l2
theorem Zku(m6:M<=6)(h1:∀H' ow' pl,(X t).place=some pl->Keep H ow H' ow'->Rep H' ow' L M U X->Q (.tup [.int pl,.lst<|iV (X t).ms]) ⟨H',lo⟩)(h2:∀H' ow',(X t).place=none->Keep H ow H' ow'->Rep H' ow' L M U X->Q .none ⟨H',lo⟩):wpE tb.P (Yc<|n+5) E (.call true (.glob 156)<|.cons (.loc 106)<|.cons (.loc i) .nil) ⟨H,lo⟩ Q:=by
 refine Zak g156<|Zaa (o:=lo 106) l1<|Zaa (o:=lo i) l2<|Zac _ _ _ f156 rfl<|ZlV g56<|ZnY<|Za0 (σ:=⟨H,_⟩) rfl g.rep.fk m97 ?_
 induction hp:(X t).place with
 |some pl=>
  refine Znj (n:=n) g.rep tM hp (sz9<|Nt (ms6 g.inv tM m6)<|by decide) λH' ow' R' K'=>gv rfl ?_;show giveV true ⟨H',lo⟩ Q (.tup [.int pl,.lst<|iV (X t).ms]);exact gv rfl<|h1 H' ow' pl hp K' R'
 |none=>
  refine ZiQ (n:=n) g.rep tM hp λH' ow' e R' K' ge=>Zaa (o:=cE<|H'.get e) (a:=56) (by rw[ge];rfl) ?_;refine⟨e56.1,e56.2,?_⟩;show giveV true ⟨H',lo⟩ Q .none;exact gv rfl<|h2 H' ow' hp K' R'
theorem ZgS(m6:M<=6)(r:Rm B k):(∀g∈(X t).gone,g.2.1.length<=SZ/\g.2.2.length<=SZ)/\(X t).gone.length<=SZ:=by
 have hs:=g.inv.hs t tM;exact⟨λg' hg=>⟨sz9<|Nt (g.inv.is.lfi (hs.g.gl g' hg).1).len<|Nt m6<|by decide,sz0<|Nt (hs.g.gr g' hg)<|by decide⟩,Ny<|lo3 (lo2<|g.nm.st tM).1 r.b⟩
theorem Zkh(m6:M<=6)(r:Rm B k)(h:∀H' ow',Keep H ow H' ow'->Rep H' ow' L M U X->Q (.lst<|gV (X t).gone) ⟨H',lo⟩):wpE tb.P (Yc<|n+5) E (.meth true (.loc 106) 101<|.cons (.loc i) .nil) ⟨H,lo⟩ Q:=by
 have z:=ZgS g tM l1 l2 m6 r;exact Za0 (σ:=⟨H,lo⟩) l1 g.rep.fk m101<|Zaa (o:=lo i) l2<|Zow (n:=n+2) g.rep tM z.1 z.2 λH' ow' R' K' gl w=>gvL (σ:=⟨H',lo⟩) gl<|h _ ow' (K'.del gl)<|R'.del gl w
theorem ZkF(hp:(X t).place=some pl)(r:Rm B k)(h:∀H' ow',Keep H ow H' ow'->Rep H' ow' L M U X->Q (rV<|(X t).row.take (X t).took.toNat) ⟨H',lo⟩):wpE tb.P (Yc<|n+5) E (.meth true (.loc 106) 98<|.cons (.loc i) .nil) ⟨H,lo⟩ Q:=by
 exact Za0 (σ:=⟨H,lo⟩) l1 g.rep.fk m98<|Zaa (o:=lo i) l2<|Zl1 (n:=n+1) g.rep tM hp (g.i9.hs t tM pl hp).t0 (sz0<|Nt (la8<|g.nm.r t tM)<|Nt (Ny r.k)<|by decide) λH' ow' R' K' gl w=>gvL (σ:=⟨H',lo⟩) gl<|h _ ow' (K'.del gl)<|R'.del gl w
end
theorem f203:tb.P.fn 203=some Zbu:=by kernel_rfl
theorem g203:tb.P.glob 203=some (.fn 203):=by kernel_rfl
section
variable {α:Type}{f:α->V}{l:List (Int×α)}(hd:H.get j=some (.dict (dV f l)))
include hd
theorem Zp3{k:Bool->Prop}(h:k (dG l x).isSome):cmpK H .isIn (.int x) (.ref j) k:=by
 show(match H.get j with |some (.list xs)=>cmpK.anyK H (.int x) xs k |some (.dict kvs)=>Nd (keyOk (dKeys kvs) (.int x)=true) (k<|(dKeys kvs).any λz=>eqD z<|.int x) |_=>False);rw[hd];refine⟨Zci f l x,?_⟩;rw[Zpu];exact h
theorem Zqg{k:Bool->Prop}(h:k (!(dG l x).isSome)):cmpK H .notIn (.int x) (.ref j) k:=Zp3 (k:=λr=>k<|!r) hd h
theorem ZpC{v:α}{k:V->Prop}(e:dG l x=some v)(h:k (f v)):idxH H (.ref j) (.int x) k:=by
 show(match H.get j with |some (.list xs)=>idxK (.lst xs) (.int x) k |some (.dict kvs)=>Nd (keyOk (dKeys kvs) (.int x)=true) (need (dGet kvs<|.int x) k) |_=>False);rw[hd];exact⟨Zci f l x,Zaa (o:=dGet (dV f l)<|.int x) (by rw[ZgM,e];rfl) h⟩
end
theorem Zp8{α:Type}{f:α->V}{l:List α}{a:α}{k:V->Prop}(hj:H.get j=some (.list<|l.map f))(e:l[p]?=some a)(h:k (f a)):idxH H (.ref j) (.int p) k:=by
 show(match H.get j with |some (.list xs)=>idxK (.lst xs) (.int p) k |some (.dict kvs)=>Nd (keyOk (dKeys kvs) (.int p)=true) (need (dGet kvs<|.int p) k) |_=>False);rw[hj];exact Zg3 e h
theorem ZpW{E:EP}{Q:Yq}(hj:σ.H.get j=some (.list xs))(h:Q (.int xs.length) σ):callF P K E true σ (.bt .len) [.ref j] Q:=
 Zaa (o:=lenH σ.H<|.ref j) (a:=xs.length) (by show(match σ.H.get j with |some (.list xs)=>some xs.length |some (.dict kvs)=>some kvs.length |_=>none)=_;rw[hj]) h
section
variable {D:Ad}{S:Gh}{en:EN}{num:Int}
theorem Zmw(hs:∀H,still v xs H)(w:W9 M fi L D i S en be H ow U X)(nd:row.Nodup)(sa:∀m∈row,Sai M S.Sd num m)(hz:row.length<=SZ)(Q:Yf)(h:∀lo',Q .next ⟨H,lo'⟩):∀(N a:Nat)(lo:Loc),a+N=row.length->lo 38=some (rV row)->lo 191=some (.int num)->lo 136=some (.ref D.sd)->
  loopGo (λv σ2 k=>bindT [25] v σ2 λσ3=>wpSs tb.P K Zar σ3 k noE) (still v xs) (rngL a 1 N) ⟨H,lo⟩ Q:=by
 intro N
 induction N with
 |zero=>exact λa lo ø ø ø ø=>⟨hs H,h lo⟩
 |succ N ih=>
  intro a lo ea l1 l2 l3;have ha:a<row.length:=lb1 ea;have e:=Lg ha
  have nt:row[a]∉row.take a:=λz=>by
   obtain⟨i,hi,e⟩:=List.getElem_of_mem z;rw[List.getElem_take]at e;have lt:i<a:=Gl hi<|List.length_take_le ..;exact(List.pairwise_iff_getElem.mp nd) i a (Nat.lt_trans lt ha) ha lt e
  have sm:=sa row[a] (List.getElem_mem ha);generalize row[a]=m at e nt sm;obtain⟨t,k,ht,h1,h2,hk⟩:=sm;obtain⟨g1,⟨g2,_⟩,_⟩:=w.l t ht;refine⟨hs H,?_⟩;show wpSs tb.P K Zar ⟨H,upd lo 25<|.int a⟩ _ noE;refine Zbp<|Ze4<|Zai l1<|Zai rfl<|Zg3 (f:=Msg.v) e ?_;show wpSs tb.P K (psT Zar) ⟨H,upd (upd lo 25<|.int a) 153 m.v⟩ _ noE;have l1':upd (upd lo 25<|.int a) 153 m.v 38=some (rV row):=l1;have l2':upd (upd lo 25<|.int a) 153 m.v 191=some (.int num):=l2;have l3':upd (upd lo 25<|.int a) 153 m.v 136=some (.ref D.sd):=l3;have l4':upd (upd lo 25<|.int a) 153 m.v 153=some m.v:=rfl;have l5':upd (upd lo 25<|.int a) 153 m.v 25=some (.int a):=rfl;generalize upd (upd lo 25<|.int a) 153 m.v=lo' at l1' l2' l3' l4' l5';have i0:∀{Q':Yq},Q' (.int t) ⟨H,lo'⟩->wpE tb.P K noE (.idx (.loc 153)<|.cst<|.int 0) ⟨H,lo'⟩ Q':=λ{Q'} q=>Ze4<|Zai l4'<|ZbQ<|show Q' (.int m.h) ⟨H,lo'⟩ from h1.symm▸q;have i1:∀{Q':Yq},Q' (.int k) ⟨H,lo'⟩->wpE tb.P K noE (.idx (.loc 153)<|.cst<|.int 1) ⟨H,lo'⟩ Q':=λ{Q'} q=>Ze4<|Zai l4'<|ZbQ<|show Q' (.int m.n) ⟨H,lo'⟩ from h2.symm▸q;have is:∀{Q':Yq},Q' (.ref<|D.ls t) ⟨H,lo'⟩->wpE tb.P K noE (.idx (.loc 136)<|.idx (.loc 153)<|.cst<|.int 0) ⟨H,lo'⟩ Q':=λ{Q'} q=>Ze4<|Zai l3'<|i0<|ZpC w.d.1 g1 q;have lk:k<(S.Sd t).length:=(List.getElem?_eq_some_iff.mp hk).1;refine Zix (λkk q=>?_) ?_
  ·refine Zaa (o:=lo' 153) l4'<|Zaa (o:=lo' 153) l4'<|Zaa (o:=lo' 153) l4'<|Zaa (o:=lo' 38) l1' (Zaa (o:=lo' 25) l5' ?_);have e2:(mV row).take (a:Int).toNat=mV (row.take a):=(map_take ..).symm;refine⟨rfl,Dq<|natCast_nonneg a,?_,?_⟩
   ·show((mV row).take (a:Int).toNat).length<=SZ;rw[e2,Zan];exact Nt (List.length_take_le' ..) hz
   refine Zaa (o:=deepL (deepN H 11)<|(mV row).take (a:Int).toNat) (a:=mV<|row.take a) (by rw[e2];exact Zeo _)<|Zdv (b:=hasM (row.take a) m) (ZmU nt)<|i0<|Zaa (o:=lo' 136) l3' (Zqg w.d.1 ?_);rw[g1];exact q
  refine Zix (λkk q=>?_) ?_
  ·refine i1<|Zak g46 (ZaB<|is<|ZeF<|ZpW (σ:=⟨H,lo'⟩) g2 ?_);show kk (!decide ((k:Int)<((sV<|S.Sd t).length:Nat))) _;rw[Zkz,Dq<|ld1 lk];exact q
  refine Zix (λkk q=>?_) ?_
  ·refine Ze4<|is<|i1<|Zp8 g2 hk ?_;refine Zaa (o:=lo' 191) l2'<|Zaa (o:=lo' 153) l4' ?_;refine⟨Bq rfl,?_⟩;show kk (!(decide (num=num)&&(decide (m.w=m.w)&&true))) _;rw[Dq rfl,Dq rfl];exact q
  exact ih (a+1) lo' (lb2 ea) l1' l2' l3'
theorem Zp7{E:Yh}(w:W9 M fi L D i S en be H ow U X)(nd:row.Nodup)(sa:∀m∈row,Sai M S.Sd num m)(hz:row.length<=SZ)(h:Q (.bool true) H):Yc (n+1) 203 [rV row,.int num,.ref D.sd] H Q E:=by
 refine Zac _ _ _ f203 rfl<|Zix (λkk q=>q)<|⟨show((mV row).length:Int).natAbs<=SZ by rw[Int.natAbs_natCast,Zan];exact hz,?_⟩
 have e1:rngN 0 ((mV row).length:Nat) 1=row.length:=by rw[Zay,Zan]
 refine Zmw (v:=.rng 0 ((mV row).length:Nat) 1) (xs:=rngL 0 1<|rngN 0 ((mV row).length:Nat) 1) (λø=>rfl) w nd sa hz _ (λlo'=>h) _ 0 _ (by rw[e1];exact zero_add _) rfl rfl rfl
end
theorem f135:tb.P.fn 135=some Zc9:=by kernel_rfl
theorem g135:tb.P.glob 135=some (.fn 135):=by kernel_rfl
theorem ZjS:s_x.length=35:=by kernel_rfl
theorem Zh5{c:Int}(hs:∀H,still v xs H)(Q:Yf)(h:∀s lo',lo' 138=some (.str s)->Q .next ⟨H,lo'⟩):∀(N a:Nat)(s:Str)(lo:Loc),a+N<=4->s.length<=a->lo 132=some (.str s_x)->lo 138=some (.str s)->lo 137=some (.int c)->
  loopGo (λv σ2 k=>bindT [25] v σ2 λσ3=>wpSs tb.P K Zbn σ3 k noE) (still v xs) (rngL a 1 N) ⟨H,lo⟩ Q:=by
 intro N
 induction N with
 |zero=>exact λa s lo ø ø ø l2 ø=>⟨hs H,h s lo l2⟩
 |succ N ih=>
  intro a s lo ha sl l1 l2 l3;have a4:a<=4:=Ny<|la1 ha;refine⟨hs H,?_⟩;show wpSs tb.P K Zbn ⟨H,upd lo 25 (.int a)⟩ _ noE;refine Zaa (o:=lo 138) l2 (Zaa (o:=lo 132) l1 (Zaa (o:=lo 137) l3 ⟨⟨by decide,by decide⟩,?_⟩));refine⟨.inl (by decide),.inr (Nl a4 (by decide)),?_⟩;refine Zaa (o:=lo 132) l1 ⟨?_,?_⟩
  ·show((s_x.length:Nat):Int)≠0;rw[ZjS];decide
  obtain⟨p,e,hp⟩:=ZaM (x:=fdiv c 4+31 * (a:Int) * a) (n:=s_x.length) (by rw[ZjS];decide);rw[e];refine⟨natCast_nonneg p,Zaa (o:=s_x.cps[(p:Int).toNat]?) (a:=s_x.cps[p]'hp) (Array.getElem?_eq_getElem hp) ?_⟩;have l1':s.length+1<=a+1:=Fs sl;refine⟨show s.length+1<=SZ from sz9 (Nt l1'<|Nt (Fs a4)<|by decide),?_⟩;exact ih (a+1) (s++⟨#[s_x.cps[p]'hp]⟩) _ (la2 ha) (by rw[Zcl];exact l1') l1 rfl l3
theorem ZmF{c:Int}{E:Yh}(h:∀s,Q (.str s) H):Yc (n+1) 135 [.int c] H Q E:=by
 obtain⟨p,e,hp⟩:=ZaM (x:=c) (n:=4) (by decide);refine Zac _ _ _ f135 rfl<|⟨by decide,?_⟩;rw[show fmod c 4=p from e];refine⟨show(p:Int).natAbs<=SZ from sz9 (Nt (Ny hp)<|by decide),?_⟩;refine Zh5 (c:=c) (v:=.rng 0 (p:Nat) 1) (xs:=rngL 0 1<|rngN 0 (p:Nat) 1) (λø=>rfl) _ (λs lo' l=>?_) (rngN 0 (p:Nat) 1) 0 Zfa _ (by rw[Zay,zero_add];exact Ny hp) (Zr _) rfl rfl rfl;exact Zaa (o:=lo' 138) l<|h s
theorem ZoW{E:EP}{a:PE}{Q:Yq}(hn:P.nAppend=0)(ho:∀Q':Yq,Q' (.ref j) σ->wpE P K E o σ Q')(hg:σ.H.get j=some (.list xs))(ha:∀Q':Yq,Q' v σ->wpE P K E a σ Q')(hz:xs.length<SZ)(h:Q .none (σ.setH<|σ.H.set j<|.list<|xs++[v])):wpE P K E (.meth fz o 0<|.cons a .nil) σ Q:=by
 refine ho _ ?_
 show(match σ.H.get j with
  |some (.inst k _)=>_
  |some (.list _)=>Nd ((beq 0 P.nAppend ||(beq 0 P.nPop ||beq 0 P.nExtend))=true)<|wpEs P K E (.cons a .nil) σ λvs σ2=>need (cL<|σ2.H.get j) λxs=>methL P σ2 j 0 vs xs Q
  |some (.dict _)=>_
  |_=>False)
 rw[hg];refine⟨by rw[hn];rfl,ha _ ?_⟩;refine Zaa (o:=cL<|σ.H.get j) (a:=xs) (by rw[hg];rfl) ?_;show Br (beq 0 P.nAppend) _ _;rw[hn];exact⟨hz,h⟩
theorem rm74(h:i<=74):Rm (9000 * i) i:=⟨Nt (Fr (Nat.mul_le_mul_left 9000 h) _)<|Bq rfl,Nt (Fs h)<|by decide⟩
section
variable {D:Ad}{S:Gh}{en:EN}{E:EP}
theorem Zp9{te:PE}{Q:Yf}(c:C8 M fi)(hi:i<=74)(w:W9 M fi L D i S en be H ow U X)(ht:t<M)(l1:lo 136=some (.ref D.sd))(l2:lo 29=some (.int t))(ha:∀Q':Yl,Q' [.ref L.fk,.int 0,.int t,.str s] ⟨H,lo⟩->wpEs tb.P (Yc<|n+5) E as ⟨H,lo⟩ Q')(hte:∀pl H',(X t).place=some pl->∀Q':Yq,Q' (.tup [.int pl,.str s]) ⟨H',lo⟩->wpE tb.P (Yc<|n+5) E te ⟨H',lo⟩ Q')
  (h:∀H' ow' S' U' X',W9 M fi L D (i+1) S' en be H' ow' U' X'->(∀u,(X' u).place=(X u).place)->wpSs tb.P (Yc<|n+5) rest ⟨H',lo⟩ Q E):
  wpSs tb.P (Yc<|n+5) (.cons (.ite (.e<|.call true (.glob 175) as) (.cons (.expr<|.meth true (.idx (.loc 136)<|.loc 29) 0<|.cons te .nil) .nil) .nil) rest) ⟨H,lo⟩ Q E:=by
 refine Zak g175<|ha _ ?_;refine ZmB c (rm74 hi) w.g ht (λH' ow' S' U' pl hp e1 e2 k' g'=>gv rfl ?_) λH' ow' k' g'=>gv rfl ?_
 ·obtain⟨gl,w'⟩:=w.say ht k' e1 e2 g';show wpSs tb.P (Yc<|n+5) (.cons (.expr<|.meth true (.idx (.loc 136)<|.loc 29) 0<|.cons te .nil) .nil) ⟨H',lo⟩ (λfl σ1=>seqK fl σ1 (λσ2=>wpSs tb.P (Yc<|n+5) rest σ2 Q E) Q) E;refine Zat (ZoW (σ:=⟨H',lo⟩) (j:=D.ls t) (xs:=sV<|S.Sd t) (v:=.tup [.int pl,.str s]) rfl (λQ' q=>Ze4<|Zai l1<|Zai l2<|ZpC (k' _ _ w.d.1 w.d.2).1 (w.l t ht).1 q) gl (hte pl H' hp) (by rw[Zkz];exact Nl (w.l t ht).2.2<|Nl hi<|Zno<|by decide) ?_);refine h _ ow' S' U' _ w' λu=>?_
  by_cases z:u=t
  ·subst z;rw[ZaA]
  ·rw[ZeT z]
 ·exact h H' ow' S U X (w.on k' .rf (Us _) g') λø=>rfl
theorem Zim{ae:PE}{x:V}{f:Loc->Prop}(hs:∀H,still v xs H)(c:C8 M fi)(hi:i<=74)(hf:∀lo y,f lo->f (upd lo 188 y))(hl:∀lo,f lo->lo 106=some (.ref L.fk))(hae:∀H lo,f lo->∀Q':Yq,Q' (.lst<|iV aw) ⟨H,lo⟩->wpE tb.P (Yc<|n+7) noE ae ⟨H,lo⟩ Q')(Q:Yf)
  (h:∀H' ow' S' U' X' lo',W9 M fi L D i S' en be H' ow' U' X'->f lo'->Q .next ⟨H',lo'⟩):∀(ks:List V),(∀x∈ks,∃s,x=.str s)->∀(H:Hp)(S:Gh)(ow:Nat->Nat)(U:List Letter)(X:Nat->Hd)(lo:Loc),W9 M fi L D i S en be H ow U X->f lo->
  loopGo (λv σ2 k=>bindT [188] v σ2 λσ3=>wpSs tb.P (Yc<|n+7) (.cons (.expr<|.call true (.glob 180)<|.cons (.loc 106)<|.cons (.loc 188)<|.cons ae .nil) .nil) σ3 k noE) (still v xs) ks ⟨H,lo⟩ Q:=by
 intro ks
 induction ks with
 |nil=>exact λø H S ow U X lo w l=>⟨hs H,h H ow S U X lo w l⟩
 |cons x ks ih=>
  intro hx H S ow U X lo w l;obtain⟨z,rfl⟩:=hx x<|.head _;refine⟨hs H,?_⟩;have l':=hf lo (.str z) l;show wpSs tb.P (Yc (n+7)) (.cons (.expr (.call true (.glob 180) (.cons (.loc 106) (.cons (.loc 188) (.cons ae .nil))))) .nil) ⟨H,upd lo 188 (.str z)⟩ _ noE;refine Zat<|Zak g180 (ZaB (Zai (hl _ l') (ZaB (Zai rfl (ZaB (hae H _ l' _ (ZeF ?_)))))));refine Zfp c (rm74 hi) w.g λH2' gn=>gv rfl ?_;obtain⟨S2',ow2,U2,X2,sb2,k₂,g2'⟩:=gn;exact ih (λx hx'=>hx x<|.tail _ hx') H2' S2' ow2 U2 X2 _ (w.on k₂ sb2 (Zr _) g2') l'
end
theorem f202:tb.P.fn 202=some Zax:=by kernel_rfl
structure Tl(L:Lay)(D:Ad)(c lt:Int)(lo:Loc):Prop where
 a:lo 106=some (.ref L.fk)
 b:lo 137=some (.int c)
 c:lo 136=some (.ref D.sd)
 d:lo 206=some (.int lt)
section
variable {D:Ad}{en:EN}{c lt:Int}
theorem Zlj(hs:∀H,still v xs H)(C:C8 3 fi)(Q:Yf)(h:∀i H' ow' S' U' X' lo',i<=3->W9 3 fi L D i S' en be H' ow' U' X'->Tl L D c lt lo'->Q .next ⟨H',lo'⟩):∀(N a:Nat)(H:Hp)(S:Gh)(ow:Nat->Nat)(U:List Letter)(X:Nat->Hd)(lo:Loc),a+N<=3->W9 3 fi L D a S en be H ow U X->(∀u,u<3->(X u).place=some 0)->Tl L D c lt lo->
  loopGo (λv σ2 k=>bindT [25] v σ2 λσ3=>wpSs tb.P (Yc<|n+5) ZaR σ3 k noE) (still v xs) (rngL a 1 N) ⟨H,lo⟩ Q:=by
 intro N
 induction N with
 |zero=>exact λa H S ow U X lo ha w hp l=>⟨hs H,h a H ow S U X lo ha w l⟩
 |succ N ih=>
  intro a H S ow U X lo ha w hp l;have a3:a<=3:=Ny<|la1 ha
  have m:(0:Int)<=a/\(a:Int)<=1048576/\s_w.length * (a:Int).toNat<=SZ:=⟨natCast_nonneg a,ld2<|Nt a3<|by decide,by
   show 1 * a<=SZ
   rw[Nat.one_mul];exact sz9<|Nt a3<|by decide⟩
  refine⟨hs H,?_⟩;show wpSs tb.P (Yc<|n+5) ZaR ⟨H,upd lo 25<|.int a⟩ _ noE;refine Zaa (o:=lo 137) l.b ⟨⟨?_,?_⟩,by decide,?_⟩
  ·exact lg1 (b:=6+a)<|Gl (by decide)<|Ar 6 a
  ·exact Nl (show 6+a<=9 from Fl a3 6)<|by decide
  obtain⟨t,e,ht⟩:=ZaM (x:=fdiv c<|6+a) (n:=3) (by decide);rw[show fmod (fdiv c<|6+a) 3=t from e];refine Zp9 (n:=n) (s:=repS s_w (a:Int).toNat) C (Nt a3<|by decide) w ht l.c rfl (λQ' q=>ZaB<|Zai l.a<|ZaB<|ZbQ<|ZaB<|Zai rfl<|ZaB ⟨m,q⟩) (λpl H' e Q' q=>?_) λH' ow' S' U' X' w' hp'=>?_
  ·obtain rfl:=Sj<|(hp t ht).symm.trans e;exact⟨m,Bq rfl,q⟩
  ·exact ih (a+1) H' S' ow' U' X' _ (la2 ha) w' (λu hu=>(hp' u).trans<|hp u hu) ⟨l.a,l.b,l.c,l.d⟩
theorem Zkc(h:ks.all isStr=true):∀x∈ks.take k,∃s,x=.str s:=λx hx=>by
 have:=Al h x<|List.mem_of_mem_take hx
 induction x using V.casesOn with
 |str s=>exact⟨s,rfl⟩
 |_=>exact noT this
def ks4:List V:=[.str ZdL,.str Zco,.str Zb8,.str ZdG]
theorem Zia(h:ble ks.length 9=true):(ks.take k).length<=SZ:=Nt (List.length_take_le' ..)<|sz9<|bl h
theorem ZmG{S:Gh}{E:Yh}(C:C8 3 fi)(w:W9 3 fi L D 0 S en be H ow U X)(hp:∀u,u<3->(X u).place=some 0)(h:∀H' ow' S' U' X',W9 3 fi L D 4 S' en be H' ow' U' X'->Q .none H'):Yc (n+8) 202 [.ref L.fk,.int c,.ref D.sd] H Q E:=by
 refine Zac _ _ _ f202 rfl<|⟨by decide,?_⟩;obtain⟨p,e,hp3⟩:=ZaM (x:=fdiv c 2) (n:=3) (by decide);refine⟨⟨by decide,by decide⟩,by decide,?_⟩;rw[show fmod (fdiv c 2) 3=p from e];have p3:1+p<=3:=lg9 hp3;refine⟨show((1:Int)+p).natAbs<=SZ from sz9 (Nt p3<|by decide),?_⟩;have e1:rngN 0 (1+(p:Int)) 1=1+p:=Zay<|1+p;refine Zlj (n:=n+2) (c:=c) (lt:=1+fmod c 2) (v:=.rng 0 (1+(p:Int)) 1) (xs:=rngL 0 1<|rngN 0 (1+(p:Int)) 1) (λø=>rfl) C _ (λi H₁ ow1 S1' U1 X1 lo1' hi w1' l₁=>?_) (rngN 0 (1+(p:Int)) 1) 0 H S ow U X _ (by rw[e1,zero_add];exact p3) w hp ⟨rfl,rfl,rfl,rfl⟩;have w1':=w1'.up hi;show wpSs tb.P (Yc<|n+7) (psT<|psT Zax.body) ⟨H₁,lo1'⟩ (λfl σ=>Q (retV fl) σ.H) λe σ=>E e σ.H
 have tlu:∀(lo:Loc)(y:V),Tl L D c (1+fmod c 2) lo->Tl L D c (1+fmod c 2) (upd lo 188 y):=λlo y l=>⟨l.a,l.b,l.c,l.d⟩
 have q0:0<=1+fmod (fdiv c 6) 4:=Int.add_nonneg (by decide) (Int.fmod_nonneg_of_pos _<|by decide);refine Zpd<|⟨bl rfl,Zaa (o:=lo1' 137) l₁.b ⟨⟨by decide,by decide⟩,by decide,rfl,Dq q0,Zia (ks:=ks4) rfl,?_⟩⟩;refine Zeu rfl<|Zim (n:=n) (ae:=.list true<|.cons (.loc 206) .nil) (aw:=[1+fmod c 2]) (x:=.none) (v:=.lst<|ks4.take (1+fmod (fdiv c 6) 4).toNat) (xs:=ks4.take (1+fmod (fdiv c 6) 4).toNat) (λø=>rfl) C (by decide) tlu (λlo l=>l.a) (λH lo l Q' q=>Zaa (o:=lo 206) l.d ⟨bl rfl,q⟩) _ (λH2' ow2 S2' U2 X2 lo2' w2' l₂=>?_) (ks4.take (1+fmod (fdiv c 6) 4).toNat) (Zkc rfl) H₁ S1' ow1 U1 X1 lo1' w1' l₁;show wpSs tb.P (Yc<|n+7) (psT<|psT<|psT Zax.body) ⟨H2',lo2'⟩ (λfl σ=>Q (retV fl) σ.H) λe σ=>E e σ.H;obtain⟨t,et,ht⟩:=ZaM (x:=fdiv c 24) (n:=2) (by decide);refine Zaa (o:=lo2' 137) l₂.b ⟨⟨by decide,by decide⟩,by decide,?_⟩;rw[show fmod (fdiv c 24) 2=t from et];refine Zat<|Zak g175<|ZaB<|Zai l₂.a<|ZaB<|ZbQ<|ZaB<|Zai rfl<|ZaB<|Zak g11 ?_;refine Zaa (o:=lo2' 137) l₂.b ⟨⟨by decide,by decide⟩,by decide,?_⟩;refine Zek (n:=n+6) (M:=3) (σ:=⟨H2',_⟩) (by decide) λzs H3 k₃ z1 z2=>Zdn (n:=n+2) (t:=1+t) (w:=3) C (rm74 (i:=3)<|by decide) (w2'.g.ext k₃) (Nat.succ_lt_succ_iff.mpr ht |> λq=>Nat.add_comm t 1▸q) (by decide) (λø=>⟨zs,rfl,ZmL z1 z2⟩) (λø ø z=>absurd rfl z) λb H4 gn=>gv rfl ?_;obtain⟨S4,ow4,U4,X4,sb,kp,g4'⟩:=gn;have w4:W9 3 fi L D 4 S4 en be H4 ow4 U4 X4:=w2'.on ((Keep.ext k₃).trans kp) sb (by decide) g4'
 have l₄:Tl L D c (1+fmod c 2) (upd lo2' 207<|.int<|1+(t:Int)):=⟨l₂.a,l₂.b,l₂.c,l₂.d⟩
 show wpSs tb.P (Yc<|n+7) (psT<|psT<|psT<|psT<|psT Zax.body) ⟨H4,upd lo2' 207<|.int<|1+(t:Int)⟩ (λfl σ=>Q (retV fl) σ.H) λe σ=>E e σ.H;generalize upd lo2' 207 (.int<|1+(t:Int))=lo4 at l₄;have q1:0<=5 - fmod (fdiv c 336) 2:=Int.sub_nonneg_of_le (It (Int.le_of_lt<|Int.fmod_lt_of_pos _<|by decide) (by decide:(2:Int)<=5));refine Zpd<|⟨bl rfl,Zaa (o:=lo4 137) l₄.b ⟨⟨by decide,by decide⟩,by decide,rfl,Dq q1,Zia (ks:=ks5) rfl,?_⟩⟩;exact Zeu rfl<|Zim (n:=n) (ae:=.list true<|.cons (.cst<|.int 0) .nil) (aw:=[0]) (x:=.none) (v:=.lst<|ks5.take (5 - fmod (fdiv c 336) 2).toNat) (xs:=ks5.take (5 - fmod (fdiv c 336) 2).toNat) (λø=>rfl) C (by decide) tlu (λlo l=>l.a) (λH lo l Q' q=>⟨bl rfl,q⟩) _ (λH2' ow2 S2' U2 X2 lo2' w2' l₂=>h H2' ow2 S2' U2 X2 w2') (ks5.take (5 - fmod (fdiv c 336) 2).toNat) (Zkc rfl) H4 S4 ow4 U4 X4 lo4 w4 l₄
end
section
variable {D:Ad}{S:Gh}{en:EN}
theorem ZoI{w:Int}{Q:Yf}{E:EP}(c:C8 M fi)(hi:i<74)(W:W9 M fi L D i S en be H ow U X)(ht:t<M)(l1:lo 31=some (.int w))(l2:lo 139=some (.int m))(l3:lo 29=some (.int t))(l4:lo 34=some (.int (U.length:Nat)))(l5:lo 106=some (.ref L.fk))(l6:lo 28=some (.int M))(l7:lo 136=some (.ref D.sd))(h:∀H' ow' S' U' X' lo',W9 M fi L D (i+1) S' en be H' ow' U' X'->Q .next ⟨H',lo'⟩):wpSs tb.P (Yc<|n+8) (psT<|psT<|psT<|psT Zb5.body) ⟨H,lo⟩ Q E:=by
 have h9:M<=9:=Nt c.m6 (by decide);have r:=rm74<|Ny hi;have r':Rm (9000 * i+9000) (i+1):=rm74 (i:=i+1) hi;have g:=W.g
 have fin:∀{H':Hp}{lo':Loc},GN M fi L (9000 * i+9000) (i+1) S H ow H'->Q .next ⟨H',lo'⟩:=λ{H' lo'} gn=>by
  obtain⟨S',ow',U',X',sb,kp,g'⟩:=gn;exact h H' ow' S' U' X' lo'<|W.on kp sb (Us _) g'
 have fU:∀{x:Int},(decide<|(0:Int)<U.length)=true->∃p:Nat,fmod x U.length=p/\p<U.length:=λ{x} hc=>ZaM<|Int.ofNat_lt.mp<|Od hc;have nzU:(decide<|(0:Int)<U.length)=true->((U.length:Nat):Int)≠0:=λhc z=>absurd (Od hc)<|z▸Int.lt_irrefl _;refine it2t (c:=decide<|w<2) (λkk q=>ZoS l1 q) (λø=>?_) λø=>?_
 ·refine Zat<|Zak g176<|ZaB<|Zai l5<|ZaB<|Zai l2<|ZeF ?_;exact Zom (n:=n+1) c r g λH' gn=>gv rfl<|fin gn.up
 refine it2t (λkk q=>Zi8 (b1:=decide<|w<6) (b2:=decide<|(0:Int)<U.length) (λkk q=>ZoS l1 q) (λkk q=>ZpA l4 q) q) (λhc=>?_) λø=>?_
 ·have hc:=(An hc).2;obtain⟨p,ep,hp⟩:=fU (x:=m) hc;refine Zat<|Zak g180<|ZaB<|Zai l5<|ZaB<|Ze4<|Ze4<|ZkW (n:=n+7) c r g l5 λH2' ow2 k₂ g2'=>?_;refine Zaa (o:=lo 139) l2<|Zaa (o:=lo 34) l4 ⟨nzU hc,?_⟩;rw[ep];refine Zaa (o:=pyIdx (p:Int) (U.map l3V).length) (Zal (by rw[Lm];exact hp))<|Zaa (o:=(U.map l3V)[p]?) (by rw[getElem?_map,Lg hp];rfl) ?_;refine ZbQ<|ix0<|ZaB<|Zak g181 ?_;refine Zaa (o:=lo 139) l2 ⟨⟨by decide,by decide⟩,Zaa (o:=lo 28) l6 ?_⟩;refine Zka (n:=n+6) h9 λzs H3 k₃=>gv rfl ?_;exact Zfp (n:=n+1) c r (g2'.ext k₃) λH' gn=>gv rfl<|fin (gn.then .rf<|k₂.trans<|Keep.ext k₃).up
 refine it2t (c:=decide<|w<9) (λkk q=>ZoS l1 q) (λø=>?_) λø=>?_
 ·refine Zbp<|Zak g135<|ZaB ?_;refine Zaa (o:=lo 139) l2<|Zaa (o:=lo 28) l6 ⟨c.nz,?_⟩;refine ZmF (n:=n+7) λs=>gv rfl ?_
  have st:∀{v:V}{H₁:Hp}{ow1:Nat->Nat},Keep H ow H₁ ow1->Rep H₁ ow1 L M U X->(∀pl,(X t).place=some pl->v=.tup [.int pl,.lst<|iV (X t).ms])->wpSs tb.P (Yc<|n+8) (.cons (.ite (.e<|.call true (.glob 175)<|.cons (.loc 106)<|.cons (.cst<|.int 0)<|.cons (.loc 29)<|.cons (.loc 138) .nil) (.cons (.expr<|.meth true (.idx (.loc 136)<|.loc 29) 0<|.cons (.tup<|.cons (.idx (.loc 164)<|.cst<|.int 0)<|.cons (.loc 138) .nil) .nil) .nil) .nil) .nil) ⟨H₁,upd (upd lo 138<|.str s) 164 v⟩ Q E:=λ{v H₁ ow1} k₁ R1 hv=>by
   refine Zp9 (n:=n+3) (s:=s) c (Ny hi) (W.of k₁ R1) ht l7 l3 (λQ' q=>ZaB<|Zai l5<|ZaB<|ZbQ<|ZaB<|Zai l3<|ZaB<|Zai rfl<|ZeF q) (λpl H' e Q' q=>?_) λH' ow' S' U' X' w' ø=>h H' ow' S' U' X' _ w';obtain rfl:=hv pl e;exact⟨bl rfl,q⟩
  refine Zbp<|Zku (n:=n+3) g ht l5 l3 c.m6 (λH₁ ow1 pl hp k₁ R1=>?_) λH₁ ow1 hp k₁ R1=>?_
  ·exact st k₁ R1 λpl' e=>by obtain rfl:=Sj<|hp.symm.trans e;rfl
  ·exact st k₁ R1 λpl' e=>nomatch hp.symm.trans e
 refine it2t (c:=decide<|w<11) (λkk q=>ZoS l1 q) (λø=>?_) λø=>?_
 ·refine Zat<|Zak g182<|ZaB<|Zai l5<|ZaB<|Zai l2<|ZaB<|Zai l6<|ZeF ?_;exact ZlG (n:=n) c r r' g λH' gn=>gv rfl<|fin gn
 refine it2t (c:=decide<|w=11) (λkk q=>Zny l1 q) (λø=>?_) λø=>?_
 ·refine Zat<|Zak g175<|ZaB<|Zai l5<|ZaB<|ZbQ<|ZaB<|Zai l3<|ZaB<|ZbQ<|ZeF ?_;exact Zdn (n:=n+3) (w:=1) c r g ht (by decide) (λz=>absurd z<|by decide) (λz=>absurd rfl z) λb H' gn=>gv rfl<|fin gn
 refine it2t (λkk q=>Zi8 (b1:=decide<|w=12) (b2:=decide<|(0:Int)<U.length) (λkk q=>Zny l1 q) (λkk q=>ZpA l4 q) q) (λhc=>?_) λø=>?_
 ·have hc:=(An hc).2;obtain⟨p,ep,hp⟩:=fU (x:=m) hc;refine Zat<|Za0 (σ:=⟨H,lo⟩) (l:=106) l5 g.rep.fk m82 ?_;refine Zaa (o:=lo 139) l2<|Zaa (o:=lo 34) l4 ⟨nzU hc,?_⟩;rw[ep];exact Znx (n:=n+5) c g hp λH' ow' k' g'=>gv rfl<|fin ((GN.self g').then .rf k').up
 refine it2t (λkk q=>Zi8 (b1:=decide<|w=13) (b2:=decide<|(0:Int)<U.length) (λkk q=>Zny l1 q) (λkk q=>ZpA l4 q) q) (λhc=>?_) λø=>?_
 ·have hc:=(An hc).2;obtain⟨p,ep,hp⟩:=fU (x:=m) hc;refine Zat<|Za0 (σ:=⟨H,lo⟩) (l:=106) l5 g.rep.fk m83 ?_;refine Zaa (o:=lo 139) l2<|Zaa (o:=lo 34) l4 ⟨nzU hc,?_⟩;rw[ep];exact ZiF (n:=n+5) c r g hp λH' gn=>gv rfl<|fin gn
 refine it2t (c:=decide<|w=14) (λkk q=>Zny l1 q) (λø=>?_) λø=>?_
 ·refine Zat<|Zak g175<|ZaB<|Zai l5<|ZaB ?_;refine Zaa (o:=lo 139) l2 (Zaa (o:=lo 28) l6 ⟨c.nz,by decide,.inl<|by decide,?_⟩);refine Zaa (o:=lo 29) l3<|Zaa (o:=lo 139) l2 (Zaa (o:=lo 28) l6 ⟨c.nz,⟨by decide,by decide⟩,Zaa (o:=lo 28) l6 ⟨c.nz.1,?_⟩⟩);obtain⟨u,eu,hu⟩:=ZaM (x:=fdiv (fdiv m M) 5) (n:=M) c.m0;rw[eu];exact Zdn (w:=4 - 2 * bI (decide<|fmod (fdiv m M) 5=1)) (n:=n+3) c r g ht int00 (λz=>int01 z) (λø ø ø=>⟨u,hu,rfl⟩) λb H' gn=>gv rfl<|fin gn
 refine it2t (c:=decide (w=15)&&decide (fmod m 3=0)) (λkk q=>Zi8 (λkk q=>Zny l1 q) (λkk q=>Zaa (o:=lo 139) l2 ⟨by decide,q⟩) q) (λø=>?_) λø=>?_
 ·refine Zat<|Za0 (σ:=⟨H,lo⟩) (l:=106) l5 g.rep.fk m85 ?_;exact ZnP (n:=n+1) c r g λi H' gn=>gv rfl<|fin gn.up
 ·exact fin (GN.self g).up
theorem ZoC{cell:Int}{E:Yh}(c:C8 M fi)(hi:i<74)(W:W9 M fi L D i S en be H ow U X)(h:∀H' ow' S' U' X',W9 M fi L D (i+1) S' en be H' ow' U' X'->Q .none H'):Yc (n+9) 177 [.ref L.fk,.int cell,.int M,.ref D.sd] H Q E:=by
 obtain⟨t,et,ht⟩:=ZaM (x:=fdiv cell 16) (n:=M) c.m0;refine Zac _ _ _ f177 rfl<|⟨by decide,?_⟩;refine⟨⟨by decide,by decide⟩,?_⟩;refine⟨c.nz.1,?_⟩;rw[et];refine Zbp<|Zk9 (n:=n+7) c (rm74<|Ny hi) W.g rfl λH₁ ow1 k₁ g1'=>?_;exact ZoI c hi (W.of k₁ g1'.rep) ht rfl rfl rfl rfl rfl rfl rfl λH' ow' S' U' X' lo' w'=>h H' ow' S' U' X' w'
end
def nums(X:Nat->Hd):Nat->List Int
 |0=>[]
 |n+1=>nums X n++((X n).place.toList++(X n).gone.map (·.1))
theorem ZjB:∀M:Nat,(nums X M).length<=gs X M+M:=by
 intro M
 induction M with
 |zero=>exact Zr _
 |succ n ih=>
  show(nums X n++((X n).place.toList++(X n).gone.map (·.1))).length<=gs X n+sz (X n)+(n+1)
  rw[La,La,Lm]
  have h1:(X n).place.toList.length<=1:=by induction (X n).place with |none=>exact Zz _ |some _=>exact Zr _
  exact lp7 (d:=0) ih h1 (by unfold sz;rw[add_assoc];exact Ar ..)
theorem ZjG{i:Int}(h:(X t).place=some i\/i∈(X t).gone.map (·.1)):∀{M:Nat},t<M->i∈nums X M:=by
 intro M
 induction M with
 |zero=>exact λh=>absurd h<|not_lt_zero _
 |succ n ih=>
  intro hl;refine List.mem_append.mpr ?_
  rcases Nat.lt_or_eq_of_le (le_of_lt_succ hl) with z |z
  ·exact .inl<|ih z
  ·subst z;refine .inr<|List.mem_append.mpr<|h.imp (λe=>?_) id;rw[e];exact .head _
theorem f204:tb.P.fn 204=some Zcr:=by kernel_rfl
theorem Zcm(r:List Msg):deep H (rV r)=some (rV r):=by
 show mL (deepL (deepN H 11)<|mV r)=_;rw[Zeo];rfl
theorem ZkZ:∀r:List Msg,eqDs (mV r) (mV r)=true:=by
 intro r
 induction r with
 |nil=>rfl
 |cons m r ih=>
  show(eqD m.v m.v&&eqDs (mV r) (mV r))=true;rw[Znv,ih];rfl
structure Lo(M:Nat)(L:Lay)(D:Ad)(lo:Loc):Prop where
 a:lo 106=some (.ref L.fk)
 b:lo 28=some (.int M)
 c:lo 208=some (.ref D.e)
 d:lo 136=some (.ref D.sd)
section
variable {D:Ad}{S:Gh}{en:EN}
theorem W9.el(c:C8 M fi)(hi:i<=74)(W:W9 M fi L D i S en be H ow U X):en.length<SZ:=by
 have h:(en.map (·.1)).length<=(nums X M).length:=Zd5 W.ek λx hx=>by
  obtain⟨r,e⟩:=ZoM en hx;obtain⟨t,ht,ms,q⟩:=W.ep x r e;rw[← W.g.i9.go t ht]at q;exact ZjG (.inr<|mem_map.mpr ⟨_,q,rfl⟩) ht
 rw[Lm]at h;have h:=Nt h<|ZjB M;have s:gs X M<=9000 * i:=la8 W.g.nm.s;exact Gl (Nl (Nt h<|Nat.add_le_add s c.m6)<|Nat.add_lt_add_left (by decide:6<10100) _) (rm74 hi).b
theorem W9.dr(W:W9 M fi L D i S en be H ow U X)(ht:t<M){g:Gn}(hg:g∈S.Go t):DD fi S.S g.1 g.2.2/\g.2.2.Nodup/\(∀m∈g.2.2,Sai M S.Sd g.1 m)/\g.2.2.length<=SZ:=by
 have J:=W.g.i9;have d:=J.dd t ht g hg;have p:=(J.dr d).1;exact⟨d,(J.rn g.1).sublist p.sublist,λm hm=>J.rs g.1 m<|p.subset hm,sz0<|Nt ((W.g.inv.hs t ht).g.gr g<|show g∈(X t).gone from(J.go t ht).symm▸hg)<|by decide⟩
theorem sd9{E:EP}{e0:PE}{Q:Yq}(hg:H.get j=some (.dict<|dV rV en))(hz:en.length<SZ)(hl:row.length<=SZ)(l1:lo 208=some (.ref j))(i0:∀Q':Yq,Q' (.int x) ⟨H,lo⟩->wpE tb.P K E e0 ⟨H,lo⟩ Q')(i2:∀Q':Yq,Q' (rV row) ⟨H,lo⟩->wpE tb.P K E e2 ⟨H,lo⟩ Q')(h1:∀r,dG en x=some r->∀v,Q v ⟨H,lo⟩)(h2:dG en x=none->∀v,Q v ⟨H.set j<|.dict<|dV rV<|dS en x row,lo⟩):
  wpE tb.P K E (.meth true (.loc 208) 4<|.cons e0<|.cons (.call true (.glob 41)<|.cons e2 .nil) .nil) ⟨H,lo⟩ Q:=by
 refine Zqa (kvs:=dV rV en) (by rw[ng,ns];rfl) l1 hg<|ZaB (i0 _<|ZaB<|Zak g41<|ZaB<|i2 _<|ZeF ?_);show Nd ((mV row).length<=SZ) _;refine⟨by rw[Zan];exact hl,?_⟩;refine Zeu rfl<|ZeF ?_;refine Zaa (o:=cD<|H.get j) (a:=dV rV en) (by rw[hg];rfl) ?_;show Br (beq 4 tb.P.nGet) _ _;rw[ng];refine⟨Zci rV en x,?_⟩;show sdK _ j (dV rV en) (.int x,rV row) Q;unfold sdK;show(match dGet (dV rV en) (.int x) with |some v=>_ |none=>_);rw[ZgM]
 induction e:dG en x with
 |some r=>exact h1 r e _
 |none=>
  refine⟨by unfold dV;rw[Lm];exact hz,?_⟩;show Q _ ⟨H.set j<|.dict<|dSet (dV rV en) (.int x)<|rV row,lo⟩;rw[ZhZ];exact h2 e _
theorem ZlE(hs:∀H,still v xs H)(c:C8 M fi)(hi:i<=74)(ht:t<M)(Q:Yf):∀(gs:List Gn)(en:EN)(H:Hp)(lo:Loc),(∀g∈gs,g∈S.Go t)->W9 M fi L D i S en be H ow U X->Lo M L D lo->
  (∀H' en' lo',W9 M fi L D i S en' be H' ow U X->Lo M L D lo'->Q .next ⟨H',lo'⟩)->
  loopGo (λv σ2 k=>bindT [197] v σ2 λσ3=>wpSs tb.P (Yc<|n+1) Zaw σ3 k noE) (still v xs) (gV gs) ⟨H,lo⟩ Q:=by
 intro gs
 induction gs with
 |nil=>exact λen H lo ø W l h=>⟨hs H,h H en lo W l⟩
 |cons g gs ih=>
  intro en H lo hg W l h;have hg0:=hg g<|.head _;obtain⟨dd,nd,sa,hz⟩:=W.dr ht hg0;refine⟨hs H,?_⟩;show wpSs tb.P (Yc (n+1)) Zaw ⟨H,upd lo 197 (.tup [.int g.1,.lst (iV g.2.1),rV g.2.2])⟩ _ noE
  have l':Lo M L D (upd lo 197<|.tup [.int g.1,.lst<|iV g.2.1,rV g.2.2]):=⟨l.a,l.b,l.c,l.d⟩
  have l5':upd lo 197 (.tup [.int g.1,.lst<|iV g.2.1,rV g.2.2]) 197=some (.tup [.int g.1,.lst<|iV g.2.1,rV g.2.2]):=rfl;generalize upd lo 197 (.tup [.int g.1,.lst<|iV g.2.1,rV g.2.2])=lo' at l' l5';have i0:∀{H:Hp}(Q':Yq),Q' (.int g.1) ⟨H,lo'⟩->wpE tb.P (Yc<|n+1) noE (.idx (.loc 197)<|.cst<|.int 0) ⟨H,lo'⟩ Q':=λQ' q=>Ze4<|Zai l5'<|ZbQ q;have i2:∀{H:Hp}(Q':Yq),Q' (rV g.2.2) ⟨H,lo'⟩->wpE tb.P (Yc<|n+1) noE (.idx (.loc 197)<|.cst<|.int 2) ⟨H,lo'⟩ Q':=λQ' q=>Ze4<|Zai l5'<|ZbQ q;refine Zix (λkk q=>?_) ?_
  ·refine Zak g203<|ZaB<|i2 _<|ZaB<|i0 _<|ZaB<|Zai l'.d<|ZeF ?_;exact Zp7 (n:=n) W nd sa hz<|gv rfl q
  have fin:∀{H':Hp}{en':EN},W9 M fi L D i S en' be H' ow U X->dG en' g.1=some g.2.2->wpSs tb.P (Yc<|n+1) (psT<|psT Zaw) ⟨H',lo'⟩ (λfl σ1=>endK fl σ1 (λσ2=>loopGo (λv σ2 k=>bindT [197] v σ2 λσ3=>wpSs tb.P (Yc<|n+1) Zaw σ3 k noE) (still v xs) (gV gs) σ2 Q) Q) noE:=λ{H' en'} W' e=>by
   refine Zix (λkk q=>?_) ?_
   ·refine Ze4<|Zai l'.c<|i0 _<|ZpC W'.e.1 e<|i2 _ ?_;refine Zaa (o:=deep H'<|rV g.2.2) (Zcm _)<|Zaa (o:=deep H'<|rV g.2.2) (Zcm _) ?_;show kk (!eqDs (mV g.2.2) (mV g.2.2)) _;rw[ZkZ];exact q
   exact ih en' H' lo' (λg hg'=>hg g<|.tail _ hg') W' l' h
  refine Zat<|sd9 W.e.1 (W.el c hi) hz l'.c i0 i2 (λr e ø=>?_) λe ø=>?_
  ·refine fin W ?_;obtain⟨u,hu,ms,q⟩:=W.ep _ _ e;exact e.trans<|congrArg some<|(W.dr hu q).1.eq W.g.inv.is dd
  ·refine fin (W.end (Zo7 en W.ek) λx r e'=>?_) (by rw[Zop,if_pos rfl]);rw[Zop]at e'
   by_cases z:g.1=x
   ·rw[if_pos z]at e'; obtain rfl:=Sj e'; obtain rfl:=z;exact⟨t,ht,g.2.1,hg0⟩
   ·rw[if_neg z]at e'; exact W.ep x r e'
theorem ZiI(hs:∀H,still v xs H)(c:C8 M fi)(hi:i<=74)(Q:Yf)(h:∀H' ow' en' lo',W9 M fi L D i S en' be H' ow' U X->Q .next ⟨H',lo'⟩):∀(N a:Nat)(en:EN)(H:Hp)(ow:Nat->Nat)(lo:Loc),a+N<=M->W9 M fi L D i S en be H ow U X->Lo M L D lo->
  loopGo (λv σ2 k=>bindT [29] v σ2 λσ3=>wpSs tb.P (Yc<|n+5) Zba σ3 k noE) (still v xs) (rngL a 1 N) ⟨H,lo⟩ Q:=by
 intro N
 induction N with
 |zero=>exact λa en H ow lo ø W ø=>⟨hs H,h H ow en lo W⟩
 |succ N ih=>
  intro a en H ow lo ha W l;have ht:a<M:=la1 ha;refine⟨hs H,?_⟩;show wpSs tb.P (Yc (n+5)) Zba ⟨H,upd lo 29 (.int a)⟩ _ noE;refine Zpd<|Zkh (n:=n) W.g ht l.a rfl c.m6 (rm74 hi) λH₁ ow1 k₁ R1=>?_;exact ZlE (n:=n+4) (v:=.lst<|gV (X a).gone) (xs:=gV (X a).gone) (λø=>rfl) c hi ht _ (X a).gone en H₁ _ (λg hg=>by rw[← W.g.i9.go a ht];exact hg) (W.of k₁ R1) ⟨l.a,l.b,l.c,l.d⟩ λH2' en2 lo2' W2 m=>ih (a+1) en2 H2' ow1 lo2' (la2 ha) W2 m
theorem ZkI{E:Yh}(c:C8 M fi)(hi:i<=74)(W:W9 M fi L D i S en be H ow U X)(h:∀H' ow' en',W9 M fi L D i S en' be H' ow' U X->Q (.bool true) H'):Yc (n+6) 204 [.ref L.fk,.int M,.ref D.e,.ref D.sd] H Q E:=by
 refine Zac _ _ _ f204 rfl<|⟨show((M:Nat):Int).natAbs<=SZ by rw[Int.natAbs_natCast];exact sz9<|Nt c.m6<|by decide,?_⟩;exact ZiI (n:=n) (v:=.rng 0 (M:Nat) 1) (xs:=rngL 0 1<|rngN 0 (M:Nat) 1) (λø=>rfl) c hi _ (λH' ow' en' lo' W'=>h H' ow' en' W') (rngN 0 (M:Nat) 1) 0 en H ow _ (by rw[Zay,zero_add];exact Zr _) W ⟨rfl,rfl,rfl,rfl⟩
end
theorem f205:tb.P.fn 205=some ZcW:=by kernel_rfl
theorem get9{E:EP}{l:Nat}{en:EN}{r:List Msg}{e0:PE}{Q:Yq}(hg:H.get j=some (.dict<|dV rV en))(l1:lo l=some (.ref j))(i0:∀Q':Yq,Q' (.int x) ⟨H,lo⟩->wpE tb.P K E e0 ⟨H,lo⟩ Q')(i1:∀Q':Yq,Q' (rV r) ⟨H,lo⟩->wpE tb.P K E e1 ⟨H,lo⟩ Q')(h:Q (rV<|(dG en x).getD r) ⟨H,lo⟩):
  wpE tb.P K E (.meth true (.loc l) 3<|.cons e0<|.cons e1 .nil) ⟨H,lo⟩ Q:=by
 refine Zqa (kvs:=dV rV en) (by rw[ng,ns];rfl) l1 hg<|ZaB (i0 _<|ZaB<|i1 _<|ZeF ?_);refine Zaa (o:=cD<|H.get j) (a:=dV rV en) (by rw[hg];rfl) ?_;show Br (beq 3 tb.P.nGet) _ _;rw[ng];refine⟨Zci rV en x,?_⟩;show Q ((dGet (dV rV en)<|.int x).getD<|rV r) _;rw[ZgM]
 induction e:dG en x with
 |none=>rw[e]at h;exact h
 |some l=>rw[e]at h;exact h
theorem ZfK{α:Type}{a b c:List α}(ha:a <+:c)(hb:b <+:c)(h:a.length<=b.length):b.take a.length=a:=by
 have:=List.prefix_of_prefix_length_le ha hb h;exact(List.prefix_iff_eq_take.mp this).symm
theorem Zou(r:List Msg):eqD (rV r) (rV r)=true:=ZkZ r
theorem ZgO{r:List Msg}:(mV r).take ((k:Nat):Int).toNat=mV (r.take k):=(map_take ..).symm
section
variable {D:Ad}{S:Gh}{en:EN}
theorem W9.tk(W:W9 M fi L D i S en be H ow U X)(hi:i<=74)(ht:t<M)(hp:(X t).place=some pl):((X t).row.take (X t).took.toNat) <+:S.R pl/\((X t).row.take (X t).took.toNat).Nodup/\(∀m∈(X t).row.take (X t).took.toNat,Sai M S.Sd pl m)/\((X t).row.take (X t).took.toNat).length<=100/\∀r,dG en pl=some r->((X t).row.take (X t).took.toNat).length<=r.length/\r <+:S.R pl:=by
 have J:=W.g.i9;have h:=J.hs t ht pl hp;have p:((X t).row.take (X t).took.toNat) <+:S.R pl:=(List.take_prefix ..).trans h.row;refine⟨p,(J.rn pl).sublist p.sublist,λm hm=>J.rs pl m<|p.subset hm,?_,λr e=>?_⟩
 ·exact Nt (List.length_take_le' ..)<|Nt (la8<|W.g.nm.r t ht)<|Nt hi<|by decide
 ·obtain⟨u,hu,ms,q⟩:=W.ep _ _ e;have d:=J.dr<|J.dd u hu _ q;refine⟨Nt (List.length_take_le ..) ?_,d.1⟩;have:=h.tk.pm W.g.inv.is d.2;exact Int.toNat_le.mpr this
structure Y9(M:Nat)(fi:List Int)(L:Lay)(D:Ad)(i:Nat)(S:Gh)(en:EN)(be:List (List Gn))(j:Nat)(ro:EN)(H:Hp)(ow:Nat->Nat)(U:List Letter)(X:Nat->Hd):Prop where
 w:W9 M fi L D i S en be H ow U X
 g:H.get j=some (.dict<|dV rV ro)/\ow j=0
 n1:D.sd≠j
 n2:D.e≠j
 p:∀x r,dG ro x=some r->r <+:S.R x/\r.length<=100
variable {ro:EN}
theorem Y9.of(y:Y9 M fi L D i S en be j ro H ow U X)(k:Keep H ow H' ow')(R:Rep H' ow' L M U X):Y9 M fi L D i S en be j ro H' ow' U X:=⟨y.w.of k R,k _ _ y.g.1 y.g.2,y.n1,y.n2,y.p⟩
theorem Y9.set{ro':EN}(y:Y9 M fi L D i S en be j ro H ow U X)(p:∀x r,dG ro' x=some r->r <+:S.R x/\r.length<=100):Y9 M fi L D i S en be j ro' (H.set j<|.dict<|dV rV ro') ow U X:=by
 have gs:∀{a:Nat}{c:C},a≠j->(H.get a=some c/\ow a=0)->(H.set j<|.dict<|dV rV ro').get a=some c/\ow a=0:=λn h=>⟨(Hp.get_set y.g.1).trans<|(if_neg n).trans h.1,h.2⟩
 have nl:∀{a:Nat}{xs:List V},H.get a=some (.list xs)->a≠j:=λh z=>by rw[z,y.g.1]at h;exact Zlz h
 have w:=y.w;exact⟨⟨⟨w.g.rep.set y.g.1 y.g.2,w.g.inv,w.g.i9,w.g.nm⟩,gs y.n1 w.d,λt ht=>⟨(w.l t ht).1,gs (nl (w.l t ht).2.1.1) (w.l t ht).2.1,(w.l t ht).2.2⟩,w.u,gs y.n2 w.e,gs (nl w.b.1) w.b,w.nb,w.ne,w.bl,w.bp,w.ek,w.ep⟩,⟨(Hp.get_set y.g.1).trans<|if_pos rfl,y.g.2⟩,y.n1,y.n2,p⟩
theorem Zl4(hs:∀H,still v xs H)(c:C8 M fi)(hi:i<=74)(Q:Yf)(h:∀H' ow' lo',W9 M fi L D i S en be H' ow' U X->Q .next ⟨H',lo'⟩):∀(N a:Nat)(ro:EN)(H:Hp)(ow:Nat->Nat)(lo:Loc),a+N<=M->ro.length<=a->Y9 M fi L D i S en be j ro H ow U X->Lo M L D lo->lo 36=some (.ref j)->
  loopGo (λv σ2 k=>bindT [29] v σ2 λσ3=>wpSs tb.P (Yc<|n+5) ZaU σ3 k noE) (still v xs) (rngL a 1 N) ⟨H,lo⟩ Q:=by
 intro N
 induction N with
 |zero=>exact λa ro H ow lo ø ø y ø ø=>⟨hs H,h H ow lo y.w⟩
 |succ N ih=>
  intro a ro H ow lo ha hr y l l5;have ht:a<M:=la1 ha;refine⟨hs H,?_⟩;show wpSs tb.P (Yc (n+5)) ZaU ⟨H,upd lo 29 (.int a)⟩ _ noE;refine Zbp<|Zku (n:=n) y.w.g ht l.a rfl c.m6 (λH₁ ow1 pl hp k₁ R1=>?_) λH₁ ow1 hp k₁ R1=>?_
  ·have y1':=y.of k₁ R1;refine Zo9 (σ':=⟨H₁,upd (upd lo 29<|.int a) 198<|.tup [.int pl,.lst<|iV (X a).ms]⟩) (λkk q=>⟨rfl,q⟩)<|Zbp (ZkF (n:=n) y1'.w.g ht l.a rfl hp (rm74 hi) λH2' ow2 k₂ R2=>?_);have y2':=y1'.of k₂ R2;obtain⟨t1,t2,t3,t4,t5⟩:=y2'.w.tk hi ht hp;generalize (X a).row.take (X a).took.toNat=row at t1 t2 t3 t4 t5;have tz:row.length<=SZ:=sz0 (Nt t4<|by decide);show wpSs tb.P (Yc<|n+5) _ ⟨H2',upd (upd (upd lo 29<|.int a) 198<|.tup [.int pl,.lst<|iV (X a).ms]) 38<|rV row⟩ _ noE
   have m:Lo M L D (upd (upd (upd lo 29<|.int a) 198<|.tup [.int pl,.lst<|iV (X a).ms]) 38<|rV row):=⟨l.a,l.b,l.c,l.d⟩
   have m5:upd (upd (upd lo 29<|.int a) 198<|.tup [.int pl,.lst<|iV (X a).ms]) 38 (rV row) 36=some (.ref j):=l5;have m6:upd (upd (upd lo 29<|.int a) 198<|.tup [.int pl,.lst<|iV (X a).ms]) 38 (rV row) 198=some (.tup [.int pl,.lst<|iV (X a).ms]):=rfl;have m7:upd (upd (upd lo 29<|.int a) 198<|.tup [.int pl,.lst<|iV (X a).ms]) 38 (rV row) 38=some (rV row):=rfl;generalize upd (upd (upd lo 29<|.int a) 198<|.tup [.int pl,.lst<|iV (X a).ms]) 38 (rV row)=lo2' at m m5 m6 m7;refine Zbp<|get9 (r:=(dG ro pl).getD []) y2'.w.e.1 m.c (λQ' q=>Ze4<|Zai m6<|ZbQ q) (λQ' q=>get9 (r:=[]) y2'.g.1 m5 (λQ' q=>Ze4<|Zai m6<|ZbQ q) (λQ' q=>⟨Zz _,q⟩) q) ?_
   have bp:(dG en pl).getD ((dG ro pl).getD []) <+:S.R pl:=by
    induction e:dG en pl with
    |some r=>exact(t5 r e).2
    |none=>
     induction e':dG ro pl with
     |some r=>exact(y2'.p pl r e').1
     |none=>exact List.nil_prefix
   have be':∀r,dG en pl=some r->row.length<=((dG en pl).getD<|(dG ro pl).getD []).length:=λr e=>by rw[e];exact(t5 r e).1
   have bz:((dG en pl).getD<|(dG ro pl).getD []).length<=SZ:=by
    induction e:dG en pl with
    |some r=>obtain⟨u,hu,ms,q⟩:=y2'.w.ep _ _ e;exact(y2'.w.dr hu q).2.2.2
    |none=>
     induction e':dG ro pl with
     |some r=>exact sz0<|Nt (y2'.p pl r e').2<|by decide
     |none=>exact Zz _
   generalize (dG en pl).getD ((dG ro pl).getD [])=best at bp be' bz;show wpSs tb.P (Yc<|n+5) _ ⟨H2',upd lo2' 179<|rV best⟩ _ noE
   have nn:Lo M L D (upd lo2' 179<|rV best):=⟨m.a,m.b,m.c,m.d⟩
   have n5:upd lo2' 179 (rV best) 36=some (.ref j):=m5;have n6:upd lo2' 179 (rV best) 198=some (.tup [.int pl,.lst<|iV (X a).ms]):=m6;have n7:upd lo2' 179 (rV best) 38=some (rV row):=m7;have n8:upd lo2' 179 (rV best) 179=some (rV best):=rfl;generalize upd lo2' 179 (rV best)=lo3' at nn n5 n6 n7 n8;have i0:∀{H:Hp}(Q':Yq),Q' (.int pl) ⟨H,lo3'⟩->wpE tb.P (Yc<|n+5) noE (.idx (.loc 198)<|.cst<|.int 0) ⟨H,lo3'⟩ Q':=λQ' q=>Ze4<|Zai n6<|ZbQ q;refine Zix (λkk q=>?_) ?_
   ·refine Zak g203<|ZaB<|Zai n7<|ZaB<|i0 _<|ZaB<|Zai nn.d<|ZeF ?_;exact Zp7 (n:=n+4) y2'.w t2 t3 tz<|gv rfl q
   have sl:∀{l1 l2:Nat}{p q:List Msg}{Q':Yq},lo3' l1=some (rV p)->lo3' l2=some (rV q)->p.length<=SZ->Q' (rV<|p.take q.length) ⟨H2',lo3'⟩->wpE tb.P (Yc<|n+5) noE (.sl true (.loc l1) .none<|.some<|.call true (.glob 46)<|.cons (.loc l2) .nil) ⟨H2',lo3'⟩ Q':=λ{l1 l2 p q Q'} e1 e2 pz h'=>by
    refine Zaa (o:=lo3' l1) e1<|Zaa (o:=lo3' l2) e2 ?_;refine⟨rfl,Dq<|natCast_nonneg (mV q).length,?_,?_⟩
    ·show((mV p).take (((mV q).length:Nat):Int).toNat).length<=SZ;rw[ZgO,Zan];exact Nt (List.length_take_le' ..) pz
    ·refine Zeu rfl ?_;show Q' (.lst<|(mV p).take (((mV q).length:Nat):Int).toNat) _;rw[ZgO,Zan];exact h'
   refine Zix (λkk q=>?_) ?_
   ·refine sl n8 n7 bz<|Zaa (o:=lo3' 38) n7 ?_;refine Zaa (o:=deep H2'<|rV<|best.take row.length) (Zcm _) (Zaa (o:=deep H2'<|rV row) (Zcm _) ?_)
    by_cases le:row.length<=best.length
    ·rw[ZfK t1 bp le];exact Zdv (b:=!eqD (rV row) (rV row)) (by rw[Zou];rfl) q
    ·refine Zby (b:=!eqD (rV<|best.take row.length) (rV row)) (λø=>?_) λø=>q
     have no:dG en pl=none:=by
      induction e:dG en pl with
      |none=>rfl
      |some r=>exact absurd (be' r e) le
     refine i0 _<|Zaa (o:=lo3' 208) nn.c<|Zp3 y2'.w.e.1 ?_;rw[no];refine sl n7 n8 tz<|Zaa (o:=lo3' 179) n8 ?_;refine Zaa (o:=deep H2'<|rV<|row.take best.length) (Zcm _)<|Zaa (o:=deep H2'<|rV best) (Zcm _) ?_;rw[ZfK bp t1<|Ny<|Nat.lt_of_not_le le];exact Zdv (b:=!eqD (rV best) (rV best)) (by rw[Zou];rfl) q
   have nx:∀{H':Hp}{ro':EN},ro'.length<=ro.length+1->Y9 M fi L D i S en be j ro' H' ow2 U X->loopGo (λv σ2 k=>bindT [29] v σ2 λσ3=>wpSs tb.P (Yc<|n+5) ZaU σ3 k noE) (still v xs) (rngL ((a:Int)+1) 1 N) ⟨H',lo3'⟩ Q:=λ{H' ro'} hl y'=>ih (a+1) ro' H' ow2 lo3' (la2 ha) (Nt hl<|Fs hr) y' nn n5;refine it2t (c:=decide<|(((mV<|(dG ro pl).getD []).length:Nat):Int)<((mV row).length:Nat)) (λkk q=>?_) (λø=>?_) λø=>nx (Us _) y2'
   ·refine Zaa (o:=lo3' 38) n7<|Zak g46 (ZaB<|get9 (r:=[]) y2'.g.1 n5 i0 (λQ' q=>⟨Zz _,q⟩)<|ZeF ?_);exact q
   ·refine Zaa (o:=lo3' 38) n7<|Zaa (o:=lo3' 36) n5<|i0 _ ?_;refine Zdv (b:=(cL<|H2'.get j).isSome) (by rw[y2'.g.1];rfl)<|Zaa (o:=cD<|H2'.get j) (a:=dV rV ro) (by rw[y2'.g.1];rfl) ⟨Zci rV ro pl,?_,?_⟩
    ·unfold dV;rw[Lm];exact Nl hr<|Gl ht<|sz9<|Nt c.m6<|by decide
    ·show loopGo _ _ _ ⟨H2'.set j<|.dict<|dSet (dV rV ro) (.int pl)<|rV row,lo3'⟩ Q;rw[ZhZ];refine nx (Zkk ro)<|y2'.set λx r e=>?_;rw[Zop]at e
     by_cases z:pl=x
     ·rw[if_pos z]at e;obtain rfl:=Sj e;exact z▸⟨t1,t4⟩
     ·rw[if_neg z]at e;exact y2'.p x r e
  ·exact Zix (λkk q=>⟨rfl,q⟩)<|ih (a+1) ro H₁ ow1 _ (la2 ha) (Nat.le_succ_of_le hr) (y.of k₁ R1) ⟨l.a,l.b,l.c,l.d⟩ l5
theorem ZnM{E:Yh}(c:C8 M fi)(hi:i<=74)(W:W9 M fi L D i S en be H ow U X)(h:∀H' ow',W9 M fi L D i S en be H' ow' U X->Q (.bool true) H'):Yc (n+6) 205 [.ref L.fk,.int M,.ref D.e,.ref D.sd] H Q E:=by
 refine Zac _ _ _ f205 rfl<|⟨Zz _,rfl,?_⟩;refine⟨show((M:Nat):Int).natAbs<=SZ by rw[Int.natAbs_natCast];exact sz9<|Nt c.m6<|by decide,?_⟩;have nx:∀{a:Nat}{d:C},H.get a=some d->a≠H.next:=λg=>Nx<|Zas g
 have k:Keep H ow (H.new<|.dict<|dV rV []) (owN H.next ow []):=λa d g w=>⟨(Hp.get_new.trans<|if_neg<|nx g).trans g,(if_pos<|Zas g).trans w⟩
 refine Zl4 (n:=n) (j:=H.next) (v:=.rng 0 (M:Nat) 1) (xs:=rngL 0 1<|rngN 0 (M:Nat) 1) (λø=>rfl) c hi _ (λH' ow' lo' W'=>h H' ow' W') (rngN 0 (M:Nat) 1) 0 [] (H.new<|.dict<|dV rV []) (owN H.next ow []) _ (by rw[Zay,zero_add];exact Zr _) (Zr _) ⟨W.of k W.g.rep.new,⟨Hp.get_new.trans<|if_pos rfl,by unfold owN;rw[if_neg<|Nat.lt_irrefl _];rfl⟩,nx W.d.1,nx W.e.1,λx r e=>nomatch e⟩ ⟨rfl,rfl,rfl,rfl⟩ rfl
end
theorem g177:tb.P.glob 177=some (.fn 177):=by kernel_rfl
theorem g202:tb.P.glob 202=some (.fn 202):=by kernel_rfl
theorem g204:tb.P.glob 204=some (.fn 204):=by kernel_rfl
theorem g205:tb.P.glob 205=some (.fn 205):=by kernel_rfl
def gnV(g:Gn):V:=.tup [.int g.1,.lst (iV g.2.1),.lst (mV g.2.2)]
theorem ZkG(g:Gn):deepN H 11 (gnV g)=some (gnV g):=by
 show mT (deepL (deepN H 10) [.int g.1,.lst<|iV g.2.1,.lst<|mV g.2.2])=_;show mT (match some (V.int g.1) with |some y=>(match (match mL (deepL (deepN H 9)<|iV g.2.1) with |some y=>(match (match mL (deepL (deepN H 9)<|mV g.2.2) with |some y=>some [y] |none=>none) with |some ys=>some (y::ys) |none=>none) |none=>none) with |some ys=>some (y::ys) |none=>none) |none=>none)=_;rw[Zck,Zeo];rfl
theorem Zla:∀l:List Gn,deepL (deepN H 11) (gV l)=some (gV l):=by
 intro l
 induction l with
 |nil=>rfl
 |cons g l ih=>
  show(match deepN H 11 (gnV g) with |some y=>(match deepL (deepN H 11) (gV l) with |some ys=>some (y::ys) |none=>none) |none=>none)=_;rw[ZkG,ih];rfl
theorem Zii(l:List Gn):deep H (.lst<|gV l)=some (.lst<|gV l):=by
 show mL (deepL (deepN H 11)<|gV l)=_;rw[Zla];rfl
theorem ZpS:∀l:List Gn,eqDs (gV l) (gV l)=true:=by
 intro l
 induction l with
 |nil=>rfl
 |cons g l ih=>
  show((decide (g.1=g.1)&&(eqDs (iV g.2.1) (iV g.2.1)&&(eqDs (mV g.2.2) (mV g.2.2)&&true)))&&eqDs (gV l) (gV l))=true;rw[Dq rfl,Zpc,ZkZ,ih];rfl
section
variable {D:Ad}{S:Gh}{en:EN}
theorem Zmg(Q:Yl)(hi:∀H,still vv us H):∀(xs acc:List Gn)(lo:Loc),(∀g∈xs,g.2.1.length<=SZ/\g.2.2.length<=SZ)->acc.length+xs.length<=SZ->(∀lo',Q (gV<|acc++xs) ⟨H,lo'⟩)->
  compGo (λσ2 k=>wpC tb.P K noE .none σ2 k) (λσ2 k=>wpE tb.P K noE (.tup<|.cons (.idx (.loc 197)<|.cst<|.int 0)<|.cons (.call true (.glob 41)<|.cons (.idx (.loc 197)<|.cst<|.int 1) .nil)<|.cons (.call true (.glob 41)<|.cons (.idx (.loc 197)<|.cst<|.int 2) .nil) .nil) σ2 k) [197] (still vv us) (gV xs) (gV acc) ⟨H,lo⟩ Q:=by
 intro xs
 induction xs with
 |nil=>
  intro acc lo hg hz h;have h:=h lo;rw[append_nil]at h;exact⟨hi H,by show(acc.map _).length<=SZ;rw[Lm];exact hz,h⟩
 |cons g xs ih=>
  intro acc lo hg hz h;rw[Lc]at hz;have g1:=hg g<|.head _;refine⟨hi H,by show(acc.map _).length<SZ;rw[Lm];exact la1 hz,?_⟩;refine⟨by rw[Zaj];exact g1.1,?_⟩;refine⟨by rw[Zan];exact g1.2,?_⟩;refine⟨Bq rfl,?_⟩
  have e:gV acc++[.tup [.int g.1,.lst<|iV g.2.1,.lst<|mV g.2.2]]=gV (acc++[g]):=by unfold gV;rw[map_append];rfl
  show compGo _ _ [197] _ (gV xs) (gV acc++[.tup [.int g.1,.lst<|iV g.2.1,.lst<|mV g.2.2]]) ⟨H,_⟩ Q;rw[e];refine ih (acc++[g]) _ (λy hy=>hg y<|.tail _ hy) (by rw[La];show acc.length+1+_<=_;exact la2 hz) λlo'=>?_;have h:=h lo';rw[List.append_cons]at h;exact h
theorem ZkN(hs:∀H,still v xs H)(c:C8 M fi)(hi:i<=74)(Q:Yf):∀(N a:Nat)(be:List (List Gn))(H:Hp)(ow:Nat->Nat)(lo:Loc),a+N<=M->W9 M fi L D i S en be H ow U X->Lo M L D lo->lo 178=some (.ref D.b)->
  (∀H' ow' be' lo',W9 M fi L D i S en be' H' ow' U X->Lo M L D lo'->lo' 178=some (.ref D.b)->Q .next ⟨H',lo'⟩)->
  loopGo (λv σ2 k=>bindT [29] v σ2 λσ3=>wpSs tb.P (Yc<|n+5) Ze5 σ3 k noE) (still v xs) (rngL a 1 N) ⟨H,lo⟩ Q:=by
 intro N
 induction N with
 |zero=>exact λa be H ow lo ø W l l5 h=>⟨hs H,h H ow be lo W l l5⟩
 |succ N ih=>
  intro a be H ow lo ha W lL l5 h;have ht:a<M:=la1 ha;refine⟨hs H,?_⟩;show wpSs tb.P (Yc (n+5)) Ze5 ⟨H,upd lo 29 (.int a)⟩ _ noE;have gz:=ZgS (lo:=upd lo 29<|.int a) (i:=29) W.g ht lL.a rfl c.m6<|rm74 hi;refine Zbp<|Zkh (n:=n) W.g ht lL.a rfl c.m6 (rm74 hi) λH₁ ow1 k₁ R1=>?_;have W1:=W.of k₁ R1;have lt:a<be.length:=W.bl.symm▸ht;have eb:=Lg lt;have pb:=W.bp a _ eb;rw[← W.g.i9.go a ht]at pb;generalize be[a]=l at eb pb;have go:=W.g.i9.go a ht;generalize (X a).gone=gs at gz pb go;show wpSs tb.P (Yc (n+5)) _ ⟨H₁,upd (upd lo 29 (.int a)) 198 (.lst (gV gs))⟩ _ noE
  have m:Lo M L D (upd (upd lo 29<|.int a) 198<|.lst<|gV gs):=⟨lL.a,lL.b,lL.c,lL.d⟩
  have m5:upd (upd lo 29<|.int a) 198 (.lst<|gV gs) 178=some (.ref D.b):=l5;have m6:upd (upd lo 29<|.int a) 198 (.lst<|gV gs) 29=some (.int a):=rfl;have m7:upd (upd lo 29<|.int a) 198 (.lst<|gV gs) 198=some (.lst<|gV gs):=rfl;generalize upd (upd lo 29<|.int a) 198 (.lst<|gV gs)=lo1' at m m5 m6 m7;have ib:∀{Q':Yq},Q' (.lst<|gV l) ⟨H₁,lo1'⟩->wpE tb.P (Yc<|n+5) noE (.idx (.loc 178)<|.loc 29) ⟨H₁,lo1'⟩ Q':=λ{Q'} q=>Ze4<|Zai m5<|Zai m6<|Zp8 W1.b.1 eb q
  have gt:(gV gs).take (((gV l).length:Nat):Int).toNat=gV l:=by
   show(gV gs).take (gV l).length=gV l;have e:gs.take l.length=l:=(List.prefix_iff_eq_take.mp pb).symm;unfold gV;rw[Lm,← map_take,e]
  have gl:(gV gs).length<=SZ:=by show(gs.map _).length<=SZ;rw[Lm];exact gz.2
  refine Zix (λkk q=>?_) ?_
  ·refine Zaa (o:=lo1' 198) m7<|Zak g46<|ZaB<|ib<|ZeF ?_;refine⟨rfl,Dq<|natCast_nonneg (gV l).length,?_,?_⟩
   ·show((gV gs).take (((gV l).length:Nat):Int).toNat).length<=SZ;exact Nt (List.length_take_le' ..) gl
   refine Zeu rfl ?_;show wpE tb.P (Yc<|n+5) noE (.idx (.loc 178)<|.loc 29) ⟨H₁,lo1'⟩ λb σ2=>cmpK σ2.H .ne (.lst<|(gV gs).take (((gV l).length:Nat):Int).toNat) b λc=>truK σ2.H (.bool c) λb=>kk b σ2;rw[gt];refine ib<|Zaa (o:=deep H₁<|.lst<|gV l) (Zii _) (Zaa (o:=deep H₁<|.lst<|gV l) (Zii _) ?_);show kk (!eqDs (gV l) (gV l)) _;rw[ZpS];exact q
  refine Zaa (o:=lo1' 198) m7<|Zmg (vv:=.lst<|gV gs) (us:=gV gs) _ (λø=>rfl) gs [] _ gz.1 (by show 0+_<=_;exact lf4 gz.2) λlo'=>⟨gl,?_⟩;refine Zeu rfl<|Zaa (o:=lo1' 178) m5 (Zaa (o:=lo1' 29) m6 ?_);refine Zeu (b:=(cL<|H₁.get D.b).isSome) (by rw[W1.b.1];rfl)<|Zaa (o:=cL<|H₁.get D.b) (a:=be.map λl=>.lst<|gV l) (by rw[W1.b.1];rfl)<|⟨⟨natCast_nonneg a,by rw[Lm];exact ld1 lt⟩,?_⟩;show loopGo _ _ _ ⟨H₁.set D.b<|.list<|(be.map λl=>V.lst<|gV l).set a<|.lst<|gV gs,lo1'⟩ Q;rw[show(be.map λl=>V.lst<|gV l).set a (.lst<|gV gs)=(be.set a gs).map λl=>V.lst (gV l) from(List.map_set ..).symm];refine ih (a+1) (be.set a gs) _ ow1 lo1' (la2 ha) (W1.bef (by rw[List.length_set];exact W.bl) λu l' e=>?_) m m5 h;rw[List.getElem?_set]at e
  by_cases z:a=u
  ·rw[if_pos z,if_pos lt]at e;obtain rfl:=Sj e;rw[← z,← go];exact prefix_rfl
  ·rw[if_neg z]at e;exact W.bp u l' e
theorem Zgz(hs:∀H,still v xs H)(c:C8 M fi)(Q:Yf)(h:∀σ,Q .next σ):∀(zs:List Int)(i:Nat)(H:Hp)(S:Gh)(ow:Nat->Nat)(U:List Letter)(X:Nat->Hd)(en:EN)(be:List (List Gn))(lo:Loc),i+zs.length<=74->W9 M fi L D i S en be H ow U X->Lo M L D lo->lo 178=some (.ref D.b)->
  loopGo (λv σ2 k=>bindT [137] v σ2 λσ3=>wpSs tb.P (Yc<|n+9) Ze8 σ3 k noE) (still v xs) (iV zs) ⟨H,lo⟩ Q:=by
 intro zs
 induction zs with
 |nil=>exact λi H S ow U X en be lo ø W l l5=>⟨hs H,h _⟩
 |cons y zs ih=>
  intro i H S ow U X en be lo hi W l l5;rw[Lc]at hi;have hi':i<74:=la1 hi;refine⟨hs H,?_⟩;show wpSs tb.P (Yc (n+9)) Ze8 ⟨H,upd lo 137 (.int y)⟩ _ noE;refine Zat<|Zak g177 (ZaB (Zai l.a (ZaB (Zai rfl (ZaB (Zai l.b (ZaB (Zai l.d (ZeF ?_)))))))));refine ZoC (n:=n) c hi' W λH₁ ow1 S1' U1 X1 W1=>gv rfl ?_;refine Zak g204<|ZaB (Zai l.a (ZaB (Zai l.b (ZaB (Zai l.c (ZaB (Zai l.d (ZeF ?_))))))));refine ZkI (n:=n+3) c hi' W1 λH2' ow2 en2 W2=>gv rfl ?_;refine Zak g205<|ZaB (Zai l.a (ZaB (Zai l.b (ZaB (Zai l.c (ZaB (Zai l.d (ZeF ?_))))))));refine ZnM (n:=n+3) c hi' W2 λH3 ow3 W3=>gv rfl ?_;refine Zaa (o:=lo 28) l.b ⟨show((M:Nat):Int).natAbs<=SZ by rw[Int.natAbs_natCast];exact sz9<|Nt c.m6 (by decide),?_⟩;exact ZkN (n:=n+4) (v:=.rng 0 (M:Nat) 1) (xs:=rngL 0 1<|rngN 0 (M:Nat) 1) (λø=>rfl) c hi' _ (rngN 0 (M:Nat) 1) 0 be H3 ow3 _ (by rw[Zay,zero_add];exact Zr _) W3 ⟨l.a,l.b,l.c,l.d⟩ l5 λH4 ow4 be4 lo4 W4 m m5=>ih (i+1) H4 S1' ow4 U1 X1 en2 be4 lo4 (la2 hi) W4 m m5
end
noncomputable def Sn0:Snt:=λø=>False
theorem nb0{n:Int}{b:Bal}:¬ bd Sn0 n a b:=λh=>h.elim (λ⟨_,_,_,z⟩=>z) λ⟨_,z⟩=>z
theorem Zo6(f:Fi M fi):In8 M fi Sn0 [] (XF fi fi):=by
 refine⟨⟨f,λø z=>z.elim,λø z=>z.elim,λø z=>z.elim,λn b x y h ø=>h.elim λø q=>q.elim λø z=>z.elim⟩,λø z=>(nomatch z),λt ht=>?_⟩;unfold XF
 by_cases c:(t:Int)∈fi
 ·rw[if_pos c];refine⟨λn e=>?_,⟨λø z=>z.elim,λø z=>(nomatch z),λø z=>(nomatch z),λø z=>(nomatch z),.nil⟩,λe=>(nomatch e),λe=>(nomatch e)⟩;obtain rfl:=Sj e;exact⟨.first rfl rfl,c,rfl,λb h=>absurd h nb0,λb h=>absurd (Or.inr h) nb0,λø z=>(nomatch z),λø ø z=>z.elim,λø z=>(nomatch z),.inl ⟨rfl,rfl⟩⟩
 ·rw[if_neg c];exact⟨λn e=>(nomatch e),⟨λø z=>z.elim,λø z=>(nomatch z),λø z=>(nomatch z),λø z=>(nomatch z),.nil⟩,λø=>rfl,λø=>rfl⟩
theorem ZoP:sz (XF fi ys t)=0/\(XF fi ys t).row=[]:=by
 unfold XF
 by_cases c:(t:Int)∈ys
 ·rw[if_pos c];exact⟨rfl,rfl⟩
 ·rw[if_neg c];exact⟨rfl,rfl⟩
theorem ZpF:∀M:Nat,gs (XF fi ys) M=0:=by
 intro M
 induction M with
 |zero=>rfl
 |succ n ih=>show gs (XF fi ys) n+sz (XF fi ys n)=0;rw[ih,ZoP.1]
theorem Zqm:Nm M (9000 * 0) 0 [] (XF fi fi):=⟨Zr _,by rw[ZpF];exact Zr _,λt ø=>by rw[ZoP.2];exact Zr _,λø z=>(nomatch z)⟩
theorem g60:tb.P.glob 60=some (.cls 60):=by kernel_rfl
section
variable {Q:Yf}{E:EP}{r:PSs}
theorem Zqn(f:Fi M fi)(h1:1<=M)(h9:M<=9)(l1:lo 105=some (.lst<|iV fi))(l2:lo 28=some (.int M))(h:∀H' ow',Rep H' ow' (mkL H.next M) M [] (XF fi fi)->wpSs tb.P (Yc<|n+3) r ⟨H',upd lo 106<|.ref H.next⟩ Q E):wpSs tb.P (Yc<|n+3) (.cons Zhv r) ⟨H,lo⟩ Q E:=by
 refine Zbp<|Zak g60<|Zaa (o:=lo 28) l2<|Zaa (o:=lo 105) l1<|⟨show(iV fi).length<=SZ by rw[Zaj];exact sz9<|Nt f.len h9,?_⟩;exact Zog (n:=n) f h1 h9 λH' ow' R K=>⟨rfl,h H' ow' R⟩
end
def Gh0:Gh:=⟨Sn0,λø=>[],λø=>[],λø=>[]⟩
theorem ZpZ:In9 M fi Gh0 (XF fi fi):=by
 refine⟨λø z=>z.elim,λt ht n e=>?_,λø ø z=>(nomatch z),λø=>.nil,λø=>.inl rfl,λt ht=>?_,λø ø ø z=>(nomatch z),λt ht=>?_⟩
 ·have q:(XF fi fi t).row=[]/\(XF fi fi t).took=0/\(XF fi fi t).holds=[]:=by
   unfold XF
   by_cases c:(t:Int)∈fi
   ·rw[if_pos c];exact⟨rfl,rfl,rfl⟩
   ·rw[if_neg c];exact⟨rfl,rfl,rfl⟩
  exact⟨by rw[q.1];exact List.nil_prefix,λø ø=>q.1,by rw[q.2.1];exact .z<|Int.le_refl _,by rw[q.2.1];exact Int.le_refl _,by rw[q.2.1,q.1];exact Int.le_refl _,λp hp=>by rw[q.2.2]at hp;exact(nomatch hp),λø ø ø ø z=>z.elim⟩
 ·unfold XF
  by_cases c:(t:Int)∈fi
  ·rw[if_pos c];rfl
  ·rw[if_neg c];rfl
 ·unfold XF
  by_cases c:(t:Int)∈fi
  ·rw[if_pos c];rfl
  ·rw[if_neg c];rfl
structure V9(M:Nat)(L:Lay)(D:Ad)(a:Nat)(H:Hp)(ow:Nat->Nat)(X:Nat->Hd):Prop where
 R:Rep H ow L M [] X
 d:H.get D.sd=some (.dict<|dV .ref D.ad)/\ow D.sd=0
 l:∀t,t<a->dG D.ad t=some (D.ls t)/\H.get (D.ls t)=some (.list [])/\ow (D.ls t)=0
 u:∀t u,t<a->u<a->D.ls t=D.ls u->t=u
 e:H.get D.e=some (.dict<|dV rV [])/\ow D.e=0
 b:H.get D.b=some (.list<|(replicate M ([]:List Gn)).map λl=>.lst<|gV l)/\ow D.b=0
 nb:∀t,t<a->D.ls t≠D.b
 ne:D.sd≠D.e
 al:D.ad.length<=a
section
variable {a:Nat}{D:Ad}
theorem V9.w9(v:V9 M L D M H ow (XF fi fi))(f:Fi M fi):W9 M fi L D 0 Gh0 [] (replicate M []) H ow [] (XF fi fi) where
 g:=⟨v.R,Zo6 f,ZpZ,Zqm⟩
 d:=v.d
 l:=λt ht=>⟨(v.l t ht).1,(v.l t ht).2,Zr _⟩
 u:=v.u
 e:=v.e
 b:=v.b
 nb:=v.nb
 ne:=v.ne
 bl:=List.length_replicate
 bp:=λt l e=>by
  have:=List.mem_of_getElem? e;rw[(List.mem_replicate.mp this).2];exact List.nil_prefix
 ek:=.nil
 ep:=λø ø e=>nomatch e
theorem V9.step(v:V9 M L D a H ow X)(ha:a<9):V9 M L ⟨D.sd,upG D.ls a H.next,dS D.ad a H.next,D.e,D.b⟩ (a+1) ((H.new<|.list []).set D.sd<|.dict<|dV .ref<|dS D.ad a H.next) (owN H.next ow []) X:=by
 have lt:∀{j:Nat}{c:C},H.get j=some c->j≠H.next:=λg=>Nx<|Zas g
 have nw:∀{j:Nat}{c:C},H.get j=some c/\ow j=0->(H.new<|.list []).get j=some c/\owN H.next ow [] j=0:=λh=>⟨(Hp.get_new.trans<|if_neg<|lt h.1).trans h.1,(if_pos<|Zas h.1).trans h.2⟩
 have d:=nw v.d
 have gs:∀{j:Nat}{c:C},j≠D.sd->(H.new<|.list []).get j=some c/\owN H.next ow [] j=0->((H.new<|.list []).set D.sd<|.dict<|dV .ref<|dS D.ad a H.next).get j=some c/\owN H.next ow [] j=0:=λn h=>⟨(Hp.get_set d.1).trans<|(if_neg n).trans h.1,h.2⟩
 have nl:∀{j:Nat}{xs:List V},H.get j=some (.list xs)->j≠D.sd:=λh z=>by rw[z,v.d.1]at h;exact Zlz h
 have ut:∀{t:Nat},t<a->upG D.ls a H.next t=D.ls t:=λht=>if_neg<|Nx ht;have ua:upG D.ls a H.next a=H.next:=if_pos rfl;have two:∀{t:Nat},t<a+1->t<a\/t=a:=λh=>Nat.lt_or_eq_of_le<|le_of_lt_succ h;refine⟨v.R.new.set d.1 d.2,⟨(Hp.get_set d.1).trans<|if_pos rfl,d.2⟩,λt ht=>?_,λt u ht hu=>?_,gs v.ne.symm<|nw v.e,gs (nl v.b.1)<|nw v.b,λt ht=>?_,v.ne,Nt (Zkk _)<|Fs v.al⟩
 ·show dG (dS D.ad a H.next) t=some (upG D.ls a H.next t)/\((H.new<|.list []).set D.sd<|.dict<|dV .ref<|dS D.ad a H.next).get (upG D.ls a H.next t)=_/\owN H.next ow [] (upG D.ls a H.next t)=0
  rcases two ht with z |z
  ·have q:=v.l t z;rw[ut z,Zop,if_neg<|λy=>Nx z (lb7 y).symm];exact⟨q.1,gs (nl q.2.1)<|nw q.2⟩
  ·subst z;rw[ua,Zop,if_pos rfl];exact⟨rfl,gs (λy=>lt v.d.1 y.symm) ⟨Hp.get_new.trans<|if_pos rfl,by unfold owN;rw[if_neg<|Nat.lt_irrefl _];rfl⟩⟩
 ·show upG D.ls a H.next t=upG D.ls a H.next u->t=u
  rcases two ht with z |z <;> rcases two hu with y |y
  ·rw[ut z,ut y];exact v.u t u z y
  ·rw[ut z,y,ua];exact λe=>absurd e<|lt (v.l t z).2.1
  ·rw[ut y,z,ua];exact λe=>absurd e.symm<|lt (v.l u y).2.1
  ·exact λø=>z.trans y.symm
 ·show upG D.ls a H.next t≠D.b
  rcases two ht with z |z
  ·rw[ut z];exact v.nb t z
  ·rw[z,ua];exact λy=>lt v.b.1 y.symm
theorem ZkB(hs:∀H,still v xs H)(h9:M<=9)(Q:Yf):∀(N a:Nat)(D:Ad)(H:Hp)(ow:Nat->Nat)(lo:Loc),a+N=M->V9 M L D a H ow X->lo 136=some (.ref D.sd)->(∀D' H' ow' lo',V9 M L D' M H' ow' X->D'.sd=D.sd->D'.e=D.e->D'.b=D.b->(∀j,j≠29->lo' j=lo j)->Q .next ⟨H',lo'⟩)->
  loopGo (λv σ2 k=>bindT [29] v σ2 λσ3=>wpSs tb.P K Zfh σ3 k noE) (still v xs) (rngL a 1 N) ⟨H,lo⟩ Q:=by
 intro N
 induction N with
 |zero=>exact λa D H ow lo e V l1 h=>⟨hs H,h D H ow lo ((Nat.add_zero a).symm.trans e▸V) rfl rfl rfl λø ø=>rfl⟩
 |succ N ih=>
  intro a D H ow lo e V l1 h;have ha:a<M:=lb1 e;refine⟨hs H,?_⟩;show wpSs tb.P K Zfh ⟨H,upd lo 29 (.int a)⟩ _ noE;refine⟨Zz _,Zaa (o:=lo 136) l1 ?_⟩;have d:(H.new (.list [])).get D.sd=some (.dict (dV .ref D.ad)):=(Hp.get_new.trans (if_neg (Nx (Zas V.d.1)))).trans V.d.1;refine Zdv (b:=(cL ((H.new (.list [])).get D.sd)).isSome) (by rw[d];rfl)<|Zaa (o:=cD<|(H.new (.list [])).get D.sd) (a:=dV .ref D.ad) (by rw[d];rfl) ⟨Zci .ref D.ad a,?_,?_⟩
  ·unfold dV;rw[Lm];exact Nl V.al<|Gl ha<|sz9 h9
  ·show loopGo _ _ _ ⟨(H.new<|.list []).set D.sd<|.dict<|dSet (dV .ref D.ad) (.int a)<|.ref H.next,upd lo 29<|.int a⟩ Q;rw[ZhZ];exact ih (a+1) _ _ _ _ (lb2 e) (V.step<|Gl ha h9) l1 λD' H' ow' lo' V' e1 e2 e3 k=>h D' H' ow' lo' V' e1 e2 e3 λj hj=>(k j hj).trans<|if_neg hj
theorem ZkX(Q:Yl)(hi:∀H,still vv us H):∀(N:Nat)(a:Int)(b:Nat)(lo:Loc),b+N<=9->(∀lo',Q (replicate (b+N)<|.lst []) ⟨H,lo'⟩)->compGo (λσ2 k=>wpC tb.P K noE .none σ2 k) (λσ2 k=>wpE tb.P K noE (.list true .nil) σ2 k) [29] (still vv us) (rngL a 1 N) (replicate b<|.lst []) ⟨H,lo⟩ Q:=by
 intro N
 induction N with
 |zero=>exact λa b lo hb h=>⟨hi H,by rw[List.length_replicate];exact sz9 hb,h lo⟩
 |succ N ih=>
  intro a b lo hb h;refine⟨hi H,by rw[List.length_replicate];exact Gl (la1 hb)<|sz9 (Zr _),Zz _,?_⟩;show compGo _ _ [29] _ (rngL (a+1) 1 N) (replicate b (.lst [])++[.lst []]) ⟨H,_⟩ Q;rw[← List.replicate_succ']
  exact ih (a+1) (b+1) _ (la2 hb) λlo'=>by rw[succ_add];exact h lo'
end
theorem at8{i:Int}{k:V->Prop}(h0:0<=i)(h1:i<6)(h:∀M:Nat,0<M->M<=6->k (.int M)):atK [.int 3,.int 4,.int 5,.int 1,.int 2,.int 6] i k:=by
 have h':∀n:Nat,ble n 5=true->k (.int (n+1:Nat)):=λn q=>h (n+1) (Nat.succ_pos n)<|Fs<|Bq q;exact Zkx h0 h1<|Zbd (h' 2 rfl)<|Zbd (h' 3 rfl)<|Zbd (h' 4 rfl)<|Zbd (h' 0 rfl)<|Zbd (h' 1 rfl)<|Zbd (h' 5 rfl) Ziu
theorem ZlN:∀d s:Nat,∃l,rngL (s:Int) 1 d=iV l/\l.Pairwise (· < ·)/\l.length=d/\∀z∈l,(s:Int)<=z/\z<((s+d:Nat):Int):=by
 intro d
 induction d with
 |zero=>exact λs=>⟨[],rfl,.nil,rfl,λø z=>nomatch z⟩
 |succ d ih=>
  intro s;obtain⟨l,e,p,n,b⟩:=ih<|s+1;refine⟨s::l,congrArg (V.int s::·) e,pairwise_cons.mpr ⟨λa ha=>(b a ha).1,p⟩,congrArg Nat.succ n,λz hz=>?_⟩
  rcases Mc hz with rfl |hz
  ·exact⟨Int.le_refl _,Int.ofNat_lt.mpr<|Nat.lt_add_of_pos_right<|Nat.succ_pos d⟩
  ·exact⟨Int.le_of_lt (b z hz).1,lf3 ⟨It (natCast_nonneg<|s+1) (b z hz).1,(b z hz).2⟩ |>.2⟩
section
variable {r:PSs}{Q:Yf}{E:EP}
theorem Zo3{a b:PC}{t:PSs}(h:wpT tb.P K E a σ λc σ1=>Br c (wpSs tb.P K t σ1 (λfl σ2=>seqK fl σ2 (λσ3=>wpSs tb.P K r σ3 Q E) Q) E)<|wpT tb.P K E b σ1 λd σ2=>Br d (wpSs tb.P K t σ2 (λfl σ2=>seqK fl σ2 (λσ3=>wpSs tb.P K r σ3 Q E) Q) E)<|wpSs tb.P K r σ2 Q E):wpSs tb.P K (.cons (.ite (.or<|.cons a<|.cons b .nil) t .nil) r) σ Q E:=h
theorem Zqd(l1:lo 24=some (.lst<|is.map .int))(h:∀M:Nat,0<M->M<=6->wpSs tb.P (Yc<|n+1) r ⟨H,upd lo 28<|.int M⟩ Q E):wpSs tb.P (Yc<|n+1) (.cons ZgH r) ⟨H,lo⟩ Q E:=by
 refine Zbp<|⟨bl rfl,?_⟩;refine Zaa (o:=lo 24) l1<|Zev (k:=0) λx=>gv rfl ?_;refine⟨by decide,?_⟩;exact at8 (Int.fmod_nonneg_of_pos _<|by decide) (Int.fmod_lt_of_pos _<|by decide) λM a b=>h M a b
theorem Zqk(m0:0<M)(m6:M<=6)(l2:lo 28=some (.int M))(h:∀fi,Fi M fi->wpSs tb.P (Yc n) r ⟨H,upd lo 105<|.lst<|iV fi⟩ Q E):wpSs tb.P (Yc n) (.cons (.assign (.loc 105)<|.call true (.glob 41)<|.cons (.call true (.glob 44)<|.cons (.loc 28) .nil) .nil) r) ⟨H,lo⟩ Q E:=by
 refine Zbp<|Zaa (o:=lo 28) l2 ?_;have h9:M<=9:=Nt m6 (by decide);refine⟨show((M:Nat):Int).natAbs<=SZ by rw[Int.natAbs_natCast];exact sz9 h9,?_⟩;obtain⟨l,e,p,ln,b⟩:=ZlN M 0;show Nd ((rngL 0 1<|rngN 0 (M:Nat) 1).length<=SZ) (wpSs tb.P (Yc n) r ⟨H,upd lo 105<|.lst<|rngL 0 1<|rngN 0 (M:Nat) 1⟩ Q E);rw[Zay,show rngL 0 1 M=iV l from e];exact⟨by rw[Zaj,ln];exact sz9 h9,h l ⟨λz=>by rw[z]at ln;exact absurd ln<|Nx m0,p,λz hz=>li1 (p:=0)<|b z hz⟩⟩
theorem ZpM(m0:0<M)(m6:M<=6)(l1:lo 24=some (.lst<|is.map .int))(l2:lo 28=some (.int M))(h:∀fi H' lo',Fi M fi->lo' 105=some (.lst<|iV fi)->(∀j,j≠105->lo' j=lo j)->wpSs tb.P (Yc<|n+1) r ⟨H',lo'⟩ Q E):wpSs tb.P (Yc<|n+1) (.cons ZgG<|.cons Zhf r) ⟨H,lo⟩ Q E:=by
 have h9:M<=9:=Nt m6 (by decide);refine Zbp<|Zak g11 ?_;refine Zaa (o:=lo 24) l1<|Zev (k:=1) (is:=is) λx=>gv rfl ?_;refine⟨⟨by decide,by decide⟩,?_⟩;refine Zaa (o:=lo 28) l2<|Zek (σ:=⟨H,lo⟩) (M:=M) h9 λzs H' kp z1 z2=>?_;have e1:upd lo 105 (.lst<|iV zs) 105=some (.lst<|iV zs):=rfl;refine Zo3 (σ:=⟨H',upd lo 105<|.lst<|iV zs⟩)<|⟨bl rfl,?_⟩;refine Zaa (o:=deep H'<|.lst<|iV zs) (ZfV zs) ?_
 have rl:wpSs tb.P (Yc<|n+1) (.cons (.assign (.loc 105)<|.call true (.glob 41)<|.cons (.call true (.glob 44)<|.cons (.loc 28) .nil) .nil) .nil) ⟨H',upd lo 105<|.lst<|iV zs⟩ (λfl σ1=>seqK fl σ1 (λσ2=>wpSs tb.P (Yc<|n+1) r σ2 Q E) Q) E:=
  Zqk m0 m6 l2 λfi f=>h fi H' _ f rfl λj hj=>(if_neg hj).trans<|if_neg hj
 induction zs using List.casesOn with
 |nil=>exact rl
 |cons z zs=>
  refine Zaa (o:=lo 24) l1<|Zev (k:=1) (is:=is) λx=>gv rfl ?_;refine⟨by decide,?_⟩;exact Zby (b:=decide<|fmod x 2=1) (λc=>rl) λc=>h (z::zs) H' _ ⟨λz=>(nomatch z),z1,z2⟩ e1 λj hj=>if_neg hj
theorem Zpl(c:C8 M fi)(l1:lo 24=some (.lst<|is.map .int))(l2:lo 28=some (.int M))(l3:lo 105=some (.lst<|iV fi))(h:∀fi b lo',C8 M fi->(b=true->M=3/\fi=[0,1,2])->lo' 105=some (.lst<|iV fi)->lo' 209=some (.bool b)->(∀j,j≠105->j≠209->lo' j=lo j)->wpSs tb.P (Yc<|n+2) r ⟨H,lo'⟩ Q E):wpSs tb.P (Yc<|n+2) (.cons Zhs<|.cons ZcO r) ⟨H,lo⟩ Q E:=by
 refine Zbp<|Zaa (o:=lo 28) l2 ?_;have no:wpSs tb.P (Yc<|n+2) (.cons ZcO r) ⟨H,upd lo 209<|.bool false⟩ Q E:=h fi false _ c (λz=>noT z) l3 rfl λj ø hj=>if_neg hj
 induction q:decide ((M:Int)=3) with
 |false=>
  refine Zdv (b:=decide<|(M:Int)=3) q ?_;show wpSs tb.P (Yc<|n+2) (.cons ZcO r) ⟨H,upd lo 209<|.bool<|decide<|(M:Int)=3⟩ Q E;rw[q];exact no
 |true=>
  have q:M=3:=lb7<|Od q;subst q;refine Zaa (o:=lo 24) l1<|Zev (k:=0) (is:=is) λx=>gv rfl ?_;refine⟨⟨by decide,by decide⟩,by decide,?_⟩;show wpSs tb.P (Yc<|n+2) (.cons ZcO r) ⟨H,upd lo 209<|.bool<|decide<|fmod (fdiv x 6) 2=1⟩ Q E
  induction decide (fmod (fdiv x 6) 2=1) with
  |false=>exact no
  |true=>
   refine Zbp<|Zpa<|ZaB<|ZbQ<|ZaB<|ZbQ<|ZaB<|ZbQ<|ZeF ⟨bl rfl,?_⟩;exact h [0,1,2] true _ ⟨c.m0,c.m6,List.cons_ne_nil _ _,by decide,by decide⟩ (λø=>⟨rfl,rfl⟩) rfl rfl λj a b=>(if_neg a).trans<|if_neg b
theorem Zln{fi:List Int}(h9:M<=9)(R:Rep H ow L M [] X)(l1:lo 28=some (.int M))(h:∀D H' ow' lo',V9 M L D M H' ow' X->lo' 136=some (.ref D.sd)->lo' 178=some (.ref D.b)->lo' 208=some (.ref D.e)->(∀j,j≠136->j≠178->j≠208->j≠29->lo' j=lo j)->wpSs tb.P (Yc n) r ⟨H',lo'⟩ Q E):wpSs tb.P (Yc n) (.cons ZhU<|.cons Zhx<|.cons Zg4<|.cons ZhS r) ⟨H,lo⟩ Q E:=by
 have hM:((M:Nat):Int).natAbs<=SZ:=by rw[Int.natAbs_natCast];exact sz9 h9
 refine Zbp ⟨Zz _,rfl,?_⟩;refine Zaa (o:=lo 28) l1 ⟨hM,?_⟩;refine ZkX (vv:=.rng 0 (M:Nat) 1) (us:=rngL 0 1<|rngN 0 (M:Nat) 1) _ (λø=>rfl) (rngN 0 (M:Nat) 1) 0 0 _ (by rw[Zay,zero_add];exact h9) λlo'=>?_;rw[Zay,zero_add];refine⟨by rw[List.length_replicate];exact sz9 h9,?_⟩;refine⟨Zz _,rfl,?_⟩;refine Zaa (o:=lo 28) l1 ⟨hM,?_⟩;have e1:H.next+1=(H.new<|.dict []).next:=Hp.next_new.symm
 have e2:H.next+1+1=((H.new<|.dict []).new<|.list<|replicate M<|.lst []).next:=by rw[Hp.next_new,Hp.next_new]
 have V:V9 M L ⟨H.next,λø=>0,[],H.next+1+1,H.next+1⟩ 0 (((H.new<|.dict []).new<|.list<|replicate M<|.lst []).new<|.dict []) (owN (H.next+1+1) (owN (H.next+1) (owN H.next ow []) []) []) X:=by
  have ow0:∀{j k:Nat}{f:Nat->Nat},j<k->f j=0->owN k f [] j=0:=λh q=>(if_pos h).trans q
  have owk:∀{k:Nat}{f:Nat->Nat},owN k f [] k=0:=λ{k f}=>by unfold owN;rw[if_neg<|Nat.lt_irrefl _];rfl
  refine⟨by rw[e2,e1];exact R.new.new.new,⟨?_,ow0 (Nat.lt_succ_of_lt<|lt_succ_self _)<|ow0 (lt_succ_self _) owk⟩,λø z=>absurd z<|not_lt_zero _,λø ø z=>absurd z<|not_lt_zero _,⟨?_,owk⟩,⟨?_,ow0 (lt_succ_self _) owk⟩,λø z=>absurd z<|not_lt_zero _,Nx<|Nat.lt_succ_of_lt<|lt_succ_self _,Zr _⟩
  ·refine Hp.get_new.trans ((if_neg ?_).trans<|Hp.get_new.trans<|(if_neg ?_).trans<|Hp.get_new.trans<|if_pos rfl)
   ·rw[← e2];exact Nx<|Nat.lt_succ_of_lt<|lt_succ_self _
   ·rw[← e1];exact Nx<|lt_succ_self _
  ·exact Hp.get_new.trans<|if_pos e2
  ·refine Hp.get_new.trans ((if_neg ?_).trans<|Hp.get_new.trans<|(if_pos e1).trans ?_)
   ·rw[← e2];exact Nx<|lt_succ_self _
   ·rw[List.map_replicate];rfl
 refine ZkB (L:=L) (X:=X) (v:=.rng 0 (M:Nat) 1) (xs:=rngL 0 1<|rngN 0 (M:Nat) 1) (λø=>rfl) h9 _ (rngN 0 (M:Nat) 1) 0 _ _ _ _ (by rw[Zay,zero_add]) V rfl λD' H' ow' lo' V' q1 q2 q3 k=>?_;have q1:D'.sd=H.next:=q1;have q2:D'.e=H.next+1+1:=q2;have q3:D'.b=H.next+1:=q3;refine h D' H' ow' lo' V' ?_ ?_ ?_ λj j1 j2 j3 j4=>(k j j4).trans<|(if_neg j3).trans<|(if_neg j2).trans<|if_neg j1
 ·rw[k 136<|by decide,q1];rfl
 ·rw[k 178<|by decide,q3,e1];rfl
 ·rw[k 208<|by decide,q2,e2];rfl
end
theorem f14:tb.P.fn 14=some Zn3:=by kernel_rfl
theorem Zg9{D:Ad}{S:Gh}{en:EN}{E:EP}(c:C8 M fi)(W:W9 M fi L D 4 S en be H ow U X)(l1:lo 106=some (.ref L.fk))(l2:lo 28=some (.int M))(l3:lo 208=some (.ref D.e))(l4:lo 136=some (.ref D.sd))(l5:lo 178=some (.ref D.b))(l6:lo 24=some (.lst<|iV is))(h:∀H',Q (.bool true) H'):
  wpSs tb.P (Yc<|n+9) (.cons Zf6<|.cons ZfR .nil) ⟨H,lo⟩ (λfl σ=>Q (retV fl) σ.H) E:=by
 refine Zaa (o:=lo 24) l6 ?_
 have e:((iV is).drop 2).take 60=iV ((is.drop 2).take 60):=by unfold iV;rw[map_take,List.map_drop]
 have ll:((is.drop 2).take 60).length<=60:=List.length_take_le ..;refine⟨rfl,rfl,?_,?_⟩
 ·show(((iV is).drop 2).take 60).length<=SZ;rw[e,Zaj];exact sz0<|Nt ll<|by decide
 refine Zeu rfl ?_;show loopGo _ (still (.lst<|((iV is).drop 2).take 60)<|((iV is).drop 2).take 60) (((iV is).drop 2).take 60) ⟨H,lo⟩ _;rw[e];exact Zgz (n:=n) (v:=.lst<|iV<|(is.drop 2).take 60) (xs:=iV<|(is.drop 2).take 60) (λø=>rfl) c _ (λσ=>h _) _ 4 H S ow U X en be lo (Nt (Fl ll 4)<|by decide) W ⟨l1,l2,l3,l4⟩ l5
theorem main09(is:List Int):Yc 10 14 [.lst<|is.map .int] H (λv ø=>v=.bool true) (λø ø=>False):=by
 refine Zac _ _ _ f14 rfl<|Zqd (n:=8) (is:=is) rfl λM m0 m6=>ZpM (n:=8) (is:=is) m0 m6 rfl rfl λfi H₁ lo1' ff e1 k1=>?_;refine Zpl (n:=7) (is:=is) ⟨m0,m6,ff⟩ (k1 24<|by decide) (k1 28<|by decide) e1 λfi b lo2' c hb e105 e209 k2=>?_;have e24:lo2' 24=some (.lst<|is.map .int):=(k2 24 (by decide)<|by decide).trans (k1 24<|by decide);have e28:lo2' 28=some (.int M):=(k2 28 (by decide)<|by decide).trans (k1 28<|by decide);have h9:M<=9:=Nt m6 (by decide);refine Zqn (n:=6) c.ff m0 h9 e105 e28 λH3 ow3 R3=>Zln (n:=9) (fi:=fi) h9 R3 e28 λD H4 ow4 lo4 V4 q1 q2 q3 k4=>?_;have W:=V4.w9 c.ff;have n106:lo4 106=some (.ref H₁.next):=k4 106 (by decide) (by decide) (by decide) (by decide);have n28:lo4 28=some (.int M):=(k4 28 (by decide) (by decide) (by decide)<|by decide).trans e28;have n24:lo4 24=some (.lst<|is.map .int):=(k4 24 (by decide) (by decide) (by decide)<|by decide).trans e24;have n209:lo4 209=some (.bool b):=(k4 209 (by decide) (by decide) (by decide)<|by decide).trans e209;refine it2 (c:=b) (λkk q=>Zaa (o:=lo4 209) n209 q) (λz=>?_) λz=>?_
 ·obtain⟨rfl,rfl⟩:=hb z;refine Zat<|Zak g202<|ZaB<|Zai n106<|ZaB ?_;refine Zaa (o:=lo4 24) n24<|Zev (k:=1) (is:=is) λx=>gv rfl ⟨⟨by decide,by decide⟩,?_⟩;refine Zaa (o:=lo4 136) q1<|ZmG (n:=1) c W (λu hu=>?_) λH5 ow5 S5 U5 X5 W5=>gv rfl ?_
  ·have hm:(u:Int)∈[(0:Int),1,2]:=match u,hu with
    |0,_=>by decide
    |1,_=>by decide
    |2,_=>by decide
   unfold XF;rw[if_pos hm];rfl
  ·exact Zg9 (n:=0) (Q:=λv ø=>v=.bool true) c W5 n106 n28 q3 q1 q2 n24 λø=>rfl
 ·exact Zg9 (n:=0) (Q:=λv ø=>v=.bool true) c (W.up<|Zz 4) n106 n28 q3 q1 q2 n24 λø=>rfl
end
end
end Mine.Internal
end

section
open PySem PySem.W PyProof.Rows
set_option maxRecDepth 100000
set_option maxHeartbeats 8000000
namespace Mine.Internal
namespace h
def tw10056649832635796748:=V
def tw10066243032650365218:=V
def tw10096628701986980782:=V
def tw10123082679144687364:=V
def tw10172854441005033158:=V
def tw10176545686471495257:=V
def tw10176974529620079290:=V
def tw10209591716021878969:=V
def tw10209620991628300436:=V
def tw10216591877996542068:=V
def tw10236500404347357482:=V
def tw10237215097572071390:=V
def tw10294305082320416828:=V
def tw10310270144061126392:=V
def tw10315234507380097164:=V
def tw10319573614256863910:=V
def tw10389712337508899699:=V
def tw10403405879096207809:=V
def tw10405081018763313399:=V
def tw10433915819725442679:=V
def tw10439651602583948165:=V
def tw10454676130286042632:=V
def tw10468422229764028090:=V
def tw10483307411025856145:=V
def tw10554466853696668032:=V
def tw10582250045366316675:=V
def tw10590240174274511095:=V
def tw1062300981320636713:=V
def tw10630584534763623505:=V
def tw10639240405035285308:=V
def tw10655100599613642668:=V
def tw1072437495904199087:=V
def tw10760456577058632959:=V
def tw10781076329906999696:=V
def tw10785378975020284601:=V
def tw10843411219405324193:=V
def tw10889216430814630256:=V
def tw10934887272839734318:=V
def tw10945743079986797398:=V
def tw11005529976221432771:=V
def tw11011076637071787117:=V
def tw11038148946071854954:=V
def tw1110780182115434652:=V
def tw11153226692906661038:=V
def tw11157715785352331337:=V
def tw11173642076277706964:=V
def tw11200237687060424247:=V
def tw11211664981096991796:=V
def tw11230478366091672690:=V
def tw11275240856166064585:=V
def tw11293677773682475064:=V
def tw11301085678189736239:=V
def tw11337612847456127874:=V
def tw11363288532897968706:=V
def tw11381328606023851429:=V
def tw11384035147314299323:=V
def tw11425673385166586857:=V
def tw11474758875010461091:=V
def tw11490526129141354682:=V
def tw11510955273000818389:=V
def tw11511743834265662786:=V
def tw11546273411626330887:=V
def tw11552142454724309972:=V
def tw11613968451307275940:=V
def tw11621498233833769271:=V
def tw11642118290042492226:=V
def tw1164355650431777324:=V
def tw11671251620599952892:=V
def tw11674445102607410178:=V
def tw11706219661281585288:=V
def tw11711608378786851337:=V
def tw11758182952161893429:=V
def tw11760029891904807822:=V
def tw11769494150484577709:=V
def tw11804840771654451120:=V
def tw11819819923512561346:=V
def tw11833607008865203547:=V
def tw11874296385052879044:=V
def tw11896358183883116640:=V
def tw11902879834314266504:=V
def tw11917547441119335152:=V
def tw11938403174074652104:=V
def tw11938878862052604736:=V
def tw119766627775172234:=V
def tw11977770405018611718:=V
def tw12019023368207550218:=V
def tw12084184597549184474:=V
def tw12101157251452678755:=V
def tw12123235563078639756:=V
def tw12133360179525551429:=V
def tw12246409903686013403:=V
def tw12303170382060731875:=V
def tw12415604746930716304:=V
def tw12424463459254959717:=V
def tw12435925812147652225:=V
def tw12447585419443719996:=V
def tw12472345858506129878:=V
def tw12488313363966393809:=V
def tw12505566915613261056:=V
def tw1252230008386834000:=V
def tw12544624802484387524:=V
def tw12552453969866160919:=V
def tw12572172931882615639:=V
def tw12615353321661673610:=V
def tw12627332176540428995:=V
def tw12631687265020781425:=V
def tw12658442457115067050:=V
def tw12690472209799890775:=V
def tw12701206989616842685:=V
def tw12716110931164849499:=V
def tw12718955625787926057:=V
def tw12748028871116591273:=V
def tw12768463709691026794:=V
def tw12770112940582458366:=V
def tw12779300999492915151:=V
def tw12784901936968217917:=V
def tw12793483965762352686:=V
def tw12794539658024320198:=V
def tw12814941811360514655:=V
def tw12842916108797361697:=V
def tw12850259042861878548:=V
def tw12875890314204017252:=V
def tw12877943847600832030:=V
def tw12891525039896643960:=V
def tw12965549010351891024:=V
def tw12967833124661619014:=V
def tw13022594109808381458:=V
def tw13033996696560668203:=V
def tw13048416818635250127:=V
def tw13103488535562539790:=V
def tw13162430173994328633:=V
def tw13167946976713937462:=V
def tw13168930289225293150:=V
def tw13221472175088321383:=V
def tw13228592821750150602:=V
def tw13232914406459060403:=V
def tw13287842782858397578:=V
def tw13292524425192586260:=V
def tw13298211813537937815:=V
def tw1329881388162520779:=V
def tw13299595001617295373:=V
def tw13304106628918243963:=V
def tw13354121747300564104:=V
def tw1335547322600909529:=V
def tw13374087145903091907:=V
def tw13419958591952730060:=V
def tw13420562920653053:=V
def tw13422086345980785442:=V
def tw13468016615049822838:=V
def tw13473775243088671976:=V
def tw1348980291093044562:=V
def tw13551557274510481620:=V
def tw13553113237236827981:=V
def tw13598089848331079559:=V
def tw13598882375158072097:=V
def tw13605713632983133658:=V
def tw13610690258902462514:=V
def tw13660220492193851976:=V
def tw13662276703404876589:=V
def tw13681517553180852248:=V
def tw13690393396710146742:=V
def tw13709565351167251139:=V
def tw13709860305279663052:=V
def tw1372011021554648883:=V
def tw13865800006358809656:=V
def tw13900077299997617752:=V
def tw13942756014399881786:=V
def tw13967932132427034092:=V
def tw14009857634682381658:=V
def tw14054553445517439351:=V
def tw14092945194184803162:=V
def tw14109349123715077971:=V
def tw14110238858584869482:=V
def tw14125254534234705110:=V
def tw14149543262258801056:=V
def tw14161058916163106047:=V
def tw14241808928878365511:=V
def tw14253134277189543645:=V
def tw14322322749322378994:=V
def tw14372154204200311271:=V
def tw1437322209223709823:=V
def tw14406585599280994723:=V
def tw14412309891071536129:=V
def tw14437456396267473620:=V
def tw14443439632087861409:=V
def tw14472232472508010250:=V
def tw14489899914680789914:=V
def tw14493789213602824973:=V
def tw14529640041492029559:=V
def tw14541926609913159867:=V
def tw14636560077704033022:=V
def tw14641524191986905273:=V
def tw14672081660177418745:=V
def tw14673937727783725635:=V
def tw14677091675585757857:=V
def tw1468661926401544562:=V
def tw14696530988498163740:=V
def tw14731233389103999176:=V
def tw14731893884729741603:=V
def tw14734345865415526681:=V
def tw14765853707851766789:=V
def tw14836992762949198072:=V
def tw14912557794037573924:=V
def tw1495806314176976464:=V
def tw14977337195096062541:=V
def tw15003349495556308511:=V
def tw15011199024981865381:=V
def tw15080798721362408873:=V
def tw15085667291896112413:=V
def tw15098159190062720587:=V
def tw15134755304614568534:=V
def tw15157256421610393769:=V
def tw15187399590975947938:=V
def tw15191737075074627814:=V
def tw15202830259052791077:=V
def tw15205624640905244971:=V
def tw15245774007726654479:=V
def tw15276253562186719196:=V
def tw15279023283641439364:=V
def tw15284110753963499022:=V
def tw15303878339715405155:=V
def tw15360249629754589390:=V
def tw15371563202922969502:=V
def tw15481570814823447846:=V
def tw15485134557753302863:=V
def tw15544465385125055169:=V
def tw15566309143815717100:=V
def tw15628863840653639234:=V
def tw15651968699618311966:=V
def tw1568941417348552559:=V
def tw1569735418560544121:=V
def tw15735395130073856303:=V
def tw15739378826453633165:=V
def tw1577092642071663537:=V
def tw15797640545141026382:=V
def tw15815488340952145419:=V
def tw15902017535097049064:=V
def tw15906570499601092116:=V
def tw15947959058406033653:=V
def tw15955416680292943756:=V
def tw15971083818803333284:=V
def tw16040576631667023414:=V
def tw16044574531000531505:=V
def tw16088328538503583320:=V
def tw16103858238542439907:=V
def tw16156562187496327506:=V
def tw16174633238812995153:=V
def tw16201113819222145001:=V
def tw16227481734789447488:=V
def tw16242881431906064190:=V
def tw16243727107862801437:=V
def tw16254256151246878719:=V
def tw1629802056756541638:=V
def tw16304738204520729961:=V
def tw16306278244276520086:=V
def tw16331765084157245916:=V
def tw16359654991465747875:=V
def tw16371647195515467996:=V
def tw16403533557754105001:=V
def tw16451627974716185446:=V
def tw16467494346477305973:=V
def tw16469257811111996704:=V
def tw16490811257940695481:=V
def tw16490855383122336857:=V
def tw16530602601310662639:=V
def tw16550479352273487160:=V
def tw16585817322426371356:=V
def tw16593280124950458650:=V
def tw1660849384778713010:=V
def tw16686056489002663225:=V
def tw16717990931824456872:=V
def tw16733884435684934355:=V
def tw16741063633081763268:=V
def tw16773204824049091888:=V
def tw16776949066794802376:=V
def tw16805566768638631368:=V
def tw1680779186787117564:=V
def tw16830300719615008457:=V
def tw1684908928428827256:=V
def tw16869505777737906944:=V
def tw16939174590706824893:=V
def tw16947269944696413593:=V
def tw16957889108050815272:=V
def tw16989681041555056164:=V
def tw17009318898813225439:=V
def tw17021495882261679483:=V
def tw17052477534974871255:=V
def tw17057426120662361973:=V
def tw17081395277590804934:=V
def tw17095349468891001283:=V
def tw17141692475804223887:=V
def tw17143811421494988297:=V
def tw17175103159146034596:=V
def tw17196208666171498751:=V
def tw17205412138806069437:=V
def tw17214416673749911001:=V
def tw1722514254758521159:=V
def tw17269172581289977328:=V
def tw17344299811706580941:=V
def tw17351822035254854046:=V
def tw1747448479855830050:=V
def tw17491951527566882710:=V
def tw17536863671837280745:=V
def tw17548740890818369057:=V
def tw17552286862711982822:=V
def tw1756767646945014476:=V
def tw17587119110905029746:=V
def tw17606323422870791771:=V
def tw17615048517220608312:=V
def tw17633838350297301471:=V
def tw17652940635593229146:=V
def tw1770280839601912908:=V
def tw1776089348026799598:=V
def tw17766551360429844046:=V
def tw17780807861282455828:=V
def tw17801969969650823944:=V
def tw17823210659418679440:=V
def tw17844117589994039586:=V
def tw17881440581452666455:=V
def tw17940995380638352314:=V
def tw17953559428318479505:=V
def tw18019626460447223127:=V
def tw18062833244220669421:=V
def tw18091650013571584192:=V
def tw18099857533010734655:=V
def tw1814272443306050955:=V
def tw18148547829415314423:=V
def tw18200676845264988563:=V
def tw18220904897469207935:=V
def tw18251136905915338806:=V
def tw18280146011181451139:=V
def tw18285335800752518312:=V
def tw18394655290700555471:=V
def tw18424530707115958080:=V
def tw18429936020356628456:=V
def tw1965000457826345584:=V
def tw197088424353733252:=V
def tw1998120732741690648:=V
def tw2040813900355207550:=V
def tw208233463519707651:=V
def tw208610320419847463:=V
def tw2109599696249546630:=V
def tw219603395881285915:=V
def tw2220282060615344375:=V
def tw2252170969200475499:=V
def tw2274812171931049195:=V
def tw2354642882987088234:=V
def tw2362610301568776742:=V
def tw2391837923644204262:=V
def tw2400296051325879776:=V
def tw2447311075957141870:=V
def tw2592531768389336676:=V
def tw2627566370513297437:=V
def tw2629860971404101248:=V
def tw2686296066169033477:=V
def tw2748317743101111729:=V
def tw2760392078957371807:=V
def tw2778420049887721378:=V
def tw2841329976590712548:=V
def tw2844495406733771442:=V
def tw2867774090155588369:=V
def tw2868208277430562098:=V
def tw2873570698144900323:=V
def tw2892106591335270850:=V
def tw2926892271326644314:=V
def tw2933661650913984292:=V
def tw2970566713477525822:=V
def tw2970734933863136641:=V
def tw3028072141107126870:=V
def tw3040464752301911762:=V
def tw3045597634285061701:=V
def tw3080856084779413729:=V
def tw3108278263166666337:=V
def tw312947802075027227:=V
def tw3139925393391414494:=V
def tw3154601465531399774:=V
def tw3167491367430435297:=V
def tw3194220025935070060:=V
def tw3218199345935868760:=V
def tw3220132111387245897:=V
def tw3238329756671980755:=V
def tw3280693283615921522:=V
def tw3302916181421038649:=V
def tw33106747487670026:=V
def tw3315293572859735111:=V
def tw3322870436140218793:=V
def tw3323431734963469554:=V
def tw3324328012365390371:=V
def tw333542835278684106:=V
def tw3406708039252227631:=V
def tw3423531577921948501:=V
def tw3442281615365995319:=V
def tw3449801169253215019:=V
def tw3496236268356473892:=V
def tw3543508969276223716:=V
def tw3545518021479994599:=V
def tw3549809657556336193:=V
def tw3552911502402159278:=V
def tw3557332851944537553:=V
def tw3563292617659682134:=V
def tw3567469593687623919:=V
def tw3624435971017162397:=V
def tw3633501230921293522:=V
def tw3648175686352137809:=V
def tw3776502631127084591:=V
def tw3785134482715710164:=V
def tw3863878102500509032:=V
def tw3891550320537204188:=V
def tw3909246562327151939:=V
def tw4039130158902741159:=V
def tw4046221044680947816:=V
def tw4064122171788046353:=V
def tw4120953712077802224:=V
def tw4126474977829025833:=V
def tw4127307562779967806:=V
def tw4204089304596029934:=V
def tw4209983056498494065:=V
def tw4211799741075700299:=V
def tw4241723060373809349:=V
def tw4268397102997093035:=V
def tw4343191549400461475:=V
def tw4368264095695208248:=V
def tw4379912703379107401:=V
def tw4458836041318835955:=V
def tw4463511316549264871:=V
def tw4485044770318252170:=V
def tw4489622076275684006:=V
def tw450102290976807419:=V
def tw4523709762023110539:=V
def tw4541739258696261506:=V
def tw4567845811750741339:=V
def tw4662884043251333502:=V
def tw4698833073627635413:=V
def tw4772310460586488029:=V
def tw4776068866164583852:=V
def tw4794776867376925955:=V
def tw4810377110257887788:=V
def tw4820682785350857124:=V
def tw4862269185777535928:=V
def tw4960335769204101831:=V
def tw4986443950611435873:=V
def tw5008737956494811820:=V
def tw5017272733894397789:=V
def tw5027226304546875727:=V
def tw5030882887709938880:=V
def tw5036054449119429401:=V
def tw504222098378307947:=V
def tw5055446886072384005:=V
def tw5103082019828026283:=V
def tw5106978026373948281:=V
def tw5142556005432150462:=V
def tw5146050640745517032:=V
def tw5197320004674560216:=V
def tw521910038389369472:=V
def tw5260421071253186758:=V
def tw526856517466296794:=V
def tw5272936923876805921:=V
def tw5281000122675284238:=V
def tw5282029670846224495:=V
def tw5366601939650609305:=V
def tw5374526166469876081:=V
def tw5414333356127763542:=V
def tw5428425563690104576:=V
def tw5455637202054601192:=V
def tw548234995844299410:=V
def tw5486397884454206080:=V
def tw5588083386107461403:=V
def tw5597764737795624992:=V
def tw5630178524658604518:=V
def tw5633688486438548497:=V
def tw5680188782405205346:=V
def tw5723526159465818638:=V
def tw5735242997208666157:=V
def tw5745238871936294237:=V
def tw5770793428380785879:=V
def tw5787450237792925587:=V
def tw5810404520187056141:=V
def tw5815345567064312806:=V
def tw5859352701933604532:=V
def tw5887987592377861485:=V
def tw5919579383542897248:=V
def tw5921213671752122368:=V
def tw5946955344868968629:=V
def tw5950367813144615205:=V
def tw5950700121726602732:=V
def tw5952407723908814810:=V
def tw5966700429710138896:=V
def tw6006316799633139109:=V
def tw600703321921909260:=V
def tw6014954106998288422:=V
def tw6015650479847269118:=V
def tw605737041828634081:=V
def tw6063579428384327325:=V
def tw6075763205755722662:=V
def tw6092815694270733086:=V
def tw609981743009346612:=V
def tw6101173481649672645:=V
def tw6131603751417422581:=V
def tw616587908502263945:=V
def tw6189910604796633144:=V
def tw6239232092866240245:=V
def tw6263893448770001551:=V
def tw6309264721689932280:=V
def tw6326904594397921003:=V
def tw6346407671120966693:=V
def tw6359375920634387754:=V
def tw6373714338665647423:=V
def tw6381219453109377879:=V
def tw6413896723188204728:=V
def tw6431181315268018024:=V
def tw6612752654613846777:=V
def tw6616191606357900011:=V
def tw6642896972314509765:=V
def tw6659631991812547914:=V
def tw6660762324911715012:=V
def tw6682741030901530681:=V
def tw6703177300308931079:=V
def tw6713004331356030826:=V
def tw6723747571645773665:=V
def tw6744750066896113128:=V
def tw6746900839112520113:=V
def tw6767324551063703406:=V
def tw6834290861968267416:=V
def tw6850304193448778390:=V
def tw6864832727235704509:=V
def tw6881903814076142895:=V
def tw6884590803068895496:=V
def tw6966247946651679664:=V
def tw6992861115744642700:=V
def tw7045667604196983280:=V
def tw708874861161696285:=V
def tw7129384515372189442:=V
def tw7131028607829930107:=V
def tw713827793798156117:=V
def tw7195774107303232581:=V
def tw7208098131969050092:=V
def tw7214592646633458380:=V
def tw7238538898068617636:=V
def tw7241560360916791253:=V
def tw7256969730634844452:=V
def tw7270877162572835176:=V
def tw7330668030540796338:=V
def tw734648404169450407:=V
def tw7362703571073089862:=V
def tw7399214152573662411:=V
def tw7425648538258465479:=V
def tw7461279761353650003:=V
def tw7463364602659731312:=V
def tw7483971367640966367:=V
def tw7514645611409581320:=V
def tw7515982865607842840:=V
def tw7519680359036463972:=V
def tw7527099089568901307:=V
def tw7528023364146967617:=V
def tw7532849437670491169:=V
def tw7572740107976403476:=V
def tw758336690217300687:=V
def tw7595079615200845585:=V
def tw7596865560867300002:=V
def tw7602710399880433120:=V
def tw7615423273914190403:=V
def tw7649650656363005804:=V
def tw7679270048204067857:=V
def tw7689831562135519703:=V
def tw7705554837685197220:=V
def tw7706705099723185793:=V
def tw7714394251795595150:=V
def tw7739171316377173683:=V
def tw7766687146039255775:=V
def tw7767401986868520400:=V
def tw7797599019080633814:=V
def tw7837271449183795926:=V
def tw7860221504675409188:=V
def tw7862879601222644487:=V
def tw7874173440677564912:=V
def tw789974264712396265:=V
def tw7934404935370992239:=V
def tw7942504828445880028:=V
def tw7948644968832381178:=V
def tw7963138924544024503:=V
def tw7967715605851970507:=V
def tw7968423390987133941:=V
def tw8115516316645421900:=V
def tw8115642691718577676:=V
def tw8124171997469692911:=V
def tw8192186609565270790:=V
def tw8254938782573523171:=V
def tw8273450900321092834:=V
def tw8281088658496281292:=V
def tw8282102726887524643:=V
def tw8386441735560416184:=V
def tw8399881330928854916:=V
def tw8416091441474096745:=V
def tw8426332841197548503:=V
def tw8450009404938303119:=V
def tw8458758286968501012:=V
def tw8473362572651355318:=V
def tw8519068173018820733:=V
def tw8531170492836015342:=V
def tw8533717353327235569:=V
def tw8682494273182496525:=V
def tw8694004458901722855:=V
def tw8697464563372777304:=V
def tw8751709011035691463:=V
def tw875983131407088700:=V
def tw8789602554806659178:=V
def tw88189420864841239:=V
def tw8861955235324118706:=V
def tw8950511612463346698:=V
def tw8955389900117509476:=V
def tw8958131714455100358:=V
def tw8971024071166107636:=V
def tw8980946972638968947:=V
def tw8990843383264974526:=V
def tw9008445721842140636:=V
def tw900922233762790609:=V
def tw9049832424788242200:=V
def tw9057319447517282491:=V
def tw9081385321154562725:=V
def tw9085825156051173270:=V
def tw9111888107455157268:=V
def tw9114427537964335625:=V
def tw914004120575587195:=V
def tw9142574020752296379:=V
def tw9149415239821544403:=V
def tw9197850641185279158:=V
def tw9212837297944036933:=V
def tw9214296206292245536:=V
def tw9245646257451619970:=V
def tw9283213084007381081:=V
def tw9304419509343983459:=V
def tw9306632142495547918:=V
def tw9330130111084588027:=V
def tw9356990265255099638:=V
def tw9389710370402753839:=V
def tw9392404622212859420:=V
def tw9392732677226734453:=V
def tw9470640591104600352:=V
def tw9482087549267976291:=V
def tw948886197255673748:=V
def tw9505420918366754556:=V
def tw9507824139596686352:=V
def tw9525252144189376124:=V
def tw953135173914919881:=V
def tw9534805141878584153:=V
def tw9565813555679928353:=V
def tw9596230533259940133:=V
def tw9647423655467643775:=V
def tw9663649203244226532:=V
def tw9683107611789733180:=V
def tw971272048725892672:=V
def tw9717889823437880763:=V
def tw9737763932422256902:=V
def tw9769648834774814049:=V
def tw9792259102105265921:=V
def tw9841249872151230385:=V
def tw9963229095918965806:=V
def tw9970265281582839244:=V
def tw9978339726307471710:=V
def tw9981011898417462806:=V
def tw999315982499011445:=V
end h
set_option Elab.async true in
theorem h:PySem.Challenge.rw_uf020034_09.Holds:=by
  w_on; o_law; k_head; (case hw => w_witness2)
  intro w s₀ s₁ mg mb G Y fa o pm cd doc dV kV ho hd hcd hD hmg hg args vals as hpre hlay hrd hwl hlo
  have KX := kIn_of Y
  refine Ground.open G ?_
  intro T B D TE TW
  wrow_args hpre hlay hrd hwl hlo
  exact law_end (t := tb) (k := 14) T KX (by decide +kernel) (by kernel_rfl) (by kernel_rfl) (by decide +kernel) hg "law" rfl (by kernel_rfl) hmg (by assumption) (by assumption) (fun _ => rfl) (by wrow_post) 10 ⟨by decide, by decide⟩ (fun is _ => main09 is)
end Mine.Internal
end
theorem PySem.Challenge.cw_uf020034_09_holds : PySem.Challenge.rw_uf020034_09.Holds := by
  exact Mine.Internal.h
