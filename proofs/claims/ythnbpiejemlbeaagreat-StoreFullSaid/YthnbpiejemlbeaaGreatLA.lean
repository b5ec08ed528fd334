import Derived.Test.YthnbpiejemlbeaaGreatKA
set_option linter.all false
set_option maxRecDepth 100000
set_option maxHeartbeats 8000000
namespace Go.S
open Go.Sx Go.Proofs
theorem ES:∀a b:List UInt8,Lib.compareBytes a b=0↔a=b
 | [],[]=>by simp[Lib.compareBytes]
 | [],y::b=>by simp[Lib.compareBytes]
 |x::a,[]=>by simp[Lib.compareBytes]
 |x::a,y::b=>by
  unfold Lib.compareBytes;by_cases h:x<y
  .simp[h];intro e;subst e;exact absurd h (UInt8.lt_irrefl x)
  by_cases c:y<x
  .simp[h,c];intro e;subst e;exact absurd c (UInt8.lt_irrefl x)
  have:x=y:=by rw[UInt8.lt_iff_toNat_lt]at h c;exact UInt8.toNat_inj.1 (by omega)
  subst this;simp[h,ES a b]
theorem Ja:∀a b:List UInt8,Lib.compareBytes a b=- Lib.compareBytes b a
 | [],[]=>by simp[Lib.compareBytes]
 | [],y::b=>by simp[Lib.compareBytes]
 |x::a,[]=>by simp[Lib.compareBytes]
 |x::a,y::b=>by
  unfold Lib.compareBytes;by_cases h:x<y
  .have c:¬y<x:=by rw[UInt8.lt_iff_toNat_lt]at h |-;omega
   simp[h,c]
  by_cases c:y<x
  .simp[h,c]
  simp[h,c,Ja a b]
theorem lV{a b:ByteArray}(h:cT a b=0):a=b:=by
 unfold cT at h;have:=(ES _ _).1 h;cases a with
 |mk a=>
  cases b with
  |mk b=>congr 1;exact Array.ext' this
theorem tz(a b:ByteArray):cT a b=- cT b a:=by unfold cT;exact Ja _ _
structure TW(T:List bJ):Prop where
 gz:T.Pairwise (λa b=>cT a.S.name b.S.name<0)
 ok:∀t∈T,t.S.cols=bq/\t.S.key=0/\SO t.rows/\t.S.name.size<=12
 le:T.length<=8
theorem sk{T:List bJ}(h:T.Pairwise (λa b=>cT a.S.name b.S.name<0)){i:Nat}{t:bJ}(c:T[i]? =some t):cR (aB T t.S.name)=i/\gZ (aB T t.S.name)=true:=by
 have g:=(List.getElem?_eq_some_iff.1 c).1;have hl:(aB T t.S.name).length=T.length:=by simp[aB]
 have get:∀j x,T[j]? =some x->(aB T t.S.name).getD j 0=cT x.S.name t.S.name:=λj x hx=>by
  rw[List.getD_eq_getElem?_getD];unfold aB;rw[List.getElem?_map,hx];rfl
 refine aZJ _ i (by omega) (by rw[get i t c];exact ue _) (λj d=>?_) (λj d I=>?_)
 .obtain⟨x,hx⟩:=bn T j;rw[get j x hx];have:=List.pairwise_iff_getElem.1 h j i (List.getElem?_eq_some_iff.1 hx).1 g d;rw[(List.getElem?_eq_some_iff.1 hx).2,(List.getElem?_eq_some_iff.1 c).2]at this;exact this
 obtain⟨x,hx⟩:=bn T j;rw[get j x hx];have:=List.pairwise_iff_getElem.1 h i j g (List.getElem?_eq_some_iff.1 hx).1 d;rw[(List.getElem?_eq_some_iff.1 hx).2,(List.getElem?_eq_some_iff.1 c).2]at this;rw[tz]at this;omega
theorem Hv{T:List bJ}{nm:ByteArray}(h:∀t∈T,t.S.name≠nm):gZ (aB T nm)=false:=by
 cases b:gZ (aB T nm)with
 |false=>rfl
 |true=>
  unfold gZ at b;obtain⟨d,a⟩:=of_decide_eq_true b;obtain⟨t,c⟩:=ax (xs:=T) (i:=cR (aB T nm)) (by simpa[aB]using d);have:(aB T nm).getD (cR (aB T nm)) 0=cT t.S.name nm:=by
   conv=>lhs;unfold aB
   rw[List.getD_eq_getElem?_getD,List.getElem?_map];rw[show T.map (λx=>cT x.S.name nm)=aB T nm from rfl,c];rfl
  rw[this]at a;exact absurd (lV a) (h t (List.mem_of_getElem? c))
structure De(T:List bJ)(x:cC):Prop where
 row:gK x.row
 op:x.op=1\/x.op=2
 at_:∃t∈T,t.S.name=x.table
structure gJu where
 w:aZP
 lb:Option Addr
 ln:Nat
 lc:Nat
structure SI(d:DB):Prop where
 tw:TW d.aj
 gz:d.ah.Pairwise (λa b=>a.s<b.s)
 oE:∀w∈d.ah,0<=w.s/\w.s<8
 log:∀w∈d.ah,(∀x∈w.log,De d.aj x)/\w.log.length<=60
 holds:d.holds.length<=2^17
 waits:d.waits.length<=2^17
end Go.S
