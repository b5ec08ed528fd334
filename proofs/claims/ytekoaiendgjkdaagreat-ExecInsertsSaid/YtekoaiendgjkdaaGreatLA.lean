import Derived.Test.YtekoaiendgjkdaaGreatK4
import Derived.Test.YtekoaiendgjkdaaGreatEC
import Derived.Test.YtekoaiendgjkdaaGreatP1
set_option linter.unusedVariables false
set_option linter.unusedSimpArgs false
set_option linter.unusedSectionVars false
set_option maxRecDepth 100000
set_option maxHeartbeats 8000000
namespace Go.S
open Go.Sx Go.Proofs
abbrev RDK(h:ad)(d':DB)(k:Value->ad->Prop):Prop:=
 ∀h' b1 n1 c1 b2 n2 c2 b3 n3 c3 b4 n4 c4,Le h h'->RP h' b1 n1 c1 b2 n2 c2 b3 n3 c3 b4 n4 c4 d'->k (.agg #[.slice b1 n1 c1,.slice b2 n2 c2,.slice b3 n3 c3,.slice b4 n4 c4]) h'
theorem wD:∀a b:List UInt8,Lib.compareBytes a b=0↔a=b
 | [],[]=>by simp[Lib.compareBytes]
 | [],y::b=>by simp[Lib.compareBytes]
 |x::a,[]=>by simp[Lib.compareBytes]
 |x::a,y::b=>by
  unfold Lib.compareBytes;by_cases h:x<y
  ·simp[h];intro e;subst e;exact absurd h (UInt8.lt_irrefl x)
  ·by_cases h2:y<x
   ·simp[h,h2];intro e;subst e;exact absurd h2 (UInt8.lt_irrefl x)
   ·have:x=y:=by rw[UInt8.lt_iff_toNat_lt]at h h2;exact UInt8.toNat_inj.1 (by omega)
    subst this;simp[h,wD a b]
theorem z0:∀a b:List UInt8,Lib.compareBytes a b=- Lib.compareBytes b a
 | [],[]=>by simp[Lib.compareBytes]
 | [],y::b=>by simp[Lib.compareBytes]
 |x::a,[]=>by simp[Lib.compareBytes]
 |x::a,y::b=>by
  unfold Lib.compareBytes;by_cases h:x<y
  ·have h2:¬y<x:=by rw[UInt8.lt_iff_toNat_lt]at h |-;omega
   simp[h,h2]
  ·by_cases h2:y<x
   ·simp[h,h2]
   ·simp[h,h2,z0 a b]
theorem Er{a b:ByteArray}(h:eG a b=0):a=b:=by
 unfold eG at h;have:=(wD _ _).1 h;cases a with
 |mk a=>
  cases b with
  |mk b=>congr 1;exact Array.ext' this
theorem Ir(a b:ByteArray):eG a b=- eG b a:=by unfold eG;exact z0 _ _
structure TW(T:List cA):Prop where
 oq:T.Pairwise (fun a b=>eG a.S.name b.S.name<0)
 ok:∀t∈T,t.S.cols=bl/\t.S.key=0/\SO t.rows/\t.S.name.size<=12
 le:T.length<=8
theorem Oc{T:List cA}(h:T.Pairwise (fun a b=>eG a.S.name b.S.name<0)){i:Nat}{t:cA}(hi:T[i]? =some t):dm (aM T t.S.name)=i/\kE (aM T t.S.name)=true:=by
 have jG:=(List.getElem?_eq_some_iff.1 hi).1;have hl:(aM T t.S.name).length=T.length:=by simp[aM]
 have get:∀j x,T[j]? =some x->(aM T t.S.name).getD j 0=eG x.S.name t.S.name:=fun j x hx=>by
  rw[List.getD_eq_getElem?_getD];unfold aM;rw[List.getElem?_map,hx];rfl
 refine NW _ i (by omega) (by rw[get i t hi];exact rj _) (fun j hj=>?_) (fun j hj Jl=>?_)
 ·obtain⟨x,hx⟩:=aE (xs:=T) (i:=j) (by omega);rw[get j x hx];have:=List.pairwise_iff_getElem.1 h j i (List.getElem?_eq_some_iff.1 hx).1 jG hj;rw[(List.getElem?_eq_some_iff.1 hx).2,(List.getElem?_eq_some_iff.1 hi).2]at this;exact this
 ·obtain⟨x,hx⟩:=aE (xs:=T) (i:=j) (by omega);rw[get j x hx];have:=List.pairwise_iff_getElem.1 h i j jG (List.getElem?_eq_some_iff.1 hx).1 hj;rw[(List.getElem?_eq_some_iff.1 hx).2,(List.getElem?_eq_some_iff.1 hi).2]at this;rw[Ir]at this;omega
theorem BT{S:Ao}(h1:S.cols=bl)(h2:S.key=0){R:List Row}{r:Row}(h:SO R)(hr:kK r\/r.length≠2):SO (bI ⟨S,R⟩ r).1.rows:=by
 rcases hr with hr|hr
 ·have hf:=hr.fits;have RQ:=hr;obtain⟨a,v,rfl,-⟩:=RQ;obtain⟨p,q⟩:=h.sr.at_ a;rw[vJ (S:=S) h2 h.sr (by rw[h1];exact hf) q];by_cases h3:zH R a p=true
  ·rw[if_pos h3];exact h
  ·rw[if_neg h3];by_cases h4:decide ((R.length:Int)>=200)=true
   ·rw[if_pos h4];exact h
   ·rw[if_neg h4];have h4:R.length<200:=by simp at h4;omega
    refine⟨h.sr.ins (v:=v) q (by simpa using h3),fun row rW=>?_,?_⟩
    ·rcases List.mem_append.1 rW with rW|rW
     ·rcases List.mem_append.1 rW with rW|rW
      ·exact h.ok row (List.mem_of_mem_take rW)
      ·simp at rW;rw[rW];exact hr
     ·exact h.ok row (List.mem_of_mem_drop rW)
    ·have:=q.le;simp;omega
 ·have:bM S.cols r=1:=by
   unfold bM;have h2:S.cols.length=2:=by rw[h1];rfl
   rw[if_pos (decide_eq_true (by rw[h2];omega))]
  unfold bI;simp only;rw[this];exact h
theorem Fw{S:Ao}(h2:S.key=0){R:List Row}(h:SO R)(a:Int):SO (cu ⟨S,R⟩ ⟨2,a,oy⟩).1.rows:=by
 obtain⟨p,q⟩:=h.sr.at_ a;rw[AL (S:=S) h2 h.sr q];by_cases h1:zH R a p=true
 ·rw[if_pos h1];have cW:=ve R p;exact⟨h.sr.sub cW,fun row rW=>h.ok row (cW.subset rW),Nat.le_trans cW.length_le h.le⟩
 ·rw[if_neg h1];exact h
theorem TW.set{T:List cA}(h:TW T){i:Nat}{t t':cA}(hi:T[i]? =some t)(hS:t'.S=t.S)(hr:SO t'.rows):TW (T.set i t'):=by
 have jG:=(List.getElem?_eq_some_iff.1 hi).1;refine⟨?_,fun x hx=>?_,by rw[List.length_set];exact h.le⟩
 ·rw[List.pairwise_iff_getElem];have e:∀j (hj:j<(T.set i t').length),(T.set i t')[j].S=(T[j]'(by simpa using hj)).S:=fun j hj=>by
   rw[List.getElem_set];split
   ·rename_i e;subst e;rw[hS,<-(List.getElem?_eq_some_iff.1 hi).2]
   ·rfl
  intro a b ha hb EW;rw[e a ha,e b hb];exact List.pairwise_iff_getElem.1 h.oq a b _ _ EW
 ·rcases List.mem_or_eq_of_mem_set hx with h1|h1
  ·exact h.ok x h1
  ·have:=h.ok t (List.mem_of_getElem? hi);rw[h1,hS];exact⟨this.1,this.2.1,hr,this.2.2.2⟩
structure yi(T:List cA)(x:lD):Prop where
 row:kK x.row
 op:x.op=1\/x.op=2
 at_:∃t∈T,t.S.name=x.table
theorem yi.map{T T':List cA}{x:lD}(h:yi T x)(e:T'.map (·.S)=T.map (·.S)):yi T' x:=by
 refine⟨h.row,h.op,?_⟩;obtain⟨t,ht,hn⟩:=h.at_;have:t.S∈T'.map (·.S):=by rw[e];exact List.mem_map_of_mem ht
 obtain⟨t',Hp,he⟩:=List.mem_map.1 this;exact⟨t',Hp,by rw[he];exact hn⟩
theorem Fp{T:List cA}(h:TW T){x:lD}(hx:yi T x){i:Nat}{t:cA}(hi:T[i]? =some t)(hn:t.S.name=x.table):
 iA T x=T.set i (if x.op=2 then(bI t x.row).1 else(cu t (vD x.row 0)).1)/\TW (iA T x):=by
 obtain⟨h1,h2⟩:=Oc h.oq hi;rw[hn]at h1 h2;obtain⟨c1,c2,c3,-⟩:=h.ok t (List.mem_of_getElem? hi);have e:iA T x=T.set i (if x.op=2 then(bI t x.row).1 else(cu t (vD x.row 0)).1):=by
  unfold iA;rw[h1,h2,hi];simp only[if_true];by_cases ho:x.op=2
  ·rw[if_pos (decide_eq_true ho),if_pos ho]
  ·rw[if_neg (by simpa using ho),if_neg ho,if_pos (by
    obtain⟨a,v,hr,-⟩:=hx.row;rw[c2,hr];rfl),c2]
 refine⟨e,?_⟩;rw[e];obtain⟨S,R⟩:=t;by_cases ho:x.op=2
 ·rw[if_pos ho];exact h.set hi (ph _ _) (BT c1 c2 c3 (.inl hx.row))
 ·rw[if_neg ho];obtain⟨a,v,hr,-⟩:=hx.row;rw[hr];exact h.set hi (vI _ _) (Fw c2 c3 a)
theorem Fq{T:List cA}(h:TW T){x:lD}(hx:yi T x):TW (iA T x):=by obtain⟨t,ht,hn⟩:=hx.at_;obtain⟨i,hi⟩:=List.getElem?_of_mem ht;exact(Fp h hx hi hn).2
theorem yx{T:List cA}(h:TW T):∀ {l:List lD},(∀x∈l,yi T x)->TW (eU T l)
 | [],_=>h
 |x::r,hl=>Fq (yx h (fun y hy=>hl y (List.mem_cons_of_mem _ hy))) ((hl x (by simp)).map (wU T r))
structure W15 where
 w:NX
 lb:Option Addr
 ln:Nat
 lc:Nat
structure SI(d:DB):Prop where
 tw:TW d.aB
 oq:d.aq.Pairwise (fun a b=>a.s<b.s)
 qF:∀w∈d.aq,0<=w.s/\w.s<8
 log:∀w∈d.aq,(∀x∈w.log,yi d.aB x)/\w.log.length<=60
 holds:d.holds.length<=2^17
 waits:d.waits.length<=2^17
theorem C6{l:List dr}(h:l.Pairwise (fun a b=>a.s<b.s)){i:Nat}{w:dr}(hi:l[i]? =some w):∀(j:Nat) (y:dr),l[j]? =some y->y.s=w.s->j=i:=by
 intro j y hy he;have hj:=List.getElem?_eq_some_iff.1 hy;have rG:=List.getElem?_eq_some_iff.1 hi;rcases Nat.lt_trichotomy j i with h1|h1|h1
 ·have:=List.pairwise_iff_getElem.1 h j i hj.1 rG.1 h1;rw[hj.2,rG.2]at this;omega
 ·exact h1
 ·have:=List.pairwise_iff_getElem.1 h i j rG.1 hj.1 h1;rw[hj.2,rG.2]at this;omega
end Go.S
