import Derived.Test.YtekoaiendgjkdaaGreatKA
import Derived.Test.YtekoaiendgjkdaaGreatEC
import Derived.Test.YtekoaiendgjkdaaGreatP1
set_option linter.unusedVariables false
set_option linter.unusedSimpArgs false
set_option linter.unusedSectionVars false
set_option maxRecDepth 100000
set_option maxHeartbeats 8000000
namespace Go.S
open Go.Sx Go.Proofs
abbrev RDK(h:ad)(d':DB)(k:Value->ad->Prop):Prop:=
 ∀h' b1 n1 c1 b2 n2 c2 b3 n3 c3 b4 n4 c4,Le h h'->RP h' b1 n1 c1 b2 n2 c2 b3 n3 c3 b4 n4 c4 d'->k (.agg #[.slice b1 n1 c1,.slice b2 n2 c2,.slice b3 n3 c3,.slice b4 n4 c4]) h'
theorem yO:∀a b:List UInt8,Lib.compareBytes a b=0↔a=b
 | [],[]=>by simp[Lib.compareBytes]
 | [],y::b=>by simp[Lib.compareBytes]
 |x::a,[]=>by simp[Lib.compareBytes]
 |x::a,y::b=>by
  unfold Lib.compareBytes;by_cases h:x<y
  ·simp[h];intro e;subst e;exact absurd h (UInt8.lt_irrefl x)
  ·by_cases h2:y<x
   ·simp[h,h2];intro e;subst e;exact absurd h2 (UInt8.lt_irrefl x)
   ·have:x=y:=by rw[UInt8.lt_iff_toNat_lt]at h h2;exact UInt8.toNat_inj.1 (by omega)
    subst this;simp[h,yO a b]
theorem Co:∀a b:List UInt8,Lib.compareBytes a b=- Lib.compareBytes b a
 | [],[]=>by simp[Lib.compareBytes]
 | [],y::b=>by simp[Lib.compareBytes]
 |x::a,[]=>by simp[Lib.compareBytes]
 |x::a,y::b=>by
  unfold Lib.compareBytes;by_cases h:x<y
  ·have h2:¬y<x:=by rw[UInt8.lt_iff_toNat_lt]at h |-;omega
   simp[h,h2]
  ·by_cases h2:y<x
   ·simp[h,h2]
   ·simp[h,h2,Co a b]
theorem HM{a b:ByteArray}(h:eX a b=0):a=b:=by
 unfold eX at h;have:=(yO _ _).1 h;cases a with
 |mk a=>
  cases b with
  |mk b=>congr 1;exact Array.ext' this
theorem LS(a b:ByteArray):eX a b=- eX b a:=by unfold eX;exact Co _ _
structure TW(T:List cE):Prop where
 pH:T.Pairwise (fun a b=>eX a.S.name b.S.name<0)
 ok:∀t∈T,t.S.cols=bB/\t.S.key=0/\SO t.rows/\t.S.name.size<=12
 le:T.length<=8
theorem Sn{T:List cE}(h:T.Pairwise (fun a b=>eX a.S.name b.S.name<0)){i:Nat}{t:cE}(hi:T[i]? =some t):dr (aR T t.S.name)=i/\lK (aR T t.S.name)=true:=by
 have kh:=(List.getElem?_eq_some_iff.1 hi).1;have hl:(aR T t.S.name).length=T.length:=by simp[aR]
 have get:∀j x,T[j]? =some x->(aR T t.S.name).getD j 0=eX x.S.name t.S.name:=fun j x hx=>by
  rw[List.getD_eq_getElem?_getD];unfold aR;rw[List.getElem?_map,hx];rfl
 refine R2 _ i (by omega) (by rw[get i t hi];exact th _) (fun j hj=>?_) (fun j hj K3=>?_)
 ·obtain⟨x,hx⟩:=aI (xs:=T) (i:=j) (by omega);rw[get j x hx];have:=List.pairwise_iff_getElem.1 h j i (List.getElem?_eq_some_iff.1 hx).1 kh hj;rw[(List.getElem?_eq_some_iff.1 hx).2,(List.getElem?_eq_some_iff.1 hi).2]at this;exact this
 ·obtain⟨x,hx⟩:=aI (xs:=T) (i:=j) (by omega);rw[get j x hx];have:=List.pairwise_iff_getElem.1 h i j kh (List.getElem?_eq_some_iff.1 hx).1 hj;rw[(List.getElem?_eq_some_iff.1 hx).2,(List.getElem?_eq_some_iff.1 hi).2]at this;rw[LS]at this;omega
theorem EK{S:AU}(h1:S.cols=bB)(h2:S.key=0){R:List Row}{r:Row}(h:SO R)(hr:lN r\/r.length≠2):SO (bI ⟨S,R⟩ r).1.rows:=by
 rcases hr with hr|hr
 ·have hf:=hr.fits;have xA:=hr;obtain⟨a,v,rfl,-⟩:=xA;obtain⟨p,q⟩:=h.sr.at_ a;rw[xY (S:=S) h2 h.sr (by rw[h1];exact hf) q];by_cases h3:B0 R a p=true
  ·rw[if_pos h3];exact h
  ·rw[if_neg h3];by_cases h4:decide ((R.length:Int)>=200)=true
   ·rw[if_pos h4];exact h
   ·rw[if_neg h4];have h4:R.length<200:=by simp at h4;omega
    refine⟨h.sr.ins (v:=v) q (by simpa using h3),fun row uk=>?_,?_⟩
    ·rcases List.mem_append.1 uk with uk|uk
     ·rcases List.mem_append.1 uk with uk|uk
      ·exact h.ok row (List.mem_of_mem_take uk)
      ·simp at uk;rw[uk];exact hr
     ·exact h.ok row (List.mem_of_mem_drop uk)
    ·have:=q.le;simp;omega
 ·have:bV S.cols r=1:=by
   unfold bV;have h2:S.cols.length=2:=by rw[h1];rfl
   rw[if_pos (decide_eq_true (by rw[h2];omega))]
  unfold bI;simp only;rw[this];exact h
theorem I5{S:AU}(h2:S.key=0){R:List Row}(h:SO R)(a:Int):SO (cK ⟨S,R⟩ ⟨2,a,pJ⟩).1.rows:=by
 obtain⟨p,q⟩:=h.sr.at_ a;rw[Da (S:=S) h2 h.sr q];by_cases h1:B0 R a p=true
 ·rw[if_pos h1];have dp:=xm R p;exact⟨h.sr.sub dp,fun row uk=>h.ok row (dp.subset uk),Nat.le_trans dp.length_le h.le⟩
 ·rw[if_neg h1];exact h
theorem TW.set{T:List cE}(h:TW T){i:Nat}{t t':cE}(hi:T[i]? =some t)(hS:t'.S=t.S)(hr:SO t'.rows):TW (T.set i t'):=by
 have kh:=(List.getElem?_eq_some_iff.1 hi).1;refine⟨?_,fun x hx=>?_,by rw[List.length_set];exact h.le⟩
 ·rw[List.pairwise_iff_getElem];have e:∀j (hj:j<(T.set i t').length),(T.set i t')[j].S=(T[j]'(by simpa using hj)).S:=fun j hj=>by
   rw[List.getElem_set];split
   ·rename_i e;subst e;rw[hS,<-(List.getElem?_eq_some_iff.1 hi).2]
   ·rfl
  intro a b ha hb Ir;rw[e a ha,e b hb];exact List.pairwise_iff_getElem.1 h.pH a b _ _ Ir
 ·rcases List.mem_or_eq_of_mem_set hx with h1|h1
  ·exact h.ok x h1
  ·have:=h.ok t (List.mem_of_getElem? hi);rw[h1,hS];exact⟨this.1,this.2.1,hr,this.2.2.2⟩
structure AF(T:List cE)(x:iX):Prop where
 row:lN x.row
 op:x.op=1\/x.op=2
 at_:∃t∈T,t.S.name=x.table
theorem AF.map{T T':List cE}{x:iX}(h:AF T x)(e:T'.map (·.S)=T.map (·.S)):AF T' x:=by
 refine⟨h.row,h.op,?_⟩;obtain⟨t,ht,hn⟩:=h.at_;have:t.S∈T'.map (·.S):=by rw[e];exact List.mem_map_of_mem ht
 obtain⟨t',KJ,he⟩:=List.mem_map.1 this;exact⟨t',KJ,by rw[he];exact hn⟩
theorem IY{T:List cE}(h:TW T){x:iX}(hx:AF T x){i:Nat}{t:cE}(hi:T[i]? =some t)(hn:t.S.name=x.table):
 jc T x=T.set i (if x.op=2 then(bI t x.row).1 else(cK t (xR x.row 0)).1)/\TW (jc T x):=by
 obtain⟨h1,h2⟩:=Sn h.pH hi;rw[hn]at h1 h2;obtain⟨c1,c2,c3,-⟩:=h.ok t (List.mem_of_getElem? hi);have e:jc T x=T.set i (if x.op=2 then(bI t x.row).1 else(cK t (xR x.row 0)).1):=by
  unfold jc;rw[h1,h2,hi];simp only[if_true];by_cases ho:x.op=2
  ·rw[if_pos (decide_eq_true ho),if_pos ho]
  ·rw[if_neg (by simpa using ho),if_neg ho,if_pos (by
    obtain⟨a,v,hr,-⟩:=hx.row;rw[c2,hr];rfl),c2]
 refine⟨e,?_⟩;rw[e];obtain⟨S,R⟩:=t;by_cases ho:x.op=2
 ·rw[if_pos ho];exact h.set hi (qQ _ _) (EK c1 c2 c3 (.inl hx.row))
 ·rw[if_neg ho];obtain⟨a,v,hr,-⟩:=hx.row;rw[hr];exact h.set hi (xX _ _) (I5 c2 c3 a)
theorem IZ{T:List cE}(h:TW T){x:iX}(hx:AF T x):TW (jc T x):=by obtain⟨t,ht,hn⟩:=hx.at_;obtain⟨i,hi⟩:=List.getElem?_of_mem ht;exact(IY h hx hi hn).2
theorem A2{T:List cE}(h:TW T):∀ {l:List iX},(∀x∈l,AF T x)->TW (fS T l)
 | [],_=>h
 |x::r,hl=>IZ (A2 h (fun y hy=>hl y (List.mem_cons_of_mem _ hy))) ((hl x (by simp)).map (zd T r))
structure W15 where
 w:R3
 lb:Option Addr
 ln:Nat
 lc:Nat
structure SI(d:DB):Prop where
 tw:TW d.aE
 pH:d.au.Pairwise (fun a b=>a.s<b.s)
 so:∀w∈d.au,0<=w.s/\w.s<8
 log:∀w∈d.au,(∀x∈w.log,AF d.aE x)/\w.log.length<=60
 holds:d.holds.length<=2^17
 waits:d.waits.length<=2^17
theorem Gb{l:List dO}(h:l.Pairwise (fun a b=>a.s<b.s)){i:Nat}{w:dO}(hi:l[i]? =some w):∀(j:Nat) (y:dO),l[j]? =some y->y.s=w.s->j=i:=by
 intro j y hy he;have hj:=List.getElem?_eq_some_iff.1 hy;have tP:=List.getElem?_eq_some_iff.1 hi;rcases Nat.lt_trichotomy j i with h1|h1|h1
 ·have:=List.pairwise_iff_getElem.1 h j i hj.1 tP.1 h1;rw[hj.2,tP.2]at this;omega
 ·exact h1
 ·have:=List.pairwise_iff_getElem.1 h i j tP.1 hj.1 h1;rw[hj.2,tP.2]at this;omega
end Go.S
