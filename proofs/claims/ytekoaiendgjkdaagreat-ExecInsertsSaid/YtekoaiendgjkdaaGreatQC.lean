import Derived.Test.YtekoaiendgjkdaaGreatQB
import Derived.Test.YtekoaiendgjkdaaGreatRd
import Derived.Test.YtekoaiendgjkdaaGreatSxC
set_option linter.unusedVariables false
set_option linter.unusedSimpArgs false
set_option linter.unusedSectionVars false
set_option maxRecDepth 100000
set_option maxHeartbeats 8000000
namespace Go.S
open Go.Sx Go.Proofs
def Bx{α:Type}(e:Nat)(s:Sh α)(B h:ad)(nb:Option Nat)(v:Value)(xs:List α):Prop:=
 (nb=none/\v=.slice none 0 0/\xs=[])\/∃j cap,nb=some j/\v=.slice (some ⟨j,0,none⟩) xs.length cap/\B j=none/\dn e s h j cap xs
theorem Bx.sl{α:Type}{e:Nat}{s:Sh α}{B h:ad}{nb:Option Nat}{v:Value}{xs:List α}(q:Bx e s B h nb v xs):Sl e s h v xs:=by
 rcases q with ⟨_,rfl,rfl⟩ | ⟨j,cap,_,rfl,_,o⟩
 ·exact Sl.nil
 ·exact o.sl rfl
theorem Bx.buf{α:Type}{e:Nat}{s:Sh α}{B h:ad}{nb:Option Nat}{v:Value}{xs:List α}(q:Bx e s B h nb v xs):cS e s B h v xs:=by
 rcases q with ⟨_,rfl,rfl⟩ | ⟨j,cap,_,rfl,hb,o⟩
 ·exact cS.nil
 ·exact o.buf hb rfl
theorem Bx.mono{α:Type}{e:Nat}{s:Sh α}{B h h':ad}{nb:Option Nat}{v:Value}{xs:List α}(q:Bx e s B h nb v xs)(l:cG (e::s.tys) h h'):Bx e s B h' nb v xs:=by
 rcases q with ⟨h1,h2,h3⟩ | ⟨j,cap,h1,h2,h3,o⟩
 ·exact .inl ⟨h1,h2,h3⟩
 ·exact .inr ⟨j,cap,h1,h2,h3,o.mono l⟩
theorem Bx.has{α:Type}{e:Nat}{s:Sh α}{B h:ad}{j:Nat}{v:Value}{xs:List α}(q:Bx e s B h (some j) v xs):∃c fr,h j=some (.cells c e fr):=by
 rcases q with ⟨h1,-⟩ | ⟨j',cap,h1,-,-,o⟩
 ·cases h1
 ·cases h1;obtain⟨c,g,-⟩:=o.out;exact⟨_,_,g⟩
theorem Bx.app{α:Type}{e:Nat}{s:Sh α}{B h:ad}{nb:Option Nat}{b x:Option Addr}{len cap cx:Nat}{xs:List α}{y:α}(q:Bx e s B h nb (.slice b len cap) xs)(qv:Sl e s h (.slice x 1 cx) [y])(he:e∉s.tys){size bytes:Nat}(kB:size=s.n)(oe:bytes<=128)(hn:len+1<=2^39)(uW:Le B h)
 {k:Value->ad->Prop} (hk:∀j m c' h',Le B h'->Kp nb.toList h h'->cG s.tys h h'->(nb=some j\/h j=none)->Bx e s B h' (some j) (.slice (some ⟨j,0,none⟩) m c') (xs++[y])->k (.slice (some ⟨j,0,none⟩) m c') h'):
 fk h b len cap x 1 size bytes e k:=by
 have hlen:=q.sl.len;refine q.buf.Mu qv he kB oe hn uW (fun m b' c' h' em l GV hb oC=>?_);have qH:∀j,b=some ⟨j,0,none⟩->nb=some j:=fun j hj=>by
  rcases q with ⟨_,h2,_⟩ | ⟨j',eP,h1,h2,_,_⟩
  ·cases h2;cases hj
  ·cases h2;cases hj;exact h1
 obtain⟨j,e1,e2,e3,o⟩:=hb.own (by omega);subst e1;have kp:Kp nb.toList h h':=fun i o' hi fR=>GV i o' hi (fun e=>fR (by rw[qH i e];simp));have lt:cG s.tys h h':=fun i d e' fr hm hi=>GV i _ hi (fun e1=>by
  have:=qH i e1;subst this;obtain⟨c,HT,g⟩:=q.has;rw[g]at hi;cases hi;exact he hm)
 refine hk j m c' h' l kp lt ?_ (.inr ⟨j,c',rfl,by rw[<-e3],e2,o⟩);rcases oC j rfl with h1|h1|h1
 ·exact .inl (qH j h1)
 ·exact .inr h1
 ·omega
def blkL:Value->List Nat
 | .slice (some a) _ _=>[a.block]
 |_=>[]
structure TwoB{α:Type}(e:Nat)(s:Sh α)(B h:ad)(v1:Value)(xs:List α)(v2:Value)(ys:List α):Prop where
 out:∃o1 o2,Bx e s B h o1 v1 xs/\Bx e s B h o2 v2 ys/\∀j,o1=some j->o2≠some j
def chStep(w:List Nd)(cols:List bS)(f:Row->Row×Int)(r:Row)(xs ys:List Row):(List Row×List Row)×Int:=match eA w cols r with
 | (is,e)=>if e≠0 then((xs,ys),e)else if is=false then((xs,ys),0)else((xs++[r],ys++[(f r).1]),(f r).2)
structure CSt(B h:ad)(rp fp:Nat)(xs ys:List Row):Prop where
 out:∃b1 n1 c1 b2 n2 c2,h rp=some (.cells #[.slice b1 n1 c1] 34 (0,0))/\h fp=some (.cells #[.slice b2 n2 c2] 34 (0,0))/\TwoB 59 aN B h (.slice b1 n1 c1) xs (.slice b2 n2 c2) ys
 le:Le B h
 n1:B rp=none
 n2:B fp=none
 ne:rp≠fp
theorem nV{s:ByteArray}:Rr s↔∀c∈s.data.toList,c.toNat<128:=by
 constructor
 ·intro h c hc;obtain⟨i,hi,rfl⟩:=List.mem_iff_getElem.1 hc;have:=h i (by simpa using hi);rw[Array.getD_eq_getD_getElem?]at this;rw[Array.getElem?_eq_getElem (by simpa using hi)]at this;simpa using this
 ·intro h i hi;have rG:i<s.data.size:=hi;rw[Array.getD_eq_getD_getElem?,Array.getElem?_eq_getElem rG];exact h _ (by simp)
theorem CY{a b:ByteArray}(ha:Rr a)(hb:Rr b):Rr (a++b):=by
 rw[nV]at *;intro c hc;have e:(a++b).data=a.data++b.data:=by simp
 rw[e,Array.toList_append]at hc;rcases List.mem_append.1 hc with hc|hc
 ·exact ha c hc
 ·exact hb c hc
structure I0(s:ByteArray):Prop where
 Sf:Rr s
 sz:s.size<=2^30
theorem I0.nm{s:ByteArray}(h:I0 s):Nm s:=⟨h.Sf,by have:=h.sz;omega⟩
theorem L4{nm:ByteArray}(h:I0 nm){c:bS}(hc:I0 c.name):Nm (og nm c).name:=by
 refine⟨CY (CY h.Sf (fun i hi=>?_)) hc.Sf,?_⟩
 ·have:i<1:=hi;have:i=0:=by omega
  subst this;decide
 ·show(nm++au [46]++c.name).size<=_;rw[ByteArray.size_append,ByteArray.size_append];have e:(au [46]).size=1:=rfl;have:=h.sz;have:=hc.sz;omega
open Go.Sx
structure fq(P:Row->Prop)(Pn:ByteArray->Prop)(d:DB):Prop where
 nm:∀t∈d.aB,Pn t.S.name
 rows:∀t∈d.aB,∀r∈t.rows,P r
 log:∀w∈d.aq,∀c∈w.log,P c.row
section
variable {P:Row->Prop}{Pn:ByteArray->Prop}
theorem sS{t:cA}{r x:Row}(h:x∈(bI t r).1.rows):x=r\/x∈t.rows:=by
 unfold bI at h;split at h
 ·exact .inr h
 ·split at h
  ·exact .inr h
  ·split at h
   ·exact .inr h
   ·have h:x∈t.rows.take _++[r]++t.rows.drop _:=h;simp only[List.append_assoc,List.mem_append,List.mem_singleton]at h;rcases h with h|h|h
    ·exact .inr (List.mem_of_mem_take h)
    ·exact .inl h
    ·exact .inr (List.mem_of_mem_drop h)
theorem yz{t:cA}{k:cR}{x:Row}(h:x∈(cu t k).1.rows):x∈t.rows:=by
 unfold cu at h;split at h
 ·have h:x∈t.rows.take _++t.rows.drop _:=h;rcases List.mem_append.1 h with h|h
  ·exact List.mem_of_mem_take h
  ·exact List.mem_of_mem_drop h
 ·exact h
def uQ(P:Row->Prop)(Pn:ByteArray->Prop)(T:List cA):Prop:=∀t∈T,Pn t.S.name/\∀r∈t.rows,P r
theorem uQ.set{T:List cA}(h:uQ P Pn T){i:Nat}{t:cA}(ht:Pn t.S.name/\∀r∈t.rows,P r):uQ P Pn (T.set i t):=fun x hx=>by
 rcases List.mem_or_eq_of_mem_set hx with hx|hx
 ·exact h x hx
 ·rw[hx];exact ht
theorem JN{T:List cA}{x:lD}(h:uQ P Pn T)(hx:P x.row):uQ P Pn (iA T x):=by
 unfold iA;split
 ·split
  ·rename_i t ht;have DZ:=h t (List.mem_of_getElem? ht);split
   ·refine h.set ⟨by rw[ph];exact DZ.1,fun r hr=>?_⟩;rcases sS hr with hr|hr
    ·rw[hr];exact hx
    ·exact DZ.2 r hr
   ·split
    ·exact h.set ⟨by rw[vI];exact DZ.1,fun r hr=>DZ.2 r (yz hr)⟩
    ·exact h
  ·exact h
 ·exact h
theorem BQ{T:List cA}(h:uQ P Pn T):∀ {l:List lD},(∀c∈l,P c.row)->uQ P Pn (eU T l)
 | [],_=>h
 |x::l,hl=>JN (BQ h fun c hc=>hl c (List.mem_cons_of_mem _ hc)) (hl x List.mem_cons_self)
theorem fq.tab{d:DB}(q:fq P Pn d):uQ P Pn d.aB:=fun t ht=>⟨q.nm t ht,q.rows t ht⟩
theorem fq.of{d:DB}(h:uQ P Pn d.aB)(hl:∀w∈d.aq,∀c∈w.log,P c.row):fq P Pn d:=⟨fun t ht=>(h t ht).1,fun t ht=>(h t ht).2,hl⟩
theorem Mj{T:List cA}{ws:List dr}{s:Int}(h:uQ P Pn T)(hl:∀w∈ws,∀c∈w.log,P c.row):uQ P Pn (nB T ws s):=by
 unfold nB;split
 ·split
  ·rename_i w hw;exact BQ h (hl w (List.mem_of_getElem? hw))
  ·exact h
 ·exact h
theorem fq.back{d:DB}(q:fq P Pn d)(s:Int):fq P Pn (j0 d s):=
 fq.of (Mj q.tab q.log) fun w hw=>q.log w ((ux d.aq s).subset hw)
theorem fq.vY{d:DB}(q:fq P Pn d){H W:List bK}:fq P Pn ⟨d.aB,d.aq,H,W⟩:=⟨q.nm,q.rows,q.log⟩
theorem fq.gH{hd:bK}:∀(f:Nat) {d:DB},fq P Pn d->fq P Pn (gH f d hd).1
 |0,d,q=>q
 |f+1,d,q=>by
  unfold Go.S.gH;repeat' split
  all_goals first
   |exact fq.gH f (fq.back (fq.vY q) _)
   |exact fq.back (fq.vY q) _
   |exact fq.vY q
theorem fq.ax{d:DB}(q:fq P Pn d)(hd:bK):fq P Pn (ax d hd).1:=by
 unfold Go.S.ax;split
 ·exact q.gH _
 ·exact q
theorem fq.aq{d:DB}(q:fq P Pn d){i:Nat}{w:dr}(hw:∀c∈w.log,P c.row):∀x∈d.aq.set i w,∀c∈x.log,P c.row:=fun x hx=>by
 rcases List.mem_or_eq_of_mem_set hx with hx|hx
 ·exact q.log x hx
 ·rw[hx];exact hw
theorem fq.ep{d:DB}(q:fq P Pn d)(hd:bK){act:cA->cA×lD×Int}(ha:∀t,Pn t.S.name->(∀r∈t.rows,P r)->Pn (act t).1.S.name/\(∀r∈(act t).1.rows,P r)/\P (act t).2.1.row):fq P Pn (ep d hd act).1:=by
 have qh:=q.ax hd;unfold Go.S.ep;split
 ·exact qh
 ·split
  ·rename_i t w ht hw;have DZ:=List.mem_of_getElem? ht;have Ps:=List.mem_of_getElem? hw;have hat:=ha t (qh.nm t DZ) (qh.rows t DZ);split
   ·exact qh
   ·split
    ·refine fq.of (qh.tab.set ⟨hat.1,hat.2.1⟩) (qh.aq fun c hc=>?_);have hc:c∈w.log++[_]:=hc;rcases List.mem_append.1 hc with hc|hc
     ·exact qh.log w Ps c hc
     ·rcases List.mem_cons.1 hc with hc|hc
      ·rw[hc];exact hat.2.2
      ·cases hc
    ·exact qh
  ·exact qh
theorem fq.ff{d:DB}(q:fq P Pn d)(s:Int)(nm:ByteArray){r:Row}(hr:P r):fq P Pn (ff d s nm r).1:=
 q.ep _ fun t h1 h2=>⟨by show Pn (bI t r).1.S.name;rw[ph];exact h1,fun x hx=>by
  rcases sS hx with hx|hx
  ·rw[hx];exact hr
  ·exact h2 x hx,hr⟩
end
theorem uk{c:bS}{v:cR}(h:bG c v=0):cC v=0/\(v.k=0->c.null=true)/\(v.k=0\/v.k=c.kind):=by
 unfold bG at h;by_cases h1:cC v=0
 ·rw[h1]at h;refine⟨h1,?_,?_⟩
  ·intro hk;cases hn:c.null with
   |true=>rfl
   |false=>simp[hk,hn]at h
  ·by_cases hk:v.k=0
   ·exact .inl hk
   ·by_cases ni:v.k=c.kind
    ·exact .inr ni
    ·simp[hk,ni]at h
 ·simp[h1]at h
theorem vC{v:cR}(h:cC v=0):mj v (jd v)=true/\v.s.size<=60:=by
 unfold cC at h;split at h
 ·cases h
 ·split at h
  ·cases h
  ·rename_i h2;split at h
   ·cases h
   ·rename_i h3;have oW:¬((v.s.size:Int)>60):=by simpa using h3
    refine⟨?_,by omega⟩;cases hs:mj v (jd v)with
    |true=>rfl
    |false=>rw[hs]at h2;simp at h2
theorem Bz{r:Row}(h:bM bl r=0):kK r:=by
 unfold bM at h;split at h
 ·cases h
 ·rename_i hl;have hl:r.length=2:=by
   have:(r.length:Int)=(bl.length:Int):=by simpa using hl
   have e:bl.length=2:=rfl;rw[e]at this;omega
  match r,hl with
  | [a,b],_=>
   have h:dh [bG ⟨nA,2,false⟩ a,bG ⟨⟨#[98]⟩,3,true⟩ b]=0:=h;have h1:bG ⟨nA,2,false⟩ a=0:=by
    by_cases c:bG ⟨nA,2,false⟩ a=0
    ·exact c
    ·simp[dh,c]at h
   have h2:bG ⟨⟨#[98]⟩,3,true⟩ b=0:=by
    rw[h1]at h;by_cases c:bG ⟨⟨#[98]⟩,3,true⟩ b=0
    ·exact c
    ·simp[dh,c]at h
   obtain⟨ak,an,sa⟩:=a;obtain⟨bk,bn,sb⟩:=b;obtain⟨v1,n1,k1⟩:=uk h1;obtain⟨v2,n2,k2⟩:=uk h2;have k1:ak=2:=by
    rcases k1 with k|k
    ·exact absurd (n1 k) (by decide)
    ·exact k
   subst k1;obtain⟨s1,-⟩:=vC v1;obtain⟨s2,z2⟩:=vC v2;have e1:sa=oy:=by simp[mj,jd]at s1;exact s1
   subst e1;refine⟨an,⟨bk,bn,sb⟩,rfl,?_⟩;rcases k2 with k|k
   ·have k:bk=0:=k;subst k;simp[mj,jd]at s2;left;rw[s2.1];have:sb=oy:=s2.2;rw[this]
   ·have k:bk=3:=k;subst k;simp[mj,jd]at s2;right;exact⟨sb,by rw[s2],z2⟩
theorem Ad{d:DB}{hd:bK}{act:cA->cA×lD×Int}(h:∀t∈(ax d hd).1.aB,(act t).2.2≠0):(ep d hd act).1=(ax d hd).1:=by
 unfold ep;split
 ·rfl
 ·split
  ·rename_i t w ht hw;have:=h t (List.mem_of_getElem? ht);split
   ·rfl
   ·rw[if_neg (by simpa using this)]
  ·rfl
theorem JY{n:Nat}{d:DB}(q:SJ n d)(s:Int)(nm:ByteArray)(r:Row)(hs:-2^63<=s/\s<2^63):SJ (n+1) (ff d s nm r).1:=by
 by_cases h:bM bl r=0
 ·exact Of q s nm hs (.inl (Bz h))
 ·have hh:=su q ⟨s,nm,true⟩ hs;have:(ff d s nm r).1=(ax d ⟨s,nm,true⟩).1:=Ad fun t ht=>by
   have hc:=(hh.sc.tw.ok t ht).1;show(bI t r).2≠0;unfold bI;rw[hc,if_pos (by simpa using h)];exact h
  rw[this];exact hh
def iF(r:Row):Prop:=∀v∈r,j8 v
structure EJ(n:Nat)(d:DB):Prop where
 sj:SJ n d
 al:fq iF I0 d
theorem EJ.le{n m:Nat}{d:DB}(q:EJ n d)(h:n<=m):EJ m d:=⟨q.sj.le h,q.al⟩
theorem EJ.hold{n:Nat}{d:DB}(q:EJ n d)(hd:bK)(hs:-2^63<=hd.s/\hd.s<2^63):EJ (n+1) (ax d hd).1:=⟨su q.sj hd hs,q.al.ax hd⟩
theorem EJ.put{n:Nat}{d:DB}(q:EJ n d){s:Int}(nm:ByteArray){r:Row}(hs:-2^63<=s/\s<2^63)(hr:iF r):EJ (n+1) (ff d s nm r).1:=⟨JY q.sj s nm r hs,q.al.ff s nm hr⟩
structure TOk(T:cA):Prop where
 nm:I0 T.S.name
 cols:T.S.cols=bl\/(T.S.cols=[]/\T.rows=[])
 key:T.S.key=0
 row:∀r∈T.rows,kK r/\iF r
 len:T.rows.length<=200
theorem sB{l:By}(h:∀c∈l,c.toNat<128)(hl:l.length<=2^30):I0 (au l):=⟨nV.2 h,hl⟩
theorem Dh:∀c∈bl,I0 c.name:=by
 intro c hc;rcases List.mem_cons.1 hc with rfl|hc
 ·exact sB (l:=[97]) (by decide) (by decide)
 ·rcases List.mem_cons.1 hc with rfl|hc
  ·exact sB (l:=[98]) (by decide) (by decide)
  ·cases hc
theorem TOk.CQ{T:cA}(h:TOk T):∀c∈T.S.cols,I0 c.name:=by
 rcases h.cols with e| ⟨e,-⟩
 ·rw[e];exact Dh
 ·rw[e];intro c hc;cases hc
theorem EJ.held{n:Nat}{d:DB}(q:EJ n d)(nm:ByteArray):TOk (dG d nm):=by
 unfold dG;cases h:d.aB.find? fun t=>decide (t.S.name=nm)with
 |none=>exact⟨sB (l:=[]) (fun _ h=>by cases h) (by decide),.inr ⟨rfl,rfl⟩,rfl,(fun _ h=>by cases h),Nat.zero_le _⟩
 |some t=>have DZ:=List.mem_of_find?_eq_some h;obtain⟨h1,h2,h3,-⟩:=q.sj.sc.tw.ok t DZ;exact⟨q.al.nm t DZ,.inl h1,h2,fun r hr=>⟨h3.ok r hr,q.al.rows t DZ r hr⟩,h3.le⟩
theorem BH{α:Type}(f:DB->α->DB×Int)(x:α)(r:List α)(d:DB):uA f (x::r) d=match f d x with
 | (d',e)=>if e≠0 then(d',e)else uA f r d':=rfl
def delE(d:DB)(s:Int)(x:aA)(T:cA):DB×Int:=
 if aK x.bT (cj T)≠0 then(d,aK x.bT (cj T))else match nU x.bT (cj T) (fun _=>([],0)) T.rows ([],[])with
  | (p,e)=>if e≠0 then(d,e)else wY s x.table p.1 d
theorem OT(nm:ByteArray){h:ad}{k:Value->ad->Prop}(hk:∀h' b n c,Le h h'->Sl 325 cP h' (.slice b n c) [ek nm]->k (.slice b n c) h'):Ct 287 [.string nm] h k:=by
 obtain⟨A,hA⟩:=Ar.ex;refine af A (ar V6.aw V6.aZ) Tryz.func287 rfl (by kernel_rfl) ?_;cbv;intro nb h1 f1 e1;have l1:Le h h1:=by rw[e1];exact Le.set f1
 have q:Sl 325 cP h1 (.slice (some ⟨nb,0,none⟩) 1 1) [ek nm]:=bX (s:=cP) ((congrFun e1 nb).trans ah) rfl;have ae:=hk h1 _ _ _ l1 q;clear hk e1 q;cbv;exact ae
def kI(c:bS):bS:=⟨c.name,2,c.null⟩
theorem nq{name:ByteArray}:∀(l m:List bS) (i:Int) (a:Option Int),l.map (·.name)=m.map (·.name)->gJ name l i a=gJ name m i a
 | [],[],_,none,_=>rfl
 | [],[],_,some _,_=>rfl
 | [],b::m,_,_,h=>by simp at h
 |a::l,[],_,_,h=>by simp at h
 |c::l,d::m,i,a,h=>by
  have h1:c.name=d.name:=by simp at h;exact h.1
  have h2:l.map (·.name)=m.map (·.name):=by simp at h;exact h.2
  rw[iP,iP,h1];cases jN name d.name with
  |false=>exact nq l m (i+1) a h2
  |true=>
   cases a with
   |some x=>rfl
   |none=>exact nq l m (i+1) (some i) h2
theorem rf{name:ByteArray}:∀(l:List bS) (i:Int) (a:Option Int),(gJ name l i a).2≠0->(gJ name l i a).1=0
 | [],_,none,_=>rfl
 | [],_,some _,h=>absurd rfl h
 |c::l,i,a,h=>by
  rw[iP]at *;cases ht:jN name c.name with
  |false=>rw[ht]at h;exact rf l (i+1) a h
  |true=>
   rw[ht]at h;cases a with
   |some x=>rfl
   |none=>exact rf l (i+1) (some i) h
def kR:Nat->Nat->Row
 |_,0=>[]
 |i,n+1=>⟨2,(i:Int),b0⟩::kR (i+1) n
theorem tG:∀(n i j:Nat),j<n->(kR i n)[j]? =some ⟨2,((i+j:Nat):Int),b0⟩
 |0,_,_,h=>by omega
 |n+1,i,0,_=>rfl
 |n+1,i,j+1,h=>by
  show(kR (i+1) n)[j]? =_;rw[tG n (i+1) j (Nat.lt_of_succ_lt_succ h),show i+1+j=i+(j+1)by omega]
theorem pB:∀(n i:Nat),(kR i n).length=n
 |0,_=>rfl
 |n+1,i=>by show(kR (i+1) n).length+1=_;rw[pB n]
theorem vV:∀(n i:Nat),kR i n++[⟨2,((i+n:Nat):Int),b0⟩]=kR i (n+1)
 |0,i=>rfl
 |n+1,i=>by
  show _::(kR (i+1) n++_)=_::kR (i+1) (n+1);rw[<-vV n (i+1),show i+1+n=i+(n+1)by omega]
theorem DA{nm:ByteArray}{cols:List bS}:∃v,eI [ek nm] (cols.map kI) (kR 0 cols.length)=(v,(dp nm cols).2)/\v.n=(dp nm cols).1:=by
 have hf:dp nm (cols.map kI)=dp nm cols:=nq _ _ _ _ (by rw[List.map_map];rfl);have jh:=zS (name:=nm) cols 0 none (dp nm cols) rfl (.inl rfl) (by decide);have her:=rf (name:=nm) cols 0 none;have e1:oB (ek nm) [] (cols.map kI)=match dp nm (cols.map kI)with
  | (c,e)=>if e≠0 then(0,e)else(match (cols.map kI)[c.toNat]? with
   |some c=>(c.kind,0)
   |none=>(0,0)):=rfl
 rw[hf]at e1;have e2:fK [ek nm] (cols.map kI)=match eY (cols.map kI) [ek nm] []with
  | (l,f)=>if f≠0 then(0,f)else(rB l,0):=rfl
 rw[ja,e1]at e2;have e3:mW (ek nm) [] (cols.map kI) (kR 0 cols.length)=match dp nm (cols.map kI)with
  | (c,_)=>some (oH (kR 0 cols.length) c):=rfl
 rw[hf]at e3;have e4:eI [ek nm] (cols.map kI) (kR 0 cols.length)=match fK [ek nm] (cols.map kI)with
  | (_,f)=>if f≠0 then(v0,f)else match fY (cols.map kI) (kR 0 cols.length) [ek nm] []with
   |some l=>(oA l,0)
   |none=>(v0,11):=rfl
 rw[mV]at e4;change (dp nm cols).2≠0->(dp nm cols).1=0 at her;generalize dp nm cols=P at *;obtain⟨c,e⟩:=P;by_cases h0:e=0
 ·subst h0;have hb:=jh rfl;obtain⟨x,hx⟩:=aE (xs:=cols) (i:=c.toNat) (by have:=hb.2;have:=hb.1;simp at *;omega);have hx2:(cols.map kI)[c.toNat]? =some (kI x):=by rw[List.getElem?_map,hx];rfl
  have Ay:fK [ek nm] (cols.map kI)=(2,0):=by rw[e2];simp only[hx2];rfl
  have hc:c.toNat<cols.length:=(List.getElem?_eq_some_iff.1 hx).1;have hv:oH (kR 0 cols.length) c=⟨2,c,b0⟩:=by rw[pg (tG cols.length 0 c.toNat hc) (by have:=hb.1;simp at *;omega)];congr 1;have:=hb.1;simp at *;omega
  refine⟨⟨2,c,b0⟩,?_,rfl⟩;have R9:mW (ek nm) [] (cols.map kI) (kR 0 cols.length)=some ⟨2,c,b0⟩:=by rw[e3];show some (oH _ c)=_;rw[hv]
  rw[e4,Ay,R9];rfl
 ·refine⟨v0,?_,(her h0).symm⟩;have Ay:fK [ek nm] (cols.map kI)=(0,e):=by rw[e2];simp[h0]
  rw[e4,Ay];simp[h0]
theorem Ge{nm:ByteArray}(hn:Nm nm){cols:List bS}(hc:∀c∈cols,Nm c.name){h:ad}{cb:Option Addr}{cn cc:Nat}(qc:Sl 165 bp h (.slice cb cn cc) cols){k:Value->ad->Prop}
 (hk:∀h',Le h h'->k (.tuple #[.int .i64 (dp nm cols).1,.int .i64 (dp nm cols).2]) h'):Ct 250 [.string nm,.slice cb cn cc] h k:=by
 obtain⟨A,hA⟩:=Ar.ex;have Nz:=qc.len;have hcb:=qc.bound;obtain⟨pv,hpv,Nk⟩:=DA (nm:=nm) (cols:=cols);rw[<-Nz]at hpv;rw[<-Nk]at hk;generalize (dp nm cols).2=pe at *;have hcK:∀c∈cols.map kI,Nm c.name:=fun c D9=>by
  obtain⟨c0,h1,h2⟩:=List.mem_map.1 D9;rw[<-h2];exact hc c0 h1
 have fR:∀v∈kR 0 cn,j8 v:=fun v hv=>by
  obtain⟨j,hj⟩:=List.getElem?_of_mem hv;have re:j<cn:=by have:=(List.getElem?_eq_some_iff.1 hj).1;rw[pB]at this;exact this
  rw[tG cn 0 j re]at hj;cases hj;show lV _=true;rw[fP];have zI:(2:Nat)^40=1099511627776:=rfl;show -9223372036854775808<=((0+j:Nat):Int)/\((0+j:Nat):Int)<=9223372036854775807;omega
 have hin2:∀v,0<=v/\v<(cn:Int)->aO v v.toNat:=fun v hv=>⟨by omega⟩;obtain⟨J,fD⟩:∃J:Option Addr×Nat×Nat->ad->Prop,∀g h',J g h'=(Le h h'/\cS 165 bp h h' (.slice g.1 cn g.2.1) cols/\dn 61 aY h' g.2.2 cn []/\h g.2.2=none):=⟨_,fun _ _=>rfl⟩;refine wz A [false,true] (ar Wv.aw Wv.aZ) Tryz.func250 rfl (by kernel_rfl) ?_;cbv;refine Aq.go (G:=Option Addr×Nat×Nat) (fun g=>[(6,.v (.slice g.1 cn g.2.1)),(7,.v (.slice (some ⟨g.2.2,0,none⟩) cn cn))]) (fun _=>[]) J ?_ ?_
 ·have first:∀h1 b' c',Le h h1->cS 165 bp h h1 (.slice b' cn c') cols->∀nb h2,h1 nb=none->Le h1 h2->dn 61 aY h2 nb cn []->J (b',c',nb) h2:=fun h1 b' c' l1 qb nb h2 f2 l2 o=>by
   rw[fD];exact⟨l1.trans l2,qb.mono (l2.t _),o,by
    cases hh:h nb with
    |none=>rfl
    |some x=>rw[l1 _ _ hh]at f2;cases f2⟩
  have second:∀nb h1,h nb=none->Le h h1->dn 61 aY h1 nb cn []->∀h2 b' c',Le h1 h2->cS 165 bp h1 h2 (.slice b' cn c') cols->J (b',c',nb) h2:=fun nb h1 f1 l1 o h2 b' c' l2 qb=>by
   rw[fD];exact⟨l1.trans l2,qb.base l1,o.mono (l2.t _),f1⟩
  clear fD hk;cbv;refine⟨?_,?_⟩
  ·refine(rk qc).mono (fun v h1 hR=>?_);obtain⟨l1,b',c',hv,qb⟩:=hR;subst hv;have first:=first h1 b' c' l1 qb
   cbv;refine⟨?_,?_⟩
   ·refine gV (s:=aY) rfl (by omega) (by decide) (fun nb h2 f2 l2 o=>?_);have ae:=first nb h2 f2 l2 o
    clear first second
    cbv;refine⟨(_,_,_),⟨?_,?_,?_⟩,ae⟩
    ·cbv
    ·cbv
    ·cbv
   ·refine gV (s:=aY) rfl (by omega) (by decide) (fun nb h2 f2 l2 o=>?_);have ae:=first nb h2 f2 l2 o
    clear first second
    cbv;refine⟨(_,_,_),⟨?_,?_,?_⟩,ae⟩
    ·cbv
    ·cbv
    ·cbv
  ·refine gV (s:=aY) rfl (by omega) (by decide) (fun nb h1 f1 l1 o=>?_);have second:=second nb h1 f1 l1 o;cbv;refine(rk (qc.mono (l1.t _))).mono (fun v h2 hR=>?_);obtain⟨l2,b',c',hv,qb⟩:=hR;subst hv;have ae:=second h2 b' c' l2 qb;clear first second
   cbv;refine⟨(_,_,_),⟨?_,?_,?_⟩,ae⟩
   ·cbv
   ·cbv
   ·cbv
 ·intro g h1 hg;rw[fD]at hg;obtain⟨gb,gc,rb⟩:=g;obtain⟨l1,qb,o,Cn⟩:=hg;replace qb:cS 165 bp h h1 (.slice gb cn gc) cols:=qb;replace o:dn 61 aY h1 rb cn []:=o;replace Cn:h rb=none:=Cn;have hL:∀h2,Le h h2->Sl 165 bp h2 (.slice gb cn gc) (cols.map kI)->Sl 61 aY h2 (.slice (some ⟨rb,0,none⟩) cn cn) (kR 0 cn)->∀h3 xb xn xc,Le h2 h3->Sl 325 cP h3 (.slice xb xn xc) [ek nm]->
   Ct 163 [.slice xb xn xc,.slice gb cn gc,.slice (some ⟨rb,0,none⟩) cn cn] h3 (fun r h4=>Le h h4/\r=.tuple #[pv.v,.int .i64 pe]):=fun h2 l2 s1 s2 h3 xb xn xc l3 sx=>AD (fun n hh=>by
    rcases List.mem_cons.1 hh with rfl|hh
    ·exact⟨hn,mg⟩
    ·cases hh) hcK fR sx (s1.mono (l3.t _)) (s2.mono (l3.t _)) (fun h4 v e w l4 hv hw=>by
     rw[hpv]at hv;cases hv;exact⟨l2.trans (l3.trans l4),by rw[hw]⟩)
  obtain⟨I,bm⟩:∃I:Nat->Int->ad->Prop,∀m z h',I m z h'=∃i,aO z i/\i<=cn/\m=cn-i/\Le h h'/\dn 61 aY h' rb cn (kR 0 i)/\(cn=0\/∃nb,gb=some ⟨nb,0,none⟩/\h nb=none/\dn 165 bp h' nb gc ((cols.take i).map kI++cols.drop i)):=⟨_,fun _ _ _=>rfl⟩;have hJ:I cn 0 h1:=by
   rw[bm];refine⟨0,⟨rfl⟩,Nat.zero_le _,rfl,l1,o,?_⟩;rcases qb.out with ⟨b0,g1,g2⟩ | ⟨nb,cap,g1,g2,o2⟩
   ·cases g1;exact .inl rfl
   ·cases g1;exact .inr ⟨nb,rfl,g2,o2⟩
  clear fD o qb;cbv;refine aX.go (G:=Int) (fun z=>[(18,.v (.int .i64 z))]) (fun _=>[]) (fun m z h'=>I m z h') cn 0 ⟨?_,?_,?_⟩ hJ ?_
  ·cbv
  ·cbv
  ·cbv
  ·intro m z h2 hI;rw[bm]at hI;cbv;obtain⟨i,hz,hi,hm,l2,orb,dk⟩:=hI;have f1:A .aD .lss z (A .nat cn)=decide (i<cn):=hz.gK (aO.nat cn);rw[f1];by_cases aG:i<cn
   ·obtain⟨nb,Nu,eJ,oc⟩:=dk.resolve_left (by omega);subst Nu;obtain⟨c,RY⟩:=aE (xs:=cols) (i:=i) (by omega);have hg:=Cc (f:=kI) RY;have kB:=Cb (f:=kI) RY;have hlen:((cols.take i).map kI++cols.drop i).length=cn:=by simp;omega
    generalize (cols.take i).map kI++cols.drop i=L at *;have cT:0<=z/\z<(cn:Int):=hz.ix aG;have ir:=hz.eq;have dS:=hz.succ (A:=A) (by omega);have kC:cn-(i+1)<m:=by omega
    have rY:=pB i 0;have EN:=vV i 0;rw[Nat.zero_add]at EN;have dc:∀h3,Le h h3->dn 61 aY h3 rb cn (kR 0 (i+1))->dn 165 bp h3 nb gc (L.set i (kI c))->I (cn-(i+1)) (A .bu .add .i64 z 1) h3:=fun h3 l3 o1 o2=>by
     rw[bm];exact⟨i+1,dS,aG,rfl,l3,o1,.inr ⟨nb,rfl,eJ,by rw[<-kB];exact o2⟩⟩
    clear bm hJ hL dS hk;rw[decide_eq_true aG];cbv;refine⟨⟨rfl,cT⟩,?_⟩;cbv;refine oc.FM (by decide) hg ir rfl (off:=1) (new:=[.int .i64 2]) (show 1+1<=3 by omega) (x':=kI c) (fun cs aF=>?_) (fun h3 k3 t3 oc3=>?_)
    ·obtain⟨CQ,E4,E3⟩:=c;have aF:cs=[.string CQ,.int .i64 E4,.bool E3]:=aF;subst aF;rfl
    ·have or3:=orb.mono (t3 _ (by decide));have l3:Le h h3:=l2.cO (fun b hb=>by rw[List.mem_singleton.1 hb];exact eJ) k3;clear oc orb;cbv;refine⟨⟨rfl,cT⟩,?_⟩;cbv;refine or3.store (by decide) (i:=i) (x:=⟨2,(i:Int),b0⟩) (by rw[rY];exact Nat.le_refl _) aG (by omega) ir rfl (by rw[ir];rfl) (fun h4 k4 t4 or4=>?_);rw[rY,if_neg (by omega),EN]at or4;have Cx:=dc h4 (l3.cO (fun b hb=>by rw[List.mem_singleton.1 hb];exact Cn) k4) or4 (oc3.mono (t4 _ (by decide)));clear dc;cbv;refine⟨cn-(i+1),A .bu .add .i64 z 1,kC,⟨?_,?_,?_⟩,Cx⟩
     ·cbv
     ·cbv
     ·cbv
   ·have jA:i=cn:=by omega
    subst jA;have s2:Sl 61 aY h2 (.slice (some ⟨rb,0,none⟩) i i) (kR 0 i):=orb.sl (pB i 0).symm;have s1:Sl 165 bp h2 (.slice gb i gc) (cols.map kI):=by
     rcases dk with h0| ⟨nb,Nu,eJ,oc⟩
     ·have:cols=[]:=List.length_eq_zero_iff.1 (by omega);subst this;subst h0;exact Sl.nil
     ·subst Nu;rw[List.take_of_length_le (by omega),List.drop_of_length_le (by omega),List.append_nil]at oc;exact oc.sl (by rw[List.length_map,Nz])
    have hV:=hL h2 l2 s1 s2;clear bm hJ hL;rw[decide_eq_false aG];cbv;refine OT nm (fun h3 xb xn xc l3 sx=>?_);cbv;refine(hV h3 xb xn xc l3 sx).mono (fun r h4 hR=>?_);obtain⟨l4,hr⟩:=hR;subst hr;have ae:=hk h4 l4;obtain⟨vk,vn,vs⟩:=pv;clear hk hV;cbv;exact ae
structure kL(h:ad)(qp:Nat)(x:aA)(cols:List bS)(y:Qy):Prop where
 out:∃b5 n5 c5 b6 n6 c6 b7 n7 c7 b8 n8 c8 b9 n9 c9 fJ iq fI cb cn cc,h qp=some (.cells #[.int .i64 x.kind,.string x.lM.name,.slice b5 n5 c5,.int .i64 x.lM.key,.bool x.lM.only,.string x.table,.string x.join,.slice b6 n6 c6,.slice b7 n7 c7,.slice b8 n8 c8,.slice b9 n9 c9,.slice fJ iq fI,.string x.group,.string x.order,.bool x.desc,.int .i64 x.gX,.string x.name,.slice cb cn cc,.int .i64 y.group,.int .i64 y.order,.bool y.mE] 188 (0,0))/\Sl 165 bp h (.slice b5 n5 c5) x.lM.cols/\Sl 325 cP h (.slice b6 n6 c6) x.on/\Sl 9 cK h (.slice b7 n7 c7) x.names/\Sl 42 fX h (.slice b8 n8 c8) x.exprs/\Sl 276 bV h (.slice b9 n9 c9) x.items/\Sl 325 cP h (.slice fJ iq fI) x.bT/\Sl 165 bp h (.slice cb cn cc) cols
theorem kL.elim{h:ad}{qp:Nat}{x:aA}{cols:List bS}{y:Qy}(q:kL h qp x cols y){p:Prop}(k:∀b5 n5 c5 b6 n6 c6 b7 n7 c7 b8 n8 c8 b9 n9 c9 fJ iq fI cb cn cc,h qp=some (.cells #[.int .i64 x.kind,.string x.lM.name,.slice b5 n5 c5,.int .i64 x.lM.key,.bool x.lM.only,.string x.table,.string x.join,.slice b6 n6 c6,.slice b7 n7 c7,.slice b8 n8 c8,.slice b9 n9 c9,.slice fJ iq fI,.string x.group,.string x.order,.bool x.desc,.int .i64 x.gX,.string x.name,.slice cb cn cc,.int .i64 y.group,.int .i64 y.order,.bool y.mE] 188 (0,0))->Sl 165 bp h (.slice b5 n5 c5) x.lM.cols->Sl 325 cP h (.slice b6 n6 c6) x.on->Sl 9 cK h (.slice b7 n7 c7) x.names->Sl 42 fX h (.slice b8 n8 c8) x.exprs->Sl 276 bV h (.slice b9 n9 c9) x.items->Sl 325 cP h (.slice fJ iq fI) x.bT->Sl 165 bp h (.slice cb cn cc) cols->p):p:=by obtain⟨b5,n5,c5,b6,n6,c6,b7,n7,c7,b8,n8,c8,b9,n9,c9,fJ,iq,fI,cb,cn,cc,g,q1,q2,q3,q4,q5,q6,q7⟩:=q.out;exact k b5 n5 c5 b6 n6 c6 b7 n7 c7 b8 n8 c8 b9 n9 c9 fJ iq fI cb cn cc g q1 q2 q3 q4 q5 q6 q7
theorem kL.lt{h h':ad}{qp:Nat}{x:aA}{cols:List bS}{y:Qy}(q:kL h qp x cols y)(hb:h' qp=h qp)(l:cG mh h h'):kL h' qp x cols y:=by obtain⟨b5,n5,c5,b6,n6,c6,b7,n7,c7,b8,n8,c8,b9,n9,c9,fJ,iq,fI,cb,cn,cc,g,q1,q2,q3,q4,q5,q6,q7⟩:=q.out;exact⟨b5,n5,c5,b6,n6,c6,b7,n7,c7,b8,n8,c8,b9,n9,c9,fJ,iq,fI,cb,cn,cc,hb.trans g,q1.mono (l.sub (by decide)),q2.mono (l.sub (by decide)),q3.mono (l.sub (by decide)),q4.mono (l.sub (by decide)),q5.mono (l.sub (by decide)),q6.mono (l.sub (by decide)),q7.mono (l.sub (by decide))⟩
theorem kL.mono{h h':ad}{qp:Nat}{x:aA}{cols:List bS}{y:Qy}(q:kL h qp x cols y)(l:Le h h'):kL h' qp x cols y:=by refine q.lt ?_ (l.t _);obtain⟨b5,n5,c5,b6,n6,c6,b7,n7,c7,b8,n8,c8,b9,n9,c9,fJ,iq,fI,cb,cn,cc,g,-⟩:=q.out;rw[g];exact l _ _ g
theorem kL.has{h:ad}{qp:Nat}{x:aA}{cols:List bS}{y:Qy}(q:kL h qp x cols y):∃c,h qp=some (.cells c 188 (0,0)):=by obtain⟨b5,n5,c5,b6,n6,c6,b7,n7,c7,b8,n8,c8,b9,n9,c9,fJ,iq,fI,cb,cn,cc,g,-⟩:=q.out;exact⟨_,g⟩
theorem CO{h:ad}{qp:Nat}{x:aA}{cols:List bS}{y:Qy}(q:kL h qp x cols y)(hc:∀c∈cols,Nm c.name){nm:ByteArray}(hn:Nm nm){k:Value->ad->Prop}
 (hk:∀h',Le h h'->k (.tuple #[.int .i64 (aT nm cols).1,.int .i64 (aT nm cols).2]) h'):Ct 181 [.pointer (some ⟨qp,0,none⟩),.string nm] h k:=by
 obtain⟨A,hA⟩:=Ar.ex;have hP:aT nm cols=if nm=b0 then(-1,0)else dp nm cols:=rfl
 have f1:A .jm .eql nm ⟨#[]⟩=decide (nm=b0):=bL A ..;refine q.elim (fun b5 n5 c5 b6 n6 c6 b7 n7 c7 b8 n8 c8 b9 n9 c9 fJ iq fI cb cn cc g q1 q2 q3 q4 q5 q6 q7=>?_);clear q1 q2 q3 q4 q5 q6;generalize aT nm cols=D at *;refine af A (ar Xc.aw Xc.aZ) Tryz.func181 rfl (by kernel_rfl) ?_;cbv;rw[f1];by_cases h0:nm=b0
 ·rw[if_pos h0]at hP;subst hP;have ae:=hk h (Le.refl _);clear hk;rw[decide_eq_true h0];cbv;exact ae
 ·rw[if_neg h0]at hP;rw[hP]at hk;rw[decide_eq_false h0];cbv;repeat (first| (rw[aj A,aj A];refine ay g rfl rfl ?_;cbv) | (rw[aj A];refine ay g rfl rfl ?_;cbv) | (refine ay g rfl rfl ?_;cbv) | (refine⟨⟨_,rfl,rfl⟩,?_⟩;cbv))
  refine Ge hn hc q7 (fun h1 l1=>?_);have ae:=hk h1 l1;clear hk hP;generalize dp nm cols=E at *;obtain⟨e1,e2⟩:=E;cbv;exact ae
theorem Tj{h:ad}{qp:Nat}{x:aA}{cols:List bS}{y:Qy}(q:kL h qp x cols y)(hc:∀c∈cols,Nm c.name){i:dq}(hi:nD i.e){ib:Option Addr}{im ic:Nat}(qi:Sl 325 cP h (.slice ib im ic) i.e){k:Value->ad->Prop}
 (hk:∀h',Le h h'->k (.int .i64 (fG cols i)) h'):Ct 179 [.pointer (some ⟨qp,0,none⟩),.agg #[.int .i64 i.fn,.slice ib im ic]] h k:=by
 obtain⟨A,hA⟩:=Ar.ex;have hP:fG cols i=if i.fn=1 then 0 else if i.fn=2 then iV i.e cols 2 else(fK i.e cols).2:=rfl
 have f1:A .aD .eql i.fn 1=decide (i.fn=1):=av A ..;have f2:A .aD .eql i.fn 2=decide (i.fn=2):=av A ..;refine q.elim (fun b5 n5 c5 b6 n6 c6 b7 n7 c7 b8 n8 c8 b9 n9 c9 fJ iq fI cb cn cc g q1 q2 q3 q4 q5 q6 q7=>?_);clear q1 q2 q3 q4 q5 q6;generalize fG cols i=D at *;obtain⟨fn,ie⟩:=i;replace hi:nD ie:=hi;replace f1:A .aD .eql fn 1=decide (fn=1):=f1;replace f2:A .aD .eql fn 2=decide (fn=2):=f2;replace hP:D=if fn=1 then 0 else if fn=2 then iV ie cols 2 else(fK ie cols).2:=hP
 refine af A (ar Xe.aw Xe.aZ) Tryz.func179 rfl (by kernel_rfl) ?_;cbv;rw[f1];by_cases h1:fn=1
 ·rw[if_pos h1]at hP;subst hP;have ae:=hk h (Le.refl _);clear hk;rw[decide_eq_true h1];cbv;exact ae
 rw[if_neg h1]at hP;rw[decide_eq_false h1];cbv;rw[f2];by_cases h2:fn=2
 ·rw[if_pos h2]at hP;rw[decide_eq_true h2];cbv;repeat (first| (rw[aj A,aj A];refine ay g rfl rfl ?_;cbv) | (rw[aj A];refine ay g rfl rfl ?_;cbv) | (refine ay g rfl rfl ?_;cbv) | (refine⟨⟨_,rfl,rfl⟩,?_⟩;cbv))
  refine Ci hi hc 2 qi q7 (fun h1 e l1 he=>?_);rw[<-hP]at he;subst he;have ae:=hk h1 l1;clear hk hP;cbv;exact ae
 ·rw[if_neg h2]at hP;rw[decide_eq_false h2];cbv;repeat (first| (rw[aj A,aj A];refine ay g rfl rfl ?_;cbv) | (rw[aj A];refine ay g rfl rfl ?_;cbv) | (refine ay g rfl rfl ?_;cbv) | (refine⟨⟨_,rfl,rfl⟩,?_⟩;cbv))
  refine I4 (fun n hh=>(hi n hh).1) hc qi q7 (fun h1 a e l1 he=>?_);rw[<-he]at hP;subst hP;have ae:=hk h1 l1;clear hk he;cbv;exact ae
theorem zJ(cols:List bS)(yg fn:Int)(ie:List Nd):bh cols yg ⟨fn,ie⟩=if fn≠0 then 0 else if yg<0 then 3 else match ie with
 | [n]=>if n.op≠2 then 3 else match dp n.name cols with
  | (k,e)=>if e≠0\/k≠yg then 3 else 0
 |_=>3:=rfl
theorem pT{h:ad}{qp:Nat}{x:aA}{cols:List bS}{y:Qy}(q:kL h qp x cols y)(hc:∀c∈cols,Nm c.name){i:dq}(hi:nD i.e){ib:Option Addr}{im ic:Nat}(qi:Sl 325 cP h (.slice ib im ic) i.e){k:Value->ad->Prop}
 (hk:∀h',Le h h'->k (.int .i64 (bh cols y.group i)) h'):Ct 187 [.pointer (some ⟨qp,0,none⟩),.agg #[.int .i64 i.fn,.slice ib im ic]] h k:=by
 obtain⟨A,hA⟩:=Ar.ex;have ES:=qi.len;have f1:A .aD .neq i.fn 0=decide (i.fn≠0):=aC A ..;have f2:A .aD .lss y.group 0=decide (y.group<0):=bt A ..;have f3:A .aD .neq (A .nat im) 1=decide (im≠1):=by rw[aC A,hA.nat,decide_eq_decide,Int.ofNat_eq_natCast];omega
 refine q.elim (fun b5 n5 c5 b6 n6 c6 b7 n7 c7 b8 n8 c8 b9 n9 c9 fJ iq fI cb cn cc g q1 q2 q3 q4 q5 q6 q7=>?_);clear q1 q2 q3 q4 q5 q6;obtain⟨fn,ie⟩:=i;obtain⟨yg,yo,ya⟩:=y;replace hi:nD ie:=hi;replace f1:A .aD .neq fn 0=decide (fn≠0):=f1;replace f2:A .aD .lss yg 0=decide (yg<0):=f2;replace qi:Sl 325 cP h (.slice ib im ic) ie:=qi;replace ES:im=ie.length:=ES;have hP:=zJ cols yg fn ie;replace hk:∀h',Le h h'->k (.int .i64 (bh cols yg ⟨fn,ie⟩)) h':=hk;generalize bh cols yg ⟨fn,ie⟩=D at *;refine af A (ar W7.aw W7.aZ) Tryz.func187 rfl (by kernel_rfl) ?_;cbv;rw[f1];by_cases h1:fn≠0
 ·rw[if_pos h1]at hP;subst hP;have ae:=hk h (Le.refl _);clear hk;rw[decide_eq_true h1];cbv;exact ae
 rw[if_neg h1]at hP;rw[decide_eq_false h1];cbv;repeat (first| (rw[aj A,aj A];refine ay g rfl rfl ?_;cbv) | (rw[aj A];refine ay g rfl rfl ?_;cbv) | (refine ay g rfl rfl ?_;cbv) | (refine⟨⟨_,rfl,rfl⟩,?_⟩;cbv))
 rw[f2];by_cases h2:yg<0
 ·rw[if_pos h2]at hP;subst hP;have ae:=hk h (Le.refl _);clear hk;rw[decide_eq_true h2];cbv;exact ae
 rw[if_neg h2]at hP;rw[decide_eq_false h2];cbv;rw[f3];by_cases h3:im≠1
 ·have hP:D=3:=by
   rw[hP]
   match ie,ES with
   | [],_=>rfl
   | [n],hm=>exact absurd hm h3
   |a::b::l,_=>rfl
  subst hP;have ae:=hk h (Le.refl _);clear hk;rw[decide_eq_true h3];cbv;exact ae
 have Qm:im=1:=Decidable.not_not.1 h3;obtain⟨n,jA⟩:∃n,ie=[n]:=by
  match ie,ES with
  | [],hm=>rw[Qm]at hm;cases hm
  | [n],hm=>exact⟨n,rfl⟩
  |a::b::l,hm=>rw[Qm]at hm;simp at hm
 subst jA;replace hP:D=if n.op≠2 then 3 else match dp n.name cols with
  | (k,e)=>if e≠0\/k≠yg then 3 else 0:=hP
 have hx:[n][0]? =some n:=rfl;have cT:ib.isSome=true/\(0:Int)<=0/\(0:Int)<(im:Int):=⟨qi.bF (by omega),by omega,by omega⟩;have fo:A .aD .neq n.op 2=decide (n.op≠2):=aC A ..;rw[decide_eq_false h3];cbv;refine⟨cT,?_⟩;cbv;refine qi.fF hx rfl (o:=0) (m:=1) (by decide) (fun cs aF=>?_);obtain⟨op,na,nb,⟨vk,vn,vs⟩,SU⟩:=n;have aF:cs=[.int .i64 op,.int .i64 na,.int .i64 nb,.int .i64 vk,.int .i64 vn,.string vs,.string SU]:=aF;subst aF;replace fo:A .aD .neq op 2=decide (op≠2):=fo;replace hP:D=if op≠2 then 3 else match dp SU cols with
  | (k,e)=>if e≠0\/k≠yg then 3 else 0:=hP
 have Bl:Nm SU:=(hi _ List.mem_cons_self).1;cbv;rw[fo];by_cases h4:op≠2
 ·rw[if_pos h4]at hP;subst hP;have ae:=hk h (Le.refl _);clear hk;rw[decide_eq_true h4];cbv;exact ae
 rw[if_neg h4]at hP;rw[decide_eq_false h4];cbv;refine⟨cT,?_⟩;cbv;refine qi.fF hx rfl (o:=6) (m:=1) (by decide) (fun cs aF=>?_);have aF:cs=[.int .i64 op,.int .i64 na,.int .i64 nb,.int .i64 vk,.int .i64 vn,.string vs,.string SU]:=aF;subst aF;cbv;repeat (first| (rw[aj A,aj A];refine ay g rfl rfl ?_;cbv) | (rw[aj A];refine ay g rfl rfl ?_;cbv) | (refine ay g rfl rfl ?_;cbv) | (refine⟨⟨_,rfl,rfl⟩,?_⟩;cbv))
 refine Ge Bl hc q7 (fun h5 l5=>?_);generalize dp SU cols=E at *;obtain⟨e1,e2⟩:=E;replace hP:D=if e2≠0\/e1≠yg then 3 else 0:=hP
 have g5:=l5 _ _ g;have hk:=fun z (hz:z=D)=>(by rw[hz];exact hk h5 l5:k (.int .i64 z) h5);have f5:A .aD .neq e2 0=decide (e2≠0):=aC A ..;have f6:A .aD .neq e1 yg=decide (e1≠yg):=aC A ..;cbv;rw[f5];by_cases h5':e2≠0
 ·rw[if_pos (.inl h5')]at hP;have ae:=hk 3 hP.symm;clear hk;rw[decide_eq_true h5'];cbv;exact ae
 ·rw[decide_eq_false h5'];cbv;repeat (first| (rw[aj A,aj A];refine ay g5 rfl rfl ?_;cbv) | (rw[aj A];refine ay g5 rfl rfl ?_;cbv) | (refine ay g5 rfl rfl ?_;cbv) | (refine⟨⟨_,rfl,rfl⟩,?_⟩;cbv))
  rw[f6];by_cases h6:e1≠yg
  ·rw[if_pos (.inr h6)]at hP;have ae:=hk 3 hP.symm;clear hk;rw[decide_eq_true h6];cbv;exact ae
  ·rw[if_neg (by rintro(g|g)<;>contradiction)]at hP;have ae:=hk 0 hP.symm;clear hk;rw[decide_eq_false h6];cbv;exact ae
end Go.S
