import Derived.Test.YtekoaiendgjkdaaGreatQB
import Derived.Test.YtekoaiendgjkdaaGreatRd
import Derived.Test.YtekoaiendgjkdaaGreatSxC
set_option linter.unusedVariables false
set_option linter.unusedSimpArgs false
set_option linter.unusedSectionVars false
set_option maxRecDepth 100000
set_option maxHeartbeats 8000000
namespace Go.S
open Go.Sx Go.Proofs
def Bx{α:Type}(e:Nat)(s:Sh α)(B h:ad)(nb:Option Nat)(v:Value)(xs:List α):Prop:=
 (nb=none/\v=.slice none 0 0/\xs=[])\/∃j cap,nb=some j/\v=.slice (some ⟨j,0,none⟩) xs.length cap/\B j=none/\dI e s h j cap xs
theorem Bx.sl{α:Type}{e:Nat}{s:Sh α}{B h:ad}{nb:Option Nat}{v:Value}{xs:List α}(q:Bx e s B h nb v xs):Sl e s h v xs:=by
 rcases q with ⟨_,rfl,rfl⟩ | ⟨j,cap,_,rfl,_,o⟩
 ·exact Sl.nil
 ·exact o.sl rfl
theorem Bx.buf{α:Type}{e:Nat}{s:Sh α}{B h:ad}{nb:Option Nat}{v:Value}{xs:List α}(q:Bx e s B h nb v xs):cX e s B h v xs:=by
 rcases q with ⟨_,rfl,rfl⟩ | ⟨j,cap,_,rfl,hb,o⟩
 ·exact cX.nil
 ·exact o.buf hb rfl
theorem Bx.mono{α:Type}{e:Nat}{s:Sh α}{B h h':ad}{nb:Option Nat}{v:Value}{xs:List α}(q:Bx e s B h nb v xs)(l:cF (e::s.tys) h h'):Bx e s B h' nb v xs:=by
 rcases q with ⟨h1,h2,h3⟩ | ⟨j,cap,h1,h2,h3,o⟩
 ·exact .inl ⟨h1,h2,h3⟩
 ·exact .inr ⟨j,cap,h1,h2,h3,o.mono l⟩
theorem Bx.has{α:Type}{e:Nat}{s:Sh α}{B h:ad}{j:Nat}{v:Value}{xs:List α}(q:Bx e s B h (some j) v xs):∃c fr,h j=some (.cells c e fr):=by
 rcases q with ⟨h1,-⟩ | ⟨j',cap,h1,-,-,o⟩
 ·cases h1
 ·cases h1;obtain⟨c,g,-⟩:=o.out;exact⟨_,_,g⟩
theorem Bx.app{α:Type}{e:Nat}{s:Sh α}{B h:ad}{nb:Option Nat}{b x:Option Addr}{len cap cx:Nat}{xs:List α}{y:α}(q:Bx e s B h nb (.slice b len cap) xs)(qv:Sl e s h (.slice x 1 cx) [y])(he:e∉s.tys){size bytes:Nat}(kf:size=s.n)(pE:bytes<=128)(hn:len+1<=2^39)(vQ:Le B h)
 {k:Value->ad->Prop} (hk:∀j m c' h',Le B h'->Kp nb.toList h h'->cF s.tys h h'->(nb=some j\/h j=none)->Bx e s B h' (some j) (.slice (some ⟨j,0,none⟩) m c') (xs++[y])->k (.slice (some ⟨j,0,none⟩) m c') h'):
 gD h b len cap x 1 size bytes e k:=by
 have hlen:=q.sl.len;refine q.buf.Qh qv he kf pE hn vQ (fun m b' c' h' em l Kk hb nj=>?_);have sA:∀j,b=some ⟨j,0,none⟩->nb=some j:=fun j hj=>by
  rcases q with ⟨_,h2,_⟩ | ⟨j',eV,h1,h2,_,_⟩
  ·cases h2;cases hj
  ·cases h2;cases hj;exact h1
 obtain⟨j,e1,e2,e3,o⟩:=hb.own (by omega);subst e1;have kp:Kp nb.toList h h':=fun i o' hi eW=>Kk i o' hi (fun e=>eW (by rw[sA i e];simp));have lt:cF s.tys h h':=fun i d e' fr hm hi=>Kk i _ hi (fun e1=>by
  have:=sA i e1;subst this;obtain⟨c,Iz,g⟩:=q.has;rw[g]at hi;cases hi;exact he hm)
 refine hk j m c' h' l kp lt ?_ (.inr ⟨j,c',rfl,by rw[<-e3],e2,o⟩);rcases nj j rfl with h1|h1|h1
 ·exact .inl (sA j h1)
 ·exact .inr h1
 ·omega
def blkL:Value->List Nat
 | .slice (some a) _ _=>[a.block]
 |_=>[]
structure TwoB{α:Type}(e:Nat)(s:Sh α)(B h:ad)(v1:Value)(xs:List α)(v2:Value)(ys:List α):Prop where
 out:∃o1 o2,Bx e s B h o1 v1 xs/\Bx e s B h o2 v2 ys/\∀j,o1=some j->o2≠some j
def chStep(w:List Nd)(cols:List bT)(f:Row->Row×Int)(r:Row)(xs ys:List Row):(List Row×List Row)×Int:=match dL w cols r with
 | (is,e)=>if e≠0 then((xs,ys),e)else if is=false then((xs,ys),0)else((xs++[r],ys++[(f r).1]),(f r).2)
structure CSt(B h:ad)(rp fp:Nat)(xs ys:List Row):Prop where
 out:∃b1 n1 c1 b2 n2 c2,h rp=some (.cells #[.slice b1 n1 c1] 34 (0,0))/\h fp=some (.cells #[.slice b2 n2 c2] 34 (0,0))/\TwoB 59 aL B h (.slice b1 n1 c1) xs (.slice b2 n2 c2) ys
 le:Le B h
 n1:B rp=none
 n2:B fp=none
 ne:rp≠fp
theorem pz{s:ByteArray}:W5 s↔∀c∈s.data.toList,c.toNat<128:=by
 constructor
 ·intro h c hc;obtain⟨i,hi,rfl⟩:=List.mem_iff_getElem.1 hc;have:=h i (by simpa using hi);rw[Array.getD_eq_getD_getElem?]at this;rw[Array.getElem?_eq_getElem (by simpa using hi)]at this;simpa using this
 ·intro h i hi;have tP:i<s.data.size:=hi;rw[Array.getD_eq_getD_getElem?,Array.getElem?_eq_getElem tP];exact h _ (by simp)
theorem FV{a b:ByteArray}(ha:W5 a)(hb:W5 b):W5 (a++b):=by
 rw[pz]at *;intro c hc;have e:(a++b).data=a.data++b.data:=by simp
 rw[e,Array.toList_append]at hc;rcases List.mem_append.1 hc with hc|hc
 ·exact ha c hc
 ·exact hb c hc
structure Mv(s:ByteArray):Prop where
 XS:W5 s
 sz:s.size<=2^30
theorem Mv.nm{s:ByteArray}(h:Mv s):Nm s:=⟨h.XS,by have:=h.sz;omega⟩
theorem sd{nm:ByteArray}(h:Mv nm){c:bT}(hc:Mv c.name):Nm (ny nm c).name:=by
 refine⟨FV (FV h.XS (fun i hi=>?_)) hc.XS,?_⟩
 ·have:i<1:=hi;have:i=0:=by omega
  subst this;decide
 ·show(nm++ax [46]++c.name).size<=_;rw[ByteArray.size_append,ByteArray.size_append];have e:(ax [46]).size=1:=rfl;have:=h.sz;have:=hc.sz;omega
open Go.Sx
structure gE(P:Row->Prop)(Pn:ByteArray->Prop)(d:DB):Prop where
 nm:∀t∈d.aE,Pn t.S.name
 rows:∀t∈d.aE,∀r∈t.rows,P r
 log:∀w∈d.au,∀c∈w.log,P c.row
section
variable {P:Row->Prop}{Pn:ByteArray->Prop}
theorem uV{t:cE}{r x:Row}(h:x∈(bI t r).1.rows):x=r\/x∈t.rows:=by
 unfold bI at h;split at h
 ·exact .inr h
 ·split at h
  ·exact .inr h
  ·split at h
   ·exact .inr h
   ·have h:x∈t.rows.take _++[r]++t.rows.drop _:=h;simp only[List.append_assoc,List.mem_append,List.mem_singleton]at h;rcases h with h|h|h
    ·exact .inr (List.mem_of_mem_take h)
    ·exact .inl h
    ·exact .inr (List.mem_of_mem_drop h)
theorem A5{t:cE}{k:dg}{x:Row}(h:x∈(cK t k).1.rows):x∈t.rows:=by
 unfold cK at h;split at h
 ·have h:x∈t.rows.take _++t.rows.drop _:=h;rcases List.mem_append.1 h with h|h
  ·exact List.mem_of_mem_take h
  ·exact List.mem_of_mem_drop h
 ·exact h
def wW(P:Row->Prop)(Pn:ByteArray->Prop)(T:List cE):Prop:=∀t∈T,Pn t.S.name/\∀r∈t.rows,P r
theorem wW.set{T:List cE}(h:wW P Pn T){i:Nat}{t:cE}(ht:Pn t.S.name/\∀r∈t.rows,P r):wW P Pn (T.set i t):=fun x hx=>by
 rcases List.mem_or_eq_of_mem_set hx with hx|hx
 ·exact h x hx
 ·rw[hx];exact ht
theorem NG{T:List cE}{x:iX}(h:wW P Pn T)(hx:P x.row):wW P Pn (jc T x):=by
 unfold jc;split
 ·split
  ·rename_i t ht;have Hc:=h t (List.mem_of_getElem? ht);split
   ·refine h.set ⟨by rw[qQ];exact Hc.1,fun r hr=>?_⟩;rcases uV hr with hr|hr
    ·rw[hr];exact hx
    ·exact Hc.2 r hr
   ·split
    ·exact h.set ⟨by rw[xX];exact Hc.1,fun r hr=>Hc.2 r (A5 hr)⟩
    ·exact h
  ·exact h
 ·exact h
theorem EH{T:List cE}(h:wW P Pn T):∀ {l:List iX},(∀c∈l,P c.row)->wW P Pn (fS T l)
 | [],_=>h
 |x::l,hl=>NG (EH h fun c hc=>hl c (List.mem_cons_of_mem _ hc)) (hl x List.mem_cons_self)
theorem gE.tab{d:DB}(q:gE P Pn d):wW P Pn d.aE:=fun t ht=>⟨q.nm t ht,q.rows t ht⟩
theorem gE.of{d:DB}(h:wW P Pn d.aE)(hl:∀w∈d.au,∀c∈w.log,P c.row):gE P Pn d:=⟨fun t ht=>(h t ht).1,fun t ht=>(h t ht).2,hl⟩
theorem P9{T:List cE}{ws:List dO}{s:Int}(h:wW P Pn T)(hl:∀w∈ws,∀c∈w.log,P c.row):wW P Pn (oW T ws s):=by
 unfold oW;split
 ·split
  ·rename_i w hw;exact EH h (hl w (List.mem_of_getElem? hw))
  ·exact h
 ·exact h
theorem gE.back{d:DB}(q:gE P Pn d)(s:Int):gE P Pn (kZ d s):=
 gE.of (P9 q.tab q.log) fun w hw=>q.log w ((wB d.au s).subset hw)
theorem gE.yy{d:DB}(q:gE P Pn d){H W:List bZ}:gE P Pn ⟨d.aE,d.au,H,W⟩:=⟨q.nm,q.rows,q.log⟩
theorem gE.gH{hd:bZ}:∀(f:Nat) {d:DB},gE P Pn d->gE P Pn (gH f d hd).1
 |0,d,q=>q
 |f+1,d,q=>by
  unfold Go.S.gH;repeat' split
  all_goals first
   |exact gE.gH f (gE.back (gE.yy q) _)
   |exact gE.back (gE.yy q) _
   |exact gE.yy q
theorem gE.ay{d:DB}(q:gE P Pn d)(hd:bZ):gE P Pn (ay d hd).1:=by
 unfold Go.S.ay;split
 ·exact q.gH _
 ·exact q
theorem gE.au{d:DB}(q:gE P Pn d){i:Nat}{w:dO}(hw:∀c∈w.log,P c.row):∀x∈d.au.set i w,∀c∈x.log,P c.row:=fun x hx=>by
 rcases List.mem_or_eq_of_mem_set hx with hx|hx
 ·exact q.log x hx
 ·rw[hx];exact hw
theorem gE.eT{d:DB}(q:gE P Pn d)(hd:bZ){act:cE->cE×iX×Int}(ha:∀t,Pn t.S.name->(∀r∈t.rows,P r)->Pn (act t).1.S.name/\(∀r∈(act t).1.rows,P r)/\P (act t).2.1.row):gE P Pn (eT d hd act).1:=by
 have qh:=q.ay hd;unfold Go.S.eT;split
 ·exact qh
 ·split
  ·rename_i t w ht hw;have Hc:=List.mem_of_getElem? ht;have Uz:=List.mem_of_getElem? hw;have hat:=ha t (qh.nm t Hc) (qh.rows t Hc);split
   ·exact qh
   ·split
    ·refine gE.of (qh.tab.set ⟨hat.1,hat.2.1⟩) (qh.au fun c hc=>?_);have hc:c∈w.log++[_]:=hc;rcases List.mem_append.1 hc with hc|hc
     ·exact qh.log w Uz c hc
     ·rcases List.mem_cons.1 hc with hc|hc
      ·rw[hc];exact hat.2.2
      ·cases hc
    ·exact qh
  ·exact qh
theorem gE.fv{d:DB}(q:gE P Pn d)(s:Int)(nm:ByteArray){r:Row}(hr:P r):gE P Pn (fv d s nm r).1:=
 q.eT _ fun t h1 h2=>⟨by show Pn (bI t r).1.S.name;rw[qQ];exact h1,fun x hx=>by
  rcases uV hx with hx|hx
  ·rw[hx];exact hr
  ·exact h2 x hx,hr⟩
end
theorem wq{c:bT}{v:dg}(h:bP c v=0):cQ v=0/\(v.k=0->c.null=true)/\(v.k=0\/v.k=c.kind):=by
 unfold bP at h;by_cases h1:cQ v=0
 ·rw[h1]at h;refine⟨h1,?_,?_⟩
  ·intro hk;cases hn:c.null with
   |true=>rfl
   |false=>simp[hk,hn]at h
  ·by_cases hk:v.k=0
   ·exact .inl hk
   ·by_cases nh:v.k=c.kind
    ·exact .inr nh
    ·simp[hk,nh]at h
 ·simp[h1]at h
theorem xQ{v:dg}(h:cQ v=0):nE v (jN v)=true/\v.s.size<=60:=by
 unfold cQ at h;split at h
 ·cases h
 ·split at h
  ·cases h
  ·rename_i h2;split at h
   ·cases h
   ·rename_i h3;have qA:¬((v.s.size:Int)>60):=by simpa using h3
    refine⟨?_,by omega⟩;cases hs:nE v (jN v)with
    |true=>rfl
    |false=>rw[hs]at h2;simp at h2
theorem Eh{r:Row}(h:bV bB r=0):lN r:=by
 unfold bV at h;split at h
 ·cases h
 ·rename_i hl;have hl:r.length=2:=by
   have:(r.length:Int)=(bB.length:Int):=by simpa using hl
   have e:bB.length=2:=rfl;rw[e]at this;omega
  match r,hl with
  | [a,b],_=>
   have h:dC [bP ⟨nA,2,false⟩ a,bP ⟨⟨#[98]⟩,3,true⟩ b]=0:=h;have h1:bP ⟨nA,2,false⟩ a=0:=by
    by_cases c:bP ⟨nA,2,false⟩ a=0
    ·exact c
    ·simp[dC,c]at h
   have h2:bP ⟨⟨#[98]⟩,3,true⟩ b=0:=by
    rw[h1]at h;by_cases c:bP ⟨⟨#[98]⟩,3,true⟩ b=0
    ·exact c
    ·simp[dC,c]at h
   obtain⟨ak,an,sa⟩:=a;obtain⟨bk,bn,sb⟩:=b;obtain⟨v1,n1,k1⟩:=wq h1;obtain⟨v2,n2,k2⟩:=wq h2;have k1:ak=2:=by
    rcases k1 with k|k
    ·exact absurd (n1 k) (by decide)
    ·exact k
   subst k1;obtain⟨s1,-⟩:=xQ v1;obtain⟨s2,z2⟩:=xQ v2;have e1:sa=pJ:=by simp[nE,jN]at s1;exact s1
   subst e1;refine⟨an,⟨bk,bn,sb⟩,rfl,?_⟩;rcases k2 with k|k
   ·have k:bk=0:=k;subst k;simp[nE,jN]at s2;left;rw[s2.1];have:sb=pJ:=s2.2;rw[this]
   ·have k:bk=3:=k;subst k;simp[nE,jN]at s2;right;exact⟨sb,by rw[s2],z2⟩
theorem Cu{d:DB}{hd:bZ}{act:cE->cE×iX×Int}(h:∀t∈(ay d hd).1.aE,(act t).2.2≠0):(eT d hd act).1=(ay d hd).1:=by
 unfold eT;split
 ·rfl
 ·split
  ·rename_i t w ht hw;have:=h t (List.mem_of_getElem? ht);split
   ·rfl
   ·rw[if_neg (by simpa using this)]
  ·rfl
theorem NR{n:Nat}{d:DB}(q:SJ n d)(s:Int)(nm:ByteArray)(r:Row)(hs:-2^63<=s/\s<2^63):SJ (n+1) (fv d s nm r).1:=by
 by_cases h:bV bB r=0
 ·exact Su q s nm hs (.inl (Eh h))
 ·have hh:=uB q ⟨s,nm,true⟩ hs;have:(fv d s nm r).1=(ay d ⟨s,nm,true⟩).1:=Cu fun t ht=>by
   have hc:=(hh.sc.tw.ok t ht).1;show(bI t r).2≠0;unfold bI;rw[hc,if_pos (by simpa using h)];exact h
  rw[this];exact hh
def fM(r:Row):Prop:=∀v∈r,lj v
structure EJ(n:Nat)(d:DB):Prop where
 sj:SJ n d
 al:gE fM Mv d
theorem EJ.le{n m:Nat}{d:DB}(q:EJ n d)(h:n<=m):EJ m d:=⟨q.sj.le h,q.al⟩
theorem EJ.hold{n:Nat}{d:DB}(q:EJ n d)(hd:bZ)(hs:-2^63<=hd.s/\hd.s<2^63):EJ (n+1) (ay d hd).1:=⟨uB q.sj hd hs,q.al.ay hd⟩
theorem EJ.put{n:Nat}{d:DB}(q:EJ n d){s:Int}(nm:ByteArray){r:Row}(hs:-2^63<=s/\s<2^63)(hr:fM r):EJ (n+1) (fv d s nm r).1:=⟨NR q.sj s nm r hs,q.al.fv s nm hr⟩
structure R4(T:cE):Prop where
 nm:Mv T.S.name
 cols:T.S.cols=bB\/(T.S.cols=[]/\T.rows=[])
 key:T.S.key=0
 row:∀r∈T.rows,lN r/\fM r
 len:T.rows.length<=200
theorem uF{l:By}(h:∀c∈l,c.toNat<128)(hl:l.length<=2^30):Mv (ax l):=⟨pz.2 h,hl⟩
theorem Gp:∀c∈bB,Mv c.name:=by
 intro c hc;rcases List.mem_cons.1 hc with rfl|hc
 ·exact uF (l:=[97]) (by decide) (by decide)
 ·rcases List.mem_cons.1 hc with rfl|hc
  ·exact uF (l:=[98]) (by decide) (by decide)
  ·cases hc
theorem R4.uN{T:cE}(h:R4 T):∀c∈T.S.cols,Mv c.name:=by
 rcases h.cols with e| ⟨e,-⟩
 ·rw[e];exact Gp
 ·rw[e];intro c hc;cases hc
theorem EJ.held{n:Nat}{d:DB}(q:EJ n d)(nm:ByteArray):R4 (bO d nm):=by
 unfold bO;cases h:d.aE.find? fun t=>decide (t.S.name=nm)with
 |none=>exact⟨uF (l:=[]) (fun _ h=>by cases h) (by decide),.inr ⟨rfl,rfl⟩,rfl,(fun _ h=>by cases h),Nat.zero_le _⟩
 |some t=>have Hc:=List.mem_of_find?_eq_some h;obtain⟨h1,h2,h3,-⟩:=q.sj.sc.tw.ok t Hc;exact⟨q.al.nm t Hc,.inl h1,h2,fun r hr=>⟨h3.ok r hr,q.al.rows t Hc r hr⟩,h3.le⟩
theorem Er{α:Type}(f:DB->α->DB×Int)(x:α)(r:List α)(d:DB):wE f (x::r) d=match f d x with
 | (d',e)=>if e≠0 then(d',e)else wE f r d':=rfl
def td(d:DB)(s:Int)(x:az)(T:cE):DB×Int:=
 if aF x.bM (aJ T)≠0 then(d,aF x.bM (aJ T))else match lJ x.bM (aJ T) (fun _=>([],0)) T.rows ([],[])with
  | (p,e)=>if e≠0 then(d,e)else sH s x.table p.1 d
def Qw(d:DB)(s:Int)(st:az)(T:cE):Prop:=∀ {h:ad} {pb:Nat} (q:dS h pb d s st) (hx:eG st) {n:Nat} (ej:EJ n d) (um:n+300<2^18) (iQ:-2^63<=s/\s<2^63) {wb tb:Nat} (gw:h wb=some (.cells #[.pointer (some ⟨pb,0,none⟩)] 99 (0,0)))
 (hT:R4 T) {b1:Option Addr} {n1 c1:Nat} {b2:Option Addr} {n2 c2:Nat} (gt:h tb=some (.cells #[.string T.S.name,.slice b1 n1 c1,.int .i64 T.S.key,.bool T.S.only,.slice b2 n2 c2] 51 (0,0))) (EX:Sl 165 bt h (.slice b1 n1 c1) T.S.cols) (SQ:Sl 59 aL h (.slice b2 n2 c2) T.rows)
 {k:Value->ad->Prop} (hk:∀h',Kp [pb] h h'->dS h' pb (td d s st T).1 s st->k (.int .i64 (td d s st T).2) h'),
 Ct 95 [.pointer (some ⟨wb,0,none⟩),.pointer (some ⟨tb,0,none⟩)] h k
theorem del1F{h:ad}{pb:Nat}{d:DB}{s:Int}{st:az}(q:dS h pb d s st)(hx:eG st){n:Nat}(ej:EJ n d)(um:n+300<2^18)(iQ:-2^63<=s/\s<2^63){wb tb:Nat}(gw:h wb=some (.cells #[.pointer (some ⟨pb,0,none⟩)] 99 (0,0)))
 {T:cE} (hT:R4 T) {b1:Option Addr} {n1 c1:Nat} {b2:Option Addr} {n2 c2:Nat} (gt:h tb=some (.cells #[.string T.S.name,.slice b1 n1 c1,.int .i64 T.S.key,.bool T.S.only,.slice b2 n2 c2] 51 (0,0))) (EX:Sl 165 bt h (.slice b1 n1 c1) T.S.cols) (SQ:Sl 59 aL h (.slice b2 n2 c2) T.rows)
 (bW:aF st.bM (aJ T)≠0) {k:Value->ad->Prop} (hk:∀h',Kp [pb] h h'->dS h' pb (td d s st T).1 s st->k (.int .i64 (td d s st T).2) h'):
 Ct 95 [.pointer (some ⟨wb,0,none⟩),.pointer (some ⟨tb,0,none⟩)] h k:=by
 obtain⟨A,hA⟩:=Ar.ex;obtain⟨D,hD⟩:∃D,td d s st T=D:=⟨_,rfl⟩;rw[hD]at hk;refine q.elim (fun WM Tp WC WJ To WA WI Tn Wy WH Tm Wx Nr MK Nn Nq MJ Nl Np MI Nk Ml E2 FP No MH Nj xJ xu xI g qd q1 q2 q3 q4 q5 q6=>?_);clear q1 q2 q3 q4 q5 qd;have hcF:∀c∈aJ T,Nm c.name:=fun c xF=>by
  obtain⟨c0,h1,h2⟩:=List.mem_map.1 xF;rw[<-h2];exact sd hT.nm (hT.uN c0 h1)
 refine ah A (ar T95.aA T95.bm) Tryz.func95 rfl (by kernel_rfl) ?_;cbv;refine av gw rfl rfl ?_;cbv;first|rw[ai A,ai A] |rw[ai A] |skip
 refine av g rfl rfl ?_;cbv;refine av gt rfl rfl ?_;cbv;refine mH hT.nm.nm (fun c hh=>(hT.uN c hh).nm) EX T.S.key T.S.only b2 n2 c2 (fun h2 cb cn cc l2 qb=>?_);have g2:=l2 _ _ g;have lr:=l2 _ _ gw;have gt2:=l2 _ _ gt;cbv;first|rw[ai A,ai A] |rw[ai A] |skip
 refine av g2 rfl rfl ?_;cbv;refine⟨⟨_,rfl,rfl⟩,?_⟩;cbv;refine av lr rfl rfl ?_;cbv;refine⟨⟨_,rfl,rfl⟩,?_⟩;cbv;rw[<-tY]at qb;have M7:D=if aF st.bM (aJ T)≠0 then(d,aF st.bM (aJ T))else match lJ st.bM (aJ T) (fun _=>([],0)) T.rows ([],[])with
  | (p,e)=>if e≠0 then(d,e)else sH s st.table p.1 d:=hD.symm
 refine ns hx.bM hcF (q6.mono (l2.t _)) qb.sl (fun h3 e l3 he=>?_);rw[<-he]at M7;have fe:A .aG .neq e 0=decide (e≠0):=aB A ..;have xw:=l2.trans l3;have q3':=q.mono xw;have AQ:=xw _ _ gw;have gt3:=xw _ _ gt;have h0:e≠0:=by rw[he];exact bW
 clear hD g g2 lr gt2 he;rw[if_pos h0]at M7;subst M7;have ae:=hk h3 (xw.kp _) q3';clear hk;cbv;rw[fe,decide_eq_true h0];cbv;exact ae
theorem delW{h:ad}{pb:Nat}{d:DB}{s:Int}{st:az}(q:dS h pb d s st)(hx:eG st){n:Nat}(ej:EJ n d)(gP:n+700<2^18)(iQ:-2^63<=s/\s<2^63)(eW:∀d1 T,(ay d ⟨s,st.table,true⟩).1=d1->bO d1 st.table=T->Qw d1 s st T){k:Value->ad->Prop}
 (hk:∀h',Kp [pb] h h'->dS h' pb (fL d s st).1 s st->k (.tuple #[.slice none 0 0,.int .i64 (fL d s st).2.2]) h'):
 Ct 43 [.pointer (some ⟨pb,0,none⟩)] h k:=by
 obtain⟨A,hA⟩:=Ar.ex;have hP:fL d s st=match ay d ⟨s,st.table,true⟩with
  | (d,e)=>if e≠0 then(d,[],e)else if(bO d st.table).S.only=true then(d,[],19)else bK d (td d s st (bO d st.table)):=rfl
 generalize fL d s st=D at *;have FE:=ej.hold ⟨s,st.table,true⟩ iQ;obtain⟨c,hp⟩:=q.has;refine q.elim (fun b1 n1 c1 b2 n2 c2 b3 n3 c3 b4 n4 c4 b5 n5 c5 b6 n6 c6 b7 n7 c7 b8 n8 c8 b9 n9 c9 fG gG fF g qd q1 q2 q3 q4 q5 q6=>?_);clear q1 q2 q3 q4 q5 q6;refine ah A (ar T43.aA T43.bm) Tryz.func43 rfl (by kernel_rfl) ?_;cbv;intro wb h1 gn e1;have l1:Le h h1:=by rw[e1];exact Le.set gn
 have lu:h1 wb=some (.cells #[.pointer (some ⟨pb,0,none⟩)] 99 (0,0)):=by rw[e1];exact af
 have nw:wb≠pb:=fun e=>by rw[e,hp]at gn;cases gn
 have g1:=l1 _ _ g;clear e1;cbv;refine av lu rfl rfl ?_;cbv;refine av lu rfl rfl ?_;cbv;first|rw[ai A,ai A] |rw[ai A] |skip
 refine av g1 rfl rfl ?_;cbv;refine EE (q.mono l1) ej.sj.CM (by omega) st.table true (fun h2 k2 q2=>?_);generalize ay d ⟨s,st.table,true⟩=H at *;obtain⟨d1,e⟩:=H;replace q2:dS h2 pb d1 s st:=q2;replace FE:EJ (n+1) d1:=FE;replace hP:D=if e≠0 then(d1,[],e)else if(bO d1 st.table).S.only=true then(d1,[],19)else bK d1 (td d1 s st (bO d1 st.table)):=hP
 have fe:A .aG .neq e 0=decide (e≠0):=aB A ..;have MP:Kp [pb] h h2:=(l1.kp _).trans k2;have lr:=k2 _ _ lu (by simpa using nw);by_cases h0:e≠0
 ·rw[if_pos h0]at hP;subst hP;have ae:=hk h2 MP q2;clear hk;cbv;rw[fe,decide_eq_true h0];cbv;exact ae
 ·rw[if_neg h0]at hP;have Hs:=FE.held st.table;refine q2.elim (fun WM Tp WC WJ To WA WI Tn Wy WH Tm Wx Nr MK Nn Nq MJ Nl Np MI Nk Ml E2 FP No MH Nj xJ xu xI g2 SW q1 W9 q3 q4 q5 q6=>?_);clear q1 W9 q3 q4 q5 q6 SW;cbv;rw[fe,decide_eq_false h0];cbv;refine av lr rfl rfl ?_;cbv;refine av lr rfl rfl ?_;cbv;first|rw[ai A,ai A] |rw[ai A] |skip
  refine av g2 rfl rfl ?_;cbv;refine⟨?_,?_⟩
  ·refine vW q2 st.table (fun T t1 u1 w1 t2 u2 w2 hT s1 s2=>?_);rw[<-hT]at Hs hP;replace eW:Qw d1 s st T:=eW d1 T rfl hT.symm;clear hT;cbv;intro tb h4 f4 e4;have l4:Le h2 h4:=by rw[e4];exact Le.set f4
   have Hv:h4 tb=some (.cells #[.string ⟨#[]⟩,.slice none 0 0,.int .i64 0,.bool false,.slice none 0 0] 51 (0,0)):=by rw[e4];exact af
   obtain⟨h3,rfl⟩:∃h3,h3=h2:=⟨_,rfl⟩;have g3:=g2;have AQ:=lr;have DJ:=MP;have q3:=q2;clear e4;cbv;refine jz Hv (by simp) (fun h5 e5=>?_);have Ln:h5 tb=some (.cells #[.string T.S.name,.slice t1 u1 w1,.int .i64 T.S.key,.bool T.S.only,.slice t2 u2 w2] 51 (0,0)):=by rw[e5];exact af
   have zS:Le h3 h5:=fun b o hb=>by rw[e5,aP (fun e=>by rw[e,f4]at hb;cases hb)];exact l4 _ _ hb
   have Eb:tb≠pb:=fun e=>by rw[e,g3]at f4;cases f4
   clear e5;obtain⟨Si,DS⟩:∃b,b=T.S.only:=⟨_,rfl⟩;have Lm:=Ln;rw[<-DS]at Lm;cbv;rw[ai A,ai A];refine av Lm rfl rfl ?_;cbv;have sB:=zS _ _ AQ;have Kn:=DJ.trans (zS.kp [pb]);have q5:=q3.mono zS;cases Si with
   |true=>rw[<-DS,if_pos rfl]at hP;subst hP;have ae:=hk h5 Kn q5;clear hk;cbv;exact ae
   |false=>rw[<-DS,if_neg (by simp)]at hP;have fO:∀h6,Le h5 h6->dS h6 pb d1 s st->Ct 95 [.pointer (some ⟨wb,0,none⟩),.pointer (some ⟨tb,0,none⟩)] h6 (fun r h7=>r=.int .i64 (td d1 s st T).2/\Kp [pb] h6 h7/\dS h7 pb (td d1 s st T).1 s st):=fun h6 l6 xq=>eW xq hx FE (by omega) iQ (l6 _ _ sB) Hs (l6 _ _ Ln) (s1.mono ((zS.trans l6).t _)) (s2.mono ((zS.trans l6).t _)) (fun h7 k7 q7=>⟨rfl,k7,q7⟩);generalize td d1 s st T=E at *;cbv;refine av sB rfl rfl ?_;cbv;refine AZ q5 fO (fun h6 k6 xq=>?_);rw[<-hP]at xq |-;have ae:=hk h6 (Kn.trans k6) xq;clear hk fO;generalize D.2.2=De at *;cbv;exact ae
  ·intro tb h4 f4 e4;have l4:Le h2 h4:=by rw[e4];exact Le.set f4
   have Hv:h4 tb=some (.cells #[.string ⟨#[]⟩,.slice none 0 0,.int .i64 0,.bool false,.slice none 0 0] 51 (0,0)):=by rw[e4];exact af
   obtain⟨h3,rfl⟩:∃h3,h3=h2:=⟨_,rfl⟩;have g3:=g2;have AQ:=lr;have DJ:=MP;have q3:=q2;have g4':=l4 _ _ g2;have Ll:=l4 _ _ lr;clear e4;cbv;refine av g4' rfl rfl ?_;cbv;refine⟨⟨_,rfl,rfl⟩,?_⟩;cbv;refine av Ll rfl rfl ?_;cbv;refine⟨⟨_,rfl,rfl⟩,?_⟩;cbv;refine av Ll rfl rfl ?_;cbv;refine⟨⟨_,rfl,rfl⟩,?_⟩;cbv;refine vW (q2.mono l4) st.table (fun T t1 u1 w1 t2 u2 w2 hT Yc Yb=>?_);rw[<-hT]at Hs hP;replace eW:Qw d1 s st T:=eW d1 T rfl hT.symm;clear hT;cbv;refine jz Hv (by simp) (fun h5 e5=>?_);have VI:h5 tb=some (.cells #[.string T.S.name,.slice t1 u1 w1,.int .i64 T.S.key,.bool T.S.only,.slice t2 u2 w2] 51 (0,0)):=by rw[e5];exact af
   have ri:cF [165,59,61] h4 h5:=by rw[e5];exact cF.set Hv (by decide)
   have s1:=Yc.mono (ri.sub (by decide));have s2:=Yb.mono (ri.sub (by decide));clear Yc Yb ri VI;have Ln:h5 tb=some (.cells #[.string T.S.name,.slice t1 u1 w1,.int .i64 T.S.key,.bool T.S.only,.slice t2 u2 w2] 51 (0,0)):=by rw[e5];exact af
   have zS:Le h3 h5:=fun b o hb=>by rw[e5,aP (fun e=>by rw[e,f4]at hb;cases hb)];exact l4 _ _ hb
   have Eb:tb≠pb:=fun e=>by rw[e,g3]at f4;cases f4
   clear e5;obtain⟨Si,DS⟩:∃b,b=T.S.only:=⟨_,rfl⟩;have Lm:=Ln;rw[<-DS]at Lm;cbv;rw[ai A,ai A];refine av Lm rfl rfl ?_;cbv;have sB:=zS _ _ AQ;have Kn:=DJ.trans (zS.kp [pb]);have q5:=q3.mono zS;cases Si with
   |true=>rw[<-DS,if_pos rfl]at hP;subst hP;have ae:=hk h5 Kn q5;clear hk;cbv;exact ae
   |false=>rw[<-DS,if_neg (by simp)]at hP;have fO:∀h6,Le h5 h6->dS h6 pb d1 s st->Ct 95 [.pointer (some ⟨wb,0,none⟩),.pointer (some ⟨tb,0,none⟩)] h6 (fun r h7=>r=.int .i64 (td d1 s st T).2/\Kp [pb] h6 h7/\dS h7 pb (td d1 s st T).1 s st):=fun h6 l6 xq=>eW xq hx FE (by omega) iQ (l6 _ _ sB) Hs (l6 _ _ Ln) (s1.mono (l6.t _)) (s2.mono (l6.t _)) (fun h7 k7 q7=>⟨rfl,k7,q7⟩);generalize td d1 s st T=E at *;cbv;refine av sB rfl rfl ?_;cbv;refine AZ q5 fO (fun h6 k6 xq=>?_);rw[<-hP]at xq |-;have ae:=hk h6 (Kn.trans k6) xq;clear hk fO;generalize D.2.2=De at *;cbv;exact ae
theorem Tj(nm:ByteArray){h:ad}{k:Value->ad->Prop}(hk:∀h' b n c,Le h h'->Sl 325 dh h' (.slice b n c) [eJ nm]->k (.slice b n c) h'):Ct 287 [.string nm] h k:=by
 obtain⟨A,hA⟩:=Ar.ex;refine ah A (ar T287.aA T287.bm) Tryz.func287 rfl (by kernel_rfl) ?_;cbv;intro nb h1 f1 e1;have l1:Le h h1:=by rw[e1];exact Le.set f1
 have q:Sl 325 dh h1 (.slice (some ⟨nb,0,none⟩) 1 1) [eJ nm]:=bU (s:=dh) ((congrFun e1 nb).trans af) rfl;have ae:=hk h1 _ _ _ l1 q;clear hk e1 q;cbv;exact ae
def kI(c:bT):bT:=⟨c.name,2,c.null⟩
theorem oR{name:ByteArray}:∀(l m:List bT) (i:Int) (a:Option Int),l.map (·.name)=m.map (·.name)->iA name l i a=iA name m i a
 | [],[],_,none,_=>rfl
 | [],[],_,some _,_=>rfl
 | [],b::m,_,_,h=>by simp at h
 |a::l,[],_,_,h=>by simp at h
 |c::l,d::m,i,a,h=>by
  have h1:c.name=d.name:=by simp at h;exact h.1
  have h2:l.map (·.name)=m.map (·.name):=by simp at h;exact h.2
  rw[jv,jv,h1];cases kJ name d.name with
  |false=>exact oR l m (i+1) a h2
  |true=>
   cases a with
   |some x=>rfl
   |none=>exact oR l m (i+1) (some i) h2
theorem sZ{name:ByteArray}:∀(l:List bT) (i:Int) (a:Option Int),(iA name l i a).2≠0->(iA name l i a).1=0
 | [],_,none,_=>rfl
 | [],_,some _,h=>absurd rfl h
 |c::l,i,a,h=>by
  rw[jv]at *;cases ht:kJ name c.name with
  |false=>rw[ht]at h;exact sZ l (i+1) a h
  |true=>
   rw[ht]at h;cases a with
   |some x=>rfl
   |none=>exact sZ l (i+1) (some i) h
def lT:Nat->Nat->Row
 |_,0=>[]
 |i,n+1=>⟨2,(i:Int),b0⟩::lT (i+1) n
theorem vB:∀(n i j:Nat),j<n->(lT i n)[j]? =some ⟨2,((i+j:Nat):Int),b0⟩
 |0,_,_,h=>by omega
 |n+1,i,0,_=>rfl
 |n+1,i,j+1,h=>by
  show(lT (i+1) n)[j]? =_;rw[vB n (i+1) j (Nat.lt_of_succ_lt_succ h),show i+1+j=i+(j+1)by omega]
theorem rf:∀(n i:Nat),(lT i n).length=n
 |0,_=>rfl
 |n+1,i=>by show(lT (i+1) n).length+1=_;rw[rf n]
theorem yr:∀(n i:Nat),lT i n++[⟨2,((i+n:Nat):Int),b0⟩]=lT i (n+1)
 |0,i=>rfl
 |n+1,i=>by
  show _::(lT (i+1) n++_)=_::lT (i+1) (n+1);rw[<-yr n (i+1),show i+1+n=i+(n+1)by omega]
theorem GI{nm:ByteArray}{cols:List bT}:∃v,eA [eJ nm] (cols.map kI) (lT 0 cols.length)=(v,(dK nm cols).2)/\v.n=(dK nm cols).1:=by
 have hf:dK nm (cols.map kI)=dK nm cols:=oR _ _ _ _ (by rw[List.map_map];rfl);have jC:=Ce (name:=nm) cols 0 none (dK nm cols) rfl (.inl rfl) (by decide);have her:=sZ (name:=nm) cols 0 none;have e1:pM (eJ nm) [] (cols.map kI)=match dK nm (cols.map kI)with
  | (c,e)=>if e≠0 then(0,e)else(match (cols.map kI)[c.toNat]? with
   |some c=>(c.kind,0)
   |none=>(0,0)):=rfl
 rw[hf]at e1;have e2:fZ [eJ nm] (cols.map kI)=match eN (cols.map kI) [eJ nm] []with
  | (l,f)=>if f≠0 then(0,f)else(tJ l,0):=rfl
 rw[fV,e1]at e2;have e3:oB (eJ nm) [] (cols.map kI) (lT 0 cols.length)=match dK nm (cols.map kI)with
  | (c,_)=>some (pQ (lT 0 cols.length) c):=rfl
 rw[hf]at e3;have e4:eA [eJ nm] (cols.map kI) (lT 0 cols.length)=match fZ [eJ nm] (cols.map kI)with
  | (_,f)=>if f≠0 then(v0,f)else match gL (cols.map kI) (lT 0 cols.length) [eJ nm] []with
   |some l=>(pL l,0)
   |none=>(v0,11):=rfl
 rw[oA]at e4;change (dK nm cols).2≠0->(dK nm cols).1=0 at her;generalize dK nm cols=P at *;obtain⟨c,e⟩:=P;by_cases h0:e=0
 ·subst h0;have hb:=jC rfl;obtain⟨x,hx⟩:=aI (xs:=cols) (i:=c.toNat) (by have:=hb.2;have:=hb.1;simp at *;omega);have Uw:(cols.map kI)[c.toNat]? =some (kI x):=by rw[List.getElem?_map,hx];rfl
  have CT:fZ [eJ nm] (cols.map kI)=(2,0):=by rw[e2];simp only[Uw];rfl
  have hc:c.toNat<cols.length:=(List.getElem?_eq_some_iff.1 hx).1;have hv:pQ (lT 0 cols.length) c=⟨2,c,b0⟩:=by rw[qO (vB cols.length 0 c.toNat hc) (by have:=hb.1;simp at *;omega)];congr 1;have:=hb.1;simp at *;omega
  refine⟨⟨2,c,b0⟩,?_,rfl⟩;have XM:oB (eJ nm) [] (cols.map kI) (lT 0 cols.length)=some ⟨2,c,b0⟩:=by rw[e3];show some (pQ _ c)=_;rw[hv]
  rw[e4,CT,XM];rfl
 ·refine⟨v0,?_,(her h0).symm⟩;have CT:fZ [eJ nm] (cols.map kI)=(0,e):=by rw[e2];simp[h0]
  rw[e4,CT];simp[h0]
theorem JE{nm:ByteArray}(hn:Nm nm){cols:List bT}(hc:∀c∈cols,Nm c.name){h:ad}{cb:Option Addr}{cn cc:Nat}(qc:Sl 165 bt h (.slice cb cn cc) cols){k:Value->ad->Prop}
 (hk:∀h',Le h h'->k (.tuple #[.int .i64 (dK nm cols).1,.int .i64 (dK nm cols).2]) h'):Ct 250 [.string nm,.slice cb cn cc] h k:=by
 obtain⟨A,hA⟩:=Ar.ex;have Rs:=qc.len;have hcb:=qc.bound;obtain⟨pv,hpv,Rc⟩:=GI (nm:=nm) (cols:=cols);rw[<-Rs]at hpv;rw[<-Rc]at hk;generalize (dK nm cols).2=pe at *;have hcK:∀c∈cols.map kI,Nm c.name:=fun c xF=>by
  obtain⟨c0,h1,h2⟩:=List.mem_map.1 xF;rw[<-h2];exact hc c0 h1
 have eW:∀v∈lT 0 cn,lj v:=fun v hv=>by
  obtain⟨j,hj⟩:=List.getElem?_of_mem hv;have sw:j<cn:=by have:=(List.getElem?_eq_some_iff.1 hj).1;rw[rf]at this;exact this
  rw[vB cn 0 j sw]at hj;cases hj;show m6 _=true;rw[gA];have B2:(2:Nat)^40=1099511627776:=rfl;show -9223372036854775808<=((0+j:Nat):Int)/\((0+j:Nat):Int)<=9223372036854775807;omega
 have hin2:∀v,0<=v/\v<(cn:Int)->aS v v.toNat:=fun v hv=>⟨by omega⟩;obtain⟨J,eR⟩:∃J:Option Addr×Nat×Nat->ad->Prop,∀g h',J g h'=(Le h h'/\cX 165 bt h h' (.slice g.1 cn g.2.1) cols/\dI 61 bq h' g.2.2 cn []/\h g.2.2=none):=⟨_,fun _ _=>rfl⟩;refine yJ A [false,true] (ar T250.aA T250.bm) Tryz.func250 rfl (by kernel_rfl) ?_;cbv;refine CL.go (G:=Option Addr×Nat×Nat) (fun g=>[(6,.v (.slice g.1 cn g.2.1)),(7,.v (.slice (some ⟨g.2.2,0,none⟩) cn cn))]) (fun _=>[]) J ?_ ?_
 ·have first:∀h1 b' c',Le h h1->cX 165 bt h h1 (.slice b' cn c') cols->∀nb h2,h1 nb=none->Le h1 h2->dI 61 bq h2 nb cn []->J (b',c',nb) h2:=fun h1 b' c' l1 qb nb h2 f2 l2 o=>by
   rw[eR];exact⟨l1.trans l2,qb.mono (l2.t _),o,by
    cases hh:h nb with
    |none=>rfl
    |some x=>rw[l1 _ _ hh]at f2;cases f2⟩
  have second:∀nb h1,h nb=none->Le h h1->dI 61 bq h1 nb cn []->∀h2 b' c',Le h1 h2->cX 165 bt h1 h2 (.slice b' cn c') cols->J (b',c',nb) h2:=fun nb h1 f1 l1 o h2 b' c' l2 qb=>by
   rw[eR];exact⟨l1.trans l2,qb.base l1,o.mono (l2.t _),f1⟩
  clear eR hk;cbv;refine⟨?_,?_⟩
  ·refine(tm qc).mono (fun v h1 hR=>?_);obtain⟨l1,b',c',hv,qb⟩:=hR;subst hv;have first:=first h1 b' c' l1 qb
   cbv;refine⟨?_,?_⟩
   ·refine iL (s:=bq) rfl (by omega) (by decide) (fun nb h2 f2 l2 o=>?_);have ae:=first nb h2 f2 l2 o
    clear first second
    cbv;refine⟨(_,_,_),⟨?_,?_,?_⟩,ae⟩
    ·cbv
    ·cbv
    ·cbv
   ·refine iL (s:=bq) rfl (by omega) (by decide) (fun nb h2 f2 l2 o=>?_);have ae:=first nb h2 f2 l2 o
    clear first second
    cbv;refine⟨(_,_,_),⟨?_,?_,?_⟩,ae⟩
    ·cbv
    ·cbv
    ·cbv
  ·refine iL (s:=bq) rfl (by omega) (by decide) (fun nb h1 f1 l1 o=>?_);have second:=second nb h1 f1 l1 o;cbv;refine(tm (qc.mono (l1.t _))).mono (fun v h2 hR=>?_);obtain⟨l2,b',c',hv,qb⟩:=hR;subst hv;have ae:=second h2 b' c' l2 qb;clear first second
   cbv;refine⟨(_,_,_),⟨?_,?_,?_⟩,ae⟩
   ·cbv
   ·cbv
   ·cbv
 ·intro g h1 hg;rw[eR]at hg;obtain⟨gb,gc,rb⟩:=g;obtain⟨l1,qb,o,Fk⟩:=hg;replace qb:cX 165 bt h h1 (.slice gb cn gc) cols:=qb;replace o:dI 61 bq h1 rb cn []:=o;replace Fk:h rb=none:=Fk;have hL:∀h2,Le h h2->Sl 165 bt h2 (.slice gb cn gc) (cols.map kI)->Sl 61 bq h2 (.slice (some ⟨rb,0,none⟩) cn cn) (lT 0 cn)->∀h3 xb xn xc,Le h2 h3->Sl 325 dh h3 (.slice xb xn xc) [eJ nm]->
   Ct 163 [.slice xb xn xc,.slice gb cn gc,.slice (some ⟨rb,0,none⟩) cn cn] h3 (fun r h4=>Le h h4/\r=.tuple #[pv.v,.int .i64 pe]):=fun h2 l2 s1 s2 h3 xb xn xc l3 sx=>CX (fun n hh=>by
    rcases List.mem_cons.1 hh with rfl|hh
    ·exact⟨hn,lA⟩
    ·cases hh) hcK eW sx (s1.mono (l3.t _)) (s2.mono (l3.t _)) (fun h4 v e w l4 hv hw=>by
     rw[hpv]at hv;cases hv;exact⟨l2.trans (l3.trans l4),by rw[hw]⟩)
  obtain⟨I,bl⟩:∃I:Nat->Int->ad->Prop,∀m z h',I m z h'=∃i,aS z i/\i<=cn/\m=cn-i/\Le h h'/\dI 61 bq h' rb cn (lT 0 i)/\(cn=0\/∃nb,gb=some ⟨nb,0,none⟩/\h nb=none/\dI 165 bt h' nb gc ((cols.take i).map kI++cols.drop i)):=⟨_,fun _ _ _=>rfl⟩;have hJ:I cn 0 h1:=by
   rw[bl];refine⟨0,⟨rfl⟩,Nat.zero_le _,rfl,l1,o,?_⟩;rcases qb.out with ⟨b0,g1,g2⟩ | ⟨nb,cap,g1,g2,o2⟩
   ·cases g1;exact .inl rfl
   ·cases g1;exact .inr ⟨nb,rfl,g2,o2⟩
  clear eR o qb;cbv;refine aX.go (G:=Int) (fun z=>[(18,.v (.int .i64 z))]) (fun _=>[]) (fun m z h'=>I m z h') cn 0 ⟨?_,?_,?_⟩ hJ ?_
  ·cbv
  ·cbv
  ·cbv
  ·intro m z h2 hI;rw[bl]at hI;cbv;obtain⟨i,hz,hi,hm,l2,orb,dF⟩:=hI;have f1:A .aG .lss z (A .nat cn)=decide (i<cn):=hz.gy (aS.nat cn);rw[f1];by_cases aK:i<cn
   ·obtain⟨nb,Rm,fk,oc⟩:=dF.resolve_left (by omega);subst Rm;obtain⟨c,Xx⟩:=aI (xs:=cols) (i:=i) (by omega);have hg:=E6 (f:=kI) Xx;have kf:=E5 (f:=kI) Xx;have hlen:((cols.take i).map kI++cols.drop i).length=cn:=by simp;omega
    generalize (cols.take i).map kI++cols.drop i=L at *;have cU:0<=z/\z<(cn:Int):=hz.ix aK;have fA:=hz.eq;have dD:=hz.succ (A:=A) (by omega);have j0:cn-(i+1)<m:=by omega
    have rC:=rf i 0;have Ii:=yr i 0;rw[Nat.zero_add]at Ii;have di:∀h3,Le h h3->dI 61 bq h3 rb cn (lT 0 (i+1))->dI 165 bt h3 nb gc (L.set i (kI c))->I (cn-(i+1)) (A .bA .add .i64 z 1) h3:=fun h3 l3 o1 o2=>by
     rw[bl];exact⟨i+1,dD,aK,rfl,l3,o1,.inr ⟨nb,rfl,fk,by rw[<-kf];exact o2⟩⟩
    clear bl hJ hL dD hk;rw[decide_eq_true aK];cbv;refine⟨⟨rfl,cU⟩,?_⟩;cbv;refine oc.Jk (by decide) hg fA rfl (off:=1) (new:=[.int .i64 2]) (show 1+1<=3 by omega) (x':=kI c) (fun cs aC=>?_) (fun h3 k3 t3 oc3=>?_)
    ·obtain⟨uN,Cr,FK⟩:=c;have aC:cs=[.string uN,.int .i64 Cr,.bool FK]:=aC;subst aC;rfl
    ·have or3:=orb.mono (t3 _ (by decide));have l3:Le h h3:=l2.df (fun b hb=>by rw[List.mem_singleton.1 hb];exact fk) k3;clear oc orb;cbv;refine⟨⟨rfl,cU⟩,?_⟩;cbv;refine or3.store (by decide) (i:=i) (x:=⟨2,(i:Int),b0⟩) (by rw[rC];exact Nat.le_refl _) aK (by omega) fA rfl (by rw[fA];rfl) (fun h4 k4 t4 or4=>?_);rw[rC,if_neg (by omega),Ii]at or4;have uL:=di h4 (l3.df (fun b hb=>by rw[List.mem_singleton.1 hb];exact Fk) k4) or4 (oc3.mono (t4 _ (by decide)));clear di;cbv;refine⟨cn-(i+1),A .bA .add .i64 z 1,j0,⟨?_,?_,?_⟩,uL⟩
     ·cbv
     ·cbv
     ·cbv
   ·have jR:i=cn:=by omega
    subst jR;have s2:Sl 61 bq h2 (.slice (some ⟨rb,0,none⟩) i i) (lT 0 i):=orb.sl (rf i 0).symm;have s1:Sl 165 bt h2 (.slice gb i gc) (cols.map kI):=by
     rcases dF with h0| ⟨nb,Rm,fk,oc⟩
     ·have:cols=[]:=List.length_eq_zero_iff.1 (by omega);subst this;subst h0;exact Sl.nil
     ·subst Rm;rw[List.take_of_length_le (by omega),List.drop_of_length_le (by omega),List.append_nil]at oc;exact oc.sl (by rw[List.length_map,Rs])
    have hV:=hL h2 l2 s1 s2;clear bl hJ hL;rw[decide_eq_false aK];cbv;refine Tj nm (fun h3 xb xn xc l3 sx=>?_);cbv;refine(hV h3 xb xn xc l3 sx).mono (fun r h4 hR=>?_);obtain⟨l4,hr⟩:=hR;subst hr;have ae:=hk h4 l4;obtain⟨vk,vn,vs⟩:=pv;clear hk hV;cbv;exact ae
structure lf(h:ad)(qp:Nat)(x:az)(cols:List bT)(y:Qy):Prop where
 out:∃b5 n5 c5 b6 n6 c6 b7 n7 c7 b8 n8 c8 b9 n9 c9 fG gG fF cb cn cc,h qp=some (.cells #[.int .i64 x.kind,.string x.mS.name,.slice b5 n5 c5,.int .i64 x.mS.key,.bool x.mS.only,.string x.table,.string x.join,.slice b6 n6 c6,.slice b7 n7 c7,.slice b8 n8 c8,.slice b9 n9 c9,.slice fG gG fF,.string x.group,.string x.order,.bool x.desc,.int .i64 x.fw,.string x.name,.slice cb cn cc,.int .i64 y.group,.int .i64 y.order,.bool y.jK] 188 (0,0))/\Sl 165 bt h (.slice b5 n5 c5) x.mS.cols/\Sl 325 dh h (.slice b6 n6 c6) x.on/\Sl 9 cB h (.slice b7 n7 c7) x.names/\Sl 42 fB h (.slice b8 n8 c8) x.exprs/\Sl 276 cm h (.slice b9 n9 c9) x.items/\Sl 325 dh h (.slice fG gG fF) x.bM/\Sl 165 bt h (.slice cb cn cc) cols
theorem lf.elim{h:ad}{qp:Nat}{x:az}{cols:List bT}{y:Qy}(q:lf h qp x cols y){p:Prop}(k:∀b5 n5 c5 b6 n6 c6 b7 n7 c7 b8 n8 c8 b9 n9 c9 fG gG fF cb cn cc,h qp=some (.cells #[.int .i64 x.kind,.string x.mS.name,.slice b5 n5 c5,.int .i64 x.mS.key,.bool x.mS.only,.string x.table,.string x.join,.slice b6 n6 c6,.slice b7 n7 c7,.slice b8 n8 c8,.slice b9 n9 c9,.slice fG gG fF,.string x.group,.string x.order,.bool x.desc,.int .i64 x.fw,.string x.name,.slice cb cn cc,.int .i64 y.group,.int .i64 y.order,.bool y.jK] 188 (0,0))->Sl 165 bt h (.slice b5 n5 c5) x.mS.cols->Sl 325 dh h (.slice b6 n6 c6) x.on->Sl 9 cB h (.slice b7 n7 c7) x.names->Sl 42 fB h (.slice b8 n8 c8) x.exprs->Sl 276 cm h (.slice b9 n9 c9) x.items->Sl 325 dh h (.slice fG gG fF) x.bM->Sl 165 bt h (.slice cb cn cc) cols->p):p:=by obtain⟨b5,n5,c5,b6,n6,c6,b7,n7,c7,b8,n8,c8,b9,n9,c9,fG,gG,fF,cb,cn,cc,g,q1,q2,q3,q4,q5,q6,q7⟩:=q.out;exact k b5 n5 c5 b6 n6 c6 b7 n7 c7 b8 n8 c8 b9 n9 c9 fG gG fF cb cn cc g q1 q2 q3 q4 q5 q6 q7
theorem lf.lt{h h':ad}{qp:Nat}{x:az}{cols:List bT}{y:Qy}(q:lf h qp x cols y)(hb:h' qp=h qp)(l:cF mq h h'):lf h' qp x cols y:=by obtain⟨b5,n5,c5,b6,n6,c6,b7,n7,c7,b8,n8,c8,b9,n9,c9,fG,gG,fF,cb,cn,cc,g,q1,q2,q3,q4,q5,q6,q7⟩:=q.out;exact⟨b5,n5,c5,b6,n6,c6,b7,n7,c7,b8,n8,c8,b9,n9,c9,fG,gG,fF,cb,cn,cc,hb.trans g,q1.mono (l.sub (by decide)),q2.mono (l.sub (by decide)),q3.mono (l.sub (by decide)),q4.mono (l.sub (by decide)),q5.mono (l.sub (by decide)),q6.mono (l.sub (by decide)),q7.mono (l.sub (by decide))⟩
theorem lf.mono{h h':ad}{qp:Nat}{x:az}{cols:List bT}{y:Qy}(q:lf h qp x cols y)(l:Le h h'):lf h' qp x cols y:=by refine q.lt ?_ (l.t _);obtain⟨b5,n5,c5,b6,n6,c6,b7,n7,c7,b8,n8,c8,b9,n9,c9,fG,gG,fF,cb,cn,cc,g,-⟩:=q.out;rw[g];exact l _ _ g
theorem lf.has{h:ad}{qp:Nat}{x:az}{cols:List bT}{y:Qy}(q:lf h qp x cols y):∃c,h qp=some (.cells c 188 (0,0)):=by obtain⟨b5,n5,c5,b6,n6,c6,b7,n7,c7,b8,n8,c8,b9,n9,c9,fG,gG,fF,cb,cn,cc,g,-⟩:=q.out;exact⟨_,g⟩
theorem FJ{h:ad}{qp:Nat}{x:az}{cols:List bT}{y:Qy}(q:lf h qp x cols y)(hc:∀c∈cols,Nm c.name){nm:ByteArray}(hn:Nm nm){k:Value->ad->Prop}
 (hk:∀h',Le h h'->k (.tuple #[.int .i64 (bh nm cols).1,.int .i64 (bh nm cols).2]) h'):Ct 181 [.pointer (some ⟨qp,0,none⟩),.string nm] h k:=by
 obtain⟨A,hA⟩:=Ar.ex;have hP:bh nm cols=if nm=b0 then(-1,0)else dK nm cols:=rfl
 have f1:A .iY .eql nm ⟨#[]⟩=decide (nm=b0):=bR A ..;refine q.elim (fun b5 n5 c5 b6 n6 c6 b7 n7 c7 b8 n8 c8 b9 n9 c9 fG gG fF cb cn cc g q1 q2 q3 q4 q5 q6 q7=>?_);clear q1 q2 q3 q4 q5 q6;generalize bh nm cols=D at *;refine ah A (ar T181.aA T181.bm) Tryz.func181 rfl (by kernel_rfl) ?_;cbv;rw[f1];by_cases h0:nm=b0
 ·rw[if_pos h0]at hP;subst hP;have ae:=hk h (Le.refl _);clear hk;rw[decide_eq_true h0];cbv;exact ae
 ·rw[if_neg h0]at hP;rw[hP]at hk;rw[decide_eq_false h0];cbv;repeat (first| (rw[ai A,ai A];refine av g rfl rfl ?_;cbv) | (rw[ai A];refine av g rfl rfl ?_;cbv) | (refine av g rfl rfl ?_;cbv) | (refine⟨⟨_,rfl,rfl⟩,?_⟩;cbv))
  refine JE hn hc q7 (fun h1 l1=>?_);have ae:=hk h1 l1;clear hk hP;generalize dK nm cols=E at *;obtain⟨e1,e2⟩:=E;cbv;exact ae
theorem YW{h:ad}{qp:Nat}{x:az}{cols:List bT}{y:Qy}(q:lf h qp x cols y)(hc:∀c∈cols,Nm c.name){i:dG}(hi:mI i.e){ib:Option Addr}{im ic:Nat}(qi:Sl 325 dh h (.slice ib im ic) i.e){k:Value->ad->Prop}
 (hk:∀h',Le h h'->k (.int .i64 (gN cols i)) h'):Ct 179 [.pointer (some ⟨qp,0,none⟩),.agg #[.int .i64 i.fn,.slice ib im ic]] h k:=by
 obtain⟨A,hA⟩:=Ar.ex;have hP:gN cols i=if i.fn=1 then 0 else if i.fn=2 then fI i.e cols 2 else(fZ i.e cols).2:=rfl
 have f1:A .aG .eql i.fn 1=decide (i.fn=1):=aw A ..;have f2:A .aG .eql i.fn 2=decide (i.fn=2):=aw A ..;refine q.elim (fun b5 n5 c5 b6 n6 c6 b7 n7 c7 b8 n8 c8 b9 n9 c9 fG gG fF cb cn cc g q1 q2 q3 q4 q5 q6 q7=>?_);clear q1 q2 q3 q4 q5 q6;generalize gN cols i=D at *;obtain⟨fn,ie⟩:=i;replace hi:mI ie:=hi;replace f1:A .aG .eql fn 1=decide (fn=1):=f1;replace f2:A .aG .eql fn 2=decide (fn=2):=f2;replace hP:D=if fn=1 then 0 else if fn=2 then fI ie cols 2 else(fZ ie cols).2:=hP
 refine ah A (ar T179.aA T179.bm) Tryz.func179 rfl (by kernel_rfl) ?_;cbv;rw[f1];by_cases h1:fn=1
 ·rw[if_pos h1]at hP;subst hP;have ae:=hk h (Le.refl _);clear hk;rw[decide_eq_true h1];cbv;exact ae
 rw[if_neg h1]at hP;rw[decide_eq_false h1];cbv;rw[f2];by_cases h2:fn=2
 ·rw[if_pos h2]at hP;rw[decide_eq_true h2];cbv;repeat (first| (rw[ai A,ai A];refine av g rfl rfl ?_;cbv) | (rw[ai A];refine av g rfl rfl ?_;cbv) | (refine av g rfl rfl ?_;cbv) | (refine⟨⟨_,rfl,rfl⟩,?_⟩;cbv))
  refine zW hi hc 2 qi q7 (fun h1 e l1 he=>?_);rw[<-hP]at he;subst he;have ae:=hk h1 l1;clear hk hP;cbv;exact ae
 ·rw[if_neg h2]at hP;rw[decide_eq_false h2];cbv;repeat (first| (rw[ai A,ai A];refine av g rfl rfl ?_;cbv) | (rw[ai A];refine av g rfl rfl ?_;cbv) | (refine av g rfl rfl ?_;cbv) | (refine⟨⟨_,rfl,rfl⟩,?_⟩;cbv))
  refine Mz (fun n hh=>(hi n hh).1) hc qi q7 (fun h1 a e l1 he=>?_);rw[<-he]at hP;subst hP;have ae:=hk h1 l1;clear hk he;cbv;exact ae
theorem B4(cols:List bT)(yg fn:Int)(ie:List Nd):bD cols yg ⟨fn,ie⟩=if fn≠0 then 0 else if yg<0 then 3 else match ie with
 | [n]=>if n.op≠2 then 3 else match dK n.name cols with
  | (k,e)=>if e≠0\/k≠yg then 3 else 0
 |_=>3:=rfl
theorem rM{h:ad}{qp:Nat}{x:az}{cols:List bT}{y:Qy}(q:lf h qp x cols y)(hc:∀c∈cols,Nm c.name){i:dG}(hi:mI i.e){ib:Option Addr}{im ic:Nat}(qi:Sl 325 dh h (.slice ib im ic) i.e){k:Value->ad->Prop}
 (hk:∀h',Le h h'->k (.int .i64 (bD cols y.group i)) h'):Ct 187 [.pointer (some ⟨qp,0,none⟩),.agg #[.int .i64 i.fn,.slice ib im ic]] h k:=by
 obtain⟨A,hA⟩:=Ar.ex;have Fs:=qi.len;have f1:A .aG .neq i.fn 0=decide (i.fn≠0):=aB A ..;have f2:A .aG .lss y.group 0=decide (y.group<0):=bE A ..;have f3:A .aG .neq (A .nat im) 1=decide (im≠1):=by rw[aB A,hA.nat,decide_eq_decide,Int.ofNat_eq_natCast];omega
 refine q.elim (fun b5 n5 c5 b6 n6 c6 b7 n7 c7 b8 n8 c8 b9 n9 c9 fG gG fF cb cn cc g q1 q2 q3 q4 q5 q6 q7=>?_);clear q1 q2 q3 q4 q5 q6;obtain⟨fn,ie⟩:=i;obtain⟨yg,yo,ya⟩:=y;replace hi:mI ie:=hi;replace f1:A .aG .neq fn 0=decide (fn≠0):=f1;replace f2:A .aG .lss yg 0=decide (yg<0):=f2;replace qi:Sl 325 dh h (.slice ib im ic) ie:=qi;replace Fs:im=ie.length:=Fs;have hP:=B4 cols yg fn ie;replace hk:∀h',Le h h'->k (.int .i64 (bD cols yg ⟨fn,ie⟩)) h':=hk;generalize bD cols yg ⟨fn,ie⟩=D at *;refine ah A (ar T187.aA T187.bm) Tryz.func187 rfl (by kernel_rfl) ?_;cbv;rw[f1];by_cases h1:fn≠0
 ·rw[if_pos h1]at hP;subst hP;have ae:=hk h (Le.refl _);clear hk;rw[decide_eq_true h1];cbv;exact ae
 rw[if_neg h1]at hP;rw[decide_eq_false h1];cbv;repeat (first| (rw[ai A,ai A];refine av g rfl rfl ?_;cbv) | (rw[ai A];refine av g rfl rfl ?_;cbv) | (refine av g rfl rfl ?_;cbv) | (refine⟨⟨_,rfl,rfl⟩,?_⟩;cbv))
 rw[f2];by_cases h2:yg<0
 ·rw[if_pos h2]at hP;subst hP;have ae:=hk h (Le.refl _);clear hk;rw[decide_eq_true h2];cbv;exact ae
 rw[if_neg h2]at hP;rw[decide_eq_false h2];cbv;rw[f3];by_cases h3:im≠1
 ·have hP:D=3:=by
   rw[hP]
   match ie,Fs with
   | [],_=>rfl
   | [n],hm=>exact absurd hm h3
   |a::b::l,_=>rfl
  subst hP;have ae:=hk h (Le.refl _);clear hk;rw[decide_eq_true h3];cbv;exact ae
 have VE:im=1:=Decidable.not_not.1 h3;obtain⟨n,jR⟩:∃n,ie=[n]:=by
  match ie,Fs with
  | [],hm=>rw[VE]at hm;cases hm
  | [n],hm=>exact⟨n,rfl⟩
  |a::b::l,hm=>rw[VE]at hm;simp at hm
 subst jR;replace hP:D=if n.op≠2 then 3 else match dK n.name cols with
  | (k,e)=>if e≠0\/k≠yg then 3 else 0:=hP
 have hx:[n][0]? =some n:=rfl;have cU:ib.isSome=true/\(0:Int)<=0/\(0:Int)<(im:Int):=⟨qi.bu (by omega),by omega,by omega⟩;have fo:A .aG .neq n.op 2=decide (n.op≠2):=aB A ..;rw[decide_eq_false h3];cbv;refine⟨cU,?_⟩;cbv;refine qi.eE hx rfl (o:=0) (m:=1) (by decide) (fun cs aC=>?_);obtain⟨op,na,nb,⟨vk,vn,vs⟩,Yz⟩:=n;have aC:cs=[.int .i64 op,.int .i64 na,.int .i64 nb,.int .i64 vk,.int .i64 vn,.string vs,.string Yz]:=aC;subst aC;replace fo:A .aG .neq op 2=decide (op≠2):=fo;replace hP:D=if op≠2 then 3 else match dK Yz cols with
  | (k,e)=>if e≠0\/k≠yg then 3 else 0:=hP
 have um:Nm Yz:=(hi _ List.mem_cons_self).1;cbv;rw[fo];by_cases h4:op≠2
 ·rw[if_pos h4]at hP;subst hP;have ae:=hk h (Le.refl _);clear hk;rw[decide_eq_true h4];cbv;exact ae
 rw[if_neg h4]at hP;rw[decide_eq_false h4];cbv;refine⟨cU,?_⟩;cbv;refine qi.eE hx rfl (o:=6) (m:=1) (by decide) (fun cs aC=>?_);have aC:cs=[.int .i64 op,.int .i64 na,.int .i64 nb,.int .i64 vk,.int .i64 vn,.string vs,.string Yz]:=aC;subst aC;cbv;repeat (first| (rw[ai A,ai A];refine av g rfl rfl ?_;cbv) | (rw[ai A];refine av g rfl rfl ?_;cbv) | (refine av g rfl rfl ?_;cbv) | (refine⟨⟨_,rfl,rfl⟩,?_⟩;cbv))
 refine JE um hc q7 (fun h5 l5=>?_);generalize dK Yz cols=E at *;obtain⟨e1,e2⟩:=E;replace hP:D=if e2≠0\/e1≠yg then 3 else 0:=hP
 have g5:=l5 _ _ g;have hk:=fun z (hz:z=D)=>(by rw[hz];exact hk h5 l5:k (.int .i64 z) h5);have f5:A .aG .neq e2 0=decide (e2≠0):=aB A ..;have f6:A .aG .neq e1 yg=decide (e1≠yg):=aB A ..;cbv;rw[f5];by_cases h5':e2≠0
 ·rw[if_pos (.inl h5')]at hP;have ae:=hk 3 hP.symm;clear hk;rw[decide_eq_true h5'];cbv;exact ae
 ·rw[decide_eq_false h5'];cbv;repeat (first| (rw[ai A,ai A];refine av g5 rfl rfl ?_;cbv) | (rw[ai A];refine av g5 rfl rfl ?_;cbv) | (refine av g5 rfl rfl ?_;cbv) | (refine⟨⟨_,rfl,rfl⟩,?_⟩;cbv))
  rw[f6];by_cases h6:e1≠yg
  ·rw[if_pos (.inr h6)]at hP;have ae:=hk 3 hP.symm;clear hk;rw[decide_eq_true h6];cbv;exact ae
  ·rw[if_neg (by rintro(g|g)<;>contradiction)]at hP;have ae:=hk 0 hP.symm;clear hk;rw[decide_eq_false h6];cbv;exact ae
end Go.S
