import Derived.Test.YtekoaiendgjkdaaGreatQB
import Derived.Test.YtekoaiendgjkdaaGreatRd
import Derived.Test.YtekoaiendgjkdaaGreatSxC
set_option linter.unusedVariables false
set_option linter.unusedSimpArgs false
set_option linter.unusedSectionVars false
set_option maxRecDepth 100000
set_option maxHeartbeats 8000000
namespace Go.S
open Go.Sx Go.Proofs
def Bx{α:Type}(e:Nat)(s:Sh α)(B h:ad)(nb:Option Nat)(v:Value)(xs:List α):Prop:=
 (nb=none/\v=.slice none 0 0/\xs=[])\/∃j cap,nb=some j/\v=.slice (some ⟨j,0,none⟩) xs.length cap/\B j=none/\fX e s h j cap xs
theorem Bx.sl{α:Type}{e:Nat}{s:Sh α}{B h:ad}{nb:Option Nat}{v:Value}{xs:List α}(q:Bx e s B h nb v xs):Sl e s h v xs:=by
 rcases q with ⟨_,rfl,rfl⟩ | ⟨j,cap,_,rfl,_,o⟩
 ·exact Sl.nil
 ·exact o.sl rfl
theorem Bx.buf{α:Type}{e:Nat}{s:Sh α}{B h:ad}{nb:Option Nat}{v:Value}{xs:List α}(q:Bx e s B h nb v xs):cF e s B h v xs:=by
 rcases q with ⟨_,rfl,rfl⟩ | ⟨j,cap,_,rfl,hb,o⟩
 ·exact cF.nil
 ·exact o.buf hb rfl
theorem Bx.mono{α:Type}{e:Nat}{s:Sh α}{B h h':ad}{nb:Option Nat}{v:Value}{xs:List α}(q:Bx e s B h nb v xs)(l:bR (e::s.tys) h h'):Bx e s B h' nb v xs:=by
 rcases q with ⟨h1,h2,h3⟩ | ⟨j,cap,h1,h2,h3,o⟩
 ·exact .inl ⟨h1,h2,h3⟩
 ·exact .inr ⟨j,cap,h1,h2,h3,o.mono l⟩
theorem Bx.has{α:Type}{e:Nat}{s:Sh α}{B h:ad}{j:Nat}{v:Value}{xs:List α}(q:Bx e s B h (some j) v xs):∃c fr,h j=some (.cells c e fr):=by
 rcases q with ⟨h1,-⟩ | ⟨j',cap,h1,-,-,o⟩
 ·cases h1
 ·cases h1;obtain⟨c,g,-⟩:=o.out;exact⟨_,_,g⟩
theorem Bx.app{α:Type}{e:Nat}{s:Sh α}{B h:ad}{nb:Option Nat}{b x:Option Addr}{len cap cx:Nat}{xs:List α}{y:α}(q:Bx e s B h nb (.slice b len cap) xs)(qv:Sl e s h (.slice x 1 cx) [y])(he:e∉s.tys){size bytes:Nat}(mX:size=s.n)(rR:bytes<=128)(hn:len+1<=2^39)(vN:Le B h)
 {k:Value->ad->Prop} (hk:∀j m c' h',Le B h'->Kp nb.toList h h'->bR s.tys h h'->(nb=some j\/h j=none)->Bx e s B h' (some j) (.slice (some ⟨j,0,none⟩) m c') (xs++[y])->k (.slice (some ⟨j,0,none⟩) m c') h'):
 iU h b len cap x 1 size bytes e k:=by
 have hlen:=q.sl.len;refine q.buf.Dr qv he mX rR hn vN (fun m b' c' h' em l Fw hb oz=>?_);have yV:∀j,b=some ⟨j,0,none⟩->nb=some j:=fun j hj=>by
  rcases q with ⟨_,h2,_⟩ | ⟨j',ju,h1,h2,_,_⟩
  ·cases h2;cases hj
  ·cases h2;cases hj;exact h1
 obtain⟨j,e1,e2,e3,o⟩:=hb.own (by omega);subst e1;have kp:Kp nb.toList h h':=fun i o' hi fZ=>Fw i o' hi (fun e=>fZ (by rw[yV i e];simp));have lt:bR s.tys h h':=fun i d e' fr hm hi=>Fw i _ hi (fun e1=>by
  have:=yV i e1;subst this;obtain⟨c,NQ,g⟩:=q.has;rw[g]at hi;cases hi;exact he hm)
 refine hk j m c' h' l kp lt ?_ (.inr ⟨j,c',rfl,by rw[<-e3],e2,o⟩);rcases oz j rfl with h1|h1|h1
 ·exact .inl (yV j h1)
 ·exact .inr h1
 ·omega
structure yC{α:Type}(e:Nat)(s:Sh α)(B h:ad)(v1:Value)(xs:List α)(v2:Value)(ys:List α):Prop where
 out:∃o1 o2,Bx e s B h o1 v1 xs/\Bx e s B h o2 v2 ys/\∀j,o1=some j->o2≠some j
structure UK(B h:ad)(rp fp:Nat)(xs ys:List Row):Prop where
 out:∃b1 n1 c1 b2 n2 c2,h rp=some (.cells #[.slice b1 n1 c1] 34 (0,0))/\h fp=some (.cells #[.slice b2 n2 c2] 34 (0,0))/\yC 59 aD B h (.slice b1 n1 c1) xs (.slice b2 n2 c2) ys
 le:Le B h
 n1:B rp=none
 n2:B fp=none
 ne:rp≠fp
theorem oh{s:ByteArray}:eXE s↔∀c∈s.data.toList,c.toNat<128:=by
 constructor
 ·intro h c hc;obtain⟨i,hi,rfl⟩:=List.mem_iff_getElem.1 hc;have:=h i (by simpa using hi);rw[mXm]at this;rw[mXR (by simpa using hi)]at this;simpa using this
 ·intro h i hi;have Cz:i<s.data.size:=hi;rw[mXm,mXR Cz];exact h _ (by simp)
theorem Xi{a b:ByteArray}(ha:eXE a)(hb:eXE b):eXE (a++b):=by
 rw[oh]at *;intro c hc;have e:(a++b).data=a.data++b.data:=by simp
 rw[e,mJs]at hc;rcases mQv.1 hc with hc|hc
 ·exact ha c hc
 ·exact hb c hc
structure UI(s:ByteArray):Prop where
 dQu:eXE s
 sz:s.size<=2^30
theorem UI.nm{s:ByteArray}(h:UI s):Nm s:=⟨h.dQu,by have:=h.sz;omega⟩
theorem ri{nm:ByteArray}(h:UI nm){c:cK}(hc:UI c.name):Nm (ph nm c).name:=by
 refine⟨Xi (Xi h.dQu (fun i hi=>?_)) hc.dQu,?_⟩
 ·have:i<1:=hi;have:i=0:=by omega
  subst this;decide
 ·show(nm++aM [46]++c.name).size<=_;rw[mZG,mZG];have e:(aM [46]).size=1:=rfl;have:=h.sz;have:=hc.sz;omega
open Go.Sx
structure ij(P:Row->Prop)(Pn:ByteArray->Prop)(d:DB):Prop where
 nm:∀t∈d.az,Pn t.S.name
 rows:∀t∈d.az,∀r∈t.rows,P r
 log:∀w∈d.aq,∀c∈w.log,P c.row
section
variable {P:Row->Prop}{Pn:ByteArray->Prop}
theorem GH{t:cW}{r x:Row}(h:x∈(bK t r).1.rows):x=r\/x∈t.rows:=by
 unfold bK at h;split at h
 ·exact .inr h
 ·split at h
  ·exact .inr h
  ·split at h
   ·exact .inr h
   ·have h:x∈t.rows.take _++[r]++t.rows.drop _:=h;simp only[mXd,mQv,mQA]at h;rcases h with h|h|h
    ·exact .inr (mXN h)
    ·exact .inl h
    ·exact .inr (mXU h)
theorem EI{t:cW}{k:cO}{x:Row}(h:x∈(bH t k).1.rows):x∈t.rows:=by
 unfold bH at h;split at h
 ·have h:x∈t.rows.take _++t.rows.drop _:=h;rcases mQv.1 h with h|h
  ·exact mXN h
  ·exact mXU h
 ·exact h
def IZ(P:Row->Prop)(Pn:ByteArray->Prop)(T:List cW):Prop:=∀t∈T,Pn t.S.name/\∀r∈t.rows,P r
theorem IZ.set{T:List cW}(h:IZ P Pn T){i:Nat}{t:cW}(ht:Pn t.S.name/\∀r∈t.rows,P r):IZ P Pn (T.set i t):=fun x hx=>by
 rcases mXx hx with hx|hx
 ·exact h x hx
 ·rw[hx];exact ht
theorem bJr{T:List cW}{x:dV}(h:IZ P Pn T)(hx:P x.row):IZ P Pn (gC T x):=by
 unfold gC;split
 ·split
  ·rename_i t ht;have YL:=h t (GD ht);split
   ·refine h.set ⟨by rw[lf];exact YL.1,fun r hr=>?_⟩;rcases GH hr with hr|hr
    ·rw[hr];exact hx
    ·exact YL.2 r hr
   ·split
    ·exact h.set ⟨by rw[lE];exact YL.1,fun r hr=>YL.2 r (EI hr)⟩
    ·exact h
  ·exact h
 ·exact h
theorem LA{T:List cW}(h:IZ P Pn T):∀ {l:List dV},(∀c∈l,P c.row)->IZ P Pn (eV T l)
 | [],_=>h
 |x::l,hl=>bJr (LA h fun c hc=>hl c (mQQ _ hc)) (hl x mQE)
theorem ij.dXw{d:DB}(q:ij P Pn d):IZ P Pn d.az:=fun t ht=>⟨q.nm t ht,q.rows t ht⟩
theorem ij.of{d:DB}(h:IZ P Pn d.az)(hl:∀w∈d.aq,∀c∈w.log,P c.row):ij P Pn d:=⟨fun t ht=>(h t ht).1,fun t ht=>(h t ht).2,hl⟩
theorem cZu{T:List cW}{ws:List fJ}{s:Int}(h:IZ P Pn T)(hl:∀w∈ws,∀c∈w.log,P c.row):IZ P Pn (tH T ws s):=by
 unfold tH;split
 ·split
  ·rename_i w hw;exact LA h (hl w (GD hw))
  ·exact h
 ·exact h
theorem ij.back{d:DB}(q:ij P Pn d)(s:Int):ij P Pn (kh d s):=
 ij.of (cZu q.dXw q.log) fun w hw=>q.log w ((rV d.aq s).subset hw)
theorem ij.HF{d:DB}(q:ij P Pn d){H W:List cg}:ij P Pn ⟨d.az,d.aq,H,W⟩:=⟨q.nm,q.rows,q.log⟩
theorem ij.jK{hd:cg}:∀(f:Nat) {d:DB},ij P Pn d->ij P Pn (jK f d hd).1
 |0,d,q=>q
 |f+1,d,q=>by
  unfold Go.S.jK;repeat' split
  all_goals first
   |exact ij.jK f (ij.back (ij.HF q) _)
   |exact ij.back (ij.HF q) _
   |exact ij.HF q
theorem ij.aL{d:DB}(q:ij P Pn d)(hd:cg):ij P Pn (aL d hd).1:=by
 unfold Go.S.aL;split
 ·exact q.jK _
 ·exact q
theorem ij.aq{d:DB}(q:ij P Pn d){i:Nat}{w:fJ}(hw:∀c∈w.log,P c.row):∀x∈d.aq.set i w,∀c∈x.log,P c.row:=fun x hx=>by
 rcases mXx hx with hx|hx
 ·exact q.log x hx
 ·rw[hx];exact hw
theorem ij.dM{d:DB}(q:ij P Pn d)(hd:cg){act:cW->cW×dV×Int}(ha:∀t,Pn t.S.name->(∀r∈t.rows,P r)->Pn (act t).1.S.name/\(∀r∈(act t).1.rows,P r)/\P (act t).2.1.row):ij P Pn (dM d hd act).1:=by
 have qh:=q.aL hd;unfold Go.S.dM;split
 ·exact qh
 ·split
  ·rename_i t w ht hw;have YL:=GD ht;have Ju:=GD hw;have iXT:=ha t (qh.nm t YL) (qh.rows t YL);split
   ·exact qh
   ·split
    ·refine ij.of (qh.dXw.set ⟨iXT.1,iXT.2.1⟩) (qh.aq fun c hc=>?_);have hc:c∈w.log++[_]:=hc;rcases mQv.1 hc with hc|hc
     ·exact qh.log w Ju c hc
     ·rcases mQs.1 hc with hc|hc
      ·rw[hc];exact iXT.2.2
      ·cases hc
    ·exact qh
  ·exact qh
theorem ij.fF{d:DB}(q:ij P Pn d)(s:Int)(nm:ByteArray){r:Row}(hr:P r):ij P Pn (fF d s nm r).1:=
 q.dM _ fun t h1 h2=>⟨by show Pn (bK t r).1.S.name;rw[lf];exact h1,fun x hx=>by
  rcases GH hx with hx|hx
  ·rw[hx];exact hr
  ·exact h2 x hx,hr⟩
end
theorem Ip{c:cK}{v:cO}(h:dx c v=0):fv v=0/\(v.k=0->c.null=true)/\(v.k=0\/v.k=c.kind):=by
 unfold dx at h;by_cases h1:fv v=0
 ·rw[h1]at h;refine⟨h1,?_,?_⟩
  ·intro hk;cases hn:c.null with
   |true=>rfl
   |false=>simp[hk,hn]at h
  ·by_cases hk:v.k=0
   ·exact .inl hk
   ·by_cases sJ:v.k=c.kind
    ·exact .inr sJ
    ·simp[hk,sJ]at h
 ·simp[h1]at h
theorem JQ{v:cO}(h:fv v=0):vU v (pT v)=true/\v.s.size<=60:=by
 unfold fv at h;split at h
 ·cases h
 ·split at h
  ·cases h
  ·rename_i h2;split at h
   ·cases h
   ·rename_i h3;have so:¬((v.s.size:Int)>60):=by simpa using h3
    refine⟨?_,by omega⟩;cases hs:vU v (pT v)with
    |true=>rfl
    |false=>rw[hs]at h2;simp at h2
theorem Um{r:Row}(h:dg bp r=0):fK r:=by
 unfold dg at h;split at h
 ·cases h
 ·rename_i hl;have hl:r.length=2:=by
   have:(r.length:Int)=(bp.length:Int):=by simpa using hl
   have e:bp.length=2:=rfl;rw[e]at this;omega
  match r,hl with
  | [a,b],_=>
   have h:fP [dx ⟨nA,2,false⟩ a,dx ⟨⟨#[98]⟩,3,true⟩ b]=0:=h;have h1:dx ⟨nA,2,false⟩ a=0:=by
    by_cases c:dx ⟨nA,2,false⟩ a=0
    ·exact c
    ·simp[fP,c]at h
   have h2:dx ⟨⟨#[98]⟩,3,true⟩ b=0:=by
    rw[h1]at h;by_cases c:dx ⟨⟨#[98]⟩,3,true⟩ b=0
    ·exact c
    ·simp[fP,c]at h
   obtain⟨ak,an,sa⟩:=a;obtain⟨bk,bn,sb⟩:=b;obtain⟨v1,n1,k1⟩:=Ip h1;obtain⟨v2,n2,k2⟩:=Ip h2;have k1:ak=2:=by
    rcases k1 with k|k
    ·exact absurd (n1 k) (by decide)
    ·exact k
   subst k1;obtain⟨s1,-⟩:=JQ v1;obtain⟨s2,z2⟩:=JQ v2;have e1:sa=fQ:=by simp[vU,pT]at s1;exact s1
   subst e1;refine⟨an,⟨bk,bn,sb⟩,rfl,?_⟩;rcases k2 with k|k
   ·have k:bk=0:=k;subst k;simp[vU,pT]at s2;left;rw[s2.1];have:sb=fQ:=s2.2;rw[this]
   ·have k:bk=3:=k;subst k;simp[vU,pT]at s2;right;exact⟨sb,by rw[s2],z2⟩
theorem QV{d:DB}{hd:cg}{act:cW->cW×dV×Int}(h:∀t∈(aL d hd).1.az,(act t).2.2≠0):(dM d hd act).1=(aL d hd).1:=by
 unfold dM;split
 ·rfl
 ·split
  ·rename_i t w ht hw;have:=h t (GD ht);split
   ·rfl
   ·rw[if_neg (by simpa using this)]
  ·rfl
theorem bJX{n:Nat}{d:DB}(q:SJ n d)(s:Int)(nm:ByteArray)(r:Row)(hs:-2^63<=s/\s<2^63):SJ (n+1) (fF d s nm r).1:=by
 by_cases h:dg bp r=0
 ·exact dXA q s nm hs (.inl (Um h))
 ·have hh:=yH q ⟨s,nm,true⟩ hs;have:(fF d s nm r).1=(aL d ⟨s,nm,true⟩).1:=QV fun t ht=>by
   have hc:=(hh.sc.tw.ok t ht).1;show(bK t r).2≠0;unfold bK;rw[hc,if_pos (by simpa using h)];exact h
  rw[this];exact hh
def fS(r:Row):Prop:=∀v∈r,kM v
structure EJ(n:Nat)(d:DB):Prop where
 sj:SJ n d
 al:ij fS UI d
theorem EJ.le{n m:Nat}{d:DB}(q:EJ n d)(h:n<=m):EJ m d:=⟨q.sj.le h,q.al⟩
theorem EJ.hold{n:Nat}{d:DB}(q:EJ n d)(hd:cg)(hs:-2^63<=hd.s/\hd.s<2^63):EJ (n+1) (aL d hd).1:=⟨yH q.sj hd hs,q.al.aL hd⟩
theorem EJ.put{n:Nat}{d:DB}(q:EJ n d){s:Int}(nm:ByteArray){r:Row}(hs:-2^63<=s/\s<2^63)(hr:fS r):EJ (n+1) (fF d s nm r).1:=⟨bJX q.sj s nm r hs,q.al.fF s nm hr⟩
structure bXU(T:cW):Prop where
 nm:UI T.S.name
 cols:T.S.cols=bp\/(T.S.cols=[]/\T.rows=[])
 key:T.S.key=0
 row:∀r∈T.rows,fK r/\fS r
 len:T.rows.length<=200
theorem Gf{l:By}(h:∀c∈l,c.toNat<128)(hl:l.length<=2^30):UI (aM l):=⟨oh.2 h,hl⟩
theorem XP:∀c∈bp,UI c.name:=by
 intro c hc;rcases mQs.1 hc with rfl|hc
 ·exact Gf (l:=[97]) (by decide) (by decide)
 ·rcases mQs.1 hc with rfl|hc
  ·exact Gf (l:=[98]) (by decide) (by decide)
  ·cases hc
theorem bXU.Bt{T:cW}(h:bXU T):∀c∈T.S.cols,UI c.name:=by
 rcases h.cols with e| ⟨e,-⟩
 ·rw[e];exact XP
 ·rw[e];intro c hc;cases hc
theorem EJ.held{n:Nat}{d:DB}(q:EJ n d)(nm:ByteArray):bXU (cI d nm):=by
 unfold cI;cases h:d.az.find? fun t=>decide (t.S.name=nm)with
 |none=>exact⟨Gf (l:=[]) (fun _ h=>by cases h) (by decide),.inr ⟨rfl,rfl⟩,rfl,(fun _ h=>by cases h),mQr _⟩
 |some t=>have YL:=mKK h;obtain⟨h1,h2,h3,-⟩:=q.sj.sc.tw.ok t YL;exact⟨q.al.nm t YL,.inl h1,h2,fun r hr=>⟨h3.ok r hr,q.al.rows t YL r hr⟩,h3.le⟩
theorem Bh{α:Type}(f:DB->α->DB×Int)(x:α)(r:List α)(d:DB):CV f (x::r) d=match f d x with
 | (d',e)=>if e≠0 then(d',e)else CV f r d':=rfl
theorem dZJ(nm:ByteArray){h:ad}{k:Value->ad->Prop}(hk:∀h' b n c,Le h h'->Sl 325 fx h' (.slice b n c) [iP nm]->k (.slice b n c) h'):Ct 287 [.string nm] h k:=by
 obtain⟨A,hA⟩:=Ar.ex;refine ah A (ax fKM.aK fKM.bF) Tryz.func287 rfl (by kernel_rfl) ?_;cbv;intro nb h1 f1 e1;have l1:Le h h1:=by rw[e1];exact Le.set f1
 have q:Sl 325 fx h1 (.slice (some ⟨nb,0,none⟩) 1 1) [iP nm]:=bA (s:=fx) ((congrFun e1 nb).trans ae) rfl;have af:=hk h1 _ _ _ l1 q;clear hk e1 q;cbv;exact af
def kI(c:cK):cK:=⟨c.name,2,c.null⟩
theorem ym{name:ByteArray}:∀(l m:List cK) (i:Int) (a:Option Int),l.map (·.name)=m.map (·.name)->js name l i a=js name m i a
 | [],[],_,none,_=>rfl
 | [],[],_,some _,_=>rfl
 | [],b::m,_,_,h=>by simp at h
 |a::l,[],_,_,h=>by simp at h
 |c::l,d::m,i,a,h=>by
  have h1:c.name=d.name:=by simp at h;exact h.1
  have h2:l.map (·.name)=m.map (·.name):=by simp at h;exact h.2
  rw[pf,pf,h1];cases pW name d.name with
  |false=>exact ym l m (i+1) a h2
  |true=>
   cases a with
   |some x=>rfl
   |none=>exact ym l m (i+1) (some i) h2
theorem Eu{name:ByteArray}:∀(l:List cK) (i:Int) (a:Option Int),(js name l i a).2≠0->(js name l i a).1=0
 | [],_,none,_=>rfl
 | [],_,some _,h=>absurd rfl h
 |c::l,i,a,h=>by
  rw[pf]at *;cases ht:pW name c.name with
  |false=>rw[ht]at h;exact Eu l (i+1) a h
  |true=>
   rw[ht]at h;cases a with
   |some x=>rfl
   |none=>exact Eu l (i+1) (some i) h
def tM:Nat->Nat->Row
 |_,0=>[]
 |i,n+1=>⟨2,(i:Int),b0⟩::tM (i+1) n
theorem Hx:∀(n i j:Nat),j<n->(tM i n)[j]? =some ⟨2,((i+j:Nat):Int),b0⟩
 |0,_,_,h=>by omega
 |n+1,i,0,_=>rfl
 |n+1,i,j+1,h=>by
  show(tM (i+1) n)[j]? =_;rw[Hx n (i+1) j (mKJ h),show i+1+j=i+(j+1)by omega]
theorem BU:∀(n i:Nat),(tM i n).length=n
 |0,_=>rfl
 |n+1,i=>by show(tM (i+1) n).length+1=_;rw[BU n]
theorem Kr:∀(n i:Nat),tM i n++[⟨2,((i+n:Nat):Int),b0⟩]=tM i (n+1)
 |0,i=>rfl
 |n+1,i=>by
  show _::(tM (i+1) n++_)=_::tM (i+1) (n+1);rw[<-Kr n (i+1),show i+1+n=i+(n+1)by omega]
theorem Ym{nm:ByteArray}{cols:List cK}:∃v,eP [iP nm] (cols.map kI) (tM 0 cols.length)=(v,(gS nm cols).2)/\v.n=(gS nm cols).1:=by
 have hf:gS nm (cols.map kI)=gS nm cols:=ym _ _ _ _ (by rw[mXB];rfl);have nR:=QE (name:=nm) cols 0 none (gS nm cols) rfl (.inl rfl) (by decide);have jXY:=Eu (name:=nm) cols 0 none;have e1:Ag (iP nm) [] (cols.map kI)=match gS nm (cols.map kI)with
  | (c,e)=>if e≠0 then(0,e)else(match (cols.map kI)[c.toNat]? with
   |some c=>(c.kind,0)
   |none=>(0,0)):=rfl
 rw[hf]at e1;have e2:jv [iP nm] (cols.map kI)=match eK (cols.map kI) [iP nm] []with
  | (l,f)=>if f≠0 then(0,f)else(Af l,0):=rfl
 rw[gP,e1]at e2;have e3:xM (iP nm) [] (cols.map kI) (tM 0 cols.length)=match gS nm (cols.map kI)with
  | (c,_)=>some (fT (tM 0 cols.length) c):=rfl
 rw[hf]at e3;have e4:eP [iP nm] (cols.map kI) (tM 0 cols.length)=match jv [iP nm] (cols.map kI)with
  | (_,f)=>if f≠0 then(v0,f)else match gM (cols.map kI) (tM 0 cols.length) [iP nm] []with
   |some l=>(xV l,0)
   |none=>(v0,11):=rfl
 rw[xL]at e4;change (gS nm cols).2≠0->(gS nm cols).1=0 at jXY;generalize gS nm cols=P at *;obtain⟨c,e⟩:=P;by_cases h0:e=0
 ·subst h0;have hb:=nR rfl;obtain⟨x,hx⟩:=aE (xs:=cols) (i:=c.toNat) (by have:=hb.2;have:=hb.1;simp at *;omega);have KC:(cols.map kI)[c.toNat]? =some (kI x):=by rw[mQU,hx];rfl
  have Jj:jv [iP nm] (cols.map kI)=(2,0):=by rw[e2];simp only[KC];rfl
  have hc:c.toNat<cols.length:=(HH.1 hx).1;have hv:fT (tM 0 cols.length) c=⟨2,c,b0⟩:=by rw[lD (Hx cols.length 0 c.toNat hc) (by have:=hb.1;simp at *;omega)];congr 1;have:=hb.1;simp at *;omega
  refine⟨⟨2,c,b0⟩,?_,rfl⟩;have eZW:xM (iP nm) [] (cols.map kI) (tM 0 cols.length)=some ⟨2,c,b0⟩:=by rw[e3];show some (fT _ c)=_;rw[hv]
  rw[e4,Jj,eZW];rfl
 ·refine⟨v0,?_,(jXY h0).symm⟩;have Jj:jv [iP nm] (cols.map kI)=(0,e):=by rw[e2];simp[h0]
  rw[e4,Jj];simp[h0]
theorem aZz{nm:ByteArray}(hn:Nm nm){cols:List cK}(hc:∀c∈cols,Nm c.name){h:ad}{cb:Option Addr}{cn cc:Nat}(qc:Sl 165 bI h (.slice cb cn cc) cols){k:Value->ad->Prop}
 (hk:∀h',Le h h'->k (.tuple #[.int .i64 (gS nm cols).1,.int .i64 (gS nm cols).2]) h'):Ct 250 [.string nm,.slice cb cn cc] h k:=by
 obtain⟨A,hA⟩:=Ar.ex;have DF:=qc.len;have lKn:=qc.bound;obtain⟨pv,jXz,EV⟩:=Ym (nm:=nm) (cols:=cols);rw[<-DF]at jXz;rw[<-EV]at hk;generalize (gS nm cols).2=pe at *;have kKS:∀c∈cols.map kI,Nm c.name:=fun c CG=>by
  obtain⟨c0,h1,h2⟩:=mQO.1 CG;rw[<-h2];exact hc c0 h1
 have fZ:∀v∈tM 0 cn,kM v:=fun v hv=>by
  obtain⟨j,hj⟩:=mQZ hv;have tX:j<cn:=by have:=(HH.1 hj).1;rw[BU]at this;exact this
  rw[Hx cn 0 j tX]at hj;cases hj;show rr _=true;rw[jP];have Im:(2:Nat)^40=1099511627776:=rfl;show -9223372036854775808<=((0+j:Nat):Int)/\((0+j:Nat):Int)<=9223372036854775807;omega
 have kKt:∀v,0<=v/\v<(cn:Int)->aS v v.toNat:=fun v hv=>⟨by omega⟩;obtain⟨J,dY⟩:∃J:Option Addr×Nat×Nat->ad->Prop,∀g h',J g h'=(Le h h'/\cF 165 bI h h' (.slice g.1 cn g.2.1) cols/\fX 61 bq h' g.2.2 cn []/\h g.2.2=none):=⟨_,fun _ _=>rfl⟩;refine zo A [false,true] (ax gQm.aK gQm.bF) Tryz.func250 rfl (by kernel_rfl) ?_;cbv;refine Dw.go (G:=Option Addr×Nat×Nat) (fun g=>[(6,.v (.slice g.1 cn g.2.1)),(7,.v (.slice (some ⟨g.2.2,0,none⟩) cn cn))]) (fun _=>[]) J ?_ ?_
 ·have first:∀h1 b' c',Le h h1->cF 165 bI h h1 (.slice b' cn c') cols->∀nb h2,h1 nb=none->Le h1 h2->fX 61 bq h2 nb cn []->J (b',c',nb) h2:=fun h1 b' c' l1 qb nb h2 f2 l2 o=>by
   rw[dY];exact⟨l1.trans l2,qb.mono (l2.t _),o,by
    cases hh:h nb with
    |none=>rfl
    |some x=>rw[l1 _ _ hh]at f2;cases f2⟩
  have second:∀nb h1,h nb=none->Le h h1->fX 61 bq h1 nb cn []->∀h2 b' c',Le h1 h2->cF 165 bI h1 h2 (.slice b' cn c') cols->J (b',c',nb) h2:=fun nb h1 f1 l1 o h2 b' c' l2 qb=>by
   rw[dY];exact⟨l1.trans l2,qb.base l1,o.mono (l2.t _),f1⟩
  clear dY hk;cbv;refine⟨?_,?_⟩
  ·refine(EC qc).mono (fun v h1 hR=>?_);obtain⟨l1,b',c',hv,qb⟩:=hR;subst hv;have first:=first h1 b' c' l1 qb
   cbv;refine⟨?_,?_⟩
   ·refine nJ (s:=bq) rfl (by omega) (by decide) (fun nb h2 f2 l2 o=>?_);have af:=first nb h2 f2 l2 o
    clear first second
    cbv;refine⟨(_,_,_),⟨?_,?_,?_⟩,af⟩
    ·cbv
    ·cbv
    ·cbv
   ·refine nJ (s:=bq) rfl (by omega) (by decide) (fun nb h2 f2 l2 o=>?_);have af:=first nb h2 f2 l2 o
    clear first second
    cbv;refine⟨(_,_,_),⟨?_,?_,?_⟩,af⟩
    ·cbv
    ·cbv
    ·cbv
  ·refine nJ (s:=bq) rfl (by omega) (by decide) (fun nb h1 f1 l1 o=>?_);have second:=second nb h1 f1 l1 o;cbv;refine(EC (qc.mono (l1.t _))).mono (fun v h2 hR=>?_);obtain⟨l2,b',c',hv,qb⟩:=hR;subst hv;have af:=second h2 b' c' l2 qb;clear first second
   cbv;refine⟨(_,_,_),⟨?_,?_,?_⟩,af⟩
   ·cbv
   ·cbv
   ·cbv
 ·intro g h1 hg;rw[dY]at hg;obtain⟨gb,gc,rb⟩:=g;obtain⟨l1,qb,o,KJ⟩:=hg;replace qb:cF 165 bI h h1 (.slice gb cn gc) cols:=qb;replace o:fX 61 bq h1 rb cn []:=o;replace KJ:h rb=none:=KJ;have hL:∀h2,Le h h2->Sl 165 bI h2 (.slice gb cn gc) (cols.map kI)->Sl 61 bq h2 (.slice (some ⟨rb,0,none⟩) cn cn) (tM 0 cn)->∀h3 xb xn xc,Le h2 h3->Sl 325 fx h3 (.slice xb xn xc) [iP nm]->
   Ct 163 [.slice xb xn xc,.slice gb cn gc,.slice (some ⟨rb,0,none⟩) cn cn] h3 (fun r h4=>Le h h4/\r=.tuple #[pv.v,.int .i64 pe]):=fun h2 l2 s1 s2 h3 xb xn xc l3 sx=>Gx (fun n hh=>by
    rcases mQs.1 hh with rfl|hh
    ·exact⟨hn,kA⟩
    ·cases hh) kKS fZ sx (s1.mono (l3.t _)) (s2.mono (l3.t _)) (fun h4 v e w l4 hv hw=>by
     rw[jXz]at hv;cases hv;exact⟨l2.trans (l3.trans l4),by rw[hw]⟩)
  obtain⟨I,aY⟩:∃I:Nat->Int->ad->Prop,∀m z h',I m z h'=∃i,aS z i/\i<=cn/\m=cn-i/\Le h h'/\fX 61 bq h' rb cn (tM 0 i)/\(cn=0\/∃nb,gb=some ⟨nb,0,none⟩/\h nb=none/\fX 165 bI h' nb gc ((cols.take i).map kI++cols.drop i)):=⟨_,fun _ _ _=>rfl⟩;have hJ:I cn 0 h1:=by
   rw[aY];refine⟨0,⟨rfl⟩,mQr _,rfl,l1,o,?_⟩;rcases qb.out with ⟨b0,g1,g2⟩ | ⟨nb,cap,g1,g2,o2⟩
   ·cases g1;exact .inl rfl
   ·cases g1;exact .inr ⟨nb,rfl,g2,o2⟩
  clear dY o qb;cbv;refine aX.go (G:=Int) (fun z=>[(18,.v (.int .i64 z))]) (fun _=>[]) (fun m z h'=>I m z h') cn 0 ⟨?_,?_,?_⟩ hJ ?_
  ·cbv
  ·cbv
  ·cbv
  ·intro m z h2 hI;rw[aY]at hI;cbv;obtain⟨i,hz,hi,hm,l2,hJt,gR⟩:=hI;have f1:A .aI .lss z (A .nat cn)=decide (i<cn):=hz.iJ (aS.nat cn);rw[f1];by_cases aP:i<cn
   ·obtain⟨nb,aKL,gY,oc⟩:=gR.resolve_left (by omega);subst aKL;obtain⟨c,eZF⟩:=aE (xs:=cols) (i:=i) (by omega);have hg:=VJ (f:=kI) eZF;have mX:=VI (f:=kI) eZF;have hlen:((cols.take i).map kI++cols.drop i).length=cn:=by simp;omega
    generalize (cols.take i).map kI++cols.drop i=L at *;have cJ:0<=z/\z<(cn:Int):=hz.ix aP;have cN:=hz.eq;have cZ:=hz.succ (A:=A) (by omega);have kX:cn-(i+1)<m:=by omega
    have Al:=BU i 0;have Wc:=Kr i 0;rw[mQY]at Wc;have cD:∀h3,Le h h3->fX 61 bq h3 rb cn (tM 0 (i+1))->fX 165 bI h3 nb gc (L.set i (kI c))->I (cn-(i+1)) (A .bB .add .i64 z 1) h3:=fun h3 l3 o1 o2=>by
     rw[aY];exact⟨i+1,cZ,aP,rfl,l3,o1,.inr ⟨nb,rfl,gY,by rw[<-mX];exact o2⟩⟩
    clear aY hJ hL cZ hk;rw[kS aP];cbv;refine⟨⟨rfl,cJ⟩,?_⟩;cbv;refine oc.LS (by decide) hg cN rfl (off:=1) (new:=[.int .i64 2]) (show 1+1<=3 by omega) (x':=kI c) (fun cs ay=>?_) (fun h3 k3 t3 kZs=>?_)
    ·obtain⟨Bt,Ln,WT⟩:=c;have ay:cs=[.string Bt,.int .i64 Ln,.bool WT]:=ay;subst ay;rfl
    ·have kZq:=hJt.mono (t3 _ (by decide));have l3:Le h h3:=l2.dJ (fun b hb=>by rw[mQA.1 hb];exact gY) k3;clear oc hJt;cbv;refine⟨⟨rfl,cJ⟩,?_⟩;cbv;refine kZq.store (by decide) (i:=i) (x:=⟨2,(i:Int),b0⟩) (by rw[Al];exact mQt _) aP (by omega) cN rfl (by rw[cN];rfl) (fun h4 k4 t4 jQs=>?_);rw[Al,if_neg (by omega),Wc]at jQs;have jd:=cD h4 (l3.dJ (fun b hb=>by rw[mQA.1 hb];exact KJ) k4) jQs (kZs.mono (t4 _ (by decide)));clear cD;cbv;refine⟨cn-(i+1),A .bB .add .i64 z 1,kX,⟨?_,?_,?_⟩,jd⟩
     ·cbv
     ·cbv
     ·cbv
   ·have lW:i=cn:=by omega
    subst lW;have s2:Sl 61 bq h2 (.slice (some ⟨rb,0,none⟩) i i) (tM 0 i):=hJt.sl (BU i 0).symm;have s1:Sl 165 bI h2 (.slice gb i gc) (cols.map kI):=by
     rcases gR with h0| ⟨nb,aKL,gY,oc⟩
     ·have:cols=[]:=mXs.1 (by omega);subst this;subst h0;exact Sl.nil
     ·subst aKL;rw[mQM (by omega),mQR (by omega),mQF]at oc;exact oc.sl (by rw[mQz,DF])
    have hV:=hL h2 l2 s1 s2;clear aY hJ hL;rw[nM aP];cbv;refine dZJ nm (fun h3 xb xn xc l3 sx=>?_);cbv;refine(hV h3 xb xn xc l3 sx).mono (fun r h4 hR=>?_);obtain⟨l4,hr⟩:=hR;subst hr;have af:=hk h4 l4;obtain⟨vk,vn,vs⟩:=pv;clear hk hV;cbv;exact af
structure oC(h:ad)(qp:Nat)(x:aJ)(cols:List cK)(y:Qy):Prop where
 out:∃b5 n5 c5 b6 n6 c6 b7 n7 c7 b8 n8 c8 b9 n9 c9 gW jD gT cb cn cc,h qp=some (.cells #[.int .i64 x.kind,.string x.sE.name,.slice b5 n5 c5,.int .i64 x.sE.key,.bool x.sE.only,.string x.table,.string x.join,.slice b6 n6 c6,.slice b7 n7 c7,.slice b8 n8 c8,.slice b9 n9 c9,.slice gW jD gT,.string x.group,.string x.order,.bool x.desc,.int .i64 x.eG,.string x.name,.slice cb cn cc,.int .i64 y.group,.int .i64 y.order,.bool y.kK] 188 (0,0))/\Sl 165 bI h (.slice b5 n5 c5) x.sE.cols/\Sl 325 fx h (.slice b6 n6 c6) x.on/\Sl 9 dX h (.slice b7 n7 c7) x.names/\Sl 42 jM h (.slice b8 n8 c8) x.exprs/\Sl 276 eI h (.slice b9 n9 c9) x.items/\Sl 325 fx h (.slice gW jD gT) x.bV/\Sl 165 bI h (.slice cb cn cc) cols
theorem oC.elim{h:ad}{qp:Nat}{x:aJ}{cols:List cK}{y:Qy}(q:oC h qp x cols y){p:Prop}(k:∀b5 n5 c5 b6 n6 c6 b7 n7 c7 b8 n8 c8 b9 n9 c9 gW jD gT cb cn cc,h qp=some (.cells #[.int .i64 x.kind,.string x.sE.name,.slice b5 n5 c5,.int .i64 x.sE.key,.bool x.sE.only,.string x.table,.string x.join,.slice b6 n6 c6,.slice b7 n7 c7,.slice b8 n8 c8,.slice b9 n9 c9,.slice gW jD gT,.string x.group,.string x.order,.bool x.desc,.int .i64 x.eG,.string x.name,.slice cb cn cc,.int .i64 y.group,.int .i64 y.order,.bool y.kK] 188 (0,0))->Sl 165 bI h (.slice b5 n5 c5) x.sE.cols->Sl 325 fx h (.slice b6 n6 c6) x.on->Sl 9 dX h (.slice b7 n7 c7) x.names->Sl 42 jM h (.slice b8 n8 c8) x.exprs->Sl 276 eI h (.slice b9 n9 c9) x.items->Sl 325 fx h (.slice gW jD gT) x.bV->Sl 165 bI h (.slice cb cn cc) cols->p):p:=by obtain⟨b5,n5,c5,b6,n6,c6,b7,n7,c7,b8,n8,c8,b9,n9,c9,gW,jD,gT,cb,cn,cc,g,q1,q2,q3,q4,q5,q6,q7⟩:=q.out;exact k b5 n5 c5 b6 n6 c6 b7 n7 c7 b8 n8 c8 b9 n9 c9 gW jD gT cb cn cc g q1 q2 q3 q4 q5 q6 q7
theorem oC.lt{h h':ad}{qp:Nat}{x:aJ}{cols:List cK}{y:Qy}(q:oC h qp x cols y)(hb:h' qp=h qp)(l:bR uB h h'):oC h' qp x cols y:=by obtain⟨b5,n5,c5,b6,n6,c6,b7,n7,c7,b8,n8,c8,b9,n9,c9,gW,jD,gT,cb,cn,cc,g,q1,q2,q3,q4,q5,q6,q7⟩:=q.out;exact⟨b5,n5,c5,b6,n6,c6,b7,n7,c7,b8,n8,c8,b9,n9,c9,gW,jD,gT,cb,cn,cc,hb.trans g,q1.mono (l.sub (by decide)),q2.mono (l.sub (by decide)),q3.mono (l.sub (by decide)),q4.mono (l.sub (by decide)),q5.mono (l.sub (by decide)),q6.mono (l.sub (by decide)),q7.mono (l.sub (by decide))⟩
theorem oC.mono{h h':ad}{qp:Nat}{x:aJ}{cols:List cK}{y:Qy}(q:oC h qp x cols y)(l:Le h h'):oC h' qp x cols y:=by refine q.lt ?_ (l.t _);obtain⟨b5,n5,c5,b6,n6,c6,b7,n7,c7,b8,n8,c8,b9,n9,c9,gW,jD,gT,cb,cn,cc,g,-⟩:=q.out;rw[g];exact l _ _ g
theorem oC.has{h:ad}{qp:Nat}{x:aJ}{cols:List cK}{y:Qy}(q:oC h qp x cols y):∃c,h qp=some (.cells c 188 (0,0)):=by obtain⟨b5,n5,c5,b6,n6,c6,b7,n7,c7,b8,n8,c8,b9,n9,c9,gW,jD,gT,cb,cn,cc,g,-⟩:=q.out;exact⟨_,g⟩
theorem WS{h:ad}{qp:Nat}{x:aJ}{cols:List cK}{y:Qy}(q:oC h qp x cols y)(hc:∀c∈cols,Nm c.name){nm:ByteArray}(hn:Nm nm){k:Value->ad->Prop}
 (hk:∀h',Le h h'->k (.tuple #[.int .i64 (bN nm cols).1,.int .i64 (bN nm cols).2]) h'):Ct 181 [.pointer (some ⟨qp,0,none⟩),.string nm] h k:=by
 obtain⟨A,hA⟩:=Ar.ex;have hP:bN nm cols=if nm=b0 then(-1,0)else gS nm cols:=rfl
 have f1:A .iQ .eql nm ⟨#[]⟩=decide (nm=b0):=cS A ..;refine q.elim (fun b5 n5 c5 b6 n6 c6 b7 n7 c7 b8 n8 c8 b9 n9 c9 gW jD gT cb cn cc g q1 q2 q3 q4 q5 q6 q7=>?_);clear q1 q2 q3 q4 q5 q6;generalize bN nm cols=D at *;refine ah A (ax gXj.aK gXj.bF) Tryz.func181 rfl (by kernel_rfl) ?_;cbv;rw[f1];by_cases h0:nm=b0
 ·rw[if_pos h0]at hP;subst hP;have af:=hk h (Le.refl _);clear hk;rw[kS h0];cbv;exact af
 ·rw[if_neg h0]at hP;rw[hP]at hk;rw[nM h0];cbv;repeat (first| ((try rw[ai A]);(try rw[ai A]);refine aB g rfl rfl ?_;cbv) | (refine⟨⟨_,rfl,rfl⟩,?_⟩;cbv))
  refine aZz hn hc q7 (fun h1 l1=>?_);have af:=hk h1 l1;clear hk hP;generalize gS nm cols=E at *;obtain⟨e1,e2⟩:=E;cbv;exact af
theorem fQH{h:ad}{qp:Nat}{x:aJ}{cols:List cK}{y:Qy}(q:oC h qp x cols y)(hc:∀c∈cols,Nm c.name){i:dO}(hi:iY i.e){ib:Option Addr}{im ic:Nat}(qi:Sl 325 fx h (.slice ib im ic) i.e){k:Value->ad->Prop}
 (hk:∀h',Le h h'->k (.int .i64 (lT cols i)) h'):Ct 179 [.pointer (some ⟨qp,0,none⟩),.agg #[.int .i64 i.fn,.slice ib im ic]] h k:=by
 obtain⟨A,hA⟩:=Ar.ex;have hP:lT cols i=if i.fn=1 then 0 else if i.fn=2 then ku i.e cols 2 else(jv i.e cols).2:=rfl
 have f1:A .aI .eql i.fn 1=decide (i.fn=1):=aA A ..;have f2:A .aI .eql i.fn 2=decide (i.fn=2):=aA A ..;refine q.elim (fun b5 n5 c5 b6 n6 c6 b7 n7 c7 b8 n8 c8 b9 n9 c9 gW jD gT cb cn cc g q1 q2 q3 q4 q5 q6 q7=>?_);clear q1 q2 q3 q4 q5 q6;generalize lT cols i=D at *;obtain⟨fn,ie⟩:=i;replace hi:iY ie:=hi;replace f1:A .aI .eql fn 1=decide (fn=1):=f1;replace f2:A .aI .eql fn 2=decide (fn=2):=f2;replace hP:D=if fn=1 then 0 else if fn=2 then ku ie cols 2 else(jv ie cols).2:=hP
 refine ah A (ax gXl.aK gXl.bF) Tryz.func179 rfl (by kernel_rfl) ?_;cbv;rw[f1];by_cases h1:fn=1
 ·rw[if_pos h1]at hP;subst hP;have af:=hk h (Le.refl _);clear hk;rw[kS h1];cbv;exact af
 rw[if_neg h1]at hP;rw[nM h1];cbv;rw[f2];by_cases h2:fn=2
 ·rw[if_pos h2]at hP;rw[kS h2];cbv;repeat (first| ((try rw[ai A]);(try rw[ai A]);refine aB g rfl rfl ?_;cbv) | (refine⟨⟨_,rfl,rfl⟩,?_⟩;cbv))
  refine My hi hc 2 qi q7 (fun h1 e l1 he=>?_);rw[<-hP]at he;subst he;have af:=hk h1 l1;clear hk hP;cbv;exact af
 ·rw[if_neg h2]at hP;rw[nM h2];cbv;repeat (first| ((try rw[ai A]);(try rw[ai A]);refine aB g rfl rfl ?_;cbv) | (refine⟨⟨_,rfl,rfl⟩,?_⟩;cbv))
  refine bZb (fun n hh=>(hi n hh).1) hc qi q7 (fun h1 a e l1 he=>?_);rw[<-he]at hP;subst hP;have af:=hk h1 l1;clear hk he;cbv;exact af
theorem Qu(cols:List cK)(yg fn:Int)(ie:List Nd):cM cols yg ⟨fn,ie⟩=if fn≠0 then 0 else if yg<0 then 3 else match ie with
 | [n]=>if n.op≠2 then 3 else match gS n.name cols with
  | (k,e)=>if e≠0\/k≠yg then 3 else 0
 |_=>3:=rfl
theorem CK{h:ad}{qp:Nat}{x:aJ}{cols:List cK}{y:Qy}(q:oC h qp x cols y)(hc:∀c∈cols,Nm c.name){i:dO}(hi:iY i.e){ib:Option Addr}{im ic:Nat}(qi:Sl 325 fx h (.slice ib im ic) i.e){k:Value->ad->Prop}
 (hk:∀h',Le h h'->k (.int .i64 (cM cols y.group i)) h'):Ct 187 [.pointer (some ⟨qp,0,none⟩),.agg #[.int .i64 i.fn,.slice ib im ic]] h k:=by
 obtain⟨A,hA⟩:=Ar.ex;have MQ:=qi.len;have f1:A .aI .neq i.fn 0=decide (i.fn≠0):=aC A ..;have f2:A .aI .lss y.group 0=decide (y.group<0):=bm A ..;have f3:A .aI .neq (A .nat im) 1=decide (im≠1):=by rw[aC A,hA.nat,decide_eq_decide,mQJ];omega
 refine q.elim (fun b5 n5 c5 b6 n6 c6 b7 n7 c7 b8 n8 c8 b9 n9 c9 gW jD gT cb cn cc g q1 q2 q3 q4 q5 q6 q7=>?_);clear q1 q2 q3 q4 q5 q6;obtain⟨fn,ie⟩:=i;obtain⟨yg,yo,ya⟩:=y;replace hi:iY ie:=hi;replace f1:A .aI .neq fn 0=decide (fn≠0):=f1;replace f2:A .aI .lss yg 0=decide (yg<0):=f2;replace qi:Sl 325 fx h (.slice ib im ic) ie:=qi;replace MQ:im=ie.length:=MQ;have hP:=Qu cols yg fn ie;replace hk:∀h',Le h h'->k (.int .i64 (cM cols yg ⟨fn,ie⟩)) h':=hk;generalize cM cols yg ⟨fn,ie⟩=D at *;refine ah A (ax gXe.aK gXe.bF) Tryz.func187 rfl (by kernel_rfl) ?_;cbv;rw[f1];by_cases h1:fn≠0
 ·rw[if_pos h1]at hP;subst hP;have af:=hk h (Le.refl _);clear hk;rw[kS h1];cbv;exact af
 rw[if_neg h1]at hP;rw[nM h1];cbv;repeat (first| ((try rw[ai A]);(try rw[ai A]);refine aB g rfl rfl ?_;cbv) | (refine⟨⟨_,rfl,rfl⟩,?_⟩;cbv))
 rw[f2];by_cases h2:yg<0
 ·rw[if_pos h2]at hP;subst hP;have af:=hk h (Le.refl _);clear hk;rw[kS h2];cbv;exact af
 rw[if_neg h2]at hP;rw[nM h2];cbv;rw[f3];by_cases h3:im≠1
 ·have hP:D=3:=by
   rw[hP]
   match ie,MQ with
   | [],_=>rfl
   | [n],hm=>exact absurd hm h3
   |a::b::l,_=>rfl
  subst hP;have af:=hk h (Le.refl _);clear hk;rw[kS h3];cbv;exact af
 have dKV:im=1:=mQW.1 h3;obtain⟨n,lW⟩:∃n,ie=[n]:=by
  match ie,MQ with
  | [],hm=>rw[dKV]at hm;cases hm
  | [n],hm=>exact⟨n,rfl⟩
  |a::b::l,hm=>rw[dKV]at hm;simp at hm
 subst lW;replace hP:D=if n.op≠2 then 3 else match gS n.name cols with
  | (k,e)=>if e≠0\/k≠yg then 3 else 0:=hP
 have hx:[n][0]? =some n:=rfl;have cJ:ib.isSome=true/\(0:Int)<=0/\(0:Int)<(im:Int):=⟨qi.aT (by omega),by omega,by omega⟩;have fo:A .aI .neq n.op 2=decide (n.op≠2):=aC A ..;rw[nM h3];cbv;refine⟨cJ,?_⟩;cbv;refine qi.cC hx rfl (o:=0) (m:=1) (by decide) (fun cs ay=>?_);obtain⟨op,na,nb,⟨vk,vn,vs⟩,eKS⟩:=n;have ay:cs=[.int .i64 op,.int .i64 na,.int .i64 nb,.int .i64 vk,.int .i64 vn,.string vs,.string eKS]:=ay;subst ay;replace fo:A .aI .neq op 2=decide (op≠2):=fo;replace hP:D=if op≠2 then 3 else match gS eKS cols with
  | (k,e)=>if e≠0\/k≠yg then 3 else 0:=hP
 have qC:Nm eKS:=(hi _ mQE).1;cbv;rw[fo];by_cases h4:op≠2
 ·rw[if_pos h4]at hP;subst hP;have af:=hk h (Le.refl _);clear hk;rw[kS h4];cbv;exact af
 rw[if_neg h4]at hP;rw[nM h4];cbv;refine⟨cJ,?_⟩;cbv;refine qi.cC hx rfl (o:=6) (m:=1) (by decide) (fun cs ay=>?_);have ay:cs=[.int .i64 op,.int .i64 na,.int .i64 nb,.int .i64 vk,.int .i64 vn,.string vs,.string eKS]:=ay;subst ay;cbv;repeat (first| ((try rw[ai A]);(try rw[ai A]);refine aB g rfl rfl ?_;cbv) | (refine⟨⟨_,rfl,rfl⟩,?_⟩;cbv))
 refine aZz qC hc q7 (fun h5 l5=>?_);generalize gS eKS cols=E at *;obtain⟨e1,e2⟩:=E;replace hP:D=if e2≠0\/e1≠yg then 3 else 0:=hP
 have g5:=l5 _ _ g;have hk:=fun z (hz:z=D)=>(by rw[hz];exact hk h5 l5:k (.int .i64 z) h5);have f5:A .aI .neq e2 0=decide (e2≠0):=aC A ..;have f6:A .aI .neq e1 yg=decide (e1≠yg):=aC A ..;cbv;rw[f5];by_cases iZy:e2≠0
 ·rw[if_pos (.inl iZy)]at hP;have af:=hk 3 hP.symm;clear hk;rw[kS iZy];cbv;exact af
 ·rw[nM iZy];cbv;repeat (first| ((try rw[ai A]);(try rw[ai A]);refine aB g5 rfl rfl ?_;cbv) | (refine⟨⟨_,rfl,rfl⟩,?_⟩;cbv))
  rw[f6];by_cases h6:e1≠yg
  ·rw[if_pos (.inr h6)]at hP;have af:=hk 3 hP.symm;clear hk;rw[kS h6];cbv;exact af
  ·rw[if_neg (by rintro(g|g)<;>contradiction)]at hP;have af:=hk 0 hP.symm;clear hk;rw[nM h6];cbv;exact af
end Go.S
