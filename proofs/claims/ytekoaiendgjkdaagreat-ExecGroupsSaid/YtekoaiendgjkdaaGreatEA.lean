import Derived.Test.YtekoaiendgjkdaaGreatDB
import Derived.Test.YtekoaiendgjkdaaGreatRd
set_option linter.unusedVariables false
set_option linter.unusedSimpArgs false
set_option linter.unusedSectionVars false
set_option maxRecDepth 100000
namespace Go.S
open Go.Sx Go.Proofs
theorem po{xs:List cg}{h:ad}{b:Option Addr}{len cap:Nat}(q:Sl 205 bG h (.slice b len cap) xs):
 Ct 116 [.slice b len cap] h (fun v h'=>Le h h'/\∃b' ju,v=.slice b' len ju/\cF 205 bG h h' (.slice b' len ju) xs):=by
 obtain⟨A,hA⟩:=Ar.ex;refine ah A (ax cZZ.aK cZZ.bF) Tryz.func116 rfl (by kernel_rfl) ?_;cbv;refine bh (fun hc=>?_) (fun hc=>?_)
 ·rw[hA.HO]at hc;cbv;have hb:b=none:=by cases b<;>simp at hc |-
  subst hb;have hl:len=0:=by
   rcases mXw len with e|e
   ·exact e
   ·have:=q.aT e;cases this
  have:=q.len;have hx:xs=[]:=mQT (by omega);subst hx hl;exact⟨Le.refl _,none,0,rfl,cF.nil⟩
 ·cbv;intro n0 h1 nf iW;have hle:Le h h1:=by rw[iW];exact Le.set nf
  cbv;refine dz (q.mono (hle.t _)) (by simp[bG]) rfl (by decide) (fun hn=>?_) (fun nb c h2 e1 e2 e3 e4=>?_)
  ·cbv;have:=q.len;have hx:xs=[]:=mQT (by omega);subst hx hn;exact⟨hle,_,_,rfl,cF.nil⟩
  ·cbv;exact⟨hle.trans e3,_,_,rfl,e4.buf (hle.none e1) q.len⟩
theorem EC{xs:List cK}{h:ad}{b:Option Addr}{len cap:Nat}(q:Sl 165 bI h (.slice b len cap) xs):
 Ct 169 [.slice b len cap] h (fun v h'=>Le h h'/\∃b' ju,v=.slice b' len ju/\cF 165 bI h h' (.slice b' len ju) xs):=by
 obtain⟨A,hA⟩:=Ar.ex;refine ah A (ax cZY.aK cZY.bF) Tryz.func169 rfl (by kernel_rfl) ?_;cbv;refine bh (fun hc=>?_) (fun hc=>?_)
 ·rw[hA.HO]at hc;cbv;have hb:b=none:=by cases b<;>simp at hc |-
  subst hb;have hl:len=0:=by
   rcases mXw len with e|e
   ·exact e
   ·have:=q.aT e;cases this
  have:=q.len;have hx:xs=[]:=mQT (by omega);subst hx hl;exact⟨Le.refl _,none,0,rfl,cF.nil⟩
 ·cbv;intro n0 h1 nf iW;have hle:Le h h1:=by rw[iW];exact Le.set nf
  cbv;refine dz (q.mono (hle.t _)) (by simp[bI]) rfl (by decide) (fun hn=>?_) (fun nb c h2 e1 e2 e3 e4=>?_)
  ·cbv;have:=q.len;have hx:xs=[]:=mQT (by omega);subst hx hn;exact⟨hle,_,_,rfl,cF.nil⟩
  ·cbv;exact⟨hle.trans e3,_,_,rfl,e4.buf (hle.none e1) q.len⟩
theorem mU{xs:List cO}{h:ad}{b:Option Addr}{len cap:Nat}(q:Sl 61 bq h (.slice b len cap) xs):
 Ct 90 [.slice b len cap] h (fun v h'=>Le h h'/\∃b' ju,v=.slice b' len ju/\cF 61 bq h h' (.slice b' len ju) xs):=by
 obtain⟨A,hA⟩:=Ar.ex;refine ah A (ax gKZ.aK gKZ.bF) Tryz.func90 rfl (by kernel_rfl) ?_;cbv;refine bh (fun hc=>?_) (fun hc=>?_)
 ·rw[hA.HO]at hc;cbv;have hb:b=none:=by cases b<;>simp at hc |-
  subst hb;have hl:len=0:=by
   rcases mXw len with e|e
   ·exact e
   ·have:=q.aT e;cases this
  have:=q.len;have hx:xs=[]:=mQT (by omega);subst hx hl;exact⟨Le.refl _,none,0,rfl,cF.nil⟩
 ·cbv;intro n0 h1 nf iW;have hle:Le h h1:=by rw[iW];exact Le.set nf
  cbv;refine dz (q.mono (hle.t _)) (by simp[bq]) rfl (by decide) (fun hn=>?_) (fun nb c h2 e1 e2 e3 e4=>?_)
  ·cbv;have:=q.len;have hx:xs=[]:=mQT (by omega);subst hx hn;exact⟨hle,_,_,rfl,cF.nil⟩
  ·cbv;exact⟨hle.trans e3,_,_,rfl,e4.buf (hle.none e1) q.len⟩
abbrev cg.v(h:cg):Value:=.agg #[.int .i64 h.s,.string h.table,.bool h.x]
def eL(a b:cg):Bool:=decide (a.s≠b.s)&&(decide (a.table=b.table)&&(a.x||b.x))
def bX(l:List cg)(s:Int):List cg:=l.filter fun h=>decide (h.s≠s)
def jJ(h o:cg):Bool:=decide (o.s=h.s)&&decide (o.table=h.table)
theorem bKF{s1:Int}{t1:ByteArray}{x1:Bool}{hd:cg}{h:ad}{nb:Nat}(g:h nb=some (.cells #[.int .i64 hd.s,.string hd.table,.bool hd.x] 205 (0,0))):
 Ct 325 [.agg #[.int .i64 s1,.string t1,.bool x1],.pointer (some ⟨nb,0,none⟩)] h (fun v h'=>Le h h'/\∃t,v=.bool t/\t=jJ hd ⟨s1,t1,x1⟩):=by
 obtain⟨A,hA⟩:=Ar.ex;have q1:A .aI .eql s1 hd.s=decide (s1=hd.s):=by rw[aA A]
 have q2:A .iQ .eql t1 hd.table=decide (t1=hd.table):=by rw[cS A]
 refine ah A (ax fKk.aK fKk.bF) Tryz.func325 rfl (by kernel_rfl) ?_;cbv;rw[ai A];refine aB g rfl rfl ?_;cbv;rw[q1];cases e1:decide (s1=hd.s)with
 |true=>cbv;rw[ai A];refine aB g rfl rfl ?_;cbv;rw[q2];exact⟨Le.refl _,_,rfl,by simp[jJ,e1]⟩
 |false=>cbv;exact⟨Le.refl _,_,rfl,by simp[jJ,e1]⟩
theorem IX{a b:cg}{h:ad}:
 Ct 307 [.agg #[.int .i64 a.s,.string a.table,.bool a.x],.agg #[.int .i64 b.s,.string b.table,.bool b.x]] h (fun v h'=>Le h h'/\∃t,v=.bool t/\t=eL a b):=by
 obtain⟨A,hA⟩:=Ar.ex;obtain⟨s1,t1,x1⟩:=a;obtain⟨s2,t2,x2⟩:=b;have q1:A .aI .neq s1 s2=decide (s1≠s2):=by rw[aC A]
 have q2:A .iQ .eql t1 t2=decide (t1=t2):=by rw[cS A]
 refine ah A (ax fKA.aK fKA.bF) Tryz.func307 rfl (by kernel_rfl) ?_;cbv;rw[q1];cases e1:decide (s1≠s2)with
 |true=>
  cbv;rw[q2];cases e2:decide (t1=t2)with
  |true=>
   cases x1 with
   |true=>cbv;exact⟨Le.refl _,_,rfl,by simp[eL,e1,e2]⟩
   |false=>cbv;exact⟨Le.refl _,_,rfl,by simp[eL,e1,e2]⟩
  |false=>cbv;exact⟨Le.refl _,_,rfl,by simp[eL,e1,e2]⟩
 |false=>cbv;exact⟨Le.refl _,_,rfl,by simp[eL,e1]⟩
theorem cQq{xs:List cg}{h:ad}{b:Option Addr}{len cap:Nat}(q:Sl 205 bG h (.slice b len cap) xs){nb:Nat}{hd:cg}(g:h nb=some (.cells #[.int .i64 hd.s,.string hd.table,.bool hd.x] 205 (0,0))):
 Ct 324 [.slice b len cap,.func (.func 325) #[] #[.pointer (some ⟨nb,0,none⟩)]] h (fun v h'=>Le h h'/\∃z:Int,v=.int .i64 z/\vg xs (jJ hd) z):=by
 obtain⟨A,hA⟩:=Ar.ex;have hlen:=q.len;obtain⟨lY,jq⟩:=q.bound;generalize hp:(jJ hd)=p;refine ah A (ax cZK.aK cZK.bF) Tryz.func324 rfl (by kernel_rfl) ?_;cbv;refine aX.go (G:=Int) (fun z=>[(8,.v (.int .i64 z))]) (fun _=>[]) (fun n z h'=>∃i:Nat,aS z i/\n=len-i/\i<=len/\Le h h'/\∀j,j<i->∀y,xs[j]? =some y->p y=false) len 0 ⟨?_,?_,?_⟩ ⟨0,⟨rfl⟩,by omega,by omega,Le.refl _,fun j hj=>(by omega)⟩ ?_
 ·cbv
 ·cbv
 ·cbv
 ·intro n z h' hI;cbv;obtain⟨i,hz,hn,hi,hle,aV⟩:=hI;refine bh (fun hc=>?_) (fun hc=>?_)
  ·have aP:=hz.lt hc;clear hc;cbv;obtain⟨x,hx⟩:=aE (xs:=xs) (i:=i) (by omega);refine⟨⟨q.aT (by omega),hz.ix aP⟩,?_⟩;cbv;refine(q.mono (hle.t _)).load hx hz.eq (fun cs ay=>?_);have ay:cs=[.int .i64 x.s,.string x.table,.bool x.x]:=ay;subst ay;cbv;refine(bKF (hle _ _ g)).mono (fun v h2 hR=>?_);obtain⟨eE,t,rfl,ht⟩:=hR;have ht:t=p x:=by rw[<-hp];exact ht
   cbv;cases t with
   |true=>cbv;exact⟨hle.trans eE,z,rfl,⟨.inr ⟨i,x,hz,hx,ht.symm,aV⟩⟩⟩
   |false=>
    cbv;refine⟨len-(i+1),_,by omega,⟨?_,?_,?_⟩,i+1,hz.succ (A:=A) (by omega),rfl,by omega,hle.trans eE,?_⟩
    ·cbv
    ·cbv
    ·cbv
    ·intro j hj y hy;rcases mQS j i with h|h
     ·exact aV j h y hy
     ·have:j=i:=by omega
      subst this;rw[hx]at hy;cases hy;exact ht.symm
  ·have lN:=hz.ge hc;cbv;refine⟨hle,-1,rfl,⟨.inl ⟨rfl,fun x hx=>?_⟩⟩⟩;obtain⟨j,hj⟩:=mQZ hx;have:=(HH.1 hj).1;exact aV j (by omega) x hj
theorem cQr{xs:List cg}{h:ad}{b:Option Addr}{len cap:Nat}(q:Sl 205 bG h (.slice b len cap) xs)(hd:cg):
 Ct 324 [.slice b len cap,.func (.func 307) #[.agg #[.int .i64 hd.s,.string hd.table,.bool hd.x]] #[]] h (fun v h'=>Le h h'/\∃z:Int,v=.int .i64 z/\vg xs (eL hd) z):=by
 obtain⟨A,hA⟩:=Ar.ex;have hlen:=q.len;obtain⟨lY,jq⟩:=q.bound;generalize hp:(eL hd)=p;refine ah A (ax cZK.aK cZK.bF) Tryz.func324 rfl (by kernel_rfl) ?_;cbv;refine aX.go (G:=Int) (fun z=>[(8,.v (.int .i64 z))]) (fun _=>[]) (fun n z h'=>∃i:Nat,aS z i/\n=len-i/\i<=len/\Le h h'/\∀j,j<i->∀y,xs[j]? =some y->p y=false) len 0 ⟨?_,?_,?_⟩ ⟨0,⟨rfl⟩,by omega,by omega,Le.refl _,fun j hj=>(by omega)⟩ ?_
 ·cbv
 ·cbv
 ·cbv
 ·intro n z h' hI;cbv;obtain⟨i,hz,hn,hi,hle,aV⟩:=hI;refine bh (fun hc=>?_) (fun hc=>?_)
  ·have aP:=hz.lt hc;clear hc;cbv;obtain⟨x,hx⟩:=aE (xs:=xs) (i:=i) (by omega);refine⟨⟨q.aT (by omega),hz.ix aP⟩,?_⟩;cbv;refine(q.mono (hle.t _)).load hx hz.eq (fun cs ay=>?_);have ay:cs=[.int .i64 x.s,.string x.table,.bool x.x]:=ay;subst ay;cbv;refine(IX (a:=hd) (b:=x)).mono (fun v h2 hR=>?_);obtain⟨eE,t,rfl,ht⟩:=hR;have ht:t=p x:=by rw[<-hp];exact ht
   cbv;cases t with
   |true=>cbv;exact⟨hle.trans eE,z,rfl,⟨.inr ⟨i,x,hz,hx,ht.symm,aV⟩⟩⟩
   |false=>
    cbv;refine⟨len-(i+1),_,by omega,⟨?_,?_,?_⟩,i+1,hz.succ (A:=A) (by omega),rfl,by omega,hle.trans eE,?_⟩
    ·cbv
    ·cbv
    ·cbv
    ·intro j hj y hy;rcases mQS j i with h|h
     ·exact aV j h y hy
     ·have:j=i:=by omega
      subst this;rw[hx]at hy;cases hy;exact ht.symm
  ·have lN:=hz.ge hc;cbv;refine⟨hle,-1,rfl,⟨.inl ⟨rfl,fun x hx=>?_⟩⟩⟩;obtain⟨j,hj⟩:=mQZ hx;have:=(HH.1 hj).1;exact aV j (by omega) x hj
theorem bKG{H:List cg}{h:ad}{b b2:Option Addr}{n c n2 c2:Nat}(q:Sl 205 bG h (.slice b n c) H)(hd:cg):
 Ct 305 [.agg #[.slice b n c,.slice b2 n2 c2],.agg #[.int .i64 hd.s,.string hd.table,.bool hd.x]] h (fun v h'=>Le h h'/\∃z:Int,v=.int .i64 z/\vg H (jJ hd) z):=by
 obtain⟨A,hA⟩:=Ar.ex;refine ah A (ax fKC.aK fKC.bF) Tryz.func305 rfl (by kernel_rfl) ?_;cbv;intro nb h1 gY e1;have l1:Le h h1:=by rw[e1];exact Le.set gY
 have g1:=(congrFun e1 nb).trans ae;cbv;refine(cQq (q.mono (l1.t _)) g1).mono (fun v h2 hR=>?_);obtain⟨l2,z,rfl,hz⟩:=hR;cbv;exact⟨l1.trans l2,z,rfl,hz⟩
theorem Fh{H:List cg}{h:ad}{b:Option Addr}{n c:Nat}(q:Sl 205 bG h (.slice b n c) H)(hd:cg):
 Ct 306 [.slice b n c,.func (.func 307) #[.agg #[.int .i64 hd.s,.string hd.table,.bool hd.x]] #[]] h (fun v h'=>Le h h'/\∃t:Bool,v=.bool t/\t=H.any (eL hd)):=by
 obtain⟨A,hA⟩:=Ar.ex;refine ah A (ax fKB.aK fKB.bF) Tryz.func306 rfl (by kernel_rfl) ?_;cbv;refine(cQr q hd).mono (fun v h2 hR=>?_);obtain⟨l2,z,rfl,hz⟩:=hR;cbv;refine⟨l2,_,rfl,?_⟩;rw[cf A];rcases hz.out with ⟨rfl,h1⟩ | ⟨i,x,h1,h2,h3,-⟩
 ·rw[eq_comm];simpa using h1
 ·have:=h1.eq;rw[kS (by omega),eq_comm,mZK];exact⟨x,GD h2,h3⟩
theorem kZ{H:List cg}{h:ad}{b:Option Addr}{n c:Nat}(q:Sl 205 bG h (.slice b n c) H)(hn:n<=2^38)(s:Int):
 Ct 221 [.slice b n c,.int .i64 s] h (fun v h'=>Le h h'/\∃b' n' c',v=.slice b' n' c'/\cF 205 bG h h' (.slice b' n' c') (bX H s)):=by
 obtain⟨A,hA⟩:=Ar.ex;have hlen:=q.len;refine ah A (ax gQG.aK gQG.bF) Tryz.func221 rfl (by kernel_rfl) ?_;cbv;refine aX.go (G:=Int×Option Addr×Nat×Nat) (fun g=>[(10,.v (.int .i64 g.1)),(5,.v (.slice g.2.1 g.2.2.1 g.2.2.2))]) (fun _=>[])
  (fun k g h'=>∃i:Nat,aS g.1 i/\k=n-i/\i<=n/\Le h h'/\cF 205 bG h h' (.slice g.2.1 g.2.2.1 g.2.2.2) (bX (H.take i) s)) n (0,none,0,0) ⟨?_,?_,?_⟩ ⟨0,⟨rfl⟩,by omega,by omega,Le.refl _,cF.nil⟩ ?_
 ·cbv
 ·cbv
 ·cbv
 ·intro k g h' hI;cbv;obtain⟨i,hz,hk,hi,hle,hb⟩:=hI;obtain⟨z,gb,gl,gc⟩:=g;have hz:aS z i:=hz;have hb:cF 205 bG h h' (.slice gb gl gc) (bX (H.take i) s):=hb;refine bh (fun hc=>?_) (fun hc=>?_)
  ·have aP:=hz.lt hc;clear hc;cbv;obtain⟨x,hx⟩:=aE (xs:=H) (i:=i) (by omega);refine⟨⟨q.aT (by omega),hz.ix aP⟩,?_⟩;cbv;refine(q.mono (hle.t _)).load hx hz.eq (fun cs ay=>?_);have ay:cs=[.int .i64 x.s,.string x.table,.bool x.x]:=ay;subst ay;have q1:A .aI .neq x.s s=decide (x.s≠s):=by rw[aC A]
   have An:gl<=i:=by have:=hb.sl.len;rw[this];refine mXW (mXH _ _) ?_;rw[mQw];omega
   cbv;rw[q1];cases e1:decide (x.s≠s)with
   |true=>
    cbv;intro nb h2 gY e2;have l2:Le h' h2:=by rw[e2];exact Le.set gY
    have g2:=(congrFun e2 nb).trans ae;cbv;refine(hb.mono (l2.t _)).append (bA (s:=bG) g2 (x:=x) rfl) (by decide) rfl (by decide) (by omega) (hle.trans l2) (fun m b' c' h3 hm l3 t3 k3 ry=>?_);cbv;refine⟨n-(i+1),(_,b',m,c'),by omega,⟨?_,?_,?_⟩,i+1,hz.succ (A:=A) (by omega),rfl,by omega,l3,?_⟩
    ·cbv
    ·cbv
    ·cbv
    ·have:bX (H.take (i+1)) s=bX (H.take i) s++[x]:=by rw[mXc,hx];unfold bX;rw[mZf];simp[e1];simpa using e1
     rw[this];exact ry
   |false=>
    cbv;refine⟨n-(i+1),(_,gb,gl,gc),by omega,⟨?_,?_,?_⟩,i+1,hz.succ (A:=A) (by omega),rfl,by omega,hle,?_⟩
    ·cbv
    ·cbv
    ·cbv
    ·have:bX (H.take (i+1)) s=bX (H.take i) s:=by rw[mXc,hx];unfold bX;rw[mZf];simp[e1];simpa using e1
     rw[this];exact hb
  ·have lN:=hz.ge hc;cbv;refine(po hb.sl).mono (fun v h2 hR=>?_);obtain⟨l2,b',c',rfl,q'⟩:=hR;cbv;refine⟨hle.trans l2,_,_,_,rfl,?_⟩;rw[mQM (by omega)]at q';exact q'.base hle
theorem cXq{h:ad}{z:Int}{m:Nat}(hz:aS z m)(hm:m<=2^38):
 Ct 326 [.slice none 0 0,.int .i64 z] h (fun v h'=>Le h h'/\∃b' c',v=.slice b' 0 c'/\cF 205 bG h h' (.slice b' 0 c') ([]:List cg)):=by
 obtain⟨A,hA⟩:=Ar.ex;have h0:aS (A .nat 0) 0:=aS.nat 0;have hw:=hz.sub (A:=A) (h0.sub (A:=A) h0 (by omega) (by omega)) (by omega) (by omega);simp only[mJh,mXA]at hw;refine ah A (ax fKj.aK fKj.bF) Tryz.func326 rfl (by kernel_rfl) ?_;cbv;rw[hz.Ed (A:=A)];cbv;generalize eg:A .aI .gtr (A .bB .sub .i64 z (A .bB .sub .i64 (A .nat 0) (A .nat 0))) 0=u;generalize ew:A .bB .sub .i64 z (A .bB .sub .i64 (A .nat 0) (A .nat 0))=w at hw eg;rw[bO A]at eg;cases u with
 |true=>
  have hp:=mQB eg;have RF:0<m:=by have:=hw.eq;omega
  cbv;have MG:(0:Int)<=A .nat 0/\A .nat 0<=((0:Nat):Int):=by have:=h0.eq;omega
  refine⟨MG,?_⟩;cbv;refine⟨yy hw (by omega) (by decide),?_⟩;cbv;rw[fh (A:=A) hw,fh (A:=A) h0];refine pU (s:=bG) (xs:=([]:List cg)) Sl.nil (by omega) rfl (by decide) (by omega) rfl rfl (fun nb c h1 gY l1 hc ho=>?_);rw[mQY];have cJ:(0:Int)<=A .nat 0/\A .nat 0<=((c:Nat):Int):=by have:=h0.eq;omega
  cbv;refine⟨cJ,?_⟩;cbv;rw[fh (A:=A) h0,Da (A:=A)];exact⟨l1,_,_,rfl,ho.buf gY rfl⟩
 |false=>cbv;exact⟨Le.refl _,_,_,rfl,cF.nil⟩
theorem Ez{L:List (List cg)}{h:ad}{b:Option Addr}{n c:Nat}(q:Sl 28 (mW 205 bG) h (.slice b n c) L)(hn:L.flatten.length<=2^38):
 Ct 308 [.slice b n c] h (fun v h'=>Le h h'/\∃b' n' c',v=.slice b' n' c'/\cF 205 bG h h' (.slice b' n' c') L.flatten):=by
 obtain⟨A,hA⟩:=Ar.ex;have hlen:=q.len;obtain⟨lY,jq⟩:=q.bound;refine ah A (ax fKz.aK fKz.bF) Tryz.func308 rfl (by kernel_rfl) ?_;cbv;refine aX.go (G:=Int×Int) (fun g=>[(11,.v (.int .i64 g.1)),(3,.v (.int .i64 g.2))]) (fun _=>[])
  (fun k g h'=>∃i:Nat,aS g.1 i/\k=n-i/\i<=n/\h'=h/\aS g.2 (L.take i).flatten.length) n (0,0) ⟨?_,?_,?_⟩ ⟨0,⟨rfl⟩,by omega,by omega,rfl,⟨rfl⟩⟩ ?_
 ·cbv
 ·cbv
 ·cbv
 ·intro k g h' hI;cbv;obtain⟨i,hz,hk,hi,rfl,hw⟩:=hI;refine bh (fun hc=>?_) (fun hc=>?_)
  ·have aP:=hz.lt hc;clear hc;cbv;obtain⟨x,hx⟩:=aE (xs:=L) (i:=i) (by omega);refine⟨⟨q.aT (by omega),hz.ix aP⟩,?_⟩;cbv;refine q.load hx hz.eq (fun cs ay=>?_);obtain⟨v,rfl,hv⟩:=ay;obtain⟨b1,l1,c1,rfl⟩:=hv.form;have wE:=hv.len;have hle:=zC L (i+1);rw[lH hx,nX,<-wE]at hle;have vj:=hw.add (A:=A) (aS.nat (A:=A) l1) (by omega);have NM:=lH hx;cbv;rw[vj.Ed (A:=A)];cbv;refine⟨n-(i+1),(_,A .bB .add .i64 g.2 (A .nat l1)),by omega,⟨?_,?_,?_⟩,i+1,hz.succ (A:=A) (by omega),rfl,by omega,rfl,?_⟩
   ·cbv
   ·cbv
   ·cbv
   ·rw[NM,nX,<-wE];exact vj
  ·have lN:=hz.ge hc;have fZ:i=n:=by omega
   rw[mQM (by omega)]at hw;obtain⟨z,w⟩:=g;have hw:aS w L.flatten.length:=hw;cbv;refine(cXq hw hn).mono (fun v h1 hR=>?_);obtain⟨l1,b1,c1,rfl,hb⟩:=hR;cbv;refine aX.go (G:=Int×Option Addr×Nat×Nat) (fun g=>[(27,.v (.int .i64 g.1)),(6,.v (.slice g.2.1 g.2.2.1 g.2.2.2))]) (fun _=>[])
    (fun k g h2=>∃i:Nat,aS g.1 i/\k=n-i/\i<=n/\Le h' h2/\cF 205 bG h' h2 (.slice g.2.1 g.2.2.1 g.2.2.2) (L.take i).flatten) n (0,b1,0,c1) ⟨?_,?_,?_⟩ ⟨0,⟨rfl⟩,by omega,by omega,l1,hb⟩ ?_
   ·cbv
   ·cbv
   ·cbv
   ·intro k g h2 hI;cbv;obtain⟨i,hz,hk,hi,hle,hb⟩:=hI;obtain⟨z,gb,gl,gc⟩:=g;have hz:aS z i:=hz;have hb:cF 205 bG h' h2 (.slice gb gl gc) (L.take i).flatten:=hb;refine bh (fun hc=>?_) (fun hc=>?_)
    ·have aP:=hz.lt hc;clear hc;cbv;obtain⟨x,hx⟩:=aE (xs:=L) (i:=i) (by omega);refine⟨⟨q.aT (by omega),hz.ix aP⟩,?_⟩;cbv;refine(q.mono (hle.t _)).load hx hz.eq (fun cs ay=>?_);obtain⟨v,rfl,hv⟩:=ay;obtain⟨b2,l2,c2,rfl⟩:=hv.form;have pz:=hv.len;have An:gl=(L.take i).flatten.length:=hb.sl.len;have eE:=zC L (i+1);have NM:=lH hx;rw[NM,nX,<-pz,<-An]at eE;cbv;refine hb.append hv (by decide) rfl (by decide) (by omega) hle (fun m b' c' h3 hm l3 t3 k3 ry=>?_);cbv;refine⟨n-(i+1),(_,b',m,c'),by omega,⟨?_,?_,?_⟩,i+1,hz.succ (A:=A) (by omega),rfl,by omega,l3,?_⟩
     ·cbv
     ·cbv
     ·cbv
     ·rw[NM];exact ry
    ·have lN:=hz.ge hc;cbv;rw[mQM (by omega)]at hb;exact⟨hle,_,_,_,rfl,hb⟩
theorem cXp{h:ad}{z:Int}{m:Nat}(hz:aS z m)(hm:m<=2^38):
 Ct 304 [.slice none 0 0,.int .i64 z] h (fun v h'=>Le h h'/\∃b' c',v=.slice b' 0 c'/\cF 59 aD h h' (.slice b' 0 c') ([]:List Row)):=by
 obtain⟨A,hA⟩:=Ar.ex;have h0:aS (A .nat 0) 0:=aS.nat 0;have hw:=hz.sub (A:=A) (h0.sub (A:=A) h0 (by omega) (by omega)) (by omega) (by omega);simp only[mJh,mXA]at hw;refine ah A (ax fKD.aK fKD.bF) Tryz.func304 rfl (by kernel_rfl) ?_;cbv;rw[hz.Ed (A:=A)];cbv;generalize eg:A .aI .gtr (A .bB .sub .i64 z (A .bB .sub .i64 (A .nat 0) (A .nat 0))) 0=u;generalize ew:A .bB .sub .i64 z (A .bB .sub .i64 (A .nat 0) (A .nat 0))=w at hw eg;rw[bO A]at eg;cases u with
 |true=>
  have hp:=mQB eg;have RF:0<m:=by have:=hw.eq;omega
  cbv;have MG:(0:Int)<=A .nat 0/\A .nat 0<=((0:Nat):Int):=by have:=h0.eq;omega
  refine⟨MG,?_⟩;cbv;refine⟨yy hw (by omega) (by decide),?_⟩;cbv;rw[fh (A:=A) hw,fh (A:=A) h0];refine pU (s:=aD) (xs:=([]:List Row)) Sl.nil (by omega) rfl (by decide) (by omega) rfl rfl (fun nb c h1 gY l1 hc ho=>?_);rw[mQY];have cJ:(0:Int)<=A .nat 0/\A .nat 0<=((c:Nat):Int):=by have:=h0.eq;omega
  cbv;refine⟨cJ,?_⟩;cbv;rw[fh (A:=A) h0,Da (A:=A)];exact⟨l1,_,_,rfl,ho.buf gY rfl⟩
 |false=>cbv;exact⟨Le.refl _,_,_,rfl,cF.nil⟩
theorem ZA{L:List (List Row)}{h:ad}{b:Option Addr}{n c:Nat}(q:Sl 34 (mW 59 aD) h (.slice b n c) L)(hn:L.flatten.length<=2^38):
 Ct 277 [.slice b n c] h (fun v h'=>Le h h'/\∃b' n' c',v=.slice b' n' c'/\cF 59 aD h h' (.slice b' n' c') L.flatten):=by
 obtain⟨A,hA⟩:=Ar.ex;have hlen:=q.len;obtain⟨lY,jq⟩:=q.bound;refine ah A (ax fKW.aK fKW.bF) Tryz.func277 rfl (by kernel_rfl) ?_;cbv;refine aX.go (G:=Int×Int) (fun g=>[(11,.v (.int .i64 g.1)),(3,.v (.int .i64 g.2))]) (fun _=>[])
  (fun k g h'=>∃i:Nat,aS g.1 i/\k=n-i/\i<=n/\h'=h/\aS g.2 (L.take i).flatten.length) n (0,0) ⟨?_,?_,?_⟩ ⟨0,⟨rfl⟩,by omega,by omega,rfl,⟨rfl⟩⟩ ?_
 ·cbv
 ·cbv
 ·cbv
 ·intro k g h' hI;cbv;obtain⟨i,hz,hk,hi,rfl,hw⟩:=hI;refine bh (fun hc=>?_) (fun hc=>?_)
  ·have aP:=hz.lt hc;clear hc;cbv;obtain⟨x,hx⟩:=aE (xs:=L) (i:=i) (by omega);refine⟨⟨q.aT (by omega),hz.ix aP⟩,?_⟩;cbv;refine q.load hx hz.eq (fun cs ay=>?_);obtain⟨v,rfl,hv⟩:=ay;obtain⟨b1,l1,c1,rfl⟩:=hv.form;have wE:=hv.len;have hle:=zC L (i+1);rw[lH hx,nX,<-wE]at hle;have vj:=hw.add (A:=A) (aS.nat (A:=A) l1) (by omega);have NM:=lH hx;cbv;rw[vj.Ed (A:=A)];cbv;refine⟨n-(i+1),(_,A .bB .add .i64 g.2 (A .nat l1)),by omega,⟨?_,?_,?_⟩,i+1,hz.succ (A:=A) (by omega),rfl,by omega,rfl,?_⟩
   ·cbv
   ·cbv
   ·cbv
   ·rw[NM,nX,<-wE];exact vj
  ·have lN:=hz.ge hc;have fZ:i=n:=by omega
   rw[mQM (by omega)]at hw;obtain⟨z,w⟩:=g;have hw:aS w L.flatten.length:=hw;cbv;refine(cXp hw hn).mono (fun v h1 hR=>?_);obtain⟨l1,b1,c1,rfl,hb⟩:=hR;cbv;refine aX.go (G:=Int×Option Addr×Nat×Nat) (fun g=>[(27,.v (.int .i64 g.1)),(6,.v (.slice g.2.1 g.2.2.1 g.2.2.2))]) (fun _=>[])
    (fun k g h2=>∃i:Nat,aS g.1 i/\k=n-i/\i<=n/\Le h' h2/\cF 59 aD h' h2 (.slice g.2.1 g.2.2.1 g.2.2.2) (L.take i).flatten) n (0,b1,0,c1) ⟨?_,?_,?_⟩ ⟨0,⟨rfl⟩,by omega,by omega,l1,hb⟩ ?_
   ·cbv
   ·cbv
   ·cbv
   ·intro k g h2 hI;cbv;obtain⟨i,hz,hk,hi,hle,hb⟩:=hI;obtain⟨z,gb,gl,gc⟩:=g;have hz:aS z i:=hz;have hb:cF 59 aD h' h2 (.slice gb gl gc) (L.take i).flatten:=hb;refine bh (fun hc=>?_) (fun hc=>?_)
    ·have aP:=hz.lt hc;clear hc;cbv;obtain⟨x,hx⟩:=aE (xs:=L) (i:=i) (by omega);refine⟨⟨q.aT (by omega),hz.ix aP⟩,?_⟩;cbv;refine(q.mono (hle.t _)).load hx hz.eq (fun cs ay=>?_);obtain⟨v,rfl,hv⟩:=ay;obtain⟨b2,l2,c2,rfl⟩:=hv.form;have pz:=hv.len;have An:gl=(L.take i).flatten.length:=hb.sl.len;have eE:=zC L (i+1);have NM:=lH hx;rw[NM,nX,<-pz,<-An]at eE;cbv;refine hb.append hv (by decide) rfl (by decide) (by omega) hle (fun m b' c' h3 hm l3 t3 k3 ry=>?_);cbv;refine⟨n-(i+1),(_,b',m,c'),by omega,⟨?_,?_,?_⟩,i+1,hz.succ (A:=A) (by omega),rfl,by omega,l3,?_⟩
     ·cbv
     ·cbv
     ·cbv
     ·rw[NM];exact ry
    ·have lN:=hz.ge hc;cbv;rw[mQM (by omega)]at hb;exact⟨hle,_,_,_,rfl,hb⟩
def dE:Sh Int where
 n:=1
 R _ cs v:=cs=[.int .i64 v]
 len:=by rintro h cs x rfl;rfl
 one:=by rintro h cs x rfl;rfl
 tys:=[]
 mono:=fun _ q=>q
def eR(a b:Int):Int:=if decide (a<b)=true then -1 else if decide (a>b)=true then 1 else 0
def fP:List Int->Int
 | []=>0
 |x::r=>if decide (x≠0)=true then x else fP r
def bC(a b:cO):Int:=fP [eR a.k b.k,eR a.n b.n,eC a.s b.s]
def keyOf(key:Int)(r:Row):cO:=if(decide (key<0)||decide (key>=(r.length:Int)))=true then⟨0,0,⟨#[]⟩⟩else(r[key.toNat]?).getD ⟨0,0,⟨#[]⟩⟩
abbrev cO.v(x:cO):Value:=.agg #[.int .i64 x.k,.int .i64 x.n,.string x.s]
theorem Py(a:Int)(h:ad):Ct 318 [.int .i64 a] h (fun v h'=>Le h h'/\v=.bool false):=by
 obtain⟨A,hA⟩:=Ar.ex;have q1:A .aI .neq a a=false:=by rw[aC A];simp
 refine ah A (ax fKp.aK fKp.bF) Tryz.func318 rfl (by kernel_rfl) ?_;cbv;rw[q1];exact⟨Le.refl _,rfl⟩
theorem bXd(a b:Int)(h:ad):Ct 291 [.int .i64 a,.int .i64 b] h (fun v h'=>Le h h'/\∃z,v=.int .i64 z/\z=eR a b):=by
 obtain⟨A,hA⟩:=Ar.ex;refine ah A (ax fKJ.aK fKJ.bF) Tryz.func291 rfl (by kernel_rfl) ?_;cbv;refine(Py a h).mono (fun v h1 hR=>?_);obtain⟨l1,rfl⟩:=hR;cbv;refine(Py b h1).mono (fun v h2 hR=>?_);obtain⟨l2,rfl⟩:=hR;cbv;generalize e1:A .aI .lss a b=u1;generalize e2:A .aI .gtr a b=u2;have f2:=e2;rw[bm A]at e1;rw[bO A]at e2;cases u1 with
 |true=>cbv;exact⟨l1.trans l2,_,rfl,by simp only[eR,e1];rfl⟩
 |false=>
  cbv;rw[f2];cases u2 with
  |true=>cbv;exact⟨l1.trans l2,_,rfl,by simp only[eR,e1,e2];rfl⟩
  |false=>cbv;exact⟨l1.trans l2,_,rfl,by simp only[eR,e1,e2];rfl⟩
theorem qY{xs:List Int}{i:Nat}(h:∀j,j<i->∀y,xs[j]? =some y->y=0):fP xs=fP (xs.drop i):=by
 induction i generalizing xs with
 |zero=>rfl
 |succ i ih=>
  cases xs with
  |nil=>rfl
  |cons x r=>have hx:x=0:=h 0 (by omega) x rfl;simp only[mJg,fP,hx];rw[if_neg (by decide)];exact ih (fun j hj y hy=>h (j+1) (by omega) y (by simpa using hy))
theorem eKF{xs:List Int}{h:ad}{b:Option Addr}{n c:Nat}(q:Sl 3 dE h (.slice b n c) xs):
 Ct 290 [.slice b n c] h (fun v h'=>Le h h'/\∃z,v=.int .i64 z/\z=fP xs):=by
 obtain⟨A,hA⟩:=Ar.ex;have hlen:=q.len;obtain⟨lY,jq⟩:=q.bound;refine ah A (ax fKK.aK fKK.bF) Tryz.func290 rfl (by kernel_rfl) ?_;cbv;refine aX.go (G:=Int) (fun z=>[(8,.v (.int .i64 z))]) (fun _=>[]) (fun k z h'=>∃i:Nat,aS z i/\k=n-i/\i<=n/\h'=h/\∀j,j<i->∀y,xs[j]? =some y->y=0) n 0 ⟨?_,?_,?_⟩ ⟨0,⟨rfl⟩,by omega,by omega,rfl,fun j hj=>(by omega)⟩ ?_
 ·cbv
 ·cbv
 ·cbv
 ·intro k z h' hI;cbv;obtain⟨i,hz,hk,hi,rfl,aV⟩:=hI;refine bh (fun hc=>?_) (fun hc=>?_)
  ·have aP:=hz.lt hc;clear hc;cbv;obtain⟨x,hx⟩:=aE (xs:=xs) (i:=i) (by omega);refine⟨⟨q.aT (by omega),hz.ix aP⟩,?_⟩;cbv;refine q.load hx hz.eq (fun cs ay=>?_);have ay:cs=[.int .i64 x]:=ay;subst ay;generalize ex:A .aI .neq x 0=u;rw[aC A]at ex;have Bc:xs.drop i=x::xs.drop (i+1):=by rw[mQy (by omega)];have:=(HH.1 hx).2;rw[this]
   have hf:=qY aV;rw[Bc]at hf;cbv;rw[aC A,ex];cases u with
   |true=>cbv;refine⟨Le.refl _,_,rfl,?_⟩;rw[hf];simp only[fP,ex];rfl
   |false=>
    cbv;refine⟨n-(i+1),_,by omega,⟨?_,?_,?_⟩,i+1,hz.succ (A:=A) (by omega),rfl,by omega,rfl,?_⟩
    ·cbv
    ·cbv
    ·cbv
    ·intro j hj y hy;rcases mQS j i with nT|nT
     ·exact aV j nT y hy
     ·have:j=i:=by omega
      subst this;rw[hx]at hy;cases hy;have:=mQI ex;exact mQW.1 this
  ·have lN:=hz.ge hc;have hf:=qY aV;rw[mXl (by omega)]at hf;cbv;exact⟨Le.refl _,_,rfl,hf.symm⟩
theorem pg(a b:cO)(h:ad):Ct 254 [.agg #[.int .i64 a.k,.int .i64 a.n,.string a.s],.agg #[.int .i64 b.k,.int .i64 b.n,.string b.s]] h (fun v h'=>Le h h'/\∃z,v=.int .i64 z/\z=bC a b):=by
 obtain⟨A,hA⟩:=Ar.ex;obtain⟨k1,n1,s1⟩:=a;obtain⟨k2,n2,s2⟩:=b;refine ah A (ax gQj.aK gQj.bF) Tryz.func254 rfl (by kernel_rfl) ?_;cbv;refine(bXd k1 k2 h).mono (fun v h1 hR=>?_);obtain⟨l1,z1,rfl,e1⟩:=hR;cbv;refine(bXd n1 n2 h1).mono (fun v h2 hR=>?_);obtain⟨l2,z2,rfl,e2⟩:=hR;cbv;refine(bXf s1 s2 h2).mono (fun v h3 hR=>?_);obtain⟨l3,z3,rfl,e3⟩:=hR;cbv;intro nb h4 gY e4;have l4:Le h3 h4:=by rw[e4];exact Le.set gY
 have g4:=(congrFun e4 nb).trans ae;cbv;refine(eKF (GC (s:=dE) rfl g4 (x:=z1) (y:=z2) (w:=z3) rfl rfl rfl)).mono (fun v h5 hR=>?_);obtain⟨l5,z,rfl,ez⟩:=hR;cbv;exact⟨(((l1.trans l2).trans l3).trans l4).trans l5,z,rfl,by rw[ez,e1,e2,e3];rfl⟩
theorem aJF{r:Row}{h:ad}{c0 c1 c3 c4:Value}{key:Int}{b:Option Addr}{n c:Nat}(q:Sl 61 bq h (.slice b n c) r):
 Ct 243 [.agg #[c0,c1,.int .i64 key,c3,c4],.slice b n c] h (fun v h'=>Le h h'/\∃kr:cO,v=.agg #[.int .i64 kr.k,.int .i64 kr.n,.string kr.s]/\kr=keyOf key r):=by
 obtain⟨A,hA⟩:=Ar.ex;have hlen:=q.len;generalize e1:A .aI .lss key 0=u1;generalize e2:A .aI .geq key (A .nat n)=u2;have f1:=e1;have f2:=e2;rw[bm A]at e1;rw[cf A,hA.nat]at e2;simp only[mQJ]at e2;refine ah A (ax gQr.aK gQr.bF) Tryz.func243 rfl (by kernel_rfl) ?_;cbv;rw[f1];cases u1 with
 |true=>cbv;exact⟨Le.refl _,⟨0,0,⟨#[]⟩⟩,rfl,by simp only[keyOf,e1];rfl⟩
 |false=>
  cbv;rw[f2];cases u2 with
  |true=>cbv;refine⟨Le.refl _,⟨0,0,⟨#[]⟩⟩,rfl,?_⟩;rw[hlen]at e2;simp only[keyOf,e1,e2];rfl
  |false=>obtain⟨vm,sJ⟩:=SX A f1 f2;obtain⟨x,hx⟩:=aE (xs:=r) (i:=key.toNat) (by omega);cbv;refine⟨⟨q.aT (by omega),vm.ix sJ⟩,?_⟩;cbv;refine q.load hx vm.eq (fun cs ay=>?_);have ay:cs=[.int .i64 x.k,.int .i64 x.n,.string x.s]:=ay;subst ay;cbv;refine⟨Le.refl _,x,rfl,?_⟩;rw[hlen]at e2;simp only[keyOf,e1,e2,hx];rfl
theorem WC{h:ad}{kb:Nat}{key:Int}{k0 k1 k3 k4:Value}(gk:h kb=some (.cells #[k0,k1,.int .i64 key,k3,k4] 335 (0,0))){r:Row}{b:Option Addr}{n c:Nat}(q:Sl 61 bq h (.slice b n c) r)(kv:cO):
 Ct 279 [.slice b n c,.agg #[.int .i64 kv.k,.int .i64 kv.n,.string kv.s],.pointer (some ⟨kb,0,none⟩)] h (fun v h'=>Le h h'/\∃z,v=.int .i64 z/\z=bC (keyOf key r) kv):=by
 obtain⟨A,hA⟩:=Ar.ex;refine ah A (ax fKU.aK fKU.bF) Tryz.func279 rfl (by kernel_rfl) ?_;cbv;refine aB gk rfl rfl ?_;cbv;refine(aJF q).mono (fun v h1 hR=>?_);obtain⟨l1,kr,rfl,iJx⟩:=hR;cbv;refine(pg kr kv h1).mono (fun v h2 hR=>?_);obtain⟨l2,z,rfl,ez⟩:=hR;cbv;exact⟨l1.trans l2,z,rfl,by rw[ez,iJx]⟩
theorem fJO{xs:List Row}{h:ad}{b:Option Addr}{len cap:Nat}(q:Sl 59 aD h (.slice b len cap) xs){kb:Nat}{key:Int}{k0 k1 k3 k4:Value}(gk:h kb=some (.cells #[k0,k1,.int .i64 key,k3,k4] 335 (0,0)))(kv:cO):
 Ct 278 [.slice b len cap,.agg #[.int .i64 kv.k,.int .i64 kv.n,.string kv.s],.func (.func 279) #[] #[.pointer (some ⟨kb,0,none⟩)]] h (fun v h'=>Le h h'/\∃(z:Int) (t:Bool),v=.tuple #[.int .i64 z,.bool t]/\aQc (xs.map (fun x:Row=>bC (keyOf key x) kv)) z t):=by
 obtain⟨A,hA⟩:=Ar.ex;have hlen:=q.len;obtain⟨lY,jq⟩:=q.bound;have Am:(xs.map (fun x:Row=>bC (keyOf key x) kv)).length=len:=by simp[hlen]
 generalize hl:xs.map (fun x:Row=>bC (keyOf key x) kv)=l at Am;have uS:∀(i:Nat) x,xs[i]? =some x->l[i]? =some ((fun x:Row=>bC (keyOf key x) kv) x):=fun i x hx=>by rw[<-hl];simp[hx]
 refine ah A (ax fKV.aK fKV.bF) Tryz.func278 rfl (by kernel_rfl) ?_;cbv;refine aX.go (G:=Int×Int) (fun g=>[(9,.v (.int .i64 g.1)),(10,.v (.int .i64 g.2))]) (fun _=>[(4,[.int .i64 kv.k,.int .i64 kv.n,.string kv.s])])
  (fun n g h'=>∃i j:Nat,aS g.1 i/\aS g.2 j/\n=j-i/\i<=j/\j<=len/\Le h h'/\uc l 0 len=uc l i j) len (0,A .nat len) ⟨?_,?_,?_⟩ ⟨0,len,⟨rfl⟩,⟨by rw[hA.nat];rfl⟩,by omega,by omega,by omega,Le.refl _,rfl⟩ ?_
 ·cbv
 ·cbv
 ·cbv
 ·intro n g h' hI;cbv;obtain⟨i,j,hi,hj,hn,aKH,tX,hle,aKR⟩:=hI;refine bh (fun hc=>?_) (fun hc=>?_)
  ·rw[hi.iJ (A:=A) hj,mQD]at hc;cbv;refine⟨by decide,?_⟩;cbv;have hm:=hi.bKH (A:=A) hj (by omega) (by omega);obtain⟨x,hx⟩:=aE (xs:=xs) (i:=(i+j) / 2) (by omega);refine⟨⟨q.aT (by omega),hm.ix (by omega)⟩,?_⟩;cbv;refine(q.mono (hle.t _)).load hx hm.eq (fun cs ay=>?_);obtain⟨v,rfl,hv⟩:=ay;obtain⟨b1,l1,c1,rfl⟩:=hv.form;cbv;refine(WC (hle _ _ gk) hv kv).mono (fun v h2 hR=>?_);obtain⟨eE,z,rfl,hz⟩:=hR;cbv;have hg:l.getD ((i+j) / 2) 0=z:=by rw[mXv,uS _ _ hx,hz];rfl
   have nU:=aKR;rw[uc.eq_1 l i j,if_pos hc,hg]at nU;refine bh (fun oq=>?_) (fun oq=>?_)
   ·rw[hA.aI]at oq;have Qn:z<0:=mQB oq;rw[if_pos Qn]at nU;clear oq Qn;cbv;refine⟨j-((i+j) / 2+1),(_,g.2),by omega,⟨?_,?_,?_⟩,(i+j) / 2+1,j,hm.succ (A:=A) (by omega),hj,rfl,by omega,tX,hle.trans eE,nU⟩
    ·cbv
    ·cbv
    ·cbv
   ·rw[hA.aI]at oq;have Qn:¬z<0:=mQI oq;rw[if_neg Qn]at nU;clear oq Qn;cbv;refine⟨(i+j) / 2-i,(g.1,A .conv .i64 (A .bB .shr .u64 (A .conv .u64 (A .bB .add .i64 g.1 g.2)) 1)),by omega,⟨?_,?_,?_⟩,i,(i+j) / 2,hi,hm,rfl,by omega,by omega,hle.trans eE,nU⟩
    ·cbv
    ·cbv
    ·cbv
  ·rw[hi.iJ (A:=A) hj,decide_eq_false_iff_not]at hc;cbv;have nU:=aKR;rw[uc.eq_1 l i j,if_neg hc]at nU;have iV:=hi.iJ (A:=A) (w:=A .nat len) (j:=len) ⟨by rw[hA.nat];rfl⟩;refine bh (fun oq=>?_) (fun oq=>?_)
   ·rw[oq];rw[iV,mQD]at oq;cbv;obtain⟨x,hx⟩:=aE (xs:=xs) (i:=i) (by omega);refine⟨⟨q.aT (by omega),hi.ix (by omega)⟩,?_⟩;cbv;refine(q.mono (hle.t _)).load hx hi.eq (fun cs ay=>?_);obtain⟨v,rfl,hv⟩:=ay;obtain⟨b1,l1,c1,rfl⟩:=hv.form;cbv;refine(WC (hle _ _ gk) hv kv).mono (fun v h2 hR=>?_);obtain⟨eE,z,rfl,hz⟩:=hR;cbv;refine⟨hle.trans eE,_,_,rfl,⟨i,hi,?_,?_⟩⟩
    ·rw[Am];exact nU.symm
    ·rw[hA.aI];have hg:l.getD i 0=z:=by rw[mXv,uS _ _ hx,hz];rfl
     rw[hg,Am];simp[aI,oq];rfl
   ·rw[oq];rw[iV,decide_eq_false_iff_not]at oq;cbv;refine⟨hle,_,_,rfl,⟨i,hi,?_,?_⟩⟩
    ·rw[Am];exact nU.symm
    ·rw[Am];simp[oq]
theorem WD{rows:List Row}{h:ad}{c0 c1 c3:Value}{key:Int}{b:Option Addr}{n c:Nat}(q:Sl 59 aD h (.slice b n c) rows)(kv:cO):
 Ct 242 [.agg #[c0,c1,.int .i64 key,c3,.slice b n c],.agg #[.int .i64 kv.k,.int .i64 kv.n,.string kv.s]] h (fun v h'=>Le h h'/\∃z t,v=.tuple #[.int .i64 z,.bool t]/\aQc (rows.map fun r=>bC (keyOf key r) kv) z t):=by
 obtain⟨A,hA⟩:=Ar.ex;refine ah A (ax gQs.aK gQs.bF) Tryz.func242 rfl (by kernel_rfl) ?_;cbv;intro nb h1 gY e1;have l1:Le h h1:=by rw[e1];exact Le.set gY
 have g1:=(congrFun e1 nb).trans ae;cbv;rw[ai A];rw[ai A];refine aB g1 rfl rfl ?_;cbv;refine(fJO (q.mono (l1.t _)) g1 kv).mono (fun v h2 hR=>?_);obtain⟨l2,z,t,rfl,hb⟩:=hR;cbv;exact⟨l1.trans l2,z,t,rfl,hb⟩
def pT(v:cO):cO:=if decide (v.k=3)=true then⟨v.k,0,v.s⟩else if decide (v.k=1)=true then⟨v.k,v.n,⟨#[]⟩⟩else if decide (v.k=2)=true then⟨v.k,v.n,⟨#[]⟩⟩else⟨v.k,0,⟨#[]⟩⟩
def vU(a b:cO):Bool:=decide (a.k=b.k)&&(decide (a.n=b.n)&&decide (a.s=b.s))
def fv(v:cO):Int:=
 if(decide (v.k<0)||decide (v.k>3))=true then 3
 else if(!vU v (pT v)||(decide (v.k=1)&&decide (v.n≠0)&&decide (v.n≠1)))=true then 1
 else if decide ((v.s.size:Int)>60)=true then 5 else 0
theorem dZt{xs:List Row}{h:ad}{b:Option Addr}{len cap:Nat}(q:Sl 59 aD h (.slice b len cap) xs):
 Ct 276 [.slice b len cap] h (fun v h'=>Le h h'/\∃nb,h nb=none/\v=.slice (some ⟨nb,0,none⟩) len len/\fX 59 aD h' nb len xs):=by
 obtain⟨A,hA⟩:=Ar.ex;have hlen:=q.len;obtain⟨lY,jq⟩:=q.bound;refine ah A (ax fKX.aK fKX.bF) Tryz.func276 rfl (by kernel_rfl) ?_;cbv;refine nJ (s:=aD) rfl (by omega) (by decide) (fun nb h1 gY hle ho=>?_);cbv;refine aX.go (G:=Int) (fun z=>[(11,.v (.int .i64 z))]) (fun _=>[]) (fun n z h'=>∃i:Nat,aS z i/\n=len-i/\i<=len/\Le h h'/\fX 59 aD h' nb len (xs.take i)) len 0 ⟨?_,?_,?_⟩ ⟨0,⟨rfl⟩,by omega,by omega,hle,ho⟩ ?_
 ·cbv
 ·cbv
 ·cbv
 ·intro n z h' hI;cbv;obtain⟨i,hz,hn,hi,qV,wR⟩:=hI;refine bh (fun hc=>?_) (fun hc=>?_)
  ·have aP:=hz.lt hc;clear hc;cbv;obtain⟨x,hx⟩:=aE (xs:=xs) (i:=i) (by omega);refine⟨⟨q.aT (by omega),hz.ix aP⟩,?_⟩;cbv;refine(q.mono (qV.t _)).load hx hz.eq (fun cs ay=>?_);obtain⟨v,rfl,hv⟩:=ay;obtain⟨b1,l1,c1,rfl⟩:=hv.form;cbv;refine(II hv).mono (fun v2 h2 hR=>?_);obtain⟨eE,b2,Nr,rfl,NC,-⟩:=hR;cbv;refine⟨⟨rfl,hz.ix aP⟩,?_⟩;cbv;refine(wR.mono (eE.t _)).store (by decide) (i:=i) (by simp;omega) (by omega) (by omega) hz.eq rfl (x:=x) ⟨_,rfl,NC⟩ (fun h3 hk ht NI=>?_);cbv;refine⟨len-(i+1),_,by omega,⟨?_,?_,?_⟩,i+1,hz.succ (A:=A) (by omega),rfl,by omega,?_,?_⟩
   ·cbv
   ·cbv
   ·cbv
   ·exact(qV.trans eE).dJ (by simpa using gY) hk
   ·rw[if_neg (by simp;omega)]at NI;rw[mXc,hx];exact NI
  ·have lN:=hz.ge hc;cbv;have:i=len:=by omega
   subst this;refine⟨qV,nb,gY,rfl,?_⟩;rw[hlen,mXy]at wR;rw[hlen];exact wR
theorem yE{nm:ByteArray}{cols:List cK}{key:Int}{only:Bool}{L:List (List Row)}{h:ad}{sb b b4:Option Addr}{sn sc n c n4 c4:Nat}(qs:Sl 165 bI h (.slice sb sn sc) cols)(qL:Sl 34 (mW 59 aD) h (.slice b n c) L)(hn:L.flatten.length<=2^38):
 Ct 241 [.agg #[.string nm,.slice sb sn sc,.int .i64 key,.bool only,.slice b4 n4 c4],.slice b n c] h (fun v h'=>Le h h'/\∃b1 n1 k1 b2 n2 k2,v=.agg #[.string nm,.slice b1 n1 k1,.int .i64 key,.bool only,.slice b2 n2 k2]/\Sl 165 bI h' (.slice b1 n1 k1) cols/\Sl 59 aD h' (.slice b2 n2 k2) L.flatten):=by
 obtain⟨A,hA⟩:=Ar.ex;refine ah A (ax gQt.aK gQt.bF) Tryz.func241 rfl (by kernel_rfl) ?_;cbv;refine(QT qs).mono (fun v h1 hR=>?_);obtain⟨l1,b1,k1,rfl,q1,-⟩:=hR;cbv;refine(ZA (qL.mono (l1.t _)) hn).mono (fun v h2 hR=>?_);obtain⟨l2,b2,n2,k2,rfl,q2⟩:=hR;cbv;refine(dZt q2.sl).mono (fun v h3 hR=>?_);obtain⟨l3,nb,gY,rfl,o3⟩:=hR;cbv;exact⟨(l1.trans l2).trans l3,_,_,_,_,_,_,rfl,q1.mono ((l2.trans l3).t _),o3.sl q2.sl.len⟩
theorem cZt(w:cO)(h:ad):Ct 303 [.agg #[.int .i64 w.k,.int .i64 w.n,.string w.s]] h (fun v h'=>Le h h'/\∃x:cO,v=.agg #[.int .i64 x.k,.int .i64 x.n,.string x.s]/\x=pT w):=by
 obtain⟨A,hA⟩:=Ar.ex;obtain⟨k,n,s⟩:=w;generalize e3:A .aI .eql k 3=u3;generalize e1:A .aI .eql k 1=u1;generalize e2:A .aI .eql k 2=u2;have f3:=e3;have f2:=e2;have f1:=e1;rw[aA A]at e1 e2 e3;refine ah A (ax fKE.aK fKE.bF) Tryz.func303 rfl (by kernel_rfl) ?_;cbv;rw[f3];cases u3 with
 |true=>cbv;exact⟨Le.refl _,⟨k,0,s⟩,rfl,by simp only[pT,e3];rfl⟩
 |false=>
  cbv;rw[f1];cases u1 with
  |true=>cbv;exact⟨Le.refl _,⟨k,n,⟨#[]⟩⟩,rfl,by simp only[pT,e3,e1];rfl⟩
  |false=>
   cbv;rw[f2];cases u2 with
   |true=>cbv;exact⟨Le.refl _,⟨k,n,⟨#[]⟩⟩,rfl,by simp only[pT,e3,e1,e2];rfl⟩
   |false=>cbv;exact⟨Le.refl _,⟨k,0,⟨#[]⟩⟩,rfl,by simp only[pT,e3,e1,e2];rfl⟩
theorem QU(w:cO)(h:ad):Ct 275 [.agg #[.int .i64 w.k,.int .i64 w.n,.string w.s]] h (fun v h'=>Le h h'/\∃z,v=.int .i64 z/\z=fv w):=by
 obtain⟨A,hA⟩:=Ar.ex;obtain⟨k,n,s⟩:=w;generalize eb:pT ⟨k,n,s⟩=bv;obtain⟨k',n',s'⟩:=bv;generalize e1:A .aI .lss k 0=u1;generalize e2:A .aI .gtr k 3=u2;generalize e3:A .not (A .and (A .aI .eql k k') (A .and (A .aI .eql n n') (A .and (A .iQ .eql s s') true)))=u3;generalize e4:A .aI .eql k 1=u4;generalize e5:A .aI .neq n 0=u5;generalize e6:A .aI .neq n 1=u6;generalize e7:A .aI .gtr (A .jO s) 60=u7;have f1:=e1;have f2:=e2;have f3:=e3;have f4:=e4;have f5:=e5;have f6:=e6;have f7:=e7;rw[bm A]at e1;rw[bO A]at e2;rw[aA A]at e4;rw[aC A]at e5 e6;rw[bO A,hA.jO]at e7;rw[hA.not,hA.and,aA A,aA A,cS A]at e3;have key:∀z,z=(if(u1||u2)=true then(3:Int)else if(u3||(u4&&u5&&u6))=true then 1 else if u7=true then 5 else 0)->z=fv ⟨k,n,s⟩:=fun z hz=>by
  rw[hz,<-e1,<-e2,<-e3,<-e4,<-e5,<-e6,<-e7];simp only[fv,eb,vU,mZJ]
 refine ah A (ax fKY.aK fKY.bF) Tryz.func275 rfl (by kernel_rfl) ?_;cbv;rw[f1];cases u1 with
 |true=>cbv;exact⟨Le.refl _,3,rfl,key 3 rfl⟩
 |false=>
  cbv;rw[f2];cases u2 with
  |true=>cbv;exact⟨Le.refl _,3,rfl,key 3 rfl⟩
  |false=>
   cbv;refine(cZt ⟨k,n,s⟩ h).mono (fun v h1 hR=>?_);obtain⟨l1,x,rfl,ex⟩:=hR;rw[eb]at ex;subst ex;cbv;rw[f3];cases u3 with
   |true=>cbv;exact⟨l1,1,rfl,key 1 rfl⟩
   |false=>
    cbv;rw[f4];cases u4 with
    |false=>
     cbv;rw[f7];cases u7 with
     |true=>cbv;exact⟨l1,5,rfl,key 5 rfl⟩
     |false=>cbv;exact⟨l1,0,rfl,key 0 rfl⟩
    |true=>
     cbv;rw[f5];cases u5 with
     |false=>
      cbv;rw[f7];cases u7 with
      |true=>cbv;exact⟨l1,5,rfl,key 5 rfl⟩
      |false=>cbv;exact⟨l1,0,rfl,key 0 rfl⟩
     |true=>
      cbv;rw[f6];cases u6 with
      |true=>cbv;exact⟨l1,1,rfl,key 1 rfl⟩
      |false=>
       cbv;rw[f7];cases u7 with
       |true=>cbv;exact⟨l1,5,rfl,key 5 rfl⟩
       |false=>cbv;exact⟨l1,0,rfl,key 0 rfl⟩
theorem aQc.at_{l:List Int}{z:Int}{t:Bool}(q:aQc l z t):aS z (di l)/\t=jG l:=by obtain⟨i,h1,h2,h3⟩:=q.out;subst h2;exact⟨h1,h3⟩
def dx(c:cK)(v:cO):Int:=if decide (fv v≠0)=true then fv v else if(decide (v.k=0)&& !c.null)=true then 13 else if(decide (v.k≠0)&&decide (v.k≠c.kind))=true then 3 else 0
def dg(cols:List cK)(r:Row):Int:=if decide ((r.length:Int)≠(cols.length:Int))=true then 1 else fP (List.zipWith dx cols r)
def dA(t:cW)(k:cO):List Int:=t.rows.map fun r=>bC (keyOf t.S.key r) k
def AE(t:cW)(i:Nat)(r:Row):cW:=⟨t.S,t.rows.take i++[r]++t.rows.drop i⟩
def LF(t:cW)(i:Nat):cW:=⟨t.S,t.rows.take i++t.rows.drop (i+1)⟩
def bK(t:cW)(r:Row):cW×Int:=
 if decide (dg t.S.cols r≠0)=true then(t,dg t.S.cols r)
 else if jG (dA t (keyOf t.S.key r))=true then(t,7)
 else if decide ((t.rows.length:Int)>=200)=true then(t,4)
 else(AE t (di (dA t (keyOf t.S.key r))) r,0)
def bH(t:cW)(k:cO):cW×Row×Int:=
 if jG (dA t k)=true then(LF t (di (dA t k)),(t.rows[di (dA t k)]?).getD [],0)else(t,[],2)
theorem cXD{nm:ByteArray}{cols:List cK}{key:Int}{only:Bool}{r:Row}{h:ad}{sb b:Option Addr}{sn sc n c:Nat}(qs:Sl 165 bI h (.slice sb sn sc) cols)(q:Sl 61 bq h (.slice b n c) r):
 Ct 240 [.agg #[.string nm,.slice sb sn sc,.int .i64 key,.bool only],.slice b n c] h (fun v h'=>Le h h'/\∃z,v=.int .i64 z/\z=dg cols r):=by
 obtain⟨A,hA⟩:=Ar.ex;have hlen:=q.len;have kKh:=qs.len;obtain⟨lY,jq⟩:=q.bound;generalize e1:A .aI .neq (A .nat n) (A .nat sn)=u1;have f1:=e1;rw[aC A,hA.nat]at e1;simp only[mQJ]at e1;rw[hlen,kKh]at e1;have iQr:u1=false->n=sn:=fun e=>by rw[e]at e1;have:=mQW.1 (mQI e1);omega
 refine ah A (ax gQu.aK gQu.bF) Tryz.func240 rfl (by kernel_rfl) ?_;cbv;rw[f1];cases u1 with
 |true=>cbv;exact⟨Le.refl _,1,rfl,by simp only[dg,e1];rfl⟩
 |false=>
  have Wc:=iQr rfl;cbv;refine aX.go (G:=Int) (fun z=>[(17,.v (.int .i64 z))]) (fun _=>[(2,[.string nm,.slice sb sn sc,.int .i64 key,.bool only])])
   (fun k z h'=>∃i:Nat,aS z i/\k=n-i/\i<=n/\Le h h'/\∀j,j<i->∀y,(List.zipWith dx cols r)[j]? =some y->y=0) n 0 ⟨?_,?_,?_⟩ ⟨0,⟨rfl⟩,by omega,by omega,Le.refl _,fun j hj=>(by omega)⟩ ?_
  ·cbv
  ·cbv
  ·cbv
  ·intro k z h' hI;cbv;obtain⟨i,hz,hk,hi,hle,aV⟩:=hI;refine bh (fun hc=>?_) (fun hc=>?_)
   ·have aP:=hz.lt hc;clear hc;cbv;obtain⟨x,hx⟩:=aE (xs:=r) (i:=i) (by omega);obtain⟨y,hy⟩:=aE (xs:=cols) (i:=i) (by omega);have aKb:(List.zipWith dx cols r)[i]? =some (dx y x):=by rw[mKW,hx,hy]
    have Bc:(List.zipWith dx cols r).drop i=dx y x::(List.zipWith dx cols r).drop (i+1):=by have hl:=(HH.1 aKb);rw[mQy hl.1,hl.2]
    have hf:dg cols r=fP ((List.zipWith dx cols r).drop i):=by rw[<-qY aV];simp only[dg,e1];rfl
    have bad:∀ {hh:ad} (w:Int),Le h hh->w=dx y x->w≠0->Le h hh/\∃z,Value.int .i64 w=.int .i64 z/\z=dg cols r:=fun w l ew hw=>by
     refine⟨l,w,rfl,?_⟩;rw[hf,Bc,<-ew];simp only[fP];rw[if_pos (kS hw)]
    have pO:∀(h2:ad),Le h h2->dx y x=0->∃j:Nat,aS (A .bB .add .i64 z 1) j/\n-(i+1)=n-j/\j<=n/\Le h h2/\∀j',j'<j->∀w,(List.zipWith dx cols r)[j']? =some w->w=0:=fun h2 l e0=>
     ⟨i+1,hz.succ (A:=A) (by omega),rfl,by omega,l,fun j hj w hw=>by
      rcases mQS j i with nT|nT
      ·exact aV j nT w hw
      ·have:j=i:=by omega
       subst this;rw[aKb]at hw;cases hw;exact e0⟩
    refine⟨⟨q.aT (by omega),hz.ix aP⟩,?_⟩;cbv;refine(q.mono (hle.t _)).load hx hz.eq (fun cs ay=>?_);have ay:cs=[.int .i64 x.k,.int .i64 x.n,.string x.s]:=ay;subst ay;cbv;refine⟨⟨qs.aT (by omega),hz.ix (by omega)⟩,?_⟩;cbv;refine(qs.mono (hle.t _)).load hy hz.eq (fun cs ay=>?_);have ay:cs=[.string y.name,.int .i64 y.kind,.bool y.null]:=ay;subst ay;cbv;refine(QU x h').mono (fun v h2 hR=>?_);obtain⟨l2,ev,rfl,cKz⟩:=hR;have bKR:=hle.trans l2;obtain⟨kZx,kd,nl⟩:=y;generalize g1:A .aI .neq ev 0=w1;generalize g2:A .aI .eql x.k 0=w2;generalize g3:A .aI .neq x.k 0=w3;generalize g4:A .aI .neq x.k kd=w4;generalize g5:A .not nl=w5;have k1:=g1;have k2:=g2;have k3:=g3;have k4:=g4;have k5:=g5;rw[aC A]at g1 g3 g4;rw[aA A]at g2;rw[hA.not]at g5;have key:dx ⟨kZx,kd,nl⟩ x=if w1=true then ev else if(w2&&w5)=true then 13 else if(w3&&w4)=true then 3 else 0:=by rw[<-g1,<-g2,<-g3,<-g4,<-g5,cKz];rfl
    have Ek:w1=true->ev≠0:=fun e=>by rw[e]at g1;exact mQB g1
    cbv;rw[k1];cases w1 with
    |true=>cbv;exact bad ev bKR key.symm (Ek rfl)
    |false=>
     cbv;rw[k2];cases w2 with
     |true=>
      have dJI:w3=false:=by rw[<-g3];have:=mQB g2;exact nM (by omega)
      subst dJI;cbv;rw[k5];cases w5 with
      |true=>cbv;exact bad 13 bKR key.symm (by omega)
      |false=>
       have g:=pO h2 bKR key;cbv;rw[k3];cbv;refine⟨n-(i+1),_,by omega,⟨?_,?_,?_⟩,g⟩
       ·cbv
       ·cbv
       ·cbv
     |false=>
      cbv;rw[k3];cases w3 with
      |true=>
       cbv;rw[k4];cases w4 with
       |true=>cbv;exact bad 3 bKR key.symm (by omega)
       |false=>
        have g:=pO h2 bKR key;cbv;refine⟨n-(i+1),_,by omega,⟨?_,?_,?_⟩,g⟩
        ·cbv
        ·cbv
        ·cbv
      |false=>
       have g:=pO h2 bKR key;cbv;refine⟨n-(i+1),_,by omega,⟨?_,?_,?_⟩,g⟩
       ·cbv
       ·cbv
       ·cbv
   ·have lN:=hz.ge hc;have hf:=qY aV;rw[mXl (by rw[List.length_zipWith];omega)]at hf;cbv;refine⟨hle,0,rfl,?_⟩;simp only[dg,e1,hf];rfl
theorem dXR{r:Row}{h:ad}{b:Option Addr}{n c:Nat}(q:Sl 61 bq h (.slice b n c) r):aD.R h [.slice b n c] r:=⟨_,rfl,q⟩
theorem qP{L:List Row}{h:ad}{b:Option Addr}{n c:Nat}(q:Sl 59 aD h (.slice b n c) L):(mW 59 aD).R h [.slice b n c] L:=⟨_,rfl,q⟩
theorem cJx{nm:ByteArray}{cols:List cK}{key:Int}{only:Bool}{rows:List Row}{r:Row}{h:ad}{sb b4 b:Option Addr}{sn sc n4 c4 n c:Nat}(qs:Sl 165 bI h (.slice sb sn sc) cols)(q4:Sl 59 aD h (.slice b4 n4 c4) rows)(q:Sl 61 bq h (.slice b n c) r)(hn:n4<=2^37):
 Ct 157 [.agg #[.string nm,.slice sb sn sc,.int .i64 key,.bool only,.slice b4 n4 c4],.slice b n c] h (fun v h'=>Le h h'/\∃b1 n1 k1 b2 n2 k2 e T,v=.tuple #[.agg #[.string nm,.slice b1 n1 k1,.int .i64 key,.bool only,.slice b2 n2 k2],.int .i64 e]/\
  Sl 165 bI h' (.slice b1 n1 k1) cols/\Sl 59 aD h' (.slice b2 n2 k2) T/\(⟨⟨⟨nm,cols,key,only⟩,T⟩,e⟩:cW×Int)=bK ⟨⟨nm,cols,key,only⟩,rows⟩ r):=by
 obtain⟨A,hA⟩:=Ar.ex;have h4:=q4.len;refine ah A (ax gXC.aK gXC.bF) Tryz.func157 rfl (by kernel_rfl) ?_;cbv;refine(cXD (nm:=nm) (key:=key) (only:=only) qs q).mono (fun v h1 hR=>?_);obtain⟨l1,z,rfl,ez⟩:=hR;have Eh:bK ⟨⟨nm,cols,key,only⟩,rows⟩ r=if decide (z≠0)=true then(⟨⟨nm,cols,key,only⟩,rows⟩,z)else if jG (dA ⟨⟨nm,cols,key,only⟩,rows⟩ (keyOf key r))=true then(⟨⟨nm,cols,key,only⟩,rows⟩,7)
  else if decide ((rows.length:Int)>=200)=true then(⟨⟨nm,cols,key,only⟩,rows⟩,4)else(AE ⟨⟨nm,cols,key,only⟩,rows⟩ (di (dA ⟨⟨nm,cols,key,only⟩,rows⟩ (keyOf key r))) r,0):=by rw[ez];rfl
 generalize g1:A .aI .neq z 0=w1;have k1:=g1;rw[aC A]at g1;rw[g1]at Eh;have all:([rows]:List (List Row)).flatten=rows:=by simp
 cbv;rw[k1];cases w1 with
 |true=>
  cbv;intro nb h2 gY e2;have l2:Le h1 h2:=by rw[e2];exact Le.set gY
  have g2:=(congrFun e2 nb).trans ae;have ko:=l1.trans l2;cbv;refine(yE (qs.mono (ko.t _)) (bA (s:=mW 59 aD) g2 (qP (q4.mono (ko.t _)))) (by rw[all];omega)).mono (fun v h3 hR=>?_);obtain⟨l3,b1,n1,k1,b2,n2,k2,rfl,r1,r2⟩:=hR;rw[all]at r2;cbv;exact⟨ko.trans l3,_,_,_,_,_,_,z,rows,rfl,r1,r2,Eh.symm⟩
 |false=>
  cbv;refine(aJF (q.mono (l1.t _))).mono (fun v h2 hR=>?_);obtain⟨l2,kr,rfl,iJx⟩:=hR;have ko:=l1.trans l2;cbv;refine(WD (q4.mono (ko.t _)) kr).mono (fun v h3 hR=>?_);obtain⟨l3,zi,t,rfl,hb⟩:=hR;have fQy:=ko.trans l3;obtain⟨qA,ht⟩:=hb.at_;rw[<-iJx]at Eh;have ht:t=jG (dA ⟨⟨nm,cols,key,only⟩,rows⟩ kr):=ht;have qA:aS zi (di (dA ⟨⟨nm,cols,key,only⟩,rows⟩ kr)):=qA;have fXS:di (dA ⟨⟨nm,cols,key,only⟩,rows⟩ kr)<=n4:=by have:=eXk (dA ⟨⟨nm,cols,key,only⟩,rows⟩ kr);rw[h4];simpa[dA]using this
  rw[<-ht]at Eh;generalize di (dA ⟨⟨nm,cols,key,only⟩,rows⟩ kr)=i at *;generalize g2:A .aI .geq (A .nat n4) 200=w2;have k2:=g2;rw[cf A,hA.nat]at g2;simp only[mQJ]at g2;rw[h4]at g2;rw[g2]at Eh;cases t with
  |true=>
   cbv;intro nb h4 gY e4;have l4:Le h3 h4:=by rw[e4];exact Le.set gY
   have g4:=(congrFun e4 nb).trans ae;have xW:=fQy.trans l4;cbv;refine(yE (qs.mono (xW.t _)) (bA (s:=mW 59 aD) g4 (qP (q4.mono (xW.t _)))) (by rw[all];omega)).mono (fun v h5 hR=>?_);obtain⟨l5,b1,n1,k1,b2,n2,k2,rfl,r1,r2⟩:=hR;rw[all]at r2;cbv;exact⟨xW.trans l5,_,_,_,_,_,_,7,rows,rfl,r1,r2,Eh.symm⟩
  |false=>
   cbv;rw[k2];cases w2 with
   |true=>
    cbv;intro nb h4 gY e4;have l4:Le h3 h4:=by rw[e4];exact Le.set gY
    have g4:=(congrFun e4 nb).trans ae;have xW:=fQy.trans l4;cbv;refine(yE (qs.mono (xW.t _)) (bA (s:=mW 59 aD) g4 (qP (q4.mono (xW.t _)))) (by rw[all];omega)).mono (fun v h5 hR=>?_);obtain⟨l5,b1,n1,k1,b2,n2,k2,rfl,r1,r2⟩:=hR;rw[all]at r2;cbv;exact⟨xW.trans l5,_,_,_,_,_,_,4,rows,rfl,r1,r2,Eh.symm⟩
   |false=>
    have sM:=q4.bound;have cJ:0<=zi/\zi<=(c4:Int)/\0<=zi/\zi<=zi:=by have:=qA.eq;omega
    have jo:0<=zi/\zi<=(n4:Int):=by have:=qA.eq;omega
    have bXP:([rows.take i,[r],rows.drop i]:List (List Row)).flatten=rows.take i++[r]++rows.drop i:=by simp
    have DE:(rows.take i++[r]++rows.drop i).length<=2^38:=by simp;omega
    cbv;refine⟨cJ,?_⟩;cbv;refine⟨jo,?_⟩;cbv;intro nb h4 gY e4;have l4:Le h3 h4:=by rw[e4];exact Le.set gY
    have g4:=(congrFun e4 nb).trans ae;have xW:=fQy.trans l4;cbv;intro Ad h5 yf e5;have l5:Le h4 h5:=by rw[e5];exact Le.set yf
    have g5:=(congrFun e5 Ad).trans ae;have aJx:=xW.trans l5;have eKs:=q4.mono (aJx.t _);have p1:=qP (eKs.sU (A:=A) (s:=aD) (z:=zi) fXS (fh (A:=A) qA) (fh (A:=A) qA));have p2:=qP (bA (s:=aD) (l5 _ _ g4) (dXR (q.mono (aJx.t _))));have p3:=qP (eKs.uW (A:=A) (s:=aD) qA fXS (gA (A:=A) qA) (gA (A:=A) qA));cbv;refine(yE (qs.mono (aJx.t _)) (GC (s:=mW 59 aD) rfl g5 p1 p2 p3) (by rw[bXP];exact DE)).mono (fun v h6 hR=>?_);obtain⟨l6,b1,n1,k1,b2,n2,k2,rfl,r1,r2⟩:=hR;rw[bXP]at r2;cbv;exact⟨aJx.trans l6,_,_,_,_,_,_,0,_,rfl,r1,r2,Eh.symm⟩
theorem aXy{nm:ByteArray}{cols:List cK}{key:Int}{only:Bool}{rows:List Row}{h:ad}{sb b4:Option Addr}{sn sc n4 c4:Nat}(qs:Sl 165 bI h (.slice sb sn sc) cols)(q4:Sl 59 aD h (.slice b4 n4 c4) rows)(hn:n4<=2^37)(kv:cO):
 Ct 158 [.agg #[.string nm,.slice sb sn sc,.int .i64 key,.bool only,.slice b4 n4 c4],.agg #[.int .i64 kv.k,.int .i64 kv.n,.string kv.s]] h (fun v h'=>Le h h'/\∃b1 n1 k1 b2 n2 k2 b3 n3 k3 e T R,v=.tuple #[.agg #[.string nm,.slice b1 n1 k1,.int .i64 key,.bool only,.slice b2 n2 k2],.slice b3 n3 k3,.int .i64 e]/\
  Sl 165 bI h' (.slice b1 n1 k1) cols/\Sl 59 aD h' (.slice b2 n2 k2) T/\Sl 61 bq h' (.slice b3 n3 k3) R/\(⟨⟨⟨nm,cols,key,only⟩,T⟩,R,e⟩:cW×Row×Int)=bH ⟨⟨nm,cols,key,only⟩,rows⟩ kv):=by
 obtain⟨A,hA⟩:=Ar.ex;have h4:=q4.len;have all:([rows]:List (List Row)).flatten=rows:=by simp
 refine ah A (ax gXB.aK gXB.bF) Tryz.func158 rfl (by kernel_rfl) ?_;cbv;refine(WD q4 kv).mono (fun v h1 hR=>?_);obtain⟨l1,zi,t,rfl,hb⟩:=hR;obtain⟨qA,ht⟩:=hb.at_;have Eh:bH ⟨⟨nm,cols,key,only⟩,rows⟩ kv=if jG (dA ⟨⟨nm,cols,key,only⟩,rows⟩ kv)=true then(LF ⟨⟨nm,cols,key,only⟩,rows⟩ (di (dA ⟨⟨nm,cols,key,only⟩,rows⟩ kv)),(rows[di (dA ⟨⟨nm,cols,key,only⟩,rows⟩ kv)]?).getD [],0)else(⟨⟨nm,cols,key,only⟩,rows⟩,[],2):=rfl
 have ht:t=jG (dA ⟨⟨nm,cols,key,only⟩,rows⟩ kv):=ht;have qA:aS zi (di (dA ⟨⟨nm,cols,key,only⟩,rows⟩ kv)):=qA;have aP:t=true->di (dA ⟨⟨nm,cols,key,only⟩,rows⟩ kv)<n4:=fun e=>by
  have:=lr (ht.symm.trans e);rw[h4];simpa[dA]using this
 rw[<-ht]at Eh;generalize di (dA ⟨⟨nm,cols,key,only⟩,rows⟩ kv)=i at *;cases t with
 |false=>
  have ye:A .not false=true:=by rw[hA.not];rfl
  cbv;rw[ye];cbv;intro nb h4 gY e4;have l4:Le h1 h4:=by rw[e4];exact Le.set gY
  have g4:=(congrFun e4 nb).trans ae;have xW:=l1.trans l4;cbv;refine(yE (qs.mono (xW.t _)) (bA (s:=mW 59 aD) g4 (qP (q4.mono (xW.t _)))) (by rw[all];omega)).mono (fun v h5 hR=>?_);obtain⟨l5,b1,n1,k1,b2,n2,k2,rfl,r1,r2⟩:=hR;rw[all]at r2;cbv;exact⟨xW.trans l5,_,_,_,_,_,_,_,_,_,2,rows,[],rfl,r1,r2,Sl.nil,Eh.symm⟩
 |true=>
  have aP:=aP rfl;have ye:A .not true=false:=by rw[hA.not];rfl
  have sM:=q4.bound;have jV:=qA.succ (A:=A) (by omega);have cJ:0<=zi/\zi<=(c4:Int)/\0<=zi/\zi<=zi:=by have:=qA.eq;omega
  have jo:0<=A .bB .add .i64 zi 1/\A .bB .add .i64 zi 1<=(n4:Int):=by have:=jV.eq;omega
  have bXP:([rows.take i,rows.drop (i+1)]:List (List Row)).flatten=rows.take i++rows.drop (i+1):=by simp
  have DE:(rows.take i++rows.drop (i+1)).length<=2^38:=by simp;omega
  obtain⟨x,hx⟩:=aE (xs:=rows) (i:=i) (by omega);have TZ:b4.isSome=true/\0<=zi/\zi<(n4:Int):=⟨q4.aT (by omega),qA.ix aP⟩;cbv;rw[ye];cbv;refine⟨cJ,?_⟩;cbv;refine⟨jo,?_⟩;cbv;refine⟨TZ,?_⟩;cbv;refine(q4.mono (l1.t _)).Ch hx qA.eq (fun cs ay again=>?_);obtain⟨vx,rfl,jXo⟩:=ay;obtain⟨bx,lx,cx,rfl⟩:=jXo.form;cbv;intro Ad h5 yf e5;have l5:Le h1 h5:=by rw[e5];exact Le.set yf
  have g5:=(congrFun e5 Ad).trans ae;have aJx:=l1.trans l5;have eKs:=q4.mono (aJx.t _);have p1:=qP (eKs.sU (A:=A) (s:=aD) (z:=zi) (mZe aP) (fh (A:=A) qA) (fh (A:=A) qA));have p3:=qP (eKs.uW (A:=A) (s:=aD) jV aP (gA (A:=A) jV) (gA (A:=A) jV));cbv;refine again _ _ l5 ?_;cbv;refine⟨⟨_,rfl,rfl⟩,?_⟩;cbv;refine(yE (qs.mono (aJx.t _)) (LC (s:=mW 59 aD) rfl g5 p1 p3) (by rw[bXP];exact DE)).mono (fun v h6 hR=>?_);obtain⟨l6,b1,n1,k1,b2,n2,k2,rfl,r1,r2⟩:=hR;rw[bXP]at r2;cbv;refine again _ _ (l5.trans l6) ?_;cbv;refine⟨⟨_,rfl,rfl⟩,?_⟩;cbv;refine(II (jXo.mono ((l5.trans l6).t _))).mono (fun v h7 hR=>?_);obtain⟨l7,b3,k3,rfl,r3,-⟩:=hR;cbv;rw[hx]at Eh;exact⟨(aJx.trans l6).trans l7,_,_,_,_,_,_,_,_,_,0,_,_,rfl,r1.mono (l7.t _),r2.mono (l7.t _),r3,Eh.symm⟩
theorem cQp{α:Type}{xs:List α}{p:α->Bool}{z:Int}(q:vg xs p z):(z=-1/\xs.findIdx? p=none)\/∃i x,aS z i/\xs.findIdx? p=some i/\xs[i]? =some x/\p x=true:=by
 rcases q.out with ⟨h1,h2⟩ | ⟨i,x,h1,h2,h3,h4⟩
 ·exact .inl ⟨h1,mKd.2 h2⟩
 ·refine .inr ⟨i,x,h1,?_,h2,h3⟩;obtain⟨wE,pz⟩:=HH.1 h2;rw[mKc];refine⟨wE,by rw[pz];exact h3,fun j hj=>?_⟩;have tX:j<xs.length:=by omega
  have:=h4 j hj xs[j] (by simp[tX]);simp[this]
def Vo(a b:cg):Bool:=decide (a.s=b.s)&&(decide (a.table=b.table)&&decide (a.x=b.x))
def oG(H:List cg)(hd:cg):Option Nat:=H.findIdx? (jJ hd)
def qI(H:List cg)(hd:cg):Bool:=match oG H hd with
 |some i=>(H[i]?).any fun o=>o.x||Vo o hd
 |none=>false
def bP(H:List cg)(hd:cg):Bool:=qI H hd|| !(H.any (eL hd))
def cV(H:List cg)(hd:cg):List cg:=
 if bP H hd=true then if qI H hd=true then H else match oG H hd with
  |some i=>H.set i hd
  |none=>H++[hd]
 else H
def df(H W:List cg)(hd:cg):List cg:=if bP H hd=true then bX W hd.s else bX W hd.s++[hd]
theorem Eo{L:List cg}{h:ad}{b:Option Addr}{n c:Nat}(q:Sl 205 bG h (.slice b n c) L):(mW 205 bG).R h [.slice b n c] L:=⟨_,rfl,q⟩
theorem cXB{H W:List cg}{h:ad}{b1 b2:Option Addr}{n1 c1 n2 c2:Nat}(q1:Sl 205 bG h (.slice b1 n1 c1) H)(q2:Sl 205 bG h (.slice b2 n2 c2) W)(lG:n1<=2^38)(mY:n2<=2^38)(s:Int):
 Ct 130 [.agg #[.slice b1 n1 c1,.slice b2 n2 c2],.int .i64 s] h (fun v h'=>Le h h'/\∃b1 n1 c1 b2 n2 c2,v=.agg #[.slice b1 n1 c1,.slice b2 n2 c2]/\Sl 205 bG h' (.slice b1 n1 c1) (bX H s)/\Sl 205 bG h' (.slice b2 n2 c2) (bX W s)):=by
 obtain⟨A,hA⟩:=Ar.ex;refine ah A (ax gXQ.aK gXQ.bF) Tryz.func130 rfl (by kernel_rfl) ?_;cbv;refine(kZ q1 lG s).mono (fun v h1 hR=>?_);obtain⟨l1,eJh,gJo,aQE,rfl,r1⟩:=hR;cbv;refine(kZ (q2.mono (l1.t _)) mY s).mono (fun v h2 hR=>?_);obtain⟨l2,iKk,hJE,iKc,rfl,r2⟩:=hR;cbv;exact⟨l1.trans l2,_,_,_,_,_,_,rfl,r1.sl.mono (l2.t _),r2.sl⟩
theorem eXs{H W:List cg}{h:ad}{b1 b2:Option Addr}{n1 c1 n2 c2:Nat}(q1:Sl 205 bG h (.slice b1 n1 c1) H)(q2:Sl 205 bG h (.slice b2 n2 c2) W)(lG:n1<=2^37)(mY:n2<=2^37)(hd:cg):
 Ct 281 [.agg #[.slice b1 n1 c1,.slice b2 n2 c2],.agg #[.int .i64 hd.s,.string hd.table,.bool hd.x]] h (fun v h'=>Le h h'/\∃b1 n1 c1 b2 n2 c2 t,v=.tuple #[.agg #[.slice b1 n1 c1,.slice b2 n2 c2],.bool t]/\Sl 205 bG h' (.slice b1 n1 c1) (cV H hd)/\Sl 205 bG h' (.slice b2 n2 c2) (df H W hd)/\t=bP H hd):=by
 obtain⟨A,hA⟩:=Ar.ex;obtain⟨hs,ht,hx⟩:=hd;refine ah A (ax fKS.aK fKS.bF) Tryz.func281 rfl (by kernel_rfl) ?_;cbv;refine(bKG q1 ⟨hs,ht,hx⟩).mono (fun v h1 hR=>?_);obtain⟨l1,z,rfl,hz⟩:=hR;have ye:A .not true=false:=by rw[hA.not];rfl
 have Wj:A .not false=true:=by rw[hA.not];rfl
 rcases(cQp hz)with ⟨rfl,hf⟩ | ⟨i,o,jV,hf,ho,hp⟩
 ·have lN:A .aI .geq (-1) 0=false:=by rw[cf A];rfl
  have kH:qI H ⟨hs,ht,hx⟩=false:=by unfold qI oG;rw[hf]
  cbv;rw[lN];cbv;refine(Fh (q1.mono (l1.t _)) ⟨hs,ht,hx⟩).mono (fun v h2 hR=>?_);obtain⟨l2,tc,rfl,iJp⟩:=hR;have ko:=l1.trans l2;have kF:bP H ⟨hs,ht,hx⟩= !tc:=by unfold bP;rw[kH,iJp];rfl
  cases tc with
  |true=>
   have rM:bP H ⟨hs,ht,hx⟩=false:=kF;have HL:cV H ⟨hs,ht,hx⟩=H:=by unfold cV;rw[rM];rfl
   have HK:df H W ⟨hs,ht,hx⟩=bX W hs++[⟨hs,ht,hx⟩]:=by unfold df;rw[rM];rfl
   cbv;rw[ye];cbv;refine(po (q1.mono (ko.t _))).mono (fun v h3 hR=>?_);obtain⟨l3,bc,cc,rfl,yW⟩:=hR;cbv;refine(kZ (q2.mono ((ko.trans l3).t _)) (by omega) hs).mono (fun v h4 hR=>?_);obtain⟨l4,bw,nw,cw,rfl,MW⟩:=hR;have xW:=(ko.trans l3).trans l4;have Il:=yW.mono (l4.t _);cbv;rw[Wj];cbv;intro Ad h5 yf e5;have l5:Le h4 h5:=by rw[e5];exact Le.set yf
   have g5:=(congrFun e5 Ad).trans ae;cbv;intro Yr h6 TC e6;have l6:Le h5 h6:=by rw[e6];exact Le.set TC
   have g6:=(congrFun e6 Yr).trans ae;have Rf:([bX W hs,[⟨hs,ht,hx⟩]]:List (List cg)).flatten=bX W hs++[⟨hs,ht,hx⟩]:=by simp
   have tW:(bX W hs++[(⟨hs,ht,hx⟩:cg)]).length<=2^38:=by have h1:(bX W hs).length<=W.length:=mXH _ _;have h2:=q2.len;simp only[nX,mQu];omega
   cbv;refine(Ez (LC (s:=mW 205 bG) rfl g6 (Eo (MW.sl.mono ((l5.trans l6).t _))) (Eo (bA (s:=bG) (l6 _ _ g5) (x:=⟨hs,ht,hx⟩) rfl))) (by rw[Rf];exact tW)).mono (fun v h7 hR=>?_);obtain⟨l7,b7,n7,c7,rfl,mP⟩:=hR;rw[Rf]at mP;have VQ:=(l5.trans l6).trans l7;cbv;exact⟨xW.trans VQ,_,_,_,_,_,_,false,rfl,by rw[HL];exact Il.sl.mono (VQ.t _),by rw[HK];exact mP.sl,rM.symm⟩
  |false=>
   have rM:bP H ⟨hs,ht,hx⟩=true:=kF;have HL:cV H ⟨hs,ht,hx⟩=H++[⟨hs,ht,hx⟩]:=by unfold cV;rw[rM,kH];unfold oG;rw[hf];rfl
   have HK:df H W ⟨hs,ht,hx⟩=bX W hs:=by unfold df;rw[rM];rfl
   cbv;rw[Wj];cbv;refine(po (q1.mono (ko.t _))).mono (fun v h3 hR=>?_);obtain⟨l3,bc,cc,rfl,yW⟩:=hR;cbv;refine(kZ (q2.mono ((ko.trans l3).t _)) (by omega) hs).mono (fun v h4 hR=>?_);obtain⟨l4,bw,nw,cw,rfl,MW⟩:=hR;have xW:=(ko.trans l3).trans l4;have Il:=yW.mono (l4.t _);cbv;rw[ye];cbv;rw[lN];cbv;intro Ad h5 yf e5;have l5:Le h4 h5:=by rw[e5];exact Le.set yf
   have g5:=(congrFun e5 Ad).trans ae;cbv;intro Yr h6 TC e6;have l6:Le h5 h6:=by rw[e6];exact Le.set TC
   have g6:=(congrFun e6 Yr).trans ae;have Rf:([H,[⟨hs,ht,hx⟩]]:List (List cg)).flatten=H++[⟨hs,ht,hx⟩]:=by simp
   have tW:(H++[(⟨hs,ht,hx⟩:cg)]).length<=2^38:=by have h2:=q1.len;simp only[nX,mQu];omega
   cbv;refine(Ez (LC (s:=mW 205 bG) rfl g6 (Eo (Il.sl.mono ((l5.trans l6).t _))) (Eo (bA (s:=bG) (l6 _ _ g5) (x:=⟨hs,ht,hx⟩) rfl))) (by rw[Rf];exact tW)).mono (fun v h7 hR=>?_);obtain⟨l7,b7,n7,c7,rfl,mP⟩:=hR;rw[Rf]at mP;have VQ:=(l5.trans l6).trans l7;cbv;exact⟨xW.trans VQ,_,_,_,_,_,_,true,rfl,by rw[HL];exact mP.sl,by rw[HK];exact MW.sl.mono (VQ.t _),rM.symm⟩
 ·have lN:A .aI .geq z 0=true:=by rw[cf A];have:=jV.eq;exact kS (by omega)
  have jXT:i<n1:=by have:=(HH.1 ho).1;rw[q1.len];exact this
  have cJ:b1.isSome=true/\0<=z/\z<(n1:Int):=⟨q1.aT (by omega),jV.ix jXT⟩;have kH:qI H ⟨hs,ht,hx⟩=(o.x||Vo o ⟨hs,ht,hx⟩):=by unfold qI oG;rw[hf];simp only[ho];rfl
  obtain⟨os,ot,ox⟩:=o;cbv;rw[lN];cbv;refine⟨cJ,?_⟩;cbv;refine(q1.mono (l1.t _)).cC ho jV.eq (o:=2) (m:=1) (by decide) (fun cs ay=>?_);have ay:cs=[.int .i64 os,.string ot,.bool ox]:=ay;subst ay;cases ox with
  |true=>
   have fQE:qI H ⟨hs,ht,hx⟩=true:=kH;have rM:bP H ⟨hs,ht,hx⟩=true:=by unfold bP;rw[fQE];rfl
   have HL:cV H ⟨hs,ht,hx⟩=H:=by unfold cV;rw[rM,fQE];rfl
   have HK:df H W ⟨hs,ht,hx⟩=bX W hs:=by unfold df;rw[rM];rfl
   cbv;refine(po (q1.mono (l1.t _))).mono (fun v h3 hR=>?_);obtain⟨l3,bc,cc,rfl,yW⟩:=hR;cbv;refine(kZ (q2.mono ((l1.trans l3).t _)) (by omega) hs).mono (fun v h4 hR=>?_);obtain⟨l4,bw,nw,cw,rfl,MW⟩:=hR;have xW:=(l1.trans l3).trans l4;have Il:=yW.mono (l4.t _);cbv;rw[ye];cbv;exact⟨xW,_,_,_,_,_,_,true,rfl,by rw[HL];exact Il.sl,by rw[HK];exact MW.sl,rM.symm⟩
  |false=>
   cbv;refine⟨cJ,?_⟩;cbv;refine(q1.mono (l1.t _)).load ho jV.eq (fun cs ay=>?_);have ay:cs=[.int .i64 os,.string ot,.bool false]:=ay;subst ay;generalize es:A .and (A .aI .eql os hs) (A .and (A .iQ .eql ot ht) (A .and (A .EE .eql false hx) true))=us;have fs:=es;rw[hA.and,aA A,cS A,hA.EE]at es;have hKj:qI H ⟨hs,ht,hx⟩=us:=by rw[kH,<-es];simp only[Vo,mZx,mZJ,EE];cases hx<;>rfl
   cbv;rw[fs];cases us with
   |true=>
    have fQE:=hKj;have rM:bP H ⟨hs,ht,hx⟩=true:=by unfold bP;rw[fQE];rfl
    have HL:cV H ⟨hs,ht,hx⟩=H:=by unfold cV;rw[rM,fQE];rfl
    have HK:df H W ⟨hs,ht,hx⟩=bX W hs:=by unfold df;rw[rM];rfl
    cbv;refine(po (q1.mono (l1.t _))).mono (fun v h3 hR=>?_);obtain⟨l3,bc,cc,rfl,yW⟩:=hR;cbv;refine(kZ (q2.mono ((l1.trans l3).t _)) (by omega) hs).mono (fun v h4 hR=>?_);obtain⟨l4,bw,nw,cw,rfl,MW⟩:=hR;have xW:=(l1.trans l3).trans l4;have Il:=yW.mono (l4.t _);cbv;rw[ye];cbv;exact⟨xW,_,_,_,_,_,_,true,rfl,by rw[HL];exact Il.sl,by rw[HK];exact MW.sl,rM.symm⟩
   |false=>
    cbv;refine(Fh (q1.mono (l1.t _)) ⟨hs,ht,hx⟩).mono (fun v h2 hR=>?_);obtain⟨l2,tc,rfl,iJp⟩:=hR;have ko:=l1.trans l2;have kF:bP H ⟨hs,ht,hx⟩= !tc:=by unfold bP;rw[hKj,iJp];rfl
    cases tc with
    |true=>
     have rM:bP H ⟨hs,ht,hx⟩=false:=kF;have HL:cV H ⟨hs,ht,hx⟩=H:=by unfold cV;rw[rM];rfl
     have HK:df H W ⟨hs,ht,hx⟩=bX W hs++[⟨hs,ht,hx⟩]:=by unfold df;rw[rM];rfl
     cbv;rw[ye];cbv;refine(po (q1.mono (ko.t _))).mono (fun v h3 hR=>?_);obtain⟨l3,bc,cc,rfl,yW⟩:=hR;cbv;refine(kZ (q2.mono ((ko.trans l3).t _)) (by omega) hs).mono (fun v h4 hR=>?_);obtain⟨l4,bw,nw,cw,rfl,MW⟩:=hR;have xW:=(ko.trans l3).trans l4;have Il:=yW.mono (l4.t _);cbv;rw[Wj];cbv;intro Ad h5 yf e5;have l5:Le h4 h5:=by rw[e5];exact Le.set yf
     have g5:=(congrFun e5 Ad).trans ae;cbv;intro Yr h6 TC e6;have l6:Le h5 h6:=by rw[e6];exact Le.set TC
     have g6:=(congrFun e6 Yr).trans ae;have Rf:([bX W hs,[⟨hs,ht,hx⟩]]:List (List cg)).flatten=bX W hs++[⟨hs,ht,hx⟩]:=by simp
     have tW:(bX W hs++[(⟨hs,ht,hx⟩:cg)]).length<=2^38:=by have h1:(bX W hs).length<=W.length:=mXH _ _;have h2:=q2.len;simp only[nX,mQu];omega
     cbv;refine(Ez (LC (s:=mW 205 bG) rfl g6 (Eo (MW.sl.mono ((l5.trans l6).t _))) (Eo (bA (s:=bG) (l6 _ _ g5) (x:=⟨hs,ht,hx⟩) rfl))) (by rw[Rf];exact tW)).mono (fun v h7 hR=>?_);obtain⟨l7,b7,n7,c7,rfl,mP⟩:=hR;rw[Rf]at mP;have VQ:=(l5.trans l6).trans l7;cbv;exact⟨xW.trans VQ,_,_,_,_,_,_,false,rfl,by rw[HL];exact Il.sl.mono (VQ.t _),by rw[HK];exact mP.sl,rM.symm⟩
    |false=>
     have rM:bP H ⟨hs,ht,hx⟩=true:=kF;have HL:cV H ⟨hs,ht,hx⟩=H.set i ⟨hs,ht,hx⟩:=by unfold cV;rw[rM,hKj];unfold oG;rw[hf];rfl
     have HK:df H W ⟨hs,ht,hx⟩=bX W hs:=by unfold df;rw[rM];rfl
     cbv;rw[Wj];cbv;refine(po (q1.mono (ko.t _))).mono (fun v h3 hR=>?_);obtain⟨l3,bc,cc,rfl,yW⟩:=hR;cbv;refine(kZ (q2.mono ((ko.trans l3).t _)) (by omega) hs).mono (fun v h4 hR=>?_);obtain⟨l4,bw,nw,cw,rfl,MW⟩:=hR;have xW:=(ko.trans l3).trans l4;have Il:=yW.mono (l4.t _);obtain⟨Ad,rfl,yf,iXa,oc⟩:=Il.own (by omega);have aP:i<H.length:=(HH.1 ho).1;have Ij:n1<=cc:=(yW.sl).bound.2;have TY:(some (⟨Ad,0,none⟩:Addr)).isSome=true/\0<=z/\z<(n1:Int):=⟨rfl,jV.ix jXT⟩;cbv;rw[ye];cbv;rw[lN];cbv;refine⟨TY,?_⟩;cbv;refine oc.setAt (by decide) (i:=i) (by omega) jV.eq rfl (x:=⟨hs,ht,hx⟩) rfl (fun h5 k5 t5 o5=>?_);have l5:Le h h5:=xW.dJ (by simpa using ko.none yf) k5;have fZ:h3 Ad≠none:=by obtain⟨px,e1,-,-,o3⟩:=yW.own (by omega);cases e1;exact o3.has
     have lw:=(MW.kp k5 (by simpa using fZ) (t5 _ (by decide))).sl;cbv;exact⟨l5,_,_,_,_,_,_,true,rfl,by rw[HL];exact o5.sl (by rw[mXo];exact iXa),by rw[HK];exact lw,rM.symm⟩
end Go.S
