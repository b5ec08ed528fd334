import Derived.Test.YtekoaiendgjkdaaGreatDB
import Derived.Test.YtekoaiendgjkdaaGreatRd
set_option linter.unusedVariables false
set_option linter.unusedSimpArgs false
set_option linter.unusedSectionVars false
set_option maxRecDepth 100000
namespace Go.S
open Go.Sx Go.Proofs
theorem jx{xs:List bZ}{h:ad}{b:Option Addr}{len cap:Nat}(q:Sl 205 bL h (.slice b len cap) xs):
 Ct 116 [.slice b len cap] h (fun v h'=>Le h h'/\∃b' eV,v=.slice b' len eV/\cX 205 bL h h' (.slice b' len eV) xs):=by
 obtain⟨A,hA⟩:=Ar.ex;refine ah A (ar Qq.aA Qq.bm) Tryz.func116 rfl (by kernel_rfl) ?_;cbv;refine aQ (fun hc=>?_) (fun hc=>?_)
 ·rw[hA.xy]at hc;cbv;have hb:b=none:=by cases b<;>simp at hc |-
  subst hb;have hl:len=0:=by
   rcases Nat.eq_zero_or_pos len with e|e
   ·exact e
   ·have:=q.bu e;cases this
  have:=q.len;have hx:xs=[]:=List.eq_nil_of_length_eq_zero (by omega);subst hx hl;exact⟨Le.refl _,none,0,rfl,cX.nil⟩
 ·cbv;intro n0 h1 kg eF;have hle:Le h h1:=by rw[eF];exact Le.set kg
  cbv;refine fi (q.mono (hle.t _)) (by simp[bL]) rfl (by decide) (fun hn=>?_) (fun nb c h2 e1 e2 e3 e4=>?_)
  ·cbv;have:=q.len;have hx:xs=[]:=List.eq_nil_of_length_eq_zero (by omega);subst hx hn;exact⟨hle,_,_,rfl,cX.nil⟩
  ·cbv;exact⟨hle.trans e3,_,_,rfl,e4.buf (hle.none e1) q.len⟩
theorem tm{xs:List bT}{h:ad}{b:Option Addr}{len cap:Nat}(q:Sl 165 bt h (.slice b len cap) xs):
 Ct 169 [.slice b len cap] h (fun v h'=>Le h h'/\∃b' eV,v=.slice b' len eV/\cX 165 bt h h' (.slice b' len eV) xs):=by
 obtain⟨A,hA⟩:=Ar.ex;refine ah A (ar Qp.aA Qp.bm) Tryz.func169 rfl (by kernel_rfl) ?_;cbv;refine aQ (fun hc=>?_) (fun hc=>?_)
 ·rw[hA.xy]at hc;cbv;have hb:b=none:=by cases b<;>simp at hc |-
  subst hb;have hl:len=0:=by
   rcases Nat.eq_zero_or_pos len with e|e
   ·exact e
   ·have:=q.bu e;cases this
  have:=q.len;have hx:xs=[]:=List.eq_nil_of_length_eq_zero (by omega);subst hx hl;exact⟨Le.refl _,none,0,rfl,cX.nil⟩
 ·cbv;intro n0 h1 kg eF;have hle:Le h h1:=by rw[eF];exact Le.set kg
  cbv;refine fi (q.mono (hle.t _)) (by simp[bt]) rfl (by decide) (fun hn=>?_) (fun nb c h2 e1 e2 e3 e4=>?_)
  ·cbv;have:=q.len;have hx:xs=[]:=List.eq_nil_of_length_eq_zero (by omega);subst hx hn;exact⟨hle,_,_,rfl,cX.nil⟩
  ·cbv;exact⟨hle.trans e3,_,_,rfl,e4.buf (hle.none e1) q.len⟩
theorem py{xs:List dg}{h:ad}{b:Option Addr}{len cap:Nat}(q:Sl 61 bq h (.slice b len cap) xs):
 Ct 90 [.slice b len cap] h (fun v h'=>Le h h'/\∃b' eV,v=.slice b' len eV/\cX 61 bq h h' (.slice b' len eV) xs):=by
 obtain⟨A,hA⟩:=Ar.ex;refine ah A (ar T90.aA T90.bm) Tryz.func90 rfl (by kernel_rfl) ?_;cbv;refine aQ (fun hc=>?_) (fun hc=>?_)
 ·rw[hA.xy]at hc;cbv;have hb:b=none:=by cases b<;>simp at hc |-
  subst hb;have hl:len=0:=by
   rcases Nat.eq_zero_or_pos len with e|e
   ·exact e
   ·have:=q.bu e;cases this
  have:=q.len;have hx:xs=[]:=List.eq_nil_of_length_eq_zero (by omega);subst hx hl;exact⟨Le.refl _,none,0,rfl,cX.nil⟩
 ·cbv;intro n0 h1 kg eF;have hle:Le h h1:=by rw[eF];exact Le.set kg
  cbv;refine fi (q.mono (hle.t _)) (by simp[bq]) rfl (by decide) (fun hn=>?_) (fun nb c h2 e1 e2 e3 e4=>?_)
  ·cbv;have:=q.len;have hx:xs=[]:=List.eq_nil_of_length_eq_zero (by omega);subst hx hn;exact⟨hle,_,_,rfl,cX.nil⟩
  ·cbv;exact⟨hle.trans e3,_,_,rfl,e4.buf (hle.none e1) q.len⟩
abbrev bZ.v(h:bZ):Value:=.agg #[.int .i64 h.s,.string h.table,.bool h.x]
def fY(a b:bZ):Bool:=decide (a.s≠b.s)&&(decide (a.table=b.table)&&(a.x||b.x))
def bQ(l:List bZ)(s:Int):List bZ:=l.filter fun h=>decide (h.s≠s)
def kP(h o:bZ):Bool:=decide (o.s=h.s)&&decide (o.table=h.table)
theorem Oi{s1:Int}{t1:ByteArray}{x1:Bool}{hd:bZ}{h:ad}{nb:Nat}(g:h nb=some (.cells #[.int .i64 hd.s,.string hd.table,.bool hd.x] 205 (0,0))):
 Ct 325 [.agg #[.int .i64 s1,.string t1,.bool x1],.pointer (some ⟨nb,0,none⟩)] h (fun v h'=>Le h h'/\∃t,v=.bool t/\t=kP hd ⟨s1,t1,x1⟩):=by
 obtain⟨A,hA⟩:=Ar.ex;have q1:A .aG .eql s1 hd.s=decide (s1=hd.s):=by rw[aw A]
 have q2:A .iY .eql t1 hd.table=decide (t1=hd.table):=by rw[bR A]
 refine ah A (ar T325.aA T325.bm) Tryz.func325 rfl (by kernel_rfl) ?_;cbv;rw[ai A];refine av g rfl rfl ?_;cbv;rw[q1];cases e1:decide (s1=hd.s)with
 |true=>cbv;rw[ai A];refine av g rfl rfl ?_;cbv;rw[q2];exact⟨Le.refl _,_,rfl,by simp[kP,e1]⟩
 |false=>cbv;exact⟨Le.refl _,_,rfl,by simp[kP,e1]⟩
theorem wV{a b:bZ}{h:ad}:
 Ct 307 [.agg #[.int .i64 a.s,.string a.table,.bool a.x],.agg #[.int .i64 b.s,.string b.table,.bool b.x]] h (fun v h'=>Le h h'/\∃t,v=.bool t/\t=fY a b):=by
 obtain⟨A,hA⟩:=Ar.ex;obtain⟨s1,t1,x1⟩:=a;obtain⟨s2,t2,x2⟩:=b;have q1:A .aG .neq s1 s2=decide (s1≠s2):=by rw[aB A]
 have q2:A .iY .eql t1 t2=decide (t1=t2):=by rw[bR A]
 refine ah A (ar T307.aA T307.bm) Tryz.func307 rfl (by kernel_rfl) ?_;cbv;rw[q1];cases e1:decide (s1≠s2)with
 |true=>
  cbv;rw[q2];cases e2:decide (t1=t2)with
  |true=>
   cases x1 with
   |true=>cbv;exact⟨Le.refl _,_,rfl,by simp[fY,e1,e2]⟩
   |false=>cbv;exact⟨Le.refl _,_,rfl,by simp[fY,e1,e2]⟩
  |false=>cbv;exact⟨Le.refl _,_,rfl,by simp[fY,e1,e2]⟩
 |false=>cbv;exact⟨Le.refl _,_,rfl,by simp[fY,e1]⟩
theorem OM{xs:List bZ}{h:ad}{b:Option Addr}{len cap:Nat}(q:Sl 205 bL h (.slice b len cap) xs){nb:Nat}{hd:bZ}(g:h nb=some (.cells #[.int .i64 hd.s,.string hd.table,.bool hd.x] 205 (0,0))):
 Ct 324 [.slice b len cap,.func (.func 325) #[] #[.pointer (some ⟨nb,0,none⟩)]] h (fun v h'=>Le h h'/\∃z:Int,v=.int .i64 z/\pG xs (kP hd) z):=by
 obtain⟨A,hA⟩:=Ar.ex;have hlen:=q.len;obtain⟨ll,jS⟩:=q.bound;generalize hp:(kP hd)=p;refine ah A (ar Ql.aA Ql.bm) Tryz.func324 rfl (by kernel_rfl) ?_;cbv;refine aX.go (G:=Int) (fun z=>[(8,.v (.int .i64 z))]) (fun _=>[]) (fun n z h'=>∃i:Nat,aS z i/\n=len-i/\i<=len/\Le h h'/\∀j,j<i->∀y,xs[j]? =some y->p y=false) len 0 ⟨?_,?_,?_⟩ ⟨0,⟨rfl⟩,by omega,by omega,Le.refl _,fun j hj=>(by omega)⟩ ?_
 ·cbv
 ·cbv
 ·cbv
 ·intro n z h' hI;cbv;obtain⟨i,hz,hn,hi,hle,aO⟩:=hI;refine aQ (fun hc=>?_) (fun hc=>?_)
  ·have aK:=hz.lt hc;clear hc;cbv;obtain⟨x,hx⟩:=aI (xs:=xs) (i:=i) (by omega);refine⟨⟨q.bu (by omega),hz.ix aK⟩,?_⟩;cbv;refine(q.mono (hle.t _)).load hx hz.eq (fun cs aC=>?_);have aC:cs=[.int .i64 x.s,.string x.table,.bool x.x]:=aC;subst aC;cbv;refine(Oi (hle _ _ g)).mono (fun v h2 hR=>?_);obtain⟨cP,t,rfl,ht⟩:=hR;have ht:t=p x:=by rw[<-hp];exact ht
   cbv;cases t with
   |true=>cbv;exact⟨hle.trans cP,z,rfl,⟨.inr ⟨i,x,hz,hx,ht.symm,aO⟩⟩⟩
   |false=>
    cbv;refine⟨len-(i+1),_,by omega,⟨?_,?_,?_⟩,i+1,hz.succ (A:=A) (by omega),rfl,by omega,hle.trans cP,?_⟩
    ·cbv
    ·cbv
    ·cbv
    ·intro j hj y hy;rcases Nat.lt_or_ge j i with h|h
     ·exact aO j h y hy
     ·have:j=i:=by omega
      subst this;rw[hx]at hy;cases hy;exact ht.symm
  ·have iR:=hz.ge hc;cbv;refine⟨hle,-1,rfl,⟨.inl ⟨rfl,fun x hx=>?_⟩⟩⟩;obtain⟨j,hj⟩:=List.getElem?_of_mem hx;have:=(List.getElem?_eq_some_iff.1 hj).1;exact aO j (by omega) x hj
theorem ON{xs:List bZ}{h:ad}{b:Option Addr}{len cap:Nat}(q:Sl 205 bL h (.slice b len cap) xs)(hd:bZ):
 Ct 324 [.slice b len cap,.func (.func 307) #[.agg #[.int .i64 hd.s,.string hd.table,.bool hd.x]] #[]] h (fun v h'=>Le h h'/\∃z:Int,v=.int .i64 z/\pG xs (fY hd) z):=by
 obtain⟨A,hA⟩:=Ar.ex;have hlen:=q.len;obtain⟨ll,jS⟩:=q.bound;generalize hp:(fY hd)=p;refine ah A (ar Ql.aA Ql.bm) Tryz.func324 rfl (by kernel_rfl) ?_;cbv;refine aX.go (G:=Int) (fun z=>[(8,.v (.int .i64 z))]) (fun _=>[]) (fun n z h'=>∃i:Nat,aS z i/\n=len-i/\i<=len/\Le h h'/\∀j,j<i->∀y,xs[j]? =some y->p y=false) len 0 ⟨?_,?_,?_⟩ ⟨0,⟨rfl⟩,by omega,by omega,Le.refl _,fun j hj=>(by omega)⟩ ?_
 ·cbv
 ·cbv
 ·cbv
 ·intro n z h' hI;cbv;obtain⟨i,hz,hn,hi,hle,aO⟩:=hI;refine aQ (fun hc=>?_) (fun hc=>?_)
  ·have aK:=hz.lt hc;clear hc;cbv;obtain⟨x,hx⟩:=aI (xs:=xs) (i:=i) (by omega);refine⟨⟨q.bu (by omega),hz.ix aK⟩,?_⟩;cbv;refine(q.mono (hle.t _)).load hx hz.eq (fun cs aC=>?_);have aC:cs=[.int .i64 x.s,.string x.table,.bool x.x]:=aC;subst aC;cbv;refine(wV (a:=hd) (b:=x)).mono (fun v h2 hR=>?_);obtain⟨cP,t,rfl,ht⟩:=hR;have ht:t=p x:=by rw[<-hp];exact ht
   cbv;cases t with
   |true=>cbv;exact⟨hle.trans cP,z,rfl,⟨.inr ⟨i,x,hz,hx,ht.symm,aO⟩⟩⟩
   |false=>
    cbv;refine⟨len-(i+1),_,by omega,⟨?_,?_,?_⟩,i+1,hz.succ (A:=A) (by omega),rfl,by omega,hle.trans cP,?_⟩
    ·cbv
    ·cbv
    ·cbv
    ·intro j hj y hy;rcases Nat.lt_or_ge j i with h|h
     ·exact aO j h y hy
     ·have:j=i:=by omega
      subst this;rw[hx]at hy;cases hy;exact ht.symm
  ·have iR:=hz.ge hc;cbv;refine⟨hle,-1,rfl,⟨.inl ⟨rfl,fun x hx=>?_⟩⟩⟩;obtain⟨j,hj⟩:=List.getElem?_of_mem hx;have:=(List.getElem?_eq_some_iff.1 hj).1;exact aO j (by omega) x hj
theorem Oj{H:List bZ}{h:ad}{b b2:Option Addr}{n c n2 c2:Nat}(q:Sl 205 bL h (.slice b n c) H)(hd:bZ):
 Ct 305 [.agg #[.slice b n c,.slice b2 n2 c2],.agg #[.int .i64 hd.s,.string hd.table,.bool hd.x]] h (fun v h'=>Le h h'/\∃z:Int,v=.int .i64 z/\pG H (kP hd) z):=by
 obtain⟨A,hA⟩:=Ar.ex;refine ah A (ar T305.aA T305.bm) Tryz.func305 rfl (by kernel_rfl) ?_;cbv;intro nb h1 fk e1;have l1:Le h h1:=by rw[e1];exact Le.set fk
 have g1:=(congrFun e1 nb).trans af;cbv;refine(OM (q.mono (l1.t _)) g1).mono (fun v h2 hR=>?_);obtain⟨l2,z,rfl,hz⟩:=hR;cbv;exact⟨l1.trans l2,z,rfl,hz⟩
theorem tX{H:List bZ}{h:ad}{b:Option Addr}{n c:Nat}(q:Sl 205 bL h (.slice b n c) H)(hd:bZ):
 Ct 306 [.slice b n c,.func (.func 307) #[.agg #[.int .i64 hd.s,.string hd.table,.bool hd.x]] #[]] h (fun v h'=>Le h h'/\∃t:Bool,v=.bool t/\t=H.any (fY hd)):=by
 obtain⟨A,hA⟩:=Ar.ex;refine ah A (ar T306.aA T306.bm) Tryz.func306 rfl (by kernel_rfl) ?_;cbv;refine(ON q hd).mono (fun v h2 hR=>?_);obtain⟨l2,z,rfl,hz⟩:=hR;cbv;refine⟨l2,_,rfl,?_⟩;rw[bS A];rcases hz.out with ⟨rfl,h1⟩ | ⟨i,x,h1,h2,h3,-⟩
 ·rw[eq_comm];simpa using h1
 ·have:=h1.eq;rw[decide_eq_true (by omega),eq_comm,List.any_eq_true];exact⟨x,List.mem_of_getElem? h2,h3⟩
theorem fQ{H:List bZ}{h:ad}{b:Option Addr}{n c:Nat}(q:Sl 205 bL h (.slice b n c) H)(hn:n<=2^38)(s:Int):
 Ct 221 [.slice b n c,.int .i64 s] h (fun v h'=>Le h h'/\∃b' n' c',v=.slice b' n' c'/\cX 205 bL h h' (.slice b' n' c') (bQ H s)):=by
 obtain⟨A,hA⟩:=Ar.ex;have hlen:=q.len;refine ah A (ar T221.aA T221.bm) Tryz.func221 rfl (by kernel_rfl) ?_;cbv;refine aX.go (G:=Int×Option Addr×Nat×Nat) (fun g=>[(10,.v (.int .i64 g.1)),(5,.v (.slice g.2.1 g.2.2.1 g.2.2.2))]) (fun _=>[])
  (fun k g h'=>∃i:Nat,aS g.1 i/\k=n-i/\i<=n/\Le h h'/\cX 205 bL h h' (.slice g.2.1 g.2.2.1 g.2.2.2) (bQ (H.take i) s)) n (0,none,0,0) ⟨?_,?_,?_⟩ ⟨0,⟨rfl⟩,by omega,by omega,Le.refl _,cX.nil⟩ ?_
 ·cbv
 ·cbv
 ·cbv
 ·intro k g h' hI;cbv;obtain⟨i,hz,hk,hi,hle,hb⟩:=hI;obtain⟨z,gb,gl,gc⟩:=g;have hz:aS z i:=hz;have hb:cX 205 bL h h' (.slice gb gl gc) (bQ (H.take i) s):=hb;refine aQ (fun hc=>?_) (fun hc=>?_)
  ·have aK:=hz.lt hc;clear hc;cbv;obtain⟨x,hx⟩:=aI (xs:=H) (i:=i) (by omega);refine⟨⟨q.bu (by omega),hz.ix aK⟩,?_⟩;cbv;refine(q.mono (hle.t _)).load hx hz.eq (fun cs aC=>?_);have aC:cs=[.int .i64 x.s,.string x.table,.bool x.x]:=aC;subst aC;have q1:A .aG .neq x.s s=decide (x.s≠s):=by rw[aB A]
   have Aj:gl<=i:=by have:=hb.sl.len;rw[this];refine Nat.le_trans (List.length_filter_le _ _) ?_;rw[List.length_take];omega
   cbv;rw[q1];cases e1:decide (x.s≠s)with
   |true=>
    cbv;intro nb h2 fk e2;have l2:Le h' h2:=by rw[e2];exact Le.set fk
    have g2:=(congrFun e2 nb).trans af;cbv;refine(hb.mono (l2.t _)).append (bU (s:=bL) g2 (x:=x) rfl) (by decide) rfl (by decide) (by omega) (hle.trans l2) (fun m b' c' h3 hm l3 t3 k3 nP=>?_);cbv;refine⟨n-(i+1),(_,b',m,c'),by omega,⟨?_,?_,?_⟩,i+1,hz.succ (A:=A) (by omega),rfl,by omega,l3,?_⟩
    ·cbv
    ·cbv
    ·cbv
    ·have:bQ (H.take (i+1)) s=bQ (H.take i) s++[x]:=by rw[List.take_add_one,hx];unfold bQ;rw[List.filter_append];simp[e1];simpa using e1
     rw[this];exact nP
   |false=>
    cbv;refine⟨n-(i+1),(_,gb,gl,gc),by omega,⟨?_,?_,?_⟩,i+1,hz.succ (A:=A) (by omega),rfl,by omega,hle,?_⟩
    ·cbv
    ·cbv
    ·cbv
    ·have:bQ (H.take (i+1)) s=bQ (H.take i) s:=by rw[List.take_add_one,hx];unfold bQ;rw[List.filter_append];simp[e1];simpa using e1
     rw[this];exact hb
  ·have iR:=hz.ge hc;cbv;refine(jx hb.sl).mono (fun v h2 hR=>?_);obtain⟨l2,b',c',rfl,q'⟩:=hR;cbv;refine⟨hle.trans l2,_,_,_,rfl,?_⟩;rw[List.take_of_length_le (by omega)]at q';exact q'.base hle
theorem Pt{h:ad}{z:Int}{m:Nat}(hz:aS z m)(hm:m<=2^38):
 Ct 326 [.slice none 0 0,.int .i64 z] h (fun v h'=>Le h h'/\∃b' c',v=.slice b' 0 c'/\cX 205 bL h h' (.slice b' 0 c') ([]:List bZ)):=by
 obtain⟨A,hA⟩:=Ar.ex;have h0:aS (A .nat 0) 0:=aS.nat 0;have hw:=hz.sub (A:=A) (h0.sub (A:=A) h0 (by omega) (by omega)) (by omega) (by omega);simp only[Nat.sub_zero,Nat.sub_self]at hw;refine ah A (ar T326.aA T326.bm) Tryz.func326 rfl (by kernel_rfl) ?_;cbv;rw[hz.GM (A:=A)];cbv;generalize eg:A .aG .gtr (A .bA .sub .i64 z (A .bA .sub .i64 (A .nat 0) (A .nat 0))) 0=u;generalize ew:A .bA .sub .i64 z (A .bA .sub .i64 (A .nat 0) (A .nat 0))=w at hw eg;rw[bJ A]at eg;cases u with
 |true=>
  have hp:=of_decide_eq_true eg;have KW:0<m:=by have:=hw.eq;omega
  cbv;have BJ:(0:Int)<=A .nat 0/\A .nat 0<=((0:Nat):Int):=by have:=h0.eq;omega
  refine⟨BJ,?_⟩;cbv;refine⟨oU hw (by omega) (by decide),?_⟩;cbv;rw[dM (A:=A) hw,dM (A:=A) h0];refine jO (s:=bL) (xs:=([]:List bZ)) Sl.nil (by omega) rfl (by decide) (by omega) rfl rfl (fun nb c h1 fk l1 hc ho=>?_);rw[Nat.zero_add];have cU:(0:Int)<=A .nat 0/\A .nat 0<=((c:Nat):Int):=by have:=h0.eq;omega
  cbv;refine⟨cU,?_⟩;cbv;rw[dM (A:=A) h0,rV (A:=A)];exact⟨l1,_,_,rfl,ho.buf fk rfl⟩
 |false=>cbv;exact⟨Le.refl _,_,_,rfl,cX.nil⟩
theorem te{L:List (List bZ)}{h:ad}{b:Option Addr}{n c:Nat}(q:Sl 28 (jU 205 bL) h (.slice b n c) L)(hn:L.flatten.length<=2^38):
 Ct 308 [.slice b n c] h (fun v h'=>Le h h'/\∃b' n' c',v=.slice b' n' c'/\cX 205 bL h h' (.slice b' n' c') L.flatten):=by
 obtain⟨A,hA⟩:=Ar.ex;have hlen:=q.len;obtain⟨ll,jS⟩:=q.bound;refine ah A (ar T308.aA T308.bm) Tryz.func308 rfl (by kernel_rfl) ?_;cbv;refine aX.go (G:=Int×Int) (fun g=>[(11,.v (.int .i64 g.1)),(3,.v (.int .i64 g.2))]) (fun _=>[])
  (fun k g h'=>∃i:Nat,aS g.1 i/\k=n-i/\i<=n/\h'=h/\aS g.2 (L.take i).flatten.length) n (0,0) ⟨?_,?_,?_⟩ ⟨0,⟨rfl⟩,by omega,by omega,rfl,⟨rfl⟩⟩ ?_
 ·cbv
 ·cbv
 ·cbv
 ·intro k g h' hI;cbv;obtain⟨i,hz,hk,hi,rfl,hw⟩:=hI;refine aQ (fun hc=>?_) (fun hc=>?_)
  ·have aK:=hz.lt hc;clear hc;cbv;obtain⟨x,hx⟩:=aI (xs:=L) (i:=i) (by omega);refine⟨⟨q.bu (by omega),hz.ix aK⟩,?_⟩;cbv;refine q.load hx hz.eq (fun cs aC=>?_);obtain⟨v,rfl,hv⟩:=aC;obtain⟨b1,l1,c1,rfl⟩:=hv.form;have AO:=hv.len;have hle:=po L (i+1);rw[gC hx,List.length_append,<-AO]at hle;have pN:=hw.add (A:=A) (aS.nat (A:=A) l1) (by omega);have BT:=gC hx;cbv;rw[pN.GM (A:=A)];cbv;refine⟨n-(i+1),(_,A .bA .add .i64 g.2 (A .nat l1)),by omega,⟨?_,?_,?_⟩,i+1,hz.succ (A:=A) (by omega),rfl,by omega,rfl,?_⟩
   ·cbv
   ·cbv
   ·cbv
   ·rw[BT,List.length_append,<-AO];exact pN
  ·have iR:=hz.ge hc;have eW:i=n:=by omega
   rw[List.take_of_length_le (by omega)]at hw;obtain⟨z,w⟩:=g;have hw:aS w L.flatten.length:=hw;cbv;refine(Pt hw hn).mono (fun v h1 hR=>?_);obtain⟨l1,b1,c1,rfl,hb⟩:=hR;cbv;refine aX.go (G:=Int×Option Addr×Nat×Nat) (fun g=>[(27,.v (.int .i64 g.1)),(6,.v (.slice g.2.1 g.2.2.1 g.2.2.2))]) (fun _=>[])
    (fun k g h2=>∃i:Nat,aS g.1 i/\k=n-i/\i<=n/\Le h' h2/\cX 205 bL h' h2 (.slice g.2.1 g.2.2.1 g.2.2.2) (L.take i).flatten) n (0,b1,0,c1) ⟨?_,?_,?_⟩ ⟨0,⟨rfl⟩,by omega,by omega,l1,hb⟩ ?_
   ·cbv
   ·cbv
   ·cbv
   ·intro k g h2 hI;cbv;obtain⟨i,hz,hk,hi,hle,hb⟩:=hI;obtain⟨z,gb,gl,gc⟩:=g;have hz:aS z i:=hz;have hb:cX 205 bL h' h2 (.slice gb gl gc) (L.take i).flatten:=hb;refine aQ (fun hc=>?_) (fun hc=>?_)
    ·have aK:=hz.lt hc;clear hc;cbv;obtain⟨x,hx⟩:=aI (xs:=L) (i:=i) (by omega);refine⟨⟨q.bu (by omega),hz.ix aK⟩,?_⟩;cbv;refine(q.mono (hle.t _)).load hx hz.eq (fun cs aC=>?_);obtain⟨v,rfl,hv⟩:=aC;obtain⟨b2,l2,c2,rfl⟩:=hv.form;have tO:=hv.len;have Aj:gl=(L.take i).flatten.length:=hb.sl.len;have cP:=po L (i+1);have BT:=gC hx;rw[BT,List.length_append,<-tO,<-Aj]at cP;cbv;refine hb.append hv (by decide) rfl (by decide) (by omega) hle (fun m b' c' h3 hm l3 t3 k3 nP=>?_);cbv;refine⟨n-(i+1),(_,b',m,c'),by omega,⟨?_,?_,?_⟩,i+1,hz.succ (A:=A) (by omega),rfl,by omega,l3,?_⟩
     ·cbv
     ·cbv
     ·cbv
     ·rw[BT];exact nP
    ·have iR:=hz.ge hc;cbv;rw[List.take_of_length_le (by omega)]at hb;exact⟨hle,_,_,_,rfl,hb⟩
theorem Ps{h:ad}{z:Int}{m:Nat}(hz:aS z m)(hm:m<=2^38):
 Ct 304 [.slice none 0 0,.int .i64 z] h (fun v h'=>Le h h'/\∃b' c',v=.slice b' 0 c'/\cX 59 aL h h' (.slice b' 0 c') ([]:List Row)):=by
 obtain⟨A,hA⟩:=Ar.ex;have h0:aS (A .nat 0) 0:=aS.nat 0;have hw:=hz.sub (A:=A) (h0.sub (A:=A) h0 (by omega) (by omega)) (by omega) (by omega);simp only[Nat.sub_zero,Nat.sub_self]at hw;refine ah A (ar T304.aA T304.bm) Tryz.func304 rfl (by kernel_rfl) ?_;cbv;rw[hz.GM (A:=A)];cbv;generalize eg:A .aG .gtr (A .bA .sub .i64 z (A .bA .sub .i64 (A .nat 0) (A .nat 0))) 0=u;generalize ew:A .bA .sub .i64 z (A .bA .sub .i64 (A .nat 0) (A .nat 0))=w at hw eg;rw[bJ A]at eg;cases u with
 |true=>
  have hp:=of_decide_eq_true eg;have KW:0<m:=by have:=hw.eq;omega
  cbv;have BJ:(0:Int)<=A .nat 0/\A .nat 0<=((0:Nat):Int):=by have:=h0.eq;omega
  refine⟨BJ,?_⟩;cbv;refine⟨oU hw (by omega) (by decide),?_⟩;cbv;rw[dM (A:=A) hw,dM (A:=A) h0];refine jO (s:=aL) (xs:=([]:List Row)) Sl.nil (by omega) rfl (by decide) (by omega) rfl rfl (fun nb c h1 fk l1 hc ho=>?_);rw[Nat.zero_add];have cU:(0:Int)<=A .nat 0/\A .nat 0<=((c:Nat):Int):=by have:=h0.eq;omega
  cbv;refine⟨cU,?_⟩;cbv;rw[dM (A:=A) h0,rV (A:=A)];exact⟨l1,_,_,rfl,ho.buf fk rfl⟩
 |false=>cbv;exact⟨Le.refl _,_,_,rfl,cX.nil⟩
theorem HK{L:List (List Row)}{h:ad}{b:Option Addr}{n c:Nat}(q:Sl 34 (jU 59 aL) h (.slice b n c) L)(hn:L.flatten.length<=2^38):
 Ct 277 [.slice b n c] h (fun v h'=>Le h h'/\∃b' n' c',v=.slice b' n' c'/\cX 59 aL h h' (.slice b' n' c') L.flatten):=by
 obtain⟨A,hA⟩:=Ar.ex;have hlen:=q.len;obtain⟨ll,jS⟩:=q.bound;refine ah A (ar T277.aA T277.bm) Tryz.func277 rfl (by kernel_rfl) ?_;cbv;refine aX.go (G:=Int×Int) (fun g=>[(11,.v (.int .i64 g.1)),(3,.v (.int .i64 g.2))]) (fun _=>[])
  (fun k g h'=>∃i:Nat,aS g.1 i/\k=n-i/\i<=n/\h'=h/\aS g.2 (L.take i).flatten.length) n (0,0) ⟨?_,?_,?_⟩ ⟨0,⟨rfl⟩,by omega,by omega,rfl,⟨rfl⟩⟩ ?_
 ·cbv
 ·cbv
 ·cbv
 ·intro k g h' hI;cbv;obtain⟨i,hz,hk,hi,rfl,hw⟩:=hI;refine aQ (fun hc=>?_) (fun hc=>?_)
  ·have aK:=hz.lt hc;clear hc;cbv;obtain⟨x,hx⟩:=aI (xs:=L) (i:=i) (by omega);refine⟨⟨q.bu (by omega),hz.ix aK⟩,?_⟩;cbv;refine q.load hx hz.eq (fun cs aC=>?_);obtain⟨v,rfl,hv⟩:=aC;obtain⟨b1,l1,c1,rfl⟩:=hv.form;have AO:=hv.len;have hle:=po L (i+1);rw[gC hx,List.length_append,<-AO]at hle;have pN:=hw.add (A:=A) (aS.nat (A:=A) l1) (by omega);have BT:=gC hx;cbv;rw[pN.GM (A:=A)];cbv;refine⟨n-(i+1),(_,A .bA .add .i64 g.2 (A .nat l1)),by omega,⟨?_,?_,?_⟩,i+1,hz.succ (A:=A) (by omega),rfl,by omega,rfl,?_⟩
   ·cbv
   ·cbv
   ·cbv
   ·rw[BT,List.length_append,<-AO];exact pN
  ·have iR:=hz.ge hc;have eW:i=n:=by omega
   rw[List.take_of_length_le (by omega)]at hw;obtain⟨z,w⟩:=g;have hw:aS w L.flatten.length:=hw;cbv;refine(Ps hw hn).mono (fun v h1 hR=>?_);obtain⟨l1,b1,c1,rfl,hb⟩:=hR;cbv;refine aX.go (G:=Int×Option Addr×Nat×Nat) (fun g=>[(27,.v (.int .i64 g.1)),(6,.v (.slice g.2.1 g.2.2.1 g.2.2.2))]) (fun _=>[])
    (fun k g h2=>∃i:Nat,aS g.1 i/\k=n-i/\i<=n/\Le h' h2/\cX 59 aL h' h2 (.slice g.2.1 g.2.2.1 g.2.2.2) (L.take i).flatten) n (0,b1,0,c1) ⟨?_,?_,?_⟩ ⟨0,⟨rfl⟩,by omega,by omega,l1,hb⟩ ?_
   ·cbv
   ·cbv
   ·cbv
   ·intro k g h2 hI;cbv;obtain⟨i,hz,hk,hi,hle,hb⟩:=hI;obtain⟨z,gb,gl,gc⟩:=g;have hz:aS z i:=hz;have hb:cX 59 aL h' h2 (.slice gb gl gc) (L.take i).flatten:=hb;refine aQ (fun hc=>?_) (fun hc=>?_)
    ·have aK:=hz.lt hc;clear hc;cbv;obtain⟨x,hx⟩:=aI (xs:=L) (i:=i) (by omega);refine⟨⟨q.bu (by omega),hz.ix aK⟩,?_⟩;cbv;refine(q.mono (hle.t _)).load hx hz.eq (fun cs aC=>?_);obtain⟨v,rfl,hv⟩:=aC;obtain⟨b2,l2,c2,rfl⟩:=hv.form;have tO:=hv.len;have Aj:gl=(L.take i).flatten.length:=hb.sl.len;have cP:=po L (i+1);have BT:=gC hx;rw[BT,List.length_append,<-tO,<-Aj]at cP;cbv;refine hb.append hv (by decide) rfl (by decide) (by omega) hle (fun m b' c' h3 hm l3 t3 k3 nP=>?_);cbv;refine⟨n-(i+1),(_,b',m,c'),by omega,⟨?_,?_,?_⟩,i+1,hz.succ (A:=A) (by omega),rfl,by omega,l3,?_⟩
     ·cbv
     ·cbv
     ·cbv
     ·rw[BT];exact nP
    ·have iR:=hz.ge hc;cbv;rw[List.take_of_length_le (by omega)]at hb;exact⟨hle,_,_,_,rfl,hb⟩
def dR:Sh Int where
 n:=1
 R _ cs v:=cs=[.int .i64 v]
 len:=by rintro h cs x rfl;rfl
 one:=by rintro h cs x rfl;rfl
 tys:=[]
 mono:=fun _ q=>q
def iC(a b:Int):Int:=if decide (a<b)=true then -1 else if decide (a>b)=true then 1 else 0
def dC:List Int->Int
 | []=>0
 |x::r=>if decide (x≠0)=true then x else dC r
def ch(a b:dg):Int:=dC [iC a.k b.k,iC a.n b.n,eX a.s b.s]
def keyOf(key:Int)(r:Row):dg:=if(decide (key<0)||decide (key>=(r.length:Int)))=true then⟨0,0,⟨#[]⟩⟩else(r[key.toNat]?).getD ⟨0,0,⟨#[]⟩⟩
abbrev dg.v(x:dg):Value:=.agg #[.int .i64 x.k,.int .i64 x.n,.string x.s]
theorem BF(a:Int)(h:ad):Ct 318 [.int .i64 a] h (fun v h'=>Le h h'/\v=.bool false):=by
 obtain⟨A,hA⟩:=Ar.ex;have q1:A .aG .neq a a=false:=by rw[aB A];simp
 refine ah A (ar T318.aA T318.bm) Tryz.func318 rfl (by kernel_rfl) ?_;cbv;rw[q1];exact⟨Le.refl _,rfl⟩
theorem LU(a b:Int)(h:ad):Ct 291 [.int .i64 a,.int .i64 b] h (fun v h'=>Le h h'/\∃z,v=.int .i64 z/\z=iC a b):=by
 obtain⟨A,hA⟩:=Ar.ex;refine ah A (ar T291.aA T291.bm) Tryz.func291 rfl (by kernel_rfl) ?_;cbv;refine(BF a h).mono (fun v h1 hR=>?_);obtain⟨l1,rfl⟩:=hR;cbv;refine(BF b h1).mono (fun v h2 hR=>?_);obtain⟨l2,rfl⟩:=hR;cbv;generalize e1:A .aG .lss a b=u1;generalize e2:A .aG .gtr a b=u2;have f2:=e2;rw[bE A]at e1;rw[bJ A]at e2;cases u1 with
 |true=>cbv;exact⟨l1.trans l2,_,rfl,by simp only[iC,e1];rfl⟩
 |false=>
  cbv;rw[f2];cases u2 with
  |true=>cbv;exact⟨l1.trans l2,_,rfl,by simp only[iC,e1,e2];rfl⟩
  |false=>cbv;exact⟨l1.trans l2,_,rfl,by simp only[iC,e1,e2];rfl⟩
theorem kA{xs:List Int}{i:Nat}(h:∀j,j<i->∀y,xs[j]? =some y->y=0):dC xs=dC (xs.drop i):=by
 induction i generalizing xs with
 |zero=>rfl
 |succ i ih=>
  cases xs with
  |nil=>rfl
  |cons x r=>have hx:x=0:=h 0 (by omega) x rfl;simp only[List.drop_succ_cons,dC,hx];rw[if_neg (by decide)];exact ih (fun j hj y hy=>h (j+1) (by omega) y (by simpa using hy))
theorem Yu{xs:List Int}{h:ad}{b:Option Addr}{n c:Nat}(q:Sl 3 dR h (.slice b n c) xs):
 Ct 290 [.slice b n c] h (fun v h'=>Le h h'/\∃z,v=.int .i64 z/\z=dC xs):=by
 obtain⟨A,hA⟩:=Ar.ex;have hlen:=q.len;obtain⟨ll,jS⟩:=q.bound;refine ah A (ar T290.aA T290.bm) Tryz.func290 rfl (by kernel_rfl) ?_;cbv;refine aX.go (G:=Int) (fun z=>[(8,.v (.int .i64 z))]) (fun _=>[]) (fun k z h'=>∃i:Nat,aS z i/\k=n-i/\i<=n/\h'=h/\∀j,j<i->∀y,xs[j]? =some y->y=0) n 0 ⟨?_,?_,?_⟩ ⟨0,⟨rfl⟩,by omega,by omega,rfl,fun j hj=>(by omega)⟩ ?_
 ·cbv
 ·cbv
 ·cbv
 ·intro k z h' hI;cbv;obtain⟨i,hz,hk,hi,rfl,aO⟩:=hI;refine aQ (fun hc=>?_) (fun hc=>?_)
  ·have aK:=hz.lt hc;clear hc;cbv;obtain⟨x,hx⟩:=aI (xs:=xs) (i:=i) (by omega);refine⟨⟨q.bu (by omega),hz.ix aK⟩,?_⟩;cbv;refine q.load hx hz.eq (fun cs aC=>?_);have aC:cs=[.int .i64 x]:=aC;subst aC;generalize ex:A .aG .neq x 0=u;rw[aB A]at ex;have AP:xs.drop i=x::xs.drop (i+1):=by rw[List.drop_eq_getElem_cons (by omega)];have:=(List.getElem?_eq_some_iff.1 hx).2;rw[this]
   have hf:=kA aO;rw[AP]at hf;cbv;rw[aB A,ex];cases u with
   |true=>cbv;refine⟨Le.refl _,_,rfl,?_⟩;rw[hf];simp only[dC,ex];rfl
   |false=>
    cbv;refine⟨n-(i+1),_,by omega,⟨?_,?_,?_⟩,i+1,hz.succ (A:=A) (by omega),rfl,by omega,rfl,?_⟩
    ·cbv
    ·cbv
    ·cbv
    ·intro j hj y hy;rcases Nat.lt_or_ge j i with jQ|jQ
     ·exact aO j jQ y hy
     ·have:j=i:=by omega
      subst this;rw[hx]at hy;cases hy;have:=of_decide_eq_false ex;exact Decidable.not_not.1 this
  ·have iR:=hz.ge hc;have hf:=kA aO;rw[List.drop_eq_nil_of_le (by omega)]at hf;cbv;exact⟨Le.refl _,_,rfl,hf.symm⟩
theorem wH(a b:dg)(h:ad):Ct 254 [.agg #[.int .i64 a.k,.int .i64 a.n,.string a.s],.agg #[.int .i64 b.k,.int .i64 b.n,.string b.s]] h (fun v h'=>Le h h'/\∃z,v=.int .i64 z/\z=ch a b):=by
 obtain⟨A,hA⟩:=Ar.ex;obtain⟨k1,n1,s1⟩:=a;obtain⟨k2,n2,s2⟩:=b;refine ah A (ar T254.aA T254.bm) Tryz.func254 rfl (by kernel_rfl) ?_;cbv;refine(LU k1 k2 h).mono (fun v h1 hR=>?_);obtain⟨l1,z1,rfl,e1⟩:=hR;cbv;refine(LU n1 n2 h1).mono (fun v h2 hR=>?_);obtain⟨l2,z2,rfl,e2⟩:=hR;cbv;refine(LW s1 s2 h2).mono (fun v h3 hR=>?_);obtain⟨l3,z3,rfl,e3⟩:=hR;cbv;intro nb h4 fk e4;have l4:Le h3 h4:=by rw[e4];exact Le.set fk
 have g4:=(congrFun e4 nb).trans af;cbv;refine(Yu (uT (s:=dR) rfl g4 (x:=z1) (y:=z2) (w:=z3) rfl rfl rfl)).mono (fun v h5 hR=>?_);obtain⟨l5,z,rfl,ez⟩:=hR;cbv;exact⟨(((l1.trans l2).trans l3).trans l4).trans l5,z,rfl,by rw[ez,e1,e2,e3];rfl⟩
theorem Kj{r:Row}{h:ad}{c0 c1 c3 c4:Value}{key:Int}{b:Option Addr}{n c:Nat}(q:Sl 61 bq h (.slice b n c) r):
 Ct 243 [.agg #[c0,c1,.int .i64 key,c3,c4],.slice b n c] h (fun v h'=>Le h h'/\∃kr:dg,v=.agg #[.int .i64 kr.k,.int .i64 kr.n,.string kr.s]/\kr=keyOf key r):=by
 obtain⟨A,hA⟩:=Ar.ex;have hlen:=q.len;generalize e1:A .aG .lss key 0=u1;generalize e2:A .aG .geq key (A .nat n)=u2;have f1:=e1;have f2:=e2;rw[bE A]at e1;rw[bS A,hA.nat]at e2;simp only[Int.ofNat_eq_natCast]at e2;refine ah A (ar T243.aA T243.bm) Tryz.func243 rfl (by kernel_rfl) ?_;cbv;rw[f1];cases u1 with
 |true=>cbv;exact⟨Le.refl _,⟨0,0,⟨#[]⟩⟩,rfl,by simp only[keyOf,e1];rfl⟩
 |false=>
  cbv;rw[f2];cases u2 with
  |true=>cbv;refine⟨Le.refl _,⟨0,0,⟨#[]⟩⟩,rfl,?_⟩;rw[hlen]at e2;simp only[keyOf,e1,e2];rfl
  |false=>obtain⟨nO,nh⟩:=DH A f1 f2;obtain⟨x,hx⟩:=aI (xs:=r) (i:=key.toNat) (by omega);cbv;refine⟨⟨q.bu (by omega),nO.ix nh⟩,?_⟩;cbv;refine q.load hx nO.eq (fun cs aC=>?_);have aC:cs=[.int .i64 x.k,.int .i64 x.n,.string x.s]:=aC;subst aC;cbv;refine⟨Le.refl _,x,rfl,?_⟩;rw[hlen]at e2;simp only[keyOf,e1,e2,hx];rfl
theorem Fz{h:ad}{kb:Nat}{key:Int}{k0 k1 k3 k4:Value}(gk:h kb=some (.cells #[k0,k1,.int .i64 key,k3,k4] 335 (0,0))){r:Row}{b:Option Addr}{n c:Nat}(q:Sl 61 bq h (.slice b n c) r)(kv:dg):
 Ct 279 [.slice b n c,.agg #[.int .i64 kv.k,.int .i64 kv.n,.string kv.s],.pointer (some ⟨kb,0,none⟩)] h (fun v h'=>Le h h'/\∃z,v=.int .i64 z/\z=ch (keyOf key r) kv):=by
 obtain⟨A,hA⟩:=Ar.ex;refine ah A (ar T279.aA T279.bm) Tryz.func279 rfl (by kernel_rfl) ?_;cbv;refine av gk rfl rfl ?_;cbv;refine(Kj q).mono (fun v h1 hR=>?_);obtain⟨l1,kr,rfl,ekr⟩:=hR;cbv;refine(wH kr kv h1).mono (fun v h2 hR=>?_);obtain⟨l2,z,rfl,ez⟩:=hR;cbv;exact⟨l1.trans l2,z,rfl,by rw[ez,ekr]⟩
theorem bs160{xs:List Row}{h:ad}{b:Option Addr}{len cap:Nat}(q:Sl 59 aL h (.slice b len cap) xs){kb:Nat}{key:Int}{k0 k1 k3 k4:Value}(gk:h kb=some (.cells #[k0,k1,.int .i64 key,k3,k4] 335 (0,0)))(kv:dg):
 Ct 278 [.slice b len cap,.agg #[.int .i64 kv.k,.int .i64 kv.n,.string kv.s],.func (.func 279) #[] #[.pointer (some ⟨kb,0,none⟩)]] h (fun v h'=>Le h h'/\∃(z:Int) (t:Bool),v=.tuple #[.int .i64 z,.bool t]/\H5 (xs.map (fun x:Row=>ch (keyOf key x) kv)) z t):=by
 obtain⟨A,hA⟩:=Ar.ex;have hlen:=q.len;obtain⟨ll,jS⟩:=q.bound;have uq:(xs.map (fun x:Row=>ch (keyOf key x) kv)).length=len:=by simp[hlen]
 generalize hl:xs.map (fun x:Row=>ch (keyOf key x) kv)=l at uq;have mD:∀(i:Nat) x,xs[i]? =some x->l[i]? =some ((fun x:Row=>ch (keyOf key x) kv) x):=fun i x hx=>by rw[<-hl];simp[hx]
 refine ah A (ar T278.aA T278.bm) Tryz.func278 rfl (by kernel_rfl) ?_;cbv;refine aX.go (G:=Int×Int) (fun g=>[(9,.v (.int .i64 g.1)),(10,.v (.int .i64 g.2))]) (fun _=>[(4,[.int .i64 kv.k,.int .i64 kv.n,.string kv.s])])
  (fun n g h'=>∃i j:Nat,aS g.1 i/\aS g.2 j/\n=j-i/\i<=j/\j<=len/\Le h h'/\lX l 0 len=lX l i j) len (0,A .nat len) ⟨?_,?_,?_⟩ ⟨0,len,⟨rfl⟩,⟨by rw[hA.nat];rfl⟩,by omega,by omega,by omega,Le.refl _,rfl⟩ ?_
 ·cbv
 ·cbv
 ·cbv
 ·intro n g h' hI;cbv;obtain⟨i,j,hi,hj,hn,Rk,sw,hle,Rv⟩:=hI;refine aQ (fun hc=>?_) (fun hc=>?_)
  ·rw[hi.gy (A:=A) hj,decide_eq_true_eq]at hc;cbv;refine⟨by decide,?_⟩;cbv;have hm:=hi.mid (A:=A) hj (by omega) (by omega);obtain⟨x,hx⟩:=aI (xs:=xs) (i:=(i+j) / 2) (by omega);refine⟨⟨q.bu (by omega),hm.ix (by omega)⟩,?_⟩;cbv;refine(q.mono (hle.t _)).load hx hm.eq (fun cs aC=>?_);obtain⟨v,rfl,hv⟩:=aC;obtain⟨b1,l1,c1,rfl⟩:=hv.form;cbv;refine(Fz (hle _ _ gk) hv kv).mono (fun v h2 hR=>?_);obtain⟨cP,z,rfl,hz⟩:=hR;cbv;have hg:l.getD ((i+j) / 2) 0=z:=by rw[List.getD_eq_getElem?_getD,mD _ _ hx,hz];rfl
   have iS:=Rv;rw[lX.eq_1 l i j,if_pos hc,hg]at iS;refine aQ (fun je=>?_) (fun je=>?_)
   ·rw[hA.aG]at je;have BX:z<0:=of_decide_eq_true je;rw[if_pos BX]at iS;clear je BX;cbv;refine⟨j-((i+j) / 2+1),(_,g.2),by omega,⟨?_,?_,?_⟩,(i+j) / 2+1,j,hm.succ (A:=A) (by omega),hj,rfl,by omega,sw,hle.trans cP,iS⟩
    ·cbv
    ·cbv
    ·cbv
   ·rw[hA.aG]at je;have BX:¬z<0:=of_decide_eq_false je;rw[if_neg BX]at iS;clear je BX;cbv;refine⟨(i+j) / 2-i,(g.1,A .conv .i64 (A .bA .shr .u64 (A .conv .u64 (A .bA .add .i64 g.1 g.2)) 1)),by omega,⟨?_,?_,?_⟩,i,(i+j) / 2,hi,hm,rfl,by omega,by omega,hle.trans cP,iS⟩
    ·cbv
    ·cbv
    ·cbv
  ·rw[hi.gy (A:=A) hj,decide_eq_false_iff_not]at hc;cbv;have iS:=Rv;rw[lX.eq_1 l i j,if_neg hc]at iS;have gQ:=hi.gy (A:=A) (w:=A .nat len) (j:=len) ⟨by rw[hA.nat];rfl⟩;refine aQ (fun je=>?_) (fun je=>?_)
   ·rw[je];rw[gQ,decide_eq_true_eq]at je;cbv;obtain⟨x,hx⟩:=aI (xs:=xs) (i:=i) (by omega);refine⟨⟨q.bu (by omega),hi.ix (by omega)⟩,?_⟩;cbv;refine(q.mono (hle.t _)).load hx hi.eq (fun cs aC=>?_);obtain⟨v,rfl,hv⟩:=aC;obtain⟨b1,l1,c1,rfl⟩:=hv.form;cbv;refine(Fz (hle _ _ gk) hv kv).mono (fun v h2 hR=>?_);obtain⟨cP,z,rfl,hz⟩:=hR;cbv;refine⟨hle.trans cP,_,_,rfl,⟨i,hi,?_,?_⟩⟩
    ·rw[uq];exact iS.symm
    ·rw[hA.aG];have hg:l.getD i 0=z:=by rw[List.getD_eq_getElem?_getD,mD _ _ hx,hz];rfl
     rw[hg,uq];simp[aG,je];rfl
   ·rw[je];rw[gQ,decide_eq_false_iff_not]at je;cbv;refine⟨hle,_,_,rfl,⟨i,hi,?_,?_⟩⟩
    ·rw[uq];exact iS.symm
    ·rw[uq];simp[je]
theorem FA{rows:List Row}{h:ad}{c0 c1 c3:Value}{key:Int}{b:Option Addr}{n c:Nat}(q:Sl 59 aL h (.slice b n c) rows)(kv:dg):
 Ct 242 [.agg #[c0,c1,.int .i64 key,c3,.slice b n c],.agg #[.int .i64 kv.k,.int .i64 kv.n,.string kv.s]] h (fun v h'=>Le h h'/\∃z t,v=.tuple #[.int .i64 z,.bool t]/\H5 (rows.map fun r=>ch (keyOf key r) kv) z t):=by
 obtain⟨A,hA⟩:=Ar.ex;refine ah A (ar T242.aA T242.bm) Tryz.func242 rfl (by kernel_rfl) ?_;cbv;intro nb h1 fk e1;have l1:Le h h1:=by rw[e1];exact Le.set fk
 have g1:=(congrFun e1 nb).trans af;cbv;rw[ai A];rw[ai A];refine av g1 rfl rfl ?_;cbv;refine(bs160 (q.mono (l1.t _)) g1 kv).mono (fun v h2 hR=>?_);obtain⟨l2,z,t,rfl,hb⟩:=hR;cbv;exact⟨l1.trans l2,z,t,rfl,hb⟩
def jN(v:dg):dg:=if decide (v.k=3)=true then⟨v.k,0,v.s⟩else if decide (v.k=1)=true then⟨v.k,v.n,⟨#[]⟩⟩else if decide (v.k=2)=true then⟨v.k,v.n,⟨#[]⟩⟩else⟨v.k,0,⟨#[]⟩⟩
def nE(a b:dg):Bool:=decide (a.k=b.k)&&(decide (a.n=b.n)&&decide (a.s=b.s))
def cQ(v:dg):Int:=
 if(decide (v.k<0)||decide (v.k>3))=true then 3
 else if(!nE v (jN v)||(decide (v.k=1)&&decide (v.n≠0)&&decide (v.n≠1)))=true then 1
 else if decide ((v.s.size:Int)>60)=true then 5 else 0
theorem S9{xs:List Row}{h:ad}{b:Option Addr}{len cap:Nat}(q:Sl 59 aL h (.slice b len cap) xs):
 Ct 276 [.slice b len cap] h (fun v h'=>Le h h'/\∃nb,h nb=none/\v=.slice (some ⟨nb,0,none⟩) len len/\dI 59 aL h' nb len xs):=by
 obtain⟨A,hA⟩:=Ar.ex;have hlen:=q.len;obtain⟨ll,jS⟩:=q.bound;refine ah A (ar T276.aA T276.bm) Tryz.func276 rfl (by kernel_rfl) ?_;cbv;refine iL (s:=aL) rfl (by omega) (by decide) (fun nb h1 fk hle ho=>?_);cbv;refine aX.go (G:=Int) (fun z=>[(11,.v (.int .i64 z))]) (fun _=>[]) (fun n z h'=>∃i:Nat,aS z i/\n=len-i/\i<=len/\Le h h'/\dI 59 aL h' nb len (xs.take i)) len 0 ⟨?_,?_,?_⟩ ⟨0,⟨rfl⟩,by omega,by omega,hle,ho⟩ ?_
 ·cbv
 ·cbv
 ·cbv
 ·intro n z h' hI;cbv;obtain⟨i,hz,hn,hi,ku,pD⟩:=hI;refine aQ (fun hc=>?_) (fun hc=>?_)
  ·have aK:=hz.lt hc;clear hc;cbv;obtain⟨x,hx⟩:=aI (xs:=xs) (i:=i) (by omega);refine⟨⟨q.bu (by omega),hz.ix aK⟩,?_⟩;cbv;refine(q.mono (ku.t _)).load hx hz.eq (fun cs aC=>?_);obtain⟨v,rfl,hv⟩:=aC;obtain⟨b1,l1,c1,rfl⟩:=hv.form;cbv;refine(wJ hv).mono (fun v2 h2 hR=>?_);obtain⟨cP,b2,L3,rfl,Hb,-⟩:=hR;cbv;refine⟨⟨rfl,hz.ix aK⟩,?_⟩;cbv;refine(pD.mono (cP.t _)).store (by decide) (i:=i) (by simp;omega) (by omega) (by omega) hz.eq rfl (x:=x) ⟨_,rfl,Hb⟩ (fun h3 hk ht AN=>?_);cbv;refine⟨len-(i+1),_,by omega,⟨?_,?_,?_⟩,i+1,hz.succ (A:=A) (by omega),rfl,by omega,?_,?_⟩
   ·cbv
   ·cbv
   ·cbv
   ·exact(ku.trans cP).df (by simpa using fk) hk
   ·rw[if_neg (by simp;omega)]at AN;rw[List.take_add_one,hx];exact AN
  ·have iR:=hz.ge hc;cbv;have:i=len:=by omega
   subst this;refine⟨ku,nb,fk,rfl,?_⟩;rw[hlen,List.take_length]at pD;rw[hlen];exact pD
theorem oZ{nm:ByteArray}{cols:List bT}{key:Int}{only:Bool}{L:List (List Row)}{h:ad}{sb b b4:Option Addr}{sn sc n c n4 c4:Nat}(qs:Sl 165 bt h (.slice sb sn sc) cols)(qL:Sl 34 (jU 59 aL) h (.slice b n c) L)(hn:L.flatten.length<=2^38):
 Ct 241 [.agg #[.string nm,.slice sb sn sc,.int .i64 key,.bool only,.slice b4 n4 c4],.slice b n c] h (fun v h'=>Le h h'/\∃b1 n1 k1 b2 n2 k2,v=.agg #[.string nm,.slice b1 n1 k1,.int .i64 key,.bool only,.slice b2 n2 k2]/\Sl 165 bt h' (.slice b1 n1 k1) cols/\Sl 59 aL h' (.slice b2 n2 k2) L.flatten):=by
 obtain⟨A,hA⟩:=Ar.ex;refine ah A (ar T241.aA T241.bm) Tryz.func241 rfl (by kernel_rfl) ?_;cbv;refine(Cq qs).mono (fun v h1 hR=>?_);obtain⟨l1,b1,k1,rfl,q1,-⟩:=hR;cbv;refine(HK (qL.mono (l1.t _)) hn).mono (fun v h2 hR=>?_);obtain⟨l2,b2,n2,k2,rfl,q2⟩:=hR;cbv;refine(S9 q2.sl).mono (fun v h3 hR=>?_);obtain⟨l3,nb,fk,rfl,o3⟩:=hR;cbv;exact⟨(l1.trans l2).trans l3,_,_,_,_,_,_,rfl,q1.mono ((l2.trans l3).t _),o3.sl q2.sl.len⟩
theorem P8(w:dg)(h:ad):Ct 303 [.agg #[.int .i64 w.k,.int .i64 w.n,.string w.s]] h (fun v h'=>Le h h'/\∃x:dg,v=.agg #[.int .i64 x.k,.int .i64 x.n,.string x.s]/\x=jN w):=by
 obtain⟨A,hA⟩:=Ar.ex;obtain⟨k,n,s⟩:=w;generalize e3:A .aG .eql k 3=u3;generalize e1:A .aG .eql k 1=u1;generalize e2:A .aG .eql k 2=u2;have f3:=e3;have f2:=e2;have f1:=e1;rw[aw A]at e1 e2 e3;refine ah A (ar T303.aA T303.bm) Tryz.func303 rfl (by kernel_rfl) ?_;cbv;rw[f3];cases u3 with
 |true=>cbv;exact⟨Le.refl _,⟨k,0,s⟩,rfl,by simp only[jN,e3];rfl⟩
 |false=>
  cbv;rw[f1];cases u1 with
  |true=>cbv;exact⟨Le.refl _,⟨k,n,⟨#[]⟩⟩,rfl,by simp only[jN,e3,e1];rfl⟩
  |false=>
   cbv;rw[f2];cases u2 with
   |true=>cbv;exact⟨Le.refl _,⟨k,n,⟨#[]⟩⟩,rfl,by simp only[jN,e3,e1,e2];rfl⟩
   |false=>cbv;exact⟨Le.refl _,⟨k,0,⟨#[]⟩⟩,rfl,by simp only[jN,e3,e1,e2];rfl⟩
theorem Cs(w:dg)(h:ad):Ct 275 [.agg #[.int .i64 w.k,.int .i64 w.n,.string w.s]] h (fun v h'=>Le h h'/\∃z,v=.int .i64 z/\z=cQ w):=by
 obtain⟨A,hA⟩:=Ar.ex;obtain⟨k,n,s⟩:=w;generalize eb:jN ⟨k,n,s⟩=bv;obtain⟨k',n',s'⟩:=bv;generalize e1:A .aG .lss k 0=u1;generalize e2:A .aG .gtr k 3=u2;generalize e3:A .not (A .and (A .aG .eql k k') (A .and (A .aG .eql n n') (A .and (A .iY .eql s s') true)))=u3;generalize e4:A .aG .eql k 1=u4;generalize e5:A .aG .neq n 0=u5;generalize e6:A .aG .neq n 1=u6;generalize e7:A .aG .gtr (A .iq s) 60=u7;have f1:=e1;have f2:=e2;have f3:=e3;have f4:=e4;have f5:=e5;have f6:=e6;have f7:=e7;rw[bE A]at e1;rw[bJ A]at e2;rw[aw A]at e4;rw[aB A]at e5 e6;rw[bJ A,hA.iq]at e7;rw[hA.not,hA.and,aw A,aw A,bR A]at e3;have key:∀z,z=(if(u1||u2)=true then(3:Int)else if(u3||(u4&&u5&&u6))=true then 1 else if u7=true then 5 else 0)->z=cQ ⟨k,n,s⟩:=fun z hz=>by
  rw[hz,<-e1,<-e2,<-e3,<-e4,<-e5,<-e6,<-e7];simp only[cQ,eb,nE,Bool.and_true]
 refine ah A (ar T275.aA T275.bm) Tryz.func275 rfl (by kernel_rfl) ?_;cbv;rw[f1];cases u1 with
 |true=>cbv;exact⟨Le.refl _,3,rfl,key 3 rfl⟩
 |false=>
  cbv;rw[f2];cases u2 with
  |true=>cbv;exact⟨Le.refl _,3,rfl,key 3 rfl⟩
  |false=>
   cbv;refine(P8 ⟨k,n,s⟩ h).mono (fun v h1 hR=>?_);obtain⟨l1,x,rfl,ex⟩:=hR;rw[eb]at ex;subst ex;cbv;rw[f3];cases u3 with
   |true=>cbv;exact⟨l1,1,rfl,key 1 rfl⟩
   |false=>
    cbv;rw[f4];cases u4 with
    |false=>
     cbv;rw[f7];cases u7 with
     |true=>cbv;exact⟨l1,5,rfl,key 5 rfl⟩
     |false=>cbv;exact⟨l1,0,rfl,key 0 rfl⟩
    |true=>
     cbv;rw[f5];cases u5 with
     |false=>
      cbv;rw[f7];cases u7 with
      |true=>cbv;exact⟨l1,5,rfl,key 5 rfl⟩
      |false=>cbv;exact⟨l1,0,rfl,key 0 rfl⟩
     |true=>
      cbv;rw[f6];cases u6 with
      |true=>cbv;exact⟨l1,1,rfl,key 1 rfl⟩
      |false=>
       cbv;rw[f7];cases u7 with
       |true=>cbv;exact⟨l1,5,rfl,key 5 rfl⟩
       |false=>cbv;exact⟨l1,0,rfl,key 0 rfl⟩
theorem H5.at_{l:List Int}{z:Int}{t:Bool}(q:H5 l z t):aS z (dr l)/\t=lK l:=by obtain⟨i,h1,h2,h3⟩:=q.out;subst h2;exact⟨h1,h3⟩
def bP(c:bT)(v:dg):Int:=if decide (cQ v≠0)=true then cQ v else if(decide (v.k=0)&& !c.null)=true then 13 else if(decide (v.k≠0)&&decide (v.k≠c.kind))=true then 3 else 0
def bV(cols:List bT)(r:Row):Int:=if decide ((r.length:Int)≠(cols.length:Int))=true then 1 else dC (List.zipWith bP cols r)
def cM(t:cE)(k:dg):List Int:=t.rows.map fun r=>ch (keyOf t.S.key r) k
def uW(t:cE)(i:Nat)(r:Row):cE:=⟨t.S,t.rows.take i++[r]++t.rows.drop i⟩
def Db(t:cE)(i:Nat):cE:=⟨t.S,t.rows.take i++t.rows.drop (i+1)⟩
def bI(t:cE)(r:Row):cE×Int:=
 if decide (bV t.S.cols r≠0)=true then(t,bV t.S.cols r)
 else if lK (cM t (keyOf t.S.key r))=true then(t,7)
 else if decide ((t.rows.length:Int)>=200)=true then(t,4)
 else(uW t (dr (cM t (keyOf t.S.key r))) r,0)
def cK(t:cE)(k:dg):cE×Row×Int:=
 if lK (cM t k)=true then(Db t (dr (cM t k)),(t.rows[dr (cM t k)]?).getD [],0)else(t,[],2)
theorem PB{nm:ByteArray}{cols:List bT}{key:Int}{only:Bool}{r:Row}{h:ad}{sb b:Option Addr}{sn sc n c:Nat}(qs:Sl 165 bt h (.slice sb sn sc) cols)(q:Sl 61 bq h (.slice b n c) r):
 Ct 240 [.agg #[.string nm,.slice sb sn sc,.int .i64 key,.bool only],.slice b n c] h (fun v h'=>Le h h'/\∃z,v=.int .i64 z/\z=bV cols r):=by
 obtain⟨A,hA⟩:=Ar.ex;have hlen:=q.len;have hls:=qs.len;obtain⟨ll,jS⟩:=q.bound;generalize e1:A .aG .neq (A .nat n) (A .nat sn)=u1;have f1:=e1;rw[aB A,hA.nat]at e1;simp only[Int.ofNat_eq_natCast]at e1;rw[hlen,hls]at e1;have hsn0:u1=false->n=sn:=fun e=>by rw[e]at e1;have:=Decidable.not_not.1 (of_decide_eq_false e1);omega
 refine ah A (ar T240.aA T240.bm) Tryz.func240 rfl (by kernel_rfl) ?_;cbv;rw[f1];cases u1 with
 |true=>cbv;exact⟨Le.refl _,1,rfl,by simp only[bV,e1];rfl⟩
 |false=>
  have Ii:=hsn0 rfl;cbv;refine aX.go (G:=Int) (fun z=>[(17,.v (.int .i64 z))]) (fun _=>[(2,[.string nm,.slice sb sn sc,.int .i64 key,.bool only])])
   (fun k z h'=>∃i:Nat,aS z i/\k=n-i/\i<=n/\Le h h'/\∀j,j<i->∀y,(List.zipWith bP cols r)[j]? =some y->y=0) n 0 ⟨?_,?_,?_⟩ ⟨0,⟨rfl⟩,by omega,by omega,Le.refl _,fun j hj=>(by omega)⟩ ?_
  ·cbv
  ·cbv
  ·cbv
  ·intro k z h' hI;cbv;obtain⟨i,hz,hk,hi,hle,aO⟩:=hI;refine aQ (fun hc=>?_) (fun hc=>?_)
   ·have aK:=hz.lt hc;clear hc;cbv;obtain⟨x,hx⟩:=aI (xs:=r) (i:=i) (by omega);obtain⟨y,hy⟩:=aI (xs:=cols) (i:=i) (by omega);have Y3:(List.zipWith bP cols r)[i]? =some (bP y x):=by rw[List.getElem?_zipWith,hx,hy]
    have AP:(List.zipWith bP cols r).drop i=bP y x::(List.zipWith bP cols r).drop (i+1):=by have hl:=(List.getElem?_eq_some_iff.1 Y3);rw[List.drop_eq_getElem_cons hl.1,hl.2]
    have hf:bV cols r=dC ((List.zipWith bP cols r).drop i):=by rw[<-kA aO];simp only[bV,e1];rfl
    have bad:∀ {hh:ad} (w:Int),Le h hh->w=bP y x->w≠0->Le h hh/\∃z,Value.int .i64 w=.int .i64 z/\z=bV cols r:=fun w l ew hw=>by
     refine⟨l,w,rfl,?_⟩;rw[hf,AP,<-ew];simp only[dC];rw[if_pos (decide_eq_true hw)]
    have kX:∀(h2:ad),Le h h2->bP y x=0->∃j:Nat,aS (A .bA .add .i64 z 1) j/\n-(i+1)=n-j/\j<=n/\Le h h2/\∀j',j'<j->∀w,(List.zipWith bP cols r)[j']? =some w->w=0:=fun h2 l e0=>
     ⟨i+1,hz.succ (A:=A) (by omega),rfl,by omega,l,fun j hj w hw=>by
      rcases Nat.lt_or_ge j i with jQ|jQ
      ·exact aO j jQ w hw
      ·have:j=i:=by omega
       subst this;rw[Y3]at hw;cases hw;exact e0⟩
    refine⟨⟨q.bu (by omega),hz.ix aK⟩,?_⟩;cbv;refine(q.mono (hle.t _)).load hx hz.eq (fun cs aC=>?_);have aC:cs=[.int .i64 x.k,.int .i64 x.n,.string x.s]:=aC;subst aC;cbv;refine⟨⟨qs.bu (by omega),hz.ix (by omega)⟩,?_⟩;cbv;refine(qs.mono (hle.t _)).load hy hz.eq (fun cs aC=>?_);have aC:cs=[.string y.name,.int .i64 y.kind,.bool y.null]:=aC;subst aC;cbv;refine(Cs x h').mono (fun v h2 hR=>?_);obtain⟨l2,ev,rfl,hev⟩:=hR;have On:=hle.trans l2;obtain⟨nm2,kd,nl⟩:=y;generalize g1:A .aG .neq ev 0=w1;generalize g2:A .aG .eql x.k 0=w2;generalize g3:A .aG .neq x.k 0=w3;generalize g4:A .aG .neq x.k kd=w4;generalize g5:A .not nl=w5;have k1:=g1;have k2:=g2;have k3:=g3;have k4:=g4;have k5:=g5;rw[aB A]at g1 g3 g4;rw[aw A]at g2;rw[hA.not]at g5;have key:bP ⟨nm2,kd,nl⟩ x=if w1=true then ev else if(w2&&w5)=true then 13 else if(w3&&w4)=true then 3 else 0:=by rw[<-g1,<-g2,<-g3,<-g4,<-g5,hev];rfl
    have sV:w1=true->ev≠0:=fun e=>by rw[e]at g1;exact of_decide_eq_true g1
    cbv;rw[k1];cases w1 with
    |true=>cbv;exact bad ev On key.symm (sV rfl)
    |false=>
     cbv;rw[k2];cases w2 with
     |true=>
      have UA:w3=false:=by rw[<-g3];have:=of_decide_eq_true g2;exact decide_eq_false (by omega)
      subst UA;cbv;rw[k5];cases w5 with
      |true=>cbv;exact bad 13 On key.symm (by omega)
      |false=>
       have g:=kX h2 On key;cbv;rw[k3];cbv;refine⟨n-(i+1),_,by omega,⟨?_,?_,?_⟩,g⟩
       ·cbv
       ·cbv
       ·cbv
     |false=>
      cbv;rw[k3];cases w3 with
      |true=>
       cbv;rw[k4];cases w4 with
       |true=>cbv;exact bad 3 On key.symm (by omega)
       |false=>
        have g:=kX h2 On key;cbv;refine⟨n-(i+1),_,by omega,⟨?_,?_,?_⟩,g⟩
        ·cbv
        ·cbv
        ·cbv
      |false=>
       have g:=kX h2 On key;cbv;refine⟨n-(i+1),_,by omega,⟨?_,?_,?_⟩,g⟩
       ·cbv
       ·cbv
       ·cbv
   ·have iR:=hz.ge hc;have hf:=kA aO;rw[List.drop_eq_nil_of_le (by rw[List.length_zipWith];omega)]at hf;cbv;refine⟨hle,0,rfl,?_⟩;simp only[bV,e1,hf];rfl
theorem SK{r:Row}{h:ad}{b:Option Addr}{n c:Nat}(q:Sl 61 bq h (.slice b n c) r):aL.R h [.slice b n c] r:=⟨_,rfl,q⟩
theorem kj{L:List Row}{h:ad}{b:Option Addr}{n c:Nat}(q:Sl 59 aL h (.slice b n c) L):(jU 59 aL).R h [.slice b n c] L:=⟨_,rfl,q⟩
theorem QI{nm:ByteArray}{cols:List bT}{key:Int}{only:Bool}{rows:List Row}{r:Row}{h:ad}{sb b4 b:Option Addr}{sn sc n4 c4 n c:Nat}(qs:Sl 165 bt h (.slice sb sn sc) cols)(q4:Sl 59 aL h (.slice b4 n4 c4) rows)(q:Sl 61 bq h (.slice b n c) r)(hn:n4<=2^37):
 Ct 157 [.agg #[.string nm,.slice sb sn sc,.int .i64 key,.bool only,.slice b4 n4 c4],.slice b n c] h (fun v h'=>Le h h'/\∃b1 n1 k1 b2 n2 k2 e T,v=.tuple #[.agg #[.string nm,.slice b1 n1 k1,.int .i64 key,.bool only,.slice b2 n2 k2],.int .i64 e]/\
  Sl 165 bt h' (.slice b1 n1 k1) cols/\Sl 59 aL h' (.slice b2 n2 k2) T/\(⟨⟨⟨nm,cols,key,only⟩,T⟩,e⟩:cE×Int)=bI ⟨⟨nm,cols,key,only⟩,rows⟩ r):=by
 obtain⟨A,hA⟩:=Ar.ex;have h4:=q4.len;refine ah A (ar T157.aA T157.bm) Tryz.func157 rfl (by kernel_rfl) ?_;cbv;refine(PB (nm:=nm) (key:=key) (only:=only) qs q).mono (fun v h1 hR=>?_);obtain⟨l1,z,rfl,ez⟩:=hR;have sR:bI ⟨⟨nm,cols,key,only⟩,rows⟩ r=if decide (z≠0)=true then(⟨⟨nm,cols,key,only⟩,rows⟩,z)else if lK (cM ⟨⟨nm,cols,key,only⟩,rows⟩ (keyOf key r))=true then(⟨⟨nm,cols,key,only⟩,rows⟩,7)
  else if decide ((rows.length:Int)>=200)=true then(⟨⟨nm,cols,key,only⟩,rows⟩,4)else(uW ⟨⟨nm,cols,key,only⟩,rows⟩ (dr (cM ⟨⟨nm,cols,key,only⟩,rows⟩ (keyOf key r))) r,0):=by rw[ez];rfl
 generalize g1:A .aG .neq z 0=w1;have k1:=g1;rw[aB A]at g1;rw[g1]at sR;have all:([rows]:List (List Row)).flatten=rows:=by simp
 cbv;rw[k1];cases w1 with
 |true=>
  cbv;intro nb h2 fk e2;have l2:Le h1 h2:=by rw[e2];exact Le.set fk
  have g2:=(congrFun e2 nb).trans af;have gh:=l1.trans l2;cbv;refine(oZ (qs.mono (gh.t _)) (bU (s:=jU 59 aL) g2 (kj (q4.mono (gh.t _)))) (by rw[all];omega)).mono (fun v h3 hR=>?_);obtain⟨l3,b1,n1,k1,b2,n2,k2,rfl,r1,r2⟩:=hR;rw[all]at r2;cbv;exact⟨gh.trans l3,_,_,_,_,_,_,z,rows,rfl,r1,r2,sR.symm⟩
 |false=>
  cbv;refine(Kj (q.mono (l1.t _))).mono (fun v h2 hR=>?_);obtain⟨l2,kr,rfl,ekr⟩:=hR;have gh:=l1.trans l2;cbv;refine(FA (q4.mono (gh.t _)) kr).mono (fun v h3 hR=>?_);obtain⟨l3,zi,t,rfl,hb⟩:=hR;have YQ:=gh.trans l3;obtain⟨oK,ht⟩:=hb.at_;rw[<-ekr]at sR;have ht:t=lK (cM ⟨⟨nm,cols,key,only⟩,rows⟩ kr):=ht;have oK:aS zi (dr (cM ⟨⟨nm,cols,key,only⟩,rows⟩ kr)):=oK;have ZM:dr (cM ⟨⟨nm,cols,key,only⟩,rows⟩ kr)<=n4:=by have:=WD (cM ⟨⟨nm,cols,key,only⟩,rows⟩ kr);rw[h4];simpa[cM]using this
  rw[<-ht]at sR;generalize dr (cM ⟨⟨nm,cols,key,only⟩,rows⟩ kr)=i at *;generalize g2:A .aG .geq (A .nat n4) 200=w2;have k2:=g2;rw[bS A,hA.nat]at g2;simp only[Int.ofNat_eq_natCast]at g2;rw[h4]at g2;rw[g2]at sR;cases t with
  |true=>
   cbv;intro nb h4 fk e4;have l4:Le h3 h4:=by rw[e4];exact Le.set fk
   have g4:=(congrFun e4 nb).trans af;have oF:=YQ.trans l4;cbv;refine(oZ (qs.mono (oF.t _)) (bU (s:=jU 59 aL) g4 (kj (q4.mono (oF.t _)))) (by rw[all];omega)).mono (fun v h5 hR=>?_);obtain⟨l5,b1,n1,k1,b2,n2,k2,rfl,r1,r2⟩:=hR;rw[all]at r2;cbv;exact⟨oF.trans l5,_,_,_,_,_,_,7,rows,rfl,r1,r2,sR.symm⟩
  |false=>
   cbv;rw[k2];cases w2 with
   |true=>
    cbv;intro nb h4 fk e4;have l4:Le h3 h4:=by rw[e4];exact Le.set fk
    have g4:=(congrFun e4 nb).trans af;have oF:=YQ.trans l4;cbv;refine(oZ (qs.mono (oF.t _)) (bU (s:=jU 59 aL) g4 (kj (q4.mono (oF.t _)))) (by rw[all];omega)).mono (fun v h5 hR=>?_);obtain⟨l5,b1,n1,k1,b2,n2,k2,rfl,r1,r2⟩:=hR;rw[all]at r2;cbv;exact⟨oF.trans l5,_,_,_,_,_,_,4,rows,rfl,r1,r2,sR.symm⟩
   |false=>
    have vZ:=q4.bound;have cU:0<=zi/\zi<=(c4:Int)/\0<=zi/\zi<=zi:=by have:=oK.eq;omega
    have kW:0<=zi/\zi<=(n4:Int):=by have:=oK.eq;omega
    have Mr:([rows.take i,[r],rows.drop i]:List (List Row)).flatten=rows.take i++[r]++rows.drop i:=by simp
    have xD:(rows.take i++[r]++rows.drop i).length<=2^38:=by simp;omega
    cbv;refine⟨cU,?_⟩;cbv;refine⟨kW,?_⟩;cbv;intro nb h4 fk e4;have l4:Le h3 h4:=by rw[e4];exact Le.set fk
    have g4:=(congrFun e4 nb).trans af;have oF:=YQ.trans l4;cbv;intro tG h5 oL e5;have l5:Le h4 h5:=by rw[e5];exact Le.set oL
    have g5:=(congrFun e5 tG).trans af;have Ka:=oF.trans l5;have Ym:=q4.mono (Ka.t _);have p1:=kj (Ym.tA (A:=A) (s:=aL) (z:=zi) ZM (dM (A:=A) oK) (dM (A:=A) oK));have p2:=kj (bU (s:=aL) (l5 _ _ g4) (SK (q.mono (Ka.t _))));have p3:=kj (Ym.tW (A:=A) (s:=aL) oK ZM (eO (A:=A) oK) (eO (A:=A) oK));cbv;refine(oZ (qs.mono (Ka.t _)) (uT (s:=jU 59 aL) rfl g5 p1 p2 p3) (by rw[Mr];exact xD)).mono (fun v h6 hR=>?_);obtain⟨l6,b1,n1,k1,b2,n2,k2,rfl,r1,r2⟩:=hR;rw[Mr]at r2;cbv;exact⟨Ka.trans l6,_,_,_,_,_,_,0,_,rfl,r1,r2,sR.symm⟩
theorem Sm{nm:ByteArray}{cols:List bT}{key:Int}{only:Bool}{rows:List Row}{h:ad}{sb b4:Option Addr}{sn sc n4 c4:Nat}(qs:Sl 165 bt h (.slice sb sn sc) cols)(q4:Sl 59 aL h (.slice b4 n4 c4) rows)(hn:n4<=2^37)(kv:dg):
 Ct 158 [.agg #[.string nm,.slice sb sn sc,.int .i64 key,.bool only,.slice b4 n4 c4],.agg #[.int .i64 kv.k,.int .i64 kv.n,.string kv.s]] h (fun v h'=>Le h h'/\∃b1 n1 k1 b2 n2 k2 b3 n3 k3 e T R,v=.tuple #[.agg #[.string nm,.slice b1 n1 k1,.int .i64 key,.bool only,.slice b2 n2 k2],.slice b3 n3 k3,.int .i64 e]/\
  Sl 165 bt h' (.slice b1 n1 k1) cols/\Sl 59 aL h' (.slice b2 n2 k2) T/\Sl 61 bq h' (.slice b3 n3 k3) R/\(⟨⟨⟨nm,cols,key,only⟩,T⟩,R,e⟩:cE×Row×Int)=cK ⟨⟨nm,cols,key,only⟩,rows⟩ kv):=by
 obtain⟨A,hA⟩:=Ar.ex;have h4:=q4.len;have all:([rows]:List (List Row)).flatten=rows:=by simp
 refine ah A (ar T158.aA T158.bm) Tryz.func158 rfl (by kernel_rfl) ?_;cbv;refine(FA q4 kv).mono (fun v h1 hR=>?_);obtain⟨l1,zi,t,rfl,hb⟩:=hR;obtain⟨oK,ht⟩:=hb.at_;have sR:cK ⟨⟨nm,cols,key,only⟩,rows⟩ kv=if lK (cM ⟨⟨nm,cols,key,only⟩,rows⟩ kv)=true then(Db ⟨⟨nm,cols,key,only⟩,rows⟩ (dr (cM ⟨⟨nm,cols,key,only⟩,rows⟩ kv)),(rows[dr (cM ⟨⟨nm,cols,key,only⟩,rows⟩ kv)]?).getD [],0)else(⟨⟨nm,cols,key,only⟩,rows⟩,[],2):=rfl
 have ht:t=lK (cM ⟨⟨nm,cols,key,only⟩,rows⟩ kv):=ht;have oK:aS zi (dr (cM ⟨⟨nm,cols,key,only⟩,rows⟩ kv)):=oK;have aK:t=true->dr (cM ⟨⟨nm,cols,key,only⟩,rows⟩ kv)<n4:=fun e=>by
  have:=nz (ht.symm.trans e);rw[h4];simpa[cM]using this
 rw[<-ht]at sR;generalize dr (cM ⟨⟨nm,cols,key,only⟩,rows⟩ kv)=i at *;cases t with
 |false=>
  have xC:A .not false=true:=by rw[hA.not];rfl
  cbv;rw[xC];cbv;intro nb h4 fk e4;have l4:Le h1 h4:=by rw[e4];exact Le.set fk
  have g4:=(congrFun e4 nb).trans af;have oF:=l1.trans l4;cbv;refine(oZ (qs.mono (oF.t _)) (bU (s:=jU 59 aL) g4 (kj (q4.mono (oF.t _)))) (by rw[all];omega)).mono (fun v h5 hR=>?_);obtain⟨l5,b1,n1,k1,b2,n2,k2,rfl,r1,r2⟩:=hR;rw[all]at r2;cbv;exact⟨oF.trans l5,_,_,_,_,_,_,_,_,_,2,rows,[],rfl,r1,r2,Sl.nil,sR.symm⟩
 |true=>
  have aK:=aK rfl;have xC:A .not true=false:=by rw[hA.not];rfl
  have vZ:=q4.bound;have mJ:=oK.succ (A:=A) (by omega);have cU:0<=zi/\zi<=(c4:Int)/\0<=zi/\zi<=zi:=by have:=oK.eq;omega
  have kW:0<=A .bA .add .i64 zi 1/\A .bA .add .i64 zi 1<=(n4:Int):=by have:=mJ.eq;omega
  have Mr:([rows.take i,rows.drop (i+1)]:List (List Row)).flatten=rows.take i++rows.drop (i+1):=by simp
  have xD:(rows.take i++rows.drop (i+1)).length<=2^38:=by simp;omega
  obtain⟨x,hx⟩:=aI (xs:=rows) (i:=i) (by omega);have Ea:b4.isSome=true/\0<=zi/\zi<(n4:Int):=⟨q4.bu (by omega),oK.ix aK⟩;cbv;rw[xC];cbv;refine⟨cU,?_⟩;cbv;refine⟨kW,?_⟩;cbv;refine⟨Ea,?_⟩;cbv;refine(q4.mono (l1.t _)).YL hx oK.eq (fun cs aC again=>?_);obtain⟨vx,rfl,hvx⟩:=aC;obtain⟨bx,lx,cx,rfl⟩:=hvx.form;cbv;intro tG h5 oL e5;have l5:Le h1 h5:=by rw[e5];exact Le.set oL
  have g5:=(congrFun e5 tG).trans af;have Ka:=l1.trans l5;have Ym:=q4.mono (Ka.t _);have p1:=kj (Ym.tA (A:=A) (s:=aL) (z:=zi) (Nat.le_of_lt aK) (dM (A:=A) oK) (dM (A:=A) oK));have p3:=kj (Ym.tW (A:=A) (s:=aL) mJ aK (eO (A:=A) mJ) (eO (A:=A) mJ));cbv;refine again _ _ l5 ?_;cbv;refine⟨⟨_,rfl,rfl⟩,?_⟩;cbv;refine(oZ (qs.mono (Ka.t _)) (zh (s:=jU 59 aL) rfl g5 p1 p3) (by rw[Mr];exact xD)).mono (fun v h6 hR=>?_);obtain⟨l6,b1,n1,k1,b2,n2,k2,rfl,r1,r2⟩:=hR;rw[Mr]at r2;cbv;refine again _ _ (l5.trans l6) ?_;cbv;refine⟨⟨_,rfl,rfl⟩,?_⟩;cbv;refine(wJ (hvx.mono ((l5.trans l6).t _))).mono (fun v h7 hR=>?_);obtain⟨l7,b3,k3,rfl,r3,-⟩:=hR;cbv;rw[hx]at sR;exact⟨(Ka.trans l6).trans l7,_,_,_,_,_,_,_,_,_,0,_,_,rfl,r1.mono (l7.t _),r2.mono (l7.t _),r3,sR.symm⟩
theorem OL{α:Type}{xs:List α}{p:α->Bool}{z:Int}(q:pG xs p z):(z=-1/\xs.findIdx? p=none)\/∃i x,aS z i/\xs.findIdx? p=some i/\xs[i]? =some x/\p x=true:=by
 rcases q.out with ⟨h1,h2⟩ | ⟨i,x,h1,h2,h3,h4⟩
 ·exact .inl ⟨h1,List.findIdx?_eq_none_iff.2 h2⟩
 ·refine .inr ⟨i,x,h1,?_,h2,h3⟩;obtain⟨AO,tO⟩:=List.getElem?_eq_some_iff.1 h2;rw[List.findIdx?_eq_some_iff_getElem];refine⟨AO,by rw[tO];exact h3,fun j hj=>?_⟩;have sw:j<xs.length:=by omega
  have:=h4 j hj xs[j] (by simp[sw]);simp[this]
def ES(a b:bZ):Bool:=decide (a.s=b.s)&&(decide (a.table=b.table)&&decide (a.x=b.x))
def mA(H:List bZ)(hd:bZ):Option Nat:=H.findIdx? (kP hd)
def j7(H:List bZ)(hd:bZ):Bool:=match mA H hd with
 |some i=>(H[i]?).any fun o=>o.x||ES o hd
 |none=>false
def bF(H:List bZ)(hd:bZ):Bool:=j7 H hd|| !(H.any (fY hd))
def cd(H:List bZ)(hd:bZ):List bZ:=
 if bF H hd=true then if j7 H hd=true then H else match mA H hd with
  |some i=>H.set i hd
  |none=>H++[hd]
 else H
def cV(H W:List bZ)(hd:bZ):List bZ:=if bF H hd=true then bQ W hd.s else bQ W hd.s++[hd]
theorem sX{L:List bZ}{h:ad}{b:Option Addr}{n c:Nat}(q:Sl 205 bL h (.slice b n c) L):(jU 205 bL).R h [.slice b n c] L:=⟨_,rfl,q⟩
theorem PA{H W:List bZ}{h:ad}{b1 b2:Option Addr}{n1 c1 n2 c2:Nat}(q1:Sl 205 bL h (.slice b1 n1 c1) H)(q2:Sl 205 bL h (.slice b2 n2 c2) W)(ma:n1<=2^38)(nN:n2<=2^38)(s:Int):
 Ct 130 [.agg #[.slice b1 n1 c1,.slice b2 n2 c2],.int .i64 s] h (fun v h'=>Le h h'/\∃b1 n1 c1 b2 n2 c2,v=.agg #[.slice b1 n1 c1,.slice b2 n2 c2]/\Sl 205 bL h' (.slice b1 n1 c1) (bQ H s)/\Sl 205 bL h' (.slice b2 n2 c2) (bQ W s)):=by
 obtain⟨A,hA⟩:=Ar.ex;refine ah A (ar T130.aA T130.bm) Tryz.func130 rfl (by kernel_rfl) ?_;cbv;refine(fQ q1 ma s).mono (fun v h1 hR=>?_);obtain⟨l1,b1',n1',RZ,rfl,r1⟩:=hR;cbv;refine(fQ (q2.mono (l1.t _)) nN s).mono (fun v h2 hR=>?_);obtain⟨l2,b2',n2',c2',rfl,r2⟩:=hR;cbv;exact⟨l1.trans l2,_,_,_,_,_,_,rfl,r1.sl.mono (l2.t _),r2.sl⟩
theorem WR{H W:List bZ}{h:ad}{b1 b2:Option Addr}{n1 c1 n2 c2:Nat}(q1:Sl 205 bL h (.slice b1 n1 c1) H)(q2:Sl 205 bL h (.slice b2 n2 c2) W)(ma:n1<=2^37)(nN:n2<=2^37)(hd:bZ):
 Ct 281 [.agg #[.slice b1 n1 c1,.slice b2 n2 c2],.agg #[.int .i64 hd.s,.string hd.table,.bool hd.x]] h (fun v h'=>Le h h'/\∃b1 n1 c1 b2 n2 c2 t,v=.tuple #[.agg #[.slice b1 n1 c1,.slice b2 n2 c2],.bool t]/\Sl 205 bL h' (.slice b1 n1 c1) (cd H hd)/\Sl 205 bL h' (.slice b2 n2 c2) (cV H W hd)/\t=bF H hd):=by
 obtain⟨A,hA⟩:=Ar.ex;obtain⟨hs,ht,hx⟩:=hd;refine ah A (ar T281.aA T281.bm) Tryz.func281 rfl (by kernel_rfl) ?_;cbv;refine(Oj q1 ⟨hs,ht,hx⟩).mono (fun v h1 hR=>?_);obtain⟨l1,z,rfl,hz⟩:=hR;have xC:A .not true=false:=by rw[hA.not];rfl
 have Fo:A .not false=true:=by rw[hA.not];rfl
 rcases(OL hz)with ⟨rfl,hf⟩ | ⟨i,o,mJ,hf,ho,hp⟩
 ·have iR:A .aG .geq (-1) 0=false:=by rw[bS A];rfl
  have kH:j7 H ⟨hs,ht,hx⟩=false:=by unfold j7 mA;rw[hf]
  cbv;rw[iR];cbv;refine(tX (q1.mono (l1.t _)) ⟨hs,ht,hx⟩).mono (fun v h2 hR=>?_);obtain⟨l2,tc,rfl,etc⟩:=hR;have gh:=l1.trans l2;have kF:bF H ⟨hs,ht,hx⟩= !tc:=by unfold bF;rw[kH,etc];rfl
  cases tc with
  |true=>
   have kQ:bF H ⟨hs,ht,hx⟩=false:=kF;have vJ:cd H ⟨hs,ht,hx⟩=H:=by unfold cd;rw[kQ];rfl
   have vI:cV H W ⟨hs,ht,hx⟩=bQ W hs++[⟨hs,ht,hx⟩]:=by unfold cV;rw[kQ];rfl
   cbv;rw[xC];cbv;refine(jx (q1.mono (gh.t _))).mono (fun v h3 hR=>?_);obtain⟨l3,bc,cc,rfl,pj⟩:=hR;cbv;refine(fQ (q2.mono ((gh.trans l3).t _)) (by omega) hs).mono (fun v h4 hR=>?_);obtain⟨l4,bw,nw,cw,rfl,Hr⟩:=hR;have oF:=(gh.trans l3).trans l4;have wa:=pj.mono (l4.t _);cbv;rw[Fo];cbv;intro tG h5 oL e5;have l5:Le h4 h5:=by rw[e5];exact Le.set oL
   have g5:=(congrFun e5 tG).trans af;cbv;intro MF h6 D3 e6;have l6:Le h5 h6:=by rw[e6];exact Le.set D3
   have g6:=(congrFun e6 MF).trans af;have CF:([bQ W hs,[⟨hs,ht,hx⟩]]:List (List bZ)).flatten=bQ W hs++[⟨hs,ht,hx⟩]:=by simp
   have qJ:(bQ W hs++[(⟨hs,ht,hx⟩:bZ)]).length<=2^38:=by have h1:(bQ W hs).length<=W.length:=List.length_filter_le _ _;have h2:=q2.len;simp only[List.length_append,List.length_singleton];omega
   cbv;refine(te (zh (s:=jU 205 bL) rfl g6 (sX (Hr.sl.mono ((l5.trans l6).t _))) (sX (bU (s:=bL) (l6 _ _ g5) (x:=⟨hs,ht,hx⟩) rfl))) (by rw[CF];exact qJ)).mono (fun v h7 hR=>?_);obtain⟨l7,b7,n7,c7,rfl,CR⟩:=hR;rw[CF]at CR;have Fa:=(l5.trans l6).trans l7;cbv;exact⟨oF.trans Fa,_,_,_,_,_,_,false,rfl,by rw[vJ];exact wa.sl.mono (Fa.t _),by rw[vI];exact CR.sl,kQ.symm⟩
  |false=>
   have kQ:bF H ⟨hs,ht,hx⟩=true:=kF;have vJ:cd H ⟨hs,ht,hx⟩=H++[⟨hs,ht,hx⟩]:=by unfold cd;rw[kQ,kH];unfold mA;rw[hf];rfl
   have vI:cV H W ⟨hs,ht,hx⟩=bQ W hs:=by unfold cV;rw[kQ];rfl
   cbv;rw[Fo];cbv;refine(jx (q1.mono (gh.t _))).mono (fun v h3 hR=>?_);obtain⟨l3,bc,cc,rfl,pj⟩:=hR;cbv;refine(fQ (q2.mono ((gh.trans l3).t _)) (by omega) hs).mono (fun v h4 hR=>?_);obtain⟨l4,bw,nw,cw,rfl,Hr⟩:=hR;have oF:=(gh.trans l3).trans l4;have wa:=pj.mono (l4.t _);cbv;rw[xC];cbv;rw[iR];cbv;intro tG h5 oL e5;have l5:Le h4 h5:=by rw[e5];exact Le.set oL
   have g5:=(congrFun e5 tG).trans af;cbv;intro MF h6 D3 e6;have l6:Le h5 h6:=by rw[e6];exact Le.set D3
   have g6:=(congrFun e6 MF).trans af;have CF:([H,[⟨hs,ht,hx⟩]]:List (List bZ)).flatten=H++[⟨hs,ht,hx⟩]:=by simp
   have qJ:(H++[(⟨hs,ht,hx⟩:bZ)]).length<=2^38:=by have h2:=q1.len;simp only[List.length_append,List.length_singleton];omega
   cbv;refine(te (zh (s:=jU 205 bL) rfl g6 (sX (wa.sl.mono ((l5.trans l6).t _))) (sX (bU (s:=bL) (l6 _ _ g5) (x:=⟨hs,ht,hx⟩) rfl))) (by rw[CF];exact qJ)).mono (fun v h7 hR=>?_);obtain⟨l7,b7,n7,c7,rfl,CR⟩:=hR;rw[CF]at CR;have Fa:=(l5.trans l6).trans l7;cbv;exact⟨oF.trans Fa,_,_,_,_,_,_,true,rfl,by rw[vJ];exact CR.sl,by rw[vI];exact Hr.sl.mono (Fa.t _),kQ.symm⟩
 ·have iR:A .aG .geq z 0=true:=by rw[bS A];have:=mJ.eq;exact decide_eq_true (by omega)
  have hi1:i<n1:=by have:=(List.getElem?_eq_some_iff.1 ho).1;rw[q1.len];exact this
  have cU:b1.isSome=true/\0<=z/\z<(n1:Int):=⟨q1.bu (by omega),mJ.ix hi1⟩;have kH:j7 H ⟨hs,ht,hx⟩=(o.x||ES o ⟨hs,ht,hx⟩):=by unfold j7 mA;rw[hf];simp only[ho];rfl
  obtain⟨os,ot,ox⟩:=o;cbv;rw[iR];cbv;refine⟨cU,?_⟩;cbv;refine(q1.mono (l1.t _)).eE ho mJ.eq (o:=2) (m:=1) (by decide) (fun cs aC=>?_);have aC:cs=[.int .i64 os,.string ot,.bool ox]:=aC;subst aC;cases ox with
  |true=>
   have YU:j7 H ⟨hs,ht,hx⟩=true:=kH;have kQ:bF H ⟨hs,ht,hx⟩=true:=by unfold bF;rw[YU];rfl
   have vJ:cd H ⟨hs,ht,hx⟩=H:=by unfold cd;rw[kQ,YU];rfl
   have vI:cV H W ⟨hs,ht,hx⟩=bQ W hs:=by unfold cV;rw[kQ];rfl
   cbv;refine(jx (q1.mono (l1.t _))).mono (fun v h3 hR=>?_);obtain⟨l3,bc,cc,rfl,pj⟩:=hR;cbv;refine(fQ (q2.mono ((l1.trans l3).t _)) (by omega) hs).mono (fun v h4 hR=>?_);obtain⟨l4,bw,nw,cw,rfl,Hr⟩:=hR;have oF:=(l1.trans l3).trans l4;have wa:=pj.mono (l4.t _);cbv;rw[xC];cbv;exact⟨oF,_,_,_,_,_,_,true,rfl,by rw[vJ];exact wa.sl,by rw[vI];exact Hr.sl,kQ.symm⟩
  |false=>
   cbv;refine⟨cU,?_⟩;cbv;refine(q1.mono (l1.t _)).load ho mJ.eq (fun cs aC=>?_);have aC:cs=[.int .i64 os,.string ot,.bool false]:=aC;subst aC;generalize es:A .and (A .aG .eql os hs) (A .and (A .iY .eql ot ht) (A .and (A .AA .eql false hx) true))=us;have fs:=es;rw[hA.and,aw A,bR A,hA.AA]at es;have kH2:j7 H ⟨hs,ht,hx⟩=us:=by rw[kH,<-es];simp only[ES,Bool.false_or,Bool.and_true,AA];cases hx<;>rfl
   cbv;rw[fs];cases us with
   |true=>
    have YU:=kH2;have kQ:bF H ⟨hs,ht,hx⟩=true:=by unfold bF;rw[YU];rfl
    have vJ:cd H ⟨hs,ht,hx⟩=H:=by unfold cd;rw[kQ,YU];rfl
    have vI:cV H W ⟨hs,ht,hx⟩=bQ W hs:=by unfold cV;rw[kQ];rfl
    cbv;refine(jx (q1.mono (l1.t _))).mono (fun v h3 hR=>?_);obtain⟨l3,bc,cc,rfl,pj⟩:=hR;cbv;refine(fQ (q2.mono ((l1.trans l3).t _)) (by omega) hs).mono (fun v h4 hR=>?_);obtain⟨l4,bw,nw,cw,rfl,Hr⟩:=hR;have oF:=(l1.trans l3).trans l4;have wa:=pj.mono (l4.t _);cbv;rw[xC];cbv;exact⟨oF,_,_,_,_,_,_,true,rfl,by rw[vJ];exact wa.sl,by rw[vI];exact Hr.sl,kQ.symm⟩
   |false=>
    cbv;refine(tX (q1.mono (l1.t _)) ⟨hs,ht,hx⟩).mono (fun v h2 hR=>?_);obtain⟨l2,tc,rfl,etc⟩:=hR;have gh:=l1.trans l2;have kF:bF H ⟨hs,ht,hx⟩= !tc:=by unfold bF;rw[kH2,etc];rfl
    cases tc with
    |true=>
     have kQ:bF H ⟨hs,ht,hx⟩=false:=kF;have vJ:cd H ⟨hs,ht,hx⟩=H:=by unfold cd;rw[kQ];rfl
     have vI:cV H W ⟨hs,ht,hx⟩=bQ W hs++[⟨hs,ht,hx⟩]:=by unfold cV;rw[kQ];rfl
     cbv;rw[xC];cbv;refine(jx (q1.mono (gh.t _))).mono (fun v h3 hR=>?_);obtain⟨l3,bc,cc,rfl,pj⟩:=hR;cbv;refine(fQ (q2.mono ((gh.trans l3).t _)) (by omega) hs).mono (fun v h4 hR=>?_);obtain⟨l4,bw,nw,cw,rfl,Hr⟩:=hR;have oF:=(gh.trans l3).trans l4;have wa:=pj.mono (l4.t _);cbv;rw[Fo];cbv;intro tG h5 oL e5;have l5:Le h4 h5:=by rw[e5];exact Le.set oL
     have g5:=(congrFun e5 tG).trans af;cbv;intro MF h6 D3 e6;have l6:Le h5 h6:=by rw[e6];exact Le.set D3
     have g6:=(congrFun e6 MF).trans af;have CF:([bQ W hs,[⟨hs,ht,hx⟩]]:List (List bZ)).flatten=bQ W hs++[⟨hs,ht,hx⟩]:=by simp
     have qJ:(bQ W hs++[(⟨hs,ht,hx⟩:bZ)]).length<=2^38:=by have h1:(bQ W hs).length<=W.length:=List.length_filter_le _ _;have h2:=q2.len;simp only[List.length_append,List.length_singleton];omega
     cbv;refine(te (zh (s:=jU 205 bL) rfl g6 (sX (Hr.sl.mono ((l5.trans l6).t _))) (sX (bU (s:=bL) (l6 _ _ g5) (x:=⟨hs,ht,hx⟩) rfl))) (by rw[CF];exact qJ)).mono (fun v h7 hR=>?_);obtain⟨l7,b7,n7,c7,rfl,CR⟩:=hR;rw[CF]at CR;have Fa:=(l5.trans l6).trans l7;cbv;exact⟨oF.trans Fa,_,_,_,_,_,_,false,rfl,by rw[vJ];exact wa.sl.mono (Fa.t _),by rw[vI];exact CR.sl,kQ.symm⟩
    |false=>
     have kQ:bF H ⟨hs,ht,hx⟩=true:=kF;have vJ:cd H ⟨hs,ht,hx⟩=H.set i ⟨hs,ht,hx⟩:=by unfold cd;rw[kQ,kH2];unfold mA;rw[hf];rfl
     have vI:cV H W ⟨hs,ht,hx⟩=bQ W hs:=by unfold cV;rw[kQ];rfl
     cbv;rw[Fo];cbv;refine(jx (q1.mono (gh.t _))).mono (fun v h3 hR=>?_);obtain⟨l3,bc,cc,rfl,pj⟩:=hR;cbv;refine(fQ (q2.mono ((gh.trans l3).t _)) (by omega) hs).mono (fun v h4 hR=>?_);obtain⟨l4,bw,nw,cw,rfl,Hr⟩:=hR;have oF:=(gh.trans l3).trans l4;have wa:=pj.mono (l4.t _);obtain⟨tG,rfl,oL,hlc,oc⟩:=wa.own (by omega);have aK:i<H.length:=(List.getElem?_eq_some_iff.1 ho).1;have vX:n1<=cc:=(pj.sl).bound.2;have Lf:(some (⟨tG,0,none⟩:Addr)).isSome=true/\0<=z/\z<(n1:Int):=⟨rfl,mJ.ix hi1⟩;cbv;rw[xC];cbv;rw[iR];cbv;refine⟨Lf,?_⟩;cbv;refine oc.setAt (by decide) (i:=i) (by omega) mJ.eq rfl (x:=⟨hs,ht,hx⟩) rfl (fun h5 k5 t5 o5=>?_);have l5:Le h h5:=oF.df (by simpa using gh.none oL) k5;have eW:h3 tG≠none:=by obtain⟨mV,e1,-,-,o3⟩:=pj.own (by omega);cases e1;exact o3.has
     have lw:=(Hr.kp k5 (by simpa using eW) (t5 _ (by decide))).sl;cbv;exact⟨l5,_,_,_,_,_,_,true,rfl,by rw[vJ];exact o5.sl (by rw[List.length_set];exact hlc),by rw[vI];exact lw,kQ.symm⟩
end Go.S
