import Derived.Test.YtekoaiendgjkdaaGreatDB
import Derived.Test.YtekoaiendgjkdaaGreatRd
set_option linter.unusedVariables false
set_option linter.unusedSimpArgs false
set_option linter.unusedSectionVars false
set_option maxRecDepth 100000
namespace Go.S
open Go.Sx Go.Proofs
theorem jb{xs:List bP}{h:ad}{b:Option Addr}{len cap:Nat}(q:Sl 205 bD h (.slice b len cap) xs):
 Ct 116 [.slice b len cap] h (fun v h'=>Le h h'/\∃b' eU,v=.slice b' len eU/\cK 205 bD h h' (.slice b' len eU) xs):=by
 obtain⟨A,hA⟩:=Ar.ex;refine ah A (aq On.ax On.bm) Tryz.func116 rfl (by kernel_rfl) ?_;cbv;refine aN (fun hc=>?_) (fun hc=>?_)
 ·rw[hA.wF]at hc;cbv;have hb:b=none:=by cases b<;>simp at hc |-
  subst hb;have hl:len=0:=by
   rcases Nat.eq_zero_or_pos len with e|e
   ·exact e
   ·have:=q.bF e;cases this
  have:=q.len;have hx:xs=[]:=List.eq_nil_of_length_eq_zero (by omega);subst hx hl;exact⟨Le.refl _,none,0,rfl,cK.nil⟩
 ·cbv;intro n0 h1 jU dU;have hle:Le h h1:=by rw[dU];exact Le.set jU
  cbv;refine eJ (q.mono (hle.t _)) (by simp[bD]) rfl (by decide) (fun hn=>?_) (fun nb c h2 e1 e2 e3 e4=>?_)
  ·cbv;have:=q.len;have hx:xs=[]:=List.eq_nil_of_length_eq_zero (by omega);subst hx hn;exact⟨hle,_,_,rfl,cK.nil⟩
  ·cbv;exact⟨hle.trans e3,_,_,rfl,e4.buf (hle.none e1) q.len⟩
theorem sG{xs:List bM}{h:ad}{b:Option Addr}{len cap:Nat}(q:Sl 165 aT h (.slice b len cap) xs):
 Ct 169 [.slice b len cap] h (fun v h'=>Le h h'/\∃b' eU,v=.slice b' len eU/\cK 165 aT h h' (.slice b' len eU) xs):=by
 obtain⟨A,hA⟩:=Ar.ex;refine ah A (aq Ol.ax Ol.bm) Tryz.func169 rfl (by kernel_rfl) ?_;cbv;refine aN (fun hc=>?_) (fun hc=>?_)
 ·rw[hA.wF]at hc;cbv;have hb:b=none:=by cases b<;>simp at hc |-
  subst hb;have hl:len=0:=by
   rcases Nat.eq_zero_or_pos len with e|e
   ·exact e
   ·have:=q.bF e;cases this
  have:=q.len;have hx:xs=[]:=List.eq_nil_of_length_eq_zero (by omega);subst hx hl;exact⟨Le.refl _,none,0,rfl,cK.nil⟩
 ·cbv;intro n0 h1 jU dU;have hle:Le h h1:=by rw[dU];exact Le.set jU
  cbv;refine eJ (q.mono (hle.t _)) (by simp[aT]) rfl (by decide) (fun hn=>?_) (fun nb c h2 e1 e2 e3 e4=>?_)
  ·cbv;have:=q.len;have hx:xs=[]:=List.eq_nil_of_length_eq_zero (by omega);subst hx hn;exact⟨hle,_,_,rfl,cK.nil⟩
  ·cbv;exact⟨hle.trans e3,_,_,rfl,e4.buf (hle.none e1) q.len⟩
theorem ma{xs:List dc}{h:ad}{b:Option Addr}{len cap:Nat}(q:Sl 61 aQ h (.slice b len cap) xs):
 Ct 90 [.slice b len cap] h (fun v h'=>Le h h'/\∃b' eU,v=.slice b' len eU/\cK 61 aQ h h' (.slice b' len eU) xs):=by
 obtain⟨A,hA⟩:=Ar.ex;refine ah A (aq T90.ax T90.bm) Tryz.func90 rfl (by kernel_rfl) ?_;cbv;refine aN (fun hc=>?_) (fun hc=>?_)
 ·rw[hA.wF]at hc;cbv;have hb:b=none:=by cases b<;>simp at hc |-
  subst hb;have hl:len=0:=by
   rcases Nat.eq_zero_or_pos len with e|e
   ·exact e
   ·have:=q.bF e;cases this
  have:=q.len;have hx:xs=[]:=List.eq_nil_of_length_eq_zero (by omega);subst hx hl;exact⟨Le.refl _,none,0,rfl,cK.nil⟩
 ·cbv;intro n0 h1 jU dU;have hle:Le h h1:=by rw[dU];exact Le.set jU
  cbv;refine eJ (q.mono (hle.t _)) (by simp[aQ]) rfl (by decide) (fun hn=>?_) (fun nb c h2 e1 e2 e3 e4=>?_)
  ·cbv;have:=q.len;have hx:xs=[]:=List.eq_nil_of_length_eq_zero (by omega);subst hx hn;exact⟨hle,_,_,rfl,cK.nil⟩
  ·cbv;exact⟨hle.trans e3,_,_,rfl,e4.buf (hle.none e1) q.len⟩
abbrev bP.v(h:bP):Value:=.agg #[.int .i64 h.s,.string h.table,.bool h.x]
def fV(a b:bP):Bool:=decide (a.s≠b.s)&&(decide (a.table=b.table)&&(a.x||b.x))
def bL(l:List bP)(s:Int):List bP:=l.filter fun h=>decide (h.s≠s)
def kB(h o:bP):Bool:=decide (o.s=h.s)&&decide (o.table=h.table)
theorem Mk{s1:Int}{t1:ByteArray}{x1:Bool}{hd:bP}{h:ad}{nb:Nat}(g:h nb=some (.cells #[.int .i64 hd.s,.string hd.table,.bool hd.x] 205 (0,0))):
 Ct 325 [.agg #[.int .i64 s1,.string t1,.bool x1],.pointer (some ⟨nb,0,none⟩)] h (fun v h'=>Le h h'/\∃t,v=.bool t/\t=kB hd ⟨s1,t1,x1⟩):=by
 obtain⟨A,hA⟩:=Ar.ex;have q1:A .aF .eql s1 hd.s=decide (s1=hd.s):=by rw[aw A]
 have q2:A .je .eql t1 hd.table=decide (t1=hd.table):=by rw[bN A]
 refine ah A (aq XX.ax XX.bm) Tryz.func325 rfl (by kernel_rfl) ?_;cbv;rw[ai A];refine ar g rfl rfl ?_;cbv;rw[q1];cases e1:decide (s1=hd.s)with
 |true=>cbv;rw[ai A];refine ar g rfl rfl ?_;cbv;rw[q2];exact⟨Le.refl _,_,rfl,by simp[kB,e1]⟩
 |false=>cbv;exact⟨Le.refl _,_,rfl,by simp[kB,e1]⟩
theorem vV{a b:bP}{h:ad}:
 Ct 307 [.agg #[.int .i64 a.s,.string a.table,.bool a.x],.agg #[.int .i64 b.s,.string b.table,.bool b.x]] h (fun v h'=>Le h h'/\∃t,v=.bool t/\t=fV a b):=by
 obtain⟨A,hA⟩:=Ar.ex;obtain⟨s1,t1,x1⟩:=a;obtain⟨s2,t2,x2⟩:=b;have q1:A .aF .neq s1 s2=decide (s1≠s2):=by rw[ay A]
 have q2:A .je .eql t1 t2=decide (t1=t2):=by rw[bN A]
 refine ah A (aq Yc.ax Yc.bm) Tryz.func307 rfl (by kernel_rfl) ?_;cbv;rw[q1];cases e1:decide (s1≠s2)with
 |true=>
  cbv;rw[q2];cases e2:decide (t1=t2)with
  |true=>
   cases x1 with
   |true=>cbv;exact⟨Le.refl _,_,rfl,by simp[fV,e1,e2]⟩
   |false=>cbv;exact⟨Le.refl _,_,rfl,by simp[fV,e1,e2]⟩
  |false=>cbv;exact⟨Le.refl _,_,rfl,by simp[fV,e1,e2]⟩
 |false=>cbv;exact⟨Le.refl _,_,rfl,by simp[fV,e1]⟩
theorem MG{xs:List bP}{h:ad}{b:Option Addr}{len cap:Nat}(q:Sl 205 bD h (.slice b len cap) xs){nb:Nat}{hd:bP}(g:h nb=some (.cells #[.int .i64 hd.s,.string hd.table,.bool hd.x] 205 (0,0))):
 Ct 324 [.slice b len cap,.func (.func 325) #[] #[.pointer (some ⟨nb,0,none⟩)]] h (fun v h'=>Le h h'/\∃z:Int,v=.int .i64 z/\oV xs (kB hd) z):=by
 obtain⟨A,hA⟩:=Ar.ex;have hlen:=q.len;obtain⟨ju,iu⟩:=q.bound;generalize hp:(kB hd)=p;refine ah A (aq Og.ax Og.bm) Tryz.func324 rfl (by kernel_rfl) ?_;cbv;refine aZ.go (G:=Int) (fun z=>[(8,.v (.int .i64 z))]) (fun _=>[]) (fun n z h'=>∃i:Nat,aP z i/\n=len-i/\i<=len/\Le h h'/\∀j,j<i->∀y,xs[j]? =some y->p y=false) len 0 ⟨?_,?_,?_⟩ ⟨0,⟨rfl⟩,by omega,by omega,Le.refl _,fun j hj=>(by omega)⟩ ?_
 ·cbv
 ·cbv
 ·cbv
 ·intro n z h' hI;cbv;obtain⟨i,hz,hn,hi,hle,aM⟩:=hI;refine aN (fun hc=>?_) (fun hc=>?_)
  ·have aI:=hz.lt hc;clear hc;cbv;obtain⟨x,hx⟩:=aD (xs:=xs) (i:=i) (by omega);refine⟨⟨q.bF (by omega),hz.ix aI⟩,?_⟩;cbv;refine(q.mono (hle.t _)).load hx hz.eq (fun cs aJ=>?_);have aJ:cs=[.int .i64 x.s,.string x.table,.bool x.x]:=aJ;subst aJ;cbv;refine(Mk (hle _ _ g)).mono (fun v h2 hR=>?_);obtain⟨cB,t,rfl,ht⟩:=hR;have ht:t=p x:=by rw[<-hp];exact ht
   cbv;cases t with
   |true=>cbv;exact⟨hle.trans cB,z,rfl,⟨.inr ⟨i,x,hz,hx,ht.symm,aM⟩⟩⟩
   |false=>
    cbv;refine⟨len-(i+1),_,by omega,⟨?_,?_,?_⟩,i+1,hz.succ (A:=A) (by omega),rfl,by omega,hle.trans cB,?_⟩
    ·cbv
    ·cbv
    ·cbv
    ·intro j hj y hy;rcases Nat.lt_or_ge j i with h|h
     ·exact aM j h y hy
     ·have:j=i:=by omega
      subst this;rw[hx]at hy;cases hy;exact ht.symm
  ·have iW:=hz.ge hc;cbv;refine⟨hle,-1,rfl,⟨.inl ⟨rfl,fun x hx=>?_⟩⟩⟩;obtain⟨j,hj⟩:=List.getElem?_of_mem hx;have:=(List.getElem?_eq_some_iff.1 hj).1;exact aM j (by omega) x hj
theorem MH{xs:List bP}{h:ad}{b:Option Addr}{len cap:Nat}(q:Sl 205 bD h (.slice b len cap) xs)(hd:bP):
 Ct 324 [.slice b len cap,.func (.func 307) #[.agg #[.int .i64 hd.s,.string hd.table,.bool hd.x]] #[]] h (fun v h'=>Le h h'/\∃z:Int,v=.int .i64 z/\oV xs (fV hd) z):=by
 obtain⟨A,hA⟩:=Ar.ex;have hlen:=q.len;obtain⟨ju,iu⟩:=q.bound;generalize hp:(fV hd)=p;refine ah A (aq Og.ax Og.bm) Tryz.func324 rfl (by kernel_rfl) ?_;cbv;refine aZ.go (G:=Int) (fun z=>[(8,.v (.int .i64 z))]) (fun _=>[]) (fun n z h'=>∃i:Nat,aP z i/\n=len-i/\i<=len/\Le h h'/\∀j,j<i->∀y,xs[j]? =some y->p y=false) len 0 ⟨?_,?_,?_⟩ ⟨0,⟨rfl⟩,by omega,by omega,Le.refl _,fun j hj=>(by omega)⟩ ?_
 ·cbv
 ·cbv
 ·cbv
 ·intro n z h' hI;cbv;obtain⟨i,hz,hn,hi,hle,aM⟩:=hI;refine aN (fun hc=>?_) (fun hc=>?_)
  ·have aI:=hz.lt hc;clear hc;cbv;obtain⟨x,hx⟩:=aD (xs:=xs) (i:=i) (by omega);refine⟨⟨q.bF (by omega),hz.ix aI⟩,?_⟩;cbv;refine(q.mono (hle.t _)).load hx hz.eq (fun cs aJ=>?_);have aJ:cs=[.int .i64 x.s,.string x.table,.bool x.x]:=aJ;subst aJ;cbv;refine(vV (a:=hd) (b:=x)).mono (fun v h2 hR=>?_);obtain⟨cB,t,rfl,ht⟩:=hR;have ht:t=p x:=by rw[<-hp];exact ht
   cbv;cases t with
   |true=>cbv;exact⟨hle.trans cB,z,rfl,⟨.inr ⟨i,x,hz,hx,ht.symm,aM⟩⟩⟩
   |false=>
    cbv;refine⟨len-(i+1),_,by omega,⟨?_,?_,?_⟩,i+1,hz.succ (A:=A) (by omega),rfl,by omega,hle.trans cB,?_⟩
    ·cbv
    ·cbv
    ·cbv
    ·intro j hj y hy;rcases Nat.lt_or_ge j i with h|h
     ·exact aM j h y hy
     ·have:j=i:=by omega
      subst this;rw[hx]at hy;cases hy;exact ht.symm
  ·have iW:=hz.ge hc;cbv;refine⟨hle,-1,rfl,⟨.inl ⟨rfl,fun x hx=>?_⟩⟩⟩;obtain⟨j,hj⟩:=List.getElem?_of_mem hx;have:=(List.getElem?_eq_some_iff.1 hj).1;exact aM j (by omega) x hj
theorem Ml{H:List bP}{h:ad}{b b2:Option Addr}{n c n2 c2:Nat}(q:Sl 205 bD h (.slice b n c) H)(hd:bP):
 Ct 305 [.agg #[.slice b n c,.slice b2 n2 c2],.agg #[.int .i64 hd.s,.string hd.table,.bool hd.x]] h (fun v h'=>Le h h'/\∃z:Int,v=.int .i64 z/\oV H (kB hd) z):=by
 obtain⟨A,hA⟩:=Ar.ex;refine ah A (aq Yf.ax Yf.bm) Tryz.func305 rfl (by kernel_rfl) ?_;cbv;intro nb h1 eK e1;have l1:Le h h1:=by rw[e1];exact Le.set eK
 have g1:=(congrFun e1 nb).trans ae;cbv;refine(MG (q.mono (l1.t _)) g1).mono (fun v h2 hR=>?_);obtain⟨l2,z,rfl,hz⟩:=hR;cbv;exact⟨l1.trans l2,z,rfl,hz⟩
theorem tx{H:List bP}{h:ad}{b:Option Addr}{n c:Nat}(q:Sl 205 bD h (.slice b n c) H)(hd:bP):
 Ct 306 [.slice b n c,.func (.func 307) #[.agg #[.int .i64 hd.s,.string hd.table,.bool hd.x]] #[]] h (fun v h'=>Le h h'/\∃t:Bool,v=.bool t/\t=H.any (fV hd)):=by
 obtain⟨A,hA⟩:=Ar.ex;refine ah A (aq Ye.ax Ye.bm) Tryz.func306 rfl (by kernel_rfl) ?_;cbv;refine(MH q hd).mono (fun v h2 hR=>?_);obtain⟨l2,z,rfl,hz⟩:=hR;cbv;refine⟨l2,_,rfl,?_⟩;rw[bO A];rcases hz.out with ⟨rfl,h1⟩ | ⟨i,x,h1,h2,h3,-⟩
 ·rw[eq_comm];simpa using h1
 ·have:=h1.eq;rw[decide_eq_true (by omega),eq_comm,List.any_eq_true];exact⟨x,List.mem_of_getElem? h2,h3⟩
theorem fq{H:List bP}{h:ad}{b:Option Addr}{n c:Nat}(q:Sl 205 bD h (.slice b n c) H)(hn:n<=2^38)(s:Int):
 Ct 221 [.slice b n c,.int .i64 s] h (fun v h'=>Le h h'/\∃b' n' c',v=.slice b' n' c'/\cK 205 bD h h' (.slice b' n' c') (bL H s)):=by
 obtain⟨A,hA⟩:=Ar.ex;have hlen:=q.len;refine ah A (aq YW.ax YW.bm) Tryz.func221 rfl (by kernel_rfl) ?_;cbv;refine aZ.go (G:=Int×Option Addr×Nat×Nat) (fun g=>[(10,.v (.int .i64 g.1)),(5,.v (.slice g.2.1 g.2.2.1 g.2.2.2))]) (fun _=>[])
  (fun k g h'=>∃i:Nat,aP g.1 i/\k=n-i/\i<=n/\Le h h'/\cK 205 bD h h' (.slice g.2.1 g.2.2.1 g.2.2.2) (bL (H.take i) s)) n (0,none,0,0) ⟨?_,?_,?_⟩ ⟨0,⟨rfl⟩,by omega,by omega,Le.refl _,cK.nil⟩ ?_
 ·cbv
 ·cbv
 ·cbv
 ·intro k g h' hI;cbv;obtain⟨i,hz,hk,hi,hle,hb⟩:=hI;obtain⟨z,gb,gl,gc⟩:=g;have hz:aP z i:=hz;have hb:cK 205 bD h h' (.slice gb gl gc) (bL (H.take i) s):=hb;refine aN (fun hc=>?_) (fun hc=>?_)
  ·have aI:=hz.lt hc;clear hc;cbv;obtain⟨x,hx⟩:=aD (xs:=H) (i:=i) (by omega);refine⟨⟨q.bF (by omega),hz.ix aI⟩,?_⟩;cbv;refine(q.mono (hle.t _)).load hx hz.eq (fun cs aJ=>?_);have aJ:cs=[.int .i64 x.s,.string x.table,.bool x.x]:=aJ;subst aJ;have q1:A .aF .neq x.s s=decide (x.s≠s):=by rw[ay A]
   have yT:gl<=i:=by have:=hb.sl.len;rw[this];refine Nat.le_trans (List.length_filter_le _ _) ?_;rw[List.length_take];omega
   cbv;rw[q1];cases e1:decide (x.s≠s)with
   |true=>
    cbv;intro nb h2 eK e2;have l2:Le h' h2:=by rw[e2];exact Le.set eK
    have g2:=(congrFun e2 nb).trans ae;cbv;refine(hb.mono (l2.t _)).append (bp (s:=bD) g2 (x:=x) rfl) (by decide) rfl (by decide) (by omega) (hle.trans l2) (fun m b' c' h3 hm l3 t3 k3 mX=>?_);cbv;refine⟨n-(i+1),(_,b',m,c'),by omega,⟨?_,?_,?_⟩,i+1,hz.succ (A:=A) (by omega),rfl,by omega,l3,?_⟩
    ·cbv
    ·cbv
    ·cbv
    ·have:bL (H.take (i+1)) s=bL (H.take i) s++[x]:=by rw[List.take_add_one,hx];unfold bL;rw[List.filter_append];simp[e1];simpa using e1
     rw[this];exact mX
   |false=>
    cbv;refine⟨n-(i+1),(_,gb,gl,gc),by omega,⟨?_,?_,?_⟩,i+1,hz.succ (A:=A) (by omega),rfl,by omega,hle,?_⟩
    ·cbv
    ·cbv
    ·cbv
    ·have:bL (H.take (i+1)) s=bL (H.take i) s:=by rw[List.take_add_one,hx];unfold bL;rw[List.filter_append];simp[e1];simpa using e1
     rw[this];exact hb
  ·have iW:=hz.ge hc;cbv;refine(jb hb.sl).mono (fun v h2 hR=>?_);obtain⟨l2,b',c',rfl,q'⟩:=hR;cbv;refine⟨hle.trans l2,_,_,_,rfl,?_⟩;rw[List.take_of_length_le (by omega)]at q';exact q'.base hle
theorem Ns{h:ad}{z:Int}{m:Nat}(hz:aP z m)(hm:m<=2^38):
 Ct 326 [.slice none 0 0,.int .i64 z] h (fun v h'=>Le h h'/\∃b' c',v=.slice b' 0 c'/\cK 205 bD h h' (.slice b' 0 c') ([]:List bP)):=by
 obtain⟨A,hA⟩:=Ar.ex;have h0:aP (A .nat 0) 0:=aP.nat 0;have hw:=hz.sub (A:=A) (h0.sub (A:=A) h0 (by omega) (by omega)) (by omega) (by omega);simp only[Nat.sub_zero,Nat.sub_self]at hw;refine ah A (aq XW.ax XW.bm) Tryz.func326 rfl (by kernel_rfl) ?_;cbv;rw[hz.ES (A:=A)];cbv;generalize eg:A .aF .gtr (A .bA .sub .i64 z (A .bA .sub .i64 (A .nat 0) (A .nat 0))) 0=u;generalize ew:A .bA .sub .i64 z (A .bA .sub .i64 (A .nat 0) (A .nat 0))=w at hw eg;rw[bH A]at eg;cases u with
 |true=>
  have hp:=of_decide_eq_true eg;have RI:0<m:=by have:=hw.eq;omega
  cbv;have Ao:(0:Int)<=A .nat 0/\A .nat 0<=((0:Nat):Int):=by have:=h0.eq;omega
  refine⟨Ao,?_⟩;cbv;refine⟨oe hw (by omega) (by decide),?_⟩;cbv;rw[dv (A:=A) hw,dv (A:=A) h0];refine jz (s:=bD) (xs:=([]:List bP)) Sl.nil (by omega) rfl (by decide) (by omega) rfl rfl (fun nb c h1 eK l1 hc ho=>?_);rw[Nat.zero_add];have cy:(0:Int)<=A .nat 0/\A .nat 0<=((c:Nat):Int):=by have:=h0.eq;omega
  cbv;refine⟨cy,?_⟩;cbv;rw[dv (A:=A) h0,ry (A:=A)];exact⟨l1,_,_,rfl,ho.buf eK rfl⟩
 |false=>cbv;exact⟨Le.refl _,_,_,rfl,cK.nil⟩
theorem sF{L:List (List bP)}{h:ad}{b:Option Addr}{n c:Nat}(q:Sl 28 (jH 205 bD) h (.slice b n c) L)(hn:L.flatten.length<=2^38):
 Ct 308 [.slice b n c] h (fun v h'=>Le h h'/\∃b' n' c',v=.slice b' n' c'/\cK 205 bD h h' (.slice b' n' c') L.flatten):=by
 obtain⟨A,hA⟩:=Ar.ex;have hlen:=q.len;obtain⟨ju,iu⟩:=q.bound;refine ah A (aq Yb.ax Yb.bm) Tryz.func308 rfl (by kernel_rfl) ?_;cbv;refine aZ.go (G:=Int×Int) (fun g=>[(11,.v (.int .i64 g.1)),(3,.v (.int .i64 g.2))]) (fun _=>[])
  (fun k g h'=>∃i:Nat,aP g.1 i/\k=n-i/\i<=n/\h'=h/\aP g.2 (L.take i).flatten.length) n (0,0) ⟨?_,?_,?_⟩ ⟨0,⟨rfl⟩,by omega,by omega,rfl,⟨rfl⟩⟩ ?_
 ·cbv
 ·cbv
 ·cbv
 ·intro k g h' hI;cbv;obtain⟨i,hz,hk,hi,rfl,hw⟩:=hI;refine aN (fun hc=>?_) (fun hc=>?_)
  ·have aI:=hz.lt hc;clear hc;cbv;obtain⟨x,hx⟩:=aD (xs:=L) (i:=i) (by omega);refine⟨⟨q.bF (by omega),hz.ix aI⟩,?_⟩;cbv;refine q.load hx hz.eq (fun cs aJ=>?_);obtain⟨v,rfl,hv⟩:=aJ;obtain⟨b1,l1,c1,rfl⟩:=hv.form;have DK:=hv.len;have hle:=oN L (i+1);rw[fM hx,List.length_append,<-DK]at hle;have qT:=hw.add (A:=A) (aP.nat (A:=A) l1) (by omega);have Ax:=fM hx;cbv;rw[qT.ES (A:=A)];cbv;refine⟨n-(i+1),(_,A .bA .add .i64 g.2 (A .nat l1)),by omega,⟨?_,?_,?_⟩,i+1,hz.succ (A:=A) (by omega),rfl,by omega,rfl,?_⟩
   ·cbv
   ·cbv
   ·cbv
   ·rw[Ax,List.length_append,<-DK];exact qT
  ·have iW:=hz.ge hc;have fI:i=n:=by omega
   rw[List.take_of_length_le (by omega)]at hw;obtain⟨z,w⟩:=g;have hw:aP w L.flatten.length:=hw;cbv;refine(Ns hw hn).mono (fun v h1 hR=>?_);obtain⟨l1,b1,c1,rfl,hb⟩:=hR;cbv;refine aZ.go (G:=Int×Option Addr×Nat×Nat) (fun g=>[(27,.v (.int .i64 g.1)),(6,.v (.slice g.2.1 g.2.2.1 g.2.2.2))]) (fun _=>[])
    (fun k g h2=>∃i:Nat,aP g.1 i/\k=n-i/\i<=n/\Le h' h2/\cK 205 bD h' h2 (.slice g.2.1 g.2.2.1 g.2.2.2) (L.take i).flatten) n (0,b1,0,c1) ⟨?_,?_,?_⟩ ⟨0,⟨rfl⟩,by omega,by omega,l1,hb⟩ ?_
   ·cbv
   ·cbv
   ·cbv
   ·intro k g h2 hI;cbv;obtain⟨i,hz,hk,hi,hle,hb⟩:=hI;obtain⟨z,gb,gl,gc⟩:=g;have hz:aP z i:=hz;have hb:cK 205 bD h' h2 (.slice gb gl gc) (L.take i).flatten:=hb;refine aN (fun hc=>?_) (fun hc=>?_)
    ·have aI:=hz.lt hc;clear hc;cbv;obtain⟨x,hx⟩:=aD (xs:=L) (i:=i) (by omega);refine⟨⟨q.bF (by omega),hz.ix aI⟩,?_⟩;cbv;refine(q.mono (hle.t _)).load hx hz.eq (fun cs aJ=>?_);obtain⟨v,rfl,hv⟩:=aJ;obtain⟨b2,l2,c2,rfl⟩:=hv.form;have vi:=hv.len;have yT:gl=(L.take i).flatten.length:=hb.sl.len;have cB:=oN L (i+1);have Ax:=fM hx;rw[Ax,List.length_append,<-vi,<-yT]at cB;cbv;refine hb.append hv (by decide) rfl (by decide) (by omega) hle (fun m b' c' h3 hm l3 t3 k3 mX=>?_);cbv;refine⟨n-(i+1),(_,b',m,c'),by omega,⟨?_,?_,?_⟩,i+1,hz.succ (A:=A) (by omega),rfl,by omega,l3,?_⟩
     ·cbv
     ·cbv
     ·cbv
     ·rw[Ax];exact mX
    ·have iW:=hz.ge hc;cbv;rw[List.take_of_length_le (by omega)]at hb;exact⟨hle,_,_,_,rfl,hb⟩
theorem Nr{h:ad}{z:Int}{m:Nat}(hz:aP z m)(hm:m<=2^38):
 Ct 304 [.slice none 0 0,.int .i64 z] h (fun v h'=>Le h h'/\∃b' c',v=.slice b' 0 c'/\cK 59 az h h' (.slice b' 0 c') ([]:List Row)):=by
 obtain⟨A,hA⟩:=Ar.ex;have h0:aP (A .nat 0) 0:=aP.nat 0;have hw:=hz.sub (A:=A) (h0.sub (A:=A) h0 (by omega) (by omega)) (by omega) (by omega);simp only[Nat.sub_zero,Nat.sub_self]at hw;refine ah A (aq Yg.ax Yg.bm) Tryz.func304 rfl (by kernel_rfl) ?_;cbv;rw[hz.ES (A:=A)];cbv;generalize eg:A .aF .gtr (A .bA .sub .i64 z (A .bA .sub .i64 (A .nat 0) (A .nat 0))) 0=u;generalize ew:A .bA .sub .i64 z (A .bA .sub .i64 (A .nat 0) (A .nat 0))=w at hw eg;rw[bH A]at eg;cases u with
 |true=>
  have hp:=of_decide_eq_true eg;have RI:0<m:=by have:=hw.eq;omega
  cbv;have Ao:(0:Int)<=A .nat 0/\A .nat 0<=((0:Nat):Int):=by have:=h0.eq;omega
  refine⟨Ao,?_⟩;cbv;refine⟨oe hw (by omega) (by decide),?_⟩;cbv;rw[dv (A:=A) hw,dv (A:=A) h0];refine jz (s:=az) (xs:=([]:List Row)) Sl.nil (by omega) rfl (by decide) (by omega) rfl rfl (fun nb c h1 eK l1 hc ho=>?_);rw[Nat.zero_add];have cy:(0:Int)<=A .nat 0/\A .nat 0<=((c:Nat):Int):=by have:=h0.eq;omega
  cbv;refine⟨cy,?_⟩;cbv;rw[dv (A:=A) h0,ry (A:=A)];exact⟨l1,_,_,rfl,ho.buf eK rfl⟩
 |false=>cbv;exact⟨Le.refl _,_,_,rfl,cK.nil⟩
theorem FI{L:List (List Row)}{h:ad}{b:Option Addr}{n c:Nat}(q:Sl 34 (jH 59 az) h (.slice b n c) L)(hn:L.flatten.length<=2^38):
 Ct 277 [.slice b n c] h (fun v h'=>Le h h'/\∃b' n' c',v=.slice b' n' c'/\cK 59 az h h' (.slice b' n' c') L.flatten):=by
 obtain⟨A,hA⟩:=Ar.ex;have hlen:=q.len;obtain⟨ju,iu⟩:=q.bound;refine ah A (aq Yy.ax Yy.bm) Tryz.func277 rfl (by kernel_rfl) ?_;cbv;refine aZ.go (G:=Int×Int) (fun g=>[(11,.v (.int .i64 g.1)),(3,.v (.int .i64 g.2))]) (fun _=>[])
  (fun k g h'=>∃i:Nat,aP g.1 i/\k=n-i/\i<=n/\h'=h/\aP g.2 (L.take i).flatten.length) n (0,0) ⟨?_,?_,?_⟩ ⟨0,⟨rfl⟩,by omega,by omega,rfl,⟨rfl⟩⟩ ?_
 ·cbv
 ·cbv
 ·cbv
 ·intro k g h' hI;cbv;obtain⟨i,hz,hk,hi,rfl,hw⟩:=hI;refine aN (fun hc=>?_) (fun hc=>?_)
  ·have aI:=hz.lt hc;clear hc;cbv;obtain⟨x,hx⟩:=aD (xs:=L) (i:=i) (by omega);refine⟨⟨q.bF (by omega),hz.ix aI⟩,?_⟩;cbv;refine q.load hx hz.eq (fun cs aJ=>?_);obtain⟨v,rfl,hv⟩:=aJ;obtain⟨b1,l1,c1,rfl⟩:=hv.form;have DK:=hv.len;have hle:=oN L (i+1);rw[fM hx,List.length_append,<-DK]at hle;have qT:=hw.add (A:=A) (aP.nat (A:=A) l1) (by omega);have Ax:=fM hx;cbv;rw[qT.ES (A:=A)];cbv;refine⟨n-(i+1),(_,A .bA .add .i64 g.2 (A .nat l1)),by omega,⟨?_,?_,?_⟩,i+1,hz.succ (A:=A) (by omega),rfl,by omega,rfl,?_⟩
   ·cbv
   ·cbv
   ·cbv
   ·rw[Ax,List.length_append,<-DK];exact qT
  ·have iW:=hz.ge hc;have fI:i=n:=by omega
   rw[List.take_of_length_le (by omega)]at hw;obtain⟨z,w⟩:=g;have hw:aP w L.flatten.length:=hw;cbv;refine(Nr hw hn).mono (fun v h1 hR=>?_);obtain⟨l1,b1,c1,rfl,hb⟩:=hR;cbv;refine aZ.go (G:=Int×Option Addr×Nat×Nat) (fun g=>[(27,.v (.int .i64 g.1)),(6,.v (.slice g.2.1 g.2.2.1 g.2.2.2))]) (fun _=>[])
    (fun k g h2=>∃i:Nat,aP g.1 i/\k=n-i/\i<=n/\Le h' h2/\cK 59 az h' h2 (.slice g.2.1 g.2.2.1 g.2.2.2) (L.take i).flatten) n (0,b1,0,c1) ⟨?_,?_,?_⟩ ⟨0,⟨rfl⟩,by omega,by omega,l1,hb⟩ ?_
   ·cbv
   ·cbv
   ·cbv
   ·intro k g h2 hI;cbv;obtain⟨i,hz,hk,hi,hle,hb⟩:=hI;obtain⟨z,gb,gl,gc⟩:=g;have hz:aP z i:=hz;have hb:cK 59 az h' h2 (.slice gb gl gc) (L.take i).flatten:=hb;refine aN (fun hc=>?_) (fun hc=>?_)
    ·have aI:=hz.lt hc;clear hc;cbv;obtain⟨x,hx⟩:=aD (xs:=L) (i:=i) (by omega);refine⟨⟨q.bF (by omega),hz.ix aI⟩,?_⟩;cbv;refine(q.mono (hle.t _)).load hx hz.eq (fun cs aJ=>?_);obtain⟨v,rfl,hv⟩:=aJ;obtain⟨b2,l2,c2,rfl⟩:=hv.form;have vi:=hv.len;have yT:gl=(L.take i).flatten.length:=hb.sl.len;have cB:=oN L (i+1);have Ax:=fM hx;rw[Ax,List.length_append,<-vi,<-yT]at cB;cbv;refine hb.append hv (by decide) rfl (by decide) (by omega) hle (fun m b' c' h3 hm l3 t3 k3 mX=>?_);cbv;refine⟨n-(i+1),(_,b',m,c'),by omega,⟨?_,?_,?_⟩,i+1,hz.succ (A:=A) (by omega),rfl,by omega,l3,?_⟩
     ·cbv
     ·cbv
     ·cbv
     ·rw[Ax];exact mX
    ·have iW:=hz.ge hc;cbv;rw[List.take_of_length_le (by omega)]at hb;exact⟨hle,_,_,_,rfl,hb⟩
def dD:Sh Int where
 n:=1
 R _ cs v:=cs=[.int .i64 v]
 len:=by rintro h cs x rfl;rfl
 one:=by rintro h cs x rfl;rfl
 tys:=[]
 mono:=fun _ q=>q
def mZ(a b:Int):Int:=if decide (a<b)=true then -1 else if decide (a>b)=true then 1 else 0
def dP:List Int->Int
 | []=>0
 |x::r=>if decide (x≠0)=true then x else dP r
def cD(a b:dc):Int:=dP [mZ a.k b.k,mZ a.n b.n,eI a.s b.s]
def keyOf(key:Int)(r:Row):dc:=if(decide (key<0)||decide (key>=(r.length:Int)))=true then⟨0,0,⟨#[]⟩⟩else(r[key.toNat]?).getD ⟨0,0,⟨#[]⟩⟩
abbrev dc.v(x:dc):Value:=.agg #[.int .i64 x.k,.int .i64 x.n,.string x.s]
theorem Al(a:Int)(h:ad):Ct 318 [.int .i64 a] h (fun v h'=>Le h h'/\v=.bool false):=by
 obtain⟨A,hA⟩:=Ar.ex;have q1:A .aF .neq a a=false:=by rw[ay A];simp
 refine ah A (aq X2.ax X2.bm) Tryz.func318 rfl (by kernel_rfl) ?_;cbv;rw[q1];exact⟨Le.refl _,rfl⟩
theorem J0(a b:Int)(h:ad):Ct 291 [.int .i64 a,.int .i64 b] h (fun v h'=>Le h h'/\∃z,v=.int .i64 z/\z=mZ a b):=by
 obtain⟨A,hA⟩:=Ar.ex;refine ah A (aq Ym.ax Ym.bm) Tryz.func291 rfl (by kernel_rfl) ?_;cbv;refine(Al a h).mono (fun v h1 hR=>?_);obtain⟨l1,rfl⟩:=hR;cbv;refine(Al b h1).mono (fun v h2 hR=>?_);obtain⟨l2,rfl⟩:=hR;cbv;generalize e1:A .aF .lss a b=u1;generalize e2:A .aF .gtr a b=u2;have f2:=e2;rw[bC A]at e1;rw[bH A]at e2;cases u1 with
 |true=>cbv;exact⟨l1.trans l2,_,rfl,by simp only[mZ,e1];rfl⟩
 |false=>
  cbv;rw[f2];cases u2 with
  |true=>cbv;exact⟨l1.trans l2,_,rfl,by simp only[mZ,e1,e2];rfl⟩
  |false=>cbv;exact⟨l1.trans l2,_,rfl,by simp only[mZ,e1,e2];rfl⟩
theorem j7{xs:List Int}{i:Nat}(h:∀j,j<i->∀y,xs[j]? =some y->y=0):dP xs=dP (xs.drop i):=by
 induction i generalizing xs with
 |zero=>rfl
 |succ i ih=>
  cases xs with
  |nil=>rfl
  |cons x r=>have hx:x=0:=h 0 (by omega) x rfl;simp only[List.drop_succ_cons,dP,hx];rw[if_neg (by decide)];exact ih (fun j hj y hy=>h (j+1) (by omega) y (by simpa using hy))
theorem Vp{xs:List Int}{h:ad}{b:Option Addr}{n c:Nat}(q:Sl 3 dD h (.slice b n c) xs):
 Ct 290 [.slice b n c] h (fun v h'=>Le h h'/\∃z,v=.int .i64 z/\z=dP xs):=by
 obtain⟨A,hA⟩:=Ar.ex;have hlen:=q.len;obtain⟨ju,iu⟩:=q.bound;refine ah A (aq Yn.ax Yn.bm) Tryz.func290 rfl (by kernel_rfl) ?_;cbv;refine aZ.go (G:=Int) (fun z=>[(8,.v (.int .i64 z))]) (fun _=>[]) (fun k z h'=>∃i:Nat,aP z i/\k=n-i/\i<=n/\h'=h/\∀j,j<i->∀y,xs[j]? =some y->y=0) n 0 ⟨?_,?_,?_⟩ ⟨0,⟨rfl⟩,by omega,by omega,rfl,fun j hj=>(by omega)⟩ ?_
 ·cbv
 ·cbv
 ·cbv
 ·intro k z h' hI;cbv;obtain⟨i,hz,hk,hi,rfl,aM⟩:=hI;refine aN (fun hc=>?_) (fun hc=>?_)
  ·have aI:=hz.lt hc;clear hc;cbv;obtain⟨x,hx⟩:=aD (xs:=xs) (i:=i) (by omega);refine⟨⟨q.bF (by omega),hz.ix aI⟩,?_⟩;cbv;refine q.load hx hz.eq (fun cs aJ=>?_);have aJ:cs=[.int .i64 x]:=aJ;subst aJ;generalize ex:A .aF .neq x 0=u;rw[ay A]at ex;have xJ:xs.drop i=x::xs.drop (i+1):=by rw[List.drop_eq_getElem_cons (by omega)];have:=(List.getElem?_eq_some_iff.1 hx).2;rw[this]
   have hf:=j7 aM;rw[xJ]at hf;cbv;rw[ay A,ex];cases u with
   |true=>cbv;refine⟨Le.refl _,_,rfl,?_⟩;rw[hf];simp only[dP,ex];rfl
   |false=>
    cbv;refine⟨n-(i+1),_,by omega,⟨?_,?_,?_⟩,i+1,hz.succ (A:=A) (by omega),rfl,by omega,rfl,?_⟩
    ·cbv
    ·cbv
    ·cbv
    ·intro j hj y hy;rcases Nat.lt_or_ge j i with jE|jE
     ·exact aM j jE y hy
     ·have:j=i:=by omega
      subst this;rw[hx]at hy;cases hy;have:=of_decide_eq_false ex;exact Decidable.not_not.1 this
  ·have iW:=hz.ge hc;have hf:=j7 aM;rw[List.drop_eq_nil_of_le (by omega)]at hf;cbv;exact⟨Le.refl _,_,rfl,hf.symm⟩
theorem vL(a b:dc)(h:ad):Ct 254 [.agg #[.int .i64 a.k,.int .i64 a.n,.string a.s],.agg #[.int .i64 b.k,.int .i64 b.n,.string b.s]] h (fun v h'=>Le h h'/\∃z,v=.int .i64 z/\z=cD a b):=by
 obtain⟨A,hA⟩:=Ar.ex;obtain⟨k1,n1,s1⟩:=a;obtain⟨k2,n2,s2⟩:=b;refine ah A (aq YG.ax YG.bm) Tryz.func254 rfl (by kernel_rfl) ?_;cbv;refine(J0 k1 k2 h).mono (fun v h1 hR=>?_);obtain⟨l1,z1,rfl,e1⟩:=hR;cbv;refine(J0 n1 n2 h1).mono (fun v h2 hR=>?_);obtain⟨l2,z2,rfl,e2⟩:=hR;cbv;refine(J2 s1 s2 h2).mono (fun v h3 hR=>?_);obtain⟨l3,z3,rfl,e3⟩:=hR;cbv;intro nb h4 eK e4;have l4:Le h3 h4:=by rw[e4];exact Le.set eK
 have g4:=(congrFun e4 nb).trans ae;cbv;refine(Vp (uk (s:=dD) rfl g4 (x:=z1) (y:=z2) (w:=z3) rfl rfl rfl)).mono (fun v h5 hR=>?_);obtain⟨l5,z,rfl,ez⟩:=hR;cbv;exact⟨(((l1.trans l2).trans l3).trans l4).trans l5,z,rfl,by rw[ez,e1,e2,e3];rfl⟩
theorem IB{r:Row}{h:ad}{c0 c1 c3 c4:Value}{key:Int}{b:Option Addr}{n c:Nat}(q:Sl 61 aQ h (.slice b n c) r):
 Ct 243 [.agg #[c0,c1,.int .i64 key,c3,c4],.slice b n c] h (fun v h'=>Le h h'/\∃kr:dc,v=.agg #[.int .i64 kr.k,.int .i64 kr.n,.string kr.s]/\kr=keyOf key r):=by
 obtain⟨A,hA⟩:=Ar.ex;have hlen:=q.len;generalize e1:A .aF .lss key 0=u1;generalize e2:A .aF .geq key (A .nat n)=u2;have f1:=e1;have f2:=e2;rw[bC A]at e1;rw[bO A,hA.nat]at e2;simp only[Int.ofNat_eq_natCast]at e2;refine ah A (aq YP.ax YP.bm) Tryz.func243 rfl (by kernel_rfl) ?_;cbv;rw[f1];cases u1 with
 |true=>cbv;exact⟨Le.refl _,⟨0,0,⟨#[]⟩⟩,rfl,by simp only[keyOf,e1];rfl⟩
 |false=>
  cbv;rw[f2];cases u2 with
  |true=>cbv;refine⟨Le.refl _,⟨0,0,⟨#[]⟩⟩,rfl,?_⟩;rw[hlen]at e2;simp only[keyOf,e1,e2];rfl
  |false=>obtain⟨pd,pT⟩:=Cb A f1 f2;obtain⟨x,hx⟩:=aD (xs:=r) (i:=key.toNat) (by omega);cbv;refine⟨⟨q.bF (by omega),pd.ix pT⟩,?_⟩;cbv;refine q.load hx pd.eq (fun cs aJ=>?_);have aJ:cs=[.int .i64 x.k,.int .i64 x.n,.string x.s]:=aJ;subst aJ;cbv;refine⟨Le.refl _,x,rfl,?_⟩;rw[hlen]at e2;simp only[keyOf,e1,e2,hx];rfl
theorem DU{h:ad}{kb:Nat}{key:Int}{k0 k1 k3 k4:Value}(gk:h kb=some (.cells #[k0,k1,.int .i64 key,k3,k4] 335 (0,0))){r:Row}{b:Option Addr}{n c:Nat}(q:Sl 61 aQ h (.slice b n c) r)(kv:dc):
 Ct 279 [.slice b n c,.agg #[.int .i64 kv.k,.int .i64 kv.n,.string kv.s],.pointer (some ⟨kb,0,none⟩)] h (fun v h'=>Le h h'/\∃z,v=.int .i64 z/\z=cD (keyOf key r) kv):=by
 obtain⟨A,hA⟩:=Ar.ex;refine ah A (aq Yw.ax Yw.bm) Tryz.func279 rfl (by kernel_rfl) ?_;cbv;refine ar gk rfl rfl ?_;cbv;refine(IB q).mono (fun v h1 hR=>?_);obtain⟨l1,kr,rfl,ekr⟩:=hR;cbv;refine(vL kr kv h1).mono (fun v h2 hR=>?_);obtain⟨l2,z,rfl,ez⟩:=hR;cbv;exact⟨l1.trans l2,z,rfl,by rw[ez,ekr]⟩
theorem XF{xs:List Row}{h:ad}{b:Option Addr}{len cap:Nat}(q:Sl 59 az h (.slice b len cap) xs){kb:Nat}{key:Int}{k0 k1 k3 k4:Value}(gk:h kb=some (.cells #[k0,k1,.int .i64 key,k3,k4] 335 (0,0)))(kv:dc):
 Ct 278 [.slice b len cap,.agg #[.int .i64 kv.k,.int .i64 kv.n,.string kv.s],.func (.func 279) #[] #[.pointer (some ⟨kb,0,none⟩)]] h (fun v h'=>Le h h'/\∃(z:Int) (t:Bool),v=.tuple #[.int .i64 z,.bool t]/\Gi (xs.map (fun x:Row=>cD (keyOf key x) kv)) z t):=by
 obtain⟨A,hA⟩:=Ar.ex;have hlen:=q.len;obtain⟨ju,iu⟩:=q.bound;have tJ:(xs.map (fun x:Row=>cD (keyOf key x) kv)).length=len:=by simp[hlen]
 generalize hl:xs.map (fun x:Row=>cD (keyOf key x) kv)=l at tJ;have lX:∀(i:Nat) x,xs[i]? =some x->l[i]? =some ((fun x:Row=>cD (keyOf key x) kv) x):=fun i x hx=>by rw[<-hl];simp[hx]
 refine ah A (aq Yx.ax Yx.bm) Tryz.func278 rfl (by kernel_rfl) ?_;cbv;refine aZ.go (G:=Int×Int) (fun g=>[(9,.v (.int .i64 g.1)),(10,.v (.int .i64 g.2))]) (fun _=>[(4,[.int .i64 kv.k,.int .i64 kv.n,.string kv.s])])
  (fun n g h'=>∃i j:Nat,aP g.1 i/\aP g.2 j/\n=j-i/\i<=j/\j<=len/\Le h h'/\lF l 0 len=lF l i j) len (0,A .nat len) ⟨?_,?_,?_⟩ ⟨0,len,⟨rfl⟩,⟨by rw[hA.nat];rfl⟩,by omega,by omega,by omega,Le.refl _,rfl⟩ ?_
 ·cbv
 ·cbv
 ·cbv
 ·intro n g h' hI;cbv;obtain⟨i,j,hi,hj,hn,O9,rO,hle,Ph⟩:=hI;refine aN (fun hc=>?_) (fun hc=>?_)
  ·rw[hi.gE (A:=A) hj,decide_eq_true_eq]at hc;cbv;refine⟨by decide,?_⟩;cbv;have hm:=hi.mid (A:=A) hj (by omega) (by omega);obtain⟨x,hx⟩:=aD (xs:=xs) (i:=(i+j) / 2) (by omega);refine⟨⟨q.bF (by omega),hm.ix (by omega)⟩,?_⟩;cbv;refine(q.mono (hle.t _)).load hx hm.eq (fun cs aJ=>?_);obtain⟨v,rfl,hv⟩:=aJ;obtain⟨b1,l1,c1,rfl⟩:=hv.form;cbv;refine(DU (hle _ _ gk) hv kv).mono (fun v h2 hR=>?_);obtain⟨cB,z,rfl,hz⟩:=hR;cbv;have hg:l.getD ((i+j) / 2) 0=z:=by rw[List.getD_eq_getElem?_getD,lX _ _ hx,hz];rfl
   have ir:=Ph;rw[lF.eq_1 l i j,if_pos hc,hg]at ir;refine aN (fun jW=>?_) (fun jW=>?_)
   ·rw[hA.aF]at jW;have AB:z<0:=of_decide_eq_true jW;rw[if_pos AB]at ir;clear jW AB;cbv;refine⟨j-((i+j) / 2+1),(_,g.2),by omega,⟨?_,?_,?_⟩,(i+j) / 2+1,j,hm.succ (A:=A) (by omega),hj,rfl,by omega,rO,hle.trans cB,ir⟩
    ·cbv
    ·cbv
    ·cbv
   ·rw[hA.aF]at jW;have AB:¬z<0:=of_decide_eq_false jW;rw[if_neg AB]at ir;clear jW AB;cbv;refine⟨(i+j) / 2-i,(g.1,A .conv .i64 (A .bA .shr .u64 (A .conv .u64 (A .bA .add .i64 g.1 g.2)) 1)),by omega,⟨?_,?_,?_⟩,i,(i+j) / 2,hi,hm,rfl,by omega,by omega,hle.trans cB,ir⟩
    ·cbv
    ·cbv
    ·cbv
  ·rw[hi.gE (A:=A) hj,decide_eq_false_iff_not]at hc;cbv;have ir:=Ph;rw[lF.eq_1 l i j,if_neg hc]at ir;have jN:=hi.gE (A:=A) (w:=A .nat len) (j:=len) ⟨by rw[hA.nat];rfl⟩;refine aN (fun jW=>?_) (fun jW=>?_)
   ·rw[jW];rw[jN,decide_eq_true_eq]at jW;cbv;obtain⟨x,hx⟩:=aD (xs:=xs) (i:=i) (by omega);refine⟨⟨q.bF (by omega),hi.ix (by omega)⟩,?_⟩;cbv;refine(q.mono (hle.t _)).load hx hi.eq (fun cs aJ=>?_);obtain⟨v,rfl,hv⟩:=aJ;obtain⟨b1,l1,c1,rfl⟩:=hv.form;cbv;refine(DU (hle _ _ gk) hv kv).mono (fun v h2 hR=>?_);obtain⟨cB,z,rfl,hz⟩:=hR;cbv;refine⟨hle.trans cB,_,_,rfl,⟨i,hi,?_,?_⟩⟩
    ·rw[tJ];exact ir.symm
    ·rw[hA.aF];have hg:l.getD i 0=z:=by rw[List.getD_eq_getElem?_getD,lX _ _ hx,hz];rfl
     rw[hg,tJ];simp[aF,jW];rfl
   ·rw[jW];rw[jN,decide_eq_false_iff_not]at jW;cbv;refine⟨hle,_,_,rfl,⟨i,hi,?_,?_⟩⟩
    ·rw[tJ];exact ir.symm
    ·rw[tJ];simp[jW]
theorem DV{rows:List Row}{h:ad}{c0 c1 c3:Value}{key:Int}{b:Option Addr}{n c:Nat}(q:Sl 59 az h (.slice b n c) rows)(kv:dc):
 Ct 242 [.agg #[c0,c1,.int .i64 key,c3,.slice b n c],.agg #[.int .i64 kv.k,.int .i64 kv.n,.string kv.s]] h (fun v h'=>Le h h'/\∃z t,v=.tuple #[.int .i64 z,.bool t]/\Gi (rows.map fun r=>cD (keyOf key r) kv) z t):=by
 obtain⟨A,hA⟩:=Ar.ex;refine ah A (aq YQ.ax YQ.bm) Tryz.func242 rfl (by kernel_rfl) ?_;cbv;intro nb h1 eK e1;have l1:Le h h1:=by rw[e1];exact Le.set eK
 have g1:=(congrFun e1 nb).trans ae;cbv;rw[ai A];rw[ai A];refine ar g1 rfl rfl ?_;cbv;refine(XF (q.mono (l1.t _)) g1 kv).mono (fun v h2 hR=>?_);obtain⟨l2,z,t,rfl,hb⟩:=hR;cbv;exact⟨l1.trans l2,z,t,rfl,hb⟩
def kK(v:dc):dc:=if decide (v.k=3)=true then⟨v.k,0,v.s⟩else if decide (v.k=1)=true then⟨v.k,v.n,⟨#[]⟩⟩else if decide (v.k=2)=true then⟨v.k,v.n,⟨#[]⟩⟩else⟨v.k,0,⟨#[]⟩⟩
def oY(a b:dc):Bool:=decide (a.k=b.k)&&(decide (a.n=b.n)&&decide (a.s=b.s))
def fw(v:dc):Int:=
 if(decide (v.k<0)||decide (v.k>3))=true then 3
 else if(!oY v (kK v)||(decide (v.k=1)&&decide (v.n≠0)&&decide (v.n≠1)))=true then 1
 else if decide ((v.s.size:Int)>60)=true then 5 else 0
theorem Qx{xs:List Row}{h:ad}{b:Option Addr}{len cap:Nat}(q:Sl 59 az h (.slice b len cap) xs):
 Ct 276 [.slice b len cap] h (fun v h'=>Le h h'/\∃nb,h nb=none/\v=.slice (some ⟨nb,0,none⟩) len len/\dq 59 az h' nb len xs):=by
 obtain⟨A,hA⟩:=Ar.ex;have hlen:=q.len;obtain⟨ju,iu⟩:=q.bound;refine ah A (aq Yz.ax Yz.bm) Tryz.func276 rfl (by kernel_rfl) ?_;cbv;refine ig (s:=az) rfl (by omega) (by decide) (fun nb h1 eK hle ho=>?_);cbv;refine aZ.go (G:=Int) (fun z=>[(11,.v (.int .i64 z))]) (fun _=>[]) (fun n z h'=>∃i:Nat,aP z i/\n=len-i/\i<=len/\Le h h'/\dq 59 az h' nb len (xs.take i)) len 0 ⟨?_,?_,?_⟩ ⟨0,⟨rfl⟩,by omega,by omega,hle,ho⟩ ?_
 ·cbv
 ·cbv
 ·cbv
 ·intro n z h' hI;cbv;obtain⟨i,hz,hn,hi,j6,oT⟩:=hI;refine aN (fun hc=>?_) (fun hc=>?_)
  ·have aI:=hz.lt hc;clear hc;cbv;obtain⟨x,hx⟩:=aD (xs:=xs) (i:=i) (by omega);refine⟨⟨q.bF (by omega),hz.ix aI⟩,?_⟩;cbv;refine(q.mono (j6.t _)).load hx hz.eq (fun cs aJ=>?_);obtain⟨v,rfl,hv⟩:=aJ;obtain⟨b1,l1,c1,rfl⟩:=hv.form;cbv;refine(vN hv).mono (fun v2 h2 hR=>?_);obtain⟨cB,b2,J7,rfl,Fa,-⟩:=hR;cbv;refine⟨⟨rfl,hz.ix aI⟩,?_⟩;cbv;refine(oT.mono (cB.t _)).store (by decide) (i:=i) (by simp;omega) (by omega) (by omega) hz.eq rfl (x:=x) ⟨_,rfl,Fa⟩ (fun h3 hk ht zx=>?_);cbv;refine⟨len-(i+1),_,by omega,⟨?_,?_,?_⟩,i+1,hz.succ (A:=A) (by omega),rfl,by omega,?_,?_⟩
   ·cbv
   ·cbv
   ·cbv
   ·exact(j6.trans cB).cm (by simpa using eK) hk
   ·rw[if_neg (by simp;omega)]at zx;rw[List.take_add_one,hx];exact zx
  ·have iW:=hz.ge hc;cbv;have:i=len:=by omega
   subst this;refine⟨j6,nb,eK,rfl,?_⟩;rw[hlen,List.take_length]at oT;rw[hlen];exact oT
theorem oB{nm:ByteArray}{cols:List bM}{key:Int}{only:Bool}{L:List (List Row)}{h:ad}{sb b b4:Option Addr}{sn sc n c n4 c4:Nat}(qs:Sl 165 aT h (.slice sb sn sc) cols)(qL:Sl 34 (jH 59 az) h (.slice b n c) L)(hn:L.flatten.length<=2^38):
 Ct 241 [.agg #[.string nm,.slice sb sn sc,.int .i64 key,.bool only,.slice b4 n4 c4],.slice b n c] h (fun v h'=>Le h h'/\∃b1 n1 k1 b2 n2 k2,v=.agg #[.string nm,.slice b1 n1 k1,.int .i64 key,.bool only,.slice b2 n2 k2]/\Sl 165 aT h' (.slice b1 n1 k1) cols/\Sl 59 az h' (.slice b2 n2 k2) L.flatten):=by
 obtain⟨A,hA⟩:=Ar.ex;refine ah A (aq YR.ax YR.bm) Tryz.func241 rfl (by kernel_rfl) ?_;cbv;refine(A2 qs).mono (fun v h1 hR=>?_);obtain⟨l1,b1,k1,rfl,q1,-⟩:=hR;cbv;refine(FI (qL.mono (l1.t _)) hn).mono (fun v h2 hR=>?_);obtain⟨l2,b2,n2,k2,rfl,q2⟩:=hR;cbv;refine(Qx q2.sl).mono (fun v h3 hR=>?_);obtain⟨l3,nb,eK,rfl,o3⟩:=hR;cbv;exact⟨(l1.trans l2).trans l3,_,_,_,_,_,_,rfl,q1.mono ((l2.trans l3).t _),o3.sl q2.sl.len⟩
theorem N3(w:dc)(h:ad):Ct 303 [.agg #[.int .i64 w.k,.int .i64 w.n,.string w.s]] h (fun v h'=>Le h h'/\∃x:dc,v=.agg #[.int .i64 x.k,.int .i64 x.n,.string x.s]/\x=kK w):=by
 obtain⟨A,hA⟩:=Ar.ex;obtain⟨k,n,s⟩:=w;generalize e3:A .aF .eql k 3=u3;generalize e1:A .aF .eql k 1=u1;generalize e2:A .aF .eql k 2=u2;have f3:=e3;have f2:=e2;have f1:=e1;rw[aw A]at e1 e2 e3;refine ah A (aq Yh.ax Yh.bm) Tryz.func303 rfl (by kernel_rfl) ?_;cbv;rw[f3];cases u3 with
 |true=>cbv;exact⟨Le.refl _,⟨k,0,s⟩,rfl,by simp only[kK,e3];rfl⟩
 |false=>
  cbv;rw[f1];cases u1 with
  |true=>cbv;exact⟨Le.refl _,⟨k,n,⟨#[]⟩⟩,rfl,by simp only[kK,e3,e1];rfl⟩
  |false=>
   cbv;rw[f2];cases u2 with
   |true=>cbv;exact⟨Le.refl _,⟨k,n,⟨#[]⟩⟩,rfl,by simp only[kK,e3,e1,e2];rfl⟩
   |false=>cbv;exact⟨Le.refl _,⟨k,0,⟨#[]⟩⟩,rfl,by simp only[kK,e3,e1,e2];rfl⟩
theorem A4(w:dc)(h:ad):Ct 275 [.agg #[.int .i64 w.k,.int .i64 w.n,.string w.s]] h (fun v h'=>Le h h'/\∃z,v=.int .i64 z/\z=fw w):=by
 obtain⟨A,hA⟩:=Ar.ex;obtain⟨k,n,s⟩:=w;generalize eb:kK ⟨k,n,s⟩=bv;obtain⟨k',n',s'⟩:=bv;generalize e1:A .aF .lss k 0=u1;generalize e2:A .aF .gtr k 3=u2;generalize e3:A .not (A .and (A .aF .eql k k') (A .and (A .aF .eql n n') (A .and (A .je .eql s s') true)))=u3;generalize e4:A .aF .eql k 1=u4;generalize e5:A .aF .neq n 0=u5;generalize e6:A .aF .neq n 1=u6;generalize e7:A .aF .gtr (A .iH s) 60=u7;have f1:=e1;have f2:=e2;have f3:=e3;have f4:=e4;have f5:=e5;have f6:=e6;have f7:=e7;rw[bC A]at e1;rw[bH A]at e2;rw[aw A]at e4;rw[ay A]at e5 e6;rw[bH A,hA.iH]at e7;rw[hA.not,hA.and,aw A,aw A,bN A]at e3;have key:∀z,z=(if(u1||u2)=true then(3:Int)else if(u3||(u4&&u5&&u6))=true then 1 else if u7=true then 5 else 0)->z=fw ⟨k,n,s⟩:=fun z hz=>by
  rw[hz,<-e1,<-e2,<-e3,<-e4,<-e5,<-e6,<-e7];simp only[fw,eb,oY,Bool.and_true]
 refine ah A (aq YA.ax YA.bm) Tryz.func275 rfl (by kernel_rfl) ?_;cbv;rw[f1];cases u1 with
 |true=>cbv;exact⟨Le.refl _,3,rfl,key 3 rfl⟩
 |false=>
  cbv;rw[f2];cases u2 with
  |true=>cbv;exact⟨Le.refl _,3,rfl,key 3 rfl⟩
  |false=>
   cbv;refine(N3 ⟨k,n,s⟩ h).mono (fun v h1 hR=>?_);obtain⟨l1,x,rfl,ex⟩:=hR;rw[eb]at ex;subst ex;cbv;rw[f3];cases u3 with
   |true=>cbv;exact⟨l1,1,rfl,key 1 rfl⟩
   |false=>
    cbv;rw[f4];cases u4 with
    |false=>
     cbv;rw[f7];cases u7 with
     |true=>cbv;exact⟨l1,5,rfl,key 5 rfl⟩
     |false=>cbv;exact⟨l1,0,rfl,key 0 rfl⟩
    |true=>
     cbv;rw[f5];cases u5 with
     |false=>
      cbv;rw[f7];cases u7 with
      |true=>cbv;exact⟨l1,5,rfl,key 5 rfl⟩
      |false=>cbv;exact⟨l1,0,rfl,key 0 rfl⟩
     |true=>
      cbv;rw[f6];cases u6 with
      |true=>cbv;exact⟨l1,1,rfl,key 1 rfl⟩
      |false=>
       cbv;rw[f7];cases u7 with
       |true=>cbv;exact⟨l1,5,rfl,key 5 rfl⟩
       |false=>cbv;exact⟨l1,0,rfl,key 0 rfl⟩
theorem Gi.at_{l:List Int}{z:Int}{t:Bool}(q:Gi l z t):aP z (dC l)/\t=lq l:=by obtain⟨i,h1,h2,h3⟩:=q.out;subst h2;exact⟨h1,h3⟩
def cQ(c:bM)(v:dc):Int:=if decide (fw v≠0)=true then fw v else if(decide (v.k=0)&& !c.null)=true then 13 else if(decide (v.k≠0)&&decide (v.k≠c.kind))=true then 3 else 0
def dO(cols:List bM)(r:Row):Int:=if decide ((r.length:Int)≠(cols.length:Int))=true then 1 else dP (List.zipWith cQ cols r)
def cA(t:cg)(k:dc):List Int:=t.rows.map fun r=>cD (keyOf t.S.key r) k
def BJ(t:cg)(i:Nat)(r:Row):cg:=⟨t.S,t.rows.take i++[r]++t.rows.drop i⟩
def BK(t:cg)(i:Nat):cg:=⟨t.S,t.rows.take i++t.rows.drop (i+1)⟩
def cd(t:cg)(r:Row):cg×Int:=
 if decide (dO t.S.cols r≠0)=true then(t,dO t.S.cols r)
 else if lq (cA t (keyOf t.S.key r))=true then(t,7)
 else if decide ((t.rows.length:Int)>=200)=true then(t,4)
 else(BJ t (dC (cA t (keyOf t.S.key r))) r,0)
def bt(t:cg)(k:dc):cg×Row×Int:=
 if lq (cA t k)=true then(BK t (dC (cA t k)),(t.rows[dC (cA t k)]?).getD [],0)else(t,[],2)
theorem NA{nm:ByteArray}{cols:List bM}{key:Int}{only:Bool}{r:Row}{h:ad}{sb b:Option Addr}{sn sc n c:Nat}(qs:Sl 165 aT h (.slice sb sn sc) cols)(q:Sl 61 aQ h (.slice b n c) r):
 Ct 240 [.agg #[.string nm,.slice sb sn sc,.int .i64 key,.bool only],.slice b n c] h (fun v h'=>Le h h'/\∃z,v=.int .i64 z/\z=dO cols r):=by
 obtain⟨A,hA⟩:=Ar.ex;have hlen:=q.len;have hls:=qs.len;obtain⟨ju,iu⟩:=q.bound;generalize e1:A .aF .neq (A .nat n) (A .nat sn)=u1;have f1:=e1;rw[ay A,hA.nat]at e1;simp only[Int.ofNat_eq_natCast]at e1;rw[hlen,hls]at e1;have hsn0:u1=false->n=sn:=fun e=>by rw[e]at e1;have:=Decidable.not_not.1 (of_decide_eq_false e1);omega
 refine ah A (aq YS.ax YS.bm) Tryz.func240 rfl (by kernel_rfl) ?_;cbv;rw[f1];cases u1 with
 |true=>cbv;exact⟨Le.refl _,1,rfl,by simp only[dO,e1];rfl⟩
 |false=>
  have Gq:=hsn0 rfl;cbv;refine aZ.go (G:=Int) (fun z=>[(17,.v (.int .i64 z))]) (fun _=>[(2,[.string nm,.slice sb sn sc,.int .i64 key,.bool only])])
   (fun k z h'=>∃i:Nat,aP z i/\k=n-i/\i<=n/\Le h h'/\∀j,j<i->∀y,(List.zipWith cQ cols r)[j]? =some y->y=0) n 0 ⟨?_,?_,?_⟩ ⟨0,⟨rfl⟩,by omega,by omega,Le.refl _,fun j hj=>(by omega)⟩ ?_
  ·cbv
  ·cbv
  ·cbv
  ·intro k z h' hI;cbv;obtain⟨i,hz,hk,hi,hle,aM⟩:=hI;refine aN (fun hc=>?_) (fun hc=>?_)
   ·have aI:=hz.lt hc;clear hc;cbv;obtain⟨x,hx⟩:=aD (xs:=r) (i:=i) (by omega);obtain⟨y,hy⟩:=aD (xs:=cols) (i:=i) (by omega);have IS:(List.zipWith cQ cols r)[i]? =some (cQ y x):=by rw[List.getElem?_zipWith,hx,hy]
    have xJ:(List.zipWith cQ cols r).drop i=cQ y x::(List.zipWith cQ cols r).drop (i+1):=by have hl:=(List.getElem?_eq_some_iff.1 IS);rw[List.drop_eq_getElem_cons hl.1,hl.2]
    have hf:dO cols r=dP ((List.zipWith cQ cols r).drop i):=by rw[<-j7 aM];simp only[dO,e1];rfl
    have bad:∀ {hh:ad} (w:Int),Le h hh->w=cQ y x->w≠0->Le h hh/\∃z,Value.int .i64 w=.int .i64 z/\z=dO cols r:=fun w l ew hw=>by
     refine⟨l,w,rfl,?_⟩;rw[hf,xJ,<-ew];simp only[dP];rw[if_pos (decide_eq_true hw)]
    have kG:∀(h2:ad),Le h h2->cQ y x=0->∃j:Nat,aP (A .bA .add .i64 z 1) j/\n-(i+1)=n-j/\j<=n/\Le h h2/\∀j',j'<j->∀w,(List.zipWith cQ cols r)[j']? =some w->w=0:=fun h2 l e0=>
     ⟨i+1,hz.succ (A:=A) (by omega),rfl,by omega,l,fun j hj w hw=>by
      rcases Nat.lt_or_ge j i with jE|jE
      ·exact aM j jE w hw
      ·have:j=i:=by omega
       subst this;rw[IS]at hw;cases hw;exact e0⟩
    refine⟨⟨q.bF (by omega),hz.ix aI⟩,?_⟩;cbv;refine(q.mono (hle.t _)).load hx hz.eq (fun cs aJ=>?_);have aJ:cs=[.int .i64 x.k,.int .i64 x.n,.string x.s]:=aJ;subst aJ;cbv;refine⟨⟨qs.bF (by omega),hz.ix (by omega)⟩,?_⟩;cbv;refine(qs.mono (hle.t _)).load hy hz.eq (fun cs aJ=>?_);have aJ:cs=[.string y.name,.int .i64 y.kind,.bool y.null]:=aJ;subst aJ;cbv;refine(A4 x h').mono (fun v h2 hR=>?_);obtain⟨l2,ev,rfl,hev⟩:=hR;have Mr:=hle.trans l2;obtain⟨nm2,kd,nl⟩:=y;generalize g1:A .aF .neq ev 0=w1;generalize g2:A .aF .eql x.k 0=w2;generalize g3:A .aF .neq x.k 0=w3;generalize g4:A .aF .neq x.k kd=w4;generalize g5:A .not nl=w5;have k1:=g1;have k2:=g2;have k3:=g3;have k4:=g4;have k5:=g5;rw[ay A]at g1 g3 g4;rw[aw A]at g2;rw[hA.not]at g5;have key:cQ ⟨nm2,kd,nl⟩ x=if w1=true then ev else if(w2&&w5)=true then 13 else if(w3&&w4)=true then 3 else 0:=by rw[<-g1,<-g2,<-g3,<-g4,<-g5,hev];rfl
    have wo:w1=true->ev≠0:=fun e=>by rw[e]at g1;exact of_decide_eq_true g1
    cbv;rw[k1];cases w1 with
    |true=>cbv;exact bad ev Mr key.symm (wo rfl)
    |false=>
     cbv;rw[k2];cases w2 with
     |true=>
      have V6:w3=false:=by rw[<-g3];have:=of_decide_eq_true g2;exact decide_eq_false (by omega)
      subst V6;cbv;rw[k5];cases w5 with
      |true=>cbv;exact bad 13 Mr key.symm (by omega)
      |false=>
       have g:=kG h2 Mr key;cbv;rw[k3];cbv;refine⟨n-(i+1),_,by omega,⟨?_,?_,?_⟩,g⟩
       ·cbv
       ·cbv
       ·cbv
     |false=>
      cbv;rw[k3];cases w3 with
      |true=>
       cbv;rw[k4];cases w4 with
       |true=>cbv;exact bad 3 Mr key.symm (by omega)
       |false=>
        have g:=kG h2 Mr key;cbv;refine⟨n-(i+1),_,by omega,⟨?_,?_,?_⟩,g⟩
        ·cbv
        ·cbv
        ·cbv
      |false=>
       have g:=kG h2 Mr key;cbv;refine⟨n-(i+1),_,by omega,⟨?_,?_,?_⟩,g⟩
       ·cbv
       ·cbv
       ·cbv
   ·have iW:=hz.ge hc;have hf:=j7 aM;rw[List.drop_eq_nil_of_le (by rw[List.length_zipWith];omega)]at hf;cbv;refine⟨hle,0,rfl,?_⟩;simp only[dO,e1,hf];rfl
theorem Qc{r:Row}{h:ad}{b:Option Addr}{n c:Nat}(q:Sl 61 aQ h (.slice b n c) r):az.R h [.slice b n c] r:=⟨_,rfl,q⟩
theorem jZ{L:List Row}{h:ad}{b:Option Addr}{n c:Nat}(q:Sl 59 az h (.slice b n c) L):(jH 59 az).R h [.slice b n c] L:=⟨_,rfl,q⟩
theorem OF{nm:ByteArray}{cols:List bM}{key:Int}{only:Bool}{rows:List Row}{r:Row}{h:ad}{sb b4 b:Option Addr}{sn sc n4 c4 n c:Nat}(qs:Sl 165 aT h (.slice sb sn sc) cols)(q4:Sl 59 az h (.slice b4 n4 c4) rows)(q:Sl 61 aQ h (.slice b n c) r)(hn:n4<=2^37):
 Ct 157 [.agg #[.string nm,.slice sb sn sc,.int .i64 key,.bool only,.slice b4 n4 c4],.slice b n c] h (fun v h'=>Le h h'/\∃b1 n1 k1 b2 n2 k2 e T,v=.tuple #[.agg #[.string nm,.slice b1 n1 k1,.int .i64 key,.bool only,.slice b2 n2 k2],.int .i64 e]/\
  Sl 165 aT h' (.slice b1 n1 k1) cols/\Sl 59 az h' (.slice b2 n2 k2) T/\(⟨⟨⟨nm,cols,key,only⟩,T⟩,e⟩:cg×Int)=cd ⟨⟨nm,cols,key,only⟩,rows⟩ r):=by
 obtain⟨A,hA⟩:=Ar.ex;have h4:=q4.len;refine ah A (aq ZK.ax ZK.bm) Tryz.func157 rfl (by kernel_rfl) ?_;cbv;refine(NA (nm:=nm) (key:=key) (only:=only) qs q).mono (fun v h1 hR=>?_);obtain⟨l1,z,rfl,ez⟩:=hR;have su:cd ⟨⟨nm,cols,key,only⟩,rows⟩ r=if decide (z≠0)=true then(⟨⟨nm,cols,key,only⟩,rows⟩,z)else if lq (cA ⟨⟨nm,cols,key,only⟩,rows⟩ (keyOf key r))=true then(⟨⟨nm,cols,key,only⟩,rows⟩,7)
  else if decide ((rows.length:Int)>=200)=true then(⟨⟨nm,cols,key,only⟩,rows⟩,4)else(BJ ⟨⟨nm,cols,key,only⟩,rows⟩ (dC (cA ⟨⟨nm,cols,key,only⟩,rows⟩ (keyOf key r))) r,0):=by rw[ez];rfl
 generalize g1:A .aF .neq z 0=w1;have k1:=g1;rw[ay A]at g1;rw[g1]at su;have all:([rows]:List (List Row)).flatten=rows:=by simp
 cbv;rw[k1];cases w1 with
 |true=>
  cbv;intro nb h2 eK e2;have l2:Le h1 h2:=by rw[e2];exact Le.set eK
  have g2:=(congrFun e2 nb).trans ae;have fH:=l1.trans l2;cbv;refine(oB (qs.mono (fH.t _)) (bp (s:=jH 59 az) g2 (jZ (q4.mono (fH.t _)))) (by rw[all];omega)).mono (fun v h3 hR=>?_);obtain⟨l3,b1,n1,k1,b2,n2,k2,rfl,r1,r2⟩:=hR;rw[all]at r2;cbv;exact⟨fH.trans l3,_,_,_,_,_,_,z,rows,rfl,r1,r2,su.symm⟩
 |false=>
  cbv;refine(IB (q.mono (l1.t _))).mono (fun v h2 hR=>?_);obtain⟨l2,kr,rfl,ekr⟩:=hR;have fH:=l1.trans l2;cbv;refine(DV (q4.mono (fH.t _)) kr).mono (fun v h3 hR=>?_);obtain⟨l3,zi,t,rfl,hb⟩:=hR;have VM:=fH.trans l3;obtain⟨pR,ht⟩:=hb.at_;rw[<-ekr]at su;have ht:t=lq (cA ⟨⟨nm,cols,key,only⟩,rows⟩ kr):=ht;have pR:aP zi (dC (cA ⟨⟨nm,cols,key,only⟩,rows⟩ kr)):=pR;have WG:dC (cA ⟨⟨nm,cols,key,only⟩,rows⟩ kr)<=n4:=by have:=Tl (cA ⟨⟨nm,cols,key,only⟩,rows⟩ kr);rw[h4];simpa[cA]using this
  rw[<-ht]at su;generalize dC (cA ⟨⟨nm,cols,key,only⟩,rows⟩ kr)=i at *;generalize g2:A .aF .geq (A .nat n4) 200=w2;have k2:=g2;rw[bO A,hA.nat]at g2;simp only[Int.ofNat_eq_natCast]at g2;rw[h4]at g2;rw[g2]at su;cases t with
  |true=>
   cbv;intro nb h4 eK e4;have l4:Le h3 h4:=by rw[e4];exact Le.set eK
   have g4:=(congrFun e4 nb).trans ae;have nN:=VM.trans l4;cbv;refine(oB (qs.mono (nN.t _)) (bp (s:=jH 59 az) g4 (jZ (q4.mono (nN.t _)))) (by rw[all];omega)).mono (fun v h5 hR=>?_);obtain⟨l5,b1,n1,k1,b2,n2,k2,rfl,r1,r2⟩:=hR;rw[all]at r2;cbv;exact⟨nN.trans l5,_,_,_,_,_,_,7,rows,rfl,r1,r2,su.symm⟩
  |false=>
   cbv;rw[k2];cases w2 with
   |true=>
    cbv;intro nb h4 eK e4;have l4:Le h3 h4:=by rw[e4];exact Le.set eK
    have g4:=(congrFun e4 nb).trans ae;have nN:=VM.trans l4;cbv;refine(oB (qs.mono (nN.t _)) (bp (s:=jH 59 az) g4 (jZ (q4.mono (nN.t _)))) (by rw[all];omega)).mono (fun v h5 hR=>?_);obtain⟨l5,b1,n1,k1,b2,n2,k2,rfl,r1,r2⟩:=hR;rw[all]at r2;cbv;exact⟨nN.trans l5,_,_,_,_,_,_,4,rows,rfl,r1,r2,su.symm⟩
   |false=>
    have wv:=q4.bound;have cy:0<=zi/\zi<=(c4:Int)/\0<=zi/\zi<=zi:=by have:=pR.eq;omega
    have mI:0<=zi/\zi<=(n4:Int):=by have:=pR.eq;omega
    have Kt:([rows.take i,[r],rows.drop i]:List (List Row)).flatten=rows.take i++[r]++rows.drop i:=by simp
    have zy:(rows.take i++[r]++rows.drop i).length<=2^38:=by simp;omega
    cbv;refine⟨cy,?_⟩;cbv;refine⟨mI,?_⟩;cbv;intro nb h4 eK e4;have l4:Le h3 h4:=by rw[e4];exact Le.set eK
    have g4:=(congrFun e4 nb).trans ae;have nN:=VM.trans l4;cbv;intro sU h5 nR e5;have l5:Le h4 h5:=by rw[e5];exact Le.set nR
    have g5:=(congrFun e5 sU).trans ae;have Iu:=nN.trans l5;have Vg:=q4.mono (Iu.t _);have p1:=jZ (Vg.sN (A:=A) (s:=az) (z:=zi) WG (dv (A:=A) pR) (dv (A:=A) pR));have p2:=jZ (bp (s:=az) (l5 _ _ g4) (Qc (q.mono (Iu.t _))));have p3:=jZ (Vg.tu (A:=A) (s:=az) pR WG (ei (A:=A) pR) (ei (A:=A) pR));cbv;refine(oB (qs.mono (Iu.t _)) (uk (s:=jH 59 az) rfl g5 p1 p2 p3) (by rw[Kt];exact zy)).mono (fun v h6 hR=>?_);obtain⟨l6,b1,n1,k1,b2,n2,k2,rfl,r1,r2⟩:=hR;rw[Kt]at r2;cbv;exact⟨Iu.trans l6,_,_,_,_,_,_,0,_,rfl,r1,r2,su.symm⟩
theorem Hl{nm:ByteArray}{cols:List bM}{key:Int}{only:Bool}{rows:List Row}{h:ad}{sb b4:Option Addr}{sn sc n4 c4:Nat}(qs:Sl 165 aT h (.slice sb sn sc) cols)(q4:Sl 59 az h (.slice b4 n4 c4) rows)(hn:n4<=2^37)(kv:dc):
 Ct 158 [.agg #[.string nm,.slice sb sn sc,.int .i64 key,.bool only,.slice b4 n4 c4],.agg #[.int .i64 kv.k,.int .i64 kv.n,.string kv.s]] h (fun v h'=>Le h h'/\∃b1 n1 k1 b2 n2 k2 b3 n3 k3 e T R,v=.tuple #[.agg #[.string nm,.slice b1 n1 k1,.int .i64 key,.bool only,.slice b2 n2 k2],.slice b3 n3 k3,.int .i64 e]/\
  Sl 165 aT h' (.slice b1 n1 k1) cols/\Sl 59 az h' (.slice b2 n2 k2) T/\Sl 61 aQ h' (.slice b3 n3 k3) R/\(⟨⟨⟨nm,cols,key,only⟩,T⟩,R,e⟩:cg×Row×Int)=bt ⟨⟨nm,cols,key,only⟩,rows⟩ kv):=by
 obtain⟨A,hA⟩:=Ar.ex;have h4:=q4.len;have all:([rows]:List (List Row)).flatten=rows:=by simp
 refine ah A (aq ZJ.ax ZJ.bm) Tryz.func158 rfl (by kernel_rfl) ?_;cbv;refine(DV q4 kv).mono (fun v h1 hR=>?_);obtain⟨l1,zi,t,rfl,hb⟩:=hR;obtain⟨pR,ht⟩:=hb.at_;have su:bt ⟨⟨nm,cols,key,only⟩,rows⟩ kv=if lq (cA ⟨⟨nm,cols,key,only⟩,rows⟩ kv)=true then(BK ⟨⟨nm,cols,key,only⟩,rows⟩ (dC (cA ⟨⟨nm,cols,key,only⟩,rows⟩ kv)),(rows[dC (cA ⟨⟨nm,cols,key,only⟩,rows⟩ kv)]?).getD [],0)else(⟨⟨nm,cols,key,only⟩,rows⟩,[],2):=rfl
 have ht:t=lq (cA ⟨⟨nm,cols,key,only⟩,rows⟩ kv):=ht;have pR:aP zi (dC (cA ⟨⟨nm,cols,key,only⟩,rows⟩ kv)):=pR;have aI:t=true->dC (cA ⟨⟨nm,cols,key,only⟩,rows⟩ kv)<n4:=fun e=>by
  have:=kJ (ht.symm.trans e);rw[h4];simpa[cA]using this
 rw[<-ht]at su;generalize dC (cA ⟨⟨nm,cols,key,only⟩,rows⟩ kv)=i at *;cases t with
 |false=>
  have wJ:A .not false=true:=by rw[hA.not];rfl
  cbv;rw[wJ];cbv;intro nb h4 eK e4;have l4:Le h1 h4:=by rw[e4];exact Le.set eK
  have g4:=(congrFun e4 nb).trans ae;have nN:=l1.trans l4;cbv;refine(oB (qs.mono (nN.t _)) (bp (s:=jH 59 az) g4 (jZ (q4.mono (nN.t _)))) (by rw[all];omega)).mono (fun v h5 hR=>?_);obtain⟨l5,b1,n1,k1,b2,n2,k2,rfl,r1,r2⟩:=hR;rw[all]at r2;cbv;exact⟨nN.trans l5,_,_,_,_,_,_,_,_,_,2,rows,[],rfl,r1,r2,Sl.nil,su.symm⟩
 |true=>
  have aI:=aI rfl;have wJ:A .not true=false:=by rw[hA.not];rfl
  have wv:=q4.bound;have mW:=pR.succ (A:=A) (by omega);have cy:0<=zi/\zi<=(c4:Int)/\0<=zi/\zi<=zi:=by have:=pR.eq;omega
  have mI:0<=A .bA .add .i64 zi 1/\A .bA .add .i64 zi 1<=(n4:Int):=by have:=mW.eq;omega
  have Kt:([rows.take i,rows.drop (i+1)]:List (List Row)).flatten=rows.take i++rows.drop (i+1):=by simp
  have zy:(rows.take i++rows.drop (i+1)).length<=2^38:=by simp;omega
  obtain⟨x,hx⟩:=aD (xs:=rows) (i:=i) (by omega);have Cz:b4.isSome=true/\0<=zi/\zi<(n4:Int):=⟨q4.bF (by omega),pR.ix aI⟩;cbv;rw[wJ];cbv;refine⟨cy,?_⟩;cbv;refine⟨mI,?_⟩;cbv;refine⟨Cz,?_⟩;cbv;refine(q4.mono (l1.t _)).VF hx pR.eq (fun cs aJ again=>?_);obtain⟨vx,rfl,hvx⟩:=aJ;obtain⟨bx,lx,cx,rfl⟩:=hvx.form;cbv;intro sU h5 nR e5;have l5:Le h1 h5:=by rw[e5];exact Le.set nR
  have g5:=(congrFun e5 sU).trans ae;have Iu:=l1.trans l5;have Vg:=q4.mono (Iu.t _);have p1:=jZ (Vg.sN (A:=A) (s:=az) (z:=zi) (Nat.le_of_lt aI) (dv (A:=A) pR) (dv (A:=A) pR));have p3:=jZ (Vg.tu (A:=A) (s:=az) mW aI (ei (A:=A) mW) (ei (A:=A) mW));cbv;refine again _ _ l5 ?_;cbv;refine⟨⟨_,rfl,rfl⟩,?_⟩;cbv;refine(oB (qs.mono (Iu.t _)) (yj (s:=jH 59 az) rfl g5 p1 p3) (by rw[Kt];exact zy)).mono (fun v h6 hR=>?_);obtain⟨l6,b1,n1,k1,b2,n2,k2,rfl,r1,r2⟩:=hR;rw[Kt]at r2;cbv;refine again _ _ (l5.trans l6) ?_;cbv;refine⟨⟨_,rfl,rfl⟩,?_⟩;cbv;refine(vN (hvx.mono ((l5.trans l6).t _))).mono (fun v h7 hR=>?_);obtain⟨l7,b3,k3,rfl,r3,-⟩:=hR;cbv;rw[hx]at su;exact⟨(Iu.trans l6).trans l7,_,_,_,_,_,_,_,_,_,0,_,_,rfl,r1.mono (l7.t _),r2.mono (l7.t _),r3,su.symm⟩
theorem MF{α:Type}{xs:List α}{p:α->Bool}{z:Int}(q:oV xs p z):(z=-1/\xs.findIdx? p=none)\/∃i x,aP z i/\xs.findIdx? p=some i/\xs[i]? =some x/\p x=true:=by
 rcases q.out with ⟨h1,h2⟩ | ⟨i,x,h1,h2,h3,h4⟩
 ·exact .inl ⟨h1,List.findIdx?_eq_none_iff.2 h2⟩
 ·refine .inr ⟨i,x,h1,?_,h2,h3⟩;obtain⟨DK,vi⟩:=List.getElem?_eq_some_iff.1 h2;rw[List.findIdx?_eq_some_iff_getElem];refine⟨DK,by rw[vi];exact h3,fun j hj=>?_⟩;have rO:j<xs.length:=by omega
  have:=h4 j hj xs[j] (by simp[rO]);simp[this]
def Dk(a b:bP):Bool:=decide (a.s=b.s)&&(decide (a.table=b.table)&&decide (a.x=b.x))
def lT(H:List bP)(hd:bP):Option Nat:=H.findIdx? (kB hd)
def jR(H:List bP)(hd:bP):Bool:=match lT H hd with
 |some i=>(H[i]?).any fun o=>o.x||Dk o hd
 |none=>false
def bu(H:List bP)(hd:bP):Bool:=jR H hd|| !(H.any (fV hd))
def bT(H:List bP)(hd:bP):List bP:=
 if bu H hd=true then if jR H hd=true then H else match lT H hd with
  |some i=>H.set i hd
  |none=>H++[hd]
 else H
def cS(H W:List bP)(hd:bP):List bP:=if bu H hd=true then bL W hd.s else bL W hd.s++[hd]
theorem sB{L:List bP}{h:ad}{b:Option Addr}{n c:Nat}(q:Sl 205 bD h (.slice b n c) L):(jH 205 bD).R h [.slice b n c] L:=⟨_,rfl,q⟩
theorem Ny{H W:List bP}{h:ad}{b1 b2:Option Addr}{n1 c1 n2 c2:Nat}(q1:Sl 205 bD h (.slice b1 n1 c1) H)(q2:Sl 205 bD h (.slice b2 n2 c2) W)(oL:n1<=2^38)(ng:n2<=2^38)(s:Int):
 Ct 130 [.agg #[.slice b1 n1 c1,.slice b2 n2 c2],.int .i64 s] h (fun v h'=>Le h h'/\∃b1 n1 c1 b2 n2 c2,v=.agg #[.slice b1 n1 c1,.slice b2 n2 c2]/\Sl 205 bD h' (.slice b1 n1 c1) (bL H s)/\Sl 205 bD h' (.slice b2 n2 c2) (bL W s)):=by
 obtain⟨A,hA⟩:=Ar.ex;refine ah A (aq ZO.ax ZO.bm) Tryz.func130 rfl (by kernel_rfl) ?_;cbv;refine(fq q1 oL s).mono (fun v h1 hR=>?_);obtain⟨l1,UA,n1',GJ,rfl,r1⟩:=hR;cbv;refine(fq (q2.mono (l1.t _)) ng s).mono (fun v h2 hR=>?_);obtain⟨l2,b2',n2',c2',rfl,r2⟩:=hR;cbv;exact⟨l1.trans l2,_,_,_,_,_,_,rfl,r1.sl.mono (l2.t _),r2.sl⟩
theorem Tr{H W:List bP}{h:ad}{b1 b2:Option Addr}{n1 c1 n2 c2:Nat}(q1:Sl 205 bD h (.slice b1 n1 c1) H)(q2:Sl 205 bD h (.slice b2 n2 c2) W)(oL:n1<=2^37)(ng:n2<=2^37)(hd:bP):
 Ct 281 [.agg #[.slice b1 n1 c1,.slice b2 n2 c2],.agg #[.int .i64 hd.s,.string hd.table,.bool hd.x]] h (fun v h'=>Le h h'/\∃b1 n1 c1 b2 n2 c2 t,v=.tuple #[.agg #[.slice b1 n1 c1,.slice b2 n2 c2],.bool t]/\Sl 205 bD h' (.slice b1 n1 c1) (bT H hd)/\Sl 205 bD h' (.slice b2 n2 c2) (cS H W hd)/\t=bu H hd):=by
 obtain⟨A,hA⟩:=Ar.ex;obtain⟨hs,ht,hx⟩:=hd;refine ah A (aq Yu.ax Yu.bm) Tryz.func281 rfl (by kernel_rfl) ?_;cbv;refine(Ml q1 ⟨hs,ht,hx⟩).mono (fun v h1 hR=>?_);obtain⟨l1,z,rfl,hz⟩:=hR;have wJ:A .not true=false:=by rw[hA.not];rfl
 have DI:A .not false=true:=by rw[hA.not];rfl
 rcases(MF hz)with ⟨rfl,hf⟩ | ⟨i,o,mW,hf,ho,hp⟩
 ·have iW:A .aF .geq (-1) 0=false:=by rw[bO A];rfl
  have kH:jR H ⟨hs,ht,hx⟩=false:=by unfold jR lT;rw[hf]
  cbv;rw[iW];cbv;refine(tx (q1.mono (l1.t _)) ⟨hs,ht,hx⟩).mono (fun v h2 hR=>?_);obtain⟨l2,tc,rfl,etc⟩:=hR;have fH:=l1.trans l2;have kF:bu H ⟨hs,ht,hx⟩= !tc:=by unfold bu;rw[kH,etc];rfl
  cases tc with
  |true=>
   have kC:bu H ⟨hs,ht,hx⟩=false:=kF;have uX:bT H ⟨hs,ht,hx⟩=H:=by unfold bT;rw[kC];rfl
   have uW:cS H W ⟨hs,ht,hx⟩=bL W hs++[⟨hs,ht,hx⟩]:=by unfold cS;rw[kC];rfl
   cbv;rw[wJ];cbv;refine(jb (q1.mono (fH.t _))).mono (fun v h3 hR=>?_);obtain⟨l3,bc,cc,rfl,pg⟩:=hR;cbv;refine(fq (q2.mono ((fH.trans l3).t _)) (by omega) hs).mono (fun v h4 hR=>?_);obtain⟨l4,bw,nw,cw,rfl,CE⟩:=hR;have nN:=(fH.trans l3).trans l4;have vr:=pg.mono (l4.t _);cbv;rw[DI];cbv;intro sU h5 nR e5;have l5:Le h4 h5:=by rw[e5];exact Le.set nR
   have g5:=(congrFun e5 sU).trans ae;cbv;intro KC h6 Cv e6;have l6:Le h5 h6:=by rw[e6];exact Le.set Cv
   have g6:=(congrFun e6 KC).trans ae;have Bd:([bL W hs,[⟨hs,ht,hx⟩]]:List (List bP)).flatten=bL W hs++[⟨hs,ht,hx⟩]:=by simp
   have ra:(bL W hs++[(⟨hs,ht,hx⟩:bP)]).length<=2^38:=by have h1:(bL W hs).length<=W.length:=List.length_filter_le _ _;have h2:=q2.len;simp only[List.length_append,List.length_singleton];omega
   cbv;refine(sF (yj (s:=jH 205 bD) rfl g6 (sB (CE.sl.mono ((l5.trans l6).t _))) (sB (bp (s:=bD) (l6 _ _ g5) (x:=⟨hs,ht,hx⟩) rfl))) (by rw[Bd];exact ra)).mono (fun v h7 hR=>?_);obtain⟨l7,b7,n7,c7,rfl,Bs⟩:=hR;rw[Bd]at Bs;have Dz:=(l5.trans l6).trans l7;cbv;exact⟨nN.trans Dz,_,_,_,_,_,_,false,rfl,by rw[uX];exact vr.sl.mono (Dz.t _),by rw[uW];exact Bs.sl,kC.symm⟩
  |false=>
   have kC:bu H ⟨hs,ht,hx⟩=true:=kF;have uX:bT H ⟨hs,ht,hx⟩=H++[⟨hs,ht,hx⟩]:=by unfold bT;rw[kC,kH];unfold lT;rw[hf];rfl
   have uW:cS H W ⟨hs,ht,hx⟩=bL W hs:=by unfold cS;rw[kC];rfl
   cbv;rw[DI];cbv;refine(jb (q1.mono (fH.t _))).mono (fun v h3 hR=>?_);obtain⟨l3,bc,cc,rfl,pg⟩:=hR;cbv;refine(fq (q2.mono ((fH.trans l3).t _)) (by omega) hs).mono (fun v h4 hR=>?_);obtain⟨l4,bw,nw,cw,rfl,CE⟩:=hR;have nN:=(fH.trans l3).trans l4;have vr:=pg.mono (l4.t _);cbv;rw[wJ];cbv;rw[iW];cbv;intro sU h5 nR e5;have l5:Le h4 h5:=by rw[e5];exact Le.set nR
   have g5:=(congrFun e5 sU).trans ae;cbv;intro KC h6 Cv e6;have l6:Le h5 h6:=by rw[e6];exact Le.set Cv
   have g6:=(congrFun e6 KC).trans ae;have Bd:([H,[⟨hs,ht,hx⟩]]:List (List bP)).flatten=H++[⟨hs,ht,hx⟩]:=by simp
   have ra:(H++[(⟨hs,ht,hx⟩:bP)]).length<=2^38:=by have h2:=q1.len;simp only[List.length_append,List.length_singleton];omega
   cbv;refine(sF (yj (s:=jH 205 bD) rfl g6 (sB (vr.sl.mono ((l5.trans l6).t _))) (sB (bp (s:=bD) (l6 _ _ g5) (x:=⟨hs,ht,hx⟩) rfl))) (by rw[Bd];exact ra)).mono (fun v h7 hR=>?_);obtain⟨l7,b7,n7,c7,rfl,Bs⟩:=hR;rw[Bd]at Bs;have Dz:=(l5.trans l6).trans l7;cbv;exact⟨nN.trans Dz,_,_,_,_,_,_,true,rfl,by rw[uX];exact Bs.sl,by rw[uW];exact CE.sl.mono (Dz.t _),kC.symm⟩
 ·have iW:A .aF .geq z 0=true:=by rw[bO A];have:=mW.eq;exact decide_eq_true (by omega)
  have hi1:i<n1:=by have:=(List.getElem?_eq_some_iff.1 ho).1;rw[q1.len];exact this
  have cy:b1.isSome=true/\0<=z/\z<(n1:Int):=⟨q1.bF (by omega),mW.ix hi1⟩;have kH:jR H ⟨hs,ht,hx⟩=(o.x||Dk o ⟨hs,ht,hx⟩):=by unfold jR lT;rw[hf];simp only[ho];rfl
  obtain⟨os,ot,ox⟩:=o;cbv;rw[iW];cbv;refine⟨cy,?_⟩;cbv;refine(q1.mono (l1.t _)).js ho mW.eq (o:=2) (m:=1) (by decide) (fun cs aJ=>?_);have aJ:cs=[.int .i64 os,.string ot,.bool ox]:=aJ;subst aJ;cases ox with
  |true=>
   have VQ:jR H ⟨hs,ht,hx⟩=true:=kH;have kC:bu H ⟨hs,ht,hx⟩=true:=by unfold bu;rw[VQ];rfl
   have uX:bT H ⟨hs,ht,hx⟩=H:=by unfold bT;rw[kC,VQ];rfl
   have uW:cS H W ⟨hs,ht,hx⟩=bL W hs:=by unfold cS;rw[kC];rfl
   cbv;refine(jb (q1.mono (l1.t _))).mono (fun v h3 hR=>?_);obtain⟨l3,bc,cc,rfl,pg⟩:=hR;cbv;refine(fq (q2.mono ((l1.trans l3).t _)) (by omega) hs).mono (fun v h4 hR=>?_);obtain⟨l4,bw,nw,cw,rfl,CE⟩:=hR;have nN:=(l1.trans l3).trans l4;have vr:=pg.mono (l4.t _);cbv;rw[wJ];cbv;exact⟨nN,_,_,_,_,_,_,true,rfl,by rw[uX];exact vr.sl,by rw[uW];exact CE.sl,kC.symm⟩
  |false=>
   cbv;refine⟨cy,?_⟩;cbv;refine(q1.mono (l1.t _)).load ho mW.eq (fun cs aJ=>?_);have aJ:cs=[.int .i64 os,.string ot,.bool false]:=aJ;subst aJ;generalize es:A .and (A .aF .eql os hs) (A .and (A .je .eql ot ht) (A .and (A .zn .eql false hx) true))=us;have fs:=es;rw[hA.and,aw A,bN A,hA.zn]at es;have kH2:jR H ⟨hs,ht,hx⟩=us:=by rw[kH,<-es];simp only[Dk,Bool.false_or,Bool.and_true,zn];cases hx<;>rfl
   cbv;rw[fs];cases us with
   |true=>
    have VQ:=kH2;have kC:bu H ⟨hs,ht,hx⟩=true:=by unfold bu;rw[VQ];rfl
    have uX:bT H ⟨hs,ht,hx⟩=H:=by unfold bT;rw[kC,VQ];rfl
    have uW:cS H W ⟨hs,ht,hx⟩=bL W hs:=by unfold cS;rw[kC];rfl
    cbv;refine(jb (q1.mono (l1.t _))).mono (fun v h3 hR=>?_);obtain⟨l3,bc,cc,rfl,pg⟩:=hR;cbv;refine(fq (q2.mono ((l1.trans l3).t _)) (by omega) hs).mono (fun v h4 hR=>?_);obtain⟨l4,bw,nw,cw,rfl,CE⟩:=hR;have nN:=(l1.trans l3).trans l4;have vr:=pg.mono (l4.t _);cbv;rw[wJ];cbv;exact⟨nN,_,_,_,_,_,_,true,rfl,by rw[uX];exact vr.sl,by rw[uW];exact CE.sl,kC.symm⟩
   |false=>
    cbv;refine(tx (q1.mono (l1.t _)) ⟨hs,ht,hx⟩).mono (fun v h2 hR=>?_);obtain⟨l2,tc,rfl,etc⟩:=hR;have fH:=l1.trans l2;have kF:bu H ⟨hs,ht,hx⟩= !tc:=by unfold bu;rw[kH2,etc];rfl
    cases tc with
    |true=>
     have kC:bu H ⟨hs,ht,hx⟩=false:=kF;have uX:bT H ⟨hs,ht,hx⟩=H:=by unfold bT;rw[kC];rfl
     have uW:cS H W ⟨hs,ht,hx⟩=bL W hs++[⟨hs,ht,hx⟩]:=by unfold cS;rw[kC];rfl
     cbv;rw[wJ];cbv;refine(jb (q1.mono (fH.t _))).mono (fun v h3 hR=>?_);obtain⟨l3,bc,cc,rfl,pg⟩:=hR;cbv;refine(fq (q2.mono ((fH.trans l3).t _)) (by omega) hs).mono (fun v h4 hR=>?_);obtain⟨l4,bw,nw,cw,rfl,CE⟩:=hR;have nN:=(fH.trans l3).trans l4;have vr:=pg.mono (l4.t _);cbv;rw[DI];cbv;intro sU h5 nR e5;have l5:Le h4 h5:=by rw[e5];exact Le.set nR
     have g5:=(congrFun e5 sU).trans ae;cbv;intro KC h6 Cv e6;have l6:Le h5 h6:=by rw[e6];exact Le.set Cv
     have g6:=(congrFun e6 KC).trans ae;have Bd:([bL W hs,[⟨hs,ht,hx⟩]]:List (List bP)).flatten=bL W hs++[⟨hs,ht,hx⟩]:=by simp
     have ra:(bL W hs++[(⟨hs,ht,hx⟩:bP)]).length<=2^38:=by have h1:(bL W hs).length<=W.length:=List.length_filter_le _ _;have h2:=q2.len;simp only[List.length_append,List.length_singleton];omega
     cbv;refine(sF (yj (s:=jH 205 bD) rfl g6 (sB (CE.sl.mono ((l5.trans l6).t _))) (sB (bp (s:=bD) (l6 _ _ g5) (x:=⟨hs,ht,hx⟩) rfl))) (by rw[Bd];exact ra)).mono (fun v h7 hR=>?_);obtain⟨l7,b7,n7,c7,rfl,Bs⟩:=hR;rw[Bd]at Bs;have Dz:=(l5.trans l6).trans l7;cbv;exact⟨nN.trans Dz,_,_,_,_,_,_,false,rfl,by rw[uX];exact vr.sl.mono (Dz.t _),by rw[uW];exact Bs.sl,kC.symm⟩
    |false=>
     have kC:bu H ⟨hs,ht,hx⟩=true:=kF;have uX:bT H ⟨hs,ht,hx⟩=H.set i ⟨hs,ht,hx⟩:=by unfold bT;rw[kC,kH2];unfold lT;rw[hf];rfl
     have uW:cS H W ⟨hs,ht,hx⟩=bL W hs:=by unfold cS;rw[kC];rfl
     cbv;rw[DI];cbv;refine(jb (q1.mono (fH.t _))).mono (fun v h3 hR=>?_);obtain⟨l3,bc,cc,rfl,pg⟩:=hR;cbv;refine(fq (q2.mono ((fH.trans l3).t _)) (by omega) hs).mono (fun v h4 hR=>?_);obtain⟨l4,bw,nw,cw,rfl,CE⟩:=hR;have nN:=(fH.trans l3).trans l4;have vr:=pg.mono (l4.t _);obtain⟨sU,rfl,nR,hlc,oc⟩:=vr.own (by omega);have aI:i<H.length:=(List.getElem?_eq_some_iff.1 ho).1;have AA:n1<=cc:=(pg.sl).bound.2;have Jo:(some (⟨sU,0,none⟩:Addr)).isSome=true/\0<=z/\z<(n1:Int):=⟨rfl,mW.ix hi1⟩;cbv;rw[wJ];cbv;rw[iW];cbv;refine⟨Jo,?_⟩;cbv;refine oc.setAt (by decide) (i:=i) (by omega) mW.eq rfl (x:=⟨hs,ht,hx⟩) rfl (fun h5 k5 t5 o5=>?_);have l5:Le h h5:=nN.cm (by simpa using fH.none nR) k5;have fI:h3 sU≠none:=by obtain⟨mA,e1,-,-,o3⟩:=pg.own (by omega);cases e1;exact o3.has
     have lw:=(CE.kp k5 (by simpa using fI) (t5 _ (by decide))).sl;cbv;exact⟨l5,_,_,_,_,_,_,true,rfl,by rw[uX];exact o5.sl (by rw[List.length_set];exact hlc),by rw[uW];exact lw,kC.symm⟩
end Go.S
