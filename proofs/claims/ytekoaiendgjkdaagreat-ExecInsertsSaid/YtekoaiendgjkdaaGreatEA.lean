import Derived.Test.YtekoaiendgjkdaaGreatDB
import Derived.Test.YtekoaiendgjkdaaGreatRd
set_option linter.unusedVariables false
set_option linter.unusedSimpArgs false
set_option linter.unusedSectionVars false
set_option maxRecDepth 100000
namespace Go.S
open Go.Sx Go.Proofs
theorem iQ{xs:List bK}{h:ad}{b:Option Addr}{len cap:Nat}(q:Sl 205 bA h (.slice b len cap) xs):
 Ct 116 [.slice b len cap] h (fun v h'=>Le h h'/\∃b' eP,v=.slice b' len eP/\cS 205 bA h h' (.slice b' len eP) xs):=by
 obtain⟨A,hA⟩:=Ar.ex;refine af A (ar MD.aw MD.aZ) Tryz.func116 rfl (by kernel_rfl) ?_;cbv;refine aL (fun hc=>?_) (fun hc=>?_)
 ·rw[hA.vf]at hc;cbv;have hb:b=none:=by cases b<;>simp at hc |-
  subst hb;have hl:len=0:=by
   rcases Nat.eq_zero_or_pos len with e|e
   ·exact e
   ·have:=q.bF e;cases this
  have:=q.len;have hx:xs=[]:=List.eq_nil_of_length_eq_zero (by omega);subst hx hl;exact⟨Le.refl _,none,0,rfl,cS.nil⟩
 ·cbv;intro n0 h1 jz dO;have hle:Le h h1:=by rw[dO];exact Le.set jz
  cbv;refine eH (q.mono (hle.t _)) (by simp[bA]) rfl (by decide) (fun hn=>?_) (fun nb c h2 e1 e2 e3 e4=>?_)
  ·cbv;have:=q.len;have hx:xs=[]:=List.eq_nil_of_length_eq_zero (by omega);subst hx hn;exact⟨hle,_,_,rfl,cS.nil⟩
  ·cbv;exact⟨hle.trans e3,_,_,rfl,e4.buf (hle.none e1) q.len⟩
theorem rk{xs:List bS}{h:ad}{b:Option Addr}{len cap:Nat}(q:Sl 165 bp h (.slice b len cap) xs):
 Ct 169 [.slice b len cap] h (fun v h'=>Le h h'/\∃b' eP,v=.slice b' len eP/\cS 165 bp h h' (.slice b' len eP) xs):=by
 obtain⟨A,hA⟩:=Ar.ex;refine af A (ar MC.aw MC.aZ) Tryz.func169 rfl (by kernel_rfl) ?_;cbv;refine aL (fun hc=>?_) (fun hc=>?_)
 ·rw[hA.vf]at hc;cbv;have hb:b=none:=by cases b<;>simp at hc |-
  subst hb;have hl:len=0:=by
   rcases Nat.eq_zero_or_pos len with e|e
   ·exact e
   ·have:=q.bF e;cases this
  have:=q.len;have hx:xs=[]:=List.eq_nil_of_length_eq_zero (by omega);subst hx hl;exact⟨Le.refl _,none,0,rfl,cS.nil⟩
 ·cbv;intro n0 h1 jz dO;have hle:Le h h1:=by rw[dO];exact Le.set jz
  cbv;refine eH (q.mono (hle.t _)) (by simp[bp]) rfl (by decide) (fun hn=>?_) (fun nb c h2 e1 e2 e3 e4=>?_)
  ·cbv;have:=q.len;have hx:xs=[]:=List.eq_nil_of_length_eq_zero (by omega);subst hx hn;exact⟨hle,_,_,rfl,cS.nil⟩
  ·cbv;exact⟨hle.trans e3,_,_,rfl,e4.buf (hle.none e1) q.len⟩
theorem wG{xs:List cR}{h:ad}{b:Option Addr}{len cap:Nat}(q:Sl 61 aY h (.slice b len cap) xs):
 Ct 90 [.slice b len cap] h (fun v h'=>Le h h'/\∃b' eP,v=.slice b' len eP/\cS 61 aY h h' (.slice b' len eP) xs):=by
 obtain⟨A,hA⟩:=Ar.ex;refine af A (ar Zj.aw Zj.aZ) Tryz.func90 rfl (by kernel_rfl) ?_;cbv;refine aL (fun hc=>?_) (fun hc=>?_)
 ·rw[hA.vf]at hc;cbv;have hb:b=none:=by cases b<;>simp at hc |-
  subst hb;have hl:len=0:=by
   rcases Nat.eq_zero_or_pos len with e|e
   ·exact e
   ·have:=q.bF e;cases this
  have:=q.len;have hx:xs=[]:=List.eq_nil_of_length_eq_zero (by omega);subst hx hl;exact⟨Le.refl _,none,0,rfl,cS.nil⟩
 ·cbv;intro n0 h1 jz dO;have hle:Le h h1:=by rw[dO];exact Le.set jz
  cbv;refine eH (q.mono (hle.t _)) (by simp[aY]) rfl (by decide) (fun hn=>?_) (fun nb c h2 e1 e2 e3 e4=>?_)
  ·cbv;have:=q.len;have hx:xs=[]:=List.eq_nil_of_length_eq_zero (by omega);subst hx hn;exact⟨hle,_,_,rfl,cS.nil⟩
  ·cbv;exact⟨hle.trans e3,_,_,rfl,e4.buf (hle.none e1) q.len⟩
abbrev bK.v(h:bK):Value:=.agg #[.int .i64 h.s,.string h.table,.bool h.x]
def fC(a b:bK):Bool:=decide (a.s≠b.s)&&(decide (a.table=b.table)&&(a.x||b.x))
def bH(l:List bK)(s:Int):List bK:=l.filter fun h=>decide (h.s≠s)
def jT(h o:bK):Bool:=decide (o.s=h.s)&&decide (o.table=h.table)
theorem Ko{s1:Int}{t1:ByteArray}{x1:Bool}{hd:bK}{h:ad}{nb:Nat}(g:h nb=some (.cells #[.int .i64 hd.s,.string hd.table,.bool hd.x] 205 (0,0))):
 Ct 325 [.agg #[.int .i64 s1,.string t1,.bool x1],.pointer (some ⟨nb,0,none⟩)] h (fun v h'=>Le h h'/\∃t,v=.bool t/\t=jT hd ⟨s1,t1,x1⟩):=by
 obtain⟨A,hA⟩:=Ar.ex;have q1:A .aD .eql s1 hd.s=decide (s1=hd.s):=by rw[av A]
 have q2:A .jm .eql t1 hd.table=decide (t1=hd.table):=by rw[bL A]
 refine af A (ar VG.aw VG.aZ) Tryz.func325 rfl (by kernel_rfl) ?_;cbv;rw[aj A];refine ay g rfl rfl ?_;cbv;rw[q1];cases e1:decide (s1=hd.s)with
 |true=>cbv;rw[aj A];refine ay g rfl rfl ?_;cbv;rw[q2];exact⟨Le.refl _,_,rfl,by simp[jT,e1]⟩
 |false=>cbv;exact⟨Le.refl _,_,rfl,by simp[jT,e1]⟩
theorem uP{a b:bK}{h:ad}:
 Ct 307 [.agg #[.int .i64 a.s,.string a.table,.bool a.x],.agg #[.int .i64 b.s,.string b.table,.bool b.x]] h (fun v h'=>Le h h'/\∃t,v=.bool t/\t=fC a b):=by
 obtain⟨A,hA⟩:=Ar.ex;obtain⟨s1,t1,x1⟩:=a;obtain⟨s2,t2,x2⟩:=b;have q1:A .aD .neq s1 s2=decide (s1≠s2):=by rw[aC A]
 have q2:A .jm .eql t1 t2=decide (t1=t2):=by rw[bL A]
 refine af A (ar VV.aw VV.aZ) Tryz.func307 rfl (by kernel_rfl) ?_;cbv;rw[q1];cases e1:decide (s1≠s2)with
 |true=>
  cbv;rw[q2];cases e2:decide (t1=t2)with
  |true=>
   cases x1 with
   |true=>cbv;exact⟨Le.refl _,_,rfl,by simp[fC,e1,e2]⟩
   |false=>cbv;exact⟨Le.refl _,_,rfl,by simp[fC,e1,e2]⟩
  |false=>cbv;exact⟨Le.refl _,_,rfl,by simp[fC,e1,e2]⟩
 |false=>cbv;exact⟨Le.refl _,_,rfl,by simp[fC,e1]⟩
theorem KP{xs:List bK}{h:ad}{b:Option Addr}{len cap:Nat}(q:Sl 205 bA h (.slice b len cap) xs){nb:Nat}{hd:bK}(g:h nb=some (.cells #[.int .i64 hd.s,.string hd.table,.bool hd.x] 205 (0,0))):
 Ct 324 [.slice b len cap,.func (.func 325) #[] #[.pointer (some ⟨nb,0,none⟩)]] h (fun v h'=>Le h h'/\∃z:Int,v=.int .i64 z/\pa xs (jT hd) z):=by
 obtain⟨A,hA⟩:=Ar.ex;have hlen:=q.len;obtain⟨ke,jt⟩:=q.bound;generalize hp:(jT hd)=p;refine af A (ar My.aw My.aZ) Tryz.func324 rfl (by kernel_rfl) ?_;cbv;refine aX.go (G:=Int) (fun z=>[(8,.v (.int .i64 z))]) (fun _=>[]) (fun n z h'=>∃i:Nat,aO z i/\n=len-i/\i<=len/\Le h h'/\∀j,j<i->∀y,xs[j]? =some y->p y=false) len 0 ⟨?_,?_,?_⟩ ⟨0,⟨rfl⟩,by omega,by omega,Le.refl _,fun j hj=>(by omega)⟩ ?_
 ·cbv
 ·cbv
 ·cbv
 ·intro n z h' hI;cbv;obtain⟨i,hz,hn,hi,hle,aJ⟩:=hI;refine aL (fun hc=>?_) (fun hc=>?_)
  ·have aG:=hz.lt hc;clear hc;cbv;obtain⟨x,hx⟩:=aE (xs:=xs) (i:=i) (by omega);refine⟨⟨q.bF (by omega),hz.ix aG⟩,?_⟩;cbv;refine(q.mono (hle.t _)).load hx hz.eq (fun cs aF=>?_);have aF:cs=[.int .i64 x.s,.string x.table,.bool x.x]:=aF;subst aF;cbv;refine(Ko (hle _ _ g)).mono (fun v h2 hR=>?_);obtain⟨cB,t,rfl,ht⟩:=hR;have ht:t=p x:=by rw[<-hp];exact ht
   cbv;cases t with
   |true=>cbv;exact⟨hle.trans cB,z,rfl,⟨.inr ⟨i,x,hz,hx,ht.symm,aJ⟩⟩⟩
   |false=>
    cbv;refine⟨len-(i+1),_,by omega,⟨?_,?_,?_⟩,i+1,hz.succ (A:=A) (by omega),rfl,by omega,hle.trans cB,?_⟩
    ·cbv
    ·cbv
    ·cbv
    ·intro j hj y hy;rcases Nat.lt_or_ge j i with h|h
     ·exact aJ j h y hy
     ·have:j=i:=by omega
      subst this;rw[hx]at hy;cases hy;exact ht.symm
  ·have iu:=hz.ge hc;cbv;refine⟨hle,-1,rfl,⟨.inl ⟨rfl,fun x hx=>?_⟩⟩⟩;obtain⟨j,hj⟩:=List.getElem?_of_mem hx;have:=(List.getElem?_eq_some_iff.1 hj).1;exact aJ j (by omega) x hj
theorem KQ{xs:List bK}{h:ad}{b:Option Addr}{len cap:Nat}(q:Sl 205 bA h (.slice b len cap) xs)(hd:bK):
 Ct 324 [.slice b len cap,.func (.func 307) #[.agg #[.int .i64 hd.s,.string hd.table,.bool hd.x]] #[]] h (fun v h'=>Le h h'/\∃z:Int,v=.int .i64 z/\pa xs (fC hd) z):=by
 obtain⟨A,hA⟩:=Ar.ex;have hlen:=q.len;obtain⟨ke,jt⟩:=q.bound;generalize hp:(fC hd)=p;refine af A (ar My.aw My.aZ) Tryz.func324 rfl (by kernel_rfl) ?_;cbv;refine aX.go (G:=Int) (fun z=>[(8,.v (.int .i64 z))]) (fun _=>[]) (fun n z h'=>∃i:Nat,aO z i/\n=len-i/\i<=len/\Le h h'/\∀j,j<i->∀y,xs[j]? =some y->p y=false) len 0 ⟨?_,?_,?_⟩ ⟨0,⟨rfl⟩,by omega,by omega,Le.refl _,fun j hj=>(by omega)⟩ ?_
 ·cbv
 ·cbv
 ·cbv
 ·intro n z h' hI;cbv;obtain⟨i,hz,hn,hi,hle,aJ⟩:=hI;refine aL (fun hc=>?_) (fun hc=>?_)
  ·have aG:=hz.lt hc;clear hc;cbv;obtain⟨x,hx⟩:=aE (xs:=xs) (i:=i) (by omega);refine⟨⟨q.bF (by omega),hz.ix aG⟩,?_⟩;cbv;refine(q.mono (hle.t _)).load hx hz.eq (fun cs aF=>?_);have aF:cs=[.int .i64 x.s,.string x.table,.bool x.x]:=aF;subst aF;cbv;refine(uP (a:=hd) (b:=x)).mono (fun v h2 hR=>?_);obtain⟨cB,t,rfl,ht⟩:=hR;have ht:t=p x:=by rw[<-hp];exact ht
   cbv;cases t with
   |true=>cbv;exact⟨hle.trans cB,z,rfl,⟨.inr ⟨i,x,hz,hx,ht.symm,aJ⟩⟩⟩
   |false=>
    cbv;refine⟨len-(i+1),_,by omega,⟨?_,?_,?_⟩,i+1,hz.succ (A:=A) (by omega),rfl,by omega,hle.trans cB,?_⟩
    ·cbv
    ·cbv
    ·cbv
    ·intro j hj y hy;rcases Nat.lt_or_ge j i with h|h
     ·exact aJ j h y hy
     ·have:j=i:=by omega
      subst this;rw[hx]at hy;cases hy;exact ht.symm
  ·have iu:=hz.ge hc;cbv;refine⟨hle,-1,rfl,⟨.inl ⟨rfl,fun x hx=>?_⟩⟩⟩;obtain⟨j,hj⟩:=List.getElem?_of_mem hx;have:=(List.getElem?_eq_some_iff.1 hj).1;exact aJ j (by omega) x hj
theorem Kq{H:List bK}{h:ad}{b b2:Option Addr}{n c n2 c2:Nat}(q:Sl 205 bA h (.slice b n c) H)(hd:bK):
 Ct 305 [.agg #[.slice b n c,.slice b2 n2 c2],.agg #[.int .i64 hd.s,.string hd.table,.bool hd.x]] h (fun v h'=>Le h h'/\∃z:Int,v=.int .i64 z/\pa H (jT hd) z):=by
 obtain⟨A,hA⟩:=Ar.ex;refine af A (ar VX.aw VX.aZ) Tryz.func305 rfl (by kernel_rfl) ?_;cbv;intro nb h1 eJ e1;have l1:Le h h1:=by rw[e1];exact Le.set eJ
 have g1:=(congrFun e1 nb).trans ah;cbv;refine(KP (q.mono (l1.t _)) g1).mono (fun v h2 hR=>?_);obtain⟨l2,z,rfl,hz⟩:=hR;cbv;exact⟨l1.trans l2,z,rfl,hz⟩
theorem rL{H:List bK}{h:ad}{b:Option Addr}{n c:Nat}(q:Sl 205 bA h (.slice b n c) H)(hd:bK):
 Ct 306 [.slice b n c,.func (.func 307) #[.agg #[.int .i64 hd.s,.string hd.table,.bool hd.x]] #[]] h (fun v h'=>Le h h'/\∃t:Bool,v=.bool t/\t=H.any (fC hd)):=by
 obtain⟨A,hA⟩:=Ar.ex;refine af A (ar VW.aw VW.aZ) Tryz.func306 rfl (by kernel_rfl) ?_;cbv;refine(KQ q hd).mono (fun v h2 hR=>?_);obtain⟨l2,z,rfl,hz⟩:=hR;cbv;refine⟨l2,_,rfl,?_⟩;rw[bQ A];rcases hz.out with ⟨rfl,h1⟩ | ⟨i,x,h1,h2,h3,-⟩
 ·rw[eq_comm];simpa using h1
 ·have:=h1.eq;rw[decide_eq_true (by omega),eq_comm,List.any_eq_true];exact⟨x,List.mem_of_getElem? h2,h3⟩
theorem eS{H:List bK}{h:ad}{b:Option Addr}{n c:Nat}(q:Sl 205 bA h (.slice b n c) H)(hn:n<=2^38)(s:Int):
 Ct 221 [.slice b n c,.int .i64 s] h (fun v h'=>Le h h'/\∃b' n' c',v=.slice b' n' c'/\cS 205 bA h h' (.slice b' n' c') (bH H s)):=by
 obtain⟨A,hA⟩:=Ar.ex;have hlen:=q.len;refine af A (ar WH.aw WH.aZ) Tryz.func221 rfl (by kernel_rfl) ?_;cbv;refine aX.go (G:=Int×Option Addr×Nat×Nat) (fun g=>[(10,.v (.int .i64 g.1)),(5,.v (.slice g.2.1 g.2.2.1 g.2.2.2))]) (fun _=>[])
  (fun k g h'=>∃i:Nat,aO g.1 i/\k=n-i/\i<=n/\Le h h'/\cS 205 bA h h' (.slice g.2.1 g.2.2.1 g.2.2.2) (bH (H.take i) s)) n (0,none,0,0) ⟨?_,?_,?_⟩ ⟨0,⟨rfl⟩,by omega,by omega,Le.refl _,cS.nil⟩ ?_
 ·cbv
 ·cbv
 ·cbv
 ·intro k g h' hI;cbv;obtain⟨i,hz,hk,hi,hle,hb⟩:=hI;obtain⟨z,gb,gl,gc⟩:=g;have hz:aO z i:=hz;have hb:cS 205 bA h h' (.slice gb gl gc) (bH (H.take i) s):=hb;refine aL (fun hc=>?_) (fun hc=>?_)
  ·have aG:=hz.lt hc;clear hc;cbv;obtain⟨x,hx⟩:=aE (xs:=H) (i:=i) (by omega);refine⟨⟨q.bF (by omega),hz.ix aG⟩,?_⟩;cbv;refine(q.mono (hle.t _)).load hx hz.eq (fun cs aF=>?_);have aF:cs=[.int .i64 x.s,.string x.table,.bool x.x]:=aF;subst aF;have q1:A .aD .neq x.s s=decide (x.s≠s):=by rw[aC A]
   have xP:gl<=i:=by have:=hb.sl.len;rw[this];refine Nat.le_trans (List.length_filter_le _ _) ?_;rw[List.length_take];omega
   cbv;rw[q1];cases e1:decide (x.s≠s)with
   |true=>
    cbv;intro nb h2 eJ e2;have l2:Le h' h2:=by rw[e2];exact Le.set eJ
    have g2:=(congrFun e2 nb).trans ah;cbv;refine(hb.mono (l2.t _)).append (bX (s:=bA) g2 (x:=x) rfl) (by decide) rfl (by decide) (by omega) (hle.trans l2) (fun m b' c' h3 hm l3 t3 k3 nk=>?_);cbv;refine⟨n-(i+1),(_,b',m,c'),by omega,⟨?_,?_,?_⟩,i+1,hz.succ (A:=A) (by omega),rfl,by omega,l3,?_⟩
    ·cbv
    ·cbv
    ·cbv
    ·have:bH (H.take (i+1)) s=bH (H.take i) s++[x]:=by rw[List.take_add_one,hx];unfold bH;rw[List.filter_append];simp[e1];simpa using e1
     rw[this];exact nk
   |false=>
    cbv;refine⟨n-(i+1),(_,gb,gl,gc),by omega,⟨?_,?_,?_⟩,i+1,hz.succ (A:=A) (by omega),rfl,by omega,hle,?_⟩
    ·cbv
    ·cbv
    ·cbv
    ·have:bH (H.take (i+1)) s=bH (H.take i) s:=by rw[List.take_add_one,hx];unfold bH;rw[List.filter_append];simp[e1];simpa using e1
     rw[this];exact hb
  ·have iu:=hz.ge hc;cbv;refine(iQ hb.sl).mono (fun v h2 hR=>?_);obtain⟨l2,b',c',rfl,q'⟩:=hR;cbv;refine⟨hle.trans l2,_,_,_,rfl,?_⟩;rw[List.take_of_length_le (by omega)]at q';exact q'.base hle
theorem LD{h:ad}{z:Int}{m:Nat}(hz:aO z m)(hm:m<=2^38):
 Ct 326 [.slice none 0 0,.int .i64 z] h (fun v h'=>Le h h'/\∃b' c',v=.slice b' 0 c'/\cS 205 bA h h' (.slice b' 0 c') ([]:List bK)):=by
 obtain⟨A,hA⟩:=Ar.ex;have h0:aO (A .nat 0) 0:=aO.nat 0;have hw:=hz.sub (A:=A) (h0.sub (A:=A) h0 (by omega) (by omega)) (by omega) (by omega);simp only[Nat.sub_zero,Nat.sub_self]at hw;refine af A (ar VF.aw VF.aZ) Tryz.func326 rfl (by kernel_rfl) ?_;cbv;rw[hz.DG (A:=A)];cbv;generalize eg:A .aD .gtr (A .bu .sub .i64 z (A .bu .sub .i64 (A .nat 0) (A .nat 0))) 0=u;generalize ew:A .bu .sub .i64 z (A .bu .sub .i64 (A .nat 0) (A .nat 0))=w at hw eg;rw[bB A]at eg;cases u with
 |true=>
  have hp:=of_decide_eq_true eg;have PU:0<m:=by have:=hw.eq;omega
  cbv;have zn:(0:Int)<=A .nat 0/\A .nat 0<=((0:Nat):Int):=by have:=h0.eq;omega
  refine⟨zn,?_⟩;cbv;refine⟨nz hw (by omega) (by decide),?_⟩;cbv;rw[dI (A:=A) hw,dI (A:=A) h0];refine je (s:=bA) (xs:=([]:List bK)) Sl.nil (by omega) rfl (by decide) (by omega) rfl rfl (fun nb c h1 eJ l1 hc ho=>?_);rw[Nat.zero_add];have cT:(0:Int)<=A .nat 0/\A .nat 0<=((c:Nat):Int):=by have:=h0.eq;omega
  cbv;refine⟨cT,?_⟩;cbv;rw[dI (A:=A) h0,qj (A:=A)];exact⟨l1,_,_,rfl,ho.buf eJ rfl⟩
 |false=>cbv;exact⟨Le.refl _,_,_,rfl,cS.nil⟩
theorem ri{L:List (List bK)}{h:ad}{b:Option Addr}{n c:Nat}(q:Sl 28 (jl 205 bA) h (.slice b n c) L)(hn:L.flatten.length<=2^38):
 Ct 308 [.slice b n c] h (fun v h'=>Le h h'/\∃b' n' c',v=.slice b' n' c'/\cS 205 bA h h' (.slice b' n' c') L.flatten):=by
 obtain⟨A,hA⟩:=Ar.ex;have hlen:=q.len;obtain⟨ke,jt⟩:=q.bound;refine af A (ar VU.aw VU.aZ) Tryz.func308 rfl (by kernel_rfl) ?_;cbv;refine aX.go (G:=Int×Int) (fun g=>[(11,.v (.int .i64 g.1)),(3,.v (.int .i64 g.2))]) (fun _=>[])
  (fun k g h'=>∃i:Nat,aO g.1 i/\k=n-i/\i<=n/\h'=h/\aO g.2 (L.take i).flatten.length) n (0,0) ⟨?_,?_,?_⟩ ⟨0,⟨rfl⟩,by omega,by omega,rfl,⟨rfl⟩⟩ ?_
 ·cbv
 ·cbv
 ·cbv
 ·intro k g h' hI;cbv;obtain⟨i,hz,hk,hi,rfl,hw⟩:=hI;refine aL (fun hc=>?_) (fun hc=>?_)
  ·have aG:=hz.lt hc;clear hc;cbv;obtain⟨x,hx⟩:=aE (xs:=L) (i:=i) (by omega);refine⟨⟨q.bF (by omega),hz.ix aG⟩,?_⟩;cbv;refine q.load hx hz.eq (fun cs aF=>?_);obtain⟨v,rfl,hv⟩:=aF;obtain⟨b1,l1,c1,rfl⟩:=hv.form;have Cs:=hv.len;have hle:=nQ L (i+1);rw[fi hx,List.length_append,<-Cs]at hle;have tR:=hw.add (A:=A) (aO.nat (A:=A) l1) (by omega);have zC:=fi hx;cbv;rw[tR.DG (A:=A)];cbv;refine⟨n-(i+1),(_,A .bu .add .i64 g.2 (A .nat l1)),by omega,⟨?_,?_,?_⟩,i+1,hz.succ (A:=A) (by omega),rfl,by omega,rfl,?_⟩
   ·cbv
   ·cbv
   ·cbv
   ·rw[zC,List.length_append,<-Cs];exact tR
  ·have iu:=hz.ge hc;have fR:i=n:=by omega
   rw[List.take_of_length_le (by omega)]at hw;obtain⟨z,w⟩:=g;have hw:aO w L.flatten.length:=hw;cbv;refine(LD hw hn).mono (fun v h1 hR=>?_);obtain⟨l1,b1,c1,rfl,hb⟩:=hR;cbv;refine aX.go (G:=Int×Option Addr×Nat×Nat) (fun g=>[(27,.v (.int .i64 g.1)),(6,.v (.slice g.2.1 g.2.2.1 g.2.2.2))]) (fun _=>[])
    (fun k g h2=>∃i:Nat,aO g.1 i/\k=n-i/\i<=n/\Le h' h2/\cS 205 bA h' h2 (.slice g.2.1 g.2.2.1 g.2.2.2) (L.take i).flatten) n (0,b1,0,c1) ⟨?_,?_,?_⟩ ⟨0,⟨rfl⟩,by omega,by omega,l1,hb⟩ ?_
   ·cbv
   ·cbv
   ·cbv
   ·intro k g h2 hI;cbv;obtain⟨i,hz,hk,hi,hle,hb⟩:=hI;obtain⟨z,gb,gl,gc⟩:=g;have hz:aO z i:=hz;have hb:cS 205 bA h' h2 (.slice gb gl gc) (L.take i).flatten:=hb;refine aL (fun hc=>?_) (fun hc=>?_)
    ·have aG:=hz.lt hc;clear hc;cbv;obtain⟨x,hx⟩:=aE (xs:=L) (i:=i) (by omega);refine⟨⟨q.bF (by omega),hz.ix aG⟩,?_⟩;cbv;refine(q.mono (hle.t _)).load hx hz.eq (fun cs aF=>?_);obtain⟨v,rfl,hv⟩:=aF;obtain⟨b2,l2,c2,rfl⟩:=hv.form;have tX:=hv.len;have xP:gl=(L.take i).flatten.length:=hb.sl.len;have cB:=nQ L (i+1);have zC:=fi hx;rw[zC,List.length_append,<-tX,<-xP]at cB;cbv;refine hb.append hv (by decide) rfl (by decide) (by omega) hle (fun m b' c' h3 hm l3 t3 k3 nk=>?_);cbv;refine⟨n-(i+1),(_,b',m,c'),by omega,⟨?_,?_,?_⟩,i+1,hz.succ (A:=A) (by omega),rfl,by omega,l3,?_⟩
     ·cbv
     ·cbv
     ·cbv
     ·rw[zC];exact nk
    ·have iu:=hz.ge hc;cbv;rw[List.take_of_length_le (by omega)]at hb;exact⟨hle,_,_,_,rfl,hb⟩
theorem LC{h:ad}{z:Int}{m:Nat}(hz:aO z m)(hm:m<=2^38):
 Ct 304 [.slice none 0 0,.int .i64 z] h (fun v h'=>Le h h'/\∃b' c',v=.slice b' 0 c'/\cS 59 aN h h' (.slice b' 0 c') ([]:List Row)):=by
 obtain⟨A,hA⟩:=Ar.ex;have h0:aO (A .nat 0) 0:=aO.nat 0;have hw:=hz.sub (A:=A) (h0.sub (A:=A) h0 (by omega) (by omega)) (by omega) (by omega);simp only[Nat.sub_zero,Nat.sub_self]at hw;refine af A (ar VY.aw VY.aZ) Tryz.func304 rfl (by kernel_rfl) ?_;cbv;rw[hz.DG (A:=A)];cbv;generalize eg:A .aD .gtr (A .bu .sub .i64 z (A .bu .sub .i64 (A .nat 0) (A .nat 0))) 0=u;generalize ew:A .bu .sub .i64 z (A .bu .sub .i64 (A .nat 0) (A .nat 0))=w at hw eg;rw[bB A]at eg;cases u with
 |true=>
  have hp:=of_decide_eq_true eg;have PU:0<m:=by have:=hw.eq;omega
  cbv;have zn:(0:Int)<=A .nat 0/\A .nat 0<=((0:Nat):Int):=by have:=h0.eq;omega
  refine⟨zn,?_⟩;cbv;refine⟨nz hw (by omega) (by decide),?_⟩;cbv;rw[dI (A:=A) hw,dI (A:=A) h0];refine je (s:=aN) (xs:=([]:List Row)) Sl.nil (by omega) rfl (by decide) (by omega) rfl rfl (fun nb c h1 eJ l1 hc ho=>?_);rw[Nat.zero_add];have cT:(0:Int)<=A .nat 0/\A .nat 0<=((c:Nat):Int):=by have:=h0.eq;omega
  cbv;refine⟨cT,?_⟩;cbv;rw[dI (A:=A) h0,qj (A:=A)];exact⟨l1,_,_,rfl,ho.buf eJ rfl⟩
 |false=>cbv;exact⟨Le.refl _,_,_,rfl,cS.nil⟩
theorem Eo{L:List (List Row)}{h:ad}{b:Option Addr}{n c:Nat}(q:Sl 34 (jl 59 aN) h (.slice b n c) L)(hn:L.flatten.length<=2^38):
 Ct 277 [.slice b n c] h (fun v h'=>Le h h'/\∃b' n' c',v=.slice b' n' c'/\cS 59 aN h h' (.slice b' n' c') L.flatten):=by
 obtain⟨A,hA⟩:=Ar.ex;have hlen:=q.len;obtain⟨ke,jt⟩:=q.bound;refine af A (ar Wi.aw Wi.aZ) Tryz.func277 rfl (by kernel_rfl) ?_;cbv;refine aX.go (G:=Int×Int) (fun g=>[(11,.v (.int .i64 g.1)),(3,.v (.int .i64 g.2))]) (fun _=>[])
  (fun k g h'=>∃i:Nat,aO g.1 i/\k=n-i/\i<=n/\h'=h/\aO g.2 (L.take i).flatten.length) n (0,0) ⟨?_,?_,?_⟩ ⟨0,⟨rfl⟩,by omega,by omega,rfl,⟨rfl⟩⟩ ?_
 ·cbv
 ·cbv
 ·cbv
 ·intro k g h' hI;cbv;obtain⟨i,hz,hk,hi,rfl,hw⟩:=hI;refine aL (fun hc=>?_) (fun hc=>?_)
  ·have aG:=hz.lt hc;clear hc;cbv;obtain⟨x,hx⟩:=aE (xs:=L) (i:=i) (by omega);refine⟨⟨q.bF (by omega),hz.ix aG⟩,?_⟩;cbv;refine q.load hx hz.eq (fun cs aF=>?_);obtain⟨v,rfl,hv⟩:=aF;obtain⟨b1,l1,c1,rfl⟩:=hv.form;have Cs:=hv.len;have hle:=nQ L (i+1);rw[fi hx,List.length_append,<-Cs]at hle;have tR:=hw.add (A:=A) (aO.nat (A:=A) l1) (by omega);have zC:=fi hx;cbv;rw[tR.DG (A:=A)];cbv;refine⟨n-(i+1),(_,A .bu .add .i64 g.2 (A .nat l1)),by omega,⟨?_,?_,?_⟩,i+1,hz.succ (A:=A) (by omega),rfl,by omega,rfl,?_⟩
   ·cbv
   ·cbv
   ·cbv
   ·rw[zC,List.length_append,<-Cs];exact tR
  ·have iu:=hz.ge hc;have fR:i=n:=by omega
   rw[List.take_of_length_le (by omega)]at hw;obtain⟨z,w⟩:=g;have hw:aO w L.flatten.length:=hw;cbv;refine(LC hw hn).mono (fun v h1 hR=>?_);obtain⟨l1,b1,c1,rfl,hb⟩:=hR;cbv;refine aX.go (G:=Int×Option Addr×Nat×Nat) (fun g=>[(27,.v (.int .i64 g.1)),(6,.v (.slice g.2.1 g.2.2.1 g.2.2.2))]) (fun _=>[])
    (fun k g h2=>∃i:Nat,aO g.1 i/\k=n-i/\i<=n/\Le h' h2/\cS 59 aN h' h2 (.slice g.2.1 g.2.2.1 g.2.2.2) (L.take i).flatten) n (0,b1,0,c1) ⟨?_,?_,?_⟩ ⟨0,⟨rfl⟩,by omega,by omega,l1,hb⟩ ?_
   ·cbv
   ·cbv
   ·cbv
   ·intro k g h2 hI;cbv;obtain⟨i,hz,hk,hi,hle,hb⟩:=hI;obtain⟨z,gb,gl,gc⟩:=g;have hz:aO z i:=hz;have hb:cS 59 aN h' h2 (.slice gb gl gc) (L.take i).flatten:=hb;refine aL (fun hc=>?_) (fun hc=>?_)
    ·have aG:=hz.lt hc;clear hc;cbv;obtain⟨x,hx⟩:=aE (xs:=L) (i:=i) (by omega);refine⟨⟨q.bF (by omega),hz.ix aG⟩,?_⟩;cbv;refine(q.mono (hle.t _)).load hx hz.eq (fun cs aF=>?_);obtain⟨v,rfl,hv⟩:=aF;obtain⟨b2,l2,c2,rfl⟩:=hv.form;have tX:=hv.len;have xP:gl=(L.take i).flatten.length:=hb.sl.len;have cB:=nQ L (i+1);have zC:=fi hx;rw[zC,List.length_append,<-tX,<-xP]at cB;cbv;refine hb.append hv (by decide) rfl (by decide) (by omega) hle (fun m b' c' h3 hm l3 t3 k3 nk=>?_);cbv;refine⟨n-(i+1),(_,b',m,c'),by omega,⟨?_,?_,?_⟩,i+1,hz.succ (A:=A) (by omega),rfl,by omega,l3,?_⟩
     ·cbv
     ·cbv
     ·cbv
     ·rw[zC];exact nk
    ·have iu:=hz.ge hc;cbv;rw[List.take_of_length_le (by omega)]at hb;exact⟨hle,_,_,_,rfl,hb⟩
def ef:Sh Int where
 n:=1
 R _ cs v:=cs=[.int .i64 v]
 len:=by rintro h cs x rfl;rfl
 one:=by rintro h cs x rfl;rfl
 tys:=[]
 mono:=fun _ q=>q
def mF(a b:Int):Int:=if decide (a<b)=true then -1 else if decide (a>b)=true then 1 else 0
def dh:List Int->Int
 | []=>0
 |x::r=>if decide (x≠0)=true then x else dh r
def cg(a b:cR):Int:=dh [mF a.k b.k,mF a.n b.n,eG a.s b.s]
def keyOf(key:Int)(r:Row):cR:=if(decide (key<0)||decide (key>=(r.length:Int)))=true then⟨0,0,⟨#[]⟩⟩else(r[key.toNat]?).getD ⟨0,0,⟨#[]⟩⟩
abbrev cR.v(x:cR):Value:=.agg #[.int .i64 x.k,.int .i64 x.n,.string x.s]
theorem zd(a:Int)(h:ad):Ct 318 [.int .i64 a] h (fun v h'=>Le h h'/\v=.bool false):=by
 obtain⟨A,hA⟩:=Ar.ex;have q1:A .aD .neq a a=false:=by rw[aC A];simp
 refine af A (ar VL.aw VL.aZ) Tryz.func318 rfl (by kernel_rfl) ?_;cbv;rw[q1];exact⟨Le.refl _,rfl⟩
theorem Is(a b:Int)(h:ad):Ct 291 [.int .i64 a,.int .i64 b] h (fun v h'=>Le h h'/\∃z,v=.int .i64 z/\z=mF a b):=by
 obtain⟨A,hA⟩:=Ar.ex;refine af A (ar V4.aw V4.aZ) Tryz.func291 rfl (by kernel_rfl) ?_;cbv;refine(zd a h).mono (fun v h1 hR=>?_);obtain⟨l1,rfl⟩:=hR;cbv;refine(zd b h1).mono (fun v h2 hR=>?_);obtain⟨l2,rfl⟩:=hR;cbv;generalize e1:A .aD .lss a b=u1;generalize e2:A .aD .gtr a b=u2;have f2:=e2;rw[bt A]at e1;rw[bB A]at e2;cases u1 with
 |true=>cbv;exact⟨l1.trans l2,_,rfl,by simp only[mF,e1];rfl⟩
 |false=>
  cbv;rw[f2];cases u2 with
  |true=>cbv;exact⟨l1.trans l2,_,rfl,by simp only[mF,e1,e2];rfl⟩
  |false=>cbv;exact⟨l1.trans l2,_,rfl,by simp only[mF,e1,e2];rfl⟩
theorem jH{xs:List Int}{i:Nat}(h:∀j,j<i->∀y,xs[j]? =some y->y=0):dh xs=dh (xs.drop i):=by
 induction i generalizing xs with
 |zero=>rfl
 |succ i ih=>
  cases xs with
  |nil=>rfl
  |cons x r=>have hx:x=0:=h 0 (by omega) x rfl;simp only[List.drop_succ_cons,dh,hx];rw[if_neg (by decide)];exact ih (fun j hj y hy=>h (j+1) (by omega) y (by simpa using hy))
theorem SN{xs:List Int}{h:ad}{b:Option Addr}{n c:Nat}(q:Sl 3 ef h (.slice b n c) xs):
 Ct 290 [.slice b n c] h (fun v h'=>Le h h'/\∃z,v=.int .i64 z/\z=dh xs):=by
 obtain⟨A,hA⟩:=Ar.ex;have hlen:=q.len;obtain⟨ke,jt⟩:=q.bound;refine af A (ar V5.aw V5.aZ) Tryz.func290 rfl (by kernel_rfl) ?_;cbv;refine aX.go (G:=Int) (fun z=>[(8,.v (.int .i64 z))]) (fun _=>[]) (fun k z h'=>∃i:Nat,aO z i/\k=n-i/\i<=n/\h'=h/\∀j,j<i->∀y,xs[j]? =some y->y=0) n 0 ⟨?_,?_,?_⟩ ⟨0,⟨rfl⟩,by omega,by omega,rfl,fun j hj=>(by omega)⟩ ?_
 ·cbv
 ·cbv
 ·cbv
 ·intro k z h' hI;cbv;obtain⟨i,hz,hk,hi,rfl,aJ⟩:=hI;refine aL (fun hc=>?_) (fun hc=>?_)
  ·have aG:=hz.lt hc;clear hc;cbv;obtain⟨x,hx⟩:=aE (xs:=xs) (i:=i) (by omega);refine⟨⟨q.bF (by omega),hz.ix aG⟩,?_⟩;cbv;refine q.load hx hz.eq (fun cs aF=>?_);have aF:cs=[.int .i64 x]:=aF;subst aF;generalize ex:A .aD .neq x 0=u;rw[aC A]at ex;have Cv:xs.drop i=x::xs.drop (i+1):=by rw[List.drop_eq_getElem_cons (by omega)];have:=(List.getElem?_eq_some_iff.1 hx).2;rw[this]
   have hf:=jH aJ;rw[Cv]at hf;cbv;rw[aC A,ex];cases u with
   |true=>cbv;refine⟨Le.refl _,_,rfl,?_⟩;rw[hf];simp only[dh,ex];rfl
   |false=>
    cbv;refine⟨n-(i+1),_,by omega,⟨?_,?_,?_⟩,i+1,hz.succ (A:=A) (by omega),rfl,by omega,rfl,?_⟩
    ·cbv
    ·cbv
    ·cbv
    ·intro j hj y hy;rcases Nat.lt_or_ge j i with ji|ji
     ·exact aJ j ji y hy
     ·have:j=i:=by omega
      subst this;rw[hx]at hy;cases hy;have:=of_decide_eq_false ex;exact Decidable.not_not.1 this
  ·have iu:=hz.ge hc;have hf:=jH aJ;rw[List.drop_eq_nil_of_le (by omega)]at hf;cbv;exact⟨Le.refl _,_,rfl,hf.symm⟩
theorem uD(a b:cR)(h:ad):Ct 254 [.agg #[.int .i64 a.k,.int .i64 a.n,.string a.s],.agg #[.int .i64 b.k,.int .i64 b.n,.string b.s]] h (fun v h'=>Le h h'/\∃z,v=.int .i64 z/\z=cg a b):=by
 obtain⟨A,hA⟩:=Ar.ex;obtain⟨k1,n1,s1⟩:=a;obtain⟨k2,n2,s2⟩:=b;refine af A (ar Wr.aw Wr.aZ) Tryz.func254 rfl (by kernel_rfl) ?_;cbv;refine(Is k1 k2 h).mono (fun v h1 hR=>?_);obtain⟨l1,z1,rfl,e1⟩:=hR;cbv;refine(Is n1 n2 h1).mono (fun v h2 hR=>?_);obtain⟨l2,z2,rfl,e2⟩:=hR;cbv;refine(Iv s1 s2 h2).mono (fun v h3 hR=>?_);obtain⟨l3,z3,rfl,e3⟩:=hR;cbv;intro nb h4 eJ e4;have l4:Le h3 h4:=by rw[e4];exact Le.set eJ
 have g4:=(congrFun e4 nb).trans ah;cbv;refine(SN (sP (s:=ef) rfl g4 (x:=z1) (y:=z2) (w:=z3) rfl rfl rfl)).mono (fun v h5 hR=>?_);obtain⟨l5,z,rfl,ez⟩:=hR;cbv;exact⟨(((l1.trans l2).trans l3).trans l4).trans l5,z,rfl,by rw[ez,e1,e2,e3];rfl⟩
theorem GU{r:Row}{h:ad}{c0 c1 c3 c4:Value}{key:Int}{b:Option Addr}{n c:Nat}(q:Sl 61 aY h (.slice b n c) r):
 Ct 243 [.agg #[c0,c1,.int .i64 key,c3,c4],.slice b n c] h (fun v h'=>Le h h'/\∃kr:cR,v=.agg #[.int .i64 kr.k,.int .i64 kr.n,.string kr.s]/\kr=keyOf key r):=by
 obtain⟨A,hA⟩:=Ar.ex;have hlen:=q.len;generalize e1:A .aD .lss key 0=u1;generalize e2:A .aD .geq key (A .nat n)=u2;have f1:=e1;have f2:=e2;rw[bt A]at e1;rw[bQ A,hA.nat]at e2;simp only[Int.ofNat_eq_natCast]at e2;refine af A (ar Wz.aw Wz.aZ) Tryz.func243 rfl (by kernel_rfl) ?_;cbv;rw[f1];cases u1 with
 |true=>cbv;exact⟨Le.refl _,⟨0,0,⟨#[]⟩⟩,rfl,by simp only[keyOf,e1];rfl⟩
 |false=>
  cbv;rw[f2];cases u2 with
  |true=>cbv;refine⟨Le.refl _,⟨0,0,⟨#[]⟩⟩,rfl,?_⟩;rw[hlen]at e2;simp only[keyOf,e1,e2];rfl
  |false=>obtain⟨mD,ni⟩:=A7 A f1 f2;obtain⟨x,hx⟩:=aE (xs:=r) (i:=key.toNat) (by omega);cbv;refine⟨⟨q.bF (by omega),mD.ix ni⟩,?_⟩;cbv;refine q.load hx mD.eq (fun cs aF=>?_);have aF:cs=[.int .i64 x.k,.int .i64 x.n,.string x.s]:=aF;subst aF;cbv;refine⟨Le.refl _,x,rfl,?_⟩;rw[hlen]at e2;simp only[keyOf,e1,e2,hx];rfl
theorem CF{h:ad}{kb:Nat}{key:Int}{k0 k1 k3 k4:Value}(gk:h kb=some (.cells #[k0,k1,.int .i64 key,k3,k4] 335 (0,0))){r:Row}{b:Option Addr}{n c:Nat}(q:Sl 61 aY h (.slice b n c) r)(kv:cR):
 Ct 279 [.slice b n c,.agg #[.int .i64 kv.k,.int .i64 kv.n,.string kv.s],.pointer (some ⟨kb,0,none⟩)] h (fun v h'=>Le h h'/\∃z,v=.int .i64 z/\z=cg (keyOf key r) kv):=by
 obtain⟨A,hA⟩:=Ar.ex;refine af A (ar Wg.aw Wg.aZ) Tryz.func279 rfl (by kernel_rfl) ?_;cbv;refine ay gk rfl rfl ?_;cbv;refine(GU q).mono (fun v h1 hR=>?_);obtain⟨l1,kr,rfl,ekr⟩:=hR;cbv;refine(uD kr kv h1).mono (fun v h2 hR=>?_);obtain⟨l2,z,rfl,ez⟩:=hR;cbv;exact⟨l1.trans l2,z,rfl,by rw[ez,ekr]⟩
theorem Vo{xs:List Row}{h:ad}{b:Option Addr}{len cap:Nat}(q:Sl 59 aN h (.slice b len cap) xs){kb:Nat}{key:Int}{k0 k1 k3 k4:Value}(gk:h kb=some (.cells #[k0,k1,.int .i64 key,k3,k4] 335 (0,0)))(kv:cR):
 Ct 278 [.slice b len cap,.agg #[.int .i64 kv.k,.int .i64 kv.n,.string kv.s],.func (.func 279) #[] #[.pointer (some ⟨kb,0,none⟩)]] h (fun v h'=>Le h h'/\∃(z:Int) (t:Bool),v=.tuple #[.int .i64 z,.bool t]/\EG (xs.map (fun x:Row=>cg (keyOf key x) kv)) z t):=by
 obtain⟨A,hA⟩:=Ar.ex;have hlen:=q.len;obtain⟨ke,jt⟩:=q.bound;have rZ:(xs.map (fun x:Row=>cg (keyOf key x) kv)).length=len:=by simp[hlen]
 generalize hl:xs.map (fun x:Row=>cg (keyOf key x) kv)=l at rZ;have lu:∀(i:Nat) x,xs[i]? =some x->l[i]? =some ((fun x:Row=>cg (keyOf key x) kv) x):=fun i x hx=>by rw[<-hl];simp[hx]
 refine af A (ar Wh.aw Wh.aZ) Tryz.func278 rfl (by kernel_rfl) ?_;cbv;refine aX.go (G:=Int×Int) (fun g=>[(9,.v (.int .i64 g.1)),(10,.v (.int .i64 g.2))]) (fun _=>[(4,[.int .i64 kv.k,.int .i64 kv.n,.string kv.s])])
  (fun n g h'=>∃i j:Nat,aO g.1 i/\aO g.2 j/\n=j-i/\i<=j/\j<=len/\Le h h'/\kX l 0 len=kX l i j) len (0,A .nat len) ⟨?_,?_,?_⟩ ⟨0,len,⟨rfl⟩,⟨by rw[hA.nat];rfl⟩,by omega,by omega,by omega,Le.refl _,rfl⟩ ?_
 ·cbv
 ·cbv
 ·cbv
 ·intro n g h' hI;cbv;obtain⟨i,j,hi,hj,hn,Ns,re,hle,NC⟩:=hI;refine aL (fun hc=>?_) (fun hc=>?_)
  ·rw[hi.gK (A:=A) hj,decide_eq_true_eq]at hc;cbv;refine⟨by decide,?_⟩;cbv;have hm:=hi.mid (A:=A) hj (by omega) (by omega);obtain⟨x,hx⟩:=aE (xs:=xs) (i:=(i+j) / 2) (by omega);refine⟨⟨q.bF (by omega),hm.ix (by omega)⟩,?_⟩;cbv;refine(q.mono (hle.t _)).load hx hm.eq (fun cs aF=>?_);obtain⟨v,rfl,hv⟩:=aF;obtain⟨b1,l1,c1,rfl⟩:=hv.form;cbv;refine(CF (hle _ _ gk) hv kv).mono (fun v h2 hR=>?_);obtain⟨cB,z,rfl,hz⟩:=hR;cbv;have hg:l.getD ((i+j) / 2) 0=z:=by rw[List.getD_eq_getElem?_getD,lu _ _ hx,hz];rfl
   have gZ:=NC;rw[kX.eq_1 l i j,if_pos hc,hg]at gZ;refine aL (fun iC=>?_) (fun iC=>?_)
   ·rw[hA.aD]at iC;have zG:z<0:=of_decide_eq_true iC;rw[if_pos zG]at gZ;clear iC zG;cbv;refine⟨j-((i+j) / 2+1),(_,g.2),by omega,⟨?_,?_,?_⟩,(i+j) / 2+1,j,hm.succ (A:=A) (by omega),hj,rfl,by omega,re,hle.trans cB,gZ⟩
    ·cbv
    ·cbv
    ·cbv
   ·rw[hA.aD]at iC;have zG:¬z<0:=of_decide_eq_false iC;rw[if_neg zG]at gZ;clear iC zG;cbv;refine⟨(i+j) / 2-i,(g.1,A .conv .i64 (A .bu .shr .u64 (A .conv .u64 (A .bu .add .i64 g.1 g.2)) 1)),by omega,⟨?_,?_,?_⟩,i,(i+j) / 2,hi,hm,rfl,by omega,by omega,hle.trans cB,gZ⟩
    ·cbv
    ·cbv
    ·cbv
  ·rw[hi.gK (A:=A) hj,decide_eq_false_iff_not]at hc;cbv;have gZ:=NC;rw[kX.eq_1 l i j,if_neg hc]at gZ;have gM:=hi.gK (A:=A) (w:=A .nat len) (j:=len) ⟨by rw[hA.nat];rfl⟩;refine aL (fun iC=>?_) (fun iC=>?_)
   ·rw[iC];rw[gM,decide_eq_true_eq]at iC;cbv;obtain⟨x,hx⟩:=aE (xs:=xs) (i:=i) (by omega);refine⟨⟨q.bF (by omega),hi.ix (by omega)⟩,?_⟩;cbv;refine(q.mono (hle.t _)).load hx hi.eq (fun cs aF=>?_);obtain⟨v,rfl,hv⟩:=aF;obtain⟨b1,l1,c1,rfl⟩:=hv.form;cbv;refine(CF (hle _ _ gk) hv kv).mono (fun v h2 hR=>?_);obtain⟨cB,z,rfl,hz⟩:=hR;cbv;refine⟨hle.trans cB,_,_,rfl,⟨i,hi,?_,?_⟩⟩
    ·rw[rZ];exact gZ.symm
    ·rw[hA.aD];have hg:l.getD i 0=z:=by rw[List.getD_eq_getElem?_getD,lu _ _ hx,hz];rfl
     rw[hg,rZ];simp[aD,iC];rfl
   ·rw[iC];rw[gM,decide_eq_false_iff_not]at iC;cbv;refine⟨hle,_,_,rfl,⟨i,hi,?_,?_⟩⟩
    ·rw[rZ];exact gZ.symm
    ·rw[rZ];simp[iC]
theorem CG{rows:List Row}{h:ad}{c0 c1 c3:Value}{key:Int}{b:Option Addr}{n c:Nat}(q:Sl 59 aN h (.slice b n c) rows)(kv:cR):
 Ct 242 [.agg #[c0,c1,.int .i64 key,c3,.slice b n c],.agg #[.int .i64 kv.k,.int .i64 kv.n,.string kv.s]] h (fun v h'=>Le h h'/\∃z t,v=.tuple #[.int .i64 z,.bool t]/\EG (rows.map fun r=>cg (keyOf key r) kv) z t):=by
 obtain⟨A,hA⟩:=Ar.ex;refine af A (ar WA.aw WA.aZ) Tryz.func242 rfl (by kernel_rfl) ?_;cbv;intro nb h1 eJ e1;have l1:Le h h1:=by rw[e1];exact Le.set eJ
 have g1:=(congrFun e1 nb).trans ah;cbv;rw[aj A];rw[aj A];refine ay g1 rfl rfl ?_;cbv;refine(Vo (q.mono (l1.t _)) g1 kv).mono (fun v h2 hR=>?_);obtain⟨l2,z,t,rfl,hb⟩:=hR;cbv;exact⟨l1.trans l2,z,t,rfl,hb⟩
def jd(v:cR):cR:=if decide (v.k=3)=true then⟨v.k,0,v.s⟩else if decide (v.k=1)=true then⟨v.k,v.n,⟨#[]⟩⟩else if decide (v.k=2)=true then⟨v.k,v.n,⟨#[]⟩⟩else⟨v.k,0,⟨#[]⟩⟩
def mj(a b:cR):Bool:=decide (a.k=b.k)&&(decide (a.n=b.n)&&decide (a.s=b.s))
def cC(v:cR):Int:=
 if(decide (v.k<0)||decide (v.k>3))=true then 3
 else if(!mj v (jd v)||(decide (v.k=1)&&decide (v.n≠0)&&decide (v.n≠1)))=true then 1
 else if decide ((v.s.size:Int)>60)=true then 5 else 0
theorem OL{xs:List Row}{h:ad}{b:Option Addr}{len cap:Nat}(q:Sl 59 aN h (.slice b len cap) xs):
 Ct 276 [.slice b len cap] h (fun v h'=>Le h h'/\∃nb,h nb=none/\v=.slice (some ⟨nb,0,none⟩) len len/\dn 59 aN h' nb len xs):=by
 obtain⟨A,hA⟩:=Ar.ex;have hlen:=q.len;obtain⟨ke,jt⟩:=q.bound;refine af A (ar Wj.aw Wj.aZ) Tryz.func276 rfl (by kernel_rfl) ?_;cbv;refine gV (s:=aN) rfl (by omega) (by decide) (fun nb h1 eJ hle ho=>?_);cbv;refine aX.go (G:=Int) (fun z=>[(11,.v (.int .i64 z))]) (fun _=>[]) (fun n z h'=>∃i:Nat,aO z i/\n=len-i/\i<=len/\Le h h'/\dn 59 aN h' nb len (xs.take i)) len 0 ⟨?_,?_,?_⟩ ⟨0,⟨rfl⟩,by omega,by omega,hle,ho⟩ ?_
 ·cbv
 ·cbv
 ·cbv
 ·intro n z h' hI;cbv;obtain⟨i,hz,hn,hi,jF,nZ⟩:=hI;refine aL (fun hc=>?_) (fun hc=>?_)
  ·have aG:=hz.lt hc;clear hc;cbv;obtain⟨x,hx⟩:=aE (xs:=xs) (i:=i) (by omega);refine⟨⟨q.bF (by omega),hz.ix aG⟩,?_⟩;cbv;refine(q.mono (jF.t _)).load hx hz.eq (fun cs aF=>?_);obtain⟨v,rfl,hv⟩:=aF;obtain⟨b1,l1,c1,rfl⟩:=hv.form;cbv;refine(uF hv).mono (fun v2 h2 hR=>?_);obtain⟨cB,b2,Iz,rfl,Hn,-⟩:=hR;cbv;refine⟨⟨rfl,hz.ix aG⟩,?_⟩;cbv;refine(nZ.mono (cB.t _)).store (by decide) (i:=i) (by simp;omega) (by omega) (by omega) hz.eq rfl (x:=x) ⟨_,rfl,Hn⟩ (fun h3 hk ht yj=>?_);cbv;refine⟨len-(i+1),_,by omega,⟨?_,?_,?_⟩,i+1,hz.succ (A:=A) (by omega),rfl,by omega,?_,?_⟩
   ·cbv
   ·cbv
   ·cbv
   ·exact(jF.trans cB).cO (by simpa using eJ) hk
   ·rw[if_neg (by simp;omega)]at yj;rw[List.take_add_one,hx];exact yj
  ·have iu:=hz.ge hc;cbv;have:i=len:=by omega
   subst this;refine⟨jF,nb,eJ,rfl,?_⟩;rw[hlen,List.take_length]at nZ;rw[hlen];exact nZ
theorem nF{nm:ByteArray}{cols:List bS}{key:Int}{only:Bool}{L:List (List Row)}{h:ad}{sb b b4:Option Addr}{sn sc n c n4 c4:Nat}(qs:Sl 165 bp h (.slice sb sn sc) cols)(qL:Sl 34 (jl 59 aN) h (.slice b n c) L)(hn:L.flatten.length<=2^38):
 Ct 241 [.agg #[.string nm,.slice sb sn sc,.int .i64 key,.bool only,.slice b4 n4 c4],.slice b n c] h (fun v h'=>Le h h'/\∃b1 n1 k1 b2 n2 k2,v=.agg #[.string nm,.slice b1 n1 k1,.int .i64 key,.bool only,.slice b2 n2 k2]/\Sl 165 bp h' (.slice b1 n1 k1) cols/\Sl 59 aN h' (.slice b2 n2 k2) L.flatten):=by
 obtain⟨A,hA⟩:=Ar.ex;refine af A (ar WB.aw WB.aZ) Tryz.func241 rfl (by kernel_rfl) ?_;cbv;refine(Ab qs).mono (fun v h1 hR=>?_);obtain⟨l1,b1,k1,rfl,q1,-⟩:=hR;cbv;refine(Eo (qL.mono (l1.t _)) hn).mono (fun v h2 hR=>?_);obtain⟨l2,b2,n2,k2,rfl,q2⟩:=hR;cbv;refine(OL q2.sl).mono (fun v h3 hR=>?_);obtain⟨l3,nb,eJ,rfl,o3⟩:=hR;cbv;exact⟨(l1.trans l2).trans l3,_,_,_,_,_,_,rfl,q1.mono ((l2.trans l3).t _),o3.sl q2.sl.len⟩
theorem Mi(w:cR)(h:ad):Ct 303 [.agg #[.int .i64 w.k,.int .i64 w.n,.string w.s]] h (fun v h'=>Le h h'/\∃x:cR,v=.agg #[.int .i64 x.k,.int .i64 x.n,.string x.s]/\x=jd w):=by
 obtain⟨A,hA⟩:=Ar.ex;obtain⟨k,n,s⟩:=w;generalize e3:A .aD .eql k 3=u3;generalize e1:A .aD .eql k 1=u1;generalize e2:A .aD .eql k 2=u2;have f3:=e3;have f2:=e2;have f1:=e1;rw[av A]at e1 e2 e3;refine af A (ar VZ.aw VZ.aZ) Tryz.func303 rfl (by kernel_rfl) ?_;cbv;rw[f3];cases u3 with
 |true=>cbv;exact⟨Le.refl _,⟨k,0,s⟩,rfl,by simp only[jd,e3];rfl⟩
 |false=>
  cbv;rw[f1];cases u1 with
  |true=>cbv;exact⟨Le.refl _,⟨k,n,⟨#[]⟩⟩,rfl,by simp only[jd,e3,e1];rfl⟩
  |false=>
   cbv;rw[f2];cases u2 with
   |true=>cbv;exact⟨Le.refl _,⟨k,n,⟨#[]⟩⟩,rfl,by simp only[jd,e3,e1,e2];rfl⟩
   |false=>cbv;exact⟨Le.refl _,⟨k,0,⟨#[]⟩⟩,rfl,by simp only[jd,e3,e1,e2];rfl⟩
theorem Ac(w:cR)(h:ad):Ct 275 [.agg #[.int .i64 w.k,.int .i64 w.n,.string w.s]] h (fun v h'=>Le h h'/\∃z,v=.int .i64 z/\z=cC w):=by
 obtain⟨A,hA⟩:=Ar.ex;obtain⟨k,n,s⟩:=w;generalize eb:jd ⟨k,n,s⟩=bv;obtain⟨k',n',s'⟩:=bv;generalize e1:A .aD .lss k 0=u1;generalize e2:A .aD .gtr k 3=u2;generalize e3:A .not (A .and (A .aD .eql k k') (A .and (A .aD .eql n n') (A .and (A .jm .eql s s') true)))=u3;generalize e4:A .aD .eql k 1=u4;generalize e5:A .aD .neq n 0=u5;generalize e6:A .aD .neq n 1=u6;generalize e7:A .aD .gtr (A .gD s) 60=u7;have f1:=e1;have f2:=e2;have f3:=e3;have f4:=e4;have f5:=e5;have f6:=e6;have f7:=e7;rw[bt A]at e1;rw[bB A]at e2;rw[av A]at e4;rw[aC A]at e5 e6;rw[bB A,hA.gD]at e7;rw[hA.not,hA.and,av A,av A,bL A]at e3;have key:∀z,z=(if(u1||u2)=true then(3:Int)else if(u3||(u4&&u5&&u6))=true then 1 else if u7=true then 5 else 0)->z=cC ⟨k,n,s⟩:=fun z hz=>by
  rw[hz,<-e1,<-e2,<-e3,<-e4,<-e5,<-e6,<-e7];simp only[cC,eb,mj,Bool.and_true]
 refine af A (ar Wl.aw Wl.aZ) Tryz.func275 rfl (by kernel_rfl) ?_;cbv;rw[f1];cases u1 with
 |true=>cbv;exact⟨Le.refl _,3,rfl,key 3 rfl⟩
 |false=>
  cbv;rw[f2];cases u2 with
  |true=>cbv;exact⟨Le.refl _,3,rfl,key 3 rfl⟩
  |false=>
   cbv;refine(Mi ⟨k,n,s⟩ h).mono (fun v h1 hR=>?_);obtain⟨l1,x,rfl,ex⟩:=hR;rw[eb]at ex;subst ex;cbv;rw[f3];cases u3 with
   |true=>cbv;exact⟨l1,1,rfl,key 1 rfl⟩
   |false=>
    cbv;rw[f4];cases u4 with
    |false=>
     cbv;rw[f7];cases u7 with
     |true=>cbv;exact⟨l1,5,rfl,key 5 rfl⟩
     |false=>cbv;exact⟨l1,0,rfl,key 0 rfl⟩
    |true=>
     cbv;rw[f5];cases u5 with
     |false=>
      cbv;rw[f7];cases u7 with
      |true=>cbv;exact⟨l1,5,rfl,key 5 rfl⟩
      |false=>cbv;exact⟨l1,0,rfl,key 0 rfl⟩
     |true=>
      cbv;rw[f6];cases u6 with
      |true=>cbv;exact⟨l1,1,rfl,key 1 rfl⟩
      |false=>
       cbv;rw[f7];cases u7 with
       |true=>cbv;exact⟨l1,5,rfl,key 5 rfl⟩
       |false=>cbv;exact⟨l1,0,rfl,key 0 rfl⟩
theorem EG.at_{l:List Int}{z:Int}{t:Bool}(q:EG l z t):aO z (dm l)/\t=kE l:=by obtain⟨i,h1,h2,h3⟩:=q.out;subst h2;exact⟨h1,h3⟩
def bG(c:bS)(v:cR):Int:=if decide (cC v≠0)=true then cC v else if(decide (v.k=0)&& !c.null)=true then 13 else if(decide (v.k≠0)&&decide (v.k≠c.kind))=true then 3 else 0
def bM(cols:List bS)(r:Row):Int:=if decide ((r.length:Int)≠(cols.length:Int))=true then 1 else dh (List.zipWith bG cols r)
def cy(t:cA)(k:cR):List Int:=t.rows.map fun r=>cg (keyOf t.S.key r) k
def sU(t:cA)(i:Nat)(r:Row):cA:=⟨t.S,t.rows.take i++[r]++t.rows.drop i⟩
def AM(t:cA)(i:Nat):cA:=⟨t.S,t.rows.take i++t.rows.drop (i+1)⟩
def bI(t:cA)(r:Row):cA×Int:=
 if decide (bM t.S.cols r≠0)=true then(t,bM t.S.cols r)
 else if kE (cy t (keyOf t.S.key r))=true then(t,7)
 else if decide ((t.rows.length:Int)>=200)=true then(t,4)
 else(sU t (dm (cy t (keyOf t.S.key r))) r,0)
def cu(t:cA)(k:cR):cA×Row×Int:=
 if kE (cy t k)=true then(AM t (dm (cy t k)),(t.rows[dm (cy t k)]?).getD [],0)else(t,[],2)
theorem LL{nm:ByteArray}{cols:List bS}{key:Int}{only:Bool}{r:Row}{h:ad}{sb b:Option Addr}{sn sc n c:Nat}(qs:Sl 165 bp h (.slice sb sn sc) cols)(q:Sl 61 aY h (.slice b n c) r):
 Ct 240 [.agg #[.string nm,.slice sb sn sc,.int .i64 key,.bool only],.slice b n c] h (fun v h'=>Le h h'/\∃z,v=.int .i64 z/\z=bM cols r):=by
 obtain⟨A,hA⟩:=Ar.ex;have hlen:=q.len;have hls:=qs.len;obtain⟨ke,jt⟩:=q.bound;generalize e1:A .aD .neq (A .nat n) (A .nat sn)=u1;have f1:=e1;rw[aC A,hA.nat]at e1;simp only[Int.ofNat_eq_natCast]at e1;rw[hlen,hls]at e1;have hsn0:u1=false->n=sn:=fun e=>by rw[e]at e1;have:=Decidable.not_not.1 (of_decide_eq_false e1);omega
 refine af A (ar WC.aw WC.aZ) Tryz.func240 rfl (by kernel_rfl) ?_;cbv;rw[f1];cases u1 with
 |true=>cbv;exact⟨Le.refl _,1,rfl,by simp only[bM,e1];rfl⟩
 |false=>
  have EN:=hsn0 rfl;cbv;refine aX.go (G:=Int) (fun z=>[(17,.v (.int .i64 z))]) (fun _=>[(2,[.string nm,.slice sb sn sc,.int .i64 key,.bool only])])
   (fun k z h'=>∃i:Nat,aO z i/\k=n-i/\i<=n/\Le h h'/\∀j,j<i->∀y,(List.zipWith bG cols r)[j]? =some y->y=0) n 0 ⟨?_,?_,?_⟩ ⟨0,⟨rfl⟩,by omega,by omega,Le.refl _,fun j hj=>(by omega)⟩ ?_
  ·cbv
  ·cbv
  ·cbv
  ·intro k z h' hI;cbv;obtain⟨i,hz,hk,hi,hle,aJ⟩:=hI;refine aL (fun hc=>?_) (fun hc=>?_)
   ·have aG:=hz.lt hc;clear hc;cbv;obtain⟨x,hx⟩:=aE (xs:=r) (i:=i) (by omega);obtain⟨y,hy⟩:=aE (xs:=cols) (i:=i) (by omega);have Tn:(List.zipWith bG cols r)[i]? =some (bG y x):=by rw[List.getElem?_zipWith,hx,hy]
    have Cv:(List.zipWith bG cols r).drop i=bG y x::(List.zipWith bG cols r).drop (i+1):=by have hl:=(List.getElem?_eq_some_iff.1 Tn);rw[List.drop_eq_getElem_cons hl.1,hl.2]
    have hf:bM cols r=dh ((List.zipWith bG cols r).drop i):=by rw[<-jH aJ];simp only[bM,e1];rfl
    have bad:∀ {hh:ad} (w:Int),Le h hh->w=bG y x->w≠0->Le h hh/\∃z,Value.int .i64 w=.int .i64 z/\z=bM cols r:=fun w l ew hw=>by
     refine⟨l,w,rfl,?_⟩;rw[hf,Cv,<-ew];simp only[dh];rw[if_pos (decide_eq_true hw)]
    have jZ:∀(h2:ad),Le h h2->bG y x=0->∃j:Nat,aO (A .bu .add .i64 z 1) j/\n-(i+1)=n-j/\j<=n/\Le h h2/\∀j',j'<j->∀w,(List.zipWith bG cols r)[j']? =some w->w=0:=fun h2 l e0=>
     ⟨i+1,hz.succ (A:=A) (by omega),rfl,by omega,l,fun j hj w hw=>by
      rcases Nat.lt_or_ge j i with ji|ji
      ·exact aJ j ji w hw
      ·have:j=i:=by omega
       subst this;rw[Tn]at hw;cases hw;exact e0⟩
    refine⟨⟨q.bF (by omega),hz.ix aG⟩,?_⟩;cbv;refine(q.mono (hle.t _)).load hx hz.eq (fun cs aF=>?_);have aF:cs=[.int .i64 x.k,.int .i64 x.n,.string x.s]:=aF;subst aF;cbv;refine⟨⟨qs.bF (by omega),hz.ix (by omega)⟩,?_⟩;cbv;refine(qs.mono (hle.t _)).load hy hz.eq (fun cs aF=>?_);have aF:cs=[.string y.name,.int .i64 y.kind,.bool y.null]:=aF;subst aF;cbv;refine(Ac x h').mono (fun v h2 hR=>?_);obtain⟨l2,ev,rfl,hev⟩:=hR;have Kv:=hle.trans l2;obtain⟨nm2,kd,nl⟩:=y;generalize g1:A .aD .neq ev 0=w1;generalize g2:A .aD .eql x.k 0=w2;generalize g3:A .aD .neq x.k 0=w3;generalize g4:A .aD .neq x.k kd=w4;generalize g5:A .not nl=w5;have k1:=g1;have k2:=g2;have k3:=g3;have k4:=g4;have k5:=g5;rw[aC A]at g1 g3 g4;rw[av A]at g2;rw[hA.not]at g5;have key:bG ⟨nm2,kd,nl⟩ x=if w1=true then ev else if(w2&&w5)=true then 13 else if(w3&&w4)=true then 3 else 0:=by rw[<-g1,<-g2,<-g3,<-g4,<-g5,hev];rfl
    have qY:w1=true->ev≠0:=fun e=>by rw[e]at g1;exact of_decide_eq_true g1
    cbv;rw[k1];cases w1 with
    |true=>cbv;exact bad ev Kv key.symm (qY rfl)
    |false=>
     cbv;rw[k2];cases w2 with
     |true=>
      have Tv:w3=false:=by rw[<-g3];have:=of_decide_eq_true g2;exact decide_eq_false (by omega)
      subst Tv;cbv;rw[k5];cases w5 with
      |true=>cbv;exact bad 13 Kv key.symm (by omega)
      |false=>
       have g:=jZ h2 Kv key;cbv;rw[k3];cbv;refine⟨n-(i+1),_,by omega,⟨?_,?_,?_⟩,g⟩
       ·cbv
       ·cbv
       ·cbv
     |false=>
      cbv;rw[k3];cases w3 with
      |true=>
       cbv;rw[k4];cases w4 with
       |true=>cbv;exact bad 3 Kv key.symm (by omega)
       |false=>
        have g:=jZ h2 Kv key;cbv;refine⟨n-(i+1),_,by omega,⟨?_,?_,?_⟩,g⟩
        ·cbv
        ·cbv
        ·cbv
      |false=>
       have g:=jZ h2 Kv key;cbv;refine⟨n-(i+1),_,by omega,⟨?_,?_,?_⟩,g⟩
       ·cbv
       ·cbv
       ·cbv
   ·have iu:=hz.ge hc;have hf:=jH aJ;rw[List.drop_eq_nil_of_le (by rw[List.length_zipWith];omega)]at hf;cbv;refine⟨hle,0,rfl,?_⟩;simp only[bM,e1,hf];rfl
theorem Ot{r:Row}{h:ad}{b:Option Addr}{n c:Nat}(q:Sl 61 aY h (.slice b n c) r):aN.R h [.slice b n c] r:=⟨_,rfl,q⟩
theorem jC{L:List Row}{h:ad}{b:Option Addr}{n c:Nat}(q:Sl 59 aN h (.slice b n c) L):(jl 59 aN).R h [.slice b n c] L:=⟨_,rfl,q⟩
theorem MU{nm:ByteArray}{cols:List bS}{key:Int}{only:Bool}{rows:List Row}{r:Row}{h:ad}{sb b4 b:Option Addr}{sn sc n4 c4 n c:Nat}(qs:Sl 165 bp h (.slice sb sn sc) cols)(q4:Sl 59 aN h (.slice b4 n4 c4) rows)(q:Sl 61 aY h (.slice b n c) r)(hn:n4<=2^37):
 Ct 157 [.agg #[.string nm,.slice sb sn sc,.int .i64 key,.bool only,.slice b4 n4 c4],.slice b n c] h (fun v h'=>Le h h'/\∃b1 n1 k1 b2 n2 k2 e T,v=.tuple #[.agg #[.string nm,.slice b1 n1 k1,.int .i64 key,.bool only,.slice b2 n2 k2],.int .i64 e]/\
  Sl 165 bp h' (.slice b1 n1 k1) cols/\Sl 59 aN h' (.slice b2 n2 k2) T/\(⟨⟨⟨nm,cols,key,only⟩,T⟩,e⟩:cA×Int)=bI ⟨⟨nm,cols,key,only⟩,rows⟩ r):=by
 obtain⟨A,hA⟩:=Ar.ex;have h4:=q4.len;refine af A (ar Xu.aw Xu.aZ) Tryz.func157 rfl (by kernel_rfl) ?_;cbv;refine(LL (nm:=nm) (key:=key) (only:=only) qs q).mono (fun v h1 hR=>?_);obtain⟨l1,z,rfl,ez⟩:=hR;have qV:bI ⟨⟨nm,cols,key,only⟩,rows⟩ r=if decide (z≠0)=true then(⟨⟨nm,cols,key,only⟩,rows⟩,z)else if kE (cy ⟨⟨nm,cols,key,only⟩,rows⟩ (keyOf key r))=true then(⟨⟨nm,cols,key,only⟩,rows⟩,7)
  else if decide ((rows.length:Int)>=200)=true then(⟨⟨nm,cols,key,only⟩,rows⟩,4)else(sU ⟨⟨nm,cols,key,only⟩,rows⟩ (dm (cy ⟨⟨nm,cols,key,only⟩,rows⟩ (keyOf key r))) r,0):=by rw[ez];rfl
 generalize g1:A .aD .neq z 0=w1;have k1:=g1;rw[aC A]at g1;rw[g1]at qV;have all:([rows]:List (List Row)).flatten=rows:=by simp
 cbv;rw[k1];cases w1 with
 |true=>
  cbv;intro nb h2 eJ e2;have l2:Le h1 h2:=by rw[e2];exact Le.set eJ
  have g2:=(congrFun e2 nb).trans ah;have fO:=l1.trans l2;cbv;refine(nF (qs.mono (fO.t _)) (bX (s:=jl 59 aN) g2 (jC (q4.mono (fO.t _)))) (by rw[all];omega)).mono (fun v h3 hR=>?_);obtain⟨l3,b1,n1,k1,b2,n2,k2,rfl,r1,r2⟩:=hR;rw[all]at r2;cbv;exact⟨fO.trans l3,_,_,_,_,_,_,z,rows,rfl,r1,r2,qV.symm⟩
 |false=>
  cbv;refine(GU (q.mono (l1.t _))).mono (fun v h2 hR=>?_);obtain⟨l2,kr,rfl,ekr⟩:=hR;have fO:=l1.trans l2;cbv;refine(CG (q4.mono (fO.t _)) kr).mono (fun v h3 hR=>?_);obtain⟨l3,zi,t,rfl,hb⟩:=hR;have Tb:=fO.trans l3;obtain⟨nf,ht⟩:=hb.at_;rw[<-ekr]at qV;have ht:t=kE (cy ⟨⟨nm,cols,key,only⟩,rows⟩ kr):=ht;have nf:aO zi (dm (cy ⟨⟨nm,cols,key,only⟩,rows⟩ kr)):=nf;have Ue:dm (cy ⟨⟨nm,cols,key,only⟩,rows⟩ kr)<=n4:=by have:=Rb (cy ⟨⟨nm,cols,key,only⟩,rows⟩ kr);rw[h4];simpa[cy]using this
  rw[<-ht]at qV;generalize dm (cy ⟨⟨nm,cols,key,only⟩,rows⟩ kr)=i at *;generalize g2:A .aD .geq (A .nat n4) 200=w2;have k2:=g2;rw[bQ A,hA.nat]at g2;simp only[Int.ofNat_eq_natCast]at g2;rw[h4]at g2;rw[g2]at qV;cases t with
  |true=>
   cbv;intro nb h4 eJ e4;have l4:Le h3 h4:=by rw[e4];exact Le.set eJ
   have g4:=(congrFun e4 nb).trans ah;have mZ:=Tb.trans l4;cbv;refine(nF (qs.mono (mZ.t _)) (bX (s:=jl 59 aN) g4 (jC (q4.mono (mZ.t _)))) (by rw[all];omega)).mono (fun v h5 hR=>?_);obtain⟨l5,b1,n1,k1,b2,n2,k2,rfl,r1,r2⟩:=hR;rw[all]at r2;cbv;exact⟨mZ.trans l5,_,_,_,_,_,_,7,rows,rfl,r1,r2,qV.symm⟩
  |false=>
   cbv;rw[k2];cases w2 with
   |true=>
    cbv;intro nb h4 eJ e4;have l4:Le h3 h4:=by rw[e4];exact Le.set eJ
    have g4:=(congrFun e4 nb).trans ah;have mZ:=Tb.trans l4;cbv;refine(nF (qs.mono (mZ.t _)) (bX (s:=jl 59 aN) g4 (jC (q4.mono (mZ.t _)))) (by rw[all];omega)).mono (fun v h5 hR=>?_);obtain⟨l5,b1,n1,k1,b2,n2,k2,rfl,r1,r2⟩:=hR;rw[all]at r2;cbv;exact⟨mZ.trans l5,_,_,_,_,_,_,4,rows,rfl,r1,r2,qV.symm⟩
   |false=>
    have vp:=q4.bound;have cT:0<=zi/\zi<=(c4:Int)/\0<=zi/\zi<=zi:=by have:=nf.eq;omega
    have oV:0<=zi/\zi<=(n4:Int):=by have:=nf.eq;omega
    have IX:([rows.take i,[r],rows.drop i]:List (List Row)).flatten=rows.take i++[r]++rows.drop i:=by simp
    have yp:(rows.take i++[r]++rows.drop i).length<=2^38:=by simp;omega
    cbv;refine⟨cT,?_⟩;cbv;refine⟨oV,?_⟩;cbv;intro nb h4 eJ e4;have l4:Le h3 h4:=by rw[e4];exact Le.set eJ
    have g4:=(congrFun e4 nb).trans ah;have mZ:=Tb.trans l4;cbv;intro tJ h5 ng e5;have l5:Le h4 h5:=by rw[e5];exact Le.set ng
    have g5:=(congrFun e5 tJ).trans ah;have GM:=mZ.trans l5;have SE:=q4.mono (GM.t _);have p1:=jC (SE.vK (A:=A) (s:=aN) (z:=zi) Ue (dI (A:=A) nf) (dI (A:=A) nf));have p2:=jC (bX (s:=aN) (l5 _ _ g4) (Ot (q.mono (GM.t _))));have p3:=jC (SE.rK (A:=A) (s:=aN) nf Ue (dZ (A:=A) nf) (dZ (A:=A) nf));cbv;refine(nF (qs.mono (GM.t _)) (sP (s:=jl 59 aN) rfl g5 p1 p2 p3) (by rw[IX];exact yp)).mono (fun v h6 hR=>?_);obtain⟨l6,b1,n1,k1,b2,n2,k2,rfl,r1,r2⟩:=hR;rw[IX]at r2;cbv;exact⟨GM.trans l6,_,_,_,_,_,_,0,_,rfl,r1,r2,qV.symm⟩
theorem Ob{nm:ByteArray}{cols:List bS}{key:Int}{only:Bool}{rows:List Row}{h:ad}{sb b4:Option Addr}{sn sc n4 c4:Nat}(qs:Sl 165 bp h (.slice sb sn sc) cols)(q4:Sl 59 aN h (.slice b4 n4 c4) rows)(hn:n4<=2^37)(kv:cR):
 Ct 158 [.agg #[.string nm,.slice sb sn sc,.int .i64 key,.bool only,.slice b4 n4 c4],.agg #[.int .i64 kv.k,.int .i64 kv.n,.string kv.s]] h (fun v h'=>Le h h'/\∃b1 n1 k1 b2 n2 k2 b3 n3 k3 e T R,v=.tuple #[.agg #[.string nm,.slice b1 n1 k1,.int .i64 key,.bool only,.slice b2 n2 k2],.slice b3 n3 k3,.int .i64 e]/\
  Sl 165 bp h' (.slice b1 n1 k1) cols/\Sl 59 aN h' (.slice b2 n2 k2) T/\Sl 61 aY h' (.slice b3 n3 k3) R/\(⟨⟨⟨nm,cols,key,only⟩,T⟩,R,e⟩:cA×Row×Int)=cu ⟨⟨nm,cols,key,only⟩,rows⟩ kv):=by
 obtain⟨A,hA⟩:=Ar.ex;have h4:=q4.len;have all:([rows]:List (List Row)).flatten=rows:=by simp
 refine af A (ar Xt.aw Xt.aZ) Tryz.func158 rfl (by kernel_rfl) ?_;cbv;refine(CG q4 kv).mono (fun v h1 hR=>?_);obtain⟨l1,zi,t,rfl,hb⟩:=hR;obtain⟨nf,ht⟩:=hb.at_;have qV:cu ⟨⟨nm,cols,key,only⟩,rows⟩ kv=if kE (cy ⟨⟨nm,cols,key,only⟩,rows⟩ kv)=true then(AM ⟨⟨nm,cols,key,only⟩,rows⟩ (dm (cy ⟨⟨nm,cols,key,only⟩,rows⟩ kv)),(rows[dm (cy ⟨⟨nm,cols,key,only⟩,rows⟩ kv)]?).getD [],0)else(⟨⟨nm,cols,key,only⟩,rows⟩,[],2):=rfl
 have ht:t=kE (cy ⟨⟨nm,cols,key,only⟩,rows⟩ kv):=ht;have nf:aO zi (dm (cy ⟨⟨nm,cols,key,only⟩,rows⟩ kv)):=nf;have aG:t=true->dm (cy ⟨⟨nm,cols,key,only⟩,rows⟩ kv)<n4:=fun e=>by
  have:=me (ht.symm.trans e);rw[h4];simpa[cy]using this
 rw[<-ht]at qV;generalize dm (cy ⟨⟨nm,cols,key,only⟩,rows⟩ kv)=i at *;cases t with
 |false=>
  have vi:A .not false=true:=by rw[hA.not];rfl
  cbv;rw[vi];cbv;intro nb h4 eJ e4;have l4:Le h1 h4:=by rw[e4];exact Le.set eJ
  have g4:=(congrFun e4 nb).trans ah;have mZ:=l1.trans l4;cbv;refine(nF (qs.mono (mZ.t _)) (bX (s:=jl 59 aN) g4 (jC (q4.mono (mZ.t _)))) (by rw[all];omega)).mono (fun v h5 hR=>?_);obtain⟨l5,b1,n1,k1,b2,n2,k2,rfl,r1,r2⟩:=hR;rw[all]at r2;cbv;exact⟨mZ.trans l5,_,_,_,_,_,_,_,_,_,2,rows,[],rfl,r1,r2,Sl.nil,qV.symm⟩
 |true=>
  have aG:=aG rfl;have vi:A .not true=false:=by rw[hA.not];rfl
  have vp:=q4.bound;have mC:=nf.succ (A:=A) (by omega);have cT:0<=zi/\zi<=(c4:Int)/\0<=zi/\zi<=zi:=by have:=nf.eq;omega
  have oV:0<=A .bu .add .i64 zi 1/\A .bu .add .i64 zi 1<=(n4:Int):=by have:=mC.eq;omega
  have IX:([rows.take i,rows.drop (i+1)]:List (List Row)).flatten=rows.take i++rows.drop (i+1):=by simp
  have yp:(rows.take i++rows.drop (i+1)).length<=2^38:=by simp;omega
  obtain⟨x,hx⟩:=aE (xs:=rows) (i:=i) (by omega);have HJ:b4.isSome=true/\0<=zi/\zi<(n4:Int):=⟨q4.bF (by omega),nf.ix aG⟩;cbv;rw[vi];cbv;refine⟨cT,?_⟩;cbv;refine⟨oV,?_⟩;cbv;refine⟨HJ,?_⟩;cbv;refine(q4.mono (l1.t _)).S4 hx nf.eq (fun cs aF again=>?_);obtain⟨vx,rfl,hvx⟩:=aF;obtain⟨bx,lx,cx,rfl⟩:=hvx.form;cbv;intro tJ h5 ng e5;have l5:Le h1 h5:=by rw[e5];exact Le.set ng
  have g5:=(congrFun e5 tJ).trans ah;have GM:=l1.trans l5;have SE:=q4.mono (GM.t _);have p1:=jC (SE.vK (A:=A) (s:=aN) (z:=zi) (Nat.le_of_lt aG) (dI (A:=A) nf) (dI (A:=A) nf));have p3:=jC (SE.rK (A:=A) (s:=aN) mC aG (dZ (A:=A) mC) (dZ (A:=A) mC));cbv;refine again _ _ l5 ?_;cbv;refine⟨⟨_,rfl,rfl⟩,?_⟩;cbv;refine(nF (qs.mono (GM.t _)) (wW (s:=jl 59 aN) rfl g5 p1 p3) (by rw[IX];exact yp)).mono (fun v h6 hR=>?_);obtain⟨l6,b1,n1,k1,b2,n2,k2,rfl,r1,r2⟩:=hR;rw[IX]at r2;cbv;refine again _ _ (l5.trans l6) ?_;cbv;refine⟨⟨_,rfl,rfl⟩,?_⟩;cbv;refine(uF (hvx.mono ((l5.trans l6).t _))).mono (fun v h7 hR=>?_);obtain⟨l7,b3,k3,rfl,r3,-⟩:=hR;cbv;rw[hx]at qV;exact⟨(GM.trans l6).trans l7,_,_,_,_,_,_,_,_,_,0,_,_,rfl,r1.mono (l7.t _),r2.mono (l7.t _),r3,qV.symm⟩
theorem KO{α:Type}{xs:List α}{p:α->Bool}{z:Int}(q:pa xs p z):(z=-1/\xs.findIdx? p=none)\/∃i x,aO z i/\xs.findIdx? p=some i/\xs[i]? =some x/\p x=true:=by
 rcases q.out with ⟨h1,h2⟩ | ⟨i,x,h1,h2,h3,h4⟩
 ·exact .inl ⟨h1,List.findIdx?_eq_none_iff.2 h2⟩
 ·refine .inr ⟨i,x,h1,?_,h2,h3⟩;obtain⟨Cs,tX⟩:=List.getElem?_eq_some_iff.1 h2;rw[List.findIdx?_eq_some_iff_getElem];refine⟨Cs,by rw[tX];exact h3,fun j hj=>?_⟩;have re:j<xs.length:=by omega
  have:=h4 j hj xs[j] (by simp[re]);simp[this]
def B0(a b:bK):Bool:=decide (a.s=b.s)&&(decide (a.table=b.table)&&decide (a.x=b.x))
def lq(H:List bK)(hd:bK):Option Nat:=H.findIdx? (jT hd)
def jv(H:List bK)(hd:bK):Bool:=match lq H hd with
 |some i=>(H[i]?).any fun o=>o.x||B0 o hd
 |none=>false
def bq(H:List bK)(hd:bK):Bool:=jv H hd|| !(H.any (fC hd))
def bR(H:List bK)(hd:bK):List bK:=
 if bq H hd=true then if jv H hd=true then H else match lq H hd with
  |some i=>H.set i hd
  |none=>H++[hd]
 else H
def cN(H W:List bK)(hd:bK):List bK:=if bq H hd=true then bH W hd.s else bH W hd.s++[hd]
theorem ra{L:List bK}{h:ad}{b:Option Addr}{n c:Nat}(q:Sl 205 bA h (.slice b n c) L):(jl 205 bA).R h [.slice b n c] L:=⟨_,rfl,q⟩
theorem LK{H W:List bK}{h:ad}{b1 b2:Option Addr}{n1 c1 n2 c2:Nat}(q1:Sl 205 bA h (.slice b1 n1 c1) H)(q2:Sl 205 bA h (.slice b2 n2 c2) W)(nh:n1<=2^38)(mK:n2<=2^38)(s:Int):
 Ct 130 [.agg #[.slice b1 n1 c1,.slice b2 n2 c2],.int .i64 s] h (fun v h'=>Le h h'/\∃b1 n1 c1 b2 n2 c2,v=.agg #[.slice b1 n1 c1,.slice b2 n2 c2]/\Sl 205 bA h' (.slice b1 n1 c1) (bH H s)/\Sl 205 bA h' (.slice b2 n2 c2) (bH W s)):=by
 obtain⟨A,hA⟩:=Ar.ex;refine af A (ar Xy.aw Xy.aZ) Tryz.func130 rfl (by kernel_rfl) ?_;cbv;refine(eS q1 nh s).mono (fun v h1 hR=>?_);obtain⟨l1,b1',n1',NV,rfl,r1⟩:=hR;cbv;refine(eS (q2.mono (l1.t _)) mK s).mono (fun v h2 hR=>?_);obtain⟨l2,b2',n2',c2',rfl,r2⟩:=hR;cbv;exact⟨l1.trans l2,_,_,_,_,_,_,rfl,r1.sl.mono (l2.t _),r2.sl⟩
theorem Rh{H W:List bK}{h:ad}{b1 b2:Option Addr}{n1 c1 n2 c2:Nat}(q1:Sl 205 bA h (.slice b1 n1 c1) H)(q2:Sl 205 bA h (.slice b2 n2 c2) W)(nh:n1<=2^37)(mK:n2<=2^37)(hd:bK):
 Ct 281 [.agg #[.slice b1 n1 c1,.slice b2 n2 c2],.agg #[.int .i64 hd.s,.string hd.table,.bool hd.x]] h (fun v h'=>Le h h'/\∃b1 n1 c1 b2 n2 c2 t,v=.tuple #[.agg #[.slice b1 n1 c1,.slice b2 n2 c2],.bool t]/\Sl 205 bA h' (.slice b1 n1 c1) (bR H hd)/\Sl 205 bA h' (.slice b2 n2 c2) (cN H W hd)/\t=bq H hd):=by
 obtain⟨A,hA⟩:=Ar.ex;obtain⟨hs,ht,hx⟩:=hd;refine af A (ar Wc.aw Wc.aZ) Tryz.func281 rfl (by kernel_rfl) ?_;cbv;refine(Kq q1 ⟨hs,ht,hx⟩).mono (fun v h1 hR=>?_);obtain⟨l1,z,rfl,hz⟩:=hR;have vi:A .not true=false:=by rw[hA.not];rfl
 have Cr:A .not false=true:=by rw[hA.not];rfl
 rcases(KO hz)with ⟨rfl,hf⟩ | ⟨i,o,mC,hf,ho,hp⟩
 ·have iu:A .aD .geq (-1) 0=false:=by rw[bQ A];rfl
  have kH:jv H ⟨hs,ht,hx⟩=false:=by unfold jv lq;rw[hf]
  cbv;rw[iu];cbv;refine(rL (q1.mono (l1.t _)) ⟨hs,ht,hx⟩).mono (fun v h2 hR=>?_);obtain⟨l2,tc,rfl,etc⟩:=hR;have fO:=l1.trans l2;have kF:bq H ⟨hs,ht,hx⟩= !tc:=by unfold bq;rw[kH,etc];rfl
  cases tc with
  |true=>
   have jU:bq H ⟨hs,ht,hx⟩=false:=kF;have tO:bR H ⟨hs,ht,hx⟩=H:=by unfold bR;rw[jU];rfl
   have tN:cN H W ⟨hs,ht,hx⟩=bH W hs++[⟨hs,ht,hx⟩]:=by unfold cN;rw[jU];rfl
   cbv;rw[vi];cbv;refine(iQ (q1.mono (fO.t _))).mono (fun v h3 hR=>?_);obtain⟨l3,bc,cc,rfl,nO⟩:=hR;cbv;refine(eS (q2.mono ((fO.trans l3).t _)) (by omega) hs).mono (fun v h4 hR=>?_);obtain⟨l4,bw,nw,cw,rfl,Ea⟩:=hR;have mZ:=(fO.trans l3).trans l4;have uf:=nO.mono (l4.t _);cbv;rw[Cr];cbv;intro tJ h5 ng e5;have l5:Le h4 h5:=by rw[e5];exact Le.set ng
   have g5:=(congrFun e5 tJ).trans ah;cbv;intro OS h6 Bn e6;have l6:Le h5 h6:=by rw[e6];exact Le.set Bn
   have g6:=(congrFun e6 OS).trans ah;have Ak:([bH W hs,[⟨hs,ht,hx⟩]]:List (List bK)).flatten=bH W hs++[⟨hs,ht,hx⟩]:=by simp
   have rF:(bH W hs++[(⟨hs,ht,hx⟩:bK)]).length<=2^38:=by have h1:(bH W hs).length<=W.length:=List.length_filter_le _ _;have h2:=q2.len;simp only[List.length_append,List.length_singleton];omega
   cbv;refine(ri (wW (s:=jl 205 bA) rfl g6 (ra (Ea.sl.mono ((l5.trans l6).t _))) (ra (bX (s:=bA) (l6 _ _ g5) (x:=⟨hs,ht,hx⟩) rfl))) (by rw[Ak];exact rF)).mono (fun v h7 hR=>?_);obtain⟨l7,b7,n7,c7,rfl,Cw⟩:=hR;rw[Ak]at Cw;have Ch:=(l5.trans l6).trans l7;cbv;exact⟨mZ.trans Ch,_,_,_,_,_,_,false,rfl,by rw[tO];exact uf.sl.mono (Ch.t _),by rw[tN];exact Cw.sl,jU.symm⟩
  |false=>
   have jU:bq H ⟨hs,ht,hx⟩=true:=kF;have tO:bR H ⟨hs,ht,hx⟩=H++[⟨hs,ht,hx⟩]:=by unfold bR;rw[jU,kH];unfold lq;rw[hf];rfl
   have tN:cN H W ⟨hs,ht,hx⟩=bH W hs:=by unfold cN;rw[jU];rfl
   cbv;rw[Cr];cbv;refine(iQ (q1.mono (fO.t _))).mono (fun v h3 hR=>?_);obtain⟨l3,bc,cc,rfl,nO⟩:=hR;cbv;refine(eS (q2.mono ((fO.trans l3).t _)) (by omega) hs).mono (fun v h4 hR=>?_);obtain⟨l4,bw,nw,cw,rfl,Ea⟩:=hR;have mZ:=(fO.trans l3).trans l4;have uf:=nO.mono (l4.t _);cbv;rw[vi];cbv;rw[iu];cbv;intro tJ h5 ng e5;have l5:Le h4 h5:=by rw[e5];exact Le.set ng
   have g5:=(congrFun e5 tJ).trans ah;cbv;intro OS h6 Bn e6;have l6:Le h5 h6:=by rw[e6];exact Le.set Bn
   have g6:=(congrFun e6 OS).trans ah;have Ak:([H,[⟨hs,ht,hx⟩]]:List (List bK)).flatten=H++[⟨hs,ht,hx⟩]:=by simp
   have rF:(H++[(⟨hs,ht,hx⟩:bK)]).length<=2^38:=by have h2:=q1.len;simp only[List.length_append,List.length_singleton];omega
   cbv;refine(ri (wW (s:=jl 205 bA) rfl g6 (ra (uf.sl.mono ((l5.trans l6).t _))) (ra (bX (s:=bA) (l6 _ _ g5) (x:=⟨hs,ht,hx⟩) rfl))) (by rw[Ak];exact rF)).mono (fun v h7 hR=>?_);obtain⟨l7,b7,n7,c7,rfl,Cw⟩:=hR;rw[Ak]at Cw;have Ch:=(l5.trans l6).trans l7;cbv;exact⟨mZ.trans Ch,_,_,_,_,_,_,true,rfl,by rw[tO];exact Cw.sl,by rw[tN];exact Ea.sl.mono (Ch.t _),jU.symm⟩
 ·have iu:A .aD .geq z 0=true:=by rw[bQ A];have:=mC.eq;exact decide_eq_true (by omega)
  have hi1:i<n1:=by have:=(List.getElem?_eq_some_iff.1 ho).1;rw[q1.len];exact this
  have cT:b1.isSome=true/\0<=z/\z<(n1:Int):=⟨q1.bF (by omega),mC.ix hi1⟩;have kH:jv H ⟨hs,ht,hx⟩=(o.x||B0 o ⟨hs,ht,hx⟩):=by unfold jv lq;rw[hf];simp only[ho];rfl
  obtain⟨os,ot,ox⟩:=o;cbv;rw[iu];cbv;refine⟨cT,?_⟩;cbv;refine(q1.mono (l1.t _)).fF ho mC.eq (o:=2) (m:=1) (by decide) (fun cs aF=>?_);have aF:cs=[.int .i64 os,.string ot,.bool ox]:=aF;subst aF;cases ox with
  |true=>
   have Tf:jv H ⟨hs,ht,hx⟩=true:=kH;have jU:bq H ⟨hs,ht,hx⟩=true:=by unfold bq;rw[Tf];rfl
   have tO:bR H ⟨hs,ht,hx⟩=H:=by unfold bR;rw[jU,Tf];rfl
   have tN:cN H W ⟨hs,ht,hx⟩=bH W hs:=by unfold cN;rw[jU];rfl
   cbv;refine(iQ (q1.mono (l1.t _))).mono (fun v h3 hR=>?_);obtain⟨l3,bc,cc,rfl,nO⟩:=hR;cbv;refine(eS (q2.mono ((l1.trans l3).t _)) (by omega) hs).mono (fun v h4 hR=>?_);obtain⟨l4,bw,nw,cw,rfl,Ea⟩:=hR;have mZ:=(l1.trans l3).trans l4;have uf:=nO.mono (l4.t _);cbv;rw[vi];cbv;exact⟨mZ,_,_,_,_,_,_,true,rfl,by rw[tO];exact uf.sl,by rw[tN];exact Ea.sl,jU.symm⟩
  |false=>
   cbv;refine⟨cT,?_⟩;cbv;refine(q1.mono (l1.t _)).load ho mC.eq (fun cs aF=>?_);have aF:cs=[.int .i64 os,.string ot,.bool false]:=aF;subst aF;generalize es:A .and (A .aD .eql os hs) (A .and (A .jm .eql ot ht) (A .and (A .yd .eql false hx) true))=us;have fs:=es;rw[hA.and,av A,bL A,hA.yd]at es;have kH2:jv H ⟨hs,ht,hx⟩=us:=by rw[kH,<-es];simp only[B0,Bool.false_or,Bool.and_true,yd];cases hx<;>rfl
   cbv;rw[fs];cases us with
   |true=>
    have Tf:=kH2;have jU:bq H ⟨hs,ht,hx⟩=true:=by unfold bq;rw[Tf];rfl
    have tO:bR H ⟨hs,ht,hx⟩=H:=by unfold bR;rw[jU,Tf];rfl
    have tN:cN H W ⟨hs,ht,hx⟩=bH W hs:=by unfold cN;rw[jU];rfl
    cbv;refine(iQ (q1.mono (l1.t _))).mono (fun v h3 hR=>?_);obtain⟨l3,bc,cc,rfl,nO⟩:=hR;cbv;refine(eS (q2.mono ((l1.trans l3).t _)) (by omega) hs).mono (fun v h4 hR=>?_);obtain⟨l4,bw,nw,cw,rfl,Ea⟩:=hR;have mZ:=(l1.trans l3).trans l4;have uf:=nO.mono (l4.t _);cbv;rw[vi];cbv;exact⟨mZ,_,_,_,_,_,_,true,rfl,by rw[tO];exact uf.sl,by rw[tN];exact Ea.sl,jU.symm⟩
   |false=>
    cbv;refine(rL (q1.mono (l1.t _)) ⟨hs,ht,hx⟩).mono (fun v h2 hR=>?_);obtain⟨l2,tc,rfl,etc⟩:=hR;have fO:=l1.trans l2;have kF:bq H ⟨hs,ht,hx⟩= !tc:=by unfold bq;rw[kH2,etc];rfl
    cases tc with
    |true=>
     have jU:bq H ⟨hs,ht,hx⟩=false:=kF;have tO:bR H ⟨hs,ht,hx⟩=H:=by unfold bR;rw[jU];rfl
     have tN:cN H W ⟨hs,ht,hx⟩=bH W hs++[⟨hs,ht,hx⟩]:=by unfold cN;rw[jU];rfl
     cbv;rw[vi];cbv;refine(iQ (q1.mono (fO.t _))).mono (fun v h3 hR=>?_);obtain⟨l3,bc,cc,rfl,nO⟩:=hR;cbv;refine(eS (q2.mono ((fO.trans l3).t _)) (by omega) hs).mono (fun v h4 hR=>?_);obtain⟨l4,bw,nw,cw,rfl,Ea⟩:=hR;have mZ:=(fO.trans l3).trans l4;have uf:=nO.mono (l4.t _);cbv;rw[Cr];cbv;intro tJ h5 ng e5;have l5:Le h4 h5:=by rw[e5];exact Le.set ng
     have g5:=(congrFun e5 tJ).trans ah;cbv;intro OS h6 Bn e6;have l6:Le h5 h6:=by rw[e6];exact Le.set Bn
     have g6:=(congrFun e6 OS).trans ah;have Ak:([bH W hs,[⟨hs,ht,hx⟩]]:List (List bK)).flatten=bH W hs++[⟨hs,ht,hx⟩]:=by simp
     have rF:(bH W hs++[(⟨hs,ht,hx⟩:bK)]).length<=2^38:=by have h1:(bH W hs).length<=W.length:=List.length_filter_le _ _;have h2:=q2.len;simp only[List.length_append,List.length_singleton];omega
     cbv;refine(ri (wW (s:=jl 205 bA) rfl g6 (ra (Ea.sl.mono ((l5.trans l6).t _))) (ra (bX (s:=bA) (l6 _ _ g5) (x:=⟨hs,ht,hx⟩) rfl))) (by rw[Ak];exact rF)).mono (fun v h7 hR=>?_);obtain⟨l7,b7,n7,c7,rfl,Cw⟩:=hR;rw[Ak]at Cw;have Ch:=(l5.trans l6).trans l7;cbv;exact⟨mZ.trans Ch,_,_,_,_,_,_,false,rfl,by rw[tO];exact uf.sl.mono (Ch.t _),by rw[tN];exact Cw.sl,jU.symm⟩
    |false=>
     have jU:bq H ⟨hs,ht,hx⟩=true:=kF;have tO:bR H ⟨hs,ht,hx⟩=H.set i ⟨hs,ht,hx⟩:=by unfold bR;rw[jU,kH2];unfold lq;rw[hf];rfl
     have tN:cN H W ⟨hs,ht,hx⟩=bH W hs:=by unfold cN;rw[jU];rfl
     cbv;rw[Cr];cbv;refine(iQ (q1.mono (fO.t _))).mono (fun v h3 hR=>?_);obtain⟨l3,bc,cc,rfl,nO⟩:=hR;cbv;refine(eS (q2.mono ((fO.trans l3).t _)) (by omega) hs).mono (fun v h4 hR=>?_);obtain⟨l4,bw,nw,cw,rfl,Ea⟩:=hR;have mZ:=(fO.trans l3).trans l4;have uf:=nO.mono (l4.t _);obtain⟨tJ,rfl,ng,hlc,oc⟩:=uf.own (by omega);have aG:i<H.length:=(List.getElem?_eq_some_iff.1 ho).1;have vo:n1<=cc:=(nO.sl).bound.2;have Qf:(some (⟨tJ,0,none⟩:Addr)).isSome=true/\0<=z/\z<(n1:Int):=⟨rfl,mC.ix hi1⟩;cbv;rw[vi];cbv;rw[iu];cbv;refine⟨Qf,?_⟩;cbv;refine oc.setAt (by decide) (i:=i) (by omega) mC.eq rfl (x:=⟨hs,ht,hx⟩) rfl (fun h5 k5 t5 o5=>?_);have l5:Le h h5:=mZ.cO (by simpa using fO.none ng) k5;have fR:h3 tJ≠none:=by obtain⟨lO,e1,-,-,o3⟩:=nO.own (by omega);cases e1;exact o3.has
     have lw:=(Ea.kp k5 (by simpa using fR) (t5 _ (by decide))).sl;cbv;exact⟨l5,_,_,_,_,_,_,true,rfl,by rw[tO];exact o5.sl (by rw[List.length_set];exact hlc),by rw[tN];exact lw,jU.symm⟩
end Go.S
