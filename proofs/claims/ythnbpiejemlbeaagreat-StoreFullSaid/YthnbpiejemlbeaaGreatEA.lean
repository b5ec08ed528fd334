import Derived.Test.YthnbpiejemlbeaaGreatDB
set_option linter.all false
set_option maxRecDepth 100000
namespace Go.S
open Go.Sx Go.Proofs
variable {only:Bool}{nm:ByteArray}{key z:Int}{L:List (List Row)}{o:List Row}{H xs:List bG}{cols:List iK}{c cap m n u:Nat}{b:Option Addr}{r:Row}{h:ab}{hd:bG}
theorem jz{len:Nat}(q:Sl 253 aO h (.slice b len cap) xs):
 Ct 102 [.slice b len cap] h (λv h'=>Le h h'/\∃d f,v=.slice d len f/\aU 253 aO h h' (.slice d len f) xs):=by
 refine an aQI Tryz.func102 λA k=>?_;cbv;refine aJ (λa=>?_) (λa=>?_)
 .rw[k.yP]at a;cbv;have m:b=none:=by cases b<;>simp at a |-
  subst m;have hl:len=0:=by
   rcases Nat.eq_zero_or_pos len with e|e
   .exact e
   have:=q.aQ e;cases this
  have:=q.len;have hx:xs=[]:=List.eq_nil_of_length_eq_zero (by omega);subst hx hl;exact⟨Le.refl _,none,0,rfl,aU.nil⟩
 cbv;intro r j C s;have l:Le h j:=by rw[s];exact Le.set C
 cbv;refine cI (q.mono (l.t _)) (by simp[aO]) rfl (by decide) (λn=>?_) (λt c p e1 o g i=>?_)
 .cbv;have:=q.len;have hx:xs=[]:=List.eq_nil_of_length_eq_zero (by omega);subst hx n;exact⟨l,_,_,rfl,aU.nil⟩
 cbv;exact⟨l.trans g,_,_,rfl,i.buf (l.none e1) q.len⟩
theorem ET{xs:List iK}{len:Nat}(q:Sl 202 bh h (.slice b len cap) xs):
 Ct 218 [.slice b len cap] h (λv h'=>Le h h'/\∃d f,v=.slice d len f/\aU 202 bh h h' (.slice d len f) xs):=by
 refine an aQt Tryz.func218 λA k=>?_;cbv;refine aJ (λa=>?_) (λa=>?_)
 .rw[k.yP]at a;cbv;have m:b=none:=by cases b<;>simp at a |-
  subst m;have hl:len=0:=by
   rcases Nat.eq_zero_or_pos len with e|e
   .exact e
   have:=q.aQ e;cases this
  have:=q.len;have hx:xs=[]:=List.eq_nil_of_length_eq_zero (by omega);subst hx hl;exact⟨Le.refl _,none,0,rfl,aU.nil⟩
 cbv;intro r j C s;have l:Le h j:=by rw[s];exact Le.set C
 cbv;refine cI (q.mono (l.t _)) (by simp[bh]) rfl (by decide) (λn=>?_) (λt c p e1 o g i=>?_)
 .cbv;have:=q.len;have hx:xs=[]:=List.eq_nil_of_length_eq_zero (by omega);subst hx n;exact⟨l,_,_,rfl,aU.nil⟩
 cbv;exact⟨l.trans g,_,_,rfl,i.buf (l.none e1) q.len⟩
theorem zA{xs:List gV}{len:Nat}(q:Sl 45 aS h (.slice b len cap) xs):
 Ct 114 [.slice b len cap] h (λv h'=>Le h h'/\∃d f,v=.slice d len f/\aU 45 aS h h' (.slice d len f) xs):=by
 refine an aQH Tryz.func114 λA k=>?_;cbv;refine aJ (λa=>?_) (λa=>?_)
 .rw[k.yP]at a;cbv;have m:b=none:=by cases b<;>simp at a |-
  subst m;have hl:len=0:=by
   rcases Nat.eq_zero_or_pos len with e|e
   .exact e
   have:=q.aQ e;cases this
  have:=q.len;have hx:xs=[]:=List.eq_nil_of_length_eq_zero (by omega);subst hx hl;exact⟨Le.refl _,none,0,rfl,aU.nil⟩
 cbv;intro r j C s;have l:Le h j:=by rw[s];exact Le.set C
 cbv;refine cI (q.mono (l.t _)) (by simp[aS]) rfl (by decide) (λn=>?_) (λt c p e1 o g i=>?_)
 .cbv;have:=q.len;have hx:xs=[]:=List.eq_nil_of_length_eq_zero (by omega);subst hx n;exact⟨l,_,_,rfl,aU.nil⟩
 cbv;exact⟨l.trans g,_,_,rfl,i.buf (l.none e1) q.len⟩
theorem PK{xs:List kJ}{len:Nat}(q:Sl 183 cF h (.slice b len cap) xs):
 Ct 220 [.slice b len cap] h (λv h'=>Le h h'/\∃d f,v=.slice d len f/\aU 183 cF h h' (.slice d len f) xs):=by
 refine an Qd Tryz.func220 λA k=>?_;cbv;refine aJ (λa=>?_) (λa=>?_)
 .rw[k.yP]at a;cbv;have m:b=none:=by cases b<;>simp at a |-
  subst m;have hl:len=0:=by
   rcases Nat.eq_zero_or_pos len with e|e
   .exact e
   have:=q.aQ e;cases this
  have:=q.len;have hx:xs=[]:=List.eq_nil_of_length_eq_zero (by omega);subst hx hl;exact⟨Le.refl _,none,0,rfl,aU.nil⟩
 cbv;intro r j C s;have l:Le h j:=by rw[s];exact Le.set C
 cbv;refine cI (q.mono (l.t _)) (by simp[cF]) rfl (by decide) (λn=>?_) (λt c p e1 o g i=>?_)
 .cbv;have:=q.len;have hx:xs=[]:=List.eq_nil_of_length_eq_zero (by omega);subst hx n;exact⟨l,_,_,rfl,aU.nil⟩
 cbv;exact⟨l.trans g,_,_,rfl,i.buf (l.none e1) q.len⟩
abbrev bG.v(h:bG):Value:=.agg #[.int .i64 h.s,.string h.table,.bool h.x]
def dm(a b:bG):Bool:=decide (a.s≠b.s)&&(decide (a.table=b.table)&&(a.x||b.x))
def bA(l:List bG)(s:Int):List bG:=l.filter λh=>decide (h.s≠s)
def gT(h o:bG):Bool:=decide (o.s=h.s)&&decide (o.table=h.table)
theorem Yl{s1:Int}{a:ByteArray}{x:Bool}(g:h n=some (.cells #[.int .i64 hd.s,.string hd.table,.bool hd.x] 253 (0,0))):
 Ct 360 [.agg #[.int .i64 s1,.string a,.bool x],.pointer (some ⟨n,0,none⟩)] h (λv h'=>Le h h'/\∃t,v=.bool t/\t=gT hd ⟨s1,a,x⟩):=by
 obtain⟨A,c⟩:=Ar.ex;have q:A .ay .eql s1 hd.s=decide (s1=hd.s):=by rw[aq A]
 have b:A .js .eql a hd.table=decide (a=hd.table):=by rw[dF A]
 refine bB cKU A Tryz.func360 ?_;cbv;rw[al A];refine ak g ?_;cbv;rw[q];cases e1:decide (s1=hd.s)with
 |true=>cbv;rw[al A];refine ak g ?_;cbv;rw[b];exact⟨Le.refl _,_,rfl,by simp[gT,e1]⟩
 |false=>cbv;exact⟨Le.refl _,_,rfl,by simp[gT,e1]⟩
theorem Da{a b:bG}:
 Ct 318 [.agg #[.int .i64 a.s,.string a.table,.bool a.x],.agg #[.int .i64 b.s,.string b.table,.bool b.x]] h (λv h'=>Le h h'/\∃t,v=.bool t/\t=dm a b):=by
 obtain⟨A,g⟩:=Ar.ex;obtain⟨s1,c,x⟩:=a;obtain⟨s2,d,i⟩:=b;have q:A .ay .neq s1 s2=decide (s1≠s2):=by rw[av A]
 have f:A .js .eql c d=decide (c=d):=by rw[dF A]
 refine bB dQC A Tryz.func318 ?_;cbv;rw[q];cases e1:decide (s1≠s2)with
 |true=>
  cbv;rw[f];cases e:decide (c=d)with
  |true=>
   cases x with
   |true=>cbv;exact⟨Le.refl _,_,rfl,by simp[dm,e1,e]⟩
   |false=>cbv;exact⟨Le.refl _,_,rfl,by simp[dm,e1,e]⟩
  |false=>cbv;exact⟨Le.refl _,_,rfl,by simp[dm,e1,e]⟩
 |false=>cbv;exact⟨Le.refl _,_,rfl,by simp[dm,e1]⟩
theorem YC{len:Nat}(q:Sl 253 aO h (.slice b len cap) xs){r:Nat}(g:h r=some (.cells #[.int .i64 hd.s,.string hd.table,.bool hd.x] 253 (0,0))):
 Ct 359 [.slice b len cap,.func (.func 360) #[] #[.pointer (some ⟨r,0,none⟩)]] h (λv h'=>Le h h'/\∃z:Int,v=.int .i64 z/\qV xs (gT hd) z):=by
 have m:=q.len;obtain⟨H,N⟩:=q.bound;generalize s:(gT hd)=p;refine an aQm Tryz.func359 λA w=>?_;cbv;refine aG.go (G:=Int) (λz=>[(8,.v (.int .i64 z))]) (λ_=>[]) (λn z h'=>∃i:Nat,aK z i/\n=len-i/\i<=len/\Le h h'/\∀j,j<i->∀y,xs[j]? =some y->p y=false) len 0 (by constructor<;>cbv) ⟨0,⟨rfl⟩,by omega,by omega,Le.refl _,λj d=>(by omega)⟩ ?_
 intro n z h' I;cbv;obtain⟨i,a,C,B,l,f⟩:=I;refine aJ (λc=>?_) (λc=>?_)
 .have F:=a.lt c;clear c;cbv;obtain⟨x,hx⟩:=bn xs i;refine⟨⟨q.aQ,a.ix F⟩,?_⟩;cbv;refine(q.mono (l.t _)).load hx a.eq (λcs o=>?_);have o:cs=[.int .i64 x.s,.string x.table,.bool x.x]:=o;subst o;cbv;refine(Yl (l _ _ g)).mono (λv u hR=>?_);obtain⟨Q,t,rfl,e⟩:=hR;have e:t=p x:=by rw[<-s];exact e
  cbv;cases t with
  |true=>cbv;exact⟨l.trans Q,z,rfl,⟨.inr ⟨i,x,a,hx,e.symm,f⟩⟩⟩
  |false=>
   cbv;refine⟨len-(i+1),_,by omega,by constructor<;>cbv,i+1,a.succ (A:=A),rfl,by omega,l.trans Q,?_⟩
   intro j d y k;rcases Nat.lt_or_ge j i with h|h
   .exact f j h y k
   have:j=i:=by omega
   subst this;rw[hx]at k;cases k;exact e.symm
 have O:=a.ge c;cbv;refine⟨l,-1,rfl,⟨.inl ⟨rfl,λx hx=>?_⟩⟩⟩;obtain⟨j,d⟩:=List.getElem?_of_mem hx;have:=(List.getElem?_eq_some_iff.1 d).1;exact f j (by omega) x d
theorem YD{len:Nat}(q:Sl 253 aO h (.slice b len cap) xs)(hd:bG):
 Ct 359 [.slice b len cap,.func (.func 318) #[.agg #[.int .i64 hd.s,.string hd.table,.bool hd.x]] #[]] h (λv h'=>Le h h'/\∃z:Int,v=.int .i64 z/\qV xs (dm hd) z):=by
 have m:=q.len;obtain⟨H,N⟩:=q.bound;generalize r:(dm hd)=p;refine an aQm Tryz.func359 λA u=>?_;cbv;refine aG.go (G:=Int) (λz=>[(8,.v (.int .i64 z))]) (λ_=>[]) (λn z h'=>∃i:Nat,aK z i/\n=len-i/\i<=len/\Le h h'/\∀j,j<i->∀y,xs[j]? =some y->p y=false) len 0 (by constructor<;>cbv) ⟨0,⟨rfl⟩,by omega,by omega,Le.refl _,λj e=>(by omega)⟩ ?_
 intro n z h' I;cbv;obtain⟨i,c,B,w,l,g⟩:=I;refine aJ (λd=>?_) (λd=>?_)
 .have F:=c.lt d;clear d;cbv;obtain⟨x,hx⟩:=bn xs i;refine⟨⟨q.aQ,c.ix F⟩,?_⟩;cbv;refine(q.mono (l.t _)).load hx c.eq (λcs o=>?_);have o:cs=[.int .i64 x.s,.string x.table,.bool x.x]:=o;subst o;cbv;refine(Da (a:=hd) (b:=x)).mono (λv s hR=>?_);obtain⟨Q,t,rfl,f⟩:=hR;have f:t=p x:=by rw[<-r];exact f
  cbv;cases t with
  |true=>cbv;exact⟨l.trans Q,z,rfl,⟨.inr ⟨i,x,c,hx,f.symm,g⟩⟩⟩
  |false=>
   cbv;refine⟨len-(i+1),_,by omega,by constructor<;>cbv,i+1,c.succ (A:=A),rfl,by omega,l.trans Q,?_⟩
   intro j e y k;rcases Nat.lt_or_ge j i with h|h
   .exact g j h y k
   have:j=i:=by omega
   subst this;rw[hx]at k;cases k;exact f.symm
 have O:=c.ge d;cbv;refine⟨l,-1,rfl,⟨.inl ⟨rfl,λx hx=>?_⟩⟩⟩;obtain⟨j,e⟩:=List.getElem?_of_mem hx;have:=(List.getElem?_eq_some_iff.1 e).1;exact g j (by omega) x e
theorem Ym{a:Option Addr}{j d:Nat}(q:Sl 253 aO h (.slice b n c) H)(hd:bG):
 Ct 316 [.agg #[.slice b n c,.slice a j d],.agg #[.int .i64 hd.s,.string hd.table,.bool hd.x]] h (λv h'=>Le h h'/\∃z:Int,v=.int .i64 z/\qV H (gT hd) z):=by
 refine an dQE Tryz.func316 λA o=>?_;cbv;intro k e p e1;have l:Le h e:=by rw[e1];exact Le.set p
 have g:=(congrFun e1 k).trans ae;cbv;refine(YC (q.mono (l.t _)) g).mono (λv m hR=>?_);obtain⟨i,z,rfl,f⟩:=hR;cbv;exact⟨l.trans i,z,rfl,f⟩
theorem Ac(q:Sl 253 aO h (.slice b n c) H)(hd:bG):
 Ct 317 [.slice b n c,.func (.func 318) #[.agg #[.int .i64 hd.s,.string hd.table,.bool hd.x]] #[]] h (λv h'=>Le h h'/\∃t:Bool,v=.bool t/\t=H.any (dm hd)):=by
 refine an dQD Tryz.func317 λA g=>?_;cbv;refine(YD q hd).mono (λv d hR=>?_);obtain⟨l,z,rfl,f⟩:=hR;cbv;refine⟨l,_,rfl,?_⟩;rw[bX A];rcases f.out with⟨rfl,a⟩|⟨i,x,a,d,e,-⟩
 .rw[eq_comm];simpa using a
 have:=a.eq;rw[decide_eq_true (by omega),eq_comm,List.any_eq_true];exact⟨x,List.mem_of_getElem? d,e⟩
theorem iY(q:Sl 253 aO h (.slice b n c) H)(R:n<=2^38)(s:Int):
 Ct 319 [.slice b n c,.int .i64 s] h (λv h'=>Le h h'/\∃e n' c',v=.slice e n' c'/\aU 253 aO h h' (.slice e n' c') (bA H s)):=by
 have y:=q.len;refine an dQB Tryz.func319 λA N=>?_;cbv;refine aG.go (G:=Int×Option Addr×Nat×Nat) (λg=>[(10,.v (.int .i64 g.1)),(5,.v (.slice g.2.1 g.2.2.1 g.2.2.2))]) (λ_=>[])
  (λk g h'=>∃i:Nat,aK g.1 i/\k=n-i/\i<=n/\Le h h'/\aU 253 aO h h' (.slice g.2.1 g.2.2.1 g.2.2.2) (bA (H.take i) s)) n (0,none,0,0) ⟨?_,?_,?_⟩ ⟨0,⟨rfl⟩,by omega,by omega,Le.refl _,aU.nil⟩ ?_
 .cbv
 .cbv
 .cbv
 intro k g h' I;cbv;obtain⟨i,a,P,O,l,d⟩:=I;obtain⟨z,t,p,u⟩:=g;have a:aK z i:=a;have d:aU 253 aO h h' (.slice t p u) (bA (H.take i) s):=d;refine aJ (λf=>?_) (λf=>?_)
 .have F:=a.lt f;clear f;cbv;obtain⟨x,hx⟩:=bn H i;refine⟨⟨q.aQ,a.ix F⟩,?_⟩;cbv;refine(q.mono (l.t _)).load hx a.eq (λcs o=>?_);have o:cs=[.int .i64 x.s,.string x.table,.bool x.x]:=o;subst o;have K:A .ay .neq x.s s=decide (x.s≠s):=by rw[av A]
  have X:p<=i:=by have:=d.sl.len;rw[this];refine Nat.le_trans (List.length_filter_le _ _) ?_;rw[List.length_take];omega
  cbv;rw[K];cases e1:decide (x.s≠s)with
  |true=>
   cbv;intro J w C r;have j:Le h' w:=by rw[r];exact Le.set C
   have D:=(congrFun r J).trans ae;cbv;refine(d.mono (j.t _)).append (aR (s:=aO) D (x:=x) rfl) (by decide) rfl (by decide) (by omega) (l.trans j) (λm e c' M Q E U T L=>?_);cbv;refine⟨n-(i+1),(_,e,m,c'),by omega,by constructor<;>cbv,i+1,a.succ (A:=A),rfl,by omega,E,?_⟩
   have:bA (H.take (i+1)) s=bA (H.take i) s++[x]:=by rw[List.take_add_one,hx];unfold bA;rw[List.filter_append];simp[e1];simpa using e1
   rw[this];exact L
  |false=>
   cbv;refine⟨n-(i+1),(_,t,p,u),by omega,by constructor<;>cbv,i+1,a.succ (A:=A),rfl,by omega,l,?_⟩
   have:bA (H.take (i+1)) s=bA (H.take i) s:=by rw[List.take_add_one,hx];unfold bA;rw[List.filter_append];simp[e1];simpa using e1
   rw[this];exact d
 have S:=a.ge f;cbv;refine(jz d.sl).mono (λv w hR=>?_);obtain⟨j,e,c',rfl,B⟩:=hR;cbv;refine⟨l.trans j,_,_,_,rfl,?_⟩;rw[List.take_of_length_le (by omega)]at B;exact B.base l
theorem Zx(d:aK z m)(n:m<=2^38):
 Ct 361 [.slice none 0 0,.int .i64 z] h (λv h'=>Le h h'/\∃b c',v=.slice b 0 c'/\aU 253 aO h h' (.slice b 0 c') ([]:List bG)):=by
 obtain⟨A,j⟩:=Ar.ex;have h0:aK (A .nat 0) 0:=aK.nat 0;have a:=d.sub (A:=A) (h0.sub (A:=A) h0 (by omega) (by omega)) (by omega) (by omega);simp only[Nat.sub_zero,Nat.sub_self]at a;refine bB cKT A Tryz.func361 ?_;cbv;rw[d.vf (A:=A)];cbv;generalize e:A .ay .gtr (A .aC .sub .i64 z (A .aC .sub .i64 (A .nat 0) (A .nat 0))) 0=u;generalize g:A .aC .sub .i64 z (A .aC .sub .i64 (A .nat 0) (A .nat 0))=w at a e;rw[aX A]at e;cases u with
 |true=>
  have q:=of_decide_eq_true e;have V:0<m:=by have:=a.eq;omega
  cbv;have C:(0:Int)<=A .nat 0/\A .nat 0<=((0:Nat):Int):=by have:=h0.eq;omega
  refine⟨C,?_⟩;cbv;refine⟨tA a (by omega) (by decide),?_⟩;cbv;rw[cM (A:=A) a,cM (A:=A) h0];refine mH (s:=aO) (xs:=([]:List bG)) Sl.nil (by omega) rfl (by decide) (by omega) rfl rfl (λr c i p l k o=>?_);rw[Nat.zero_add];have f:(0:Int)<=A .nat 0/\A .nat 0<=((c:Nat):Int):=by have:=h0.eq;omega
  cbv;refine⟨f,?_⟩;cbv;rw[cM (A:=A) h0,tp (A:=A)];exact⟨l,_,_,rfl,o.buf p rfl⟩
 |false=>cbv;exact⟨Le.refl _,_,_,rfl,aU.nil⟩
theorem zx{L:List (List bG)}(q:Sl 28 (sA 253 aO) h (.slice b n c) L)(M:L.flatten.length<=2^38):
 Ct 320 [.slice b n c] h (λv h'=>Le h h'/\∃o n' c',v=.slice o n' c'/\aU 253 aO h h' (.slice o n' c') L.flatten):=by
 have B:=q.len;obtain⟨jH,W⟩:=q.bound;refine an dQA Tryz.func320 λA hA=>?_;cbv;refine aG.go (G:=Int×Int) (λg=>[(11,.v (.int .i64 g.1)),(3,.v (.int .i64 g.2))]) (λ_=>[])
  (λk g h'=>∃i:Nat,aK g.1 i/\k=n-i/\i<=n/\h'=h/\aK g.2 (L.take i).flatten.length) n (0,0) ⟨?_,?_,?_⟩ ⟨0,⟨rfl⟩,by omega,by omega,rfl,⟨rfl⟩⟩ ?_
 .cbv
 .cbv
 .cbv
 intro k g h' I;cbv;obtain⟨i,a,K,J,rfl,j⟩:=I;refine aJ (λd=>?_) (λd=>?_)
 .have F:=a.lt d;clear d;cbv;obtain⟨x,hx⟩:=bn L i;refine⟨⟨q.aQ,a.ix F⟩,?_⟩;cbv;refine q.load hx a.eq (λcs s=>?_);obtain⟨v,rfl,f⟩:=s;obtain⟨t,r,u,rfl⟩:=f.form;have E:=f.len;have l:=tZ L (i+1);rw[fI hx,List.length_append,<-E]at l;have Q:=j.add (A:=A) (aK.nat (A:=A) r) (by omega);have P:=fI hx;cbv;rw[Q.vf (A:=A)];cbv;refine⟨n-(i+1),(_,A .aC .add .i64 g.2 (A .nat r)),by omega,by constructor<;>cbv,i+1,a.succ (A:=A),rfl,by omega,rfl,?_⟩
  .rw[P,List.length_append,<-E];exact Q
 have O:=a.ge d;have V:i=n:=by omega
 rw[List.take_of_length_le (by omega)]at j;obtain⟨z,w⟩:=g;have j:aK w L.flatten.length:=j;cbv;refine(Zx j M).mono (λv Y hR=>?_);obtain⟨r,t,u,rfl,e⟩:=hR;cbv;refine aG.go (G:=Int×Option Addr×Nat×Nat) (λg=>[(27,.v (.int .i64 g.1)),(6,.v (.slice g.2.1 g.2.2.1 g.2.2.2))]) (λ_=>[])
  (λk g p=>∃i:Nat,aK g.1 i/\k=n-i/\i<=n/\Le h' p/\aU 253 aO h' p (.slice g.2.1 g.2.2.1 g.2.2.2) (L.take i).flatten) n (0,t,0,u) ⟨?_,?_,?_⟩ ⟨0,⟨rfl⟩,by omega,by omega,r,e⟩ ?_
 .cbv
 .cbv
 .cbv
 intro k g p I;cbv;obtain⟨i,a,K,J,l,e⟩:=I;obtain⟨z,D,y,H⟩:=g;have a:aK z i:=a;have e:aU 253 aO h' p (.slice D y H) (L.take i).flatten:=e;refine aJ (λd=>?_) (λd=>?_)
 .have F:=a.lt d;clear d;cbv;obtain⟨x,hx⟩:=bn L i;refine⟨⟨q.aQ,a.ix F⟩,?_⟩;cbv;refine(q.mono (l.t _)).load hx a.eq (λcs s=>?_);obtain⟨v,rfl,f⟩:=s;obtain⟨T,l2,U,rfl⟩:=f.form;have N:=f.len;have X:y=(L.take i).flatten.length:=e.sl.len;have C:=tZ L (i+1);have P:=fI hx;rw[P,List.length_append,<-N,<-X]at C;cbv;refine e.append f (by decide) rfl (by decide) (by omega) l (λm o c' Z hm R t3 k3 S=>?_);cbv;refine⟨n-(i+1),(_,o,m,c'),by omega,by constructor<;>cbv,i+1,a.succ (A:=A),rfl,by omega,R,?_⟩
  .rw[P];exact S
 have O:=a.ge d;cbv;rw[List.take_of_length_le (by omega)]at e;exact⟨l,_,_,_,rfl,e⟩
theorem Zw(d:aK z m)(n:m<=2^38):
 Ct 313 [.slice none 0 0,.int .i64 z] h (λv h'=>Le h h'/\∃b c',v=.slice b 0 c'/\aU 46 ba h h' (.slice b 0 c') ([]:List Row)):=by
 obtain⟨A,j⟩:=Ar.ex;have h0:aK (A .nat 0) 0:=aK.nat 0;have a:=d.sub (A:=A) (h0.sub (A:=A) h0 (by omega) (by omega)) (by omega) (by omega);simp only[Nat.sub_zero,Nat.sub_self]at a;refine bB dQH A Tryz.func313 ?_;cbv;rw[d.vf (A:=A)];cbv;generalize e:A .ay .gtr (A .aC .sub .i64 z (A .aC .sub .i64 (A .nat 0) (A .nat 0))) 0=u;generalize g:A .aC .sub .i64 z (A .aC .sub .i64 (A .nat 0) (A .nat 0))=w at a e;rw[aX A]at e;cases u with
 |true=>
  have q:=of_decide_eq_true e;have V:0<m:=by have:=a.eq;omega
  cbv;have C:(0:Int)<=A .nat 0/\A .nat 0<=((0:Nat):Int):=by have:=h0.eq;omega
  refine⟨C,?_⟩;cbv;refine⟨tA a (by omega) (by decide),?_⟩;cbv;rw[cM (A:=A) a,cM (A:=A) h0];refine mH (s:=ba) (xs:=([]:List Row)) Sl.nil (by omega) rfl (by decide) (by omega) rfl rfl (λr c i p l k o=>?_);rw[Nat.zero_add];have f:(0:Int)<=A .nat 0/\A .nat 0<=((c:Nat):Int):=by have:=h0.eq;omega
  cbv;refine⟨f,?_⟩;cbv;rw[cM (A:=A) h0,tp (A:=A)];exact⟨l,_,_,rfl,o.buf p rfl⟩
 |false=>cbv;exact⟨Le.refl _,_,_,rfl,aU.nil⟩
theorem PI(q:Sl 59 (sA 46 ba) h (.slice b n c) L)(M:L.flatten.length<=2^38):
 Ct 228 [.slice b n c] h (λv h'=>Le h h'/\∃o n' c',v=.slice o n' c'/\aU 46 ba h h' (.slice o n' c') L.flatten):=by
 have B:=q.len;obtain⟨jH,W⟩:=q.bound;refine an dZf Tryz.func228 λA hA=>?_;cbv;refine aG.go (G:=Int×Int) (λg=>[(11,.v (.int .i64 g.1)),(3,.v (.int .i64 g.2))]) (λ_=>[])
  (λk g h'=>∃i:Nat,aK g.1 i/\k=n-i/\i<=n/\h'=h/\aK g.2 (L.take i).flatten.length) n (0,0) ⟨?_,?_,?_⟩ ⟨0,⟨rfl⟩,by omega,by omega,rfl,⟨rfl⟩⟩ ?_
 .cbv
 .cbv
 .cbv
 intro k g h' I;cbv;obtain⟨i,a,K,J,rfl,j⟩:=I;refine aJ (λd=>?_) (λd=>?_)
 .have F:=a.lt d;clear d;cbv;obtain⟨x,hx⟩:=bn L i;refine⟨⟨q.aQ,a.ix F⟩,?_⟩;cbv;refine q.load hx a.eq (λcs s=>?_);obtain⟨v,rfl,f⟩:=s;obtain⟨t,r,u,rfl⟩:=f.form;have E:=f.len;have l:=tZ L (i+1);rw[fI hx,List.length_append,<-E]at l;have Q:=j.add (A:=A) (aK.nat (A:=A) r) (by omega);have P:=fI hx;cbv;rw[Q.vf (A:=A)];cbv;refine⟨n-(i+1),(_,A .aC .add .i64 g.2 (A .nat r)),by omega,by constructor<;>cbv,i+1,a.succ (A:=A),rfl,by omega,rfl,?_⟩
  .rw[P,List.length_append,<-E];exact Q
 have O:=a.ge d;have V:i=n:=by omega
 rw[List.take_of_length_le (by omega)]at j;obtain⟨z,w⟩:=g;have j:aK w L.flatten.length:=j;cbv;refine(Zw j M).mono (λv Y hR=>?_);obtain⟨r,t,u,rfl,e⟩:=hR;cbv;refine aG.go (G:=Int×Option Addr×Nat×Nat) (λg=>[(27,.v (.int .i64 g.1)),(6,.v (.slice g.2.1 g.2.2.1 g.2.2.2))]) (λ_=>[])
  (λk g p=>∃i:Nat,aK g.1 i/\k=n-i/\i<=n/\Le h' p/\aU 46 ba h' p (.slice g.2.1 g.2.2.1 g.2.2.2) (L.take i).flatten) n (0,t,0,u) ⟨?_,?_,?_⟩ ⟨0,⟨rfl⟩,by omega,by omega,r,e⟩ ?_
 .cbv
 .cbv
 .cbv
 intro k g p I;cbv;obtain⟨i,a,K,J,l,e⟩:=I;obtain⟨z,D,y,H⟩:=g;have a:aK z i:=a;have e:aU 46 ba h' p (.slice D y H) (L.take i).flatten:=e;refine aJ (λd=>?_) (λd=>?_)
 .have F:=a.lt d;clear d;cbv;obtain⟨x,hx⟩:=bn L i;refine⟨⟨q.aQ,a.ix F⟩,?_⟩;cbv;refine(q.mono (l.t _)).load hx a.eq (λcs s=>?_);obtain⟨v,rfl,f⟩:=s;obtain⟨T,l2,U,rfl⟩:=f.form;have N:=f.len;have X:y=(L.take i).flatten.length:=e.sl.len;have C:=tZ L (i+1);have P:=fI hx;rw[P,List.length_append,<-N,<-X]at C;cbv;refine e.append f (by decide) rfl (by decide) (by omega) l (λm o c' Z hm R t3 k3 S=>?_);cbv;refine⟨n-(i+1),(_,o,m,c'),by omega,by constructor<;>cbv,i+1,a.succ (A:=A),rfl,by omega,R,?_⟩
  .rw[P];exact S
 have O:=a.ge d;cbv;rw[List.take_of_length_le (by omega)]at e;exact⟨l,_,_,_,rfl,e⟩
def cN:Sh Int where
 n:=1
 R _ cs v:=cs=[.int .i64 v]
 len:=by rintro h cs x rfl;rfl
 one:=by rintro h cs x rfl;rfl
 tys:=[]
 mono:=λ_ q=>q
def gY(a b:Int):Int:=if decide (a<b)=true then -1 else if decide (a>b)=true then 1 else 0
def dX:List Int->Int
 | []=>0
 |x::r=>if decide (x≠0)=true then x else dX r
def cG(a b:gV):Int:=dX [gY a.k b.k,gY a.n b.n,cT a.s b.s]
def keyOf(key:Int)(r:Row):gV:=if(decide (key<0)||decide (key>=(r.length:Int)))=true then⟨0,0,⟨#[]⟩⟩else(r[key.toNat]?).getD ⟨0,0,⟨#[]⟩⟩
abbrev gV.v(x:gV):Value:=.agg #[.int .i64 x.k,.int .i64 x.n,.string x.s]
theorem Im(a:Int)(h:ab):Ct 358 [.int .i64 a] h (λv h'=>Le h h'/\v=.bool false):=by
 obtain⟨A,b⟩:=Ar.ex;have q:A .ay .neq a a=false:=by rw[av A];simp
 refine bB cKV A Tryz.func358 ?_;cbv;rw[q];exact⟨Le.refl _,rfl⟩
theorem Vs(a b:Int)(h:ab):Ct 315 [.int .i64 a,.int .i64 b] h (λv h'=>Le h h'/\∃z,v=.int .i64 z/\z=gY a b):=by
 refine an dQF Tryz.func315 λA j=>?_;cbv;refine(Im a h).mono (λv d hR=>?_);obtain⟨l,rfl⟩:=hR;cbv;refine(Im b d).mono (λv i hR=>?_);obtain⟨c,rfl⟩:=hR;cbv;generalize e1:A .ay .lss a b=u;generalize e:A .ay .gtr a b=g;have f:=e;rw[aD A]at e1;rw[aX A]at e;cases u with
 |true=>cbv;exact⟨l.trans c,_,rfl,by simp only[gY,e1];rfl⟩
 |false=>
  cbv;rw[f];cases g with
  |true=>cbv;exact⟨l.trans c,_,rfl,by simp only[gY,e1,e];rfl⟩
  |false=>cbv;exact⟨l.trans c,_,rfl,by simp only[gY,e1,e];rfl⟩
theorem nu{xs:List Int}{i:Nat}(h:∀j,j<i->∀y,xs[j]? =some y->y=0):dX xs=dX (xs.drop i):=by
 induction i generalizing xs with
 |zero=>rfl
 |succ i b=>
  cases xs with
  |nil=>rfl
  |cons x r=>have hx:x=0:=h 0 (by omega) x rfl;simp only[List.drop_succ_cons,dX,hx];rw[if_neg (by decide)];exact b (λj c y a=>h (j+1) (by omega) y (by simpa using a))
theorem cQY{xs:List Int}(q:Sl 3 cN h (.slice b n c) xs):
 Ct 314 [.slice b n c] h (λv h'=>Le h h'/\∃z,v=.int .i64 z/\z=dX xs):=by
 have l:=q.len;obtain⟨H,N⟩:=q.bound;refine an dQG Tryz.func314 λA m=>?_;cbv;refine aG.go (G:=Int) (λz=>[(8,.v (.int .i64 z))]) (λ_=>[]) (λk z h'=>∃i:Nat,aK z i/\k=n-i/\i<=n/\h'=h/\∀j,j<i->∀y,xs[j]? =some y->y=0) n 0 (by constructor<;>cbv) ⟨0,⟨rfl⟩,by omega,by omega,rfl,λj g=>(by omega)⟩ ?_
 intro k z h' I;cbv;obtain⟨i,a,s,r,rfl,p⟩:=I;refine aJ (λd=>?_) (λd=>?_)
 .have F:=a.lt d;clear d;cbv;obtain⟨x,hx⟩:=bn xs i;refine⟨⟨q.aQ,a.ix F⟩,?_⟩;cbv;refine q.load hx a.eq (λcs o=>?_);have o:cs=[.int .i64 x]:=o;subst o;generalize ex:A .ay .neq x 0=u;rw[av A]at ex;have E:xs.drop i=x::xs.drop (i+1):=by rw[List.drop_eq_getElem_cons (by omega)];have:=(List.getElem?_eq_some_iff.1 hx).2;rw[this]
  have f:=nu p;rw[E]at f;cbv;rw[av A,ex];cases u with
  |true=>cbv;refine⟨Le.refl _,_,rfl,?_⟩;rw[f];simp only[dX,ex];rfl
  |false=>
   cbv;refine⟨n-(i+1),_,by omega,by constructor<;>cbv,i+1,a.succ (A:=A),rfl,by omega,rfl,?_⟩
   intro j g y e;rcases Nat.lt_or_ge j i with D|D
   .exact p j D y e
   have:j=i:=by omega
   subst this;rw[hx]at e;cases e;have:=of_decide_eq_false ex;exact Decidable.not_not.1 this
 have O:=a.ge d;have f:=nu p;rw[List.drop_eq_nil_of_le (by omega)]at f;cbv;exact⟨Le.refl _,_,rfl,f.symm⟩
theorem Lx(a b:gV)(h:ab):Ct 231 [.agg #[.int .i64 a.k,.int .i64 a.n,.string a.s],.agg #[.int .i64 b.k,.int .i64 b.n,.string b.s]] h (λv h'=>Le h h'/\∃z,v=.int .i64 z/\z=cG a b):=by
 obtain⟨n,B,s1⟩:=a;obtain⟨o,C,s2⟩:=b;refine an dZc Tryz.func231 λA I=>?_;cbv;refine(Vs n o h).mono (λv j hR=>?_);obtain⟨p,E,rfl,e1⟩:=hR;cbv;refine(Vs B C j).mono (λv k hR=>?_);obtain⟨q,F,rfl,c⟩:=hR;cbv;refine(Vu s1 s2 k).mono (λv l hR=>?_);obtain⟨r,G,rfl,f⟩:=hR;cbv;intro D m d e;have t:Le l m:=by rw[e];exact Le.set d
 have i:=(congrFun e D).trans ae;cbv;refine(cQY (sa (s:=cN) rfl i (x:=E) (y:=F) (w:=G) rfl rfl rfl)).mono (λv H hR=>?_);obtain⟨u,z,rfl,g⟩:=hR;cbv;exact⟨(((p.trans q).trans r).trans t).trans u,z,rfl,by rw[g,e1,c,f];rfl⟩
theorem Ty{g i j m:Value}(q:Sl 45 aS h (.slice b n c) r):
 Ct 113 [.agg #[g,i,.int .i64 key,j,m],.slice b n c] h (λv h'=>Le h h'/\∃k:gV,v=.agg #[.int .i64 k.k,.int .i64 k.n,.string k.s]/\k=keyOf key r):=by
 obtain⟨A,o⟩:=Ar.ex;have l:=q.len;generalize e1:A .ay .lss key 0=u;generalize e:A .ay .geq key (A .nat n)=p;have f:=e1;have d:=e;rw[aD A]at e1;rw[bX A,o.nat]at e;simp only[Int.ofNat_eq_natCast]at e;refine bB dJQ A Tryz.func113 ?_;cbv;rw[f];cases u with
 |true=>cbv;exact⟨Le.refl _,⟨0,0,⟨#[]⟩⟩,rfl,by simp only[keyOf,e1];rfl⟩
 |false=>
  cbv;rw[d];cases p with
  |true=>cbv;refine⟨Le.refl _,⟨0,0,⟨#[]⟩⟩,rfl,?_⟩;rw[l]at e;simp only[keyOf,e1,e];rfl
  |false=>obtain⟨B,Y⟩:=Kt A f d;obtain⟨x,hx⟩:=bn r key.toNat;cbv;refine⟨⟨q.aQ,B.ix Y⟩,?_⟩;cbv;refine q.load hx B.eq (λcs a=>?_);have a:cs=[.int .i64 x.k,.int .i64 x.n,.string x.s]:=a;subst a;cbv;refine⟨Le.refl _,x,rfl,?_⟩;rw[l]at e;simp only[keyOf,e1,e,hx];rfl
theorem Nk{a:Nat}{i j l m:Value}(g:h a=some (.cells #[i,j,.int .i64 key,l,m] 260 (0,0)))(q:Sl 45 aS h (.slice b n c) r)(k:gV):
 Ct 230 [.slice b n c,.agg #[.int .i64 k.k,.int .i64 k.n,.string k.s],.pointer (some ⟨a,0,none⟩)] h (λv h'=>Le h h'/\∃z,v=.int .i64 z/\z=cG (keyOf key r) k):=by
 refine an dZd Tryz.func230 λA u=>?_;cbv;refine ak g ?_;cbv;refine(Ty q).mono (λv d hR=>?_);obtain⟨p,o,rfl,f⟩:=hR;cbv;refine(Lx o k d).mono (λv t hR=>?_);obtain⟨s,z,rfl,e⟩:=hR;cbv;exact⟨p.trans s,z,rfl,by rw[e,f]⟩
theorem cKz{xs:List Row}{len:Nat}(q:Sl 46 ba h (.slice b len cap) xs){F:Nat}{P R S T:Value}(E:h F=some (.cells #[P,R,.int .i64 key,S,T] 260 (0,0)))(a:gV):
 Ct 229 [.slice b len cap,.agg #[.int .i64 a.k,.int .i64 a.n,.string a.s],.func (.func 230) #[] #[.pointer (some ⟨F,0,none⟩)]] h (λv h'=>Le h h'/\∃(z:Int) (t:Bool),v=.tuple #[.int .i64 z,.bool t]/\LR (xs.map (λx:Row=>cG (keyOf key x) a)) z t):=by
 have o:=q.len;obtain⟨Y,W⟩:=q.bound;have r:(xs.map (λx:Row=>cG (keyOf key x) a)).length=len:=by simp[o]
 generalize hl:xs.map (λx:Row=>cG (keyOf key x) a)=l at r;have H:∀(i:Nat) x,xs[i]? =some x->l[i]? =some ((λx:Row=>cG (keyOf key x) a) x):=λi x hx=>by rw[<-hl];simp[hx]
 refine an dZe Tryz.func229 λA f=>?_;cbv;refine aG.go (G:=Int×Int) (λg=>[(9,.v (.int .i64 g.1)),(10,.v (.int .i64 g.2))]) (λ_=>[(4,[.int .i64 a.k,.int .i64 a.n,.string a.s])])
  (λn g h'=>∃i j:Nat,aK g.1 i/\aK g.2 j/\n=j-i/\i<=j/\j<=len/\Le h h'/\oW l 0 len=oW l i j) len (0,A .nat len) ⟨?_,?_,?_⟩ ⟨0,len,⟨rfl⟩,⟨by rw[f.nat];rfl⟩,by omega,by omega,by omega,Le.refl _,rfl⟩ ?_
 .cbv
 .cbv
 .cbv
 intro n g h' N;cbv;obtain⟨i,j,c,s,X,L,V,e,J⟩:=N;refine aJ (λm=>?_) (λm=>?_)
 .rw[c.vh (A:=A) s,decide_eq_true_eq]at m;cbv;refine⟨by decide,?_⟩;cbv;have u:=c.fQr (A:=A) s (by omega) (by omega);obtain⟨x,hx⟩:=ax (xs:=xs) (i:=(i+j) / 2) (by omega);refine⟨⟨q.aQ,u.ix (by omega)⟩,?_⟩;cbv;refine(q.mono (e.t _)).load hx u.eq (λcs y=>?_);obtain⟨v,rfl,p⟩:=y;obtain⟨I,U,K,rfl⟩:=p.form;cbv;refine(Nk (e _ _ E) p a).mono (λv M hR=>?_);obtain⟨Q,z,rfl,C⟩:=hR;cbv;have B:l.getD ((i+j) / 2) 0=z:=by rw[List.getD_eq_getElem?_getD,H _ _ hx,C];rfl
  have d:=J;rw[oW.eq_1 l i j,if_pos m,B]at d;refine aJ (λk=>?_) (λk=>?_)
  .rw[f.ay]at k;have D:z<0:=of_decide_eq_true k;rw[if_pos D]at d;clear k D;cbv;refine⟨j-((i+j) / 2+1),(_,g.2),by omega,by constructor<;>cbv,(i+j) / 2+1,j,u.succ (A:=A),s,rfl,by omega,V,e.trans Q,d⟩
  rw[f.ay]at k;have D:¬z<0:=of_decide_eq_false k;rw[if_neg D]at d;clear k D;cbv;refine⟨(i+j) / 2-i,(g.1,A .conv .i64 (A .aC .shr .u64 (A .conv .u64 (A .aC .add .i64 g.1 g.2)) 1)),by omega,by constructor<;>cbv,i,(i+j) / 2,c,u,rfl,by omega,by omega,e.trans Q,d⟩
 rw[c.vh (A:=A) s,decide_eq_false_iff_not]at m;cbv;have d:=J;rw[oW.eq_1 l i j,if_neg m]at d;have O:=c.vh (A:=A) (w:=A .nat len) (j:=len) ⟨by rw[f.nat];rfl⟩;refine aJ (λk=>?_) (λk=>?_)
 .rw[k];rw[O,decide_eq_true_eq]at k;cbv;obtain⟨x,hx⟩:=bn xs i;refine⟨⟨q.aQ,c.ix (by omega)⟩,?_⟩;cbv;refine(q.mono (e.t _)).load hx c.eq (λcs y=>?_);obtain⟨v,rfl,p⟩:=y;obtain⟨I,U,K,rfl⟩:=p.form;cbv;refine(Nk (e _ _ E) p a).mono (λv M hR=>?_);obtain⟨Q,z,rfl,C⟩:=hR;cbv;refine⟨e.trans Q,_,_,rfl,⟨i,c,?_,?_⟩⟩
  .rw[r];exact d.symm
  rw[f.ay];have B:l.getD i 0=z:=by rw[List.getD_eq_getElem?_getD,H _ _ hx,C];rfl
  rw[B,r];simp[ay,k];rfl
 rw[k];rw[O,decide_eq_false_iff_not]at k;cbv;refine⟨e,_,_,rfl,⟨i,c,?_,?_⟩⟩
 .rw[r];exact d.symm
 rw[r];simp[k]
theorem Nl{a d e:Value}(q:Sl 46 ba h (.slice b n c) o)(k:gV):
 Ct 112 [.agg #[a,d,.int .i64 key,e,.slice b n c],.agg #[.int .i64 k.k,.int .i64 k.n,.string k.s]] h (λv h'=>Le h h'/\∃z t,v=.tuple #[.int .i64 z,.bool t]/\LR (o.map λr=>cG (keyOf key r) k) z t):=by
 refine an dJR Tryz.func112 λA u=>?_;cbv;intro m f p e1;have l:Le h f:=by rw[e1];exact Le.set p
 have g:=(congrFun e1 m).trans ae;cbv;rw[al A];rw[al A];refine ak g ?_;cbv;refine(cKz (q.mono (l.t _)) g k).mono (λv s hR=>?_);obtain⟨j,z,t,rfl,i⟩:=hR;cbv;exact⟨l.trans j,z,t,rfl,i⟩
def gI(v:gV):gV:=if decide (v.k=3)=true then⟨v.k,0,v.s⟩else if decide (v.k=1)=true then⟨v.k,v.n,⟨#[]⟩⟩else if decide (v.k=2)=true then⟨v.k,v.n,⟨#[]⟩⟩else⟨v.k,0,⟨#[]⟩⟩
def fX(a b:gV):Bool:=decide (a.k=b.k)&&(decide (a.n=b.n)&&decide (a.s=b.s))
def da(v:gV):Int:=
 if(decide (v.k<0)||decide (v.k>3))=true then 3
 else if(!fX v (gI v)||(decide (v.k=1)&&decide (v.n≠0)&&decide (v.n≠1)))=true then 1
 else if decide ((v.s.size:Int)>60)=true then 5 else 0
theorem aKf{xs:List Row}{len:Nat}(q:Sl 46 ba h (.slice b len cap) xs):
 Ct 227 [.slice b len cap] h (λv h'=>Le h h'/\∃c,h c=none/\v=.slice (some ⟨c,0,none⟩) len len/\cA 46 ba h' c len xs):=by
 have l:=q.len;obtain⟨L,N⟩:=q.bound;refine an dZg Tryz.func227 λA D=>?_;cbv;refine pD (s:=ba) rfl (by omega) (by decide) (λc y p e j=>?_);cbv;refine aG.go (G:=Int) (λz=>[(11,.v (.int .i64 z))]) (λ_=>[]) (λn z h'=>∃i:Nat,aK z i/\n=len-i/\i<=len/\Le h h'/\cA 46 ba h' c len (xs.take i)) len 0 (by constructor<;>cbv) ⟨0,⟨rfl⟩,by omega,by omega,e,j⟩ ?_
 intro n z h' I;cbv;obtain⟨i,a,H,E,f,u⟩:=I;refine aJ (λd=>?_) (λd=>?_)
 .have F:=a.lt d;clear d;cbv;obtain⟨x,hx⟩:=bn xs i;refine⟨⟨q.aQ,a.ix F⟩,?_⟩;cbv;refine(q.mono (f.t _)).load hx a.eq (λcs o=>?_);obtain⟨v,rfl,g⟩:=o;obtain⟨m,P,w,rfl⟩:=g.form;cbv;refine(CS g).mono (λR B hR=>?_);obtain⟨Q,r,t,rfl,J,-⟩:=hR;cbv;refine⟨⟨rfl,a.ix F⟩,?_⟩;cbv;refine(u.mono (Q.t _)).store (by decide) (i:=i) (by simp;omega) (by omega) (by omega) a.eq rfl (x:=x) ⟨_,rfl,J⟩ (λC k K M=>?_);cbv;refine⟨len-(i+1),_,by omega,by constructor<;>cbv,i+1,a.succ (A:=A),rfl,by omega,?_,?_⟩
  .exact(f.trans Q).aE (by simpa using p) k
  rw[if_neg (by simp;omega)]at M;rw[List.take_add_one,hx];exact M
 have O:=a.ge d;cbv;have:i=len:=by omega
 subst this;refine⟨f,c,p,rfl,?_⟩;rw[l,List.take_length]at u;rw[l];exact u
theorem tI{s p:Option Addr}{o r:Nat}(z:Sl 202 bh h (.slice s o m) cols)(y:Sl 59 (sA 46 ba) h (.slice b n c) L)(t:L.flatten.length<=2^38):
 Ct 111 [.agg #[.string nm,.slice s o m,.int .i64 key,.bool only,.slice p u r],.slice b n c] h (λv h'=>Le h h'/\∃a j k d f e,v=.agg #[.string nm,.slice a j k,.int .i64 key,.bool only,.slice d f e]/\Sl 202 bh h' (.slice a j k) cols/\Sl 46 ba h' (.slice d f e) L.flatten):=by
 refine an dJS Tryz.func111 λA F=>?_;cbv;refine(Jb z).mono (λv C hR=>?_);obtain⟨l,a,k,rfl,x,-⟩:=hR;cbv;refine(PI (y.mono (l.t _)) t).mono (λv D hR=>?_);obtain⟨g,d,f,e,rfl,q⟩:=hR;cbv;refine(aKf q.sl).mono (λv E hR=>?_);obtain⟨i,G,B,rfl,w⟩:=hR;cbv;exact⟨(l.trans g).trans i,_,_,_,_,_,_,rfl,x.mono ((g.trans i).t _),w.sl q.sl.len⟩
theorem aQf(w:gV)(h:ab):Ct 312 [.agg #[.int .i64 w.k,.int .i64 w.n,.string w.s]] h (λv h'=>Le h h'/\∃x:gV,v=.agg #[.int .i64 x.k,.int .i64 x.n,.string x.s]/\x=gI w):=by
 obtain⟨A,g⟩:=Ar.ex;obtain⟨k,n,s⟩:=w;generalize e:A .ay .eql k 3=u3;generalize e1:A .ay .eql k 1=u;generalize a:A .ay .eql k 2=d;have c:=e;have b:=a;have f:=e1;rw[aq A]at e1 a e;refine bB dQI A Tryz.func312 ?_;cbv;rw[c];cases u3 with
 |true=>cbv;exact⟨Le.refl _,⟨k,0,s⟩,rfl,by simp only[gI,e];rfl⟩
 |false=>
  cbv;rw[f];cases u with
  |true=>cbv;exact⟨Le.refl _,⟨k,n,⟨#[]⟩⟩,rfl,by simp only[gI,e,e1];rfl⟩
  |false=>
   cbv;rw[b];cases d with
   |true=>cbv;exact⟨Le.refl _,⟨k,n,⟨#[]⟩⟩,rfl,by simp only[gI,e,e1,a];rfl⟩
   |false=>cbv;exact⟨Le.refl _,⟨k,0,⟨#[]⟩⟩,rfl,by simp only[gI,e,e1,a];rfl⟩
theorem Jd(w:gV)(h:ab):Ct 226 [.agg #[.int .i64 w.k,.int .i64 w.n,.string w.s]] h (λv h'=>Le h h'/\∃z,v=.int .i64 z/\z=da w):=by
 obtain⟨A,i⟩:=Ar.ex;obtain⟨k,n,s⟩:=w;generalize j:gI ⟨k,n,s⟩=bv;obtain⟨G,n',H⟩:=bv;generalize e1:A .ay .lss k 0=m;generalize e:A .ay .gtr k 3=o;generalize a:A .not (A .and (A .ay .eql k G) (A .and (A .ay .eql n n') (A .and (A .js .eql s H) true)))=u3;generalize b:A .ay .eql k 1=p;generalize c:A .ay .neq n 0=q;generalize d:A .ay .neq n 1=r;generalize f:A .ay .gtr (A .jL s) 60=u;have t:=e1;have y:=e;have B:=a;have C:=b;have D:=c;have E:=d;have g:=f;rw[aD A]at e1;rw[aX A]at e;rw[aq A]at b;rw[av A]at c d;rw[aX A,i.jL]at f;rw[i.not,i.and,aq A,aq A,dF A]at a;have key:∀z,z=(if(m||o)=true then(3:Int)else if(u3||(p&&q&&r))=true then 1 else if u=true then 5 else 0)->z=da ⟨k,n,s⟩:=λz F=>by
  rw[F,<-e1,<-e,<-a,<-b,<-c,<-d,<-f];simp only[da,j,fX,Bool.and_true]
 refine bB dZh A Tryz.func226 ?_;cbv;rw[t];cases m with
 |true=>cbv;exact⟨Le.refl _,3,rfl,key 3 rfl⟩
 |false=>
  cbv;rw[y];cases o with
  |true=>cbv;exact⟨Le.refl _,3,rfl,key 3 rfl⟩
  |false=>
   cbv;refine(aQf ⟨k,n,s⟩ h).mono (λv I hR=>?_);obtain⟨l,x,rfl,ex⟩:=hR;rw[j]at ex;subst ex;cbv;rw[B];cases u3 with
   |true=>cbv;exact⟨l,1,rfl,key 1 rfl⟩
   |false=>
    cbv;rw[C];cases p with
    |false=>
     cbv;rw[g];cases u with
     |true=>cbv;exact⟨l,5,rfl,key 5 rfl⟩
     |false=>cbv;exact⟨l,0,rfl,key 0 rfl⟩
    |true=>
     cbv;rw[D];cases q with
     |false=>
      cbv;rw[g];cases u with
      |true=>cbv;exact⟨l,5,rfl,key 5 rfl⟩
      |false=>cbv;exact⟨l,0,rfl,key 0 rfl⟩
     |true=>
      cbv;rw[E];cases r with
      |true=>cbv;exact⟨l,1,rfl,key 1 rfl⟩
      |false=>
       cbv;rw[g];cases u with
       |true=>cbv;exact⟨l,5,rfl,key 5 rfl⟩
       |false=>cbv;exact⟨l,0,rfl,key 0 rfl⟩
theorem LR.at_{l:List Int}{t:Bool}(q:LR l z t):aK z (cR l)/\t=gZ l:=by obtain⟨i,h,a,b⟩:=q.out;subst a;exact⟨h,b⟩
def cV(c:iK)(v:gV):Int:=if decide (da v≠0)=true then da v else if(decide (v.k=0)&& !c.null)=true then 13 else if(decide (v.k≠0)&&decide (v.k≠c.kind))=true then 3 else 0
def dx(cols:List iK)(r:Row):Int:=if decide ((r.length:Int)≠(cols.length:Int))=true then 1 else dX (List.zipWith cV cols r)
def bS(t:bJ)(k:gV):List Int:=t.rows.map λr=>cG (keyOf t.S.key r) k
def yq(t:bJ)(i:Nat)(r:Row):bJ:=⟨t.S,t.rows.take i++[r]++t.rows.drop i⟩
def By(t:bJ)(i:Nat):bJ:=⟨t.S,t.rows.take i++t.rows.drop (i+1)⟩
def bm(t:bJ)(r:Row):bJ×Int:=
 if decide (dx t.S.cols r≠0)=true then(t,dx t.S.cols r)
 else if gZ (bS t (keyOf t.S.key r))=true then(t,7)
 else if decide ((t.rows.length:Int)>=200)=true then(t,4)
 else(yq t (cR (bS t (keyOf t.S.key r))) r,0)
def aY(t:bJ)(k:gV):bJ×Row×Int:=
 if gZ (bS t k)=true then(By t (cR (bS t k)),(t.rows[cR (bS t k)]?).getD [],0)else(t,[],2)
theorem ZG{P:Option Addr}{Q:Nat}(N:Sl 202 bh h (.slice P u Q) cols)(q:Sl 45 aS h (.slice b n c) r):
 Ct 110 [.agg #[.string nm,.slice P u Q,.int .i64 key,.bool only],.slice b n c] h (λv h'=>Le h h'/\∃z,v=.int .i64 z/\z=dx cols r):=by
 obtain⟨A,U⟩:=Ar.ex;have s:=q.len;have M:=N.len;obtain⟨jH,fN⟩:=q.bound;generalize e1:A .ay .neq (A .nat n) (A .nat u)=u1;have f1:=e1;rw[av A,U.nat]at e1;simp only[Int.ofNat_eq_natCast]at e1;rw[s,M]at e1;have X:u1=false->n=u:=λe=>by rw[e]at e1;have:=Decidable.not_not.1 (of_decide_eq_false e1);omega
 refine bB dJT A Tryz.func110 ?_;cbv;rw[f1];cases u1 with
 |true=>cbv;exact⟨Le.refl _,1,rfl,by simp only[dx,e1];rfl⟩
 |false=>
  have WU:=X rfl;cbv;refine aG.go (G:=Int) (λz=>[(17,.v (.int .i64 z))]) (λ_=>[(2,[.string nm,.slice P u Q,.int .i64 key,.bool only])])
   (λk z h'=>∃i:Nat,aK z i/\k=n-i/\i<=n/\Le h h'/\∀j,j<i->∀y,(List.zipWith cV cols r)[j]? =some y->y=0) n 0 ⟨?_,?_,?_⟩ ⟨0,⟨rfl⟩,by omega,by omega,Le.refl _,λj hj=>(by omega)⟩ ?_
  .cbv
  .cbv
  .cbv
  intro k z h' hI;cbv;obtain⟨i,m,hk,hi,a,H⟩:=hI;refine aJ (λE=>?_) (λE=>?_)
  .have aF:=m.lt E;clear E;cbv;obtain⟨x,hx⟩:=bn r i;obtain⟨y,W⟩:=bn cols i;have T:(List.zipWith cV cols r)[i]? =some (cV y x):=by rw[List.getElem?_zipWith,hx,W]
   have EF:(List.zipWith cV cols r).drop i=cV y x::(List.zipWith cV cols r).drop (i+1):=by have hl:=(List.getElem?_eq_some_iff.1 T);rw[List.drop_eq_getElem_cons hl.1,hl.2]
   have F:dx cols r=dX ((List.zipWith cV cols r).drop i):=by rw[<-nu H];simp only[dx,e1];rfl
   have d:∀ {V:ab} (w:Int),Le h V->w=cV y x->w≠0->Le h V/\∃z,Value.int .i64 w=.int .i64 z/\z=dx cols r:=λw l ew t=>by
    refine⟨l,w,rfl,?_⟩;rw[F,EF,<-ew];simp only[dX];rw[if_pos (decide_eq_true t)]
   have L:∀(f:ab),Le h f->cV y x=0->∃j:Nat,aK (A .aC .add .i64 z 1) j/\n-(i+1)=n-j/\j<=n/\Le h f/\∀j',j'<j->∀w,(List.zipWith cV cols r)[j']? =some w->w=0:=λf l e0=>
    ⟨i+1,m.succ (A:=A),rfl,by omega,l,λj hj w t=>by
     rcases Nat.lt_or_ge j i with kD|kD
     .exact H j kD w t
     have:j=i:=by omega
     subst this;rw[T]at t;cases t;exact e0⟩
   refine⟨⟨q.aQ,m.ix aF⟩,?_⟩;cbv;refine(q.mono (a.t _)).load hx m.eq (λcs o=>?_);have o:cs=[.int .i64 x.k,.int .i64 x.n,.string x.s]:=o;subst o;cbv;refine⟨⟨N.aQ,m.ix (by omega)⟩,?_⟩;cbv;refine(N.mono (a.t _)).load W m.eq (λcs o=>?_);have o:cs=[.string y.name,.int .i64 y.kind,.bool y.null]:=o;subst o;cbv;refine(Jd x h').mono (λv f hR=>?_);obtain⟨l2,B,rfl,Z⟩:=hR;have Y:=a.trans l2;obtain⟨O,kd,nl⟩:=y;generalize p:A .ay .neq B 0=R;generalize C:A .ay .eql x.k 0=w2;generalize D:A .ay .neq x.k 0=S;generalize I:A .ay .neq x.k kd=w4;generalize K:A .not nl=w5;have k1:=p;have k2:=C;have k3:=D;have k4:=I;have k5:=K;rw[av A]at p D I;rw[aq A]at C;rw[U.not]at K;have key:cV ⟨O,kd,nl⟩ x=if R=true then B else if(w2&&w5)=true then 13 else if(S&&w4)=true then 3 else 0:=by rw[<-p,<-C,<-D,<-I,<-K,Z];rfl
   have TP:R=true->B≠0:=λe=>by rw[e]at p;exact of_decide_eq_true p
   cbv;rw[k1];cases R with
   |true=>cbv;exact d B Y key.symm (TP rfl)
   |false=>
    cbv;rw[k2];cases w2 with
    |true=>
     have J:S=false:=by rw[<-D];have:=of_decide_eq_true C;exact decide_eq_false (by omega)
     subst J;cbv;rw[k5];cases w5 with
     |true=>cbv;exact d 13 Y key.symm (by omega)
     |false=>
      have g:=L f Y key;cbv;rw[k3];cbv;refine⟨n-(i+1),_,by omega,by constructor<;>cbv,g⟩
    |false=>
     cbv;rw[k3];cases S with
     |true=>
      cbv;rw[k4];cases w4 with
      |true=>cbv;exact d 3 Y key.symm (by omega)
      |false=>
       have g:=L f Y key;cbv;refine⟨n-(i+1),_,by omega,by constructor<;>cbv,g⟩
     |false=>
      have g:=L f Y key;cbv;refine⟨n-(i+1),_,by omega,by constructor<;>cbv,g⟩
  have jO:=m.ge E;have F:=nu H;rw[List.drop_eq_nil_of_le (by rw[List.length_zipWith];omega)]at F;cbv;refine⟨a,0,rfl,?_⟩;simp only[dx,e1,F];rfl
theorem aJG(q:Sl 45 aS h (.slice b n c) r):ba.R h [.slice b n c] r:=⟨_,rfl,q⟩
theorem nh{L:List Row}(q:Sl 46 ba h (.slice b n c) L):(sA 46 ba).R h [.slice b n c] L:=⟨_,rfl,q⟩
theorem aXt{sb b4:Option Addr}{sn sc K Q:Nat}(N:Sl 202 bh h (.slice sb sn sc) cols)(B:Sl 46 ba h (.slice b4 K Q) o)(q:Sl 45 aS h (.slice b n c) r)(hn:K<=2^37):
 Ct 45 [.agg #[.string nm,.slice sb sn sc,.int .i64 key,.bool only,.slice b4 K Q],.slice b n c] h (λv h'=>Le h h'/\∃D I l E J m e T,v=.tuple #[.agg #[.string nm,.slice D I l,.int .i64 key,.bool only,.slice E J m],.int .i64 e]/\
  Sl 202 bh h' (.slice D I l) cols/\Sl 46 ba h' (.slice E J m) T/\(⟨⟨⟨nm,cols,key,only⟩,T⟩,e⟩:bJ×Int)=bm ⟨⟨nm,cols,key,only⟩,o⟩ r):=by
 have f:=B.len;refine an gKd Tryz.func45 λA hA=>?_;cbv;refine(ZG (nm:=nm) (key:=key) (only:=only) N q).mono (λv h1 hR=>?_);obtain⟨W,z,rfl,ez⟩:=hR;have y:bm ⟨⟨nm,cols,key,only⟩,o⟩ r=if decide (z≠0)=true then(⟨⟨nm,cols,key,only⟩,o⟩,z)else if gZ (bS ⟨⟨nm,cols,key,only⟩,o⟩ (keyOf key r))=true then(⟨⟨nm,cols,key,only⟩,o⟩,7)
  else if decide ((o.length:Int)>=200)=true then(⟨⟨nm,cols,key,only⟩,o⟩,4)else(yq ⟨⟨nm,cols,key,only⟩,o⟩ (cR (bS ⟨⟨nm,cols,key,only⟩,o⟩ (keyOf key r))) r,0):=by rw[ez];rfl
 generalize S:A .ay .neq z 0=w1;have l:=S;rw[av A]at S;rw[S]at y;have a:([o]:List (List Row)).flatten=o:=by simp
 cbv;rw[l];cases w1 with
 |true=>
  cbv;intro x h2 u e2;have X:Le h1 h2:=by rw[e2];exact Le.set u
  have w:=(congrFun e2 x).trans ae;have F:=W.trans X;cbv;refine(tI (N.mono (F.t _)) (aR (s:=sA 46 ba) w (nh (B.mono (F.t _)))) (by rw[a];omega)).mono (λv P hR=>?_);obtain⟨Y,D,I,l,E,J,m,rfl,C,d⟩:=hR;rw[a]at d;cbv;exact⟨F.trans Y,_,_,_,_,_,_,z,o,rfl,C,d,y.symm⟩
 |false=>
  cbv;refine(Ty (q.mono (W.t _))).mono (λv h2 hR=>?_);obtain⟨X,G,rfl,R⟩:=hR;have F:=W.trans X;cbv;refine(Nl (B.mono (F.t _)) G).mono (λv P hR=>?_);obtain⟨Y,j,t,rfl,hb⟩:=hR;have nP:=F.trans Y;obtain⟨g,V⟩:=hb.at_;rw[<-R]at y;have V:t=gZ (bS ⟨⟨nm,cols,key,only⟩,o⟩ G):=V;have g:aK j (cR (bS ⟨⟨nm,cols,key,only⟩,o⟩ G)):=g;have Z:cR (bS ⟨⟨nm,cols,key,only⟩,o⟩ G)<=K:=by have:=bZB (bS ⟨⟨nm,cols,key,only⟩,o⟩ G);rw[f];simpa[bS]using this
  rw[<-V]at y;generalize cR (bS ⟨⟨nm,cols,key,only⟩,o⟩ G)=i at *;generalize w:A .ay .geq (A .nat K) 200=w2;have m:=w;rw[bX A,hA.nat]at w;simp only[Int.ofNat_eq_natCast]at w;rw[f]at w;rw[w]at y;cases t with
  |true=>
   cbv;intro x f u k;have M:Le P f:=by rw[k];exact Le.set u
   have L:=(congrFun k x).trans ae;have p:=nP.trans M;cbv;refine(tI (N.mono (p.t _)) (aR (s:=sA 46 ba) L (nh (B.mono (p.t _)))) (by rw[a];omega)).mono (λv U hR=>?_);obtain⟨H,D,I,l,E,J,m,rfl,C,d⟩:=hR;rw[a]at d;cbv;exact⟨p.trans H,_,_,_,_,_,_,7,o,rfl,C,d,y.symm⟩
  |false=>
   cbv;rw[m];cases w2 with
   |true=>
    cbv;intro x f u k;have M:Le P f:=by rw[k];exact Le.set u
    have L:=(congrFun k x).trans ae;have p:=nP.trans M;cbv;refine(tI (N.mono (p.t _)) (aR (s:=sA 46 ba) L (nh (B.mono (p.t _)))) (by rw[a];omega)).mono (λv U hR=>?_);obtain⟨H,D,I,l,E,J,m,rfl,C,d⟩:=hR;rw[a]at d;cbv;exact⟨p.trans H,_,_,_,_,_,_,4,o,rfl,C,d,y.symm⟩
   |false=>
    have iW:=B.bound;have dv:0<=j/\j<=(Q:Int)/\0<=j/\j<=j:=by have:=g.eq;omega
    have iG:0<=j/\j<=(K:Int):=by have:=g.eq;omega
    have VW:([o.take i,[r],o.drop i]:List (List Row)).flatten=o.take i++[r]++o.drop i:=by simp
    have Aw:(o.take i++[r]++o.drop i).length<=2^38:=by simp;omega
    cbv;refine⟨dv,?_⟩;cbv;refine⟨iG,?_⟩;cbv;intro x f u k;have M:Le P f:=by rw[k];exact Le.set u
    have L:=(congrFun k x).trans ae;have p:=nP.trans M;cbv;intro GI U sM e5;have H:Le f U:=by rw[e5];exact Le.set sM
    have g5:=(congrFun e5 GI).trans ae;have O:=p.trans H;have Yb:=B.mono (O.t _);have p1:=nh (Yb.po (A:=A) (s:=ba) (z:=j) Z (cM (A:=A) g) (cM (A:=A) g));have p2:=nh (aR (s:=ba) (H _ _ L) (aJG (q.mono (O.t _))));have p3:=nh (Yb.iH (A:=A) (s:=ba) g Z (bQ (A:=A) g) (bQ (A:=A) g));cbv;refine(tI (N.mono (O.t _)) (sa (s:=sA 46 ba) rfl g5 p1 p2 p3) (by rw[VW];exact Aw)).mono (λv h6 hR=>?_);obtain⟨l6,D,I,l,E,J,m,rfl,C,d⟩:=hR;rw[VW]at d;cbv;exact⟨O.trans l6,_,_,_,_,_,_,0,_,rfl,C,d,y.symm⟩
theorem RL{r:List Row}{sb E:Option Addr}{sn sc G:Nat}(qs:Sl 202 bh h (.slice sb sn sc) cols)(q:Sl 46 ba h (.slice E n G) r)(hn:n<=2^37)(k:gV):
 Ct 277 [.agg #[.string nm,.slice sb sn sc,.int .i64 key,.bool only,.slice E n G],.agg #[.int .i64 k.k,.int .i64 k.n,.string k.s]] h (λv h'=>Le h h'/\∃f u o j w p C X I e T R,v=.tuple #[.agg #[.string nm,.slice f u o,.int .i64 key,.bool only,.slice j w p],.slice C X I,.int .i64 e]/\
  Sl 202 bh h' (.slice f u o) cols/\Sl 46 ba h' (.slice j w p) T/\Sl 45 aS h' (.slice C X I) R/\(⟨⟨⟨nm,cols,key,only⟩,T⟩,R,e⟩:bJ×Row×Int)=aY ⟨⟨nm,cols,key,only⟩,r⟩ k):=by
 have H:=q.len;have c:([r]:List (List Row)).flatten=r:=by simp
 refine an dXn Tryz.func277 λA U=>?_;cbv;refine(Nl q k).mono (λv Q hR=>?_);obtain⟨J,b,t,rfl,hb⟩:=hR;obtain⟨g,m⟩:=hb.at_;have y:aY ⟨⟨nm,cols,key,only⟩,r⟩ k=if gZ (bS ⟨⟨nm,cols,key,only⟩,r⟩ k)=true then(By ⟨⟨nm,cols,key,only⟩,r⟩ (cR (bS ⟨⟨nm,cols,key,only⟩,r⟩ k)),(r[cR (bS ⟨⟨nm,cols,key,only⟩,r⟩ k)]?).getD [],0)else(⟨⟨nm,cols,key,only⟩,r⟩,[],2):=rfl
 have m:t=gZ (bS ⟨⟨nm,cols,key,only⟩,r⟩ k):=m;have g:aK b (cR (bS ⟨⟨nm,cols,key,only⟩,r⟩ k)):=g;have F:t=true->cR (bS ⟨⟨nm,cols,key,only⟩,r⟩ k)<n:=λe=>by
  have:=im (m.symm.trans e);rw[H];simpa[bS]using this
 rw[<-m]at y;generalize cR (bS ⟨⟨nm,cols,key,only⟩,r⟩ k)=i at *;cases t with
 |false=>
  have V:A .not false=true:=by rw[U.not];rfl
  cbv;rw[V];cbv;intro nb H dp O;have l4:Le Q H:=by rw[O];exact Le.set dp
  have g4:=(congrFun O nb).trans ae;have M:=J.trans l4;cbv;refine(tI (qs.mono (M.t _)) (aR (s:=sA 46 ba) g4 (nh (q.mono (M.t _)))) (by rw[c];omega)).mono (λv S hR=>?_);obtain⟨l,f,u,o,j,w,p,rfl,N,d⟩:=hR;rw[c]at d;cbv;exact⟨M.trans l,_,_,_,_,_,_,_,_,_,2,r,[],rfl,N,d,Sl.nil,y.symm⟩
 |true=>
  have F:=F rfl;have V:A .not true=false:=by rw[U.not];rfl
  have iW:=q.bound;have D:=g.succ (A:=A);have dv:0<=b/\b<=(G:Int)/\0<=b/\b<=b:=by have:=g.eq;omega
  have iG:0<=A .aC .add .i64 b 1/\A .aC .add .i64 b 1<=(n:Int):=by have:=D.eq;omega
  have W:([r.take i,r.drop (i+1)]:List (List Row)).flatten=r.take i++r.drop (i+1):=by simp
  have Aw:(r.take i++r.drop (i+1)).length<=2^38:=by simp;omega
  obtain⟨x,hx⟩:=bn r i;have Ge:E.isSome=true/\0<=b/\b<(n:Int):=⟨q.aQ,g.ix F⟩;cbv;rw[V];cbv;refine⟨dv,?_⟩;cbv;refine⟨iG,?_⟩;cbv;refine⟨Ge,?_⟩;cbv;refine(q.mono (J.t _)).aXB hx g.eq (λcs ao a=>?_);obtain⟨vx,rfl,Z⟩:=ao;obtain⟨bx,lx,cx,rfl⟩:=Z.form;cbv;intro GI S sM P;have l:Le Q S:=by rw[P];exact Le.set sM
  have g5:=(congrFun P GI).trans ae;have B:=J.trans l;have Y:=q.mono (B.t _);have p1:=nh (Y.po (A:=A) (s:=ba) (z:=b) (Nat.le_of_lt F) (cM (A:=A) g) (cM (A:=A) g));have p3:=nh (Y.iH (A:=A) (s:=ba) D F (bQ (A:=A) D) (bQ (A:=A) D));cbv;refine a _ _ l ?_;cbv;refine⟨⟨_,rfl,rfl⟩,?_⟩;cbv;refine(tI (qs.mono (B.t _)) (mM (s:=sA 46 ba) rfl g5 p1 p3) (by rw[W];exact Aw)).mono (λv h6 hR=>?_);obtain⟨K,f,u,o,j,w,p,rfl,N,d⟩:=hR;rw[W]at d;cbv;refine a _ _ (l.trans K) ?_;cbv;refine⟨⟨_,rfl,rfl⟩,?_⟩;cbv;refine(CS (Z.mono ((l.trans K).t _))).mono (λv h7 hR=>?_);obtain⟨L,C,I,rfl,r3,-⟩:=hR;cbv;rw[hx]at y;exact⟨(B.trans K).trans L,_,_,_,_,_,_,_,_,_,0,_,_,rfl,N.mono (L.t _),d.mono (L.t _),r3,y.symm⟩
theorem YB{c:Type}{xs:List c}{p:c->Bool}(q:qV xs p z):(z=-1/\xs.findIdx? p=none)\/∃i x,aK z i/\xs.findIdx? p=some i/\xs[i]? =some x/\p x=true:=by
 rcases q.out with⟨a,h⟩|⟨i,x,a,h,b,d⟩
 .exact .inl ⟨a,List.findIdx?_eq_none_iff.2 h⟩
 refine .inr ⟨i,x,a,?_,h,b⟩;obtain⟨l,G⟩:=List.getElem?_eq_some_iff.1 h;rw[List.findIdx?_eq_some_iff_getElem];refine⟨l,by rw[G];exact b,λj e=>?_⟩;have o:j<xs.length:=by omega
 have:=d j e xs[j] (by simp[o]);simp[this]
def Mt(a b:bG):Bool:=decide (a.s=b.s)&&(decide (a.table=b.table)&&decide (a.x=b.x))
def lC(H:List bG)(hd:bG):Option Nat:=H.findIdx? (gT hd)
def mS(H:List bG)(hd:bG):Bool:=match lC H hd with
 |some i=>(H[i]?).any λo=>o.x||Mt o hd
 |none=>false
def bz(H:List bG)(hd:bG):Bool:=mS H hd|| !(H.any (dm hd))
def cj(H:List bG)(hd:bG):List bG:=
 if bz H hd=true then if mS H hd=true then H else match lC H hd with
  |some i=>H.set i hd
  |none=>H++[hd]
 else H
def cm(H W:List bG)(hd:bG):List bG:=if bz H hd=true then bA W hd.s else bA W hd.s++[hd]
theorem yZ{L:List bG}(q:Sl 253 aO h (.slice b n c) L):(sA 253 aO).R h [.slice b n c] L:=⟨_,rfl,q⟩
theorem ZE{W:List bG}{c:Option Addr}{d a e:Nat}(q:Sl 253 aO h (.slice b n d) H)(g:Sl 253 aO h (.slice c a e) W)(k:n<=2^38)(Z:a<=2^38)(s:Int):
 Ct 241 [.agg #[.slice b n d,.slice c a e],.int .i64 s] h (λv h'=>Le h h'/\∃b n d c a e,v=.agg #[.slice b n d,.slice c a e]/\Sl 253 aO h' (.slice b n d) (bA H s)/\Sl 253 aO h' (.slice c a e) (bA W s)):=by
 refine an dXT Tryz.func241 λA p=>?_;cbv;refine(iY q k s).mono (λv m hR=>?_);obtain⟨l,j,P,Y,rfl,r⟩:=hR;cbv;refine(iY (g.mono (l.t _)) Z s).mono (λv o hR=>?_);obtain⟨f,J,u,t,rfl,i⟩:=hR;cbv;exact⟨l.trans f,_,_,_,_,_,_,rfl,r.sl.mono (f.t _),i.sl⟩
theorem bZH{W:List bG}{O Z:Option Addr}{c1 T c2:Nat}(q:Sl 253 aO h (.slice O u c1) H)(D:Sl 253 aO h (.slice Z T c2) W)(ek:u<=2^37)(dZ:T<=2^37)(hd:bG):
 Ct 233 [.agg #[.slice O u c1,.slice Z T c2],.agg #[.int .i64 hd.s,.string hd.table,.bool hd.x]] h (λv h'=>Le h h'/\∃O u c1 Z T c2 t,v=.tuple #[.agg #[.slice O u c1,.slice Z T c2],.bool t]/\Sl 253 aO h' (.slice O u c1) (cj H hd)/\Sl 253 aO h' (.slice Z T c2) (cm H W hd)/\t=bz H hd):=by
 obtain⟨a,b,hx⟩:=hd;refine an dZa Tryz.func233 λA hA=>?_;cbv;refine(Ym q ⟨a,b,hx⟩).mono (λv h1 hR=>?_);obtain⟨d,z,rfl,hz⟩:=hR;have V:A .not true=false:=by rw[hA.not];rfl
 have MR:A .not false=true:=by rw[hA.not];rfl
 rcases(YB hz)with⟨rfl,hf⟩|⟨i,o,S,hf,ho,hp⟩
 .have jO:A .ay .geq (-1) 0=false:=by rw[bX A];rfl
  have kH:mS H ⟨a,b,hx⟩=false:=by unfold mS lC;rw[hf]
  cbv;rw[jO];cbv;refine(Ac (q.mono (d.t _)) ⟨a,b,hx⟩).mono (λv h2 hR=>?_);obtain⟨l2,tc,rfl,F⟩:=hR;have e:=d.trans l2;have kF:bz H ⟨a,b,hx⟩= !tc:=by unfold bz;rw[kH,F];rfl
  cases tc with
  |true=>
   have n:bz H ⟨a,b,hx⟩=false:=kF;have g:cj H ⟨a,b,hx⟩=H:=by unfold cj;rw[n];rfl
   have f:cm H W ⟨a,b,hx⟩=bA W a++[⟨a,b,hx⟩]:=by unfold cm;rw[n];rfl
   cbv;rw[V];cbv;refine(jz (q.mono (e.t _))).mono (λv R hR=>?_);obtain⟨l,bc,cc,rfl,P⟩:=hR;cbv;refine(iY (D.mono ((e.trans l).t _)) (by omega) a).mono (λv B hR=>?_);obtain⟨c,bw,nw,cw,rfl,G⟩:=hR;have p:=(e.trans l).trans c;have C:=P.mono (c.t _);cbv;rw[MR];cbv;intro I k N w;have r:Le B k:=by rw[w];exact Le.set N
   have g5:=(congrFun w I).trans ae;cbv;intro K h6 Y y;have j:Le k h6:=by rw[y];exact Le.set Y
   have g6:=(congrFun y K).trans ae;have J:([bA W a,[⟨a,b,hx⟩]]:List (List bG)).flatten=bA W a++[⟨a,b,hx⟩]:=by simp
   have U:(bA W a++[(⟨a,b,hx⟩:bG)]).length<=2^38:=by have h1:(bA W a).length<=W.length:=List.length_filter_le _ _;have h2:=D.len;simp only[List.length_append,List.length_singleton];omega
   cbv;refine(zx (mM (s:=sA 253 aO) rfl g6 (yZ (G.sl.mono ((r.trans j).t _))) (yZ (aR (s:=aO) (j _ _ g5) (x:=⟨a,b,hx⟩) rfl))) (by rw[J];exact U)).mono (λv h7 hR=>?_);obtain⟨l7,b7,n7,c7,rfl,L⟩:=hR;rw[J]at L;have M:=(r.trans j).trans l7;cbv;exact⟨p.trans M,_,_,_,_,_,_,false,rfl,by rw[g];exact C.sl.mono (M.t _),by rw[f];exact L.sl,n.symm⟩
  |false=>
   have n:bz H ⟨a,b,hx⟩=true:=kF;have g:cj H ⟨a,b,hx⟩=H++[⟨a,b,hx⟩]:=by unfold cj;rw[n,kH];unfold lC;rw[hf];rfl
   have f:cm H W ⟨a,b,hx⟩=bA W a:=by unfold cm;rw[n];rfl
   cbv;rw[MR];cbv;refine(jz (q.mono (e.t _))).mono (λv R hR=>?_);obtain⟨l,bc,cc,rfl,P⟩:=hR;cbv;refine(iY (D.mono ((e.trans l).t _)) (by omega) a).mono (λv B hR=>?_);obtain⟨c,bw,nw,cw,rfl,G⟩:=hR;have p:=(e.trans l).trans c;have C:=P.mono (c.t _);cbv;rw[V];cbv;rw[jO];cbv;intro I k N w;have r:Le B k:=by rw[w];exact Le.set N
   have g5:=(congrFun w I).trans ae;cbv;intro K h6 Y y;have j:Le k h6:=by rw[y];exact Le.set Y
   have g6:=(congrFun y K).trans ae;have J:([H,[⟨a,b,hx⟩]]:List (List bG)).flatten=H++[⟨a,b,hx⟩]:=by simp
   have U:(H++[(⟨a,b,hx⟩:bG)]).length<=2^38:=by have h2:=q.len;simp only[List.length_append,List.length_singleton];omega
   cbv;refine(zx (mM (s:=sA 253 aO) rfl g6 (yZ (C.sl.mono ((r.trans j).t _))) (yZ (aR (s:=aO) (j _ _ g5) (x:=⟨a,b,hx⟩) rfl))) (by rw[J];exact U)).mono (λv h7 hR=>?_);obtain⟨l7,b7,n7,c7,rfl,L⟩:=hR;rw[J]at L;have M:=(r.trans j).trans l7;cbv;exact⟨p.trans M,_,_,_,_,_,_,true,rfl,by rw[g];exact L.sl,by rw[f];exact G.sl.mono (M.t _),n.symm⟩
 have jO:A .ay .geq z 0=true:=by rw[bX A];have:=S.eq;exact decide_eq_true (by omega)
 have ag:i<u:=by have:=(List.getElem?_eq_some_iff.1 ho).1;rw[q.len];exact this
 have dv:O.isSome=true/\0<=z/\z<(u:Int):=⟨q.aQ,S.ix ag⟩;have kH:mS H ⟨a,b,hx⟩=(o.x||Mt o ⟨a,b,hx⟩):=by unfold mS lC;rw[hf];simp only[ho];rfl
 obtain⟨os,ot,ox⟩:=o;cbv;rw[jO];cbv;refine⟨dv,?_⟩;cbv;refine(q.mono (d.t _)).bT ho S.eq (o:=2) (m:=1) (by decide) (λcs E=>?_);have E:cs=[.int .i64 os,.string ot,.bool ox]:=E;subst E;cases ox with
 |true=>
  have X:mS H ⟨a,b,hx⟩=true:=kH;have n:bz H ⟨a,b,hx⟩=true:=by unfold bz;rw[X];rfl
  have g:cj H ⟨a,b,hx⟩=H:=by unfold cj;rw[n,X];rfl
  have f:cm H W ⟨a,b,hx⟩=bA W a:=by unfold cm;rw[n];rfl
  cbv;refine(jz (q.mono (d.t _))).mono (λv R hR=>?_);obtain⟨l,bc,cc,rfl,P⟩:=hR;cbv;refine(iY (D.mono ((d.trans l).t _)) (by omega) a).mono (λv B hR=>?_);obtain⟨c,bw,nw,cw,rfl,G⟩:=hR;have p:=(d.trans l).trans c;have C:=P.mono (c.t _);cbv;rw[V];cbv;exact⟨p,_,_,_,_,_,_,true,rfl,by rw[g];exact C.sl,by rw[f];exact G.sl,n.symm⟩
 |false=>
  cbv;refine⟨dv,?_⟩;cbv;refine(q.mono (d.t _)).load ho S.eq (λcs E=>?_);have E:cs=[.int .i64 os,.string ot,.bool false]:=E;subst E;generalize es:A .and (A .ay .eql os a) (A .and (A .js .eql ot b) (A .and (A .qP .eql false hx) true))=us;have fs:=es;rw[hA.and,aq A,dF A,hA.qP]at es;have Q:mS H ⟨a,b,hx⟩=us:=by rw[kH,<-es];simp only[Mt,Bool.false_or,Bool.and_true,qP];cases hx<;>rfl
  cbv;rw[fs];cases us with
  |true=>
   have X:=Q;have n:bz H ⟨a,b,hx⟩=true:=by unfold bz;rw[X];rfl
   have g:cj H ⟨a,b,hx⟩=H:=by unfold cj;rw[n,X];rfl
   have f:cm H W ⟨a,b,hx⟩=bA W a:=by unfold cm;rw[n];rfl
   cbv;refine(jz (q.mono (d.t _))).mono (λv R hR=>?_);obtain⟨l,bc,cc,rfl,P⟩:=hR;cbv;refine(iY (D.mono ((d.trans l).t _)) (by omega) a).mono (λv B hR=>?_);obtain⟨c,bw,nw,cw,rfl,G⟩:=hR;have p:=(d.trans l).trans c;have C:=P.mono (c.t _);cbv;rw[V];cbv;exact⟨p,_,_,_,_,_,_,true,rfl,by rw[g];exact C.sl,by rw[f];exact G.sl,n.symm⟩
  |false=>
   cbv;refine(Ac (q.mono (d.t _)) ⟨a,b,hx⟩).mono (λv h2 hR=>?_);obtain⟨l2,tc,rfl,F⟩:=hR;have e:=d.trans l2;have kF:bz H ⟨a,b,hx⟩= !tc:=by unfold bz;rw[Q,F];rfl
   cases tc with
   |true=>
    have n:bz H ⟨a,b,hx⟩=false:=kF;have g:cj H ⟨a,b,hx⟩=H:=by unfold cj;rw[n];rfl
    have f:cm H W ⟨a,b,hx⟩=bA W a++[⟨a,b,hx⟩]:=by unfold cm;rw[n];rfl
    cbv;rw[V];cbv;refine(jz (q.mono (e.t _))).mono (λv R hR=>?_);obtain⟨l,bc,cc,rfl,P⟩:=hR;cbv;refine(iY (D.mono ((e.trans l).t _)) (by omega) a).mono (λv B hR=>?_);obtain⟨c,bw,nw,cw,rfl,G⟩:=hR;have p:=(e.trans l).trans c;have C:=P.mono (c.t _);cbv;rw[MR];cbv;intro I k N w;have r:Le B k:=by rw[w];exact Le.set N
    have g5:=(congrFun w I).trans ae;cbv;intro K h6 Y y;have j:Le k h6:=by rw[y];exact Le.set Y
    have g6:=(congrFun y K).trans ae;have J:([bA W a,[⟨a,b,hx⟩]]:List (List bG)).flatten=bA W a++[⟨a,b,hx⟩]:=by simp
    have U:(bA W a++[(⟨a,b,hx⟩:bG)]).length<=2^38:=by have h1:(bA W a).length<=W.length:=List.length_filter_le _ _;have h2:=D.len;simp only[List.length_append,List.length_singleton];omega
    cbv;refine(zx (mM (s:=sA 253 aO) rfl g6 (yZ (G.sl.mono ((r.trans j).t _))) (yZ (aR (s:=aO) (j _ _ g5) (x:=⟨a,b,hx⟩) rfl))) (by rw[J];exact U)).mono (λv h7 hR=>?_);obtain⟨l7,b7,n7,c7,rfl,L⟩:=hR;rw[J]at L;have M:=(r.trans j).trans l7;cbv;exact⟨p.trans M,_,_,_,_,_,_,false,rfl,by rw[g];exact C.sl.mono (M.t _),by rw[f];exact L.sl,n.symm⟩
   |false=>
    have n:bz H ⟨a,b,hx⟩=true:=kF;have g:cj H ⟨a,b,hx⟩=H.set i ⟨a,b,hx⟩:=by unfold cj;rw[n,Q];unfold lC;rw[hf];rfl
    have f:cm H W ⟨a,b,hx⟩=bA W a:=by unfold cm;rw[n];rfl
    cbv;rw[MR];cbv;refine(jz (q.mono (e.t _))).mono (λv R hR=>?_);obtain⟨l,bc,cc,rfl,P⟩:=hR;cbv;refine(iY (D.mono ((e.trans l).t _)) (by omega) a).mono (λv B hR=>?_);obtain⟨c,bw,nw,cw,rfl,G⟩:=hR;have p:=(e.trans l).trans c;have C:=P.mono (c.t _);obtain⟨I,rfl,N,aj,oc⟩:=C.own (by omega);have aF:i<H.length:=(List.getElem?_eq_some_iff.1 ho).1;have GQ:u<=cc:=(P.sl).bound.2;have UJ:(some (⟨I,0,none⟩:Addr)).isSome=true/\0<=z/\z<(u:Int):=⟨rfl,S.ix ag⟩;cbv;rw[V];cbv;rw[jO];cbv;refine⟨UJ,?_⟩;cbv;refine oc.setAt (by decide) (i:=i) (by omega) S.eq rfl (x:=⟨a,b,hx⟩) rfl (λk k5 t5 o5=>?_);have r:Le h k:=p.aE (by simpa using e.none N) k5;have eC:R I≠none:=by obtain⟨ar,e1,-,-,o3⟩:=P.own (by omega);cases e1;exact o3.has
    have lw:=(G.kp k5 (by simpa using eC) (t5 _ (by decide))).sl;cbv;exact⟨r,_,_,_,_,_,_,true,rfl,by rw[g];exact o5.sl (by rw[List.length_set];exact aj),by rw[f];exact lw,n.symm⟩
end Go.S
