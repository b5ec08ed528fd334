import Derived.Test.YthnbpiejemlbeaaGreatTab
import Derived.Test.YthnbpiejemlbeaaGreatRd
set_option linter.all false
set_option maxRecDepth 100000
namespace Go.S
open Go.Sx Go.Proofs
variable {a1 a2:Addr}{e:Int}{c:List Value}{cap o:Nat}{b:Option Addr}{a:Value}{h h':ab}{Q:ab->Prop}
abbrev Ct(f:FuncId)(args:List Value)(h:ab)(R:Value->ab->Prop):Prop:=Dr (λ_=>Tryz.prog) f args h R
abbrev eXM(f:FuncId)(args:List Value)(h:ab)(R:Value->ab->Prop):Prop:=Qk (λ_=>Tryz.prog) f args h R
structure gV where
 k:Int
 n:Int
 s:ByteArray
def aS:Sh gV where
 n:=3
 R _ cs v:=cs=[.int .i64 v.k,.int .i64 v.n,.string v.s]
 len:=by rintro h cs x rfl;rfl
 one:=by rintro h cs x rfl;rfl
 tys:=[]
 mono:=λ_ q=>q
structure iK where
 name:ByteArray
 kind:Int
 null:Bool
def bh:Sh iK where
 n:=3
 R _ cs v:=cs=[.string v.name,.int .i64 v.kind,.bool v.null]
 len:=by rintro h cs x rfl;rfl
 one:=by rintro h cs x rfl;rfl
 tys:=[]
 mono:=λ_ q=>q
structure kJ where
 name:ByteArray
 at_:Int
def cF:Sh kJ where
 n:=2
 R _ cs v:=cs=[.string v.name,.int .i64 v.at_]
 len:=by rintro h cs x rfl;rfl
 one:=by rintro h cs x rfl;rfl
 tys:=[]
 mono:=λ_ q=>q
structure bG where
 s:Int
 table:ByteArray
 x:Bool
def aO:Sh bG where
 n:=3
 R _ cs v:=cs=[.int .i64 v.s,.string v.table,.bool v.x]
 len:=by rintro h cs x rfl;rfl
 one:=by rintro h cs x rfl;rfl
 tys:=[]
 mono:=λ_ q=>q
abbrev Row:=List gV
abbrev ba:Sh Row:=sA 45 aS
structure rV where
 name:ByteArray
 cols:List iK
 key:Int
 only:Bool
structure bJ where
 S:rV
 rows:List Row
def bo:Sh bJ where
 n:=5
 R h cs t:=∃b1 n1 c1 b2 n2 c2,cs=[.string t.S.name,.slice b1 n1 c1,.int .i64 t.S.key,.bool t.S.only,.slice b2 n2 c2]/\Sl 202 bh h (.slice b1 n1 c1) t.S.cols/\Sl 46 ba h (.slice b2 n2 c2) t.rows
 len:=by rintro h cs x ⟨_,_,_,_,_,_,rfl,-⟩;rfl
 one:=by rintro h cs x ⟨_,_,_,_,_,_,rfl,-⟩;rfl
 tys:=[202,46,45]
 mono:=by rintro h h' cs x hl ⟨b1,n1,c1,b2,n2,c2,rfl,q1,q2⟩;exact⟨b1,n1,c1,b2,n2,c2,rfl,q1.mono (hl.sub),q2.mono (hl.sub)⟩
structure cC where
 table:ByteArray
 op:Int
 row:Row
def aV:Sh cC where
 n:=3
 R h cs t:=∃b n c,cs=[.string t.table,.int .i64 t.op,.slice b n c]/\Sl 45 aS h (.slice b n c) t.row
 len:=by rintro h cs x ⟨_,_,_,rfl,-⟩;rfl
 one:=by rintro h cs x ⟨_,_,_,rfl,-⟩;rfl
 tys:=[45]
 mono:=by rintro h h' cs x hl ⟨b,n,c,rfl,q⟩;exact⟨b,n,c,rfl,q.mono (hl.sub)⟩
structure ep where
 s:Int
 log:List cC
 marks:List kJ
def bE:Sh (ep×Bool)where
 n:=3
 R h cs t:=∃b1 n1 c1 b2 n2 c2,cs=[.int .i64 t.1.s,.slice b1 n1 c1,.slice b2 n2 c2]/\Sl 161 aV h (.slice b1 n1 c1) t.1.log/\Sl 183 cF h (.slice b2 n2 c2) t.1.marks/\(t.2=true->c1=n1)
 len:=by rintro h cs x ⟨_,_,_,_,_,_,rfl,-⟩;rfl
 one:=by rintro h cs x ⟨_,_,_,_,_,_,rfl,-⟩;rfl
 tys:=[161,45,183]
 mono:=by rintro h h' cs x hl ⟨b1,n1,c1,b2,n2,c2,rfl,q1,q2,q3⟩;exact⟨b1,n1,c1,b2,n2,c2,rfl,q1.mono (hl.sub),q2.mono (hl.sub),q3⟩
structure DB where
 aj:List bJ
 ah:List ep
 holds:List bG
 waits:List bG
structure eD(h:ab)(v:Value)(d:DB):Prop where
 out:∃b1 n1 c1 b2 n2 c2 b3 n3 c3 b4 n4 c4 ws,v=.agg #[.slice b1 n1 c1,.slice b2 n2 c2,.slice b3 n3 c3,.slice b4 n4 c4]/\
  Sl 61 bo h (.slice b1 n1 c1) d.aj/\Sl 79 bE h (.slice b2 n2 c2) ws/\Sl 253 aO h (.slice b3 n3 c3) d.holds/\Sl 253 aO h (.slice b4 n4 c4) d.waits/\ws.map (·.1)=d.ah
theorem xK{xs:List bG}{len:Nat}(q:Sl 253 aO h (.slice b len cap) xs):
 Ct 102 [.slice b len cap] h (λv h'=>Le h h'/\∃d O,v=.slice d len O/\Sl 253 aO h' v xs/\∀E o s,d=some ⟨E,o,s⟩->h E=none):=by
 refine an aQI Tryz.func102 λA j=>?_;cbv;refine aJ (λa=>?_) (λa=>?_)
 .rw[j.yP]at a;cbv;have m:b=none:=by cases b<;>simp at a |-
  subst m;have hl:len=0:=by
   rcases Nat.eq_zero_or_pos len with e|e
   .exact e
   have:=q.aQ e;cases this
  have:=q.len;have hx:xs=[]:=List.eq_nil_of_length_eq_zero (by omega);subst hx hl;exact⟨Le.refl _,none,0,rfl,Sl.nil,λ_ _ _ e=>(by cases e)⟩
 cbv;intro t i k S;have l:Le h i:=by rw[S];exact Le.set k
 cbv;refine cI (q.mono (l.t _)) (by simp[aO]) rfl (by decide) (λn=>?_) (λu c r e1 p f g=>?_)
 .cbv;have:=q.len;have hx:xs=[]:=List.eq_nil_of_length_eq_zero (by omega);subst hx n;exact⟨l,_,_,rfl,Sl.nil,λ_ _ _ e=>(by cases e;exact k)⟩
 cbv;exact⟨l.trans f,_,_,rfl,g.sl q.len,λ_ _ _ e=>(by cases e;exact l.none e1)⟩
theorem Jb{xs:List iK}{len:Nat}(q:Sl 202 bh h (.slice b len cap) xs):
 Ct 218 [.slice b len cap] h (λv h'=>Le h h'/\∃d O,v=.slice d len O/\Sl 202 bh h' v xs/\∀E o s,d=some ⟨E,o,s⟩->h E=none):=by
 refine an aQt Tryz.func218 λA j=>?_;cbv;refine aJ (λa=>?_) (λa=>?_)
 .rw[j.yP]at a;cbv;have m:b=none:=by cases b<;>simp at a |-
  subst m;have hl:len=0:=by
   rcases Nat.eq_zero_or_pos len with e|e
   .exact e
   have:=q.aQ e;cases this
  have:=q.len;have hx:xs=[]:=List.eq_nil_of_length_eq_zero (by omega);subst hx hl;exact⟨Le.refl _,none,0,rfl,Sl.nil,λ_ _ _ e=>(by cases e)⟩
 cbv;intro t i k S;have l:Le h i:=by rw[S];exact Le.set k
 cbv;refine cI (q.mono (l.t _)) (by simp[bh]) rfl (by decide) (λn=>?_) (λu c r e1 p f g=>?_)
 .cbv;have:=q.len;have hx:xs=[]:=List.eq_nil_of_length_eq_zero (by omega);subst hx n;exact⟨l,_,_,rfl,Sl.nil,λ_ _ _ e=>(by cases e;exact k)⟩
 cbv;exact⟨l.trans f,_,_,rfl,g.sl q.len,λ_ _ _ e=>(by cases e;exact l.none e1)⟩
theorem CS{xs:List gV}{len:Nat}(q:Sl 45 aS h (.slice b len cap) xs):
 Ct 114 [.slice b len cap] h (λv h'=>Le h h'/\∃d O,v=.slice d len O/\Sl 45 aS h' v xs/\∀E o s,d=some ⟨E,o,s⟩->h E=none):=by
 refine an aQH Tryz.func114 λA j=>?_;cbv;refine aJ (λa=>?_) (λa=>?_)
 .rw[j.yP]at a;cbv;have m:b=none:=by cases b<;>simp at a |-
  subst m;have hl:len=0:=by
   rcases Nat.eq_zero_or_pos len with e|e
   .exact e
   have:=q.aQ e;cases this
  have:=q.len;have hx:xs=[]:=List.eq_nil_of_length_eq_zero (by omega);subst hx hl;exact⟨Le.refl _,none,0,rfl,Sl.nil,λ_ _ _ e=>(by cases e)⟩
 cbv;intro t i k S;have l:Le h i:=by rw[S];exact Le.set k
 cbv;refine cI (q.mono (l.t _)) (by simp[aS]) rfl (by decide) (λn=>?_) (λu c r e1 p f g=>?_)
 .cbv;have:=q.len;have hx:xs=[]:=List.eq_nil_of_length_eq_zero (by omega);subst hx n;exact⟨l,_,_,rfl,Sl.nil,λ_ _ _ e=>(by cases e;exact k)⟩
 cbv;exact⟨l.trans f,_,_,rfl,g.sl q.len,λ_ _ _ e=>(by cases e;exact l.none e1)⟩
theorem Vv{xs:List kJ}{len:Nat}(q:Sl 183 cF h (.slice b len cap) xs):
 Ct 220 [.slice b len cap] h (λv h'=>Le h h'/\∃d O,v=.slice d len O/\Sl 183 cF h' v xs/\∀E o s,d=some ⟨E,o,s⟩->h E=none):=by
 refine an Qd Tryz.func220 λA j=>?_;cbv;refine aJ (λa=>?_) (λa=>?_)
 .rw[j.yP]at a;cbv;have m:b=none:=by cases b<;>simp at a |-
  subst m;have hl:len=0:=by
   rcases Nat.eq_zero_or_pos len with e|e
   .exact e
   have:=q.aQ e;cases this
  have:=q.len;have hx:xs=[]:=List.eq_nil_of_length_eq_zero (by omega);subst hx hl;exact⟨Le.refl _,none,0,rfl,Sl.nil,λ_ _ _ e=>(by cases e)⟩
 cbv;intro t i k S;have l:Le h i:=by rw[S];exact Le.set k
 cbv;refine cI (q.mono (l.t _)) (by simp[cF]) rfl (by decide) (λn=>?_) (λu c r e1 p f g=>?_)
 .cbv;have:=q.len;have hx:xs=[]:=List.eq_nil_of_length_eq_zero (by omega);subst hx n;exact⟨l,_,_,rfl,Sl.nil,λ_ _ _ e=>(by cases e;exact k)⟩
 cbv;exact⟨l.trans f,_,_,rfl,g.sl q.len,λ_ _ _ e=>(by cases e;exact l.none e1)⟩
theorem SZ{r:Row}{len:Nat}(q:Sl 45 aS h (.slice b len cap) r):
 Ct 46 [.slice b len cap] h (λv h'=>Le h h'/\∃a f,v=.slice a len f/\Sl 45 aS h' v r):=by
 refine an gKc Tryz.func46 λA d=>?_;cbv;refine(CS q).mono (λv h'=>?_);rintro⟨l,a,f,rfl,c,-⟩;cbv;exact⟨l,_,_,rfl,c⟩
theorem ZP{xs:List Row}{len:Nat}(q:Sl 46 ba h (.slice b len cap) xs):
 Ct 219 [.slice b len cap,.func (.func 46) #[] #[]] h (λv h'=>Le h h'/\∃c,h c=none/\v=.slice (some ⟨c,0,none⟩) len len/\cA 46 ba h' c len xs):=by
 have l:=q.len;obtain⟨L,N⟩:=q.bound;refine an dZm Tryz.func219 λA D=>?_;cbv;refine pD (s:=ba) rfl (by omega) (by decide) (λc y p e j=>?_);cbv;refine aG.go (G:=Int) (λz=>[(13,.v (.int .i64 z))]) (λ_=>[]) (λn z h'=>∃i:Nat,aK z i/\n=len-i/\i<=len/\Le h h'/\cA 46 ba h' c len (xs.take i)) len 0 (by constructor<;>cbv) ⟨0,⟨rfl⟩,by omega,by omega,e,j⟩ ?_
 intro n z h' I;cbv;obtain⟨i,a,H,E,f,u⟩:=I;refine aJ (λd=>?_) (λd=>?_)
 .have F:=a.lt d;clear d;cbv;obtain⟨x,hx⟩:=bn xs i;refine⟨⟨q.aQ,a.ix F⟩,?_⟩;cbv;refine(q.mono (f.t _)).load hx a.eq (λcs o=>?_);obtain⟨v,rfl,g⟩:=o;obtain⟨m,P,w,rfl⟩:=g.form;cbv;refine(SZ g).mono (λR B hR=>?_);obtain⟨Q,r,t,rfl,J⟩:=hR;cbv;refine⟨⟨rfl,a.ix F⟩,?_⟩;cbv;refine(u.mono (Q.t _)).store (by decide) (i:=i) (by simp;omega) (by omega) (by omega) a.eq rfl (x:=x) ⟨_,rfl,J⟩ (λC k K M=>?_);cbv;refine⟨len-(i+1),_,by omega,by constructor<;>cbv,i+1,a.succ (A:=A),rfl,by omega,?_,?_⟩
  .exact(f.trans Q).aE (by simpa using p) k
  rw[if_neg (by simp;omega)]at M;rw[List.take_add_one,hx];exact M
 have O:=a.ge d;cbv;have:i=len:=by omega
 subst this;refine⟨f,c,p,rfl,?_⟩;rw[l,List.take_length]at u;rw[l];exact u
theorem Ta{t:bJ}{c d e f:Value}(q:bo.R h [c,a,d,e,f] t):
 Ct 99 [.agg #[c,a,d,e,f]] h (λv h'=>Le h h'/\∃g i j k m,v=.agg #[g,i,j,k,m]/\bo.R h' [g,i,j,k,m] t):=by
 obtain⟨u,E,C,w,F,D,o,r,n⟩:=q;cases o;refine an gJv Tryz.func99 λA B=>?_;cbv;refine(Jb r).mono (λv y hR=>?_);obtain⟨l,s,O,rfl,b,-⟩:=hR;cbv;refine(ZP (n.mono (l.t _))).mono (λv z hR=>?_);obtain⟨Q,G,x,rfl,p⟩:=hR;cbv;exact⟨l.trans Q,_,_,_,_,_,rfl,_,_,_,_,_,_,rfl,b.mono (Q.t _),p.sl n.len⟩
theorem Nm{xs:List bJ}{len:Nat}(q:Sl 61 bo h (.slice b len cap) xs):
 Ct 98 [.slice b len cap,.func (.func 99) #[] #[]] h (λv h'=>Le h h'/\∃c,h c=none/\v=.slice (some ⟨c,0,none⟩) len len/\cA 61 bo h' c len xs):=by
 have l:=q.len;obtain⟨Y,P⟩:=q.bound;refine an gJw Tryz.func98 λA U=>?_;cbv;refine pD (s:=bo) rfl (by omega) (by decide) (λc R w g D=>?_);cbv;refine aG.go (G:=Int) (λz=>[(13,.v (.int .i64 z))]) (λ_=>[]) (λn z h'=>∃i:Nat,aK z i/\n=len-i/\i<=len/\Le h h'/\cA 61 bo h' c len (xs.take i)) len 0 (by constructor<;>cbv) ⟨0,⟨rfl⟩,by omega,by omega,g,D⟩ ?_
 intro n z h' I;cbv;obtain⟨i,a,W,V,p,u⟩:=I;refine aJ (λd=>?_) (λd=>?_)
 .have F:=a.lt d;clear d;cbv;obtain⟨x,hx⟩:=bn xs i;refine⟨⟨q.aQ,a.ix F⟩,?_⟩;cbv;refine(q.mono (p.t _)).load hx a.eq (λcs y=>?_);obtain⟨e,m,k,f,o,j,rfl,r,t⟩:=y;have E:bo.R h' _ x:=⟨e,m,k,f,o,j,rfl,r,t⟩;cbv;refine(Ta E).mono (λv2 S hR=>?_);obtain⟨Q,H,K,L,N,O,rfl,J⟩:=hR;obtain⟨e,m,k,f,o,j,B,r,t⟩:=J;cases B;cbv;refine⟨⟨rfl,a.ix F⟩,?_⟩;cbv;refine(u.mono (Q.t _)).store (by decide) (i:=i) (by simp;omega) (by omega) (by omega) a.eq rfl (x:=x) ⟨e,m,k,f,o,j,rfl,r,t⟩ (λT C X M=>?_);cbv;refine⟨len-(i+1),_,by omega,by constructor<;>cbv,i+1,a.succ (A:=A),rfl,by omega,?_,?_⟩
  .exact(p.trans Q).aE (by simpa using w) C
  rw[if_neg (by simp;omega)]at M;rw[List.take_add_one,hx];exact M
 have Z:=a.ge d;cbv;have:i=len:=by omega
 subst this;refine⟨p,c,w,rfl,?_⟩;rw[l,List.take_length]at u;rw[l];exact u
theorem cQX{t:cC}{c d:Value}(q:aV.R h [c,a,d] t):
 Ct 122 [.agg #[c,a,d]] h (λv h'=>Le h h'/\∃e f g,v=.agg #[e,f,g]/\aV.R h' [e,f,g] t):=by
 obtain⟨m,r,p,i,j⟩:=q;cases i;refine an dJN Tryz.func122 λA o=>?_;cbv;refine(SZ j).mono (λv n hR=>?_);obtain⟨l,k,O,rfl,b⟩:=hR;cbv;exact⟨l,_,_,_,rfl,_,_,_,rfl,b⟩
theorem Lu{xs:List cC}{len:Nat}(q:Sl 161 aV h (.slice b len cap) xs):
 Ct 121 [.slice b len cap,.func (.func 122) #[] #[]] h (λv h'=>Le h h'/\∃c,h c=none/\v=.slice (some ⟨c,0,none⟩) len len/\cA 161 aV h' c len xs):=by
 have l:=q.len;obtain⟨S,N⟩:=q.bound;refine an dJO Tryz.func121 λA L=>?_;cbv;refine pD (s:=aV) rfl (by omega) (by decide) (λc E p f w=>?_);cbv;refine aG.go (G:=Int) (λz=>[(13,.v (.int .i64 z))]) (λ_=>[]) (λn z h'=>∃i:Nat,aK z i/\n=len-i/\i<=len/\Le h h'/\cA 161 aV h' c len (xs.take i)) len 0 (by constructor<;>cbv) ⟨0,⟨rfl⟩,by omega,by omega,f,w⟩ ?_
 intro n z h' I;cbv;obtain⟨i,a,P,O,j,u⟩:=I;refine aJ (λd=>?_) (λd=>?_)
 .have F:=a.lt d;clear d;cbv;obtain⟨x,hx⟩:=bn xs i;refine⟨⟨q.aQ,a.ix F⟩,?_⟩;cbv;refine(q.mono (j.t _)).load hx a.eq (λcs o=>?_);obtain⟨e,g,k,rfl,m⟩:=o;have y:aV.R h' _ x:=⟨e,g,k,rfl,m⟩;cbv;refine(cQX y).mono (λU H hR=>?_);obtain⟨Q,B,C,D,rfl,J⟩:=hR;obtain⟨e,g,k,r,m⟩:=J;cases r;cbv;refine⟨⟨rfl,a.ix F⟩,?_⟩;cbv;refine(u.mono (Q.t _)).store (by decide) (i:=i) (by simp;omega) (by omega) (by omega) a.eq rfl (x:=x) ⟨e,g,k,rfl,m⟩ (λK t R M=>?_);cbv;refine⟨len-(i+1),_,by omega,by constructor<;>cbv,i+1,a.succ (A:=A),rfl,by omega,?_,?_⟩
  .exact(j.trans Q).aE (by simpa using p) t
  rw[if_neg (by simp;omega)]at M;rw[List.take_add_one,hx];exact M
 have T:=a.ge d;cbv;have:i=len:=by omega
 subst this;refine⟨j,c,p,rfl,?_⟩;rw[l,List.take_length]at u;rw[l];exact u
theorem aKg{t:ep×Bool}{c b:Value}(q:bE.R h [c,a,b] t):
 Ct 101 [.agg #[c,a,b]] h (λv h'=>Le h h'/\∃d e f,v=.agg #[d,e,f]/\bE.R h' [d,e,f] (t.1,true)):=by
 obtain⟨m,y,w,n,z,x,i,g,j,-⟩:=q;cases i;refine an aQJ Tryz.func101 λA u=>?_;cbv;refine(Lu g).mono (λv r hR=>?_);obtain⟨l,B,p,rfl,o⟩:=hR;cbv;refine(Vv (j.mono (l.t _))).mono (λv s hR=>?_);obtain⟨Q,k,O,rfl,X,-⟩:=hR;cbv;exact⟨l.trans Q,_,_,_,rfl,_,_,_,_,_,_,rfl,(o.sl g.len).mono (Q.t _),X,λ_=>rfl⟩
theorem ZQ{xs:List (ep×Bool)}{len:Nat}(q:Sl 79 bE h (.slice b len cap) xs):
 Ct 100 [.slice b len cap,.func (.func 101) #[] #[]] h (λv h'=>Le h h'/\∃c,h c=none/\v=.slice (some ⟨c,0,none⟩) len len/\cA 79 bE h' c len (xs.map λp=>(p.1,true))):=by
 have l:=q.len;obtain⟨Y,P⟩:=q.bound;refine an aQK Tryz.func100 λA U=>?_;cbv;refine pD (s:=bE) rfl (by omega) (by decide) (λc R B g H=>?_);cbv;refine aG.go (G:=Int) (λz=>[(13,.v (.int .i64 z))]) (λ_=>[]) (λn z h'=>∃i:Nat,aK z i/\n=len-i/\i<=len/\Le h h'/\cA 79 bE h' c len ((xs.take i).map λp=>(p.1,true))) len 0 (by constructor<;>cbv) ⟨0,⟨rfl⟩,by omega,by omega,g,H⟩ ?_
 intro n z h' I;cbv;obtain⟨i,a,W,V,r,y⟩:=I;refine aJ (λd=>?_) (λd=>?_)
 .have F:=a.lt d;clear d;cbv;obtain⟨x,hx⟩:=bn xs i;refine⟨⟨q.aQ,a.ix F⟩,?_⟩;cbv;refine(q.mono (r.t _)).load hx a.eq (λcs C=>?_);obtain⟨e,m,k,f,o,j,rfl,t,u,w⟩:=C;have K:bE.R h' _ x:=⟨e,m,k,f,o,j,rfl,t,u,w⟩;cbv;refine(aKg K).mono (λv2 S hR=>?_);obtain⟨Q,L,N,O,rfl,J⟩:=hR;obtain⟨e,m,k,f,o,j,D,t,u,w⟩:=J;cases D;cbv;refine⟨⟨rfl,a.ix F⟩,?_⟩;cbv;refine(y.mono (Q.t _)).store (by decide) (i:=i) (by simp;omega) (by omega) (by omega) a.eq rfl (x:=(x.1,true)) ⟨e,m,k,f,o,j,rfl,t,u,w⟩ (λT E X M=>?_);cbv;refine⟨len-(i+1),_,by omega,by constructor<;>cbv,i+1,a.succ (A:=A),rfl,by omega,?_,?_⟩
  .exact(r.trans Q).aE (by simpa using B) E
  rw[if_neg (by simp;omega)]at M;rw[List.take_add_one,hx];simpa using M
 have Z:=a.ge d;cbv;have:i=len:=by omega
 subst this;refine⟨r,c,B,rfl,?_⟩;rw[l,List.take_length]at y;rw[l];exact y
theorem bZm:iv Tryz.prog 362 Tryz.f362:=⟨Tryz.func362,by kernel_rfl,by kernel_rfl,by kernel_rfl⟩
def cT(a b:ByteArray):Int:=Lib.compareBytes a.data.toList b.data.toList
structure LR(l:List Int)(z:Int)(t:Bool):Prop where
 out:∃i,aK z i/\i=oW l 0 l.length/\t=decide (i<l.length/\l.getD i 0=0)
theorem bZt(a b:ByteArray)(h:ab):Ct 323 [.string a,.string b] h (λv h'=>Le h h'/\∃z,v=.int .i64 z/\z=cT a b):=by refine an dQx Tryz.func323 λA d=>?_;cbv;refine ZJ bZm (by kernel_rfl) ?_;generalize c:Lib.compareBytes a.data.toList b.data.toList=z;cbv;exact⟨Le.refl _,z,rfl,c.symm⟩
theorem Vu(a b:ByteArray)(h:ab):Ct 237 [.string a,.string b] h (λv h'=>Le h h'/\∃z,v=.int .i64 z/\z=cT a b):=by refine an dXW Tryz.func237 λA e=>?_;cbv;refine(bZt a b h).mono (λv d hR=>?_);obtain⟨l,z,rfl,c⟩:=hR;cbv;exact⟨l,z,rfl,c⟩
theorem aZG(a b:ByteArray)(h:ab)(c d e f:Value):Ct 236 [.agg #[.string a,c,d,e,f],.string b] h (λv h'=>Le h h'/\∃z,v=.int .i64 z/\z=cT a b):=by refine an dXX Tryz.func236 λA j=>?_;cbv;refine(Vu a b h).mono (λv i hR=>?_);obtain⟨l,z,rfl,g⟩:=hR;cbv;exact⟨l,z,rfl,g⟩
theorem fKF{xs:List bJ}{len:Nat}(q:Sl 61 bo h (.slice b len cap) xs)(a:ByteArray):
 Ct 235 [.slice b len cap,.string a,.func (.func 236) #[] #[]] h (λv h'=>Le h h'/\∃(z:Int) (t:Bool),v=.tuple #[.int .i64 z,.bool t]/\LR (xs.map (λx=>cT x.S.name a)) z t):=by
 have o:=q.len;obtain⟨W,U⟩:=q.bound;have p:(xs.map (λx=>cT x.S.name a)).length=len:=by simp[o]
 generalize hl:xs.map (λx=>cT x.S.name a)=l at p;have C:∀(i:Nat) x,xs[i]? =some x->l[i]? =some ((λx=>cT x.S.name a) x):=λi x hx=>by rw[<-hl];simp[hx]
 refine an dXY Tryz.func235 λA f=>?_;cbv;refine aG.go (G:=Int×Int) (λg=>[(9,.v (.int .i64 g.1)),(10,.v (.int .i64 g.2))]) (λ_=>[])
  (λn g h'=>∃i j:Nat,aK g.1 i/\aK g.2 j/\n=j-i/\i<=j/\j<=len/\Le h h'/\oW l 0 len=oW l i j) len (0,A .nat len) ⟨?_,?_,?_⟩ ⟨0,len,⟨rfl⟩,⟨by rw[f.nat];rfl⟩,by omega,by omega,by omega,Le.refl _,rfl⟩ ?_
 .cbv
 .cbv
 .cbv
 intro n g h' K;cbv;obtain⟨i,j,c,r,V,H,T,e,J⟩:=K;refine aJ (λm=>?_) (λm=>?_)
 .rw[c.vh (A:=A) r,decide_eq_true_eq]at m;cbv;refine⟨by decide,?_⟩;cbv;have s:=c.fQr (A:=A) r (by omega) (by omega);obtain⟨x,hx⟩:=ax (xs:=xs) (i:=(i+j) / 2) (by omega);refine⟨⟨q.aQ,s.ix (by omega)⟩,?_⟩;cbv;refine(q.mono (e.t _)).load hx s.eq (λcs u=>?_);obtain⟨E,N,L,F,P,M,rfl,R,S⟩:=u;cbv;refine(aZG x.S.name a _ _ _ _ _).mono (λv I hR=>?_);obtain⟨Q,z,rfl,B⟩:=hR;cbv;have y:l.getD ((i+j) / 2) 0=z:=by rw[List.getD_eq_getElem?_getD,C _ _ hx,B];rfl
  have d:=J;rw[oW.eq_1 l i j,if_pos m,y]at d;refine aJ (λk=>?_) (λk=>?_)
  .rw[f.ay]at k;have D:z<0:=of_decide_eq_true k;rw[if_pos D]at d;clear k D;cbv;refine⟨j-((i+j) / 2+1),(_,g.2),by omega,by constructor<;>cbv,(i+j) / 2+1,j,s.succ (A:=A),r,rfl,by omega,T,e.trans Q,d⟩
  rw[f.ay]at k;have D:¬z<0:=of_decide_eq_false k;rw[if_neg D]at d;clear k D;cbv;refine⟨(i+j) / 2-i,(g.1,A .conv .i64 (A .aC .shr .u64 (A .conv .u64 (A .aC .add .i64 g.1 g.2)) 1)),by omega,by constructor<;>cbv,i,(i+j) / 2,c,s,rfl,by omega,by omega,e.trans Q,d⟩
 rw[c.vh (A:=A) r,decide_eq_false_iff_not]at m;cbv;have d:=J;rw[oW.eq_1 l i j,if_neg m]at d;have O:=c.vh (A:=A) (w:=A .nat len) (j:=len) ⟨by rw[f.nat];rfl⟩;refine aJ (λk=>?_) (λk=>?_)
 .rw[k];rw[O,decide_eq_true_eq]at k;cbv;obtain⟨x,hx⟩:=bn xs i;refine⟨⟨q.aQ,c.ix (by omega)⟩,?_⟩;cbv;refine(q.mono (e.t _)).load hx c.eq (λcs u=>?_);obtain⟨E,N,L,F,P,M,rfl,R,S⟩:=u;cbv;refine(aZG x.S.name a _ _ _ _ _).mono (λv I hR=>?_);obtain⟨Q,z,rfl,B⟩:=hR;cbv;refine⟨e.trans Q,_,_,rfl,⟨i,c,?_,?_⟩⟩
  .rw[p];exact d.symm
  rw[f.ay];have y:l.getD i 0=z:=by rw[List.getD_eq_getElem?_getD,C _ _ hx,B];rfl
  rw[y,p];simp[ay,k];rfl
 rw[k];rw[O,decide_eq_false_iff_not]at k;cbv;refine⟨e,_,_,rfl,⟨i,c,?_,?_⟩⟩
 .rw[p];exact d.symm
 rw[p];simp[k]
theorem Tb{d:DB}{v:Value}(q:eD h v d):
 Ct 40 [v] h (λB h'=>Le h h'/\∃t wb n a f k i g m j s,h t=none/\h wb=none/\
  B=.agg #[.slice (some ⟨t,0,none⟩) n n,.slice (some ⟨wb,0,none⟩) a a,.slice f k i,.slice g m j]/\
  n=d.aj.length/\cA 61 bo h' t n d.aj/\a=s.length/\cA 79 bE h' wb a s/\Sl 253 aO h' (.slice f k i) d.holds/\Sl 253 aO h' (.slice g m j) d.waits/\s=d.ah.map λw=>(w,true)):=by
 obtain⟨E,n,G,F,a,H,f,k,i,g,m,j,s,rfl,o,p,x,y,z⟩:=q.out;refine an eXG Tryz.func40 λA N=>?_;cbv;refine(Nm o).mono (λv I hR=>?_);obtain⟨l,t,D,rfl,o1⟩:=hR;cbv;refine(ZQ (p.mono (l.t _))).mono (λv K hR=>?_);obtain⟨b,wb,J,rfl,o2⟩:=hR;cbv;refine(xK (x.mono ((l.trans b).t _))).mono (λv L hR=>?_);obtain⟨c,P,O,rfl,r,-⟩:=hR;cbv;refine(xK (y.mono (((l.trans b).trans c).t _))).mono (λv M hR=>?_);obtain⟨e,C,Q,rfl,u,-⟩:=hR;cbv;refine⟨((l.trans b).trans c).trans e,t,wb,n,a,_,_,_,_,_,_,_,D,l.none J,rfl,o.len,o1.mono (((b.trans c).trans e).t _),?_,o2.mono ((c.trans e).t _),r.mono (e.t _),u,?_⟩
 .rw[List.length_map];exact p.len
 rw[<-z,List.map_map];rfl
structure iX(h:ab)(c tb wb ct cw:Nat)(T:List bJ)(W:List (ep×Bool))(H Wt:List bG)(e:Int):Prop where
 out:∃n1 n2 b3 n3 c3 b4 n4 c4 o,h c=some (.cells #[.slice (some ⟨tb,0,none⟩) n1 ct,.slice (some ⟨wb,0,none⟩) n2 cw,.slice b3 n3 c3,.slice b4 n4 c4,.int .u32 o,.int .i32 0,.int .u32 0,.int .i64 e] 148 (0,0))/\
  ((o=0/\e=0)\/(o=1/\e≠0))/\
  n1=T.length/\cA 61 bo h tb ct T/\n2=W.length/\cA 79 bE h wb cw W/\Sl 253 aO h (.slice b3 n3 c3) H/\Sl 253 aO h (.slice b4 n4 c4) Wt
theorem iX.mono{c b wb a w:Nat}{T:List bJ}{W:List (ep×Bool)}{H t:List bG}(q:iX h c b wb a w T W H t e)(hl:Le h h'):iX h' c b wb a w T W H t e:=by obtain⟨u,v,d,x,g,f,y,i,o,j,k,l,m,n,p,r,s⟩:=q.out;exact⟨u,v,d,x,g,f,y,i,o,hl _ _ j,k,l,m.mono (hl.t _),n,p.mono (hl.t _),r.mono (hl.t _),s.mono (hl.t _)⟩
theorem Be{d:DB}{v:Value}(q:eD h v d):
 Ct 38 [v] h (λP h'=>Le h h'/\∃c t wb o p W,P=.pointer (some ⟨c,0,none⟩)/\h c=none/\h t=none/\h wb=none/\c≠t/\c≠wb/\W=(d.ah.map λw=>(w,true))/\o=d.aj.length/\p=W.length/\iX h' c t wb o p d.aj W d.holds d.waits 0):=by
 have N:=q;obtain⟨Q,f,S,R,g,T,i,C,k,j,D,m,V,rfl,-⟩:=N.out;refine an eXH Tryz.func38 λA U=>?_;cbv;refine(Tb q).mono (λv I hR=>?_);obtain⟨B,t,wb,f,g,i,C,k,j,D,m,W,M,O,rfl,r,s,u,x,E,F,G⟩:=hR;cbv;intro n y b z;have l:Le I y:=by rw[z];exact Le.set b
 have K:n≠t:=λe=>by
  obtain⟨c,a,-⟩:=s.out;rw[<-e,b]at a;cases a
 have L:n≠wb:=λe=>by
  obtain⟨c,a,-⟩:=x.out;rw[<-e,b]at a;cases a
 have H:=(congrFun z n).trans ae;have J:iX y n t wb f g d.aj W d.holds d.waits 0:=
  ⟨f,g,i,C,k,j,D,m,0,H,.inl ⟨rfl,rfl⟩,r,s.mono (l.t _),u,x.mono (l.t _),E.mono (l.t _),F.mono (l.t _)⟩
 cbv;exact⟨B.trans l,n,t,wb,f,g,W,rfl,B.none b,M,O,K,L,G,r,u,J⟩
theorem al(A:Ar)[h:bf A](b o n:Nat):A .off ⟨b,o,none⟩ n=⟨b,o+n,none⟩:=by rw[h.off];exact bP b o n
theorem bZn:iv Tryz.prog 324 Tryz.f324:=⟨Tryz.func324,by kernel_rfl,by kernel_rfl,by kernel_rfl⟩
theorem Vb:iv Tryz.prog 183 Tryz.f183:=⟨Tryz.func183,by kernel_rfl,by kernel_rfl,by kernel_rfl⟩
theorem Va:iv Tryz.prog 373 Tryz.f373:=⟨Tryz.func373,by kernel_rfl,by kernel_rfl,by kernel_rfl⟩
theorem bZk:iv Tryz.prog 374 Tryz.f374:=⟨Tryz.func374,by kernel_rfl,by kernel_rfl,by kernel_rfl⟩
theorem UZ:iv Tryz.prog 375 Tryz.f375:=⟨Tryz.func375,by kernel_rfl,by kernel_rfl,by kernel_rfl⟩
theorem bZj:iv Tryz.prog 376 Tryz.f376:=⟨Tryz.func376,by kernel_rfl,by kernel_rfl,by kernel_rfl⟩
theorem bZi:iv Tryz.prog 378 Tryz.f378:=⟨Tryz.func378,by kernel_rfl,by kernel_rfl,by kernel_rfl⟩
theorem bZh:iv Tryz.prog 379 Tryz.f379:=⟨Tryz.func379,by kernel_rfl,by kernel_rfl,by kernel_rfl⟩
structure Up(h:ab)(b o:Nat)(x:Value)(h':ab):Prop where
 out:∃c e,h b=some (.cells c e (0,0))/\h'=bu h b (.cells (c.setIfInBounds o x) e (0,0))
theorem Up.iQW{b:Nat}{x v:Value}(u:Up h b o x h')(q:mj h ⟨b,o,none⟩ v):mj h' ⟨b,o,none⟩ x:=by obtain⟨c,e,d,rfl⟩:=u.out;obtain⟨-,c',g,a,f⟩:=q.out;simp only at a;rw[d]at a;cases a;refine⟨rfl,_,e,ae,?_⟩;have:=(Array.getElem?_eq_some_iff.1 f).1;simp only at this |-;rw[Array.getElem?_setIfInBounds_self_of_lt this]
theorem Up.other{b p:Nat}{x v:Value}(u:Up h b o x h')(g:p≠o)(q:mj h ⟨b,p,none⟩ v):mj h' ⟨b,p,none⟩ v:=by obtain⟨c,e,f,rfl⟩:=u.out;obtain⟨-,c',i,a,d⟩:=q.out;simp only at a;rw[f]at a;cases a;refine⟨rfl,_,e,ae,?_⟩;simp only at d |-;rw[Array.getElem?_setIfInBounds_ne (Ne.symm g)];exact d
theorem Yo{b:Nat}(q:mj h ⟨b,o,none⟩ (.int .i32 0)):Ct 363 [.pointer (some ⟨b,o,none⟩)] h (λv h'=>v=.tuple #[]/\Up h b o (.int .i32 1) h'):=by refine an cKS Tryz.func363 λA f=>?_;cbv;refine ua Va .disable (by kernel_rfl) ?_;cbv;rw[al A];refine ZK bZk (by kernel_rfl) q (λc e d e1 a=>?_);have u:Up h b o (.int .i32 1) d:=⟨c,e,e1,a⟩;cbv;refine ua UZ .enable (by kernel_rfl) ?_;cbv;refine BJ (t:=142) (by kernel_rfl) (by kernel_rfl) (by kernel_rfl) (u.iQW q) ?_;cbv;refine CH bZj .acquire (by kernel_rfl) ?_;cbv;exact⟨rfl,u⟩
theorem FK{b:Nat}(q:mj h ⟨b,o,none⟩ (.int .i32 0)):Ct 325 [.pointer (some ⟨b,o,none⟩)] h (λv h'=>v=.tuple #[]/\Up h b o (.int .i32 1) h'):=by refine an dQw Tryz.func325 λA c=>?_;cbv;rw[al A];refine(Yo q).mono (λv a hR=>?_);obtain⟨rfl,u⟩:=hR;cbv;exact⟨rfl,u⟩
theorem NY{b:Nat}(q:mj h ⟨b,o,none⟩ (.int .i32 1)):Ct 364 [.pointer (some ⟨b,o,none⟩)] h (λv h'=>v=.tuple #[]/\Up h b o (.int .i32 0) h'):=by
 refine an cKR Tryz.func364 λA m=>?_;cbv;rw[al A];obtain⟨-,d,f,j,k⟩:=q.out;refine⟨[.int .i32 1],⟨rfl,rfl,d,f,(0,0),j,λi n=>?_⟩,?_⟩
 .have:i=0:=by omega
  subst this;exact k
 cbv;refine BJ (t:=142) (by kernel_rfl) (by kernel_rfl) (by kernel_rfl) q ?_;cbv;refine CH bZi .releaseMerge (by kernel_rfl) ?_;cbv;refine ua Va .disable (by kernel_rfl) ?_;cbv;rw[al A];refine Gi bZh (by kernel_rfl) q (λc e l e1 g=>?_);have u:Up h b o (.int .i32 0) l:=⟨c,e,e1,g⟩;cbv;refine aJ (λa=>?_) (λa=>?_)
 .rw[m.ay]at a;cases a
 cbv;refine ua UZ .enable (by kernel_rfl) ?_;cbv;exact⟨rfl,u⟩
theorem uT{b:Nat}(q:mj h ⟨b,o,none⟩ (.int .i32 1)):eXM 326 [.pointer (some ⟨b,o,none⟩)] h (λv h'=>v=.tuple #[]/\Up h b o (.int .i32 0) h'):=by obtain⟨A,c⟩:=Ar.ex;refine tY A (ai dQv.au dQv.aN) Tryz.func326 rfl (by kernel_rfl) ?_;cbv;rw[al A];refine(NY q).mono (λv a hR=>?_);obtain⟨rfl,u⟩:=hR;cbv;exact⟨rfl,u⟩
theorem me{b:Nat}{x:Int}(q:mj h ⟨b,o,none⟩ (.int .u32 x)):Ct 243 [.pointer (some ⟨b,o,none⟩)] h (λv h'=>∃t,v=.bool t/\t=decide (x≠0)/\h'=h):=by refine an dXR Tryz.func243 λA a=>?_;cbv;rw[al A];refine IP bZn (by kernel_rfl) q ?_;cbv;refine⟨_,rfl,?_,rfl⟩;rw[a.ay];simp[ay];rfl
theorem gJr(h:ab):Ct 184 [.bool true] h (λv h'=>v=.int .u32 1/\h'=h):=by refine an dZR Tryz.func184 λA a=>?_;cbv
theorem yu{b:Nat}{x:Value}(q:mj h ⟨b,o,none⟩ x):eXM 77 [.pointer (some ⟨b,o,none⟩),.bool true] h (λv h'=>v=.tuple #[]/\Up h b o (.int .u32 1) h'):=by obtain⟨A,f⟩:=Ar.ex;refine tY A (ai eXB.au eXB.aN) Tryz.func77 rfl (by kernel_rfl) ?_;cbv;refine(gJr h).mono (λv a hR=>?_);obtain⟨rfl,rfl⟩:=hR;cbv;rw[al A];refine zh Vb (by kernel_rfl) q (λc e a e1 d=>?_);have u:Up _ b o (.int .u32 1) a:=⟨c,e,e1,d⟩;cbv;exact⟨rfl,u⟩
theorem JZ{b:Nat}(q:mj h ⟨b,o,none⟩ (.int .u32 0))(l:mj h ⟨b,o+1,none⟩ (.int .i32 0))
 (N:∀e,Up h b (o+1) (.int .i32 1) e->Ct 303 [.pointer (some a1),.pointer (some a2)] e (λv a=>v=.tuple #[]/\mj a ⟨b,o,none⟩ (.int .u32 0)/\mj a ⟨b,o+1,none⟩ (.int .i32 1)/\Q a)):
 Ct 244 [.pointer (some ⟨b,o,none⟩),.func (.func 303) #[] #[.pointer (some a1),.pointer (some a2)]] h (λv h'=>v=.tuple #[]/\∃a c,Q a/\Up a b o (.int .u32 1) c/\Up c b (o+1) (.int .i32 0) h'):=by
 obtain⟨A,j⟩:=Ar.ex;refine lS A (ai Qc.au Qc.aN) Tryz.func244 rfl (by kernel_rfl) ?_;cbv;rw[al A];refine(FK l).mono (λv e hR=>?_);obtain⟨rfl,u⟩:=hR;have S:=u.other (by omega) q;cbv;rw[al A];rw[al A];refine(me S).mono (λv a hR=>?_);obtain⟨t,rfl,f,rfl⟩:=hR;have f:t=false:=by rw[f];rfl
 subst f;cbv;rw[j.not];cbv;rw[al A];refine(N _ u).mono (λv a hR=>?_);obtain⟨rfl,g,i,k⟩:=hR;cbv;refine(yu g).mono (λv c hR=>?_);obtain⟨-,X⟩:=hR;have Y:=X.other (by omega) i;cbv;refine(uT Y).mono (λv m hR=>?_);obtain⟨-,d⟩:=hR;cbv;exact⟨rfl,a,c,k,X,d⟩
theorem ZS{b:Nat}(q:mj h ⟨b,o,none⟩ (.int .u32 0))(g:mj h ⟨b,o+1,none⟩ (.int .i32 0))
 (N:∀d,Up h b (o+1) (.int .i32 1) d->Ct 303 [.pointer (some a1),.pointer (some a2)] d (λv a=>v=.tuple #[]/\mj a ⟨b,o,none⟩ (.int .u32 0)/\mj a ⟨b,o+1,none⟩ (.int .i32 1)/\Q a)):
 Ct 126 [.pointer (some ⟨b,o,none⟩),.func (.func 303) #[] #[.pointer (some a1),.pointer (some a2)]] h (λv h'=>v=.tuple #[]/\∃a e,Q a/\Up a b o (.int .u32 1) e/\Up e b (o+1) (.int .i32 0) h'):=by
 refine an AD Tryz.func126 λA f=>?_;cbv;rw[al A];refine(me q).mono (λv a hR=>?_);obtain⟨t,rfl,c,rfl⟩:=hR;have c:t=false:=by rw[c];rfl
 subst c;cbv;rw[f.not];cbv;refine(JZ q g N).mono (λv a hR=>?_);obtain⟨rfl,hR⟩:=hR;cbv;exact⟨rfl,hR⟩
theorem Vl{b:Nat}(q:mj h ⟨b,o,none⟩ (.int .u32 1)):
 Ct 126 [.pointer (some ⟨b,o,none⟩),.func (.func 303) #[] #[.pointer (some a1),.pointer (some a2)]] h (λv h'=>v=.tuple #[]/\h'=h):=by
 refine an AD Tryz.func126 λA c=>?_;cbv;rw[al A];refine(me q).mono (λv d hR=>?_);obtain⟨t,rfl,a,rfl⟩:=hR;have a:t=true:=by rw[a];rfl
 subst a;cbv;rw[c.not];cbv;exact⟨rfl,True.intro⟩
theorem HA{b:Nat}(q:mj h ⟨b,o,none⟩ (.int .u32 0))(l:mj h ⟨b,o+1,none⟩ (.int .i32 0))
 (N:∀e,Up h b (o+1) (.int .i32 1) e->Ct 354 [.pointer (some a1)] e (λv a=>v=.tuple #[]/\mj a ⟨b,o,none⟩ (.int .u32 0)/\mj a ⟨b,o+1,none⟩ (.int .i32 1)/\Q a)):
 Ct 244 [.pointer (some ⟨b,o,none⟩),.func (.func 354) #[.pointer (some a1)] #[]] h (λv h'=>v=.tuple #[]/\∃a c,Q a/\Up a b o (.int .u32 1) c/\Up c b (o+1) (.int .i32 0) h'):=by
 obtain⟨A,j⟩:=Ar.ex;refine lS A (ai Qc.au Qc.aN) Tryz.func244 rfl (by kernel_rfl) ?_;cbv;rw[al A];refine(FK l).mono (λv e hR=>?_);obtain⟨rfl,u⟩:=hR;have S:=u.other (by omega) q;cbv;rw[al A];rw[al A];refine(me S).mono (λv a hR=>?_);obtain⟨t,rfl,f,rfl⟩:=hR;have f:t=false:=by rw[f];rfl
 subst f;cbv;rw[j.not];cbv;rw[al A];refine(N _ u).mono (λv a hR=>?_);obtain⟨rfl,g,i,k⟩:=hR;cbv;refine(yu g).mono (λv c hR=>?_);obtain⟨-,X⟩:=hR;have Y:=X.other (by omega) i;cbv;refine(uT Y).mono (λv m hR=>?_);obtain⟨-,d⟩:=hR;cbv;exact⟨rfl,a,c,k,X,d⟩
theorem Vk{b:Nat}(q:mj h ⟨b,o,none⟩ (.int .u32 0))(g:mj h ⟨b,o+1,none⟩ (.int .i32 0))
 (N:∀d,Up h b (o+1) (.int .i32 1) d->Ct 354 [.pointer (some a1)] d (λv a=>v=.tuple #[]/\mj a ⟨b,o,none⟩ (.int .u32 0)/\mj a ⟨b,o+1,none⟩ (.int .i32 1)/\Q a)):
 Ct 126 [.pointer (some ⟨b,o,none⟩),.func (.func 354) #[.pointer (some a1)] #[]] h (λv h'=>v=.tuple #[]/\∃a e,Q a/\Up a b o (.int .u32 1) e/\Up e b (o+1) (.int .i32 0) h'):=by
 refine an AD Tryz.func126 λA f=>?_;cbv;rw[al A];refine(me q).mono (λv a hR=>?_);obtain⟨t,rfl,c,rfl⟩:=hR;have c:t=false:=by rw[c];rfl
 subst c;cbv;rw[f.not];cbv;refine(HA q g N).mono (λv a hR=>?_);obtain⟨rfl,hR⟩:=hR;cbv;exact⟨rfl,hR⟩
theorem PF{b:Nat}(q:mj h ⟨b,o,none⟩ (.int .u32 1)):
 Ct 126 [.pointer (some ⟨b,o,none⟩),.func (.func 354) #[.pointer (some a1)] #[]] h (λv h'=>v=.tuple #[]/\h'=h):=by
 refine an AD Tryz.func126 λA c=>?_;cbv;rw[al A];refine(me q).mono (λv d hR=>?_);obtain⟨t,rfl,a,rfl⟩:=hR;have a:t=true:=by rw[a];rfl
 subst a;cbv;rw[c.not];cbv;exact⟨rfl,True.intro⟩
theorem bZd{a b c:Nat}{x:Int}{t j e1 e:Nat}{s1 s2 s3 s o1 o2 o y:Value}(d:h a=some (.cells #[.int .i64 x] t (e1,e)))(g:h b=some (.cells #[.pointer (some ⟨c,0,none⟩)] j (0,0)))
 (f:h c=some (.cells #[s1,s2,s3,s,o1,o2,o,y] 148 (0,0))):
 Ct 303 [.pointer (some ⟨a,0,none⟩),.pointer (some ⟨b,0,none⟩)] h (λv h'=>v=.tuple #[]/\h'=bu h c (.cells #[s1,s2,s3,s,o1,o2,o,.int .i64 x] 148 (0,0))):=by
 refine an dQO Tryz.func303 λA k=>?_;cbv;refine ak g ?_;cbv;refine ak d ?_;cbv;rw[al A];refine jr f (by simp) (λh' i=>?_);cbv;exact⟨rfl,i⟩
theorem Up.exp{b e:Nat}{x:Value}(u:Up h b o x h')(g:h b=some (.cells (List.toArray c) e (0,0))):h'=bu h b (.cells (List.toArray (c.set o x)) e (0,0)):=by obtain⟨c',d,a,rfl⟩:=u.out;rw[g]at a;cases a;simp
theorem bY{b e:Nat}{x:Value}(g:h b=some (.cells (List.toArray c) e (0,0)))(hx:c[o]? =some x):mj h ⟨b,o,none⟩ x:=⟨rfl,_,e,g,by simpa using hx⟩
theorem sZ{c t wb g w:Nat}{T:List bJ}{W:List (ep×Bool)}{H I:List bG}{x:Int}(q:iX h c t wb g w T W H I e)(ht:c≠t)(hw:c≠wb):
 Ct 209 [.pointer (some ⟨c,0,none⟩),.int .i64 x] h (λv h'=>v=.tuple #[]/\Kp [c] h h'/\iX h' c t wb g w T W H I (if e=0 then x else e)):=by
 obtain⟨D,E,m,F,r,n,G,s,o,z,ho,q1,q2,q3,q4,q5,q6⟩:=q.out;refine an dZv Tryz.func209 λA O=>?_;cbv;intro p N Z e1;cbv;intro f b U K;have l:Le h N:=by rw[e1];exact Le.set Z
 have a:Le N b:=by rw[K];exact Le.set U
 have M:b f=some (.cells #[.int .i64 x] 33 (0,0)):=by rw[K];exact ae
 have L:b p=some (.cells #[.pointer (some ⟨c,0,none⟩)] 134 (0,0)):=a _ _ (by rw[e1];exact ae);have P:=q.mono (l.trans a);have J:=(l.trans a) _ _ z;have C:p≠c:=λe=>by rw[e,z]at Z;cases Z
 have S:f≠c:=λe=>by rw[e,l _ _ z]at U;cases U
 cbv;refine ak M ?_;cbv;refine aJ (λd=>?_) (λd=>?_)
 .have hx:x≠0:=by intro e;rw[O.ay,e]at d;cases d
  clear d;cbv;refine ak L ?_;cbv;rw[al A];rcases ho with⟨rfl,rfl⟩|⟨rfl,he⟩
  .refine(ZS (a1:=⟨f,0,none⟩) (a2:=⟨p,0,none⟩) (Q:=λhq=>hq=bu b c (.cells (List.toArray [.slice (some ⟨t,0,none⟩) D g,.slice (some ⟨wb,0,none⟩) E w,.slice m F r,.slice n G s,.int .u32 0,.int .i32 1,.int .u32 0,.int .i64 x]) 148 (0,0)))
    (bY J rfl) (bY J rfl) (λB hu=>?_)).mono (λv k hR=>?_)
   .have i:=hu.exp J;have y:B f=some (.cells #[.int .i64 x] 33 (0,0)):=by rw[i,bN S];exact M
    have V:B p=some (.cells #[.pointer (some ⟨c,0,none⟩)] 134 (0,0)):=by rw[i,bN C];exact L
    have X:B c=some (.cells (List.toArray [.slice (some ⟨t,0,none⟩) D g,.slice (some ⟨wb,0,none⟩) E w,.slice m F r,.slice n G s,.int .u32 0,.int .i32 1,.int .u32 0,.int .i64 0]) 148 (0,0)):=by rw[i];exact ae
    refine(bZd y V X).mono (λv k hR=>?_);obtain⟨rfl,rfl⟩:=hR;exact⟨rfl,bY ae rfl,bY ae rfl,by rw[i,dD]⟩
   obtain⟨rfl,h5,h6,rfl,u5,u6⟩:=hR;have u:=u5.exp ae;rw[dD]at u;have R:=(congrFun u c).trans ae;have j:=u6.exp R;rw[u,dD]at j;cbv;have kp:Kp [c] b k:=by rw[j];exact Kp.set (by simp)
   have lt:∀tys,148∉tys->bV tys b k:=λtys Y=>by rw[j];exact bV.set J Y
   refine⟨rfl,((l.trans a).kp _).trans kp,D,E,m,F,r,n,G,s,1,?_,.inr ⟨rfl,?_⟩,q1,?_,q3,?_,?_,?_⟩
   .rw[j];exact ae
   .exact hx
   .exact q2.mono (((l.trans a).t _).trans (lt _ (by decide)))
   .exact q4.mono (((l.trans a).t _).trans (lt _ (by decide)))
   .exact q5.mono (((l.trans a).t _).trans (lt _ (by decide)))
   exact q6.mono (((l.trans a).t _).trans (lt _ (by decide)))
  refine(Vl (a1:=⟨f,0,none⟩) (a2:=⟨p,0,none⟩) (bY J rfl)).mono (λv k hR=>?_);obtain⟨rfl,rfl⟩:=hR;cbv;refine⟨rfl,(l.trans a).kp _,?_⟩;rw[if_neg he];exact P
 have hx:x=0:=by rw[O.ay]at d;simpa[ay]using d
 cbv;refine⟨rfl,(l.trans a).kp _,?_⟩;subst hx;have:(if e=0 then 0 else e)=e:=by split<;>simp_all
 rw[this];exact P
def wu:Sh ByteArray where
 n:=1
 R _ cs v:=cs=[.string v]
 len:=by rintro h cs x rfl;rfl
 one:=by rintro h cs x rfl;rfl
 tys:=[]
 mono:=λ_ q=>q
def ir:List ByteArray:=[⟨#[97,110,100]⟩,⟨#[98,101,103,105,110]⟩,⟨#[98,111,111,108]⟩,⟨#[98,121]⟩,⟨#[99,111,109,109,105,116]⟩,⟨#[99,111,117,110,116]⟩,⟨#[99,114,101,97,116,101]⟩,⟨#[100,101,108,101,116,101]⟩,⟨#[100,101,115,99]⟩,⟨#[100,114,111,112]⟩,⟨#[102,97,108,115,101]⟩,⟨#[102,114,111,109]⟩,⟨#[103,114,111,117,112]⟩,⟨#[105,110,115,101,114,116]⟩,⟨#[105,110,116]⟩,⟨#[105,110,116,111]⟩,⟨#[105,115]⟩,⟨#[106,111,105,110]⟩,⟨#[107,101,121]⟩,⟨#[108,105,109,105,116]⟩,⟨#[109,97,120]⟩,⟨#[109,105,110]⟩,⟨#[110,111,116]⟩,⟨#[110,117,108,108]⟩,⟨#[111,110]⟩,⟨#[111,110,108,121]⟩,⟨#[111,114]⟩,⟨#[111,114,100,101,114]⟩,⟨#[112,114,105,109,97,114,121]⟩,⟨#[114,111,108,108,98,97,99,107]⟩,⟨#[115,97,118,101,112,111,105,110,116]⟩,⟨#[115,101,108,101,99,116]⟩,⟨#[115,101,116]⟩,⟨#[115,117,109]⟩,⟨#[116,97,98,108,101]⟩,⟨#[116,101,120,116]⟩,⟨#[116,111]⟩,⟨#[116,114,117,101]⟩,⟨#[117,112,100,97,116,101]⟩,⟨#[118,97,108,117,101,115]⟩,⟨#[119,104,101,114,101]⟩]
theorem Ik:ir.Nodup:=by decide
theorem Yt(h:ab):Ct 371 [] h (λv h'=>Le h h'/\∃c,v=.slice (some ⟨c,0,none⟩) 41 41/\Sl 9 wu h' v ir):=by
 refine an cKK Tryz.func371 λA d=>?_;cbv;intro n a b e1;have g:a n=some (.cells (List.toArray (ir.map Value.string)) 9 (0,0)):=by rw[e1];exact ae
 have r:Sx.Rows wu a (ir.map Value.string) 0 ir:=by refine⟨by decide,λi x hx=>?_⟩;have F:=(List.getElem?_eq_some_iff.1 hx).1;show List.take 1 (List.drop (0+i*1) _)=_;rw[Nat.zero_add,Nat.mul_one,List.drop_eq_getElem_cons (by simpa using F)];rw[List.getElem?_eq_some_iff]at hx;simp[hx.2]
 have s:Sl 9 wu a (.slice (some ⟨n,0,none⟩) 41 41) ir:=Sl.fresh (xs:=ir) g r (by decide) (by decide);have hl:Le h a:=by rw[e1];exact Le.set b
 clear g r e1;cbv;exact⟨hl,n,rfl,s⟩
theorem aJh:Tryz.prog.underlying 453=some (.map 9 4):=by kernel_rfl
theorem u9:Tryz.prog.underlying 9=some .string:=by kernel_rfl
def yf(l:List ByteArray):List (Value×Value):=l.map λw=>(.string w,.bool true)
theorem Kp.new{bs:List Nat}{a c:ab}{m:Nat}(x:Kp bs h a)(g:h m=none)(y:Kp (m::bs) a c):Kp bs h c:=λb o q d=>
 y b o (x b o q d) (by
  intro f;rcases List.mem_cons.1 f with e|e
  .rw[e,g]at q;cases q
  exact d e)
theorem XU{s:Nat}{o1 o2 o Y:Value}(b:h s=some (.cells #[o1,o2,o,Y] 455 (0,0))):
 Ct 354 [.pointer (some ⟨s,0,none⟩)] h (λv h'=>v=.tuple #[]/\Kp [s] h h'/\∃m,h m=none/\h' s=some (.cells #[o1,o2,o,.map (some m)] 455 (0,0))/\Mp h' m .string (yf ir)):=by
 refine an cKY Tryz.func354 λA hA=>?_;cbv;intro m t a e1;have K:Le h t:=by rw[e1];exact Le.set a
 have B:m≠s:=λe=>by rw[e,b]at a;cases a
 have q:Mp t m .string []:=Mp.new (by rw[e1];exact ae);cbv;rw[al A];refine jr (K _ _ b) (by simp) (λu C=>?_);have I:Kp [s] t u:=by rw[C];exact Kp.set (by simp)
 have M:u s=some (.cells #[o1,o2,o,.map (some m)] 455 (0,0)):=by rw[C];exact ae
 have L:=q.kp I (by simpa using B);cbv;refine(Yt u).mono (λv P hR=>?_);obtain⟨y,Z,rfl,T⟩:=hR;have Q:=L.kp (y.kp []) (by simp);have V:Kp [s] h P:=((K.kp _).trans I).trans (y.kp _);have N:=y _ _ M;have l:ir.length=41:=rfl;cbv;refine aG.go (G:=Int) (λz=>[(10,.v (.int .i64 z))]) (λ_=>[]) (λn z h'=>∃i:Nat,aK z i/\n=41-i/\i<=41/\Kp [s] h h'/\h' s=some (.cells #[o1,o2,o,.map (some m)] 455 (0,0))/\Mp h' m .string (yf (ir.take i))/\Sl 9 wu h' (.slice (some ⟨Z,0,none⟩) 41 41) ir) 41 0 (by constructor<;>cbv) ⟨0,⟨rfl⟩,rfl,by decide,V,N,Q,T⟩ ?_
 intro n z h' R;cbv;obtain⟨i,c,hn,hi,H,r,g,O⟩:=R;refine aJ (λd=>?_) (λd=>?_)
 .have F:=c.lt (A:=A) (len:=41) d;clear d;cbv;obtain⟨x,hx⟩:=ax (xs:=ir) (i:=i) (by rw[l];exact F);refine⟨⟨rfl,c.ix F⟩,?_⟩;cbv;refine O.load hx c.eq (λcs k=>?_);have k:cs=[.string x]:=k;subst k;cbv;rw[al A];refine ak r ?_;cbv;refine Fs aJh u9 g (key:=.string x) True.intro ?_ (λh4 W J t4=>?_)
  .intro p S e;obtain⟨w,U,rfl⟩:=List.mem_map.1 S;cases e;obtain⟨j,f⟩:=List.getElem?_of_mem U;rw[List.getElem?_take]at f;split at f
   .rename_i X;have D:=List.getElem?_eq_some_iff.1 f;have E:=List.getElem?_eq_some_iff.1 hx;have:=List.pairwise_iff_getElem.1 Ik j i D.1 E.1 X;rw[D.2,E.2]at this;exact this rfl
   cases f
  cbv;refine⟨41-(i+1),_,by omega,by constructor<;>cbv,i+1,c.succ (A:=A),rfl,by omega,Kp.new H a (J.sub (by simp)),J _ _ r (by simpa using λe=>B (Eq.symm e)),?_,O.mono (t4 _)⟩
  rw[List.take_add_one,hx];simpa[yf]using W
 have jO:=c.ge (A:=A) (len:=41) d;cbv;have:i=41:=by omega
 subst this;exact⟨rfl,H,m,a,r,g⟩
end Go.S
