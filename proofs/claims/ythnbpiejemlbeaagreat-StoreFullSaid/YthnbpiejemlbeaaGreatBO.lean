import Derived.Test.YthnbpiejemlbeaaGreatBE
import Derived.Test.YthnbpiejemlbeaaGreatBG
import Derived.Test.YthnbpiejemlbeaaGreatI2b
set_option linter.all false
set_option maxRecDepth 100000
set_option maxHeartbeats 8000000
namespace Go.S
open Go.Sx Go.Proofs
variable {A:Ar}{a bytes c cap e f i m n p q:Nat}{o1 o2:Option (Option Addr×Nat)}{b d:Option Addr}{k:Value->ab->Prop}{h h' h0:ab}
structure pa where
 id:Int
 JL:List cC
structure jE where
 next:Int
 rP:List pa
 lW:List xT
 Jx:List (List pa)
def gB:Sh pa where
 n:=2
 R h cs t:=∃b n c,cs=[.int .i64 t.id,.slice b n c]/\Sl 161 aV h (.slice b n c) t.JL
 len:=by rintro h cs x ⟨_,_,_,rfl,-⟩;rfl
 one:=by rintro h cs x ⟨_,_,_,rfl,-⟩;rfl
 tys:=[161,45]
 mono:=by rintro h h' cs x hl ⟨b,n,c,rfl,q⟩;exact⟨b,n,c,rfl,q.mono (hl.sub)⟩
abbrev jX:Sh (List pa):=sA 172 gB
abbrev je:List Nat:=[172,47,224,161,45]
structure vR(h:ab)(b1:Option Addr)(n1 c1:Nat)(b2:Option Addr)(n2 c2:Nat)(b3:Option Addr)(n3 c3:Nat)(L:jE):Prop where
 rP:Sl 172 gB h (.slice b1 n1 c1) L.rP
 lW:Sl 224 nJ h (.slice b2 n2 c2) L.lW
 Jx:Sl 47 jX h (.slice b3 n3 c3) L.Jx
theorem vR.ls{a c:Option Addr}{d g:Nat}{L:jE}(q:vR h b n d a g e c i f L)(l:bV je h h'):vR h' b n d a g e c i f L:=
 ⟨q.rP.mono (l.sub),q.lW.mono (l.sub),q.Jx.mono (l.sub)⟩
theorem vR.le{a c:Option Addr}{d g:Nat}{L:jE}(q:vR h b n d a g e c i f L)(l:Le h h'):vR h' b n d a g e c i f L:=q.ls (l.t _)
def rH:pa:=⟨0,[]⟩
theorem Nt{xs:List xT}{len:Nat}(q:Sl 224 nJ h (.slice b len cap) xs):
 Ct 118 [.slice b len cap] h (λv h'=>Le h h'/\∃d f,v=.slice d len f/\aU 224 nJ h h' (.slice d len f) xs):=by
 refine an aQE Tryz.func118 λA k=>?_;cbv;refine aJ (λa=>?_) (λa=>?_)
 .rw[k.yP]at a;cbv;have m:b=none:=by cases b<;>simp at a |-
  subst m;have hl:len=0:=by
   rcases Nat.eq_zero_or_pos len with e|e
   .exact e
   have:=q.aQ e;cases this
  have:=q.len;have hx:xs=[]:=List.eq_nil_of_length_eq_zero (by omega);subst hx hl;exact⟨Le.refl _,none,0,rfl,aU.nil⟩
 cbv;intro r j C s;have l:Le h j:=by rw[s];exact Le.set C
 cbv;refine cI (q.mono (l.t _)) (by simp[nJ]) rfl (by decide) (λn=>?_) (λt c p e1 o g i=>?_)
 .cbv;have:=q.len;have hx:xs=[]:=List.eq_nil_of_length_eq_zero (by omega);subst hx n;exact⟨l,_,_,rfl,aU.nil⟩
 cbv;exact⟨l.trans g,_,_,rfl,i.buf (l.none e1) q.len⟩
theorem bZZ{i:Int}{J:List cC}(q:Sl 161 aV h (.slice b n c) J)
 (j:∀h' f e,Le h h'->Sl 161 aV h' (.slice f n e) J->k (.agg #[.int .i64 i,.slice f n e]) h'):
 Ct 239 [.agg #[.int .i64 i,.slice b n c]] h k:=by
 refine an dXV Tryz.func239 λA o=>?_;cbv;refine NK q (λg a d l m=>?_);have:=j g a d l m;cbv;exact this
theorem aQX{xs:List pa}(q:Sl 172 gB h (.slice b n c) xs)(R:∀h' j c',Le h h'->Sl 172 gB h' (.slice j n c') xs->k (.slice j n c') h'):
 Ct 238 [.slice b n c,.func (.func 239) #[] #[]] h k:=by
 have l:=q.len;obtain⟨jH,fN⟩:=q.bound;have rR:∀h,gB.R h [.int .i64 0,.slice none 0 0] rH:=λh=>⟨_,_,_,rfl,Sl.nil⟩;refine an aQs Tryz.func238 λA Q=>?_;cbv;refine iB (s:=gB) (x:=rH) rR (by omega) (by decide) (λf M E V o1=>?_);obtain⟨J,Z⟩:∃J:Nat->Int->ab->Prop,∀w z h',J w z h'=(∃i,aK z i/\w=n-i/\i<=n/\Le h h'/\cA 172 gB h' f n (xs.take i++List.replicate (n-i) rH)):=⟨_,λ_ _ _=>rfl⟩;have m:J n 0 M:=by rw[Z];exact⟨0,⟨rfl⟩,rfl,by omega,V,o1⟩
 cbv;refine aG.go (G:=Int) (λz=>[(13,.v (.int .i64 z))]) (λ_=>[]) (λw z h'=>J w z h') n 0 (by constructor<;>cbv) m ?_
 intro w z N p;rw[Z]at p;cbv;obtain⟨i,d,hw,hi,g,o2⟩:=p;have fl:A .ay .lss z (A .nat n)=decide (i<n):=by rw[aD A,d.eq,Q.nat];exact decide_eq_decide.2 (by show(i:Int)<(n:Int)↔_;omega)
 rw[fl];by_cases e:i<n
 .obtain⟨x,hx⟩:=bn xs i;have ix:=d.ix e;have y:n-(i+1)<w:=by omega
  have T:=d.succ (A:=A);have F:=ng (x0:=rH) hx e l;have L:i<(xs.take i++List.replicate (n-i) (rH:pa)).length:=by rw[List.length_append,List.length_replicate,List.length_take];omega
  have I:∀h',Le h h'->cA 172 gB h' f n (xs.take (i+1)++List.replicate (n-(i+1)) rH)->J (n-(i+1)) (A .aC .add .i64 z 1) h':=λh' U o'=>by
   rw[Z];exact⟨i+1,T,rfl,by omega,U,o'⟩
  rw[decide_eq_true e];clear fl Z m;generalize xs.take i++List.replicate (n-i) rH=ys at *;generalize xs.take (i+1)++List.replicate (n-(i+1)) rH=zs at *;cbv;refine⟨⟨q.aQ,ix⟩,?_⟩;cbv;refine(q.mono (g.t _)).load hx d.eq (λcs B=>?_);obtain⟨b1,t,c1,rfl,K⟩:=B;have hR:∀h' P Y,Sl 161 aV h' (.slice P t Y) x.JL->gB.R h' [.int .i64 x.id,.slice P t Y] x:=λh' P Y a=>⟨_,_,_,rfl,a⟩;generalize x.id=xn at *;cbv;refine bZZ K (λO C D r X=>?_);have v:=hR O C D X;cbv;refine⟨⟨rfl,ix⟩,?_⟩;cbv;refine(o2.mono (r.t _)).setAt (by decide) (i:=i) L d.eq rfl v (λo S t4 u=>?_);rw[F]at u;have W:Le h o:=(g.trans r).aE (bs:=[f]) (by simpa using E) S;have:=I o W u;clear I;cbv;refine⟨n-(i+1),A .aC .add .i64 z 1,y,by constructor<;>cbv,this⟩
 have H:i=n:=by omega
 have wW:xs.take i++List.replicate (n-i) rH=xs:=by rw[H,Nat.sub_self,List.take_of_length_le (by omega)];simp
 rw[wW]at o2;have:=R N (some ⟨f,0,none⟩) n g (o2.sl l);rw[decide_eq_false e];cbv;exact this
theorem ND{xs:List pa}(q:Sl 172 gB h (.slice b n c) xs)(e:∀h' a c',Le h h'->Sl 172 gB h' (.slice a n c') xs->k (.slice a n c') h'):
 Ct 117 [.slice b n c] h k:=by
 refine an aQF Tryz.func117 λA g=>?_;cbv;refine aQX q (λd b c l f=>?_);have:=e d b c l f;cbv;exact this
theorem aQZ{xs:List (List pa)}(q:Sl 47 jX h (.slice b n c) xs)(M:∀h' f c',Le h h'->Sl 47 jX h' (.slice f n c') xs->k (.slice f n c') h'):
 Ct 119 [.slice b n c,.func (.func 117) #[] #[]] h k:=by
 have l:=q.len;obtain⟨jH,X⟩:=q.bound;have T:∀h,jX.R h [.slice none 0 0] []:=λh=>⟨_,rfl,Sl.nil⟩;refine an aQD Tryz.func119 λA L=>?_;cbv;refine iB (s:=jX) (x:=[]) T (by omega) (by decide) (λe H C Q o1=>?_);obtain⟨J,Z⟩:∃J:Nat->Int->ab->Prop,∀w z h',J w z h'=(∃i,aK z i/\w=n-i/\i<=n/\Le h h'/\cA 47 jX h' e n (xs.take i++List.replicate (n-i) [])):=⟨_,λ_ _ _=>rfl⟩;have j:J n 0 H:=by rw[Z];exact⟨0,⟨rfl⟩,rfl,by omega,Q,o1⟩
 cbv;refine aG.go (G:=Int) (λz=>[(13,.v (.int .i64 z))]) (λ_=>[]) (λw z h'=>J w z h') n 0 (by constructor<;>cbv) j ?_
 intro w z K o;rw[Z]at o;cbv;obtain⟨i,a,hw,hi,g,o2⟩:=o;have fl:A .ay .lss z (A .nat n)=decide (i<n):=by rw[aD A,a.eq,L.nat];exact decide_eq_decide.2 (by show(i:Int)<(n:Int)↔_;omega)
 rw[fl];by_cases d:i<n
 .obtain⟨x,hx⟩:=bn xs i;have ix:=a.ix d;have y:n-(i+1)<w:=by omega
  have O:=a.succ (A:=A);have F:=ng (x0:=[]) hx d l;have E:i<(xs.take i++List.replicate (n-i) ([]:(List pa))).length:=by rw[List.length_append,List.length_replicate,List.length_take];omega
  have I:∀h',Le h h'->cA 47 jX h' e n (xs.take (i+1)++List.replicate (n-(i+1)) [])->J (n-(i+1)) (A .aC .add .i64 z 1) h':=λh' P o'=>by
   rw[Z];exact⟨i+1,O,rfl,by omega,P,o'⟩
  rw[decide_eq_true d];clear fl Z j;generalize xs.take i++List.replicate (n-i) []=ys at *;generalize xs.take (i+1)++List.replicate (n-(i+1)) []=zs at *;cbv;refine⟨⟨q.aQ,ix⟩,?_⟩;cbv;refine(q.mono (g.t _)).load hx a.eq (λcs B=>?_);obtain⟨v,rfl,t⟩:=B;obtain⟨vb,u,vc,rfl⟩:∃vb u vc,v=.slice vb u vc:=by obtain⟨f,cap,e1,-⟩:=t.out;exact⟨_,_,_,e1⟩
  cbv;refine ND t (λY U V p S=>?_);cbv;refine⟨⟨rfl,ix⟩,?_⟩;cbv;refine(o2.mono (p.t _)).setAt (by decide) (i:=i) E a.eq rfl ⟨_,rfl,S⟩ (λm N t4 r=>?_);rw[F]at r;have R:Le h m:=(g.trans p).aE (bs:=[e]) (by simpa using C) N;have:=I m R r;clear I;cbv;refine⟨n-(i+1),A .aC .add .i64 z 1,y,by constructor<;>cbv,this⟩
 have D:i=n:=by omega
 have W:xs.take i++List.replicate (n-i) []=xs:=by rw[D,Nat.sub_self,List.take_of_length_le (by omega)];simp
 rw[W]at o2;have:=M K (some ⟨e,0,none⟩) n g (o2.sl l);rw[decide_eq_false d];cbv;exact this
theorem aQR{x:Int}{c e:Option Addr}{j b:Nat}{o:List pa}{bs:List xT}{t:List (List pa)}(q:vR h c n f d a j e b m ⟨x,o,bs,t⟩)
 (D:∀h' P Y g i B p,Le h h'->vR h' P n Y g a i B b p ⟨x,o,bs,t⟩->k (.agg #[.int .i64 x,.slice P n Y,.slice g a i,.slice B b p]) h'):
 Ct 48 [.agg #[.int .i64 x,.slice c n f,.slice d a j,.slice e b m]] h k:=by
 refine an eXF Tryz.func48 λA K=>?_;cbv;refine ND q.rP (λI u y r E=>?_);cbv;refine(Nt (q.lW.mono (r.t _))).mono (λv J hR=>?_);obtain⟨s,g,i,rfl,G⟩:=hR;have F:=r.trans s;cbv;refine aQZ (q.Jx.mono (F.t _)) (λC w z l H=>?_);have:=D C u y g i w z (F.trans l) ⟨E.mono ((s.trans l).t _),G.sl.mono (l.t _),H⟩;cbv;exact this
theorem LN{j:Int}{xs:List cC}(q:Sl 161 aV h (.slice b n c) xs)
 (T:∀h' o c',Le h h'->aU 161 aV h h' (.slice o n c') xs->k (.agg #[.int .i64 j,.slice o n c']) h'):
 Ct 125 [.agg #[.int .i64 j,.slice b n c]] h k:=by
 have l:=q.len;obtain⟨jH,fN⟩:=q.bound;have rR:∀h,aV.R h [.string ⟨#[]⟩,.int .i64 0,.slice none 0 0] rN:=λh=>⟨_,_,_,rfl,Sl.nil⟩;refine an dJL Tryz.func125 λA S=>?_;cbv;refine iB (s:=aV) (x:=rN) rR (by omega) (by decide) (λf O r X o1=>?_);obtain⟨J,Z⟩:∃J:Nat->Int->ab->Prop,∀w z h',J w z h'=(∃i,aK z i/\w=n-i/\i<=n/\Le h h'/\cA 161 aV h' f n (xs.take i++List.replicate (n-i) rN)):=⟨_,λ_ _ _=>rfl⟩;have p:J n 0 O:=by rw[Z];exact⟨0,⟨rfl⟩,rfl,by omega,X,o1⟩
 cbv;refine aG.go (G:=Int) (λz=>[(13,.v (.int .i64 z))]) (λ_=>[(1,[.int .i64 j,.slice b n c]),(2,[.int .i64 0,.slice none 0 0])]) (λw z h'=>J w z h') n 0 (by constructor<;>cbv) p ?_
 intro w z Q u;rw[Z]at u;cbv;obtain⟨i,d,hw,hi,m,o2⟩:=u;have fl:A .ay .lss z (A .nat n)=decide (i<n):=by rw[aD A,d.eq,S.nat];exact decide_eq_decide.2 (by show(i:Int)<(n:Int)↔_;omega)
 rw[fl];by_cases e:i<n
 .obtain⟨x,hx⟩:=bn xs i;have ix:=d.ix e;have D:n-(i+1)<w:=by omega
  have V:=d.succ (A:=A);have F:=ng (x0:=rN) hx e l;have N:i<(xs.take i++List.replicate (n-i) (rN:cC)).length:=by rw[List.length_append,List.length_replicate,List.length_take];omega
  have I:∀h',Le h h'->cA 161 aV h' f n (xs.take (i+1)++List.replicate (n-(i+1)) rN)->J (n-(i+1)) (A .aC .add .i64 z 1) h':=λh' W o'=>by
   rw[Z];exact⟨i+1,V,rfl,by omega,W,o'⟩
  rw[decide_eq_true e];clear fl Z p;generalize xs.take i++List.replicate (n-i) rN=ys at *;generalize xs.take (i+1)++List.replicate (n-(i+1)) rN=zs at *;cbv;refine⟨⟨q.aQ,ix⟩,?_⟩;cbv;refine(q.mono (m.t _)).load hx d.eq (λcs E=>?_);obtain⟨b1,B,c1,rfl,K⟩:=E;have hR:∀h' g Y,Sl 45 aS h' (.slice g B Y) x.row->aV.R h' [.string x.table,.int .i64 x.op,.slice g B Y] x:=λh' g Y a=>⟨_,_,_,rfl,a⟩;generalize x.table=xn at *;generalize x.op=xk at *;cbv;refine(zA K).mono (λv R P=>?_);obtain⟨y,H,L,rfl,q3⟩:=P;have P:=hR R H L q3.sl;cbv;refine⟨⟨rfl,ix⟩,?_⟩;cbv;refine(o2.mono (y.t _)).setAt (by decide) (i:=i) N d.eq rfl P (λt U t4 C=>?_);rw[F]at C;have l4:Le h t:=(m.trans y).aE (bs:=[f]) (by simpa using r) U;have:=I t l4 C;clear I;cbv;refine⟨n-(i+1),A .aC .add .i64 z 1,D,by constructor<;>cbv,this⟩
 have M:i=n:=by omega
 have wW:xs.take i++List.replicate (n-i) rN=xs:=by rw[M,Nat.sub_self,List.take_of_length_le (by omega)];simp
 rw[wW]at o2;have:=T Q (some ⟨f,0,none⟩) n m (o2.buf r l);rw[decide_eq_false e];cbv;exact this
theorem NG{xs:List pa}(q:Sl 172 gB h (.slice b n c) xs)
 (R:∀h' j c',Le h h'->aU 172 gB h h' (.slice j n c') xs->k (.slice j n c') h'):
 Ct 242 [.slice b n c] h k:=by
 have l:=q.len;obtain⟨jH,fN⟩:=q.bound;have rR:∀h,gB.R h [.int .i64 0,.slice none 0 0] rH:=λh=>⟨_,_,_,rfl,Sl.nil⟩;refine an dXS Tryz.func242 λA Q=>?_;cbv;refine iB (s:=gB) (x:=rH) rR (by omega) (by decide) (λf M p V o1=>?_);obtain⟨J,Z⟩:∃J:Nat->Int->ab->Prop,∀w z h',J w z h'=(∃i,aK z i/\w=n-i/\i<=n/\Le h h'/\cA 172 gB h' f n (xs.take i++List.replicate (n-i) rH)):=⟨_,λ_ _ _=>rfl⟩;have m:J n 0 M:=by rw[Z];exact⟨0,⟨rfl⟩,rfl,by omega,V,o1⟩
 cbv;refine aG.go (G:=Int) (λz=>[(11,.v (.int .i64 z))]) (λ_=>[]) (λw z h'=>J w z h') n 0 (by constructor<;>cbv) m ?_
 intro w z N r;rw[Z]at r;cbv;obtain⟨i,d,hw,hi,g,o2⟩:=r;have fl:A .ay .lss z (A .nat n)=decide (i<n):=by rw[aD A,d.eq,Q.nat];exact decide_eq_decide.2 (by show(i:Int)<(n:Int)↔_;omega)
 rw[fl];by_cases e:i<n
 .obtain⟨x,hx⟩:=bn xs i;have ix:=d.ix e;have B:n-(i+1)<w:=by omega
  have T:=d.succ (A:=A);have F:=ng (x0:=rH) hx e l;have L:i<(xs.take i++List.replicate (n-i) (rH:pa)).length:=by rw[List.length_append,List.length_replicate,List.length_take];omega
  have I:∀h',Le h h'->cA 172 gB h' f n (xs.take (i+1)++List.replicate (n-(i+1)) rH)->J (n-(i+1)) (A .aC .add .i64 z 1) h':=λh' U o'=>by
   rw[Z];exact⟨i+1,T,rfl,by omega,U,o'⟩
  rw[decide_eq_true e];clear fl Z m;generalize xs.take i++List.replicate (n-i) rH=ys at *;generalize xs.take (i+1)++List.replicate (n-(i+1)) rH=zs at *;cbv;refine⟨⟨q.aQ,ix⟩,?_⟩;cbv;refine(q.mono (g.t _)).load hx d.eq (λcs C=>?_);obtain⟨b1,u,c1,rfl,K⟩:=C;have hR:∀h' P Y,Sl 161 aV h' (.slice P u Y) x.JL->gB.R h' [.int .i64 x.id,.slice P u Y] x:=λh' P Y a=>⟨_,_,_,rfl,a⟩;generalize x.id=xn at *;cbv;refine LN K (λO D E t X=>?_);have y:=hR O D E X.sl;cbv;refine⟨⟨rfl,ix⟩,?_⟩;cbv;refine(o2.mono (t.t _)).setAt (by decide) (i:=i) L d.eq rfl y (λo S t4 v=>?_);rw[F]at v;have W:Le h o:=(g.trans t).aE (bs:=[f]) (by simpa using p) S;have:=I o W v;clear I;cbv;refine⟨n-(i+1),A .aC .add .i64 z 1,B,by constructor<;>cbv,this⟩
 have H:i=n:=by omega
 have wW:xs.take i++List.replicate (n-i) rH=xs:=by rw[H,Nat.sub_self,List.take_of_length_le (by omega)];simp
 rw[wW]at o2;have:=R N (some ⟨f,0,none⟩) n g (o2.buf p l);rw[decide_eq_false e];cbv;exact this
theorem aXl{f:FuncId}{args:List Value}{P:Value->ab->Prop}(l:Le h0 h)(c:Ct f args h0 (λv h'=>Le h0 h'/\P v h'))
 (b:∀v e h',P v e->Le h0 e->Le e h'->Le h h'->Fr h0 h e h'->k v h'):Ct f args h k:=
 Dr.cJT l c (λv A h' hR a fr=>b v A h' hR.2 hR.1 a (fr.le l hR.1 a) fr)
theorem _root_.Go.Sx.Fr.lt{T G:ab}(fr:Fr T h G h')(l:Le T h)(f:Le G h'){tys:List Nat}(t:bV tys T G):bV tys h h':=by
 intro b c e J d a;cases P:T b with
 |none=>exact(fr b _ P a).1
 |some o=>have:=l _ _ P;rw[a]at this;cases this;exact f _ _ (t _ _ _ _ d P)
theorem _root_.Go.Sx.aU.Nx{a:Type}{s:Sh a}{T G:ab}{v:Value}{xs:List a}(q:aU e s T h v xs)(t:bV (e::s.tys) h h')(fr:Fr T h G h'):aU e s G h' v xs:=by
 rcases q.out with g| ⟨n,cap,b,d,o⟩
 .exact⟨.inl g⟩
 obtain⟨c,f,-⟩:=o.out;exact⟨.inr ⟨n,cap,b,(fr n _ d f).2,o.mono t⟩⟩
theorem _root_.Go.Sx.Dq.stat{T:ab}(l:Le T h){a:Addr}{cs:List Value}{i:ab->Prop}(q:Dq T a cs i){k:ab->Prop}(s:∀G h',i G->Le G h'->Fr T h G h'->k h'):Dq h a cs k:=by
 obtain⟨c,e,fr,j,f,m,p,r⟩:=q.out;refine⟨c,e,fr,j,l _ _ f,m,p,λh' g=>s _ h' (r _ rfl) (λb o d=>?_) (λb o n d=>?_)⟩
 .rw[g];by_cases x:b=a.block
  .subst x;rw[ae]at d |-;exact d
  rw[bN x]at d |-;exact l _ _ d
 have x:b≠a.block:=λe=>by rw[e,f]at n;cases n
 rw[g,bN x,bN x];exact⟨d,n⟩
theorem _root_.Go.Sx.od.stat{T:ab}(l:Le T h){n c:Int}{z:List Value}{g:Value->ab->Prop}(q:od T e n c bytes z g)(p:∀v G h',g v G->Le G h'->Fr T h G h'->k v h'):od h e n c bytes z k:=by
 obtain⟨i,j,m⟩:=q;refine⟨i,j,λd h' e1 f=>p _ _ h' (m d _ (l.none e1) rfl) (λb o a=>?_) (λb o r a=>?_)⟩
 .rw[f];by_cases x:b=d
  .subst x;rw[ae]at a |-;exact a
  rw[bN x]at a |-;exact l _ _ a
 have x:b≠d:=λe=>by rw[e,e1]at a;cases a
 rw[f,bN x,bN x];exact⟨a,r⟩
structure LL(h hT h':ab)(n1 n2 n:Nat)(op:List pa)(bs:List xT)(o1 o2:Option (Option Addr×Nat))(o3:Option Nat):Prop where
 l1:Le h hT
 l2:Le hT h'
 a:∀x,o1=some x->aU 172 gB hT h' (.slice x.1 n1 x.2) op
 b:∀x,o2=some x->aU 224 nJ h hT (.slice x.1 n2 x.2) bs
 c:∀nb,o3=some nb->h nb=none/\cA 47 jX hT nb n (List.replicate n [])
theorem LL.s1{T:ab}{g:Nat}{d:List pa}{bs:List xT}{i:Option Nat}{e:Option Addr}(q:LL h T h' a g n d bs none o2 i)(s:Sl 172 gB h (.slice e a f) d)
 (j:∀p b c,LL h T p a g n d bs (some (b,c)) o2 i->k (.slice b a c) p):Ct 242 [.slice e a f] h' k:=
 NG (s.mono ((q.l1.trans q.l2).t _)) (λp b c l o=>j p b c ⟨q.l1,q.l2.trans l,λx hx=>by cases hx;exact o.base q.l2,q.b,q.c⟩)
theorem LL.s2{T:ab}{l:List pa}{bs:List xT}{o:Option Nat}(q:LL h T h' f a n l bs o1 none o)(w:Sl 224 nJ h (.slice d a e) bs)
 (s:∀G m b c,LL h G m f a n l bs o1 (some (b,c)) o->k (.slice b a c) m):Ct 118 [.slice d a e] h' k:=
 aXl q.l2 ((Nt (w.mono (q.l1.t _))).mono (λv h' hR=>hR)) (λv K r hR g u F i=>by
  obtain⟨J,t,rfl,o2⟩:=hR;exact s K r J t ⟨q.l1.trans g,u,λx hx=>(q.a x hx).Nx (F.t _) i,λx hx=>by cases hx;exact o2.base q.l1,λj p=>⟨(q.c j p).1,(q.c j p).2.mono (g.t _)⟩⟩)
theorem LL.s3[bf A]{T:ab}{d:Nat}{o:List pa}{bs:List xT}(q:LL h T h' c d n o bs o1 o2 none)(u:n<=2^40)(r:bytes<=128)
 (t:∀G p b,LL h G p c d n o bs o1 o2 (some b)->k (.slice (some ⟨b,0,none⟩) n n) p):od h' 47 (A .nat n) (A .nat n) bytes [.slice none 0 0] k:=
 od.stat q.l2 (iB (s:=jX) (x:=[]) (λ_=>⟨_,rfl,Sl.nil⟩) u r (k:=λv X=>∃b,v=.slice (some ⟨b,0,none⟩) n n/\T b=none/\Le T X/\cA 47 jX X b n (List.replicate n [])) (λb h' e1 i j=>⟨b,rfl,e1,i,j⟩)) (λv X m hR l e=>by
  obtain⟨b,rfl,g,a,w⟩:=hR;exact t X m b ⟨q.l1.trans a,l,λx hx=>(q.a x hx).Nx (e.lt q.l2 l (a.t _)) e,λx hx=>(q.b x hx).mono (a.t _),λy f=>by cases f;exact⟨q.l1.none g,w⟩⟩)
theorem _root_.Go.Sx.vK.le(l:Le h h'){a:Addr}{k:List Value->Prop}(q:vK h a n k):vK h' a n k:=by obtain⟨cs,⟨b,d,c,e,fr,f,g⟩,i⟩:=q.out;exact⟨cs,⟨b,d,c,e,fr,l _ _ f,g⟩,i⟩
theorem _root_.Go.Sx.Sl.ME{a:Type}[bf A]{s:Sh a}{len:Nat}{xs:List a}(q:Sl e s h (.slice b len cap) xs)(l:Le h h'){x:a}(hx:xs[i]? =some x){n:Int}(d:n=(i:Int))
 {k:List Value->Prop} (c:∀cs,s.R h cs x->k cs):vK h' (A.ia b n s.n) s.n k:=vK.le l (q.load hx d c)
theorem bJc{B:Int}{f j:Option Addr}{d:Nat}{y:List pa}{bs:List xT}{xs:List (List pa)}(ql:vR h f a m j d p b n c ⟨B,y,bs,xs⟩)
 (hk:∀T h' P Y r u jB jA,Le h T->Le T h'->aU 172 gB T h' (.slice P a Y) y->aU 224 nJ h T (.slice r d u) bs->aU 47 jX h T (.slice jB n jA) xs->
  k (.agg #[.int .i64 B,.slice P a Y,.slice r d u,.slice jB n jA]) h'):
 Ct 124 [.agg #[.int .i64 B,.slice f a m,.slice j d p,.slice b n c]] h k:=by
 obtain⟨A,hA⟩:=Ar.ex;have q:Sl 47 jX h (.slice b n c) xs:=ql.Jx;have s:=q.len;obtain⟨jH,fN⟩:=q.bound;have rR:∀h,jX.R h [.slice none 0 0] []:=λh=>⟨_,rfl,Sl.nil⟩;obtain⟨C,V⟩:∃C:(Option Addr×Nat×Option Addr×Nat×Nat)->ab->Prop,∀g h',C g h'=(∃T,LL h T h' a d n y bs (some (g.1,g.2.1)) (some (g.2.2.1,g.2.2.2.1)) (some g.2.2.2.2)):=⟨_,λ_ _=>rfl⟩;have Zt:∀T h' f m j p e,LL h T h' a d n y bs (some (f,m)) (some (j,p)) (some e)->C (f,m,j,p,e) h':=λT h' f m j p e q=>by rw[V];exact⟨T,q⟩
 have q0:LL h h h a d n y bs none none none:=⟨Le.refl _,Le.refl _,λ_ hx=>(by cases hx),λ_ hx=>(by cases hx),λ_ hx=>(by cases hx)⟩;have qo:=ql.rP;have qk:=ql.lW;have Q:n<=2^40:=by omega
 refine ik A [2] (ai dJM.au dJM.aN) Tryz.func124 rfl (by kernel_rfl) ?_;cbv;refine ny.go (G:=Option Addr×Nat×Option Addr×Nat×Nat) (λ_=>[(3,.loc 3 0)]) (λg=>[(1,[.int .i64 B,.slice f a m,.slice j d p,.slice b n c]),(2,[.int .i64 0,.slice none 0 0,.slice none 0 0,.slice none 0 0]),(3,[.int .i64 B,.slice g.1 a g.2.1,.slice g.2.2.1 d g.2.2.2.1,.slice (some ⟨g.2.2.2.2,0,none⟩) n n])]) C ?_ ?_
 .cbv;clear V hk;repeat' first
   | (refine⟨(_,_,_,_,_),⟨?_,?_,?_⟩,Zt _ _ _ _ _ _ _ (by assumption)⟩<;>cbv)
   | (refine⟨?_,?_⟩)
   | (refine LL.s1 (by assumption) qo (λ_ _ _ _=>?_);cbv)
   | (refine LL.s2 (by assumption) qk (λ_ _ _ _ _=>?_);cbv)
   | (refine LL.s3 (by assumption) Q (by decide) (λ_ _ _ _=>?_);cbv)
 intro g h1 hC;rw[V]at hC;cbv;obtain⟨P,Y,r,u,e⟩:=g;obtain⟨T,E⟩:=hC;have o1:aU 172 gB T h1 (.slice P a Y) y:=E.a _ rfl;have o2:aU 224 nJ h T (.slice r d u) bs:=E.b _ rfl;obtain⟨dp,H⟩:=E.c e rfl;have D:=E.l1;have l1:=E.l2;clear E Zt V;obtain⟨J,I⟩:∃J:Nat->Int->ab->Prop,∀w z h',J w z h'=(∃i T,aK z i/\w=n-i/\i<=n/\Le h T/\Le T h'/\aU 172 gB T h' (.slice P a Y) y/\aU 224 nJ h T (.slice r d u) bs/\cA 47 jX T e n (xs.take i++List.replicate (n-i) [])):=⟨_,λ_ _ _=>rfl⟩;have df:J n 0 h1:=by rw[I];exact⟨0,T,⟨rfl⟩,rfl,by omega,D,l1,o1,o2,H⟩
 refine aG.go (G:=Int) (λz=>[(22,.v (.int .i64 z))]) (λ_=>[(1,[.int .i64 B,.slice f a m,.slice j d p,.slice b n c]),(2,[.int .i64 0,.slice none 0 0,.slice none 0 0,.slice none 0 0]),(3,[.int .i64 B,.slice P a Y,.slice r d u,.slice (some ⟨e,0,none⟩) n n])]) (λw z h'=>J w z h') n 0 (by constructor<;>cbv) df ?_
 intro w z h2 hI;rw[I]at hI;cbv;obtain⟨i,T,F,hw,hi,D,l2,o1,o2,H⟩:=hI;have fl:A .ay .lss z (A .nat n)=decide (i<n):=by rw[aD A,F.eq,hA.nat];exact decide_eq_decide.2 (by show(i:Int)<(n:Int)↔_;omega)
 rw[fl];by_cases L:i<n
 .obtain⟨x,hx⟩:=bn xs i;have ix:=F.ix L;have aF:n-(i+1)<w:=by omega
  have kG:=F.succ (A:=A);have FT:=ng (x0:=[]) hx L s;have gh:i<(xs.take i++List.replicate (n-i) ([]:List pa)).length:=by rw[List.length_append,List.length_replicate,List.length_take];omega
  have bI:∀T h',Le h T->Le T h'->aU 172 gB T h' (.slice P a Y) y->aU 224 nJ h T (.slice r d u) bs->cA 47 jX T e n (xs.take (i+1)++List.replicate (n-(i+1)) [])->J (n-(i+1)) (A .aC .add .i64 z 1) h':=λT h' a1 a2 a3 a4 a5=>by
   rw[I];exact⟨i+1,T,kG,rfl,by omega,a1,a2,a3,a4,a5⟩
  rw[decide_eq_true L];clear fl I df;generalize xs.take i++List.replicate (n-i) []=ys at *;generalize xs.take (i+1)++List.replicate (n-(i+1)) []=zs at *;cbv;refine⟨⟨q.aQ,ix⟩,?_⟩;cbv;refine q.ME (D.trans l2) hx F.eq (λcs ao=>?_);obtain⟨v,rfl,qv⟩:=ao;obtain⟨vb,M,vc,rfl⟩:∃vb M vc,v=.slice vb M vc:=by obtain⟨b',cap,e1,-⟩:=qv.out;exact⟨_,_,_,e1⟩
  cbv;refine aXl l2 (NG (qv.mono (D.t _)) (k:=λv h'=>Le T h'/\∃b c,v=.slice b M c/\aU 172 gB T h' (.slice b M c) x) (λh' b c l o=>⟨l,b,c,rfl,o⟩)) (λv X h3 hR K l3 Qr O=>?_);obtain⟨b3,c3,rfl,q3⟩:=hR;have N:=o1.Nx (Qr.t _) O;have R:=o2.mono (K.t _);have U:=H.mono (K.t _);have W:=D.trans K;cbv;repeat (refine⟨⟨_,rfl,rfl⟩,?_⟩;cbv)
  refine⟨⟨rfl,ix⟩,?_⟩;cbv;refine Dq.stat l3 (U.setAt (by decide) (i:=i) gh F.eq rfl (x:=x) ⟨_,rfl,q3.sl⟩ (k:=λh'=>Kp [e] X h'/\(∀tys,47∉tys->bV tys X h')/\cA 47 jX h' e n (ys.set i x)) (λh' k t o=>⟨k,t,o⟩)) (λS h4 hR l4 Z=>?_);obtain⟨k4,t4,o4⟩:=hR;rw[FT]at o4;have:=bI S h4 (W.aE (bs:=[e]) (by simpa using dp) k4) l4 (N.Nx (Z.lt l3 l4 (t4 _ (by decide))) Z) (R.mono (t4 _ (by decide))) o4;clear bI;cbv;refine⟨n-(i+1),A .aC .add .i64 z 1,aF,by constructor<;>cbv,this⟩
 have eC:i=n:=by omega
 have wW:xs.take i++List.replicate (n-i) []=xs:=by rw[eC,Nat.sub_self,List.take_of_length_le (by omega)];simp
 rw[wW]at H;have:=hk T h2 P Y r u (some ⟨e,0,none⟩) n D l2 o1 o2 (H.buf dp s);rw[decide_eq_false L];cbv;exact this
def El(bs:List xT):Bs:=((bs.getLast?).map dN).getD (List.replicate 32 0)
def IQ(op:List pa):List Bs:=op.map λt=>lU t.id t.JL
def jm(op:List pa)(bs:List xT):xT:=⟨((bs.length+1:Nat):Int),El bs,fL (IQ op),(op.length:Int)⟩
def lj(L:jE):jE:=⟨L.next,[],L.lW++[jm L.rP L.lW],L.Jx++[L.rP]⟩
structure aQl(t:pa):Prop where
 len:t.JL.length<=2^30
 cKx:∀c∈t.JL,AH c
structure NM(h0 h:ab)(p:Nat)(d l s:Int)(b1:Option Addr)(n1 c1:Nat)(b2:Option Addr)(n2 c2:Nat)(b3:Option Addr)(n3 c3:Nat)(L:jE):Prop where
 out:h p=some (.cells (List.toArray [.int .i64 L.next,.slice b1 n1 c1,.slice b2 n2 c2,.slice b3 n3 c3,.int .u32 d,.int .i32 l,.int .u32 s]) 277 (0,0))
 op:aU 172 gB h0 h (.slice b1 n1 c1) L.rP
 bk:aU 224 nJ h0 h (.slice b2 n2 c2) L.lW
 tx:aU 47 jX h0 h (.slice b3 n3 c3) L.Jx
 new:h0 p=none
 le:Le h0 h
theorem Vc{o:List pa}{t:pa}(h:o[i]? =some t):(IQ o)[i]? =some (lU t.id t.JL):=by unfold IQ;rw[List.getElem?_map,h];rfl
theorem Gx(b:xT):(dN b).length=32:=fw _
theorem NH{d l s:Int}{P b2 b3:Option Addr}{c1 c2 n3 c3:Nat}{I:Int}{o:List pa}{bs:List xT}{L:List (List pa)}(q:NM h0 h p d l s P a c1 b2 n c2 b3 n3 c3 ⟨I,o,bs,L⟩)
 (hB:∀t∈o,aQl t) (ho:o.length<=2^20) (hb:bs.length<=2^20) (ht:L.length<=2^20) 
 (hk:∀h' gJ vg ic jB tU jA,(∀tys,277∉tys->224∉tys->47∉tys->bV tys h h')->NM h0 h' p d l s none 0 0 gJ vg ic jB tU jA (lj ⟨I,o,bs,L⟩)->k (.tuple #[]) h'):
 Ct 127 [.pointer (some ⟨p,0,none⟩)] h k:=by
 obtain⟨A,hA⟩:=Ar.ex;have g0:=q.out;have ek:a=o.length:=q.op.sl.len;have dZ:n=bs.length:=q.bk.sl.len;have KQ:n3=L.length:=q.tx.sl.len;have jD:aK (A .aC .add .i64 (A .nat n) 1) (n+1):=(aK.nat n).succ (A:=A);obtain⟨j,X⟩:∃j,j=A .aC .add .i64 (A .nat n) 1:=⟨_,rfl⟩;rw[<-X]at jD;have bc:j=((bs.length+1:Nat):Int):=by rw[jD.eq,dZ]
 have hE:lj ⟨I,o,bs,L⟩=⟨I,[],bs++[⟨j,El bs,fL (IQ o),A .nat a⟩],L++[o]⟩:=by rw[bc,hA.nat,ek];rfl
 rw[hE]at hk;clear hE;have lQ:∀ {i:Nat} {t:pa},o[i]? =some t->(IQ o)[i]? =some (lU t.id t.JL):=λh=>Vc h;have ch:(IQ o).length=o.length:=by unfold IQ;simp
 generalize IQ o=E at *;obtain⟨J,N⟩:∃J:Nat->((Option Addr×Nat×Nat)×Int)->ab->Prop,∀w g h',J w g h'=(∃i,aK g.2 i/\w=a-i/\i<=a/\Le h h'/\aU 100 yA h h' (.slice g.1.1 g.1.2.1 g.1.2.2) (E.take i)):=⟨_,λ_ _ _=>rfl⟩;have df:J a ((none,0,0),0) h:=by rw[N];exact⟨0,⟨rfl⟩,rfl,by omega,Le.refl _,aU.nil⟩
 refine ik A [10] (ai dJK.au dJK.aN) Tryz.func127 rfl (by kernel_rfl) ?_;cbv;repeat (first|rw[al A] | (refine ak g0 ?_;cbv))
 refine aG.go (G:=(Option Addr×Nat×Nat)×Int) (λg=>[(2,.v (.slice g.1.1 g.1.2.1 g.1.2.2)),(13,.v (.int .i64 g.2))]) (λ_=>[]) (λw g h'=>J w g h') a ((none,0,0),0) (by constructor<;>cbv) df ?_
 intro w g h2 hI;rw[N]at hI;cbv;obtain⟨⟨gb,m,gc⟩,z⟩:=g;obtain⟨i,D,hw,hi,l2,K⟩:=hI;have D:aK z i:=D;have K:aU 100 yA h h2 (.slice gb m gc) (E.take i):=K;have nj:=K.sl.len;rw[List.length_take]at nj;have f1:A .ay .lss z (A .nat a)=decide (i<a):=by rw[aD A,D.eq,hA.nat];exact decide_eq_decide.2 (by show(i:Int)<(a:Int)↔_;omega)
 rw[f1];by_cases hc:i<a
 .rw[decide_eq_true hc];obtain⟨x,hx⟩:=bn o i;have Qw:=hB x (List.mem_of_getElem? hx);have ix:=D.ix hc;have iU:P.isSome=true:=q.op.sl.aQ;have aF:a-(i+1)<w:=by omega
  have iq:=pj (lQ hx);have bI:∀b' m' c' h',Le h h'->aU 100 yA h h' (.slice b' m' c') (E.take i++[lU x.id x.JL])->J (a-(i+1)) ((b',m',c'),A .aC .add .i64 z 1) h':=λb' m' c' h' l' q'=>by
   rw[N];exact⟨i+1,D.succ (A:=A),rfl,hc,l',by rw[iq];exact q'⟩
  have nq:m+1<=2^39:=by omega
  have qG:(lU x.id x.JL).length=32:=fw _;have bx:=q.op.sl;clear f1 N df iq lQ;generalize E.take i=Lc at *;obtain⟨V,R⟩:=x;cbv;refine⟨⟨iU,ix⟩,?_⟩;cbv;refine bx.ME l2 hx D.eq (λcs f=>?_);obtain⟨rb,rn,rc,rfl,qr⟩:=f;have qr:Sl 161 aV h (.slice rb rn rc) R:=qr;have Iv:rn<=2^30:=by rw[qr.len];exact Qw.len
  cbv;refine bJe (qr.mono (l2.t _)) Qw.cKx Iv (λh3 g l3 hg=>?_);have qG:(lU V R).length=32:=qG;generalize lU V R=RH at *;cbv;intro n4 h4 FV e4;have l4:Le h3 h4:=by rw[e4];exact Le.set FV
  have q4:=aR (s:=yA) (cs:=hl g) ((congrFun e4 n4).trans ae) (Fo (h:=h4) hg qG);clear e4;cbv;refine(K.mono ((l3.trans l4).t _)).append q4 (by decide) rfl (by decide) nq ((l2.trans l3).trans l4) (λm5 b5 c5 v cb F t5 k5 q5=>?_);have gU:=bI b5 m5 c5 v F q5;clear bI k5;cbv;refine⟨_,((b5,m5,c5),A .aC .add .i64 z 1),aF,by constructor<;>cbv,gU⟩
 rw[decide_eq_false hc];rw[List.take_of_length_le (by omega)]at K;have MV:m=a:=by omega
 subst MV;have g2:=l2 _ _ g0;clear N df lQ;cbv;repeat (first|rw[al A] | (refine ak g2 ?_;cbv)|(refine⟨⟨_,rfl,rfl⟩,?_⟩;cbv))
 refine aZS E.length K.sl (Nat.le_refl _) (λh3 g1 l3 Pk qG=>?_);have Qr:=l2.trans l3;have g3:=l3 _ _ g2;have Iw:(El bs).length=32:=by
  unfold El;cases bs.getLast? with
  |none=>rfl
  |some x=>exact Gx x
 generalize fL E=root at *;obtain⟨r,Uc⟩:∃r,r=El bs:=⟨_,rfl⟩;rw[<-Uc]at hk Iw;obtain⟨C,W⟩:∃C:(Nat->Int)->ab->Prop,∀g h',C g h'=(Le h h'/\hl g=aI r):=⟨_,λ_ _=>rfl⟩;cbv;repeat (first|rw[al A] | (refine ak g3 ?_;cbv)|(refine⟨⟨_,rfl,rfl⟩,?_⟩;cbv))
 rw[<-X];have f2:A .ay .gtr (A .nat n) 0=decide (0<n):=by rw[aX A,hA.nat];exact decide_eq_decide.2 (by show(n:Int)>0↔_;omega)
 obtain⟨z0,DC⟩:∃z0,z0=A .aC .sub .i64 (A .nat n) 1:=⟨_,rfl⟩;have Ci:0<n->aK z0 (n-1):=λh=>⟨by
  rw[DC,hA.aC,hA.nat];show IntKind.i64.wrap ((n:Int)-1)=_;rw[IntWalk.i64_in _ (by omega)];omega⟩
 refine ny.go (G:=Nat->Int) (λ_=>[]) (λg=>[(5,Xj j g g1 (A .nat m))]) C ?_ ?_
 .cbv;repeat (first|rw[al A] | (refine ak g3 ?_;cbv)|(refine⟨⟨_,rfl,rfl⟩,?_⟩;cbv))
  rw[f2];by_cases kj:0<n
  .obtain⟨x,hx⟩:=bn bs (n-1);have Z:r=dN x:=by rw[Uc];unfold El;rw[List.getLast?_eq_getElem?,show bs.length-1=n-1 from by omega,hx];rfl
   have Zt:∀g h',Le h h'->hl g=aI (dN x)->C g h':=λg h' l' hg=>by rw[W,Z];exact⟨l',hg⟩
   have Ci:=Ci kj;have ix:=Ci.ix (len:=n) (by omega);have iU:b2.isSome=true:=q.bk.sl.aQ;have bC:=q.bk.sl;rw[decide_eq_true kj];clear f2 W;cbv;repeat (first|rw[al A] | (refine ak g3 ?_;cbv)|(refine⟨⟨_,rfl,rfl⟩,?_⟩;cbv))
   rw[<-DC];refine⟨⟨iU,ix⟩,?_⟩;cbv;refine bC.ME Qr hx Ci.eq (λcs f=>?_);obtain⟨f,hp,hr⟩:=f;obtain⟨xn,xp,xr,xc⟩:=x;obtain⟨gp,S⟩:=Cr (b:=xp) hp;obtain⟨gr,Q⟩:=Cr (b:=xr) hr;have f:cs=Xj xn gp gr xc:=by rw[f,vF,S,Q]
   subst f;cbv;refine aZY S Q hp hr (λv u F aN=>?_);have B:=Zt u v (Qr.trans F) aN;clear Zt;cbv;refine⟨u,⟨?_,?_,?_⟩,B⟩<;>cbv
  have Z:r=List.replicate 32 0:=by rw[Uc];have:bs=[]:=List.eq_nil_of_length_eq_zero (by omega);subst this;rfl
  have B:C (λ_=>0) h3:=by rw[W,Z];exact⟨Qr,rfl⟩
  rw[decide_eq_false kj];clear f2 W;cbv;refine⟨_,⟨?_,?_,?_⟩,B⟩<;>cbv
 intro g h4 B;rw[W]at B;cbv;obtain⟨l4,hg⟩:=B;have g4:=l4 _ _ g0;repeat (first|rw[al A] | (refine ak g4 ?_;cbv)|(refine⟨⟨_,rfl,rfl⟩,?_⟩;cbv))
 intro nn v qJ e5;have F:Le h4 v:=by rw[e5];exact Le.set qJ
 have qn:Sl 224 nJ v (.slice (some ⟨nn,0,none⟩) 1 1) [⟨j,r,root,A .nat m⟩]:=aR (s:=nJ) (cs:=Xj j g g1 (A .nat m)) ((congrFun e5 nn).trans ae) ⟨(vF ..).trans (by rw[hg,Pk]),Iw,qG⟩;have O:=l4.trans F;have u:=F _ _ g4;clear e5;cbv;repeat (first|rw[al A] | (refine ak u ?_;cbv)|(refine⟨⟨_,rfl,rfl⟩,?_⟩;cbv))
 refine(q.bk.mono (O.t _)).app qn (by decide) rfl (by decide) (by omega) (q.le.trans O) (λm6 b6 c6 h6 Pf l6 t6 k6 u6=>?_);have g6:h6 p=_:=k6 _ _ u (.inr (.inr (λc fr e=>by cases e)));have bl:∀tys,224∉tys->bV tys h h6:=λtys e=>(O.t tys).trans (t6 tys e);have ag:=(q.op.mono (O.t _)).mono (t6 _ (by decide));have ar:=(q.tx.mono (O.t _)).mono (t6 _ (by decide));have jk:=q.new;clear k6 t6 qn u g4;cbv;repeat (first|rw[al A] | (refine ak g6 ?_;cbv)|(refine⟨⟨_,rfl,rfl⟩,?_⟩;cbv))
 refine jr g6 (by show 3<=7;decide) (λy e7=>?_);have Y:=(congrFun e7 p).trans ae;have x7:dI [277] h6 y:=by rw[e7];exact fE g6 (by decide)
 have k7:Kp [p] h6 y:=by rw[e7];exact Kp.set (by simp)
 have Y:y p=some (.cells (List.toArray [.int .i64 I,.slice P m c1,.slice b6 m6 c6,.slice b3 n3 c3,.int .u32 d,.int .i32 l,.int .u32 s]) 277 (0,0)):=Y;clear e7;have bk:∀tys,277∉tys->224∉tys->bV tys h y:=λtys e1 T=>(bl tys T).trans (x7.t (λt ht he=>e1 (List.mem_singleton.1 he ▸ ht)));have br:=ag.mono (x7.t (by decide));have bp:=ar.mono (x7.t (by decide));have bZ:=u6.mono (x7.t (by decide));have l7:Le h0 y:=l6.aE (bs:=[p]) (by simpa using jk) k7;clear ag ar u6 x7 k7 l6 g6;cbv;repeat (first|rw[al A] | (refine ak Y ?_;cbv)|(refine⟨⟨_,rfl,rfl⟩,?_⟩;cbv))
 intro aj h8 bd e8;have H:Le y h8:=by rw[e8];exact Le.set bd
 have g8:=H _ _ Y;have U:Sl 47 jX h8 (.slice (some ⟨aj,0,none⟩) 1 1) [o]:=aR (s:=jX) (cs:=[.slice P m c1]) ((congrFun e8 aj).trans ae) ⟨_,rfl,br.sl.mono (H.t _)⟩;clear e8;cbv;repeat (first|rw[al A] | (refine ak g8 ?_;cbv)|(refine⟨⟨_,rfl,rfl⟩,?_⟩;cbv))
 refine(bp.mono (H.t _)).app U (by decide) rfl (by decide) (by omega) (l7.trans H) (λm9 b9 c9 h9 cd l9 t9 k9 u9=>?_);have g9:h9 p=_:=k9 _ _ g8 (.inr (.inr (λc fr e=>by cases e)));have bj:∀tys,277∉tys->224∉tys->47∉tys->bV tys h h9:=λtys e1 T e3=>((bk tys e1 T).trans (H.t tys)).trans (t9 tys e3);have bF:=(bZ.mono (H.t _)).mono (t9 _ (by decide));clear k9 t9 U g8 Y;cbv;repeat (first|rw[al A] | (refine ak g9 ?_;cbv)|(refine⟨⟨_,rfl,rfl⟩,?_⟩;cbv))
 refine jr g9 (by show 4<=7;decide) (λgP oZ=>?_);have M:=(congrFun oZ p).trans ae;have WD:dI [277] h9 gP:=by rw[oZ];exact fE g9 (by decide)
 have yO:Kp [p] h9 gP:=by rw[oZ];exact Kp.set (by simp)
 have M:gP p=some (.cells (List.toArray [.int .i64 I,.slice P m c1,.slice b6 m6 c6,.slice b9 m9 c9,.int .u32 d,.int .i32 l,.int .u32 s]) 277 (0,0)):=M;clear oZ;cbv;repeat (first|rw[al A] | (refine ak M ?_;cbv)|(refine⟨⟨_,rfl,rfl⟩,?_⟩;cbv))
 refine jr M (by show 2<=7;decide) (λmK GV=>?_);have aW:=(congrFun GV p).trans ae;have aH:dI [277] gP mK:=by rw[GV];exact fE M (by decide)
 have au:Kp [p] gP mK:=by rw[GV];exact Kp.set (by simp)
 have x0:=WD.trans aH;have:=hk mK b6 m6 c6 b9 m9 c9 (λtys e1 T e3=>(bj tys e1 T e3).trans (x0.t (λt ht he=>e1 (by simp at he;rcases he with rfl|rfl<;>exact ht)))) ⟨aW,aU.nil,bF.mono (x0.t (by decide)),u9.mono (x0.t (by decide)),jk,l9.aE (bs:=[p]) (by simpa using jk) (yO.trans au)⟩;clear hk GV;cbv;exact this
def fq(L:jE)(cs:List cC):jE:=if 4<=L.rP.length+1 then lj ⟨L.next+1,L.rP++[⟨L.next,cs⟩],L.lW,L.Jx⟩else⟨L.next+1,L.rP++[⟨L.next,cs⟩],L.lW,L.Jx⟩
structure Dd(L:jE):Prop where
 nx:0<=L.next/\L.next<2^40
 op:∀t∈L.rP,aQl t
 n1:L.rP.length<=2^16
 n2:L.lW.length<=2^16
 n3:L.Jx.length<=2^16
theorem Wy{x:Int}{m o:Option Addr}{d:Nat}{r:List pa}{bs:List xT}{xs:List (List pa)}(v:vR h m a p o d q b n c ⟨x,r,bs,xs⟩)
 (s:∀h' f e g i B j,Le h h'->vR h' f a e g d i B n j ⟨x,r,bs,xs⟩->k (.agg #[.int .i64 x,.slice f a e,.slice g d i,.slice B n j]) h'):
 Ct 124 [.agg #[.int .i64 x,.slice m a p,.slice o d q,.slice b n c]] h k:=
 bJc v (λT h' f e g i B j t l o1 o2 u=>s h' f e g i B j (t.trans l) ⟨o1.sl,(o2.mono (l.t _)).sl,(u.mono (l.t _)).sl⟩)
theorem NM.put{d l s:Int}{a c:Option Addr}{j g:Nat}{L:jE}(q:NM h0 h p d l s b n e a i f c j g L)(k m o:Int):
 NM h0 (bu h p (.cells (List.toArray [.int .i64 L.next,.slice b n e,.slice a i f,.slice c j g,.int .u32 k,.int .i32 m,.int .u32 o]) 277 (0,0))) p k m o b n e a i f c j g L:=by
 have x:dI [277] h (bu h p (.cells (List.toArray [.int .i64 L.next,.slice b n e,.slice a i f,.slice c j g,.int .u32 k,.int .i32 m,.int .u32 o]) 277 (0,0))):=fE q.out (by decide);have kp:Kp [p] h (bu h p (.cells (List.toArray [.int .i64 L.next,.slice b n e,.slice a i f,.slice c j g,.int .u32 k,.int .i32 m,.int .u32 o]) 277 (0,0))):=Kp.set (by simp);exact⟨ae,q.op.mono (x.t (by decide)),q.bk.mono (x.t (by decide)),q.tx.mono (x.t (by decide)),q.new,q.le.aE (bs:=[p]) (by simpa using q.new) kp⟩
theorem aZX{i:Int}{N O P:Option Addr}{w Q R r S:Nat}{p:List pa}{bs:List xT}{y:List (List pa)}{cs:List cC}(ql:vR h N w Q O q R P r S ⟨i,p,bs,y⟩)(qc:Sl 161 aV h (.slice b n c) cs)
 (hB:Dd ⟨i,p,bs,y⟩) (MX:aQl ⟨i,cs⟩) {L':jE} (M:fq ⟨i,p,bs,y⟩ cs=L') 
 (hk:∀h' N w Q O q R P r S b c,Le h h'->vR h' N w Q O q R P r S L'->Sl 161 aV h' (.slice b n c) cs->k (.tuple #[.agg #[.int .i64 L'.next,.slice N w Q,.slice O q R,.slice P r S],.agg #[.int .i64 i,.slice b n c]]) h'):
 Ct 51 [.agg #[.int .i64 i,.slice N w Q,.slice O q R,.slice P r S],.slice b n c] h k:=by
 obtain⟨A,hA⟩:=Ar.ex;have ek:w=p.length:=ql.rP.len;have jH:p.length<=2^16:=hB.n1;have fN:bs.length<=2^16:=hB.n2;have uy:y.length<=2^16:=hB.n3;have fa:0<=i/\i<2^40:=hB.nx;have hz:A .aC .add .i64 i 1=i+1:=by rw[hA.aC];show IntKind.i64.wrap (i+1)=_;rw[IntWalk.i64_in _ (by omega)]
 refine ik A [7] (ai gJZ.au gJZ.aN) Tryz.func51 rfl (by kernel_rfl) ?_;cbv;refine bJc ql (λhT h1 fP eY J j B m lT l1 o1 o2 o3=>?_);have ag:=lT.trans l1;cbv;intro x h2 hx e2;have l2:Le h1 h2:=by rw[e2];exact Le.set hx
 have z:h2 x=some (.cells (List.toArray [.int .i64 i,.slice fP w eY,.slice J q j,.slice B r m,.int .u32 0,.int .i32 0,.int .u32 0]) 277 (0,0)):=(congrFun e2 x).trans ae;have rR:h x=none:=ag.none hx;clear e2;cbv;refine LN (qc.mono ((ag.trans l2).t _)) (λh3 Y Z l3 qt=>?_);have v:=l3 _ _ z;have au:hT x=none:=l1.none hx;have nP:=(l1.trans l2).trans l3;have qt:=qt.sl;clear z;cbv;repeat (first|rw[al A] | (refine ak v ?_;cbv)|(refine⟨⟨_,rfl,rfl⟩,?_⟩;cbv))
 rw[hz];refine jr v (by show 1<=7;decide) (λh4 e4=>?_);have g4:=(congrFun e4 x).trans ae;have x4:dI [277] h3 h4:=by rw[e4];exact fE v (by decide)
 have k4:Kp [x] h3 h4:=by rw[e4];exact Kp.set (by simp)
 have g4:h4 x=some (.cells (List.toArray [.int .i64 (i+1),.slice fP w eY,.slice J q j,.slice B r m,.int .u32 0,.int .i32 0,.int .u32 0]) 277 (0,0)):=g4;clear e4;have l4:Le hT h4:=nP.aE (bs:=[x]) (by simpa using au) k4;have aj:=(o1.mono ((l2.trans l3).t _)).mono (x4.t (by decide));have E:=qt.mono (x4.t (by decide));clear x4 k4 v;cbv;repeat (first|rw[al A] | (refine ak g4 ?_;cbv)|(refine⟨⟨_,rfl,rfl⟩,?_⟩;cbv))
 intro nn h5 qJ e5;have W:Le h4 h5:=by rw[e5];exact Le.set qJ
 have qn:Sl 172 gB h5 (.slice (some ⟨nn,0,none⟩) 1 1) [⟨i,cs⟩]:=aR (s:=gB) (cs:=[.int .i64 i,.slice Y n Z]) ((congrFun e5 nn).trans ae) ⟨_,_,_,rfl,E.mono (W.t _)⟩;have g5:=W _ _ g4;have ar:=E.mono (W.t _);clear e5;cbv;repeat (first|rw[al A] | (refine ak g5 ?_;cbv)|(refine⟨⟨_,rfl,rfl⟩,?_⟩;cbv))
 refine(aj.mono (W.t _)).app qn (by decide) rfl (by decide) (by omega) (l4.trans W) (λX b6 c6 h6 Pf l6 t6 k6 u6=>?_);have g6:h6 x=_:=k6 _ _ g5 (.inr (.inr (λc fr e=>by cases e)));have ao:=ar.mono (t6 _ (by decide));clear k6 t6 qn g5 g4;cbv;repeat (first|rw[al A] | (refine ak g6 ?_;cbv)|(refine⟨⟨_,rfl,rfl⟩,?_⟩;cbv))
 refine jr g6 (by show 2<=7;decide) (λT e7=>?_);have H:=(congrFun e7 x).trans ae;have x7:dI [277] h6 T:=by rw[e7];exact fE g6 (by decide)
 have k7:Kp [x] h6 T:=by rw[e7];exact Kp.set (by simp)
 clear e7;have l7:Le hT T:=l6.aE (bs:=[x]) (by simpa using au) k7;have q7:NM h T x 0 0 0 b6 X c6 J q j B r m ⟨i+1,p++[⟨i,cs⟩],bs,y⟩:=⟨H,(u6.mono (x7.t (by decide))).base lT,o2.mono (l7.t _),o3.mono (l7.t _),rR,lT.trans l7⟩;have D:=ao.mono (x7.t (by decide));clear H x7 k7 u6 g6 aj ao ar E l4 W l6;have H:=q7.out;have M:(if 4<=p.length+1 then lj ⟨i+1,p++[⟨i,cs⟩],bs,y⟩else⟨i+1,p++[⟨i,cs⟩],bs,y⟩)=L':=M;have f3:A .ay .geq (A .nat X) 4=decide (4<=p.length+1):=by rw[bX A,hA.nat];exact decide_eq_decide.2 (by show(X:Int)>=4↔_;omega)
 obtain⟨C,V⟩:∃C:(Int×Int×Int×(Option Addr×Nat×Nat)×(Option Addr×Nat×Nat)×(Option Addr×Nat×Nat))->ab->Prop,∀g h',C g h'=(NM h h' x g.1 g.2.1 g.2.2.1 g.2.2.2.1.1 g.2.2.2.1.2.1 g.2.2.2.1.2.2 g.2.2.2.2.1.1 g.2.2.2.2.1.2.1 g.2.2.2.2.1.2.2 g.2.2.2.2.2.1 g.2.2.2.2.2.2.1 g.2.2.2.2.2.2.2 L'/\Sl 161 aV h' (.slice Y n Z) cs):=⟨_,λ_ _=>rfl⟩;have Zt:∀h' g1 z v,NM h h' x 1 0 0 g1.1 g1.2.1 g1.2.2 z.1 z.2.1 z.2.2 v.1 v.2.1 v.2.2 L'->Sl 161 aV h' (.slice Y n Z) cs->C (1,0,0,g1,z,v) h':=λh' g1 z v a b=>by rw[V];exact⟨a,b⟩
 cbv;refine ny.go (G:=(Int×Int×Int×(Option Addr×Nat×Nat)×(Option Addr×Nat×Nat)×(Option Addr×Nat×Nat))) (λ_=>[]) (λ_=>[(2,[.int .i64 i,.slice N w Q,.slice O q R,.slice P r S]),(4,[.int .i64 0,.slice none 0 0,.slice none 0 0,.slice none 0 0]),(5,[.int .i64 0,.slice none 0 0]),(7,[.int .i64 i,.slice Y n Z])]) C ?_ ?_
 .cbv;repeat (first|rw[al A] | (refine ak H ?_;cbv)|(refine⟨⟨_,rfl,rfl⟩,?_⟩;cbv))
  rw[f3];by_cases AX:4<=p.length+1
  .rw[if_pos AX]at M;rw[decide_eq_true AX];cbv;repeat (first|rw[al A] | (refine ak H ?_;cbv)|(refine⟨⟨_,rfl,rfl⟩,?_⟩;cbv))
   refine bKD (f:=127) (fl:=[.pointer (some ⟨x,0,none⟩)]) (cl:=[]) H (o:=4) rfl rfl (λL e8=>?_);have u:=q7.put 0 1 0;have hb:L=bu T x (.cells (List.toArray [.int .i64 (i+1),.slice b6 X c6,.slice J q j,.slice B r m,.int .u32 0,.int .i32 1,.int .u32 0]) 277 (0,0)):=e8;have u:NM h L x 0 1 0 b6 X c6 J q j B r m ⟨i+1,p++[⟨i,cs⟩],bs,y⟩:=by rw[hb];exact u
   have K:Sl 161 aV L (.slice Y n Z) cs:=D.mono (by rw[hb];exact(fE H (ex:=[277]) (by decide)).t (by decide));clear e8 hb f3;refine NH u (λt ht=>?_) (by rw[List.length_append,List.length_singleton];omega) (by omega) (by omega) (λh9 J vg j B tU m t9 q9=>⟨rfl,_,q9.out,rfl,rfl,?_⟩)
   .rcases List.mem_append.1 ht with ht|ht
    .exact hB.op t ht
    rw[List.mem_singleton.1 ht];exact MX
   have uk:NM h (bu h9 x (.cells (List.toArray [.int .i64 (i+1),.slice none 0 0,.slice J vg j,.slice B tU m,.int .u32 1,.int .i32 0,.int .u32 0]) 277 (0,0))) x 1 0 0 none 0 0 J vg j B tU m (lj ⟨i+1,p++[⟨i,cs⟩],bs,y⟩):=q9.put 1 0 0;rw[M]at uk;have aF:Sl 161 aV (bu h9 x (.cells (List.toArray [.int .i64 (i+1),.slice none 0 0,.slice J vg j,.slice B tU m,.int .u32 1,.int .i32 0,.int .u32 0]) 277 (0,0))) (.slice Y n Z) cs:=(K.mono (t9 (161::aV.tys) (by decide) (by decide) (by decide))).mono ((fE q9.out (ex:=[277]) (by decide)).t (by decide));have U:=Zt _ (none,0,0) (J,vg,j) (B,tU,m) uk aF;clear V Zt hk;cbv;refine⟨_,⟨?_,?_,?_⟩,U⟩<;>cbv
  rw[if_neg AX]at M;rw[decide_eq_false AX];have U:C (0,0,0,(b6,X,c6),(J,q,j),(B,r,m)) T:=by rw[V,<-M];exact⟨q7,D⟩
  clear V hk f3;cbv;refine⟨_,⟨?_,?_,?_⟩,U⟩<;>cbv
 intro g L U;rw[V]at U;cbv;obtain⟨d,l,s,⟨b4,n4,c4⟩,⟨b5,n5,c5⟩,⟨I,n6,F⟩⟩:=g;obtain⟨u,K⟩:=U;have u:NM h L x d l s b4 n4 c4 b5 n5 c5 I n6 F L':=u;have g8:=u.out;have aH:vR L b4 n4 c4 b5 n5 c5 I n6 F L':=⟨u.op.sl,u.bk.sl,u.tx.sl⟩;have bc:=u.le;clear V Zt M q7 D o1 o2 o3 ql qc;obtain⟨WH,WG,Dn,bd⟩:=L';have g8:L x=some (.cells (List.toArray [.int .i64 WH,.slice b4 n4 c4,.slice b5 n5 c5,.slice I n6 F,.int .u32 d,.int .i32 l,.int .u32 s]) 277 (0,0)):=g8;repeat (first|rw[al A] | (refine ak g8 ?_;cbv)|(refine⟨⟨_,rfl,rfl⟩,?_⟩;cbv))
 refine Wy aH (λh9 fP eY J j B m l9 q9=>?_);cbv;repeat (first|rw[al A] | (refine ak (l9 _ _ g8) ?_;cbv)|(refine⟨⟨_,rfl,rfl⟩,?_⟩;cbv))
 refine LN (K.mono (l9.t _)) (λgP aW aN fo aZ=>?_);have:=hk gP fP n4 eY J n5 j B n6 m aW aN (bc.trans (l9.trans fo)) (q9.le fo) aZ.sl;clear hk;cbv;exact this
def Sa(L:jE):jE×Int:=if L.rP.length=0 then(L,2)else(lj L,0)
def jg(bs:List xT):Int×Bs×Int:=match bs.getLast? with
 |none=>(0,List.replicate 32 0,2)
 |some b=>(b.n,dN b,0)
theorem yL(bs:List xT):(jg bs).2.1.length=32:=by
 unfold jg;split
 .rfl
 exact fw _
theorem Wz{O:Int}{B j E:Option Addr}{M F u N G:Nat}{bs:List xT}(q:Sl 224 nJ h (.slice j n u) bs)(Q:bs.length<=2^20)
 (c:∀h' g,Le h h'->hl g=aI (jg bs).2.1->k (.tuple #[.agg (List.toArray (.int .i64 (jg bs).1::hl g)),.int .i64 (jg bs).2.2]) h'):
 Ct 79 [.agg #[.int .i64 O,.slice B M F,.slice j n u,.slice E N G]] h k:=by
 obtain⟨A,l⟩:=Ar.ex;have Z:n=bs.length:=q.len;have v:A .ay .eql (A .nat n) 0=decide (n=0):=by rw[aq A,l.nat];exact decide_eq_decide.2 (by show(n:Int)=0↔_;omega)
 obtain⟨z,D⟩:∃z,z=A .aC .sub .i64 (A .nat n) 1:=⟨_,rfl⟩;have C:0<n->aK z (n-1):=λh=>⟨by
  rw[D,l.aC,l.nat];show IntKind.i64.wrap ((n:Int)-1)=_;rw[IntWalk.i64_in _ (by omega)];omega⟩
 refine bB gJI A Tryz.func79 ?_;cbv;rw[v];by_cases w:n=0
 .have i:jg bs=(0,List.replicate 32 0,2):=by have:bs=[]:=List.eq_nil_of_length_eq_zero (by omega);subst this;rfl
  rw[i]at c;rw[decide_eq_true w];have:=c h (λ_=>0) (Le.refl _) rfl;clear c;cbv;exact this
 obtain⟨x,hx⟩:=bn bs (n-1);have i:jg bs=(x.n,dN x,0):=by unfold jg;rw[List.getLast?_eq_getElem?,show bs.length-1=n-1 from by omega,hx]
 rw[i]at c;have C:=C (by omega);have ix:=C.ix (len:=n) (by omega);have U:j.isSome=true:=q.aQ;rw[decide_eq_false w];clear v i;cbv;rw[<-D];repeat (first|(refine⟨⟨U,ix⟩,?_⟩;cbv)|(rw[<-D];cbv))
 obtain⟨t,d,f,s⟩:=x;refine q.bT hx C.eq (o:=0) (m:=1) (by decide) (λcs a=>?_);obtain⟨a,p,r⟩:=a;have a:cs=.int .i64 t::(aI d++(aI f++[.int .i64 s])):=a;subst a;cbv;repeat (first|(refine⟨⟨U,ix⟩,?_⟩;cbv)|(rw[<-D];cbv))
 refine q.load hx C.eq (λcs a=>?_);obtain⟨a,p,r⟩:=a;have p:d.length=32:=p;have r:f.length=32:=r;obtain⟨I,e⟩:=Cr (b:=d) p;obtain⟨K,J⟩:=Cr (b:=f) r;have a:cs=Xj t I K s:=by rw[a,vF,e,J]
 subst a;cbv;refine aZY e J p r (λL H y X=>?_);have:=c L H y X;have P:=q.mono (y.t _);clear c;cbv;refine P.bT hx C.eq (o:=0) (m:=1) (by decide) (λcs a=>?_);obtain⟨a,p,r⟩:=a;have a:cs=.int .i64 t::(aI d++(aI f++[.int .i64 s])):=a;subst a;cbv;repeat (first|(refine⟨⟨_,rfl,rfl⟩,?_⟩;cbv)|(refine⟨⟨U,ix⟩,?_⟩;cbv)|(rw[<-D];cbv))
 exact this
theorem aQT{n:Int}{e l:Option Addr}{b r:Nat}{p:List pa}{bs:List xT}{s:List (List pa)}(O:vR h d a m e b q l c r ⟨n,p,bs,s⟩)(G:Dd ⟨n,p,bs,s⟩){E:jE×Int}(u:Sa ⟨n,p,bs,s⟩=E)
 (v:∀h' d a m e b q l c r,Le h h'->vR h' d a m e b q l c r E.1->k (.tuple #[.agg #[.int .i64 E.1.next,.slice d a m,.slice e b q,.slice l c r],.int .i64 E.2]) h'):
 Ct 78 [.agg #[.int .i64 n,.slice d a m,.slice e b q,.slice l c r]] h k:=by
 obtain⟨A,hA⟩:=Ar.ex;have ek:a=p.length:=O.rP.len;have jH:p.length<=2^16:=G.n1;have fN:bs.length<=2^16:=G.n2;have uy:s.length<=2^16:=G.n3;have f1:A .ay .eql (A .nat a) 0=decide (p.length=0):=by rw[aq A,hA.nat];exact decide_eq_decide.2 (by show(a:Int)=0↔_;omega)
 have u:(if p.length=0 then((⟨n,p,bs,s⟩,2):jE×Int)else(lj ⟨n,p,bs,s⟩,0))=E:=u;refine bB gJJ A Tryz.func78 ?_;cbv;rw[f1];by_cases H:p.length=0
 .rw[if_pos H]at u;subst u;rw[decide_eq_true H];cbv;refine Wy O (λy P Y g i B j l9 z=>?_);have:=v y P a Y g b i B c j l9 z;clear v;cbv;exact this
 rw[if_neg H]at u;rw[decide_eq_false H];cbv;refine bJc O (λhT h1 P Y g i B j T W o1 o2 Z=>?_);have L:=T.trans W;cbv;intro x F hx K;have X:Le h1 F:=by rw[K];exact Le.set hx
 have D:F x=some (.cells (List.toArray [.int .i64 n,.slice P a Y,.slice g b i,.slice B c j,.int .u32 0,.int .i32 0,.int .u32 0]) 277 (0,0)):=(congrFun K x).trans ae;have rR:h x=none:=L.none hx;clear K;have Q:=W.trans X;have q7:NM h F x 0 0 0 P a Y g b i B c j ⟨n,p,bs,s⟩:=⟨D,(o1.mono (X.t _)).base T,o2.mono (Q.t _),Z.mono (Q.t _),rR,T.trans Q⟩;cbv;repeat (first|rw[al A] | (refine ak D ?_;cbv)|(refine⟨⟨_,rfl,rfl⟩,?_⟩;cbv))
 refine bKD (f:=127) (fl:=[.pointer (some ⟨x,0,none⟩)]) (cl:=[]) D (o:=4) rfl rfl (λS R=>?_);have I:=q7.put 0 1 0;have V:S=bu F x (.cells (List.toArray [.int .i64 n,.slice P a Y,.slice g b i,.slice B c j,.int .u32 0,.int .i32 1,.int .u32 0]) 277 (0,0)):=R;have I:NM h S x 0 1 0 P a Y g b i B c j ⟨n,p,bs,s⟩:=by rw[V];exact I
 clear R V;refine NH I (λt ht=>G.op t ht) (by omega) (by omega) (by omega) (λy g w i B U j t9 z=>⟨rfl,_,z.out,rfl,rfl,?_⟩);have C:NM h (bu y x (.cells (List.toArray [.int .i64 n,.slice none 0 0,.slice g w i,.slice B U j,.int .u32 1,.int .i32 0,.int .u32 0]) 277 (0,0))) x 1 0 0 none 0 0 g w i B U j (lj ⟨n,p,bs,s⟩):=z.put 1 0 0;have Ln:(bu y x (.cells (List.toArray [.int .i64 n,.slice none 0 0,.slice g w i,.slice B U j,.int .u32 1,.int .i32 0,.int .u32 0]) 277 (0,0))) x=_:=ae;have N:=C.le;have J:vR (bu y x (.cells (List.toArray [.int .i64 n,.slice none 0 0,.slice g w i,.slice B U j,.int .u32 1,.int .i32 0,.int .u32 0]) 277 (0,0))) none 0 0 g w i B U j ⟨n,[],bs++[jm p bs],s++[p]⟩:=⟨C.op.sl,C.bk.sl,C.tx.sl⟩;have ag:E.1.next=n:=by rw[<-u];rfl
 have M:E.1=lj ⟨n,p,bs,s⟩:=by rw[<-u]
 have Xe:E.2=0:=by rw[<-u]
 rw[M,Xe]at v;clear I z C q7 o1 o2 Z D t9;have v:∀h' d a m e b q l c r,Le h h'->vR h' d a m e b q l c r ⟨n,[],bs++[jm p bs],s++[p]⟩->k (.tuple #[.agg #[.int .i64 n,.slice d a m,.slice e b q,.slice l c r],.int .i64 0]) h':=v;cbv;repeat (first|rw[al A] | (refine ak Ln ?_;cbv)|(refine⟨⟨_,rfl,rfl⟩,?_⟩;cbv))
 refine Wy J (λmK P Y g i B j xW ou=>?_);have:=v mK P 0 Y g w i B U j (N.trans xW) ou;clear v;cbv;exact this
end Go.S
