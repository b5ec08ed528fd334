import Derived.Test.YthnbpiejemlbeaaGreatBD
import Derived.Test.YthnbpiejemlbeaaGreatNA
import Derived.Test.YthnbpiejemlbeaaGreatI2b
set_option linter.all false
set_option maxRecDepth 100000
set_option maxHeartbeats 8000000
namespace Go.S
open Go.Sx Go.Proofs
variable {d:DB}{D:Dk}{g:Lg}{r:List Bs}{P n:Nat}{p:Option Addr}{e:TypeId}{k:Value->ad->Prop}{h:ad}
def hXT(z:List Value)(hz:jL z=true):Sh Unit where
 n:=z.length
 R _ cs _:=cs=z
 len:=gg
 one:=gg
 tys:=[]
 mono:=λ_ q=>q
theorem bXK(e:∀h' b c,Le h h'->k (.slice b 0 c) h'):
 Ct 238 [.zN,.func (.func 239) #[] #[]] h k:=by
 refine cB bXe Tryz.func238 λA d=>?_;have f:A .aQ .lss 0 (A .nat 0)=false:=by rw[aV A,d.nat];rfl
 cbv;refine jM (s:=hXT [.zI 0,.zN] rfl) (x:=()) (λ_=>rfl) ip dl (λn a M l o1=>?_);have:=e a (zsA n) 0 l;cbv;refine ba.gz (G:=Unit) (λ_=>[(13,.v (.zI 0))]) (λ_=>[]) (λw _ h'=>h'=a) 0 () rfl ?_
 intro w g i I;subst I;cbv;rw[f];cbv;exact this
theorem bXD(d:∀h' b c,Le h h'->k (.slice b 0 c) h'):
 Ct 117 [.zN] h k:=by
 refine cB bXr Tryz.func117 λA e=>?_;cbv;refine bXK (λa b c l=>?_);have:=d a b c l;cbv;exact this
theorem bXM(e:∀h' b c,Le h h'->k (.slice b 0 c) h'):
 Ct 119 [.zN,.func (.func 117) #[] #[]] h k:=by
 refine cB bXp Tryz.func119 λA d=>?_;have f:A .aQ .lss 0 (A .nat 0)=false:=by rw[aV A,d.nat];rfl
 cbv;refine jM (s:=hXT [.zN] rfl) (x:=()) (λ_=>rfl) ip dl (λn a M l o1=>?_);have:=e a (zsA n) 0 l;cbv;refine ba.gz (G:=Unit) (λ_=>[(13,.v (.zI 0))]) (λ_=>[]) (λw _ h'=>h'=a) 0 () rfl ?_
 intro w g i I;subst I;cbv;rw[f];cbv;exact this
theorem aXS(b:k (.zN) h):
 Ct 118 [.zN] h k:=by
 refine cB bXq Tryz.func118 λA a=>?_;have f:A .CI none=true:=by rw[a.CI];rfl
 cbv;rw[f];cbv;exact b
theorem bXF(l:∀h' b e a f,Le h h'->k (.agg #[.zI 0,.slice b 0 e,.zN,.slice a 0 f]) h'):Ct 48 [.agg #[.zI 0,.zN,.zN,.zN]] h k:=by refine cB fZC Tryz.func48 λA p=>?_;cbv;refine bXD (λo c g m=>?_);cbv;refine aXS ?_;cbv;refine bXM (λj d i n=>?_);have:=l j c g d i (m.trans n);cbv;exact this
theorem hXy{s p:Nat}{G:Lg}(q:DO h s p G d L0)(o:∀h' b c a e,Le h h'->k (.agg #[.zI 0,.slice b 0 c,.zN,.slice a 0 e]) h'):Ct 15 [.zP s] h k:=by obtain⟨g,x,t,J,I,u⟩:=q.out;obtain⟨b,C,c,a,D,e,v,E,y,w,F,z,f,H⟩:=u.out;refine cB fZG Tryz.func15 λA B=>?_;cbv;rw[av A];refine zx (cJ t.out rfl) f rfl ?_;cbv;rw[av A];refine cy f ?_;cbv;refine bXF (λn i l j m r=>?_);have:=o n i l j m r;cbv;exact this
structure Good(D:Dk)(P:Nat):Prop where
 dead:D.dead=false
 left:¬D.left>0
 len:D.now.length=P
 pg:∀b∈D.now,b.length=64
theorem Rw(g:Good D P):fh D=(false,D):=by unfold fh;rw[if_neg g.left]
theorem JI(g:Good D P):∃a,dD D=(0,a)/\Good a P/\a.ws=[]/\a.now=D.now:=by unfold dD;rw[Rw g,g.dead];exact⟨_,rfl,⟨g.dead,g.left,g.len,g.pg⟩,rfl,rfl⟩
theorem Lr(g:Good D P){l:Bs}(f:n<P)(hl:l.length<=64):∃a,bN D (n:Int) l=(0,a)/\Good a P/\a.now=D.now.set n (eS l):=by
 have d:fH D (n:Int) l.length=0:=by unfold fH;rw[g.dead,if_neg io,if_neg (by have:=g.len;omega)]
 unfold bN;rw[d,if_neg io,kJL];have e:Good { D with now:=D.now.set n (eS l),ws:=D.ws++[((n:Int),eS l)] } P:=
  ⟨g.dead,g.left,by show(D.now.set n _).length=P;rw[kJE];exact g.len,λb c=>by
   rcases kZa c with h|h
   .exact g.pg b h
   rw[h];exact tD hl⟩
 grind [Rw]
theorem Uw{l:Bs}:(eS l).take l.length=l:=by grind [eS]
theorem Ia:∀(n:Nat) (D:Dk) (pg:Nat) (b:Bs),b.length<=n->Good D P->pg*64+b.length<=P*64->
 ∃a,dN D pg b=(0,a)/\Good a P/\a.ws=[]/\a.now.take pg=D.now.take pg/\(a.now.drop pg).flatten.take b.length=b:=λn=>by
 induction n with
 |zero=>
  grind [JI,dN]
 |succ n o=>
  intro D pg b s g h;by_cases V:b=[]
  .grind
  have B:=kZz.2 V;obtain⟨c,e1,e,q⟩:=Lr g (n:=pg) (l:=b.take 64) ip gg;obtain⟨a,r,i,w,t,f⟩:=o c (pg+1) (b.drop 64) gg e gg;have X:pg<D.now.length:=by rw[g.len];omega
  have C:a.now[pg]? =some (eS (b.take 64)):=by
   have:=congrArg (λz=>z[pg]?) t
   grind
  refine⟨a,?_,i,w,?_,?_⟩
  .grind [dN]
  .have j:a.now.take pg=(a.now.take (pg+1)).take pg:=gg
   rw[j,t,kKe,kXx ip,q,List.take_set_of_le (qA _)]
  have hd:a.now.drop pg=eS (b.take 64)::a.now.drop (pg+1):=by obtain⟨Z,k⟩:=HH.1 C;rw[kQP Z,k]
  have d:(eS (b.take 64)).length=64:=tD gg;rw[hd,kQG,List.take_append,d];by_cases m:b.length<=64
  .grind [Uw]
  have Q:(b.take 64).length=64:=gg
  have p:eS (b.take 64)=b.take 64:=by unfold eS;rw[Q];simp
  rw[kJb]at f;rw[f,p,kXe ip,GD]
theorem ir{q:Nat}:∀ {xs:List Bs},(∀b∈xs,b.length=64)->q<=xs.length->(xs.take q).flatten.length=64*q:=λ{xs} hx h=>by
 grind [tP,hx]
theorem FJ(g:Good D P)(q:Nat)(a:1+q<=P):dL D=((D.now.take (1+q)).drop 1).flatten++(D.now.drop (1+q)).flatten/\((D.now.take (1+q)).drop 1).flatten.length=64*q:=by
 constructor
 .unfold dL;rw[<-List.flatten_append];congr 1;have:D.now.drop 1=(D.now.drop 1).take q++(D.now.drop 1).drop q:=(GD _ _).symm;rw[kJO]at this;rw[this,List.drop_take];simp
 rw[List.drop_take,show 1+q-1=q by omega];exact ir (λb h=>g.pg b (kXN h)) (by rw[kJb,g.len];omega)
theorem YC(g:Good D P)(a:Nat)(b:Bs)(h:64+a+b.length<=P*64)(x:0<b.length):
 ∃c,cO D a b=(0,c)/\Good c P/\c.ws=[]/\c.now.take 1=D.now.take 1/\(dL c).take (a+b.length)=(dL D).take a++b:=by
 obtain⟨q,n⟩:∃q,q=a / 64:=⟨_,rfl⟩;obtain⟨r,o⟩:∃r,r=a % 64:=⟨_,rfl⟩;have v:a=64*q+r:=ip
 have p:r<64:=ip
 have Q:1+q<P:=ip
 have d:1+q<=P:=ip
 obtain⟨pg,C⟩:∃pg,D.now[1+q]? =some pg:=by
  have:1+q<D.now.length:=by rw[g.len];exact Q
  exact⟨_,kZG this⟩
 have s:pg.length=64:=g.pg pg (kQR C);have key:∃c,cO D a b=(0,c)/\Good c P/\c.ws=[]/\c.now.take (1+q)=D.now.take (1+q)/\(c.now.drop (1+q)).flatten.take (r+b.length)=pg.take r++b:=by
  unfold cO;rw[<-n,<-o];by_cases h0:r=0
  .rw[if_pos h0];obtain⟨c,e,j,w,t,f⟩:=Ia b.length D (1+q) b (qA _) g ip
   grind
  have k:fH D ((1+q:Nat):Int) 0=0:=by unfold fH;rw[g.dead,if_neg io,if_neg gg]
  have J:dF D ((1+q:Nat):Int)=pg:=by grind [dF]
  rw[if_neg h0,k,if_neg io,J];have hl:(pg.take r++b).length=r+b.length:=gg
  obtain⟨c,e,j,w,t,f⟩:=Ia _ D (1+q) (pg.take r++b) (qA _) g ip
  grind
 obtain⟨c,e,j,w,t,f⟩:=key;refine⟨c,e,j,w,?_,?_⟩
 .have u:c.now.take 1=(c.now.take (1+q)).take 1:=gg
  grind
 obtain⟨s1,s2⟩:=FJ g q d;obtain⟨s3,y⟩:=FJ j q d;rw[t]at s3;have hd:D.now.drop (1+q)=pg::D.now.drop (1+q+1):=by obtain⟨Z,m⟩:=HH.1 C;rw[kQP Z,m]
 rw[s1,s3,hd,kQG];generalize ((D.now.take (1+q)).drop 1).flatten=X at *;rw[List.take_append,List.take_append,s2,kXe (l:=X) (i:=a+b.length) ip,kXe (l:=X) (i:=a) ip,kJk]
 grind
def mP(rs:List Bs):Bs:=(rs.map λl=>cP (l.length:Int)++l).flatten
structure xJ(g:Lg)(P:Nat)(rs:List Bs):Prop where
 ja:Good g.D P
 n:g.n=rs.length
 s:g.s=(mP rs).length
 body:(dL g.D).take g.s=mP rs
 hd:g.D.now[0]? =some (eS (sB g.s g.n))
 ws:g.D.ws=[]
theorem Dp(I:xJ g P r)(l:Bs)(hl:l.length<=65536)(q:64+g.s+8+l.length<=P*64):∃b,aY g l=(0,b)/\xJ b P (r++[l])/\b.s=g.s+8+l.length:=by
 have j:=ck (l.length:Int);have E:(cP (l.length:Int)++l).length=8+l.length:=gg
 obtain⟨D,e1,c,u,t,f⟩:=YC I.ja g.s (cP (l.length:Int)++l) ip ip;have A:(sB (g.s+8+l.length) (g.n+1)).length=16:=by unfold sB;rw[kXy];rfl
 obtain⟨d,e,h,m⟩:=Lr c (n:=0) (l:=sB (g.s+8+l.length) (g.n+1)) ip ip;obtain⟨a,p,i,w,o⟩:=JI h;have K:bN D 0 (sB (g.s+8+l.length) (g.n+1))=(0,d):=e;have X:HV g l=(0,a):=by unfold HV;grind
 have k:dL a=dL D:=by
  unfold dL;rw[o,m];cases s:D.now with
  |nil=>rfl
  |cons x y=>rfl
 have J:0<D.now.length:=by rw[c.len];omega
 refine⟨⟨a,g.s+8+l.length,g.n+1⟩,?_,⟨i,?_,?_,?_,?_,w⟩,rfl⟩
 .unfold aY;rw[if_neg ip,if_neg (by have:=I.ja.len;omega),e1]
  grind
 .show g.n+1=_;rw[kXy,I.n];rfl
 .show g.s+8+l.length=_;unfold mP;rw[kXQ,List.flatten_append,kXy,I.s];simp[mP,j];omega
 .show(dL a).take (g.s+8+l.length)=_;rw[k,show g.s+8+l.length=g.s+(cP (l.length:Int)++l).length by omega,f,I.body];unfold mP;simp
 grind
theorem Ci(n:Nat):(u8 (n:Int)).toNat=n % 256:=by
 unfold u8;have:((n:Int) % 256).toNat=n % 256:=ip
 rw[this,kZQ];omega
theorem Sc(h:n<2^63):nL (cP (n:Int))=n:=by
 have b:∀k,(iJ (n:Int) k).toNat=n / 2^(8*k) % 256:=λk=>by
  unfold iJ
  grind [Ci]
 show nL [iJ n 0,iJ n 1,iJ n 2,iJ n 3,iJ n 4,iJ n 5,iJ n 6,iJ n 7]=n;simp only[nL,b];omega
theorem Ml(h:n<2^63)(l:Bs):eK (cP (n:Int)++l)=n:=by unfold eK;rw[kB (by rw[ck];omega),kXe (by rw[ck];omega),Sc h,IntWalk.i64_in _ ip]
theorem EG(h:n<2^63)(l:Bs):vO (cP (n:Int)++l)=n:=Ml h l
theorem aQJ:∀(s:List Bs),(∀l∈s,l.length<2^63)->eN (mP s) s.length=(s,[]):=λs=>by
 induction s with
 |nil=>intro _;rfl
 |cons l r i=>
  intro h;have hl:=h l io;have b:mP (l::r)=cP (l.length:Int)++(l++mP r):=by unfold mP;simp
  have c:=ck (l.length:Int);have a:eK (cP (l.length:Int)++(l++mP r))=l.length:=Ml hl _;have e:(cP (l.length:Int)++(l++mP r)).length=8+(l.length+(mP r).length):=gg
  rw[b,kZs];unfold eN;rw[a,e,if_pos ip,if_pos ip,kJL]
  grind
theorem aXa{l:Bs}{s:List Bs}(h:l∈s):l.length<=(mP s).length:=by
 induction s with
 |nil=>cases h
 |cons x r i=>
  grind [mP,cP]
theorem Ez(I:xJ g P r)(b:0<P)(s:g.s<2^60)(n:g.n<2^60):gK g.D=(⟨g.s,g.n,r,false⟩,0):=by
 have M:dF g.D 0=eS (sB g.s g.n):=by unfold dF;rw[show(0:Int).toNat=0 from rfl,I.hd];rfl
 have e1:vO (eS (sB g.s g.n))=g.s:=by grind [eS,sB,EG]
 have e:vO ((eS (sB g.s g.n)).drop 8)=g.n:=by
  grind [eS,sB,cP,ck,EG]
 have a:g.s<=(dL g.D).length:=by have:=congrArg List.length I.body;rw[kJI,<-I.s]at this;omega
 unfold gK;rw[I.ja.dead,if_neg io,M,e1,e];unfold Ba;have h:=aQJ r (λl hl=>by have:=aXa hl;rw[<-I.s]at this;omega);rw[if_neg ip,kJL,kJL,I.body,I.n,h];simp
structure TI(d:DB):Prop where
 gi:d.ao.Pairwise (λa b=>dy a.S.name b.S.name<0)
 le:d.ao.length<=8
 rows:∀t∈d.ao,t.rows=[]/\t.S.name.size<=12
 ai:d.ai=[]
 holds:d.holds=[]
 waits:d.waits=[]
theorem TI.small(q:TI d):Small d where
 ao:=by have:=q.le;omega
 ai:=by rw[q.ai];grind
 rows:=λt ht=>by rw[(q.rows t ht).1];grind
 holds:=by rw[q.holds];grind
 waits:=by rw[q.waits];grind
theorem iZA:TI dz:=⟨List.Pairwise.nil,dl,λt h=>(by cases h),rfl,rfl,rfl⟩
theorem oW(h:d.ao.Pairwise (λa b=>dy a.S.name b.S.name<0))(s:rM):bP d s=dx d s:=by
 obtain⟨c,-,-,-⟩:=AH h s.name;have e:=Rt h s.name
 grind [bP,fJ,eY,dx,ey]
theorem dZv(hP:0<P):xJ ⟨KG P,0,0⟩ P []where
 ja:=⟨rfl,Int.lt_irrefl 0,by show(List.replicate P Hn).length=P;grind,λb hb=>by
  have:b∈List.replicate P Hn:=hb;rw[List.eq_of_mem_replicate this];rfl⟩
 n:=rfl
 s:=rfl
 body:=rfl
 hd:=by show(List.replicate P Hn)[0]? =_;rw[kKg,if_pos hP];exact congrArg some (show Hn=eS (sB 0 0)from by kernel_rfl)
 ws:=rfl
theorem fQm{p:Nat}(q:oa h p g.D)(I:xJ g P r)(b:0<P)(m:g.s<2^60)(n:g.n<2^60)(j:nj dz r=some d)
 (M:∀l∈r,(aR 1 (some l)).1=1\/(aR 1 (some l)).1=2) (S:∀k a,nj dz (r.take k)=some a->Small a) 
 (i:∀h' s,ep Sa h h'->DO h' s p g d L0->k (.tuple #[.zP s,.zI 0]) h'):
 Ct 19 [.zP p] h k:=by
 have hl:=Ez I b m n;refine fQk q (by rw[I.ja.len];exact b) gg gg (λv=>?_) (λh' s f x u _ _ L e o c t=>?_)
 .grind
 rw[hl]at L c;rw[j]at L;cases L;exact i h' s e ⟨f,x,o,c,q.lt (e.t dl),t⟩
theorem Ma{P:Program}{t:TypeId}(h:P.underlying t=some (.pointer e))(p:Option Addr)(w:World):(Op.equal t (.pointer p) (.pointer none)).run P w=.ok p.isNone w:=by unfold Op.equal Op.maxDepth Op.equalIn;rw[kKm,run_underlying h,kXb];cases p<;>rfl
theorem bQp{P:Program}{t:TypeId}(h:P.underlying t=some (.pointer e)){x:Operand}{k:Value->Prop}(b:k (.bool p.isNone)):
 uS (λ_=>P) (λ_=>do
  eqGuard .eql t x (.const (.pointer none)) (.pointer p) (.pointer none)
  Go.binOp .eql t (.pointer p) (.pointer none)) k:=by
 refine⟨_,λw=>?_,b⟩;have g:(eqGuard .eql t x (.const (.pointer none)) (.pointer p) (.pointer none)).run P w=.ok () w:=by unfold eqGuard;split<;>rfl
 have a:Go.binOp .eql t (.pointer p) (.pointer none)=Functor.map Value.bool (Op.equal t (.pointer p) (.pointer none)):=rfl;rw[kKm,g,kXb,a];simp[Ma h];try rfl
theorem aJL{P:Program}{t:TypeId}(h:P.underlying t=some (.pointer e)){x:Operand}{k:Value->Prop}(c:k (.bool (!p.isNone))):
 uS (λ_=>P) (λ_=>do
  eqGuard .neq t x (.const (.pointer none)) (.pointer p) (.pointer none)
  Go.binOp .neq t (.pointer p) (.pointer none)) k:=by
 refine⟨_,λw=>?_,c⟩;have g:(eqGuard .neq t x (.const (.pointer none)) (.pointer p) (.pointer none)).run P w=.ok () w:=by unfold eqGuard;split<;>rfl
 have a:Go.binOp .neq t (.pointer p) (.pointer none)=Functor.map (λb=>Value.bool (!b)) (Op.equal t (.pointer p) (.pointer none)):=rfl;rw[kKm,g,kXb,a];simp[Ma h];try rfl
theorem Xk:Tryz.prog.underlying 36=some (.pointer 94):=by kernel_rfl
theorem TZ:Tryz.prog.underlying 38=some (.pointer 158):=by kernel_rfl
theorem Sf(h:ad)(i:∀h',ep Sa h h'->k (.bool true) h'):Ct 9 [] h k:=by
 obtain⟨A,d⟩:=Ar.ex;have W:A .aQ .eql 0 0=true:=by rw[au A];rfl
 have K:A .aQ .eql (A .nat 0) 0=true:=by rw[au A,d.nat];rfl
 refine kh T9 A Tryz.func9 ?_;cbv;refine fQp (n:=9) ⟨rfl⟩ ip ip (λL p O j q=>?_);cbv;refine bQp Xk ?_;cbv;refine fQm (g:=⟨KG 9,0,0⟩) q (dZv ip) ip dl dl rfl (λl hl=>by cases hl) (λk J c=>?_) (λM s x w=>?_)
 .rw[List.take_nil]at c;cases c;exact iZA.small
 cbv;rw[W];cbv;refine aJL TZ ?_;cbv;refine fQb w (λN u o D v P E y Q F z R G a r=>?_);have f:o=0:=by obtain⟨_,_,_,_,_,_,_,_,_,_,_,_,ws,e,t,_⟩:=r.out;cases e;exact t.len
 subst f;cbv;rw[K];cbv;refine hXy (w.lx a) (λb B H C I m=>?_);have:=i b (((j.x _).trans x).trans ((a.trans m).x _));cbv
 grind
theorem eP(a:Int)(n:Nat)(o:0<n)(l:n<=2^40)(h:ad)(g:∀z i,bg z i->i=(a % (n:Int)).toNat->i<n->k (.zI z) h):Ct 11 [.zI a,.zI (n:Int)] h k:=by
 obtain⟨A,b⟩:=Ar.ex;obtain⟨m,j⟩:∃m:Int,m=(n:Int):=⟨_,rfl⟩;rw[<-j];have E:m≠0:=ip
 have B:A .aX .rem .i64 a m=a.tmod m:=by rw[b.aX];rfl
 have G:a.tmod m<m:=by have:=kXs a (show 0<m by omega);omega
 have Q:-m<a.tmod m:=by have:=kQO a (show 0<m by omega);omega
 have x:a % m=if a.tmod m<0 then a.tmod m+m else a.tmod m:=by
  rw[kXG];have c:=kKb a E;have d:=kKa a (show 0<m by omega)
  grind
 generalize p:a.tmod m=t at *;generalize e:A .aQ .lss t 0=u;have f:=e;rw[aV A]at e;have key:∀z:Int,z=a % m->k (.zI z) h:=λz r=>by
  have c:=kKb a E;have d:=kKa a (show 0<m by omega);refine g z (a % (n:Int)).toNat ⟨?_⟩ rfl ?_
  .grind
  grind
 have I:t<0->A .aX .add .i64 t m=t+m:=λh=>by
  rw[b.aX];simp only[aX];rw[IntWalk.i64_in _ ip]
 refine kh iXm A Tryz.func11 ?_;cbv;refine⟨E,?_⟩;cbv;rw[B];rw[f];cases u with
 |true=>
  have q:=kZr e;have s:=key (t+m) (by rw[x,if_pos q]);cbv
  grind
 |false=>have q:=kZX e;have s:=key t (by rw[x,if_neg q]);cbv;exact s
theorem bQy{C l m o:Option Addr}{c e f p x r y w:Nat}(q:RP h C c e l f p m x r o y w d)(T:d.ao.Pairwise (λa b=>dy a.S.name b.S.name<0))(J:d.ao.length<=8)(nm:ByteArray){D:DB×Int}(M:dY d nm=D)(H:RK h D.1 D.2 k):
 Ct 167 [.agg #[.slice C c e,.slice l f p,.slice m x r,.slice o y w],.string nm] h k:=by
 obtain⟨A,hA⟩:=Ar.ex;have S:A .aQ .lss (-1) 0=true:=by rw[aV A];rfl
 have fG:=q.ao.len;have fA:=q.ai.len;have kE:=q.ao.bound;have Ap:=J;have f1:A .aQ .gtr (A .nat f) 0=decide ((d.ai.length:Int)>0):=by rw[bF A,hA.nat,fA];rfl
 refine kh bXh A Tryz.func167 ?_;cbv;refine(xi q).mono (λv E hR=>?_);obtain⟨G,g,rfl,N⟩:=hR;have B:=q.mono G;rcases uo T N with⟨rfl,hb,-⟩|⟨i,t,F,ht,sQ,e1,e2⟩
 .have Y:D=(d,2):=by rw[<-M];unfold dY;rw[hb];rfl
  subst Y;have j:=H E C c e l f p m x r o y w G B;cbv;rw[S];cbv;exact j
 have ic:=(HH.1 ht).1;have Y:D=if decide ((d.ai.length:Int)>0)=true then(d,18)else(⟨d.ao.take i++d.ao.drop (i+1),d.ai,d.holds,d.waits⟩,0):=by
  grind [dY]
 clear M N;have W:A .aQ .lss g 0=false:=F.zO (A:=A);have I:=F.succ (A:=A);have V:A .nR g 0=i:=dJ (A:=A) F;have yJ:=cS (A:=A) I (n:=c);obtain⟨Qo,Qn⟩:=kE;have fv:0<=g/\g<=(e:Int):=by have:=F.eq;omega
 have ly:0<=A .aX .add .i64 g 1/\A .aX .add .i64 g 1<=(c:Int):=by have:=I.eq;omega
 have fN:i<=c:=ip
 have U:i+1<=c:=ip
 cbv;rw[W];cbv;rw[f1];generalize decide ((d.ai.length:Int)>0)=u at *;cases u with
 |true=>have Y:D=(d,18):=Y;subst Y;have j:=H E C c e l f p m x r o y w G B;cbv;exact j
 |false=>
  have Y:D=(⟨d.ao.take i++d.ao.drop (i+1),d.ai,d.holds,d.waits⟩,0):=Y;subst Y;cbv;intro n6 L g6 e6;have P:Le E L:=zqs e6 g6
  have q6:=B.mono P;have fO:bA 132 bT E L (.slice (zsA n6) 0 0) ([]:List bS):=bA.nil;cbv;refine⟨fv,?_⟩;cbv;refine fO.append (q6.ao.tp (A:=A) (s:=bT) (z:=A .nat e) fN V V) dl rfl dl gg P (λm7 b7 c7 h7 Nz Q t7 k7 O=>?_);rw[kZA]at O;have q7:=B.mono Q;cbv;refine⟨ly,?_⟩;cbv;refine O.append (q7.ao.jX (A:=A) (s:=bT) I U yJ (c':=e-(i+1)) rfl) dl rfl dl gg Q (λm8 X c8 h8 ab R t8 k8 Z=>?_);have K:=B.mono R;have j:=H h8 X m8 c8 l f p m x r o y w (G.trans R) ⟨Z.sl,K.ai,K.holds,K.waits⟩;cbv;exact j
set_option maxHeartbeats 1000000
structure Fz(h0 hA h:ad):Prop where
 le:Le hA h
 yD:∀b o,h0 b=some o->h b=some o/\hA b=none
theorem Fz.base{h0 A:ad}(q:Fz h0 A h):Le h0 h:=λb o a=>(q.yD b o a).1
end Go.S
