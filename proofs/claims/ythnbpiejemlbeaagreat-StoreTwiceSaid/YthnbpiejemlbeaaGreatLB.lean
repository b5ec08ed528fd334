import Derived.Test.YthnbpiejemlbeaaGreatLA
set_option linter.all false
set_option maxRecDepth 100000
set_option maxHeartbeats 8000000
namespace Go.S
open Go.Sx Go.Proofs
variable {d:DB}{D:DB×Int}{H:List bU}{i n:Nat}{k:Value->ad->Prop}{h:ad}{hd:bU}
theorem sW(a b:bU):eo a b=eo b a:=by
 unfold eo;have e1:decide (a.s≠b.s)=decide (b.s≠a.s):=by rw[decide_eq_decide];exact ne_comm
 have e:decide (a.table=b.table)=decide (b.table=a.table):=by rw[decide_eq_decide];exact eq_comm
 rw[e1,e,Bool.or_comm]
def HU(H:List bU):Prop:=∀(i j:Nat) (x y:bU),H[i]? =some x->H[j]? =some y->x.s=y.s->x.table=y.table->i=j
theorem SQ(h:∀(j:Nat) (y:bU),H[j]? =some y->ja hd y=false):nD H hd=none:=by unfold nD;rw[kQV];intro x hx;obtain⟨j,a⟩:=rK hx;exact h j x a
theorem SP(u:HU H){x:bU}(hx:H[i]? =some x)(h:ja hd x=true):nD H hd=some i:=by
 unfold nD;rw[kQU];have a:=ff.1 hx;refine⟨a.1,by rw[a.2];exact h,λj c=>?_⟩;have q:j<H.length:=by have:=a.1;omega
 intro f;have b:H[j]? =some (H[j]'q):=zG q;unfold ja at h f;simp only[ya,NB]at h f;have:=u i j x _ hx b (by rw[h.1,f.1]) (by rw[h.2,f.2]);omega
theorem MN{H W:List bU}(h:nD H hd=none):bP H hd= !(H.any (eo hd))/\(H.any (eo hd)=false->cS H hd=H++[hd])/\(H.any (eo hd)=true->cS H hd=H):=by
 have b:oX H hd=false:=by unfold oX;rw[h]
 have f:bP H hd= !(H.any (eo hd)):=by unfold bP;rw[b];rfl
 refine⟨f,λa=>?_,λa=>?_⟩
 .unfold cS;rw[f,a,b,h];rfl
 unfold cS;rw[f,a];rfl
theorem MM{H W:List bU}{x:bU}(h:nD H hd=some i)(hx:H[i]? =some x)(p:ja hd x=true):
 ((x.x|| !hd.x)=true->bP H hd=true/\cS H hd=H)/\((x.x|| !hd.x)=false->bP H hd= !(H.any (eo hd))/\(H.any (eo hd)=false->cS H hd=H.set i ⟨x.s,x.table,true⟩)/\(H.any (eo hd)=true->cS H hd=H)):=by
 obtain⟨xs,t,d⟩:=x;obtain⟨s,e,D⟩:=hd;unfold ja at p;simp only[ya,NB]at p;obtain⟨rfl,rfl⟩:=p;have b:oX H ⟨xs,t,D⟩=(d|| !D):=by unfold oX;rw[h];simp only;rw[hx];simp only[Option.any_some,Qh,decide_true,jKP];cases d<;>cases D<;>rfl
 refine⟨λa=>?_,λa=>?_⟩
 .have f:bP H ⟨xs,t,D⟩=true:=by unfold bP;rw[b];simp only at a;rw[a];rfl
  refine⟨f,?_⟩;unfold cS;rw[f,b];simp only at a;rw[a];rfl
 simp only at a;rw[a]at b;have f:bP H ⟨xs,t,D⟩= !(H.any (eo ⟨xs,t,D⟩)):=by unfold bP;rw[b];rfl
 have g:D=true:=by cases D<;>simp_all
 refine⟨f,λc=>?_,λc=>?_⟩
 .unfold cS;rw[f,c,b,h,g];rfl
 unfold cS;rw[f,c];rfl
theorem ZR{p:bU->Bool}{x:bU}(hx:H[i]? =some x):(H.take (i+1)).any p=((H.take i).any p||p x):=by rw[qM,hx,List.any_append];simp
theorem cZg{W:List bU}{P b4:Option Addr}{c3 n4 c4:Nat}(q:Sl 422 bu h (.slice P n c3) H)(N:Sl 422 bu h (.slice b4 n4 c4) W)(h3:n<=2^36)(h4:n4<=2^36)(hu:HU H)(s:Int)(t:ByteArray)(x:Bool)
 (hk:∀h' e3 m3 f3 D d E u,Le h h'->u=bP H ⟨s,t,x⟩->Sl 422 bu h' (.slice e3 m3 f3) (cS H ⟨s,t,x⟩)->Sl 422 bu h' (.slice D d E) (cY H W ⟨s,t,x⟩)->k (.tuple #[.agg #[.slice e3 m3 f3,.slice D d E],.bool u]) h'):
 Ct 271 [.agg #[.slice P n c3,.slice b4 n4 c4],.agg #[.int .i64 s,.string t,.bool x]] h k:=by
 obtain⟨A,hA⟩:=Ar.ex;have ax:=q.len;have jQ:=q.bound;have CT:∀b:Bool,A .not b= !b:=λb=>by rw[hA.not]
 obtain⟨hd,O⟩:∃hd:bU,hd=⟨s,t,x⟩:=⟨_,rfl⟩;have aB:∀y:bU,ja hd y=(decide (y.s=s)&&decide (y.table=t)):=λy=>by rw[O];rfl
 rw[<-O]at hk;obtain⟨I,gQ⟩:∃I:Nat->(Int×Int×Bool)->ad->Prop,∀m g h',I m g h'=∃i:Nat,aZ g.1 i/\m=n-i/\i<=n/\h'=h/\((g.2.1=-1/\∀(j:Nat) y,j<i->H[j]? =some y->ja hd y=false)\/∃j y,aZ g.2.1 j/\j<i/\H[j]? =some y/\ja hd y=true)/\g.2.2= !((H.take i).any (eo hd)):=⟨_,λ_ _ _=>rfl⟩;refine fz eQW A Tryz.func271 ?_;cbv;refine aX.go (G:=Int×Int×Bool) (λg=>[(8,.v (.int .i64 g.1)),(6,.v (.int .i64 g.2.1)),(7,.v (.bool g.2.2))]) (λ_=>[(2,[.slice P n c3,.slice b4 n4 c4]),(3,[.int .i64 s,.string t,.bool x]),(4,[.slice none 0 0,.slice none 0 0])]) (λm g h'=>I m g h') n (0,-1,true) (by constructor<;>cbv) (by rw[gQ];exact⟨0,⟨rfl⟩,rfl,by omega,rfl,.inl ⟨rfl,λj y hj=>absurd hj (by omega)⟩,by simp⟩) ?_
 intro m g h' hI;rw[gQ]at hI;cbv;obtain⟨i,hz,hm,hi,rfl,Yb,S⟩:=hI;obtain⟨z,own,fr⟩:=g;have hz:aZ z i:=hz;have Yb:(own=-1/\∀(j:Nat) y,j<i->H[j]? =some y->ja hd y=false)\/∃j y,aZ own j/\j<i/\H[j]? =some y/\ja hd y=true:=Yb;have S:fr= !((H.take i).any (eo hd)):=S;have f1:A .aN .lss z (A .nat n)=decide (i<n):=hz.yY (aZ.nat n);rw[f1];by_cases aU:i<n
 .obtain⟨⟨ys,c,f⟩,F⟩:=cB H i;have ey:P.isSome=true/\0<=z/\z<(n:Int):=⟨q.bp,hz.ix aU⟩;have dG:=hz.eq;have gG:=hz.succ (A:=A);have f2:A .aN .eql ys s=decide (ys=s):=au A ..;have f3:A .kM .eql c t=decide (c=t):=eK A ..;have Ym:=aB ⟨ys,c,f⟩;have Ym:ja hd ⟨ys,c,f⟩=(decide (ys=s)&&decide (c=t)):=Ym;have U:=ZR (p:=eo hd) F;have pV:ja hd ⟨ys,c,f⟩=false->(own=-1/\∀(j:Nat) y,j<i+1->H[j]? =some y->ja hd y=false)\/∃j y,aZ own j/\j<i+1/\H[j]? =some y/\ja hd y=true:=λhf=>by
   rcases Yb with⟨h1,h2⟩|⟨j,y,h1,h2,h3⟩
   .refine .inl ⟨h1,λj y hj ag=>?_⟩;rcases wM j i with h|h
    .exact h2 j y h ag
    have:j=i:=by omega
    subst this;rw[F]at ag;cases ag;exact hf
   exact .inr ⟨j,y,h1,by omega,h3⟩
  have pX:eo hd ⟨ys,c,f⟩=eo ⟨s,t,x⟩ ⟨ys,c,f⟩:=by rw[O]
  rw[pX]at U;clear Yb;have hF:fr=false->false= !((H.take (i+1)).any (eo hd)):=λe=>by
   rw[U];rw[e]at S;have:(H.take i).any (eo hd)=true:=by
    cases h:(H.take i).any (eo hd)with
    |true=>rfl
    |false=>rw[h]at S;cases S
   rw[this];rfl
  have al:fr=true->∀C,C=eo ⟨s,t,x⟩ ⟨ys,c,f⟩->(!C)= !((H.take (i+1)).any (eo hd)):=λe C R=>by
   rw[U,R];rw[e]at S;have:(H.take i).any (eo hd)=false:=by
    cases h:(H.take i).any (eo hd)with
    |false=>rfl
    |true=>rw[h]at S;cases S
   rw[this];rfl
  have Tm:n-(i+1)<m:=by omega
  generalize decide (ys=s)=us at *;generalize decide (c=t)=ut at *;rw[ak aU];cbv;refine⟨ey,?_⟩;cbv;refine q.cu F dG (o:=0) (m:=1) (by decide) (λcs a=>?_);have a:cs=[.int .i64 ys,.string c,.bool f]:=a;subst a;cbv;rw[f2];cases us with
  |false=>
   have qO:=pV (by rw[Ym];rfl);cbv;cases fr with
   |false=>
    have T:I (n-(i+1)) (A .aT .add .i64 z 1,own,false) h':=by rw[gQ];exact⟨i+1,gG,rfl,aU,rfl,qO,hF rfl⟩
    cbv;refine⟨n-(i+1),(_,own,false),Tm,by constructor<;>cbv,T⟩
   |true=>
    cbv;refine⟨ey,?_⟩;cbv;refine q.load F dG (λcs a=>?_);have a:cs=[.int .i64 ys,.string c,.bool f]:=a;subst a;cbv;refine ui ys s c t f x (λC R=>?_);rw[sW]at R;cbv;rw[CT];have T:I (n-(i+1)) (A .aT .add .i64 z 1,own,!C) h':=by rw[gQ];exact⟨i+1,gG,rfl,aU,rfl,qO,al rfl C R⟩
    cbv;refine⟨n-(i+1),(_,own,!C),Tm,by constructor<;>cbv,T⟩
  |true=>
   cbv;refine⟨ey,?_⟩;cbv;refine q.cu F dG (o:=1) (m:=1) (by decide) (λcs a=>?_);have a:cs=[.int .i64 ys,.string c,.bool f]:=a;subst a;cbv;rw[f3];cases ut with
   |false=>
    have qO:=pV (by rw[Ym];rfl);cbv;cases fr with
    |false=>
     have T:I (n-(i+1)) (A .aT .add .i64 z 1,own,false) h':=by rw[gQ];exact⟨i+1,gG,rfl,aU,rfl,qO,hF rfl⟩
     cbv;refine⟨n-(i+1),(_,own,false),Tm,by constructor<;>cbv,T⟩
    |true=>
     cbv;refine⟨ey,?_⟩;cbv;refine q.load F dG (λcs a=>?_);have a:cs=[.int .i64 ys,.string c,.bool f]:=a;subst a;cbv;refine ui ys s c t f x (λC R=>?_);rw[sW]at R;cbv;rw[CT];have T:I (n-(i+1)) (A .aT .add .i64 z 1,own,!C) h':=by rw[gQ];exact⟨i+1,gG,rfl,aU,rfl,qO,al rfl C R⟩
     cbv;refine⟨n-(i+1),(_,own,!C),Tm,by constructor<;>cbv,T⟩
   |true=>
    have Z:ja hd ⟨ys,c,f⟩=true:=by rw[Ym];rfl
    cbv;cases fr with
    |false=>
     have T:I (n-(i+1)) (A .aT .add .i64 z 1,z,false) h':=by rw[gQ];exact⟨i+1,gG,rfl,aU,rfl,.inr ⟨i,_,hz,by omega,F,Z⟩,hF rfl⟩
     cbv;refine⟨n-(i+1),(_,z,false),Tm,by constructor<;>cbv,T⟩
    |true=>
     cbv;refine⟨ey,?_⟩;cbv;refine q.load F dG (λcs a=>?_);have a:cs=[.int .i64 ys,.string c,.bool f]:=a;subst a;cbv;refine ui ys s c t f x (λC R=>?_);rw[sW]at R;cbv;rw[CT];have T:I (n-(i+1)) (A .aT .add .i64 z 1,z,!C) h':=by rw[gQ];exact⟨i+1,gG,rfl,aU,rfl,.inr ⟨i,_,hz,by omega,F,Z⟩,al rfl C R⟩
     cbv;refine⟨n-(i+1),(_,z,!C),Tm,by constructor<;>cbv,T⟩
 rw[bn aU];have fC:i=n:=by omega
 have bM:(H.take i).any (eo hd)=H.any (eo hd):=by rw[ie (by omega)]
 have Y:=S;clear S;rw[bM]at Y;rcases Yb with⟨rfl,qO⟩|⟨j,y,ab,mA,F,Z⟩
 .have aq:A .aN .geq (-1) 0=false:=by rw[cH A];rfl
  have DQ:nD H hd=none:=SQ (λj y hj=>qO j y (by have:=(ff.1 hj).1;omega) hj);obtain⟨a1,a2,a3⟩:=MN (W:=W) DQ;clear qO DQ;cbv;rw[aq];cbv;rw[CT];cases fr with
  |false=>
   have U:H.any (eo hd)=true:=by
    cases h:H.any (eo hd)with
    |true=>rfl
    |false=>rw[h]at Y;cases Y
   have a3:=a3 U;rw[U]at a1;have a1:bP H hd=false:=a1;have K:cY H W hd=bR W s++[hd]:=by unfold cY;rw[a1,O];rfl
   cbv;refine⟨?_,?_⟩
   .refine iS N (by omega) s (λh5 D d E B M=>?_);have Bu:d<=n4:=by rw[M.sl.len,N.len];exact jKe _ _
    cbv;intro J r Q w;have l:Le h5 r:=by rw[w];exact Le.set Q
    have f6:=(congrFun w J).trans ae;have v6:Sl 422 bu r (.slice (zsA J) 1 1) [hd]:=by rw[O];exact bf (s:=bu) f6 rfl
    cbv;refine(M.mono (l.t _)).append v6 (by decide) rfl (by decide) (by omega) (B.trans l) (λm7 b7 c7 V Mr L t7 k7 X=>?_);have v:=hk V P n c3 b7 m7 c7 false L a1.symm (by rw[a3];exact q.mono (L.t _)) (by rw[K];exact X.sl);cbv;exact v
   intro J r Q w;have l:Le h' r:=by rw[w];exact Le.set Q
   have f6:=(congrFun w J).trans ae;have v6:Sl 422 bu r (.slice (zsA J) 1 1) [hd]:=by rw[O];exact bf (s:=bu) f6 rfl
   cbv;refine iS (N.mono (l.t _)) (by omega) s (λh5 D d E B M=>?_);have Bu:d<=n4:=by rw[M.sl.len,N.len];exact jKe _ _
   cbv;refine M.append (v6.mono (B.t _)) (by decide) rfl (by decide) (by omega) B (λm7 b7 c7 V Mr L t7 k7 X=>?_);have GL:=l.trans L;have v:=hk V P n c3 b7 m7 c7 false GL a1.symm (by rw[a3];exact q.mono (GL.t _)) (by rw[K];exact X.sl);cbv;exact v
  |true=>
   have U:H.any (eo hd)=false:=by
    cases h:H.any (eo hd)with
    |false=>rfl
    |true=>rw[h]at Y;cases Y
   have a2:=a2 U;rw[U]at a1;have a1:bP H hd=true:=a1;have K:cY H W hd=bR W s:=by unfold cY;rw[a1,O];rfl
   cbv;intro J r Q w;have l:Le h' r:=by rw[w];exact Le.set Q
   have fB:bt 422 bu h' r (.slice (zsA J) 0 0) ([]:List bU):=bt.nil;cbv;refine fB.append (q.mono (l.t _)) (by decide) rfl (by decide) (by omega) l (λm7 b7 c7 V Mr L t7 k7 X=>?_);rw[np]at X;cbv;rw[aq];cbv;intro n8 h8 g8 e8;have l8:Le V h8:=by rw[e8];exact Le.set g8
   have f8:=(congrFun e8 n8).trans ae;have v8:Sl 422 bu h8 (.slice (zsA n8) 1 1) [hd]:=by rw[O];exact bf (s:=bu) f8 rfl
   cbv;refine(X.mono (l8.t _)).append v8 (by decide) rfl (by decide) (by omega) (L.trans l8) (λm9 b9 c9 h9 aE l9 t9 k9 uS=>?_);cbv;refine iS (N.mono (l9.t _)) (by omega) s (λiw D d E gB kV=>?_);have v:=hk iw b9 m9 c9 D d E true (l9.trans gB) a1.symm (by rw[a2];exact uS.sl.mono (gB.t _)) (by rw[K];exact kV.sl);cbv;exact v
 have aA:j<n:=by omega
 have an:=SP hu F Z;obtain⟨a1,a2⟩:=MM (W:=W) an F Z;obtain⟨ys,c,f⟩:=y;have aw:A .aN .geq own 0=true:=by have:=ab.eq;rw[cH A];exact ak (by omega)
 have ao:P.isSome=true/\0<=own/\own<(n:Int):=⟨q.bp,ab.ix aA⟩;have UR:=ab.eq;have aD:hd.x=x:=by rw[O]
 rw[aD]at a1 a2;clear an;cbv;rw[aw];cbv;refine⟨ao,?_⟩;cbv;refine q.cu F UR (o:=2) (m:=1) (by decide) (λcs a=>?_);have a:cs=[.int .i64 ys,.string c,.bool f]:=a;subst a;cbv;cases f with
 |true=>
  have OP:(true|| !x)=true:=rfl;have K:cY H W hd=bR W s:=by unfold cY;rw[(a1 OP).1,O];rfl
  cbv;refine iS N (by omega) s (λh5 D d E B M=>?_);have v:=hk h5 P n c3 D d E true B (a1 OP).1.symm (by rw[(a1 OP).2];exact q.mono (B.t _)) (by rw[K];exact M.sl);cbv;exact v
 |false=>
  cbv;rw[CT];cases x with
  |false=>
   have OP:(false|| !false)=true:=rfl;have K:cY H W hd=bR W s:=by unfold cY;rw[(a1 OP).1,O];rfl
   cbv;refine iS N (by omega) s (λh5 D d E B M=>?_);have v:=hk h5 P n c3 D d E true B (a1 OP).1.symm (by rw[(a1 OP).2];exact q.mono (B.t _)) (by rw[K];exact M.sl);cbv;exact v
  |true=>
   obtain⟨a1,a2,a3⟩:=a2 rfl;cbv;rw[CT];cases fr with
   |false=>
    have U:H.any (eo hd)=true:=by
     cases h:H.any (eo hd)with
     |true=>rfl
     |false=>rw[h]at Y;cases Y
    have a3:=a3 U;rw[U]at a1;have a1:bP H hd=false:=a1;have K:cY H W hd=bR W s++[hd]:=by unfold cY;rw[a1,O];rfl
    cbv;refine⟨?_,?_⟩
    .refine iS N (by omega) s (λh5 D d E B M=>?_);have Bu:d<=n4:=by rw[M.sl.len,N.len];exact jKe _ _
     cbv;intro J r Q w;have l:Le h5 r:=by rw[w];exact Le.set Q
     have f6:=(congrFun w J).trans ae;have v6:Sl 422 bu r (.slice (zsA J) 1 1) [hd]:=by rw[O];exact bf (s:=bu) f6 rfl
     cbv;refine(M.mono (l.t _)).append v6 (by decide) rfl (by decide) (by omega) (B.trans l) (λm7 b7 c7 V Mr L t7 k7 X=>?_);have v:=hk V P n c3 b7 m7 c7 false L a1.symm (by rw[a3];exact q.mono (L.t _)) (by rw[K];exact X.sl);cbv;exact v
    intro J r Q w;have l:Le h' r:=by rw[w];exact Le.set Q
    have f6:=(congrFun w J).trans ae;have v6:Sl 422 bu r (.slice (zsA J) 1 1) [hd]:=by rw[O];exact bf (s:=bu) f6 rfl
    cbv;refine iS (N.mono (l.t _)) (by omega) s (λh5 D d E B M=>?_);have Bu:d<=n4:=by rw[M.sl.len,N.len];exact jKe _ _
    cbv;refine M.append (v6.mono (B.t _)) (by decide) rfl (by decide) (by omega) B (λm7 b7 c7 V Mr L t7 k7 X=>?_);have GL:=l.trans L;have v:=hk V P n c3 b7 m7 c7 false GL a1.symm (by rw[a3];exact q.mono (GL.t _)) (by rw[K];exact X.sl);cbv;exact v
   |true=>
    have U:H.any (eo hd)=false:=by
     cases h:H.any (eo hd)with
     |false=>rfl
     |true=>rw[h]at Y;cases Y
    have a2:=a2 U;rw[U]at a1;have a1:bP H hd=true:=a1;have K:cY H W hd=bR W s:=by unfold cY;rw[a1,O];rfl
    cbv;intro J r Q w;have l:Le h' r:=by rw[w];exact Le.set Q
    cbv;refine dt (q.mono (l.t _)) (by decide) rfl (by decide) (λh0=>absurd h0 (by omega)) (λnb cap V eC _ L ho=>?_);have GL:=l.trans L;have aC:(some (⟨nb,0,none⟩:Addr)).isSome=true/\0<=own/\own<(n:Int):=⟨rfl,ao.2⟩;cbv;rw[aw];cbv;refine⟨aC,?_⟩;cbv;refine ho.KT (by decide) F UR rfl (off:=2) (by decide) (x':=⟨ys,c,true⟩) (λcs a=>?_) (λh8 k8 t8 o8=>?_)
    .have a:cs=[.int .i64 ys,.string c,.bool false]:=a;rw[a];rfl
    have l8:Le h' h8:=GL.aV (bs:=[nb]) (by simpa using l.none eC) k8;cbv;refine iS (N.mono (l8.t _)) (by omega) s (λiw D d E gB kV=>?_);have v:=hk iw (zsA nb) n cap D d E true (l8.trans gB) a1.symm (by rw[a2];exact(o8.sl (by rw[nM];exact ax)).mono (gB.t _)) (by rw[K];exact kV.sl);cbv;exact v
theorem Zn{a b c e:Option Addr}{r f g t l u p:Nat}(q:RP h a r f b n g c t l e u p d)(I:SI d)(s:Int)(hs:-2^63<=s/\s<2^63){D:DB×List cV×Int}(C:bZ d s=D)
 (J:∀h' a r f b n g c t l e u p F P G,Le h h'->RP h' a r f b n g c t l e u p D.1->Sl 161 bz h' (.slice F P G) D.2.1->k (.tuple #[.agg #[.slice a r f,.slice b n g,.slice c t l,.slice e u p],.slice F P G,.int .i64 D.2.2]) h'):
 Ct 163 [.agg #[.slice a r f,.slice b n g,.slice c t l,.slice e u p],.int .i64 s] h k:=by
 obtain⟨A,hA⟩:=Ar.ex;have uC:=lW I.gL I.ov;have U:A .aN .lss (-1) 0=true:=by rw[aR A];rfl
 refine fz eZM A Tryz.func163 ?_;cbv;refine yi q s (λz L=>?_);rcases oq I hs L with⟨rfl,hb⟩|⟨i,w,E,hw,T,e1,e2⟩
 .have Q:D=(d,[],2):=by rw[<-C];unfold bZ;rw[hb];rfl
  subst Q;have x:=J h a r f b n g c t l e u p none 0 0 (Le.refl _) q Sl.nil;cbv;rw[U];cbv;exact x
 have iv:=(ff.1 hw).1;have R:=I.log w (cK hw);have S:=sk I.gL hw;have Q:D=(⟨d.ao,d.ai.take i++d.ai.drop (i+1),bR d.holds s,bR d.waits s⟩,w.log,0):=by rw[<-C];unfold bZ xW;rw[e2,e1,hw];simp only[if_true];rw[jKM]
 clear C L;subst Q;have W:A .aN .lss z 0=false:=E.yW (A:=A);have ag:=I.holds;have ab:=I.waits;have eU:=q.ai.len;have ey:b.isSome=true/\0<=z/\z<(n:Int):=⟨q.ai.bp,E.ix (by omega)⟩;have dG:=E.eq;have H:=R.2;clear R;obtain⟨ws,wl,wm⟩:=w;have H:wl.length<=60:=H;cbv;rw[W];cbv;intro n6 B g6 e6;have M:Le h B:=by rw[e6];exact Le.set g6
 have q6:=q.mono M;have fB:bt 161 bz h B (.slice (zsA n6) 0 0) ([]:List cV):=bt.nil;cbv;refine⟨ey,?_⟩;cbv;refine q6.ai.cu hw dG (o:=1) (m:=1) (by decide) (λcs X=>?_);obtain⟨u1,v1,w1,u2,v2,w2,rfl,v,qm⟩:=X;have v:Sl 161 bz B (.slice u1 v1 w1) wl:=v;have V:=v.len;cbv;refine fB.append v (by decide) rfl (by decide) (by omega) M (λm7 Y Z h7 Mr N t7 k7 K=>?_);rw[np]at K;cbv;refine Zb (q.mono N) (by omega) (by omega) (by omega) hw T (λj y hy he=>S j y hy (by rw[he,T])) (λh8 a r f b n g c t l e u p O q8=>?_);have x:=J h8 a r f b n g c t l e u p Y m7 Z (N.trans O) q8 (K.sl.mono (O.t _));cbv;exact x
theorem SS(nm:ByteArray):mN nm= !gS nm:=by
 unfold mN eE;simp only;cases h:gS nm with
 |false=>rfl
 |true=>
  have e1:kX [⟨nA,2,false⟩]=0:=by kernel_rfl
  rw[e1];rfl
theorem bZS{c a e f:Option Addr}{r j m y o B p:Nat}(q:RP h c r j a n m e y o f B p d)(hI:SI d)(s:Int)(hs:-2^63<=s/\s<2^63)(nm:ByteArray)(hD:lh d s nm=D)(H:RK h D.1 D.2 k):
 Ct 160 [.agg #[.slice c r j,.slice a n m,.slice e y o,.slice f B p],.int .i64 s,.string nm] h k:=by
 obtain⟨A,hA⟩:=Ar.ex;have uC:=lW hI.gL hI.ov;have Qv:A .aN .lss (-1) 0=true:=by rw[aR A];rfl
 have CT:∀b:Bool,A .not b= !b:=λb=>by rw[hA.not]
 refine fz eZP A Tryz.func160 ?_;cbv;refine yi q s (λz jb=>?_);rcases oq hI hs jb with⟨rfl,hb⟩|⟨i,w,P,hw,vT,e1,e2⟩
 .have Q:D=(d,2):=by rw[<-hD];unfold lh;rw[hb];rfl
  subst Q;have C:=H h c r j a n m e y o f B p (Le.refl _) q;cbv;rw[Qv];cbv;exact C
 have iv:=(ff.1 hw).1;have oE:=(hI.log w (cK hw)).2;have Q:D=if(!gS nm)=true then(d,12)else if decide ((w.marks.length:Int)>=10)=true then(d,4)else(⟨d.ao,d.ai.set i ⟨w.s,w.log,w.marks++[⟨nm,(w.log.length:Int)⟩]⟩,d.holds,d.waits⟩,0):=by rw[<-hD];unfold lh;rw[e2,e1,hw,SS];rfl
 clear hD jb;have aU:A .aN .lss z 0=false:=P.yW (A:=A);have eU:=q.ai.len;have ey:a.isSome=true/\0<=z/\z<(n:Int):=⟨q.ai.bp,P.ix (by omega)⟩;have dG:=P.eq;obtain⟨ws,wl,E⟩:=w;have oE:wl.length<=60:=oE;have Q:D=if(!gS nm)=true then(d,12)else if decide ((E.length:Int)>=10)=true then(d,4)else(⟨d.ao,d.ai.set i ⟨ws,wl,E++[⟨nm,(wl.length:Int)⟩]⟩,d.holds,d.waits⟩,0):=Q
 obtain⟨W,Y⟩:∃z:Int,z=(wl.length:Int):=⟨_,rfl⟩;obtain⟨u,hu⟩:∃u,u=decide ((E.length:Int)>=10):=⟨_,rfl⟩;rw[<-Y,<-hu]at Q;have aq:∀v,v=wl.length->A .nat v=W:=λv hv=>by rw[hA.nat,hv,Y];rfl
 have al:∀v,v=E.length->A .aN .geq (A .nat v) 10=u:=λv hv=>by rw[cH A,hA.nat,hv,hu];rfl
 have ab:u=false->E.length<10:=λh=>by rw[h]at hu;have:=kz hu.symm;omega
 clear Y hu;cbv;rw[aU];cbv;refine(Ji (s:=nm)).mono (λv F hR=>?_);obtain⟨l5,t,hv,ht⟩:=hR;rw[hv];cbv;rw[CT];rw[<-ht]at Q;cases t with
 |false=>have Q:D=(d,12):=Q;subst Q;have C:=H F c r j a n m e y o f B p l5 (q.mono l5);cbv;exact C
 |true=>
  have Q:D=if u=true then(d,4)else(⟨d.ao,d.ai.set i ⟨ws,wl,E++[⟨nm,W⟩]⟩,d.holds,d.waits⟩,0):=Q
  have HV:RK F D.1 D.2 k:=λh' c r j a n m e y o f B p l q'=>H h' c r j a n m e y o f B p (l5.trans l) q';clear H;have H:=HV;clear HV;have q0:=q;clear q;have q:=q0.mono l5;clear q0 l5 ht hv;cbv;refine⟨ey,?_⟩;cbv;refine q.ai.load hw dG (λcs ar=>?_);obtain⟨u1,v1,w1,u2,v2,w2,rfl,R,qm⟩:=ar;have R:Sl 161 bz F (.slice u1 v1 w1) wl:=R;have qm:Sl 340 df F (.slice u2 v2 w2) E:=qm;have ag:=R.len;have Nn:=qm.len;have an:=al v2 Nn;have aw:=aq v1 ag;cbv;rw[an];cases u with
  |true=>have Q:D=(d,4):=Q;subst Q;have C:=H F c r j a n m e y o f B p (Le.refl _) q;cbv;exact C
  |false=>
   have Q:D=(⟨d.ao,d.ai.set i ⟨ws,wl,E++[⟨nm,W⟩]⟩,d.holds,d.waits⟩,0):=Q;have ab:=ab rfl;subst Q;cbv;rw[aw];refine⟨?_,?_⟩
   .intro n7 h7 g7 e7;have T:Le F h7:=by rw[e7];exact Le.set g7
    cbv;refine⟨?_,?_⟩
    .cbv;refine dt (qm.mono (T.t _)) (by decide) rfl (by decide) (λh0=>?_) (λn9 c9 h9 nj _ l9 Th=>?_)
     .have XO:E=[]:=kh (by omega);cbv;intro K G g8 J;have U:Le h7 G:=by rw[J];exact Le.set g8
      have f8:=(congrFun J K).trans ae;have O:Sl 340 df G (.slice (zsA K) 1 1) [⟨nm,W⟩]:=bf (s:=df) f8 rfl;have S:bt 340 df F G (.slice (zsA n7) 0 0) E:=by rw[XO];exact bt.nil
      have X:=T.trans U;cbv;refine S.append O (by decide) rfl (by decide) (by omega) X (λHL Ed Iw iw AW g L AD V=>?_);cbv;refine nP (q.mono g) (by omega) P iv (R.mono (g.t _)) V.sl (λM c r j a n m e y o f B p I N=>?_);have C:=H M c r j a n m e y o f B p (g.trans I) N;cbv;exact C
     have ao:bt 340 df F h9 (.slice (zsA n9) v2 c9) E:=Th.buf (T.none nj) Nn;cbv;intro K G g8 J;have U:Le h9 G:=by rw[J];exact Le.set g8
     have f8:=(congrFun J K).trans ae;have O:Sl 340 df G (.slice (zsA K) 1 1) [⟨nm,W⟩]:=bf (s:=df) f8 rfl;have S:=ao.mono (U.t _);have X:=(T.trans l9).trans U;cbv;refine S.append O (by decide) rfl (by decide) (by omega) X (λHL Ed Iw iw AW g L AD V=>?_);cbv;refine nP (q.mono g) (by omega) P iv (R.mono (g.t _)) V.sl (λM c r j a n m e y o f B p I N=>?_);have C:=H M c r j a n m e y o f B p (g.trans I) N;cbv;exact C
    cbv;intro K G g8 J;have U:Le h7 G:=by rw[J];exact Le.set g8
    have f8:=(congrFun J K).trans ae;have v8:Sl 340 df G (.slice (zsA K) 1 1) [⟨nm,W⟩]:=bf (s:=df) f8 rfl;have Z:=T.trans U;cbv;refine dt (qm.mono (Z.t _)) (by decide) rfl (by decide) (λh0=>?_) (λn9 c9 h9 nj _ l9 Th=>?_)
    .have XO:E=[]:=kh (by omega);have S:bt 340 df F G (.slice (zsA n7) 0 0) E:=by rw[XO];exact bt.nil
     have O:=v8;have X:=Z;cbv;refine S.append O (by decide) rfl (by decide) (by omega) X (λHL Ed Iw iw AW g L AD V=>?_);cbv;refine nP (q.mono g) (by omega) P iv (R.mono (g.t _)) V.sl (λM c r j a n m e y o f B p I N=>?_);have C:=H M c r j a n m e y o f B p (g.trans I) N;cbv;exact C
    have S:bt 340 df F h9 (.slice (zsA n9) v2 c9) E:=Th.buf (Z.none nj) Nn;have O:=v8.mono (l9.t _);have X:=Z.trans l9;cbv;refine S.append O (by decide) rfl (by decide) (by omega) X (λHL Ed Iw iw AW g L AD V=>?_);cbv;refine nP (q.mono g) (by omega) P iv (R.mono (g.t _)) V.sl (λM c r j a n m e y o f B p I N=>?_);have C:=H M c r j a n m e y o f B p (g.trans I) N;cbv;exact C
   intro K G g8 J;have U:Le F G:=by rw[J];exact Le.set g8
   have f8:=(congrFun J K).trans ae;cbv;intro n7 h7 g7 e7;have T:Le G h7:=by rw[e7];exact Le.set g7
   have v8:Sl 340 df h7 (.slice (zsA K) 1 1) [⟨nm,W⟩]:=(bf (s:=df) (x:=⟨nm,W⟩) f8 rfl).mono (T.t _);have Z:=U.trans T;cbv;refine dt (qm.mono (Z.t _)) (by decide) rfl (by decide) (λh0=>?_) (λn9 c9 h9 nj _ l9 Th=>?_)
   .have XO:E=[]:=kh (by omega);have S:bt 340 df F h7 (.slice (zsA n7) 0 0) E:=by rw[XO];exact bt.nil
    have O:=v8;have X:=Z;cbv;refine S.append O (by decide) rfl (by decide) (by omega) X (λHL Ed Iw iw AW g L AD V=>?_);cbv;refine nP (q.mono g) (by omega) P iv (R.mono (g.t _)) V.sl (λM c r j a n m e y o f B p I N=>?_);have C:=H M c r j a n m e y o f B p (g.trans I) N;cbv;exact C
   have S:bt 340 df F h9 (.slice (zsA n9) v2 c9) E:=Th.buf (Z.none nj) Nn;have O:=v8.mono (l9.t _);have X:=Z.trans l9;cbv;refine S.append O (by decide) rfl (by decide) (by omega) X (λHL Ed Iw iw AW g L AD V=>?_);cbv;refine nP (q.mono g) (by omega) P iv (R.mono (g.t _)) V.sl (λM c r j a n m e y o f B p I N=>?_);have C:=H M c r j a n m e y o f B p (g.trans I) N;cbv;exact C
theorem wrap_small{x:Int}(h:-2^62<=x/\x<2^62):IntKind.i64.wrap x=x:=IntWalk.i64_in _ (by omega)
theorem Kt(I:SI d){s:Int}(n:0<=s/\s<8)(m:i<=d.ai.length)(T:∀(j:Nat) w,j<i->d.ai[j]? =some w->w.s<s)(a:∀w,d.ai[i]? =some w->¬w.s<s):dC (bW d.ai s)=i:=by
 have hl:(bW d.ai s).length=d.ai.length:=by simp[bW]
 have get:∀j,j<d.ai.length->∃w,d.ai[j]? =some w/\(bW d.ai s).getD j 0=w.s-s:=λj c=>by
  obtain⟨w,h⟩:=aJ c;have r:=I.ov w (cK h);exact⟨w,h,by rw[Eg h,wrap_small (by omega)]⟩
 unfold dC;refine xJ _ i (λj c=>?_) 0 _ (λj f k=>?_) (nr _) (by omega)
 .obtain⟨w,h,e⟩:=get j (by omega);rw[e];have:=T j w c h;omega
 obtain⟨w,h,e⟩:=get j (by omega);rw[e];rcases Nat.eq_or_lt_of_le f with b|b
 .subst b;have:=a w h;omega
 obtain⟨w0,L⟩:=cB d.ai i;have l:=a w0 L;have g:=wL.1 I.gL i j (ff.1 L).1 (ff.1 h).1 b;rw[(ff.1 L).2,(ff.1 h).2]at g;omega
theorem aKs{g C l p:Option Addr}{v r a e x t B u:Nat}(q:RP h g v r C a e l x t p B u d)(U:SI d)(s:Int)(hs:-2^63<=s/\s<2^63)(hD:iY d s=D)(L:RK h D.1 D.2 k):
 Ct 150 [.agg #[.slice g v r,.slice C a e,.slice l x t,.slice p B u],.int .i64 s] h k:=by
 obtain⟨A,hA⟩:=Ar.ex;have uC:=lW U.gL U.ov;have ag:A .aN .geq (-1) 0=false:=by rw[cH A];rfl
 have eU:=q.ai.len;have jQ:=q.ai.bound;have f1:A .aN .lss s 0=decide (s<0):=aR A ..;have f2:A .aN .geq s 8=decide (s>=8):=cH A ..;have key:¬s<0->¬s>=8->D=if iQ (bW d.ai s)=true then(d,7)else(⟨d.ao,d.ai.take (dC (bW d.ai s))++[⟨s,[],[]⟩]++d.ai.drop (dC (bW d.ai s)),d.holds,d.waits⟩,0):=λh1 h2=>by
  rw[<-hD];unfold iY jl;rw[bn h1,bn h2];rfl
 have E:(s<0\/s>=8)->D=(d,1):=λh=>by
  rw[<-hD];unfold iY jl;rw[if_pos (by simpa using h)]
 clear hD;refine fz eZY A Tryz.func150 ?_;cbv;rw[f1];by_cases h0:s<0
 .have b:=E (.inl h0);subst b;have y:=L h g v r C a e l x t p B u (Le.refl _) q;rw[ak h0];cbv;exact y
 rw[bn h0];cbv;rw[f2];by_cases f:s>=8
 .have b:=E (.inr f);subst b;have y:=L h g v r C a e l x t p B u (Le.refl _) q;rw[ak f];cbv;exact y
 have b:=key h0 f;clear key E;rw[bn f];cbv;refine yi q s (λz jb=>?_);rcases oq U hs jb with⟨rfl,hb⟩|⟨i,w,c,V,T,e1,e2⟩
 .rw[hb]at b;have b:D=(⟨d.ao,d.ai.take (dC (bW d.ai s))++[⟨s,[],[]⟩]++d.ai.drop (dC (bW d.ai s)),d.holds,d.waits⟩,0):=b;have mP:=λ(i:Nat)=>Kt U (s:=s) (by omega) (i:=i);clear jb;obtain⟨J,bD⟩:∃J:Nat->Int->ad->Prop,∀m z h',J m z h'=∃i:Nat,aZ z i/\m=a-i/\i<=a/\h'=h/\∀(j:Nat) w,j<i->d.ai[j]? =some w->w.s<s:=⟨_,λ_ _ _=>rfl⟩;cbv;rw[ag];cbv;refine aX.go (G:=Int) (λz=>[(6,.v (.int .i64 z))]) (λ_=>[(2,[.slice g v r,.slice C a e,.slice l x t,.slice p B u]),(4,[.slice none 0 0,.slice none 0 0,.slice none 0 0,.slice none 0 0])]) (λm z h'=>J m z h') a 0 (by constructor<;>cbv) (by rw[bD];exact⟨0,⟨rfl⟩,by omega,by omega,rfl,λj w hj=>absurd hj (by omega)⟩) ?_
  .intro m z h' hJ;rw[bD]at hJ;cbv;obtain⟨i,c,hm,hi,rfl,bM⟩:=hJ;have g1:A .aN .lss z (A .nat a)=decide (i<a):=c.yY (aZ.nat a);have X:(∀w,d.ai[i]? =some w->¬w.s<s)->D=(⟨d.ao,d.ai.take i++[⟨s,[],[]⟩]++d.ai.drop i,d.holds,d.waits⟩,0):=λhh=>by
    have:=mP i (by omega) bM hh;rw[this]at b;exact b
   clear mP b;have Z:A .nt z 0=i:=dy (A:=A) c;have W:=cJ (A:=A) c (n:=a);obtain⟨OX,OW⟩:=jQ;have gu:0<=z/\z<=(e:Int):=by have:=c.eq;omega
   have ll:0<=z/\z<=(a:Int):=by have:=c.eq;omega
   have S:i<=a:=hi;have ao:i<=8:=by omega
   rw[g1];by_cases aU:i<a
   .obtain⟨⟨ws,wl,wm⟩,V⟩:=cB d.ai i;have ey:C.isSome=true/\0<=z/\z<(a:Int):=⟨q.ai.bp,c.ix aU⟩;have dG:=c.eq;have gG:=c.succ (A:=A);have g2:A .aN .lss ws s=decide (ws<s):=aR A ..;rw[ak aU];cbv;refine⟨ey,?_⟩;cbv;refine q.ai.cu V dG (o:=0) (m:=1) (by decide) (λcs ar=>?_);obtain⟨u1,v1,w1,u2,v2,w2,rfl,-,-⟩:=ar;cbv;rw[g2];by_cases T:ws<s
    .have bX:J (a-(i+1)) (A .aT .add .i64 z 1) h':=by
      rw[bD];refine⟨i+1,gG,rfl,by omega,rfl,λj w' hj O=>?_⟩;rcases wM j i with h|h
      .exact bM j w' h O
      have:j=i:=by omega
      subst this;rw[V]at O;cases O;exact T
     rw[ak T];cbv;refine⟨a-(i+1),_,by omega,by constructor<;>cbv,bX⟩
    have b:=X (λw' O=>by rw[V]at O;cases O;exact T);subst b;rw[bn T];cbv;intro n6 K g6 e6;have N:Le h' K:=by rw[e6];exact Le.set g6
    have q6:=q.mono N;have fB:bt 337 jI h' K (.slice (zsA n6) 0 0) ([]:List eY):=bt.nil;cbv;refine⟨gu,?_⟩;cbv;refine fB.append (q6.ai.sA (A:=A) (s:=jI) (z:=A .nat e) S Z Z) (by decide) rfl (by decide) (by rw[Z];omega) N (λm7 b7 c7 h7 Mr l7 t7 k7 M=>?_);rw[np]at M;cbv;intro R f g8 H;have P:Le h7 f:=by rw[H];exact Le.set g8
    have f8:=(congrFun H R).trans ae;have v8:Sl 337 jI f (.slice (zsA R) 1 1) [⟨s,[],[]⟩]:=bf (s:=jI) f8 ⟨_,_,_,_,_,_,rfl,Sl.nil,Sl.nil⟩;cbv;refine(M.mono (P.t _)).append v8 (by decide) rfl (by decide) (by omega) (l7.trans P) (λm9 b9 c9 h9 ab Q t9 k9 uS=>?_);have q9:=q.mono Q;cbv;refine⟨ll,?_⟩;cbv;refine uS.append (q9.ai.jD (A:=A) (s:=jI) c S W (c':=e-i) rfl) (by decide) rfl (by decide) (by rw[W];omega) Q (λHL Y Iw iw AW I an AD kV=>?_);have F:=q.mono I;have y:=L iw g v r Y HL Iw l x t p B u I ⟨F.ao,kV.sl,F.holds,F.waits⟩;cbv;exact y
   have b:=X (λw' O=>by
    have:=(ff.1 O).1;omega)
   subst b;rw[bn aU];cbv;intro n6 K g6 e6;have N:Le h' K:=by rw[e6];exact Le.set g6
   have q6:=q.mono N;have fB:bt 337 jI h' K (.slice (zsA n6) 0 0) ([]:List eY):=bt.nil;cbv;refine⟨gu,?_⟩;cbv;refine fB.append (q6.ai.sA (A:=A) (s:=jI) (z:=A .nat e) S Z Z) (by decide) rfl (by decide) (by rw[Z];omega) N (λm7 b7 c7 h7 Mr l7 t7 k7 M=>?_);rw[np]at M;cbv;intro R f g8 H;have P:Le h7 f:=by rw[H];exact Le.set g8
   have f8:=(congrFun H R).trans ae;have v8:Sl 337 jI f (.slice (zsA R) 1 1) [⟨s,[],[]⟩]:=bf (s:=jI) f8 ⟨_,_,_,_,_,_,rfl,Sl.nil,Sl.nil⟩;cbv;refine(M.mono (P.t _)).append v8 (by decide) rfl (by decide) (by omega) (l7.trans P) (λm9 b9 c9 h9 ab Q t9 k9 uS=>?_);have q9:=q.mono Q;cbv;refine⟨ll,?_⟩;cbv;refine uS.append (q9.ai.jD (A:=A) (s:=jI) c S W (c':=e-i) rfl) (by decide) rfl (by decide) (by rw[W];omega) Q (λHL Y Iw iw AW I an AD kV=>?_);have F:=q.mono I;have y:=L iw g v r Y HL Iw l x t p B u I ⟨F.ao,kV.sl,F.holds,F.waits⟩;cbv;exact y
 rw[e2]at b;have b:D=(d,7):=b;subst b;have al:A .aN .geq z 0=true:=by have:=c.eq;rw[cH A];exact ak (by omega)
 have y:=L h g v r C a e l x t p B u (Le.refl _) q;cbv;rw[al];cbv;exact y
def eJU(d:DB):Prop:=∀w∈d.ai,w.marks.length<=10/\∀m∈w.marks,∃n:Nat,m.at_=(n:Int)/\n<=w.log.length
theorem cZf{p f t v:Option Addr}{H y l B K C L E:Nat}(q:RP h p H y f l B t K C v L E d)(V:SI d)(hM:eJU d)(s:Int)(hs:-2^63<=s/\s<2^63)(nm:ByteArray)(hD:mq d s nm=D)(hk:RK h D.1 D.2 k):
 Ct 162 [.agg #[.slice p H y,.slice f l B,.slice t K C,.slice v L E],.int .i64 s,.string nm] h k:=by
 obtain⟨A,hA⟩:=Ar.ex;have uC:=lW V.gL V.ov;have Qv:A .aN .lss (-1) 0=true:=by rw[aR A];rfl
 have eU:=q.ai.len;refine fz eZN A Tryz.func162 ?_;cbv;refine yi q s (λz jb=>?_);rcases oq V hs jb with⟨rfl,hb⟩|⟨i,w,S,hw,vT,e1,e2⟩
 .have Q:D=(d,2):=by rw[<-hD];unfold mq;rw[hb];rfl
  subst Q;have T:=hk h p H y f l B t K C v L E (Le.refl _) q;cbv;rw[Qv];cbv;exact T
 have iv:=(ff.1 hw).1;have oE:=V.log w (cK hw);have Z:=hM w (cK hw);have Q:(match xj w.marks nm w.marks.length with
  |some k=>((⟨eB d.ao (w.log.drop (fF (((w.marks[k]?).map (·.at_)).getD 0) w.log.length)),d.ai.set i ⟨w.s,w.log.take (fF (((w.marks[k]?).map (·.at_)).getD 0) w.log.length),w.marks.take (k+1)⟩,d.holds,d.waits⟩,0):DB×Int)
  |none=>(d,2))=D:=by rw[<-hD];unfold mq;rw[e2,e1,hw];rfl
 clear hD jb;have aU:A .aN .lss z 0=false:=S.yW (A:=A);have ey:f.isSome=true/\0<=z/\z<(l:Int):=⟨q.ai.bp,S.ix (by omega)⟩;have dG:=S.eq;obtain⟨M,wl,c⟩:=w;have Z:c.length<=10/\∀m∈c,∃n:Nat,m.at_=(n:Int)/\n<=wl.length:=Z;have oE:(∀x∈wl,Bp d.ao x)/\wl.length<=60:=oE;have Q:(match xj c nm c.length with
  |some k=>((⟨eB d.ao (wl.drop (fF (((c[k]?).map (·.at_)).getD 0) wl.length)),d.ai.set i ⟨M,wl.take (fF (((c[k]?).map (·.at_)).getD 0) wl.length),c.take (k+1)⟩,d.holds,d.waits⟩,0):DB×Int)
  |none=>(d,2))=D:=Q
 cbv;rw[aU];cbv;refine⟨ey,?_⟩;cbv;refine q.ai.tQ hw dG (o:=2) (m:=1) (by decide) (λcs r ag=>?_);obtain⟨u1,v1,w1,y1,y2,y3,rfl,ql,O⟩:=r;have O:Sl 340 df h (.slice y1 y2 y3) c:=O;have rX:=O.len;have aA:=O.bound;have ll:Vf (A .aT .sub .i64 (A .nat y2) 1) y2:=(aZ.nat y2).pred (by omega);obtain⟨J,bD⟩:∃I:Nat->Int->ad->Prop,∀m g h',I m g h'=∃j:Nat,Vf g j/\m=j/\j<=y2/\h'=h/\xj c nm c.length=xj c nm j:=⟨_,λ_ _ _=>rfl⟩;cbv;refine aX.go (G:=Int) (λg=>[(9,.v (.int .i64 g))]) (λ_=>[(3,[.slice p H y,.slice f l B,.slice t K C,.slice v L E]),(6,[.slice none 0 0,.slice none 0 0,.slice none 0 0,.slice none 0 0])]) (λm g h'=>J m g h') y2 (A .aT .sub .i64 (A .nat y2) 1) (by constructor<;>cbv) (by rw[bD];exact⟨y2,ll,rfl,kB _,rfl,by rw[rX]⟩) ?_
 intro m g h' hJ;rw[bD]at hJ;cbv;obtain⟨j,hg,hm,hj,rfl,F⟩:=hJ;rw[hg.ge (A:=A)];cases j with
 |zero=>
  have F:xj c nm c.length=none:=F;rw[F]at Q;have Q:(d,2)=D:=Q;subst Q;have Bw:A .aN .lss g 0=true:=by have:=hg.eq;rw[aR A];exact ak (by omega)
  have T:=hk h' p H y f l B t K C v L E (Le.refl _) q;rw[show decide (1<=0)=false from rfl];cbv;rw[Bw];cbv;exact T
 |succ j=>
  have X:aZ g j:=hg.Cc;obtain⟨⟨R,P⟩,hx⟩:=cB c j;have Mb:y1.isSome=true/\0<=g/\g<(y2:Int):=⟨O.bp,X.ix (by omega)⟩;have pV:xj c nm (j+1)=if decide (R=nm)=true then some j else xj c nm j:=by show(match c[j]? with|some m=>if decide (m.name=nm)=true then some j else xj c nm j|none=>xj c nm j)=_;rw[hx]
  rw[pV]at F;have an:A .kM .neq R nm= !decide (R=nm):=by have h1:=eK A (a:=R) (b:=nm);rw[hA.kM]at h1 |-;rw[<-h1];rfl
  rw[show decide (1<=j+1)=true from ak (by omega)];cbv;refine⟨ey,?_⟩;cbv;refine ag _ _ (Le.refl _) ?_;cbv;refine⟨Mb,?_⟩;cbv;refine O.cu hx X.eq (o:=0) (m:=1) (by decide) (λcs r=>?_);have r:cs=[.string R,.int .i64 P]:=r;subst r;cbv;rw[an];generalize decide (R=nm)=u at *;cases u with
  |false=>
   have F:xj c nm c.length=xj c nm j:=F;have N:=X.pred (A:=A) (by omega);have bX:J j (A .aT .sub .i64 g 1) h':=by rw[bD];exact⟨j,N,rfl,by omega,rfl,F⟩
   cbv;refine⟨j,_,by omega,by constructor<;>cbv,bX⟩
  |true=>
   have F:xj c nm c.length=some j:=F;rw[F]at Q;have Q:((⟨eB d.ao (wl.drop (fF (((c[j]?).map (·.at_)).getD 0) wl.length)),d.ai.set i ⟨M,wl.take (fF (((c[j]?).map (·.at_)).getD 0) wl.length),c.take (j+1)⟩,d.holds,d.waits⟩,0):DB×Int)=D:=Q;rw[hx]at Q;obtain⟨n,N,Yf⟩:=Z.2 _ (cK hx);have N:P=(n:Int):=N;have Gz:fF P wl.length=min n wl.length:=by unfold fF;rw[N];rfl
   have Q:((⟨eB d.ao (wl.drop (fF P wl.length)),d.ai.set i ⟨M,wl.take (fF P wl.length),c.take (j+1)⟩,d.holds,d.waits⟩,0):DB×Int)=D:=Q;rw[Gz]at Q;have al:aZ P n:=⟨N⟩;have Bw:A .aN .lss g 0=false:=X.yW (A:=A);have Ih:=X.succ (A:=A);have rZ:=dy (A:=A) Ih;have ao:(d.ai.set i ⟨M,wl.take (min n wl.length),c⟩)[i]? =some ⟨M,wl.take (min n wl.length),c⟩:=jKx (by omega);have ax:j+1<=c.length:=by omega
   have aw:=Z.1;clear N;cbv;rw[Bw];cbv;refine⟨ey,?_⟩;cbv;refine ag _ _ (Le.refl _) ?_;cbv;refine⟨Mb,?_⟩;cbv;refine O.cu hx X.eq (o:=1) (m:=1) (by decide) (λcs r=>?_);have r:cs=[.string R,.int .i64 P]:=r;subst r;cbv;refine PQ q V.tw (by omega) hw oE.1 (by show wl.length<=_;omega) S al (λU f1 p1 g1 f2 p2 g2 f3 p3 g3 f4 p4 g4 l5 Y=>?_);have q5:RP U f1 p1 g1 f2 p2 g2 f3 p3 g3 f4 p4 g4 ⟨eB d.ao (wl.drop (min n wl.length)),d.ai.set i ⟨M,wl.take (min n wl.length),c⟩,d.holds,d.waits⟩:=Y;clear Y;have zd:p2=d.ai.length:=by rw[q5.ai.len];exact nM
   have YF:f2.isSome=true/\0<=z/\z<(p2:Int):=⟨q5.ai.bp,S.ix (by omega)⟩;cbv;refine⟨YF,?_⟩;cbv;refine q5.ai.load ao dG (λcs r=>?_);obtain⟨u5,v5,w5,t1,t2,t3,rfl,Jd,e⟩:=r;have Jd:Sl 161 bz U (.slice u5 v5 w5) (wl.take (min n wl.length)):=Jd;have e:Sl 340 df U (.slice t1 t2 t3) c:=e;have AG:=e.len;have ni:=e.bound;have ab:0<=A .aT .add .i64 g 1/\A .aT .add .i64 g 1<=(t3:Int):=by have:=Ih.eq;omega
   cbv;intro n6 h6 g6 e6;have l6:Le U h6:=by rw[e6];exact Le.set g6
   have fB:bt 340 df U h6 (.slice (zsA n6) 0 0) ([]:List mD):=bt.nil;have aq:j+1<=t2:=by omega
   cbv;refine⟨ab,?_⟩;cbv;refine fB.append ((e.mono (l6.t _)).sA (A:=A) (s:=df) (z:=A .nat t3) aq rZ rZ) (by decide) rfl (by decide) (by rw[rZ];omega) l6 (λm7 b7 c7 h7 Mr l7 t7 k7 iF=>?_);rw[np]at iF;have q7:=q5.mono l7;cbv;refine nP q7 (by show(d.ai.set i _).length<=_;rw[nM];omega) S (by show i<(d.ai.set i _).length;rw[nM];omega) (Jd.mono (l7.t _)) iF.sl (λh8 p H y f l B t K C v L E l8 W=>?_);have q8:RP h8 p H y f l B t K C v L E ⟨eB d.ao (wl.drop (min n wl.length)),(d.ai.set i ⟨M,wl.take (min n wl.length),c⟩).set i ⟨M,wl.take (min n wl.length),c.take (j+1)⟩,d.holds,d.waits⟩:=W;clear W;rw[List.set_set]at q8;subst Q;have T:=hk h8 p H y f l B t K C v L E ((l5.trans l7).trans l8) q8;cbv;exact T
def nN(H:List bU)(a:Int)(w:bU):List Int:=if w.s=a then(H.filter (eo w)).map (·.s)else []
theorem So(E F:List (Int×Int))(a:Int):da (E++F) a=da E a++da F a:=by simp[da]
theorem aXs(H:List bU)(a:Int)(w:bU):da (iW w H) a=nN H a w:=by
 unfold da iW nN;rw[List.filter_map,jKq];by_cases h:w.s=a
 .rw[if_pos h];have:(H.filter (eo w)).filter ((λp:Int×Int=>decide (p.1=a)) ∘ λh=>(w.s,h.s))=H.filter (eo w):=by rw[List.filter_eq_self];intro x _;simpa using h
  rw[this];rfl
 rw[if_neg h];have:(H.filter (eo w)).filter ((λp:Int×Int=>decide (p.1=a)) ∘ λh=>(w.s,h.s))=[]:=by rw[List.filter_eq_nil_iff];intro x _;simpa using h
 rw[this];rfl
theorem vt(H:List bU)(a:Int):∀W:List bU,da (cQ H W) a=W.flatMap (nN H a)
 | []=>rfl
 |w::r=>by
  have i:=vt H a r;show da (iW w H++cQ H r) a=_;rw[So,i,aXs];rfl
theorem Sp(H:List bU){a:Int}{w:bU}(b:w.s=a){k:Nat}{x:bU}(hx:H[k]? =some x):nN (H.take (k+1)) a w=nN (H.take k) a w++if eo w x=true then [x.s]else []:=by
 unfold nN;rw[if_pos b,if_pos b,qM,hx,jKC,jKH];congr 1;by_cases h:eo w x=true
 .simp[h]
 simp[h]
end Go.S
