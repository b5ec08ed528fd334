import Derived.Test.YtficmdggjjepmaaGreatBI
import Derived.Stop.BytesEq
set_option linter.all false
set_option maxRecDepth 100000
set_option maxHeartbeats 4000000
namespace Go.S
open Go.Sx Go.Proofs
variable {A:Ar}{a:Array Value}{z:Int}{K M c cap i m n p:Nat}{y:Operand}{b d j:Option Addr}{s:St}{k:Value->ab->Prop}{h h' h0:ab}
structure Fd where
 dKQ:Int
 block:Int
 tx:Int
 seq:Int
def cQy(f:Fd):List Value:=[.int .i64 f.dKQ,.int .i64 f.block,.int .i64 f.tx,.int .i64 f.seq]
def qI:Sh Fd where
 n:=4
 R _ cs f:=cs=cQy f
 len:=by rintro h cs f rfl;rfl
 one:=by rintro h cs f rfl;rfl
 tys:=[]
 mono:=by rintro h h' cs f-q;exact q
def iS(l:List Fd)(f:Fd):List Fd:=if l.length<100 then l++[f]else l
theorem So{xs:List Fd}{len:Nat}(q:Sl 137 qI h (.slice b len cap) xs)
 (d:∀h' f c',Le h h'->aT 137 qI h h' (.slice f len c') xs->k (.slice f len c') h'):
 Ct 51 [.slice b len cap] h k:=by
 refine cp fKH Tryz.func51 λA m=>?_;cbv;refine aL (λa=>?_) (λa=>?_)
 .rw[m.yw]at a;cbv;have n:b=none:=by cases b<;>simp at a |-
  subst n;have hl:len=0:=by
   rcases hJL len with e|e
   .exact e
   have:=q.aR e;cases this
  have:=q.len;have hx:xs=[]:=ee (by omega);subst hx hl;exact d _ _ _ (Le.refl _) aT.nil
 cbv;intro t j R r;have l:Le h j:=by rw[r];exact Le.set R
 cbv;refine jx (q.mono (l.t _)) rfl (by decide) (λo=>?_) (λu c s e1 p g i=>?_)
 .cbv;have:=q.len;have hx:xs=[]:=ee (by omega);subst hx o;exact d _ _ _ l aT.nil
 cbv;exact d _ _ _ (l.trans g) (i.buf (l.none e1) q.len)
structure TM(h0 h:ab)(p:Nat)(od ol os:Int)(fb:Option Addr)(fm fc:Nat)(found:List Fd)(r:List Value):Prop where
 out:h p=some (.cells (List.toArray (.int .u32 od::.int .i32 ol::.int .u32 os::.slice fb fm fc::r)) 149 (0,0))
 buf:aT 137 qI h0 h (.slice fb fm fc) found
 new:h0 p=none
 le:Le h0 h
abbrev RI:List Nat:=[149,137]
theorem Yv{od ol os:Int}{l:Nat}{u:List Fd}{D E F G H:Option Addr}{S U L V W N X Y O:Nat}{Z:Int}{R:Option Nat}
 (q:TM h0 h p od ol os j m l u [.slice D S K,.slice E U L,.slice F V M,.slice G W N,.int .i64 Z,.slice d X i,.slice H Y O,.map R]) (f:Fd) 
 (a:∀h' j m l,cY RI h h'->TM h0 h' p od ol os j m l (iS u f) [.slice D S K,.slice E U L,.slice F V M,.slice G W N,.int .i64 Z,.slice d X i,.slice H Y O,.map R]->k (.tuple #[]) h'):
 Ct 45 [.pointer (some ⟨p,0,none⟩),.agg (List.toArray (cQy f))] h k:=by
 obtain⟨A,hA⟩:=Ar.ex;obtain⟨x,I,w,v⟩:=f;have J:=q.buf.sl.len;have t:A .az .lss (A .nat m) 100=decide (u.length<100):=by rw[aJ A,hA.nat,J];exact decide_eq_decide.2 (by rw[kH];omega)
 have T:iS u ⟨x,I,w,v⟩=if u.length<100 then u++[⟨x,I,w,v⟩]else u:=rfl
 have g:=q.out;have qb:=q.buf;refine dH fKN A Tryz.func45 ?_;cbv;rw[ao A];refine bc g ?_;cbv;rw[t];by_cases n:u.length<100
 .rw[if_pos n]at T;rw[T]at a;rw[aH n];clear T t;cbv;rw[ao A];refine bc g ?_;cbv;intro pU z eL e1;have r:Le h z:=by rw[e1];exact Le.set eL
  have q1:Sl 137 qI z (.slice (some ⟨pU,0,none⟩) 1 1) [⟨x,I,w,v⟩]:=bC (s:=qI) ((congrFun e1 pU).trans ae) rfl;have P:=r _ _ g;clear e1;cbv;repeat (first|rw[ao A] | (refine bc P ?_;cbv)|(refine⟨⟨_,rfl,rfl⟩,?_⟩;cbv))
  refine(qb.mono (r.t _)).app q1 (by decide) rfl (by decide) (by omega) (q.le.trans r) (λm5 d i B Of l5 t5 C q5=>?_);have y:B p=_:=C _ _ P (.inr (.inr (λc fr e=>by cases e)));have x5:cY RI z B:=λbb o hb bm=>C bb o hb (.inr (.inr (λc fr e=>bm _ _ _ e (by decide))));clear C;cbv;rw[ao A];refine iB y (by show 4<=12;decide) (λQ b=>?_);have g6:=(congrFun b p).trans ae;have x6:cY RI B Q:=by rw[b];exact gi y (by decide)
  have:=a Q d m5 i (((r.x _).trans x5).trans x6) ⟨g6,q5.mono (by rw[b];exact cf.set y (by decide)),q.new,l5.aE (bs:=[p]) (by simpa using q.new) (by rw[b];exact Kp.set (by simp))⟩;clear a b;cbv;exact this
 rw[if_neg n]at T;rw[T]at a;have:=a h j m l (cY.refl _ _) q;rw[ag n];clear a T t;cbv;exact this
def bz(s:St):Nat->Bs×St
 |0=>([],s)
 |i+1=>((bz s i).1++[u8 ((ar 1 (bz s i).2).1:Int)],(ar 1 (bz s i).2).2)
theorem kR(s:St):∀i,(bz s i).1.length=i:=λi=>by
 induction i with
 |zero=>rfl
 |succ i h=>show((bz s i).1++[_]).length=i+1;rw[dr,h];rfl
theorem Sf[c:aV A](x:Int):A .conv .u8 x=((u8 x).toNat:Int):=by
 have h:ab:=λ_=>none;have:=iA (A:=A) (h:=h) x;have this:[Value.int .u8 (A .conv .u8 x)]=[.int .u8 ((u8 x).toNat:Int)]:=this;injection this with a b
 injection a
theorem Fb(q:fF h p s)
 (l:∀h' g,Kp [p] h h'->fF h' p (bz s 32).2->hl g=aA (bz s 32).1->k (.agg (List.toArray (hl g))) h'):
 Ct 114 [.agg #[.pointer (some ⟨p,0,none⟩)]] h k:=by
 obtain⟨J,X⟩:∃J:Nat->Nat->Int->ab->Prop,∀n w z h',J n w z h'=(∃i f,aM z i/\i<=32/\w=32-i/\Kp [p] h h'/\fF h' p (bz s i).2/\h' n=some (.cells (List.toArray (hl f)) 104 (0,0))/\∀j x,(bz s i).1[j]? =some x->f j=(x.toNat:Int)):=⟨_,λ_ _ _ _=>rfl⟩;refine cp cKC Tryz.func114 λA hA=>?_;cbv;intro n L D e1;have l1:Le h L:=by rw[e1];exact Le.set D
 have g1:L n=some (.cells (List.toArray (hl λ_=>0)) 104 (0,0)):=(congrFun e1 n).trans ae;have Q:n≠p:=λe=>q.has (e ▸ D);clear e1;have M:J n 32 0 L:=by rw[X];exact⟨0,_,⟨rfl⟩,by omega,by omega,l1.kp _,q.le l1,g1,λj x hx=>by cases hx⟩
 cbv;refine aK.go (G:=Int) (λz=>[(4,.v (.int .i64 z))]) (λ_=>[(1,[.pointer (some ⟨p,0,none⟩)])]) (λw z h'=>J n w z h') 32 0 (by constructor<;>cbv) M ?_
 intro w z h2 W;rw[X]at W;cbv;obtain⟨i,f,E,hi,hw,Y,r2,t,C⟩:=W;have K:A .az .lss z 32=decide (i<32):=E.pL (⟨rfl⟩:aM 32 32);have N:=kR s i;rw[K];by_cases B:i<32
 .rw[aH B];have S:bz s (i+1)=((bz s i).1++[u8 ((ar 1 (bz s i).2).1:Int)],(ar 1 (bz s i).2).2):=rfl;have F:∀h' (y:Int),y=((u8 ((ar 1 (bz s i).2).1:Int)).toNat:Int)->Kp [p] h h'->fF h' p (ar 1 (bz s i).2).2->h' n=some (.cells (List.toArray ((hl f).set (0+i) (.int .u8 y))) 104 (0,0))->J n (31-i) (A .aC .add .i64 z 1) h':=λh' y hy k' r' V=>by
   rw[X];rw[qp,tY f _ B]at V;refine⟨i+1,_,E.succ (A:=A),by omega,by omega,k',by rw[S];exact r',V,λj x hx=>?_⟩;rw[S]at hx;show(if j=i then y else f j)=_;by_cases e:j=i
   .subst e;rw[if_pos rfl];have hx:((bz s j).1++[u8 ((ar 1 (bz s j).2).1:Int)])[j]? =some x:=hx;rw[hJP (by omega),N,hJW]at hx;cases hx;rw[hy]
   rw[if_neg e];refine C j x ?_;have hx:((bz s i).1++[u8 ((ar 1 (bz s i).2).1:Int)])[j]? =some x:=hx;by_cases hj:j<i
   .rwa[hJQ (by omega)]at hx
   rw[qk (by rw[dr,N];simp;omega)]at hx;cases hx
  have U:31-i<w:=by omega
  have iz:=E.ix (len:=32) B;obtain⟨R,vA⟩:∃R,R=31-i:=⟨_,rfl⟩;rw[<-vA]at F U;clear X M S C K l;cbv;refine pI r2 (λd x hx H P=>?_);have T:A .conv .u8 x=((u8 ((ar 1 (bz s i).2).1:Int)).toNat:Int):=by rw[hx];exact Sf (A:=A) _
  clear hx;obtain⟨y,a⟩:∃y:Int,y=((u8 ((ar 1 (bz s i).2).1:Int)).toNat:Int):=⟨_,rfl⟩;rw[<-a]at T;have F:=λh'=>F h' y a;have u:=H _ _ t (by simpa using Q);clear a;cbv;rw[T];refine⟨iz,?_⟩;cbv;refine Yx E u (by show 0+i<32;omega) (λv r=>?_);have k4:Kp [n] d v:=by rw[r];exact Kp.set (by simp)
  have r4:fF v p (ar 1 (bz s i).2).2:=P.mt (by rw[r];exact cf.set u (by decide));have O:Kp [p] h v:=λb o c I=>k4 b o ((Y.trans H) b o c I) (by simp;intro e;rw[e,D]at c;cases c);have dt:=F v O r4 (by rw[r,ae]);clear F r;cbv;refine⟨R,A .aC .add .i64 z 1,U,by constructor<;>cbv,dt⟩
 rw[ag B];have Z:i=32:=by omega
 subst Z;have Jr:=qZ (g:=f) N C;have l:=λh' kk rr=>l h' f kk rr Jr;clear X M C K;cbv;refine bc t ?_;cbv;refine iB t (by show 32<=32;decide) (λd m=>?_);have H:Kp [n] h2 d:=by rw[m];exact Kp.set (by simp)
 have P:fF d p (bz s 32).2:=r2.mt (by rw[m];exact cf.set t (by decide));have O:Kp [p] h d:=λb o c I=>H b o (Y b o c I) (by simp;intro e;rw[e,D]at c;cases c);have u:=uK m (zS f f);have:=l d O P;clear l m;cbv;refine bc u ?_;cbv;exact this
theorem UY(q:iv h p s):h p≠none:=by obtain⟨bb,n,c,xs,z,i,err,g,-⟩:=q.out;rw[g];intro e;cases e
theorem EZ(q:iv h p s)
 (d:∀h' g,Kp [p] h h'->iv h' p (bz s 32).2->hl g=aA (bz s 32).1->k (.agg (List.toArray (hl g))) h'):
 Ct 128 [.pointer (some ⟨p,0,none⟩)] h k:=by
 obtain⟨J,c⟩:∃J:Nat->Nat->Int->ab->Prop,∀n w z h',J n w z h'=(∃i f,aM z i/\i<=32/\w=32-i/\Kp [p] h h'/\iv h' p (bz s i).2/\h' n=some (.cells (List.toArray (hl f)) 104 (0,0))/\∀j x,(bz s i).1[j]? =some x->f j=(x.toNat:Int)):=⟨_,λ_ _ _ _=>rfl⟩;refine cp cKq Tryz.func128 λA hA=>?_;cbv;intro n D v e1;have l1:Le h D:=by rw[e1];exact Le.set v
 have g1:D n=some (.cells (List.toArray (hl λ_=>0)) 104 (0,0)):=(congrFun e1 n).trans ae;have Q:n≠p:=λe=>UY q (e ▸ v);clear e1;cbv;refine iB g1 (by show 32<=32;decide) (λa e1=>?_);obtain⟨m,W⟩:∃m:Nat->Int,m=λ_=>0:=⟨_,rfl⟩;have e1:a=bH D n (.cells (List.toArray (fa (hl λ_=>0) 0 (hl λ_=>0))) 104 (0,0)):=e1;rw[<-W]at e1;have Ot:=uK e1 (zS m m);clear W;have Y:Le h a:=l1.aE (bs:=[n]) (by simpa using v) (by rw[e1];exact Kp.set (by simp));clear e1;have E:J n 32 0 a:=by rw[c];exact⟨0,_,⟨rfl⟩,by omega,by omega,Y.kp _,q.le Y,Ot,λj x hx=>by cases hx⟩
 cbv;refine aK.go (G:=Int) (λz=>[(4,.v (.int .i64 z))]) (λ_=>[(2,List.replicate 32 (.int .u8 0))]) (λw z h'=>J n w z h') 32 0 (by constructor<;>cbv) E ?_
 intro w z h2 P;rw[c]at P;cbv;obtain⟨i,f,B,hi,hw,T,V,N,u⟩:=P;have C:A .az .lss z 32=decide (i<32):=B.pL (⟨rfl⟩:aM 32 32);have I:=kR s i;rw[C];by_cases t:i<32
 .rw[aH t];have S:bz s (i+1)=((bz s i).1++[u8 ((ar 1 (bz s i).2).1:Int)],(ar 1 (bz s i).2).2):=rfl;have F:∀h' (y:Int),y=((u8 ((ar 1 (bz s i).2).1:Int)).toNat:Int)->Kp [p] h h'->iv h' p (ar 1 (bz s i).2).2->h' n=some (.cells (List.toArray ((hl f).set (0+i) (.int .u8 y))) 104 (0,0))->J n (31-i) (A .aC .add .i64 z 1) h':=λh' y hy k' r' M=>by
   rw[c];rw[qp,tY f _ t]at M;refine⟨i+1,_,B.succ (A:=A),by omega,by omega,k',by rw[S];exact r',M,λj x hx=>?_⟩;rw[S]at hx;show(if j=i then y else f j)=_;by_cases e:j=i
   .subst e;rw[if_pos rfl];have hx:((bz s j).1++[u8 ((ar 1 (bz s j).2).1:Int)])[j]? =some x:=hx;rw[hJP (by omega),I,hJW]at hx;cases hx;rw[hy]
   rw[if_neg e];refine u j x ?_;have hx:((bz s i).1++[u8 ((ar 1 (bz s i).2).1:Int)])[j]? =some x:=hx;by_cases hj:j<i
   .rwa[hJQ (by omega)]at hx
   rw[qk (by rw[dr,I];simp;omega)]at hx;cases hx
  have L:31-i<w:=by omega
  have iz:=B.ix (len:=32) t;obtain⟨K,vA⟩:∃K,K=31-i:=⟨_,rfl⟩;rw[<-vA]at F L;clear c E S u C d;cbv;refine mX V (λh3 x hx U r3=>?_);have R:A .conv .u8 x=((u8 ((ar 1 (bz s i).2).1:Int)).toNat:Int):=by rw[hx];exact Sf (A:=A) _
  clear hx;obtain⟨y,X⟩:∃y:Int,y=((u8 ((ar 1 (bz s i).2).1:Int)).toNat:Int):=⟨_,rfl⟩;rw[<-X]at R;have F:=λh'=>F h' y X;have O:=U _ _ N (by simpa using Q);clear X;cbv;rw[R];refine⟨iz,?_⟩;cbv;refine Yx B O (by show 0+i<32;omega) (λr l=>?_);have k4:Kp [n] h3 r:=by rw[l];exact Kp.set (by simp)
  have r4:iv r p (ar 1 (bz s i).2).2:=r3.mt (by rw[l];exact cf.set O (by decide));have kh:Kp [p] h r:=λb o H bm=>k4 b o ((T.trans U) b o H bm) (by simp;intro e;rw[e,v]at H;cases H);have dt:=F r kh r4 (by rw[l,ae]);clear F l;cbv;refine⟨K,A .aC .add .i64 z 1,L,by constructor<;>cbv,dt⟩
 rw[ag t];have Z:i=32:=by omega
 subst Z;have Jr:=qZ (g:=f) I u;have d:=λh' kk rr=>d h' f kk rr Jr;have:=d h2 T V;clear c E u C d;cbv;refine bc N ?_;cbv;exact this
theorem XB(q:fF h p s)(a:∀h',Kp [p] h h'->fF h' p (bA s).2->k (.bool (bA s).1) h'):
 Ct 205 [.agg #[.pointer (some ⟨p,0,none⟩)]] h k:=by
 have T:bA s=(decide ((ar 1 s).1=1),if(ar 1 s).1>1 then none else(ar 1 s).2):=rfl;refine cp cJm Tryz.func205 λA m=>?_;cbv;refine pI q (λg x hx d e=>?_);have f:A .az .gtr x 1=decide ((ar 1 s).1>1):=by rw[aO A];exact decide_eq_decide.2 (by omega)
 have b:A .az .eql x 1=decide ((ar 1 s).1=1):=by rw[aq A];exact decide_eq_decide.2 (by omega)
 clear hx;by_cases c:(ar 1 s).1>1
 .rw[if_pos c]at T;rw[T]at a;rw[aH c]at f;cbv;rw[f];cbv;refine pH e 10 (λi j l=>?_);have:=a i (d.trans j) l;cbv;rw[b];exact this
 rw[if_neg c]at T;rw[T]at a;rw[ag c]at f;have:=a g d e;cbv;rw[f];cbv;rw[b];exact this
def gP(s:St):cW×St:=
 (⟨strOf (aG (ar 1 s).2).1,((ar 1 s).1:Int),(dS (aG (aG (ar 1 s).2).2).1).getD []⟩,
  if(dS (aG (aG (ar 1 s).2).2).1)=none\/((ar 1 s).1≠1/\(ar 1 s).1≠2)then none else(aG (aG (ar 1 s).2).2).2)
theorem zC(s:St):(aG s).1.length<=65535:=by have:=Cp s;omega
theorem TP(q:fF h p s)
 (a:∀h' b n c,Kp [p] h h'->fF h' p (gP s).2->Sl 87 aZ h' (.slice b n c) (gP s).1.row->n<=255->k (.agg #[.string (gP s).1.table,.int .i64 (gP s).1.op,.slice b n c]) h'):
 Ct 204 [.agg #[.pointer (some ⟨p,0,none⟩)]] h k:=by
 have C:gP s=(⟨strOf (aG (ar 1 s).2).1,((ar 1 s).1:Int),(dS (aG (aG (ar 1 s).2).2).1).getD []⟩,
  if(dS (aG (aG (ar 1 s).2).2).1)=none\/((ar 1 s).1≠1/\(ar 1 s).1≠2)then none else(aG (aG (ar 1 s).2).2).2):=rfl
 have vY:=zC (aG (ar 1 s).2).2;refine cp cJn Tryz.func204 λA hA=>?_;cbv;refine pI q (λh1 x hx R Y=>?_);have S:A .az .neq x 1=decide ((ar 1 s).1≠1):=by rw[av A];exact decide_eq_decide.2 (by omega)
 have X:A .az .neq x 2=decide ((ar 1 s).1≠2):=by rw[av A];exact decide_eq_decide.2 (by omega)
 have C:gP s=(⟨strOf (aG (ar 1 s).2).1,x,(dS (aG (aG (ar 1 s).2).2).1).getD []⟩,
  if(dS (aG (aG (ar 1 s).2).2).1)=none\/((ar 1 s).1≠1/\(ar 1 s).1≠2)then none else(aG (aG (ar 1 s).2).2).2):=by rw[C,hx]
 clear hx;cbv;repeat (refine⟨⟨_,rfl,rfl⟩,?_⟩;cbv)
 refine vU Y (λh2 nm T U Z=>?_);rw[<-T]at C;clear T;cbv;refine vU Z (λh3 G B W q3=>?_);have P:G.size<=2^40:=by rw[B];show(aG (aG (ar 1 s).2).2).1.toArray.size<=_;rw[List.size_toArray];omega
 have H:kU G=(aG (aG (ar 1 s).2).2).1:=by rw[B,xJ]
 rw[<-H]at C;have V:=(R.trans U).trans W;clear B vY H;generalize (aG (aG (ar 1 s).2).2).2=u at *;generalize (ar 1 s).1=I at *;cbv;refine rW P (λnb c m h4 hm dV z Q=>?_);have F:=q3.le z;cbv;refine XZ Q (λN L e l M=>?_) (λr L b n v hR l s5 hn=>?_)
 .have t:=F.le l;rw[N]at C;have K:tA e u=none:=by unfold tA;rw[if_neg M]
  cbv;refine pH t e (λi j d=>?_);rw[K]at d;have J:=(V.trans ((z.trans l).kp _)).trans j;have C:gP s=(⟨nm,x,[]⟩,if(none:Option Row)=none\/(I≠1/\I≠2)then none else u):=C;rw[if_pos (.inl rfl)]at C;rw[C]at a;clear C N;have fin:∀h',Kp [p] i h'->fF h' p none->k (.agg #[.string nm,.int .i64 x,.slice none 0 0]) h':=λh' O r'=>a h' none 0 0 (J.trans O) r' Sl.nil (by omega);clear a;cbv;rw[S];by_cases f:I≠1
  .rw[aH f];cbv;rw[X];by_cases g:I≠2
   .rw[aH g];cbv;refine pH d 10 (λw o D=>?_);have:=fin w o D;cbv;exact this
   rw[ag g];have:=fin i (Kp.refl _ _) d;cbv;exact this
  rw[ag f];have:=fin i (Kp.refl _ _) d;cbv;exact this
 have t:=F.le l;rw[hR]at C;have C:gP s=(⟨nm,x,r⟩,if(some r:Option Row)=none\/(I≠1/\I≠2)then none else u):=C;cbv;refine pH t 0 (λi j d=>?_);have d:fF i p u:=d;have J:=(V.trans ((z.trans l).kp _)).trans j;have E:=s5.mono (t.lt j (by decide));cbv;rw[S];by_cases f:I≠1
 .rw[aH f];cbv;rw[X];by_cases g:I≠2
  .rw[aH g];rw[if_pos (.inr ⟨f,g⟩)]at C;rw[C]at a;clear C hR;cbv;refine pH d 10 (λw o D=>?_);have:=a w b n v (J.trans o) D (E.mono (d.lt o (by decide))) (by omega);clear a;cbv;exact this
  rw[ag g];rw[if_neg (λy=>y.elim (λe=>by cases e) (λe=>g e.2))]at C;rw[C]at a;have:=a i b n v J d E (by omega);clear a C hR;cbv;exact this
 rw[ag f];rw[if_neg (λy=>y.elim (λe=>by cases e) (λe=>f e.1))]at C;rw[C]at a;have:=a i b n v J d E (by omega);clear a C hR;cbv;exact this
theorem Ty(q:iv h p s)
 (a:∀h' b n c,Kp [p] h h'->iv h' p (gP s).2->Sl 87 aZ h' (.slice b n c) (gP s).1.row->n<=255->k (.agg #[.string (gP s).1.table,.int .i64 (gP s).1.op,.slice b n c]) h'):
 Ct 127 [.pointer (some ⟨p,0,none⟩)] h k:=by
 obtain⟨A,hA⟩:=Ar.ex;have C:gP s=(⟨strOf (aG (ar 1 s).2).1,((ar 1 s).1:Int),(dS (aG (aG (ar 1 s).2).2).1).getD []⟩,
  if(dS (aG (aG (ar 1 s).2).2).1)=none\/((ar 1 s).1≠1/\(ar 1 s).1≠2)then none else(aG (aG (ar 1 s).2).2).2):=rfl
 have vY:=zC (aG (ar 1 s).2).2;have Z:A .az .neq 0 0=false:=by rw[av A];rfl
 refine dH cKr A Tryz.func127 ?_;cbv;refine mX q (λh1 x hx J O=>?_);have S:A .az .neq x 1=decide ((ar 1 s).1≠1):=by rw[av A];exact decide_eq_decide.2 (by omega)
 have X:A .az .neq x 2=decide ((ar 1 s).1≠2):=by rw[av A];exact decide_eq_decide.2 (by omega)
 have C:gP s=(⟨strOf (aG (ar 1 s).2).1,x,(dS (aG (aG (ar 1 s).2).2).1).getD []⟩,
  if(dS (aG (aG (ar 1 s).2).2).1)=none\/((ar 1 s).1≠1/\(ar 1 s).1≠2)then none else(aG (aG (ar 1 s).2).2).2):=by rw[C,hx]
 clear hx;cbv;refine uj O (λh2 nm T K R=>?_);rw[<-T]at C;clear T;cbv;refine uj R (λh3 z B L U=>?_);have P:z.size<=2^40:=by rw[B];show(aG (aG (ar 1 s).2).2).1.toArray.size<=_;rw[List.size_toArray];omega
 have D:kU z=(aG (aG (ar 1 s).2).2).1:=by rw[B,xJ]
 rw[<-D]at C;have V:=(J.trans K).trans L;clear B vY D;generalize (aG (aG (ar 1 s).2).2).2=y at *;generalize (ar 1 s).1=I at *;cbv;refine rW P (λnb c m h4 hm dV t Q=>?_);have w:=U.le t;cbv;refine Tv Q (λN j e l H=>?_) (λr j b n i hR l u hn=>?_)
 .have d:=w.le l;rw[N]at C;have Y:=(V.trans ((t.trans l).kp _));have C:gP s=(⟨nm,x,[]⟩,if(none:Option Row)=none\/(I≠1/\I≠2)then none else y):=C;rw[if_pos (.inl rfl)]at C;rw[C]at a;clear C N;have E:A .az .neq e 0=true:=by rw[av A];exact aH H
  cbv;rw[E];cbv;refine po d (x:=10) (by decide) (λF M W=>?_);have:=a F none 0 0 (Y.trans M) W Sl.nil (by omega);clear a;cbv;exact this
 have d:=w.le l;rw[hR]at C;have C:gP s=(⟨nm,x,r⟩,if(some r:Option Row)=none\/(I≠1/\I≠2)then none else y):=C;have Y:=(V.trans ((t.trans l).kp _));cbv;rw[Z];cbv;rw[S];by_cases f:I≠1
 .rw[aH f];cbv;rw[X];by_cases g:I≠2
  .rw[aH g];rw[if_pos (.inr ⟨f,g⟩)]at C;rw[C]at a;clear C hR;cbv;refine po d (x:=10) (by decide) (λG v q7=>?_);have:=a G b n i (Y.trans v) q7 (u.mono (d.lt v (by decide))) (by omega);clear a;cbv;exact this
  rw[ag g];rw[if_neg (λo=>o.elim (λe=>by cases e) (λe=>g e.2))]at C;rw[C]at a;have:=a j b n i Y d u (by omega);clear a C hR;cbv;exact this
 rw[ag f];rw[if_neg (λo=>o.elim (λe=>by cases e) (λe=>f e.1))]at C;rw[C]at a;have:=a j b n i Y d u (by omega);clear a C hR;cbv;exact this
def dQt(id:Int)(b1:Option Addr)(n1 c1:Nat)(b2:Option Addr)(n2 c2:Nat)(g1:Nat->Int)(cl:Bool)(g2:Nat->Int):List Value:=[.int .i64 id,.slice b1 n1 c1,.slice b2 n2 c2,.int .u8 (g1 0),.int .u8 (g1 1),.int .u8 (g1 2),.int .u8 (g1 3),.int .u8 (g1 4),.int .u8 (g1 5),.int .u8 (g1 6),.int .u8 (g1 7),.int .u8 (g1 8),.int .u8 (g1 9),.int .u8 (g1 10),.int .u8 (g1 11),.int .u8 (g1 12),.int .u8 (g1 13),.int .u8 (g1 14),.int .u8 (g1 15),.int .u8 (g1 16),.int .u8 (g1 17),.int .u8 (g1 18),.int .u8 (g1 19),.int .u8 (g1 20),.int .u8 (g1 21),.int .u8 (g1 22),.int .u8 (g1 23),.int .u8 (g1 24),.int .u8 (g1 25),.int .u8 (g1 26),.int .u8 (g1 27),.int .u8 (g1 28),.int .u8 (g1 29),.int .u8 (g1 30),.int .u8 (g1 31),.bool cl,.int .u8 (g2 0),.int .u8 (g2 1),.int .u8 (g2 2),.int .u8 (g2 3),.int .u8 (g2 4),.int .u8 (g2 5),.int .u8 (g2 6),.int .u8 (g2 7),.int .u8 (g2 8),.int .u8 (g2 9),.int .u8 (g2 10),.int .u8 (g2 11),.int .u8 (g2 12),.int .u8 (g2 13),.int .u8 (g2 14),.int .u8 (g2 15),.int .u8 (g2 16),.int .u8 (g2 17),.int .u8 (g2 18),.int .u8 (g2 19),.int .u8 (g2 20),.int .u8 (g2 21),.int .u8 (g2 22),.int .u8 (g2 23),.int .u8 (g2 24),.int .u8 (g2 25),.int .u8 (g2 26),.int .u8 (g2 27),.int .u8 (g2 28),.int .u8 (g2 29),.int .u8 (g2 30),.int .u8 (g2 31)]
def cX(s:St):Nat->List cW×List Bs×St
 |0=>([],[],s)
 |i+1=>((cX s i).1++[(gP (cX s i).2.2).1],(cX s i).2.1++[(bz (gP (cX s i).2.2).2 32).1],(bz (gP (cX s i).2.2).2 32).2)
structure aQd where
 id:Int
 xI:List cW
 rows:List Bs
 root:Bs
 pf:Bool
 block:Bs
def vQ(t:Bool×St):Bs×St:=if t.1 then bz t.2 32 else(List.replicate 32 0,t.2)
def Yu(id:Int)(l:List cW×List Bs×St):aQd×St:=
 (⟨id,l.1,l.2.1,(bz l.2.2 32).1,(bA (bz l.2.2 32).2).1,(vQ (bA (bz l.2.2 32).2)).1⟩,(vQ (bA (bz l.2.2 32).2)).2)
def tM(s:St):aQd×St:=Yu (IntKind.i64.wrap ((ar 8 s).1:Int)) (cX (ar 1 (ar 8 s).2).2 (ar 1 (ar 8 s).2).1)
theorem IV(l:Le (Sx.eS h p) h'):Kp [p] h h':=λb o a m=>l b o (by rw[Sx.jS (by simpa using m)];exact a)
theorem JL(k:Kp [p] h h'):Le (Sx.eS h p) h':=λb o a=>by
 by_cases e:b=p
 .rw[e,Sx.ju]at a;cases a
 rw[Sx.jS e]at a;exact k b o a (by simpa using e)
theorem yY(s:St):∀i,(cX s i).1.length=i/\(cX s i).2.1.length=i:=λi=>by
 induction i with
 |zero=>exact⟨rfl,rfl⟩
 |succ i h=>show((cX s i).1++[_]).length=i+1/\((cX s i).2.1++[_]).length=i+1;rw[dr,dr,h.1,h.2];exact⟨rfl,rfl⟩
theorem fQt(q:fF h p s)
 (x:∀h' d a f e l j B S,Kp [p] h h'->fF h' p (tM s).2->Sl 228 bW h' (.slice d a f) (tM s).1.xI->Sl 104 iM h' (.slice e l j) (tM s).1.rows->a<=255->l=a->hl B=aA (tM s).1.root->hl S=aA (tM s).1.block->
  k (.agg (List.toArray (dQt (tM s).1.id d a f e l j B (tM s).1.pf S))) h'):
 Ct 113 [.agg #[.pointer (some ⟨p,0,none⟩)]] h k:=by
 have T:tM s=Yu (IntKind.i64.wrap ((ar 8 s).1:Int)) (cX (ar 1 (ar 8 s).2).2 (ar 1 (ar 8 s).2).1):=rfl;have Ld:=oS 1 (ar 8 s).2;refine cp cKD Tryz.func113 λA hA=>?_;cbv;refine Yc q (λh1 id K k1 q1=>?_);rw[<-K]at T;clear K;generalize (ar 8 s).2=s1 at *;cbv;refine pI q1 (λh2 cz v k2 q2=>?_);generalize (ar 1 s1).2=s2 at *;obtain⟨I,Rj⟩:∃I,I=(ar 1 s1).1:=⟨_,rfl⟩;rw[<-Rj]at v Ld T;have ai:aM cz I:=⟨v⟩;have Ld:I<256:=Ld;have aW:=k1.trans k2;clear Rj v;obtain⟨J,X⟩:∃J:Nat->(Int×(Option Addr×Nat×Nat)×(Option Addr×Nat×Nat))->ab->Prop,∀w g h',J w g h'=(∃i,aM g.1 i/\i<=I/\w=I-i/\Le (Sx.eS h p) h'/\fF h' p (cX s2 i).2.2/\
  aT 228 bW (Sx.eS h p) h' (.slice g.2.1.1 g.2.1.2.1 g.2.1.2.2) (cX s2 i).1/\aT 104 iM (Sx.eS h p) h' (.slice g.2.2.1 g.2.2.2.1 g.2.2.2.2) (cX s2 i).2.1):=⟨_,λ_ _ _=>rfl⟩
 have hJ:J I (0,(none,0,0),(none,0,0)) h2:=by rw[X];exact⟨0,⟨rfl⟩,by omega,rfl,JL aW,q2,aT.nil,aT.nil⟩
 cbv;refine aK.go (G:=Int×(Option Addr×Nat×Nat)×(Option Addr×Nat×Nat)) (λg=>[(11,.v (.int .i64 g.1))]) (λg=>[(1,[.pointer (some ⟨p,0,none⟩)]),(2,dQt id g.2.1.1 g.2.1.2.1 g.2.1.2.2 g.2.2.1 g.2.2.2.1 g.2.2.2.2 (λ_=>0) false (λ_=>0))]) (λw g h'=>J w g h') I (0,(none,0,0),(none,0,0)) (by constructor<;>cbv) hJ ?_
 intro w g h3 hI;rw[X]at hI;cbv;obtain⟨z,⟨d,a,f⟩,e,l,j⟩:=g;obtain⟨i,U,hi,hw,l3,D,u,t⟩:=hI;have U:aM z i:=U;have u:aT 228 bW (Sx.eS h p) h3 (.slice d a f) (cX s2 i).1:=u;have t:aT 104 iM (Sx.eS h p) h3 (.slice e l j) (cX s2 i).2.1:=t;have eL:=u.sl.len;have eE:=t.sl.len;have Er:=yY s2 i;have fz:A .az .lss z cz=decide (i<I):=U.pL ai;rw[fz];by_cases hc:i<I
 .rw[aH hc];have bF:∀h' d m1 f e m2 j,Le (Sx.eS h p) h'->fF h' p (bz (gP (cX s2 i).2.2).2 32).2->aT 228 bW (Sx.eS h p) h' (.slice d m1 f) ((cX s2 i).1++[(gP (cX s2 i).2.2).1])->aT 104 iM (Sx.eS h p) h' (.slice e m2 j) ((cX s2 i).2.1++[(bz (gP (cX s2 i).2.2).2 32).1])->
   J (I-(i+1)) (A .aC .add .i64 z 1,(d,m1,f),(e,m2,j)) h':=λh' d m1 f e m2 j a1 a2 a3 a4=>by
   rw[X];exact⟨i+1,U.succ (A:=A),hc,rfl,a1,a2,a3,a4⟩
  have aI:I-(i+1)<w:=by omega
  have iY:a+1<=2^39:=by omega
  have fX:l+1<=2^39:=by omega
  obtain⟨wi,vA⟩:∃wi,wi=I-(i+1):=⟨_,rfl⟩;rw[<-vA]at bF aI;clear X hJ x T fz eL eE Er;cbv;repeat (refine⟨⟨_,rfl,rfl⟩,?_⟩;cbv)
  refine TP D (λC b n c y m o hn=>?_);generalize gP (cX s2 i).2.2=R at *;obtain⟨⟨tb,op,P⟩,Q⟩:=R;have m:fF C p Q:=m;have o:Sl 87 aZ C (.slice b n c) P:=o;have aP:=u.mono (D.lt y (by decide));have aD:=t.mono (D.lt y (by decide));have l4:Le (Sx.eS h p) C:=JL ((IV l3).trans y);clear u t;cbv;intro n5 H yB e5;have N:Le C H:=by rw[e5];exact Le.set yB
  have q5:Sl 228 bW H (.slice (some ⟨n5,0,none⟩) 1 1) [⟨tb,op,P⟩]:=bC (s:=bW) ((congrFun e5 n5).trans ae) ⟨_,_,_,rfl,o.mono (N.t _)⟩;clear e5;cbv;repeat (refine⟨⟨_,rfl,rfl⟩,?_⟩;cbv)
  refine(aP.mono (N.t _)).app q5 (by decide) rfl (by decide) iY (l4.trans N) (λm6 b6 c6 h6 QU l6 t6 M bd=>?_);have O:fF h6 p Q:=(m.le N).mt (t6 _ (by decide));have ak:=(aD.mono (N.t _)).mono (t6 _ (by decide));clear M;cbv;repeat (refine⟨⟨_,rfl,rfl⟩,?_⟩;cbv)
  refine Fb O (λh7 g k7 r7 hg=>?_);have sj:=kR Q 32;have aw:=bd.mono (O.lt k7 (by decide));have au:=ak.mono (O.lt k7 (by decide));have l7:Le (Sx.eS h p) h7:=JL ((IV l6).trans k7);generalize bz Q 32=R at *;obtain⟨hb,s7⟩:=R;have r7:fF h7 p s7:=r7;have hg:hl g=aA hb:=hg;have sj:hb.length=32:=sj;cbv;intro n8 h8 Eo e8;have V:Le h7 h8:=by rw[e8];exact Le.set Eo
  have q8:Sl 104 iM h8 (.slice (some ⟨n8,0,none⟩) 1 1) [hb]:=bC (s:=iM) (cs:=hl g) ((congrFun e8 n8).trans ae) ⟨hg,sj⟩;clear e8;cbv;repeat (refine⟨⟨_,rfl,rfl⟩,?_⟩;cbv)
  refine(au.mono (V.t _)).app q8 (by decide) rfl (by decide) fX (l7.trans V) (λm9 b9 c9 h9 bg l9 t9 k9 an=>?_);have r9:fF h9 p s7:=(r7.le V).mt (t9 _ (by decide));have aj:=(aw.mono (V.t _)).mono (t9 _ (by decide));have dt:=bF h9 b6 m6 c6 b9 m9 c9 l9 r9 aj an;clear k9 bF;cbv;refine⟨wi,(A .aC .add .i64 z 1,(b6,m6,c6),(b9,m9,c9)),aI,by constructor<;>cbv,dt⟩
 rw[ag hc];have fZ:i=I:=by omega
 subst fZ;have hE:Yu id (cX s2 i)=(⟨id,(cX s2 i).1,(cX s2 i).2.1,(bz (cX s2 i).2.2 32).1,(bA (bz (cX s2 i).2.2 32).2).1,(vQ (bA (bz (cX s2 i).2.2 32).2)).1⟩,(vQ (bA (bz (cX s2 i).2.2 32).2)).2):=rfl;rw[hE]at T;have Y:a<=255/\l=a:=by omega
 have k3:=IV l3;generalize (cX s2 i).1=L at *;generalize (cX s2 i).2.1=Rs at *;generalize (cX s2 i).2.2=s3 at *;have u:=u.sl;have t:=t.sl;clear X hJ fz eL eE Er hE;cbv;refine Fb D (λC B y m uv=>?_);generalize bz s3 32=R at *;obtain⟨r,o⟩:=R;have m:fF C p o:=m;have uv:hl B=aA r:=uv;cbv;refine XB m (λH k5 E=>?_);have W:=(u.mono (D.lt y (by decide))).mono (m.lt k5 (by decide));have F:=(t.mono (D.lt y (by decide))).mono (m.lt k5 (by decide));have YX:=(k3.trans y).trans k5;have T:tM s=(⟨id,L,Rs,r,(bA o).1,(vQ (bA o)).1⟩,(vQ (bA o)).2):=T;generalize bA o=R at *;obtain⟨cl,Z⟩:=R;have E:fF H p Z:=E;cases cl with
 |false=>have T:tM s=(⟨id,L,Rs,r,false,List.replicate 32 0⟩,Z):=T;rw[T]at x;have:=x H d a f e l j B (λ_=>0) YX E W F Y.1 Y.2 uv rfl;clear x T;cbv;exact this
 |true=>have T:tM s=(⟨id,L,Rs,r,true,(bz Z 32).1⟩,(bz Z 32).2):=T;rw[T]at x;clear T;cbv;refine Fb E (λh6 S M O By=>?_);have:=x h6 d a f e l j B S (YX.trans M) O (W.mono (E.lt M (by decide))) (F.mono (E.lt M (by decide))) Y.1 Y.2 uv By;clear x;cbv;exact this
set_option maxHeartbeats 1000000
def II(bad:Bool)(kind:Int)(nm:ByteArray)(b0:Option Addr)(n0 c0:Nat)(key:Int)(only:Bool)(name:ByteArray)(id:Int)(b1:Option Addr)(n1 c1:Nat)(b2:Option Addr)(n2 c2:Nat)(g1:Nat->Int)(cl:Bool)(g2:Nat->Int)(n:Int)(g3:Nat->Int):List Value:=[.bool bad,.int .i64 kind,.string nm,.slice b0 n0 c0,.int .i64 key,.bool only,.string name,.int .i64 id,.slice b1 n1 c1,.slice b2 n2 c2,.int .u8 (g1 0),.int .u8 (g1 1),.int .u8 (g1 2),.int .u8 (g1 3),.int .u8 (g1 4),.int .u8 (g1 5),.int .u8 (g1 6),.int .u8 (g1 7),.int .u8 (g1 8),.int .u8 (g1 9),.int .u8 (g1 10),.int .u8 (g1 11),.int .u8 (g1 12),.int .u8 (g1 13),.int .u8 (g1 14),.int .u8 (g1 15),.int .u8 (g1 16),.int .u8 (g1 17),.int .u8 (g1 18),.int .u8 (g1 19),.int .u8 (g1 20),.int .u8 (g1 21),.int .u8 (g1 22),.int .u8 (g1 23),.int .u8 (g1 24),.int .u8 (g1 25),.int .u8 (g1 26),.int .u8 (g1 27),.int .u8 (g1 28),.int .u8 (g1 29),.int .u8 (g1 30),.int .u8 (g1 31),.bool cl,.int .u8 (g2 0),.int .u8 (g2 1),.int .u8 (g2 2),.int .u8 (g2 3),.int .u8 (g2 4),.int .u8 (g2 5),.int .u8 (g2 6),.int .u8 (g2 7),.int .u8 (g2 8),.int .u8 (g2 9),.int .u8 (g2 10),.int .u8 (g2 11),.int .u8 (g2 12),.int .u8 (g2 13),.int .u8 (g2 14),.int .u8 (g2 15),.int .u8 (g2 16),.int .u8 (g2 17),.int .u8 (g2 18),.int .u8 (g2 19),.int .u8 (g2 20),.int .u8 (g2 21),.int .u8 (g2 22),.int .u8 (g2 23),.int .u8 (g2 24),.int .u8 (g2 25),.int .u8 (g2 26),.int .u8 (g2 27),.int .u8 (g2 28),.int .u8 (g2 29),.int .u8 (g2 30),.int .u8 (g2 31),.int .i64 n,.int .u8 (g3 0),.int .u8 (g3 1),.int .u8 (g3 2),.int .u8 (g3 3),.int .u8 (g3 4),.int .u8 (g3 5),.int .u8 (g3 6),.int .u8 (g3 7),.int .u8 (g3 8),.int .u8 (g3 9),.int .u8 (g3 10),.int .u8 (g3 11),.int .u8 (g3 12),.int .u8 (g3 13),.int .u8 (g3 14),.int .u8 (g3 15),.int .u8 (g3 16),.int .u8 (g3 17),.int .u8 (g3 18),.int .u8 (g3 19),.int .u8 (g3 20),.int .u8 (g3 21),.int .u8 (g3 22),.int .u8 (g3 23),.int .u8 (g3 24),.int .u8 (g3 25),.int .u8 (g3 26),.int .u8 (g3 27),.int .u8 (g3 28),.int .u8 (g3 29),.int .u8 (g3 30),.int .u8 (g3 31)]
inductive HI where
 |made (s:rM)
 |gone (nm:ByteArray)
 |tx (t:aQd)
 |dM (n:Int) (sum:Bs)
def uW(k:Nat)(s:St):Option HI:=
 if k=1 then(if(aG s).2=some []then(dc (aG s).1).map HI.made else none)
 else if k=2 then(if(aG s).2=some []then some (.gone (strOf (aG s).1))else none)
 else if k=3 then(if(tM s).2=some []then some (.tx (tM s).1)else none)
 else if k=4 then(if(bz (ar 8 s).2 32).2=some []then some (.dM (IntKind.i64.wrap ((ar 8 s).1:Int)) (bz (ar 8 s).2 32).1)else none)
 else none
def cF(b:Bs):Option HI:=uW (ar 1 (some b)).1 (ar 1 (some b)).2
abbrev zG:Nat->Int:=λ_=>0
theorem mg[a:aV A]{x:Int}{k:Nat}(hx:x=(k:Int))(h:z=(n:Int)):A .az .eql x z=decide (k=n):=by rw[aq A,hx,h];exact decide_eq_decide.2 (by omega)
theorem zA(s:St):(strOf (aG s).1).size<=2^40:=by have:=zC s;show(aG s).1.toArray.size<=_;rw[List.size_toArray];omega
theorem sD[a:aV A]{e:Int}(h:e=0↔s=some []):A .az .neq e 0=decide (¬s=some []):=by rw[av A];exact decide_eq_decide.2 (not_congr h)
theorem WU{e:Int}(h:e≠0):tA e s=none:=by unfold tA;rw[if_neg h]
theorem aKB{l:Bs}(q:Sl 5 bS h (.slice b m c) l)
 (d:cF l=none->∀h' D nm b0 n0 c0 key only Z id H w y I G B J cl K n g3,Le h h'->k (.agg (List.toArray (II true D nm b0 n0 c0 key only Z id H w y I G B J cl K n g3))) h')
 (V:∀s h' b0 n0 c0,cF l=some (.made s)->Le h h'->Sl 58 bt h' (.slice b0 n0 c0) s.aW->k (.agg (List.toArray (II false 1 s.name b0 n0 c0 s.key s.only ⟨#[]⟩ 0 none 0 0 none 0 0 zG false zG 0 zG))) h')
 (Y:∀nm h',cF l=some (.gone nm)->Le h h'->k (.agg (List.toArray (II false 2 ⟨#[]⟩ none 0 0 0 false nm 0 none 0 0 none 0 0 zG false zG 0 zG))) h')
 (T:∀t h' H w y I G B J K,cF l=some (.tx t)->Le h h'->Sl 228 bW h' (.slice H w y) t.xI->Sl 104 iM h' (.slice I G B) t.rows->w<=255->G=w->hl J=aA t.root->hl K=aA t.block->k (.agg (List.toArray (II false 3 ⟨#[]⟩ none 0 0 0 false ⟨#[]⟩ t.id H w y I G B J t.pf K 0 zG))) h')
 (S:∀n ai h' g3,cF l=some (.dM n ai)->Le h h'->hl g3=aA ai->k (.agg (List.toArray (II false 4 ⟨#[]⟩ none 0 0 0 false ⟨#[]⟩ 0 none 0 0 none 0 0 zG false zG n g3))) h'):
 Ct 42 [.slice b m c] h k:=by
 have hR:cF l=uW (ar 1 (some l)).1 (ar 1 (some l)).2:=rfl;refine cp fKP Tryz.func42 λA hA=>?_;cbv;refine JZ q (λh1 p u E q1=>?_);cbv;refine pI q1 (λh2 x hx C q2=>?_);have l2:Le h h2:=E.aE (bs:=[p]) (by simpa using u) C;cbv;generalize (ar 1 (some l)).2=s at *;obtain⟨D,jy⟩:∃D,D=(ar 1 (some l)).1:=⟨_,rfl⟩;rw[<-jy]at hx hR;have e1:=mg (A:=A) hx (n:=1) (z:=1) rfl;have N:=mg (A:=A) hx (n:=2) (z:=2) rfl;have O:=mg (A:=A) hx (n:=3) (z:=3) rfl;have P:=mg (A:=A) hx (n:=4) (z:=4) rfl;clear jy;rw[e1];by_cases y:D=1
 .subst y;rw[aH rfl];have hR:cF l=if(aG s).2=some []then(dc (aG s).1).map HI.made else none:=hR
  have hx:x=1:=hx;subst hx;have vY:=zA s;have yC:=xJ (aG s).1;clear Y T S e1 N O P;cbv;refine vU q2 (λi tx U j o=>?_);rw[<-U]at vY yC;rw[<-yC]at hR;have F:Le h i:=E.aE (bs:=[p]) (by simpa using u) (C.trans j);clear U yC;generalize (aG s).2=v at *;cbv;refine rW vY (λnb c m h4 hm dV Q aj=>?_);have q4:=o.le Q;cbv;refine TC aj (λhN h5 e X he=>?_) (λsc h5 b n c5 hS X s5=>?_)
  .have q5:=q4.le X;have fe:tA e v=none:=WU he;rw[hN]at hR;have hR:cF l=none:=by rw[hR];split<;>rfl
   have d:=d hR;clear V hR hN;cbv;refine pH q5 e (λM k6 R=>?_);rw[fe]at R;have l6:Le h M:=(((E.aE (bs:=[p]) (by simpa using u) (C.trans j)).trans Q).trans X).aE (bs:=[p]) (by simpa using u) k6;cbv;refine Cb R (λW r=>?_);cbv;have f:=sD (A:=A) r;rw[aH (by intro e;cases e)]at f;have:=d M 1 ⟨#[]⟩ none 0 0 0 false ⟨#[]⟩ 0 none 0 0 none 0 0 zG false zG 0 zG l6;clear d;rw[f];cbv;exact this
  have q5:=q4.le X;rw[hS]at hR;have hR:cF l=if v=some []then some (.made sc)else none:=hR
  cbv;refine pH q5 0 (λM k6 R=>?_);have R:fF M p v:=R;have l6:Le h M:=(((E.aE (bs:=[p]) (by simpa using u) (C.trans j)).trans Q).trans X).aE (bs:=[p]) (by simpa using u) k6;have s6:=s5.mono (q5.lt k6 (by decide));cbv;refine Cb R (λW r=>?_);cbv;have f:=sD (A:=A) r;by_cases a:v=some []
  .rw[if_pos a]at hR;rw[ag (λg=>g a)]at f;have:=V sc M b n c5 hR l6 s6;clear d V hR;rw[f];cbv;exact this
  rw[if_neg a]at hR;rw[aH a]at f;have:=d hR M 1 sc.name b n c5 sc.key sc.only ⟨#[]⟩ 0 none 0 0 none 0 0 zG false zG 0 zG l6;clear d V hR;rw[f];cbv;exact this
 rw[ag y];clear V;cbv;rw[N];by_cases B:D=2
 .subst B;rw[aH rfl];have hR:cF l=if(aG s).2=some []then some (.gone (strOf (aG s).1))else none:=hR
  have hx:x=2:=hx;subst hx;clear T S e1 N O P;cbv;refine vU q2 (λi tx U j o=>?_);have F:Le h i:=E.aE (bs:=[p]) (by simpa using u) (C.trans j);rw[<-U]at hR;clear U;generalize (aG s).2=v at *;cbv;refine Cb o (λW r=>?_);cbv;have f:=sD (A:=A) r;by_cases a:v=some []
  .rw[if_pos a]at hR;rw[ag (λg=>g a)]at f;have:=Y tx i hR F;clear d Y hR;rw[f];cbv;exact this
  rw[if_neg a]at hR;rw[aH a]at f;have:=d hR i 2 ⟨#[]⟩ none 0 0 0 false tx 0 none 0 0 none 0 0 zG false zG 0 zG F;clear d Y hR;rw[f];cbv;exact this
 rw[ag B];clear Y;cbv;rw[O];by_cases c3:D=3
 .subst c3;rw[aH rfl];have hR:cF l=if(tM s).2=some []then some (.tx (tM s).1)else none:=hR
  have hx:x=3:=hx;subst hx;clear S e1 N O P;cbv;refine fQt q2 (λi H w iO I G oI J K j o s1 s2 hn oH uv By=>?_);have F:Le h i:=E.aE (bs:=[p]) (by simpa using u) (C.trans j);have hR:cF l=if(tM s).2=some []then some (.tx ⟨(tM s).1.id,(tM s).1.xI,(tM s).1.rows,(tM s).1.root,(tM s).1.pf,(tM s).1.block⟩)else none:=hR
  generalize (tM s).1.id=id at *;generalize (tM s).1.xI=L at *;generalize (tM s).1.rows=Rs at *;generalize (tM s).1.root=root at *;generalize (tM s).1.pf=cl at *;generalize (tM s).1.block=dM at *;generalize (tM s).2=v at *;cbv;refine Cb o (λW r=>?_);cbv;have f:=sD (A:=A) r;by_cases a:v=some []
  .rw[if_pos a]at hR;rw[ag (λg=>g a)]at f;have:=T _ i H w iO I G oI J K hR F s1 s2 hn oH uv By;clear d T hR;rw[f];cbv;exact this
  rw[if_neg a]at hR;rw[aH a]at f;have:=d hR i 3 ⟨#[]⟩ none 0 0 0 false ⟨#[]⟩ id H w iO I G oI J cl K 0 zG F;clear d T hR;rw[f];cbv;exact this
 rw[ag c3];clear T;cbv;rw[P];by_cases c4:D=4
 .subst c4;rw[aH rfl];have hR:cF l=if(bz (ar 8 s).2 32).2=some []then some (.dM (IntKind.i64.wrap ((ar 8 s).1:Int)) (bz (ar 8 s).2 32).1)else none:=hR
  have hx:x=4:=hx;subst hx;clear e1 N O P;cbv;repeat (refine⟨⟨_,rfl,rfl⟩,?_⟩;cbv)
  refine Yc q2 (λi n hn j o=>?_);rw[<-hn]at hR;clear hn;generalize (ar 8 s).2=s2 at *;cbv;repeat (refine⟨⟨_,rfl,rfl⟩,?_⟩;cbv)
  refine Fb o (λh4 g k4 q4 hg=>?_);have Q:Le h h4:=E.aE (bs:=[p]) (by simpa using u) ((C.trans j).trans k4);generalize (bz s2 32).1=hb at *;generalize (bz s2 32).2=v at *;cbv;refine Cb q4 (λW r=>?_);cbv;have f:=sD (A:=A) r;by_cases a:v=some []
  .rw[if_pos a]at hR;rw[ag (λg=>g a)]at f;have:=S n hb h4 g hR Q hg;clear d S hR;rw[f];cbv;exact this
  rw[if_neg a]at hR;rw[aH a]at f;have:=d hR h4 4 ⟨#[]⟩ none 0 0 0 false ⟨#[]⟩ 0 none 0 0 none 0 0 zG false zG n g Q;clear d S hR;rw[f];cbv;exact this
 rw[ag c4];have hR:cF l=none:=by rw[hR];unfold uW;rw[if_neg y,if_neg B,if_neg c3,if_neg c4]
 clear S e1 N O P hx;cbv;refine pH q2 3 (λi j o=>?_);have F:Le h i:=E.aE (bs:=[p]) (by simpa using u) (C.trans j);have o:fF i p none:=o;cbv;refine Cb o (λW r=>?_);cbv;have f:=sD (A:=A) r;rw[aH (by intro e;cases e)]at f;have:=d hR i x ⟨#[]⟩ none 0 0 0 false ⟨#[]⟩ 0 none 0 0 none 0 0 zG false zG 0 zG F;clear d hR;rw[f];cbv;exact this
def uR(kind:Int)(nm:ByteArray)(b0:Option Addr)(n0 c0:Nat)(key:Int)(only:Bool)(name:ByteArray)(id:Int)(b1:Option Addr)(n1 c1:Nat)(b2:Option Addr)(n2 c2:Nat)(g1:Nat->Int)(cl:Bool)(n:Int)(g2:Nat->Int):List Value:=[.int .i64 kind,.string nm,.slice b0 n0 c0,.int .i64 key,.bool only,.string name,.int .i64 id,.slice b1 n1 c1,.slice b2 n2 c2,.int .u8 (g1 0),.int .u8 (g1 1),.int .u8 (g1 2),.int .u8 (g1 3),.int .u8 (g1 4),.int .u8 (g1 5),.int .u8 (g1 6),.int .u8 (g1 7),.int .u8 (g1 8),.int .u8 (g1 9),.int .u8 (g1 10),.int .u8 (g1 11),.int .u8 (g1 12),.int .u8 (g1 13),.int .u8 (g1 14),.int .u8 (g1 15),.int .u8 (g1 16),.int .u8 (g1 17),.int .u8 (g1 18),.int .u8 (g1 19),.int .u8 (g1 20),.int .u8 (g1 21),.int .u8 (g1 22),.int .u8 (g1 23),.int .u8 (g1 24),.int .u8 (g1 25),.int .u8 (g1 26),.int .u8 (g1 27),.int .u8 (g1 28),.int .u8 (g1 29),.int .u8 (g1 30),.int .u8 (g1 31),.bool cl,.int .i64 n,.int .u8 (g2 0),.int .u8 (g2 1),.int .u8 (g2 2),.int .u8 (g2 3),.int .u8 (g2 4),.int .u8 (g2 5),.int .u8 (g2 6),.int .u8 (g2 7),.int .u8 (g2 8),.int .u8 (g2 9),.int .u8 (g2 10),.int .u8 (g2 11),.int .u8 (g2 12),.int .u8 (g2 13),.int .u8 (g2 14),.int .u8 (g2 15),.int .u8 (g2 16),.int .u8 (g2 17),.int .u8 (g2 18),.int .u8 (g2 19),.int .u8 (g2 20),.int .u8 (g2 21),.int .u8 (g2 22),.int .u8 (g2 23),.int .u8 (g2 24),.int .u8 (g2 25),.int .u8 (g2 26),.int .u8 (g2 27),.int .u8 (g2 28),.int .u8 (g2 29),.int .u8 (g2 30),.int .u8 (g2 31)]
theorem pa:∀i,(bz none i).2=none:=λi=>by
 induction i with
 |zero=>rfl
 |succ i h=>show(ar 1 (bz none i).2).2=none;rw[h];rfl
theorem Dn:(gP none).2=none:=by
 unfold gP;simp only;split
 .rfl
 rfl
theorem Sr(s:St)(h:(cX s i).2.2=none):∀d,(cX s (i+d)).2.2=none:=λd=>by
 induction d with
 |zero=>exact h
 |succ d a=>show(bz (gP (cX s (i+d)).2.2).2 32).2=none;rw[a,Dn,pa]
theorem FI:(bA none).2=none:=rfl
theorem NG{t:Bool×St}(h:t.2=none):(vQ t).2=none:=by
 unfold vQ;split
 .rw[h,pa]
 exact h
theorem AS(h:s=none):(vQ (bA (bz s 32).2)).2=none:=by rw[h,pa];exact NG FI
theorem OV{l:Bs}{id:Int}{I:Nat}(hR:cF l=if(Yu id (cX s I)).2=some []then some (.tx (Yu id (cX s I)).1)else none)(b:i<=I)(h:i=I\/(cX s i).2.2=none):
 cF l=if(vQ (bA (bz (cX s i).2.2 32).2)).2=some []then some (.tx ⟨id,(cX s i).1,(cX s i).2.1,(bz (cX s i).2.2 32).1,(bA (bz (cX s i).2.2 32).2).1,(vQ (bA (bz (cX s i).2.2 32).2)).1⟩)else none:=by
 rcases h with h|h
 .subst h;exact hR
 have a:=Sr s h (I-i);rw[show i+(I-i)=I by omega]at a;have e1:(Yu id (cX s I)).2=none:=AS a;rw[hR,e1,AS h];rw[if_neg (by intro e;cases e),if_neg (by intro e;cases e)]
theorem VK[a:aV A]{x:Int}{k:Nat}(hx:x=(k:Int))(h:z=(n:Int)):A .az .gtr x z=decide (k>n):=by rw[aO A,hx,h];exact decide_eq_decide.2 (by omega)
theorem nE[a:aV A]{e:Int}(h:e=0↔s=some []):A .az .eql e 0=decide (s=some []):=by rw[aq A];exact decide_eq_decide.2 h
theorem XX{l:Bs}(q:Sl 5 bS h (.slice b m c) l)
 (o:cF l=none->∀h' kd nm b0 n0 c0 key only bj id u r d v B j P cl n Q,Le h h'->k (.tuple #[.agg (List.toArray (uR kd nm b0 n0 c0 key only bj id u r d v B j P cl n Q)),.bool false]) h')
 (de:∀s h' b0 n0 c0,cF l=some (.made s)->Le h h'->Sl 58 bt h' (.slice b0 n0 c0) s.aW->k (.tuple #[.agg (List.toArray (uR 1 s.name b0 n0 c0 s.key s.only ⟨#[]⟩ 0 none 0 0 none 0 0 zG false 0 zG)),.bool true]) h')
 (jY:∀nm h',cF l=some (.gone nm)->Le h h'->k (.tuple #[.agg (List.toArray (uR 2 ⟨#[]⟩ none 0 0 0 false nm 0 none 0 0 none 0 0 zG false 0 zG)),.bool true]) h')
 (O:∀t h' u r d v B j P Q,cF l=some (.tx t)->Le h h'->Sl 228 bW h' (.slice u r d) t.xI->Sl 104 iM h' (.slice v B j) t.rows->r<=255->B=r->hl P=aA t.root->hl Q=aA t.block->k (.tuple #[.agg (List.toArray (uR 3 ⟨#[]⟩ none 0 0 0 false ⟨#[]⟩ t.id u r d v B j P t.pf 0 Q)),.bool true]) h')
 (CS:∀n bk h' Q,cF l=some (.dM n bk)->Le h h'->hl Q=aA bk->k (.tuple #[.agg (List.toArray (uR 4 ⟨#[]⟩ none 0 0 0 false ⟨#[]⟩ 0 none 0 0 none 0 0 zG false n Q)),.bool true]) h'):
 Ct 53 [.slice b m c] h k:=by
 obtain⟨A,hA⟩:=Ar.ex;have hR:cF l=uW (ar 1 (some l)).1 (ar 1 (some l)).2:=rfl;have pZ:A .az .neq 0 0=false:=by rw[av A];rfl
 refine fG A [20] (ah fKF.aw fKF.aP) Tryz.func53 rfl (by kernel_rfl) ?_;cbv;refine HK q (λh1 p F l1 q1=>?_);cbv;refine mX q1 (λh2 x hx k2 q2=>?_);have l2:Le h h2:=l1.aE (bs:=[p]) (by simpa using F) k2;cbv;generalize (ar 1 (some l)).2=s at *;obtain⟨kd,jy⟩:∃kd,kd=(ar 1 (some l)).1:=⟨_,rfl⟩;rw[<-jy]at hx hR;have e1:=mg (A:=A) hx (n:=1) (z:=1) rfl;have e2:=mg (A:=A) hx (n:=2) (z:=2) rfl;have e3:=mg (A:=A) hx (n:=3) (z:=3) rfl;have e4:=mg (A:=A) hx (n:=4) (z:=4) rfl;clear jy;rw[e1];by_cases d:kd=1
 .subst d;rw[aH rfl];have hR:cF l=if(aG s).2=some []then(dc (aG s).1).map HI.made else none:=hR
  have hx:x=1:=hx;subst hx;have vY:=zA s;have yC:=xJ (aG s).1;clear jY O CS e1 e2 e3 e4;cbv;refine uj q2 (λS tx BK V Z=>?_);rw[<-BK]at vY yC;rw[<-yC]at hR;have l3:Le h S:=l1.aE (bs:=[p]) (by simpa using F) (k2.trans V);clear BK yC;generalize (aG s).2=s3 at *;cbv;refine rW vY (λnb c m h4 hm dV l4 bm=>?_);have q4:=Z.le l4;cbv;refine Tu bm (λhN U e W he=>?_) (λsc U b n c5 hS W s5=>?_)
  .have q5:=q4.le W;rw[hN]at hR;have hR:cF l=none:=by rw[hR];split<;>rfl
   have o:=o hR;have M:A .az .neq e 0=true:=by rw[av A];exact aH he
   clear de hR hN;cbv;rw[M];cbv;refine po q5 (x:=10) (by decide) (λh6 Y q6=>?_);have l6:Le h h6:=(((l1.aE (bs:=[p]) (by simpa using F) (k2.trans V)).trans l4).trans W).aE (bs:=[p]) (by simpa using F) Y;cbv;repeat (refine⟨⟨_,rfl,rfl⟩,?_⟩;cbv)
   refine pG q6 (λN E=>?_);cbv;have f:=nE (A:=A) E;rw[ag (by intro e;cases e)]at f;have:=o h6 1 ⟨#[]⟩ none 0 0 0 false ⟨#[]⟩ 0 none 0 0 none 0 0 zG false 0 zG l6;clear o;rw[f];cbv;exact this
  have q5:=q4.le W;rw[hS]at hR;have hR:cF l=if s3=some []then some (.made sc)else none:=hR
  have l6:=(l3.trans l4).trans W;cbv;rw[pZ];cbv;repeat (refine⟨⟨_,rfl,rfl⟩,?_⟩;cbv)
  refine pG q5 (λN E=>?_);cbv;have f:=nE (A:=A) E;by_cases a:s3=some []
  .rw[if_pos a]at hR;rw[aH a]at f;have:=de sc U b n c5 hR l6 s5;clear o de hR;rw[f];cbv;exact this
  rw[if_neg a]at hR;rw[ag a]at f;have:=o hR U 1 sc.name b n c5 sc.key sc.only ⟨#[]⟩ 0 none 0 0 none 0 0 zG false 0 zG l6;clear o de hR;rw[f];cbv;exact this
 rw[ag d];clear de;cbv;rw[e2];by_cases j:kd=2
 .subst j;rw[aH rfl];have hR:cF l=if(aG s).2=some []then some (.gone (strOf (aG s).1))else none:=hR
  have hx:x=2:=hx;subst hx;clear O CS e1 e2 e3 e4;cbv;refine uj q2 (λS tx BK V Z=>?_);have l3:Le h S:=l1.aE (bs:=[p]) (by simpa using F) (k2.trans V);rw[<-BK]at hR;clear BK;generalize (aG s).2=s3 at *;cbv;repeat (refine⟨⟨_,rfl,rfl⟩,?_⟩;cbv)
  refine pG Z (λN E=>?_);cbv;have f:=nE (A:=A) E;by_cases a:s3=some []
  .rw[if_pos a]at hR;rw[aH a]at f;have:=jY tx S hR l3;clear o jY hR;rw[f];cbv;exact this
  rw[if_neg a]at hR;rw[ag a]at f;have:=o hR S 2 ⟨#[]⟩ none 0 0 0 false tx 0 none 0 0 none 0 0 zG false 0 zG l3;clear o jY hR;rw[f];cbv;exact this
 rw[ag j];clear jY;cbv;rw[e3];by_cases c3:kd=3
 .subst c3;rw[aH rfl];have hR:cF l=if(tM s).2=some []then some (.tx (tM s).1)else none:=hR
  have hx:x=3:=hx;subst hx;clear CS e1 e2 e3 e4;have Ld:=oS 1 (ar 8 s).2;have hR:cF l=if(Yu (IntKind.i64.wrap ((ar 8 s).1:Int)) (cX (ar 1 (ar 8 s).2).2 (ar 1 (ar 8 s).2).1)).2=some []then some (.tx (Yu (IntKind.i64.wrap ((ar 8 s).1:Int)) (cX (ar 1 (ar 8 s).2).2 (ar 1 (ar 8 s).2).1)).1)else none:=hR
  cbv;refine yj q2 (λS id aw V Z=>?_);rw[<-aw]at hR;clear aw;generalize (ar 8 s).2=s1 at *;cbv;refine mX Z (λh4 cz ai k4 q4=>?_);cbv;generalize (ar 1 s1).2=s2 at *;obtain⟨I,Rj⟩:∃I,I=(ar 1 s1).1:=⟨_,rfl⟩;rw[<-Rj]at ai Ld hR;have bl:aM cz I:=⟨ai⟩;have Ld:I<256:=Ld;have l4:Le h h4:=l1.aE (bs:=[p]) (by simpa using F) ((k2.trans V).trans k4);clear Rj ai;obtain⟨J,aX⟩:∃J:Nat->(Int×(Option Addr×Nat×Nat)×(Option Addr×Nat×Nat))->ab->Prop,∀w g h',J w g h'=(∃i,aM g.1 i/\i<=I/\w=I-i/\Le h h'/\iv h' p (cX s2 i).2.2/\
   aT 228 bW h h' (.slice g.2.1.1 g.2.1.2.1 g.2.1.2.2) (cX s2 i).1/\aT 104 iM h h' (.slice g.2.2.1 g.2.2.2.1 g.2.2.2.2) (cX s2 i).2.1):=⟨_,λ_ _ _=>rfl⟩
  have hJ:J I (0,(none,0,0),(none,0,0)) h4:=by rw[aX];exact⟨0,⟨rfl⟩,qT _,rfl,l4,q4,aT.nil,aT.nil⟩
  obtain⟨C,eZ⟩:∃C:((Option Addr×Nat×Nat)×(Option Addr×Nat×Nat))->ab->Prop,∀g h',C g h'=(∃i,i<=I/\(i=I\/(cX s2 i).2.2=none)/\Le h h'/\iv h' p (cX s2 i).2.2/\
   aT 228 bW h h' (.slice g.1.1 g.1.2.1 g.1.2.2) (cX s2 i).1/\aT 104 iM h h' (.slice g.2.1 g.2.2.1 g.2.2.2) (cX s2 i).2.1):=⟨_,λ_ _=>rfl⟩
  refine jA.go (G:=(Option Addr×Nat×Nat)×(Option Addr×Nat×Nat)) (λg=>[]) (λg=>[(2,uR 0 ⟨#[]⟩ none 0 0 0 false ⟨#[]⟩ 0 none 0 0 none 0 0 zG false 0 zG),(5,uR 3 ⟨#[]⟩ none 0 0 0 false ⟨#[]⟩ id g.1.1 g.1.2.1 g.1.2.2 g.2.1 g.2.2.1 g.2.2.2 zG false 0 zG)]) C ?_ ?_
  .cbv;refine aK.go (G:=Int×(Option Addr×Nat×Nat)×(Option Addr×Nat×Nat)) (λg=>[(9,.v (.int .i64 g.1))]) (λg=>[(2,uR 0 ⟨#[]⟩ none 0 0 0 false ⟨#[]⟩ 0 none 0 0 none 0 0 zG false 0 zG),(5,uR 3 ⟨#[]⟩ none 0 0 0 false ⟨#[]⟩ id g.2.1.1 g.2.1.2.1 g.2.1.2.2 g.2.2.1 g.2.2.2.1 g.2.2.2.2 zG false 0 zG)]) (λw g h'=>J w g h') I (0,(none,0,0),(none,0,0)) (by constructor<;>cbv) hJ ?_
   .intro w g U hI;rw[aX]at hI;cbv;obtain⟨z,⟨u,r,d⟩,v,B,j⟩:=g;obtain⟨i,hz,hi,hw,W,r5,H,K⟩:=hI;have hz:aM z i:=hz;have H:aT 228 bW h U (.slice u r d) (cX s2 i).1:=H;have K:aT 104 iM h U (.slice v B j) (cX s2 i).2.1:=K;have eL:=H.sl.len;have eE:=K.sl.len;have Er:=yY s2 i;have fz:A .az .lss z cz=decide (i<I):=hz.pL bl;have D:(i=I\/(cX s2 i).2.2=none)->C ((u,r,d),(v,B,j)) U:=λhh=>by
     rw[eZ];exact⟨i,hi,hh,W,r5,H,K⟩
    rw[fz];clear o O;by_cases hc:i<I
    .rw[aH hc];obtain⟨bb,nn,cc,xs,zz,ii,err,gr,sl,bE,rf,hs⟩:=r5.out;have M:A .az .eql err 0=decide (err=0):=aq A ..;clear sl bE rf;cbv;rw[ao A];refine bc gr ?_;cbv;rw[M];by_cases a:err=0
     .rw[aH a];have bF:∀h' u m1 d v m2 j,Le h h'->iv h' p (bz (gP (cX s2 i).2.2).2 32).2->aT 228 bW h h' (.slice u m1 d) ((cX s2 i).1++[(gP (cX s2 i).2.2).1])->aT 104 iM h h' (.slice v m2 j) ((cX s2 i).2.1++[(bz (gP (cX s2 i).2.2).2 32).1])->
       J (I-(i+1)) (A .aC .add .i64 z 1,(u,m1,d),(v,m2,j)) h':=λh' u m1 d v m2 j a1 a2 a3 a4=>by
       rw[aX];exact⟨i+1,hz.succ (A:=A),hc,rfl,a1,a2,a3,a4⟩
      have aI:I-(i+1)<w:=by omega
      have iY:r+1<=2^39:=by omega
      have fX:B+1<=2^39:=by omega
      obtain⟨wi,vA⟩:∃wi,wi=I-(i+1):=⟨_,rfl⟩;rw[<-vA]at bF aI;have aD:h p=none:=F;clear aX hJ hR fz eL eE Er eZ D M a hs gr;cbv;repeat (refine⟨⟨_,rfl,rfl⟩,?_⟩;cbv)
      refine Ty r5 (λh6 b n c Y r6 s6 hn=>?_);generalize gP (cX s2 i).2.2=R at *;have au:=H.mono (r5.lt Y (by decide));have ak:=K.mono (r5.lt Y (by decide));have l6:Le h h6:=W.aE (bs:=[p]) (by simpa using aD) Y;clear H K;cbv;intro n7 h7 BR N;have X:Le h6 h7:=by rw[N];exact Le.set BR
      have q7:Sl 228 bW h7 (.slice (some ⟨n7,0,none⟩) 1 1) [R.1]:=bC (s:=bW) ((congrFun N n7).trans ae) ⟨_,_,_,rfl,s6.mono (X.t _)⟩;clear N;cbv;repeat (refine⟨⟨_,rfl,rfl⟩,?_⟩;cbv)
      refine(au.mono (X.t _)).app q7 (by decide) rfl (by decide) iY (l6.trans X) (λm8 b8 c8 h8 cb l8 t8 k8 aj=>?_);have r8:iv h8 p R.2:=(r6.le X).mt (t8 _ (by decide));have an:=(ak.mono (X.t _)).mono (t8 _ (by decide));clear k8;cbv;repeat (refine⟨⟨_,rfl,rfl⟩,?_⟩;cbv)
      refine EZ r8 (λh9 g k9 r9 hg=>?_);have sj:=kR R.2 32;have bn:=aj.mono (r8.lt k9 (by decide));have br:=an.mono (r8.lt k9 (by decide));have l9:Le h h9:=l8.aE (bs:=[p]) (by simpa using aD) k9;generalize bz R.2 32=T at *;cbv;intro nA sU bx eA;have lA:Le h9 sU:=by rw[eA];exact Le.set bx
      have qA:Sl 104 iM sU (.slice (some ⟨nA,0,none⟩) 1 1) [T.1]:=bC (s:=iM) (cs:=hl g) ((congrFun eA nA).trans ae) ⟨hg,sj⟩;clear eA;cbv;repeat (refine⟨⟨_,rfl,rfl⟩,?_⟩;cbv)
      refine(br.mono (lA.t _)).app qA (by decide) rfl (by decide) fX (l9.trans lA) (λmB bB cB hB cd lB tB kB bG=>?_);have rB:iv hB p T.2:=(r9.le lA).mt (tB _ (by decide));have ca:=(bn.mono (lA.t _)).mono (tB _ (by decide));have dt:=bF hB b8 m8 c8 bB mB cB lB rB ca bG;clear kB bF;cbv;refine⟨wi,(A .aC .add .i64 z 1,(b8,m8,c8),(bB,mB,cB)),aI,by constructor<;>cbv,dt⟩
     rw[ag a];have D:=D (.inr (by rw[hs,if_neg a]));clear aX hJ hR fz eL eE Er eZ hs;cbv;refine⟨((u,r,d),(v,B,j)),by constructor<;>cbv,D⟩
    rw[ag hc];have D:=D (.inl (by omega));clear aX hJ hR fz eL eE Er eZ;cbv;refine⟨((u,r,d),(v,B,j)),by constructor<;>cbv,D⟩
  intro g U hI;rw[eZ]at hI;cbv;obtain⟨⟨u,r,d⟩,v,B,j⟩:=g;obtain⟨i,hi,bh,W,r5,H,K⟩:=hI;have H:aT 228 bW h U (.slice u r d) (cX s2 i).1:=H;have K:aT 104 iM h U (.slice v B j) (cX s2 i).2.1:=K;have eL:=H.sl.len;have eE:=K.sl.len;have Er:=yY s2 i;have hR:=OV hR hi bh;have oH:r<=255/\B=r:=⟨by rw[eL,Er.1];exact hJX hi (Nat.le_of_lt_succ Ld),by rw[eL,eE,Er.1,Er.2]⟩;generalize (cX s2 i).1=L at *;generalize (cX s2 i).2.1=Rs at *;generalize (cX s2 i).2.2=s3 at *;have H:=H.sl;have K:=K.sl;clear aX hJ eL eE Er eZ bh;refine EZ r5 (λh6 P Y r6 uv=>?_);have au:=H.mono (r5.lt Y (by decide));have ak:=K.mono (r5.lt Y (by decide));have l6:Le h h6:=W.aE (bs:=[p]) (by simpa using F) Y;generalize (bz s3 32).1=root at *;generalize (bz s3 32).2=s4 at *;cbv;have aP:bA s4=(decide ((ar 1 s4).1=1),if(ar 1 s4).1>1 then none else(ar 1 s4).2):=rfl;rw[aP]at hR;refine mX r6 (λh7 y hy k7 r7=>?_);have bd:=au.mono (r6.lt k7 (by decide));have aW:=ak.mono (r6.lt k7 (by decide));have X:Le h h7:=l6.aE (bs:=[p]) (by simpa using F) k7;cbv;have fg:=VK (A:=A) hy (n:=1) (z:=1) rfl;have M:=mg (A:=A) hy (n:=1) (z:=1) rfl;generalize (ar 1 s4).2=s5 at *;obtain⟨yn,bg⟩:∃yn,yn=(ar 1 s4).1:=⟨_,rfl⟩;rw[<-bg]at fg M hR;clear bg hy aP;rw[fg];by_cases cg:yn>1
  .rw[aH cg];have hR:cF l=none:=by rw[hR,if_pos cg,ag (show ¬yn=1 from λe=>by rw[e]at cg;exact absurd cg (by decide))];exact if_neg (by intro e;cases e)
   rw[ag (show ¬yn=1 from λe=>by rw[e]at cg;exact absurd cg (by decide))]at M;clear O;cbv;refine po r7 (x:=10) (by decide) (λh8 k8 r8=>?_);have l8:Le h h8:=X.aE (bs:=[p]) (by simpa using F) k8;cbv;rw[M];cbv;repeat (refine⟨⟨_,rfl,rfl⟩,?_⟩;cbv)
   refine pG r8 (λN E=>?_);cbv;have f:=nE (A:=A) E;rw[ag (by intro e;cases e)]at f;have:=o hR h8 3 ⟨#[]⟩ none 0 0 0 false ⟨#[]⟩ id u r d v B j P false 0 zG l8;clear o hR;rw[f];cbv;exact this
  rw[ag cg];rw[if_neg cg]at hR;cbv;by_cases cy:yn=1
  .rw[aH cy]at M hR;have hR:cF l=if(bz s5 32).2=some []then some (.tx ⟨id,L,Rs,root,true,(bz s5 32).1⟩)else none:=hR
   rw[M];cbv;refine EZ r7 (λh8 Q k8 r8 By=>?_);have aj:=bd.mono (r7.lt k8 (by decide));have an:=aW.mono (r7.lt k8 (by decide));have l8:Le h h8:=X.aE (bs:=[p]) (by simpa using F) k8;generalize (bz s5 32).1=dM at *;generalize (bz s5 32).2=s6 at *;cbv;repeat (refine⟨⟨_,rfl,rfl⟩,?_⟩;cbv)
   refine pG r8 (λN E=>?_);cbv;have f:=nE (A:=A) E;by_cases a:s6=some []
   .rw[if_pos a]at hR;rw[aH a]at f;have:=O _ h8 u r d v B j P Q hR l8 aj an oH.1 oH.2 uv By;clear o O hR;rw[f];cbv;exact this
   rw[if_neg a]at hR;rw[ag a]at f;have:=o hR h8 3 ⟨#[]⟩ none 0 0 0 false ⟨#[]⟩ id u r d v B j P true 0 Q l8;clear o O hR;rw[f];cbv;exact this
  rw[ag cy]at M hR;have hR:cF l=if s5=some []then some (.tx ⟨id,L,Rs,root,false,List.replicate 32 0⟩)else none:=hR
  rw[M];cbv;repeat (refine⟨⟨_,rfl,rfl⟩,?_⟩;cbv)
  refine pG r7 (λN E=>?_);cbv;have f:=nE (A:=A) E;by_cases a:s5=some []
  .rw[if_pos a]at hR;rw[aH a]at f;have:=O _ h7 u r d v B j P zG hR X bd aW oH.1 oH.2 uv rfl;clear o O hR;rw[f];cbv;exact this
  rw[if_neg a]at hR;rw[ag a]at f;have:=o hR h7 3 ⟨#[]⟩ none 0 0 0 false ⟨#[]⟩ id u r d v B j P false 0 zG X;clear o O hR;rw[f];cbv;exact this
 rw[ag c3];clear O;cbv;rw[e4];by_cases c4:kd=4
 .subst c4;rw[aH rfl];have hR:cF l=if(bz (ar 8 s).2 32).2=some []then some (.dM (IntKind.i64.wrap ((ar 8 s).1:Int)) (bz (ar 8 s).2 32).1)else none:=hR
  have hx:x=4:=hx;subst hx;clear e1 e2 e3 e4;cbv;refine yj q2 (λS n hn V Z=>?_);rw[<-hn]at hR;clear hn;generalize (ar 8 s).2=s2 at *;cbv;refine EZ Z (λh4 g k4 q4 hg=>?_);have l4:Le h h4:=l1.aE (bs:=[p]) (by simpa using F) ((k2.trans V).trans k4);generalize (bz s2 32).1=hb at *;generalize (bz s2 32).2=s3 at *;cbv;repeat (refine⟨⟨_,rfl,rfl⟩,?_⟩;cbv)
  refine pG q4 (λN E=>?_);cbv;have f:=nE (A:=A) E;by_cases a:s3=some []
  .rw[if_pos a]at hR;rw[aH a]at f;have:=CS n hb h4 g hR l4 hg;clear o CS hR;rw[f];cbv;exact this
  rw[if_neg a]at hR;rw[ag a]at f;have:=o hR h4 4 ⟨#[]⟩ none 0 0 0 false ⟨#[]⟩ 0 none 0 0 none 0 0 zG false n g l4;clear o CS hR;rw[f];cbv;exact this
 rw[ag c4];have hR:cF l=none:=by rw[hR];unfold uW;rw[if_neg d,if_neg j,if_neg c3,if_neg c4]
 clear CS e1 e2 e3 e4 hx;cbv;refine po q2 (x:=10) (by decide) (λS V Z=>?_);have l3:Le h S:=l1.aE (bs:=[p]) (by simpa using F) (k2.trans V);cbv;repeat (refine⟨⟨_,rfl,rfl⟩,?_⟩;cbv)
 refine pG Z (λN E=>?_);cbv;have f:=nE (A:=A) E;rw[ag (by intro e;cases e)]at f;have:=o hR S x ⟨#[]⟩ none 0 0 0 false ⟨#[]⟩ 0 none 0 0 none 0 0 zG false 0 zG l3;clear o hR;rw[f];cbv;exact this
set_option maxHeartbeats 2000000
def bT(b:Bool)(l:List Fd)(f:Fd):List Fd:=if b then l else iS l f
theorem JB{G H I:Int}{o:List Fd}{e g i l:Option Addr}{y z r B s C t D u E v:Nat}{F:Int}{x:Option Nat}
 (q:TM h0 h p G H I b m c o [.slice d y n,.slice e z r,.slice g B s,.slice i C t,.int .i64 F,.slice j D u,.slice l E v,.map x]) (w:Bool) (f:Fd) 
 (a:∀h' b m c,cY RI h h'->TM h0 h' p G H I b m c (bT w o f) [.slice d y n,.slice e z r,.slice g B s,.slice i C t,.int .i64 F,.slice j D u,.slice l E v,.map x]->k (.tuple #[]) h'):
 Ct 41 [.pointer (some ⟨p,0,none⟩),.bool w,.agg (List.toArray (cQy f))] h k:=by
 obtain⟨A,N⟩:=Ar.ex;obtain⟨M,J,L,K⟩:=f;have X:A .not false=true:=by rw[N.not];rfl
 have O:A .not true=false:=by rw[N.not];rfl
 refine dH fKQ A Tryz.func41 ?_;cases w with
 |true=>have:=a h b m c (cY.refl _ _) q;clear a;cbv;rw[O];cbv;exact this
 |false=>have a:∀h' b m c,cY RI h h'->TM h0 h' p G H I b m c (iS o ⟨M,J,L,K⟩) [.slice d y n,.slice e z r,.slice g B s,.slice i C t,.int .i64 F,.slice j D u,.slice l E v,.map x]->k (.tuple #[]) h':=a;cbv;rw[X];cbv;refine Yv q ⟨M,J,L,K⟩ (λP b m c R Q=>?_);have:=a P b m c R Q;clear a;cbv;exact this
structure TJ(h0 h:ab)(p:Nat)(b1:Option Addr)(n1 c1:Nat)(b2:Option Addr)(n2 c2:Nat)(b3:Option Addr)(n3 c3:Nat)(b4:Option Addr)(n4 c4:Nat)(nx:Int)(b5:Option Addr)(n5 c5:Nat)(b6:Option Addr)(n6 c6:Nat)(fb:Option Addr)(fm fc:Nat)(found:List Fd):Prop where
 out:h p=some (.cells (List.toArray [.slice b1 n1 c1,.slice b2 n2 c2,.slice b3 n3 c3,.slice b4 n4 c4,.int .i64 nx,.slice b5 n5 c5,.slice b6 n6 c6,.slice fb fm fc]) 170 (0,0))
 buf:aT 137 qI h0 h (.slice fb fm fc) found
 new:h0 p=none
 le:Le h0 h
abbrev bZJ:List Nat:=[170,137]
theorem Tn{l:Option Addr}{f:List Fd}{C D E F i G:Option Addr}{Q H R S L U V j W N:Nat}{X:Int}
 (q:TJ h0 h p C Q H D R K E S L F U M X i V j G W N l m n f) (w I t d:Int) 
 (a:∀h' l m n,cY bZJ h h'->TJ h0 h' p C Q H D R K E S L F U M X i V j G W N l m n (iS f ⟨w,I,t,d⟩)->k (.tuple #[]) h'):
 Ct 52 [.pointer (some ⟨p,0,none⟩),.int .i64 w,.int .i64 I,.int .i64 t,.int .i64 d] h k:=by
 obtain⟨A,hA⟩:=Ar.ex;have J:=q.buf.sl.len;have v:A .az .lss (A .nat m) 100=decide (f.length<100):=by rw[aJ A,hA.nat,J];exact decide_eq_decide.2 (by rw[kH];omega)
 have T:iS f ⟨w,I,t,d⟩=if f.length<100 then f++[⟨w,I,t,d⟩]else f:=rfl
 have g:=q.out;have qb:=q.buf;refine dH fKG A Tryz.func52 ?_;cbv;rw[ao A];refine bc g ?_;cbv;rw[v];by_cases r:f.length<100
 .rw[if_pos r]at T;rw[T]at a;rw[aH r];clear T v;cbv;repeat (first|rw[ao A] | (refine bc g ?_;cbv)|(refine⟨⟨_,rfl,rfl⟩,?_⟩;cbv))
  intro Y y eL e1;have u:Le h y:=by rw[e1];exact Le.set eL
  have q1:Sl 137 qI y (.slice (some ⟨Y,0,none⟩) 1 1) [⟨w,I,t,d⟩]:=bC (s:=qI) ((congrFun e1 Y).trans ae) rfl;have O:=u _ _ g;clear e1;cbv;repeat (first|rw[ao A] | (refine bc O ?_;cbv)|(refine⟨⟨_,rfl,rfl⟩,?_⟩;cbv))
  refine(qb.mono (u.t _)).app q1 (by decide) rfl (by decide) (by omega) (q.le.trans u) (λm5 i j z Of l5 t5 B q5=>?_);have x:z p=_:=B _ _ O (.inr (.inr (λc fr e=>by cases e)));have x5:cY bZJ y z:=λbb o hb Z=>B bb o hb (.inr (.inr (λc fr e=>Z _ _ _ e (by decide))));clear B;cbv;rw[ao A];refine iB x (by show 8<=8;decide) (λP b=>?_);have g6:=(congrFun b p).trans ae;have x6:cY bZJ z P:=by rw[b];exact gi x (by decide)
  have:=a P i m5 j (((u.x _).trans x5).trans x6) ⟨g6,q5.mono (by rw[b];exact cf.set x (by decide)),q.new,l5.aE (bs:=[p]) (by simpa using q.new) (by rw[b];exact Kp.set (by simp))⟩;clear a b;cbv;exact this
 rw[if_neg r]at T;rw[T]at a;have:=a h l m n (cY.refl _ _) q;rw[ag r];clear a T v;cbv;exact this
theorem fQo{b:Nat}{n:ByteArray}(g:h b=some (.cells #[.string n] 9 (0,0))){s:ByteArray}{a c:Option Addr}{f d e:Nat}{k:Int}{o:Bool}:
 Ct 287 [.agg #[.string s,.slice a f d,.int .i64 k,.bool o,.slice c i e],.pointer (some ⟨b,0,none⟩)] h (λv h'=>Le h h'/\∃t,v=.bool t/\t=decide (s=n)):=by
 refine cp cZe Tryz.func287 λA j=>?_;cbv;refine bc g ?_;cbv;exact⟨Le.refl _,_,rfl,ek A _ _⟩
theorem aXP{xs:List bM}{len:Nat}(q:Sl 100 bu h (.slice b len cap) xs){r:Nat}{a:ByteArray}(g:h r=some (.cells #[.string a] 9 (0,0))):
 Ct 286 [.slice b len cap,.func (.func 287) #[] #[.pointer (some ⟨r,0,none⟩)]] h (λv h'=>Le h h'/\∃z:Int,v=.int .i64 z/\oF xs (λx:bM=>decide (x.S.name=a)) z):=by
 have o:=q.len;obtain⟨Y,X⟩:=q.bound;generalize B:(λx:bM=>decide (x.S.name=a))=p;refine cp cZf Tryz.func286 λA D=>?_;cbv;refine aK.go (G:=Int) (λz=>[(8,.v (.int .i64 z))]) (λ_=>[]) (λn z h'=>∃i:Nat,aM z i/\n=len-i/\i<=len/\Le h h'/\∀j,j<i->∀y,xs[j]? =some y->p y=false) len 0 (by constructor<;>cbv) ⟨0,⟨rfl⟩,by omega,by omega,Le.refl _,λj e=>(by omega)⟩ ?_
 intro n z h' w;cbv;obtain⟨i,c,F,E,l,k⟩:=w;refine aL (λd=>?_) (λd=>?_)
 .have s:=c.lt d;clear d;cbv;obtain⟨x,hx⟩:=di xs i;refine⟨⟨q.aR,c.ix s⟩,?_⟩;cbv;refine(q.mono (l.t _)).load hx c.eq (λcs u=>?_);obtain⟨L,N,M,H,K,J,u,-⟩:=u;subst u;cbv;refine(fQo (l _ _ g)).mono (λv C hR=>?_);obtain⟨I,t,rfl,f⟩:=hR;have f:t=p x:=by rw[<-B];exact f
  cbv;cases t with
  |true=>cbv;exact⟨l.trans I,z,rfl,⟨.inr ⟨i,x,c,hx,f.symm,k⟩⟩⟩
  |false=>
   cbv;refine⟨len-(i+1),_,by omega,by constructor<;>cbv,i+1,c.succ (A:=A),rfl,by omega,l.trans I,?_⟩
   intro j e y m;rcases ss j i with h|h
   .exact k j h y m
   have:j=i:=by omega
   subst this;rw[hx]at m;cases m;exact f.symm
 have W:=c.ge d;cbv;refine⟨l,-1,rfl,⟨.inl ⟨rfl,λx hx=>?_⟩⟩⟩;obtain⟨j,e⟩:=yl hx;have:=(dB.1 e).1;exact k j (by omega) x e
theorem hXk{Q R S:Int}{u e f i:Option Addr}{y w a J o L r s N t:Nat}{P:Int}{I:Option Nat}{al:List bM}
 (g:h p=some (.cells (List.toArray [.int .u32 Q,.int .i32 R,.int .u32 S,.slice u y w,.slice b a c,.slice d J m,.slice e K o,.slice f L r,.int .i64 P,.slice i M s,.slice j N t,.map I]) 149 (0,0))) (q:Sl 100 bu h (.slice b a c) al) (n:ByteArray) 
 (F:∀h' z,Le h h'->oF al (λx=>decide (x.S.name=n)) z->k (.int .i64 z) h'):
 Ct 212 [.pointer (some ⟨p,0,none⟩),.string n] h k:=by
 refine cp cJh Tryz.func212 λA T=>?_;cbv;intro O D V e1;have l:Le h D:=by rw[e1];exact Le.set V
 have B:=(congrFun e1 O).trans ae;have C:=l _ _ g;clear e1;cbv;repeat rw[ao A]
 refine bc C ?_;cbv;refine(aXP (q.mono (l.t _)) B).mono (λv E hR=>?_);obtain⟨H,z,rfl,G⟩:=hR;have:=F E z (l.trans H) G;cbv;exact this
theorem FE:Tryz.prog.underlying 104=some (.array 32 5):=by kernel_rfl
theorem OT:Tryz.prog.underlying 5=some (.int .u8):=by kernel_rfl
theorem He:Tryz.prog.eqGuardType Tryz.prog.depth 104=false:=by kernel_rfl
theorem Ky(w:World):(Go.sizeOf 5).run Tryz.prog w=.ok 1 w:=by rfl
theorem aZY{x:Operand}{b:Array Value}(w:World):(eqGuard .eql 104 x y (.agg a) (.agg b)).run Tryz.prog w=.ok () w:=by unfold eqGuard;simp[mc,He]
theorem aZX{x:Operand}{b:Array Value}(w:World):(eqGuard .neq 104 x y (.agg a) (.agg b)).run Tryz.prog w=.ok () w:=by unfold eqGuard;simp[mc,He]
theorem yV{x:Operand}{a b:Nat->Int}{l c:Bs}(e:hl a=aA l)(f:hl b=aA c)(h:l.length=32)(d:c.length=32){k:Value->Prop}(g:k (.bool (decide (l=c)))):
 rO (λ_=>Tryz.prog) (λ_=>do
  eqGuard .eql 104 x y (.agg (List.toArray (hl a))) (.agg (List.toArray (hl b)))
  Go.binOp .eql 104 (.agg (List.toArray (hl a))) (.agg (List.toArray (hl b)))) k:=by
 refine⟨_,λw=>?_,g⟩;rw[mc,aZY,hM,e,f];have:=run_eql_bytes w 104 5 32 FE OT Ky l c h d;rw[show(l==c)=decide (l=c)by rw[Bool.eq_iff_iff];simp]at this;exact this
theorem yO{x:Operand}{a b:Nat->Int}{l c:Bs}(e:hl a=aA l)(f:hl b=aA c)(h:l.length=32)(d:c.length=32){k:Value->Prop}(i:k (.bool (!decide (l=c)))):
 rO (λ_=>Tryz.prog) (λ_=>do
  eqGuard .neq 104 x y (.agg (List.toArray (hl a))) (.agg (List.toArray (hl b)))
  Go.binOp .neq 104 (.agg (List.toArray (hl a))) (.agg (List.toArray (hl b)))) k:=by
 refine⟨_,λw=>?_,i⟩;rw[mc,aZX,hM,e,f];have:=run_equalIn_bytes w 9998 104 5 32 FE OT Ky l c h d;rw[show(l==c)=decide (l=c)by rw[Bool.eq_iff_iff];simp]at this;have g:Go.binOp .neq 104 (.agg (List.toArray (aA l))) (.agg (List.toArray (aA c)))=Functor.map (λb=>Value.bool (!b)) (Op.equal 104 (.agg (List.toArray (aA l))) (.agg (List.toArray (aA c)))):=rfl;have this:(Op.equal 104 (.agg (List.toArray (aA l))) (.agg (List.toArray (aA c)))).run Tryz.prog w=.ok (decide (l=c)) w:=this;rw[g];simp[this]
def nZ(open_ bG:List Bs):Kf:=⟨((bG.length+1:Nat):Int),(bG.getLast?).getD (List.replicate 32 0),eO open_,(open_.length:Int)⟩
def xP(found:List Fd)(open_ bG:List Bs)(said:Bs):List Fd:=
 bT (decide (eK (nZ open_ bG)=said)) found ⟨5,((bG.length+1:Nat):Int),0,0⟩
abbrev dQW:List Nat:=[170,137,104]
theorem rI(b:Kf):(eK b).length=32:=iW _
theorem DQ{e:Nat}{v:Value}{L:List Bs}(q:Sl e iM h v L){x:Bs}(hx:L[i]? =some x):x.length=32:=by
 obtain⟨b,cap,e1,j,k,a⟩:=q.out;rcases a with a| ⟨dM,off,c,fr,d,f,g⟩
 .subst a;cases hx
 exact(g.2 i x hx).2
theorem TJ.fXF{r:Option Addr}{t s:Nat}{f:List Fd}{a c e g:Option Addr}{u v j w k x y z o:Nat}{A:Int}
 (q:TJ h0 h p b u i a v j c w k d x m A e y n g z o r t s f) (l:Le h h'):TJ h0 h' p b u i a v j c w k d x m A e y n g z o r t s f:=
 ⟨l _ _ q.out,q.buf.mono (l.t _),q.new,q.le.trans l⟩
theorem aKD{fb:Option Addr}{fm fc:Nat}{f:List Fd}{z B D E T m:Option Addr}{H O I P J Q l V b r:Nat}{S:Int}{n d:List Bs}
 (q:TJ h0 h p z M H B O I D P J E Q K S T l V m b r fb fm fc f) (qo:Sl 104 iM h (.slice T l V) n) (qs:aT 104 iM h0 h (.slice m b r) d) (ho:l<=2^30) (hs:b<=2^30)
 {gs:Nat->Int} {a:Bs} (CT:hl gs=aA a) (iX:a.length=32) 
 (hk:∀h' fb fm fc m b r,cY dQW h h'->TJ h0 h' p z M H B O I D P J E Q K S none 0 0 m b r fb fm fc (xP f n d a)->aT 104 iM h0 h' (.slice m b r) (d++[eK (nZ n d)])->k (.tuple #[]) h'):
 Ct 131 [.pointer (some ⟨p,0,none⟩),.agg (List.toArray (hl gs))] h k:=by
 obtain⟨A,hA⟩:=Ar.ex;have mZ:=qo.len;have Zo:=qs.sl.len;have g:=q.out;have bg:∀x∈d,x.length=32:=λx hx=>by
  obtain⟨j,hj⟩:=hJR.1 hx;exact DQ qs.sl hj
 obtain⟨z1,gz⟩:∃z1,z1=A .aC .add .i64 (A .nat b) 1:=⟨_,rfl⟩;refine fG A [4,7] (ah cKn.aw cKn.aP) Tryz.func131 rfl (by kernel_rfl) ?_;cbv;repeat (first|rw[ao A] | (refine bc g ?_;cbv)|(refine⟨⟨_,rfl,rfl⟩,?_⟩;cbv))
 refine Tr n.length qo (mr _) (λh1 g1 l1 uv oz=>?_);have Ib:=l1 _ _ g;have fs:A .az .gtr (A .nat b) 0=decide (0<b):=by rw[aO A,hA.nat];exact decide_eq_decide.2 (by show(b:Int)>0↔_;omega)
 generalize AB:eO n=root at *;cbv;repeat (first|rw[ao A] | (refine bc Ib ?_;cbv)|(refine⟨⟨_,rfl,rfl⟩,?_⟩;cbv))
 have TZ:aM (A .aC .add .i64 (A .nat b) 1) (b+1):=(aM.nat b).add (A:=A) ⟨rfl⟩ (by omega);obtain⟨C,L⟩:∃C:(Nat->Int)->ab->Prop,∀g h',C g h'=(h'=h1/\hl g=aA ((d.getLast?).getD (List.replicate 32 0))):=⟨_,λ_ _=>rfl⟩;refine jA.go (G:=Nat->Int) (λg=>[]) (λg=>[(3,hl gs),(4,Xt (A .aC .add .i64 (A .nat b) 1) g g1 (A .nat l))]) C ?_ ?_
 .cbv;repeat (first|rw[ao A] | (refine bc Ib ?_;cbv)|(refine⟨⟨_,rfl,rfl⟩,?_⟩;cbv))
  rw[fs];by_cases hc:0<b
  .rw[aH hc];obtain⟨v,hx⟩:=di d (b-1);have CQ:d.getLast?=some v:=by rw[iQn,<-hx];congr 1;omega
   have CN:aM (A .aC .sub .i64 (A .nat b) 1) (b-1):=⟨by
    rw[hA.aC,hA.nat];show IntKind.i64.wrap ((b:Int)-1)=_;rw[IntWalk.i64_in _ (by omega)];omega⟩
   have i:∀t,hl t=aA v->C t h1:=λt R=>by rw[L,CQ];exact⟨rfl,R⟩
   have jB:=qs.sl.aR hc;have ix:=CN.ix (len:=b) (by omega);have aD:=qs.sl.mono (l1.t _);clear L CQ;cbv;repeat (first|rw[ao A] | (refine bc Ib ?_;cbv))
   refine⟨⟨jB,ix⟩,?_⟩;cbv;refine aD.load hx CN.eq (λcs au=>?_);obtain⟨au,wY⟩:=au;obtain⟨t,R⟩:=AH wY;rw[<-R]at au;subst au;have i:=i t R;cbv;refine⟨t,by constructor<;>cbv,i⟩
  rw[ag hc];have i:C (λ_=>0) h1:=by rw[L];have:d=[]:=ee (by omega);subst this;exact⟨rfl,rfl⟩
  clear L;cbv;refine⟨λ_=>0,by constructor<;>cbv,i⟩
 intro t h2 hI;rw[L]at hI;cbv;obtain⟨rfl,R⟩:=hI;have wY:((d.getLast?).getD (List.replicate 32 0)).length=32:=by
  cases iX:d.getLast? with
  |none=>rfl
  |some x=>exact bg x (iQm iX)
 have hB:eK ⟨A .aC .add .i64 (A .nat b) 1,(d.getLast?).getD (List.replicate 32 0),root,A .nat l⟩=eK ⟨((d.length+1:Nat):Int),(d.getLast?).getD (List.replicate 32 0),root,(n.length:Int)⟩:=by rw[TZ.eq,hA.nat,<-mZ,<-Zo];rfl
 refine TB R uv wY oz (λh3 g3 l3 Z=>?_);rw[hB]at Z;have Lm:=rI (nZ n d);have Z:hl g3=aA (eK (nZ n d)):=by unfold nZ;rw[AB];exact Z
 have q3:=q.fXF (l1.trans l3);have Y:=qs.mono ((l1.trans l3).t _);have ai:=l1.trans l3;have F:xP f n d a=bT (decide (eK (nZ n d)=a)) f ⟨5,((d.length+1:Nat):Int),0,0⟩:=rfl;have gz:A .aC .add .i64 (A .nat b) 1=((d.length+1:Nat):Int):=by rw[TZ.eq,<-Zo]
 rw[<-gz]at F;clear hB gz R uv fs L;generalize eK (nZ n d)=bh at *;obtain⟨C2,N⟩:∃C:(Option Addr×Nat×Nat)->ab->Prop,∀g h',C g h'=(cY bZJ h h'/\TJ h0 h' p z M H B O I D P J E Q K S T l V m b r g.1 g.2.1 g.2.2 (xP f n d a)/\aT 104 iM h0 h' (.slice m b r) d):=⟨_,λ_ _=>rfl⟩;cbv;refine jA.go (G:=Option Addr×Nat×Nat) (λg=>[]) (λg=>[(3,hl gs),(4,Xt (A .aC .add .i64 (A .nat b) 1) t g1 (A .nat l)),(5,hl g3)]) C2 ?_ ?_
 .cbv;refine yO Z CT Lm iX ?_;cbv;by_cases ce:bh=a
  .rw[aH ce]at F |-;have F:xP f n d a=f:=F;have i:C2 (fb,fm,fc) h3:=by rw[N,F];exact⟨ai.x _,q3,Y⟩
   clear F N hk;cbv;refine⟨(fb,fm,fc),by constructor<;>cbv,i⟩
  rw[ag ce]at F |-;have F:xP f n d a=iS f ⟨5,A .aC .add .i64 (A .nat b) 1,0,0⟩:=F;clear hk;cbv;refine Tn q3 5 (A .aC .add .i64 (A .nat b) 1) 0 0 (λh4 ak W aj x4 u=>?_);have i:C2 (ak,W,aj) h4:=by rw[N,F];exact⟨(ai.x _).trans x4,u,Y.mono (x4.t (by decide))⟩
  clear F N;cbv;refine⟨(ak,W,aj),by constructor<;>cbv,i⟩
 intro gf h4 hI;rw[N]at hI;cbv;obtain⟨JF,JD,JE⟩:=gf;obtain⟨x4,u,aw⟩:=hI;have u:TJ h0 h4 p z M H B O I D P J E Q K S T l V m b r JF JD JE (xP f n d a):=u;have g4:=u.out;have NX:=u.le;have u4:=u.buf;have U:=u.new;clear N F;generalize xP f n d a=ff at *;repeat (first|rw[ao A] | (refine bc g4 ?_;cbv)|(refine⟨⟨_,rfl,rfl⟩,?_⟩;cbv))
 intro an h5 yB e5;have l5:Le h4 h5:=by rw[e5];exact Le.set yB
 have q5:Sl 104 iM h5 (.slice (some ⟨an,0,none⟩) 1 1) [bh]:=bC (s:=iM) (cs:=hl g3) ((congrFun e5 an).trans ae) ⟨Z,Lm⟩;have g5:=l5 _ _ g4;clear e5;cbv;repeat (first|rw[ao A] | (refine bc g5 ?_;cbv)|(refine⟨⟨_,rfl,rfl⟩,?_⟩;cbv))
 refine(aw.mono (l5.t _)).app q5 (by decide) rfl (by decide) (by omega) (NX.trans l5) (λm6 w X h6 QU l6 t6 k6 u6=>?_);have g6:h6 p=_:=k6 _ _ g5 (.inr (.inr (λc fr e=>by cases e)));have x6:cY dQW h5 h6:=λbb o hb bm=>k6 bb o hb (.inr (.inr (λc fr e=>bm _ _ _ e (by decide))));have aI:=(u4.mono (l5.t _)).mono (t6 _ (by decide));clear k6;cbv;rw[ao A];refine iB g6 (by show 7<=8;decide) (λy e7=>?_);have g7:=(congrFun e7 p).trans ae;have x7:cY dQW h6 y:=by rw[e7];exact gi g6 (by decide)
 have t7:∀tys,170∉tys->cf tys h6 y:=λtys hn=>by rw[e7];exact cf.set g6 hn
 have k7:Kp [p] h6 y:=by rw[e7];exact Kp.set (by simp)
 have g7:y p=some (.cells (List.toArray [.slice z M H,.slice B O I,.slice D P J,.slice E Q K,.int .i64 S,.slice T l V,.slice w m6 X,.slice JF JD JE]) 170 (0,0)):=g7;clear e7;cbv;rw[ao A];refine iB g7 (by show 6<=8;decide) (λh8 e8=>?_);have g8:=(congrFun e8 p).trans ae;have x8:cY dQW y h8:=by rw[e8];exact gi g7 (by decide)
 have t8:∀tys,170∉tys->cf tys y h8:=λtys hn=>by rw[e8];exact cf.set g7 hn
 have k8:Kp [p] y h8:=by rw[e8];exact Kp.set (by simp)
 have g8:h8 p=some (.cells (List.toArray [.slice z M H,.slice B O I,.slice D P J,.slice E Q K,.int .i64 S,.slice none 0 0,.slice w m6 X,.slice JF JD JE]) 170 (0,0)):=g8;have:=hk h8 JF JD JE w m6 X (((((x4.sup (by decide)).trans (l5.x _)).trans x6).trans x7).trans x8) ⟨g8,(aI.mono (t7 _ (by decide))).mono (t8 _ (by decide)),U,l6.aE (bs:=[p]) (by simpa using U) (k7.trans k8)⟩ ((u6.mono (t7 _ (by decide))).mono (t8 _ (by decide)));clear e8 hk;cbv;exact this
end Go.S
