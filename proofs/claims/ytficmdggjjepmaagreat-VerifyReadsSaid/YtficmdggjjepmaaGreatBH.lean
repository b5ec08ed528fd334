import Derived.Test.YtficmdggjjepmaaGreatBG
set_option linter.all false
set_option maxRecDepth 100000
set_option maxHeartbeats 4000000
namespace Go.S
open Go.Sx Go.Proofs
variable {a p:Nat}{s:St}{k:Value->ab->Prop}{h:ab}
theorem eQf(b:a<2^56):aC .shl .u64 (a:Int) 8=((a*256:Nat):Int):=by
 show IntKind.u64.wrap ((a:Int)*2^8)=_;have h:(a:Int)*2^8=((a*256:Nat):Int):=by push_cast;rfl
 rw[h,nU (by omega)]
theorem gZc{x:Nat}(c:a<2^56)(hx:x<256):aC .or .u64 ((a*256:Nat):Int) (x:Int)=((a*256+x:Nat):Int):=by
 show IntKind.u64.wrap (((BitVec.ofInt 64 ((a*256:Nat):Int)|||BitVec.ofInt 64 (x:Int)).toNat:Nat):Int)=_;have h:(BitVec.ofInt 64 ((a*256:Nat):Int)|||BitVec.ofInt 64 (x:Int)).toNat=a*256+x:=by
  rw[BitVec.toNat_or,BitVec.toNat_ofInt,BitVec.toNat_ofInt];have e1:((((a*256:Nat):Int) % ((2^64:Nat):Int)).toNat)=a*256:=by rw[<-Int.natCast_emod,zw,Nat.mod_eq_of_lt (by omega)]
  have e:(((x:Int) % ((2^64:Nat):Int)).toNat)=x:=by rw[<-Int.natCast_emod,zw,Nat.mod_eq_of_lt (by omega)]
  rw[e1,e];have:=Nat.two_pow_add_eq_or_of_lt (i:=8) (b:=x) (by omega) a;rw[Nat.mul_comm]at this;exact this.symm
 rw[h,nU (by omega)]
theorem Qk{l:Bs}{j:Nat}{x:UInt8}(h:l[j]? =some x):mD (l.drop j)=mD (l.drop (j+1))*256+x.toNat:=by have a:=dB.1 h;rw[qM a.1,a.2];simp only[mD];omega
theorem yj(q:iv h p s)(e:∀h' x,x=IntKind.i64.wrap ((ar 8 s).1:Int)->Kp [p] h h'->iv h' p (ar 8 s).2->k (.int .i64 x) h'):
 Ct 99 [.pointer (some ⟨p,0,none⟩)] h k:=by
 have U:ar 8 s=(mD (dO 8 s).1,(dO 8 s).2):=rfl;have v:=nW 8 s;rw[U]at e;refine cp fJW Tryz.func99 λA a=>?_;cbv;refine DW q (n:=8) ⟨rfl⟩ (λo b m c k1 q1 d=>?_);generalize dO 8 s=R at *;obtain⟨l,s2⟩:=R;have d:Sl 5 bS o (.slice b m c) l:=d;have v:l.length<=8:=v;have sQ:=d.len;obtain⟨t,M⟩:∃z,z=A .aC .sub .i64 (A .nat m) 1:=⟨_,rfl⟩;have W:t=(m:Int)-1:=by rw[M,a.aC,a.nat];show IntKind.i64.wrap ((m:Int)-1)=_;rw[IntWalk.i64_in _ (by omega)]
 obtain⟨J,X⟩:∃J:Nat->Int×Int->ab->Prop,∀w g h',J w g h'=(∃j:Nat,g.1=(j:Int)-1/\w=j/\j<=m/\g.2=(mD (l.drop j):Int)/\h'=o):=⟨_,λ_ _ _=>rfl⟩;have P:J m (t,0) o:=by rw[X];exact⟨m,W,rfl,mr _,by rw[wM (by omega)];rfl,rfl⟩
 cbv;rw[<-M];refine aK.go (G:=Int×Int) (λg=>[(5,.v (.int .i64 g.1)),(3,.v (.int .u64 g.2))]) (λ_=>[]) (λw g h'=>J w g h') m (t,0) (by constructor<;>cbv) P ?_
 intro w g D I;rw[X]at I;cbv;obtain⟨z,u⟩:=g;obtain⟨j,H,hw,hj,f,rfl⟩:=I;have H:z=(j:Int)-1:=H;have f:u=(mD (l.drop j):Int):=f;have B:A .az .geq z 0=decide (0<j):=by rw[cZ A];exact decide_eq_decide.2 (by omega)
 rw[B];by_cases E:0<j
 .rw[aH E];obtain⟨x,hx⟩:=di l (j-1);have T:aM z (j-1):=⟨by omega⟩;have ix:=T.ix (len:=m) (by omega);have Y:b.isSome=true:=d.aR;have r:=Qk hx;have S:j-1+1=j:=by omega
  rw[S]at r;have aI:=Aq (l.drop j);have V:(256:Nat)^(l.drop j).length<=256^7:=Nat.pow_le_pow_right (by omega) (by rw[ec];omega);have h7:(256:Nat)^7=2^56:=by decide
  obtain⟨y,F⟩:∃y:Int,y=(x.toNat:Int):=⟨_,rfl⟩;have N:=x.toNat_lt;have C:A .aC .or .u64 (A .aC .shl .u64 u 8) (A .conv .u64 y)=(mD (l.drop (j-1)):Int):=by
   have O:A .conv .u64 y=(x.toNat:Int):=by rw[a.conv,F];exact nU (by omega)
   rw[O,a.aC,f,eQf (by omega),gZc (by omega) N,r]
  have K:A .aC .sub .i64 z 1=((j-1:Nat):Int)-1:=by rw[a.aC];show IntKind.i64.wrap (z-1)=_;rw[IntWalk.i64_in _ (by omega)];omega
  have Q:J (j-1) (A .aC .sub .i64 z 1,A .aC .or .u64 (A .aC .shl .u64 u 8) (A .conv .u64 y)) D:=by rw[X];exact⟨j-1,K,rfl,by omega,C,rfl⟩
  have Z:j-1<w:=by omega
  clear X P B e C K r;cbv;refine⟨by decide,?_⟩;cbv;refine⟨⟨Y,ix⟩,?_⟩;cbv;refine d.load hx T.eq (λcs i=>?_);have i:cs=[.int .u8 y]:=by rw[F];exact i
  subst i;cbv;refine⟨_,(A .aC .sub .i64 z 1,A .aC .or .u64 (A .aC .shl .u64 u 8) (A .conv .u64 y)),Z,by constructor<;>cbv,Q⟩
 rw[ag E];have L:j=0:=by omega
 subst L;have:=e D (A .conv .i64 u) (by rw[a.conv,f];rfl) k1 q1;clear X P e;cbv;exact this
theorem mX(q:iv h p s)(d:∀h' x,x=((ar 1 s).1:Int)->Kp [p] h h'->iv h' p (ar 1 s).2->k (.int .i64 x) h'):
 Ct 123 [.pointer (some ⟨p,0,none⟩)] h k:=by
 have N:ar 1 s=(mD (dO 1 s).1,(dO 1 s).2):=rfl;have J:=nW 1 s;rw[N]at d;refine cp cKv Tryz.func123 λA g=>?_;cbv;refine DW q (n:=1) ⟨rfl⟩ (λe b m c o r a=>?_);generalize dO 1 s=R at *;obtain⟨l,t⟩:=R;have a:Sl 5 bS e (.slice b m c) l:=a;have J:l.length<=1:=J;have Q:=a.len;have f:A .az .eql (A .nat m) 0=decide (m=0):=by rw[aq A,g.nat];exact decide_eq_decide.2 (by show(m:Int)=0↔_;omega)
 cbv;rw[f];by_cases i:m=0
 .rw[aH i];have:l=[]:=ee (by omega);subst this;have:=d e 0 rfl o r;cbv;exact this
 rw[ag i];obtain⟨x,hx⟩:=di l 0;have hl:l=[x]:=by
  match l,J,hx with
  | [y],_,h=>cases h;rfl
 have ix:(0:Int)<=0/\(0:Int)<(m:Int):=by omega
 have B:b.isSome=true:=a.aR;obtain⟨y,j⟩:∃y:Int,y=(x.toNat:Int):=⟨_,rfl⟩;have M:=x.toNat_lt;have:=d e (A .conv .i64 y) (by
  rw[g.conv,j,hl];show IntKind.i64.wrap (x.toNat:Int)=((x.toNat+256*0:Nat):Int);rw[IntWalk.i64_in _ (by omega)];omega) o r
 clear d f;cbv;refine⟨⟨B,ix⟩,?_⟩;cbv;refine a.load hx rfl (λcs u=>?_);have u:cs=[.int .u8 y]:=by rw[j];exact u
 subst u;cbv;exact this
theorem uj(q:iv h p s)(d:∀h' x,x=strOf (aG s).1->Kp [p] h h'->iv h' p (aG s).2->k (.string x) h'):
 Ct 125 [.pointer (some ⟨p,0,none⟩)] h k:=by
 have T:aG s=dO (mD (dO 2 s).1) (dO 2 s).2:=rfl;have W:=nW 2 s;have L:(dO 2 s).1=[]/\(dO 2 s).2=none\/(dO 2 s).1.length=2:=by
  cases s with
  |none=>exact .inl ⟨rfl,rfl⟩
  |some b=>
   simp only[dO];split
   .right;rw[dW];omega
   exact .inl ⟨rfl,rfl⟩
 rw[T]at d;refine cp cKt Tryz.func125 λA t=>?_;cbv;refine DW q (n:=2) ⟨rfl⟩ (λg b m c D j e=>?_);generalize dO 2 s=R at *;obtain⟨l,i⟩:=R;have e:Sl 5 bS g (.slice b m c) l:=e;have j:iv g p i:=j;have P:=e.len;have z:A .az .eql (A .nat m) 0=decide (m=0):=by rw[aq A,t.nat];exact decide_eq_decide.2 (by show(m:Int)=0↔_;omega)
 cbv;rw[z];rcases L with⟨e1,o⟩ |e1
 .have e1:l=[]:=e1;have o:i=none:=o;subst e1 o;have G:m=0:=P;rw[aH G];have:=d g ⟨#[]⟩ rfl D j;cbv;exact this
 have e1:l.length=2:=e1;rw[ag (by omega)];obtain⟨x,hx⟩:=di l 0;obtain⟨y,B⟩:=di l 1;have hl:l=[x,y]:=by
  match l,e1,hx,B with
  | [a,b],_,g,r=>cases g;cases r;rfl
 have Z:mD l=x.toNat+256*y.toNat:=by rw[hl];show x.toNat+256*(y.toNat+256*0)=_;omega
 have ix:(0:Int)<=0/\(0:Int)<(m:Int):=by omega
 have I:(0:Int)<=1/\(1:Int)<(m:Int):=by omega
 have C:b.isSome=true:=e.aR;obtain⟨E,J⟩:∃v:Int,v=(x.toNat:Int):=⟨_,rfl⟩;obtain⟨F,f⟩:∃v:Int,v=(y.toNat:Int):=⟨_,rfl⟩;have S:=x.toNat_lt;have Q:=y.toNat_lt;have N:aM (A .aC .add .i64 (A .conv .i64 E) (A .aC .mul .i64 256 (A .conv .i64 F))) (mD l):=⟨by
  rw[t.aC,t.conv,J,f,Z];show IntKind.i64.wrap (IntKind.i64.wrap (x.toNat:Int)+IntKind.i64.wrap (256*IntKind.i64.wrap (y.toNat:Int)))=_;rw[IntWalk.i64_in (x.toNat:Int) (by omega),IntWalk.i64_in (y.toNat:Int) (by omega),IntWalk.i64_in (256*(y.toNat:Int)) (by omega),IntWalk.i64_in _ (by omega)];omega⟩
 have d:∀h' x,x=strOf (dO (mD l) i).1->Kp [p] h h'->iv h' p (dO (mD l) i).2->k (.string x) h':=d;generalize mD l=M at *;clear z Z;cbv;refine⟨⟨C,ix⟩,?_⟩;cbv;refine e.load hx rfl (λcs u=>?_);have u:cs=[.int .u8 E]:=by rw[J];exact u
 subst u;cbv;refine⟨⟨C,I⟩,?_⟩;cbv;refine e.load B rfl (λcs u=>?_);have u:cs=[.int .u8 F]:=by rw[f];exact u
 subst u;cbv;refine DW j N (λr U Y V K O X=>?_);obtain⟨w,H⟩:∃w,w=strOf (dO M i).1:=⟨_,rfl⟩;have:=d r w H (D.trans K) O;clear d;cbv;refine uP X ?_;rw[<-H];cbv;exact this
theorem po(q:iv h p s){x:Int}(hx:x≠0)(a:∀h',Kp [p] h h'->iv h' p none->k (.tuple #[]) h'):
 Ct 126 [.pointer (some ⟨p,0,none⟩),.int .i64 x] h k:=by
 obtain⟨A,v⟩:=Ar.ex;obtain⟨bb,m,c,l,u,i,err,g,sl,W,o,d⟩:=q.out;have f:A .az .eql err 0=decide (err=0):=aq A ..;refine dH cKs A Tryz.func126 ?_;cbv;rw[ao A];refine bc g ?_;cbv;rw[f];by_cases e:err=0
 .rw[aH e];cbv;rw[ao A];refine iB g (mr _) (λj b=>?_);obtain⟨r,t,w⟩:=iv.wr (s:=none) (bb:=bb) (n:=m) (cc:=c) (l:=l) (z:=u) (i:=i) (err:=x) g b sl W o (by rw[if_neg hx]);have:=a j r t;clear b a;cbv;exact this
 rw[ag e];rw[if_neg e]at d;subst d;have:=a h (Kp.refl _ _) q;cbv;exact this
theorem pG(q:iv h p s)(f:∀e:Int,(e=0↔s=some [])->k (.int .i64 e) h):
 Ct 129 [.pointer (some ⟨p,0,none⟩)] h k:=by
 obtain⟨A,t⟩:=Ar.ex;obtain⟨bb,m,c,l,z,i,err,g,sl,W,u,d⟩:=q.out;have n:=sl.len;have o:A .az .eql err 0=decide (err=0):=aq A ..;have r:A .az .lss z (A .nat m)=decide (i<m):=by rw[aJ A,W.eq,t.nat];exact decide_eq_decide.2 (by show(i:Int)<(m:Int)↔_;omega)
 refine dH cKp A Tryz.func129 ?_;cbv;rw[ao A];refine bc g ?_;cbv;rw[o];by_cases b:err=0
 .rw[aH b];rw[if_pos b]at d;subst d;cbv;rw[ao A];refine bc g ?_;cbv;rw[ao A];refine bc g ?_;cbv;rw[r];by_cases j:i<m
  .rw[aH j];have:=f 9 ⟨λa=>absurd a (by decide),λa=>by
    have:=congrArg List.length (Option.some.inj a);rw[ec]at this;simp at this;omega⟩
   cbv;exact this
  rw[ag j];have:=f err ⟨λ_=>by rw[wM (by omega)],λ_=>b⟩;cbv;rw[ao A];refine bc g ?_;cbv;exact this
 rw[ag b];rw[if_neg b]at d;subst d;have:=f err ⟨λa=>absurd a b,λa=>by cases a⟩;cbv;rw[ao A];refine bc g ?_;cbv;exact this
end Go.S
namespace Go.Sx
variable {cs:List Value}{bytes n size:Nat}{b:Option Addr}{k:Value->ab->Prop}{h:ab}
theorem aT.fQp{y:Type}{e:Nat}{s:Sh y}{h0:ab}{len cap:Nat}{xs ys:List y}(q:aT e s h0 h (.slice b len cap) xs)(L:n=ys.length)(r:gE cs=true)(d:cs.length=n*s.n)(t:∀h',Rows s h' cs 0 ys)(A:e∉s.tys)(P:size=s.n)(T:bytes<=128)(B:len+n<=2^39)
  (l:Le h0 h) (p:∀m a c' h',m=len+n->Le h0 h'->(∀tys,e∉tys->cf tys h h')->aT e s h0 h' (.slice a m c') (xs++ys)->k (.slice a m c') h'):
 pq h b len cap n size bytes e cs k:=by
 subst P;have w:=q.sl.len;have g:cap<len+n->pq h b len cap n s.n bytes e cs k:=λv=>by
  refine oB q.sl v rfl T B r d (ys:=ys) (by omega) (λh' hl=>t h') (λx c h' e1 u E o=>?_)
  exact p _ _ _ h' rfl (l.trans u) (λtys _=>u.t tys) (o.buf (l.none e1) (by rw[dr];omega))
 by_cases F:len+n<=cap
 .refine⟨r,λ_=>?_,λv=>by omega⟩;by_cases R:n=0
  .have z:cs=[]:=ee (by rw[d,R];simp);have H:ys=[]:=ee (by omega);refine .inl ⟨z,p _ _ _ h rfl l (λ_ _=>cf.refl _ _) ?_⟩;rw[H,wS,R];exact q
  rcases q.out with⟨a,f,j⟩|⟨x,Q,f,j,o⟩
  .cases f;omega
  cases f;refine .inr ⟨⟨x,xs.length*s.n,none⟩,by simp[bL],?_⟩;refine o.write (ys:=ys) A (i:=xs.length) (by omega) (by omega) (by omega) (by rw[d,L]) (t h) (λh' C D o'=>?_);rw[hJz,Yd (by omega),wS]at o';exact p _ _ _ h' rfl (l.aE (by simpa using j) C) D (o'.buf j (by rw[dr,L]))
 exact g (by omega)
theorem NH{len cap n' e:Nat}{cs':List Value}(a:n'=n)(c:cs'=cs)(q:pq h b len cap n' size bytes e cs' k):pq h b len cap n size bytes e cs k:=by subst a c;exact q
end Go.Sx
namespace Go.S
open Go.Sx Go.Proofs
variable {D:Dk}{i id o z:Int}{L:List cW}{c m m' n p s:Nat}{b:Option Addr}{G:Prop}{r:Row}{k:Value->ab->Prop}{h h0:ab}
theorem Gc(l:Bs)(h:ab):Sx.Rows bS h (aA l) 0 l:=by refine⟨by simp[bS,aA],λi y a=>?_⟩;show((aA l).drop (0+i*1)).take 1=[.int .u8 (y.toNat:Int)];rw[qp,TG];unfold aA;rw[<-iQq,<-iQo];have b:i<l.length:=(dB.1 a).1;rw[qM b];have:=(dB.1 a).2;simp[this]
theorem Hv(s:ByteArray):(kU s).length=s.size:=HH
abbrev WK(h0 h:ab)(n:Nat)(l:Bs)(k:Value->ab->Prop):Prop:=
 ∀h' b' c',Le h0 h'->(∀tys,5∉tys->cf tys h h')->aT 5 bS h0 h' (.slice b' n c') l->k (.slice b' n c') h'
theorem Fa{l:Bs}(q:aT 5 bS h0 h (.slice b m c) l)(o:Le h0 h)(C:m<=2^38)(z:Int)(R:m'=m+1)(j:WK h0 h m' (l++[u8 z]) k):
 Ct 261 [.slice b m c,.int .i64 z] h k:=by
 obtain⟨A,B⟩:=Ar.ex;have u:=iA (A:=A) (h:=h) z;refine dH cZy A Tryz.func261 ?_;cbv;intro v g L e1;have a:Le h g:=by rw[e1];exact Le.set L
 have w:=bC (s:=bS) ((congrFun e1 v).trans ae) u;clear e1;cbv;refine(q.mono (a.t _)).app w (by decide) rfl (by decide) (by omega) (o.trans a) (λr d f i G p y n x=>?_);have e:r=m':=by omega
 subst e;have:=j i d f p (λtys t=>(a.t _).trans (y _ t)) x;clear n;cbv;exact this
theorem tE{l:Bs}(q:aT 5 bS h0 h (.slice b m c) l)(l0:Le h0 h)(hm:m<=2^38)(n:Int)(R:m'=m+8)(M:WK h0 h m' (l++cC n) k):
 Ct 37 [.slice b m c,.int .i64 n] h k:=by
 have o:=q.sl.len;obtain⟨J,X⟩:∃J:Nat->(Int×Option Addr×Nat×Nat)->ab->Prop,∀w g h',J w g h'=(∃i,aM g.1 i/\i<=8/\w=8-i/\Le h0 h'/\(∀tys,5∉tys->cf tys h h')/\aT 5 bS h0 h' (.slice g.2.1 g.2.2.1 g.2.2.2) (l++(cC n).take i)):=⟨_,λ_ _ _=>rfl⟩;have B:J 8 (0,b,m,c) h:=by rw[X];exact⟨0,⟨rfl⟩,by omega,rfl,l0,λ_ _=>cf.refl _ _,by simpa using q⟩
 refine cp fKU Tryz.func37 λA x=>?_;cbv;refine aK.go (G:=Int×Option Addr×Nat×Nat) (λg=>[(5,.v (.int .i64 g.1)),(0,.v (.slice g.2.1 g.2.2.1 g.2.2.2))]) (λ_=>[]) (λw g h'=>J w g h') 8 (0,b,m,c) (by constructor<;>cbv) B ?_
 intro w g j L;rw[X]at L;cbv;obtain⟨z,H,v,K⟩:=g;obtain⟨i,a,U,hw,O,Q,f⟩:=L;have a:aM z i:=a;have f:aT 5 bS h0 j (.slice H v K) (l++(cC n).take i):=f;have W:=f.sl.len;rw[dr,dW,cR,<-o]at W;have E:A .az .lss z 8=decide (i<8):=by rw[aJ A,a.eq];exact decide_eq_decide.2 (by omega)
 rw[E];by_cases I:i<8
 .obtain⟨p,Z⟩:∃p,p=A .aC .mul .u64 8 (A .conv .u64 z):=⟨_,rfl⟩;have r:p=((8*i:Nat):Int):=by rw[Z,x.conv,x.aC,a.eq];show IntKind.u64.wrap (8*IntKind.u64.wrap (i:Int))=_;rw[ma,ma];omega
  have N:A .aC .mul .i64 8 z=p:=by rw[r,x.aC,a.eq];show IntKind.i64.wrap (8*(i:Int))=_;rw[IntWalk.i64_in _ (by omega)];omega
  have V:0<=p:=by omega
  have hR:=FU (A:=A) (h:=j) n a I;rw[N]at hR;have P:(cC n).take (i+1)=(cC n).take i++[jr n i]:=oR (jr n) I;have D:∀h' m' d c',Le h0 h'->(∀tys,5∉tys->cf tys j h')->aT 5 bS h0 h' (.slice d m' c') (l++(cC n).take i++[jr n i])->J (8-(i+1)) (A .aC .add .i64 z 1,d,m',c') h':=λh' m' d c' l' t' q'=>by
   rw[X];exact⟨i+1,a.succ (A:=A),I,rfl,l',λtys t=>(Q _ t).trans (t' _ t),by rw[P,<-ym];exact q'⟩
  have F:8-(i+1)<w:=by omega
  have lS:v+1<=2^39:=by omega
  rw[aH I];clear X P B E N W;generalize jr n i=y at *;generalize l++(cC n).take i=cur at *;cbv;rw[<-Z];refine⟨V,?_⟩;cbv;intro n3 Y S u;have C:Le j Y:=by rw[u];exact Le.set S
  have q3:=bC (s:=bS) ((congrFun u n3).trans ae) hR;clear u;cbv;refine(f.mono (C.t _)).app q3 (by decide) rfl (by decide) lS (O.trans C) (λm' d c' h4 R l4 t4 k4 q4=>?_);have T:=D h4 m' d c' l4 (λtys t=>(C.t _).trans (t4 _ t)) q4;clear D k4;cbv;refine⟨8-(i+1),(_,d,m',c'),F,by constructor<;>cbv,T⟩
 rw[ag I];have hi:i=8:=by omega
 rw[hO (by rw[cR];omega)]at f;have e:v=m':=by omega
 subst e;have:=M j H K O Q f;clear X B M;cbv;exact this
theorem JX{l:Bs}(q:aT 5 bS h0 h (.slice b m c) l)(M:Le h0 h)(hm:m<=2^37)(s:ByteArray)(d:∀m',m'=m+(nF s).length->WK h0 h m' (l++nF s) k):
 Ct 260 [.slice b m c,.string s] h k:=by
 obtain⟨A,g⟩:=Ar.ex;obtain⟨j,H⟩:∃j,j=min s.size 65535:=⟨_,rfl⟩;have f:A .az .gtr (A .iQ s) 65535=decide (65535<s.size):=by rw[aO A,g.iQ];exact decide_eq_decide.2 (by show(s.size:Int)>65535↔_;omega)
 obtain⟨C,e⟩:∃C:ByteArray->ab->Prop,∀t h',C t h'=(h'=h/\kU t=ku s/\t.size=j):=⟨_,λ_ _=>rfl⟩;refine fG A [3] (ah cZz.aw cZz.aP) Tryz.func260 rfl (by kernel_rfl) ?_;cbv;refine jA.go (G:=ByteArray) (λt=>[(1,.v (.string t))]) (λ_=>[]) C ?_ ?_
 .cbv;rw[f];by_cases w:65535<s.size
  .rw[aH w];have E:(0:Int)<=65535/\(65535:Int)<=(s.size:Int):=by omega
   have a:C (A .sub s 0 65535) h:=by
    rw[e];have p:A .sub s 0 65535=s.extract 0 65535:=by rw[g.sub];rfl
    refine⟨rfl,?_,?_⟩
    .rw[p];unfold ku kU;simp only[hKY,hKZ,List.extract,hKr,hKD]
    rw[p,ByteArray.size_extract];omega
   clear e f d;cbv;refine⟨E,?_⟩;cbv;refine⟨_,by constructor<;>cbv,a⟩
  rw[ag w];have a:C s h:=by rw[e];refine⟨rfl,?_,by omega⟩;unfold ku;rw[hO (by rw[Hv];omega)]
  clear e f d;cbv;refine⟨_,by constructor<;>cbv,a⟩
 intro t i a;rw[e]at a;cbv;obtain⟨rfl,S,J⟩:=a;have o:=iA (A:=A) (h:=i) (j:Int);have V:=iA (A:=A) (h:=i) ((j / 256:Nat):Int);have iX:A .iQ t=(j:Int):=by rw[g.iQ];show(t.size:Int)=_;rw[J]
 have Z:A .aC .shr .i64 (j:Int) 8=((j / 256:Nat):Int):=by rw[g.aC];show((j:Int)).fdiv (2^8)=_;rw[hJU _ (by decide)];omega
 have Q:nF s=[u8 (j:Int),u8 ((j / 256:Nat):Int)]++kU t:=by rw[S];unfold nF py;rw[<-H]
 rw[Q]at d;have Y:t.size=(kU t).length:=(Hv t).symm;clear e f Q S;refine⟨by decide,?_⟩;cbv;rw[iX,Z];intro z v L e1;have n:Le i v:=by rw[e1];exact Le.set L
 have R:Sl 5 bS v (.slice (some ⟨z,0,none⟩) 2 2) [u8 (j:Int),u8 ((j / 256:Nat):Int)]:=lN (s:=bS) rfl ((congrFun e1 z).trans ae) o V;clear e1;cbv;refine(q.mono (n.t _)).app R (by decide) rfl (by decide) (by omega) (M.trans n) (λm2 b2 c2 h3 GQ N W I T=>?_);clear I;generalize K:[u8 (j:Int),u8 ((j / 256:Nat):Int)]=uu at *;cbv;refine NH (n':=t.size) (cs':=aA (kU t)) (by rcases t with⟨⟨_| ⟨x,r⟩⟩⟩<;>rfl) (by rcases t with⟨⟨_| ⟨x,r⟩⟩⟩<;>rfl) ?_;refine T.fQp (s:=bS) (ys:=kU t) (cs:=aA (kU t)) Y (fK _) (by rw[Y];simp[aA,bS]) (λh'=>Gc _ _) (by simp[bS]) (size:=1) (bytes:=1) rfl (by decide) (by omega) N (λP B D F QV O X U=>?_);have u:uu.length=2:=by rw[<-K];rfl
 have:=d P (by rw[dr,u];omega) F B D O (λtys y=>((n.t _).trans (W _ y)).trans (X _ y)) (by rw[<-ym];exact U);clear d;cbv;exact this
abbrev DY:List Nat:=[124,134,256]
structure jD(h0 h:ab)(p:Nat)(D:Dk):Prop where
 out:∃kb kc nb nc wb wn wc,h p=some (.cells (List.toArray [.slice (some ⟨nb,0,none⟩) D.now.length nc,.slice (some ⟨kb,0,none⟩) D.now.length kc,.slice wb wn wc,.int .i64 D.left,.bool D.dead]) 124 (0,0))/\
  cM 134 iC h kb kc D.kept/\cM 134 iC h nb nc D.now/\D.kept.length=D.now.length/\kb≠nb/\aT 256 Iz h0 h (.slice wb wn wc) D.ws/\D.now.length<=4096/\0<D.now.length/\h0 p=none/\h0 kb=none/\h0 nb=none/\Le h0 h
theorem jD.lt{h':ab}(q:jD h0 h p D)(l:cf DY h h')(c:Le h0 h'):jD h0 h' p D:=by obtain⟨k,kc,n,d,wb,f,wc,g,o1,o2,e1,e,w,a,b,z,i,j,-⟩:=q.out;exact⟨k,kc,n,d,wb,f,wc,l _ _ _ _ (by decide) g,o1.mono (l.sub),o2.mono (l.sub),e1,e,w.mono (l.sub),a,b,z,i,j,c⟩
theorem jD.le{h':ab}(q:jD h0 h p D)(l:Le h h'):jD h0 h' p D:=by obtain⟨k,kc,n,d,wb,f,wc,g,o1,o2,e1,e,w,a,b,z,i,j,c⟩:=q.out;exact⟨k,kc,n,d,wb,f,wc,l _ _ g,o1.mono (l.t _),o2.mono (l.t _),e1,e,w.mono (l.t _),a,b,z,i,j,c.trans l⟩
theorem jD.base(q:jD h0 h p D):Le h0 h:=by obtain⟨k,kc,n,c,wb,d,wc,g,o1,o2,e1,e,w,a,b,z,f,i,l⟩:=q.out;exact l
theorem cKZ(r:aM z n)(b:2<=n)(y:n<=4096)
 (w:∀h' p,h p=none->Le h h'->jD h h' p (wh n)->k (.tuple #[.pointer (some ⟨p,0,none⟩),.int .i64 0]) h'):
 Ct 8 [.int .i64 z] h k:=by
 obtain⟨A,v⟩:=Ar.ex;have s:A .az .lss z 2=false:=by rw[aJ A,r.eq];exact ag (by omega)
 have t:A .az .gtr z 4096=false:=by rw[aO A,r.eq];exact ag (by omega)
 have B:z=A .nat n:=by rw[v.nat];exact r.eq
 have fin:∀(b:ab) (f g:Nat) (a:ab) (p:Nat),Le h b->h f=none->h g=none->cM 134 iC b f n (List.replicate n yL)->cM 134 iC b g n (List.replicate n yL)->f≠g->b p=none->a=bH b p (.cells (List.toArray [.slice (some ⟨g,0,none⟩) n n,.slice (some ⟨f,0,none⟩) n n,.slice none 0 0,.int .i64 0,.bool false]) 124 (0,0))->
  k (.tuple #[.pointer (some ⟨p,0,none⟩),.int .i64 0]) a:=λb f g a p l C D o1 o2 m d c=>by
  have q:Le b a:=by rw[c];exact Le.set d
  have G:=l.none d;refine w a p G (l.trans q) ⟨f,n,g,n,none,0,0,?_,?_,?_,?_,m,aT.nil,?_,?_,G,C,D,l.trans q⟩
  .rw[c,ae];simp only[wh,hJD]
  .simp only[wh];exact o1.mono (q.t _)
  .simp only[wh];exact o2.mono (q.t _)
  .simp only[wh]
  .simp only[wh,hJD];exact y
  simp only[wh,hJD];omega
 refine dH T8 A Tryz.func8 ?_;cbv;rw[s];cbv;rw[t];cbv;rw[B];refine⟨?_,?_⟩
 .refine jM (x:=yL) xR (by omega) (by decide) (λj u L i o1=>?_);cbv;refine jM (x:=yL) xR (by omega) (by decide) (λo b E l o2=>?_);have m:o≠j:=λe=>by rw[e]at E;exact o1.has E
  have fin:=λa p=>fin b o j a p (i.trans l) (i.none E) L o2 (o1.mono (l.t _)) m;cbv;intro p a d c;cbv;exact fin a p d c
 refine jM (x:=yL) xR (by omega) (by decide) (λj u L i o1=>?_);cbv;refine jM (x:=yL) xR (by omega) (by decide) (λo b E l o2=>?_);have m:j≠o:=λe=>by rw[<-e]at E;exact o1.has E
 have fin:=λa p=>fin b j o a p (i.trans l) L (i.none E) (o1.mono (l.t _)) o2 m;cbv;intro p a d c;cbv;exact fin a p d c
theorem jD.tJ(q:jD h0 h p D)
 (i:∀k kc n c wb a wc,h p=some (.cells (List.toArray [.slice (some ⟨n,0,none⟩) D.now.length c,.slice (some ⟨k,0,none⟩) D.now.length kc,.slice wb a wc,.int .i64 D.left,.bool D.dead]) 124 (0,0))->
  (∀left dead h',h'=bH h p (.cells (List.toArray [.slice (some ⟨n,0,none⟩) D.now.length c,.slice (some ⟨k,0,none⟩) D.now.length kc,.slice wb a wc,.int .i64 left,.bool dead]) 124 (0,0))->jD h0 h' p { D with left:=left,dead:=dead }/\cY DY h h')->G):G:=by
 obtain⟨k,kc,n,c,wb,a,wc,g,o1,o2,e1,b,w,d,f,z,m,o,l⟩:=q.out;refine i k kc n c wb a wc g (λleft dead h' e=>⟨?_,by rw[e];exact gi g (by decide)⟩);have lt:∀tys,124∉tys->cf tys h h':=λtys j=>by rw[e];exact cf.set g j
 exact⟨k,kc,n,c,wb,a,wc,(congrFun e p).trans ae,o1.mono (lt _ (by decide)),o2.mono (lt _ (by decide)),e1,b,w.mono (lt _ (by decide)),d,f,z,m,o,l.aE (bs:=[p]) (by simpa using z) (by rw[e];exact Kp.set (by simp))⟩
theorem bXV(q:jD h0 h p D)(x:D.dead=false)(hl:0<=D.left/\D.left<2^63)(c:∀h',cY DY h h'->jD h0 h' p (dG D).2->k (.bool (dG D).1) h'):Ct 102 [.pointer (some ⟨p,0,none⟩)] h k:=by
 obtain⟨A,F⟩:=Ar.ex;refine q.tJ (λj kc n o wb w wc g s=>?_);have P:dG D=if D.left>0 then if IntKind.i64.wrap (D.left+ -1)=0 then(true,{ D with left:=0,dead:=true })else(false,{ D with left:=IntKind.i64.wrap (D.left+ -1) })else(false,D):=rfl
 have B:A .az .gtr D.left 0=decide (D.left>0):=aO A ..;generalize J:D.left=l at *;generalize D.now.length=nl at *;obtain⟨m,y⟩:∃m,m=A .aC .sub .i64 l 1:=⟨_,rfl⟩;refine dH cKO A Tryz.func102 ?_;cbv;rw[ao A];refine bc g ?_;cbv;rw[B];by_cases i:l>0
 .rw[if_pos i]at P;have K:m=l-1:=by rw[y,F.aC];show IntKind.i64.wrap (l-1)=_;rw[IntWalk.i64_in _ (by omega)]
  have Z:IntKind.i64.wrap (l+ -1)=m:=by rw[K,IntWalk.i64_in _ (by omega)];omega
  rw[Z]at P;have C:A .az .eql m 0=decide (m=0):=aq A ..;rw[aH i];cbv;rw[ao A];refine bc g ?_;cbv;rw[ao A,<-y];refine iB g (by show 4<=5;decide) (λv e1=>?_);have t:v p=some (.cells (List.toArray [.slice (some ⟨n,0,none⟩) nl o,.slice (some ⟨j,0,none⟩) nl kc,.slice wb w wc,.int .i64 m,.bool D.dead]) 124 (0,0)):=(congrFun e1 p).trans ae;have X:∀a b,a=bH v p (.cells (List.toArray [.slice (some ⟨n,0,none⟩) nl o,.slice (some ⟨j,0,none⟩) nl kc,.slice wb w wc,.int .i64 m,.bool b]) 124 (0,0))->jD h0 a p { D with left:=m,dead:=b }/\cY DY h a:=λa b f=>by
   refine s m b a ?_;rw[f,e1,dN]
  cbv;rw[ao A];refine bc t ?_;cbv;rw[ao A,C];refine iB t (by show 5<=5;decide) (λa f=>?_);obtain⟨r,z⟩:=X a (decide (m=0)) f;have E:a p=some (.cells (List.toArray [.slice (some ⟨n,0,none⟩) nl o,.slice (some ⟨j,0,none⟩) nl kc,.slice wb w wc,.int .i64 m,.bool (decide (m=0))]) 124 (0,0)):=(congrFun f p).trans ae;have fin:k (.bool (decide (m=0))) a:=by
   by_cases d:m=0
   .rw[if_pos d]at P;rw[P]at c;rw[aH d]at r |-;rw[d]at r;exact c a z r
   rw[if_neg d]at P;rw[P]at c;rw[ag d]at r |-;have e:({ D with left:=m,dead:=false }:Dk)={ D with left:=m }:=by rw[<-x]
   rw[e]at r;exact c a z r
  clear e1 f X s c P;generalize decide (m=0)=u at *;cbv;rw[ao A];refine bc E ?_;cbv;exact fin
 rw[if_neg i]at P;rw[P]at c;have:=c h (cY.refl _ _) q;rw[ag i];clear c s;cbv;rw[ao A];refine bc g ?_;cbv;show k (.bool D.dead) h;rw[x];exact this
theorem EY(q:jD h0 h p D)(n:Int)
 (d:dL D n 0≠0->k (.tuple #[.slice none 0 0,.int .i64 (dL D n 0)]) h)
 (e:dL D n 0=0->∀h' b c l,l=bQ D n->l.length=64->Le h h'->aT 5 bS h h' (.slice b 64 c) l->k (.tuple #[.slice b 64 c,.int .i64 0]) h'):
 Ct 11 [.pointer (some ⟨p,0,none⟩),.int .i64 n] h k:=by
 obtain⟨A,v⟩:=Ar.ex;obtain⟨kb,kc,r,X,wb,wn,wc,g,o1,o2,e1,e2,w,e4,s,z1,z2,z3,l0⟩:=q.out;have C:dL D n 0=if D.dead then 15 else if n<0\/n>=D.now.length\/(0:Int)>64 then 1 else 0:=rfl
 have I:A .az .lss n 0=decide (n<0):=aJ A ..;have K:A .az .geq n (A .nat D.now.length)=decide (n>=D.now.length):=by rw[cZ A,v.nat];rfl
 have u:bQ D n=(D.now[n.toNat]?).getD []:=rfl;have iX:=o2.sl (n:=D.now.length) rfl;generalize G:D.left=lf at *;generalize nO:D.dead=E at *;generalize oH:D.now=N at *;generalize Fi:N.length=nl at *;refine dH gQp A Tryz.func11 ?_;cbv;rw[ao A];refine bc g ?_;cbv;cases E with
 |true=>have C:dL D n 0=15:=C;rw[C]at d;have:=d (by decide);clear d e;cbv;exact this
 |false=>
  have C:dL D n 0=if n<0\/n>=nl\/(0:Int)>64 then 1 else 0:=C
  cbv;rw[I];by_cases f:n<0
  .rw[if_pos (.inl f)]at C;rw[C]at d;have:=d (by decide);rw[aH f];clear d e;cbv;exact this
  rw[ag f];cbv;rw[ao A];refine bc g ?_;cbv;rw[K];by_cases a:n>=nl
  .rw[if_pos (.inr (.inl a))]at C;rw[C]at d;have:=d (by decide);rw[aH a];clear d e;cbv;exact this
  rw[if_neg (λR=>by rcases R with h|h|h;exact f h;exact a h;exact absurd h (by decide))]at C;have e:=e C;have a:¬n>=(nl:Int):=a;rw[ag a];have T:aM n n.toNat:=⟨by omega⟩;obtain⟨x,hx⟩:=di N n.toNat;rw[hx]at u;have u:bQ D n=x:=u;rw[u]at e;have ix:=T.ix (len:=nl) (by omega);obtain⟨c,L,O,t⟩:=o2.out;have hR:=O.at hx;have M:x.length=64:=hR.2;have Z:Sl 134 bS h (.slice (some ⟨r,n.toNat*64,none⟩) 64 64) x:=by
   refine⟨_,64,by rw[M],by omega,by omega,.inr ⟨r,n.toNat*64,_,_,rfl,L,?_,λi y B=>?_⟩⟩
   .have:n.toNat<N.length:=(dB.1 hx).1;have U:=o2.le;have t:c.length=X*64:=t;show n.toNat*64+x.length*1<=(List.toArray c).toList.length;simp only[List.toArray,M];omega
   have S:i<64:=by have:=(dB.1 B).1;omega
   have m:=congrArg (λl=>l[i]?) hR.1;have J:iC.n=64:=rfl;rw[J]at m;simp only[hU,nM,aA,qy,B]at m;rw[if_pos S]at m;show((c.drop (n.toNat*64+i*1)).take 1)=[.int .u8 (y.toNat:Int)];apply rv;intro j;rw[hU,nM];by_cases z:j<1
   .have:j=0:=by omega
    subst this;rw[if_pos z,TG,hKz,m];rfl
   rw[if_neg z,qk (by simp;omega)]
  have H:A .fM (some ⟨r,0,none⟩) n 64=⟨r,n.toNat*64,none⟩:=by rw[v.fM];simp[fM,bL]
  clear d o1 w;cbv;intro n5 P yB s;have o:Le h P:=by rw[s];exact Le.set yB
  clear s;cbv;rw[ao A];refine bc (o _ _ g) ?_;cbv;refine⟨⟨rfl,ix⟩,?_⟩;cbv;rw[H];refine jx (Z.mono (o.t _)) rfl (by decide) (λF=>by cases F) (λBr cap Q V kj W Y=>?_);have:=e Q _ _ x rfl M (o.trans W) (Y.buf (o.none V) M.symm);clear e;cbv;exact this
theorem LK{d n:Int}{s:ByteArray}(a:∀z,z=dX ⟨d,n,s⟩->k (.int .i64 z) h):Ct 289 [.agg #[.int .i64 d,.int .i64 n,.string s]] h k:=by
 obtain⟨A,x⟩:=Ar.ex;have i:A .az .lss d 0=decide (d<0):=aJ A ..;have e1:A .az .gtr d 3=decide (d>3):=aO A ..;have y:A .az .eql d 0=decide (d=0):=aq A ..;have w:A .az .neq n 0=decide (n≠0):=av A ..;have p:A .jX .neq s ⟨#[]⟩=decide (s≠⟨#[]⟩):=by have:=ek A s ⟨#[]⟩;rw[x.jX]at this |-;simp only[Go.Sx.jX]at this |-;rw[this];simp
 have j:A .az .eql d 1=decide (d=1):=aq A ..;have B:A .az .lss n 0=decide (n<0):=aJ A ..;have C:A .az .gtr n 1=decide (n>1):=aO A ..;have f:A .az .eql d 2=decide (d=2):=aq A ..;have e:A .az .eql d 3=decide (d=3):=aq A ..;have l:A .az .gtr (A .iQ s) 60=decide (s.size>60):=by rw[x.iQ,aO A];exact decide_eq_decide.2 (by show(s.size:Int)>60↔_;omega)
 have V:dX ⟨d,n,s⟩=if(decide (d<0)||decide (d>3))=true then 3
  else if(!gS ⟨d,n,s⟩ (ir ⟨d,n,s⟩)||(decide (d=1)&&decide (n≠0)&&decide (n≠1)))=true then 1
  else if decide ((s.size:Int)>60)=true then 5 else 0:=rfl
 have Q:decide ((s.size:Int)>60)=decide (s.size>60):=decide_eq_decide.2 (by omega);rw[Q]at V;refine dH HF A Tryz.func289 ?_;cbv;by_cases q:d<0
 .rw[aH q]at i V;have:=a 3 (by rw[V];rfl);rw[i];cbv;exact this
 rw[ag q]at i V;rw[i];cbv;by_cases r:d>3
 .rw[aH r]at e1 V;have:=a 3 (by rw[V];rfl);rw[e1];cbv;exact this
 rw[ag r]at e1 V;rw[e1];cbv;rw[y];by_cases m:d=0
 .have S:(!gS ⟨d,n,s⟩ (ir ⟨d,n,s⟩)||(decide (d=1)&&decide (n≠0)&&decide (n≠1)))=(decide (n≠0)||decide (s≠⟨#[]⟩)):=by subst m;simp[gS,ir]
  rw[S]at V;rw[aH m];have j:A .az .eql d 1=false:=by rw[j];exact ag (by omega)
  have f:A .az .eql d 2=false:=by rw[f];exact ag (by omega)
  have e:A .az .eql d 3=false:=by rw[e];exact ag (by omega)
  cbv;rw[w];by_cases g:n≠0
  .rw[aH g]at V |-;have:=a 1 (by rw[V];rfl);cbv;exact this
  rw[ag g]at V |-;cbv;rw[p];by_cases b:s≠⟨#[]⟩
  .rw[aH b]at V |-;have:=a 1 (by rw[V];rfl);cbv;exact this
  rw[ag b]at V |-;cbv;rw[j];cbv;rw[f];cbv;rw[e];cbv;rw[l];by_cases c:s.size>60
  .rw[aH c]at V |-;have:=a 5 (by rw[V];rfl);cbv;exact this
  rw[ag c]at V |-;have:=a 0 (by rw[V];rfl);cbv;exact this
 rw[ag m];cbv;rw[j];by_cases c:d=1
 .have S:(!gS ⟨d,n,s⟩ (ir ⟨d,n,s⟩)||(decide (d=1)&&decide (n≠0)&&decide (n≠1)))=(decide (s≠⟨#[]⟩)||(decide (n≠0)&&decide (n≠1))):=by subst c;simp[gS,ir]
  rw[S]at V;have f:A .az .eql d 2=false:=by rw[f];exact ag (by omega)
  have e:A .az .eql d 3=false:=by rw[e];exact ag (by omega)
  rw[aH c];cbv;rw[B];by_cases t:n<0
  .have:(decide (s≠⟨#[]⟩)||(decide (n≠0)&&decide (n≠1)))=true:=by rw[aH (show n≠0 by omega),aH (show n≠1 by omega)];simp
   rw[this]at V;have:=a 1 (by rw[V];rfl);rw[aH t];cbv;exact this
  rw[ag t];cbv;rw[C];by_cases u:n>1
  .have:(decide (s≠⟨#[]⟩)||(decide (n≠0)&&decide (n≠1)))=true:=by rw[aH (show n≠0 by omega),aH (show n≠1 by omega)];simp
   rw[this]at V;have:=a 1 (by rw[V];rfl);rw[aH u];cbv;exact this
  have:(decide (s≠⟨#[]⟩)||(decide (n≠0)&&decide (n≠1)))=decide (s≠⟨#[]⟩):=by rcases(show n=0\/n=1 by omega)with rfl|rfl<;>simp
  rw[this]at V;rw[ag u];cbv;rw[p];by_cases b:s≠⟨#[]⟩
  .rw[aH b]at V |-;have:=a 1 (by rw[V];rfl);cbv;exact this
  rw[ag b]at V |-;cbv;rw[f];cbv;rw[e];cbv;rw[l];by_cases c:s.size>60
  .rw[aH c]at V |-;have:=a 5 (by rw[V];rfl);cbv;exact this
  rw[ag c]at V |-;have:=a 0 (by rw[V];rfl);cbv;exact this
 rw[ag c];cbv;rw[f];by_cases o:d=2
 .have S:(!gS ⟨d,n,s⟩ (ir ⟨d,n,s⟩)||(decide (d=1)&&decide (n≠0)&&decide (n≠1)))=decide (s≠⟨#[]⟩):=by subst o;simp[gS,ir]
  rw[S]at V;have e:A .az .eql d 3=false:=by rw[e];exact ag (by omega)
  rw[aH o];cbv;rw[p];by_cases b:s≠⟨#[]⟩
  .rw[aH b]at V |-;have:=a 1 (by rw[V];rfl);cbv;exact this
  rw[ag b]at V |-;cbv;rw[e];cbv;rw[l];by_cases c:s.size>60
  .rw[aH c]at V |-;have:=a 5 (by rw[V];rfl);cbv;exact this
  rw[ag c]at V |-;have:=a 0 (by rw[V];rfl);cbv;exact this
 have v:d=3:=by omega
 have S:(!gS ⟨d,n,s⟩ (ir ⟨d,n,s⟩)||(decide (d=1)&&decide (n≠0)&&decide (n≠1)))=decide (n≠0):=by subst v;simp[gS,ir]
 rw[S]at V;rw[aH v]at e;rw[ag o];cbv;rw[e];cbv;rw[w];by_cases g:n≠0
 .rw[aH g]at V |-;have:=a 1 (by rw[V];rfl);cbv;exact this
 rw[ag g]at V |-;cbv;rw[l];by_cases c:s.size>60
 .rw[aH c]at V |-;have:=a 5 (by rw[V];rfl);cbv;exact this
 rw[ag c]at V |-;have:=a 0 (by rw[V];rfl);cbv;exact this
theorem LU:lM none=(⟨0,0,⟨#[]⟩⟩,none):=rfl
theorem zy(n:Nat):(eH n none).2=none:=by
 induction n with
 |zero=>rfl
 |succ n i=>show(eH n (lM none).2).2=none;rw[LU];exact i
theorem iv.err{s:St}(q:iv h p s)(k:∀bb n c z e,h p=some (.cells (List.toArray [.slice bb n c,.int .i64 z,.int .i64 e]) 290 (0,0))->(e=0↔s≠none)->G):G:=by
 obtain⟨bb,n,c,xs,z,i,err,g,sl,f,d,b⟩:=q.out;refine k bb n c z err g ?_;rw[b];split
 .rename_i e;exact⟨λ_ a=>(by cases a),λ_=>e⟩
 rename_i e;exact⟨λa=>absurd a e,λa=>absurd rfl a⟩
theorem Tv{l:Bs}(q:Sl 5 bS h (.slice b m c) l)
 (Y:dS l=none->∀h' (e:Int),Le h h'->e≠0->k (.tuple #[.slice none 0 0,.int .i64 e]) h')
 (de:∀r h' b n c,dS l=some r->Le h h'->Sl 87 aZ h' (.slice b n c) r->n<=255->k (.tuple #[.slice b n c,.int .i64 0]) h'):
 Ct 219 [.slice b m c] h k:=by
 obtain⟨A,hA⟩:=Ar.ex;have P:dS l=if(ar 1 (some l)).1>6 then gN (eH 0 none)else gN (eH (ar 1 (some l)).1 (ar 1 (some l)).2):=rfl
 have aI:=oS 1 (some l);refine fG A [5,12,19] (ah cJa.aw cJa.aP) Tryz.func219 rfl (by kernel_rfl) ?_;cbv;refine HK q (λh1 p hp l1 q1=>?_);cbv;refine mX q1 (λh2 x hx k2 q2=>?_);have l2:Le h h2:=l1.aE (bs:=[p]) (by simpa using hp) k2;generalize ar 1 (some l)=R at *;obtain⟨f,s1⟩:=R;have q2:iv h2 p s1:=q2;have hx:x=(f:Int):=hx;have aI:f<256:=aI;have aD:aM x f:=⟨hx⟩;have P:dS l=if f>6 then gN (eH 0 none)else gN (eH f s1):=P
 have f1:A .az .gtr x 6=decide (f>6):=by rw[aO A];exact decide_eq_decide.2 (by omega)
 obtain⟨C,eZ⟩:∃C:Unit->ab->Prop,∀g h1,C g h1=(∃s0,Le h h1/\iv h1 p s0/\dS l=gN (eH f s0)):=⟨_,λ_ _=>rfl⟩;cbv;refine jA.go (G:=Unit) (λ_=>[]) (λ_=>[]) C ?_ ?_
 .cbv;rw[f1];by_cases hc:f>6
  .rw[if_pos hc]at P;have hC:∀h',Kp [p] h2 h'->iv h' p none->C () h':=λh' k' W=>by
    rw[eZ];refine⟨none,l2.aE (bs:=[p]) (by simpa using hp) k',W,?_⟩;rw[P];have e2:=zy f;generalize eH f none=vv at *;obtain⟨a,b⟩:=vv;have e2:b=none:=e2;subst e2;rfl
   rw[aH hc];clear eZ P f1 Y de;cbv;refine po q2 (by decide) (λh4 k4 q4=>?_);have hC:=hC h4 k4 q4;cbv;refine⟨(),by constructor<;>cbv,hC⟩
  rw[if_neg hc]at P;have hC:C () h2:=by rw[eZ];exact⟨s1,l2,q2,P⟩
  rw[ag hc];clear eZ P f1 Y de;cbv;refine⟨(),by constructor<;>cbv,hC⟩
 intro g h4 hC;rw[eZ]at hC;cbv;obtain⟨s0,l4,q4,P⟩:=hC;clear eZ f1 q1 q2 k2 l1 l2;obtain⟨J,aX⟩:∃J:Nat->((Option Addr×Nat×Nat)×Int)->ab->Prop,∀w g h',J w g h'=(∃i d O,aM g.2 i/\w=f-i/\i<=f/\Le h h'/\iv h' p d/\aT 87 aZ h h' (.slice g.1.1 g.1.2.1 g.1.2.2) O/\O.length=i/\dS l=gN (O++(eH (f-i) d).1,(eH (f-i) d).2)):=⟨_,λ_ _ _=>rfl⟩;have eP:J f ((none,0,0),0) h4:=by rw[aX];exact⟨0,s0,[],⟨rfl⟩,rfl,by omega,l4,q4,aT.nil,rfl,P⟩
 refine aK.go (G:=(Option Addr×Nat×Nat)×Int) (λg=>[(6,.v (.slice g.1.1 g.1.2.1 g.1.2.2)),(7,.v (.int .i64 g.2))]) (λ_=>[]) (λw g h'=>J w g h') f ((none,0,0),0) (by constructor<;>cbv) eP ?_
 intro w g S hI;rw[aX]at hI;cbv;obtain⟨⟨gb,B,gc⟩,zi⟩:=g;obtain⟨i,d,O,eW,hw,hi,l5,q5,b5,ud,he⟩:=hI;have eW:aM zi i:=eW;have b5:aT 87 aZ h S (.slice gb B gc) O:=b5;have pW:=b5.sl.len;have f2:A .az .lss zi x=decide (i<f):=by rw[aJ A,eW.eq,aD.eq];exact decide_eq_decide.2 (by omega)
 have aw:=Y;obtain⟨K,hK⟩:∃K:Prop,K=(i<f/\d≠none):=⟨_,rfl⟩;have fin:¬(i<f/\d≠none)->dS l=gN (O,d):=λH=>by
  by_cases h1:i<f
  .have:d=none:=by
    rcases Option.eq_none_or_eq_some d with e| ⟨v,e⟩
    .exact e
    exact absurd ⟨h1,by rw[e];exact λH=>by cases H⟩ H
   subst this;rw[he,zy];rfl
  have:f-i=0:=by omega
  rw[he,this];show gN (O++[],d)=_;rw[wS]
 rw[f2];by_cases hc:i<f
 .rw[aH hc];refine q5.err (λrb rn rc rz re g5 Ff=>?_);have f3:A .az .eql re 0=decide (re=0):=aq A ..;cbv;rw[ao A];refine bc g5 ?_;cbv;rw[f3];by_cases hs:re=0
  .rw[aH hs];have au:eH (f-i) d=((lM d).1::(eH (f-(i+1)) (lM d).2).1,(eH (f-(i+1)) (lM d).2).2):=by
    have:f-i=(f-(i+1))+1:=by omega
    rw[this];rfl
   rw[au]at he;have bF:∀h' b' m' c',m'=B+1->Le h h'->iv h' p (lM d).2->aT 87 aZ h h' (.slice b' m' c') (O++[(lM d).1])->J (f-(i+1)) ((b',m',c'),A .aC .add .i64 zi 1) h':=λh' b' m' c' e l' W b'=>by
    rw[aX];refine⟨i+1,_,_,eW.succ (A:=A),rfl,by omega,l',W,b',?_,?_⟩
    .rw[dr,ud];rfl
    rw[he];simp
   have aI:f-(i+1)<w:=by omega
   have Re:B+1<=2^39:=by omega
   have V:lM d=if(ar 1 d).1=0 then(⟨0,0,⟨#[]⟩⟩,(ar 1 d).2)
    else if(ar 1 d).1=1 then(⟨1,((ar 1 (ar 1 d).2).1:Int),⟨#[]⟩⟩,(ar 1 (ar 1 d).2).2)
    else if(ar 1 d).1=2 then(⟨2,IntKind.i64.wrap ((ar 8 (ar 1 d).2).1:Int),⟨#[]⟩⟩,(ar 8 (ar 1 d).2).2)
    else if(ar 1 d).1=3 then(⟨3,0,strOf (aG (ar 1 d).2).1⟩,(aG (ar 1 d).2).2)
    else(⟨((ar 1 d).1:Int),0,⟨#[]⟩⟩,none):=rfl
   obtain⟨D,U⟩:∃D:(Int×Int×ByteArray)->ab->Prop,∀g h',D g h'=(Kp [p] S h'/\iv h' p (lM d).2/\(lM d).1=⟨g.1,g.2.1,g.2.2⟩):=⟨_,λ_ _=>rfl⟩;obtain⟨E,Ug⟩:∃E:Int->ab->Prop,∀y h',E y h'=(∃o t,y=((o:Nat):Int)/\Kp [p] S h'/\iv h' p t/\lM d=if o=1 then(⟨1,((ar 1 t).1:Int),⟨#[]⟩⟩,(ar 1 t).2)
    else if o=2 then(⟨2,IntKind.i64.wrap ((ar 8 t).1:Int),⟨#[]⟩⟩,(ar 8 t).2)
    else if o=3 then(⟨3,0,strOf (aG t).1⟩,(aG t).2)else(⟨(o:Int),0,⟨#[]⟩⟩,t)):=⟨_,λ_ _=>rfl⟩
   clear aX eP au he f2 Y de P hc aw fin g5 f3;cbv;refine mX q5 (λT y F k6 X=>?_);have Q:A .az .gtr y 3=decide ((ar 1 d).1>3):=by rw[aO A];exact decide_eq_decide.2 (by omega)
   generalize ar 1 d=R1 at *;obtain⟨o,t⟩:=R1;have X:iv T p t:=X;have F:y=(o:Int):=F;have Q:A .az .gtr y 3=decide (o>3):=Q;have V:lM d=if o=0 then(⟨0,0,⟨#[]⟩⟩,t)else if o=1 then(⟨1,((ar 1 t).1:Int),⟨#[]⟩⟩,(ar 1 t).2)
    else if o=2 then(⟨2,IntKind.i64.wrap ((ar 8 t).1:Int),⟨#[]⟩⟩,(ar 8 t).2)
    else if o=3 then(⟨3,0,strOf (aG t).1⟩,(aG t).2)else(⟨(o:Int),0,⟨#[]⟩⟩,none):=V
   cbv;refine jA.go (G:=Int) (λ_=>[]) (λy=>[(8,[.int .i64 y,.int .i64 0,.string ⟨#[]⟩])]) E ?_ ?_
   .clear bF;cbv;rw[Q];by_cases c4:o>3
    .rw[if_neg (by omega),if_neg (by omega),if_neg (by omega),if_neg (by omega)]at V;have hE:∀h',Kp [p] S h'->iv h' p none->E y h':=λh' k' W=>by
      rw[Ug];exact⟨o,none,F,k',W,by rw[if_neg (by omega),if_neg (by omega),if_neg (by omega)];exact V⟩
     rw[aH c4];clear U V Q Ug;cbv;refine po X (by decide) (λZ k7 q7=>?_);have hE:=hE Z (k6.trans k7) q7;cbv;refine⟨y,by constructor<;>cbv,hE⟩
    rw[ag c4];have hE:E y T:=by
     rw[Ug];refine⟨o,t,F,k6,X,?_⟩;rw[V];by_cases c0:o=0
     .subst c0;rfl
     rw[if_neg c0];by_cases c3:o=3
     .subst c3;rfl
     rcases(show o=1\/o=2 by omega)with rfl|rfl<;>rfl
    clear U V Q Ug;cbv;refine⟨y,by constructor<;>cbv,hE⟩
   intro y T hE;rw[Ug]at hE;cbv;obtain⟨o,t,F,k6,X,V⟩:=hE;have F:y=((o:Nat):Int):=F;have g1:A .az .eql y 1=decide (o=1):=by rw[aq A];exact decide_eq_decide.2 (by omega)
   have g2:A .az .eql y 2=decide (o=2):=by rw[aq A];exact decide_eq_decide.2 (by omega)
   have g3:A .az .eql y 3=decide (o=3):=by rw[aq A];exact decide_eq_decide.2 (by omega)
   clear Ug;refine jA.go (G:=Int×Int×ByteArray) (λ_=>[]) (λg=>[(8,[.int .i64 g.1,.int .i64 g.2.1,.string g.2.2])]) D ?_ ?_
   .clear bF;cbv;rw[g1];by_cases c1:o=1
    .rw[if_pos c1]at V;have L:∀h' v,v=((ar 1 t).1:Int)->Kp [p] S h'->iv h' p (ar 1 t).2->D (y,v,⟨#[]⟩) h':=λh' v N k' W=>by
      rw[U,V,F,c1,N];exact⟨k',W,rfl⟩
     rw[aH c1];clear U V g1 g2 g3;cbv;refine mX X (λZ v N k7 q7=>?_);have L:=L Z v N (k6.trans k7) q7;cbv;refine⟨(y,v,⟨#[]⟩),by constructor<;>cbv,L⟩
    rw[if_neg c1]at V;rw[ag c1];cbv;rw[g2];by_cases c2:o=2
    .rw[if_pos c2]at V;have L:∀h' v,v=IntKind.i64.wrap ((ar 8 t).1:Int)->Kp [p] S h'->iv h' p (ar 8 t).2->D (y,v,⟨#[]⟩) h':=λh' v N k' W=>by
      rw[U,V,F,c2,N];exact⟨k',W,rfl⟩
     rw[aH c2];clear U V g1 g2 g3;cbv;refine yj X (λZ v N k7 q7=>?_);have L:=L Z v N (k6.trans k7) q7;cbv;refine⟨(y,v,⟨#[]⟩),by constructor<;>cbv,L⟩
    rw[if_neg c2]at V;rw[ag c2];cbv;rw[g3];by_cases c3:o=3
    .rw[if_pos c3]at V;have L:∀h' v,v=strOf (aG t).1->Kp [p] S h'->iv h' p (aG t).2->D (y,0,v) h':=λh' v N k' W=>by
      rw[U,V,F,c3,N];exact⟨k',W,rfl⟩
     rw[aH c3];clear U V g1 g2 g3;cbv;refine uj X (λZ v N k7 q7=>?_);have L:=L Z v N (k6.trans k7) q7;cbv;refine⟨(y,0,v),by constructor<;>cbv,L⟩
    rw[if_neg c3]at V;have L:D (y,0,⟨#[]⟩) T:=by rw[U,V,F];exact⟨k6,X,rfl⟩
    rw[ag c3];clear U V g1 g2 g3;cbv;refine⟨(y,0,⟨#[]⟩),by constructor<;>cbv,L⟩
   intro g T L;rw[U]at L;cbv;obtain⟨vk,vn,vs⟩:=g;obtain⟨k6,X,N⟩:=L;have N:(lM d).1=⟨vk,vn,vs⟩:=N;rw[N]at bF;have t6:cf [87] S T:=q5.lt k6 (by decide);have l6:Le h T:=l5.aE (bs:=[p]) (by simpa using hp) k6;have b6:=b5.mono t6;clear U;intro n7 Z BR e7;have MD:Le T Z:=by rw[e7];exact Le.set BR
   have s7:Sl 87 aZ Z (.slice (some ⟨n7,0,none⟩) 1 1) [⟨vk,vn,vs⟩]:=bC (s:=aZ) ((congrFun e7 n7).trans ae) rfl;clear e7;cbv;refine(b6.mono (MD.t _)).append s7 (by decide) rfl (by decide) Re (l6.trans MD) (λm8 b8 c8 h8 aj l8 t8 k8 an=>?_);have q8:=(X.le MD).mt (t8 _ (by decide));have dt:=bF h8 b8 m8 c8 aj l8 q8 an;clear bF k8;cbv;refine⟨_,((b8,m8,c8),A .aC .add .i64 zi 1),aI,by constructor<;>cbv,dt⟩
  rw[ag hs];have P:=fin (λH=>hs (Ff.2 H.2));have sn:d=none:=by
   rcases Option.eq_none_or_eq_some d with e| ⟨v,e⟩
   .exact e
   exact absurd (Ff.2 (by rw[e];exact λH=>by cases H)) hs
  have sR:∀h' (e:Int),Le h h'->e≠0->k (.tuple #[.slice none 0 0,.int .i64 e]) h':=Y (by rw[P,sn];rfl);clear aX eP fin he Y de P f2 f3;cbv;refine pG q5 (λe vE=>?_);have M:e≠0:=λH=>by have:=vE.1 H;rw[sn]at this;cases this
  have Q:A .az .neq e 0=true:=by rw[av A];exact aH M
  have f5:A .az .eql e 0=false:=by rw[aq A];exact ag M
  have:=sR S e l5 M;cbv;refine aK.go (G:=Int) (λy=>[(10,.v (.int .i64 y)),(9,.v (.int .i64 e))]) (λ_=>[]) (λw y h'=>y=0/\h'=S) 1 0 (by constructor<;>cbv) ⟨rfl,rfl⟩ ?_
  intro w y T hI;cbv;obtain⟨rfl,rfl⟩:=hI;generalize A .az .lss 0 (A .nat B)=u at *;cases u with
  |true=>cbv;rw[f5];cbv;rw[Q];cbv;exact this
  |false=>cbv;rw[Q];cbv;exact this
 rw[ag hc];have P:=fin (λH=>hc H.1);have P:dS l=if d=some []then if O.all (λv=>decide (dX v=0))=true then some O else none else none:=P
 have ai:=b5.sl;have aP:B<=255:=by omega
 clear aX eP fin he f2;cbv;refine pG q5 (λe he=>?_);obtain⟨I,gX⟩:∃I:Nat->Int×Int->ab->Prop,∀w g h',I w g h'=(∃j,aM g.1 j/\w=B-j/\j<=B/\Le S h'/\((g.2=0/\d=some []/\∀a x,a<j->O[a]? =some x->dX x=0)\/(g.2≠0/\dS l=none))):=⟨_,λ_ _ _=>rfl⟩;have sS:I B (0,e) S:=by
  rw[gX];refine⟨0,⟨rfl⟩,rfl,by omega,Le.refl _,?_⟩;by_cases M:e=0
  .exact .inl ⟨M,he.1 M,λa x ha=>by omega⟩
  exact .inr ⟨M,by rw[P,if_neg (λH=>M (he.2 H))]⟩
 cbv;refine aK.go (G:=Int×Int) (λg=>[(10,.v (.int .i64 g.1)),(9,.v (.int .i64 g.2))]) (λ_=>[]) (λw g h'=>I w g h') B (0,e) (by constructor<;>cbv) sS ?_
 intro w g T hI;rw[gX]at hI;cbv;obtain⟨y,e6⟩:=g;obtain⟨j,F,hw,hj,l6,bg⟩:=hI;have F:aM y j:=F;have bg:(e6=0/\d=some []/\∀a x,a<j->O[a]? =some x->dX x=0)\/(e6≠0/\dS l=none):=bg;have Q:A .az .lss y (A .nat B)=decide (j<B):=by rw[aJ A,F.eq,hA.nat];exact decide_eq_decide.2 (by show(j:Int)<(B:Int)↔_;omega)
 have f5:A .az .eql e6 0=decide (e6=0):=aq A ..;have f6:A .az .neq e6 0=decide (e6≠0):=av A ..;rw[Q];rcases bg with⟨M,Fe,bg⟩|⟨M,ak⟩
 .rw[aH M]at f5;rw[ag (λH=>H M)]at f6;by_cases c4:j<B
  .rw[aH c4];obtain⟨x,hx⟩:=di O j;have jB:gb.isSome=true:=ai.aR;have iy:=F.ix (len:=B) (by omega);have aI:B-(j+1)<w:=by omega
   have HY:∀z h',z=dX x->Le S h'->I (B-(j+1)) (A .aC .add .i64 y 1,z) h':=λz h' hz l'=>by
    rw[gX];refine⟨j+1,F.succ (A:=A),rfl,by omega,l',?_⟩;by_cases z0:z=0
    .refine .inl ⟨z0,Fe,λa x' ha yS=>?_⟩;by_cases e:a=j
     .subst e;rw[hx]at yS;cases yS;omega
     exact bg a x' (by omega) yS
    refine .inr ⟨z0,?_⟩;rw[P,if_pos Fe,if_neg (λH=>by
     have:=GD.1 H x (kF hx);have:=qH this;omega)]
   obtain⟨xk,xn,xs⟩:=x;clear Q gX sS Y de P f6;cbv;rw[f5];cbv;refine⟨⟨jB,iy⟩,?_⟩;cbv;refine(ai.mono (l6.t _)).load hx F.eq (λcs au=>?_);have au:cs=[.int .i64 xk,.int .i64 xn,.string xs]:=au;subst au;cbv;refine LK (λz hz=>?_);have aW:=HY z T hz l6;clear HY;cbv;refine⟨_,(A .aC .add .i64 y 1,z),aI,by constructor<;>cbv,aW⟩
  rw[ag c4];have MX:j=B:=by omega
  subst MX;rw[if_pos Fe,if_pos (GD.2 λx hx=>by
   obtain⟨a,ha⟩:=hJR.1 hx;exact aH (bg a x (by have:=(dB.1 ha).1;omega) ha))]at P
  have:=de O T gb j gc P (l5.trans l6) (ai.mono (l6.t _)) aP;clear Y de gX sS Q;cbv;rw[f6];cbv;exact this
 rw[ag M]at f5;rw[aH M]at f6;have:=Y ak T e6 (l5.trans l6) M;clear Y de gX sS Q;by_cases c4:j<B
 .rw[aH c4];cbv;rw[f5];cbv;rw[f6];cbv;exact this
 rw[ag c4];cbv;rw[f6];cbv;exact this
theorem JY{s:St}(q:iv h p s)(a:∀h' t,t=(bA s).1->Kp [p] h h'->iv h' p (bA s).2->k (.bool t) h'):
 Ct 218 [.pointer (some ⟨p,0,none⟩)] h k:=by
 have T:bA s=(decide ((ar 1 s).1=1),if(ar 1 s).1>1 then none else(ar 1 s).2):=rfl;refine cp cJb Tryz.func218 λA m=>?_;cbv;refine mX q (λg x hx d e=>?_);have f:A .az .gtr x 1=decide ((ar 1 s).1>1):=by rw[aO A];exact decide_eq_decide.2 (by omega)
 have b:A .az .eql x 1=decide ((ar 1 s).1=1):=by rw[aq A];exact decide_eq_decide.2 (by omega)
 clear hx;by_cases c:(ar 1 s).1>1
 .rw[if_pos c]at T;rw[T]at a;rw[aH c]at f;cbv;rw[f];cbv;refine po e (by decide) (λi j l=>?_);have:=a i _ rfl (d.trans j) l;cbv;rw[b];exact this
 rw[if_neg c]at T;rw[T]at a;rw[ag c]at f;have:=a g _ rfl d e;cbv;rw[f];cbv;rw[b];exact this
theorem AZ(n:Nat):(ey n none).2=none:=by
 induction n with
 |zero=>rfl
 |succ n i=>show(ey n (sW none).2).2=none;exact i
theorem oP(nm:ByteArray)(c:List gY):iH nm (c,none)=none:=by unfold iH;rw[if_neg];rintro⟨h,-⟩;have:(bA (ar 8 (c,(none:St)).2).2).2=none:=rfl;rw[this]at h;cases h
theorem Tu{l:Bs}(q:Sl 5 bS h (.slice b m c) l)
 (K:dc l=none->∀h' (e:Int),Le h h'->e≠0->k (.tuple #[.agg #[.string ⟨#[]⟩,.slice none 0 0,.int .i64 0,.bool false],.int .i64 e]) h')
 (I:∀s h' b n c,dc l=some s->Le h h'->Sl 58 bt h' (.slice b n c) s.aW->k (.tuple #[.agg #[.string s.name,.slice b n c,.int .i64 s.key,.bool s.only],.int .i64 0]) h'):
 Ct 124 [.slice b m c] h k:=by
 obtain⟨A,hA⟩:=Ar.ex;have P:dc l=if(ar 1 (aG (some l)).2).1>6 then iH (strOf (aG (some l)).1) (ey 0 none)
  else iH (strOf (aG (some l)).1) (ey (ar 1 (aG (some l)).2).1 (ar 1 (aG (some l)).2).2):=rfl
 have aI:=oS 1 (aG (some l)).2;refine fG A [6,18] (ah cKu.aw cKu.aP) Tryz.func124 rfl (by kernel_rfl) ?_;cbv;refine HK q (λh1 p S l1 q1=>?_);cbv;refine uj q1 (λh2 f yT k2 q2=>?_);have l2:Le h h2:=l1.aE (bs:=[p]) (by simpa using S) k2;rw[<-yT]at P;generalize aG (some l)=R1 at *;obtain⟨nm,s1⟩:=R1;have q2:iv h2 p s1:=q2;cbv;refine mX q2 (λh3 x hx k3 q3=>?_);have l3:Le h h3:=l2.aE (bs:=[p]) (by simpa using S) k3;have P:dc l=if(ar 1 s1).1>6 then iH f (ey 0 none)else iH f (ey (ar 1 s1).1 (ar 1 s1).2):=P
 have aI:(ar 1 s1).1<256:=aI;generalize ar 1 s1=R2 at *;obtain⟨d,s2⟩:=R2;have q3:iv h3 p s2:=q3;have hx:x=(d:Int):=hx;have aI:d<256:=aI;have aW:aM x d:=⟨hx⟩;have P:dc l=if d>6 then iH f (ey 0 none)else iH f (ey d s2):=P
 have f1:A .az .gtr x 6=decide (d>6):=by rw[aO A];exact decide_eq_decide.2 (by omega)
 obtain⟨C,eZ⟩:∃C:Unit->ab->Prop,∀g h1,C g h1=(∃s0,Le h h1/\iv h1 p s0/\dc l=iH f (ey d s0)):=⟨_,λ_ _=>rfl⟩;clear yT;cbv;refine jA.go (G:=Unit) (λ_=>[]) (λ_=>[(2,[.string ⟨#[]⟩,.slice none 0 0,.int .i64 0,.bool false]),(5,[.string f,.slice none 0 0,.int .i64 0,.bool false])]) C ?_ ?_
 .cbv;rw[f1];by_cases V:d>6
  .rw[if_pos V]at P;have Y:∀h',Kp [p] h3 h'->iv h' p none->C () h':=λh' k' q'=>by
    rw[eZ];refine⟨none,l3.aE (bs:=[p]) (by simpa using S) k',q',?_⟩;rw[P];have e2:=AZ d;generalize ey d none=vv at *;obtain⟨a,b⟩:=vv;have e2:b=none:=e2;subst e2;rw[oP];exact oP _ _
   rw[aH V];clear eZ P f1 K I;cbv;refine po q3 (by decide) (λh4 k4 q4=>?_);have Y:=Y h4 k4 q4;cbv;refine⟨(),by constructor<;>cbv,Y⟩
  rw[if_neg V]at P;have Y:C () h3:=by rw[eZ];exact⟨s2,l3,q3,P⟩
  rw[ag V];clear eZ P f1 K I;cbv;refine⟨(),by constructor<;>cbv,Y⟩
 intro g h4 Y;rw[eZ]at Y;cbv;obtain⟨s0,l4,q4,P⟩:=Y;clear eZ f1 q1 q2 q3 k2 k3 l1 l2 l3;obtain⟨J,aX⟩:∃J:Nat->((Option Addr×Nat×Nat)×Int)->ab->Prop,∀w g h',J w g h'=(∃i j o,aM g.2 i/\w=d-i/\i<=d/\Le h h'/\iv h' p j/\aT 58 bt h h' (.slice g.1.1 g.1.2.1 g.1.2.2) o/\o.length=i/\dc l=iH f (o++(ey (d-i) j).1,(ey (d-i) j).2)):=⟨_,λ_ _ _=>rfl⟩;have eP:J d ((none,0,0),0) h4:=by rw[aX];exact⟨0,s0,[],⟨rfl⟩,rfl,by omega,l4,q4,aT.nil,rfl,P⟩
 refine aK.go (G:=(Option Addr×Nat×Nat)×Int) (λg=>[(7,.v (.int .i64 g.2))]) (λg=>[(2,[.string ⟨#[]⟩,.slice none 0 0,.int .i64 0,.bool false]),(5,[.string f,.slice g.1.1 g.1.2.1 g.1.2.2,.int .i64 0,.bool false])]) (λw g h'=>J w g h') d ((none,0,0),0) (by constructor<;>cbv) eP ?_
 .intro w g h5 hI;rw[aX]at hI;cbv;obtain⟨⟨gb,U,gc⟩,zi⟩:=g;obtain⟨i,j,o,eW,hw,hi,l5,q5,b5,ud,he⟩:=hI;have eW:aM zi i:=eW;have b5:aT 58 bt h h5 (.slice gb U gc) o:=b5;have pW:=b5.sl.len;have f2:A .az .lss zi x=decide (i<d):=by rw[aJ A,eW.eq,aW.eq];exact decide_eq_decide.2 (by omega)
  have fin:¬(i<d/\j≠none)->dc l=iH f (o,j):=λr=>by
   by_cases h1:i<d
   .have:j=none:=by
     rcases Option.eq_none_or_eq_some j with e| ⟨v,e⟩
     .exact e
     exact absurd ⟨h1,by rw[e];exact λr=>by cases r⟩ r
    subst this;rw[he,AZ,oP,oP]
   have:d-i=0:=by omega
   rw[he,this];show iH f (o++[],j)=_;rw[wS]
  have Gg:dc l=iH f (o,j)->dc l=if(bA (ar 8 j).2).2=some []/\dA ⟨f,o,IntKind.i64.wrap ((ar 8 j).1:Int),(bA (ar 8 j).2).1⟩=0 then
 some ⟨f,o,IntKind.i64.wrap ((ar 8 j).1:Int),(bA (ar 8 j).2).1⟩else none:=λr=>r
  rw[f2];by_cases V:i<d
  .rw[aH V];refine q5.err (λrb rn rc rz re g5 Ff=>?_);have f3:A .az .eql re 0=decide (re=0):=aq A ..;cbv;rw[ao A];refine bc g5 ?_;cbv;rw[f3];by_cases hs:re=0
   .rw[aH hs];have au:ey (d-i) j=((sW j).1::(ey (d-(i+1)) (sW j).2).1,(ey (d-(i+1)) (sW j).2).2):=by
     have:d-i=(d-(i+1))+1:=by omega
     rw[this];rfl
    rw[au]at he;have R:∀h' N m' c',m'=U+1->Le h h'->iv h' p (sW j).2->aT 58 bt h h' (.slice N m' c') (o++[(sW j).1])->J (d-(i+1)) ((N,m',c'),A .aC .add .i64 zi 1) h':=λh' N m' c' e l' q' N=>by
     rw[aX];refine⟨i+1,_,_,eW.succ (A:=A),rfl,by omega,l',q',N,?_,?_⟩
     .rw[dr,ud];rfl
     rw[he];simp
    have aI:d-(i+1)<w:=by omega
    have Re:U+1<=2^39:=by omega
    have ak:sW j=(⟨strOf (aG j).1,((ar 1 (aG j).2).1:Int),(bA (ar 1 (aG j).2).2).1⟩,(bA (ar 1 (aG j).2).2).2):=rfl;rw[ak]at R;clear aX eP au ak he f2 K I P V fin Gg g5 f3;cbv;refine uj q5 (λE nx fW Z H=>?_);have t6:cf [58] h5 E:=q5.lt Z (by decide);have l6:Le h E:=l5.aE (bs:=[p]) (by simpa using S) Z;rw[<-fW]at R;generalize aG j=R1 at *;obtain⟨bg,u⟩:=R1;have H:iv E p u:=H;cbv;refine mX H (λt kx KW k7 M=>?_);have t7:cf [58] E t:=H.lt k7 (by decide);have l7:Le h t:=l6.aE (bs:=[p]) (by simpa using S) k7;have R:∀h' N m' c',m'=U+1->Le h h'->iv h' p (bA (ar 1 u).2).2->aT 58 bt h h' (.slice N m' c') (o++[⟨nx,((ar 1 u).1:Int),(bA (ar 1 u).2).1⟩])->J (d-(i+1)) ((N,m',c'),A .aC .add .i64 zi 1) h':=R;have KW:kx=((ar 1 u).1:Int):=KW;rw[<-KW]at R;generalize ar 1 u=R2 at *;obtain⟨nk,T⟩:=R2;have M:iv t p T:=M;cbv;refine JY M (λF tx BK k8 q8=>?_);have t8:cf [58] t F:=M.lt k8 (by decide);have L:Le h F:=l7.aE (bs:=[p]) (by simpa using S) k8;have R:∀h' N m' c',m'=U+1->Le h h'->iv h' p (bA T).2->aT 58 bt h h' (.slice N m' c') (o++[⟨nx,kx,(bA T).1⟩])->J (d-(i+1)) ((N,m',c'),A .aC .add .i64 zi 1) h':=R;rw[<-BK]at R;generalize bA T=R3 at *;obtain⟨aw,s5⟩:=R3;have q8:iv F p s5:=q8;have b8:=b5.mono ((t6.trans t7).trans t8);cbv;intro n9 h9 BQ e9;have ai:Le F h9:=by rw[e9];exact Le.set BQ
    have q9:Sl 58 bt h9 (.slice (some ⟨n9,0,none⟩) 1 1) [⟨nx,kx,tx⟩]:=bC (s:=bt) ((congrFun e9 n9).trans ae) rfl;clear e9;cbv;refine(b8.mono (ai.t _)).append q9 (by decide) rfl (by decide) Re (L.trans ai) (λm8 an c8 lI aD pM bd NY aP=>?_);have uX:=(q8.le ai).mt (bd _ (by decide));have dt:=R lI an m8 c8 aD pM uX aP;clear R NY;cbv;refine⟨_,((an,m8,c8),A .aC .add .i64 zi 1),aI,by constructor<;>cbv,dt⟩
   rw[ag hs];have P:=Gg (fin (λr=>hs (Ff.2 r.2)));clear aX eP fin he f2 f3 Gg Ff g5;cbv;refine yj q5 (λE key QY Z H=>?_);have t6:cf [58] h5 E:=q5.lt Z (by decide);have l6:Le h E:=l5.aE (bs:=[p]) (by simpa using S) Z;rw[<-QY]at P;generalize ar 8 j=R1 at *;obtain⟨n8,u⟩:=R1;have H:iv E p u:=H;have P:dc l=if(bA u).2=some []/\dA ⟨f,o,key,(bA u).1⟩=0 then some ⟨f,o,key,(bA u).1⟩else none:=P
   cbv;refine JY H (λt only GN k7 M=>?_);have t7:cf [58] E t:=H.lt k7 (by decide);have l7:Le h t:=l6.aE (bs:=[p]) (by simpa using S) k7;rw[<-GN]at P;generalize bA u=R2 at *;obtain⟨aw,T⟩:=R2;have M:iv t p T:=M;have P:dc l=if T=some []/\dA ⟨f,o,key,only⟩=0 then some ⟨f,o,key,only⟩else none:=P
   have X:=(b5.mono (t6.trans t7)).sl;clear QY GN;cbv;refine pG M (λe vE=>?_);obtain⟨D,B⟩:∃D:Int->ab->Prop,∀e h',D e h'=(Le t h'/\(e=0->dc l=some ⟨f,o,key,only⟩)/\(e≠0->dc l=none)):=⟨_,λ_ _=>rfl⟩;have f4:A .az .eql e 0=decide (e=0):=aq A ..;cbv;refine jA.go (G:=Int) (λe=>[(9,.v (.int .i64 e))]) (λ_=>[(2,[.string ⟨#[]⟩,.slice none 0 0,.int .i64 0,.bool false]),(5,[.string f,.slice gb U gc,.int .i64 key,.bool only])]) D ?_ ?_
   .cbv;rw[f4];by_cases O:e=0
    .rw[aH O];have aj:=vE.1 O;have y:∀z h',z=dA ⟨f,o,key,only⟩->Le t h'->D z h':=λz h' Q l'=>by
      rw[B];exact⟨l',λr=>by rw[P,if_pos ⟨aj,by rw[<-Q,r]⟩],λr=>by rw[P,if_neg (λg=>r (by rw[Q];exact g.2))]⟩
     clear B P K I;cbv;refine(Bh X).mono (λv F hR=>?_);obtain⟨L,z,rfl,Q⟩:=hR;have y:=y z F Q L;clear Q;cbv;refine⟨z,by constructor<;>cbv,y⟩
    rw[ag O];have y:D e t:=by rw[B];exact⟨Le.refl _,λr=>absurd r O,λ_=>by rw[P,if_neg (λg=>O (vE.2 g.1))]⟩
    clear B P K I;cbv;refine⟨e,by constructor<;>cbv,y⟩
   intro z F y;rw[B]at y;cbv;obtain⟨L,d0,d1⟩:=y;have f5:A .az .neq z 0=decide (z≠0):=av A ..;rw[f5];by_cases W:z≠0
   .rw[aH W];have:=K (d1 W) F z (l7.trans L) W;clear K I B;cbv;exact this
   rw[ag W];have:=I ⟨f,o,key,only⟩ F gb U gc (d0 (by omega)) (l7.trans L) (X.mono (L.t _));clear K I B;cbv;exact this
  rw[ag V];have P:=Gg (fin (λr=>V r.1));clear aX eP fin he f2 Gg;cbv;refine yj q5 (λE key QY Z H=>?_);have t6:cf [58] h5 E:=q5.lt Z (by decide);have l6:Le h E:=l5.aE (bs:=[p]) (by simpa using S) Z;rw[<-QY]at P;generalize ar 8 j=R1 at *;obtain⟨n8,u⟩:=R1;have H:iv E p u:=H;have P:dc l=if(bA u).2=some []/\dA ⟨f,o,key,(bA u).1⟩=0 then some ⟨f,o,key,(bA u).1⟩else none:=P
  cbv;refine JY H (λt only GN k7 M=>?_);have t7:cf [58] E t:=H.lt k7 (by decide);have l7:Le h t:=l6.aE (bs:=[p]) (by simpa using S) k7;rw[<-GN]at P;generalize bA u=R2 at *;obtain⟨aw,T⟩:=R2;have M:iv t p T:=M;have P:dc l=if T=some []/\dA ⟨f,o,key,only⟩=0 then some ⟨f,o,key,only⟩else none:=P
  have X:=(b5.mono (t6.trans t7)).sl;clear QY GN;cbv;refine pG M (λe vE=>?_);obtain⟨D,B⟩:∃D:Int->ab->Prop,∀e h',D e h'=(Le t h'/\(e=0->dc l=some ⟨f,o,key,only⟩)/\(e≠0->dc l=none)):=⟨_,λ_ _=>rfl⟩;have f4:A .az .eql e 0=decide (e=0):=aq A ..;cbv;refine jA.go (G:=Int) (λe=>[(9,.v (.int .i64 e))]) (λ_=>[(2,[.string ⟨#[]⟩,.slice none 0 0,.int .i64 0,.bool false]),(5,[.string f,.slice gb U gc,.int .i64 key,.bool only])]) D ?_ ?_
  .cbv;rw[f4];by_cases O:e=0
   .rw[aH O];have aj:=vE.1 O;have y:∀z h',z=dA ⟨f,o,key,only⟩->Le t h'->D z h':=λz h' Q l'=>by
     rw[B];exact⟨l',λr=>by rw[P,if_pos ⟨aj,by rw[<-Q,r]⟩],λr=>by rw[P,if_neg (λg=>r (by rw[Q];exact g.2))]⟩
    clear B P K I;cbv;refine(Bh X).mono (λv F hR=>?_);obtain⟨L,z,rfl,Q⟩:=hR;have y:=y z F Q L;clear Q;cbv;refine⟨z,by constructor<;>cbv,y⟩
   rw[ag O];have y:D e t:=by rw[B];exact⟨Le.refl _,λr=>absurd r O,λ_=>by rw[P,if_neg (λg=>O (vE.2 g.1))]⟩
   clear B P K I;cbv;refine⟨e,by constructor<;>cbv,y⟩
  intro z F y;rw[B]at y;cbv;obtain⟨L,d0,d1⟩:=y;have f5:A .az .neq z 0=decide (z≠0):=av A ..;rw[f5];by_cases W:z≠0
  .rw[aH W];have:=K (d1 W) F z (l7.trans L) W;clear K I B;cbv;exact this
  rw[ag W];have:=I ⟨f,o,key,only⟩ F gb U gc (d0 (by omega)) (l7.trans L) (X.mono (L.t _));clear K I B;cbv;exact this
theorem NP(q:Sl 87 aZ h (.slice b n c) r)(hn:n<=2^16)
 (hk:∀h' v n' c',Le h h'->aT 5 bS h h' (.slice v n' c') (sN r)->(sN r).length<=2^34->k (.slice v n' c') h'):Ct 337 [.slice b n c] h k:=by
 obtain⟨A,hA⟩:=Ar.ex;have H:=q.len;have Z:A .nat n=(r.length:Int):=by rw[hA.nat,H];rfl
 obtain⟨d,lq⟩:∃d:Bs,d=[u8 (r.length:Int)]:=⟨_,rfl⟩;have ai:d.length=1:=by rw[lq];rfl
 have hS:sN r=d++(r.map jE).flatten:=by rw[lq];unfold sN;rw[List.flatMap_def];rfl
 rw[hS]at hk;clear hS;have GU:([]++[u8 (A .nat n)]:Bs)=d:=by rw[Z,lq];rfl
 obtain⟨J,X⟩:∃J:Nat->((Option Addr×Nat×Nat)×Int)->ab->Prop,∀w g h',J w g h'=(∃i:Nat,aM g.2 i/\w=n-i/\i<=n/\Le h h'/\aT 5 bS h h' (.slice g.1.1 g.1.2.1 g.1.2.2) (d++((r.take i).map jE).flatten)/\(d++((r.take i).map jE).flatten).length<=2^17*(i+1)):=⟨_,λ_ _ _=>rfl⟩;refine dH cXx A Tryz.func337 ?_;cbv;refine Fa (h0:=h) (l:=[]) aT.nil (Le.refl _) (by omega) _ (m':=1) rfl (λh1 b1 c1 k1 t1 q1=>?_);rw[GU]at q1;have Y:J n ((b1,1,c1),0) h1:=by rw[X];refine⟨0,⟨rfl⟩,rfl,by omega,k1,by simpa using q1,by simp;omega⟩
 clear GU q1 Z t1;cbv;refine aK.go (G:=(Option Addr×Nat×Nat)×Int) (λg=>[(3,.v (.slice g.1.1 g.1.2.1 g.1.2.2)),(4,.v (.int .i64 g.2))]) (λ_=>[]) (λw g h'=>J w g h') n ((b1,1,c1),0) (by constructor<;>cbv) Y ?_
 intro w g h2 hI;rw[X]at hI;cbv;obtain⟨⟨gb,R,gc⟩,z⟩:=g;obtain⟨i,f,hw,hi,k2,y,hL⟩:=hI;have f:aM z i:=f;have y:aT 5 bS h h2 (.slice gb R gc) (d++((r.take i).map jE).flatten):=y;have pW:=y.sl.len;have f1:A .az .lss z (A .nat n)=decide (i<n):=by rw[aJ A,f.eq,hA.nat];exact decide_eq_decide.2 (by show(i:Int)<(n:Int)↔_;omega)
 rw[f1];by_cases hc:i<n
 .rw[aH hc];obtain⟨x,hx⟩:=di r i;have W:=FA x;have ix:=f.ix hc;have I:b.isSome=true:=q.aR;have T:n-(i+1)<w:=by omega
  have F:∀v m' c' h',Le h h'->aT 5 bS h h' (.slice v m' c') ((d++((r.take i).map jE).flatten)++jE x)->J (n-(i+1)) ((v,m',c'),A .aC .add .i64 z 1) h':=λv m' c' h' l' q'=>by
   rw[X];have ha:(d++((r.take i).map jE).flatten)++jE x=d++((r.take (i+1)).map jE).flatten:=by rw[xx,hx];simp
   refine⟨i+1,f.succ (A:=A),rfl,by omega,l',?_,?_⟩
   .rw[<-ha];exact q'
   rw[<-ha,dr];omega
  have xw:(d++((r.take i).map jE).flatten).length<=2^34:=by omega
  have B:A .az .eql x.k 1=decide (x.k=1):=aq A ..;have C:A .az .eql x.k 2=decide (x.k=2):=aq A ..;have D:A .az .eql x.k 3=decide (x.k=3):=aq A ..;have V:jE x=u8 x.k::(if x.k=1 then [u8 x.n]else if x.k=2 then cC x.n else if x.k=3 then nF x.s else []):=rfl;have sq:=q.mono (k2.t _);clear f1 hL X Y W;generalize d++((r.take i).map jE).flatten=L at *;generalize jE x=vw at *;cbv;refine⟨⟨I,ix⟩,?_⟩;cbv;refine sq.ep hx f.eq (o:=0) (m:=1) (by decide) (λcs a=>?_);have a:cs=[.int .i64 x.k,.int .i64 x.n,.string x.s]:=a;subst a;cbv;refine Fa y k2 (by omega) x.k (m':=R+1) rfl (λh3 b3 c3 S t3 M=>?_);have Q:=sq.mono (t3 _ (by decide));obtain⟨s,QV⟩:∃s,s=R+1:=⟨_,rfl⟩;rw[<-QV]at M |-;clear sq;cbv;refine⟨⟨I,ix⟩,?_⟩;cbv;refine Q.ep hx f.eq (o:=0) (m:=1) (by decide) (λcs a=>?_);have a:cs=[.int .i64 x.k,.int .i64 x.n,.string x.s]:=a;subst a;cbv;rw[B];by_cases N:x.k=1
  .rw[if_pos N]at V;rw[aH N];clear B C D;cbv;refine⟨⟨I,ix⟩,?_⟩;cbv;refine Q.ep hx f.eq (o:=1) (m:=1) (by decide) (λcs a=>?_);have a:cs=[.int .i64 x.k,.int .i64 x.n,.string x.s]:=a;subst a;cbv;refine Fa M S (by omega) x.n (m':=s+1) rfl (λE j p K t4 u=>?_);obtain⟨e,U⟩:∃e,e=s+1:=⟨_,rfl⟩;rw[<-U]at u |-;have t:=F j e p E K (by rw[V];simpa using u);clear F;cbv;refine⟨_,((j,e,p),A .aC .add .i64 z 1),T,by constructor<;>cbv,t⟩
  rw[if_neg N]at V;rw[ag N];cbv;rw[C];by_cases O:x.k=2
  .rw[if_pos O]at V;rw[aH O];clear B C D;cbv;refine⟨⟨I,ix⟩,?_⟩;cbv;refine Q.ep hx f.eq (o:=1) (m:=1) (by decide) (λcs a=>?_);have a:cs=[.int .i64 x.k,.int .i64 x.n,.string x.s]:=a;subst a;cbv;refine tE M S (by omega) x.n (m':=s+8) rfl (λE j p K t4 u=>?_);obtain⟨e,U⟩:∃e,e=s+8:=⟨_,rfl⟩;rw[<-U]at u |-;have t:=F j e p E K (by rw[V];simpa using u);clear F;cbv;refine⟨_,((j,e,p),A .aC .add .i64 z 1),T,by constructor<;>cbv,t⟩
  rw[if_neg O]at V;rw[ag O];cbv;rw[D];by_cases P:x.k=3
  .rw[if_pos P]at V;rw[aH P];clear B C D;cbv;refine⟨⟨I,ix⟩,?_⟩;cbv;refine Q.ep hx f.eq (o:=2) (m:=1) (by decide) (λcs a=>?_);have a:cs=[.int .i64 x.k,.int .i64 x.n,.string x.s]:=a;subst a;cbv;refine JX M S (by omega) x.s (λe _ E j p K t4 u=>?_);have t:=F j e p E K (by rw[V];simpa using u);clear F;cbv;refine⟨_,((j,e,p),A .aC .add .i64 z 1),T,by constructor<;>cbv,t⟩
  rw[if_neg P]at V;rw[ag P];have t:=F b3 s c3 h3 S (by rw[V];exact M);clear B C D F;cbv;refine⟨_,((b3,s,c3),A .aC .add .i64 z 1),T,by constructor<;>cbv,t⟩
 rw[ag hc];have hi:i=n:=by omega
 rw[hO (by omega)]at y hL;have:=hk h2 gb R gc k2 y (by omega);clear hk X Y;cbv;exact this
theorem Th(C:aM z s){t:ByteArray}(q:Sl 87 aZ h (.slice b n c) r)(U:n<=2^16)
 (a:∀h' e n' c',Le h h'->Sl 5 bS h' (.slice e n' c') (Nx id s ⟨t,o,r⟩)->n'<=2^18->k (.slice e n' c') h'):
 Ct 291 [.int .i64 id,.int .i64 z,.agg #[.string t,.int .i64 o,.slice b n c]] h k:=by
 have g:Nx id s ⟨t,o,r⟩=cC id++cC z++[u8 o]++nF t++nF (strOf (sN r)):=by rw[C.eq];rfl
 have f:=Ss id s ⟨t,o,r⟩;rw[g]at a f;clear g;have vY:=mL t;refine cp cZb Tryz.func291 λA hA=>?_;cbv;refine tE (h0:=h) (l:=[]) aT.nil (Le.refl _) (by omega) id (m':=8) rfl (λy p w D t1 d=>?_);have d:aT 5 bS h y (.slice p 8 w) (cC id):=d;cbv;refine tE d D (by omega) z (m':=16) rfl (λh2 P X E t2 L=>?_);cbv;refine Fa L E (by omega) o (m':=17) rfl (λh3 R Y F t3 M=>?_);cbv;refine JX M F (by omega) t (λm4 T h4 S Z i t4 N=>?_);cbv;refine NP (q.mono (i.t _)) U (λh5 W m5 c5 j O J=>?_);have V:=N.mono (j.t _);obtain⟨v,H⟩:∃v,v=strOf (sN r):=⟨_,rfl⟩;rw[<-H]at a f;cbv;refine uP O.sl ?_;rw[<-H];cbv;refine JX V (i.trans j) (by omega) v (λI Q B u x G t6 m=>?_);have K:=m.sl.len;have:=a B u I x G m.sl (by omega);cbv;exact this
theorem LL(f:aM z s){t:ByteArray}(q:Sl 87 aZ h (.slice b n c) r)(U:n<=2^16)
 (a:∀h' g,Le h h'->hl g=aA (dy id s ⟨t,o,r⟩)->k (.agg (List.toArray (hl g))) h'):
 Ct 220 [.int .i64 id,.int .i64 z,.agg #[.string t,.int .i64 o,.slice b n c]] h k:=by
 have H:dy id s ⟨t,o,r⟩=vr (Nx id s ⟨t,o,r⟩):=rfl;rw[H]at a;clear H;refine cp cZZ Tryz.func220 λA v=>?_;cbv;refine Th f q U (λu m w p l j L=>?_);cbv;refine Tx j (by omega) (λd g i e=>?_);have:=a d g (l.trans i) e;cbv;exact this
theorem TA(q:Sl 228 bW h (.slice b n c) L)(hB:∀x∈L,x.row.length<=2^16)(hn:n<=2^30)
 (K:∀h' d n' c',Le h h'->Sl 104 iM h' (.slice d n' c') (dg id L)->k (.slice d n' c') h'):Ct 294 [.agg #[.int .i64 id,.slice b n c]] h k:=by
 have M:=q.len;have W:=uS id L;have u:∀ {i:Nat} {c:cW},L[i]? =some c->(dg id L)[i]? =some (dy id i c):=λh=>uT h;generalize dg id L=H at *;obtain⟨J,X⟩:∃J:Nat->((Option Addr×Nat×Nat)×Int)->ab->Prop,∀w g h',J w g h'=(∃i,aM g.2 i/\w=n-i/\i<=n/\Le h h'/\aT 104 iM h h' (.slice g.1.1 g.1.2.1 g.1.2.2) (H.take i)):=⟨_,λ_ _ _=>rfl⟩;have P:J n ((none,0,0),0) h:=by rw[X];exact⟨0,⟨rfl⟩,rfl,by omega,Le.refl _,aT.nil⟩
 refine cp cZa Tryz.func294 λA hA=>?_;cbv;refine aK.go (G:=(Option Addr×Nat×Nat)×Int) (λg=>[(3,.v (.slice g.1.1 g.1.2.1 g.1.2.2)),(4,.v (.int .i64 g.2))]) (λ_=>[(1,[.int .i64 id,.slice b n c])]) (λw g h'=>J w g h') n ((none,0,0),0) (by constructor<;>cbv) P ?_
 intro w g p I;rw[X]at I;cbv;obtain⟨⟨C,o,D⟩,z⟩:=g;obtain⟨i,a,hw,hi,t,e⟩:=I;have a:aM z i:=a;have e:aT 104 iM h p (.slice C o D) (H.take i):=e;have pW:=e.sl.len;rw[dW]at pW;have B:A .az .lss z (A .nat n)=decide (i<n):=by rw[aJ A,a.eq,hA.nat];exact decide_eq_decide.2 (by show(i:Int)<(n:Int)↔_;omega)
 rw[B];by_cases j:i<n
 .rw[aH j];obtain⟨x,hx⟩:=di L i;have f:=hB x (kF hx);have ix:=a.ix j;have jB:b.isSome=true:=q.aR;have T:n-(i+1)<w:=by omega
  have R:=Cs (u hx);have F:∀d m' c' h',Le h h'->aT 104 iM h h' (.slice d m' c') (H.take i++[dy id i x])->J (n-(i+1)) ((d,m',c'),A .aC .add .i64 z 1) h':=λd m' c' h' l' q'=>by
   rw[X];exact⟨i+1,a.succ (A:=A),rfl,j,l',by rw[R];exact q'⟩
  have lS:o+1<=2^39:=by omega
  have oz:(dy id i x).length=32:=iW _;clear B X P R u;generalize H.take i=Lc at *;obtain⟨tb,op,r⟩:=x;cbv;refine⟨⟨jB,ix⟩,?_⟩;cbv;refine(q.mono (t.t _)).load hx a.eq (λcs V=>?_);obtain⟨rb,rn,rc,rfl,l⟩:=V;have l:Sl 87 aZ p (.slice rb rn rc) r:=l;have Uc:=l.len;have f:r.length<=2^16:=f;cbv;refine LL a l (by omega) (λZ g N hg=>?_);generalize dy id i ⟨tb,op,r⟩=RH at *;cbv;intro n4 E S m;have O:Le Z E:=by rw[m];exact Le.set S
  have q4:=bC (s:=iM) (cs:=hl g) ((congrFun m n4).trans ae) (IA (h:=E) hg oz);clear m;cbv;refine(e.mono ((N.trans O).t _)).append q4 (by decide) rfl (by decide) lS ((t.trans N).trans O) (λQ v y h5 U l5 t5 k5 q5=>?_);have Y:=F v Q y h5 l5 q5;clear F k5;cbv;refine⟨_,((v,Q,y),A .aC .add .i64 z 1),T,by constructor<;>cbv,Y⟩
 rw[ag j];rw[hO (by omega)]at e;have:=K p C o D t e.sl;clear X P u K;cbv;exact this
theorem HM(q:Sl 228 bW h (.slice b n c) L)(e:∀x∈L,x.row.length<=2^16)(i:n<=2^30)
 (a:∀h' g,Le h h'->hl g=aA (fN id L)->(fN id L).length=32->k (.agg (List.toArray (hl g))) h'):Ct 222 [.agg #[.int .i64 id,.slice b n c]] h k:=by
 have B:fN id L=eO (dg id L):=rfl;rw[B]at a;clear B;refine cp cZX Tryz.func222 λA s=>?_;cbv;refine TA q e i (λr o u p l m=>?_);generalize dg id L=H at *;cbv;refine Tr _ m (mr _) (λd g j f t=>?_);have:=a d g (l.trans j) f t;cbv;exact this
theorem Ka{m:Int}{g:Nat->Int}{x:Bs}(s:hl g=aA x)(hx:x.length=32)
 (t:∀h' b n' c',Le h h'->Sl 5 bS h' (.slice b n' c') (cC id++cC m++x)->n'<=100->k (.slice b n' c') h'):
 Ct 295 [.int .i64 id,.int .i64 m,.agg (List.toArray (hl g))] h k:=by
 refine cp cXZ Tryz.func295 λA G=>?_;cbv;intro n a L e1;have w:Le h a:=by rw[e1];exact Le.set L
 have j:a n=some (.cells (List.toArray (hl g)) 104 (0,0)):=(congrFun e1 n).trans ae;clear e1;cbv;refine tE (h0:=a) (l:=[]) aT.nil (Le.refl _) (by omega) id (m':=8) rfl (λp d f u H q=>?_);have q:aT 5 bS a p (.slice d 8 f) (cC id):=q;cbv;refine tE q u (by omega) m (m':=16) rfl (λF D E c I B=>?_);have o:=c _ _ j;cbv;refine B.app (so o s hx) (by decide) rfl (by decide) (by decide) c (λz e i r T y J v C=>?_);have:=t r e z i (w.trans y) C.sl (by omega);clear v;cbv;exact this
theorem NR(q:Sl 228 bW h (.slice b n c) L)(B:∀x∈L,x.row.length<=2^16)(j:n<=2^30)
 (a:∀h' g,Le h h'->hl g=aA (eF id L)->k (.agg (List.toArray (hl g))) h'):Ct 223 [.agg #[.int .i64 id,.slice b n c]] h k:=by
 obtain⟨A,f⟩:=Ar.ex;have l:=q.len;have E:eF id L=vr (cC id++cC (A .nat n)++fN id L):=by rw[f.nat,l];rfl
 rw[E]at a;clear E;refine dH cZW A Tryz.func223 ?_;cbv;refine HM q B j (λw g m i t=>?_);generalize fN id L=R at *;cbv;refine Ka i t (λy s z u o r v=>?_);cbv;refine Tx r (by omega) (λe d p K=>?_);have:=a e d ((m.trans o).trans p) K;cbv;exact this
theorem Ke{n:Int}{b c:Nat->Int}{p r:Bs}(E:hl b=aA p)(F:hl c=aA r)(Y:p.length=32)(M:r.length=32)
 (f:∀h' d n' c',Le h h'->Sl 5 bS h' (.slice d n' c') (SB ⟨n,p,r,i⟩)->n'<=200->k (.slice d n' c') h'):Ct 299 [.agg (List.toArray (Xt n b c i))] h k:=by
 have W:SB ⟨n,p,r,i⟩=cC n++p++r++cC i:=rfl;rw[W]at f;clear W;refine cp cXV Tryz.func299 λA hA=>?_;cbv;intro t a L e1;have J:Le h a:=by rw[e1];exact Le.set L
 have g:a t=some (.cells (List.toArray (Xt n b c i)) 384 (0,0)):=(congrFun e1 t).trans ae;clear e1;cbv;rw[ao A];refine bc g ?_;cbv;refine tE (h0:=a) (l:=[]) aT.nil (Le.refl _) (by omega) n (m':=8) rfl (λC u w j t2 q=>?_);have q:aT 5 bS a C (.slice u 8 w) (cC n):=q;have z:=j _ _ g;cbv;rw[ao A];refine q.app (yM (o:=1) (x:=p) z (by rw[Bi,<-E];rfl) Y) (by decide) rfl (by decide) (by decide) j (λm3 R U X Q m t3 G N=>?_);have e:=m _ _ g;clear G;cbv;rw[ao A];try rw[ao A]
 refine bc e ?_;cbv;refine N.app (yM (o:=33) (x:=r) e (by rw[Bi,<-F];rfl) M) (by decide) rfl (by decide) (by omega) m (λK S V Z T s t4 H O=>?_);have B:=s _ _ g;clear H;cbv
 (try rw[ao A])
 refine bc B ?_;cbv;refine⟨⟨_,rfl,rfl⟩,?_⟩;cbv;refine tE O s (by omega) i (m':=K+8) rfl (λD v y I t5 P=>?_);have:=f D v _ y (J.trans I) P.sl (by omega);cbv;exact this
theorem TB{n:Int}{a b:Nat->Int}{p r:Bs}(f:hl a=aA p)(j:hl b=aA r)(w:p.length=32)(o:r.length=32)
 (c:∀h' g,Le h h'->hl g=aA (eK ⟨n,p,r,i⟩)->k (.agg (List.toArray (hl g))) h'):Ct 225 [.agg (List.toArray (Xt n a b i))] h k:=by
 have H:eK ⟨n,p,r,i⟩=Mg (SB ⟨n,p,r,i⟩):=rfl;rw[H]at c;clear H;refine cp cZV Tryz.func225 λA v=>?_;cbv;refine Ke f j w o (λu s x t l q L=>?_);cbv;refine HJ q (by omega) (λd g m e=>?_);have:=c d g (l.trans m) e;cbv;exact this
end Go.S
