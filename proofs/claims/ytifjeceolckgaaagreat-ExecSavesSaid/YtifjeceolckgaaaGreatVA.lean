import Derived.Test.YtifjeceolckgaaaGreatUA
import Derived.Test.YtifjeceolckgaaaGreatEC
set_option linter.all false
set_option maxRecDepth 100000
set_option maxHeartbeats 8000000
namespace Go.S
open Go.Sx Go.Proofs
variable {A:Ar}{a op z:Int}{o r:List (ByteArray×Int)}{d i m n p:Nat}{b:Option Addr}{q s:PS}{c:UInt8}{k:Value->ad->Prop}{h h':ad}
def DQ:Sh Wd where
 n:=3
 R _ cs v:=cs=[.int .i64 v.k,.int .i64 v.n,.string v.s]
 len:=by rintro h cs x rfl;rfl
 one:=by rintro h cs x rfl;rfl
 tys:=[]
 mono:=λ_ q=>q
def fx:Sh Nd where
 n:=7
 R _ cs v:=cs=[.int .i64 v.op,.int .i64 v.a,.int .i64 v.b,.int .i64 v.v.k,.int .i64 v.v.n,.string v.v.s,.string v.name]
 len:=by rintro h cs x rfl;rfl
 one:=by rintro h cs x rfl;rfl
 tys:=[]
 mono:=λ_ q=>q
abbrev dQW:Wd:=⟨0,0,b0⟩
def JK(ws:List Wd):Prop:=∃l,ws=l++[dQW]
theorem JK.ne{s:List Wd}(h:JK s):∃w r,s=w::r:=by
 obtain⟨l,rfl⟩:=h;cases l with
 |nil=>exact⟨_,_,rfl⟩
 |cons a l=>exact⟨_,_,rfl⟩
theorem JK.tail{w:Wd}{r:List Wd}(h:JK (w::r))(k:w.k≠0):JK r:=by
 obtain⟨l,h⟩:=h;cases l with
 |nil=>cases h;exact absurd rfl k
 |cons a l=>cases h;exact⟨l,rfl⟩
structure lP(lv:Bool)(base h:ad)(pb:Nat)(s:PS):Prop where
 out:∃wb wn wc eb en ec at_ i all,h pb=some (.cells #[.slice wb wn wc,.int .i64 at_,.int .i64 s.err,.slice eb en ec] 102 (0,0))/\Sl 105 DQ base (.slice wb wn wc) all/\aS at_ i/\all.drop i=s.ws/\JK s.ws/\all.length<=700/\(lv=true->cF 317 fx base h (.slice eb en ec) s.e/\s.e.length<=60)/\Le base h/\base pb=none
theorem lP.le{base:ad}{l:Bool}(q:lP l base h p s):Le base h:=by obtain⟨_,_,_,_,_,_,_,_,_,_,_,_,_,_,_,_,q,_⟩:=q.out;exact q
theorem lP.dQS{base:ad}{l:Bool}(q:lP l base h p s):JK s.ws:=by obtain⟨_,_,_,_,_,_,_,_,_,_,_,_,_,q,_⟩:=q.out;exact q
theorem lP.mono{base:ad}{v:Bool}(q:lP v base h p s)(l:Le h h'):lP v base h' p s:=by obtain⟨w,t,r,b,n,c,at_,i,all,a,d,f,j,k,m,g,o,C⟩:=q.out;exact⟨w,t,r,b,n,c,at_,i,all,l _ _ a,d,f,j,k,m,λe=>⟨(g e).1.mono (l.t _),(g e).2⟩,o.trans l,C⟩
theorem _root_.Go.Sx.cF.dXT{d:Type}{e:Nat}{s:Sh d}{h0 b:ad}{v:Value}{xs:List d}(q:cF e s h0 h v xs)(i:∀j c cap,v=.slice (some ⟨j,0,none⟩) c cap->h0 j=none->h j≠none->b j=none):cF e s b h v xs:=by
 rcases q.out with g| ⟨n,cap,a,f,o⟩
 .exact⟨.inl g⟩
 exact⟨.inr ⟨n,cap,a,i n _ _ a f o.has,o⟩⟩
theorem lP.add{base:ad}{v:Bool}(q:lP v base h p s){o:Obj}(d:h n=none):lP v (bU base n o) (bU h n o) p s:=by
 obtain⟨F,H,G,r,u,t,at_,i,all,g,w,y,z,A,B,f,k,C⟩:=q.out;have m:p≠n:=λe=>by rw[e,d]at g;cases g
 have E:Le base (bU base n o):=Le.set (k.none d);have l:Le h (bU h n o):=Le.set d;refine⟨F,H,G,r,u,t,at_,i,all,l _ _ g,w.mono (E.t _),y,z,A,B,λe=>⟨((f e).1.dXT (λj c cap _ h0 D=>?_)).mono (l.t _),(f e).2⟩,λb x a=>?_,?_⟩
 .have:j≠n:=λe=>D (by rw[e];exact d);rw[aO this];exact h0
 .by_cases e:b=n
  .rw[e,ae]at a;rw[e,ae];exact a
  rw[aO e]at a |-;exact k b x a
 rw[aO m];exact C
theorem lP.drop{base:ad}{v:Bool}{o:Obj}(q:lP v (bU base n o) h p s)(B:base n=none)(E:∀e c fr,o=.cells c e fr->e≠105):lP v base h p s:=by
 obtain⟨F,H,G,j,m,k,at_,i,all,r,t,u,w,x,y,g,z,C⟩:=q.out;have l:Le base (bU base n o):=Le.set B;have f:p≠n:=λe=>by rw[e,ae]at C;cases C
 have D:bR (105::DQ.tys) (bU base n o) base:=λb c e fr A a=>by
  by_cases d:b=n
  .rw[d,ae]at a;cases a;exact absurd (by simpa[DQ]using A) (E _ _ _ rfl)
  rw[aO d]at a;exact a
 exact⟨F,H,G,j,m,k,at_,i,all,r,t.mono D,u,w,x,y,λe=>⟨(g e).1.base l,(g e).2⟩,l.trans z,by rw[aO f]at C;exact C⟩
theorem lP.put{base:ad}{v:Bool}{f:PS}(q:lP v base h p s){o:Obj}(e:h'=bU h p o)
 (H:∀w j g a n d at_ i (all:List Wd),h p=some (.cells #[.slice w j g,.int .i64 at_,.int .i64 s.err,.slice a n d] 102 (0,0))->aS at_ i->all.drop i=s.ws->all.length<=700->∃c k,o=.cells #[.slice w j g,.int .i64 c,.int .i64 f.err,.slice a n d] 102 (0,0)/\aS c k/\all.drop k=f.ws)
 (I:JK f.ws) (G:v=true->f.e=s.e):lP v base h' p f:=by
 obtain⟨w,j,g,a,n,d,at_,i,all,r,z,A,B,J,t,u,D,C⟩:=q.out;obtain⟨c,k,rfl,E,F⟩:=H w j g a n d at_ i all r A B t;subst e;refine⟨w,j,g,a,n,d,c,k,all,ae,z,E,F,I,t,λm=>?_,λb x l=>?_,C⟩
 .rw[G m];exact⟨(u m).1.mono (bR.set r (by decide)),(u m).2⟩
 have y:b≠p:=λe=>by rw[e,C]at l;cases l
 rw[aO y];exact D b x l
theorem Gb(A:Ar)[c:bM A](a b:ByteArray):A .iQ .neq a b=decide (a≠b):=by have h:=cS A a b;rw[c.iQ]at h |-;show(!(a.toList==b.toList))=_;have h:(a.toList==b.toList)=decide (a=b):=h;rw[h];by_cases e:a=b<;>simp[e]
theorem Ld{base:ad}{v:Bool}(b:lP v base h p s)(e:Int)(m:∀h',lP v base h' p (s.fail e)->k (.tuple #[]) h'):
 Ct 33 [.pointer (some ⟨p,0,none⟩),.int .i64 e] h k:=by
 obtain⟨A,C⟩:=Ar.ex;obtain⟨E,r,ex⟩:=s;obtain⟨w,q,o,d,n,j,at_,i,all,g,-⟩:=b.out;have g:h p=some (.cells #[.slice w q o,.int .i64 at_,.int .i64 r,.slice d n j] 102 (0,0)):=g;have t:A .aI .eql r 0=decide (r=0):=aA A ..;refine mQF jKO A Tryz.func33 ?_;cbv;rw[ai A];refine mQw g ?_;cbv;rw[t];by_cases a:r=0
 .have f:=λh' (c:h'=bU h p (.cells #[.slice w q o,.int .i64 at_,.int .i64 e,.slice d n j] 102 (0,0)))=>m h' (by
   refine b.put c (λH X G y J x Z u K l z B D=>?_) ?_ ?_
   .rw[g]at l;cases l;refine⟨at_,u,?_,z,?_⟩
    .simp[PS.fail,a]
    simp only[PS.fail];rw[if_pos a];exact B
   .simp only[PS.fail];rw[if_pos a];exact b.dQS
   intro _;simp only[PS.fail];rw[if_pos a])
  rw[mQu a];cbv;rw[ai A];refine ja g (by simp) (λh' c=>?_);cbv;exact f h' c
 have f:=m h (by simp only[PS.fail];rw[if_neg a];exact b);rw[mQv a];cbv;exact f
structure Av(s:ByteArray)(i:Nat)(t:By):Prop where
 le:i<=s.size
 eq:s.data.toList.drop i=t
theorem Av.len{s:ByteArray}{t:By}(q:Av s i t):i+t.length=s.size:=by
 have h:s.size=s.data.toList.length:=by rw[mZJ];rfl
 have:=q.le;rw[<-q.eq,mXg];omega
theorem Av.start(s:ByteArray):Av s 0 s.data.toList:=⟨mQC _,rfl⟩
theorem Av.next{s:ByteArray}{r:By}(q:Av s i (c::r)):Av s (i+1) r:=by have h:=q.len;rw[mQM]at h;exact⟨by omega,by rw[<-mZB,q.eq];rfl⟩
theorem Av.dQe{s:ByteArray}{t:By}(q:Av s i t)(a:n<=t.length):Av s (i+n) (t.drop n):=by have h:=q.len;exact⟨by omega,by rw[<-mZB,q.eq]⟩
theorem Av.byte[b:bM A]{s:ByteArray}{r:By}(q:Av s i (c::r))(d:aS z i):A .byte s z=(c.toNat:Int):=by
 rw[b.byte];have e:z.toNat=i:=by have:=d.eq;omega
 have h:s.data.toList[i]? =some c:=by have:=congrArg (λl=>l[0]?) q.eq;simpa using this
 have a:s.data[i]? =some c:=by rw[<-h];exact(mZj ..).symm
 simp only[e,mXx,a,mXW]
theorem Av.sub[b:bM A]{s:ByteArray}{t:By}(q:Av s i t){w:Int}(d:aS z i)(c:aS w (i+n)):A .sub s z w=aM (t.take n):=by
 rw[b.sub];have e:z.toNat=i:=by have:=d.eq;omega
 have a:w.toNat=i+n:=by have:=c.eq;omega
 simp only[e,a];show s.extract i (i+n)=ByteArray.mk (t.take n).toArray;have h:(s.extract i (i+n)).data=(t.take n).toArray:=by rw[nQL];apply Array.ext';rw[nQo,<-q.eq];simp[List.extract]
 exact ByteArray.ext h
theorem VO{b:Int}(a:b=(c.toNat:Int))(d:k (.bool (isLet c)) h):Ct 186 [.int .u8 b] h k:=by
 obtain⟨A,g⟩:=Ar.ex;have f:A .aI .geq b 97=decide (97<=c.toNat):=by rw[cf A,decide_eq_decide,a];omega
 have e:A .aI .leq b 122=decide (c.toNat<=122):=by rw[vM A,decide_eq_decide,a];omega
 unfold isLet at d;clear a;generalize decide (97<=c.toNat)=u at *;generalize decide (c.toNat<=122)=i at *;refine mQF gXf A Tryz.func186 ?_;cbv;rw[f];cases u with
 |false=>cbv;exact d
 |true=>cbv;rw[e];exact d
theorem Uz{b:Int}(a:b=(c.toNat:Int))(d:k (.bool (fq c)) h):Ct 188 [.int .u8 b] h k:=by
 obtain⟨A,g⟩:=Ar.ex;have f:A .aI .geq b 48=decide (48<=c.toNat):=by rw[cf A,decide_eq_decide,a];omega
 have e:A .aI .leq b 57=decide (c.toNat<=57):=by rw[vM A,decide_eq_decide,a];omega
 unfold fq at d;clear a;generalize decide (48<=c.toNat)=u at *;generalize decide (c.toNat<=57)=i at *;refine mQF gXd A Tryz.func188 ?_;cbv;rw[f];cases u with
 |false=>cbv;exact d
 |true=>cbv;rw[e];exact d
theorem HA:∀t:By,eU t<=t.length
 | []=>mQD _
 |c::r=>by
  unfold eU;have:=HA r;cases uN c with
  |true=>simp only[mQM];omega
  |false=>simp
theorem bKE{s:ByteArray}(S:s.size<=600){t:By}(q:Av s i t)(N:aS z i)(x:∀C,aS C (i+eU t)->k (.int .i64 C) h):
 Ct 187 [.string s,.int .i64 z] h k:=by
 obtain⟨A,L⟩:=Ar.ex;have D:aS (A .jO s) s.size:=⟨by rw[L.jO]⟩;obtain⟨I,f⟩:∃I:Nat->Int->ad->Prop,∀m g h',I m g h'=∃j a,aS g j/\Av s j a/\m=a.length/\j+eU a=i+eU t/\h'=h:=⟨_,λ_ _ _=>rfl⟩;have v:I t.length z h:=by rw[f];exact⟨i,t,N,q,rfl,rfl,rfl⟩
 refine mQF gXe A Tryz.func187 ?_;cbv;refine aX.go (G:=Int) (λg=>[(1,.v (.int .i64 g))]) (λ_=>[]) (λm g h'=>I m g h') t.length z (by constructor<;>cbv) v ?_
 intro m g h' u;rw[f]at u;cbv;obtain⟨j,a,d,p,B,n,rfl⟩:=u;have R:=p.len;have F:A .aI .lss g (A .jO s)=decide (j<s.size):=d.iJ D;have o:a=[]\/(∃c r,a=c::r/\uN c=false)->eU a=0:=by
  rintro(rfl| ⟨c,r,rfl,M⟩)
  .rfl
  unfold eU;rw[M]
 have fin:eU a=0->k (.int .i64 g) h':=λe=>x g (by rw[<-n,e];exact d);rw[F];cases a with
 |nil=>
  have P:¬j<s.size:=by have:([]:By).length=0:=rfl;omega
  have E:=fin (o (.inl rfl));rw[mQv P];cbv;exact E
 |cons c r=>
  have P:j<s.size:=by have:(c::r).length=r.length+1:=rfl;omega
  have J:0<=g/\g<(s.size:Int):=d.ix P;obtain⟨b,l⟩:∃b,A .byte s g=b:=⟨_,rfl⟩;have y:b=(c.toNat:Int):=by rw[<-l];exact p.byte d
  have H:A .aI .eql b 95=decide (c.toNat=95):=by rw[aA A,decide_eq_decide,y];omega
  have Z:=d.succ (A:=A);have Y:uN c=true->I r.length (A .bB .add .i64 g 1) h':=λe=>by
   rw[f];refine⟨j+1,r,Z,p.next,rfl,?_,rfl⟩;rw[<-n];have:eU (c::r)=eU r+1:=by show(match uN c with|true=>eU r+1|false=>0)=_;rw[e]
   omega
  have K:uN c=false->k (.int .i64 g) h':=λe=>fin (o (.inr ⟨c,r,rfl,e⟩));have V:r.length<m:=by rw[B];exact mZH _
  have w:uN c=(isLet c||fq c||decide (c.toNat=95)):=rfl;rw[mQu P];clear o fin n B f v x;cbv;refine⟨J,?_⟩;cbv;rw[l];refine VO y ?_;generalize isLet c=O at *;cases O with
  |true=>
   have Y:=Y (by rw[w];simp);cbv;refine⟨r.length,_,V,by constructor<;>cbv,Y⟩
  |false=>
   cbv;refine⟨J,?_⟩;cbv;rw[l];refine Uz y ?_;generalize fq c=Q at *;cases Q with
   |true=>
    have Y:=Y (by rw[w];simp);cbv;refine⟨r.length,_,V,by constructor<;>cbv,Y⟩
   |false=>
    cbv;refine⟨J,?_⟩;cbv;rw[l,H];generalize decide (c.toNat=95)=u3 at *;cases u3 with
    |true=>
     have Y:=Y (by rw[w];simp);cbv;refine⟨r.length,_,V,by constructor<;>cbv,Y⟩
    |false=>have K:=K (by rw[w];simp);cbv;exact K
theorem tI(A:Ar)[c:bM A](a b:Int)(h:-9223372036854775808<=a+b/\a+b<=9223372036854775807):A .bB .add .i64 a b=a+b:=by rw[c.bB];exact IntWalk.i64_in _ h
theorem zK(A:Ar)[c:bM A](a b:Int)(h:-9223372036854775808<=a-b/\a-b<=9223372036854775807):A .bB .sub .i64 a b=a-b:=by rw[c.bB];exact IntWalk.i64_in _ h
theorem cZB(A:Ar)[c:bM A](a b:Int)(h:-9223372036854775808<=a*b/\a*b<=9223372036854775807):A .bB .mul .i64 a b=a*b:=by rw[c.bB];exact IntWalk.i64_in _ h
theorem cZA(A:Ar)[c:bM A](a b:Int)(h:-9223372036854775808<=a.tdiv b/\a.tdiv b<=9223372036854775807):A .bB .quo .i64 a b=a.tdiv b:=by rw[c.bB];exact IntWalk.i64_in _ h
theorem dZA{s:ByteArray}(hs:s.size<=600){t:By}(q:Av s i t)(hz:aS z i)
 (U:∀v z' e rest,nG t 0=((v,rest),e)->(e=0->∃j,aS z' j/\Av s j rest)->k (.tuple #[.int .i64 v,.int .i64 z',.int .i64 e]) h):
 Ct 189 [.string s,.int .i64 z] h k:=by
 obtain⟨A,H⟩:=Ar.ex;have Cv:aS (A .jO s) s.size:=⟨by rw[H.jO]⟩;obtain⟨I,Y⟩:∃I:Nat->Int×Int->ad->Prop,∀m g h',I m g h'=∃j a,aS g.1 j/\Av s j a/\m=a.length/\nG a g.2=nG t 0/\0<=g.2/\g.2<=9223372036854775807/\h'=h:=⟨_,λ_ _ _=>rfl⟩;have S:I t.length (z,0) h:=by rw[Y];exact⟨i,t,hz,q,rfl,rfl,mZa _,by show(0:Int)<=9223372036854775807;decide,rfl⟩
 refine mQF gXc A Tryz.func189 ?_;cbv;refine aX.go (G:=Int×Int) (λg=>[(1,.v (.int .i64 g.1)),(7,.v (.int .i64 g.2))]) (λ_=>[]) (λm g h'=>I m g h') t.length (z,0) (by constructor<;>cbv) S ?_
 intro m g h' R;rw[Y]at R;cbv;obtain⟨j,a,l,y,V,f,nf,lG,rfl⟩:=R;obtain⟨z,n⟩:=g;have l:aS z j:=l;have f:nG a n=nG t 0:=f;have nf:0<=n:=nf;have lG:n<=9223372036854775807:=lG;have hl:=y.len;have f1:A .aI .lss z (A .jO s)=decide (j<s.size):=l.iJ Cv;have o:nG a n=((n,a),0)->k (.tuple #[.int .i64 n,.int .i64 z,.int .i64 0]) h':=λe=>U n z 0 a (by rw[<-f,e]) (λ_=>⟨j,l,y⟩);rw[f1];cases a with
 |nil=>
  have P:¬j<s.size:=by have:([]:By).length=0:=rfl;omega
  have D:=o rfl;rw[mQv P];cbv;exact D
 |cons c r=>
  have P:j<s.size:=by have:(c::r).length=r.length+1:=rfl;omega
  have J:0<=z/\z<(s.size:Int):=l.ix P;obtain⟨b,x⟩:∃b,A .byte s z=b:=⟨_,rfl⟩;have yW:b=(c.toNat:Int):=by rw[<-x];exact y.byte l
  have cZ:=l.succ (A:=A);have iV:r.length<m:=by rw[V];exact mZH _
  have K:fq c=false->k (.tuple #[.int .i64 n,.int .i64 z,.int .i64 0]) h':=λe=>o (by show(match fq c with|true=>_|false=>_)=_;rw[e]);have hq:=y.next;obtain⟨d,hd⟩:∃d:Int,d=(c.toNat:Int)-48:=⟨_,rfl⟩;have W:fq c=true->0<=d/\d<=9/\nG (c::r) n=if n>(9223372036854775807-d) / 10 then((0,[]),11)else nG r (10*n+d):=λe=>by
   have L:=e;unfold fq at L;simp only[mQQ,mQR]at L;refine⟨by omega,by omega,?_⟩;rw[hd];show(match fq c with|true=>_|false=>_)=_;rw[e]
  rw[mQu P];clear o V S;cbv;refine⟨J,?_⟩;cbv;rw[x];refine Uz yW ?_;generalize fq c=u1 at *;cases u1 with
  |false=>have K:=K rfl;cbv;exact K
  |true=>
   obtain⟨ab,YZ,F⟩:=W rfl;have M:A .bB .sub .u8 b 48=d:=by rw[H.bB,hd,yW];exact IntWalk.u8_in _ (by omega)
   have N:A .conv .i64 d=d:=by rw[H.conv];exact IntWalk.i64_in _ (by omega)
   obtain⟨C,E⟩:∃w:Int,9223372036854775807-d=w:=⟨_,rfl⟩;obtain⟨p,B⟩:∃w:Int,C / 10=w:=⟨_,rfl⟩;have O:A .bB .sub .i64 9223372036854775807 d=C:=by rw[<-E];exact zK A _ _ (by omega)
   have T:C.tdiv 10=p:=by rw[<-B];exact mKx (by omega)
   have Q:A .bB .quo .i64 C 10=p:=by rw[cZA A _ _ (by rw[T];omega),T]
   have u:A .aI .gtr n p=decide (n>p):=bO A ..;rw[E,B]at F;rw[F]at f;clear hd F W K;have X:(10:Int)≠0:=by decide
   by_cases Z:n>p
   .rw[if_pos Z]at f;have D:=U 0 0 11 [] f.symm (λh=>absurd h (by decide));rw[mQu Z]at u;clear Y E B;cbv;refine⟨J,?_⟩;cbv;rw[x,M,N];cbv;rw[O];refine⟨X,?_⟩;cbv;rw[Q,u];cbv;exact D
   rw[if_neg Z]at f;have f8:A .bB .mul .i64 10 n=10*n:=cZB A _ _ (by omega);have f9:A .bB .add .i64 (10*n) d=10*n+d:=tI A _ _ (by omega);have cD:I r.length (A .bB .add .i64 z 1,A .bB .add .i64 (A .bB .mul .i64 10 n) d) h':=by rw[Y,f8,f9];exact⟨j+1,r,cZ,hq,rfl,f,by show 0<=10*n+d;omega,by show 10*n+d<=_;omega,rfl⟩
   rw[mQv Z]at u;clear Y E B;cbv;refine⟨J,?_⟩;cbv;rw[x,M,N];cbv;rw[O];refine⟨X,?_⟩;cbv;rw[Q,u];cbv;refine⟨r.length,(_,_),iV,by constructor<;>cbv,cD⟩
theorem lP.elim{base:ad}{v:Bool}(q:lP v base h p s){C:Prop}(f:∀b n d e a c at_ i (all:List Wd) w r,h p=some (.cells #[.slice b n d,.int .i64 at_,.int .i64 s.err,.slice e a c] 102 (0,0))->Sl 105 DQ h (.slice b n d) all->aS at_ i->all[i]? =some w->s.ws=w::r->all.drop (i+1)=r->i<n->n<=700->(v=true->cF 317 fx base h (.slice e a c) s.e/\s.e.length<=60)->C):C:=by
 obtain⟨b,n,d,e,a,c,at_,i,all,o,j,t,k,u,A,x,y,O⟩:=q.out;obtain⟨w,r,g⟩:=u.ne;have m:all[i]? =some w:=by have:=congrArg (λl=>l[0]?) k;rw[g]at this;simpa using this
 have z:all.drop (i+1)=r:=by rw[<-mZB,k,g];rfl
 have D:=j.len;have B:=(mQB.1 m).1;exact f b n d e a c at_ i all w r o (j.mono (y.t _)) t m g z (by omega) (by omega) x
theorem lP.step{base:ad}{v:Bool}(q:lP v base h p s){w:Wd}{r:List Wd}(j:s.ws=w::r)(x:w.k≠0){m:Option Addr}{t o:Nat}{at_ c:Int}(g:h p=some (.cells #[.slice m t o,.int .i64 at_,.int .i64 a,.slice b n d] 102 (0,0)))
 (z:aS at_ i) (k:aS c (i+1)) (e:h'=bU h p (.cells #[.slice m t o,.int .i64 c,.int .i64 a,.slice b n d] 102 (0,0))):lP v base h' p { s with ws:=r }:=by
 refine q.put e (λH X G B y A J l K f C D E=>?_) ?_ (λ_=>rfl)
 .rw[g]at f;cases f;have u:l=i:=by have:=z.eq;have:=C.eq;omega
  subst u;exact⟨c,l+1,rfl,k,by rw[<-mZB,D,j];rfl⟩
 have:=q.dQS;rw[j]at this;exact this.tail x
theorem Ry{base:ad}{G:Bool}(q:lP G base h p s)(b:ByteArray)
 (o:∀h' t j,s.is b=(t,j)->lP G base h' p j->(t=true->j.ws.length<s.ws.length)->(t=false->j=s/\h'=h)->k (.bool t) h'):
 Ct 90 [.pointer (some ⟨p,0,none⟩),.string b] h k:=by
 obtain⟨A,X⟩:=Ar.ex;obtain⟨J,a,ex⟩:=s;refine q.elim (λu x I B D C at_ i all w r g H z V l Y U Z qe=>?_);have g:h p=some (.cells #[.slice u x I,.int .i64 at_,.int .i64 a,.slice B D C] 102 (0,0)):=g;have l:J=w::r:=l;have L:u.isSome=true/\0<=at_/\at_<(x:Int):=⟨H.aT,z.ix U⟩;have N:=z.eq;have O:=z.succ (A:=A);obtain⟨wk,W,S⟩:=w;have P:A .aI .neq a 0=decide (a≠0):=aC A ..;have Q:A .aI .neq wk 1=decide (wk≠1):=aC A ..;have R:A .aI .neq wk 4=decide (wk≠4):=aC A ..;have E:A .iQ .neq S b=decide (S≠b):=Gb A ..;have K:(a≠0\/(wk≠1/\wk≠4)\/S≠b)->k (.bool false) h:=λT=>by
  refine o h false _ ?_ q (λe=>by cases e) (λ_=>⟨rfl,rfl⟩);subst l;show(if a=0/\(wk=1\/wk=4)/\S=b then _ else _)=_;rw[if_neg];rintro⟨n,d,c⟩;rcases T with h| ⟨h,h'⟩ |h
  .exact h n
  .rcases d with d|d
   .exact h d
   exact h' d
  exact h c
 have M:a=0->(wk=1\/wk=4)->S=b->∀h',h'=bU h p (.cells #[.slice u x I,.int .i64 (A .bB .add .i64 at_ 1),.int .i64 a,.slice B D C] 102 (0,0))->k (.bool true) h':=λn d c h' e=>by
  refine o h' true ⟨r,a,ex⟩ ?_ (q.step l (by show wk≠0;omega) g z O e) (λ_=>?_) (λe=>by cases e)
  .subst l;show(if a=0/\(wk=1\/wk=4)/\S=b then _ else _)=_;rw[if_pos ⟨n,d,c⟩]
  show r.length<J.length;rw[l];exact mZH _
 clear o;refine mQF gKZ A Tryz.func90 ?_;cbv;rw[ai A];refine mQw g ?_;cbv;rw[ai A];refine mQw g ?_;cbv;refine⟨L,?_⟩;cbv;refine H.load V N (λcs y=>?_);have y:cs=[.int .i64 wk,.int .i64 W,.string S]:=y;subst y;cbv;rw[ai A];refine mQw g ?_;cbv;rw[P];by_cases f:a=0
 .rw[mQv (by simpa using f)];cbv;rw[Q];by_cases v:wk=1
  .have M:=M f (.inl v);rw[mQv (by simpa using v)];cbv;rw[E];by_cases c:S=b
   .have M:=M c;rw[mQv (by simpa using c)];cbv;rw[ai A];refine mQw g ?_;cbv;rw[ai A];refine ja g (by simp) (λh' m=>?_);cbv;exact M h' m
   have K:=K (.inr (.inr c));rw[mQu c];cbv;exact K
  rw[mQu v];cbv;rw[R];by_cases F:wk=4
  .have M:=M f (.inr F);rw[mQv (by simpa using F)];cbv;rw[E];by_cases c:S=b
   .have M:=M c;rw[mQv (by simpa using c)];cbv;rw[ai A];refine mQw g ?_;cbv;rw[ai A];refine ja g (by simp) (λh' m=>?_);cbv;exact M h' m
   have K:=K (.inr (.inr c));rw[mQu c];cbv;exact K
  have K:=K (.inr (.inl ⟨v,F⟩));rw[mQu F];cbv;exact K
 have K:=K (.inl f);rw[mQu f];cbv;exact K
theorem fQd{base:ad}{f:Nat}{v:Bool}(R:lP v base h f s){l:List ByteArray}{c:Nat}(q:Sl 9 dX base (.slice b n c) l)
 (E:∀h' z,s.cd l=z->lP v base h' f z->z.ws.length<=s.ws.length->k (.tuple #[]) h'):
 Ct 92 [.pointer (some ⟨f,0,none⟩),.slice b n c] h k:=by
 have F:=q.len;have sM:=q.bound;obtain⟨I,Y⟩:∃I:Nat->Int->ad->Prop,∀m g h',I m g h'=∃i s1,aS g i/\i<=n/\m=n-i/\lP v base h' f s1/\s1.cd (l.drop i)=s.cd l/\s1.ws.length<=s.ws.length:=⟨_,λ_ _ _=>rfl⟩;have C:I n 0 h:=by rw[Y];exact⟨0,s,⟨rfl⟩,mQC _,rfl,R,rfl,mQD _⟩
 refine mQx aQF Tryz.func92 λA Q=>?_;cbv;refine aX.go (G:=Int) (λg=>[(4,.v (.int .i64 g))]) (λ_=>[]) (λm g h'=>I m g h') n 0 (by constructor<;>cbv) C ?_
 intro m g h' d;rw[Y]at d;cbv;obtain⟨i,s1,o,hi,hm,x,j,S⟩:=d;have N:A .aI .lss g (A .nat n)=decide (i<n):=o.iJ (aS.nat n);rw[N];by_cases P:i<n
 .obtain⟨w,H⟩:=mQA l i;have M:b.isSome=true/\0<=g/\g<(n:Int):=⟨q.aT,o.ix P⟩;have T:=o.eq;have Z:=o.succ (A:=A);have hd:l.drop i=w::l.drop (i+1):=by obtain⟨O,a⟩:=mQB.1 H;rw[mQJ O,a]
  rw[hd]at j;have U:=q.mono (x.le.t _);have D:∀a s2,lP v base a f s2->s2.cd (l.drop (i+1))=s.cd l->s2.ws.length<=s1.ws.length->I (n-(i+1)) (A .bB .add .i64 g 1) a:=λa s2 p e le=>by
   rw[Y];exact⟨i+1,s2,Z,P,rfl,p,e,by omega⟩
  have X:n-(i+1)<m:=by omega
  clear Y E C;rw[mQu P];cbv;refine⟨M,?_⟩;cbv;refine U.load H T (λcs y=>?_);have y:cs=[.string w]:=y;subst y;cbv;refine Ry x w (λa t s2 B K iJ J=>?_);have V:A .not t= !t:=by rw[Q.not]
  cases t with
  |true=>
   have d:=D a s2 K (by rw[<-j];show _=(match s1.is w with| (true,p)=>p.cd _| (false,p)=>_);rw[B]) (mZp (iJ rfl));clear D;cbv;rw[V];cbv;refine⟨n-(i+1),_,X,by constructor<;>cbv,d⟩
  |false=>
   obtain⟨rfl,rfl⟩:=J rfl;have D:=λr u=>D r (s2.fail 6) u (by rw[<-j];show _=(match s2.is w with| (true,p)=>p.cd _| (false,p)=>(p.fail 6).cd _);rw[B]) (by unfold PS.fail;split<;>exact mQD _);cbv;rw[V];cbv;refine Ld K 6 (λr u=>?_);have d:=D r u;clear D;cbv;refine⟨n-(i+1),_,X,by constructor<;>cbv,d⟩
 have W:i=n:=by omega
 have L:=E h' s1 (by rw[<-j,mXB (by omega)];rfl) x S;rw[mQv P];cbv;exact L
theorem Pe{s:ByteArray}(h:ao s=true):s.size<=12:=by unfold ao BS at h;simp only[mQQ,mKI,nQk,mJd,decide_eq_false_iff_not]at h;omega
theorem PS.CT(s:PS)(e:Int):(s.fail e).ws=s.ws:=by unfold PS.fail;split<;>rfl
theorem aZT{base:ad}{u:Bool}(f:lP u base h p s)
 (q:∀h' v x,s.name ao=(v,x)->lP u base h' p x->x.ws.length<=s.ws.length->v.size<=12->k (.string v) h'):
 Ct 93 [.pointer (some ⟨p,0,none⟩)] h k:=by
 obtain⟨A,X⟩:=Ar.ex;obtain⟨D,a,ex⟩:=s;refine f.elim (λB C L E G F at_ i all w r g J z hw M hr hi Z qe=>?_);have g:h p=some (.cells #[.slice B C L,.int .i64 at_,.int .i64 a,.slice E G F] 102 (0,0)):=g;have M:D=w::r:=M;have O:B.isSome=true/\0<=at_/\at_<(C:Int):=⟨J.aT,z.ix hi⟩;have P:=z.eq;have Q:=z.succ (A:=A);obtain⟨wk,wN,S⟩:=w;have U:A .aI .neq a 0=decide (a≠0):=aC A ..;have W:A .aI .neq wk 1=decide (wk≠1):=aC A ..;have K:(a≠0\/wk≠1\/ao S=false)->∀b,lP u base b p (PS.fail ⟨D,a,ex⟩ 6)->k (.string b0) b:=λY b N=>by
  refine q b b0 _ ?_ N (by rw[PS.CT];exact mQD _) (mQC _);subst M;show(if a=0/\wk=1/\ao S=true then _ else _)=_;rw[if_neg];rintro⟨b,c,d⟩;rcases Y with h|h|h
  .exact h b
  .exact h c
  rw[h]at d;cases d
 have j:a=0->wk=1->ao S=true->∀b h',Le h b->h'=bU b p (.cells #[.slice B C L,.int .i64 (A .bB .add .i64 at_ 1),.int .i64 a,.slice E G F] 102 (0,0))->k (.string S) h':=λb c d T h' l e=>by
  refine q h' S ⟨r,a,ex⟩ ?_ ((f.mono l).step M (by show wk≠0;omega) (l _ _ g) z Q e) ?_ (Pe d)
  .subst M;show(if a=0/\wk=1/\ao S=true then _ else _)=_;rw[if_pos ⟨b,c,d⟩]
  show r.length<=D.length;rw[M];exact mKw _
 clear q;refine mQF jJW A Tryz.func93 ?_;cbv;rw[ai A];refine mQw g ?_;cbv;rw[ai A];refine mQw g ?_;cbv;refine⟨O,?_⟩;cbv;refine J.load hw P (λcs y=>?_);have y:cs=[.int .i64 wk,.int .i64 wN,.string S]:=y;subst y;cbv;rw[ai A];refine mQw g ?_;cbv;rw[U];by_cases n:a=0
 .rw[mQv (by simpa using n)];cbv;rw[W];by_cases o:wk=1
  .have j:=j n o;rw[mQv (by simpa using o)];cbv;refine Gg.mono (λv b hR=>?_);obtain⟨l,t,rfl,I⟩:=hR;have V:A .not t= !t:=by rw[X.not]
   cases t with
   |true=>have j:=j I.symm b;have H:=l _ _ g;cbv;rw[V];cbv;rw[ai A];refine mQw H ?_;cbv;rw[ai A];refine ja H (by simp) (λh' R=>?_);cbv;exact j h' l R
   |false=>have K:=K (.inr (.inr I.symm));cbv;rw[V];cbv;refine Ld (f.mono l) 6 (λc m=>?_);have K:=K c m;cbv;exact K
  have K:=K (.inr (.inl o));rw[mQu o];cbv;refine Ld f 6 (λc m=>?_);have K:=K c m;cbv;exact K
 have K:=K (.inl n);rw[mQu n];cbv;refine Ld f 6 (λc m=>?_);have K:=K c m;cbv;exact K
theorem GX(a b:ByteArray):(a++b).size=a.size+b.size:=mZm
theorem Dc{base:ad}{m:Bool}(z:lP m base h p s)
 (j:∀h' v e,s.column ao=(v,e)->lP m base h' p e->e.ws.length<=s.ws.length->v.size<=25->k (.string v) h'):
 Ct 196 [.pointer (some ⟨p,0,none⟩)] h k:=by
 refine mQx gQW Tryz.func196 λA d=>?_;cbv;refine aZT z (λG a s1 o D B I=>?_);cbv;refine Ry D (aM [46]) (λx t s2 r n l c=>?_);have T:s.column ao=match s1.is (aM [46])with
  | (true,q)=>let t:=q.name ao;(a++(aM [46])++t.1,t.2)
  | (false,q)=>(a,q):=by unfold PS.column;simp only[o];rfl
 rw[r]at T;cases t with
 |false=>have f:=j x a s2 T n (by rw[(c rfl).1];exact B) (by omega);cbv;exact f
 |true=>
  have T:s.column ao=let t:=s2.name ao;(a++(aM [46])++t.1,t.2):=T;have l:=l rfl;obtain⟨u,b⟩:∃u,A .cat a (aM [46])=u:=⟨_,rfl⟩;have P:u=a++aM [46]:=by rw[<-b,d.cat]
  have J:u.size<=13:=by rw[P,GX];have:(aM [46]).size=1:=rfl;omega
  have g:((a.size+(aM [46]).size:Nat):Int)<=2^62:=by have:(aM [46]).size=1:=rfl;omega
  cbv;refine⟨g,?_⟩;have b:A .cat a ⟨#[46]⟩=u:=b;cbv;rw[b];refine aZT n (λy i F w E H K=>?_);have C:((u.size+i.size:Nat):Int)<=2^62:=by omega
  have f:=j y (A .cat u i) F (by rw[T];simp only[w];rw[d.cat,P]) E (by omega) (by rw[d.cat];show(u++i).size<=25;rw[GX];omega);cbv;refine⟨C,?_⟩;cbv;exact f
theorem lP.aZp{base a u:ad}{N:Bool}(q:lP N base h p s){w j d:Option Addr}{c o k c':Nat}{at_ r:Int}{e':List Nd}{lv':Bool}
 (g:h p=some (.cells #[.slice w n c,.int .i64 at_,.int .i64 r,.slice j o k] 102 (0,0)))
 (l:Le base a) (y:lv'=true->cF 317 fx base a (.slice d m c') e'/\e'.length<=60) (A:a p=some (.cells #[.slice w n c,.int .i64 at_,.int .i64 r,.slice j o k] 102 (0,0)))
 (e:u=bU a p (.cells #[.slice w n c,.int .i64 at_,.int .i64 r,.slice d m c'] 102 (0,0))):lP lv' base u p { s with e:=e' }:=by
 obtain⟨H,X,G,M,K,L,J,i,all,t,B,D,E,F,I,O,P,C⟩:=q.out;rw[g]at t;cases t;subst e;refine⟨w,n,c,d,m,c',at_,i,all,ae,B,D,E,F,I,λv=>⟨(y v).1.mono (bR.set A (by decide)),(y v).2⟩,λb x f=>?_,C⟩;have z:b≠p:=λe=>by rw[e,C]at f;cases f
 rw[aO z];exact l b x f
theorem oE{base:ad}{l:Nat}(p:lP true base h l s)(op a b D F:Int)(G nm:ByteArray)
 (t:∀h' v C,s.node ⟨op,a,b,⟨D,F,G⟩,nm⟩=(v,C)->lP true base h' l C->C.ws=s.ws->k (.int .i64 v) h'):
 Ct 246 [.pointer (some ⟨l,0,none⟩),.agg #[.int .i64 op,.int .i64 a,.int .i64 b,.int .i64 D,.int .i64 F,.string G,.string nm]] h k:=by
 obtain⟨A,y⟩:=Ar.ex;obtain⟨x,d,ex⟩:=s;refine p.elim (λwb wn wc O n P at_ i all w r g qw hz hw lM hr hi U qe=>?_);obtain⟨u,J⟩:=qe rfl;have u:cF 317 fx base h (.slice O n P) ex:=u;have J:ex.length<=60:=J;have Qh:=u.sl.len;have g:h l=some (.cells #[.slice wb wn wc,.int .i64 at_,.int .i64 d,.slice O n P] 102 (0,0)):=g;have X:A .aI .neq d 0=decide (d≠0):=aC A ..;have Y:A .aI .geq (A .nat n) 60=decide (n>=60):=by rw[cf A,y.nat,decide_eq_decide];simp only[mQV];omega
 obtain⟨j,L⟩:∃j:Nd,j=⟨op,a,b,⟨D,F,G⟩,nm⟩:=⟨_,rfl⟩;have E:PS.node ⟨x,d,ex⟩ j=if d≠0 then(0,⟨x,d,ex⟩)else if ex.length>=60 then(0,PS.fail ⟨x,d,ex⟩ 4)else((ex.length:Int),⟨x,d,ex++[j]⟩):=rfl
 rw[<-L]at t;obtain⟨H,Q⟩:∃H:Int,(ex.length:Int)=H:=⟨_,rfl⟩;rw[Q]at E;have W:∀m,m=n+1->A .bB .sub .i64 (A .nat m) 1=H:=λm e=>by
  rw[zK A _ _ (by rw[y.nat];simp only[mQV];omega),y.nat];simp only[mQV];omega
 clear Q;refine mQF cZP A Tryz.func246 ?_;cbv;rw[ai A];refine mQw g ?_;cbv;rw[X];by_cases q:d=0
 .rw[if_neg (by simpa using q)]at E;rw[mQv (by simpa using q)];cbv;rw[ai A];refine mQw g ?_;cbv;rw[Y];by_cases T:n>=60
  .rw[if_pos (by omega)]at E;have f:=λo B=>t o 0 _ E B (PS.CT _ _);rw[mQu T];cbv;refine Ld p 4 (λo B=>?_);have f:=f o B;cbv;exact f
  rw[if_neg (by omega)]at E;rw[mQv T];cbv;rw[ai A];refine mQw g ?_;cbv;intro S R g1 M;have z:Le h R:=by rw[M];exact Le.set g1
  have f3:=(congrFun M S).trans ae;have qv:Sl 317 fx R (.slice (some ⟨S,0,none⟩) 1 1) [j]:=bA (s:=fx) f3 (by rw[L];rfl);have K:=z _ _ g;cbv;refine mQw K ?_;cbv;refine⟨⟨_,rfl,rfl⟩,?_⟩;cbv;refine(u.mono (z.t _)).append qv (by decide) rfl (by decide) (by omega) (p.le.trans z) (λm b2 c2 o V l2 t2 k2 jq=>?_);have Z:=k2 _ _ K (λc fr e=>by cases e);cbv;rw[ai A];refine ja Z (by simp) (λh3 N=>?_);have p3:=p.aZp (lv':=true) (e':=ex++[j]) g l2 (λ_=>⟨jq,by rw[mQy,mQG];omega⟩) Z N;have I:=(congrFun N l).trans ae;have f:=t h3 _ _ E p3 rfl;rw[<-W m V]at f;cbv;rw[ai A];refine mQw I ?_;cbv;exact f
 rw[if_pos q]at E;have f:=t h 0 _ E p rfl;rw[mQu q];cbv;exact f
abbrev Fm(f:FuncId)(hZK:Nat)(fn:Nat->PS->Int×PS)(n:Nat):Prop:=∀(base h:ad) (pb:Nat) (s:PS) (k:Value->ad->Prop),lP true base h pb s->9*s.ws.length+hZK<=n->
 (∀h' a s',fn n s=(a,s')->lP true base h' pb s'->s'.ws.length<=s.ws.length->k (.int .i64 a) h')->Ct f [.pointer (some ⟨pb,0,none⟩)] h k
theorem aJb{base:ad}{v:Bool}(g:lP v base h d s)(f:h n=none)(l:List ByteArray){b:ad}(e:b=bU h n (.cells (List.toArray (l.map Value.string)) 9 (0,0)))(r:m=l.length)(u:l.length<=10)
 (o:∀h' a,s.cd l=a->lP v base h' d a->a.ws.length<=s.ws.length->k (.tuple #[]) h'):Ct 92 [.pointer (some ⟨d,0,none⟩),.slice (some ⟨n,0,none⟩) m m] b k:=by
 subst r e;have J:=g.le.none f;have t:Sl 9 dX (bU base n (.cells (List.toArray (l.map Value.string)) 9 (0,0))) (.slice (some ⟨n,0,none⟩) l.length l.length) l:=by
  refine Sl.fresh (c:=l.map Value.string) ae ⟨?_,λi x hx=>?_⟩ (by omega) (mQD _)
  .show 0+l.length*1<=_;rw[mQN];omega
  show List.take 1 (List.drop (0+i*1) _)=[Value.string x];obtain⟨b,j⟩:=mQB.1 hx;rw[mXj,mZM,mQJ (by simpa using b)];simp[j]
 exact fQd (g.add f) t (λh' a e p le=>o h' a e (p.drop J (λ_ _ _ q=>by cases q;decide)) le)
theorem iS{a:PS}{t:ByteArray}(e:s.is t=(true,a)):s.eQ ((t,op)::r)=(some op,a):=by show(match s.is t with| (true,q)=>_| (false,q)=>_)=_;rw[e]
theorem bE{a:PS}{t:ByteArray}(e:s.is t=(false,a)):s.eQ ((t,op)::r)=a.eQ r:=by show(match s.is t with| (true,q)=>_| (false,q)=>_)=_;rw[e]
theorem xR{sub:PS->Int×PS}{p:PS}(e:p.eQ o=(some op,q)):iA sub o (n+1) a p=iA sub o n ((sub q).2.node (bin op a (sub q).1)).1 ((sub q).2.node (bin op a (sub q).1)).2:=by show(match p.eQ o with| (some op,p)=>_| (none,p)=>(a,p))=_;rw[e]
theorem yN{sub:PS->Int×PS}{p:PS}(e:p.eQ o=(none,q))(h:q=p):iA sub o n a p=(a,p):=by
 subst h;cases n with
 |zero=>rfl
 |succ n=>show(match q.eQ o with| (some op,p)=>_| (none,p)=>(a,p))=_;rw[e]
theorem bKx(H:Fm 280 7 (FP ao) n):Fm 245 8 (Vx ao) (n+1):=by
 intro base h j s k W hf F;obtain⟨o,z⟩:∃o:List (ByteArray×Int),o=[((aM [111,114]),6)]:=⟨_,rfl⟩;obtain⟨sub,M⟩:∃sub,sub=FP ao n:=⟨_,rfl⟩;have V:Vx ao (n+1) s=iA sub o (sub s).2.ws.length (sub s).1 (sub s).2:=by rw[z,M];simp only[Vx]
 refine mQx gQq Tryz.func245 λA hA=>?_;cbv;refine H base h j s _ W (by omega) (λT a1 s1 q p1 l1=>?_);rw[<-M]at q;rw[q]at V;obtain⟨R,hR⟩:∃R,iA sub o s1.ws.length a1 s1=R:=⟨_,rfl⟩;have V:Vx ao (n+1) s=R:=V.trans hR;obtain⟨I,Y⟩:∃I:Nat->Int->ad->Prop,∀m g h',I m g h'=∃f s2,lP true base h' j s2/\s2.ws.length<=f/\iA sub o f g s2=R/\s2.ws.length<=s.ws.length/\m=s2.ws.length:=⟨_,λ_ _ _=>rfl⟩;have J:I s1.ws.length a1 T:=by rw[Y];exact⟨_,s1,p1,mQD _,hR,l1,rfl⟩
 have K:∀h' g s2,R=(g,s2)->lP true base h' j s2->s2.ws.length<=s.ws.length->k (.int .i64 g) h':=λh' g s2 e p l=>F h' g s2 (V.trans e) p l;clear F hR V q;cbv;refine aX.go (G:=Int) (λg=>[(3,.v (.int .i64 g))]) (λ_=>[]) (λm g h'=>I m g h') s1.ws.length a1 (by constructor<;>cbv) J ?_
 intro m g h' E;rw[Y]at E;cbv;obtain⟨f,s2,p2,S,c,pz,hm⟩:=E;refine Ry p2 (aM [111,114]) (λD t d B L y Z=>?_);cases t with
 |true=>
  have y:=y rfl;have u:s2.eQ o=(some 6,d):=by rw[z];exact iS B
  cbv;have N:9*d.ws.length+7<=n:=by omega
  refine H base D j d _ L N (λh4 b v C p4 l4=>?_);rw[<-M]at C;obtain⟨f,rfl⟩:∃Q,f=Q+1:=⟨f-1,by omega⟩;have c:=(xR (sub:=sub) (n:=f) (a:=g) u).symm.trans c;rw[C]at c;cbv;refine oE p4 6 g b 0 0 _ _ (λU w i r p5 x=>?_);have r:v.node (bin 6 g b)=(w,i):=r;have c:iA sub o f w i=R:=by rw[<-c];show _=iA sub o f (v.node (bin 6 g b)).1 (v.node (bin 6 g b)).2;rw[r]
  have X:I i.ws.length w U:=by rw[Y];exact⟨f,i,p5,by rw[x];omega,c,by rw[x];omega,rfl⟩
  have P:i.ws.length<m:=by rw[x];omega
  clear c Y J K;cbv;refine⟨i.ws.length,_,P,by constructor<;>cbv,X⟩
 |false=>
  obtain⟨rfl,rfl⟩:=Z rfl;have u:d.eQ o=(none,d):=by rw[z];exact bE B
  have O:=K D g d (c.symm.trans (yN u rfl)) L pz;cbv;exact O
theorem bXO(H:Fm 307 6 (wv ao) n):Fm 280 7 (FP ao) (n+1):=by
 intro base h j s k W hf F;obtain⟨o,z⟩:∃o:List (ByteArray×Int),o=[((aM [97,110,100]),7)]:=⟨_,rfl⟩;obtain⟨sub,M⟩:∃sub,sub=wv ao n:=⟨_,rfl⟩;have V:FP ao (n+1) s=iA sub o (sub s).2.ws.length (sub s).1 (sub s).2:=by rw[z,M];simp only[FP]
 refine mQx fKT Tryz.func280 λA hA=>?_;cbv;refine H base h j s _ W (by omega) (λT a1 s1 q p1 l1=>?_);rw[<-M]at q;rw[q]at V;obtain⟨R,hR⟩:∃R,iA sub o s1.ws.length a1 s1=R:=⟨_,rfl⟩;have V:FP ao (n+1) s=R:=V.trans hR;obtain⟨I,Y⟩:∃I:Nat->Int->ad->Prop,∀m g h',I m g h'=∃f s2,lP true base h' j s2/\s2.ws.length<=f/\iA sub o f g s2=R/\s2.ws.length<=s.ws.length/\m=s2.ws.length:=⟨_,λ_ _ _=>rfl⟩;have J:I s1.ws.length a1 T:=by rw[Y];exact⟨_,s1,p1,mQD _,hR,l1,rfl⟩
 have K:∀h' g s2,R=(g,s2)->lP true base h' j s2->s2.ws.length<=s.ws.length->k (.int .i64 g) h':=λh' g s2 e p l=>F h' g s2 (V.trans e) p l;clear F hR V q;cbv;refine aX.go (G:=Int) (λg=>[(3,.v (.int .i64 g))]) (λ_=>[]) (λm g h'=>I m g h') s1.ws.length a1 (by constructor<;>cbv) J ?_
 intro m g h' E;rw[Y]at E;cbv;obtain⟨f,s2,p2,S,c,pz,hm⟩:=E;refine Ry p2 (aM [97,110,100]) (λD t d B L y Z=>?_);cases t with
 |true=>
  have y:=y rfl;have u:s2.eQ o=(some 7,d):=by rw[z];exact iS B
  cbv;have N:9*d.ws.length+6<=n:=by omega
  refine H base D j d _ L N (λh4 b v C p4 l4=>?_);rw[<-M]at C;obtain⟨f,rfl⟩:∃Q,f=Q+1:=⟨f-1,by omega⟩;have c:=(xR (sub:=sub) (n:=f) (a:=g) u).symm.trans c;rw[C]at c;cbv;refine oE p4 7 g b 0 0 _ _ (λU w i r p5 x=>?_);have r:v.node (bin 7 g b)=(w,i):=r;have c:iA sub o f w i=R:=by rw[<-c];show _=iA sub o f (v.node (bin 7 g b)).1 (v.node (bin 7 g b)).2;rw[r]
  have X:I i.ws.length w U:=by rw[Y];exact⟨f,i,p5,by rw[x];omega,c,by rw[x];omega,rfl⟩
  have P:i.ws.length<m:=by rw[x];omega
  clear c Y J K;cbv;refine⟨i.ws.length,_,P,by constructor<;>cbv,X⟩
 |false=>
  obtain⟨rfl,rfl⟩:=Z rfl;have u:d.eQ o=(none,d):=by rw[z];exact bE B
  have O:=K D g d (c.symm.trans (yN u rfl)) L pz;cbv;exact O
theorem aJc(H:Fm 343 2 (wz ao) n):Fm 342 3 (Fq ao) (n+1):=by
 intro base h j s k W hf F;obtain⟨o,z⟩:∃o:List (ByteArray×Int),o=[((aM [42]),16)]:=⟨_,rfl⟩;obtain⟨sub,M⟩:∃sub,sub=wz ao n:=⟨_,rfl⟩;have V:Fq ao (n+1) s=iA sub o (sub s).2.ws.length (sub s).1 (sub s).2:=by rw[z,M];simp only[Fq]
 refine mQx lXT Tryz.func342 λA hA=>?_;cbv;refine H base h j s _ W (by omega) (λT a1 s1 q p1 l1=>?_);rw[<-M]at q;rw[q]at V;obtain⟨R,hR⟩:∃R,iA sub o s1.ws.length a1 s1=R:=⟨_,rfl⟩;have V:Fq ao (n+1) s=R:=V.trans hR;obtain⟨I,Y⟩:∃I:Nat->Int->ad->Prop,∀m g h',I m g h'=∃f s2,lP true base h' j s2/\s2.ws.length<=f/\iA sub o f g s2=R/\s2.ws.length<=s.ws.length/\m=s2.ws.length:=⟨_,λ_ _ _=>rfl⟩;have J:I s1.ws.length a1 T:=by rw[Y];exact⟨_,s1,p1,mQD _,hR,l1,rfl⟩
 have K:∀h' g s2,R=(g,s2)->lP true base h' j s2->s2.ws.length<=s.ws.length->k (.int .i64 g) h':=λh' g s2 e p l=>F h' g s2 (V.trans e) p l;clear F hR V q;cbv;refine aX.go (G:=Int) (λg=>[(3,.v (.int .i64 g))]) (λ_=>[]) (λm g h'=>I m g h') s1.ws.length a1 (by constructor<;>cbv) J ?_
 intro m g h' E;rw[Y]at E;cbv;obtain⟨f,s2,p2,S,c,pz,hm⟩:=E;refine Ry p2 (aM [42]) (λD t d B L y Z=>?_);cases t with
 |true=>
  have y:=y rfl;have u:s2.eQ o=(some 16,d):=by rw[z];exact iS B
  cbv;have N:9*d.ws.length+2<=n:=by omega
  refine H base D j d _ L N (λh4 b v C p4 l4=>?_);rw[<-M]at C;obtain⟨f,rfl⟩:∃Q,f=Q+1:=⟨f-1,by omega⟩;have c:=(xR (sub:=sub) (n:=f) (a:=g) u).symm.trans c;rw[C]at c;cbv;refine oE p4 16 g b 0 0 _ _ (λU w i r p5 x=>?_);have r:v.node (bin 16 g b)=(w,i):=r;have c:iA sub o f w i=R:=by rw[<-c];show _=iA sub o f (v.node (bin 16 g b)).1 (v.node (bin 16 g b)).2;rw[r]
  have X:I i.ws.length w U:=by rw[Y];exact⟨f,i,p5,by rw[x];omega,c,by rw[x];omega,rfl⟩
  have P:i.ws.length<m:=by rw[x];omega
  clear c Y J K;cbv;refine⟨i.ws.length,_,P,by constructor<;>cbv,X⟩
 |false=>
  obtain⟨rfl,rfl⟩:=Z rfl;have u:d.eQ o=(none,d):=by rw[z];exact bE B
  have O:=K D g d (c.symm.trans (yN u rfl)) L pz;cbv;exact O
theorem aXE(H:Fm 342 3 (Fq ao) n):Fm 334 4 (wu ao) (n+1):=by
 intro base h B s k hp hf W;obtain⟨o,Q⟩:∃o:List (ByteArray×Int),o=[((aM [43]),14),((aM [45]),15)]:=⟨_,rfl⟩;obtain⟨sub,C⟩:∃sub,sub=Fq ao n:=⟨_,rfl⟩;have V:wu ao (n+1) s=iA sub o (sub s).2.ws.length (sub s).1 (sub s).2:=by rw[Q,C];simp only[wu]
 refine mQx fKb Tryz.func334 λA hA=>?_;cbv;refine H base h B s _ hp (by omega) (λh1 a1 s1 F p1 l1=>?_);rw[<-C]at F;rw[F]at V;obtain⟨R,hR⟩:∃R,iA sub o s1.ws.length a1 s1=R:=⟨_,rfl⟩;have V:wu ao (n+1) s=R:=V.trans hR;obtain⟨I,Y⟩:∃I:Nat->Int->ad->Prop,∀m g h',I m g h'=∃f s2,lP true base h' B s2/\s2.ws.length<=f/\iA sub o f g s2=R/\s2.ws.length<=s.ws.length/\m=s2.ws.length:=⟨_,λ_ _ _=>rfl⟩;have N:I s1.ws.length a1 h1:=by rw[Y];exact⟨_,s1,p1,mQD _,hR,l1,rfl⟩
 have O:∀h' g s2,R=(g,s2)->lP true base h' B s2->s2.ws.length<=s.ws.length->k (.int .i64 g) h':=λh' g s2 e p l=>W h' g s2 (V.trans e) p l;clear W hR V F;cbv;refine aX.go (G:=Int) (λg=>[(3,.v (.int .i64 g))]) (λ_=>[]) (λm g h'=>I m g h') s1.ws.length a1 (by constructor<;>cbv) N ?_
 intro m g h' U;rw[Y]at U;cbv;obtain⟨f,s2,p2,ab,c,pz,hm⟩:=U;have n1:A .aI .eql 14 0=false:=by rw[aA A];rfl
 have n2:A .aI .eql 15 0=false:=by rw[aA A];rfl
 have n3:A .aI .eql 0 0=true:=by rw[aA A];rfl
 refine Ry p2 (aM [43]) (λD t q x z M Z=>?_);cases t with
 |true=>
  have M:=M rfl;have j:s2.eQ o=(some 14,q):=by rw[Q];exact iS x
  cbv;rw[n1];cbv;have J:9*q.ws.length+3<=n:=by omega
  refine H base D B q _ z J (λh4 b u y S l4=>?_);rw[<-C]at y;obtain⟨f,rfl⟩:∃E,f=E+1:=⟨f-1,by omega⟩;have c:=(xR (sub:=sub) (n:=f) (a:=g) j).symm.trans c;rw[y]at c;cbv;refine oE S 14 g b 0 0 _ _ (λL v d i T w=>?_);have i:u.node (bin 14 g b)=(v,d):=i;have c:iA sub o f v d=R:=by rw[<-c];show _=iA sub o f (u.node (bin 14 g b)).1 (u.node (bin 14 g b)).2;rw[i]
  have X:I d.ws.length v L:=by rw[Y];exact⟨f,d,T,by rw[w];omega,c,by rw[w];omega,rfl⟩
  have P:d.ws.length<m:=by rw[w];omega
  clear c Y N O;cbv;refine⟨d.ws.length,_,P,by constructor<;>cbv,X⟩
 |false=>
  obtain⟨rfl,rfl⟩:=Z rfl;have K:=x;clear M Z x z;cbv;refine Ry p2 (aM [45]) (λD t q x z M Z=>?_);cases t with
  |true=>
   have M:=M rfl;have j:=(bE (op:=14) (r:=[((aM [45]),15)]) K).trans (iS x);rw[<-Q]at j;cbv;rw[n2];cbv;have J:9*q.ws.length+3<=n:=by omega
   refine H base D B q _ z J (λh4 b u y S l4=>?_);rw[<-C]at y;obtain⟨f,rfl⟩:∃E,f=E+1:=⟨f-1,by omega⟩;have c:=(xR (sub:=sub) (n:=f) (a:=g) j).symm.trans c;rw[y]at c;cbv;refine oE S 15 g b 0 0 _ _ (λL v d i T w=>?_);have i:u.node (bin 15 g b)=(v,d):=i;have c:iA sub o f v d=R:=by rw[<-c];show _=iA sub o f (u.node (bin 15 g b)).1 (u.node (bin 15 g b)).2;rw[i]
   have X:I d.ws.length v L:=by rw[Y];exact⟨f,d,T,by rw[w];omega,c,by rw[w];omega,rfl⟩
   have P:d.ws.length<m:=by rw[w];omega
   clear c Y N O;cbv;refine⟨d.ws.length,_,P,by constructor<;>cbv,X⟩
  |false=>obtain⟨rfl,rfl⟩:=Z rfl;have j:=(bE (op:=14) (r:=[((aM [45]),15)]) K).trans (bE x);rw[<-Q]at j;have af:=O D g q (c.symm.trans (yN j rfl)) z pz;cbv;rw[n3];cbv;exact af
theorem aZO(I:Fm 307 6 (wv ao) n)(N:Fm 323 5 (Bj ao) n):Fm 307 6 (wv ao) (n+1):=by
 intro base h o s k w B i;have V:wv ao (n+1) s=match s.is (aM [110,111,116])with
  | (true,p)=>let a:=wv ao n p;a.2.node (un 3 a.1)
  | (false,p)=>Bj ao n p:=by simp only[wv];rfl
 refine mQx fKA Tryz.func307 λA z=>?_;cbv;refine Ry w (aM [110,111,116]) (λd t s1 r m j K=>?_);rw[r]at V;cases t with
 |true=>
  have j:=j rfl;have V:wv ao (n+1) s=(wv ao n s1).2.node (un 3 (wv ao n s1).1):=V;have J:9*s1.ws.length+6<=n:=by omega
  cbv;refine I base d o s1 _ m J (λg a s2 e c l=>?_);rw[e]at V;cbv;refine oE c 3 a 0 0 0 _ _ (λu v q b x y=>?_);have b:s2.node (un 3 a)=(v,q):=b;have f:=i u v q (V.trans b) x (by rw[y];omega);cbv;exact f
 |false=>obtain⟨rfl,rfl⟩:=K rfl;have V:wv ao (n+1) s1=Bj ao n s1:=V;cbv;refine N base d o s1 _ m (by omega) (λg a s2 e c l=>?_);have f:=i g a s2 (V.trans e) c l;cbv;exact f
theorem aZR(I:Fm 343 2 (wz ao) n)(N:Fm 344 1 (zO ao) n):Fm 343 2 (wz ao) (n+1):=by
 intro base h o s k w B i;have V:wz ao (n+1) s=match s.is (aM [45])with
  | (true,p)=>let a:=wz ao n p;a.2.node (un 4 a.1)
  | (false,p)=>zO ao n p:=by simp only[wz];rfl
 refine mQx fKa Tryz.func343 λA z=>?_;cbv;refine Ry w (aM [45]) (λd t s1 r m j K=>?_);rw[r]at V;cases t with
 |true=>
  have j:=j rfl;have V:wz ao (n+1) s=(wz ao n s1).2.node (un 4 (wz ao n s1).1):=V;have J:9*s1.ws.length+2<=n:=by omega
  cbv;refine I base d o s1 _ m J (λg a s2 e c l=>?_);rw[e]at V;cbv;refine oE c 4 a 0 0 0 _ _ (λu v q b x y=>?_);have b:s2.node (un 4 a)=(v,q):=b;have f:=i u v q (V.trans b) x (by rw[y];omega);cbv;exact f
 |false=>obtain⟨rfl,rfl⟩:=K rfl;have V:wz ao (n+1) s1=zO ao n s1:=V;cbv;refine N base d o s1 _ m (by omega) (λg a s2 e c l=>?_);have f:=i g a s2 (V.trans e) c l;cbv;exact f
theorem ZB{w:ByteArray}(a:(pj.map (·.1))[i]? =some w):pj.drop i=(w,8+(i:Int))::pj.drop (i+1):=by
 have h:=(mQB.1 a).1;have h:i<6:=h;have b:i=0\/i=1\/i=2\/i=3\/i=4\/i=5:=by omega
 rcases b with rfl|rfl|rfl|rfl|rfl|rfl<;>(cases a;rfl)
theorem Np(U:Fm 334 4 (wu ao) n):Fm 323 5 (Bj ao) (n+1):=by
 intro base h pb s k hp hf H;obtain⟨sub,M⟩:∃sub,sub=wu ao n:=⟨_,rfl⟩;have V:Bj ao (n+1) s=match (sub s).2.is (aM [105,115])with
  | (true,q)=>(q.cd [(aM [110,117,108,108])]).node (un 5 (sub s).1)
  | (false,q)=>match q.eQ pj with
   | (some op,q)=>(sub q).2.node (bin op (sub s).1 (sub q).1)
   | (none,q)=>((sub s).1,q):=by rw[M];simp only[Bj];rfl
 refine mQx fKl Tryz.func323 λA hA=>?_;cbv;refine U base h pb s _ hp (by omega) (λh1 a s1 e1 p1 l1=>?_);rw[<-M]at e1;rw[e1]at V;cbv;refine Ry p1 (aM [105,115]) (λz t s2 e2 R iJ J=>?_);replace V:Bj ao (n+1) s=match s1.is (aM [105,115])with
  | (true,q)=>(q.cd [(aM [110,117,108,108])]).node (un 5 a)
  | (false,q)=>match q.eQ pj with
   | (some op,q)=>(sub q).2.node (bin op a (sub q).1)
   | (none,q)=>(a,q):=V
 rw[e2]at V;cases t with
 |true=>have iJ:=iJ rfl;replace V:Bj ao (n+1) s=(s2.cd [(aM [110,117,108,108])]).node (un 5 a):=V;cbv;intro u d E c;refine aJb R E [(aM [110,117,108,108])] c rfl (by decide) (λF o y S l4=>?_);rw[y]at V;cbv;refine oE S 5 a 0 0 0 _ _ (λh5 v5 B l T w5=>?_);have l:o.node (un 5 a)=(v5,B):=l;have p:=H h5 v5 B (V.trans l) T (by rw[w5];omega);cbv;exact p
 |false=>
  obtain⟨rfl,rfl⟩:=J rfl;clear e2 J iJ p1;replace V:Bj ao (n+1) s=match s2.eQ pj with
   | (some op,q)=>(sub q).2.node (bin op a (sub q).1)
   | (none,q)=>(a,q):=V
  obtain⟨j,Z⟩:∃L,L=pj.map (·.1):=⟨_,rfl⟩;have K:j.length=6:=by rw[Z];rfl
  cbv;intro u d E c;have c:d=bU z u (.cells (List.toArray ((pj.map (·.1)).map Value.string)) 9 (0,0)):=c;have l3:Le z d:=by rw[c];exact Le.set E
  have p3:=R.mono l3;have gs:d u=some (.cells (List.toArray (j.map Value.string)) 9 (0,0)):=by rw[c,Z];exact ae
  have ql:Sl 9 dX d (.slice (some ⟨u,0,none⟩) 6 6) j:=by
   have:=Sl.fresh (e:=9) (s:=dX) (xs:=j) (cap:=6) gs ⟨?_,λi x hx=>?_⟩ (by omega) (by omega)
   .rw[K]at this;exact this
   .show 0+j.length*1<=_;rw[mQN];omega
   show List.take 1 (List.drop (0+i*1) _)=[Value.string x];obtain⟨h1,z⟩:=mQB.1 hx;rw[mXj,mZM,mQJ (by simpa using h1)];simp[z]
  obtain⟨I,Y⟩:∃I:Nat->Int->ad->Prop,∀m g h',I m g h'=∃i:Nat,aS g i/\i<=6/\m=6-i/\h'=d/\s2.eQ (pj.drop i)=s2.eQ pj:=⟨_,λ_ _ _=>rfl⟩;have hJ:I 6 0 d:=by rw[Y];exact⟨0,⟨rfl⟩,by decide,rfl,rfl,rfl⟩
  clear c gs R;cbv;refine aX.go (G:=Int) (λg=>[(5,.v (.int .i64 g))]) (λ_=>[]) (λm g h'=>I m g h') 6 0 (by constructor<;>cbv) hJ ?_
  intro m g h' hI;rw[Y]at hI;cbv;obtain⟨i,r,hi,hm,rfl,f⟩:=hI;have f1:A .aI .lss g 6=decide (i<6):=r.iJ ⟨rfl⟩;have Q:A .aI .lss g (A .nat 6)=decide (i<6):=r.iJ (aS.nat 6);first|rw[f1] |rw[Q]
  by_cases P:i<6
  .obtain⟨w,hw⟩:=mQA j i;have Za:=ZB (i:=i) (w:=w) (by rw[<-Z];exact hw);rw[Za]at f;have cJ:(some (⟨u,0,none⟩:Addr)).isSome=true/\0<=g/\g<((6:Nat):Int):=⟨rfl,r.ix P⟩;have lN:=r.eq;have cZ:=r.succ (A:=A);have W:A .bB .add .i64 8 g=8+(i:Int):=by rw[tI A _ _ (by omega),lN]
   obtain⟨op,X⟩:∃op:Int,8+(i:Int)=op:=⟨_,rfl⟩;rw[X]at W f;clear X Za;rw[mQu P];cbv;refine⟨cJ,?_⟩;cbv;refine ql.load hw lN (λcs C=>?_);have C:cs=[.string w]:=C;subst C;cbv;refine Ry p3 w (λF t o y S v O=>?_);cases t with
   |true=>
    have v:=v rfl;have eo:=f.symm.trans (iS y);rw[eo]at V;replace V:Bj ao (n+1) s=(sub o).2.node (bin op a (sub o).1):=V;have Jg:9*o.ws.length+4<=n:=by omega
    cbv;refine U base F pb o _ S Jg (λh5 b B l T l5=>?_);rw[<-M]at l;rw[l]at V;cbv;rw[W];refine oE T op a b 0 0 _ _ (λh6 v6 s6 D p6 w6=>?_);have D:B.node (bin op a b)=(v6,s6):=D;have p:=H h6 v6 s6 (V.trans D) p6 (by rw[w6];omega);cbv;exact p
   |false=>
    obtain⟨rfl,rfl⟩:=O rfl;have cD:I (6-(i+1)) (A .bB .add .i64 g 1) F:=by rw[Y];exact⟨i+1,cZ,P,rfl,rfl,(bE y).symm.trans f⟩
    have kX:6-(i+1)<m:=by omega
    clear Y;cbv;refine⟨6-(i+1),_,kX,by constructor<;>cbv,cD⟩
  have N:i=6:=by omega
  subst N;have f:s2.eQ pj=(none,s2):=f.symm;rw[f]at V;have p:=H h' a s2 V p3 l1;rw[mQv P];cbv;exact p
def Yo(n:Nat)(s:PS):Int×PS:=match s.is (aM [116,114,117,101])with
 | (true,q)=>q.node (lit ⟨1,1,b0⟩)
 | (false,q)=>match q.is (aM [102,97,108,115,101])with
  | (true,q)=>q.node (lit ⟨1,0,b0⟩)
  | (false,q)=>match q.is (aM [110,117,108,108])with
   | (true,q)=>q.node (lit v0)
   | (false,q)=>match q.is (aM [40])with
    | (true,q)=>let a:=Vx ao n q;(a.1,a.2.cd [(aM [41])])
    | (false,q)=>let s:=q.column ao;s.2.node (iP s.1)
theorem aZJ(IH:Fm 245 8 (Vx ao) n):Fm 344 1 (zO ao) (n+1):=by
 intro base h F s k y hf q;obtain⟨A,hA⟩:=Ar.ex;obtain⟨z,b,ex⟩:=s;refine y.elim (λT U wc Y en Z at_ i all w r g qw E hw M hr hi ab qe=>?_);have g:h F=some (.cells #[.slice T U wc,.int .i64 at_,.int .i64 b,.slice Y en Z] 102 (0,0)):=g;have M:z=w::r:=M;have X:T.isSome=true/\0<=at_/\at_<(U:Int):=⟨qw.aT,E.ix hi⟩;have cN:=E.eq;have cZ:=E.succ (A:=A);obtain⟨wk,N,S⟩:=w;have f1:A .aI .neq b 0=decide (b≠0):=aC A ..;have f2:A .aI .eql wk 2=decide (wk=2):=aA A ..;have f3:A .aI .eql wk 3=decide (wk=3):=aA A ..;have V:zO ao (n+1) ⟨z,b,ex⟩=if b≠0 then(0,⟨z,b,ex⟩)else if wk=2 then PS.node ⟨r,b,ex⟩ (lit ⟨2,N,b0⟩)else if wk=3 then PS.node ⟨r,b,ex⟩ (lit ⟨3,0,S⟩)else Yo n ⟨z,b,ex⟩:=by subst M;simp only[zO];rfl
 have Q:wk≠0->∀h',h'=bU h F (.cells #[.slice T U wc,.int .i64 (A .bB .add .i64 at_ 1),.int .i64 b,.slice Y en Z] 102 (0,0))->lP true base h' F ⟨r,b,ex⟩:=λq h' e=>y.step M q g E cZ e;have mF:r.length<=z.length:=by rw[M];exact mKw _
 obtain⟨s,R⟩:∃s:PS,s=⟨z,b,ex⟩:=⟨_,rfl⟩;have wC:s.ws.length=z.length:=by rw[R]
 rw[<-R]at V y q hf;refine mQF nZQ A Tryz.func344 ?_;cbv;rw[ai A];refine mQw g ?_;cbv;rw[ai A];refine mQw g ?_;cbv;refine⟨X,?_⟩;cbv;refine qw.load hw cN (λcs O=>?_);have O:cs=[.int .i64 wk,.int .i64 N,.string S]:=O;subst O;cbv;rw[ai A];refine mQw g ?_;cbv;rw[f1];by_cases D:b≠0
 .rw[if_pos D]at V;have f:=q h 0 _ V y (mQD _);rw[mQu D];cbv;exact f
 rw[if_neg D]at V;rw[mQv D];cbv;rw[f2];by_cases H:wk=2
 .rw[if_pos H]at V;have Q:=Q (by omega);rw[mQu H];cbv;rw[ai A];refine mQw g ?_;cbv;rw[ai A];refine ja g (by simp) (λx P=>?_);have p:=Q x P;cbv;refine oE p 1 0 0 2 N _ _ (λo l s2 c m u=>?_);have c:PS.node ⟨r,b,ex⟩ (lit ⟨2,N,b0⟩)=(l,s2):=c;have f:=q o l s2 (V.trans c) m (by rw[u,wC];exact mF);cbv;exact f
 rw[if_neg H]at V;rw[mQv H];cbv;rw[f3];by_cases I:wk=3
 .rw[if_pos I]at V;have Q:=Q (by omega);rw[mQu I];cbv;rw[ai A];refine mQw g ?_;cbv;rw[ai A];refine ja g (by simp) (λx P=>?_);have p:=Q x P;cbv;refine oE p 1 0 0 3 0 S _ (λo l s2 c m u=>?_);have c:PS.node ⟨r,b,ex⟩ (lit ⟨3,0,S⟩)=(l,s2):=c;have f:=q o l s2 (V.trans c) m (by rw[u,wC];exact mF);cbv;exact f
 rw[if_neg I]at V;rw[mQv I];clear Q R X g qe M f1 f2 f3;cbv;refine Ry y (aM [116,114,117,101]) (λx t s1 C p d K=>?_);cases t with
 |true=>
  have d:=d rfl;replace V:zO ao (n+1) s=s1.node (lit ⟨1,1,b0⟩):=by rw[V];unfold Yo;simp only[C]
  cbv;refine oE p 1 0 0 1 1 _ _ (λo l s2 c m u=>?_);have c:s1.node (lit ⟨1,1,b0⟩)=(l,s2):=c;have f:=q o l s2 (V.trans c) m (by rw[u];omega);cbv;exact f
 |false=>
  obtain⟨j,W⟩:=K rfl;replace j:=j.symm;replace W:=W.symm;subst j W;clear d K p;cbv;refine Ry y (aM [102,97,108,115,101]) (λx t s1 G p d K=>?_);cases t with
  |true=>
   have d:=d rfl;replace V:zO ao (n+1) s=s1.node (lit ⟨1,0,b0⟩):=by rw[V];unfold Yo;simp only[C,G]
   cbv;refine oE p 1 0 0 1 0 _ _ (λo l s2 c m u=>?_);have c:s1.node (lit ⟨1,0,b0⟩)=(l,s2):=c;have f:=q o l s2 (V.trans c) m (by rw[u];omega);cbv;exact f
  |false=>
   obtain⟨j,W⟩:=K rfl;replace j:=j.symm;replace W:=W.symm;subst j W;clear d K p;cbv;refine Ry y (aM [110,117,108,108]) (λx t s1 L p d K=>?_);cases t with
   |true=>
    have d:=d rfl;replace V:zO ao (n+1) s=s1.node (lit v0):=by rw[V];unfold Yo;simp only[C,G,L]
    cbv;refine oE p 1 0 0 0 0 _ _ (λo l s2 c m u=>?_);have c:s1.node (lit v0)=(l,s2):=c;have f:=q o l s2 (V.trans c) m (by rw[u];omega);cbv;exact f
   |false=>
    obtain⟨j,W⟩:=K rfl;replace j:=j.symm;replace W:=W.symm;subst j W;clear d K p;cbv;refine Ry y (aM [40]) (λx t s1 J p d K=>?_);cases t with
    |true=>
     have d:=d rfl;replace V:zO ao (n+1) s=((Vx ao n s1).1,(Vx ao n s1).2.cd [(aM [41])]):=by rw[V];unfold Yo;simp only[C,G,L,J]
     have Jg:9*s1.ws.length+8<=n:=by omega
     cbv;refine IH base x F s1 _ p Jg (λo a s2 c m l2=>?_);rw[c]at V;cbv;intro n3 h3 g3 B;refine aJb m g3 [(aM [41])] B rfl (by decide) (λh4 s4 e4 p4 l4=>?_);have f:=q h4 a s4 (by rw[V];show(a,s2.cd _)=_;rw[e4]) p4 (by omega);cbv;exact f
    |false=>
     obtain⟨j,W⟩:=K rfl;replace j:=j.symm;replace W:=W.symm;subst j W;cbv;refine Dc p (λo v s2 c m l2 z2=>?_);replace V:zO ao (n+1) s=s2.node (iP v):=by rw[V];unfold Yo;simp only[C,G,L,J,c]
     cbv;refine oE m 2 0 0 0 0 _ v (λh3 v3 s3 B p3 w3=>?_);have B:s2.node (iP v)=(v3,s3):=B;have f:=q h3 v3 s3 (V.trans B) p3 (by rw[w3];omega);cbv;exact f
theorem Kk:∀n,Fm 245 8 (Vx ao) n/\Fm 280 7 (FP ao) n/\Fm 307 6 (wv ao) n/\Fm 323 5 (Bj ao) n/\Fm 334 4 (wu ao) n/\Fm 342 3 (Fq ao) n/\Fm 343 2 (wz ao) n/\Fm 344 1 (zO ao) n
 |0=>⟨λ_ _ _ _ _ _ h=>by omega,λ_ _ _ _ _ _ h=>by omega,λ_ _ _ _ _ _ h=>by omega,λ_ _ _ _ _ _ h=>by omega,λ_ _ _ _ _ _ h=>by omega,λ_ _ _ _ _ _ h=>by omega,λ_ _ _ _ _ _ h=>by omega,λ_ _ _ _ _ _ h=>by omega⟩
 |n+1=>by
  obtain⟨c,d,a,e,f,g,b,i⟩:=Kk n;exact⟨bKx d,bXO a,aZO a e,Np f,aXE g,aJc b,aZR b i,aZJ c⟩
theorem lP.freeze{base:ad}{v:Bool}(q:lP v base h p s):lP false (Sx.eF h p) h p s:=by
 obtain⟨w,y,x,f,n,g,at_,i,all,j,k,l,m,o,r,z,t,C⟩:=q.out;refine⟨w,y,x,f,n,g,at_,i,all,j,k.mono (λb c e fr _ a=>?_),l,m,o,r,(λu=>by cases u),Sx.fY h p,Sx.dP h p⟩;have d:b≠p:=λe=>by rw[e,C]at a;cases a
 rw[Sx.cY d];exact t b _ a
theorem fJl{base:ad}{W:Bool}(f:lP W base h p s)
 (M:∀X h' b n c e u,s.expr ao=(e,u)->e.length<=60->Le base X->lP false X h' p u->Sl 317 fx X (.slice b n c) e->u.ws.length<=s.ws.length->k (.slice b n c) h'):
 Ct 193 [.pointer (some ⟨p,0,none⟩)] h k:=by
 refine f.elim (λwb wn wc eb en ec at_ i all w r g qw hz hw lM hr hi Z qe=>?_);have m:=f.le;refine mQx gQZ Tryz.func193 λA hA=>?_;cbv;rw[ai A];refine ja g (by simp) (λy F=>?_);have Y:lP true base y p { s with e:=[] }:=f.aZp (lv':=true) g m (λ_=>⟨cF.nil,by decide⟩) g F;clear qe;cbv;refine(Kk (9*s.ws.length+9)).1 base y p _ _ Y (by show 9*s.ws.length+8<=_;omega) (λl a s2 G t q=>?_);have q:s2.ws.length<=s.ws.length:=q;refine t.elim (λH I P U J z R i2 V w2 r2 v L dL vj S D Q T K=>?_);obtain⟨qb,B⟩:=K rfl;have x:s.expr ao=(s2.e,s2):=by unfold PS.expr;simp only[G]
 have p3:=t.freeze;have C:Le base (Sx.eF l p):=λb o d=>by
  have j:b≠p:=λe=>by
   obtain⟨_,_,_,_,_,_,_,_,_,_,_,_,_,_,_,_,_,O⟩:=f.out;rw[e,O]at d;cases d
  rw[Sx.cY j];exact t.le b o d
 have qs:Sl 317 fx (Sx.eF l p) (.slice U J z) s2.e:=qb.sl.mono (λb c e fr N d=>by
  have j:b≠p:=λe'=>by
   rw[e',v]at d;cases d;simp[fx]at N
  rw[Sx.cY j];exact d)
 have E:=M _ l U J z s2.e s2 x B C p3 qs q;cbv;rw[ai A];refine mQw v ?_;cbv;exact E
end Go.S
