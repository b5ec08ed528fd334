import Derived.Test.YthnbpiejemlbeaaGreatBA
import Derived.Test.YthnbpiejemlbeaaGreatSxC
set_option linter.all false
set_option maxRecDepth 100000
set_option maxHeartbeats 8000000
namespace Go.S
open Go.Sx Go.Proofs
variable {a:Type}{D:Dk}{z:Int}{c:List Value}{xs:List a}{e e1 i m n o p:Nat}{fr:Nat×Nat}{b:Option Addr}{s:Sh a}{k:Value->ad->Prop}{h h':ad}
theorem CM(h:ad):pq.R h (List.replicate 64 (.int .u8 0)) Gw:=⟨rfl,rfl⟩
def JN(n:Nat):Dk:=⟨0,false,List.replicate n Gw,List.replicate n Gw,[]⟩
theorem eJT(q:aZ z n)(b:2<=n)(y:n<=4096)
 (w:∀h' p,h p=none->Le h h'->nI h' p (JN n)->k (.tuple #[.zP p,.int .i64 0]) h'):
 Ct 32 [.int .i64 z] h k:=by
 obtain⟨A,v⟩:=Ar.ex;have t:A .aN .lss z 2=false:=by rw[aR A,q.eq];exact bn (by omega)
 have u:A .aN .gtr z 4096=false:=by rw[bC A,q.eq];exact bn (by omega)
 have B:z=A .nat n:=by rw[v.nat];exact q.eq
 have fin:∀(c b:ad) (d o:Nat) (a:ad) (p:Nat),h d=none\/c d=none->Le h c->Le c b->cZ 211 pq b d n (List.replicate n Gw)->cZ 211 pq b o n (List.replicate n Gw)->d≠o->b p=none->a=bL b p (.cells #[.int .i64 0,.int .u32 0,.slice (zsA d) n n,.slice (zsA o) n n,.slice none 0 0] 94 (0,0))->
  k (.tuple #[.zP p,.int .i64 0]) a:=λc b d o a p _ i l o1 o2 S g f=>by
  have r:Le b a:=by rw[f];exact Le.set g
  refine w a p ((i.trans l).none g) ((i.trans l).trans r) ⟨d,o,none,0,0,0,?_,?_,?_,?_,S,rfl,bt.nil,?_⟩
  .rw[f,ae];simp only[JN,yl]
  .simp only[JN,yl];exact o1.mono (r.t _)
  .simp only[JN,yl];exact o2.mono (r.t _)
  .simp only[JN]
  simp only[JN,yl];exact y
 refine fz hKr A Tryz.func32 ?_;cbv;rw[t];cbv;rw[u];cbv;rw[B];refine⟨?_,?_⟩
 .refine jy (x:=Gw) CM (by omega) (by decide) (λj c s i o1=>?_);cbv;refine jy (x:=Gw) CM (by omega) (by decide) (λm b U l o2=>?_);have S:j≠m:=λe=>by rw[<-e]at U;exact o1.has U
  have fin:=λa p=>fin c b j m a p (.inl s) i l (o1.mono (l.t _)) o2 S;cbv;intro p a g f;cbv;exact fin a p g f
 refine jy (x:=Gw) CM (by omega) (by decide) (λj c s i o1=>?_);cbv;refine jy (x:=Gw) CM (by omega) (by decide) (λm b U l o2=>?_);have S:m≠j:=λe=>by rw[e]at U;exact o1.has U
 have fin:=λa p=>fin c b m j a p (.inr U) i l o2 (o1.mono (l.t _)) S;cbv;intro p a g f;cbv;exact fin a p g f
theorem dJU{l:Nat}{c:Array Value}(g:h l=some (.cells c e fr))(q:Le (Sx.jL h l) h'){ex:List Nat}(d:e∈ex):dX ex h h':=λb o a S=>by
 have D:b≠l:=λe1=>by rw[e1,g]at a;cases a;exact S _ _ _ rfl d
 exact q b o (by rw[Sx.pA D];exact a)
def dE(D:Dk):Bs:=(D.now.drop 1).flatten
theorem nI.pg(q:nI h p D){b:Bs}(e:D.now[i]? =some b):b.length=64:=by obtain⟨n,o,r,t,s,d,g,o1,o2,e1,f,j,w,k⟩:=q.out;obtain⟨c,l,a,m⟩:=o2.out;exact(a.2 i b e).2
theorem sS{L:List Bs}(h:∀b∈L,b.length=64):L.flatten.length=64*L.length:=by
 induction L with
 |nil=>rfl
 |cons x r i=>rw[jKR,cy,h x (by simp),i (λb a=>h b (by simp[a])),wS];omega
theorem nI.max(q:nI h p D):D.now.length<=4096:=by obtain⟨k,n,c,i,f,d,g,o1,o2,e1,a,b,w,e⟩:=q.out;exact e
theorem bKa{l:Nat}(q:nI h p D)(hd:D.dead=false)(g:h l=zcL 407 [.zP p,.int .u32 0,.int .i32 1,.int .u32 0,.slice none 0 0,.int .i64 0])(hP:1<=D.now.length)
 (hk:∀h' b m c,dX [407] h h'->h' l=zcL 407 [.zP p,.int .u32 0,.int .i32 1,.int .u32 0,.slice b m c,.int .i64 0]->Sl 5 cj h' (.slice b m c) (dE D)->k (.tuple #[]) h'):
 Ct 333 [.zP l] h k:=by
 have Yn:=q.max;have Y:∀b∈D.now,b.length=64:=λb hb=>by
  obtain⟨i,W⟩:=jKA.1 hb;exact q.pg W
 obtain⟨P,Q⟩:∃P,P=D.now.length:=⟨_,rfl⟩;obtain⟨J,f⟩:∃J:Nat->Int->ad->Prop,∀w z h',J w z h'=(∃i b m c,aZ z (i+1)/\i+1<=P/\w=P-i/\(m=0->b=none)/\Le (Sx.jL h l) h'/\h' l=zcL 407 [.zP p,.int .u32 0,.int .i32 1,.int .u32 0,.slice b m c,.int .i64 0]/\
  bt 5 cj (Sx.jL h l) h' (.slice b m c) (((D.now.drop 1).take i).flatten)):=⟨_,λ_ _ _=>rfl⟩
 have B:J P 1 h:=by rw[f];exact⟨0,none,0,0,⟨rfl⟩,by omega,by omega,λ_=>rfl,Sx.tZ _ _,g,bt.nil⟩
 refine cg dKU Tryz.func333 λA hA=>?_;cbv;refine aX.go (G:=Int) (λz=>[(2,.v (.int .i64 z))]) (λ_=>[]) (λw z h'=>J w z h') P 1 (by constructor<;>cbv) B ?_
 intro w z h1 V;rw[f]at V;cbv;obtain⟨i,b,m,c,r,W,hw,I,Z,n,L⟩:=V;have K:=dJU g Z (ex:=[407]) (by decide);have R:=q.lt (K.t (by decide));have rX:=L.sl.len;have N:(((D.now.drop 1).take i).flatten).length=64*i:=by rw[sS (λx hx=>Y x (jKd (jKk hx))),eA,iz];congr 1;omega
 rw[N]at rX;rw[av A];refine cr n ?_;cbv;refine aQm R (λzP t=>?_);have f1:A .aN .lss z zP=decide (i+1<P):=by rw[Q];exact r.yY t
 have y:i+1<P->fj D z 0=0:=λE=>by
  unfold fj;rw[hd];show(if _ then(1:Int)else 0)=0;rw[if_neg];have:=r.eq;rintro(wj|wj|wj)<;>omega
 have u:=r.succ (A:=A);have C:i+1<P->((D.now.drop 1).take (i+1)).flatten=((D.now.drop 1).take i).flatten++dp D z:=λE=>by
  obtain⟨x,hx⟩:=cB D.now (i+1);have e1:dp D z=x:=by unfold dp;rw[show z.toNat=i+1 by have:=r.eq;omega,hx];rfl
  rw[e1];exact gX (by rw[rB,kQh];exact hx)
 have X:∀h' a m' c',i+1<P->m'=m+64->Le (Sx.jL h l) h'->h' l=zcL 407 [.zP p,.int .u32 0,.int .i32 1,.int .u32 0,.slice a m' c',.int .i64 0]->bt 5 cj (Sx.jL h l) h' (.slice a m' c') (((D.now.drop 1).take i).flatten++dp D z)->
  J (P-(i+1)) (A .aT .add .i64 z 1) h':=λh' a m' c' E S l' g' q'=>by
  rw[f];exact⟨i+1,a,m',c',u,by omega,rfl,λe=>absurd e (by omega),l',g',by rw[C E];exact q'⟩
 cbv;rw[f1];by_cases U:i+1<P
 .have y:=y U;rw[ak U];clear f B u C N;cbv;rw[av A];refine cr n ?_;cbv;refine ZZ R z (λbS=>absurd y bS) (λ_ h2 b2 c2 H lq q2=>?_);have s:=H _ _ n;have O:=L.mono (H.t _);have fe:A .aN .neq 0 0=false:=by rw[az A];rfl
  generalize dp D z=pg at *;cbv;rw[fe];cbv;rw[av A];refine cr s ?_;cbv;refine O.app q2.sl (by decide) rfl (by decide) (by omega) (Z.trans H) (λm' a c' h3 S l3 t3 k3 q3=>?_);have Du:b≠zsA l:=λe=>by
   rcases O.out with⟨b0,e1,-⟩|⟨nb,cap,e1,e2,o⟩
   .injection e1 with e3 d e5
    rw[I d]at e;cases e
   cases e1;cases e;obtain⟨cc,M,-⟩:=o.out;rw[s]at M;cases M
  have T:=k3 _ _ s (.inr (.inl Du));cbv;rw[av A];refine ju T (by simp) (λv d=>?_);have l4:Le (Sx.jL h l) v:=λj o F=>by
   have qQ:j≠l:=λe=>by rw[e,Sx.nV]at F;cases F
   rw[d,ck qQ];exact l3 j o F
  have t4:cO [5] h3 v:=by rw[d];exact cO.set T (by decide)
  have g4:=(congrFun d l).trans ae;have iD:=X v a m' c' U S l4 g4 (q3.mono t4);clear X d;cbv;refine⟨P-(i+1),_,by omega,by constructor<;>cbv,iD⟩
 rw[bn U];have ay:((D.now.drop 1).take i).flatten=dE D:=by unfold dE;rw[ie (by rw[iz];omega)]
 have:=hk h1 b m c K n (ay ▸ L.sl);clear f B u C N X;cbv;exact this
theorem _root_.Go.Sx.Sl.short{c:Nat}(q:Sl e s h (.slice b n c) xs)(o:m<=n):Sl e s h (.slice b m c) (xs.take m):=by
 have hl:(xs.take m).length=m:=by rw[eA,<-q.len];omega
 obtain⟨j,cap,e1,k,l,d⟩:=q.out;cases e1;refine⟨b,c,by rw[hl],by rw[hl];omega,by rw[hl];omega,?_⟩;rcases d with rfl| ⟨lE,off,cc,fr,f,g,i⟩
 .exact .inl (by simp)
 exact .inr ⟨lE,off,cc,fr,f,g,i.take m⟩
theorem _root_.Go.Sx.Sl.bJW{A:Ar}[g:bI A]{c:Nat}(q:Sl e s h (.slice b n c) xs)(f:aZ z i)(j:i+m<=n){c':Nat}(d:c'=c-i):
 Sl e s h (.slice (A .cut b z (A .nat c) s.n) m c') ((xs.drop i).take m):=
 (q.jD (A:=A) f (by omega) rfl d).short (by omega)
theorem cXW{l:Nat}(q:nI h p D)(hd:D.dead=false)(g:h l=zcL 407 [.zP p,.int .u32 0,.int .i32 0,.int .u32 0,.slice none 0 0,.int .i64 0])(P:1<=D.now.length)
 (n:∀h' b m c,dX [407] h h'->Sl 5 cj h' (.slice b m c) (dE D)->k (.tuple #[.slice b m c,.int .i64 0]) h'):
 Ct 259 [.zP l] h k:=by
 refine cg eXi Tryz.func259 λA w=>?_;cbv;rw[av A];refine cKh (f:=333) (fl:=[.zP l]) (cl:=[]) g rfl rfl (λu e1=>?_);have x:dX [407] h u:=by rw[e1];exact(Kp.set (bs:=[l]) (by simp)).x (λb a o d=>by simp at a;rw[a,g]at d;cases d;exact⟨_,_,_,rfl,by decide⟩)
 refine bKa (q.lt (x.t (by decide))) hd ((congrFun e1 l).trans ae) P (λs b m c v r s2=>?_);refine⟨rfl,_,r,rfl,rfl,?_⟩;generalize e:bL s l _=j;have e:=e.symm;have t:dX [407] s j:=by rw[e];exact(Kp.set (bs:=[l]) (by simp)).x (λb a o d=>by simp at a;rw[a,r]at d;cases d;exact⟨_,_,_,rfl,by decide⟩)
 have i:=(congrFun e l).trans ae;have i:j l=zcL 407 [.zP p,.int .u32 1,.int .i32 0,.int .u32 0,.slice b m c,.int .i64 0]:=i;have n:=n j b m c ((x.trans v).trans t) (s2.mono (t.t (by decide)));clear e;cbv;rw[av A];refine cr i ?_;cbv;rw[av A];refine cr i ?_;cbv;exact n
def ep(b:Bs):Int:=IntKind.i64.wrap (nf (b.take 8):Int)
def eG(b:Bs):Nat->List Bs×Bs
 |0=>([],b)
 |m+1=>if 8<=b.length then if 0<=ep b/\ep b<=(b.length-8:Nat)then((b.drop 8).take (ep b).toNat::(eG (b.drop (8+(ep b).toNat)) m).1,(eG (b.drop (8+(ep b).toNat)) m).2)else([],b)else([],b)
abbrev sC:Sh Bs:=vA 5 cj
theorem DX{xs:List Bs}{len cap:Nat}(q:Sl 176 sC h (.slice b len cap) xs)
 (d:∀h' f c',Le h h'->bt 176 sC h h' (.slice f len c') xs->k (.slice f len c') h'):
 Ct 334 [.slice b len cap] h k:=by
 refine cg dKT Tryz.func334 λA m=>?_;cbv;refine ba (λa=>?_) (λa=>?_)
 .rw[m.Cc]at a;cbv;have n:b=none:=by cases b<;>simp at a |-
  subst n;have hl:len=0:=by
   rcases jKj len with e|e
   .exact e
   have:=q.bp e;cases this
  have:=q.len;have hx:xs=[]:=kh (by omega);subst hx hl;exact d _ _ _ (Le.refl _) bt.nil
 cbv;intro t j p w;have l:Le h j:=by rw[w];exact Le.set p
 cbv;refine oI (q.mono (l.t _)) rfl (by decide) (λo=>?_) (λu c s e1 r g i=>?_)
 .cbv;have:=q.len;have hx:xs=[]:=kh (by omega);subst hx o;exact d _ _ _ l bt.nil
 cbv;exact d _ _ _ (l.trans g) (i.buf (l.none e1) q.len)
theorem dQJ(l:Bs)(hl:l.length=8):aO 8 (some l)=(nf l,some []):=by simp only[aO,eP];rw[if_pos (by omega),ie (by omega),jKz (by omega)]
theorem gKq{bs:Bs}{c:Nat}(q:Sl 5 cj h (.slice b m c) bs)(hm:m<=2^30)(T:Int)
 (hk:∀h' B m1 f,Le h h'->Sl 176 sC h' (.slice B m1 f) (eG bs T.toNat).1->k (.tuple #[.slice B m1 f,.bool (decide ((eG bs T.toNat).2=[]))]) h'):
 Ct 260 [.slice b m c,.int .i64 T] h k:=by
 have ag:=q.len;obtain⟨J,P⟩:∃J:Nat->((Option Addr×Nat×Nat)×Option Addr×Nat×Nat)->ad->Prop,∀w g h',J w g h'=(∃u e,w=g.1.2.1/\(e.length:Int)<=max T 0/\u.length+8*e.length<=bs.length/\Le h h'/\Sl 5 cj h' (.slice g.1.1 g.1.2.1 g.1.2.2) u/\
  bt 176 sC h h' (.slice g.2.1 g.2.2.1 g.2.2.2) e/\eG bs T.toNat=(e++(eG u (T.toNat-e.length)).1,(eG u (T.toNat-e.length)).2)):=⟨_,λ_ _ _=>rfl⟩
 have hJ:J m ((b,m,c),none,0,0) h:=by rw[P];exact⟨bs,[],rfl,by simp only[yk];omega,by simp,Le.refl _,q,bt.nil,rfl⟩
 refine cg eXh Tryz.func260 λA O=>?_;cbv;refine aX.go (G:=(Option Addr×Nat×Nat)×Option Addr×Nat×Nat) (λg=>[(0,.v (.slice g.1.1 g.1.2.1 g.1.2.2)),(6,.v (.slice g.2.1 g.2.2.1 g.2.2.2))]) (λ_=>[]) (λw g h'=>J w g h') m ((b,m,c),none,0,0) (by constructor<;>cbv) hJ ?_
 intro w g N hI;rw[P]at hI;cbv;obtain⟨⟨gb,a,o⟩,ob,y,oc⟩:=g;obtain⟨u,e,hw,hr,an,l1,K,L,r⟩:=hI;have hw:w=a:=hw;have K:Sl 5 cj N (.slice gb a o) u:=K;have L:bt 176 sC h N (.slice ob y oc) e:=L;have nq:=K.len;have jQ:=K.bound;have ao:=L.sl.len;have f1:A .aN .geq (A .nat a) 8=decide (8<=a):=by rw[cH A,O.nat];exact decide_eq_decide.2 (by rw[rz];omega)
 have f2:A .aN .lss (A .nat y) T=decide ((y:Int)<T):=by rw[aR A,O.nat];rfl
 have fin:∀I,Le N I->(eG u (T.toNat-e.length))=([],u)->∀B f,bt 176 sC N I (.slice B y f) e->∀t,t=decide (a=0)->k (.tuple #[.slice B y f,.bool t]) I:=λI W v B f q3 t ht=>by
  rw[v]at r;simp only[vv]at r;rw[r]at hk;have:=hk I B y f (l1.trans W) q3.sl;have e1:decide (u=[])=decide (a=0):=decide_eq_decide.2 (by rw[nq];exact kXy.symm);rw[ht,<-e1];exact this
 have U:A .aN .eql (A .nat a) 0=decide (a=0):=by rw[au A,O.nat];exact decide_eq_decide.2 (by rw[rz];omega)
 rw[f1];by_cases f:8<=a
 .rw[ak f];cbv;rw[f2];by_cases c2:(y:Int)<T
  .rw[ak c2];obtain⟨j,hj⟩:∃j,T.toNat-e.length=j+1:=⟨T.toNat-e.length-1,by omega⟩;have Y:eG u (T.toNat-e.length)=if 0<=ep u/\ep u<=(u.length-8:Nat)then((u.drop 8).take (ep u).toNat::(eG (u.drop (8+(ep u).toNat)) j).1,(eG (u.drop (8+(ep u).toNat)) j).2)else([],u):=by rw[hj];show(if 8<=u.length then _ else _)=_;rw[if_pos (by omega)]
   have pH:aO 8 (some (u.take 8))=(nf (u.take 8),some []):=dQJ _ (by rw[eA];omega);have mC:(0:Int)<=8/\(8:Int)<=(o:Int):=by omega
   have d8:A .nt 8 0=8:=dy ⟨rfl⟩;have t8:=K.vo (A:=A) (z:=A .nat o) (i:=8) f rfl;have Me:ep u<0->eG u (T.toNat-e.length)=([],u):=λhh=>by rw[Y,if_neg (by omega)]
   have YO:ep u>(a:Int)-8->eG u (T.toNat-e.length)=([],u):=λhh=>by rw[Y,if_neg (by omega)]
   have X:¬ep u<0->¬ep u>(a:Int)-8->aZ (ep u) (ep u).toNat/\8+(ep u).toNat<=a/\eG bs T.toNat=((e++[(u.drop 8).take (ep u).toNat])++(eG (u.drop (8+(ep u).toNat)) (T.toNat-(e.length+1))).1,(eG (u.drop (8+(ep u).toNat)) (T.toNat-(e.length+1))).2)/\((e.length+1:Nat):Int)<=max T 0/\u.length-(8+(ep u).toNat)+8*(e.length+1)<=bs.length:=λwj al=>by
    rw[if_pos (by omega)]at Y;refine⟨⟨by omega⟩,by omega,?_,by omega,by omega⟩;rw[r,Y,show T.toNat-(e.length+1)=j by omega,ym];rfl
   have hB:y+1<=2^39:=by omega
   clear hJ Y r;cbv;refine⟨mC,?_⟩;cbv;rw[d8];refine UE t8 (λI p hp W r2=>?_);cbv;refine bQm r2 (λh3 k3 r3=>?_);rw[pH];have E:Le N h3:=W.aV (by simpa using hp) k3;have hz:IntKind.i64.wrap ((nf (u.take 8):Nat):Int)=ep u:=rfl;have NT:=K.mono (E.t [5]);have Q:=L.mono (E.t [176,5]);clear pH r3 r2 k3 t8 d8 mC hp W;rw[show IntKind.i64.wrap (((nf (u.take 8),(some []:St)).1:Nat):Int)=ep u from rfl];generalize ep u=z at *;have f3:A .aN .lss z 0=decide (z<0):=aR A ..;have ku:A .aT .sub .i64 (A .nat a) 8=(a:Int)-8:=by rw[O.aT,O.nat];show IntKind.i64.wrap ((a:Int)-8)=_;rw[IntWalk.i64_in _ (by omega)]
   have S:A .aN .gtr z (A .aT .sub .i64 (A .nat a) 8)=decide (z>(a:Int)-8):=by rw[ku];exact bC A ..
   by_cases M:z<0
   .have v:eG u (T.toNat-e.length)=([],u):=Me M;have fin:=λd l=>fin d (E.trans l) v;cbv;rw[f3,ak M];cbv;refine DX Q.sl (λd C D l x=>?_);cbv;rw[U];exact fin d l C D (x.base E) _ rfl
   by_cases R:z>(a:Int)-8
   .have v:eG u (T.toNat-e.length)=([],u):=YO R;have fin:=λd l=>fin d (E.trans l) v;rw[ak R]at S;cbv;rw[f3,bn M];cbv;rw[S];cbv;refine DX Q.sl (λd C D l x=>?_);cbv;rw[U];exact fin d l C D (x.base E) _ rfl
   rw[bn R]at S;obtain⟨ll,OI,r,XY,lq⟩:=X M R;generalize z.toNat=n at *;have V:aZ 8 8:=⟨rfl⟩;have F:aZ (A .aT .add .i64 8 z) (8+n):=V.add (A:=A) ll (by omega);have jC:0<=A .aT .add .i64 8 z/\A .aT .add .i64 8 z<=(o:Int)/\0<=(8:Int)/\(8:Int)<=A .aT .add .i64 8 z:=by have:=F.eq;omega
   have zh:0<=A .aT .add .i64 8 z/\A .aT .add .i64 8 z<=(a:Int):=by have:=F.eq;omega
   have Ua:A .nt (A .aT .add .i64 8 z) 8=n:=by rw[JO (A:=A) F V];omega
   have Kn:A .nt (A .nat o) 8=o-8:=cJ (A:=A) V;have Rf:=cJ (A:=A) (n:=a) F;have ab:=cJ (A:=A) (n:=o) F;have tm:=NT.bJW (A:=A) V (m:=n) (by omega) rfl;have td:=NT.jD (A:=A) F (by omega) rfl rfl;have bX:∀h' m' H c',Le h h'->Sl 5 cj h' (.slice (A .cut gb (A .aT .add .i64 8 z) (A .nat o) 1) (a-(8+n)) (o-(8+n))) (u.drop (8+n))->bt 176 sC h h' (.slice H m' c') (e++[(u.drop 8).take n])->
    J (a-(8+n)) ((A .cut gb (A .aT .add .i64 8 z) (A .nat o) 1,a-(8+n),o-(8+n)),H,m',c') h':=λh' m' H c' l' s' q'=>by
    rw[P];exact⟨_,_,rfl,by rw[cy];exact XY,by rw[cy,iz];exact lq,l',s',q',by rw[cy];exact r⟩
   clear fin r hk P Me YO X;cbv;rw[f3,bn M];cbv;rw[S];cbv;refine⟨jC,?_⟩;cbv;rw[Ua,Kn];refine Gi tm (λh4 b4 uV l4 q4=>?_);cbv;intro n5 d LU Z;have l:Le h4 d:=by rw[Z];exact Le.set LU
   have x:Sl 176 sC d (.slice (zsA n5) 1 1) [(u.drop 8).take n]:=bf (s:=sC) ((congrFun Z n5).trans ae) ⟨_,rfl,q4.sl.mono (l.t _)⟩;clear Z;cbv;refine(Q.mono ((l4.trans l).t _)).app x (by decide) rfl (by decide) hB ((l1.trans E).trans (l4.trans l)) (λm' H c' h6 GS l6 t6 k6 q6=>?_);have iD:=bX h6 m' H c' l6 ((td.mono ((l4.trans l).t _)).mono (t6 _ (by decide))) q6;clear bX;cbv;refine⟨zh,?_⟩;cbv;rw[Rf,ab];refine⟨a-(8+n),((_,_,_),H,m',c'),by omega,by constructor<;>cbv,iD⟩
  rw[bn c2];have v:eG u (T.toNat-e.length)=([],u):=by rw[show T.toNat-e.length=0 by omega];rfl
  have fin:=λd l=>fin d l v;clear r;cbv;refine DX L.sl (λd C D l x=>?_);cbv;rw[U];exact fin d l C D x _ rfl
 rw[bn f];have v:eG u (T.toNat-e.length)=([],u):=by
  cases T.toNat-e.length with
  |zero=>rfl
  |succ j=>show(if 8<=u.length then _ else _)=_;rw[if_neg (by omega)]
 have fin:=λd l=>fin d l v;clear r;cbv;refine DX L.sl (λd C D l x=>?_);cbv;rw[U];exact fin d l C D x _ rfl
structure hKI where
 size:Int
 count:Int
 eO:List Bs
 bad:Bool
def uZ(p:Bs):Int:=IntKind.i64.wrap (nf (p.take 8):Int)
def Ay(D:Dk)(size count:Int):hKI:=
 if size<0\/count<0\/size>(dE D).length then⟨size,count,[],true⟩
 else⟨size,count,(eG ((dE D).take size.toNat) count.toNat).1,!decide ((eG ((dE D).take size.toNat) count.toNat).2=[])||decide (((eG ((dE D).take size.toNat) count.toNat).1.length:Int)≠count)⟩
def gA(D:Dk):hKI×Int:=if D.dead then(⟨0,0,[],true⟩,15)else(Ay D (uZ (dp D 0)) (uZ ((dp D 0).drop 8)),0)
abbrev Qu:List Nat:=[407]
theorem WL(q:nI h p D):(dE D).length<=2^18:=by
 unfold dE;rw[sS (λb a=>by
  obtain⟨i,c⟩:=jKA.1 (jKd a);exact q.pg c),iz]
 have:=q.max;omega
theorem dQV(q:nI h p D)(hP:1<=D.now.length)
 (f:∀h' b m c F e,(F,e)=gA D->dX Qu h h'->Sl 176 sC h' (.slice b m c) F.eO->k (.tuple #[.agg #[.int .i64 F.size,.int .i64 F.count,.slice b m c,.bool F.bad],.int .i64 e]) h'):
 Ct 140 [.zP p] h k:=by
 obtain⟨A,P⟩:=Ar.ex;have L:A .aN .neq 15 0=true:=by rw[az A];rfl
 have Y:A .aN .neq 0 0=false:=by rw[az A];rfl
 have N:fj D 0 0=if D.dead then 15 else 0:=by
  unfold fj;split
  .rfl
  rw[if_neg];rintro(hh|hh|hh)<;>omega
 have tq:=WL q;have Q:gA D=if D.dead then(⟨0,0,[],true⟩,15)else(Ay D (uZ (dp D 0)) (uZ ((dp D 0).drop 8)),0):=rfl
 refine fz eJf A Tryz.func140 ?_;cbv;refine ZZ q 0 (λZ=>?_) (λG h1 b1 u l1 OE q1=>?_)
 .have X:D.dead=true:=by
   cases hd:D.dead with
   |true=>rfl
   |false=>rw[N,hd]at Z;exact absurd rfl Z
  have G:fj D 0 0=15:=by rw[N,X];rfl
  rw[X]at Q;have:=f h none 0 0 _ _ Q.symm (dX.refl _ _) Sl.nil;rw[G];clear Q;cbv;rw[L];cbv;exact this
 have X:D.dead=false:=by
  cases hd:D.dead with
  |false=>rfl
  |true=>rw[N,hd]at G;cases G
 rw[X]at Q;have Q:gA D=(Ay D (uZ (dp D 0)) (uZ ((dp D 0).drop 8)),0):=Q;have M:aO 8 (some (dp D 0))=(nf ((dp D 0).take 8),some ((dp D 0).drop 8)):=by simp only[aO,eP];rw[if_pos (by omega)]
 have eU:aO 8 (some ((dp D 0).drop 8))=(nf (((dp D 0).drop 8).take 8),some (((dp D 0).drop 8).drop 8)):=by simp only[aO,eP];rw[if_pos (by rw[iz];omega)]
 have o:IntKind.i64.wrap ((aO 8 (some (dp D 0))).1:Int)=uZ (dp D 0):=by rw[M];rfl
 have W:IntKind.i64.wrap ((aO 8 (some ((dp D 0).drop 8))).1:Int)=uZ ((dp D 0).drop 8):=by rw[eU];rfl
 have V:(aO 8 (some (dp D 0))).2=some ((dp D 0).drop 8):=by rw[M]
 clear M eU;cbv;rw[Y];cbv;refine UE q1.sl (λh2 pr H l2 r2=>?_);cbv;refine bQm r2 (λh3 k3 T=>?_);rw[V]at T;rw[o];clear o V;generalize uZ (dp D 0)=s at *;cbv;refine bQm T (λh4 k4 r4=>?_);rw[W];have l4:Le h h4:=l1.trans (l2.aV (by simpa using H) (k3.trans k4));clear W r2 T r4;generalize uZ ((dp D 0).drop 8)=n at *;rw[Q]at f;have d4:=q.le l4;cbv;intro l h5 hl I;have l5:Le h4 h5:=by rw[I];exact Le.set hl
 have g5:=(congrFun I l).trans ae;have d5:=d4.le l5;clear I;cbv;refine cXW d5 X g5 hP (λE b m c x6 U=>?_);have K:dX Qu h E:=((l4.trans l5).x _).trans x6;have hm:=U.len;have jQ:=U.bound;have d:Ay D s n=if s<0\/n<0\/s>(dE D).length then⟨s,n,[],true⟩
  else⟨s,n,(eG ((dE D).take s.toNat) n.toNat).1,!decide ((eG ((dE D).take s.toNat) n.toNat).2=[])||decide (((eG ((dE D).take s.toNat) n.toNat).1.length:Int)≠n)⟩:=rfl
 generalize dE D=r at *;have j:A .aN .lss s 0=decide (s<0):=aR A ..;have v:A .aN .lss n 0=decide (n<0):=aR A ..;have C:A .aN .gtr s (A .nat m)=decide (s>(r.length:Int)):=by rw[bC A,P.nat,hm];rfl
 have a:s<0\/n<0\/s>(r.length:Int)->∀h',dX Qu h h'->k (.tuple #[.agg #[.int .i64 s,.int .i64 n,.slice none 0 0,.bool true],.int .i64 0]) h':=λhb h' x'=>by
  rw[if_pos hb]at d;exact f h' none 0 0 ⟨s,n,[],true⟩ 0 (by rw[d]) x' Sl.nil
 by_cases u:s<0
 .have a:=a (.inl u) E K;rw[ak u]at j;clear d f;cbv;rw[Y];cbv;rw[j];cbv;exact a
 rw[bn u]at j;by_cases x:n<0
 .have a:=a (.inr (.inl x)) E K;rw[ak x]at v;clear d f;cbv;rw[Y];cbv;rw[j];cbv;rw[v];cbv;exact a
 rw[bn x]at v;by_cases B:s>(r.length:Int)
 .have a:=a (.inr (.inr B)) E K;rw[ak B]at C;clear d f;cbv;rw[Y];cbv;rw[j];cbv;rw[v];cbv;rw[C];cbv;exact a
 rw[bn B]at C;rw[if_neg (λg=>g.elim u (λg=>g.elim x B))]at d;have ig:aZ s s.toNat:=⟨by omega⟩;have ey:0<=s/\s<=(c:Int):=by omega
 have dd:=dy (A:=A) ig;have ts:=U.vo (A:=A) (z:=A .nat c) (i:=s.toNat) (by omega) rfl;have O:s.toNat<=2^30:=by omega
 have y:∀h' w m' c' t,dX Qu h h'->Sl 176 sC h' (.slice w m' c') (eG (r.take s.toNat) n.toNat).1->t=(!decide ((eG (r.take s.toNat) n.toNat).2=[])||decide (((eG (r.take s.toNat) n.toNat).1.length:Int)≠n))->k (.tuple #[.agg #[.int .i64 s,.int .i64 n,.slice w m' c',.bool t],.int .i64 0]) h':=λh' w m' c' t x' s' ht=>by
  subst ht;exact f h' w m' c' _ 0 (by rw[d]) x' s'
 clear d f a;cbv;rw[Y];cbv;rw[j];cbv;rw[v];cbv;rw[C];cbv;refine⟨ey,?_⟩;cbv;rw[dd];refine gKq ts O n (λh7 b7 m7 c7 l7 s7=>?_);have S:=s7.len;have y:=λt=>y h7 b7 m7 c7 t (K.trans (l7.x _)) s7;generalize eG (r.take s.toNat) n.toNat=R at *;have f7:A .aN .neq (A .nat m7) n=decide ((R.1.length:Int)≠n):=by rw[az A,P.nat,S];rfl
 generalize decide ((R.1.length:Int)≠n)=t2 at *;generalize decide (R.2=[])=t1 at *;have J:A .not t1= !t1:=by rw[P.not]
 cases t1 with
 |true=>have y:=y _ rfl;cbv;rw[J];cbv;rw[f7];cbv;exact y
 |false=>have y:=y _ rfl;cbv;rw[J];cbv;exact y
theorem cXE:jr Tryz.prog 329 Tryz.f329:=⟨Tryz.func329,by kernel_rfl,by kernel_rfl,by kernel_rfl⟩
theorem cXD:jr Tryz.prog 182 Tryz.f182:=⟨Tryz.func182,by kernel_rfl,by kernel_rfl,by kernel_rfl⟩
theorem cXF:jr Tryz.prog 332 Tryz.f332:=⟨Tryz.func332,by kernel_rfl,by kernel_rfl,by kernel_rfl⟩
theorem Jl{b:Nat}{x:Int}(q:oh h ⟨b,o,none⟩ (.int .i64 x))(a:k (.int .i64 x) h):Ct 247 [.pointer (some ⟨b,o,none⟩)] h k:=by refine cg eXt Tryz.func247 λA c=>?_;cbv;rw[av A];refine Mn cXE (by kernel_rfl) q ?_;cbv;exact a
theorem IQ{b ty:Nat}{x:Value}(g:h b=zcL ty c)(hx:c[o]? =some x)(y:Int)(f:∀h',h'=bL h b (.cells (c.set o (.int .i64 y)).toArray ty (0,0))->k (.tuple #[]) h'):Ct 76 [.pointer (some ⟨b,o,none⟩),.int .i64 y] h k:=by refine cg hJK Tryz.func76 λA i=>?_;cbv;rw[av A];refine Cr cXD (by kernel_rfl) (cm g hx) (λc' e a e1 d=>?_);have u:Up h b o (.int .i64 y) a:=⟨c',e,e1,d⟩;have:=f a (u.exp g);cbv;exact this
theorem bZf{b ty:Nat}{x:Int}(g:h b=zcL ty c)(hx:c[o]? =some (.int .i64 x))(y:Int)(f:∀h',h'=bL h b (.cells (c.set o (.int .i64 (IntKind.i64.wrap (x+y)))).toArray ty (0,0))->k (.int .i64 (IntKind.i64.wrap (x+y))) h'):Ct 253 [.pointer (some ⟨b,o,none⟩),.int .i64 y] h k:=by refine cg aKI Tryz.func253 λA i=>?_;cbv;rw[av A];refine JH cXF (by kernel_rfl) (cm g hx) (λc' e a e1 d=>?_);have u:Up h b o (.int .i64 (IntKind.i64.wrap (x+y))) a:=⟨c',e,e1,d⟩;have:=f a (u.exp g);generalize IntKind.i64.wrap (x+y)=z at *;cbv;exact this
structure ID(h:ad)(g p:Nat)(size count:Int):Prop where
 out:h g=zcL 294 [.zP p,.int .i64 size,.int .i64 count]
theorem ID.lt{g:Nat}{s c:Int}(q:ID h g p s c)(l:cO [294] h h'):ID h' g p s c:=⟨l _ _ _ _ (by decide) q.out⟩
theorem aQo(q:nI h p D)(P:1<=D.now.length)
 (M:∀h' e,dX Qu h h'->e=(if(gA D).2≠0 then(gA D).2 else 10)->((gA D).2≠0\/(gA D).1.bad=true)->k (.tuple #[.pointer none,.slice none 0 0,.int .i64 e]) h')
 (f:∀h' g b m c,(gA D).2=0->(gA D).1.bad=false->dX Qu h h'->ID h' g p (gA D).1.size (gA D).1.count->Sl 176 sC h' (.slice b m c) (gA D).1.eO->k (.tuple #[.zP g,.slice b m c,.int .i64 0]) h'):
 Ct 63 [.zP p] h k:=by
 obtain⟨A,I⟩:=Ar.ex;have n:A .aN .neq 10 0=true:=by rw[az A];rfl
 have Y:A .aN .neq 0 0=false:=by rw[az A];rfl
 have Z:A .aN .eql 0 0=true:=by rw[au A];rfl
 refine fz hJS A Tryz.func63 ?_;cbv;refine dQV q P (λd b m c F e i x s1=>?_);rw[<-i]at M f;obtain⟨G,y,K,j⟩:=F;have s:A .aN .eql e 0=decide (e=0):=au A ..;have t:A .aN .neq e 0=decide (e≠0):=az A ..;by_cases a:e=0
 .subst a;cases j with
  |true=>have:=M d 10 x (by rw[if_neg (λg=>g rfl)]) (.inr rfl);clear M f i;cbv;rw[Z];cbv;rw[n];cbv;exact this
  |false=>
   have f:=λh' g=>f h' g b m c rfl rfl;clear M i;cbv;rw[Z];cbv;rw[Y];cbv;intro g E v l;have J:Le d E:=by rw[l];exact Le.set v
   have z:=(congrFun l g).trans ae;cbv;rw[av A];refine IQ z rfl G (λH o=>?_);have B:=(congrFun o g).trans ae;cbv;rw[av A];refine IQ B rfl y (λu r=>?_);have C:=(congrFun r g).trans ae;have w:Le d u:=by rw[r,o,ek,l,ek];exact Le.set v
   have:=f u g (x.trans (w.x _)) ⟨C⟩ (s1.mono (w.t _));cbv;exact this
 have:=M d e x (by rw[if_pos a]) (.inl a);rw[bn a]at s;have O:e≠0:=a;rw[ak O]at t;clear M f i;cbv;rw[s];cbv;rw[t];cbv;exact this
theorem storeT{b ty:Nat}{x:Value}(g:h b=zcL ty c)(hx:c[o]? =some x)(f:∀h',h'=bL h b (.cells (c.set o (.int .u32 1)).toArray ty (0,0))->k (.tuple #[]) h'):Ct 77 [.pointer (some ⟨b,o,none⟩),.bool true] h k:=by refine cg fQZ Tryz.func77 λA i=>?_;cbv;refine(hJm h).mono (λv a hR=>?_);obtain⟨rfl,rfl⟩:=hR;cbv;rw[av A];refine Cr YW (by kernel_rfl) (cm g hx) (λc' e a e1 d=>?_);have u:Up _ b o (.int .u32 1) a:=⟨c',e,e1,d⟩;have:=f a (u.exp g);cbv;exact this
def eM(D:Dk):Bool×Dk:=if D.left>0 then if IntKind.i64.wrap (D.left+ -1)=0 then(true,{ D with left:=0,dead:=true })else(false,{ D with left:=IntKind.i64.wrap (D.left+ -1) })else(false,D)
theorem nI.vh(q:nI h p D){G:Prop}{left:Int}{dead:Bool}
 (l:∀k n b a c d,h p=zcL 94 [.int .i64 D.left,.int .u32 d,.slice (zsA k) D.now.length D.now.length,.slice (zsA n) D.now.length D.now.length,.slice b a c]->(d=0\/d=1)->
  (∀h',h'=bL h p (.cells #[.int .i64 left,.int .u32 (if dead then 1 else 0),.slice (zsA k) D.now.length D.now.length,.slice (zsA n) D.now.length D.now.length,.slice b a c] 94 (0,0))->nI h' p { D with left:=left,dead:=dead })->(d=if D.dead then 1 else 0)->G):G:=by
 obtain⟨k,n,b,a,c,d,g,o1,o2,e1,i,f,w,j⟩:=q.out;refine l k n b a c d g (by rw[f];cases D.dead<;>simp) (λh' e=>?_) f;have lt:∀tys,94∉tys->cO tys h h':=λtys m=>by rw[e];exact cO.set g m
 exact⟨k,n,b,a,c,_,(congrFun e p).trans ae,o1.mono (lt _ (by decide)),o2.mono (lt _ (by decide)),e1,i,rfl,w.mono (lt _ (by decide)),j⟩
theorem gN{c:Array Value}{o:Obj}(g:h p=some (.cells c e fr)){ex:List Nat}(d:e∈ex):dX ex h (bL h p o):=λb o' a S=>by
 have i:b≠p:=λe1=>by rw[e1,g]at a;cases a;exact S _ _ _ rfl d
 rw[ck i];exact a
theorem bQB(q:nI h p D)(b:∀h',dX dT h h'->nI h' p (eM D).2->k (.bool (eM D).1) h'):Ct 331 [.zP p] h k:=by
 obtain⟨A,v⟩:=Ar.ex;refine q.vh (left:=if IntKind.i64.wrap (D.left+ -1)=0 then 0 else IntKind.i64.wrap (D.left+ -1)) (dead:=if IntKind.i64.wrap (D.left+ -1)=0 then true else D.dead) (λw x y B z d g hd up s=>?_);have t:A .aN .gtr D.left 0=decide (D.left>0):=bC A ..;have e:A .aN .eql (IntKind.i64.wrap (D.left+ -1)) 0=decide (IntKind.i64.wrap (D.left+ -1)=0):=au A ..;have P:eM D=if D.left>0 then if IntKind.i64.wrap (D.left+ -1)=0 then(true,{ D with left:=0,dead:=true })else(false,{ D with left:=IntKind.i64.wrap (D.left+ -1) })else(false,D):=rfl
 generalize Z:D.left=n at *;obtain⟨f,a⟩:∃f,f=IntKind.i64.wrap (n+ -1):=⟨_,rfl⟩;rw[<-a]at e P up;refine fz dKV A Tryz.func331 ?_;cbv;rw[av A];refine Jl (cm g rfl) ?_;cbv;rw[t];by_cases i:n>0
 .rw[if_pos i]at P;rw[ak i];cbv;rw[av A];refine bZf g rfl (-1) (λl e1=>?_);rw[<-a]at e1 |-;have u:=(congrFun e1 p).trans ae;by_cases c:f=0
  .rw[if_pos c]at P;rw[if_pos c,if_pos c]at up;rw[ak c]at e;clear a;subst c;cbv;rw[e];cbv;rw[av A];refine storeT u rfl (λm j=>?_);rw[e1,ek]at j;have r:=up m j;rw[P]at b;have:=b m (by rw[j];exact gN g (by decide)) r;clear b P up;cbv;exact this
  rw[if_neg c]at P;rw[if_neg c,if_neg c,<-s]at up;rw[bn c]at e;have o:=up l e1;rw[P]at b;have:=b l (by rw[e1];exact gN g (by decide)) o;clear b P up a;cbv;rw[e];cbv;exact this
 rw[if_neg i]at P;rw[bn i];rw[P]at b;have:=b h (dX.refl _ _) q;clear b P;cbv;exact this
def Qo(g:Nat->Int):List Value:=[.int .u8 (g 0),.int .u8 (g 1),.int .u8 (g 2),.int .u8 (g 3),.int .u8 (g 4),.int .u8 (g 5),.int .u8 (g 6),.int .u8 (g 7),.int .u8 (g 8),.int .u8 (g 9),.int .u8 (g 10),.int .u8 (g 11),.int .u8 (g 12),.int .u8 (g 13),.int .u8 (g 14),.int .u8 (g 15),.int .u8 (g 16),.int .u8 (g 17),.int .u8 (g 18),.int .u8 (g 19),.int .u8 (g 20),.int .u8 (g 21),.int .u8 (g 22),.int .u8 (g 23),.int .u8 (g 24),.int .u8 (g 25),.int .u8 (g 26),.int .u8 (g 27),.int .u8 (g 28),.int .u8 (g 29),.int .u8 (g 30),.int .u8 (g 31),.int .u8 (g 32),.int .u8 (g 33),.int .u8 (g 34),.int .u8 (g 35),.int .u8 (g 36),.int .u8 (g 37),.int .u8 (g 38),.int .u8 (g 39),.int .u8 (g 40),.int .u8 (g 41),.int .u8 (g 42),.int .u8 (g 43),.int .u8 (g 44),.int .u8 (g 45),.int .u8 (g 46),.int .u8 (g 47),.int .u8 (g 48),.int .u8 (g 49),.int .u8 (g 50),.int .u8 (g 51),.int .u8 (g 52),.int .u8 (g 53),.int .u8 (g 54),.int .u8 (g 55),.int .u8 (g 56),.int .u8 (g 57),.int .u8 (g 58),.int .u8 (g 59),.int .u8 (g 60),.int .u8 (g 61),.int .u8 (g 62),.int .u8 (g 63)]
theorem bJA{b:Bs}(c:b.length=64):∃g,Qo g=aQ b:=by
 refine⟨λi=>((b.getD i 0).toNat:Int),?_⟩;have h:Qo (λi=>((b.getD i 0).toNat:Int))=(List.range 64).map λi=>Value.int .u8 ((b.getD i 0).toNat:Int):=rfl;rw[h];apply yr;intro i;unfold aQ;rw[kS,kS];by_cases a:i<64
 .rw[List.getElem?_range a,zG (by omega:i<b.length)];simp[zG (by omega:i<b.length)]
 rw[yo (by simp;omega),yo (by omega)];rfl
def eI(l:Bs):Bs:=l++List.replicate (64-l.length) 0
theorem sF{l:Bs}(h:l.length<=64):(eI l).length=64:=by unfold eI;rw[cy,yl];omega
theorem Wg{c:Nat}{l:Bs}(q:Sl e cj h (.slice b m c) l):bQH h b m (aQ l):=by
 have n:=q.len;subst n;obtain⟨j,cap,e1,k,o,f⟩:=q.out;cases e1;rcases f with rfl| ⟨lE,off,cc,fr,rfl,g,d⟩
 .exact .inl ⟨rfl,rfl⟩
 refine .inr ⟨_,rfl,rfl,by simp[aQ],cc,_,fr,g,λi a=>?_⟩;have hx:=d.2 i l[i] (by simp[a]);have hx:((cc.toList.drop (off+i*1)).take 1)=[.int .u8 (l[i].toNat:Int)]:=hx;have:=congrArg (λz=>z[0]?) hx;simp only[qH,rB]at this;unfold aQ;rw[kS,zG a];simpa using this
theorem Td{o:Obj}(g:h n=some o):bL h n o=h:=by
 funext b;unfold bL;split
 .rename_i e;rw[e,g]
 rfl
theorem dQa(cs:List Value):∀c:List Value,cs.length<=c.length->ia c 0 cs=cs++c.drop cs.length:=λc hl=>by
 apply yr;intro j;rw[mH _ _ _ _ (by omega)];by_cases h:j<cs.length
 .rw[if_pos (by omega),kQa h,jKW]
 rw[if_neg (by omega),kQe (by omega),rB];congr 1;omega
theorem aKl{ty:Nat}{c:Nat}{l:Bs}(d:h n=zcL ty (List.replicate 64 (.int .u8 0)))(o:Sl e1 cj h (.slice b m c) l)(p:m<=64)
 (f:∀h' g z,h'=bL h n (.cells (Qo g).toArray ty (0,0))->Qo g=aQ (eI l)->k (.int .i64 z) h'):yK h (zsA n) 64 b m 1 k:=by
 have i:=o.len;obtain⟨g,a⟩:=bJA (sF (l:=l) (by omega));have q:(aQ l).length=l.length:=by simp[aQ]
 have bL:ia (List.replicate 64 (.int .u8 0)) 0 (aQ l)=Qo g:=by rw[a,dQa _ _ (by rw[q,yl];omega),q,List.drop_replicate];unfold eI aQ;rw[jKH,List.map_replicate];rfl
 refine⟨aQ l,?_,iN l,?_⟩
 .rw[jKf p,jKp];exact Wg o
 by_cases j:aQ l=[]
 .refine .inl ⟨j,f _ g _ ?_ a⟩;rw[j]at bL;rw[<-bL];exact(Td d).symm
 refine .inr ⟨_,rfl,ju d (by rw[q,yl];omega) (λh' e=>f h' g _ ?_ a)⟩;rw[e,bL]
def bJ(D:Dk)(n:Int)(l:Bs):Int×Dk:=
 if fj D n l.length≠0 then(fj D n l.length,D)
 else(if(eM { D with now:=D.now.set n.toNat (eI l),ws:=D.ws++[(n,eI l)] }).1 then 15 else 0,(eM { D with now:=D.now.set n.toNat (eI l),ws:=D.ws++[(n,eI l)] }).2)
theorem ZU(q:nI h p D)(n:Int){c:Nat}{l:Bs}(qb:Sl e1 cj h (.slice b m c) l)(hw:D.ws.length<=2^38)
 (a:∀h',dX dT h h'->nI h' p (bJ D n l).2->k (.int .i64 (bJ D n l).1) h'):
 Ct 250 [.zP p,.int .i64 n,.slice b m c] h k:=by
 obtain⟨A,hA⟩:=Ar.ex;have y:=qb.len;have rX:A .nat m=((l.length:Nat):Int):=by rw[hA.nat,y];rfl
 have w:A .aN .neq (fj D n l.length) 0=decide (fj D n l.length≠0):=az A ..;have u:bJ D n l=if fj D n l.length≠0 then(fj D n l.length,D)else(if(eM { D with now:=D.now.set n.toNat (eI l),ws:=D.ws++[(n,eI l)] }).1 then 15 else 0,(eM { D with now:=D.now.set n.toNat (eI l),ws:=D.ws++[(n,eI l)] }).2):=rfl
 have N:fj D n l.length=0->aZ n n.toNat/\n.toNat<D.now.length/\m<=64:=λx=>by
  unfold fj at x;split at x
  .cases x
  split at x
  .cases x
  rename_i v;have h1:¬n<0:=λg=>v (.inl g);have G:¬n>=(D.now.length:Int):=λg=>v (.inr (.inl g));have H:¬(l.length:Int)>64:=λg=>v (.inr (.inr g));exact⟨⟨by omega⟩,by omega,by omega⟩
 refine fz eXq A Tryz.func250 ?_;cbv;rw[rX];refine MD q n _ ?_;by_cases z:fj D n l.length≠0
 .rw[if_pos z]at u;rw[u]at a;have:=a h (dX.refl _ _) q;rw[ak z]at w;clear a u N;generalize fj D n l.length=r at *;cbv;rw[w];cbv;exact this
 rw[if_neg z]at u;rw[u]at a;have tu:fj D n l.length=0:=by omega
 obtain⟨v,Yf,X⟩:=N tu;rw[bn z]at w;rw[tu]at w |-;clear u N z;cbv;rw[w];cbv;intro C h1 pH e1;have l1:Le h h1:=by rw[e1];exact Le.set pH
 have g8:=(congrFun e1 C).trans ae;have q1:=q.le l1;clear e1;cbv;refine aKl g8 (qb.mono (l1.t _)) X (λG g zz L hg=>?_);have l2:Le h G:=l1.aV (bs:=[C]) (by simpa using pH) (by rw[L];exact Kp.set (by simp));have Z:=(congrFun L C).trans ae;have q2:=q.le l2;obtain⟨kb,I,wb,wn,wc,d,F,o1,o2,x1,x2,x3,w2,x4⟩:=q2.out;have YM:=sF (l:=l) (by omega);have ey:(some (⟨I,0,none⟩:Addr)).isSome=true/\0<=n/\n<(D.now.length:Int):=⟨rfl,v.ix Yf⟩;obtain⟨P,K⟩:∃P,P=D.now.length:=⟨_,rfl⟩;rw[<-K]at F o1 o2 ey x1 x4;have U:C≠I:=λe=>by
  obtain⟨al,an,aw,aq,ar,d',g',ao,f,_,_,_,_,_⟩:=q.out;have:=l2 _ _ g';rw[<-K]at this f;rw[F]at this;cases this;rw[<-e]at f;exact f.has pH
 clear L q1;cbv;rw[av A];refine cr F ?_;cbv;refine cr Z ?_;cbv;refine⟨ey,?_⟩;cbv;have hR:pq.R G (Qo g) (eI l):=⟨hg,YM⟩;refine o2.setAt (by decide) (i:=n.toNat) (by omega) v.eq rfl hR (λH k3 t3 o3=>?_);have Tj:C∉[I]:=by simpa using U
 have ag:=k3 _ _ Z Tj;have g3:=t3 [94] (by decide) _ _ _ _ (by simp) F;have ab:=o1.kp k3 (by simpa using x2) (λ_ _ _ _ hm=>by cases hm);have w3:=w2.mono (t3 [213] (by decide));have W:dX dT G H:=k3.x (λb hb o ho=>by
  simp at hb;subst hb;obtain⟨c',zl,-⟩:=o2.out;rw[zl]at ho;cases ho;exact⟨_,_,_,rfl,by decide⟩)
 have Q:wn+1<=2^39:=by have:=w2.sl.len;omega
 cbv;rw[av A];refine cr g3 ?_;cbv;refine cr ag ?_;cbv;intro n9 h4 nj M;have B:Le H h4:=by rw[M];exact Le.set nj
 have q9:Sl 213 Sy h4 (.slice (zsA n9) 1 1) [(n,eI l)]:=bf (s:=Sy) ((congrFun M n9).trans ae) ⟨by
  show .int .i64 n::Qo g=_;rw[hg],YM⟩
 have g4:=B _ _ g3;clear M;cbv;refine cr g4 ?_;cbv;refine⟨⟨_,rfl,rfl⟩,?_⟩;cbv;refine(w3.mono (B.t _)).app q9 (by decide) rfl (by decide) Q (λ_ _ T=>by cases T) (λm' b' c' h5 GS _ t5 k5 w5=>?_);have O:=t5 [94] (by decide) _ _ _ _ (by simp) g4;have o5:=(o3.mono (B.t _)).mono (t5 [211] (by decide));have Y:=(ab.mono (B.t _)).mono (t5 [211] (by decide));have V:dX dT H h5:=λj o hj bS=>k5 j o (B j o hj) (.inr (.inr (λc fr e=>bS _ _ _ e (by decide))));cbv;rw[av A];refine ju O (by simp) (λS E=>?_);have g6:=(congrFun E p).trans ae;have t6:∀tys,94∉tys->cO tys h5 S:=λtys T=>by rw[E];exact cO.set O T
 have J:dX dT h S:=(l2.x _).trans (W.trans (V.trans (by rw[E];exact gN O (by decide))));have q6:nI S p { D with now:=D.now.set n.toNat (eI l),ws:=D.ws++[(n,eI l)] }:=⟨kb,I,b',m',c',d,by
  rw[show(D.now.set n.toNat (eI l)).length=P by rw[nM,K]];exact g6,by
  rw[show(D.now.set n.toNat (eI l)).length=P by rw[nM,K]];exact Y.mono (t6 _ (by decide)),by
  rw[show(D.now.set n.toNat (eI l)).length=P by rw[nM,K]];exact o5.mono (t6 _ (by decide)),by
  rw[show(D.now.set n.toNat (eI l)).length=P by rw[nM,K]];exact x1,x2,x3,w5.mono (t6 _ (by decide)),by
  rw[show(D.now.set n.toNat (eI l)).length=P by rw[nM,K]];exact x4⟩
 generalize ({ D with now:=D.now.set n.toNat (eI l),ws:=D.ws++[(n,eI l)] }:Dk)=D1 at *;clear E;cbv;rw[av A];refine bQB q6 (λh7 x7 q7=>?_);have a:=a h7 (J.trans x7) q7;generalize eM D1=R at *;obtain⟨t,D2⟩:=R;cases t with
 |true=>cbv;exact a
 |false=>cbv;exact a
def dw(D:Dk):Int×Dk:=if D.dead then(15,D)else if(eM D).1 then(15,(eM D).2)else(0,{ (eM D).2 with kept:=(eM D).2.now,ws:=[] })
theorem Zm{c:Type}{s:Sh c}{a G P:Nat}{xs ys:List c}(o1:cZ e s h a P xs)(o2:cZ e s h G P ys)(hx:xs.length=P)(y:ys.length=P)(l:e∉s.tys){b:Nat}(o:b=s.n)
 (m:∀h' z,Kp [a] h h'->(∀tys,e∉tys->cO tys h h')->cZ e s h' a P ys->k (.int .i64 z) h'):yK h (zsA a) P (zsA G) P b k:=by
 subst o;obtain⟨cs,d,f,g,j⟩:=(o2.sl (n:=P) y.symm).kL;have r:Sx.Rows s h cs 0 ys:=by have:=j h (cO.refl _ _) [] [];simpa using this
 refine⟨cs,by rw[kQX];exact d,g,.inr ⟨⟨a,0,none⟩,rfl,?_⟩⟩;have:=o1.write (ys:=ys) l (i:=0) (by omega) (by omega) (by have:=o2.bd;omega) (cs:=cs) (by rw[f,y]) r (k:=λh'=>k (.int .i64 ((min P P:Nat):Int)) h') (λh' p t o'=>m h' _ p t (by
  have e1:xs.take 0++ys++xs.drop (0+ys.length)=ys:=by rw[List.take_zero,np,jKz (by omega),vv]
  rw[e1]at o';exact o'))
 rw[Nat.zero_mul]at this;exact this
theorem bZk(q:nI h p D)(c:∀h',dX dT h h'->nI h' p (dw D).2->k (.int .i64 (dw D).1) h'):
 Ct 252 [.zP p] h k:=by
 have a:dw D=if D.dead then(15,D)else if(eM D).1 then(15,(eM D).2)else(0,{ (eM D).2 with kept:=(eM D).2.now,ws:=[] }):=rfl
 refine cg eXo Tryz.func252 λA J=>?_;cbv;rw[av A];refine bZu q ?_;cases hd:D.dead with
 |true=>rw[hd]at a;have a:dw D=(15,D):=a;rw[a]at c;have:=c h (dX.refl _ _) q;clear c a;cbv;exact this
 |false=>
  rw[hd]at a;have a:dw D=if(eM D).1 then(15,(eM D).2)else(0,{ (eM D).2 with kept:=(eM D).2.now,ws:=[] }):=a
  rw[a]at c;clear a;cbv;rw[av A];refine bQB q (λm x i=>?_);generalize eM D=R at *;obtain⟨t,D1⟩:=R;cases t with
  |true=>have:=c m x i;clear c;cbv;exact this
  |false=>
   have c:∀h',dX dT h h'->nI h' p { D1 with kept:=D1.now,ws:=[] }->k (.int .i64 0) h':=c;have i:nI m p D1:=i;obtain⟨E,F,L,N,M,d,g,o1,o2,y1,y2,y3,w,y4⟩:=i.out;obtain⟨P,K⟩:∃P,P=D1.now.length:=⟨_,rfl⟩;rw[<-K]at g o1 o2 y1 y4;cbv;rw[av A];refine cr g ?_;cbv;rw[av A];refine cr g ?_;cbv;refine Zm o1 o2 y1 K.symm (by decide) rfl (λn z u H X=>?_);have l:=H [94] (by decide) _ _ _ _ (by simp) g;have Z:=o2.kp u (by simpa using Ne.symm y2) (λ_ _ _ _ C=>by cases C);have j:dX dT m n:=u.x (λb r o s=>by
    simp at r;subst r;obtain⟨c',I,-⟩:=o1.out;rw[I]at s;cases s;exact⟨_,_,_,rfl,by decide⟩)
   cbv;rw[av A];refine ju l (by simp) (λf e=>?_);have y:=(congrFun e p).trans ae;have v:∀tys,94∉tys->cO tys n f:=λtys B=>by rw[e];exact cO.set l B
   have G:nI f p { D1 with kept:=D1.now,ws:=[] }:=⟨E,F,none,0,0,d,by
    show f p=some (.cells #[_,_,.slice _ D1.now.length _,.slice _ D1.now.length D1.now.length,_] _ _);rw[<-K];exact y,by
    show cZ _ _ _ _ D1.now.length _;rw[<-K];exact X.mono (v _ (by decide)),by
    show cZ _ _ _ _ D1.now.length _;rw[<-K];exact Z.mono (v _ (by decide)),rfl,y2,y3,bt.nil,by
    show D1.now.length<=4096;rw[<-K];exact y4⟩
   have:=c f (x.trans (j.trans (by rw[e];exact gN l (by decide)))) G;clear e c;cbv;exact this
def dI(D:Dk)(pg:Nat)(b:Bs):Int×Dk:=
 if h:b=[]then dw D
 else if(bJ D pg (b.take 64)).1≠0 then bJ D pg (b.take 64)
 else dI (bJ D pg (b.take 64)).2 (pg+1) (b.drop 64)
 termination_by b.length
 decreasing_by
 have:=jKF.2 h;simp only[iz];omega
def cD(D:Dk)(at_:Nat)(b:Bs):Int×Dk:=
 if at_ % 64=0 then dI D (1+at_ / 64) b
 else if fj D ((1+at_ / 64:Nat):Int) 0≠0 then(fj D ((1+at_ / 64:Nat):Int) 0,D)
 else dI D (1+at_ / 64) ((dp D ((1+at_ / 64:Nat):Int)).take (at_ % 64)++b)
theorem ED(D:Dk):(eM D).2.ws=D.ws:=by
 unfold eM;split
 .split<;>rfl
 rfl
theorem Bz(D:Dk)(n:Int)(l:Bs):(bJ D n l).2.ws.length<=D.ws.length+1:=by
 unfold bJ;split
 .exact jKr _
 rw[ED];simp
theorem bJB{lg:Nat}{cn:Int}(q:nI h p D){s:Nat}(hz:aZ z s)(ql:ID h lg p z cn){c:Nat}{l:Bs}(qb:Sl 5 cj h (.slice b m c) l)(hs:s<=2^30)(hm:m<=2^30)(hw:D.ws.length<=2^30)
 (o:∀h',dX dT h h'->nI h' p (cD D s l).2->k (.int .i64 (cD D s l).1) h'):
 Ct 248 [.zP lg,.slice b m c] h k:=by
 obtain⟨A,N⟩:=Ar.ex;have ar:=qb.len;have mY:A .aN .neq 0 0=false:=by rw[az A];rfl
 have P:cD D s l=if s % 64=0 then dI D (1+s / 64) l
  else if fj D ((1+s / 64:Nat):Int) 0≠0 then(fj D ((1+s / 64:Nat):Int) 0,D)
  else dI D (1+s / 64) ((dp D ((1+s / 64:Nat):Int)).take (s % 64)++l):=rfl
 have AI:A .aT .rem .i64 z 64=((s % 64:Nat):Int):=by rw[N.aT,hz.eq];show((s:Int)).tmod 64=_;rw[jKU (by omega)];omega
 have Cf:A .aT .add .i64 1 (A .aT .quo .i64 z 64)=((1+s / 64:Nat):Int):=by
  have t:A .aT .quo .i64 z 64=((s / 64:Nat):Int):=by rw[N.aT,hz.eq];show IntKind.i64.wrap (((s:Int)).tdiv 64)=_;rw[kQz (by omega),IntWalk.i64_in _ (by omega)];omega
  rw[t,N.aT];show IntKind.i64.wrap (1+((s / 64:Nat):Int))=_;rw[IntWalk.i64_in _ (by omega)];omega
 have f1:A .aN .gtr (A .aT .rem .i64 z 64) 0=decide (¬s % 64=0):=by rw[AI,bC A];exact decide_eq_decide.2 (by omega)
 obtain⟨pg,ab⟩:∃pg,pg=1+s / 64:=⟨_,rfl⟩;obtain⟨v,U⟩:∃v:Int,v=((pg:Nat):Int):=⟨_,rfl⟩;rw[<-ab]at P Cf;rw[<-U]at P Cf;have an:aZ v pg:=⟨U⟩;have aw:pg<=2^31:=by omega
 obtain⟨C,H⟩:∃C:(Option Addr×Nat×Nat)->ad->Prop,∀g t,C g t=(Le h t/\∃B,Sl 5 cj t (.slice g.1 g.2.1 g.2.2) B/\cD D s l=dI D pg B/\B.length<=2^30+64):=⟨_,λ_ _=>rfl⟩;obtain⟨J,E⟩:∃J:Nat->((Option Addr×Nat×Nat)×Int)->ad->Prop,∀w g h',J w g h'=(∃f d u,aZ g.2 d/\w=g.1.2.1/\nI h' p f/\dX dT h h'/\Sl 5 cj h' (.slice g.1.1 g.1.2.1 g.1.2.2) u/\cD D s l=dI f d u/\d+u.length<=2^33/\f.ws.length+u.length<=2^33):=⟨_,λ_ _ _=>rfl⟩;have Q:∀g t,C g t->J g.2.1 (g,v) t:=λg t x=>by
  rw[H]at x;obtain⟨B,l2,s1,F,hl⟩:=x;rw[E];exact⟨D,pg,l2,an,rfl,q.le B,B.x _,s1,F,by omega,by omega⟩
 refine Cq A [false,false,false,true] (aj eXs.aw eXs.bq) Tryz.func248 rfl (by kernel_rfl) ?_;cbv;rw[av A];refine Jl (cm ql.out rfl) ?_;cbv;refine⟨by decide,?_⟩;cbv;rw[Cf];refine ld.go (G:=Option Addr×Nat×Nat) (λg=>[(1,.v (.slice g.1 g.2.1 g.2.2))]) (λ_=>[]) C ?_ ?_
 .cbv;refine⟨by decide,?_⟩;cbv;rw[f1];by_cases c1:s % 64=0
  .rw[if_pos c1]at P;have hC:C (b,m,c) h:=by rw[H];exact⟨Le.refl _,l,qb,P,by omega⟩
   rw[bn (λg=>g c1)];clear H Q E o P;cbv;refine⟨(b,m,c),by constructor<;>cbv,hC⟩
  rw[if_neg c1]at P;rw[ak c1];have iV:s % 64<64:=kQp _ (by decide);generalize s % 64=r at *;cbv;rw[av A];refine cr ql.out ?_;cbv;refine ZZ q v (λbS=>?_) (λF t b1 fH B OE q1=>?_)
  .rw[if_pos bS]at P;rw[P]at o;have:=o h (dX.refl _ _) q;have f2:A .aN .neq (fj D v 0) 0=true:=by rw[az A];exact ak bS
   clear H Q E o P;generalize fj D v 0=e at *;cbv;rw[f2];cbv;exact this
  rw[if_neg (λg=>g F)]at P;have V:aZ (A .aT .rem .i64 z 64) r:=⟨AI⟩;have ey:0<=A .aT .rem .i64 z 64/\A .aT .rem .i64 z 64<=(fH:Int):=by have:=q1.sl.bound;have h9:=V.eq;omega
  have dd:=dy (A:=A) V;have tk:=q1.sl.vo (A:=A) (z:=A .nat fH) (i:=r) (by omega) rfl;have Y:∀h',Le h h'->∀b2 n2 c2,Sl 5 cj h' (.slice b2 n2 c2) ((dp D v).take r++l)->C (b2,n2,c2) h':=λh' l' b2 n2 c2 s'=>by
   rw[H];exact⟨l',_,s',P,by rw[cy,eA];omega⟩
  have ha:([(dp D v).take r,l]:List Bs).flatten=(dp D v).take r++l:=by simp
  have YK:((dp D v).take r++l).length<=2^38:=by rw[cy,eA];omega
  clear H Q E o P;generalize dp D v=pb at *;cbv;rw[mY];cbv;refine⟨by decide,?_⟩;cbv;refine⟨ey,?_⟩;cbv;rw[dd];intro n2 h2 eU e2;have l2:Le t h2:=by rw[e2];exact Le.set eU
  have g2:=(congrFun e2 n2).trans ae;clear e2;cbv;refine Ba (L:=[pb.take r,l]) (oN (s:=Dd) rfl g2 (eJ (tk.mono (l2.t _))) (eJ (qb.mono ((B.trans l2).t _)))) (by rw[ha];exact YK) (λK b' n' c' l3 q3=>?_);rw[ha]at q3;have hC:=Y K ((B.trans l2).trans l3) b' n' c' q3.sl;clear Y;cbv;refine⟨(b',n',c'),by constructor<;>cbv,hC⟩
 intro g t x;have hJ:=Q g t x;clear Q H x;cbv;obtain⟨W,j,y⟩:=g;refine aX.go (G:=(Option Addr×Nat×Nat)×Int) (λg=>[(1,.v (.slice g.1.1 g.1.2.1 g.1.2.2)),(6,.v (.int .i64 g.2))]) (λ_=>[]) (λw g h'=>J w g h') j ((W,j,y),v) (by constructor<;>cbv) hJ ?_
 intro w g h2 hI;rw[E]at hI;cbv;obtain⟨⟨W,j,y⟩,zp⟩:=g;obtain⟨f,d,u,Z,hw,d2,x2,s2,F,kW,gZ⟩:=hI;have Z:aZ zp d:=Z;have hw:w=j:=hw;have s2:Sl 5 cj h2 (.slice W j y) u:=s2;have nq:=s2.len;have jQ:=s2.bound;have S:=ql.lt (x2.t (by decide));have f2:A .aN .gtr (A .nat j) 0=decide (u≠[]):=by
  rw[bC A,N.nat];refine decide_eq_decide.2 ?_;rw[rz,nq];constructor
  .intro h e;rw[e]at h;simp at h
  intro h;have:=jKF.2 h;omega
 have M:dI f d u=if h:u=[]then dw f
  else if(bJ f d (u.take 64)).1≠0 then bJ f d (u.take 64)
  else dI (bJ f d (u.take 64)).2 (d+1) (u.drop 64):=by rw[dI]
 have vT:=Bz f d (u.take 64);rw[f2];by_cases x:u=[]
 .rw[dif_pos x]at M;rw[F,M]at o;rw[bn (λg=>g x)];clear E hJ M vT;cbv;rw[av A];refine cr S.out ?_;cbv;refine bZk d2 (λK x3 T=>?_);have:=o K (x2.trans x3) T;clear o;generalize dw f=R at *;obtain⟨e,O⟩:=R;cbv;exact this
 rw[dif_neg x]at M;rw[ak x];have mP:=jKF.2 x;obtain⟨a,rW⟩:∃a,a=min j 64:=⟨_,rfl⟩;have GR:A .my (A .nat j) 64=A .nat a:=by rw[N.my,N.nat,rW];show min (j:Int) 64=((min j 64:Nat):Int);omega
 have I:aZ (A .nat a) a:=aZ.nat a;have mC:0<=A .nat a/\A .nat a<=(y:Int):=by have:=I.eq;omega
 have jC:0<=A .nat a/\A .nat a<=(j:Int):=by have:=I.eq;omega
 have Ua:=dy (A:=A) I;have Kn:=cJ (A:=A) (n:=j) I;have Rf:=cJ (A:=A) (n:=y) I;have tk:=s2.vo (A:=A) (z:=A .nat y) (i:=a) (by omega) rfl;have td:=s2.jD (A:=A) I (by omega) rfl rfl;have al:u.take a=u.take 64:=by rw[rW,nq,Nat.min_comm,<-List.take_eq_take_min]
 have aq:u.drop a=u.drop 64:=by
  rw[rW,nq];by_cases hh:u.length<=64
  .rw[jKf hh,jKz (kB _),jKz hh]
  rw[kXW (by omega)]
 rw[al]at tk;rw[aq]at td;have gG:=Z.succ (A:=A);have ag:f.ws.length<=2^38:=by omega
 have X:∀h',(bJ f d (u.take 64)).1=0->dX dT h h'->nI h' p (bJ f d (u.take 64)).2->Sl 5 cj h' (.slice (A .cut W (A .nat a) (A .nat y) 1) (j-a) (y-a)) (u.drop 64)->
  J (j-a) ((A .cut W (A .nat a) (A .nat y) 1,j-a,y-a),A .aT .add .i64 zp 1) h':=λh' h0 x' d' s'=>by
  rw[E];rw[if_neg (λg=>g h0)]at M;refine⟨_,d+1,_,gG,rfl,d',x',s',by rw[F,M],?_,?_⟩
  .rw[iz];omega
  rw[iz];omega
 have aU:j-a<w:=by omega
 have ez:bJ f zp (u.take 64)=bJ f d (u.take 64):=by rw[Z.eq]
 clear E hJ gG;cbv;rw[GR,av A];refine cr S.out ?_;cbv;refine⟨mC,?_⟩;cbv;rw[Ua];refine ZU d2 zp tk ag (λK x3 T=>?_);rw[ez]at T |-;clear ez;have X:=X K;have ao:=td.mono (x3.t (by decide));have hx:=x2.trans x3;rw[F,M]at o;clear M F vT;generalize Fq:bJ f d (u.take 64)=R at *;obtain⟨e,O⟩:=R;have f3:A .aN .neq e 0=decide (e≠0):=az A ..;by_cases AO:e≠0
 .have o:∀h',dX dT h h'->nI h' p (if e≠0 then(e,O)else dI O (d+1) (u.drop 64)).2->k (.int .i64 (if e≠0 then(e,O)else dI O (d+1) (u.drop 64)).1) h':=o;rw[if_pos AO]at o;have:=o K hx T;rw[ak AO]at f3;clear o X;cbv;rw[f3];cbv;exact this
 have iD:=X (by show e=0;omega) hx T ao;rw[bn AO]at f3;clear o X;cbv;rw[f3];cbv;refine⟨jC,?_⟩;cbv;rw[Kn,Rf];refine⟨j-a,((_,_,_),A .aT .add .i64 zp 1),aU,by constructor<;>cbv,iD⟩
end Go.S
