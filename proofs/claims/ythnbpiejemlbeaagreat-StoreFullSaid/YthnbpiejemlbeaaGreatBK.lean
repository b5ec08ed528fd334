import Derived.Test.YthnbpiejemlbeaaGreatBJ
import Derived.Test.YthnbpiejemlbeaaGreatBE
set_option linter.all false
set_option maxRecDepth 100000
set_option maxHeartbeats 1000000
namespace Go.S
open Go.Sx Go.Proofs
open Go.MapKept
variable {only:Bool}{nm:ByteArray}{d:DB}{D:DB×Int}{key:Int}{cols:List iK}{i n:Nat}{k:Value->ab->Prop}{h h0:ab}{c:cC}
def fJV(gl:List (Nat->Int)):List (Value×Value):=gl.mapIdx λi g=>(.int .i64 ((i+1:Nat):Int),.agg (List.toArray (hl g)))
structure iXs(h:ab)(m:Nat)(iE:List Bs):Prop where
 out:∃gl,gl.map hl=iE.map aI/\Mp h m (.int .i64) (fJV gl)
structure Dg where
 block:Int
 hash:Bs
structure eXN(v:gV):Prop where
 s:v.k≠3->v.s=dM
 n:v.k=3->v.n=0
 z:v.s.size<=60
theorem Tv{r:Row}(h0:0<=key)(a:key<(r.length:Int)):∃v,r[key.toNat]? =some v/\keyOf key r=v/\v∈r:=by obtain⟨v,h⟩:=bn r key.toNat;refine⟨v,h,?_,List.mem_of_getElem? h⟩;unfold keyOf;rw[if_neg (by simp;omega),h];rfl
structure AE(cols:List iK)(key:Int)(R:List Row):Prop where
 k0:0<=key
 k1:key<(cols.length:Int)
 fit:∀r∈R,dx cols r=0
 gz:R.Pairwise (λa b=>cG (keyOf key a) (keyOf key b)<0)
 le:R.length<=200
 cl:cols.length<=6
def zD(t:bJ):Prop:=AE t.S.cols t.S.key t.rows
def jY:Row->Row->Bool
 | [],[]=>true
 |a::r,b::s=>fX a b&&jY r s
 |_,_=>false
theorem tO:∀ {a b:Row},a.length≠b.length->jY a b=false
 | [],[],h=>absurd rfl h
 |a::r,b::s,h=>by
  have:r.length≠s.length:=λe=>h (by simp[e]);unfold jY;rw[tO this,Bool.and_false]
 | [],b::s,_=>rfl
 |a::r,[],_=>rfl
theorem BK{a b:Row}{x y:gV}(hx:a[i]? =some x)(d:b[i]? =some y):jY (a.drop i) (b.drop i)=(fX x y&&jY (a.drop (i+1)) (b.drop (i+1))):=by have h:=List.getElem?_eq_some_iff.1 hx;have c:=List.getElem?_eq_some_iff.1 d;rw[List.drop_eq_getElem_cons h.1,List.drop_eq_getElem_cons c.1,h.2,c.2];rfl
def Gm(t:bJ)(c:cC):bJ×Bool:=
 if c.op=1 then((bm t c.row).1,decide ((bm t c.row).2=0))
 else if t.S.only=true then(t,false)
 else if t.S.key>=(c.row.length:Int)then(t,false)
 else if(aY t (keyOf t.S.key c.row)).2.2=0/\jY (aY t (keyOf t.S.key c.row)).2.1 c.row=true then((aY t (keyOf t.S.key c.row)).1,true)else(t,false)
theorem No{t:bJ}(h:c.op=1):Gm t c=((bm t c.row).1,decide ((bm t c.row).2=0)):=by unfold Gm;rw[if_pos h]
theorem Vj{t:bJ}(h:c.op≠1)(a:t.S.only=true):Gm t c=(t,false):=by unfold Gm;rw[if_neg h,if_pos a]
theorem Vi{t:bJ}(h:c.op≠1)(a:t.S.only=false)(b:¬t.S.key>=(c.row.length:Int)){D:bJ×Row×Int}(d:aY t (keyOf t.S.key c.row)=D):Gm t c=if D.2.2=0/\jY D.2.1 c.row=true then(D.1,true)else(t,false):=by unfold Gm;rw[if_neg h,if_neg (by rw[a];decide),if_neg b,d]
structure VS where
 d:DB
 next:Int
 open_:List Bs
 iE:List Bs
 found:List Fd
structure VI(d:DB):Prop where
 gz:d.aj.Pairwise (λa b=>cT a.S.name b.S.name<0)
 le:d.aj.length<=8
 aj:∀t∈d.aj,zD t/\t.S.name.size<=12
 ah:d.ah=[]
 holds:d.holds=[]
 waits:d.waits=[]
theorem VI.small(q:VI d):Small d where
 aj:=by have:=q.le;omega
 ah:=by rw[q.ah];exact Nat.zero_le _
 rows:=λt ht=>by have:=(q.aj t ht).1.le;omega
 holds:=by rw[q.holds];exact Nat.two_pow_pos _
 waits:=by rw[q.waits];exact Nat.two_pow_pos _
theorem gQd:VI dz:=⟨List.Pairwise.nil,by decide,λt h=>(by cases h),rfl,rfl,rfl⟩
structure bKN(v:VS)(k:Nat):Prop where
 vi:VI v.d
 bJB:∀x∈v.iE,x.length=32
 o:v.open_.length<=k
 s:v.iE.length<=k
structure iXx(c:cC):Prop where
 b:AH c
 v:∀x∈c.row,da x=0
set_option maxHeartbeats 8000000
theorem VU{A:Ar}[h:bf A]{va vb wa wb:Int}{vc wc:ByteArray}:A .not (A .and (A .ay .eql va wa) (A .and (A .ay .eql vb wb) (A .and (A .js .eql vc wc) true)))= !(fX ⟨va,vb,vc⟩ ⟨wa,wb,wc⟩):=by rw[aq A,aq A,dF A,h.not,h.and];show(!(decide (va=wa)&&(decide (vb=wb)&&(decide (vc=wc)&&true))))=_;rw[Bool.and_true];rfl
theorem aZB{xs ys:Row}{f j:Option Addr}{o e p:Nat}(q:Sl 45 aS h (.slice f n o) xs)(l:Sl 45 aS h (.slice j e p) ys)(b:k (.bool (jY xs ys)) h):
 Ct 55 [.slice f n o,.slice j e p] h k:=by
 obtain⟨A,v⟩:=Ar.ex;have E:=q.len;have x:=l.len;have J:=q.bound.1;have U:A .ay .neq (A .nat n) (A .nat e)=decide (xs.length≠ys.length):=by rw[E,x,av A,v.nat];exact decide_eq_decide.2 (by simp only[Int.ofNat_eq_natCast];omega)
 obtain⟨D,c⟩:∃D,D=jY xs ys:=⟨_,rfl⟩;rw[<-c]at b;refine bB eXD A Tryz.func55 ?_;cbv;rw[U];by_cases F:xs.length≠ys.length
 .rw[tO F]at c;rw[c]at b;rw[decide_eq_true F];cbv;exact b
 rw[decide_eq_false F];have F:=Decidable.not_not.1 F;cbv;refine aG.go (G:=Int) (λg=>[(13,.v (.int .i64 g))]) (λ_=>[]) (λm g h'=>h'=h/\∃i,aK g i/\m=n-i/\i<=n/\D=jY (xs.drop i) (ys.drop i)) n 0 (by constructor<;>cbv) ⟨rfl,0,⟨rfl⟩,by omega,by omega,c⟩ ?_
 intro m g h' I;cbv;obtain⟨rfl,i,z,H,C,W⟩:=I;refine aJ (λd=>?_) (λd=>?_)
 .have s:=z.lt d;clear d;obtain⟨⟨va,vb,vc⟩,hx⟩:=bn xs i;obtain⟨⟨wa,wb,wc⟩,y⟩:=bn ys i;rw[BK hx y]at W;have B:f.isSome=true/\0<=g/\g<(n:Int):=⟨q.aQ,z.ix s⟩;have X:j.isSome=true/\0<=g/\g<(e:Int):=⟨l.aQ,z.ix (by omega)⟩;have r:=z.eq;have u:=z.succ (A:=A);have w:=VU (A:=A) (va:=va) (vb:=vb) (wa:=wa) (wb:=wb) (vc:=vc) (wc:=wc);generalize fX ⟨va,vb,vc⟩ ⟨wa,wb,wc⟩=t at *;clear c U;cbv;refine⟨B,?_⟩;cbv;refine q.load hx r (λcs a=>?_);have a:cs=[.int .i64 va,.int .i64 vb,.string vc]:=a;subst a;cbv;refine⟨X,?_⟩;cbv;refine l.load y r (λcs a=>?_);have a:cs=[.int .i64 wa,.int .i64 wb,.string wc]:=a;subst a;cbv;rw[w];cases t with
  |true=>
   have W:D=jY (xs.drop (i+1)) (ys.drop (i+1)):=W;cbv;refine⟨n-(i+1),_,by omega,by constructor<;>cbv,rfl,i+1,u,rfl,by omega,W⟩
  |false=>have W:D=false:=W;rw[W]at b;cbv;exact b
 have O:=z.ge d;rw[List.drop_of_length_le (by omega),List.drop_of_length_le (by omega)]at W;have W:D=true:=W;rw[W]at b;cbv;exact b
structure vJ(h0 h:ab)(v:Value)(d:DB):Prop where
 out:∃b1 n1 c1 b2 n2 c2 b3 n3 c3 b4 n4 c4,v=.agg #[.slice b1 n1 c1,.slice b2 n2 c2,.slice b3 n3 c3,.slice b4 n4 c4]/\aU 61 bo h0 h (.slice b1 n1 c1) d.aj/\eD h v d
theorem vJ.form{v:Value}(q:vJ h0 h v d):∃b n f a k g c l i e m j,v=.agg #[.slice b n f,.slice a k g,.slice c l i,.slice e m j]:=by obtain⟨b,n,f,a,k,g,c,l,i,e,m,j,rfl,-⟩:=q.out;exact⟨_,_,_,_,_,_,_,_,_,_,_,_,rfl⟩
theorem vJ.base{a:ab}{v:Value}(q:vJ a h v d)(l:Le h0 a):vJ h0 h v d:=by obtain⟨b,n,i,c,o,j,f,p,k,g,r,m,e,s,t⟩:=q.out;exact⟨b,n,i,c,o,j,f,p,k,g,r,m,e,s.base l,t⟩
theorem vJ.buf{b a f g:Option Addr}{c l m j o k:Nat}(q:vJ h0 h (.agg #[.slice b n c,.slice a l i,.slice f m j,.slice g o k]) d):aU 61 bo h0 h (.slice b n c) d.aj:=by obtain⟨_,_,_,_,_,_,_,_,_,_,_,_,e,p,-⟩:=q.out;cases e;exact p
theorem vJ.db{v:Value}(q:vJ h0 h v d):eD h v d:=by obtain⟨_,_,_,_,_,_,_,_,_,_,_,_,e,-,a⟩:=q.out;exact a
theorem yG{v:Value}(q:eD h v d):Ct 40 [v] h (λj h'=>Le h h'/\vJ h h' j d):=by refine(Tb q).mono (λv p hR=>?_);obtain⟨l,w,wb,r,s,k,t,n,m,u,o,W,D,J,rfl,g,a,b,c,e,f,i⟩:=hR;exact⟨l,⟨_,_,_,_,_,_,_,_,_,_,_,_,rfl,a.buf D g,⟨_,_,_,_,_,_,_,_,_,_,_,_,W,rfl,a.sl g,c.sl b,e,f,by rw[i,List.map_map];simp[Function.comp_def]⟩⟩⟩
theorem FD{v:Value}(q:eD h v d)
 (r:∀h' b n f a m g c o i e p j,Le h h'->vJ h h' (.agg #[.slice b n f,.slice a m g,.slice c o i,.slice e p j]) d->k (.agg #[.slice b n f,.slice a m g,.slice c o i,.slice e p j]) h'):Ct 40 [v] h k:=
 (yG q).mono (λv h' hR=>by
  obtain⟨l,hd⟩:=hR;obtain⟨b,n,f,a,m,g,c,o,i,e,p,j,s⟩:=hd.form;rw[s]at hd |-;exact r h' _ _ _ _ _ _ _ _ _ _ _ _ l hd)
abbrev dKt(h:ab)(d':DB)(e:Int)(k:Value->ab->Prop):Prop:=
 ∀h' b1 n1 c1 b2 n2 c2 b3 n3 c3 b4 n4 c4,Le h h'->vJ h h' (.agg #[.slice b1 n1 c1,.slice b2 n2 c2,.slice b3 n3 c3,.slice b4 n4 c4]) d'->k (.tuple #[.agg #[.slice b1 n1 c1,.slice b2 n2 c2,.slice b3 n3 c3,.slice b4 n4 c4],.int .i64 e]) h'
theorem PH{v:Value}(q:eD h v d){sb:Option Addr}{sn sc:Nat}(qs:Sl 202 bh h (.slice sb sn sc) cols)(aH:d.aj.length<=2^37)(aW:d.ah.length<=2^37):
 Ct 91 [v,.agg #[.string nm,.slice sb sn sc,.int .i64 key,.bool only]] h (λv' h'=>∃v1 e z i is,v'=.tuple #[v1,.int .i64 e]/\Le h h'/\vJ h h' v1 (eR d ⟨nm,cols,key,only⟩ i is).1/\e=(eR d ⟨nm,cols,key,only⟩ i is).2/\aK z i/\LR (d.aj.map λx=>cT x.S.name nm) z is):=by
 have q0:=q;obtain⟨I,G,M,J,H,N,K,Z,P,L,n4,Q,ws,rfl,q1,q2,-,-,qw⟩:=q0.out;refine an eXA Tryz.func91 λA hA=>?_;cbv;refine(Be q).mono (λv h1 hR=>?_);obtain⟨l1,c,tb,wb,ct,cw,W,rfl,w,lD,rJ,nF,mQ,hW,IV,Gk,cs⟩:=hR;cbv;refine(Bc (key:=key) (only:=only) (nm:=nm) (qs.mono (l1.t _))).mono (λv h2 hR=>?_);obtain⟨l2,k,rfl,uv⟩:=hR;cbv;refine(sZ (cs.mono l2) nF mQ).mono (λv h3 hR=>?_);obtain⟨rfl,C,D⟩:=hR;have Ij:Le h h3:=(l1.trans l2).aE (by simpa using w) C;cbv;refine(oB D nm).mono (λv h4 hR=>?_);obtain⟨r,z,t,rfl,hb⟩:=hR;rw[if_pos rfl]at D;obtain⟨i,hz,hi,ht⟩:=hb.out;have n:∀(E:Int) (v:Value) {V:ab},Le h V->E≠0->eJ d ⟨nm,cols,key,only⟩ t=E->vJ h V v d->∃v1 e1 z i is,Value.tuple #[v,.int .i64 E]=.tuple #[v1,.int .i64 e1]/\Le h V/\vJ h V v1 (eR d ⟨nm,cols,key,only⟩ i is).1/\e1=(eR d ⟨nm,cols,key,only⟩ i is).2/\aK z i/\LR (d.aj.map λx=>cT x.S.name nm) z is:=λE v V l f w hd=>by
  have:eR d ⟨nm,cols,key,only⟩ i t=(d,E):=by unfold eR;rw[w,if_neg f]
  exact⟨v,E,z,i,t,rfl,l,by rw[this];exact hd,by rw[this],hz,hb⟩
 cases t with
 |true=>
  cbv;refine(sZ (D.mono r) nF mQ).mono (λv T hR=>?_);obtain⟨rfl,X,O⟩:=hR;have m:Le h T:=(Ij.trans r).aE (by simpa using w) X;obtain⟨E,f⟩:∃E,E=(if k=0 then 7 else k):=⟨_,rfl⟩;rw[<-f]at O;have s:eJ d ⟨nm,cols,key,only⟩ true=E:=by unfold eJ;rw[f,<-uv];by_cases h0:k=0<;>simp[h0]
  cbv;obtain⟨Y,m2,x3,m3,C,x4,m4,k4,o,g,go,B,g3,g4,g5,g6,g7⟩:=O.out;generalize b:A .ay .neq E 0=u;rw[av A]at b;rw[al A];refine ak g ?_;cbv;rw[av A,b];cases u with
  |true=>cbv;rw[al A];refine ak g ?_;cbv;refine(yG (q.mono m)).mono (λv U hR=>?_);obtain⟨a,hd⟩:=hR;have hd:=hd.base m;have p:=hd;obtain⟨I,G,M,J,H,N,K,Z,P,L,n4,Q,rfl⟩:=hd.form;cbv;refine ak (a _ _ g) ?_;cbv;refine⟨⟨_,rfl,rfl⟩,?_⟩;cbv;refine ak (a _ _ g) ?_;cbv;refine⟨⟨_,rfl,rfl⟩,?_⟩;cbv;exact n _ _ (m.trans a) (of_decide_eq_true b) s p
  |false=>exact absurd (of_decide_eq_false b) (by rw[f];by_cases h0:k=0<;>simp[h0])
 |false=>
  generalize eg:A .ay .geq (A .nat G) 8=ug;generalize ew:A .ay .gtr (A .nat H) 0=uw;have hg:ug=decide (d.aj.length>=8):=by rw[<-eg,bX A,hA.nat,q1.len,decide_eq_decide];simp only[Int.ofNat_eq_natCast];omega
  have hw:uw=decide (d.ah.length>0):=by
   rw[<-ew,aX A,hA.nat,q2.len,decide_eq_decide];simp only[Int.ofNat_eq_natCast];have:ws.length=d.ah.length:=by rw[<-qw,List.length_map]
   omega
  cbv;rw[eg];cases ug with
  |true=>
   cbv;refine(sZ (D.mono r) nF mQ).mono (λv T hR=>?_);obtain⟨rfl,X,O⟩:=hR;have m:Le h T:=(Ij.trans r).aE (by simpa using w) X;obtain⟨E,f⟩:∃E,E=(if k=0 then 4 else k):=⟨_,rfl⟩;rw[<-f]at O;have s:eJ d ⟨nm,cols,key,only⟩ false=E:=by unfold eJ;rw[f,<-uv,<-hg];by_cases h0:k=0<;>simp[h0]
   cbv;obtain⟨Y,m2,x3,m3,C,x4,m4,k4,o,g,go,B,g3,g4,g5,g6,g7⟩:=O.out;generalize b:A .ay .neq E 0=u;rw[av A]at b;rw[al A];refine ak g ?_;cbv;rw[av A,b];cases u with
   |true=>cbv;rw[al A];refine ak g ?_;cbv;refine(yG (q.mono m)).mono (λv U hR=>?_);obtain⟨a,hd⟩:=hR;have hd:=hd.base m;have p:=hd;obtain⟨I,G,M,J,H,N,K,Z,P,L,n4,Q,rfl⟩:=hd.form;cbv;refine ak (a _ _ g) ?_;cbv;refine⟨⟨_,rfl,rfl⟩,?_⟩;cbv;refine ak (a _ _ g) ?_;cbv;refine⟨⟨_,rfl,rfl⟩,?_⟩;cbv;exact n _ _ (m.trans a) (of_decide_eq_true b) s p
   |false=>exact absurd (of_decide_eq_false b) (by rw[f];by_cases h0:k=0<;>simp[h0])
  |false=>
   cbv;rw[ew];cases uw with
   |true=>
    cbv;refine(sZ (D.mono r) nF mQ).mono (λv T hR=>?_);obtain⟨rfl,X,O⟩:=hR;have m:Le h T:=(Ij.trans r).aE (by simpa using w) X;obtain⟨E,f⟩:∃E,E=(if k=0 then 18 else k):=⟨_,rfl⟩;rw[<-f]at O;have s:eJ d ⟨nm,cols,key,only⟩ false=E:=by unfold eJ;rw[f,<-uv,<-hg,<-hw];by_cases h0:k=0<;>simp[h0]
    cbv;obtain⟨Y,m2,x3,m3,C,x4,m4,k4,o,g,go,B,g3,g4,g5,g6,g7⟩:=O.out;generalize b:A .ay .neq E 0=u;rw[av A]at b;rw[al A];refine ak g ?_;cbv;rw[av A,b];cases u with
    |true=>cbv;rw[al A];refine ak g ?_;cbv;refine(yG (q.mono m)).mono (λv U hR=>?_);obtain⟨a,hd⟩:=hR;have hd:=hd.base m;have p:=hd;obtain⟨I,G,M,J,H,N,K,Z,P,L,n4,Q,rfl⟩:=hd.form;cbv;refine ak (a _ _ g) ?_;cbv;refine⟨⟨_,rfl,rfl⟩,?_⟩;cbv;refine ak (a _ _ g) ?_;cbv;refine⟨⟨_,rfl,rfl⟩,?_⟩;cbv;exact n _ _ (m.trans a) (of_decide_eq_true b) s p
    |false=>exact absurd (of_decide_eq_false b) (by rw[f];by_cases h0:k=0<;>simp[h0])
   |false=>
    have O:=D.mono r;have m:Le h h4:=Ij.trans r;obtain⟨E,f⟩:∃E,E=k:=⟨_,rfl⟩;rw[<-f]at O;have s:eJ d ⟨nm,cols,key,only⟩ false=E:=by unfold eJ;rw[f,<-uv,<-hg,<-hw];by_cases h0:k=0<;>simp[h0]
    cbv;obtain⟨Y,m2,x3,m3,C,x4,m4,k4,o,g,go,B,g3,g4,g5,g6,g7⟩:=O.out;generalize b:A .ay .neq E 0=u;rw[av A]at b;rw[al A];refine ak g ?_;cbv;rw[av A,b];cases u with
    |true=>cbv;rw[al A];refine ak g ?_;cbv;refine(yG (q.mono m)).mono (λv U hR=>?_);obtain⟨a,hd⟩:=hR;have hd:=hd.base m;have p:=hd;obtain⟨I,G,M,J,H,N,K,Z,P,L,n4,Q,rfl⟩:=hd.form;cbv;refine ak (a _ _ g) ?_;cbv;refine⟨⟨_,rfl,rfl⟩,?_⟩;cbv;refine ak (a _ _ g) ?_;cbv;refine⟨⟨_,rfl,rfl⟩,?_⟩;cbv;exact n _ _ (m.trans a) (of_decide_eq_true b) s p
    |false=>
     have Xf:E=0:=by have:=of_decide_eq_false b;omega
     cbv;rw[al A];rw[al A];refine ak g ?_;cbv;have sT:bo.R h4 [.string nm,.slice sb sn sc,.int .i64 key,.bool only,.slice none 0 0] ⟨⟨nm,cols,key,only⟩,[]⟩:=⟨_,_,_,_,_,_,rfl,qs.mono (m.t _),Sl.nil⟩;refine(Ta sT).mono (λv U hR=>?_);obtain⟨a,d0,d1,d2,d3,d4,rfl,rT⟩:=hR;obtain⟨w1,w2,w3,w4,w5,w6,he,ao,aj⟩:=rT;cases he;have S:=a _ _ g;cbv;refine ak S ?_;cbv;refine⟨⟨_,rfl,rfl⟩,?_⟩;cbv;intro nb h7 dp e7;have F:Le U h7:=by rw[e7];exact Le.set dp
     have gx:=(congrFun e7 nb).trans ae;have sx:Sl 61 bo h7 (.slice (some ⟨nb,0,none⟩) 1 1) [(⟨⟨nm,cols,key,only⟩,[]⟩:bJ)]:=by
      refine Sl.fresh (xs:=[(⟨⟨nm,cols,key,only⟩,[]⟩:bJ)]) gx ⟨by simp[bo],λj y hj=>?_⟩ (by simp) (by simp);have Cv:j=0:=by have:=(List.getElem?_eq_some_iff.1 hj).1;simp at this;exact this
      subst Cv;simp at hj;subst hj;exact⟨_,_,_,_,_,_,rfl,ao.mono (F.t _),aj.mono (F.t _)⟩
     have ZA:=F _ _ S;have em:Y=ct:=by rw[B,IV]
     subst em;have gh:i<=Y:=by have:=(Bd (d.aj.map λx=>cT x.S.name nm) 0 (d.aj.map λx=>cT x.S.name nm).length (Nat.zero_le _)).1;rw[hi,B];simpa using this
     cbv;refine ak ZA ?_;cbv;refine⟨⟨_,rfl,rfl⟩,?_⟩;cbv;refine(Io ((g3.sl B).mono ((a.trans F).t _)) sx hz gh (by omega)).mono (λv h8 hR=>?_);obtain⟨l8,ar,aF,m5,rfl,aN,ag,ot⟩:=hR;have R:=l8 _ _ ZA;cbv;rw[al A];rw[al A];refine jr R (by simp) (λh9 e9=>?_);have au:=(congrFun e9 c).trans ae;have k9:Kp [c] h8 h9:=by rw[e9];exact Kp.set (by simp)
     have t9:∀tys,148∉tys->bV tys h8 h9:=λtys hn=>by rw[e9];exact bV.set R hn
     have Qp:Le h h9:=(((m.trans a).trans F).trans l8).aE (by simpa using w) k9;have Cx:eD h9 (.agg #[.slice (some ⟨ar,0,none⟩) m5 aF,.slice (some ⟨wb,0,none⟩) m2 cw,.slice x3 m3 C,.slice x4 m4 k4]) (fy d (d.aj.take i++[⟨⟨nm,cols,key,only⟩,[]⟩]++d.aj.drop i)):=by
      have WL:=(a.trans F).trans l8;refine⟨_,_,_,_,_,_,_,_,_,_,_,_,_,rfl,(ot.sl ?_).mono (t9 _ (by decide)),((g5.sl g4).mono (WL.t _)).mono (t9 _ (by decide)),(g6.mono (WL.t _)).mono (t9 _ (by decide)),(g7.mono (WL.t _)).mono (t9 _ (by decide)),?_⟩
      .rw[ag];simp;omega
      rw[hW];simp[fy,Function.comp_def]
     cbv;rw[al A];refine ak au ?_;cbv;refine(yG Cx).mono (λv gP hR=>?_);obtain⟨fo,hd⟩:=hR;have hd:=hd.base Qp;have jk:eR d ⟨nm,cols,key,only⟩ i false=(fy d (d.aj.take i++[⟨⟨nm,cols,key,only⟩,[]⟩]++d.aj.drop i),0):=by unfold eR;rw[if_pos (s.trans Xf)]
     have p:=hd;generalize fy d (d.aj.take i++[⟨⟨nm,cols,key,only⟩,[]⟩]++d.aj.drop i)=d' at *;obtain⟨I,G,M,J,H,N,K,Z,P,L,n4,Q,rfl⟩:=hd.form;cbv;exact⟨_,0,z,i,false,rfl,Qp.trans fo,by rw[jk];exact p,by rw[jk],hz,hb⟩
theorem Lw{v:Value}(q:eD h v d){s:Option Addr}{b:Nat}(x:Sl 202 bh h (.slice s n b) cols)(m:Small d)(o:bK d ⟨nm,cols,key,only⟩=D)
  (t:dKt h D.1 D.2 k):Ct 91 [v,.agg #[.string nm,.slice s n b,.int .i64 key,.bool only]] h k:=
 (PH q x m.aj m.ah).mono (λv h' hR=>by
  obtain⟨M,e,z,i,is,u,l,hd,a,w,p⟩:=hR;obtain⟨g,j⟩:=p.at_;have r:=FP w g;have c:eR d ⟨nm,cols,key,only⟩ i is=D:=by rw[<-o,r,j];rfl
  rw[c]at hd a;obtain⟨y,I,E,A,J,F,B,K,G,C,L,H,f⟩:=hd.form;rw[u,f,a];exact t h' _ _ _ _ _ _ _ _ _ _ _ _ l (by rw[<-f];exact hd))
theorem ZR{v:Value}(q:eD h v d)(n:ByteArray)(M:dQ d n=D)
 (N:dKt h D.1 D.2 k):Ct 166 [v,.string n] h k:=by
 obtain⟨e,x,p,f,a,r,j,y,s,l,B,w,rfl⟩:=q.form;have rj:a=d.ah.length:=by obtain⟨_,_,_,_,_,_,_,_,_,_,_,_,ws,he,_,qw,_,_,O⟩:=q.out;cases he;rw[qw.len,<-O,List.length_map]
 refine an aQw Tryz.func166 λA L=>?_;cbv;refine jo q (λh1 c tb wb ct cw W l1 hc lD rJ nF mQ hW IV Gk cs=>?_);have cs:=cs.new hW;cbv;refine sj cs n (λh2 z t l2 Z P=>?_);have F:=l1.trans l2;have q2:=q.mono F;cases t with
 |false=>
  have b:D=(d,2):=by rw[<-M];unfold dQ;rw[<-P];rfl
  subst b;cbv;rw[show A .not false=true by rw[L.not];rfl];cbv;refine FD q2 (λG e x p f a r j y s l B w S E=>?_);have C:=N G e x p f a r j y s l B w (F.trans S) (E.base F);cbv;exact C
 |true=>
  have aF:cR (aB d.aj n)<d.aj.length:=by have:=im P.symm;simpa[aB]using this
  have b:D=if decide ((d.ah.length:Int)>0)=true then(d,18)else(⟨d.aj.eraseIdx (cR (aB d.aj n)),d.ah,d.holds,d.waits⟩,0):=by rw[<-M];unfold dQ;rw[<-P];rfl
  clear M;generalize cR (aB d.aj n)=i at *;generalize K:A .ay .gtr (A .nat a) 0=u;have fu:=K;rw[aX A,L.nat,rj,show Int.ofNat d.ah.length=(d.ah.length:Int)from rfl]at K;rw[K]at b;cbv;rw[show A .not true=false by rw[L.not];rfl];cbv;rw[fu];cases u with
  |true=>have b:D=(d,18):=b;subst b;cbv;refine FD q2 (λG e x p f a r j y s l B w S E=>?_);have C:=N G e x p f a r j y s l B w (F.trans S) (E.base F);cbv;exact C
  |false=>
   have b:D=(⟨d.aj.eraseIdx i,d.ah,d.holds,d.waits⟩,0):=b;subst b;have ud:=cs.mono l2;refine ud.elim (λm1 m2 x3 m3 I x4 m4 R o g ho f1 V f3 f4 f6 f7 _=>?_);have iW:=V.bd;have jD:=Z.succ (A:=A);have Q:(d.aj.eraseIdx i).length=m1-1:=by rw[List.length_eraseIdx_of_lt aF];omega
   cbv;rw[al A];rw[al A];refine ak g ?_;cbv;refine IW V f1 Z jD (by omega) (λG m O I t3 o3=>?_);have X:G c=h2 c:=(I _ _ g (by simpa using nF)).trans g.symm;have T:=λH hh=>iX.Mg (h':=H) g ho f3 f4 f6 f7 (O.trans Q.symm) t3 X o3 hh;have J:=X.trans g;cbv;rw[al A];rw[al A];refine jr J (by simp) (λH U=>?_);obtain⟨R,DO⟩:=T H U;clear T U;have l4:Le h H:=F.aE (bs:=[tb,c]) (by simp[hc,lD]) ((I.sub (by simp)).trans (R.sub (by simp)));refine DO.elim (λm1 m2 x3 m3 I x4 m4 R o g _ _ _ _ _ _ _ Y=>?_);rw[vG]at Y;cbv;rw[al A];refine ak g ?_;cbv;refine FD Y (λh5 e x p f a r j y s l B w l5 E=>?_);have C:=N h5 e x p f a r j y s l B w (l4.trans l5) (E.base l4);cbv;exact C
end Go.S
