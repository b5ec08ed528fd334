import Derived.Test.YtficmdggjjepmaaGreatFX
import Derived.Deep.Slices
import Derived.Test.YtficmdggjjepmaaGreatBM
set_option linter.all false
set_option maxRecDepth 100000
set_option maxHeartbeats 4000000
namespace Go.S
open Go.Sx Go.Proofs Go.ChangeShapes Go.WideShapes Go.ChangeAt Go.RowKit
variable {H a:Type}{A:Ar}{d:DB}{D:Dk}{g:Lg}{cL o:List Bs}{ds:List Dg}{f:List Fd}{cs:List Value}{xs:List a}{P cap i n r:Nat}{b gb:Option Addr}{s:Sh a}{enc:TypeId×Value->H}{V:VS}{k:Value->ab->Prop}
structure DA{α:Type}(s:Sh α)(h:ab)(v:Value)(xs:List α):Prop where
 out:∃b cap,v=.slice b xs.length cap/\xs.length<=cap/\(xs=[]\/∃dM off c e fr,b=some ⟨dM,off,none⟩/\h dM=some (.cells c e fr)/\Sx.Rows s h c.toList off xs)
theorem DA.mono{d:Type}{s:Sh d}{h h':ab}{v:Value}{xs:List d}(hl:Le h h')(q:DA s h v xs):DA s h' v xs:=by
 obtain⟨b,cap,j,k,a⟩:=q.out;refine⟨b,cap,j,k,?_⟩;rcases a with a| ⟨dM,off,c,e,fr,g,f,i⟩
 .exact .inl a
 exact .inr ⟨dM,off,c,e,fr,g,hl _ _ f,i.mono (hl.t _)⟩
theorem DA.load[aV A]{h:ab}{len:Nat}(q:DA s h (.slice b len cap) xs){x:a}(hx:xs[i]? =some x){n:Int}(m:n=(i:Int))
 {k:List Value->Prop} (l:∀cs,s.R h cs x->k cs):vX h (A.fM b n s.n) s.n k:=by
 obtain⟨o,Q,f,p,j⟩:=q.out;cases f;rcases j with rfl| ⟨dM,off,c,e,fr,rfl,d,g⟩
 .simp at hx
 subst m;refine⟨_,?_,l _ (g.2 i x hx)⟩;rw[A.pd];simp only[fM,hJY,zw,bL];exact jo d g hx
theorem DA.len{h:ab}{len:Nat}(q:DA s h (.slice b len cap) xs):len=xs.length:=by obtain⟨d,e,c,-⟩:=q.out;cases c;rfl
theorem DA.aR{h:ab}{len:Nat}(q:DA s h (.slice b len cap) xs)(hl:0<len:=by omega):b.isSome=true:=by
 obtain⟨g,Q,d,i,f⟩:=q.out;cases d;rcases f with rfl| ⟨dM,off,c,e,fr,rfl,-⟩
 .simp at hl
 rfl
theorem DA.form{h:ab}{v:Value}(q:DA s h v xs):∃b l c,v=.slice b l c:=by obtain⟨b,cap,d,-⟩:=q.out;exact⟨b,_,cap,d⟩
theorem DA.sl{i:Type}{s:Sh i}{h:ab}{len:Nat}{xs:List i}(q:DA s h (.slice b len cap) xs)(hl:len<=2^40):∃e,Sl e s h (.slice b len cap) xs:=by
 have l:=q.len;obtain⟨d,Q,f,g,a⟩:=q.out;rcases a with a| ⟨dM,off,c,e,fr,j,k,m⟩
 .exact⟨0,d,Q,f,g,by omega,.inl a⟩
 exact⟨e,d,Q,f,g,by omega,.inr ⟨dM,off,c,fr,j,k,m⟩⟩
def aQL(H:ab):Sh Bs where
 n:=1
 R _ cs xs:=∃v,cs=[v]/\DA bS H v xs
 len:=by rintro h cs x ⟨v,rfl,-⟩;rfl
 one:=by rintro h cs x ⟨v,rfl,q⟩;obtain⟨b,cap,rfl,-⟩:=q.out;rfl
 tys:=[]
 mono:=λ_ q=>q
theorem uh{w:World}{d:Nat}{v:Value}(h:w.cell? ⟨d,i,none⟩=some v):∃c e fr,full w d=some (.cells c e fr)/\c[i]? =some v:=by
 simp only[World.cell?]at h;split at h
 .rename_i cc e fr b;exact⟨cc,e,fr,b,by simpa using h⟩
 cases h
theorem zN{E:Type}[Inhabited E]{W:World}{s:Sh E}{t e:TypeId}{x:DataW H×List MemPlace}(ht:Tryz.prog.underlying t=some (.slice e))(O:Tryz.prog.cellsOf e=s.n)(hn:0<s.n)
 (Q:∀n cs x,DataW.trod enc Tryz.prog W 0 (λ_=>true) true n e cs=some x->∃a,s.R (full W) cs a) (h:DataW.trod enc Tryz.prog W 0 (λ_=>true) true n t cs=some x):∃v xs,cs=[v]/\DA s (full W) v xs:=by
 rcases Go.Deep.open_slice ht h with⟨u,T⟩|⟨o,l,c,m,k,D,Pl,u,T,U,h4,V,h6,G⟩
 .exact⟨_,[],u,⟨_,_,rfl,by simp,.inl rfl⟩⟩
 have hm:m=c:=V;subst hm;rw[O]at G;have f:∀i,i<l->∃a:E,∃cs,s.R (full W) cs a/\∀j,j<s.n->W.cell? ((o.add (i*s.n)).add j)=cs[j]? :=by intro i b;obtain⟨cs,A,J⟩:=G i (by omega);obtain⟨-,L,q4⟩:=World.cells?_some A;obtain⟨a,qa⟩:=Q _ _ _ J;exact⟨a,cs,qa,q4⟩
 obtain⟨F,g⟩:=Go.Deep.choose_lt f;have Z:∀ {i x},((List.range l).map F)[i]? =some x->i<l/\x=F i:=by intro i x hx;have b:=(dB.1 hx).1;simp only[hJT,hKC]at b;rw[qy,List.getElem?_range b]at hx;exact⟨b,by cases hx;rfl⟩
 refine⟨_,(List.range l).map F,u,⟨some o,m,?_,?_,?_⟩⟩
 .simp
 .simpa using U
 rcases hJL l with h0|h0
 .left;rw[h0];rfl
 right;obtain⟨Y,A,L⟩:=g 0 h0;have J:=s.len A;obtain⟨P,off,p⟩:=o;have q:=L 0 hn;have R:p=none:=by
  cases p with
  |none=>rfl
  |some x=>
   simp only[World.cell?]at q;split at q
   .rw[zs (by omega)]at q;simp[Addr.add]at q
   rw[zs (by omega)]at q;cases q
 subst R;simp only[Xz]at g q;rw[zs (by omega)]at q;obtain⟨cc,e,fr,y,-⟩:=uh q;have K:∀i,i<l->∀j,j<s.n->∃cs,s.R (full W) cs (F i)/\cs.length=s.n/\cc[off+i*s.n+j]? =cs[j]? :=by intro i b j z;obtain⟨cs,r,d⟩:=g i b;have B:=s.len r;have:=d j z;rw[zs (by omega)]at this;obtain⟨w,S,N,C,X⟩:=uh this;rw[y]at C;cases C;exact⟨cs,r,B,by rw[X,zs (by omega)]⟩
 refine⟨P,off,cc,e,fr,rfl,y,?_,λi x hx=>?_⟩
 .obtain⟨cs,r,B,d⟩:=K (l-1) (by omega) (s.n-1) (by omega);rw[zs (by omega)]at d;have h9:=(zj.1 d).1;simp only[hJT,hKC,HH];have I:l*s.n=(l-1)*s.n+s.n:=by rw[<-hJI];congr 1;omega
  omega
 obtain⟨b,rfl⟩:=Z hx;obtain⟨cs,r,d⟩:=g i b;have B:=s.len r;have:(cc.toList.drop (off+i*s.n)).take s.n=cs:=by
  apply rv;intro j;rw[hU];split
  .rename_i z;have M:=d j z;rw[zs (by omega)]at M;obtain⟨w,S,N,C,X⟩:=uh M;rw[y]at C;cases C;rw[nM,hKw,X,zs (by omega)]
  rw[qk (by omega)]
 rw[this];exact r
theorem aQu:Tryz.prog.underlying 35=some (.slice 5):=by kernel_rfl
theorem Ux:Tryz.prog.underlying 22=some (.slice 35):=by kernel_rfl
theorem Uw:Tryz.prog.underlying 23=some (.slice 106):=by kernel_rfl
theorem Ds{W:World}{x:DataW H×List MemPlace}(h:DataW.trod enc Tryz.prog W 0 (λ_=>true) true n 5 cs=some x):∃a:UInt8,cs=[.int .u8 (a.toNat:Int)]:=by
 obtain⟨z,e,-,w⟩:=DataW.trod_int (show Tryz.prog.underlying 5=some (.int .u8)by kernel_rfl) h;have b:0<=z/\z<=255:=by
  have w:IntKind.u8.min<=z/\z<=IntKind.u8.max:=by simpa[Lit.wf]using w
  have m:IntKind.u8.min=0:=by decide
  have G:IntKind.u8.max=255:=by decide
  rw[m,G]at w;exact w
 refine⟨UInt8.ofNat z.toNat,?_⟩;rw[e];congr 2;rw[UInt8.toNat_ofNat_of_lt' (by show z.toNat<256;omega)];omega
theorem Hu{W:World}{x:DataW H×List MemPlace}(h:DataW.trod enc Tryz.prog W 0 (λ_=>true) true n 35 cs=some x):∃v xs,cs=[v]/\DA bS (full W) v xs:=
 zN aQu (by kernel_rfl) (by decide) (λn cs x h=>Ds h) h
theorem PI{W:World}{v:Value}{d:DataW H}{p:List MemPlace}(h:DataW.Trod enc Tryz.prog W 0 (λ_=>true) true 22 v d p)(m:∃a l c,v=.slice a l c):∃xs,DA (aQL (full W)) (full W) v xs:=by
 obtain⟨n,b⟩:=h;obtain⟨a,l,c,rfl⟩:=m;obtain⟨v,xs,e,q⟩:=zN Ux (s:=aQL (full W)) (by kernel_rfl) (by show 0<1;decide) (λn cs x h=>by
  obtain⟨v,xs,e,q⟩:=Hu h;exact⟨xs,v,e,q⟩) b
 cases e;exact⟨xs,q⟩
instance :Inhabited Dg:=⟨⟨0,[]⟩⟩
theorem Sa{W:World}{x:DataW H×List MemPlace}(h:DataW.trod enc Tryz.prog W 0 (λ_=>true) true n 106 cs=some x):∃a,zQ.R (full W) cs a:=by
 obtain⟨xs,m,-,-,b,hx,o⟩:=DataW.trod_struct Tryz.underlying106 h;have b:cs.length=33:=b.trans (by kernel_rfl);have O:xs.length=2:=hx.trans (by rfl);have p:Tryz.prog.cellsOf 3=1:=by kernel_rfl
 have e1:Tryz.prog.cellsOf 104=32:=by kernel_rfl
 have q:Tryz.prog.cellsOf 5=1:=by kernel_rfl
 match xs,O with
 | [y,y1],_=>
  have f:=o 0 _ rfl;have d:=o 1 _ rfl;change DataW.trod enc Tryz.prog W 0 (λ_=>true) true m 3 ((cs.drop 0).take (Tryz.prog.cellsOf 3))=some y at f;change DataW.trod enc Tryz.prog W 0 (λ_=>true) true m 104 ((cs.drop 1).take (Tryz.prog.cellsOf 104))=some y1 at d;rw[p]at f;rw[e1]at d;obtain⟨k,h0,-,w0⟩:=DataW.trod_int (show Tryz.prog.underlying 3=some (.int .i64)by kernel_rfl) f;obtain⟨ys,A,-,-,P,z,g⟩:=DataW.trod_array (show Tryz.prog.underlying 104=some (.array 32 5)by kernel_rfl) d;rw[e1]at P;have e:∀i,i<32->∃a:UInt8,((cs.drop 1).take 32)[i]? =some (.int .u8 (a.toNat:Int)):=λi c=>by
   have:=g i c;rw[q,zs (by omega)]at this;obtain⟨a,w⟩:=Ds this;refine⟨a,?_⟩;have j:=congrArg (λl=>l[0]?) w;simp only[hU,nM]at j |-;simpa[c]using j
  obtain⟨F,v⟩:=Go.Deep.choose_lt e;have u:cs=.int .i64 k::((cs.drop 1).take 32):=by have r:cs=cs.take 1++cs.drop 1:=(hJO 1 cs).symm;have s:cs.take 1=[.int .i64 k]:=h0;have t:(cs.drop 1).take 32=cs.drop 1:=hO (by rw[ec];omega);rw[t,<-hKA,<-s];exact r
  have L:(cs.drop 1).take 32=hl (λi=>((F i).toNat:Int)):=by
   apply rv;intro i;by_cases c:i<32
   .rw[v i c];have:i=0\/i=1\/i=2\/i=3\/i=4\/i=5\/i=6\/i=7\/i=8\/i=9\/i=10\/i=11\/i=12\/i=13\/i=14\/i=15\/i=16\/i=17\/i=18\/i=19\/i=20\/i=21\/i=22\/i=23\/i=24\/i=25\/i=26\/i=27\/i=28\/i=29\/i=30\/i=31:=by omega
    rcases this with rfl|rfl|rfl|rfl|rfl|rfl|rfl|rfl|rfl|rfl|rfl|rfl|rfl|rfl|rfl|rfl|rfl|rfl|rfl|rfl|rfl|rfl|rfl|rfl|rfl|rfl|rfl|rfl|rfl|rfl|rfl|rfl<;>rfl
   rw[qk (by omega),qk (by show 32<=i;omega)]
  refine⟨⟨k,(List.range 32).map F⟩,λi=>((F i).toNat:Int),?_,?_,by simp⟩
  .show cs=.int .i64 k::hl (λi=>((F i).toNat:Int));rw[<-L];exact u
  rfl
theorem Xh{W:World}{v:Value}{d:DataW H}{p:List MemPlace}(h:DataW.Trod enc Tryz.prog W 0 (λ_=>true) true 23 v d p)(m:∃a l c,v=.slice a l c):∃xs,DA zQ (full W) v xs:=by obtain⟨n,b⟩:=h;obtain⟨a,l,c,rfl⟩:=m;obtain⟨v,xs,e,q⟩:=zN Uw (s:=zQ) (by kernel_rfl) (by show 0<33;decide) (λn cs x h=>Sa h) b;cases e;exact⟨xs,q⟩
set_option maxHeartbeats 2000000
open Go.Sx Go.Proofs
variable {h0 h gL h':ab}{p:Nat}{fb:Option Addr}{fm fc:Nat}{b1 b2 b3 b4 b5 b6:Option Addr}{n1 c1 n2 c2 n3 c3 n4 c4 n5 c5 n6 c6:Nat}
theorem Ts{n:Int}{s:List Bs}(q:mG h0 h p b1 n1 c1 b2 n2 c2 b3 n3 c3 b4 n4 c4 b5 n5 c5 b6 n6 c6 fb fm fc ⟨d,n,o,s,f⟩)(v:VI d)(z:Int){nm:ByteArray}{W:List gY}{key:Int}{only:Bool}{m:Option Addr}{u:Nat}(F:Sl 58 bt h (.slice m u r) W)
 (a:∀h' b1 n1 c1 b2 n2 c2 b3 n3 c3 b4 n4 c4 fb fm fc,mG h0 h' p b1 n1 c1 b2 n2 c2 b3 n3 c3 b4 n4 c4 b5 n5 c5 b6 n6 c6 fb fm fc ⟨(cm d ⟨nm,W,key,only⟩).1,n,o,s,bT (decide ((cm d ⟨nm,W,key,only⟩).2=0)) f ⟨7,0,0,z⟩⟩->k (.tuple #[]) h'):
 Ct 54 [.pointer (some ⟨p,0,none⟩),.agg (List.toArray (uR 1 nm m u r key only ⟨#[]⟩ 0 none 0 0 none 0 0 zG false 0 zG)),.int .i64 z] h k:=by
 obtain⟨A,L⟩:=Ar.ex;obtain⟨D,b⟩:∃D,cm d ⟨nm,W,key,only⟩=D:=⟨_,rfl⟩;rw[b]at a;rw[rD v.jd]at b;obtain⟨d',e⟩:=D;have a:∀h' b1 n1 c1 b2 n2 c2 b3 n3 c3 b4 n4 c4 fb fm fc,mG h0 h' p b1 n1 c1 b2 n2 c2 b3 n3 c3 b4 n4 c4 b5 n5 c5 b6 n6 c6 fb fm fc ⟨d',n,o,s,bT (decide (e=0)) f ⟨7,0,0,z⟩⟩->k (.tuple #[]) h':=a;have g:=q.lk.out;have Y:A .az .eql 1 1=true:=by rw[aq A];rfl
 have w:A .az .neq e 0= !(decide (e=0)):=by rw[av A];simp
 have J:d.al.length<=2^37:=by have:=v.le;omega
 have Z:∀t∈d.al,t.S.name.size<=2^60:=λt B=>by have:=(v.al t B).2;omega
 refine dH aQe A Tryz.func54 ?_;cbv;rw[Y];cbv;repeat (first|rw[ao A] | (refine bc g ?_;cbv)|(refine⟨⟨_,rfl,rfl⟩,?_⟩;cbv))
 refine CD q.rp F J Z b (λK M U O P V N S I Q T H R C G=>?_);have j:=q.le C;have i:=j.lk.out;clear b;cbv;repeat (first|rw[ao A] | (refine bc i ?_;cbv)|(refine⟨⟨_,rfl,rfl⟩,?_⟩;cbv))
 refine iB i (by show 4<=8;decide) (λx c=>?_);have l:=j.put (nx':=n) G c;clear c;cbv;rw[w];generalize decide (e=0)=t at *;cases t with
 |true=>have:=a x _ _ _ _ _ _ _ _ _ _ _ _ _ _ _ l;clear a;cbv;exact this
 |false=>cbv;refine ni l 7 0 0 z (λy fb fm fc E=>?_);have:=a y _ _ _ _ _ _ _ _ _ _ _ _ _ _ _ E;clear a;cbv;exact this
theorem Tt{n:Int}{s:List Bs}(q:mG h0 h p b1 n1 c1 b2 n2 c2 b3 n3 c3 b4 n4 c4 b5 n5 c5 b6 n6 c6 fb fm fc ⟨d,n,o,s,f⟩)(v:VI d)(z:Int)(nm:ByteArray)
 (a:∀h' b1 n1 c1 b2 n2 c2 b3 n3 c3 b4 n4 c4 fb fm fc,mG h0 h' p b1 n1 c1 b2 n2 c2 b3 n3 c3 b4 n4 c4 b5 n5 c5 b6 n6 c6 fb fm fc ⟨(dD d nm).1,n,o,s,bT (decide ((dD d nm).2=0)) f ⟨7,0,0,z⟩⟩->k (.tuple #[]) h'):
 Ct 54 [.pointer (some ⟨p,0,none⟩),.agg (List.toArray (uR 2 ⟨#[]⟩ none 0 0 0 false nm 0 none 0 0 none 0 0 zG false 0 zG)),.int .i64 z] h k:=by
 obtain⟨A,F⟩:=Ar.ex;obtain⟨D,b⟩:∃D,dD d nm=D:=⟨_,rfl⟩;rw[b]at a;obtain⟨d',e⟩:=D;have a:∀h' b1 n1 c1 b2 n2 c2 b3 n3 c3 b4 n4 c4 fb fm fc,mG h0 h' p b1 n1 c1 b2 n2 c2 b3 n3 c3 b4 n4 c4 b5 n5 c5 b6 n6 c6 fb fm fc ⟨d',n,o,s,bT (decide (e=0)) f ⟨7,0,0,z⟩⟩->k (.tuple #[]) h':=a;have g:=q.lk.out;have N:A .az .eql 2 1=false:=by rw[aq A];rfl
 have X:A .az .eql 2 2=true:=by rw[aq A];rfl
 have m:A .az .neq e 0= !(decide (e=0)):=by rw[av A];simp
 have J:d.al.length<=8:=v.le;refine dH aQe A Tryz.func54 ?_;cbv;rw[N];cbv;rw[X];cbv;repeat (first|rw[ao A] | (refine bc g ?_;cbv)|(refine⟨⟨_,rfl,rfl⟩,?_⟩;cbv))
 refine Xc q.rp v.jd J nm b (λE G U O H Q I L C K M B R w y=>?_);have j:=q.le w;have i:=j.lk.out;clear b;cbv;repeat (first|rw[ao A] | (refine bc i ?_;cbv)|(refine⟨⟨_,rfl,rfl⟩,?_⟩;cbv))
 refine iB i (by show 4<=8;decide) (λr c=>?_);have l:=j.put (nx':=n) y c;clear c;cbv;rw[m];generalize decide (e=0)=t at *;cases t with
 |true=>have:=a r _ _ _ _ _ _ _ _ _ _ _ _ _ _ _ l;clear a;cbv;exact this
 |false=>cbv;refine ni l 7 0 0 z (λu fb fm fc x=>?_);have:=a u _ _ _ _ _ _ _ _ _ _ _ _ _ _ _ x;clear a;cbv;exact this
theorem aKE{n:Int}{s:List Bs}(q:mG h0 h p b1 n1 c1 b2 n2 c2 b3 n3 c3 b4 n4 c4 b5 n5 c5 b6 n6 c6 fb fm fc ⟨d,n,o,s,f⟩)(F:VI d)(t:o.length<=2^20)(u:s.length<=2^20)(z:Int)
 {id:Int} {L:List cW} {rows:List Bs} {r M:Bs} {cl:Bool} {vb wb:Option Addr} {v vc w wc:Nat} {g b:Nat->Int}
 (D:Sl 228 bW h0 (.slice vb v vc) L) (R:Sl 104 iM h0 (.slice wb w wc) rows) (j:v<=255) (Z:w=v) (C:∀c∈L,NV c) (E:hl g=aA r) (x:r.length=32) (B:hl b=aA M) (J:M.length=32)
  (m:Yt ⟨d,n,o,s,f⟩ ⟨id,L,rows,r,cl,M⟩=V) 
 (i:∀h' b1 n1 c1 b5 n5 c5 b6 n6 c6 fb fm fc,mG h0 h' p b1 n1 c1 b2 n2 c2 b3 n3 c3 b4 n4 c4 b5 n5 c5 b6 n6 c6 fb fm fc V->k (.tuple #[]) h'):
 Ct 54 [.pointer (some ⟨p,0,none⟩),.agg (List.toArray (uR 3 ⟨#[]⟩ none 0 0 0 false ⟨#[]⟩ id vb v vc wb w wc g cl 0 b)),.int .i64 z] h k:=by
 obtain⟨A,G⟩:=Ar.ex;have a:A .az .eql 3 1=false:=by rw[aq A];rfl
 have X:A .az .eql 3 2=false:=by rw[aq A];rfl
 have e:A .az .eql 3 3=true:=by rw[aq A];rfl
 have T:A .az .neq 0 0=false:=by rw[av A];rfl
 refine dH aQe A Tryz.func54 ?_;cbv;rw[a];cbv;rw[X];cbv;rw[e];cbv;refine cKV q F t u D R j Z C E x B J m (λl b1 n1 c1 b5 n5 c5 b6 n6 c6 fb fm fc y=>?_);have:=i l _ _ _ _ _ _ _ _ _ _ _ _ y;clear i;cbv;rw[T];cbv;exact this
theorem XW{x:Int}{u:List Bs}(q:mG h0 h p b1 n1 c1 b2 n2 c2 b3 n3 c3 b4 n4 c4 b5 n5 c5 b6 n6 c6 fb fm fc ⟨d,x,o,u,f⟩)(E:o.length<=2^30)(F:u.length<=2^30)(z n:Int){w:Nat->Int}{s:Bs}(C:hl w=aA s)(iX:s.length=32)
  (c:IG ⟨d,x,o,u,f⟩ 0 (.dM n s)=V) 
 (t:∀h' b5 n5 c5 b6 n6 c6 fb fm fc,mG h0 h' p b1 n1 c1 b2 n2 c2 b3 n3 c3 b4 n4 c4 b5 n5 c5 b6 n6 c6 fb fm fc V->k (.tuple #[]) h'):
 Ct 54 [.pointer (some ⟨p,0,none⟩),.agg (List.toArray (uR 4 ⟨#[]⟩ none 0 0 0 false ⟨#[]⟩ 0 none 0 0 none 0 0 zG false n w)),.int .i64 z] h k:=by
 obtain⟨A,D⟩:=Ar.ex;have g:=q.lk.out;have G:n5=o.length:=q.op.sl.len;have B:n6=u.length:=q.sm.sl.len;have c:V=if n≠((u.length+1:Nat):Int)\/o=[]then⟨d,x,o,u,iS f ⟨2,n,0,0⟩⟩else lh ⟨d,x,o,u,f⟩ s:=c.symm
 have y:aM (A .aC .add .i64 (A .nat n6) 1) (n6+1):=(aM.nat n6).succ (A:=A);have l:A .az .neq n (A .aC .add .i64 (A .nat n6) 1)=decide (n≠((u.length+1:Nat):Int)):=by rw[av A,y.eq,B]
 have m:A .az .eql (A .nat n5) 0=decide (o=[]):=by rw[aq A,D.nat];refine decide_eq_decide.2 ⟨λe=>ee (by simp only[kH]at e;omega),λe=>?_⟩;rw[G,e];rfl
 have I:A .az .eql 4 1=false:=by rw[aq A];rfl
 have H:A .az .eql 4 2=false:=by rw[aq A];rfl
 have X:A .az .eql 4 3=false:=by rw[aq A];rfl
 have Z:A .az .eql 4 4=true:=by rw[aq A];rfl
 have T:A .az .neq 0 0=false:=by rw[av A];rfl
 clear y;have b:(n≠((u.length+1:Nat):Int)\/o=[])->∀h' fb fm fc,mG h0 h' p b1 n1 c1 b2 n2 c2 b3 n3 c3 b4 n4 c4 b5 n5 c5 b6 n6 c6 fb fm fc ⟨d,x,o,u,iS f ⟨2,n,0,0⟩⟩->k (.tuple #[]) h':=λe h' fb fm fc v=>by
  rw[if_pos e]at c;exact t h' _ _ _ _ _ _ _ _ _ (by rw[c];exact v)
 have j:¬(n≠((u.length+1:Nat):Int)\/o=[])->∀h' b6 n6 c6 fb fm fc,mG h0 h' p b1 n1 c1 b2 n2 c2 b3 n3 c3 b4 n4 c4 none 0 0 b6 n6 c6 fb fm fc (lh ⟨d,x,o,u,f⟩ s)->k (.tuple #[]) h':=λe h' b6 n6 c6 fb fm fc v=>by
  rw[if_neg e]at c;exact t h' _ _ _ _ _ _ _ _ _ (by rw[c];exact v)
 clear t c;refine dH aQe A Tryz.func54 ?_;cbv;rw[I];cbv;rw[H];cbv;rw[X];cbv;rw[Z];cbv;repeat (first|rw[ao A] | (refine bc g ?_;cbv)|(refine⟨⟨_,rfl,rfl⟩,?_⟩;cbv))
 rw[l];by_cases a:n≠((u.length+1:Nat):Int)
 .have b:=b (.inl a);rw[aH a];clear j l m;cbv;refine ni q 2 n 0 0 (λa fb fm fc i=>?_);have:=b a fb fm fc i;clear b;cbv;exact this
 rw[ag a];cbv;repeat (first|rw[ao A] | (refine bc g ?_;cbv)|(refine⟨⟨_,rfl,rfl⟩,?_⟩;cbv))
 rw[m];by_cases r:o=[]
 .have b:=b (.inr r);rw[aH r];clear j l m;cbv;refine ni q 2 n 0 0 (λa fb fm fc i=>?_);have:=b a fb fm fc i;clear b;cbv;exact this
 have j:=j (λe=>e.elim a r);rw[ag r];clear b l m;cbv;refine Yz q E F C iX (λa b6 n6 c6 fb fm fc i=>?_);have:=j a _ _ _ _ _ _ i;clear j;cbv;rw[T];cbv;exact this
def Oz(h0 h:ab)(p:Nat)(v:VS):Prop:=∃b1 n1 c1 b2 n2 c2 b3 n3 c3 b4 n4 c4 b5 n5 c5 b6 n6 c6 fb fm fc,mG h0 h p b1 n1 c1 b2 n2 c2 b3 n3 c3 b4 n4 c4 b5 n5 c5 b6 n6 c6 fb fm fc v
theorem mG.e{h0 h:ab}{p:Nat}{fb:Option Addr}{fm fc:Nat}{b1 b2 b3 b4 b5 b6:Option Addr}{n1 c1 n2 c2 n3 c3 n4 c4 n5 c5 n6 c6:Nat}{v:VS}(q:mG h0 h p b1 n1 c1 b2 n2 c2 b3 n3 c3 b4 n4 c4 b5 n5 c5 b6 n6 c6 fb fm fc v):Oz h0 h p v:=⟨b1,n1,c1,b2,n2,c2,b3,n3,c3,b4,n4,c4,b5,n5,c5,b6,n6,c6,fb,fm,fc,q⟩
theorem Oz.elim{h0 h:ab}{p:Nat}{v:VS}{P:Prop}(q:Oz h0 h p v)(k:∀b1 n1 c1 b2 n2 c2 b3 n3 c3 b4 n4 c4 b5 n5 c5 b6 n6 c6 fb fm fc,mG h0 h p b1 n1 c1 b2 n2 c2 b3 n3 c3 b4 n4 c4 b5 n5 c5 b6 n6 c6 fb fm fc v->P):P:=by obtain⟨b1,n1,c1,b2,n2,c2,b3,n3,c3,b4,n4,c4,b5,n5,c5,b6,n6,c6,fb,fm,fc,q⟩:=q;exact k _ _ _ _ _ _ _ _ _ _ _ _ _ _ _ _ _ _ _ _ _ q
theorem aKF{h0 h:ab}(J:Le h0 h){m c:Nat}{l:Bs}(q:Sl 5 bS h0 (.slice b m c) l)
 (F:∀gL h' x nm f o i key only a id b1 n1 c1 b2 n2 c2 j cl n g,cF l=none->Le h0 gL->Le gL h'->Le h h'->Fr h0 h gL h'->k (.tuple #[.agg (List.toArray (uR x nm f o i key only a id b1 n1 c1 b2 n2 c2 j cl n g)),.bool false]) h')
 (E:∀gL h' nm W key only f o i,cF l=some (.made ⟨nm,W,key,only⟩)->Sl 58 bt gL (.slice f o i) W->Le h0 gL->Le gL h'->Le h h'->Fr h0 h gL h'->k (.tuple #[.agg (List.toArray (uR 1 nm f o i key only ⟨#[]⟩ 0 none 0 0 none 0 0 zG false 0 zG)),.bool true]) h')
 (Y:∀gL h' nm,cF l=some (.gone nm)->Le h0 gL->Le gL h'->Le h h'->Fr h0 h gL h'->k (.tuple #[.agg (List.toArray (uR 2 ⟨#[]⟩ none 0 0 0 false nm 0 none 0 0 none 0 0 zG false 0 zG)),.bool true]) h')
 (R:∀gL h' id L rows r cl M b1 n1 c1 b2 n2 c2 j g,cF l=some (.tx ⟨id,L,rows,r,cl,M⟩)->Sl 228 bW gL (.slice b1 n1 c1) L->Sl 104 iM gL (.slice b2 n2 c2) rows->n1<=255->n2=n1->hl j=aA r->hl g=aA M->Le h0 gL->Le gL h'->Le h h'->Fr h0 h gL h'->k (.tuple #[.agg (List.toArray (uR 3 ⟨#[]⟩ none 0 0 0 false ⟨#[]⟩ id b1 n1 c1 b2 n2 c2 j cl 0 g)),.bool true]) h')
 (S:∀gL h' n u w,cF l=some (.dM n u)->hl w=aA u->Le h0 gL->Le gL h'->Le h h'->Fr h0 h gL h'->k (.tuple #[.agg (List.toArray (uR 4 ⟨#[]⟩ none 0 0 0 false ⟨#[]⟩ 0 none 0 0 none 0 0 zG false n w)),.bool true]) h'):
 Ct 53 [.slice b m c] h k:=by
 refine stat J (P:=λv h=>(cF l=none/\∃x nm f o i key only a id b1 n1 c1 b2 n2 c2 j cl n g,v=.tuple #[.agg (List.toArray (uR x nm f o i key only a id b1 n1 c1 b2 n2 c2 j cl n g)),.bool false])\/
  (∃nm W key only f o i,cF l=some (.made ⟨nm,W,key,only⟩)/\v=.tuple #[.agg (List.toArray (uR 1 nm f o i key only ⟨#[]⟩ 0 none 0 0 none 0 0 zG false 0 zG)),.bool true]/\Sl 58 bt h (.slice f o i) W)\/
  (∃nm,cF l=some (.gone nm)/\v=.tuple #[.agg (List.toArray (uR 2 ⟨#[]⟩ none 0 0 0 false nm 0 none 0 0 none 0 0 zG false 0 zG)),.bool true])\/
  (∃id L rows r cl M b1 n1 c1 b2 n2 c2 j g,cF l=some (.tx ⟨id,L,rows,r,cl,M⟩)/\v=.tuple #[.agg (List.toArray (uR 3 ⟨#[]⟩ none 0 0 0 false ⟨#[]⟩ id b1 n1 c1 b2 n2 c2 j cl 0 g)),.bool true]/\Sl 228 bW h (.slice b1 n1 c1) L/\Sl 104 iM h (.slice b2 n2 c2) rows/\n1<=255/\n2=n1/\hl j=aA r/\hl g=aA M)\/
  (∃n u w,cF l=some (.dM n u)/\v=.tuple #[.agg (List.toArray (uR 4 ⟨#[]⟩ none 0 0 0 false ⟨#[]⟩ 0 none 0 0 none 0 0 zG false n w)),.bool true]/\hl w=aA u))
  (XX q (λd h' x nm f o i key only a id b1 n1 c1 b2 n2 c2 j cl n g l=>?_) (λs h' f o i d l p=>?_) (λnm h' d l=>?_) (λt h' b1 n1 c1 b2 n2 c2 j g d l p D e1 A B C=>?_) (λn u h' g d l e=>?_)) (λv gL h' G a1 a2 y z=>?_)
 .exact⟨l,.inl ⟨d,x,nm,f,o,i,key,only,a,id,b1,n1,c1,b2,n2,c2,j,cl,n,g,rfl⟩⟩
 .exact⟨l,.inr (.inl ⟨s.name,s.aW,s.key,s.only,f,o,i,d,rfl,p⟩)⟩
 .exact⟨l,.inr (.inr (.inl ⟨nm,d,rfl⟩))⟩
 .exact⟨l,.inr (.inr (.inr (.inl ⟨t.id,t.xI,t.rows,t.root,t.pf,t.block,b1,n1,c1,b2,n2,c2,j,g,d,rfl,p,D,e1,A,B,C⟩)))⟩
 .exact⟨l,.inr (.inr (.inr (.inr ⟨n,u,g,d,rfl,e⟩)))⟩
 rcases G with⟨d,x,nm,f,o,i,key,only,a,id,y1,K,H,y2,N,I,j,cl,n,g,e⟩|⟨nm,W,key,only,f,o,i,d,e,p⟩|⟨nm,d,e⟩|⟨id,L,rows,r,cl,M,y1,K,H,y2,N,I,j,g,d,e,p,D,e1,A,B,C⟩|⟨n,u,w,d,e,e1⟩
 .rw[e];exact F _ _ _ _ _ _ _ _ _ _ _ _ _ _ _ _ _ _ _ _ _ d a1 a2 y z
 .rw[e];exact E _ _ _ _ _ _ _ _ _ d p a1 a2 y z
 .rw[e];exact Y _ _ _ d a1 a2 y z
 .rw[e];exact R _ _ _ _ _ _ _ _ _ _ _ _ _ _ _ _ d p D e1 A B C a1 a2 y z
 rw[e];exact S _ _ _ _ _ d e1 a1 a2 y z
theorem cQV{h:ab}{p:Nat}{c:Array Value}{e:Nat}{fr:Nat×Nat}(g:h p=some (.cells c e fr)){tys:List Nat}(i:e∉tys):cf tys h (Sx.eS h p):=λb d j E m a=>by
 by_cases f:b=p
 .subst f;rw[g]at a;cases a;exact absurd m i
 rw[Sx.jS f];exact a
theorem Tm{bk h:ab}{dp:Nat}(q:jD bk h dp D){j:Bool}(hS:(cL,j)=nq D)(hN:cL.length<=2^20){e:Nat}{N gc:Nat}(qg:Sl e zQ h (.slice gb N gc) ds)
 (hk:∀h' b m c,Le h h'->Sl 137 qI h' (.slice b m c) (Ii cL j ds)->k (.slice b m c) h'):
 Ct 17 [.pointer (some ⟨dp,0,none⟩),.slice gb N gc] h k:=by
 obtain⟨A,hA⟩:=Ar.ex;obtain⟨S,Li⟩:∃S,S=Uu cL j:=⟨_,rfl⟩;have VQ:Ii cL j ds=oD S.bG S.found ds:=by rw[Li];rfl
 rw[VQ]at hk;clear VQ;have aP:A .not false=true:=by rw[hA.not];rfl
 have Nl:A .not true=false:=by rw[hA.not];rfl
 refine fG A [5,12] (ah gQj.aw gQj.aP) Tryz.func17 rfl (by kernel_rfl) ?_;cbv;intro p h1 hp e1;have l1:Le h h1:=by rw[e1];exact Le.set hp
 have Ib:=(congrFun e1 p).trans ae;clear e1;cbv;refine Tq (q.le l1) (λh2 rb E rc l w aD l2 sr=>?_);rw[<-hS]at aD;cases aD;obtain⟨I,Lf⟩:∃I,I=Sx.eS h2 p:=⟨_,rfl⟩;have Ha:=l2 _ _ Ib;have bd:Le I h2:=by rw[Lf];exact Sx.nC _ _
 have ZG:I p=none:=by rw[Lf];exact Sx.ju _ _
 have aw:Le h I:=λb o ji=>by
  have ZG:b≠p:=λe=>by rw[e,hp]at ji;cases ji
  rw[Lf,Sx.jS ZG];exact l2 _ _ (l1 _ _ ji)
 have an:Sl 35 me I (.slice rb E rc) cL:=sr.mono (by rw[Lf];exact cQV Ha (by decide));have YJ:=qg.mono (aw.t _);have q2:mG I h2 p none 0 0 none 0 0 none 0 0 none 0 0 none 0 0 none 0 0 none 0 0 ⟨dz,0,[],[],[]⟩:=
  ⟨⟨Ha,aT.nil,ZG,bd⟩,⟨Sl.nil,Sl.nil,Sl.nil,Sl.nil⟩,aT.nil,aT.nil,.inl rfl⟩
 have tV:=an.len;have xY:∀h' r b m c,Le I r->Le r h'->Sl 137 qI h' (.slice b m c) (oD S.bG S.found ds)->k (.slice b m c) h':=λh' r b m c a1 a2 a3=>hk h' b m c ((aw.trans a1).trans a2) a3;have Li:S=qO 0 ⟨dz,0,[],[],bT j [] ⟨1,0,0,A .nat E⟩⟩ (cL.drop 0):=by rw[Li,hA.nat,tV];rfl
 have LR:Ox ⟨dz,0,[],[],bT j [] ⟨1,0,0,A .nat E⟩⟩ 0:=bXw;obtain⟨f7,KY⟩:∃f7,f7=bT j [] ⟨1,0,0,A .nat E⟩:=⟨_,rfl⟩;rw[<-KY]at Li LR;obtain⟨C1,HZ⟩:∃C:Unit->ab->Prop,∀g h',C g h'=Oz I h' p ⟨dz,0,[],[],f7⟩:=⟨_,λ_ _=>rfl⟩;clear hk q qg sr aw Lf l1 hp Ib bd ZG Ha;cbv;refine jA.go (G:=Unit) (λ_=>[]) (λ_=>[]) C1 ?_ ?_
 .cbv;cases j with
  |true=>
   have hC:C1 () h2:=by rw[HZ,KY];exact q2.e
   clear HZ KY Li xY;rw[Nl];cbv;refine⟨(),by constructor<;>cbv,hC⟩
  |false=>
   rw[aP];cbv;refine ni q2 1 0 0 (A .nat E) (λh3 fb fm fc q3=>?_);have hC:C1 () h3:=by rw[HZ,KY];exact q3.e
   clear HZ KY Li xY;cbv;refine⟨(),by constructor<;>cbv,hC⟩
 intro gu h3 X;rw[HZ]at X;obtain⟨C2,Nd⟩:∃C:Unit->ab->Prop,∀g h',C g h'=∃r,Le I r/\Oz r h' p S:=⟨_,λ_ _=>rfl⟩;obtain⟨J,aX⟩:∃J:Nat->Int->ab->Prop,∀w z h',J w z h'=(∃i r v,aM z i/\i<=E/\w=E-i/\Le I r/\Oz r h' p v/\Ox v i/\S=qO i v (cL.drop i)):=⟨_,λ_ _ _=>rfl⟩;have hJ:J E 0 h3:=by rw[aX];exact⟨0,I,_,⟨rfl⟩,by omega,by omega,Le.refl _,X,LR,Li⟩
 clear HZ X KY q2 LR Li;cbv;refine jA.go (G:=Unit) (λ_=>[]) (λ_=>[]) C2 ?_ ?_
 .clear xY;cbv;refine aK.go (G:=Int) (λz=>[(8,.v (.int .i64 z))]) (λ_=>[]) (λw z h'=>J w z h') E 0 (by constructor<;>cbv) hJ ?_
  .intro w z h8 X;rw[aX]at X;cbv;obtain⟨i,bm,v,hz,hi,hw,Ei,e8,Ch,R⟩:=X;obtain⟨d,nx,op,y,fo⟩:=v;refine e8.elim (λb1 n1 c1 b2 n2 c2 b3 n3 c3 b4 n4 c4 b5 n5 c5 b6 n6 c6 fb fm fc Q=>?_);have fz:A .az .lss z (A .nat E)=decide (i<E):=hz.pL (aM.nat E);rw[fz];by_cases hc:i<E
   .rw[aH hc];obtain⟨x,hx⟩:=di cL i;have ck:rb.isSome=true/\0<=z/\z<(E:Int):=⟨an.aR,hz.ix hc⟩;have dJ:=hz.eq;have bl:=(an.mono (Ei.t _));have M:∀h' r v,Le I r->Oz r h' p v->Ox v (i+1)->S=qO (i+1) v (cL.drop (i+1))->J (E-(i+1)) (A .aC .add .i64 z 1) h':=λh' r v a1 a2 a3 a4=>by
     rw[aX];exact⟨i+1,r,v,hz.succ (A:=A),hc,rfl,a1,a2,a3,a4⟩
    have Y:E-(i+1)<w:=by omega
    obtain⟨F,vA⟩:∃F,F=E-(i+1):=⟨_,rfl⟩;rw[<-vA]at M Y;have vo:=Ch.o;have vs:=Ch.s;have bB:E<=2^20:=by omega
    clear aX hJ fz e8;cbv;refine⟨ck,?_⟩;cbv;refine Ql Q.lk.le (bl.load hx dJ (λcs U=>?_));obtain⟨xv,rfl,qx⟩:=U;obtain⟨xb,B,xc,rfl⟩:=qx.form;cbv;refine aKF Q.lk.le qx (λng yD kd nm y0 m0 k0 key only bx id y1 m1 k1 y2 m2 k2 g1 cl n g3 hr oU O P V=>?_) (λng yD nm aW key only y0 m0 k0 hr s1 oU O P V=>?_) (λng yD nm hr oU O P V=>?_) (λng yD id L rows aj cl dM y1 m1 k1 y2 m2 k2 g1 g2 hr s1 s2 e1 e2 e3 e4 oU O P V=>?_) (λng yD n bj g3 hr e oU O P V=>?_)
    .have pK:=Q.call P O V;have vt:=Ei.trans oU;clear Q P O V;have Rw:=R.trans (Ad hx hr);clear R M;cbv;rw[aP];cbv;refine ni pK 1 0 0 z (λkD fb fm fc H=>?_);rw[show z=((i:Nat):Int)from dJ]at H;have hC:C2 () kD:=by rw[Nd,Rw];exact⟨ng,vt,H.e⟩
     clear Nd Rw H;cbv;refine⟨(),by constructor<;>cbv,hC⟩
    .have pK:=Q.call P O V;have vt:=Ei.trans oU;clear Q P O V;have mI:=nt Ch (.made ⟨nm,aW,key,only⟩);have u:=λh' r a1 a2=>M h' r _ a1 a2 mI (R.trans (il hx hr));clear R M mI;cbv;rw[Nl];cbv;refine Ts pK Ch.vi z (s1.mono (pK.lk.le.t _)) (λkD b1 n1 c1 b2 n2 c2 b3 n3 c3 b4 n4 c4 fb fm fc H=>?_);rw[show z=((i:Nat):Int)from dJ]at H;have K:=u kD ng vt H.e;clear u H;cbv;refine⟨F,_,Y,by constructor<;>cbv,K⟩
    .have pK:=Q.call P O V;have vt:=Ei.trans oU;clear Q P O V;have mI:=nt Ch (.gone nm);have u:=λh' r a1 a2=>M h' r _ a1 a2 mI (R.trans (il hx hr));clear R M mI;cbv;rw[Nl];cbv;refine Tt pK Ch.vi z nm (λkD b1 n1 c1 b2 n2 c2 b3 n3 c3 b4 n4 c4 fb fm fc H=>?_);rw[show z=((i:Nat):Int)from dJ]at H;have K:=u kD ng vt H.e;clear u H;cbv;refine⟨F,_,Y,by constructor<;>cbv,K⟩
    .have pK:=Q.call P O V;have vt:=Ei.trans oU;clear Q P O V;have mI:=nt Ch (.tx ⟨id,L,rows,aj,cl,dM⟩);have u:=λh' r a1 a2=>M h' r _ a1 a2 mI (R.trans (il hx hr));have tk:=Gj hr;have tr:=tk.root;have tb:=tk.dM;have tc:=tk.fJS;have u:∃V2,Yt ⟨d,nx,op,y,fo⟩ ⟨id,L,rows,aj,cl,dM⟩=V2/\∀h' r,Le I r->Oz r h' p V2->J F (A .aC .add .i64 z 1) h':=⟨_,rfl,λh' r a1 a2=>u h' r a1 a2⟩;clear R M mI tk;cbv;obtain⟨V2,ak,u⟩:=u;rw[Nl];cbv;refine aKE pK Ch.vi (hJX vo (by omega)) (hJX vs (by omega)) z s1 s2 e1 e2 tc e3 tr e4 tb ak (λkD b1 n1 c1 b5 n5 c5 b6 n6 c6 fb fm fc H=>?_);have K:=u kD ng vt H.e;clear u H;cbv;refine⟨F,_,Y,by constructor<;>cbv,K⟩
    have pK:=Q.call P O V;have vt:=Ei.trans oU;clear Q P O V;have mI:=nt Ch (.dM n bj);have u:=λh' r a1 a2=>M h' r _ a1 a2 mI (R.trans (il hx hr));have sl:=CB hr;have u:∃V2,IG ⟨d,nx,op,y,fo⟩ 0 (.dM n bj)=V2/\∀h' r,Le I r->Oz r h' p V2->J F (A .aC .add .i64 z 1) h':=⟨_,rfl,λh' r a1 a2=>u h' r a1 a2⟩;clear R M mI;cbv;obtain⟨V2,ak,u⟩:=u;rw[Nl];cbv;refine XW pK (hJX vo (by omega)) (hJX vs (by omega)) z n e sl ak (λkD b5 n5 c5 b6 n6 c6 fb fm fc H=>?_);have K:=u kD ng vt H.e;clear u H;cbv;refine⟨F,_,Y,by constructor<;>cbv,K⟩
   rw[ag hc];rw[wM (by omega)]at R;have Rw:S=⟨d,nx,op,y,fo⟩:=R;have hC:C2 () h8:=by rw[Nd,Rw];exact⟨bm,Ei,Q.e⟩
   clear aX hJ fz e8 Nd Rw R Q;cbv;refine⟨(),by constructor<;>cbv,hC⟩
 intro gu h4 X;rw[Nd]at X;clear aX hJ Nd;cbv;obtain⟨Jv,bg,e4⟩:=X;obtain⟨d,nx,op,y,fo⟩:=S;have xY:∀h' b m c,Le Jv h'->Sl 137 qI h' (.slice b m c) (oD y fo ds)->k (.slice b m c) h':=λh' b m c a1 a2=>xY h' Jv b m c bg a1 a2;have sj:=YJ.len;have bG:=YJ.bound;obtain⟨J2,AQ⟩:∃J:Nat->Int->ab->Prop,∀w z h',J w z h'=(∃i f,aM z i/\i<=N/\w=N-i/\Oz Jv h' p ⟨d,nx,op,y,f⟩/\oD y fo ds=oD y f (ds.drop i)):=⟨_,λ_ _ _=>rfl⟩;have M:J2 N 0 h4:=by rw[AQ];exact⟨0,fo,⟨rfl⟩,by omega,by omega,e4,rfl⟩
 clear e4;refine aK.go (G:=Int) (λz=>[(11,.v (.int .i64 z))]) (λ_=>[]) (λw z h'=>J2 w z h') N 0 (by constructor<;>cbv) M ?_
 intro w z h5 X;rw[AQ]at X;cbv;obtain⟨i,f,hz,hi,hw,e5,hd⟩:=X;have fz:A .az .lss z (A .nat N)=decide (i<N):=hz.pL (aM.nat N);rw[fz];refine e5.elim (λb1 n1 c1 b2 n2 c2 b3 n3 c3 b4 n4 c4 b5 n5 c5 b6 n6 c6 fb fm fc q5=>?_);by_cases hc:i<N
 .rw[aH hc];obtain⟨x,hx⟩:=di ds i;have hD:oD y f (ds.drop i)=oD y (bT (AO y x) f ⟨6,x.block,0,0⟩) (ds.drop (i+1)):=by rw[qM (by omega:i<ds.length)];have:=(dB.1 hx).2;rw[this];rfl
  rw[hD]at hd;have u:∀h',Oz Jv h' p ⟨d,nx,op,y,bT (AO y x) f ⟨6,x.block,0,0⟩⟩->J2 (N-(i+1)) (A .aC .add .i64 z 1) h':=λh' a1=>by
   rw[AQ];exact⟨i+1,_,hz.succ (A:=A),hc,rfl,a1,hd⟩
  have Y:N-(i+1)<w:=by omega
  obtain⟨F,vA⟩:∃F,F=N-(i+1):=⟨_,rfl⟩;rw[<-vA]at u Y;have ck:gb.isSome=true/\0<=z/\z<(N:Int):=⟨YJ.aR,hz.ix hc⟩;have dJ:=hz.eq;have bh:=YJ.mono ((bg.trans q5.lk.le).t _);have bn:∃g,hl g=aA x.hash/\x.hash.length=32:=by
   obtain⟨bb,cap,e1,h2,h3,h4⟩:=YJ.out;rcases h4 with h4| ⟨dM,off,cc,fr,y1,y2,y3⟩
   .subst h4;cases hx
   obtain⟨g,-,a2,a3⟩:=y3.2 i x hx;exact⟨g,a2,a3⟩
  obtain⟨g,hg,Lm⟩:=bn;have CW:∀cs,zQ.R h5 cs x->cs=fQb x.block g:=λcs U=>by
   obtain⟨g',a1,a2,a3⟩:=U;rw[a1];show(.int .i64 x.block::hl g')=(.int .i64 x.block::hl g);rw[a2,hg]
  have g5:=q5.lk.out;have TS:Sl 104 iM h5 (.slice b6 n6 c6) y:=q5.sm.sl;have Bx:=TS.len;have bE:=TS.bound;have fl:A .az .lss x.block 1=decide (x.block<1):=aJ A ..;have fg:A .az .gtr x.block (A .nat n6)=decide (x.block>(y.length:Int)):=by rw[aO A,hA.nat,Bx];rfl
  have W:AO y x=if x.block<1 then false else decide (y[(x.block-1).toNat]? =some x.hash):=rfl
  obtain⟨T,hT⟩:∃T,T=AO y x:=⟨_,rfl⟩;rw[<-hT]at u W;obtain⟨B,xh⟩:=x;have W:T=if B<1 then false else decide (y[(B-1).toNat]? =some xh):=W
  have Z:T=false->∀h',Oz Jv h' p ⟨d,nx,op,y,iS f ⟨6,B,0,0⟩⟩->J2 F (A .aC .add .i64 z 1) h':=λe h' a=>u h' (by rw[e];exact a);have qW:T=true->J2 F (A .aC .add .i64 z 1) h5:=λe=>u h5 (by rw[e];exact e5);have iY:¬B<1->¬B>(y.length:Int)->aM (A .aC .sub .i64 B 1) (B-1).toNat/\(B-1).toNat<n6:=λa1 a2=>by
   refine⟨⟨?_⟩,by omega⟩;rw[hA.aC];show IntKind.i64.wrap (B-1)=_;rw[IntWalk.i64_in _ (by omega)];omega
  have ai:B>(y.length:Int)->T=false:=λa=>by
   rw[W];split
   .rfl
   rw[qk (by omega)];rfl
  clear AQ M fz hd hD u hT e5 xY;cbv;refine⟨ck,?_⟩;cbv;refine bh.ep hx dJ (o:=0) (m:=1) (by decide) (λcs U=>?_);rw[CW cs U];cbv;rw[fl];by_cases h1:B<1
  .rw[if_pos h1]at W;have Z:=Z W;rw[aH h1];clear qW iY ai;cbv;refine ni q5 6 B 0 0 (λh6 fb fm fc q6=>?_);have K:=Z h6 q6.e;clear Z;cbv;refine⟨F,_,Y,by constructor<;>cbv,K⟩
  rw[if_neg h1]at W;rw[ag h1];cbv;repeat (first|rw[ao A] | (refine bc g5 ?_;cbv)|(refine⟨⟨_,rfl,rfl⟩,?_⟩;cbv))
  rw[fg];by_cases h2:B>(y.length:Int)
  .have Z:=Z (ai h2);rw[aH h2];clear qW iY ai;cbv;refine ni q5 6 B 0 0 (λh6 fb fm fc q6=>?_);have K:=Z h6 q6.e;clear Z;cbv;refine⟨F,_,Y,by constructor<;>cbv,K⟩
  obtain⟨eW,jC⟩:=iY h1 h2;rw[ag h2];obtain⟨s,hs⟩:=ay (xs:=y) (i:=(B-1).toNat) (by omega);rw[hs]at W;have W:T=decide (s=xh):=by rw[W];exact decide_eq_decide.2 ⟨λe=>Option.some.inj e,λe=>by rw[e]⟩
  have VY:=DQ TS hs;have br:b6.isSome=true/\0<=A .aC .sub .i64 B 1/\A .aC .sub .i64 B 1<(n6:Int):=⟨TS.aR,eW.ix jC⟩;clear iY ai fg fl;cbv;repeat (first|rw[ao A] | (refine bc g5 ?_;cbv)|(refine⟨⟨_,rfl,rfl⟩,?_⟩;cbv))
  refine⟨br,?_⟩;cbv;refine TS.load hs eW.eq (λcs U=>?_);obtain⟨U,-⟩:=U;obtain⟨gr,Oh⟩:=AH VY;rw[<-Oh]at U;subst U;cbv;refine⟨ck,?_⟩;cbv;refine bh.ep hx dJ (o:=1) (m:=32) (by decide) (λcs U=>?_);rw[CW cs U];cbv;refine yO Oh hg VY Lm ?_;generalize decide (s=xh)=t at *;cbv;cases t with
  |true=>
   have K:=qW W;clear Z qW;cbv;refine⟨F,_,Y,by constructor<;>cbv,K⟩
  |false=>
   have Z:=Z W;clear qW;cbv;refine ni q5 6 B 0 0 (λh6 fb fm fc q6=>?_);have K:=Z h6 q6.e;clear Z;cbv;refine⟨F,_,Y,by constructor<;>cbv,K⟩
 rw[ag hc];rw[wM (show ds.length<=i by omega)]at hd;have hd:oD y fo ds=f:=hd;rw[hd]at xY;have g5:=q5.lk.out;have:=xY h5 fb fm fc q5.lk.le q5.lk.buf.sl;clear AQ M fz hd xY e5;cbv;repeat (first|rw[ao A] | (refine bc g5 ?_;cbv)|(refine⟨⟨_,rfl,rfl⟩,?_⟩;cbv))
 exact this
theorem JT(q:LB g.D)(l:Bs):LB (bp g l).2.D:=by
 unfold bp;split
 .exact q
 split
 .exact q
 split
 .exact og q ..
 split
 .exact kE (og q ..) ..
 split
 .exact qC (kE (og q ..) ..)
 exact qC (kE (og q ..) ..)
structure AI(g:Lg)(P i:Nat):Prop where
 lb:LB g.D
 out:∃rs,HN g P rs
 s:g.s<=64*(P-1)
 n:g.n<=i
theorem hXm(h:0<P):AI ⟨wh P,0,0⟩ P 0:=⟨⟨iQT 0,by show(0:Int)<2^63;decide⟩,⟨[],bZI h⟩,qT _,mr _⟩
theorem AI.add(q:AI g P i)(d:0<P)(l:Bs)(hl:l.length<=65536):AI (bp g l).2 P (i+1):=by
 obtain⟨r,I⟩:=q.out;have n:=I.iE.len;by_cases h:64+g.s+8+l.length<=P*64
 .obtain⟨b,e,a,s⟩:=Dw I l hl h;have c:=a.n;have R:=I.n;have J:=q.n;rw[dr,hJF]at c;refine⟨JT q.lb l,?_,?_,?_⟩
  .rw[e];exact⟨_,a⟩
  .rw[e];show b.s<=_;omega
  rw[e];show b.n<=_;omega
 have e:bp g l=(14,g):=by unfold bp;rw[if_neg (by omega),if_pos (by omega)]
 have J:=q.n;rw[e];exact⟨q.lb,q.out,q.s,by show g.n<=_;omega⟩
theorem jD.low{h0 a h:ab}{p:Nat}(q:jD a h p D)(l:Le h0 a):jD h0 h p D:=by obtain⟨k,kc,n,f,wb,i,wc,g,o1,o2,e1,e,w,b,c,z,j,m,d⟩:=q.out;exact⟨k,kc,n,f,wb,i,wc,g,o1,o2,e1,e,w.base l,b,c,l.none z,l.none j,l.none m,l.trans d⟩
theorem YA:([],true)=qN (wh 5):=by kernel_rfl
theorem dKS:Ii [] true [⟨1,List.replicate 32 0⟩]=[⟨6,1,0,0⟩]:=by kernel_rfl
theorem Vz(h:ab)(y:∀h',cY An h h'->k (.bool true) h'):Ct 6 [] h k:=by
 obtain⟨A,t⟩:=Ar.ex;have X:A .az .eql (A .nat 0) 0=true:=by rw[aq A,t.nat];rfl
 have Q:A .az .eql (A .nat 1) 1=true:=by rw[aq A,t.nat];rfl
 refine dH T6 A Tryz.func6 ?_;cbv;refine aKN (n:=5) ⟨rfl⟩ (by omega) (by omega) (λj p K z B=>?_);cbv;refine Ls FF ?_;cbv;have G:Fz (λ_=>none) j j:=⟨Le.refl _,λb o d=>(by cases d)⟩;have l:1<=(wh 5).now.length:=by show 1<=(List.replicate 5 yL).length;simp
 refine EW G B l YA (by decide) (e:=0) (ds:=[]) Sl.nil (λr Z b m c E H q C=>?_);have i:m=0:=C.len;subst i;have q:=q.le H.le;cbv;rw[X];cbv;intro a f V g;have u:Le r f:=by rw[g];exact Le.set V
 have w:=(congrFun g a).trans ae;have I:Fz (λb=>if b=a then f a else none) r f:=⟨u,λb o d=>by
  have d:(if b=a then f a else none)=some o:=d;split at d
  .rename_i e;subst e;exact⟨d,V⟩
  cases d⟩
 have D:Sl 106 zQ (λb=>if b=a then f a else none) (.slice (some ⟨a,0,none⟩) 1 1) [⟨1,List.replicate 32 0⟩]:=bC (s:=zQ) ((if_pos rfl).trans w) ⟨λ_=>0,rfl,rfl,rfl⟩;clear g;cbv;refine EW I q l YA (by decide) D (λx J b m c F M L v=>?_);rw[dKS]at v;have i:m=1:=v.len;subst i;have:=y x ((((z.x _).trans E).trans (u.x _)).trans F);cbv;rw[Q];cbv;exact this
theorem aQW{xs:List Fd}{h:ab}{b1 b2:Option Addr}{n1 c1 n2 c2:Nat}(q:Sl 137 qI h (.slice b1 n1 c1) xs)(f:Sl 137 qI h (.slice b2 n2 c2) xs)(n:k (.bool true) h):
 Ct 15 [.slice b1 n1 c1,.slice b2 n2 c2] h k:=by
 obtain⟨A,j⟩:=Ar.ex;have P:=q.len;have t:=f.len;have D:=q.bound.1;have B:A .az .neq (A .nat n1) (A .nat n2)=false:=by rw[P,t,av A];simp
 have o:∀a:Int,A .az .eql a a=true:=λa=>by rw[aq A];simp
 have C:∀(a b c d:Int),A .not (A .and (A .az .eql a a) (A .and (A .az .eql b b) (A .and (A .az .eql c c) (A .and (A .az .eql d d) true))))=false:=by
  intros
  simp only[o];rw[j.not,j.and];rfl
 refine dH gQl A Tryz.func15 ?_;cbv;rw[B];cbv;refine aK.go (G:=Int) (λg=>[(5,.v (.int .i64 g))]) (λ_=>[]) (λm g h'=>h'=h/\∃i,aM g i/\m=n1-i/\i<=n1) n1 0 (by constructor<;>cbv) ⟨rfl,0,⟨rfl⟩,by omega,by omega⟩ ?_
 intro m g h' l;cbv;obtain⟨rfl,i,z,s,r⟩:=l;refine aL (λe=>?_) (λe=>?_)
 .have I:=z.lt e;clear e;obtain⟨⟨va,vb,vc,v⟩,hx⟩:=di xs i;have Z:b1.isSome=true/\0<=g/\g<(n1:Int):=⟨q.aR,z.ix I⟩;have p:b2.isSome=true/\0<=g/\g<(n2:Int):=⟨f.aR,z.ix (by omega)⟩;have J:=z.eq;have W:=z.succ (A:=A);cbv;refine⟨Z,?_⟩;cbv;refine q.load hx J (λcs u=>?_);have u:cs=[.int .i64 va,.int .i64 vb,.int .i64 vc,.int .i64 v]:=u;subst u;cbv;refine⟨p,?_⟩;cbv;refine f.load hx J (λcs u=>?_);have u:cs=[.int .i64 va,.int .i64 vb,.int .i64 vc,.int .i64 v]:=u;subst u;cbv;rw[C];cbv;refine⟨n1-(i+1),_,by omega,by constructor<;>cbv,rfl,i+1,W,rfl,by omega⟩
 cbv;exact n
theorem OH(a:Int)(n:Nat)(q:0<n)(p:n<=2^40)(h:ab)(o:∀z i,aM z i->i=(a % (n:Int)).toNat->i<n->k (.int .i64 z) h):Ct 12 [.int .i64 a,.int .i64 (n:Int)] h k:=by
 obtain⟨A,c⟩:=Ar.ex;obtain⟨m,b⟩:∃m:Int,m=(n:Int):=⟨_,rfl⟩;rw[<-b];have J:m≠0:=by omega
 have B:A .aC .rem .i64 a m=a.tmod m:=by rw[c.aC];rfl
 have Y:a.tmod m<m:=by have:=iQS a (show 0<m by omega);omega
 have X:-m<a.tmod m:=by have:=iQR a (show 0<m by omega);omega
 have G:a % m=if a.tmod m<0 then a.tmod m+m else a.tmod m:=by
  rw[iQQ];have g:=iQe a J;have l:=iQd a (show 0<m by omega);by_cases d:0<=a\/m ∣ a
  .rw[if_pos d];rw[if_neg (by omega)];omega
  rw[if_neg d];have:(m.natAbs:Int)=m:=by omega
  rw[this,if_pos (by omega)];omega
 generalize r:a.tmod m=t at *;generalize e:A .az .lss t 0=u;have f:=e;rw[aJ A]at e;have key:∀z:Int,z=a % m->k (.int .i64 z) h:=λz s=>by
  have g:=iQe a J;have l:=iQd a (show 0<m by omega);refine o z (a % (n:Int)).toNat ⟨?_⟩ rfl ?_
  .rw[<-b];omega
  rw[<-b];omega
 have E:t<0->A .aC .add .i64 t m=t+m:=λh=>by
  rw[c.aC];simp only[aC];rw[IntWalk.i64_in _ (by omega)]
 refine dH gQo A Tryz.func12 ?_;cbv;refine⟨J,?_⟩;cbv;rw[B];rw[f];cases u with
 |true=>have w:=qH e;have j:=key (t+m) (by rw[G,if_pos w]);cbv;rw[E w];exact j
 |false=>have w:=ra e;have j:=key t (by rw[G,if_neg w]);cbv;exact j
def Pd(h0 h:ab)(dp:Nat)(D:Dk):Prop:=∃hA,Fz h0 hA h/\kf hA dp D
theorem Pd.le{h0 h h':ab}{p:Nat}(q:Pd h0 h p D)(l:Le h h'):Pd h0 h' p D:=by obtain⟨A,z,d⟩:=q;exact⟨A,z.to l,d⟩
theorem Pd.x{h0 h h':ab}{p:Nat}{ex:List Nat}(q:Pd h0 h p D)(x:cY ex h h')(k:∀t∈dT,t∉ex)(l:Le h0 h'):Pd h0 h' p D:=by
 obtain⟨A,z,d⟩:=q;obtain⟨R,hR⟩:∃R:ab,∀b o,R b=some o↔A b=some o/\∃c e fr,o=.cells c e fr/\e∈dT:=by
  classical
  refine⟨λb=>if ∃c e fr,A b=some (.cells c e fr)/\e∈dT then A b else none,λb o=>?_⟩;show(if ∃c e fr,A b=some (.cells c e fr)/\e∈dT then A b else none)=some o↔_;by_cases a:∃c e fr,A b=some (.cells c e fr)/\e∈dT
  .rw[if_pos a];obtain⟨c,e,fr,g,i⟩:=a;exact⟨λh=>⟨h,c,e,fr,by rw[g]at h;cases h;rfl,i⟩,λh=>h.1⟩
  rw[if_neg a];refine⟨λh=>(by cases h),λh=>?_⟩;obtain⟨g,c,e,fr,rfl,i⟩:=h;exact absurd ⟨c,e,fr,g,i⟩ a
 refine⟨R,⟨λb o f=>?_,λb o f=>⟨l b o f,?_⟩⟩,d.lt (λb c e fr j f=>(hR b _).2 ⟨f,_,_,_,rfl,j⟩)⟩
 .obtain⟨a,c,e,fr,rfl,j⟩:=(hR b o).1 f;exact x b _ (z.le b _ a) (λc' m E e1=>by cases e1;exact k _ j)
 cases X:R b with
 |none=>rfl
 |some o'=>have:=((hR b o').1 X).1;rw[(z.jO b o f).2]at this;cases this
theorem Pd.aQC{h0 h:ab}{p:Nat}(q:Pd h0 h p D){t s:Int}{at_:Nat}(E:aM t n)(G:aM s at_)(y:n<D.now.length){f m:Nat}{l:Bs}(o:cM 5 bS h f cap l)(w:m=l.length)(V:h0 f=none)(L:at_+l.length<=64)
 (u:∀h',cY dT h h'->Le h0 h'->Pd h0 h' p (pv D n at_ l)->k (.bool true) h'):
 Ct 14 [.pointer (some ⟨p,0,none⟩),.int .i64 t,.int .i64 s,.slice (some ⟨f,0,none⟩) m cap] h k:=by
 obtain⟨A,z,d⟩:=q;obtain⟨c,g,r,hl⟩:=o.out;have C:Le A (bH A f (.cells (List.toArray c) 5 (0,0))):=λb x a=>by
  by_cases e:b=f
  .subst e;have:=z.le _ _ a;rw[g]at this;rw[ae];exact this
  rw[bU e];exact a
 have F:Fz h0 (bH A f (.cells (List.toArray c) 5 (0,0))) h:=⟨λb x a=>by
  by_cases e:b=f
  .subst e;rw[ae]at a;rw[<-a];exact g
  .rw[bU e]at a;exact z.le _ _ a,λb x a=>by
  have e:b≠f:=λe=>by rw[e,V]at a;cases a
  exact⟨(z.jO b x a).1,by rw[bU e];exact(z.jO b x a).2⟩⟩
 have o1:cM 5 bS (bH A f (.cells (List.toArray c) 5 (0,0))) f cap l:=⟨⟨c,ae,⟨r.1,λi x hx=>r.2 i x hx⟩,hl⟩,o.le,o.bd⟩;refine F.WN (ex:=dT) (XC (d.le C) E G y (o1.sl w) L (k:=λv h'=>cY dT (bH A f (.cells (List.toArray c) 5 (0,0))) h'/\v=.bool true/\kf h' p (pv D n at_ l)) (λh' x d'=>⟨x,rfl,d'⟩)) (λv U h' B j x=>?_);obtain⟨rfl,d'⟩:=B;exact u h' x j.base ⟨U,j,d'⟩
theorem PC{E:Dk}(h:D.now=E.now)(a:D.dead=E.dead):nq D=nq E:=by unfold nq Cw bN bQ fB;rw[h,a]
theorem Mm(h:∀b∈D.now,b.length=64)(hl:D.now.length<=4096){l:List Bs}{w:Bool}(s:(l,w)=nq D):l.length<=2^20:=by
 have r:(bN D).length<=2^18:=by unfold bN;rw[mV (λb a=>h b (hJC a)),ec];omega
 unfold nq at s;split at s
 .cases s;exact qT _
 have hl:l=(Cw D (mU (bQ D 0)) (mU ((bQ D 0).drop 8))).1:=by rw[<-s]
 rw[hl];generalize mU (bQ D 0)=n;generalize mU ((bQ D 0).drop 8)=c;show(dI ((bN D).take (max (min n (fB D)) 0).toNat).length ((bN D).take (max (min n (fB D)) 0).toNat)).1.length<=_;have:=Gh ((bN D).take (max (min n (fB D)) 0).toNat).length ((bN D).take (max (min n (fB D)) 0).toNat);have d:=List.length_take_le' (max (min n (fB D)) 0).toNat (bN D);omega
theorem aQP:nq (wh 30)=([],true):=by kernel_rfl
theorem eJH:mU (bQ (wh 30) 0)=0:=by kernel_rfl
theorem bKJ:mU ((bQ (wh 30) 0).drop 8)=0:=by kernel_rfl
structure Twin(Dp Dx:Dk)(i:Nat):Prop where
 dp:Dp.dead=false
 dx:Dx.dead=false
 lp:Dp.now.length=30
 lx:Dx.now.length=30
 eq:∀j,j<i->Dp.now[j]? =Dx.now[j]?
theorem Mw{x l:Bs}(h:l.length=x.length):dU x 0 l=l:=by unfold dU;rw[List.take_zero,hJG,wM (by omega),wS]
theorem FL{x l:Bs}(hx:D.now[n]? =some x)(h:l.length=x.length):(pv D n 0 l).now=D.now.set n l:=by show D.now.set n (dU ((D.now[n]?).getD []) 0 l)=_;rw[hx];show D.now.set n (dU x 0 l)=_;rw[Mw h]
theorem cXf[h:aV A](a b:Int):∃u:UInt8,A .aC .add .u8 a b=(u.toNat:Int):=by refine⟨u8 (a+b),?_⟩;rw[<-Sf (A:=A),h.aC,h.conv];rfl
theorem UW{h:ab}{rb:Option Addr}{rc gn gc:Nat}(qr:DA (aQL h) h (.slice rb r rc) cL)(qg:DA zQ h (.slice gb gn gc) ds)(nn:Int):
 Ct 3 [.slice rb r rc,.int .i64 nn,.slice gb gn gc] h (λv h'=>Le h h'/\v=.bool true):=by
 obtain⟨A,hA⟩:=Ar.ex;have Nl:A .not true=false:=by rw[hA.not];rfl
 have f8:A .az .gtr (A .nat r) 8=decide (r>8):=by rw[aO A,hA.nat];exact decide_eq_decide.2 (by rw[kH];omega)
 have f5:A .az .gtr (A .nat gn) 5=decide (gn>5):=by rw[aO A,hA.nat];exact decide_eq_decide.2 (by rw[kH];omega)
 have tV:=qr.len;refine fG A [21] (ah T3.aw T3.aP) Tryz.func3 rfl (by kernel_rfl) ?_;cbv;have z0:Fz h (λ_=>none) h:=⟨λb o m=>(by cases m),λb o m=>⟨m,rfl⟩⟩;refine z0.WN (ex:=An) (Vz _ (k:=λv h'=>cY An _ h'/\v=.bool true) (λV x1=>⟨x1,rfl⟩)) (λv a1 V hv z1 x1=>?_);subst hv;cbv;rw[Nl];cbv;rw[f8];by_cases W:r>8
 .rw[aH W];cbv;exact⟨z1.base,trivial⟩
 rw[ag W];cbv;rw[f5];by_cases h5:gn>5
 .rw[aH h5];cbv;exact⟨z1.base,trivial⟩
 rw[ag h5];cbv;refine z1.WN (ex:=An) (aKN (n:=30) ⟨rfl⟩ (by omega) (by omega) (k:=λv h'=>cY An _ h'/\∃p,v=.tuple #[.pointer (some ⟨p,0,none⟩),.int .i64 0]/\kf h' p (wh 30)) (λh2 p hp l2 q2=>⟨l2.x _,p,rfl,q2⟩)) (λv a2 h2 hv z2 x2=>?_);obtain⟨dp,rfl,d2⟩:=hv;have p2:Pd h h2 dp (wh 30):=⟨a2,z2,d2⟩;have l2:=z2.base;clear x1 x2 d2 z2 z1 z0;cbv;refine cKZ (n:=30) ⟨rfl⟩ (by omega) (by omega) (λh3 Z br l3 q3=>?_);have p3:=p2.le l3;have q3:=q3.low l2;cbv;refine aKG q3 rfl aQP (λh4 lg ob om oc l4 PK _=>?_);rw[eJH,bKJ]at PK;have p4:=p3.le l4;have q4:=q3.le l4;obtain⟨e,bd⟩:=qg.sl (by omega);obtain⟨J,aX⟩:∃J:Nat->Int->ab->Prop,∀w z h',J w z h'=(∃i g,aM z i/\i<=r/\w=r-i/\Pd h h' dp (wh 30)/\jD h h' Z g.D/\Tw h h' lg Z (g.s:Int) (g.n:Int)/\AI g 30 i):=⟨_,λ_ _ _=>rfl⟩;have hJ:J r 0 h4:=by rw[aX];exact⟨0,⟨wh 30,0,0⟩,⟨rfl⟩,by omega,by omega,p4,q4,PK,hXm (by omega)⟩
 clear p2 p3 p4 q3 q4 PK l2 l3 l4 br;cbv;refine aK.go (G:=Int) (λz=>[(14,.v (.int .i64 z))]) (λ_=>[]) (λw z h'=>J w z h') r 0 (by constructor<;>cbv) hJ ?_
 intro w z h5 N;rw[aX]at N;cbv;obtain⟨i,g,F,hi,hw,p5,q5,YI,K⟩:=N;obtain⟨D,s,n⟩:=g;have ME:=q5.base;have U:A .az .lss z (A .nat r)=decide (i<r):=F.pL (aM.nat r);rw[U];by_cases H:i<r
 .rw[aH H];obtain⟨x,hx⟩:=di cL i;have ck:rb.isSome=true/\0<=z/\z<(r:Int):=⟨qr.aR,F.ix H⟩;have dJ:=F.eq;have aI:r-(i+1)<w:=by omega
  have M:∀h' g,Pd h h' dp (wh 30)->jD h h' Z g.D->Tw h h' lg Z (g.s:Int) (g.n:Int)->AI g 30 (i+1)->J (r-(i+1)) (A .aC .add .i64 z 1) h':=λh' g a1 a2 a3 a4=>by
   rw[aX];exact⟨i+1,g,F.succ (A:=A),H,rfl,a1,a2,a3,a4⟩
  obtain⟨wi,vA⟩:∃wi,wi=r-(i+1):=⟨_,rfl⟩;rw[<-vA]at M aI;have hs:s<=64*(D.now.length-1):=by have V:=K.s;obtain⟨rs,I⟩:=K.out;have h2:D.now.length=30:=I.iE.len;have V:s<=64*(30-1):=V;omega
  have hn:n<=2^29:=by have:n<=i:=K.n;omega
  have Qz:D.ws.length<=2^28:=by obtain⟨rs,I⟩:=K.out;have:D.ws=[]:=I.ws;rw[this];exact qT _
  have bk:LB D:=K.lb;clear aX hJ U;cbv;refine⟨ck,?_⟩;cbv;refine(qr.mono ME).load hx dJ (λcs L=>?_);obtain⟨xv,rfl,qx⟩:=L;obtain⟨xb,xn,xc,rfl⟩:=qx.form;have cq:=qx.len;have an:A .az .gtr (A .nat xn) 150=decide (xn>150):=by rw[aO A,hA.nat];exact decide_eq_decide.2 (by rw[kH];omega)
  cbv;rw[an];by_cases ak:xn>150
  .rw[aH ak];clear M;cbv;exact⟨ME,trivial⟩
  rw[ag ak];obtain⟨e1,cK⟩:=qx.sl (by omega);have cx:xn<=2^28:=by omega
  have bx:x.length<=65536:=by omega
  have cn:=K.add (by omega) x bx;cbv;refine⟨ck,?_⟩;cbv;refine(qr.mono ME).load hx dJ (λcs L=>?_);obtain⟨cB,rfl,T⟩:=L;obtain⟨cI,cd,cE,rfl⟩:=T.form;have cw:=T.len;obtain⟨e2,bn⟩:=T.sl (by omega);have bj:cd<=2^28:=by omega
  cbv;refine Tz (g:=⟨D,s,n⟩) q5 bk YI (bn.mono (ME.t _)) hs hn bj Qz (λh6 x6 R bl=>?_);have p6:=p5.x x6 (by decide) R.base;generalize (bp ⟨D,s,n⟩ x).1=er at *;generalize (bp ⟨D,s,n⟩ x).2=g2 at *;have dt:=M h6 g2 p6 R bl cn;clear M;cbv;refine⟨wi,_,aI,by constructor<;>cbv,dt⟩
 rw[ag H];have aP:Twin (wh 30) D 0:=by obtain⟨rs,I⟩:=K.out;exact⟨rfl,I.iE.dead,by show(List.replicate 30 yL).length=30;simp,I.iE.len,λj Y=>absurd Y (by omega)⟩
 obtain⟨J2,AQ⟩:∃J:Nat->Int->ab->Prop,∀w z h',J w z h'=(∃i d f,aM z i/\i<=30/\w=30-i/\Pd h h' dp d/\jD h h' Z f/\Twin d f i):=⟨_,λ_ _ _=>rfl⟩;have M:J2 30 0 h5:=by rw[AQ];exact⟨0,_,_,⟨rfl⟩,by omega,by omega,p5,q5,aP⟩
 clear aX hJ U p5 q5 YI aP K;cbv;refine aK.go (G:=Int) (λz=>[(15,.v (.int .i64 z))]) (λ_=>[]) (λw z h'=>J2 w z h') 30 0 (by constructor<;>cbv) M ?_
 intro w z h6 N;rw[AQ]at N;cbv;obtain⟨i,d,f,F,hi,hw,p6,R,a⟩:=N;have U:A .az .lss z 30=decide (i<30):=F.pL (⟨rfl⟩:aM 30 30);rw[U];by_cases H:i<30
 .rw[aH H];have ea:dL f z 0=0:=by unfold dL;rw[a.dx,if_neg (by decide),if_neg];have:=F.eq;have:=a.lx;rintro(V|V|V)<;>omega
  obtain⟨y,hy⟩:=ay (xs:=f.now) (i:=i) (by have:=a.lx;omega);have ur:bQ f z=y:=by unfold bQ;rw[show z.toNat=i by have:=F.eq;omega,hy];rfl
  obtain⟨yp,bh⟩:=ay (xs:=d.now) (i:=i) (by have:=a.lp;omega);have cv:yp.length=64:=by obtain⟨ch,z6,d6⟩:=p6;exact d6.pg bh
  have dJ:=F.eq;have aI:30-(i+1)<w:=by omega
  have dt:∀h' d f,Pd h h' dp d->jD h h' Z f->Twin d f (i+1)->J2 (30-(i+1)) (A .aC .add .i64 z 1) h':=λh' d f a1 a2 a3=>by
   rw[AQ];exact⟨i+1,d,f,F.succ (A:=A),by omega,rfl,a1,a2,a3⟩
  obtain⟨wi,vA⟩:∃wi,wi=30-(i+1):=⟨_,rfl⟩;rw[<-vA]at dt aI;have cg:A .az .eql z 0=decide (i=0):=by rw[aq A];exact decide_eq_decide.2 (by omega)
  have Qp:=R.base;clear AQ M U;cbv;refine EY R z (λbm=>absurd ea bm) (λ_ h7 b c l hl Jq l7 qb=>?_);rw[ur]at hl;subst hl;obtain⟨C,eZ⟩:∃C:Nat->Unit->ab->Prop,∀P g h',C P g h'=(∃E q,Pd h h' dp d/\jD h h' Z E/\cM 5 bS h' P c q/\Twin d E i/\E.now[i]? =some q/\q.length=64):=⟨_,λ_ _ _=>rfl⟩;have p7:=p6.le l7;have q7:=R.le l7;clear ea ur p6 R;cbv;obtain⟨P,rfl,dV,cr,ow⟩:=qb.own (by decide);have Wd:=Qp.none dV;refine jA.go (G:=Unit) (λ_=>[]) (λ_=>[]) (C P) ?_ ?_
  .clear dt;cbv;rw[cg];by_cases bg:i=0
   .subst bg;rw[aH rfl];obtain⟨v8,bG⟩:=di l 8;have aw:(some (⟨P,0,none⟩:Addr)).isSome=true/\(0:Int)<=8/\(8:Int)<((64:Nat):Int):=⟨rfl,by omega,by omega⟩;cbv;refine⟨aw,?_⟩;cbv;refine(ow.sl Jq.symm).KL bG (n:=8) rfl (λcs L B=>?_);have L:cs=[.int .u8 (v8.toNat:Int)]:=L;obtain⟨aD,bB⟩:∃v:Int,v=(v8.toNat:Int):=⟨_,rfl⟩;rw[<-bB]at L;subst L;cbv;refine OH nn 4 (by omega) (by omega) h7 (λzk kk ct _ CS=>?_);obtain⟨u,hu⟩:=cXf (A:=A) aD (A .conv .u8 (A .aC .quo .i64 zk 3));cbv;refine B _ _ (Le.refl _) ?_;cbv;refine⟨⟨_,rfl,rfl⟩,?_⟩;cbv;have rT:bS.R h7 [.int .u8 (A .aC .add .u8 aD (A .conv .u8 (A .aC .quo .i64 zk 3)))] u:=congrArg (λt=>[Value.int .u8 t]) hu;refine⟨by decide,?_⟩;cbv;refine⟨aw,?_⟩;cbv;refine ow.setAt (A:=A) (by decide) (i:=8) (show 8<l.length by omega) (n:=8) rfl rfl rT (λW k8 t8 o8=>?_);have l8:Le h W:=(Qp.trans l7).aE (bs:=[P]) (by simpa using Wd) k8;have Jp:(l.set 8 u).length=64:=by rw[ml];exact Jq
    have x8:cY [5] h7 W:=k8.x (λb m o ho=>by
     simp only[hKt]at m;subst m;obtain⟨c,H,-⟩:=ow.out;rw[H]at ho;cases ho;exact⟨_,_,_,rfl,by decide⟩)
    have p8:=p7.x x8 (by decide) l8;have q8:=q7.lt (t8 _ (by decide)) l8;generalize l.set 8 u=q at *;clear B hu rT;cbv;refine To q8 (⟨rfl⟩:aM 0 0) (⟨rfl⟩:aM 0 0) (by have:=a.lx;omega) (o8.sl Jp.symm) (by omega) (λh9 x9 q9=>?_);have p9:=p8.x x9 (by decide) q9.base;have o9:=o8.mono (x9.t (by decide));have O:=FL hy (l:=q) (by omega);have X:Twin d (pv f 0 0 q) 0:=⟨a.dp,a.dx,a.lp,by rw[O,ml];exact a.lx,λj Y=>absurd Y (by omega)⟩;have lr:(pv f 0 0 q).now[0]? =some q:=by rw[O,hKb (by have:=a.lx;omega)]
    have hC:C P () h9:=by rw[eZ];exact⟨_,q,p9,q9,o9,X,lr,Jp⟩
    clear eZ O X lr q9 p9;cbv;refine⟨(),by constructor<;>cbv,hC⟩
   rw[ag bg];have hC:C P () h7:=by rw[eZ];exact⟨f,l,p7,q7,ow,a,hy,Jq⟩
   clear eZ;cbv;refine⟨(),by constructor<;>cbv,hC⟩
  intro gu W N;rw[eZ]at N;clear eZ;cbv;obtain⟨E,q,p8,q8,o8,Q,bE,Jp⟩:=N;refine p8.aQC F (⟨rfl⟩:aM 0 0) (by have:=a.lp;omega) o8 Jp.symm Wd (by omega) (λh9 x9 l9 p9=>?_);have q9:=q8.lt (x9.t (by decide)) l9;have O:=FL bh (l:=q) (by omega);have X:Twin (pv d i 0 q) E (i+1):=by
   refine⟨Q.dp,Q.dx,?_,Q.lx,λj Y=>?_⟩
   .rw[O,ml];exact Q.lp
   rw[O];by_cases e:j=i
   .subst e;rw[hKb (by have:=Q.lp;omega),bE]
   rw[hKQ (Ne.symm e)];exact Q.eq j (by omega)
  have xy:=dt h9 _ _ p9 q9 X;clear dt O X p9;cbv;refine⟨wi,_,aI,by constructor<;>cbv,xy⟩
 rw[ag H];have cy:i=30:=by omega
 obtain⟨ch,z6,d6⟩:=p6;have O:d.now=f.now:=by
  apply rv;intro j;by_cases Y:j<30
  .exact a.eq j (by omega)
  rw[qk (by have:=a.lp;omega),qk (by have:=a.lx;omega)]
 have aj:∀b∈d.now,b.length=64:=λb m=>by
  obtain⟨j,Y⟩:=hJR.1 m;exact d6.pg Y
 have Zj:qN d=nq f:=by
  rw[UP (by
   unfold bN fB;rw[mV (λb m=>aj b (hJC m)),ec])]
  exact PC O (by rw[a.dp,a.dx])
 obtain⟨⟨rl,aW⟩,xX⟩:∃S,S=qN d:=⟨_,rfl⟩;have AA:(rl,aW)=nq f:=xX.trans Zj;have hN:=Mm (λb m=>aj b (by rw[O];exact m)) (by have:=a.lx;omega) AA;have ca:1<=d.now.length:=by have:=a.lp;omega
 clear AQ M U Zj;cbv;refine EW z6 d6 ca xX hN bd (λh7 cz vb vm vc x7 z7 d7 s7=>?_);have q7:=R.lt (x7.t (by decide)) z7.base;have cb:=bd.mono (z7.base.t _);obtain⟨vp,VQ⟩:∃vp,vp=Ii rl aW ds:=⟨_,rfl⟩;rw[<-VQ]at s7;have l7:=z7.base;clear z7 d7 d6 z6 x7;cbv;refine Tm q7 AA hN cb (λW wb wm wc l8 s8=>?_);rw[<-VQ]at s8;clear VQ xX AA;cbv;refine aQW (s7.mono (l8.t _)) s8 ?_;cbv;exact⟨l7.trans l8,trivial⟩
end Go.S
