import Derived.Test.YtifjeceolckgaaaGreatVA
import Derived.Test.YtifjeceolckgaaaGreatSxC
set_option linter.all false
set_option maxRecDepth 100000
set_option maxHeartbeats 8000000
namespace Go.S
open Go.Sx Go.Proofs
variable {r:By}{e z:Int}{l:List (List Nd)}{b i m n p:Nat}{q s:PS}{c:UInt8}{k:Value->ad->Prop}{h h':ad}
structure PT(h:ad)(pb:Nat)(s:PS):Prop where
 out:lP false (Sx.eF h pb) h pb s
def vq(pb:Nat)(h h':ad):Prop:=Le (Sx.eF h pb) h'
theorem vq.refl(p:Nat)(h:ad):vq p h h:=Sx.fY h p
theorem vq.trans{a b c:ad}(x:vq p a b)(y:vq p b c):vq p a c:=λj o h=>by
 have d:j≠p:=λe=>by rw[e,Sx.dP]at h;cases h
 exact y j o (by rw[Sx.cY d];exact x j o h)
theorem _root_.Go.Sx.Le.cJL(l:Le h h'):vq p h h':=(Sx.fY h p).trans l
theorem PT.lt(q:PT h p s)(l:vq p h h'){tys:List Nat}(n:102∉tys):bR tys h h':=λb c e fr m a=>by
 obtain⟨w,r,o,f,k,j,at_,i,all,g,-⟩:=q.out.out;have d:b≠p:=λe'=>by
  rw[e',g]at a;cases a;exact n m
 exact l b _ (by rw[Sx.cY d];exact a)
theorem PT.of(q:PT h p s)(t:bR [102,105] h h'):PT h' p s:=by
 obtain⟨x,z,y,f,n,g,at_,i,all,j,k,l,m,o,r,A,B,C⟩:=q.out.out;have w:=t _ _ _ _ (by simp) j;refine⟨⟨x,z,y,f,n,g,at_,i,all,w,k.mono (λb c e fr v a=>?_),l,m,o,r,(λu=>by cases u),Sx.fY h' p,Sx.dP h' p⟩⟩;have d:b≠p:=λe'=>by rw[e',Sx.dP]at a;cases a
 have X:e=105:=by simpa[DQ]using v
 subst X;rw[Sx.cY d]at a |-;exact t _ _ _ _ (by simp) a
theorem lP.pt{base:ad}{l:Bool}(q:lP l base h p s):PT h p s:=⟨q.freeze⟩
theorem HP(d:PT h b s)(r:ByteArray)
 (c:∀h' t a,s.is r=(t,a)->PT h' b a->vq b h h'->(t=true->a.ws.length<s.ws.length)->(t=false->a=s/\h'=h)->k (.bool t) h'):
 Ct 90 [.pointer (some ⟨b,0,none⟩),.string r] h k:=
 Ry d.out r (λh' t a e p lt m=>c h' t a e p.pt p.le lt m)
theorem WE(c:PT h b s)(e:Int)(a:∀h',PT h' b (s.fail e)->vq b h h'->k (.tuple #[]) h'):
 Ct 33 [.pointer (some ⟨b,0,none⟩),.int .i64 e] h k:=
 Ld c.out e (λh' p=>a h' p.pt p.le)
theorem Ae(d:PT h b s)
 (c:∀h' v a,s.name ao=(v,a)->PT h' b a->vq b h h'->a.ws.length<=s.ws.length->v.size<=12->k (.string v) h'):
 Ct 93 [.pointer (some ⟨b,0,none⟩)] h k:=
 aZT d.out (λh' v a e p l z=>c h' v a e p.pt p.le l z)
theorem WR(d:PT h b s)
 (c:∀h' v a,s.column ao=(v,a)->PT h' b a->vq b h h'->a.ws.length<=s.ws.length->v.size<=25->k (.string v) h'):
 Ct 196 [.pointer (some ⟨b,0,none⟩)] h k:=
 Dc d.out (λh' v a e p l z=>c h' v a e p.pt p.le l z)
theorem nH(j:PT h b s)(i:h n=none)(l:List ByteArray){c:ad}(e:c=bU h n (.cells (List.toArray (l.map Value.string)) 9 (0,0)))(g:m=l.length)(f:l.length<=10)
 (d:∀h' a,s.cd l=a->PT h' b a->vq b h h'->a.ws.length<=s.ws.length->k (.tuple #[]) h'):Ct 92 [.pointer (some ⟨b,0,none⟩),.slice (some ⟨n,0,none⟩) m m] c k:=
 aJb j.out i l e g f (λh' a e p l=>d h' a e p.pt p.le l)
abbrev iKq(h:ad)(v:Value)(l:List Nd):Prop:=Sl 317 fx h v l
theorem Iv{d:Nat}(j:PT h d s)
 (g:∀h' b n c e a,s.expr ao=(e,a)->e.length<=60->PT h' d a->vq d h h'->iKq h' (.slice b n c) e->a.ws.length<=s.ws.length->k (.slice b n c) h'):
 Ct 193 [.pointer (some ⟨d,0,none⟩)] h k:=
 fJl j.out (λX h' b n c e a f i m p q l=>g h' b n c e a f i p.pt (m.trans p.le) (q.mono (p.le.t _)) l)
theorem aJd{c:Nat}(v:PT h c s)(w:aS z m)
 (g:∀h' t d,s.more m=(t,d)->PT h' c d->vq c h h'->d.ws.length<=s.ws.length->(t=true->d.ws.length<s.ws.length/\m<6)->k (.bool t) h'):
 Ct 194 [.pointer (some ⟨c,0,none⟩),.int .i64 z] h k:=by
 obtain⟨A,u⟩:=Ar.ex;have q:A .aI .geq z 6=decide (m>=6):=by have:=w.eq;rw[cf A,decide_eq_decide];omega
 have a:s.more m=match s.is (aM [44])with
  | (false,p)=>(false,p)
  | (true,p)=>if m>=6 then(false,p.fail 4)else(true,p):=by unfold PS.more;rfl
 refine mQF gQY A Tryz.func194 ?_;cbv;refine HP v (aM [44]) (λn t s1 o i l j K=>?_);rw[o]at a;have V:A .not t= !t:=by rw[u.not]
 cases t with
 |false=>have f:=g n false s1 a i l (by rw[(K rfl).1];exact mQD _) (λe=>by cases e);cbv;rw[V];cbv;exact f
 |true=>
  have j:=j rfl;replace a:s.more m=if m>=6 then(false,s1.fail 4)else(true,s1):=a
  cbv;rw[V];cbv;rw[q];by_cases b:m>=6
  .rw[if_pos b]at a;rw[mQu b];cbv;refine WE i 4 (λr y x=>?_);have f:=g r false _ a y (l.trans x) (by rw[PS.CT];omega) (λe=>by cases e);cbv;exact f
  rw[if_neg b]at a;have f:=g n true _ a i l (by omega) (λ_=>⟨j,by omega⟩);rw[mQv b];cbv;exact f
theorem RU{a:Nat}(v:PT h a s)
 (g:∀h' b n c e d,s.bV ao=(e,d)->e.length<=60->PT h' a d->vq a h h'->iKq h' (.slice b n c) e->d.ws.length<=s.ws.length->k (.slice b n c) h'):
 Ct 96 [.pointer (some ⟨a,0,none⟩)] h k:=by
 have m:s.bV ao=match s.is (aM [119,104,101,114,101])with
  | (true,p)=>p.expr ao
  | (false,p)=>([],p):=by unfold PS.bV;rfl
 refine mQx jJU Tryz.func96 λA B=>?_;cbv;refine HP v (aM [119,104,101,114,101]) (λr t s1 o i l j K=>?_);rw[o]at m;cases t with
 |false=>have f:=g r none 0 0 [] s1 m (mQC _) i l Sl.nil (by rw[(K rfl).1];exact mQD _);cbv;exact f
 |true=>have j:=j rfl;replace m:s.bV ao=s1.expr ao:=m;cbv;refine Iv i (λu b n c e s2 q z x w y C=>?_);have f:=g u b n c e s2 (m.trans q) z x (l.trans w) y (by omega);cbv;exact f
def eI:Sh dO where
 n:=2
 R h cs t:=∃b n c,cs=[.int .i64 t.fn,.slice b n c]/\Sl 317 fx h (.slice b n c) t.e
 len:=by rintro h cs x ⟨_,_,_,rfl,-⟩;rfl
 one:=by rintro h cs x ⟨_,_,_,rfl,-⟩;rfl
 tys:=[317]
 mono:=by rintro h h' cs x hl ⟨b,n,c,rfl,q⟩;exact⟨b,n,c,rfl,q.mono (hl.sub)⟩
theorem cJQ{q:Nat}(hp:PT h q s)
 (Q:∀h' b n c it s',s.item ao=(it,s')->it.e.length<=60->PT h' q s'->vq q h h'->iKq h' (.slice b n c) it.e->s'.ws.length<=s.ws.length->k (.agg #[.int .i64 it.fn,.slice b n c]) h'):
 Ct 195 [.pointer (some ⟨q,0,none⟩)] h k:=by
 obtain⟨D,hD⟩:∃D,s.item ao=D:=⟨_,rfl⟩;have m:=hD;unfold PS.item at m;rw[hD]at Q;clear hD;refine mQx gQX Tryz.func195 λA hA=>?_;cbv;refine HP hp (aM [99,111,117,110,116]) (λh1 t s1 l C B a K=>?_);rw[l]at m;cases t with
 |true=>have a:=a rfl;replace m:(⟨1,[]⟩,s1.cd [(aM [40]),(aM [42]),(aM [41])])=D:=m;cbv;intro n3 h3 O L;refine nH C O [(aM [40]),(aM [42]),(aM [41])] L rfl (by decide) (λF s4 M o P w4=>?_);rw[M]at m;have G:=Q F none 0 0 ⟨1,[]⟩ s4 m.symm (mQC _) o (B.trans P) Sl.nil (by omega);cbv;exact G
 |false=>
  obtain⟨j,W⟩:=K rfl;replace j:=j.symm;replace W:=W.symm;subst j W;clear a K C B;replace m:(match s.eQ [((aM [115,117,109]),2),((aM [109,105,110]),3),((aM [109,97,120]),4)]with
   | (none,p)=>((⟨0,(p.expr ao).1⟩:dO),(p.expr ao).2)
   | (some fn,p)=>((⟨fn,((({ p.cd [(aM [40])]with e:=[] }:PS).column ao).2.node (iP (({ p.cd [(aM [40])]with e:=[] }:PS).column ao).1)).2.e⟩:dO),((({ p.cd [(aM [40])]with e:=[] }:PS).column ao).2.node (iP (({ p.cd [(aM [40])]with e:=[] }:PS).column ao).1)).2.cd [(aM [41])]))=D:=m
  cbv;refine HP hp (aM [115,117,109]) (λh1 t s1 l C B a K=>?_);cases t with
  |true=>have N:s.eQ [((aM [115,117,109]),2),((aM [109,105,110]),3),((aM [109,97,120]),4)]=(some 2,s1):=iS l;have a:=a rfl;rw[N]at m;replace m:((⟨2,((({ s1.cd [(aM [40])]with e:=[] }:PS).column ao).2.node (iP (({ s1.cd [(aM [40])]with e:=[] }:PS).column ao).1)).2.e⟩:dO),((({ s1.cd [(aM [40])]with e:=[] }:PS).column ao).2.node (iP (({ s1.cd [(aM [40])]with e:=[] }:PS).column ao).1)).2.cd [(aM [41])])=D:=m;cbv;intro n3 h3 O L;refine nH C O [(aM [40])] L rfl (by decide) (λF s4 M o P w4=>?_);rw[M]at m;refine o.out.elim (λwb wn wc eb en ec at_ i all w r g qw hz hw lM hr hi Y qe=>?_);cbv;rw[ai A];refine ja g (by simp) (λh5 e5=>?_);have p5:lP true (Sx.eF F q) h5 q { s4 with e:=[] }:=o.out.aZp (lv':=true) g o.out.le (λ_=>⟨cF.nil,by decide⟩) g e5;cbv;refine Dc p5 (λh6 v d e6 p6 I z6=>?_);have I:d.ws.length<=s4.ws.length:=I;rw[e6]at m;cbv;refine oE p6 2 0 0 0 0 _ v (λh7 v7 f u E w7=>?_);have u:d.node (iP v)=(v7,f):=u;replace m:((⟨2,(d.node (iP v)).2.e⟩:dO),(d.node (iP v)).2.cd [(aM [41])])=D:=m;rw[u]at m;refine E.elim (λan aw ay z x y az i7 ab ar r7 g7 au ag al aj aK aH ak J=>?_);obtain⟨qb,R⟩:=J rfl;have qs:=qb.sl;have H:=E.pt;have X:=E.le;clear J;cbv;rw[ai A];refine mQw g7 ?_;cbv;intro n9 h9 g9 e9;refine nH H g9 [(aM [41])] e9 rfl (by decide) (λfL T V S U Z=>?_);replace m:((⟨2,f.e⟩:dO),f.cd [(aM [41])])=D:=m;rw[V]at m;have qf:=qs.mono (H.lt U (tys:=317::fx.tys) (by decide));have G:=Q fL z x y ⟨2,f.e⟩ T m.symm R S ((B.trans P).trans ((show vq q F h7 from X).trans U)) qf (by rw[w7]at Z;omega);cbv;exact G
  |false=>
   obtain⟨j,W⟩:=K rfl;replace j:=j.symm;replace W:=W.symm;subst j W;have V:=l;clear l a K C B;cbv;refine HP hp (aM [109,105,110]) (λh1 t s1 l C B a K=>?_);cases t with
   |true=>have N:s.eQ [((aM [115,117,109]),2),((aM [109,105,110]),3),((aM [109,97,120]),4)]=(some 3,s1):=(bE V).trans (iS l);have a:=a rfl;rw[N]at m;replace m:((⟨3,((({ s1.cd [(aM [40])]with e:=[] }:PS).column ao).2.node (iP (({ s1.cd [(aM [40])]with e:=[] }:PS).column ao).1)).2.e⟩:dO),((({ s1.cd [(aM [40])]with e:=[] }:PS).column ao).2.node (iP (({ s1.cd [(aM [40])]with e:=[] }:PS).column ao).1)).2.cd [(aM [41])])=D:=m;cbv;intro n3 h3 O L;refine nH C O [(aM [40])] L rfl (by decide) (λF s4 M o P w4=>?_);rw[M]at m;refine o.out.elim (λwb wn wc eb en ec at_ i all w r g qw hz hw lM hr hi Y qe=>?_);cbv;rw[ai A];refine ja g (by simp) (λh5 e5=>?_);have p5:lP true (Sx.eF F q) h5 q { s4 with e:=[] }:=o.out.aZp (lv':=true) g o.out.le (λ_=>⟨cF.nil,by decide⟩) g e5;cbv;refine Dc p5 (λh6 v d e6 p6 I z6=>?_);have I:d.ws.length<=s4.ws.length:=I;rw[e6]at m;cbv;refine oE p6 2 0 0 0 0 _ v (λh7 v7 f u E w7=>?_);have u:d.node (iP v)=(v7,f):=u;replace m:((⟨3,(d.node (iP v)).2.e⟩:dO),(d.node (iP v)).2.cd [(aM [41])])=D:=m;rw[u]at m;refine E.elim (λan aw ay z x y az i7 ab ar r7 g7 au ag al aj aK aH ak J=>?_);obtain⟨qb,R⟩:=J rfl;have qs:=qb.sl;have H:=E.pt;have X:=E.le;clear J;cbv;rw[ai A];refine mQw g7 ?_;cbv;intro n9 h9 g9 e9;refine nH H g9 [(aM [41])] e9 rfl (by decide) (λfL T V S U Z=>?_);replace m:((⟨3,f.e⟩:dO),f.cd [(aM [41])])=D:=m;rw[V]at m;have qf:=qs.mono (H.lt U (tys:=317::fx.tys) (by decide));have G:=Q fL z x y ⟨3,f.e⟩ T m.symm R S ((B.trans P).trans ((show vq q F h7 from X).trans U)) qf (by rw[w7]at Z;omega);cbv;exact G
   |false=>
    obtain⟨j,W⟩:=K rfl;replace j:=j.symm;replace W:=W.symm;subst j W;have rf:=l;clear l a K C B;cbv;refine HP hp (aM [109,97,120]) (λh1 t s1 l C B a K=>?_);cases t with
    |true=>have N:s.eQ [((aM [115,117,109]),2),((aM [109,105,110]),3),((aM [109,97,120]),4)]=(some 4,s1):=(bE V).trans ((bE rf).trans (iS l));have a:=a rfl;rw[N]at m;replace m:((⟨4,((({ s1.cd [(aM [40])]with e:=[] }:PS).column ao).2.node (iP (({ s1.cd [(aM [40])]with e:=[] }:PS).column ao).1)).2.e⟩:dO),((({ s1.cd [(aM [40])]with e:=[] }:PS).column ao).2.node (iP (({ s1.cd [(aM [40])]with e:=[] }:PS).column ao).1)).2.cd [(aM [41])])=D:=m;cbv;intro n3 h3 O L;refine nH C O [(aM [40])] L rfl (by decide) (λF s4 M o P w4=>?_);rw[M]at m;refine o.out.elim (λwb wn wc eb en ec at_ i all w r g qw hz hw lM hr hi Y qe=>?_);cbv;rw[ai A];refine ja g (by simp) (λh5 e5=>?_);have p5:lP true (Sx.eF F q) h5 q { s4 with e:=[] }:=o.out.aZp (lv':=true) g o.out.le (λ_=>⟨cF.nil,by decide⟩) g e5;cbv;refine Dc p5 (λh6 v d e6 p6 I z6=>?_);have I:d.ws.length<=s4.ws.length:=I;rw[e6]at m;cbv;refine oE p6 2 0 0 0 0 _ v (λh7 v7 f u E w7=>?_);have u:d.node (iP v)=(v7,f):=u;replace m:((⟨4,(d.node (iP v)).2.e⟩:dO),(d.node (iP v)).2.cd [(aM [41])])=D:=m;rw[u]at m;refine E.elim (λan aw ay z x y az i7 ab ar r7 g7 au ag al aj aK aH ak J=>?_);obtain⟨qb,R⟩:=J rfl;have qs:=qb.sl;have H:=E.pt;have X:=E.le;clear J;cbv;rw[ai A];refine mQw g7 ?_;cbv;intro n9 h9 g9 e9;refine nH H g9 [(aM [41])] e9 rfl (by decide) (λfL T V S U Z=>?_);replace m:((⟨4,f.e⟩:dO),f.cd [(aM [41])])=D:=m;rw[V]at m;have qf:=qs.mono (H.lt U (tys:=317::fx.tys) (by decide));have G:=Q fL z x y ⟨4,f.e⟩ T m.symm R S ((B.trans P).trans ((show vq q F h7 from X).trans U)) qf (by rw[w7]at Z;omega);cbv;exact G
    |false=>obtain⟨j,W⟩:=K rfl;replace j:=j.symm;replace W:=W.symm;subst j W;have JH:=l;clear l a K C B;cbv;have N:s.eQ [((aM [115,117,109]),2),((aM [109,105,110]),3),((aM [109,97,120]),4)]=(none,s):=(bE V).trans ((bE rf).trans (bE JH));rw[N]at m;refine Iv hp (λh2 b n c e s2 e2 z2 p2 l2 q2 w2=>?_);replace m:((⟨0,(s.expr ao).1⟩:dO),(s.expr ao).2)=D:=m;rw[e2]at m;have G:=Q h2 b n c ⟨0,e⟩ s2 m.symm z2 p2 l2 q2 w2;cbv;exact G
abbrev jM:Sh (List Nd):=mW 317 fx
structure aQG(h:ad)(v:Value)(st:aJ):Prop where
 out:∃b1 n1 c1 b2 n2 c2 b3 n3 c3 b4 n4 c4 b5 n5 c5 b6 n6 c6,v=.agg #[.int .i64 st.kind,.string st.sE.name,.slice b1 n1 c1,.int .i64 st.sE.key,.bool st.sE.only,.string st.table,.string st.join,.slice b2 n2 c2,.slice b3 n3 c3,.slice b4 n4 c4,.slice b5 n5 c5,.slice b6 n6 c6,.string st.group,.string st.order,.bool st.desc,.int .i64 st.eG,.string st.name]/\
  Sl 155 bI h (.slice b1 n1 c1) st.sE.cols/\Sl 317 fx h (.slice b2 n2 c2) st.on/\Sl 9 dX h (.slice b3 n3 c3) st.names/\Sl 42 jM h (.slice b4 n4 c4) st.exprs/\Sl 267 eI h (.slice b5 n5 c5) st.items/\Sl 317 fx h (.slice b6 n6 c6) st.bV
abbrev iKN(k:Int)(sn:ByteArray)(b1:Option Addr)(n1 c1:Nat)(ky:Int)(on:Bool)(tb jn:ByteArray)(b2:Option Addr)(n2 c2:Nat)(b3:Option Addr)(n3 c3:Nat)(b4:Option Addr)(n4 c4:Nat)(b5:Option Addr)(n5 c5:Nat)(b6:Option Addr)(n6 c6:Nat)(gr od:ByteArray)(ds:Bool)(lm:Int)(nm:ByteArray):Value:=
 .agg #[.int .i64 k,.string sn,.slice b1 n1 c1,.int .i64 ky,.bool on,.string tb,.string jn,.slice b2 n2 c2,.slice b3 n3 c3,.slice b4 n4 c4,.slice b5 n5 c5,.slice b6 n6 c6,.string gr,.string od,.bool ds,.int .i64 lm,.string nm]
theorem Zr{p:PS}(e:p.more l.length=(true,q)):nY ao (n+1) l p=nY ao n (l++[(q.expr ao).1]) (q.expr ao).2:=by show(match p.more l.length with| (true,p)=>_| (false,p)=>(l,p))=_;rw[e]
theorem Ur{p:PS}(e:p.more l.length=(false,q)):nY ao (n+1) l p=(l,q):=by show(match p.more l.length with| (true,p)=>_| (false,p)=>(l,p))=_;rw[e]
theorem cQe(hp:PT h p s)
 (hk:∀h' st s' v,s.insert ao=(st,s')->PT h' p s'->vq p h h'->aQG h' v st->s'.ws.length<=s.ws.length->k v h'):
 Ct 94 [.pointer (some ⟨p,0,none⟩)] h k:=by
 obtain⟨D,S⟩:∃D,s.insert ao=D:=⟨_,rfl⟩;have a:=S;rw[S]at hk;clear S;unfold PS.insert at a;refine mQx jJV Tryz.func94 λA hA=>?_;cbv;intro n1 h1 g1 e1;refine nH hp g1 [(aM [105,110,116,111])] e1 rfl (by decide) (λh2 s2 e2 p2 l2 w2=>?_);rw[e2]at a;cbv;refine Ae p2 (λh3 E s3 e3 p3 l3 w3 z3=>?_);simp only[e3]at a;cbv;intro n4 h4 g4 e4;refine nH p3 g4 [(aM [118,97,108,117,101,115]),(aM [40])] e4 rfl (by decide) (λh5 s5 e5 p5 l5 w5=>?_);rw[e5]at a;have W:=(l2.trans l3).trans l5;have ba:s5.ws.length<=s.ws.length:=by omega
 cbv;refine Iv p5 (λh6 b n c K d e6 z6 p6 l6 q6 w6=>?_);rw[e6]at a;obtain⟨R,hR⟩:∃R,nY ao (d.ws.length+1) [K] d=R:=⟨_,rfl⟩;replace a:((({ kind:=3,table:=E,exprs:=(nY ao (d.ws.length+1) [K] d).1 }:aJ),(nY ao (d.ws.length+1) [K] d).2.cd [(aM [41])]))=D:=a;rw[hR]at a;cbv;intro n7 z g7 e7;have l7:Le h6 z:=by rw[e7];exact Le.set g7
 have f7:=(congrFun e7 n7).trans ae;have v7:Sl 42 jM z (.slice (some ⟨n7,0,none⟩) 1 1) [K]:=bA (s:=jM) f7 ⟨_,rfl,q6.mono (l7.t _)⟩;have P:Le (Sx.eF h p) z:=(W.trans l6).trans l7.cJL;have lV:cF 42 jM (Sx.eF h p) z (.slice none 0 0) ([]:List (List Nd)):=cF.nil;cbv;refine lV.append v7 (by decide) rfl (by decide) (by omega) P (λm8 b8 c8 h8 aK l8 t8 k8 Q=>?_);have p8:=p6.of ((l7.t _).trans (t8 _ (by decide)));rw[mZn]at Q;obtain⟨I,i⟩:∃I:Nat->Option Addr×Nat×Nat->ad->Prop,∀m g h',I m g h'=∃l s1 f,cF 42 jM (Sx.eF h p) h' (.slice g.1 g.2.1 g.2.2) l/\l.length<=6/\PT h' p s1/\vq p h h'/\s1.ws.length<=s.ws.length/\s1.ws.length<f/\nY ao f l s1=R/\m=s1.ws.length:=⟨_,λ_ _ _=>rfl⟩;have V:I d.ws.length (b8,m8,c8) h8:=by rw[i];exact⟨_,d,_,Q,(by show 1<=6;decide),p8,l8,by omega,mZH _,hR,rfl⟩
 clear hR lV v7 f7 e6 Q t8 k8;cbv;refine aX.go (G:=Option Addr×Nat×Nat) (λ_=>[]) (λg=>[(3,[.int .i64 3,.string ⟨#[]⟩,.slice none 0 0,.int .i64 0,.bool false,.string E,.string ⟨#[]⟩,.slice none 0 0,.slice none 0 0,.slice g.1 g.2.1 g.2.2,.slice none 0 0,.slice none 0 0,.string ⟨#[]⟩,.string ⟨#[]⟩,.bool false,.int .i64 0,.string ⟨#[]⟩]),
  (2,[.int .i64 0,.string ⟨#[]⟩,.slice none 0 0,.int .i64 0,.bool false,.string ⟨#[]⟩,.string ⟨#[]⟩,.slice none 0 0,.slice none 0 0,.slice none 0 0,.slice none 0 0,.slice none 0 0,.string ⟨#[]⟩,.string ⟨#[]⟩,.bool false,.int .i64 0,.string ⟨#[]⟩])]) (λm g h'=>I m g h') d.ws.length (b8,m8,c8) ⟨?_,?_,?_⟩ V ?_
 .cbv
 .cbv
 .cbv
 intro m g h9 hI;rw[i]at hI;cbv;obtain⟨l,s9,f,x,az,p9,l9,w9,aH,e,sf⟩:=hI;obtain⟨gb,y,gc⟩:=g;have x:cF 42 jM (Sx.eF h p) h9 (.slice gb y gc) l:=x;have CE:=x.sl.len;obtain⟨f,rfl⟩:∃Qx,f=Qx+1:=⟨f-1,by omega⟩;have nP:aS (A .nat y) l.length:=by rw[<-CE];exact aS.nat y
 refine aJd p9 nP (λfL t Hh kV B U ay uL=>?_);have jN:=x.mono (p9.lt U (tys:=42::jM.tys) (by decide));cases t with
 |true=>
  obtain⟨uL,aV⟩:=uL rfl;have e:=(Zr kV).symm.trans e;cbv;refine Iv B (λlZ b n c J Y rf bb M oU xF aZ=>?_);rw[rf]at e;have e:nY ao f (l++[J]) Y=R:=e;have Ud:=jN.mono (B.lt oU (tys:=42::jM.tys) (by decide));cbv;intro Z C ar H;have o:Le lZ C:=by rw[H];exact Le.set ar
  have j:=(congrFun H Z).trans ae;have u:Sl 42 jM C (.slice (some ⟨Z,0,none⟩) 1 1) [J]:=bA (s:=jM) j ⟨_,rfl,xF.mono (o.t _)⟩;have X:Le (Sx.eF h p) C:=((l9.trans U).trans oU).trans o.cJL;cbv;refine(Ud.mono (o.t _)).append u (by decide) rfl (by decide) (by omega) X (λaj aw au an bd O w ak r=>?_);have al:=M.of ((o.t _).trans (w _ (by decide)));have ag:I Y.ws.length (aw,aj,au) an:=by rw[i];exact⟨_,Y,f,r,by rw[mQy,mQG];omega,al,O,by omega,by omega,e,rfl⟩
  have aP:Y.ws.length<m:=by omega
  clear i V hk e r x jN Ud u j w ak;cbv;refine⟨Y.ws.length,(_,_,_),aP,by constructor<;>cbv,ag⟩
 |false=>have e:=(Ur kV).symm.trans e;rw[<-e]at a;clear e i V;cbv;intro aW lZ N rf;refine nH B N [(aM [41])] rf rfl (by decide) (λC F H ab o bc=>?_);replace a:((({ kind:=3,table:=E,exprs:=l }:aJ),Hh.cd [(aM [41])]))=D:=a;rw[H]at a;have T:=jN.mono (B.lt o (tys:=42::jM.tys) (by decide));have L:=λv q=>hk C ({ kind:=3,table:=E,exprs:=l }:aJ) F v a.symm ab ((l9.trans U).trans o) q (by omega);have L:=L _ ⟨none,0,0,none,0,0,none,0,0,gb,y,gc,none,0,0,none,0,0,rfl,Sl.nil,Sl.nil,Sl.nil,T.sl,Sl.nil,Sl.nil⟩;cbv;exact L
theorem bJp{c:Nat}(hp:PT h c s)
 (hk:∀h' st s' v,s.update ao=(st,s')->PT h' c s'->vq c h h'->aQG h' v st->s'.ws.length<=s.ws.length->k v h'):
 Ct 95 [.pointer (some ⟨c,0,none⟩)] h k:=by
 obtain⟨D,hD⟩:∃D,s.update ao=D:=⟨_,rfl⟩;have hm:=hD;rw[hD]at hk;clear hD;unfold PS.update at hm;refine mQx gKY Tryz.func95 λA hA=>?_;cbv;refine Ae hp (λh3 tb s3 e3 p3 l3 w3 z3=>?_);simp only[e3]at hm;cbv;intro n4 h4 g4 e4;refine nH p3 g4 [(aM [115,101,116])] e4 rfl (by decide) (λh5 s5 e5 p5 l5 w5=>?_);simp only[e5]at hm;have bx:=l3.trans l5;have cn:s5.ws.length<=s.ws.length:=by omega
 obtain⟨R,hR⟩:∃R,nC ao (s5.ws.length+1) [] [] s5=R:=⟨_,rfl⟩;rw[hR]at hm;obtain⟨I,aY⟩:∃I:Nat->Int×(Option Addr×Nat×Nat)×Option Addr×Nat×Nat->ad->Prop,∀m g h',I m g h'=∃P a b s1 u,aS g.1 P/\cF 9 dX (Sx.eF h c) h' (.slice g.2.1.1 g.2.1.2.1 g.2.1.2.2) a/\cF 42 jM (Sx.eF h c) h' (.slice g.2.2.1 g.2.2.2.1 g.2.2.2.2) b/\a.length=b.length/\a.length<=6/\PT h' c s1/\vq c h h'/\s1.ws.length<=s.ws.length/\s1.ws.length<=u/\P<=10+a.length/\
  ((
   P=0/\a=[]/\b=[]/\s1=s5/\nC ao (u+1) [] [] s1=R/\m=s1.ws.length+1)\/(P≠0/\(match s1.more a.length with
   | (true,p)=>nC ao u a b p
   | (false,p)=>((a,b),p))=R/\m=s1.ws.length)):=⟨_,λ_ _ _=>rfl⟩
 have hJ:I (s5.ws.length+1) (0,(none,0,0),none,0,0) h5:=by rw[aY];exact⟨0,[],[],s5,s5.ws.length,⟨rfl⟩,cF.nil,cF.nil,rfl,by decide,p5,bx,cn,mQD _,mQC _,.inl ⟨rfl,rfl,rfl,rfl,hR,rfl⟩⟩
 clear hR;cbv;refine aX.go (G:=Int×(Option Addr×Nat×Nat)×Option Addr×Nat×Nat) (λg=>[(4,.v (.int .i64 g.1))]) (λg=>[(3,[.int .i64 4,.string ⟨#[]⟩,.slice none 0 0,.int .i64 0,.bool false,.string tb,.string ⟨#[]⟩,.slice none 0 0,.slice g.2.1.1 g.2.1.2.1 g.2.1.2.2,.slice g.2.2.1 g.2.2.2.1 g.2.2.2.2,.slice none 0 0,.slice none 0 0,.string ⟨#[]⟩,.string ⟨#[]⟩,.bool false,.int .i64 0,.string ⟨#[]⟩]),
  (2,[.int .i64 0,.string ⟨#[]⟩,.slice none 0 0,.int .i64 0,.bool false,.string ⟨#[]⟩,.string ⟨#[]⟩,.slice none 0 0,.slice none 0 0,.slice none 0 0,.slice none 0 0,.slice none 0 0,.string ⟨#[]⟩,.string ⟨#[]⟩,.bool false,.int .i64 0,.string ⟨#[]⟩])]) (λm g h'=>I m g h') (s5.ws.length+1) (0,(none,0,0),none,0,0) ⟨?_,?_,?_⟩ hJ ?_
 .cbv
 .cbv
 .cbv
 intro m g h9 hI;rw[aY]at hI;cbv;obtain⟨P,a,b,s9,u,hz,T,U,tW,bz,p9,l9,w9,cz,Jz,gR⟩:=hI;obtain⟨z,⟨ab,an,ac⟩,gb,gn,gc⟩:=g;have hz:aS z P:=hz;have T:cF 9 dX (Sx.eF h c) h9 (.slice ab an ac) a:=T;have U:cF 42 jM (Sx.eF h c) h9 (.slice gb gn gc) b:=U;have RM:=T.sl.len;have JD:=U.sl.len;have f1:A .aI .eql z 0=decide (P=0):=by have:=hz.eq;rw[aA A,decide_eq_decide];omega
 have cZ:=hz.succ (A:=A);rw[f1];rcases gR with⟨rfl,rfl,rfl,rfl,he,sf⟩|⟨Qe,he,sf⟩
 .obtain⟨a,TH⟩:∃l:List ByteArray,l=[]:=⟨_,rfl⟩;obtain⟨b,bF⟩:∃l:List (List Nd),l=[]:=⟨_,rfl⟩;obtain⟨P,bw⟩:∃l:Nat,l=0:=⟨_,rfl⟩;have cr:decide ((0:Nat)=0)=true:=rfl;rw[<-TH]at T he RM tW bz;rw[<-bF]at U he JD tW;rw[<-TH]at Jz;have cc:a.length<6:=by rw[TH];show 0<6;decide
  rw[<-bw]at cZ;rw[cr];cbv;refine Ae p9 (λag O Yc aj az YE cl ck=>?_);have IS:=T.mono (p9.lt YE (tys:=9::dX.tys) (by decide));have B:=U.mono (p9.lt YE (tys:=42::jM.tys) (by decide));cbv;intro j Ui aH Q;have S:Le ag Ui:=by rw[Q];exact Le.set aH
  have H:=(congrFun Q j).trans ae;have X:Sl 9 dX Ui (.slice (some ⟨j,0,none⟩) 1 1) [O]:=bA (s:=dX) H rfl;have SW:Le (Sx.eF h c) Ui:=(l9.trans YE).trans S.cJL;cbv;refine(IS.mono (S.t _)).append X (by decide) rfl (by decide) (by omega) SW (λay aV aK ak cb SU f ar IQ=>?_);have Z:=az.of ((S.t _).trans (f _ (by decide)));have y:=(B.mono (S.t _)).mono (f _ (by decide));have SU:vq c h ak:=SU;clear IS B X H f ar;cbv;intro cj cx bo bk;refine nH Z bo [(aM [61])] bk rfl (by decide) (λch cu bj e rK cw=>?_);have E:=IQ.mono (Z.lt rK (tys:=9::dX.tys) (by decide));have x:=y.mono (Z.lt rK (tys:=42::jM.tys) (by decide));cbv;refine Iv e (λaw eb en ec W Y bg ct bd J aZ cv=>?_);have n:=E.mono (e.lt J (tys:=9::dX.tys) (by decide));have w:=x.mono (e.lt J (tys:=42::jM.tys) (by decide));clear E x IQ y;cbv;intro M d bn L;have V:Le aw d:=by rw[L];exact Le.set bn
  have K:=(congrFun L M).trans ae;have F:Sl 42 jM d (.slice (some ⟨M,0,none⟩) 1 1) [W]:=bA (s:=jM) K ⟨_,rfl,aZ.mono (V.t _)⟩;have al:Le (Sx.eF h c) d:=((SU.trans rK).trans J).trans V.cJL;cbv;refine(w.mono (V.t _)).append F (by decide) rfl (by decide) (by omega) al (λaW bt br N cm r i bf o=>?_);have bc:=bd.of ((V.t _).trans (i _ (by decide)));have C:=(n.mono (V.t _)).mono (i _ (by decide));have r:vq c h N:=r;have bU:nC ao (u+1) a b s9=match Y.more (a++[O]).length with
   | (true,p)=>nC ao u (a++[O]) (b++[W]) p
   | (false,p)=>((a++[O],b++[W]),p):=by
   rw[nC];simp only[aj,bj,bg];rfl
  have au:I Y.ws.length (A .bB .add .i64 z 1,(aV,ay,aK),bt,aW,br) N:=by rw[aY];exact⟨P+1,a++[O],b++[W],Y,u,cZ,C,o,by rw[mQy,mQy,tW];rfl,by rw[mQy,mQG];omega,bc,r,by omega,by omega,by rw[mQy,mQG];omega,.inr ⟨by omega,bU.symm.trans he,rfl⟩⟩
  have aP:Y.ws.length<m:=by omega
  clear aY hJ hk he C o n w F K i bf bU;cbv;refine⟨Y.ws.length,(_,(_,_,_),_,_,_),aP,by constructor<;>cbv,au⟩
 rw[mQv Qe];have nP:aS (A .nat an) a.length:=by rw[<-RM];exact aS.nat an
 cbv;refine aJd p9 nP (λfL t Hh kV Br fU cy uL=>?_);rw[kV]at he;have T:=T.mono (p9.lt fU (tys:=9::dX.tys) (by decide));have U:=U.mono (p9.lt fU (tys:=42::jM.tys) (by decide));have l9:=l9.trans fU;cases t with
 |true=>
  obtain⟨uL,cc⟩:=uL rfl;replace he:nC ao u a b Hh=R:=he;obtain⟨u,rfl⟩:∃Qx,u=Qx+1:=⟨u-1,by omega⟩;cbv;refine Ae Br (λag O Yc aj az YE cl ck=>?_);have IS:=T.mono (Br.lt YE (tys:=9::dX.tys) (by decide));have B:=U.mono (Br.lt YE (tys:=42::jM.tys) (by decide));cbv;intro j Ui aH Q;have S:Le ag Ui:=by rw[Q];exact Le.set aH
  have H:=(congrFun Q j).trans ae;have X:Sl 9 dX Ui (.slice (some ⟨j,0,none⟩) 1 1) [O]:=bA (s:=dX) H rfl;have SW:Le (Sx.eF h c) Ui:=(l9.trans YE).trans S.cJL;cbv;refine(IS.mono (S.t _)).append X (by decide) rfl (by decide) (by omega) SW (λay aV aK ak cb SU f ar IQ=>?_);have Z:=az.of ((S.t _).trans (f _ (by decide)));have y:=(B.mono (S.t _)).mono (f _ (by decide));have SU:vq c h ak:=SU;clear IS B X H f ar;cbv;intro cj cx bo bk;refine nH Z bo [(aM [61])] bk rfl (by decide) (λch cu bj e rK cw=>?_);have E:=IQ.mono (Z.lt rK (tys:=9::dX.tys) (by decide));have x:=y.mono (Z.lt rK (tys:=42::jM.tys) (by decide));cbv;refine Iv e (λaw eb en ec W Y bg ct bd J aZ cv=>?_);have n:=E.mono (e.lt J (tys:=9::dX.tys) (by decide));have w:=x.mono (e.lt J (tys:=42::jM.tys) (by decide));clear E x IQ y;cbv;intro M d bn L;have V:Le aw d:=by rw[L];exact Le.set bn
  have K:=(congrFun L M).trans ae;have F:Sl 42 jM d (.slice (some ⟨M,0,none⟩) 1 1) [W]:=bA (s:=jM) K ⟨_,rfl,aZ.mono (V.t _)⟩;have al:Le (Sx.eF h c) d:=((SU.trans rK).trans J).trans V.cJL;cbv;refine(w.mono (V.t _)).append F (by decide) rfl (by decide) (by omega) al (λaW bt br N cm r i bf o=>?_);have bc:=bd.of ((V.t _).trans (i _ (by decide)));have C:=(n.mono (V.t _)).mono (i _ (by decide));have r:vq c h N:=r;have bU:nC ao (u+1) a b Hh=match Y.more (a++[O]).length with
   | (true,p)=>nC ao u (a++[O]) (b++[W]) p
   | (false,p)=>((a++[O],b++[W]),p):=by
   rw[nC];simp only[aj,bj,bg];rfl
  have au:I Y.ws.length (A .bB .add .i64 z 1,(aV,ay,aK),bt,aW,br) N:=by rw[aY];exact⟨P+1,a++[O],b++[W],Y,u,cZ,C,o,by rw[mQy,mQy,tW];rfl,by rw[mQy,mQG];omega,bc,r,by omega,by omega,by rw[mQy,mQG];omega,.inr ⟨by omega,bU.symm.trans he,rfl⟩⟩
  have aP:Y.ws.length<m:=by omega
  clear aY hJ hk he C o n w F K i bf bU;cbv;refine⟨Y.ws.length,(_,(_,_,_),_,_,_),aP,by constructor<;>cbv,au⟩
 |false=>replace he:((a,b),Hh)=R:=he;subst he;clear aY hJ;cbv;refine RU Br (λlZ wb wn wc we Ye rf cB ca oU xF cA=>?_);replace hm:((({ kind:=4,table:=tb,names:=a,exprs:=b,bV:=(Hh.bV ao).1 }:aJ),(Hh.bV ao).2))=D:=hm;rw[rf]at hm;have cq:=T.mono (Br.lt oU (tys:=9::dX.tys) (by decide));have cp:=U.mono (Br.lt oU (tys:=42::jM.tys) (by decide));have af:=λv q=>hk lZ ({ kind:=4,table:=tb,names:=a,exprs:=b,bV:=we }:aJ) Ye v hm.symm ca (l9.trans oU) q (by omega);have af:=af _ ⟨none,0,0,none,0,0,ab,an,ac,gb,gn,gc,none,0,0,wb,wn,wc,rfl,Sl.nil,Sl.nil,cq.sl,cp.sl,Sl.nil,xF⟩;cbv;exact af
set_option maxHeartbeats 16000000
def cZi(p:PS):List dO×PS:=match p.is (aM [42])with
 | (true,p)=>([],p)
 | (false,p)=>iK ao (p.ws.length+1) [] p
def cZh(p:PS):ByteArray×PS:=(p.cd [(aM [102,114,111,109])]).name ao
def bJd(p:PS):(ByteArray×List Nd)×PS:=match p.is (aM [106,111,105,110])with
 | (true,p)=>let a:=p.name ao;let e:=(a.2.cd [(aM [111,110])]).expr ao;((a.1,e.1),e.2)
 | (false,p)=>((b0,[]),p)
def dQo(p:PS):ByteArray×PS:=match p.is (aM [103,114,111,117,112])with
 | (true,p)=>(p.cd [(aM [98,121])]).column ao
 | (false,p)=>(b0,p)
def eJc(p:PS):(ByteArray×Bool)×PS:=match p.is (aM [111,114,100,101,114])with
 | (true,p)=>let c:=(p.cd [(aM [98,121])]).column ao;let d:=c.2.is (aM [100,101,115,99]);((c.1,d.1),d.2)
 | (false,p)=>((b0,false),p)
def eJb(p:PS):Int×PS:=match p.is (aM [108,105,109,105,116])with
 | (true,p)=>(match p.ws with
  |w::r=>if w.k=2 then(w.n,({ p with ws:=r }:PS))else((-1:Int),p.fail 6)
  | []=>(-1,p))
 | (false,p)=>(-1,p)
theorem ZF{l:List dO}{s1 s2 z v h k n:PS}{u jn b f:ByteArray}{on x:List Nd}{ds:Bool}{m:Int}(F:cZi s=(l,s1))(y:cZh s1=(u,s2))(G:bJd s2=((jn,on),z))(H:z.bV ao=(x,v))(I:dQo v=(b,h))(J:eJc h=((f,ds),k))(K:eJb k=(m,n)):
 s.choose ao=({ kind:=6,table:=u,join:=jn,on:=on,items:=l,bV:=x,group:=b,order:=f,desc:=ds,eG:=m },n):=by
 have A:(let st:=s.is (aM [42]);if st.1 then([],st.2)else iK ao (st.2.ws.length+1) [] st.2)=(l,s1):=by
  rw[<-F];unfold cZi;rcases s.is (aM [42])with⟨t,q⟩
  cases t<;>rfl
 have B:(let j:=s2.is (aM [106,111,105,110]);if j.1 then(let a:=j.2.name ao;let p:=a.2.cd [(aM [111,110])];let e:=p.expr ao;((a.1,e.1),e.2))else((b0,[]),j.2))=((jn,on),z):=by
  rw[<-G];unfold bJd;rcases s2.is (aM [106,111,105,110])with⟨t,q⟩
  cases t<;>rfl
 have C:(let g:=v.is (aM [103,114,111,117,112]);if g.1 then(g.2.cd [(aM [98,121])]).column ao else(b0,g.2))=(b,h):=by
  rw[<-I];unfold dQo;rcases v.is (aM [103,114,111,117,112])with⟨t,q⟩
  cases t<;>rfl
 have D:(let o:=h.is (aM [111,114,100,101,114]);if o.1 then(let c:=(o.2.cd [(aM [98,121])]).column ao;let d:=c.2.is (aM [100,101,115,99]);((c.1,d.1),d.2))else((b0,false),o.2))=((f,ds),k):=by
  rw[<-J];unfold eJc;rcases h.is (aM [111,114,100,101,114])with⟨t,q⟩
  cases t<;>rfl
 have E:(let i:=k.is (aM [108,105,109,105,116]);if i.1 then(match i.2.ws with
  |w::r=>if w.k=2 then(w.n,({ i.2 with ws:=r }:PS))else((-1:Int),i.2.fail 6)
  | []=>(-1,i.2))else(-1,i.2))=(m,n):=by
  rw[<-K];unfold eJb;rcases k.is (aM [108,105,109,105,116])with⟨t,q⟩
  cases t<;>rfl
 have y:(s1.cd [(aM [102,114,111,109])]).name ao=(u,s2):=y;have fin:∀X:Int×PS,X=(m,n)->(({ kind:=6,table:=u,join:=jn,on:=on,items:=l,bV:=x,group:=b,order:=f,desc:=ds,eG:=X.1 }:aJ),X.2)=({ kind:=6,table:=u,join:=jn,on:=on,items:=l,bV:=x,group:=b,order:=f,desc:=ds,eG:=m },n):=by rintro _ rfl;rfl
 unfold PS.choose;simp only[]at A B C D E |-;simp only[A,y,B,H,C,D];exact fin _ E
theorem fJJ(e:s.is (aM [42])=(false,q)):cZi s=iK ao (q.ws.length+1) [] q:=by unfold cZi;rw[e]
def kQj(s:PS)(pb:Nat)(h:ad)(g:Option Addr×Nat×Nat)(h':ad):Prop:=∃l s1,cZi s=(l,s1)/\Sl 267 eI h' (.slice g.1 g.2.1 g.2.2) l/\PT h' pb s1/\vq pb h h'/\s1.ws.length<=s.ws.length
abbrev hQn:=(Option Addr×Nat×Nat)×ByteArray×ByteArray×Option Addr×Nat×Nat
def lZI(s:PS)(pb:Nat)(h:ad)(g:hQn)(h':ad):Prop:=∃l s1 s2 on s3,cZi s=(l,s1)/\cZh s1=(g.2.1,s2)/\bJd s2=((g.2.2.1,on),s3)/\Sl 267 eI h' (.slice g.1.1 g.1.2.1 g.1.2.2) l/\Sl 317 fx h' (.slice g.2.2.2.1 g.2.2.2.2.1 g.2.2.2.2.2) on/\PT h' pb s3/\vq pb h h'/\s3.ws.length<=s.ws.length
abbrev hQk:=hQn×(Option Addr×Nat×Nat)×ByteArray
def lZH(s:PS)(pb:Nat)(h:ad)(g:hQk)(h':ad):Prop:=∃l s1 s2 on s3 wh s4 s5,cZi s=(l,s1)/\cZh s1=(g.1.2.1,s2)/\bJd s2=((g.1.2.2.1,on),s3)/\s3.bV ao=(wh,s4)/\dQo s4=(g.2.2,s5)/\Sl 267 eI h' (.slice g.1.1.1 g.1.1.2.1 g.1.1.2.2) l/\Sl 317 fx h' (.slice g.1.2.2.2.1 g.1.2.2.2.2.1 g.1.2.2.2.2.2) on/\Sl 317 fx h' (.slice g.2.1.1 g.2.1.2.1 g.2.1.2.2) wh/\PT h' pb s5/\vq pb h h'/\s5.ws.length<=s.ws.length
abbrev iKr:=hQk×ByteArray×Bool
def lZG(s:PS)(pb:Nat)(h:ad)(g:iKr)(h':ad):Prop:=∃l s1 s2 on s3 wh s4 s5 s6,cZi s=(l,s1)/\cZh s1=(g.1.1.2.1,s2)/\bJd s2=((g.1.1.2.2.1,on),s3)/\s3.bV ao=(wh,s4)/\dQo s4=(g.1.2.2,s5)/\eJc s5=((g.2.1,g.2.2),s6)/\Sl 267 eI h' (.slice g.1.1.1.1 g.1.1.1.2.1 g.1.1.1.2.2) l/\Sl 317 fx h' (.slice g.1.1.2.2.2.1 g.1.1.2.2.2.2.1 g.1.1.2.2.2.2.2) on/\Sl 317 fx h' (.slice g.1.2.1.1 g.1.2.1.2.1 g.1.2.1.2.2) wh/\PT h' pb s6/\vq pb h h'/\s6.ws.length<=s.ws.length
theorem cZg{c:Nat}(hp:PT h c s)
 (hk:∀h' st s' v,s.choose ao=(st,s')->PT h' c s'->vq c h h'->aQG h' v st->s'.ws.length<=s.ws.length->k v h'):
 Ct 97 [.pointer (some ⟨c,0,none⟩)] h k:=by
 obtain⟨A,hA⟩:=Ar.ex;obtain⟨C1,M⟩:∃C:Option Addr×Nat×Nat->ad->Prop,∀g h',C g h'=kQj s c h g h':=⟨_,λ_ _=>rfl⟩;obtain⟨C2,K⟩:∃C:hQn->ad->Prop,∀g h',C g h'=lZI s c h g h':=⟨_,λ_ _=>rfl⟩;obtain⟨C3,T⟩:∃C:hQk->ad->Prop,∀g h',C g h'=lZH s c h g h':=⟨_,λ_ _=>rfl⟩;obtain⟨C4,Q⟩:∃C:iKr->ad->Prop,∀g h',C g h'=lZG s c h g h':=⟨_,λ_ _=>rfl⟩;refine zo A [false,false,true,false,false,true,false,true,true] (ax jJT.aK jJT.bF) Tryz.func97 rfl (by kernel_rfl) ?_;cbv;refine Dw.go (G:=Option Addr×Nat×Nat) (λ_=>[]) (λg=>[(3,[.int .i64 6,.string ⟨#[]⟩,.slice none 0 0,.int .i64 0,.bool false,.string ⟨#[]⟩,.string ⟨#[]⟩,.slice none 0 0,.slice none 0 0,.slice none 0 0,.slice g.1 g.2.1 g.2.2,.slice none 0 0,.string ⟨#[]⟩,.string ⟨#[]⟩,.bool false,.int .i64 (-1),.string ⟨#[]⟩]),(2,[.int .i64 0,.string ⟨#[]⟩,.slice none 0 0,.int .i64 0,.bool false,.string ⟨#[]⟩,.string ⟨#[]⟩,.slice none 0 0,.slice none 0 0,.slice none 0 0,.slice none 0 0,.slice none 0 0,.string ⟨#[]⟩,.string ⟨#[]⟩,.bool false,.int .i64 0,.string ⟨#[]⟩])]) C1 ?_ ?_
 .cbv;refine HP hp (aM [42]) (λL t s1 e1 p1 l1 ji mK=>?_);have AV:A .not t= !t:=by rw[hA.not]
  cases t with
  |true=>
   have ji:=ji rfl;have a:C1 (none,0,0) L:=by rw[M];exact⟨[],s1,by unfold cZi;rw[e1],Sl.nil,p1,l1,by omega⟩
   clear M K T Q;cbv;rw[AV];cbv;refine⟨(_,_,_),by constructor<;>cbv,a⟩
  |false=>
   obtain⟨jE,iW⟩:=mK rfl;have bk:=fJJ e1;subst jE iW;obtain⟨R,hR⟩:∃R,iK ao (s1.ws.length+1) [] s1=R:=⟨_,rfl⟩;rw[hR]at bk;obtain⟨I,aY⟩:∃I:Nat->Int×(Option Addr×Nat×Nat)->ad->Prop,∀m g h',I m g h'=∃kk b f y,aS g.1 kk/\cF 267 eI (Sx.eF L c) h' (.slice g.2.1 g.2.2.1 g.2.2.2) b/\b.length<=6/\PT h' c f/\vq c L h'/\f.ws.length<=s1.ws.length/\f.ws.length<=y/\kk<=10+b.length/\
    ((
     kk=0/\b=[]/\f=s1/\iK ao (y+1) [] f=R/\m=f.ws.length+1)\/(kk≠0/\(match f.more b.length with
     | (true,p)=>iK ao y b p
     | (false,p)=>(b,p))=R/\m=f.ws.length)):=⟨_,λ_ _ _=>rfl⟩
   have hJ:I (s1.ws.length+1) (0,(none,0,0)) L:=by rw[aY];exact⟨0,[],s1,s1.ws.length,⟨rfl⟩,cF.nil,by decide,p1,vq.refl _ _,mQD _,mQD _,mQC _,.inl ⟨rfl,rfl,rfl,hR,rfl⟩⟩
   clear hR K T Q l1;have M:∀g h',kQj s1 c L g h'->C1 g h':=λg h' q=>by rw[M];exact q
   cbv;rw[AV];cbv;refine aX.go (G:=Int×(Option Addr×Nat×Nat)) (λg=>[(4,.v (.int .i64 g.1))]) (λg=>[(3,[.int .i64 6,.string ⟨#[]⟩,.slice none 0 0,.int .i64 0,.bool false,.string ⟨#[]⟩,.string ⟨#[]⟩,.slice none 0 0,.slice none 0 0,.slice none 0 0,.slice g.2.1 g.2.2.1 g.2.2.2,.slice none 0 0,.string ⟨#[]⟩,.string ⟨#[]⟩,.bool false,.int .i64 (-1),.string ⟨#[]⟩]),(2,[.int .i64 0,.string ⟨#[]⟩,.slice none 0 0,.int .i64 0,.bool false,.string ⟨#[]⟩,.string ⟨#[]⟩,.slice none 0 0,.slice none 0 0,.slice none 0 0,.slice none 0 0,.slice none 0 0,.string ⟨#[]⟩,.string ⟨#[]⟩,.bool false,.int .i64 0,.string ⟨#[]⟩])]) (λm g h'=>I m g h') (s1.ws.length+1) (0,(none,0,0)) (by constructor<;>cbv) hJ ?_
   intro m g h9 hI;rw[aY]at hI;cbv;obtain⟨kk,b,s9,y,hz,ba,bo,p9,l9,w9,ct,Jz,gR⟩:=hI;obtain⟨z,ab,an,ac⟩:=g;have hz:aS z kk:=hz;have ba:cF 267 eI (Sx.eF L c) h9 (.slice ab an ac) b:=ba;have RM:=ba.sl.len;have f1:A .aI .eql z 0=decide (kk=0):=by have:=hz.eq;rw[aA A,decide_eq_decide];omega
   have cZ:=hz.succ (A:=A);rw[f1];rcases gR with⟨rfl,rfl,rfl,he,sf⟩|⟨Qe,he,sf⟩
   .obtain⟨b,TH⟩:∃l:List dO,l=[]:=⟨_,rfl⟩;obtain⟨kk,bn⟩:∃l:Nat,l=0:=⟨_,rfl⟩;have cj:decide ((0:Nat)=0)=true:=rfl;rw[<-TH]at ba he RM bo;rw[<-TH]at Jz;have bx:b.length<6:=by rw[TH];show 0<6;decide
    rw[<-bn]at cZ;rw[cj];cbv;refine cJQ p9 (λar eb en ec iv Y au ca aK YE bb cc=>?_);have IS:=ba.mono (p9.lt YE (tys:=267::eI.tys) (by decide));cbv;intro U Ui aV V;have Mv:Le ar Ui:=by rw[V];exact Le.set aV
    have aj:=(congrFun V U).trans ae;have S:Sl 267 eI Ui (.slice (some ⟨U,0,none⟩) 1 1) [iv]:=bA (s:=eI) aj ⟨_,_,_,rfl,bb.mono (Mv.t _)⟩;have SW:Le (Sx.eF L c) Ui:=(l9.trans YE).trans Mv.cJL;cbv;refine(IS.mono (Mv.t _)).append S (by decide) rfl (by decide) (by omega) SW (λaH aZ aW W bw SU ak aw IQ=>?_);have al:=aK.of ((Mv.t _).trans (ak _ (by decide)));have SU:vq c L W:=SU;have bU:iK ao (y+1) b s9=match Y.more (b++[iv]).length with
     | (true,p)=>iK ao y (b++[iv]) p
     | (false,p)=>(b++[iv],p):=by
     rw[iK];simp only[au];rfl
    have az:I Y.ws.length (A .bB .add .i64 z 1,(aZ,aH,aW)) W:=by rw[aY];exact⟨kk+1,b++[iv],Y,y,cZ,IQ,by rw[mQy,mQG];omega,al,SU,by omega,by omega,by rw[mQy,mQG];omega,.inr ⟨by omega,bU.symm.trans he,rfl⟩⟩
    have aP:Y.ws.length<m:=by omega
    clear aY hJ he IS IQ S aj ak aw bU;cbv;refine⟨Y.ws.length,(_,_,_,_),aP,by constructor<;>cbv,az⟩
   rw[mQv Qe];have nP:aS (A .nat an) b.length:=by rw[<-RM];exact aS.nat an
   cbv;refine aJd p9 nP (λfL t Hh kV J fU bg uL=>?_);rw[kV]at he;have ba:=ba.mono (p9.lt fU (tys:=267::eI.tys) (by decide));have l9:=l9.trans fU;cases t with
   |true=>
    obtain⟨uL,bx⟩:=uL rfl;replace he:iK ao y b Hh=R:=he;obtain⟨y,rfl⟩:∃Qx,y=Qx+1:=⟨y-1,by omega⟩;cbv;refine cJQ J (λar eb en ec iv Y au ca aK YE bb cc=>?_);have IS:=ba.mono (J.lt YE (tys:=267::eI.tys) (by decide));cbv;intro U Ui aV V;have Mv:Le ar Ui:=by rw[V];exact Le.set aV
    have aj:=(congrFun V U).trans ae;have S:Sl 267 eI Ui (.slice (some ⟨U,0,none⟩) 1 1) [iv]:=bA (s:=eI) aj ⟨_,_,_,rfl,bb.mono (Mv.t _)⟩;have SW:Le (Sx.eF L c) Ui:=(l9.trans YE).trans Mv.cJL;cbv;refine(IS.mono (Mv.t _)).append S (by decide) rfl (by decide) (by omega) SW (λaH aZ aW W bw SU ak aw IQ=>?_);have al:=aK.of ((Mv.t _).trans (ak _ (by decide)));have SU:vq c L W:=SU;have bU:iK ao (y+1) b Hh=match Y.more (b++[iv]).length with
     | (true,p)=>iK ao y (b++[iv]) p
     | (false,p)=>(b++[iv],p):=by
     rw[iK];simp only[au];rfl
    have az:I Y.ws.length (A .bB .add .i64 z 1,(aZ,aH,aW)) W:=by rw[aY];exact⟨kk+1,b++[iv],Y,y,cZ,IQ,by rw[mQy,mQG];omega,al,SU,by omega,by omega,by rw[mQy,mQG];omega,.inr ⟨by omega,bU.symm.trans he,rfl⟩⟩
    have aP:Y.ws.length<m:=by omega
    clear aY hJ he IS IQ S aj ak aw bU;cbv;refine⟨Y.ws.length,(_,_,_,_),aP,by constructor<;>cbv,az⟩
   |false=>
    replace he:(b,Hh)=R:=he;subst he;have a:=M (ab,an,ac) fL ⟨b,Hh,bk,ba.sl,J,l9,by omega⟩;clear aY hJ M;cbv;refine⟨(_,_,_),by constructor<;>cbv,a⟩
 intro g L a;rw[M]at a;obtain⟨l,s1,H,d,p1,l1,w1⟩:=a;obtain⟨n,P,u⟩:=g;have d:Sl 267 eI L (.slice n P u) l:=d;clear M;cbv;intro n2 h2 g2 e2;refine nH p1 g2 [(aM [102,114,111,109])] e2 rfl (by decide) (λh3 s3 e3 p3 l3 w3=>?_);cbv;refine Ae p3 (λh4 D O e4 p4 l4 w4 z4=>?_);have j:cZh s1=(D,O):=by unfold cZh;rw[e3,e4]
 have X:=d.mono (p1.lt (l3.trans l4) (tys:=267::eI.tys) (by decide));have rY:=(l1.trans l3).trans l4;have ag:O.ws.length<=s.ws.length:=by omega
 clear d;cbv;refine Dw.go (G:=hQn) (λ_=>[]) (λg=>[(3,[.int .i64 6,.string ⟨#[]⟩,.slice none 0 0,.int .i64 0,.bool false,.string g.2.1,.string g.2.2.1,.slice g.2.2.2.1 g.2.2.2.2.1 g.2.2.2.2.2,.slice none 0 0,.slice none 0 0,.slice g.1.1 g.1.2.1 g.1.2.2,.slice none 0 0,.string ⟨#[]⟩,.string ⟨#[]⟩,.bool false,.int .i64 (-1),.string ⟨#[]⟩]),(2,[.int .i64 0,.string ⟨#[]⟩,.slice none 0 0,.int .i64 0,.bool false,.string ⟨#[]⟩,.string ⟨#[]⟩,.slice none 0 0,.slice none 0 0,.slice none 0 0,.slice none 0 0,.slice none 0 0,.string ⟨#[]⟩,.string ⟨#[]⟩,.bool false,.int .i64 0,.string ⟨#[]⟩])]) C2 ?_ ?_
 .cbv;refine HP p4 (aM [106,111,105,110]) (λh5 t f e5 N l5 Cf bc=>?_);cases t with
  |false=>
   obtain⟨rfl,rfl⟩:=bc rfl;have a:C2 ((n,P,u),D,⟨#[]⟩,none,0,0) h5:=by rw[K];exact⟨l,s1,f,[],f,H,j,by unfold bJd;rw[e5];rfl,X,Sl.nil,N,rY,ag⟩
   clear K T Q;cbv;refine⟨((_,_,_),_,_,_,_,_),by constructor<;>cbv,a⟩
  |true=>
   have Cf:=Cf rfl;have cq:=X.mono (p4.lt l5 (tys:=267::eI.tys) (by decide));cbv;refine Ae N (λh6 jn s6 e6 p6 l6 w6 z6=>?_);have cp:=cq.mono (N.lt l6 (tys:=267::eI.tys) (by decide));cbv;intro n7 h7 g7 e7;refine nH p6 g7 [(aM [111,110])] e7 rfl (by decide) (λh8 s8 e8 p8 l8 w8=>?_);have cn:=cp.mono (p6.lt l8 (tys:=267::eI.tys) (by decide));cbv;refine Iv p8 (λh9 E on F ov s9 e9 z9 p9 l9 o w9=>?_);have cm:=cn.mono (p8.lt l9 (tys:=267::eI.tys) (by decide));have a:C2 ((n,P,u),D,jn,E,on,F) h9:=by rw[K];exact⟨l,s1,O,ov,s9,H,j,by unfold bJd;rw[e5];simp only[e6,e8,e9],cm,o,p9,(((rY.trans l5).trans l6).trans l8).trans l9,by omega⟩
   clear K T Q;cbv;refine⟨((_,_,_),_,_,_,_,_),by constructor<;>cbv,a⟩
 intro g h5 a;clear X p4 rY ag H j e2 e3 e4 p3 l3 l4 w3 w4 z4 p1 l1 w1;rw[K]at a;obtain⟨l,s1,s2,on,s3,H,j,x,d,o,p3,l3,w3⟩:=a;obtain⟨⟨n,P,u⟩,D,jn,E,Z,F⟩:=g;have d:Sl 267 eI h5 (.slice n P u) l:=d;have o:Sl 317 fx h5 (.slice E Z F) on:=o;have j:cZh s1=(D,s2):=j;have x:bJd s2=((jn,on),s3):=x;clear K;cbv;refine RU p3 (λh6 wb wn wc wh O e4 z4 p4 l4 B w4=>?_);have X:=d.mono (p3.lt l4 (tys:=267::eI.tys) (by decide));have SA:=o.mono (p3.lt l4 (tys:=317::fx.tys) (by decide));have rY:=l3.trans l4;have ag:O.ws.length<=s.ws.length:=by omega
 clear d o;cbv;refine Dw.go (G:=hQk) (λ_=>[]) (λg=>[(3,[.int .i64 6,.string ⟨#[]⟩,.slice none 0 0,.int .i64 0,.bool false,.string g.1.2.1,.string g.1.2.2.1,.slice g.1.2.2.2.1 g.1.2.2.2.2.1 g.1.2.2.2.2.2,.slice none 0 0,.slice none 0 0,.slice g.1.1.1 g.1.1.2.1 g.1.1.2.2,.slice g.2.1.1 g.2.1.2.1 g.2.1.2.2,.string g.2.2,.string ⟨#[]⟩,.bool false,.int .i64 (-1),.string ⟨#[]⟩]),(2,[.int .i64 0,.string ⟨#[]⟩,.slice none 0 0,.int .i64 0,.bool false,.string ⟨#[]⟩,.string ⟨#[]⟩,.slice none 0 0,.slice none 0 0,.slice none 0 0,.slice none 0 0,.slice none 0 0,.string ⟨#[]⟩,.string ⟨#[]⟩,.bool false,.int .i64 0,.string ⟨#[]⟩])]) C3 ?_ ?_
 .cbv;refine HP p4 (aM [103,114,111,117,112]) (λh7 t f e5 N l5 Cf bc=>?_);cases t with
  |false=>
   obtain⟨rfl,rfl⟩:=bc rfl;have a:C3 (((n,P,u),D,jn,E,Z,F),(wb,wn,wc),⟨#[]⟩) h7:=by rw[T];exact⟨l,s1,s2,on,s3,wh,f,f,H,j,x,e4,by unfold dQo;rw[e5];rfl,X,SA,B,N,rY,ag⟩
   clear T Q;cbv;refine⟨(((_,_,_),_,_,_,_,_),(_,_,_),_),by constructor<;>cbv,a⟩
  |true=>
   have Cf:=Cf rfl;cbv;intro n8 h8 g8 e8;refine nH N g8 [(aM [98,121])] e8 rfl (by decide) (λh9 s9 e9 p9 l9 w9=>?_);cbv;refine WR p9 (λfL gr Hh kV J fU bg cA=>?_);have lx:=(l5.trans l9).trans fU;have a:C3 (((n,P,u),D,jn,E,Z,F),(wb,wn,wc),gr) fL:=by rw[T];exact⟨l,s1,s2,on,s3,wh,O,Hh,H,j,x,e4,by unfold dQo;rw[e5];simp only[e9,kV],X.mono (p4.lt lx (tys:=267::eI.tys) (by decide)),SA.mono (p4.lt lx (tys:=317::fx.tys) (by decide)),B.mono (p4.lt lx (tys:=317::fx.tys) (by decide)),J,rY.trans lx,by omega⟩
   clear T Q;cbv;refine⟨(((_,_,_),_,_,_,_,_),(_,_,_),_),by constructor<;>cbv,a⟩
 intro g h7 a;clear X SA B p4 rY ag H j x e4 l4 w4 z4 p3 l3 w3;rw[T]at a;obtain⟨l,s1,s2,on,s3,wh,O,f,H,j,x,q4,q5,d,o,B,N,l5,w5⟩:=a;obtain⟨⟨⟨n,P,u⟩,D,jn,E,Z,F⟩,⟨wb,wn,wc⟩,gr⟩:=g;have d:Sl 267 eI h7 (.slice n P u) l:=d;have o:Sl 317 fx h7 (.slice E Z F) on:=o;have B:Sl 317 fx h7 (.slice wb wn wc) wh:=B;have j:cZh s1=(D,s2):=j;have x:bJd s2=((jn,on),s3):=x;have q5:dQo O=(gr,f):=q5;clear T;cbv;refine Dw.go (G:=iKr) (λ_=>[]) (λg=>[(3,[.int .i64 6,.string ⟨#[]⟩,.slice none 0 0,.int .i64 0,.bool false,.string g.1.1.2.1,.string g.1.1.2.2.1,.slice g.1.1.2.2.2.1 g.1.1.2.2.2.2.1 g.1.1.2.2.2.2.2,.slice none 0 0,.slice none 0 0,.slice g.1.1.1.1 g.1.1.1.2.1 g.1.1.1.2.2,.slice g.1.2.1.1 g.1.2.1.2.1 g.1.2.1.2.2,.string g.1.2.2,.string g.2.1,.bool g.2.2,.int .i64 (-1),.string ⟨#[]⟩]),(2,[.int .i64 0,.string ⟨#[]⟩,.slice none 0 0,.int .i64 0,.bool false,.string ⟨#[]⟩,.string ⟨#[]⟩,.slice none 0 0,.slice none 0 0,.slice none 0 0,.slice none 0 0,.slice none 0 0,.string ⟨#[]⟩,.string ⟨#[]⟩,.bool false,.int .i64 0,.string ⟨#[]⟩])]) C4 ?_ ?_
 .cbv;refine HP N (aM [111,114,100,101,114]) (λh8 t s6 e6 p6 l6 SN cl=>?_);cases t with
  |false=>
   obtain⟨rfl,rfl⟩:=cl rfl;have a:C4 ((((n,P,u),D,jn,E,Z,F),(wb,wn,wc),gr),⟨#[]⟩,false) h8:=by rw[Q];exact⟨l,s1,s2,on,s3,wh,O,s6,s6,H,j,x,q4,q5,by unfold eJc;rw[e6];rfl,d,o,B,p6,l5,w5⟩
   clear Q;cbv;refine⟨((((_,_,_),_,_,_,_,_),(_,_,_),_),_,_),by constructor<;>cbv,a⟩
  |true=>
   have SN:=SN rfl;cbv;intro n9 h9 g9 e9;refine nH p6 g9 [(aM [98,121])] e9 rfl (by decide) (λfL Hh kV J fU bg=>?_);cbv;refine WR J (λlZ od Ye rf bt oU cx cy=>?_);cbv;refine HP bt (aM [100,101,115,99]) (λCI ds bd JH bF ko bz ch=>?_);have lx:=((l6.trans fU).trans oU).trans ko;have cz:bd.ws.length<=Ye.ws.length:=by
    cases ds with
    |true=>exact mZp (bz rfl)
    |false=>rw[(ch rfl).1];exact mQD _
   have a:C4 ((((n,P,u),D,jn,E,Z,F),(wb,wn,wc),gr),od,ds) CI:=by rw[Q];exact⟨l,s1,s2,on,s3,wh,O,f,bd,H,j,x,q4,q5,by unfold eJc;rw[e6];simp only[kV,rf,JH],d.mono (N.lt lx (tys:=267::eI.tys) (by decide)),o.mono (N.lt lx (tys:=317::fx.tys) (by decide)),B.mono (N.lt lx (tys:=317::fx.tys) (by decide)),bF,l5.trans lx,by omega⟩
   clear Q;cbv;refine⟨((((_,_,_),_,_,_,_,_),(_,_,_),_),_,_),by constructor<;>cbv,a⟩
 intro g h8 a;clear d o B N l5 w5 H j x q4 q5;rw[Q]at a;obtain⟨l,s1,s2,on,s3,wh,O,f,s6,H,j,x,q4,q5,q6,d,o,B,p6,l6,w6⟩:=a;obtain⟨⟨⟨⟨n,P,u⟩,D,jn,E,Z,F⟩,⟨wb,wn,wc⟩,gr⟩,od,ds⟩:=g;have d:Sl 267 eI h8 (.slice n P u) l:=d;have o:Sl 317 fx h8 (.slice E Z F) on:=o;have B:Sl 317 fx h8 (.slice wb wn wc) wh:=B;have j:cZh s1=(D,s2):=j;have x:bJd s2=((jn,on),s3):=x;have q5:dQo O=(gr,f):=q5;have q6:eJc f=((od,ds),s6):=q6;clear Q;have af:∀h' lm s7,eJb s6=(lm,s7)->PT h' c s7->vq c h8 h'->s7.ws.length<=s6.ws.length->k (iKN 6 ⟨#[]⟩ none 0 0 0 false D jn E Z F none 0 0 none 0 0 n P u wb wn wc gr od ds lm ⟨#[]⟩) h':=λh' lm s7 e p l w=>
  hk h' _ s7 _ (ZF H j x q4 q5 q6 e) p (l6.trans l) ⟨none,0,0,E,Z,F,none,0,0,none,0,0,n,P,u,wb,wn,wc,rfl,Sl.nil,o.mono (p6.lt l (tys:=317::fx.tys) (by decide)),Sl.nil,Sl.nil,d.mono (p6.lt l (tys:=267::eI.tys) (by decide)),B.mono (p6.lt l (tys:=317::fx.tys) (by decide))⟩ (by omega)
 clear hk d o B;cbv;refine HP p6 (aM [108,105,109,105,116]) (λh9 t s7 e7 p7 l7 bf ck=>?_);cases t with
 |false=>have af:=af h9 (-1) s7 (by unfold eJb;rw[e7]) p7 l7 (by rw[(ck rfl).1];exact mQD _);cbv;exact af
 |true=>
  have bf:=bf rfl;refine p7.out.elim (λbr cb cw Ux cu cv at_ i all w r g bj hz hw lM hr hi cr qe=>?_);have cJ:br.isSome=true/\0<=at_/\at_<(cb:Int):=⟨bj.aT,hz.ix hi⟩;have cN:=hz.eq;have cZ:=hz.succ (A:=A);obtain⟨wk,wN,wS⟩:=w;have f1:A .aI .neq wk 2=decide (wk≠2):=aC A ..;have h7:eJb s6=if wk=2 then(wN,({ s7 with ws:=r }:PS))else(-1,s7.fail 6):=by unfold eJb;rw[e7];simp only[lM]
  clear qe;cbv;rw[ai A];refine mQw g ?_;cbv;rw[ai A];refine mQw g ?_;cbv;refine⟨cJ,?_⟩;cbv;refine bj.load hw cN (λcs ay=>?_);have ay:cs=[.int .i64 wk,.int .i64 wN,.string wS]:=ay;subst ay;cbv;rw[f1];by_cases sJ:wk=2
  .rw[if_pos sJ]at h7;rw[mQv (by simpa using sJ)];cbv;rw[ai A];refine mQw g ?_;cbv;rw[ai A];refine ja g (by simp) (λfL kV=>?_);have J:=p7.out.step lM (by show wk≠0;omega) g hz cZ kV;have af:=af fL wN _ h7 J.pt (l7.trans (show vq c h9 fL from J.le)) (by have:=congrArg List.length lM;rw[mQM]at this;show r.length<=_;omega);cbv;exact af
  rw[if_neg sJ]at h7;rw[mQu sJ];cbv;refine WE p7 6 (λfL J fU=>?_);have af:=af fL (-1) _ h7 J (l7.trans fU) (by rw[PS.CT];omega);cbv;exact af
theorem py(a b:By):aM a++aM b=aM (a++b):=by apply ByteArray.ext;rw[mKk];show a.toArray++b.toArray=(a++b).toArray;simp
theorem ep(a:By):(aM a).size=a.length:=by show a.toArray.size=_;simp
theorem GF(c:UInt8)(r a:By):iH (c::r) a=match decide (c.toNat=39)with
 |false=>iH r (a++[c])
 |true=>match r with
  | []=>if a.length>60 then(([],[]),5)else((a,[]),0)
  |d::b=>match decide (d.toNat=39)with
   |true=>iH b (a++[39])
   |false=>if a.length>60 then(([],[]),5)else((a,d::b),0):=by rw[iH.eq_def];rfl
theorem bJu{s:ByteArray}(hs:s.size<=600){t:By}(q:Av s i t)(hz:aS z i)
 (x:∀v z' e rest,iH t []=((v,rest),e)->(e=0->∃j,aS z' j/\Av s j rest)->k (.tuple #[.string (aM v),.int .i64 z',.int .i64 e]) h):
 Ct 190 [.string s,.int .i64 z] h k:=by
 obtain⟨A,E⟩:=Ar.ex;have Cv:aS (A .jO s) s.size:=⟨by rw[E.jO]⟩;obtain⟨I,Y⟩:∃I:Nat->Int×ByteArray->ad->Prop,∀m g h',I m g h'=∃j C a,aS g.1 j/\Av s j C/\m=C.length/\g.2=aM a/\a.length<=j/\iH C a=iH t []/\h'=h:=⟨_,λ_ _ _=>rfl⟩;have J:I t.length (z,⟨#[]⟩) h:=by rw[Y];exact⟨i,t,[],hz,q,rfl,rfl,mQC _,rfl,rfl⟩
 refine mQF gXb A Tryz.func190 ?_;cbv;refine aX.go (G:=Int×ByteArray) (λg=>[(1,.v (.int .i64 g.1)),(7,.v (.string g.2))]) (λ_=>[]) (λm g h'=>I m g h') t.length (z,⟨#[]⟩) (by constructor<;>cbv) J ?_
 intro m g h' hI;rw[Y]at hI;cbv;obtain⟨j,C,a,u,H,hm,F,ab,f,rfl⟩:=hI;obtain⟨z,out⟩:=g;have u:aS z j:=u;have F:out=aM a:=F;have S:out.size=a.length:=by rw[F,ep]
 have hl:=H.len;have f1:A .aI .lss z (A .jO s)=decide (j<s.size):=u.iJ Cv;rw[f1];cases C with
 |nil=>
  have P:¬j<s.size:=by have:([]:By).length=0:=rfl;omega
  have N:=x [] 0 6 [] (by rw[<-f];rfl) (λe=>absurd e (by decide));have N:k (.tuple #[.string ⟨#[]⟩,.int .i64 0,.int .i64 6]) h':=N;rw[mQv P];cbv;exact N
 |cons c r=>
  have tW:(c::r).length=r.length+1:=rfl;have P:j<s.size:=by omega
  have cJ:0<=z/\z<(s.size:Int):=u.ix P;obtain⟨b,hb⟩:∃b,A .byte s z=b:=⟨_,rfl⟩;have yW:b=(c.toNat:Int):=by rw[<-hb];exact H.byte u
  have f2:A .aI .neq b 39= !decide (c.toNat=39):=by
   rw[aC A,yW];by_cases h:c.toNat=39
   .simp[h]
   have:(c.toNat:Int)≠39:=by omega
   simp[h,this]
  have Z:=u.succ (A:=A);have iV:r.length<m:=by rw[hm];exact mZH _
  have B:=H.next;have tE:=GF c r a;rw[tE]at f;clear tE;rw[mQu P];cbv;refine⟨cJ,?_⟩;cbv;rw[hb,f2];clear f2;generalize decide (c.toNat=39)=u1 at *;cases u1 with
  |false=>
   replace f:iH r (a++[c])=iH t []:=f;have R:A .sub s z (A .bB .add .i64 z 1)=aM [c]:=H.sub u (n:=1) Z;have TV:0<=A .bB .add .i64 z 1/\A .bB .add .i64 z 1<=(s.size:Int)/\0<=z/\z<=A .bB .add .i64 z 1:=by have h1:=Z.eq;have h2:=u.eq;omega
   have T:((out.size+(aM [c]).size:Nat):Int)<=2^62:=by rw[ep];show((out.size+1:Nat):Int)<=_;omega
   obtain⟨p,L⟩:∃p,A .bB .add .i64 z 1=p:=⟨_,rfl⟩;rw[L]at R TV Z;obtain⟨K,KF⟩:∃K,aM [c]=K:=⟨_,rfl⟩;have Q:I r.length (p,A .cat out K) h':=by rw[Y];refine⟨j+1,r,a++[c],Z,B,rfl,?_,by rw[mQy,mQG];omega,f,rfl⟩;show A .cat out K=_;rw[<-KF,E.cat,F];exact py _ _
   rw[KF]at R T;clear Y J x f;cbv;rw[L];refine⟨TV,?_⟩;cbv;rw[R];refine⟨T,?_⟩;cbv;rw[L];refine⟨r.length,(_,_),iV,by constructor<;>cbv,Q⟩
  |true=>
   obtain⟨p,L⟩:∃p,A .bB .add .i64 z 1=p:=⟨_,rfl⟩;rw[L]at Z;have y:A .aI .lss p (A .jO s)=decide (j+1<s.size):=Z.iJ Cv;have f4:A .aI .gtr (A .jO out) 60=decide (a.length>60):=by rw[bO A,E.jO];show decide ((out.size:Int)>60)=_;rw[decide_eq_decide,S];omega
   have o:(if a.length>60 then((([]:By),([]:By)),(5:Int))else((a,r),0))=iH t []->if a.length>60 then k (.tuple #[.string ⟨#[]⟩,.int .i64 0,.int .i64 5]) h' else k (.tuple #[.string out,.int .i64 p,.int .i64 0]) h':=λe=>by
    by_cases l:a.length>60
    .rw[if_pos l]at e |-;exact x [] 0 5 [] e.symm (λe=>absurd e (by decide))
    rw[if_neg l]at e |-;rw[F];exact x a p 0 r e.symm (λ_=>⟨j+1,Z,B⟩)
   have ag:=B.len;cases r with
   |nil=>
    have D:¬j+1<s.size:=by have:([]:By).length=0:=rfl;omega
    have o:=o f;clear Y J x f;rw[mQv D]at y;cbv;rw[L,y];cbv;rw[f4];by_cases l:a.length>60
    .rw[if_pos l]at o;rw[mQu l];cbv;exact o
    rw[if_neg l]at o;rw[mQv l];cbv;rw[L];exact o
   |cons d w=>
    have mF:(d::w).length=w.length+1:=rfl;have D:j+1<s.size:=by omega
    have sK:0<=p/\p<(s.size:Int):=Z.ix D;obtain⟨b2,W⟩:∃b,A .byte s p=b:=⟨_,rfl⟩;have X:b2=(d.toNat:Int):=by rw[<-W];exact B.byte Z
    have f5:A .aI .eql b2 39=decide (d.toNat=39):=by rw[aA A,decide_eq_decide,X];omega
    replace f:(match decide (d.toNat=39)with
     |true=>iH w (a++[39])
     |false=>if a.length>60 then((([]:By),([]:By)),(5:Int))else((a,d::w),0))=iH t []:=f
    generalize decide (d.toNat=39)=u2 at *;rw[mQu D]at y;cases u2 with
    |true=>
     replace f:iH w (a++[39])=iH t []:=f;have O:=B.next;obtain⟨M,ui⟩:∃M,A .bB .add .i64 z 2=M:=⟨_,rfl⟩;have V:aS M (j+1+1):=⟨by rw[<-ui,tI A _ _ (by have:=u.eq;omega),u.eq];omega⟩;have T:((out.size+(aM [39]).size:Nat):Int)<=2^62:=by rw[ep];show((out.size+1:Nat):Int)<=_;omega
     have Q:I w.length (M,A .cat out ⟨#[39]⟩) h':=by rw[Y];refine⟨j+1+1,w,a++[39],V,O,rfl,?_,by rw[mQy,mQG];omega,f,rfl⟩;show A .cat out (aM [39])=_;rw[E.cat,F];exact py _ _
     have U:w.length<m:=by omega
     clear Y J x f o;cbv;rw[L,y];cbv;rw[L];refine⟨sK,?_⟩;cbv;rw[W,f5];cbv;refine⟨T,?_⟩;cbv;rw[ui];refine⟨w.length,(_,_),U,by constructor<;>cbv,Q⟩
    |false=>
     have o:=o f;clear Y J x f;cbv;rw[L,y];cbv;rw[L];refine⟨sK,?_⟩;cbv;rw[W,f5];cbv;rw[f4];by_cases l:a.length>60
     .rw[if_pos l]at o;rw[mQu l];cbv;exact o
     rw[if_neg l]at o;rw[mQv l];cbv;rw[L];exact o
theorem VH{a b:By}(h:aM a=aM b):a=b:=by have c:=congrArg (λs:ByteArray=>s.data.toList) h;simpa[aM]using c
theorem eJy(c:UInt8)(n:Nat)(b:n<256):decide (aM [c]=aM [UInt8.ofNat n])=decide (c.toNat=n):=by
 rw[decide_eq_decide];constructor
 .intro h;have a:=VH h;simp only[List.cons.injEq,and_true]at a;rw[a,mZC];omega
 intro h;have:c=UInt8.ofNat n:=by apply mZg.1;rw[h,mZC];omega
 rw[this]
theorem Sb(c d:UInt8)(n m:Nat)(f:n<256)(b:m<256):decide (aM [c,d]=aM [UInt8.ofNat n,UInt8.ofNat m])=(decide (c.toNat=n)&&decide (d.toNat=m)):=by
 have e:∀(x:UInt8) (k:Nat),k<256->(x=UInt8.ofNat k↔x.toNat=k):=λx k i=>by
  constructor
  .intro h;rw[h,mZC];omega
  intro h;apply mZg.1;rw[h,mZC];omega
 rw[<-Bool.decide_and,decide_eq_decide];constructor
 .intro h;have a:=VH h;simp only[List.cons.injEq,and_true]at a;exact⟨(e c n f).1 a.1,(e d m b).1 a.2⟩
 rintro⟨a,g⟩;rw[(e c n f).2 a,(e d m b).2 g]
theorem bJY{s:ByteArray}(hs:s.size<=600)(q:Av s i (c::r))(y:aS z i)
 (p:k (.string (aM ((c::r).take (mf (c::r))))) h):
 Ct 191 [.string s,.int .i64 z] h k:=by
 obtain⟨A,hA⟩:=Ar.ex;have Cv:aS (A .jO s) s.size:=⟨by rw[hA.jO]⟩;have hl:=q.len;rw[mQM]at hl;obtain⟨w,O⟩:∃w,A .bB .add .i64 z 1=w:=⟨_,rfl⟩;have lG:aS w (i+1):=by rw[<-O];exact y.succ (A:=A)
 have f1:A .aI .lss w (A .jO s)=decide (i+1<s.size):=lG.iJ Cv;have K:A .sub s z w=aM [c]:=q.sub y (n:=1) lG;have rQ:0<=w/\w<=(s.size:Int)/\0<=z/\z<=w:=by have h1:=lG.eq;have t:=y.eq;omega
 have F:∀n,n<256->decide (aM [c]=aM [UInt8.ofNat n])=decide (c.toNat=n):=λn hn=>eJy c n hn;have B:A .iQ .eql (aM [c]) ⟨#[40]⟩=decide (c.toNat=40):=by rw[cS A];exact F 40 (by decide)
 have x:A .iQ .eql (aM [c]) ⟨#[41]⟩=decide (c.toNat=41):=by rw[cS A];exact F 41 (by decide)
 have C:A .iQ .eql (aM [c]) ⟨#[44]⟩=decide (c.toNat=44):=by rw[cS A];exact F 44 (by decide)
 have V:A .iQ .eql (aM [c]) ⟨#[46]⟩=decide (c.toNat=46):=by rw[cS A];exact F 46 (by decide)
 have D:A .iQ .eql (aM [c]) ⟨#[42]⟩=decide (c.toNat=42):=by rw[cS A];exact F 42 (by decide)
 have T:A .iQ .eql (aM [c]) ⟨#[61]⟩=decide (c.toNat=61):=by rw[cS A];exact F 61 (by decide)
 have U:A .iQ .eql (aM [c]) ⟨#[60]⟩=decide (c.toNat=60):=by rw[cS A];exact F 60 (by decide)
 have S:A .iQ .eql (aM [c]) ⟨#[62]⟩=decide (c.toNat=62):=by rw[cS A];exact F 62 (by decide)
 have Y:A .iQ .eql (aM [c]) ⟨#[43]⟩=decide (c.toNat=43):=by rw[cS A];exact F 43 (by decide)
 have W:A .iQ .eql (aM [c]) ⟨#[45]⟩=decide (c.toNat=45):=by rw[cS A];exact F 45 (by decide)
 obtain⟨E,Q⟩:∃E,aM [c]=E:=⟨_,rfl⟩;rw[Q]at K B x C V D T U S Y W;have H:(ns.contains c.toNat=true->k (.string E) h)->(ns.contains c.toNat=false->k (.string ⟨#[]⟩) h)->∀(j:Unit),True:=λ_ _ _=>trivial;refine mQF cZV A Tryz.func191 ?_;cbv;rw[O,f1];cases r with
 |nil=>
  have R:¬i+1<s.size:=by have:([]:By).length=0:=rfl;omega
  have M:ns.contains c.toNat=true->k (.string E) h:=λe=>by
   have:mf [c]=1:=by show(if ns.contains c.toNat then 1 else 0)=1;rw[e];rfl
   rw[this]at p;rw[<-Q];exact p
  have gK:ns.contains c.toNat=false->k (.string ⟨#[]⟩) h:=λe=>by
   have:mf [c]=0:=by show(if ns.contains c.toNat then 1 else 0)=0;rw[e];rfl
   rw[this]at p;exact p
  clear p H;rw[mQv R];cbv;rw[O];refine⟨rQ,?_⟩;cbv;rw[K];cbv;rw[B];by_cases I:c.toNat=40
  .have f:=M (by rw[I];decide);rw[mQu I];cbv;exact f
  rw[mQv I];cbv;rw[x];by_cases o:c.toNat=41
  .have f:=M (by rw[o];decide);rw[mQu o];cbv;exact f
  rw[mQv o];cbv;rw[C];by_cases b:c.toNat=44
  .have f:=M (by rw[b];decide);rw[mQu b];cbv;exact f
  rw[mQv b];cbv;rw[V];by_cases a:c.toNat=46
  .have f:=M (by rw[a];decide);rw[mQu a];cbv;exact f
  rw[mQv a];cbv;rw[D];by_cases m:c.toNat=42
  .have f:=M (by rw[m];decide);rw[mQu m];cbv;exact f
  rw[mQv m];cbv;rw[T];by_cases X:c.toNat=61
  .have f:=M (by rw[X];decide);rw[mQu X];cbv;exact f
  rw[mQv X];cbv;rw[U];by_cases v:c.toNat=60
  .have f:=M (by rw[v];decide);rw[mQu v];cbv;exact f
  rw[mQv v];cbv;rw[S];by_cases Z:c.toNat=62
  .have f:=M (by rw[Z];decide);rw[mQu Z];cbv;exact f
  rw[mQv Z];cbv;rw[Y];by_cases l:c.toNat=43
  .have f:=M (by rw[l];decide);rw[mQu l];cbv;exact f
  rw[mQv l];cbv;rw[W];by_cases g:c.toNat=45
  .have f:=M (by rw[g];decide);rw[mQu g];cbv;exact f
  rw[mQv g];cbv;have f:=gK (by unfold ns;simp only[mKj,mKi,mKh,mJd,beq_eq_false_iff_ne,ne_eq];exact⟨I,o,b,a,m,X,v,Z,l,g⟩);exact f
 |cons d N=>
  have R:i+1<s.size:=by have:(d::N).length=N.length+1:=rfl;omega
  obtain⟨G,dL⟩:∃G,A .bB .add .i64 z 2=G:=⟨_,rfl⟩;have mY:aS G (i+2):=⟨by rw[<-dL,tI A _ _ (by have:=y.eq;omega),y.eq];omega⟩;have L:A .sub s z G=aM [c,d]:=q.sub y (n:=2) mY;have jo:0<=G/\G<=(s.size:Int)/\0<=z/\z<=G:=by have h1:=mY.eq;have t:=y.eq;have h3:(d::N).length=N.length+1:=rfl;omega
  have t1:A .iQ .eql (aM [c,d]) ⟨#[60,62]⟩=(decide (c.toNat=60)&&decide (d.toNat=62)):=by rw[cS A];exact Sb c d 60 62 (by decide) (by decide)
  have t2:A .iQ .eql (aM [c,d]) ⟨#[60,61]⟩=(decide (c.toNat=60)&&decide (d.toNat=61)):=by rw[cS A];exact Sb c d 60 61 (by decide) (by decide)
  have t3:A .iQ .eql (aM [c,d]) ⟨#[62,61]⟩=(decide (c.toNat=62)&&decide (d.toNat=61)):=by rw[cS A];exact Sb c d 62 61 (by decide) (by decide)
  have t:Jk c d=((decide (c.toNat=60)&&decide (d.toNat=62))||(decide (c.toNat=60)&&decide (d.toNat=61))||(decide (c.toNat=62)&&decide (d.toNat=61))):=rfl;have P:mf (c::d::N)=if Jk c d then 2 else if ns.contains c.toNat then 1 else 0:=rfl
  obtain⟨s2,FD⟩:∃E,aM [c,d]=E:=⟨_,rfl⟩;have J:Jk c d=true->k (.string s2) h:=λe=>by
   rw[P,e]at p;rw[<-FD];exact p
  have af:Jk c d=false->ns.contains c.toNat=true->k (.string E) h:=λe2 e=>by
   rw[P,e2,e]at p;rw[<-Q];exact p
  have aj:Jk c d=false->ns.contains c.toNat=false->k (.string ⟨#[]⟩) h:=λe2 e=>by
   rw[P,e2,e]at p;exact p
  rw[FD]at L t1 t2 t3;obtain⟨u1,ag⟩:∃u,(decide (c.toNat=60)&&decide (d.toNat=62))=u:=⟨_,rfl⟩;obtain⟨u2,PH⟩:∃u,(decide (c.toNat=60)&&decide (d.toNat=61))=u:=⟨_,rfl⟩;obtain⟨u3,ab⟩:∃u,(decide (c.toNat=62)&&decide (d.toNat=61))=u:=⟨_,rfl⟩;rw[ag]at t1 t;rw[PH]at t2 t;rw[ab]at t3 t;clear p H P;rw[mQu R];cbv;rw[dL];refine⟨jo,?_⟩;cbv;rw[L];cbv;rw[t1];cases u1 with
  |true=>have f:=J (by rw[t];rfl);cbv;exact f
  |false=>
   cbv;rw[t2];cases u2 with
   |true=>have f:=J (by rw[t];rfl);cbv;exact f
   |false=>
    cbv;rw[t3];cases u3 with
    |true=>have f:=J (by rw[t];rfl);cbv;exact f
    |false=>
     have M:=af (by rw[t];rfl);have gK:=aj (by rw[t];rfl);cbv;rw[O];refine⟨rQ,?_⟩;cbv;rw[K];cbv;rw[B];by_cases I:c.toNat=40
     .have f:=M (by rw[I];decide);rw[mQu I];cbv;exact f
     rw[mQv I];cbv;rw[x];by_cases o:c.toNat=41
     .have f:=M (by rw[o];decide);rw[mQu o];cbv;exact f
     rw[mQv o];cbv;rw[C];by_cases b:c.toNat=44
     .have f:=M (by rw[b];decide);rw[mQu b];cbv;exact f
     rw[mQv b];cbv;rw[V];by_cases a:c.toNat=46
     .have f:=M (by rw[a];decide);rw[mQu a];cbv;exact f
     rw[mQv a];cbv;rw[D];by_cases m:c.toNat=42
     .have f:=M (by rw[m];decide);rw[mQu m];cbv;exact f
     rw[mQv m];cbv;rw[T];by_cases X:c.toNat=61
     .have f:=M (by rw[X];decide);rw[mQu X];cbv;exact f
     rw[mQv X];cbv;rw[U];by_cases v:c.toNat=60
     .have f:=M (by rw[v];decide);rw[mQu v];cbv;exact f
     rw[mQv v];cbv;rw[S];by_cases Z:c.toNat=62
     .have f:=M (by rw[Z];decide);rw[mQu Z];cbv;exact f
     rw[mQv Z];cbv;rw[Y];by_cases l:c.toNat=43
     .have f:=M (by rw[l];decide);rw[mQu l];cbv;exact f
     rw[mQv l];cbv;rw[W];by_cases g:c.toNat=45
     .have f:=M (by rw[g];decide);rw[mQu g];cbv;exact f
     rw[mQv g];cbv;have f:=gK (by unfold ns;simp only[mKj,mKi,mKh,mJd,beq_eq_false_iff_ne,ne_eq];exact⟨I,o,b,a,m,X,v,Z,l,g⟩);exact f
theorem OW:∀(t:By) (n v:Int) (rest:By),nG t n=((v,rest),0)->rest.length<=t.length
 | [],n,v,rest,h=>by cases h;exact mQD _
 |c::r,n,v,rest,h=>by
  have a:(match fq c with
   |true=>if n>(9223372036854775807-((c.toNat:Int)-48)) / 10 then((0,[]),11)else nG r (10*n+((c.toNat:Int)-48))
   |false=>((n,c::r),0))=((v,rest),(0:Int)):=h
  cases hd:fq c with
  |false=>rw[hd]at a;cases a;exact mQD _
  |true=>
   rw[hd]at a;replace a:(if n>(9223372036854775807-((c.toNat:Int)-48)) / 10 then((0,[]),11)else nG r (10*n+((c.toNat:Int)-48)))=((v,rest),(0:Int)):=a;split at a
   .cases a
   have:=OW r _ _ _ a;rw[mQM];omega
theorem Yp{n v:Int}{rest:By}(hd:fq c=true)(h:nG (c::r) n=((v,rest),0)):rest.length<=r.length:=by
 have a:(match fq c with
  |true=>if n>(9223372036854775807-((c.toNat:Int)-48)) / 10 then((0,[]),11)else nG r (10*n+((c.toNat:Int)-48))
  |false=>((n,c::r),0))=((v,rest),(0:Int)):=h
 rw[hd]at a;replace a:(if n>(9223372036854775807-((c.toNat:Int)-48)) / 10 then((0,[]),11)else nG r (10*n+((c.toNat:Int)-48)))=((v,rest),(0:Int)):=a;split at a
 .cases a
 exact OW r _ _ _ a
theorem DM:∀(m:Nat) (t acc v rest:By),t.length<=m->iH t acc=((v,rest),0)->rest.length<=t.length
 |_,[],acc,v,rest,_,h=>by cases h
 |0,c::r,acc,v,rest,hm,h=>by rw[mQM]at hm;omega
 |m+1,c::r,acc,v,rest,hm,h=>by
  rw[mQM]at hm |-;rw[GF]at h;cases b:decide (c.toNat=39)with
  |false=>rw[b]at h;have:=DM m r _ v rest (by omega) h;omega
  |true=>
   rw[b]at h;cases r with
   |nil=>
    replace h:(if acc.length>60 then((([]:By),([]:By)),(5:Int))else((acc,[]),0))=((v,rest),0):=h;split at h
    .cases h
    cases h;exact mQC _
   |cons d a=>
    replace h:(match decide (d.toNat=39)with
     |true=>iH a (acc++[39])
     |false=>if acc.length>60 then((([]:By),([]:By)),(5:Int))else((acc,d::a),0))=((v,rest),0):=h
    rw[mQM]at hm |-;cases hd:decide (d.toNat=39)with
    |true=>rw[hd]at h;have:=DM m a _ v rest (by omega) h;omega
    |false=>
     rw[hd]at h;replace h:(if acc.length>60 then((([]:By),([]:By)),(5:Int))else((acc,d::a),0))=((v,rest),0):=h;split at h
     .cases h
     cases h;rw[mQM];omega
theorem Pf(h:isLet c=true):1<=eU (c::r):=by
 show 1<=(match uN c with|true=>eU r+1|false=>0);have:uN c=true:=by unfold uN;rw[h];rfl
 rw[this];exact Nat.succ_le_succ (mQC _)
theorem So(c:UInt8)(r:By):mf (c::r)<=(c::r).length:=by
 cases r with
 |nil=>show(if ns.contains c.toNat then 1 else 0)<=1;split<;>omega
 |cons d a=>
  show(if Jk c d then 2 else if ns.contains c.toNat then 1 else 0)<=a.length+1+1;split
  .omega
  split<;>omega
theorem bKC{s:ByteArray}(B:s.size<=600)(q:Av s i (c::r))(g:aS z i)
 (u:∀w I e rest,ll c r=((w,rest),e)->(e=0->∃j,aS I j/\Av s j rest/\rest.length<=r.length)->k (.tuple #[.agg #[.int .i64 w.k,.int .i64 w.n,.string w.s],.int .i64 I,.int .i64 e]) h):
 Ct 89 [.string s,.int .i64 z] h k:=by
 obtain⟨A,P⟩:=Ar.ex;have Q:=q.len;rw[mQM]at Q;have O:0<=z/\z<(s.size:Int):=g.ix (by omega);obtain⟨b,G⟩:∃b,A .byte s z=b:=⟨_,rfl⟩;have W:b=(c.toNat:Int):=by rw[<-G];exact q.byte g
 have o:A .aI .eql b 39=decide (c.toNat=39):=by rw[aA A,decide_eq_decide,W];omega
 have Z:=g.succ (A:=A);have l:ll c r=match isLet c with
  |true=>((⟨1,0,aM ((c::r).take (eU (c::r)))⟩,(c::r).drop (eU (c::r))),0)
  |false=>match fq c with
   |true=>match nG (c::r) 0 with
    | (p,e)=>((⟨2,p.1,aM []⟩,p.2),e)
   |false=>match decide (c.toNat=39)with
    |true=>match iH r []with
     | (p,e)=>((⟨3,0,aM p.1⟩,p.2),e)
    |false=>match mf (c::r)with
     |0=>((⟨0,0,aM []⟩,[]),6)
     |n+1=>((Gw ((c::r).take (n+1)),(c::r).drop (n+1)),0):=rfl
 have K:isLet c=true->1<=eU (c::r):=Pf;have M:∀v rest,fq c=true->nG (c::r) 0=((v,rest),0)->rest.length<=r.length:=λv rest hd h=>Yp hd h;have R:=q.next;refine mQF jJY A Tryz.func89 ?_;cbv;refine⟨O,?_⟩;cbv;rw[G];refine VO W ?_;generalize isLet c=S at *;cases S with
 |true=>
  have K:=K rfl;have D:=HA (c::r);cbv;refine bKE B q g (λa L=>?_);have E:A .sub s z a=aM ((c::r).take (eU (c::r))):=q.sub g L;obtain⟨m,F⟩:∃m,aM ((c::r).take (eU (c::r)))=m:=⟨_,rfl⟩;rw[mQM]at D;have T:0<=a/\a<=(s.size:Int)/\0<=z/\z<=a:=by have x:=L.eq;have y:=g.eq;omega
  have f:=u ⟨1,0,aM ((c::r).take (eU (c::r)))⟩ a 0 _ l (λ_=>⟨_,L,q.dQe (by rw[mQM];omega),by rw[mXg,mQM];omega⟩);rw[F]at E f;cbv;refine⟨T,?_⟩;cbv;rw[E];exact f
 |false=>
  replace l:ll c r=match fq c with
   |true=>match nG (c::r) 0 with
    | (p,e)=>((⟨2,p.1,aM []⟩,p.2),e)
   |false=>match decide (c.toNat=39)with
    |true=>match iH r []with
     | (p,e)=>((⟨3,0,aM p.1⟩,p.2),e)
    |false=>match mf (c::r)with
     |0=>((⟨0,0,aM []⟩,[]),6)
     |n+1=>((Gw ((c::r).take (n+1)),(c::r).drop (n+1)),0):=l
  cbv;refine Uz W ?_;generalize fq c=U at *;cases U with
  |true=>
   replace l:ll c r=match nG (c::r) 0 with
    | (p,e)=>((⟨2,p.1,aM []⟩,p.2),e):=l
   cbv;refine dZA B q g (λv a e rest t L=>?_);rw[t]at l;have f:=u ⟨2,v,aM []⟩ a e rest l (λh0=>by
    obtain⟨j,x,y⟩:=L h0;subst h0;exact⟨j,x,y,M v rest rfl t⟩)
   cbv;exact f
  |false=>
   replace l:ll c r=match decide (c.toNat=39)with
    |true=>match iH r []with
     | (p,e)=>((⟨3,0,aM p.1⟩,p.2),e)
    |false=>match mf (c::r)with
     |0=>((⟨0,0,aM []⟩,[]),6)
     |n+1=>((Gw ((c::r).take (n+1)),(c::r).drop (n+1)),0):=l
   cbv;rw[o];clear o;generalize decide (c.toNat=39)=u3 at *;cases u3 with
   |true=>
    replace l:ll c r=match iH r []with
     | (p,e)=>((⟨3,0,aM p.1⟩,p.2),e):=l
    cbv;refine bJu B R Z (λv a e rest t L=>?_);rw[t]at l;have f:=u ⟨3,0,aM v⟩ a e rest l (λh0=>by
     obtain⟨j,x,y⟩:=L h0;subst h0;exact⟨j,x,y,DM _ r [] v rest (mQD _) t⟩)
    obtain⟨H,J⟩:∃H,aM v=H:=⟨_,rfl⟩;rw[J]at f |-;cbv;exact f
   |false=>
    replace l:ll c r=match mf (c::r)with
     |0=>((⟨0,0,aM []⟩,[]),6)
     |n+1=>((Gw ((c::r).take (n+1)),(c::r).drop (n+1)),0):=l
    have V:=So c r;cbv;refine bJY B q g ?_;generalize mf (c::r)=sl at *;cases sl with
    |zero=>
     have C:A .iQ .eql ⟨#[]⟩ ⟨#[]⟩=true:=by rw[cS A];exact mQu rfl
     have f:=u ⟨0,0,aM []⟩ 0 6 [] l (λh=>absurd h (by decide));cbv;rw[C];cbv;exact f
    |succ n=>
     replace l:ll c r=((Gw ((c::r).take (n+1)),(c::r).drop (n+1)),0):=l;rw[mQM]at V;have d:(aM ((c::r).take (n+1))).size=n+1:=by rw[ep,mQK,mQM];omega
     obtain⟨m,F⟩:∃m,aM ((c::r).take (n+1))=m:=⟨_,rfl⟩;rw[F]at d |-;have C:A .iQ .eql m ⟨#[]⟩=false:=by rw[cS A];refine mQv (λe=>?_);rw[e]at d;have:(⟨#[]⟩:ByteArray).size=0:=rfl;omega
     have N:aS (A .jO m) (n+1):=⟨by rw[P.jO];show(m.size:Int)=_;rw[d]⟩;obtain⟨a,L⟩:∃a,A .bB .add .i64 z (A .jO m)=a:=⟨_,rfl⟩;have Y:aS a (i+(n+1)):=by rw[<-L];exact g.add N (by omega)
     have f:=u (Gw ((c::r).take (n+1))) a 0 _ l (λ_=>⟨_,Y,q.dQe (by rw[mQM];omega),by rw[mXg,mQM];omega⟩);have f:k (.tuple #[.agg #[.int .i64 4,.int .i64 0,.string (aM ((c::r).take (n+1)))],.int .i64 a,.int .i64 0]) h:=f;rw[F]at f;cbv;rw[C];cbv;rw[L];exact f
theorem YA{k:Nat}{l:List Wd}:nK (k+1) (c::r) l=match Ck c with
 |true=>nK k r l
 |false=>match ll c r with
  | (p,e)=>if e=0 then nK k p.2 (l++[p.1])else([],e):=rfl
theorem aQO{s:ByteArray}
 (y:∀h' b n c V e,iq s=(V,e)->Le h h'->(e=0->JK V/\Sl 105 DQ h' (.slice b n c) V/\V.length<=601)->k (.tuple #[.slice b n c,.int .i64 e]) h'):
 Ct 31 [.string s] h k:=by
 obtain⟨A,hA⟩:=Ar.ex;have Wc:A .jO s=(s.size:Int):=by rw[hA.jO]
 have Cv:aS (A .jO s) s.size:=⟨Wc⟩;have f1:A .aI .gtr (A .jO s) 600=decide (s.size>600):=by rw[bO A,Wc,decide_eq_decide];omega
 have o:iq s=if s.size>600 then([],5)else nK (s.size+1) s.data.toList []:=rfl
 refine mQF jKQ A Tryz.func31 ?_;cbv;rw[f1];by_cases S:s.size>600
 .rw[if_pos S]at o;have F:=y h none 0 0 [] 5 o (Le.refl _) (λe=>absurd e (by decide));rw[mQu S];cbv;exact F
 rw[if_neg S]at o;have hs:s.size<=600:=by omega
 obtain⟨R,hR⟩:∃R,nK (s.size+1) s.data.toList []=R:=⟨_,rfl⟩;rw[hR]at o;obtain⟨I,d⟩:∃I:Nat->Int×(Option Addr×Nat×Nat)->ad->Prop,∀m g h',I m g h'=∃j t l,aS g.1 j/\Av s j t/\cF 105 DQ h h' (.slice g.2.1 g.2.2.1 g.2.2.2) l/\l.length<=j/\Le h h'/\m=t.length/\(∃f,t.length<f/\nK f t l=R):=⟨_,λ_ _ _=>rfl⟩;have X:=Av.start s;have vN:=X.len;have J:I s.size (0,none,0,0) h:=by rw[d];exact⟨0,_,[],⟨rfl⟩,X,cF.nil,mQD _,Le.refl _,by omega,_,by omega,hR⟩
 clear hR X vN;rw[mQv S];cbv;refine aX.go (G:=Int×(Option Addr×Nat×Nat)) (λg=>[(5,.v (.int .i64 g.1)),(4,.v (.slice g.2.1 g.2.2.1 g.2.2.2))]) (λ_=>[]) (λm g h'=>I m g h') s.size (0,none,0,0) (by constructor<;>cbv) J ?_
 intro m g K hI;rw[d]at hI;cbv;obtain⟨j,t,l,x,q,C,KM,U,hm,f,ak,a⟩:=hI;obtain⟨z,ab,an,ac⟩:=g;have x:aS z j:=x;have C:cF 105 DQ h K (.slice ab an ac) l:=C;have RM:=C.sl.len;have hl:=q.len;have f2:A .aI .lss z (A .jO s)=decide (j<s.size):=x.iJ Cv;obtain⟨f,rfl⟩:∃Qx,f=Qx+1:=⟨f-1,by omega⟩;rw[f2];cases t with
 |nil=>
  have Q:¬j<s.size:=by have:([]:By).length=0:=rfl;omega
  have a:(l++[dQW],0)=R:=a;rw[<-a]at o;rw[mQv Q];clear d J a;cbv;intro P L g2 H;have M:Le K L:=by rw[H];exact Le.set g2
  have v2:Sl 105 DQ L (.slice (some ⟨P,0,none⟩) 1 1) [dQW]:=bA (s:=DQ) ((congrFun H P).trans ae) rfl;cbv;refine(C.mono (M.t _)).append v2 (by decide) rfl (by decide) (by omega) (U.trans M) (λB u v i ag N t3 k3 D=>?_);have F:=y i u B v _ 0 o N (λ_=>⟨⟨l,rfl⟩,D.sl,by rw[mQy,mQG];omega⟩);cbv;exact F
 |cons c r=>
  have tW:(c::r).length=r.length+1:=rfl;have Q:j<s.size:=by omega
  have W:0<=z/\z<(s.size:Int):=x.ix Q;obtain⟨b,T⟩:∃b,A .byte s z=b:=⟨_,rfl⟩;have yW:b=(c.toNat:Int):=by rw[<-T];exact q.byte x
  have O:A .aI .eql b 32=decide (c.toNat=32):=by rw[aA A,decide_eq_decide,yW];omega
  have g9:A .aI .eql b 9=decide (c.toNat=9):=by rw[aA A,decide_eq_decide,yW];omega
  have CO:A .aI .eql b 10=decide (c.toNat=10):=by rw[aA A,decide_eq_decide,yW];omega
  have E:Ck c=(decide (c.toNat=32)||decide (c.toNat=9)||decide (c.toNat=10)):=rfl;have cZ:=x.succ (A:=A);have hq:=q.next;rw[YA]at a;have iV:r.length<m:=by omega
  have Y:Ck c=true->I r.length (A .bB .add .i64 z 1,ab,an,ac) K:=λe=>by
   rw[d];rw[e]at a;exact⟨j+1,r,l,cZ,hq,C,by omega,U,rfl,f,by omega,a⟩
  rw[mQu Q];cbv;refine⟨W,?_⟩;cbv;rw[T,O];clear O;generalize decide (c.toNat=32)=u1 at *;cases u1 with
  |true=>
   have Y:=Y (by rw[E];rfl);clear d J y a;cbv;refine⟨r.length,(_,_,_,_),iV,by constructor<;>cbv,Y⟩
  |false=>
   cbv;refine⟨W,?_⟩;cbv;rw[T,g9];clear g9;generalize decide (c.toNat=9)=u2 at *;cases u2 with
   |true=>
    have Y:=Y (by rw[E];rfl);clear d J y a;cbv;refine⟨r.length,(_,_,_,_),iV,by constructor<;>cbv,Y⟩
   |false=>
    cbv;refine⟨W,?_⟩;cbv;rw[T,CO];clear CO;generalize decide (c.toNat=10)=u3 at *;cases u3 with
    |true=>
     have Y:=Y (by rw[E];rfl);clear d J y a;cbv;refine⟨r.length,(_,_,_,_),iV,by constructor<;>cbv,Y⟩
    |false=>
     have Z:Ck c=false:=by rw[E];rfl
     rw[Z]at a;replace a:(match ll c r with
      | (p,e)=>if e=0 then nK f p.2 (l++[p.1])else([],e))=R:=a
     clear Y E Z;cbv;refine bKC hs q x (λw z2 e rest ch dL=>?_);rw[ch]at a;replace a:(if e=0 then nK f rest (l++[w])else([],e))=R:=a;have f5:A .aI .neq e 0=decide (e≠0):=aC A ..;cbv;rw[f5];by_cases h0:e=0
     .rw[if_pos h0]at a;obtain⟨j2,mY,q2,aj⟩:=dL h0;have al:=q2.len;have Cw:rest.length<m:=by omega
      have cD:∀u B v i,cF 105 DQ h i (.slice u B v) (l++[w])->Le h i->I rest.length (z2,u,B,v) i:=λu B v i D N=>by
       rw[d];exact⟨j2,rest,_,mY,q2,D,by rw[mQy,mQG];omega,N,rfl,f,by omega,a⟩
      rw[mQv (by simpa using h0)];clear d J y a dL ch f5 f2 f1;cbv;intro P L g2 H;have M:Le K L:=by rw[H];exact Le.set g2
      have v2:Sl 105 DQ L (.slice (some ⟨P,0,none⟩) 1 1) [w]:=bA (s:=DQ) ((congrFun H P).trans ae) rfl;cbv;refine(C.mono (M.t _)).append v2 (by decide) rfl (by decide) (by omega) (U.trans M) (λB u v i ag N t3 k3 D=>?_);have jd:=cD u B v i D N;clear cD t3 k3 D;cbv;refine⟨rest.length,(_,_,_,_),Cw,by constructor<;>cbv,jd⟩
     rw[if_neg h0]at a;rw[<-a]at o;have F:=y K none 0 0 [] e o U (λh=>absurd h h0);rw[mQu h0];cbv;exact F
theorem eJO{N:Nat}(u:PT h N s)(L:(s.is (aM [99,114,101,97,116,101])).1=false)
 (g:∀h' st s' v,s.stmt ao=((st,b0),s')->PT h' N s'->vq N h h'->aQG h' v st->s'.ws.length<=s.ws.length->st.kind≠1->k (.tuple #[v,.string ⟨#[]⟩]) h'):
 Ct 32 [.pointer (some ⟨N,0,none⟩)] h k:=by
 obtain⟨D,W⟩:∃D,s.stmt ao=D:=⟨_,rfl⟩;have m:=W;rw[W]at g;clear W;unfold PS.stmt at m;refine mQx jKP Tryz.func32 λA hA=>?_;cbv;refine HP u (aM [99,114,101,97,116,101]) (λf t s1 e c l b K=>?_);rw[e]at L;replace L:t=false:=L;subst L;obtain⟨j,i⟩:=K rfl;replace j:=j.symm;replace i:=i.symm;subst j i;have V:=e;clear e b K c l;cbv;refine HP u (aM [100,114,111,112]) (λf t s1 e c l b K=>?_);cases t with
 |true=>have b:=b rfl;have o:s.eQ [((aM [99,114,101,97,116,101]),1),((aM [100,114,111,112]),2),((aM [105,110,115,101,114,116]),3),((aM [117,112,100,97,116,101]),4),((aM [100,101,108,101,116,101]),5),((aM [115,101,108,101,99,116]),6),((aM [98,101,103,105,110]),7),((aM [99,111,109,109,105,116]),8),((aM [115,97,118,101,112,111,105,110,116]),10),((aM [114,111,108,108,98,97,99,107]),9)]=(some 2,s1):=(bE V).trans (iS e);rw[o]at m;replace m:((({ kind:=2,table:=((s1.cd [(aM [116,97,98,108,101])]).name ao).1 }:aJ),b0),((s1.cd [(aM [116,97,98,108,101])]).name ao).2)=D:=m;cbv;intro M r T d;refine nH c T [(aM [116,97,98,108,101])] d rfl (by decide) (λU s3 E G F w3=>?_);rw[E]at m;cbv;refine Ae G (λh4 P O S p4 Y w4 z4=>?_);rw[S]at m;have a:=λv q=>g h4 ({ kind:=2,table:=P }:aJ) O v m.symm p4 ((l.trans F).trans Y) q (by omega) (by simp);have a:=a _ ⟨none,0,0,none,0,0,none,0,0,none,0,0,none,0,0,none,0,0,rfl,Sl.nil,Sl.nil,Sl.nil,Sl.nil,Sl.nil,Sl.nil⟩;cbv;exact a
 |false=>
  obtain⟨j,i⟩:=K rfl;replace j:=j.symm;replace i:=i.symm;subst j i;have y:=e;clear e b K c l;cbv;refine HP u (aM [105,110,115,101,114,116]) (λf t s1 e c l b K=>?_);cases t with
  |true=>
   have b:=b rfl;have o:s.eQ [((aM [99,114,101,97,116,101]),1),((aM [100,114,111,112]),2),((aM [105,110,115,101,114,116]),3),((aM [117,112,100,97,116,101]),4),((aM [100,101,108,101,116,101]),5),((aM [115,101,108,101,99,116]),6),((aM [98,101,103,105,110]),7),((aM [99,111,109,109,105,116]),8),((aM [115,97,118,101,112,111,105,110,116]),10),((aM [114,111,108,108,98,97,99,107]),9)]=(some 3,s1):=(bE V).trans ((bE y).trans (iS e));rw[o]at m;replace m:(((s1.insert ao).1,b0),(s1.insert ao).2)=D:=m;cbv;refine cQe c (λr st s2 v d x w B w2=>?_);rw[d]at m;have C:(s1.insert ao).1.kind≠1:=by show(3:Int)≠1;decide
   rw[d]at C;have a:=g r st s2 v m.symm x (l.trans w) B (by omega) C;obtain⟨b1,n1,c1,b2,M,c2,b3,n3,c3,b4,n4,c4,b5,n5,c5,b6,n6,c6,rfl,-⟩:=B.out;cbv;exact a
  |false=>
   obtain⟨j,i⟩:=K rfl;replace j:=j.symm;replace i:=i.symm;subst j i;have z:=e;clear e b K c l;cbv;refine HP u (aM [117,112,100,97,116,101]) (λf t s1 e c l b K=>?_);cases t with
   |true=>
    have b:=b rfl;have o:s.eQ [((aM [99,114,101,97,116,101]),1),((aM [100,114,111,112]),2),((aM [105,110,115,101,114,116]),3),((aM [117,112,100,97,116,101]),4),((aM [100,101,108,101,116,101]),5),((aM [115,101,108,101,99,116]),6),((aM [98,101,103,105,110]),7),((aM [99,111,109,109,105,116]),8),((aM [115,97,118,101,112,111,105,110,116]),10),((aM [114,111,108,108,98,97,99,107]),9)]=(some 4,s1):=(bE V).trans ((bE y).trans ((bE z).trans (iS e)));rw[o]at m;replace m:(((s1.update ao).1,b0),(s1.update ao).2)=D:=m;cbv;refine bJp c (λr st s2 v d x w B w2=>?_);rw[d]at m;have C:(s1.update ao).1.kind≠1:=by show(4:Int)≠1;decide
    rw[d]at C;have a:=g r st s2 v m.symm x (l.trans w) B (by omega) C;obtain⟨b1,n1,c1,b2,M,c2,b3,n3,c3,b4,n4,c4,b5,n5,c5,b6,n6,c6,rfl,-⟩:=B.out;cbv;exact a
   |false=>
    obtain⟨j,i⟩:=K rfl;replace j:=j.symm;replace i:=i.symm;subst j i;have J:=e;clear e b K c l;cbv;refine HP u (aM [100,101,108,101,116,101]) (λf t s1 e c l b K=>?_);cases t with
    |true=>have b:=b rfl;have o:s.eQ [((aM [99,114,101,97,116,101]),1),((aM [100,114,111,112]),2),((aM [105,110,115,101,114,116]),3),((aM [117,112,100,97,116,101]),4),((aM [100,101,108,101,116,101]),5),((aM [115,101,108,101,99,116]),6),((aM [98,101,103,105,110]),7),((aM [99,111,109,109,105,116]),8),((aM [115,97,118,101,112,111,105,110,116]),10),((aM [114,111,108,108,98,97,99,107]),9)]=(some 5,s1):=(bE V).trans ((bE y).trans ((bE z).trans ((bE J).trans (iS e))));rw[o]at m;replace m:((({ kind:=5,table:=((s1.cd [(aM [102,114,111,109])]).name ao).1,bV:=(((s1.cd [(aM [102,114,111,109])]).name ao).2.bV ao).1 }:aJ),b0),(((s1.cd [(aM [102,114,111,109])]).name ao).2.bV ao).2)=D:=m;cbv;intro M r T d;refine nH c T [(aM [102,114,111,109])] d rfl (by decide) (λU s3 E G F w3=>?_);rw[E]at m;cbv;refine Ae G (λh4 P O S p4 Y w4 z4=>?_);rw[S]at m;cbv;refine RU p4 (λh5 wb wn wc wh s5 e5 z5 p5 l5 q5 w5=>?_);replace m:((({ kind:=5,table:=P,bV:=(O.bV ao).1 }:aJ),b0),(O.bV ao).2)=D:=m;rw[e5]at m;have a:=λv q=>g h5 ({ kind:=5,table:=P,bV:=wh }:aJ) s5 v m.symm p5 (((l.trans F).trans Y).trans l5) q (by omega) (by simp);have a:=a _ ⟨none,0,0,none,0,0,none,0,0,none,0,0,none,0,0,wb,wn,wc,rfl,Sl.nil,Sl.nil,Sl.nil,Sl.nil,Sl.nil,q5⟩;cbv;exact a
    |false=>
     obtain⟨j,i⟩:=K rfl;replace j:=j.symm;replace i:=i.symm;subst j i;have Z:=e;clear e b K c l;cbv;refine HP u (aM [115,101,108,101,99,116]) (λf t s1 e c l b K=>?_);cases t with
     |true=>
      have b:=b rfl;have o:s.eQ [((aM [99,114,101,97,116,101]),1),((aM [100,114,111,112]),2),((aM [105,110,115,101,114,116]),3),((aM [117,112,100,97,116,101]),4),((aM [100,101,108,101,116,101]),5),((aM [115,101,108,101,99,116]),6),((aM [98,101,103,105,110]),7),((aM [99,111,109,109,105,116]),8),((aM [115,97,118,101,112,111,105,110,116]),10),((aM [114,111,108,108,98,97,99,107]),9)]=(some 6,s1):=(bE V).trans ((bE y).trans ((bE z).trans ((bE J).trans ((bE Z).trans (iS e)))));rw[o]at m;replace m:(((s1.choose ao).1,b0),(s1.choose ao).2)=D:=m;cbv;refine cZg c (λr st s2 v d x w B w2=>?_);rw[d]at m;have C:(s1.choose ao).1.kind≠1:=by show(6:Int)≠1;decide
      rw[d]at C;have a:=g r st s2 v m.symm x (l.trans w) B (by omega) C;obtain⟨b1,n1,c1,b2,M,c2,b3,n3,c3,b4,n4,c4,b5,n5,c5,b6,n6,c6,rfl,-⟩:=B.out;cbv;exact a
     |false=>
      obtain⟨j,i⟩:=K rfl;replace j:=j.symm;replace i:=i.symm;subst j i;have n:=e;clear e b K c l;cbv;refine HP u (aM [98,101,103,105,110]) (λf t s1 e c l b K=>?_);cases t with
      |true=>
       have b:=b rfl;have o:s.eQ [((aM [99,114,101,97,116,101]),1),((aM [100,114,111,112]),2),((aM [105,110,115,101,114,116]),3),((aM [117,112,100,97,116,101]),4),((aM [100,101,108,101,116,101]),5),((aM [115,101,108,101,99,116]),6),((aM [98,101,103,105,110]),7),((aM [99,111,109,109,105,116]),8),((aM [115,97,118,101,112,111,105,110,116]),10),((aM [114,111,108,108,98,97,99,107]),9)]=(some 7,s1):=(bE V).trans ((bE y).trans ((bE z).trans ((bE J).trans ((bE Z).trans ((bE n).trans (iS e))))));rw[o]at m;replace m:(({ kind:=7 }:aJ),b0,s1)=(D.1.1,D.1.2,D.2):=by rw[<-m];rfl
       replace m:((({ kind:=7 }:aJ),b0),s1)=D:=by obtain⟨⟨d1,d2⟩,d3⟩:=D;cases m;rfl
       have a:=λv q=>g f ({ kind:=7 }:aJ) s1 v m.symm c l q (by omega) (by simp);have a:=a _ ⟨none,0,0,none,0,0,none,0,0,none,0,0,none,0,0,none,0,0,rfl,Sl.nil,Sl.nil,Sl.nil,Sl.nil,Sl.nil,Sl.nil⟩;cbv;exact a
      |false=>
       obtain⟨j,i⟩:=K rfl;replace j:=j.symm;replace i:=i.symm;subst j i;have H:=e;clear e b K c l;cbv;refine HP u (aM [99,111,109,109,105,116]) (λf t s1 e c l b K=>?_);cases t with
       |true=>
        have b:=b rfl;have o:s.eQ [((aM [99,114,101,97,116,101]),1),((aM [100,114,111,112]),2),((aM [105,110,115,101,114,116]),3),((aM [117,112,100,97,116,101]),4),((aM [100,101,108,101,116,101]),5),((aM [115,101,108,101,99,116]),6),((aM [98,101,103,105,110]),7),((aM [99,111,109,109,105,116]),8),((aM [115,97,118,101,112,111,105,110,116]),10),((aM [114,111,108,108,98,97,99,107]),9)]=(some 8,s1):=(bE V).trans ((bE y).trans ((bE z).trans ((bE J).trans ((bE Z).trans ((bE n).trans ((bE H).trans (iS e)))))));rw[o]at m;replace m:(({ kind:=8 }:aJ),b0,s1)=(D.1.1,D.1.2,D.2):=by rw[<-m];rfl
        replace m:((({ kind:=8 }:aJ),b0),s1)=D:=by obtain⟨⟨d1,d2⟩,d3⟩:=D;cases m;rfl
        have a:=λv q=>g f ({ kind:=8 }:aJ) s1 v m.symm c l q (by omega) (by simp);have a:=a _ ⟨none,0,0,none,0,0,none,0,0,none,0,0,none,0,0,none,0,0,rfl,Sl.nil,Sl.nil,Sl.nil,Sl.nil,Sl.nil,Sl.nil⟩;cbv;exact a
       |false=>
        obtain⟨j,i⟩:=K rfl;replace j:=j.symm;replace i:=i.symm;subst j i;have I:=e;clear e b K c l;cbv;refine HP u (aM [115,97,118,101,112,111,105,110,116]) (λf t s1 e c l b K=>?_);cases t with
        |true=>have b:=b rfl;have o:s.eQ [((aM [99,114,101,97,116,101]),1),((aM [100,114,111,112]),2),((aM [105,110,115,101,114,116]),3),((aM [117,112,100,97,116,101]),4),((aM [100,101,108,101,116,101]),5),((aM [115,101,108,101,99,116]),6),((aM [98,101,103,105,110]),7),((aM [99,111,109,109,105,116]),8),((aM [115,97,118,101,112,111,105,110,116]),10),((aM [114,111,108,108,98,97,99,107]),9)]=(some 10,s1):=(bE V).trans ((bE y).trans ((bE z).trans ((bE J).trans ((bE Z).trans ((bE n).trans ((bE H).trans ((bE I).trans (iS e))))))));rw[o]at m;replace m:((({ kind:=10,name:=(s1.name ao).1 }:aJ),b0),(s1.name ao).2)=D:=m;cbv;refine Ae c (λr nm s2 d x w w2 z2=>?_);rw[d]at m;have a:=λv q=>g r ({ kind:=10,name:=nm }:aJ) s2 v m.symm x (l.trans w) q (by omega) (by simp);have a:=a _ ⟨none,0,0,none,0,0,none,0,0,none,0,0,none,0,0,none,0,0,rfl,Sl.nil,Sl.nil,Sl.nil,Sl.nil,Sl.nil,Sl.nil⟩;cbv;exact a
        |false=>
         obtain⟨j,i⟩:=K rfl;replace j:=j.symm;replace i:=i.symm;subst j i;have Q:=e;clear e b K c l;cbv;refine HP u (aM [114,111,108,108,98,97,99,107]) (λf t s1 e c l b K=>?_);cases t with
         |true=>
          have b:=b rfl;have o:s.eQ [((aM [99,114,101,97,116,101]),1),((aM [100,114,111,112]),2),((aM [105,110,115,101,114,116]),3),((aM [117,112,100,97,116,101]),4),((aM [100,101,108,101,116,101]),5),((aM [115,101,108,101,99,116]),6),((aM [98,101,103,105,110]),7),((aM [99,111,109,109,105,116]),8),((aM [115,97,118,101,112,111,105,110,116]),10),((aM [114,111,108,108,98,97,99,107]),9)]=(some 9,s1):=(bE V).trans ((bE y).trans ((bE z).trans ((bE J).trans ((bE Z).trans ((bE n).trans ((bE H).trans ((bE I).trans ((bE Q).trans (iS e)))))))));rw[o]at m;replace m:(match s1.is (aM [116,111])with
           | (true,p)=>((({ kind:=11,name:=(p.name ao).1 }:aJ),b0),(p.name ao).2)
           | (false,p)=>((({ kind:=9 }:aJ),b0),p))=D:=m
          have X:=c;cbv;refine HP X (aM [116,111]) (λr t s2 d x w iJ R=>?_);rw[d]at m;cases t with
          |true=>have iJ:=iJ rfl;replace m:((({ kind:=11,name:=(s2.name ao).1 }:aJ),b0),(s2.name ao).2)=D:=m;cbv;refine Ae x (λU nm s3 E G F w3 z3=>?_);rw[E]at m;have a:=λv q=>g U ({ kind:=11,name:=nm }:aJ) s3 v m.symm G ((l.trans w).trans F) q (by omega) (by simp);have a:=a _ ⟨none,0,0,none,0,0,none,0,0,none,0,0,none,0,0,none,0,0,rfl,Sl.nil,Sl.nil,Sl.nil,Sl.nil,Sl.nil,Sl.nil⟩;cbv;exact a
          |false=>replace m:((({ kind:=9 }:aJ),b0),s2)=D:=m;have a:=λv q=>g r ({ kind:=9 }:aJ) s2 v m.symm x (l.trans w) q (by rw[(R rfl).1];omega) (by simp);have a:=a _ ⟨none,0,0,none,0,0,none,0,0,none,0,0,none,0,0,none,0,0,rfl,Sl.nil,Sl.nil,Sl.nil,Sl.nil,Sl.nil,Sl.nil⟩;cbv;exact a
         |false=>obtain⟨j,i⟩:=K rfl;replace j:=j.symm;replace i:=i.symm;subst j i;have JG:=e;clear e b K c l;cbv;have o:s.eQ [((aM [99,114,101,97,116,101]),1),((aM [100,114,111,112]),2),((aM [105,110,115,101,114,116]),3),((aM [117,112,100,97,116,101]),4),((aM [100,101,108,101,116,101]),5),((aM [115,101,108,101,99,116]),6),((aM [98,101,103,105,110]),7),((aM [99,111,109,109,105,116]),8),((aM [115,97,118,101,112,111,105,110,116]),10),((aM [114,111,108,108,98,97,99,107]),9)]=(none,s):=(bE V).trans ((bE y).trans ((bE z).trans ((bE J).trans ((bE Z).trans ((bE n).trans ((bE H).trans ((bE I).trans ((bE Q).trans (bE JG)))))))));rw[o]at m;replace m:((({}:aJ),b0),s.fail 6)=D:=m;refine WE u 6 (λf c l=>?_);have a:=λv q=>g f ({}:aJ) (s.fail 6) v m.symm c l q (by rw[PS.CT];exact mQD _) (by simp);have a:=a _ ⟨none,0,0,none,0,0,none,0,0,none,0,0,none,0,0,none,0,0,rfl,Sl.nil,Sl.nil,Sl.nil,Sl.nil,Sl.nil,Sl.nil⟩;cbv;exact a
def bJ(t:ByteArray):Bool:=match (iq t).1 with
 |w::_=> !(decide (w.s=aM [99,114,101,97,116,101]))
 | []=>true
theorem Pb{t:ByteArray}(h:bJ t=true){s:List Wd}(b:iq t=(s,e)):((⟨s,0,[]⟩:PS).is (aM [99,114,101,97,116,101])).1=false:=by
 unfold bJ at h;rw[b]at h;cases s with
 |nil=>rfl
 |cons w r=>
  have h:(!(decide (w.s=aM [99,114,101,97,116,101])))=true:=h;have a:w.s≠aM [99,114,101,97,116,101]:=by simpa using h
  show(if(0:Int)=0/\(w.k=1\/w.k=4)/\w.s=_ then _ else _:Bool×PS).1=false;rw[if_neg (λh=>a h.2.2)]
theorem aXG{t:ByteArray}{s r:List Wd}{st:aJ}{w:Wd}{ex:List Nd}(c:iq t=(s,0))(b:PS.stmt ao ⟨s,0,[]⟩=((st,b0),⟨w::r,e,ex⟩))(k:st.kind≠1):
 cL ao t=if e=0 then(if w.k≠0 then({},6)else(st,0))else({},e):=by
 unfold cL;simp only[c,b];by_cases h:e=0
 .subst h;by_cases a:w.k=0
  .simp[a,k]
  simp[a,k,PS.fail]
 simp[h,k]
theorem UH{t:ByteArray}(DC:bJ t=true){D:aJ×Int}(a:cL ao t=D)
 (hk:∀h' v,Le h h'->aQG h' v D.1->k (.tuple #[v,.int .i64 D.2]) h'):
 Ct 12 [.string t] h k:=by
 have P:∀h' e,Le h h'->D=({},e)->k (.tuple #[.agg #[.int .i64 0,.string ⟨#[]⟩,.slice none 0 0,.int .i64 0,.bool false,.string ⟨#[]⟩,.string ⟨#[]⟩,.slice none 0 0,.slice none 0 0,.slice none 0 0,.slice none 0 0,.slice none 0 0,.string ⟨#[]⟩,.string ⟨#[]⟩,.bool false,.int .i64 0,.string ⟨#[]⟩],.int .i64 e]) h':=λh' e l d=>by
  subst d;exact hk h' _ l ⟨none,0,0,none,0,0,none,0,0,none,0,0,none,0,0,none,0,0,rfl,Sl.nil,Sl.nil,Sl.nil,Sl.nil,Sl.nil,Sl.nil⟩
 refine mQx kQe Tryz.func12 λA hA=>?_;cbv;refine aQO (λh1 b n c ws e O W nR=>?_);have PZ:=Pb DC O;have f1:A .aI .neq e 0=decide (e≠0):=aC A ..;cbv;rw[f1];by_cases h0:e=0
 .subst h0;obtain⟨lM,qw,Jv⟩:=nR rfl;have Z:decide ((0:Int)≠0)=false:=rfl;rw[Z];cbv;intro p C B e2;have l2:Le h1 C:=by rw[e2];exact Le.set B
  have p2:PT C p ⟨ws,0,[]⟩:=by
   refine⟨⟨b,n,c,none,0,0,0,0,ws,?_,qw.mono (λb' c' e' fr hm M=>?_),⟨rfl⟩,rfl,lM,by omega,(λhh=>by cases hh),Sx.fY C p,Sx.dP C p⟩⟩
   .rw[e2];exact ae
   have s:b'≠p:=λe=>by rw[e,B]at M;cases M
   rw[Sx.cY s];exact l2 b' _ M
  cbv;refine eJO p2 PZ (λu st s3 v e3 p3 l3 q3 w3 kC=>?_);have rL:Le h u:=λj o F=>by
   have N:=W j o F;have s:j≠p:=λe=>by rw[e,B]at N;cases N
   exact l3 j o (by rw[Sx.cY s];exact l2 j o N)
  obtain⟨X,U,aW⟩:=s3;obtain⟨b1,n1,c1,b2,n2,c2,b3,n3,c3,b4,n4,c4,b5,n5,c5,b6,n6,c6,rfl,T⟩:=q3.out;refine p3.out.elim (λwb wn wc eb en ec at_ i all w r g K ui I J hr hi ak qe=>?_);have g:u p=some (.cells #[.slice wb wn wc,.int .i64 at_,.int .i64 U,.slice eb en ec] 102 (0,0)):=g;have J:X=w::r:=J;subst J;rw[aXG O e3 kC]at a;have cJ:wb.isSome=true/\0<=at_/\at_<(wn:Int):=⟨K.aT,ui.ix hi⟩;have cN:=ui.eq;obtain⟨wk,wN,wS⟩:=w;have z:A .aI .eql U 0=decide (U=0):=aA A ..;have f3:A .aI .neq wk 0=decide (wk≠0):=aC A ..;have f4:A .aI .eql st.kind 1=false:=by rw[aA A];exact mQv kC
  have H:A .aI .neq U 0=decide (U≠0):=aC A ..;have f6:A .aI .eql 6 0=false:=by rw[aA A];rfl
  have f7:A .aI .neq 6 0=true:=by rw[aC A];rfl
  have V:∀h' x,Le h h'->x≠0->(({}:aJ),x)=D->k (.tuple #[.agg #[.int .i64 0,.string ⟨#[]⟩,.slice none 0 0,.int .i64 0,.bool false,.string ⟨#[]⟩,.string ⟨#[]⟩,.slice none 0 0,.slice none 0 0,.slice none 0 0,.slice none 0 0,.slice none 0 0,.string ⟨#[]⟩,.string ⟨#[]⟩,.bool false,.int .i64 0,.string ⟨#[]⟩],.int .i64 x]) h':=λh' x l _ e=>P h' x l e.symm;have E:(st,(0:Int))=D->k (.tuple #[iKN st.kind st.sE.name b1 n1 c1 st.sE.key st.sE.only st.table st.join b2 n2 c2 b3 n3 c3 b4 n4 c4 b5 n5 c5 b6 n6 c6 st.group st.order st.desc st.eG st.name,.int .i64 0]) u:=λe=>by
   subst e;exact hk u _ rL q3
  clear P qe T;generalize st.kind=sk at *;generalize st.sE.name=an at *;generalize st.sE.key=ar at *;generalize st.sE.only=al at *;generalize st.table=ja at *;generalize st.join=aH at *;generalize st.group=aK at *;generalize st.order=au at *;generalize st.desc=aP at *;generalize st.eG=az at *;generalize st.name=aw at *;cbv;rw[ai A];refine mQw g ?_;cbv;rw[z];by_cases d:U=0
  .subst d;have YZ:decide ((0:Int)=0)=true:=rfl;have z:A .aI .eql 0 0=true:=by rw[aA A];rfl
   have H:A .aI .neq 0 0=false:=by rw[aC A];rfl
   rw[YZ];cbv;rw[ai A];refine mQw g ?_;cbv;rw[ai A];refine mQw g ?_;cbv;refine⟨cJ,?_⟩;cbv;refine K.cC I cN (o:=0) (m:=1) (by decide) (λcs G=>?_);have G:cs=[.int .i64 wk,.int .i64 wN,.string wS]:=G;subst G;cbv;rw[f3];by_cases y:wk=0
   .have a:(if(0:Int)=0 then(if wk≠0 then(({}:aJ),(6:Int))else(st,0))else({},0))=D:=a;rw[if_pos rfl,if_neg (by simpa using y)]at a;have f:=E a;clear E V;rw[mQv (by simpa using y)];cbv;rw[ai A];refine mQw g ?_;cbv;rw[z];cbv;rw[f4];cbv;rw[ai A];refine mQw g ?_;cbv;rw[H];cbv;exact f
   have a:(if(0:Int)=0 then(if wk≠0 then(({}:aJ),(6:Int))else(st,0))else({},0))=D:=a;rw[if_pos rfl,if_pos y]at a;rw[mQu y];cbv;refine WE p3 6 (λL p4 l4=>?_);have rY:Le h L:=λj o F=>by
    have N:=W j o F;have s:j≠p:=λe=>by rw[e,B]at N;cases N
    exact l4 j o (by rw[Sx.cY s];exact rL j o F)
   have f:=V L 6 rY (by decide) a;clear E V;refine p4.out.elim (λQ R S aj ab ag Y i4 aY w4 r4 q _ _ _ _ _ _ _ _=>?_);have q:L p=some (.cells #[.slice Q R S,.int .i64 Y,.int .i64 6,.slice aj ab ag] 102 (0,0)):=q;cbv;rw[ai A];refine mQw q ?_;cbv;rw[f6];cbv;rw[ai A];refine mQw q ?_;cbv;rw[f7];cbv;rw[ai A];refine mQw q ?_;cbv;refine mQw q ?_;cbv;refine⟨⟨_,rfl,rfl⟩,?_⟩;cbv;exact f
  rw[if_neg d]at a;have f:=V u U rL d a;have aV:=f4;clear E V;rw[mQv d];cbv;rw[ai A];refine mQw g ?_;cbv;rw[z,mQv d];cbv;rw[ai A];refine mQw g ?_;cbv;rw[H,mQu d];cbv;rw[ai A];refine mQw g ?_;cbv;refine mQw g ?_;cbv;refine⟨⟨_,rfl,rfl⟩,?_⟩;cbv;exact f
 have f:=P h1 e W (by
  rw[<-a];unfold cL;simp only[O];rw[if_pos h0])
 rw[mQu h0];cbv;exact f
end Go.S
