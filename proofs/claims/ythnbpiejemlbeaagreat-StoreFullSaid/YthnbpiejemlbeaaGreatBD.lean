import Derived.Test.YthnbpiejemlbeaaGreatBC
set_option linter.all false
set_option maxRecDepth 100000
set_option maxHeartbeats 8000000
namespace Go.S
open Go.Sx Go.Proofs
variable {only:Bool}{nm:ByteArray}{d:DB}{key:Int}{G:Lg}{cols:List iK}{c e n p s:Nat}{b:Option Addr}{k:Value->ab->Prop}{L:Value×Value×Value×Value}{h:ab}
def QJ(G:Lg)(d:DB)(D:DB×Int)(l:Bs):Int×Lg×DB:=
 if D.2≠0 then(D.2,G,d)else((aT G l).1,(aT G l).2,if(aT G l).1=0 then D.1 else d)
def gH(G:Lg)(d:DB)(x:rV):Int×Lg×DB:=QJ G d (bK d x) (en x)
theorem AA.lx{h':ab}(q:AA h s p G d L)(l:Le h h'):AA h' s p G d L:=by obtain⟨g,x,b,a,k,c⟩:=q.out;exact⟨g,x,⟨l _ _ b.out⟩,a.lt (l.t _),k.le l,c.le l⟩
theorem aXe(q:AA h s p G d L){y:Option Addr}{o z:Nat}(w:Sl 202 bh h (.slice y o z) cols)
 (U:o<=2^16) (M:nm.size<=2^40) (O:∀x∈cols,x.name.size<=2^40) (sm:Small d) (V:G.s<=2^29) (T:G.n<=2^29) (W:G.D.ws.length<=2^28) 
 (b:∀h',dI He h h'->AA h' s p (gH G d ⟨nm,cols,key,only⟩).2.1 (gH G d ⟨nm,cols,key,only⟩).2.2 L->k (.int .i64 (gH G d ⟨nm,cols,key,only⟩).1) h'):
 Ct 36 [.pointer (some ⟨s,0,none⟩),.agg #[.string nm,.slice y o z,.int .i64 key,.bool only]] h k:=by
 obtain⟨g,x,K,ql,qk,qx⟩:=q.out;obtain⟨b1,n1,c1,b2,n2,c2,b3,n3,c3,b4,n4,c4,n,qd⟩:=qx.out;have a:gH G d ⟨nm,cols,key,only⟩=QJ G d (bK d ⟨nm,cols,key,only⟩) (en ⟨nm,cols,key,only⟩):=rfl;have rL:(en ⟨nm,cols,key,only⟩).length<=65538:=by unfold en;have:=ph (strOf (uY ⟨nm,cols,key,only⟩));rw[List.length_append,List.length_singleton];omega
 refine an gKk Tryz.func36 λA hA=>?_;cbv;rw[al A];refine Db (bY K.out rfl) n rfl ?_;cbv;rw[al A];refine ak n ?_;cbv;refine zu qd w sm (D:=bK d ⟨nm,cols,key,only⟩) rfl (λt I P Y J vg X jB tU Z B E uf l H=>?_);have u:=q.lx l;have r:=l _ _ n;have N:=w.mono (l.t _);generalize bK d ⟨nm,cols,key,only⟩=C at *;obtain⟨m,c⟩:=C;have H:eD t (.agg #[.slice I P Y,.slice J vg X,.slice jB tU Z,.slice B E uf]) m:=H;have f:A .ay .neq c 0=decide (c≠0):=av A ..;by_cases i:c≠0
 .have a:gH G d ⟨nm,cols,key,only⟩=(c,G,d):=by rw[a];exact if_pos i
  rw[a]at b;have:=b t (l.x _) u;rw[decide_eq_true i]at f;clear b a;cbv;rw[f];cbv;exact this
 have a:gH G d ⟨nm,cols,key,only⟩=((aT G (en ⟨nm,cols,key,only⟩)).1,(aT G (en ⟨nm,cols,key,only⟩)).2,if(aT G (en ⟨nm,cols,key,only⟩)).1=0 then m else d):=by rw[a];exact if_neg i
 rw[a]at b;rw[decide_eq_false i]at f;clear a;cbv;rw[f];cbv;rw[al A];refine ak r ?_;cbv;refine bZQ N U M O (λQ rb rn rc j v=>?_);have rA:=j _ _ r;have Iv:=v.sl.len;generalize en ⟨nm,cols,key,only⟩=rec at *;have F:∀h',dI He Q h'->AA h' s p (aT G rec).2 (if(aT G rec).1=0 then m else d) L->k (.int .i64 (aT G rec).1) h':=λh' x' w'=>b h' (((l.trans j).x _).trans x') w';cbv;refine ak rA ?_;cbv;refine⟨⟨_,rfl,rfl⟩,?_⟩;cbv;refine cKC (u.lx j) v.sl V T (by omega) W (H.mono j) (λS x5 w5=>?_);have:=F S x5 w5;generalize aT G rec=R at *;obtain⟨e,G2⟩:=R;cbv;exact this
theorem ng{a:Type}{xs:List a}{x x0:a}{i:Nat}(hx:xs[i]? =some x)(c:i<n)(d:n=xs.length):(xs.take i++List.replicate (n-i) x0).set i x=xs.take (i+1)++List.replicate (n-(i+1)) x0:=by
 have h:n-i=(n-(i+1))+1:=by omega
 have b:(xs.take i).length=i:=by rw[List.length_take];omega
 rw[h,List.replicate_succ,List.set_append_right _ _ (by omega),b,Nat.sub_self,List.set_cons_zero,List.take_add_one,hx];simp
theorem Wv{xs:Row}(q:Sl 45 aS h (.slice b n c) xs)(d:∀h' a c',Le h h'->Sl 45 aS h' (.slice a n c') xs->k (.slice a n c') h'):
 Ct 223 [.slice b n c] h k:=by
 refine an dZk Tryz.func223 λA j=>?_;cbv;refine(zA q).mono (λv i hR=>?_);obtain⟨l,f,g,rfl,e⟩:=hR;cbv;exact d _ _ _ l e.sl
theorem aXc{xs:List Row}(q:Sl 46 ba h (.slice b n c) xs)(M:∀h' f c',Le h h'->Sl 46 ba h' (.slice f n c') xs->k (.slice f n c') h'):
 Ct 222 [.slice b n c,.func (.func 223) #[] #[]] h k:=by
 have l:=q.len;obtain⟨jH,X⟩:=q.bound;have T:∀h,ba.R h [.slice none 0 0] []:=λh=>⟨_,rfl,Sl.nil⟩;refine an dZl Tryz.func222 λA L=>?_;cbv;refine iB (s:=ba) (x:=[]) T (by omega) (by decide) (λe H C Q o1=>?_);obtain⟨J,Z⟩:∃J:Nat->Int->ab->Prop,∀w z h',J w z h'=(∃i,aK z i/\w=n-i/\i<=n/\Le h h'/\cA 46 ba h' e n (xs.take i++List.replicate (n-i) [])):=⟨_,λ_ _ _=>rfl⟩;have j:J n 0 H:=by rw[Z];exact⟨0,⟨rfl⟩,rfl,by omega,Q,o1⟩
 cbv;refine aG.go (G:=Int) (λz=>[(13,.v (.int .i64 z))]) (λ_=>[]) (λw z h'=>J w z h') n 0 (by constructor<;>cbv) j ?_
 intro w z K o;rw[Z]at o;cbv;obtain⟨i,a,hw,hi,g,o2⟩:=o;have fl:A .ay .lss z (A .nat n)=decide (i<n):=by rw[aD A,a.eq,L.nat];exact decide_eq_decide.2 (by show(i:Int)<(n:Int)↔_;omega)
 rw[fl];by_cases d:i<n
 .obtain⟨x,hx⟩:=bn xs i;have ix:=a.ix d;have y:n-(i+1)<w:=by omega
  have O:=a.succ (A:=A);have F:=ng (x0:=[]) hx d l;have E:i<(xs.take i++List.replicate (n-i) ([]:Row)).length:=by rw[List.length_append,List.length_replicate,List.length_take];omega
  have I:∀h',Le h h'->cA 46 ba h' e n (xs.take (i+1)++List.replicate (n-(i+1)) [])->J (n-(i+1)) (A .aC .add .i64 z 1) h':=λh' P o'=>by
   rw[Z];exact⟨i+1,O,rfl,by omega,P,o'⟩
  rw[decide_eq_true d];clear fl Z j;generalize xs.take i++List.replicate (n-i) []=ys at *;generalize xs.take (i+1)++List.replicate (n-(i+1)) []=zs at *;cbv;refine⟨⟨q.aQ,ix⟩,?_⟩;cbv;refine(q.mono (g.t _)).load hx a.eq (λcs B=>?_);obtain⟨v,rfl,t⟩:=B;obtain⟨vb,u,vc,rfl⟩:∃vb u vc,v=.slice vb u vc:=by obtain⟨f,cap,e1,-⟩:=t.out;exact⟨_,_,_,e1⟩
  cbv;refine Wv t (λY U V p S=>?_);cbv;refine⟨⟨rfl,ix⟩,?_⟩;cbv;refine(o2.mono (p.t _)).setAt (by decide) (i:=i) E a.eq rfl ⟨_,rfl,S⟩ (λm N t4 r=>?_);rw[F]at r;have R:Le h m:=(g.trans p).aE (bs:=[e]) (by simpa using C) N;have:=I m R r;clear I;cbv;refine⟨n-(i+1),A .aC .add .i64 z 1,y,by constructor<;>cbv,this⟩
 have D:i=n:=by omega
 have W:xs.take i++List.replicate (n-i) []=xs:=by rw[D,Nat.sub_self,List.take_of_length_le (by omega)];simp
 rw[W]at o2;have:=M K (some ⟨e,0,none⟩) n g (o2.sl l);rw[decide_eq_false d];cbv;exact this
def Fh:bJ:=⟨⟨⟨#[]⟩,[],0,false⟩,[]⟩
def rN:cC:=⟨⟨#[]⟩,0,[]⟩
theorem bJa{c:Option Addr}{d a:Nat}{r:List Row}(u:Sl 202 bh h (.slice b n d) cols)(w:Sl 46 ba h (.slice c a e) r)
 (t:∀h' f Y g i,Le h h'->Sl 202 bh h' (.slice f n Y) cols->Sl 46 ba h' (.slice g a i) r->k (.agg #[.string nm,.slice f n Y,.int .i64 key,.bool only,.slice g a i]) h'):
 Ct 106 [.agg #[.string nm,.slice b n d,.int .i64 key,.bool only,.slice c a e]] h k:=by
 refine an dJW Tryz.func106 λA B=>?_;cbv;refine(ET u).mono (λv z hR=>?_);obtain⟨l,m,p,rfl,x⟩:=hR;cbv;refine aXc (w.mono (l.t _)) (λs o q j y=>?_);have:=t s m p o q (l.trans j) (x.sl.mono (j.t _)) y;cbv;exact this
theorem bJb{o:Int}{r:Row}(q:Sl 45 aS h (.slice b n c) r)
 (i:∀h' f e,Le h h'->Sl 45 aS h' (.slice f n e) r->k (.agg #[.string nm,.int .i64 o,.slice f n e]) h'):
 Ct 225 [.agg #[.string nm,.int .i64 o,.slice b n c]] h k:=by
 refine an dZi Tryz.func225 λA m=>?_;cbv;refine Wv q (λg a d l j=>?_);have:=i g a d l j;cbv;exact this
theorem aXb{xs:List bJ}(q:Sl 61 bo h (.slice b n c) xs)(X:∀h' o c',Le h h'->Sl 61 bo h' (.slice o n c') xs->k (.slice o n c') h'):
 Ct 105 [.slice b n c,.func (.func 106) #[] #[]] h k:=by
 have l:=q.len;obtain⟨jH,fN⟩:=q.bound;have rR:∀h,bo.R h [.string ⟨#[]⟩,.slice none 0 0,.int .i64 0,.bool false,.slice none 0 0] Fh:=λh=>⟨_,_,_,_,_,_,rfl,Sl.nil,Sl.nil⟩;refine an dJX Tryz.func105 λA W=>?_;cbv;refine iB (s:=bo) (x:=Fh) rR (by omega) (by decide) (λf S O l1 o1=>?_);obtain⟨J,Z⟩:∃J:Nat->Int->ab->Prop,∀w z h',J w z h'=(∃i,aK z i/\w=n-i/\i<=n/\Le h h'/\cA 61 bo h' f n (xs.take i++List.replicate (n-i) Fh)):=⟨_,λ_ _ _=>rfl⟩;have p:J n 0 S:=by rw[Z];exact⟨0,⟨rfl⟩,rfl,by omega,l1,o1⟩
 cbv;refine aG.go (G:=Int) (λz=>[(13,.v (.int .i64 z))]) (λ_=>[]) (λw z h'=>J w z h') n 0 (by constructor<;>cbv) p ?_
 intro w z U t;rw[Z]at t;cbv;obtain⟨i,d,hw,hi,m,o2⟩:=t;have fl:A .ay .lss z (A .nat n)=decide (i<n):=by rw[aD A,d.eq,W.nat];exact decide_eq_decide.2 (by show(i:Int)<(n:Int)↔_;omega)
 rw[fl];by_cases e:i<n
 .obtain⟨x,hx⟩:=bn xs i;have ix:=d.ix e;have D:n-(i+1)<w:=by omega
  have kG:=d.succ (A:=A);have T:=ng (x0:=Fh) hx e l;have R:i<(xs.take i++List.replicate (n-i) (Fh:bJ)).length:=by rw[List.length_append,List.length_replicate,List.length_take];omega
  have I:∀h',Le h h'->cA 61 bo h' f n (xs.take (i+1)++List.replicate (n-(i+1)) Fh)->J (n-(i+1)) (A .aC .add .i64 z 1) h':=λh' l' o'=>by
   rw[Z];exact⟨i+1,kG,rfl,by omega,l',o'⟩
  rw[decide_eq_true e];clear fl Z p;generalize xs.take i++List.replicate (n-i) Fh=ys at *;generalize xs.take (i+1)++List.replicate (n-(i+1)) Fh=zs at *;cbv;refine⟨⟨q.aQ,ix⟩,?_⟩;cbv;refine(q.mono (m.t _)).load hx d.eq (λcs E=>?_);obtain⟨b1,v,c1,b2,y,c2,rfl,K,F⟩:=E;have hR:∀h' P Y g j,Sl 202 bh h' (.slice P v Y) x.S.cols->Sl 46 ba h' (.slice g y j) x.rows->bo.R h' [.string x.S.name,.slice P v Y,.int .i64 x.S.key,.bool x.S.only,.slice g y j] x:=λh' P Y g j a b=>⟨_,_,_,_,_,_,rfl,a,b⟩;generalize x.S.name=xn at *;generalize x.S.key=xk at *;generalize x.S.only=xo at *;cbv;refine bJa K F (λV H M L N u q3 q4=>?_);have C:=hR V H M L N q3 q4;cbv;refine⟨⟨rfl,ix⟩,?_⟩;cbv;refine(o2.mono (u.t _)).setAt (by decide) (i:=i) R d.eq rfl C (λr k4 t4 B=>?_);rw[T]at B;have l4:Le h r:=(m.trans u).aE (bs:=[f]) (by simpa using O) k4;have:=I r l4 B;clear I;cbv;refine⟨n-(i+1),A .aC .add .i64 z 1,D,by constructor<;>cbv,this⟩
 have Q:i=n:=by omega
 have wW:xs.take i++List.replicate (n-i) Fh=xs:=by rw[Q,Nat.sub_self,List.take_of_length_le (by omega)];simp
 rw[wW]at o2;have:=X U (some ⟨f,0,none⟩) n m (o2.sl l);rw[decide_eq_false e];cbv;exact this
theorem NK{xs:List cC}(q:Sl 161 aV h (.slice b n c) xs)(R:∀h' j c',Le h h'->Sl 161 aV h' (.slice j n c') xs->k (.slice j n c') h'):
 Ct 224 [.slice b n c,.func (.func 225) #[] #[]] h k:=by
 have l:=q.len;obtain⟨jH,fN⟩:=q.bound;have rR:∀h,aV.R h [.string ⟨#[]⟩,.int .i64 0,.slice none 0 0] rN:=λh=>⟨_,_,_,rfl,Sl.nil⟩;refine an dZj Tryz.func224 λA Q=>?_;cbv;refine iB (s:=aV) (x:=rN) rR (by omega) (by decide) (λf M E V o1=>?_);obtain⟨J,Z⟩:∃J:Nat->Int->ab->Prop,∀w z h',J w z h'=(∃i,aK z i/\w=n-i/\i<=n/\Le h h'/\cA 161 aV h' f n (xs.take i++List.replicate (n-i) rN)):=⟨_,λ_ _ _=>rfl⟩;have m:J n 0 M:=by rw[Z];exact⟨0,⟨rfl⟩,rfl,by omega,V,o1⟩
 cbv;refine aG.go (G:=Int) (λz=>[(13,.v (.int .i64 z))]) (λ_=>[]) (λw z h'=>J w z h') n 0 (by constructor<;>cbv) m ?_
 intro w z N p;rw[Z]at p;cbv;obtain⟨i,d,hw,hi,g,o2⟩:=p;have fl:A .ay .lss z (A .nat n)=decide (i<n):=by rw[aD A,d.eq,Q.nat];exact decide_eq_decide.2 (by show(i:Int)<(n:Int)↔_;omega)
 rw[fl];by_cases e:i<n
 .obtain⟨x,hx⟩:=bn xs i;have ix:=d.ix e;have y:n-(i+1)<w:=by omega
  have T:=d.succ (A:=A);have F:=ng (x0:=rN) hx e l;have L:i<(xs.take i++List.replicate (n-i) (rN:cC)).length:=by rw[List.length_append,List.length_replicate,List.length_take];omega
  have I:∀h',Le h h'->cA 161 aV h' f n (xs.take (i+1)++List.replicate (n-(i+1)) rN)->J (n-(i+1)) (A .aC .add .i64 z 1) h':=λh' U o'=>by
   rw[Z];exact⟨i+1,T,rfl,by omega,U,o'⟩
  rw[decide_eq_true e];clear fl Z m;generalize xs.take i++List.replicate (n-i) rN=ys at *;generalize xs.take (i+1)++List.replicate (n-(i+1)) rN=zs at *;cbv;refine⟨⟨q.aQ,ix⟩,?_⟩;cbv;refine(q.mono (g.t _)).load hx d.eq (λcs B=>?_);obtain⟨b1,t,c1,rfl,K⟩:=B;have hR:∀h' P Y,Sl 45 aS h' (.slice P t Y) x.row->aV.R h' [.string x.table,.int .i64 x.op,.slice P t Y] x:=λh' P Y a=>⟨_,_,_,rfl,a⟩;generalize x.table=xn at *;generalize x.op=xk at *;cbv;refine bJb K (λO C D r X=>?_);have v:=hR O C D X;cbv;refine⟨⟨rfl,ix⟩,?_⟩;cbv;refine(o2.mono (r.t _)).setAt (by decide) (i:=i) L d.eq rfl v (λo S t4 u=>?_);rw[F]at u;have W:Le h o:=(g.trans r).aE (bs:=[f]) (by simpa using E) S;have:=I o W u;clear I;cbv;refine⟨n-(i+1),A .aC .add .i64 z 1,y,by constructor<;>cbv,this⟩
 have H:i=n:=by omega
 have wW:xs.take i++List.replicate (n-i) rN=xs:=by rw[H,Nat.sub_self,List.take_of_length_le (by omega)];simp
 rw[wW]at o2;have:=R N (some ⟨f,0,none⟩) n g (o2.sl l);rw[decide_eq_false e];cbv;exact this
def Fa:ep×Bool:=(⟨0,[],[]⟩,false)
theorem bZY{s:Int}{c:Option Addr}{d a:Nat}{m:List cC}{o:List kJ}(x:Sl 161 aV h (.slice b n d) m)(y:Sl 183 cF h (.slice c a e) o)
 (w:∀h' f Y g i,Le h h'->Sl 161 aV h' (.slice f n Y) m->Sl 183 cF h' (.slice g a i) o->k (.agg #[.int .i64 s,.slice f n Y,.slice g a i]) h'):
 Ct 108 [.agg #[.int .i64 s,.slice b n d,.slice c a e]] h k:=by
 refine an dJU Tryz.func108 λA D=>?_;cbv;refine NK x (λC p r l z=>?_);cbv;refine(PK (y.mono (l.t _))).mono (λv u hR=>?_);obtain⟨j,q,t,rfl,B⟩:=hR;have:=w u p r q t (l.trans j) (z.mono (j.t _)) B.sl;cbv;exact this
theorem aQW{xs:List (ep×Bool)}(q:Sl 79 bE h (.slice b n c) xs)(y:∀h' r c',Le h h'->Sl 79 bE h' (.slice r n c') (xs.map λw=>(w.1,false))->k (.slice r n c') h'):
 Ct 107 [.slice b n c,.func (.func 108) #[] #[]] h k:=by
 have l:=q.len;obtain⟨Q,j⟩:∃Q,Q=xs.map λw=>(w.1,false):=⟨_,rfl⟩;have X:n=Q.length:=by rw[j,List.length_map];exact l
 rw[<-j]at y;obtain⟨jH,fN⟩:=q.bound;have rR:∀h,bE.R h [.int .i64 0,.slice none 0 0,.slice none 0 0] Fa:=λh=>⟨_,_,_,_,_,_,rfl,Sl.nil,Sl.nil,λe=>by cases e⟩;refine an dJV Tryz.func107 λA hA=>?_;cbv;refine iB (s:=bE) (x:=Fa) rR (by omega) (by decide) (λg h1 U l1 o1=>?_);obtain⟨J,Z⟩:∃J:Nat->Int->ab->Prop,∀w z h',J w z h'=(∃i,aK z i/\w=n-i/\i<=n/\Le h h'/\cA 79 bE h' g n (Q.take i++List.replicate (n-i) Fa)):=⟨_,λ_ _ _=>rfl⟩;have t:J n 0 h1:=by rw[Z];exact⟨0,⟨rfl⟩,rfl,by omega,l1,o1⟩
 cbv;refine aG.go (G:=Int) (λz=>[(13,.v (.int .i64 z))]) (λ_=>[]) (λw z h'=>J w z h') n 0 (by constructor<;>cbv) t ?_
 intro w z h2 v;rw[Z]at v;cbv;obtain⟨i,d,hw,hi,p,o2⟩:=v;have fl:A .ay .lss z (A .nat n)=decide (i<n):=by rw[aD A,d.eq,hA.nat];exact decide_eq_decide.2 (by show(i:Int)<(n:Int)↔_;omega)
 rw[fl];by_cases f:i<n
 .obtain⟨x,hx⟩:=bn xs i;have ix:=d.ix f;have L:n-(i+1)<w:=by omega
  have kG:=d.succ (A:=A);have T:=ng (x0:=Fa) (xs:=Q) (x:=(x.1,false)) (by rw[j,List.getElem?_map,hx];rfl) f X;have W:i<(Q.take i++List.replicate (n-i) (Fa:(ep×Bool))).length:=by rw[List.length_append,List.length_replicate,List.length_take];omega
  have I:∀h',Le h h'->cA 79 bE h' g n (Q.take (i+1)++List.replicate (n-(i+1)) Fa)->J (n-(i+1)) (A .aC .add .i64 z 1) h':=λh' l' o'=>by
   rw[Z];exact⟨i+1,kG,rfl,by omega,l',o'⟩
  rw[decide_eq_true f];clear fl Z t;generalize Q.take i++List.replicate (n-i) Fa=ys at *;generalize Q.take (i+1)++List.replicate (n-(i+1)) Fa=zs at *;cbv;refine⟨⟨q.aQ,ix⟩,?_⟩;cbv;refine(q.mono (p.t _)).load hx d.eq (λcs M=>?_);obtain⟨b1,C,c1,b2,D,c2,rfl,K,F,-⟩:=M;have hR:∀h' P Y m o,Sl 161 aV h' (.slice P C Y) x.1.log->Sl 183 cF h' (.slice m D o) x.1.marks->bE.R h' [.int .i64 x.1.s,.slice P C Y,.slice m D o] (x.1,false):=λh' P Y m o a b=>⟨_,_,_,_,_,_,rfl,a,b,λe=>by cases e⟩;generalize x.1.s=xn at *;cbv;refine bZY K F (λh3 N R O S B q3 q4=>?_);have H:=hR h3 N R O S q3 q4;cbv;refine⟨⟨rfl,ix⟩,?_⟩;cbv;refine(o2.mono (B.t _)).setAt (by decide) (i:=i) W d.eq rfl H (λu k4 t4 E=>?_);rw[T]at E;have l4:Le h u:=(p.trans B).aE (bs:=[g]) (by simpa using U) k4;have:=I u l4 E;clear I;cbv;refine⟨n-(i+1),A .aC .add .i64 z 1,L,by constructor<;>cbv,this⟩
 have V:i=n:=by omega
 have wW:Q.take i++List.replicate (n-i) Fa=Q:=by rw[V,Nat.sub_self,List.take_of_length_le (by omega)];simp
 rw[wW]at o2;have:=y h2 (some ⟨g,0,none⟩) n p (o2.sl X);rw[decide_eq_false f];cbv;exact this
abbrev fKW(h:ab)(d:DB)(k:Value->ab->Prop):Prop:=
 ∀h' b1 n1 c1 b2 n2 c2 b3 n3 c3 b4 n4 c4,Le h h'->eD h' (.agg #[.slice b1 n1 c1,.slice b2 n2 c2,.slice b3 n3 c3,.slice b4 n4 c4]) d->k (.agg #[.slice b1 n1 c1,.slice b2 n2 c2,.slice b3 n3 c3,.slice b4 n4 c4]) h'
theorem aZU{f g i j:Option Addr}{l b m o:Nat}(q:eD h (.agg #[.slice f n l,.slice g b m,.slice i c o,.slice j e p]) d)(F:fKW h d k):
 Ct 42 [.agg #[.slice f n l,.slice g b m,.slice i c o,.slice j e p]] h k:=by
 obtain⟨_,_,_,_,_,_,_,_,_,_,_,_,V,E,J,K,L,N,G⟩:=q.out;cases E;refine an gKg Tryz.func42 λA U=>?_;cbv;refine(jz L).mono (λv R hR=>?_);obtain⟨r,I,H,rfl,a⟩:=hR;cbv;refine(jz (N.mono (r.t _))).mono (λv S hR=>?_);obtain⟨s,w,Q,rfl,X⟩:=hR;have z:=r.trans s;cbv;refine aXb (J.mono (z.t _)) (λT x B t O=>?_);cbv;refine aQW (K.mono ((z.trans t).t _)) (λD y C u P=>?_);have M:=t.trans u;have:=F D x n B y b C I c H w e Q (z.trans M) ⟨_,_,_,_,_,_,_,_,_,_,_,_,_,rfl,O.mono (u.t _),P,a.sl.mono ((s.trans M).t _),X.sl.mono (M.t _),by rw[<-G,List.map_map];rfl⟩;cbv;exact this
theorem dJY(q:AA h s p G d L)(v:fKW h d k):Ct 13 [.pointer (some ⟨s,0,none⟩)] h k:=by obtain⟨g,x,y,D,C,z⟩:=q.out;obtain⟨b,o,f,a,r,i,c,t,j,e,u,m,n,w⟩:=z.out;refine an gKu Tryz.func13 λA B=>?_;cbv;rw[al A];refine Db (bY y.out rfl) n rfl ?_;cbv;rw[al A];refine ak n ?_;cbv;refine aZU w (λh' b o f a r i c t j e u m l q=>?_);have:=v h' b o f a r i c t j e u m l q;cbv;exact this
end Go.S
