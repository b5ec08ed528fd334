import Derived.Test.YthnbpiejemlbeaaGreatEC
set_option linter.all false
set_option maxRecDepth 100000
set_option maxHeartbeats 8000000
namespace Go.S
open Go.Sx Go.Proofs
variable {A:Ar}{only:Bool}{nm:ByteArray}{d:DB}{e key s z:Int}{tys:List Nat}{H P:List bG}{a:List ep}{cols:List iK}{c i m n w wb:Nat}{b:Option Addr}{k:Value->ab->Prop}{h h':ab}{hd:bG}
theorem EP{xs:List (ep×Bool)}{b cap:Nat}(o:cA 79 bE h b cap xs)(j:n=xs.length){w:Int}(l:aK z i)(a:aK w (i+1))(O:i<n)
 (u:∀h' m,m=n-1->Kp [b] h h'->(∀tys,79∉tys->bV tys h h')->cA 79 bE h' b cap (xs.eraseIdx i)->k (.slice (some ⟨b,0,none⟩) m cap) h'):
 Ct 240 [.slice (some ⟨b,0,none⟩) n cap,.int .i64 z,.int .i64 w] h k:=by
 obtain⟨A,c⟩:=Ar.ex;have v:=o.le;have W:=o.bd;have M:=l.eq;have s:=a.eq;have y:A .nat n=(n:Int):=by rw[c.nat];rfl
 have e1:A .ay .eql z w=false:=by rw[aq A];exact decide_eq_false (by omega)
 have q:Sl 79 bE h (.slice (some ⟨b,0,none⟩) n cap) xs:=o.sl j;have D:0<=A .nat n/\A .nat n<=(cap:Int)/\0<=w/\w<=A .nat n/\0<=z/\z<=w:=by rw[y];omega
 have x:0<=z/\z<=(cap:Int):=by omega
 have L:0<=w/\w<=(n:Int):=by omega
 have G:∀m,m=n-1->0<=A .nat n/\A .nat n<=(cap:Int)/\0<=A .nat m/\A .nat m<=A .nat n:=λm g=>by
  have J:A .nat m=(m:Int):=by rw[c.nat];rfl
  rw[y,J];omega
 have E:=q.iH (A:=A) a (by omega) rfl rfl;have P:=cM (A:=A) l;have X:=bQ (A:=A) (n:=n) a;have Z:=bQ (A:=A) (n:=cap) a;refine bB dXU A Tryz.func240 ?_;cbv;refine⟨D,?_⟩;cbv;rw[e1];cbv;refine⟨x,?_⟩;cbv;refine⟨L,?_⟩;cbv;rw[tp (A:=A),P,X];refine o.xM (by decide) (i:=i) (by omega) E (by omega) (by omega) rfl (λN m g B H o1=>?_);have U:m=n-1:=by omega
 have o2:=o1.shrink (n-1);have e:(xs.take i++xs.drop (i+1)++xs.drop (i+(n-(i+1)))).take (n-1)=xs.eraseIdx i:=by rw[j];exact erase_eq (by omega)
 rw[e]at o2;clear o1 e g;have K:(xs.eraseIdx i).length=n-1:=by rw[List.length_eraseIdx_of_lt (by omega)];omega
 have G:=G m U;have f:A .mg (A .nat n) (A .nat m)=1:=by rw[bQ (A:=A) (aK.nat m)];omega
 cbv;refine⟨G,?_⟩;cbv;rw[uc (A:=A) (aK.nat m) (by omega),f];refine o2.Vw (by decide) rfl rfl (p:=m) (by omega) (by omega) (λt C I F=>?_);have r:=u t m U (B.trans C) (λtys d=>(H tys d).trans (I tys d)) F;cbv;exact r
theorem IW{xs:List bJ}{b cap:Nat}(o:cA 61 bo h b cap xs)(j:n=xs.length){w:Int}(l:aK z i)(a:aK w (i+1))(O:i<n)
 (u:∀h' m,m=n-1->Kp [b] h h'->(∀tys,61∉tys->bV tys h h')->cA 61 bo h' b cap (xs.eraseIdx i)->k (.slice (some ⟨b,0,none⟩) m cap) h'):
 Ct 285 [.slice (some ⟨b,0,none⟩) n cap,.int .i64 z,.int .i64 w] h k:=by
 obtain⟨A,c⟩:=Ar.ex;have v:=o.le;have W:=o.bd;have M:=l.eq;have s:=a.eq;have y:A .nat n=(n:Int):=by rw[c.nat];rfl
 have e1:A .ay .eql z w=false:=by rw[aq A];exact decide_eq_false (by omega)
 have q:Sl 61 bo h (.slice (some ⟨b,0,none⟩) n cap) xs:=o.sl j;have D:0<=A .nat n/\A .nat n<=(cap:Int)/\0<=w/\w<=A .nat n/\0<=z/\z<=w:=by rw[y];omega
 have x:0<=z/\z<=(cap:Int):=by omega
 have L:0<=w/\w<=(n:Int):=by omega
 have G:∀m,m=n-1->0<=A .nat n/\A .nat n<=(cap:Int)/\0<=A .nat m/\A .nat m<=A .nat n:=λm g=>by
  have J:A .nat m=(m:Int):=by rw[c.nat];rfl
  rw[y,J];omega
 have E:=q.iH (A:=A) a (by omega) rfl rfl;have P:=cM (A:=A) l;have X:=bQ (A:=A) (n:=n) a;have Z:=bQ (A:=A) (n:=cap) a;refine bB dXg A Tryz.func285 ?_;cbv;refine⟨D,?_⟩;cbv;rw[e1];cbv;refine⟨x,?_⟩;cbv;refine⟨L,?_⟩;cbv;rw[tp (A:=A),P,X];refine o.xM (by decide) (i:=i) (by omega) E (by omega) (by omega) rfl (λN m g B H o1=>?_);have U:m=n-1:=by omega
 have o2:=o1.shrink (n-1);have e:(xs.take i++xs.drop (i+1)++xs.drop (i+(n-(i+1)))).take (n-1)=xs.eraseIdx i:=by rw[j];exact erase_eq (by omega)
 rw[e]at o2;clear o1 e g;have K:(xs.eraseIdx i).length=n-1:=by rw[List.length_eraseIdx_of_lt (by omega)];omega
 have G:=G m U;have f:A .mg (A .nat n) (A .nat m)=1:=by rw[bQ (A:=A) (aK.nat m)];omega
 cbv;refine⟨G,?_⟩;cbv;rw[uc (A:=A) (aK.nat m) (by omega),f];refine o2.Vw (by decide) rfl rfl (p:=m) (by omega) (by omega) (λt C I F=>?_);have r:=u t m U (B.trans C) (λtys d=>(H tys d).trans (I tys d)) F;cbv;exact r
theorem oz{b:Nat}{T:List bJ}{W:List (ep×Bool)}{a:List bG}(q:iX h c m wb b w T W H a e)(o:Int)
 (i:∀h' z t,Le h h'->aK z (cR (cU W o))->t=gZ (cU W o)->k (.tuple #[.int .i64 z,.bool t]) h'):Ct 39 [.pointer (some ⟨c,0,none⟩),.int .i64 o] h k:=
 (uR q o).mono (λv h' hR=>by
  obtain⟨l,z,t,j,g⟩:=hR;obtain⟨d,f⟩:=g.at_;rw[j];exact i h' z t l d f)
theorem sj{b:Nat}{T:List bJ}{W:List (ep×Bool)}{a:List bG}(q:iX h c m wb b w T W H a e)(n:ByteArray)
 (i:∀h' z t,Le h h'->aK z (cR (aB T n))->t=gZ (aB T n)->k (.tuple #[.int .i64 z,.bool t]) h'):Ct 116 [.pointer (some ⟨c,0,none⟩),.string n] h k:=
 (oB q n).mono (λv h' hR=>by
  obtain⟨l,z,t,j,g⟩:=hR;obtain⟨d,f⟩:=g.at_;rw[j];exact i h' z t l d f)
theorem SM{o:List Row}{r:Row}{t p:Option Addr}{u s:Nat}(B:Sl 202 bh h (.slice t w u) cols)(A:Sl 46 ba h (.slice p m s) o)(q:Sl 45 aS h (.slice b n c) r)(y:m<=2^37)
 (x:∀h' a i f d j g T e,Le h h'->Sl 202 bh h' (.slice a i f) cols->Sl 46 ba h' (.slice d j g) T->(⟨⟨⟨nm,cols,key,only⟩,T⟩,e⟩:bJ×Int)=bm ⟨⟨nm,cols,key,only⟩,o⟩ r->k (.tuple #[.agg #[.string nm,.slice a i f,.int .i64 key,.bool only,.slice d j g],.int .i64 e]) h'):
 Ct 45 [.agg #[.string nm,.slice t w u,.int .i64 key,.bool only,.slice p m s],.slice b n c] h k:=
 (aXt (nm:=nm) (key:=key) (only:=only) B A q y).mono (λv h' hR=>by
  obtain⟨l,a,i,f,d,j,g,e,T,z,C,D,E⟩:=hR;rw[z];exact x h' a i f d j g T e l C D E)
theorem Md{r:List Row}{s p:Option Addr}{u t o q:Nat}(A:Sl 202 bh h (.slice s u t) cols)(z:Sl 46 ba h (.slice p o q) r)(x:o<=2^37)(a:gV)
 (w:∀h' b n f c j g d m i T R e,Le h h'->Sl 202 bh h' (.slice b n f) cols->Sl 46 ba h' (.slice c j g) T->Sl 45 aS h' (.slice d m i) R->(⟨⟨⟨nm,cols,key,only⟩,T⟩,R,e⟩:bJ×Row×Int)=aY ⟨⟨nm,cols,key,only⟩,r⟩ a->k (.tuple #[.agg #[.string nm,.slice b n f,.int .i64 key,.bool only,.slice c j g],.slice d m i,.int .i64 e]) h'):
 Ct 277 [.agg #[.string nm,.slice s u t,.int .i64 key,.bool only,.slice p o q],.agg #[.int .i64 a.k,.int .i64 a.n,.string a.s]] h k:=
 (RL (nm:=nm) (key:=key) (only:=only) A z x a).mono (λv h' hR=>by
  obtain⟨l,b,n,f,c,j,g,d,m,i,e,T,R,y,B,C,D,E⟩:=hR;rw[y];exact w h' b n f c j g d m i T R e l B C D E)
theorem xw{W:List bG}{a:Option Addr}{e d:Nat}(q:Sl 253 aO h (.slice b n c) H)(f:Sl 253 aO h (.slice a e d) W)(s:Int)(g:H.length<=2^38)(Z:W.length<=2^38)
 (i:∀h' b n c a e d,Le h h'->Sl 253 aO h' (.slice b n c) (bA H s)->Sl 253 aO h' (.slice a e d) (bA W s)->k (.agg #[.slice b n c,.slice a e d]) h'):Ct 241 [.agg #[.slice b n c,.slice a e d],.int .i64 s] h k:=
 (ZE q f (by rw[q.len];exact g) (by rw[f.len];exact Z) s).mono (λv h' hR=>by
  obtain⟨l,b,n,c,a,e,d,j,r,m⟩:=hR;rw[j];exact i h' b n c a e d l r m)
theorem iX.ah{d:ab}{t:Nat}{T:List bJ}{W:List (ep×Bool)}{s:List bG}{G r:Nat}{f g:Option Addr}{k l j:Nat}{o:Int}
 (u:h c=some (.cells #[.slice (some ⟨m,0,none⟩) n t,.slice (some ⟨wb,0,none⟩) G w,.slice f k i,.slice g l j,.int .u32 o,.int .i32 0,.int .u32 0,.int .i64 e] 148 (0,0)))
 (D:(o=0/\e=0)\/(o=1/\e≠0)) (v:n=T.length) (x:cA 61 bo h m t T) (y:Sl 253 aO h (.slice f k i) H) (z:Sl 253 aO h (.slice g l j) s) (B:r=W.length)
 (F:∀tys,79∉tys->bV tys h d) (E:d c=h c) (A:cA 79 bE d wb w W)
 (p:h'=bu d c (.cells #[.slice (some ⟨m,0,none⟩) n t,.slice (some ⟨wb,0,none⟩) r w,.slice f k i,.slice g l j,.int .u32 o,.int .i32 0,.int .u32 0,.int .i64 e] 148 (0,0))):
 Kp [c] d h'/\iX h' c m wb t w T W H s e:=by
 have Z:=E.trans u;have lt:∀tys,148∉tys->bV tys d h':=λtys C=>by rw[p];exact bV.set Z C
 have q:∀tys,79∉tys->148∉tys->bV tys h h':=λtys a b=>(F tys a).trans (lt tys b);refine⟨by rw[p];exact Kp.set (by simp),n,r,f,k,i,g,l,j,o,by rw[p];exact ae,D,v,x.mono (q _ (by decide) (by decide)),B,A.mono (lt _ (by decide)),y.mono (q _ (by decide) (by decide)),z.mono (q _ (by decide) (by decide))⟩
def vC(W:List (ep×Bool))(s:Int):List (ep×Bool):=if gZ (cU W s)=true then W.eraseIdx (cR (cU W s))else W
theorem cKg{O L M:Nat}{T:List bJ}{W:List (ep×Bool)}(q:iX h c O wb L M T W H P e)(mQ:c≠wb)(s:Int)(ek:H.length<=2^38)(dZ:P.length<=2^38)
 (hk:∀h',Kp [c,wb] h h'->iX h' c O wb L M T (vC W s) (bA H s) (bA P s) e->k (.tuple #[]) h'):Ct 123 [.pointer (some ⟨c,0,none⟩),.int .i64 s] h k:=by
 obtain⟨V,S⟩:∃V,V=vC W s:=⟨_,rfl⟩;rw[<-S]at hk;have fin:∀(b:ab),Kp [c,wb] h b->iX b c O wb L M T V H P e->∀(j n:Nat) (p:Option Addr) (G u:Nat) (r:Option Addr) (I v:Nat) (o:Int),b c=some (.cells #[.slice (some ⟨O,0,none⟩) j L,.slice (some ⟨wb,0,none⟩) n M,.slice p G u,.slice r I v,.int .u32 o,.int .i32 0,.int .u32 0,.int .i64 e] 148 (0,0))->
  ((o=0/\e=0)\/(o=1/\e≠0))->j=T.length->cA 61 bo b O L T->n=V.length->cA 79 bE b wb M V->
  ∀(d:ab) (J:Option Addr) (E f:Nat) (K:Option Addr) (F C:Nat),Le b d->Sl 253 aO d (.slice J E f) (bA H s)->Sl 253 aO d (.slice K F C) (bA P s)->
  ∀a,a=bu d c (.cells #[.slice (some ⟨O,0,none⟩) j L,.slice (some ⟨wb,0,none⟩) n M,.slice J E f,.slice K F C,.int .u32 o,.int .i32 0,.int .u32 0,.int .i64 e] 148 (0,0))->k (.tuple #[]) a:=
  λb k1 _ j n p G u r I v o g B w x y l d J E f K F C D U Y a N=>by
   have hl:=iX.Tp (D _ _ g) B w (x.mono (D.t _)) y (l.mono (D.t _)) U Y N;exact hk a ((k1.trans (D.kp _)).trans (hl.1.sub (by simp))) hl.2
 refine an aQC Tryz.func123 λA hA=>?_;cbv;refine oz q s (λb z t l1 hz ht=>?_);have q1:=q.mono l1;cases t with
 |false=>
  have Z:V=W:=by rw[S];unfold vC;rw[<-ht];rfl
  clear S;subst Z;refine q1.elim (λj n p G u r I v o g B w x y l Q R _=>?_);have fin:=fin b (l1.kp _) q1 j n p G u r I v o g B w x y l;cbv;rw[al A];rw[al A];refine ak g ?_;cbv;refine xw Q R s ek dZ (λd J E f K F C D U Y=>?_);cbv;rw[al A];rw[al A];refine jr (D _ _ g) (by simp) (λa N=>?_);have ar:=fin d J E f K F C D U Y a N;cbv;exact ar
 |true=>
  have Z:V=W.eraseIdx (cR (cU W s)):=by rw[S];unfold vC;rw[<-ht];rfl
  have aF:cR (cU W s)<W.length:=by have:=im ht.symm;simpa[cU]using this
  generalize cR (cU W s)=i at *;clear S;refine q1.elim (λj n p G u r I v o g B w x y l Q R _=>?_);have iW:=l.bd;have jD:=hz.succ (A:=A);have eC:i<n:=by omega
  have aj:V.length=n-1:=by rw[Z,List.length_eraseIdx_of_lt aF];omega
  cbv;rw[al A];rw[al A];refine ak g ?_;cbv;refine EP l y hz jD eC (λd m hm k2 t2 o2=>?_);have X:d c=b c:=(k2 _ _ g (by simpa using mQ)).trans g.symm;rw[<-Z]at o2;have ao:=λa hh=>iX.ah (h':=a) g B w x Q R (hm.trans aj.symm) t2 X o2 hh;have au:=X.trans g;cbv;rw[al A];rw[al A];refine jr au (by simp) (λa N=>?_);obtain⟨f,q3⟩:=ao a N;have ag:Kp [c,wb] h a:=((l1.kp _).trans (k2.sub (by simp))).trans (f.sub (by simp));clear ao N;refine q3.elim (λj n p G u r I v o g B w x y l Q R _=>?_);have fin:=fin a ag q3 j n p G u r I v o g B w x y l;cbv;rw[al A];rw[al A];refine ak g ?_;cbv;refine xw Q R s ek dZ (λh4 J E f K F C l4 U Y=>?_);cbv;rw[al A];rw[al A];refine jr (l4 _ _ g) (by simp) (λh5 e5=>?_);have ar:=fin h4 J E f K F C l4 U Y h5 e5;cbv;exact ar
theorem Ve{O L M:Nat}{T:List bJ}{W:List (ep×Bool)}(q:iX h c O wb L M T W H P e)(mQ:c≠wb)(s:Int)(ek:H.length<=2^38)(dZ:P.length<=2^38)
 (hk:∀h',Kp [c,wb] h h'->iX h' c O wb L M T (vC W s) (bA H s) (bA P s) e->k (.tuple #[]) h'):eXM 123 [.pointer (some ⟨c,0,none⟩),.int .i64 s] h k:=by
 obtain⟨A,hA⟩:=Ar.ex;obtain⟨V,S⟩:∃V,V=vC W s:=⟨_,rfl⟩;rw[<-S]at hk;have fin:∀(b:ab),Kp [c,wb] h b->iX b c O wb L M T V H P e->∀(j n:Nat) (p:Option Addr) (G u:Nat) (r:Option Addr) (I v:Nat) (o:Int),b c=some (.cells #[.slice (some ⟨O,0,none⟩) j L,.slice (some ⟨wb,0,none⟩) n M,.slice p G u,.slice r I v,.int .u32 o,.int .i32 0,.int .u32 0,.int .i64 e] 148 (0,0))->
  ((o=0/\e=0)\/(o=1/\e≠0))->j=T.length->cA 61 bo b O L T->n=V.length->cA 79 bE b wb M V->
  ∀(d:ab) (J:Option Addr) (E f:Nat) (K:Option Addr) (F C:Nat),Le b d->Sl 253 aO d (.slice J E f) (bA H s)->Sl 253 aO d (.slice K F C) (bA P s)->
  ∀a,a=bu d c (.cells #[.slice (some ⟨O,0,none⟩) j L,.slice (some ⟨wb,0,none⟩) n M,.slice J E f,.slice K F C,.int .u32 o,.int .i32 0,.int .u32 0,.int .i64 e] 148 (0,0))->k (.tuple #[]) a:=
  λb k1 _ j n p G u r I v o g B w x y l d J E f K F C D U Y a N=>by
   have hl:=iX.Tp (D _ _ g) B w (x.mono (D.t _)) y (l.mono (D.t _)) U Y N;exact hk a ((k1.trans (D.kp _)).trans (hl.1.sub (by simp))) hl.2
 refine tY A (ai aQC.au aQC.aN) Tryz.func123 rfl (by kernel_rfl) ?_;cbv;refine oz q s (λb z t l1 hz ht=>?_);have q1:=q.mono l1;cases t with
 |false=>
  have Z:V=W:=by rw[S];unfold vC;rw[<-ht];rfl
  clear S;subst Z;refine q1.elim (λj n p G u r I v o g B w x y l Q R _=>?_);have fin:=fin b (l1.kp _) q1 j n p G u r I v o g B w x y l;cbv;rw[al A];rw[al A];refine ak g ?_;cbv;refine xw Q R s ek dZ (λd J E f K F C D U Y=>?_);cbv;rw[al A];rw[al A];refine jr (D _ _ g) (by simp) (λa N=>?_);have ar:=fin d J E f K F C D U Y a N;cbv;exact ar
 |true=>
  have Z:V=W.eraseIdx (cR (cU W s)):=by rw[S];unfold vC;rw[<-ht];rfl
  have aF:cR (cU W s)<W.length:=by have:=im ht.symm;simpa[cU]using this
  generalize cR (cU W s)=i at *;clear S;refine q1.elim (λj n p G u r I v o g B w x y l Q R _=>?_);have iW:=l.bd;have jD:=hz.succ (A:=A);have eC:i<n:=by omega
  have aj:V.length=n-1:=by rw[Z,List.length_eraseIdx_of_lt aF];omega
  cbv;rw[al A];rw[al A];refine ak g ?_;cbv;refine EP l y hz jD eC (λd m hm k2 t2 o2=>?_);have X:d c=b c:=(k2 _ _ g (by simpa using mQ)).trans g.symm;rw[<-Z]at o2;have ao:=λa hh=>iX.ah (h':=a) g B w x Q R (hm.trans aj.symm) t2 X o2 hh;have au:=X.trans g;cbv;rw[al A];rw[al A];refine jr au (by simp) (λa N=>?_);obtain⟨f,q3⟩:=ao a N;have ag:Kp [c,wb] h a:=((l1.kp _).trans (k2.sub (by simp))).trans (f.sub (by simp));clear ao N;refine q3.elim (λj n p G u r I v o g B w x y l Q R _=>?_);have fin:=fin a ag q3 j n p G u r I v o g B w x y l;cbv;rw[al A];rw[al A];refine ak g ?_;cbv;refine xw Q R s ek dZ (λh4 J E f K F C l4 U Y=>?_);cbv;rw[al A];rw[al A];refine jr (l4 _ _ g) (by simp) (λh5 e5=>?_);have ar:=fin h4 J E f K F C l4 U Y h5 e5;cbv;exact ar
structure QM(z:Int)(i:Nat):Prop where
 eq:z=(i:Int)-1
theorem QM.yP(h:QM z (i+1)):aK z i:=⟨by have:=h.eq;omega⟩
theorem QM.ge[a:bf A](h:QM z i):A .ay .geq z 0=decide (1<=i):=by have:=h.eq;rw[bX A,decide_eq_decide];omega
theorem _root_.Go.Sx.aK.pred[a:bf A](h:aK z i)(b:i<2^62):QM (A .aC .sub .i64 z 1) i:=⟨by
 have:=h.eq;rw[a.aC];simp only[aC];rw[IntWalk.i64_in _ (by omega)];omega⟩
abbrev Yd(l:Nat)(args:List Value)(h:ab)(R:Value->ab->Prop):Prop:=aQk (λ_=>Tryz.prog) l args h R
theorem aQg{xs:List cC}{bb l:Nat}(J:Nat->ab->Prop)(e:∀i a,J i a->a bb=some (.cells #[.slice b n c] 76 (0,0))/\Sl 161 aV a (.slice b n c) xs)
 (Y:∀i x a z cs,J (i+1) a->xs[i]? =some x->aK z i->aV.R a cs x->Yd l [.int .i64 z,.agg cs.toArray] a (λv h'=>v=.bool true/\J i h'))  (h0:J n h) 
 (D:∀h',J 0 h'->k (.tuple #[]) h'):Ct 350 [.func (.yield l) #[] #[],.pointer (some ⟨bb,0,none⟩)] h k:=by
 obtain⟨A,y⟩:=Ar.ex;obtain⟨u,q⟩:=e n h h0;have p:=q.len;have W:=q.bound.1;have P:A .not true=false:=by rw[y.not];rfl
 have E:QM (A .aC .sub .i64 (A .nat n) 1) n:=(aK.nat n).pred (by omega);refine bB dQb A Tryz.func350 ?_;cbv;refine ak u ?_;cbv;refine aG.go (G:=Int) (λg=>[(3,.v (.int .i64 g))]) (λ_=>[]) (λm g h'=>∃i:Nat,QM g i/\m=i/\i<=n/\J i h') n (A .aC .sub .i64 (A .nat n) 1) (by constructor<;>cbv) ⟨n,E,rfl,Nat.le_refl _,h0⟩ ?_
 intro m g h' C;cbv;obtain⟨i,f,M,K,j⟩:=C;rw[f.ge (A:=A)];cases i with
 |zero=>have s:=D h' j;rw[show decide (1<=0)=false from rfl];cbv;exact s
 |succ i=>
  obtain⟨w,r⟩:=e _ _ j;have I:aK g i:=f.yP;obtain⟨x,hx⟩:=bn xs i;have t:b.isSome=true/\0<=g/\g<(n:Int):=⟨r.aQ,I.ix (by omega)⟩;have Z:QM (A .aC .sub .i64 g 1) i:=I.pred (by omega);rw[show decide (1<=i+1)=true from decide_eq_true (by omega)];cbv;refine ak w ?_;cbv;refine⟨t,?_⟩;cbv;refine r.load hx I.eq (λcs o=>?_);have d:=Y i x h' g cs j hx I o;obtain⟨F,N,H,rfl,-⟩:=o;cbv;refine d.mono (λv L hR=>?_);obtain⟨rfl,B⟩:=hR;cbv;rw[P];cbv;refine⟨i,_,by omega,by constructor<;>cbv,i,Z,rfl,by omega,B⟩
theorem Jj(e:∀h' bb,h bb=none->Le h h'->h' bb=some (.cells #[.slice b n c] 76 (0,0))->k (.func (.func 350) #[] #[.pointer (some ⟨bb,0,none⟩)]) h'):
 Ct 289 [.slice b n c] h k:=by
 refine an dXc Tryz.func289 λA f=>?_;cbv;intro bb d x e1;have a:=e d bb x (by rw[e1];exact Le.set x) ((congrFun e1 bb).trans ae);cbv;exact a
def qY(r:Row)(key:Int):gV:=(r[key.toNat]?).getD ⟨0,0,ig⟩
def eO(T:List bJ)(x:cC):List bJ:=
 if gZ (aB T x.table)=true then
  match T[cR (aB T x.table)]? with
  |some t=>if decide (x.op=2)=true then T.set (cR (aB T x.table)) (bm t x.row).1
   else if(decide (t.S.key>=0)&&decide (t.S.key<(x.row.length:Int)))=true then T.set (cR (aB T x.table)) (aY t (qY x.row t.S.key)).1 else T
  |none=>T
 else T
def dw(T:List bJ)(l:List cC):List bJ:=l.foldr (λx T=>eO T x) T
def eK(n:Int)(len:Nat):Nat:=min n.toNat len
def ko(T:List bJ):Prop:=∀t∈T,t.rows.length<=2^36
theorem zH(t:bJ)(r:Row)(h:t.rows.length<=2^36):(bm t r).1.rows.length<=2^36:=by
 unfold bm;split
 .exact h
 split
 .exact h
 split
 .exact h
 rename_i a;have a:¬((t.rows.length:Int)>=200):=by simpa using a
 simp[yq];omega
theorem wh(t:bJ)(k:gV)(h:t.rows.length<=2^36):(aY t k).1.rows.length<=2^36:=by
 unfold aY;split
 .simp[By];omega
 exact h
theorem ko.set{T:List bJ}(h:ko T){t:bJ}(b:t.rows.length<=2^36)(i:Nat):ko (T.set i t):=λx hx=>by
 rcases List.mem_or_eq_of_mem_set hx with a|a
 .exact h x a
 rw[a];exact b
theorem JO{T:List bJ}(h:ko T)(x:cC):ko (eO T x):=by
 unfold eO;split
 .split
  .rename_i t a;have:=h t (List.mem_of_getElem? a);split
   .exact h.set (zH _ _ this) _
   split
   .exact h.set (wh _ _ this) _
   exact h
  exact h
 exact h
theorem uU{T:List bJ}(h:ko T):∀l,ko (dw T l)
 | []=>h
 |x::r=>JO (uU h r) x
theorem Br{T:List bJ}{l:List cC}{x:cC}(hx:l[i]? =some x):dw T (l.drop i)=eO (dw T (l.drop (i+1))) x:=by obtain⟨h,a⟩:=List.getElem?_eq_some_iff.1 hx;rw[List.drop_eq_getElem_cons h,a];rfl
theorem _root_.Go.Sx.Kp.cXu{e:Nat}{c:Array Value}{fr:Nat×Nat}(k:Kp [n] h h')(i:h n=some (.cells c e fr))(g:e∉tys):bV tys h h':=λb d j J m a=>
 k b _ a (by
  intro f;simp at f;rw[f,i]at a;cases a;exact g m)
theorem iX.RM{b d:Nat}{T a:List bJ}{W:List (ep×Bool)}{f:List bG}(q:iX h c b wb d w T W H f e)(hl:a.length=T.length)(k:Kp [b] h h')(t:∀tys,61∉tys->bV tys h h')(o:cA 61 bo h' b d a)(F:c≠b):iX h' c b wb d w a W H f e:=by obtain⟨x,y,g,z,j,i,A,l,o1,m,v,n,B,p,r,s,u⟩:=q.out;exact⟨x,y,g,z,j,i,A,l,o1,k _ _ m (by simpa using F),v,by rw[hl];exact n,o,p,r.mono (t _ (by decide)),s.mono (t _ (by decide)),u.mono (t _ (by decide))⟩
theorem iX.lt{b a:Nat}{T:List bJ}{W:List (ep×Bool)}{t:List bG}(q:iX h c b wb a w T W H t e)(hl:∀tys,bV tys h h'):iX h' c b wb a w T W H t e:=by obtain⟨u,v,d,x,g,f,y,i,o,j,k,l,m,n,p,r,s⟩:=q.out;exact⟨u,v,d,x,g,f,y,i,o,hl [148] _ _ _ _ (by simp) j,k,l,m.mono (hl _),n,p.mono (hl _),r.mono (hl _),s.mono (hl _)⟩
theorem bV.oset{o:Obj}(f:∀c e fr,h n≠some (.cells c e fr)):bV tys h (bu h n o):=λb c e fr _ a=>by
 rw[bN (λd=>f c e fr (by rw[<-d];exact a))];exact a
theorem Hk[h:bf A](n:Int)(m:Nat):aK (A .ku (A .imax n 0) (A .nat m)) (eK n m):=⟨by
 rw[h.ku,h.imax,h.nat];unfold eK;simp only[Int.ofNat_eq_natCast];omega⟩
theorem Rk(n:Int)(m:Nat):eK n m<=m:=by unfold eK;omega
theorem Rl{a ct cw:Nat}{T:List bJ}{W:List (ep×Bool)}{Wt:List bG}(q:iX h c a wb ct cw T W H Wt e)(nF:c≠a)(mQ:c≠wb)(cp:ko T)(hz:aK z i){w:ep×Bool}(hw:W[i]? =some w)(n:Int)
 (hk:∀h',Kp [a,wb] h h'->iX h' c a wb ct cw (dw T (w.1.log.drop (eK n w.1.log.length))) (W.set i (⟨w.1.s,w.1.log.take (eK n w.1.log.length),w.1.marks⟩,false)) H Wt e->k (.tuple #[]) h'):
 Ct 181 [.pointer (some ⟨c,0,none⟩),.int .i64 z,.int .i64 n] h k:=by
 obtain⟨A,hA⟩:=Ar.ex;obtain⟨⟨ws,wl,wm⟩,wg⟩:=w;refine q.elim (λn1 n2 b3 n3 c3 b4 n4 c4 o g0 ho g1 g2 g3 g4 g6 g7 _=>?_);have gh:i<W.length:=(List.getElem?_eq_some_iff.1 hw).1;have Gd:(some (⟨wb,0,none⟩:Addr)).isSome=true/\0<=z/\z<(n2:Int):=⟨rfl,hz.ix (by omega)⟩;refine lS A (ai fKO.au (λs=>s==3)) Tryz.func181 rfl (by kernel_rfl) ?_;cbv;intro p3 h1 Ud e1;have L:Le h h1:=by rw[e1];exact Le.set Ud
 have f3:h1 p3=some (.cells #[.pointer (some ⟨c,0,none⟩)] 134 (0,0)):=(congrFun e1 p3).trans ae;have q1:=q.mono L;have bZ:=L _ _ g0;have du:=(g4.sl g3).mono (L.t [79,161,45,183]);cbv;refine ak f3 ?_;cbv;rw[al A];rw[al A];refine ak bZ ?_;cbv;refine⟨Gd,?_⟩;cbv;refine mP du hw hz.eq (λb1 m1 c1 br _ au=>?_);cbv;refine au _ _ (Le.refl _) ?_;have pG:=br.len;have pG:m1=wl.length:=pG;have Pg:=Hk (A:=A) n m1;have bl:=Rk n m1;rw[pG]at Pg bl;obtain⟨f,aW⟩:∃f,f=eK n wl.length:=⟨_,rfl⟩;rw[<-aW]at Pg bl;have iG:0<=A .ku (A .imax n 0) (A .nat m1)/\A .ku (A .imax n 0) (A .nat m1)<=(m1:Int):=by rw[pG];have:=Pg.eq;omega
 rw[<-pG]at Pg;have EF:=br.iH (A:=A) Pg (by omega) rfl rfl;have EF:Sl 161 aV h1 _ (wl.drop f):=EF;have Xb:=bQ (A:=A) (n:=m1) Pg;have cY:=bQ (A:=A) (n:=c1) Pg;cbv;refine⟨iG,?_⟩;cbv;rw[Xb,cY];refine Jj (λh2 bb xj M fb=>?_);cbv;refine⟨λm l o1 o2 hm hl aH bC df hY=>?_⟩;obtain⟨xs,yR⟩:∃xs,xs=wl.drop f:=⟨_,rfl⟩;rw[<-yR]at EF;obtain⟨Y,O⟩:∃Y,Y=bu (bu h2 m (.deferred (some []))) l o1:=⟨_,rfl⟩;have X:Le h2 Y:=by rw[O];exact(Le.set hm).trans (Le.set (by rw[bN (Ne.symm aH)];exact hl))
 have fl:Y l=some o1:=by rw[O];exact ae
 have fm:Y m=some (.deferred (some [])):=by rw[O,bN aH];exact ae
 have dr:=X _ _ fb;have dt:=X _ _ (M _ _ f3);have qb:=(q1.mono M).mono X;have bj:=EF.mono ((M.trans X).t _);have bd:=M.trans X;rw[<-O];obtain⟨dB,lD,-⟩:=g2.out;have cQ:=bd _ _ (L _ _ lD);have dj:bb≠a:=λe=>by rw[e,L _ _ lD]at xj;cases xj
 have n3:p3≠a:=λe=>by rw[e,lD]at Ud;cases Ud
 have nl:l≠a:=λe=>by rw[e,M _ _ (L _ _ lD)]at hl;cases hl
 have nm:m≠a:=λe=>by rw[e,M _ _ (L _ _ lD)]at hm;cases hm
 have eb:l≠c:=λe=>by rw[e,M _ _ bZ]at hl;cases hl
 have dk:p3≠l:=λe=>by rw[<-e,M _ _ f3]at hl;cases hl
 have aF:∀tys p,61∉tys->Kp [a] Y p->bV tys Y p:=λtys p ht k=>Kp.cXu k cQ ht;obtain⟨J,D⟩:∃J:Nat->ab->Prop,∀i p,J i p=(p l=some o1/\Kp [a] Y p/\iX p c a wb ct cw (dw T (xs.drop i)) W H Wt e):=⟨_,λ_ _=>rfl⟩;refine aQg (n:=m1-f) J (λi p S=>by rw[D]at S;exact⟨S.2.1 _ _ dr (by simpa using dj),bj.mono (aF _ _ (by decide) S.2.1)⟩) ?_ (by rw[D];exact⟨fl,Kp.refl _ _,by rw[List.drop_eq_nil_of_le (by rw[<-EF.len];exact Nat.le_refl _)];exact qb⟩) ?_
 .intro j x p zj cs S hx dv r;have IB:=S;rw[D]at IB;obtain⟨Zd,eB,bc⟩:=IB;clear S;refine hY [.int .i64 zj,.agg cs.toArray] p _ rfl Zd ?_;obtain⟨bx,nx,cx,rfl,qx⟩:=r;obtain⟨xt,xo,v⟩:=x;have qx:Sl 45 aS p (.slice bx nx cx) v:=qx;cbv;refine⟨Zd,?_⟩;obtain⟨P,e3⟩:∃P,P=bu p l o2:=⟨_,rfl⟩;rw[<-e3];obtain⟨d,Pq⟩:∃d,d=dw T (xs.drop (j+1)):=⟨_,rfl⟩;have cv:ko d:=by rw[Pq];exact uU cp _
  have cn:dw T (xs.drop j)=eO d ⟨xt,xo,v⟩:=by rw[Pq];exact Br hx
  obtain⟨T0,Zp⟩:∃T0,T0=eO d ⟨xt,xo,v⟩:=⟨_,rfl⟩;have Aw:P l=some o2:=by rw[e3];exact ae
  have aZ:∀tys,bV tys p P:=λtys=>by rw[e3];exact bV.oset (λc e fr F=>by rw[Zd]at F;cases F;exact bC _ _ _ rfl)
  have fin:∀h',Kp [a] P h'->iX h' c a wb ct cw T0 W H Wt e->h' l=some o2/\J j (bu h' l o1):=λh' k' q'=>by
   have WY:=k' _ _ Aw (by simpa using nl);rw[D];refine⟨WY,ae,λb o Q N=>?_,?_⟩
   .by_cases DK:b=l
    .rw[DK,fl]at Q;cases Q;rw[DK];exact ae
    rw[bN DK];refine k' _ _ ?_ N;rw[e3,bN DK];exact eB _ _ Q N
   rw[cn,<-Zp];exact q'.lt (λtys=>bV.oset (λc e fr F=>by rw[WY]at F;cases F;exact df _ _ _ rfl))
  rw[<-Pq]at bc;have q3:=bc.lt aZ;have Fw:=qx.mono (aZ _);have bp:P p3=some (.cells #[.pointer (some ⟨c,0,none⟩)] 134 (0,0)):=by rw[e3,bN dk];exact eB _ _ dt (by simpa using n3)
  clear e3 aZ bc qx Pq cn hY EF bj;clear yR;refine ak bp ?_;cbv;refine sj q3 xt (λg zt t Z rQ ht=>?_);have V:=q3.mono Z;cases t with
  |false=>
   have U:T0=d:=by rw[Zp];unfold eO;rw[<-ht];rfl
   have y:=fin g (Z.kp _) (by rw[U];exact V);cbv;rw[show A .not false=true by rw[hA.not];rfl];cbv;exact y
  |true=>
   have yS:cR (aB d xt)<d.length:=by have:=im ht.symm;simpa[aB]using this
   obtain⟨⟨⟨B,G,tk,C⟩,I⟩,KB⟩:=ax yS;have U:T0=if decide (xo=2)=true then d.set (cR (aB d xt)) (bm ⟨⟨B,G,tk,C⟩,I⟩ v).1
    else if(decide (tk>=0)&&decide (tk<(v.length:Int)))=true then d.set (cR (aB d xt)) (aY ⟨⟨B,G,tk,C⟩,I⟩ (qY v tk)).1 else d:=by rw[Zp];unfold eO;rw[<-ht,KB];rfl
   have dR:I.length<=2^36:=cv ⟨⟨B,G,tk,C⟩,I⟩ (List.mem_of_getElem? KB);generalize cR (aB d xt)=ti at *;clear Zp ht;refine V.elim (λu1 u2 y3 v3 w3 y4 v4 w4 oo G0 Ho G1 G2 G3 G4 G6 G7 _=>?_);have Cz:(some (⟨a,0,none⟩:Addr)).isSome=true/\0<=zt/\zt<(u1:Int):=⟨rfl,rQ.ix (by omega)⟩;have E:=G2.sl G1;have cr:=Z _ _ bp;have qZ:=Fw.mono (Z.t _);cbv;rw[show A .not true=false by rw[hA.not];rfl];cbv;refine ak cr ?_;cbv;rw[al A];rw[al A];refine ak G0 ?_;cbv;refine⟨Cz,?_⟩;cbv;generalize eu:A .ay .eql xo 2=u;rw[aq A]at eu;cases u with
   |true=>
    rw[if_pos eu]at U;cbv;refine vo E KB rQ.eq (λd1 p1 r1 d2 p2 r2 s1 s2=>?_);cbv;have wZ:=s2.len;have wZ:p2=I.length:=wZ;refine SM (nm:=B) (key:=tk) (only:=C) s1 s2 qZ (by omega) (λh5 b1 n1 k1 b2 n2 k2 T' e' l5 r1 r2 r3=>?_);have bu:(bm ⟨⟨B,G,tk,C⟩,I⟩ v).1=⟨⟨B,G,tk,C⟩,T'⟩:=by rw[<-r3]
    rw[bu]at U;cbv;refine(G2.mono (l5.t _)).setAt (by decide) yS rQ.eq rfl (x:=⟨⟨B,G,tk,C⟩,T'⟩) ⟨_,_,_,_,_,_,rfl,r1,r2⟩ (λR k6 t6 o6=>?_);rw[<-U]at o6;have y:=fin R (((Z.trans l5).kp _).trans k6) (iX.RM (V.mono l5) (by rw[U];simp) k6 t6 o6 nF);cbv;exact y
   |false=>
    rw[if_neg (by rw[eu];simp)]at U;have aj:=qZ.len;have aj:nx=v.length:=aj;generalize eg:A .ay .geq tk 0=ug;have fg:=eg;rw[bX A]at eg;rw[eg]at U;generalize el:A .ay .lss tk (A .nat nx)=ul;have ch:=el;rw[aD A,hA.nat,aj,show Int.ofNat v.length=(v.length:Int)from rfl]at el;rw[el]at U;cbv;refine E.yJ KB rQ.eq (o1:=0) (o2:=2) (m:=1) (by decide) (λcs r=>?_);obtain⟨d1,p1,r1,d2,p2,r2,rfl,s1,s2⟩:=r;have s1:Sl 202 bh g (.slice d1 p1 r1) G:=s1;have s2:Sl 46 ba g (.slice d2 p2 r2) I:=s2;have wZ:=s2.len;have wZ:p2=I.length:=wZ;cases ug with
    |false=>have y:=fin g (Z.kp _) (by rw[U];exact V);cbv;rw[fg];cbv;exact y
    |true=>
     have eM:tk>=0:=of_decide_eq_true eg;cbv;rw[fg];cbv;refine E.yJ KB rQ.eq (o1:=0) (o2:=2) (m:=1) (by decide) (λcs r=>?_);obtain⟨d1,p1,r1,d2,p2,r2,rfl,-,-⟩:=r;cbv;cases ul with
     |false=>have y:=fin g (Z.kp _) (by rw[U];exact V);cbv;rw[ch];cbv;exact y
     |true=>
      have eB:tk<(v.length:Int):=of_decide_eq_true el;have dd:tk.toNat<v.length:=by omega
      have bI:aK tk tk.toNat:=⟨(Int.toNat_of_nonneg eM).symm⟩;obtain⟨⟨vk,vn,vs⟩,hv⟩:=ax dd;have dn:qY v tk=⟨vk,vn,vs⟩:=by unfold qY;rw[hv];rfl
      have Zi:bx.isSome=true/\0<=tk/\tk<(nx:Int):=⟨qZ.aQ,bI.ix (by omega)⟩;rw[dn]at U;have Za:tk=((tk.toNat:Nat):Int):=bI.eq;generalize tk.toNat=kk at *;cbv;rw[ch];cbv;refine vo E KB rQ.eq (λd1 p1 r1 d2 p2 r2 s1 s2=>?_);have wZ:=s2.len;have wZ:p2=I.length:=wZ;cbv;refine E.yJ KB rQ.eq (o1:=0) (o2:=2) (m:=1) (by decide) (λcs r=>?_);obtain⟨d3,ea,r3,d4,dZ,r4,rfl,-,-⟩:=r;cbv;refine⟨Zi,?_⟩;cbv;refine qZ.load hv Za (λcs r=>?_);have r:cs=[.int .i64 vk,.int .i64 vn,.string vs]:=r;subst r;cbv;refine Md (nm:=B) (key:=tk) (only:=C) s1 s2 (by omega) ⟨vk,vn,vs⟩ (λh5 b1 n1 k1 b2 n2 k2 b3 n3 k3 T' R' e' l5 r1 r2 dW r3=>?_);have bu:(aY ⟨⟨B,G,tk,C⟩,I⟩ ⟨vk,vn,vs⟩).1=⟨⟨B,G,tk,C⟩,T'⟩:=by rw[<-r3]
      have U:T0=d.set ti (aY ⟨⟨B,G,tk,C⟩,I⟩ ⟨vk,vn,vs⟩).1:=U;rw[bu]at U;cbv;refine(G2.mono (l5.t _)).setAt (by decide) yS rQ.eq rfl (x:=⟨⟨B,G,tk,C⟩,T'⟩) ⟨_,_,_,_,_,_,rfl,r1,r2⟩ (λR k6 t6 o6=>?_);rw[<-U]at o6;have y:=fin R (((Z.trans l5).kp _).trans k6) (iX.RM (V.mono l5) (by rw[U];simp) k6 t6 o6 nF);cbv;exact y
 intro P S;rw[D]at S;obtain⟨Aw,Ax,de⟩:=S;refine⟨Aw,λo3 GM=>?_⟩;obtain⟨g,e4⟩:∃g,g=bu P l o3:=⟨_,rfl⟩;rw[<-e4];have dp:∀tys,bV tys P g:=λtys=>by rw[e4];exact bV.oset (λc e fr F=>by rw[Aw]at F;cases F;exact bC _ _ _ rfl)
 have V:=de.lt dp;rw[List.drop_zero,yR]at V;have cd:g m=some (.deferred (some [])):=by rw[e4,bN aH];exact Ax _ _ fm (by simpa using nm)
 have cz:∀b o,h b=some o->b∉[a,wb]->g b=some o:=λb o Q N=>by
  have DK:b≠l:=λe=>by rw[e]at Q;rw[M _ _ (L _ _ Q)]at hl;cases hl
  rw[e4,bN DK];exact Ax _ _ (bd _ _ (L _ _ Q)) (by simp at N |-;exact N.1)
 refine V.elim (λu1 u2 y3 v3 w3 y4 v4 w4 oo G0 Ho G1 G2 G3 G4 G6 G7 _=>?_);cbv;refine mP (G4.sl G3) hw hz.eq (λfP K eY ag _ cq=>?_);have YV:=ag.len;have YV:K=wl.length:=YV;have Ut:=Hk (A:=A) n K;rw[YV,<-aW]at Ut;have Ut:aK (A .ku (A .imax n 0) (A .nat K)) f:=by rw[YV];exact Ut
 have dH:=ag.bound.2;have UJ:0<=A .ku (A .imax n 0) (A .nat K)/\A .ku (A .imax n 0) (A .nat K)<=(eY:Int):=by have:=Ut.eq;omega
 have ML:=ag.Hu (A:=A) (i:=f) (by omega);have fc:=cM (A:=A) Ut;cbv;refine cq _ _ (Le.refl _) ?_;cbv;refine⟨UJ,?_⟩;cbv;rw[fc];have aN:Sl 161 aV g _ (wl.take f):=ML;have aN:Sl 161 aV g (.slice (A .cut fP 0 (A .nat eY) 3) f eY) (wl.take f):=aN;refine G4.HG (by decide) hw hz.eq rfl (off:=1) (by simp[bE]) (x':=(⟨ws,wl.take f,wm⟩,false)) (λcs r=>?_) (λh5 k5 t5 o5=>?_)
 .obtain⟨x1,y1,z1,x2,y2,z2,rfl,j1,j2,j3⟩:=r;exact⟨_,_,_,_,_,_,rfl,aN,j2,λhf=>by cases hf⟩
 have bF:∀b o,g b=some o->b≠wb->h5 b=some o:=λb o jH fN=>k5 b o jH (by simpa using fN);have di:m≠wb:=λe=>by
  obtain⟨dL,bk,-⟩:=G4.out;rw[<-e,cd]at bk;cases bk
 have cb:=bF _ _ cd di;have q5:iX h5 c a wb ct cw (dw T (wl.drop f)) (W.set i (⟨ws,wl.take f,wm⟩,false)) H Wt e:=by refine⟨u1,u2,y3,v3,w3,y4,v4,w4,oo,bF _ _ G0 mQ,Ho,G1,G2.mono (t5 _ (by decide)),by rw[List.length_set];exact G3,o5,G6.mono (t5 _ (by decide)),G7.mono (t5 _ (by decide))⟩
 obtain⟨R,e6⟩:∃R,R=bu h5 m (.deferred none):=⟨_,rfl⟩;have q6:iX R c a wb ct cw (dw T (wl.drop f)) (W.set i (⟨ws,wl.take f,wm⟩,false)) H Wt e:=q5.lt (λtys=>by rw[e6];exact bV.oset (λc e fr F=>by rw[cb]at F;cases F));have k6:Kp [a,wb] h R:=λb o Q N=>by
  have dh:b≠m:=λe=>by rw[e]at Q;rw[M _ _ (L _ _ Q)]at hm;cases hm
  rw[e6,bN dh];exact bF _ _ (cz b o Q N) (by simp at N;exact N.2)
 rw[aW]at q6;have y:=hk R k6 q6;rw[e6]at y;cbv;exact⟨cb,y⟩
def EV(T:List bJ)(W:List (ep×Bool))(s:Int):List bJ:=
 if gZ (cU W s)=true then match W[cR (cU W s)]? with
  |some w=>dw T w.1.log
  |none=>T
 else T
theorem Ha{W:List (ep×Bool)}{w a:ep×Bool}(h:W[i]? =some w)(c:a.1.s=w.1.s)(s:Int):cU (W.set i a) s=cU W s:=by
 unfold cU;rw[List.map_set];apply List.ext_getElem?;intro j;rw[List.getElem?_set];split
 .rename_i e;subst e;split
  .rw[List.getElem?_map,h];simp[c]
  rename_i b;have:=(List.getElem?_eq_some_iff.1 h).1;simp at b;omega
 rfl
theorem PD{a:Type}{W:List a}{x:a}:(W.set i x).eraseIdx i=W.eraseIdx i:=by exact List.eraseIdx_set_eq
theorem VN{l v x:Nat}{T:List bJ}{W:List (ep×Bool)}{m:List bG}(q:iX h c l wb v x T W H m e)(N:c≠l)(u:c≠wb)(K:ko T)(s:Int)(B:H.length<=2^38)(y:m.length<=2^38)
 (n:∀h',Kp [c,l,wb] h h'->iX h' c l wb v x (EV T W s) (vC W s) (bA H s) (bA m s) e->k (.tuple #[]) h'):Ct 75 [.pointer (some ⟨c,0,none⟩),.int .i64 s] h k:=by
 obtain⟨A,R⟩:=Ar.ex;obtain⟨d,P⟩:∃d,d=EV T W s:=⟨_,rfl⟩;obtain⟨f,Q⟩:∃f,f=vC W s:=⟨_,rfl⟩;rw[<-P,<-Q]at n;refine lS A (ai gJL.au gJL.aN) Tryz.func75 rfl (by kernel_rfl) ?_;cbv;refine oz q s (λO z t p E a=>?_);have F:=q.mono p;cases t with
 |false=>
  have Z:d=T:=by rw[P];unfold EV;rw[<-a];rfl
  cbv;refine Ve F u s B y (λC o b=>?_);rw[<-Q,<-Z]at b;have r:=n C ((p.kp _).trans (o.sub (by simp))) b;cbv;exact r
 |true=>
  have I:cR (cU W s)<W.length:=by have:=im a.symm;simpa[cU]using this
  obtain⟨w,j⟩:=ax I;have Z:d=dw T w.1.log:=by rw[P];unfold EV;rw[<-a,j];rfl
  have g:f=W.eraseIdx (cR (cU W s)):=by rw[Q];unfold vC;rw[<-a];rfl
  obtain⟨i,D⟩:∃i,i=cR (cU W s):=⟨_,rfl⟩;rw[<-D]at E j g;clear P Q;cbv;refine Rl F N u K E j 0 (λC o b=>?_);have h0:eK 0 w.1.log.length=0:=by unfold eK;simp
  rw[h0,List.drop_zero,<-Z]at b;cbv;refine Ve b u s B y (λJ M G=>?_);have L:vC (W.set i (⟨w.1.s,w.1.log.take 0,w.1.marks⟩,false)) s=f:=by unfold vC;rw[Ha j (by rfl),<-a,<-D,g];rw[if_pos rfl,PD]
  rw[L]at G;have r:=n J (((p.kp _).trans (o.sub (by simp))).trans (M.sub (by simp))) G;cbv;exact r
def Wf(ws:List ep):List (ep×Bool):=ws.map λw=>(w,true)
def uz(ws:List ep)(s:Int):List ep:=if gZ (bH ws s)=true then ws.eraseIdx (cR (bH ws s))else ws
def rC(T:List bJ)(ws:List ep)(s:Int):List bJ:=
 if gZ (bH ws s)=true then match ws[cR (bH ws s)]? with
  |some w=>dw T w.log
  |none=>T
 else T
def iI(d:DB)(s:Int):DB:=⟨rC d.aj d.ah s,uz d.ah s,bA d.holds s,bA d.waits s⟩
def kZ:Nat->DB->bG->DB×Int
 |0,d,_=>(d,16)
 |f+1,d,hd=>
  if bz d.holds hd=true then(⟨d.aj,d.ah,cj d.holds hd,cm d.holds d.waits hd⟩,0)
  else if(cL (ca (cj d.holds hd) (cm d.holds d.waits hd)) hd.s).2=true then
   if decide ((cL (ca (cj d.holds hd) (cm d.holds d.waits hd)) hd.s).1=hd.s)=true then(iI ⟨d.aj,d.ah,cj d.holds hd,cm d.holds d.waits hd⟩ (cL (ca (cj d.holds hd) (cm d.holds d.waits hd)) hd.s).1,17)
   else kZ f (iI ⟨d.aj,d.ah,cj d.holds hd,cm d.holds d.waits hd⟩ (cL (ca (cj d.holds hd) (cm d.holds d.waits hd)) hd.s).1) hd
  else(⟨d.aj,d.ah,cj d.holds hd,cm d.holds d.waits hd⟩,16)
def bU(d:DB)(hd:bG):DB×Int:=if Dv d hd=true then kZ (d.holds.length+1) d hd else(d,2)
theorem mY(w:List ep)(s:Int):cU (Wf w) s=bH w s:=by simp[cU,bH,Wf]
theorem Gj(w:List ep)(s:Int):vC (Wf w) s=Wf (uz w s):=by
 unfold vC uz;rw[mY];split
 .unfold Wf;rw[List.eraseIdx_eq_take_drop_succ,List.eraseIdx_eq_take_drop_succ];simp[List.map_take,List.map_drop]
 rfl
theorem Jk(T:List bJ)(w:List ep)(s:Int):EV T (Wf w) s=rC T w s:=by
 unfold EV rC;rw[mY];split
 .unfold Wf;rw[List.getElem?_map];cases w[cR (bH w s)]? <;>rfl
 rfl
theorem EU(E:List (Int×Int)):∀(l:List Int) (st:List Int×List Int),(∀k∈l,k∈E.map (·.2))->(∀k∈st.1,k∈E.map (·.2))->∀k∈(l.foldl cX st).1,k∈E.map (·.2)
 | [],st,_,a=>a
 |x::r,st,b,a=>by
  rw[List.foldl_cons];refine EU E r _ (λk h=>b k (List.mem_cons_of_mem _ h)) (λk h=>?_);unfold cX at h;split at h
  .exact a k h
  rcases List.mem_append.1 h with h|h
  .exact a k h
  simp at h;rw[h];exact b x (by simp)
theorem VH(E:List (Int×Int)):∀(n:Nat) (st:List Int×List Int),(∀k∈st.1,k∈E.map (·.2))->∀k∈aQc E n st,k∈E.map (·.2)
 |0,st,h=>h
 |n+1,(seen,[]),h=>h
 |n+1,(seen,a::r),h=>by
  unfold aQc;refine VH E n _ (EU E _ _ (λk b=>?_) h);unfold cD at b;obtain⟨p,c,rfl⟩:=List.mem_map.1 b;exact List.mem_map.2 ⟨p,(List.mem_filter.1 c).1,rfl⟩
theorem tQ{E:List (Int×Int)}{k:Int}(h:k∈over E s):k∈E.map (·.2):=VH E _ _ (λ_ h=>by cases h) k h
theorem qN{W:List bG}{k:Int}(h:k∈(ca H W).map (·.2)):∃x∈H,x.s=k:=by obtain⟨p,a,rfl⟩:=List.mem_map.1 h;unfold ca at a;obtain⟨w,b,a⟩:=List.mem_flatMap.1 a;unfold gQ at a;obtain⟨x,hx,rfl⟩:=List.mem_map.1 a;exact⟨x,(List.mem_filter.1 hx).1,rfl⟩
theorem Xn{k:Int}(h:∃x∈H,x.s=k):(bA H k).length<H.length:=by
 obtain⟨x,hx,c⟩:=h;unfold bA;rcases Nat.lt_or_ge (H.filter λh=>decide (h.s≠k)).length H.length with a|a
 .exact a
 have b:=List.length_filter_eq_length_iff.1 (Nat.le_antisymm (List.length_filter_le _ _) a) x hx;simp[c]at b
theorem rX{W:List bG}(h:(cL (ca H W) s).2=true):(bA H (cL (ca H W) s).1).length<H.length:=by
 have v:=(nG (ca H W) s).out;rcases v with⟨b,-⟩|⟨-,c,-,a,-⟩
 .rw[h]at b;cases b
 refine Xn (qN (W:=W) ?_);rcases a with a| ⟨a,-⟩
 .rw[a];exact tQ c
 exact tQ a
theorem qQ{T:List bJ}(h:ko T)(w:List ep)(s:Int):ko (rC T w s):=by
 unfold rC;split
 .split
  .exact uU h _
  exact h
 exact h
theorem zB{W:List bG}:(cm H W hd).length<=(bA W hd.s).length+1:=by unfold cm;split<;>simp
theorem ye{W:List bG}:(bA (cm H W hd) hd.s).length<=(bA W hd.s).length:=by
 have h:bA (bA W hd.s) hd.s=bA W hd.s:=by unfold bA;rw[List.filter_filter];simp
 unfold cm;split
 .rw[h];exact Nat.le_refl _
 have:bA (bA W hd.s++[hd]) hd.s=bA W hd.s:=by
  have a:bA (bA W hd.s++[hd]) hd.s=bA (bA W hd.s) hd.s++bA [hd] hd.s:=by unfold bA;rw[List.filter_append]
  rw[a,h];simp[bA]
 rw[this];exact Nat.le_refl _
theorem yd(W:List bG)(a b:Int):bA (bA W a) b=bA (bA W b) a:=by unfold bA;rw[List.filter_filter,List.filter_filter];congr 1;funext x;rw[Bool.and_comm]
theorem FU{ct cw:Nat}(q:iX h c w wb ct cw d.aj (Wf d.ah) d.holds d.waits e)(hd:bG)(nF:c≠w)(mQ:c≠wb)(bc:ko d.aj)
 (hH:d.holds.length<2^18) (aZ:d.waits.length<2^18) {D:DB×Int} (hD:bU d hd=D) 
 (hk:∀h',Kp [c,w,wb] h h'->iX h' c w wb ct cw D.1.aj (Wf D.1.ah) D.1.holds D.1.waits e->k (.int .i64 D.2) h'):
 Ct 115 [.pointer (some ⟨c,0,none⟩),.int .i64 hd.s,.string hd.table,.bool hd.x] h k:=by
 obtain⟨A,hA⟩:=Ar.ex;obtain⟨a,b,hx⟩:=hd;obtain⟨L0,bj⟩:∃L,L=(bA d.waits a).length:=⟨_,rfl⟩;have bC:L0<2^18:=by have:=iD d.waits a;omega
 have eP:A .not true=false:=by rw[hA.not];rfl
 have oI:A .not false=true:=by rw[hA.not];rfl
 refine bB aQG A Tryz.func115 ?_;cbv;intro p4 h1 U e1;cbv;intro p5 h2 Z e2;cbv;intro p6 h3 aj e3;cbv;intro p7 h4 ag e4;have l1:Le h h1:=by rw[e1];exact Le.set U
 have l2:Le h1 h2:=by rw[e2];exact Le.set Z
 have l3:Le h2 h3:=by rw[e3];exact Le.set aj
 have l4:Le h3 h4:=by rw[e4];exact Le.set ag
 have F:h4 p4=some (.cells #[.pointer (some ⟨c,0,none⟩)] 134 (0,0)):=((l2.trans l3).trans l4) _ _ ((congrFun e1 p4).trans ae);have g5:h4 p5=some (.cells #[.int .i64 a] 3 (0,0)):=(l3.trans l4) _ _ ((congrFun e2 p5).trans ae);have g6:h4 p6=some (.cells #[.string b] 9 (0,0)):=l4 _ _ ((congrFun e3 p6).trans ae);have g7:h4 p7=some (.cells #[.bool hx] 4 (0,0)):=(congrFun e4 p7).trans ae;have X:=((l1.trans l2).trans l3).trans l4;have q4:=q.mono X;have jk:∀p,h p=none->p∉[c,w,wb]:=λp P hm=>by
  obtain⟨n1,n2,b3,n3,c3,b4,n4,c4,o,g0,-,-,g2,-,F,-⟩:=q.out;obtain⟨x1,g2,-⟩:=g2.out;obtain⟨x2,F,-⟩:=F.out;simp at hm;rcases hm with rfl|rfl|rfl
  .rw[g0]at P;cases P
  .rw[g2]at P;cases P
  rw[F]at P;cases P
 have n4:=jk p4 U;have n5:=jk p5 (l1.none Z);have n6:=jk p6 ((l1.trans l2).none aj);have n7:=jk p7 (((l1.trans l2).trans l3).none ag);have Es:∀ {hh:ab} (l:Le h hh),Dv d ⟨a,b,hx⟩=false->k (.int .i64 2) hh:=λ{hh} l uq=>by
  have QD:D=(d,2):=by rw[<-hD];unfold bU;rw[uq];rfl
  have:=hk hh (l.kp _) (by rw[QD];exact q.mono l);rw[QD]at this;exact this
 cbv;refine ak F ?_;cbv;refine ak g5 ?_;cbv;refine oz q4 a (λh5 z1 t1 l5 jD T=>?_);rw[mY]at T;have V:=X.trans l5;cases t1 with
 |false=>have E:=Es V (by unfold Dv;rw[<-T];rfl);cbv;rw[oI];cbv;exact E
 |true=>
  cbv;rw[eP];cbv;refine ak (l5 _ _ F) ?_;cbv;refine ak (l5 _ _ g6) ?_;cbv;refine sj (q4.mono l5) b (λh6 z2 t2 l6 kA zU=>?_);have Qs:=V.trans l6;have S:=l5.trans l6;cases t2 with
  |false=>have E:=Es Qs (by unfold Dv;rw[<-T,<-zU];rfl);cbv;rw[oI];cbv;exact E
  |true=>
   have bd:kZ (d.holds.length+1) d ⟨a,b,hx⟩=D:=by rw[<-hD];unfold bU;rw[show Dv d ⟨a,b,hx⟩=true by unfold Dv;rw[<-T,<-zU];rfl];rfl
   have q6:=q4.mono S;have f4:=S _ _ F;have f5:=S _ _ g5;have f6:=S _ _ g6;have f7:=S _ _ g7;clear hD Es F g5 g6 g7 e1 e2 e3 e4 T zU;obtain⟨I,fv⟩:∃I:Nat->ab->Prop,∀m h',I m h'=∃x:DB,x.holds.length<m/\x.holds.length<2^18/\x.waits.length<=2^18/\(bA x.waits a).length<=L0/\ko x.aj/\kZ m x ⟨a,b,hx⟩=D/\Kp [c,w,wb] h6 h'/\iX h' c w wb ct cw x.aj (Wf x.ah) x.holds x.waits e:=⟨_,λ_ _=>rfl⟩;cbv;rw[eP];cbv;refine aG.go (G:=Unit) (λ_=>[]) (λ_=>[]) (λn g h'=>I n h') (d.holds.length+1) () (by constructor<;>cbv) (by rw[fv];exact⟨d,by omega,hH,Nat.le_of_lt aZ,by rw[bj];exact Nat.le_refl _,bc,bd,Kp.refl _ _,q6⟩) ?_
   intro m g h' hI;rw[fv]at hI;cbv;obtain⟨⟨dT,y,i,r⟩,hm,jH,fN,uy,Zj,j,K,hq⟩:=hI;have hq:iX h' c w wb ct cw dT (Wf y) i r e:=hq;have jH:i.length<2^18:=jH;have fN:r.length<=2^18:=fN;have uy:(bA r a).length<=L0:=uy;have hm:i.length<m:=hm;obtain⟨f,rfl⟩:∃f,m=f+1:=⟨m-1,by omega⟩;have k4:=K _ _ f4 n4;have k5:=K _ _ f5 n5;have k6:=K _ _ f6 n6;have k7:=K _ _ f7 n7;have lE:=xL (H:=i) (hd:=⟨a,b,hx⟩);have jG:=zB (H:=i) (W:=r) (hd:=⟨a,b,hx⟩);have jG:(cm i r ⟨a,b,hx⟩).length<=(bA r a).length+1:=jG;have Aw:=ye (H:=i) (W:=r) (hd:=⟨a,b,hx⟩);have Aw:(bA (cm i r ⟨a,b,hx⟩) a).length<=(bA r a).length:=Aw;have bk:bz i ⟨a,b,hx⟩=false->cj i ⟨a,b,hx⟩=i:=λhf=>by unfold cj;rw[hf];rfl
   have Q:=rX (H:=cj i ⟨a,b,hx⟩) (W:=cm i r ⟨a,b,hx⟩) (s:=a);unfold kZ at j;have j:(if bz i ⟨a,b,hx⟩=true then((⟨dT,y,cj i ⟨a,b,hx⟩,cm i r ⟨a,b,hx⟩⟩,0):DB×Int)
    else if(cL (ca (cj i ⟨a,b,hx⟩) (cm i r ⟨a,b,hx⟩)) a).2=true then
     if decide ((cL (ca (cj i ⟨a,b,hx⟩) (cm i r ⟨a,b,hx⟩)) a).1=a)=true then(iI ⟨dT,y,cj i ⟨a,b,hx⟩,cm i r ⟨a,b,hx⟩⟩ (cL (ca (cj i ⟨a,b,hx⟩) (cm i r ⟨a,b,hx⟩)) a).1,17)
     else kZ f (iI ⟨dT,y,cj i ⟨a,b,hx⟩,cm i r ⟨a,b,hx⟩⟩ (cL (ca (cj i ⟨a,b,hx⟩) (cm i r ⟨a,b,hx⟩)) a).1) ⟨a,b,hx⟩
    else(⟨dT,y,cj i ⟨a,b,hx⟩,cm i r ⟨a,b,hx⟩⟩,16))=D:=j
   refine(MQ (hd:=⟨a,b,hx⟩) hq k4 k5 k6 k7 (by omega) (by omega)).mono (λv h7 hR=>?_);obtain⟨au,t,rfl,et,q7⟩:=hR;have J:Kp [c,w,wb] h h7:=((Qs.kp _).trans K).trans (au.sub (by simp));have N:Kp [c,w,wb] h6 h7:=K.trans (au.sub (by simp));have bI:=et;rw[<-et]at j;generalize cj i ⟨a,b,hx⟩=O at *;generalize cm i r ⟨a,b,hx⟩=C at *;cases t with
   |true=>have j:((⟨dT,y,O,C⟩,0):DB×Int)=D:=j;subst j;have E:=hk h7 J q7;cbv;rw[eP];cbv;exact E
   |false=>
    have bp:=bk et.symm;refine q7.elim (λu1 u2 y3 v3 w3 y4 v4 w4 oo G0 Ho G1 G2 G3 G4 Q6 Q7 _=>?_);have bx:=Q6.len;have bF:=Q7.len;have j4:=N _ _ f4 n4;have j5:=N _ _ f5 n5;cbv;rw[oI];cbv;refine ak j4 ?_;cbv;rw[al A];rw[al A];refine ak G0 ?_;cbv;refine ak j5 ?_;cbv;refine(DW Q6 Q7 (by omega) (by omega) a).mono (λv h8 hR=>?_);obtain⟨R,z,tv,rfl,Ap⟩:=hR;obtain⟨TE,Y⟩:=Ap.eq;rw[<-TE,<-Y]at j;rw[<-Y,<-TE]at Q;cases tv with
    |false=>have j:((⟨dT,y,O,C⟩,16):DB×Int)=D:=j;subst j;have E:=hk h8 (J.trans (R.kp _)) (q7.mono R);cbv;rw[oI];cbv;exact E
    |true=>
     have Q:=Q rfl;have j:(if decide (z=a)=true then((iI ⟨dT,y,O,C⟩ z,17):DB×Int)else kZ f (iI ⟨dT,y,O,C⟩ z) ⟨a,b,hx⟩)=D:=j;cbv;rw[eP];cbv;refine ak (R _ _ j4) ?_;cbv;refine VN (q7.mono R) nF mQ Zj z (by omega) (by omega) (λh9 k9 q9=>?_);rw[Jk,Gj]at q9;have br:=(J.trans (R.kp _)).trans k9;have aF:=(N.trans (R.kp _)).trans k9;have i5:=aF _ _ f5 n5;obtain⟨B,oJ⟩:∃B,B=iI ⟨dT,y,O,C⟩ z:=⟨_,rfl⟩;have ao:iX h9 c w wb ct cw B.aj (Wf B.ah) B.holds B.waits e:=by rw[oJ];exact q9
     rw[<-oJ]at j;generalize eu:A .ay .eql z a=u;have fu:=eu;rw[aq A]at eu;rw[eu]at j;cbv;refine ak i5 ?_;cbv;rw[fu];cases u with
     |true=>have j:((B,17):DB×Int)=D:=j;subst j;have E:=hk h9 br ao;cbv;exact E
     |false=>
      have j:kZ f B ⟨a,b,hx⟩=D:=j;have jI:I f h9:=by
       have JC:=iD C z;have M:B.holds=bA O z:=by rw[oJ];rfl
       have aN:B.waits=bA C z:=by rw[oJ];rfl
       have bl:ko B.aj:=by rw[oJ];exact qQ Zj _ _
       have FQ:(bA (bA C z) a).length<=L0:=by rw[yd];have:=iD (bA C a) z;omega
       rw[fv];rw[bp]at Q M;exact⟨B,by rw[M];omega,by rw[M];omega,by rw[aN];omega,by rw[aN];exact FQ,bl,j,aF,ao⟩
      cbv;refine⟨f,(),by omega,by constructor<;>cbv,jI⟩
set_option maxHeartbeats 4000000
structure pQ(n:Nat)(d:DB):Prop where
 aj:d.aj.length<=2^30
 gz:d.ah.Pairwise (λa b=>a.s<b.s)
 oE:∀w∈d.ah,0<=w.s/\w.s<8
 rows:ko d.aj
 holds:d.holds.length<=n
 waits:d.waits.length<=n
 bQj:∀x∈d.holds,0<=x.s/\x.s<8
theorem pQ.le(o:pQ n d)(h:n<=m):pQ m d:=⟨o.aj,o.gz,o.oE,o.rows,Nat.le_trans o.holds h,Nat.le_trans o.waits h,o.bQj⟩
theorem wrap_zero{x:Int}(a:-2^64<x)(b:x<2^64)(h:IntKind.i64.wrap x=0):x=0:=by have s:IntKind.i64.signed=true:=rfl;simp only[IntKind.wrap,IntKind.bits,s]at h;simp at h;split at h<;>omega
theorem Xr(T:List bJ)(x:cC):(eO T x).map (·.S)=T.map (·.S):=by
 have p:∀t r,(bm t r).1.S=t.S:=λt r=>by
  unfold bm;repeat' split
  all_goals rfl
 have b:∀t k,(aY t k).1.S=t.S:=λt k=>by
  unfold aY;split<;>rfl
 have key:∀(i:Nat) (t a:bJ),T[i]? =some t->a.S=t.S->(T.set i a).map (·.S)=T.map (·.S):=λi t a h S=>by
  rw[List.map_set,S];apply List.ext_getElem?;intro j;rw[List.getElem?_set];split
  .rename_i e;subst e;split
   .rw[List.getElem?_map,h];rfl
   rename_i c;rw[List.getElem?_eq_none (by omega)]
  rfl
 unfold eO;split
 .split
  .rename_i t h;split
   .exact key _ _ _ h (p _ _)
   split
   .exact key _ _ _ h (b _ _)
   rfl
  rfl
 rfl
theorem AJ(T:List bJ):∀l,(dw T l).map (·.S)=T.map (·.S)
 | []=>rfl
 |x::r=>(Xr _ _).trans (AJ T r)
theorem Gz(T:List bJ)(w:List ep)(s:Int):(rC T w s).map (·.S)=T.map (·.S):=by
 unfold rC;split
 .split
  .exact AJ _ _
  rfl
 rfl
theorem Oe{T a:List bJ}(h:a.map (·.S)=T.map (·.S))(nm:ByteArray):aB a nm=aB T nm:=by
 have e:∀T:List bJ,aB T nm=(T.map (·.S)).map (λs=>cT s.name nm):=λT=>by simp[aB,Function.comp_def]
 rw[e,e,h]
theorem Wb{T a:List bJ}(h:a.map (·.S)=T.map (·.S)):a.length=T.length:=by have:=congrArg List.length h;simpa using this
theorem aZJ(l:List Int)(p:Nat)(c:p<l.length)(h0:l.getD p 0=0)(F:∀i,i<p->l.getD i 0<0)(a:∀i,p<i->i<l.length->l.getD i 0>0):cR l=p/\gZ l=true:=by
 have h:cR l=p:=ui l p F 0 l.length (λk h d=>by
  rcases Nat.lt_or_ge p k with b|b
  .have:=a k b d;omega
  have:k=p:=by omega
  rw[this,h0];omega) (Nat.zero_le _) (Nat.le_of_lt c)
 exact⟨h,by unfold gZ;rw[h];exact decide_eq_true ⟨c,h0⟩⟩
theorem Bi{w:ep}(h:a[i]? =some w):(bH a s).getD i 0=IntKind.i64.wrap (w.s-s):=by rw[List.getD_eq_getElem?_getD];unfold bH;rw[List.getElem?_map,h];rfl
theorem LV{s:List ep}(k:s.Pairwise (λa b=>a.s<b.s))(r:∀w∈s,0<=w.s/\w.s<8){w:ep}(e:s[i]? =some w):cR (bH s w.s)=i/\gZ (bH s w.s)=true:=by
 have g:=(List.getElem?_eq_some_iff.1 e).1;have l:=r w (List.mem_of_getElem? e);have hl:(bH s w.s).length=s.length:=by simp[bH]
 have get:∀j,j<s.length->∃x,s[j]? =some x/\(bH s w.s).getD j 0=x.s-w.s/\(j<i->x.s<w.s)/\(i<j->w.s<x.s):=λj c=>by
  obtain⟨x,hx⟩:=ax c;have K:=r x (List.mem_of_getElem? hx);refine⟨x,hx,?_,λh=>?_,λh=>?_⟩
  .rw[Bi hx,IntWalk.i64_in _ (by omega)]
  .have:=List.pairwise_iff_getElem.1 k j i c g h;rw[(List.getElem?_eq_some_iff.1 hx).2,(List.getElem?_eq_some_iff.1 e).2]at this;exact this
  have:=List.pairwise_iff_getElem.1 k i j g c h;rw[(List.getElem?_eq_some_iff.1 hx).2,(List.getElem?_eq_some_iff.1 e).2]at this;exact this
 refine aZJ _ i (by rw[hl];exact g) ?_ (λj c=>?_) (λj c I=>?_)
 .obtain⟨x,hx,d,-,-⟩:=get i g;rw[e]at hx;cases hx;rw[d];omega
 .obtain⟨x,hx,d,f,-⟩:=get j (by omega);have:=f c;rw[d];omega
 obtain⟨x,hx,d,-,f⟩:=get j (by rw[<-hl];exact I);have:=f c;rw[d];omega
theorem vV(r:∀w∈a,0<=w.s/\w.s<8)(D:-2^63<=s/\s<2^63)(h:gZ (bH a s)=true):∃w,a[cR (bH a s)]? =some w/\w.s=s:=by
 have h':=of_decide_eq_true h;obtain⟨d,c⟩:=h';have hl:cR (bH a s)<a.length:=by simpa[bH]using d
 obtain⟨w,b⟩:=ax hl;have C:=r w (List.mem_of_getElem? b);rw[Bi b]at c;have:=wrap_zero (by omega) (by omega) c;exact⟨w,b,by omega⟩
theorem kK{c:List ep}(g:c.Pairwise (λa b=>a.s<b.s))(r:∀w∈c,0<=w.s/\w.s<8)(D:-2^63<=s/\s<2^63):gZ (bH c s)=true↔∃w∈c,w.s=s:=by
 constructor
 .intro h;obtain⟨w,d,e⟩:=vV r D h;exact⟨w,List.mem_of_getElem? d,e⟩
 rintro⟨w,d,rfl⟩;obtain⟨i,f,e⟩:=List.getElem_of_mem d;exact(LV g r (i:=i) (by rw[List.getElem?_eq_getElem f,e])).2
theorem xB(w:List ep)(s:Int):(uz w s).Sublist w:=by
 unfold uz;split
 .exact List.eraseIdx_sublist _ _
 exact List.Sublist.refl _
theorem PE{s:List ep}(i:s.Pairwise (λa b=>a.s<b.s))(r:∀w∈s,0<=w.s/\w.s<8){v:Int}(g:-2^63<=v/\v<2^63){w:ep}(d:w∈s)(F:w.s≠v):w∈uz s v:=by
 unfold uz;split
 .rename_i h;obtain⟨x,hx,f⟩:=vV r g h;obtain⟨j,c,Q⟩:=List.getElem_of_mem d;rw[List.mem_eraseIdx_iff_getElem];refine⟨j,c,λe=>?_,Q⟩;rw[<-e,List.getElem?_eq_getElem c,Q]at hx;cases hx;exact F f
 exact d
theorem Rb{W:List bG}(h:(cL (ca H W) s).2=true):∃x∈H,x.s=(cL (ca H W) s).1:=by
 have v:=(nG (ca H W) s).out;rcases v with⟨b,-⟩|⟨-,c,-,a,-⟩
 .rw[h]at b;cases b
 refine qN (W:=W) ?_;rcases a with a| ⟨a,-⟩
 .rw[a];exact tQ c
 exact tQ a
structure WA(n:Nat)(d:DB)(hd:bG)(D:DB×Int):Prop where
 S:D.1.aj.map (·.S)=d.aj.map (·.S)
 ok:pQ (n+1) D.1
 own:D.2=0->∀w∈d.ah,w.s=hd.s->w∈D.1.ah
 sub:D.1.ah.Sublist d.ah
def bJd(d:DB):Prop:=∀x∈d.holds,0<=x.s/\x.s<8
theorem CY(h:∀x∈H,0<=x.s/\x.s<8)(s:0<=hd.s/\hd.s<8):∀x∈cj H hd,0<=x.s/\x.s<8:=λx hx=>by
 unfold cj at hx;repeat' split at hx
 .exact h x hx
 .rcases List.mem_or_eq_of_mem_set hx with a|a
  .exact h x a
  rw[a];exact s
 .rcases List.mem_append.1 hx with a|a
  .exact h x a
  simp at a;rw[a];exact s
 exact h x hx
theorem Iy(n:Nat)(hd:bG)(s:0<=hd.s/\hd.s<8):∀(f:Nat) (d:DB),d.holds.length<f->d.aj.length<=2^30->d.ah.Pairwise (λa b=>a.s<b.s)->(∀w∈d.ah,0<=w.s/\w.s<8)->ko d.aj->d.holds.length<=n->(bA d.waits hd.s).length<=n->bJd d->
 WA n d hd (kZ f d hd)
 |0,d,t,_,_,_,_,_,_,_=>by omega
 |f+1,d,t,l,g,i,m,y,z,k=>by
  have B:=xL (H:=d.holds) (hd:=hd);have C:=zB (H:=d.holds) (W:=d.waits) (hd:=hd);have E:=ye (H:=d.holds) (W:=d.waits) (hd:=hd);unfold kZ;by_cases r:bz d.holds hd=true
  .rw[if_pos r];exact⟨rfl,⟨l,g,i,m,by show(cj _ _).length<=_;omega,by show(cm _ _ _).length<=_;omega,CY k s⟩,λ_ w h _=>h,List.Sublist.refl _⟩
  rw[if_neg r];have p:cj d.holds hd=d.holds:=by unfold cj;rw[if_neg r]
  by_cases A:(cL (ca (cj d.holds hd) (cm d.holds d.waits hd)) hd.s).2=true
  .rw[if_pos A];have S:=Rb A;have c:=rX A;have Z:-2^63<=(cL (ca (cj d.holds hd) (cm d.holds d.waits hd)) hd.s).1/\(cL (ca (cj d.holds hd) (cm d.holds d.waits hd)) hd.s).1<2^63:=by obtain⟨x,hx,q⟩:=S;rw[p]at hx;rw[<-q];have:=k x hx;omega
   generalize (cL (ca (cj d.holds hd) (cm d.holds d.waits hd)) hd.s).1=v at *;have u:=iD (cm d.holds d.waits hd) v;have F:(bA (bA (cm d.holds d.waits hd) v) hd.s).length<=n:=by rw[yd];have:=iD (bA (cm d.holds d.waits hd) hd.s) v;omega
   have Q:(iI ⟨d.aj,d.ah,cj d.holds hd,cm d.holds d.waits hd⟩ v).aj.map (·.S)=d.aj.map (·.S):=Gz _ _ _;have D:(iI ⟨d.aj,d.ah,cj d.holds hd,cm d.holds d.waits hd⟩ v).holds.length<d.holds.length:=by show(bA (cj d.holds hd) v).length<_;rw[p]at c |-;exact c
   have j:(iI ⟨d.aj,d.ah,cj d.holds hd,cm d.holds d.waits hd⟩ v).ah.Sublist d.ah:=xB _ _;by_cases Y:v=hd.s
   .rw[if_pos (decide_eq_true Y)];exact⟨Q,⟨by rw[Wb Q];exact l,g.sublist j,λw h=>i w (j.subset h),qQ m _ _,Nat.le_trans (Nat.le_of_lt D) (by omega),Nat.le_trans u (by omega),λx hx=>CY k s x (List.mem_filter.1 hx).1⟩,(λe=>by cases e),j⟩
   rw[if_neg (by simpa using Y)];have o:=Iy n hd s f (iI ⟨d.aj,d.ah,cj d.holds hd,cm d.holds d.waits hd⟩ v) (by omega) (by rw[Wb Q];exact l) (g.sublist j) (λw h=>i w (j.subset h)) (qQ m _ _) (by omega) F
    (λx hx=>k x (by
     have hx:x∈bA (cj d.holds hd) v:=hx;rw[p]at hx;exact(List.mem_filter.1 hx).1))
   refine⟨o.S.trans Q,o.ok,λe w h I=>o.own e w ?_ I,o.sub.trans j⟩;exact PE g i Z h (by rw[I];exact λe=>Y e.symm)
  rw[if_neg A];exact⟨rfl,⟨l,g,i,m,by show(cj _ _).length<=_;omega,by show(cm _ _ _).length<=_;omega,CY k s⟩,λ_ w h _=>h,List.Sublist.refl _⟩
theorem xg(o:pQ n d)(hd:bG)(h:-2^63<=hd.s/\hd.s<2^63):WA n d hd (bU d hd):=by
 unfold bU;by_cases x:Dv d hd=true
 .rw[if_pos x];unfold Dv at x;rw[Bool.and_eq_true]at x;obtain⟨w,a,b⟩:=(kK o.gz o.oE h).1 x.1;have:=o.oE w a;exact Iy n hd (by omega) _ d (by omega) o.aj o.gz o.oE o.rows o.holds (Nat.le_trans (iD _ _) o.waits) o.bQj
 rw[if_neg x];exact⟨rfl,o.le (by omega),(λe=>by cases e),List.Sublist.refl _⟩
theorem xf(o:pQ n d)(s:-2^63<=hd.s/\hd.s<2^63)(h0:(bU d hd).2=0):
 gZ (aB (bU d hd).1.aj hd.table)=true/\gZ (bH (bU d hd).1.ah hd.s)=true:=by
 have k:=xg o hd s;have x:Dv d hd=true:=by
  cases h:Dv d hd with
  |true=>rfl
  |false=>unfold bU at h0;rw[h]at h0;cases h0
 unfold Dv at x;rw[Bool.and_eq_true]at x;refine⟨by rw[Oe k.S];exact x.2,?_⟩;obtain⟨w,a,e⟩:=(kK o.gz o.oE s).1 x.1;exact(kK k.ok.gz k.ok.oE s).2 ⟨w,k.own h0 w a e,e⟩
end Go.S
