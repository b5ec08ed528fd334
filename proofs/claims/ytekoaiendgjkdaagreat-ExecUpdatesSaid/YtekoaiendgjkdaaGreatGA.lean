import Derived.Test.YtekoaiendgjkdaaGreatEC
import Derived.Test.YtekoaiendgjkdaaGreatRd
set_option linter.unusedVariables false
set_option linter.unusedSimpArgs false
set_option linter.unusedSectionVars false
set_option maxRecDepth 100000
set_option maxHeartbeats 8000000
namespace Go.S
open Go.Sx Go.Proofs
theorem HG{xs:List (dO×Bool)}{h:ad}{nb n cap:Nat}(o:dI 55 cf h nb cap xs)(hn:n=xs.length){z w:Int}{i:Nat}(hz:aS z i)(hw:aS w (i+1))(hi:i<n){k:Value->ad->Prop}
 (hk:∀h' m,m=n-1->Kp [nb] h h'->(∀tys,55∉tys->cF tys h h')->dI 55 cf h' nb cap (xs.eraseIdx i)->k (.slice (some ⟨nb,0,none⟩) m cap) h'):
 Ct 129 [.slice (some ⟨nb,0,none⟩) n cap,.int .i64 z,.int .i64 w] h k:=by
 obtain⟨A,hA⟩:=Ar.ex;have hle:=o.le;have vZ:=o.bd;have fA:=hz.eq;have hwe:=hw.eq;have rE:A .nat n=(n:Int):=by rw[hA.nat];rfl
 have e1:A .aG .eql z w=false:=by rw[aw A];exact decide_eq_false (by omega)
 have q:Sl 55 cf h (.slice (some ⟨nb,0,none⟩) n cap) xs:=o.sl hn;have rI:0<=A .nat n/\A .nat n<=(cap:Int)/\0<=w/\w<=A .nat n/\0<=z/\z<=w:=by rw[rE];omega
 have kW:0<=z/\z<=(cap:Int):=by omega
 have ur:0<=w/\w<=(n:Int):=by omega
 have Ea:∀m,m=n-1->0<=A .nat n/\A .nat n<=(cap:Int)/\0<=A .nat m/\A .nat m<=A .nat n:=fun m hm=>by
  have yE:A .nat m=(m:Int):=by rw[hA.nat];rfl
  rw[rE,yE];omega
 have AP:=q.tW (A:=A) hw (by omega) rfl rfl;have Vn:=dM (A:=A) hz;have M4:=eO (A:=A) (n:=n) hw;have hd3:=eO (A:=A) (n:=cap) hw;refine ah A (ar T129.aA T129.bm) Tryz.func129 rfl (by kernel_rfl) ?_;cbv;refine⟨rI,?_⟩;cbv;rw[e1];cbv;refine⟨kW,?_⟩;cbv;refine⟨ur,?_⟩;cbv;rw[rV (A:=A),Vn,M4];refine o.CE (by decide) (i:=i) (by omega) AP (by omega) (by omega) rfl (fun h1 m hm k1 t1 o1=>?_);have KV:m=n-1:=by omega
 have o2:=o1.shrink (n-1);have heq:(xs.take i++xs.drop (i+1)++xs.drop (i+(n-(i+1)))).take (n-1)=xs.eraseIdx i:=by rw[hn];exact erase_eq (by omega)
 rw[heq]at o2;clear o1 heq hm;have hel:(xs.eraseIdx i).length=n-1:=by rw[List.length_eraseIdx_of_lt (by omega)];omega
 have Ea:=Ea m KV;have hd4:A .sC (A .nat n) (A .nat m)=1:=by rw[eO (A:=A) (aS.nat m)];omega
 cbv;refine⟨Ea,?_⟩;cbv;rw[rU (A:=A) (aS.nat m) (by omega),hd4];refine o2.Wv (by decide) rfl rfl (p:=m) (by omega) (by omega) (fun h2 k2 t2 o3=>?_);have ae:=hk h2 m KV (k1.trans k2) (fun tys hh=>(t1 tys hh).trans (t2 tys hh)) o3;cbv;exact ae
theorem oY{h:ad}{c tb wb ct cw:Nat}{T:List cE}{W:List (dO×Bool)}{H Wt:List bZ}{e:Int}(q:jh h c tb wb ct cw T W H Wt e)(lp:Int){k:Value->ad->Prop}
 (hk:∀h' z t,Le h h'->aS z (dr (dz W lp))->t=lK (dz W lp)->k (.tuple #[.int .i64 z,.bool t]) h'):Ct 49 [.pointer (some ⟨c,0,none⟩),.int .i64 lp] h k:=
 (CV q lp).mono (fun v h' hR=>by
  obtain⟨l,z,t,hv,hb⟩:=hR;obtain⟨h1,h2⟩:=hb.at_;rw[hv];exact hk h' z t l h1 h2)
theorem A8{h:ad}{c tb wb ct cw:Nat}{T:List cE}{W:List (dO×Bool)}{H Wt:List bZ}{e:Int}(q:jh h c tb wb ct cw T W H Wt e)(name:ByteArray){k:Value->ad->Prop}
 (hk:∀h' z t,Le h h'->aS z (dr (aR T name))->t=lK (aR T name)->k (.tuple #[.int .i64 z,.bool t]) h'):Ct 105 [.pointer (some ⟨c,0,none⟩),.string name] h k:=
 (zo q name).mono (fun v h' hR=>by
  obtain⟨l,z,t,hv,hb⟩:=hR;obtain⟨h1,h2⟩:=hb.at_;rw[hv];exact hk h' z t l h1 h2)
theorem S0{nm:ByteArray}{cols:List bT}{key:Int}{only:Bool}{rows:List Row}{r:Row}{h:ad}{sb b4 b:Option Addr}{sn sc n4 c4 n c:Nat}(qs:Sl 165 bt h (.slice sb sn sc) cols)(q4:Sl 59 aL h (.slice b4 n4 c4) rows)(q:Sl 61 bq h (.slice b n c) r)(hn:n4<=2^37){k:Value->ad->Prop}
 (hk:∀h' b1 n1 k1 b2 n2 k2 T e,Le h h'->Sl 165 bt h' (.slice b1 n1 k1) cols->Sl 59 aL h' (.slice b2 n2 k2) T->(⟨⟨⟨nm,cols,key,only⟩,T⟩,e⟩:cE×Int)=bI ⟨⟨nm,cols,key,only⟩,rows⟩ r->k (.tuple #[.agg #[.string nm,.slice b1 n1 k1,.int .i64 key,.bool only,.slice b2 n2 k2],.int .i64 e]) h'):
 Ct 157 [.agg #[.string nm,.slice sb sn sc,.int .i64 key,.bool only,.slice b4 n4 c4],.slice b n c] h k:=
 (QI (nm:=nm) (key:=key) (only:=only) qs q4 q hn).mono (fun v h' hR=>by
  obtain⟨l,b1,n1,k1,b2,n2,k2,e,T,hv,r1,r2,r3⟩:=hR;rw[hv];exact hk h' b1 n1 k1 b2 n2 k2 T e l r1 r2 r3)
theorem NK{nm:ByteArray}{cols:List bT}{key:Int}{only:Bool}{rows:List Row}{h:ad}{sb b4:Option Addr}{sn sc n4 c4:Nat}(qs:Sl 165 bt h (.slice sb sn sc) cols)(q4:Sl 59 aL h (.slice b4 n4 c4) rows)(hn:n4<=2^37)(kv:dg){k:Value->ad->Prop}
 (hk:∀h' b1 n1 k1 b2 n2 k2 b3 n3 k3 T R e,Le h h'->Sl 165 bt h' (.slice b1 n1 k1) cols->Sl 59 aL h' (.slice b2 n2 k2) T->Sl 61 bq h' (.slice b3 n3 k3) R->(⟨⟨⟨nm,cols,key,only⟩,T⟩,R,e⟩:cE×Row×Int)=cK ⟨⟨nm,cols,key,only⟩,rows⟩ kv->k (.tuple #[.agg #[.string nm,.slice b1 n1 k1,.int .i64 key,.bool only,.slice b2 n2 k2],.slice b3 n3 k3,.int .i64 e]) h'):
 Ct 158 [.agg #[.string nm,.slice sb sn sc,.int .i64 key,.bool only,.slice b4 n4 c4],.agg #[.int .i64 kv.k,.int .i64 kv.n,.string kv.s]] h k:=
 (Sm (nm:=nm) (key:=key) (only:=only) qs q4 hn kv).mono (fun v h' hR=>by
  obtain⟨l,b1,n1,k1,b2,n2,k2,b3,n3,k3,e,T,R,hv,r1,r2,r3,r4⟩:=hR;rw[hv];exact hk h' b1 n1 k1 b2 n2 k2 b3 n3 k3 T R e l r1 r2 r3 r4)
theorem B9{H W:List bZ}{h:ad}{b1 b2:Option Addr}{n1 c1 n2 c2:Nat}(q1:Sl 205 bL h (.slice b1 n1 c1) H)(q2:Sl 205 bL h (.slice b2 n2 c2) W)(s:Int)(ma:H.length<=2^38)(nN:W.length<=2^38){k:Value->ad->Prop}
 (hk:∀h' b1 n1 c1 b2 n2 c2,Le h h'->Sl 205 bL h' (.slice b1 n1 c1) (bQ H s)->Sl 205 bL h' (.slice b2 n2 c2) (bQ W s)->k (.agg #[.slice b1 n1 c1,.slice b2 n2 c2]) h'):Ct 130 [.agg #[.slice b1 n1 c1,.slice b2 n2 c2],.int .i64 s] h k:=
 (PA q1 q2 (by rw[q1.len];exact ma) (by rw[q2.len];exact nN) s).mono (fun v h' hR=>by
  obtain⟨l,b1,n1,c1,b2,n2,c2,hv,r1,r2⟩:=hR;rw[hv];exact hk h' b1 n1 c1 b2 n2 c2 l r1 r2)
theorem jh.au{h h1 h':ad}{c tb wb ct cw:Nat}{T:List cE}{W':List (dO×Bool)}{H Wt:List bZ}{e:Int}{n1 n2 m2:Nat}{b3 b4:Option Addr}{n3 c3 n4 c4:Nat}{o:Int}
 (g0:h c=some (.cells #[.slice (some ⟨tb,0,none⟩) n1 ct,.slice (some ⟨wb,0,none⟩) n2 cw,.slice b3 n3 c3,.slice b4 n4 c4,.int .u32 o,.int .i32 0,.int .u32 0,.int .i64 e] 128 (0,0)))
 (ho:(o=0/\e=0)\/(o=1/\e≠0)) (g1:n1=T.length) (g2:dI 51 cY h tb ct T) (g6:Sl 205 bL h (.slice b3 n3 c3) H) (g7:Sl 205 bL h (.slice b4 n4 c4) Wt) (hm:m2=W'.length)
 (l1:∀tys,55∉tys->cF tys h h1) (k1:h1 c=h c) (gw:dI 55 cf h1 wb cw W')
 (hh:h'=bp h1 c (.cells #[.slice (some ⟨tb,0,none⟩) n1 ct,.slice (some ⟨wb,0,none⟩) m2 cw,.slice b3 n3 c3,.slice b4 n4 c4,.int .u32 o,.int .i32 0,.int .u32 0,.int .i64 e] 128 (0,0))):
 Kp [c] h1 h'/\jh h' c tb wb ct cw T W' H Wt e:=by
 have VR:=k1.trans g0;have lt:∀tys,128∉tys->cF tys h1 h':=fun tys hn=>by rw[hh];exact cF.set VR hn
 have l2:∀tys,55∉tys->128∉tys->cF tys h h':=fun tys a b=>(l1 tys a).trans (lt tys b);refine⟨by rw[hh];exact Kp.set (by simp),n1,m2,b3,n3,c3,b4,n4,c4,o,by rw[hh];exact af,ho,g1,g2.mono (l2 _ (by decide) (by decide)),hm,gw.mono (lt _ (by decide)),g6.mono (l2 _ (by decide) (by decide)),g7.mono (l2 _ (by decide) (by decide))⟩
def wA(W:List (dO×Bool))(s:Int):List (dO×Bool):=if lK (dz W s)=true then W.eraseIdx (dr (dz W s))else W
theorem Ly{h:ad}{c tb wb ct cw:Nat}{T:List cE}{W:List (dO×Bool)}{H Wt:List bZ}{e:Int}(q:jh h c tb wb ct cw T W H Wt e)(rH:c≠wb)(s:Int)(ma:H.length<=2^38)(nN:Wt.length<=2^38){k:Value->ad->Prop}
 (hk:∀h',Kp [c,wb] h h'->jh h' c tb wb ct cw T (wA W s) (bQ H s) (bQ Wt s) e->k (.tuple #[]) h'):CtD 61 [.pointer (some ⟨c,0,none⟩),.int .i64 s] h k:=by
 obtain⟨A,hA⟩:=Ar.ex;obtain⟨V,hV⟩:∃V,V=wA W s:=⟨_,rfl⟩;rw[<-hV]at hk;have fin:∀(h1:ad),Kp [c,wb] h h1->jh h1 c tb wb ct cw T V H Wt e->∀(n1 n2:Nat) (b3:Option Addr) (n3 c3:Nat) (b4:Option Addr) (n4 c4:Nat) (o:Int),h1 c=some (.cells #[.slice (some ⟨tb,0,none⟩) n1 ct,.slice (some ⟨wb,0,none⟩) n2 cw,.slice b3 n3 c3,.slice b4 n4 c4,.int .u32 o,.int .i32 0,.int .u32 0,.int .i64 e] 128 (0,0))->
  ((o=0/\e=0)\/(o=1/\e≠0))->n1=T.length->dI 51 cY h1 tb ct T->n2=V.length->dI 55 cf h1 wb cw V->
  ∀(h2:ad) (x3:Option Addr) (m3 k3:Nat) (x4:Option Addr) (m4 k4:Nat),Le h1 h2->Sl 205 bL h2 (.slice x3 m3 k3) (bQ H s)->Sl 205 bL h2 (.slice x4 m4 k4) (bQ Wt s)->
  ∀h3,h3=bp h2 c (.cells #[.slice (some ⟨tb,0,none⟩) n1 ct,.slice (some ⟨wb,0,none⟩) n2 cw,.slice x3 m3 k3,.slice x4 m4 k4,.int .u32 o,.int .i32 0,.int .u32 0,.int .i64 e] 128 (0,0))->k (.tuple #[]) h3:=
  fun h1 k1 _ n1 n2 b3 n3 c3 b4 n4 c4 o g0 ho g1 g2 g3 g4 h2 x3 m3 k3 x4 m4 k4 l2 r3 r4 h3 e3=>by
   have hl:=jh.yy (l2 _ _ g0) ho g1 (g2.mono (l2.t _)) g3 (g4.mono (l2.t _)) r3 r4 e3;exact hk h3 ((k1.trans (l2.kp _)).trans (hl.1.sub (by simp))) hl.2
 refine pk A (ar T61.aA T61.bm) Tryz.func61 rfl (by kernel_rfl) ?_;cbv;refine oY q s (fun h1 z t l1 hz ht=>?_);have q1:=q.mono l1;cases t with
 |false=>
  have hVW:V=W:=by rw[hV];unfold wA;rw[<-ht];rfl
  clear hV;subst hVW;refine q1.elim (fun n1 n2 b3 n3 c3 b4 n4 c4 o g0 ho g1 g2 g3 g4 g6 g7 _=>?_);have fin:=fin h1 (l1.kp _) q1 n1 n2 b3 n3 c3 b4 n4 c4 o g0 ho g1 g2 g3 g4;cbv;rw[ai A];rw[ai A];refine av g0 rfl rfl ?_;cbv;refine B9 g6 g7 s ma nN (fun h2 x3 m3 k3 x4 m4 k4 l2 r3 r4=>?_);cbv;rw[ai A];rw[ai A];refine jz (l2 _ _ g0) (by simp) (fun h3 e3=>?_);have ae:=fin h2 x3 m3 k3 x4 m4 k4 l2 r3 r4 h3 e3;cbv;exact ae
 |true=>
  have hVW:V=W.eraseIdx (dr (dz W s)):=by rw[hV];unfold wA;rw[<-ht];rfl
  have aK:dr (dz W s)<W.length:=by have:=nz ht.symm;simpa[dz]using this
  generalize dr (dz W s)=i at *;clear hV;refine q1.elim (fun n1 n2 b3 n3 c3 b4 n4 c4 o g0 ho g1 g2 g3 g4 g6 g7 _=>?_);have vZ:=g4.bd;have mJ:=hz.succ (A:=A) (by omega);have eW:i<n2:=by omega
  have hlV:V.length=n2-1:=by rw[hVW,List.length_eraseIdx_of_lt aK];omega
  cbv;rw[ai A];rw[ai A];refine av g0 rfl rfl ?_;cbv;refine HG g4 g3 hz mJ eW (fun h2 m hm k2 t2 o2=>?_);have gc2:h2 c=h1 c:=(k2 _ _ g0 (by simpa using rH)).trans g0.symm;rw[<-hVW]at o2;have aC:=fun h3 hh=>jh.au (h':=h3) g0 ho g1 g2 g6 g7 (hm.trans hlV.symm) t2 gc2 o2 hh;have gc2':=gc2.trans g0;cbv;rw[ai A];rw[ai A];refine jz gc2' (by simp) (fun h3 e3=>?_);obtain⟨k3,q3⟩:=aC h3 e3;have DJ:Kp [c,wb] h h3:=((l1.kp _).trans (k2.sub (by simp))).trans (k3.sub (by simp));clear aC e3;refine q3.elim (fun n1 n2 b3 n3 c3 b4 n4 c4 o g0 ho g1 g2 g3 g4 g6 g7 _=>?_);have fin:=fin h3 DJ q3 n1 n2 b3 n3 c3 b4 n4 c4 o g0 ho g1 g2 g3 g4;cbv;rw[ai A];rw[ai A];refine av g0 rfl rfl ?_;cbv;refine B9 g6 g7 s ma nN (fun h4 x3 m3 k3 x4 m4 k4 l4 r3 r4=>?_);cbv;rw[ai A];rw[ai A];refine jz (l4 _ _ g0) (by simp) (fun h5 e5=>?_);have ae:=fin h4 x3 m3 k3 x4 m4 k4 l4 r3 r4 h5 e5;cbv;exact ae
structure Nu(z:Int)(i:Nat):Prop where
 eq:z=(i:Int)-1
theorem Nu.xy{z:Int}{i:Nat}(h:Nu z (i+1)):aS z i:=⟨by have:=h.eq;omega⟩
theorem Nu.ge{A:Ar}[hA:aV A]{z:Int}{i:Nat}(h:Nu z i):A .aG .geq z 0=decide (1<=i):=by have:=h.eq;rw[bS A,decide_eq_decide];omega
theorem _root_.Go.Sx.aS.pred{A:Ar}[hA:aV A]{z:Int}{i:Nat}(h:aS z i)(hi:i<2^62):Nu (A .bA .sub .i64 z 1) i:=⟨by
 have:=h.eq;rw[hA.bA];simp only[bA];rw[IntWalk.i64_in _ (by omega)];omega⟩
abbrev Yd(l:Nat)(args:List Value)(h:ad)(R:Value->ad->Prop):Prop:=Qj (fun _=>Tryz.prog) l args h R
theorem Qb{xs:List iX}{bb l:Nat}{b:Option Addr}{n c:Nat}(J:Nat->ad->Prop)(hJ:∀i hh,J i hh->hh bb=some (.cells #[.slice b n c] 52 (0,0))/\Sl 148 gM hh (.slice b n c) xs)
 (hY:∀i x hh z cs,J (i+1) hh->xs[i]? =some x->aS z i->gM.R hh cs x->Yd l [.int .i64 z,.agg cs.toArray] hh (fun v h'=>v=.bool true/\J i h')) {h:ad} (h0:J n h) {k:Value->ad->Prop}
 (hk:∀h',J 0 h'->k (.tuple #[]) h'):Ct 239 [.func (.yield l) #[] #[],.pointer (some ⟨bb,0,none⟩)] h k:=by
 obtain⟨A,hA⟩:=Ar.ex;obtain⟨g0,q0⟩:=hJ n h h0;have hlen:=q0.len;have vZ:=q0.bound.1;have rB:A .not true=false:=by rw[hA.not];rfl
 have Ff:Nu (A .bA .sub .i64 (A .nat n) 1) n:=(aS.nat n).pred (by omega);refine ah A (ar T239.aA T239.bm) Tryz.func239 rfl (by kernel_rfl) ?_;cbv;refine av g0 rfl rfl ?_;cbv;refine aX.go (G:=Int) (fun g=>[(3,.v (.int .i64 g))]) (fun _=>[]) (fun m g h'=>∃i:Nat,Nu g i/\m=i/\i<=n/\J i h') n (A .bA .sub .i64 (A .nat n) 1) ⟨?_,?_,?_⟩ ⟨n,Ff,rfl,Nat.le_refl _,h0⟩ ?_
 ·cbv
 ·cbv
 ·cbv
 ·intro m g h' hI;cbv;obtain⟨i,hg,hm,eW,hj⟩:=hI;rw[hg.ge (A:=A)];cases i with
  |zero=>have ae:=hk h' hj;rw[show decide (1<=0)=false from rfl];cbv;exact ae
  |succ i=>
   obtain⟨g1,q1⟩:=hJ _ _ hj;have M3:aS g i:=hg.xy;obtain⟨x,hx⟩:=aI (xs:=xs) (i:=i) (by omega);have cU:b.isSome=true/\0<=g/\g<(n:Int):=⟨q1.bu (by omega),M3.ix (by omega)⟩;have ZD:Nu (A .bA .sub .i64 g 1) i:=M3.pred (by omega);rw[show decide (1<=i+1)=true from decide_eq_true (by omega)];cbv;refine av g1 rfl rfl ?_;cbv;refine⟨cU,?_⟩;cbv;refine q1.load hx M3.eq (fun cs aC=>?_);have hyd:=hY i x h' g cs hj hx M3 aC;obtain⟨b1,n1,c1,rfl,-⟩:=aC;cbv;refine hyd.mono (fun v h2 hR=>?_);obtain⟨rfl,K3⟩:=hR;cbv;rw[rB];cbv;refine⟨i,_,by omega,⟨?_,?_,?_⟩,i,ZD,rfl,by omega,K3⟩
   ·cbv
   ·cbv
   ·cbv
theorem Cy{h:ad}{b:Option Addr}{n c:Nat}{k:Value->ad->Prop}(hk:∀h' bb,h bb=none->Le h h'->h' bb=some (.cells #[.slice b n c] 52 (0,0))->k (.func (.func 239) #[] #[.pointer (some ⟨bb,0,none⟩)]) h'):
 Ct 156 [.slice b n c] h k:=by
 obtain⟨A,hA⟩:=Ar.ex;refine ah A (ar T156.aA T156.bm) Tryz.func156 rfl (by kernel_rfl) ?_;cbv;intro bb h1 Z4 e1;have ae:=hk h1 bb Z4 (by rw[e1];exact Le.set Z4) ((congrFun e1 bb).trans af);cbv;exact ae
def xR(r:Row)(key:Int):dg:=(r[key.toNat]?).getD ⟨0,0,jX⟩
def jc(T:List cE)(x:iX):List cE:=
 if lK (aR T x.table)=true then
  match T[dr (aR T x.table)]? with
  |some t=>if decide (x.op=2)=true then T.set (dr (aR T x.table)) (bI t x.row).1
   else if(decide (t.S.key>=0)&&decide (t.S.key<(x.row.length:Int)))=true then T.set (dr (aR T x.table)) (cK t (xR x.row t.S.key)).1 else T
  |none=>T
 else T
def fS(T:List cE)(l:List iX):List cE:=l.foldr (fun x T=>jc T x) T
def eY(n:Int)(len:Nat):Nat:=min n.toNat len
def jg(T:List cE):Prop:=∀t∈T,t.rows.length<=2^36
theorem A6(t:cE)(r:Row)(h:t.rows.length<=2^36):(bI t r).1.rows.length<=2^36:=by
 unfold bI;split
 ·exact h
 ·split
  ·exact h
  ·split
   ·exact h
   ·rename_i h3;have h3:¬((t.rows.length:Int)>=200):=by simpa using h3
    simp[uW];omega
theorem zl(t:cE)(k:dg)(h:t.rows.length<=2^36):(cK t k).1.rows.length<=2^36:=by
 unfold cK;split
 ·simp[Db];omega
 ·exact h
theorem jg.set{T:List cE}(h:jg T){t:cE}(ht:t.rows.length<=2^36)(i:Nat):jg (T.set i t):=fun x hx=>by
 rcases List.mem_or_eq_of_mem_set hx with h1|h1
 ·exact h x h1
 ·rw[h1];exact ht
theorem C6{T:List cE}(h:jg T)(x:iX):jg (jc T x):=by
 unfold jc;split
 ·split
  ·rename_i t ht;have:=h t (List.mem_of_getElem? ht);split
   ·exact h.set (A6 _ _ this) _
   ·split
    ·exact h.set (zl _ _ this) _
    ·exact h
  ·exact h
 ·exact h
theorem pR{T:List cE}(h:jg T):∀l,jg (fS T l)
 | []=>h
 |x::r=>C6 (pR h r) x
theorem C5{T:List cE}{l:List iX}{i:Nat}{x:iX}(hx:l[i]? =some x):fS T (l.drop i)=jc (fS T (l.drop (i+1))) x:=by obtain⟨h1,h2⟩:=List.getElem?_eq_some_iff.1 hx;rw[List.drop_eq_getElem_cons h1,h2];rfl
theorem _root_.Go.Sx.Kp.vH{h h':ad}{nb e:Nat}{c:Array Value}{fr:Nat×Nat}(k:Kp [nb] h h')(hn:h nb=some (.cells c e fr)){tys:List Nat}(he:e∉tys):cF tys h h':=fun b d e' Iz hm hb=>
 k b _ hb (by
  intro jS;simp at jS;rw[jS,hn]at hb;cases hb;exact he hm)
theorem jh.I8{h h':ad}{c tb wb ct cw:Nat}{T T':List cE}{W:List (dO×Bool)}{H Wt:List bZ}{e:Int}(q:jh h c tb wb ct cw T W H Wt e)(hl:T'.length=T.length)(k:Kp [tb] h h')(t:∀tys,51∉tys->cF tys h h')(o:dI 51 cY h' tb ct T')(tR:c≠tb):jh h' c tb wb ct cw T' W H Wt e:=by obtain⟨n1,n2,b3,n3,c3,b4,n4,c4,o1,g0,ho,g1,g2,g3,g4,g6,g7⟩:=q.out;exact⟨n1,n2,b3,n3,c3,b4,n4,c4,o1,k _ _ g0 (by simpa using tR),ho,by rw[hl];exact g1,o,g3,g4.mono (t _ (by decide)),g6.mono (t _ (by decide)),g7.mono (t _ (by decide))⟩
theorem jh.lt{h h':ad}{c tb wb ct cw:Nat}{T:List cE}{W:List (dO×Bool)}{H Wt:List bZ}{e:Int}(q:jh h c tb wb ct cw T W H Wt e)(hl:∀tys,cF tys h h'):jh h' c tb wb ct cw T W H Wt e:=by obtain⟨n1,n2,b3,n3,c3,b4,n4,c4,o,g0,g1,g2,g3,g4,g5,g6,g7⟩:=q.out;exact⟨n1,n2,b3,n3,c3,b4,n4,c4,o,hl [128] _ _ _ _ (by simp) g0,g1,g2,g3.mono (hl _),g4,g5.mono (hl _),g6.mono (hl _),g7.mono (hl _)⟩
theorem cF.oset{tys:List Nat}{h:ad}{n:Nat}{o:Obj}(hn:∀c e fr,h n≠some (.cells c e fr)):cF tys h (bp h n o):=fun b c e fr _ hb=>by
 rw[aP (fun e'=>hn c e fr (by rw[<-e'];exact hb))];exact hb
theorem A1{A:Ar}[hA:aV A](n:Int)(m:Nat):aS (A .lq (A .imax n 0) (A .nat m)) (eY n m):=⟨by
 rw[hA.lq,hA.imax,hA.nat];unfold eY;simp only[Int.ofNat_eq_natCast];omega⟩
theorem IW(n:Int)(m:Nat):eY n m<=m:=by unfold eY;omega
theorem IX{h:ad}{c tb wb ct cw:Nat}{T:List cE}{W:List (dO×Bool)}{H Wt:List bZ}{e:Int}(q:jh h c tb wb ct cw T W H Wt e)(tR:c≠tb)(rH:c≠wb)(Zo:jg T){z:Int}{i:Nat}(hz:aS z i){w:dO×Bool}(hw:W[i]? =some w)(n:Int){k:Value->ad->Prop}
 (hk:∀h',Kp [tb,wb] h h'->jh h' c tb wb ct cw (fS T (w.1.log.drop (eY n w.1.log.length))) (W.set i (⟨w.1.s,w.1.log.take (eY n w.1.log.length),w.1.marks⟩,false)) H Wt e->k (.tuple #[]) h'):
 Ct 78 [.pointer (some ⟨c,0,none⟩),.int .i64 z,.int .i64 n] h k:=by
 obtain⟨A,hA⟩:=Ar.ex;obtain⟨⟨ws,wl,wm⟩,wg⟩:=w;refine q.elim (fun n1 n2 b3 n3 c3 b4 n4 c4 o g0 ho g1 g2 g3 g4 g6 g7 _=>?_);have kh:i<W.length:=(List.getElem?_eq_some_iff.1 hw).1;have Vp:(some (⟨wb,0,none⟩:Addr)).isSome=true/\0<=z/\z<(n2:Int):=⟨rfl,hz.ix (by omega)⟩;refine ju A (ar T78.aA (fun s=>s==3)) Tryz.func78 rfl (by kernel_rfl) ?_;cbv;intro p3 h1 UO e1;have l1:Le h h1:=by rw[e1];exact Le.set UO
 have f3:h1 p3=some (.cells #[.pointer (some ⟨c,0,none⟩)] 109 (0,0)):=(congrFun e1 p3).trans af;have q1:=q.mono l1;have g01:=l1 _ _ g0;have g41:=(g4.sl g3).mono (l1.t [55,148,61,161]);cbv;refine av f3 rfl rfl ?_;cbv;rw[ai A];rw[ai A];refine av g01 rfl rfl ?_;cbv;refine⟨Vp,?_⟩;cbv;refine zR g41 hw hz.eq (fun b1 m1 c1 q1l _ again=>?_);cbv;refine again _ _ (Le.refl _) ?_;have uq:=q1l.len;have uq:m1=wl.length:=uq;have O0:=A1 (A:=A) n m1;have ZI:=IW n m1;rw[uq]at O0 ZI;obtain⟨lo,elo⟩:∃lo,lo=eY n wl.length:=⟨_,rfl⟩;rw[<-elo]at O0 ZI;have kW:0<=A .lq (A .imax n 0) (A .nat m1)/\A .lq (A .imax n 0) (A .nat m1)<=(m1:Int):=by rw[uq];have:=O0.eq;omega
 rw[<-uq]at O0;have AP:=q1l.tW (A:=A) O0 (by omega) rfl rfl;have AP:Sl 148 gM h1 _ (wl.drop lo):=AP;have M4:=eO (A:=A) (n:=m1) O0;have hd3:=eO (A:=A) (n:=c1) O0;cbv;refine⟨kW,?_⟩;cbv;rw[M4,hd3];refine Cy (fun h2 bb Z4 l2 fb=>?_);cbv;refine⟨fun m l o1 o2 hm hl UZ ZA ho2 hY=>?_⟩;obtain⟨xs,uK⟩:∃xs,xs=wl.drop lo:=⟨_,rfl⟩;rw[<-uK]at AP;obtain⟨hb,ehb⟩:∃hb,hb=bp (bp h2 m (.deferred (some []))) l o1:=⟨_,rfl⟩;have YP:Le h2 hb:=by rw[ehb];exact(Le.set hm).trans (Le.set (by rw[aP (Ne.symm UZ)];exact hl))
 have fl:hb l=some o1:=by rw[ehb];exact af
 have fm:hb m=some (.deferred (some [])):=by rw[ehb,aP UZ];exact af
 have fbb:=YP _ _ fb;have f3b:=YP _ _ (l2 _ _ f3);have qb:=(q1.mono l2).mono YP;have ZS:=AP.mono ((l2.trans YP).t _);have Rf:=l2.trans YP;rw[<-ehb];obtain⟨ctb,su,-⟩:=g2.out;have htbb:=Rf _ _ (l1 _ _ su);have nbb:bb≠tb:=fun e=>by rw[e,l1 _ _ su]at Z4;cases Z4
 have n3:p3≠tb:=fun e=>by rw[e,su]at UO;cases UO
 have nl:l≠tb:=fun e=>by rw[e,l2 _ _ (l1 _ _ su)]at hl;cases hl
 have nm:m≠tb:=fun e=>by rw[e,l2 _ _ (l1 _ _ su)]at hm;cases hm
 have nlc:l≠c:=fun e=>by rw[e,l2 _ _ g01]at hl;cases hl
 have n3l:p3≠l:=fun e=>by rw[<-e,l2 _ _ f3]at hl;cases hl
 have aK:∀tys hh,51∉tys->Kp [tb] hb hh->cF tys hb hh:=fun tys hh ht k=>Kp.vH k htbb ht;obtain⟨J,Pf⟩:∃J:Nat->ad->Prop,∀i hh,J i hh=(hh l=some o1/\Kp [tb] hb hh/\jh hh c tb wb ct cw (fS T (xs.drop i)) W H Wt e):=⟨_,fun _ _=>rfl⟩;refine Qb (n:=m1-lo) J (fun i hh hj=>by rw[Pf]at hj;exact⟨hj.2.1 _ _ fbb (by simpa using nbb),ZS.mono (aK _ _ (by decide) hj.2.1)⟩) ?_ (by rw[Pf];exact⟨fl,Kp.refl _ _,by rw[List.drop_eq_nil_of_le (by rw[<-AP.len];exact Nat.le_refl _)];exact qb⟩) ?_
 ·intro j x hh zj cs hj hx Xl aC;have K3:=hj;rw[Pf]at K3;obtain⟨hhl,nO,Hf⟩:=K3;clear hj;refine hY [.int .i64 zj,.agg cs.toArray] hh _ rfl hhl ?_;obtain⟨bx,nx,cx,rfl,qx⟩:=aC;obtain⟨xt,xo,xr⟩:=x;have qx:Sl 61 bq hh (.slice bx nx cx) xr:=qx;cbv;refine⟨hhl,?_⟩;obtain⟨h3,e3⟩:∃h3,h3=bp hh l o2:=⟨_,rfl⟩;rw[<-e3];obtain⟨T1,Pc⟩:∃T1,T1=fS T (xs.drop (j+1)):=⟨_,rfl⟩;have hT1r:jg T1:=by rw[Pc];exact pR Zo _
  have hT0:fS T (xs.drop j)=jc T1 ⟨xt,xo,xr⟩:=by rw[Pc];exact C5 hx
  obtain⟨T0,Pd⟩:∃T0,T0=jc T1 ⟨xt,xo,xr⟩:=⟨_,rfl⟩;have xD:h3 l=some o2:=by rw[e3];exact af
  have zN:∀tys,cF tys hh h3:=fun tys=>by rw[e3];exact cF.oset (fun c e fr he=>by rw[hhl]at he;cases he;exact ZA _ _ _ rfl)
  have fin:∀h',Kp [tb] h3 h'->jh h' c tb wb ct cw T0 W H Wt e->h' l=some o2/\J j (bp h' l o1):=fun h' k' q'=>by
   have D6:=k' _ _ xD (by simpa using nl);rw[Pf];refine⟨D6,af,fun b o sA Eb=>?_,?_⟩
   ·by_cases xh:b=l
    ·rw[xh,fl]at sA;cases sA;rw[xh];exact af
    ·rw[aP xh];refine k' _ _ ?_ Eb;rw[e3,aP xh];exact nO _ _ sA Eb
   ·rw[hT0,<-Pd];exact q'.lt (fun tys=>cF.oset (fun c e fr he=>by rw[D6]at he;cases he;exact ho2 _ _ _ rfl))
  rw[<-Pc]at Hf;have q3:=Hf.lt zN;have qx3:=qx.mono (zN _);have f33:h3 p3=some (.cells #[.pointer (some ⟨c,0,none⟩)] 109 (0,0)):=by rw[e3,aP n3l];exact nO _ _ f3b (by simpa using n3)
  clear e3 zN Hf qx Pc hT0 hY AP ZS;clear uK;refine av f33 rfl rfl ?_;cbv;refine A8 q3 xt (fun h4 zt t l4 DO ht=>?_);have q4:=q3.mono l4;cases t with
  |false=>
   have hU:T0=T1:=by rw[Pd];unfold jc;rw[<-ht];rfl
   have ae:=fin h4 (l4.kp _) (by rw[hU];exact q4);cbv;rw[show A .not false=true by rw[hA.not];rfl];cbv;exact ae
  |true=>
   have Zh:dr (aR T1 xt)<T1.length:=by have:=nz ht.symm;simpa[aR]using this
   obtain⟨⟨⟨tn,tc,tk,to⟩,tr⟩,OS⟩:=aI Zh;have hU:T0=if decide (xo=2)=true then T1.set (dr (aR T1 xt)) (bI ⟨⟨tn,tc,tk,to⟩,tr⟩ xr).1
    else if(decide (tk>=0)&&decide (tk<(xr.length:Int)))=true then T1.set (dr (aR T1 xt)) (cK ⟨⟨tn,tc,tk,to⟩,tr⟩ (xR xr tk)).1 else T1:=by rw[Pd];unfold jc;rw[<-ht,OS];rfl
   have htr:tr.length<=2^36:=hT1r ⟨⟨tn,tc,tk,to⟩,tr⟩ (List.mem_of_getElem? OS);generalize dr (aR T1 xt)=ti at *;clear Pd ht;refine q4.elim (fun u1 u2 y3 v3 w3 y4 v4 w4 oo G0 Ho G1 G2 G3 G4 G6 G7 _=>?_);have Vq:(some (⟨tb,0,none⟩:Addr)).isSome=true/\0<=zt/\zt<(u1:Int):=⟨rfl,DO.ix (by omega)⟩;have G2s:=G2.sl G1;have f34:=l4 _ _ f33;have qx4:=qx3.mono (l4.t _);cbv;rw[show A .not true=false by rw[hA.not];rfl];cbv;refine av f34 rfl rfl ?_;cbv;rw[ai A];rw[ai A];refine av G0 rfl rfl ?_;cbv;refine⟨Vq,?_⟩;cbv;generalize eu:A .aG .eql xo 2=u;rw[aw A]at eu;cases u with
   |true=>
    rw[if_pos eu]at hU;cbv;refine zQ G2s OS DO.eq (fun d1 p1 r1 d2 p2 r2 s1 s2=>?_);cbv;have DW:=s2.len;have DW:p2=tr.length:=DW;refine S0 (nm:=tn) (key:=tk) (only:=to) s1 s2 qx4 (by omega) (fun h5 b1 n1 k1 b2 n2 k2 T' e' l5 r1 r2 r3=>?_);have bp:(bI ⟨⟨tn,tc,tk,to⟩,tr⟩ xr).1=⟨⟨tn,tc,tk,to⟩,T'⟩:=by rw[<-r3]
    rw[bp]at hU;cbv;refine(G2.mono (l5.t _)).setAt (by decide) Zh DO.eq rfl (x:=⟨⟨tn,tc,tk,to⟩,T'⟩) ⟨_,_,_,_,_,_,rfl,r1,r2⟩ (fun h6 k6 t6 o6=>?_);rw[<-hU]at o6;have ae:=fin h6 (((l4.trans l5).kp _).trans k6) (jh.I8 (q4.mono l5) (by rw[hU];simp) k6 t6 o6 tR);cbv;exact ae
   |false=>
    rw[if_neg (by rw[eu];simp)]at hU;have hxr:=qx4.len;have hxr:nx=xr.length:=hxr;generalize eg:A .aG .geq tk 0=ug;have fg:=eg;rw[bS A]at eg;rw[eg]at hU;generalize el:A .aG .lss tk (A .nat nx)=ul;have fl2:=el;rw[bE A,hA.nat,hxr,show Int.ofNat xr.length=(xr.length:Int)from rfl]at el;rw[el]at hU;cbv;refine G2s.vG OS DO.eq (o1:=0) (o2:=2) (m:=1) (by decide) (fun cs aC=>?_);obtain⟨d1,p1,r1,d2,p2,r2,rfl,s1,s2⟩:=aC;have s1:Sl 165 bt h4 (.slice d1 p1 r1) tc:=s1;have s2:Sl 59 aL h4 (.slice d2 p2 r2) tr:=s2;have DW:=s2.len;have DW:p2=tr.length:=DW;cases ug with
    |false=>have ae:=fin h4 (l4.kp _) (by rw[hU];exact q4);cbv;rw[fg];cbv;exact ae
    |true=>
     have M0:tk>=0:=of_decide_eq_true eg;cbv;rw[fg];cbv;refine G2s.vG OS DO.eq (o1:=0) (o2:=2) (m:=1) (by decide) (fun cs aC=>?_);obtain⟨d1,p1,r1,d2,p2,r2,rfl,-,-⟩:=aC;cbv;cases ul with
     |false=>have ae:=fin h4 (l4.kp _) (by rw[hU];exact q4);cbv;rw[fl2];cbv;exact ae
     |true=>
      have nO:tk<(xr.length:Int):=of_decide_eq_true el;have hktn:tk.toNat<xr.length:=by omega
      have hkN:aS tk tk.toNat:=⟨(Int.toNat_of_nonneg M0).symm⟩;obtain⟨⟨vk,vn,vs⟩,hv⟩:=aI hktn;have hvA:xR xr tk=⟨vk,vn,vs⟩:=by unfold xR;rw[hv];rfl
      have O7:bx.isSome=true/\0<=tk/\tk<(nx:Int):=⟨qx4.bu (by omega),hkN.ix (by omega)⟩;rw[hvA]at hU;have KZ:tk=((tk.toNat:Nat):Int):=hkN.eq;generalize tk.toNat=kk at *;cbv;rw[fl2];cbv;refine zQ G2s OS DO.eq (fun d1 p1 r1 d2 p2 r2 s1 s2=>?_);have DW:=s2.len;have DW:p2=tr.length:=DW;cbv;refine G2s.vG OS DO.eq (o1:=0) (o2:=2) (m:=1) (by decide) (fun cs aC=>?_);obtain⟨d3,p3',r3,d4,p4',r4,rfl,-,-⟩:=aC;cbv;refine⟨O7,?_⟩;cbv;refine qx4.load hv KZ (fun cs aC=>?_);have aC:cs=[.int .i64 vk,.int .i64 vn,.string vs]:=aC;subst aC;cbv;refine NK (nm:=tn) (key:=tk) (only:=to) s1 s2 (by omega) ⟨vk,vn,vs⟩ (fun h5 b1 n1 k1 b2 n2 k2 b3 n3 k3 T' R' e' l5 r1 r2 r2' r3=>?_);have bp:(cK ⟨⟨tn,tc,tk,to⟩,tr⟩ ⟨vk,vn,vs⟩).1=⟨⟨tn,tc,tk,to⟩,T'⟩:=by rw[<-r3]
      have hU:T0=T1.set ti (cK ⟨⟨tn,tc,tk,to⟩,tr⟩ ⟨vk,vn,vs⟩).1:=hU;rw[bp]at hU;cbv;refine(G2.mono (l5.t _)).setAt (by decide) Zh DO.eq rfl (x:=⟨⟨tn,tc,tk,to⟩,T'⟩) ⟨_,_,_,_,_,_,rfl,r1,r2⟩ (fun h6 k6 t6 o6=>?_);rw[<-hU]at o6;have ae:=fin h6 (((l4.trans l5).kp _).trans k6) (jh.I8 (q4.mono l5) (by rw[hU];simp) k6 t6 o6 tR);cbv;exact ae
 ·intro h3 hj;rw[Pf]at hj;obtain⟨xD,CQ,MS⟩:=hj;refine⟨xD,fun o3 AN=>?_⟩;obtain⟨h4,e4⟩:∃h4,h4=bp h3 l o3:=⟨_,rfl⟩;rw[<-e4];have lt4:∀tys,cF tys h3 h4:=fun tys=>by rw[e4];exact cF.oset (fun c e fr he=>by rw[xD]at he;cases he;exact ZA _ _ _ rfl)
  have q4:=MS.lt lt4;rw[List.drop_zero,uK]at q4;have fm4:h4 m=some (.deferred (some [])):=by rw[e4,aP UZ];exact CQ _ _ fm (by simpa using nm)
  have kall:∀b o,h b=some o->b∉[tb,wb]->h4 b=some o:=fun b o sA Eb=>by
   have xh:b≠l:=fun e=>by rw[e]at sA;rw[l2 _ _ (l1 _ _ sA)]at hl;cases hl
   rw[e4,aP xh];exact CQ _ _ (Rf _ _ (l1 _ _ sA)) (by simp at Eb |-;exact Eb.1)
  refine q4.elim (fun u1 u2 y3 v3 w3 y4 v4 w4 oo G0 Ho G1 G2 G3 G4 G6 G7 _=>?_);cbv;refine zR (G4.sl G3) hw hz.eq (fun b1' Tv RZ SZ _ WU=>?_);have OY:=SZ.len;have OY:Tv=wl.length:=OY;have KX:=A1 (A:=A) n Tv;rw[OY,<-elo]at KX;have KX:aS (A .lq (A .imax n 0) (A .nat Tv)) lo:=by rw[OY];exact KX
  have hbd':=SZ.bound.2;have Lf:0<=A .lq (A .imax n 0) (A .nat Tv)/\A .lq (A .imax n 0) (A .nat Tv)<=(RZ:Int):=by have:=KX.eq;omega
  have Xp:=SZ.EL (A:=A) (i:=lo) (by omega);have kV:=dM (A:=A) KX;cbv;refine WU _ _ (Le.refl _) ?_;cbv;refine⟨Lf,?_⟩;cbv;rw[kV];have UG:Sl 148 gM h4 _ (wl.take lo):=Xp;have UG:Sl 148 gM h4 (.slice (A .cut b1' 0 (A .nat RZ) 3) lo RZ) (wl.take lo):=UG;refine G4.Jk (by decide) hw hz.eq rfl (off:=1) (by simp[cf]) (x':=(⟨ws,wl.take lo,wm⟩,false)) (fun cs aC=>?_) (fun h5 k5 t5 o5=>?_)
  ·obtain⟨x1,y1,z1,x2,y2,z2,rfl,j1,j2,j3⟩:=aC;exact⟨_,_,_,_,_,_,rfl,UG,j2,fun hf=>by cases hf⟩
  ·have bW:∀b o,h4 b=some o->b≠wb->h5 b=some o:=fun b o ll jS=>k5 b o ll (by simpa using jS);have nmw:m≠wb:=fun e=>by
    obtain⟨cw',ZX,-⟩:=G4.out;rw[<-e,fm4]at ZX;cases ZX
   have fm5:=bW _ _ fm4 nmw;have q5:jh h5 c tb wb ct cw (fS T (wl.drop lo)) (W.set i (⟨ws,wl.take lo,wm⟩,false)) H Wt e:=by refine⟨u1,u2,y3,v3,w3,y4,v4,w4,oo,bW _ _ G0 rH,Ho,G1,G2.mono (t5 _ (by decide)),by rw[List.length_set];exact G3,o5,G6.mono (t5 _ (by decide)),G7.mono (t5 _ (by decide))⟩
   obtain⟨h6,e6⟩:∃h6,h6=bp h5 m (.deferred none):=⟨_,rfl⟩;have q6:jh h6 c tb wb ct cw (fS T (wl.drop lo)) (W.set i (⟨ws,wl.take lo,wm⟩,false)) H Wt e:=q5.lt (fun tys=>by rw[e6];exact cF.oset (fun c e fr he=>by rw[fm5]at he;cases he));have k6:Kp [tb,wb] h h6:=fun b o sA Eb=>by
    have Vu:b≠m:=fun e=>by rw[e]at sA;rw[l2 _ _ (l1 _ _ sA)]at hm;cases hm
    rw[e6,aP Vu];exact bW _ _ (kall b o sA Eb) (by simp at Eb;exact Eb.2)
   rw[elo]at q6;have ae:=hk h6 k6 q6;rw[e6]at ae;cbv;exact⟨fm5,ae⟩
def yS(T:List cE)(W:List (dO×Bool))(s:Int):List cE:=
 if lK (dz W s)=true then match W[dr (dz W s)]? with
  |some w=>fS T w.1.log
  |none=>T
 else T
theorem AV{W:List (dO×Bool)}{i:Nat}{w w':dO×Bool}(hw:W[i]? =some w)(hs:w'.1.s=w.1.s)(s:Int):dz (W.set i w') s=dz W s:=by
 unfold dz;rw[List.map_set];apply List.ext_getElem?;intro j;rw[List.getElem?_set];split
 ·rename_i e;subst e;split
  ·rw[List.getElem?_map,hw];simp[hs]
  ·rename_i h1;have:=(List.getElem?_eq_some_iff.1 hw).1;simp at h1;omega
 ·rfl
theorem HD{α:Type}{W:List α}{i:Nat}{x:α}:(W.set i x).eraseIdx i=W.eraseIdx i:=by exact List.eraseIdx_set_eq
theorem Mh{h:ad}{c tb wb ct cw:Nat}{T:List cE}{W:List (dO×Bool)}{H Wt:List bZ}{e:Int}(q:jh h c tb wb ct cw T W H Wt e)(tR:c≠tb)(rH:c≠wb)(Zo:jg T)(s:Int)(ma:H.length<=2^38)(nN:Wt.length<=2^38){k:Value->ad->Prop}
 (hk:∀h',Kp [c,tb,wb] h h'->jh h' c tb wb ct cw (yS T W s) (wA W s) (bQ H s) (bQ Wt s) e->k (.tuple #[]) h'):Ct 76 [.pointer (some ⟨c,0,none⟩),.int .i64 s] h k:=by
 obtain⟨A,hA⟩:=Ar.ex;obtain⟨T1,Pc⟩:∃T1,T1=yS T W s:=⟨_,rfl⟩;obtain⟨W1,hW1⟩:∃W1,W1=wA W s:=⟨_,rfl⟩;rw[<-Pc,<-hW1]at hk;refine ju A (ar T76.aA T76.bm) Tryz.func76 rfl (by kernel_rfl) ?_;cbv;refine oY q s (fun h1 z t l1 hz ht=>?_);have q1:=q.mono l1;cases t with
 |false=>
  have Hs:T1=T:=by rw[Pc];unfold yS;rw[<-ht];rfl
  cbv;refine Ly q1 rH s ma nN (fun h2 k2 q2=>?_);rw[<-hW1,<-Hs]at q2;have ae:=hk h2 ((l1.kp _).trans (k2.sub (by simp))) q2;cbv;exact ae
 |true=>
  have aK:dr (dz W s)<W.length:=by have:=nz ht.symm;simpa[dz]using this
  obtain⟨w,hw⟩:=aI aK;have Hs:T1=fS T w.1.log:=by rw[Pc];unfold yS;rw[<-ht,hw];rfl
  have hWW:W1=W.eraseIdx (dr (dz W s)):=by rw[hW1];unfold wA;rw[<-ht];rfl
  obtain⟨i,hi⟩:∃i,i=dr (dz W s):=⟨_,rfl⟩;rw[<-hi]at hz hw hWW;clear Pc hW1;cbv;refine IX q1 tR rH Zo hz hw 0 (fun h2 k2 q2=>?_);have h0:eY 0 w.1.log.length=0:=by unfold eY;simp
  rw[h0,List.drop_zero,<-Hs]at q2;cbv;refine Ly q2 rH s ma nN (fun h3 k3 q3=>?_);have hE:wA (W.set i (⟨w.1.s,w.1.log.take 0,w.1.marks⟩,false)) s=W1:=by unfold wA;rw[AV hw (by rfl),<-ht,<-hi,hWW];rw[if_pos rfl,HD]
  rw[hE]at q3;have ae:=hk h3 (((l1.kp _).trans (k2.sub (by simp))).trans (k3.sub (by simp))) q3;cbv;exact ae
def Wf(ws:List dO):List (dO×Bool):=ws.map fun w=>(w,true)
def wC(ws:List dO)(s:Int):List dO:=if lK (cA ws s)=true then ws.eraseIdx (dr (cA ws s))else ws
def oW(T:List cE)(ws:List dO)(s:Int):List cE:=
 if lK (cA ws s)=true then match ws[dr (cA ws s)]? with
  |some w=>fS T w.log
  |none=>T
 else T
def kZ(d:DB)(s:Int):DB:=⟨oW d.aE d.au s,wC d.au s,bQ d.holds s,bQ d.waits s⟩
def gH:Nat->DB->bZ->DB×Int
 |0,d,_=>(d,16)
 |f+1,d,hd=>
  if bF d.holds hd=true then(⟨d.aE,d.au,cd d.holds hd,cV d.holds d.waits hd⟩,0)
  else if(dt (cI (cd d.holds hd) (cV d.holds d.waits hd)) hd.s).2=true then
   if decide ((dt (cI (cd d.holds hd) (cV d.holds d.waits hd)) hd.s).1=hd.s)=true then(kZ ⟨d.aE,d.au,cd d.holds hd,cV d.holds d.waits hd⟩ (dt (cI (cd d.holds hd) (cV d.holds d.waits hd)) hd.s).1,17)
   else gH f (kZ ⟨d.aE,d.au,cd d.holds hd,cV d.holds d.waits hd⟩ (dt (cI (cd d.holds hd) (cV d.holds d.waits hd)) hd.s).1) hd
  else(⟨d.aE,d.au,cd d.holds hd,cV d.holds d.waits hd⟩,16)
def ay(d:DB)(hd:bZ):DB×Int:=if Dv d hd=true then gH (d.holds.length+1) d hd else(d,2)
theorem mN(ws:List dO)(s:Int):dz (Wf ws) s=cA ws s:=by simp[dz,cA,Wf]
theorem FD(ws:List dO)(s:Int):wA (Wf ws) s=Wf (wC ws s):=by
 unfold wA wC;rw[mN];split
 ·unfold Wf;rw[List.eraseIdx_eq_take_drop_succ,List.eraseIdx_eq_take_drop_succ];simp[List.map_take,List.map_drop]
 ·rfl
theorem Cz(T:List cE)(ws:List dO)(s:Int):yS T (Wf ws) s=oW T ws s:=by
 unfold yS oW;rw[mN];split
 ·unfold Wf;rw[List.getElem?_map];cases ws[dr (cA ws s)]? <;>rfl
 ·rfl
theorem yR(E:List (Int×Int)):∀(l:List Int) (st:List Int×List Int),(∀k∈l,k∈E.map (·.2))->(∀k∈st.1,k∈E.map (·.2))->∀k∈(l.foldl fX st).1,k∈E.map (·.2)
 | [],st,_,h2=>h2
 |x::r,st,h1,h2=>by
  rw[List.foldl_cons];refine yR E r _ (fun k hk=>h1 k (List.mem_cons_of_mem _ hk)) (fun k hk=>?_);unfold fX at hk;split at hk
  ·exact h2 k hk
  ·rcases List.mem_append.1 hk with hk|hk
   ·exact h2 k hk
   ·simp at hk;rw[hk];exact h1 x (by simp)
theorem L8(E:List (Int×Int)):∀(n:Nat) (st:List Int×List Int),(∀k∈st.1,k∈E.map (·.2))->∀k∈XR E n st,k∈E.map (·.2)
 |0,st,h=>h
 |n+1,(seen,[]),h=>h
 |n+1,(seen,a::r),h=>by
  unfold XR;refine L8 E n _ (yR E _ _ (fun k hk=>?_) h);unfold cR at hk;obtain⟨p,hp,rfl⟩:=List.mem_map.1 hk;exact List.mem_map.2 ⟨p,(List.mem_filter.1 hp).1,rfl⟩
theorem ra{E:List (Int×Int)}{s k:Int}(h:k∈over E s):k∈E.map (·.2):=L8 E _ _ (fun _ h=>by cases h) k h
theorem qB{H W:List bZ}{k:Int}(h:k∈(cI H W).map (·.2)):∃x∈H,x.s=k:=by obtain⟨p,hp,rfl⟩:=List.mem_map.1 h;unfold cI at hp;obtain⟨w,hw,hp⟩:=List.mem_flatMap.1 hp;unfold fE at hp;obtain⟨x,hx,rfl⟩:=List.mem_map.1 hp;exact⟨x,(List.mem_filter.1 hx).1,rfl⟩
theorem Nx{H:List bZ}{k:Int}(h:∃x∈H,x.s=k):(bQ H k).length<H.length:=by
 obtain⟨x,hx,hk⟩:=h;unfold bQ;rcases Nat.lt_or_ge (H.filter fun h=>decide (h.s≠k)).length H.length with h1|h1
 ·exact h1
 ·have h2:=List.length_filter_eq_length_iff.1 (Nat.le_antisymm (List.length_filter_le _ _) h1) x hx;simp[hk]at h2
theorem tu{H W:List bZ}{s:Int}(h:(dt (cI H W) s).2=true):(bQ H (dt (cI H W) s).1).length<H.length:=by
 have hv:=(mO (cI H W) s).out;rcases hv with ⟨h1,-⟩ | ⟨-,h2,-,h4,-⟩
 ·rw[h]at h1;cases h1
 ·refine Nx (qB (W:=W) ?_);rcases h4 with h4| ⟨h4,-⟩
  ·rw[h4];exact ra h2
  ·exact ra h4
theorem qC{T:List cE}(h:jg T)(ws:List dO)(s:Int):jg (oW T ws s):=by
 unfold oW;split
 ·split
  ·exact pR h _
  ·exact h
 ·exact h
theorem yT{H W:List bZ}{hd:bZ}:(cV H W hd).length<=(bQ W hd.s).length+1:=by unfold cV;split<;>simp
theorem xO{H W:List bZ}{hd:bZ}:(bQ (cV H W hd) hd.s).length<=(bQ W hd.s).length:=by
 have h1:bQ (bQ W hd.s) hd.s=bQ W hd.s:=by unfold bQ;rw[List.filter_filter];simp
 unfold cV;split
 ·rw[h1];exact Nat.le_refl _
 ·have:bQ (bQ W hd.s++[hd]) hd.s=bQ W hd.s:=by
   have h2:bQ (bQ W hd.s++[hd]) hd.s=bQ (bQ W hd.s) hd.s++bQ [hd] hd.s:=by unfold bQ;rw[List.filter_append]
   rw[h2,h1];simp[bQ]
  rw[this];exact Nat.le_refl _
theorem xN(W:List bZ)(a b:Int):bQ (bQ W a) b=bQ (bQ W b) a:=by unfold bQ;rw[List.filter_filter,List.filter_filter];congr 1;funext x;rw[Bool.and_comm]
theorem Fm{d:DB}{h:ad}{c tb wb ct cw:Nat}{e:Int}(q:jh h c tb wb ct cw d.aE (Wf d.au) d.holds d.waits e)(hd:bZ)(tR:c≠tb)(rH:c≠wb)(Zo:jg d.aE)
 (hH:d.holds.length<2^18) (hWt:d.waits.length<2^18) {D:DB×Int} (hD:ay d hd=D) {k:Value->ad->Prop}
 (hk:∀h',Kp [c,tb,wb] h h'->jh h' c tb wb ct cw D.1.aE (Wf D.1.au) D.1.holds D.1.waits e->k (.int .i64 D.2) h'):
 Ct 244 [.pointer (some ⟨c,0,none⟩),.int .i64 hd.s,.string hd.table,.bool hd.x] h k:=by
 obtain⟨A,hA⟩:=Ar.ex;obtain⟨hs,ht,hx⟩:=hd;obtain⟨L0,hL0⟩:∃L,L=(bQ d.waits hs).length:=⟨_,rfl⟩;have hL18:L0<2^18:=by have:=mg d.waits hs;omega
 have rB:A .not true=false:=by rw[hA.not];rfl
 have vO:A .not false=true:=by rw[hA.not];rfl
 refine ah A (ar T244.aA T244.bm) Tryz.func244 rfl (by kernel_rfl) ?_;cbv;intro p4 h1 Zx e1;cbv;intro p5 h2 hp5 e2;cbv;intro p6 h3 hp6 e3;cbv;intro p7 h4 hp7 e4;have l1:Le h h1:=by rw[e1];exact Le.set Zx
 have l2:Le h1 h2:=by rw[e2];exact Le.set hp5
 have l3:Le h2 h3:=by rw[e3];exact Le.set hp6
 have l4:Le h3 h4:=by rw[e4];exact Le.set hp7
 have g4:h4 p4=some (.cells #[.pointer (some ⟨c,0,none⟩)] 109 (0,0)):=((l2.trans l3).trans l4) _ _ ((congrFun e1 p4).trans af);have g5:h4 p5=some (.cells #[.int .i64 hs] 3 (0,0)):=(l3.trans l4) _ _ ((congrFun e2 p5).trans af);have g6:h4 p6=some (.cells #[.string ht] 9 (0,0)):=l4 _ _ ((congrFun e3 p6).trans af);have g7:h4 p7=some (.cells #[.bool hx] 4 (0,0)):=(congrFun e4 p7).trans af;have nT:=((l1.trans l2).trans l3).trans l4;have q4:=q.mono nT;have jZ:∀p,h p=none->p∉[c,tb,wb]:=fun p hp hm=>by
  obtain⟨n1,n2,b3,n3,c3,b4,n4,c4,o,g0,-,-,g2,-,g4,-⟩:=q.out;obtain⟨x1,g2,-⟩:=g2.out;obtain⟨x2,g4,-⟩:=g4.out;simp at hm;rcases hm with rfl|rfl|rfl
  ·rw[g0]at hp;cases hp
  ·rw[g2]at hp;cases hp
  ·rw[g4]at hp;cases hp
 have n4:=jZ p4 Zx;have n5:=jZ p5 (l1.none hp5);have n6:=jZ p6 ((l1.trans l2).none hp6);have n7:=jZ p7 (((l1.trans l2).trans l3).none hp7);have JS:∀ {hh:ad} (l:Le h hh),Dv d ⟨hs,ht,hx⟩=false->k (.int .i64 2) hh:=fun{hh} l OX=>by
  have hD2:D=(d,2):=by rw[<-hD];unfold ay;rw[OX];rfl
  have:=hk hh (l.kp _) (by rw[hD2];exact q.mono l);rw[hD2]at this;exact this
 cbv;refine av g4 rfl rfl ?_;cbv;refine av g5 rfl rfl ?_;cbv;refine oY q4 hs (fun h5 z1 t1 l5 mJ Q4=>?_);rw[mN]at Q4;have Xi:=nT.trans l5;cases t1 with
 |false=>have ae:=JS Xi (by unfold Dv;rw[<-Q4];rfl);cbv;rw[vO];cbv;exact ae
 |true=>
  cbv;rw[rB];cbv;refine av (l5 _ _ g4) rfl rfl ?_;cbv;refine av (l5 _ _ g6) rfl rfl ?_;cbv;refine A8 (q4.mono l5) ht (fun h6 z2 t2 l6 fN Zj=>?_);have l06:=Xi.trans l6;have QR:=l5.trans l6;cases t2 with
  |false=>have ae:=JS l06 (by unfold Dv;rw[<-Q4,<-Zj];rfl);cbv;rw[vO];cbv;exact ae
  |true=>
   have hD1:gH (d.holds.length+1) d ⟨hs,ht,hx⟩=D:=by rw[<-hD];unfold ay;rw[show Dv d ⟨hs,ht,hx⟩=true by unfold Dv;rw[<-Q4,<-Zj];rfl];rfl
   have q6:=q4.mono QR;have f4:=QR _ _ g4;have f5:=QR _ _ g5;have f6:=QR _ _ g6;have f7:=QR _ _ g7;clear hD JS g4 g5 g6 g7 e1 e2 e3 e4 Q4 Zj;obtain⟨I,bl⟩:∃I:Nat->ad->Prop,∀m h',I m h'=∃d':DB,d'.holds.length<m/\d'.holds.length<2^18/\d'.waits.length<=2^18/\(bQ d'.waits hs).length<=L0/\jg d'.aE/\gH m d' ⟨hs,ht,hx⟩=D/\Kp [c,tb,wb] h6 h'/\jh h' c tb wb ct cw d'.aE (Wf d'.au) d'.holds d'.waits e:=⟨_,fun _ _=>rfl⟩;cbv;rw[rB];cbv;refine aX.go (G:=Unit) (fun _=>[]) (fun _=>[]) (fun n g h'=>I n h') (d.holds.length+1) () ⟨?_,?_,?_⟩ (by rw[bl];exact⟨d,by omega,hH,Nat.le_of_lt hWt,by rw[hL0];exact Nat.le_refl _,Zo,hD1,Kp.refl _ _,q6⟩) ?_
   ·cbv
   ·cbv
   ·cbv
   ·intro m g h' hI;rw[bl]at hI;cbv;obtain⟨⟨dT,dW,dH,nq⟩,hm,ll,jS,nP,Pa,tU,MZ,hq⟩:=hI;have hq:jh h' c tb wb ct cw dT (Wf dW) dH nq e:=hq;have ll:dH.length<2^18:=ll;have jS:nq.length<=2^18:=jS;have nP:(bQ nq hs).length<=L0:=nP;have hm:dH.length<m:=hm;obtain⟨f,rfl⟩:∃f,m=f+1:=⟨m-1,by omega⟩;have k4:=MZ _ _ f4 n4;have k5:=MZ _ _ f5 n5;have k6:=MZ _ _ f6 n6;have k7:=MZ _ _ f7 n7;have AO:=CD (H:=dH) (hd:=⟨hs,ht,hx⟩);have tO:=yT (H:=dH) (W:=nq) (hd:=⟨hs,ht,hx⟩);have tO:(cV dH nq ⟨hs,ht,hx⟩).length<=(bQ nq hs).length+1:=tO;have xD:=xO (H:=dH) (W:=nq) (hd:=⟨hs,ht,hx⟩);have xD:(bQ (cV dH nq ⟨hs,ht,hx⟩) hs).length<=(bQ nq hs).length:=xD;have hH0:bF dH ⟨hs,ht,hx⟩=false->cd dH ⟨hs,ht,hx⟩=dH:=fun hf=>by unfold cd;rw[hf];rfl
    have UC:=tu (H:=cd dH ⟨hs,ht,hx⟩) (W:=cV dH nq ⟨hs,ht,hx⟩) (s:=hs);unfold gH at tU;have tU:(if bF dH ⟨hs,ht,hx⟩=true then((⟨dT,dW,cd dH ⟨hs,ht,hx⟩,cV dH nq ⟨hs,ht,hx⟩⟩,0):DB×Int)
     else if(dt (cI (cd dH ⟨hs,ht,hx⟩) (cV dH nq ⟨hs,ht,hx⟩)) hs).2=true then
      if decide ((dt (cI (cd dH ⟨hs,ht,hx⟩) (cV dH nq ⟨hs,ht,hx⟩)) hs).1=hs)=true then(kZ ⟨dT,dW,cd dH ⟨hs,ht,hx⟩,cV dH nq ⟨hs,ht,hx⟩⟩ (dt (cI (cd dH ⟨hs,ht,hx⟩) (cV dH nq ⟨hs,ht,hx⟩)) hs).1,17)
      else gH f (kZ ⟨dT,dW,cd dH ⟨hs,ht,hx⟩,cV dH nq ⟨hs,ht,hx⟩⟩ (dt (cI (cd dH ⟨hs,ht,hx⟩) (cV dH nq ⟨hs,ht,hx⟩)) hs).1) ⟨hs,ht,hx⟩
     else(⟨dT,dW,cd dH ⟨hs,ht,hx⟩,cV dH nq ⟨hs,ht,hx⟩⟩,16))=D:=tU
    refine(OW (hd:=⟨hs,ht,hx⟩) hq k4 k5 k6 k7 (by omega) (by omega)).mono (fun v h7 hR=>?_);obtain⟨kc7,t,rfl,et,q7⟩:=hR;have k07:Kp [c,tb,wb] h h7:=((l06.kp _).trans MZ).trans (kc7.sub (by simp));have k67:Kp [c,tb,wb] h6 h7:=MZ.trans (kc7.sub (by simp));have et':=et;rw[<-et]at tU;generalize cd dH ⟨hs,ht,hx⟩=aH at *;generalize cV dH nq ⟨hs,ht,hx⟩=aW at *;cases t with
    |true=>have tU:((⟨dT,dW,aH,aW⟩,0):DB×Int)=D:=tU;subst tU;have ae:=hk h7 k07 q7;cbv;rw[rB];cbv;exact ae
    |false=>
     have haH:=hH0 et.symm;refine q7.elim (fun u1 u2 y3 v3 w3 y4 v4 w4 oo G0 Ho G1 G2 G3 G4 Q6 Q7 _=>?_);have Zs:=Q6.len;have hq7:=Q7.len;have j4:=k67 _ _ f4 n4;have j5:=k67 _ _ f5 n5;cbv;rw[vO];cbv;refine av j4 rfl rfl ?_;cbv;rw[ai A];rw[ai A];refine av G0 rfl rfl ?_;cbv;refine av j5 rfl rfl ?_;cbv;refine(Gc Q6 Q7 (by omega) (by omega) hs).mono (fun v h8 hR=>?_);obtain⟨l8,zv,tv,rfl,G9⟩:=hR;obtain⟨OP,htv⟩:=G9.eq;rw[<-OP,<-htv]at tU;rw[<-htv,<-OP]at UC;cases tv with
     |false=>have tU:((⟨dT,dW,aH,aW⟩,16):DB×Int)=D:=tU;subst tU;have ae:=hk h8 (k07.trans (l8.kp _)) (q7.mono l8);cbv;rw[vO];cbv;exact ae
     |true=>
      have UC:=UC rfl;have tU:(if decide (zv=hs)=true then((kZ ⟨dT,dW,aH,aW⟩ zv,17):DB×Int)else gH f (kZ ⟨dT,dW,aH,aW⟩ zv) ⟨hs,ht,hx⟩)=D:=tU;cbv;rw[rB];cbv;refine av (l8 _ _ j4) rfl rfl ?_;cbv;refine Mh (q7.mono l8) tR rH Pa zv (by omega) (by omega) (fun h9 k9 q9=>?_);rw[Cz,FD]at q9;have k09:=(k07.trans (l8.kp _)).trans k9;have k69:=(k67.trans (l8.kp _)).trans k9;have i5:=k69 _ _ f5 n5;obtain⟨dB,ZU⟩:∃dB,dB=kZ ⟨dT,dW,aH,aW⟩ zv:=⟨_,rfl⟩;have Q9:jh h9 c tb wb ct cw dB.aE (Wf dB.au) dB.holds dB.waits e:=by rw[ZU];exact q9
      rw[<-ZU]at tU;generalize eu:A .aG .eql zv hs=u;have fu:=eu;rw[aw A]at eu;rw[eu]at tU;cbv;refine av i5 rfl rfl ?_;cbv;rw[fu];cases u with
      |true=>have tU:((dB,17):DB×Int)=D:=tU;subst tU;have ae:=hk h9 k09 Q9;cbv;exact ae
      |false=>
       have tU:gH f dB ⟨hs,ht,hx⟩=D:=tU;have di:I f h9:=by
        have tL:=mg aW zv;have hbH:dB.holds=bQ aH zv:=by rw[ZU];rfl
        have hbW:dB.waits=bQ aW zv:=by rw[ZU];rfl
        have hbT:jg dB.aE:=by rw[ZU];exact qC Pa _ _
        have pN:(bQ (bQ aW zv) hs).length<=L0:=by rw[xN];have:=mg (bQ aW hs) zv;omega
        rw[bl];rw[haH]at UC hbH;exact⟨dB,by rw[hbH];omega,by rw[hbH];omega,by rw[hbW];omega,by rw[hbW];exact pN,hbT,tU,k69,Q9⟩
       cbv;refine⟨f,(),by omega,⟨?_,?_,?_⟩,di⟩
       ·cbv
       ·cbv
       ·cbv
set_option maxHeartbeats 4000000
structure wX(n:Nat)(d:DB):Prop where
 aE:d.aE.length<=2^30
 pH:d.au.Pairwise (fun a b=>a.s<b.s)
 so:∀w∈d.au,0<=w.s/\w.s<8
 rows:jg d.aE
 holds:d.holds.length<=n
 waits:d.waits.length<=n
 Zq:∀x∈d.holds,0<=x.s/\x.s<8
theorem wX.le{n m:Nat}{d:DB}(o:wX n d)(h:n<=m):wX m d:=⟨o.aE,o.pH,o.so,o.rows,Nat.le_trans o.holds h,Nat.le_trans o.waits h,o.Zq⟩
theorem uY:∀ {l:List dO} {a:Int},l.Pairwise (fun a b=>a.s<b.s)->(∀w∈l,a<=w.s/\w.s<8)->(l.length:Int)<=max 0 (8-a)
 | [],a,_,_=>by simp;omega
 |x::r,a,hs,hr=>by
  have h1:=hr x (by simp);have aK:∀w∈r,x.s<w.s:=fun w hw=>List.rel_of_pairwise_cons hs hw;have:=uY (a:=x.s+1) (List.Pairwise.of_cons hs) (fun w hw=>⟨by have:=aK w hw;omega,(hr w (List.mem_cons_of_mem _ hw)).2⟩);simp only[List.length_cons];omega
theorem wX.wlen{n:Nat}{d:DB}(o:wX n d):d.au.length<=8:=by have:=uY o.pH o.so;omega
theorem wX.small{n:Nat}{d:DB}(o:wX n d)(hn:n<2^18):Small d:=by have:=o.wlen;have:=o.aE;have:=o.holds;have:=o.waits;exact⟨by omega,by omega,fun t ht=>by have:=o.rows t ht;omega,by omega,by omega⟩
theorem wrap_zero{x:Int}(h1:-2^64<x)(h2:x<2^64)(h:IntKind.i64.wrap x=0):x=0:=by have hs:IntKind.i64.signed=true:=rfl;simp only[IntKind.wrap,IntKind.bits,hs]at h;simp at h;split at h<;>omega
theorem NF(T:List cE)(x:iX):(jc T x).map (·.S)=T.map (·.S):=by
 have hp:∀t r,(bI t r).1.S=t.S:=fun t r=>by
  unfold bI;repeat' split
  all_goals rfl
 have ht:∀t k,(cK t k).1.S=t.S:=fun t k=>by
  unfold cK;split<;>rfl
 have key:∀(i:Nat) (t t':cE),T[i]? =some t->t'.S=t.S->(T.set i t').map (·.S)=T.map (·.S):=fun i t t' hi hS=>by
  rw[List.map_set,hS];apply List.ext_getElem?;intro j;rw[List.getElem?_set];split
  ·rename_i e;subst e;split
   ·rw[List.getElem?_map,hi];rfl
   ·rename_i h1;rw[List.getElem?_eq_none (by omega)]
  ·rfl
 unfold jc;split
 ·split
  ·rename_i t hi;split
   ·exact key _ _ _ hi (hp _ _)
   ·split
    ·exact key _ _ _ hi (ht _ _)
    ·rfl
  ·rfl
 ·rfl
theorem zd(T:List cE):∀l,(fS T l).map (·.S)=T.map (·.S)
 | []=>rfl
 |x::r=>(NF _ _).trans (zd T r)
theorem FU(T:List cE)(ws:List dO)(s:Int):(oW T ws s).map (·.S)=T.map (·.S):=by
 unfold oW;split
 ·split
  ·exact zd _ _
  ·rfl
 ·rfl
theorem Gl{T T':List cE}(h:T'.map (·.S)=T.map (·.S))(nm:ByteArray):aR T' nm=aR T nm:=by
 have e:∀T:List cE,aR T nm=(T.map (·.S)).map (fun s=>eX s.name nm):=fun T=>by simp[aR,Function.comp_def]
 rw[e,e,h]
theorem R6{T T':List cE}(h:T'.map (·.S)=T.map (·.S)):T'.length=T.length:=by have:=congrArg List.length h;simpa using this
theorem R2(l:List Int)(p:Nat)(hp:p<l.length)(h0:l.getD p 0=0)(aK:∀i,i<p->l.getD i 0<0)(hgt:∀i,p<i->i<l.length->l.getD i 0>0):dr l=p/\lK l=true:=by
 have h1:dr l=p:=Ay l p aK 0 l.length (fun k h1 h2=>by
  rcases Nat.lt_or_ge p k with h3|h3
  ·have:=hgt k h3 h2;omega
  ·have:k=p:=by omega
   rw[this,h0];omega) (Nat.zero_le _) (Nat.le_of_lt hp)
 exact⟨h1,by unfold lK;rw[h1];exact decide_eq_true ⟨hp,h0⟩⟩
theorem uP{ws:List dO}{s:Int}{i:Nat}{w:dO}(h:ws[i]? =some w):(cA ws s).getD i 0=IntKind.i64.wrap (w.s-s):=by rw[List.getD_eq_getElem?_getD];unfold cA;rw[List.getElem?_map,h];rfl
theorem Nz{ws:List dO}(hs:ws.Pairwise (fun a b=>a.s<b.s))(hr:∀w∈ws,0<=w.s/\w.s<8){i:Nat}{w:dO}(hi:ws[i]? =some w):dr (cA ws w.s)=i/\lK (cA ws w.s)=true:=by
 have kh:=(List.getElem?_eq_some_iff.1 hi).1;have hw:=hr w (List.mem_of_getElem? hi);have hl:(cA ws w.s).length=ws.length:=by simp[cA]
 have get:∀j,j<ws.length->∃x,ws[j]? =some x/\(cA ws w.s).getD j 0=x.s-w.s/\(j<i->x.s<w.s)/\(i<j->w.s<x.s):=fun j hj=>by
  obtain⟨x,hx⟩:=aI hj;have hxr:=hr x (List.mem_of_getElem? hx);refine⟨x,hx,?_,fun h=>?_,fun h=>?_⟩
  ·rw[uP hx,IntWalk.i64_in _ (by omega)]
  ·have:=List.pairwise_iff_getElem.1 hs j i hj kh h;rw[(List.getElem?_eq_some_iff.1 hx).2,(List.getElem?_eq_some_iff.1 hi).2]at this;exact this
  ·have:=List.pairwise_iff_getElem.1 hs i j kh hj h;rw[(List.getElem?_eq_some_iff.1 hx).2,(List.getElem?_eq_some_iff.1 hi).2]at this;exact this
 refine R2 _ i (by rw[hl];exact kh) ?_ (fun j hj=>?_) (fun j hj K3=>?_)
 ·obtain⟨x,hx,h1,-,-⟩:=get i kh;rw[hi]at hx;cases hx;rw[h1];omega
 ·obtain⟨x,hx,h1,h2,-⟩:=get j (by omega);have:=h2 hj;rw[h1];omega
 ·obtain⟨x,hx,h1,-,h2⟩:=get j (by rw[<-hl];exact K3);have:=h2 hj;rw[h1];omega
theorem uA{ws:List dO}(hr:∀w∈ws,0<=w.s/\w.s<8){s:Int}(iQ:-2^63<=s/\s<2^63)(h:lK (cA ws s)=true):∃w,ws[dr (cA ws s)]? =some w/\w.s=s:=by
 have h':=of_decide_eq_true h;obtain⟨h1,h2⟩:=h';have hl:dr (cA ws s)<ws.length:=by simpa[cA]using h1
 obtain⟨w,hw⟩:=aI hl;have Xm:=hr w (List.mem_of_getElem? hw);rw[uP hw]at h2;have:=wrap_zero (by omega) (by omega) h2;exact⟨w,hw,by omega⟩
theorem mh{ws:List dO}(hs:ws.Pairwise (fun a b=>a.s<b.s))(hr:∀w∈ws,0<=w.s/\w.s<8){s:Int}(iQ:-2^63<=s/\s<2^63):lK (cA ws s)=true↔∃w∈ws,w.s=s:=by
 constructor
 ·intro h;obtain⟨w,hw,he⟩:=uA hr iQ h;exact⟨w,List.mem_of_getElem? hw,he⟩
 ·rintro⟨w,hw,rfl⟩;obtain⟨i,hi,he⟩:=List.getElem_of_mem hw;exact(Nz hs hr (i:=i) (by rw[List.getElem?_eq_getElem hi,he])).2
theorem wB(ws:List dO)(s:Int):(wC ws s).Sublist ws:=by
 unfold wC;split
 ·exact List.eraseIdx_sublist _ _
 ·exact List.Sublist.refl _
theorem HE{ws:List dO}(hs:ws.Pairwise (fun a b=>a.s<b.s))(hr:∀w∈ws,0<=w.s/\w.s<8){v:Int}(hv:-2^63<=v/\v<2^63){w:dO}(hw:w∈ws)(bW:w.s≠v):w∈wC ws v:=by
 unfold wC;split
 ·rename_i h;obtain⟨x,hx,he⟩:=uA hr hv h;obtain⟨j,hj,Vg⟩:=List.getElem_of_mem hw;rw[List.mem_eraseIdx_iff_getElem];refine⟨j,hj,fun e=>?_,Vg⟩;rw[<-e,List.getElem?_eq_getElem hj,Vg]at hx;cases hx;exact bW he
 ·exact hw
theorem IK{H W:List bZ}{s:Int}(h:(dt (cI H W) s).2=true):∃x∈H,x.s=(dt (cI H W) s).1:=by
 have hv:=(mO (cI H W) s).out;rcases hv with ⟨h1,-⟩ | ⟨-,h2,-,h4,-⟩
 ·rw[h]at h1;cases h1
 ·refine qB (W:=W) ?_;rcases h4 with h4| ⟨h4,-⟩
  ·rw[h4];exact ra h2
  ·exact ra h4
structure MB(n:Nat)(d:DB)(hd:bZ)(D:DB×Int):Prop where
 S:D.1.aE.map (·.S)=d.aE.map (·.S)
 ok:wX (n+1) D.1
 own:D.2=0->∀w∈d.au,w.s=hd.s->w∈D.1.au
 sub:D.1.au.Sublist d.au
def W2(d:DB):Prop:=∀x∈d.holds,0<=x.s/\x.s<8
theorem wR{H:List bZ}{hd:bZ}(h:∀x∈H,0<=x.s/\x.s<8)(hs:0<=hd.s/\hd.s<8):∀x∈cd H hd,0<=x.s/\x.s<8:=fun x hx=>by
 unfold cd at hx;repeat' split at hx
 ·exact h x hx
 ·rcases List.mem_or_eq_of_mem_set hx with h1|h1
  ·exact h x h1
  ·rw[h1];exact hs
 ·rcases List.mem_append.1 hx with h1|h1
  ·exact h x h1
  ·simp at h1;rw[h1];exact hs
 ·exact h x hx
theorem BN(n:Nat)(hd:bZ)(hs:0<=hd.s/\hd.s<8):∀(f:Nat) (d:DB),d.holds.length<f->d.aE.length<=2^30->d.au.Pairwise (fun a b=>a.s<b.s)->(∀w∈d.au,0<=w.s/\w.s<8)->jg d.aE->d.holds.length<=n->(bQ d.waits hd.s).length<=n->W2 d->
 MB n d hd (gH f d hd)
 |0,d,hf,_,_,_,_,_,_,_=>by omega
 |f+1,d,hf,h1,h2,h3,h4,h5,h6,h7=>by
  have l1:=CD (H:=d.holds) (hd:=hd);have l2:=yT (H:=d.holds) (W:=d.waits) (hd:=hd);have l3:=xO (H:=d.holds) (W:=d.waits) (hd:=hd);unfold gH;by_cases oM:bF d.holds hd=true
  ·rw[if_pos oM];exact⟨rfl,⟨h1,h2,h3,h4,by show(cd _ _).length<=_;omega,by show(cV _ _ _).length<=_;omega,wR h7 hs⟩,fun _ w hw _=>hw,List.Sublist.refl _⟩
  ·rw[if_neg oM];have hH:cd d.holds hd=d.holds:=by unfold cd;rw[if_neg oM]
   by_cases G9:(dt (cI (cd d.holds hd) (cV d.holds d.waits hd)) hd.s).2=true
   ·rw[if_pos G9];have Zf:=IK G9;have UC:=tu G9;have hvr:-2^63<=(dt (cI (cd d.holds hd) (cV d.holds d.waits hd)) hd.s).1/\(dt (cI (cd d.holds hd) (cV d.holds d.waits hd)) hd.s).1<2^63:=by obtain⟨x,hx,he⟩:=Zf;rw[hH]at hx;rw[<-he];have:=h7 x hx;omega
    generalize (dt (cI (cd d.holds hd) (cV d.holds d.waits hd)) hd.s).1=v at *;have QX:=mg (cV d.holds d.waits hd) v;have pN:(bQ (bQ (cV d.holds d.waits hd) v) hd.s).length<=n:=by rw[xN];have:=mg (bQ (cV d.holds d.waits hd) hd.s) v;omega
    have hbS:(kZ ⟨d.aE,d.au,cd d.holds hd,cV d.holds d.waits hd⟩ v).aE.map (·.S)=d.aE.map (·.S):=FU _ _ _;have xh:(kZ ⟨d.aE,d.au,cd d.holds hd,cV d.holds d.waits hd⟩ v).holds.length<d.holds.length:=by show(bQ (cd d.holds hd) v).length<_;rw[hH]at UC |-;exact UC
    have dp:(kZ ⟨d.aE,d.au,cd d.holds hd,cV d.holds d.waits hd⟩ v).au.Sublist d.au:=wB _ _;by_cases UB:v=hd.s
    ·rw[if_pos (decide_eq_true UB)];exact⟨hbS,⟨by rw[R6 hbS];exact h1,h2.sublist dp,fun w hw=>h3 w (dp.subset hw),qC h4 _ _,Nat.le_trans (Nat.le_of_lt xh) (by omega),Nat.le_trans QX (by omega),fun x hx=>wR h7 hs x (List.mem_filter.1 hx).1⟩,(fun e=>by cases e),dp⟩
    ·rw[if_neg (by simpa using UB)];have ih:=BN n hd hs f (kZ ⟨d.aE,d.au,cd d.holds hd,cV d.holds d.waits hd⟩ v) (by omega) (by rw[R6 hbS];exact h1) (h2.sublist dp) (fun w hw=>h3 w (dp.subset hw)) (qC h4 _ _) (by omega) pN
      (fun x hx=>h7 x (by
       have hx:x∈bQ (cd d.holds hd) v:=hx;rw[hH]at hx;exact(List.mem_filter.1 hx).1))
     refine⟨ih.S.trans hbS,ih.ok,fun e w hw nH=>ih.own e w ?_ nH,ih.sub.trans dp⟩;exact HE h2 h3 hvr hw (by rw[nH];exact fun e=>UB e.symm)
   ·rw[if_neg G9];exact⟨rfl,⟨h1,h2,h3,h4,by show(cd _ _).length<=_;omega,by show(cV _ _ _).length<=_;omega,wR h7 hs⟩,fun _ w hw _=>hw,List.Sublist.refl _⟩
theorem rA{n:Nat}{d:DB}(o:wX n d)(hd:bZ)(hs:-2^63<=hd.s/\hd.s<2^63):MB n d hd (ay d hd):=by
 unfold ay;by_cases AM:Dv d hd=true
 ·rw[if_pos AM];unfold Dv at AM;rw[Bool.and_eq_true]at AM;obtain⟨w,hw,he⟩:=(mh o.pH o.so hs).1 AM.1;have:=o.so w hw;exact BN n hd (by omega) _ d (by omega) o.aE o.pH o.so o.rows o.holds (Nat.le_trans (mg _ _) o.waits) o.Zq
 ·rw[if_neg AM];exact⟨rfl,o.le (by omega),(fun e=>by cases e),List.Sublist.refl _⟩
theorem BO{n:Nat}{d:DB}(o:wX n d){hd:bZ}(hs:-2^63<=hd.s/\hd.s<2^63)(h0:(ay d hd).2=0):
 lK (aR (ay d hd).1.aE hd.table)=true/\lK (cA (ay d hd).1.au hd.s)=true:=by
 have hk:=rA o hd hs;have AM:Dv d hd=true:=by
  cases h:Dv d hd with
  |true=>rfl
  |false=>unfold ay at h0;rw[h]at h0;cases h0
 unfold Dv at AM;rw[Bool.and_eq_true]at AM;refine⟨by rw[Gl hk.S];exact AM.2,?_⟩;obtain⟨w,hw,he⟩:=(mh o.pH o.so hs).1 AM.1;exact(mh hk.ok.pH hk.ok.so hs).2 ⟨w,hk.own h0 w hw he,he⟩
end Go.S
