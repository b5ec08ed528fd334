import Derived.Test.YtekoaiendgjkdaaGreatEC
import Derived.Test.YtekoaiendgjkdaaGreatRd
set_option linter.unusedVariables false
set_option linter.unusedSimpArgs false
set_option linter.unusedSectionVars false
set_option maxRecDepth 100000
set_option maxHeartbeats 8000000
namespace Go.S
open Go.Sx Go.Proofs
theorem FG{xs:List (dw×Bool)}{h:ad}{nb n cap:Nat}(o:dq 55 bQ h nb cap xs)(hn:n=xs.length){z w:Int}{i:Nat}(hz:aP z i)(hw:aP w (i+1))(hi:i<n){k:Value->ad->Prop}
 (hk:∀h' m,m=n-1->Kp [nb] h h'->(∀tys,55∉tys->bE tys h h')->dq 55 bQ h' nb cap (xs.eraseIdx i)->k (.slice (some ⟨nb,0,none⟩) m cap) h'):
 Ct 129 [.slice (some ⟨nb,0,none⟩) n cap,.int .i64 z,.int .i64 w] h k:=by
 obtain⟨A,hA⟩:=Ar.ex;have hle:=o.le;have wv:=o.bd;have eX:=hz.eq;have hwe:=hw.eq;have sA:A .nat n=(n:Int):=by rw[hA.nat];rfl
 have e1:A .aF .eql z w=false:=by rw[aw A];exact decide_eq_false (by omega)
 have q:Sl 55 bQ h (.slice (some ⟨nb,0,none⟩) n cap) xs:=o.sl hn;have Az:0<=A .nat n/\A .nat n<=(cap:Int)/\0<=w/\w<=A .nat n/\0<=z/\z<=w:=by rw[sA];omega
 have mI:0<=z/\z<=(cap:Int):=by omega
 have wL:0<=w/\w<=(n:Int):=by omega
 have Cz:∀m,m=n-1->0<=A .nat n/\A .nat n<=(cap:Int)/\0<=A .nat m/\A .nat m<=A .nat n:=fun m hm=>by
  have vg:A .nat m=(m:Int):=by rw[hA.nat];rfl
  rw[sA,vg];omega
 have xJ:=q.tu (A:=A) hw (by omega) rfl rfl;have RY:=dv (A:=A) hz;have Uh:=ei (A:=A) (n:=n) hw;have hd3:=ei (A:=A) (n:=cap) hw;refine ah A (aq ZP.ax ZP.bm) Tryz.func129 rfl (by kernel_rfl) ?_;cbv;refine⟨Az,?_⟩;cbv;rw[e1];cbv;refine⟨mI,?_⟩;cbv;refine⟨wL,?_⟩;cbv;rw[ry (A:=A),RY,Uh];refine o.Bc (by decide) (i:=i) (by omega) xJ (by omega) (by omega) rfl (fun h1 m hm k1 t1 o1=>?_);have MU:m=n-1:=by omega
 have o2:=o1.shrink (n-1);have heq:(xs.take i++xs.drop (i+1)++xs.drop (i+(n-(i+1)))).take (n-1)=xs.eraseIdx i:=by rw[hn];exact erase_eq (by omega)
 rw[heq]at o2;clear o1 heq hm;have hel:(xs.eraseIdx i).length=n-1:=by rw[List.length_eraseIdx_of_lt (by omega)];omega
 have Cz:=Cz m MU;have hd4:A .rR (A .nat n) (A .nat m)=1:=by rw[ei (A:=A) (aP.nat m)];omega
 cbv;refine⟨Cz,?_⟩;cbv;rw[rv (A:=A) (aP.nat m) (by omega),hd4];refine o2.Tc (by decide) rfl rfl (p:=m) (by omega) (by omega) (fun h2 k2 t2 o3=>?_);have af:=hk h2 m MU (k1.trans k2) (fun tys hh=>(t1 tys hh).trans (t2 tys hh)) o3;cbv;exact af
theorem oz{h:ad}{c tb wb ct cw:Nat}{T:List cg}{W:List (dw×Bool)}{H Wt:List bP}{e:Int}(q:iG h c tb wb ct cw T W H Wt e)(kP:Int){k:Value->ad->Prop}
 (hk:∀h' z t,Le h h'->aP z (dC (cX W kP))->t=lq (cX W kP)->k (.tuple #[.int .i64 z,.bool t]) h'):Ct 49 [.pointer (some ⟨c,0,none⟩),.int .i64 kP] h k:=
 (x9 q kP).mono (fun v h' hR=>by
  obtain⟨l,z,t,hv,hb⟩:=hR;obtain⟨h1,h2⟩:=hb.at_;rw[hv];exact hk h' z t l h1 h2)
theorem zK{h:ad}{c tb wb ct cw:Nat}{T:List cg}{W:List (dw×Bool)}{H Wt:List bP}{e:Int}(q:iG h c tb wb ct cw T W H Wt e)(name:ByteArray){k:Value->ad->Prop}
 (hk:∀h' z t,Le h h'->aP z (dC (aR T name))->t=lq (aR T name)->k (.tuple #[.int .i64 z,.bool t]) h'):Ct 105 [.pointer (some ⟨c,0,none⟩),.string name] h k:=
 (tS q name).mono (fun v h' hR=>by
  obtain⟨l,z,t,hv,hb⟩:=hR;obtain⟨h1,h2⟩:=hb.at_;rw[hv];exact hk h' z t l h1 h2)
theorem Qq{nm:ByteArray}{cols:List bM}{key:Int}{only:Bool}{rows:List Row}{r:Row}{h:ad}{sb b4 b:Option Addr}{sn sc n4 c4 n c:Nat}(qs:Sl 165 aT h (.slice sb sn sc) cols)(q4:Sl 59 az h (.slice b4 n4 c4) rows)(q:Sl 61 aQ h (.slice b n c) r)(hn:n4<=2^37){k:Value->ad->Prop}
 (hk:∀h' b1 n1 k1 b2 n2 k2 T e,Le h h'->Sl 165 aT h' (.slice b1 n1 k1) cols->Sl 59 az h' (.slice b2 n2 k2) T->(⟨⟨⟨nm,cols,key,only⟩,T⟩,e⟩:cg×Int)=cd ⟨⟨nm,cols,key,only⟩,rows⟩ r->k (.tuple #[.agg #[.string nm,.slice b1 n1 k1,.int .i64 key,.bool only,.slice b2 n2 k2],.int .i64 e]) h'):
 Ct 157 [.agg #[.string nm,.slice sb sn sc,.int .i64 key,.bool only,.slice b4 n4 c4],.slice b n c] h k:=
 (OF (nm:=nm) (key:=key) (only:=only) qs q4 q hn).mono (fun v h' hR=>by
  obtain⟨l,b1,n1,k1,b2,n2,k2,e,T,hv,r1,r2,r3⟩:=hR;rw[hv];exact hk h' b1 n1 k1 b2 n2 k2 T e l r1 r2 r3)
theorem LF{nm:ByteArray}{cols:List bM}{key:Int}{only:Bool}{rows:List Row}{h:ad}{sb b4:Option Addr}{sn sc n4 c4:Nat}(qs:Sl 165 aT h (.slice sb sn sc) cols)(q4:Sl 59 az h (.slice b4 n4 c4) rows)(hn:n4<=2^37)(kv:dc){k:Value->ad->Prop}
 (hk:∀h' b1 n1 k1 b2 n2 k2 b3 n3 k3 T R e,Le h h'->Sl 165 aT h' (.slice b1 n1 k1) cols->Sl 59 az h' (.slice b2 n2 k2) T->Sl 61 aQ h' (.slice b3 n3 k3) R->(⟨⟨⟨nm,cols,key,only⟩,T⟩,R,e⟩:cg×Row×Int)=bt ⟨⟨nm,cols,key,only⟩,rows⟩ kv->k (.tuple #[.agg #[.string nm,.slice b1 n1 k1,.int .i64 key,.bool only,.slice b2 n2 k2],.slice b3 n3 k3,.int .i64 e]) h'):
 Ct 158 [.agg #[.string nm,.slice sb sn sc,.int .i64 key,.bool only,.slice b4 n4 c4],.agg #[.int .i64 kv.k,.int .i64 kv.n,.string kv.s]] h k:=
 (Hl (nm:=nm) (key:=key) (only:=only) qs q4 hn kv).mono (fun v h' hR=>by
  obtain⟨l,b1,n1,k1,b2,n2,k2,b3,n3,k3,e,T,R,hv,r1,r2,r3,r4⟩:=hR;rw[hv];exact hk h' b1 n1 k1 b2 n2 k2 b3 n3 k3 T R e l r1 r2 r3 r4)
theorem AL{H W:List bP}{h:ad}{b1 b2:Option Addr}{n1 c1 n2 c2:Nat}(q1:Sl 205 bD h (.slice b1 n1 c1) H)(q2:Sl 205 bD h (.slice b2 n2 c2) W)(s:Int)(oL:H.length<=2^38)(ng:W.length<=2^38){k:Value->ad->Prop}
 (hk:∀h' b1 n1 c1 b2 n2 c2,Le h h'->Sl 205 bD h' (.slice b1 n1 c1) (bL H s)->Sl 205 bD h' (.slice b2 n2 c2) (bL W s)->k (.agg #[.slice b1 n1 c1,.slice b2 n2 c2]) h'):Ct 130 [.agg #[.slice b1 n1 c1,.slice b2 n2 c2],.int .i64 s] h k:=
 (Ny q1 q2 (by rw[q1.len];exact oL) (by rw[q2.len];exact ng) s).mono (fun v h' hR=>by
  obtain⟨l,b1,n1,c1,b2,n2,c2,hv,r1,r2⟩:=hR;rw[hv];exact hk h' b1 n1 c1 b2 n2 c2 l r1 r2)
theorem iG.au{h h1 h':ad}{c tb wb ct cw:Nat}{T:List cg}{W':List (dw×Bool)}{H Wt:List bP}{e:Int}{n1 n2 m2:Nat}{b3 b4:Option Addr}{n3 c3 n4 c4:Nat}{o:Int}
 (g0:h c=some (.cells #[.slice (some ⟨tb,0,none⟩) n1 ct,.slice (some ⟨wb,0,none⟩) n2 cw,.slice b3 n3 c3,.slice b4 n4 c4,.int .u32 o,.int .i32 0,.int .u32 0,.int .i64 e] 128 (0,0)))
 (ho:(o=0/\e=0)\/(o=1/\e≠0)) (g1:n1=T.length) (g2:dq 51 cL h tb ct T) (g6:Sl 205 bD h (.slice b3 n3 c3) H) (g7:Sl 205 bD h (.slice b4 n4 c4) Wt) (hm:m2=W'.length)
 (l1:∀tys,55∉tys->bE tys h h1) (k1:h1 c=h c) (gw:dq 55 bQ h1 wb cw W')
 (hh:h'=bl h1 c (.cells #[.slice (some ⟨tb,0,none⟩) n1 ct,.slice (some ⟨wb,0,none⟩) m2 cw,.slice b3 n3 c3,.slice b4 n4 c4,.int .u32 o,.int .i32 0,.int .u32 0,.int .i64 e] 128 (0,0))):
 Kp [c] h1 h'/\iG h' c tb wb ct cw T W' H Wt e:=by
 have Sy:=k1.trans g0;have lt:∀tys,128∉tys->bE tys h1 h':=fun tys hn=>by rw[hh];exact bE.set Sy hn
 have l2:∀tys,55∉tys->128∉tys->bE tys h h':=fun tys a b=>(l1 tys a).trans (lt tys b);refine⟨by rw[hh];exact Kp.set (by simp),n1,m2,b3,n3,c3,b4,n4,c4,o,by rw[hh];exact ae,ho,g1,g2.mono (l2 _ (by decide) (by decide)),hm,gw.mono (lt _ (by decide)),g6.mono (l2 _ (by decide) (by decide)),g7.mono (l2 _ (by decide) (by decide))⟩
def vE(W:List (dw×Bool))(s:Int):List (dw×Bool):=if lq (cX W s)=true then W.eraseIdx (dC (cX W s))else W
theorem JJ{h:ad}{c tb wb ct cw:Nat}{T:List cg}{W:List (dw×Bool)}{H Wt:List bP}{e:Int}(q:iG h c tb wb ct cw T W H Wt e)(pf:c≠wb)(s:Int)(oL:H.length<=2^38)(ng:Wt.length<=2^38){k:Value->ad->Prop}
 (hk:∀h',Kp [c,wb] h h'->iG h' c tb wb ct cw T (vE W s) (bL H s) (bL Wt s) e->k (.tuple #[]) h'):CtD 61 [.pointer (some ⟨c,0,none⟩),.int .i64 s] h k:=by
 obtain⟨A,hA⟩:=Ar.ex;obtain⟨V,hV⟩:∃V,V=vE W s:=⟨_,rfl⟩;rw[<-hV]at hk;have fin:∀(h1:ad),Kp [c,wb] h h1->iG h1 c tb wb ct cw T V H Wt e->∀(n1 n2:Nat) (b3:Option Addr) (n3 c3:Nat) (b4:Option Addr) (n4 c4:Nat) (o:Int),h1 c=some (.cells #[.slice (some ⟨tb,0,none⟩) n1 ct,.slice (some ⟨wb,0,none⟩) n2 cw,.slice b3 n3 c3,.slice b4 n4 c4,.int .u32 o,.int .i32 0,.int .u32 0,.int .i64 e] 128 (0,0))->
  ((o=0/\e=0)\/(o=1/\e≠0))->n1=T.length->dq 51 cL h1 tb ct T->n2=V.length->dq 55 bQ h1 wb cw V->
  ∀(h2:ad) (x3:Option Addr) (m3 k3:Nat) (x4:Option Addr) (m4 k4:Nat),Le h1 h2->Sl 205 bD h2 (.slice x3 m3 k3) (bL H s)->Sl 205 bD h2 (.slice x4 m4 k4) (bL Wt s)->
  ∀h3,h3=bl h2 c (.cells #[.slice (some ⟨tb,0,none⟩) n1 ct,.slice (some ⟨wb,0,none⟩) n2 cw,.slice x3 m3 k3,.slice x4 m4 k4,.int .u32 o,.int .i32 0,.int .u32 0,.int .i64 e] 128 (0,0))->k (.tuple #[]) h3:=
  fun h1 k1 _ n1 n2 b3 n3 c3 b4 n4 c4 o g0 ho g1 g2 g3 g4 h2 x3 m3 k3 x4 m4 k4 l2 r3 r4 h3 e3=>by
   have hl:=iG.xF (l2 _ _ g0) ho g1 (g2.mono (l2.t _)) g3 (g4.mono (l2.t _)) r3 r4 e3;exact hk h3 ((k1.trans (l2.kp _)).trans (hl.1.sub (by simp))) hl.2
 refine oM A (aq T61.ax T61.bm) Tryz.func61 rfl (by kernel_rfl) ?_;cbv;refine oz q s (fun h1 z t l1 hz ht=>?_);have q1:=q.mono l1;cases t with
 |false=>
  have hVW:V=W:=by rw[hV];unfold vE;rw[<-ht];rfl
  clear hV;subst hVW;refine q1.elim (fun n1 n2 b3 n3 c3 b4 n4 c4 o g0 ho g1 g2 g3 g4 g6 g7 _=>?_);have fin:=fin h1 (l1.kp _) q1 n1 n2 b3 n3 c3 b4 n4 c4 o g0 ho g1 g2 g3 g4;cbv;rw[ai A];rw[ai A];refine ar g0 rfl rfl ?_;cbv;refine AL g6 g7 s oL ng (fun h2 x3 m3 k3 x4 m4 k4 l2 r3 r4=>?_);cbv;rw[ai A];rw[ai A];refine eH (l2 _ _ g0) (by simp) (fun h3 e3=>?_);have af:=fin h2 x3 m3 k3 x4 m4 k4 l2 r3 r4 h3 e3;cbv;exact af
 |true=>
  have hVW:V=W.eraseIdx (dC (cX W s)):=by rw[hV];unfold vE;rw[<-ht];rfl
  have aI:dC (cX W s)<W.length:=by have:=kJ ht.symm;simpa[cX]using this
  generalize dC (cX W s)=i at *;clear hV;refine q1.elim (fun n1 n2 b3 n3 c3 b4 n4 c4 o g0 ho g1 g2 g3 g4 g6 g7 _=>?_);have wv:=g4.bd;have mW:=hz.succ (A:=A) (by omega);have fI:i<n2:=by omega
  have hlV:V.length=n2-1:=by rw[hVW,List.length_eraseIdx_of_lt aI];omega
  cbv;rw[ai A];rw[ai A];refine ar g0 rfl rfl ?_;cbv;refine FG g4 g3 hz mW fI (fun h2 m hm k2 t2 o2=>?_);have gc2:h2 c=h1 c:=(k2 _ _ g0 (by simpa using pf)).trans g0.symm;rw[<-hVW]at o2;have aJ:=fun h3 hh=>iG.au (h':=h3) g0 ho g1 g2 g6 g7 (hm.trans hlV.symm) t2 gc2 o2 hh;have gc2':=gc2.trans g0;cbv;rw[ai A];rw[ai A];refine eH gc2' (by simp) (fun h3 e3=>?_);obtain⟨k3,q3⟩:=aJ h3 e3;have Ce:Kp [c,wb] h h3:=((l1.kp _).trans (k2.sub (by simp))).trans (k3.sub (by simp));clear aJ e3;refine q3.elim (fun n1 n2 b3 n3 c3 b4 n4 c4 o g0 ho g1 g2 g3 g4 g6 g7 _=>?_);have fin:=fin h3 Ce q3 n1 n2 b3 n3 c3 b4 n4 c4 o g0 ho g1 g2 g3 g4;cbv;rw[ai A];rw[ai A];refine ar g0 rfl rfl ?_;cbv;refine AL g6 g7 s oL ng (fun h4 x3 m3 k3 x4 m4 k4 l4 r3 r4=>?_);cbv;rw[ai A];rw[ai A];refine eH (l4 _ _ g0) (by simp) (fun h5 e5=>?_);have af:=fin h4 x3 m3 k3 x4 m4 k4 l4 r3 r4 h5 e5;cbv;exact af
structure Ln(z:Int)(i:Nat):Prop where
 eq:z=(i:Int)-1
theorem Ln.wF{z:Int}{i:Nat}(h:Ln z (i+1)):aP z i:=⟨by have:=h.eq;omega⟩
theorem Ln.ge{A:Ar}[hA:aX A]{z:Int}{i:Nat}(h:Ln z i):A .aF .geq z 0=decide (1<=i):=by have:=h.eq;rw[bO A,decide_eq_decide];omega
theorem _root_.Go.Sx.aP.pred{A:Ar}[hA:aX A]{z:Int}{i:Nat}(h:aP z i)(hi:i<2^62):Ln (A .bA .sub .i64 z 1) i:=⟨by
 have:=h.eq;rw[hA.bA];simp only[bA];rw[IntWalk.i64_in _ (by omega)];omega⟩
abbrev Yd(l:Nat)(args:List Value)(h:ad)(R:Value->ad->Prop):Prop:=Of (fun _=>Tryz.prog) l args h R
theorem N6{xs:List lG}{bb l:Nat}{b:Option Addr}{n c:Nat}(J:Nat->ad->Prop)(hJ:∀i hh,J i hh->hh bb=some (.cells #[.slice b n c] 52 (0,0))/\Sl 148 fO hh (.slice b n c) xs)
 (hY:∀i x hh z cs,J (i+1) hh->xs[i]? =some x->aP z i->fO.R hh cs x->Yd l [.int .i64 z,.agg cs.toArray] hh (fun v h'=>v=.bool true/\J i h')) {h:ad} (h0:J n h) {k:Value->ad->Prop}
 (hk:∀h',J 0 h'->k (.tuple #[]) h'):Ct 239 [.func (.yield l) #[] #[],.pointer (some ⟨bb,0,none⟩)] h k:=by
 obtain⟨A,hA⟩:=Ar.ex;obtain⟨g0,q0⟩:=hJ n h h0;have hlen:=q0.len;have wv:=q0.bound.1;have qY:A .not true=false:=by rw[hA.not];rfl
 have E6:Ln (A .bA .sub .i64 (A .nat n) 1) n:=(aP.nat n).pred (by omega);refine ah A (aq YT.ax YT.bm) Tryz.func239 rfl (by kernel_rfl) ?_;cbv;refine ar g0 rfl rfl ?_;cbv;refine aZ.go (G:=Int) (fun g=>[(3,.v (.int .i64 g))]) (fun _=>[]) (fun m g h'=>∃i:Nat,Ln g i/\m=i/\i<=n/\J i h') n (A .bA .sub .i64 (A .nat n) 1) ⟨?_,?_,?_⟩ ⟨n,E6,rfl,Nat.le_refl _,h0⟩ ?_
 ·cbv
 ·cbv
 ·cbv
 ·intro m g h' hI;cbv;obtain⟨i,hg,hm,fI,hj⟩:=hI;rw[hg.ge (A:=A)];cases i with
  |zero=>have af:=hk h' hj;rw[show decide (1<=0)=false from rfl];cbv;exact af
  |succ i=>
   obtain⟨g1,q1⟩:=hJ _ _ hj;have KV:aP g i:=hg.wF;obtain⟨x,hx⟩:=aD (xs:=xs) (i:=i) (by omega);have cy:b.isSome=true/\0<=g/\g<(n:Int):=⟨q1.bF (by omega),KV.ix (by omega)⟩;have Wx:Ln (A .bA .sub .i64 g 1) i:=KV.pred (by omega);rw[show decide (1<=i+1)=true from decide_eq_true (by omega)];cbv;refine ar g1 rfl rfl ?_;cbv;refine⟨cy,?_⟩;cbv;refine q1.load hx KV.eq (fun cs aJ=>?_);have hyd:=hY i x h' g cs hj hx KV aJ;obtain⟨b1,n1,c1,rfl,-⟩:=aJ;cbv;refine hyd.mono (fun v h2 hR=>?_);obtain⟨rfl,Gv⟩:=hR;cbv;rw[qY];cbv;refine⟨i,_,by omega,⟨?_,?_,?_⟩,i,Wx,rfl,by omega,Gv⟩
   ·cbv
   ·cbv
   ·cbv
theorem A9{h:ad}{b:Option Addr}{n c:Nat}{k:Value->ad->Prop}(hk:∀h' bb,h bb=none->Le h h'->h' bb=some (.cells #[.slice b n c] 52 (0,0))->k (.func (.func 239) #[] #[.pointer (some ⟨bb,0,none⟩)]) h'):
 Ct 156 [.slice b n c] h k:=by
 obtain⟨A,hA⟩:=Ar.ex;refine ah A (aq ZL.ax ZL.bm) Tryz.func156 rfl (by kernel_rfl) ?_;cbv;intro bb h1 WY e1;have af:=hk h1 bb WY (by rw[e1];exact Le.set WY) ((congrFun e1 bb).trans ae);cbv;exact af
def wX(r:Row)(key:Int):dc:=(r[key.toNat]?).getD ⟨0,0,fT⟩
def iM(T:List cg)(x:lG):List cg:=
 if lq (aR T x.table)=true then
  match T[dC (aR T x.table)]? with
  |some t=>if decide (x.op=2)=true then T.set (dC (aR T x.table)) (cd t x.row).1
   else if(decide (t.S.key>=0)&&decide (t.S.key<(x.row.length:Int)))=true then T.set (dC (aR T x.table)) (bt t (wX x.row t.S.key)).1 else T
  |none=>T
 else T
def fx(T:List cg)(l:List lG):List cg:=l.foldr (fun x T=>iM T x) T
def eF(n:Int)(len:Nat):Nat:=min n.toNat len
def iC(T:List cg):Prop:=∀t∈T,t.rows.length<=2^36
theorem zJ(t:cg)(r:Row)(h:t.rows.length<=2^36):(cd t r).1.rows.length<=2^36:=by
 unfold cd;split
 ·exact h
 ·split
  ·exact h
  ·split
   ·exact h
   ·rename_i h3;have h3:¬((t.rows.length:Int)>=200):=by simpa using h3
    simp[BJ];omega
theorem yl(t:cg)(k:dc)(h:t.rows.length<=2^36):(bt t k).1.rows.length<=2^36:=by
 unfold bt;split
 ·simp[BK];omega
 ·exact h
theorem iC.set{T:List cg}(h:iC T){t:cg}(ht:t.rows.length<=2^36)(i:Nat):iC (T.set i t):=fun x hx=>by
 rcases List.mem_or_eq_of_mem_set hx with h1|h1
 ·exact h x h1
 ·rw[h1];exact ht
theorem BE{T:List cg}(h:iC T)(x:lG):iC (iM T x):=by
 unfold iM;split
 ·split
  ·rename_i t ht;have:=h t (List.mem_of_getElem? ht);split
   ·exact h.set (zJ _ _ this) _
   ·split
    ·exact h.set (yl _ _ this) _
    ·exact h
  ·exact h
 ·exact h
theorem pw{T:List cg}(h:iC T):∀l,iC (fx T l)
 | []=>h
 |x::r=>BE (pw h r) x
theorem BD{T:List cg}{l:List lG}{i:Nat}{x:lG}(hx:l[i]? =some x):fx T (l.drop i)=iM (fx T (l.drop (i+1))) x:=by obtain⟨h1,h2⟩:=List.getElem?_eq_some_iff.1 hx;rw[List.drop_eq_getElem_cons h1,h2];rfl
theorem _root_.Go.Sx.Kp.uU{h h':ad}{nb e:Nat}{c:Array Value}{fr:Nat×Nat}(k:Kp [nb] h h')(hn:h nb=some (.cells c e fr)){tys:List Nat}(he:e∉tys):bE tys h h':=fun b d e' Fu hm hb=>
 k b _ hb (by
  intro iu;simp at iu;rw[iu,hn]at hb;cases hb;exact he hm)
theorem iG.Hm{h h':ad}{c tb wb ct cw:Nat}{T T':List cg}{W:List (dw×Bool)}{H Wt:List bP}{e:Int}(q:iG h c tb wb ct cw T W H Wt e)(hl:T'.length=T.length)(k:Kp [tb] h h')(t:∀tys,51∉tys->bE tys h h')(o:dq 51 cL h' tb ct T')(rf:c≠tb):iG h' c tb wb ct cw T' W H Wt e:=by obtain⟨n1,n2,b3,n3,c3,b4,n4,c4,o1,g0,ho,g1,g2,g3,g4,g6,g7⟩:=q.out;exact⟨n1,n2,b3,n3,c3,b4,n4,c4,o1,k _ _ g0 (by simpa using rf),ho,by rw[hl];exact g1,o,g3,g4.mono (t _ (by decide)),g6.mono (t _ (by decide)),g7.mono (t _ (by decide))⟩
theorem iG.lt{h h':ad}{c tb wb ct cw:Nat}{T:List cg}{W:List (dw×Bool)}{H Wt:List bP}{e:Int}(q:iG h c tb wb ct cw T W H Wt e)(hl:∀tys,bE tys h h'):iG h' c tb wb ct cw T W H Wt e:=by obtain⟨n1,n2,b3,n3,c3,b4,n4,c4,o,g0,g1,g2,g3,g4,g5,g6,g7⟩:=q.out;exact⟨n1,n2,b3,n3,c3,b4,n4,c4,o,hl [128] _ _ _ _ (by simp) g0,g1,g2,g3.mono (hl _),g4,g5.mono (hl _),g6.mono (hl _),g7.mono (hl _)⟩
theorem bE.oset{tys:List Nat}{h:ad}{n:Nat}{o:Obj}(hn:∀c e fr,h n≠some (.cells c e fr)):bE tys h (bl h n o):=fun b c e fr _ hb=>by
 rw[av (fun e'=>hn c e fr (by rw[<-e'];exact hb))];exact hb
theorem zF{A:Ar}[hA:aX A](n:Int)(m:Nat):aP (A .kQ (A .imax n 0) (A .nat m)) (eF n m):=⟨by
 rw[hA.kQ,hA.imax,hA.nat];unfold eF;simp only[Int.ofNat_eq_natCast];omega⟩
theorem GZ(n:Int)(m:Nat):eF n m<=m:=by unfold eF;omega
theorem G5{h:ad}{c tb wb ct cw:Nat}{T:List cg}{W:List (dw×Bool)}{H Wt:List bP}{e:Int}(q:iG h c tb wb ct cw T W H Wt e)(rf:c≠tb)(pf:c≠wb)(Wm:iC T){z:Int}{i:Nat}(hz:aP z i){w:dw×Bool}(hw:W[i]? =some w)(n:Int){k:Value->ad->Prop}
 (hk:∀h',Kp [tb,wb] h h'->iG h' c tb wb ct cw (fx T (w.1.log.drop (eF n w.1.log.length))) (W.set i (⟨w.1.s,w.1.log.take (eF n w.1.log.length),w.1.marks⟩,false)) H Wt e->k (.tuple #[]) h'):
 Ct 78 [.pointer (some ⟨c,0,none⟩),.int .i64 z,.int .i64 n] h k:=by
 obtain⟨A,hA⟩:=Ar.ex;obtain⟨⟨ws,wl,wm⟩,wg⟩:=w;refine q.elim (fun n1 n2 b3 n3 c3 b4 n4 c4 o g0 ho g1 g2 g3 g4 g6 g7 _=>?_);have jV:i<W.length:=(List.getElem?_eq_some_iff.1 hw).1;have Jl:(some (⟨wb,0,none⟩:Addr)).isSome=true/\0<=z/\z<(n2:Int):=⟨rfl,hz.ix (by omega)⟩;refine iY A (aq T78.ax (fun s=>s==3)) Tryz.func78 rfl (by kernel_rfl) ?_;cbv;intro p3 h1 Rz e1;have l1:Le h h1:=by rw[e1];exact Le.set Rz
 have f3:h1 p3=some (.cells #[.pointer (some ⟨c,0,none⟩)] 109 (0,0)):=(congrFun e1 p3).trans ae;have q1:=q.mono l1;have g01:=l1 _ _ g0;have Xr:=(g4.sl g3).mono (l1.t [55,148,61,161]);cbv;refine ar f3 rfl rfl ?_;cbv;rw[ai A];rw[ai A];refine ar g01 rfl rfl ?_;cbv;refine⟨Jl,?_⟩;cbv;refine sq Xr hw hz.eq (fun b1 m1 c1 q1l _ again=>?_);cbv;refine again _ _ (Le.refl _) ?_;have tJ:=q1l.len;have tJ:m1=wl.length:=tJ;have MW:=zF (A:=A) n m1;have WB:=GZ n m1;rw[tJ]at MW WB;obtain⟨lo,elo⟩:∃lo,lo=eF n wl.length:=⟨_,rfl⟩;rw[<-elo]at MW WB;have mI:0<=A .kQ (A .imax n 0) (A .nat m1)/\A .kQ (A .imax n 0) (A .nat m1)<=(m1:Int):=by rw[tJ];have:=MW.eq;omega
 rw[<-tJ]at MW;have xJ:=q1l.tu (A:=A) MW (by omega) rfl rfl;have xJ:Sl 148 fO h1 _ (wl.drop lo):=xJ;have Uh:=ei (A:=A) (n:=m1) MW;have hd3:=ei (A:=A) (n:=c1) MW;cbv;refine⟨mI,?_⟩;cbv;rw[Uh,hd3];refine A9 (fun h2 bb WY l2 fb=>?_);cbv;refine⟨fun m l o1 o2 hm hl RG ho1 ho2 hY=>?_⟩;obtain⟨xs,yL⟩:∃xs,xs=wl.drop lo:=⟨_,rfl⟩;rw[<-yL]at xJ;obtain⟨hb,ehb⟩:∃hb,hb=bl (bl h2 m (.deferred (some []))) l o1:=⟨_,rfl⟩;have VL:Le h2 hb:=by rw[ehb];exact(Le.set hm).trans (Le.set (by rw[av (Ne.symm RG)];exact hl))
 have fl:hb l=some o1:=by rw[ehb];exact ae
 have fm:hb m=some (.deferred (some [])):=by rw[ehb,av RG];exact ae
 have fbb:=VL _ _ fb;have f3b:=VL _ _ (l2 _ _ f3);have qb:=(q1.mono l2).mono VL;have WM:=xJ.mono ((l2.trans VL).t _);have O6:=l2.trans VL;rw[<-ehb];obtain⟨ctb,pJ,-⟩:=g2.out;have htbb:=O6 _ _ (l1 _ _ pJ);have nbb:bb≠tb:=fun e=>by rw[e,l1 _ _ pJ]at WY;cases WY
 have n3:p3≠tb:=fun e=>by rw[e,pJ]at Rz;cases Rz
 have nl:l≠tb:=fun e=>by rw[e,l2 _ _ (l1 _ _ pJ)]at hl;cases hl
 have nm:m≠tb:=fun e=>by rw[e,l2 _ _ (l1 _ _ pJ)]at hm;cases hm
 have nlc:l≠c:=fun e=>by rw[e,l2 _ _ g01]at hl;cases hl
 have n3l:p3≠l:=fun e=>by rw[<-e,l2 _ _ f3]at hl;cases hl
 have aI:∀tys hh,51∉tys->Kp [tb] hb hh->bE tys hb hh:=fun tys hh ht k=>Kp.uU k htbb ht;obtain⟨J,W5⟩:∃J:Nat->ad->Prop,∀i hh,J i hh=(hh l=some o1/\Kp [tb] hb hh/\iG hh c tb wb ct cw (fx T (xs.drop i)) W H Wt e):=⟨_,fun _ _=>rfl⟩;refine N6 (n:=m1-lo) J (fun i hh hj=>by rw[W5]at hj;exact⟨hj.2.1 _ _ fbb (by simpa using nbb),WM.mono (aI _ _ (by decide) hj.2.1)⟩) ?_ (by rw[W5];exact⟨fl,Kp.refl _ _,by rw[List.drop_eq_nil_of_le (by rw[<-xJ.len];exact Nat.le_refl _)];exact qb⟩) ?_
 ·intro j x hh zj cs hj hx hzj aJ;have Gv:=hj;rw[W5]at Gv;obtain⟨hhl,pd,Ud⟩:=Gv;clear hj;refine hY [.int .i64 zj,.agg cs.toArray] hh _ rfl hhl ?_;obtain⟨bx,nx,cx,rfl,qx⟩:=aJ;obtain⟨xt,xo,xr⟩:=x;have qx:Sl 61 aQ hh (.slice bx nx cx) xr:=qx;cbv;refine⟨hhl,?_⟩;obtain⟨h3,e3⟩:∃h3,h3=bl hh l o2:=⟨_,rfl⟩;rw[<-e3];obtain⟨T1,Na⟩:∃T1,T1=fx T (xs.drop (j+1)):=⟨_,rfl⟩;have hT1r:iC T1:=by rw[Na];exact pw Wm _
  have hT0:fx T (xs.drop j)=iM T1 ⟨xt,xo,xr⟩:=by rw[Na];exact BD hx
  obtain⟨T0,Nb⟩:∃T0,T0=iM T1 ⟨xt,xo,xr⟩:=⟨_,rfl⟩;have zy:h3 l=some o2:=by rw[e3];exact ae
  have yC:∀tys,bE tys hh h3:=fun tys=>by rw[e3];exact bE.oset (fun c e fr he=>by rw[hhl]at he;cases he;exact ho1 _ _ _ rfl)
  have fin:∀h',Kp [tb] h3 h'->iG h' c tb wb ct cw T0 W H Wt e->h' l=some o2/\J j (bl h' l o1):=fun h' k' q'=>by
   have Cx:=k' _ _ zy (by simpa using nl);rw[W5];refine⟨Cx,ae,fun b o rP AD=>?_,?_⟩
   ·by_cases wu:b=l
    ·rw[wu,fl]at rP;cases rP;rw[wu];exact ae
    ·rw[av wu];refine k' _ _ ?_ AD;rw[e3,av wu];exact pd _ _ rP AD
   ·rw[hT0,<-Nb];exact q'.lt (fun tys=>bE.oset (fun c e fr he=>by rw[Cx]at he;cases he;exact ho2 _ _ _ rfl))
  rw[<-Na]at Ud;have q3:=Ud.lt yC;have qx3:=qx.mono (yC _);have f33:h3 p3=some (.cells #[.pointer (some ⟨c,0,none⟩)] 109 (0,0)):=by rw[e3,av n3l];exact pd _ _ f3b (by simpa using n3)
  clear e3 yC Ud qx Na hT0 hY xJ WM;clear yL;refine ar f33 rfl rfl ?_;cbv;refine zK q3 xt (fun h4 zt t l4 wa ht=>?_);have q4:=q3.mono l4;cases t with
  |false=>
   have hU:T0=T1:=by rw[Nb];unfold iM;rw[<-ht];rfl
   have af:=fin h4 (l4.kp _) (by rw[hU];exact q4);cbv;rw[show A .not false=true by rw[hA.not];rfl];cbv;exact af
  |true=>
   have Wb:dC (aR T1 xt)<T1.length:=by have:=kJ ht.symm;simpa[aR]using this
   obtain⟨⟨⟨tn,tc,tk,to⟩,tr⟩,Rr⟩:=aD Wb;have hU:T0=if decide (xo=2)=true then T1.set (dC (aR T1 xt)) (cd ⟨⟨tn,tc,tk,to⟩,tr⟩ xr).1
    else if(decide (tk>=0)&&decide (tk<(xr.length:Int)))=true then T1.set (dC (aR T1 xt)) (bt ⟨⟨tn,tc,tk,to⟩,tr⟩ (wX xr tk)).1 else T1:=by rw[Nb];unfold iM;rw[<-ht,Rr];rfl
   have htr:tr.length<=2^36:=hT1r ⟨⟨tn,tc,tk,to⟩,tr⟩ (List.mem_of_getElem? Rr);generalize dC (aR T1 xt)=ti at *;clear Nb ht;refine q4.elim (fun u1 u2 y3 v3 w3 y4 v4 w4 oo G0 Ho G1 G2 G3 G4 G6 G7 _=>?_);have Jn:(some (⟨tb,0,none⟩:Addr)).isSome=true/\0<=zt/\zt<(u1:Int):=⟨rfl,wa.ix (by omega)⟩;have G2s:=G2.sl G1;have f34:=l4 _ _ f33;have qx4:=qx3.mono (l4.t _);cbv;rw[show A .not true=false by rw[hA.not];rfl];cbv;refine ar f34 rfl rfl ?_;cbv;rw[ai A];rw[ai A];refine ar G0 rfl rfl ?_;cbv;refine⟨Jn,?_⟩;cbv;generalize eu:A .aF .eql xo 2=u;rw[aw A]at eu;cases u with
   |true=>
    rw[if_pos eu]at hU;cbv;refine uV G2s Rr wa.eq (fun d1 p1 r1 d2 p2 r2 s1 s2=>?_);cbv;have Cp:=s2.len;have Cp:p2=tr.length:=Cp;refine Qq (nm:=tn) (key:=tk) (only:=to) s1 s2 qx4 (by omega) (fun h5 b1 n1 k1 b2 n2 k2 T' e' l5 r1 r2 r3=>?_);have bl:(cd ⟨⟨tn,tc,tk,to⟩,tr⟩ xr).1=⟨⟨tn,tc,tk,to⟩,T'⟩:=by rw[<-r3]
    rw[bl]at hU;cbv;refine(G2.mono (l5.t _)).setAt (by decide) Wb wa.eq rfl (x:=⟨⟨tn,tc,tk,to⟩,T'⟩) ⟨_,_,_,_,_,_,rfl,r1,r2⟩ (fun h6 k6 t6 o6=>?_);rw[<-hU]at o6;have af:=fin h6 (((l4.trans l5).kp _).trans k6) (iG.Hm (q4.mono l5) (by rw[hU];simp) k6 t6 o6 rf);cbv;exact af
   |false=>
    rw[if_neg (by rw[eu];simp)]at hU;have hxr:=qx4.len;have hxr:nx=xr.length:=hxr;generalize eg:A .aF .geq tk 0=ug;have fg:=eg;rw[bO A]at eg;rw[eg]at hU;generalize el:A .aF .lss tk (A .nat nx)=ul;have fl2:=el;rw[bC A,hA.nat,hxr,show Int.ofNat xr.length=(xr.length:Int)from rfl]at el;rw[el]at hU;cbv;refine G2s.uS Rr wa.eq (o1:=0) (o2:=2) (m:=1) (by decide) (fun cs aJ=>?_);obtain⟨d1,p1,r1,d2,p2,r2,rfl,s1,s2⟩:=aJ;have s1:Sl 165 aT h4 (.slice d1 p1 r1) tc:=s1;have s2:Sl 59 az h4 (.slice d2 p2 r2) tr:=s2;have Cp:=s2.len;have Cp:p2=tr.length:=Cp;cases ug with
    |false=>have af:=fin h4 (l4.kp _) (by rw[hU];exact q4);cbv;rw[fg];cbv;exact af
    |true=>
     have Gt:tk>=0:=of_decide_eq_true eg;cbv;rw[fg];cbv;refine G2s.uS Rr wa.eq (o1:=0) (o2:=2) (m:=1) (by decide) (fun cs aJ=>?_);obtain⟨d1,p1,r1,d2,p2,r2,rfl,-,-⟩:=aJ;cbv;cases ul with
     |false=>have af:=fin h4 (l4.kp _) (by rw[hU];exact q4);cbv;rw[fl2];cbv;exact af
     |true=>
      have pd:tk<(xr.length:Int):=of_decide_eq_true el;have hktn:tk.toNat<xr.length:=by omega
      have hkN:aP tk tk.toNat:=⟨(Int.toNat_of_nonneg Gt).symm⟩;obtain⟨⟨vk,vn,vs⟩,hv⟩:=aD hktn;have hvA:wX xr tk=⟨vk,vn,vs⟩:=by unfold wX;rw[hv];rfl
      have hckk:bx.isSome=true/\0<=tk/\tk<(nx:Int):=⟨qx4.bF (by omega),hkN.ix (by omega)⟩;rw[hvA]at hU;have Jb:tk=((tk.toNat:Nat):Int):=hkN.eq;generalize tk.toNat=kk at *;cbv;rw[fl2];cbv;refine uV G2s Rr wa.eq (fun d1 p1 r1 d2 p2 r2 s1 s2=>?_);have Cp:=s2.len;have Cp:p2=tr.length:=Cp;cbv;refine G2s.uS Rr wa.eq (o1:=0) (o2:=2) (m:=1) (by decide) (fun cs aJ=>?_);obtain⟨d3,p3',r3,d4,p4',r4,rfl,-,-⟩:=aJ;cbv;refine⟨hckk,?_⟩;cbv;refine qx4.load hv Jb (fun cs aJ=>?_);have aJ:cs=[.int .i64 vk,.int .i64 vn,.string vs]:=aJ;subst aJ;cbv;refine LF (nm:=tn) (key:=tk) (only:=to) s1 s2 (by omega) ⟨vk,vn,vs⟩ (fun h5 b1 n1 k1 b2 n2 k2 b3 n3 k3 T' R' e' l5 r1 r2 r2' r3=>?_);have bl:(bt ⟨⟨tn,tc,tk,to⟩,tr⟩ ⟨vk,vn,vs⟩).1=⟨⟨tn,tc,tk,to⟩,T'⟩:=by rw[<-r3]
      have hU:T0=T1.set ti (bt ⟨⟨tn,tc,tk,to⟩,tr⟩ ⟨vk,vn,vs⟩).1:=hU;rw[bl]at hU;cbv;refine(G2.mono (l5.t _)).setAt (by decide) Wb wa.eq rfl (x:=⟨⟨tn,tc,tk,to⟩,T'⟩) ⟨_,_,_,_,_,_,rfl,r1,r2⟩ (fun h6 k6 t6 o6=>?_);rw[<-hU]at o6;have af:=fin h6 (((l4.trans l5).kp _).trans k6) (iG.Hm (q4.mono l5) (by rw[hU];simp) k6 t6 o6 rf);cbv;exact af
 ·intro h3 hj;rw[W5]at hj;obtain⟨zy,Fj,hq3⟩:=hj;refine⟨zy,fun o3 zx=>?_⟩;obtain⟨h4,e4⟩:∃h4,h4=bl h3 l o3:=⟨_,rfl⟩;rw[<-e4];have lt4:∀tys,bE tys h3 h4:=fun tys=>by rw[e4];exact bE.oset (fun c e fr he=>by rw[zy]at he;cases he;exact ho1 _ _ _ rfl)
  have q4:=hq3.lt lt4;rw[List.drop_zero,yL]at q4;have fm4:h4 m=some (.deferred (some [])):=by rw[e4,av RG];exact Fj _ _ fm (by simpa using nm)
  have kall:∀b o,h b=some o->b∉[tb,wb]->h4 b=some o:=fun b o rP AD=>by
   have wu:b≠l:=fun e=>by rw[e]at rP;rw[l2 _ _ (l1 _ _ rP)]at hl;cases hl
   rw[e4,av wu];exact Fj _ _ (O6 _ _ (l1 _ _ rP)) (by simp at AD |-;exact AD.1)
  refine q4.elim (fun u1 u2 y3 v3 w3 y4 v4 w4 oo G0 Ho G1 G2 G3 G4 G6 G7 _=>?_);cbv;refine sq (G4.sl G3) hw hz.eq (fun UA QQ GJ Qp _ Tt=>?_);have MV:=Qp.len;have MV:QQ=wl.length:=MV;have Ja:=zF (A:=A) n QQ;rw[MV,<-elo]at Ja;have Ja:aP (A .kQ (A .imax n 0) (A .nat QQ)) lo:=by rw[MV];exact Ja
  have hbd':=Qp.bound.2;have Jo:0<=A .kQ (A .imax n 0) (A .nat QQ)/\A .kQ (A .imax n 0) (A .nat QQ)<=(GJ:Int):=by have:=Ja.eq;omega
  have TY:=Qp.Dc (A:=A) (i:=lo) (by omega);have iJ:=dv (A:=A) Ja;cbv;refine Tt _ _ (Le.refl _) ?_;cbv;refine⟨Jo,?_⟩;cbv;rw[iJ];have Rq:Sl 148 fO h4 _ (wl.take lo):=TY;have Rq:Sl 148 fO h4 (.slice (A .cut UA 0 (A .nat GJ) 3) lo GJ) (wl.take lo):=Rq;refine G4.Ev (by decide) hw hz.eq rfl (off:=1) (by simp[bQ]) (x':=(⟨ws,wl.take lo,wm⟩,false)) (fun cs aJ=>?_) (fun h5 k5 t5 o5=>?_)
  ·obtain⟨x1,y1,z1,x2,y2,z2,rfl,j1,j2,j3⟩:=aJ;exact⟨_,_,_,_,_,_,rfl,Rq,j2,fun hf=>by cases hf⟩
  ·have bG:∀b o,h4 b=some o->b≠wb->h5 b=some o:=fun b o ju iu=>k5 b o ju (by simpa using iu);have nmw:m≠wb:=fun e=>by
    obtain⟨cw',WS,-⟩:=G4.out;rw[<-e,fm4]at WS;cases WS
   have fm5:=bG _ _ fm4 nmw;have q5:iG h5 c tb wb ct cw (fx T (wl.drop lo)) (W.set i (⟨ws,wl.take lo,wm⟩,false)) H Wt e:=by refine⟨u1,u2,y3,v3,w3,y4,v4,w4,oo,bG _ _ G0 pf,Ho,G1,G2.mono (t5 _ (by decide)),by rw[List.length_set];exact G3,o5,G6.mono (t5 _ (by decide)),G7.mono (t5 _ (by decide))⟩
   obtain⟨h6,e6⟩:∃h6,h6=bl h5 m (.deferred none):=⟨_,rfl⟩;have q6:iG h6 c tb wb ct cw (fx T (wl.drop lo)) (W.set i (⟨ws,wl.take lo,wm⟩,false)) H Wt e:=q5.lt (fun tys=>by rw[e6];exact bE.oset (fun c e fr he=>by rw[fm5]at he;cases he));have k6:Kp [tb,wb] h h6:=fun b o rP AD=>by
    have R8:b≠m:=fun e=>by rw[e]at rP;rw[l2 _ _ (l1 _ _ rP)]at hm;cases hm
    rw[e6,av R8];exact bG _ _ (kall b o rP AD) (by simp at AD;exact AD.2)
   rw[elo]at q6;have af:=hk h6 k6 q6;rw[e6]at af;cbv;exact⟨fm5,af⟩
def xW(T:List cg)(W:List (dw×Bool))(s:Int):List cg:=
 if lq (cX W s)=true then match W[dC (cX W s)]? with
  |some w=>fx T w.1.log
  |none=>T
 else T
theorem zA{W:List (dw×Bool)}{i:Nat}{w w':dw×Bool}(hw:W[i]? =some w)(hs:w'.1.s=w.1.s)(s:Int):cX (W.set i w') s=cX W s:=by
 unfold cX;rw[List.map_set];apply List.ext_getElem?;intro j;rw[List.getElem?_set];split
 ·rename_i e;subst e;split
  ·rw[List.getElem?_map,hw];simp[hs]
  ·rename_i h1;have:=(List.getElem?_eq_some_iff.1 hw).1;simp at h1;omega
 ·rfl
theorem FD{α:Type}{W:List α}{i:Nat}{x:α}:(W.set i x).eraseIdx i=W.eraseIdx i:=by exact List.eraseIdx_set_eq
theorem Kl{h:ad}{c tb wb ct cw:Nat}{T:List cg}{W:List (dw×Bool)}{H Wt:List bP}{e:Int}(q:iG h c tb wb ct cw T W H Wt e)(rf:c≠tb)(pf:c≠wb)(Wm:iC T)(s:Int)(oL:H.length<=2^38)(ng:Wt.length<=2^38){k:Value->ad->Prop}
 (hk:∀h',Kp [c,tb,wb] h h'->iG h' c tb wb ct cw (xW T W s) (vE W s) (bL H s) (bL Wt s) e->k (.tuple #[]) h'):Ct 76 [.pointer (some ⟨c,0,none⟩),.int .i64 s] h k:=by
 obtain⟨A,hA⟩:=Ar.ex;obtain⟨T1,Na⟩:∃T1,T1=xW T W s:=⟨_,rfl⟩;obtain⟨W1,hW1⟩:∃W1,W1=vE W s:=⟨_,rfl⟩;rw[<-Na,<-hW1]at hk;refine iY A (aq T76.ax T76.bm) Tryz.func76 rfl (by kernel_rfl) ?_;cbv;refine oz q s (fun h1 z t l1 hz ht=>?_);have q1:=q.mono l1;cases t with
 |false=>
  have Fp:T1=T:=by rw[Na];unfold xW;rw[<-ht];rfl
  cbv;refine JJ q1 pf s oL ng (fun h2 k2 q2=>?_);rw[<-hW1,<-Fp]at q2;have af:=hk h2 ((l1.kp _).trans (k2.sub (by simp))) q2;cbv;exact af
 |true=>
  have aI:dC (cX W s)<W.length:=by have:=kJ ht.symm;simpa[cX]using this
  obtain⟨w,hw⟩:=aD aI;have Fp:T1=fx T w.1.log:=by rw[Na];unfold xW;rw[<-ht,hw];rfl
  have hWW:W1=W.eraseIdx (dC (cX W s)):=by rw[hW1];unfold vE;rw[<-ht];rfl
  obtain⟨i,hi⟩:∃i,i=dC (cX W s):=⟨_,rfl⟩;rw[<-hi]at hz hw hWW;clear Na hW1;cbv;refine G5 q1 rf pf Wm hz hw 0 (fun h2 k2 q2=>?_);have h0:eF 0 w.1.log.length=0:=by unfold eF;simp
  rw[h0,List.drop_zero,<-Fp]at q2;cbv;refine JJ q2 pf s oL ng (fun h3 k3 q3=>?_);have hE:vE (W.set i (⟨w.1.s,w.1.log.take 0,w.1.marks⟩,false)) s=W1:=by unfold vE;rw[zA hw (by rfl),<-ht,<-hi,hWW];rw[if_pos rfl,FD]
  rw[hE]at q3;have af:=hk h3 (((l1.kp _).trans (k2.sub (by simp))).trans (k3.sub (by simp))) q3;cbv;exact af
def Wf(ws:List dw):List (dw×Bool):=ws.map fun w=>(w,true)
def vG(ws:List dw)(s:Int):List dw:=if lq (cu ws s)=true then ws.eraseIdx (dC (cu ws s))else ws
def ou(T:List cg)(ws:List dw)(s:Int):List cg:=
 if lq (cu ws s)=true then match ws[dC (cu ws s)]? with
  |some w=>fx T w.log
  |none=>T
 else T
def kL(d:DB)(s:Int):DB:=⟨ou d.aK d.au s,vG d.au s,bL d.holds s,bL d.waits s⟩
def gQ:Nat->DB->bP->DB×Int
 |0,d,_=>(d,16)
 |f+1,d,hd=>
  if bu d.holds hd=true then(⟨d.aK,d.au,bT d.holds hd,cS d.holds d.waits hd⟩,0)
  else if(cZ (ch (bT d.holds hd) (cS d.holds d.waits hd)) hd.s).2=true then
   if decide ((cZ (ch (bT d.holds hd) (cS d.holds d.waits hd)) hd.s).1=hd.s)=true then(kL ⟨d.aK,d.au,bT d.holds hd,cS d.holds d.waits hd⟩ (cZ (ch (bT d.holds hd) (cS d.holds d.waits hd)) hd.s).1,17)
   else gQ f (kL ⟨d.aK,d.au,bT d.holds hd,cS d.holds d.waits hd⟩ (cZ (ch (bT d.holds hd) (cS d.holds d.waits hd)) hd.s).1) hd
  else(⟨d.aK,d.au,bT d.holds hd,cS d.holds d.waits hd⟩,16)
def aO(d:DB)(hd:bP):DB×Int:=if Dq d hd=true then gQ (d.holds.length+1) d hd else(d,2)
theorem kX(ws:List dw)(s:Int):cX (Wf ws) s=cu ws s:=by simp[cX,cu,Wf]
theorem DZ(ws:List dw)(s:Int):vE (Wf ws) s=Wf (vG ws s):=by
 unfold vE vG;rw[kX];split
 ·unfold Wf;rw[List.eraseIdx_eq_take_drop_succ,List.eraseIdx_eq_take_drop_succ];simp[List.map_take,List.map_drop]
 ·rfl
theorem Ba(T:List cg)(ws:List dw)(s:Int):xW T (Wf ws) s=ou T ws s:=by
 unfold xW ou;rw[kX];split
 ·unfold Wf;rw[List.getElem?_map];cases ws[dC (cu ws s)]? <;>rfl
 ·rfl
theorem xV(E:List (Int×Int)):∀(l:List Int) (st:List Int×List Int),(∀k∈l,k∈E.map (·.2))->(∀k∈st.1,k∈E.map (·.2))->∀k∈(l.foldl fG st).1,k∈E.map (·.2)
 | [],st,_,h2=>h2
 |x::r,st,h1,h2=>by
  rw[List.foldl_cons];refine xV E r _ (fun k hk=>h1 k (List.mem_cons_of_mem _ hk)) (fun k hk=>?_);unfold fG at hk;split at hk
  ·exact h2 k hk
  ·rcases List.mem_append.1 hk with hk|hk
   ·exact h2 k hk
   ·simp at hk;rw[hk];exact h1 x (by simp)
theorem Kb(E:List (Int×Int)):∀(n:Nat) (st:List Int×List Int),(∀k∈st.1,k∈E.map (·.2))->∀k∈Uz E n st,k∈E.map (·.2)
 |0,st,h=>h
 |n+1,(seen,[]),h=>h
 |n+1,(seen,a::r),h=>by
  unfold Uz;refine Kb E n _ (xV E _ _ (fun k hk=>?_) h);unfold cE at hk;obtain⟨p,hp,rfl⟩:=List.mem_map.1 hk;exact List.mem_map.2 ⟨p,(List.mem_filter.1 hp).1,rfl⟩
theorem qA{E:List (Int×Int)}{s k:Int}(h:k∈over E s):k∈E.map (·.2):=Kb E _ _ (fun _ h=>by cases h) k h
theorem pM{H W:List bP}{k:Int}(h:k∈(ch H W).map (·.2)):∃x∈H,x.s=k:=by obtain⟨p,hp,rfl⟩:=List.mem_map.1 h;unfold ch at hp;obtain⟨w,hw,hp⟩:=List.mem_flatMap.1 hp;unfold eT at hp;obtain⟨x,hx,rfl⟩:=List.mem_map.1 hp;exact⟨x,(List.mem_filter.1 hx).1,rfl⟩
theorem Lt{H:List bP}{k:Int}(h:∃x∈H,x.s=k):(bL H k).length<H.length:=by
 obtain⟨x,hx,hk⟩:=h;unfold bL;rcases Nat.lt_or_ge (H.filter fun h=>decide (h.s≠k)).length H.length with h1|h1
 ·exact h1
 ·have h2:=List.length_filter_eq_length_iff.1 (Nat.le_antisymm (List.length_filter_le _ _) h1) x hx;simp[hk]at h2
theorem sL{H W:List bP}{s:Int}(h:(cZ (ch H W) s).2=true):(bL H (cZ (ch H W) s).1).length<H.length:=by
 have hv:=(mi (ch H W) s).out;rcases hv with ⟨h1,-⟩ | ⟨-,h2,-,h4,-⟩
 ·rw[h]at h1;cases h1
 ·refine Lt (pM (W:=W) ?_);rcases h4 with h4| ⟨h4,-⟩
  ·rw[h4];exact qA h2
  ·exact qA h4
theorem pN{T:List cg}(h:iC T)(ws:List dw)(s:Int):iC (ou T ws s):=by
 unfold ou;split
 ·split
  ·exact pw h _
  ·exact h
 ·exact h
theorem xX{H W:List bP}{hd:bP}:(cS H W hd).length<=(bL W hd.s).length+1:=by unfold cS;split<;>simp
theorem wU{H W:List bP}{hd:bP}:(bL (cS H W hd) hd.s).length<=(bL W hd.s).length:=by
 have h1:bL (bL W hd.s) hd.s=bL W hd.s:=by unfold bL;rw[List.filter_filter];simp
 unfold cS;split
 ·rw[h1];exact Nat.le_refl _
 ·have:bL (bL W hd.s++[hd]) hd.s=bL W hd.s:=by
   have h2:bL (bL W hd.s++[hd]) hd.s=bL (bL W hd.s) hd.s++bL [hd] hd.s:=by unfold bL;rw[List.filter_append]
   rw[h2,h1];simp[bL]
  rw[this];exact Nat.le_refl _
theorem wT(W:List bP)(a b:Int):bL (bL W a) b=bL (bL W b) a:=by unfold bL;rw[List.filter_filter,List.filter_filter];congr 1;funext x;rw[Bool.and_comm]
theorem yQ{d:DB}{h:ad}{c tb wb ct cw:Nat}{e:Int}(q:iG h c tb wb ct cw d.aK (Wf d.au) d.holds d.waits e)(hd:bP)(rf:c≠tb)(pf:c≠wb)(Wm:iC d.aK)
 (hH:d.holds.length<2^18) (Um:d.waits.length<2^18) {D:DB×Int} (hD:aO d hd=D) {k:Value->ad->Prop}
 (hk:∀h',Kp [c,tb,wb] h h'->iG h' c tb wb ct cw D.1.aK (Wf D.1.au) D.1.holds D.1.waits e->k (.int .i64 D.2) h'):
 Ct 244 [.pointer (some ⟨c,0,none⟩),.int .i64 hd.s,.string hd.table,.bool hd.x] h k:=by
 obtain⟨A,hA⟩:=Ar.ex;obtain⟨hs,ht,hx⟩:=hd;obtain⟨L0,hL0⟩:∃L,L=(bL d.waits hs).length:=⟨_,rfl⟩;have hL18:L0<2^18:=by have:=lK d.waits hs;omega
 have qY:A .not true=false:=by rw[hA.not];rfl
 have vf:A .not false=true:=by rw[hA.not];rfl
 refine ah A (aq YO.ax YO.bm) Tryz.func244 rfl (by kernel_rfl) ?_;cbv;intro p4 h1 Wr e1;cbv;intro p5 h2 hp5 e2;cbv;intro p6 h3 hp6 e3;cbv;intro p7 h4 hp7 e4;have l1:Le h h1:=by rw[e1];exact Le.set Wr
 have l2:Le h1 h2:=by rw[e2];exact Le.set hp5
 have l3:Le h2 h3:=by rw[e3];exact Le.set hp6
 have l4:Le h3 h4:=by rw[e4];exact Le.set hp7
 have g4:h4 p4=some (.cells #[.pointer (some ⟨c,0,none⟩)] 109 (0,0)):=((l2.trans l3).trans l4) _ _ ((congrFun e1 p4).trans ae);have g5:h4 p5=some (.cells #[.int .i64 hs] 3 (0,0)):=(l3.trans l4) _ _ ((congrFun e2 p5).trans ae);have g6:h4 p6=some (.cells #[.string ht] 9 (0,0)):=l4 _ _ ((congrFun e3 p6).trans ae);have g7:h4 p7=some (.cells #[.bool hx] 4 (0,0)):=(congrFun e4 p7).trans ae;have mf:=((l1.trans l2).trans l3).trans l4;have q4:=q.mono mf;have jM:∀p,h p=none->p∉[c,tb,wb]:=fun p hp hm=>by
  obtain⟨n1,n2,b3,n3,c3,b4,n4,c4,o,g0,-,-,g2,-,g4,-⟩:=q.out;obtain⟨x1,g2,-⟩:=g2.out;obtain⟨x2,g4,-⟩:=g4.out;simp at hm;rcases hm with rfl|rfl|rfl
  ·rw[g0]at hp;cases hp
  ·rw[g2]at hp;cases hp
  ·rw[g4]at hp;cases hp
 have n4:=jM p4 Wr;have n5:=jM p5 (l1.none hp5);have n6:=jM p6 ((l1.trans l2).none hp6);have n7:=jM p7 (((l1.trans l2).trans l3).none hp7);have H6:∀ {hh:ad} (l:Le h hh),Dq d ⟨hs,ht,hx⟩=false->k (.int .i64 2) hh:=fun{hh} l MR=>by
  have hD2:D=(d,2):=by rw[<-hD];unfold aO;rw[MR];rfl
  have:=hk hh (l.kp _) (by rw[hD2];exact q.mono l);rw[hD2]at this;exact this
 cbv;refine ar g4 rfl rfl ?_;cbv;refine ar g5 rfl rfl ?_;cbv;refine oz q4 hs (fun h5 z1 t1 l5 mW Wg=>?_);rw[kX]at Wg;have TR:=mf.trans l5;cases t1 with
 |false=>have af:=H6 TR (by unfold Dq;rw[<-Wg];rfl);cbv;rw[vf];cbv;exact af
 |true=>
  cbv;rw[qY];cbv;refine ar (l5 _ _ g4) rfl rfl ?_;cbv;refine ar (l5 _ _ g6) rfl rfl ?_;cbv;refine zK (q4.mono l5) ht (fun h6 z2 t2 l6 jT ht2=>?_);have l06:=TR.trans l6;have VK:=l5.trans l6;cases t2 with
  |false=>have af:=H6 l06 (by unfold Dq;rw[<-Wg,<-ht2];rfl);cbv;rw[vf];cbv;exact af
  |true=>
   have hD1:gQ (d.holds.length+1) d ⟨hs,ht,hx⟩=D:=by rw[<-hD];unfold aO;rw[show Dq d ⟨hs,ht,hx⟩=true by unfold Dq;rw[<-Wg,<-ht2];rfl];rfl
   have q6:=q4.mono VK;have f4:=VK _ _ g4;have f5:=VK _ _ g5;have f6:=VK _ _ g6;have f7:=VK _ _ g7;clear hD H6 g4 g5 g6 g7 e1 e2 e3 e4 Wg ht2;obtain⟨I,bh⟩:∃I:Nat->ad->Prop,∀m h',I m h'=∃d':DB,d'.holds.length<m/\d'.holds.length<2^18/\d'.waits.length<=2^18/\(bL d'.waits hs).length<=L0/\iC d'.aK/\gQ m d' ⟨hs,ht,hx⟩=D/\Kp [c,tb,wb] h6 h'/\iG h' c tb wb ct cw d'.aK (Wf d'.au) d'.holds d'.waits e:=⟨_,fun _ _=>rfl⟩;cbv;rw[qY];cbv;refine aZ.go (G:=Unit) (fun _=>[]) (fun _=>[]) (fun n g h'=>I n h') (d.holds.length+1) () ⟨?_,?_,?_⟩ (by rw[bh];exact⟨d,by omega,hH,Nat.le_of_lt Um,by rw[hL0];exact Nat.le_refl _,Wm,hD1,Kp.refl _ _,q6⟩) ?_
   ·cbv
   ·cbv
   ·cbv
   ·intro m g h' hI;rw[bh]at hI;cbv;obtain⟨⟨dT,dW,dH,iK⟩,hm,ju,iu,mX,M8,te,Ue,hq⟩:=hI;have hq:iG h' c tb wb ct cw dT (Wf dW) dH iK e:=hq;have ju:dH.length<2^18:=ju;have iu:iK.length<=2^18:=iu;have mX:(bL iK hs).length<=L0:=mX;have hm:dH.length<m:=hm;obtain⟨f,rfl⟩:∃f,m=f+1:=⟨m-1,by omega⟩;have k4:=Ue _ _ f4 n4;have k5:=Ue _ _ f5 n5;have k6:=Ue _ _ f6 n6;have k7:=Ue _ _ f7 n7;have DK:=Bb (H:=dH) (hd:=⟨hs,ht,hx⟩);have vi:=xX (H:=dH) (W:=iK) (hd:=⟨hs,ht,hx⟩);have vi:(cS dH iK ⟨hs,ht,hx⟩).length<=(bL iK hs).length+1:=vi;have zy:=wU (H:=dH) (W:=iK) (hd:=⟨hs,ht,hx⟩);have zy:(bL (cS dH iK ⟨hs,ht,hx⟩) hs).length<=(bL iK hs).length:=zy;have hH0:bu dH ⟨hs,ht,hx⟩=false->bT dH ⟨hs,ht,hx⟩=dH:=fun hf=>by unfold bT;rw[hf];rfl
    have Rm:=sL (H:=bT dH ⟨hs,ht,hx⟩) (W:=cS dH iK ⟨hs,ht,hx⟩) (s:=hs);unfold gQ at te;have te:(if bu dH ⟨hs,ht,hx⟩=true then((⟨dT,dW,bT dH ⟨hs,ht,hx⟩,cS dH iK ⟨hs,ht,hx⟩⟩,0):DB×Int)
     else if(cZ (ch (bT dH ⟨hs,ht,hx⟩) (cS dH iK ⟨hs,ht,hx⟩)) hs).2=true then
      if decide ((cZ (ch (bT dH ⟨hs,ht,hx⟩) (cS dH iK ⟨hs,ht,hx⟩)) hs).1=hs)=true then(kL ⟨dT,dW,bT dH ⟨hs,ht,hx⟩,cS dH iK ⟨hs,ht,hx⟩⟩ (cZ (ch (bT dH ⟨hs,ht,hx⟩) (cS dH iK ⟨hs,ht,hx⟩)) hs).1,17)
      else gQ f (kL ⟨dT,dW,bT dH ⟨hs,ht,hx⟩,cS dH iK ⟨hs,ht,hx⟩⟩ (cZ (ch (bT dH ⟨hs,ht,hx⟩) (cS dH iK ⟨hs,ht,hx⟩)) hs).1) ⟨hs,ht,hx⟩
     else(⟨dT,dW,bT dH ⟨hs,ht,hx⟩,cS dH iK ⟨hs,ht,hx⟩⟩,16))=D:=te
    refine(MQ (hd:=⟨hs,ht,hx⟩) hq k4 k5 k6 k7 (by omega) (by omega)).mono (fun v h7 hR=>?_);obtain⟨kc7,t,rfl,et,q7⟩:=hR;have k07:Kp [c,tb,wb] h h7:=((l06.kp _).trans Ue).trans (kc7.sub (by simp));have k67:Kp [c,tb,wb] h6 h7:=Ue.trans (kc7.sub (by simp));have et':=et;rw[<-et]at te;generalize bT dH ⟨hs,ht,hx⟩=aH at *;generalize cS dH iK ⟨hs,ht,hx⟩=aW at *;cases t with
    |true=>have te:((⟨dT,dW,aH,aW⟩,0):DB×Int)=D:=te;subst te;have af:=hk h7 k07 q7;cbv;rw[qY];cbv;exact af
    |false=>
     have haH:=hH0 et.symm;refine q7.elim (fun u1 u2 y3 v3 w3 y4 v4 w4 oo G0 Ho G1 G2 G3 G4 Q6 Q7 _=>?_);have hq6:=Q6.len;have hq7:=Q7.len;have j4:=k67 _ _ f4 n4;have j5:=k67 _ _ f5 n5;cbv;rw[vf];cbv;refine ar j4 rfl rfl ?_;cbv;rw[ai A];rw[ai A];refine ar G0 rfl rfl ?_;cbv;refine ar j5 rfl rfl ?_;cbv;refine(El Q6 Q7 (by omega) (by omega) hs).mono (fun v h8 hR=>?_);obtain⟨l8,zv,tv,rfl,E9⟩:=hR;obtain⟨Ra,htv⟩:=E9.eq;rw[<-Ra,<-htv]at te;rw[<-htv,<-Ra]at Rm;cases tv with
     |false=>have te:((⟨dT,dW,aH,aW⟩,16):DB×Int)=D:=te;subst te;have af:=hk h8 (k07.trans (l8.kp _)) (q7.mono l8);cbv;rw[vf];cbv;exact af
     |true=>
      have Rm:=Rm rfl;have te:(if decide (zv=hs)=true then((kL ⟨dT,dW,aH,aW⟩ zv,17):DB×Int)else gQ f (kL ⟨dT,dW,aH,aW⟩ zv) ⟨hs,ht,hx⟩)=D:=te;cbv;rw[qY];cbv;refine ar (l8 _ _ j4) rfl rfl ?_;cbv;refine Kl (q7.mono l8) rf pf M8 zv (by omega) (by omega) (fun h9 k9 q9=>?_);rw[Ba,DZ]at q9;have k09:=(k07.trans (l8.kp _)).trans k9;have k69:=(k67.trans (l8.kp _)).trans k9;have i5:=k69 _ _ f5 n5;obtain⟨dB,WO⟩:∃dB,dB=kL ⟨dT,dW,aH,aW⟩ zv:=⟨_,rfl⟩;have O2:iG h9 c tb wb ct cw dB.aK (Wf dB.au) dB.holds dB.waits e:=by rw[WO];exact q9
      rw[<-WO]at te;generalize eu:A .aF .eql zv hs=u;have fu:=eu;rw[aw A]at eu;rw[eu]at te;cbv;refine ar i5 rfl rfl ?_;cbv;rw[fu];cases u with
      |true=>have te:((dB,17):DB×Int)=D:=te;subst te;have af:=hk h9 k09 O2;cbv;exact af
      |false=>
       have te:gQ f dB ⟨hs,ht,hx⟩=D:=te;have cU:I f h9:=by
        have uZ:=lK aW zv;have hbH:dB.holds=bL aH zv:=by rw[WO];rfl
        have hbW:dB.waits=bL aW zv:=by rw[WO];rfl
        have hbT:iC dB.aK:=by rw[WO];exact pN M8 _ _
        have qT:(bL (bL aW zv) hs).length<=L0:=by rw[wT];have:=lK (bL aW hs) zv;omega
        rw[bh];rw[haH]at Rm hbH;exact⟨dB,by rw[hbH];omega,by rw[hbH];omega,by rw[hbW];omega,by rw[hbW];exact qT,hbT,te,k69,O2⟩
       cbv;refine⟨f,(),by omega,⟨?_,?_,?_⟩,cU⟩
       ·cbv
       ·cbv
       ·cbv
set_option maxHeartbeats 4000000
structure sK(n:Nat)(d:DB):Prop where
 aK:d.aK.length<=2^30
 oW:d.au.Pairwise (fun a b=>a.s<b.s)
 rM:∀w∈d.au,0<=w.s/\w.s<8
 rows:iC d.aK
 holds:d.holds.length<=n
 waits:d.waits.length<=n
 Wn:∀x∈d.holds,0<=x.s/\x.s<8
theorem sK.le{n m:Nat}{d:DB}(o:sK n d)(h:n<=m):sK m d:=⟨o.aK,o.oW,o.rM,o.rows,Nat.le_trans o.holds h,Nat.le_trans o.waits h,o.Wn⟩
theorem uu:∀ {l:List dw} {a:Int},l.Pairwise (fun a b=>a.s<b.s)->(∀w∈l,a<=w.s/\w.s<8)->(l.length:Int)<=max 0 (8-a)
 | [],a,_,_=>by simp;omega
 |x::r,a,hs,hr=>by
  have h1:=hr x (by simp);have aI:∀w∈r,x.s<w.s:=fun w hw=>List.rel_of_pairwise_cons hs hw;have:=uu (a:=x.s+1) (List.Pairwise.of_cons hs) (fun w hw=>⟨by have:=aI w hw;omega,(hr w (List.mem_cons_of_mem _ hw)).2⟩);simp only[List.length_cons];omega
theorem sK.wlen{n:Nat}{d:DB}(o:sK n d):d.au.length<=8:=by have:=uu o.oW o.rM;omega
theorem sK.small{n:Nat}{d:DB}(o:sK n d)(hn:n<2^18):Small d:=by have:=o.wlen;have:=o.aK;have:=o.holds;have:=o.waits;exact⟨by omega,by omega,fun t ht=>by have:=o.rows t ht;omega,by omega,by omega⟩
theorem wrap_zero{x:Int}(h1:-2^64<x)(h2:x<2^64)(h:IntKind.i64.wrap x=0):x=0:=by have hs:IntKind.i64.signed=true:=rfl;simp only[IntKind.wrap,IntKind.bits,hs]at h;simp at h;split at h<;>omega
theorem Lz(T:List cg)(x:lG):(iM T x).map (·.S)=T.map (·.S):=by
 have hp:∀t r,(cd t r).1.S=t.S:=fun t r=>by
  unfold cd;repeat' split
  all_goals rfl
 have ht:∀t k,(bt t k).1.S=t.S:=fun t k=>by
  unfold bt;split<;>rfl
 have key:∀(i:Nat) (t t':cg),T[i]? =some t->t'.S=t.S->(T.set i t').map (·.S)=T.map (·.S):=fun i t t' hi hS=>by
  rw[List.map_set,hS];apply List.ext_getElem?;intro j;rw[List.getElem?_set];split
  ·rename_i e;subst e;split
   ·rw[List.getElem?_map,hi];rfl
   ·rename_i h1;rw[List.getElem?_eq_none (by omega)]
  ·rfl
 unfold iM;split
 ·split
  ·rename_i t hi;split
   ·exact key _ _ _ hi (hp _ _)
   ·split
    ·exact key _ _ _ hi (ht _ _)
    ·rfl
  ·rfl
 ·rfl
theorem yh(T:List cg):∀l,(fx T l).map (·.S)=T.map (·.S)
 | []=>rfl
 |x::r=>(Lz _ _).trans (yh T r)
theorem Ee(T:List cg)(ws:List dw)(s:Int):(ou T ws s).map (·.S)=T.map (·.S):=by
 unfold ou;split
 ·split
  ·exact yh _ _
  ·rfl
 ·rfl
theorem Ep{T T':List cg}(h:T'.map (·.S)=T.map (·.S))(nm:ByteArray):aR T' nm=aR T nm:=by
 have e:∀T:List cg,aR T nm=(T.map (·.S)).map (fun s=>eI s.name nm):=fun T=>by simp[aR,Function.comp_def]
 rw[e,e,h]
theorem PK{T T':List cg}(h:T'.map (·.S)=T.map (·.S)):T'.length=T.length:=by have:=congrArg List.length h;simpa using this
theorem PH(l:List Int)(p:Nat)(hp:p<l.length)(h0:l.getD p 0=0)(aI:∀i,i<p->l.getD i 0<0)(hgt:∀i,p<i->i<l.length->l.getD i 0>0):dC l=p/\lq l=true:=by
 have h1:dC l=p:=zh l p aI 0 l.length (fun k h1 h2=>by
  rcases Nat.lt_or_ge p k with h3|h3
  ·have:=hgt k h3 h2;omega
  ·have:k=p:=by omega
   rw[this,h0];omega) (Nat.zero_le _) (Nat.le_of_lt hp)
 exact⟨h1,by unfold lq;rw[h1];exact decide_eq_true ⟨hp,h0⟩⟩
theorem uf{ws:List dw}{s:Int}{i:Nat}{w:dw}(h:ws[i]? =some w):(cu ws s).getD i 0=IntKind.i64.wrap (w.s-s):=by rw[List.getD_eq_getElem?_getD];unfold cu;rw[List.getElem?_map,h];rfl
theorem Lv{ws:List dw}(hs:ws.Pairwise (fun a b=>a.s<b.s))(hr:∀w∈ws,0<=w.s/\w.s<8){i:Nat}{w:dw}(hi:ws[i]? =some w):dC (cu ws w.s)=i/\lq (cu ws w.s)=true:=by
 have jV:=(List.getElem?_eq_some_iff.1 hi).1;have hw:=hr w (List.mem_of_getElem? hi);have hl:(cu ws w.s).length=ws.length:=by simp[cu]
 have get:∀j,j<ws.length->∃x,ws[j]? =some x/\(cu ws w.s).getD j 0=x.s-w.s/\(j<i->x.s<w.s)/\(i<j->w.s<x.s):=fun j hj=>by
  obtain⟨x,hx⟩:=aD hj;have hxr:=hr x (List.mem_of_getElem? hx);refine⟨x,hx,?_,fun h=>?_,fun h=>?_⟩
  ·rw[uf hx,IntWalk.i64_in _ (by omega)]
  ·have:=List.pairwise_iff_getElem.1 hs j i hj jV h;rw[(List.getElem?_eq_some_iff.1 hx).2,(List.getElem?_eq_some_iff.1 hi).2]at this;exact this
  ·have:=List.pairwise_iff_getElem.1 hs i j jV hj h;rw[(List.getElem?_eq_some_iff.1 hx).2,(List.getElem?_eq_some_iff.1 hi).2]at this;exact this
 refine PH _ i (by rw[hl];exact jV) ?_ (fun j hj=>?_) (fun j hj Gv=>?_)
 ·obtain⟨x,hx,h1,-,-⟩:=get i jV;rw[hi]at hx;cases hx;rw[h1];omega
 ·obtain⟨x,hx,h1,h2,-⟩:=get j (by omega);have:=h2 hj;rw[h1];omega
 ·obtain⟨x,hx,h1,-,h2⟩:=get j (by rw[<-hl];exact Gv);have:=h2 hj;rw[h1];omega
theorem tR{ws:List dw}(hr:∀w∈ws,0<=w.s/\w.s<8){s:Int}(gu:-2^63<=s/\s<2^63)(h:lq (cu ws s)=true):∃w,ws[dC (cu ws s)]? =some w/\w.s=s:=by
 have h':=of_decide_eq_true h;obtain⟨h1,h2⟩:=h';have hl:dC (cu ws s)<ws.length:=by simpa[cu]using h1
 obtain⟨w,hw⟩:=aD hl;have TX:=hr w (List.mem_of_getElem? hw);rw[uf hw]at h2;have:=wrap_zero (by omega) (by omega) h2;exact⟨w,hw,by omega⟩
theorem lL{ws:List dw}(hs:ws.Pairwise (fun a b=>a.s<b.s))(hr:∀w∈ws,0<=w.s/\w.s<8){s:Int}(gu:-2^63<=s/\s<2^63):lq (cu ws s)=true↔∃w∈ws,w.s=s:=by
 constructor
 ·intro h;obtain⟨w,hw,he⟩:=tR hr gu h;exact⟨w,List.mem_of_getElem? hw,he⟩
 ·rintro⟨w,hw,rfl⟩;obtain⟨i,hi,he⟩:=List.getElem_of_mem hw;exact(Lv hs hr (i:=i) (by rw[List.getElem?_eq_getElem hi,he])).2
theorem vF(ws:List dw)(s:Int):(vG ws s).Sublist ws:=by
 unfold vG;split
 ·exact List.eraseIdx_sublist _ _
 ·exact List.Sublist.refl _
theorem FE{ws:List dw}(hs:ws.Pairwise (fun a b=>a.s<b.s))(hr:∀w∈ws,0<=w.s/\w.s<8){v:Int}(hv:-2^63<=v/\v<2^63){w:dw}(hw:w∈ws)(bG:w.s≠v):w∈vG ws v:=by
 unfold vG;split
 ·rename_i h;obtain⟨x,hx,he⟩:=tR hr hv h;obtain⟨j,hj,RO⟩:=List.getElem_of_mem hw;rw[List.mem_eraseIdx_iff_getElem];refine⟨j,hj,fun e=>?_,RO⟩;rw[<-e,List.getElem?_eq_getElem hj,RO]at hx;cases hx;exact bG he
 ·exact hw
theorem GU{H W:List bP}{s:Int}(h:(cZ (ch H W) s).2=true):∃x∈H,x.s=(cZ (ch H W) s).1:=by
 have hv:=(mi (ch H W) s).out;rcases hv with ⟨h1,-⟩ | ⟨-,h2,-,h4,-⟩
 ·rw[h]at h1;cases h1
 ·refine pM (W:=W) ?_;rcases h4 with h4| ⟨h4,-⟩
  ·rw[h4];exact qA h2
  ·exact qA h4
structure Ky(n:Nat)(d:DB)(hd:bP)(D:DB×Int):Prop where
 S:D.1.aK.map (·.S)=d.aK.map (·.S)
 ok:sK (n+1) D.1
 own:D.2=0->∀w∈d.au,w.s=hd.s->w∈D.1.au
 sub:D.1.au.Sublist d.au
def Tz(d:DB):Prop:=∀x∈d.holds,0<=x.s/\x.s<8
theorem vS{H:List bP}{hd:bP}(h:∀x∈H,0<=x.s/\x.s<8)(hs:0<=hd.s/\hd.s<8):∀x∈bT H hd,0<=x.s/\x.s<8:=fun x hx=>by
 unfold bT at hx;repeat' split at hx
 ·exact h x hx
 ·rcases List.mem_or_eq_of_mem_set hx with h1|h1
  ·exact h x h1
  ·rw[h1];exact hs
 ·rcases List.mem_append.1 hx with h1|h1
  ·exact h x h1
  ·simp at h1;rw[h1];exact hs
 ·exact h x hx
theorem As(n:Nat)(hd:bP)(hs:0<=hd.s/\hd.s<8):∀(f:Nat) (d:DB),d.holds.length<f->d.aK.length<=2^30->d.au.Pairwise (fun a b=>a.s<b.s)->(∀w∈d.au,0<=w.s/\w.s<8)->iC d.aK->d.holds.length<=n->(bL d.waits hd.s).length<=n->Tz d->
 Ky n d hd (gQ f d hd)
 |0,d,hf,_,_,_,_,_,_,_=>by omega
 |f+1,d,hf,h1,h2,h3,h4,h5,h6,h7=>by
  have l1:=Bb (H:=d.holds) (hd:=hd);have l2:=xX (H:=d.holds) (W:=d.waits) (hd:=hd);have l3:=wU (H:=d.holds) (W:=d.waits) (hd:=hd);unfold gQ;by_cases vo:bu d.holds hd=true
  ·rw[if_pos vo];exact⟨rfl,⟨h1,h2,h3,h4,by show(bT _ _).length<=_;omega,by show(cS _ _ _).length<=_;omega,vS h7 hs⟩,fun _ w hw _=>hw,List.Sublist.refl _⟩
  ·rw[if_neg vo];have hH:bT d.holds hd=d.holds:=by unfold bT;rw[if_neg vo]
   by_cases E9:(cZ (ch (bT d.holds hd) (cS d.holds d.waits hd)) hd.s).2=true
   ·rw[if_pos E9];have V7:=GU E9;have Rm:=sL E9;have hvr:-2^63<=(cZ (ch (bT d.holds hd) (cS d.holds d.waits hd)) hd.s).1/\(cZ (ch (bT d.holds hd) (cS d.holds d.waits hd)) hd.s).1<2^63:=by obtain⟨x,hx,he⟩:=V7;rw[hH]at hx;rw[<-he];have:=h7 x hx;omega
    generalize (cZ (ch (bT d.holds hd) (cS d.holds d.waits hd)) hd.s).1=v at *;have OV:=lK (cS d.holds d.waits hd) v;have qT:(bL (bL (cS d.holds d.waits hd) v) hd.s).length<=n:=by rw[wT];have:=lK (bL (cS d.holds d.waits hd) hd.s) v;omega
    have hbS:(kL ⟨d.aK,d.au,bT d.holds hd,cS d.holds d.waits hd⟩ v).aK.map (·.S)=d.aK.map (·.S):=Ee _ _ _;have wu:(kL ⟨d.aK,d.au,bT d.holds hd,cS d.holds d.waits hd⟩ v).holds.length<d.holds.length:=by show(bL (bT d.holds hd) v).length<_;rw[hH]at Rm |-;exact Rm
    have dr:(kL ⟨d.aK,d.au,bT d.holds hd,cS d.holds d.waits hd⟩ v).au.Sublist d.au:=vF _ _;by_cases Rl:v=hd.s
    ·rw[if_pos (decide_eq_true Rl)];exact⟨hbS,⟨by rw[PK hbS];exact h1,h2.sublist dr,fun w hw=>h3 w (dr.subset hw),pN h4 _ _,Nat.le_trans (Nat.le_of_lt wu) (by omega),Nat.le_trans OV (by omega),fun x hx=>vS h7 hs x (List.mem_filter.1 hx).1⟩,(fun e=>by cases e),dr⟩
    ·rw[if_neg (by simpa using Rl)];have ih:=As n hd hs f (kL ⟨d.aK,d.au,bT d.holds hd,cS d.holds d.waits hd⟩ v) (by omega) (by rw[PK hbS];exact h1) (h2.sublist dr) (fun w hw=>h3 w (dr.subset hw)) (pN h4 _ _) (by omega) qT
      (fun x hx=>h7 x (by
       have hx:x∈bL (bT d.holds hd) v:=hx;rw[hH]at hx;exact(List.mem_filter.1 hx).1))
     refine⟨ih.S.trans hbS,ih.ok,fun e w hw mS=>ih.own e w ?_ mS,ih.sub.trans dr⟩;exact FE h2 h3 hvr hw (by rw[mS];exact fun e=>Rl e.symm)
   ·rw[if_neg E9];exact⟨rfl,⟨h1,h2,h3,h4,by show(bT _ _).length<=_;omega,by show(cS _ _ _).length<=_;omega,vS h7 hs⟩,fun _ w hw _=>hw,List.Sublist.refl _⟩
theorem nQ{n:Nat}{d:DB}(o:sK n d)(hd:bP)(hs:-2^63<=hd.s/\hd.s<2^63):Ky n d hd (aO d hd):=by
 unfold aO;by_cases Br:Dq d hd=true
 ·rw[if_pos Br];unfold Dq at Br;rw[Bool.and_eq_true]at Br;obtain⟨w,hw,he⟩:=(lL o.oW o.rM hs).1 Br.1;have:=o.rM w hw;exact As n hd (by omega) _ d (by omega) o.aK o.oW o.rM o.rows o.holds (Nat.le_trans (lK _ _) o.waits) o.Wn
 ·rw[if_neg Br];exact⟨rfl,o.le (by omega),(fun e=>by cases e),List.Sublist.refl _⟩
theorem vd{n:Nat}{d:DB}(o:sK n d){hd:bP}(hs:-2^63<=hd.s/\hd.s<2^63)(h0:(aO d hd).2=0):
 lq (aR (aO d hd).1.aK hd.table)=true/\lq (cu (aO d hd).1.au hd.s)=true:=by
 have hk:=nQ o hd hs;have Br:Dq d hd=true:=by
  cases h:Dq d hd with
  |true=>rfl
  |false=>unfold aO at h0;rw[h]at h0;cases h0
 unfold Dq at Br;rw[Bool.and_eq_true]at Br;refine⟨by rw[Ep hk.S];exact Br.2,?_⟩;obtain⟨w,hw,he⟩:=(lL o.oW o.rM hs).1 Br.1;exact(lL hk.ok.oW hk.ok.rM hs).2 ⟨w,hk.own h0 w hw he,he⟩
end Go.S
