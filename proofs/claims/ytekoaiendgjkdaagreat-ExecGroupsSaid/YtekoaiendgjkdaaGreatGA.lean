import Derived.Test.YtekoaiendgjkdaaGreatEC
import Derived.Test.YtekoaiendgjkdaaGreatRd
set_option linter.unusedVariables false
set_option linter.unusedSimpArgs false
set_option linter.unusedSectionVars false
set_option maxRecDepth 100000
set_option maxHeartbeats 8000000
namespace Go.S
open Go.Sx Go.Proofs
theorem Li{xs:List (fJ×Bool)}{h:ad}{nb n cap:Nat}(o:fX 55 cX h nb cap xs)(hn:n=xs.length){z w:Int}{i:Nat}(hz:aS z i)(hw:aS w (i+1))(hi:i<n){k:Value->ad->Prop}
 (hk:∀h' m,m=n-1->Kp [nb] h h'->(∀tys,55∉tys->bR tys h h')->fX 55 cX h' nb cap (xs.eraseIdx i)->k (.slice (some ⟨nb,0,none⟩) m cap) h'):
 Ct 129 [.slice (some ⟨nb,0,none⟩) n cap,.int .i64 z,.int .i64 w] h k:=by
 obtain⟨A,hA⟩:=Ar.ex;have hle:=o.le;have sM:=o.bd;have cN:=hz.eq;have PF:=hw.eq;have Cv:A .nat n=(n:Int):=by rw[hA.nat];rfl
 have e1:A .aI .eql z w=false:=by rw[aA A];exact nM (by omega)
 have q:Sl 55 cX h (.slice (some ⟨nb,0,none⟩) n cap) xs:=o.sl hn;have rQ:0<=A .nat n/\A .nat n<=(cap:Int)/\0<=w/\w<=A .nat n/\0<=z/\z<=w:=by rw[Cv];omega
 have jo:0<=z/\z<=(cap:Int):=by omega
 have sK:0<=w/\w<=(n:Int):=by omega
 have TZ:∀m,m=n-1->0<=A .nat n/\A .nat n<=(cap:Int)/\0<=A .nat m/\A .nat m<=A .nat n:=fun m hm=>by
  have wD:A .nat m=(m:Int):=by rw[hA.nat];rfl
  rw[Cv,wD];omega
 have Bc:=q.uW (A:=A) hw (by omega) rfl rfl;have YZ:=fh (A:=A) hz;have aQr:=gA (A:=A) (n:=n) hw;have jZd:=gA (A:=A) (n:=cap) hw;refine ah A (ax gXR.aK gXR.bF) Tryz.func129 rfl (by kernel_rfl) ?_;cbv;refine⟨rQ,?_⟩;cbv;rw[e1];cbv;refine⟨jo,?_⟩;cbv;refine⟨sK,?_⟩;cbv;rw[Da (A:=A),YZ,aQr];refine o.Re (by decide) (i:=i) (by omega) Bc (by omega) (by omega) rfl (fun h1 m hm k1 t1 o1=>?_);have HX:m=n-1:=by omega
 have o2:=o1.shrink (n-1);have heq:(xs.take i++xs.drop (i+1)++xs.drop (i+(n-(i+1)))).take (n-1)=xs.eraseIdx i:=by rw[hn];exact erase_eq (by omega)
 rw[heq]at o2;clear o1 heq hm;have lKl:(xs.eraseIdx i).length=n-1:=by rw[mJY (by omega)];omega
 have TZ:=TZ m HX;have kKN:A .su (A .nat n) (A .nat m)=1:=by rw[gA (A:=A) (aS.nat m)];omega
 cbv;refine⟨TZ,?_⟩;cbv;rw[CZ (A:=A) (aS.nat m) (by omega),kKN];refine o2.eQY (by decide) rfl rfl (p:=m) (by omega) (by omega) (fun h2 k2 t2 o3=>?_);have af:=hk h2 m HX (k1.trans k2) (fun tys hh=>(t1 tys hh).trans (t2 tys hh)) o3;cbv;exact af
theorem sO{h:ad}{c tb wb ct cw:Nat}{T:List cW}{W:List (fJ×Bool)}{H Wt:List cg}{e:Int}(q:lA h c tb wb ct cw T W H Wt e)(sy:Int){k:Value->ad->Prop}
 (hk:∀h' z t,Le h h'->aS z (di (dQ W sy))->t=jG (dQ W sy)->k (.tuple #[.int .i64 z,.bool t]) h'):Ct 49 [.pointer (some ⟨c,0,none⟩),.int .i64 sy] h k:=
 (Ay q sy).mono (fun v h' hR=>by
  obtain⟨l,z,t,hv,hb⟩:=hR;obtain⟨h1,h2⟩:=hb.at_;rw[hv];exact hk h' z t l h1 h2)
theorem On{h:ad}{c tb wb ct cw:Nat}{T:List cW}{W:List (fJ×Bool)}{H Wt:List cg}{e:Int}(q:lA h c tb wb ct cw T W H Wt e)(name:ByteArray){k:Value->ad->Prop}
 (hk:∀h' z t,Le h h'->aS z (di (aQ T name))->t=jG (aQ T name)->k (.tuple #[.int .i64 z,.bool t]) h'):Ct 105 [.pointer (some ⟨c,0,none⟩),.string name] h k:=
 (vu q name).mono (fun v h' hR=>by
  obtain⟨l,z,t,hv,hb⟩:=hR;obtain⟨h1,h2⟩:=hb.at_;rw[hv];exact hk h' z t l h1 h2)
theorem dZj{nm:ByteArray}{cols:List cK}{key:Int}{only:Bool}{rows:List Row}{r:Row}{h:ad}{sb b4 b:Option Addr}{sn sc n4 c4 n c:Nat}(qs:Sl 165 bI h (.slice sb sn sc) cols)(q4:Sl 59 aD h (.slice b4 n4 c4) rows)(q:Sl 61 bq h (.slice b n c) r)(hn:n4<=2^37){k:Value->ad->Prop}
 (hk:∀h' b1 n1 k1 b2 n2 k2 T e,Le h h'->Sl 165 bI h' (.slice b1 n1 k1) cols->Sl 59 aD h' (.slice b2 n2 k2) T->(⟨⟨⟨nm,cols,key,only⟩,T⟩,e⟩:cW×Int)=bK ⟨⟨nm,cols,key,only⟩,rows⟩ r->k (.tuple #[.agg #[.string nm,.slice b1 n1 k1,.int .i64 key,.bool only,.slice b2 n2 k2],.int .i64 e]) h'):
 Ct 157 [.agg #[.string nm,.slice sb sn sc,.int .i64 key,.bool only,.slice b4 n4 c4],.slice b n c] h k:=
 (cJx (nm:=nm) (key:=key) (only:=only) qs q4 q hn).mono (fun v h' hR=>by
  obtain⟨l,b1,n1,k1,b2,n2,k2,e,T,hv,r1,r2,r3⟩:=hR;rw[hv];exact hk h' b1 n1 k1 b2 n2 k2 T e l r1 r2 r3)
theorem bJw{nm:ByteArray}{cols:List cK}{key:Int}{only:Bool}{rows:List Row}{h:ad}{sb b4:Option Addr}{sn sc n4 c4:Nat}(qs:Sl 165 bI h (.slice sb sn sc) cols)(q4:Sl 59 aD h (.slice b4 n4 c4) rows)(hn:n4<=2^37)(kv:cO){k:Value->ad->Prop}
 (hk:∀h' b1 n1 k1 b2 n2 k2 b3 n3 k3 T R e,Le h h'->Sl 165 bI h' (.slice b1 n1 k1) cols->Sl 59 aD h' (.slice b2 n2 k2) T->Sl 61 bq h' (.slice b3 n3 k3) R->(⟨⟨⟨nm,cols,key,only⟩,T⟩,R,e⟩:cW×Row×Int)=bH ⟨⟨nm,cols,key,only⟩,rows⟩ kv->k (.tuple #[.agg #[.string nm,.slice b1 n1 k1,.int .i64 key,.bool only,.slice b2 n2 k2],.slice b3 n3 k3,.int .i64 e]) h'):
 Ct 158 [.agg #[.string nm,.slice sb sn sc,.int .i64 key,.bool only,.slice b4 n4 c4],.agg #[.int .i64 kv.k,.int .i64 kv.n,.string kv.s]] h k:=
 (aXy (nm:=nm) (key:=key) (only:=only) qs q4 hn kv).mono (fun v h' hR=>by
  obtain⟨l,b1,n1,k1,b2,n2,k2,b3,n3,k3,e,T,R,hv,r1,r2,r3,r4⟩:=hR;rw[hv];exact hk h' b1 n1 k1 b2 n2 k2 b3 n3 k3 T R e l r1 r2 r3 r4)
theorem CP{H W:List cg}{h:ad}{b1 b2:Option Addr}{n1 c1 n2 c2:Nat}(q1:Sl 205 bG h (.slice b1 n1 c1) H)(q2:Sl 205 bG h (.slice b2 n2 c2) W)(s:Int)(lG:H.length<=2^38)(mY:W.length<=2^38){k:Value->ad->Prop}
 (hk:∀h' b1 n1 c1 b2 n2 c2,Le h h'->Sl 205 bG h' (.slice b1 n1 c1) (bX H s)->Sl 205 bG h' (.slice b2 n2 c2) (bX W s)->k (.agg #[.slice b1 n1 c1,.slice b2 n2 c2]) h'):Ct 130 [.agg #[.slice b1 n1 c1,.slice b2 n2 c2],.int .i64 s] h k:=
 (cXB q1 q2 (by rw[q1.len];exact lG) (by rw[q2.len];exact mY) s).mono (fun v h' hR=>by
  obtain⟨l,b1,n1,c1,b2,n2,c2,hv,r1,r2⟩:=hR;rw[hv];exact hk h' b1 n1 c1 b2 n2 c2 l r1 r2)
theorem lA.aq{h h1 h':ad}{c tb wb ct cw:Nat}{T:List cW}{W':List (fJ×Bool)}{H Wt:List cg}{e:Int}{n1 n2 m2:Nat}{b3 b4:Option Addr}{n3 c3 n4 c4:Nat}{o:Int}
 (g0:h c=some (.cells #[.slice (some ⟨tb,0,none⟩) n1 ct,.slice (some ⟨wb,0,none⟩) n2 cw,.slice b3 n3 c3,.slice b4 n4 c4,.int .u32 o,.int .i32 0,.int .u32 0,.int .i64 e] 128 (0,0)))
 (ho:(o=0/\e=0)\/(o=1/\e≠0)) (g1:n1=T.length) (g2:fX 51 ef h tb ct T) (g6:Sl 205 bG h (.slice b3 n3 c3) H) (g7:Sl 205 bG h (.slice b4 n4 c4) Wt) (hm:m2=W'.length)
 (l1:∀tys,55∉tys->bR tys h h1) (k1:h1 c=h c) (gw:fX 55 cX h1 wb cw W')
 (hh:h'=bU h1 c (.cells #[.slice (some ⟨tb,0,none⟩) n1 ct,.slice (some ⟨wb,0,none⟩) m2 cw,.slice b3 n3 c3,.slice b4 n4 c4,.int .u32 o,.int .i32 0,.int .u32 0,.int .i64 e] 128 (0,0))):
 Kp [c] h1 h'/\lA h' c tb wb ct cw T W' H Wt e:=by
 have cXz:=k1.trans g0;have lt:∀tys,128∉tys->bR tys h1 h':=fun tys hn=>by rw[hh];exact bR.set cXz hn
 have l2:∀tys,55∉tys->128∉tys->bR tys h h':=fun tys a b=>(l1 tys a).trans (lt tys b);refine⟨by rw[hh];exact Kp.set (by simp),n1,m2,b3,n3,c3,b4,n4,c4,o,by rw[hh];exact ae,ho,g1,g2.mono (l2 _ (by decide) (by decide)),hm,gw.mono (lt _ (by decide)),g6.mono (l2 _ (by decide) (by decide)),g7.mono (l2 _ (by decide) (by decide))⟩
def Bg(W:List (fJ×Bool))(s:Int):List (fJ×Bool):=if jG (dQ W s)=true then W.eraseIdx (di (dQ W s))else W
theorem bQE{h:ad}{c tb wb ct cw:Nat}{T:List cW}{W:List (fJ×Bool)}{H Wt:List cg}{e:Int}(q:lA h c tb wb ct cw T W H Wt e)(tZ:c≠wb)(s:Int)(lG:H.length<=2^38)(mY:Wt.length<=2^38){k:Value->ad->Prop}
 (hk:∀h',Kp [c,wb] h h'->lA h' c tb wb ct cw T (Bg W s) (bX H s) (bX Wt s) e->k (.tuple #[]) h'):gZt 61 [.pointer (some ⟨c,0,none⟩),.int .i64 s] h k:=by
 obtain⟨A,hA⟩:=Ar.ex;obtain⟨V,hV⟩:∃V,V=Bg W s:=⟨_,rfl⟩;rw[<-hV]at hk;have fin:∀(h1:ad),Kp [c,wb] h h1->lA h1 c tb wb ct cw T V H Wt e->∀(n1 n2:Nat) (b3:Option Addr) (n3 c3:Nat) (b4:Option Addr) (n4 c4:Nat) (o:Int),h1 c=some (.cells #[.slice (some ⟨tb,0,none⟩) n1 ct,.slice (some ⟨wb,0,none⟩) n2 cw,.slice b3 n3 c3,.slice b4 n4 c4,.int .u32 o,.int .i32 0,.int .u32 0,.int .i64 e] 128 (0,0))->
  ((o=0/\e=0)\/(o=1/\e≠0))->n1=T.length->fX 51 ef h1 tb ct T->n2=V.length->fX 55 cX h1 wb cw V->
  ∀(h2:ad) (x3:Option Addr) (m3 k3:Nat) (x4:Option Addr) (m4 k4:Nat),Le h1 h2->Sl 205 bG h2 (.slice x3 m3 k3) (bX H s)->Sl 205 bG h2 (.slice x4 m4 k4) (bX Wt s)->
  ∀h3,h3=bU h2 c (.cells #[.slice (some ⟨tb,0,none⟩) n1 ct,.slice (some ⟨wb,0,none⟩) n2 cw,.slice x3 m3 k3,.slice x4 m4 k4,.int .u32 o,.int .i32 0,.int .u32 0,.int .i64 e] 128 (0,0))->k (.tuple #[]) h3:=
  fun h1 k1 _ n1 n2 b3 n3 c3 b4 n4 c4 o g0 ho g1 g2 g3 g4 h2 x3 m3 k3 x4 m4 k4 l2 r3 r4 h3 e3=>by
   have hl:=lA.HF (l2 _ _ g0) ho g1 (g2.mono (l2.t _)) g3 (g4.mono (l2.t _)) r3 r4 e3;exact hk h3 ((k1.trans (l2.kp _)).trans (hl.1.sub (by simp))) hl.2
 refine zg A (ax hQd.aK hQd.bF) Tryz.func61 rfl (by kernel_rfl) ?_;cbv;refine sO q s (fun h1 z t l1 hz ht=>?_);have q1:=q.mono l1;cases t with
 |false=>
  have cQR:V=W:=by rw[hV];unfold Bg;rw[<-ht];rfl
  clear hV;subst cQR;refine q1.elim (fun n1 n2 b3 n3 c3 b4 n4 c4 o g0 ho g1 g2 g3 g4 g6 g7 _=>?_);have fin:=fin h1 (l1.kp _) q1 n1 n2 b3 n3 c3 b4 n4 c4 o g0 ho g1 g2 g3 g4;cbv;rw[ai A];rw[ai A];refine aB g0 rfl rfl ?_;cbv;refine CP g6 g7 s lG mY (fun h2 x3 m3 k3 x4 m4 k4 l2 r3 r4=>?_);cbv;rw[ai A];rw[ai A];refine ja (l2 _ _ g0) (by simp) (fun h3 e3=>?_);have af:=fin h2 x3 m3 k3 x4 m4 k4 l2 r3 r4 h3 e3;cbv;exact af
 |true=>
  have cQR:V=W.eraseIdx (di (dQ W s)):=by rw[hV];unfold Bg;rw[<-ht];rfl
  have aP:di (dQ W s)<W.length:=by have:=lr ht.symm;simpa[dQ]using this
  generalize di (dQ W s)=i at *;clear hV;refine q1.elim (fun n1 n2 b3 n3 c3 b4 n4 c4 o g0 ho g1 g2 g3 g4 g6 g7 _=>?_);have sM:=g4.bd;have jV:=hz.succ (A:=A) (by omega);have fZ:i<n2:=by omega
  have iXb:V.length=n2-1:=by rw[cQR,mJY aP];omega
  cbv;rw[ai A];rw[ai A];refine aB g0 rfl rfl ?_;cbv;refine Li g4 g3 hz jV fZ (fun h2 m hm k2 t2 o2=>?_);have fJc:h2 c=h1 c:=(k2 _ _ g0 (by simpa using tZ)).trans g0.symm;rw[<-cQR]at o2;have ay:=fun h3 hh=>lA.aq (h':=h3) g0 ho g1 g2 g6 g7 (hm.trans iXb.symm) t2 fJc o2 hh;have eQf:=fJc.trans g0;cbv;rw[ai A];rw[ai A];refine ja eQf (by simp) (fun h3 e3=>?_);obtain⟨k3,q3⟩:=ay h3 e3;have Px:Kp [c,wb] h h3:=((l1.kp _).trans (k2.sub (by simp))).trans (k3.sub (by simp));clear ay e3;refine q3.elim (fun n1 n2 b3 n3 c3 b4 n4 c4 o g0 ho g1 g2 g3 g4 g6 g7 _=>?_);have fin:=fin h3 Px q3 n1 n2 b3 n3 c3 b4 n4 c4 o g0 ho g1 g2 g3 g4;cbv;rw[ai A];rw[ai A];refine aB g0 rfl rfl ?_;cbv;refine CP g6 g7 s lG mY (fun h4 x3 m3 k3 x4 m4 k4 l4 r3 r4=>?_);cbv;rw[ai A];rw[ai A];refine ja (l4 _ _ g0) (by simp) (fun h5 e5=>?_);have af:=fin h4 x3 m3 k3 x4 m4 k4 l4 r3 r4 h5 e5;cbv;exact af
structure aQH(z:Int)(i:Nat):Prop where
 eq:z=(i:Int)-1
theorem aQH.HO{z:Int}{i:Nat}(h:aQH z (i+1)):aS z i:=⟨by have:=h.eq;omega⟩
theorem aQH.ge{A:Ar}[hA:bM A]{z:Int}{i:Nat}(h:aQH z i):A .aI .geq z 0=decide (1<=i):=by have:=h.eq;rw[cf A,decide_eq_decide];omega
theorem _root_.Go.Sx.aS.pred{A:Ar}[hA:bM A]{z:Int}{i:Nat}(h:aS z i)(hi:i<2^62):aQH (A .bB .sub .i64 z 1) i:=⟨by
 have:=h.eq;rw[hA.bB];simp only[bB];rw[IntWalk.i64_in _ (by omega)];omega⟩
abbrev Yd(l:Nat)(args:List Value)(h:ad)(R:Value->ad->Prop):Prop:=cZH (fun _=>Tryz.prog) l args h R
theorem cZw{xs:List dV}{bb l:Nat}{b:Option Addr}{n c:Nat}(J:Nat->ad->Prop)(hJ:∀i hh,J i hh->hh bb=some (.cells #[.slice b n c] 52 (0,0))/\Sl 148 dI hh (.slice b n c) xs)
 (hY:∀i x hh z cs,J (i+1) hh->xs[i]? =some x->aS z i->dI.R hh cs x->Yd l [.int .i64 z,.agg cs.toArray] hh (fun v h'=>v=.bool true/\J i h')) {h:ad} (h0:J n h) {k:Value->ad->Prop}
 (hk:∀h',J 0 h'->k (.tuple #[]) h'):Ct 239 [.func (.yield l) #[] #[],.pointer (some ⟨bb,0,none⟩)] h k:=by
 obtain⟨A,hA⟩:=Ar.ex;obtain⟨g0,q0⟩:=hJ n h h0;have hlen:=q0.len;have sM:=q0.bound.1;have kP:A .not true=false:=by rw[hA.not];rfl
 have nP:aQH (A .bB .sub .i64 (A .nat n) 1) n:=(aS.nat n).pred (by omega);refine ah A (ax gQv.aK gQv.bF) Tryz.func239 rfl (by kernel_rfl) ?_;cbv;refine aB g0 rfl rfl ?_;cbv;refine aX.go (G:=Int) (fun g=>[(3,.v (.int .i64 g))]) (fun _=>[]) (fun m g h'=>∃i:Nat,aQH g i/\m=i/\i<=n/\J i h') n (A .bB .sub .i64 (A .nat n) 1) ⟨?_,?_,?_⟩ ⟨n,nP,rfl,mQt _,h0⟩ ?_
 ·cbv
 ·cbv
 ·cbv
 ·intro m g h' hI;cbv;obtain⟨i,hg,hm,fZ,hj⟩:=hI;rw[hg.ge (A:=A)];cases i with
  |zero=>have af:=hk h' hj;rw[show decide (1<=0)=false from rfl];cbv;exact af
  |succ i=>
   obtain⟨g1,q1⟩:=hJ _ _ hj;have Qf:aS g i:=hg.HO;obtain⟨x,hx⟩:=aE (xs:=xs) (i:=i) (by omega);have cJ:b.isSome=true/\0<=g/\g<(n:Int):=⟨q1.aT (by omega),Qf.ix (by omega)⟩;have fXA:aQH (A .bB .sub .i64 g 1) i:=Qf.pred (by omega);rw[show decide (1<=i+1)=true from kS (by omega)];cbv;refine aB g1 rfl rfl ?_;cbv;refine⟨cJ,?_⟩;cbv;refine q1.load hx Qf.eq (fun cs ay=>?_);have kJk:=hY i x h' g cs hj hx Qf ay;obtain⟨b1,n1,c1,rfl,-⟩:=ay;cbv;refine kJk.mono (fun v h2 hR=>?_);obtain⟨rfl,KP⟩:=hR;cbv;rw[kP];cbv;refine⟨i,_,by omega,⟨?_,?_,?_⟩,i,fXA,rfl,by omega,KP⟩
   ·cbv
   ·cbv
   ·cbv
theorem Ra{h:ad}{b:Option Addr}{n c:Nat}{k:Value->ad->Prop}(hk:∀h' bb,h bb=none->Le h h'->h' bb=some (.cells #[.slice b n c] 52 (0,0))->k (.func (.func 239) #[] #[.pointer (some ⟨bb,0,none⟩)]) h'):
 Ct 156 [.slice b n c] h k:=by
 obtain⟨A,hA⟩:=Ar.ex;refine ah A (ax gXD.aK gXD.bF) Tryz.func156 rfl (by kernel_rfl) ?_;cbv;intro bb h1 cQO e1;have af:=hk h1 bb cQO (by rw[e1];exact Le.set cQO) ((congrFun e1 bb).trans ae);cbv;exact af
def xi(r:Row)(key:Int):cO:=(r[key.toNat]?).getD ⟨0,0,jb⟩
def gC(T:List cW)(x:dV):List cW:=
 if jG (aQ T x.table)=true then
  match T[di (aQ T x.table)]? with
  |some t=>if decide (x.op=2)=true then T.set (di (aQ T x.table)) (bK t x.row).1
   else if(decide (t.S.key>=0)&&decide (t.S.key<(x.row.length:Int)))=true then T.set (di (aQ T x.table)) (bH t (xi x.row t.S.key)).1 else T
  |none=>T
 else T
def eV(T:List cW)(l:List dV):List cW:=l.foldr (fun x T=>gC T x) T
def fN(n:Int)(len:Nat):Nat:=min n.toNat len
def mV(T:List cW):Prop:=∀t∈T,t.rows.length<=2^36
theorem EK(t:cW)(r:Row)(h:t.rows.length<=2^36):(bK t r).1.rows.length<=2^36:=by
 unfold bK;split
 ·exact h
 ·split
  ·exact h
  ·split
   ·exact h
   ·rename_i h3;have h3:¬((t.rows.length:Int)>=200):=by simpa using h3
    simp[AE];omega
theorem BD(t:cW)(k:cO)(h:t.rows.length<=2^36):(bH t k).1.rows.length<=2^36:=by
 unfold bH;split
 ·simp[LF];omega
 ·exact h
theorem mV.set{T:List cW}(h:mV T){t:cW}(ht:t.rows.length<=2^36)(i:Nat):mV (T.set i t):=fun x hx=>by
 rcases mXx hx with h1|h1
 ·exact h x h1
 ·rw[h1];exact ht
theorem Sa{T:List cW}(h:mV T)(x:dV):mV (gC T x):=by
 unfold gC;split
 ·split
  ·rename_i t ht;have:=h t (GD ht);split
   ·exact h.set (EK _ _ this) _
   ·split
    ·exact h.set (BD _ _ this) _
    ·exact h
  ·exact h
 ·exact h
theorem AD{T:List cW}(h:mV T):∀l,mV (eV T l)
 | []=>h
 |x::r=>Sa (AD h r) x
theorem GB{T:List cW}{l:List dV}{i:Nat}{x:dV}(hx:l[i]? =some x):eV T (l.drop i)=gC (eV T (l.drop (i+1))) x:=by obtain⟨h1,h2⟩:=HH.1 hx;rw[mQy h1,h2];rfl
theorem _root_.Go.Sx.Kp.ES{h h':ad}{nb e:Nat}{c:Array Value}{fr:Nat×Nat}(k:Kp [nb] h h')(hn:h nb=some (.cells c e fr)){tys:List Nat}(he:e∉tys):bR tys h h':=fun b d e' NQ hm hb=>
 k b _ hb (by
  intro jq;simp at jq;rw[jq,hn]at hb;cases hb;exact he hm)
theorem lA.aXA{h h':ad}{c tb wb ct cw:Nat}{T T':List cW}{W:List (fJ×Bool)}{H Wt:List cg}{e:Int}(q:lA h c tb wb ct cw T W H Wt e)(hl:T'.length=T.length)(k:Kp [tb] h h')(t:∀tys,51∉tys->bR tys h h')(o:fX 51 ef h' tb ct T')(wF:c≠tb):lA h' c tb wb ct cw T' W H Wt e:=by obtain⟨n1,n2,b3,n3,c3,b4,n4,c4,o1,g0,ho,g1,g2,g3,g4,g6,g7⟩:=q.out;exact⟨n1,n2,b3,n3,c3,b4,n4,c4,o1,k _ _ g0 (by simpa using wF),ho,by rw[hl];exact g1,o,g3,g4.mono (t _ (by decide)),g6.mono (t _ (by decide)),g7.mono (t _ (by decide))⟩
theorem lA.lt{h h':ad}{c tb wb ct cw:Nat}{T:List cW}{W:List (fJ×Bool)}{H Wt:List cg}{e:Int}(q:lA h c tb wb ct cw T W H Wt e)(hl:∀tys,bR tys h h'):lA h' c tb wb ct cw T W H Wt e:=by obtain⟨n1,n2,b3,n3,c3,b4,n4,c4,o,g0,g1,g2,g3,g4,g5,g6,g7⟩:=q.out;exact⟨n1,n2,b3,n3,c3,b4,n4,c4,o,hl [128] _ _ _ _ (by simp) g0,g1,g2,g3.mono (hl _),g4,g5.mono (hl _),g6.mono (hl _),g7.mono (hl _)⟩
theorem bR.oset{tys:List Nat}{h:ad}{n:Nat}{o:Obj}(hn:∀c e fr,h n≠some (.cells c e fr)):bR tys h (bU h n o):=fun b c e fr _ hb=>by
 rw[aO (fun e'=>hn c e fr (by rw[<-e'];exact hb))];exact hb
theorem Oe{A:Ar}[hA:bM A](n:Int)(m:Nat):aS (A .pM (A .imax n 0) (A .nat m)) (fN n m):=⟨by
 rw[hA.pM,hA.imax,hA.nat];unfold fN;simp only[mQJ];omega⟩
theorem aXf(n:Int)(m:Nat):fN n m<=m:=by unfold fN;omega
theorem aXg{h:ad}{c tb wb ct cw:Nat}{T:List cW}{W:List (fJ×Bool)}{H Wt:List cg}{e:Int}(q:lA h c tb wb ct cw T W H Wt e)(wF:c≠tb)(tZ:c≠wb)(eZu:mV T){z:Int}{i:Nat}(hz:aS z i){w:fJ×Bool}(hw:W[i]? =some w)(n:Int){k:Value->ad->Prop}
 (hk:∀h',Kp [tb,wb] h h'->lA h' c tb wb ct cw (eV T (w.1.log.drop (fN n w.1.log.length))) (W.set i (⟨w.1.s,w.1.log.take (fN n w.1.log.length),w.1.marks⟩,false)) H Wt e->k (.tuple #[]) h'):
 Ct 78 [.pointer (some ⟨c,0,none⟩),.int .i64 z,.int .i64 n] h k:=by
 obtain⟨A,hA⟩:=Ar.ex;obtain⟨⟨ws,wl,wm⟩,wg⟩:=w;refine q.elim (fun n1 n2 b3 n3 c3 b4 n4 c4 o g0 ho g1 g2 g3 g4 g6 g7 _=>?_);have ke:i<W.length:=(HH.1 hw).1;have MU:(some (⟨wb,0,none⟩:Addr)).isSome=true/\0<=z/\z<(n2:Int):=⟨rfl,hz.ix (by omega)⟩;refine oZ A (ax lXS.aK (fun s=>s==3)) Tryz.func78 rfl (by kernel_rfl) ?_;cbv;intro p3 h1 bZE e1;have l1:Le h h1:=by rw[e1];exact Le.set bZE
 have f3:h1 p3=some (.cells #[.pointer (some ⟨c,0,none⟩)] 109 (0,0)):=(congrFun e1 p3).trans ae;have q1:=q.mono l1;have jZR:=l1 _ _ g0;have fJf:=(g4.sl g3).mono (l1.t [55,148,61,161]);cbv;refine aB f3 rfl rfl ?_;cbv;rw[ai A];rw[ai A];refine aB jZR rfl rfl ?_;cbv;refine⟨MU,?_⟩;cbv;refine qj fJf hw hz.eq (fun b1 m1 c1 jQl _ again=>?_);cbv;refine again _ _ (Le.refl _) ?_;have Am:=jQl.len;have Am:m1=wl.length:=Am;have Qa:=Oe (A:=A) n m1;have fXL:=aXf n m1;rw[Am]at Qa fXL;obtain⟨lo,iJw⟩:∃lo,lo=fN n wl.length:=⟨_,rfl⟩;rw[<-iJw]at Qa fXL;have jo:0<=A .pM (A .imax n 0) (A .nat m1)/\A .pM (A .imax n 0) (A .nat m1)<=(m1:Int):=by rw[Am];have:=Qa.eq;omega
 rw[<-Am]at Qa;have Bc:=jQl.uW (A:=A) Qa (by omega) rfl rfl;have Bc:Sl 148 dI h1 _ (wl.drop lo):=Bc;have aQr:=gA (A:=A) (n:=m1) Qa;have jZd:=gA (A:=A) (n:=c1) Qa;cbv;refine⟨jo,?_⟩;cbv;rw[aQr,jZd];refine Ra (fun h2 bb cQO l2 fb=>?_);cbv;refine⟨fun m l o1 o2 hm hl dKh cKk gJT hY=>?_⟩;obtain⟨xs,Cp⟩:∃xs,xs=wl.drop lo:=⟨_,rfl⟩;rw[<-Cp]at Bc;obtain⟨hb,gKE⟩:∃hb,hb=bU (bU h2 m (.deferred (some []))) l o1:=⟨_,rfl⟩;have fQx:Le h2 hb:=by rw[gKE];exact(Le.set hm).trans (Le.set (by rw[aO (Ne.symm dKh)];exact hl))
 have fl:hb l=some o1:=by rw[gKE];exact ae
 have fm:hb m=some (.deferred (some [])):=by rw[gKE,aO dKh];exact ae
 have lXc:=fQx _ _ fb;have lXd:=fQx _ _ (l2 _ _ f3);have qb:=(q1.mono l2).mono fQx;have fZa:=Bc.mono ((l2.trans fQx).t _);have cKo:=l2.trans fQx;rw[<-gKE];obtain⟨lKN,wB,-⟩:=g2.out;have iQn:=cKo _ _ (l1 _ _ wB);have kZz:bb≠tb:=fun e=>by rw[e,l1 _ _ wB]at cQO;cases cQO
 have n3:p3≠tb:=fun e=>by rw[e,wB]at bZE;cases bZE
 have nl:l≠tb:=fun e=>by rw[e,l2 _ _ (l1 _ _ wB)]at hl;cases hl
 have nm:m≠tb:=fun e=>by rw[e,l2 _ _ (l1 _ _ wB)]at hm;cases hm
 have lJB:l≠c:=fun e=>by rw[e,l2 _ _ jZR]at hl;cases hl
 have kZB:p3≠l:=fun e=>by rw[<-e,l2 _ _ f3]at hl;cases hl
 have aP:∀tys hh,51∉tys->Kp [tb] hb hh->bR tys hb hh:=fun tys hh ht k=>Kp.ES k iQn ht;obtain⟨J,FN⟩:∃J:Nat->ad->Prop,∀i hh,J i hh=(hh l=some o1/\Kp [tb] hb hh/\lA hh c tb wb ct cw (eV T (xs.drop i)) W H Wt e):=⟨_,fun _ _=>rfl⟩;refine cZw (n:=m1-lo) J (fun i hh hj=>by rw[FN]at hj;exact⟨hj.2.1 _ _ lXc (by simpa using kZz),fZa.mono (aP _ _ (by decide) hj.2.1)⟩) ?_ (by rw[FN];exact⟨fl,Kp.refl _ _,by rw[mXl (by rw[<-Bc.len];exact mQt _)];exact qb⟩) ?_
 ·intro j x hh zj cs hj hx Rz ay;have KP:=hj;rw[FN]at KP;obtain⟨iXq,vm,Ts⟩:=KP;clear hj;refine hY [.int .i64 zj,.agg cs.toArray] hh _ rfl iXq ?_;obtain⟨bx,nx,cx,rfl,qx⟩:=ay;obtain⟨xt,xo,xr⟩:=x;have qx:Sl 61 bq hh (.slice bx nx cx) xr:=qx;cbv;refine⟨iXq,?_⟩;obtain⟨h3,e3⟩:∃h3,h3=bU hh l o2:=⟨_,rfl⟩;rw[<-e3];obtain⟨T1,cQT⟩:∃T1,T1=eV T (xs.drop (j+1)):=⟨_,rfl⟩;have iZb:mV T1:=by rw[cQT];exact AD eZu _
  have jZp:eV T (xs.drop j)=gC T1 ⟨xt,xo,xr⟩:=by rw[cQT];exact GB hx
  obtain⟨T0,cQU⟩:∃T0,T0=gC T1 ⟨xt,xo,xr⟩:=⟨_,rfl⟩;have DE:h3 l=some o2:=by rw[e3];exact ae
  have Mn:∀tys,bR tys hh h3:=fun tys=>by rw[e3];exact bR.oset (fun c e fr he=>by rw[iXq]at he;cases he;exact cKk _ _ _ rfl)
  have fin:∀h',Kp [tb] h3 h'->lA h' c tb wb ct cw T0 W H Wt e->h' l=some o2/\J j (bU h' l o1):=fun h' k' q'=>by
   have TI:=k' _ _ DE (by simpa using nl);rw[FN];refine⟨TI,ae,fun b o yV JC=>?_,?_⟩
   ·by_cases Ap:b=l
    ·rw[Ap,fl]at yV;cases yV;rw[Ap];exact ae
    ·rw[aO Ap];refine k' _ _ ?_ JC;rw[e3,aO Ap];exact vm _ _ yV JC
   ·rw[jZp,<-cQU];exact q'.lt (fun tys=>bR.oset (fun c e fr he=>by rw[TI]at he;cases he;exact gJT _ _ _ rfl))
  rw[<-cQT]at Ts;have q3:=Ts.lt Mn;have eXV:=qx.mono (Mn _);have f33:h3 p3=some (.cells #[.pointer (some ⟨c,0,none⟩)] 109 (0,0)):=by rw[e3,aO kZB];exact vm _ _ lXd (by simpa using n3)
  clear e3 Mn Ts qx cQT jZp hY Bc fZa;clear Cp;refine aB f33 rfl rfl ?_;cbv;refine On q3 xt (fun h4 zt t l4 wQ ht=>?_);have q4:=q3.mono l4;cases t with
  |false=>
   have hU:T0=T1:=by rw[cQU];unfold gC;rw[<-ht];rfl
   have af:=fin h4 (l4.kp _) (by rw[hU];exact q4);cbv;rw[show A .not false=true by rw[hA.not];rfl];cbv;exact af
  |true=>
   have aKj:di (aQ T1 xt)<T1.length:=by have:=lr ht.symm;simpa[aQ]using this
   obtain⟨⟨⟨tn,tc,tk,to⟩,tr⟩,Tm⟩:=aE aKj;have hU:T0=if decide (xo=2)=true then T1.set (di (aQ T1 xt)) (bK ⟨⟨tn,tc,tk,to⟩,tr⟩ xr).1
    else if(decide (tk>=0)&&decide (tk<(xr.length:Int)))=true then T1.set (di (aQ T1 xt)) (bH ⟨⟨tn,tc,tk,to⟩,tr⟩ (xi xr tk)).1 else T1:=by rw[cQU];unfold gC;rw[<-ht,Tm];rfl
   have lJW:tr.length<=2^36:=iZb ⟨⟨tn,tc,tk,to⟩,tr⟩ (GD Tm);generalize di (aQ T1 xt)=ti at *;clear cQU ht;refine q4.elim (fun u1 u2 y3 v3 w3 y4 v4 w4 oo G0 Ho G1 G2 G3 G4 G6 G7 _=>?_);have Ii:(some (⟨tb,0,none⟩:Addr)).isSome=true/\0<=zt/\zt<(u1:Int):=⟨rfl,wQ.ix (by omega)⟩;have gZr:=G2.sl G1;have f34:=l4 _ _ f33;have eXU:=eXV.mono (l4.t _);cbv;rw[show A .not true=false by rw[hA.not];rfl];cbv;refine aB f34 rfl rfl ?_;cbv;rw[ai A];rw[ai A];refine aB G0 rfl rfl ?_;cbv;refine⟨Ii,?_⟩;cbv;generalize eu:A .aI .eql xo 2=u;rw[aA A]at eu;cases u with
   |true=>
    rw[if_pos eu]at hU;cbv;refine xU gZr Tm wQ.eq (fun d1 p1 r1 d2 p2 r2 s1 s2=>?_);cbv;have Gk:=s2.len;have Gk:p2=tr.length:=Gk;refine dZj (nm:=tn) (key:=tk) (only:=to) s1 s2 eXU (by omega) (fun h5 b1 n1 k1 b2 n2 k2 T' e' l5 r1 r2 r3=>?_);have bU:(bK ⟨⟨tn,tc,tk,to⟩,tr⟩ xr).1=⟨⟨tn,tc,tk,to⟩,T'⟩:=by rw[<-r3]
    rw[bU]at hU;cbv;refine(G2.mono (l5.t _)).setAt (by decide) aKj wQ.eq rfl (x:=⟨⟨tn,tc,tk,to⟩,T'⟩) ⟨_,_,_,_,_,_,rfl,r1,r2⟩ (fun h6 k6 t6 o6=>?_);rw[<-hU]at o6;have af:=fin h6 (((l4.trans l5).kp _).trans k6) (lA.aXA (q4.mono l5) (by rw[hU];simp) k6 t6 o6 wF);cbv;exact af
   |false=>
    rw[if_neg (by rw[eu];simp)]at hU;have bZu:=eXU.len;have bZu:nx=xr.length:=bZu;generalize eg:A .aI .geq tk 0=ug;have fg:=eg;rw[cf A]at eg;rw[eg]at hU;generalize el:A .aI .lss tk (A .nat nx)=ul;have jZW:=el;rw[bm A,hA.nat,bZu,show Int.ofNat xr.length=(xr.length:Int)from rfl]at el;rw[el]at hU;cbv;refine gZr.Ee Tm wQ.eq (o1:=0) (o2:=2) (m:=1) (by decide) (fun cs ay=>?_);obtain⟨d1,p1,r1,d2,p2,r2,rfl,s1,s2⟩:=ay;have s1:Sl 165 bI h4 (.slice d1 p1 r1) tc:=s1;have s2:Sl 59 aD h4 (.slice d2 p2 r2) tr:=s2;have Gk:=s2.len;have Gk:p2=tr.length:=Gk;cases ug with
    |false=>have af:=fin h4 (l4.kp _) (by rw[hU];exact q4);cbv;rw[fg];cbv;exact af
    |true=>
     have Qe:tk>=0:=mQB eg;cbv;rw[fg];cbv;refine gZr.Ee Tm wQ.eq (o1:=0) (o2:=2) (m:=1) (by decide) (fun cs ay=>?_);obtain⟨d1,p1,r1,d2,p2,r2,rfl,-,-⟩:=ay;cbv;cases ul with
     |false=>have af:=fin h4 (l4.kp _) (by rw[hU];exact q4);cbv;rw[jZW];cbv;exact af
     |true=>
      have vm:tk<(xr.length:Int):=mQB el;have iXd:tk.toNat<xr.length:=by omega
      have jXM:aS tk tk.toNat:=⟨(Int.toNat_of_nonneg Qe).symm⟩;obtain⟨⟨vk,vn,vs⟩,hv⟩:=aE iXd;have kJx:xi xr tk=⟨vk,vn,vs⟩:=by unfold xi;rw[hv];rfl
      have Qm:bx.isSome=true/\0<=tk/\tk<(nx:Int):=⟨eXU.aT (by omega),jXM.ix (by omega)⟩;rw[kJx]at hU;have aKE:tk=((tk.toNat:Nat):Int):=jXM.eq;generalize tk.toNat=kk at *;cbv;rw[jZW];cbv;refine xU gZr Tm wQ.eq (fun d1 p1 r1 d2 p2 r2 s1 s2=>?_);have Gk:=s2.len;have Gk:p2=tr.length:=Gk;cbv;refine gZr.Ee Tm wQ.eq (o1:=0) (o2:=2) (m:=1) (by decide) (fun cs ay=>?_);obtain⟨d3,lJA,r3,d4,lJz,r4,rfl,-,-⟩:=ay;cbv;refine⟨Qm,?_⟩;cbv;refine eXU.load hv aKE (fun cs ay=>?_);have ay:cs=[.int .i64 vk,.int .i64 vn,.string vs]:=ay;subst ay;cbv;refine bJw (nm:=tn) (key:=tk) (only:=to) s1 s2 (by omega) ⟨vk,vn,vs⟩ (fun h5 b1 n1 k1 b2 n2 k2 b3 n3 k3 T' R' e' l5 r1 r2 lJx r3=>?_);have bU:(bH ⟨⟨tn,tc,tk,to⟩,tr⟩ ⟨vk,vn,vs⟩).1=⟨⟨tn,tc,tk,to⟩,T'⟩:=by rw[<-r3]
      have hU:T0=T1.set ti (bH ⟨⟨tn,tc,tk,to⟩,tr⟩ ⟨vk,vn,vs⟩).1:=hU;rw[bU]at hU;cbv;refine(G2.mono (l5.t _)).setAt (by decide) aKj wQ.eq rfl (x:=⟨⟨tn,tc,tk,to⟩,T'⟩) ⟨_,_,_,_,_,_,rfl,r1,r2⟩ (fun h6 k6 t6 o6=>?_);rw[<-hU]at o6;have af:=fin h6 (((l4.trans l5).kp _).trans k6) (lA.aXA (q4.mono l5) (by rw[hU];simp) k6 t6 o6 wF);cbv;exact af
 ·intro h3 hj;rw[FN]at hj;obtain⟨DE,Ia,bZD⟩:=hj;refine⟨DE,fun o3 NI=>?_⟩;obtain⟨h4,e4⟩:∃h4,h4=bU h3 l o3:=⟨_,rfl⟩;rw[<-e4];have gJv:∀tys,bR tys h3 h4:=fun tys=>by rw[e4];exact bR.oset (fun c e fr he=>by rw[DE]at he;cases he;exact cKk _ _ _ rfl)
  have q4:=bZD.lt gJv;rw[mJX,Cp]at q4;have jZV:h4 m=some (.deferred (some [])):=by rw[e4,aO dKh];exact Ia _ _ fm (by simpa using nm)
  have hKi:∀b o,h b=some o->b∉[tb,wb]->h4 b=some o:=fun b o yV JC=>by
   have Ap:b≠l:=fun e=>by rw[e]at yV;rw[l2 _ _ (l1 _ _ yV)]at hl;cases hl
   rw[e4,aO Ap];exact Ia _ _ (cKo _ _ (l1 _ _ yV)) (by simp at JC |-;exact JC.1)
  refine q4.elim (fun u1 u2 y3 v3 w3 y4 v4 w4 oo G0 Ho G1 G2 G3 G4 G6 G7 _=>?_);cbv;refine qj (G4.sl G3) hw hz.eq (fun eJh dZR aQE dZe _ eXx=>?_);have cQF:=dZe.len;have cQF:dZR=wl.length:=cQF;have aKA:=Oe (A:=A) n dZR;rw[cQF,<-iJw]at aKA;have aKA:aS (A .pM (A .imax n 0) (A .nat dZR)) lo:=by rw[cQF];exact aKA
  have kKW:=dZe.bound.2;have TY:0<=A .pM (A .imax n 0) (A .nat dZR)/\A .pM (A .imax n 0) (A .nat dZR)<=(aQE:Int):=by have:=aKA.eq;omega
  have ND:=dZe.Om (A:=A) (i:=lo) (by omega);have jX:=fh (A:=A) aKA;cbv;refine eXx _ _ (Le.refl _) ?_;cbv;refine⟨TY,?_⟩;cbv;rw[jX];have cQz:Sl 148 dI h4 _ (wl.take lo):=ND;have cQz:Sl 148 dI h4 (.slice (A .cut eJh 0 (A .nat aQE) 3) lo aQE) (wl.take lo):=cQz;refine G4.LS (by decide) hw hz.eq rfl (off:=1) (by simp[cX]) (x':=(⟨ws,wl.take lo,wm⟩,false)) (fun cs ay=>?_) (fun h5 k5 t5 o5=>?_)
  ·obtain⟨x1,y1,z1,x2,y2,z2,rfl,j1,j2,j3⟩:=ay;exact⟨_,_,_,_,_,_,rfl,cQz,j2,fun hf=>by cases hf⟩
  ·have ch:∀b o,h4 b=some o->b≠wb->h5 b=some o:=fun b o lY jq=>k5 b o lY (by simpa using jq);have kZw:m≠wb:=fun e=>by
    obtain⟨lKM,fZi,-⟩:=G4.out;rw[<-e,jZV]at fZi;cases fZi
   have jZU:=ch _ _ jZV kZw;have q5:lA h5 c tb wb ct cw (eV T (wl.drop lo)) (W.set i (⟨ws,wl.take lo,wm⟩,false)) H Wt e:=by refine⟨u1,u2,y3,v3,w3,y4,v4,w4,oo,ch _ _ G0 tZ,Ho,G1,G2.mono (t5 _ (by decide)),by rw[mXo];exact G3,o5,G6.mono (t5 _ (by decide)),G7.mono (t5 _ (by decide))⟩
   obtain⟨h6,e6⟩:∃h6,h6=bU h5 m (.deferred none):=⟨_,rfl⟩;have q6:lA h6 c tb wb ct cw (eV T (wl.drop lo)) (W.set i (⟨ws,wl.take lo,wm⟩,false)) H Wt e:=q5.lt (fun tys=>by rw[e6];exact bR.oset (fun c e fr he=>by rw[jZU]at he;cases he));have k6:Kp [tb,wb] h h6:=fun b o yV JC=>by
    have dKE:b≠m:=fun e=>by rw[e]at yV;rw[l2 _ _ (l1 _ _ yV)]at hm;cases hm
    rw[e6,aO dKE];exact ch _ _ (hKi b o yV JC) (by simp at JC;exact JC.2)
   rw[iJw]at q6;have af:=hk h6 k6 q6;rw[e6]at af;cbv;exact⟨jZU,af⟩
def Ls(T:List cW)(W:List (fJ×Bool))(s:Int):List cW:=
 if jG (dQ W s)=true then match W[di (dQ W s)]? with
  |some w=>eV T w.1.log
  |none=>T
 else T
theorem NU{W:List (fJ×Bool)}{i:Nat}{w w':fJ×Bool}(hw:W[i]? =some w)(hs:w'.1.s=w.1.s)(s:Int):dQ (W.set i w') s=dQ W s:=by
 unfold dQ;rw[mZd];apply mXz;intro j;rw[mXF];split
 ·rename_i e;subst e;split
  ·rw[mQU,hw];simp[hs]
  ·rename_i h1;have:=(HH.1 hw).1;simp at h1;omega
 ·rfl
theorem Zs{α:Type}{W:List α}{i:Nat}{x:α}:(W.set i x).eraseIdx i=W.eraseIdx i:=by exact List.eraseIdx_set_eq
theorem bXB{h:ad}{c tb wb ct cw:Nat}{T:List cW}{W:List (fJ×Bool)}{H Wt:List cg}{e:Int}(q:lA h c tb wb ct cw T W H Wt e)(wF:c≠tb)(tZ:c≠wb)(eZu:mV T)(s:Int)(lG:H.length<=2^38)(mY:Wt.length<=2^38){k:Value->ad->Prop}
 (hk:∀h',Kp [c,tb,wb] h h'->lA h' c tb wb ct cw (Ls T W s) (Bg W s) (bX H s) (bX Wt s) e->k (.tuple #[]) h'):Ct 76 [.pointer (some ⟨c,0,none⟩),.int .i64 s] h k:=by
 obtain⟨A,hA⟩:=Ar.ex;obtain⟨T1,cQT⟩:∃T1,T1=Ls T W s:=⟨_,rfl⟩;obtain⟨W1,gKc⟩:∃W1,W1=Bg W s:=⟨_,rfl⟩;rw[<-cQT,<-gKc]at hk;refine oZ A (ax jKg.aK jKg.bF) Tryz.func76 rfl (by kernel_rfl) ?_;cbv;refine sO q s (fun h1 z t l1 hz ht=>?_);have q1:=q.mono l1;cases t with
 |false=>
  have RN:T1=T:=by rw[cQT];unfold Ls;rw[<-ht];rfl
  cbv;refine bQE q1 tZ s lG mY (fun h2 k2 q2=>?_);rw[<-gKc,<-RN]at q2;have af:=hk h2 ((l1.kp _).trans (k2.sub (by simp))) q2;cbv;exact af
 |true=>
  have aP:di (dQ W s)<W.length:=by have:=lr ht.symm;simpa[dQ]using this
  obtain⟨w,hw⟩:=aE aP;have RN:T1=eV T w.1.log:=by rw[cQT];unfold Ls;rw[<-ht,hw];rfl
  have jZo:W1=W.eraseIdx (di (dQ W s)):=by rw[gKc];unfold Bg;rw[<-ht];rfl
  obtain⟨i,hi⟩:∃i,i=di (dQ W s):=⟨_,rfl⟩;rw[<-hi]at hz hw jZo;clear cQT gKc;cbv;refine aXg q1 wF tZ eZu hz hw 0 (fun h2 k2 q2=>?_);have h0:fN 0 w.1.log.length=0:=by unfold fN;simp
  rw[h0,mJX,<-RN]at q2;cbv;refine bQE q2 tZ s lG mY (fun h3 k3 q3=>?_);have hE:Bg (W.set i (⟨w.1.s,w.1.log.take 0,w.1.marks⟩,false)) s=W1:=by unfold Bg;rw[NU hw (by rfl),<-ht,<-hi,jZo];rw[if_pos rfl,Zs]
  rw[hE]at q3;have af:=hk h3 (((l1.kp _).trans (k2.sub (by simp))).trans (k3.sub (by simp))) q3;cbv;exact af
def Wf(ws:List fJ):List (fJ×Bool):=ws.map fun w=>(w,true)
def zS(ws:List fJ)(s:Int):List fJ:=if jG (bQ ws s)=true then ws.eraseIdx (di (bQ ws s))else ws
def tH(T:List cW)(ws:List fJ)(s:Int):List cW:=
 if jG (bQ ws s)=true then match ws[di (bQ ws s)]? with
  |some w=>eV T w.log
  |none=>T
 else T
def kh(d:DB)(s:Int):DB:=⟨tH d.az d.aq s,zS d.aq s,bX d.holds s,bX d.waits s⟩
def jK:Nat->DB->cg->DB×Int
 |0,d,_=>(d,16)
 |f+1,d,hd=>
  if bP d.holds hd=true then(⟨d.az,d.aq,cV d.holds hd,df d.holds d.waits hd⟩,0)
  else if(dG (da (cV d.holds hd) (df d.holds d.waits hd)) hd.s).2=true then
   if decide ((dG (da (cV d.holds hd) (df d.holds d.waits hd)) hd.s).1=hd.s)=true then(kh ⟨d.az,d.aq,cV d.holds hd,df d.holds d.waits hd⟩ (dG (da (cV d.holds hd) (df d.holds d.waits hd)) hd.s).1,17)
   else jK f (kh ⟨d.az,d.aq,cV d.holds hd,df d.holds d.waits hd⟩ (dG (da (cV d.holds hd) (df d.holds d.waits hd)) hd.s).1) hd
  else(⟨d.az,d.aq,cV d.holds hd,df d.holds d.waits hd⟩,16)
def aL(d:DB)(hd:cg):DB×Int:=if Hw d hd=true then jK (d.holds.length+1) d hd else(d,2)
theorem qO(ws:List fJ)(s:Int):dQ (Wf ws) s=bQ ws s:=by simp[dQ,bQ,Wf]
theorem Ni(ws:List fJ)(s:Int):Bg (Wf ws) s=Wf (zS ws s):=by
 unfold Bg zS;rw[qO];split
 ·unfold Wf;rw[mZL,mZL];simp[mKf,mKe]
 ·rfl
theorem Rb(T:List cW)(ws:List fJ)(s:Int):Ls T (Wf ws) s=tH T ws s:=by
 unfold Ls tH;rw[qO];split
 ·unfold Wf;rw[mQU];cases ws[di (bQ ws s)]? <;>rfl
 ·rfl
theorem Lr(E:List (Int×Int)):∀(l:List Int) (st:List Int×List Int),(∀k∈l,k∈E.map (·.2))->(∀k∈st.1,k∈E.map (·.2))->∀k∈(l.foldl dU st).1,k∈E.map (·.2)
 | [],st,_,h2=>h2
 |x::r,st,h1,h2=>by
  rw[mJP];refine Lr E r _ (fun k hk=>h1 k (mQQ _ hk)) (fun k hk=>?_);unfold dU at hk;split at hk
  ·exact h2 k hk
  ·rcases mQv.1 hk with hk|hk
   ·exact h2 k hk
   ·simp at hk;rw[hk];exact h1 x (by simp)
theorem bXs(E:List (Int×Int)):∀(n:Nat) (st:List Int×List Int),(∀k∈st.1,k∈E.map (·.2))->∀k∈cZr E n st,k∈E.map (·.2)
 |0,st,h=>h
 |n+1,(seen,[]),h=>h
 |n+1,(seen,a::r),h=>by
  unfold cZr;refine bXs E n _ (Lr E _ _ (fun k hk=>?_) h);unfold dm at hk;obtain⟨p,hp,rfl⟩:=mQO.1 hk;exact mQO.2 ⟨p,(mXt.1 hp).1,rfl⟩
theorem yK{E:List (Int×Int)}{s k:Int}(h:k∈over E s):k∈E.map (·.2):=bXs E _ _ (fun _ h=>by cases h) k h
theorem vP{H W:List cg}{k:Int}(h:k∈(da H W).map (·.2)):∃x∈H,x.s=k:=by obtain⟨p,hp,rfl⟩:=mQO.1 h;unfold da at hp;obtain⟨w,hw,hp⟩:=List.mem_flatMap.1 hp;unfold jF at hp;obtain⟨x,hx,rfl⟩:=mQO.1 hp;exact⟨x,(mXt.1 hx).1,rfl⟩
theorem bJk{H:List cg}{k:Int}(h:∃x∈H,x.s=k):(bX H k).length<H.length:=by
 obtain⟨x,hx,hk⟩:=h;unfold bX;rcases mQS (H.filter fun h=>decide (h.s≠k)).length H.length with h1|h1
 ·exact h1
 ·have h2:=mKk.1 (Nat.le_antisymm (mXH _ _) h1) x hx;simp[hk]at h2
theorem wY{H W:List cg}{s:Int}(h:(dG (da H W) s).2=true):(bX H (dG (da H W) s).1).length<H.length:=by
 have hv:=(rA (da H W) s).out;rcases hv with ⟨h1,-⟩ | ⟨-,h2,-,h4,-⟩
 ·rw[h]at h1;cases h1
 ·refine bJk (vP (W:=W) ?_);rcases h4 with h4| ⟨h4,-⟩
  ·rw[h4];exact yK h2
  ·exact yK h4
theorem vQ{T:List cW}(h:mV T)(ws:List fJ)(s:Int):mV (tH T ws s):=by
 unfold tH;split
 ·split
  ·exact AD h _
  ·exact h
 ·exact h
theorem EF{H W:List cg}{hd:cg}:(df H W hd).length<=(bX W hd.s).length+1:=by unfold df;split<;>simp
theorem DJ{H W:List cg}{hd:cg}:(bX (df H W hd) hd.s).length<=(bX W hd.s).length:=by
 have h1:bX (bX W hd.s) hd.s=bX W hd.s:=by unfold bX;rw[mZM];simp
 unfold df;split
 ·rw[h1];exact mQt _
 ·have:bX (bX W hd.s++[hd]) hd.s=bX W hd.s:=by
   have h2:bX (bX W hd.s++[hd]) hd.s=bX (bX W hd.s) hd.s++bX [hd] hd.s:=by unfold bX;rw[mZf]
   rw[h2,h1];simp[bX]
  rw[this];exact mQt _
theorem DI(W:List cg)(a b:Int):bX (bX W a) b=bX (bX W b) a:=by unfold bX;rw[mZM,mZM];congr 1;funext x;rw[Bool.and_comm]
theorem MO{d:DB}{h:ad}{c tb wb ct cw:Nat}{e:Int}(q:lA h c tb wb ct cw d.az (Wf d.aq) d.holds d.waits e)(hd:cg)(wF:c≠tb)(tZ:c≠wb)(eZu:mV d.az)
 (hH:d.holds.length<2^18) (cKI:d.waits.length<2^18) {D:DB×Int} (hD:aL d hd=D) {k:Value->ad->Prop}
 (hk:∀h',Kp [c,tb,wb] h h'->lA h' c tb wb ct cw D.1.az (Wf D.1.aq) D.1.holds D.1.waits e->k (.int .i64 D.2) h'):
 Ct 244 [.pointer (some ⟨c,0,none⟩),.int .i64 hd.s,.string hd.table,.bool hd.x] h k:=by
 obtain⟨A,hA⟩:=Ar.ex;obtain⟨hs,ht,hx⟩:=hd;obtain⟨L0,eZL⟩:∃L,L=(bX d.waits hs).length:=⟨_,rfl⟩;have lQn:L0<2^18:=by have:=gZ d.waits hs;omega
 have kP:A .not true=false:=by rw[hA.not];rfl
 have tF:A .not false=true:=by rw[hA.not];rfl
 refine ah A (ax cZQ.aK cZQ.bF) Tryz.func244 rfl (by kernel_rfl) ?_;cbv;intro p4 h1 aKq e1;cbv;intro p5 h2 cKi e2;cbv;intro p6 h3 gJS e3;cbv;intro p7 h4 gJR e4;have l1:Le h h1:=by rw[e1];exact Le.set aKq
 have l2:Le h1 h2:=by rw[e2];exact Le.set cKi
 have l3:Le h2 h3:=by rw[e3];exact Le.set gJS
 have l4:Le h3 h4:=by rw[e4];exact Le.set gJR
 have g4:h4 p4=some (.cells #[.pointer (some ⟨c,0,none⟩)] 109 (0,0)):=((l2.trans l3).trans l4) _ _ ((congrFun e1 p4).trans ae);have g5:h4 p5=some (.cells #[.int .i64 hs] 3 (0,0)):=(l3.trans l4) _ _ ((congrFun e2 p5).trans ae);have g6:h4 p6=some (.cells #[.string ht] 9 (0,0)):=l4 _ _ ((congrFun e3 p6).trans ae);have g7:h4 p7=some (.cells #[.bool hx] 4 (0,0)):=(congrFun e4 p7).trans ae;have rY:=((l1.trans l2).trans l3).trans l4;have q4:=q.mono rY;have qF:∀p,h p=none->p∉[c,tb,wb]:=fun p hp hm=>by
  obtain⟨n1,n2,b3,n3,c3,b4,n4,c4,o,g0,-,-,g2,-,g4,-⟩:=q.out;obtain⟨x1,g2,-⟩:=g2.out;obtain⟨x2,g4,-⟩:=g4.out;simp at hm;rcases hm with rfl|rfl|rfl
  ·rw[g0]at hp;cases hp
  ·rw[g2]at hp;cases hp
  ·rw[g4]at hp;cases hp
 have n4:=qF p4 aKq;have n5:=qF p5 (l1.none cKi);have n6:=qF p6 ((l1.trans l2).none gJS);have n7:=qF p7 (((l1.trans l2).trans l3).none gJR);have Ks:∀ {hh:ad} (l:Le h hh),Hw d ⟨hs,ht,hx⟩=false->k (.int .i64 2) hh:=fun{hh} l zR=>by
  have DG:D=(d,2):=by rw[<-hD];unfold aL;rw[zR];rfl
  have:=hk hh (l.kp _) (by rw[DG];exact q.mono l);rw[DG]at this;exact this
 cbv;refine aB g4 rfl rfl ?_;cbv;refine aB g5 rfl rfl ?_;cbv;refine sO q4 hs (fun h5 z1 t1 l5 jV RC=>?_);rw[qO]at RC;have bKW:=rY.trans l5;cases t1 with
 |false=>have af:=Ks bKW (by unfold Hw;rw[<-RC];rfl);cbv;rw[tF];cbv;exact af
 |true=>
  cbv;rw[kP];cbv;refine aB (l5 _ _ g4) rfl rfl ?_;cbv;refine aB (l5 _ _ g6) rfl rfl ?_;cbv;refine On (q4.mono l5) ht (fun h6 z2 t2 l6 dL RB=>?_);have dJc:=bKW.trans l6;have Rx:=l5.trans l6;cases t2 with
  |false=>have af:=Ks dJc (by unfold Hw;rw[<-RC,<-RB];rfl);cbv;rw[tF];cbv;exact af
  |true=>
   have MY:jK (d.holds.length+1) d ⟨hs,ht,hx⟩=D:=by rw[<-hD];unfold aL;rw[show Hw d ⟨hs,ht,hx⟩=true by unfold Hw;rw[<-RC,<-RB];rfl];rfl
   have q6:=q4.mono Rx;have f4:=Rx _ _ g4;have f5:=Rx _ _ g5;have f6:=Rx _ _ g6;have f7:=Rx _ _ g7;clear hD Ks g4 g5 g6 g7 e1 e2 e3 e4 RC RB;obtain⟨I,aY⟩:∃I:Nat->ad->Prop,∀m h',I m h'=∃d':DB,d'.holds.length<m/\d'.holds.length<2^18/\d'.waits.length<=2^18/\(bX d'.waits hs).length<=L0/\mV d'.az/\jK m d' ⟨hs,ht,hx⟩=D/\Kp [c,tb,wb] h6 h'/\lA h' c tb wb ct cw d'.az (Wf d'.aq) d'.holds d'.waits e:=⟨_,fun _ _=>rfl⟩;cbv;rw[kP];cbv;refine aX.go (G:=Unit) (fun _=>[]) (fun _=>[]) (fun n g h'=>I n h') (d.holds.length+1) () ⟨?_,?_,?_⟩ (by rw[aY];exact⟨d,by omega,hH,mZe cKI,by rw[eZL];exact mQt _,eZu,MY,Kp.refl _ _,q6⟩) ?_
   ·cbv
   ·cbv
   ·cbv
   ·intro m g h' hI;rw[aY]at hI;cbv;obtain⟨⟨dT,dW,dH,oA⟩,hm,lY,jq,ry,cQP,qX,bZK,hq⟩:=hI;have hq:lA h' c tb wb ct cw dT (Wf dW) dH oA e:=hq;have lY:dH.length<2^18:=lY;have jq:oA.length<=2^18:=jq;have ry:(bX oA hs).length<=L0:=ry;have hm:dH.length<m:=hm;obtain⟨f,rfl⟩:∃f,m=f+1:=⟨m-1,by omega⟩;have k4:=bZK _ _ f4 n4;have k5:=bZK _ _ f5 n5;have k6:=bZK _ _ f6 n6;have k7:=bZK _ _ f7 n7;have wE:=Dq (H:=dH) (hd:=⟨hs,ht,hx⟩);have pz:=EF (H:=dH) (W:=oA) (hd:=⟨hs,ht,hx⟩);have pz:(df dH oA ⟨hs,ht,hx⟩).length<=(bX oA hs).length+1:=pz;have DE:=DJ (H:=dH) (W:=oA) (hd:=⟨hs,ht,hx⟩);have DE:(bX (df dH oA ⟨hs,ht,hx⟩) hs).length<=(bX oA hs).length:=DE;have lQo:bP dH ⟨hs,ht,hx⟩=false->cV dH ⟨hs,ht,hx⟩=dH:=fun hf=>by unfold cV;rw[hf];rfl
    have cQy:=wY (H:=cV dH ⟨hs,ht,hx⟩) (W:=df dH oA ⟨hs,ht,hx⟩) (s:=hs);unfold jK at qX;have qX:(if bP dH ⟨hs,ht,hx⟩=true then((⟨dT,dW,cV dH ⟨hs,ht,hx⟩,df dH oA ⟨hs,ht,hx⟩⟩,0):DB×Int)
     else if(dG (da (cV dH ⟨hs,ht,hx⟩) (df dH oA ⟨hs,ht,hx⟩)) hs).2=true then
      if decide ((dG (da (cV dH ⟨hs,ht,hx⟩) (df dH oA ⟨hs,ht,hx⟩)) hs).1=hs)=true then(kh ⟨dT,dW,cV dH ⟨hs,ht,hx⟩,df dH oA ⟨hs,ht,hx⟩⟩ (dG (da (cV dH ⟨hs,ht,hx⟩) (df dH oA ⟨hs,ht,hx⟩)) hs).1,17)
      else jK f (kh ⟨dT,dW,cV dH ⟨hs,ht,hx⟩,df dH oA ⟨hs,ht,hx⟩⟩ (dG (da (cV dH ⟨hs,ht,hx⟩) (df dH oA ⟨hs,ht,hx⟩)) hs).1) ⟨hs,ht,hx⟩
     else(⟨dT,dW,cV dH ⟨hs,ht,hx⟩,df dH oA ⟨hs,ht,hx⟩⟩,16))=D:=qX
    refine(Wi (hd:=⟨hs,ht,hx⟩) hq k4 k5 k6 k7 (by omega) (by omega)).mono (fun v h7 hR=>?_);obtain⟨jQV,t,rfl,et,q7⟩:=hR;have eZm:Kp [c,tb,wb] h h7:=((dJc.kp _).trans bZK).trans (jQV.sub (by simp));have hKk:Kp [c,tb,wb] h6 h7:=bZK.trans (jQV.sub (by simp));have lKC:=et;rw[<-et]at qX;generalize cV dH ⟨hs,ht,hx⟩=aH at *;generalize df dH oA ⟨hs,ht,hx⟩=aW at *;cases t with
    |true=>have qX:((⟨dT,dW,aH,aW⟩,0):DB×Int)=D:=qX;subst qX;have af:=hk h7 eZm q7;cbv;rw[kP];cbv;exact af
    |false=>
     have lQb:=lQo et.symm;refine q7.elim (fun u1 u2 y3 v3 w3 y4 v4 w4 oo G0 Ho G1 G2 G3 G4 Q6 Q7 _=>?_);have aKp:=Q6.len;have lJX:=Q7.len;have j4:=hKk _ _ f4 n4;have j5:=hKk _ _ f5 n5;cbv;rw[tF];cbv;refine aB j4 rfl rfl ?_;cbv;rw[ai A];rw[ai A];refine aB G0 rfl rfl ?_;cbv;refine aB j5 rfl rfl ?_;cbv;refine(JO Q6 Q7 (by omega) (by omega) hs).mono (fun v h8 hR=>?_);obtain⟨l8,zv,tv,rfl,FB⟩:=hR;obtain⟨aJX,fXf⟩:=FB.eq;rw[<-aJX,<-fXf]at qX;rw[<-fXf,<-aJX]at cQy;cases tv with
     |false=>have qX:((⟨dT,dW,aH,aW⟩,16):DB×Int)=D:=qX;subst qX;have af:=hk h8 (eZm.trans (l8.kp _)) (q7.mono l8);cbv;rw[tF];cbv;exact af
     |true=>
      have cQy:=cQy rfl;have qX:(if decide (zv=hs)=true then((kh ⟨dT,dW,aH,aW⟩ zv,17):DB×Int)else jK f (kh ⟨dT,dW,aH,aW⟩ zv) ⟨hs,ht,hx⟩)=D:=qX;cbv;rw[kP];cbv;refine aB (l8 _ _ j4) rfl rfl ?_;cbv;refine bXB (q7.mono l8) wF tZ cQP zv (by omega) (by omega) (fun h9 k9 q9=>?_);rw[Rb,Ni]at q9;have kZO:=(eZm.trans (l8.kp _)).trans k9;have jQW:=(hKk.trans (l8.kp _)).trans k9;have i5:=jQW _ _ f5 n5;obtain⟨dB,fZe⟩:∃dB,dB=kh ⟨dT,dW,aH,aW⟩ zv:=⟨_,rfl⟩;have cKe:lA h9 c tb wb ct cw dB.az (Wf dB.aq) dB.holds dB.waits e:=by rw[fZe];exact q9
      rw[<-fZe]at qX;generalize eu:A .aI .eql zv hs=u;have fu:=eu;rw[aA A]at eu;rw[eu]at qX;cbv;refine aB i5 rfl rfl ?_;cbv;rw[fu];cases u with
      |true=>have qX:((dB,17):DB×Int)=D:=qX;subst qX;have af:=hk h9 kZO cKe;cbv;exact af
      |false=>
       have qX:jK f dB ⟨hs,ht,hx⟩=D:=qX;have cD:I f h9:=by
        have EU:=gZ aW zv;have iXQ:dB.holds=bX aH zv:=by rw[fZe];rfl
        have jZg:dB.waits=bX aW zv:=by rw[fZe];rfl
        have kKY:mV dB.az:=by rw[fZe];exact vQ cQP _ _
        have vj:(bX (bX aW zv) hs).length<=L0:=by rw[DI];have:=gZ (bX aW hs) zv;omega
        rw[aY];rw[lQb]at cQy iXQ;exact⟨dB,by rw[iXQ];omega,by rw[iXQ];omega,by rw[jZg];omega,by rw[jZg];exact vj,kKY,qX,jQW,cKe⟩
       cbv;refine⟨f,(),by omega,⟨?_,?_,?_⟩,cD⟩
       ·cbv
       ·cbv
       ·cbv
set_option maxHeartbeats 4000000
structure ue(n:Nat)(d:DB):Prop where
 az:d.az.length<=2^30
 jC:d.aq.Pairwise (fun a b=>a.s<b.s)
 pH:∀w∈d.aq,0<=w.s/\w.s<8
 rows:mV d.az
 holds:d.holds.length<=n
 waits:d.waits.length<=n
 dJT:∀x∈d.holds,0<=x.s/\x.s<8
theorem ue.le{n m:Nat}{d:DB}(o:ue n d)(h:n<=m):ue m d:=⟨o.az,o.jC,o.pH,o.rows,mXW o.holds h,mXW o.waits h,o.dJT⟩
theorem AI:∀ {l:List fJ} {a:Int},l.Pairwise (fun a b=>a.s<b.s)->(∀w∈l,a<=w.s/\w.s<8)->(l.length:Int)<=max 0 (8-a)
 | [],a,_,_=>by simp;omega
 |x::r,a,hs,hr=>by
  have h1:=hr x (by simp);have aP:∀w∈r,x.s<w.s:=fun w hw=>mJW hs hw;have:=AI (a:=x.s+1) (List.Pairwise.of_cons hs) (fun w hw=>⟨by have:=aP w hw;omega,(hr w (mQQ _ hw)).2⟩);simp only[mQx];omega
theorem ue.hZc{n:Nat}{d:DB}(o:ue n d):d.aq.length<=8:=by have:=AI o.jC o.pH;omega
theorem ue.small{n:Nat}{d:DB}(o:ue n d)(hn:n<2^18):Small d:=by have:=o.hZc;have:=o.az;have:=o.holds;have:=o.waits;exact⟨by omega,by omega,fun t ht=>by have:=o.rows t ht;omega,by omega,by omega⟩
theorem wrap_zero{x:Int}(h1:-2^64<x)(h2:x<2^64)(h:IntKind.i64.wrap x=0):x=0:=by have hs:IntKind.i64.signed=true:=rfl;simp only[IntKind.wrap,IntKind.bits,hs]at h;simp at h;split at h<;>omega
theorem bJq(T:List cW)(x:dV):(gC T x).map (·.S)=T.map (·.S):=by
 have hp:∀t r,(bK t r).1.S=t.S:=fun t r=>by
  unfold bK;repeat' split
  all_goals rfl
 have ht:∀t k,(bH t k).1.S=t.S:=fun t k=>by
  unfold bH;split<;>rfl
 have key:∀(i:Nat) (t t':cW),T[i]? =some t->t'.S=t.S->(T.set i t').map (·.S)=T.map (·.S):=fun i t t' hi hS=>by
  rw[mZd,hS];apply mXz;intro j;rw[mXF];split
  ·rename_i e;subst e;split
   ·rw[mQU,hi];rfl
   ·rename_i h1;rw[mXL (by omega)]
  ·rfl
 unfold gC;split
 ·split
  ·rename_i t hi;split
   ·exact key _ _ _ hi (hp _ _)
   ·split
    ·exact key _ _ _ hi (ht _ _)
    ·rfl
  ·rfl
 ·rfl
theorem BB(T:List cW):∀l,(eV T l).map (·.S)=T.map (·.S)
 | []=>rfl
 |x::r=>(bJq _ _).trans (BB T r)
theorem Nw(T:List cW)(ws:List fJ)(s:Int):(tH T ws s).map (·.S)=T.map (·.S):=by
 unfold tH;split
 ·split
  ·exact BB _ _
  ·rfl
 ·rfl
theorem XE{T T':List cW}(h:T'.map (·.S)=T.map (·.S))(nm:ByteArray):aQ T' nm=aQ T nm:=by
 have e:∀T:List cW,aQ T nm=(T.map (·.S)).map (fun s=>eC s.name nm):=fun T=>by simp[aQ,Function.comp_def]
 rw[e,e,h]
theorem bXW{T T':List cW}(h:T'.map (·.S)=T.map (·.S)):T'.length=T.length:=by have:=congrArg List.length h;simpa using this
theorem dQq(l:List Int)(p:Nat)(hp:p<l.length)(h0:l.getD p 0=0)(aP:∀i,i<p->l.getD i 0<0)(RH:∀i,p<i->i<l.length->l.getD i 0>0):di l=p/\jG l=true:=by
 have h1:di l=p:=Dn l p aP 0 l.length (fun k h1 h2=>by
  rcases mQS p k with h3|h3
  ·have:=RH k h3 h2;omega
  ·have:k=p:=by omega
   rw[this,h0];omega) (mQr _) (mZe hp)
 exact⟨h1,by unfold jG;rw[h1];exact kS ⟨hp,h0⟩⟩
theorem Gs{ws:List fJ}{s:Int}{i:Nat}{w:fJ}(h:ws[i]? =some w):(bQ ws s).getD i 0=IntKind.i64.wrap (w.s-s):=by rw[mXv];unfold bQ;rw[mQU,h];rfl
theorem UM{ws:List fJ}(hs:ws.Pairwise (fun a b=>a.s<b.s))(hr:∀w∈ws,0<=w.s/\w.s<8){i:Nat}{w:fJ}(hi:ws[i]? =some w):di (bQ ws w.s)=i/\jG (bQ ws w.s)=true:=by
 have ke:=(HH.1 hi).1;have hw:=hr w (GD hi);have hl:(bQ ws w.s).length=ws.length:=by simp[bQ]
 have get:∀j,j<ws.length->∃x,ws[j]? =some x/\(bQ ws w.s).getD j 0=x.s-w.s/\(j<i->x.s<w.s)/\(i<j->w.s<x.s):=fun j hj=>by
  obtain⟨x,hx⟩:=aE hj;have bZu:=hr x (GD hx);refine⟨x,hx,?_,fun h=>?_,fun h=>?_⟩
  ·rw[Gs hx,IntWalk.i64_in _ (by omega)]
  ·have:=mQN.1 hs j i hj ke h;rw[(HH.1 hx).2,(HH.1 hi).2]at this;exact this
  ·have:=mQN.1 hs i j ke hj h;rw[(HH.1 hx).2,(HH.1 hi).2]at this;exact this
 refine dQq _ i (by rw[hl];exact ke) ?_ (fun j hj=>?_) (fun j hj KP=>?_)
 ·obtain⟨x,hx,h1,-,-⟩:=get i ke;rw[hi]at hx;cases hx;rw[h1];omega
 ·obtain⟨x,hx,h1,h2,-⟩:=get j (by omega);have:=h2 hj;rw[h1];omega
 ·obtain⟨x,hx,h1,-,h2⟩:=get j (by rw[<-hl];exact KP);have:=h2 hj;rw[h1];omega
theorem yD{ws:List fJ}(hr:∀w∈ws,0<=w.s/\w.s<8){s:Int}(jx:-2^63<=s/\s<2^63)(h:jG (bQ ws s)=true):∃w,ws[di (bQ ws s)]? =some w/\w.s=s:=by
 have h':=mQB h;obtain⟨h1,h2⟩:=h';have hl:di (bQ ws s)<ws.length:=by simpa[bQ]using h1
 obtain⟨w,hw⟩:=aE hl;have eZp:=hr w (GD hw);rw[Gs hw]at h2;have:=wrap_zero (by omega) (by omega) h2;exact⟨w,hw,by omega⟩
theorem lR{ws:List fJ}(hs:ws.Pairwise (fun a b=>a.s<b.s))(hr:∀w∈ws,0<=w.s/\w.s<8){s:Int}(jx:-2^63<=s/\s<2^63):jG (bQ ws s)=true↔∃w∈ws,w.s=s:=by
 constructor
 ·intro h;obtain⟨w,hw,he⟩:=yD hr jx h;exact⟨w,GD hw,he⟩
 ·rintro⟨w,hw,rfl⟩;obtain⟨i,hi,he⟩:=mZH hw;exact(UM hs hr (i:=i) (by rw[mXJ hi,he])).2
theorem rV(ws:List fJ)(s:Int):(zS ws s).Sublist ws:=by
 unfold zS;split
 ·exact mJV _ _
 ·exact List.Sublist.refl _
theorem Zt{ws:List fJ}(hs:ws.Pairwise (fun a b=>a.s<b.s))(hr:∀w∈ws,0<=w.s/\w.s<8){v:Int}(hv:-2^63<=v/\v<2^63){w:fJ}(hw:w∈ws)(ch:w.s≠v):w∈zS ws v:=by
 unfold zS;split
 ·rename_i h;obtain⟨x,hx,he⟩:=yD hr hv h;obtain⟨j,hj,bZL⟩:=mZH hw;rw[mKV];refine⟨j,hj,fun e=>?_,bZL⟩;rw[<-e,mXJ hj,bZL]at hx;cases hx;exact ch he
 ·exact hw
theorem aQT{H W:List cg}{s:Int}(h:(dG (da H W) s).2=true):∃x∈H,x.s=(dG (da H W) s).1:=by
 have hv:=(rA (da H W) s).out;rcases hv with ⟨h1,-⟩ | ⟨-,h2,-,h4,-⟩
 ·rw[h]at h1;cases h1
 ·refine vP (W:=W) ?_;rcases h4 with h4| ⟨h4,-⟩
  ·rw[h4];exact yK h2
  ·exact yK h4
structure bZd(n:Nat)(d:DB)(hd:cg)(D:DB×Int):Prop where
 S:D.1.az.map (·.S)=d.az.map (·.S)
 ok:ue (n+1) D.1
 own:D.2=0->∀w∈d.aq,w.s=hd.s->w∈D.1.aq
 sub:D.1.aq.Sublist d.aq
def eXD(d:DB):Prop:=∀x∈d.holds,0<=x.s/\x.s<8
theorem IT{H:List cg}{hd:cg}(h:∀x∈H,0<=x.s/\x.s<8)(hs:0<=hd.s/\hd.s<8):∀x∈cV H hd,0<=x.s/\x.s<8:=fun x hx=>by
 unfold cV at hx;repeat' split at hx
 ·exact h x hx
 ·rcases mXx hx with h1|h1
  ·exact h x h1
  ·rw[h1];exact hs
 ·rcases mQv.1 hx with h1|h1
  ·exact h x h1
  ·simp at h1;rw[h1];exact hs
 ·exact h x hx
theorem PQ(n:Nat)(hd:cg)(hs:0<=hd.s/\hd.s<8):∀(f:Nat) (d:DB),d.holds.length<f->d.az.length<=2^30->d.aq.Pairwise (fun a b=>a.s<b.s)->(∀w∈d.aq,0<=w.s/\w.s<8)->mV d.az->d.holds.length<=n->(bX d.waits hd.s).length<=n->eXD d->
 bZd n d hd (jK f d hd)
 |0,d,hf,_,_,_,_,_,_,_=>by omega
 |f+1,d,hf,h1,h2,h3,h4,h5,h6,h7=>by
  have l1:=Dq (H:=d.holds) (hd:=hd);have l2:=EF (H:=d.holds) (W:=d.waits) (hd:=hd);have l3:=DJ (H:=d.holds) (W:=d.waits) (hd:=hd);unfold jK;by_cases mO:bP d.holds hd=true
  ·rw[if_pos mO];exact⟨rfl,⟨h1,h2,h3,h4,by show(cV _ _).length<=_;omega,by show(df _ _ _).length<=_;omega,IT h7 hs⟩,fun _ w hw _=>hw,List.Sublist.refl _⟩
  ·rw[if_neg mO];have hH:cV d.holds hd=d.holds:=by unfold cV;rw[if_neg mO]
   by_cases FB:(dG (da (cV d.holds hd) (df d.holds d.waits hd)) hd.s).2=true
   ·rw[if_pos FB];have bZy:=aQT FB;have cQy:=wY FB;have kJv:-2^63<=(dG (da (cV d.holds hd) (df d.holds d.waits hd)) hd.s).1/\(dG (da (cV d.holds hd) (df d.holds d.waits hd)) hd.s).1<2^63:=by obtain⟨x,hx,he⟩:=bZy;rw[hH]at hx;rw[<-he];have:=h7 x hx;omega
    generalize (dG (da (cV d.holds hd) (df d.holds d.waits hd)) hd.s).1=v at *;have Jv:=gZ (df d.holds d.waits hd) v;have vj:(bX (bX (df d.holds d.waits hd) v) hd.s).length<=n:=by rw[DI];have:=gZ (bX (df d.holds d.waits hd) hd.s) v;omega
    have gKb:(kh ⟨d.az,d.aq,cV d.holds hd,df d.holds d.waits hd⟩ v).az.map (·.S)=d.az.map (·.S):=Nw _ _ _;have Ap:(kh ⟨d.az,d.aq,cV d.holds hd,df d.holds d.waits hd⟩ v).holds.length<d.holds.length:=by show(bX (cV d.holds hd) v).length<_;rw[hH]at cQy |-;exact cQy
    have eM:(kh ⟨d.az,d.aq,cV d.holds hd,df d.holds d.waits hd⟩ v).aq.Sublist d.aq:=rV _ _;by_cases cQx:v=hd.s
    ·rw[if_pos (kS cQx)];exact⟨gKb,⟨by rw[bXW gKb];exact h1,h2.sublist eM,fun w hw=>h3 w (eM.subset hw),vQ h4 _ _,mXW (mZe Ap) (by omega),mXW Jv (by omega),fun x hx=>IT h7 hs x (mXt.1 hx).1⟩,(fun e=>by cases e),eM⟩
    ·rw[if_neg (by simpa using cQx)];have ih:=PQ n hd hs f (kh ⟨d.az,d.aq,cV d.holds hd,df d.holds d.waits hd⟩ v) (by omega) (by rw[bXW gKb];exact h1) (h2.sublist eM) (fun w hw=>h3 w (eM.subset hw)) (vQ h4 _ _) (by omega) vj
      (fun x hx=>h7 x (by
       have hx:x∈bX (cV d.holds hd) v:=hx;rw[hH]at hx;exact(mXt.1 hx).1))
     refine⟨ih.S.trans gKb,ih.ok,fun e w hw lM=>ih.own e w ?_ lM,ih.sub.trans eM⟩;exact Zt h2 h3 kJv hw (by rw[lM];exact fun e=>cQx e.symm)
   ·rw[if_neg FB];exact⟨rfl,⟨h1,h2,h3,h4,by show(cV _ _).length<=_;omega,by show(df _ _ _).length<=_;omega,IT h7 hs⟩,fun _ w hw _=>hw,List.Sublist.refl _⟩
theorem xZ{n:Nat}{d:DB}(o:ue n d)(hd:cg)(hs:-2^63<=hd.s/\hd.s<2^63):bZd n d hd (aL d hd):=by
 unfold aL;by_cases yT:Hw d hd=true
 ·rw[if_pos yT];unfold Hw at yT;rw[mQG]at yT;obtain⟨w,hw,he⟩:=(lR o.jC o.pH hs).1 yT.1;have:=o.pH w hw;exact PQ n hd (by omega) _ d (by omega) o.az o.jC o.pH o.rows o.holds (mXW (gZ _ _) o.waits) o.dJT
 ·rw[if_neg yT];exact⟨rfl,o.le (by omega),(fun e=>by cases e),List.Sublist.refl _⟩
theorem HW{n:Nat}{d:DB}(o:ue n d){hd:cg}(hs:-2^63<=hd.s/\hd.s<2^63)(h0:(aL d hd).2=0):
 jG (aQ (aL d hd).1.az hd.table)=true/\jG (bQ (aL d hd).1.aq hd.s)=true:=by
 have hk:=xZ o hd hs;have yT:Hw d hd=true:=by
  cases h:Hw d hd with
  |true=>rfl
  |false=>unfold aL at h0;rw[h]at h0;cases h0
 unfold Hw at yT;rw[mQG]at yT;refine⟨by rw[XE hk.S];exact yT.2,?_⟩;obtain⟨w,hw,he⟩:=(lR o.jC o.pH hs).1 yT.1;exact(lR hk.ok.jC hk.ok.pH hs).2 ⟨w,hk.own h0 w hw he,he⟩
end Go.S
