import Derived.Test.YtekoaiendgjkdaaGreatEC
import Derived.Test.YtekoaiendgjkdaaGreatRd
set_option linter.unusedVariables false
set_option linter.unusedSimpArgs false
set_option linter.unusedSectionVars false
set_option maxRecDepth 100000
set_option maxHeartbeats 8000000
namespace Go.S
open Go.Sx Go.Proofs
theorem Em{xs:List (dr×Bool)}{h:ad}{nb n cap:Nat}(o:dn 55 bO h nb cap xs)(hn:n=xs.length){z w:Int}{i:Nat}(hz:aO z i)(hw:aO w (i+1))(hi:i<n){k:Value->ad->Prop}
 (hk:∀h' m,m=n-1->Kp [nb] h h'->(∀tys,55∉tys->cG tys h h')->dn 55 bO h' nb cap (xs.eraseIdx i)->k (.slice (some ⟨nb,0,none⟩) m cap) h'):
 Ct 129 [.slice (some ⟨nb,0,none⟩) n cap,.int .i64 z,.int .i64 w] h k:=by
 obtain⟨A,hA⟩:=Ar.ex;have hle:=o.le;have vp:=o.bd;have ir:=hz.eq;have hwe:=hw.eq;have pN:A .nat n=(n:Int):=by rw[hA.nat];rfl
 have e1:A .aD .eql z w=false:=by rw[av A];exact decide_eq_false (by omega)
 have q:Sl 55 bO h (.slice (some ⟨nb,0,none⟩) n cap) xs:=o.sl hn;have vm:0<=A .nat n/\A .nat n<=(cap:Int)/\0<=w/\w<=A .nat n/\0<=z/\z<=w:=by rw[pN];omega
 have oV:0<=z/\z<=(cap:Int):=by omega
 have zE:0<=w/\w<=(n:Int):=by omega
 have HJ:∀m,m=n-1->0<=A .nat n/\A .nat n<=(cap:Int)/\0<=A .nat m/\A .nat m<=A .nat n:=fun m hm=>by
  have Av:A .nat m=(m:Int):=by rw[hA.nat];rfl
  rw[pN,Av];omega
 have Cv:=q.rK (A:=A) hw (by omega) rfl rfl;have Qa:=dI (A:=A) hz;have RX:=dZ (A:=A) (n:=n) hw;have hd3:=dZ (A:=A) (n:=cap) hw;refine af A (ar Xz.aw Xz.aZ) Tryz.func129 rfl (by kernel_rfl) ?_;cbv;refine⟨vm,?_⟩;cbv;rw[e1];cbv;refine⟨oV,?_⟩;cbv;refine⟨zE,?_⟩;cbv;rw[qj (A:=A),Qa,RX];refine o.Aj (by decide) (i:=i) (by omega) Cv (by omega) (by omega) rfl (fun h1 m hm k1 t1 o1=>?_);have K5:m=n-1:=by omega
 have o2:=o1.shrink (n-1);have heq:(xs.take i++xs.drop (i+1)++xs.drop (i+(n-(i+1)))).take (n-1)=xs.eraseIdx i:=by rw[hn];exact erase_eq (by omega)
 rw[heq]at o2;clear o1 heq hm;have hel:(xs.eraseIdx i).length=n-1:=by rw[List.length_eraseIdx_of_lt (by omega)];omega
 have HJ:=HJ m K5;have hd4:A .qI (A .nat n) (A .nat m)=1:=by rw[dZ (A:=A) (aO.nat m)];omega
 cbv;refine⟨HJ,?_⟩;cbv;rw[pZ (A:=A) (aO.nat m) (by omega),hd4];refine o2.Q5 (by decide) rfl rfl (p:=m) (by omega) (by omega) (fun h2 k2 t2 o3=>?_);have ae:=hk h2 m K5 (k1.trans k2) (fun tys hh=>(t1 tys hh).trans (t2 tys hh)) o3;cbv;exact ae
theorem nE{h:ad}{c tb wb ct cw:Nat}{T:List cA}{W:List (dr×Bool)}{H Wt:List bK}{e:Int}(q:iG h c tb wb ct cw T W H Wt e)(j9:Int){k:Value->ad->Prop}
 (hk:∀h' z t,Le h h'->aO z (dm (dg W j9))->t=kE (dg W j9)->k (.tuple #[.int .i64 z,.bool t]) h'):Ct 49 [.pointer (some ⟨c,0,none⟩),.int .i64 j9] h k:=
 (AA q j9).mono (fun v h' hR=>by
  obtain⟨l,z,t,hv,hb⟩:=hR;obtain⟨h1,h2⟩:=hb.at_;rw[hv];exact hk h' z t l h1 h2)
theorem yB{h:ad}{c tb wb ct cw:Nat}{T:List cA}{W:List (dr×Bool)}{H Wt:List bK}{e:Int}(q:iG h c tb wb ct cw T W H Wt e)(name:ByteArray){k:Value->ad->Prop}
 (hk:∀h' z t,Le h h'->aO z (dm (aM T name))->t=kE (aM T name)->k (.tuple #[.int .i64 z,.bool t]) h'):Ct 105 [.pointer (some ⟨c,0,none⟩),.string name] h k:=
 (wZ q name).mono (fun v h' hR=>by
  obtain⟨l,z,t,hv,hb⟩:=hR;obtain⟨h1,h2⟩:=hb.at_;rw[hv];exact hk h' z t l h1 h2)
theorem OD{nm:ByteArray}{cols:List bS}{key:Int}{only:Bool}{rows:List Row}{r:Row}{h:ad}{sb b4 b:Option Addr}{sn sc n4 c4 n c:Nat}(qs:Sl 165 bp h (.slice sb sn sc) cols)(q4:Sl 59 aN h (.slice b4 n4 c4) rows)(q:Sl 61 aY h (.slice b n c) r)(hn:n4<=2^37){k:Value->ad->Prop}
 (hk:∀h' b1 n1 k1 b2 n2 k2 T e,Le h h'->Sl 165 bp h' (.slice b1 n1 k1) cols->Sl 59 aN h' (.slice b2 n2 k2) T->(⟨⟨⟨nm,cols,key,only⟩,T⟩,e⟩:cA×Int)=bI ⟨⟨nm,cols,key,only⟩,rows⟩ r->k (.tuple #[.agg #[.string nm,.slice b1 n1 k1,.int .i64 key,.bool only,.slice b2 n2 k2],.int .i64 e]) h'):
 Ct 157 [.agg #[.string nm,.slice sb sn sc,.int .i64 key,.bool only,.slice b4 n4 c4],.slice b n c] h k:=
 (MU (nm:=nm) (key:=key) (only:=only) qs q4 q hn).mono (fun v h' hR=>by
  obtain⟨l,b1,n1,k1,b2,n2,k2,e,T,hv,r1,r2,r3⟩:=hR;rw[hv];exact hk h' b1 n1 k1 b2 n2 k2 T e l r1 r2 r3)
theorem JR{nm:ByteArray}{cols:List bS}{key:Int}{only:Bool}{rows:List Row}{h:ad}{sb b4:Option Addr}{sn sc n4 c4:Nat}(qs:Sl 165 bp h (.slice sb sn sc) cols)(q4:Sl 59 aN h (.slice b4 n4 c4) rows)(hn:n4<=2^37)(kv:cR){k:Value->ad->Prop}
 (hk:∀h' b1 n1 k1 b2 n2 k2 b3 n3 k3 T R e,Le h h'->Sl 165 bp h' (.slice b1 n1 k1) cols->Sl 59 aN h' (.slice b2 n2 k2) T->Sl 61 aY h' (.slice b3 n3 k3) R->(⟨⟨⟨nm,cols,key,only⟩,T⟩,R,e⟩:cA×Row×Int)=cu ⟨⟨nm,cols,key,only⟩,rows⟩ kv->k (.tuple #[.agg #[.string nm,.slice b1 n1 k1,.int .i64 key,.bool only,.slice b2 n2 k2],.slice b3 n3 k3,.int .i64 e]) h'):
 Ct 158 [.agg #[.string nm,.slice sb sn sc,.int .i64 key,.bool only,.slice b4 n4 c4],.agg #[.int .i64 kv.k,.int .i64 kv.n,.string kv.s]] h k:=
 (Ob (nm:=nm) (key:=key) (only:=only) qs q4 hn kv).mono (fun v h' hR=>by
  obtain⟨l,b1,n1,k1,b2,n2,k2,b3,n3,k3,e,T,R,hv,r1,r2,r3,r4⟩:=hR;rw[hv];exact hk h' b1 n1 k1 b2 n2 k2 b3 n3 k3 T R e l r1 r2 r3 r4)
theorem zN{H W:List bK}{h:ad}{b1 b2:Option Addr}{n1 c1 n2 c2:Nat}(q1:Sl 205 bA h (.slice b1 n1 c1) H)(q2:Sl 205 bA h (.slice b2 n2 c2) W)(s:Int)(nh:H.length<=2^38)(mK:W.length<=2^38){k:Value->ad->Prop}
 (hk:∀h' b1 n1 c1 b2 n2 c2,Le h h'->Sl 205 bA h' (.slice b1 n1 c1) (bH H s)->Sl 205 bA h' (.slice b2 n2 c2) (bH W s)->k (.agg #[.slice b1 n1 c1,.slice b2 n2 c2]) h'):Ct 130 [.agg #[.slice b1 n1 c1,.slice b2 n2 c2],.int .i64 s] h k:=
 (LK q1 q2 (by rw[q1.len];exact nh) (by rw[q2.len];exact mK) s).mono (fun v h' hR=>by
  obtain⟨l,b1,n1,c1,b2,n2,c2,hv,r1,r2⟩:=hR;rw[hv];exact hk h' b1 n1 c1 b2 n2 c2 l r1 r2)
theorem iG.aq{h h1 h':ad}{c tb wb ct cw:Nat}{T:List cA}{W':List (dr×Bool)}{H Wt:List bK}{e:Int}{n1 n2 m2:Nat}{b3 b4:Option Addr}{n3 c3 n4 c4:Nat}{o:Int}
 (g0:h c=some (.cells #[.slice (some ⟨tb,0,none⟩) n1 ct,.slice (some ⟨wb,0,none⟩) n2 cw,.slice b3 n3 c3,.slice b4 n4 c4,.int .u32 o,.int .i32 0,.int .u32 0,.int .i64 e] 128 (0,0)))
 (ho:(o=0/\e=0)\/(o=1/\e≠0)) (g1:n1=T.length) (g2:dn 51 cJ h tb ct T) (g6:Sl 205 bA h (.slice b3 n3 c3) H) (g7:Sl 205 bA h (.slice b4 n4 c4) Wt) (hm:m2=W'.length)
 (l1:∀tys,55∉tys->cG tys h h1) (k1:h1 c=h c) (gw:dn 55 bO h1 wb cw W')
 (hh:h'=aV h1 c (.cells #[.slice (some ⟨tb,0,none⟩) n1 ct,.slice (some ⟨wb,0,none⟩) m2 cw,.slice b3 n3 c3,.slice b4 n4 c4,.int .u32 o,.int .i32 0,.int .u32 0,.int .i64 e] 128 (0,0))):
 Kp [c] h1 h'/\iG h' c tb wb ct cw T W' H Wt e:=by
 have Qw:=k1.trans g0;have lt:∀tys,128∉tys->cG tys h1 h':=fun tys hn=>by rw[hh];exact cG.set Qw hn
 have l2:∀tys,55∉tys->128∉tys->cG tys h h':=fun tys a b=>(l1 tys a).trans (lt tys b);refine⟨by rw[hh];exact Kp.set (by simp),n1,m2,b3,n3,c3,b4,n4,c4,o,by rw[hh];exact ah,ho,g1,g2.mono (l2 _ (by decide) (by decide)),hm,gw.mono (lt _ (by decide)),g6.mono (l2 _ (by decide) (by decide)),g7.mono (l2 _ (by decide) (by decide))⟩
def uv(W:List (dr×Bool))(s:Int):List (dr×Bool):=if kE (dg W s)=true then W.eraseIdx (dm (dg W s))else W
theorem H4{h:ad}{c tb wb ct cw:Nat}{T:List cA}{W:List (dr×Bool)}{H Wt:List bK}{e:Int}(q:iG h c tb wb ct cw T W H Wt e)(pQ:c≠wb)(s:Int)(nh:H.length<=2^38)(mK:Wt.length<=2^38){k:Value->ad->Prop}
 (hk:∀h',Kp [c,wb] h h'->iG h' c tb wb ct cw T (uv W s) (bH H s) (bH Wt s) e->k (.tuple #[]) h'):X2 61 [.pointer (some ⟨c,0,none⟩),.int .i64 s] h k:=by
 obtain⟨A,hA⟩:=Ar.ex;obtain⟨V,hV⟩:∃V,V=uv W s:=⟨_,rfl⟩;rw[<-hV]at hk;have fin:∀(h1:ad),Kp [c,wb] h h1->iG h1 c tb wb ct cw T V H Wt e->∀(n1 n2:Nat) (b3:Option Addr) (n3 c3:Nat) (b4:Option Addr) (n4 c4:Nat) (o:Int),h1 c=some (.cells #[.slice (some ⟨tb,0,none⟩) n1 ct,.slice (some ⟨wb,0,none⟩) n2 cw,.slice b3 n3 c3,.slice b4 n4 c4,.int .u32 o,.int .i32 0,.int .u32 0,.int .i64 e] 128 (0,0))->
  ((o=0/\e=0)\/(o=1/\e≠0))->n1=T.length->dn 51 cJ h1 tb ct T->n2=V.length->dn 55 bO h1 wb cw V->
  ∀(h2:ad) (x3:Option Addr) (m3 k3:Nat) (x4:Option Addr) (m4 k4:Nat),Le h1 h2->Sl 205 bA h2 (.slice x3 m3 k3) (bH H s)->Sl 205 bA h2 (.slice x4 m4 k4) (bH Wt s)->
  ∀h3,h3=aV h2 c (.cells #[.slice (some ⟨tb,0,none⟩) n1 ct,.slice (some ⟨wb,0,none⟩) n2 cw,.slice x3 m3 k3,.slice x4 m4 k4,.int .u32 o,.int .i32 0,.int .u32 0,.int .i64 e] 128 (0,0))->k (.tuple #[]) h3:=
  fun h1 k1 _ n1 n2 b3 n3 c3 b4 n4 c4 o g0 ho g1 g2 g3 g4 h2 x3 m3 k3 x4 m4 k4 l2 r3 r4 h3 e3=>by
   have hl:=iG.vY (l2 _ _ g0) ho g1 (g2.mono (l2.t _)) g3 (g4.mono (l2.t _)) r3 r4 e3;exact hk h3 ((k1.trans (l2.kp _)).trans (hl.1.sub (by simp))) hl.2
 refine nP A (ar T61.aw T61.aZ) Tryz.func61 rfl (by kernel_rfl) ?_;cbv;refine nE q s (fun h1 z t l1 hz ht=>?_);have q1:=q.mono l1;cases t with
 |false=>
  have YN:V=W:=by rw[hV];unfold uv;rw[<-ht];rfl
  clear hV;subst YN;refine q1.elim (fun n1 n2 b3 n3 c3 b4 n4 c4 o g0 ho g1 g2 g3 g4 g6 g7 _=>?_);have fin:=fin h1 (l1.kp _) q1 n1 n2 b3 n3 c3 b4 n4 c4 o g0 ho g1 g2 g3 g4;cbv;rw[aj A];rw[aj A];refine ay g0 rfl rfl ?_;cbv;refine zN g6 g7 s nh mK (fun h2 x3 m3 k3 x4 m4 k4 l2 r3 r4=>?_);cbv;rw[aj A];rw[aj A];refine kP (l2 _ _ g0) (by simp) (fun h3 e3=>?_);have ae:=fin h2 x3 m3 k3 x4 m4 k4 l2 r3 r4 h3 e3;cbv;exact ae
 |true=>
  have YN:V=W.eraseIdx (dm (dg W s)):=by rw[hV];unfold uv;rw[<-ht];rfl
  have aG:dm (dg W s)<W.length:=by have:=me ht.symm;simpa[dg]using this
  generalize dm (dg W s)=i at *;clear hV;refine q1.elim (fun n1 n2 b3 n3 c3 b4 n4 c4 o g0 ho g1 g2 g3 g4 g6 g7 _=>?_);have vp:=g4.bd;have mC:=hz.succ (A:=A) (by omega);have fR:i<n2:=by omega
  have hlV:V.length=n2-1:=by rw[YN,List.length_eraseIdx_of_lt aG];omega
  cbv;rw[aj A];rw[aj A];refine ay g0 rfl rfl ?_;cbv;refine Em g4 g3 hz mC fR (fun h2 m hm k2 t2 o2=>?_);have gc2:h2 c=h1 c:=(k2 _ _ g0 (by simpa using pQ)).trans g0.symm;rw[<-YN]at o2;have aF:=fun h3 hh=>iG.aq (h':=h3) g0 ho g1 g2 g6 g7 (hm.trans hlV.symm) t2 gc2 o2 hh;have gc2':=gc2.trans g0;cbv;rw[aj A];rw[aj A];refine kP gc2' (by simp) (fun h3 e3=>?_);obtain⟨k3,q3⟩:=aF h3 e3;have Yu:Kp [c,wb] h h3:=((l1.kp _).trans (k2.sub (by simp))).trans (k3.sub (by simp));clear aF e3;refine q3.elim (fun n1 n2 b3 n3 c3 b4 n4 c4 o g0 ho g1 g2 g3 g4 g6 g7 _=>?_);have fin:=fin h3 Yu q3 n1 n2 b3 n3 c3 b4 n4 c4 o g0 ho g1 g2 g3 g4;cbv;rw[aj A];rw[aj A];refine ay g0 rfl rfl ?_;cbv;refine zN g6 g7 s nh mK (fun h4 x3 m3 k3 x4 m4 k4 l4 r3 r4=>?_);cbv;rw[aj A];rw[aj A];refine kP (l4 _ _ g0) (by simp) (fun h5 e5=>?_);have ae:=fin h4 x3 m3 k3 x4 m4 k4 l4 r3 r4 h5 e5;cbv;exact ae
structure JB(z:Int)(i:Nat):Prop where
 eq:z=(i:Int)-1
theorem JB.vf{z:Int}{i:Nat}(h:JB z (i+1)):aO z i:=⟨by have:=h.eq;omega⟩
theorem JB.ge{A:Ar}[hA:aP A]{z:Int}{i:Nat}(h:JB z i):A .aD .geq z 0=decide (1<=i):=by have:=h.eq;rw[bQ A,decide_eq_decide];omega
theorem _root_.Go.Sx.aO.pred{A:Ar}[hA:aP A]{z:Int}{i:Nat}(h:aO z i)(hi:i<2^62):JB (A .bu .sub .i64 z 1) i:=⟨by
 have:=h.eq;rw[hA.bu];simp only[bu];rw[IntWalk.i64_in _ (by omega)];omega⟩
abbrev Yd(l:Nat)(args:List Value)(h:ad)(R:Value->ad->Prop):Prop:=Mw (fun _=>Tryz.prog) l args h R
theorem Ml{xs:List lD}{bb l:Nat}{b:Option Addr}{n c:Nat}(J:Nat->ad->Prop)(hJ:∀i hh,J i hh->hh bb=some (.cells #[.slice b n c] 52 (0,0))/\Sl 148 fE hh (.slice b n c) xs)
 (hY:∀i x hh z cs,J (i+1) hh->xs[i]? =some x->aO z i->fE.R hh cs x->Yd l [.int .i64 z,.agg cs.toArray] hh (fun v h'=>v=.bool true/\J i h')) {h:ad} (h0:J n h) {k:Value->ad->Prop}
 (hk:∀h',J 0 h'->k (.tuple #[]) h'):Ct 239 [.func (.yield l) #[] #[],.pointer (some ⟨bb,0,none⟩)] h k:=by
 obtain⟨A,hA⟩:=Ar.ex;obtain⟨g0,q0⟩:=hJ n h h0;have hlen:=q0.len;have vp:=q0.bound.1;have pL:A .not true=false:=by rw[hA.not];rfl
 have DW:JB (A .bu .sub .i64 (A .nat n) 1) n:=(aO.nat n).pred (by omega);refine af A (ar WD.aw WD.aZ) Tryz.func239 rfl (by kernel_rfl) ?_;cbv;refine ay g0 rfl rfl ?_;cbv;refine aX.go (G:=Int) (fun g=>[(3,.v (.int .i64 g))]) (fun _=>[]) (fun m g h'=>∃i:Nat,JB g i/\m=i/\i<=n/\J i h') n (A .bu .sub .i64 (A .nat n) 1) ⟨?_,?_,?_⟩ ⟨n,DW,rfl,Nat.le_refl _,h0⟩ ?_
 ·cbv
 ·cbv
 ·cbv
 ·intro m g h' hI;cbv;obtain⟨i,hg,hm,fR,hj⟩:=hI;rw[hg.ge (A:=A)];cases i with
  |zero=>have ae:=hk h' hj;rw[show decide (1<=0)=false from rfl];cbv;exact ae
  |succ i=>
   obtain⟨g1,q1⟩:=hJ _ _ hj;have Jn:aO g i:=hg.vf;obtain⟨x,hx⟩:=aE (xs:=xs) (i:=i) (by omega);have cT:b.isSome=true/\0<=g/\g<(n:Int):=⟨q1.bF (by omega),Jn.ix (by omega)⟩;have TV:JB (A .bu .sub .i64 g 1) i:=Jn.pred (by omega);rw[show decide (1<=i+1)=true from decide_eq_true (by omega)];cbv;refine ay g1 rfl rfl ?_;cbv;refine⟨cT,?_⟩;cbv;refine q1.load hx Jn.eq (fun cs aF=>?_);have hyd:=hY i x h' g cs hj hx Jn aF;obtain⟨b1,n1,c1,rfl,-⟩:=aF;cbv;refine hyd.mono (fun v h2 hR=>?_);obtain⟨rfl,Jl⟩:=hR;cbv;rw[pL];cbv;refine⟨i,_,by omega,⟨?_,?_,?_⟩,i,TV,rfl,by omega,Jl⟩
   ·cbv
   ·cbv
   ·cbv
theorem Ag{h:ad}{b:Option Addr}{n c:Nat}{k:Value->ad->Prop}(hk:∀h' bb,h bb=none->Le h h'->h' bb=some (.cells #[.slice b n c] 52 (0,0))->k (.func (.func 239) #[] #[.pointer (some ⟨bb,0,none⟩)]) h'):
 Ct 156 [.slice b n c] h k:=by
 obtain⟨A,hA⟩:=Ar.ex;refine af A (ar Xv.aw Xv.aZ) Tryz.func156 rfl (by kernel_rfl) ?_;cbv;intro bb h1 Uy e1;have ae:=hk h1 bb Uy (by rw[e1];exact Le.set Uy) ((congrFun e1 bb).trans ah);cbv;exact ae
def vD(r:Row)(key:Int):cR:=(r[key.toNat]?).getD ⟨0,0,jS⟩
def iA(T:List cA)(x:lD):List cA:=
 if kE (aM T x.table)=true then
  match T[dm (aM T x.table)]? with
  |some t=>if decide (x.op=2)=true then T.set (dm (aM T x.table)) (bI t x.row).1
   else if(decide (t.S.key>=0)&&decide (t.S.key<(x.row.length:Int)))=true then T.set (dm (aM T x.table)) (cu t (vD x.row t.S.key)).1 else T
  |none=>T
 else T
def eU(T:List cA)(l:List lD):List cA:=l.foldr (fun x T=>iA T x) T
def eB(n:Int)(len:Nat):Nat:=min n.toNat len
def iE(T:List cA):Prop:=∀t∈T,t.rows.length<=2^36
theorem yA(t:cA)(r:Row)(h:t.rows.length<=2^36):(bI t r).1.rows.length<=2^36:=by
 unfold bI;split
 ·exact h
 ·split
  ·exact h
  ·split
   ·exact h
   ·rename_i h3;have h3:¬((t.rows.length:Int)>=200):=by simpa using h3
    simp[sU];omega
theorem wX(t:cA)(k:cR)(h:t.rows.length<=2^36):(cu t k).1.rows.length<=2^36:=by
 unfold cu;split
 ·simp[AM];omega
 ·exact h
theorem iE.set{T:List cA}(h:iE T){t:cA}(ht:t.rows.length<=2^36)(i:Nat):iE (T.set i t):=fun x hx=>by
 rcases List.mem_or_eq_of_mem_set hx with h1|h1
 ·exact h x h1
 ·rw[h1];exact ht
theorem AH{T:List cA}(h:iE T)(x:lD):iE (iA T x):=by
 unfold iA;split
 ·split
  ·rename_i t ht;have:=h t (List.mem_of_getElem? ht);split
   ·exact h.set (yA _ _ this) _
   ·split
    ·exact h.set (wX _ _ this) _
    ·exact h
  ·exact h
 ·exact h
theorem oI{T:List cA}(h:iE T):∀l,iE (eU T l)
 | []=>h
 |x::r=>AH (oI h r) x
theorem AG{T:List cA}{l:List lD}{i:Nat}{x:lD}(hx:l[i]? =some x):eU T (l.drop i)=iA (eU T (l.drop (i+1))) x:=by obtain⟨h1,h2⟩:=List.getElem?_eq_some_iff.1 hx;rw[List.drop_eq_getElem_cons h1,h2];rfl
theorem _root_.Go.Sx.Kp.y0{h h':ad}{nb e:Nat}{c:Array Value}{fr:Nat×Nat}(k:Kp [nb] h h')(hn:h nb=some (.cells c e fr)){tys:List Nat}(he:e∉tys):cG tys h h':=fun b d e' HT hm hb=>
 k b _ hb (by
  intro jt;simp at jt;rw[jt,hn]at hb;cases hb;exact he hm)
theorem iG.FB{h h':ad}{c tb wb ct cw:Nat}{T T':List cA}{W:List (dr×Bool)}{H Wt:List bK}{e:Int}(q:iG h c tb wb ct cw T W H Wt e)(hl:T'.length=T.length)(k:Kp [tb] h h')(t:∀tys,51∉tys->cG tys h h')(o:dn 51 cJ h' tb ct T')(rI:c≠tb):iG h' c tb wb ct cw T' W H Wt e:=by obtain⟨n1,n2,b3,n3,c3,b4,n4,c4,o1,g0,ho,g1,g2,g3,g4,g6,g7⟩:=q.out;exact⟨n1,n2,b3,n3,c3,b4,n4,c4,o1,k _ _ g0 (by simpa using rI),ho,by rw[hl];exact g1,o,g3,g4.mono (t _ (by decide)),g6.mono (t _ (by decide)),g7.mono (t _ (by decide))⟩
theorem iG.lt{h h':ad}{c tb wb ct cw:Nat}{T:List cA}{W:List (dr×Bool)}{H Wt:List bK}{e:Int}(q:iG h c tb wb ct cw T W H Wt e)(hl:∀tys,cG tys h h'):iG h' c tb wb ct cw T W H Wt e:=by obtain⟨n1,n2,b3,n3,c3,b4,n4,c4,o,g0,g1,g2,g3,g4,g5,g6,g7⟩:=q.out;exact⟨n1,n2,b3,n3,c3,b4,n4,c4,o,hl [128] _ _ _ _ (by simp) g0,g1,g2,g3.mono (hl _),g4,g5.mono (hl _),g6.mono (hl _),g7.mono (hl _)⟩
theorem cG.oset{tys:List Nat}{h:ad}{n:Nat}{o:Obj}(hn:∀c e fr,h n≠some (.cells c e fr)):cG tys h (aV h n o):=fun b c e fr _ hb=>by
 rw[aU (fun e'=>hn c e fr (by rw[<-e'];exact hb))];exact hb
theorem yw{A:Ar}[hA:aP A](n:Int)(m:Nat):aO (A .mB (A .imax n 0) (A .nat m)) (eB n m):=⟨by
 rw[hA.mB,hA.imax,hA.nat];unfold eB;simp only[Int.ofNat_eq_natCast];omega⟩
theorem Fm(n:Int)(m:Nat):eB n m<=m:=by unfold eB;omega
theorem Fo{h:ad}{c tb wb ct cw:Nat}{T:List cA}{W:List (dr×Bool)}{H Wt:List bK}{e:Int}(q:iG h c tb wb ct cw T W H Wt e)(rI:c≠tb)(pQ:c≠wb)(TH:iE T){z:Int}{i:Nat}(hz:aO z i){w:dr×Bool}(hw:W[i]? =some w)(n:Int){k:Value->ad->Prop}
 (hk:∀h',Kp [tb,wb] h h'->iG h' c tb wb ct cw (eU T (w.1.log.drop (eB n w.1.log.length))) (W.set i (⟨w.1.s,w.1.log.take (eB n w.1.log.length),w.1.marks⟩,false)) H Wt e->k (.tuple #[]) h'):
 Ct 78 [.pointer (some ⟨c,0,none⟩),.int .i64 z,.int .i64 n] h k:=by
 obtain⟨A,hA⟩:=Ar.ex;obtain⟨⟨ws,wl,wm⟩,wg⟩:=w;refine q.elim (fun n1 n2 b3 n3 c3 b4 n4 c4 o g0 ho g1 g2 g3 g4 g6 g7 _=>?_);have jG:i<W.length:=(List.getElem?_eq_some_iff.1 hw).1;have Qc:(some (⟨wb,0,none⟩:Addr)).isSome=true/\0<=z/\z<(n2:Int):=⟨rfl,hz.ix (by omega)⟩;refine lA A (ar T78.aw (fun s=>s==3)) Tryz.func78 rfl (by kernel_rfl) ?_;cbv;intro p3 h1 PG e1;have l1:Le h h1:=by rw[e1];exact Le.set PG
 have f3:h1 p3=some (.cells #[.pointer (some ⟨c,0,none⟩)] 109 (0,0)):=(congrFun e1 p3).trans ah;have q1:=q.mono l1;have g01:=l1 _ _ g0;have UU:=(g4.sl g3).mono (l1.t [55,148,61,161]);cbv;refine ay f3 rfl rfl ?_;cbv;rw[aj A];rw[aj A];refine ay g01 rfl rfl ?_;cbv;refine⟨Qc,?_⟩;cbv;refine xF UU hw hz.eq (fun b1 m1 c1 q1l _ again=>?_);cbv;refine again _ _ (Le.refl _) ?_;have rZ:=q1l.len;have rZ:m1=wl.length:=rZ;have K8:=yw (A:=A) n m1;have Ua:=Fm n m1;rw[rZ]at K8 Ua;obtain⟨lo,elo⟩:∃lo,lo=eB n wl.length:=⟨_,rfl⟩;rw[<-elo]at K8 Ua;have oV:0<=A .mB (A .imax n 0) (A .nat m1)/\A .mB (A .imax n 0) (A .nat m1)<=(m1:Int):=by rw[rZ];have:=K8.eq;omega
 rw[<-rZ]at K8;have Cv:=q1l.rK (A:=A) K8 (by omega) rfl rfl;have Cv:Sl 148 fE h1 _ (wl.drop lo):=Cv;have RX:=dZ (A:=A) (n:=m1) K8;have hd3:=dZ (A:=A) (n:=c1) K8;cbv;refine⟨oV,?_⟩;cbv;rw[RX,hd3];refine Ag (fun h2 bb Uy l2 fb=>?_);cbv;refine⟨fun m l o1 o2 hm hl PO TS YC hY=>?_⟩;obtain⟨xs,xJ⟩:∃xs,xs=wl.drop lo:=⟨_,rfl⟩;rw[<-xJ]at Cv;obtain⟨hb,Y1⟩:∃hb,hb=aV (aV h2 m (.deferred (some []))) l o1:=⟨_,rfl⟩;have Ta:Le h2 hb:=by rw[Y1];exact(Le.set hm).trans (Le.set (by rw[aU (Ne.symm PO)];exact hl))
 have fl:hb l=some o1:=by rw[Y1];exact ah
 have fm:hb m=some (.deferred (some [])):=by rw[Y1,aU PO];exact ah
 have fbb:=Ta _ _ fb;have f3b:=Ta _ _ (l2 _ _ f3);have qb:=(q1.mono l2).mono Ta;have Um:=Cv.mono ((l2.trans Ta).t _);have Np:=l2.trans Ta;rw[<-Y1];obtain⟨ctb,qG,-⟩:=g2.out;have htbb:=Np _ _ (l1 _ _ qG);have nbb:bb≠tb:=fun e=>by rw[e,l1 _ _ qG]at Uy;cases Uy
 have n3:p3≠tb:=fun e=>by rw[e,qG]at PG;cases PG
 have nl:l≠tb:=fun e=>by rw[e,l2 _ _ (l1 _ _ qG)]at hl;cases hl
 have nm:m≠tb:=fun e=>by rw[e,l2 _ _ (l1 _ _ qG)]at hm;cases hm
 have nlc:l≠c:=fun e=>by rw[e,l2 _ _ g01]at hl;cases hl
 have n3l:p3≠l:=fun e=>by rw[<-e,l2 _ _ f3]at hl;cases hl
 have aG:∀tys hh,51∉tys->Kp [tb] hb hh->cG tys hb hh:=fun tys hh ht k=>Kp.y0 k htbb ht;obtain⟨J,UG⟩:∃J:Nat->ad->Prop,∀i hh,J i hh=(hh l=some o1/\Kp [tb] hb hh/\iG hh c tb wb ct cw (eU T (xs.drop i)) W H Wt e):=⟨_,fun _ _=>rfl⟩;refine Ml (n:=m1-lo) J (fun i hh hj=>by rw[UG]at hj;exact⟨hj.2.1 _ _ fbb (by simpa using nbb),Um.mono (aG _ _ (by decide) hj.2.1)⟩) ?_ (by rw[UG];exact⟨fl,Kp.refl _ _,by rw[List.drop_eq_nil_of_le (by rw[<-Cv.len];exact Nat.le_refl _)];exact qb⟩) ?_
 ·intro j x hh zj cs hj hx hzj aF;have Jl:=hj;rw[UG]at Jl;obtain⟨hhl,mD,RR⟩:=Jl;clear hj;refine hY [.int .i64 zj,.agg cs.toArray] hh _ rfl hhl ?_;obtain⟨bx,nx,cx,rfl,qx⟩:=aF;obtain⟨xt,xo,xr⟩:=x;have qx:Sl 61 aY hh (.slice bx nx cx) xr:=qx;cbv;refine⟨hhl,?_⟩;obtain⟨h3,e3⟩:∃h3,h3=aV hh l o2:=⟨_,rfl⟩;rw[<-e3];obtain⟨T1,Lp⟩:∃T1,T1=eU T (xs.drop (j+1)):=⟨_,rfl⟩;have hT1r:iE T1:=by rw[Lp];exact oI TH _
  have hT0:eU T (xs.drop j)=iA T1 ⟨xt,xo,xr⟩:=by rw[Lp];exact AG hx
  obtain⟨T0,Lq⟩:∃T0,T0=iA T1 ⟨xt,xo,xr⟩:=⟨_,rfl⟩;have yp:h3 l=some o2:=by rw[e3];exact ah
  have xB:∀tys,cG tys hh h3:=fun tys=>by rw[e3];exact cG.oset (fun c e fr he=>by rw[hhl]at he;cases he;exact TS _ _ _ rfl)
  have fin:∀h',Kp [tb] h3 h'->iG h' c tb wb ct cw T0 W H Wt e->h' l=some o2/\J j (aV h' l o1):=fun h' k' q'=>by
   have Ji:=k' _ _ yp (by simpa using nl);rw[UG];refine⟨Ji,ah,fun b o qH HK=>?_,?_⟩
   ·by_cases uX:b=l
    ·rw[uX,fl]at qH;cases qH;rw[uX];exact ah
    ·rw[aU uX];refine k' _ _ ?_ HK;rw[e3,aU uX];exact mD _ _ qH HK
   ·rw[hT0,<-Lq];exact q'.lt (fun tys=>cG.oset (fun c e fr he=>by rw[Ji]at he;cases he;exact YC _ _ _ rfl))
  rw[<-Lp]at RR;have q3:=RR.lt xB;have qx3:=qx.mono (xB _);have f33:h3 p3=some (.cells #[.pointer (some ⟨c,0,none⟩)] 109 (0,0)):=by rw[e3,aU n3l];exact mD _ _ f3b (by simpa using n3)
  clear e3 xB RR qx Lp hT0 hY Cv Um;clear xJ;refine ay f33 rfl rfl ?_;cbv;refine yB q3 xt (fun h4 zt t l4 Bb ht=>?_);have q4:=q3.mono l4;cases t with
  |false=>
   have hU:T0=T1:=by rw[Lq];unfold iA;rw[<-ht];rfl
   have ae:=fin h4 (l4.kp _) (by rw[hU];exact q4);cbv;rw[show A .not false=true by rw[hA.not];rfl];cbv;exact ae
  |true=>
   have Tz:dm (aM T1 xt)<T1.length:=by have:=me ht.symm;simpa[aM]using this
   obtain⟨⟨⟨tn,tc,tk,to⟩,tr⟩,KX⟩:=aE Tz;have hU:T0=if decide (xo=2)=true then T1.set (dm (aM T1 xt)) (bI ⟨⟨tn,tc,tk,to⟩,tr⟩ xr).1
    else if(decide (tk>=0)&&decide (tk<(xr.length:Int)))=true then T1.set (dm (aM T1 xt)) (cu ⟨⟨tn,tc,tk,to⟩,tr⟩ (vD xr tk)).1 else T1:=by rw[Lq];unfold iA;rw[<-ht,KX];rfl
   have htr:tr.length<=2^36:=hT1r ⟨⟨tn,tc,tk,to⟩,tr⟩ (List.mem_of_getElem? KX);generalize dm (aM T1 xt)=ti at *;clear Lq ht;refine q4.elim (fun u1 u2 y3 v3 w3 y4 v4 w4 oo G0 Ho G1 G2 G3 G4 G6 G7 _=>?_);have Qd:(some (⟨tb,0,none⟩:Addr)).isSome=true/\0<=zt/\zt<(u1:Int):=⟨rfl,Bb.ix (by omega)⟩;have X0:=G2.sl G1;have f34:=l4 _ _ f33;have X6:=qx3.mono (l4.t _);cbv;rw[show A .not true=false by rw[hA.not];rfl];cbv;refine ay f34 rfl rfl ?_;cbv;rw[aj A];rw[aj A];refine ay G0 rfl rfl ?_;cbv;refine⟨Qd,?_⟩;cbv;generalize eu:A .aD .eql xo 2=u;rw[av A]at eu;cases u with
   |true=>
    rw[if_pos eu]at hU;cbv;refine xE X0 KX Bb.eq (fun d1 p1 r1 d2 p2 r2 s1 s2=>?_);cbv;have Bg:=s2.len;have Bg:p2=tr.length:=Bg;refine OD (nm:=tn) (key:=tk) (only:=to) s1 s2 X6 (by omega) (fun h5 b1 n1 k1 b2 n2 k2 T' e' l5 r1 r2 r3=>?_);have aV:(bI ⟨⟨tn,tc,tk,to⟩,tr⟩ xr).1=⟨⟨tn,tc,tk,to⟩,T'⟩:=by rw[<-r3]
    rw[aV]at hU;cbv;refine(G2.mono (l5.t _)).setAt (by decide) Tz Bb.eq rfl (x:=⟨⟨tn,tc,tk,to⟩,T'⟩) ⟨_,_,_,_,_,_,rfl,r1,r2⟩ (fun h6 k6 t6 o6=>?_);rw[<-hU]at o6;have ae:=fin h6 (((l4.trans l5).kp _).trans k6) (iG.FB (q4.mono l5) (by rw[hU];simp) k6 t6 o6 rI);cbv;exact ae
   |false=>
    rw[if_neg (by rw[eu];simp)]at hU;have Yv:=X6.len;have Yv:nx=xr.length:=Yv;generalize eg:A .aD .geq tk 0=ug;have fg:=eg;rw[bQ A]at eg;rw[eg]at hU;generalize el:A .aD .lss tk (A .nat nx)=ul;have fl2:=el;rw[bt A,hA.nat,Yv,show Int.ofNat xr.length=(xr.length:Int)from rfl]at el;rw[el]at hU;cbv;refine X0.tM KX Bb.eq (o1:=0) (o2:=2) (m:=1) (by decide) (fun cs aF=>?_);obtain⟨d1,p1,r1,d2,p2,r2,rfl,s1,s2⟩:=aF;have s1:Sl 165 bp h4 (.slice d1 p1 r1) tc:=s1;have s2:Sl 59 aN h4 (.slice d2 p2 r2) tr:=s2;have Bg:=s2.len;have Bg:p2=tr.length:=Bg;cases ug with
    |false=>have ae:=fin h4 (l4.kp _) (by rw[hU];exact q4);cbv;rw[fg];cbv;exact ae
    |true=>
     have Jk:tk>=0:=of_decide_eq_true eg;cbv;rw[fg];cbv;refine X0.tM KX Bb.eq (o1:=0) (o2:=2) (m:=1) (by decide) (fun cs aF=>?_);obtain⟨d1,p1,r1,d2,p2,r2,rfl,-,-⟩:=aF;cbv;cases ul with
     |false=>have ae:=fin h4 (l4.kp _) (by rw[hU];exact q4);cbv;rw[fl2];cbv;exact ae
     |true=>
      have mD:tk<(xr.length:Int):=of_decide_eq_true el;have hktn:tk.toNat<xr.length:=by omega
      have hkN:aO tk tk.toNat:=⟨(Int.toNat_of_nonneg Jk).symm⟩;obtain⟨⟨vk,vn,vs⟩,hv⟩:=aE hktn;have hvA:vD xr tk=⟨vk,vn,vs⟩:=by unfold vD;rw[hv];rfl
      have Li:bx.isSome=true/\0<=tk/\tk<(nx:Int):=⟨X6.bF (by omega),hkN.ix (by omega)⟩;rw[hvA]at hU;have HB:tk=((tk.toNat:Nat):Int):=hkN.eq;generalize tk.toNat=kk at *;cbv;rw[fl2];cbv;refine xE X0 KX Bb.eq (fun d1 p1 r1 d2 p2 r2 s1 s2=>?_);have Bg:=s2.len;have Bg:p2=tr.length:=Bg;cbv;refine X0.tM KX Bb.eq (o1:=0) (o2:=2) (m:=1) (by decide) (fun cs aF=>?_);obtain⟨d3,p3',r3,d4,p4',r4,rfl,-,-⟩:=aF;cbv;refine⟨Li,?_⟩;cbv;refine X6.load hv HB (fun cs aF=>?_);have aF:cs=[.int .i64 vk,.int .i64 vn,.string vs]:=aF;subst aF;cbv;refine JR (nm:=tn) (key:=tk) (only:=to) s1 s2 (by omega) ⟨vk,vn,vs⟩ (fun h5 b1 n1 k1 b2 n2 k2 b3 n3 k3 T' R' e' l5 r1 r2 r2' r3=>?_);have aV:(cu ⟨⟨tn,tc,tk,to⟩,tr⟩ ⟨vk,vn,vs⟩).1=⟨⟨tn,tc,tk,to⟩,T'⟩:=by rw[<-r3]
      have hU:T0=T1.set ti (cu ⟨⟨tn,tc,tk,to⟩,tr⟩ ⟨vk,vn,vs⟩).1:=hU;rw[aV]at hU;cbv;refine(G2.mono (l5.t _)).setAt (by decide) Tz Bb.eq rfl (x:=⟨⟨tn,tc,tk,to⟩,T'⟩) ⟨_,_,_,_,_,_,rfl,r1,r2⟩ (fun h6 k6 t6 o6=>?_);rw[<-hU]at o6;have ae:=fin h6 (((l4.trans l5).kp _).trans k6) (iG.FB (q4.mono l5) (by rw[hU];simp) k6 t6 o6 rI);cbv;exact ae
 ·intro h3 hj;rw[UG]at hj;obtain⟨yp,Aw,hq3⟩:=hj;refine⟨yp,fun o3 yj=>?_⟩;obtain⟨h4,e4⟩:∃h4,h4=aV h3 l o3:=⟨_,rfl⟩;rw[<-e4];have Yl:∀tys,cG tys h3 h4:=fun tys=>by rw[e4];exact cG.oset (fun c e fr he=>by rw[yp]at he;cases he;exact TS _ _ _ rfl)
  have q4:=hq3.lt Yl;rw[List.drop_zero,xJ]at q4;have fm4:h4 m=some (.deferred (some [])):=by rw[e4,aU PO];exact Aw _ _ fm (by simpa using nm)
  have kall:∀b o,h b=some o->b∉[tb,wb]->h4 b=some o:=fun b o qH HK=>by
   have uX:b≠l:=fun e=>by rw[e]at qH;rw[l2 _ _ (l1 _ _ qH)]at hl;cases hl
   rw[e4,aU uX];exact Aw _ _ (Np _ _ (l1 _ _ qH)) (by simp at HK |-;exact HK.1)
  refine q4.elim (fun u1 u2 y3 v3 w3 y4 v4 w4 oo G0 Ho G1 G2 G3 G4 G6 G7 _=>?_);cbv;refine xF (G4.sl G3) hw hz.eq (fun b1' O0 NV OB _ Rj=>?_);have K7:=OB.len;have K7:O0=wl.length:=K7;have HA:=yw (A:=A) n O0;rw[K7,<-elo]at HA;have HA:aO (A .mB (A .imax n 0) (A .nat O0)) lo:=by rw[K7];exact HA
  have hbd':=OB.bound.2;have Qf:0<=A .mB (A .imax n 0) (A .nat O0)/\A .mB (A .imax n 0) (A .nat O0)<=(NV:Int):=by have:=HA.eq;omega
  have RM:=OB.BU (A:=A) (i:=lo) (by omega);have jY:=dI (A:=A) HA;cbv;refine Rj _ _ (Le.refl _) ?_;cbv;refine⟨Qf,?_⟩;cbv;rw[jY];have Pz:Sl 148 fE h4 _ (wl.take lo):=RM;have Pz:Sl 148 fE h4 (.slice (A .cut b1' 0 (A .nat NV) 3) lo NV) (wl.take lo):=Pz;refine G4.FM (by decide) hw hz.eq rfl (off:=1) (by simp[bO]) (x':=(⟨ws,wl.take lo,wm⟩,false)) (fun cs aF=>?_) (fun h5 k5 t5 o5=>?_)
  ·obtain⟨x1,y1,z1,x2,y2,z2,rfl,j1,j2,j3⟩:=aF;exact⟨_,_,_,_,_,_,rfl,Pz,j2,fun hf=>by cases hf⟩
  ·have bU:∀b o,h4 b=some o->b≠wb->h5 b=some o:=fun b o ke jt=>k5 b o ke (by simpa using jt);have nmw:m≠wb:=fun e=>by
    obtain⟨cw',Uq,-⟩:=G4.out;rw[<-e,fm4]at Uq;cases Uq
   have fm5:=bU _ _ fm4 nmw;have q5:iG h5 c tb wb ct cw (eU T (wl.drop lo)) (W.set i (⟨ws,wl.take lo,wm⟩,false)) H Wt e:=by refine⟨u1,u2,y3,v3,w3,y4,v4,w4,oo,bU _ _ G0 pQ,Ho,G1,G2.mono (t5 _ (by decide)),by rw[List.length_set];exact G3,o5,G6.mono (t5 _ (by decide)),G7.mono (t5 _ (by decide))⟩
   obtain⟨h6,e6⟩:∃h6,h6=aV h5 m (.deferred none):=⟨_,rfl⟩;have q6:iG h6 c tb wb ct cw (eU T (wl.drop lo)) (W.set i (⟨ws,wl.take lo,wm⟩,false)) H Wt e:=q5.lt (fun tys=>by rw[e6];exact cG.oset (fun c e fr he=>by rw[fm5]at he;cases he));have k6:Kp [tb,wb] h h6:=fun b o qH HK=>by
    have Qi:b≠m:=fun e=>by rw[e]at qH;rw[l2 _ _ (l1 _ _ qH)]at hm;cases hm
    rw[e6,aU Qi];exact bU _ _ (kall b o qH HK) (by simp at HK;exact HK.2)
   rw[elo]at q6;have ae:=hk h6 k6 q6;rw[e6]at ae;cbv;exact⟨fm5,ae⟩
def wI(T:List cA)(W:List (dr×Bool))(s:Int):List cA:=
 if kE (dg W s)=true then match W[dm (dg W s)]? with
  |some w=>eU T w.1.log
  |none=>T
 else T
theorem yr{W:List (dr×Bool)}{i:Nat}{w w':dr×Bool}(hw:W[i]? =some w)(hs:w'.1.s=w.1.s)(s:Int):dg (W.set i w') s=dg W s:=by
 unfold dg;rw[List.map_set];apply List.ext_getElem?;intro j;rw[List.getElem?_set];split
 ·rename_i e;subst e;split
  ·rw[List.getElem?_map,hw];simp[hs]
  ·rename_i h1;have:=(List.getElem?_eq_some_iff.1 hw).1;simp at h1;omega
 ·rfl
theorem Ej{α:Type}{W:List α}{i:Nat}{x:α}:(W.set i x).eraseIdx i=W.eraseIdx i:=by exact List.eraseIdx_set_eq
theorem IP{h:ad}{c tb wb ct cw:Nat}{T:List cA}{W:List (dr×Bool)}{H Wt:List bK}{e:Int}(q:iG h c tb wb ct cw T W H Wt e)(rI:c≠tb)(pQ:c≠wb)(TH:iE T)(s:Int)(nh:H.length<=2^38)(mK:Wt.length<=2^38){k:Value->ad->Prop}
 (hk:∀h',Kp [c,tb,wb] h h'->iG h' c tb wb ct cw (wI T W s) (uv W s) (bH H s) (bH Wt s) e->k (.tuple #[]) h'):Ct 76 [.pointer (some ⟨c,0,none⟩),.int .i64 s] h k:=by
 obtain⟨A,hA⟩:=Ar.ex;obtain⟨T1,Lp⟩:∃T1,T1=wI T W s:=⟨_,rfl⟩;obtain⟨W1,YM⟩:∃W1,W1=uv W s:=⟨_,rfl⟩;rw[<-Lp,<-YM]at hk;refine lA A (ar T76.aw T76.aZ) Tryz.func76 rfl (by kernel_rfl) ?_;cbv;refine nE q s (fun h1 z t l1 hz ht=>?_);have q1:=q.mono l1;cases t with
 |false=>
  have hTT:T1=T:=by rw[Lp];unfold wI;rw[<-ht];rfl
  cbv;refine H4 q1 pQ s nh mK (fun h2 k2 q2=>?_);rw[<-YM,<-hTT]at q2;have ae:=hk h2 ((l1.kp _).trans (k2.sub (by simp))) q2;cbv;exact ae
 |true=>
  have aG:dm (dg W s)<W.length:=by have:=me ht.symm;simpa[dg]using this
  obtain⟨w,hw⟩:=aE aG;have hTT:T1=eU T w.1.log:=by rw[Lp];unfold wI;rw[<-ht,hw];rfl
  have hWW:W1=W.eraseIdx (dm (dg W s)):=by rw[YM];unfold uv;rw[<-ht];rfl
  obtain⟨i,hi⟩:∃i,i=dm (dg W s):=⟨_,rfl⟩;rw[<-hi]at hz hw hWW;clear Lp YM;cbv;refine Fo q1 rI pQ TH hz hw 0 (fun h2 k2 q2=>?_);have h0:eB 0 w.1.log.length=0:=by unfold eB;simp
  rw[h0,List.drop_zero,<-hTT]at q2;cbv;refine H4 q2 pQ s nh mK (fun h3 k3 q3=>?_);have hE:uv (W.set i (⟨w.1.s,w.1.log.take 0,w.1.marks⟩,false)) s=W1:=by unfold uv;rw[yr hw (by rfl),<-ht,<-hi,hWW];rw[if_pos rfl,Ej]
  rw[hE]at q3;have ae:=hk h3 (((l1.kp _).trans (k2.sub (by simp))).trans (k3.sub (by simp))) q3;cbv;exact ae
def Wf(ws:List dr):List (dr×Bool):=ws.map fun w=>(w,true)
def uy(ws:List dr)(s:Int):List dr:=if kE (cm ws s)=true then ws.eraseIdx (dm (cm ws s))else ws
def nB(T:List cA)(ws:List dr)(s:Int):List cA:=
 if kE (cm ws s)=true then match ws[dm (cm ws s)]? with
  |some w=>eU T w.log
  |none=>T
 else T
def j0(d:DB)(s:Int):DB:=⟨nB d.aB d.aq s,uy d.aq s,bH d.holds s,bH d.waits s⟩
def gH:Nat->DB->bK->DB×Int
 |0,d,_=>(d,16)
 |f+1,d,hd=>
  if bq d.holds hd=true then(⟨d.aB,d.aq,bR d.holds hd,cN d.holds d.waits hd⟩,0)
  else if(cZ (ch (bR d.holds hd) (cN d.holds d.waits hd)) hd.s).2=true then
   if decide ((cZ (ch (bR d.holds hd) (cN d.holds d.waits hd)) hd.s).1=hd.s)=true then(j0 ⟨d.aB,d.aq,bR d.holds hd,cN d.holds d.waits hd⟩ (cZ (ch (bR d.holds hd) (cN d.holds d.waits hd)) hd.s).1,17)
   else gH f (j0 ⟨d.aB,d.aq,bR d.holds hd,cN d.holds d.waits hd⟩ (cZ (ch (bR d.holds hd) (cN d.holds d.waits hd)) hd.s).1) hd
  else(⟨d.aB,d.aq,bR d.holds hd,cN d.holds d.waits hd⟩,16)
def ax(d:DB)(hd:bK):DB×Int:=if B7 d hd=true then gH (d.holds.length+1) d hd else(d,2)
theorem lH(ws:List dr)(s:Int):dg (Wf ws) s=cm ws s:=by simp[dg,cm,Wf]
theorem CJ(ws:List dr)(s:Int):uv (Wf ws) s=Wf (uy ws s):=by
 unfold uv uy;rw[lH];split
 ·unfold Wf;rw[List.eraseIdx_eq_take_drop_succ,List.eraseIdx_eq_take_drop_succ];simp[List.map_take,List.map_drop]
 ·rfl
theorem Ah(T:List cA)(ws:List dr)(s:Int):wI T (Wf ws) s=nB T ws s:=by
 unfold wI nB;rw[lH];split
 ·unfold Wf;rw[List.getElem?_map];cases ws[dm (cm ws s)]? <;>rfl
 ·rfl
theorem wH(E:List (Int×Int)):∀(l:List Int) (st:List Int×List Int),(∀k∈l,k∈E.map (·.2))->(∀k∈st.1,k∈E.map (·.2))->∀k∈(l.foldl fc st).1,k∈E.map (·.2)
 | [],st,_,h2=>h2
 |x::r,st,h1,h2=>by
  rw[List.foldl_cons];refine wH E r _ (fun k hk=>h1 k (List.mem_cons_of_mem _ hk)) (fun k hk=>?_);unfold fc at hk;split at hk
  ·exact h2 k hk
  ·rcases List.mem_append.1 hk with hk|hk
   ·exact h2 k hk
   ·simp at hk;rw[hk];exact h1 x (by simp)
theorem ID(E:List (Int×Int)):∀(n:Nat) (st:List Int×List Int),(∀k∈st.1,k∈E.map (·.2))->∀k∈Se E n st,k∈E.map (·.2)
 |0,st,h=>h
 |n+1,(seen,[]),h=>h
 |n+1,(seen,a::r),h=>by
  unfold Se;refine ID E n _ (wH E _ _ (fun k hk=>?_) h);unfold cD at hk;obtain⟨p,hp,rfl⟩:=List.mem_map.1 hk;exact List.mem_map.2 ⟨p,(List.mem_filter.1 hp).1,rfl⟩
theorem pz{E:List (Int×Int)}{s k:Int}(h:k∈over E s):k∈E.map (·.2):=ID E _ _ (fun _ h=>by cases h) k h
theorem oY{H W:List bK}{k:Int}(h:k∈(ch H W).map (·.2)):∃x∈H,x.s=k:=by obtain⟨p,hp,rfl⟩:=List.mem_map.1 h;unfold ch at hp;obtain⟨w,hw,hp⟩:=List.mem_flatMap.1 hp;unfold eO at hp;obtain⟨x,hx,rfl⟩:=List.mem_map.1 hp;exact⟨x,(List.mem_filter.1 hx).1,rfl⟩
theorem JE{H:List bK}{k:Int}(h:∃x∈H,x.s=k):(bH H k).length<H.length:=by
 obtain⟨x,hx,hk⟩:=h;unfold bH;rcases Nat.lt_or_ge (H.filter fun h=>decide (h.s≠k)).length H.length with h1|h1
 ·exact h1
 ·have h2:=List.length_filter_eq_length_iff.1 (Nat.le_antisymm (List.length_filter_le _ _) h1) x hx;simp[hk]at h2
theorem rm{H W:List bK}{s:Int}(h:(cZ (ch H W) s).2=true):(bH H (cZ (ch H W) s).1).length<H.length:=by
 have hv:=(lI (ch H W) s).out;rcases hv with ⟨h1,-⟩ | ⟨-,h2,-,h4,-⟩
 ·rw[h]at h1;cases h1
 ·refine JE (oY (W:=W) ?_);rcases h4 with h4| ⟨h4,-⟩
  ·rw[h4];exact pz h2
  ·exact pz h4
theorem oZ{T:List cA}(h:iE T)(ws:List dr)(s:Int):iE (nB T ws s):=by
 unfold nB;split
 ·split
  ·exact oI h _
  ·exact h
 ·exact h
theorem wJ{H W:List bK}{hd:bK}:(cN H W hd).length<=(bH W hd.s).length+1:=by unfold cN;split<;>simp
theorem vA{H W:List bK}{hd:bK}:(bH (cN H W hd) hd.s).length<=(bH W hd.s).length:=by
 have h1:bH (bH W hd.s) hd.s=bH W hd.s:=by unfold bH;rw[List.filter_filter];simp
 unfold cN;split
 ·rw[h1];exact Nat.le_refl _
 ·have:bH (bH W hd.s++[hd]) hd.s=bH W hd.s:=by
   have h2:bH (bH W hd.s++[hd]) hd.s=bH (bH W hd.s) hd.s++bH [hd] hd.s:=by unfold bH;rw[List.filter_append]
   rw[h2,h1];simp[bH]
  rw[this];exact Nat.le_refl _
theorem vz(W:List bK)(a b:Int):bH (bH W a) b=bH (bH W b) a:=by unfold bH;rw[List.filter_filter,List.filter_filter];congr 1;funext x;rw[Bool.and_comm]
theorem Cq{d:DB}{h:ad}{c tb wb ct cw:Nat}{e:Int}(q:iG h c tb wb ct cw d.aB (Wf d.aq) d.holds d.waits e)(hd:bK)(rI:c≠tb)(pQ:c≠wb)(TH:iE d.aB)
 (hH:d.holds.length<2^18) (UE:d.waits.length<2^18) {D:DB×Int} (hD:ax d hd=D) {k:Value->ad->Prop}
 (hk:∀h',Kp [c,tb,wb] h h'->iG h' c tb wb ct cw D.1.aB (Wf D.1.aq) D.1.holds D.1.waits e->k (.int .i64 D.2) h'):
 Ct 244 [.pointer (some ⟨c,0,none⟩),.int .i64 hd.s,.string hd.table,.bool hd.x] h k:=by
 obtain⟨A,hA⟩:=Ar.ex;obtain⟨hs,ht,hx⟩:=hd;obtain⟨L0,hL0⟩:∃L,L=(bH d.waits hs).length:=⟨_,rfl⟩;have hL18:L0<2^18:=by have:=lf d.waits hs;omega
 have pL:A .not true=false:=by rw[hA.not];rfl
 have tV:A .not false=true:=by rw[hA.not];rfl
 refine af A (ar Wy.aw Wy.aZ) Tryz.func244 rfl (by kernel_rfl) ?_;cbv;intro p4 h1 TP e1;cbv;intro p5 h2 hp5 e2;cbv;intro p6 h3 hp6 e3;cbv;intro p7 h4 hp7 e4;have l1:Le h h1:=by rw[e1];exact Le.set TP
 have l2:Le h1 h2:=by rw[e2];exact Le.set hp5
 have l3:Le h2 h3:=by rw[e3];exact Le.set hp6
 have l4:Le h3 h4:=by rw[e4];exact Le.set hp7
 have g4:h4 p4=some (.cells #[.pointer (some ⟨c,0,none⟩)] 109 (0,0)):=((l2.trans l3).trans l4) _ _ ((congrFun e1 p4).trans ah);have g5:h4 p5=some (.cells #[.int .i64 hs] 3 (0,0)):=(l3.trans l4) _ _ ((congrFun e2 p5).trans ah);have g6:h4 p6=some (.cells #[.string ht] 9 (0,0)):=l4 _ _ ((congrFun e3 p6).trans ah);have g7:h4 p7=some (.cells #[.bool hx] 4 (0,0)):=(congrFun e4 p7).trans ah;have rD:=((l1.trans l2).trans l3).trans l4;have q4:=q.mono rD;have js:∀p,h p=none->p∉[c,tb,wb]:=fun p hp hm=>by
  obtain⟨n1,n2,b3,n3,c3,b4,n4,c4,o,g0,-,-,g2,-,g4,-⟩:=q.out;obtain⟨x1,g2,-⟩:=g2.out;obtain⟨x2,g4,-⟩:=g4.out;simp at hm;rcases hm with rfl|rfl|rfl
  ·rw[g0]at hp;cases hp
  ·rw[g2]at hp;cases hp
  ·rw[g4]at hp;cases hp
 have n4:=js p4 TP;have n5:=js p5 (l1.none hp5);have n6:=js p6 ((l1.trans l2).none hp6);have n7:=js p7 (((l1.trans l2).trans l3).none hp7);have Gt:∀ {hh:ad} (l:Le h hh),B7 d ⟨hs,ht,hx⟩=false->k (.int .i64 2) hh:=fun{hh} l K1=>by
  have hD2:D=(d,2):=by rw[<-hD];unfold ax;rw[K1];rfl
  have:=hk hh (l.kp _) (by rw[hD2];exact q.mono l);rw[hD2]at this;exact this
 cbv;refine ay g4 rfl rfl ?_;cbv;refine ay g5 rfl rfl ?_;cbv;refine nE q4 hs (fun h5 z1 t1 l5 mC TB=>?_);rw[lH]at TB;have RE:=rD.trans l5;cases t1 with
 |false=>have ae:=Gt RE (by unfold B7;rw[<-TB];rfl);cbv;rw[tV];cbv;exact ae
 |true=>
  cbv;rw[pL];cbv;refine ay (l5 _ _ g4) rfl rfl ?_;cbv;refine ay (l5 _ _ g6) rfl rfl ?_;cbv;refine yB (q4.mono l5) ht (fun h6 z2 t2 l6 gL ht2=>?_);have Yq:=RE.trans l6;have S8:=l5.trans l6;cases t2 with
  |false=>have ae:=Gt Yq (by unfold B7;rw[<-TB,<-ht2];rfl);cbv;rw[tV];cbv;exact ae
  |true=>
   have YR:gH (d.holds.length+1) d ⟨hs,ht,hx⟩=D:=by rw[<-hD];unfold ax;rw[show B7 d ⟨hs,ht,hx⟩=true by unfold B7;rw[<-TB,<-ht2];rfl];rfl
   have q6:=q4.mono S8;have f4:=S8 _ _ g4;have f5:=S8 _ _ g5;have f6:=S8 _ _ g6;have f7:=S8 _ _ g7;clear hD Gt g4 g5 g6 g7 e1 e2 e3 e4 TB ht2;obtain⟨I,bm⟩:∃I:Nat->ad->Prop,∀m h',I m h'=∃d':DB,d'.holds.length<m/\d'.holds.length<2^18/\d'.waits.length<=2^18/\(bH d'.waits hs).length<=L0/\iE d'.aB/\gH m d' ⟨hs,ht,hx⟩=D/\Kp [c,tb,wb] h6 h'/\iG h' c tb wb ct cw d'.aB (Wf d'.aq) d'.holds d'.waits e:=⟨_,fun _ _=>rfl⟩;cbv;rw[pL];cbv;refine aX.go (G:=Unit) (fun _=>[]) (fun _=>[]) (fun n g h'=>I n h') (d.holds.length+1) () ⟨?_,?_,?_⟩ (by rw[bm];exact⟨d,by omega,hH,Nat.le_of_lt UE,by rw[hL0];exact Nat.le_refl _,TH,YR,Kp.refl _ _,q6⟩) ?_
   ·cbv
   ·cbv
   ·cbv
   ·intro m g h' hI;rw[bm]at hI;cbv;obtain⟨⟨dT,dW,dH,ma⟩,hm,ke,jt,nk,Lm,uh,Jj,hq⟩:=hI;have hq:iG h' c tb wb ct cw dT (Wf dW) dH ma e:=hq;have ke:dH.length<2^18:=ke;have jt:ma.length<=2^18:=jt;have nk:(bH ma hs).length<=L0:=nk;have hm:dH.length<m:=hm;obtain⟨f,rfl⟩:∃f,m=f+1:=⟨m-1,by omega⟩;have k4:=Jj _ _ f4 n4;have k5:=Jj _ _ f5 n5;have k6:=Jj _ _ f6 n6;have k7:=Jj _ _ f7 n7;have Cs:=Ai (H:=dH) (hd:=⟨hs,ht,hx⟩);have tX:=wJ (H:=dH) (W:=ma) (hd:=⟨hs,ht,hx⟩);have tX:(cN dH ma ⟨hs,ht,hx⟩).length<=(bH ma hs).length+1:=tX;have yp:=vA (H:=dH) (W:=ma) (hd:=⟨hs,ht,hx⟩);have yp:(bH (cN dH ma ⟨hs,ht,hx⟩) hs).length<=(bH ma hs).length:=yp;have hH0:bq dH ⟨hs,ht,hx⟩=false->bR dH ⟨hs,ht,hx⟩=dH:=fun hf=>by unfold bR;rw[hf];rfl
    have Pu:=rm (H:=bR dH ⟨hs,ht,hx⟩) (W:=cN dH ma ⟨hs,ht,hx⟩) (s:=hs);unfold gH at uh;have uh:(if bq dH ⟨hs,ht,hx⟩=true then((⟨dT,dW,bR dH ⟨hs,ht,hx⟩,cN dH ma ⟨hs,ht,hx⟩⟩,0):DB×Int)
     else if(cZ (ch (bR dH ⟨hs,ht,hx⟩) (cN dH ma ⟨hs,ht,hx⟩)) hs).2=true then
      if decide ((cZ (ch (bR dH ⟨hs,ht,hx⟩) (cN dH ma ⟨hs,ht,hx⟩)) hs).1=hs)=true then(j0 ⟨dT,dW,bR dH ⟨hs,ht,hx⟩,cN dH ma ⟨hs,ht,hx⟩⟩ (cZ (ch (bR dH ⟨hs,ht,hx⟩) (cN dH ma ⟨hs,ht,hx⟩)) hs).1,17)
      else gH f (j0 ⟨dT,dW,bR dH ⟨hs,ht,hx⟩,cN dH ma ⟨hs,ht,hx⟩⟩ (cZ (ch (bR dH ⟨hs,ht,hx⟩) (cN dH ma ⟨hs,ht,hx⟩)) hs).1) ⟨hs,ht,hx⟩
     else(⟨dT,dW,bR dH ⟨hs,ht,hx⟩,cN dH ma ⟨hs,ht,hx⟩⟩,16))=D:=uh
    refine(K0 (hd:=⟨hs,ht,hx⟩) hq k4 k5 k6 k7 (by omega) (by omega)).mono (fun v h7 hR=>?_);obtain⟨kc7,t,rfl,et,q7⟩:=hR;have k07:Kp [c,tb,wb] h h7:=((Yq.kp _).trans Jj).trans (kc7.sub (by simp));have k67:Kp [c,tb,wb] h6 h7:=Jj.trans (kc7.sub (by simp));have et':=et;rw[<-et]at uh;generalize bR dH ⟨hs,ht,hx⟩=aH at *;generalize cN dH ma ⟨hs,ht,hx⟩=aW at *;cases t with
    |true=>have uh:((⟨dT,dW,aH,aW⟩,0):DB×Int)=D:=uh;subst uh;have ae:=hk h7 k07 q7;cbv;rw[pL];cbv;exact ae
    |false=>
     have haH:=hH0 et.symm;refine q7.elim (fun u1 u2 y3 v3 w3 y4 v4 w4 oo G0 Ho G1 G2 G3 G4 Q6 Q7 _=>?_);have hq6:=Q6.len;have hq7:=Q7.len;have j4:=k67 _ _ f4 n4;have j5:=k67 _ _ f5 n5;cbv;rw[tV];cbv;refine ay j4 rfl rfl ?_;cbv;rw[aj A];rw[aj A];refine ay G0 rfl rfl ?_;cbv;refine ay j5 rfl rfl ?_;cbv;refine(C7 Q6 Q7 (by omega) (by omega) hs).mono (fun v h8 hR=>?_);obtain⟨l8,zv,tv,rfl,DY⟩:=hR;obtain⟨Pk,htv⟩:=DY.eq;rw[<-Pk,<-htv]at uh;rw[<-htv,<-Pk]at Pu;cases tv with
     |false=>have uh:((⟨dT,dW,aH,aW⟩,16):DB×Int)=D:=uh;subst uh;have ae:=hk h8 (k07.trans (l8.kp _)) (q7.mono l8);cbv;rw[tV];cbv;exact ae
     |true=>
      have Pu:=Pu rfl;have uh:(if decide (zv=hs)=true then((j0 ⟨dT,dW,aH,aW⟩ zv,17):DB×Int)else gH f (j0 ⟨dT,dW,aH,aW⟩ zv) ⟨hs,ht,hx⟩)=D:=uh;cbv;rw[pL];cbv;refine ay (l8 _ _ j4) rfl rfl ?_;cbv;refine IP (q7.mono l8) rI pQ Lm zv (by omega) (by omega) (fun h9 k9 q9=>?_);rw[Ah,CJ]at q9;have k09:=(k07.trans (l8.kp _)).trans k9;have k69:=(k67.trans (l8.kp _)).trans k9;have i5:=k69 _ _ f5 n5;obtain⟨dB,Un⟩:∃dB,dB=j0 ⟨dT,dW,aH,aW⟩ zv:=⟨_,rfl⟩;have TK:iG h9 c tb wb ct cw dB.aB (Wf dB.aq) dB.holds dB.waits e:=by rw[Un];exact q9
      rw[<-Un]at uh;generalize eu:A .aD .eql zv hs=u;have fu:=eu;rw[av A]at eu;rw[eu]at uh;cbv;refine ay i5 rfl rfl ?_;cbv;rw[fu];cases u with
      |true=>have uh:((dB,17):DB×Int)=D:=uh;subst uh;have ae:=hk h9 k09 TK;cbv;exact ae
      |false=>
       have uh:gH f dB ⟨hs,ht,hx⟩=D:=uh;have dc:I f h9:=by
        have zp:=lf aW zv;have hbH:dB.holds=bH aH zv:=by rw[Un];rfl
        have hbW:dB.waits=bH aW zv:=by rw[Un];rfl
        have hbT:iE dB.aB:=by rw[Un];exact oZ Lm _ _
        have tR:(bH (bH aW zv) hs).length<=L0:=by rw[vz];have:=lf (bH aW hs) zv;omega
        rw[bm];rw[haH]at Pu hbH;exact⟨dB,by rw[hbH];omega,by rw[hbH];omega,by rw[hbW];omega,by rw[hbW];exact tR,hbT,uh,k69,TK⟩
       cbv;refine⟨f,(),by omega,⟨?_,?_,?_⟩,dc⟩
       ·cbv
       ·cbv
       ·cbv
set_option maxHeartbeats 4000000
structure uR(n:Nat)(d:DB):Prop where
 aB:d.aB.length<=2^30
 oq:d.aq.Pairwise (fun a b=>a.s<b.s)
 qF:∀w∈d.aq,0<=w.s/\w.s<8
 rows:iE d.aB
 holds:d.holds.length<=n
 waits:d.waits.length<=n
 TJ:∀x∈d.holds,0<=x.s/\x.s<8
theorem uR.le{n m:Nat}{d:DB}(o:uR n d)(h:n<=m):uR m d:=⟨o.aB,o.oq,o.qF,o.rows,Nat.le_trans o.holds h,Nat.le_trans o.waits h,o.TJ⟩
theorem sW:∀ {l:List dr} {a:Int},l.Pairwise (fun a b=>a.s<b.s)->(∀w∈l,a<=w.s/\w.s<8)->(l.length:Int)<=max 0 (8-a)
 | [],a,_,_=>by simp;omega
 |x::r,a,hs,hr=>by
  have h1:=hr x (by simp);have aG:∀w∈r,x.s<w.s:=fun w hw=>List.rel_of_pairwise_cons hs hw;have:=sW (a:=x.s+1) (List.Pairwise.of_cons hs) (fun w hw=>⟨by have:=aG w hw;omega,(hr w (List.mem_cons_of_mem _ hw)).2⟩);simp only[List.length_cons];omega
theorem uR.wlen{n:Nat}{d:DB}(o:uR n d):d.aq.length<=8:=by have:=sW o.oq o.qF;omega
theorem uR.small{n:Nat}{d:DB}(o:uR n d)(hn:n<2^18):Small d:=by have:=o.wlen;have:=o.aB;have:=o.holds;have:=o.waits;exact⟨by omega,by omega,fun t ht=>by have:=o.rows t ht;omega,by omega,by omega⟩
theorem wrap_zero{x:Int}(h1:-2^64<x)(h2:x<2^64)(h:IntKind.i64.wrap x=0):x=0:=by have hs:IntKind.i64.signed=true:=rfl;simp only[IntKind.wrap,IntKind.bits,hs]at h;simp at h;split at h<;>omega
theorem JM(T:List cA)(x:lD):(iA T x).map (·.S)=T.map (·.S):=by
 have hp:∀t r,(bI t r).1.S=t.S:=fun t r=>by
  unfold bI;repeat' split
  all_goals rfl
 have ht:∀t k,(cu t k).1.S=t.S:=fun t k=>by
  unfold cu;split<;>rfl
 have key:∀(i:Nat) (t t':cA),T[i]? =some t->t'.S=t.S->(T.set i t').map (·.S)=T.map (·.S):=fun i t t' hi hS=>by
  rw[List.map_set,hS];apply List.ext_getElem?;intro j;rw[List.getElem?_set];split
  ·rename_i e;subst e;split
   ·rw[List.getElem?_map,hi];rfl
   ·rename_i h1;rw[List.getElem?_eq_none (by omega)]
  ·rfl
 unfold iA;split
 ·split
  ·rename_i t hi;split
   ·exact key _ _ _ hi (hp _ _)
   ·split
    ·exact key _ _ _ hi (ht _ _)
    ·rfl
  ·rfl
 ·rfl
theorem wU(T:List cA):∀l,(eU T l).map (·.S)=T.map (·.S)
 | []=>rfl
 |x::r=>(JM _ _).trans (wU T r)
theorem CX(T:List cA)(ws:List dr)(s:Int):(nB T ws s).map (·.S)=T.map (·.S):=by
 unfold nB;split
 ·split
  ·exact wU _ _
  ·rfl
 ·rfl
theorem Dc{T T':List cA}(h:T'.map (·.S)=T.map (·.S))(nm:ByteArray):aM T' nm=aM T nm:=by
 have e:∀T:List cA,aM T nm=(T.map (·.S)).map (fun s=>eG s.name nm):=fun T=>by simp[aM,Function.comp_def]
 rw[e,e,h]
theorem NZ{T T':List cA}(h:T'.map (·.S)=T.map (·.S)):T'.length=T.length:=by have:=congrArg List.length h;simpa using this
theorem NW(l:List Int)(p:Nat)(hp:p<l.length)(h0:l.getD p 0=0)(aG:∀i,i<p->l.getD i 0<0)(hgt:∀i,p<i->i<l.length->l.getD i 0>0):dm l=p/\kE l=true:=by
 have h1:dm l=p:=yb l p aG 0 l.length (fun k h1 h2=>by
  rcases Nat.lt_or_ge p k with h3|h3
  ·have:=hgt k h3 h2;omega
  ·have:k=p:=by omega
   rw[this,h0];omega) (Nat.zero_le _) (Nat.le_of_lt hp)
 exact⟨h1,by unfold kE;rw[h1];exact decide_eq_true ⟨hp,h0⟩⟩
theorem sK{ws:List dr}{s:Int}{i:Nat}{w:dr}(h:ws[i]? =some w):(cm ws s).getD i 0=IntKind.i64.wrap (w.s-s):=by rw[List.getD_eq_getElem?_getD];unfold cm;rw[List.getElem?_map,h];rfl
theorem JG{ws:List dr}(hs:ws.Pairwise (fun a b=>a.s<b.s))(hr:∀w∈ws,0<=w.s/\w.s<8){i:Nat}{w:dr}(hi:ws[i]? =some w):dm (cm ws w.s)=i/\kE (cm ws w.s)=true:=by
 have jG:=(List.getElem?_eq_some_iff.1 hi).1;have hw:=hr w (List.mem_of_getElem? hi);have hl:(cm ws w.s).length=ws.length:=by simp[cm]
 have get:∀j,j<ws.length->∃x,ws[j]? =some x/\(cm ws w.s).getD j 0=x.s-w.s/\(j<i->x.s<w.s)/\(i<j->w.s<x.s):=fun j hj=>by
  obtain⟨x,hx⟩:=aE hj;have Yv:=hr x (List.mem_of_getElem? hx);refine⟨x,hx,?_,fun h=>?_,fun h=>?_⟩
  ·rw[sK hx,IntWalk.i64_in _ (by omega)]
  ·have:=List.pairwise_iff_getElem.1 hs j i hj jG h;rw[(List.getElem?_eq_some_iff.1 hx).2,(List.getElem?_eq_some_iff.1 hi).2]at this;exact this
  ·have:=List.pairwise_iff_getElem.1 hs i j jG hj h;rw[(List.getElem?_eq_some_iff.1 hx).2,(List.getElem?_eq_some_iff.1 hi).2]at this;exact this
 refine NW _ i (by rw[hl];exact jG) ?_ (fun j hj=>?_) (fun j hj Jl=>?_)
 ·obtain⟨x,hx,h1,-,-⟩:=get i jG;rw[hi]at hx;cases hx;rw[h1];omega
 ·obtain⟨x,hx,h1,h2,-⟩:=get j (by omega);have:=h2 hj;rw[h1];omega
 ·obtain⟨x,hx,h1,-,h2⟩:=get j (by rw[<-hl];exact Jl);have:=h2 hj;rw[h1];omega
theorem sq{ws:List dr}(hr:∀w∈ws,0<=w.s/\w.s<8){s:Int}(nN:-2^63<=s/\s<2^63)(h:kE (cm ws s)=true):∃w,ws[dm (cm ws s)]? =some w/\w.s=s:=by
 have h':=of_decide_eq_true h;obtain⟨h1,h2⟩:=h';have hl:dm (cm ws s)<ws.length:=by simpa[cm]using h1
 obtain⟨w,hw⟩:=aE hl;have RJ:=hr w (List.mem_of_getElem? hw);rw[sK hw]at h2;have:=wrap_zero (by omega) (by omega) h2;exact⟨w,hw,by omega⟩
theorem lj{ws:List dr}(hs:ws.Pairwise (fun a b=>a.s<b.s))(hr:∀w∈ws,0<=w.s/\w.s<8){s:Int}(nN:-2^63<=s/\s<2^63):kE (cm ws s)=true↔∃w∈ws,w.s=s:=by
 constructor
 ·intro h;obtain⟨w,hw,he⟩:=sq hr nN h;exact⟨w,List.mem_of_getElem? hw,he⟩
 ·rintro⟨w,hw,rfl⟩;obtain⟨i,hi,he⟩:=List.getElem_of_mem hw;exact(JG hs hr (i:=i) (by rw[List.getElem?_eq_getElem hi,he])).2
theorem ux(ws:List dr)(s:Int):(uy ws s).Sublist ws:=by
 unfold uy;split
 ·exact List.eraseIdx_sublist _ _
 ·exact List.Sublist.refl _
theorem Ek{ws:List dr}(hs:ws.Pairwise (fun a b=>a.s<b.s))(hr:∀w∈ws,0<=w.s/\w.s<8){v:Int}(hv:-2^63<=v/\v<2^63){w:dr}(hw:w∈ws)(bU:w.s≠v):w∈uy ws v:=by
 unfold uy;split
 ·rename_i h;obtain⟨x,hx,he⟩:=sq hr hv h;obtain⟨j,hj,P1⟩:=List.getElem_of_mem hw;rw[List.mem_eraseIdx_iff_getElem];refine⟨j,hj,fun e=>?_,P1⟩;rw[<-e,List.getElem?_eq_getElem hj,P1]at hx;cases hx;exact bU he
 ·exact hw
theorem Fe{H W:List bK}{s:Int}(h:(cZ (ch H W) s).2=true):∃x∈H,x.s=(cZ (ch H W) s).1:=by
 have hv:=(lI (ch H W) s).out;rcases hv with ⟨h1,-⟩ | ⟨-,h2,-,h4,-⟩
 ·rw[h]at h1;cases h1
 ·refine oY (W:=W) ?_;rcases h4 with h4| ⟨h4,-⟩
  ·rw[h4];exact pz h2
  ·exact pz h4
structure I6(n:Nat)(d:DB)(hd:bK)(D:DB×Int):Prop where
 S:D.1.aB.map (·.S)=d.aB.map (·.S)
 ok:uR (n+1) D.1
 own:D.2=0->∀w∈d.aq,w.s=hd.s->w∈D.1.aq
 sub:D.1.aq.Sublist d.aq
def Rp(d:DB):Prop:=∀x∈d.holds,0<=x.s/\x.s<8
theorem uM{H:List bK}{hd:bK}(h:∀x∈H,0<=x.s/\x.s<8)(hs:0<=hd.s/\hd.s<8):∀x∈bR H hd,0<=x.s/\x.s<8:=fun x hx=>by
 unfold bR at hx;repeat' split at hx
 ·exact h x hx
 ·rcases List.mem_or_eq_of_mem_set hx with h1|h1
  ·exact h x h1
  ·rw[h1];exact hs
 ·rcases List.mem_append.1 hx with h1|h1
  ·exact h x h1
  ·simp at h1;rw[h1];exact hs
 ·exact h x hx
theorem zx(n:Nat)(hd:bK)(hs:0<=hd.s/\hd.s<8):∀(f:Nat) (d:DB),d.holds.length<f->d.aB.length<=2^30->d.aq.Pairwise (fun a b=>a.s<b.s)->(∀w∈d.aq,0<=w.s/\w.s<8)->iE d.aB->d.holds.length<=n->(bH d.waits hd.s).length<=n->Rp d->
 I6 n d hd (gH f d hd)
 |0,d,hf,_,_,_,_,_,_,_=>by omega
 |f+1,d,hf,h1,h2,h3,h4,h5,h6,h7=>by
  have l1:=Ai (H:=d.holds) (hd:=hd);have l2:=wJ (H:=d.holds) (W:=d.waits) (hd:=hd);have l3:=vA (H:=d.holds) (W:=d.waits) (hd:=hd);unfold gH;by_cases ub:bq d.holds hd=true
  ·rw[if_pos ub];exact⟨rfl,⟨h1,h2,h3,h4,by show(bR _ _).length<=_;omega,by show(cN _ _ _).length<=_;omega,uM h7 hs⟩,fun _ w hw _=>hw,List.Sublist.refl _⟩
  ·rw[if_neg ub];have hH:bR d.holds hd=d.holds:=by unfold bR;rw[if_neg ub]
   by_cases DY:(cZ (ch (bR d.holds hd) (cN d.holds d.waits hd)) hd.s).2=true
   ·rw[if_pos DY];have Tw:=Fe DY;have Pu:=rm DY;have hvr:-2^63<=(cZ (ch (bR d.holds hd) (cN d.holds d.waits hd)) hd.s).1/\(cZ (ch (bR d.holds hd) (cN d.holds d.waits hd)) hd.s).1<2^63:=by obtain⟨x,hx,he⟩:=Tw;rw[hH]at hx;rw[<-he];have:=h7 x hx;omega
    generalize (cZ (ch (bR d.holds hd) (cN d.holds d.waits hd)) hd.s).1=v at *;have M9:=lf (cN d.holds d.waits hd) v;have tR:(bH (bH (cN d.holds d.waits hd) v) hd.s).length<=n:=by rw[vz];have:=lf (bH (cN d.holds d.waits hd) hd.s) v;omega
    have YK:(j0 ⟨d.aB,d.aq,bR d.holds hd,cN d.holds d.waits hd⟩ v).aB.map (·.S)=d.aB.map (·.S):=CX _ _ _;have uX:(j0 ⟨d.aB,d.aq,bR d.holds hd,cN d.holds d.waits hd⟩ v).holds.length<d.holds.length:=by show(bH (bR d.holds hd) v).length<_;rw[hH]at Pu |-;exact Pu
    have cW:(j0 ⟨d.aB,d.aq,bR d.holds hd,cN d.holds d.waits hd⟩ v).aq.Sublist d.aq:=ux _ _;by_cases Pt:v=hd.s
    ·rw[if_pos (decide_eq_true Pt)];exact⟨YK,⟨by rw[NZ YK];exact h1,h2.sublist cW,fun w hw=>h3 w (cW.subset hw),oZ h4 _ _,Nat.le_trans (Nat.le_of_lt uX) (by omega),Nat.le_trans M9 (by omega),fun x hx=>uM h7 hs x (List.mem_filter.1 hx).1⟩,(fun e=>by cases e),cW⟩
    ·rw[if_neg (by simpa using Pt)];have ih:=zx n hd hs f (j0 ⟨d.aB,d.aq,bR d.holds hd,cN d.holds d.waits hd⟩ v) (by omega) (by rw[NZ YK];exact h1) (h2.sublist cW) (fun w hw=>h3 w (cW.subset hw)) (oZ h4 _ _) (by omega) tR
      (fun x hx=>h7 x (by
       have hx:x∈bH (bR d.holds hd) v:=hx;rw[hH]at hx;exact(List.mem_filter.1 hx).1))
     refine⟨ih.S.trans YK,ih.ok,fun e w hw mw=>ih.own e w ?_ mw,ih.sub.trans cW⟩;exact Ek h2 h3 hvr hw (by rw[mw];exact fun e=>Pt e.symm)
   ·rw[if_neg DY];exact⟨rfl,⟨h1,h2,h3,h4,by show(bR _ _).length<=_;omega,by show(cN _ _ _).length<=_;omega,uM h7 hs⟩,fun _ w hw _=>hw,List.Sublist.refl _⟩
theorem pK{n:Nat}{d:DB}(o:uR n d)(hd:bK)(hs:-2^63<=hd.s/\hd.s<2^63):I6 n d hd (ax d hd):=by
 unfold ax;by_cases Au:B7 d hd=true
 ·rw[if_pos Au];unfold B7 at Au;rw[Bool.and_eq_true]at Au;obtain⟨w,hw,he⟩:=(lj o.oq o.qF hs).1 Au.1;have:=o.qF w hw;exact zx n hd (by omega) _ d (by omega) o.aB o.oq o.qF o.rows o.holds (Nat.le_trans (lf _ _) o.waits) o.TJ
 ·rw[if_neg Au];exact⟨rfl,o.le (by omega),(fun e=>by cases e),List.Sublist.refl _⟩
theorem zy{n:Nat}{d:DB}(o:uR n d){hd:bK}(hs:-2^63<=hd.s/\hd.s<2^63)(h0:(ax d hd).2=0):
 kE (aM (ax d hd).1.aB hd.table)=true/\kE (cm (ax d hd).1.aq hd.s)=true:=by
 have hk:=pK o hd hs;have Au:B7 d hd=true:=by
  cases h:B7 d hd with
  |true=>rfl
  |false=>unfold ax at h0;rw[h]at h0;cases h0
 unfold B7 at Au;rw[Bool.and_eq_true]at Au;refine⟨by rw[Dc hk.S];exact Au.2,?_⟩;obtain⟨w,hw,he⟩:=(lj o.oq o.qF hs).1 Au.1;exact(lj hk.ok.oq hk.ok.qF hs).2 ⟨w,hk.own h0 w hw he,he⟩
end Go.S
