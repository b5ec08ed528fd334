import Derived.Test.YtekoaiendgjkdaaGreatQB
import Derived.Test.YtekoaiendgjkdaaGreatRd
import Derived.Test.YtekoaiendgjkdaaGreatSxC
set_option linter.unusedVariables false
set_option linter.unusedSimpArgs false
set_option linter.unusedSectionVars false
set_option maxRecDepth 100000
set_option maxHeartbeats 8000000
namespace Go.S
open Go.Sx Go.Proofs
def Bx{α:Type}(e:Nat)(s:Sh α)(B h:ad)(nb:Option Nat)(v:Value)(xs:List α):Prop:=
 (nb=none/\v=.slice none 0 0/\xs=[])\/∃j cap,nb=some j/\v=.slice (some ⟨j,0,none⟩) xs.length cap/\B j=none/\dI e s h j cap xs
theorem Bx.sl{α:Type}{e:Nat}{s:Sh α}{B h:ad}{nb:Option Nat}{v:Value}{xs:List α}(q:Bx e s B h nb v xs):Sl e s h v xs:=by
 rcases q with ⟨_,rfl,rfl⟩ | ⟨j,cap,_,rfl,_,o⟩
 ·exact Sl.nil
 ·exact o.sl rfl
theorem Bx.buf{α:Type}{e:Nat}{s:Sh α}{B h:ad}{nb:Option Nat}{v:Value}{xs:List α}(q:Bx e s B h nb v xs):cX e s B h v xs:=by
 rcases q with ⟨_,rfl,rfl⟩ | ⟨j,cap,_,rfl,hb,o⟩
 ·exact cX.nil
 ·exact o.buf hb rfl
theorem Bx.mono{α:Type}{e:Nat}{s:Sh α}{B h h':ad}{nb:Option Nat}{v:Value}{xs:List α}(q:Bx e s B h nb v xs)(l:cF (e::s.tys) h h'):Bx e s B h' nb v xs:=by
 rcases q with ⟨h1,h2,h3⟩ | ⟨j,cap,h1,h2,h3,o⟩
 ·exact .inl ⟨h1,h2,h3⟩
 ·exact .inr ⟨j,cap,h1,h2,h3,o.mono l⟩
theorem Bx.has{α:Type}{e:Nat}{s:Sh α}{B h:ad}{j:Nat}{v:Value}{xs:List α}(q:Bx e s B h (some j) v xs):∃c fr,h j=some (.cells c e fr):=by
 rcases q with ⟨h1,-⟩ | ⟨j',cap,h1,-,-,o⟩
 ·cases h1
 ·cases h1;obtain⟨c,g,-⟩:=o.out;exact⟨_,_,g⟩
theorem Bx.kp{α:Type}{e:Nat}{s:Sh α}{B h h':ad}{nb:Option Nat}{v:Value}{xs:List α}(q:Bx e s B h nb v xs){bs:List Nat}(k:Kp bs h h')(hn:∀j,nb=some j->j∉bs)(ht:cF s.tys h h'):Bx e s B h' nb v xs:=by
 rcases q with ⟨h1,h2,h3⟩ | ⟨j,cap,h1,h2,h3,o⟩
 ·exact .inl ⟨h1,h2,h3⟩
 ·exact .inr ⟨j,cap,h1,h2,h3,o.kp k (hn j h1) ht⟩
theorem Bx.app{α:Type}{e:Nat}{s:Sh α}{B h:ad}{nb:Option Nat}{b x:Option Addr}{len cap cx:Nat}{xs:List α}{y:α}(q:Bx e s B h nb (.slice b len cap) xs)(qv:Sl e s h (.slice x 1 cx) [y])(he:e∉s.tys){size bytes:Nat}(kf:size=s.n)(pE:bytes<=128)(hn:len+1<=2^39)(vQ:Le B h)
 {k:Value->ad->Prop} (hk:∀j m c' h',Le B h'->Kp nb.toList h h'->cF s.tys h h'->(nb=some j\/h j=none)->Bx e s B h' (some j) (.slice (some ⟨j,0,none⟩) m c') (xs++[y])->k (.slice (some ⟨j,0,none⟩) m c') h'):
 gD h b len cap x 1 size bytes e k:=by
 have hlen:=q.sl.len;refine q.buf.Qh qv he kf pE hn vQ (fun m b' c' h' em l Kk hb nj=>?_);have sA:∀j,b=some ⟨j,0,none⟩->nb=some j:=fun j hj=>by
  rcases q with ⟨_,h2,_⟩ | ⟨j',eV,h1,h2,_,_⟩
  ·cases h2;cases hj
  ·cases h2;cases hj;exact h1
 obtain⟨j,e1,e2,e3,o⟩:=hb.own (by omega);subst e1;have kp:Kp nb.toList h h':=fun i o' hi eW=>Kk i o' hi (fun e=>eW (by rw[sA i e];simp));have lt:cF s.tys h h':=fun i d e' fr hm hi=>Kk i _ hi (fun e1=>by
  have:=sA i e1;subst this;obtain⟨c,Iz,g⟩:=q.has;rw[g]at hi;cases hi;exact he hm)
 refine hk j m c' h' l kp lt ?_ (.inr ⟨j,c',rfl,by rw[<-e3],e2,o⟩);rcases nj j rfl with h1|h1|h1
 ·exact .inl (sA j h1)
 ·exact .inr h1
 ·omega
def blkL:Value->List Nat
 | .slice (some a) _ _=>[a.block]
 |_=>[]
theorem Bx.kY{α:Type}{e:Nat}{s:Sh α}{B h:ad}{nb:Option Nat}{v:Value}{xs:List α}(q:Bx e s B h nb v xs):blkL v=nb.toList:=by rcases q with ⟨rfl,rfl,_⟩ | ⟨j,cap,rfl,rfl,_,_⟩<;>rfl
structure TwoB{α:Type}(e:Nat)(s:Sh α)(B h:ad)(v1:Value)(xs:List α)(v2:Value)(ys:List α):Prop where
 out:∃o1 o2,Bx e s B h o1 v1 xs/\Bx e s B h o2 v2 ys/\∀j,o1=some j->o2≠some j
theorem TwoB.symm{α:Type}{e:Nat}{s:Sh α}{B h:ad}{v1 v2:Value}{xs ys:List α}(q:TwoB e s B h v1 xs v2 ys):TwoB e s B h v2 ys v1 xs:=by obtain⟨o1,o2,h1,h2,h3⟩:=q.out;exact⟨o2,o1,h2,h1,fun j e1 e2=>h3 j e2 e1⟩
theorem TwoB.mono{α:Type}{e:Nat}{s:Sh α}{B h h':ad}{v1 v2:Value}{xs ys:List α}(q:TwoB e s B h v1 xs v2 ys)(l:cF (e::s.tys) h h'):TwoB e s B h' v1 xs v2 ys:=by obtain⟨o1,o2,h1,h2,h3⟩:=q.out;exact⟨o1,o2,h1.mono l,h2.mono l,h3⟩
theorem TwoB.has{α:Type}{e:Nat}{s:Sh α}{B h:ad}{v1 v2:Value}{xs ys:List α}(q:TwoB e s B h v1 xs v2 ys){j:Nat}(hj:j∈blkL v1):∃c fr,h j=some (.cells c e fr):=by
 obtain⟨o1,o2,h1,h2,h3⟩:=q.out;rw[h1.kY]at hj;cases o1 with
 |none=>cases hj
 |some i=>
  have:j=i:=by simpa using hj
  subst this;exact h1.has
theorem TwoB.app1{α:Type}{e:Nat}{s:Sh α}{B h:ad}{b x:Option Addr}{len cap cx:Nat}{v2:Value}{xs ys:List α}{y:α}(q:TwoB e s B h (.slice b len cap) xs v2 ys)(qv:Sl e s h (.slice x 1 cx) [y])(he:e∉s.tys){size bytes:Nat}(kf:size=s.n)(pE:bytes<=128)(hn:len+1<=2^39)(vQ:Le B h)
 {k:Value->ad->Prop} (hk:∀j m c' h',Le B h'->Kp (blkL (.slice b len cap)) h h'->cF s.tys h h'->TwoB e s B h' (.slice (some ⟨j,0,none⟩) m c') (xs++[y]) v2 ys->k (.slice (some ⟨j,0,none⟩) m c') h'):
 gD h b len cap x 1 size bytes e k:=by
 obtain⟨o1,o2,h1,h2,h3⟩:=q.out;refine h1.app qv he kf pE hn vQ (fun j m c' h' l kp lt hj hb=>?_);refine hk j m c' h' l (by rw[h1.kY];exact kp) lt ⟨some j,o2,hb,h2.kp kp (fun i hi hm=>?_) lt,fun i e1 e2=>?_⟩
 ·have:o1=some i:=by
   cases o1 with
   |none=>cases hm
   |some a=>have:i=a:=by simpa using hm
            rw[this]
  exact h3 i this hi
 ·cases e1;rcases hj with hj|hj
  ·exact h3 j hj e2
  ·subst e2;obtain⟨c,fr,g⟩:=h2.has;rw[g]at hj;cases hj
theorem not_blk{α:Type}{e e':Nat}{s:Sh α}{B h:ad}{v1 v2:Value}{xs ys:List α}(q:TwoB e s B h v1 xs v2 ys){n:Nat}{c:Array Value}{fr:Nat×Nat}(g:h n=some (.cells c e' fr))(bW:e'≠e):n∉blkL v1:=fun hm=>by
 obtain⟨c',Iz,g'⟩:=q.has hm;rw[g]at g';cases g';exact bW rfl
theorem not_blkN{α:Type}{e:Nat}{s:Sh α}{B h:ad}{v1 v2:Value}{xs ys:List α}(q:TwoB e s B h v1 xs v2 ys){n:Nat}(g:h n=none):n∉blkL v1:=fun hm=>by
 obtain⟨c',Iz,g'⟩:=q.has hm;rw[g]at g';cases g'
def chStep(w:List Nd)(cols:List bT)(f:Row->Row×Int)(r:Row)(xs ys:List Row):(List Row×List Row)×Int:=match dL w cols r with
 | (is,e)=>if e≠0 then((xs,ys),e)else if is=false then((xs,ys),0)else((xs++[r],ys++[(f r).1]),(f r).2)
structure CSt(B h:ad)(rp fp:Nat)(xs ys:List Row):Prop where
 out:∃b1 n1 c1 b2 n2 c2,h rp=some (.cells #[.slice b1 n1 c1] 34 (0,0))/\h fp=some (.cells #[.slice b2 n2 c2] 34 (0,0))/\TwoB 59 aL B h (.slice b1 n1 c1) xs (.slice b2 n2 c2) ys
 le:Le B h
 n1:B rp=none
 n2:B fp=none
 ne:rp≠fp
theorem CSt.mono{B h h':ad}{rp fp:Nat}{xs ys:List Row}(q:CSt B h rp fp xs ys)(l:Le h h'):CSt B h' rp fp xs ys:=by obtain⟨b1,n1,c1,b2,n2,c2,g1,g2,tw⟩:=q.out;exact⟨⟨b1,n1,c1,b2,n2,c2,l _ _ g1,l _ _ g2,tw.mono (l.t _)⟩,q.le.trans l,q.n1,q.n2,q.ne⟩
theorem sl_keep{α:Type}{e:Nat}{s:Sh α}{h h':ad}{t n c:Nat}{xs:List α}(q:Sl e s h (.slice (some ⟨t,0,none⟩) n c) xs){bs:List Nat}(k:Kp bs h h')(ht:t∉bs)(lt:cF s.tys h h'):Sl e s h' (.slice (some ⟨t,0,none⟩) n c) xs:=by
 obtain⟨b,cap,h1,h2,h3,h4⟩:=q.out;cases h1;refine⟨some ⟨t,0,none⟩,c,rfl,h2,h3,?_⟩;rcases h4 with h4| ⟨kY,off,cc,fr,e1,g,r⟩
 ·exact .inl h4
 ·cases e1;exact .inr ⟨t,0,cc,fr,rfl,k _ _ g ht,r.mono lt⟩
theorem chosen1U{p0 p1 p2:Value}{B h:ad}{rp fp:Nat}{xs ys:List Row}(qc:CSt B h rp fp xs ys)(DP:xs.length<=2^37)(hyl:ys.length<=2^37){pb:Nat}{d:DB}{s:Int}{st:az}(q:dS B pb d s st)(hx:eG st){wb cp ei:Nat}(gw:B wb=some (.cells #[.pointer (some ⟨pb,0,none⟩)] 99 (0,0)))
 {cols:List bT} (hc:∀c∈cols,Nm c.name) {cb:Option Addr} {cn cc:Nat} (gc:B cp=some (.cells #[.slice cb cn cc] 38 (0,0))) (EX:Sl 165 bt B (.slice cb cn cc) cols) (gt:B ei=some (.cells #[.func (.func 89) #[] #[p0,p1,p2]] 180 (0,0)))
 {r:Row} (hr:∀v∈r,lj v) {rb:Option Addr} {rn rc:Nat} (qr:Sl 61 bq h (.slice rb rn rc) r) {f:Row->Row×Int}
 (then_:∀h',Le B h'->Sl 61 bq h' (.slice rb rn rc) r->Ct 89 [.slice rb rn rc,p0,p1,p2] h' (fun v me=>∃b n c,v=.tuple #[.slice b n c,.int .i64 (f r).2]/\Le h' me/\Sl 61 bq me (.slice b n c) (f r).1))
 {D:(List Row×List Row)×Int} (hD:D=chStep st.bM cols f r xs ys) {k:Value->ad->Prop}
 (hk:∀h',CSt B h' rp fp D.1.1 D.1.2->k (.int .i64 D.2) h'):
 Ct 170 [.slice rb rn rc,.pointer (some ⟨wb,0,none⟩),.pointer (some ⟨cp,0,none⟩),.pointer (some ⟨ei,0,none⟩),.pointer (some ⟨rp,0,none⟩),.pointer (some ⟨fp,0,none⟩)] h k:=by
 obtain⟨A,hA⟩:=Ar.ex;replace hD:D=match dL st.bM cols r with
  | (is,e)=>if e≠0 then((xs,ys),e)else if is=false then((xs,ys),0)else((xs++[r],ys++[(f r).1]),(f r).2):=hD
 have l0:=qc.le;have gw0:=l0 _ _ gw;have gc0:=l0 _ _ gc;have gt0:=l0 _ _ gt;refine(q.mono l0).elim (fun WM Tp WC WJ To WA WI Tn Wy WH Tm Wx Nr MK Nn Nq MJ Nl Np MI Nk Ml E2 FP No MH Nj xJ xu xI g qd q1 q2 q3 q4 q5 q6=>?_);clear q1 q2 q3 q4 q5 qd;refine ah A (ar T170.aA T170.bm) Tryz.func170 rfl (by kernel_rfl) ?_;cbv;refine av gw0 rfl rfl ?_;cbv;first|rw[ai A,ai A] |rw[ai A] |skip
 refine av g rfl rfl ?_;cbv;refine av gc0 rfl rfl ?_;cbv;refine KT hx.bM hc hr q6 (EX.mono (l0.t _)) qr (fun h1 t e l1 ht=>?_);rw[<-ht]at hD;replace hD:D=if e≠0 then((xs,ys),e)else if t=false then((xs,ys),0)else((xs++[r],ys++[(f r).1]),(f r).2):=hD
 have fe:A .aG .neq e 0=decide (e≠0):=aB A ..;have uh:A .not t= !t:=by rw[hA.not]
 by_cases h0:e≠0
 ·rw[if_pos h0]at hD;subst hD;have ae:=hk h1 (qc.mono l1);clear hk then_;cbv;rw[fe,decide_eq_true h0];cbv;exact ae
 rw[if_neg h0]at hD;have e0:e=0:=Decidable.not_not.1 h0;subst e0;cases t with
 |false=>rw[if_pos rfl]at hD;subst hD;have ae:=hk h1 (qc.mono l1);clear hk then_;cbv;rw[fe,decide_eq_false h0];cbv;rw[uh];cbv;exact ae
 |true=>
  rw[if_neg (by simp)]at hD;subst hD;have VJ:=l1 _ _ gt0;have jk:=then_ h1 (l0.trans l1) (qr.mono (l1.t _));have qc1:=qc.mono l1;have qr1:=qr.mono (l1.t _);clear then_ gc0 gw0 gt0 g q6;generalize f r=fr at *;obtain⟨nr,ne⟩:=fr;replace hk:∀h',CSt B h' rp fp (xs++[r]) (ys++[nr])->k (.int .i64 ne) h':=hk;cbv;rw[fe,decide_eq_false h0];cbv;rw[uh];cbv;refine av VJ rfl rfl ?_;cbv;refine jk.mono (fun v hs hR=>?_);obtain⟨nb,nn,nc,hv,ls,qn⟩:=hR;subst hv;have qcs:=qc1.mono ls;have qr:=qr1.mono (ls.t _);have lB:=qcs.le;have hno1:=qcs.n1;have hno2:=qcs.n2;have bW:=qcs.ne;clear jk qc1 qr1 VJ;obtain⟨b1,n1,c1,b2,n2,c2,g1,g2,tw⟩:=qcs.out;have ll:n1+1<=2^39:=by
   have h1:n1=xs.length:=by obtain⟨o1,o2,h1,h2,h3⟩:=tw.out;exact h1.sl.len
   omega
  have jS:n2+1<=2^39:=by
   have h1:n2=ys.length:=by obtain⟨o1,o2,h1,h2,h3⟩:=tw.out;exact h2.sl.len
   omega
  clear qcs qc;cbv;refine av g1 rfl rfl ?_;cbv;refine av g2 rfl rfl ?_;cbv;refine⟨?_,?_⟩
  ·skip;intro t2 ha f2 e2;have lha:Le hs ha:=by rw[e2];exact Le.set f2
   have v2:Sl 59 aL ha (.slice (some ⟨t2,0,none⟩) 1 1) [r]:=bU (s:=aL) ((congrFun e2 t2).trans af) ⟨_,rfl,qr.mono (lha.t _)⟩;have g1:=lha _ _ g1;have g2:=lha _ _ g2;have nt1:t2∉blkL (.slice b1 n1 c1):=not_blkN tw f2;have nt2:=not_blkN tw.symm f2;have lB:=lB.trans lha;have qn:=qn.mono (lha.t _);have tw:=tw.mono (lha.t _);clear e2;cbv;refine av g2 rfl rfl ?_;cbv;refine⟨⟨_,rfl,rfl⟩,?_⟩;cbv;refine av g1 rfl rfl ?_;cbv;refine⟨⟨_,rfl,rfl⟩,?_⟩;cbv;refine⟨?_,?_⟩
   ·skip;refine tw.app1 v2 (by decide) rfl (by decide) ll lB (fun j1 m1 k1 hb lB kp lt tw'=>?_);have Iy:=kp _ _ g1 (not_blk tw g1 (by decide));have Ix:=kp _ _ g2 (not_blk tw g2 (by decide));have qn:=qn.mono (lt.sub (by decide));cbv;refine av Ix rfl rfl ?_;cbv;refine⟨⟨_,rfl,rfl⟩,?_⟩;cbv;intro t6 hc f6 e6;have lhc:Le hb hc:=by rw[e6];exact Le.set f6
    have v6:Sl 59 aL hc (.slice (some ⟨t6,0,none⟩) 1 1) [nr]:=bU (s:=aL) ((congrFun e6 t6).trans af) ⟨_,rfl,qn.mono (lhc.t _)⟩;have Iy:=lhc _ _ Iy;have Ix:=lhc _ _ Ix;have lB:=lB.trans lhc;have tw':=tw'.mono (lhc.t _);clear e6;cbv;refine av Ix rfl rfl ?_;cbv;refine⟨⟨_,rfl,rfl⟩,?_⟩;cbv;refine tw'.symm.app1 v6 (by decide) rfl (by decide) jS lB (fun j2 m2 k2 h7 lB MN Xe tw7=>?_);have g1:=MN _ _ Iy (not_blk tw'.symm Iy (by decide));have g2:=MN _ _ Ix (not_blk tw'.symm Ix (by decide));cbv;refine jz g1 (by simp) (fun h8 e8=>?_);have lt8:cF [59,61] h7 h8:=by rw[e8];exact cF.set g1 (by decide)
    have g1:h8 rp=some (.cells #[.slice (some ⟨j1,0,none⟩) m1 k1] 34 (0,0)):=by rw[e8];exact af
    have g2:h8 fp=some (.cells #[.slice b2 n2 c2] 34 (0,0)):=by rw[e8,aP (Ne.symm bW)];exact g2
    have lB8:Le B h8:=fun b o hb=>by rw[e8,aP (fun e=>by rw[e,hno1]at hb;cases hb)];exact lB _ _ hb
    have tw8:=tw7.mono lt8;clear e8 lt8;cbv;refine jz g2 (by simp) (fun h9 e9=>?_);have Bz:cF [59,61] h8 h9:=by rw[e9];exact cF.set g2 (by decide)
    have ae:=hk h9 ⟨⟨_,_,_,_,_,_,(by rw[e9,aP bW];exact g1),(by rw[e9];exact af),(tw8.mono Bz).symm⟩,(fun b o hb=>by rw[e9,aP (fun e=>by rw[e,hno2]at hb;cases hb)];exact lB8 _ _ hb),hno1,hno2,bW⟩;clear hk e9 Bz;cbv;exact ae
   ·skip;intro t6 hb f6 e6;have lhb:Le ha hb:=by rw[e6];exact Le.set f6
    have v6:Sl 59 aL hb (.slice (some ⟨t6,0,none⟩) 1 1) [nr]:=bU (s:=aL) ((congrFun e6 t6).trans af) ⟨_,rfl,qn.mono (lhb.t _)⟩;have g1:=lhb _ _ g1;have g2:=lhb _ _ g2;have nt6:=not_blkN tw f6;have lB:=lB.trans lhb;have tw:=tw.mono (lhb.t _);clear e6;have v2:=v2.mono (lhb.t _);cbv;refine av g2 rfl rfl ?_;cbv;refine⟨⟨_,rfl,rfl⟩,?_⟩;cbv;refine av g1 rfl rfl ?_;cbv;refine⟨⟨_,rfl,rfl⟩,?_⟩;cbv;refine tw.app1 v2 (by decide) rfl (by decide) ll lB (fun j1 m1 k1 hc lB kp lt tw'=>?_);have Iy:=kp _ _ g1 (not_blk tw g1 (by decide));have Ix:=kp _ _ g2 (not_blk tw g2 (by decide));have v6:=sl_keep v6 kp nt6 lt;cbv;refine av Ix rfl rfl ?_;cbv;refine⟨⟨_,rfl,rfl⟩,?_⟩;cbv;refine tw'.symm.app1 v6 (by decide) rfl (by decide) jS lB (fun j2 m2 k2 h7 lB MN Xe tw7=>?_);have g1:=MN _ _ Iy (not_blk tw'.symm Iy (by decide));have g2:=MN _ _ Ix (not_blk tw'.symm Ix (by decide));cbv;refine jz g1 (by simp) (fun h8 e8=>?_);have lt8:cF [59,61] h7 h8:=by rw[e8];exact cF.set g1 (by decide)
    have g1:h8 rp=some (.cells #[.slice (some ⟨j1,0,none⟩) m1 k1] 34 (0,0)):=by rw[e8];exact af
    have g2:h8 fp=some (.cells #[.slice b2 n2 c2] 34 (0,0)):=by rw[e8,aP (Ne.symm bW)];exact g2
    have lB8:Le B h8:=fun b o hb=>by rw[e8,aP (fun e=>by rw[e,hno1]at hb;cases hb)];exact lB _ _ hb
    have tw8:=tw7.mono lt8;clear e8 lt8;cbv;refine jz g2 (by simp) (fun h9 e9=>?_);have Bz:cF [59,61] h8 h9:=by rw[e9];exact cF.set g2 (by decide)
    have ae:=hk h9 ⟨⟨_,_,_,_,_,_,(by rw[e9,aP bW];exact g1),(by rw[e9];exact af),(tw8.mono Bz).symm⟩,(fun b o hb=>by rw[e9,aP (fun e=>by rw[e,hno2]at hb;cases hb)];exact lB8 _ _ hb),hno1,hno2,bW⟩;clear hk e9 Bz;cbv;exact ae
  ·skip;intro t6 ha f6 e6;have lha:Le hs ha:=by rw[e6];exact Le.set f6
   have v6:Sl 59 aL ha (.slice (some ⟨t6,0,none⟩) 1 1) [nr]:=bU (s:=aL) ((congrFun e6 t6).trans af) ⟨_,rfl,qn.mono (lha.t _)⟩;have g1:=lha _ _ g1;have g2:=lha _ _ g2;have nt6:=not_blkN tw f6;have lB:=lB.trans lha;have qr:=qr.mono (lha.t _);have tw:=tw.mono (lha.t _);clear e6;cbv;refine av g2 rfl rfl ?_;cbv;refine⟨⟨_,rfl,rfl⟩,?_⟩;cbv;refine av g1 rfl rfl ?_;cbv;refine⟨⟨_,rfl,rfl⟩,?_⟩;cbv;intro t2 hb f2 e2;have lhb:Le ha hb:=by rw[e2];exact Le.set f2
   have v2:Sl 59 aL hb (.slice (some ⟨t2,0,none⟩) 1 1) [r]:=bU (s:=aL) ((congrFun e2 t2).trans af) ⟨_,rfl,qr.mono (lhb.t _)⟩;have g1:=lhb _ _ g1;have g2:=lhb _ _ g2;have nt1:t2∉blkL (.slice b1 n1 c1):=not_blkN tw f2;have nt2:=not_blkN tw.symm f2;have lB:=lB.trans lhb;have tw:=tw.mono (lhb.t _);clear e2;have v6:=v6.mono (lhb.t _);cbv;refine av g2 rfl rfl ?_;cbv;refine⟨⟨_,rfl,rfl⟩,?_⟩;cbv;refine av g1 rfl rfl ?_;cbv;refine⟨⟨_,rfl,rfl⟩,?_⟩;cbv;refine tw.app1 v2 (by decide) rfl (by decide) ll lB (fun j1 m1 k1 hc lB kp lt tw'=>?_);have Iy:=kp _ _ g1 (not_blk tw g1 (by decide));have Ix:=kp _ _ g2 (not_blk tw g2 (by decide));have v6:=sl_keep v6 kp nt6 lt;cbv;refine av Ix rfl rfl ?_;cbv;refine⟨⟨_,rfl,rfl⟩,?_⟩;cbv;refine tw'.symm.app1 v6 (by decide) rfl (by decide) jS lB (fun j2 m2 k2 h7 lB MN Xe tw7=>?_);have g1:=MN _ _ Iy (not_blk tw'.symm Iy (by decide));have g2:=MN _ _ Ix (not_blk tw'.symm Ix (by decide));cbv;refine jz g1 (by simp) (fun h8 e8=>?_);have lt8:cF [59,61] h7 h8:=by rw[e8];exact cF.set g1 (by decide)
   have g1:h8 rp=some (.cells #[.slice (some ⟨j1,0,none⟩) m1 k1] 34 (0,0)):=by rw[e8];exact af
   have g2:h8 fp=some (.cells #[.slice b2 n2 c2] 34 (0,0)):=by rw[e8,aP (Ne.symm bW)];exact g2
   have lB8:Le B h8:=fun b o hb=>by rw[e8,aP (fun e=>by rw[e,hno1]at hb;cases hb)];exact lB _ _ hb
   have tw8:=tw7.mono lt8;clear e8 lt8;cbv;refine jz g2 (by simp) (fun h9 e9=>?_);have Bz:cF [59,61] h8 h9:=by rw[e9];exact cF.set g2 (by decide)
   have ae:=hk h9 ⟨⟨_,_,_,_,_,_,(by rw[e9,aP bW];exact g1),(by rw[e9];exact af),(tw8.mono Bz).symm⟩,(fun b o hb=>by rw[e9,aP (fun e=>by rw[e,hno2]at hb;cases hb)];exact lB8 _ _ hb),hno1,hno2,bW⟩;clear hk e9 Bz;cbv;exact ae
theorem pz{s:ByteArray}:W5 s↔∀c∈s.data.toList,c.toNat<128:=by
 constructor
 ·intro h c hc;obtain⟨i,hi,rfl⟩:=List.mem_iff_getElem.1 hc;have:=h i (by simpa using hi);rw[Array.getD_eq_getD_getElem?]at this;rw[Array.getElem?_eq_getElem (by simpa using hi)]at this;simpa using this
 ·intro h i hi;have tP:i<s.data.size:=hi;rw[Array.getD_eq_getD_getElem?,Array.getElem?_eq_getElem tP];exact h _ (by simp)
theorem FV{a b:ByteArray}(ha:W5 a)(hb:W5 b):W5 (a++b):=by
 rw[pz]at *;intro c hc;have e:(a++b).data=a.data++b.data:=by simp
 rw[e,Array.toList_append]at hc;rcases List.mem_append.1 hc with hc|hc
 ·exact ha c hc
 ·exact hb c hc
structure Mv(s:ByteArray):Prop where
 XS:W5 s
 sz:s.size<=2^30
theorem Mv.nm{s:ByteArray}(h:Mv s):Nm s:=⟨h.XS,by have:=h.sz;omega⟩
theorem sd{nm:ByteArray}(h:Mv nm){c:bT}(hc:Mv c.name):Nm (ny nm c).name:=by
 refine⟨FV (FV h.XS (fun i hi=>?_)) hc.XS,?_⟩
 ·have:i<1:=hi;have:i=0:=by omega
  subst this;decide
 ·show(nm++ax [46]++c.name).size<=_;rw[ByteArray.size_append,ByteArray.size_append];have e:(ax [46]).size=1:=rfl;have:=h.sz;have:=hc.sz;omega
theorem chosenP_cons(w:List Nd)(cols:List bT)(f:Row->Row×Int)(r:Row)(rs:List Row)(xs ys:List Row):lJ w cols f (r::rs) (xs,ys)=
 if(chStep w cols f r xs ys).2≠0 then chStep w cols f r xs ys else lJ w cols f rs (chStep w cols f r xs ys).1:=by
 show(match dL w cols r with
  | (is,e)=>if e≠0 then((xs,ys),e)else if is=false then lJ w cols f rs (xs,ys)else match f r with
   | (n,e)=>if e≠0 then((xs++[r],ys++[n]),e)else lJ w cols f rs (xs++[r],ys++[n]))=_
 unfold chStep;generalize dL w cols r=H;obtain⟨is,e⟩:=H;generalize f r=fr;obtain⟨n,e2⟩:=fr;by_cases h0:e=0
 ·subst h0;cases is with
  |false=>simp
  |true=>
   by_cases h2:e2=0
   ·simp[h2]
   ·simp[h2]
 ·simp[h0]
theorem step_len{w:List Nd}{cols:List bT}{f:Row->Row×Int}{r:Row}{xs ys:List Row}{i:Nat}(h1:xs.length<=i)(h2:ys.length<=i):(chStep w cols f r xs ys).1.1.length<=i+1/\(chStep w cols f r xs ys).1.2.length<=i+1:=by
 unfold chStep;generalize dL w cols r=H;obtain⟨is,e⟩:=H;by_cases h0:e=0
 ·cases is
  ·simp[h0];omega
  ·simp[h0];omega
 ·simp[h0];omega
theorem chosenU{p0 p1 p2:Value}{h:ad}{pb:Nat}{d:DB}{s:Int}{st:az}(q:dS h pb d s st)(hx:eG st){T:cE}(yE:Mv T.S.name)(hc:∀c∈T.S.cols,Mv c.name)(eW:∀r∈T.rows,∀v∈r,lj v)(hlen:T.rows.length<=2^36)
 {cb:Option Addr} {cn cc:Nat} (EX:Sl 165 bt h (.slice cb cn cc) T.S.cols) {tb:Option Addr} {tn tc:Nat} (SQ:Sl 59 aL h (.slice tb tn tc) T.rows) {f:Row->Row×Int}
 (then_:∀h' r rb rn rc,Le h h'->r∈T.rows->Sl 61 bq h' (.slice rb rn rc) r->Ct 89 [.slice rb rn rc,p0,p1,p2] h' (fun v me=>∃b n c,v=.tuple #[.slice b n c,.int .i64 (f r).2]/\Le h' me/\Sl 61 bq me (.slice b n c) (f r).1))
 {D:(List Row×List Row)×Int} (hD:D=lJ st.bM (aJ T) f T.rows ([],[])) {k:Value->ad->Prop}
 (hk:∀h' b1 n1 c1 b2 n2 c2,Le h h'->Sl 59 aL h' (.slice b1 n1 c1) D.1.1->Sl 59 aL h' (.slice b2 n2 c2) D.1.2->k (.tuple #[.slice b1 n1 c1,.slice b2 n2 c2,.int .i64 D.2]) h'):
 Ct 88 [.pointer (some ⟨pb,0,none⟩),.agg #[.string T.S.name,.slice cb cn cc,.int .i64 T.S.key,.bool T.S.only,.slice tb tn tc],.func (.func 89) #[] #[p0,p1,p2]] h k:=by
 obtain⟨A,hA⟩:=Ar.ex;have htn:=SQ.len;rw[tY]at hD;obtain⟨⟨tnm,tz,tkey,tonly⟩,trows⟩:=T;replace hD:D=lJ st.bM (tz.map (ny tnm)) f trows ([],[]):=hD;have hcF:∀c∈tz.map (ny tnm),Nm c.name:=fun c xF=>by
  obtain⟨c0,h1,h2⟩:=List.mem_map.1 xF;rw[<-h2];exact sd yE (hc c0 h1)
 replace htn:tn=trows.length:=htn;replace hlen:trows.length<=2^36:=hlen;obtain⟨⟨xs0,ys0⟩,De⟩:=D;replace hk:∀h' b1 n1 c1 b2 n2 c2,Le h h'->Sl 59 aL h' (.slice b1 n1 c1) xs0->Sl 59 aL h' (.slice b2 n2 c2) ys0->k (.tuple #[.slice b1 n1 c1,.slice b2 n2 c2,.int .i64 De]) h':=hk;refine ah A (ar T88.aA T88.bm) Tryz.func88 rfl (by kernel_rfl) ?_;cbv;intro wb h1 f1 e1;have l1:Le h h1:=by rw[e1];exact Le.set f1
 have gw:h1 wb=some (.cells #[.pointer (some ⟨pb,0,none⟩)] 99 (0,0)):=by rw[e1];exact af
 clear e1;cbv;intro ei h2 f2 e2;have l2:Le h1 h2:=by rw[e2];exact Le.set f2
 have gt:h2 ei=some (.cells #[.func (.func 89) #[] #[p0,p1,p2]] 180 (0,0)):=by rw[e2];exact af
 clear e2;cbv;intro rp h3 f3 e3;have l3:Le h2 h3:=by rw[e3];exact Le.set f3
 have gr:h3 rp=some (.cells #[.slice none 0 0] 34 (0,0)):=by rw[e3];exact af
 clear e3;cbv;intro fp h4 f4 e4;have l4:Le h3 h4:=by rw[e4];exact Le.set f4
 have gf:h4 fp=some (.cells #[.slice none 0 0] 34 (0,0)):=by rw[e4];exact af
 have bW:rp≠fp:=fun e=>by rw[<-e,gr]at f4;cases f4
 clear e4;have ko:Le h h2:=l1.trans l2;have nT:Le h h4:=ko.trans (l3.trans l4);cbv;refine mH (nm:=tnm) yE.nm (cols:=tz) (fun c hh=>(hc c hh).nm) (EX.mono (nT.t _)) tkey tonly tb tn tc (fun h5 cb5 cn5 cc5 l5 qb5=>?_);cbv;intro cp h6 f6 e6;have l6:Le h5 h6:=by rw[e6];exact Le.set f6
 have gc6:h6 cp=some (.cells #[.slice none 0 0] 38 (0,0)):=by rw[e6];exact af
 clear e6;cbv;refine jz gc6 (by simp) (fun h7 e7=>?_);have gc:h7 cp=some (.cells #[.slice cb5 cn5 cc5] 38 (0,0)):=by rw[e7];exact af
 have l57:Le h5 h7:=fun b o hb=>by rw[e7,aP (fun e=>by rw[e,f6]at hb;cases hb)];exact l6 _ _ hb
 have hrp2:h2 rp=none:=f3;have hfp3:h3 fp=none:=f4;have hcr:cp≠rp:=fun e=>by rw[e,l5 _ _ (l4 _ _ gr)]at f6;cases f6
 have hcf:cp≠fp:=fun e=>by rw[e,l5 _ _ gf]at f6;cases f6
 have gr7:=l57 _ _ (l5 _ _ (l4 _ _ gr));have gf7:=l57 _ _ (l5 _ _ gf);clear e7 l6 gc6;obtain⟨B,hB⟩:∃B,B=Sx.de (Sx.de h7 rp) fp:=⟨_,rfl⟩;have hB7:Le B h7:=by rw[hB];exact(Sx.fJ _ fp).trans (Sx.fJ _ rp)
 have XB:B rp=none:=by rw[hB,Sx.eQ bW];exact Sx.dX _ _
 have hBf:B fp=none:=by rw[hB];exact Sx.dX _ _
 have l2B:Le h2 B:=fun b o hb=>by
  have n1:b≠rp:=fun e=>by rw[e,hrp2]at hb;cases hb
  have n2:b≠fp:=fun e=>by have:=l3 _ _ hb;rw[e,hfp3]at this;cases this
  rw[hB,Sx.eQ n2,Sx.eQ n1];exact l57 _ _ (l5 _ _ (l4 _ _ (l3 _ _ hb)))
 have gcB:B cp=some (.cells #[.slice cb5 cn5 cc5] 38 (0,0)):=by rw[hB,Sx.eQ hcf,Sx.eQ hcr];exact gc
 have ltB:∀tys,34∉tys->cF tys h7 B:=fun tys ht b c e fr hm hb=>by
  have n1:b≠rp:=fun e'=>by rw[e',gr7]at hb;cases hb;exact ht hm
  have n2:b≠fp:=fun e'=>by rw[e',gf7]at hb;cases hb;exact ht hm
  rw[hB,Sx.eQ n2,Sx.eQ n1];exact hb
 have qclB:Sl 165 bt B (.slice cb5 cn5 cc5) (tz.map (ny tnm)):=(qb5.sl.mono (l57.t _)).mono (ltB _ (by decide));have zP:Le h B:=ko.trans l2B;have kz:=q.mono zP;clear hB ltB l5 l57 qb5 gc l4 l3;obtain⟨I,bl⟩:∃I:Nat->ad->Prop,∀i h',I i h'=∃p,CSt B h' rp fp p.1 p.2/\p.1.length<=i/\p.2.length<=i/\lJ st.bM (tz.map (ny tnm)) f (trows.drop i) p=((xs0,ys0),De):=⟨_,fun _ _=>rfl⟩;have hJ:I 0 h7:=by rw[bl];exact⟨([],[]),⟨⟨_,_,_,_,_,_,gr7,gf7,⟨none,none,.inl ⟨rfl,rfl,rfl⟩,.inl ⟨rfl,rfl,rfl⟩,fun _ hh=>by cases hh⟩⟩,hB7,XB,hBf,bW⟩,Nat.le_refl _,Nat.le_refl _,hD.symm⟩
 cbv;refine firstChosen htn I hJ (fun i h' hI=>?_) (fun i x h' b1 n1 c1 hi rv hI hv=>?_) (fun h' hI=>?_)
 ·rw[bl]at hI;obtain⟨p,qs,-⟩:=hI;exact SQ.mono ((zP.trans qs.le).t _)
 ·rw[bl]at hI;obtain⟨⟨xs,ys⟩,qs,DP,hyl,he⟩:=hI;have hxm:=List.mem_of_getElem? rv;have hd:trows.drop i=x::trows.drop (i+1):=by obtain⟨h1,h2⟩:=List.getElem?_eq_some_iff.1 rv;rw[List.drop_eq_getElem_cons h1,h2]
  replace DP:xs.length<=i:=DP;replace hyl:ys.length<=i:=hyl;have hx30:xs.length<=2^37:=by omega
  have hy30:ys.length<=2^37:=by omega
  rw[hd,chosenP_cons]at he;refine chosen1U qs hx30 hy30 kz hx (l2B _ _ (l2 _ _ gw)) hcF gcB qclB (l2B _ _ gt) (eW x hxm) hv (f:=f) (fun h9 l9 q9=>then_ h9 x b1 n1 c1 (zP.trans l9) hxm q9) rfl (fun h9 q9=>⟨_,rfl,fun h0=>?_,fun h0=>?_⟩)
  ·rw[bl];rw[if_neg (fun g=>g h0)]at he;refine⟨_,q9,?_,?_,he⟩
   ·exact(step_len DP hyl).1
   ·exact(step_len DP hyl).2
  ·rw[if_pos h0]at he;rw[he]at q9 |-;replace q9:CSt B h9 rp fp xs0 ys0:=q9;obtain⟨b1,n1,c1,b2,n2,c2,g1,g2,tw⟩:=q9.out;have lB9:=q9.le;obtain⟨o1,o2,t1,t2,-⟩:=tw.out;have s1:=t1.sl;have s2:=t2.sl;have ae:=fun h' l l1 l2=>hk h' b1 n1 c1 b2 n2 c2 (zP.trans l) (s1.mono l1) (s2.mono l2);clear hk bl q9 tw t1 t2;cbv;refine av g1 rfl rfl ?_;cbv;refine av g2 rfl rfl ?_;cbv;refine jz g1 (by simp) (fun kx lW=>?_);have Ix:kx fp=some (.cells #[.slice b2 n2 c2] 34 (0,0)):=by rw[lW,aP (Ne.symm bW)];exact g2
   have Iy:kx rp=some (.cells #[.slice b1 n1 c1] 34 (0,0)):=by rw[lW];exact af
   have BA:cF [59,61] h9 kx:=by rw[lW];exact cF.set g1 (by decide)
   have lB10:Le B kx:=fun b o hb=>by rw[lW,aP (fun e=>by rw[e,XB]at hb;cases hb)];exact lB9 _ _ hb
   clear lW;cbv;refine av Ix rfl rfl ?_;cbv;refine⟨⟨_,rfl,rfl⟩,?_⟩;cbv;refine jz Ix (by simp) (fun B3 uv=>?_);have g3:B3 fp=some (.cells #[.slice b2 n2 c2] 34 (0,0)):=by rw[uv];exact af
   have g4:B3 rp=some (.cells #[.slice b1 n1 c1] 34 (0,0)):=by rw[uv,aP bW];exact Iy
   have lt11:cF [59,61] kx B3:=by rw[uv];exact cF.set Ix (by decide)
   have lB11:Le B B3:=fun b o hb=>by rw[uv,aP (fun e=>by rw[e,hBf]at hb;cases hb)];exact lB10 _ _ hb
   have ae:=ae B3 lB11 (BA.trans lt11) (BA.trans lt11);clear uv;cbv;refine av g4 rfl rfl ?_;cbv;refine av g3 rfl rfl ?_;cbv;exact ae
 ·rw[bl]at hI;obtain⟨⟨xs,ys⟩,q9,DP,hyl,he⟩:=hI;obtain⟨h9,rfl⟩:∃h9,h9=h':=⟨_,rfl⟩;rw[List.drop_of_length_le (by omega)]at he;have he:(((xs,ys),0):(List Row×List Row)×Int)=((xs0,ys0),De):=he;replace q9:CSt B h9 rp fp xs ys:=q9;cases he;obtain⟨b1,n1,c1,b2,n2,c2,g1,g2,tw⟩:=q9.out;have lB9:=q9.le;obtain⟨o1,o2,t1,t2,-⟩:=tw.out;have s1:=t1.sl;have s2:=t2.sl;have ae:=fun h' l l1 l2=>hk h' b1 n1 c1 b2 n2 c2 (zP.trans l) (s1.mono l1) (s2.mono l2);clear hk bl q9 tw t1 t2;cbv;refine av g1 rfl rfl ?_;cbv;refine av g2 rfl rfl ?_;cbv;refine jz g1 (by simp) (fun kx lW=>?_);have Ix:kx fp=some (.cells #[.slice b2 n2 c2] 34 (0,0)):=by rw[lW,aP (Ne.symm bW)];exact g2
  have Iy:kx rp=some (.cells #[.slice b1 n1 c1] 34 (0,0)):=by rw[lW];exact af
  have BA:cF [59,61] h9 kx:=by rw[lW];exact cF.set g1 (by decide)
  have lB10:Le B kx:=fun b o hb=>by rw[lW,aP (fun e=>by rw[e,XB]at hb;cases hb)];exact lB9 _ _ hb
  clear lW;cbv;refine av Ix rfl rfl ?_;cbv;refine⟨⟨_,rfl,rfl⟩,?_⟩;cbv;refine jz Ix (by simp) (fun B3 uv=>?_);have g3:B3 fp=some (.cells #[.slice b2 n2 c2] 34 (0,0)):=by rw[uv];exact af
  have g4:B3 rp=some (.cells #[.slice b1 n1 c1] 34 (0,0)):=by rw[uv,aP bW];exact Iy
  have lt11:cF [59,61] kx B3:=by rw[uv];exact cF.set Ix (by decide)
  have lB11:Le B B3:=fun b o hb=>by rw[uv,aP (fun e=>by rw[e,hBf]at hb;cases hb)];exact lB10 _ _ hb
  have ae:=ae B3 lB11 (BA.trans lt11) (BA.trans lt11);clear uv;cbv;refine av g4 rfl rfl ?_;cbv;refine av g3 rfl rfl ?_;cbv;exact ae
open Go.Sx
structure gE(P:Row->Prop)(Pn:ByteArray->Prop)(d:DB):Prop where
 nm:∀t∈d.aE,Pn t.S.name
 rows:∀t∈d.aE,∀r∈t.rows,P r
 log:∀w∈d.au,∀c∈w.log,P c.row
section
variable {P:Row->Prop}{Pn:ByteArray->Prop}
theorem uV{t:cE}{r x:Row}(h:x∈(bI t r).1.rows):x=r\/x∈t.rows:=by
 unfold bI at h;split at h
 ·exact .inr h
 ·split at h
  ·exact .inr h
  ·split at h
   ·exact .inr h
   ·have h:x∈t.rows.take _++[r]++t.rows.drop _:=h;simp only[List.append_assoc,List.mem_append,List.mem_singleton]at h;rcases h with h|h|h
    ·exact .inr (List.mem_of_mem_take h)
    ·exact .inl h
    ·exact .inr (List.mem_of_mem_drop h)
theorem A5{t:cE}{k:dg}{x:Row}(h:x∈(cK t k).1.rows):x∈t.rows:=by
 unfold cK at h;split at h
 ·have h:x∈t.rows.take _++t.rows.drop _:=h;rcases List.mem_append.1 h with h|h
  ·exact List.mem_of_mem_take h
  ·exact List.mem_of_mem_drop h
 ·exact h
theorem tblTake_row{t:cE}{k:dg}:(cK t k).2.1=[]\/(cK t k).2.1∈t.rows:=by
 unfold cK;split
 ·show(t.rows[_]?).getD []=[]\/(t.rows[_]?).getD []∈t.rows;cases h:t.rows[dr (cM t k)]? with
  |none=>exact .inl rfl
  |some r=>exact .inr (List.mem_of_getElem? h)
 ·exact .inl rfl
def wW(P:Row->Prop)(Pn:ByteArray->Prop)(T:List cE):Prop:=∀t∈T,Pn t.S.name/\∀r∈t.rows,P r
theorem wW.set{T:List cE}(h:wW P Pn T){i:Nat}{t:cE}(ht:Pn t.S.name/\∀r∈t.rows,P r):wW P Pn (T.set i t):=fun x hx=>by
 rcases List.mem_or_eq_of_mem_set hx with hx|hx
 ·exact h x hx
 ·rw[hx];exact ht
theorem NG{T:List cE}{x:iX}(h:wW P Pn T)(hx:P x.row):wW P Pn (jc T x):=by
 unfold jc;split
 ·split
  ·rename_i t ht;have Hc:=h t (List.mem_of_getElem? ht);split
   ·refine h.set ⟨by rw[qQ];exact Hc.1,fun r hr=>?_⟩;rcases uV hr with hr|hr
    ·rw[hr];exact hx
    ·exact Hc.2 r hr
   ·split
    ·exact h.set ⟨by rw[xX];exact Hc.1,fun r hr=>Hc.2 r (A5 hr)⟩
    ·exact h
  ·exact h
 ·exact h
theorem EH{T:List cE}(h:wW P Pn T):∀ {l:List iX},(∀c∈l,P c.row)->wW P Pn (fS T l)
 | [],_=>h
 |x::l,hl=>NG (EH h fun c hc=>hl c (List.mem_cons_of_mem _ hc)) (hl x List.mem_cons_self)
theorem gE.tab{d:DB}(q:gE P Pn d):wW P Pn d.aE:=fun t ht=>⟨q.nm t ht,q.rows t ht⟩
theorem gE.of{d:DB}(h:wW P Pn d.aE)(hl:∀w∈d.au,∀c∈w.log,P c.row):gE P Pn d:=⟨fun t ht=>(h t ht).1,fun t ht=>(h t ht).2,hl⟩
theorem P9{T:List cE}{ws:List dO}{s:Int}(h:wW P Pn T)(hl:∀w∈ws,∀c∈w.log,P c.row):wW P Pn (oW T ws s):=by
 unfold oW;split
 ·split
  ·rename_i w hw;exact EH h (hl w (List.mem_of_getElem? hw))
  ·exact h
 ·exact h
theorem gE.back{d:DB}(q:gE P Pn d)(s:Int):gE P Pn (kZ d s):=
 gE.of (P9 q.tab q.log) fun w hw=>q.log w ((wB d.au s).subset hw)
theorem gE.yy{d:DB}(q:gE P Pn d){H W:List bZ}:gE P Pn ⟨d.aE,d.au,H,W⟩:=⟨q.nm,q.rows,q.log⟩
theorem gE.gH{hd:bZ}:∀(f:Nat) {d:DB},gE P Pn d->gE P Pn (gH f d hd).1
 |0,d,q=>q
 |f+1,d,q=>by
  unfold Go.S.gH;repeat' split
  all_goals first
   |exact gE.gH f (gE.back (gE.yy q) _)
   |exact gE.back (gE.yy q) _
   |exact gE.yy q
theorem gE.ay{d:DB}(q:gE P Pn d)(hd:bZ):gE P Pn (ay d hd).1:=by
 unfold Go.S.ay;split
 ·exact q.gH _
 ·exact q
theorem gE.au{d:DB}(q:gE P Pn d){i:Nat}{w:dO}(hw:∀c∈w.log,P c.row):∀x∈d.au.set i w,∀c∈x.log,P c.row:=fun x hx=>by
 rcases List.mem_or_eq_of_mem_set hx with hx|hx
 ·exact q.log x hx
 ·rw[hx];exact hw
theorem gE.eT{d:DB}(q:gE P Pn d)(hd:bZ){act:cE->cE×iX×Int}(ha:∀t,Pn t.S.name->(∀r∈t.rows,P r)->Pn (act t).1.S.name/\(∀r∈(act t).1.rows,P r)/\P (act t).2.1.row):gE P Pn (eT d hd act).1:=by
 have qh:=q.ay hd;unfold Go.S.eT;split
 ·exact qh
 ·split
  ·rename_i t w ht hw;have Hc:=List.mem_of_getElem? ht;have Uz:=List.mem_of_getElem? hw;have hat:=ha t (qh.nm t Hc) (qh.rows t Hc);split
   ·exact qh
   ·split
    ·refine gE.of (qh.tab.set ⟨hat.1,hat.2.1⟩) (qh.au fun c hc=>?_);have hc:c∈w.log++[_]:=hc;rcases List.mem_append.1 hc with hc|hc
     ·exact qh.log w Uz c hc
     ·rcases List.mem_cons.1 hc with hc|hc
      ·rw[hc];exact hat.2.2
      ·cases hc
    ·exact qh
  ·exact qh
theorem gE.fv{d:DB}(q:gE P Pn d)(s:Int)(nm:ByteArray){r:Row}(hr:P r):gE P Pn (fv d s nm r).1:=
 q.eT _ fun t h1 h2=>⟨by show Pn (bI t r).1.S.name;rw[qQ];exact h1,fun x hx=>by
  rcases uV hx with hx|hx
  ·rw[hx];exact hr
  ·exact h2 x hx,hr⟩
theorem gE.X2{d:DB}(q:gE P Pn d)(s:Int)(nm:ByteArray)(k:dg)(h0:P []):gE P Pn (X2 d s nm k).1:=
 q.eT _ fun t h1 h2=>by
  unfold LG;split
  ·exact⟨h1,h2,h0⟩
  ·refine⟨by show Pn (cK t k).1.S.name;rw[xX];exact h1,fun x hx=>h2 x (A5 hx),?_⟩;show P (cK t k).2.1;rcases tblTake_row (t:=t) (k:=k)with e|e
   ·rw[e];exact h0
   ·exact h2 _ e
end
theorem wq{c:bT}{v:dg}(h:bP c v=0):cQ v=0/\(v.k=0->c.null=true)/\(v.k=0\/v.k=c.kind):=by
 unfold bP at h;by_cases h1:cQ v=0
 ·rw[h1]at h;refine⟨h1,?_,?_⟩
  ·intro hk;cases hn:c.null with
   |true=>rfl
   |false=>simp[hk,hn]at h
  ·by_cases hk:v.k=0
   ·exact .inl hk
   ·by_cases nh:v.k=c.kind
    ·exact .inr nh
    ·simp[hk,nh]at h
 ·simp[h1]at h
theorem xQ{v:dg}(h:cQ v=0):nE v (jN v)=true/\v.s.size<=60:=by
 unfold cQ at h;split at h
 ·cases h
 ·split at h
  ·cases h
  ·rename_i h2;split at h
   ·cases h
   ·rename_i h3;have qA:¬((v.s.size:Int)>60):=by simpa using h3
    refine⟨?_,by omega⟩;cases hs:nE v (jN v)with
    |true=>rfl
    |false=>rw[hs]at h2;simp at h2
theorem Eh{r:Row}(h:bV bB r=0):lN r:=by
 unfold bV at h;split at h
 ·cases h
 ·rename_i hl;have hl:r.length=2:=by
   have:(r.length:Int)=(bB.length:Int):=by simpa using hl
   have e:bB.length=2:=rfl;rw[e]at this;omega
  match r,hl with
  | [a,b],_=>
   have h:dC [bP ⟨nA,2,false⟩ a,bP ⟨⟨#[98]⟩,3,true⟩ b]=0:=h;have h1:bP ⟨nA,2,false⟩ a=0:=by
    by_cases c:bP ⟨nA,2,false⟩ a=0
    ·exact c
    ·simp[dC,c]at h
   have h2:bP ⟨⟨#[98]⟩,3,true⟩ b=0:=by
    rw[h1]at h;by_cases c:bP ⟨⟨#[98]⟩,3,true⟩ b=0
    ·exact c
    ·simp[dC,c]at h
   obtain⟨ak,an,sa⟩:=a;obtain⟨bk,bn,sb⟩:=b;obtain⟨v1,n1,k1⟩:=wq h1;obtain⟨v2,n2,k2⟩:=wq h2;have k1:ak=2:=by
    rcases k1 with k|k
    ·exact absurd (n1 k) (by decide)
    ·exact k
   subst k1;obtain⟨s1,-⟩:=xQ v1;obtain⟨s2,z2⟩:=xQ v2;have e1:sa=pJ:=by simp[nE,jN]at s1;exact s1
   subst e1;refine⟨an,⟨bk,bn,sb⟩,rfl,?_⟩;rcases k2 with k|k
   ·have k:bk=0:=k;subst k;simp[nE,jN]at s2;left;rw[s2.1];have:sb=pJ:=s2.2;rw[this]
   ·have k:bk=3:=k;subst k;simp[nE,jN]at s2;right;exact⟨sb,by rw[s2],z2⟩
theorem Cu{d:DB}{hd:bZ}{act:cE->cE×iX×Int}(h:∀t∈(ay d hd).1.aE,(act t).2.2≠0):(eT d hd act).1=(ay d hd).1:=by
 unfold eT;split
 ·rfl
 ·split
  ·rename_i t w ht hw;have:=h t (List.mem_of_getElem? ht);split
   ·rfl
   ·rw[if_neg (by simpa using this)]
  ·rfl
theorem NR{n:Nat}{d:DB}(q:SJ n d)(s:Int)(nm:ByteArray)(r:Row)(hs:-2^63<=s/\s<2^63):SJ (n+1) (fv d s nm r).1:=by
 by_cases h:bV bB r=0
 ·exact Su q s nm hs (.inl (Eh h))
 ·have hh:=uB q ⟨s,nm,true⟩ hs;have:(fv d s nm r).1=(ay d ⟨s,nm,true⟩).1:=Cu fun t ht=>by
   have hc:=(hh.sc.tw.ok t ht).1;show(bI t r).2≠0;unfold bI;rw[hc,if_pos (by simpa using h)];exact h
  rw[this];exact hh
def fM(r:Row):Prop:=∀v∈r,lj v
structure EJ(n:Nat)(d:DB):Prop where
 sj:SJ n d
 al:gE fM Mv d
theorem EJ.le{n m:Nat}{d:DB}(q:EJ n d)(h:n<=m):EJ m d:=⟨q.sj.le h,q.al⟩
theorem EJ.hold{n:Nat}{d:DB}(q:EJ n d)(hd:bZ)(hs:-2^63<=hd.s/\hd.s<2^63):EJ (n+1) (ay d hd).1:=⟨uB q.sj hd hs,q.al.ay hd⟩
theorem EJ.put{n:Nat}{d:DB}(q:EJ n d){s:Int}(nm:ByteArray){r:Row}(hs:-2^63<=s/\s<2^63)(hr:fM r):EJ (n+1) (fv d s nm r).1:=⟨NR q.sj s nm r hs,q.al.fv s nm hr⟩
theorem EJ.take{n:Nat}{d:DB}(q:EJ n d){s:Int}(nm:ByteArray){r:Row}(hs:-2^63<=s/\s<2^63)(hr:lN r):EJ (n+1) (X2 d s nm (SL d nm r)).1:=by
 refine⟨?_,q.al.X2 s nm _ (fun _ h=>by cases h)⟩;obtain⟨a,v,rfl,-⟩:=hr;have hk:(bO d nm).S.key=0:=by
  unfold bO;cases h:d.aE.find? fun t=>decide (t.S.name=nm)with
  |none=>rfl
  |some t=>exact(q.sj.sc.tw.ok t (List.mem_of_find?_eq_some h)).2.1
 have:SL d nm [⟨2,a,pJ⟩,v]=⟨2,a,pJ⟩:=by unfold SL;rw[hk];rfl
 rw[this];exact sj_take q.sj s nm a hs
structure R4(T:cE):Prop where
 nm:Mv T.S.name
 cols:T.S.cols=bB\/(T.S.cols=[]/\T.rows=[])
 key:T.S.key=0
 row:∀r∈T.rows,lN r/\fM r
 len:T.rows.length<=200
theorem uF{l:By}(h:∀c∈l,c.toNat<128)(hl:l.length<=2^30):Mv (ax l):=⟨pz.2 h,hl⟩
theorem Gp:∀c∈bB,Mv c.name:=by
 intro c hc;rcases List.mem_cons.1 hc with rfl|hc
 ·exact uF (l:=[97]) (by decide) (by decide)
 ·rcases List.mem_cons.1 hc with rfl|hc
  ·exact uF (l:=[98]) (by decide) (by decide)
  ·cases hc
theorem R4.uN{T:cE}(h:R4 T):∀c∈T.S.cols,Mv c.name:=by
 rcases h.cols with e| ⟨e,-⟩
 ·rw[e];exact Gp
 ·rw[e];intro c hc;cases hc
theorem EJ.held{n:Nat}{d:DB}(q:EJ n d)(nm:ByteArray):R4 (bO d nm):=by
 unfold bO;cases h:d.aE.find? fun t=>decide (t.S.name=nm)with
 |none=>exact⟨uF (l:=[]) (fun _ h=>by cases h) (by decide),.inr ⟨rfl,rfl⟩,rfl,(fun _ h=>by cases h),Nat.zero_le _⟩
 |some t=>have Hc:=List.mem_of_find?_eq_some h;obtain⟨h1,h2,h3,-⟩:=q.sj.sc.tw.ok t Hc;exact⟨q.al.nm t Hc,.inl h1,h2,fun r hr=>⟨h3.ok r hr,q.al.rows t Hc r hr⟩,h3.le⟩
theorem Er{α:Type}(f:DB->α->DB×Int)(x:α)(r:List α)(d:DB):wE f (x::r) d=match f d x with
 | (d',e)=>if e≠0 then(d',e)else wE f r d':=rfl
theorem chosenP_mem{w:List Nd}{cols:List bT}{f:Row->Row×Int}:∀ {rows:List Row} {xs ys:List Row},∀x∈(lJ w cols f rows (xs,ys)).1.1,x∈xs\/x∈rows
 | [],xs,ys,x,h=>.inl h
 |r::rs,xs,ys,x,h=>by
  rw[chosenP_cons]at h;have hs:∀x∈(chStep w cols f r xs ys).1.1,x∈xs\/x∈r::rs:=fun x hx=>by
   unfold chStep at hx;generalize dL w cols r=H at hx;obtain⟨is,e⟩:=H;have hx:x∈(if e≠0 then((xs,ys),e)else if is=false then((xs,ys),0)else((xs++[r],ys++[(f r).1]),(f r).2):(List Row×List Row)×Int).1.1:=hx;split at hx
   ·exact .inl hx
   ·split at hx
    ·exact .inl hx
    ·rcases List.mem_append.1 hx with hx|hx
     ·exact .inl hx
     ·rcases List.mem_cons.1 hx with hx|hx
      ·rw[hx];exact .inr List.mem_cons_self
      ·cases hx
  by_cases c:(chStep w cols f r xs ys).2≠0
  ·rw[if_pos c]at h;exact hs x h
  ·rw[if_neg c]at h;generalize chStep w cols f r xs ys=E at *;obtain⟨⟨a,b⟩,e⟩:=E;rcases chosenP_mem x h with h|h
   ·exact hs x h
   ·exact .inr (List.mem_cons_of_mem _ h)
theorem takesC{h:ad}{pb:Nat}{d:DB}{s:Int}{st:az}(q:dS h pb d s st){n:Nat}(ej:EJ n d){rows:List Row}(hr:∀r∈rows,lN r)(um:n+rows.length+2<2^18)(iQ:-2^63<=s/\s<2^63){rb:Option Addr}{rn rc:Nat}(qr:Sl 59 aL h (.slice rb rn rc) rows)
 {D:DB×Int} (hD:sH s st.table rows d=D) {k:Value->ad->Prop} (hk:∀h',Kp [pb] h h'->dS h' pb D.1 s st->k (.int .i64 D.2) h'):
 Ct 92 [.slice rb rn rc,.func (.func 93) #[.pointer (some ⟨pb,0,none⟩)] #[]] h k:=by
 have hn:=qr.len;obtain⟨I,bl⟩:∃I:Nat->ad->Prop,∀i h',I i h'=∃d',dS h' pb d' s st/\EJ (n+i) d'/\Kp [pb] h h'/\sH s st.table (rows.drop i) d'=D:=⟨_,fun _ _=>rfl⟩;have hJ:I 0 h:=by rw[bl];exact⟨d,q,ej,Kp.refl _ _,hD⟩
 refine firstTake hn I hJ (fun i h' hI=>?_) (fun i x h' b1 n1 c1 hi hx hI hv=>?_) (fun h' hI=>?_)
 ·rw[bl]at hI;obtain⟨d',q',ej',kp,-⟩:=hI;exact qr.mono (q.kp kp (by decide))
 ·rw[bl]at hI;obtain⟨d',q',ej',kp,he⟩:=hI;have hd:rows.drop i=x::rows.drop (i+1):=by obtain⟨h1,h2⟩:=List.getElem?_eq_some_iff.1 hx;rw[List.drop_eq_getElem_cons h1,h2]
  have hxm:=hr x (List.mem_of_getElem? hx);have hlen:x.length=2:=by obtain⟨a,v,e,-⟩:=hxm;rw[e];rfl
  have M0:=(ej'.held st.table).key;rw[hd]at he;replace he:(match X2 d' s st.table (SL d' st.table x)with
   | (d2,e)=>if e≠0 then(d2,e)else sH s st.table (rows.drop (i+1)) d2)=D:=he
  have ej2:=ej'.take st.table iQ hxm;refine takeW q' ej'.sj.CM (by omega) iQ (by rw[M0,hlen];decide) hv (fun h2 k2 q2=>⟨_,rfl,fun h0=>?_,fun h0=>?_⟩)
  ·generalize X2 d' s st.table (SL d' st.table x)=E at *;obtain⟨d2,e⟩:=E;replace he:(if e≠0 then(d2,e)else sH s st.table (rows.drop (i+1)) d2)=D:=he;rw[if_neg (fun g=>g h0)]at he;rw[bl];exact⟨d2,q2,ej2,kp.trans k2,he⟩
  ·generalize X2 d' s st.table (SL d' st.table x)=E at *;obtain⟨d2,e⟩:=E;replace he:(if e≠0 then(d2,e)else sH s st.table (rows.drop (i+1)) d2)=D:=he;rw[if_pos h0]at he;subst he;exact hk h2 (kp.trans k2) q2
 ·rw[bl]at hI;obtain⟨d',q',ej',kp,he⟩:=hI;rw[List.drop_of_length_le (by omega)]at he;have he:(d',0)=D:=he;subst he;exact hk h' kp q'
def td(d:DB)(s:Int)(x:az)(T:cE):DB×Int:=
 if aF x.bM (aJ T)≠0 then(d,aF x.bM (aJ T))else match lJ x.bM (aJ T) (fun _=>([],0)) T.rows ([],[])with
  | (p,e)=>if e≠0 then(d,e)else sH s x.table p.1 d
theorem chosenP_len{w:List Nd}{cols:List bT}{f:Row->Row×Int}:∀ {rows:List Row} {xs ys:List Row},(lJ w cols f rows (xs,ys)).1.1.length<=xs.length+rows.length/\(lJ w cols f rows (xs,ys)).1.2.length<=ys.length+rows.length
 | [],xs,ys=>⟨Nat.le_refl _,Nat.le_refl _⟩
 |r::rs,xs,ys=>by
  rw[chosenP_cons];have hs:=step_len (w:=w) (cols:=cols) (f:=f) (r:=r) (xs:=xs) (ys:=ys) (i:=max xs.length ys.length) (by omega) (by omega);have h1:(chStep w cols f r xs ys).1.1.length<=xs.length+1/\(chStep w cols f r xs ys).1.2.length<=ys.length+1:=by
   unfold chStep;generalize dL w cols r=H;obtain⟨is,e⟩:=H;by_cases h0:e=0
   ·cases is
    ·simp[h0]
    ·simp[h0]
   ·simp[h0]
  by_cases c:(chStep w cols f r xs ys).2≠0
  ·rw[if_pos c];simp only[List.length_cons];omega
  ·rw[if_neg c];generalize chStep w cols f r xs ys=E at *;obtain⟨⟨a,b⟩,e⟩:=E;have:=chosenP_len (w:=w) (cols:=cols) (f:=f) (rows:=rs) (xs:=a) (ys:=b);simp only[List.length_cons];have h2:a.length<=xs.length+1/\b.length<=ys.length+1:=h1;omega
def Qw(d:DB)(s:Int)(st:az)(T:cE):Prop:=∀ {h:ad} {pb:Nat} (q:dS h pb d s st) (hx:eG st) {n:Nat} (ej:EJ n d) (um:n+300<2^18) (iQ:-2^63<=s/\s<2^63) {wb tb:Nat} (gw:h wb=some (.cells #[.pointer (some ⟨pb,0,none⟩)] 99 (0,0)))
 (hT:R4 T) {b1:Option Addr} {n1 c1:Nat} {b2:Option Addr} {n2 c2:Nat} (gt:h tb=some (.cells #[.string T.S.name,.slice b1 n1 c1,.int .i64 T.S.key,.bool T.S.only,.slice b2 n2 c2] 51 (0,0))) (EX:Sl 165 bt h (.slice b1 n1 c1) T.S.cols) (SQ:Sl 59 aL h (.slice b2 n2 c2) T.rows)
 {k:Value->ad->Prop} (hk:∀h',Kp [pb] h h'->dS h' pb (td d s st T).1 s st->k (.int .i64 (td d s st T).2) h'),
 Ct 95 [.pointer (some ⟨wb,0,none⟩),.pointer (some ⟨tb,0,none⟩)] h k
theorem Tj(nm:ByteArray){h:ad}{k:Value->ad->Prop}(hk:∀h' b n c,Le h h'->Sl 325 dh h' (.slice b n c) [eJ nm]->k (.slice b n c) h'):Ct 287 [.string nm] h k:=by
 obtain⟨A,hA⟩:=Ar.ex;refine ah A (ar T287.aA T287.bm) Tryz.func287 rfl (by kernel_rfl) ?_;cbv;intro nb h1 f1 e1;have l1:Le h h1:=by rw[e1];exact Le.set f1
 have q:Sl 325 dh h1 (.slice (some ⟨nb,0,none⟩) 1 1) [eJ nm]:=bU (s:=dh) ((congrFun e1 nb).trans af) rfl;have ae:=hk h1 _ _ _ l1 q;clear hk e1 q;cbv;exact ae
def kI(c:bT):bT:=⟨c.name,2,c.null⟩
theorem oR{name:ByteArray}:∀(l m:List bT) (i:Int) (a:Option Int),l.map (·.name)=m.map (·.name)->iA name l i a=iA name m i a
 | [],[],_,none,_=>rfl
 | [],[],_,some _,_=>rfl
 | [],b::m,_,_,h=>by simp at h
 |a::l,[],_,_,h=>by simp at h
 |c::l,d::m,i,a,h=>by
  have h1:c.name=d.name:=by simp at h;exact h.1
  have h2:l.map (·.name)=m.map (·.name):=by simp at h;exact h.2
  rw[jv,jv,h1];cases kJ name d.name with
  |false=>exact oR l m (i+1) a h2
  |true=>
   cases a with
   |some x=>rfl
   |none=>exact oR l m (i+1) (some i) h2
theorem sZ{name:ByteArray}:∀(l:List bT) (i:Int) (a:Option Int),(iA name l i a).2≠0->(iA name l i a).1=0
 | [],_,none,_=>rfl
 | [],_,some _,h=>absurd rfl h
 |c::l,i,a,h=>by
  rw[jv]at *;cases ht:kJ name c.name with
  |false=>rw[ht]at h;exact sZ l (i+1) a h
  |true=>
   rw[ht]at h;cases a with
   |some x=>rfl
   |none=>exact sZ l (i+1) (some i) h
def lT:Nat->Nat->Row
 |_,0=>[]
 |i,n+1=>⟨2,(i:Int),b0⟩::lT (i+1) n
theorem vB:∀(n i j:Nat),j<n->(lT i n)[j]? =some ⟨2,((i+j:Nat):Int),b0⟩
 |0,_,_,h=>by omega
 |n+1,i,0,_=>rfl
 |n+1,i,j+1,h=>by
  show(lT (i+1) n)[j]? =_;rw[vB n (i+1) j (Nat.lt_of_succ_lt_succ h),show i+1+j=i+(j+1)by omega]
theorem rf:∀(n i:Nat),(lT i n).length=n
 |0,_=>rfl
 |n+1,i=>by show(lT (i+1) n).length+1=_;rw[rf n]
theorem yr:∀(n i:Nat),lT i n++[⟨2,((i+n:Nat):Int),b0⟩]=lT i (n+1)
 |0,i=>rfl
 |n+1,i=>by
  show _::(lT (i+1) n++_)=_::lT (i+1) (n+1);rw[<-yr n (i+1),show i+1+n=i+(n+1)by omega]
theorem GI{nm:ByteArray}{cols:List bT}:∃v,eA [eJ nm] (cols.map kI) (lT 0 cols.length)=(v,(dK nm cols).2)/\v.n=(dK nm cols).1:=by
 have hf:dK nm (cols.map kI)=dK nm cols:=oR _ _ _ _ (by rw[List.map_map];rfl);have jC:=Ce (name:=nm) cols 0 none (dK nm cols) rfl (.inl rfl) (by decide);have her:=sZ (name:=nm) cols 0 none;have e1:pM (eJ nm) [] (cols.map kI)=match dK nm (cols.map kI)with
  | (c,e)=>if e≠0 then(0,e)else(match (cols.map kI)[c.toNat]? with
   |some c=>(c.kind,0)
   |none=>(0,0)):=rfl
 rw[hf]at e1;have e2:fZ [eJ nm] (cols.map kI)=match eN (cols.map kI) [eJ nm] []with
  | (l,f)=>if f≠0 then(0,f)else(tJ l,0):=rfl
 rw[fV,e1]at e2;have e3:oB (eJ nm) [] (cols.map kI) (lT 0 cols.length)=match dK nm (cols.map kI)with
  | (c,_)=>some (pQ (lT 0 cols.length) c):=rfl
 rw[hf]at e3;have e4:eA [eJ nm] (cols.map kI) (lT 0 cols.length)=match fZ [eJ nm] (cols.map kI)with
  | (_,f)=>if f≠0 then(v0,f)else match gL (cols.map kI) (lT 0 cols.length) [eJ nm] []with
   |some l=>(pL l,0)
   |none=>(v0,11):=rfl
 rw[oA]at e4;change (dK nm cols).2≠0->(dK nm cols).1=0 at her;generalize dK nm cols=P at *;obtain⟨c,e⟩:=P;by_cases h0:e=0
 ·subst h0;have hb:=jC rfl;obtain⟨x,hx⟩:=aI (xs:=cols) (i:=c.toNat) (by have:=hb.2;have:=hb.1;simp at *;omega);have Uw:(cols.map kI)[c.toNat]? =some (kI x):=by rw[List.getElem?_map,hx];rfl
  have CT:fZ [eJ nm] (cols.map kI)=(2,0):=by rw[e2];simp only[Uw];rfl
  have hc:c.toNat<cols.length:=(List.getElem?_eq_some_iff.1 hx).1;have hv:pQ (lT 0 cols.length) c=⟨2,c,b0⟩:=by rw[qO (vB cols.length 0 c.toNat hc) (by have:=hb.1;simp at *;omega)];congr 1;have:=hb.1;simp at *;omega
  refine⟨⟨2,c,b0⟩,?_,rfl⟩;have XM:oB (eJ nm) [] (cols.map kI) (lT 0 cols.length)=some ⟨2,c,b0⟩:=by rw[e3];show some (pQ _ c)=_;rw[hv]
  rw[e4,CT,XM];rfl
 ·refine⟨v0,?_,(her h0).symm⟩;have CT:fZ [eJ nm] (cols.map kI)=(0,e):=by rw[e2];simp[h0]
  rw[e4,CT];simp[h0]
theorem JE{nm:ByteArray}(hn:Nm nm){cols:List bT}(hc:∀c∈cols,Nm c.name){h:ad}{cb:Option Addr}{cn cc:Nat}(qc:Sl 165 bt h (.slice cb cn cc) cols){k:Value->ad->Prop}
 (hk:∀h',Le h h'->k (.tuple #[.int .i64 (dK nm cols).1,.int .i64 (dK nm cols).2]) h'):Ct 250 [.string nm,.slice cb cn cc] h k:=by
 obtain⟨A,hA⟩:=Ar.ex;have Rs:=qc.len;have hcb:=qc.bound;obtain⟨pv,hpv,Rc⟩:=GI (nm:=nm) (cols:=cols);rw[<-Rs]at hpv;rw[<-Rc]at hk;generalize (dK nm cols).2=pe at *;have hcK:∀c∈cols.map kI,Nm c.name:=fun c xF=>by
  obtain⟨c0,h1,h2⟩:=List.mem_map.1 xF;rw[<-h2];exact hc c0 h1
 have eW:∀v∈lT 0 cn,lj v:=fun v hv=>by
  obtain⟨j,hj⟩:=List.getElem?_of_mem hv;have sw:j<cn:=by have:=(List.getElem?_eq_some_iff.1 hj).1;rw[rf]at this;exact this
  rw[vB cn 0 j sw]at hj;cases hj;show m6 _=true;rw[gA];have B2:(2:Nat)^40=1099511627776:=rfl;show -9223372036854775808<=((0+j:Nat):Int)/\((0+j:Nat):Int)<=9223372036854775807;omega
 have hin2:∀v,0<=v/\v<(cn:Int)->aS v v.toNat:=fun v hv=>⟨by omega⟩;obtain⟨J,eR⟩:∃J:Option Addr×Nat×Nat->ad->Prop,∀g h',J g h'=(Le h h'/\cX 165 bt h h' (.slice g.1 cn g.2.1) cols/\dI 61 bq h' g.2.2 cn []/\h g.2.2=none):=⟨_,fun _ _=>rfl⟩;refine yJ A [false,true] (ar T250.aA T250.bm) Tryz.func250 rfl (by kernel_rfl) ?_;cbv;refine CL.go (G:=Option Addr×Nat×Nat) (fun g=>[(6,.v (.slice g.1 cn g.2.1)),(7,.v (.slice (some ⟨g.2.2,0,none⟩) cn cn))]) (fun _=>[]) J ?_ ?_
 ·have first:∀h1 b' c',Le h h1->cX 165 bt h h1 (.slice b' cn c') cols->∀nb h2,h1 nb=none->Le h1 h2->dI 61 bq h2 nb cn []->J (b',c',nb) h2:=fun h1 b' c' l1 qb nb h2 f2 l2 o=>by
   rw[eR];exact⟨l1.trans l2,qb.mono (l2.t _),o,by
    cases hh:h nb with
    |none=>rfl
    |some x=>rw[l1 _ _ hh]at f2;cases f2⟩
  have second:∀nb h1,h nb=none->Le h h1->dI 61 bq h1 nb cn []->∀h2 b' c',Le h1 h2->cX 165 bt h1 h2 (.slice b' cn c') cols->J (b',c',nb) h2:=fun nb h1 f1 l1 o h2 b' c' l2 qb=>by
   rw[eR];exact⟨l1.trans l2,qb.base l1,o.mono (l2.t _),f1⟩
  clear eR hk;cbv;refine⟨?_,?_⟩
  ·refine(tm qc).mono (fun v h1 hR=>?_);obtain⟨l1,b',c',hv,qb⟩:=hR;subst hv;have first:=first h1 b' c' l1 qb
   cbv;refine⟨?_,?_⟩
   ·refine iL (s:=bq) rfl (by omega) (by decide) (fun nb h2 f2 l2 o=>?_);have ae:=first nb h2 f2 l2 o
    clear first second
    cbv;refine⟨(_,_,_),⟨?_,?_,?_⟩,ae⟩
    ·cbv
    ·cbv
    ·cbv
   ·refine iL (s:=bq) rfl (by omega) (by decide) (fun nb h2 f2 l2 o=>?_);have ae:=first nb h2 f2 l2 o
    clear first second
    cbv;refine⟨(_,_,_),⟨?_,?_,?_⟩,ae⟩
    ·cbv
    ·cbv
    ·cbv
  ·refine iL (s:=bq) rfl (by omega) (by decide) (fun nb h1 f1 l1 o=>?_);have second:=second nb h1 f1 l1 o;cbv;refine(tm (qc.mono (l1.t _))).mono (fun v h2 hR=>?_);obtain⟨l2,b',c',hv,qb⟩:=hR;subst hv;have ae:=second h2 b' c' l2 qb;clear first second
   cbv;refine⟨(_,_,_),⟨?_,?_,?_⟩,ae⟩
   ·cbv
   ·cbv
   ·cbv
 ·intro g h1 hg;rw[eR]at hg;obtain⟨gb,gc,rb⟩:=g;obtain⟨l1,qb,o,Fk⟩:=hg;replace qb:cX 165 bt h h1 (.slice gb cn gc) cols:=qb;replace o:dI 61 bq h1 rb cn []:=o;replace Fk:h rb=none:=Fk;have hL:∀h2,Le h h2->Sl 165 bt h2 (.slice gb cn gc) (cols.map kI)->Sl 61 bq h2 (.slice (some ⟨rb,0,none⟩) cn cn) (lT 0 cn)->∀h3 xb xn xc,Le h2 h3->Sl 325 dh h3 (.slice xb xn xc) [eJ nm]->
   Ct 163 [.slice xb xn xc,.slice gb cn gc,.slice (some ⟨rb,0,none⟩) cn cn] h3 (fun r h4=>Le h h4/\r=.tuple #[pv.v,.int .i64 pe]):=fun h2 l2 s1 s2 h3 xb xn xc l3 sx=>CX (fun n hh=>by
    rcases List.mem_cons.1 hh with rfl|hh
    ·exact⟨hn,lA⟩
    ·cases hh) hcK eW sx (s1.mono (l3.t _)) (s2.mono (l3.t _)) (fun h4 v e w l4 hv hw=>by
     rw[hpv]at hv;cases hv;exact⟨l2.trans (l3.trans l4),by rw[hw]⟩)
  obtain⟨I,bl⟩:∃I:Nat->Int->ad->Prop,∀m z h',I m z h'=∃i,aS z i/\i<=cn/\m=cn-i/\Le h h'/\dI 61 bq h' rb cn (lT 0 i)/\(cn=0\/∃nb,gb=some ⟨nb,0,none⟩/\h nb=none/\dI 165 bt h' nb gc ((cols.take i).map kI++cols.drop i)):=⟨_,fun _ _ _=>rfl⟩;have hJ:I cn 0 h1:=by
   rw[bl];refine⟨0,⟨rfl⟩,Nat.zero_le _,rfl,l1,o,?_⟩;rcases qb.out with ⟨b0,g1,g2⟩ | ⟨nb,cap,g1,g2,o2⟩
   ·cases g1;exact .inl rfl
   ·cases g1;exact .inr ⟨nb,rfl,g2,o2⟩
  clear eR o qb;cbv;refine aX.go (G:=Int) (fun z=>[(18,.v (.int .i64 z))]) (fun _=>[]) (fun m z h'=>I m z h') cn 0 ⟨?_,?_,?_⟩ hJ ?_
  ·cbv
  ·cbv
  ·cbv
  ·intro m z h2 hI;rw[bl]at hI;cbv;obtain⟨i,hz,hi,hm,l2,orb,dF⟩:=hI;have f1:A .aG .lss z (A .nat cn)=decide (i<cn):=hz.gy (aS.nat cn);rw[f1];by_cases aK:i<cn
   ·obtain⟨nb,Rm,fk,oc⟩:=dF.resolve_left (by omega);subst Rm;obtain⟨c,Xx⟩:=aI (xs:=cols) (i:=i) (by omega);have hg:=E6 (f:=kI) Xx;have kf:=E5 (f:=kI) Xx;have hlen:((cols.take i).map kI++cols.drop i).length=cn:=by simp;omega
    generalize (cols.take i).map kI++cols.drop i=L at *;have cU:0<=z/\z<(cn:Int):=hz.ix aK;have fA:=hz.eq;have dD:=hz.succ (A:=A) (by omega);have j0:cn-(i+1)<m:=by omega
    have rC:=rf i 0;have Ii:=yr i 0;rw[Nat.zero_add]at Ii;have di:∀h3,Le h h3->dI 61 bq h3 rb cn (lT 0 (i+1))->dI 165 bt h3 nb gc (L.set i (kI c))->I (cn-(i+1)) (A .bA .add .i64 z 1) h3:=fun h3 l3 o1 o2=>by
     rw[bl];exact⟨i+1,dD,aK,rfl,l3,o1,.inr ⟨nb,rfl,fk,by rw[<-kf];exact o2⟩⟩
    clear bl hJ hL dD hk;rw[decide_eq_true aK];cbv;refine⟨⟨rfl,cU⟩,?_⟩;cbv;refine oc.Jk (by decide) hg fA rfl (off:=1) (new:=[.int .i64 2]) (show 1+1<=3 by omega) (x':=kI c) (fun cs aC=>?_) (fun h3 k3 t3 oc3=>?_)
    ·obtain⟨uN,Cr,FK⟩:=c;have aC:cs=[.string uN,.int .i64 Cr,.bool FK]:=aC;subst aC;rfl
    ·have or3:=orb.mono (t3 _ (by decide));have l3:Le h h3:=l2.df (fun b hb=>by rw[List.mem_singleton.1 hb];exact fk) k3;clear oc orb;cbv;refine⟨⟨rfl,cU⟩,?_⟩;cbv;refine or3.store (by decide) (i:=i) (x:=⟨2,(i:Int),b0⟩) (by rw[rC];exact Nat.le_refl _) aK (by omega) fA rfl (by rw[fA];rfl) (fun h4 k4 t4 or4=>?_);rw[rC,if_neg (by omega),Ii]at or4;have uL:=di h4 (l3.df (fun b hb=>by rw[List.mem_singleton.1 hb];exact Fk) k4) or4 (oc3.mono (t4 _ (by decide)));clear di;cbv;refine⟨cn-(i+1),A .bA .add .i64 z 1,j0,⟨?_,?_,?_⟩,uL⟩
     ·cbv
     ·cbv
     ·cbv
   ·have jR:i=cn:=by omega
    subst jR;have s2:Sl 61 bq h2 (.slice (some ⟨rb,0,none⟩) i i) (lT 0 i):=orb.sl (rf i 0).symm;have s1:Sl 165 bt h2 (.slice gb i gc) (cols.map kI):=by
     rcases dF with h0| ⟨nb,Rm,fk,oc⟩
     ·have:cols=[]:=List.length_eq_zero_iff.1 (by omega);subst this;subst h0;exact Sl.nil
     ·subst Rm;rw[List.take_of_length_le (by omega),List.drop_of_length_le (by omega),List.append_nil]at oc;exact oc.sl (by rw[List.length_map,Rs])
    have hV:=hL h2 l2 s1 s2;clear bl hJ hL;rw[decide_eq_false aK];cbv;refine Tj nm (fun h3 xb xn xc l3 sx=>?_);cbv;refine(hV h3 xb xn xc l3 sx).mono (fun r h4 hR=>?_);obtain⟨l4,hr⟩:=hR;subst hr;have ae:=hk h4 l4;obtain⟨vk,vn,vs⟩:=pv;clear hk hV;cbv;exact ae
structure lf(h:ad)(qp:Nat)(x:az)(cols:List bT)(y:Qy):Prop where
 out:∃b5 n5 c5 b6 n6 c6 b7 n7 c7 b8 n8 c8 b9 n9 c9 fG gG fF cb cn cc,h qp=some (.cells #[.int .i64 x.kind,.string x.mS.name,.slice b5 n5 c5,.int .i64 x.mS.key,.bool x.mS.only,.string x.table,.string x.join,.slice b6 n6 c6,.slice b7 n7 c7,.slice b8 n8 c8,.slice b9 n9 c9,.slice fG gG fF,.string x.group,.string x.order,.bool x.desc,.int .i64 x.fw,.string x.name,.slice cb cn cc,.int .i64 y.group,.int .i64 y.order,.bool y.jK] 188 (0,0))/\Sl 165 bt h (.slice b5 n5 c5) x.mS.cols/\Sl 325 dh h (.slice b6 n6 c6) x.on/\Sl 9 cB h (.slice b7 n7 c7) x.names/\Sl 42 fB h (.slice b8 n8 c8) x.exprs/\Sl 276 cm h (.slice b9 n9 c9) x.items/\Sl 325 dh h (.slice fG gG fF) x.bM/\Sl 165 bt h (.slice cb cn cc) cols
theorem lf.elim{h:ad}{qp:Nat}{x:az}{cols:List bT}{y:Qy}(q:lf h qp x cols y){p:Prop}(k:∀b5 n5 c5 b6 n6 c6 b7 n7 c7 b8 n8 c8 b9 n9 c9 fG gG fF cb cn cc,h qp=some (.cells #[.int .i64 x.kind,.string x.mS.name,.slice b5 n5 c5,.int .i64 x.mS.key,.bool x.mS.only,.string x.table,.string x.join,.slice b6 n6 c6,.slice b7 n7 c7,.slice b8 n8 c8,.slice b9 n9 c9,.slice fG gG fF,.string x.group,.string x.order,.bool x.desc,.int .i64 x.fw,.string x.name,.slice cb cn cc,.int .i64 y.group,.int .i64 y.order,.bool y.jK] 188 (0,0))->Sl 165 bt h (.slice b5 n5 c5) x.mS.cols->Sl 325 dh h (.slice b6 n6 c6) x.on->Sl 9 cB h (.slice b7 n7 c7) x.names->Sl 42 fB h (.slice b8 n8 c8) x.exprs->Sl 276 cm h (.slice b9 n9 c9) x.items->Sl 325 dh h (.slice fG gG fF) x.bM->Sl 165 bt h (.slice cb cn cc) cols->p):p:=by obtain⟨b5,n5,c5,b6,n6,c6,b7,n7,c7,b8,n8,c8,b9,n9,c9,fG,gG,fF,cb,cn,cc,g,q1,q2,q3,q4,q5,q6,q7⟩:=q.out;exact k b5 n5 c5 b6 n6 c6 b7 n7 c7 b8 n8 c8 b9 n9 c9 fG gG fF cb cn cc g q1 q2 q3 q4 q5 q6 q7
theorem lf.lt{h h':ad}{qp:Nat}{x:az}{cols:List bT}{y:Qy}(q:lf h qp x cols y)(hb:h' qp=h qp)(l:cF mq h h'):lf h' qp x cols y:=by obtain⟨b5,n5,c5,b6,n6,c6,b7,n7,c7,b8,n8,c8,b9,n9,c9,fG,gG,fF,cb,cn,cc,g,q1,q2,q3,q4,q5,q6,q7⟩:=q.out;exact⟨b5,n5,c5,b6,n6,c6,b7,n7,c7,b8,n8,c8,b9,n9,c9,fG,gG,fF,cb,cn,cc,hb.trans g,q1.mono (l.sub (by decide)),q2.mono (l.sub (by decide)),q3.mono (l.sub (by decide)),q4.mono (l.sub (by decide)),q5.mono (l.sub (by decide)),q6.mono (l.sub (by decide)),q7.mono (l.sub (by decide))⟩
theorem lf.mono{h h':ad}{qp:Nat}{x:az}{cols:List bT}{y:Qy}(q:lf h qp x cols y)(l:Le h h'):lf h' qp x cols y:=by refine q.lt ?_ (l.t _);obtain⟨b5,n5,c5,b6,n6,c6,b7,n7,c7,b8,n8,c8,b9,n9,c9,fG,gG,fF,cb,cn,cc,g,-⟩:=q.out;rw[g];exact l _ _ g
theorem lf.has{h:ad}{qp:Nat}{x:az}{cols:List bT}{y:Qy}(q:lf h qp x cols y):∃c,h qp=some (.cells c 188 (0,0)):=by obtain⟨b5,n5,c5,b6,n6,c6,b7,n7,c7,b8,n8,c8,b9,n9,c9,fG,gG,fF,cb,cn,cc,g,-⟩:=q.out;exact⟨_,g⟩
theorem FJ{h:ad}{qp:Nat}{x:az}{cols:List bT}{y:Qy}(q:lf h qp x cols y)(hc:∀c∈cols,Nm c.name){nm:ByteArray}(hn:Nm nm){k:Value->ad->Prop}
 (hk:∀h',Le h h'->k (.tuple #[.int .i64 (bh nm cols).1,.int .i64 (bh nm cols).2]) h'):Ct 181 [.pointer (some ⟨qp,0,none⟩),.string nm] h k:=by
 obtain⟨A,hA⟩:=Ar.ex;have hP:bh nm cols=if nm=b0 then(-1,0)else dK nm cols:=rfl
 have f1:A .iY .eql nm ⟨#[]⟩=decide (nm=b0):=bR A ..;refine q.elim (fun b5 n5 c5 b6 n6 c6 b7 n7 c7 b8 n8 c8 b9 n9 c9 fG gG fF cb cn cc g q1 q2 q3 q4 q5 q6 q7=>?_);clear q1 q2 q3 q4 q5 q6;generalize bh nm cols=D at *;refine ah A (ar T181.aA T181.bm) Tryz.func181 rfl (by kernel_rfl) ?_;cbv;rw[f1];by_cases h0:nm=b0
 ·rw[if_pos h0]at hP;subst hP;have ae:=hk h (Le.refl _);clear hk;rw[decide_eq_true h0];cbv;exact ae
 ·rw[if_neg h0]at hP;rw[hP]at hk;rw[decide_eq_false h0];cbv;repeat (first| (rw[ai A,ai A];refine av g rfl rfl ?_;cbv) | (rw[ai A];refine av g rfl rfl ?_;cbv) | (refine av g rfl rfl ?_;cbv) | (refine⟨⟨_,rfl,rfl⟩,?_⟩;cbv))
  refine JE hn hc q7 (fun h1 l1=>?_);have ae:=hk h1 l1;clear hk hP;generalize dK nm cols=E at *;obtain⟨e1,e2⟩:=E;cbv;exact ae
theorem YW{h:ad}{qp:Nat}{x:az}{cols:List bT}{y:Qy}(q:lf h qp x cols y)(hc:∀c∈cols,Nm c.name){i:dG}(hi:mI i.e){ib:Option Addr}{im ic:Nat}(qi:Sl 325 dh h (.slice ib im ic) i.e){k:Value->ad->Prop}
 (hk:∀h',Le h h'->k (.int .i64 (gN cols i)) h'):Ct 179 [.pointer (some ⟨qp,0,none⟩),.agg #[.int .i64 i.fn,.slice ib im ic]] h k:=by
 obtain⟨A,hA⟩:=Ar.ex;have hP:gN cols i=if i.fn=1 then 0 else if i.fn=2 then fI i.e cols 2 else(fZ i.e cols).2:=rfl
 have f1:A .aG .eql i.fn 1=decide (i.fn=1):=aw A ..;have f2:A .aG .eql i.fn 2=decide (i.fn=2):=aw A ..;refine q.elim (fun b5 n5 c5 b6 n6 c6 b7 n7 c7 b8 n8 c8 b9 n9 c9 fG gG fF cb cn cc g q1 q2 q3 q4 q5 q6 q7=>?_);clear q1 q2 q3 q4 q5 q6;generalize gN cols i=D at *;obtain⟨fn,ie⟩:=i;replace hi:mI ie:=hi;replace f1:A .aG .eql fn 1=decide (fn=1):=f1;replace f2:A .aG .eql fn 2=decide (fn=2):=f2;replace hP:D=if fn=1 then 0 else if fn=2 then fI ie cols 2 else(fZ ie cols).2:=hP
 refine ah A (ar T179.aA T179.bm) Tryz.func179 rfl (by kernel_rfl) ?_;cbv;rw[f1];by_cases h1:fn=1
 ·rw[if_pos h1]at hP;subst hP;have ae:=hk h (Le.refl _);clear hk;rw[decide_eq_true h1];cbv;exact ae
 rw[if_neg h1]at hP;rw[decide_eq_false h1];cbv;rw[f2];by_cases h2:fn=2
 ·rw[if_pos h2]at hP;rw[decide_eq_true h2];cbv;repeat (first| (rw[ai A,ai A];refine av g rfl rfl ?_;cbv) | (rw[ai A];refine av g rfl rfl ?_;cbv) | (refine av g rfl rfl ?_;cbv) | (refine⟨⟨_,rfl,rfl⟩,?_⟩;cbv))
  refine zW hi hc 2 qi q7 (fun h1 e l1 he=>?_);rw[<-hP]at he;subst he;have ae:=hk h1 l1;clear hk hP;cbv;exact ae
 ·rw[if_neg h2]at hP;rw[decide_eq_false h2];cbv;repeat (first| (rw[ai A,ai A];refine av g rfl rfl ?_;cbv) | (rw[ai A];refine av g rfl rfl ?_;cbv) | (refine av g rfl rfl ?_;cbv) | (refine⟨⟨_,rfl,rfl⟩,?_⟩;cbv))
  refine Mz (fun n hh=>(hi n hh).1) hc qi q7 (fun h1 a e l1 he=>?_);rw[<-he]at hP;subst hP;have ae:=hk h1 l1;clear hk he;cbv;exact ae
theorem B4(cols:List bT)(yg fn:Int)(ie:List Nd):bD cols yg ⟨fn,ie⟩=if fn≠0 then 0 else if yg<0 then 3 else match ie with
 | [n]=>if n.op≠2 then 3 else match dK n.name cols with
  | (k,e)=>if e≠0\/k≠yg then 3 else 0
 |_=>3:=rfl
theorem rM{h:ad}{qp:Nat}{x:az}{cols:List bT}{y:Qy}(q:lf h qp x cols y)(hc:∀c∈cols,Nm c.name){i:dG}(hi:mI i.e){ib:Option Addr}{im ic:Nat}(qi:Sl 325 dh h (.slice ib im ic) i.e){k:Value->ad->Prop}
 (hk:∀h',Le h h'->k (.int .i64 (bD cols y.group i)) h'):Ct 187 [.pointer (some ⟨qp,0,none⟩),.agg #[.int .i64 i.fn,.slice ib im ic]] h k:=by
 obtain⟨A,hA⟩:=Ar.ex;have Fs:=qi.len;have f1:A .aG .neq i.fn 0=decide (i.fn≠0):=aB A ..;have f2:A .aG .lss y.group 0=decide (y.group<0):=bE A ..;have f3:A .aG .neq (A .nat im) 1=decide (im≠1):=by rw[aB A,hA.nat,decide_eq_decide,Int.ofNat_eq_natCast];omega
 refine q.elim (fun b5 n5 c5 b6 n6 c6 b7 n7 c7 b8 n8 c8 b9 n9 c9 fG gG fF cb cn cc g q1 q2 q3 q4 q5 q6 q7=>?_);clear q1 q2 q3 q4 q5 q6;obtain⟨fn,ie⟩:=i;obtain⟨yg,yo,ya⟩:=y;replace hi:mI ie:=hi;replace f1:A .aG .neq fn 0=decide (fn≠0):=f1;replace f2:A .aG .lss yg 0=decide (yg<0):=f2;replace qi:Sl 325 dh h (.slice ib im ic) ie:=qi;replace Fs:im=ie.length:=Fs;have hP:=B4 cols yg fn ie;replace hk:∀h',Le h h'->k (.int .i64 (bD cols yg ⟨fn,ie⟩)) h':=hk;generalize bD cols yg ⟨fn,ie⟩=D at *;refine ah A (ar T187.aA T187.bm) Tryz.func187 rfl (by kernel_rfl) ?_;cbv;rw[f1];by_cases h1:fn≠0
 ·rw[if_pos h1]at hP;subst hP;have ae:=hk h (Le.refl _);clear hk;rw[decide_eq_true h1];cbv;exact ae
 rw[if_neg h1]at hP;rw[decide_eq_false h1];cbv;repeat (first| (rw[ai A,ai A];refine av g rfl rfl ?_;cbv) | (rw[ai A];refine av g rfl rfl ?_;cbv) | (refine av g rfl rfl ?_;cbv) | (refine⟨⟨_,rfl,rfl⟩,?_⟩;cbv))
 rw[f2];by_cases h2:yg<0
 ·rw[if_pos h2]at hP;subst hP;have ae:=hk h (Le.refl _);clear hk;rw[decide_eq_true h2];cbv;exact ae
 rw[if_neg h2]at hP;rw[decide_eq_false h2];cbv;rw[f3];by_cases h3:im≠1
 ·have hP:D=3:=by
   rw[hP]
   match ie,Fs with
   | [],_=>rfl
   | [n],hm=>exact absurd hm h3
   |a::b::l,_=>rfl
  subst hP;have ae:=hk h (Le.refl _);clear hk;rw[decide_eq_true h3];cbv;exact ae
 have VE:im=1:=Decidable.not_not.1 h3;obtain⟨n,jR⟩:∃n,ie=[n]:=by
  match ie,Fs with
  | [],hm=>rw[VE]at hm;cases hm
  | [n],hm=>exact⟨n,rfl⟩
  |a::b::l,hm=>rw[VE]at hm;simp at hm
 subst jR;replace hP:D=if n.op≠2 then 3 else match dK n.name cols with
  | (k,e)=>if e≠0\/k≠yg then 3 else 0:=hP
 have hx:[n][0]? =some n:=rfl;have cU:ib.isSome=true/\(0:Int)<=0/\(0:Int)<(im:Int):=⟨qi.bu (by omega),by omega,by omega⟩;have fo:A .aG .neq n.op 2=decide (n.op≠2):=aB A ..;rw[decide_eq_false h3];cbv;refine⟨cU,?_⟩;cbv;refine qi.eE hx rfl (o:=0) (m:=1) (by decide) (fun cs aC=>?_);obtain⟨op,na,nb,⟨vk,vn,vs⟩,Yz⟩:=n;have aC:cs=[.int .i64 op,.int .i64 na,.int .i64 nb,.int .i64 vk,.int .i64 vn,.string vs,.string Yz]:=aC;subst aC;replace fo:A .aG .neq op 2=decide (op≠2):=fo;replace hP:D=if op≠2 then 3 else match dK Yz cols with
  | (k,e)=>if e≠0\/k≠yg then 3 else 0:=hP
 have um:Nm Yz:=(hi _ List.mem_cons_self).1;cbv;rw[fo];by_cases h4:op≠2
 ·rw[if_pos h4]at hP;subst hP;have ae:=hk h (Le.refl _);clear hk;rw[decide_eq_true h4];cbv;exact ae
 rw[if_neg h4]at hP;rw[decide_eq_false h4];cbv;refine⟨cU,?_⟩;cbv;refine qi.eE hx rfl (o:=6) (m:=1) (by decide) (fun cs aC=>?_);have aC:cs=[.int .i64 op,.int .i64 na,.int .i64 nb,.int .i64 vk,.int .i64 vn,.string vs,.string Yz]:=aC;subst aC;cbv;repeat (first| (rw[ai A,ai A];refine av g rfl rfl ?_;cbv) | (rw[ai A];refine av g rfl rfl ?_;cbv) | (refine av g rfl rfl ?_;cbv) | (refine⟨⟨_,rfl,rfl⟩,?_⟩;cbv))
 refine JE um hc q7 (fun h5 l5=>?_);generalize dK Yz cols=E at *;obtain⟨e1,e2⟩:=E;replace hP:D=if e2≠0\/e1≠yg then 3 else 0:=hP
 have g5:=l5 _ _ g;have hk:=fun z (hz:z=D)=>(by rw[hz];exact hk h5 l5:k (.int .i64 z) h5);have f5:A .aG .neq e2 0=decide (e2≠0):=aB A ..;have f6:A .aG .neq e1 yg=decide (e1≠yg):=aB A ..;cbv;rw[f5];by_cases h5':e2≠0
 ·rw[if_pos (.inl h5')]at hP;have ae:=hk 3 hP.symm;clear hk;rw[decide_eq_true h5'];cbv;exact ae
 ·rw[decide_eq_false h5'];cbv;repeat (first| (rw[ai A,ai A];refine av g5 rfl rfl ?_;cbv) | (rw[ai A];refine av g5 rfl rfl ?_;cbv) | (refine av g5 rfl rfl ?_;cbv) | (refine⟨⟨_,rfl,rfl⟩,?_⟩;cbv))
  rw[f6];by_cases h6:e1≠yg
  ·rw[if_pos (.inr h6)]at hP;have ae:=hk 3 hP.symm;clear hk;rw[decide_eq_true h6];cbv;exact ae
  ·rw[if_neg (by rintro(g|g)<;>contradiction)]at hP;have ae:=hk 0 hP.symm;clear hk;rw[decide_eq_false h6];cbv;exact ae
end Go.S
