import Derived.Test.YtekoaiendgjkdaaGreatQB
import Derived.Test.YtekoaiendgjkdaaGreatRd
import Derived.Test.YtekoaiendgjkdaaGreatSxC
set_option linter.unusedVariables false
set_option linter.unusedSimpArgs false
set_option linter.unusedSectionVars false
set_option maxRecDepth 100000
set_option maxHeartbeats 8000000
namespace Go.S
open Go.Sx Go.Proofs
def Bx{α:Type}(e:Nat)(s:Sh α)(B h:ad)(nb:Option Nat)(v:Value)(xs:List α):Prop:=
 (nb=none/\v=.slice none 0 0/\xs=[])\/∃j cap,nb=some j/\v=.slice (some ⟨j,0,none⟩) xs.length cap/\B j=none/\dq e s h j cap xs
theorem Bx.sl{α:Type}{e:Nat}{s:Sh α}{B h:ad}{nb:Option Nat}{v:Value}{xs:List α}(q:Bx e s B h nb v xs):Sl e s h v xs:=by
 rcases q with ⟨_,rfl,rfl⟩ | ⟨j,cap,_,rfl,_,o⟩
 ·exact Sl.nil
 ·exact o.sl rfl
theorem Bx.buf{α:Type}{e:Nat}{s:Sh α}{B h:ad}{nb:Option Nat}{v:Value}{xs:List α}(q:Bx e s B h nb v xs):cK e s B h v xs:=by
 rcases q with ⟨_,rfl,rfl⟩ | ⟨j,cap,_,rfl,hb,o⟩
 ·exact cK.nil
 ·exact o.buf hb rfl
theorem Bx.mono{α:Type}{e:Nat}{s:Sh α}{B h h':ad}{nb:Option Nat}{v:Value}{xs:List α}(q:Bx e s B h nb v xs)(l:bE (e::s.tys) h h'):Bx e s B h' nb v xs:=by
 rcases q with ⟨h1,h2,h3⟩ | ⟨j,cap,h1,h2,h3,o⟩
 ·exact .inl ⟨h1,h2,h3⟩
 ·exact .inr ⟨j,cap,h1,h2,h3,o.mono l⟩
theorem Bx.has{α:Type}{e:Nat}{s:Sh α}{B h:ad}{j:Nat}{v:Value}{xs:List α}(q:Bx e s B h (some j) v xs):∃c fr,h j=some (.cells c e fr):=by
 rcases q with ⟨h1,-⟩ | ⟨j',cap,h1,-,-,o⟩
 ·cases h1
 ·cases h1;obtain⟨c,g,-⟩:=o.out;exact⟨_,_,g⟩
theorem Bx.kp{α:Type}{e:Nat}{s:Sh α}{B h h':ad}{nb:Option Nat}{v:Value}{xs:List α}(q:Bx e s B h nb v xs){bs:List Nat}(k:Kp bs h h')(hn:∀j,nb=some j->j∉bs)(ht:bE s.tys h h'):Bx e s B h' nb v xs:=by
 rcases q with ⟨h1,h2,h3⟩ | ⟨j,cap,h1,h2,h3,o⟩
 ·exact .inl ⟨h1,h2,h3⟩
 ·exact .inr ⟨j,cap,h1,h2,h3,o.kp k (hn j h1) ht⟩
theorem Bx.app{α:Type}{e:Nat}{s:Sh α}{B h:ad}{nb:Option Nat}{b x:Option Addr}{len cap cx:Nat}{xs:List α}{y:α}(q:Bx e s B h nb (.slice b len cap) xs)(qv:Sl e s h (.slice x 1 cx) [y])(he:e∉s.tys){size bytes:Nat}(ll:size=s.n)(nU:bytes<=128)(hn:len+1<=2^39)(uc:Le B h)
 {k:Value->ad->Prop} (hk:∀j m c' h',Le B h'->Kp nb.toList h h'->bE s.tys h h'->(nb=some j\/h j=none)->Bx e s B h' (some j) (.slice (some ⟨j,0,none⟩) m c') (xs++[y])->k (.slice (some ⟨j,0,none⟩) m c') h'):
 ff h b len cap x 1 size bytes e k:=by
 have hlen:=q.sl.len;refine q.buf.Od qv he ll nU hn uc (fun m b' c' h' em l IC hb nh=>?_);have rP:∀j,b=some ⟨j,0,none⟩->nb=some j:=fun j hj=>by
  rcases q with ⟨_,h2,_⟩ | ⟨j',eU,h1,h2,_,_⟩
  ·cases h2;cases hj
  ·cases h2;cases hj;exact h1
 obtain⟨j,e1,e2,e3,o⟩:=hb.own (by omega);subst e1;have kp:Kp nb.toList h h':=fun i o' hi fI=>IC i o' hi (fun e=>fI (by rw[rP i e];simp));have lt:bE s.tys h h':=fun i d e' fr hm hi=>IC i _ hi (fun e1=>by
  have:=rP i e1;subst this;obtain⟨c,Fu,g⟩:=q.has;rw[g]at hi;cases hi;exact he hm)
 refine hk j m c' h' l kp lt ?_ (.inr ⟨j,c',rfl,by rw[<-e3],e2,o⟩);rcases nh j rfl with h1|h1|h1
 ·exact .inl (rP j h1)
 ·exact .inr h1
 ·omega
def zl:Value->List Nat
 | .slice (some a) _ _=>[a.block]
 |_=>[]
theorem Bx.me{α:Type}{e:Nat}{s:Sh α}{B h:ad}{nb:Option Nat}{v:Value}{xs:List α}(q:Bx e s B h nb v xs):zl v=nb.toList:=by rcases q with ⟨rfl,rfl,_⟩ | ⟨j,cap,rfl,rfl,_,_⟩<;>rfl
structure rH{α:Type}(e:Nat)(s:Sh α)(B h:ad)(v1:Value)(xs:List α)(v2:Value)(ys:List α):Prop where
 out:∃o1 o2,Bx e s B h o1 v1 xs/\Bx e s B h o2 v2 ys/\∀j,o1=some j->o2≠some j
theorem rH.symm{α:Type}{e:Nat}{s:Sh α}{B h:ad}{v1 v2:Value}{xs ys:List α}(q:rH e s B h v1 xs v2 ys):rH e s B h v2 ys v1 xs:=by obtain⟨o1,o2,h1,h2,h3⟩:=q.out;exact⟨o2,o1,h2,h1,fun j e1 e2=>h3 j e2 e1⟩
theorem rH.mono{α:Type}{e:Nat}{s:Sh α}{B h h':ad}{v1 v2:Value}{xs ys:List α}(q:rH e s B h v1 xs v2 ys)(l:bE (e::s.tys) h h'):rH e s B h' v1 xs v2 ys:=by obtain⟨o1,o2,h1,h2,h3⟩:=q.out;exact⟨o1,o2,h1.mono l,h2.mono l,h3⟩
theorem rH.has{α:Type}{e:Nat}{s:Sh α}{B h:ad}{v1 v2:Value}{xs ys:List α}(q:rH e s B h v1 xs v2 ys){j:Nat}(hj:j∈zl v1):∃c fr,h j=some (.cells c e fr):=by
 obtain⟨o1,o2,h1,h2,h3⟩:=q.out;rw[h1.me]at hj;cases o1 with
 |none=>cases hj
 |some i=>
  have:j=i:=by simpa using hj
  subst this;exact h1.has
theorem rH.tO{α:Type}{e:Nat}{s:Sh α}{B h:ad}{b x:Option Addr}{len cap cx:Nat}{v2:Value}{xs ys:List α}{y:α}(q:rH e s B h (.slice b len cap) xs v2 ys)(qv:Sl e s h (.slice x 1 cx) [y])(he:e∉s.tys){size bytes:Nat}(ll:size=s.n)(nU:bytes<=128)(hn:len+1<=2^39)(uc:Le B h)
 {k:Value->ad->Prop} (hk:∀j m c' h',Le B h'->Kp (zl (.slice b len cap)) h h'->bE s.tys h h'->rH e s B h' (.slice (some ⟨j,0,none⟩) m c') (xs++[y]) v2 ys->k (.slice (some ⟨j,0,none⟩) m c') h'):
 ff h b len cap x 1 size bytes e k:=by
 obtain⟨o1,o2,h1,h2,h3⟩:=q.out;refine h1.app qv he ll nU hn uc (fun j m c' h' l kp lt hj hb=>?_);refine hk j m c' h' l (by rw[h1.me];exact kp) lt ⟨some j,o2,hb,h2.kp kp (fun i hi hm=>?_) lt,fun i e1 e2=>?_⟩
 ·have:o1=some i:=by
   cases o1 with
   |none=>cases hm
   |some a=>have:i=a:=by simpa using hm
            rw[this]
  exact h3 i this hi
 ·cases e1;rcases hj with hj|hj
  ·exact h3 j hj e2
  ·subst e2;obtain⟨c,fr,g⟩:=h2.has;rw[g]at hj;cases hj
theorem cP{α:Type}{e e':Nat}{s:Sh α}{B h:ad}{v1 v2:Value}{xs ys:List α}(q:rH e s B h v1 xs v2 ys){n:Nat}{c:Array Value}{fr:Nat×Nat}(g:h n=some (.cells c e' fr))(bG:e'≠e):n∉zl v1:=fun hm=>by
 obtain⟨c',Fu,g'⟩:=q.has hm;rw[g]at g';cases g';exact bG rfl
theorem eM{α:Type}{e:Nat}{s:Sh α}{B h:ad}{v1 v2:Value}{xs ys:List α}(q:rH e s B h v1 xs v2 ys){n:Nat}(g:h n=none):n∉zl v1:=fun hm=>by
 obtain⟨c',Fu,g'⟩:=q.has hm;rw[g]at g';cases g'
def dV(w:List Nd)(cols:List bM)(f:Row->Row×Int)(r:Row)(xs ys:List Row):(List Row×List Row)×Int:=match cW w cols r with
 | (is,e)=>if e≠0 then((xs,ys),e)else if is=false then((xs,ys),0)else((xs++[r],ys++[(f r).1]),(f r).2)
structure C0(B h:ad)(rp fp:Nat)(xs ys:List Row):Prop where
 out:∃b1 n1 c1 b2 n2 c2,h rp=some (.cells #[.slice b1 n1 c1] 34 (0,0))/\h fp=some (.cells #[.slice b2 n2 c2] 34 (0,0))/\rH 59 az B h (.slice b1 n1 c1) xs (.slice b2 n2 c2) ys
 le:Le B h
 n1:B rp=none
 n2:B fp=none
 ne:rp≠fp
theorem C0.mono{B h h':ad}{rp fp:Nat}{xs ys:List Row}(q:C0 B h rp fp xs ys)(l:Le h h'):C0 B h' rp fp xs ys:=by obtain⟨b1,n1,c1,b2,n2,c2,g1,g2,tw⟩:=q.out;exact⟨⟨b1,n1,c1,b2,n2,c2,l _ _ g1,l _ _ g2,tw.mono (l.t _)⟩,q.le.trans l,q.n1,q.n2,q.ne⟩
theorem tU{α:Type}{e:Nat}{s:Sh α}{h h':ad}{t n c:Nat}{xs:List α}(q:Sl e s h (.slice (some ⟨t,0,none⟩) n c) xs){bs:List Nat}(k:Kp bs h h')(ht:t∉bs)(lt:bE s.tys h h'):Sl e s h' (.slice (some ⟨t,0,none⟩) n c) xs:=by
 obtain⟨b,cap,h1,h2,h3,h4⟩:=q.out;cases h1;refine⟨some ⟨t,0,none⟩,c,rfl,h2,h3,?_⟩;rcases h4 with h4| ⟨me,off,cc,fr,e1,g,r⟩
 ·exact .inl h4
 ·cases e1;exact .inr ⟨t,0,cc,fr,rfl,k _ _ g ht,r.mono lt⟩
theorem J4{p0 p1 p2:Value}{B h:ad}{rp fp:Nat}{xs ys:List Row}(qc:C0 B h rp fp xs ys)(qS:xs.length<=2^37)(Cj:ys.length<=2^37){pb:Nat}{d:DB}{s:Int}{st:aB}(q:di B pb d s st)(hx:eO st){wb cp tp:Nat}(gw:B wb=some (.cells #[.pointer (some ⟨pb,0,none⟩)] 99 (0,0)))
 {cols:List bM} (hc:∀c∈cols,Nm c.name) {cb:Option Addr} {cn cc:Nat} (gc:B cp=some (.cells #[.slice cb cn cc] 38 (0,0))) (vZ:Sl 165 aT B (.slice cb cn cc) cols) (gt:B tp=some (.cells #[.func (.func 89) #[] #[p0,p1,p2]] 180 (0,0)))
 {r:Row} (hr:∀v∈r,kO v) {rb:Option Addr} {rn rc:Nat} (qr:Sl 61 aQ h (.slice rb rn rc) r) {f:Row->Row×Int}
 (lN:∀h',Le B h'->Sl 61 aQ h' (.slice rb rn rc) r->Ct 89 [.slice rb rn rc,p0,p1,p2] h' (fun v fX=>∃b n c,v=.tuple #[.slice b n c,.int .i64 (f r).2]/\Le h' fX/\Sl 61 aQ fX (.slice b n c) (f r).1))
 {D:(List Row×List Row)×Int} (hD:D=dV st.bB cols f r xs ys) {k:Value->ad->Prop}
 (hk:∀h',C0 B h' rp fp D.1.1 D.1.2->k (.int .i64 D.2) h'):
 Ct 170 [.slice rb rn rc,.pointer (some ⟨wb,0,none⟩),.pointer (some ⟨cp,0,none⟩),.pointer (some ⟨tp,0,none⟩),.pointer (some ⟨rp,0,none⟩),.pointer (some ⟨fp,0,none⟩)] h k:=by
 obtain⟨A,hA⟩:=Ar.ex;replace hD:D=match cW st.bB cols r with
  | (is,e)=>if e≠0 then((xs,ys),e)else if is=false then((xs,ys),0)else((xs++[r],ys++[(f r).1]),(f r).2):=hD
 have l0:=qc.le;have Xe:=l0 _ _ gw;have Xp:=l0 _ _ gc;have Nq:=l0 _ _ gt;refine(q.mono l0).elim (fun Lj KH Lf Li KG Ld Lh KF Lb Lg KE K9 Gd EV FU Gc EU FT Gb B1 FR Ef Ae A6 Ga ET FQ sI sf sH g qd q1 q2 q3 q4 q5 q6=>?_);clear q1 q2 q3 q4 q5 qd;refine ah A (aq Ok.ax Ok.bm) Tryz.func170 rfl (by kernel_rfl) ?_;cbv;refine ar Xe rfl rfl ?_;cbv;first|rw[ai A,ai A] |rw[ai A] |skip
 refine ar g rfl rfl ?_;cbv;refine ar Xp rfl rfl ?_;cbv;refine yP hx.bB hc hr q6 (vZ.mono (l0.t _)) qr (fun h1 t e l1 ht=>?_);rw[<-ht]at hD;replace hD:D=if e≠0 then((xs,ys),e)else if t=false then((xs,ys),0)else((xs++[r],ys++[(f r).1]),(f r).2):=hD
 have fe:A .aF .neq e 0=decide (e≠0):=ay A ..;have pE:A .not t= !t:=by rw[hA.not]
 by_cases h0:e≠0
 ·rw[if_pos h0]at hD;subst hD;have af:=hk h1 (qc.mono l1);clear hk lN;cbv;rw[fe,decide_eq_true h0];cbv;exact af
 rw[if_neg h0]at hD;have e0:e=0:=Decidable.not_not.1 h0;subst e0;cases t with
 |false=>rw[if_pos rfl]at hD;subst hD;have af:=hk h1 (qc.mono l1);clear hk lN;cbv;rw[fe,decide_eq_false h0];cbv;rw[pE];cbv;exact af
 |true=>
  rw[if_neg (by simp)]at hD;subst hD;have Bt:=l1 _ _ Nq;have th:=lN h1 (l0.trans l1) (qr.mono (l1.t _));have Ve:=qc.mono l1;have UZ:=qr.mono (l1.t _);clear lN Xp Xe Nq g q6;generalize f r=fr at *;obtain⟨nr,ne⟩:=fr;replace hk:∀h',C0 B h' rp fp (xs++[r]) (ys++[nr])->k (.int .i64 ne) h':=hk;cbv;rw[fe,decide_eq_false h0];cbv;rw[pE];cbv;refine ar Bt rfl rfl ?_;cbv;refine th.mono (fun v hs hR=>?_);obtain⟨nb,nn,nc,hv,ls,qn⟩:=hR;subst hv;have EK:=Ve.mono ls;have qr:=UZ.mono (ls.t _);have lB:=EK.le;have sy:=EK.n1;have sw:=EK.n2;have bG:=EK.ne;clear th Ve UZ Bt;obtain⟨b1,n1,c1,b2,n2,c2,g1,g2,tw⟩:=EK.out;have ju:n1+1<=2^39:=by
   have h1:n1=xs.length:=by obtain⟨o1,o2,h1,h2,h3⟩:=tw.out;exact h1.sl.len
   omega
  have iu:n2+1<=2^39:=by
   have h1:n2=ys.length:=by obtain⟨o1,o2,h1,h2,h3⟩:=tw.out;exact h2.sl.len
   omega
  clear EK qc;cbv;refine ar g1 rfl rfl ?_;cbv;refine ar g2 rfl rfl ?_;cbv;refine⟨?_,?_⟩
  ·skip;intro t2 ha f2 e2;have so:Le hs ha:=by rw[e2];exact Le.set f2
   have v2:Sl 59 az ha (.slice (some ⟨t2,0,none⟩) 1 1) [r]:=bp (s:=az) ((congrFun e2 t2).trans ae) ⟨_,rfl,qr.mono (so.t _)⟩;have g1:=so _ _ g1;have g2:=so _ _ g2;have nt1:t2∉zl (.slice b1 n1 c1):=eM tw f2;have nt2:=eM tw.symm f2;have lB:=lB.trans so;have qn:=qn.mono (so.t _);have tw:=tw.mono (so.t _);clear e2;cbv;refine ar g2 rfl rfl ?_;cbv;refine⟨⟨_,rfl,rfl⟩,?_⟩;cbv;refine ar g1 rfl rfl ?_;cbv;refine⟨⟨_,rfl,rfl⟩,?_⟩;cbv;refine⟨?_,?_⟩
   ·skip;refine tw.tO v2 (by decide) rfl (by decide) ju lB (fun j1 m1 k1 hb lB kp lt rV=>?_);have lI:=kp _ _ g1 (cP tw g1 (by decide));have iF:=kp _ _ g2 (cP tw g2 (by decide));have qn:=qn.mono (lt.sub (by decide));cbv;refine ar iF rfl rfl ?_;cbv;refine⟨⟨_,rfl,rfl⟩,?_⟩;cbv;intro t6 hc f6 e6;have Im:Le hb hc:=by rw[e6];exact Le.set f6
    have v6:Sl 59 az hc (.slice (some ⟨t6,0,none⟩) 1 1) [nr]:=bp (s:=az) ((congrFun e6 t6).trans ae) ⟨_,rfl,qn.mono (Im.t _)⟩;have lI:=Im _ _ lI;have iF:=Im _ _ iF;have lB:=lB.trans Im;have rV:=rV.mono (Im.t _);clear e6;cbv;refine ar iF rfl rfl ?_;cbv;refine⟨⟨_,rfl,rfl⟩,?_⟩;cbv;refine rV.symm.tO v6 (by decide) rfl (by decide) iu lB (fun j2 m2 k2 h7 lB rN Gl He=>?_);have g1:=rN _ _ lI (cP rV.symm lI (by decide));have g2:=rN _ _ iF (cP rV.symm iF (by decide));cbv;refine eH g1 (by simp) (fun h8 e8=>?_);have Ag:bE [59,61] h7 h8:=by rw[e8];exact bE.set g1 (by decide)
    have g1:h8 rp=some (.cells #[.slice (some ⟨j1,0,none⟩) m1 k1] 34 (0,0)):=by rw[e8];exact ae
    have g2:h8 fp=some (.cells #[.slice b2 n2 c2] 34 (0,0)):=by rw[e8,av (Ne.symm bG)];exact g2
    have Ip:Le B h8:=fun b o hb=>by rw[e8,av (fun e=>by rw[e,sy]at hb;cases hb)];exact lB _ _ hb
    have Hd:=He.mono Ag;clear e8 Ag;cbv;refine eH g2 (by simp) (fun h9 e9=>?_);have nI:bE [59,61] h8 h9:=by rw[e9];exact bE.set g2 (by decide)
    have af:=hk h9 ⟨⟨_,_,_,_,_,_,(by rw[e9,av bG];exact g1),(by rw[e9];exact ae),(Hd.mono nI).symm⟩,(fun b o hb=>by rw[e9,av (fun e=>by rw[e,sw]at hb;cases hb)];exact Ip _ _ hb),sy,sw,bG⟩;clear hk e9 nI;cbv;exact af
   ·skip;intro t6 hb f6 e6;have sh:Le ha hb:=by rw[e6];exact Le.set f6
    have v6:Sl 59 az hb (.slice (some ⟨t6,0,none⟩) 1 1) [nr]:=bp (s:=az) ((congrFun e6 t6).trans ae) ⟨_,rfl,qn.mono (sh.t _)⟩;have g1:=sh _ _ g1;have g2:=sh _ _ g2;have QE:=eM tw f6;have lB:=lB.trans sh;have tw:=tw.mono (sh.t _);clear e6;have v2:=v2.mono (sh.t _);cbv;refine ar g2 rfl rfl ?_;cbv;refine⟨⟨_,rfl,rfl⟩,?_⟩;cbv;refine ar g1 rfl rfl ?_;cbv;refine⟨⟨_,rfl,rfl⟩,?_⟩;cbv;refine tw.tO v2 (by decide) rfl (by decide) ju lB (fun j1 m1 k1 hc lB kp lt rV=>?_);have lI:=kp _ _ g1 (cP tw g1 (by decide));have iF:=kp _ _ g2 (cP tw g2 (by decide));have v6:=tU v6 kp QE lt;cbv;refine ar iF rfl rfl ?_;cbv;refine⟨⟨_,rfl,rfl⟩,?_⟩;cbv;refine rV.symm.tO v6 (by decide) rfl (by decide) iu lB (fun j2 m2 k2 h7 lB rN Gl He=>?_);have g1:=rN _ _ lI (cP rV.symm lI (by decide));have g2:=rN _ _ iF (cP rV.symm iF (by decide));cbv;refine eH g1 (by simp) (fun h8 e8=>?_);have Ag:bE [59,61] h7 h8:=by rw[e8];exact bE.set g1 (by decide)
    have g1:h8 rp=some (.cells #[.slice (some ⟨j1,0,none⟩) m1 k1] 34 (0,0)):=by rw[e8];exact ae
    have g2:h8 fp=some (.cells #[.slice b2 n2 c2] 34 (0,0)):=by rw[e8,av (Ne.symm bG)];exact g2
    have Ip:Le B h8:=fun b o hb=>by rw[e8,av (fun e=>by rw[e,sy]at hb;cases hb)];exact lB _ _ hb
    have Hd:=He.mono Ag;clear e8 Ag;cbv;refine eH g2 (by simp) (fun h9 e9=>?_);have nI:bE [59,61] h8 h9:=by rw[e9];exact bE.set g2 (by decide)
    have af:=hk h9 ⟨⟨_,_,_,_,_,_,(by rw[e9,av bG];exact g1),(by rw[e9];exact ae),(Hd.mono nI).symm⟩,(fun b o hb=>by rw[e9,av (fun e=>by rw[e,sw]at hb;cases hb)];exact Ip _ _ hb),sy,sw,bG⟩;clear hk e9 nI;cbv;exact af
  ·skip;intro t6 ha f6 e6;have so:Le hs ha:=by rw[e6];exact Le.set f6
   have v6:Sl 59 az ha (.slice (some ⟨t6,0,none⟩) 1 1) [nr]:=bp (s:=az) ((congrFun e6 t6).trans ae) ⟨_,rfl,qn.mono (so.t _)⟩;have g1:=so _ _ g1;have g2:=so _ _ g2;have QE:=eM tw f6;have lB:=lB.trans so;have qr:=qr.mono (so.t _);have tw:=tw.mono (so.t _);clear e6;cbv;refine ar g2 rfl rfl ?_;cbv;refine⟨⟨_,rfl,rfl⟩,?_⟩;cbv;refine ar g1 rfl rfl ?_;cbv;refine⟨⟨_,rfl,rfl⟩,?_⟩;cbv;intro t2 hb f2 e2;have sh:Le ha hb:=by rw[e2];exact Le.set f2
   have v2:Sl 59 az hb (.slice (some ⟨t2,0,none⟩) 1 1) [r]:=bp (s:=az) ((congrFun e2 t2).trans ae) ⟨_,rfl,qr.mono (sh.t _)⟩;have g1:=sh _ _ g1;have g2:=sh _ _ g2;have nt1:t2∉zl (.slice b1 n1 c1):=eM tw f2;have nt2:=eM tw.symm f2;have lB:=lB.trans sh;have tw:=tw.mono (sh.t _);clear e2;have v6:=v6.mono (sh.t _);cbv;refine ar g2 rfl rfl ?_;cbv;refine⟨⟨_,rfl,rfl⟩,?_⟩;cbv;refine ar g1 rfl rfl ?_;cbv;refine⟨⟨_,rfl,rfl⟩,?_⟩;cbv;refine tw.tO v2 (by decide) rfl (by decide) ju lB (fun j1 m1 k1 hc lB kp lt rV=>?_);have lI:=kp _ _ g1 (cP tw g1 (by decide));have iF:=kp _ _ g2 (cP tw g2 (by decide));have v6:=tU v6 kp QE lt;cbv;refine ar iF rfl rfl ?_;cbv;refine⟨⟨_,rfl,rfl⟩,?_⟩;cbv;refine rV.symm.tO v6 (by decide) rfl (by decide) iu lB (fun j2 m2 k2 h7 lB rN Gl He=>?_);have g1:=rN _ _ lI (cP rV.symm lI (by decide));have g2:=rN _ _ iF (cP rV.symm iF (by decide));cbv;refine eH g1 (by simp) (fun h8 e8=>?_);have Ag:bE [59,61] h7 h8:=by rw[e8];exact bE.set g1 (by decide)
   have g1:h8 rp=some (.cells #[.slice (some ⟨j1,0,none⟩) m1 k1] 34 (0,0)):=by rw[e8];exact ae
   have g2:h8 fp=some (.cells #[.slice b2 n2 c2] 34 (0,0)):=by rw[e8,av (Ne.symm bG)];exact g2
   have Ip:Le B h8:=fun b o hb=>by rw[e8,av (fun e=>by rw[e,sy]at hb;cases hb)];exact lB _ _ hb
   have Hd:=He.mono Ag;clear e8 Ag;cbv;refine eH g2 (by simp) (fun h9 e9=>?_);have nI:bE [59,61] h8 h9:=by rw[e9];exact bE.set g2 (by decide)
   have af:=hk h9 ⟨⟨_,_,_,_,_,_,(by rw[e9,av bG];exact g1),(by rw[e9];exact ae),(Hd.mono nI).symm⟩,(fun b o hb=>by rw[e9,av (fun e=>by rw[e,sw]at hb;cases hb)];exact Ip _ _ hb),sy,sw,bG⟩;clear hk e9 nI;cbv;exact af
theorem J5{B h:ad}{rp fp:Nat}{xs ys:List Row}(qc:C0 B h rp fp xs ys)(qS:xs.length<=2^37)(Cj:ys.length<=2^37){pb:Nat}{d:DB}{s:Int}{st:aB}(q:di B pb d s st)(hx:eO st){wb cp tp:Nat}(gw:B wb=some (.cells #[.pointer (some ⟨pb,0,none⟩)] 99 (0,0)))
 {cols:List bM} (hc:∀c∈cols,Nm c.name) {cb:Option Addr} {cn cc:Nat} (gc:B cp=some (.cells #[.slice cb cn cc] 38 (0,0))) (vZ:Sl 165 aT B (.slice cb cn cc) cols) (gt:B tp=some (.cells #[.func (.func 97) #[] #[]] 180 (0,0)))
 {r:Row} (hr:∀v∈r,kO v) {rb:Option Addr} {rn rc:Nat} (qr:Sl 61 aQ h (.slice rb rn rc) r) {f:Row->Row×Int}
 (lN:∀h',Le B h'->Sl 61 aQ h' (.slice rb rn rc) r->Ct 97 [.slice rb rn rc] h' (fun v fX=>∃b n c,v=.tuple #[.slice b n c,.int .i64 (f r).2]/\Le h' fX/\Sl 61 aQ fX (.slice b n c) (f r).1))
 {D:(List Row×List Row)×Int} (hD:D=dV st.bB cols f r xs ys) {k:Value->ad->Prop}
 (hk:∀h',C0 B h' rp fp D.1.1 D.1.2->k (.int .i64 D.2) h'):
 Ct 170 [.slice rb rn rc,.pointer (some ⟨wb,0,none⟩),.pointer (some ⟨cp,0,none⟩),.pointer (some ⟨tp,0,none⟩),.pointer (some ⟨rp,0,none⟩),.pointer (some ⟨fp,0,none⟩)] h k:=by
 obtain⟨A,hA⟩:=Ar.ex;replace hD:D=match cW st.bB cols r with
  | (is,e)=>if e≠0 then((xs,ys),e)else if is=false then((xs,ys),0)else((xs++[r],ys++[(f r).1]),(f r).2):=hD
 have l0:=qc.le;have Xe:=l0 _ _ gw;have Xp:=l0 _ _ gc;have Nq:=l0 _ _ gt;refine(q.mono l0).elim (fun Lj KH Lf Li KG Ld Lh KF Lb Lg KE K9 Gd EV FU Gc EU FT Gb B1 FR Ef Ae A6 Ga ET FQ sI sf sH g qd q1 q2 q3 q4 q5 q6=>?_);clear q1 q2 q3 q4 q5 qd;refine ah A (aq Ok.ax Ok.bm) Tryz.func170 rfl (by kernel_rfl) ?_;cbv;refine ar Xe rfl rfl ?_;cbv;first|rw[ai A,ai A] |rw[ai A] |skip
 refine ar g rfl rfl ?_;cbv;refine ar Xp rfl rfl ?_;cbv;refine yP hx.bB hc hr q6 (vZ.mono (l0.t _)) qr (fun h1 t e l1 ht=>?_);rw[<-ht]at hD;replace hD:D=if e≠0 then((xs,ys),e)else if t=false then((xs,ys),0)else((xs++[r],ys++[(f r).1]),(f r).2):=hD
 have fe:A .aF .neq e 0=decide (e≠0):=ay A ..;have pE:A .not t= !t:=by rw[hA.not]
 by_cases h0:e≠0
 ·rw[if_pos h0]at hD;subst hD;have af:=hk h1 (qc.mono l1);clear hk lN;cbv;rw[fe,decide_eq_true h0];cbv;exact af
 rw[if_neg h0]at hD;have e0:e=0:=Decidable.not_not.1 h0;subst e0;cases t with
 |false=>rw[if_pos rfl]at hD;subst hD;have af:=hk h1 (qc.mono l1);clear hk lN;cbv;rw[fe,decide_eq_false h0];cbv;rw[pE];cbv;exact af
 |true=>
  rw[if_neg (by simp)]at hD;subst hD;have Bt:=l1 _ _ Nq;have th:=lN h1 (l0.trans l1) (qr.mono (l1.t _));have Ve:=qc.mono l1;have UZ:=qr.mono (l1.t _);clear lN Xp Xe Nq g q6;generalize f r=fr at *;obtain⟨nr,ne⟩:=fr;replace hk:∀h',C0 B h' rp fp (xs++[r]) (ys++[nr])->k (.int .i64 ne) h':=hk;cbv;rw[fe,decide_eq_false h0];cbv;rw[pE];cbv;refine ar Bt rfl rfl ?_;cbv;refine th.mono (fun v hs hR=>?_);obtain⟨nb,nn,nc,hv,ls,qn⟩:=hR;subst hv;have EK:=Ve.mono ls;have qr:=UZ.mono (ls.t _);have lB:=EK.le;have sy:=EK.n1;have sw:=EK.n2;have bG:=EK.ne;clear th Ve UZ Bt;obtain⟨b1,n1,c1,b2,n2,c2,g1,g2,tw⟩:=EK.out;have ju:n1+1<=2^39:=by
   have h1:n1=xs.length:=by obtain⟨o1,o2,h1,h2,h3⟩:=tw.out;exact h1.sl.len
   omega
  have iu:n2+1<=2^39:=by
   have h1:n2=ys.length:=by obtain⟨o1,o2,h1,h2,h3⟩:=tw.out;exact h2.sl.len
   omega
  clear EK qc;cbv;refine ar g1 rfl rfl ?_;cbv;refine ar g2 rfl rfl ?_;cbv;refine⟨?_,?_⟩
  ·skip;intro t2 ha f2 e2;have so:Le hs ha:=by rw[e2];exact Le.set f2
   have v2:Sl 59 az ha (.slice (some ⟨t2,0,none⟩) 1 1) [r]:=bp (s:=az) ((congrFun e2 t2).trans ae) ⟨_,rfl,qr.mono (so.t _)⟩;have g1:=so _ _ g1;have g2:=so _ _ g2;have nt1:t2∉zl (.slice b1 n1 c1):=eM tw f2;have nt2:=eM tw.symm f2;have lB:=lB.trans so;have qn:=qn.mono (so.t _);have tw:=tw.mono (so.t _);clear e2;cbv;refine ar g2 rfl rfl ?_;cbv;refine⟨⟨_,rfl,rfl⟩,?_⟩;cbv;refine ar g1 rfl rfl ?_;cbv;refine⟨⟨_,rfl,rfl⟩,?_⟩;cbv;refine⟨?_,?_⟩
   ·skip;refine tw.tO v2 (by decide) rfl (by decide) ju lB (fun j1 m1 k1 hb lB kp lt rV=>?_);have lI:=kp _ _ g1 (cP tw g1 (by decide));have iF:=kp _ _ g2 (cP tw g2 (by decide));have qn:=qn.mono (lt.sub (by decide));cbv;refine ar iF rfl rfl ?_;cbv;refine⟨⟨_,rfl,rfl⟩,?_⟩;cbv;intro t6 hc f6 e6;have Im:Le hb hc:=by rw[e6];exact Le.set f6
    have v6:Sl 59 az hc (.slice (some ⟨t6,0,none⟩) 1 1) [nr]:=bp (s:=az) ((congrFun e6 t6).trans ae) ⟨_,rfl,qn.mono (Im.t _)⟩;have lI:=Im _ _ lI;have iF:=Im _ _ iF;have lB:=lB.trans Im;have rV:=rV.mono (Im.t _);clear e6;cbv;refine ar iF rfl rfl ?_;cbv;refine⟨⟨_,rfl,rfl⟩,?_⟩;cbv;refine rV.symm.tO v6 (by decide) rfl (by decide) iu lB (fun j2 m2 k2 h7 lB rN Gl He=>?_);have g1:=rN _ _ lI (cP rV.symm lI (by decide));have g2:=rN _ _ iF (cP rV.symm iF (by decide));cbv;refine eH g1 (by simp) (fun h8 e8=>?_);have Ag:bE [59,61] h7 h8:=by rw[e8];exact bE.set g1 (by decide)
    have g1:h8 rp=some (.cells #[.slice (some ⟨j1,0,none⟩) m1 k1] 34 (0,0)):=by rw[e8];exact ae
    have g2:h8 fp=some (.cells #[.slice b2 n2 c2] 34 (0,0)):=by rw[e8,av (Ne.symm bG)];exact g2
    have Ip:Le B h8:=fun b o hb=>by rw[e8,av (fun e=>by rw[e,sy]at hb;cases hb)];exact lB _ _ hb
    have Hd:=He.mono Ag;clear e8 Ag;cbv;refine eH g2 (by simp) (fun h9 e9=>?_);have nI:bE [59,61] h8 h9:=by rw[e9];exact bE.set g2 (by decide)
    have af:=hk h9 ⟨⟨_,_,_,_,_,_,(by rw[e9,av bG];exact g1),(by rw[e9];exact ae),(Hd.mono nI).symm⟩,(fun b o hb=>by rw[e9,av (fun e=>by rw[e,sw]at hb;cases hb)];exact Ip _ _ hb),sy,sw,bG⟩;clear hk e9 nI;cbv;exact af
   ·skip;intro t6 hb f6 e6;have sh:Le ha hb:=by rw[e6];exact Le.set f6
    have v6:Sl 59 az hb (.slice (some ⟨t6,0,none⟩) 1 1) [nr]:=bp (s:=az) ((congrFun e6 t6).trans ae) ⟨_,rfl,qn.mono (sh.t _)⟩;have g1:=sh _ _ g1;have g2:=sh _ _ g2;have QE:=eM tw f6;have lB:=lB.trans sh;have tw:=tw.mono (sh.t _);clear e6;have v2:=v2.mono (sh.t _);cbv;refine ar g2 rfl rfl ?_;cbv;refine⟨⟨_,rfl,rfl⟩,?_⟩;cbv;refine ar g1 rfl rfl ?_;cbv;refine⟨⟨_,rfl,rfl⟩,?_⟩;cbv;refine tw.tO v2 (by decide) rfl (by decide) ju lB (fun j1 m1 k1 hc lB kp lt rV=>?_);have lI:=kp _ _ g1 (cP tw g1 (by decide));have iF:=kp _ _ g2 (cP tw g2 (by decide));have v6:=tU v6 kp QE lt;cbv;refine ar iF rfl rfl ?_;cbv;refine⟨⟨_,rfl,rfl⟩,?_⟩;cbv;refine rV.symm.tO v6 (by decide) rfl (by decide) iu lB (fun j2 m2 k2 h7 lB rN Gl He=>?_);have g1:=rN _ _ lI (cP rV.symm lI (by decide));have g2:=rN _ _ iF (cP rV.symm iF (by decide));cbv;refine eH g1 (by simp) (fun h8 e8=>?_);have Ag:bE [59,61] h7 h8:=by rw[e8];exact bE.set g1 (by decide)
    have g1:h8 rp=some (.cells #[.slice (some ⟨j1,0,none⟩) m1 k1] 34 (0,0)):=by rw[e8];exact ae
    have g2:h8 fp=some (.cells #[.slice b2 n2 c2] 34 (0,0)):=by rw[e8,av (Ne.symm bG)];exact g2
    have Ip:Le B h8:=fun b o hb=>by rw[e8,av (fun e=>by rw[e,sy]at hb;cases hb)];exact lB _ _ hb
    have Hd:=He.mono Ag;clear e8 Ag;cbv;refine eH g2 (by simp) (fun h9 e9=>?_);have nI:bE [59,61] h8 h9:=by rw[e9];exact bE.set g2 (by decide)
    have af:=hk h9 ⟨⟨_,_,_,_,_,_,(by rw[e9,av bG];exact g1),(by rw[e9];exact ae),(Hd.mono nI).symm⟩,(fun b o hb=>by rw[e9,av (fun e=>by rw[e,sw]at hb;cases hb)];exact Ip _ _ hb),sy,sw,bG⟩;clear hk e9 nI;cbv;exact af
  ·skip;intro t6 ha f6 e6;have so:Le hs ha:=by rw[e6];exact Le.set f6
   have v6:Sl 59 az ha (.slice (some ⟨t6,0,none⟩) 1 1) [nr]:=bp (s:=az) ((congrFun e6 t6).trans ae) ⟨_,rfl,qn.mono (so.t _)⟩;have g1:=so _ _ g1;have g2:=so _ _ g2;have QE:=eM tw f6;have lB:=lB.trans so;have qr:=qr.mono (so.t _);have tw:=tw.mono (so.t _);clear e6;cbv;refine ar g2 rfl rfl ?_;cbv;refine⟨⟨_,rfl,rfl⟩,?_⟩;cbv;refine ar g1 rfl rfl ?_;cbv;refine⟨⟨_,rfl,rfl⟩,?_⟩;cbv;intro t2 hb f2 e2;have sh:Le ha hb:=by rw[e2];exact Le.set f2
   have v2:Sl 59 az hb (.slice (some ⟨t2,0,none⟩) 1 1) [r]:=bp (s:=az) ((congrFun e2 t2).trans ae) ⟨_,rfl,qr.mono (sh.t _)⟩;have g1:=sh _ _ g1;have g2:=sh _ _ g2;have nt1:t2∉zl (.slice b1 n1 c1):=eM tw f2;have nt2:=eM tw.symm f2;have lB:=lB.trans sh;have tw:=tw.mono (sh.t _);clear e2;have v6:=v6.mono (sh.t _);cbv;refine ar g2 rfl rfl ?_;cbv;refine⟨⟨_,rfl,rfl⟩,?_⟩;cbv;refine ar g1 rfl rfl ?_;cbv;refine⟨⟨_,rfl,rfl⟩,?_⟩;cbv;refine tw.tO v2 (by decide) rfl (by decide) ju lB (fun j1 m1 k1 hc lB kp lt rV=>?_);have lI:=kp _ _ g1 (cP tw g1 (by decide));have iF:=kp _ _ g2 (cP tw g2 (by decide));have v6:=tU v6 kp QE lt;cbv;refine ar iF rfl rfl ?_;cbv;refine⟨⟨_,rfl,rfl⟩,?_⟩;cbv;refine rV.symm.tO v6 (by decide) rfl (by decide) iu lB (fun j2 m2 k2 h7 lB rN Gl He=>?_);have g1:=rN _ _ lI (cP rV.symm lI (by decide));have g2:=rN _ _ iF (cP rV.symm iF (by decide));cbv;refine eH g1 (by simp) (fun h8 e8=>?_);have Ag:bE [59,61] h7 h8:=by rw[e8];exact bE.set g1 (by decide)
   have g1:h8 rp=some (.cells #[.slice (some ⟨j1,0,none⟩) m1 k1] 34 (0,0)):=by rw[e8];exact ae
   have g2:h8 fp=some (.cells #[.slice b2 n2 c2] 34 (0,0)):=by rw[e8,av (Ne.symm bG)];exact g2
   have Ip:Le B h8:=fun b o hb=>by rw[e8,av (fun e=>by rw[e,sy]at hb;cases hb)];exact lB _ _ hb
   have Hd:=He.mono Ag;clear e8 Ag;cbv;refine eH g2 (by simp) (fun h9 e9=>?_);have nI:bE [59,61] h8 h9:=by rw[e9];exact bE.set g2 (by decide)
   have af:=hk h9 ⟨⟨_,_,_,_,_,_,(by rw[e9,av bG];exact g1),(by rw[e9];exact ae),(Hd.mono nI).symm⟩,(fun b o hb=>by rw[e9,av (fun e=>by rw[e,sw]at hb;cases hb)];exact Ip _ _ hb),sy,sw,bG⟩;clear hk e9 nI;cbv;exact af
theorem ud{s:ByteArray}:TA s↔∀c∈s.data.toList,c.toNat<128:=by
 constructor
 ·intro h c hc;obtain⟨i,hi,rfl⟩:=List.mem_iff_getElem.1 hc;have:=h i (by simpa using hi);rw[Array.getD_eq_getD_getElem?]at this;rw[Array.getElem?_eq_getElem (by simpa using hi)]at this;simpa using this
 ·intro h i hi;have ta:i<s.data.size:=hi;rw[Array.getD_eq_getD_getElem?,Array.getElem?_eq_getElem ta];exact h _ (by simp)
theorem Eg{a b:ByteArray}(ha:TA a)(hb:TA b):TA (a++b):=by
 rw[ud]at *;intro c hc;have e:(a++b).data=a.data++b.data:=by simp
 rw[e,Array.toList_append]at hc;rcases List.mem_append.1 hc with hc|hc
 ·exact ha c hc
 ·exact hb c hc
structure CY(s:ByteArray):Prop where
 UB:TA s
 sz:s.size<=2^30
theorem CY.nm{s:ByteArray}(h:CY s):Nm s:=⟨h.UB,by have:=h.sz;omega⟩
theorem lp{nm:ByteArray}(h:CY nm){c:bM}(hc:CY c.name):Nm (ja nm c).name:=by
 refine⟨Eg (Eg h.UB (fun i hi=>?_)) hc.UB,?_⟩
 ·have:i<1:=hi;have:i=0:=by omega
  subst this;decide
 ·show(nm++aC [46]++c.name).size<=_;rw[ByteArray.size_append,ByteArray.size_append];have e:(aC [46]).size=1:=rfl;have:=h.sz;have:=hc.sz;omega
theorem iA(w:List Nd)(cols:List bM)(f:Row->Row×Int)(r:Row)(rs:List Row)(xs ys:List Row):cR w cols f (r::rs) (xs,ys)=
 if(dV w cols f r xs ys).2≠0 then dV w cols f r xs ys else cR w cols f rs (dV w cols f r xs ys).1:=by
 show(match cW w cols r with
  | (is,e)=>if e≠0 then((xs,ys),e)else if is=false then cR w cols f rs (xs,ys)else match f r with
   | (n,e)=>if e≠0 then((xs++[r],ys++[n]),e)else cR w cols f rs (xs++[r],ys++[n]))=_
 unfold dV;generalize cW w cols r=H;obtain⟨is,e⟩:=H;generalize f r=fr;obtain⟨n,e2⟩:=fr;by_cases h0:e=0
 ·subst h0;cases is with
  |false=>simp
  |true=>
   by_cases h2:e2=0
   ·simp[h2]
   ·simp[h2]
 ·simp[h0]
theorem ny{w:List Nd}{cols:List bM}{f:Row->Row×Int}{r:Row}{xs ys:List Row}{i:Nat}(h1:xs.length<=i)(h2:ys.length<=i):(dV w cols f r xs ys).1.1.length<=i+1/\(dV w cols f r xs ys).1.2.length<=i+1:=by
 unfold dV;generalize cW w cols r=H;obtain⟨is,e⟩:=H;by_cases h0:e=0
 ·cases is
  ·simp[h0];omega
  ·simp[h0];omega
 ·simp[h0];omega
theorem NQ{p0 p1 p2:Value}{h:ad}{pb:Nat}{d:DB}{s:Int}{st:aB}(q:di h pb d s st)(hx:eO st){T:cg}(vg:CY T.S.name)(hc:∀c∈T.S.cols,CY c.name)(fI:∀r∈T.rows,∀v∈r,kO v)(hlen:T.rows.length<=2^36)
 {cb:Option Addr} {cn cc:Nat} (vZ:Sl 165 aT h (.slice cb cn cc) T.S.cols) {tb:Option Addr} {tn tc:Nat} (L4:Sl 59 az h (.slice tb tn tc) T.rows) {f:Row->Row×Int}
 (lN:∀h' r rb rn rc,Le h h'->r∈T.rows->Sl 61 aQ h' (.slice rb rn rc) r->Ct 89 [.slice rb rn rc,p0,p1,p2] h' (fun v fX=>∃b n c,v=.tuple #[.slice b n c,.int .i64 (f r).2]/\Le h' fX/\Sl 61 aQ fX (.slice b n c) (f r).1))
 {D:(List Row×List Row)×Int} (hD:D=cR st.bB (aE T) f T.rows ([],[])) {k:Value->ad->Prop}
 (hk:∀h' b1 n1 c1 b2 n2 c2,Le h h'->Sl 59 az h' (.slice b1 n1 c1) D.1.1->Sl 59 az h' (.slice b2 n2 c2) D.1.2->k (.tuple #[.slice b1 n1 c1,.slice b2 n2 c2,.int .i64 D.2]) h'):
 Ct 88 [.pointer (some ⟨pb,0,none⟩),.agg #[.string T.S.name,.slice cb cn cc,.int .i64 T.S.key,.bool T.S.only,.slice tb tn tc],.func (.func 89) #[] #[p0,p1,p2]] h k:=by
 obtain⟨A,hA⟩:=Ar.ex;have MM:=L4.len;rw[jy]at hD;obtain⟨⟨Hh,gM,PY,Hg⟩,lM⟩:=T;replace hD:D=cR st.bB (gM.map (ja Hh)) f lM ([],[]):=hD;have KW:∀c∈gM.map (ja Hh),Nm c.name:=fun c sC=>by
  obtain⟨c0,h1,h2⟩:=List.mem_map.1 sC;rw[<-h2];exact lp vg (hc c0 h1)
 replace MM:tn=lM.length:=MM;replace hlen:lM.length<=2^36:=hlen;obtain⟨⟨Ls,Lr⟩,De⟩:=D;replace hk:∀h' b1 n1 c1 b2 n2 c2,Le h h'->Sl 59 az h' (.slice b1 n1 c1) Ls->Sl 59 az h' (.slice b2 n2 c2) Lr->k (.tuple #[.slice b1 n1 c1,.slice b2 n2 c2,.int .i64 De]) h':=hk;refine ah A (aq T88.ax T88.bm) Tryz.func88 rfl (by kernel_rfl) ?_;cbv;intro wb h1 f1 e1;have l1:Le h h1:=by rw[e1];exact Le.set f1
 have gw:h1 wb=some (.cells #[.pointer (some ⟨pb,0,none⟩)] 99 (0,0)):=by rw[e1];exact ae
 clear e1;cbv;intro tp h2 f2 e2;have l2:Le h1 h2:=by rw[e2];exact Le.set f2
 have gt:h2 tp=some (.cells #[.func (.func 89) #[] #[p0,p1,p2]] 180 (0,0)):=by rw[e2];exact ae
 clear e2;cbv;intro rp h3 f3 e3;have l3:Le h2 h3:=by rw[e3];exact Le.set f3
 have gr:h3 rp=some (.cells #[.slice none 0 0] 34 (0,0)):=by rw[e3];exact ae
 clear e3;cbv;intro fp h4 f4 e4;have l4:Le h3 h4:=by rw[e4];exact Le.set f4
 have gf:h4 fp=some (.cells #[.slice none 0 0] 34 (0,0)):=by rw[e4];exact ae
 have bG:rp≠fp:=fun e=>by rw[<-e,gr]at f4;cases f4
 clear e4;have iI:Le h h2:=l1.trans l2;have mf:Le h h4:=iI.trans (l3.trans l4);cbv;refine iz (nm:=Hh) vg.nm (cols:=gM) (fun c hh=>(hc c hh).nm) (vZ.mono (mf.t _)) PY Hg tb tn tc (fun h5 Te S8 Td l5 Vf=>?_);cbv;intro cp h6 f6 e6;have l6:Le h5 h6:=by rw[e6];exact Le.set f6
 have Xo:h6 cp=some (.cells #[.slice none 0 0] 38 (0,0)):=by rw[e6];exact ae
 clear e6;cbv;refine eH Xo (by simp) (fun h7 e7=>?_);have gc:h7 cp=some (.cells #[.slice Te S8 Td] 38 (0,0)):=by rw[e7];exact ae
 have B7:Le h5 h7:=fun b o hb=>by rw[e7,av (fun e=>by rw[e,f6]at hb;cases hb)];exact l6 _ _ hb
 have Ru:h2 rp=none:=f3;have RW:h3 fp=none:=f4;have WT:cp≠rp:=fun e=>by rw[e,l5 _ _ (l4 _ _ gr)]at f6;cases f6
 have hcf:cp≠fp:=fun e=>by rw[e,l5 _ _ gf]at f6;cases f6
 have Jy:=B7 _ _ (l5 _ _ (l4 _ _ gr));have Xi:=B7 _ _ (l5 _ _ gf);clear e7 l6 Xo;obtain⟨B,hB⟩:∃B,B=Sx.cI (Sx.cI h7 rp) fp:=⟨_,rfl⟩;have hB7:Le B h7:=by rw[hB];exact(Sx.dN _ fp).trans (Sx.dN _ rp)
 have DO:B rp=none:=by rw[hB,Sx.bV bG];exact Sx.cO _ _
 have Sj:B fp=none:=by rw[hB];exact Sx.cO _ _
 have Gn:Le h2 B:=fun b o hb=>by
  have n1:b≠rp:=fun e=>by rw[e,Ru]at hb;cases hb
  have n2:b≠fp:=fun e=>by have:=l3 _ _ hb;rw[e,RW]at this;cases this
  rw[hB,Sx.bV n2,Sx.bV n1];exact B7 _ _ (l5 _ _ (l4 _ _ (l3 _ _ hb)))
 have gcB:B cp=some (.cells #[.slice Te S8 Td] 38 (0,0)):=by rw[hB,Sx.bV hcf,Sx.bV WT];exact gc
 have VB:∀tys,34∉tys->bE tys h7 B:=fun tys ht b c e fr hm hb=>by
  have n1:b≠rp:=fun e'=>by rw[e',Jy]at hb;cases hb;exact ht hm
  have n2:b≠fp:=fun e'=>by rw[e',Xi]at hb;cases hb;exact ht hm
  rw[hB,Sx.bV n2,Sx.bV n1];exact hb
 have Ql:Sl 165 aT B (.slice Te S8 Td) (gM.map (ja Hh)):=(Vf.sl.mono (B7.t _)).mono (VB _ (by decide));have pI:Le h B:=iI.trans Gn;have qB:=q.mono pI;clear hB VB l5 B7 Vf gc l4 l3;obtain⟨I,bh⟩:∃I:Nat->ad->Prop,∀i h',I i h'=∃p,C0 B h' rp fp p.1 p.2/\p.1.length<=i/\p.2.length<=i/\cR st.bB (gM.map (ja Hh)) f (lM.drop i) p=((Ls,Lr),De):=⟨_,fun _ _=>rfl⟩;have hJ:I 0 h7:=by rw[bh];exact⟨([],[]),⟨⟨_,_,_,_,_,_,Jy,Xi,⟨none,none,.inl ⟨rfl,rfl,rfl⟩,.inl ⟨rfl,rfl,rfl⟩,fun _ hh=>by cases hh⟩⟩,hB7,DO,Sj,bG⟩,Nat.le_refl _,Nat.le_refl _,hD.symm⟩
 cbv;refine tg MM I hJ (fun i h' hI=>?_) (fun i x h' b1 n1 c1 hi nP hI hv=>?_) (fun h' hI=>?_)
 ·rw[bh]at hI;obtain⟨p,qs,-⟩:=hI;exact L4.mono ((pI.trans qs.le).t _)
 ·rw[bh]at hI;obtain⟨⟨xs,ys⟩,qs,qS,Cj,he⟩:=hI;have Ck:=List.mem_of_getElem? nP;have hd:lM.drop i=x::lM.drop (i+1):=by obtain⟨h1,h2⟩:=List.getElem?_eq_some_iff.1 nP;rw[List.drop_eq_getElem_cons h1,h2]
  replace qS:xs.length<=i:=qS;replace Cj:ys.length<=i:=Cj;have Ri:xs.length<=2^37:=by omega
  have Re:ys.length<=2^37:=by omega
  rw[hd,iA]at he;refine J4 qs Ri Re qB hx (Gn _ _ (l2 _ _ gw)) KW gcB Ql (Gn _ _ gt) (fI x Ck) hv (f:=f) (fun h9 l9 q9=>lN h9 x b1 n1 c1 (pI.trans l9) Ck q9) rfl (fun h9 q9=>⟨_,rfl,fun h0=>?_,fun h0=>?_⟩)
  ·rw[bh];rw[if_neg (fun g=>g h0)]at he;refine⟨_,q9,?_,?_,he⟩
   ·exact(ny qS Cj).1
   ·exact(ny qS Cj).2
  ·rw[if_pos h0]at he;rw[he]at q9 |-;replace q9:C0 B h9 rp fp Ls Lr:=q9;obtain⟨b1,n1,c1,b2,n2,c2,g1,g2,tw⟩:=q9.out;have QV:=q9.le;obtain⟨o1,o2,t1,t2,-⟩:=tw.out;have s1:=t1.sl;have s2:=t2.sl;have af:=fun h' l l1 l2=>hk h' b1 n1 c1 b2 n2 c2 (pI.trans l) (s1.mono l1) (s2.mono l2);clear hk bh q9 tw t1 t2;cbv;refine ar g1 rfl rfl ?_;cbv;refine ar g2 rfl rfl ?_;cbv;refine eH g1 (by simp) (fun fh gJ=>?_);have iF:fh fp=some (.cells #[.slice b2 n2 c2] 34 (0,0)):=by rw[gJ,av (Ne.symm bG)];exact g2
   have lI:fh rp=some (.cells #[.slice b1 n1 c1] 34 (0,0)):=by rw[gJ];exact ae
   have lU:bE [59,61] h9 fh:=by rw[gJ];exact bE.set g1 (by decide)
   have B6:Le B fh:=fun b o hb=>by rw[gJ,av (fun e=>by rw[e,DO]at hb;cases hb)];exact QV _ _ hb
   clear gJ;cbv;refine ar iF rfl rfl ?_;cbv;refine⟨⟨_,rfl,rfl⟩,?_⟩;cbv;refine eH iF (by simp) (fun mY j9=>?_);have g3:mY fp=some (.cells #[.slice b2 n2 c2] 34 (0,0)):=by rw[j9];exact ae
   have g4:mY rp=some (.cells #[.slice b1 n1 c1] 34 (0,0)):=by rw[j9,av bG];exact lI
   have uR:bE [59,61] fh mY:=by rw[j9];exact bE.set iF (by decide)
   have B5:Le B mY:=fun b o hb=>by rw[j9,av (fun e=>by rw[e,Sj]at hb;cases hb)];exact B6 _ _ hb
   have af:=af mY B5 (lU.trans uR) (lU.trans uR);clear j9;cbv;refine ar g4 rfl rfl ?_;cbv;refine ar g3 rfl rfl ?_;cbv;exact af
 ·rw[bh]at hI;obtain⟨⟨xs,ys⟩,q9,qS,Cj,he⟩:=hI;obtain⟨h9,rfl⟩:∃h9,h9=h':=⟨_,rfl⟩;rw[List.drop_of_length_le (by omega)]at he;have he:(((xs,ys),0):(List Row×List Row)×Int)=((Ls,Lr),De):=he;replace q9:C0 B h9 rp fp xs ys:=q9;cases he;obtain⟨b1,n1,c1,b2,n2,c2,g1,g2,tw⟩:=q9.out;have QV:=q9.le;obtain⟨o1,o2,t1,t2,-⟩:=tw.out;have s1:=t1.sl;have s2:=t2.sl;have af:=fun h' l l1 l2=>hk h' b1 n1 c1 b2 n2 c2 (pI.trans l) (s1.mono l1) (s2.mono l2);clear hk bh q9 tw t1 t2;cbv;refine ar g1 rfl rfl ?_;cbv;refine ar g2 rfl rfl ?_;cbv;refine eH g1 (by simp) (fun fh gJ=>?_);have iF:fh fp=some (.cells #[.slice b2 n2 c2] 34 (0,0)):=by rw[gJ,av (Ne.symm bG)];exact g2
  have lI:fh rp=some (.cells #[.slice b1 n1 c1] 34 (0,0)):=by rw[gJ];exact ae
  have lU:bE [59,61] h9 fh:=by rw[gJ];exact bE.set g1 (by decide)
  have B6:Le B fh:=fun b o hb=>by rw[gJ,av (fun e=>by rw[e,DO]at hb;cases hb)];exact QV _ _ hb
  clear gJ;cbv;refine ar iF rfl rfl ?_;cbv;refine⟨⟨_,rfl,rfl⟩,?_⟩;cbv;refine eH iF (by simp) (fun mY j9=>?_);have g3:mY fp=some (.cells #[.slice b2 n2 c2] 34 (0,0)):=by rw[j9];exact ae
  have g4:mY rp=some (.cells #[.slice b1 n1 c1] 34 (0,0)):=by rw[j9,av bG];exact lI
  have uR:bE [59,61] fh mY:=by rw[j9];exact bE.set iF (by decide)
  have B5:Le B mY:=fun b o hb=>by rw[j9,av (fun e=>by rw[e,Sj]at hb;cases hb)];exact B6 _ _ hb
  have af:=af mY B5 (lU.trans uR) (lU.trans uR);clear j9;cbv;refine ar g4 rfl rfl ?_;cbv;refine ar g3 rfl rfl ?_;cbv;exact af
theorem NR{h:ad}{pb:Nat}{d:DB}{s:Int}{st:aB}(q:di h pb d s st)(hx:eO st){T:cg}(vg:CY T.S.name)(hc:∀c∈T.S.cols,CY c.name)(fI:∀r∈T.rows,∀v∈r,kO v)(hlen:T.rows.length<=2^36)
 {cb:Option Addr} {cn cc:Nat} (vZ:Sl 165 aT h (.slice cb cn cc) T.S.cols) {tb:Option Addr} {tn tc:Nat} (L4:Sl 59 az h (.slice tb tn tc) T.rows) {f:Row->Row×Int}
 (lN:∀h' r rb rn rc,Le h h'->r∈T.rows->Sl 61 aQ h' (.slice rb rn rc) r->Ct 97 [.slice rb rn rc] h' (fun v fX=>∃b n c,v=.tuple #[.slice b n c,.int .i64 (f r).2]/\Le h' fX/\Sl 61 aQ fX (.slice b n c) (f r).1))
 {D:(List Row×List Row)×Int} (hD:D=cR st.bB (aE T) f T.rows ([],[])) {k:Value->ad->Prop}
 (hk:∀h' b1 n1 c1 b2 n2 c2,Le h h'->Sl 59 az h' (.slice b1 n1 c1) D.1.1->Sl 59 az h' (.slice b2 n2 c2) D.1.2->k (.tuple #[.slice b1 n1 c1,.slice b2 n2 c2,.int .i64 D.2]) h'):
 Ct 88 [.pointer (some ⟨pb,0,none⟩),.agg #[.string T.S.name,.slice cb cn cc,.int .i64 T.S.key,.bool T.S.only,.slice tb tn tc],.func (.func 97) #[] #[]] h k:=by
 obtain⟨A,hA⟩:=Ar.ex;have MM:=L4.len;rw[jy]at hD;obtain⟨⟨Hh,gM,PY,Hg⟩,lM⟩:=T;replace hD:D=cR st.bB (gM.map (ja Hh)) f lM ([],[]):=hD;have KW:∀c∈gM.map (ja Hh),Nm c.name:=fun c sC=>by
  obtain⟨c0,h1,h2⟩:=List.mem_map.1 sC;rw[<-h2];exact lp vg (hc c0 h1)
 replace MM:tn=lM.length:=MM;replace hlen:lM.length<=2^36:=hlen;obtain⟨⟨Ls,Lr⟩,De⟩:=D;replace hk:∀h' b1 n1 c1 b2 n2 c2,Le h h'->Sl 59 az h' (.slice b1 n1 c1) Ls->Sl 59 az h' (.slice b2 n2 c2) Lr->k (.tuple #[.slice b1 n1 c1,.slice b2 n2 c2,.int .i64 De]) h':=hk;refine ah A (aq T88.ax T88.bm) Tryz.func88 rfl (by kernel_rfl) ?_;cbv;intro wb h1 f1 e1;have l1:Le h h1:=by rw[e1];exact Le.set f1
 have gw:h1 wb=some (.cells #[.pointer (some ⟨pb,0,none⟩)] 99 (0,0)):=by rw[e1];exact ae
 clear e1;cbv;intro tp h2 f2 e2;have l2:Le h1 h2:=by rw[e2];exact Le.set f2
 have gt:h2 tp=some (.cells #[.func (.func 97) #[] #[]] 180 (0,0)):=by rw[e2];exact ae
 clear e2;cbv;intro rp h3 f3 e3;have l3:Le h2 h3:=by rw[e3];exact Le.set f3
 have gr:h3 rp=some (.cells #[.slice none 0 0] 34 (0,0)):=by rw[e3];exact ae
 clear e3;cbv;intro fp h4 f4 e4;have l4:Le h3 h4:=by rw[e4];exact Le.set f4
 have gf:h4 fp=some (.cells #[.slice none 0 0] 34 (0,0)):=by rw[e4];exact ae
 have bG:rp≠fp:=fun e=>by rw[<-e,gr]at f4;cases f4
 clear e4;have iI:Le h h2:=l1.trans l2;have mf:Le h h4:=iI.trans (l3.trans l4);cbv;refine iz (nm:=Hh) vg.nm (cols:=gM) (fun c hh=>(hc c hh).nm) (vZ.mono (mf.t _)) PY Hg tb tn tc (fun h5 Te S8 Td l5 Vf=>?_);cbv;intro cp h6 f6 e6;have l6:Le h5 h6:=by rw[e6];exact Le.set f6
 have Xo:h6 cp=some (.cells #[.slice none 0 0] 38 (0,0)):=by rw[e6];exact ae
 clear e6;cbv;refine eH Xo (by simp) (fun h7 e7=>?_);have gc:h7 cp=some (.cells #[.slice Te S8 Td] 38 (0,0)):=by rw[e7];exact ae
 have B7:Le h5 h7:=fun b o hb=>by rw[e7,av (fun e=>by rw[e,f6]at hb;cases hb)];exact l6 _ _ hb
 have Ru:h2 rp=none:=f3;have RW:h3 fp=none:=f4;have WT:cp≠rp:=fun e=>by rw[e,l5 _ _ (l4 _ _ gr)]at f6;cases f6
 have hcf:cp≠fp:=fun e=>by rw[e,l5 _ _ gf]at f6;cases f6
 have Jy:=B7 _ _ (l5 _ _ (l4 _ _ gr));have Xi:=B7 _ _ (l5 _ _ gf);clear e7 l6 Xo;obtain⟨B,hB⟩:∃B,B=Sx.cI (Sx.cI h7 rp) fp:=⟨_,rfl⟩;have hB7:Le B h7:=by rw[hB];exact(Sx.dN _ fp).trans (Sx.dN _ rp)
 have DO:B rp=none:=by rw[hB,Sx.bV bG];exact Sx.cO _ _
 have Sj:B fp=none:=by rw[hB];exact Sx.cO _ _
 have Gn:Le h2 B:=fun b o hb=>by
  have n1:b≠rp:=fun e=>by rw[e,Ru]at hb;cases hb
  have n2:b≠fp:=fun e=>by have:=l3 _ _ hb;rw[e,RW]at this;cases this
  rw[hB,Sx.bV n2,Sx.bV n1];exact B7 _ _ (l5 _ _ (l4 _ _ (l3 _ _ hb)))
 have gcB:B cp=some (.cells #[.slice Te S8 Td] 38 (0,0)):=by rw[hB,Sx.bV hcf,Sx.bV WT];exact gc
 have VB:∀tys,34∉tys->bE tys h7 B:=fun tys ht b c e fr hm hb=>by
  have n1:b≠rp:=fun e'=>by rw[e',Jy]at hb;cases hb;exact ht hm
  have n2:b≠fp:=fun e'=>by rw[e',Xi]at hb;cases hb;exact ht hm
  rw[hB,Sx.bV n2,Sx.bV n1];exact hb
 have Ql:Sl 165 aT B (.slice Te S8 Td) (gM.map (ja Hh)):=(Vf.sl.mono (B7.t _)).mono (VB _ (by decide));have pI:Le h B:=iI.trans Gn;have qB:=q.mono pI;clear hB VB l5 B7 Vf gc l4 l3;obtain⟨I,bh⟩:∃I:Nat->ad->Prop,∀i h',I i h'=∃p,C0 B h' rp fp p.1 p.2/\p.1.length<=i/\p.2.length<=i/\cR st.bB (gM.map (ja Hh)) f (lM.drop i) p=((Ls,Lr),De):=⟨_,fun _ _=>rfl⟩;have hJ:I 0 h7:=by rw[bh];exact⟨([],[]),⟨⟨_,_,_,_,_,_,Jy,Xi,⟨none,none,.inl ⟨rfl,rfl,rfl⟩,.inl ⟨rfl,rfl,rfl⟩,fun _ hh=>by cases hh⟩⟩,hB7,DO,Sj,bG⟩,Nat.le_refl _,Nat.le_refl _,hD.symm⟩
 cbv;refine tg MM I hJ (fun i h' hI=>?_) (fun i x h' b1 n1 c1 hi nP hI hv=>?_) (fun h' hI=>?_)
 ·rw[bh]at hI;obtain⟨p,qs,-⟩:=hI;exact L4.mono ((pI.trans qs.le).t _)
 ·rw[bh]at hI;obtain⟨⟨xs,ys⟩,qs,qS,Cj,he⟩:=hI;have Ck:=List.mem_of_getElem? nP;have hd:lM.drop i=x::lM.drop (i+1):=by obtain⟨h1,h2⟩:=List.getElem?_eq_some_iff.1 nP;rw[List.drop_eq_getElem_cons h1,h2]
  replace qS:xs.length<=i:=qS;replace Cj:ys.length<=i:=Cj;have Ri:xs.length<=2^37:=by omega
  have Re:ys.length<=2^37:=by omega
  rw[hd,iA]at he;refine J5 qs Ri Re qB hx (Gn _ _ (l2 _ _ gw)) KW gcB Ql (Gn _ _ gt) (fI x Ck) hv (f:=f) (fun h9 l9 q9=>lN h9 x b1 n1 c1 (pI.trans l9) Ck q9) rfl (fun h9 q9=>⟨_,rfl,fun h0=>?_,fun h0=>?_⟩)
  ·rw[bh];rw[if_neg (fun g=>g h0)]at he;refine⟨_,q9,?_,?_,he⟩
   ·exact(ny qS Cj).1
   ·exact(ny qS Cj).2
  ·rw[if_pos h0]at he;rw[he]at q9 |-;replace q9:C0 B h9 rp fp Ls Lr:=q9;obtain⟨b1,n1,c1,b2,n2,c2,g1,g2,tw⟩:=q9.out;have QV:=q9.le;obtain⟨o1,o2,t1,t2,-⟩:=tw.out;have s1:=t1.sl;have s2:=t2.sl;have af:=fun h' l l1 l2=>hk h' b1 n1 c1 b2 n2 c2 (pI.trans l) (s1.mono l1) (s2.mono l2);clear hk bh q9 tw t1 t2;cbv;refine ar g1 rfl rfl ?_;cbv;refine ar g2 rfl rfl ?_;cbv;refine eH g1 (by simp) (fun fh gJ=>?_);have iF:fh fp=some (.cells #[.slice b2 n2 c2] 34 (0,0)):=by rw[gJ,av (Ne.symm bG)];exact g2
   have lI:fh rp=some (.cells #[.slice b1 n1 c1] 34 (0,0)):=by rw[gJ];exact ae
   have lU:bE [59,61] h9 fh:=by rw[gJ];exact bE.set g1 (by decide)
   have B6:Le B fh:=fun b o hb=>by rw[gJ,av (fun e=>by rw[e,DO]at hb;cases hb)];exact QV _ _ hb
   clear gJ;cbv;refine ar iF rfl rfl ?_;cbv;refine⟨⟨_,rfl,rfl⟩,?_⟩;cbv;refine eH iF (by simp) (fun mY j9=>?_);have g3:mY fp=some (.cells #[.slice b2 n2 c2] 34 (0,0)):=by rw[j9];exact ae
   have g4:mY rp=some (.cells #[.slice b1 n1 c1] 34 (0,0)):=by rw[j9,av bG];exact lI
   have uR:bE [59,61] fh mY:=by rw[j9];exact bE.set iF (by decide)
   have B5:Le B mY:=fun b o hb=>by rw[j9,av (fun e=>by rw[e,Sj]at hb;cases hb)];exact B6 _ _ hb
   have af:=af mY B5 (lU.trans uR) (lU.trans uR);clear j9;cbv;refine ar g4 rfl rfl ?_;cbv;refine ar g3 rfl rfl ?_;cbv;exact af
 ·rw[bh]at hI;obtain⟨⟨xs,ys⟩,q9,qS,Cj,he⟩:=hI;obtain⟨h9,rfl⟩:∃h9,h9=h':=⟨_,rfl⟩;rw[List.drop_of_length_le (by omega)]at he;have he:(((xs,ys),0):(List Row×List Row)×Int)=((Ls,Lr),De):=he;replace q9:C0 B h9 rp fp xs ys:=q9;cases he;obtain⟨b1,n1,c1,b2,n2,c2,g1,g2,tw⟩:=q9.out;have QV:=q9.le;obtain⟨o1,o2,t1,t2,-⟩:=tw.out;have s1:=t1.sl;have s2:=t2.sl;have af:=fun h' l l1 l2=>hk h' b1 n1 c1 b2 n2 c2 (pI.trans l) (s1.mono l1) (s2.mono l2);clear hk bh q9 tw t1 t2;cbv;refine ar g1 rfl rfl ?_;cbv;refine ar g2 rfl rfl ?_;cbv;refine eH g1 (by simp) (fun fh gJ=>?_);have iF:fh fp=some (.cells #[.slice b2 n2 c2] 34 (0,0)):=by rw[gJ,av (Ne.symm bG)];exact g2
  have lI:fh rp=some (.cells #[.slice b1 n1 c1] 34 (0,0)):=by rw[gJ];exact ae
  have lU:bE [59,61] h9 fh:=by rw[gJ];exact bE.set g1 (by decide)
  have B6:Le B fh:=fun b o hb=>by rw[gJ,av (fun e=>by rw[e,DO]at hb;cases hb)];exact QV _ _ hb
  clear gJ;cbv;refine ar iF rfl rfl ?_;cbv;refine⟨⟨_,rfl,rfl⟩,?_⟩;cbv;refine eH iF (by simp) (fun mY j9=>?_);have g3:mY fp=some (.cells #[.slice b2 n2 c2] 34 (0,0)):=by rw[j9];exact ae
  have g4:mY rp=some (.cells #[.slice b1 n1 c1] 34 (0,0)):=by rw[j9,av bG];exact lI
  have uR:bE [59,61] fh mY:=by rw[j9];exact bE.set iF (by decide)
  have B5:Le B mY:=fun b o hb=>by rw[j9,av (fun e=>by rw[e,Sj]at hb;cases hb)];exact B6 _ _ hb
  have af:=af mY B5 (lU.trans uR) (lU.trans uR);clear j9;cbv;refine ar g4 rfl rfl ?_;cbv;refine ar g3 rfl rfl ?_;cbv;exact af
open Go.Sx
structure eV(P:Row->Prop)(Pn:ByteArray->Prop)(d:DB):Prop where
 nm:∀t∈d.aK,Pn t.S.name
 rows:∀t∈d.aK,∀r∈t.rows,P r
 log:∀w∈d.au,∀c∈w.log,P c.row
section
variable {P:Row->Prop}{Pn:ByteArray->Prop}
theorem uq{t:cg}{r x:Row}(h:x∈(cd t r).1.rows):x=r\/x∈t.rows:=by
 unfold cd at h;split at h
 ·exact .inr h
 ·split at h
  ·exact .inr h
  ·split at h
   ·exact .inr h
   ·have h:x∈t.rows.take _++[r]++t.rows.drop _:=h;simp only[List.append_assoc,List.mem_append,List.mem_singleton]at h;rcases h with h|h|h
    ·exact .inr (List.mem_of_mem_take h)
    ·exact .inl h
    ·exact .inr (List.mem_of_mem_drop h)
theorem sM{t:cg}{k:dc}{x:Row}(h:x∈(bt t k).1.rows):x∈t.rows:=by
 unfold bt at h;split at h
 ·have h:x∈t.rows.take _++t.rows.drop _:=h;rcases List.mem_append.1 h with h|h
  ·exact List.mem_of_mem_take h
  ·exact List.mem_of_mem_drop h
 ·exact h
theorem zI{t:cg}{k:dc}:(bt t k).2.1=[]\/(bt t k).2.1∈t.rows:=by
 unfold bt;split
 ·show(t.rows[_]?).getD []=[]\/(t.rows[_]?).getD []∈t.rows;cases h:t.rows[dC (cA t k)]? with
  |none=>exact .inl rfl
  |some r=>exact .inr (List.mem_of_getElem? h)
 ·exact .inl rfl
def vW(P:Row->Prop)(Pn:ByteArray->Prop)(T:List cg):Prop:=∀t∈T,Pn t.S.name/\∀r∈t.rows,P r
theorem vW.set{T:List cg}(h:vW P Pn T){i:Nat}{t:cg}(ht:Pn t.S.name/\∀r∈t.rows,P r):vW P Pn (T.set i t):=fun x hx=>by
 rcases List.mem_or_eq_of_mem_set hx with hx|hx
 ·exact h x hx
 ·rw[hx];exact ht
theorem LA{T:List cg}{x:lG}(h:vW P Pn T)(hx:P x.row):vW P Pn (iM T x):=by
 unfold iM;split
 ·split
  ·rename_i t ht;have Fb:=h t (List.mem_of_getElem? ht);split
   ·refine h.set ⟨by rw[pW];exact Fb.1,fun r hr=>?_⟩;rcases uq hr with hr|hr
    ·rw[hr];exact hx
    ·exact Fb.2 r hr
   ·split
    ·exact h.set ⟨by rw[oD];exact Fb.1,fun r hr=>Fb.2 r (sM hr)⟩
    ·exact h
  ·exact h
 ·exact h
theorem C8{T:List cg}(h:vW P Pn T):∀ {l:List lG},(∀c∈l,P c.row)->vW P Pn (fx T l)
 | [],_=>h
 |x::l,hl=>LA (C8 h fun c hc=>hl c (List.mem_cons_of_mem _ hc)) (hl x List.mem_cons_self)
theorem eV.tab{d:DB}(q:eV P Pn d):vW P Pn d.aK:=fun t ht=>⟨q.nm t ht,q.rows t ht⟩
theorem eV.of{d:DB}(h:vW P Pn d.aK)(hl:∀w∈d.au,∀c∈w.log,P c.row):eV P Pn d:=⟨fun t ht=>(h t ht).1,fun t ht=>(h t ht).2,hl⟩
theorem N4{T:List cg}{ws:List dw}{s:Int}(h:vW P Pn T)(hl:∀w∈ws,∀c∈w.log,P c.row):vW P Pn (ou T ws s):=by
 unfold ou;split
 ·split
  ·rename_i w hw;exact C8 h (hl w (List.mem_of_getElem? hw))
  ·exact h
 ·exact h
theorem eV.back{d:DB}(q:eV P Pn d)(s:Int):eV P Pn (kL d s):=
 eV.of (N4 q.tab q.log) fun w hw=>q.log w ((vF d.au s).subset hw)
theorem eV.xF{d:DB}(q:eV P Pn d){H W:List bP}:eV P Pn ⟨d.aK,d.au,H,W⟩:=⟨q.nm,q.rows,q.log⟩
theorem eV.gQ{hd:bP}:∀(f:Nat) {d:DB},eV P Pn d->eV P Pn (gQ f d hd).1
 |0,d,q=>q
 |f+1,d,q=>by
  unfold Go.S.gQ;repeat' split
  all_goals first
   |exact eV.gQ f (eV.back (eV.xF q) _)
   |exact eV.back (eV.xF q) _
   |exact eV.xF q
theorem eV.aO{d:DB}(q:eV P Pn d)(hd:bP):eV P Pn (aO d hd).1:=by
 unfold Go.S.aO;split
 ·exact q.gQ _
 ·exact q
theorem eV.au{d:DB}(q:eV P Pn d){i:Nat}{w:dw}(hw:∀c∈w.log,P c.row):∀x∈d.au.set i w,∀c∈x.log,P c.row:=fun x hx=>by
 rcases List.mem_or_eq_of_mem_set hx with hx|hx
 ·exact q.log x hx
 ·rw[hx];exact hw
theorem eV.dh{d:DB}(q:eV P Pn d)(hd:bP){act:cg->cg×lG×Int}(ha:∀t,Pn t.S.name->(∀r∈t.rows,P r)->Pn (act t).1.S.name/\(∀r∈(act t).1.rows,P r)/\P (act t).2.1.row):eV P Pn (dh d hd act).1:=by
 have qh:=q.aO hd;unfold Go.S.dh;split
 ·exact qh
 ·split
  ·rename_i t w ht hw;have Fb:=List.mem_of_getElem? ht;have Rk:=List.mem_of_getElem? hw;have hat:=ha t (qh.nm t Fb) (qh.rows t Fb);split
   ·exact qh
   ·split
    ·refine eV.of (qh.tab.set ⟨hat.1,hat.2.1⟩) (qh.au fun c hc=>?_);have hc:c∈w.log++[_]:=hc;rcases List.mem_append.1 hc with hc|hc
     ·exact qh.log w Rk c hc
     ·rcases List.mem_cons.1 hc with hc|hc
      ·rw[hc];exact hat.2.2
      ·cases hc
    ·exact qh
  ·exact qh
theorem eV.jJ{d:DB}(q:eV P Pn d)(s:Int)(nm:ByteArray){r:Row}(hr:P r):eV P Pn (jJ d s nm r).1:=
 q.dh _ fun t h1 h2=>⟨by show Pn (cd t r).1.S.name;rw[pW];exact h1,fun x hx=>by
  rcases uq hx with hx|hx
  ·rw[hx];exact hr
  ·exact h2 x hx,hr⟩
theorem eV.jq{d:DB}(q:eV P Pn d)(s:Int)(nm:ByteArray)(k:dc)(h0:P []):eV P Pn (jq d s nm k).1:=
 q.dh _ fun t h1 h2=>by
  unfold eC;split
  ·exact⟨h1,h2,h0⟩
  ·refine⟨by show Pn (bt t k).1.S.name;rw[oD];exact h1,fun x hx=>h2 x (sM hx),?_⟩;show P (bt t k).2.1;rcases zI (t:=t) (k:=k)with e|e
   ·rw[e];exact h0
   ·exact h2 _ e
end
theorem vy{c:bM}{v:dc}(h:cQ c v=0):fw v=0/\(v.k=0->c.null=true)/\(v.k=0\/v.k=c.kind):=by
 unfold cQ at h;by_cases h1:fw v=0
 ·rw[h1]at h;refine⟨h1,?_,?_⟩
  ·intro hk;cases hn:c.null with
   |true=>rfl
   |false=>simp[hk,hn]at h
  ·by_cases hk:v.k=0
   ·exact .inl hk
   ·by_cases pT:v.k=c.kind
    ·exact .inr pT
    ·simp[hk,pT]at h
 ·simp[h1]at h
theorem wW{v:dc}(h:fw v=0):oY v (kK v)=true/\v.s.size<=60:=by
 unfold fw at h;split at h
 ·cases h
 ·split at h
  ·cases h
  ·rename_i h2;split at h
   ·cases h
   ·rename_i h3;have ph:¬((v.s.size:Int)>60):=by simpa using h3
    refine⟨?_,by omega⟩;cases hs:oY v (kK v)with
    |true=>rfl
    |false=>rw[hs]at h2;simp at h2
theorem CJ{r:Row}(h:dO cJ r=0):fc r:=by
 unfold dO at h;split at h
 ·cases h
 ·rename_i hl;have hl:r.length=2:=by
   have:(r.length:Int)=(cJ.length:Int):=by simpa using hl
   have e:cJ.length=2:=rfl;rw[e]at this;omega
  match r,hl with
  | [a,b],_=>
   have h:dP [cQ ⟨nA,2,false⟩ a,cQ ⟨⟨#[98]⟩,3,true⟩ b]=0:=h;have h1:cQ ⟨nA,2,false⟩ a=0:=by
    by_cases c:cQ ⟨nA,2,false⟩ a=0
    ·exact c
    ·simp[dP,c]at h
   have h2:cQ ⟨⟨#[98]⟩,3,true⟩ b=0:=by
    rw[h1]at h;by_cases c:cQ ⟨⟨#[98]⟩,3,true⟩ b=0
    ·exact c
    ·simp[dP,c]at h
   obtain⟨ak,an,sa⟩:=a;obtain⟨bk,bn,sb⟩:=b;obtain⟨v1,n1,k1⟩:=vy h1;obtain⟨v2,n2,k2⟩:=vy h2;have k1:ak=2:=by
    rcases k1 with k|k
    ·exact absurd (n1 k) (by decide)
    ·exact k
   subst k1;obtain⟨s1,-⟩:=wW v1;obtain⟨s2,z2⟩:=wW v2;have e1:sa=kh:=by simp[oY,kK]at s1;exact s1
   subst e1;refine⟨an,⟨bk,bn,sb⟩,rfl,?_⟩;rcases k2 with k|k
   ·have k:bk=0:=k;subst k;simp[oY,kK]at s2;left;rw[s2.1];have:sb=kh:=s2.2;rw[this]
   ·have k:bk=3:=k;subst k;simp[oY,kK]at s2;right;exact⟨sb,by rw[s2],z2⟩
theorem A5{d:DB}{hd:bP}{act:cg->cg×lG×Int}(h:∀t∈(aO d hd).1.aK,(act t).2.2≠0):(dh d hd act).1=(aO d hd).1:=by
 unfold dh;split
 ·rfl
 ·split
  ·rename_i t w ht hw;have:=h t (List.mem_of_getElem? ht);split
   ·rfl
   ·rw[if_neg (by simpa using this)]
  ·rfl
theorem LP{n:Nat}{d:DB}(q:SJ n d)(s:Int)(nm:ByteArray)(r:Row)(hs:-2^63<=s/\s<2^63):SJ (n+1) (jJ d s nm r).1:=by
 by_cases h:dO cJ r=0
 ·exact P3 q s nm hs (.inl (CJ h))
 ·have hh:=pZ q ⟨s,nm,true⟩ hs;have:(jJ d s nm r).1=(aO d ⟨s,nm,true⟩).1:=A5 fun t ht=>by
   have hc:=(hh.sc.tw.ok t ht).1;show(cd t r).2≠0;unfold cd;rw[hc,if_pos (by simpa using h)];exact h
  rw[this];exact hh
def eD(r:Row):Prop:=∀v∈r,kO v
structure EJ(n:Nat)(d:DB):Prop where
 sj:SJ n d
 al:eV eD CY d
theorem EJ.le{n m:Nat}{d:DB}(q:EJ n d)(h:n<=m):EJ m d:=⟨q.sj.le h,q.al⟩
theorem EJ.hold{n:Nat}{d:DB}(q:EJ n d)(hd:bP)(hs:-2^63<=hd.s/\hd.s<2^63):EJ (n+1) (aO d hd).1:=⟨pZ q.sj hd hs,q.al.aO hd⟩
theorem EJ.put{n:Nat}{d:DB}(q:EJ n d){s:Int}(nm:ByteArray){r:Row}(hs:-2^63<=s/\s<2^63)(hr:eD r):EJ (n+1) (jJ d s nm r).1:=⟨LP q.sj s nm r hs,q.al.jJ s nm hr⟩
theorem EJ.take{n:Nat}{d:DB}(q:EJ n d){s:Int}(nm:ByteArray){r:Row}(hs:-2^63<=s/\s<2^63)(hr:fc r):EJ (n+1) (jq d s nm (jI d nm r)).1:=by
 refine⟨?_,q.al.jq s nm _ (fun _ h=>by cases h)⟩;obtain⟨a,v,rfl,-⟩:=hr;have hk:(bU d nm).S.key=0:=by
  unfold bU;cases h:d.aK.find? fun t=>decide (t.S.name=nm)with
  |none=>rfl
  |some t=>exact(q.sj.sc.tw.ok t (List.mem_of_find?_eq_some h)).2.1
 have:jI d nm [⟨2,a,kh⟩,v]=⟨2,a,kh⟩:=by unfold jI;rw[hk];rfl
 rw[this];exact LO q.sj s nm a hs
structure Tw(T:cg):Prop where
 nm:CY T.S.name
 cols:T.S.cols=cJ\/(T.S.cols=[]/\T.rows=[])
 key:T.S.key=0
 row:∀r∈T.rows,fc r/\eD r
 len:T.rows.length<=200
theorem tY{l:By}(h:∀c∈l,c.toNat<128)(hl:l.length<=2^30):CY (aC l):=⟨ud.2 h,hl⟩
theorem Es:∀c∈cJ,CY c.name:=by
 intro c hc;rcases List.mem_cons.1 hc with rfl|hc
 ·exact tY (l:=[97]) (by decide) (by decide)
 ·rcases List.mem_cons.1 hc with rfl|hc
  ·exact tY (l:=[98]) (by decide) (by decide)
  ·cases hc
theorem Tw.rS{T:cg}(h:Tw T):∀c∈T.S.cols,CY c.name:=by
 rcases h.cols with e| ⟨e,-⟩
 ·rw[e];exact Es
 ·rw[e];intro c hc;cases hc
theorem EJ.held{n:Nat}{d:DB}(q:EJ n d)(nm:ByteArray):Tw (bU d nm):=by
 unfold bU;cases h:d.aK.find? fun t=>decide (t.S.name=nm)with
 |none=>exact⟨tY (l:=[]) (fun _ h=>by cases h) (by decide),.inr ⟨rfl,rfl⟩,rfl,(fun _ h=>by cases h),Nat.zero_le _⟩
 |some t=>have Fb:=List.mem_of_find?_eq_some h;obtain⟨h1,h2,h3,-⟩:=q.sj.sc.tw.ok t Fb;exact⟨q.al.nm t Fb,.inl h1,h2,fun r hr=>⟨h3.ok r hr,q.al.rows t Fb r hr⟩,h3.le⟩
theorem S7{h:ad}{rb:Option Addr}{rn rc:Nat}{k:Value->ad->Prop}(hk:k (.tuple #[.slice none 0 0,.int .i64 0]) h):Ct 97 [.slice rb rn rc] h k:=by obtain⟨A,hA⟩:=Ar.ex;refine ah A (aq T97.ax T97.bm) Tryz.func97 rfl (by kernel_rfl) ?_;cbv;exact hk
theorem vI{α:Type}(f:DB->α->DB×Int)(x:α)(r:List α)(d:DB):tq f (x::r) d=match f d x with
 | (d',e)=>if e≠0 then(d',e)else tq f r d':=rfl
theorem nZ{w:List Nd}{cols:List bM}{f:Row->Row×Int}:∀ {rows:List Row} {xs ys:List Row},∀x∈(cR w cols f rows (xs,ys)).1.1,x∈xs\/x∈rows
 | [],xs,ys,x,h=>.inl h
 |r::rs,xs,ys,x,h=>by
  rw[iA]at h;have hs:∀x∈(dV w cols f r xs ys).1.1,x∈xs\/x∈r::rs:=fun x hx=>by
   unfold dV at hx;generalize cW w cols r=H at hx;obtain⟨is,e⟩:=H;have hx:x∈(if e≠0 then((xs,ys),e)else if is=false then((xs,ys),0)else((xs++[r],ys++[(f r).1]),(f r).2):(List Row×List Row)×Int).1.1:=hx;split at hx
   ·exact .inl hx
   ·split at hx
    ·exact .inl hx
    ·rcases List.mem_append.1 hx with hx|hx
     ·exact .inl hx
     ·rcases List.mem_cons.1 hx with hx|hx
      ·rw[hx];exact .inr List.mem_cons_self
      ·cases hx
  by_cases c:(dV w cols f r xs ys).2≠0
  ·rw[if_pos c]at h;exact hs x h
  ·rw[if_neg c]at h;generalize dV w cols f r xs ys=E at *;obtain⟨⟨a,b⟩,e⟩:=E;rcases nZ x h with h|h
   ·exact hs x h
   ·exact .inr (List.mem_cons_of_mem _ h)
theorem Hk{h:ad}{pb:Nat}{d:DB}{s:Int}{st:aB}(q:di h pb d s st){n:Nat}(ej:EJ n d){rows:List Row}(hr:∀r∈rows,fc r)(wq:n+rows.length+2<2^18)(gu:-2^63<=s/\s<2^63){rb:Option Addr}{rn rc:Nat}(qr:Sl 59 az h (.slice rb rn rc) rows)
 {D:DB×Int} (hD:fB s st.table rows d=D) {k:Value->ad->Prop} (hk:∀h',Kp [pb] h h'->di h' pb D.1 s st->k (.int .i64 D.2) h'):
 Ct 92 [.slice rb rn rc,.func (.func 93) #[.pointer (some ⟨pb,0,none⟩)] #[]] h k:=by
 have hn:=qr.len;obtain⟨I,bh⟩:∃I:Nat->ad->Prop,∀i h',I i h'=∃d',di h' pb d' s st/\EJ (n+i) d'/\Kp [pb] h h'/\fB s st.table (rows.drop i) d'=D:=⟨_,fun _ _=>rfl⟩;have hJ:I 0 h:=by rw[bh];exact⟨d,q,ej,Kp.refl _ _,hD⟩
 refine Fw hn I hJ (fun i h' hI=>?_) (fun i x h' b1 n1 c1 hi hx hI hv=>?_) (fun h' hI=>?_)
 ·rw[bh]at hI;obtain⟨d',q',CO,kp,-⟩:=hI;exact qr.mono (q.kp kp (by decide))
 ·rw[bh]at hI;obtain⟨d',q',CO,kp,he⟩:=hI;have hd:rows.drop i=x::rows.drop (i+1):=by obtain⟨h1,h2⟩:=List.getElem?_eq_some_iff.1 hx;rw[List.drop_eq_getElem_cons h1,h2]
  have Ck:=hr x (List.mem_of_getElem? hx);have hlen:x.length=2:=by obtain⟨a,v,e,-⟩:=Ck;rw[e];rfl
  have Gt:=(CO.held st.table).key;rw[hd]at he;replace he:(match jq d' s st.table (jI d' st.table x)with
   | (d2,e)=>if e≠0 then(d2,e)else fB s st.table (rows.drop (i+1)) d2)=D:=he
  have Xv:=CO.take st.table gu Ck;refine UL q' CO.sj.zs (by omega) gu (by rw[Gt,hlen];decide) hv (fun h2 k2 q2=>⟨_,rfl,fun h0=>?_,fun h0=>?_⟩)
  ·generalize jq d' s st.table (jI d' st.table x)=E at *;obtain⟨d2,e⟩:=E;replace he:(if e≠0 then(d2,e)else fB s st.table (rows.drop (i+1)) d2)=D:=he;rw[if_neg (fun g=>g h0)]at he;rw[bh];exact⟨d2,q2,Xv,kp.trans k2,he⟩
  ·generalize jq d' s st.table (jI d' st.table x)=E at *;obtain⟨d2,e⟩:=E;replace he:(if e≠0 then(d2,e)else fB s st.table (rows.drop (i+1)) d2)=D:=he;rw[if_pos h0]at he;subst he;exact hk h2 (kp.trans k2) q2
 ·rw[bh]at hI;obtain⟨d',q',CO,kp,he⟩:=hI;rw[List.drop_of_length_le (by omega)]at he;have he:(d',0)=D:=he;subst he;exact hk h' kp q'
def vJ(d:DB)(s:Int)(x:aB)(T:cg):DB×Int:=
 if aG x.bB (aE T)≠0 then(d,aG x.bB (aE T))else match cR x.bB (aE T) (fun _=>([],0)) T.rows ([],[])with
  | (p,e)=>if e≠0 then(d,e)else fB s x.table p.1 d
theorem oa{w:List Nd}{cols:List bM}{f:Row->Row×Int}:∀ {rows:List Row} {xs ys:List Row},(cR w cols f rows (xs,ys)).1.1.length<=xs.length+rows.length/\(cR w cols f rows (xs,ys)).1.2.length<=ys.length+rows.length
 | [],xs,ys=>⟨Nat.le_refl _,Nat.le_refl _⟩
 |r::rs,xs,ys=>by
  rw[iA];have hs:=ny (w:=w) (cols:=cols) (f:=f) (r:=r) (xs:=xs) (ys:=ys) (i:=max xs.length ys.length) (by omega) (by omega);have h1:(dV w cols f r xs ys).1.1.length<=xs.length+1/\(dV w cols f r xs ys).1.2.length<=ys.length+1:=by
   unfold dV;generalize cW w cols r=H;obtain⟨is,e⟩:=H;by_cases h0:e=0
   ·cases is
    ·simp[h0]
    ·simp[h0]
   ·simp[h0]
  by_cases c:(dV w cols f r xs ys).2≠0
  ·rw[if_pos c];simp only[List.length_cons];omega
  ·rw[if_neg c];generalize dV w cols f r xs ys=E at *;obtain⟨⟨a,b⟩,e⟩:=E;have:=oa (w:=w) (cols:=cols) (f:=f) (rows:=rs) (xs:=a) (ys:=b);simp only[List.length_cons];have h2:a.length<=xs.length+1/\b.length<=ys.length+1:=h1;omega
theorem PC{h:ad}{pb:Nat}{d:DB}{s:Int}{st:aB}(q:di h pb d s st)(hx:eO st){n:Nat}(ej:EJ n d)(wq:n+300<2^18)(gu:-2^63<=s/\s<2^63){wb tb:Nat}(gw:h wb=some (.cells #[.pointer (some ⟨pb,0,none⟩)] 99 (0,0)))
 {T:cg} (hT:Tw T) {b1:Option Addr} {n1 c1:Nat} {b2:Option Addr} {n2 c2:Nat} (gt:h tb=some (.cells #[.string T.S.name,.slice b1 n1 c1,.int .i64 T.S.key,.bool T.S.only,.slice b2 n2 c2] 51 (0,0))) (vZ:Sl 165 aT h (.slice b1 n1 c1) T.S.cols) (L4:Sl 59 az h (.slice b2 n2 c2) T.rows)
 {k:Value->ad->Prop} (hk:∀h',Kp [pb] h h'->di h' pb (vJ d s st T).1 s st->k (.int .i64 (vJ d s st T).2) h'):
 Ct 95 [.pointer (some ⟨wb,0,none⟩),.pointer (some ⟨tb,0,none⟩)] h k:=by
 obtain⟨A,hA⟩:=Ar.ex;obtain⟨D,hD⟩:∃D,vJ d s st T=D:=⟨_,rfl⟩;rw[hD]at hk;refine q.elim (fun Lj KH Lf Li KG Ld Lh KF Lb Lg KE K9 Gd EV FU Gc EU FT Gb B1 FR Ef Ae A6 Ga ET FQ sI sf sH g qd q1 q2 q3 q4 q5 q6=>?_);clear q1 q2 q3 q4 q5 qd;have KW:∀c∈aE T,Nm c.name:=fun c sC=>by
  obtain⟨c0,h1,h2⟩:=List.mem_map.1 sC;rw[<-h2];exact lp hT.nm (hT.rS c0 h1)
 refine ah A (aq T95.ax T95.bm) Tryz.func95 rfl (by kernel_rfl) ?_;cbv;refine ar gw rfl rfl ?_;cbv;first|rw[ai A,ai A] |rw[ai A] |skip
 refine ar g rfl rfl ?_;cbv;refine ar gt rfl rfl ?_;cbv;refine iz hT.nm.nm (fun c hh=>(hT.rS c hh).nm) vZ T.S.key T.S.only b2 n2 c2 (fun h2 cb cn cc l2 qb=>?_);have g2:=l2 _ _ g;have kR:=l2 _ _ gw;have gt2:=l2 _ _ gt;cbv;first|rw[ai A,ai A] |rw[ai A] |skip
 refine ar g2 rfl rfl ?_;cbv;refine⟨⟨_,rfl,rfl⟩,?_⟩;cbv;refine ar kR rfl rfl ?_;cbv;refine⟨⟨_,rfl,rfl⟩,?_⟩;cbv;rw[<-jy]at qb;have pK:D=if aG st.bB (aE T)≠0 then(d,aG st.bB (aE T))else match cR st.bB (aE T) (fun _=>([],0)) T.rows ([],[])with
  | (p,e)=>if e≠0 then(d,e)else fB s st.table p.1 d:=hD.symm
 refine mL hx.bB KW (q6.mono (l2.t _)) qb.sl (fun h3 e l3 he=>?_);rw[<-he]at pK;have fe:A .aF .neq e 0=decide (e≠0):=ay A ..;have qO:=l2.trans l3;have Qo:=q.mono qO;have pU:=qO _ _ gw;have K3:=qO _ _ gt;clear hD g g2 kR gt2 he;by_cases h0:e≠0
 ·rw[if_pos h0]at pK;subst pK;have af:=hk h3 (qO.kp _) Qo;clear hk;cbv;rw[fe,decide_eq_true h0];cbv;exact af
 rw[if_neg h0]at pK;cbv;rw[fe,decide_eq_false h0];cbv;refine ar pU rfl rfl ?_;cbv;refine ar K3 rfl rfl ?_;cbv;obtain⟨C,hC⟩:∃C,C=cR st.bB (aE T) (fun _=>([],0)) T.rows ([],[]):=⟨_,rfl⟩;have fU:∀x∈C.1.1,fc x:=fun x wj=>by
  rw[hC]at wj;rcases nZ x wj with h|h
  ·cases h
  ·exact(hT.row x h).1
 have hlen:C.1.1.length<=200:=by rw[hC];have:=(oa (w:=st.bB) (cols:=aE T) (f:=fun _=>([],0)) (rows:=T.rows) (xs:=[]) (ys:=[])).1;have h2:=hT.len;simp only[List.length_nil]at this;omega
 rw[<-hC]at pK;refine NR Qo hx hT.nm hT.rS (fun r hr=>(hT.row r hr).2) (by have:=hT.len;omega) (vZ.mono (qO.t _)) (L4.mono (qO.t _)) (f:=fun _=>([],0)) (fun h' r rb rn rc l _ _=>S7 ⟨none,0,0,rfl,Le.refl _,Sl.nil⟩) hC (fun h4 UA n1' GJ b2' n2' c2' l4 s1 s2=>?_);obtain⟨⟨xs,ys⟩,e2⟩:=C;replace s1:Sl 59 az h4 (.slice UA n1' GJ) xs:=s1;replace pK:D=if e2≠0 then(d,e2)else fB s st.table xs d:=pK
 replace fU:∀x∈xs,fc x:=fU;replace hlen:xs.length<=200:=hlen;have NF:A .aF .eql e2 0=decide (e2=0):=aw A ..;have OE:=Qo.mono l4;have wy:=l4 _ _ pU;have VR:=(qO.trans l4).kp [pb];clear s2 hC;by_cases h2:e2=0
 ·rw[if_neg (fun g=>g h2)]at pK;cbv;rw[NF,decide_eq_true h2];cbv;refine ar wy rfl rfl ?_;cbv;refine Hk OE ej fU (by omega) gu s1 pK.symm (fun h5 k5 q5=>?_);have af:=hk h5 (VR.trans k5) q5;clear hk;cbv;exact af
 ·rw[if_pos h2]at pK;subst pK;have af:=hk h4 VR OE;clear hk;cbv;rw[NF,decide_eq_false h2];cbv;exact af
theorem delW{h:ad}{pb:Nat}{d:DB}{s:Int}{st:aB}(q:di h pb d s st)(hx:eO st){n:Nat}(ej:EJ n d)(iq:n+700<2^18)(gu:-2^63<=s/\s<2^63){k:Value->ad->Prop}
 (hk:∀h',Kp [pb] h h'->di h' pb (jl d s st).1 s st->k (.tuple #[.slice none 0 0,.int .i64 (jl d s st).2.2]) h'):
 Ct 43 [.pointer (some ⟨pb,0,none⟩)] h k:=by
 obtain⟨A,hA⟩:=Ar.ex;have hP:jl d s st=match aO d ⟨s,st.table,true⟩with
  | (d,e)=>if e≠0 then(d,[],e)else if(bU d st.table).S.only=true then(d,[],19)else cC d (vJ d s st (bU d st.table)):=rfl
 generalize jl d s st=D at *;have JK:=ej.hold ⟨s,st.table,true⟩ gu;obtain⟨c,hp⟩:=q.has;refine q.elim (fun b1 n1 c1 b2 n2 c2 b3 n3 c3 b4 n4 c4 b5 n5 c5 b6 n6 c6 b7 n7 c7 b8 n8 c8 b9 n9 c9 eQ fJ eP g qd q1 q2 q3 q4 q5 q6=>?_);clear q1 q2 q3 q4 q5 q6;refine ah A (aq T43.ax T43.bm) Tryz.func43 rfl (by kernel_rfl) ?_;cbv;intro wb h1 gn e1;have l1:Le h h1:=by rw[e1];exact Le.set gn
 have kT:h1 wb=some (.cells #[.pointer (some ⟨pb,0,none⟩)] 99 (0,0)):=by rw[e1];exact ae
 have nw:wb≠pb:=fun e=>by rw[e,hp]at gn;cases gn
 have g1:=l1 _ _ g;clear e1;cbv;refine ar kT rfl rfl ?_;cbv;refine ar kT rfl rfl ?_;cbv;first|rw[ai A,ai A] |rw[ai A] |skip
 refine ar g1 rfl rfl ?_;cbv;refine C6 (q.mono l1) ej.sj.zs (by omega) st.table true (fun h2 k2 q2=>?_);generalize aO d ⟨s,st.table,true⟩=H at *;obtain⟨d1,e⟩:=H;replace q2:di h2 pb d1 s st:=q2;replace JK:EJ (n+1) d1:=JK;replace hP:D=if e≠0 then(d1,[],e)else if(bU d1 st.table).S.only=true then(d1,[],19)else cC d1 (vJ d1 s st (bU d1 st.table)):=hP
 have fe:A .aF .neq e 0=decide (e≠0):=ay A ..;have KM:Kp [pb] h h2:=(l1.kp _).trans k2;have kR:=k2 _ _ kT (by simpa using nw);by_cases h0:e≠0
 ·rw[if_pos h0]at hP;subst hP;have af:=hk h2 KM q2;clear hk;cbv;rw[fe,decide_eq_true h0];cbv;exact af
 ·rw[if_neg h0]at hP;have Fp:=JK.held st.table;refine q2.elim (fun Lj KH Lf Li KG Ld Lh KF Lb Lg KE K9 Gd EV FU Gc EU FT Gb B1 FR Ef Ae A6 Ga ET FQ sI sf sH g2 Qi q1 TH q3 q4 q5 q6=>?_);clear q1 TH q3 q4 q5 q6 Qi;cbv;rw[fe,decide_eq_false h0];cbv;refine ar kR rfl rfl ?_;cbv;refine ar kR rfl rfl ?_;cbv;first|rw[ai A,ai A] |rw[ai A] |skip
  refine ar g2 rfl rfl ?_;cbv;refine⟨?_,?_⟩
  ·refine td q2 st.table (fun T t1 u1 w1 t2 u2 w2 hT s1 s2=>?_);rw[<-hT]at Fp hP;clear hT;cbv;intro tb h4 f4 e4;have l4:Le h2 h4:=by rw[e4];exact Le.set f4
   have Fs:h4 tb=some (.cells #[.string ⟨#[]⟩,.slice none 0 0,.int .i64 0,.bool false,.slice none 0 0] 51 (0,0)):=by rw[e4];exact ae
   obtain⟨h3,rfl⟩:∃h3,h3=h2:=⟨_,rfl⟩;have g3:=g2;have pU:=kR;have Ce:=KM;have q3:=q2;clear e4;cbv;refine eH Fs (by simp) (fun h5 e5=>?_);have Jx:h5 tb=some (.cells #[.string T.S.name,.slice t1 u1 w1,.int .i64 T.S.key,.bool T.S.only,.slice t2 u2 w2] 51 (0,0)):=by rw[e5];exact ae
   have yF:Le h3 h5:=fun b o hb=>by rw[e5,av (fun e=>by rw[e,f4]at hb;cases hb)];exact l4 _ _ hb
   have AD:tb≠pb:=fun e=>by rw[e,g3]at f4;cases f4
   clear e5;obtain⟨PX,Cm⟩:∃b,b=T.S.only:=⟨_,rfl⟩;have Jw:=Jx;rw[<-Cm]at Jw;cbv;rw[ai A,ai A];refine ar Jw rfl rfl ?_;cbv;have pj:=yF _ _ pU;have DC:=Ce.trans (yF.kp [pb]);have q5:=q3.mono yF;cases PX with
   |true=>rw[<-Cm,if_pos rfl]at hP;subst hP;have af:=hk h5 DC q5;clear hk;cbv;exact af
   |false=>rw[<-Cm,if_neg (by simp)]at hP;have jj:∀h6,Le h5 h6->di h6 pb d1 s st->Ct 95 [.pointer (some ⟨wb,0,none⟩),.pointer (some ⟨tb,0,none⟩)] h6 (fun r h7=>r=.int .i64 (vJ d1 s st T).2/\Kp [pb] h6 h7/\di h7 pb (vJ d1 s st T).1 s st):=fun h6 l6 wD=>PC wD hx JK (by omega) gu (l6 _ _ pj) Fp (l6 _ _ Jx) (s1.mono ((yF.trans l6).t _)) (s2.mono ((yF.trans l6).t _)) (fun h7 k7 q7=>⟨rfl,k7,q7⟩);generalize vJ d1 s st T=E at *;cbv;refine ar pj rfl rfl ?_;cbv;refine zD q5 jj (fun h6 k6 wD=>?_);rw[<-hP]at wD |-;have af:=hk h6 (DC.trans k6) wD;clear hk jj;generalize D.2.2=De at *;cbv;exact af
  ·intro tb h4 f4 e4;have l4:Le h2 h4:=by rw[e4];exact Le.set f4
   have Fs:h4 tb=some (.cells #[.string ⟨#[]⟩,.slice none 0 0,.int .i64 0,.bool false,.slice none 0 0] 51 (0,0)):=by rw[e4];exact ae
   obtain⟨h3,rfl⟩:∃h3,h3=h2:=⟨_,rfl⟩;have g3:=g2;have pU:=kR;have Ce:=KM;have q3:=q2;have g4':=l4 _ _ g2;have Jv:=l4 _ _ kR;clear e4;cbv;refine ar g4' rfl rfl ?_;cbv;refine⟨⟨_,rfl,rfl⟩,?_⟩;cbv;refine ar Jv rfl rfl ?_;cbv;refine⟨⟨_,rfl,rfl⟩,?_⟩;cbv;refine ar Jv rfl rfl ?_;cbv;refine⟨⟨_,rfl,rfl⟩,?_⟩;cbv;refine td (q2.mono l4) st.table (fun T t1 u1 w1 t2 u2 w2 hT UU UT=>?_);rw[<-hT]at Fp hP;clear hT;cbv;refine eH Fs (by simp) (fun h5 e5=>?_);have Sp:h5 tb=some (.cells #[.string T.S.name,.slice t1 u1 w1,.int .i64 T.S.key,.bool T.S.only,.slice t2 u2 w2] 51 (0,0)):=by rw[e5];exact ae
   have qJ:bE [165,59,61] h4 h5:=by rw[e5];exact bE.set Fs (by decide)
   have s1:=UU.mono (qJ.sub (by decide));have s2:=UT.mono (qJ.sub (by decide));clear UU UT qJ Sp;have Jx:h5 tb=some (.cells #[.string T.S.name,.slice t1 u1 w1,.int .i64 T.S.key,.bool T.S.only,.slice t2 u2 w2] 51 (0,0)):=by rw[e5];exact ae
   have yF:Le h3 h5:=fun b o hb=>by rw[e5,av (fun e=>by rw[e,f4]at hb;cases hb)];exact l4 _ _ hb
   have AD:tb≠pb:=fun e=>by rw[e,g3]at f4;cases f4
   clear e5;obtain⟨PX,Cm⟩:∃b,b=T.S.only:=⟨_,rfl⟩;have Jw:=Jx;rw[<-Cm]at Jw;cbv;rw[ai A,ai A];refine ar Jw rfl rfl ?_;cbv;have pj:=yF _ _ pU;have DC:=Ce.trans (yF.kp [pb]);have q5:=q3.mono yF;cases PX with
   |true=>rw[<-Cm,if_pos rfl]at hP;subst hP;have af:=hk h5 DC q5;clear hk;cbv;exact af
   |false=>rw[<-Cm,if_neg (by simp)]at hP;have jj:∀h6,Le h5 h6->di h6 pb d1 s st->Ct 95 [.pointer (some ⟨wb,0,none⟩),.pointer (some ⟨tb,0,none⟩)] h6 (fun r h7=>r=.int .i64 (vJ d1 s st T).2/\Kp [pb] h6 h7/\di h7 pb (vJ d1 s st T).1 s st):=fun h6 l6 wD=>PC wD hx JK (by omega) gu (l6 _ _ pj) Fp (l6 _ _ Jx) (s1.mono (l6.t _)) (s2.mono (l6.t _)) (fun h7 k7 q7=>⟨rfl,k7,q7⟩);generalize vJ d1 s st T=E at *;cbv;refine ar pj rfl rfl ?_;cbv;refine zD q5 jj (fun h6 k6 wD=>?_);rw[<-hP]at wD |-;have af:=hk h6 (DC.trans k6) wD;clear hk jj;generalize D.2.2=De at *;cbv;exact af
theorem QJ(nm:ByteArray){h:ad}{k:Value->ad->Prop}(hk:∀h' b n c,Le h h'->Sl 325 cT h' (.slice b n c) [fk nm]->k (.slice b n c) h'):Ct 287 [.string nm] h k:=by
 obtain⟨A,hA⟩:=Ar.ex;refine ah A (aq Yo.ax Yo.bm) Tryz.func287 rfl (by kernel_rfl) ?_;cbv;intro nb h1 f1 e1;have l1:Le h h1:=by rw[e1];exact Le.set f1
 have q:Sl 325 cT h1 (.slice (some ⟨nb,0,none⟩) 1 1) [fk nm]:=bp (s:=cT) ((congrFun e1 nb).trans ae) rfl;have af:=hk h1 _ _ _ l1 q;clear hk e1 q;cbv;exact af
def kI(c:bM):bM:=⟨c.name,2,c.null⟩
theorem nW{name:ByteArray}:∀(l m:List bM) (i:Int) (a:Option Int),l.map (·.name)=m.map (·.name)->gS name l i a=gS name m i a
 | [],[],_,none,_=>rfl
 | [],[],_,some _,_=>rfl
 | [],b::m,_,_,h=>by simp at h
 |a::l,[],_,_,h=>by simp at h
 |c::l,d::m,i,a,h=>by
  have h1:c.name=d.name:=by simp at h;exact h.1
  have h2:l.map (·.name)=m.map (·.name):=by simp at h;exact h.2
  rw[iZ,iZ,h1];cases kj name d.name with
  |false=>exact nW l m (i+1) a h2
  |true=>
   cases a with
   |some x=>rfl
   |none=>exact nW l m (i+1) (some i) h2
theorem sD{name:ByteArray}:∀(l:List bM) (i:Int) (a:Option Int),(gS name l i a).2≠0->(gS name l i a).1=0
 | [],_,none,_=>rfl
 | [],_,some _,h=>absurd rfl h
 |c::l,i,a,h=>by
  rw[iZ]at *;cases ht:kj name c.name with
  |false=>rw[ht]at h;exact sD l (i+1) a h
  |true=>
   rw[ht]at h;cases a with
   |some x=>rfl
   |none=>exact sD l (i+1) (some i) h
def lC:Nat->Nat->Row
 |_,0=>[]
 |i,n+1=>⟨2,(i:Int),b0⟩::lC (i+1) n
theorem uM:∀(n i j:Nat),j<n->(lC i n)[j]? =some ⟨2,((i+j:Nat):Int),b0⟩
 |0,_,_,h=>by omega
 |n+1,i,0,_=>rfl
 |n+1,i,j+1,h=>by
  show(lC (i+1) n)[j]? =_;rw[uM n (i+1) j (Nat.lt_of_succ_lt_succ h),show i+1+j=i+(j+1)by omega]
theorem qG:∀(n i:Nat),(lC i n).length=n
 |0,_=>rfl
 |n+1,i=>by show(lC (i+1) n).length+1=_;rw[qG n]
theorem xB:∀(n i:Nat),lC i n++[⟨2,((i+n:Nat):Int),b0⟩]=lC i (n+1)
 |0,i=>rfl
 |n+1,i=>by
  show _::(lC (i+1) n++_)=_::lC (i+1) (n+1);rw[<-xB n (i+1),show i+1+n=i+(n+1)by omega]
theorem EN{nm:ByteArray}{cols:List bM}:∃v,fW [fk nm] (cols.map kI) (lC 0 cols.length)=(v,(dt nm cols).2)/\v.n=(dt nm cols).1:=by
 have hf:dt nm (cols.map kI)=dt nm cols:=nW _ _ _ _ (by rw[List.map_map];rfl);have jD:=AS (name:=nm) cols 0 none (dt nm cols) rfl (.inl rfl) (by decide);have her:=sD (name:=nm) cols 0 none;have e1:qP (fk nm) [] (cols.map kI)=match dt nm (cols.map kI)with
  | (c,e)=>if e≠0 then(0,e)else(match (cols.map kI)[c.toNat]? with
   |some c=>(c.kind,0)
   |none=>(0,0)):=rfl
 rw[hf]at e1;have e2:jB [fk nm] (cols.map kI)=match iT (cols.map kI) [fk nm] []with
  | (l,f)=>if f≠0 then(0,f)else(sW l,0):=rfl
 rw[nO,e1]at e2;have e3:nG (fk nm) [] (cols.map kI) (lC 0 cols.length)=match dt nm (cols.map kI)with
  | (c,_)=>some (pr (lC 0 cols.length) c):=rfl
 rw[hf]at e3;have e4:fW [fk nm] (cols.map kI) (lC 0 cols.length)=match jB [fk nm] (cols.map kI)with
  | (_,f)=>if f≠0 then(v0,f)else match gZ (cols.map kI) (lC 0 cols.length) [fk nm] []with
   |some l=>(pc l,0)
   |none=>(v0,11):=rfl
 rw[nF]at e4;change (dt nm cols).2≠0->(dt nm cols).1=0 at her;generalize dt nm cols=P at *;obtain⟨c,e⟩:=P;by_cases h0:e=0
 ·subst h0;have hb:=jD rfl;obtain⟨x,hx⟩:=aD (xs:=cols) (i:=c.toNat) (by have:=hb.2;have:=hb.1;simp at *;omega);have IW:(cols.map kI)[c.toNat]? =some (kI x):=by rw[List.getElem?_map,hx];rfl
  have wz:jB [fk nm] (cols.map kI)=(2,0):=by rw[e2];simp only[IW];rfl
  have hc:c.toNat<cols.length:=(List.getElem?_eq_some_iff.1 hx).1;have hv:pr (lC 0 cols.length) c=⟨2,c,b0⟩:=by rw[oC (uM cols.length 0 c.toNat hc) (by have:=hb.1;simp at *;omega)];congr 1;have:=hb.1;simp at *;omega
  refine⟨⟨2,c,b0⟩,?_,rfl⟩;have Uv:nG (fk nm) [] (cols.map kI) (lC 0 cols.length)=some ⟨2,c,b0⟩:=by rw[e3];show some (pr _ c)=_;rw[hv]
  rw[e4,wz,Uv];rfl
 ·refine⟨v0,?_,(her h0).symm⟩;have wz:jB [fk nm] (cols.map kI)=(0,e):=by rw[e2];simp[h0]
  rw[e4,wz];simp[h0]
theorem HQ{nm:ByteArray}(hn:Nm nm){cols:List bM}(hc:∀c∈cols,Nm c.name){h:ad}{cb:Option Addr}{cn cc:Nat}(qc:Sl 165 aT h (.slice cb cn cc) cols){k:Value->ad->Prop}
 (hk:∀h',Le h h'->k (.tuple #[.int .i64 (dt nm cols).1,.int .i64 (dt nm cols).2]) h'):Ct 250 [.string nm,.slice cb cn cc] h k:=by
 obtain⟨A,hA⟩:=Ar.ex;have Uj:=qc.len;have hcb:=qc.bound;obtain⟨pv,hpv,O3⟩:=EN (nm:=nm) (cols:=cols);rw[<-Uj]at hpv;rw[<-O3]at hk;generalize (dt nm cols).2=pe at *;have hcK:∀c∈cols.map kI,Nm c.name:=fun c sC=>by
  obtain⟨c0,h1,h2⟩:=List.mem_map.1 sC;rw[<-h2];exact hc c0 h1
 have fI:∀v∈lC 0 cn,kO v:=fun v hv=>by
  obtain⟨j,hj⟩:=List.getElem?_of_mem hv;have rO:j<cn:=by have:=(List.getElem?_eq_some_iff.1 hj).1;rw[qG]at this;exact this
  rw[uM cn 0 j rO]at hj;cases hj;show mR _=true;rw[ji];have yY:(2:Nat)^40=1099511627776:=rfl;show -9223372036854775808<=((0+j:Nat):Int)/\((0+j:Nat):Int)<=9223372036854775807;omega
 have hin2:∀v,0<=v/\v<(cn:Int)->aP v v.toNat:=fun v hv=>⟨by omega⟩;obtain⟨J,dI⟩:∃J:Option Addr×Nat×Nat->ad->Prop,∀g h',J g h'=(Le h h'/\cK 165 aT h h' (.slice g.1 cn g.2.1) cols/\dq 61 aQ h' g.2.2 cn []/\h g.2.2=none):=⟨_,fun _ _=>rfl⟩;refine xN A [false,true] (aq YJ.ax YJ.bm) Tryz.func250 rfl (by kernel_rfl) ?_;cbv;refine Bj.go (G:=Option Addr×Nat×Nat) (fun g=>[(6,.v (.slice g.1 cn g.2.1)),(7,.v (.slice (some ⟨g.2.2,0,none⟩) cn cn))]) (fun _=>[]) J ?_ ?_
 ·have first:∀h1 b' c',Le h h1->cK 165 aT h h1 (.slice b' cn c') cols->∀nb h2,h1 nb=none->Le h1 h2->dq 61 aQ h2 nb cn []->J (b',c',nb) h2:=fun h1 b' c' l1 qb nb h2 f2 l2 o=>by
   rw[dI];exact⟨l1.trans l2,qb.mono (l2.t _),o,by
    cases hh:h nb with
    |none=>rfl
    |some x=>rw[l1 _ _ hh]at f2;cases f2⟩
  have second:∀nb h1,h nb=none->Le h h1->dq 61 aQ h1 nb cn []->∀h2 b' c',Le h1 h2->cK 165 aT h1 h2 (.slice b' cn c') cols->J (b',c',nb) h2:=fun nb h1 f1 l1 o h2 b' c' l2 qb=>by
   rw[dI];exact⟨l1.trans l2,qb.base l1,o.mono (l2.t _),f1⟩
  clear dI hk;cbv;refine⟨?_,?_⟩
  ·refine(sG qc).mono (fun v h1 hR=>?_);obtain⟨l1,b',c',hv,qb⟩:=hR;subst hv;have first:=first h1 b' c' l1 qb
   cbv;refine⟨?_,?_⟩
   ·refine ig (s:=aQ) rfl (by omega) (by decide) (fun nb h2 f2 l2 o=>?_);have af:=first nb h2 f2 l2 o
    clear first second
    cbv;refine⟨(_,_,_),⟨?_,?_,?_⟩,af⟩
    ·cbv
    ·cbv
    ·cbv
   ·refine ig (s:=aQ) rfl (by omega) (by decide) (fun nb h2 f2 l2 o=>?_);have af:=first nb h2 f2 l2 o
    clear first second
    cbv;refine⟨(_,_,_),⟨?_,?_,?_⟩,af⟩
    ·cbv
    ·cbv
    ·cbv
  ·refine ig (s:=aQ) rfl (by omega) (by decide) (fun nb h1 f1 l1 o=>?_);have second:=second nb h1 f1 l1 o;cbv;refine(sG (qc.mono (l1.t _))).mono (fun v h2 hR=>?_);obtain⟨l2,b',c',hv,qb⟩:=hR;subst hv;have af:=second h2 b' c' l2 qb;clear first second
   cbv;refine⟨(_,_,_),⟨?_,?_,?_⟩,af⟩
   ·cbv
   ·cbv
   ·cbv
 ·intro g h1 hg;rw[dI]at hg;obtain⟨gb,gc,rb⟩:=g;obtain⟨l1,qb,o,Bq⟩:=hg;replace qb:cK 165 aT h h1 (.slice gb cn gc) cols:=qb;replace o:dq 61 aQ h1 rb cn []:=o;replace Bq:h rb=none:=Bq;have hL:∀h2,Le h h2->Sl 165 aT h2 (.slice gb cn gc) (cols.map kI)->Sl 61 aQ h2 (.slice (some ⟨rb,0,none⟩) cn cn) (lC 0 cn)->∀h3 xb xn xc,Le h2 h3->Sl 325 cT h3 (.slice xb xn xc) [fk nm]->
   Ct 163 [.slice xb xn xc,.slice gb cn gc,.slice (some ⟨rb,0,none⟩) cn cn] h3 (fun r h4=>Le h h4/\r=.tuple #[pv.v,.int .i64 pe]):=fun h2 l2 s1 s2 h3 xb xn xc l3 sx=>BB (fun n hh=>by
    rcases List.mem_cons.1 hh with rfl|hh
    ·exact⟨hn,ui⟩
    ·cases hh) hcK fI sx (s1.mono (l3.t _)) (s2.mono (l3.t _)) (fun h4 v e w l4 hv hw=>by
     rw[hpv]at hv;cases hv;exact⟨l2.trans (l3.trans l4),by rw[hw]⟩)
  obtain⟨I,bh⟩:∃I:Nat->Int->ad->Prop,∀m z h',I m z h'=∃i,aP z i/\i<=cn/\m=cn-i/\Le h h'/\dq 61 aQ h' rb cn (lC 0 i)/\(cn=0\/∃nb,gb=some ⟨nb,0,none⟩/\h nb=none/\dq 165 aT h' nb gc ((cols.take i).map kI++cols.drop i)):=⟨_,fun _ _ _=>rfl⟩;have hJ:I cn 0 h1:=by
   rw[bh];refine⟨0,⟨rfl⟩,Nat.zero_le _,rfl,l1,o,?_⟩;rcases qb.out with ⟨b0,g1,g2⟩ | ⟨nb,cap,g1,g2,o2⟩
   ·cases g1;exact .inl rfl
   ·cases g1;exact .inr ⟨nb,rfl,g2,o2⟩
  clear dI o qb;cbv;refine aZ.go (G:=Int) (fun z=>[(18,.v (.int .i64 z))]) (fun _=>[]) (fun m z h'=>I m z h') cn 0 ⟨?_,?_,?_⟩ hJ ?_
  ·cbv
  ·cbv
  ·cbv
  ·intro m z h2 hI;rw[bh]at hI;cbv;obtain⟨i,hz,hi,hm,l2,orb,dn⟩:=hI;have f1:A .aF .lss z (A .nat cn)=decide (i<cn):=hz.gE (aP.nat cn);rw[f1];by_cases aI:i<cn
   ·obtain⟨nb,Pb,eK,oc⟩:=dn.resolve_left (by omega);subst Pb;obtain⟨c,Ui⟩:=aD (xs:=cols) (i:=i) (by omega);have hg:=Dv (f:=kI) Ui;have ll:=Du (f:=kI) Ui;have hlen:((cols.take i).map kI++cols.drop i).length=cn:=by simp;omega
    generalize (cols.take i).map kI++cols.drop i=L at *;have cy:0<=z/\z<(cn:Int):=hz.ix aI;have eX:=hz.eq;have dz:=hz.succ (A:=A) (by omega);have iD:cn-(i+1)<m:=by omega
    have pS:=qG i 0;have Gq:=xB i 0;rw[Nat.zero_add]at Gq;have cU:∀h3,Le h h3->dq 61 aQ h3 rb cn (lC 0 (i+1))->dq 165 aT h3 nb gc (L.set i (kI c))->I (cn-(i+1)) (A .bA .add .i64 z 1) h3:=fun h3 l3 o1 o2=>by
     rw[bh];exact⟨i+1,dz,aI,rfl,l3,o1,.inr ⟨nb,rfl,eK,by rw[<-ll];exact o2⟩⟩
    clear bh hJ hL dz hk;rw[decide_eq_true aI];cbv;refine⟨⟨rfl,cy⟩,?_⟩;cbv;refine oc.Ev (by decide) hg eX rfl (off:=1) (new:=[.int .i64 2]) (show 1+1<=3 by omega) (x':=kI c) (fun cs aJ=>?_) (fun h3 k3 t3 oc3=>?_)
    ·obtain⟨rS,A3,D6⟩:=c;have aJ:cs=[.string rS,.int .i64 A3,.bool D6]:=aJ;subst aJ;rfl
    ·have or3:=orb.mono (t3 _ (by decide));have l3:Le h h3:=l2.cm (fun b hb=>by rw[List.mem_singleton.1 hb];exact eK) k3;clear oc orb;cbv;refine⟨⟨rfl,cy⟩,?_⟩;cbv;refine or3.store (by decide) (i:=i) (x:=⟨2,(i:Int),b0⟩) (by rw[pS];exact Nat.le_refl _) aI (by omega) eX rfl (by rw[eX];rfl) (fun h4 k4 t4 or4=>?_);rw[pS,if_neg (by omega),Gq]at or4;have xL:=cU h4 (l3.cm (fun b hb=>by rw[List.mem_singleton.1 hb];exact Bq) k4) or4 (oc3.mono (t4 _ (by decide)));clear cU;cbv;refine⟨cn-(i+1),A .bA .add .i64 z 1,iD,⟨?_,?_,?_⟩,xL⟩
     ·cbv
     ·cbv
     ·cbv
   ·have iE:i=cn:=by omega
    subst iE;have s2:Sl 61 aQ h2 (.slice (some ⟨rb,0,none⟩) i i) (lC 0 i):=orb.sl (qG i 0).symm;have s1:Sl 165 aT h2 (.slice gb i gc) (cols.map kI):=by
     rcases dn with h0| ⟨nb,Pb,eK,oc⟩
     ·have:cols=[]:=List.length_eq_zero_iff.1 (by omega);subst this;subst h0;exact Sl.nil
     ·subst Pb;rw[List.take_of_length_le (by omega),List.drop_of_length_le (by omega),List.append_nil]at oc;exact oc.sl (by rw[List.length_map,Uj])
    have hV:=hL h2 l2 s1 s2;clear bh hJ hL;rw[decide_eq_false aI];cbv;refine QJ nm (fun h3 xb xn xc l3 sx=>?_);cbv;refine(hV h3 xb xn xc l3 sx).mono (fun r h4 hR=>?_);obtain⟨l4,hr⟩:=hR;subst hr;have af:=hk h4 l4;obtain⟨vk,vn,vs⟩:=pv;clear hk hV;cbv;exact af
structure kV(h:ad)(qp:Nat)(x:aB)(cols:List bM)(y:Qy):Prop where
 out:∃b5 n5 c5 b6 n6 c6 b7 n7 c7 b8 n8 c8 b9 n9 c9 eQ fJ eP cb cn cc,h qp=some (.cells #[.int .i64 x.kind,.string x.nf.name,.slice b5 n5 c5,.int .i64 x.nf.key,.bool x.nf.only,.string x.table,.string x.join,.slice b6 n6 c6,.slice b7 n7 c7,.slice b8 n8 c8,.slice b9 n9 c9,.slice eQ fJ eP,.string x.group,.string x.order,.bool x.desc,.int .i64 x.fE,.string x.name,.slice cb cn cc,.int .i64 y.group,.int .i64 y.order,.bool y.kU] 188 (0,0))/\Sl 165 aT h (.slice b5 n5 c5) x.nf.cols/\Sl 325 cT h (.slice b6 n6 c6) x.on/\Sl 9 cj h (.slice b7 n7 c7) x.names/\Sl 42 eR h (.slice b8 n8 c8) x.exprs/\Sl 276 bW h (.slice b9 n9 c9) x.items/\Sl 325 cT h (.slice eQ fJ eP) x.bB/\Sl 165 aT h (.slice cb cn cc) cols
theorem kV.elim{h:ad}{qp:Nat}{x:aB}{cols:List bM}{y:Qy}(q:kV h qp x cols y){p:Prop}(k:∀b5 n5 c5 b6 n6 c6 b7 n7 c7 b8 n8 c8 b9 n9 c9 eQ fJ eP cb cn cc,h qp=some (.cells #[.int .i64 x.kind,.string x.nf.name,.slice b5 n5 c5,.int .i64 x.nf.key,.bool x.nf.only,.string x.table,.string x.join,.slice b6 n6 c6,.slice b7 n7 c7,.slice b8 n8 c8,.slice b9 n9 c9,.slice eQ fJ eP,.string x.group,.string x.order,.bool x.desc,.int .i64 x.fE,.string x.name,.slice cb cn cc,.int .i64 y.group,.int .i64 y.order,.bool y.kU] 188 (0,0))->Sl 165 aT h (.slice b5 n5 c5) x.nf.cols->Sl 325 cT h (.slice b6 n6 c6) x.on->Sl 9 cj h (.slice b7 n7 c7) x.names->Sl 42 eR h (.slice b8 n8 c8) x.exprs->Sl 276 bW h (.slice b9 n9 c9) x.items->Sl 325 cT h (.slice eQ fJ eP) x.bB->Sl 165 aT h (.slice cb cn cc) cols->p):p:=by obtain⟨b5,n5,c5,b6,n6,c6,b7,n7,c7,b8,n8,c8,b9,n9,c9,eQ,fJ,eP,cb,cn,cc,g,q1,q2,q3,q4,q5,q6,q7⟩:=q.out;exact k b5 n5 c5 b6 n6 c6 b7 n7 c7 b8 n8 c8 b9 n9 c9 eQ fJ eP cb cn cc g q1 q2 q3 q4 q5 q6 q7
theorem kV.lt{h h':ad}{qp:Nat}{x:aB}{cols:List bM}{y:Qy}(q:kV h qp x cols y)(hb:h' qp=h qp)(l:bE lO h h'):kV h' qp x cols y:=by obtain⟨b5,n5,c5,b6,n6,c6,b7,n7,c7,b8,n8,c8,b9,n9,c9,eQ,fJ,eP,cb,cn,cc,g,q1,q2,q3,q4,q5,q6,q7⟩:=q.out;exact⟨b5,n5,c5,b6,n6,c6,b7,n7,c7,b8,n8,c8,b9,n9,c9,eQ,fJ,eP,cb,cn,cc,hb.trans g,q1.mono (l.sub (by decide)),q2.mono (l.sub (by decide)),q3.mono (l.sub (by decide)),q4.mono (l.sub (by decide)),q5.mono (l.sub (by decide)),q6.mono (l.sub (by decide)),q7.mono (l.sub (by decide))⟩
theorem kV.mono{h h':ad}{qp:Nat}{x:aB}{cols:List bM}{y:Qy}(q:kV h qp x cols y)(l:Le h h'):kV h' qp x cols y:=by refine q.lt ?_ (l.t _);obtain⟨b5,n5,c5,b6,n6,c6,b7,n7,c7,b8,n8,c8,b9,n9,c9,eQ,fJ,eP,cb,cn,cc,g,-⟩:=q.out;rw[g];exact l _ _ g
theorem kV.has{h:ad}{qp:Nat}{x:aB}{cols:List bM}{y:Qy}(q:kV h qp x cols y):∃c,h qp=some (.cells c 188 (0,0)):=by obtain⟨b5,n5,c5,b6,n6,c6,b7,n7,c7,b8,n8,c8,b9,n9,c9,eQ,fJ,eP,cb,cn,cc,g,-⟩:=q.out;exact⟨_,g⟩
theorem D5{h:ad}{qp:Nat}{x:aB}{cols:List bM}{y:Qy}(q:kV h qp x cols y)(hc:∀c∈cols,Nm c.name){nm:ByteArray}(hn:Nm nm){k:Value->ad->Prop}
 (hk:∀h',Le h h'->k (.tuple #[.int .i64 (aV nm cols).1,.int .i64 (aV nm cols).2]) h'):Ct 181 [.pointer (some ⟨qp,0,none⟩),.string nm] h k:=by
 obtain⟨A,hA⟩:=Ar.ex;have hP:aV nm cols=if nm=b0 then(-1,0)else dt nm cols:=rfl
 have f1:A .je .eql nm ⟨#[]⟩=decide (nm=b0):=bN A ..;refine q.elim (fun b5 n5 c5 b6 n6 c6 b7 n7 c7 b8 n8 c8 b9 n9 c9 eQ fJ eP cb cn cc g q1 q2 q3 q4 q5 q6 q7=>?_);clear q1 q2 q3 q4 q5 q6;generalize aV nm cols=D at *;refine ah A (aq Zq.ax Zq.bm) Tryz.func181 rfl (by kernel_rfl) ?_;cbv;rw[f1];by_cases h0:nm=b0
 ·rw[if_pos h0]at hP;subst hP;have af:=hk h (Le.refl _);clear hk;rw[decide_eq_true h0];cbv;exact af
 ·rw[if_neg h0]at hP;rw[hP]at hk;rw[decide_eq_false h0];cbv;repeat (first| (rw[ai A,ai A];refine ar g rfl rfl ?_;cbv) | (rw[ai A];refine ar g rfl rfl ?_;cbv) | (refine ar g rfl rfl ?_;cbv) | (refine⟨⟨_,rfl,rfl⟩,?_⟩;cbv))
  refine HQ hn hc q7 (fun h1 l1=>?_);have af:=hk h1 l1;clear hk hP;generalize dt nm cols=E at *;obtain⟨e1,e2⟩:=E;cbv;exact af
theorem VT{h:ad}{qp:Nat}{x:aB}{cols:List bM}{y:Qy}(q:kV h qp x cols y)(hc:∀c∈cols,Nm c.name){i:dp}(hi:rK i.e){ib:Option Addr}{im ic:Nat}(qi:Sl 325 cT h (.slice ib im ic) i.e){k:Value->ad->Prop}
 (hk:∀h',Le h h'->k (.int .i64 (fY cols i)) h'):Ct 179 [.pointer (some ⟨qp,0,none⟩),.agg #[.int .i64 i.fn,.slice ib im ic]] h k:=by
 obtain⟨A,hA⟩:=Ar.ex;have hP:fY cols i=if i.fn=1 then 0 else if i.fn=2 then eW i.e cols 2 else(jB i.e cols).2:=rfl
 have f1:A .aF .eql i.fn 1=decide (i.fn=1):=aw A ..;have f2:A .aF .eql i.fn 2=decide (i.fn=2):=aw A ..;refine q.elim (fun b5 n5 c5 b6 n6 c6 b7 n7 c7 b8 n8 c8 b9 n9 c9 eQ fJ eP cb cn cc g q1 q2 q3 q4 q5 q6 q7=>?_);clear q1 q2 q3 q4 q5 q6;generalize fY cols i=D at *;obtain⟨fn,ie⟩:=i;replace hi:rK ie:=hi;replace f1:A .aF .eql fn 1=decide (fn=1):=f1;replace f2:A .aF .eql fn 2=decide (fn=2):=f2;replace hP:D=if fn=1 then 0 else if fn=2 then eW ie cols 2 else(jB ie cols).2:=hP
 refine ah A (aq Zs.ax Zs.bm) Tryz.func179 rfl (by kernel_rfl) ?_;cbv;rw[f1];by_cases h1:fn=1
 ·rw[if_pos h1]at hP;subst hP;have af:=hk h (Le.refl _);clear hk;rw[decide_eq_true h1];cbv;exact af
 rw[if_neg h1]at hP;rw[decide_eq_false h1];cbv;rw[f2];by_cases h2:fn=2
 ·rw[if_pos h2]at hP;rw[decide_eq_true h2];cbv;repeat (first| (rw[ai A,ai A];refine ar g rfl rfl ?_;cbv) | (rw[ai A];refine ar g rfl rfl ?_;cbv) | (refine ar g rfl rfl ?_;cbv) | (refine⟨⟨_,rfl,rfl⟩,?_⟩;cbv))
  refine yI hi hc 2 qi q7 (fun h1 e l1 he=>?_);rw[<-hP]at he;subst he;have af:=hk h1 l1;clear hk hP;cbv;exact af
 ·rw[if_neg h2]at hP;rw[decide_eq_false h2];cbv;repeat (first| (rw[ai A,ai A];refine ar g rfl rfl ?_;cbv) | (rw[ai A];refine ar g rfl rfl ?_;cbv) | (refine ar g rfl rfl ?_;cbv) | (refine⟨⟨_,rfl,rfl⟩,?_⟩;cbv))
  refine Kx (fun n hh=>(hi n hh).1) hc qi q7 (fun h1 a e l1 he=>?_);rw[<-he]at hP;subst hP;have af:=hk h1 l1;clear hk he;cbv;exact af
theorem AG(cols:List bM)(yg fn:Int)(ie:List Nd):bq cols yg ⟨fn,ie⟩=if fn≠0 then 0 else if yg<0 then 3 else match ie with
 | [n]=>if n.op≠2 then 3 else match dt n.name cols with
  | (k,e)=>if e≠0\/k≠yg then 3 else 0
 |_=>3:=rfl
theorem rj{h:ad}{qp:Nat}{x:aB}{cols:List bM}{y:Qy}(q:kV h qp x cols y)(hc:∀c∈cols,Nm c.name){i:dp}(hi:rK i.e){ib:Option Addr}{im ic:Nat}(qi:Sl 325 cT h (.slice ib im ic) i.e){k:Value->ad->Prop}
 (hk:∀h',Le h h'->k (.int .i64 (bq cols y.group i)) h'):Ct 187 [.pointer (some ⟨qp,0,none⟩),.agg #[.int .i64 i.fn,.slice ib im ic]] h k:=by
 obtain⟨A,hA⟩:=Ar.ex;have DL:=qi.len;have f1:A .aF .neq i.fn 0=decide (i.fn≠0):=ay A ..;have f2:A .aF .lss y.group 0=decide (y.group<0):=bC A ..;have f3:A .aF .neq (A .nat im) 1=decide (im≠1):=by rw[ay A,hA.nat,decide_eq_decide,Int.ofNat_eq_natCast];omega
 refine q.elim (fun b5 n5 c5 b6 n6 c6 b7 n7 c7 b8 n8 c8 b9 n9 c9 eQ fJ eP cb cn cc g q1 q2 q3 q4 q5 q6 q7=>?_);clear q1 q2 q3 q4 q5 q6;obtain⟨fn,ie⟩:=i;obtain⟨yg,yo,ya⟩:=y;replace hi:rK ie:=hi;replace f1:A .aF .neq fn 0=decide (fn≠0):=f1;replace f2:A .aF .lss yg 0=decide (yg<0):=f2;replace qi:Sl 325 cT h (.slice ib im ic) ie:=qi;replace DL:im=ie.length:=DL;have hP:=AG cols yg fn ie;replace hk:∀h',Le h h'->k (.int .i64 (bq cols yg ⟨fn,ie⟩)) h':=hk;generalize bq cols yg ⟨fn,ie⟩=D at *;refine ah A (aq Zl.ax Zl.bm) Tryz.func187 rfl (by kernel_rfl) ?_;cbv;rw[f1];by_cases h1:fn≠0
 ·rw[if_pos h1]at hP;subst hP;have af:=hk h (Le.refl _);clear hk;rw[decide_eq_true h1];cbv;exact af
 rw[if_neg h1]at hP;rw[decide_eq_false h1];cbv;repeat (first| (rw[ai A,ai A];refine ar g rfl rfl ?_;cbv) | (rw[ai A];refine ar g rfl rfl ?_;cbv) | (refine ar g rfl rfl ?_;cbv) | (refine⟨⟨_,rfl,rfl⟩,?_⟩;cbv))
 rw[f2];by_cases h2:yg<0
 ·rw[if_pos h2]at hP;subst hP;have af:=hk h (Le.refl _);clear hk;rw[decide_eq_true h2];cbv;exact af
 rw[if_neg h2]at hP;rw[decide_eq_false h2];cbv;rw[f3];by_cases h3:im≠1
 ·have hP:D=3:=by
   rw[hP]
   match ie,DL with
   | [],_=>rfl
   | [n],hm=>exact absurd hm h3
   |a::b::l,_=>rfl
  subst hP;have af:=hk h (Le.refl _);clear hk;rw[decide_eq_true h3];cbv;exact af
 have Sm:im=1:=Decidable.not_not.1 h3;obtain⟨n,iE⟩:∃n,ie=[n]:=by
  match ie,DL with
  | [],hm=>rw[Sm]at hm;cases hm
  | [n],hm=>exact⟨n,rfl⟩
  |a::b::l,hm=>rw[Sm]at hm;simp at hm
 subst iE;replace hP:D=if n.op≠2 then 3 else match dt n.name cols with
  | (k,e)=>if e≠0\/k≠yg then 3 else 0:=hP
 have hx:[n][0]? =some n:=rfl;have cy:ib.isSome=true/\(0:Int)<=0/\(0:Int)<(im:Int):=⟨qi.bF (by omega),by omega,by omega⟩;have fo:A .aF .neq n.op 2=decide (n.op≠2):=ay A ..;rw[decide_eq_false h3];cbv;refine⟨cy,?_⟩;cbv;refine qi.js hx rfl (o:=0) (m:=1) (by decide) (fun cs aJ=>?_);obtain⟨op,na,nb,⟨vk,vn,vs⟩,Vs⟩:=n;have aJ:cs=[.int .i64 op,.int .i64 na,.int .i64 nb,.int .i64 vk,.int .i64 vn,.string vs,.string Vs]:=aJ;subst aJ;replace fo:A .aF .neq op 2=decide (op≠2):=fo;replace hP:D=if op≠2 then 3 else match dt Vs cols with
  | (k,e)=>if e≠0\/k≠yg then 3 else 0:=hP
 have wq:Nm Vs:=(hi _ List.mem_cons_self).1;cbv;rw[fo];by_cases h4:op≠2
 ·rw[if_pos h4]at hP;subst hP;have af:=hk h (Le.refl _);clear hk;rw[decide_eq_true h4];cbv;exact af
 rw[if_neg h4]at hP;rw[decide_eq_false h4];cbv;refine⟨cy,?_⟩;cbv;refine qi.js hx rfl (o:=6) (m:=1) (by decide) (fun cs aJ=>?_);have aJ:cs=[.int .i64 op,.int .i64 na,.int .i64 nb,.int .i64 vk,.int .i64 vn,.string vs,.string Vs]:=aJ;subst aJ;cbv;repeat (first| (rw[ai A,ai A];refine ar g rfl rfl ?_;cbv) | (rw[ai A];refine ar g rfl rfl ?_;cbv) | (refine ar g rfl rfl ?_;cbv) | (refine⟨⟨_,rfl,rfl⟩,?_⟩;cbv))
 refine HQ wq hc q7 (fun h5 l5=>?_);generalize dt Vs cols=E at *;obtain⟨e1,e2⟩:=E;replace hP:D=if e2≠0\/e1≠yg then 3 else 0:=hP
 have g5:=l5 _ _ g;have hk:=fun z (hz:z=D)=>(by rw[hz];exact hk h5 l5:k (.int .i64 z) h5);have f5:A .aF .neq e2 0=decide (e2≠0):=ay A ..;have f6:A .aF .neq e1 yg=decide (e1≠yg):=ay A ..;cbv;rw[f5];by_cases h5':e2≠0
 ·rw[if_pos (.inl h5')]at hP;have af:=hk 3 hP.symm;clear hk;rw[decide_eq_true h5'];cbv;exact af
 ·rw[decide_eq_false h5'];cbv;repeat (first| (rw[ai A,ai A];refine ar g5 rfl rfl ?_;cbv) | (rw[ai A];refine ar g5 rfl rfl ?_;cbv) | (refine ar g5 rfl rfl ?_;cbv) | (refine⟨⟨_,rfl,rfl⟩,?_⟩;cbv))
  rw[f6];by_cases h6:e1≠yg
  ·rw[if_pos (.inr h6)]at hP;have af:=hk 3 hP.symm;clear hk;rw[decide_eq_true h6];cbv;exact af
  ·rw[if_neg (by rintro(g|g)<;>contradiction)]at hP;have af:=hk 0 hP.symm;clear hk;rw[decide_eq_false h6];cbv;exact af
end Go.S
