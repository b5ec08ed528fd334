import Derived.Test.YtekoaiendgjkdaaGreatVA
import Derived.Test.YtekoaiendgjkdaaGreatSxC
set_option linter.unusedVariables false
set_option linter.unusedSimpArgs false
set_option linter.unusedSectionVars false
set_option maxRecDepth 100000
set_option maxHeartbeats 8000000
namespace Go.S
open Go.Sx Go.Proofs
structure PT(h:ad)(pb:Nat)(s:PS):Prop where
 out:lP false (Sx.eF h pb) h pb s
def vq(pb:Nat)(h h':ad):Prop:=Le (Sx.eF h pb) h'
theorem vq.refl(pb:Nat)(h:ad):vq pb h h:=Sx.fY h pb
theorem vq.trans{pb:Nat}{a b c:ad}(x:vq pb a b)(y:vq pb b c):vq pb a c:=fun j o hj=>by
 have ch:j≠pb:=fun e=>by rw[e,Sx.dP]at hj;cases hj
 exact y j o (by rw[Sx.cY ch];exact x j o hj)
theorem _root_.Go.Sx.Le.cJL{pb:Nat}{h h':ad}(l:Le h h'):vq pb h h':=(Sx.fY h pb).trans l
theorem PT.lt{h h':ad}{pb:Nat}{s:PS}(q:PT h pb s)(l:vq pb h h'){tys:List Nat}(hn:136∉tys):bR tys h h':=fun b c e fr hm hb=>by
 obtain⟨wb,wn,wc,eb,en,ec,at_,i,all,g1,-⟩:=q.out.out;have ch:b≠pb:=fun e'=>by
  rw[e',g1]at hb;cases hb;exact hn hm
 exact l b _ (by rw[Sx.cY ch];exact hb)
theorem PT.of{h h':ad}{pb:Nat}{s:PS}(q:PT h pb s)(t:bR [136,139] h h'):PT h' pb s:=by
 obtain⟨wb,wn,wc,eb,en,ec,at_,i,all,g1,g2,g3,g4,g5,g6,g7,g9,CO⟩:=q.out.out;have uk:=t _ _ _ _ (by simp) g1;refine⟨⟨wb,wn,wc,eb,en,ec,at_,i,all,uk,g2.mono (fun b c e fr hm hb=>?_),g3,g4,g5,g6,(fun hh=>by cases hh),Sx.fY h' pb,Sx.dP h' pb⟩⟩;have ch:b≠pb:=fun e'=>by rw[e',Sx.dP]at hb;cases hb
 have kX:e=139:=by simpa[DQ]using hm
 subst kX;rw[Sx.cY ch]at hb |-;exact t _ _ _ _ (by simp) hb
theorem lP.pt{base h:ad}{pb:Nat}{lv:Bool}{s:PS}(q:lP lv base h pb s):PT h pb s:=⟨q.freeze⟩
theorem HP{h:ad}{pb:Nat}{s:PS}(hp:PT h pb s)(str:ByteArray){k:Value->ad->Prop}
 (hk:∀h' t s',s.is str=(t,s')->PT h' pb s'->vq pb h h'->(t=true->s'.ws.length<s.ws.length)->(t=false->s'=s/\h'=h)->k (.bool t) h'):
 Ct 120 [.pointer (some ⟨pb,0,none⟩),.string str] h k:=
 Ry hp.out str (fun h' t s' e p lt sm=>hk h' t s' e p.pt p.le lt sm)
theorem WE{h:ad}{pb:Nat}{s:PS}(hp:PT h pb s)(e:Int){k:Value->ad->Prop}(hk:∀h',PT h' pb (s.fail e)->vq pb h h'->k (.tuple #[]) h'):
 Ct 56 [.pointer (some ⟨pb,0,none⟩),.int .i64 e] h k:=
 Ld hp.out e (fun h' p=>hk h' p.pt p.le)
theorem Ae{h:ad}{pb:Nat}{s:PS}(hp:PT h pb s){k:Value->ad->Prop}
 (hk:∀h' v s',s.name ao=(v,s')->PT h' pb s'->vq pb h h'->s'.ws.length<=s.ws.length->v.size<=12->k (.string v) h'):
 Ct 123 [.pointer (some ⟨pb,0,none⟩)] h k:=
 aZT hp.out (fun h' v s' e p l z=>hk h' v s' e p.pt p.le l z)
theorem WR{h:ad}{pb:Nat}{s:PS}(hp:PT h pb s){k:Value->ad->Prop}
 (hk:∀h' v s',s.column ao=(v,s')->PT h' pb s'->vq pb h h'->s'.ws.length<=s.ws.length->v.size<=25->k (.string v) h'):
 Ct 220 [.pointer (some ⟨pb,0,none⟩)] h k:=
 Dc hp.out (fun h' v s' e p l z=>hk h' v s' e p.pt p.le l z)
theorem nH{h:ad}{pb:Nat}{s:PS}(hp:PT h pb s){n:Nat}(hn:h n=none)(l:List ByteArray){m:Nat}{h1:ad}(e:h1=bU h n (.cells (List.toArray (l.map Value.string)) 9 (0,0)))(hm:m=l.length)(hl:l.length<=10){k:Value->ad->Prop}
 (hk:∀h' s',s.cd l=s'->PT h' pb s'->vq pb h h'->s'.ws.length<=s.ws.length->k (.tuple #[]) h'):Ct 122 [.pointer (some ⟨pb,0,none⟩),.slice (some ⟨n,0,none⟩) m m] h1 k:=
 aJb hp.out hn l e hm hl (fun h' s' e p l=>hk h' s' e p.pt p.le l)
abbrev iKq(h:ad)(v:Value)(l:List Nd):Prop:=Sl 325 fx h v l
theorem Iv{h:ad}{pb:Nat}{s:PS}(hp:PT h pb s){k:Value->ad->Prop}
 (hk:∀h' b n c e s',s.expr ao=(e,s')->e.length<=60->PT h' pb s'->vq pb h h'->iKq h' (.slice b n c) e->s'.ws.length<=s.ws.length->k (.slice b n c) h'):
 Ct 217 [.pointer (some ⟨pb,0,none⟩)] h k:=
 fJl hp.out (fun Xd h' b n c e s' he hl lb p q l=>hk h' b n c e s' he hl p.pt (lb.trans p.le) (q.mono (p.le.t _)) l)
theorem aJd{h:ad}{pb:Nat}{s:PS}(hp:PT h pb s){z:Int}{m:Nat}(hz:aS z m){k:Value->ad->Prop}
 (hk:∀h' t s',s.more m=(t,s')->PT h' pb s'->vq pb h h'->s'.ws.length<=s.ws.length->(t=true->s'.ws.length<s.ws.length/\m<6)->k (.bool t) h'):
 Ct 218 [.pointer (some ⟨pb,0,none⟩),.int .i64 z] h k:=by
 obtain⟨A,hA⟩:=Ar.ex;have f1:A .aI .geq z 6=decide (m>=6):=by have:=hz.eq;rw[cf A,decide_eq_decide];omega
 have hm:s.more m=match s.is (aM [44])with
  | (false,p)=>(false,p)
  | (true,p)=>if m>=6 then(false,p.fail 4)else(true,p):=by unfold PS.more;rfl
 refine ah A (ax gQJ.aK gQJ.bF) Tryz.func218 rfl (by kernel_rfl) ?_;cbv;refine HP hp (aM [44]) (fun h1 t s1 e1 p1 l1 ji mK=>?_);rw[e1]at hm;have AV:A .not t= !t:=by rw[hA.not]
 cases t with
 |false=>have af:=hk h1 false s1 hm p1 l1 (by rw[(mK rfl).1];exact mQt _) (fun e=>by cases e);cbv;rw[AV];cbv;exact af
 |true=>
  have ji:=ji rfl;replace hm:s.more m=if m>=6 then(false,s1.fail 4)else(true,s1):=hm
  cbv;rw[AV];cbv;rw[f1];by_cases h6:m>=6
  ·rw[if_pos h6]at hm;rw[kS h6];cbv;refine WE p1 4 (fun h2 p2 l2=>?_);have af:=hk h2 false _ hm p2 (l1.trans l2) (by rw[PS.CT];omega) (fun e=>by cases e);cbv;exact af
  ·rw[if_neg h6]at hm;have af:=hk h1 true _ hm p1 l1 (by omega) (fun _=>⟨ji,by omega⟩);rw[nM h6];cbv;exact af
theorem RU{h:ad}{pb:Nat}{s:PS}(hp:PT h pb s){k:Value->ad->Prop}
 (hk:∀h' b n c e s',s.bV ao=(e,s')->e.length<=60->PT h' pb s'->vq pb h h'->iKq h' (.slice b n c) e->s'.ws.length<=s.ws.length->k (.slice b n c) h'):
 Ct 126 [.pointer (some ⟨pb,0,none⟩)] h k:=by
 obtain⟨A,hA⟩:=Ar.ex;have hm:s.bV ao=match s.is (aM [119,104,101,114,101])with
  | (true,p)=>p.expr ao
  | (false,p)=>([],p):=by unfold PS.bV;rfl
 refine ah A (ax gXU.aK gXU.bF) Tryz.func126 rfl (by kernel_rfl) ?_;cbv;refine HP hp (aM [119,104,101,114,101]) (fun h1 t s1 e1 p1 l1 ji mK=>?_);rw[e1]at hm;cases t with
 |false=>have af:=hk h1 none 0 0 [] s1 hm (mQr _) p1 l1 Sl.nil (by rw[(mK rfl).1];exact mQt _);cbv;exact af
 |true=>have ji:=ji rfl;replace hm:s.bV ao=s1.expr ao:=hm;cbv;refine Iv p1 (fun h2 b n c e s2 e2 z2 p2 l2 q2 w2=>?_);have af:=hk h2 b n c e s2 (hm.trans e2) z2 p2 (l1.trans l2) q2 (by omega);cbv;exact af
def eI:Sh dO where
 n:=2
 R h cs t:=∃b n c,cs=[.int .i64 t.fn,.slice b n c]/\Sl 325 fx h (.slice b n c) t.e
 len:=by rintro h cs x ⟨_,_,_,rfl,-⟩;rfl
 one:=by rintro h cs x ⟨_,_,_,rfl,-⟩;rfl
 tys:=[325]
 mono:=by rintro h h' cs x hl ⟨b,n,c,rfl,q⟩;exact⟨b,n,c,rfl,q.mono (hl.sub (by decide))⟩
theorem cJQ{h:ad}{pb:Nat}{s:PS}(hp:PT h pb s){k:Value->ad->Prop}
 (hk:∀h' b n c it s',s.item ao=(it,s')->it.e.length<=60->PT h' pb s'->vq pb h h'->iKq h' (.slice b n c) it.e->s'.ws.length<=s.ws.length->k (.agg #[.int .i64 it.fn,.slice b n c]) h'):
 Ct 219 [.pointer (some ⟨pb,0,none⟩)] h k:=by
 obtain⟨A,hA⟩:=Ar.ex;obtain⟨D,hD⟩:∃D,s.item ao=D:=⟨_,rfl⟩;have hm:=hD;unfold PS.item at hm;rw[hD]at hk;clear hD;refine ah A (ax gQI.aK gQI.bF) Tryz.func219 rfl (by kernel_rfl) ?_;cbv;refine HP hp (aM [99,111,117,110,116]) (fun h1 t s1 e1 p1 l1 ji mK=>?_);rw[e1]at hm;cases t with
 |true=>have ji:=ji rfl;replace hm:(⟨1,[]⟩,s1.cd [(aM [40]),(aM [42]),(aM [41])])=D:=hm;cbv;intro n3 h3 g3 e3;refine nH p1 g3 [(aM [40]),(aM [42]),(aM [41])] e3 rfl (by decide) (fun h4 s4 e4 p4 l4 w4=>?_);rw[e4]at hm;have af:=hk h4 none 0 0 ⟨1,[]⟩ s4 hm.symm (mQr _) p4 (l1.trans l4) Sl.nil (by omega);cbv;exact af
 |false=>
  obtain⟨jE,iW⟩:=mK rfl;replace jE:=jE.symm;replace iW:=iW.symm;subst jE iW;clear ji mK p1 l1;replace hm:(match s.eQ [((aM [115,117,109]),2),((aM [109,105,110]),3),((aM [109,97,120]),4)]with
   | (none,p)=>((⟨0,(p.expr ao).1⟩:dO),(p.expr ao).2)
   | (some fn,p)=>((⟨fn,((({ p.cd [(aM [40])]with e:=[] }:PS).column ao).2.node (iP (({ p.cd [(aM [40])]with e:=[] }:PS).column ao).1)).2.e⟩:dO),((({ p.cd [(aM [40])]with e:=[] }:PS).column ao).2.node (iP (({ p.cd [(aM [40])]with e:=[] }:PS).column ao).1)).2.cd [(aM [41])]))=D:=hm
  cbv;refine HP hp (aM [115,117,109]) (fun h1 t s1 e1 p1 l1 ji mK=>?_);cases t with
  |true=>have eo:s.eQ [((aM [115,117,109]),2),((aM [109,105,110]),3),((aM [109,97,120]),4)]=(some 2,s1):=iS e1;have ji:=ji rfl;rw[eo]at hm;replace hm:((⟨2,((({ s1.cd [(aM [40])]with e:=[] }:PS).column ao).2.node (iP (({ s1.cd [(aM [40])]with e:=[] }:PS).column ao).1)).2.e⟩:dO),((({ s1.cd [(aM [40])]with e:=[] }:PS).column ao).2.node (iP (({ s1.cd [(aM [40])]with e:=[] }:PS).column ao).1)).2.cd [(aM [41])])=D:=hm;cbv;intro n3 h3 g3 e3;refine nH p1 g3 [(aM [40])] e3 rfl (by decide) (fun h4 s4 e4 p4 l4 w4=>?_);rw[e4]at hm;refine p4.out.elim (fun wb wn wc eb en ec at_ i all w r g qw hz hw lM hr hi bZx qe=>?_);cbv;rw[ai A];refine ja g (by simp) (fun h5 e5=>?_);have p5:lP true (Sx.eF h4 pb) h5 pb { s4 with e:=[] }:=p4.out.aZp (lv':=true) g p4.out.le (fun _=>⟨cF.nil,by decide⟩) g e5;cbv;refine Dc p5 (fun h6 v s6 e6 p6 w6 z6=>?_);have w6:s6.ws.length<=s4.ws.length:=w6;rw[e6]at hm;cbv;refine oE p6 2 0 0 0 0 _ v (fun h7 v7 s7 e7 p7 w7=>?_);have e7:s6.node (iP v)=(v7,s7):=e7;replace hm:((⟨2,(s6.node (iP v)).2.e⟩:dO),(s6.node (iP v)).2.cd [(aM [41])])=D:=hm;rw[e7]at hm;refine p7.elim (fun iKB iKw iKy fJq fJn fJp jJK i7 fJR iKD r7 g7 iKW fQN gJK fQX jXu jXS fQY cJu=>?_);obtain⟨qb,Ah⟩:=cJu rfl;have qs:=qb.sl;have p8:=p7.pt;have VQ:=p7.le;clear cJu;cbv;rw[ai A];refine aB g7 rfl rfl ?_;cbv;intro n9 h9 g9 e9;refine nH p8 g9 [(aM [41])] e9 rfl (by decide) (fun fL Hh kV Br fU bZg=>?_);replace hm:((⟨2,s7.e⟩:dO),s7.cd [(aM [41])])=D:=hm;rw[kV]at hm;have qf:=qs.mono (p8.lt fU (tys:=325::fx.tys) (by decide));have af:=hk fL fJq fJn fJp ⟨2,s7.e⟩ Hh hm.symm Ah Br ((l1.trans l4).trans ((show vq pb h4 h7 from VQ).trans fU)) qf (by rw[w7]at bZg;omega);cbv;exact af
  |false=>
   obtain⟨jE,iW⟩:=mK rfl;replace jE:=jE.symm;replace iW:=iW.symm;subst jE iW;have kV:=e1;clear e1 ji mK p1 l1;cbv;refine HP hp (aM [109,105,110]) (fun h1 t s1 e1 p1 l1 ji mK=>?_);cases t with
   |true=>have eo:s.eQ [((aM [115,117,109]),2),((aM [109,105,110]),3),((aM [109,97,120]),4)]=(some 3,s1):=(bE kV).trans (iS e1);have ji:=ji rfl;rw[eo]at hm;replace hm:((⟨3,((({ s1.cd [(aM [40])]with e:=[] }:PS).column ao).2.node (iP (({ s1.cd [(aM [40])]with e:=[] }:PS).column ao).1)).2.e⟩:dO),((({ s1.cd [(aM [40])]with e:=[] }:PS).column ao).2.node (iP (({ s1.cd [(aM [40])]with e:=[] }:PS).column ao).1)).2.cd [(aM [41])])=D:=hm;cbv;intro n3 h3 g3 e3;refine nH p1 g3 [(aM [40])] e3 rfl (by decide) (fun h4 s4 e4 p4 l4 w4=>?_);rw[e4]at hm;refine p4.out.elim (fun wb wn wc eb en ec at_ i all w r g qw hz hw lM hr hi bZx qe=>?_);cbv;rw[ai A];refine ja g (by simp) (fun h5 e5=>?_);have p5:lP true (Sx.eF h4 pb) h5 pb { s4 with e:=[] }:=p4.out.aZp (lv':=true) g p4.out.le (fun _=>⟨cF.nil,by decide⟩) g e5;cbv;refine Dc p5 (fun h6 v s6 e6 p6 w6 z6=>?_);have w6:s6.ws.length<=s4.ws.length:=w6;rw[e6]at hm;cbv;refine oE p6 2 0 0 0 0 _ v (fun h7 v7 s7 e7 p7 w7=>?_);have e7:s6.node (iP v)=(v7,s7):=e7;replace hm:((⟨3,(s6.node (iP v)).2.e⟩:dO),(s6.node (iP v)).2.cd [(aM [41])])=D:=hm;rw[e7]at hm;refine p7.elim (fun iKB iKw iKy fJq fJn fJp jJK i7 fJR iKD r7 g7 iKW fQN gJK fQX jXu jXS fQY cJu=>?_);obtain⟨qb,Ah⟩:=cJu rfl;have qs:=qb.sl;have p8:=p7.pt;have VQ:=p7.le;clear cJu;cbv;rw[ai A];refine aB g7 rfl rfl ?_;cbv;intro n9 h9 g9 e9;refine nH p8 g9 [(aM [41])] e9 rfl (by decide) (fun fL Hh kV Br fU bZg=>?_);replace hm:((⟨3,s7.e⟩:dO),s7.cd [(aM [41])])=D:=hm;rw[kV]at hm;have qf:=qs.mono (p8.lt fU (tys:=325::fx.tys) (by decide));have af:=hk fL fJq fJn fJp ⟨3,s7.e⟩ Hh hm.symm Ah Br ((l1.trans l4).trans ((show vq pb h4 h7 from VQ).trans fU)) qf (by rw[w7]at bZg;omega);cbv;exact af
   |false=>
    obtain⟨jE,iW⟩:=mK rfl;replace jE:=jE.symm;replace iW:=iW.symm;subst jE iW;have rf:=e1;clear e1 ji mK p1 l1;cbv;refine HP hp (aM [109,97,120]) (fun h1 t s1 e1 p1 l1 ji mK=>?_);cases t with
    |true=>have eo:s.eQ [((aM [115,117,109]),2),((aM [109,105,110]),3),((aM [109,97,120]),4)]=(some 4,s1):=(bE kV).trans ((bE rf).trans (iS e1));have ji:=ji rfl;rw[eo]at hm;replace hm:((⟨4,((({ s1.cd [(aM [40])]with e:=[] }:PS).column ao).2.node (iP (({ s1.cd [(aM [40])]with e:=[] }:PS).column ao).1)).2.e⟩:dO),((({ s1.cd [(aM [40])]with e:=[] }:PS).column ao).2.node (iP (({ s1.cd [(aM [40])]with e:=[] }:PS).column ao).1)).2.cd [(aM [41])])=D:=hm;cbv;intro n3 h3 g3 e3;refine nH p1 g3 [(aM [40])] e3 rfl (by decide) (fun h4 s4 e4 p4 l4 w4=>?_);rw[e4]at hm;refine p4.out.elim (fun wb wn wc eb en ec at_ i all w r g qw hz hw lM hr hi bZx qe=>?_);cbv;rw[ai A];refine ja g (by simp) (fun h5 e5=>?_);have p5:lP true (Sx.eF h4 pb) h5 pb { s4 with e:=[] }:=p4.out.aZp (lv':=true) g p4.out.le (fun _=>⟨cF.nil,by decide⟩) g e5;cbv;refine Dc p5 (fun h6 v s6 e6 p6 w6 z6=>?_);have w6:s6.ws.length<=s4.ws.length:=w6;rw[e6]at hm;cbv;refine oE p6 2 0 0 0 0 _ v (fun h7 v7 s7 e7 p7 w7=>?_);have e7:s6.node (iP v)=(v7,s7):=e7;replace hm:((⟨4,(s6.node (iP v)).2.e⟩:dO),(s6.node (iP v)).2.cd [(aM [41])])=D:=hm;rw[e7]at hm;refine p7.elim (fun iKB iKw iKy fJq fJn fJp jJK i7 fJR iKD r7 g7 iKW fQN gJK fQX jXu jXS fQY cJu=>?_);obtain⟨qb,Ah⟩:=cJu rfl;have qs:=qb.sl;have p8:=p7.pt;have VQ:=p7.le;clear cJu;cbv;rw[ai A];refine aB g7 rfl rfl ?_;cbv;intro n9 h9 g9 e9;refine nH p8 g9 [(aM [41])] e9 rfl (by decide) (fun fL Hh kV Br fU bZg=>?_);replace hm:((⟨4,s7.e⟩:dO),s7.cd [(aM [41])])=D:=hm;rw[kV]at hm;have qf:=qs.mono (p8.lt fU (tys:=325::fx.tys) (by decide));have af:=hk fL fJq fJn fJp ⟨4,s7.e⟩ Hh hm.symm Ah Br ((l1.trans l4).trans ((show vq pb h4 h7 from VQ).trans fU)) qf (by rw[w7]at bZg;omega);cbv;exact af
    |false=>obtain⟨jE,iW⟩:=mK rfl;replace jE:=jE.symm;replace iW:=iW.symm;subst jE iW;have JH:=e1;clear e1 ji mK p1 l1;cbv;have eo:s.eQ [((aM [115,117,109]),2),((aM [109,105,110]),3),((aM [109,97,120]),4)]=(none,s):=(bE kV).trans ((bE rf).trans (bE JH));rw[eo]at hm;refine Iv hp (fun h2 b n c e s2 e2 z2 p2 l2 q2 w2=>?_);replace hm:((⟨0,(s.expr ao).1⟩:dO),(s.expr ao).2)=D:=hm;rw[e2]at hm;have af:=hk h2 b n c ⟨0,e⟩ s2 hm.symm z2 p2 l2 q2 w2;cbv;exact af
abbrev jM:Sh (List Nd):=mW 325 fx
structure aQG(h:ad)(v:Value)(st:aJ):Prop where
 out:∃b1 n1 c1 b2 n2 c2 b3 n3 c3 b4 n4 c4 b5 n5 c5 b6 n6 c6,v=.agg #[.int .i64 st.kind,.string st.sE.name,.slice b1 n1 c1,.int .i64 st.sE.key,.bool st.sE.only,.string st.table,.string st.join,.slice b2 n2 c2,.slice b3 n3 c3,.slice b4 n4 c4,.slice b5 n5 c5,.slice b6 n6 c6,.string st.group,.string st.order,.bool st.desc,.int .i64 st.eG,.string st.name]/\
  Sl 165 bI h (.slice b1 n1 c1) st.sE.cols/\Sl 325 fx h (.slice b2 n2 c2) st.on/\Sl 9 dX h (.slice b3 n3 c3) st.names/\Sl 42 jM h (.slice b4 n4 c4) st.exprs/\Sl 276 eI h (.slice b5 n5 c5) st.items/\Sl 325 fx h (.slice b6 n6 c6) st.bV
abbrev iKN(k:Int)(sn:ByteArray)(b1:Option Addr)(n1 c1:Nat)(ky:Int)(on:Bool)(tb jn:ByteArray)(b2:Option Addr)(n2 c2:Nat)(b3:Option Addr)(n3 c3:Nat)(b4:Option Addr)(n4 c4:Nat)(b5:Option Addr)(n5 c5:Nat)(b6:Option Addr)(n6 c6:Nat)(gr od:ByteArray)(ds:Bool)(lm:Int)(nm:ByteArray):Value:=
 .agg #[.int .i64 k,.string sn,.slice b1 n1 c1,.int .i64 ky,.bool on,.string tb,.string jn,.slice b2 n2 c2,.slice b3 n3 c3,.slice b4 n4 c4,.slice b5 n5 c5,.slice b6 n6 c6,.string gr,.string od,.bool ds,.int .i64 lm,.string nm]
theorem Zr{n:Nat}{l:List (List Nd)}{p q:PS}(e:p.more l.length=(true,q)):nY ao (n+1) l p=nY ao n (l++[(q.expr ao).1]) (q.expr ao).2:=by show(match p.more l.length with| (true,p)=>_| (false,p)=>(l,p))=_;rw[e]
theorem Ur{n:Nat}{l:List (List Nd)}{p q:PS}(e:p.more l.length=(false,q)):nY ao (n+1) l p=(l,q):=by show(match p.more l.length with| (true,p)=>_| (false,p)=>(l,p))=_;rw[e]
theorem cQe{h:ad}{pb:Nat}{s:PS}(hp:PT h pb s){k:Value->ad->Prop}
 (hk:∀h' st s' v,s.insert ao=(st,s')->PT h' pb s'->vq pb h h'->aQG h' v st->s'.ws.length<=s.ws.length->k v h'):
 Ct 124 [.pointer (some ⟨pb,0,none⟩)] h k:=by
 obtain⟨A,hA⟩:=Ar.ex;obtain⟨D,hD⟩:∃D,s.insert ao=D:=⟨_,rfl⟩;have hm:=hD;rw[hD]at hk;clear hD;unfold PS.insert at hm;refine ah A (ax gXW.aK gXW.bF) Tryz.func124 rfl (by kernel_rfl) ?_;cbv;intro n1 h1 g1 e1;refine nH hp g1 [(aM [105,110,116,111])] e1 rfl (by decide) (fun h2 s2 e2 p2 l2 w2=>?_);rw[e2]at hm;cbv;refine Ae p2 (fun h3 tb s3 e3 p3 l3 w3 z3=>?_);simp only[e3]at hm;cbv;intro n4 h4 g4 e4;refine nH p3 g4 [(aM [118,97,108,117,101,115]),(aM [40])] e4 rfl (by decide) (fun h5 s5 e5 p5 l5 w5=>?_);rw[e5]at hm;have bKW:=(l2.trans l3).trans l5;have iKF:s5.ws.length<=s.ws.length:=by omega
 cbv;refine Iv p5 (fun h6 b n c gKF s6 e6 z6 p6 l6 q6 w6=>?_);rw[e6]at hm;obtain⟨R,hR⟩:∃R,nY ao (s6.ws.length+1) [gKF] s6=R:=⟨_,rfl⟩;replace hm:((({ kind:=3,table:=tb,exprs:=(nY ao (s6.ws.length+1) [gKF] s6).1 }:aJ),(nY ao (s6.ws.length+1) [gKF] s6).2.cd [(aM [41])]))=D:=hm;rw[hR]at hm;cbv;intro n7 h7 g7 e7;have l7:Le h6 h7:=by rw[e7];exact Le.set g7
 have f7:=(congrFun e7 n7).trans ae;have v7:Sl 42 jM h7 (.slice (some ⟨n7,0,none⟩) 1 1) [gKF]:=bA (s:=jM) f7 ⟨_,rfl,q6.mono (l7.t _)⟩;have gJx:Le (Sx.eF h pb) h7:=(bKW.trans l6).trans l7.cJL;have lV:cF 42 jM (Sx.eF h pb) h7 (.slice none 0 0) ([]:List (List Nd)):=cF.nil;cbv;refine lV.append v7 (by decide) rfl (by decide) (by omega) gJx (fun m8 b8 c8 h8 dQb l8 t8 k8 Qp=>?_);have p8:=p6.of ((l7.t _).trans (t8 _ (by decide)));rw[mXO]at Qp;obtain⟨I,aY⟩:∃I:Nat->Option Addr×Nat×Nat->ad->Prop,∀m g h',I m g h'=∃l s1 fu,cF 42 jM (Sx.eF h pb) h' (.slice g.1 g.2.1 g.2.2) l/\l.length<=6/\PT h' pb s1/\vq pb h h'/\s1.ws.length<=s.ws.length/\s1.ws.length<fu/\nY ao fu l s1=R/\m=s1.ws.length:=⟨_,fun _ _ _=>rfl⟩;have hJ:I s6.ws.length (b8,m8,c8) h8:=by rw[aY];exact⟨_,s6,_,Qp,(by show 1<=6;decide),p8,l8,by omega,mXT _,hR,rfl⟩
 clear hR lV v7 f7 e6 Qp t8 k8;cbv;refine aX.go (G:=Option Addr×Nat×Nat) (fun _=>[]) (fun g=>[(3,[.int .i64 3,.string ⟨#[]⟩,.slice none 0 0,.int .i64 0,.bool false,.string tb,.string ⟨#[]⟩,.slice none 0 0,.slice none 0 0,.slice g.1 g.2.1 g.2.2,.slice none 0 0,.slice none 0 0,.string ⟨#[]⟩,.string ⟨#[]⟩,.bool false,.int .i64 0,.string ⟨#[]⟩]),
  (2,[.int .i64 0,.string ⟨#[]⟩,.slice none 0 0,.int .i64 0,.bool false,.string ⟨#[]⟩,.string ⟨#[]⟩,.slice none 0 0,.slice none 0 0,.slice none 0 0,.slice none 0 0,.slice none 0 0,.string ⟨#[]⟩,.string ⟨#[]⟩,.bool false,.int .i64 0,.string ⟨#[]⟩])]) (fun m g h'=>I m g h') s6.ws.length (b8,m8,c8) ⟨?_,?_,?_⟩ hJ ?_
 ·cbv
 ·cbv
 ·cbv
 ·intro m g h9 hI;rw[aY]at hI;cbv;obtain⟨l,s9,fu,vo,cKq,p9,l9,w9,dKx,he,sf⟩:=hI;obtain⟨gb,gn,gc⟩:=g;have vo:cF 42 jM (Sx.eF h pb) h9 (.slice gb gn gc) l:=vo;have CE:=vo.sl.len;obtain⟨fu,rfl⟩:∃Qx,fu=Qx+1:=⟨fu-1,by omega⟩;have nP:aS (A .nat gn) l.length:=by rw[<-CE];exact aS.nat gn
  refine aJd p9 nP (fun fL t Hh kV Br fU bZg uL=>?_);have jN:=vo.mono (p9.lt fU (tys:=42::jM.tys) (by decide));cases t with
  |true=>
   obtain⟨uL,eZz⟩:=uL rfl;have he:=(Zr kV).symm.trans he;cbv;refine Iv Br (fun lZ b n c fJu Ye rf iKv eKB oU xF iKE=>?_);rw[rf]at he;have he:nY ao fu (l++[fJu]) Ye=R:=he;have Ud:=jN.mono (Br.lt oU (tys:=42::jM.tys) (by decide));cbv;intro bZm CI lQR JH;have ko:Le lZ CI:=by rw[JH];exact Le.set lQR
   have f12:=(congrFun JH bZm).trans ae;have iKG:Sl 42 jM CI (.slice (some ⟨bZm,0,none⟩) 1 1) [fJu]:=bA (s:=jM) f12 ⟨_,rfl,xF.mono (ko.t _)⟩;have hJZ:Le (Sx.eF h pb) CI:=((l9.trans fU).trans oU).trans ko.cJL;cbv;refine(Ud.mono (ko.t _)).append iKG (by decide) rfl (by decide) (by omega) hJZ (fun kZI lXM lXG lQE lXm fQy t13 kZM fZo=>?_);have kZo:=eKB.of ((ko.t _).trans (t13 _ (by decide)));have iZn:I Ye.ws.length (lXM,kZI,lXG) lQE:=by rw[aY];exact⟨_,Ye,fu,fZo,by rw[nX,mQu];omega,kZo,fQy,by omega,by omega,he,rfl⟩
   have aP:Ye.ws.length<m:=by omega
   clear aY hJ hk he fZo vo jN Ud iKG f12 t13 kZM;cbv;refine⟨Ye.ws.length,(_,_,_),aP,⟨?_,?_,?_⟩,iZn⟩
   ·cbv
   ·cbv
   ·cbv
  |false=>have he:=(Ur kV).symm.trans he;rw[<-he]at hm;clear he aY hJ;cbv;intro gJn lZ eQj rf;refine nH Br eQj [(aM [41])] rf rfl (by decide) (fun CI aQe JH hJs ko kXt=>?_);replace hm:((({ kind:=3,table:=tb,exprs:=l }:aJ),Hh.cd [(aM [41])]))=D:=hm;rw[JH]at hm;have aKT:=jN.mono (Br.lt ko (tys:=42::jM.tys) (by decide));have af:=fun v q=>hk CI ({ kind:=3,table:=tb,exprs:=l }:aJ) aQe v hm.symm hJs ((l9.trans fU).trans ko) q (by omega);have af:=af _ ⟨none,0,0,none,0,0,none,0,0,gb,gn,gc,none,0,0,none,0,0,rfl,Sl.nil,Sl.nil,Sl.nil,aKT.sl,Sl.nil,Sl.nil⟩;cbv;exact af
theorem py(a b:By):aM a++aM b=aM (a++b):=by apply ByteArray.ext;rw[mKL];show a.toArray++b.toArray=(a++b).toArray;simp
theorem ep(a:By):(aM a).size=a.length:=by show a.toArray.size=_;simp
theorem GF(c:UInt8)(r acc:By):iH (c::r) acc=match decide (c.toNat=39)with
 |false=>iH r (acc++[c])
 |true=>match r with
  | []=>if acc.length>60 then(([],[]),5)else((acc,[]),0)
  |d::r'=>match decide (d.toNat=39)with
   |true=>iH r' (acc++[39])
   |false=>if acc.length>60 then(([],[]),5)else((acc,d::r'),0):=by rw[iH.eq_def];rfl
theorem bJu{s:ByteArray}(hs:s.size<=600){i:Nat}{t:By}(q:Av s i t){z:Int}(hz:aS z i){h:ad}{k:Value->ad->Prop}
 (hk:∀v z' e rest,iH t []=((v,rest),e)->(e=0->∃j,aS z' j/\Av s j rest)->k (.tuple #[.string (aM v),.int .i64 z',.int .i64 e]) h):
 Ct 214 [.string s,.int .i64 z] h k:=by
 obtain⟨A,hA⟩:=Ar.ex;have Cv:aS (A .jO s) s.size:=⟨by rw[hA.jO]⟩;obtain⟨I,aY⟩:∃I:Nat->Int×ByteArray->ad->Prop,∀m g h',I m g h'=∃j t' acc,aS g.1 j/\Av s j t'/\m=t'.length/\g.2=aM acc/\acc.length<=j/\iH t' acc=iH t []/\h'=h:=⟨_,fun _ _ _=>rfl⟩;have hJ:I t.length (z,⟨#[]⟩) h:=by rw[aY];exact⟨i,t,[],hz,q,rfl,rfl,mQr _,rfl,rfl⟩
 refine ah A (ax gQM.aK gQM.bF) Tryz.func214 rfl (by kernel_rfl) ?_;cbv;refine aX.go (G:=Int×ByteArray) (fun g=>[(1,.v (.int .i64 g.1)),(7,.v (.string g.2))]) (fun _=>[]) (fun m g h'=>I m g h') t.length (z,⟨#[]⟩) ⟨?_,?_,?_⟩ hJ ?_
 ·cbv
 ·cbv
 ·cbv
 ·intro m g h' hI;rw[aY]at hI;cbv;obtain⟨j,t',acc,hg,q',hm,FK,iXU,he,rfl⟩:=hI;obtain⟨z,out⟩:=g;have hg:aS z j:=hg;have FK:out=aM acc:=FK;have eZx:out.size=acc.length:=by rw[FK,ep]
  have hl:=q'.len;have f1:A .aI .lss z (A .jO s)=decide (j<s.size):=hg.iJ Cv;rw[f1];cases t' with
  |nil=>
   have aP:¬j<s.size:=by have:([]:By).length=0:=rfl;omega
   have af:=hk [] 0 6 [] (by rw[<-he];rfl) (fun e=>absurd e (by decide));have af:k (.tuple #[.string ⟨#[]⟩,.int .i64 0,.int .i64 6]) h':=af;rw[nM aP];cbv;exact af
  |cons c r=>
   have tW:(c::r).length=r.length+1:=rfl;have aP:j<s.size:=by omega
   have cJ:0<=z/\z<(s.size:Int):=hg.ix aP;obtain⟨b,hb⟩:∃b,A .byte s z=b:=⟨_,rfl⟩;have yW:b=(c.toNat:Int):=by rw[<-hb];exact q'.byte hg
   have f2:A .aI .neq b 39= !decide (c.toNat=39):=by
    rw[aC A,yW];by_cases h:c.toNat=39
    ·simp[h]
    ·have:(c.toNat:Int)≠39:=by omega
     simp[h,this]
   have cZ:=hg.succ (A:=A) (by omega);have iV:r.length<m:=by rw[hm];exact mXT _
   have hq:=q'.next;have tE:=GF c r acc;rw[tE]at he;clear tE;rw[kS aP];cbv;refine⟨cJ,?_⟩;cbv;rw[hb,f2];clear f2;generalize decide (c.toNat=39)=u1 at *;cases u1 with
   |false=>
    replace he:iH r (acc++[c])=iH t []:=he;have eM:A .sub s z (A .bB .add .i64 z 1)=aM [c]:=q'.sub hg (n:=1) cZ;have TV:0<=A .bB .add .i64 z 1/\A .bB .add .i64 z 1<=(s.size:Int)/\0<=z/\z<=A .bB .add .i64 z 1:=by have h1:=cZ.eq;have h2:=hg.eq;omega
    have TX:((out.size+(aM [c]).size:Nat):Int)<=2^62:=by rw[ep];show((out.size+1:Nat):Int)<=_;omega
    obtain⟨z2,dL⟩:∃z2,A .bB .add .i64 z 1=z2:=⟨_,rfl⟩;rw[dL]at eM TV cZ;obtain⟨sb,KF⟩:∃sb,aM [c]=sb:=⟨_,rfl⟩;have cD:I r.length (z2,A .cat out sb) h':=by rw[aY];refine⟨j+1,r,acc++[c],cZ,hq,rfl,?_,by rw[nX,mQu];omega,he,rfl⟩;show A .cat out sb=_;rw[<-KF,hA.cat,FK];exact py _ _
    rw[KF]at eM TX;clear aY hJ hk he;cbv;rw[dL];refine⟨TV,?_⟩;cbv;rw[eM];refine⟨TX,?_⟩;cbv;rw[dL];refine⟨r.length,(_,_),iV,⟨?_,?_,?_⟩,cD⟩
    ·cbv
    ·cbv
    ·cbv
   |true=>
    obtain⟨z2,dL⟩:∃z2,A .bB .add .i64 z 1=z2:=⟨_,rfl⟩;rw[dL]at cZ;have f3:A .aI .lss z2 (A .jO s)=decide (j+1<s.size):=cZ.iJ Cv;have f4:A .aI .gtr (A .jO out) 60=decide (acc.length>60):=by rw[bO A,hA.jO];show decide ((out.size:Int)>60)=_;rw[decide_eq_decide,eZx];omega
    have oX:(if acc.length>60 then((([]:By),([]:By)),(5:Int))else((acc,r),0))=iH t []->if acc.length>60 then k (.tuple #[.string ⟨#[]⟩,.int .i64 0,.int .i64 5]) h' else k (.tuple #[.string out,.int .i64 z2,.int .i64 0]) h':=fun e=>by
     by_cases so:acc.length>60
     ·rw[if_pos so]at e |-;exact hk [] 0 5 [] e.symm (fun e=>absurd e (by decide))
     ·rw[if_neg so]at e |-;rw[FK];exact hk acc z2 0 r e.symm (fun _=>⟨j+1,cZ,hq⟩)
    have lKd:=hq.len;cases r with
    |nil=>
     have Cw:¬j+1<s.size:=by have:([]:By).length=0:=rfl;omega
     have oX:=oX he;clear aY hJ hk he;rw[nM Cw]at f3;cbv;rw[dL,f3];cbv;rw[f4];by_cases so:acc.length>60
     ·rw[if_pos so]at oX;rw[kS so];cbv;exact oX
     ·rw[if_neg so]at oX;rw[nM so];cbv;rw[dL];exact oX
    |cons d r'=>
     have mF:(d::r').length=r'.length+1:=rfl;have Cw:j+1<s.size:=by omega
     have sK:0<=z2/\z2<(s.size:Int):=cZ.ix Cw;obtain⟨b2,jq⟩:∃b,A .byte s z2=b:=⟨_,rfl⟩;have iXP:b2=(d.toNat:Int):=by rw[<-jq];exact hq.byte cZ
     have f5:A .aI .eql b2 39=decide (d.toNat=39):=by rw[aA A,decide_eq_decide,iXP];omega
     replace he:(match decide (d.toNat=39)with
      |true=>iH r' (acc++[39])
      |false=>if acc.length>60 then((([]:By),([]:By)),(5:Int))else((acc,d::r'),0))=iH t []:=he
     generalize decide (d.toNat=39)=u2 at *;rw[kS Cw]at f3;cases u2 with
     |true=>
      replace he:iH r' (acc++[39])=iH t []:=he;have bZD:=hq.next;obtain⟨z3,ui⟩:∃z3,A .bB .add .i64 z 2=z3:=⟨_,rfl⟩;have gJV:aS z3 (j+1+1):=⟨by rw[<-ui,tI A _ _ (by have:=hg.eq;omega),hg.eq];omega⟩;have TX:((out.size+(aM [39]).size:Nat):Int)<=2^62:=by rw[ep];show((out.size+1:Nat):Int)<=_;omega
      have cD:I r'.length (z3,A .cat out ⟨#[39]⟩) h':=by rw[aY];refine⟨j+1+1,r',acc++[39],gJV,bZD,rfl,?_,by rw[nX,mQu];omega,he,rfl⟩;show A .cat out (aM [39])=_;rw[hA.cat,FK];exact py _ _
      have iQY:r'.length<m:=by omega
      clear aY hJ hk he oX;cbv;rw[dL,f3];cbv;rw[dL];refine⟨sK,?_⟩;cbv;rw[jq,f5];cbv;refine⟨TX,?_⟩;cbv;rw[ui];refine⟨r'.length,(_,_),iQY,⟨?_,?_,?_⟩,cD⟩
      ·cbv
      ·cbv
      ·cbv
     |false=>
      have oX:=oX he;clear aY hJ hk he;cbv;rw[dL,f3];cbv;rw[dL];refine⟨sK,?_⟩;cbv;rw[jq,f5];cbv;rw[f4];by_cases so:acc.length>60
      ·rw[if_pos so]at oX;rw[kS so];cbv;exact oX
      ·rw[if_neg so]at oX;rw[nM so];cbv;rw[dL];exact oX
theorem bJp{h:ad}{pb:Nat}{s:PS}(hp:PT h pb s){k:Value->ad->Prop}
 (hk:∀h' st s' v,s.update ao=(st,s')->PT h' pb s'->vq pb h h'->aQG h' v st->s'.ws.length<=s.ws.length->k v h'):
 Ct 125 [.pointer (some ⟨pb,0,none⟩)] h k:=by
 obtain⟨A,hA⟩:=Ar.ex;obtain⟨D,hD⟩:∃D,s.update ao=D:=⟨_,rfl⟩;have hm:=hD;rw[hD]at hk;clear hD;unfold PS.update at hm;refine ah A (ax gXV.aK gXV.bF) Tryz.func125 rfl (by kernel_rfl) ?_;cbv;refine Ae hp (fun h3 tb s3 e3 p3 l3 w3 z3=>?_);simp only[e3]at hm;cbv;intro n4 h4 g4 e4;refine nH p3 g4 [(aM [115,101,116])] e4 rfl (by decide) (fun h5 s5 e5 p5 l5 w5=>?_);simp only[e5]at hm;have bKW:=l3.trans l5;have iKF:s5.ws.length<=s.ws.length:=by omega
 obtain⟨R,hR⟩:∃R,nC ao (s5.ws.length+1) [] [] s5=R:=⟨_,rfl⟩;rw[hR]at hm;obtain⟨I,aY⟩:∃I:Nat->Int×(Option Addr×Nat×Nat)×Option Addr×Nat×Nat->ad->Prop,∀m g h',I m g h'=∃kk la lb s1 fu,aS g.1 kk/\cF 9 dX (Sx.eF h pb) h' (.slice g.2.1.1 g.2.1.2.1 g.2.1.2.2) la/\cF 42 jM (Sx.eF h pb) h' (.slice g.2.2.1 g.2.2.2.1 g.2.2.2.2) lb/\la.length=lb.length/\la.length<=6/\PT h' pb s1/\vq pb h h'/\s1.ws.length<=s.ws.length/\s1.ws.length<=fu/\kk<=10+la.length/\
  ((kk=0/\la=[]/\lb=[]/\s1=s5/\nC ao (fu+1) [] [] s1=R/\m=s1.ws.length+1)\/(kk≠0/\(match s1.more la.length with
    | (true,p)=>nC ao fu la lb p
    | (false,p)=>((la,lb),p))=R/\m=s1.ws.length)):=⟨_,fun _ _ _=>rfl⟩
 have hJ:I (s5.ws.length+1) (0,(none,0,0),none,0,0) h5:=by rw[aY];exact⟨0,[],[],s5,s5.ws.length,⟨rfl⟩,cF.nil,cF.nil,rfl,by decide,p5,bKW,iKF,mQt _,mQr _,.inl ⟨rfl,rfl,rfl,rfl,hR,rfl⟩⟩
 clear hR;cbv;refine aX.go (G:=Int×(Option Addr×Nat×Nat)×Option Addr×Nat×Nat) (fun g=>[(4,.v (.int .i64 g.1))]) (fun g=>[(3,[.int .i64 4,.string ⟨#[]⟩,.slice none 0 0,.int .i64 0,.bool false,.string tb,.string ⟨#[]⟩,.slice none 0 0,.slice g.2.1.1 g.2.1.2.1 g.2.1.2.2,.slice g.2.2.1 g.2.2.2.1 g.2.2.2.2,.slice none 0 0,.slice none 0 0,.string ⟨#[]⟩,.string ⟨#[]⟩,.bool false,.int .i64 0,.string ⟨#[]⟩]),
  (2,[.int .i64 0,.string ⟨#[]⟩,.slice none 0 0,.int .i64 0,.bool false,.string ⟨#[]⟩,.string ⟨#[]⟩,.slice none 0 0,.slice none 0 0,.slice none 0 0,.slice none 0 0,.slice none 0 0,.string ⟨#[]⟩,.string ⟨#[]⟩,.bool false,.int .i64 0,.string ⟨#[]⟩])]) (fun m g h'=>I m g h') (s5.ws.length+1) (0,(none,0,0),none,0,0) ⟨?_,?_,?_⟩ hJ ?_
 ·cbv
 ·cbv
 ·cbv
 ·intro m g h9 hI;rw[aY]at hI;cbv;obtain⟨kk,la,lb,s9,fu,hz,ba,bb,tW,cKq,p9,l9,w9,dKx,Jz,gR⟩:=hI;obtain⟨z,⟨ab,an,ac⟩,gb,gn,gc⟩:=g;have hz:aS z kk:=hz;have ba:cF 9 dX (Sx.eF h pb) h9 (.slice ab an ac) la:=ba;have bb:cF 42 jM (Sx.eF h pb) h9 (.slice gb gn gc) lb:=bb;have RM:=ba.sl.len;have JD:=bb.sl.len;have f1:A .aI .eql z 0=decide (kk=0):=by have:=hz.eq;rw[aA A,decide_eq_decide];omega
  have cZ:=hz.succ (A:=A) (by omega);rw[f1];rcases gR with ⟨rfl,rfl,rfl,rfl,he,sf⟩ | ⟨Qe,he,sf⟩
  ·obtain⟨la,TH⟩:∃l:List ByteArray,l=[]:=⟨_,rfl⟩;obtain⟨lb,dKn⟩:∃l:List (List Nd),l=[]:=⟨_,rfl⟩;obtain⟨kk,aKE⟩:∃l:Nat,l=0:=⟨_,rfl⟩;have iXC:decide ((0:Nat)=0)=true:=rfl;rw[<-TH]at ba he RM tW cKq;rw[<-dKn]at bb he JD tW;rw[<-TH]at Jz;have eZz:la.length<6:=by rw[TH];show 0<6;decide
   rw[<-aKE]at cZ;rw[iXC];cbv;refine Ae p9 (fun bZX nv Yc cXO dZr YE hZe hQq=>?_);have IS:=ba.mono (p9.lt YE (tys:=9::dX.tys) (by decide));have bXz:=bb.mono (p9.lt YE (tys:=42::jM.tys) (by decide));cbv;intro aZY Ui eQi bQH;have Mv:Le bZX Ui:=by rw[bQH];exact Le.set eQi
   have f21:=(congrFun bQH aZY).trans ae;have aXb:Sl 9 dX Ui (.slice (some ⟨aZY,0,none⟩) 1 1) [nv]:=bA (s:=dX) f21 rfl;have SW:Le (Sx.eF h pb) Ui:=(l9.trans YE).trans Mv.cJL;cbv;refine(IS.mono (Mv.t _)).append aXb (by decide) rfl (by decide) (by omega) SW (fun dZQ eXo eXg cXl eQF SU t22 dJk IQ=>?_);have aZD:=dZr.of ((Mv.t _).trans (t22 _ (by decide)));have bXy:=(bXz.mono (Mv.t _)).mono (t22 _ (by decide));have SU:vq pb h cXl:=SU;clear IS bXz aXb f21 t22 dJk;cbv;intro hJC lQC iJd iJG;refine nH aZD iJd [(aM [61])] iJG rfl (by decide) (fun gKn kXM iJF dZq rK kXs=>?_);have bXE:=IQ.mono (aZD.lt rK (tys:=9::dX.tys) (by decide));have bXx:=bXy.mono (aZD.lt rK (tys:=42::jM.tys) (by decide));cbv;refine Iv dZq (fun dKX eb en ec ev Yb iJE kQz hJr aJw hJj kXr=>?_);have bXD:=bXE.mono (dZq.lt aJw (tys:=9::dX.tys) (by decide));have bXw:=bXx.mono (dZq.lt aJw (tys:=42::jM.tys) (by decide));clear bXE bXx IQ bXy;cbv;intro fQb dKW iJc fJs;have VR:Le dKX dKW:=by rw[fJs];exact Le.set iJc
   have f26:=(congrFun fJs fQb).trans ae;have eJr:Sl 42 jM dKW (.slice (some ⟨fQb,0,none⟩) 1 1) [ev]:=bA (s:=jM) f26 ⟨_,rfl,hJj.mono (VR.t _)⟩;have dJd:Le (Sx.eF h pb) dKW:=((SU.trans rK).trans aJw).trans VR.cJL;cbv;refine(bXw.mono (VR.t _)).append eJr (by decide) rfl (by decide) (by omega) dJd (fun hJK iKj iKb fZH iJt bZr t27 hKl bXv=>?_);have hJq:=hJr.of ((VR.t _).trans (t27 _ (by decide)));have bXC:=(bXD.mono (VR.t _)).mono (t27 _ (by decide));have bZr:vq pb h fZH:=bZr;have bU:nC ao (fu+1) la lb s9=match Yb.more (la++[nv]).length with
    | (true,p)=>nC ao fu (la++[nv]) (lb++[ev]) p
    | (false,p)=>((la++[nv],lb++[ev]),p):=by
    rw[nC];simp only[cXO,iJF,iJE];rfl
   have dKK:I Yb.ws.length (A .bB .add .i64 z 1,(eXo,dZQ,eXg),iKj,hJK,iKb) fZH:=by rw[aY];exact⟨kk+1,la++[nv],lb++[ev],Yb,fu,cZ,bXC,bXv,by rw[nX,nX,tW];rfl,by rw[nX,mQu];omega,hJq,bZr,by omega,by omega,by rw[nX,mQu];omega,.inr ⟨by omega,bU.symm.trans he,rfl⟩⟩
   have aP:Yb.ws.length<m:=by omega
   clear aY hJ hk he bXC bXv bXD bXw eJr f26 t27 hKl bU;cbv;refine⟨Yb.ws.length,(_,(_,_,_),_,_,_),aP,⟨?_,?_,?_⟩,dKK⟩
   ·cbv
   ·cbv
   ·cbv
  ·rw[nM Qe];have nP:aS (A .nat an) la.length:=by rw[<-RM];exact aS.nat an
   cbv;refine aJd p9 nP (fun fL t Hh kV Br fU bZg uL=>?_);rw[kV]at he;have ba:=ba.mono (p9.lt fU (tys:=9::dX.tys) (by decide));have bb:=bb.mono (p9.lt fU (tys:=42::jM.tys) (by decide));have l9:=l9.trans fU;cases t with
   |true=>
    obtain⟨uL,eZz⟩:=uL rfl;replace he:nC ao fu la lb Hh=R:=he;obtain⟨fu,rfl⟩:∃Qx,fu=Qx+1:=⟨fu-1,by omega⟩;cbv;refine Ae Br (fun bZX nv Yc cXO dZr YE hZe hQq=>?_);have IS:=ba.mono (Br.lt YE (tys:=9::dX.tys) (by decide));have bXz:=bb.mono (Br.lt YE (tys:=42::jM.tys) (by decide));cbv;intro aZY Ui eQi bQH;have Mv:Le bZX Ui:=by rw[bQH];exact Le.set eQi
    have f21:=(congrFun bQH aZY).trans ae;have aXb:Sl 9 dX Ui (.slice (some ⟨aZY,0,none⟩) 1 1) [nv]:=bA (s:=dX) f21 rfl;have SW:Le (Sx.eF h pb) Ui:=(l9.trans YE).trans Mv.cJL;cbv;refine(IS.mono (Mv.t _)).append aXb (by decide) rfl (by decide) (by omega) SW (fun dZQ eXo eXg cXl eQF SU t22 dJk IQ=>?_);have aZD:=dZr.of ((Mv.t _).trans (t22 _ (by decide)));have bXy:=(bXz.mono (Mv.t _)).mono (t22 _ (by decide));have SU:vq pb h cXl:=SU;clear IS bXz aXb f21 t22 dJk;cbv;intro hJC lQC iJd iJG;refine nH aZD iJd [(aM [61])] iJG rfl (by decide) (fun gKn kXM iJF dZq rK kXs=>?_);have bXE:=IQ.mono (aZD.lt rK (tys:=9::dX.tys) (by decide));have bXx:=bXy.mono (aZD.lt rK (tys:=42::jM.tys) (by decide));cbv;refine Iv dZq (fun dKX eb en ec ev Yb iJE kQz hJr aJw hJj kXr=>?_);have bXD:=bXE.mono (dZq.lt aJw (tys:=9::dX.tys) (by decide));have bXw:=bXx.mono (dZq.lt aJw (tys:=42::jM.tys) (by decide));clear bXE bXx IQ bXy;cbv;intro fQb dKW iJc fJs;have VR:Le dKX dKW:=by rw[fJs];exact Le.set iJc
    have f26:=(congrFun fJs fQb).trans ae;have eJr:Sl 42 jM dKW (.slice (some ⟨fQb,0,none⟩) 1 1) [ev]:=bA (s:=jM) f26 ⟨_,rfl,hJj.mono (VR.t _)⟩;have dJd:Le (Sx.eF h pb) dKW:=((SU.trans rK).trans aJw).trans VR.cJL;cbv;refine(bXw.mono (VR.t _)).append eJr (by decide) rfl (by decide) (by omega) dJd (fun hJK iKj iKb fZH iJt bZr t27 hKl bXv=>?_);have hJq:=hJr.of ((VR.t _).trans (t27 _ (by decide)));have bXC:=(bXD.mono (VR.t _)).mono (t27 _ (by decide));have bZr:vq pb h fZH:=bZr;have bU:nC ao (fu+1) la lb Hh=match Yb.more (la++[nv]).length with
     | (true,p)=>nC ao fu (la++[nv]) (lb++[ev]) p
     | (false,p)=>((la++[nv],lb++[ev]),p):=by
     rw[nC];simp only[cXO,iJF,iJE];rfl
    have dKK:I Yb.ws.length (A .bB .add .i64 z 1,(eXo,dZQ,eXg),iKj,hJK,iKb) fZH:=by rw[aY];exact⟨kk+1,la++[nv],lb++[ev],Yb,fu,cZ,bXC,bXv,by rw[nX,nX,tW];rfl,by rw[nX,mQu];omega,hJq,bZr,by omega,by omega,by rw[nX,mQu];omega,.inr ⟨by omega,bU.symm.trans he,rfl⟩⟩
    have aP:Yb.ws.length<m:=by omega
    clear aY hJ hk he bXC bXv bXD bXw eJr f26 t27 hKl bU;cbv;refine⟨Yb.ws.length,(_,(_,_,_),_,_,_),aP,⟨?_,?_,?_⟩,dKK⟩
    ·cbv
    ·cbv
    ·cbv
   |false=>replace he:((la,lb),Hh)=R:=he;subst he;clear aY hJ;cbv;refine RU Br (fun lZ wb wn wc we Ye rf iKv eKB oU xF iKE=>?_);replace hm:((({ kind:=4,table:=tb,names:=la,exprs:=lb,bV:=(Hh.bV ao).1 }:aJ),(Hh.bV ao).2))=D:=hm;rw[rf]at hm;have iKi:=ba.mono (Br.lt oU (tys:=9::dX.tys) (by decide));have iKg:=bb.mono (Br.lt oU (tys:=42::jM.tys) (by decide));have af:=fun v q=>hk lZ ({ kind:=4,table:=tb,names:=la,exprs:=lb,bV:=we }:aJ) Ye v hm.symm eKB (l9.trans oU) q (by omega);have af:=af _ ⟨none,0,0,none,0,0,ab,an,ac,gb,gn,gc,none,0,0,wb,wn,wc,rfl,Sl.nil,Sl.nil,iKi.sl,iKg.sl,Sl.nil,xF⟩;cbv;exact af
set_option maxHeartbeats 16000000
def cZi(p:PS):List dO×PS:=match p.is (aM [42])with
 | (true,p)=>([],p)
 | (false,p)=>iK ao (p.ws.length+1) [] p
def cZh(p:PS):ByteArray×PS:=(p.cd [(aM [102,114,111,109])]).name ao
def bJd(p:PS):(ByteArray×List Nd)×PS:=match p.is (aM [106,111,105,110])with
 | (true,p)=>let a:=p.name ao;let e:=(a.2.cd [(aM [111,110])]).expr ao;((a.1,e.1),e.2)
 | (false,p)=>((b0,[]),p)
def dQo(p:PS):ByteArray×PS:=match p.is (aM [103,114,111,117,112])with
 | (true,p)=>(p.cd [(aM [98,121])]).column ao
 | (false,p)=>(b0,p)
def eJc(p:PS):(ByteArray×Bool)×PS:=match p.is (aM [111,114,100,101,114])with
 | (true,p)=>let c:=(p.cd [(aM [98,121])]).column ao;let d:=c.2.is (aM [100,101,115,99]);((c.1,d.1),d.2)
 | (false,p)=>((b0,false),p)
def eJb(p:PS):Int×PS:=match p.is (aM [108,105,109,105,116])with
 | (true,p)=>(match p.ws with
  |w::r=>if w.k=2 then(w.n,({ p with ws:=r }:PS))else((-1:Int),p.fail 6)
  | []=>(-1,p))
 | (false,p)=>(-1,p)
theorem ZF{s:PS}{l:List dO}{s1 s2 s3 s4 s5 s6 s7:PS}{tb jn gr od:ByteArray}{on wh:List Nd}{ds:Bool}{lm:Int}(e1:cZi s=(l,s1))(e2:cZh s1=(tb,s2))(e3:bJd s2=((jn,on),s3))(e4:s3.bV ao=(wh,s4))(e5:dQo s4=(gr,s5))(e6:eJc s5=((od,ds),s6))(e7:eJb s6=(lm,s7)):
 s.choose ao=({ kind:=6,table:=tb,join:=jn,on:=on,items:=l,bV:=wh,group:=gr,order:=od,desc:=ds,eG:=lm },s7):=by
 have g1:(let st:=s.is (aM [42]);if st.1 then([],st.2)else iK ao (st.2.ws.length+1) [] st.2)=(l,s1):=by
  rw[<-e1];unfold cZi;rcases s.is (aM [42])with ⟨t,q⟩
  cases t<;>rfl
 have g3:(let j:=s2.is (aM [106,111,105,110]);if j.1 then(let a:=j.2.name ao;let p:=a.2.cd [(aM [111,110])];let e:=p.expr ao;((a.1,e.1),e.2))else((b0,[]),j.2))=((jn,on),s3):=by
  rw[<-e3];unfold bJd;rcases s2.is (aM [106,111,105,110])with ⟨t,q⟩
  cases t<;>rfl
 have g5:(let g:=s4.is (aM [103,114,111,117,112]);if g.1 then(g.2.cd [(aM [98,121])]).column ao else(b0,g.2))=(gr,s5):=by
  rw[<-e5];unfold dQo;rcases s4.is (aM [103,114,111,117,112])with ⟨t,q⟩
  cases t<;>rfl
 have g6:(let o:=s5.is (aM [111,114,100,101,114]);if o.1 then(let c:=(o.2.cd [(aM [98,121])]).column ao;let d:=c.2.is (aM [100,101,115,99]);((c.1,d.1),d.2))else((b0,false),o.2))=((od,ds),s6):=by
  rw[<-e6];unfold eJc;rcases s5.is (aM [111,114,100,101,114])with ⟨t,q⟩
  cases t<;>rfl
 have g7:(let li:=s6.is (aM [108,105,109,105,116]);if li.1 then(match li.2.ws with
  |w::r=>if w.k=2 then(w.n,({ li.2 with ws:=r }:PS))else((-1:Int),li.2.fail 6)
  | []=>(-1,li.2))else(-1,li.2))=(lm,s7):=by
  rw[<-e7];unfold eJb;rcases s6.is (aM [108,105,109,105,116])with ⟨t,q⟩
  cases t<;>rfl
 have e2:(s1.cd [(aM [102,114,111,109])]).name ao=(tb,s2):=e2;have fin:∀X:Int×PS,X=(lm,s7)->(({ kind:=6,table:=tb,join:=jn,on:=on,items:=l,bV:=wh,group:=gr,order:=od,desc:=ds,eG:=X.1 }:aJ),X.2)=({ kind:=6,table:=tb,join:=jn,on:=on,items:=l,bV:=wh,group:=gr,order:=od,desc:=ds,eG:=lm },s7):=by rintro _ rfl;rfl
 unfold PS.choose;simp only[]at g1 g3 g5 g6 g7 |-;simp only[g1,e2,g3,e4,g5,g6];exact fin _ g7
theorem fJJ{s:PS}{q:PS}(e:s.is (aM [42])=(false,q)):cZi s=iK ao (q.ws.length+1) [] q:=by unfold cZi;rw[e]
def kQj(s:PS)(pb:Nat)(h:ad)(g:Option Addr×Nat×Nat)(h':ad):Prop:=∃l s1,cZi s=(l,s1)/\Sl 276 eI h' (.slice g.1 g.2.1 g.2.2) l/\PT h' pb s1/\vq pb h h'/\s1.ws.length<=s.ws.length
abbrev hQn:=(Option Addr×Nat×Nat)×ByteArray×ByteArray×Option Addr×Nat×Nat
def lZI(s:PS)(pb:Nat)(h:ad)(g:hQn)(h':ad):Prop:=∃l s1 s2 on s3,cZi s=(l,s1)/\cZh s1=(g.2.1,s2)/\bJd s2=((g.2.2.1,on),s3)/\Sl 276 eI h' (.slice g.1.1 g.1.2.1 g.1.2.2) l/\Sl 325 fx h' (.slice g.2.2.2.1 g.2.2.2.2.1 g.2.2.2.2.2) on/\PT h' pb s3/\vq pb h h'/\s3.ws.length<=s.ws.length
abbrev hQk:=hQn×(Option Addr×Nat×Nat)×ByteArray
def lZH(s:PS)(pb:Nat)(h:ad)(g:hQk)(h':ad):Prop:=∃l s1 s2 on s3 wh s4 s5,cZi s=(l,s1)/\cZh s1=(g.1.2.1,s2)/\bJd s2=((g.1.2.2.1,on),s3)/\s3.bV ao=(wh,s4)/\dQo s4=(g.2.2,s5)/\Sl 276 eI h' (.slice g.1.1.1 g.1.1.2.1 g.1.1.2.2) l/\Sl 325 fx h' (.slice g.1.2.2.2.1 g.1.2.2.2.2.1 g.1.2.2.2.2.2) on/\Sl 325 fx h' (.slice g.2.1.1 g.2.1.2.1 g.2.1.2.2) wh/\PT h' pb s5/\vq pb h h'/\s5.ws.length<=s.ws.length
abbrev iKr:=hQk×ByteArray×Bool
def lZG(s:PS)(pb:Nat)(h:ad)(g:iKr)(h':ad):Prop:=∃l s1 s2 on s3 wh s4 s5 s6,cZi s=(l,s1)/\cZh s1=(g.1.1.2.1,s2)/\bJd s2=((g.1.1.2.2.1,on),s3)/\s3.bV ao=(wh,s4)/\dQo s4=(g.1.2.2,s5)/\eJc s5=((g.2.1,g.2.2),s6)/\Sl 276 eI h' (.slice g.1.1.1.1 g.1.1.1.2.1 g.1.1.1.2.2) l/\Sl 325 fx h' (.slice g.1.1.2.2.2.1 g.1.1.2.2.2.2.1 g.1.1.2.2.2.2.2) on/\Sl 325 fx h' (.slice g.1.2.1.1 g.1.2.1.2.1 g.1.2.1.2.2) wh/\PT h' pb s6/\vq pb h h'/\s6.ws.length<=s.ws.length
theorem cZg{h:ad}{pb:Nat}{s:PS}(hp:PT h pb s){k:Value->ad->Prop}
 (hk:∀h' st s' v,s.choose ao=(st,s')->PT h' pb s'->vq pb h h'->aQG h' v st->s'.ws.length<=s.ws.length->k v h'):
 Ct 127 [.pointer (some ⟨pb,0,none⟩)] h k:=by
 obtain⟨A,hA⟩:=Ar.ex;obtain⟨C1,cKM⟩:∃C:Option Addr×Nat×Nat->ad->Prop,∀g h',C g h'=kQj s pb h g h':=⟨_,fun _ _=>rfl⟩;obtain⟨C2,cKL⟩:∃C:hQn->ad->Prop,∀g h',C g h'=lZI s pb h g h':=⟨_,fun _ _=>rfl⟩;obtain⟨C3,bZT⟩:∃C:hQk->ad->Prop,∀g h',C g h'=lZH s pb h g h':=⟨_,fun _ _=>rfl⟩;obtain⟨C4,aQw⟩:∃C:iKr->ad->Prop,∀g h',C g h'=lZG s pb h g h':=⟨_,fun _ _=>rfl⟩;refine zo A [false,false,true,false,false,true,false,true,true] (ax gXT.aK gXT.bF) Tryz.func127 rfl (by kernel_rfl) ?_;cbv;refine Dw.go (G:=Option Addr×Nat×Nat) (fun _=>[]) (fun g=>[(3,[.int .i64 6,.string ⟨#[]⟩,.slice none 0 0,.int .i64 0,.bool false,.string ⟨#[]⟩,.string ⟨#[]⟩,.slice none 0 0,.slice none 0 0,.slice none 0 0,.slice g.1 g.2.1 g.2.2,.slice none 0 0,.string ⟨#[]⟩,.string ⟨#[]⟩,.bool false,.int .i64 (-1),.string ⟨#[]⟩]),(2,[.int .i64 0,.string ⟨#[]⟩,.slice none 0 0,.int .i64 0,.bool false,.string ⟨#[]⟩,.string ⟨#[]⟩,.slice none 0 0,.slice none 0 0,.slice none 0 0,.slice none 0 0,.slice none 0 0,.string ⟨#[]⟩,.string ⟨#[]⟩,.bool false,.int .i64 0,.string ⟨#[]⟩])]) C1 ?_ ?_
 ·cbv;refine HP hp (aM [42]) (fun h1 t s1 e1 p1 l1 ji mK=>?_);have AV:A .not t= !t:=by rw[hA.not]
  cases t with
  |true=>
   have ji:=ji rfl;have hC:C1 (none,0,0) h1:=by rw[cKM];exact⟨[],s1,by unfold cZi;rw[e1],Sl.nil,p1,l1,by omega⟩
   clear cKM cKL bZT aQw;cbv;rw[AV];cbv;refine⟨(_,_,_),⟨?_,?_,?_⟩,hC⟩
   ·cbv
   ·cbv
   ·cbv
  |false=>
   obtain⟨jE,iW⟩:=mK rfl;have jZe:=fJJ e1;subst jE iW;obtain⟨R,hR⟩:∃R,iK ao (s1.ws.length+1) [] s1=R:=⟨_,rfl⟩;rw[hR]at jZe;obtain⟨I,aY⟩:∃I:Nat->Int×(Option Addr×Nat×Nat)->ad->Prop,∀m g h',I m g h'=∃kk la s5 fu,aS g.1 kk/\cF 276 eI (Sx.eF h1 pb) h' (.slice g.2.1 g.2.2.1 g.2.2.2) la/\la.length<=6/\PT h' pb s5/\vq pb h1 h'/\s5.ws.length<=s1.ws.length/\s5.ws.length<=fu/\kk<=10+la.length/\
    ((kk=0/\la=[]/\s5=s1/\iK ao (fu+1) [] s5=R/\m=s5.ws.length+1)\/(kk≠0/\(match s5.more la.length with
      | (true,p)=>iK ao fu la p
      | (false,p)=>(la,p))=R/\m=s5.ws.length)):=⟨_,fun _ _ _=>rfl⟩
   have hJ:I (s1.ws.length+1) (0,(none,0,0)) h1:=by rw[aY];exact⟨0,[],s1,s1.ws.length,⟨rfl⟩,cF.nil,by decide,p1,vq.refl _ _,mQt _,mQt _,mQr _,.inl ⟨rfl,rfl,rfl,hR,rfl⟩⟩
   clear hR cKL bZT aQw l1;have cKM:∀g h',kQj s1 pb h1 g h'->C1 g h':=fun g h' q=>by rw[cKM];exact q
   cbv;rw[AV];cbv;refine aX.go (G:=Int×(Option Addr×Nat×Nat)) (fun g=>[(4,.v (.int .i64 g.1))]) (fun g=>[(3,[.int .i64 6,.string ⟨#[]⟩,.slice none 0 0,.int .i64 0,.bool false,.string ⟨#[]⟩,.string ⟨#[]⟩,.slice none 0 0,.slice none 0 0,.slice none 0 0,.slice g.2.1 g.2.2.1 g.2.2.2,.slice none 0 0,.string ⟨#[]⟩,.string ⟨#[]⟩,.bool false,.int .i64 (-1),.string ⟨#[]⟩]),(2,[.int .i64 0,.string ⟨#[]⟩,.slice none 0 0,.int .i64 0,.bool false,.string ⟨#[]⟩,.string ⟨#[]⟩,.slice none 0 0,.slice none 0 0,.slice none 0 0,.slice none 0 0,.slice none 0 0,.string ⟨#[]⟩,.string ⟨#[]⟩,.bool false,.int .i64 0,.string ⟨#[]⟩])]) (fun m g h'=>I m g h') (s1.ws.length+1) (0,(none,0,0)) ⟨?_,?_,?_⟩ hJ ?_
   ·cbv
   ·cbv
   ·cbv
   ·intro m g h9 hI;rw[aY]at hI;cbv;obtain⟨kk,la,s9,fu,hz,ba,cKq,p9,l9,w9,dKx,Jz,gR⟩:=hI;obtain⟨z,ab,an,ac⟩:=g;have hz:aS z kk:=hz;have ba:cF 276 eI (Sx.eF h1 pb) h9 (.slice ab an ac) la:=ba;have RM:=ba.sl.len;have f1:A .aI .eql z 0=decide (kk=0):=by have:=hz.eq;rw[aA A,decide_eq_decide];omega
    have cZ:=hz.succ (A:=A) (by omega);rw[f1];rcases gR with ⟨rfl,rfl,rfl,he,sf⟩ | ⟨Qe,he,sf⟩
    ·obtain⟨la,TH⟩:∃l:List dO,l=[]:=⟨_,rfl⟩;obtain⟨kk,aKE⟩:∃l:Nat,l=0:=⟨_,rfl⟩;have iXC:decide ((0:Nat)=0)=true:=rfl;rw[<-TH]at ba he RM cKq;rw[<-TH]at Jz;have eZz:la.length<6:=by rw[TH];show 0<6;decide
     rw[<-aKE]at cZ;rw[iXC];cbv;refine cJQ p9 (fun bZX eb en ec iv Yc cXO hQq dZr YE hJk hZe=>?_);have IS:=ba.mono (p9.lt YE (tys:=276::eI.tys) (by decide));cbv;intro aZY Ui eQi bQH;have Mv:Le bZX Ui:=by rw[bQH];exact Le.set eQi
     have f21:=(congrFun bQH aZY).trans ae;have aXb:Sl 276 eI Ui (.slice (some ⟨aZY,0,none⟩) 1 1) [iv]:=bA (s:=eI) f21 ⟨_,_,_,rfl,hJk.mono (Mv.t _)⟩;have SW:Le (Sx.eF h1 pb) Ui:=(l9.trans YE).trans Mv.cJL;cbv;refine(IS.mono (Mv.t _)).append aXb (by decide) rfl (by decide) (by omega) SW (fun dZQ eXo eXg cXl eQF SU t22 dJk IQ=>?_);have aZD:=dZr.of ((Mv.t _).trans (t22 _ (by decide)));have SU:vq pb h1 cXl:=SU;have bU:iK ao (fu+1) la s9=match Yc.more (la++[iv]).length with
      | (true,p)=>iK ao fu (la++[iv]) p
      | (false,p)=>(la++[iv],p):=by
      rw[iK];simp only[cXO];rfl
     have dKL:I Yc.ws.length (A .bB .add .i64 z 1,(eXo,dZQ,eXg)) cXl:=by rw[aY];exact⟨kk+1,la++[iv],Yc,fu,cZ,IQ,by rw[nX,mQu];omega,aZD,SU,by omega,by omega,by rw[nX,mQu];omega,.inr ⟨by omega,bU.symm.trans he,rfl⟩⟩
     have aP:Yc.ws.length<m:=by omega
     clear aY hJ he IS IQ aXb f21 t22 dJk bU;cbv;refine⟨Yc.ws.length,(_,_,_,_),aP,⟨?_,?_,?_⟩,dKL⟩
     ·cbv
     ·cbv
     ·cbv
    ·rw[nM Qe];have nP:aS (A .nat an) la.length:=by rw[<-RM];exact aS.nat an
     cbv;refine aJd p9 nP (fun fL t Hh kV Br fU bZg uL=>?_);rw[kV]at he;have ba:=ba.mono (p9.lt fU (tys:=276::eI.tys) (by decide));have l9:=l9.trans fU;cases t with
     |true=>
      obtain⟨uL,eZz⟩:=uL rfl;replace he:iK ao fu la Hh=R:=he;obtain⟨fu,rfl⟩:∃Qx,fu=Qx+1:=⟨fu-1,by omega⟩;cbv;refine cJQ Br (fun bZX eb en ec iv Yc cXO hQq dZr YE hJk hZe=>?_);have IS:=ba.mono (Br.lt YE (tys:=276::eI.tys) (by decide));cbv;intro aZY Ui eQi bQH;have Mv:Le bZX Ui:=by rw[bQH];exact Le.set eQi
      have f21:=(congrFun bQH aZY).trans ae;have aXb:Sl 276 eI Ui (.slice (some ⟨aZY,0,none⟩) 1 1) [iv]:=bA (s:=eI) f21 ⟨_,_,_,rfl,hJk.mono (Mv.t _)⟩;have SW:Le (Sx.eF h1 pb) Ui:=(l9.trans YE).trans Mv.cJL;cbv;refine(IS.mono (Mv.t _)).append aXb (by decide) rfl (by decide) (by omega) SW (fun dZQ eXo eXg cXl eQF SU t22 dJk IQ=>?_);have aZD:=dZr.of ((Mv.t _).trans (t22 _ (by decide)));have SU:vq pb h1 cXl:=SU;have bU:iK ao (fu+1) la Hh=match Yc.more (la++[iv]).length with
       | (true,p)=>iK ao fu (la++[iv]) p
       | (false,p)=>(la++[iv],p):=by
       rw[iK];simp only[cXO];rfl
      have dKL:I Yc.ws.length (A .bB .add .i64 z 1,(eXo,dZQ,eXg)) cXl:=by rw[aY];exact⟨kk+1,la++[iv],Yc,fu,cZ,IQ,by rw[nX,mQu];omega,aZD,SU,by omega,by omega,by rw[nX,mQu];omega,.inr ⟨by omega,bU.symm.trans he,rfl⟩⟩
      have aP:Yc.ws.length<m:=by omega
      clear aY hJ he IS IQ aXb f21 t22 dJk bU;cbv;refine⟨Yc.ws.length,(_,_,_,_),aP,⟨?_,?_,?_⟩,dKL⟩
      ·cbv
      ·cbv
      ·cbv
     |false=>
      replace he:(la,Hh)=R:=he;subst he;have hC:=cKM (ab,an,ac) fL ⟨la,Hh,jZe,ba.sl,Br,l9,by omega⟩;clear aY hJ cKM;cbv;refine⟨(_,_,_),⟨?_,?_,?_⟩,hC⟩
      ·cbv
      ·cbv
      ·cbv
 ·intro g h1 hC;rw[cKM]at hC;obtain⟨l,s1,q1,ql,p1,l1,w1⟩:=hC;obtain⟨ib,PE,ic⟩:=g;have ql:Sl 276 eI h1 (.slice ib PE ic) l:=ql;clear cKM;cbv;intro n2 h2 g2 e2;refine nH p1 g2 [(aM [102,114,111,109])] e2 rfl (by decide) (fun h3 s3 e3 p3 l3 w3=>?_);cbv;refine Ae p3 (fun h4 tb s4 e4 p4 l4 w4 z4=>?_);have q2:cZh s1=(tb,s4):=by unfold cZh;rw[e3,e4]
  have dXX:=ql.mono (p1.lt (l3.trans l4) (tys:=276::eI.tys) (by decide));have rY:=(l1.trans l3).trans l4;have eJq:s4.ws.length<=s.ws.length:=by omega
  clear ql;cbv;refine Dw.go (G:=hQn) (fun _=>[]) (fun g=>[(3,[.int .i64 6,.string ⟨#[]⟩,.slice none 0 0,.int .i64 0,.bool false,.string g.2.1,.string g.2.2.1,.slice g.2.2.2.1 g.2.2.2.2.1 g.2.2.2.2.2,.slice none 0 0,.slice none 0 0,.slice g.1.1 g.1.2.1 g.1.2.2,.slice none 0 0,.string ⟨#[]⟩,.string ⟨#[]⟩,.bool false,.int .i64 (-1),.string ⟨#[]⟩]),(2,[.int .i64 0,.string ⟨#[]⟩,.slice none 0 0,.int .i64 0,.bool false,.string ⟨#[]⟩,.string ⟨#[]⟩,.slice none 0 0,.slice none 0 0,.slice none 0 0,.slice none 0 0,.slice none 0 0,.string ⟨#[]⟩,.string ⟨#[]⟩,.bool false,.int .i64 0,.string ⟨#[]⟩])]) C2 ?_ ?_
  ·cbv;refine HP p4 (aM [106,111,105,110]) (fun h5 t s5 e5 p5 l5 Cf hZx=>?_);cases t with
   |false=>
    obtain⟨rfl,rfl⟩:=hZx rfl;have hC:C2 ((ib,PE,ic),tb,⟨#[]⟩,none,0,0) h5:=by rw[cKL];exact⟨l,s1,s5,[],s5,q1,q2,by unfold bJd;rw[e5];rfl,dXX,Sl.nil,p5,rY,eJq⟩
    clear cKL bZT aQw;cbv;refine⟨((_,_,_),_,_,_,_,_),⟨?_,?_,?_⟩,hC⟩
    ·cbv
    ·cbv
    ·cbv
   |true=>
    have Cf:=Cf rfl;have kZb:=dXX.mono (p4.lt l5 (tys:=276::eI.tys) (by decide));cbv;refine Ae p5 (fun h6 jn s6 e6 p6 l6 w6 z6=>?_);have kZa:=kZb.mono (p5.lt l6 (tys:=276::eI.tys) (by decide));cbv;intro n7 h7 g7 e7;refine nH p6 g7 [(aM [111,110])] e7 rfl (by decide) (fun h8 s8 e8 p8 l8 w8=>?_);have kXZ:=kZa.mono (p6.lt l8 (tys:=276::eI.tys) (by decide));cbv;refine Iv p8 (fun h9 ob on oc ov s9 e9 z9 p9 l9 qo w9=>?_);have kXY:=kXZ.mono (p8.lt l9 (tys:=276::eI.tys) (by decide));have hC:C2 ((ib,PE,ic),tb,jn,ob,on,oc) h9:=by rw[cKL];exact⟨l,s1,s4,ov,s9,q1,q2,by unfold bJd;rw[e5];simp only[e6,e8,e9],kXY,qo,p9,(((rY.trans l5).trans l6).trans l8).trans l9,by omega⟩
    clear cKL bZT aQw;cbv;refine⟨((_,_,_),_,_,_,_,_),⟨?_,?_,?_⟩,hC⟩
    ·cbv
    ·cbv
    ·cbv
  ·intro g h5 hC;clear dXX p4 rY eJq q1 q2 e2 e3 e4 p3 l3 l4 w3 w4 z4 p1 l1 w1;rw[cKL]at hC;obtain⟨l,s1,s2,on,s3,q1,q2,q3,ql,qo,p3,l3,w3⟩:=hC;obtain⟨⟨ib,PE,ic⟩,tb,jn,ob,aZI,oc⟩:=g;have ql:Sl 276 eI h5 (.slice ib PE ic) l:=ql;have qo:Sl 325 fx h5 (.slice ob aZI oc) on:=qo;have q2:cZh s1=(tb,s2):=q2;have q3:bJd s2=((jn,on),s3):=q3;clear cKL;cbv;refine RU p3 (fun h6 wb wn wc wh s4 e4 z4 p4 l4 qw w4=>?_);have dXX:=ql.mono (p3.lt l4 (tys:=276::eI.tys) (by decide));have SA:=qo.mono (p3.lt l4 (tys:=325::fx.tys) (by decide));have rY:=l3.trans l4;have eJq:s4.ws.length<=s.ws.length:=by omega
   clear ql qo;cbv;refine Dw.go (G:=hQk) (fun _=>[]) (fun g=>[(3,[.int .i64 6,.string ⟨#[]⟩,.slice none 0 0,.int .i64 0,.bool false,.string g.1.2.1,.string g.1.2.2.1,.slice g.1.2.2.2.1 g.1.2.2.2.2.1 g.1.2.2.2.2.2,.slice none 0 0,.slice none 0 0,.slice g.1.1.1 g.1.1.2.1 g.1.1.2.2,.slice g.2.1.1 g.2.1.2.1 g.2.1.2.2,.string g.2.2,.string ⟨#[]⟩,.bool false,.int .i64 (-1),.string ⟨#[]⟩]),(2,[.int .i64 0,.string ⟨#[]⟩,.slice none 0 0,.int .i64 0,.bool false,.string ⟨#[]⟩,.string ⟨#[]⟩,.slice none 0 0,.slice none 0 0,.slice none 0 0,.slice none 0 0,.slice none 0 0,.string ⟨#[]⟩,.string ⟨#[]⟩,.bool false,.int .i64 0,.string ⟨#[]⟩])]) C3 ?_ ?_
   ·cbv;refine HP p4 (aM [103,114,111,117,112]) (fun h7 t s5 e5 p5 l5 Cf hZx=>?_);cases t with
    |false=>
     obtain⟨rfl,rfl⟩:=hZx rfl;have hC:C3 (((ib,PE,ic),tb,jn,ob,aZI,oc),(wb,wn,wc),⟨#[]⟩) h7:=by rw[bZT];exact⟨l,s1,s2,on,s3,wh,s5,s5,q1,q2,q3,e4,by unfold dQo;rw[e5];rfl,dXX,SA,qw,p5,rY,eJq⟩
     clear bZT aQw;cbv;refine⟨(((_,_,_),_,_,_,_,_),(_,_,_),_),⟨?_,?_,?_⟩,hC⟩
     ·cbv
     ·cbv
     ·cbv
    |true=>
     have Cf:=Cf rfl;cbv;intro n8 h8 g8 e8;refine nH p5 g8 [(aM [98,121])] e8 rfl (by decide) (fun h9 s9 e9 p9 l9 w9=>?_);cbv;refine WR p9 (fun fL gr Hh kV Br fU bZg lZM=>?_);have lx:=(l5.trans l9).trans fU;have hC:C3 (((ib,PE,ic),tb,jn,ob,aZI,oc),(wb,wn,wc),gr) fL:=by rw[bZT];exact⟨l,s1,s2,on,s3,wh,s4,Hh,q1,q2,q3,e4,by unfold dQo;rw[e5];simp only[e9,kV],dXX.mono (p4.lt lx (tys:=276::eI.tys) (by decide)),SA.mono (p4.lt lx (tys:=325::fx.tys) (by decide)),qw.mono (p4.lt lx (tys:=325::fx.tys) (by decide)),Br,rY.trans lx,by omega⟩
     clear bZT aQw;cbv;refine⟨(((_,_,_),_,_,_,_,_),(_,_,_),_),⟨?_,?_,?_⟩,hC⟩
     ·cbv
     ·cbv
     ·cbv
   ·intro g h7 hC;clear dXX SA qw p4 rY eJq q1 q2 q3 e4 l4 w4 z4 p3 l3 w3;rw[bZT]at hC;obtain⟨l,s1,s2,on,s3,wh,s4,s5,q1,q2,q3,q4,q5,ql,qo,qw,p5,l5,w5⟩:=hC;obtain⟨⟨⟨ib,PE,ic⟩,tb,jn,ob,aZI,oc⟩,⟨wb,wn,wc⟩,gr⟩:=g;have ql:Sl 276 eI h7 (.slice ib PE ic) l:=ql;have qo:Sl 325 fx h7 (.slice ob aZI oc) on:=qo;have qw:Sl 325 fx h7 (.slice wb wn wc) wh:=qw;have q2:cZh s1=(tb,s2):=q2;have q3:bJd s2=((jn,on),s3):=q3;have q5:dQo s4=(gr,s5):=q5;clear bZT;cbv;refine Dw.go (G:=iKr) (fun _=>[]) (fun g=>[(3,[.int .i64 6,.string ⟨#[]⟩,.slice none 0 0,.int .i64 0,.bool false,.string g.1.1.2.1,.string g.1.1.2.2.1,.slice g.1.1.2.2.2.1 g.1.1.2.2.2.2.1 g.1.1.2.2.2.2.2,.slice none 0 0,.slice none 0 0,.slice g.1.1.1.1 g.1.1.1.2.1 g.1.1.1.2.2,.slice g.1.2.1.1 g.1.2.1.2.1 g.1.2.1.2.2,.string g.1.2.2,.string g.2.1,.bool g.2.2,.int .i64 (-1),.string ⟨#[]⟩]),(2,[.int .i64 0,.string ⟨#[]⟩,.slice none 0 0,.int .i64 0,.bool false,.string ⟨#[]⟩,.string ⟨#[]⟩,.slice none 0 0,.slice none 0 0,.slice none 0 0,.slice none 0 0,.slice none 0 0,.string ⟨#[]⟩,.string ⟨#[]⟩,.bool false,.int .i64 0,.string ⟨#[]⟩])]) C4 ?_ ?_
    ·cbv;refine HP p5 (aM [111,114,100,101,114]) (fun h8 t s6 e6 p6 l6 SN kXG=>?_);cases t with
     |false=>
      obtain⟨rfl,rfl⟩:=kXG rfl;have hC:C4 ((((ib,PE,ic),tb,jn,ob,aZI,oc),(wb,wn,wc),gr),⟨#[]⟩,false) h8:=by rw[aQw];exact⟨l,s1,s2,on,s3,wh,s4,s6,s6,q1,q2,q3,q4,q5,by unfold eJc;rw[e6];rfl,ql,qo,qw,p6,l5,w5⟩
      clear aQw;cbv;refine⟨((((_,_,_),_,_,_,_,_),(_,_,_),_),_,_),⟨?_,?_,?_⟩,hC⟩
      ·cbv
      ·cbv
      ·cbv
     |true=>
      have SN:=SN rfl;cbv;intro n9 h9 g9 e9;refine nH p6 g9 [(aM [98,121])] e9 rfl (by decide) (fun fL Hh kV Br fU bZg=>?_);cbv;refine WR Br (fun lZ od Ye rf eKB oU iKE iKv=>?_);cbv;refine HP eKB (aM [100,101,115,99]) (fun CI ds aQe JH hJs ko hJO hZy=>?_);have lx:=((l6.trans fU).trans oU).trans ko;have kXt:aQe.ws.length<=Ye.ws.length:=by
       cases ds with
       |true=>exact mZe (hJO rfl)
       |false=>rw[(hZy rfl).1];exact mQt _
      have hC:C4 ((((ib,PE,ic),tb,jn,ob,aZI,oc),(wb,wn,wc),gr),od,ds) CI:=by rw[aQw];exact⟨l,s1,s2,on,s3,wh,s4,s5,aQe,q1,q2,q3,q4,q5,by unfold eJc;rw[e6];simp only[kV,rf,JH],ql.mono (p5.lt lx (tys:=276::eI.tys) (by decide)),qo.mono (p5.lt lx (tys:=325::fx.tys) (by decide)),qw.mono (p5.lt lx (tys:=325::fx.tys) (by decide)),hJs,l5.trans lx,by omega⟩
      clear aQw;cbv;refine⟨((((_,_,_),_,_,_,_,_),(_,_,_),_),_,_),⟨?_,?_,?_⟩,hC⟩
      ·cbv
      ·cbv
      ·cbv
    ·intro g h8 hC;clear ql qo qw p5 l5 w5 q1 q2 q3 q4 q5;rw[aQw]at hC;obtain⟨l,s1,s2,on,s3,wh,s4,s5,s6,q1,q2,q3,q4,q5,q6,ql,qo,qw,p6,l6,w6⟩:=hC;obtain⟨⟨⟨⟨ib,PE,ic⟩,tb,jn,ob,aZI,oc⟩,⟨wb,wn,wc⟩,gr⟩,od,ds⟩:=g;have ql:Sl 276 eI h8 (.slice ib PE ic) l:=ql;have qo:Sl 325 fx h8 (.slice ob aZI oc) on:=qo;have qw:Sl 325 fx h8 (.slice wb wn wc) wh:=qw;have q2:cZh s1=(tb,s2):=q2;have q3:bJd s2=((jn,on),s3):=q3;have q5:dQo s4=(gr,s5):=q5;have q6:eJc s5=((od,ds),s6):=q6;clear aQw;have af:∀h' lm s7,eJb s6=(lm,s7)->PT h' pb s7->vq pb h8 h'->s7.ws.length<=s6.ws.length->k (iKN 6 ⟨#[]⟩ none 0 0 0 false tb jn ob aZI oc none 0 0 none 0 0 ib PE ic wb wn wc gr od ds lm ⟨#[]⟩) h':=fun h' lm s7 e p l w=>
      hk h' _ s7 _ (ZF q1 q2 q3 q4 q5 q6 e) p (l6.trans l) ⟨none,0,0,ob,aZI,oc,none,0,0,none,0,0,ib,PE,ic,wb,wn,wc,rfl,Sl.nil,qo.mono (p6.lt l (tys:=325::fx.tys) (by decide)),Sl.nil,Sl.nil,ql.mono (p6.lt l (tys:=276::eI.tys) (by decide)),qw.mono (p6.lt l (tys:=325::fx.tys) (by decide))⟩ (by omega)
     clear hk ql qo qw;cbv;refine HP p6 (aM [108,105,109,105,116]) (fun h9 t s7 e7 p7 l7 aQh kXF=>?_);cases t with
     |false=>have af:=af h9 (-1) s7 (by unfold eJb;rw[e7]) p7 l7 (by rw[(kXF rfl).1];exact mQt _);cbv;exact af
     |true=>
      have aQh:=aQh rfl;refine p7.out.elim (fun eJp hZb iKA Ux iJs iJz at_ i all w r g hZL hz hw lM hr hi bZx qe=>?_);have cJ:eJp.isSome=true/\0<=at_/\at_<(hZb:Int):=⟨hZL.aT (by omega),hz.ix hi⟩;have cN:=hz.eq;have cZ:=hz.succ (A:=A) (by omega);obtain⟨wk,wN,wS⟩:=w;have f1:A .aI .neq wk 2=decide (wk≠2):=aC A ..;have h7:eJb s6=if wk=2 then(wN,({ s7 with ws:=r }:PS))else(-1,s7.fail 6):=by unfold eJb;rw[e7];simp only[lM]
      clear qe;cbv;rw[ai A];refine aB g rfl rfl ?_;cbv;rw[ai A];refine aB g rfl rfl ?_;cbv;refine⟨cJ,?_⟩;cbv;refine hZL.load hw cN (fun cs ay=>?_);have ay:cs=[.int .i64 wk,.int .i64 wN,.string wS]:=ay;subst ay;cbv;rw[f1];by_cases sJ:wk=2
      ·rw[if_pos sJ]at h7;rw[nM (by simpa using sJ)];cbv;rw[ai A];refine aB g rfl rfl ?_;cbv;rw[ai A];refine ja g (by simp) (fun fL kV=>?_);have Br:=p7.out.step lM (by show wk≠0;omega) g hz cZ kV;have af:=af fL wN _ h7 Br.pt (l7.trans (show vq pb h9 fL from Br.le)) (by have:=congrArg List.length lM;rw[mQx]at this;show r.length<=_;omega);cbv;exact af
      ·rw[if_neg sJ]at h7;rw[kS sJ];cbv;refine WE p7 6 (fun fL Br fU=>?_);have af:=af fL (-1) _ h7 Br (l7.trans fU) (by rw[PS.CT];omega);cbv;exact af
theorem VH{a b:By}(h:aM a=aM b):a=b:=by have h1:=congrArg (fun s:ByteArray=>s.data.toList) h;simpa[aM]using h1
theorem eJy(c:UInt8)(n:Nat)(hn:n<256):decide (aM [c]=aM [UInt8.ofNat n])=decide (c.toNat=n):=by
 rw[decide_eq_decide];constructor
 ·intro h;have h1:=VH h;simp only[List.cons.injEq,and_true]at h1;rw[h1,mZo];omega
 ·intro h;have:c=UInt8.ofNat n:=by apply mXG.1;rw[h,mZo];omega
  rw[this]
theorem Sb(c d:UInt8)(n m:Nat)(hn:n<256)(hm:m<256):decide (aM [c,d]=aM [UInt8.ofNat n,UInt8.ofNat m])=(decide (c.toNat=n)&&decide (d.toNat=m)):=by
 have e:∀(x:UInt8) (k:Nat),k<256->(x=UInt8.ofNat k↔x.toNat=k):=fun x k hk=>by
  constructor
  ·intro h;rw[h,mZo];omega
  ·intro h;apply mXG.1;rw[h,mZo];omega
 rw[<-Bool.decide_and,decide_eq_decide];constructor
 ·intro h;have h1:=VH h;simp only[List.cons.injEq,and_true]at h1;exact⟨(e c n hn).1 h1.1,(e d m hm).1 h1.2⟩
 ·rintro⟨h1,h2⟩;rw[(e c n hn).2 h1,(e d m hm).2 h2]
theorem bJY{s:ByteArray}(hs:s.size<=600){i:Nat}{c:UInt8}{r:By}(q:Av s i (c::r)){z:Int}(hz:aS z i){h:ad}{k:Value->ad->Prop}
 (hk:k (.string (aM ((c::r).take (mf (c::r))))) h):
 Ct 215 [.string s,.int .i64 z] h k:=by
 obtain⟨A,hA⟩:=Ar.ex;have Cv:aS (A .jO s) s.size:=⟨by rw[hA.jO]⟩;have hl:=q.len;rw[mQx]at hl;obtain⟨z1,jV⟩:∃z1,A .bB .add .i64 z 1=z1:=⟨_,rfl⟩;have lG:aS z1 (i+1):=by rw[<-jV];exact hz.succ (A:=A) (by omega)
 have f1:A .aI .lss z1 (A .jO s)=decide (i+1<s.size):=lG.iJ Cv;have aKl:A .sub s z z1=aM [c]:=q.sub hz (n:=1) lG;have rQ:0<=z1/\z1<=(s.size:Int)/\0<=z/\z<=z1:=by have h1:=lG.eq;have h2:=hz.eq;omega
 have FF:∀n,n<256->decide (aM [c]=aM [UInt8.ofNat n])=decide (c.toNat=n):=fun n hn=>eJy c n hn;have iJa:A .iQ .eql (aM [c]) ⟨#[40]⟩=decide (c.toNat=40):=by rw[cS A];exact FF 40 (by decide)
 have fJf:A .iQ .eql (aM [c]) ⟨#[41]⟩=decide (c.toNat=41):=by rw[cS A];exact FF 41 (by decide)
 have iZX:A .iQ .eql (aM [c]) ⟨#[44]⟩=decide (c.toNat=44):=by rw[cS A];exact FF 44 (by decide)
 have iZV:A .iQ .eql (aM [c]) ⟨#[46]⟩=decide (c.toNat=46):=by rw[cS A];exact FF 46 (by decide)
 have iZZ:A .iQ .eql (aM [c]) ⟨#[42]⟩=decide (c.toNat=42):=by rw[cS A];exact FF 42 (by decide)
 have iZT:A .iQ .eql (aM [c]) ⟨#[61]⟩=decide (c.toNat=61):=by rw[cS A];exact FF 61 (by decide)
 have iZU:A .iQ .eql (aM [c]) ⟨#[60]⟩=decide (c.toNat=60):=by rw[cS A];exact FF 60 (by decide)
 have iZS:A .iQ .eql (aM [c]) ⟨#[62]⟩=decide (c.toNat=62):=by rw[cS A];exact FF 62 (by decide)
 have iZY:A .iQ .eql (aM [c]) ⟨#[43]⟩=decide (c.toNat=43):=by rw[cS A];exact FF 43 (by decide)
 have iZW:A .iQ .eql (aM [c]) ⟨#[45]⟩=decide (c.toNat=45):=by rw[cS A];exact FF 45 (by decide)
 obtain⟨sb,KF⟩:∃sb,aM [c]=sb:=⟨_,rfl⟩;rw[KF]at aKl iJa fJf iZX iZV iZZ iZT iZU iZS iZY iZW;have cKa:(ns.contains c.toNat=true->k (.string sb) h)->(ns.contains c.toNat=false->k (.string ⟨#[]⟩) h)->∀(j:Unit),True:=fun _ _ _=>trivial;refine ah A (ax gQL.aK gQL.bF) Tryz.func215 rfl (by kernel_rfl) ?_;cbv;rw[jV,f1];cases r with
 |nil=>
  have aP:¬i+1<s.size:=by have:([]:By).length=0:=rfl;omega
  have iM:ns.contains c.toNat=true->k (.string sb) h:=fun e=>by
   have:mf [c]=1:=by show(if ns.contains c.toNat then 1 else 0)=1;rw[e];rfl
   rw[this]at hk;rw[<-KF];exact hk
  have gK:ns.contains c.toNat=false->k (.string ⟨#[]⟩) h:=fun e=>by
   have:mf [c]=0:=by show(if ns.contains c.toNat then 1 else 0)=0;rw[e];rfl
   rw[this]at hk;exact hk
  clear hk cKa;rw[nM aP];cbv;rw[jV];refine⟨rQ,?_⟩;cbv;rw[aKl];cbv;rw[iJa];by_cases Im:c.toNat=40
  ·have hf:=iM (by rw[Im];decide);rw[kS Im];cbv;exact hf
  ·rw[nM Im];cbv;rw[fJf];by_cases cXk:c.toNat=41
   ·have hf:=iM (by rw[cXk];decide);rw[kS cXk];cbv;exact hf
   ·rw[nM cXk];cbv;rw[iZX];by_cases cXh:c.toNat=44
    ·have hf:=iM (by rw[cXh];decide);rw[kS cXh];cbv;exact hf
    ·rw[nM cXh];cbv;rw[iZV];by_cases cXf:c.toNat=46
     ·have hf:=iM (by rw[cXf];decide);rw[kS cXf];cbv;exact hf
     ·rw[nM cXf];cbv;rw[iZZ];by_cases cXj:c.toNat=42
      ·have hf:=iM (by rw[cXj];decide);rw[kS cXj];cbv;exact hf
      ·rw[nM cXj];cbv;rw[iZT];by_cases cXe:c.toNat=61
       ·have hf:=iM (by rw[cXe];decide);rw[kS cXe];cbv;exact hf
       ·rw[nM cXe];cbv;rw[iZU];by_cases so:c.toNat=60
        ·have hf:=iM (by rw[so];decide);rw[kS so];cbv;exact hf
        ·rw[nM so];cbv;rw[iZS];by_cases Zf:c.toNat=62
         ·have hf:=iM (by rw[Zf];decide);rw[kS Zf];cbv;exact hf
         ·rw[nM Zf];cbv;rw[iZY];by_cases cXi:c.toNat=43
          ·have hf:=iM (by rw[cXi];decide);rw[kS cXi];cbv;exact hf
          ·rw[nM cXi];cbv;rw[iZW];by_cases cXg:c.toNat=45
           ·have hf:=iM (by rw[cXg];decide);rw[kS cXg];cbv;exact hf
           ·rw[nM cXg];cbv;have hf:=gK (by unfold ns;simp only[mJK,mJJ,mJI,mJa,beq_eq_false_iff_ne,ne_eq];exact⟨Im,cXk,cXh,cXf,cXj,cXe,so,Zf,cXi,cXg⟩);exact hf
 |cons d r'=>
  have aP:i+1<s.size:=by have:(d::r').length=r'.length+1:=rfl;omega
  obtain⟨z2,dL⟩:∃z2,A .bB .add .i64 z 2=z2:=⟨_,rfl⟩;have mY:aS z2 (i+2):=⟨by rw[<-dL,tI A _ _ (by have:=hz.eq;omega),hz.eq];omega⟩;have cKb:A .sub s z z2=aM [c,d]:=q.sub hz (n:=2) mY;have jo:0<=z2/\z2<=(s.size:Int)/\0<=z/\z<=z2:=by have h1:=mY.eq;have h2:=hz.eq;have h3:(d::r').length=r'.length+1:=rfl;omega
  have t1:A .iQ .eql (aM [c,d]) ⟨#[60,62]⟩=(decide (c.toNat=60)&&decide (d.toNat=62)):=by rw[cS A];exact Sb c d 60 62 (by decide) (by decide)
  have t2:A .iQ .eql (aM [c,d]) ⟨#[60,61]⟩=(decide (c.toNat=60)&&decide (d.toNat=61)):=by rw[cS A];exact Sb c d 60 61 (by decide) (by decide)
  have t3:A .iQ .eql (aM [c,d]) ⟨#[62,61]⟩=(decide (c.toNat=62)&&decide (d.toNat=61)):=by rw[cS A];exact Sb c d 62 61 (by decide) (by decide)
  have h2:Jk c d=((decide (c.toNat=60)&&decide (d.toNat=62))||(decide (c.toNat=60)&&decide (d.toNat=61))||(decide (c.toNat=62)&&decide (d.toNat=61))):=rfl;have wC:mf (c::d::r')=if Jk c d then 2 else if ns.contains c.toNat then 1 else 0:=rfl
  obtain⟨s2,FD⟩:∃sb,aM [c,d]=sb:=⟨_,rfl⟩;have dJM:Jk c d=true->k (.string s2) h:=fun e=>by
   rw[wC,e]at hk;rw[<-FD];exact hk
  have fQP:Jk c d=false->ns.contains c.toNat=true->k (.string sb) h:=fun e2 e=>by
   rw[wC,e2,e]at hk;rw[<-KF];exact hk
  have iQL:Jk c d=false->ns.contains c.toNat=false->k (.string ⟨#[]⟩) h:=fun e2 e=>by
   rw[wC,e2,e]at hk;exact hk
  rw[FD]at cKb t1 t2 t3;obtain⟨u1,gJM⟩:∃u,(decide (c.toNat=60)&&decide (d.toNat=62))=u:=⟨_,rfl⟩;obtain⟨u2,PH⟩:∃u,(decide (c.toNat=60)&&decide (d.toNat=61))=u:=⟨_,rfl⟩;obtain⟨u3,dJL⟩:∃u,(decide (c.toNat=62)&&decide (d.toNat=61))=u:=⟨_,rfl⟩;rw[gJM]at t1 h2;rw[PH]at t2 h2;rw[dJL]at t3 h2;clear hk cKa wC;rw[kS aP];cbv;rw[dL];refine⟨jo,?_⟩;cbv;rw[cKb];cbv;rw[t1];cases u1 with
  |true=>have hf:=dJM (by rw[h2];rfl);cbv;exact hf
  |false=>
   cbv;rw[t2];cases u2 with
   |true=>have hf:=dJM (by rw[h2];rfl);cbv;exact hf
   |false=>
    cbv;rw[t3];cases u3 with
    |true=>have hf:=dJM (by rw[h2];rfl);cbv;exact hf
    |false=>
     have iM:=fQP (by rw[h2];rfl);have gK:=iQL (by rw[h2];rfl);cbv;rw[jV];refine⟨rQ,?_⟩;cbv;rw[aKl];cbv;rw[iJa];by_cases Im:c.toNat=40
     ·have hf:=iM (by rw[Im];decide);rw[kS Im];cbv;exact hf
     ·rw[nM Im];cbv;rw[fJf];by_cases cXk:c.toNat=41
      ·have hf:=iM (by rw[cXk];decide);rw[kS cXk];cbv;exact hf
      ·rw[nM cXk];cbv;rw[iZX];by_cases cXh:c.toNat=44
       ·have hf:=iM (by rw[cXh];decide);rw[kS cXh];cbv;exact hf
       ·rw[nM cXh];cbv;rw[iZV];by_cases cXf:c.toNat=46
        ·have hf:=iM (by rw[cXf];decide);rw[kS cXf];cbv;exact hf
        ·rw[nM cXf];cbv;rw[iZZ];by_cases cXj:c.toNat=42
         ·have hf:=iM (by rw[cXj];decide);rw[kS cXj];cbv;exact hf
         ·rw[nM cXj];cbv;rw[iZT];by_cases cXe:c.toNat=61
          ·have hf:=iM (by rw[cXe];decide);rw[kS cXe];cbv;exact hf
          ·rw[nM cXe];cbv;rw[iZU];by_cases so:c.toNat=60
           ·have hf:=iM (by rw[so];decide);rw[kS so];cbv;exact hf
           ·rw[nM so];cbv;rw[iZS];by_cases Zf:c.toNat=62
            ·have hf:=iM (by rw[Zf];decide);rw[kS Zf];cbv;exact hf
            ·rw[nM Zf];cbv;rw[iZY];by_cases cXi:c.toNat=43
             ·have hf:=iM (by rw[cXi];decide);rw[kS cXi];cbv;exact hf
             ·rw[nM cXi];cbv;rw[iZW];by_cases cXg:c.toNat=45
              ·have hf:=iM (by rw[cXg];decide);rw[kS cXg];cbv;exact hf
              ·rw[nM cXg];cbv;have hf:=gK (by unfold ns;simp only[mJK,mJJ,mJI,mJa,beq_eq_false_iff_ne,ne_eq];exact⟨Im,cXk,cXh,cXf,cXj,cXe,so,Zf,cXi,cXg⟩);exact hf
theorem OW:∀(t:By) (n v:Int) (rest:By),nG t n=((v,rest),0)->rest.length<=t.length
 | [],n,v,rest,h=>by cases h;exact mQt _
 |c::r,n,v,rest,h=>by
  have h1:(match fq c with
   |true=>if n>(9223372036854775807-((c.toNat:Int)-48)) / 10 then((0,[]),11)else nG r (10*n+((c.toNat:Int)-48))
   |false=>((n,c::r),0))=((v,rest),(0:Int)):=h
  cases hd:fq c with
  |false=>rw[hd]at h1;cases h1;exact mQt _
  |true=>
   rw[hd]at h1;replace h1:(if n>(9223372036854775807-((c.toNat:Int)-48)) / 10 then((0,[]),11)else nG r (10*n+((c.toNat:Int)-48)))=((v,rest),(0:Int)):=h1;split at h1
   ·cases h1
   ·have:=OW r _ _ _ h1;rw[mQx];omega
theorem Yp{c:UInt8}{r:By}{n v:Int}{rest:By}(hd:fq c=true)(h:nG (c::r) n=((v,rest),0)):rest.length<=r.length:=by
 have h1:(match fq c with
  |true=>if n>(9223372036854775807-((c.toNat:Int)-48)) / 10 then((0,[]),11)else nG r (10*n+((c.toNat:Int)-48))
  |false=>((n,c::r),0))=((v,rest),(0:Int)):=h
 rw[hd]at h1;replace h1:(if n>(9223372036854775807-((c.toNat:Int)-48)) / 10 then((0,[]),11)else nG r (10*n+((c.toNat:Int)-48)))=((v,rest),(0:Int)):=h1;split at h1
 ·cases h1
 ·exact OW r _ _ _ h1
theorem DM:∀(m:Nat) (t acc v rest:By),t.length<=m->iH t acc=((v,rest),0)->rest.length<=t.length
 |_,[],acc,v,rest,_,h=>by cases h
 |0,c::r,acc,v,rest,hm,h=>by rw[mQx]at hm;omega
 |m+1,c::r,acc,v,rest,hm,h=>by
  rw[mQx]at hm |-;rw[GF]at h;cases hc:decide (c.toNat=39)with
  |false=>rw[hc]at h;have:=DM m r _ v rest (by omega) h;omega
  |true=>
   rw[hc]at h;cases r with
   |nil=>
    replace h:(if acc.length>60 then((([]:By),([]:By)),(5:Int))else((acc,[]),0))=((v,rest),0):=h;split at h
    ·cases h
    ·cases h;exact mQr _
   |cons d r'=>
    replace h:(match decide (d.toNat=39)with
     |true=>iH r' (acc++[39])
     |false=>if acc.length>60 then((([]:By),([]:By)),(5:Int))else((acc,d::r'),0))=((v,rest),0):=h
    rw[mQx]at hm |-;cases hd:decide (d.toNat=39)with
    |true=>rw[hd]at h;have:=DM m r' _ v rest (by omega) h;omega
    |false=>
     rw[hd]at h;replace h:(if acc.length>60 then((([]:By),([]:By)),(5:Int))else((acc,d::r'),0))=((v,rest),0):=h;split at h
     ·cases h
     ·cases h;rw[mQx];omega
theorem Pf{c:UInt8}{r:By}(h:isLet c=true):1<=eU (c::r):=by
 show 1<=(match uN c with|true=>eU r+1|false=>0);have:uN c=true:=by unfold uN;rw[h];rfl
 rw[this];exact Nat.succ_le_succ (mQr _)
theorem So(c:UInt8)(r:By):mf (c::r)<=(c::r).length:=by
 cases r with
 |nil=>show(if ns.contains c.toNat then 1 else 0)<=1;split<;>omega
 |cons d r'=>
  show(if Jk c d then 2 else if ns.contains c.toNat then 1 else 0)<=r'.length+1+1;split
  ·omega
  ·split<;>omega
theorem bKC{s:ByteArray}(hs:s.size<=600){i:Nat}{c:UInt8}{r:By}(q:Av s i (c::r)){z:Int}(hz:aS z i){h:ad}{k:Value->ad->Prop}
 (hk:∀w z' e rest,ll c r=((w,rest),e)->(e=0->∃j,aS z' j/\Av s j rest/\rest.length<=r.length)->k (.tuple #[.agg #[.int .i64 w.k,.int .i64 w.n,.string w.s],.int .i64 z',.int .i64 e]) h):
 Ct 119 [.string s,.int .i64 z] h k:=by
 obtain⟨A,hA⟩:=Ar.ex;have hl:=q.len;rw[mQx]at hl;have cJ:0<=z/\z<(s.size:Int):=hz.ix (by omega);obtain⟨b,hb⟩:∃b,A .byte s z=b:=⟨_,rfl⟩;have yW:b=(c.toNat:Int):=by rw[<-hb];exact q.byte hz
 have f39:A .aI .eql b 39=decide (c.toNat=39):=by rw[aA A,decide_eq_decide,yW];omega
 have cZ:=hz.succ (A:=A) (by omega);have Al:ll c r=match isLet c with
  |true=>((⟨1,0,aM ((c::r).take (eU (c::r)))⟩,(c::r).drop (eU (c::r))),0)
  |false=>match fq c with
   |true=>match nG (c::r) 0 with
    | (p,e)=>((⟨2,p.1,aM []⟩,p.2),e)
   |false=>match decide (c.toNat=39)with
    |true=>match iH r []with
     | (p,e)=>((⟨3,0,aM p.1⟩,p.2),e)
    |false=>match mf (c::r)with
     |0=>((⟨0,0,aM []⟩,[]),6)
     |n+1=>((Gw ((c::r).take (n+1)),(c::r).drop (n+1)),0):=rfl
 have cKm:isLet c=true->1<=eU (c::r):=Pf;have kKM:∀v rest,fq c=true->nG (c::r) 0=((v,rest),0)->rest.length<=r.length:=fun v rest hd h=>Yp hd h;have q1:=q.next;refine ah A (ax gZa.aK gZa.bF) Tryz.func119 rfl (by kernel_rfl) ?_;cbv;refine⟨cJ,?_⟩;cbv;rw[hb];refine VO yW ?_;generalize isLet c=u1 at *;cases u1 with
 |true=>
  have cKm:=cKm rfl;have hle:=HA (c::r);cbv;refine bKE hs q hz (fun z2 dL=>?_);have eM:A .sub s z z2=aM ((c::r).take (eU (c::r))):=q.sub hz dL;obtain⟨sb,KF⟩:∃sb,aM ((c::r).take (eU (c::r)))=sb:=⟨_,rfl⟩;rw[mQx]at hle;have TV:0<=z2/\z2<=(s.size:Int)/\0<=z/\z<=z2:=by have h1:=dL.eq;have h2:=hz.eq;omega
  have af:=hk ⟨1,0,aM ((c::r).take (eU (c::r)))⟩ z2 0 _ Al (fun _=>⟨_,dL,q.dQe (by rw[mQx];omega),by rw[mQX,mQx];omega⟩);rw[KF]at eM af;cbv;refine⟨TV,?_⟩;cbv;rw[eM];exact af
 |false=>
  replace Al:ll c r=match fq c with
   |true=>match nG (c::r) 0 with
    | (p,e)=>((⟨2,p.1,aM []⟩,p.2),e)
   |false=>match decide (c.toNat=39)with
    |true=>match iH r []with
     | (p,e)=>((⟨3,0,aM p.1⟩,p.2),e)
    |false=>match mf (c::r)with
     |0=>((⟨0,0,aM []⟩,[]),6)
     |n+1=>((Gw ((c::r).take (n+1)),(c::r).drop (n+1)),0):=Al
  cbv;refine Uz yW ?_;generalize fq c=u2 at *;cases u2 with
  |true=>
   replace Al:ll c r=match nG (c::r) 0 with
    | (p,e)=>((⟨2,p.1,aM []⟩,p.2),e):=Al
   cbv;refine dZA hs q hz (fun v z2 e rest he dL=>?_);rw[he]at Al;have af:=hk ⟨2,v,aM []⟩ z2 e rest Al (fun h0=>by
    obtain⟨j,h1,h2⟩:=dL h0;subst h0;exact⟨j,h1,h2,kKM v rest rfl he⟩)
   cbv;exact af
  |false=>
   replace Al:ll c r=match decide (c.toNat=39)with
    |true=>match iH r []with
     | (p,e)=>((⟨3,0,aM p.1⟩,p.2),e)
    |false=>match mf (c::r)with
     |0=>((⟨0,0,aM []⟩,[]),6)
     |n+1=>((Gw ((c::r).take (n+1)),(c::r).drop (n+1)),0):=Al
   cbv;rw[f39];clear f39;generalize decide (c.toNat=39)=u3 at *;cases u3 with
   |true=>
    replace Al:ll c r=match iH r []with
     | (p,e)=>((⟨3,0,aM p.1⟩,p.2),e):=Al
    cbv;refine bJu hs q1 cZ (fun v z2 e rest he dL=>?_);rw[he]at Al;have af:=hk ⟨3,0,aM v⟩ z2 e rest Al (fun h0=>by
     obtain⟨j,h1,h2⟩:=dL h0;subst h0;exact⟨j,h1,h2,DM _ r [] v rest (mQt _) he⟩)
    obtain⟨vb,gJL⟩:∃vb,aM v=vb:=⟨_,rfl⟩;rw[gJL]at af |-;cbv;exact af
   |false=>
    replace Al:ll c r=match mf (c::r)with
     |0=>((⟨0,0,aM []⟩,[]),6)
     |n+1=>((Gw ((c::r).take (n+1)),(c::r).drop (n+1)),0):=Al
    have wC:=So c r;cbv;refine bJY hs q hz ?_;generalize mf (c::r)=sl at *;cases sl with
    |zero=>
     have f0:A .iQ .eql ⟨#[]⟩ ⟨#[]⟩=true:=by rw[cS A];exact kS rfl
     have af:=hk ⟨0,0,aM []⟩ 0 6 [] Al (fun h=>absurd h (by decide));cbv;rw[f0];cbv;exact af
    |succ n=>
     replace Al:ll c r=((Gw ((c::r).take (n+1)),(c::r).drop (n+1)),0):=Al;rw[mQx]at wC;have hlen:(aM ((c::r).take (n+1))).size=n+1:=by rw[ep,mQw,mQx];omega
     obtain⟨sb,KF⟩:∃sb,aM ((c::r).take (n+1))=sb:=⟨_,rfl⟩;rw[KF]at hlen |-;have f0:A .iQ .eql sb ⟨#[]⟩=false:=by rw[cS A];refine nM (fun e=>?_);rw[e]at hlen;have:(⟨#[]⟩:ByteArray).size=0:=rfl;omega
     have Wc:aS (A .jO sb) (n+1):=⟨by rw[hA.jO];show(sb.size:Int)=_;rw[hlen]⟩;obtain⟨z2,dL⟩:∃z2,A .bB .add .i64 z (A .jO sb)=z2:=⟨_,rfl⟩;have mY:aS z2 (i+(n+1)):=by rw[<-dL];exact hz.add Wc (by omega)
     have af:=hk (Gw ((c::r).take (n+1))) z2 0 _ Al (fun _=>⟨_,mY,q.dQe (by rw[mQx];omega),by rw[mQX,mQx];omega⟩);have af:k (.tuple #[.agg #[.int .i64 4,.int .i64 0,.string (aM ((c::r).take (n+1)))],.int .i64 z2,.int .i64 0]) h:=af;rw[KF]at af;cbv;rw[f0];cbv;rw[dL];exact af
theorem YA{k:Nat}{c:UInt8}{r:By}{l:List Wd}:nK (k+1) (c::r) l=match Ck c with
 |true=>nK k r l
 |false=>match ll c r with
  | (p,e)=>if e=0 then nK k p.2 (l++[p.1])else([],e):=rfl
theorem aQO{s:ByteArray}{h:ad}{k:Value->ad->Prop}
 (hk:∀h' b n c ws e,iq s=(ws,e)->Le h h'->(e=0->JK ws/\Sl 139 DQ h' (.slice b n c) ws/\ws.length<=601)->k (.tuple #[.slice b n c,.int .i64 e]) h'):
 Ct 54 [.string s] h k:=by
 obtain⟨A,hA⟩:=Ar.ex;have Wc:A .jO s=(s.size:Int):=by rw[hA.jO]
 have Cv:aS (A .jO s) s.size:=⟨Wc⟩;have f1:A .aI .gtr (A .jO s) 600=decide (s.size>600):=by rw[bO A,Wc,decide_eq_decide];omega
 have hw:iq s=if s.size>600 then([],5)else nK (s.size+1) s.data.toList []:=rfl
 refine ah A (ax jKy.aK jKy.bF) Tryz.func54 rfl (by kernel_rfl) ?_;cbv;rw[f1];by_cases h6:s.size>600
 ·rw[if_pos h6]at hw;have af:=hk h none 0 0 [] 5 hw (Le.refl _) (fun e=>absurd e (by decide));rw[kS h6];cbv;exact af
 ·rw[if_neg h6]at hw;have hs:s.size<=600:=by omega
  obtain⟨R,hR⟩:∃R,nK (s.size+1) s.data.toList []=R:=⟨_,rfl⟩;rw[hR]at hw;obtain⟨I,aY⟩:∃I:Nat->Int×(Option Addr×Nat×Nat)->ad->Prop,∀m g h',I m g h'=∃j t l,aS g.1 j/\Av s j t/\cF 139 DQ h h' (.slice g.2.1 g.2.2.1 g.2.2.2) l/\l.length<=j/\Le h h'/\m=t.length/\(∃fu,t.length<fu/\nK fu t l=R):=⟨_,fun _ _ _=>rfl⟩;have fXr:=Av.start s;have vN:=fXr.len;have hJ:I s.size (0,none,0,0) h:=by rw[aY];exact⟨0,_,[],⟨rfl⟩,fXr,cF.nil,mQt _,Le.refl _,by omega,_,by omega,hR⟩
  clear hR fXr vN;rw[nM h6];cbv;refine aX.go (G:=Int×(Option Addr×Nat×Nat)) (fun g=>[(5,.v (.int .i64 g.1)),(4,.v (.slice g.2.1 g.2.2.1 g.2.2.2))]) (fun _=>[]) (fun m g h'=>I m g h') s.size (0,none,0,0) ⟨?_,?_,?_⟩ hJ ?_
  ·cbv
  ·cbv
  ·cbv
  ·intro m g h1 hI;rw[aY]at hI;cbv;obtain⟨j,t,l,hg,q,ba,KM,l1,hm,fu,dKx,he⟩:=hI;obtain⟨z,ab,an,ac⟩:=g;have hg:aS z j:=hg;have ba:cF 139 DQ h h1 (.slice ab an ac) l:=ba;have RM:=ba.sl.len;have hl:=q.len;have f2:A .aI .lss z (A .jO s)=decide (j<s.size):=hg.iJ Cv;obtain⟨fu,rfl⟩:∃Qx,fu=Qx+1:=⟨fu-1,by omega⟩;rw[f2];cases t with
   |nil=>
    have aP:¬j<s.size:=by have:([]:By).length=0:=rfl;omega
    have he:(l++[dQW],0)=R:=he;rw[<-he]at hw;rw[nM aP];clear aY hJ he;cbv;intro n2 h2 g2 e2;have l2:Le h1 h2:=by rw[e2];exact Le.set g2
    have v2:Sl 139 DQ h2 (.slice (some ⟨n2,0,none⟩) 1 1) [dQW]:=bA (s:=DQ) ((congrFun e2 n2).trans ae) rfl;cbv;refine(ba.mono (l2.t _)).append v2 (by decide) rfl (by decide) (by omega) (l1.trans l2) (fun m3 b3 c3 h3 eQE l3 t3 k3 ry=>?_);have af:=hk h3 b3 m3 c3 _ 0 hw l3 (fun _=>⟨⟨l,rfl⟩,ry.sl,by rw[nX,mQu];omega⟩);cbv;exact af
   |cons c r=>
    have tW:(c::r).length=r.length+1:=rfl;have aP:j<s.size:=by omega
    have cJ:0<=z/\z<(s.size:Int):=hg.ix aP;obtain⟨b,hb⟩:∃b,A .byte s z=b:=⟨_,rfl⟩;have yW:b=(c.toNat:Int):=by rw[<-hb];exact q.byte hg
    have jZO:A .aI .eql b 32=decide (c.toNat=32):=by rw[aA A,decide_eq_decide,yW];omega
    have g9:A .aI .eql b 9=decide (c.toNat=9):=by rw[aA A,decide_eq_decide,yW];omega
    have CO:A .aI .eql b 10=decide (c.toNat=10):=by rw[aA A,decide_eq_decide,yW];omega
    have Ap:Ck c=(decide (c.toNat=32)||decide (c.toNat=9)||decide (c.toNat=10)):=rfl;have cZ:=hg.succ (A:=A) (by omega);have hq:=q.next;rw[YA]at he;have iV:r.length<m:=by omega
    have tY:Ck c=true->I r.length (A .bB .add .i64 z 1,ab,an,ac) h1:=fun e=>by
     rw[aY];rw[e]at he;exact⟨j+1,r,l,cZ,hq,ba,by omega,l1,rfl,fu,by omega,he⟩
    rw[kS aP];cbv;refine⟨cJ,?_⟩;cbv;rw[hb,jZO];clear jZO;generalize decide (c.toNat=32)=u1 at *;cases u1 with
    |true=>
     have tY:=tY (by rw[Ap];rfl);clear aY hJ hk he;cbv;refine⟨r.length,(_,_,_,_),iV,⟨?_,?_,?_⟩,tY⟩
     ·cbv
     ·cbv
     ·cbv
    |false=>
     cbv;refine⟨cJ,?_⟩;cbv;rw[hb,g9];clear g9;generalize decide (c.toNat=9)=u2 at *;cases u2 with
     |true=>
      have tY:=tY (by rw[Ap];rfl);clear aY hJ hk he;cbv;refine⟨r.length,(_,_,_,_),iV,⟨?_,?_,?_⟩,tY⟩
      ·cbv
      ·cbv
      ·cbv
     |false=>
      cbv;refine⟨cJ,?_⟩;cbv;rw[hb,CO];clear CO;generalize decide (c.toNat=10)=u3 at *;cases u3 with
      |true=>
       have tY:=tY (by rw[Ap];rfl);clear aY hJ hk he;cbv;refine⟨r.length,(_,_,_,_),iV,⟨?_,?_,?_⟩,tY⟩
       ·cbv
       ·cbv
       ·cbv
      |false=>
       have fZn:Ck c=false:=by rw[Ap];rfl
       rw[fZn]at he;replace he:(match ll c r with
        | (p,e)=>if e=0 then nK fu p.2 (l++[p.1])else([],e))=R:=he
       clear tY Ap fZn;cbv;refine bKC hs q hg (fun w z2 e rest ch dL=>?_);rw[ch]at he;replace he:(if e=0 then nK fu rest (l++[w])else([],e))=R:=he;have f5:A .aI .neq e 0=decide (e≠0):=aC A ..;cbv;rw[f5];by_cases h0:e=0
       ·rw[if_pos h0]at he;obtain⟨j2,mY,q2,aKo⟩:=dL h0;have kJP:=q2.len;have Cw:rest.length<m:=by omega
        have cD:∀b3 m3 c3 h3,cF 139 DQ h h3 (.slice b3 m3 c3) (l++[w])->Le h h3->I rest.length (z2,b3,m3,c3) h3:=fun b3 m3 c3 h3 ry l3=>by
         rw[aY];exact⟨j2,rest,_,mY,q2,ry,by rw[nX,mQu];omega,l3,rfl,fu,by omega,he⟩
        rw[nM (by simpa using h0)];clear aY hJ hk he dL ch f5 f2 f1;cbv;intro n2 h2 g2 e2;have l2:Le h1 h2:=by rw[e2];exact Le.set g2
        have v2:Sl 139 DQ h2 (.slice (some ⟨n2,0,none⟩) 1 1) [w]:=bA (s:=DQ) ((congrFun e2 n2).trans ae) rfl;cbv;refine(ba.mono (l2.t _)).append v2 (by decide) rfl (by decide) (by omega) (l1.trans l2) (fun m3 b3 c3 h3 eQE l3 t3 k3 ry=>?_);have jd:=cD b3 m3 c3 h3 ry l3;clear cD t3 k3 ry;cbv;refine⟨rest.length,(_,_,_,_),Cw,⟨?_,?_,?_⟩,jd⟩
        ·cbv
        ·cbv
        ·cbv
       ·rw[if_neg h0]at he;rw[<-he]at hw;have af:=hk h1 none 0 0 [] e hw l1 (fun h=>absurd h h0);rw[kS h0];cbv;exact af
theorem eJO{h:ad}{pb:Nat}{s:PS}(hp:PT h pb s)(DC:(s.is (aM [99,114,101,97,116,101])).1=false){k:Value->ad->Prop}
 (hk:∀h' st s' v,s.stmt ao=((st,b0),s')->PT h' pb s'->vq pb h h'->aQG h' v st->s'.ws.length<=s.ws.length->st.kind≠1->k (.tuple #[v,.string ⟨#[]⟩]) h'):
 Ct 55 [.pointer (some ⟨pb,0,none⟩)] h k:=by
 obtain⟨A,hA⟩:=Ar.ex;obtain⟨D,hD⟩:∃D,s.stmt ao=D:=⟨_,rfl⟩;have hm:=hD;rw[hD]at hk;clear hD;unfold PS.stmt at hm;refine ah A (ax jKx.aK jKx.bF) Tryz.func55 rfl (by kernel_rfl) ?_;cbv;refine HP hp (aM [99,114,101,97,116,101]) (fun h1 t s1 e1 p1 l1 ji mK=>?_);rw[e1]at DC;replace DC:t=false:=DC;subst DC;obtain⟨jE,iW⟩:=mK rfl;replace jE:=jE.symm;replace iW:=iW.symm;subst jE iW;have kV:=e1;clear e1 ji mK p1 l1;cbv;refine HP hp (aM [100,114,111,112]) (fun h1 t s1 e1 p1 l1 ji mK=>?_);cases t with
 |true=>have ji:=ji rfl;have eo:s.eQ [((aM [99,114,101,97,116,101]),1),((aM [100,114,111,112]),2),((aM [105,110,115,101,114,116]),3),((aM [117,112,100,97,116,101]),4),((aM [100,101,108,101,116,101]),5),((aM [115,101,108,101,99,116]),6),((aM [98,101,103,105,110]),7),((aM [99,111,109,109,105,116]),8),((aM [115,97,118,101,112,111,105,110,116]),10),((aM [114,111,108,108,98,97,99,107]),9)]=(some 2,s1):=(bE kV).trans (iS e1);rw[eo]at hm;replace hm:((({ kind:=2,table:=((s1.cd [(aM [116,97,98,108,101])]).name ao).1 }:aJ),b0),((s1.cd [(aM [116,97,98,108,101])]).name ao).2)=D:=hm;cbv;intro n2 h2 g2 e2;refine nH p1 g2 [(aM [116,97,98,108,101])] e2 rfl (by decide) (fun h3 s3 e3 p3 l3 w3=>?_);rw[e3]at hm;cbv;refine Ae p3 (fun h4 tb s4 e4 p4 l4 w4 z4=>?_);rw[e4]at hm;have af:=fun v q=>hk h4 ({ kind:=2,table:=tb }:aJ) s4 v hm.symm p4 ((l1.trans l3).trans l4) q (by omega) (by simp);have af:=af _ ⟨none,0,0,none,0,0,none,0,0,none,0,0,none,0,0,none,0,0,rfl,Sl.nil,Sl.nil,Sl.nil,Sl.nil,Sl.nil,Sl.nil⟩;cbv;exact af
 |false=>
  obtain⟨jE,iW⟩:=mK rfl;replace jE:=jE.symm;replace iW:=iW.symm;subst jE iW;have rf:=e1;clear e1 ji mK p1 l1;cbv;refine HP hp (aM [105,110,115,101,114,116]) (fun h1 t s1 e1 p1 l1 ji mK=>?_);cases t with
  |true=>
   have ji:=ji rfl;have eo:s.eQ [((aM [99,114,101,97,116,101]),1),((aM [100,114,111,112]),2),((aM [105,110,115,101,114,116]),3),((aM [117,112,100,97,116,101]),4),((aM [100,101,108,101,116,101]),5),((aM [115,101,108,101,99,116]),6),((aM [98,101,103,105,110]),7),((aM [99,111,109,109,105,116]),8),((aM [115,97,118,101,112,111,105,110,116]),10),((aM [114,111,108,108,98,97,99,107]),9)]=(some 3,s1):=(bE kV).trans ((bE rf).trans (iS e1));rw[eo]at hm;replace hm:(((s1.insert ao).1,b0),(s1.insert ao).2)=D:=hm;cbv;refine cQe p1 (fun h2 st s2 v e2 p2 l2 q2 w2=>?_);rw[e2]at hm;have kC:(s1.insert ao).1.kind≠1:=by show(3:Int)≠1;decide
   rw[e2]at kC;have af:=hk h2 st s2 v hm.symm p2 (l1.trans l2) q2 (by omega) kC;obtain⟨b1,n1,c1,b2,n2,c2,b3,n3,c3,b4,n4,c4,b5,n5,c5,b6,n6,c6,rfl,-⟩:=q2.out;cbv;exact af
  |false=>
   obtain⟨jE,iW⟩:=mK rfl;replace jE:=jE.symm;replace iW:=iW.symm;subst jE iW;have JH:=e1;clear e1 ji mK p1 l1;cbv;refine HP hp (aM [117,112,100,97,116,101]) (fun h1 t s1 e1 p1 l1 ji mK=>?_);cases t with
   |true=>
    have ji:=ji rfl;have eo:s.eQ [((aM [99,114,101,97,116,101]),1),((aM [100,114,111,112]),2),((aM [105,110,115,101,114,116]),3),((aM [117,112,100,97,116,101]),4),((aM [100,101,108,101,116,101]),5),((aM [115,101,108,101,99,116]),6),((aM [98,101,103,105,110]),7),((aM [99,111,109,109,105,116]),8),((aM [115,97,118,101,112,111,105,110,116]),10),((aM [114,111,108,108,98,97,99,107]),9)]=(some 4,s1):=(bE kV).trans ((bE rf).trans ((bE JH).trans (iS e1)));rw[eo]at hm;replace hm:(((s1.update ao).1,b0),(s1.update ao).2)=D:=hm;cbv;refine bJp p1 (fun h2 st s2 v e2 p2 l2 q2 w2=>?_);rw[e2]at hm;have kC:(s1.update ao).1.kind≠1:=by show(4:Int)≠1;decide
    rw[e2]at kC;have af:=hk h2 st s2 v hm.symm p2 (l1.trans l2) q2 (by omega) kC;obtain⟨b1,n1,c1,b2,n2,c2,b3,n3,c3,b4,n4,c4,b5,n5,c5,b6,n6,c6,rfl,-⟩:=q2.out;cbv;exact af
   |false=>
    obtain⟨jE,iW⟩:=mK rfl;replace jE:=jE.symm;replace iW:=iW.symm;subst jE iW;have bJc:=e1;clear e1 ji mK p1 l1;cbv;refine HP hp (aM [100,101,108,101,116,101]) (fun h1 t s1 e1 p1 l1 ji mK=>?_);cases t with
    |true=>have ji:=ji rfl;have eo:s.eQ [((aM [99,114,101,97,116,101]),1),((aM [100,114,111,112]),2),((aM [105,110,115,101,114,116]),3),((aM [117,112,100,97,116,101]),4),((aM [100,101,108,101,116,101]),5),((aM [115,101,108,101,99,116]),6),((aM [98,101,103,105,110]),7),((aM [99,111,109,109,105,116]),8),((aM [115,97,118,101,112,111,105,110,116]),10),((aM [114,111,108,108,98,97,99,107]),9)]=(some 5,s1):=(bE kV).trans ((bE rf).trans ((bE JH).trans ((bE bJc).trans (iS e1))));rw[eo]at hm;replace hm:((({ kind:=5,table:=((s1.cd [(aM [102,114,111,109])]).name ao).1,bV:=(((s1.cd [(aM [102,114,111,109])]).name ao).2.bV ao).1 }:aJ),b0),(((s1.cd [(aM [102,114,111,109])]).name ao).2.bV ao).2)=D:=hm;cbv;intro n2 h2 g2 e2;refine nH p1 g2 [(aM [102,114,111,109])] e2 rfl (by decide) (fun h3 s3 e3 p3 l3 w3=>?_);rw[e3]at hm;cbv;refine Ae p3 (fun h4 tb s4 e4 p4 l4 w4 z4=>?_);rw[e4]at hm;cbv;refine RU p4 (fun h5 wb wn wc wh s5 e5 z5 p5 l5 q5 w5=>?_);replace hm:((({ kind:=5,table:=tb,bV:=(s4.bV ao).1 }:aJ),b0),(s4.bV ao).2)=D:=hm;rw[e5]at hm;have af:=fun v q=>hk h5 ({ kind:=5,table:=tb,bV:=wh }:aJ) s5 v hm.symm p5 (((l1.trans l3).trans l4).trans l5) q (by omega) (by simp);have af:=af _ ⟨none,0,0,none,0,0,none,0,0,none,0,0,none,0,0,wb,wn,wc,rfl,Sl.nil,Sl.nil,Sl.nil,Sl.nil,Sl.nil,q5⟩;cbv;exact af
    |false=>
     obtain⟨jE,iW⟩:=mK rfl;replace jE:=jE.symm;replace iW:=iW.symm;subst jE iW;have eZX:=e1;clear e1 ji mK p1 l1;cbv;refine HP hp (aM [115,101,108,101,99,116]) (fun h1 t s1 e1 p1 l1 ji mK=>?_);cases t with
     |true=>
      have ji:=ji rfl;have eo:s.eQ [((aM [99,114,101,97,116,101]),1),((aM [100,114,111,112]),2),((aM [105,110,115,101,114,116]),3),((aM [117,112,100,97,116,101]),4),((aM [100,101,108,101,116,101]),5),((aM [115,101,108,101,99,116]),6),((aM [98,101,103,105,110]),7),((aM [99,111,109,109,105,116]),8),((aM [115,97,118,101,112,111,105,110,116]),10),((aM [114,111,108,108,98,97,99,107]),9)]=(some 6,s1):=(bE kV).trans ((bE rf).trans ((bE JH).trans ((bE bJc).trans ((bE eZX).trans (iS e1)))));rw[eo]at hm;replace hm:(((s1.choose ao).1,b0),(s1.choose ao).2)=D:=hm;cbv;refine cZg p1 (fun h2 st s2 v e2 p2 l2 q2 w2=>?_);rw[e2]at hm;have kC:(s1.choose ao).1.kind≠1:=by show(6:Int)≠1;decide
      rw[e2]at kC;have af:=hk h2 st s2 v hm.symm p2 (l1.trans l2) q2 (by omega) kC;obtain⟨b1,n1,c1,b2,n2,c2,b3,n3,c3,b4,n4,c4,b5,n5,c5,b6,n6,c6,rfl,-⟩:=q2.out;cbv;exact af
     |false=>
      obtain⟨jE,iW⟩:=mK rfl;replace jE:=jE.symm;replace iW:=iW.symm;subst jE iW;have fJt:=e1;clear e1 ji mK p1 l1;cbv;refine HP hp (aM [98,101,103,105,110]) (fun h1 t s1 e1 p1 l1 ji mK=>?_);cases t with
      |true=>
       have ji:=ji rfl;have eo:s.eQ [((aM [99,114,101,97,116,101]),1),((aM [100,114,111,112]),2),((aM [105,110,115,101,114,116]),3),((aM [117,112,100,97,116,101]),4),((aM [100,101,108,101,116,101]),5),((aM [115,101,108,101,99,116]),6),((aM [98,101,103,105,110]),7),((aM [99,111,109,109,105,116]),8),((aM [115,97,118,101,112,111,105,110,116]),10),((aM [114,111,108,108,98,97,99,107]),9)]=(some 7,s1):=(bE kV).trans ((bE rf).trans ((bE JH).trans ((bE bJc).trans ((bE eZX).trans ((bE fJt).trans (iS e1))))));rw[eo]at hm;replace hm:(({ kind:=7 }:aJ),b0,s1)=(D.1.1,D.1.2,D.2):=by rw[<-hm];rfl
       replace hm:((({ kind:=7 }:aJ),b0),s1)=D:=by obtain⟨⟨d1,d2⟩,d3⟩:=D;cases hm;rfl
       have af:=fun v q=>hk h1 ({ kind:=7 }:aJ) s1 v hm.symm p1 l1 q (by omega) (by simp);have af:=af _ ⟨none,0,0,none,0,0,none,0,0,none,0,0,none,0,0,none,0,0,rfl,Sl.nil,Sl.nil,Sl.nil,Sl.nil,Sl.nil,Sl.nil⟩;cbv;exact af
      |false=>
       obtain⟨jE,iW⟩:=mK rfl;replace jE:=jE.symm;replace iW:=iW.symm;subst jE iW;have gKH:=e1;clear e1 ji mK p1 l1;cbv;refine HP hp (aM [99,111,109,109,105,116]) (fun h1 t s1 e1 p1 l1 ji mK=>?_);cases t with
       |true=>
        have ji:=ji rfl;have eo:s.eQ [((aM [99,114,101,97,116,101]),1),((aM [100,114,111,112]),2),((aM [105,110,115,101,114,116]),3),((aM [117,112,100,97,116,101]),4),((aM [100,101,108,101,116,101]),5),((aM [115,101,108,101,99,116]),6),((aM [98,101,103,105,110]),7),((aM [99,111,109,109,105,116]),8),((aM [115,97,118,101,112,111,105,110,116]),10),((aM [114,111,108,108,98,97,99,107]),9)]=(some 8,s1):=(bE kV).trans ((bE rf).trans ((bE JH).trans ((bE bJc).trans ((bE eZX).trans ((bE fJt).trans ((bE gKH).trans (iS e1)))))));rw[eo]at hm;replace hm:(({ kind:=8 }:aJ),b0,s1)=(D.1.1,D.1.2,D.2):=by rw[<-hm];rfl
        replace hm:((({ kind:=8 }:aJ),b0),s1)=D:=by obtain⟨⟨d1,d2⟩,d3⟩:=D;cases hm;rfl
        have af:=fun v q=>hk h1 ({ kind:=8 }:aJ) s1 v hm.symm p1 l1 q (by omega) (by simp);have af:=af _ ⟨none,0,0,none,0,0,none,0,0,none,0,0,none,0,0,none,0,0,rfl,Sl.nil,Sl.nil,Sl.nil,Sl.nil,Sl.nil,Sl.nil⟩;cbv;exact af
       |false=>
        obtain⟨jE,iW⟩:=mK rfl;replace jE:=jE.symm;replace iW:=iW.symm;subst jE iW;have iJI:=e1;clear e1 ji mK p1 l1;cbv;refine HP hp (aM [115,97,118,101,112,111,105,110,116]) (fun h1 t s1 e1 p1 l1 ji mK=>?_);cases t with
        |true=>have ji:=ji rfl;have eo:s.eQ [((aM [99,114,101,97,116,101]),1),((aM [100,114,111,112]),2),((aM [105,110,115,101,114,116]),3),((aM [117,112,100,97,116,101]),4),((aM [100,101,108,101,116,101]),5),((aM [115,101,108,101,99,116]),6),((aM [98,101,103,105,110]),7),((aM [99,111,109,109,105,116]),8),((aM [115,97,118,101,112,111,105,110,116]),10),((aM [114,111,108,108,98,97,99,107]),9)]=(some 10,s1):=(bE kV).trans ((bE rf).trans ((bE JH).trans ((bE bJc).trans ((bE eZX).trans ((bE fJt).trans ((bE gKH).trans ((bE iJI).trans (iS e1))))))));rw[eo]at hm;replace hm:((({ kind:=10,name:=(s1.name ao).1 }:aJ),b0),(s1.name ao).2)=D:=hm;cbv;refine Ae p1 (fun h2 nm s2 e2 p2 l2 w2 z2=>?_);rw[e2]at hm;have af:=fun v q=>hk h2 ({ kind:=10,name:=nm }:aJ) s2 v hm.symm p2 (l1.trans l2) q (by omega) (by simp);have af:=af _ ⟨none,0,0,none,0,0,none,0,0,none,0,0,none,0,0,none,0,0,rfl,Sl.nil,Sl.nil,Sl.nil,Sl.nil,Sl.nil,Sl.nil⟩;cbv;exact af
        |false=>
         obtain⟨jE,iW⟩:=mK rfl;replace jE:=jE.symm;replace iW:=iW.symm;subst jE iW;have dQc:=e1;clear e1 ji mK p1 l1;cbv;refine HP hp (aM [114,111,108,108,98,97,99,107]) (fun h1 t s1 e1 p1 l1 ji mK=>?_);cases t with
         |true=>
          have ji:=ji rfl;have eo:s.eQ [((aM [99,114,101,97,116,101]),1),((aM [100,114,111,112]),2),((aM [105,110,115,101,114,116]),3),((aM [117,112,100,97,116,101]),4),((aM [100,101,108,101,116,101]),5),((aM [115,101,108,101,99,116]),6),((aM [98,101,103,105,110]),7),((aM [99,111,109,109,105,116]),8),((aM [115,97,118,101,112,111,105,110,116]),10),((aM [114,111,108,108,98,97,99,107]),9)]=(some 9,s1):=(bE kV).trans ((bE rf).trans ((bE JH).trans ((bE bJc).trans ((bE eZX).trans ((bE fJt).trans ((bE gKH).trans ((bE iJI).trans ((bE dQc).trans (iS e1)))))))));rw[eo]at hm;replace hm:(match s1.is (aM [116,111])with
           | (true,p)=>((({ kind:=11,name:=(p.name ao).1 }:aJ),b0),(p.name ao).2)
           | (false,p)=>((({ kind:=9 }:aJ),b0),p))=D:=hm
          have kZp:=p1;cbv;refine HP kZp (aM [116,111]) (fun h2 t s2 e2 p2 l2 iJ cJo=>?_);rw[e2]at hm;cases t with
          |true=>have iJ:=iJ rfl;replace hm:((({ kind:=11,name:=(s2.name ao).1 }:aJ),b0),(s2.name ao).2)=D:=hm;cbv;refine Ae p2 (fun h3 nm s3 e3 p3 l3 w3 z3=>?_);rw[e3]at hm;have af:=fun v q=>hk h3 ({ kind:=11,name:=nm }:aJ) s3 v hm.symm p3 ((l1.trans l2).trans l3) q (by omega) (by simp);have af:=af _ ⟨none,0,0,none,0,0,none,0,0,none,0,0,none,0,0,none,0,0,rfl,Sl.nil,Sl.nil,Sl.nil,Sl.nil,Sl.nil,Sl.nil⟩;cbv;exact af
          |false=>replace hm:((({ kind:=9 }:aJ),b0),s2)=D:=hm;have af:=fun v q=>hk h2 ({ kind:=9 }:aJ) s2 v hm.symm p2 (l1.trans l2) q (by rw[(cJo rfl).1];omega) (by simp);have af:=af _ ⟨none,0,0,none,0,0,none,0,0,none,0,0,none,0,0,none,0,0,rfl,Sl.nil,Sl.nil,Sl.nil,Sl.nil,Sl.nil,Sl.nil⟩;cbv;exact af
         |false=>obtain⟨jE,iW⟩:=mK rfl;replace jE:=jE.symm;replace iW:=iW.symm;subst jE iW;have JG:=e1;clear e1 ji mK p1 l1;cbv;have eo:s.eQ [((aM [99,114,101,97,116,101]),1),((aM [100,114,111,112]),2),((aM [105,110,115,101,114,116]),3),((aM [117,112,100,97,116,101]),4),((aM [100,101,108,101,116,101]),5),((aM [115,101,108,101,99,116]),6),((aM [98,101,103,105,110]),7),((aM [99,111,109,109,105,116]),8),((aM [115,97,118,101,112,111,105,110,116]),10),((aM [114,111,108,108,98,97,99,107]),9)]=(none,s):=(bE kV).trans ((bE rf).trans ((bE JH).trans ((bE bJc).trans ((bE eZX).trans ((bE fJt).trans ((bE gKH).trans ((bE iJI).trans ((bE dQc).trans (bE JG)))))))));rw[eo]at hm;replace hm:((({}:aJ),b0),s.fail 6)=D:=hm;refine WE hp 6 (fun h1 p1 l1=>?_);have af:=fun v q=>hk h1 ({}:aJ) (s.fail 6) v hm.symm p1 l1 q (by rw[PS.CT];exact mQt _) (by simp);have af:=af _ ⟨none,0,0,none,0,0,none,0,0,none,0,0,none,0,0,none,0,0,rfl,Sl.nil,Sl.nil,Sl.nil,Sl.nil,Sl.nil,Sl.nil⟩;cbv;exact af
def bJ(t:ByteArray):Bool:=match (iq t).1 with
 |w::_=> !(decide (w.s=aM [99,114,101,97,116,101]))
 | []=>true
theorem Pb{t:ByteArray}(h:bJ t=true){ws:List Wd}{e:Int}(hw:iq t=(ws,e)):((⟨ws,0,[]⟩:PS).is (aM [99,114,101,97,116,101])).1=false:=by
 unfold bJ at h;rw[hw]at h;cases ws with
 |nil=>rfl
 |cons w r=>
  have h:(!(decide (w.s=aM [99,114,101,97,116,101])))=true:=h;have h2:w.s≠aM [99,114,101,97,116,101]:=by simpa using h
  show(if(0:Int)=0/\(w.k=1\/w.k=4)/\w.s=_ then _ else _:Bool×PS).1=false;rw[if_neg (fun h=>h2 h.2.2)]
theorem aXG{t:ByteArray}{ws r:List Wd}{st:aJ}{w:Wd}{err:Int}{ex:List Nd}(hw:iq t=(ws,0))(e3:PS.stmt ao ⟨ws,0,[]⟩=((st,b0),⟨w::r,err,ex⟩))(kC:st.kind≠1):
 cL ao t=if err=0 then(if w.k≠0 then({},6)else(st,0))else({},err):=by
 unfold cL;simp only[hw,e3];by_cases he:err=0
 ·subst he;by_cases hk:w.k=0
  ·simp[hk,kC]
  ·simp[hk,kC,PS.fail]
 ·simp[he,kC]
theorem UH{t:ByteArray}{h:ad}(DC:bJ t=true){D:aJ×Int}(hD:cL ao t=D){k:Value->ad->Prop}
 (hk:∀h' v,Le h h'->aQG h' v D.1->k (.tuple #[v,.int .i64 D.2]) h'):
 Ct 30 [.string t] h k:=by
 obtain⟨A,hA⟩:=Ar.ex;have hz:∀h' e,Le h h'->D=({},e)->k (.tuple #[.agg #[.int .i64 0,.string ⟨#[]⟩,.slice none 0 0,.int .i64 0,.bool false,.string ⟨#[]⟩,.string ⟨#[]⟩,.slice none 0 0,.slice none 0 0,.slice none 0 0,.slice none 0 0,.slice none 0 0,.string ⟨#[]⟩,.string ⟨#[]⟩,.bool false,.int .i64 0,.string ⟨#[]⟩],.int .i64 e]) h':=fun h' e l he=>by
  subst he;exact hk h' _ l ⟨none,0,0,none,0,0,none,0,0,none,0,0,none,0,0,none,0,0,rfl,Sl.nil,Sl.nil,Sl.nil,Sl.nil,Sl.nil,Sl.nil⟩
 refine ah A (ax jKR.aK jKR.bF) Tryz.func30 rfl (by kernel_rfl) ?_;cbv;refine aQO (fun h1 b n c ws e hw l1 nR=>?_);have PZ:=Pb DC hw;have f1:A .aI .neq e 0=decide (e≠0):=aC A ..;cbv;rw[f1];by_cases h0:e=0
 ·subst h0;obtain⟨lM,qw,Jv⟩:=nR rfl;have fZg:decide ((0:Int)≠0)=false:=rfl;rw[fZg];cbv;intro pb h2 g2 e2;have l2:Le h1 h2:=by rw[e2];exact Le.set g2
  have p2:PT h2 pb ⟨ws,0,[]⟩:=by
   refine⟨⟨b,n,c,none,0,0,0,0,ws,?_,qw.mono (fun b' c' e' fr hm hb=>?_),⟨rfl⟩,rfl,lM,by omega,(fun hh=>by cases hh),Sx.fY h2 pb,Sx.dP h2 pb⟩⟩
   ·rw[e2];exact ae
   ·have ch:b'≠pb:=fun e=>by rw[e,g2]at hb;cases hb
    rw[Sx.cY ch];exact l2 b' _ hb
  cbv;refine eJO p2 PZ (fun h3 st s3 v e3 p3 l3 q3 w3 kC=>?_);have rL:Le h h3:=fun j o hj=>by
   have NL:=l1 j o hj;have ch:j≠pb:=fun e=>by rw[e,g2]at NL;cases NL
   exact l3 j o (by rw[Sx.cY ch];exact l2 j o NL)
  obtain⟨kXp,Us,lKB⟩:=s3;obtain⟨b1,n1,c1,b2,n2,c2,b3,n3,c3,b4,n4,c4,b5,n5,c5,b6,n6,c6,rfl,kZj⟩:=q3.out;refine p3.out.elim (fun wb wn wc eb en ec at_ i all w r g iKX ui dJI dJE hr hi bZx qe=>?_);have g:h3 pb=some (.cells #[.slice wb wn wc,.int .i64 at_,.int .i64 Us,.slice eb en ec] 136 (0,0)):=g;have dJE:kXp=w::r:=dJE;subst dJE;rw[aXG hw e3 kC]at hD;have cJ:wb.isSome=true/\0<=at_/\at_<(wn:Int):=⟨iKX.aT (by omega),ui.ix hi⟩;have cN:=ui.eq;obtain⟨wk,wN,wS⟩:=w;have f2:A .aI .eql Us 0=decide (Us=0):=aA A ..;have f3:A .aI .neq wk 0=decide (wk≠0):=aC A ..;have f4:A .aI .eql st.kind 1=false:=by rw[aA A];exact nM kC
  have f5:A .aI .neq Us 0=decide (Us≠0):=aC A ..;have f6:A .aI .eql 6 0=false:=by rw[aA A];rfl
  have f7:A .aI .neq 6 0=true:=by rw[aC A];rfl
  have nV:∀h' x,Le h h'->x≠0->(({}:aJ),x)=D->k (.tuple #[.agg #[.int .i64 0,.string ⟨#[]⟩,.slice none 0 0,.int .i64 0,.bool false,.string ⟨#[]⟩,.string ⟨#[]⟩,.slice none 0 0,.slice none 0 0,.slice none 0 0,.slice none 0 0,.slice none 0 0,.string ⟨#[]⟩,.string ⟨#[]⟩,.bool false,.int .i64 0,.string ⟨#[]⟩],.int .i64 x]) h':=fun h' x l _ e=>hz h' x l e.symm;have EY:(st,(0:Int))=D->k (.tuple #[iKN st.kind st.sE.name b1 n1 c1 st.sE.key st.sE.only st.table st.join b2 n2 c2 b3 n3 c3 b4 n4 c4 b5 n5 c5 b6 n6 c6 st.group st.order st.desc st.eG st.name,.int .i64 0]) h3:=fun e=>by
   subst e;exact hk h3 _ rL q3
  clear hz qe kZj;generalize st.kind=sk at *;generalize st.sE.name=lJl at *;generalize st.sE.key=lJm at *;generalize st.sE.only=lJk at *;generalize st.table=ja at *;generalize st.join=lJr at *;generalize st.group=lJs at *;generalize st.order=lJn at *;generalize st.desc=lJt at *;generalize st.eG=lJq at *;generalize st.name=lJo at *;cbv;rw[ai A];refine aB g rfl rfl ?_;cbv;rw[f2];by_cases he:Us=0
  ·subst he;have YZ:decide ((0:Int)=0)=true:=rfl;have f2:A .aI .eql 0 0=true:=by rw[aA A];rfl
   have f5:A .aI .neq 0 0=false:=by rw[aC A];rfl
   rw[YZ];cbv;rw[ai A];refine aB g rfl rfl ?_;cbv;rw[ai A];refine aB g rfl rfl ?_;cbv;refine⟨cJ,?_⟩;cbv;refine iKX.cC dJI cN (o:=0) (m:=1) (by decide) (fun cs ay=>?_);have ay:cs=[.int .i64 wk,.int .i64 wN,.string wS]:=ay;subst ay;cbv;rw[f3];by_cases Ek:wk=0
   ·have hD:(if(0:Int)=0 then(if wk≠0 then(({}:aJ),(6:Int))else(st,0))else({},0))=D:=hD;rw[if_pos rfl,if_neg (by simpa using Ek)]at hD;have af:=EY hD;clear EY nV;rw[nM (by simpa using Ek)];cbv;rw[ai A];refine aB g rfl rfl ?_;cbv;rw[f2];cbv;rw[f4];cbv;rw[ai A];refine aB g rfl rfl ?_;cbv;rw[f5];cbv;exact af
   ·have hD:(if(0:Int)=0 then(if wk≠0 then(({}:aJ),(6:Int))else(st,0))else({},0))=D:=hD;rw[if_pos rfl,if_pos Ek]at hD;rw[kS Ek];cbv;refine WE p3 6 (fun h4 p4 l4=>?_);have rY:Le h h4:=fun j o hj=>by
     have NL:=l1 j o hj;have ch:j≠pb:=fun e=>by rw[e,g2]at NL;cases NL
     exact l4 j o (by rw[Sx.cY ch];exact rL j o hj)
    have af:=nV h4 6 rY (by decide) hD;clear EY nV;refine p4.out.elim (fun iKC iKx iKz lXo lXl lXn lXN i4 lXO w4 r4 g4 _ _ _ _ _ _ _ _=>?_);have g4:h4 pb=some (.cells #[.slice iKC iKx iKz,.int .i64 lXN,.int .i64 6,.slice lXo lXl lXn] 136 (0,0)):=g4;cbv;rw[ai A];refine aB g4 rfl rfl ?_;cbv;rw[f6];cbv;rw[ai A];refine aB g4 rfl rfl ?_;cbv;rw[f7];cbv;rw[ai A];refine aB g4 rfl rfl ?_;cbv;refine aB g4 rfl rfl ?_;cbv;refine⟨⟨_,rfl,rfl⟩,?_⟩;cbv;exact af
  ·rw[if_neg he]at hD;have af:=nV h3 Us rL he hD;have lKA:=f4;clear EY nV;rw[nM he];cbv;rw[ai A];refine aB g rfl rfl ?_;cbv;rw[f2,nM he];cbv;rw[ai A];refine aB g rfl rfl ?_;cbv;rw[f5,kS he];cbv;rw[ai A];refine aB g rfl rfl ?_;cbv;refine aB g rfl rfl ?_;cbv;refine⟨⟨_,rfl,rfl⟩,?_⟩;cbv;exact af
 ·have af:=hz h1 e l1 (by
   rw[<-hD];unfold cL;simp only[hw];rw[if_pos h0])
  rw[kS h0];cbv;exact af
end Go.S
