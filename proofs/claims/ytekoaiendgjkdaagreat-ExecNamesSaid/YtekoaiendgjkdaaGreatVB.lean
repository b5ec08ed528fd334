import Derived.Test.YtekoaiendgjkdaaGreatVA
import Derived.Test.YtekoaiendgjkdaaGreatSxC
set_option linter.unusedVariables false
set_option linter.unusedSimpArgs false
set_option linter.unusedSectionVars false
set_option maxRecDepth 100000
set_option maxHeartbeats 8000000
namespace Go.S
open Go.Sx Go.Proofs
structure PT(h:ad)(pb:Nat)(s:PS):Prop where
 out:gC false (Sx.cI h pb) h pb s
def mh(pb:Nat)(h h':ad):Prop:=Le (Sx.cI h pb) h'
theorem mh.refl(pb:Nat)(h:ad):mh pb h h:=Sx.dN h pb
theorem mh.trans{pb:Nat}{a b c:ad}(x:mh pb a b)(y:mh pb b c):mh pb a c:=fun j o hj=>by
 have bG:j≠pb:=fun e=>by rw[e,Sx.cO]at hj;cases hj
 exact y j o (by rw[Sx.bV bG];exact x j o hj)
theorem _root_.Go.Sx.Le.ON{pb:Nat}{h h':ad}(l:Le h h'):mh pb h h':=(Sx.dN h pb).trans l
theorem PT.lt{h h':ad}{pb:Nat}{s:PS}(q:PT h pb s)(l:mh pb h h'){tys:List Nat}(hn:136∉tys):bE tys h h':=fun b c e fr hm hb=>by
 obtain⟨wb,wn,wc,eb,en,ec,at_,i,all,g1,-⟩:=q.out.out;have bG:b≠pb:=fun e'=>by
  rw[e',g1]at hb;cases hb;exact hn hm
 exact l b _ (by rw[Sx.bV bG];exact hb)
theorem PT.of{h h':ad}{pb:Nat}{s:PS}(q:PT h pb s)(t:bE [136,139] h h'):PT h' pb s:=by
 obtain⟨wb,wn,wc,eb,en,ec,at_,i,all,g1,g2,g3,g4,g5,g6,g7,g9,vw⟩:=q.out.out;have lI:=t _ _ _ _ (by simp) g1;refine⟨⟨wb,wn,wc,eb,en,ec,at_,i,all,lI,g2.mono (fun b c e fr hm hb=>?_),g3,g4,g5,g6,(fun hh=>by cases hh),Sx.dN h' pb,Sx.cO h' pb⟩⟩;have bG:b≠pb:=fun e'=>by rw[e',Sx.cO]at hb;cases hb
 have iD:e=139:=by simpa[rX]using hm
 subst iD;rw[Sx.bV bG]at hb |-;exact t _ _ _ _ (by simp) hb
theorem gC.pt{base h:ad}{pb:Nat}{lv:Bool}{s:PS}(q:gC lv base h pb s):PT h pb s:=⟨q.freeze⟩
theorem uY{h:ad}{pb:Nat}{s:PS}(hp:PT h pb s)(str:ByteArray){k:Value->ad->Prop}
 (hk:∀h' t s',s.is str=(t,s')->PT h' pb s'->mh pb h h'->(t=true->s'.ws.length<s.ws.length)->(t=false->s'=s/\h'=h)->k (.bool t) h'):
 Ct 120 [.pointer (some ⟨pb,0,none⟩),.string str] h k:=
 Bm hp.out str (fun h' t s' e p lt sm=>hk h' t s' e p.pt p.le lt sm)
theorem DW{h:ad}{pb:Nat}{s:PS}(hp:PT h pb s)(e:Int){k:Value->ad->Prop}(hk:∀h',PT h' pb (s.fail e)->mh pb h h'->k (.tuple #[]) h'):
 Ct 56 [.pointer (some ⟨pb,0,none⟩),.int .i64 e] h k:=
 xO hp.out e (fun h' p=>hk h' p.pt p.le)
theorem pa{h:ad}{pb:Nat}{s:PS}(hp:PT h pb s){k:Value->ad->Prop}
 (hk:∀h' v s',s.name aj=(v,s')->PT h' pb s'->mh pb h h'->s'.ws.length<=s.ws.length->v.size<=12->k (.string v) h'):
 Ct 123 [.pointer (some ⟨pb,0,none⟩)] h k:=
 H8 hp.out (fun h' v s' e p l z=>hk h' v s' e p.pt p.le l z)
theorem D4{h:ad}{pb:Nat}{s:PS}(hp:PT h pb s){k:Value->ad->Prop}
 (hk:∀h' v s',s.column aj=(v,s')->PT h' pb s'->mh pb h h'->s'.ws.length<=s.ws.length->v.size<=25->k (.string v) h'):
 Ct 220 [.pointer (some ⟨pb,0,none⟩)] h k:=
 rB hp.out (fun h' v s' e p l z=>hk h' v s' e p.pt p.le l z)
theorem hG{h:ad}{pb:Nat}{s:PS}(hp:PT h pb s){n:Nat}(hn:h n=none)(l:List ByteArray){m:Nat}{h1:ad}(e:h1=bl h n (.cells (List.toArray (l.map Value.string)) 9 (0,0)))(hm:m=l.length)(hl:l.length<=10){k:Value->ad->Prop}
 (hk:∀h' s',s.bS l=s'->PT h' pb s'->mh pb h h'->s'.ws.length<=s.ws.length->k (.tuple #[]) h'):Ct 122 [.pointer (some ⟨pb,0,none⟩),.slice (some ⟨n,0,none⟩) m m] h1 k:=
 Ib hp.out hn l e hm hl (fun h' s' e p l=>hk h' s' e p.pt p.le l)
abbrev SlN(h:ad)(v:Value)(l:List Nd):Prop:=Sl 325 cT h v l
theorem vD{h:ad}{pb:Nat}{s:PS}(hp:PT h pb s){k:Value->ad->Prop}
 (hk:∀h' b n c e s',s.expr aj=(e,s')->e.length<=60->PT h' pb s'->mh pb h h'->SlN h' (.slice b n c) e->s'.ws.length<=s.ws.length->k (.slice b n c) h'):
 Ct 217 [.pointer (some ⟨pb,0,none⟩)] h k:=
 Xt hp.out (fun Ec h' b n c e s' he hl lb p q l=>hk h' b n c e s' he hl p.pt (lb.trans p.le) (q.mono (p.le.t _)) l)
theorem Ie{h:ad}{pb:Nat}{s:PS}(hp:PT h pb s){z:Int}{m:Nat}(hz:aP z m){k:Value->ad->Prop}
 (hk:∀h' t s',s.more m=(t,s')->PT h' pb s'->mh pb h h'->s'.ws.length<=s.ws.length->(t=true->s'.ws.length<s.ws.length/\m<6)->k (.bool t) h'):
 Ct 218 [.pointer (some ⟨pb,0,none⟩),.int .i64 z] h k:=by
 obtain⟨A,hA⟩:=Ar.ex;have f1:A .aF .geq z 6=decide (m>=6):=by have:=hz.eq;rw[bO A,decide_eq_decide];omega
 have hm:s.more m=match s.is (aC [44])with
  | (false,p)=>(false,p)
  | (true,p)=>if m>=6 then(false,p.fail 4)else(true,p):=by unfold PS.more;rfl
 refine ah A (aq YZ.ax YZ.bm) Tryz.func218 rfl (by kernel_rfl) ?_;cbv;refine uY hp (aC [44]) (fun h1 t s1 e1 p1 l1 ed gN=>?_);rw[e1]at hm;have pE:A .not t= !t:=by rw[hA.not]
 cases t with
 |false=>have af:=hk h1 false s1 hm p1 l1 (by rw[(gN rfl).1];exact Nat.le_refl _) (fun e=>by cases e);cbv;rw[pE];cbv;exact af
 |true=>
  have ed:=ed rfl;replace hm:s.more m=if m>=6 then(false,s1.fail 4)else(true,s1):=hm
  cbv;rw[pE];cbv;rw[f1];by_cases h6:m>=6
  ·rw[if_pos h6]at hm;rw[decide_eq_true h6];cbv;refine DW p1 4 (fun h2 p2 l2=>?_);have af:=hk h2 false _ hm p2 (l1.trans l2) (by rw[PS.rq];omega) (fun e=>by cases e);cbv;exact af
  ·rw[if_neg h6]at hm;have af:=hk h1 true _ hm p1 l1 (by omega) (fun _=>⟨ed,by omega⟩);rw[decide_eq_false h6];cbv;exact af
theorem BA{h:ad}{pb:Nat}{s:PS}(hp:PT h pb s){k:Value->ad->Prop}
 (hk:∀h' b n c e s',s.bB aj=(e,s')->e.length<=60->PT h' pb s'->mh pb h h'->SlN h' (.slice b n c) e->s'.ws.length<=s.ws.length->k (.slice b n c) h'):
 Ct 126 [.pointer (some ⟨pb,0,none⟩)] h k:=by
 obtain⟨A,hA⟩:=Ar.ex;have hm:s.bB aj=match s.is (aC [119,104,101,114,101])with
  | (true,p)=>p.expr aj
  | (false,p)=>([],p):=by unfold PS.bB;rfl
 refine ah A (aq ZS.ax ZS.bm) Tryz.func126 rfl (by kernel_rfl) ?_;cbv;refine uY hp (aC [119,104,101,114,101]) (fun h1 t s1 e1 p1 l1 ed gN=>?_);rw[e1]at hm;cases t with
 |false=>have af:=hk h1 none 0 0 [] s1 hm (Nat.zero_le _) p1 l1 Sl.nil (by rw[(gN rfl).1];exact Nat.le_refl _);cbv;exact af
 |true=>have ed:=ed rfl;replace hm:s.bB aj=s1.expr aj:=hm;cbv;refine vD p1 (fun h2 b n c e s2 e2 z2 p2 l2 q2 w2=>?_);have af:=hk h2 b n c e s2 (hm.trans e2) z2 p2 (l1.trans l2) q2 (by omega);cbv;exact af
def bW:Sh dp where
 n:=2
 R h cs t:=∃b n c,cs=[.int .i64 t.fn,.slice b n c]/\Sl 325 cT h (.slice b n c) t.e
 len:=by rintro h cs x ⟨_,_,_,rfl,-⟩;rfl
 one:=by rintro h cs x ⟨_,_,_,rfl,-⟩;rfl
 tys:=[325]
 mono:=by rintro h h' cs x hl ⟨b,n,c,rfl,q⟩;exact⟨b,n,c,rfl,q.mono (hl.sub (by decide))⟩
theorem OQ{h:ad}{pb:Nat}{s:PS}(hp:PT h pb s){k:Value->ad->Prop}
 (hk:∀h' b n c it s',s.item aj=(it,s')->it.e.length<=60->PT h' pb s'->mh pb h h'->SlN h' (.slice b n c) it.e->s'.ws.length<=s.ws.length->k (.agg #[.int .i64 it.fn,.slice b n c]) h'):
 Ct 219 [.pointer (some ⟨pb,0,none⟩)] h k:=by
 obtain⟨A,hA⟩:=Ar.ex;obtain⟨D,hD⟩:∃D,s.item aj=D:=⟨_,rfl⟩;have hm:=hD;unfold PS.item at hm;rw[hD]at hk;clear hD;refine ah A (aq YY.ax YY.bm) Tryz.func219 rfl (by kernel_rfl) ?_;cbv;refine uY hp (aC [99,111,117,110,116]) (fun h1 t s1 e1 p1 l1 ed gN=>?_);rw[e1]at hm;cases t with
 |true=>have ed:=ed rfl;replace hm:(⟨1,[]⟩,s1.bS [(aC [40]),(aC [42]),(aC [41])])=D:=hm;cbv;intro n3 h3 g3 e3;refine hG p1 g3 [(aC [40]),(aC [42]),(aC [41])] e3 rfl (by decide) (fun h4 s4 e4 p4 l4 w4=>?_);rw[e4]at hm;have af:=hk h4 none 0 0 ⟨1,[]⟩ s4 hm.symm (Nat.zero_le _) p4 (l1.trans l4) Sl.nil (by omega);cbv;exact af
 |false=>
  obtain⟨eE,dU⟩:=gN rfl;replace eE:=eE.symm;replace dU:=dU.symm;subst eE dU;clear ed gN p1 l1;replace hm:(match s.cN [((aC [115,117,109]),2),((aC [109,105,110]),3),((aC [109,97,120]),4)]with
   | (none,p)=>((⟨0,(p.expr aj).1⟩:dp),(p.expr aj).2)
   | (some fn,p)=>((⟨fn,((({ p.bS [(aC [40])]with e:=[] }:PS).column aj).2.node (fk (({ p.bS [(aC [40])]with e:=[] }:PS).column aj).1)).2.e⟩:dp),((({ p.bS [(aC [40])]with e:=[] }:PS).column aj).2.node (fk (({ p.bS [(aC [40])]with e:=[] }:PS).column aj).1)).2.bS [(aC [41])]))=D:=hm
  cbv;refine uY hp (aC [115,117,109]) (fun h1 t s1 e1 p1 l1 ed gN=>?_);cases t with
  |true=>have eo:s.cN [((aC [115,117,109]),2),((aC [109,105,110]),3),((aC [109,97,120]),4)]=(some 2,s1):=dM e1;have ed:=ed rfl;rw[eo]at hm;replace hm:((⟨2,((({ s1.bS [(aC [40])]with e:=[] }:PS).column aj).2.node (fk (({ s1.bS [(aC [40])]with e:=[] }:PS).column aj).1)).2.e⟩:dp),((({ s1.bS [(aC [40])]with e:=[] }:PS).column aj).2.node (fk (({ s1.bS [(aC [40])]with e:=[] }:PS).column aj).1)).2.bS [(aC [41])])=D:=hm;cbv;intro n3 h3 g3 e3;refine hG p1 g3 [(aC [40])] e3 rfl (by decide) (fun h4 s4 e4 p4 l4 w4=>?_);rw[e4]at hm;refine p4.out.elim (fun wb wn wc eb en ec at_ i all w r g qw hz hw mS hr hi ML qe=>?_);cbv;rw[ai A];refine eH g (by simp) (fun h5 e5=>?_);have p5:gC true (Sx.cI h4 pb) h5 pb { s4 with e:=[] }:=p4.out.HK (lv':=true) g p4.out.le (fun _=>⟨cK.nil,by decide⟩) g e5;cbv;refine rB p5 (fun h6 v s6 e6 p6 w6 z6=>?_);have w6:s6.ws.length<=s4.ws.length:=w6;rw[e6]at hm;cbv;refine iN p6 2 0 0 0 0 _ v (fun h7 v7 s7 e7 p7 w7=>?_);have e7:s6.node (fk v)=(v7,s7):=e7;replace hm:((⟨2,(s6.node (fk v)).2.e⟩:dp),(s6.node (fk v)).2.bS [(aC [41])])=D:=hm;rw[e7]at hm;refine p7.elim (fun wb7 wn7 wc7 Xx Xu Xw at7 i7 XI w7' r7 g7 qw7 hz7 hw7 V1 hr7 hi7 V2 OB=>?_);obtain⟨qb,qS⟩:=OB rfl;have qs:=qb.sl;have p8:=p7.pt;have Dz:=p7.le;clear OB;cbv;rw[ai A];refine ar g7 rfl rfl ?_;cbv;intro n9 h9 g9 e9;refine hG p8 g9 [(aC [41])] e9 rfl (by decide) (fun fh wB gJ pQ mE Kz=>?_);replace hm:((⟨2,s7.e⟩:dp),s7.bS [(aC [41])])=D:=hm;rw[gJ]at hm;have qf:=qs.mono (p8.lt mE (tys:=325::cT.tys) (by decide));have af:=hk fh Xx Xu Xw ⟨2,s7.e⟩ wB hm.symm qS pQ ((l1.trans l4).trans ((show mh pb h4 h7 from Dz).trans mE)) qf (by rw[w7]at Kz;omega);cbv;exact af
  |false=>
   obtain⟨eE,dU⟩:=gN rfl;replace eE:=eE.symm;replace dU:=dU.symm;subst eE dU;have gJ:=e1;clear e1 ed gN p1 l1;cbv;refine uY hp (aC [109,105,110]) (fun h1 t s1 e1 p1 l1 ed gN=>?_);cases t with
   |true=>have eo:s.cN [((aC [115,117,109]),2),((aC [109,105,110]),3),((aC [109,97,120]),4)]=(some 3,s1):=(aL gJ).trans (dM e1);have ed:=ed rfl;rw[eo]at hm;replace hm:((⟨3,((({ s1.bS [(aC [40])]with e:=[] }:PS).column aj).2.node (fk (({ s1.bS [(aC [40])]with e:=[] }:PS).column aj).1)).2.e⟩:dp),((({ s1.bS [(aC [40])]with e:=[] }:PS).column aj).2.node (fk (({ s1.bS [(aC [40])]with e:=[] }:PS).column aj).1)).2.bS [(aC [41])])=D:=hm;cbv;intro n3 h3 g3 e3;refine hG p1 g3 [(aC [40])] e3 rfl (by decide) (fun h4 s4 e4 p4 l4 w4=>?_);rw[e4]at hm;refine p4.out.elim (fun wb wn wc eb en ec at_ i all w r g qw hz hw mS hr hi ML qe=>?_);cbv;rw[ai A];refine eH g (by simp) (fun h5 e5=>?_);have p5:gC true (Sx.cI h4 pb) h5 pb { s4 with e:=[] }:=p4.out.HK (lv':=true) g p4.out.le (fun _=>⟨cK.nil,by decide⟩) g e5;cbv;refine rB p5 (fun h6 v s6 e6 p6 w6 z6=>?_);have w6:s6.ws.length<=s4.ws.length:=w6;rw[e6]at hm;cbv;refine iN p6 2 0 0 0 0 _ v (fun h7 v7 s7 e7 p7 w7=>?_);have e7:s6.node (fk v)=(v7,s7):=e7;replace hm:((⟨3,(s6.node (fk v)).2.e⟩:dp),(s6.node (fk v)).2.bS [(aC [41])])=D:=hm;rw[e7]at hm;refine p7.elim (fun wb7 wn7 wc7 Xx Xu Xw at7 i7 XI w7' r7 g7 qw7 hz7 hw7 V1 hr7 hi7 V2 OB=>?_);obtain⟨qb,qS⟩:=OB rfl;have qs:=qb.sl;have p8:=p7.pt;have Dz:=p7.le;clear OB;cbv;rw[ai A];refine ar g7 rfl rfl ?_;cbv;intro n9 h9 g9 e9;refine hG p8 g9 [(aC [41])] e9 rfl (by decide) (fun fh wB gJ pQ mE Kz=>?_);replace hm:((⟨3,s7.e⟩:dp),s7.bS [(aC [41])])=D:=hm;rw[gJ]at hm;have qf:=qs.mono (p8.lt mE (tys:=325::cT.tys) (by decide));have af:=hk fh Xx Xu Xw ⟨3,s7.e⟩ wB hm.symm qS pQ ((l1.trans l4).trans ((show mh pb h4 h7 from Dz).trans mE)) qf (by rw[w7]at Kz;omega);cbv;exact af
   |false=>
    obtain⟨eE,dU⟩:=gN rfl;replace eE:=eE.symm;replace dU:=dU.symm;subst eE dU;have j9:=e1;clear e1 ed gN p1 l1;cbv;refine uY hp (aC [109,97,120]) (fun h1 t s1 e1 p1 l1 ed gN=>?_);cases t with
    |true=>have eo:s.cN [((aC [115,117,109]),2),((aC [109,105,110]),3),((aC [109,97,120]),4)]=(some 4,s1):=(aL gJ).trans ((aL j9).trans (dM e1));have ed:=ed rfl;rw[eo]at hm;replace hm:((⟨4,((({ s1.bS [(aC [40])]with e:=[] }:PS).column aj).2.node (fk (({ s1.bS [(aC [40])]with e:=[] }:PS).column aj).1)).2.e⟩:dp),((({ s1.bS [(aC [40])]with e:=[] }:PS).column aj).2.node (fk (({ s1.bS [(aC [40])]with e:=[] }:PS).column aj).1)).2.bS [(aC [41])])=D:=hm;cbv;intro n3 h3 g3 e3;refine hG p1 g3 [(aC [40])] e3 rfl (by decide) (fun h4 s4 e4 p4 l4 w4=>?_);rw[e4]at hm;refine p4.out.elim (fun wb wn wc eb en ec at_ i all w r g qw hz hw mS hr hi ML qe=>?_);cbv;rw[ai A];refine eH g (by simp) (fun h5 e5=>?_);have p5:gC true (Sx.cI h4 pb) h5 pb { s4 with e:=[] }:=p4.out.HK (lv':=true) g p4.out.le (fun _=>⟨cK.nil,by decide⟩) g e5;cbv;refine rB p5 (fun h6 v s6 e6 p6 w6 z6=>?_);have w6:s6.ws.length<=s4.ws.length:=w6;rw[e6]at hm;cbv;refine iN p6 2 0 0 0 0 _ v (fun h7 v7 s7 e7 p7 w7=>?_);have e7:s6.node (fk v)=(v7,s7):=e7;replace hm:((⟨4,(s6.node (fk v)).2.e⟩:dp),(s6.node (fk v)).2.bS [(aC [41])])=D:=hm;rw[e7]at hm;refine p7.elim (fun wb7 wn7 wc7 Xx Xu Xw at7 i7 XI w7' r7 g7 qw7 hz7 hw7 V1 hr7 hi7 V2 OB=>?_);obtain⟨qb,qS⟩:=OB rfl;have qs:=qb.sl;have p8:=p7.pt;have Dz:=p7.le;clear OB;cbv;rw[ai A];refine ar g7 rfl rfl ?_;cbv;intro n9 h9 g9 e9;refine hG p8 g9 [(aC [41])] e9 rfl (by decide) (fun fh wB gJ pQ mE Kz=>?_);replace hm:((⟨4,s7.e⟩:dp),s7.bS [(aC [41])])=D:=hm;rw[gJ]at hm;have qf:=qs.mono (p8.lt mE (tys:=325::cT.tys) (by decide));have af:=hk fh Xx Xu Xw ⟨4,s7.e⟩ wB hm.symm qS pQ ((l1.trans l4).trans ((show mh pb h4 h7 from Dz).trans mE)) qf (by rw[w7]at Kz;omega);cbv;exact af
    |false=>obtain⟨eE,dU⟩:=gN rfl;replace eE:=eE.symm;replace dU:=dU.symm;subst eE dU;have wP:=e1;clear e1 ed gN p1 l1;cbv;have eo:s.cN [((aC [115,117,109]),2),((aC [109,105,110]),3),((aC [109,97,120]),4)]=(none,s):=(aL gJ).trans ((aL j9).trans (aL wP));rw[eo]at hm;refine vD hp (fun h2 b n c e s2 e2 z2 p2 l2 q2 w2=>?_);replace hm:((⟨0,(s.expr aj).1⟩:dp),(s.expr aj).2)=D:=hm;rw[e2]at hm;have af:=hk h2 b n c ⟨0,e⟩ s2 hm.symm z2 p2 l2 q2 w2;cbv;exact af
abbrev eR:Sh (List Nd):=jH 325 cT
structure PL(h:ad)(v:Value)(st:aB):Prop where
 out:∃b1 n1 c1 b2 n2 c2 b3 n3 c3 b4 n4 c4 b5 n5 c5 b6 n6 c6,v=.agg #[.int .i64 st.kind,.string st.nf.name,.slice b1 n1 c1,.int .i64 st.nf.key,.bool st.nf.only,.string st.table,.string st.join,.slice b2 n2 c2,.slice b3 n3 c3,.slice b4 n4 c4,.slice b5 n5 c5,.slice b6 n6 c6,.string st.group,.string st.order,.bool st.desc,.int .i64 st.fE,.string st.name]/\
  Sl 165 aT h (.slice b1 n1 c1) st.nf.cols/\Sl 325 cT h (.slice b2 n2 c2) st.on/\Sl 9 cj h (.slice b3 n3 c3) st.names/\Sl 42 eR h (.slice b4 n4 c4) st.exprs/\Sl 276 bW h (.slice b5 n5 c5) st.items/\Sl 325 cT h (.slice b6 n6 c6) st.bB
abbrev stV(k:Int)(sn:ByteArray)(b1:Option Addr)(n1 c1:Nat)(ky:Int)(on:Bool)(tb jn:ByteArray)(b2:Option Addr)(n2 c2:Nat)(b3:Option Addr)(n3 c3:Nat)(b4:Option Addr)(n4 c4:Nat)(b5:Option Addr)(n5 c5:Nat)(b6:Option Addr)(n6 c6:Nat)(gr od:ByteArray)(ds:Bool)(lm:Int)(nm:ByteArray):Value:=
 .agg #[.int .i64 k,.string sn,.slice b1 n1 c1,.int .i64 ky,.bool on,.string tb,.string jn,.slice b2 n2 c2,.slice b3 n3 c3,.slice b4 n4 c4,.slice b5 n5 c5,.slice b6 n6 c6,.string gr,.string od,.bool ds,.int .i64 lm,.string nm]
theorem FC{n:Nat}{l:List (List Nd)}{p q:PS}(e:p.more l.length=(true,q)):lE aj (n+1) l p=lE aj n (l++[(q.expr aj).1]) (q.expr aj).2:=by show(match p.more l.length with| (true,p)=>_| (false,p)=>(l,p))=_;rw[e]
theorem CM{n:Nat}{l:List (List Nd)}{p q:PS}(e:p.more l.length=(false,q)):lE aj (n+1) l p=(l,q):=by show(match p.more l.length with| (true,p)=>_| (false,p)=>(l,p))=_;rw[e]
theorem MB{h:ad}{pb:Nat}{s:PS}(hp:PT h pb s){k:Value->ad->Prop}
 (hk:∀h' st s' v,s.insert aj=(st,s')->PT h' pb s'->mh pb h h'->PL h' v st->s'.ws.length<=s.ws.length->k v h'):
 Ct 124 [.pointer (some ⟨pb,0,none⟩)] h k:=by
 obtain⟨A,hA⟩:=Ar.ex;obtain⟨D,hD⟩:∃D,s.insert aj=D:=⟨_,rfl⟩;have hm:=hD;rw[hD]at hk;clear hD;unfold PS.insert at hm;refine ah A (aq ZU.ax ZU.bm) Tryz.func124 rfl (by kernel_rfl) ?_;cbv;intro n1 h1 g1 e1;refine hG hp g1 [(aC [105,110,116,111])] e1 rfl (by decide) (fun h2 s2 e2 p2 l2 w2=>?_);rw[e2]at hm;cbv;refine pa p2 (fun h3 tb s3 e3 p3 l3 w3 z3=>?_);simp only[e3]at hm;cbv;intro n4 h4 g4 e4;refine hG p3 g4 [(aC [118,97,108,117,101,115]),(aC [40])] e4 rfl (by decide) (fun h5 s5 e5 p5 l5 w5=>?_);rw[e5]at hm;have TR:=(l2.trans l3).trans l5;have w05:s5.ws.length<=s.ws.length:=by omega
 cbv;refine vD p5 (fun h6 b n c e6l s6 e6 z6 p6 l6 q6 w6=>?_);rw[e6]at hm;obtain⟨R,hR⟩:∃R,lE aj (s6.ws.length+1) [e6l] s6=R:=⟨_,rfl⟩;replace hm:((({ kind:=3,table:=tb,exprs:=(lE aj (s6.ws.length+1) [e6l] s6).1 }:aB),(lE aj (s6.ws.length+1) [e6l] s6).2.bS [(aC [41])]))=D:=hm;rw[hR]at hm;cbv;intro n7 h7 g7 e7;have l7:Le h6 h7:=by rw[e7];exact Le.set g7
 have f7:=(congrFun e7 n7).trans ae;have v7:Sl 42 eR h7 (.slice (some ⟨n7,0,none⟩) 1 1) [e6l]:=bp (s:=eR) f7 ⟨_,rfl,q6.mono (l7.t _)⟩;have l07:Le (Sx.cI h pb) h7:=(TR.trans l6).trans l7.ON;have Fc:cK 42 eR (Sx.cI h pb) h7 (.slice none 0 0) ([]:List (List Nd)):=cK.nil;cbv;refine Fc.append v7 (by decide) rfl (by decide) (by omega) l07 (fun m8 b8 c8 h8 em8 l8 t8 k8 Jp=>?_);have p8:=p6.of ((l7.t _).trans (t8 _ (by decide)));rw[List.nil_append]at Jp;obtain⟨I,bh⟩:∃I:Nat->Option Addr×Nat×Nat->ad->Prop,∀m g h',I m g h'=∃l s1 fu,cK 42 eR (Sx.cI h pb) h' (.slice g.1 g.2.1 g.2.2) l/\l.length<=6/\PT h' pb s1/\mh pb h h'/\s1.ws.length<=s.ws.length/\s1.ws.length<fu/\lE aj fu l s1=R/\m=s1.ws.length:=⟨_,fun _ _ _=>rfl⟩;have hJ:I s6.ws.length (b8,m8,c8) h8:=by rw[bh];exact⟨_,s6,_,Jp,(by show 1<=6;decide),p8,l8,by omega,Nat.lt_succ_self _,hR,rfl⟩
 clear hR Fc v7 f7 e6 Jp t8 k8;cbv;refine aZ.go (G:=Option Addr×Nat×Nat) (fun _=>[]) (fun g=>[(3,[.int .i64 3,.string ⟨#[]⟩,.slice none 0 0,.int .i64 0,.bool false,.string tb,.string ⟨#[]⟩,.slice none 0 0,.slice none 0 0,.slice g.1 g.2.1 g.2.2,.slice none 0 0,.slice none 0 0,.string ⟨#[]⟩,.string ⟨#[]⟩,.bool false,.int .i64 0,.string ⟨#[]⟩]),
  (2,[.int .i64 0,.string ⟨#[]⟩,.slice none 0 0,.int .i64 0,.bool false,.string ⟨#[]⟩,.string ⟨#[]⟩,.slice none 0 0,.slice none 0 0,.slice none 0 0,.slice none 0 0,.slice none 0 0,.string ⟨#[]⟩,.string ⟨#[]⟩,.bool false,.int .i64 0,.string ⟨#[]⟩])]) (fun m g h'=>I m g h') s6.ws.length (b8,m8,c8) ⟨?_,?_,?_⟩ hJ ?_
 ·cbv
 ·cbv
 ·cbv
 ·intro m g h9 hI;rw[bh]at hI;cbv;obtain⟨l,s9,fu,KX,O7,p9,l9,w9,RU,he,Ff⟩:=hI;obtain⟨gb,gn,gc⟩:=g;have KX:cK 42 eR (Sx.cI h pb) h9 (.slice gb gn gc) l:=KX;have DN:=KX.sl.len;obtain⟨fu,rfl⟩:∃AK,fu=AK+1:=⟨fu-1,by omega⟩;have E6:aP (A .nat gn) l.length:=by rw[<-DN];exact aP.nat gn
  refine Ie p9 E6 (fun fh t wB gJ pQ mE Kz lU=>?_);have yW:=KX.mono (p9.lt mE (tys:=42::eR.tys) (by decide));cases t with
  |true=>
   obtain⟨lU,hl5⟩:=lU rfl;have he:=(FC gJ).symm.trans he;cbv;refine vD pQ (fun mY b n c XA LY j9 z11 Vm Bl HJ w11=>?_);rw[j9]at he;have he:lE aj fu (l++[XA]) LY=R:=he;have W0:=yW.mono (pQ.lt Bl (tys:=42::eR.tys) (by decide));cbv;intro KI tM g12 wP;have fH:Le mY tM:=by rw[wP];exact Le.set g12
   have f12:=(congrFun wP KI).trans ae;have v12:Sl 42 eR tM (.slice (some ⟨KI,0,none⟩) 1 1) [XA]:=bp (s:=eR) f12 ⟨_,rfl,HJ.mono (fH.t _)⟩;have l012:Le (Sx.cI h pb) tM:=((l9.trans mE).trans Bl).trans fH.ON;cbv;refine(W0.mono (fH.t _)).append v12 (by decide) rfl (by decide) (by omega) l012 (fun m13 b13 c13 h13 em13 VM t13 k13 WZ=>?_);have p13:=Vm.of ((fH.t _).trans (t13 _ (by decide)));have hI13:I LY.ws.length (b13,m13,c13) h13:=by rw[bh];exact⟨_,LY,fu,WZ,by rw[List.length_append,List.length_singleton];omega,p13,VM,by omega,by omega,he,rfl⟩
   have aI:LY.ws.length<m:=by omega
   clear bh hJ hk he WZ KX yW W0 v12 f12 t13 k13;cbv;refine⟨LY.ws.length,(_,_,_),aI,⟨?_,?_,?_⟩,hI13⟩
   ·cbv
   ·cbv
   ·cbv
  |false=>have he:=(CM gJ).symm.trans he;rw[<-he]at hm;clear he bh hJ;cbv;intro n11 mY Sv j9;refine hG pQ Sv [(aC [41])] j9 rfl (by decide) (fun tM Gk wP p12 fH w12=>?_);replace hm:((({ kind:=3,table:=tb,exprs:=l }:aB),wB.bS [(aC [41])]))=D:=hm;rw[wP]at hm;have hb12:=yW.mono (pQ.lt fH (tys:=42::eR.tys) (by decide));have af:=fun v q=>hk tM ({ kind:=3,table:=tb,exprs:=l }:aB) Gk v hm.symm p12 ((l9.trans mE).trans fH) q (by omega);have af:=af _ ⟨none,0,0,none,0,0,none,0,0,gb,gn,gc,none,0,0,none,0,0,rfl,Sl.nil,Sl.nil,Sl.nil,hb12.sl,Sl.nil,Sl.nil⟩;cbv;exact af
theorem Ly{h:ad}{pb:Nat}{s:PS}(hp:PT h pb s){k:Value->ad->Prop}
 (hk:∀h' st s' v,s.update aj=(st,s')->PT h' pb s'->mh pb h h'->PL h' v st->s'.ws.length<=s.ws.length->k v h'):
 Ct 125 [.pointer (some ⟨pb,0,none⟩)] h k:=by
 obtain⟨A,hA⟩:=Ar.ex;obtain⟨D,hD⟩:∃D,s.update aj=D:=⟨_,rfl⟩;have hm:=hD;rw[hD]at hk;clear hD;unfold PS.update at hm;refine ah A (aq ZT.ax ZT.bm) Tryz.func125 rfl (by kernel_rfl) ?_;cbv;refine pa hp (fun h3 tb s3 e3 p3 l3 w3 z3=>?_);simp only[e3]at hm;cbv;intro n4 h4 g4 e4;refine hG p3 g4 [(aC [115,101,116])] e4 rfl (by decide) (fun h5 s5 e5 p5 l5 w5=>?_);simp only[e5]at hm;have TR:=l3.trans l5;have w05:s5.ws.length<=s.ws.length:=by omega
 obtain⟨R,hR⟩:∃R,mP aj (s5.ws.length+1) [] [] s5=R:=⟨_,rfl⟩;rw[hR]at hm;obtain⟨I,bh⟩:∃I:Nat->Int×(Option Addr×Nat×Nat)×Option Addr×Nat×Nat->ad->Prop,∀m g h',I m g h'=∃kk la lb s1 fu,aP g.1 kk/\cK 9 cj (Sx.cI h pb) h' (.slice g.2.1.1 g.2.1.2.1 g.2.1.2.2) la/\cK 42 eR (Sx.cI h pb) h' (.slice g.2.2.1 g.2.2.2.1 g.2.2.2.2) lb/\la.length=lb.length/\la.length<=6/\PT h' pb s1/\mh pb h h'/\s1.ws.length<=s.ws.length/\s1.ws.length<=fu/\kk<=10+la.length/\
  ((kk=0/\la=[]/\lb=[]/\s1=s5/\mP aj (fu+1) [] [] s1=R/\m=s1.ws.length+1)\/(kk≠0/\(match s1.more la.length with
    | (true,p)=>mP aj fu la lb p
    | (false,p)=>((la,lb),p))=R/\m=s1.ws.length)):=⟨_,fun _ _ _=>rfl⟩
 have hJ:I (s5.ws.length+1) (0,(none,0,0),none,0,0) h5:=by rw[bh];exact⟨0,[],[],s5,s5.ws.length,⟨rfl⟩,cK.nil,cK.nil,rfl,by decide,p5,TR,w05,Nat.le_refl _,Nat.zero_le _,.inl ⟨rfl,rfl,rfl,rfl,hR,rfl⟩⟩
 clear hR;cbv;refine aZ.go (G:=Int×(Option Addr×Nat×Nat)×Option Addr×Nat×Nat) (fun g=>[(4,.v (.int .i64 g.1))]) (fun g=>[(3,[.int .i64 4,.string ⟨#[]⟩,.slice none 0 0,.int .i64 0,.bool false,.string tb,.string ⟨#[]⟩,.slice none 0 0,.slice g.2.1.1 g.2.1.2.1 g.2.1.2.2,.slice g.2.2.1 g.2.2.2.1 g.2.2.2.2,.slice none 0 0,.slice none 0 0,.string ⟨#[]⟩,.string ⟨#[]⟩,.bool false,.int .i64 0,.string ⟨#[]⟩]),
  (2,[.int .i64 0,.string ⟨#[]⟩,.slice none 0 0,.int .i64 0,.bool false,.string ⟨#[]⟩,.string ⟨#[]⟩,.slice none 0 0,.slice none 0 0,.slice none 0 0,.slice none 0 0,.slice none 0 0,.string ⟨#[]⟩,.string ⟨#[]⟩,.bool false,.int .i64 0,.string ⟨#[]⟩])]) (fun m g h'=>I m g h') (s5.ws.length+1) (0,(none,0,0),none,0,0) ⟨?_,?_,?_⟩ hJ ?_
 ·cbv
 ·cbv
 ·cbv
 ·intro m g h9 hI;rw[bh]at hI;cbv;obtain⟨kk,la,lb,s9,fu,hz,ba,bb,ra,O7,p9,l9,w9,RU,Jc,dn⟩:=hI;obtain⟨z,⟨ab,an,ac⟩,gb,gn,gc⟩:=g;have hz:aP z kk:=hz;have ba:cK 9 cj (Sx.cI h pb) h9 (.slice ab an ac) la:=ba;have bb:cK 42 eR (Sx.cI h pb) h9 (.slice gb gn gc) lb:=bb;have KY:=ba.sl.len;have AE:=bb.sl.len;have f1:A .aF .eql z 0=decide (kk=0):=by have:=hz.eq;rw[aw A,decide_eq_decide];omega
  have dz:=hz.succ (A:=A) (by omega);rw[f1];rcases dn with ⟨rfl,rfl,rfl,rfl,he,Ff⟩ | ⟨Gt,he,Ff⟩
  ·obtain⟨la,Fh⟩:∃l:List ByteArray,l=[]:=⟨_,rfl⟩;obtain⟨lb,hlb⟩:∃l:List (List Nd),l=[]:=⟨_,rfl⟩;obtain⟨kk,Jb⟩:∃l:Nat,l=0:=⟨_,rfl⟩;have hdk:decide ((0:Nat)=0)=true:=rfl;rw[<-Fh]at ba he KY ra O7;rw[<-hlb]at bb he AE ra;rw[<-Fh]at Jc;have hl5:la.length<6:=by rw[Fh];show 0<6;decide
   rw[<-Jb]at dz;rw[hdk];cbv;refine pa p9 (fun So nv EF S5 Qv E2 w20 z20=>?_);have vR:=ba.mono (p9.lt E2 (tys:=9::cj.tys) (by decide));have Kj:=bb.mono (p9.lt E2 (tys:=42::eR.tys) (by decide));cbv;intro Ia CG Su JN;have yG:Le So CG:=by rw[JN];exact Le.set Su
   have f21:=(congrFun JN Ia).trans ae;have GX:Sl 9 cj CG (.slice (some ⟨Ia,0,none⟩) 1 1) [nv]:=bp (s:=cj) f21 rfl;have Ca:Le (Sx.cI h pb) CG:=(l9.trans E2).trans yG.ON;cbv;refine(vR.mono (yG.t _)).append GX (by decide) rfl (by decide) (by omega) Ca (fun QP To Tj Np S2 B9 t22 Q3 vQ=>?_);have HT:=Qv.of ((yG.t _).trans (t22 _ (by decide)));have Ki:=(Kj.mono (yG.t _)).mono (t22 _ (by decide));have B9:mh pb h Np:=B9;clear vR Kj GX f21 t22 Q3;cbv;intro n23 h23 g23 e23;refine hG HT g23 [(aC [61])] e23 rfl (by decide) (fun h24 s24 e24 Qu sX w24=>?_);have Ko:=vQ.mono (HT.lt sX (tys:=9::cj.tys) (by decide));have Kh:=Ki.mono (HT.lt sX (tys:=42::eR.tys) (by decide));cbv;refine vD Qu (fun h25 eb en ec ev EE e25 z25 p25 Is q25 w25=>?_);have Kn:=Ko.mono (Qu.lt Is (tys:=9::cj.tys) (by decide));have Kg:=Kh.mono (Qu.lt Is (tys:=42::eR.tys) (by decide));clear Ko Kh vQ Ki;cbv;intro Vy Sn g26 Xy;have Ir:Le h25 Sn:=by rw[Xy];exact Le.set g26
   have f26:=(congrFun Xy Vy).trans ae;have UG:Sl 42 eR Sn (.slice (some ⟨Vy,0,none⟩) 1 1) [ev]:=bp (s:=eR) f26 ⟨_,rfl,q25.mono (Ir.t _)⟩;have QW:Le (Sx.cI h pb) Sn:=((B9.trans sX).trans Is).trans Ir.ON;cbv;refine(Kg.mono (Ir.t _)).append UG (by decide) rfl (by decide) (by omega) QW (fun m27 b27 c27 Xa em27 KK t27 k27 Kf=>?_);have p27:=p25.of ((Ir.t _).trans (t27 _ (by decide)));have Km:=(Kn.mono (Ir.t _)).mono (t27 _ (by decide));have KK:mh pb h Xa:=KK;have bl:mP aj (fu+1) la lb s9=match EE.more (la++[nv]).length with
    | (true,p)=>mP aj fu (la++[nv]) (lb++[ev]) p
    | (false,p)=>((la++[nv],lb++[ev]),p):=by
    rw[mP];simp only[S5,e24,e25];rfl
   have Sd:I EE.ws.length (A .bA .add .i64 z 1,(To,QP,Tj),b27,m27,c27) Xa:=by rw[bh];exact⟨kk+1,la++[nv],lb++[ev],EE,fu,dz,Km,Kf,by rw[List.length_append,List.length_append,ra];rfl,by rw[List.length_append,List.length_singleton];omega,p27,KK,by omega,by omega,by rw[List.length_append,List.length_singleton];omega,.inr ⟨by omega,bl.symm.trans he,rfl⟩⟩
   have aI:EE.ws.length<m:=by omega
   clear bh hJ hk he Km Kf Kn Kg UG f26 t27 k27 bl;cbv;refine⟨EE.ws.length,(_,(_,_,_),_,_,_),aI,⟨?_,?_,?_⟩,Sd⟩
   ·cbv
   ·cbv
   ·cbv
  ·rw[decide_eq_false Gt];have E6:aP (A .nat an) la.length:=by rw[<-KY];exact aP.nat an
   cbv;refine Ie p9 E6 (fun fh t wB gJ pQ mE Kz lU=>?_);rw[gJ]at he;have ba:=ba.mono (p9.lt mE (tys:=9::cj.tys) (by decide));have bb:=bb.mono (p9.lt mE (tys:=42::eR.tys) (by decide));have l9:=l9.trans mE;cases t with
   |true=>
    obtain⟨lU,hl5⟩:=lU rfl;replace he:mP aj fu la lb wB=R:=he;obtain⟨fu,rfl⟩:∃AK,fu=AK+1:=⟨fu-1,by omega⟩;cbv;refine pa pQ (fun So nv EF S5 Qv E2 w20 z20=>?_);have vR:=ba.mono (pQ.lt E2 (tys:=9::cj.tys) (by decide));have Kj:=bb.mono (pQ.lt E2 (tys:=42::eR.tys) (by decide));cbv;intro Ia CG Su JN;have yG:Le So CG:=by rw[JN];exact Le.set Su
    have f21:=(congrFun JN Ia).trans ae;have GX:Sl 9 cj CG (.slice (some ⟨Ia,0,none⟩) 1 1) [nv]:=bp (s:=cj) f21 rfl;have Ca:Le (Sx.cI h pb) CG:=(l9.trans E2).trans yG.ON;cbv;refine(vR.mono (yG.t _)).append GX (by decide) rfl (by decide) (by omega) Ca (fun QP To Tj Np S2 B9 t22 Q3 vQ=>?_);have HT:=Qv.of ((yG.t _).trans (t22 _ (by decide)));have Ki:=(Kj.mono (yG.t _)).mono (t22 _ (by decide));have B9:mh pb h Np:=B9;clear vR Kj GX f21 t22 Q3;cbv;intro n23 h23 g23 e23;refine hG HT g23 [(aC [61])] e23 rfl (by decide) (fun h24 s24 e24 Qu sX w24=>?_);have Ko:=vQ.mono (HT.lt sX (tys:=9::cj.tys) (by decide));have Kh:=Ki.mono (HT.lt sX (tys:=42::eR.tys) (by decide));cbv;refine vD Qu (fun h25 eb en ec ev EE e25 z25 p25 Is q25 w25=>?_);have Kn:=Ko.mono (Qu.lt Is (tys:=9::cj.tys) (by decide));have Kg:=Kh.mono (Qu.lt Is (tys:=42::eR.tys) (by decide));clear Ko Kh vQ Ki;cbv;intro Vy Sn g26 Xy;have Ir:Le h25 Sn:=by rw[Xy];exact Le.set g26
    have f26:=(congrFun Xy Vy).trans ae;have UG:Sl 42 eR Sn (.slice (some ⟨Vy,0,none⟩) 1 1) [ev]:=bp (s:=eR) f26 ⟨_,rfl,q25.mono (Ir.t _)⟩;have QW:Le (Sx.cI h pb) Sn:=((B9.trans sX).trans Is).trans Ir.ON;cbv;refine(Kg.mono (Ir.t _)).append UG (by decide) rfl (by decide) (by omega) QW (fun m27 b27 c27 Xa em27 KK t27 k27 Kf=>?_);have p27:=p25.of ((Ir.t _).trans (t27 _ (by decide)));have Km:=(Kn.mono (Ir.t _)).mono (t27 _ (by decide));have KK:mh pb h Xa:=KK;have bl:mP aj (fu+1) la lb wB=match EE.more (la++[nv]).length with
     | (true,p)=>mP aj fu (la++[nv]) (lb++[ev]) p
     | (false,p)=>((la++[nv],lb++[ev]),p):=by
     rw[mP];simp only[S5,e24,e25];rfl
    have Sd:I EE.ws.length (A .bA .add .i64 z 1,(To,QP,Tj),b27,m27,c27) Xa:=by rw[bh];exact⟨kk+1,la++[nv],lb++[ev],EE,fu,dz,Km,Kf,by rw[List.length_append,List.length_append,ra];rfl,by rw[List.length_append,List.length_singleton];omega,p27,KK,by omega,by omega,by rw[List.length_append,List.length_singleton];omega,.inr ⟨by omega,bl.symm.trans he,rfl⟩⟩
    have aI:EE.ws.length<m:=by omega
    clear bh hJ hk he Km Kf Kn Kg UG f26 t27 k27 bl;cbv;refine⟨EE.ws.length,(_,(_,_,_),_,_,_),aI,⟨?_,?_,?_⟩,Sd⟩
    ·cbv
    ·cbv
    ·cbv
   |false=>replace he:((la,lb),wB)=R:=he;subst he;clear bh hJ;cbv;refine BA pQ (fun mY wb wn wc we LY j9 z11 Vm Bl HJ w11=>?_);replace hm:((({ kind:=4,table:=tb,names:=la,exprs:=lb,bB:=(wB.bB aj).1 }:aB),(wB.bB aj).2))=D:=hm;rw[j9]at hm;have ba11:=ba.mono (pQ.lt Bl (tys:=9::cj.tys) (by decide));have bb11:=bb.mono (pQ.lt Bl (tys:=42::eR.tys) (by decide));have af:=fun v q=>hk mY ({ kind:=4,table:=tb,names:=la,exprs:=lb,bB:=we }:aB) LY v hm.symm Vm (l9.trans Bl) q (by omega);have af:=af _ ⟨none,0,0,none,0,0,ab,an,ac,gb,gn,gc,none,0,0,wb,wn,wc,rfl,Sl.nil,Sl.nil,ba11.sl,bb11.sl,Sl.nil,HJ⟩;cbv;exact af
set_option maxHeartbeats 16000000
def NU(p:PS):List dp×PS:=match p.is (aC [42])with
 | (true,p)=>([],p)
 | (false,p)=>gG aj (p.ws.length+1) [] p
def NT(p:PS):ByteArray×PS:=(p.bS [(aC [102,114,111,109])]).name aj
def K8(p:PS):(ByteArray×List Nd)×PS:=match p.is (aC [106,111,105,110])with
 | (true,p)=>let a:=p.name aj;let e:=(a.2.bS [(aC [111,110])]).expr aj;((a.1,e.1),e.2)
 | (false,p)=>((b0,[]),p)
def PG(p:PS):ByteArray×PS:=match p.is (aC [103,114,111,117,112])with
 | (true,p)=>(p.bS [(aC [98,121])]).column aj
 | (false,p)=>(b0,p)
def Uy(p:PS):(ByteArray×Bool)×PS:=match p.is (aC [111,114,100,101,114])with
 | (true,p)=>let c:=(p.bS [(aC [98,121])]).column aj;let d:=c.2.is (aC [100,101,115,99]);((c.1,d.1),d.2)
 | (false,p)=>((b0,false),p)
def Ux(p:PS):Int×PS:=match p.is (aC [108,105,109,105,116])with
 | (true,p)=>(match p.ws with
  |w::r=>if w.k=2 then(w.n,({ p with ws:=r }:PS))else((-1:Int),p.fail 6)
  | []=>(-1,p))
 | (false,p)=>(-1,p)
theorem FN{s:PS}{l:List dp}{s1 s2 s3 s4 s5 s6 s7:PS}{tb jn gr od:ByteArray}{on wh:List Nd}{ds:Bool}{lm:Int}(e1:NU s=(l,s1))(e2:NT s1=(tb,s2))(e3:K8 s2=((jn,on),s3))(e4:s3.bB aj=(wh,s4))(e5:PG s4=(gr,s5))(e6:Uy s5=((od,ds),s6))(e7:Ux s6=(lm,s7)):
 s.choose aj=({ kind:=6,table:=tb,join:=jn,on:=on,items:=l,bB:=wh,group:=gr,order:=od,desc:=ds,fE:=lm },s7):=by
 have g1:(let st:=s.is (aC [42]);if st.1 then([],st.2)else gG aj (st.2.ws.length+1) [] st.2)=(l,s1):=by
  rw[<-e1];unfold NU;rcases s.is (aC [42])with ⟨t,q⟩
  cases t<;>rfl
 have g3:(let j:=s2.is (aC [106,111,105,110]);if j.1 then(let a:=j.2.name aj;let p:=a.2.bS [(aC [111,110])];let e:=p.expr aj;((a.1,e.1),e.2))else((b0,[]),j.2))=((jn,on),s3):=by
  rw[<-e3];unfold K8;rcases s2.is (aC [106,111,105,110])with ⟨t,q⟩
  cases t<;>rfl
 have g5:(let g:=s4.is (aC [103,114,111,117,112]);if g.1 then(g.2.bS [(aC [98,121])]).column aj else(b0,g.2))=(gr,s5):=by
  rw[<-e5];unfold PG;rcases s4.is (aC [103,114,111,117,112])with ⟨t,q⟩
  cases t<;>rfl
 have g6:(let o:=s5.is (aC [111,114,100,101,114]);if o.1 then(let c:=(o.2.bS [(aC [98,121])]).column aj;let d:=c.2.is (aC [100,101,115,99]);((c.1,d.1),d.2))else((b0,false),o.2))=((od,ds),s6):=by
  rw[<-e6];unfold Uy;rcases s5.is (aC [111,114,100,101,114])with ⟨t,q⟩
  cases t<;>rfl
 have g7:(let li:=s6.is (aC [108,105,109,105,116]);if li.1 then(match li.2.ws with
  |w::r=>if w.k=2 then(w.n,({ li.2 with ws:=r }:PS))else((-1:Int),li.2.fail 6)
  | []=>(-1,li.2))else(-1,li.2))=(lm,s7):=by
  rw[<-e7];unfold Ux;rcases s6.is (aC [108,105,109,105,116])with ⟨t,q⟩
  cases t<;>rfl
 have e2:(s1.bS [(aC [102,114,111,109])]).name aj=(tb,s2):=e2;have fin:∀X:Int×PS,X=(lm,s7)->(({ kind:=6,table:=tb,join:=jn,on:=on,items:=l,bB:=wh,group:=gr,order:=od,desc:=ds,fE:=X.1 }:aB),X.2)=({ kind:=6,table:=tb,join:=jn,on:=on,items:=l,bB:=wh,group:=gr,order:=od,desc:=ds,fE:=lm },s7):=by rintro _ rfl;rfl
 unfold PS.choose;simp only[]at g1 g3 g5 g6 g7 |-;simp only[g1,e2,g3,e4,g5,g6];exact fin _ g7
theorem XD{s:PS}{q:PS}(e:s.is (aC [42])=(false,q)):NU s=gG aj (q.ws.length+1) [] q:=by unfold NU;rw[e]
def CI1(s:PS)(pb:Nat)(h:ad)(g:Option Addr×Nat×Nat)(h':ad):Prop:=∃l s1,NU s=(l,s1)/\Sl 276 bW h' (.slice g.1 g.2.1 g.2.2) l/\PT h' pb s1/\mh pb h h'/\s1.ws.length<=s.ws.length
abbrev G13:=(Option Addr×Nat×Nat)×ByteArray×ByteArray×Option Addr×Nat×Nat
def CI2(s:PS)(pb:Nat)(h:ad)(g:G13)(h':ad):Prop:=∃l s1 s2 on s3,NU s=(l,s1)/\NT s1=(g.2.1,s2)/\K8 s2=((g.2.2.1,on),s3)/\Sl 276 bW h' (.slice g.1.1 g.1.2.1 g.1.2.2) l/\Sl 325 cT h' (.slice g.2.2.2.1 g.2.2.2.2.1 g.2.2.2.2.2) on/\PT h' pb s3/\mh pb h h'/\s3.ws.length<=s.ws.length
abbrev H13:=G13×(Option Addr×Nat×Nat)×ByteArray
def CI3(s:PS)(pb:Nat)(h:ad)(g:H13)(h':ad):Prop:=∃l s1 s2 on s3 wh s4 s5,NU s=(l,s1)/\NT s1=(g.1.2.1,s2)/\K8 s2=((g.1.2.2.1,on),s3)/\s3.bB aj=(wh,s4)/\PG s4=(g.2.2,s5)/\Sl 276 bW h' (.slice g.1.1.1 g.1.1.2.1 g.1.1.2.2) l/\Sl 325 cT h' (.slice g.1.2.2.2.1 g.1.2.2.2.2.1 g.1.2.2.2.2.2) on/\Sl 325 cT h' (.slice g.2.1.1 g.2.1.2.1 g.2.1.2.2) wh/\PT h' pb s5/\mh pb h h'/\s5.ws.length<=s.ws.length
abbrev K13:=H13×ByteArray×Bool
def CI4(s:PS)(pb:Nat)(h:ad)(g:K13)(h':ad):Prop:=∃l s1 s2 on s3 wh s4 s5 s6,NU s=(l,s1)/\NT s1=(g.1.1.2.1,s2)/\K8 s2=((g.1.1.2.2.1,on),s3)/\s3.bB aj=(wh,s4)/\PG s4=(g.1.2.2,s5)/\Uy s5=((g.2.1,g.2.2),s6)/\Sl 276 bW h' (.slice g.1.1.1.1 g.1.1.1.2.1 g.1.1.1.2.2) l/\Sl 325 cT h' (.slice g.1.1.2.2.2.1 g.1.1.2.2.2.2.1 g.1.1.2.2.2.2.2) on/\Sl 325 cT h' (.slice g.1.2.1.1 g.1.2.1.2.1 g.1.2.1.2.2) wh/\PT h' pb s6/\mh pb h h'/\s6.ws.length<=s.ws.length
theorem NS{h:ad}{pb:Nat}{s:PS}(hp:PT h pb s){k:Value->ad->Prop}
 (hk:∀h' st s' v,s.choose aj=(st,s')->PT h' pb s'->mh pb h h'->PL h' v st->s'.ws.length<=s.ws.length->k v h'):
 Ct 127 [.pointer (some ⟨pb,0,none⟩)] h k:=by
 obtain⟨A,hA⟩:=Ar.ex;obtain⟨C1,Po⟩:∃C:Option Addr×Nat×Nat->ad->Prop,∀g h',C g h'=CI1 s pb h g h':=⟨_,fun _ _=>rfl⟩;obtain⟨C2,Pm⟩:∃C:G13->ad->Prop,∀g h',C g h'=CI2 s pb h g h':=⟨_,fun _ _=>rfl⟩;obtain⟨C3,KZ⟩:∃C:H13->ad->Prop,∀g h',C g h'=CI3 s pb h g h':=⟨_,fun _ _=>rfl⟩;obtain⟨C4,GC⟩:∃C:K13->ad->Prop,∀g h',C g h'=CI4 s pb h g h':=⟨_,fun _ _=>rfl⟩;refine xN A [false,false,true,false,false,true,false,true,true] (aq ZR.ax ZR.bm) Tryz.func127 rfl (by kernel_rfl) ?_;cbv;refine Bj.go (G:=Option Addr×Nat×Nat) (fun _=>[]) (fun g=>[(3,[.int .i64 6,.string ⟨#[]⟩,.slice none 0 0,.int .i64 0,.bool false,.string ⟨#[]⟩,.string ⟨#[]⟩,.slice none 0 0,.slice none 0 0,.slice none 0 0,.slice g.1 g.2.1 g.2.2,.slice none 0 0,.string ⟨#[]⟩,.string ⟨#[]⟩,.bool false,.int .i64 (-1),.string ⟨#[]⟩]),(2,[.int .i64 0,.string ⟨#[]⟩,.slice none 0 0,.int .i64 0,.bool false,.string ⟨#[]⟩,.string ⟨#[]⟩,.slice none 0 0,.slice none 0 0,.slice none 0 0,.slice none 0 0,.slice none 0 0,.string ⟨#[]⟩,.string ⟨#[]⟩,.bool false,.int .i64 0,.string ⟨#[]⟩])]) C1 ?_ ?_
 ·cbv;refine uY hp (aC [42]) (fun h1 t s1 e1 p1 l1 ed gN=>?_);have pE:A .not t= !t:=by rw[hA.not]
  cases t with
  |true=>
   have ed:=ed rfl;have hC:C1 (none,0,0) h1:=by rw[Po];exact⟨[],s1,by unfold NU;rw[e1],Sl.nil,p1,l1,by omega⟩
   clear Po Pm KZ GC;cbv;rw[pE];cbv;refine⟨(_,_,_),⟨?_,?_,?_⟩,hC⟩
   ·cbv
   ·cbv
   ·cbv
  |false=>
   obtain⟨eE,dU⟩:=gN rfl;have hch:=XD e1;subst eE dU;obtain⟨R,hR⟩:∃R,gG aj (s1.ws.length+1) [] s1=R:=⟨_,rfl⟩;rw[hR]at hch;obtain⟨I,bh⟩:∃I:Nat->Int×(Option Addr×Nat×Nat)->ad->Prop,∀m g h',I m g h'=∃kk la s5 fu,aP g.1 kk/\cK 276 bW (Sx.cI h1 pb) h' (.slice g.2.1 g.2.2.1 g.2.2.2) la/\la.length<=6/\PT h' pb s5/\mh pb h1 h'/\s5.ws.length<=s1.ws.length/\s5.ws.length<=fu/\kk<=10+la.length/\
    ((kk=0/\la=[]/\s5=s1/\gG aj (fu+1) [] s5=R/\m=s5.ws.length+1)\/(kk≠0/\(match s5.more la.length with
      | (true,p)=>gG aj fu la p
      | (false,p)=>(la,p))=R/\m=s5.ws.length)):=⟨_,fun _ _ _=>rfl⟩
   have hJ:I (s1.ws.length+1) (0,(none,0,0)) h1:=by rw[bh];exact⟨0,[],s1,s1.ws.length,⟨rfl⟩,cK.nil,by decide,p1,mh.refl _ _,Nat.le_refl _,Nat.le_refl _,Nat.zero_le _,.inl ⟨rfl,rfl,rfl,hR,rfl⟩⟩
   clear hR Pm KZ GC l1;have Po:∀g h',CI1 s1 pb h1 g h'->C1 g h':=fun g h' q=>by rw[Po];exact q
   cbv;rw[pE];cbv;refine aZ.go (G:=Int×(Option Addr×Nat×Nat)) (fun g=>[(4,.v (.int .i64 g.1))]) (fun g=>[(3,[.int .i64 6,.string ⟨#[]⟩,.slice none 0 0,.int .i64 0,.bool false,.string ⟨#[]⟩,.string ⟨#[]⟩,.slice none 0 0,.slice none 0 0,.slice none 0 0,.slice g.2.1 g.2.2.1 g.2.2.2,.slice none 0 0,.string ⟨#[]⟩,.string ⟨#[]⟩,.bool false,.int .i64 (-1),.string ⟨#[]⟩]),(2,[.int .i64 0,.string ⟨#[]⟩,.slice none 0 0,.int .i64 0,.bool false,.string ⟨#[]⟩,.string ⟨#[]⟩,.slice none 0 0,.slice none 0 0,.slice none 0 0,.slice none 0 0,.slice none 0 0,.string ⟨#[]⟩,.string ⟨#[]⟩,.bool false,.int .i64 0,.string ⟨#[]⟩])]) (fun m g h'=>I m g h') (s1.ws.length+1) (0,(none,0,0)) ⟨?_,?_,?_⟩ hJ ?_
   ·cbv
   ·cbv
   ·cbv
   ·intro m g h9 hI;rw[bh]at hI;cbv;obtain⟨kk,la,s9,fu,hz,ba,O7,p9,l9,w9,RU,Jc,dn⟩:=hI;obtain⟨z,ab,an,ac⟩:=g;have hz:aP z kk:=hz;have ba:cK 276 bW (Sx.cI h1 pb) h9 (.slice ab an ac) la:=ba;have KY:=ba.sl.len;have f1:A .aF .eql z 0=decide (kk=0):=by have:=hz.eq;rw[aw A,decide_eq_decide];omega
    have dz:=hz.succ (A:=A) (by omega);rw[f1];rcases dn with ⟨rfl,rfl,rfl,he,Ff⟩ | ⟨Gt,he,Ff⟩
    ·obtain⟨la,Fh⟩:∃l:List dp,l=[]:=⟨_,rfl⟩;obtain⟨kk,Jb⟩:∃l:Nat,l=0:=⟨_,rfl⟩;have hdk:decide ((0:Nat)=0)=true:=rfl;rw[<-Fh]at ba he KY O7;rw[<-Fh]at Jc;have hl5:la.length<6:=by rw[Fh];show 0<6;decide
     rw[<-Jb]at dz;rw[hdk];cbv;refine OQ p9 (fun So eb en ec iv EF S5 z20 Qv E2 q20 w20=>?_);have vR:=ba.mono (p9.lt E2 (tys:=276::bW.tys) (by decide));cbv;intro Ia CG Su JN;have yG:Le So CG:=by rw[JN];exact Le.set Su
     have f21:=(congrFun JN Ia).trans ae;have GX:Sl 276 bW CG (.slice (some ⟨Ia,0,none⟩) 1 1) [iv]:=bp (s:=bW) f21 ⟨_,_,_,rfl,q20.mono (yG.t _)⟩;have Ca:Le (Sx.cI h1 pb) CG:=(l9.trans E2).trans yG.ON;cbv;refine(vR.mono (yG.t _)).append GX (by decide) rfl (by decide) (by omega) Ca (fun QP To Tj Np S2 B9 t22 Q3 vQ=>?_);have HT:=Qv.of ((yG.t _).trans (t22 _ (by decide)));have B9:mh pb h1 Np:=B9;have bl:gG aj (fu+1) la s9=match EF.more (la++[iv]).length with
      | (true,p)=>gG aj fu (la++[iv]) p
      | (false,p)=>(la++[iv],p):=by
      rw[gG];simp only[S5];rfl
     have Se:I EF.ws.length (A .bA .add .i64 z 1,(To,QP,Tj)) Np:=by rw[bh];exact⟨kk+1,la++[iv],EF,fu,dz,vQ,by rw[List.length_append,List.length_singleton];omega,HT,B9,by omega,by omega,by rw[List.length_append,List.length_singleton];omega,.inr ⟨by omega,bl.symm.trans he,rfl⟩⟩
     have aI:EF.ws.length<m:=by omega
     clear bh hJ he vR vQ GX f21 t22 Q3 bl;cbv;refine⟨EF.ws.length,(_,_,_,_),aI,⟨?_,?_,?_⟩,Se⟩
     ·cbv
     ·cbv
     ·cbv
    ·rw[decide_eq_false Gt];have E6:aP (A .nat an) la.length:=by rw[<-KY];exact aP.nat an
     cbv;refine Ie p9 E6 (fun fh t wB gJ pQ mE Kz lU=>?_);rw[gJ]at he;have ba:=ba.mono (p9.lt mE (tys:=276::bW.tys) (by decide));have l9:=l9.trans mE;cases t with
     |true=>
      obtain⟨lU,hl5⟩:=lU rfl;replace he:gG aj fu la wB=R:=he;obtain⟨fu,rfl⟩:∃AK,fu=AK+1:=⟨fu-1,by omega⟩;cbv;refine OQ pQ (fun So eb en ec iv EF S5 z20 Qv E2 q20 w20=>?_);have vR:=ba.mono (pQ.lt E2 (tys:=276::bW.tys) (by decide));cbv;intro Ia CG Su JN;have yG:Le So CG:=by rw[JN];exact Le.set Su
      have f21:=(congrFun JN Ia).trans ae;have GX:Sl 276 bW CG (.slice (some ⟨Ia,0,none⟩) 1 1) [iv]:=bp (s:=bW) f21 ⟨_,_,_,rfl,q20.mono (yG.t _)⟩;have Ca:Le (Sx.cI h1 pb) CG:=(l9.trans E2).trans yG.ON;cbv;refine(vR.mono (yG.t _)).append GX (by decide) rfl (by decide) (by omega) Ca (fun QP To Tj Np S2 B9 t22 Q3 vQ=>?_);have HT:=Qv.of ((yG.t _).trans (t22 _ (by decide)));have B9:mh pb h1 Np:=B9;have bl:gG aj (fu+1) la wB=match EF.more (la++[iv]).length with
       | (true,p)=>gG aj fu (la++[iv]) p
       | (false,p)=>(la++[iv],p):=by
       rw[gG];simp only[S5];rfl
      have Se:I EF.ws.length (A .bA .add .i64 z 1,(To,QP,Tj)) Np:=by rw[bh];exact⟨kk+1,la++[iv],EF,fu,dz,vQ,by rw[List.length_append,List.length_singleton];omega,HT,B9,by omega,by omega,by rw[List.length_append,List.length_singleton];omega,.inr ⟨by omega,bl.symm.trans he,rfl⟩⟩
      have aI:EF.ws.length<m:=by omega
      clear bh hJ he vR vQ GX f21 t22 Q3 bl;cbv;refine⟨EF.ws.length,(_,_,_,_),aI,⟨?_,?_,?_⟩,Se⟩
      ·cbv
      ·cbv
      ·cbv
     |false=>
      replace he:(la,wB)=R:=he;subst he;have hC:=Po (ab,an,ac) fh ⟨la,wB,hch,ba.sl,pQ,l9,by omega⟩;clear bh hJ Po;cbv;refine⟨(_,_,_),⟨?_,?_,?_⟩,hC⟩
      ·cbv
      ·cbv
      ·cbv
 ·intro g h1 hC;rw[Po]at hC;obtain⟨l,s1,q1,ql,p1,l1,w1⟩:=hC;obtain⟨ib,Ci,ic⟩:=g;have ql:Sl 276 bW h1 (.slice ib Ci ic) l:=ql;clear Po;cbv;intro n2 h2 g2 e2;refine hG p1 g2 [(aC [102,114,111,109])] e2 rfl (by decide) (fun h3 s3 e3 p3 l3 w3=>?_);cbv;refine pa p3 (fun h4 tb s4 e4 p4 l4 w4 z4=>?_);have q2:NT s1=(tb,s4):=by unfold NT;rw[e3,e4]
  have Qh:=ql.mono (p1.lt (l3.trans l4) (tys:=276::bW.tys) (by decide));have mf:=(l1.trans l3).trans l4;have UF:s4.ws.length<=s.ws.length:=by omega
  clear ql;cbv;refine Bj.go (G:=G13) (fun _=>[]) (fun g=>[(3,[.int .i64 6,.string ⟨#[]⟩,.slice none 0 0,.int .i64 0,.bool false,.string g.2.1,.string g.2.2.1,.slice g.2.2.2.1 g.2.2.2.2.1 g.2.2.2.2.2,.slice none 0 0,.slice none 0 0,.slice g.1.1 g.1.2.1 g.1.2.2,.slice none 0 0,.string ⟨#[]⟩,.string ⟨#[]⟩,.bool false,.int .i64 (-1),.string ⟨#[]⟩]),(2,[.int .i64 0,.string ⟨#[]⟩,.slice none 0 0,.int .i64 0,.bool false,.string ⟨#[]⟩,.string ⟨#[]⟩,.slice none 0 0,.slice none 0 0,.slice none 0 0,.slice none 0 0,.slice none 0 0,.string ⟨#[]⟩,.string ⟨#[]⟩,.bool false,.int .i64 0,.string ⟨#[]⟩])]) C2 ?_ ?_
  ·cbv;refine uY p4 (aC [106,111,105,110]) (fun h5 t s5 e5 p5 l5 qJ sm5=>?_);cases t with
   |false=>
    obtain⟨rfl,rfl⟩:=sm5 rfl;have hC:C2 ((ib,Ci,ic),tb,⟨#[]⟩,none,0,0) h5:=by rw[Pm];exact⟨l,s1,s5,[],s5,q1,q2,by unfold K8;rw[e5];rfl,Qh,Sl.nil,p5,mf,UF⟩
    clear Pm KZ GC;cbv;refine⟨((_,_,_),_,_,_,_,_),⟨?_,?_,?_⟩,hC⟩
    ·cbv
    ·cbv
    ·cbv
   |true=>
    have qJ:=qJ rfl;have ql5:=Qh.mono (p4.lt l5 (tys:=276::bW.tys) (by decide));cbv;refine pa p5 (fun h6 jn s6 e6 p6 l6 w6 z6=>?_);have ql6:=ql5.mono (p5.lt l6 (tys:=276::bW.tys) (by decide));cbv;intro n7 h7 g7 e7;refine hG p6 g7 [(aC [111,110])] e7 rfl (by decide) (fun h8 s8 e8 p8 l8 w8=>?_);have ql8:=ql6.mono (p6.lt l8 (tys:=276::bW.tys) (by decide));cbv;refine vD p8 (fun h9 ob on oc ov s9 e9 z9 p9 l9 qo w9=>?_);have ql9:=ql8.mono (p8.lt l9 (tys:=276::bW.tys) (by decide));have hC:C2 ((ib,Ci,ic),tb,jn,ob,on,oc) h9:=by rw[Pm];exact⟨l,s1,s4,ov,s9,q1,q2,by unfold K8;rw[e5];simp only[e6,e8,e9],ql9,qo,p9,(((mf.trans l5).trans l6).trans l8).trans l9,by omega⟩
    clear Pm KZ GC;cbv;refine⟨((_,_,_),_,_,_,_,_),⟨?_,?_,?_⟩,hC⟩
    ·cbv
    ·cbv
    ·cbv
  ·intro g h5 hC;clear Qh p4 mf UF q1 q2 e2 e3 e4 p3 l3 l4 w3 w4 z4 p1 l1 w1;rw[Pm]at hC;obtain⟨l,s1,s2,on,s3,q1,q2,q3,ql,qo,p3,l3,w3⟩:=hC;obtain⟨⟨ib,Ci,ic⟩,tb,jn,ob,HZ,oc⟩:=g;have ql:Sl 276 bW h5 (.slice ib Ci ic) l:=ql;have qo:Sl 325 cT h5 (.slice ob HZ oc) on:=qo;have q2:NT s1=(tb,s2):=q2;have q3:K8 s2=((jn,on),s3):=q3;clear Pm;cbv;refine BA p3 (fun h6 wb wn wc wh s4 e4 z4 p4 l4 qw w4=>?_);have Qh:=ql.mono (p3.lt l4 (tys:=276::bW.tys) (by decide));have BU:=qo.mono (p3.lt l4 (tys:=325::cT.tys) (by decide));have mf:=l3.trans l4;have UF:s4.ws.length<=s.ws.length:=by omega
   clear ql qo;cbv;refine Bj.go (G:=H13) (fun _=>[]) (fun g=>[(3,[.int .i64 6,.string ⟨#[]⟩,.slice none 0 0,.int .i64 0,.bool false,.string g.1.2.1,.string g.1.2.2.1,.slice g.1.2.2.2.1 g.1.2.2.2.2.1 g.1.2.2.2.2.2,.slice none 0 0,.slice none 0 0,.slice g.1.1.1 g.1.1.2.1 g.1.1.2.2,.slice g.2.1.1 g.2.1.2.1 g.2.1.2.2,.string g.2.2,.string ⟨#[]⟩,.bool false,.int .i64 (-1),.string ⟨#[]⟩]),(2,[.int .i64 0,.string ⟨#[]⟩,.slice none 0 0,.int .i64 0,.bool false,.string ⟨#[]⟩,.string ⟨#[]⟩,.slice none 0 0,.slice none 0 0,.slice none 0 0,.slice none 0 0,.slice none 0 0,.string ⟨#[]⟩,.string ⟨#[]⟩,.bool false,.int .i64 0,.string ⟨#[]⟩])]) C3 ?_ ?_
   ·cbv;refine uY p4 (aC [103,114,111,117,112]) (fun h7 t s5 e5 p5 l5 qJ sm5=>?_);cases t with
    |false=>
     obtain⟨rfl,rfl⟩:=sm5 rfl;have hC:C3 (((ib,Ci,ic),tb,jn,ob,HZ,oc),(wb,wn,wc),⟨#[]⟩) h7:=by rw[KZ];exact⟨l,s1,s2,on,s3,wh,s5,s5,q1,q2,q3,e4,by unfold PG;rw[e5];rfl,Qh,BU,qw,p5,mf,UF⟩
     clear KZ GC;cbv;refine⟨(((_,_,_),_,_,_,_,_),(_,_,_),_),⟨?_,?_,?_⟩,hC⟩
     ·cbv
     ·cbv
     ·cbv
    |true=>
     have qJ:=qJ rfl;cbv;intro n8 h8 g8 e8;refine hG p5 g8 [(aC [98,121])] e8 rfl (by decide) (fun h9 s9 e9 p9 l9 w9=>?_);cbv;refine D4 p9 (fun fh gr wB gJ pQ mE Kz z10=>?_);have lx:=(l5.trans l9).trans mE;have hC:C3 (((ib,Ci,ic),tb,jn,ob,HZ,oc),(wb,wn,wc),gr) fh:=by rw[KZ];exact⟨l,s1,s2,on,s3,wh,s4,wB,q1,q2,q3,e4,by unfold PG;rw[e5];simp only[e9,gJ],Qh.mono (p4.lt lx (tys:=276::bW.tys) (by decide)),BU.mono (p4.lt lx (tys:=325::cT.tys) (by decide)),qw.mono (p4.lt lx (tys:=325::cT.tys) (by decide)),pQ,mf.trans lx,by omega⟩
     clear KZ GC;cbv;refine⟨(((_,_,_),_,_,_,_,_),(_,_,_),_),⟨?_,?_,?_⟩,hC⟩
     ·cbv
     ·cbv
     ·cbv
   ·intro g h7 hC;clear Qh BU qw p4 mf UF q1 q2 q3 e4 l4 w4 z4 p3 l3 w3;rw[KZ]at hC;obtain⟨l,s1,s2,on,s3,wh,s4,s5,q1,q2,q3,q4,q5,ql,qo,qw,p5,l5,w5⟩:=hC;obtain⟨⟨⟨ib,Ci,ic⟩,tb,jn,ob,HZ,oc⟩,⟨wb,wn,wc⟩,gr⟩:=g;have ql:Sl 276 bW h7 (.slice ib Ci ic) l:=ql;have qo:Sl 325 cT h7 (.slice ob HZ oc) on:=qo;have qw:Sl 325 cT h7 (.slice wb wn wc) wh:=qw;have q2:NT s1=(tb,s2):=q2;have q3:K8 s2=((jn,on),s3):=q3;have q5:PG s4=(gr,s5):=q5;clear KZ;cbv;refine Bj.go (G:=K13) (fun _=>[]) (fun g=>[(3,[.int .i64 6,.string ⟨#[]⟩,.slice none 0 0,.int .i64 0,.bool false,.string g.1.1.2.1,.string g.1.1.2.2.1,.slice g.1.1.2.2.2.1 g.1.1.2.2.2.2.1 g.1.1.2.2.2.2.2,.slice none 0 0,.slice none 0 0,.slice g.1.1.1.1 g.1.1.1.2.1 g.1.1.1.2.2,.slice g.1.2.1.1 g.1.2.1.2.1 g.1.2.1.2.2,.string g.1.2.2,.string g.2.1,.bool g.2.2,.int .i64 (-1),.string ⟨#[]⟩]),(2,[.int .i64 0,.string ⟨#[]⟩,.slice none 0 0,.int .i64 0,.bool false,.string ⟨#[]⟩,.string ⟨#[]⟩,.slice none 0 0,.slice none 0 0,.slice none 0 0,.slice none 0 0,.slice none 0 0,.string ⟨#[]⟩,.string ⟨#[]⟩,.bool false,.int .i64 0,.string ⟨#[]⟩])]) C4 ?_ ?_
    ·cbv;refine uY p5 (aC [111,114,100,101,114]) (fun h8 t s6 e6 p6 l6 B4 sm6=>?_);cases t with
     |false=>
      obtain⟨rfl,rfl⟩:=sm6 rfl;have hC:C4 ((((ib,Ci,ic),tb,jn,ob,HZ,oc),(wb,wn,wc),gr),⟨#[]⟩,false) h8:=by rw[GC];exact⟨l,s1,s2,on,s3,wh,s4,s6,s6,q1,q2,q3,q4,q5,by unfold Uy;rw[e6];rfl,ql,qo,qw,p6,l5,w5⟩
      clear GC;cbv;refine⟨((((_,_,_),_,_,_,_,_),(_,_,_),_),_,_),⟨?_,?_,?_⟩,hC⟩
      ·cbv
      ·cbv
      ·cbv
     |true=>
      have B4:=B4 rfl;cbv;intro n9 h9 g9 e9;refine hG p6 g9 [(aC [98,121])] e9 rfl (by decide) (fun fh wB gJ pQ mE Kz=>?_);cbv;refine D4 pQ (fun mY od LY j9 Vm Bl w11 z11=>?_);cbv;refine uY Vm (aC [100,101,115,99]) (fun tM ds Gk wP p12 fH lt12 sm12=>?_);have lx:=((l6.trans mE).trans Bl).trans fH;have w12:Gk.ws.length<=LY.ws.length:=by
       cases ds with
       |true=>exact Nat.le_of_lt (lt12 rfl)
       |false=>rw[(sm12 rfl).1];exact Nat.le_refl _
      have hC:C4 ((((ib,Ci,ic),tb,jn,ob,HZ,oc),(wb,wn,wc),gr),od,ds) tM:=by rw[GC];exact⟨l,s1,s2,on,s3,wh,s4,s5,Gk,q1,q2,q3,q4,q5,by unfold Uy;rw[e6];simp only[gJ,j9,wP],ql.mono (p5.lt lx (tys:=276::bW.tys) (by decide)),qo.mono (p5.lt lx (tys:=325::cT.tys) (by decide)),qw.mono (p5.lt lx (tys:=325::cT.tys) (by decide)),p12,l5.trans lx,by omega⟩
      clear GC;cbv;refine⟨((((_,_,_),_,_,_,_,_),(_,_,_),_),_,_),⟨?_,?_,?_⟩,hC⟩
      ·cbv
      ·cbv
      ·cbv
    ·intro g h8 hC;clear ql qo qw p5 l5 w5 q1 q2 q3 q4 q5;rw[GC]at hC;obtain⟨l,s1,s2,on,s3,wh,s4,s5,s6,q1,q2,q3,q4,q5,q6,ql,qo,qw,p6,l6,w6⟩:=hC;obtain⟨⟨⟨⟨ib,Ci,ic⟩,tb,jn,ob,HZ,oc⟩,⟨wb,wn,wc⟩,gr⟩,od,ds⟩:=g;have ql:Sl 276 bW h8 (.slice ib Ci ic) l:=ql;have qo:Sl 325 cT h8 (.slice ob HZ oc) on:=qo;have qw:Sl 325 cT h8 (.slice wb wn wc) wh:=qw;have q2:NT s1=(tb,s2):=q2;have q3:K8 s2=((jn,on),s3):=q3;have q5:PG s4=(gr,s5):=q5;have q6:Uy s5=((od,ds),s6):=q6;clear GC;have af:∀h' lm s7,Ux s6=(lm,s7)->PT h' pb s7->mh pb h8 h'->s7.ws.length<=s6.ws.length->k (stV 6 ⟨#[]⟩ none 0 0 0 false tb jn ob HZ oc none 0 0 none 0 0 ib Ci ic wb wn wc gr od ds lm ⟨#[]⟩) h':=fun h' lm s7 e p l w=>
      hk h' _ s7 _ (FN q1 q2 q3 q4 q5 q6 e) p (l6.trans l) ⟨none,0,0,ob,HZ,oc,none,0,0,none,0,0,ib,Ci,ic,wb,wn,wc,rfl,Sl.nil,qo.mono (p6.lt l (tys:=325::cT.tys) (by decide)),Sl.nil,Sl.nil,ql.mono (p6.lt l (tys:=276::bW.tys) (by decide)),qw.mono (p6.lt l (tys:=325::cT.tys) (by decide))⟩ (by omega)
     clear hk ql qo qw;cbv;refine uY p6 (aC [108,105,109,105,116]) (fun h9 t s7 e7 p7 l7 Gl sm7=>?_);cases t with
     |false=>have af:=af h9 (-1) s7 (by unfold Ux;rw[e7]) p7 l7 (by rw[(sm7 rfl).1];exact Nat.le_refl _);cbv;exact af
     |true=>
      have Gl:=Gl rfl;refine p7.out.elim (fun wb2 wn2 wc2 CR en2 ec2 at_ i all w r g qw2 hz hw mS hr hi ML qe=>?_);have cy:wb2.isSome=true/\0<=at_/\at_<(wn2:Int):=⟨qw2.bF (by omega),hz.ix hi⟩;have eX:=hz.eq;have dz:=hz.succ (A:=A) (by omega);obtain⟨wk,wN,wS⟩:=w;have f1:A .aF .neq wk 2=decide (wk≠2):=ay A ..;have h7:Ux s6=if wk=2 then(wN,({ s7 with ws:=r }:PS))else(-1,s7.fail 6):=by unfold Ux;rw[e7];simp only[mS]
      clear qe;cbv;rw[ai A];refine ar g rfl rfl ?_;cbv;rw[ai A];refine ar g rfl rfl ?_;cbv;refine⟨cy,?_⟩;cbv;refine qw2.load hw eX (fun cs aJ=>?_);have aJ:cs=[.int .i64 wk,.int .i64 wN,.string wS]:=aJ;subst aJ;cbv;rw[f1];by_cases pT:wk=2
      ·rw[if_pos pT]at h7;rw[decide_eq_false (by simpa using pT)];cbv;rw[ai A];refine ar g rfl rfl ?_;cbv;rw[ai A];refine eH g (by simp) (fun fh gJ=>?_);have pQ:=p7.out.step mS (by show wk≠0;omega) g hz dz gJ;have af:=af fh wN _ h7 pQ.pt (l7.trans (show mh pb h9 fh from pQ.le)) (by have:=congrArg List.length mS;rw[List.length_cons]at this;show r.length<=_;omega);cbv;exact af
      ·rw[if_neg pT]at h7;rw[decide_eq_true pT];cbv;refine DW p7 6 (fun fh pQ mE=>?_);have af:=af fh (-1) _ h7 pQ (l7.trans mE) (by rw[PS.rq];omega);cbv;exact af
theorem Dt(a b:By):aC a++aC b=aC (a++b):=by apply ByteArray.ext;rw[ByteArray.data_append];show a.toArray++b.toArray=(a++b).toArray;simp
theorem qI(a:By):(aC a).size=a.length:=by show a.toArray.size=_;simp
theorem um(c:UInt8)(r acc:By):fA (c::r) acc=match decide (c.toNat=39)with
 |false=>fA r (acc++[c])
 |true=>match r with
  | []=>if acc.length>60 then(([],[]),5)else((acc,[]),0)
  |d::r'=>match decide (d.toNat=39)with
   |true=>fA r' (acc++[39])
   |false=>if acc.length>60 then(([],[]),5)else((acc,d::r'),0):=by rw[fA.eq_def];rfl
theorem LD{s:ByteArray}(hs:s.size<=600){i:Nat}{t:By}(q:rJ s i t){z:Int}(hz:aP z i){h:ad}{k:Value->ad->Prop}
 (hk:∀v z' e rest,fA t []=((v,rest),e)->(e=0->∃j,aP z' j/\rJ s j rest)->k (.tuple #[.string (aC v),.int .i64 z',.int .i64 e]) h):
 Ct 214 [.string s,.int .i64 z] h k:=by
 obtain⟨A,hA⟩:=Ar.ex;have sA:aP (A .iH s) s.size:=⟨by rw[hA.iH]⟩;obtain⟨I,bh⟩:∃I:Nat->Int×ByteArray->ad->Prop,∀m g h',I m g h'=∃j t' acc,aP g.1 j/\rJ s j t'/\m=t'.length/\g.2=aC acc/\acc.length<=j/\fA t' acc=fA t []/\h'=h:=⟨_,fun _ _ _=>rfl⟩;have hJ:I t.length (z,⟨#[]⟩) h:=by rw[bh];exact⟨i,t,[],hz,q,rfl,rfl,Nat.zero_le _,rfl,rfl⟩
 refine ah A (aq Y2.ax Y2.bm) Tryz.func214 rfl (by kernel_rfl) ?_;cbv;refine aZ.go (G:=Int×ByteArray) (fun g=>[(1,.v (.int .i64 g.1)),(7,.v (.string g.2))]) (fun _=>[]) (fun m g h'=>I m g h') t.length (z,⟨#[]⟩) ⟨?_,?_,?_⟩ hJ ?_
 ·cbv
 ·cbv
 ·cbv
 ·intro m g h' hI;rw[bh]at hI;cbv;obtain⟨j,t',acc,hg,q',hm,Aw,hal,he,rfl⟩:=hI;obtain⟨z,out⟩:=g;have hg:aP z j:=hg;have Aw:out=aC acc:=Aw;have Ws:out.size=acc.length:=by rw[Aw,qI]
  have hl:=q'.len;have f1:A .aF .lss z (A .iH s)=decide (j<s.size):=hg.gE sA;rw[f1];cases t' with
  |nil=>
   have aI:¬j<s.size:=by have:([]:By).length=0:=rfl;omega
   have af:=hk [] 0 6 [] (by rw[<-he];rfl) (fun e=>absurd e (by decide));have af:k (.tuple #[.string ⟨#[]⟩,.int .i64 0,.int .i64 6]) h':=af;rw[decide_eq_false aI];cbv;exact af
  |cons c r=>
   have ra:(c::r).length=r.length+1:=rfl;have aI:j<s.size:=by omega
   have cy:0<=z/\z<(s.size:Int):=hg.ix aI;obtain⟨b,hb⟩:∃b,A .byte s z=b:=⟨_,rfl⟩;have pg:b=(c.toNat:Int):=by rw[<-hb];exact q'.byte hg
   have f2:A .aF .neq b 39= !decide (c.toNat=39):=by
    rw[ay A,pg];by_cases h:c.toNat=39
    ·simp[h]
    ·have:(c.toNat:Int)≠39:=by omega
     simp[h,this]
   have dz:=hg.succ (A:=A) (by omega);have jN:r.length<m:=by rw[hm];exact Nat.lt_succ_self _
   have hq:=q'.next;have DF:=um c r acc;rw[DF]at he;clear DF;rw[decide_eq_true aI];cbv;refine⟨cy,?_⟩;cbv;rw[hb,f2];clear f2;generalize decide (c.toNat=39)=u1 at *;cases u1 with
   |false=>
    replace he:fA r (acc++[c])=fA t []:=he;have dr:A .sub s z (A .bA .add .i64 z 1)=aC [c]:=q'.sub hg (n:=1) dz;have M5:0<=A .bA .add .i64 z 1/\A .bA .add .i64 z 1<=(s.size:Int)/\0<=z/\z<=A .bA .add .i64 z 1:=by have h1:=dz.eq;have h2:=hg.eq;omega
    have M6:((out.size+(aC [c]).size:Nat):Int)<=2^62:=by rw[qI];show((out.size+1:Nat):Int)<=_;omega
    obtain⟨z2,jT⟩:∃z2,A .bA .add .i64 z 1=z2:=⟨_,rfl⟩;rw[jT]at dr M5 dz;obtain⟨sb,Bo⟩:∃sb,aC [c]=sb:=⟨_,rfl⟩;have cU:I r.length (z2,A .cat out sb) h':=by rw[bh];refine⟨j+1,r,acc++[c],dz,hq,rfl,?_,by rw[List.length_append,List.length_singleton];omega,he,rfl⟩;show A .cat out sb=_;rw[<-Bo,hA.cat,Aw];exact Dt _ _
    rw[Bo]at dr M6;clear bh hJ hk he;cbv;rw[jT];refine⟨M5,?_⟩;cbv;rw[dr];refine⟨M6,?_⟩;cbv;rw[jT];refine⟨r.length,(_,_),jN,⟨?_,?_,?_⟩,cU⟩
    ·cbv
    ·cbv
    ·cbv
   |true=>
    obtain⟨z2,jT⟩:∃z2,A .bA .add .i64 z 1=z2:=⟨_,rfl⟩;rw[jT]at dz;have f3:A .aF .lss z2 (A .iH s)=decide (j+1<s.size):=dz.gE sA;have f4:A .aF .gtr (A .iH out) 60=decide (acc.length>60):=by rw[bH A,hA.iH];show decide ((out.size:Int)>60)=_;rw[decide_eq_decide,Ws];omega
    have iX:(if acc.length>60 then((([]:By),([]:By)),(5:Int))else((acc,r),0))=fA t []->if acc.length>60 then k (.tuple #[.string ⟨#[]⟩,.int .i64 0,.int .i64 5]) h' else k (.tuple #[.string out,.int .i64 z2,.int .i64 0]) h':=fun e=>by
     by_cases ph:acc.length>60
     ·rw[if_pos ph]at e |-;exact hk [] 0 5 [] e.symm (fun e=>absurd e (by decide))
     ·rw[if_neg ph]at e |-;rw[Aw];exact hk acc z2 0 r e.symm (fun _=>⟨j+1,dz,hq⟩)
    have hlq:=hq.len;cases r with
    |nil=>
     have Fg:¬j+1<s.size:=by have:([]:By).length=0:=rfl;omega
     have iX:=iX he;clear bh hJ hk he;rw[decide_eq_false Fg]at f3;cbv;rw[jT,f3];cbv;rw[f4];by_cases ph:acc.length>60
     ·rw[if_pos ph]at iX;rw[decide_eq_true ph];cbv;exact iX
     ·rw[if_neg ph]at iX;rw[decide_eq_false ph];cbv;rw[jT];exact iX
    |cons d r'=>
     have Bp:(d::r').length=r'.length+1:=rfl;have Fg:j+1<s.size:=by omega
     have wL:0<=z2/\z2<(s.size:Int):=dz.ix Fg;obtain⟨b2,iu⟩:∃b,A .byte s z2=b:=⟨_,rfl⟩;have hbc2:b2=(d.toNat:Int):=by rw[<-iu];exact hq.byte dz
     have f5:A .aF .eql b2 39=decide (d.toNat=39):=by rw[aw A,decide_eq_decide,hbc2];omega
     replace he:(match decide (d.toNat=39)with
      |true=>fA r' (acc++[39])
      |false=>if acc.length>60 then((([]:By),([]:By)),(5:Int))else((acc,d::r'),0))=fA t []:=he
     generalize decide (d.toNat=39)=u2 at *;rw[decide_eq_true Fg]at f3;cases u2 with
     |true=>
      replace he:fA r' (acc++[39])=fA t []:=he;have hq3:=hq.next;obtain⟨z3,IT⟩:∃z3,A .bA .add .i64 z 2=z3:=⟨_,rfl⟩;have hn3:aP z3 (j+1+1):=⟨by rw[<-IT,lr A _ _ (by have:=hg.eq;omega),hg.eq];omega⟩;have M6:((out.size+(aC [39]).size:Nat):Int)<=2^62:=by rw[qI];show((out.size+1:Nat):Int)<=_;omega
      have cU:I r'.length (z3,A .cat out ⟨#[39]⟩) h':=by rw[bh];refine⟨j+1+1,r',acc++[39],hn3,hq3,rfl,?_,by rw[List.length_append,List.length_singleton];omega,he,rfl⟩;show A .cat out (aC [39])=_;rw[hA.cat,Aw];exact Dt _ _
      have hlt4:r'.length<m:=by omega
      clear bh hJ hk he iX;cbv;rw[jT,f3];cbv;rw[jT];refine⟨wL,?_⟩;cbv;rw[iu,f5];cbv;refine⟨M6,?_⟩;cbv;rw[IT];refine⟨r'.length,(_,_),hlt4,⟨?_,?_,?_⟩,cU⟩
      ·cbv
      ·cbv
      ·cbv
     |false=>
      have iX:=iX he;clear bh hJ hk he;cbv;rw[jT,f3];cbv;rw[jT];refine⟨wL,?_⟩;cbv;rw[iu,f5];cbv;rw[f4];by_cases ph:acc.length>60
      ·rw[if_pos ph]at iX;rw[decide_eq_true ph];cbv;exact iX
      ·rw[if_neg ph]at iX;rw[decide_eq_false ph];cbv;rw[jT];exact iX
theorem Ds{a b:By}(h:aC a=aC b):a=b:=by have h1:=congrArg (fun s:ByteArray=>s.data.toList) h;simpa[aC]using h1
theorem UI(c:UInt8)(n:Nat)(hn:n<256):decide (aC [c]=aC [UInt8.ofNat n])=decide (c.toNat=n):=by
 rw[decide_eq_decide];constructor
 ·intro h;have h1:=Ds h;simp only[List.cons.injEq,and_true]at h1;rw[h1,UInt8.toNat_ofNat'];omega
 ·intro h;have:c=UInt8.ofNat n:=by apply UInt8.toNat_inj.1;rw[h,UInt8.toNat_ofNat'];omega
  rw[this]
theorem BF(c d:UInt8)(n m:Nat)(hn:n<256)(hm:m<256):decide (aC [c,d]=aC [UInt8.ofNat n,UInt8.ofNat m])=(decide (c.toNat=n)&&decide (d.toNat=m)):=by
 have e:∀(x:UInt8) (k:Nat),k<256->(x=UInt8.ofNat k↔x.toNat=k):=fun x k hk=>by
  constructor
  ·intro h;rw[h,UInt8.toNat_ofNat'];omega
  ·intro h;apply UInt8.toNat_inj.1;rw[h,UInt8.toNat_ofNat'];omega
 rw[<-Bool.decide_and,decide_eq_decide];constructor
 ·intro h;have h1:=Ds h;simp only[List.cons.injEq,and_true]at h1;exact⟨(e c n hn).1 h1.1,(e d m hm).1 h1.2⟩
 ·rintro⟨h1,h2⟩;rw[(e c n hn).2 h1,(e d m hm).2 h2]
theorem LQ{s:ByteArray}(hs:s.size<=600){i:Nat}{c:UInt8}{r:By}(q:rJ s i (c::r)){z:Int}(hz:aP z i){h:ad}{k:Value->ad->Prop}
 (hk:k (.string (aC ((c::r).take (gW (c::r))))) h):
 Ct 215 [.string s,.int .i64 z] h k:=by
 obtain⟨A,hA⟩:=Ar.ex;have sA:aP (A .iH s) s.size:=⟨by rw[hA.iH]⟩;have hl:=q.len;rw[List.length_cons]at hl;obtain⟨z1,mW⟩:∃z1,A .bA .add .i64 z 1=z1:=⟨_,rfl⟩;have oL:aP z1 (i+1):=by rw[<-mW];exact hz.succ (A:=A) (by omega)
 have f1:A .aF .lss z1 (A .iH s)=decide (i+1<s.size):=oL.gE sA;have IY:A .sub s z z1=aC [c]:=q.sub hz (n:=1) oL;have Az:0<=z1/\z1<=(s.size:Int)/\0<=z/\z<=z1:=by have h1:=oL.eq;have h2:=hz.eq;omega
 have wI:∀n,n<256->decide (aC [c]=aC [UInt8.ofNat n])=decide (c.toNat=n):=fun n hn=>UI c n hn;have g40:A .je .eql (aC [c]) ⟨#[40]⟩=decide (c.toNat=40):=by rw[bN A];exact wI 40 (by decide)
 have Xr:A .je .eql (aC [c]) ⟨#[41]⟩=decide (c.toNat=41):=by rw[bN A];exact wI 41 (by decide)
 have g44:A .je .eql (aC [c]) ⟨#[44]⟩=decide (c.toNat=44):=by rw[bN A];exact wI 44 (by decide)
 have g46:A .je .eql (aC [c]) ⟨#[46]⟩=decide (c.toNat=46):=by rw[bN A];exact wI 46 (by decide)
 have g42:A .je .eql (aC [c]) ⟨#[42]⟩=decide (c.toNat=42):=by rw[bN A];exact wI 42 (by decide)
 have g61:A .je .eql (aC [c]) ⟨#[61]⟩=decide (c.toNat=61):=by rw[bN A];exact wI 61 (by decide)
 have g60:A .je .eql (aC [c]) ⟨#[60]⟩=decide (c.toNat=60):=by rw[bN A];exact wI 60 (by decide)
 have g62:A .je .eql (aC [c]) ⟨#[62]⟩=decide (c.toNat=62):=by rw[bN A];exact wI 62 (by decide)
 have g43:A .je .eql (aC [c]) ⟨#[43]⟩=decide (c.toNat=43):=by rw[bN A];exact wI 43 (by decide)
 have g45:A .je .eql (aC [c]) ⟨#[45]⟩=decide (c.toNat=45):=by rw[bN A];exact wI 45 (by decide)
 obtain⟨sb,Bo⟩:∃sb,aC [c]=sb:=⟨_,rfl⟩;rw[Bo]at IY g40 Xr g44 g46 g42 g61 g60 g62 g43 g45;have OY:(kn.contains c.toNat=true->k (.string sb) h)->(kn.contains c.toNat=false->k (.string ⟨#[]⟩) h)->∀(j:Unit),True:=fun _ _ _=>trivial;refine ah A (aq Y1.ax Y1.bm) Tryz.func215 rfl (by kernel_rfl) ?_;cbv;rw[mW,f1];cases r with
 |nil=>
  have aI:¬i+1<s.size:=by have:([]:By).length=0:=rfl;omega
  have eB:kn.contains c.toNat=true->k (.string sb) h:=fun e=>by
   have:gW [c]=1:=by show(if kn.contains c.toNat then 1 else 0)=1;rw[e];rfl
   rw[this]at hk;rw[<-Bo];exact hk
  have fK:kn.contains c.toNat=false->k (.string ⟨#[]⟩) h:=fun e=>by
   have:gW [c]=0:=by show(if kn.contains c.toNat then 1 else 0)=0;rw[e];rfl
   rw[this]at hk;exact hk
  clear hk OY;rw[decide_eq_false aI];cbv;rw[mW];refine⟨Az,?_⟩;cbv;rw[IY];cbv;rw[g40];by_cases yY:c.toNat=40
  ·have hf:=eB (by rw[yY];decide);rw[decide_eq_true yY];cbv;exact hf
  ·rw[decide_eq_false yY];cbv;rw[Xr];by_cases No:c.toNat=41
   ·have hf:=eB (by rw[No];decide);rw[decide_eq_true No];cbv;exact hf
   ·rw[decide_eq_false No];cbv;rw[g44];by_cases Nk:c.toNat=44
    ·have hf:=eB (by rw[Nk];decide);rw[decide_eq_true Nk];cbv;exact hf
    ·rw[decide_eq_false Nk];cbv;rw[g46];by_cases Ni:c.toNat=46
     ·have hf:=eB (by rw[Ni];decide);rw[decide_eq_true Ni];cbv;exact hf
     ·rw[decide_eq_false Ni];cbv;rw[g42];by_cases Nn:c.toNat=42
      ·have hf:=eB (by rw[Nn];decide);rw[decide_eq_true Nn];cbv;exact hf
      ·rw[decide_eq_false Nn];cbv;rw[g61];by_cases Nh:c.toNat=61
       ·have hf:=eB (by rw[Nh];decide);rw[decide_eq_true Nh];cbv;exact hf
       ·rw[decide_eq_false Nh];cbv;rw[g60];by_cases ph:c.toNat=60
        ·have hf:=eB (by rw[ph];decide);rw[decide_eq_true ph];cbv;exact hf
        ·rw[decide_eq_false ph];cbv;rw[g62];by_cases Ju:c.toNat=62
         ·have hf:=eB (by rw[Ju];decide);rw[decide_eq_true Ju];cbv;exact hf
         ·rw[decide_eq_false Ju];cbv;rw[g43];by_cases Nl:c.toNat=43
          ·have hf:=eB (by rw[Nl];decide);rw[decide_eq_true Nl];cbv;exact hf
          ·rw[decide_eq_false Nl];cbv;rw[g45];by_cases Nj:c.toNat=45
           ·have hf:=eB (by rw[Nj];decide);rw[decide_eq_true Nj];cbv;exact hf
           ·rw[decide_eq_false Nj];cbv;have hf:=fK (by unfold kn;simp only[List.contains_cons,List.contains_nil,Bool.or_false,Bool.or_eq_false_iff,beq_eq_false_iff_ne,ne_eq];exact⟨yY,No,Nk,Ni,Nn,Nh,ph,Ju,Nl,Nj⟩);exact hf
 |cons d r'=>
  have aI:i+1<s.size:=by have:(d::r').length=r'.length+1:=rfl;omega
  obtain⟨z2,jT⟩:∃z2,A .bA .add .i64 z 2=z2:=⟨_,rfl⟩;have ng:aP z2 (i+2):=⟨by rw[<-jT,lr A _ _ (by have:=hz.eq;omega),hz.eq];omega⟩;have OZ:A .sub s z z2=aC [c,d]:=q.sub hz (n:=2) ng;have mI:0<=z2/\z2<=(s.size:Int)/\0<=z/\z<=z2:=by have h1:=ng.eq;have h2:=hz.eq;have h3:(d::r').length=r'.length+1:=rfl;omega
  have t1:A .je .eql (aC [c,d]) ⟨#[60,62]⟩=(decide (c.toNat=60)&&decide (d.toNat=62)):=by rw[bN A];exact BF c d 60 62 (by decide) (by decide)
  have t2:A .je .eql (aC [c,d]) ⟨#[60,61]⟩=(decide (c.toNat=60)&&decide (d.toNat=61)):=by rw[bN A];exact BF c d 60 61 (by decide) (by decide)
  have t3:A .je .eql (aC [c,d]) ⟨#[62,61]⟩=(decide (c.toNat=62)&&decide (d.toNat=61)):=by rw[bN A];exact BF c d 62 61 (by decide) (by decide)
  have h2:BG c d=((decide (c.toNat=60)&&decide (d.toNat=62))||(decide (c.toNat=60)&&decide (d.toNat=61))||(decide (c.toNat=62)&&decide (d.toNat=61))):=rfl;have oK:gW (c::d::r')=if BG c d then 2 else if kn.contains c.toNat then 1 else 0:=rfl
  obtain⟨s2,DG⟩:∃sb,aC [c,d]=sb:=⟨_,rfl⟩;have Rp:BG c d=true->k (.string s2) h:=fun e=>by
   rw[oK,e]at hk;rw[<-DG];exact hk
  have VY:BG c d=false->kn.contains c.toNat=true->k (.string sb) h:=fun e2 e=>by
   rw[oK,e2,e]at hk;rw[<-Bo];exact hk
  have hno0:BG c d=false->kn.contains c.toNat=false->k (.string ⟨#[]⟩) h:=fun e2 e=>by
   rw[oK,e2,e]at hk;exact hk
  rw[DG]at OZ t1 t2 t3;obtain⟨u1,hu1⟩:∃u,(decide (c.toNat=60)&&decide (d.toNat=62))=u:=⟨_,rfl⟩;obtain⟨u2,Gp⟩:∃u,(decide (c.toNat=60)&&decide (d.toNat=61))=u:=⟨_,rfl⟩;obtain⟨u3,Ro⟩:∃u,(decide (c.toNat=62)&&decide (d.toNat=61))=u:=⟨_,rfl⟩;rw[hu1]at t1 h2;rw[Gp]at t2 h2;rw[Ro]at t3 h2;clear hk OY oK;rw[decide_eq_true aI];cbv;rw[jT];refine⟨mI,?_⟩;cbv;rw[OZ];cbv;rw[t1];cases u1 with
  |true=>have hf:=Rp (by rw[h2];rfl);cbv;exact hf
  |false=>
   cbv;rw[t2];cases u2 with
   |true=>have hf:=Rp (by rw[h2];rfl);cbv;exact hf
   |false=>
    cbv;rw[t3];cases u3 with
    |true=>have hf:=Rp (by rw[h2];rfl);cbv;exact hf
    |false=>
     have eB:=VY (by rw[h2];rfl);have fK:=hno0 (by rw[h2];rfl);cbv;rw[mW];refine⟨Az,?_⟩;cbv;rw[IY];cbv;rw[g40];by_cases yY:c.toNat=40
     ·have hf:=eB (by rw[yY];decide);rw[decide_eq_true yY];cbv;exact hf
     ·rw[decide_eq_false yY];cbv;rw[Xr];by_cases No:c.toNat=41
      ·have hf:=eB (by rw[No];decide);rw[decide_eq_true No];cbv;exact hf
      ·rw[decide_eq_false No];cbv;rw[g44];by_cases Nk:c.toNat=44
       ·have hf:=eB (by rw[Nk];decide);rw[decide_eq_true Nk];cbv;exact hf
       ·rw[decide_eq_false Nk];cbv;rw[g46];by_cases Ni:c.toNat=46
        ·have hf:=eB (by rw[Ni];decide);rw[decide_eq_true Ni];cbv;exact hf
        ·rw[decide_eq_false Ni];cbv;rw[g42];by_cases Nn:c.toNat=42
         ·have hf:=eB (by rw[Nn];decide);rw[decide_eq_true Nn];cbv;exact hf
         ·rw[decide_eq_false Nn];cbv;rw[g61];by_cases Nh:c.toNat=61
          ·have hf:=eB (by rw[Nh];decide);rw[decide_eq_true Nh];cbv;exact hf
          ·rw[decide_eq_false Nh];cbv;rw[g60];by_cases ph:c.toNat=60
           ·have hf:=eB (by rw[ph];decide);rw[decide_eq_true ph];cbv;exact hf
           ·rw[decide_eq_false ph];cbv;rw[g62];by_cases Ju:c.toNat=62
            ·have hf:=eB (by rw[Ju];decide);rw[decide_eq_true Ju];cbv;exact hf
            ·rw[decide_eq_false Ju];cbv;rw[g43];by_cases Nl:c.toNat=43
             ·have hf:=eB (by rw[Nl];decide);rw[decide_eq_true Nl];cbv;exact hf
             ·rw[decide_eq_false Nl];cbv;rw[g45];by_cases Nj:c.toNat=45
              ·have hf:=eB (by rw[Nj];decide);rw[decide_eq_true Nj];cbv;exact hf
              ·rw[decide_eq_false Nj];cbv;have hf:=fK (by unfold kn;simp only[List.contains_cons,List.contains_nil,Bool.or_false,Bool.or_eq_false_iff,beq_eq_false_iff_ne,ne_eq];exact⟨yY,No,Nk,Ni,Nn,Nh,ph,Ju,Nl,Nj⟩);exact hf
theorem zY:∀(t:By) (n v:Int) (rest:By),lS t n=((v,rest),0)->rest.length<=t.length
 | [],n,v,rest,h=>by cases h;exact Nat.le_refl _
 |c::r,n,v,rest,h=>by
  have h1:(match fZ c with
   |true=>if n>(9223372036854775807-((c.toNat:Int)-48)) / 10 then((0,[]),11)else lS r (10*n+((c.toNat:Int)-48))
   |false=>((n,c::r),0))=((v,rest),(0:Int)):=h
  cases hd:fZ c with
  |false=>rw[hd]at h1;cases h1;exact Nat.le_refl _
  |true=>
   rw[hd]at h1;replace h1:(if n>(9223372036854775807-((c.toNat:Int)-48)) / 10 then((0,[]),11)else lS r (10*n+((c.toNat:Int)-48)))=((v,rest),(0:Int)):=h1;split at h1
   ·cases h1
   ·have:=zY r _ _ _ h1;rw[List.length_cons];omega
theorem ER{c:UInt8}{r:By}{n v:Int}{rest:By}(hd:fZ c=true)(h:lS (c::r) n=((v,rest),0)):rest.length<=r.length:=by
 have h1:(match fZ c with
  |true=>if n>(9223372036854775807-((c.toNat:Int)-48)) / 10 then((0,[]),11)else lS r (10*n+((c.toNat:Int)-48))
  |false=>((n,c::r),0))=((v,rest),(0:Int)):=h
 rw[hd]at h1;replace h1:(if n>(9223372036854775807-((c.toNat:Int)-48)) / 10 then((0,[]),11)else lS r (10*n+((c.toNat:Int)-48)))=((v,rest),(0:Int)):=h1;split at h1
 ·cases h1
 ·exact zY r _ _ _ h1
theorem rW:∀(m:Nat) (t acc v rest:By),t.length<=m->fA t acc=((v,rest),0)->rest.length<=t.length
 |_,[],acc,v,rest,_,h=>by cases h
 |0,c::r,acc,v,rest,hm,h=>by rw[List.length_cons]at hm;omega
 |m+1,c::r,acc,v,rest,hm,h=>by
  rw[List.length_cons]at hm |-;rw[um]at h;cases hc:decide (c.toNat=39)with
  |false=>rw[hc]at h;have:=rW m r _ v rest (by omega) h;omega
  |true=>
   rw[hc]at h;cases r with
   |nil=>
    replace h:(if acc.length>60 then((([]:By),([]:By)),(5:Int))else((acc,[]),0))=((v,rest),0):=h;split at h
    ·cases h
    ·cases h;exact Nat.zero_le _
   |cons d r'=>
    replace h:(match decide (d.toNat=39)with
     |true=>fA r' (acc++[39])
     |false=>if acc.length>60 then((([]:By),([]:By)),(5:Int))else((acc,d::r'),0))=((v,rest),0):=h
    rw[List.length_cons]at hm |-;cases hd:decide (d.toNat=39)with
    |true=>rw[hd]at h;have:=rW m r' _ v rest (by omega) h;omega
    |false=>
     rw[hd]at h;replace h:(if acc.length>60 then((([]:By),([]:By)),(5:Int))else((acc,d::r'),0))=((v,rest),0):=h;split at h
     ·cases h
     ·cases h;rw[List.length_cons];omega
theorem Ad{c:UInt8}{r:By}(h:isLet c=true):1<=cY (c::r):=by
 show 1<=(match wG c with|true=>cY r+1|false=>0);have:wG c=true:=by unfold wG;rw[h];rfl
 rw[this];exact Nat.succ_le_succ (Nat.zero_le _)
theorem BP(c:UInt8)(r:By):gW (c::r)<=(c::r).length:=by
 cases r with
 |nil=>show(if kn.contains c.toNat then 1 else 0)<=1;split<;>omega
 |cons d r'=>
  show(if BG c d then 2 else if kn.contains c.toNat then 1 else 0)<=r'.length+1+1;split
  ·omega
  ·split<;>omega
theorem Mh{s:ByteArray}(hs:s.size<=600){i:Nat}{c:UInt8}{r:By}(q:rJ s i (c::r)){z:Int}(hz:aP z i){h:ad}{k:Value->ad->Prop}
 (hk:∀w z' e rest,nH c r=((w,rest),e)->(e=0->∃j,aP z' j/\rJ s j rest/\rest.length<=r.length)->k (.tuple #[.agg #[.int .i64 w.k,.int .i64 w.n,.string w.s],.int .i64 z',.int .i64 e]) h):
 Ct 119 [.string s,.int .i64 z] h k:=by
 obtain⟨A,hA⟩:=Ar.ex;have hl:=q.len;rw[List.length_cons]at hl;have cy:0<=z/\z<(s.size:Int):=hz.ix (by omega);obtain⟨b,hb⟩:∃b,A .byte s z=b:=⟨_,rfl⟩;have pg:b=(c.toNat:Int):=by rw[<-hb];exact q.byte hz
 have f39:A .aF .eql b 39=decide (c.toNat=39):=by rw[aw A,decide_eq_decide,pg];omega
 have dz:=hz.succ (A:=A) (by omega);have pS:nH c r=match isLet c with
  |true=>((⟨1,0,aC ((c::r).take (cY (c::r)))⟩,(c::r).drop (cY (c::r))),0)
  |false=>match fZ c with
   |true=>match lS (c::r) 0 with
    | (p,e)=>((⟨2,p.1,aC []⟩,p.2),e)
   |false=>match decide (c.toNat=39)with
    |true=>match fA r []with
     | (p,e)=>((⟨3,0,aC p.1⟩,p.2),e)
    |false=>match gW (c::r)with
     |0=>((⟨0,0,aC []⟩,[]),6)
     |n+1=>((uh ((c::r).take (n+1)),(c::r).drop (n+1)),0):=rfl
 have hlp:isLet c=true->1<=cY (c::r):=Ad;have hdg:∀v rest,fZ c=true->lS (c::r) 0=((v,rest),0)->rest.length<=r.length:=fun v rest hd h=>ER hd h;have q1:=q.next;refine ah A (aq ZY.ax ZY.bm) Tryz.func119 rfl (by kernel_rfl) ?_;cbv;refine⟨cy,?_⟩;cbv;rw[hb];refine Dx pg ?_;generalize isLet c=u1 at *;cases u1 with
 |true=>
  have hlp:=hlp rfl;have hle:=uP (c::r);cbv;refine Mj hs q hz (fun z2 jT=>?_);have dr:A .sub s z z2=aC ((c::r).take (cY (c::r))):=q.sub hz jT;obtain⟨sb,Bo⟩:∃sb,aC ((c::r).take (cY (c::r)))=sb:=⟨_,rfl⟩;rw[List.length_cons]at hle;have M5:0<=z2/\z2<=(s.size:Int)/\0<=z/\z<=z2:=by have h1:=jT.eq;have h2:=hz.eq;omega
  have af:=hk ⟨1,0,aC ((c::r).take (cY (c::r)))⟩ z2 0 _ pS (fun _=>⟨_,jT,q.PB (by rw[List.length_cons];omega),by rw[List.length_drop,List.length_cons];omega⟩);rw[Bo]at dr af;cbv;refine⟨M5,?_⟩;cbv;rw[dr];exact af
 |false=>
  replace pS:nH c r=match fZ c with
   |true=>match lS (c::r) 0 with
    | (p,e)=>((⟨2,p.1,aC []⟩,p.2),e)
   |false=>match decide (c.toNat=39)with
    |true=>match fA r []with
     | (p,e)=>((⟨3,0,aC p.1⟩,p.2),e)
    |false=>match gW (c::r)with
     |0=>((⟨0,0,aC []⟩,[]),6)
     |n+1=>((uh ((c::r).take (n+1)),(c::r).drop (n+1)),0):=pS
  cbv;refine CT pg ?_;generalize fZ c=u2 at *;cases u2 with
  |true=>
   replace pS:nH c r=match lS (c::r) 0 with
    | (p,e)=>((⟨2,p.1,aC []⟩,p.2),e):=pS
   cbv;refine QD hs q hz (fun v z2 e rest he jT=>?_);rw[he]at pS;have af:=hk ⟨2,v,aC []⟩ z2 e rest pS (fun h0=>by
    obtain⟨j,h1,h2⟩:=jT h0;subst h0;exact⟨j,h1,h2,hdg v rest rfl he⟩)
   cbv;exact af
  |false=>
   replace pS:nH c r=match decide (c.toNat=39)with
    |true=>match fA r []with
     | (p,e)=>((⟨3,0,aC p.1⟩,p.2),e)
    |false=>match gW (c::r)with
     |0=>((⟨0,0,aC []⟩,[]),6)
     |n+1=>((uh ((c::r).take (n+1)),(c::r).drop (n+1)),0):=pS
   cbv;rw[f39];clear f39;generalize decide (c.toNat=39)=u3 at *;cases u3 with
   |true=>
    replace pS:nH c r=match fA r []with
     | (p,e)=>((⟨3,0,aC p.1⟩,p.2),e):=pS
    cbv;refine LD hs q1 dz (fun v z2 e rest he jT=>?_);rw[he]at pS;have af:=hk ⟨3,0,aC v⟩ z2 e rest pS (fun h0=>by
     obtain⟨j,h1,h2⟩:=jT h0;subst h0;exact⟨j,h1,h2,rW _ r [] v rest (Nat.le_refl _) he⟩)
    obtain⟨vb,hvb⟩:∃vb,aC v=vb:=⟨_,rfl⟩;rw[hvb]at af |-;cbv;exact af
   |false=>
    replace pS:nH c r=match gW (c::r)with
     |0=>((⟨0,0,aC []⟩,[]),6)
     |n+1=>((uh ((c::r).take (n+1)),(c::r).drop (n+1)),0):=pS
    have oK:=BP c r;cbv;refine LQ hs q hz ?_;generalize gW (c::r)=sl at *;cases sl with
    |zero=>
     have f0:A .je .eql ⟨#[]⟩ ⟨#[]⟩=true:=by rw[bN A];exact decide_eq_true rfl
     have af:=hk ⟨0,0,aC []⟩ 0 6 [] pS (fun h=>absurd h (by decide));cbv;rw[f0];cbv;exact af
    |succ n=>
     replace pS:nH c r=((uh ((c::r).take (n+1)),(c::r).drop (n+1)),0):=pS;rw[List.length_cons]at oK;have hlen:(aC ((c::r).take (n+1))).size=n+1:=by rw[qI,List.length_take,List.length_cons];omega
     obtain⟨sb,Bo⟩:∃sb,aC ((c::r).take (n+1))=sb:=⟨_,rfl⟩;rw[Bo]at hlen |-;have f0:A .je .eql sb ⟨#[]⟩=false:=by rw[bN A];refine decide_eq_false (fun e=>?_);rw[e]at hlen;have:(⟨#[]⟩:ByteArray).size=0:=rfl;omega
     have Gq:aP (A .iH sb) (n+1):=⟨by rw[hA.iH];show(sb.size:Int)=_;rw[hlen]⟩;obtain⟨z2,jT⟩:∃z2,A .bA .add .i64 z (A .iH sb)=z2:=⟨_,rfl⟩;have ng:aP z2 (i+(n+1)):=by rw[<-jT];exact hz.add Gq (by omega)
     have af:=hk (uh ((c::r).take (n+1))) z2 0 _ pS (fun _=>⟨_,ng,q.PB (by rw[List.length_cons];omega),by rw[List.length_drop,List.length_cons];omega⟩);have af:k (.tuple #[.agg #[.int .i64 4,.int .i64 0,.string (aC ((c::r).take (n+1)))],.int .i64 z2,.int .i64 0]) h:=af;rw[Bo]at af;cbv;rw[f0];cbv;rw[jT];exact af
theorem EX{k:Nat}{c:UInt8}{r:By}{l:List Wd}:uT (k+1) (c::r) l=match IG c with
 |true=>uT k r l
 |false=>match nH c r with
  | (p,e)=>if e=0 then uT k p.2 (l++[p.1])else([],e):=rfl
theorem GP{s:ByteArray}{h:ad}{k:Value->ad->Prop}
 (hk:∀h' b n c ws e,oA s=(ws,e)->Le h h'->(e=0->zp ws/\Sl 139 rX h' (.slice b n c) ws/\ws.length<=601)->k (.tuple #[.slice b n c,.int .i64 e]) h'):
 Ct 54 [.string s] h k:=by
 obtain⟨A,hA⟩:=Ar.ex;have Gq:A .iH s=(s.size:Int):=by rw[hA.iH]
 have sA:aP (A .iH s) s.size:=⟨Gq⟩;have f1:A .aF .gtr (A .iH s) 600=decide (s.size>600):=by rw[bH A,Gq,decide_eq_decide];omega
 have hw:oA s=if s.size>600 then([],5)else uT (s.size+1) s.data.toList []:=rfl
 refine ah A (aq T54.ax T54.bm) Tryz.func54 rfl (by kernel_rfl) ?_;cbv;rw[f1];by_cases h6:s.size>600
 ·rw[if_pos h6]at hw;have af:=hk h none 0 0 [] 5 hw (Le.refl _) (fun e=>absurd e (by decide));rw[decide_eq_true h6];cbv;exact af
 ·rw[if_neg h6]at hw;have hs:s.size<=600:=by omega
  obtain⟨R,hR⟩:∃R,uT (s.size+1) s.data.toList []=R:=⟨_,rfl⟩;rw[hR]at hw;obtain⟨I,bh⟩:∃I:Nat->Int×(Option Addr×Nat×Nat)->ad->Prop,∀m g h',I m g h'=∃j t l,aP g.1 j/\rJ s j t/\cK 139 rX h h' (.slice g.2.1 g.2.2.1 g.2.2.2) l/\l.length<=j/\Le h h'/\m=t.length/\(∃fu,t.length<fu/\uT fu t l=R):=⟨_,fun _ _ _=>rfl⟩;have hq0:=rJ.start s;have uc:=hq0.len;have hJ:I s.size (0,none,0,0) h:=by rw[bh];exact⟨0,_,[],⟨rfl⟩,hq0,cK.nil,Nat.le_refl _,Le.refl _,by omega,_,by omega,hR⟩
  clear hR hq0 uc;rw[decide_eq_false h6];cbv;refine aZ.go (G:=Int×(Option Addr×Nat×Nat)) (fun g=>[(5,.v (.int .i64 g.1)),(4,.v (.slice g.2.1 g.2.2.1 g.2.2.2))]) (fun _=>[]) (fun m g h'=>I m g h') s.size (0,none,0,0) ⟨?_,?_,?_⟩ hJ ?_
  ·cbv
  ·cbv
  ·cbv
  ·intro m g h1 hI;rw[bh]at hI;cbv;obtain⟨j,t,l,hg,q,ba,KS,l1,hm,fu,RU,he⟩:=hI;obtain⟨z,ab,an,ac⟩:=g;have hg:aP z j:=hg;have ba:cK 139 rX h h1 (.slice ab an ac) l:=ba;have KY:=ba.sl.len;have hl:=q.len;have f2:A .aF .lss z (A .iH s)=decide (j<s.size):=hg.gE sA;obtain⟨fu,rfl⟩:∃AK,fu=AK+1:=⟨fu-1,by omega⟩;rw[f2];cases t with
   |nil=>
    have aI:¬j<s.size:=by have:([]:By).length=0:=rfl;omega
    have he:(l++[PQ],0)=R:=he;rw[<-he]at hw;rw[decide_eq_false aI];clear bh hJ he;cbv;intro n2 h2 g2 e2;have l2:Le h1 h2:=by rw[e2];exact Le.set g2
    have v2:Sl 139 rX h2 (.slice (some ⟨n2,0,none⟩) 1 1) [PQ]:=bp (s:=rX) ((congrFun e2 n2).trans ae) rfl;cbv;refine(ba.mono (l2.t _)).append v2 (by decide) rfl (by decide) (by omega) (l1.trans l2) (fun m3 b3 c3 h3 Uu l3 t3 k3 mX=>?_);have af:=hk h3 b3 m3 c3 _ 0 hw l3 (fun _=>⟨⟨l,rfl⟩,mX.sl,by rw[List.length_append,List.length_singleton];omega⟩);cbv;exact af
   |cons c r=>
    have ra:(c::r).length=r.length+1:=rfl;have aI:j<s.size:=by omega
    have cy:0<=z/\z<(s.size:Int):=hg.ix aI;obtain⟨b,hb⟩:∃b,A .byte s z=b:=⟨_,rfl⟩;have pg:b=(c.toNat:Int):=by rw[<-hb];exact q.byte hg
    have g32:A .aF .eql b 32=decide (c.toNat=32):=by rw[aw A,decide_eq_decide,pg];omega
    have g9:A .aF .eql b 9=decide (c.toNat=9):=by rw[aw A,decide_eq_decide,pg];omega
    have vw:A .aF .eql b 10=decide (c.toNat=10):=by rw[aw A,decide_eq_decide,pg];omega
    have wu:IG c=(decide (c.toNat=32)||decide (c.toNat=9)||decide (c.toNat=10)):=rfl;have dz:=hg.succ (A:=A) (by omega);have hq:=q.next;rw[EX]at he;have jN:r.length<m:=by omega
    have vj:IG c=true->I r.length (A .bA .add .i64 z 1,ab,an,ac) h1:=fun e=>by
     rw[bh];rw[e]at he;exact⟨j+1,r,l,dz,hq,ba,by omega,l1,rfl,fu,by omega,he⟩
    rw[decide_eq_true aI];cbv;refine⟨cy,?_⟩;cbv;rw[hb,g32];clear g32;generalize decide (c.toNat=32)=u1 at *;cases u1 with
    |true=>
     have vj:=vj (by rw[wu];rfl);clear bh hJ hk he;cbv;refine⟨r.length,(_,_,_,_),jN,⟨?_,?_,?_⟩,vj⟩
     ·cbv
     ·cbv
     ·cbv
    |false=>
     cbv;refine⟨cy,?_⟩;cbv;rw[hb,g9];clear g9;generalize decide (c.toNat=9)=u2 at *;cases u2 with
     |true=>
      have vj:=vj (by rw[wu];rfl);clear bh hJ hk he;cbv;refine⟨r.length,(_,_,_,_),jN,⟨?_,?_,?_⟩,vj⟩
      ·cbv
      ·cbv
      ·cbv
     |false=>
      cbv;refine⟨cy,?_⟩;cbv;rw[hb,vw];clear vw;generalize decide (c.toNat=10)=u3 at *;cases u3 with
      |true=>
       have vj:=vj (by rw[wu];rfl);clear bh hJ hk he;cbv;refine⟨r.length,(_,_,_,_),jN,⟨?_,?_,?_⟩,vj⟩
       ·cbv
       ·cbv
       ·cbv
      |false=>
       have WW:IG c=false:=by rw[wu];rfl
       rw[WW]at he;replace he:(match nH c r with
        | (p,e)=>if e=0 then uT fu p.2 (l++[p.1])else([],e))=R:=he
       clear vj wu WW;cbv;refine Mh hs q hg (fun w z2 e rest bG jT=>?_);rw[bG]at he;replace he:(if e=0 then uT fu rest (l++[w])else([],e))=R:=he;have f5:A .aF .neq e 0=decide (e≠0):=ay A ..;cbv;rw[f5];by_cases h0:e=0
       ·rw[if_pos h0]at he;obtain⟨j2,ng,q2,O1⟩:=jT h0;have hq2l:=q2.len;have Fg:rest.length<m:=by omega
        have cU:∀b3 m3 c3 h3,cK 139 rX h h3 (.slice b3 m3 c3) (l++[w])->Le h h3->I rest.length (z2,b3,m3,c3) h3:=fun b3 m3 c3 h3 mX l3=>by
         rw[bh];exact⟨j2,rest,_,ng,q2,mX,by rw[List.length_append,List.length_singleton];omega,l3,rfl,fu,by omega,he⟩
        rw[decide_eq_false (by simpa using h0)];clear bh hJ hk he jT bG f5 f2 f1;cbv;intro n2 h2 g2 e2;have l2:Le h1 h2:=by rw[e2];exact Le.set g2
        have v2:Sl 139 rX h2 (.slice (some ⟨n2,0,none⟩) 1 1) [w]:=bp (s:=rX) ((congrFun e2 n2).trans ae) rfl;cbv;refine(ba.mono (l2.t _)).append v2 (by decide) rfl (by decide) (by omega) (l1.trans l2) (fun m3 b3 c3 h3 Uu l3 t3 k3 mX=>?_);have xL:=cU b3 m3 c3 h3 mX l3;clear cU t3 k3 mX;cbv;refine⟨rest.length,(_,_,_,_),Fg,⟨?_,?_,?_⟩,xL⟩
        ·cbv
        ·cbv
        ·cbv
       ·rw[if_neg h0]at he;rw[<-he]at hw;have af:=hk h1 none 0 0 [] e hw l1 (fun h=>absurd h h0);rw[decide_eq_true h0];cbv;exact af
theorem UQ{h:ad}{pb:Nat}{s:PS}(hp:PT h pb s)(DJ:(s.is (aC [99,114,101,97,116,101])).1=false){k:Value->ad->Prop}
 (hk:∀h' st s' v,s.stmt aj=((st,b0),s')->PT h' pb s'->mh pb h h'->PL h' v st->s'.ws.length<=s.ws.length->st.kind≠1->k (.tuple #[v,.string ⟨#[]⟩]) h'):
 Ct 55 [.pointer (some ⟨pb,0,none⟩)] h k:=by
 obtain⟨A,hA⟩:=Ar.ex;obtain⟨D,hD⟩:∃D,s.stmt aj=D:=⟨_,rfl⟩;have hm:=hD;rw[hD]at hk;clear hD;unfold PS.stmt at hm;refine ah A (aq T55.ax T55.bm) Tryz.func55 rfl (by kernel_rfl) ?_;cbv;refine uY hp (aC [99,114,101,97,116,101]) (fun h1 t s1 e1 p1 l1 ed gN=>?_);rw[e1]at DJ;replace DJ:t=false:=DJ;subst DJ;obtain⟨eE,dU⟩:=gN rfl;replace eE:=eE.symm;replace dU:=dU.symm;subst eE dU;have gJ:=e1;clear e1 ed gN p1 l1;cbv;refine uY hp (aC [100,114,111,112]) (fun h1 t s1 e1 p1 l1 ed gN=>?_);cases t with
 |true=>have ed:=ed rfl;have eo:s.cN [((aC [99,114,101,97,116,101]),1),((aC [100,114,111,112]),2),((aC [105,110,115,101,114,116]),3),((aC [117,112,100,97,116,101]),4),((aC [100,101,108,101,116,101]),5),((aC [115,101,108,101,99,116]),6),((aC [98,101,103,105,110]),7),((aC [99,111,109,109,105,116]),8),((aC [115,97,118,101,112,111,105,110,116]),10),((aC [114,111,108,108,98,97,99,107]),9)]=(some 2,s1):=(aL gJ).trans (dM e1);rw[eo]at hm;replace hm:((({ kind:=2,table:=((s1.bS [(aC [116,97,98,108,101])]).name aj).1 }:aB),b0),((s1.bS [(aC [116,97,98,108,101])]).name aj).2)=D:=hm;cbv;intro n2 h2 g2 e2;refine hG p1 g2 [(aC [116,97,98,108,101])] e2 rfl (by decide) (fun h3 s3 e3 p3 l3 w3=>?_);rw[e3]at hm;cbv;refine pa p3 (fun h4 tb s4 e4 p4 l4 w4 z4=>?_);rw[e4]at hm;have af:=fun v q=>hk h4 ({ kind:=2,table:=tb }:aB) s4 v hm.symm p4 ((l1.trans l3).trans l4) q (by omega) (by simp);have af:=af _ ⟨none,0,0,none,0,0,none,0,0,none,0,0,none,0,0,none,0,0,rfl,Sl.nil,Sl.nil,Sl.nil,Sl.nil,Sl.nil,Sl.nil⟩;cbv;exact af
 |false=>
  obtain⟨eE,dU⟩:=gN rfl;replace eE:=eE.symm;replace dU:=dU.symm;subst eE dU;have j9:=e1;clear e1 ed gN p1 l1;cbv;refine uY hp (aC [105,110,115,101,114,116]) (fun h1 t s1 e1 p1 l1 ed gN=>?_);cases t with
  |true=>
   have ed:=ed rfl;have eo:s.cN [((aC [99,114,101,97,116,101]),1),((aC [100,114,111,112]),2),((aC [105,110,115,101,114,116]),3),((aC [117,112,100,97,116,101]),4),((aC [100,101,108,101,116,101]),5),((aC [115,101,108,101,99,116]),6),((aC [98,101,103,105,110]),7),((aC [99,111,109,109,105,116]),8),((aC [115,97,118,101,112,111,105,110,116]),10),((aC [114,111,108,108,98,97,99,107]),9)]=(some 3,s1):=(aL gJ).trans ((aL j9).trans (dM e1));rw[eo]at hm;replace hm:(((s1.insert aj).1,b0),(s1.insert aj).2)=D:=hm;cbv;refine MB p1 (fun h2 st s2 v e2 p2 l2 q2 w2=>?_);rw[e2]at hm;have eN:(s1.insert aj).1.kind≠1:=by show(3:Int)≠1;decide
   rw[e2]at eN;have af:=hk h2 st s2 v hm.symm p2 (l1.trans l2) q2 (by omega) eN;obtain⟨b1,n1,c1,b2,n2,c2,b3,n3,c3,b4,n4,c4,b5,n5,c5,b6,n6,c6,rfl,-⟩:=q2.out;cbv;exact af
  |false=>
   obtain⟨eE,dU⟩:=gN rfl;replace eE:=eE.symm;replace dU:=dU.symm;subst eE dU;have wP:=e1;clear e1 ed gN p1 l1;cbv;refine uY hp (aC [117,112,100,97,116,101]) (fun h1 t s1 e1 p1 l1 ed gN=>?_);cases t with
   |true=>
    have ed:=ed rfl;have eo:s.cN [((aC [99,114,101,97,116,101]),1),((aC [100,114,111,112]),2),((aC [105,110,115,101,114,116]),3),((aC [117,112,100,97,116,101]),4),((aC [100,101,108,101,116,101]),5),((aC [115,101,108,101,99,116]),6),((aC [98,101,103,105,110]),7),((aC [99,111,109,109,105,116]),8),((aC [115,97,118,101,112,111,105,110,116]),10),((aC [114,111,108,108,98,97,99,107]),9)]=(some 4,s1):=(aL gJ).trans ((aL j9).trans ((aL wP).trans (dM e1)));rw[eo]at hm;replace hm:(((s1.update aj).1,b0),(s1.update aj).2)=D:=hm;cbv;refine Ly p1 (fun h2 st s2 v e2 p2 l2 q2 w2=>?_);rw[e2]at hm;have eN:(s1.update aj).1.kind≠1:=by show(4:Int)≠1;decide
    rw[e2]at eN;have af:=hk h2 st s2 v hm.symm p2 (l1.trans l2) q2 (by omega) eN;obtain⟨b1,n1,c1,b2,n2,c2,b3,n3,c3,b4,n4,c4,b5,n5,c5,b6,n6,c6,rfl,-⟩:=q2.out;cbv;exact af
   |false=>
    obtain⟨eE,dU⟩:=gN rfl;replace eE:=eE.symm;replace dU:=dU.symm;subst eE dU;have K7:=e1;clear e1 ed gN p1 l1;cbv;refine uY hp (aC [100,101,108,101,116,101]) (fun h1 t s1 e1 p1 l1 ed gN=>?_);cases t with
    |true=>have ed:=ed rfl;have eo:s.cN [((aC [99,114,101,97,116,101]),1),((aC [100,114,111,112]),2),((aC [105,110,115,101,114,116]),3),((aC [117,112,100,97,116,101]),4),((aC [100,101,108,101,116,101]),5),((aC [115,101,108,101,99,116]),6),((aC [98,101,103,105,110]),7),((aC [99,111,109,109,105,116]),8),((aC [115,97,118,101,112,111,105,110,116]),10),((aC [114,111,108,108,98,97,99,107]),9)]=(some 5,s1):=(aL gJ).trans ((aL j9).trans ((aL wP).trans ((aL K7).trans (dM e1))));rw[eo]at hm;replace hm:((({ kind:=5,table:=((s1.bS [(aC [102,114,111,109])]).name aj).1,bB:=(((s1.bS [(aC [102,114,111,109])]).name aj).2.bB aj).1 }:aB),b0),(((s1.bS [(aC [102,114,111,109])]).name aj).2.bB aj).2)=D:=hm;cbv;intro n2 h2 g2 e2;refine hG p1 g2 [(aC [102,114,111,109])] e2 rfl (by decide) (fun h3 s3 e3 p3 l3 w3=>?_);rw[e3]at hm;cbv;refine pa p3 (fun h4 tb s4 e4 p4 l4 w4 z4=>?_);rw[e4]at hm;cbv;refine BA p4 (fun h5 wb wn wc wh s5 e5 z5 p5 l5 q5 w5=>?_);replace hm:((({ kind:=5,table:=tb,bB:=(s4.bB aj).1 }:aB),b0),(s4.bB aj).2)=D:=hm;rw[e5]at hm;have af:=fun v q=>hk h5 ({ kind:=5,table:=tb,bB:=wh }:aB) s5 v hm.symm p5 (((l1.trans l3).trans l4).trans l5) q (by omega) (by simp);have af:=af _ ⟨none,0,0,none,0,0,none,0,0,none,0,0,none,0,0,wb,wn,wc,rfl,Sl.nil,Sl.nil,Sl.nil,Sl.nil,Sl.nil,q5⟩;cbv;exact af
    |false=>
     obtain⟨eE,dU⟩:=gN rfl;replace eE:=eE.symm;replace dU:=dU.symm;subst eE dU;have Uw:=e1;clear e1 ed gN p1 l1;cbv;refine uY hp (aC [115,101,108,101,99,116]) (fun h1 t s1 e1 p1 l1 ed gN=>?_);cases t with
     |true=>
      have ed:=ed rfl;have eo:s.cN [((aC [99,114,101,97,116,101]),1),((aC [100,114,111,112]),2),((aC [105,110,115,101,114,116]),3),((aC [117,112,100,97,116,101]),4),((aC [100,101,108,101,116,101]),5),((aC [115,101,108,101,99,116]),6),((aC [98,101,103,105,110]),7),((aC [99,111,109,109,105,116]),8),((aC [115,97,118,101,112,111,105,110,116]),10),((aC [114,111,108,108,98,97,99,107]),9)]=(some 6,s1):=(aL gJ).trans ((aL j9).trans ((aL wP).trans ((aL K7).trans ((aL Uw).trans (dM e1)))));rw[eo]at hm;replace hm:(((s1.choose aj).1,b0),(s1.choose aj).2)=D:=hm;cbv;refine NS p1 (fun h2 st s2 v e2 p2 l2 q2 w2=>?_);rw[e2]at hm;have eN:(s1.choose aj).1.kind≠1:=by show(6:Int)≠1;decide
      rw[e2]at eN;have af:=hk h2 st s2 v hm.symm p2 (l1.trans l2) q2 (by omega) eN;obtain⟨b1,n1,c1,b2,n2,c2,b3,n3,c3,b4,n4,c4,b5,n5,c5,b6,n6,c6,rfl,-⟩:=q2.out;cbv;exact af
     |false=>
      obtain⟨eE,dU⟩:=gN rfl;replace eE:=eE.symm;replace dU:=dU.symm;subst eE dU;have Xz:=e1;clear e1 ed gN p1 l1;cbv;refine uY hp (aC [98,101,103,105,110]) (fun h1 t s1 e1 p1 l1 ed gN=>?_);cases t with
      |true=>
       have ed:=ed rfl;have eo:s.cN [((aC [99,114,101,97,116,101]),1),((aC [100,114,111,112]),2),((aC [105,110,115,101,114,116]),3),((aC [117,112,100,97,116,101]),4),((aC [100,101,108,101,116,101]),5),((aC [115,101,108,101,99,116]),6),((aC [98,101,103,105,110]),7),((aC [99,111,109,109,105,116]),8),((aC [115,97,118,101,112,111,105,110,116]),10),((aC [114,111,108,108,98,97,99,107]),9)]=(some 7,s1):=(aL gJ).trans ((aL j9).trans ((aL wP).trans ((aL K7).trans ((aL Uw).trans ((aL Xz).trans (dM e1))))));rw[eo]at hm;replace hm:(({ kind:=7 }:aB),b0,s1)=(D.1.1,D.1.2,D.2):=by rw[<-hm];rfl
       replace hm:((({ kind:=7 }:aB),b0),s1)=D:=by obtain⟨⟨d1,d2⟩,d3⟩:=D;cases hm;rfl
       have af:=fun v q=>hk h1 ({ kind:=7 }:aB) s1 v hm.symm p1 l1 q (by omega) (by simp);have af:=af _ ⟨none,0,0,none,0,0,none,0,0,none,0,0,none,0,0,none,0,0,rfl,Sl.nil,Sl.nil,Sl.nil,Sl.nil,Sl.nil,Sl.nil⟩;cbv;exact af
      |false=>
       obtain⟨eE,dU⟩:=gN rfl;replace eE:=eE.symm;replace dU:=dU.symm;subst eE dU;have e16:=e1;clear e1 ed gN p1 l1;cbv;refine uY hp (aC [99,111,109,109,105,116]) (fun h1 t s1 e1 p1 l1 ed gN=>?_);cases t with
       |true=>
        have ed:=ed rfl;have eo:s.cN [((aC [99,114,101,97,116,101]),1),((aC [100,114,111,112]),2),((aC [105,110,115,101,114,116]),3),((aC [117,112,100,97,116,101]),4),((aC [100,101,108,101,116,101]),5),((aC [115,101,108,101,99,116]),6),((aC [98,101,103,105,110]),7),((aC [99,111,109,109,105,116]),8),((aC [115,97,118,101,112,111,105,110,116]),10),((aC [114,111,108,108,98,97,99,107]),9)]=(some 8,s1):=(aL gJ).trans ((aL j9).trans ((aL wP).trans ((aL K7).trans ((aL Uw).trans ((aL Xz).trans ((aL e16).trans (dM e1)))))));rw[eo]at hm;replace hm:(({ kind:=8 }:aB),b0,s1)=(D.1.1,D.1.2,D.2):=by rw[<-hm];rfl
        replace hm:((({ kind:=8 }:aB),b0),s1)=D:=by obtain⟨⟨d1,d2⟩,d3⟩:=D;cases hm;rfl
        have af:=fun v q=>hk h1 ({ kind:=8 }:aB) s1 v hm.symm p1 l1 q (by omega) (by simp);have af:=af _ ⟨none,0,0,none,0,0,none,0,0,none,0,0,none,0,0,none,0,0,rfl,Sl.nil,Sl.nil,Sl.nil,Sl.nil,Sl.nil,Sl.nil⟩;cbv;exact af
       |false=>
        obtain⟨eE,dU⟩:=gN rfl;replace eE:=eE.symm;replace dU:=dU.symm;subst eE dU;have e17:=e1;clear e1 ed gN p1 l1;cbv;refine uY hp (aC [115,97,118,101,112,111,105,110,116]) (fun h1 t s1 e1 p1 l1 ed gN=>?_);cases t with
        |true=>have ed:=ed rfl;have eo:s.cN [((aC [99,114,101,97,116,101]),1),((aC [100,114,111,112]),2),((aC [105,110,115,101,114,116]),3),((aC [117,112,100,97,116,101]),4),((aC [100,101,108,101,116,101]),5),((aC [115,101,108,101,99,116]),6),((aC [98,101,103,105,110]),7),((aC [99,111,109,109,105,116]),8),((aC [115,97,118,101,112,111,105,110,116]),10),((aC [114,111,108,108,98,97,99,107]),9)]=(some 10,s1):=(aL gJ).trans ((aL j9).trans ((aL wP).trans ((aL K7).trans ((aL Uw).trans ((aL Xz).trans ((aL e16).trans ((aL e17).trans (dM e1))))))));rw[eo]at hm;replace hm:((({ kind:=10,name:=(s1.name aj).1 }:aB),b0),(s1.name aj).2)=D:=hm;cbv;refine pa p1 (fun h2 nm s2 e2 p2 l2 w2 z2=>?_);rw[e2]at hm;have af:=fun v q=>hk h2 ({ kind:=10,name:=nm }:aB) s2 v hm.symm p2 (l1.trans l2) q (by omega) (by simp);have af:=af _ ⟨none,0,0,none,0,0,none,0,0,none,0,0,none,0,0,none,0,0,rfl,Sl.nil,Sl.nil,Sl.nil,Sl.nil,Sl.nil,Sl.nil⟩;cbv;exact af
        |false=>
         obtain⟨eE,dU⟩:=gN rfl;replace eE:=eE.symm;replace dU:=dU.symm;subst eE dU;have PA:=e1;clear e1 ed gN p1 l1;cbv;refine uY hp (aC [114,111,108,108,98,97,99,107]) (fun h1 t s1 e1 p1 l1 ed gN=>?_);cases t with
         |true=>
          have ed:=ed rfl;have eo:s.cN [((aC [99,114,101,97,116,101]),1),((aC [100,114,111,112]),2),((aC [105,110,115,101,114,116]),3),((aC [117,112,100,97,116,101]),4),((aC [100,101,108,101,116,101]),5),((aC [115,101,108,101,99,116]),6),((aC [98,101,103,105,110]),7),((aC [99,111,109,109,105,116]),8),((aC [115,97,118,101,112,111,105,110,116]),10),((aC [114,111,108,108,98,97,99,107]),9)]=(some 9,s1):=(aL gJ).trans ((aL j9).trans ((aL wP).trans ((aL K7).trans ((aL Uw).trans ((aL Xz).trans ((aL e16).trans ((aL e17).trans ((aL PA).trans (dM e1)))))))));rw[eo]at hm;replace hm:(match s1.is (aC [116,111])with
           | (true,p)=>((({ kind:=11,name:=(p.name aj).1 }:aB),b0),(p.name aj).2)
           | (false,p)=>((({ kind:=9 }:aB),b0),p))=D:=hm
          have p1':=p1;cbv;refine uY p1' (aC [116,111]) (fun h2 t s2 e2 p2 l2 gE Ox=>?_);rw[e2]at hm;cases t with
          |true=>have gE:=gE rfl;replace hm:((({ kind:=11,name:=(s2.name aj).1 }:aB),b0),(s2.name aj).2)=D:=hm;cbv;refine pa p2 (fun h3 nm s3 e3 p3 l3 w3 z3=>?_);rw[e3]at hm;have af:=fun v q=>hk h3 ({ kind:=11,name:=nm }:aB) s3 v hm.symm p3 ((l1.trans l2).trans l3) q (by omega) (by simp);have af:=af _ ⟨none,0,0,none,0,0,none,0,0,none,0,0,none,0,0,none,0,0,rfl,Sl.nil,Sl.nil,Sl.nil,Sl.nil,Sl.nil,Sl.nil⟩;cbv;exact af
          |false=>replace hm:((({ kind:=9 }:aB),b0),s2)=D:=hm;have af:=fun v q=>hk h2 ({ kind:=9 }:aB) s2 v hm.symm p2 (l1.trans l2) q (by rw[(Ox rfl).1];omega) (by simp);have af:=af _ ⟨none,0,0,none,0,0,none,0,0,none,0,0,none,0,0,none,0,0,rfl,Sl.nil,Sl.nil,Sl.nil,Sl.nil,Sl.nil,Sl.nil⟩;cbv;exact af
         |false=>obtain⟨eE,dU⟩:=gN rfl;replace eE:=eE.symm;replace dU:=dU.symm;subst eE dU;have JO:=e1;clear e1 ed gN p1 l1;cbv;have eo:s.cN [((aC [99,114,101,97,116,101]),1),((aC [100,114,111,112]),2),((aC [105,110,115,101,114,116]),3),((aC [117,112,100,97,116,101]),4),((aC [100,101,108,101,116,101]),5),((aC [115,101,108,101,99,116]),6),((aC [98,101,103,105,110]),7),((aC [99,111,109,109,105,116]),8),((aC [115,97,118,101,112,111,105,110,116]),10),((aC [114,111,108,108,98,97,99,107]),9)]=(none,s):=(aL gJ).trans ((aL j9).trans ((aL wP).trans ((aL K7).trans ((aL Uw).trans ((aL Xz).trans ((aL e16).trans ((aL e17).trans ((aL PA).trans (aL JO)))))))));rw[eo]at hm;replace hm:((({}:aB),b0),s.fail 6)=D:=hm;refine DW hp 6 (fun h1 p1 l1=>?_);have af:=fun v q=>hk h1 ({}:aB) (s.fail 6) v hm.symm p1 l1 q (by rw[PS.rq];exact Nat.le_refl _) (by simp);have af:=af _ ⟨none,0,0,none,0,0,none,0,0,none,0,0,none,0,0,none,0,0,rfl,Sl.nil,Sl.nil,Sl.nil,Sl.nil,Sl.nil,Sl.nil⟩;cbv;exact af
def kA(t:ByteArray):Bool:=match (oA t).1 with
 |w::_=> !(decide (w.s=aC [99,114,101,97,116,101]))
 | []=>true
theorem Ab{t:ByteArray}(h:kA t=true){ws:List Wd}{e:Int}(hw:oA t=(ws,e)):((⟨ws,0,[]⟩:PS).is (aC [99,114,101,97,116,101])).1=false:=by
 unfold kA at h;rw[hw]at h;cases ws with
 |nil=>rfl
 |cons w r=>
  have h:(!(decide (w.s=aC [99,114,101,97,116,101])))=true:=h;have h2:w.s≠aC [99,114,101,97,116,101]:=by simpa using h
  show(if(0:Int)=0/\(w.k=1\/w.k=4)/\w.s=_ then _ else _:Bool×PS).1=false;rw[if_neg (fun h=>h2 h.2.2)]
theorem Hp{t:ByteArray}{ws r:List Wd}{st:aB}{w:Wd}{err:Int}{ex:List Nd}(hw:oA t=(ws,0))(e3:PS.stmt aj ⟨ws,0,[]⟩=((st,b0),⟨w::r,err,ex⟩))(eN:st.kind≠1):
 km aj t=if err=0 then(if w.k≠0 then({},6)else(st,0))else({},err):=by
 unfold km;simp only[hw,e3];by_cases he:err=0
 ·subst he;by_cases hk:w.k=0
  ·simp[hk,eN]
  ·simp[hk,eN,PS.fail]
 ·simp[he,eN]
theorem Ku{t:ByteArray}{h:ad}(DJ:kA t=true){D:aB×Int}(hD:km aj t=D){k:Value->ad->Prop}
 (hk:∀h' v,Le h h'->PL h' v D.1->k (.tuple #[v,.int .i64 D.2]) h'):
 Ct 30 [.string t] h k:=by
 obtain⟨A,hA⟩:=Ar.ex;have hz:∀h' e,Le h h'->D=({},e)->k (.tuple #[.agg #[.int .i64 0,.string ⟨#[]⟩,.slice none 0 0,.int .i64 0,.bool false,.string ⟨#[]⟩,.string ⟨#[]⟩,.slice none 0 0,.slice none 0 0,.slice none 0 0,.slice none 0 0,.slice none 0 0,.string ⟨#[]⟩,.string ⟨#[]⟩,.bool false,.int .i64 0,.string ⟨#[]⟩],.int .i64 e]) h':=fun h' e l he=>by
  subst he;exact hk h' _ l ⟨none,0,0,none,0,0,none,0,0,none,0,0,none,0,0,none,0,0,rfl,Sl.nil,Sl.nil,Sl.nil,Sl.nil,Sl.nil,Sl.nil⟩
 refine ah A (aq T30.ax T30.bm) Tryz.func30 rfl (by kernel_rfl) ?_;cbv;refine GP (fun h1 b n c ws e hw l1 jD=>?_);have Gr:=Ab DJ hw;have f1:A .aF .neq e 0=decide (e≠0):=ay A ..;cbv;rw[f1];by_cases h0:e=0
 ·subst h0;obtain⟨mS,qw,OV⟩:=jD rfl;have WQ:decide ((0:Int)≠0)=false:=rfl;rw[WQ];cbv;intro pb h2 g2 e2;have l2:Le h1 h2:=by rw[e2];exact Le.set g2
  have p2:PT h2 pb ⟨ws,0,[]⟩:=by
   refine⟨⟨b,n,c,none,0,0,0,0,ws,?_,qw.mono (fun b' c' e' fr hm hb=>?_),⟨rfl⟩,rfl,mS,by omega,(fun hh=>by cases hh),Sx.dN h2 pb,Sx.cO h2 pb⟩⟩
   ·rw[e2];exact ae
   ·have bG:b'≠pb:=fun e=>by rw[e,g2]at hb;cases hb
    rw[Sx.bV bG];exact l2 b' _ hb
  cbv;refine UQ p2 Gr (fun h3 st s3 v e3 p3 l3 q3 w3 eN=>?_);have qO:Le h h3:=fun j o hj=>by
   have Jf:=l1 j o hj;have bG:j≠pb:=fun e=>by rw[e,g2]at Jf;cases Jf
   exact l3 j o (by rw[Sx.bV bG];exact l2 j o Jf)
  obtain⟨ws3,CN,ex3⟩:=s3;obtain⟨b1,n1,c1,b2,n2,c2,b3,n3,c3,b4,n4,c4,b5,n5,c5,b6,n6,c6,rfl,q31⟩:=q3.out;refine p3.out.elim (fun wb wn wc eb en ec at_ i all w r g qw3 IT V6 Rj hr hi ML qe=>?_);have g:h3 pb=some (.cells #[.slice wb wn wc,.int .i64 at_,.int .i64 CN,.slice eb en ec] 136 (0,0)):=g;have Rj:ws3=w::r:=Rj;subst Rj;rw[Hp hw e3 eN]at hD;have cy:wb.isSome=true/\0<=at_/\at_<(wn:Int):=⟨qw3.bF (by omega),IT.ix hi⟩;have eX:=IT.eq;obtain⟨wk,wN,wS⟩:=w;have f2:A .aF .eql CN 0=decide (CN=0):=aw A ..;have f3:A .aF .neq wk 0=decide (wk≠0):=ay A ..;have f4:A .aF .eql st.kind 1=false:=by rw[aw A];exact decide_eq_false eN
  have f5:A .aF .neq CN 0=decide (CN≠0):=ay A ..;have f6:A .aF .eql 6 0=false:=by rw[aw A];rfl
  have f7:A .aF .neq 6 0=true:=by rw[ay A];rfl
  have jO:∀h' x,Le h h'->x≠0->(({}:aB),x)=D->k (.tuple #[.agg #[.int .i64 0,.string ⟨#[]⟩,.slice none 0 0,.int .i64 0,.bool false,.string ⟨#[]⟩,.string ⟨#[]⟩,.slice none 0 0,.slice none 0 0,.slice none 0 0,.slice none 0 0,.slice none 0 0,.string ⟨#[]⟩,.string ⟨#[]⟩,.bool false,.int .i64 0,.string ⟨#[]⟩],.int .i64 x]) h':=fun h' x l _ e=>hz h' x l e.symm;have DM:(st,(0:Int))=D->k (.tuple #[stV st.kind st.nf.name b1 n1 c1 st.nf.key st.nf.only st.table st.join b2 n2 c2 b3 n3 c3 b4 n4 c4 b5 n5 c5 b6 n6 c6 st.group st.order st.desc st.fE st.name,.int .i64 0]) h3:=fun e=>by
   subst e;exact hk h3 _ qO q3
  clear hz qe q31;generalize st.kind=sk at *;generalize st.nf.name=ssn at *;generalize st.nf.key=ssk at *;generalize st.nf.only=sso at *;generalize st.table=eH at *;generalize st.join=sjn at *;generalize st.group=sgr at *;generalize st.order=sod at *;generalize st.desc=sds at *;generalize st.fE=slm at *;generalize st.name=snm at *;cbv;rw[ai A];refine ar g rfl rfl ?_;cbv;rw[f2];by_cases he:CN=0
  ·subst he;have RY:decide ((0:Int)=0)=true:=rfl;have f2:A .aF .eql 0 0=true:=by rw[aw A];rfl
   have f5:A .aF .neq 0 0=false:=by rw[ay A];rfl
   rw[RY];cbv;rw[ai A];refine ar g rfl rfl ?_;cbv;rw[ai A];refine ar g rfl rfl ?_;cbv;refine⟨cy,?_⟩;cbv;refine qw3.js V6 eX (o:=0) (m:=1) (by decide) (fun cs aJ=>?_);have aJ:cs=[.int .i64 wk,.int .i64 wN,.string wS]:=aJ;subst aJ;cbv;rw[f3];by_cases wo:wk=0
   ·have hD:(if(0:Int)=0 then(if wk≠0 then(({}:aB),(6:Int))else(st,0))else({},0))=D:=hD;rw[if_pos rfl,if_neg (by simpa using wo)]at hD;have af:=DM hD;clear DM jO;rw[decide_eq_false (by simpa using wo)];cbv;rw[ai A];refine ar g rfl rfl ?_;cbv;rw[f2];cbv;rw[f4];cbv;rw[ai A];refine ar g rfl rfl ?_;cbv;rw[f5];cbv;exact af
   ·have hD:(if(0:Int)=0 then(if wk≠0 then(({}:aB),(6:Int))else(st,0))else({},0))=D:=hD;rw[if_pos rfl,if_pos wo]at hD;rw[decide_eq_true wo];cbv;refine DW p3 6 (fun h4 p4 l4=>?_);have mf:Le h h4:=fun j o hj=>by
     have Jf:=l1 j o hj;have bG:j≠pb:=fun e=>by rw[e,g2]at Jf;cases Jf
     exact l4 j o (by rw[Sx.bV bG];exact qO j o hj)
    have af:=jO h4 6 mf (by decide) hD;clear DM jO;refine p4.out.elim (fun wb4 wn4 wc4 eb4 en4 ec4 at4 i4 all4 w4 r4 g4 _ _ _ _ _ _ _ _=>?_);have g4:h4 pb=some (.cells #[.slice wb4 wn4 wc4,.int .i64 at4,.int .i64 6,.slice eb4 en4 ec4] 136 (0,0)):=g4;cbv;rw[ai A];refine ar g4 rfl rfl ?_;cbv;rw[f6];cbv;rw[ai A];refine ar g4 rfl rfl ?_;cbv;rw[f7];cbv;rw[ai A];refine ar g4 rfl rfl ?_;cbv;refine ar g4 rfl rfl ?_;cbv;refine⟨⟨_,rfl,rfl⟩,?_⟩;cbv;exact af
  ·rw[if_neg he]at hD;have af:=jO h3 CN qO he hD;have f4':=f4;clear DM jO;rw[decide_eq_false he];cbv;rw[ai A];refine ar g rfl rfl ?_;cbv;rw[f2,decide_eq_false he];cbv;rw[ai A];refine ar g rfl rfl ?_;cbv;rw[f5,decide_eq_true he];cbv;rw[ai A];refine ar g rfl rfl ?_;cbv;refine ar g rfl rfl ?_;cbv;refine⟨⟨_,rfl,rfl⟩,?_⟩;cbv;exact af
 ·have af:=hz h1 e l1 (by
   rw[<-hD];unfold km;simp only[hw];rw[if_pos h0])
  rw[decide_eq_true h0];cbv;exact af
end Go.S
