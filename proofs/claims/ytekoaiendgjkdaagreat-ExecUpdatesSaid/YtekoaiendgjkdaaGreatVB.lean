import Derived.Test.YtekoaiendgjkdaaGreatVA
import Derived.Test.YtekoaiendgjkdaaGreatSxC
set_option linter.unusedVariables false
set_option linter.unusedSimpArgs false
set_option linter.unusedSectionVars false
set_option maxRecDepth 100000
set_option maxHeartbeats 8000000
namespace Go.S
open Go.Sx Go.Proofs
structure PT(h:ad)(pb:Nat)(s:PS):Prop where
 out:gX false (Sx.de h pb) h pb s
def mL(pb:Nat)(h h':ad):Prop:=Le (Sx.de h pb) h'
theorem mL.refl(pb:Nat)(h:ad):mL pb h h:=Sx.fJ h pb
theorem mL.trans{pb:Nat}{a b c:ad}(x:mL pb a b)(y:mL pb b c):mL pb a c:=fun j o hj=>by
 have bW:j≠pb:=fun e=>by rw[e,Sx.dX]at hj;cases hj
 exact y j o (by rw[Sx.eQ bW];exact x j o hj)
theorem _root_.Go.Sx.Le.QQ{pb:Nat}{h h':ad}(l:Le h h'):mL pb h h':=(Sx.fJ h pb).trans l
theorem PT.lt{h h':ad}{pb:Nat}{s:PS}(q:PT h pb s)(l:mL pb h h'){tys:List Nat}(hn:136∉tys):cF tys h h':=fun b c e fr hm hb=>by
 obtain⟨wb,wn,wc,eb,en,ec,at_,i,all,g1,-⟩:=q.out.out;have bW:b≠pb:=fun e'=>by
  rw[e',g1]at hb;cases hb;exact hn hm
 exact l b _ (by rw[Sx.eQ bW];exact hb)
theorem PT.of{h h':ad}{pb:Nat}{s:PS}(q:PT h pb s)(t:cF [136,139] h h'):PT h' pb s:=by
 obtain⟨wb,wn,wc,eb,en,ec,at_,i,all,g1,g2,g3,g4,g5,g6,g7,g9,wo⟩:=q.out.out;have Iy:=t _ _ _ _ (by simp) g1;refine⟨⟨wb,wn,wc,eb,en,ec,at_,i,all,Iy,g2.mono (fun b c e fr hm hb=>?_),g3,g4,g5,g6,(fun hh=>by cases hh),Sx.fJ h' pb,Sx.dX h' pb⟩⟩;have bW:b≠pb:=fun e'=>by rw[e',Sx.dX]at hb;cases hb
 have j0:e=139:=by simpa[sI]using hm
 subst j0;rw[Sx.eQ bW]at hb |-;exact t _ _ _ _ (by simp) hb
theorem gX.pt{base h:ad}{pb:Nat}{lv:Bool}{s:PS}(q:gX lv base h pb s):PT h pb s:=⟨q.freeze⟩
theorem vK{h:ad}{pb:Nat}{s:PS}(hp:PT h pb s)(str:ByteArray){k:Value->ad->Prop}
 (hk:∀h' t s',s.is str=(t,s')->PT h' pb s'->mL pb h h'->(t=true->s'.ws.length<s.ws.length)->(t=false->s'=s/\h'=h)->k (.bool t) h'):
 Ct 120 [.pointer (some ⟨pb,0,none⟩),.string str] h k:=
 CO hp.out str (fun h' t s' e p lt sm=>hk h' t s' e p.pt p.le lt sm)
theorem FB{h:ad}{pb:Nat}{s:PS}(hp:PT h pb s)(e:Int){k:Value->ad->Prop}(hk:∀h',PT h' pb (s.fail e)->mL pb h h'->k (.tuple #[]) h'):
 Ct 56 [.pointer (some ⟨pb,0,none⟩),.int .i64 e] h k:=
 yL hp.out e (fun h' p=>hk h' p.pt p.le)
theorem pK{h:ad}{pb:Nat}{s:PS}(hp:PT h pb s){k:Value->ad->Prop}
 (hk:∀h' v s',s.name ao=(v,s')->PT h' pb s'->mL pb h h'->s'.ws.length<=s.ws.length->v.size<=12->k (.string v) h'):
 Ct 123 [.pointer (some ⟨pb,0,none⟩)] h k:=
 JU hp.out (fun h' v s' e p l z=>hk h' v s' e p.pt p.le l z)
theorem FI{h:ad}{pb:Nat}{s:PS}(hp:PT h pb s){k:Value->ad->Prop}
 (hk:∀h' v s',s.column ao=(v,s')->PT h' pb s'->mL pb h h'->s'.ws.length<=s.ws.length->v.size<=25->k (.string v) h'):
 Ct 220 [.pointer (some ⟨pb,0,none⟩)] h k:=
 rY hp.out (fun h' v s' e p l z=>hk h' v s' e p.pt p.le l z)
theorem iK{h:ad}{pb:Nat}{s:PS}(hp:PT h pb s){n:Nat}(hn:h n=none)(l:List ByteArray){m:Nat}{h1:ad}(e:h1=bp h n (.cells (List.toArray (l.map Value.string)) 9 (0,0)))(hm:m=l.length)(hl:l.length<=10){k:Value->ad->Prop}
 (hk:∀h' s',s.cg l=s'->PT h' pb s'->mL pb h h'->s'.ws.length<=s.ws.length->k (.tuple #[]) h'):Ct 122 [.pointer (some ⟨pb,0,none⟩),.slice (some ⟨n,0,none⟩) m m] h1 k:=
 JX hp.out hn l e hm hl (fun h' s' e p l=>hk h' s' e p.pt p.le l)
abbrev SlN(h:ad)(v:Value)(l:List Nd):Prop:=Sl 325 dh h v l
theorem wz{h:ad}{pb:Nat}{s:PS}(hp:PT h pb s){k:Value->ad->Prop}
 (hk:∀h' b n c e s',s.expr ao=(e,s')->e.length<=60->PT h' pb s'->mL pb h h'->SlN h' (.slice b n c) e->s'.ws.length<=s.ws.length->k (.slice b n c) h'):
 Ct 217 [.pointer (some ⟨pb,0,none⟩)] h k:=
 exprK hp.out (fun FR h' b n c e s' he hl lb p q l=>hk h' b n c e s' he hl p.pt (lb.trans p.le) (q.mono (p.le.t _)) l)
theorem JZ{h:ad}{pb:Nat}{s:PS}(hp:PT h pb s){z:Int}{m:Nat}(hz:aS z m){k:Value->ad->Prop}
 (hk:∀h' t s',s.more m=(t,s')->PT h' pb s'->mL pb h h'->s'.ws.length<=s.ws.length->(t=true->s'.ws.length<s.ws.length/\m<6)->k (.bool t) h'):
 Ct 218 [.pointer (some ⟨pb,0,none⟩),.int .i64 z] h k:=by
 obtain⟨A,hA⟩:=Ar.ex;have f1:A .aG .geq z 6=decide (m>=6):=by have:=hz.eq;rw[bS A,decide_eq_decide];omega
 have hm:s.more m=match s.is (ax [44])with
  | (false,p)=>(false,p)
  | (true,p)=>if m>=6 then(false,p.fail 4)else(true,p):=by unfold PS.more;rfl
 refine ah A (ar T218.aA T218.bm) Tryz.func218 rfl (by kernel_rfl) ?_;cbv;refine vK hp (ax [44]) (fun h1 t s1 e1 p1 l1 eK ik=>?_);rw[e1]at hm;have uh:A .not t= !t:=by rw[hA.not]
 cases t with
 |false=>have ae:=hk h1 false s1 hm p1 l1 (by rw[(ik rfl).1];exact Nat.le_refl _) (fun e=>by cases e);cbv;rw[uh];cbv;exact ae
 |true=>
  have eK:=eK rfl;replace hm:s.more m=if m>=6 then(false,s1.fail 4)else(true,s1):=hm
  cbv;rw[uh];cbv;rw[f1];by_cases h6:m>=6
  ·rw[if_pos h6]at hm;rw[decide_eq_true h6];cbv;refine FB p1 4 (fun h2 p2 l2=>?_);have ae:=hk h2 false _ hm p2 (l1.trans l2) (by rw[PS.rQ];omega) (fun e=>by cases e);cbv;exact ae
  ·rw[if_neg h6]at hm;have ae:=hk h1 true _ hm p1 l1 (by omega) (fun _=>⟨eK,by omega⟩);rw[decide_eq_false h6];cbv;exact ae
theorem CW{h:ad}{pb:Nat}{s:PS}(hp:PT h pb s){k:Value->ad->Prop}
 (hk:∀h' b n c e s',s.bM ao=(e,s')->e.length<=60->PT h' pb s'->mL pb h h'->SlN h' (.slice b n c) e->s'.ws.length<=s.ws.length->k (.slice b n c) h'):
 Ct 126 [.pointer (some ⟨pb,0,none⟩)] h k:=by
 obtain⟨A,hA⟩:=Ar.ex;have hm:s.bM ao=match s.is (ax [119,104,101,114,101])with
  | (true,p)=>p.expr ao
  | (false,p)=>([],p):=by unfold PS.bM;rfl
 refine ah A (ar T126.aA T126.bm) Tryz.func126 rfl (by kernel_rfl) ?_;cbv;refine vK hp (ax [119,104,101,114,101]) (fun h1 t s1 e1 p1 l1 eK ik=>?_);rw[e1]at hm;cases t with
 |false=>have ae:=hk h1 none 0 0 [] s1 hm (Nat.zero_le _) p1 l1 Sl.nil (by rw[(ik rfl).1];exact Nat.le_refl _);cbv;exact ae
 |true=>have eK:=eK rfl;replace hm:s.bM ao=s1.expr ao:=hm;cbv;refine wz p1 (fun h2 b n c e s2 e2 z2 p2 l2 q2 w2=>?_);have ae:=hk h2 b n c e s2 (hm.trans e2) z2 p2 (l1.trans l2) q2 (by omega);cbv;exact ae
def cm:Sh dG where
 n:=2
 R h cs t:=∃b n c,cs=[.int .i64 t.fn,.slice b n c]/\Sl 325 dh h (.slice b n c) t.e
 len:=by rintro h cs x ⟨_,_,_,rfl,-⟩;rfl
 one:=by rintro h cs x ⟨_,_,_,rfl,-⟩;rfl
 tys:=[325]
 mono:=by rintro h h' cs x hl ⟨b,n,c,rfl,q⟩;exact⟨b,n,c,rfl,q.mono (hl.sub (by decide))⟩
theorem QT{h:ad}{pb:Nat}{s:PS}(hp:PT h pb s){k:Value->ad->Prop}
 (hk:∀h' b n c it s',s.item ao=(it,s')->it.e.length<=60->PT h' pb s'->mL pb h h'->SlN h' (.slice b n c) it.e->s'.ws.length<=s.ws.length->k (.agg #[.int .i64 it.fn,.slice b n c]) h'):
 Ct 219 [.pointer (some ⟨pb,0,none⟩)] h k:=by
 obtain⟨A,hA⟩:=Ar.ex;obtain⟨D,hD⟩:∃D,s.item ao=D:=⟨_,rfl⟩;have hm:=hD;unfold PS.item at hm;rw[hD]at hk;clear hD;refine ah A (ar T219.aA T219.bm) Tryz.func219 rfl (by kernel_rfl) ?_;cbv;refine vK hp (ax [99,111,117,110,116]) (fun h1 t s1 e1 p1 l1 eK ik=>?_);rw[e1]at hm;cases t with
 |true=>have eK:=eK rfl;replace hm:(⟨1,[]⟩,s1.cg [(ax [40]),(ax [42]),(ax [41])])=D:=hm;cbv;intro n3 h3 g3 e3;refine iK p1 g3 [(ax [40]),(ax [42]),(ax [41])] e3 rfl (by decide) (fun h4 s4 e4 p4 l4 w4=>?_);rw[e4]at hm;have ae:=hk h4 none 0 0 ⟨1,[]⟩ s4 hm.symm (Nat.zero_le _) p4 (l1.trans l4) Sl.nil (by omega);cbv;exact ae
 |false=>
  obtain⟨fh,eF⟩:=ik rfl;replace fh:=fh.symm;replace eF:=eF.symm;subst fh eF;clear eK ik p1 l1;replace hm:(match s.da [((ax [115,117,109]),2),((ax [109,105,110]),3),((ax [109,97,120]),4)]with
   | (none,p)=>((⟨0,(p.expr ao).1⟩:dG),(p.expr ao).2)
   | (some fn,p)=>((⟨fn,((({ p.cg [(ax [40])]with e:=[] }:PS).column ao).2.node (eJ (({ p.cg [(ax [40])]with e:=[] }:PS).column ao).1)).2.e⟩:dG),((({ p.cg [(ax [40])]with e:=[] }:PS).column ao).2.node (eJ (({ p.cg [(ax [40])]with e:=[] }:PS).column ao).1)).2.cg [(ax [41])]))=D:=hm
  cbv;refine vK hp (ax [115,117,109]) (fun h1 t s1 e1 p1 l1 eK ik=>?_);cases t with
  |true=>have eo:s.da [((ax [115,117,109]),2),((ax [109,105,110]),3),((ax [109,97,120]),4)]=(some 2,s1):=eB e1;have eK:=eK rfl;rw[eo]at hm;replace hm:((⟨2,((({ s1.cg [(ax [40])]with e:=[] }:PS).column ao).2.node (eJ (({ s1.cg [(ax [40])]with e:=[] }:PS).column ao).1)).2.e⟩:dG),((({ s1.cg [(ax [40])]with e:=[] }:PS).column ao).2.node (eJ (({ s1.cg [(ax [40])]with e:=[] }:PS).column ao).1)).2.cg [(ax [41])])=D:=hm;cbv;intro n3 h3 g3 e3;refine iK p1 g3 [(ax [40])] e3 rfl (by decide) (fun h4 s4 e4 p4 l4 w4=>?_);rw[e4]at hm;refine p4.out.elim (fun wb wn wc eb en ec at_ i all w r g qw hz hw nH hr hi OR qe=>?_);cbv;rw[ai A];refine jz g (by simp) (fun h5 e5=>?_);have p5:gX true (Sx.de h4 pb) h5 pb { s4 with e:=[] }:=p4.out.JA (lv':=true) g p4.out.le (fun _=>⟨cX.nil,by decide⟩) g e5;cbv;refine rY p5 (fun h6 v s6 e6 p6 w6 z6=>?_);have w6:s6.ws.length<=s4.ws.length:=w6;rw[e6]at hm;cbv;refine jd p6 2 0 0 0 0 _ v (fun h7 v7 s7 e7 p7 w7=>?_);have e7:s6.node (eJ v)=(v7,s7):=e7;replace hm:((⟨2,(s6.node (eJ v)).2.e⟩:dG),(s6.node (eJ v)).2.cg [(ax [41])])=D:=hm;rw[e7]at hm;refine p7.elim (fun wb7 wn7 wc7 eb7 en7 ec7 at7 i7 all7 w7' r7 g7 qw7 hz7 hw7 Zb hr7 hi7 Zc QF=>?_);obtain⟨qb,DP⟩:=QF rfl;have qs:=qb.sl;have p8:=p7.pt;have Fa:=p7.le;clear QF;cbv;rw[ai A];refine av g7 rfl rfl ?_;cbv;intro n9 h9 g9 e9;refine iK p8 g9 [(ax [41])] e9 rfl (by decide) (fun kx vm lW qI mZ MC=>?_);replace hm:((⟨2,s7.e⟩:dG),s7.cg [(ax [41])])=D:=hm;rw[lW]at hm;have qf:=qs.mono (p8.lt mZ (tys:=325::dh.tys) (by decide));have ae:=hk kx eb7 en7 ec7 ⟨2,s7.e⟩ vm hm.symm DP qI ((l1.trans l4).trans ((show mL pb h4 h7 from Fa).trans mZ)) qf (by rw[w7]at MC;omega);cbv;exact ae
  |false=>
   obtain⟨fh,eF⟩:=ik rfl;replace fh:=fh.symm;replace eF:=eF.symm;subst fh eF;have lW:=e1;clear e1 eK ik p1 l1;cbv;refine vK hp (ax [109,105,110]) (fun h1 t s1 e1 p1 l1 eK ik=>?_);cases t with
   |true=>have eo:s.da [((ax [115,117,109]),2),((ax [109,105,110]),3),((ax [109,97,120]),4)]=(some 3,s1):=(aM lW).trans (eB e1);have eK:=eK rfl;rw[eo]at hm;replace hm:((⟨3,((({ s1.cg [(ax [40])]with e:=[] }:PS).column ao).2.node (eJ (({ s1.cg [(ax [40])]with e:=[] }:PS).column ao).1)).2.e⟩:dG),((({ s1.cg [(ax [40])]with e:=[] }:PS).column ao).2.node (eJ (({ s1.cg [(ax [40])]with e:=[] }:PS).column ao).1)).2.cg [(ax [41])])=D:=hm;cbv;intro n3 h3 g3 e3;refine iK p1 g3 [(ax [40])] e3 rfl (by decide) (fun h4 s4 e4 p4 l4 w4=>?_);rw[e4]at hm;refine p4.out.elim (fun wb wn wc eb en ec at_ i all w r g qw hz hw nH hr hi OR qe=>?_);cbv;rw[ai A];refine jz g (by simp) (fun h5 e5=>?_);have p5:gX true (Sx.de h4 pb) h5 pb { s4 with e:=[] }:=p4.out.JA (lv':=true) g p4.out.le (fun _=>⟨cX.nil,by decide⟩) g e5;cbv;refine rY p5 (fun h6 v s6 e6 p6 w6 z6=>?_);have w6:s6.ws.length<=s4.ws.length:=w6;rw[e6]at hm;cbv;refine jd p6 2 0 0 0 0 _ v (fun h7 v7 s7 e7 p7 w7=>?_);have e7:s6.node (eJ v)=(v7,s7):=e7;replace hm:((⟨3,(s6.node (eJ v)).2.e⟩:dG),(s6.node (eJ v)).2.cg [(ax [41])])=D:=hm;rw[e7]at hm;refine p7.elim (fun wb7 wn7 wc7 eb7 en7 ec7 at7 i7 all7 w7' r7 g7 qw7 hz7 hw7 Zb hr7 hi7 Zc QF=>?_);obtain⟨qb,DP⟩:=QF rfl;have qs:=qb.sl;have p8:=p7.pt;have Fa:=p7.le;clear QF;cbv;rw[ai A];refine av g7 rfl rfl ?_;cbv;intro n9 h9 g9 e9;refine iK p8 g9 [(ax [41])] e9 rfl (by decide) (fun kx vm lW qI mZ MC=>?_);replace hm:((⟨3,s7.e⟩:dG),s7.cg [(ax [41])])=D:=hm;rw[lW]at hm;have qf:=qs.mono (p8.lt mZ (tys:=325::dh.tys) (by decide));have ae:=hk kx eb7 en7 ec7 ⟨3,s7.e⟩ vm hm.symm DP qI ((l1.trans l4).trans ((show mL pb h4 h7 from Fa).trans mZ)) qf (by rw[w7]at MC;omega);cbv;exact ae
   |false=>
    obtain⟨fh,eF⟩:=ik rfl;replace fh:=fh.symm;replace eF:=eF.symm;subst fh eF;have uv:=e1;clear e1 eK ik p1 l1;cbv;refine vK hp (ax [109,97,120]) (fun h1 t s1 e1 p1 l1 eK ik=>?_);cases t with
    |true=>have eo:s.da [((ax [115,117,109]),2),((ax [109,105,110]),3),((ax [109,97,120]),4)]=(some 4,s1):=(aM lW).trans ((aM uv).trans (eB e1));have eK:=eK rfl;rw[eo]at hm;replace hm:((⟨4,((({ s1.cg [(ax [40])]with e:=[] }:PS).column ao).2.node (eJ (({ s1.cg [(ax [40])]with e:=[] }:PS).column ao).1)).2.e⟩:dG),((({ s1.cg [(ax [40])]with e:=[] }:PS).column ao).2.node (eJ (({ s1.cg [(ax [40])]with e:=[] }:PS).column ao).1)).2.cg [(ax [41])])=D:=hm;cbv;intro n3 h3 g3 e3;refine iK p1 g3 [(ax [40])] e3 rfl (by decide) (fun h4 s4 e4 p4 l4 w4=>?_);rw[e4]at hm;refine p4.out.elim (fun wb wn wc eb en ec at_ i all w r g qw hz hw nH hr hi OR qe=>?_);cbv;rw[ai A];refine jz g (by simp) (fun h5 e5=>?_);have p5:gX true (Sx.de h4 pb) h5 pb { s4 with e:=[] }:=p4.out.JA (lv':=true) g p4.out.le (fun _=>⟨cX.nil,by decide⟩) g e5;cbv;refine rY p5 (fun h6 v s6 e6 p6 w6 z6=>?_);have w6:s6.ws.length<=s4.ws.length:=w6;rw[e6]at hm;cbv;refine jd p6 2 0 0 0 0 _ v (fun h7 v7 s7 e7 p7 w7=>?_);have e7:s6.node (eJ v)=(v7,s7):=e7;replace hm:((⟨4,(s6.node (eJ v)).2.e⟩:dG),(s6.node (eJ v)).2.cg [(ax [41])])=D:=hm;rw[e7]at hm;refine p7.elim (fun wb7 wn7 wc7 eb7 en7 ec7 at7 i7 all7 w7' r7 g7 qw7 hz7 hw7 Zb hr7 hi7 Zc QF=>?_);obtain⟨qb,DP⟩:=QF rfl;have qs:=qb.sl;have p8:=p7.pt;have Fa:=p7.le;clear QF;cbv;rw[ai A];refine av g7 rfl rfl ?_;cbv;intro n9 h9 g9 e9;refine iK p8 g9 [(ax [41])] e9 rfl (by decide) (fun kx vm lW qI mZ MC=>?_);replace hm:((⟨4,s7.e⟩:dG),s7.cg [(ax [41])])=D:=hm;rw[lW]at hm;have qf:=qs.mono (p8.lt mZ (tys:=325::dh.tys) (by decide));have ae:=hk kx eb7 en7 ec7 ⟨4,s7.e⟩ vm hm.symm DP qI ((l1.trans l4).trans ((show mL pb h4 h7 from Fa).trans mZ)) qf (by rw[w7]at MC;omega);cbv;exact ae
    |false=>obtain⟨fh,eF⟩:=ik rfl;replace fh:=fh.symm;replace eF:=eF.symm;subst fh eF;have xH:=e1;clear e1 eK ik p1 l1;cbv;have eo:s.da [((ax [115,117,109]),2),((ax [109,105,110]),3),((ax [109,97,120]),4)]=(none,s):=(aM lW).trans ((aM uv).trans (aM xH));rw[eo]at hm;refine wz hp (fun h2 b n c e s2 e2 z2 p2 l2 q2 w2=>?_);replace hm:((⟨0,(s.expr ao).1⟩:dG),(s.expr ao).2)=D:=hm;rw[e2]at hm;have ae:=hk h2 b n c ⟨0,e⟩ s2 hm.symm z2 p2 l2 q2 w2;cbv;exact ae
abbrev fB:Sh (List Nd):=jU 325 dh
structure Qu(h:ad)(v:Value)(st:az):Prop where
 out:∃b1 n1 c1 b2 n2 c2 b3 n3 c3 b4 n4 c4 b5 n5 c5 b6 n6 c6,v=.agg #[.int .i64 st.kind,.string st.mS.name,.slice b1 n1 c1,.int .i64 st.mS.key,.bool st.mS.only,.string st.table,.string st.join,.slice b2 n2 c2,.slice b3 n3 c3,.slice b4 n4 c4,.slice b5 n5 c5,.slice b6 n6 c6,.string st.group,.string st.order,.bool st.desc,.int .i64 st.fw,.string st.name]/\
  Sl 165 bt h (.slice b1 n1 c1) st.mS.cols/\Sl 325 dh h (.slice b2 n2 c2) st.on/\Sl 9 cB h (.slice b3 n3 c3) st.names/\Sl 42 fB h (.slice b4 n4 c4) st.exprs/\Sl 276 cm h (.slice b5 n5 c5) st.items/\Sl 325 dh h (.slice b6 n6 c6) st.bM
abbrev stV(k:Int)(sn:ByteArray)(b1:Option Addr)(n1 c1:Nat)(ky:Int)(on:Bool)(tb jn:ByteArray)(b2:Option Addr)(n2 c2:Nat)(b3:Option Addr)(n3 c3:Nat)(b4:Option Addr)(n4 c4:Nat)(b5:Option Addr)(n5 c5:Nat)(b6:Option Addr)(n6 c6:Nat)(gr od:ByteArray)(ds:Bool)(lm:Int)(nm:ByteArray):Value:=
 .agg #[.int .i64 k,.string sn,.slice b1 n1 c1,.int .i64 ky,.bool on,.string tb,.string jn,.slice b2 n2 c2,.slice b3 n3 c3,.slice b4 n4 c4,.slice b5 n5 c5,.slice b6 n6 c6,.string gr,.string od,.bool ds,.int .i64 lm,.string nm]
theorem HC{n:Nat}{l:List (List Nd)}{p q:PS}(e:p.more l.length=(true,q)):lV ao (n+1) l p=lV ao n (l++[(q.expr ao).1]) (q.expr ao).2:=by show(match p.more l.length with| (true,p)=>_| (false,p)=>(l,p))=_;rw[e]
theorem El{n:Nat}{l:List (List Nd)}{p q:PS}(e:p.more l.length=(false,q)):lV ao (n+1) l p=(l,q):=by show(match p.more l.length with| (true,p)=>_| (false,p)=>(l,p))=_;rw[e]
theorem OC{h:ad}{pb:Nat}{s:PS}(hp:PT h pb s){k:Value->ad->Prop}
 (hk:∀h' st s' v,s.insert ao=(st,s')->PT h' pb s'->mL pb h h'->Qu h' v st->s'.ws.length<=s.ws.length->k v h'):
 Ct 124 [.pointer (some ⟨pb,0,none⟩)] h k:=by
 obtain⟨A,hA⟩:=Ar.ex;obtain⟨D,hD⟩:∃D,s.insert ao=D:=⟨_,rfl⟩;have hm:=hD;rw[hD]at hk;clear hD;unfold PS.insert at hm;refine ah A (ar T124.aA T124.bm) Tryz.func124 rfl (by kernel_rfl) ?_;cbv;intro n1 h1 g1 e1;refine iK hp g1 [(ax [105,110,116,111])] e1 rfl (by decide) (fun h2 s2 e2 p2 l2 w2=>?_);rw[e2]at hm;cbv;refine pK p2 (fun h3 tb s3 e3 p3 l3 w3 z3=>?_);simp only[e3]at hm;cbv;intro n4 h4 g4 e4;refine iK p3 g4 [(ax [118,97,108,117,101,115]),(ax [40])] e4 rfl (by decide) (fun h5 s5 e5 p5 l5 w5=>?_);rw[e5]at hm;have Xi:=(l2.trans l3).trans l5;have w05:s5.ws.length<=s.ws.length:=by omega
 cbv;refine wz p5 (fun h6 b n c e6l s6 e6 z6 p6 l6 q6 w6=>?_);rw[e6]at hm;obtain⟨R,hR⟩:∃R,lV ao (s6.ws.length+1) [e6l] s6=R:=⟨_,rfl⟩;replace hm:((({ kind:=3,table:=tb,exprs:=(lV ao (s6.ws.length+1) [e6l] s6).1 }:az),(lV ao (s6.ws.length+1) [e6l] s6).2.cg [(ax [41])]))=D:=hm;rw[hR]at hm;cbv;intro n7 h7 g7 e7;have l7:Le h6 h7:=by rw[e7];exact Le.set g7
 have f7:=(congrFun e7 n7).trans af;have v7:Sl 42 fB h7 (.slice (some ⟨n7,0,none⟩) 1 1) [e6l]:=bU (s:=fB) f7 ⟨_,rfl,q6.mono (l7.t _)⟩;have l07:Le (Sx.de h pb) h7:=(Xi.trans l6).trans l7.QQ;have Hg:cX 42 fB (Sx.de h pb) h7 (.slice none 0 0) ([]:List (List Nd)):=cX.nil;cbv;refine Hg.append v7 (by decide) rfl (by decide) (by omega) l07 (fun m8 b8 c8 h8 em8 l8 t8 k8 Lg=>?_);have p8:=p6.of ((l7.t _).trans (t8 _ (by decide)));rw[List.nil_append]at Lg;obtain⟨I,bl⟩:∃I:Nat->Option Addr×Nat×Nat->ad->Prop,∀m g h',I m g h'=∃l s1 fu,cX 42 fB (Sx.de h pb) h' (.slice g.1 g.2.1 g.2.2) l/\l.length<=6/\PT h' pb s1/\mL pb h h'/\s1.ws.length<=s.ws.length/\s1.ws.length<fu/\lV ao fu l s1=R/\m=s1.ws.length:=⟨_,fun _ _ _=>rfl⟩;have hJ:I s6.ws.length (b8,m8,c8) h8:=by rw[bl];exact⟨_,s6,_,Lg,(by show 1<=6;decide),p8,l8,by omega,Nat.lt_succ_self _,hR,rfl⟩
 clear hR Hg v7 f7 e6 Lg t8 k8;cbv;refine aX.go (G:=Option Addr×Nat×Nat) (fun _=>[]) (fun g=>[(3,[.int .i64 3,.string ⟨#[]⟩,.slice none 0 0,.int .i64 0,.bool false,.string tb,.string ⟨#[]⟩,.slice none 0 0,.slice none 0 0,.slice g.1 g.2.1 g.2.2,.slice none 0 0,.slice none 0 0,.string ⟨#[]⟩,.string ⟨#[]⟩,.bool false,.int .i64 0,.string ⟨#[]⟩]),
  (2,[.int .i64 0,.string ⟨#[]⟩,.slice none 0 0,.int .i64 0,.bool false,.string ⟨#[]⟩,.string ⟨#[]⟩,.slice none 0 0,.slice none 0 0,.slice none 0 0,.slice none 0 0,.slice none 0 0,.string ⟨#[]⟩,.string ⟨#[]⟩,.bool false,.int .i64 0,.string ⟨#[]⟩])]) (fun m g h'=>I m g h') s6.ws.length (b8,m8,c8) ⟨?_,?_,?_⟩ hJ ?_
 ·cbv
 ·cbv
 ·cbv
 ·intro m g h9 hI;rw[bl]at hI;cbv;obtain⟨l,s9,fu,M5,Rh,p9,l9,w9,Vl,he,D4⟩:=hI;obtain⟨gb,gn,gc⟩:=g;have M5:cX 42 fB (Sx.de h pb) h9 (.slice gb gn gc) l:=M5;have Ft:=M5.sl.len;obtain⟨fu,rfl⟩:∃B8,fu=B8+1:=⟨fu-1,by omega⟩;have Ff:aS (A .nat gn) l.length:=by rw[<-Ft];exact aS.nat gn
  refine JZ p9 Ff (fun kx t vm lW qI mZ MC BA=>?_);have Am:=M5.mono (p9.lt mZ (tys:=42::fB.tys) (by decide));cases t with
  |true=>
   obtain⟨BA,hl5⟩:=BA rfl;have he:=(HC lW).symm.trans he;cbv;refine wz qI (fun B3 b n c e11l Gz uv z11 Yr uI Jy w11=>?_);rw[uv]at he;have he:lV ao fu (l++[e11l]) Gz=R:=he;have Z6:=Am.mono (qI.lt uI (tys:=42::fB.tys) (by decide));cbv;intro ML uu g12 xH;have gh:Le B3 uu:=by rw[xH];exact Le.set g12
   have f12:=(congrFun xH ML).trans af;have v12:Sl 42 fB uu (.slice (some ⟨ML,0,none⟩) 1 1) [e11l]:=bU (s:=fB) f12 ⟨_,rfl,Jy.mono (gh.t _)⟩;have l012:Le (Sx.de h pb) uu:=((l9.trans mZ).trans uI).trans gh.QQ;cbv;refine(Z6.mono (gh.t _)).append v12 (by decide) rfl (by decide) (by omega) l012 (fun m13 b13 c13 h13 em13 YQ t13 k13 Z5=>?_);have p13:=Yr.of ((gh.t _).trans (t13 _ (by decide)));have hI13:I Gz.ws.length (b13,m13,c13) h13:=by rw[bl];exact⟨_,Gz,fu,Z5,by rw[List.length_append,List.length_singleton];omega,p13,YQ,by omega,by omega,he,rfl⟩
   have aK:Gz.ws.length<m:=by omega
   clear bl hJ hk he Z5 M5 Am Z6 v12 f12 t13 k13;cbv;refine⟨Gz.ws.length,(_,_,_),aK,⟨?_,?_,?_⟩,hI13⟩
   ·cbv
   ·cbv
   ·cbv
  |false=>have he:=(El lW).symm.trans he;rw[<-he]at hm;clear he bl hJ;cbv;intro n11 B3 VP uv;refine iK qI VP [(ax [41])] uv rfl (by decide) (fun uu H7 xH p12 gh w12=>?_);replace hm:((({ kind:=3,table:=tb,exprs:=l }:az),vm.cg [(ax [41])]))=D:=hm;rw[xH]at hm;have hb12:=Am.mono (qI.lt gh (tys:=42::fB.tys) (by decide));have ae:=fun v q=>hk uu ({ kind:=3,table:=tb,exprs:=l }:az) H7 v hm.symm p12 ((l9.trans mZ).trans gh) q (by omega);have ae:=ae _ ⟨none,0,0,none,0,0,none,0,0,gb,gn,gc,none,0,0,none,0,0,rfl,Sl.nil,Sl.nil,Sl.nil,hb12.sl,Sl.nil,Sl.nil⟩;cbv;exact ae
theorem kn(a b:By):ax a++ax b=ax (a++b):=by apply ByteArray.ext;rw[ByteArray.data_append];show a.toArray++b.toArray=(a++b).toArray;simp
theorem dn(a:By):(ax a).size=a.length:=by show a.toArray.size=_;simp
theorem uU(c:UInt8)(r acc:By):eC (c::r) acc=match decide (c.toNat=39)with
 |false=>eC r (acc++[c])
 |true=>match r with
  | []=>if acc.length>60 then(([],[]),5)else((acc,[]),0)
  |d::r'=>match decide (d.toNat=39)with
   |true=>eC r' (acc++[39])
   |false=>if acc.length>60 then(([],[]),5)else((acc,d::r'),0):=by rw[eC.eq_def];rfl
theorem NJ{s:ByteArray}(hs:s.size<=600){i:Nat}{t:By}(q:pO s i t){z:Int}(hz:aS z i){h:ad}{k:Value->ad->Prop}
 (hk:∀v z' e rest,eC t []=((v,rest),e)->(e=0->∃j,aS z' j/\pO s j rest)->k (.tuple #[.string (ax v),.int .i64 z',.int .i64 e]) h):
 Ct 214 [.string s,.int .i64 z] h k:=by
 obtain⟨A,hA⟩:=Ar.ex;have rE:aS (A .iq s) s.size:=⟨by rw[hA.iq]⟩;obtain⟨I,bl⟩:∃I:Nat->Int×ByteArray->ad->Prop,∀m g h',I m g h'=∃j t' acc,aS g.1 j/\pO s j t'/\m=t'.length/\g.2=ax acc/\acc.length<=j/\eC t' acc=eC t []/\h'=h:=⟨_,fun _ _ _=>rfl⟩;have hJ:I t.length (z,⟨#[]⟩) h:=by rw[bl];exact⟨i,t,[],hz,q,rfl,rfl,Nat.zero_le _,rfl,rfl⟩
 refine ah A (ar T214.aA T214.bm) Tryz.func214 rfl (by kernel_rfl) ?_;cbv;refine aX.go (G:=Int×ByteArray) (fun g=>[(1,.v (.int .i64 g.1)),(7,.v (.string g.2))]) (fun _=>[]) (fun m g h'=>I m g h') t.length (z,⟨#[]⟩) ⟨?_,?_,?_⟩ hJ ?_
 ·cbv
 ·cbv
 ·cbv
 ·intro m g h' hI;rw[bl]at hI;cbv;obtain⟨j,t',acc,hg,q',hm,vS,hal,he,rfl⟩:=hI;obtain⟨z,out⟩:=g;have hg:aS z j:=hg;have vS:out=ax acc:=vS;have Xu:out.size=acc.length:=by rw[vS,dn]
  have hl:=q'.len;have f1:A .aG .lss z (A .iq s)=decide (j<s.size):=hg.gy rE;rw[f1];cases t' with
  |nil=>
   have aK:¬j<s.size:=by have:([]:By).length=0:=rfl;omega
   have ae:=hk [] 0 6 [] (by rw[<-he];rfl) (fun e=>absurd e (by decide));have ae:k (.tuple #[.string ⟨#[]⟩,.int .i64 0,.int .i64 6]) h':=ae;rw[decide_eq_false aK];cbv;exact ae
  |cons c r=>
   have qJ:(c::r).length=r.length+1:=rfl;have aK:j<s.size:=by omega
   have cU:0<=z/\z<(s.size:Int):=hg.ix aK;obtain⟨b,hb⟩:∃b,A .byte s z=b:=⟨_,rfl⟩;have pj:b=(c.toNat:Int):=by rw[<-hb];exact q'.byte hg
   have f2:A .aG .neq b 39= !decide (c.toNat=39):=by
    rw[aB A,pj];by_cases h:c.toNat=39
    ·simp[h]
    ·have:(c.toNat:Int)≠39:=by omega
     simp[h,this]
   have dD:=hg.succ (A:=A) (by omega);have gQ:r.length<m:=by rw[hm];exact Nat.lt_succ_self _
   have hq:=q'.next;have Fi:=uU c r acc;rw[Fi]at he;clear Fi;rw[decide_eq_true aK];cbv;refine⟨cU,?_⟩;cbv;rw[hb,f2];clear f2;generalize decide (c.toNat=39)=u1 at *;cases u1 with
   |false=>
    replace he:eC r (acc++[c])=eC t []:=he;have dp:A .sub s z (A .bA .add .i64 z 1)=ax [c]:=q'.sub hg (n:=1) dD;have D8:0<=A .bA .add .i64 z 1/\A .bA .add .i64 z 1<=(s.size:Int)/\0<=z/\z<=A .bA .add .i64 z 1:=by have h1:=dD.eq;have h2:=hg.eq;omega
    have D9:((out.size+(ax [c]).size:Nat):Int)<=2^62:=by rw[dn];show((out.size+1:Nat):Int)<=_;omega
    obtain⟨z2,fN⟩:∃z2,A .bA .add .i64 z 1=z2:=⟨_,rfl⟩;rw[fN]at dp D8 dD;obtain⟨sb,Aa⟩:∃sb,ax [c]=sb:=⟨_,rfl⟩;have di:I r.length (z2,A .cat out sb) h':=by rw[bl];refine⟨j+1,r,acc++[c],dD,hq,rfl,?_,by rw[List.length_append,List.length_singleton];omega,he,rfl⟩;show A .cat out sb=_;rw[<-Aa,hA.cat,vS];exact kn _ _
    rw[Aa]at dp D9;clear bl hJ hk he;cbv;rw[fN];refine⟨D8,?_⟩;cbv;rw[dp];refine⟨D9,?_⟩;cbv;rw[fN];refine⟨r.length,(_,_),gQ,⟨?_,?_,?_⟩,di⟩
    ·cbv
    ·cbv
    ·cbv
   |true=>
    obtain⟨z2,fN⟩:∃z2,A .bA .add .i64 z 1=z2:=⟨_,rfl⟩;rw[fN]at dD;have f3:A .aG .lss z2 (A .iq s)=decide (j+1<s.size):=dD.gy rE;have f4:A .aG .gtr (A .iq out) 60=decide (acc.length>60):=by rw[bJ A,hA.iq];show decide ((out.size:Int)>60)=_;rw[decide_eq_decide,Xu];omega
    have js:(if acc.length>60 then((([]:By),([]:By)),(5:Int))else((acc,r),0))=eC t []->if acc.length>60 then k (.tuple #[.string ⟨#[]⟩,.int .i64 0,.int .i64 5]) h' else k (.tuple #[.string out,.int .i64 z2,.int .i64 0]) h':=fun e=>by
     by_cases qA:acc.length>60
     ·rw[if_pos qA]at e |-;exact hk [] 0 5 [] e.symm (fun e=>absurd e (by decide))
     ·rw[if_neg qA]at e |-;rw[vS];exact hk acc z2 0 r e.symm (fun _=>⟨j+1,dD,hq⟩)
    have hlq:=hq.len;cases r with
    |nil=>
     have Hj:¬j+1<s.size:=by have:([]:By).length=0:=rfl;omega
     have js:=js he;clear bl hJ hk he;rw[decide_eq_false Hj]at f3;cbv;rw[fN,f3];cbv;rw[f4];by_cases qA:acc.length>60
     ·rw[if_pos qA]at js;rw[decide_eq_true qA];cbv;exact js
     ·rw[if_neg qA]at js;rw[decide_eq_false qA];cbv;rw[fN];exact js
    |cons d r'=>
     have Hd:(d::r').length=r'.length+1:=rfl;have Hj:j+1<s.size:=by omega
     have ur:0<=z2/\z2<(s.size:Int):=dD.ix Hj;obtain⟨b2,jS⟩:∃b,A .byte s z2=b:=⟨_,rfl⟩;have hbc2:b2=(d.toNat:Int):=by rw[<-jS];exact hq.byte dD
     have f5:A .aG .eql b2 39=decide (d.toNat=39):=by rw[aw A,decide_eq_decide,hbc2];omega
     replace he:(match decide (d.toNat=39)with
      |true=>eC r' (acc++[39])
      |false=>if acc.length>60 then((([]:By),([]:By)),(5:Int))else((acc,d::r'),0))=eC t []:=he
     generalize decide (d.toNat=39)=u2 at *;rw[decide_eq_true Hj]at f3;cases u2 with
     |true=>
      replace he:eC r' (acc++[39])=eC t []:=he;have MS:=hq.next;obtain⟨z3,Fg⟩:∃z3,A .bA .add .i64 z 2=z3:=⟨_,rfl⟩;have hn3:aS z3 (j+1+1):=⟨by rw[<-Fg,lL A _ _ (by have:=hg.eq;omega),hg.eq];omega⟩;have D9:((out.size+(ax [39]).size:Nat):Int)<=2^62:=by rw[dn];show((out.size+1:Nat):Int)<=_;omega
      have di:I r'.length (z3,A .cat out ⟨#[39]⟩) h':=by rw[bl];refine⟨j+1+1,r',acc++[39],hn3,MS,rfl,?_,by rw[List.length_append,List.length_singleton];omega,he,rfl⟩;show A .cat out (ax [39])=_;rw[hA.cat,vS];exact kn _ _
      have hlt4:r'.length<m:=by omega
      clear bl hJ hk he js;cbv;rw[fN,f3];cbv;rw[fN];refine⟨ur,?_⟩;cbv;rw[jS,f5];cbv;refine⟨D9,?_⟩;cbv;rw[Fg];refine⟨r'.length,(_,_),hlt4,⟨?_,?_,?_⟩,di⟩
      ·cbv
      ·cbv
      ·cbv
     |false=>
      have js:=js he;clear bl hJ hk he;cbv;rw[fN,f3];cbv;rw[fN];refine⟨ur,?_⟩;cbv;rw[jS,f5];cbv;rw[f4];by_cases qA:acc.length>60
      ·rw[if_pos qA]at js;rw[decide_eq_true qA];cbv;exact js
      ·rw[if_neg qA]at js;rw[decide_eq_false qA];cbv;rw[fN];exact js
theorem ND{h:ad}{pb:Nat}{s:PS}(hp:PT h pb s){k:Value->ad->Prop}
 (hk:∀h' st s' v,s.update ao=(st,s')->PT h' pb s'->mL pb h h'->Qu h' v st->s'.ws.length<=s.ws.length->k v h'):
 Ct 125 [.pointer (some ⟨pb,0,none⟩)] h k:=by
 obtain⟨A,hA⟩:=Ar.ex;obtain⟨D,hD⟩:∃D,s.update ao=D:=⟨_,rfl⟩;have hm:=hD;rw[hD]at hk;clear hD;unfold PS.update at hm;refine ah A (ar T125.aA T125.bm) Tryz.func125 rfl (by kernel_rfl) ?_;cbv;refine pK hp (fun h3 tb s3 e3 p3 l3 w3 z3=>?_);simp only[e3]at hm;cbv;intro n4 h4 g4 e4;refine iK p3 g4 [(ax [115,101,116])] e4 rfl (by decide) (fun h5 s5 e5 p5 l5 w5=>?_);simp only[e5]at hm;have Xi:=l3.trans l5;have w05:s5.ws.length<=s.ws.length:=by omega
 obtain⟨R,hR⟩:∃R,nD ao (s5.ws.length+1) [] [] s5=R:=⟨_,rfl⟩;rw[hR]at hm;obtain⟨I,bl⟩:∃I:Nat->Int×(Option Addr×Nat×Nat)×Option Addr×Nat×Nat->ad->Prop,∀m g h',I m g h'=∃kk la lb s1 fu,aS g.1 kk/\cX 9 cB (Sx.de h pb) h' (.slice g.2.1.1 g.2.1.2.1 g.2.1.2.2) la/\cX 42 fB (Sx.de h pb) h' (.slice g.2.2.1 g.2.2.2.1 g.2.2.2.2) lb/\la.length=lb.length/\la.length<=6/\PT h' pb s1/\mL pb h h'/\s1.ws.length<=s.ws.length/\s1.ws.length<=fu/\kk<=10+la.length/\
  ((kk=0/\la=[]/\lb=[]/\s1=s5/\nD ao (fu+1) [] [] s1=R/\m=s1.ws.length+1)\/(kk≠0/\(match s1.more la.length with
    | (true,p)=>nD ao fu la lb p
    | (false,p)=>((la,lb),p))=R/\m=s1.ws.length)):=⟨_,fun _ _ _=>rfl⟩
 have hJ:I (s5.ws.length+1) (0,(none,0,0),none,0,0) h5:=by rw[bl];exact⟨0,[],[],s5,s5.ws.length,⟨rfl⟩,cX.nil,cX.nil,rfl,by decide,p5,Xi,w05,Nat.le_refl _,Nat.zero_le _,.inl ⟨rfl,rfl,rfl,rfl,hR,rfl⟩⟩
 clear hR;cbv;refine aX.go (G:=Int×(Option Addr×Nat×Nat)×Option Addr×Nat×Nat) (fun g=>[(4,.v (.int .i64 g.1))]) (fun g=>[(3,[.int .i64 4,.string ⟨#[]⟩,.slice none 0 0,.int .i64 0,.bool false,.string tb,.string ⟨#[]⟩,.slice none 0 0,.slice g.2.1.1 g.2.1.2.1 g.2.1.2.2,.slice g.2.2.1 g.2.2.2.1 g.2.2.2.2,.slice none 0 0,.slice none 0 0,.string ⟨#[]⟩,.string ⟨#[]⟩,.bool false,.int .i64 0,.string ⟨#[]⟩]),
  (2,[.int .i64 0,.string ⟨#[]⟩,.slice none 0 0,.int .i64 0,.bool false,.string ⟨#[]⟩,.string ⟨#[]⟩,.slice none 0 0,.slice none 0 0,.slice none 0 0,.slice none 0 0,.slice none 0 0,.string ⟨#[]⟩,.string ⟨#[]⟩,.bool false,.int .i64 0,.string ⟨#[]⟩])]) (fun m g h'=>I m g h') (s5.ws.length+1) (0,(none,0,0),none,0,0) ⟨?_,?_,?_⟩ hJ ?_
 ·cbv
 ·cbv
 ·cbv
 ·intro m g h9 hI;rw[bl]at hI;cbv;obtain⟨kk,la,lb,s9,fu,hz,ba,bb,qJ,Rh,p9,l9,w9,Vl,Ah,dF⟩:=hI;obtain⟨z,⟨ab,an,ac⟩,gb,gn,gc⟩:=g;have hz:aS z kk:=hz;have ba:cX 9 cB (Sx.de h pb) h9 (.slice ab an ac) la:=ba;have bb:cX 42 fB (Sx.de h pb) h9 (.slice gb gn gc) lb:=bb;have M6:=ba.sl.len;have BY:=bb.sl.len;have f1:A .aG .eql z 0=decide (kk=0):=by have:=hz.eq;rw[aw A,decide_eq_decide];omega
  have dD:=hz.succ (A:=A) (by omega);rw[f1];rcases dF with ⟨rfl,rfl,rfl,rfl,he,D4⟩ | ⟨M0,he,D4⟩
  ·obtain⟨la,Hk⟩:∃l:List ByteArray,l=[]:=⟨_,rfl⟩;obtain⟨lb,hlb⟩:∃l:List (List Nd),l=[]:=⟨_,rfl⟩;obtain⟨kk,KZ⟩:∃l:Nat,l=0:=⟨_,rfl⟩;have hdk:decide ((0:Nat)=0)=true:=rfl;rw[<-Hk]at ba he M6 qJ Rh;rw[<-hlb]at bb he BY qJ;rw[<-Hk]at Ah;have hl5:la.length<6:=by rw[Hk];show 0<6;decide
   rw[<-KZ]at dD;rw[hdk];cbv;refine pK p9 (fun VH nv Gy Wm S7 GS w20 z20=>?_);have wQ:=ba.mono (p9.lt GS (tys:=9::cB.tys) (by decide));have Mf:=bb.mono (p9.lt GS (tys:=42::fB.tys) (by decide));cbv;intro JW Ec VO LC;have zT:Le VH Ec:=by rw[LC];exact Le.set VO
   have f21:=(congrFun LC JW).trans af;have IU:Sl 9 cB Ec (.slice (some ⟨JW,0,none⟩) 1 1) [nv]:=bU (s:=cB) f21 rfl;have DG:Le (Sx.de h pb) Ec:=(l9.trans GS).trans zT.QQ;cbv;refine(wQ.mono (zT.t _)).append IU (by decide) rfl (by decide) (by omega) DG (fun Tu WK WB Pr Wh DF t22 TJ wP=>?_);have JH:=S7.of ((zT.t _).trans (t22 _ (by decide)));have Me:=(Mf.mono (zT.t _)).mono (t22 _ (by decide));have DF:mL pb h Pr:=DF;clear wQ Mf IU f21 t22 TJ;cbv;intro n23 h23 g23 e23;refine iK JH g23 [(ax [61])] e23 rfl (by decide) (fun h24 s24 e24 S6 tK w24=>?_);have Mk:=wP.mono (JH.lt tK (tys:=9::cB.tys) (by decide));have Md:=Me.mono (JH.lt tK (tys:=42::fB.tys) (by decide));cbv;refine wz S6 (fun VG eb en ec ev Jq e25 z25 p25 J9 q25 w25=>?_);have Mj:=Mk.mono (S6.lt J9 (tys:=9::cB.tys) (by decide));have Mc:=Md.mono (S6.lt J9 (tys:=42::fB.tys) (by decide));clear Mk Md wP Me;cbv;intro YF VF g26 e26;have J8:Le VG VF:=by rw[e26];exact Le.set g26
   have f26:=(congrFun e26 YF).trans af;have XY:Sl 42 fB VF (.slice (some ⟨YF,0,none⟩) 1 1) [ev]:=bU (s:=fB) f26 ⟨_,rfl,q25.mono (J8.t _)⟩;have TC:Le (Sx.de h pb) VF:=((DF.trans tK).trans J9).trans J8.QQ;cbv;refine(Mc.mono (J8.t _)).append XY (by decide) rfl (by decide) (by omega) TC (fun m27 b27 c27 h27 em27 MM t27 k27 Mb=>?_);have p27:=p25.of ((J8.t _).trans (t27 _ (by decide)));have Mi:=(Mj.mono (J8.t _)).mono (t27 _ (by decide));have MM:mL pb h h27:=MM;have bp:nD ao (fu+1) la lb s9=match Jq.more (la++[nv]).length with
    | (true,p)=>nD ao fu (la++[nv]) (lb++[ev]) p
    | (false,p)=>((la++[nv],lb++[ev]),p):=by
    rw[nD];simp only[Wm,e24,e25];rfl
   have Vy:I Jq.ws.length (A .bA .add .i64 z 1,(WK,Tu,WB),b27,m27,c27) h27:=by rw[bl];exact⟨kk+1,la++[nv],lb++[ev],Jq,fu,dD,Mi,Mb,by rw[List.length_append,List.length_append,qJ];rfl,by rw[List.length_append,List.length_singleton];omega,p27,MM,by omega,by omega,by rw[List.length_append,List.length_singleton];omega,.inr ⟨by omega,bp.symm.trans he,rfl⟩⟩
   have aK:Jq.ws.length<m:=by omega
   clear bl hJ hk he Mi Mb Mj Mc XY f26 t27 k27 bp;cbv;refine⟨Jq.ws.length,(_,(_,_,_),_,_,_),aK,⟨?_,?_,?_⟩,Vy⟩
   ·cbv
   ·cbv
   ·cbv
  ·rw[decide_eq_false M0];have Ff:aS (A .nat an) la.length:=by rw[<-M6];exact aS.nat an
   cbv;refine JZ p9 Ff (fun kx t vm lW qI mZ MC BA=>?_);rw[lW]at he;have ba:=ba.mono (p9.lt mZ (tys:=9::cB.tys) (by decide));have bb:=bb.mono (p9.lt mZ (tys:=42::fB.tys) (by decide));have l9:=l9.trans mZ;cases t with
   |true=>
    obtain⟨BA,hl5⟩:=BA rfl;replace he:nD ao fu la lb vm=R:=he;obtain⟨fu,rfl⟩:∃B8,fu=B8+1:=⟨fu-1,by omega⟩;cbv;refine pK qI (fun VH nv Gy Wm S7 GS w20 z20=>?_);have wQ:=ba.mono (qI.lt GS (tys:=9::cB.tys) (by decide));have Mf:=bb.mono (qI.lt GS (tys:=42::fB.tys) (by decide));cbv;intro JW Ec VO LC;have zT:Le VH Ec:=by rw[LC];exact Le.set VO
    have f21:=(congrFun LC JW).trans af;have IU:Sl 9 cB Ec (.slice (some ⟨JW,0,none⟩) 1 1) [nv]:=bU (s:=cB) f21 rfl;have DG:Le (Sx.de h pb) Ec:=(l9.trans GS).trans zT.QQ;cbv;refine(wQ.mono (zT.t _)).append IU (by decide) rfl (by decide) (by omega) DG (fun Tu WK WB Pr Wh DF t22 TJ wP=>?_);have JH:=S7.of ((zT.t _).trans (t22 _ (by decide)));have Me:=(Mf.mono (zT.t _)).mono (t22 _ (by decide));have DF:mL pb h Pr:=DF;clear wQ Mf IU f21 t22 TJ;cbv;intro n23 h23 g23 e23;refine iK JH g23 [(ax [61])] e23 rfl (by decide) (fun h24 s24 e24 S6 tK w24=>?_);have Mk:=wP.mono (JH.lt tK (tys:=9::cB.tys) (by decide));have Md:=Me.mono (JH.lt tK (tys:=42::fB.tys) (by decide));cbv;refine wz S6 (fun VG eb en ec ev Jq e25 z25 p25 J9 q25 w25=>?_);have Mj:=Mk.mono (S6.lt J9 (tys:=9::cB.tys) (by decide));have Mc:=Md.mono (S6.lt J9 (tys:=42::fB.tys) (by decide));clear Mk Md wP Me;cbv;intro YF VF g26 e26;have J8:Le VG VF:=by rw[e26];exact Le.set g26
    have f26:=(congrFun e26 YF).trans af;have XY:Sl 42 fB VF (.slice (some ⟨YF,0,none⟩) 1 1) [ev]:=bU (s:=fB) f26 ⟨_,rfl,q25.mono (J8.t _)⟩;have TC:Le (Sx.de h pb) VF:=((DF.trans tK).trans J9).trans J8.QQ;cbv;refine(Mc.mono (J8.t _)).append XY (by decide) rfl (by decide) (by omega) TC (fun m27 b27 c27 h27 em27 MM t27 k27 Mb=>?_);have p27:=p25.of ((J8.t _).trans (t27 _ (by decide)));have Mi:=(Mj.mono (J8.t _)).mono (t27 _ (by decide));have MM:mL pb h h27:=MM;have bp:nD ao (fu+1) la lb vm=match Jq.more (la++[nv]).length with
     | (true,p)=>nD ao fu (la++[nv]) (lb++[ev]) p
     | (false,p)=>((la++[nv],lb++[ev]),p):=by
     rw[nD];simp only[Wm,e24,e25];rfl
    have Vy:I Jq.ws.length (A .bA .add .i64 z 1,(WK,Tu,WB),b27,m27,c27) h27:=by rw[bl];exact⟨kk+1,la++[nv],lb++[ev],Jq,fu,dD,Mi,Mb,by rw[List.length_append,List.length_append,qJ];rfl,by rw[List.length_append,List.length_singleton];omega,p27,MM,by omega,by omega,by rw[List.length_append,List.length_singleton];omega,.inr ⟨by omega,bp.symm.trans he,rfl⟩⟩
    have aK:Jq.ws.length<m:=by omega
    clear bl hJ hk he Mi Mb Mj Mc XY f26 t27 k27 bp;cbv;refine⟨Jq.ws.length,(_,(_,_,_),_,_,_),aK,⟨?_,?_,?_⟩,Vy⟩
    ·cbv
    ·cbv
    ·cbv
   |false=>replace he:((la,lb),vm)=R:=he;subst he;clear bl hJ;cbv;refine CW qI (fun B3 wb wn wc we Gz uv z11 Yr uI Jy w11=>?_);replace hm:((({ kind:=4,table:=tb,names:=la,exprs:=lb,bM:=(vm.bM ao).1 }:az),(vm.bM ao).2))=D:=hm;rw[uv]at hm;have ba11:=ba.mono (qI.lt uI (tys:=9::cB.tys) (by decide));have bb11:=bb.mono (qI.lt uI (tys:=42::fB.tys) (by decide));have ae:=fun v q=>hk B3 ({ kind:=4,table:=tb,names:=la,exprs:=lb,bM:=we }:az) Gz v hm.symm Yr (l9.trans uI) q (by omega);have ae:=ae _ ⟨none,0,0,none,0,0,ab,an,ac,gb,gn,gc,none,0,0,wb,wn,wc,rfl,Sl.nil,Sl.nil,ba11.sl,bb11.sl,Sl.nil,Jy⟩;cbv;exact ae
set_option maxHeartbeats 16000000
def PX(p:PS):List dG×PS:=match p.is (ax [42])with
 | (true,p)=>([],p)
 | (false,p)=>hG ao (p.ws.length+1) [] p
def PW(p:PS):ByteArray×PS:=(p.cg [(ax [102,114,111,109])]).name ao
def Ni(p:PS):(ByteArray×List Nd)×PS:=match p.is (ax [106,111,105,110])with
 | (true,p)=>let a:=p.name ao;let e:=(a.2.cg [(ax [111,110])]).expr ao;((a.1,e.1),e.2)
 | (false,p)=>((b0,[]),p)
def RY(p:PS):ByteArray×PS:=match p.is (ax [103,114,111,117,112])with
 | (true,p)=>(p.cg [(ax [98,121])]).column ao
 | (false,p)=>(b0,p)
def XQ(p:PS):(ByteArray×Bool)×PS:=match p.is (ax [111,114,100,101,114])with
 | (true,p)=>let c:=(p.cg [(ax [98,121])]).column ao;let d:=c.2.is (ax [100,101,115,99]);((c.1,d.1),d.2)
 | (false,p)=>((b0,false),p)
def XP(p:PS):Int×PS:=match p.is (ax [108,105,109,105,116])with
 | (true,p)=>(match p.ws with
  |w::r=>if w.k=2 then(w.n,({ p with ws:=r }:PS))else((-1:Int),p.fail 6)
  | []=>(-1,p))
 | (false,p)=>(-1,p)
theorem HO{s:PS}{l:List dG}{s1 s2 s3 s4 s5 s6 s7:PS}{tb jn gr od:ByteArray}{on wh:List Nd}{ds:Bool}{lm:Int}(e1:PX s=(l,s1))(e2:PW s1=(tb,s2))(e3:Ni s2=((jn,on),s3))(e4:s3.bM ao=(wh,s4))(e5:RY s4=(gr,s5))(e6:XQ s5=((od,ds),s6))(e7:XP s6=(lm,s7)):
 s.choose ao=({ kind:=6,table:=tb,join:=jn,on:=on,items:=l,bM:=wh,group:=gr,order:=od,desc:=ds,fw:=lm },s7):=by
 have g1:(let st:=s.is (ax [42]);if st.1 then([],st.2)else hG ao (st.2.ws.length+1) [] st.2)=(l,s1):=by
  rw[<-e1];unfold PX;rcases s.is (ax [42])with ⟨t,q⟩
  cases t<;>rfl
 have g3:(let j:=s2.is (ax [106,111,105,110]);if j.1 then(let a:=j.2.name ao;let p:=a.2.cg [(ax [111,110])];let e:=p.expr ao;((a.1,e.1),e.2))else((b0,[]),j.2))=((jn,on),s3):=by
  rw[<-e3];unfold Ni;rcases s2.is (ax [106,111,105,110])with ⟨t,q⟩
  cases t<;>rfl
 have g5:(let g:=s4.is (ax [103,114,111,117,112]);if g.1 then(g.2.cg [(ax [98,121])]).column ao else(b0,g.2))=(gr,s5):=by
  rw[<-e5];unfold RY;rcases s4.is (ax [103,114,111,117,112])with ⟨t,q⟩
  cases t<;>rfl
 have g6:(let o:=s5.is (ax [111,114,100,101,114]);if o.1 then(let c:=(o.2.cg [(ax [98,121])]).column ao;let d:=c.2.is (ax [100,101,115,99]);((c.1,d.1),d.2))else((b0,false),o.2))=((od,ds),s6):=by
  rw[<-e6];unfold XQ;rcases s5.is (ax [111,114,100,101,114])with ⟨t,q⟩
  cases t<;>rfl
 have g7:(let li:=s6.is (ax [108,105,109,105,116]);if li.1 then(match li.2.ws with
  |w::r=>if w.k=2 then(w.n,({ li.2 with ws:=r }:PS))else((-1:Int),li.2.fail 6)
  | []=>(-1,li.2))else(-1,li.2))=(lm,s7):=by
  rw[<-e7];unfold XP;rcases s6.is (ax [108,105,109,105,116])with ⟨t,q⟩
  cases t<;>rfl
 have e2:(s1.cg [(ax [102,114,111,109])]).name ao=(tb,s2):=e2;have fin:∀X:Int×PS,X=(lm,s7)->(({ kind:=6,table:=tb,join:=jn,on:=on,items:=l,bM:=wh,group:=gr,order:=od,desc:=ds,fw:=X.1 }:az),X.2)=({ kind:=6,table:=tb,join:=jn,on:=on,items:=l,bM:=wh,group:=gr,order:=od,desc:=ds,fw:=lm },s7):=by rintro _ rfl;rfl
 unfold PS.choose;simp only[]at g1 g3 g5 g6 g7 |-;simp only[g1,e2,g3,e4,g5,g6];exact fin _ g7
theorem ch1_f{s:PS}{q:PS}(e:s.is (ax [42])=(false,q)):PX s=hG ao (q.ws.length+1) [] q:=by unfold PX;rw[e]
def CI1(s:PS)(pb:Nat)(h:ad)(g:Option Addr×Nat×Nat)(h':ad):Prop:=∃l s1,PX s=(l,s1)/\Sl 276 cm h' (.slice g.1 g.2.1 g.2.2) l/\PT h' pb s1/\mL pb h h'/\s1.ws.length<=s.ws.length
abbrev G13:=(Option Addr×Nat×Nat)×ByteArray×ByteArray×Option Addr×Nat×Nat
def CI2(s:PS)(pb:Nat)(h:ad)(g:G13)(h':ad):Prop:=∃l s1 s2 on s3,PX s=(l,s1)/\PW s1=(g.2.1,s2)/\Ni s2=((g.2.2.1,on),s3)/\Sl 276 cm h' (.slice g.1.1 g.1.2.1 g.1.2.2) l/\Sl 325 dh h' (.slice g.2.2.2.1 g.2.2.2.2.1 g.2.2.2.2.2) on/\PT h' pb s3/\mL pb h h'/\s3.ws.length<=s.ws.length
abbrev H13:=G13×(Option Addr×Nat×Nat)×ByteArray
def CI3(s:PS)(pb:Nat)(h:ad)(g:H13)(h':ad):Prop:=∃l s1 s2 on s3 wh s4 s5,PX s=(l,s1)/\PW s1=(g.1.2.1,s2)/\Ni s2=((g.1.2.2.1,on),s3)/\s3.bM ao=(wh,s4)/\RY s4=(g.2.2,s5)/\Sl 276 cm h' (.slice g.1.1.1 g.1.1.2.1 g.1.1.2.2) l/\Sl 325 dh h' (.slice g.1.2.2.2.1 g.1.2.2.2.2.1 g.1.2.2.2.2.2) on/\Sl 325 dh h' (.slice g.2.1.1 g.2.1.2.1 g.2.1.2.2) wh/\PT h' pb s5/\mL pb h h'/\s5.ws.length<=s.ws.length
abbrev K13:=H13×ByteArray×Bool
def CI4(s:PS)(pb:Nat)(h:ad)(g:K13)(h':ad):Prop:=∃l s1 s2 on s3 wh s4 s5 s6,PX s=(l,s1)/\PW s1=(g.1.1.2.1,s2)/\Ni s2=((g.1.1.2.2.1,on),s3)/\s3.bM ao=(wh,s4)/\RY s4=(g.1.2.2,s5)/\XQ s5=((g.2.1,g.2.2),s6)/\Sl 276 cm h' (.slice g.1.1.1.1 g.1.1.1.2.1 g.1.1.1.2.2) l/\Sl 325 dh h' (.slice g.1.1.2.2.2.1 g.1.1.2.2.2.2.1 g.1.1.2.2.2.2.2) on/\Sl 325 dh h' (.slice g.1.2.1.1 g.1.2.1.2.1 g.1.2.1.2.2) wh/\PT h' pb s6/\mL pb h h'/\s6.ws.length<=s.ws.length
theorem PV{h:ad}{pb:Nat}{s:PS}(hp:PT h pb s){k:Value->ad->Prop}
 (hk:∀h' st s' v,s.choose ao=(st,s')->PT h' pb s'->mL pb h h'->Qu h' v st->s'.ws.length<=s.ws.length->k v h'):
 Ct 127 [.pointer (some ⟨pb,0,none⟩)] h k:=by
 obtain⟨A,hA⟩:=Ar.ex;obtain⟨C1,RD⟩:∃C:Option Addr×Nat×Nat->ad->Prop,∀g h',C g h'=CI1 s pb h g h':=⟨_,fun _ _=>rfl⟩;obtain⟨C2,RC⟩:∃C:G13->ad->Prop,∀g h',C g h'=CI2 s pb h g h':=⟨_,fun _ _=>rfl⟩;obtain⟨C3,M8⟩:∃C:H13->ad->Prop,∀g h',C g h'=CI3 s pb h g h':=⟨_,fun _ _=>rfl⟩;obtain⟨C4,Is⟩:∃C:K13->ad->Prop,∀g h',C g h'=CI4 s pb h g h':=⟨_,fun _ _=>rfl⟩;refine yJ A [false,false,true,false,false,true,false,true,true] (ar T127.aA T127.bm) Tryz.func127 rfl (by kernel_rfl) ?_;cbv;refine CL.go (G:=Option Addr×Nat×Nat) (fun _=>[]) (fun g=>[(3,[.int .i64 6,.string ⟨#[]⟩,.slice none 0 0,.int .i64 0,.bool false,.string ⟨#[]⟩,.string ⟨#[]⟩,.slice none 0 0,.slice none 0 0,.slice none 0 0,.slice g.1 g.2.1 g.2.2,.slice none 0 0,.string ⟨#[]⟩,.string ⟨#[]⟩,.bool false,.int .i64 (-1),.string ⟨#[]⟩]),(2,[.int .i64 0,.string ⟨#[]⟩,.slice none 0 0,.int .i64 0,.bool false,.string ⟨#[]⟩,.string ⟨#[]⟩,.slice none 0 0,.slice none 0 0,.slice none 0 0,.slice none 0 0,.slice none 0 0,.string ⟨#[]⟩,.string ⟨#[]⟩,.bool false,.int .i64 0,.string ⟨#[]⟩])]) C1 ?_ ?_
 ·cbv;refine vK hp (ax [42]) (fun h1 t s1 e1 p1 l1 eK ik=>?_);have uh:A .not t= !t:=by rw[hA.not]
  cases t with
  |true=>
   have eK:=eK rfl;have hC:C1 (none,0,0) h1:=by rw[RD];exact⟨[],s1,by unfold PX;rw[e1],Sl.nil,p1,l1,by omega⟩
   clear RD RC M8 Is;cbv;rw[uh];cbv;refine⟨(_,_,_),⟨?_,?_,?_⟩,hC⟩
   ·cbv
   ·cbv
   ·cbv
  |false=>
   obtain⟨fh,eF⟩:=ik rfl;have hch:=ch1_f e1;subst fh eF;obtain⟨R,hR⟩:∃R,hG ao (s1.ws.length+1) [] s1=R:=⟨_,rfl⟩;rw[hR]at hch;obtain⟨I,bl⟩:∃I:Nat->Int×(Option Addr×Nat×Nat)->ad->Prop,∀m g h',I m g h'=∃kk la s5 fu,aS g.1 kk/\cX 276 cm (Sx.de h1 pb) h' (.slice g.2.1 g.2.2.1 g.2.2.2) la/\la.length<=6/\PT h' pb s5/\mL pb h1 h'/\s5.ws.length<=s1.ws.length/\s5.ws.length<=fu/\kk<=10+la.length/\
    ((kk=0/\la=[]/\s5=s1/\hG ao (fu+1) [] s5=R/\m=s5.ws.length+1)\/(kk≠0/\(match s5.more la.length with
      | (true,p)=>hG ao fu la p
      | (false,p)=>(la,p))=R/\m=s5.ws.length)):=⟨_,fun _ _ _=>rfl⟩
   have hJ:I (s1.ws.length+1) (0,(none,0,0)) h1:=by rw[bl];exact⟨0,[],s1,s1.ws.length,⟨rfl⟩,cX.nil,by decide,p1,mL.refl _ _,Nat.le_refl _,Nat.le_refl _,Nat.zero_le _,.inl ⟨rfl,rfl,rfl,hR,rfl⟩⟩
   clear hR RC M8 Is l1;have RD:∀g h',CI1 s1 pb h1 g h'->C1 g h':=fun g h' q=>by rw[RD];exact q
   cbv;rw[uh];cbv;refine aX.go (G:=Int×(Option Addr×Nat×Nat)) (fun g=>[(4,.v (.int .i64 g.1))]) (fun g=>[(3,[.int .i64 6,.string ⟨#[]⟩,.slice none 0 0,.int .i64 0,.bool false,.string ⟨#[]⟩,.string ⟨#[]⟩,.slice none 0 0,.slice none 0 0,.slice none 0 0,.slice g.2.1 g.2.2.1 g.2.2.2,.slice none 0 0,.string ⟨#[]⟩,.string ⟨#[]⟩,.bool false,.int .i64 (-1),.string ⟨#[]⟩]),(2,[.int .i64 0,.string ⟨#[]⟩,.slice none 0 0,.int .i64 0,.bool false,.string ⟨#[]⟩,.string ⟨#[]⟩,.slice none 0 0,.slice none 0 0,.slice none 0 0,.slice none 0 0,.slice none 0 0,.string ⟨#[]⟩,.string ⟨#[]⟩,.bool false,.int .i64 0,.string ⟨#[]⟩])]) (fun m g h'=>I m g h') (s1.ws.length+1) (0,(none,0,0)) ⟨?_,?_,?_⟩ hJ ?_
   ·cbv
   ·cbv
   ·cbv
   ·intro m g h9 hI;rw[bl]at hI;cbv;obtain⟨kk,la,s9,fu,hz,ba,Rh,p9,l9,w9,Vl,Ah,dF⟩:=hI;obtain⟨z,ab,an,ac⟩:=g;have hz:aS z kk:=hz;have ba:cX 276 cm (Sx.de h1 pb) h9 (.slice ab an ac) la:=ba;have M6:=ba.sl.len;have f1:A .aG .eql z 0=decide (kk=0):=by have:=hz.eq;rw[aw A,decide_eq_decide];omega
    have dD:=hz.succ (A:=A) (by omega);rw[f1];rcases dF with ⟨rfl,rfl,rfl,he,D4⟩ | ⟨M0,he,D4⟩
    ·obtain⟨la,Hk⟩:∃l:List dG,l=[]:=⟨_,rfl⟩;obtain⟨kk,KZ⟩:∃l:Nat,l=0:=⟨_,rfl⟩;have hdk:decide ((0:Nat)=0)=true:=rfl;rw[<-Hk]at ba he M6 Rh;rw[<-Hk]at Ah;have hl5:la.length<6:=by rw[Hk];show 0<6;decide
     rw[<-KZ]at dD;rw[hdk];cbv;refine QT p9 (fun VH eb en ec iv Gy Wm z20 S7 GS q20 w20=>?_);have wQ:=ba.mono (p9.lt GS (tys:=276::cm.tys) (by decide));cbv;intro JW Ec VO LC;have zT:Le VH Ec:=by rw[LC];exact Le.set VO
     have f21:=(congrFun LC JW).trans af;have IU:Sl 276 cm Ec (.slice (some ⟨JW,0,none⟩) 1 1) [iv]:=bU (s:=cm) f21 ⟨_,_,_,rfl,q20.mono (zT.t _)⟩;have DG:Le (Sx.de h1 pb) Ec:=(l9.trans GS).trans zT.QQ;cbv;refine(wQ.mono (zT.t _)).append IU (by decide) rfl (by decide) (by omega) DG (fun Tu WK WB Pr Wh DF t22 TJ wP=>?_);have JH:=S7.of ((zT.t _).trans (t22 _ (by decide)));have DF:mL pb h1 Pr:=DF;have bp:hG ao (fu+1) la s9=match Gy.more (la++[iv]).length with
      | (true,p)=>hG ao fu (la++[iv]) p
      | (false,p)=>(la++[iv],p):=by
      rw[hG];simp only[Wm];rfl
     have Vz:I Gy.ws.length (A .bA .add .i64 z 1,(WK,Tu,WB)) Pr:=by rw[bl];exact⟨kk+1,la++[iv],Gy,fu,dD,wP,by rw[List.length_append,List.length_singleton];omega,JH,DF,by omega,by omega,by rw[List.length_append,List.length_singleton];omega,.inr ⟨by omega,bp.symm.trans he,rfl⟩⟩
     have aK:Gy.ws.length<m:=by omega
     clear bl hJ he wQ wP IU f21 t22 TJ bp;cbv;refine⟨Gy.ws.length,(_,_,_,_),aK,⟨?_,?_,?_⟩,Vz⟩
     ·cbv
     ·cbv
     ·cbv
    ·rw[decide_eq_false M0];have Ff:aS (A .nat an) la.length:=by rw[<-M6];exact aS.nat an
     cbv;refine JZ p9 Ff (fun kx t vm lW qI mZ MC BA=>?_);rw[lW]at he;have ba:=ba.mono (p9.lt mZ (tys:=276::cm.tys) (by decide));have l9:=l9.trans mZ;cases t with
     |true=>
      obtain⟨BA,hl5⟩:=BA rfl;replace he:hG ao fu la vm=R:=he;obtain⟨fu,rfl⟩:∃B8,fu=B8+1:=⟨fu-1,by omega⟩;cbv;refine QT qI (fun VH eb en ec iv Gy Wm z20 S7 GS q20 w20=>?_);have wQ:=ba.mono (qI.lt GS (tys:=276::cm.tys) (by decide));cbv;intro JW Ec VO LC;have zT:Le VH Ec:=by rw[LC];exact Le.set VO
      have f21:=(congrFun LC JW).trans af;have IU:Sl 276 cm Ec (.slice (some ⟨JW,0,none⟩) 1 1) [iv]:=bU (s:=cm) f21 ⟨_,_,_,rfl,q20.mono (zT.t _)⟩;have DG:Le (Sx.de h1 pb) Ec:=(l9.trans GS).trans zT.QQ;cbv;refine(wQ.mono (zT.t _)).append IU (by decide) rfl (by decide) (by omega) DG (fun Tu WK WB Pr Wh DF t22 TJ wP=>?_);have JH:=S7.of ((zT.t _).trans (t22 _ (by decide)));have DF:mL pb h1 Pr:=DF;have bp:hG ao (fu+1) la vm=match Gy.more (la++[iv]).length with
       | (true,p)=>hG ao fu (la++[iv]) p
       | (false,p)=>(la++[iv],p):=by
       rw[hG];simp only[Wm];rfl
      have Vz:I Gy.ws.length (A .bA .add .i64 z 1,(WK,Tu,WB)) Pr:=by rw[bl];exact⟨kk+1,la++[iv],Gy,fu,dD,wP,by rw[List.length_append,List.length_singleton];omega,JH,DF,by omega,by omega,by rw[List.length_append,List.length_singleton];omega,.inr ⟨by omega,bp.symm.trans he,rfl⟩⟩
      have aK:Gy.ws.length<m:=by omega
      clear bl hJ he wQ wP IU f21 t22 TJ bp;cbv;refine⟨Gy.ws.length,(_,_,_,_),aK,⟨?_,?_,?_⟩,Vz⟩
      ·cbv
      ·cbv
      ·cbv
     |false=>
      replace he:(la,vm)=R:=he;subst he;have hC:=RD (ab,an,ac) kx ⟨la,vm,hch,ba.sl,qI,l9,by omega⟩;clear bl hJ RD;cbv;refine⟨(_,_,_),⟨?_,?_,?_⟩,hC⟩
      ·cbv
      ·cbv
      ·cbv
 ·intro g h1 hC;rw[RD]at hC;obtain⟨l,s1,q1,ql,p1,l1,w1⟩:=hC;obtain⟨ib,DN,ic⟩:=g;have ql:Sl 276 cm h1 (.slice ib DN ic) l:=ql;clear RD;cbv;intro n2 h2 g2 e2;refine iK p1 g2 [(ax [102,114,111,109])] e2 rfl (by decide) (fun h3 s3 e3 p3 l3 w3=>?_);cbv;refine pK p3 (fun h4 tb s4 e4 p4 l4 w4 z4=>?_);have q2:PW s1=(tb,s4):=by unfold PW;rw[e3,e4]
  have SU:=ql.mono (p1.lt (l3.trans l4) (tys:=276::cm.tys) (by decide));have nT:=(l1.trans l3).trans l4;have XX:s4.ws.length<=s.ws.length:=by omega
  clear ql;cbv;refine CL.go (G:=G13) (fun _=>[]) (fun g=>[(3,[.int .i64 6,.string ⟨#[]⟩,.slice none 0 0,.int .i64 0,.bool false,.string g.2.1,.string g.2.2.1,.slice g.2.2.2.1 g.2.2.2.2.1 g.2.2.2.2.2,.slice none 0 0,.slice none 0 0,.slice g.1.1 g.1.2.1 g.1.2.2,.slice none 0 0,.string ⟨#[]⟩,.string ⟨#[]⟩,.bool false,.int .i64 (-1),.string ⟨#[]⟩]),(2,[.int .i64 0,.string ⟨#[]⟩,.slice none 0 0,.int .i64 0,.bool false,.string ⟨#[]⟩,.string ⟨#[]⟩,.slice none 0 0,.slice none 0 0,.slice none 0 0,.slice none 0 0,.slice none 0 0,.string ⟨#[]⟩,.string ⟨#[]⟩,.bool false,.int .i64 0,.string ⟨#[]⟩])]) C2 ?_ ?_
  ·cbv;refine vK p4 (ax [106,111,105,110]) (fun h5 t s5 e5 p5 l5 ri sm5=>?_);cases t with
   |false=>
    obtain⟨rfl,rfl⟩:=sm5 rfl;have hC:C2 ((ib,DN,ic),tb,⟨#[]⟩,none,0,0) h5:=by rw[RC];exact⟨l,s1,s5,[],s5,q1,q2,by unfold Ni;rw[e5];rfl,SU,Sl.nil,p5,nT,XX⟩
    clear RC M8 Is;cbv;refine⟨((_,_,_),_,_,_,_,_),⟨?_,?_,?_⟩,hC⟩
    ·cbv
    ·cbv
    ·cbv
   |true=>
    have ri:=ri rfl;have ql5:=SU.mono (p4.lt l5 (tys:=276::cm.tys) (by decide));cbv;refine pK p5 (fun h6 jn s6 e6 p6 l6 w6 z6=>?_);have ql6:=ql5.mono (p5.lt l6 (tys:=276::cm.tys) (by decide));cbv;intro n7 h7 g7 e7;refine iK p6 g7 [(ax [111,110])] e7 rfl (by decide) (fun h8 s8 e8 p8 l8 w8=>?_);have ql8:=ql6.mono (p6.lt l8 (tys:=276::cm.tys) (by decide));cbv;refine wz p8 (fun h9 ob on oc ov s9 e9 z9 p9 l9 qo w9=>?_);have ql9:=ql8.mono (p8.lt l9 (tys:=276::cm.tys) (by decide));have hC:C2 ((ib,DN,ic),tb,jn,ob,on,oc) h9:=by rw[RC];exact⟨l,s1,s4,ov,s9,q1,q2,by unfold Ni;rw[e5];simp only[e6,e8,e9],ql9,qo,p9,(((nT.trans l5).trans l6).trans l8).trans l9,by omega⟩
    clear RC M8 Is;cbv;refine⟨((_,_,_),_,_,_,_,_),⟨?_,?_,?_⟩,hC⟩
    ·cbv
    ·cbv
    ·cbv
  ·intro g h5 hC;clear SU p4 nT XX q1 q2 e2 e3 e4 p3 l3 l4 w3 w4 z4 p1 l1 w1;rw[RC]at hC;obtain⟨l,s1,s2,on,s3,q1,q2,q3,ql,qo,p3,l3,w3⟩:=hC;obtain⟨⟨ib,DN,ic⟩,tb,jn,ob,JM,oc⟩:=g;have ql:Sl 276 cm h5 (.slice ib DN ic) l:=ql;have qo:Sl 325 dh h5 (.slice ob JM oc) on:=qo;have q2:PW s1=(tb,s2):=q2;have q3:Ni s2=((jn,on),s3):=q3;clear RC;cbv;refine CW p3 (fun h6 wb wn wc wh s4 e4 z4 p4 l4 qw w4=>?_);have SU:=ql.mono (p3.lt l4 (tys:=276::cm.tys) (by decide));have Dp:=qo.mono (p3.lt l4 (tys:=325::dh.tys) (by decide));have nT:=l3.trans l4;have XX:s4.ws.length<=s.ws.length:=by omega
   clear ql qo;cbv;refine CL.go (G:=H13) (fun _=>[]) (fun g=>[(3,[.int .i64 6,.string ⟨#[]⟩,.slice none 0 0,.int .i64 0,.bool false,.string g.1.2.1,.string g.1.2.2.1,.slice g.1.2.2.2.1 g.1.2.2.2.2.1 g.1.2.2.2.2.2,.slice none 0 0,.slice none 0 0,.slice g.1.1.1 g.1.1.2.1 g.1.1.2.2,.slice g.2.1.1 g.2.1.2.1 g.2.1.2.2,.string g.2.2,.string ⟨#[]⟩,.bool false,.int .i64 (-1),.string ⟨#[]⟩]),(2,[.int .i64 0,.string ⟨#[]⟩,.slice none 0 0,.int .i64 0,.bool false,.string ⟨#[]⟩,.string ⟨#[]⟩,.slice none 0 0,.slice none 0 0,.slice none 0 0,.slice none 0 0,.slice none 0 0,.string ⟨#[]⟩,.string ⟨#[]⟩,.bool false,.int .i64 0,.string ⟨#[]⟩])]) C3 ?_ ?_
   ·cbv;refine vK p4 (ax [103,114,111,117,112]) (fun h7 t s5 e5 p5 l5 ri sm5=>?_);cases t with
    |false=>
     obtain⟨rfl,rfl⟩:=sm5 rfl;have hC:C3 (((ib,DN,ic),tb,jn,ob,JM,oc),(wb,wn,wc),⟨#[]⟩) h7:=by rw[M8];exact⟨l,s1,s2,on,s3,wh,s5,s5,q1,q2,q3,e4,by unfold RY;rw[e5];rfl,SU,Dp,qw,p5,nT,XX⟩
     clear M8 Is;cbv;refine⟨(((_,_,_),_,_,_,_,_),(_,_,_),_),⟨?_,?_,?_⟩,hC⟩
     ·cbv
     ·cbv
     ·cbv
    |true=>
     have ri:=ri rfl;cbv;intro n8 h8 g8 e8;refine iK p5 g8 [(ax [98,121])] e8 rfl (by decide) (fun h9 s9 e9 p9 l9 w9=>?_);cbv;refine FI p9 (fun kx gr vm lW qI mZ MC z10=>?_);have lx:=(l5.trans l9).trans mZ;have hC:C3 (((ib,DN,ic),tb,jn,ob,JM,oc),(wb,wn,wc),gr) kx:=by rw[M8];exact⟨l,s1,s2,on,s3,wh,s4,vm,q1,q2,q3,e4,by unfold RY;rw[e5];simp only[e9,lW],SU.mono (p4.lt lx (tys:=276::cm.tys) (by decide)),Dp.mono (p4.lt lx (tys:=325::dh.tys) (by decide)),qw.mono (p4.lt lx (tys:=325::dh.tys) (by decide)),qI,nT.trans lx,by omega⟩
     clear M8 Is;cbv;refine⟨(((_,_,_),_,_,_,_,_),(_,_,_),_),⟨?_,?_,?_⟩,hC⟩
     ·cbv
     ·cbv
     ·cbv
   ·intro g h7 hC;clear SU Dp qw p4 nT XX q1 q2 q3 e4 l4 w4 z4 p3 l3 w3;rw[M8]at hC;obtain⟨l,s1,s2,on,s3,wh,s4,s5,q1,q2,q3,q4,q5,ql,qo,qw,p5,l5,w5⟩:=hC;obtain⟨⟨⟨ib,DN,ic⟩,tb,jn,ob,JM,oc⟩,⟨wb,wn,wc⟩,gr⟩:=g;have ql:Sl 276 cm h7 (.slice ib DN ic) l:=ql;have qo:Sl 325 dh h7 (.slice ob JM oc) on:=qo;have qw:Sl 325 dh h7 (.slice wb wn wc) wh:=qw;have q2:PW s1=(tb,s2):=q2;have q3:Ni s2=((jn,on),s3):=q3;have q5:RY s4=(gr,s5):=q5;clear M8;cbv;refine CL.go (G:=K13) (fun _=>[]) (fun g=>[(3,[.int .i64 6,.string ⟨#[]⟩,.slice none 0 0,.int .i64 0,.bool false,.string g.1.1.2.1,.string g.1.1.2.2.1,.slice g.1.1.2.2.2.1 g.1.1.2.2.2.2.1 g.1.1.2.2.2.2.2,.slice none 0 0,.slice none 0 0,.slice g.1.1.1.1 g.1.1.1.2.1 g.1.1.1.2.2,.slice g.1.2.1.1 g.1.2.1.2.1 g.1.2.1.2.2,.string g.1.2.2,.string g.2.1,.bool g.2.2,.int .i64 (-1),.string ⟨#[]⟩]),(2,[.int .i64 0,.string ⟨#[]⟩,.slice none 0 0,.int .i64 0,.bool false,.string ⟨#[]⟩,.string ⟨#[]⟩,.slice none 0 0,.slice none 0 0,.slice none 0 0,.slice none 0 0,.slice none 0 0,.string ⟨#[]⟩,.string ⟨#[]⟩,.bool false,.int .i64 0,.string ⟨#[]⟩])]) C4 ?_ ?_
    ·cbv;refine vK p5 (ax [111,114,100,101,114]) (fun h8 t s6 e6 p6 l6 DD sm6=>?_);cases t with
     |false=>
      obtain⟨rfl,rfl⟩:=sm6 rfl;have hC:C4 ((((ib,DN,ic),tb,jn,ob,JM,oc),(wb,wn,wc),gr),⟨#[]⟩,false) h8:=by rw[Is];exact⟨l,s1,s2,on,s3,wh,s4,s6,s6,q1,q2,q3,q4,q5,by unfold XQ;rw[e6];rfl,ql,qo,qw,p6,l5,w5⟩
      clear Is;cbv;refine⟨((((_,_,_),_,_,_,_,_),(_,_,_),_),_,_),⟨?_,?_,?_⟩,hC⟩
      ·cbv
      ·cbv
      ·cbv
     |true=>
      have DD:=DD rfl;cbv;intro n9 h9 g9 e9;refine iK p6 g9 [(ax [98,121])] e9 rfl (by decide) (fun kx vm lW qI mZ MC=>?_);cbv;refine FI qI (fun B3 od Gz uv Yr uI w11 z11=>?_);cbv;refine vK Yr (ax [100,101,115,99]) (fun uu ds H7 xH p12 gh lt12 sm12=>?_);have lx:=((l6.trans mZ).trans uI).trans gh;have w12:H7.ws.length<=Gz.ws.length:=by
       cases ds with
       |true=>exact Nat.le_of_lt (lt12 rfl)
       |false=>rw[(sm12 rfl).1];exact Nat.le_refl _
      have hC:C4 ((((ib,DN,ic),tb,jn,ob,JM,oc),(wb,wn,wc),gr),od,ds) uu:=by rw[Is];exact⟨l,s1,s2,on,s3,wh,s4,s5,H7,q1,q2,q3,q4,q5,by unfold XQ;rw[e6];simp only[lW,uv,xH],ql.mono (p5.lt lx (tys:=276::cm.tys) (by decide)),qo.mono (p5.lt lx (tys:=325::dh.tys) (by decide)),qw.mono (p5.lt lx (tys:=325::dh.tys) (by decide)),p12,l5.trans lx,by omega⟩
      clear Is;cbv;refine⟨((((_,_,_),_,_,_,_,_),(_,_,_),_),_,_),⟨?_,?_,?_⟩,hC⟩
      ·cbv
      ·cbv
      ·cbv
    ·intro g h8 hC;clear ql qo qw p5 l5 w5 q1 q2 q3 q4 q5;rw[Is]at hC;obtain⟨l,s1,s2,on,s3,wh,s4,s5,s6,q1,q2,q3,q4,q5,q6,ql,qo,qw,p6,l6,w6⟩:=hC;obtain⟨⟨⟨⟨ib,DN,ic⟩,tb,jn,ob,JM,oc⟩,⟨wb,wn,wc⟩,gr⟩,od,ds⟩:=g;have ql:Sl 276 cm h8 (.slice ib DN ic) l:=ql;have qo:Sl 325 dh h8 (.slice ob JM oc) on:=qo;have qw:Sl 325 dh h8 (.slice wb wn wc) wh:=qw;have q2:PW s1=(tb,s2):=q2;have q3:Ni s2=((jn,on),s3):=q3;have q5:RY s4=(gr,s5):=q5;have q6:XQ s5=((od,ds),s6):=q6;clear Is;have ae:∀h' lm s7,XP s6=(lm,s7)->PT h' pb s7->mL pb h8 h'->s7.ws.length<=s6.ws.length->k (stV 6 ⟨#[]⟩ none 0 0 0 false tb jn ob JM oc none 0 0 none 0 0 ib DN ic wb wn wc gr od ds lm ⟨#[]⟩) h':=fun h' lm s7 e p l w=>
      hk h' _ s7 _ (HO q1 q2 q3 q4 q5 q6 e) p (l6.trans l) ⟨none,0,0,ob,JM,oc,none,0,0,none,0,0,ib,DN,ic,wb,wn,wc,rfl,Sl.nil,qo.mono (p6.lt l (tys:=325::dh.tys) (by decide)),Sl.nil,Sl.nil,ql.mono (p6.lt l (tys:=276::cm.tys) (by decide)),qw.mono (p6.lt l (tys:=325::dh.tys) (by decide))⟩ (by omega)
     clear hk ql qo qw;cbv;refine vK p6 (ax [108,105,109,105,116]) (fun h9 t s7 e7 p7 l7 Xe sm7=>?_);cases t with
     |false=>have ae:=ae h9 (-1) s7 (by unfold XP;rw[e7]) p7 l7 (by rw[(sm7 rfl).1];exact Nat.le_refl _);cbv;exact ae
     |true=>
      have Xe:=Xe rfl;refine p7.out.elim (fun wb2 wn2 wc2 Ep en2 ec2 at_ i all w r g qw2 hz hw nH hr hi OR qe=>?_);have cU:wb2.isSome=true/\0<=at_/\at_<(wn2:Int):=⟨qw2.bu (by omega),hz.ix hi⟩;have fA:=hz.eq;have dD:=hz.succ (A:=A) (by omega);obtain⟨wk,wN,wS⟩:=w;have f1:A .aG .neq wk 2=decide (wk≠2):=aB A ..;have h7:XP s6=if wk=2 then(wN,({ s7 with ws:=r }:PS))else(-1,s7.fail 6):=by unfold XP;rw[e7];simp only[nH]
      clear qe;cbv;rw[ai A];refine av g rfl rfl ?_;cbv;rw[ai A];refine av g rfl rfl ?_;cbv;refine⟨cU,?_⟩;cbv;refine qw2.load hw fA (fun cs aC=>?_);have aC:cs=[.int .i64 wk,.int .i64 wN,.string wS]:=aC;subst aC;cbv;rw[f1];by_cases nh:wk=2
      ·rw[if_pos nh]at h7;rw[decide_eq_false (by simpa using nh)];cbv;rw[ai A];refine av g rfl rfl ?_;cbv;rw[ai A];refine jz g (by simp) (fun kx lW=>?_);have qI:=p7.out.step nH (by show wk≠0;omega) g hz dD lW;have ae:=ae kx wN _ h7 qI.pt (l7.trans (show mL pb h9 kx from qI.le)) (by have:=congrArg List.length nH;rw[List.length_cons]at this;show r.length<=_;omega);cbv;exact ae
      ·rw[if_neg nh]at h7;rw[decide_eq_true nh];cbv;refine FB p7 6 (fun kx qI mZ=>?_);have ae:=ae kx (-1) _ h7 qI (l7.trans mZ) (by rw[PS.rQ];omega);cbv;exact ae
theorem E4{a b:By}(h:ax a=ax b):a=b:=by have h1:=congrArg (fun s:ByteArray=>s.data.toList) h;simpa[ax]using h1
theorem X0(c:UInt8)(n:Nat)(hn:n<256):decide (ax [c]=ax [UInt8.ofNat n])=decide (c.toNat=n):=by
 rw[decide_eq_decide];constructor
 ·intro h;have h1:=E4 h;simp only[List.cons.injEq,and_true]at h1;rw[h1,UInt8.toNat_ofNat'];omega
 ·intro h;have:c=UInt8.ofNat n:=by apply UInt8.toNat_inj.1;rw[h,UInt8.toNat_ofNat'];omega
  rw[this]
theorem C7(c d:UInt8)(n m:Nat)(hn:n<256)(hm:m<256):decide (ax [c,d]=ax [UInt8.ofNat n,UInt8.ofNat m])=(decide (c.toNat=n)&&decide (d.toNat=m)):=by
 have e:∀(x:UInt8) (k:Nat),k<256->(x=UInt8.ofNat k↔x.toNat=k):=fun x k hk=>by
  constructor
  ·intro h;rw[h,UInt8.toNat_ofNat'];omega
  ·intro h;apply UInt8.toNat_inj.1;rw[h,UInt8.toNat_ofNat'];omega
 rw[<-Bool.decide_and,decide_eq_decide];constructor
 ·intro h;have h1:=E4 h;simp only[List.cons.injEq,and_true]at h1;exact⟨(e c n hn).1 h1.1,(e d m hm).1 h1.2⟩
 ·rintro⟨h1,h2⟩;rw[(e c n hn).2 h1,(e d m hm).2 h2]
theorem NS{s:ByteArray}(hs:s.size<=600){i:Nat}{c:UInt8}{r:By}(q:pO s i (c::r)){z:Int}(hz:aS z i){h:ad}{k:Value->ad->Prop}
 (hk:k (.string (ax ((c::r).take (gR (c::r))))) h):
 Ct 215 [.string s,.int .i64 z] h k:=by
 obtain⟨A,hA⟩:=Ar.ex;have rE:aS (A .iq s) s.size:=⟨by rw[hA.iq]⟩;have hl:=q.len;rw[List.length_cons]at hl;obtain⟨z1,mJ⟩:∃z1,A .bA .add .i64 z 1=z1:=⟨_,rfl⟩;have ma:aS z1 (i+1):=by rw[<-mJ];exact hz.succ (A:=A) (by omega)
 have f1:A .aG .lss z1 (A .iq s)=decide (i+1<s.size):=ma.gy rE;have KK:A .sub s z z1=ax [c]:=q.sub hz (n:=1) ma;have rI:0<=z1/\z1<=(s.size:Int)/\0<=z/\z<=z1:=by have h1:=ma.eq;have h2:=hz.eq;omega
 have xB:∀n,n<256->decide (ax [c]=ax [UInt8.ofNat n])=decide (c.toNat=n):=fun n hn=>X0 c n hn;have g40:A .iY .eql (ax [c]) ⟨#[40]⟩=decide (c.toNat=40):=by rw[bR A];exact xB 40 (by decide)
 have g41:A .iY .eql (ax [c]) ⟨#[41]⟩=decide (c.toNat=41):=by rw[bR A];exact xB 41 (by decide)
 have g44:A .iY .eql (ax [c]) ⟨#[44]⟩=decide (c.toNat=44):=by rw[bR A];exact xB 44 (by decide)
 have g46:A .iY .eql (ax [c]) ⟨#[46]⟩=decide (c.toNat=46):=by rw[bR A];exact xB 46 (by decide)
 have g42:A .iY .eql (ax [c]) ⟨#[42]⟩=decide (c.toNat=42):=by rw[bR A];exact xB 42 (by decide)
 have g61:A .iY .eql (ax [c]) ⟨#[61]⟩=decide (c.toNat=61):=by rw[bR A];exact xB 61 (by decide)
 have g60:A .iY .eql (ax [c]) ⟨#[60]⟩=decide (c.toNat=60):=by rw[bR A];exact xB 60 (by decide)
 have g62:A .iY .eql (ax [c]) ⟨#[62]⟩=decide (c.toNat=62):=by rw[bR A];exact xB 62 (by decide)
 have g43:A .iY .eql (ax [c]) ⟨#[43]⟩=decide (c.toNat=43):=by rw[bR A];exact xB 43 (by decide)
 have g45:A .iY .eql (ax [c]) ⟨#[45]⟩=decide (c.toNat=45):=by rw[bR A];exact xB 45 (by decide)
 obtain⟨sb,Aa⟩:∃sb,ax [c]=sb:=⟨_,rfl⟩;rw[Aa]at KK g40 g41 g44 g46 g42 g61 g60 g62 g43 g45;have Q3:(iH.contains c.toNat=true->k (.string sb) h)->(iH.contains c.toNat=false->k (.string ⟨#[]⟩) h)->∀(j:Unit),True:=fun _ _ _=>trivial;refine ah A (ar T215.aA T215.bm) Tryz.func215 rfl (by kernel_rfl) ?_;cbv;rw[mJ,f1];cases r with
 |nil=>
  have aK:¬i+1<s.size:=by have:([]:By).length=0:=rfl;omega
  have eU:iH.contains c.toNat=true->k (.string sb) h:=fun e=>by
   have:gR [c]=1:=by show(if iH.contains c.toNat then 1 else 0)=1;rw[e];rfl
   rw[this]at hk;rw[<-Aa];exact hk
  have gB:iH.contains c.toNat=false->k (.string ⟨#[]⟩) h:=fun e=>by
   have:gR [c]=0:=by show(if iH.contains c.toNat then 1 else 0)=0;rw[e];rfl
   rw[this]at hk;exact hk
  clear hk Q3;rw[decide_eq_false aK];cbv;rw[mJ];refine⟨rI,?_⟩;cbv;rw[KK];cbv;rw[g40];by_cases B2:c.toNat=40
  ·have hf:=eU (by rw[B2];decide);rw[decide_eq_true B2];cbv;exact hf
  ·rw[decide_eq_false B2];cbv;rw[g41];by_cases Pq:c.toNat=41
   ·have hf:=eU (by rw[Pq];decide);rw[decide_eq_true Pq];cbv;exact hf
   ·rw[decide_eq_false Pq];cbv;rw[g44];by_cases Pm:c.toNat=44
    ·have hf:=eU (by rw[Pm];decide);rw[decide_eq_true Pm];cbv;exact hf
    ·rw[decide_eq_false Pm];cbv;rw[g46];by_cases Pj:c.toNat=46
     ·have hf:=eU (by rw[Pj];decide);rw[decide_eq_true Pj];cbv;exact hf
     ·rw[decide_eq_false Pj];cbv;rw[g42];by_cases Pp:c.toNat=42
      ·have hf:=eU (by rw[Pp];decide);rw[decide_eq_true Pp];cbv;exact hf
      ·rw[decide_eq_false Pp];cbv;rw[g61];by_cases Ph:c.toNat=61
       ·have hf:=eU (by rw[Ph];decide);rw[decide_eq_true Ph];cbv;exact hf
       ·rw[decide_eq_false Ph];cbv;rw[g60];by_cases qA:c.toNat=60
        ·have hf:=eU (by rw[qA];decide);rw[decide_eq_true qA];cbv;exact hf
        ·rw[decide_eq_false qA];cbv;rw[g62];by_cases Hu:c.toNat=62
         ·have hf:=eU (by rw[Hu];decide);rw[decide_eq_true Hu];cbv;exact hf
         ·rw[decide_eq_false Hu];cbv;rw[g43];by_cases Po:c.toNat=43
          ·have hf:=eU (by rw[Po];decide);rw[decide_eq_true Po];cbv;exact hf
          ·rw[decide_eq_false Po];cbv;rw[g45];by_cases Pk:c.toNat=45
           ·have hf:=eU (by rw[Pk];decide);rw[decide_eq_true Pk];cbv;exact hf
           ·rw[decide_eq_false Pk];cbv;have hf:=gB (by unfold iH;simp only[List.contains_cons,List.contains_nil,Bool.or_false,Bool.or_eq_false_iff,beq_eq_false_iff_ne,ne_eq];exact⟨B2,Pq,Pm,Pj,Pp,Ph,qA,Hu,Po,Pk⟩);exact hf
 |cons d r'=>
  have aK:i+1<s.size:=by have:(d::r').length=r'.length+1:=rfl;omega
  obtain⟨z2,fN⟩:∃z2,A .bA .add .i64 z 2=z2:=⟨_,rfl⟩;have nN:aS z2 (i+2):=⟨by rw[<-fN,lL A _ _ (by have:=hz.eq;omega),hz.eq];omega⟩;have Q5:A .sub s z z2=ax [c,d]:=q.sub hz (n:=2) nN;have kW:0<=z2/\z2<=(s.size:Int)/\0<=z/\z<=z2:=by have h1:=nN.eq;have h2:=hz.eq;have h3:(d::r').length=r'.length+1:=rfl;omega
  have t1:A .iY .eql (ax [c,d]) ⟨#[60,62]⟩=(decide (c.toNat=60)&&decide (d.toNat=62)):=by rw[bR A];exact C7 c d 60 62 (by decide) (by decide)
  have t2:A .iY .eql (ax [c,d]) ⟨#[60,61]⟩=(decide (c.toNat=60)&&decide (d.toNat=61)):=by rw[bR A];exact C7 c d 60 61 (by decide) (by decide)
  have t3:A .iY .eql (ax [c,d]) ⟨#[62,61]⟩=(decide (c.toNat=62)&&decide (d.toNat=61)):=by rw[bR A];exact C7 c d 62 61 (by decide) (by decide)
  have h2:xj c d=((decide (c.toNat=60)&&decide (d.toNat=62))||(decide (c.toNat=60)&&decide (d.toNat=61))||(decide (c.toNat=62)&&decide (d.toNat=61))):=rfl;have nU:gR (c::d::r')=if xj c d then 2 else if iH.contains c.toNat then 1 else 0:=rfl
  obtain⟨s2,Ij⟩:∃sb,ax [c,d]=sb:=⟨_,rfl⟩;have UF:xj c d=true->k (.string s2) h:=fun e=>by
   rw[nU,e]at hk;rw[<-Ij];exact hk
  have Y6:xj c d=false->iH.contains c.toNat=true->k (.string sb) h:=fun e2 e=>by
   rw[nU,e2,e]at hk;rw[<-Aa];exact hk
  have hno0:xj c d=false->iH.contains c.toNat=false->k (.string ⟨#[]⟩) h:=fun e2 e=>by
   rw[nU,e2,e]at hk;exact hk
  rw[Ij]at Q5 t1 t2 t3;obtain⟨u1,hu1⟩:∃u,(decide (c.toNat=60)&&decide (d.toNat=62))=u:=⟨_,rfl⟩;obtain⟨u2,Ih⟩:∃u,(decide (c.toNat=60)&&decide (d.toNat=61))=u:=⟨_,rfl⟩;obtain⟨u3,UE⟩:∃u,(decide (c.toNat=62)&&decide (d.toNat=61))=u:=⟨_,rfl⟩;rw[hu1]at t1 h2;rw[Ih]at t2 h2;rw[UE]at t3 h2;clear hk Q3 nU;rw[decide_eq_true aK];cbv;rw[fN];refine⟨kW,?_⟩;cbv;rw[Q5];cbv;rw[t1];cases u1 with
  |true=>have hf:=UF (by rw[h2];rfl);cbv;exact hf
  |false=>
   cbv;rw[t2];cases u2 with
   |true=>have hf:=UF (by rw[h2];rfl);cbv;exact hf
   |false=>
    cbv;rw[t3];cases u3 with
    |true=>have hf:=UF (by rw[h2];rfl);cbv;exact hf
    |false=>
     have eU:=Y6 (by rw[h2];rfl);have gB:=hno0 (by rw[h2];rfl);cbv;rw[mJ];refine⟨rI,?_⟩;cbv;rw[KK];cbv;rw[g40];by_cases B2:c.toNat=40
     ·have hf:=eU (by rw[B2];decide);rw[decide_eq_true B2];cbv;exact hf
     ·rw[decide_eq_false B2];cbv;rw[g41];by_cases Pq:c.toNat=41
      ·have hf:=eU (by rw[Pq];decide);rw[decide_eq_true Pq];cbv;exact hf
      ·rw[decide_eq_false Pq];cbv;rw[g44];by_cases Pm:c.toNat=44
       ·have hf:=eU (by rw[Pm];decide);rw[decide_eq_true Pm];cbv;exact hf
       ·rw[decide_eq_false Pm];cbv;rw[g46];by_cases Pj:c.toNat=46
        ·have hf:=eU (by rw[Pj];decide);rw[decide_eq_true Pj];cbv;exact hf
        ·rw[decide_eq_false Pj];cbv;rw[g42];by_cases Pp:c.toNat=42
         ·have hf:=eU (by rw[Pp];decide);rw[decide_eq_true Pp];cbv;exact hf
         ·rw[decide_eq_false Pp];cbv;rw[g61];by_cases Ph:c.toNat=61
          ·have hf:=eU (by rw[Ph];decide);rw[decide_eq_true Ph];cbv;exact hf
          ·rw[decide_eq_false Ph];cbv;rw[g60];by_cases qA:c.toNat=60
           ·have hf:=eU (by rw[qA];decide);rw[decide_eq_true qA];cbv;exact hf
           ·rw[decide_eq_false qA];cbv;rw[g62];by_cases Hu:c.toNat=62
            ·have hf:=eU (by rw[Hu];decide);rw[decide_eq_true Hu];cbv;exact hf
            ·rw[decide_eq_false Hu];cbv;rw[g43];by_cases Po:c.toNat=43
             ·have hf:=eU (by rw[Po];decide);rw[decide_eq_true Po];cbv;exact hf
             ·rw[decide_eq_false Po];cbv;rw[g45];by_cases Pk:c.toNat=45
              ·have hf:=eU (by rw[Pk];decide);rw[decide_eq_true Pk];cbv;exact hf
              ·rw[decide_eq_false Pk];cbv;have hf:=gB (by unfold iH;simp only[List.contains_cons,List.contains_nil,Bool.or_false,Bool.or_eq_false_iff,beq_eq_false_iff_ne,ne_eq];exact⟨B2,Pq,Pm,Pj,Pp,Ph,qA,Hu,Po,Pk⟩);exact hf
theorem Bo:∀(t:By) (n v:Int) (rest:By),jW t n=((v,rest),0)->rest.length<=t.length
 | [],n,v,rest,h=>by cases h;exact Nat.le_refl _
 |c::r,n,v,rest,h=>by
  have h1:(match cT c with
   |true=>if n>(9223372036854775807-((c.toNat:Int)-48)) / 10 then((0,[]),11)else jW r (10*n+((c.toNat:Int)-48))
   |false=>((n,c::r),0))=((v,rest),(0:Int)):=h
  cases hd:cT c with
  |false=>rw[hd]at h1;cases h1;exact Nat.le_refl _
  |true=>
   rw[hd]at h1;replace h1:(if n>(9223372036854775807-((c.toNat:Int)-48)) / 10 then((0,[]),11)else jW r (10*n+((c.toNat:Int)-48)))=((v,rest),(0:Int)):=h1;split at h1
   ·cases h1
   ·have:=Bo r _ _ _ h1;rw[List.length_cons];omega
theorem GL{c:UInt8}{r:By}{n v:Int}{rest:By}(hd:cT c=true)(h:jW (c::r) n=((v,rest),0)):rest.length<=r.length:=by
 have h1:(match cT c with
  |true=>if n>(9223372036854775807-((c.toNat:Int)-48)) / 10 then((0,[]),11)else jW r (10*n+((c.toNat:Int)-48))
  |false=>((n,c::r),0))=((v,rest),(0:Int)):=h
 rw[hd]at h1;replace h1:(if n>(9223372036854775807-((c.toNat:Int)-48)) / 10 then((0,[]),11)else jW r (10*n+((c.toNat:Int)-48)))=((v,rest),(0:Int)):=h1;split at h1
 ·cases h1
 ·exact Bo r _ _ _ h1
theorem sF:∀(m:Nat) (t acc v rest:By),t.length<=m->eC t acc=((v,rest),0)->rest.length<=t.length
 |_,[],acc,v,rest,_,h=>by cases h
 |0,c::r,acc,v,rest,hm,h=>by rw[List.length_cons]at hm;omega
 |m+1,c::r,acc,v,rest,hm,h=>by
  rw[List.length_cons]at hm |-;rw[uU]at h;cases hc:decide (c.toNat=39)with
  |false=>rw[hc]at h;have:=sF m r _ v rest (by omega) h;omega
  |true=>
   rw[hc]at h;cases r with
   |nil=>
    replace h:(if acc.length>60 then((([]:By),([]:By)),(5:Int))else((acc,[]),0))=((v,rest),0):=h;split at h
    ·cases h
    ·cases h;exact Nat.zero_le _
   |cons d r'=>
    replace h:(match decide (d.toNat=39)with
     |true=>eC r' (acc++[39])
     |false=>if acc.length>60 then((([]:By),([]:By)),(5:Int))else((acc,d::r'),0))=((v,rest),0):=h
    rw[List.length_cons]at hm |-;cases hd:decide (d.toNat=39)with
    |true=>rw[hd]at h;have:=sF m r' _ v rest (by omega) h;omega
    |false=>
     rw[hd]at h;replace h:(if acc.length>60 then((([]:By),([]:By)),(5:Int))else((acc,d::r'),0))=((v,rest),0):=h;split at h
     ·cases h
     ·cases h;rw[List.length_cons];omega
theorem Bv{c:UInt8}{r:By}(h:isLet c=true):1<=cG (c::r):=by
 show 1<=(match oG c with|true=>cG r+1|false=>0);have:oG c=true:=by unfold oG;rw[h];rfl
 rw[this];exact Nat.succ_le_succ (Nat.zero_le _)
theorem Dj(c:UInt8)(r:By):gR (c::r)<=(c::r).length:=by
 cases r with
 |nil=>show(if iH.contains c.toNat then 1 else 0)<=1;split<;>omega
 |cons d r'=>
  show(if xj c d then 2 else if iH.contains c.toNat then 1 else 0)<=r'.length+1+1;split
  ·omega
  ·split<;>omega
theorem Of{s:ByteArray}(hs:s.size<=600){i:Nat}{c:UInt8}{r:By}(q:pO s i (c::r)){z:Int}(hz:aS z i){h:ad}{k:Value->ad->Prop}
 (hk:∀w z' e rest,ke c r=((w,rest),e)->(e=0->∃j,aS z' j/\pO s j rest/\rest.length<=r.length)->k (.tuple #[.agg #[.int .i64 w.k,.int .i64 w.n,.string w.s],.int .i64 z',.int .i64 e]) h):
 Ct 119 [.string s,.int .i64 z] h k:=by
 obtain⟨A,hA⟩:=Ar.ex;have hl:=q.len;rw[List.length_cons]at hl;have cU:0<=z/\z<(s.size:Int):=hz.ix (by omega);obtain⟨b,hb⟩:∃b,A .byte s z=b:=⟨_,rfl⟩;have pj:b=(c.toNat:Int):=by rw[<-hb];exact q.byte hz
 have f39:A .aG .eql b 39=decide (c.toNat=39):=by rw[aw A,decide_eq_decide,pj];omega
 have dD:=hz.succ (A:=A) (by omega);have rC:ke c r=match isLet c with
  |true=>((⟨1,0,ax ((c::r).take (cG (c::r)))⟩,(c::r).drop (cG (c::r))),0)
  |false=>match cT c with
   |true=>match jW (c::r) 0 with
    | (p,e)=>((⟨2,p.1,ax []⟩,p.2),e)
   |false=>match decide (c.toNat=39)with
    |true=>match eC r []with
     | (p,e)=>((⟨3,0,ax p.1⟩,p.2),e)
    |false=>match gR (c::r)with
     |0=>((⟨0,0,ax []⟩,[]),6)
     |n+1=>((uQ ((c::r).take (n+1)),(c::r).drop (n+1)),0):=rfl
 have hlp:isLet c=true->1<=cG (c::r):=Bv;have hdg:∀v rest,cT c=true->jW (c::r) 0=((v,rest),0)->rest.length<=r.length:=fun v rest hd h=>GL hd h;have q1:=q.next;refine ah A (ar T119.aA T119.bm) Tryz.func119 rfl (by kernel_rfl) ?_;cbv;refine⟨cU,?_⟩;cbv;rw[hb];refine E8 pj ?_;generalize isLet c=u1 at *;cases u1 with
 |true=>
  have hlp:=hlp rfl;have hle:=vE (c::r);cbv;refine Oh hs q hz (fun z2 fN=>?_);have dp:A .sub s z z2=ax ((c::r).take (cG (c::r))):=q.sub hz fN;obtain⟨sb,Aa⟩:∃sb,ax ((c::r).take (cG (c::r)))=sb:=⟨_,rfl⟩;rw[List.length_cons]at hle;have D8:0<=z2/\z2<=(s.size:Int)/\0<=z/\z<=z2:=by have h1:=fN.eq;have h2:=hz.eq;omega
  have ae:=hk ⟨1,0,ax ((c::r).take (cG (c::r)))⟩ z2 0 _ rC (fun _=>⟨_,fN,q.RS (by rw[List.length_cons];omega),by rw[List.length_drop,List.length_cons];omega⟩);rw[Aa]at dp ae;cbv;refine⟨D8,?_⟩;cbv;rw[dp];exact ae
 |false=>
  replace rC:ke c r=match cT c with
   |true=>match jW (c::r) 0 with
    | (p,e)=>((⟨2,p.1,ax []⟩,p.2),e)
   |false=>match decide (c.toNat=39)with
    |true=>match eC r []with
     | (p,e)=>((⟨3,0,ax p.1⟩,p.2),e)
    |false=>match gR (c::r)with
     |0=>((⟨0,0,ax []⟩,[]),6)
     |n+1=>((uQ ((c::r).take (n+1)),(c::r).drop (n+1)),0):=rC
  cbv;refine Es pj ?_;generalize cT c=u2 at *;cases u2 with
  |true=>
   replace rC:ke c r=match jW (c::r) 0 with
    | (p,e)=>((⟨2,p.1,ax []⟩,p.2),e):=rC
   cbv;refine Te hs q hz (fun v z2 e rest he fN=>?_);rw[he]at rC;have ae:=hk ⟨2,v,ax []⟩ z2 e rest rC (fun h0=>by
    obtain⟨j,h1,h2⟩:=fN h0;subst h0;exact⟨j,h1,h2,hdg v rest rfl he⟩)
   cbv;exact ae
  |false=>
   replace rC:ke c r=match decide (c.toNat=39)with
    |true=>match eC r []with
     | (p,e)=>((⟨3,0,ax p.1⟩,p.2),e)
    |false=>match gR (c::r)with
     |0=>((⟨0,0,ax []⟩,[]),6)
     |n+1=>((uQ ((c::r).take (n+1)),(c::r).drop (n+1)),0):=rC
   cbv;rw[f39];clear f39;generalize decide (c.toNat=39)=u3 at *;cases u3 with
   |true=>
    replace rC:ke c r=match eC r []with
     | (p,e)=>((⟨3,0,ax p.1⟩,p.2),e):=rC
    cbv;refine NJ hs q1 dD (fun v z2 e rest he fN=>?_);rw[he]at rC;have ae:=hk ⟨3,0,ax v⟩ z2 e rest rC (fun h0=>by
     obtain⟨j,h1,h2⟩:=fN h0;subst h0;exact⟨j,h1,h2,sF _ r [] v rest (Nat.le_refl _) he⟩)
    obtain⟨vb,hvb⟩:∃vb,ax v=vb:=⟨_,rfl⟩;rw[hvb]at ae |-;cbv;exact ae
   |false=>
    replace rC:ke c r=match gR (c::r)with
     |0=>((⟨0,0,ax []⟩,[]),6)
     |n+1=>((uQ ((c::r).take (n+1)),(c::r).drop (n+1)),0):=rC
    have nU:=Dj c r;cbv;refine NS hs q hz ?_;generalize gR (c::r)=sl at *;cases sl with
    |zero=>
     have f0:A .iY .eql ⟨#[]⟩ ⟨#[]⟩=true:=by rw[bR A];exact decide_eq_true rfl
     have ae:=hk ⟨0,0,ax []⟩ 0 6 [] rC (fun h=>absurd h (by decide));cbv;rw[f0];cbv;exact ae
    |succ n=>
     replace rC:ke c r=((uQ ((c::r).take (n+1)),(c::r).drop (n+1)),0):=rC;rw[List.length_cons]at nU;have hlen:(ax ((c::r).take (n+1))).size=n+1:=by rw[dn,List.length_take,List.length_cons];omega
     obtain⟨sb,Aa⟩:∃sb,ax ((c::r).take (n+1))=sb:=⟨_,rfl⟩;rw[Aa]at hlen |-;have f0:A .iY .eql sb ⟨#[]⟩=false:=by rw[bR A];refine decide_eq_false (fun e=>?_);rw[e]at hlen;have:(⟨#[]⟩:ByteArray).size=0:=rfl;omega
     have Ii:aS (A .iq sb) (n+1):=⟨by rw[hA.iq];show(sb.size:Int)=_;rw[hlen]⟩;obtain⟨z2,fN⟩:∃z2,A .bA .add .i64 z (A .iq sb)=z2:=⟨_,rfl⟩;have nN:aS z2 (i+(n+1)):=by rw[<-fN];exact hz.add Ii (by omega)
     have ae:=hk (uQ ((c::r).take (n+1))) z2 0 _ rC (fun _=>⟨_,nN,q.RS (by rw[List.length_cons];omega),by rw[List.length_drop,List.length_cons];omega⟩);have ae:k (.tuple #[.agg #[.int .i64 4,.int .i64 0,.string (ax ((c::r).take (n+1)))],.int .i64 z2,.int .i64 0]) h:=ae;rw[Aa]at ae;cbv;rw[f0];cbv;rw[fN];exact ae
theorem GO{k:Nat}{c:UInt8}{r:By}{l:List Wd}:qz (k+1) (c::r) l=match sS c with
 |true=>qz k r l
 |false=>match ke c r with
  | (p,e)=>if e=0 then qz k p.2 (l++[p.1])else([],e):=rfl
theorem II{s:ByteArray}{h:ad}{k:Value->ad->Prop}
 (hk:∀h' b n c ws e,iE s=(ws,e)->Le h h'->(e=0->AD ws/\Sl 139 sI h' (.slice b n c) ws/\ws.length<=601)->k (.tuple #[.slice b n c,.int .i64 e]) h'):
 Ct 54 [.string s] h k:=by
 obtain⟨A,hA⟩:=Ar.ex;have Ii:A .iq s=(s.size:Int):=by rw[hA.iq]
 have rE:aS (A .iq s) s.size:=⟨Ii⟩;have f1:A .aG .gtr (A .iq s) 600=decide (s.size>600):=by rw[bJ A,Ii,decide_eq_decide];omega
 have hw:iE s=if s.size>600 then([],5)else qz (s.size+1) s.data.toList []:=rfl
 refine ah A (ar T54.aA T54.bm) Tryz.func54 rfl (by kernel_rfl) ?_;cbv;rw[f1];by_cases h6:s.size>600
 ·rw[if_pos h6]at hw;have ae:=hk h none 0 0 [] 5 hw (Le.refl _) (fun e=>absurd e (by decide));rw[decide_eq_true h6];cbv;exact ae
 ·rw[if_neg h6]at hw;have hs:s.size<=600:=by omega
  obtain⟨R,hR⟩:∃R,qz (s.size+1) s.data.toList []=R:=⟨_,rfl⟩;rw[hR]at hw;obtain⟨I,bl⟩:∃I:Nat->Int×(Option Addr×Nat×Nat)->ad->Prop,∀m g h',I m g h'=∃j t l,aS g.1 j/\pO s j t/\cX 139 sI h h' (.slice g.2.1 g.2.2.1 g.2.2.2) l/\l.length<=j/\Le h h'/\m=t.length/\(∃fu,t.length<fu/\qz fu t l=R):=⟨_,fun _ _ _=>rfl⟩;have hq0:=pO.start s;have vQ:=hq0.len;have hJ:I s.size (0,none,0,0) h:=by rw[bl];exact⟨0,_,[],⟨rfl⟩,hq0,cX.nil,Nat.le_refl _,Le.refl _,by omega,_,by omega,hR⟩
  clear hR hq0 vQ;rw[decide_eq_false h6];cbv;refine aX.go (G:=Int×(Option Addr×Nat×Nat)) (fun g=>[(5,.v (.int .i64 g.1)),(4,.v (.slice g.2.1 g.2.2.1 g.2.2.2))]) (fun _=>[]) (fun m g h'=>I m g h') s.size (0,none,0,0) ⟨?_,?_,?_⟩ hJ ?_
  ·cbv
  ·cbv
  ·cbv
  ·intro m g h1 hI;rw[bl]at hI;cbv;obtain⟨j,t,l,hg,q,ba,MX,l1,hm,fu,Vl,he⟩:=hI;obtain⟨z,ab,an,ac⟩:=g;have hg:aS z j:=hg;have ba:cX 139 sI h h1 (.slice ab an ac) l:=ba;have M6:=ba.sl.len;have hl:=q.len;have f2:A .aG .lss z (A .iq s)=decide (j<s.size):=hg.gy rE;obtain⟨fu,rfl⟩:∃B8,fu=B8+1:=⟨fu-1,by omega⟩;rw[f2];cases t with
   |nil=>
    have aK:¬j<s.size:=by have:([]:By).length=0:=rfl;omega
    have he:(l++[Sa],0)=R:=he;rw[<-he]at hw;rw[decide_eq_false aK];clear bl hJ he;cbv;intro n2 h2 g2 e2;have l2:Le h1 h2:=by rw[e2];exact Le.set g2
    have v2:Sl 139 sI h2 (.slice (some ⟨n2,0,none⟩) 1 1) [Sa]:=bU (s:=sI) ((congrFun e2 n2).trans af) rfl;cbv;refine(ba.mono (l2.t _)).append v2 (by decide) rfl (by decide) (by omega) (l1.trans l2) (fun m3 b3 c3 h3 XK l3 t3 k3 nP=>?_);have ae:=hk h3 b3 m3 c3 _ 0 hw l3 (fun _=>⟨⟨l,rfl⟩,nP.sl,by rw[List.length_append,List.length_singleton];omega⟩);cbv;exact ae
   |cons c r=>
    have qJ:(c::r).length=r.length+1:=rfl;have aK:j<s.size:=by omega
    have cU:0<=z/\z<(s.size:Int):=hg.ix aK;obtain⟨b,hb⟩:∃b,A .byte s z=b:=⟨_,rfl⟩;have pj:b=(c.toNat:Int):=by rw[<-hb];exact q.byte hg
    have g32:A .aG .eql b 32=decide (c.toNat=32):=by rw[aw A,decide_eq_decide,pj];omega
    have g9:A .aG .eql b 9=decide (c.toNat=9):=by rw[aw A,decide_eq_decide,pj];omega
    have wo:A .aG .eql b 10=decide (c.toNat=10):=by rw[aw A,decide_eq_decide,pj];omega
    have xh:sS c=(decide (c.toNat=32)||decide (c.toNat=9)||decide (c.toNat=10)):=rfl;have dD:=hg.succ (A:=A) (by omega);have hq:=q.next;rw[GO]at he;have gQ:r.length<m:=by omega
    have vR:sS c=true->I r.length (A .bA .add .i64 z 1,ab,an,ac) h1:=fun e=>by
     rw[bl];rw[e]at he;exact⟨j+1,r,l,dD,hq,ba,by omega,l1,rfl,fu,by omega,he⟩
    rw[decide_eq_true aK];cbv;refine⟨cU,?_⟩;cbv;rw[hb,g32];clear g32;generalize decide (c.toNat=32)=u1 at *;cases u1 with
    |true=>
     have vR:=vR (by rw[xh];rfl);clear bl hJ hk he;cbv;refine⟨r.length,(_,_,_,_),gQ,⟨?_,?_,?_⟩,vR⟩
     ·cbv
     ·cbv
     ·cbv
    |false=>
     cbv;refine⟨cU,?_⟩;cbv;rw[hb,g9];clear g9;generalize decide (c.toNat=9)=u2 at *;cases u2 with
     |true=>
      have vR:=vR (by rw[xh];rfl);clear bl hJ hk he;cbv;refine⟨r.length,(_,_,_,_),gQ,⟨?_,?_,?_⟩,vR⟩
      ·cbv
      ·cbv
      ·cbv
     |false=>
      cbv;refine⟨cU,?_⟩;cbv;rw[hb,wo];clear wo;generalize decide (c.toNat=10)=u3 at *;cases u3 with
      |true=>
       have vR:=vR (by rw[xh];rfl);clear bl hJ hk he;cbv;refine⟨r.length,(_,_,_,_),gQ,⟨?_,?_,?_⟩,vR⟩
       ·cbv
       ·cbv
       ·cbv
      |false=>
       have Z2:sS c=false:=by rw[xh];rfl
       rw[Z2]at he;replace he:(match ke c r with
        | (p,e)=>if e=0 then qz fu p.2 (l++[p.1])else([],e))=R:=he
       clear vR xh Z2;cbv;refine Of hs q hg (fun w z2 e rest bW fN=>?_);rw[bW]at he;replace he:(if e=0 then qz fu rest (l++[w])else([],e))=R:=he;have f5:A .aG .neq e 0=decide (e≠0):=aB A ..;cbv;rw[f5];by_cases h0:e=0
       ·rw[if_pos h0]at he;obtain⟨j2,nN,q2,Q8⟩:=fN h0;have hq2l:=q2.len;have Hj:rest.length<m:=by omega
        have di:∀b3 m3 c3 h3,cX 139 sI h h3 (.slice b3 m3 c3) (l++[w])->Le h h3->I rest.length (z2,b3,m3,c3) h3:=fun b3 m3 c3 h3 nP l3=>by
         rw[bl];exact⟨j2,rest,_,nN,q2,nP,by rw[List.length_append,List.length_singleton];omega,l3,rfl,fu,by omega,he⟩
        rw[decide_eq_false (by simpa using h0)];clear bl hJ hk he fN bW f5 f2 f1;cbv;intro n2 h2 g2 e2;have l2:Le h1 h2:=by rw[e2];exact Le.set g2
        have v2:Sl 139 sI h2 (.slice (some ⟨n2,0,none⟩) 1 1) [w]:=bU (s:=sI) ((congrFun e2 n2).trans af) rfl;cbv;refine(ba.mono (l2.t _)).append v2 (by decide) rfl (by decide) (by omega) (l1.trans l2) (fun m3 b3 c3 h3 XK l3 t3 k3 nP=>?_);have uL:=di b3 m3 c3 h3 nP l3;clear di t3 k3 nP;cbv;refine⟨rest.length,(_,_,_,_),Hj,⟨?_,?_,?_⟩,uL⟩
        ·cbv
        ·cbv
        ·cbv
       ·rw[if_neg h0]at he;rw[<-he]at hw;have ae:=hk h1 none 0 0 [] e hw l1 (fun h=>absurd h h0);rw[decide_eq_true h0];cbv;exact ae
theorem X8{h:ad}{pb:Nat}{s:PS}(hp:PT h pb s)(uo:(s.is (ax [99,114,101,97,116,101])).1=false){k:Value->ad->Prop}
 (hk:∀h' st s' v,s.stmt ao=((st,b0),s')->PT h' pb s'->mL pb h h'->Qu h' v st->s'.ws.length<=s.ws.length->st.kind≠1->k (.tuple #[v,.string ⟨#[]⟩]) h'):
 Ct 55 [.pointer (some ⟨pb,0,none⟩)] h k:=by
 obtain⟨A,hA⟩:=Ar.ex;obtain⟨D,hD⟩:∃D,s.stmt ao=D:=⟨_,rfl⟩;have hm:=hD;rw[hD]at hk;clear hD;unfold PS.stmt at hm;refine ah A (ar T55.aA T55.bm) Tryz.func55 rfl (by kernel_rfl) ?_;cbv;refine vK hp (ax [99,114,101,97,116,101]) (fun h1 t s1 e1 p1 l1 eK ik=>?_);rw[e1]at uo;replace uo:t=false:=uo;subst uo;obtain⟨fh,eF⟩:=ik rfl;replace fh:=fh.symm;replace eF:=eF.symm;subst fh eF;have lW:=e1;clear e1 eK ik p1 l1;cbv;refine vK hp (ax [100,114,111,112]) (fun h1 t s1 e1 p1 l1 eK ik=>?_);cases t with
 |true=>have eK:=eK rfl;have eo:s.da [((ax [99,114,101,97,116,101]),1),((ax [100,114,111,112]),2),((ax [105,110,115,101,114,116]),3),((ax [117,112,100,97,116,101]),4),((ax [100,101,108,101,116,101]),5),((ax [115,101,108,101,99,116]),6),((ax [98,101,103,105,110]),7),((ax [99,111,109,109,105,116]),8),((ax [115,97,118,101,112,111,105,110,116]),10),((ax [114,111,108,108,98,97,99,107]),9)]=(some 2,s1):=(aM lW).trans (eB e1);rw[eo]at hm;replace hm:((({ kind:=2,table:=((s1.cg [(ax [116,97,98,108,101])]).name ao).1 }:az),b0),((s1.cg [(ax [116,97,98,108,101])]).name ao).2)=D:=hm;cbv;intro n2 h2 g2 e2;refine iK p1 g2 [(ax [116,97,98,108,101])] e2 rfl (by decide) (fun h3 s3 e3 p3 l3 w3=>?_);rw[e3]at hm;cbv;refine pK p3 (fun h4 tb s4 e4 p4 l4 w4 z4=>?_);rw[e4]at hm;have ae:=fun v q=>hk h4 ({ kind:=2,table:=tb }:az) s4 v hm.symm p4 ((l1.trans l3).trans l4) q (by omega) (by simp);have ae:=ae _ ⟨none,0,0,none,0,0,none,0,0,none,0,0,none,0,0,none,0,0,rfl,Sl.nil,Sl.nil,Sl.nil,Sl.nil,Sl.nil,Sl.nil⟩;cbv;exact ae
 |false=>
  obtain⟨fh,eF⟩:=ik rfl;replace fh:=fh.symm;replace eF:=eF.symm;subst fh eF;have uv:=e1;clear e1 eK ik p1 l1;cbv;refine vK hp (ax [105,110,115,101,114,116]) (fun h1 t s1 e1 p1 l1 eK ik=>?_);cases t with
  |true=>
   have eK:=eK rfl;have eo:s.da [((ax [99,114,101,97,116,101]),1),((ax [100,114,111,112]),2),((ax [105,110,115,101,114,116]),3),((ax [117,112,100,97,116,101]),4),((ax [100,101,108,101,116,101]),5),((ax [115,101,108,101,99,116]),6),((ax [98,101,103,105,110]),7),((ax [99,111,109,109,105,116]),8),((ax [115,97,118,101,112,111,105,110,116]),10),((ax [114,111,108,108,98,97,99,107]),9)]=(some 3,s1):=(aM lW).trans ((aM uv).trans (eB e1));rw[eo]at hm;replace hm:(((s1.insert ao).1,b0),(s1.insert ao).2)=D:=hm;cbv;refine OC p1 (fun h2 st s2 v e2 p2 l2 q2 w2=>?_);rw[e2]at hm;have fx:(s1.insert ao).1.kind≠1:=by show(3:Int)≠1;decide
   rw[e2]at fx;have ae:=hk h2 st s2 v hm.symm p2 (l1.trans l2) q2 (by omega) fx;obtain⟨b1,n1,c1,b2,n2,c2,b3,n3,c3,b4,n4,c4,b5,n5,c5,b6,n6,c6,rfl,-⟩:=q2.out;cbv;exact ae
  |false=>
   obtain⟨fh,eF⟩:=ik rfl;replace fh:=fh.symm;replace eF:=eF.symm;subst fh eF;have xH:=e1;clear e1 eK ik p1 l1;cbv;refine vK hp (ax [117,112,100,97,116,101]) (fun h1 t s1 e1 p1 l1 eK ik=>?_);cases t with
   |true=>
    have eK:=eK rfl;have eo:s.da [((ax [99,114,101,97,116,101]),1),((ax [100,114,111,112]),2),((ax [105,110,115,101,114,116]),3),((ax [117,112,100,97,116,101]),4),((ax [100,101,108,101,116,101]),5),((ax [115,101,108,101,99,116]),6),((ax [98,101,103,105,110]),7),((ax [99,111,109,109,105,116]),8),((ax [115,97,118,101,112,111,105,110,116]),10),((ax [114,111,108,108,98,97,99,107]),9)]=(some 4,s1):=(aM lW).trans ((aM uv).trans ((aM xH).trans (eB e1)));rw[eo]at hm;replace hm:(((s1.update ao).1,b0),(s1.update ao).2)=D:=hm;cbv;refine ND p1 (fun h2 st s2 v e2 p2 l2 q2 w2=>?_);rw[e2]at hm;have fx:(s1.update ao).1.kind≠1:=by show(4:Int)≠1;decide
    rw[e2]at fx;have ae:=hk h2 st s2 v hm.symm p2 (l1.trans l2) q2 (by omega) fx;obtain⟨b1,n1,c1,b2,n2,c2,b3,n3,c3,b4,n4,c4,b5,n5,c5,b6,n6,c6,rfl,-⟩:=q2.out;cbv;exact ae
   |false=>
    obtain⟨fh,eF⟩:=ik rfl;replace fh:=fh.symm;replace eF:=eF.symm;subst fh eF;have Nh:=e1;clear e1 eK ik p1 l1;cbv;refine vK hp (ax [100,101,108,101,116,101]) (fun h1 t s1 e1 p1 l1 eK ik=>?_);cases t with
    |true=>have eK:=eK rfl;have eo:s.da [((ax [99,114,101,97,116,101]),1),((ax [100,114,111,112]),2),((ax [105,110,115,101,114,116]),3),((ax [117,112,100,97,116,101]),4),((ax [100,101,108,101,116,101]),5),((ax [115,101,108,101,99,116]),6),((ax [98,101,103,105,110]),7),((ax [99,111,109,109,105,116]),8),((ax [115,97,118,101,112,111,105,110,116]),10),((ax [114,111,108,108,98,97,99,107]),9)]=(some 5,s1):=(aM lW).trans ((aM uv).trans ((aM xH).trans ((aM Nh).trans (eB e1))));rw[eo]at hm;replace hm:((({ kind:=5,table:=((s1.cg [(ax [102,114,111,109])]).name ao).1,bM:=(((s1.cg [(ax [102,114,111,109])]).name ao).2.bM ao).1 }:az),b0),(((s1.cg [(ax [102,114,111,109])]).name ao).2.bM ao).2)=D:=hm;cbv;intro n2 h2 g2 e2;refine iK p1 g2 [(ax [102,114,111,109])] e2 rfl (by decide) (fun h3 s3 e3 p3 l3 w3=>?_);rw[e3]at hm;cbv;refine pK p3 (fun h4 tb s4 e4 p4 l4 w4 z4=>?_);rw[e4]at hm;cbv;refine CW p4 (fun h5 wb wn wc wh s5 e5 z5 p5 l5 q5 w5=>?_);replace hm:((({ kind:=5,table:=tb,bM:=(s4.bM ao).1 }:az),b0),(s4.bM ao).2)=D:=hm;rw[e5]at hm;have ae:=fun v q=>hk h5 ({ kind:=5,table:=tb,bM:=wh }:az) s5 v hm.symm p5 (((l1.trans l3).trans l4).trans l5) q (by omega) (by simp);have ae:=ae _ ⟨none,0,0,none,0,0,none,0,0,none,0,0,none,0,0,wb,wn,wc,rfl,Sl.nil,Sl.nil,Sl.nil,Sl.nil,Sl.nil,q5⟩;cbv;exact ae
    |false=>
     obtain⟨fh,eF⟩:=ik rfl;replace fh:=fh.symm;replace eF:=eF.symm;subst fh eF;have XO:=e1;clear e1 eK ik p1 l1;cbv;refine vK hp (ax [115,101,108,101,99,116]) (fun h1 t s1 e1 p1 l1 eK ik=>?_);cases t with
     |true=>
      have eK:=eK rfl;have eo:s.da [((ax [99,114,101,97,116,101]),1),((ax [100,114,111,112]),2),((ax [105,110,115,101,114,116]),3),((ax [117,112,100,97,116,101]),4),((ax [100,101,108,101,116,101]),5),((ax [115,101,108,101,99,116]),6),((ax [98,101,103,105,110]),7),((ax [99,111,109,109,105,116]),8),((ax [115,97,118,101,112,111,105,110,116]),10),((ax [114,111,108,108,98,97,99,107]),9)]=(some 6,s1):=(aM lW).trans ((aM uv).trans ((aM xH).trans ((aM Nh).trans ((aM XO).trans (eB e1)))));rw[eo]at hm;replace hm:(((s1.choose ao).1,b0),(s1.choose ao).2)=D:=hm;cbv;refine PV p1 (fun h2 st s2 v e2 p2 l2 q2 w2=>?_);rw[e2]at hm;have fx:(s1.choose ao).1.kind≠1:=by show(6:Int)≠1;decide
      rw[e2]at fx;have ae:=hk h2 st s2 v hm.symm p2 (l1.trans l2) q2 (by omega) fx;obtain⟨b1,n1,c1,b2,n2,c2,b3,n3,c3,b4,n4,c4,b5,n5,c5,b6,n6,c6,rfl,-⟩:=q2.out;cbv;exact ae
     |false=>
      obtain⟨fh,eF⟩:=ik rfl;replace fh:=fh.symm;replace eF:=eF.symm;subst fh eF;have e15:=e1;clear e1 eK ik p1 l1;cbv;refine vK hp (ax [98,101,103,105,110]) (fun h1 t s1 e1 p1 l1 eK ik=>?_);cases t with
      |true=>
       have eK:=eK rfl;have eo:s.da [((ax [99,114,101,97,116,101]),1),((ax [100,114,111,112]),2),((ax [105,110,115,101,114,116]),3),((ax [117,112,100,97,116,101]),4),((ax [100,101,108,101,116,101]),5),((ax [115,101,108,101,99,116]),6),((ax [98,101,103,105,110]),7),((ax [99,111,109,109,105,116]),8),((ax [115,97,118,101,112,111,105,110,116]),10),((ax [114,111,108,108,98,97,99,107]),9)]=(some 7,s1):=(aM lW).trans ((aM uv).trans ((aM xH).trans ((aM Nh).trans ((aM XO).trans ((aM e15).trans (eB e1))))));rw[eo]at hm;replace hm:(({ kind:=7 }:az),b0,s1)=(D.1.1,D.1.2,D.2):=by rw[<-hm];rfl
       replace hm:((({ kind:=7 }:az),b0),s1)=D:=by obtain⟨⟨d1,d2⟩,d3⟩:=D;cases hm;rfl
       have ae:=fun v q=>hk h1 ({ kind:=7 }:az) s1 v hm.symm p1 l1 q (by omega) (by simp);have ae:=ae _ ⟨none,0,0,none,0,0,none,0,0,none,0,0,none,0,0,none,0,0,rfl,Sl.nil,Sl.nil,Sl.nil,Sl.nil,Sl.nil,Sl.nil⟩;cbv;exact ae
      |false=>
       obtain⟨fh,eF⟩:=ik rfl;replace fh:=fh.symm;replace eF:=eF.symm;subst fh eF;have e16:=e1;clear e1 eK ik p1 l1;cbv;refine vK hp (ax [99,111,109,109,105,116]) (fun h1 t s1 e1 p1 l1 eK ik=>?_);cases t with
       |true=>
        have eK:=eK rfl;have eo:s.da [((ax [99,114,101,97,116,101]),1),((ax [100,114,111,112]),2),((ax [105,110,115,101,114,116]),3),((ax [117,112,100,97,116,101]),4),((ax [100,101,108,101,116,101]),5),((ax [115,101,108,101,99,116]),6),((ax [98,101,103,105,110]),7),((ax [99,111,109,109,105,116]),8),((ax [115,97,118,101,112,111,105,110,116]),10),((ax [114,111,108,108,98,97,99,107]),9)]=(some 8,s1):=(aM lW).trans ((aM uv).trans ((aM xH).trans ((aM Nh).trans ((aM XO).trans ((aM e15).trans ((aM e16).trans (eB e1)))))));rw[eo]at hm;replace hm:(({ kind:=8 }:az),b0,s1)=(D.1.1,D.1.2,D.2):=by rw[<-hm];rfl
        replace hm:((({ kind:=8 }:az),b0),s1)=D:=by obtain⟨⟨d1,d2⟩,d3⟩:=D;cases hm;rfl
        have ae:=fun v q=>hk h1 ({ kind:=8 }:az) s1 v hm.symm p1 l1 q (by omega) (by simp);have ae:=ae _ ⟨none,0,0,none,0,0,none,0,0,none,0,0,none,0,0,none,0,0,rfl,Sl.nil,Sl.nil,Sl.nil,Sl.nil,Sl.nil,Sl.nil⟩;cbv;exact ae
       |false=>
        obtain⟨fh,eF⟩:=ik rfl;replace fh:=fh.symm;replace eF:=eF.symm;subst fh eF;have e17:=e1;clear e1 eK ik p1 l1;cbv;refine vK hp (ax [115,97,118,101,112,111,105,110,116]) (fun h1 t s1 e1 p1 l1 eK ik=>?_);cases t with
        |true=>have eK:=eK rfl;have eo:s.da [((ax [99,114,101,97,116,101]),1),((ax [100,114,111,112]),2),((ax [105,110,115,101,114,116]),3),((ax [117,112,100,97,116,101]),4),((ax [100,101,108,101,116,101]),5),((ax [115,101,108,101,99,116]),6),((ax [98,101,103,105,110]),7),((ax [99,111,109,109,105,116]),8),((ax [115,97,118,101,112,111,105,110,116]),10),((ax [114,111,108,108,98,97,99,107]),9)]=(some 10,s1):=(aM lW).trans ((aM uv).trans ((aM xH).trans ((aM Nh).trans ((aM XO).trans ((aM e15).trans ((aM e16).trans ((aM e17).trans (eB e1))))))));rw[eo]at hm;replace hm:((({ kind:=10,name:=(s1.name ao).1 }:az),b0),(s1.name ao).2)=D:=hm;cbv;refine pK p1 (fun h2 nm s2 e2 p2 l2 w2 z2=>?_);rw[e2]at hm;have ae:=fun v q=>hk h2 ({ kind:=10,name:=nm }:az) s2 v hm.symm p2 (l1.trans l2) q (by omega) (by simp);have ae:=ae _ ⟨none,0,0,none,0,0,none,0,0,none,0,0,none,0,0,none,0,0,rfl,Sl.nil,Sl.nil,Sl.nil,Sl.nil,Sl.nil,Sl.nil⟩;cbv;exact ae
        |false=>
         obtain⟨fh,eF⟩:=ik rfl;replace fh:=fh.symm;replace eF:=eF.symm;subst fh eF;have RQ:=e1;clear e1 eK ik p1 l1;cbv;refine vK hp (ax [114,111,108,108,98,97,99,107]) (fun h1 t s1 e1 p1 l1 eK ik=>?_);cases t with
         |true=>
          have eK:=eK rfl;have eo:s.da [((ax [99,114,101,97,116,101]),1),((ax [100,114,111,112]),2),((ax [105,110,115,101,114,116]),3),((ax [117,112,100,97,116,101]),4),((ax [100,101,108,101,116,101]),5),((ax [115,101,108,101,99,116]),6),((ax [98,101,103,105,110]),7),((ax [99,111,109,109,105,116]),8),((ax [115,97,118,101,112,111,105,110,116]),10),((ax [114,111,108,108,98,97,99,107]),9)]=(some 9,s1):=(aM lW).trans ((aM uv).trans ((aM xH).trans ((aM Nh).trans ((aM XO).trans ((aM e15).trans ((aM e16).trans ((aM e17).trans ((aM RQ).trans (eB e1)))))))));rw[eo]at hm;replace hm:(match s1.is (ax [116,111])with
           | (true,p)=>((({ kind:=11,name:=(p.name ao).1 }:az),b0),(p.name ao).2)
           | (false,p)=>((({ kind:=9 }:az),b0),p))=D:=hm
          have p1':=p1;cbv;refine vK p1' (ax [116,111]) (fun h2 t s2 e2 p2 l2 gy QA=>?_);rw[e2]at hm;cases t with
          |true=>have gy:=gy rfl;replace hm:((({ kind:=11,name:=(s2.name ao).1 }:az),b0),(s2.name ao).2)=D:=hm;cbv;refine pK p2 (fun h3 nm s3 e3 p3 l3 w3 z3=>?_);rw[e3]at hm;have ae:=fun v q=>hk h3 ({ kind:=11,name:=nm }:az) s3 v hm.symm p3 ((l1.trans l2).trans l3) q (by omega) (by simp);have ae:=ae _ ⟨none,0,0,none,0,0,none,0,0,none,0,0,none,0,0,none,0,0,rfl,Sl.nil,Sl.nil,Sl.nil,Sl.nil,Sl.nil,Sl.nil⟩;cbv;exact ae
          |false=>replace hm:((({ kind:=9 }:az),b0),s2)=D:=hm;have ae:=fun v q=>hk h2 ({ kind:=9 }:az) s2 v hm.symm p2 (l1.trans l2) q (by rw[(QA rfl).1];omega) (by simp);have ae:=ae _ ⟨none,0,0,none,0,0,none,0,0,none,0,0,none,0,0,none,0,0,rfl,Sl.nil,Sl.nil,Sl.nil,Sl.nil,Sl.nil,Sl.nil⟩;cbv;exact ae
         |false=>obtain⟨fh,eF⟩:=ik rfl;replace fh:=fh.symm;replace eF:=eF.symm;subst fh eF;have XN:=e1;clear e1 eK ik p1 l1;cbv;have eo:s.da [((ax [99,114,101,97,116,101]),1),((ax [100,114,111,112]),2),((ax [105,110,115,101,114,116]),3),((ax [117,112,100,97,116,101]),4),((ax [100,101,108,101,116,101]),5),((ax [115,101,108,101,99,116]),6),((ax [98,101,103,105,110]),7),((ax [99,111,109,109,105,116]),8),((ax [115,97,118,101,112,111,105,110,116]),10),((ax [114,111,108,108,98,97,99,107]),9)]=(none,s):=(aM lW).trans ((aM uv).trans ((aM xH).trans ((aM Nh).trans ((aM XO).trans ((aM e15).trans ((aM e16).trans ((aM e17).trans ((aM RQ).trans (aM XN)))))))));rw[eo]at hm;replace hm:((({}:az),b0),s.fail 6)=D:=hm;refine FB hp 6 (fun h1 p1 l1=>?_);have ae:=fun v q=>hk h1 ({}:az) (s.fail 6) v hm.symm p1 l1 q (by rw[PS.rQ];exact Nat.le_refl _) (by simp);have ae:=ae _ ⟨none,0,0,none,0,0,none,0,0,none,0,0,none,0,0,none,0,0,rfl,Sl.nil,Sl.nil,Sl.nil,Sl.nil,Sl.nil,Sl.nil⟩;cbv;exact ae
def ek(t:ByteArray):Bool:=match (iE t).1 with
 |w::_=> !(decide (w.s=ax [99,114,101,97,116,101]))
 | []=>true
theorem Bt{t:ByteArray}(h:ek t=true){ws:List Wd}{e:Int}(hw:iE t=(ws,e)):((⟨ws,0,[]⟩:PS).is (ax [99,114,101,97,116,101])).1=false:=by
 unfold ek at h;rw[hw]at h;cases ws with
 |nil=>rfl
 |cons w r=>
  have h:(!(decide (w.s=ax [99,114,101,97,116,101])))=true:=h;have h2:w.s≠ax [99,114,101,97,116,101]:=by simpa using h
  show(if(0:Int)=0/\(w.k=1\/w.k=4)/\w.s=_ then _ else _:Bool×PS).1=false;rw[if_neg (fun h=>h2 h.2.2)]
theorem Jc{t:ByteArray}{ws r:List Wd}{st:az}{w:Wd}{err:Int}{ex:List Nd}(hw:iE t=(ws,0))(e3:PS.stmt ao ⟨ws,0,[]⟩=((st,b0),⟨w::r,err,ex⟩))(fx:st.kind≠1):
 dk ao t=if err=0 then(if w.k≠0 then({},6)else(st,0))else({},err):=by
 unfold dk;simp only[hw,e3];by_cases he:err=0
 ·subst he;by_cases hk:w.k=0
  ·simp[hk,fx]
  ·simp[hk,fx,PS.fail]
 ·simp[he,fx]
theorem EA{t:ByteArray}{h:ad}(uo:ek t=true){D:az×Int}(hD:dk ao t=D){k:Value->ad->Prop}
 (hk:∀h' v,Le h h'->Qu h' v D.1->k (.tuple #[v,.int .i64 D.2]) h'):
 Ct 30 [.string t] h k:=by
 obtain⟨A,hA⟩:=Ar.ex;have hz:∀h' e,Le h h'->D=({},e)->k (.tuple #[.agg #[.int .i64 0,.string ⟨#[]⟩,.slice none 0 0,.int .i64 0,.bool false,.string ⟨#[]⟩,.string ⟨#[]⟩,.slice none 0 0,.slice none 0 0,.slice none 0 0,.slice none 0 0,.slice none 0 0,.string ⟨#[]⟩,.string ⟨#[]⟩,.bool false,.int .i64 0,.string ⟨#[]⟩],.int .i64 e]) h':=fun h' e l he=>by
  subst he;exact hk h' _ l ⟨none,0,0,none,0,0,none,0,0,none,0,0,none,0,0,none,0,0,rfl,Sl.nil,Sl.nil,Sl.nil,Sl.nil,Sl.nil,Sl.nil⟩
 refine ah A (ar T30.aA T30.bm) Tryz.func30 rfl (by kernel_rfl) ?_;cbv;refine II (fun h1 b n c ws e hw l1 jC=>?_);have Ik:=Bt uo hw;have f1:A .aG .neq e 0=decide (e≠0):=aB A ..;cbv;rw[f1];by_cases h0:e=0
 ·subst h0;obtain⟨nH,qw,QX⟩:=jC rfl;have ZV:decide ((0:Int)≠0)=false:=rfl;rw[ZV];cbv;intro pb h2 g2 e2;have l2:Le h1 h2:=by rw[e2];exact Le.set g2
  have p2:PT h2 pb ⟨ws,0,[]⟩:=by
   refine⟨⟨b,n,c,none,0,0,0,0,ws,?_,qw.mono (fun b' c' e' fr hm hb=>?_),⟨rfl⟩,rfl,nH,by omega,(fun hh=>by cases hh),Sx.fJ h2 pb,Sx.dX h2 pb⟩⟩
   ·rw[e2];exact af
   ·have bW:b'≠pb:=fun e=>by rw[e,g2]at hb;cases hb
    rw[Sx.eQ bW];exact l2 b' _ hb
  cbv;refine X8 p2 Ik (fun h3 st s3 v e3 p3 l3 q3 w3 fx=>?_);have xw:Le h h3:=fun j o hj=>by
   have K4:=l1 j o hj;have bW:j≠pb:=fun e=>by rw[e,g2]at K4;cases K4
   exact l3 j o (by rw[Sx.eQ bW];exact l2 j o K4)
  obtain⟨ws3,Em,ex3⟩:=s3;obtain⟨b1,n1,c1,b2,n2,c2,b3,n3,c3,b4,n4,c4,b5,n5,c5,b6,n6,c6,rfl,q31⟩:=q3.out;refine p3.out.elim (fun wb wn wc eb en ec at_ i all w r g qw3 Fg UA Uy hr hi OR qe=>?_);have g:h3 pb=some (.cells #[.slice wb wn wc,.int .i64 at_,.int .i64 Em,.slice eb en ec] 136 (0,0)):=g;have Uy:ws3=w::r:=Uy;subst Uy;rw[Jc hw e3 fx]at hD;have cU:wb.isSome=true/\0<=at_/\at_<(wn:Int):=⟨qw3.bu (by omega),Fg.ix hi⟩;have fA:=Fg.eq;obtain⟨wk,wN,wS⟩:=w;have f2:A .aG .eql Em 0=decide (Em=0):=aw A ..;have f3:A .aG .neq wk 0=decide (wk≠0):=aB A ..;have f4:A .aG .eql st.kind 1=false:=by rw[aw A];exact decide_eq_false fx
  have f5:A .aG .neq Em 0=decide (Em≠0):=aB A ..;have f6:A .aG .eql 6 0=false:=by rw[aw A];rfl
  have f7:A .aG .neq 6 0=true:=by rw[aB A];rfl
  have iU:∀h' x,Le h h'->x≠0->(({}:az),x)=D->k (.tuple #[.agg #[.int .i64 0,.string ⟨#[]⟩,.slice none 0 0,.int .i64 0,.bool false,.string ⟨#[]⟩,.string ⟨#[]⟩,.slice none 0 0,.slice none 0 0,.slice none 0 0,.slice none 0 0,.slice none 0 0,.string ⟨#[]⟩,.string ⟨#[]⟩,.bool false,.int .i64 0,.string ⟨#[]⟩],.int .i64 x]) h':=fun h' x l _ e=>hz h' x l e.symm;have tQ:(st,(0:Int))=D->k (.tuple #[stV st.kind st.mS.name b1 n1 c1 st.mS.key st.mS.only st.table st.join b2 n2 c2 b3 n3 c3 b4 n4 c4 b5 n5 c5 b6 n6 c6 st.group st.order st.desc st.fw st.name,.int .i64 0]) h3:=fun e=>by
   subst e;exact hk h3 _ xw q3
  clear hz qe q31;generalize st.kind=sk at *;generalize st.mS.name=ssn at *;generalize st.mS.key=ssk at *;generalize st.mS.only=sso at *;generalize st.table=jz at *;generalize st.join=sjn at *;generalize st.group=sgr at *;generalize st.order=sod at *;generalize st.desc=sds at *;generalize st.fw=slm at *;generalize st.name=snm at *;cbv;rw[ai A];refine av g rfl rfl ?_;cbv;rw[f2];by_cases he:Em=0
  ·subst he;have Vn:decide ((0:Int)=0)=true:=rfl;have f2:A .aG .eql 0 0=true:=by rw[aw A];rfl
   have f5:A .aG .neq 0 0=false:=by rw[aB A];rfl
   rw[Vn];cbv;rw[ai A];refine av g rfl rfl ?_;cbv;rw[ai A];refine av g rfl rfl ?_;cbv;refine⟨cU,?_⟩;cbv;refine qw3.eE UA fA (o:=0) (m:=1) (by decide) (fun cs aC=>?_);have aC:cs=[.int .i64 wk,.int .i64 wN,.string wS]:=aC;subst aC;cbv;rw[f3];by_cases sV:wk=0
   ·have hD:(if(0:Int)=0 then(if wk≠0 then(({}:az),(6:Int))else(st,0))else({},0))=D:=hD;rw[if_pos rfl,if_neg (by simpa using sV)]at hD;have ae:=tQ hD;clear tQ iU;rw[decide_eq_false (by simpa using sV)];cbv;rw[ai A];refine av g rfl rfl ?_;cbv;rw[f2];cbv;rw[f4];cbv;rw[ai A];refine av g rfl rfl ?_;cbv;rw[f5];cbv;exact ae
   ·have hD:(if(0:Int)=0 then(if wk≠0 then(({}:az),(6:Int))else(st,0))else({},0))=D:=hD;rw[if_pos rfl,if_pos sV]at hD;rw[decide_eq_true sV];cbv;refine FB p3 6 (fun h4 p4 l4=>?_);have nT:Le h h4:=fun j o hj=>by
     have K4:=l1 j o hj;have bW:j≠pb:=fun e=>by rw[e,g2]at K4;cases K4
     exact l4 j o (by rw[Sx.eQ bW];exact xw j o hj)
    have ae:=iU h4 6 nT (by decide) hD;clear tQ iU;refine p4.out.elim (fun wb4 wn4 wc4 eb4 en4 ec4 at4 i4 all4 w4 r4 g4 _ _ _ _ _ _ _ _=>?_);have g4:h4 pb=some (.cells #[.slice wb4 wn4 wc4,.int .i64 at4,.int .i64 6,.slice eb4 en4 ec4] 136 (0,0)):=g4;cbv;rw[ai A];refine av g4 rfl rfl ?_;cbv;rw[f6];cbv;rw[ai A];refine av g4 rfl rfl ?_;cbv;rw[f7];cbv;rw[ai A];refine av g4 rfl rfl ?_;cbv;refine av g4 rfl rfl ?_;cbv;refine⟨⟨_,rfl,rfl⟩,?_⟩;cbv;exact ae
  ·rw[if_neg he]at hD;have ae:=iU h3 Em xw he hD;have f4':=f4;clear tQ iU;rw[decide_eq_false he];cbv;rw[ai A];refine av g rfl rfl ?_;cbv;rw[f2,decide_eq_false he];cbv;rw[ai A];refine av g rfl rfl ?_;cbv;rw[f5,decide_eq_true he];cbv;rw[ai A];refine av g rfl rfl ?_;cbv;refine av g rfl rfl ?_;cbv;refine⟨⟨_,rfl,rfl⟩,?_⟩;cbv;exact ae
 ·have ae:=hz h1 e l1 (by
   rw[<-hD];unfold dk;simp only[hw];rw[if_pos h0])
  rw[decide_eq_true h0];cbv;exact ae
end Go.S
