import Derived.Test.YtekoaiendgjkdaaGreatVA
import Derived.Test.YtekoaiendgjkdaaGreatSxC
set_option linter.unusedVariables false
set_option linter.unusedSimpArgs false
set_option linter.unusedSectionVars false
set_option maxRecDepth 100000
set_option maxHeartbeats 8000000
namespace Go.S
open Go.Sx Go.Proofs
structure PT(h:ad)(pb:Nat)(s:PS):Prop where
 out:fV false (Sx.cQ h pb) h pb s
def lF(pb:Nat)(h h':ad):Prop:=Le (Sx.cQ h pb) h'
theorem lF.refl(pb:Nat)(h:ad):lF pb h h:=Sx.fh h pb
theorem lF.trans{pb:Nat}{a b c:ad}(x:lF pb a b)(y:lF pb b c):lF pb a c:=fun j o hj=>by
 have bU:j≠pb:=fun e=>by rw[e,Sx.dP]at hj;cases hj
 exact y j o (by rw[Sx.eF bU];exact x j o hj)
theorem _root_.Go.Sx.Le.M3{pb:Nat}{h h':ad}(l:Le h h'):lF pb h h':=(Sx.fh h pb).trans l
theorem PT.lt{h h':ad}{pb:Nat}{s:PS}(q:PT h pb s)(l:lF pb h h'){tys:List Nat}(hn:136∉tys):cG tys h h':=fun b c e fr hm hb=>by
 obtain⟨wb,wn,wc,eb,en,ec,at_,i,all,g1,-⟩:=q.out.out;have bU:b≠pb:=fun e'=>by
  rw[e',g1]at hb;cases hb;exact hn hm
 exact l b _ (by rw[Sx.eF bU];exact hb)
theorem PT.of{h h':ad}{pb:Nat}{s:PS}(q:PT h pb s)(t:cG [136,139] h h'):PT h' pb s:=by
 obtain⟨wb,wn,wc,eb,en,ec,at_,i,all,g1,g2,g3,g4,g5,g6,g7,g9,uj⟩:=q.out.out;have E1:=t _ _ _ _ (by simp) g1;refine⟨⟨wb,wn,wc,eb,en,ec,at_,i,all,E1,g2.mono (fun b c e fr hm hb=>?_),g3,g4,g5,g6,(fun hh=>by cases hh),Sx.fh h' pb,Sx.dP h' pb⟩⟩;have bU:b≠pb:=fun e'=>by rw[e',Sx.dP]at hb;cases hb
 have kC:e=139:=by simpa[qN]using hm
 subst kC;rw[Sx.eF bU]at hb |-;exact t _ _ _ _ (by simp) hb
theorem fV.pt{base h:ad}{pb:Nat}{lv:Bool}{s:PS}(q:fV lv base h pb s):PT h pb s:=⟨q.freeze⟩
theorem tP{h:ad}{pb:Nat}{s:PS}(hp:PT h pb s)(str:ByteArray){k:Value->ad->Prop}
 (hk:∀h' t s',s.is str=(t,s')->PT h' pb s'->lF pb h h'->(t=true->s'.ws.length<s.ws.length)->(t=false->s'=s/\h'=h)->k (.bool t) h'):
 Ct 120 [.pointer (some ⟨pb,0,none⟩),.string str] h k:=
 As hp.out str (fun h' t s' e p lt sm=>hk h' t s' e p.pt p.le lt sm)
theorem CH{h:ad}{pb:Nat}{s:PS}(hp:PT h pb s)(e:Int){k:Value->ad->Prop}(hk:∀h',PT h' pb (s.fail e)->lF pb h h'->k (.tuple #[]) h'):
 Ct 56 [.pointer (some ⟨pb,0,none⟩),.int .i64 e] h k:=
 wA hp.out e (fun h' p=>hk h' p.pt p.le)
theorem oz{h:ad}{pb:Nat}{s:PS}(hp:PT h pb s){k:Value->ad->Prop}
 (hk:∀h' v s',s.name ai=(v,s')->PT h' pb s'->lF pb h h'->s'.ws.length<=s.ws.length->v.size<=12->k (.string v) h'):
 Ct 123 [.pointer (some ⟨pb,0,none⟩)] h k:=
 Gw hp.out (fun h' v s' e p l z=>hk h' v s' e p.pt p.le l z)
theorem CN{h:ad}{pb:Nat}{s:PS}(hp:PT h pb s){k:Value->ad->Prop}
 (hk:∀h' v s',s.column ai=(v,s')->PT h' pb s'->lF pb h h'->s'.ws.length<=s.ws.length->v.size<=25->k (.string v) h'):
 Ct 220 [.pointer (some ⟨pb,0,none⟩)] h k:=
 qu hp.out (fun h' v s' e p l z=>hk h' v s' e p.pt p.le l z)
theorem gU{h:ad}{pb:Nat}{s:PS}(hp:PT h pb s){n:Nat}(hn:h n=none)(l:List ByteArray){m:Nat}{h1:ad}(e:h1=aV h n (.cells (List.toArray (l.map Value.string)) 9 (0,0)))(hm:m=l.length)(hl:l.length<=10){k:Value->ad->Prop}
 (hk:∀h' s',s.bP l=s'->PT h' pb s'->lF pb h h'->s'.ws.length<=s.ws.length->k (.tuple #[]) h'):Ct 122 [.pointer (some ⟨pb,0,none⟩),.slice (some ⟨n,0,none⟩) m m] h1 k:=
 Gz hp.out hn l e hm hl (fun h' s' e p l=>hk h' s' e p.pt p.le l)
abbrev SlN(h:ad)(v:Value)(l:List Nd):Prop:=Sl 325 cP h v l
theorem uu{h:ad}{pb:Nat}{s:PS}(hp:PT h pb s){k:Value->ad->Prop}
 (hk:∀h' b n c e s',s.expr ai=(e,s')->e.length<=60->PT h' pb s'->lF pb h h'->SlN h' (.slice b n c) e->s'.ws.length<=s.ws.length->k (.slice b n c) h'):
 Ct 217 [.pointer (some ⟨pb,0,none⟩)] h k:=
 UY hp.out (fun CV h' b n c e s' he hl lb p q l=>hk h' b n c e s' he hl p.pt (lb.trans p.le) (q.mono (p.le.t _)) l)
theorem GB{h:ad}{pb:Nat}{s:PS}(hp:PT h pb s){z:Int}{m:Nat}(hz:aO z m){k:Value->ad->Prop}
 (hk:∀h' t s',s.more m=(t,s')->PT h' pb s'->lF pb h h'->s'.ws.length<=s.ws.length->(t=true->s'.ws.length<s.ws.length/\m<6)->k (.bool t) h'):
 Ct 218 [.pointer (some ⟨pb,0,none⟩),.int .i64 z] h k:=by
 obtain⟨A,hA⟩:=Ar.ex;have f1:A .aD .geq z 6=decide (m>=6):=by have:=hz.eq;rw[bQ A,decide_eq_decide];omega
 have hm:s.more m=match s.is (au [44])with
  | (false,p)=>(false,p)
  | (true,p)=>if m>=6 then(false,p.fail 4)else(true,p):=by unfold PS.more;rfl
 refine af A (ar WK.aw WK.aZ) Tryz.func218 rfl (by kernel_rfl) ?_;cbv;refine tP hp (au [44]) (fun h1 t s1 e1 p1 l1 dU gC=>?_);rw[e1]at hm;have uV:A .not t= !t:=by rw[hA.not]
 cases t with
 |false=>have ae:=hk h1 false s1 hm p1 l1 (by rw[(gC rfl).1];exact Nat.le_refl _) (fun e=>by cases e);cbv;rw[uV];cbv;exact ae
 |true=>
  have dU:=dU rfl;replace hm:s.more m=if m>=6 then(false,s1.fail 4)else(true,s1):=hm
  cbv;rw[uV];cbv;rw[f1];by_cases h6:m>=6
  ·rw[if_pos h6]at hm;rw[decide_eq_true h6];cbv;refine CH p1 4 (fun h2 p2 l2=>?_);have ae:=hk h2 false _ hm p2 (l1.trans l2) (by rw[PS.pV];omega) (fun e=>by cases e);cbv;exact ae
  ·rw[if_neg h6]at hm;have ae:=hk h1 true _ hm p1 l1 (by omega) (fun _=>⟨dU,by omega⟩);rw[decide_eq_false h6];cbv;exact ae
theorem AB{h:ad}{pb:Nat}{s:PS}(hp:PT h pb s){k:Value->ad->Prop}
 (hk:∀h' b n c e s',s.bT ai=(e,s')->e.length<=60->PT h' pb s'->lF pb h h'->SlN h' (.slice b n c) e->s'.ws.length<=s.ws.length->k (.slice b n c) h'):
 Ct 126 [.pointer (some ⟨pb,0,none⟩)] h k:=by
 obtain⟨A,hA⟩:=Ar.ex;have hm:s.bT ai=match s.is (au [119,104,101,114,101])with
  | (true,p)=>p.expr ai
  | (false,p)=>([],p):=by unfold PS.bT;rfl
 refine af A (ar XC.aw XC.aZ) Tryz.func126 rfl (by kernel_rfl) ?_;cbv;refine tP hp (au [119,104,101,114,101]) (fun h1 t s1 e1 p1 l1 dU gC=>?_);rw[e1]at hm;cases t with
 |false=>have ae:=hk h1 none 0 0 [] s1 hm (Nat.zero_le _) p1 l1 Sl.nil (by rw[(gC rfl).1];exact Nat.le_refl _);cbv;exact ae
 |true=>have dU:=dU rfl;replace hm:s.bT ai=s1.expr ai:=hm;cbv;refine uu p1 (fun h2 b n c e s2 e2 z2 p2 l2 q2 w2=>?_);have ae:=hk h2 b n c e s2 (hm.trans e2) z2 p2 (l1.trans l2) q2 (by omega);cbv;exact ae
def bV:Sh dq where
 n:=2
 R h cs t:=∃b n c,cs=[.int .i64 t.fn,.slice b n c]/\Sl 325 cP h (.slice b n c) t.e
 len:=by rintro h cs x ⟨_,_,_,rfl,-⟩;rfl
 one:=by rintro h cs x ⟨_,_,_,rfl,-⟩;rfl
 tys:=[325]
 mono:=by rintro h h' cs x hl ⟨b,n,c,rfl,q⟩;exact⟨b,n,c,rfl,q.mono (hl.sub (by decide))⟩
theorem M5{h:ad}{pb:Nat}{s:PS}(hp:PT h pb s){k:Value->ad->Prop}
 (hk:∀h' b n c it s',s.item ai=(it,s')->it.e.length<=60->PT h' pb s'->lF pb h h'->SlN h' (.slice b n c) it.e->s'.ws.length<=s.ws.length->k (.agg #[.int .i64 it.fn,.slice b n c]) h'):
 Ct 219 [.pointer (some ⟨pb,0,none⟩)] h k:=by
 obtain⟨A,hA⟩:=Ar.ex;obtain⟨D,hD⟩:∃D,s.item ai=D:=⟨_,rfl⟩;have hm:=hD;unfold PS.item at hm;rw[hD]at hk;clear hD;refine af A (ar WJ.aw WJ.aZ) Tryz.func219 rfl (by kernel_rfl) ?_;cbv;refine tP hp (au [99,111,117,110,116]) (fun h1 t s1 e1 p1 l1 dU gC=>?_);rw[e1]at hm;cases t with
 |true=>have dU:=dU rfl;replace hm:(⟨1,[]⟩,s1.bP [(au [40]),(au [42]),(au [41])])=D:=hm;cbv;intro n3 h3 g3 e3;refine gU p1 g3 [(au [40]),(au [42]),(au [41])] e3 rfl (by decide) (fun h4 s4 e4 p4 l4 w4=>?_);rw[e4]at hm;have ae:=hk h4 none 0 0 ⟨1,[]⟩ s4 hm.symm (Nat.zero_le _) p4 (l1.trans l4) Sl.nil (by omega);cbv;exact ae
 |false=>
  obtain⟨eL,dO⟩:=gC rfl;replace eL:=eL.symm;replace dO:=dO.symm;subst eL dO;clear dU gC p1 l1;replace hm:(match s.cM [((au [115,117,109]),2),((au [109,105,110]),3),((au [109,97,120]),4)]with
   | (none,p)=>((⟨0,(p.expr ai).1⟩:dq),(p.expr ai).2)
   | (some fn,p)=>((⟨fn,((({ p.bP [(au [40])]with e:=[] }:PS).column ai).2.node (ek (({ p.bP [(au [40])]with e:=[] }:PS).column ai).1)).2.e⟩:dq),((({ p.bP [(au [40])]with e:=[] }:PS).column ai).2.node (ek (({ p.bP [(au [40])]with e:=[] }:PS).column ai).1)).2.bP [(au [41])]))=D:=hm
  cbv;refine tP hp (au [115,117,109]) (fun h1 t s1 e1 p1 l1 dU gC=>?_);cases t with
  |true=>have eo:s.cM [((au [115,117,109]),2),((au [109,105,110]),3),((au [109,97,120]),4)]=(some 2,s1):=dJ e1;have dU:=dU rfl;rw[eo]at hm;replace hm:((⟨2,((({ s1.bP [(au [40])]with e:=[] }:PS).column ai).2.node (ek (({ s1.bP [(au [40])]with e:=[] }:PS).column ai).1)).2.e⟩:dq),((({ s1.bP [(au [40])]with e:=[] }:PS).column ai).2.node (ek (({ s1.bP [(au [40])]with e:=[] }:PS).column ai).1)).2.bP [(au [41])])=D:=hm;cbv;intro n3 h3 g3 e3;refine gU p1 g3 [(au [40])] e3 rfl (by decide) (fun h4 s4 e4 p4 l4 w4=>?_);rw[e4]at hm;refine p4.out.elim (fun wb wn wc eb en ec at_ i all w r g qw hz hw mw hr hi KU qe=>?_);cbv;rw[aj A];refine kP g (by simp) (fun h5 e5=>?_);have p5:fV true (Sx.cQ h4 pb) h5 pb { s4 with e:=[] }:=p4.out.Ga (lv':=true) g p4.out.le (fun _=>⟨cS.nil,by decide⟩) g e5;cbv;refine qu p5 (fun h6 v s6 e6 p6 w6 z6=>?_);have w6:s6.ws.length<=s4.ws.length:=w6;rw[e6]at hm;cbv;refine iB p6 2 0 0 0 0 _ v (fun h7 v7 s7 e7 p7 w7=>?_);have e7:s6.node (ek v)=(v7,s7):=e7;replace hm:((⟨2,(s6.node (ek v)).2.e⟩:dq),(s6.node (ek v)).2.bP [(au [41])])=D:=hm;rw[e7]at hm;refine p7.elim (fun wb7 wn7 wc7 Vc UZ Vb at7 i7 Vr w7' r7 g7 qw7 hz7 hw7 Tq hr7 hi7 Tr MR=>?_);obtain⟨qb,Bc⟩:=MR rfl;have qs:=qb.sl;have p8:=p7.pt;have Ch:=p7.le;clear MR;cbv;rw[aj A];refine ay g7 rfl rfl ?_;cbv;intro n9 h9 g9 e9;refine gU p8 g9 [(au [41])] e9 rfl (by decide) (fun lz th kW pd lS I7=>?_);replace hm:((⟨2,s7.e⟩:dq),s7.bP [(au [41])])=D:=hm;rw[kW]at hm;have qf:=qs.mono (p8.lt lS (tys:=325::cP.tys) (by decide));have ae:=hk lz Vc UZ Vb ⟨2,s7.e⟩ th hm.symm Bc pd ((l1.trans l4).trans ((show lF pb h4 h7 from Ch).trans lS)) qf (by rw[w7]at I7;omega);cbv;exact ae
  |false=>
   obtain⟨eL,dO⟩:=gC rfl;replace eL:=eL.symm;replace dO:=dO.symm;subst eL dO;have kW:=e1;clear e1 dU gC p1 l1;cbv;refine tP hp (au [109,105,110]) (fun h1 t s1 e1 p1 l1 dU gC=>?_);cases t with
   |true=>have eo:s.cM [((au [115,117,109]),2),((au [109,105,110]),3),((au [109,97,120]),4)]=(some 3,s1):=(aI kW).trans (dJ e1);have dU:=dU rfl;rw[eo]at hm;replace hm:((⟨3,((({ s1.bP [(au [40])]with e:=[] }:PS).column ai).2.node (ek (({ s1.bP [(au [40])]with e:=[] }:PS).column ai).1)).2.e⟩:dq),((({ s1.bP [(au [40])]with e:=[] }:PS).column ai).2.node (ek (({ s1.bP [(au [40])]with e:=[] }:PS).column ai).1)).2.bP [(au [41])])=D:=hm;cbv;intro n3 h3 g3 e3;refine gU p1 g3 [(au [40])] e3 rfl (by decide) (fun h4 s4 e4 p4 l4 w4=>?_);rw[e4]at hm;refine p4.out.elim (fun wb wn wc eb en ec at_ i all w r g qw hz hw mw hr hi KU qe=>?_);cbv;rw[aj A];refine kP g (by simp) (fun h5 e5=>?_);have p5:fV true (Sx.cQ h4 pb) h5 pb { s4 with e:=[] }:=p4.out.Ga (lv':=true) g p4.out.le (fun _=>⟨cS.nil,by decide⟩) g e5;cbv;refine qu p5 (fun h6 v s6 e6 p6 w6 z6=>?_);have w6:s6.ws.length<=s4.ws.length:=w6;rw[e6]at hm;cbv;refine iB p6 2 0 0 0 0 _ v (fun h7 v7 s7 e7 p7 w7=>?_);have e7:s6.node (ek v)=(v7,s7):=e7;replace hm:((⟨3,(s6.node (ek v)).2.e⟩:dq),(s6.node (ek v)).2.bP [(au [41])])=D:=hm;rw[e7]at hm;refine p7.elim (fun wb7 wn7 wc7 Vc UZ Vb at7 i7 Vr w7' r7 g7 qw7 hz7 hw7 Tq hr7 hi7 Tr MR=>?_);obtain⟨qb,Bc⟩:=MR rfl;have qs:=qb.sl;have p8:=p7.pt;have Ch:=p7.le;clear MR;cbv;rw[aj A];refine ay g7 rfl rfl ?_;cbv;intro n9 h9 g9 e9;refine gU p8 g9 [(au [41])] e9 rfl (by decide) (fun lz th kW pd lS I7=>?_);replace hm:((⟨3,s7.e⟩:dq),s7.bP [(au [41])])=D:=hm;rw[kW]at hm;have qf:=qs.mono (p8.lt lS (tys:=325::cP.tys) (by decide));have ae:=hk lz Vc UZ Vb ⟨3,s7.e⟩ th hm.symm Bc pd ((l1.trans l4).trans ((show lF pb h4 h7 from Ch).trans lS)) qf (by rw[w7]at I7;omega);cbv;exact ae
   |false=>
    obtain⟨eL,dO⟩:=gC rfl;replace eL:=eL.symm;replace dO:=dO.symm;subst eL dO;have sf:=e1;clear e1 dU gC p1 l1;cbv;refine tP hp (au [109,97,120]) (fun h1 t s1 e1 p1 l1 dU gC=>?_);cases t with
    |true=>have eo:s.cM [((au [115,117,109]),2),((au [109,105,110]),3),((au [109,97,120]),4)]=(some 4,s1):=(aI kW).trans ((aI sf).trans (dJ e1));have dU:=dU rfl;rw[eo]at hm;replace hm:((⟨4,((({ s1.bP [(au [40])]with e:=[] }:PS).column ai).2.node (ek (({ s1.bP [(au [40])]with e:=[] }:PS).column ai).1)).2.e⟩:dq),((({ s1.bP [(au [40])]with e:=[] }:PS).column ai).2.node (ek (({ s1.bP [(au [40])]with e:=[] }:PS).column ai).1)).2.bP [(au [41])])=D:=hm;cbv;intro n3 h3 g3 e3;refine gU p1 g3 [(au [40])] e3 rfl (by decide) (fun h4 s4 e4 p4 l4 w4=>?_);rw[e4]at hm;refine p4.out.elim (fun wb wn wc eb en ec at_ i all w r g qw hz hw mw hr hi KU qe=>?_);cbv;rw[aj A];refine kP g (by simp) (fun h5 e5=>?_);have p5:fV true (Sx.cQ h4 pb) h5 pb { s4 with e:=[] }:=p4.out.Ga (lv':=true) g p4.out.le (fun _=>⟨cS.nil,by decide⟩) g e5;cbv;refine qu p5 (fun h6 v s6 e6 p6 w6 z6=>?_);have w6:s6.ws.length<=s4.ws.length:=w6;rw[e6]at hm;cbv;refine iB p6 2 0 0 0 0 _ v (fun h7 v7 s7 e7 p7 w7=>?_);have e7:s6.node (ek v)=(v7,s7):=e7;replace hm:((⟨4,(s6.node (ek v)).2.e⟩:dq),(s6.node (ek v)).2.bP [(au [41])])=D:=hm;rw[e7]at hm;refine p7.elim (fun wb7 wn7 wc7 Vc UZ Vb at7 i7 Vr w7' r7 g7 qw7 hz7 hw7 Tq hr7 hi7 Tr MR=>?_);obtain⟨qb,Bc⟩:=MR rfl;have qs:=qb.sl;have p8:=p7.pt;have Ch:=p7.le;clear MR;cbv;rw[aj A];refine ay g7 rfl rfl ?_;cbv;intro n9 h9 g9 e9;refine gU p8 g9 [(au [41])] e9 rfl (by decide) (fun lz th kW pd lS I7=>?_);replace hm:((⟨4,s7.e⟩:dq),s7.bP [(au [41])])=D:=hm;rw[kW]at hm;have qf:=qs.mono (p8.lt lS (tys:=325::cP.tys) (by decide));have ae:=hk lz Vc UZ Vb ⟨4,s7.e⟩ th hm.symm Bc pd ((l1.trans l4).trans ((show lF pb h4 h7 from Ch).trans lS)) qf (by rw[w7]at I7;omega);cbv;exact ae
    |false=>obtain⟨eL,dO⟩:=gC rfl;replace eL:=eL.symm;replace dO:=dO.symm;subst eL dO;have vu:=e1;clear e1 dU gC p1 l1;cbv;have eo:s.cM [((au [115,117,109]),2),((au [109,105,110]),3),((au [109,97,120]),4)]=(none,s):=(aI kW).trans ((aI sf).trans (aI vu));rw[eo]at hm;refine uu hp (fun h2 b n c e s2 e2 z2 p2 l2 q2 w2=>?_);replace hm:((⟨0,(s.expr ai).1⟩:dq),(s.expr ai).2)=D:=hm;rw[e2]at hm;have ae:=hk h2 b n c ⟨0,e⟩ s2 hm.symm z2 p2 l2 q2 w2;cbv;exact ae
abbrev fX:Sh (List Nd):=jl 325 cP
structure N0(h:ad)(v:Value)(st:aA):Prop where
 out:∃b1 n1 c1 b2 n2 c2 b3 n3 c3 b4 n4 c4 b5 n5 c5 b6 n6 c6,v=.agg #[.int .i64 st.kind,.string st.lM.name,.slice b1 n1 c1,.int .i64 st.lM.key,.bool st.lM.only,.string st.table,.string st.join,.slice b2 n2 c2,.slice b3 n3 c3,.slice b4 n4 c4,.slice b5 n5 c5,.slice b6 n6 c6,.string st.group,.string st.order,.bool st.desc,.int .i64 st.gX,.string st.name]/\
  Sl 165 bp h (.slice b1 n1 c1) st.lM.cols/\Sl 325 cP h (.slice b2 n2 c2) st.on/\Sl 9 cK h (.slice b3 n3 c3) st.names/\Sl 42 fX h (.slice b4 n4 c4) st.exprs/\Sl 276 bV h (.slice b5 n5 c5) st.items/\Sl 325 cP h (.slice b6 n6 c6) st.bT
abbrev stV(k:Int)(sn:ByteArray)(b1:Option Addr)(n1 c1:Nat)(ky:Int)(on:Bool)(tb jn:ByteArray)(b2:Option Addr)(n2 c2:Nat)(b3:Option Addr)(n3 c3:Nat)(b4:Option Addr)(n4 c4:Nat)(b5:Option Addr)(n5 c5:Nat)(b6:Option Addr)(n6 c6:Nat)(gr od:ByteArray)(ds:Bool)(lm:Int)(nm:ByteArray):Value:=
 .agg #[.int .i64 k,.string sn,.slice b1 n1 c1,.int .i64 ky,.bool on,.string tb,.string jn,.slice b2 n2 c2,.slice b3 n3 c3,.slice b4 n4 c4,.slice b5 n5 c5,.slice b6 n6 c6,.string gr,.string od,.bool ds,.int .i64 lm,.string nm]
theorem Ei{n:Nat}{l:List (List Nd)}{p q:PS}(e:p.more l.length=(true,q)):kV ai (n+1) l p=kV ai n (l++[(q.expr ai).1]) (q.expr ai).2:=by show(match p.more l.length with| (true,p)=>_| (false,p)=>(l,p))=_;rw[e]
theorem BC{n:Nat}{l:List (List Nd)}{p q:PS}(e:p.more l.length=(false,q)):kV ai (n+1) l p=(l,q):=by show(match p.more l.length with| (true,p)=>_| (false,p)=>(l,p))=_;rw[e]
theorem KF{h:ad}{pb:Nat}{s:PS}(hp:PT h pb s){k:Value->ad->Prop}
 (hk:∀h' st s' v,s.insert ai=(st,s')->PT h' pb s'->lF pb h h'->N0 h' v st->s'.ws.length<=s.ws.length->k v h'):
 Ct 124 [.pointer (some ⟨pb,0,none⟩)] h k:=by
 obtain⟨A,hA⟩:=Ar.ex;obtain⟨D,hD⟩:∃D,s.insert ai=D:=⟨_,rfl⟩;have hm:=hD;rw[hD]at hk;clear hD;unfold PS.insert at hm;refine af A (ar XE.aw XE.aZ) Tryz.func124 rfl (by kernel_rfl) ?_;cbv;intro n1 h1 g1 e1;refine gU hp g1 [(au [105,110,116,111])] e1 rfl (by decide) (fun h2 s2 e2 p2 l2 w2=>?_);rw[e2]at hm;cbv;refine oz p2 (fun h3 tb s3 e3 p3 l3 w3 z3=>?_);simp only[e3]at hm;cbv;intro n4 h4 g4 e4;refine gU p3 g4 [(au [118,97,108,117,101,115]),(au [40])] e4 rfl (by decide) (fun h5 s5 e5 p5 l5 w5=>?_);rw[e5]at hm;have RE:=(l2.trans l3).trans l5;have w05:s5.ws.length<=s.ws.length:=by omega
 cbv;refine uu p5 (fun h6 b n c Y2 s6 e6 z6 p6 l6 q6 w6=>?_);rw[e6]at hm;obtain⟨R,hR⟩:∃R,kV ai (s6.ws.length+1) [Y2] s6=R:=⟨_,rfl⟩;replace hm:((({ kind:=3,table:=tb,exprs:=(kV ai (s6.ws.length+1) [Y2] s6).1 }:aA),(kV ai (s6.ws.length+1) [Y2] s6).2.bP [(au [41])]))=D:=hm;rw[hR]at hm;cbv;intro n7 h7 g7 e7;have l7:Le h6 h7:=by rw[e7];exact Le.set g7
 have f7:=(congrFun e7 n7).trans ah;have v7:Sl 42 fX h7 (.slice (some ⟨n7,0,none⟩) 1 1) [Y2]:=bX (s:=fX) f7 ⟨_,rfl,q6.mono (l7.t _)⟩;have Yp:Le (Sx.cQ h pb) h7:=(RE.trans l6).trans l7.M3;have D3:cS 42 fX (Sx.cQ h pb) h7 (.slice none 0 0) ([]:List (List Nd)):=cS.nil;cbv;refine D3.append v7 (by decide) rfl (by decide) (by omega) Yp (fun m8 b8 c8 h8 em8 l8 t8 k8 R2=>?_);have p8:=p6.of ((l7.t _).trans (t8 _ (by decide)));rw[List.nil_append]at R2;obtain⟨I,bm⟩:∃I:Nat->Option Addr×Nat×Nat->ad->Prop,∀m g h',I m g h'=∃l s1 fu,cS 42 fX (Sx.cQ h pb) h' (.slice g.1 g.2.1 g.2.2) l/\l.length<=6/\PT h' pb s1/\lF pb h h'/\s1.ws.length<=s.ws.length/\s1.ws.length<fu/\kV ai fu l s1=R/\m=s1.ws.length:=⟨_,fun _ _ _=>rfl⟩;have hJ:I s6.ws.length (b8,m8,c8) h8:=by rw[bm];exact⟨_,s6,_,R2,(by show 1<=6;decide),p8,l8,by omega,Nat.lt_succ_self _,hR,rfl⟩
 clear hR D3 v7 f7 e6 R2 t8 k8;cbv;refine aX.go (G:=Option Addr×Nat×Nat) (fun _=>[]) (fun g=>[(3,[.int .i64 3,.string ⟨#[]⟩,.slice none 0 0,.int .i64 0,.bool false,.string tb,.string ⟨#[]⟩,.slice none 0 0,.slice none 0 0,.slice g.1 g.2.1 g.2.2,.slice none 0 0,.slice none 0 0,.string ⟨#[]⟩,.string ⟨#[]⟩,.bool false,.int .i64 0,.string ⟨#[]⟩]),
  (2,[.int .i64 0,.string ⟨#[]⟩,.slice none 0 0,.int .i64 0,.bool false,.string ⟨#[]⟩,.string ⟨#[]⟩,.slice none 0 0,.slice none 0 0,.slice none 0 0,.slice none 0 0,.slice none 0 0,.string ⟨#[]⟩,.string ⟨#[]⟩,.bool false,.int .i64 0,.string ⟨#[]⟩])]) (fun m g h'=>I m g h') s6.ws.length (b8,m8,c8) ⟨?_,?_,?_⟩ hJ ?_
 ·cbv
 ·cbv
 ·cbv
 ·intro m g h9 hI;rw[bm]at hI;cbv;obtain⟨l,s9,fu,Ll,PX,p9,l9,w9,P7,he,K6⟩:=hI;obtain⟨gb,gn,gc⟩:=g;have Ll:cS 42 fX (Sx.cQ h pb) h9 (.slice gb gn gc) l:=Ll;have Cu:=Ll.sl.len;obtain⟨fu,rfl⟩:∃zM,fu=zM+1:=⟨fu-1,by omega⟩;have DW:aO (A .nat gn) l.length:=by rw[<-Cu];exact aO.nat gn
  refine GB p9 DW (fun lz t th kW pd lS I7 yY=>?_);have xS:=Ll.mono (p9.lt lS (tys:=42::fX.tys) (by decide));cases t with
  |true=>
   obtain⟨yY,YE⟩:=yY rfl;have he:=(Ei kW).symm.trans he;cbv;refine uu pd (fun Ed b n c Vf Dt sf z11 SK wj OC w11=>?_);rw[sf]at he;have he:kV ai fu (l++[Vf]) Dt=R:=he;have UA:=xS.mono (pd.lt wj (tys:=42::fX.tys) (by decide));cbv;intro Ry vq g12 vu;have fO:Le Ed vq:=by rw[vu];exact Le.set g12
   have f12:=(congrFun vu Ry).trans ah;have v12:Sl 42 fX vq (.slice (some ⟨Ry,0,none⟩) 1 1) [Vf]:=bX (s:=fX) f12 ⟨_,rfl,OC.mono (fO.t _)⟩;have l012:Le (Sx.cQ h pb) vq:=((l9.trans lS).trans wj).trans fO.M3;cbv;refine(UA.mono (fO.t _)).append v12 (by decide) rfl (by decide) (by omega) l012 (fun m13 b13 c13 h13 em13 Tb t13 k13 Uz=>?_);have p13:=SK.of ((fO.t _).trans (t13 _ (by decide)));have hI13:I Dt.ws.length (b13,m13,c13) h13:=by rw[bm];exact⟨_,Dt,fu,Uz,by rw[List.length_append,List.length_singleton];omega,p13,Tb,by omega,by omega,he,rfl⟩
   have aG:Dt.ws.length<m:=by omega
   clear bm hJ hk he Uz Ll xS UA v12 f12 t13 k13;cbv;refine⟨Dt.ws.length,(_,_,_),aG,⟨?_,?_,?_⟩,hI13⟩
   ·cbv
   ·cbv
   ·cbv
  |false=>have he:=(BC kW).symm.trans he;rw[<-he]at hm;clear he bm hJ;cbv;intro n11 Ed YV sf;refine gU pd YV [(au [41])] sf rfl (by decide) (fun vq MN vu p12 fO w12=>?_);replace hm:((({ kind:=3,table:=tb,exprs:=l }:aA),th.bP [(au [41])]))=D:=hm;rw[vu]at hm;have hb12:=xS.mono (pd.lt fO (tys:=42::fX.tys) (by decide));have ae:=fun v q=>hk vq ({ kind:=3,table:=tb,exprs:=l }:aA) MN v hm.symm p12 ((l9.trans lS).trans fO) q (by omega);have ae:=ae _ ⟨none,0,0,none,0,0,none,0,0,gb,gn,gc,none,0,0,none,0,0,rfl,Sl.nil,Sl.nil,Sl.nil,hb12.sl,Sl.nil,Sl.nil⟩;cbv;exact ae
theorem ko(a b:By):au a++au b=au (a++b):=by apply ByteArray.ext;rw[ByteArray.data_append];show a.toArray++b.toArray=(a++b).toArray;simp
theorem dD(a:By):(au a).size=a.length:=by show a.toArray.size=_;simp
theorem sQ(c:UInt8)(r acc:By):dL (c::r) acc=match decide (c.toNat=39)with
 |false=>dL r (acc++[c])
 |true=>match r with
  | []=>if acc.length>60 then(([],[]),5)else((acc,[]),0)
  |d::r'=>match decide (d.toNat=39)with
   |true=>dL r' (acc++[39])
   |false=>if acc.length>60 then(([],[]),5)else((acc,d::r'),0):=by rw[dL.eq_def];rfl
theorem JQ{s:ByteArray}(hs:s.size<=600){i:Nat}{t:By}(q:oD s i t){z:Int}(hz:aO z i){h:ad}{k:Value->ad->Prop}
 (hk:∀v z' e rest,dL t []=((v,rest),e)->(e=0->∃j,aO z' j/\oD s j rest)->k (.tuple #[.string (au v),.int .i64 z',.int .i64 e]) h):
 Ct 214 [.string s,.int .i64 z] h k:=by
 obtain⟨A,hA⟩:=Ar.ex;have pN:aO (A .gD s) s.size:=⟨by rw[hA.gD]⟩;obtain⟨I,bm⟩:∃I:Nat->Int×ByteArray->ad->Prop,∀m g h',I m g h'=∃j t' acc,aO g.1 j/\oD s j t'/\m=t'.length/\g.2=au acc/\acc.length<=j/\dL t' acc=dL t []/\h'=h:=⟨_,fun _ _ _=>rfl⟩;have hJ:I t.length (z,⟨#[]⟩) h:=by rw[bm];exact⟨i,t,[],hz,q,rfl,rfl,Nat.zero_le _,rfl,rfl⟩
 refine af A (ar WN.aw WN.aZ) Tryz.func214 rfl (by kernel_rfl) ?_;cbv;refine aX.go (G:=Int×ByteArray) (fun g=>[(1,.v (.int .i64 g.1)),(7,.v (.string g.2))]) (fun _=>[]) (fun m g h'=>I m g h') t.length (z,⟨#[]⟩) ⟨?_,?_,?_⟩ hJ ?_
 ·cbv
 ·cbv
 ·cbv
 ·intro m g h' hI;rw[bm]at hI;cbv;obtain⟨j,t',acc,hg,q',hm,tZ,hal,he,rfl⟩:=hI;obtain⟨z,out⟩:=g;have hg:aO z j:=hg;have tZ:out=au acc:=tZ;have RS:out.size=acc.length:=by rw[tZ,dD]
  have hl:=q'.len;have f1:A .aD .lss z (A .gD s)=decide (j<s.size):=hg.gK pN;rw[f1];cases t' with
  |nil=>
   have aG:¬j<s.size:=by have:([]:By).length=0:=rfl;omega
   have ae:=hk [] 0 6 [] (by rw[<-he];rfl) (fun e=>absurd e (by decide));have ae:k (.tuple #[.string ⟨#[]⟩,.int .i64 0,.int .i64 6]) h':=ae;rw[decide_eq_false aG];cbv;exact ae
  |cons c r=>
   have rF:(c::r).length=r.length+1:=rfl;have aG:j<s.size:=by omega
   have cT:0<=z/\z<(s.size:Int):=hg.ix aG;obtain⟨b,hb⟩:∃b,A .byte s z=b:=⟨_,rfl⟩;have nO:b=(c.toNat:Int):=by rw[<-hb];exact q'.byte hg
   have f2:A .aD .neq b 39= !decide (c.toNat=39):=by
    rw[aC A,nO];by_cases h:c.toNat=39
    ·simp[h]
    ·have:(c.toNat:Int)≠39:=by omega
     simp[h,this]
   have dS:=hg.succ (A:=A) (by omega);have gM:r.length<m:=by rw[hm];exact Nat.lt_succ_self _
   have hq:=q'.next;have Cm:=sQ c r acc;rw[Cm]at he;clear Cm;rw[decide_eq_true aG];cbv;refine⟨cT,?_⟩;cbv;rw[hb,f2];clear f2;generalize decide (c.toNat=39)=u1 at *;cases u1 with
   |false=>
    replace he:dL r (acc++[c])=dL t []:=he;have cW:A .sub s z (A .bu .add .i64 z 1)=au [c]:=q'.sub hg (n:=1) dS;have Bq:0<=A .bu .add .i64 z 1/\A .bu .add .i64 z 1<=(s.size:Int)/\0<=z/\z<=A .bu .add .i64 z 1:=by have h1:=dS.eq;have h2:=hg.eq;omega
    have Br:((out.size+(au [c]).size:Nat):Int)<=2^62:=by rw[dD];show((out.size+1:Nat):Int)<=_;omega
    obtain⟨z2,gL⟩:∃z2,A .bu .add .i64 z 1=z2:=⟨_,rfl⟩;rw[gL]at cW Bq dS;obtain⟨sb,zu⟩:∃sb,au [c]=sb:=⟨_,rfl⟩;have dc:I r.length (z2,A .cat out sb) h':=by rw[bm];refine⟨j+1,r,acc++[c],dS,hq,rfl,?_,by rw[List.length_append,List.length_singleton];omega,he,rfl⟩;show A .cat out sb=_;rw[<-zu,hA.cat,tZ];exact ko _ _
    rw[zu]at cW Br;clear bm hJ hk he;cbv;rw[gL];refine⟨Bq,?_⟩;cbv;rw[cW];refine⟨Br,?_⟩;cbv;rw[gL];refine⟨r.length,(_,_),gM,⟨?_,?_,?_⟩,dc⟩
    ·cbv
    ·cbv
    ·cbv
   |true=>
    obtain⟨z2,gL⟩:∃z2,A .bu .add .i64 z 1=z2:=⟨_,rfl⟩;rw[gL]at dS;have f3:A .aD .lss z2 (A .gD s)=decide (j+1<s.size):=dS.gK pN;have f4:A .aD .gtr (A .gD out) 60=decide (acc.length>60):=by rw[bB A,hA.gD];show decide ((out.size:Int)>60)=_;rw[decide_eq_decide,RS];omega
    have iO:(if acc.length>60 then((([]:By),([]:By)),(5:Int))else((acc,r),0))=dL t []->if acc.length>60 then k (.tuple #[.string ⟨#[]⟩,.int .i64 0,.int .i64 5]) h' else k (.tuple #[.string out,.int .i64 z2,.int .i64 0]) h':=fun e=>by
     by_cases oW:acc.length>60
     ·rw[if_pos oW]at e |-;exact hk [] 0 5 [] e.symm (fun e=>absurd e (by decide))
     ·rw[if_neg oW]at e |-;rw[tZ];exact hk acc z2 0 r e.symm (fun _=>⟨j+1,dS,hq⟩)
    have hlq:=hq.len;cases r with
    |nil=>
     have D5:¬j+1<s.size:=by have:([]:By).length=0:=rfl;omega
     have iO:=iO he;clear bm hJ hk he;rw[decide_eq_false D5]at f3;cbv;rw[gL,f3];cbv;rw[f4];by_cases oW:acc.length>60
     ·rw[if_pos oW]at iO;rw[decide_eq_true oW];cbv;exact iO
     ·rw[if_neg oW]at iO;rw[decide_eq_false oW];cbv;rw[gL];exact iO
    |cons d r'=>
     have Ni:(d::r').length=r'.length+1:=rfl;have D5:j+1<s.size:=by omega
     have zE:0<=z2/\z2<(s.size:Int):=dS.ix D5;obtain⟨b2,jt⟩:∃b,A .byte s z2=b:=⟨_,rfl⟩;have hbc2:b2=(d.toNat:Int):=by rw[<-jt];exact hq.byte dS
     have f5:A .aD .eql b2 39=decide (d.toNat=39):=by rw[av A,decide_eq_decide,hbc2];omega
     replace he:(match decide (d.toNat=39)with
      |true=>dL r' (acc++[39])
      |false=>if acc.length>60 then((([]:By),([]:By)),(5:Int))else((acc,d::r'),0))=dL t []:=he
     generalize decide (d.toNat=39)=u2 at *;rw[decide_eq_true D5]at f3;cases u2 with
     |true=>
      replace he:dL r' (acc++[39])=dL t []:=he;have hq3:=hq.next;obtain⟨z3,Hg⟩:∃z3,A .bu .add .i64 z 2=z3:=⟨_,rfl⟩;have hn3:aO z3 (j+1+1):=⟨by rw[<-Hg,kG A _ _ (by have:=hg.eq;omega),hg.eq];omega⟩;have Br:((out.size+(au [39]).size:Nat):Int)<=2^62:=by rw[dD];show((out.size+1:Nat):Int)<=_;omega
      have dc:I r'.length (z3,A .cat out ⟨#[39]⟩) h':=by rw[bm];refine⟨j+1+1,r',acc++[39],hn3,hq3,rfl,?_,by rw[List.length_append,List.length_singleton];omega,he,rfl⟩;show A .cat out (au [39])=_;rw[hA.cat,tZ];exact ko _ _
      have hlt4:r'.length<m:=by omega
      clear bm hJ hk he iO;cbv;rw[gL,f3];cbv;rw[gL];refine⟨zE,?_⟩;cbv;rw[jt,f5];cbv;refine⟨Br,?_⟩;cbv;rw[Hg];refine⟨r'.length,(_,_),hlt4,⟨?_,?_,?_⟩,dc⟩
      ·cbv
      ·cbv
      ·cbv
     |false=>
      have iO:=iO he;clear bm hJ hk he;cbv;rw[gL,f3];cbv;rw[gL];refine⟨zE,?_⟩;cbv;rw[jt,f5];cbv;rw[f4];by_cases oW:acc.length>60
      ·rw[if_pos oW]at iO;rw[decide_eq_true oW];cbv;exact iO
      ·rw[if_neg oW]at iO;rw[decide_eq_false oW];cbv;rw[gL];exact iO
theorem JL{h:ad}{pb:Nat}{s:PS}(hp:PT h pb s){k:Value->ad->Prop}
 (hk:∀h' st s' v,s.update ai=(st,s')->PT h' pb s'->lF pb h h'->N0 h' v st->s'.ws.length<=s.ws.length->k v h'):
 Ct 125 [.pointer (some ⟨pb,0,none⟩)] h k:=by
 obtain⟨A,hA⟩:=Ar.ex;obtain⟨D,hD⟩:∃D,s.update ai=D:=⟨_,rfl⟩;have hm:=hD;rw[hD]at hk;clear hD;unfold PS.update at hm;refine af A (ar XD.aw XD.aZ) Tryz.func125 rfl (by kernel_rfl) ?_;cbv;refine oz hp (fun h3 tb s3 e3 p3 l3 w3 z3=>?_);simp only[e3]at hm;cbv;intro n4 h4 g4 e4;refine gU p3 g4 [(au [115,101,116])] e4 rfl (by decide) (fun h5 s5 e5 p5 l5 w5=>?_);simp only[e5]at hm;have RE:=l3.trans l5;have w05:s5.ws.length<=s.ws.length:=by omega
 obtain⟨R,hR⟩:∃R,mi ai (s5.ws.length+1) [] [] s5=R:=⟨_,rfl⟩;rw[hR]at hm;obtain⟨I,bm⟩:∃I:Nat->Int×(Option Addr×Nat×Nat)×Option Addr×Nat×Nat->ad->Prop,∀m g h',I m g h'=∃kk la lb s1 fu,aO g.1 kk/\cS 9 cK (Sx.cQ h pb) h' (.slice g.2.1.1 g.2.1.2.1 g.2.1.2.2) la/\cS 42 fX (Sx.cQ h pb) h' (.slice g.2.2.1 g.2.2.2.1 g.2.2.2.2) lb/\la.length=lb.length/\la.length<=6/\PT h' pb s1/\lF pb h h'/\s1.ws.length<=s.ws.length/\s1.ws.length<=fu/\kk<=10+la.length/\
  ((kk=0/\la=[]/\lb=[]/\s1=s5/\mi ai (fu+1) [] [] s1=R/\m=s1.ws.length+1)\/(kk≠0/\(match s1.more la.length with
    | (true,p)=>mi ai fu la lb p
    | (false,p)=>((la,lb),p))=R/\m=s1.ws.length)):=⟨_,fun _ _ _=>rfl⟩
 have hJ:I (s5.ws.length+1) (0,(none,0,0),none,0,0) h5:=by rw[bm];exact⟨0,[],[],s5,s5.ws.length,⟨rfl⟩,cS.nil,cS.nil,rfl,by decide,p5,RE,w05,Nat.le_refl _,Nat.zero_le _,.inl ⟨rfl,rfl,rfl,rfl,hR,rfl⟩⟩
 clear hR;cbv;refine aX.go (G:=Int×(Option Addr×Nat×Nat)×Option Addr×Nat×Nat) (fun g=>[(4,.v (.int .i64 g.1))]) (fun g=>[(3,[.int .i64 4,.string ⟨#[]⟩,.slice none 0 0,.int .i64 0,.bool false,.string tb,.string ⟨#[]⟩,.slice none 0 0,.slice g.2.1.1 g.2.1.2.1 g.2.1.2.2,.slice g.2.2.1 g.2.2.2.1 g.2.2.2.2,.slice none 0 0,.slice none 0 0,.string ⟨#[]⟩,.string ⟨#[]⟩,.bool false,.int .i64 0,.string ⟨#[]⟩]),
  (2,[.int .i64 0,.string ⟨#[]⟩,.slice none 0 0,.int .i64 0,.bool false,.string ⟨#[]⟩,.string ⟨#[]⟩,.slice none 0 0,.slice none 0 0,.slice none 0 0,.slice none 0 0,.slice none 0 0,.string ⟨#[]⟩,.string ⟨#[]⟩,.bool false,.int .i64 0,.string ⟨#[]⟩])]) (fun m g h'=>I m g h') (s5.ws.length+1) (0,(none,0,0),none,0,0) ⟨?_,?_,?_⟩ hJ ?_
 ·cbv
 ·cbv
 ·cbv
 ·intro m g h9 hI;rw[bm]at hI;cbv;obtain⟨kk,la,lb,s9,fu,hz,ba,bb,rF,PX,p9,l9,w9,P7,Bp,dk⟩:=hI;obtain⟨z,⟨ab,an,ac⟩,gb,gn,gc⟩:=g;have hz:aO z kk:=hz;have ba:cS 9 cK (Sx.cQ h pb) h9 (.slice ab an ac) la:=ba;have bb:cS 42 fX (Sx.cQ h pb) h9 (.slice gb gn gc) lb:=bb;have Jq:=ba.sl.len;have Bs:=bb.sl.len;have f1:A .aD .eql z 0=decide (kk=0):=by have:=hz.eq;rw[av A,decide_eq_decide];omega
  have dS:=hz.succ (A:=A) (by omega);rw[f1];rcases dk with ⟨rfl,rfl,rfl,rfl,he,K6⟩ | ⟨Jk,he,K6⟩
  ·obtain⟨la,Jh⟩:∃l:List ByteArray,l=[]:=⟨_,rfl⟩;obtain⟨lb,hlb⟩:∃l:List (List Nd),l=[]:=⟨_,rfl⟩;obtain⟨kk,HB⟩:∃l:Nat,l=0:=⟨_,rfl⟩;have hdk:decide ((0:Nat)=0)=true:=rfl;rw[<-Jh]at ba he Jq rF PX;rw[<-hlb]at bb he Bs rF;rw[<-Jh]at Bp;have YE:la.length<6:=by rw[Jh];show 0<6;decide
   rw[<-HB]at dS;rw[hdk];cbv;refine oz p9 (fun Qo nv Ds QY OJ DO w20 Zp=>?_);have uL:=ba.mono (p9.lt DO (tys:=9::cK.tys) (by decide));have IL:=bb.mono (p9.lt DO (tys:=42::fX.tys) (by decide));cbv;intro Gy Bu Qu H8;have xG:Le Qo Bu:=by rw[H8];exact Le.set Qu
   have f21:=(congrFun H8 Gy).trans ah;have Fl:Sl 9 cK Bu (.slice (some ⟨Gy,0,none⟩) 1 1) [nv]:=bX (s:=cK) f21 rfl;have A5:Le (Sx.cQ h pb) Bu:=(l9.trans DO).trans xG.M3;cbv;refine(uL.mono (xG.t _)).append Fl (by decide) rfl (by decide) (by omega) A5 (fun OZ Re Ra LB QU A4 t22 Pb uK=>?_);have Gh:=OJ.of ((xG.t _).trans (t22 _ (by decide)));have IK:=(IL.mono (xG.t _)).mono (t22 _ (by decide));have A4:lF pb h LB:=A4;clear uL IL Fl f21 t22 Pb;cbv;intro n23 h23 g23 e23;refine gU Gh g23 [(au [61])] e23 rfl (by decide) (fun YS s24 e24 OI rC w24=>?_);have IT:=uK.mono (Gh.lt rC (tys:=9::cK.tys) (by decide));have IJ:=IK.mono (Gh.lt rC (tys:=42::fX.tys) (by decide));cbv;refine uu OI (fun h25 eb en ec ev FR e25 z25 p25 GL q25 w25=>?_);have IS:=IT.mono (OI.lt GL (tys:=9::cK.tys) (by decide));have II:=IJ.mono (OI.lt GL (tys:=42::fX.tys) (by decide));clear IT IJ uK IK;cbv;intro SY Qn g26 Vd;have GK:Le h25 Qn:=by rw[Vd];exact Le.set g26
   have f26:=(congrFun Vd SY).trans ah;have Sk:Sl 42 fX Qn (.slice (some ⟨SY,0,none⟩) 1 1) [ev]:=bX (s:=fX) f26 ⟨_,rfl,q25.mono (GK.t _)⟩;have O5:Le (Sx.cQ h pb) Qn:=((A4.trans rC).trans GL).trans GK.M3;cbv;refine(II.mono (GK.t _)).append Sk (by decide) rfl (by decide) (by omega) O5 (fun m27 b27 c27 UI em27 Jc t27 k27 IG=>?_);have p27:=p25.of ((GK.t _).trans (t27 _ (by decide)));have IQ:=(IS.mono (GK.t _)).mono (t27 _ (by decide));have Jc:lF pb h UI:=Jc;have aV:mi ai (fu+1) la lb s9=match FR.more (la++[nv]).length with
    | (true,p)=>mi ai fu (la++[nv]) (lb++[ev]) p
    | (false,p)=>((la++[nv],lb++[ev]),p):=by
    rw[mi];simp only[QY,e24,e25];rfl
   have Qk:I FR.ws.length (A .bu .add .i64 z 1,(Re,OZ,Ra),b27,m27,c27) UI:=by rw[bm];exact⟨kk+1,la++[nv],lb++[ev],FR,fu,dS,IQ,IG,by rw[List.length_append,List.length_append,rF];rfl,by rw[List.length_append,List.length_singleton];omega,p27,Jc,by omega,by omega,by rw[List.length_append,List.length_singleton];omega,.inr ⟨by omega,aV.symm.trans he,rfl⟩⟩
   have aG:FR.ws.length<m:=by omega
   clear bm hJ hk he IQ IG IS II Sk f26 t27 k27 aV;cbv;refine⟨FR.ws.length,(_,(_,_,_),_,_,_),aG,⟨?_,?_,?_⟩,Qk⟩
   ·cbv
   ·cbv
   ·cbv
  ·rw[decide_eq_false Jk];have DW:aO (A .nat an) la.length:=by rw[<-Jq];exact aO.nat an
   cbv;refine GB p9 DW (fun lz t th kW pd lS I7 yY=>?_);rw[kW]at he;have ba:=ba.mono (p9.lt lS (tys:=9::cK.tys) (by decide));have bb:=bb.mono (p9.lt lS (tys:=42::fX.tys) (by decide));have l9:=l9.trans lS;cases t with
   |true=>
    obtain⟨yY,YE⟩:=yY rfl;replace he:mi ai fu la lb th=R:=he;obtain⟨fu,rfl⟩:∃zM,fu=zM+1:=⟨fu-1,by omega⟩;cbv;refine oz pd (fun Qo nv Ds QY OJ DO w20 Zp=>?_);have uL:=ba.mono (pd.lt DO (tys:=9::cK.tys) (by decide));have IL:=bb.mono (pd.lt DO (tys:=42::fX.tys) (by decide));cbv;intro Gy Bu Qu H8;have xG:Le Qo Bu:=by rw[H8];exact Le.set Qu
    have f21:=(congrFun H8 Gy).trans ah;have Fl:Sl 9 cK Bu (.slice (some ⟨Gy,0,none⟩) 1 1) [nv]:=bX (s:=cK) f21 rfl;have A5:Le (Sx.cQ h pb) Bu:=(l9.trans DO).trans xG.M3;cbv;refine(uL.mono (xG.t _)).append Fl (by decide) rfl (by decide) (by omega) A5 (fun OZ Re Ra LB QU A4 t22 Pb uK=>?_);have Gh:=OJ.of ((xG.t _).trans (t22 _ (by decide)));have IK:=(IL.mono (xG.t _)).mono (t22 _ (by decide));have A4:lF pb h LB:=A4;clear uL IL Fl f21 t22 Pb;cbv;intro n23 h23 g23 e23;refine gU Gh g23 [(au [61])] e23 rfl (by decide) (fun YS s24 e24 OI rC w24=>?_);have IT:=uK.mono (Gh.lt rC (tys:=9::cK.tys) (by decide));have IJ:=IK.mono (Gh.lt rC (tys:=42::fX.tys) (by decide));cbv;refine uu OI (fun h25 eb en ec ev FR e25 z25 p25 GL q25 w25=>?_);have IS:=IT.mono (OI.lt GL (tys:=9::cK.tys) (by decide));have II:=IJ.mono (OI.lt GL (tys:=42::fX.tys) (by decide));clear IT IJ uK IK;cbv;intro SY Qn g26 Vd;have GK:Le h25 Qn:=by rw[Vd];exact Le.set g26
    have f26:=(congrFun Vd SY).trans ah;have Sk:Sl 42 fX Qn (.slice (some ⟨SY,0,none⟩) 1 1) [ev]:=bX (s:=fX) f26 ⟨_,rfl,q25.mono (GK.t _)⟩;have O5:Le (Sx.cQ h pb) Qn:=((A4.trans rC).trans GL).trans GK.M3;cbv;refine(II.mono (GK.t _)).append Sk (by decide) rfl (by decide) (by omega) O5 (fun m27 b27 c27 UI em27 Jc t27 k27 IG=>?_);have p27:=p25.of ((GK.t _).trans (t27 _ (by decide)));have IQ:=(IS.mono (GK.t _)).mono (t27 _ (by decide));have Jc:lF pb h UI:=Jc;have aV:mi ai (fu+1) la lb th=match FR.more (la++[nv]).length with
     | (true,p)=>mi ai fu (la++[nv]) (lb++[ev]) p
     | (false,p)=>((la++[nv],lb++[ev]),p):=by
     rw[mi];simp only[QY,e24,e25];rfl
    have Qk:I FR.ws.length (A .bu .add .i64 z 1,(Re,OZ,Ra),b27,m27,c27) UI:=by rw[bm];exact⟨kk+1,la++[nv],lb++[ev],FR,fu,dS,IQ,IG,by rw[List.length_append,List.length_append,rF];rfl,by rw[List.length_append,List.length_singleton];omega,p27,Jc,by omega,by omega,by rw[List.length_append,List.length_singleton];omega,.inr ⟨by omega,aV.symm.trans he,rfl⟩⟩
    have aG:FR.ws.length<m:=by omega
    clear bm hJ hk he IQ IG IS II Sk f26 t27 k27 aV;cbv;refine⟨FR.ws.length,(_,(_,_,_),_,_,_),aG,⟨?_,?_,?_⟩,Qk⟩
    ·cbv
    ·cbv
    ·cbv
   |false=>replace he:((la,lb),th)=R:=he;subst he;clear bm hJ;cbv;refine AB pd (fun Ed wb wn wc we Dt sf z11 SK wj OC w11=>?_);replace hm:((({ kind:=4,table:=tb,names:=la,exprs:=lb,bT:=(th.bT ai).1 }:aA),(th.bT ai).2))=D:=hm;rw[sf]at hm;have ba11:=ba.mono (pd.lt wj (tys:=9::cK.tys) (by decide));have bb11:=bb.mono (pd.lt wj (tys:=42::fX.tys) (by decide));have ae:=fun v q=>hk Ed ({ kind:=4,table:=tb,names:=la,exprs:=lb,bT:=we }:aA) Dt v hm.symm SK (l9.trans wj) q (by omega);have ae:=ae _ ⟨none,0,0,none,0,0,ab,an,ac,gb,gn,gc,none,0,0,wb,wn,wc,rfl,Sl.nil,Sl.nil,ba11.sl,bb11.sl,Sl.nil,OC⟩;cbv;exact ae
set_option maxHeartbeats 16000000
def L9(p:PS):List dq×PS:=match p.is (au [42])with
 | (true,p)=>([],p)
 | (false,p)=>fZ ai (p.ws.length+1) [] p
def L8(p:PS):ByteArray×PS:=(p.bP [(au [102,114,111,109])]).name ai
def Jy(p:PS):(ByteArray×List Nd)×PS:=match p.is (au [106,111,105,110])with
 | (true,p)=>let a:=p.name ai;let e:=(a.2.bP [(au [111,110])]).expr ai;((a.1,e.1),e.2)
 | (false,p)=>((b0,[]),p)
def NU(p:PS):ByteArray×PS:=match p.is (au [103,114,111,117,112])with
 | (true,p)=>(p.bP [(au [98,121])]).column ai
 | (false,p)=>(b0,p)
def Sd(p:PS):(ByteArray×Bool)×PS:=match p.is (au [111,114,100,101,114])with
 | (true,p)=>let c:=(p.bP [(au [98,121])]).column ai;let d:=c.2.is (au [100,101,115,99]);((c.1,d.1),d.2)
 | (false,p)=>((b0,false),p)
def Sc(p:PS):Int×PS:=match p.is (au [108,105,109,105,116])with
 | (true,p)=>(match p.ws with
  |w::r=>if w.k=2 then(w.n,({ p with ws:=r }:PS))else((-1:Int),p.fail 6)
  | []=>(-1,p))
 | (false,p)=>(-1,p)
theorem Et{s:PS}{l:List dq}{s1 s2 s3 s4 s5 s6 s7:PS}{tb jn gr od:ByteArray}{on wh:List Nd}{ds:Bool}{lm:Int}(e1:L9 s=(l,s1))(e2:L8 s1=(tb,s2))(e3:Jy s2=((jn,on),s3))(e4:s3.bT ai=(wh,s4))(e5:NU s4=(gr,s5))(e6:Sd s5=((od,ds),s6))(e7:Sc s6=(lm,s7)):
 s.choose ai=({ kind:=6,table:=tb,join:=jn,on:=on,items:=l,bT:=wh,group:=gr,order:=od,desc:=ds,gX:=lm },s7):=by
 have g1:(let st:=s.is (au [42]);if st.1 then([],st.2)else fZ ai (st.2.ws.length+1) [] st.2)=(l,s1):=by
  rw[<-e1];unfold L9;rcases s.is (au [42])with ⟨t,q⟩
  cases t<;>rfl
 have g3:(let j:=s2.is (au [106,111,105,110]);if j.1 then(let a:=j.2.name ai;let p:=a.2.bP [(au [111,110])];let e:=p.expr ai;((a.1,e.1),e.2))else((b0,[]),j.2))=((jn,on),s3):=by
  rw[<-e3];unfold Jy;rcases s2.is (au [106,111,105,110])with ⟨t,q⟩
  cases t<;>rfl
 have g5:(let g:=s4.is (au [103,114,111,117,112]);if g.1 then(g.2.bP [(au [98,121])]).column ai else(b0,g.2))=(gr,s5):=by
  rw[<-e5];unfold NU;rcases s4.is (au [103,114,111,117,112])with ⟨t,q⟩
  cases t<;>rfl
 have g6:(let o:=s5.is (au [111,114,100,101,114]);if o.1 then(let c:=(o.2.bP [(au [98,121])]).column ai;let d:=c.2.is (au [100,101,115,99]);((c.1,d.1),d.2))else((b0,false),o.2))=((od,ds),s6):=by
  rw[<-e6];unfold Sd;rcases s5.is (au [111,114,100,101,114])with ⟨t,q⟩
  cases t<;>rfl
 have g7:(let li:=s6.is (au [108,105,109,105,116]);if li.1 then(match li.2.ws with
  |w::r=>if w.k=2 then(w.n,({ li.2 with ws:=r }:PS))else((-1:Int),li.2.fail 6)
  | []=>(-1,li.2))else(-1,li.2))=(lm,s7):=by
  rw[<-e7];unfold Sc;rcases s6.is (au [108,105,109,105,116])with ⟨t,q⟩
  cases t<;>rfl
 have e2:(s1.bP [(au [102,114,111,109])]).name ai=(tb,s2):=e2;have fin:∀X:Int×PS,X=(lm,s7)->(({ kind:=6,table:=tb,join:=jn,on:=on,items:=l,bT:=wh,group:=gr,order:=od,desc:=ds,gX:=X.1 }:aA),X.2)=({ kind:=6,table:=tb,join:=jn,on:=on,items:=l,bT:=wh,group:=gr,order:=od,desc:=ds,gX:=lm },s7):=by rintro _ rfl;rfl
 unfold PS.choose;simp only[]at g1 g3 g5 g6 g7 |-;simp only[g1,e2,g3,e4,g5,g6];exact fin _ g7
theorem Vl{s:PS}{q:PS}(e:s.is (au [42])=(false,q)):L9 s=fZ ai (q.ws.length+1) [] q:=by unfold L9;rw[e]
def CI1(s:PS)(pb:Nat)(h:ad)(g:Option Addr×Nat×Nat)(h':ad):Prop:=∃l s1,L9 s=(l,s1)/\Sl 276 bV h' (.slice g.1 g.2.1 g.2.2) l/\PT h' pb s1/\lF pb h h'/\s1.ws.length<=s.ws.length
abbrev Zo:=(Option Addr×Nat×Nat)×ByteArray×ByteArray×Option Addr×Nat×Nat
def CI2(s:PS)(pb:Nat)(h:ad)(g:Zo)(h':ad):Prop:=∃l s1 s2 on s3,L9 s=(l,s1)/\L8 s1=(g.2.1,s2)/\Jy s2=((g.2.2.1,on),s3)/\Sl 276 bV h' (.slice g.1.1 g.1.2.1 g.1.2.2) l/\Sl 325 cP h' (.slice g.2.2.2.1 g.2.2.2.2.1 g.2.2.2.2.2) on/\PT h' pb s3/\lF pb h h'/\s3.ws.length<=s.ws.length
abbrev Zn:=Zo×(Option Addr×Nat×Nat)×ByteArray
def CI3(s:PS)(pb:Nat)(h:ad)(g:Zn)(h':ad):Prop:=∃l s1 s2 on s3 wh s4 s5,L9 s=(l,s1)/\L8 s1=(g.1.2.1,s2)/\Jy s2=((g.1.2.2.1,on),s3)/\s3.bT ai=(wh,s4)/\NU s4=(g.2.2,s5)/\Sl 276 bV h' (.slice g.1.1.1 g.1.1.2.1 g.1.1.2.2) l/\Sl 325 cP h' (.slice g.1.2.2.2.1 g.1.2.2.2.2.1 g.1.2.2.2.2.2) on/\Sl 325 cP h' (.slice g.2.1.1 g.2.1.2.1 g.2.1.2.2) wh/\PT h' pb s5/\lF pb h h'/\s5.ws.length<=s.ws.length
abbrev K13:=Zn×ByteArray×Bool
def CI4(s:PS)(pb:Nat)(h:ad)(g:K13)(h':ad):Prop:=∃l s1 s2 on s3 wh s4 s5 s6,L9 s=(l,s1)/\L8 s1=(g.1.1.2.1,s2)/\Jy s2=((g.1.1.2.2.1,on),s3)/\s3.bT ai=(wh,s4)/\NU s4=(g.1.2.2,s5)/\Sd s5=((g.2.1,g.2.2),s6)/\Sl 276 bV h' (.slice g.1.1.1.1 g.1.1.1.2.1 g.1.1.1.2.2) l/\Sl 325 cP h' (.slice g.1.1.2.2.2.1 g.1.1.2.2.2.2.1 g.1.1.2.2.2.2.2) on/\Sl 325 cP h' (.slice g.1.2.1.1 g.1.2.1.2.1 g.1.2.1.2.2) wh/\PT h' pb s6/\lF pb h h'/\s6.ws.length<=s.ws.length
theorem L7{h:ad}{pb:Nat}{s:PS}(hp:PT h pb s){k:Value->ad->Prop}
 (hk:∀h' st s' v,s.choose ai=(st,s')->PT h' pb s'->lF pb h h'->N0 h' v st->s'.ws.length<=s.ws.length->k v h'):
 Ct 127 [.pointer (some ⟨pb,0,none⟩)] h k:=by
 obtain⟨A,hA⟩:=Ar.ex;obtain⟨C1,NJ⟩:∃C:Option Addr×Nat×Nat->ad->Prop,∀g h',C g h'=CI1 s pb h g h':=⟨_,fun _ _=>rfl⟩;obtain⟨C2,NI⟩:∃C:Zo->ad->Prop,∀g h',C g h'=CI2 s pb h g h':=⟨_,fun _ _=>rfl⟩;obtain⟨C3,Jr⟩:∃C:Zn->ad->Prop,∀g h',C g h'=CI3 s pb h g h':=⟨_,fun _ _=>rfl⟩;obtain⟨C4,EX⟩:∃C:K13->ad->Prop,∀g h',C g h'=CI4 s pb h g h':=⟨_,fun _ _=>rfl⟩;refine wz A [false,false,true,false,false,true,false,true,true] (ar XB.aw XB.aZ) Tryz.func127 rfl (by kernel_rfl) ?_;cbv;refine Aq.go (G:=Option Addr×Nat×Nat) (fun _=>[]) (fun g=>[(3,[.int .i64 6,.string ⟨#[]⟩,.slice none 0 0,.int .i64 0,.bool false,.string ⟨#[]⟩,.string ⟨#[]⟩,.slice none 0 0,.slice none 0 0,.slice none 0 0,.slice g.1 g.2.1 g.2.2,.slice none 0 0,.string ⟨#[]⟩,.string ⟨#[]⟩,.bool false,.int .i64 (-1),.string ⟨#[]⟩]),(2,[.int .i64 0,.string ⟨#[]⟩,.slice none 0 0,.int .i64 0,.bool false,.string ⟨#[]⟩,.string ⟨#[]⟩,.slice none 0 0,.slice none 0 0,.slice none 0 0,.slice none 0 0,.slice none 0 0,.string ⟨#[]⟩,.string ⟨#[]⟩,.bool false,.int .i64 0,.string ⟨#[]⟩])]) C1 ?_ ?_
 ·cbv;refine tP hp (au [42]) (fun h1 t s1 e1 p1 l1 dU gC=>?_);have uV:A .not t= !t:=by rw[hA.not]
  cases t with
  |true=>
   have dU:=dU rfl;have hC:C1 (none,0,0) h1:=by rw[NJ];exact⟨[],s1,by unfold L9;rw[e1],Sl.nil,p1,l1,by omega⟩
   clear NJ NI Jr EX;cbv;rw[uV];cbv;refine⟨(_,_,_),⟨?_,?_,?_⟩,hC⟩
   ·cbv
   ·cbv
   ·cbv
  |false=>
   obtain⟨eL,dO⟩:=gC rfl;have hch:=Vl e1;subst eL dO;obtain⟨R,hR⟩:∃R,fZ ai (s1.ws.length+1) [] s1=R:=⟨_,rfl⟩;rw[hR]at hch;obtain⟨I,bm⟩:∃I:Nat->Int×(Option Addr×Nat×Nat)->ad->Prop,∀m g h',I m g h'=∃kk la s5 fu,aO g.1 kk/\cS 276 bV (Sx.cQ h1 pb) h' (.slice g.2.1 g.2.2.1 g.2.2.2) la/\la.length<=6/\PT h' pb s5/\lF pb h1 h'/\s5.ws.length<=s1.ws.length/\s5.ws.length<=fu/\kk<=10+la.length/\
    ((kk=0/\la=[]/\s5=s1/\fZ ai (fu+1) [] s5=R/\m=s5.ws.length+1)\/(kk≠0/\(match s5.more la.length with
      | (true,p)=>fZ ai fu la p
      | (false,p)=>(la,p))=R/\m=s5.ws.length)):=⟨_,fun _ _ _=>rfl⟩
   have hJ:I (s1.ws.length+1) (0,(none,0,0)) h1:=by rw[bm];exact⟨0,[],s1,s1.ws.length,⟨rfl⟩,cS.nil,by decide,p1,lF.refl _ _,Nat.le_refl _,Nat.le_refl _,Nat.zero_le _,.inl ⟨rfl,rfl,rfl,hR,rfl⟩⟩
   clear hR NI Jr EX l1;have NJ:∀g h',CI1 s1 pb h1 g h'->C1 g h':=fun g h' q=>by rw[NJ];exact q
   cbv;rw[uV];cbv;refine aX.go (G:=Int×(Option Addr×Nat×Nat)) (fun g=>[(4,.v (.int .i64 g.1))]) (fun g=>[(3,[.int .i64 6,.string ⟨#[]⟩,.slice none 0 0,.int .i64 0,.bool false,.string ⟨#[]⟩,.string ⟨#[]⟩,.slice none 0 0,.slice none 0 0,.slice none 0 0,.slice g.2.1 g.2.2.1 g.2.2.2,.slice none 0 0,.string ⟨#[]⟩,.string ⟨#[]⟩,.bool false,.int .i64 (-1),.string ⟨#[]⟩]),(2,[.int .i64 0,.string ⟨#[]⟩,.slice none 0 0,.int .i64 0,.bool false,.string ⟨#[]⟩,.string ⟨#[]⟩,.slice none 0 0,.slice none 0 0,.slice none 0 0,.slice none 0 0,.slice none 0 0,.string ⟨#[]⟩,.string ⟨#[]⟩,.bool false,.int .i64 0,.string ⟨#[]⟩])]) (fun m g h'=>I m g h') (s1.ws.length+1) (0,(none,0,0)) ⟨?_,?_,?_⟩ hJ ?_
   ·cbv
   ·cbv
   ·cbv
   ·intro m g h9 hI;rw[bm]at hI;cbv;obtain⟨kk,la,s9,fu,hz,ba,PX,p9,l9,w9,P7,Bp,dk⟩:=hI;obtain⟨z,ab,an,ac⟩:=g;have hz:aO z kk:=hz;have ba:cS 276 bV (Sx.cQ h1 pb) h9 (.slice ab an ac) la:=ba;have Jq:=ba.sl.len;have f1:A .aD .eql z 0=decide (kk=0):=by have:=hz.eq;rw[av A,decide_eq_decide];omega
    have dS:=hz.succ (A:=A) (by omega);rw[f1];rcases dk with ⟨rfl,rfl,rfl,he,K6⟩ | ⟨Jk,he,K6⟩
    ·obtain⟨la,Jh⟩:∃l:List dq,l=[]:=⟨_,rfl⟩;obtain⟨kk,HB⟩:∃l:Nat,l=0:=⟨_,rfl⟩;have hdk:decide ((0:Nat)=0)=true:=rfl;rw[<-Jh]at ba he Jq PX;rw[<-Jh]at Bp;have YE:la.length<6:=by rw[Jh];show 0<6;decide
     rw[<-HB]at dS;rw[hdk];cbv;refine M5 p9 (fun Qo eb en ec iv Ds QY Zp OJ DO q20 w20=>?_);have uL:=ba.mono (p9.lt DO (tys:=276::bV.tys) (by decide));cbv;intro Gy Bu Qu H8;have xG:Le Qo Bu:=by rw[H8];exact Le.set Qu
     have f21:=(congrFun H8 Gy).trans ah;have Fl:Sl 276 bV Bu (.slice (some ⟨Gy,0,none⟩) 1 1) [iv]:=bX (s:=bV) f21 ⟨_,_,_,rfl,q20.mono (xG.t _)⟩;have A5:Le (Sx.cQ h1 pb) Bu:=(l9.trans DO).trans xG.M3;cbv;refine(uL.mono (xG.t _)).append Fl (by decide) rfl (by decide) (by omega) A5 (fun OZ Re Ra LB QU A4 t22 Pb uK=>?_);have Gh:=OJ.of ((xG.t _).trans (t22 _ (by decide)));have A4:lF pb h1 LB:=A4;have aV:fZ ai (fu+1) la s9=match Ds.more (la++[iv]).length with
      | (true,p)=>fZ ai fu (la++[iv]) p
      | (false,p)=>(la++[iv],p):=by
      rw[fZ];simp only[QY];rfl
     have Ql:I Ds.ws.length (A .bu .add .i64 z 1,(Re,OZ,Ra)) LB:=by rw[bm];exact⟨kk+1,la++[iv],Ds,fu,dS,uK,by rw[List.length_append,List.length_singleton];omega,Gh,A4,by omega,by omega,by rw[List.length_append,List.length_singleton];omega,.inr ⟨by omega,aV.symm.trans he,rfl⟩⟩
     have aG:Ds.ws.length<m:=by omega
     clear bm hJ he uL uK Fl f21 t22 Pb aV;cbv;refine⟨Ds.ws.length,(_,_,_,_),aG,⟨?_,?_,?_⟩,Ql⟩
     ·cbv
     ·cbv
     ·cbv
    ·rw[decide_eq_false Jk];have DW:aO (A .nat an) la.length:=by rw[<-Jq];exact aO.nat an
     cbv;refine GB p9 DW (fun lz t th kW pd lS I7 yY=>?_);rw[kW]at he;have ba:=ba.mono (p9.lt lS (tys:=276::bV.tys) (by decide));have l9:=l9.trans lS;cases t with
     |true=>
      obtain⟨yY,YE⟩:=yY rfl;replace he:fZ ai fu la th=R:=he;obtain⟨fu,rfl⟩:∃zM,fu=zM+1:=⟨fu-1,by omega⟩;cbv;refine M5 pd (fun Qo eb en ec iv Ds QY Zp OJ DO q20 w20=>?_);have uL:=ba.mono (pd.lt DO (tys:=276::bV.tys) (by decide));cbv;intro Gy Bu Qu H8;have xG:Le Qo Bu:=by rw[H8];exact Le.set Qu
      have f21:=(congrFun H8 Gy).trans ah;have Fl:Sl 276 bV Bu (.slice (some ⟨Gy,0,none⟩) 1 1) [iv]:=bX (s:=bV) f21 ⟨_,_,_,rfl,q20.mono (xG.t _)⟩;have A5:Le (Sx.cQ h1 pb) Bu:=(l9.trans DO).trans xG.M3;cbv;refine(uL.mono (xG.t _)).append Fl (by decide) rfl (by decide) (by omega) A5 (fun OZ Re Ra LB QU A4 t22 Pb uK=>?_);have Gh:=OJ.of ((xG.t _).trans (t22 _ (by decide)));have A4:lF pb h1 LB:=A4;have aV:fZ ai (fu+1) la th=match Ds.more (la++[iv]).length with
       | (true,p)=>fZ ai fu (la++[iv]) p
       | (false,p)=>(la++[iv],p):=by
       rw[fZ];simp only[QY];rfl
      have Ql:I Ds.ws.length (A .bu .add .i64 z 1,(Re,OZ,Ra)) LB:=by rw[bm];exact⟨kk+1,la++[iv],Ds,fu,dS,uK,by rw[List.length_append,List.length_singleton];omega,Gh,A4,by omega,by omega,by rw[List.length_append,List.length_singleton];omega,.inr ⟨by omega,aV.symm.trans he,rfl⟩⟩
      have aG:Ds.ws.length<m:=by omega
      clear bm hJ he uL uK Fl f21 t22 Pb aV;cbv;refine⟨Ds.ws.length,(_,_,_,_),aG,⟨?_,?_,?_⟩,Ql⟩
      ·cbv
      ·cbv
      ·cbv
     |false=>
      replace he:(la,th)=R:=he;subst he;have hC:=NJ (ab,an,ac) lz ⟨la,th,hch,ba.sl,pd,l9,by omega⟩;clear bm hJ NJ;cbv;refine⟨(_,_,_),⟨?_,?_,?_⟩,hC⟩
      ·cbv
      ·cbv
      ·cbv
 ·intro g h1 hC;rw[NJ]at hC;obtain⟨l,s1,q1,ql,p1,l1,w1⟩:=hC;obtain⟨ib,Ba,ic⟩:=g;have ql:Sl 276 bV h1 (.slice ib Ba ic) l:=ql;clear NJ;cbv;intro n2 h2 g2 e2;refine gU p1 g2 [(au [102,114,111,109])] e2 rfl (by decide) (fun h3 s3 e3 p3 l3 w3=>?_);cbv;refine oz p3 (fun h4 tb s4 e4 p4 l4 w4 z4=>?_);have q2:L8 s1=(tb,s4):=by unfold L8;rw[e3,e4]
  have Ox:=ql.mono (p1.lt (l3.trans l4) (tys:=276::bV.tys) (by decide));have rD:=(l1.trans l3).trans l4;have Sj:s4.ws.length<=s.ws.length:=by omega
  clear ql;cbv;refine Aq.go (G:=Zo) (fun _=>[]) (fun g=>[(3,[.int .i64 6,.string ⟨#[]⟩,.slice none 0 0,.int .i64 0,.bool false,.string g.2.1,.string g.2.2.1,.slice g.2.2.2.1 g.2.2.2.2.1 g.2.2.2.2.2,.slice none 0 0,.slice none 0 0,.slice g.1.1 g.1.2.1 g.1.2.2,.slice none 0 0,.string ⟨#[]⟩,.string ⟨#[]⟩,.bool false,.int .i64 (-1),.string ⟨#[]⟩]),(2,[.int .i64 0,.string ⟨#[]⟩,.slice none 0 0,.int .i64 0,.bool false,.string ⟨#[]⟩,.string ⟨#[]⟩,.slice none 0 0,.slice none 0 0,.slice none 0 0,.slice none 0 0,.slice none 0 0,.string ⟨#[]⟩,.string ⟨#[]⟩,.bool false,.int .i64 0,.string ⟨#[]⟩])]) C2 ?_ ?_
  ·cbv;refine tP p4 (au [106,111,105,110]) (fun h5 t s5 e5 p5 l5 yX sm5=>?_);cases t with
   |false=>
    obtain⟨rfl,rfl⟩:=sm5 rfl;have hC:C2 ((ib,Ba,ic),tb,⟨#[]⟩,none,0,0) h5:=by rw[NI];exact⟨l,s1,s5,[],s5,q1,q2,by unfold Jy;rw[e5];rfl,Ox,Sl.nil,p5,rD,Sj⟩
    clear NI Jr EX;cbv;refine⟨((_,_,_),_,_,_,_,_),⟨?_,?_,?_⟩,hC⟩
    ·cbv
    ·cbv
    ·cbv
   |true=>
    have yX:=yX rfl;have ql5:=Ox.mono (p4.lt l5 (tys:=276::bV.tys) (by decide));cbv;refine oz p5 (fun h6 jn s6 e6 p6 l6 w6 z6=>?_);have ql6:=ql5.mono (p5.lt l6 (tys:=276::bV.tys) (by decide));cbv;intro n7 h7 g7 e7;refine gU p6 g7 [(au [111,110])] e7 rfl (by decide) (fun h8 s8 e8 p8 l8 w8=>?_);have ql8:=ql6.mono (p6.lt l8 (tys:=276::bV.tys) (by decide));cbv;refine uu p8 (fun h9 ob on oc ov s9 e9 z9 p9 l9 qo w9=>?_);have ql9:=ql8.mono (p8.lt l9 (tys:=276::bV.tys) (by decide));have hC:C2 ((ib,Ba,ic),tb,jn,ob,on,oc) h9:=by rw[NI];exact⟨l,s1,s4,ov,s9,q1,q2,by unfold Jy;rw[e5];simp only[e6,e8,e9],ql9,qo,p9,(((rD.trans l5).trans l6).trans l8).trans l9,by omega⟩
    clear NI Jr EX;cbv;refine⟨((_,_,_),_,_,_,_,_),⟨?_,?_,?_⟩,hC⟩
    ·cbv
    ·cbv
    ·cbv
  ·intro g h5 hC;clear Ox p4 rD Sj q1 q2 e2 e3 e4 p3 l3 l4 w3 w4 z4 p1 l1 w1;rw[NI]at hC;obtain⟨l,s1,s2,on,s3,q1,q2,q3,ql,qo,p3,l3,w3⟩:=hC;obtain⟨⟨ib,Ba,ic⟩,tb,jn,ob,Gm,oc⟩:=g;have ql:Sl 276 bV h5 (.slice ib Ba ic) l:=ql;have qo:Sl 325 cP h5 (.slice ob Gm oc) on:=qo;have q2:L8 s1=(tb,s2):=q2;have q3:Jy s2=((jn,on),s3):=q3;clear NI;cbv;refine AB p3 (fun h6 wb wn wc wh s4 e4 z4 p4 l4 qw w4=>?_);have Ox:=ql.mono (p3.lt l4 (tys:=276::bV.tys) (by decide));have EI:=qo.mono (p3.lt l4 (tys:=325::cP.tys) (by decide));have rD:=l3.trans l4;have Sj:s4.ws.length<=s.ws.length:=by omega
   clear ql qo;cbv;refine Aq.go (G:=Zn) (fun _=>[]) (fun g=>[(3,[.int .i64 6,.string ⟨#[]⟩,.slice none 0 0,.int .i64 0,.bool false,.string g.1.2.1,.string g.1.2.2.1,.slice g.1.2.2.2.1 g.1.2.2.2.2.1 g.1.2.2.2.2.2,.slice none 0 0,.slice none 0 0,.slice g.1.1.1 g.1.1.2.1 g.1.1.2.2,.slice g.2.1.1 g.2.1.2.1 g.2.1.2.2,.string g.2.2,.string ⟨#[]⟩,.bool false,.int .i64 (-1),.string ⟨#[]⟩]),(2,[.int .i64 0,.string ⟨#[]⟩,.slice none 0 0,.int .i64 0,.bool false,.string ⟨#[]⟩,.string ⟨#[]⟩,.slice none 0 0,.slice none 0 0,.slice none 0 0,.slice none 0 0,.slice none 0 0,.string ⟨#[]⟩,.string ⟨#[]⟩,.bool false,.int .i64 0,.string ⟨#[]⟩])]) C3 ?_ ?_
   ·cbv;refine tP p4 (au [103,114,111,117,112]) (fun h7 t s5 e5 p5 l5 yX sm5=>?_);cases t with
    |false=>
     obtain⟨rfl,rfl⟩:=sm5 rfl;have hC:C3 (((ib,Ba,ic),tb,jn,ob,Gm,oc),(wb,wn,wc),⟨#[]⟩) h7:=by rw[Jr];exact⟨l,s1,s2,on,s3,wh,s5,s5,q1,q2,q3,e4,by unfold NU;rw[e5];rfl,Ox,EI,qw,p5,rD,Sj⟩
     clear Jr EX;cbv;refine⟨(((_,_,_),_,_,_,_,_),(_,_,_),_),⟨?_,?_,?_⟩,hC⟩
     ·cbv
     ·cbv
     ·cbv
    |true=>
     have yX:=yX rfl;cbv;intro n8 h8 g8 e8;refine gU p5 g8 [(au [98,121])] e8 rfl (by decide) (fun h9 s9 e9 p9 l9 w9=>?_);cbv;refine CN p9 (fun lz gr th kW pd lS I7 z10=>?_);have lx:=(l5.trans l9).trans lS;have hC:C3 (((ib,Ba,ic),tb,jn,ob,Gm,oc),(wb,wn,wc),gr) lz:=by rw[Jr];exact⟨l,s1,s2,on,s3,wh,s4,th,q1,q2,q3,e4,by unfold NU;rw[e5];simp only[e9,kW],Ox.mono (p4.lt lx (tys:=276::bV.tys) (by decide)),EI.mono (p4.lt lx (tys:=325::cP.tys) (by decide)),qw.mono (p4.lt lx (tys:=325::cP.tys) (by decide)),pd,rD.trans lx,by omega⟩
     clear Jr EX;cbv;refine⟨(((_,_,_),_,_,_,_,_),(_,_,_),_),⟨?_,?_,?_⟩,hC⟩
     ·cbv
     ·cbv
     ·cbv
   ·intro g h7 hC;clear Ox EI qw p4 rD Sj q1 q2 q3 e4 l4 w4 z4 p3 l3 w3;rw[Jr]at hC;obtain⟨l,s1,s2,on,s3,wh,s4,s5,q1,q2,q3,q4,q5,ql,qo,qw,p5,l5,w5⟩:=hC;obtain⟨⟨⟨ib,Ba,ic⟩,tb,jn,ob,Gm,oc⟩,⟨wb,wn,wc⟩,gr⟩:=g;have ql:Sl 276 bV h7 (.slice ib Ba ic) l:=ql;have qo:Sl 325 cP h7 (.slice ob Gm oc) on:=qo;have qw:Sl 325 cP h7 (.slice wb wn wc) wh:=qw;have q2:L8 s1=(tb,s2):=q2;have q3:Jy s2=((jn,on),s3):=q3;have q5:NU s4=(gr,s5):=q5;clear Jr;cbv;refine Aq.go (G:=K13) (fun _=>[]) (fun g=>[(3,[.int .i64 6,.string ⟨#[]⟩,.slice none 0 0,.int .i64 0,.bool false,.string g.1.1.2.1,.string g.1.1.2.2.1,.slice g.1.1.2.2.2.1 g.1.1.2.2.2.2.1 g.1.1.2.2.2.2.2,.slice none 0 0,.slice none 0 0,.slice g.1.1.1.1 g.1.1.1.2.1 g.1.1.1.2.2,.slice g.1.2.1.1 g.1.2.1.2.1 g.1.2.1.2.2,.string g.1.2.2,.string g.2.1,.bool g.2.2,.int .i64 (-1),.string ⟨#[]⟩]),(2,[.int .i64 0,.string ⟨#[]⟩,.slice none 0 0,.int .i64 0,.bool false,.string ⟨#[]⟩,.string ⟨#[]⟩,.slice none 0 0,.slice none 0 0,.slice none 0 0,.slice none 0 0,.slice none 0 0,.string ⟨#[]⟩,.string ⟨#[]⟩,.bool false,.int .i64 0,.string ⟨#[]⟩])]) C4 ?_ ?_
    ·cbv;refine tP p5 (au [111,114,100,101,114]) (fun h8 t s6 e6 p6 l6 Kr sm6=>?_);cases t with
     |false=>
      obtain⟨rfl,rfl⟩:=sm6 rfl;have hC:C4 ((((ib,Ba,ic),tb,jn,ob,Gm,oc),(wb,wn,wc),gr),⟨#[]⟩,false) h8:=by rw[EX];exact⟨l,s1,s2,on,s3,wh,s4,s6,s6,q1,q2,q3,q4,q5,by unfold Sd;rw[e6];rfl,ql,qo,qw,p6,l5,w5⟩
      clear EX;cbv;refine⟨((((_,_,_),_,_,_,_,_),(_,_,_),_),_,_),⟨?_,?_,?_⟩,hC⟩
      ·cbv
      ·cbv
      ·cbv
     |true=>
      have Kr:=Kr rfl;cbv;intro n9 h9 g9 e9;refine gU p6 g9 [(au [98,121])] e9 rfl (by decide) (fun lz th kW pd lS I7=>?_);cbv;refine CN pd (fun Ed od Dt sf SK wj w11 z11=>?_);cbv;refine tP SK (au [100,101,115,99]) (fun vq ds MN vu p12 fO lt12 sm12=>?_);have lx:=((l6.trans lS).trans wj).trans fO;have w12:MN.ws.length<=Dt.ws.length:=by
       cases ds with
       |true=>exact Nat.le_of_lt (lt12 rfl)
       |false=>rw[(sm12 rfl).1];exact Nat.le_refl _
      have hC:C4 ((((ib,Ba,ic),tb,jn,ob,Gm,oc),(wb,wn,wc),gr),od,ds) vq:=by rw[EX];exact⟨l,s1,s2,on,s3,wh,s4,s5,MN,q1,q2,q3,q4,q5,by unfold Sd;rw[e6];simp only[kW,sf,vu],ql.mono (p5.lt lx (tys:=276::bV.tys) (by decide)),qo.mono (p5.lt lx (tys:=325::cP.tys) (by decide)),qw.mono (p5.lt lx (tys:=325::cP.tys) (by decide)),p12,l5.trans lx,by omega⟩
      clear EX;cbv;refine⟨((((_,_,_),_,_,_,_,_),(_,_,_),_),_,_),⟨?_,?_,?_⟩,hC⟩
      ·cbv
      ·cbv
      ·cbv
    ·intro g h8 hC;clear ql qo qw p5 l5 w5 q1 q2 q3 q4 q5;rw[EX]at hC;obtain⟨l,s1,s2,on,s3,wh,s4,s5,s6,q1,q2,q3,q4,q5,q6,ql,qo,qw,p6,l6,w6⟩:=hC;obtain⟨⟨⟨⟨ib,Ba,ic⟩,tb,jn,ob,Gm,oc⟩,⟨wb,wn,wc⟩,gr⟩,od,ds⟩:=g;have ql:Sl 276 bV h8 (.slice ib Ba ic) l:=ql;have qo:Sl 325 cP h8 (.slice ob Gm oc) on:=qo;have qw:Sl 325 cP h8 (.slice wb wn wc) wh:=qw;have q2:L8 s1=(tb,s2):=q2;have q3:Jy s2=((jn,on),s3):=q3;have q5:NU s4=(gr,s5):=q5;have q6:Sd s5=((od,ds),s6):=q6;clear EX;have ae:∀h' lm s7,Sc s6=(lm,s7)->PT h' pb s7->lF pb h8 h'->s7.ws.length<=s6.ws.length->k (stV 6 ⟨#[]⟩ none 0 0 0 false tb jn ob Gm oc none 0 0 none 0 0 ib Ba ic wb wn wc gr od ds lm ⟨#[]⟩) h':=fun h' lm s7 e p l w=>
      hk h' _ s7 _ (Et q1 q2 q3 q4 q5 q6 e) p (l6.trans l) ⟨none,0,0,ob,Gm,oc,none,0,0,none,0,0,ib,Ba,ic,wb,wn,wc,rfl,Sl.nil,qo.mono (p6.lt l (tys:=325::cP.tys) (by decide)),Sl.nil,Sl.nil,ql.mono (p6.lt l (tys:=276::bV.tys) (by decide)),qw.mono (p6.lt l (tys:=325::cP.tys) (by decide))⟩ (by omega)
     clear hk ql qo qw;cbv;refine tP p6 (au [108,105,109,105,116]) (fun h9 t s7 e7 p7 l7 RB sm7=>?_);cases t with
     |false=>have ae:=ae h9 (-1) s7 (by unfold Sc;rw[e7]) p7 l7 (by rw[(sm7 rfl).1];exact Nat.le_refl _);cbv;exact ae
     |true=>
      have RB:=RB rfl;refine p7.out.elim (fun X4 wn2 wc2 BG en2 ec2 at_ i all w r g qw2 hz hw mw hr hi KU qe=>?_);have cT:X4.isSome=true/\0<=at_/\at_<(wn2:Int):=⟨qw2.bF (by omega),hz.ix hi⟩;have ir:=hz.eq;have dS:=hz.succ (A:=A) (by omega);obtain⟨wk,wN,wS⟩:=w;have f1:A .aD .neq wk 2=decide (wk≠2):=aC A ..;have h7:Sc s6=if wk=2 then(wN,({ s7 with ws:=r }:PS))else(-1,s7.fail 6):=by unfold Sc;rw[e7];simp only[mw]
      clear qe;cbv;rw[aj A];refine ay g rfl rfl ?_;cbv;rw[aj A];refine ay g rfl rfl ?_;cbv;refine⟨cT,?_⟩;cbv;refine qw2.load hw ir (fun cs aF=>?_);have aF:cs=[.int .i64 wk,.int .i64 wN,.string wS]:=aF;subst aF;cbv;rw[f1];by_cases ni:wk=2
      ·rw[if_pos ni]at h7;rw[decide_eq_false (by simpa using ni)];cbv;rw[aj A];refine ay g rfl rfl ?_;cbv;rw[aj A];refine kP g (by simp) (fun lz kW=>?_);have pd:=p7.out.step mw (by show wk≠0;omega) g hz dS kW;have ae:=ae lz wN _ h7 pd.pt (l7.trans (show lF pb h9 lz from pd.le)) (by have:=congrArg List.length mw;rw[List.length_cons]at this;show r.length<=_;omega);cbv;exact ae
      ·rw[if_neg ni]at h7;rw[decide_eq_true ni];cbv;refine CH p7 6 (fun lz pd lS=>?_);have ae:=ae lz (-1) _ h7 pd (l7.trans lS) (by rw[PS.pV];omega);cbv;exact ae
theorem Ca{a b:By}(h:au a=au b):a=b:=by have h1:=congrArg (fun s:ByteArray=>s.data.toList) h;simpa[au]using h1
theorem Sm(c:UInt8)(n:Nat)(hn:n<256):decide (au [c]=au [UInt8.ofNat n])=decide (c.toNat=n):=by
 rw[decide_eq_decide];constructor
 ·intro h;have h1:=Ca h;simp only[List.cons.injEq,and_true]at h1;rw[h1,UInt8.toNat_ofNat'];omega
 ·intro h;have:c=UInt8.ofNat n:=by apply UInt8.toNat_inj.1;rw[h,UInt8.toNat_ofNat'];omega
  rw[this]
theorem AI(c d:UInt8)(n m:Nat)(hn:n<256)(hm:m<256):decide (au [c,d]=au [UInt8.ofNat n,UInt8.ofNat m])=(decide (c.toNat=n)&&decide (d.toNat=m)):=by
 have e:∀(x:UInt8) (k:Nat),k<256->(x=UInt8.ofNat k↔x.toNat=k):=fun x k hk=>by
  constructor
  ·intro h;rw[h,UInt8.toNat_ofNat'];omega
  ·intro h;apply UInt8.toNat_inj.1;rw[h,UInt8.toNat_ofNat'];omega
 rw[<-Bool.decide_and,decide_eq_decide];constructor
 ·intro h;have h1:=Ca h;simp only[List.cons.injEq,and_true]at h1;exact⟨(e c n hn).1 h1.1,(e d m hm).1 h1.2⟩
 ·rintro⟨h1,h2⟩;rw[(e c n hn).2 h1,(e d m hm).2 h2]
theorem JZ{s:ByteArray}(hs:s.size<=600){i:Nat}{c:UInt8}{r:By}(q:oD s i (c::r)){z:Int}(hz:aO z i){h:ad}{k:Value->ad->Prop}
 (hk:k (.string (au ((c::r).take (fL (c::r))))) h):
 Ct 215 [.string s,.int .i64 z] h k:=by
 obtain⟨A,hA⟩:=Ar.ex;have pN:aO (A .gD s) s.size:=⟨by rw[hA.gD]⟩;have hl:=q.len;rw[List.length_cons]at hl;obtain⟨z1,mC⟩:∃z1,A .bu .add .i64 z 1=z1:=⟨_,rfl⟩;have nh:aO z1 (i+1):=by rw[<-mC];exact hz.succ (A:=A) (by omega)
 have f1:A .aD .lss z1 (A .gD s)=decide (i+1<s.size):=nh.gK pN;have Hq:A .sub s z z1=au [c]:=q.sub hz (n:=1) nh;have vm:0<=z1/\z1<=(s.size:Int)/\0<=z/\z<=z1:=by have h1:=nh.eq;have h2:=hz.eq;omega
 have vh:∀n,n<256->decide (au [c]=au [UInt8.ofNat n])=decide (c.toNat=n):=fun n hn=>Sm c n hn;have g40:A .jm .eql (au [c]) ⟨#[40]⟩=decide (c.toNat=40):=by rw[bL A];exact vh 40 (by decide)
 have UU:A .jm .eql (au [c]) ⟨#[41]⟩=decide (c.toNat=41):=by rw[bL A];exact vh 41 (by decide)
 have g44:A .jm .eql (au [c]) ⟨#[44]⟩=decide (c.toNat=44):=by rw[bL A];exact vh 44 (by decide)
 have g46:A .jm .eql (au [c]) ⟨#[46]⟩=decide (c.toNat=46):=by rw[bL A];exact vh 46 (by decide)
 have g42:A .jm .eql (au [c]) ⟨#[42]⟩=decide (c.toNat=42):=by rw[bL A];exact vh 42 (by decide)
 have g61:A .jm .eql (au [c]) ⟨#[61]⟩=decide (c.toNat=61):=by rw[bL A];exact vh 61 (by decide)
 have g60:A .jm .eql (au [c]) ⟨#[60]⟩=decide (c.toNat=60):=by rw[bL A];exact vh 60 (by decide)
 have g62:A .jm .eql (au [c]) ⟨#[62]⟩=decide (c.toNat=62):=by rw[bL A];exact vh 62 (by decide)
 have g43:A .jm .eql (au [c]) ⟨#[43]⟩=decide (c.toNat=43):=by rw[bL A];exact vh 43 (by decide)
 have g45:A .jm .eql (au [c]) ⟨#[45]⟩=decide (c.toNat=45):=by rw[bL A];exact vh 45 (by decide)
 obtain⟨sb,zu⟩:∃sb,au [c]=sb:=⟨_,rfl⟩;rw[zu]at Hq g40 UU g44 g46 g42 g61 g60 g62 g43 g45;have Nc:(gP.contains c.toNat=true->k (.string sb) h)->(gP.contains c.toNat=false->k (.string ⟨#[]⟩) h)->∀(j:Unit),True:=fun _ _ _=>trivial;refine af A (ar WM.aw WM.aZ) Tryz.func215 rfl (by kernel_rfl) ?_;cbv;rw[mC,f1];cases r with
 |nil=>
  have aG:¬i+1<s.size:=by have:([]:By).length=0:=rfl;omega
  have ey:gP.contains c.toNat=true->k (.string sb) h:=fun e=>by
   have:fL [c]=1:=by show(if gP.contains c.toNat then 1 else 0)=1;rw[e];rfl
   rw[this]at hk;rw[<-zu];exact hk
  have fQ:gP.contains c.toNat=false->k (.string ⟨#[]⟩) h:=fun e=>by
   have:fL [c]=0:=by show(if gP.contains c.toNat then 1 else 0)=0;rw[e];rfl
   rw[this]at hk;exact hk
  clear hk Nc;rw[decide_eq_false aG];cbv;rw[mC];refine⟨vm,?_⟩;cbv;rw[Hq];cbv;rw[g40];by_cases zI:c.toNat=40
  ·have hf:=ey (by rw[zI];decide);rw[decide_eq_true zI];cbv;exact hf
  ·rw[decide_eq_false zI];cbv;rw[UU];by_cases LA:c.toNat=41
   ·have hf:=ey (by rw[LA];decide);rw[decide_eq_true LA];cbv;exact hf
   ·rw[decide_eq_false LA];cbv;rw[g44];by_cases Lx:c.toNat=44
    ·have hf:=ey (by rw[Lx];decide);rw[decide_eq_true Lx];cbv;exact hf
    ·rw[decide_eq_false Lx];cbv;rw[g46];by_cases Lv:c.toNat=46
     ·have hf:=ey (by rw[Lv];decide);rw[decide_eq_true Lv];cbv;exact hf
     ·rw[decide_eq_false Lv];cbv;rw[g42];by_cases Lz:c.toNat=42
      ·have hf:=ey (by rw[Lz];decide);rw[decide_eq_true Lz];cbv;exact hf
      ·rw[decide_eq_false Lz];cbv;rw[g61];by_cases Lu:c.toNat=61
       ·have hf:=ey (by rw[Lu];decide);rw[decide_eq_true Lu];cbv;exact hf
       ·rw[decide_eq_false Lu];cbv;rw[g60];by_cases oW:c.toNat=60
        ·have hf:=ey (by rw[oW];decide);rw[decide_eq_true oW];cbv;exact hf
        ·rw[decide_eq_false oW];cbv;rw[g62];by_cases Ec:c.toNat=62
         ·have hf:=ey (by rw[Ec];decide);rw[decide_eq_true Ec];cbv;exact hf
         ·rw[decide_eq_false Ec];cbv;rw[g43];by_cases Ly:c.toNat=43
          ·have hf:=ey (by rw[Ly];decide);rw[decide_eq_true Ly];cbv;exact hf
          ·rw[decide_eq_false Ly];cbv;rw[g45];by_cases Lw:c.toNat=45
           ·have hf:=ey (by rw[Lw];decide);rw[decide_eq_true Lw];cbv;exact hf
           ·rw[decide_eq_false Lw];cbv;have hf:=fQ (by unfold gP;simp only[List.contains_cons,List.contains_nil,Bool.or_false,Bool.or_eq_false_iff,beq_eq_false_iff_ne,ne_eq];exact⟨zI,LA,Lx,Lv,Lz,Lu,oW,Ec,Ly,Lw⟩);exact hf
 |cons d r'=>
  have aG:i+1<s.size:=by have:(d::r').length=r'.length+1:=rfl;omega
  obtain⟨z2,gL⟩:∃z2,A .bu .add .i64 z 2=z2:=⟨_,rfl⟩;have mK:aO z2 (i+2):=⟨by rw[<-gL,kG A _ _ (by have:=hz.eq;omega),hz.eq];omega⟩;have Nf:A .sub s z z2=au [c,d]:=q.sub hz (n:=2) mK;have oV:0<=z2/\z2<=(s.size:Int)/\0<=z/\z<=z2:=by have h1:=mK.eq;have h2:=hz.eq;have h3:(d::r').length=r'.length+1:=rfl;omega
  have t1:A .jm .eql (au [c,d]) ⟨#[60,62]⟩=(decide (c.toNat=60)&&decide (d.toNat=62)):=by rw[bL A];exact AI c d 60 62 (by decide) (by decide)
  have t2:A .jm .eql (au [c,d]) ⟨#[60,61]⟩=(decide (c.toNat=60)&&decide (d.toNat=61)):=by rw[bL A];exact AI c d 60 61 (by decide) (by decide)
  have t3:A .jm .eql (au [c,d]) ⟨#[62,61]⟩=(decide (c.toNat=62)&&decide (d.toNat=61)):=by rw[bL A];exact AI c d 62 61 (by decide) (by decide)
  have h2:vd c d=((decide (c.toNat=60)&&decide (d.toNat=62))||(decide (c.toNat=60)&&decide (d.toNat=61))||(decide (c.toNat=62)&&decide (d.toNat=61))):=rfl;have mJ:fL (c::d::r')=if vd c d then 2 else if gP.contains c.toNat then 1 else 0:=rfl
  obtain⟨s2,Je⟩:∃sb,au [c,d]=sb:=⟨_,rfl⟩;have Py:vd c d=true->k (.string s2) h:=fun e=>by
   rw[mJ,e]at hk;rw[<-Je];exact hk
  have To:vd c d=false->gP.contains c.toNat=true->k (.string sb) h:=fun e2 e=>by
   rw[mJ,e2,e]at hk;rw[<-zu];exact hk
  have hno0:vd c d=false->gP.contains c.toNat=false->k (.string ⟨#[]⟩) h:=fun e2 e=>by
   rw[mJ,e2,e]at hk;exact hk
  rw[Je]at Nf t1 t2 t3;obtain⟨u1,hu1⟩:∃u,(decide (c.toNat=60)&&decide (d.toNat=62))=u:=⟨_,rfl⟩;obtain⟨u2,KW⟩:∃u,(decide (c.toNat=60)&&decide (d.toNat=61))=u:=⟨_,rfl⟩;obtain⟨u3,Px⟩:∃u,(decide (c.toNat=62)&&decide (d.toNat=61))=u:=⟨_,rfl⟩;rw[hu1]at t1 h2;rw[KW]at t2 h2;rw[Px]at t3 h2;clear hk Nc mJ;rw[decide_eq_true aG];cbv;rw[gL];refine⟨oV,?_⟩;cbv;rw[Nf];cbv;rw[t1];cases u1 with
  |true=>have hf:=Py (by rw[h2];rfl);cbv;exact hf
  |false=>
   cbv;rw[t2];cases u2 with
   |true=>have hf:=Py (by rw[h2];rfl);cbv;exact hf
   |false=>
    cbv;rw[t3];cases u3 with
    |true=>have hf:=Py (by rw[h2];rfl);cbv;exact hf
    |false=>
     have ey:=To (by rw[h2];rfl);have fQ:=hno0 (by rw[h2];rfl);cbv;rw[mC];refine⟨vm,?_⟩;cbv;rw[Hq];cbv;rw[g40];by_cases zI:c.toNat=40
     ·have hf:=ey (by rw[zI];decide);rw[decide_eq_true zI];cbv;exact hf
     ·rw[decide_eq_false zI];cbv;rw[UU];by_cases LA:c.toNat=41
      ·have hf:=ey (by rw[LA];decide);rw[decide_eq_true LA];cbv;exact hf
      ·rw[decide_eq_false LA];cbv;rw[g44];by_cases Lx:c.toNat=44
       ·have hf:=ey (by rw[Lx];decide);rw[decide_eq_true Lx];cbv;exact hf
       ·rw[decide_eq_false Lx];cbv;rw[g46];by_cases Lv:c.toNat=46
        ·have hf:=ey (by rw[Lv];decide);rw[decide_eq_true Lv];cbv;exact hf
        ·rw[decide_eq_false Lv];cbv;rw[g42];by_cases Lz:c.toNat=42
         ·have hf:=ey (by rw[Lz];decide);rw[decide_eq_true Lz];cbv;exact hf
         ·rw[decide_eq_false Lz];cbv;rw[g61];by_cases Lu:c.toNat=61
          ·have hf:=ey (by rw[Lu];decide);rw[decide_eq_true Lu];cbv;exact hf
          ·rw[decide_eq_false Lu];cbv;rw[g60];by_cases oW:c.toNat=60
           ·have hf:=ey (by rw[oW];decide);rw[decide_eq_true oW];cbv;exact hf
           ·rw[decide_eq_false oW];cbv;rw[g62];by_cases Ec:c.toNat=62
            ·have hf:=ey (by rw[Ec];decide);rw[decide_eq_true Ec];cbv;exact hf
            ·rw[decide_eq_false Ec];cbv;rw[g43];by_cases Ly:c.toNat=43
             ·have hf:=ey (by rw[Ly];decide);rw[decide_eq_true Ly];cbv;exact hf
             ·rw[decide_eq_false Ly];cbv;rw[g45];by_cases Lw:c.toNat=45
              ·have hf:=ey (by rw[Lw];decide);rw[decide_eq_true Lw];cbv;exact hf
              ·rw[decide_eq_false Lw];cbv;have hf:=fQ (by unfold gP;simp only[List.contains_cons,List.contains_nil,Bool.or_false,Bool.or_eq_false_iff,beq_eq_false_iff_ne,ne_eq];exact⟨zI,LA,Lx,Lv,Lz,Lu,oW,Ec,Ly,Lw⟩);exact hf
theorem yO:∀(t:By) (n v:Int) (rest:By),jq t n=((v,rest),0)->rest.length<=t.length
 | [],n,v,rest,h=>by cases h;exact Nat.le_refl _
 |c::r,n,v,rest,h=>by
  have h1:(match cH c with
   |true=>if n>(9223372036854775807-((c.toNat:Int)-48)) / 10 then((0,[]),11)else jq r (10*n+((c.toNat:Int)-48))
   |false=>((n,c::r),0))=((v,rest),(0:Int)):=h
  cases hd:cH c with
  |false=>rw[hd]at h1;cases h1;exact Nat.le_refl _
  |true=>
   rw[hd]at h1;replace h1:(if n>(9223372036854775807-((c.toNat:Int)-48)) / 10 then((0,[]),11)else jq r (10*n+((c.toNat:Int)-48)))=((v,rest),(0:Int)):=h1;split at h1
   ·cases h1
   ·have:=yO r _ _ _ h1;rw[List.length_cons];omega
theorem DF{c:UInt8}{r:By}{n v:Int}{rest:By}(hd:cH c=true)(h:jq (c::r) n=((v,rest),0)):rest.length<=r.length:=by
 have h1:(match cH c with
  |true=>if n>(9223372036854775807-((c.toNat:Int)-48)) / 10 then((0,[]),11)else jq r (10*n+((c.toNat:Int)-48))
  |false=>((n,c::r),0))=((v,rest),(0:Int)):=h
 rw[hd]at h1;replace h1:(if n>(9223372036854775807-((c.toNat:Int)-48)) / 10 then((0,[]),11)else jq r (10*n+((c.toNat:Int)-48)))=((v,rest),(0:Int)):=h1;split at h1
 ·cases h1
 ·exact yO r _ _ _ h1
theorem qK:∀(m:Nat) (t acc v rest:By),t.length<=m->dL t acc=((v,rest),0)->rest.length<=t.length
 |_,[],acc,v,rest,_,h=>by cases h
 |0,c::r,acc,v,rest,hm,h=>by rw[List.length_cons]at hm;omega
 |m+1,c::r,acc,v,rest,hm,h=>by
  rw[List.length_cons]at hm |-;rw[sQ]at h;cases hc:decide (c.toNat=39)with
  |false=>rw[hc]at h;have:=qK m r _ v rest (by omega) h;omega
  |true=>
   rw[hc]at h;cases r with
   |nil=>
    replace h:(if acc.length>60 then((([]:By),([]:By)),(5:Int))else((acc,[]),0))=((v,rest),0):=h;split at h
    ·cases h
    ·cases h;exact Nat.zero_le _
   |cons d r'=>
    replace h:(match decide (d.toNat=39)with
     |true=>dL r' (acc++[39])
     |false=>if acc.length>60 then((([]:By),([]:By)),(5:Int))else((acc,d::r'),0))=((v,rest),0):=h
    rw[List.length_cons]at hm |-;cases hd:decide (d.toNat=39)with
    |true=>rw[hd]at h;have:=qK m r' _ v rest (by omega) h;omega
    |false=>
     rw[hd]at h;replace h:(if acc.length>60 then((([]:By),([]:By)),(5:Int))else((acc,d::r'),0))=((v,rest),0):=h;split at h
     ·cases h
     ·cases h;rw[List.length_cons];omega
theorem yV{c:UInt8}{r:By}(h:isLet c=true):1<=cf (c::r):=by
 show 1<=(match m0 c with|true=>cf r+1|false=>0);have:m0 c=true:=by unfold m0;rw[h];rfl
 rw[this];exact Nat.succ_le_succ (Nat.zero_le _)
theorem AQ(c:UInt8)(r:By):fL (c::r)<=(c::r).length:=by
 cases r with
 |nil=>show(if gP.contains c.toNat then 1 else 0)<=1;split<;>omega
 |cons d r'=>
  show(if vd c d then 2 else if gP.contains c.toNat then 1 else 0)<=r'.length+1+1;split
  ·omega
  ·split<;>omega
theorem Kj{s:ByteArray}(hs:s.size<=600){i:Nat}{c:UInt8}{r:By}(q:oD s i (c::r)){z:Int}(hz:aO z i){h:ad}{k:Value->ad->Prop}
 (hk:∀w z' e rest,jy c r=((w,rest),e)->(e=0->∃j,aO z' j/\oD s j rest/\rest.length<=r.length)->k (.tuple #[.agg #[.int .i64 w.k,.int .i64 w.n,.string w.s],.int .i64 z',.int .i64 e]) h):
 Ct 119 [.string s,.int .i64 z] h k:=by
 obtain⟨A,hA⟩:=Ar.ex;have hl:=q.len;rw[List.length_cons]at hl;have cT:0<=z/\z<(s.size:Int):=hz.ix (by omega);obtain⟨b,hb⟩:∃b,A .byte s z=b:=⟨_,rfl⟩;have nO:b=(c.toNat:Int):=by rw[<-hb];exact q.byte hz
 have f39:A .aD .eql b 39=decide (c.toNat=39):=by rw[av A,decide_eq_decide,nO];omega
 have dS:=hz.succ (A:=A) (by omega);have rY:jy c r=match isLet c with
  |true=>((⟨1,0,au ((c::r).take (cf (c::r)))⟩,(c::r).drop (cf (c::r))),0)
  |false=>match cH c with
   |true=>match jq (c::r) 0 with
    | (p,e)=>((⟨2,p.1,au []⟩,p.2),e)
   |false=>match decide (c.toNat=39)with
    |true=>match dL r []with
     | (p,e)=>((⟨3,0,au p.1⟩,p.2),e)
    |false=>match fL (c::r)with
     |0=>((⟨0,0,au []⟩,[]),6)
     |n+1=>((sL ((c::r).take (n+1)),(c::r).drop (n+1)),0):=rfl
 have hlp:isLet c=true->1<=cf (c::r):=yV;have hdg:∀v rest,cH c=true->jq (c::r) 0=((v,rest),0)->rest.length<=r.length:=fun v rest hd h=>DF hd h;have q1:=q.next;refine af A (ar XI.aw XI.aZ) Tryz.func119 rfl (by kernel_rfl) ?_;cbv;refine⟨cT,?_⟩;cbv;rw[hb];refine Ce nO ?_;generalize isLet c=u1 at *;cases u1 with
 |true=>
  have hlp:=hlp rfl;have hle:=tK (c::r);cbv;refine Kl hs q hz (fun z2 gL=>?_);have cW:A .sub s z z2=au ((c::r).take (cf (c::r))):=q.sub hz gL;obtain⟨sb,zu⟩:∃sb,au ((c::r).take (cf (c::r)))=sb:=⟨_,rfl⟩;rw[List.length_cons]at hle;have Bq:0<=z2/\z2<=(s.size:Int)/\0<=z/\z<=z2:=by have h1:=gL.eq;have h2:=hz.eq;omega
  have ae:=hk ⟨1,0,au ((c::r).take (cf (c::r)))⟩ z2 0 _ rY (fun _=>⟨_,gL,q.NR (by rw[List.length_cons];omega),by rw[List.length_drop,List.length_cons];omega⟩);rw[zu]at cW ae;cbv;refine⟨Bq,?_⟩;cbv;rw[cW];exact ae
 |false=>
  replace rY:jy c r=match cH c with
   |true=>match jq (c::r) 0 with
    | (p,e)=>((⟨2,p.1,au []⟩,p.2),e)
   |false=>match decide (c.toNat=39)with
    |true=>match dL r []with
     | (p,e)=>((⟨3,0,au p.1⟩,p.2),e)
    |false=>match fL (c::r)with
     |0=>((⟨0,0,au []⟩,[]),6)
     |n+1=>((sL ((c::r).take (n+1)),(c::r).drop (n+1)),0):=rY
  cbv;refine BI nO ?_;generalize cH c=u2 at *;cases u2 with
  |true=>
   replace rY:jy c r=match jq (c::r) 0 with
    | (p,e)=>((⟨2,p.1,au []⟩,p.2),e):=rY
   cbv;refine OQ hs q hz (fun v z2 e rest he gL=>?_);rw[he]at rY;have ae:=hk ⟨2,v,au []⟩ z2 e rest rY (fun h0=>by
    obtain⟨j,h1,h2⟩:=gL h0;subst h0;exact⟨j,h1,h2,hdg v rest rfl he⟩)
   cbv;exact ae
  |false=>
   replace rY:jy c r=match decide (c.toNat=39)with
    |true=>match dL r []with
     | (p,e)=>((⟨3,0,au p.1⟩,p.2),e)
    |false=>match fL (c::r)with
     |0=>((⟨0,0,au []⟩,[]),6)
     |n+1=>((sL ((c::r).take (n+1)),(c::r).drop (n+1)),0):=rY
   cbv;rw[f39];clear f39;generalize decide (c.toNat=39)=u3 at *;cases u3 with
   |true=>
    replace rY:jy c r=match dL r []with
     | (p,e)=>((⟨3,0,au p.1⟩,p.2),e):=rY
    cbv;refine JQ hs q1 dS (fun v z2 e rest he gL=>?_);rw[he]at rY;have ae:=hk ⟨3,0,au v⟩ z2 e rest rY (fun h0=>by
     obtain⟨j,h1,h2⟩:=gL h0;subst h0;exact⟨j,h1,h2,qK _ r [] v rest (Nat.le_refl _) he⟩)
    obtain⟨vb,hvb⟩:∃vb,au v=vb:=⟨_,rfl⟩;rw[hvb]at ae |-;cbv;exact ae
   |false=>
    replace rY:jy c r=match fL (c::r)with
     |0=>((⟨0,0,au []⟩,[]),6)
     |n+1=>((sL ((c::r).take (n+1)),(c::r).drop (n+1)),0):=rY
    have mJ:=AQ c r;cbv;refine JZ hs q hz ?_;generalize fL (c::r)=sl at *;cases sl with
    |zero=>
     have f0:A .jm .eql ⟨#[]⟩ ⟨#[]⟩=true:=by rw[bL A];exact decide_eq_true rfl
     have ae:=hk ⟨0,0,au []⟩ 0 6 [] rY (fun h=>absurd h (by decide));cbv;rw[f0];cbv;exact ae
    |succ n=>
     replace rY:jy c r=((sL ((c::r).take (n+1)),(c::r).drop (n+1)),0):=rY;rw[List.length_cons]at mJ;have hlen:(au ((c::r).take (n+1))).size=n+1:=by rw[dD,List.length_take,List.length_cons];omega
     obtain⟨sb,zu⟩:∃sb,au ((c::r).take (n+1))=sb:=⟨_,rfl⟩;rw[zu]at hlen |-;have f0:A .jm .eql sb ⟨#[]⟩=false:=by rw[bL A];refine decide_eq_false (fun e=>?_);rw[e]at hlen;have:(⟨#[]⟩:ByteArray).size=0:=rfl;omega
     have EN:aO (A .gD sb) (n+1):=⟨by rw[hA.gD];show(sb.size:Int)=_;rw[hlen]⟩;obtain⟨z2,gL⟩:∃z2,A .bu .add .i64 z (A .gD sb)=z2:=⟨_,rfl⟩;have mK:aO z2 (i+(n+1)):=by rw[<-gL];exact hz.add EN (by omega)
     have ae:=hk (sL ((c::r).take (n+1))) z2 0 _ rY (fun _=>⟨_,mK,q.NR (by rw[List.length_cons];omega),by rw[List.length_drop,List.length_cons];omega⟩);have ae:k (.tuple #[.agg #[.int .i64 4,.int .i64 0,.string (au ((c::r).take (n+1)))],.int .i64 z2,.int .i64 0]) h:=ae;rw[zu]at ae;cbv;rw[f0];cbv;rw[gL];exact ae
theorem DK{k:Nat}{c:UInt8}{r:By}{l:List Wd}:oT (k+1) (c::r) l=match qX c with
 |true=>oT k r l
 |false=>match jy c r with
  | (p,e)=>if e=0 then oT k p.2 (l++[p.1])else([],e):=rfl
theorem Fb{s:ByteArray}{h:ad}{k:Value->ad->Prop}
 (hk:∀h' b n c ws e,iS s=(ws,e)->Le h h'->(e=0->yf ws/\Sl 139 qN h' (.slice b n c) ws/\ws.length<=601)->k (.tuple #[.slice b n c,.int .i64 e]) h'):
 Ct 54 [.string s] h k:=by
 obtain⟨A,hA⟩:=Ar.ex;have EN:A .gD s=(s.size:Int):=by rw[hA.gD]
 have pN:aO (A .gD s) s.size:=⟨EN⟩;have f1:A .aD .gtr (A .gD s) 600=decide (s.size>600):=by rw[bB A,EN,decide_eq_decide];omega
 have hw:iS s=if s.size>600 then([],5)else oT (s.size+1) s.data.toList []:=rfl
 refine af A (ar T54.aw T54.aZ) Tryz.func54 rfl (by kernel_rfl) ?_;cbv;rw[f1];by_cases h6:s.size>600
 ·rw[if_pos h6]at hw;have ae:=hk h none 0 0 [] 5 hw (Le.refl _) (fun e=>absurd e (by decide));rw[decide_eq_true h6];cbv;exact ae
 ·rw[if_neg h6]at hw;have hs:s.size<=600:=by omega
  obtain⟨R,hR⟩:∃R,oT (s.size+1) s.data.toList []=R:=⟨_,rfl⟩;rw[hR]at hw;obtain⟨I,bm⟩:∃I:Nat->Int×(Option Addr×Nat×Nat)->ad->Prop,∀m g h',I m g h'=∃j t l,aO g.1 j/\oD s j t/\cS 139 qN h h' (.slice g.2.1 g.2.2.1 g.2.2.2) l/\l.length<=j/\Le h h'/\m=t.length/\(∃fu,t.length<fu/\oT fu t l=R):=⟨_,fun _ _ _=>rfl⟩;have hq0:=oD.start s;have uW:=hq0.len;have hJ:I s.size (0,none,0,0) h:=by rw[bm];exact⟨0,_,[],⟨rfl⟩,hq0,cS.nil,Nat.le_refl _,Le.refl _,by omega,_,by omega,hR⟩
  clear hR hq0 uW;rw[decide_eq_false h6];cbv;refine aX.go (G:=Int×(Option Addr×Nat×Nat)) (fun g=>[(5,.v (.int .i64 g.1)),(4,.v (.slice g.2.1 g.2.2.1 g.2.2.2))]) (fun _=>[]) (fun m g h'=>I m g h') s.size (0,none,0,0) ⟨?_,?_,?_⟩ hJ ?_
  ·cbv
  ·cbv
  ·cbv
  ·intro m g h1 hI;rw[bm]at hI;cbv;obtain⟨j,t,l,hg,q,ba,Ub,l1,hm,fu,P7,he⟩:=hI;obtain⟨z,ab,an,ac⟩:=g;have hg:aO z j:=hg;have ba:cS 139 qN h h1 (.slice ab an ac) l:=ba;have Jq:=ba.sl.len;have hl:=q.len;have f2:A .aD .lss z (A .gD s)=decide (j<s.size):=hg.gK pN;obtain⟨fu,rfl⟩:∃zM,fu=zM+1:=⟨fu-1,by omega⟩;rw[f2];cases t with
   |nil=>
    have aG:¬j<s.size:=by have:([]:By).length=0:=rfl;omega
    have he:(l++[N3],0)=R:=he;rw[<-he]at hw;rw[decide_eq_false aG];clear bm hJ he;cbv;intro n2 h2 g2 e2;have l2:Le h1 h2:=by rw[e2];exact Le.set g2
    have v2:Sl 139 qN h2 (.slice (some ⟨n2,0,none⟩) 1 1) [N3]:=bX (s:=qN) ((congrFun e2 n2).trans ah) rfl;cbv;refine(ba.mono (l2.t _)).append v2 (by decide) rfl (by decide) (by omega) (l1.trans l2) (fun m3 b3 c3 h3 Va l3 t3 k3 nk=>?_);have ae:=hk h3 b3 m3 c3 _ 0 hw l3 (fun _=>⟨⟨l,rfl⟩,nk.sl,by rw[List.length_append,List.length_singleton];omega⟩);cbv;exact ae
   |cons c r=>
    have rF:(c::r).length=r.length+1:=rfl;have aG:j<s.size:=by omega
    have cT:0<=z/\z<(s.size:Int):=hg.ix aG;obtain⟨b,hb⟩:∃b,A .byte s z=b:=⟨_,rfl⟩;have nO:b=(c.toNat:Int):=by rw[<-hb];exact q.byte hg
    have g32:A .aD .eql b 32=decide (c.toNat=32):=by rw[av A,decide_eq_decide,nO];omega
    have g9:A .aD .eql b 9=decide (c.toNat=9):=by rw[av A,decide_eq_decide,nO];omega
    have uj:A .aD .eql b 10=decide (c.toNat=10):=by rw[av A,decide_eq_decide,nO];omega
    have uX:qX c=(decide (c.toNat=32)||decide (c.toNat=9)||decide (c.toNat=10)):=rfl;have dS:=hg.succ (A:=A) (by omega);have hq:=q.next;rw[DK]at he;have gM:r.length<m:=by omega
    have tY:qX c=true->I r.length (A .bu .add .i64 z 1,ab,an,ac) h1:=fun e=>by
     rw[bm];rw[e]at he;exact⟨j+1,r,l,dS,hq,ba,by omega,l1,rfl,fu,by omega,he⟩
    rw[decide_eq_true aG];cbv;refine⟨cT,?_⟩;cbv;rw[hb,g32];clear g32;generalize decide (c.toNat=32)=u1 at *;cases u1 with
    |true=>
     have tY:=tY (by rw[uX];rfl);clear bm hJ hk he;cbv;refine⟨r.length,(_,_,_,_),gM,⟨?_,?_,?_⟩,tY⟩
     ·cbv
     ·cbv
     ·cbv
    |false=>
     cbv;refine⟨cT,?_⟩;cbv;rw[hb,g9];clear g9;generalize decide (c.toNat=9)=u2 at *;cases u2 with
     |true=>
      have tY:=tY (by rw[uX];rfl);clear bm hJ hk he;cbv;refine⟨r.length,(_,_,_,_),gM,⟨?_,?_,?_⟩,tY⟩
      ·cbv
      ·cbv
      ·cbv
     |false=>
      cbv;refine⟨cT,?_⟩;cbv;rw[hb,uj];clear uj;generalize decide (c.toNat=10)=u3 at *;cases u3 with
      |true=>
       have tY:=tY (by rw[uX];rfl);clear bm hJ hk he;cbv;refine⟨r.length,(_,_,_,_),gM,⟨?_,?_,?_⟩,tY⟩
       ·cbv
       ·cbv
       ·cbv
      |false=>
       have Uw:qX c=false:=by rw[uX];rfl
       rw[Uw]at he;replace he:(match jy c r with
        | (p,e)=>if e=0 then oT fu p.2 (l++[p.1])else([],e))=R:=he
       clear tY uX Uw;cbv;refine Kj hs q hg (fun w z2 e rest bU gL=>?_);rw[bU]at he;replace he:(if e=0 then oT fu rest (l++[w])else([],e))=R:=he;have f5:A .aD .neq e 0=decide (e≠0):=aC A ..;cbv;rw[f5];by_cases h0:e=0
       ·rw[if_pos h0]at he;obtain⟨j2,mK,q2,Nj⟩:=gL h0;have hq2l:=q2.len;have D5:rest.length<m:=by omega
        have dc:∀b3 m3 c3 h3,cS 139 qN h h3 (.slice b3 m3 c3) (l++[w])->Le h h3->I rest.length (z2,b3,m3,c3) h3:=fun b3 m3 c3 h3 nk l3=>by
         rw[bm];exact⟨j2,rest,_,mK,q2,nk,by rw[List.length_append,List.length_singleton];omega,l3,rfl,fu,by omega,he⟩
        rw[decide_eq_false (by simpa using h0)];clear bm hJ hk he gL bU f5 f2 f1;cbv;intro n2 h2 g2 e2;have l2:Le h1 h2:=by rw[e2];exact Le.set g2
        have v2:Sl 139 qN h2 (.slice (some ⟨n2,0,none⟩) 1 1) [w]:=bX (s:=qN) ((congrFun e2 n2).trans ah) rfl;cbv;refine(ba.mono (l2.t _)).append v2 (by decide) rfl (by decide) (by omega) (l1.trans l2) (fun m3 b3 c3 h3 Va l3 t3 k3 nk=>?_);have Cx:=dc b3 m3 c3 h3 nk l3;clear dc t3 k3 nk;cbv;refine⟨rest.length,(_,_,_,_),D5,⟨?_,?_,?_⟩,Cx⟩
        ·cbv
        ·cbv
        ·cbv
       ·rw[if_neg h0]at he;rw[<-he]at hw;have ae:=hk h1 none 0 0 [] e hw l1 (fun h=>absurd h h0);rw[decide_eq_true h0];cbv;exact ae
theorem St{h:ad}{pb:Nat}{s:PS}(hp:PT h pb s)(yl:(s.is (au [99,114,101,97,116,101])).1=false){k:Value->ad->Prop}
 (hk:∀h' st s' v,s.stmt ai=((st,b0),s')->PT h' pb s'->lF pb h h'->N0 h' v st->s'.ws.length<=s.ws.length->st.kind≠1->k (.tuple #[v,.string ⟨#[]⟩]) h'):
 Ct 55 [.pointer (some ⟨pb,0,none⟩)] h k:=by
 obtain⟨A,hA⟩:=Ar.ex;obtain⟨D,hD⟩:∃D,s.stmt ai=D:=⟨_,rfl⟩;have hm:=hD;rw[hD]at hk;clear hD;unfold PS.stmt at hm;refine af A (ar T55.aw T55.aZ) Tryz.func55 rfl (by kernel_rfl) ?_;cbv;refine tP hp (au [99,114,101,97,116,101]) (fun h1 t s1 e1 p1 l1 dU gC=>?_);rw[e1]at yl;replace yl:t=false:=yl;subst yl;obtain⟨eL,dO⟩:=gC rfl;replace eL:=eL.symm;replace dO:=dO.symm;subst eL dO;have kW:=e1;clear e1 dU gC p1 l1;cbv;refine tP hp (au [100,114,111,112]) (fun h1 t s1 e1 p1 l1 dU gC=>?_);cases t with
 |true=>have dU:=dU rfl;have eo:s.cM [((au [99,114,101,97,116,101]),1),((au [100,114,111,112]),2),((au [105,110,115,101,114,116]),3),((au [117,112,100,97,116,101]),4),((au [100,101,108,101,116,101]),5),((au [115,101,108,101,99,116]),6),((au [98,101,103,105,110]),7),((au [99,111,109,109,105,116]),8),((au [115,97,118,101,112,111,105,110,116]),10),((au [114,111,108,108,98,97,99,107]),9)]=(some 2,s1):=(aI kW).trans (dJ e1);rw[eo]at hm;replace hm:((({ kind:=2,table:=((s1.bP [(au [116,97,98,108,101])]).name ai).1 }:aA),b0),((s1.bP [(au [116,97,98,108,101])]).name ai).2)=D:=hm;cbv;intro n2 h2 g2 e2;refine gU p1 g2 [(au [116,97,98,108,101])] e2 rfl (by decide) (fun h3 s3 e3 p3 l3 w3=>?_);rw[e3]at hm;cbv;refine oz p3 (fun h4 tb s4 e4 p4 l4 w4 z4=>?_);rw[e4]at hm;have ae:=fun v q=>hk h4 ({ kind:=2,table:=tb }:aA) s4 v hm.symm p4 ((l1.trans l3).trans l4) q (by omega) (by simp);have ae:=ae _ ⟨none,0,0,none,0,0,none,0,0,none,0,0,none,0,0,none,0,0,rfl,Sl.nil,Sl.nil,Sl.nil,Sl.nil,Sl.nil,Sl.nil⟩;cbv;exact ae
 |false=>
  obtain⟨eL,dO⟩:=gC rfl;replace eL:=eL.symm;replace dO:=dO.symm;subst eL dO;have sf:=e1;clear e1 dU gC p1 l1;cbv;refine tP hp (au [105,110,115,101,114,116]) (fun h1 t s1 e1 p1 l1 dU gC=>?_);cases t with
  |true=>
   have dU:=dU rfl;have eo:s.cM [((au [99,114,101,97,116,101]),1),((au [100,114,111,112]),2),((au [105,110,115,101,114,116]),3),((au [117,112,100,97,116,101]),4),((au [100,101,108,101,116,101]),5),((au [115,101,108,101,99,116]),6),((au [98,101,103,105,110]),7),((au [99,111,109,109,105,116]),8),((au [115,97,118,101,112,111,105,110,116]),10),((au [114,111,108,108,98,97,99,107]),9)]=(some 3,s1):=(aI kW).trans ((aI sf).trans (dJ e1));rw[eo]at hm;replace hm:(((s1.insert ai).1,b0),(s1.insert ai).2)=D:=hm;cbv;refine KF p1 (fun h2 st s2 v e2 p2 l2 q2 w2=>?_);rw[e2]at hm;have eM:(s1.insert ai).1.kind≠1:=by show(3:Int)≠1;decide
   rw[e2]at eM;have ae:=hk h2 st s2 v hm.symm p2 (l1.trans l2) q2 (by omega) eM;obtain⟨b1,n1,c1,b2,n2,c2,b3,n3,c3,b4,n4,c4,b5,n5,c5,b6,n6,c6,rfl,-⟩:=q2.out;cbv;exact ae
  |false=>
   obtain⟨eL,dO⟩:=gC rfl;replace eL:=eL.symm;replace dO:=dO.symm;subst eL dO;have vu:=e1;clear e1 dU gC p1 l1;cbv;refine tP hp (au [117,112,100,97,116,101]) (fun h1 t s1 e1 p1 l1 dU gC=>?_);cases t with
   |true=>
    have dU:=dU rfl;have eo:s.cM [((au [99,114,101,97,116,101]),1),((au [100,114,111,112]),2),((au [105,110,115,101,114,116]),3),((au [117,112,100,97,116,101]),4),((au [100,101,108,101,116,101]),5),((au [115,101,108,101,99,116]),6),((au [98,101,103,105,110]),7),((au [99,111,109,109,105,116]),8),((au [115,97,118,101,112,111,105,110,116]),10),((au [114,111,108,108,98,97,99,107]),9)]=(some 4,s1):=(aI kW).trans ((aI sf).trans ((aI vu).trans (dJ e1)));rw[eo]at hm;replace hm:(((s1.update ai).1,b0),(s1.update ai).2)=D:=hm;cbv;refine JL p1 (fun h2 st s2 v e2 p2 l2 q2 w2=>?_);rw[e2]at hm;have eM:(s1.update ai).1.kind≠1:=by show(4:Int)≠1;decide
    rw[e2]at eM;have ae:=hk h2 st s2 v hm.symm p2 (l1.trans l2) q2 (by omega) eM;obtain⟨b1,n1,c1,b2,n2,c2,b3,n3,c3,b4,n4,c4,b5,n5,c5,b6,n6,c6,rfl,-⟩:=q2.out;cbv;exact ae
   |false=>
    obtain⟨eL,dO⟩:=gC rfl;replace eL:=eL.symm;replace dO:=dO.symm;subst eL dO;have Jx:=e1;clear e1 dU gC p1 l1;cbv;refine tP hp (au [100,101,108,101,116,101]) (fun h1 t s1 e1 p1 l1 dU gC=>?_);cases t with
    |true=>have dU:=dU rfl;have eo:s.cM [((au [99,114,101,97,116,101]),1),((au [100,114,111,112]),2),((au [105,110,115,101,114,116]),3),((au [117,112,100,97,116,101]),4),((au [100,101,108,101,116,101]),5),((au [115,101,108,101,99,116]),6),((au [98,101,103,105,110]),7),((au [99,111,109,109,105,116]),8),((au [115,97,118,101,112,111,105,110,116]),10),((au [114,111,108,108,98,97,99,107]),9)]=(some 5,s1):=(aI kW).trans ((aI sf).trans ((aI vu).trans ((aI Jx).trans (dJ e1))));rw[eo]at hm;replace hm:((({ kind:=5,table:=((s1.bP [(au [102,114,111,109])]).name ai).1,bT:=(((s1.bP [(au [102,114,111,109])]).name ai).2.bT ai).1 }:aA),b0),(((s1.bP [(au [102,114,111,109])]).name ai).2.bT ai).2)=D:=hm;cbv;intro n2 h2 g2 e2;refine gU p1 g2 [(au [102,114,111,109])] e2 rfl (by decide) (fun h3 s3 e3 p3 l3 w3=>?_);rw[e3]at hm;cbv;refine oz p3 (fun h4 tb s4 e4 p4 l4 w4 z4=>?_);rw[e4]at hm;cbv;refine AB p4 (fun h5 wb wn wc wh s5 e5 z5 p5 l5 q5 w5=>?_);replace hm:((({ kind:=5,table:=tb,bT:=(s4.bT ai).1 }:aA),b0),(s4.bT ai).2)=D:=hm;rw[e5]at hm;have ae:=fun v q=>hk h5 ({ kind:=5,table:=tb,bT:=wh }:aA) s5 v hm.symm p5 (((l1.trans l3).trans l4).trans l5) q (by omega) (by simp);have ae:=ae _ ⟨none,0,0,none,0,0,none,0,0,none,0,0,none,0,0,wb,wn,wc,rfl,Sl.nil,Sl.nil,Sl.nil,Sl.nil,Sl.nil,q5⟩;cbv;exact ae
    |false=>
     obtain⟨eL,dO⟩:=gC rfl;replace eL:=eL.symm;replace dO:=dO.symm;subst eL dO;have Sb:=e1;clear e1 dU gC p1 l1;cbv;refine tP hp (au [115,101,108,101,99,116]) (fun h1 t s1 e1 p1 l1 dU gC=>?_);cases t with
     |true=>
      have dU:=dU rfl;have eo:s.cM [((au [99,114,101,97,116,101]),1),((au [100,114,111,112]),2),((au [105,110,115,101,114,116]),3),((au [117,112,100,97,116,101]),4),((au [100,101,108,101,116,101]),5),((au [115,101,108,101,99,116]),6),((au [98,101,103,105,110]),7),((au [99,111,109,109,105,116]),8),((au [115,97,118,101,112,111,105,110,116]),10),((au [114,111,108,108,98,97,99,107]),9)]=(some 6,s1):=(aI kW).trans ((aI sf).trans ((aI vu).trans ((aI Jx).trans ((aI Sb).trans (dJ e1)))));rw[eo]at hm;replace hm:(((s1.choose ai).1,b0),(s1.choose ai).2)=D:=hm;cbv;refine L7 p1 (fun h2 st s2 v e2 p2 l2 q2 w2=>?_);rw[e2]at hm;have eM:(s1.choose ai).1.kind≠1:=by show(6:Int)≠1;decide
      rw[e2]at eM;have ae:=hk h2 st s2 v hm.symm p2 (l1.trans l2) q2 (by omega) eM;obtain⟨b1,n1,c1,b2,n2,c2,b3,n3,c3,b4,n4,c4,b5,n5,c5,b6,n6,c6,rfl,-⟩:=q2.out;cbv;exact ae
     |false=>
      obtain⟨eL,dO⟩:=gC rfl;replace eL:=eL.symm;replace dO:=dO.symm;subst eL dO;have Ve:=e1;clear e1 dU gC p1 l1;cbv;refine tP hp (au [98,101,103,105,110]) (fun h1 t s1 e1 p1 l1 dU gC=>?_);cases t with
      |true=>
       have dU:=dU rfl;have eo:s.cM [((au [99,114,101,97,116,101]),1),((au [100,114,111,112]),2),((au [105,110,115,101,114,116]),3),((au [117,112,100,97,116,101]),4),((au [100,101,108,101,116,101]),5),((au [115,101,108,101,99,116]),6),((au [98,101,103,105,110]),7),((au [99,111,109,109,105,116]),8),((au [115,97,118,101,112,111,105,110,116]),10),((au [114,111,108,108,98,97,99,107]),9)]=(some 7,s1):=(aI kW).trans ((aI sf).trans ((aI vu).trans ((aI Jx).trans ((aI Sb).trans ((aI Ve).trans (dJ e1))))));rw[eo]at hm;replace hm:(({ kind:=7 }:aA),b0,s1)=(D.1.1,D.1.2,D.2):=by rw[<-hm];rfl
       replace hm:((({ kind:=7 }:aA),b0),s1)=D:=by obtain⟨⟨d1,d2⟩,d3⟩:=D;cases hm;rfl
       have ae:=fun v q=>hk h1 ({ kind:=7 }:aA) s1 v hm.symm p1 l1 q (by omega) (by simp);have ae:=ae _ ⟨none,0,0,none,0,0,none,0,0,none,0,0,none,0,0,none,0,0,rfl,Sl.nil,Sl.nil,Sl.nil,Sl.nil,Sl.nil,Sl.nil⟩;cbv;exact ae
      |false=>
       obtain⟨eL,dO⟩:=gC rfl;replace eL:=eL.symm;replace dO:=dO.symm;subst eL dO;have Y3:=e1;clear e1 dU gC p1 l1;cbv;refine tP hp (au [99,111,109,109,105,116]) (fun h1 t s1 e1 p1 l1 dU gC=>?_);cases t with
       |true=>
        have dU:=dU rfl;have eo:s.cM [((au [99,114,101,97,116,101]),1),((au [100,114,111,112]),2),((au [105,110,115,101,114,116]),3),((au [117,112,100,97,116,101]),4),((au [100,101,108,101,116,101]),5),((au [115,101,108,101,99,116]),6),((au [98,101,103,105,110]),7),((au [99,111,109,109,105,116]),8),((au [115,97,118,101,112,111,105,110,116]),10),((au [114,111,108,108,98,97,99,107]),9)]=(some 8,s1):=(aI kW).trans ((aI sf).trans ((aI vu).trans ((aI Jx).trans ((aI Sb).trans ((aI Ve).trans ((aI Y3).trans (dJ e1)))))));rw[eo]at hm;replace hm:(({ kind:=8 }:aA),b0,s1)=(D.1.1,D.1.2,D.2):=by rw[<-hm];rfl
        replace hm:((({ kind:=8 }:aA),b0),s1)=D:=by obtain⟨⟨d1,d2⟩,d3⟩:=D;cases hm;rfl
        have ae:=fun v q=>hk h1 ({ kind:=8 }:aA) s1 v hm.symm p1 l1 q (by omega) (by simp);have ae:=ae _ ⟨none,0,0,none,0,0,none,0,0,none,0,0,none,0,0,none,0,0,rfl,Sl.nil,Sl.nil,Sl.nil,Sl.nil,Sl.nil,Sl.nil⟩;cbv;exact ae
       |false=>
        obtain⟨eL,dO⟩:=gC rfl;replace eL:=eL.symm;replace dO:=dO.symm;subst eL dO;have e17:=e1;clear e1 dU gC p1 l1;cbv;refine tP hp (au [115,97,118,101,112,111,105,110,116]) (fun h1 t s1 e1 p1 l1 dU gC=>?_);cases t with
        |true=>have dU:=dU rfl;have eo:s.cM [((au [99,114,101,97,116,101]),1),((au [100,114,111,112]),2),((au [105,110,115,101,114,116]),3),((au [117,112,100,97,116,101]),4),((au [100,101,108,101,116,101]),5),((au [115,101,108,101,99,116]),6),((au [98,101,103,105,110]),7),((au [99,111,109,109,105,116]),8),((au [115,97,118,101,112,111,105,110,116]),10),((au [114,111,108,108,98,97,99,107]),9)]=(some 10,s1):=(aI kW).trans ((aI sf).trans ((aI vu).trans ((aI Jx).trans ((aI Sb).trans ((aI Ve).trans ((aI Y3).trans ((aI e17).trans (dJ e1))))))));rw[eo]at hm;replace hm:((({ kind:=10,name:=(s1.name ai).1 }:aA),b0),(s1.name ai).2)=D:=hm;cbv;refine oz p1 (fun h2 nm s2 e2 p2 l2 w2 z2=>?_);rw[e2]at hm;have ae:=fun v q=>hk h2 ({ kind:=10,name:=nm }:aA) s2 v hm.symm p2 (l1.trans l2) q (by omega) (by simp);have ae:=ae _ ⟨none,0,0,none,0,0,none,0,0,none,0,0,none,0,0,none,0,0,rfl,Sl.nil,Sl.nil,Sl.nil,Sl.nil,Sl.nil,Sl.nil⟩;cbv;exact ae
        |false=>
         obtain⟨eL,dO⟩:=gC rfl;replace eL:=eL.symm;replace dO:=dO.symm;subst eL dO;have NP:=e1;clear e1 dU gC p1 l1;cbv;refine tP hp (au [114,111,108,108,98,97,99,107]) (fun h1 t s1 e1 p1 l1 dU gC=>?_);cases t with
         |true=>
          have dU:=dU rfl;have eo:s.cM [((au [99,114,101,97,116,101]),1),((au [100,114,111,112]),2),((au [105,110,115,101,114,116]),3),((au [117,112,100,97,116,101]),4),((au [100,101,108,101,116,101]),5),((au [115,101,108,101,99,116]),6),((au [98,101,103,105,110]),7),((au [99,111,109,109,105,116]),8),((au [115,97,118,101,112,111,105,110,116]),10),((au [114,111,108,108,98,97,99,107]),9)]=(some 9,s1):=(aI kW).trans ((aI sf).trans ((aI vu).trans ((aI Jx).trans ((aI Sb).trans ((aI Ve).trans ((aI Y3).trans ((aI e17).trans ((aI NP).trans (dJ e1)))))))));rw[eo]at hm;replace hm:(match s1.is (au [116,111])with
           | (true,p)=>((({ kind:=11,name:=(p.name ai).1 }:aA),b0),(p.name ai).2)
           | (false,p)=>((({ kind:=9 }:aA),b0),p))=D:=hm
          have p1':=p1;cbv;refine tP p1' (au [116,111]) (fun h2 t s2 e2 p2 l2 gK ML=>?_);rw[e2]at hm;cases t with
          |true=>have gK:=gK rfl;replace hm:((({ kind:=11,name:=(s2.name ai).1 }:aA),b0),(s2.name ai).2)=D:=hm;cbv;refine oz p2 (fun h3 nm s3 e3 p3 l3 w3 z3=>?_);rw[e3]at hm;have ae:=fun v q=>hk h3 ({ kind:=11,name:=nm }:aA) s3 v hm.symm p3 ((l1.trans l2).trans l3) q (by omega) (by simp);have ae:=ae _ ⟨none,0,0,none,0,0,none,0,0,none,0,0,none,0,0,none,0,0,rfl,Sl.nil,Sl.nil,Sl.nil,Sl.nil,Sl.nil,Sl.nil⟩;cbv;exact ae
          |false=>replace hm:((({ kind:=9 }:aA),b0),s2)=D:=hm;have ae:=fun v q=>hk h2 ({ kind:=9 }:aA) s2 v hm.symm p2 (l1.trans l2) q (by rw[(ML rfl).1];omega) (by simp);have ae:=ae _ ⟨none,0,0,none,0,0,none,0,0,none,0,0,none,0,0,none,0,0,rfl,Sl.nil,Sl.nil,Sl.nil,Sl.nil,Sl.nil,Sl.nil⟩;cbv;exact ae
         |false=>obtain⟨eL,dO⟩:=gC rfl;replace eL:=eL.symm;replace dO:=dO.symm;subst eL dO;have Sa:=e1;clear e1 dU gC p1 l1;cbv;have eo:s.cM [((au [99,114,101,97,116,101]),1),((au [100,114,111,112]),2),((au [105,110,115,101,114,116]),3),((au [117,112,100,97,116,101]),4),((au [100,101,108,101,116,101]),5),((au [115,101,108,101,99,116]),6),((au [98,101,103,105,110]),7),((au [99,111,109,109,105,116]),8),((au [115,97,118,101,112,111,105,110,116]),10),((au [114,111,108,108,98,97,99,107]),9)]=(none,s):=(aI kW).trans ((aI sf).trans ((aI vu).trans ((aI Jx).trans ((aI Sb).trans ((aI Ve).trans ((aI Y3).trans ((aI e17).trans ((aI NP).trans (aI Sa)))))))));rw[eo]at hm;replace hm:((({}:aA),b0),s.fail 6)=D:=hm;refine CH hp 6 (fun h1 p1 l1=>?_);have ae:=fun v q=>hk h1 ({}:aA) (s.fail 6) v hm.symm p1 l1 q (by rw[PS.pV];exact Nat.le_refl _) (by simp);have ae:=ae _ ⟨none,0,0,none,0,0,none,0,0,none,0,0,none,0,0,none,0,0,rfl,Sl.nil,Sl.nil,Sl.nil,Sl.nil,Sl.nil,Sl.nil⟩;cbv;exact ae
def gT(t:ByteArray):Bool:=match (iS t).1 with
 |w::_=> !(decide (w.s=au [99,114,101,97,116,101]))
 | []=>true
theorem yT{t:ByteArray}(h:gT t=true){ws:List Wd}{e:Int}(hw:iS t=(ws,e)):((⟨ws,0,[]⟩:PS).is (au [99,114,101,97,116,101])).1=false:=by
 unfold gT at h;rw[hw]at h;cases ws with
 |nil=>rfl
 |cons w r=>
  have h:(!(decide (w.s=au [99,114,101,97,116,101])))=true:=h;have h2:w.s≠au [99,114,101,97,116,101]:=by simpa using h
  show(if(0:Int)=0/\(w.k=1\/w.k=4)/\w.s=_ then _ else _:Bool×PS).1=false;rw[if_neg (fun h=>h2 h.2.2)]
theorem FE{t:ByteArray}{ws r:List Wd}{st:aA}{w:Wd}{err:Int}{ex:List Nd}(hw:iS t=(ws,0))(e3:PS.stmt ai ⟨ws,0,[]⟩=((st,b0),⟨w::r,err,ex⟩))(eM:st.kind≠1):
 ki ai t=if err=0 then(if w.k≠0 then({},6)else(st,0))else({},err):=by
 unfold ki;simp only[hw,e3];by_cases he:err=0
 ·subst he;by_cases hk:w.k=0
  ·simp[hk,eM]
  ·simp[hk,eM,PS.fail]
 ·simp[he,eM]
theorem IY{t:ByteArray}{h:ad}(yl:gT t=true){D:aA×Int}(hD:ki ai t=D){k:Value->ad->Prop}
 (hk:∀h' v,Le h h'->N0 h' v D.1->k (.tuple #[v,.int .i64 D.2]) h'):
 Ct 30 [.string t] h k:=by
 obtain⟨A,hA⟩:=Ar.ex;have hz:∀h' e,Le h h'->D=({},e)->k (.tuple #[.agg #[.int .i64 0,.string ⟨#[]⟩,.slice none 0 0,.int .i64 0,.bool false,.string ⟨#[]⟩,.string ⟨#[]⟩,.slice none 0 0,.slice none 0 0,.slice none 0 0,.slice none 0 0,.slice none 0 0,.string ⟨#[]⟩,.string ⟨#[]⟩,.bool false,.int .i64 0,.string ⟨#[]⟩],.int .i64 e]) h':=fun h' e l he=>by
  subst he;exact hk h' _ l ⟨none,0,0,none,0,0,none,0,0,none,0,0,none,0,0,none,0,0,rfl,Sl.nil,Sl.nil,Sl.nil,Sl.nil,Sl.nil,Sl.nil⟩
 refine af A (ar T30.aw T30.aZ) Tryz.func30 rfl (by kernel_rfl) ?_;cbv;refine Fb (fun h1 b n c ws e hw l1 jh=>?_);have Nn:=yT yl hw;have f1:A .aD .neq e 0=decide (e≠0):=aC A ..;cbv;rw[f1];by_cases h0:e=0
 ·subst h0;obtain⟨mw,qw,M9⟩:=jh rfl;have hd0:decide ((0:Int)≠0)=false:=rfl;rw[hd0];cbv;intro pb h2 g2 e2;have l2:Le h1 h2:=by rw[e2];exact Le.set g2
  have p2:PT h2 pb ⟨ws,0,[]⟩:=by
   refine⟨⟨b,n,c,none,0,0,0,0,ws,?_,qw.mono (fun b' c' e' fr hm hb=>?_),⟨rfl⟩,rfl,mw,by omega,(fun hh=>by cases hh),Sx.fh h2 pb,Sx.dP h2 pb⟩⟩
   ·rw[e2];exact ah
   ·have bU:b'≠pb:=fun e=>by rw[e,g2]at hb;cases hb
    rw[Sx.eF bU];exact l2 b' _ hb
  cbv;refine St p2 Nn (fun h3 st s3 v e3 p3 l3 q3 w3 eM=>?_);have DP:Le h h3:=fun j o hj=>by
   have HD:=l1 j o hj;have bU:j≠pb:=fun e=>by rw[e,g2]at HD;cases HD
   exact l3 j o (by rw[Sx.eF bU];exact l2 j o HD)
  obtain⟨ws3,BD,ex3⟩:=s3;obtain⟨b1,n1,c1,b2,n2,c2,b3,n3,c3,b4,n4,c4,b5,n5,c5,b6,n6,c6,rfl,q31⟩:=q3.out;refine p3.out.elim (fun wb wn wc eb en ec at_ i all w r g qw3 Hg Tv Pr hr hi KU qe=>?_);have g:h3 pb=some (.cells #[.slice wb wn wc,.int .i64 at_,.int .i64 BD,.slice eb en ec] 136 (0,0)):=g;have Pr:ws3=w::r:=Pr;subst Pr;rw[FE hw e3 eM]at hD;have cT:wb.isSome=true/\0<=at_/\at_<(wn:Int):=⟨qw3.bF (by omega),Hg.ix hi⟩;have ir:=Hg.eq;obtain⟨wk,wN,wS⟩:=w;have f2:A .aD .eql BD 0=decide (BD=0):=av A ..;have f3:A .aD .neq wk 0=decide (wk≠0):=aC A ..;have f4:A .aD .eql st.kind 1=false:=by rw[av A];exact decide_eq_false eM
  have f5:A .aD .neq BD 0=decide (BD≠0):=aC A ..;have f6:A .aD .eql 6 0=false:=by rw[av A];rfl
  have f7:A .aD .neq 6 0=true:=by rw[aC A];rfl
  have hG:∀h' x,Le h h'->x≠0->(({}:aA),x)=D->k (.tuple #[.agg #[.int .i64 0,.string ⟨#[]⟩,.slice none 0 0,.int .i64 0,.bool false,.string ⟨#[]⟩,.string ⟨#[]⟩,.slice none 0 0,.slice none 0 0,.slice none 0 0,.slice none 0 0,.slice none 0 0,.string ⟨#[]⟩,.string ⟨#[]⟩,.bool false,.int .i64 0,.string ⟨#[]⟩],.int .i64 x]) h':=fun h' x l _ e=>hz h' x l e.symm;have rH:(st,(0:Int))=D->k (.tuple #[stV st.kind st.lM.name b1 n1 c1 st.lM.key st.lM.only st.table st.join b2 n2 c2 b3 n3 c3 b4 n4 c4 b5 n5 c5 b6 n6 c6 st.group st.order st.desc st.gX st.name,.int .i64 0]) h3:=fun e=>by
   subst e;exact hk h3 _ DP q3
  clear hz qe q31;generalize st.kind=sk at *;generalize st.lM.name=ssn at *;generalize st.lM.key=ssk at *;generalize st.lM.only=sso at *;generalize st.table=kP at *;generalize st.join=sjn at *;generalize st.group=sgr at *;generalize st.order=sod at *;generalize st.desc=sds at *;generalize st.gX=slm at *;generalize st.name=snm at *;cbv;rw[aj A];refine ay g rfl rfl ?_;cbv;rw[f2];by_cases he:BD=0
  ·subst he;have Qa:decide ((0:Int)=0)=true:=rfl;have f2:A .aD .eql 0 0=true:=by rw[av A];rfl
   have f5:A .aD .neq 0 0=false:=by rw[aC A];rfl
   rw[Qa];cbv;rw[aj A];refine ay g rfl rfl ?_;cbv;rw[aj A];refine ay g rfl rfl ?_;cbv;refine⟨cT,?_⟩;cbv;refine qw3.fF Tv ir (o:=0) (m:=1) (by decide) (fun cs aF=>?_);have aF:cs=[.int .i64 wk,.int .i64 wN,.string wS]:=aF;subst aF;cbv;rw[f3];by_cases qY:wk=0
   ·have hD:(if(0:Int)=0 then(if wk≠0 then(({}:aA),(6:Int))else(st,0))else({},0))=D:=hD;rw[if_pos rfl,if_neg (by simpa using qY)]at hD;have ae:=rH hD;clear rH hG;rw[decide_eq_false (by simpa using qY)];cbv;rw[aj A];refine ay g rfl rfl ?_;cbv;rw[f2];cbv;rw[f4];cbv;rw[aj A];refine ay g rfl rfl ?_;cbv;rw[f5];cbv;exact ae
   ·have hD:(if(0:Int)=0 then(if wk≠0 then(({}:aA),(6:Int))else(st,0))else({},0))=D:=hD;rw[if_pos rfl,if_pos qY]at hD;rw[decide_eq_true qY];cbv;refine CH p3 6 (fun h4 p4 l4=>?_);have rD:Le h h4:=fun j o hj=>by
     have HD:=l1 j o hj;have bU:j≠pb:=fun e=>by rw[e,g2]at HD;cases HD
     exact l4 j o (by rw[Sx.eF bU];exact DP j o hj)
    have ae:=hG h4 6 rD (by decide) hD;clear rH hG;refine p4.out.elim (fun wb4 wn4 wc4 eb4 en4 ec4 at4 i4 all4 w4 r4 g4 _ _ _ _ _ _ _ _=>?_);have g4:h4 pb=some (.cells #[.slice wb4 wn4 wc4,.int .i64 at4,.int .i64 6,.slice eb4 en4 ec4] 136 (0,0)):=g4;cbv;rw[aj A];refine ay g4 rfl rfl ?_;cbv;rw[f6];cbv;rw[aj A];refine ay g4 rfl rfl ?_;cbv;rw[f7];cbv;rw[aj A];refine ay g4 rfl rfl ?_;cbv;refine ay g4 rfl rfl ?_;cbv;refine⟨⟨_,rfl,rfl⟩,?_⟩;cbv;exact ae
  ·rw[if_neg he]at hD;have ae:=hG h3 BD DP he hD;have f4':=f4;clear rH hG;rw[decide_eq_false he];cbv;rw[aj A];refine ay g rfl rfl ?_;cbv;rw[f2,decide_eq_false he];cbv;rw[aj A];refine ay g rfl rfl ?_;cbv;rw[f5,decide_eq_true he];cbv;rw[aj A];refine ay g rfl rfl ?_;cbv;refine ay g rfl rfl ?_;cbv;refine⟨⟨_,rfl,rfl⟩,?_⟩;cbv;exact ae
 ·have ae:=hz h1 e l1 (by
   rw[<-hD];unfold ki;simp only[hw];rw[if_pos h0])
  rw[decide_eq_true h0];cbv;exact ae
end Go.S
