import Derived.Test.YthnbpiejemlbeaaGreatBP
set_option linter.all false
set_option maxRecDepth 100000
set_option maxHeartbeats 8000000
namespace Go.S
open Go.Sx Go.Proofs
variable {d:DB}{z:Int}{G g:Lg}{r:List Bs}{cs:List cC}{P c i p s:Nat}{tt:Nat->List bJ}{b:Option Addr}{k:Value->ab->Prop}{a h h':ab}{L L':jE}
theorem aZZ(b:Bool)(a:k (.int .i64 (if b then 1 else 0)) h):Ct 268 [.bool b] h k:=by
 refine an dXv Tryz.func268 λA c=>?_;cases b with
 |true=>cbv;exact a
 |false=>cbv;exact a
theorem SU(bs:List Nat)(h:ab):∃L:ab,Le L h/\(∀b∈bs,L b=none)/\(∀h',Kp bs h h'->Le L h')/\(∀h',Le L h'->Kp bs h h')/\∀b,b∉bs->L b=h b:=by
 classical
 obtain⟨L,H⟩:∃L:ab,∀b,L b=if b∈bs then none else h b:=⟨λb=>if b∈bs then none else h b,λ_=>rfl⟩
 refine⟨L,λb o a=>?_,λb a=>by rw[H,if_pos a],λh' k b o a=>?_,λh' l b o a n=>l b o (by rw[H,if_neg n];exact a),λb a=>by rw[H,if_neg a]⟩
 .rw[H]at a;by_cases m:b∈bs
  .rw[if_pos m]at a;cases a
  rw[if_neg m]at a;exact a
 rw[H]at a;by_cases m:b∈bs
 .rw[if_pos m]at a;cases a
 rw[if_neg m]at a;exact k b o a m
structure Wa(T:List bJ)(c:cC)(T':List bJ):Prop where
 out:∃i t t',T[i]? =some t/\t.S.name=c.table/\(∀j,j<i->∀y,T[j]? =some y->decide (y.S.name=c.table)=false)/\dKs t c t'/\T'=T.set i t'
structure RunT(cs:List cC)(tt:Nat->List bJ):Prop where
 step:∀i c,cs[i]? =some c->Wa (tt i) c (tt (i+1))
 gX:∀c∈cs,WC c
 cKx:∀c∈cs,AH c
 n:0<cs.length/\cs.length<=255
theorem Wa.len{T a:List bJ}{c:cC}(q:Wa T c a):a.length=T.length:=by obtain⟨i,t,b,-,-,-,-,rfl⟩:=q.out;exact List.length_set
theorem RunT.len(q:RunT cs tt):∀i,i<=cs.length->(tt i).length=(tt 0).length:=λi=>by
 induction i with
 |zero=>intro _;rfl
 |succ i a=>intro b;obtain⟨c,h⟩:=bn cs i;rw[(q.step i c h).len,a (by omega)]
theorem Pz{M:List Bs}{x:Bs}(h:M[i]? =some x):(M.drop i).flatten=x++(M.drop (i+1)).flatten:=by have a:=(List.getElem?_eq_some_iff.1 h).1;rw[List.drop_eq_getElem_cons a,(List.getElem?_eq_some_iff.1 h).2,List.flatten_cons]
set_option maxHeartbeats 16000000
abbrev yp:List Nat:=[61,202,46,45]
abbrev Ff:List Nat:=150::299::(yp++je)
theorem iXf{x r d:Nat}{b2 b3 b4 e1 e2 e3:Option Addr}{n1 Q n2 c2 n3 c3 n4 c4 m1 d1 m2 V m3 d3:Nat}{j:Int}{op:List pa}{bs:List xT}{ts:List (List pa)}
 (gx:h x=some (.cells (List.toArray [.slice (some ⟨d,0,none⟩) n1 Q,.slice b2 n2 c2,.slice b3 n3 c3,.slice b4 n4 c4,.int .i64 j,.slice e1 m1 d1,.slice e2 m2 V,.slice e3 m3 d3]) 150 (0,0)))
 (ot:cA 61 bo h d Q (tt 0)) (ek:n1=(tt 0).length) (ql:vR h e1 m1 d1 e2 m2 V e3 m3 d3 ⟨j,op,bs,ts⟩) (hB:Dd ⟨j,op,bs,ts⟩) (R:RunT cs tt) (qr:nv h r p false) {a:Bs}  (hL:fq ⟨j,op,bs,ts⟩ cs=L')
 (qp:fh h p (some (bR j++([u8 (cs.length:Int)]++((cs.mapIdx (eo j)).flatten++(eS j cs++(mL L'++a))))))) 
 (hk:∀h' e1 m1 d1 e2 m2 V e3 m3 d3,Kp [x,r,p,d] h h'->h' x=some (.cells (List.toArray [.slice (some ⟨d,0,none⟩) n1 Q,.slice b2 n2 c2,.slice b3 n3 c3,.slice b4 n4 c4,.int .i64 L'.next,.slice e1 m1 d1,.slice e2 m2 V,.slice e3 m3 d3]) 150 (0,0))->
  cA 61 bo h' d Q (tt cs.length)->vR h' e1 m1 d1 e2 m2 V e3 m3 d3 L'->nv h' r p false->fh h' p (some a)->k (.tuple #[]) h'):
 Ct 145 [.pointer (some ⟨x,0,none⟩),.pointer (some ⟨r,0,none⟩)] h k:=by
 obtain⟨A,hA⟩:=Ar.ex;obtain⟨dr,gr,-⟩:=qr.out;obtain⟨dp,eF⟩:0<=j/\j<2^40:=hB.nx;obtain⟨MY,ez⟩:=R.n;obtain⟨nn,qJ⟩:∃nn:Nat,j=(nn:Int):=⟨j.toNat,(Int.toNat_of_nonneg dp).symm⟩;have zW:=Ia (n:=nn) (by omega) ([u8 (cs.length:Int)]++((cs.mapIdx (eo j)).flatten++(eS j cs++(mL L'++a))));rw[<-qJ]at zW;have bZ:=eN (u8 (cs.length:Int)) ((cs.mapIdx (eo j)).flatten++(eS j cs++(mL L'++a)));have Cj:IntKind.i64.wrap (nn:Int)=j:=by rw[qJ];exact IntWalk.i64_in _ (by omega)
 obtain⟨kn,FY⟩:∃kn:Int,kn=(cs.length:Int):=⟨_,rfl⟩;have cz:((u8 (cs.length:Int)).toNat:Int)=kn:=by rw[yg,FY];omega
 have er:A .ay .eql j j=true:=by rw[aq A];exact decide_eq_true rfl
 have ch:A .ay .gtr kn 0=true:=by rw[aX A,FY];exact decide_eq_true (by omega)
 refine bB dJv A Tryz.func145 ?_;cbv;repeat (first|rw[al A] | (refine ak gr ?_;cbv)|(refine ak gx ?_;cbv)|(refine⟨⟨_,rfl,rfl⟩,?_⟩;cbv))
 refine aQU qp (λh1 f mW k1 Mu=>?_);rw[zW]at mW Mu;have mW:f=j:=by rw[mW];exact Cj
 subst mW;have Mu:fh h1 p (some (u8 (cs.length:Int)::((cs.mapIdx (eo f)).flatten++(eS f cs++(mL L'++a))))):=Mu;have t1:=qp.lt k1 (tys:=Ff) (by decide);have Pu:=t1 _ _ _ _ (by decide) gx;have Dt:=qr.lt (t1.sub);have cw:=ot.mono (t1.sub);obtain⟨ev,bC,-⟩:=Dt.out;clear zW qJ Cj;cbv;repeat (first|rw[al A] | (refine ak bC ?_;cbv)|(refine ak Pu ?_;cbv)|(refine⟨⟨_,rfl,rfl⟩,?_⟩;cbv))
 rw[er];refine mV Dt true (λh2 k2 U=>?_);have t2:=Dt.lk k2 (tys:=150::411::5::(yp++je)) (by decide);have Ng:=t2 _ _ _ _ (by decide) Pu;have C:=Mu.mt (t2.sub);have u:=cw.mono (t2.sub);obtain⟨dv,QH,-⟩:=U.out;cbv;repeat (first|rw[al A] | (refine ak QH ?_;cbv)|(refine ak Ng ?_;cbv)|(refine⟨⟨_,rfl,rfl⟩,?_⟩;cbv))
 refine pR C (λh3 kz ao k3 H=>?_);rw[bZ]at ao H;have ao:kz=kn:=by rw[ao];exact cz
 subst ao;have H:fh h3 p (some ((cs.mapIdx (eo f)).flatten++(eS f cs++(mL L'++a)))):=H;have t3:=C.lt k3 (tys:=Ff) (by decide);have Aa:=t3 _ _ _ _ (by decide) Ng;have pT:nv h3 r p false:=U.lt (t3.sub);have X:=u.mono (t3.sub);clear bZ cz;cbv;rw[ch];refine mV pT true (λh4 k4 O=>?_);have t4:=pT.lk k4 (tys:=150::411::5::(yp++je)) (by decide);have rA:=t4 _ _ _ _ (by decide) Aa;have I:=H.mt (t4.sub);have L:=X.mono (t4.sub);have O:nv h4 r p false:=O;have K4:Kp [x,r,p,d] h h4:=(k1.up (by simp)).trans ((k2.up (by simp)).trans ((k3.up (by simp)).trans (k4.up (by simp))));clear Pu Ng Aa Mu C H Dt U pT cw u X bC QH ch k1 k2 k3 k4 t1 t2 t3 t4;obtain⟨hP,eT,eP,aW,cv,eb⟩:=SU [x,r,p,d] h;have tl:bV je h hP:=λb c e fr v hb=>by
  rw[eb b (λhm=>?_)]
  .exact hb
  simp only[List.mem_cons,List.not_mem_nil,or_false]at hm;rcases hm with rfl|rfl|rfl|rfl
  .rw[gx]at hb;cases hb;revert v;decide
  .rw[gr]at hb;cases hb;revert v;decide
  .obtain⟨rr,q1,-⟩:=qp.out;obtain⟨bb,n,c,V,g2,-⟩:=q1.out;rw[g2]at hb;cases hb;revert v;decide
  obtain⟨c,hc,-⟩:=ot.out;rw[hc]at hb;cases hb;revert v;decide
 have dW:=ql.ls tl;have JI:∀ {i:Nat} {c:cC},cs[i]? =some c->((cs.mapIdx (eo f)).drop i).flatten=eo f i c++((cs.mapIdx (eo f)).drop (i+1)).flatten:=λh=>Pz (by rw[List.getElem?_mapIdx,h];rfl);have eB:(cs.mapIdx (eo f)).length=cs.length:=List.length_mapIdx;generalize cs.mapIdx (eo f)=M at *;obtain⟨tail,TU⟩:∃tail,tail=eS f cs++(mL L'++a):=⟨_,rfl⟩;rw[<-TU]at I;obtain⟨J,aZ⟩:∃J:Nat->((Option Addr×Nat×Nat)×Int)->ab->Prop,∀w g h',J w g h'=(∃i,aK g.2 i/\w=cs.length-i/\i<=cs.length/\Kp [x,r,p,d] h h'/\
  h' x=some (.cells (List.toArray [.slice (some ⟨d,0,none⟩) n1 Q,.slice b2 n2 c2,.slice b3 n3 c3,.slice b4 n4 c4,.int .i64 f,.slice e1 m1 d1,.slice e2 m2 V,.slice e3 m3 d3]) 150 (0,0))/\
  cA 61 bo h' d Q (tt i)/\nv h' r p false/\fh h' p (some ((M.drop i).flatten++tail))/\aU 161 aV hP h' (.slice g.1.1 g.1.2.1 g.1.2.2) (cs.take i)):=⟨_,λ_ _ _=>rfl⟩
 have df:J cs.length ((none,0,0),0) h4:=by rw[aZ];exact⟨0,⟨rfl⟩,rfl,by omega,K4,rA,L,O,by rw[List.drop_zero];exact I,aU.nil⟩
 clear rA L O I K4 qp ot gx gr qr;cbv;refine aG.go (G:=(Option Addr×Nat×Nat)×Int) (λg=>[(5,.v (.slice g.1.1 g.1.2.1 g.1.2.2)),(6,.v (.int .i64 g.2))]) (λ_=>[]) (λw g h'=>J w g h') cs.length ((none,0,0),0) (by constructor<;>cbv) df ?_
 intro w g h2 hI;rw[aZ]at hI;cbv;obtain⟨⟨gb,gm,gc⟩,z⟩:=g;obtain⟨i,hz,hw,hi,K2,Ng,u,U,C,Z⟩:=hI;have hz:aK z i:=hz;have Z:aU 161 aV hP h2 (.slice gb gm gc) (cs.take i):=Z;have nj:=Z.sl.len;rw[List.length_take]at nj;obtain⟨dv,QH,-⟩:=U.out;have fl:A .ay .lss z kz=decide (i<cs.length):=by rw[aD A,hz.eq,FY];exact decide_eq_decide.2 (by show(i:Int)<(cs.length:Int)↔_;omega)
 have cY:A .not false=true:=by rw[hA.not];rfl
 rw[fl];by_cases hc:i<cs.length
 .rw[decide_eq_true hc];cbv;repeat (first|rw[al A] | (refine ak QH ?_;cbv)|(refine⟨⟨_,rfl,rfl⟩,?_⟩;cbv))
  rw[cY];obtain⟨c,aj⟩:=ax (xs:=cs) (i:=i) hc;have bx:=List.mem_of_getElem? aj;have hG:=R.gX c bx;have MX:=R.cKx c bx;obtain⟨ti,t,t',ht,uK,bp,KW,cb⟩:=(R.step i c aj).out;have hf:=JI aj;rw[hf]at C;have Xg:(cP f i c).length=32:=fw _;have aF:cs.length-(i+1)<w:=by omega
  have Ui:n1=(tt i).length:=by rw[ek,R.len i (by omega)]
  have iq:=pj aj;have bI:∀h' b' m' c',Kp [x,r,p,d] h h'->h' x=some (.cells (List.toArray [.slice (some ⟨d,0,none⟩) n1 Q,.slice b2 n2 c2,.slice b3 n3 c3,.slice b4 n4 c4,.int .i64 f,.slice e1 m1 d1,.slice e2 m2 V,.slice e3 m3 d3]) 150 (0,0))->
   cA 61 bo h' d Q (tt (i+1))->nv h' r p false->fh h' p (some ((M.drop (i+1)).flatten++tail))->aU 161 aV hP h' (.slice b' m' c') (cs.take i++[c])->J (cs.length-(i+1)) ((b',m',c'),A .aC .add .i64 z 1) h':=λh' b' m' c' a1 a2 a3 a4 a5 a6=>by
   rw[aZ];exact⟨i+1,hz.succ (A:=A),rfl,by omega,a1,a2,a3,a4,a5,by rw[iq];exact a6⟩
  have dt:gm+1<=2^39:=by omega
  rw[cb]at bI;clear hf iq cb aZ df fl JI;have C:fh h2 p (some ((([u8 c.op]++dY c.table)++dY (strOf (fH c.row)))++(cP f i c++((M.drop (i+1)).flatten++tail)))):=by
   have e:(eo f i c++(M.drop (i+1)).flatten)++tail=(([u8 c.op]++dY c.table)++dY (strOf (fH c.row)))++(cP f i c++((M.drop (i+1)).flatten++tail)):=by unfold eo;simp only[List.append_assoc]
   rw[<-e];exact C
  generalize (M.drop (i+1)).flatten++tail=dd at *;cbv;refine aXg U C hG (λh3 vb vn vc k3 pT H T=>?_);have x3:=So U C k3;have Aa:=x3 _ _ Ng (λc e fr v=>by cases v;decide);have X:=u.mono (x3.t (by decide));have cq:=Z.mono (x3.t (by decide));have K3:Kp [x,r,p,d] h h3:=K2.trans (k3.up (by simp));obtain⟨P,S,Vo⟩:=c;have T:Sl 45 aS h3 (.slice vb vn vc) Vo:=T;clear Ng u Z U C QH x3 k3 K2;obtain⟨eH,QG,-⟩:=pT.out;cbv;repeat (first|rw[al A] | (refine ak Aa ?_;cbv)|(refine⟨⟨_,rfl,rfl⟩,?_⟩;cbv))
  refine Wx hz T MX (λh4 g4 y bc=>?_);have rA:=y _ _ Aa;have Xg:(cP f i ⟨P,S,Vo⟩).length=32:=Xg;have I:fh h4 p (some (cP f i ⟨P,S,Vo⟩++dd)):=H.le y;have O:=pT.le y;generalize cP f i ⟨P,S,Vo⟩=RH at *;cbv;repeat (first|rw[al A] | (refine ak rA ?_;cbv)|(refine⟨⟨_,rfl,rfl⟩,?_⟩;cbv))
  refine NI O I bc Xg (λh5 k5 xV F=>?_);have x5:=So O I k5;have EJ:=x5 _ _ rA (λc e fr v=>by cases v;decide);have q:=(X.mono (y.t _)).mono (x5.t (by decide));have cp:=(cq.mono (y.t _)).mono (x5.t (by decide));have bd:=(T.mono (y.t _)).mono (x5.t (by decide));have K5:Kp [x,r,p,d] h h5:=K3.trans ((y.kp _).trans (k5.up (by simp)));clear Aa X cq pT H QG rA O I x5 k5 K3 T;cbv;repeat (first|rw[al A] | (refine ak EJ ?_;cbv)|(refine⟨⟨_,rfl,rfl⟩,?_⟩;cbv))
  refine bJh q Ui bd ht uK bp KW (λl x6 m W K=>?_);have CD:=x6 _ _ EJ (λc e fr v=>by cases v;decide);have vM:=xV.lt (m _ (by decide));have SE:=F.mt (m _ (by decide));have cn:=cp.mono (m _ (by decide));have cx:=bd.mono (m _ (by decide));have K6:Kp [x,r,p,d] h l:=K5.trans (W.up (by simp));clear EJ q xV F cp x6 m W K5 bd;cbv;repeat (first|rw[al A] | (refine ak CD ?_;cbv)|(refine⟨⟨_,rfl,rfl⟩,?_⟩;cbv))
  refine mV vM true (λh7 Y XZ=>?_);have o:=vM.lk Y (tys:=150::411::5::(yp++je)) (by decide);have D:=o _ _ _ _ (by decide) CD;have N:=SE.mt (o.sub);have bl:=K.mono (o.sub);have et:=cn.mono (o.sub);have dH:=cx.mono (o.sub);have XZ:nv h7 r p false:=XZ;have K7:Kp [x,r,p,d] h h7:=K6.trans (Y.up (by simp));clear CD K vM SE cn o Y K6 cx;cbv;intro n8 h8 zW e8;have B:Le h7 h8:=by rw[e8];exact Le.set zW
  have di:Sl 161 aV h8 (.slice (some ⟨n8,0,none⟩) 1 1) [⟨P,S,Vo⟩]:=aR (s:=aV) (cs:=[.string P,.int .i64 S,.slice vb vn vc]) ((congrFun e8 n8).trans ae) ⟨_,_,_,rfl,dH.mono (B.t _)⟩;clear e8;have bj:=B _ _ D;have aH:=N.le B;have ag:=XZ.le B;have bk:=bl.mono (B.t _);have ec:Le hP h8:=(aW _ K7).trans B;cbv;refine(et.mono (B.t _)).app di (by decide) rfl (by decide) dt ec (λm9 b9 c9 h9 eu l9 t9 k9 u9=>?_);have au:=t9 [150] (by decide) _ _ _ _ (by decide) bj;have:=bI h9 b9 m9 c9 (cv _ l9) au (bk.mono (t9 _ (by decide))) (ag.lt (t9 _ (by decide))) (aH.mt (t9 _ (by decide))) u9;clear bI k9;cbv;refine⟨_,((b9,m9,c9),A .aC .add .i64 z 1),aF,by constructor<;>cbv,this⟩
 rw[decide_eq_false hc];have eC:i=cs.length:=by omega
 subst eC;have ar:M.drop cs.length=[]:=List.drop_eq_nil_of_le (by omega);rw[ar,List.flatten_nil,List.nil_append,TU]at C;rw[List.take_length]at Z;have dh:vR h2 e1 m1 d1 e2 m2 V e3 m3 d3 ⟨f,op,bs,ts⟩:=dW.le (aW _ K2);have dZ:=Z.sl;have ej:Le hP h2:=aW _ K2;clear aZ df ar TU JI fl Z;cbv;repeat (first|rw[al A] | (refine ak QH ?_;cbv)|(refine ak Ng ?_;cbv)|(refine⟨⟨_,rfl,rfl⟩,?_⟩;cbv))
 refine aZX dh dZ hB ⟨by show cs.length<=2^30;omega,R.cKx⟩ hL (λh3 f1 o1 g1 f2 o2 g2 f3 o3 g3 tb tc l3 bF cr=>?_);have Aa:=l3 _ _ Ng;have pT:=U.le l3;have H:=C.le l3;have X:=u.mono (l3.t _);have eh:=ej.trans l3;obtain⟨WH,WG,E,br⟩:=L';cbv;refine LM cr R.cKx (by rw[cr.len];omega) (λh4 g4 y bc Xg=>?_);have rA:=y _ _ Aa;have O:=pT.le y;have I:=H.le y;have cd:=bF.le y;have L:=X.mono (y.t _);have eg:=eh.trans y;generalize eS f cs=TR at *;cbv;refine NI O I bc Xg (λh5 k5 xV F=>?_);have x5:=So O I k5;have EJ:=x5 _ _ rA (λc e fr v=>by cases v;decide);have q:=L.mono (x5.t (by decide));have Qo:=cd.ls (x5.t (by decide));have K5:Kp [x,r,p,d] h h5:=(cv _ eg).trans (k5.up (by simp));have eW:=aW _ K5;have ew:o1=WG.length:=Qo.rP.len;have dk:E.length<=2^20:=by
  have h2:bs.length<=2^16:=hB.n2;have:(fq ⟨f,op,bs,ts⟩ cs).lW.length<=bs.length+1:=by
   unfold fq lj;split
   .show(bs++_).length<=_;rw[List.length_append,List.length_singleton];exact Nat.le_refl _
   show bs.length<=_;omega
  rw[hL]at this;have:E.length<=bs.length+1:=this;omega
 have fin:∀l,Kp [x,r,p,d] h l->l x=some (.cells (List.toArray [.slice (some ⟨d,0,none⟩) n1 Q,.slice b2 n2 c2,.slice b3 n3 c3,.slice b4 n4 c4,.int .i64 f,.slice e1 m1 d1,.slice e2 m2 V,.slice e3 m3 d3]) 150 (0,0))->
  cA 61 bo l d Q (tt cs.length)->vR l f1 o1 g1 f2 o2 g2 f3 o3 g3 ⟨WH,WG,E,br⟩->nv l r p false->fh l p (some a)->∀h',h'=bu l x (.cells (List.toArray [.slice (some ⟨d,0,none⟩) n1 Q,.slice b2 n2 c2,.slice b3 n3 c3,.slice b4 n4 c4,.int .i64 WH,.slice f1 o1 g1,.slice f2 o2 g2,.slice f3 o3 g3]) 150 (0,0))->k (.tuple #[]) h':=λl a1 a2 a3 a4 a5 a6 h' hh=>by
  have x7:dI [150] l h':=by rw[hh];exact fE a2 (by decide)
  exact hk h' f1 o1 g1 f2 o2 g2 f3 o3 g3 (a1.trans (by rw[hh];exact Kp.set (by simp))) (by rw[hh];exact ae) (a3.mono (x7.t (by decide))) (a4.ls (x7.t (by decide))) (a5.lt (x7.t (by decide))) (a6.mt (x7.t (by decide)))
 have fe:A .ay .eql (A .nat o1) 0=decide (WG.length=0):=by rw[aq A,hA.nat];exact decide_eq_decide.2 (by show(o1:Int)=0↔_;omega)
 have cQ:mL ⟨WH,WG,E,br⟩=if 0<WG.length then [u8 0]else [u8 1]++(jg E).2.1:=rfl
 rw[cQ]at F;have kI:A .ay .eql 0 0=true:=by rw[aq A];rfl
 have dj:A .ay .eql 1 1=true:=by rw[aq A];rfl
 obtain⟨eM,IJ,-⟩:=xV.out;clear hk cQ Ng Aa rA U pT O C H I u X L bF cd x5 k5;cbv;rw[fe];by_cases xd:WG.length=0
 .rw[if_neg (by omega)]at F;rw[decide_eq_true xd];have F:fh h5 p (some (u8 1::((jg E).2.1++a))):=by simpa[List.append_assoc]using F
  have ek:=eN (u8 1) ((jg E).2.1++a);cbv;repeat (first|rw[al A] | (refine ak IJ ?_;cbv)|(refine⟨⟨_,rfl,rfl⟩,?_⟩;cbv))
  refine pR F (λl ky Uv W SE=>?_);rw[ek]at Uv SE;have Uv:ky=1:=Uv;subst Uv;cbv;refine aZZ true ?_;have m:=F.lt W (tys:=Ff) (by decide);have CD:=m _ _ _ _ (by decide) EJ;have K:=q.mono (m.sub);have aN:=Qo.ls (m.sub);have vM:nv l r p false:=xV.lt (m.sub);have K6:Kp [x,r,p,d] h l:=K5.trans (W.up (by simp));have du:=yL E;clear EJ q Qo xV IJ K5 m W ek;cbv;rw[dj];refine mV vM true (λh7 Y XZ=>?_);have o:=vM.lk Y (tys:=150::411::5::(yp++je)) (by decide);have D:=o _ _ _ _ (by decide) CD;have N:=SE.mt (o.sub);have bl:=K.mono (o.sub);have ct:=aN.ls (o.sub);have XZ:nv h7 r p false:=XZ;have K7:Kp [x,r,p,d] h h7:=K6.trans (Y.up (by simp));have N:fh h7 p (some ((jg E).2.1++a)):=N;clear CD K aN vM K6 o Y SE;cbv;refine Wz ct.lW dk (λh8 g8 B dB=>?_);have bj:=B _ _ D;have bk:=bl.mono (B.t _);have ea:=ct.le B;have ag:=XZ.le B;have aH:=N.le B;have K8:Kp [x,r,p,d] h h8:=K7.trans (B.kp _);generalize (jg E).2.1=said at *;generalize (jg E).1=dn at *;generalize (jg E).2.2=de at *;cbv;refine NI ag aH dB du (λh9 k9 dL dR=>?_);have x9:=So ag aH k9;have au:=x9 _ _ bj (λc e fr v=>by cases v;decide);have ff:=fin h9 (K8.trans (k9.up (by simp))) au (bk.mono (x9.t (by decide))) (ea.ls (x9.t (by decide))) dL dR;clear fin;cbv;repeat rw[al A]
  refine jr au (by simp) (λh' hh=>?_);have:=ff h' hh;cbv;exact this
 rw[if_pos (by omega)]at F;rw[decide_eq_false xd];have F:fh h5 p (some (u8 0::a)):=F;have ek:=eN (u8 0) a;cbv;repeat (first|rw[al A] | (refine ak IJ ?_;cbv)|(refine⟨⟨_,rfl,rfl⟩,?_⟩;cbv))
 refine pR F (λl ky Uv W SE=>?_);rw[ek]at Uv SE;have Uv:ky=0:=Uv;subst Uv;cbv;refine aZZ false ?_;have m:=F.lt W (tys:=Ff) (by decide);have CD:=m _ _ _ _ (by decide) EJ;have K:=q.mono (m.sub);have aN:=Qo.ls (m.sub);have vM:nv l r p false:=xV.lt (m.sub);have K6:Kp [x,r,p,d] h l:=K5.trans (W.up (by simp));clear EJ q Qo xV IJ K5 m W ek;cbv;rw[kI];refine mV vM true (λh7 Y XZ=>?_);have o:=vM.lk Y (tys:=150::411::5::(yp++je)) (by decide);have D:=o _ _ _ _ (by decide) CD;have N:=SE.mt (o.sub);have ff:=fin h7 (K6.trans (Y.up (by simp))) D (K.mono (o.sub)) (aN.ls (o.sub)) XZ N;clear fin;cbv;repeat rw[al A]
 refine jr D (by simp) (λh' hh=>?_);have:=ff h' hh;cbv;exact this
structure GC(hb h:ab)(x:Nat)(d:DB)(L:jE):Prop where
 out:∃b1 n1 c1 b2 n2 c2 b3 n3 c3 b4 n4 c4 e1 m1 d1 e2 m2 d2 e3 m3 d3,h x=some (.cells (List.toArray [.slice b1 n1 c1,.slice b2 n2 c2,.slice b3 n3 c3,.slice b4 n4 c4,.int .i64 L.next,.slice e1 m1 d1,.slice e2 m2 d2,.slice e3 m3 d3]) 150 (0,0))/\
  aU 61 bo hb h (.slice b1 n1 c1) d.aj/\eD h (.agg #[.slice b1 n1 c1,.slice b2 n2 c2,.slice b3 n3 c3,.slice b4 n4 c4]) d/\vR h e1 m1 d1 e2 m2 d2 e3 m3 d3 L
theorem GC.lt{b:ab}{x:Nat}(q:GC b h x d L)(l:bV (150::(uN++je)) h h'):GC b h' x d L:=by obtain⟨a,w,i,c,y,j,e,z,k,f,A,m,e1,t,n,r,u,o,s,v,p,g,B,C,D⟩:=q.out;exact⟨a,w,i,c,y,j,e,z,k,f,A,m,e1,t,n,r,u,o,s,v,p,l _ _ _ _ (by decide) g,B.mono (l.sub),C.ls (l.sub),D.ls (l.sub)⟩
theorem GC.le{b:ab}{x:Nat}(q:GC b h x d L)(l:Le h h'):GC b h' x d L:=q.lt (l.t _)
theorem bZP{x r:Nat}{t:St}{b:Bool}(qx:GC a h x d L)(lb:Le a h)(nx:a x=none)(nr:a r=none)(np:a p=none)(qr:nv h r p b)(G:fh h p t)(sm:Small d)
 (z:∀h',Kp [x,r,p] h h'->GC a h' x (mu d t).1 L->nv h' r p (b||(mu d t).2.1)->fh h' p (mu d t).2.2->k (.tuple #[]) h'):
 Ct 143 [.pointer (some ⟨x,0,none⟩),.pointer (some ⟨r,0,none⟩)] h k:=by
 obtain⟨A,hA⟩:=Ar.ex;obtain⟨dr,gr,EF⟩:=qr.out;have T:mu d t=match dg (aM t).1 with
  |none=>((bK d QQ).1,true,(aM t).2)
  |some x=>((bK d x).1,decide ((bK d x).2≠0),(aM t).2):=rfl
 have X:(strOf (aM t).1).size<=2^40:=by rw[BG];have:=yj t;omega
 have kI:A .ay .eql 0 0=true:=by rw[aq A];rfl
 refine bB aQA A Tryz.func143 ?_;cbv;rw[al A];refine ak gr ?_;cbv;refine xP G (λh1 Q O E F=>?_);have x1:Kp [x,r,p] h h1:=E.up (by simp);have K:=qx.lt (G.lt E (by decide));have Dt:=qr.lt (G.lt E (by decide));rw[<-O]at X;have R:jn Q=(aM t).1:=by rw[O,wo]
 rw[<-R]at T;generalize aM t=R1 at *;obtain⟨tx,s1⟩:=R1;have F:fh h1 p s1:=F;clear O R;cbv;refine tN X (λn2 c2 m2 h2 yY dZ m q2=>?_);cbv;refine Wr q2 (λh3 s sb sn sc e n q3 W=>?_);have T:mu d t=((bK d s).1,(!decide (e=0))||decide ((bK d s).2≠0),s1):=by
  rcases W with⟨B,rfl,he⟩|⟨B,he⟩
  .rw[B]at T;rw[decide_eq_false he];exact T
  rw[B]at T;rw[decide_eq_true he];exact T
 clear W;have Fw:=K.le (m.trans n);have o:=Dt.le (m.trans n);have FB:=F.le (m.trans n);have x3:=x1.trans ((m.trans n).kp _);have ge:A .ay .eql e 0=decide (e=0):=aq A ..;generalize decide (e=0)=t1 at *;obtain⟨nm,cols,key,only⟩:=s;cbv;rw[ge];refine mV o t1 (λh4 j nO=>?_);have x4:=x3.trans (j.up (by simp));have qZ:=Fw.lt (o.lk j (by decide));have Y:=FB.mt (o.lk j (by decide));have q4:=q3.mono (o.lk j (by decide));obtain⟨b1,n1,c1,b2,vg,ic,b3,n3,c3,b4,n4,c4,e1,m1,d1,e2,m2,d2,e3,m3,d3,rA,ag,Qn,AM⟩:=qZ.out;cbv;rw[al A];refine ak rA ?_;cbv;refine Lw Qn q4 sm (D:=bK d ⟨nm,cols,key,only⟩) rfl (λh5 y P w Z I V jB tU jA H S uf l o5=>?_);have Tr:Le a h4:=lb.aE (bs:=[x,r,p]) (by simp[nx,nr,np]) x4;have J:=o5.buf.base Tr;have N:=o5.db;have FA:=AM.le l;generalize bK d ⟨nm,cols,key,only⟩=C at *;obtain⟨q,c⟩:=C;have T:mu d t=(q,!t1||decide (c≠0),s1):=T;have fe:A .ay .eql c 0=decide (c=0):=aq A ..;have xj:((b|| !t1)|| !decide (c=0))=(b||(!t1||decide (c≠0))):=by simp[Bool.or_assoc]
 rw[T]at z;clear T;have xV:=nO.le l;have x5:=x4.trans (l.kp _);have EJ:=l _ _ rA;have N:eD h5 (.agg #[.slice y P w,.slice Z I V,.slice jB tU jA,.slice H S uf]) q:=N;have J:aU 61 bo a h5 (.slice y P w) q.aj:=J;cbv;rw[fe];refine mV xV (decide (c=0)) (λh6 k6 vM=>?_);rw[xj]at vM;have x6:=x5.trans (k6.up (by simp));have g:=xV.lk k6 (tys:=150::411::5::(uN++je)) (by decide);have M:=g _ _ _ _ (by decide) EJ;have U:=(Y.le l).mt (g.sub);have Qm:=N.ls (g.sub);have v:=J.mono (g.sub);have u:=FA.ls (g.sub);have fin:∀h',h'=bu h6 x (.cells (List.toArray [.slice y P w,.slice Z I V,.slice jB tU jA,.slice H S uf,.int .i64 L.next,.slice e1 m1 d1,.slice e2 m2 d2,.slice e3 m3 d3]) 150 (0,0))->k (.tuple #[]) h':=λh' f=>by
  have i:dI [150] h6 h':=by rw[f];exact fE M (by decide)
  exact z h' (x6.trans (by rw[f];exact Kp.set (by simp))) ⟨_,_,_,_,_,_,_,_,_,_,_,_,_,_,_,_,_,_,_,_,_,by rw[f];exact ae,v.mono (i.t (by decide)),Qm.ls (i.t (by decide)),u.ls (i.t (by decide))⟩ (vM.lt (i.t (by decide))) (U.mt (i.t (by decide)))
 clear z xj;cbv;rw[al A];refine jr M (by simp) (λh' f=>?_);have:=fin h' f;cbv;exact this
theorem dKr{x r:Nat}{s:St}{b:Bool}(qx:GC a h x d L)(lb:Le a h)(nx:a x=none)(nr:a r=none)(np:a p=none)(X:nv h r p b)(W:fh h p s)
 (u:∀h',Kp [x,r,p] h h'->GC a h' x (jl d s).1 L->nv h' r p (b||(jl d s).2.1)->fh h' p (jl d s).2.2->k (.tuple #[]) h'):
 Ct 144 [.pointer (some ⟨x,0,none⟩),.pointer (some ⟨r,0,none⟩)] h k:=by
 obtain⟨dr,gr,EF⟩:=X.out;obtain⟨b1,n1,c1,b2,vg,ic,b3,n3,c3,b4,n4,c4,e1,m1,d1,e2,m2,d2,e3,m3,d3,I,ag,K,Mv⟩:=qx.out;have T:jl d s=((dQ d (strOf (aM s).1)).1,decide ((dQ d (strOf (aM s).1)).2≠0),(aM s).2):=rfl;refine an aQz Tryz.func144 λA hA=>?_;cbv;rw[al A];refine ak I ?_;cbv;rw[al A];refine ak gr ?_;cbv;refine xP W (λq c O Q v=>?_);have x4:Kp [x,r,p] h q:=Q.up (by simp);have i:=W.lt Q (tys:=150::299::(uN++je)) (by decide);have Z:=i _ _ _ _ (by decide) I;have Qn:=K.ls (i.sub);have AM:=Mv.ls (i.sub);have nO:=X.lt (i.sub);rw[<-O]at T;generalize aM s=R1 at *;obtain⟨tx,s1⟩:=R1;have v:fh q p s1:=v;clear O;cbv;refine ak Z ?_;cbv;refine⟨⟨_,rfl,rfl⟩,?_⟩;cbv;refine ZR Qn c (D:=dQ d c) rfl (λF o P Y y B V M tU H z E uf l S=>?_);have Tr:Le a q:=lb.aE (bs:=[x,r,p]) (by simp[nx,nr,np]) x4;have J:=S.buf.base Tr;have N:=S.db;have FA:=AM.le l;generalize dQ d c=C at *;obtain⟨j,e⟩:=C;have T:jl d s=(j,decide (e≠0),s1):=T;have fe:A .ay .eql e 0=decide (e=0):=aq A ..;have xj:(b|| !decide (e=0))=(b||decide (e≠0)):=by simp
 rw[T]at u;clear T;have xV:=nO.le l;have x5:=x4.trans (l.kp _);have EJ:=l _ _ Z;have N:eD F (.agg #[.slice o P Y,.slice y B V,.slice M tU H,.slice z E uf]) j:=N;have J:aU 61 bo a F (.slice o P Y) j.aj:=J;cbv;rw[fe];refine mV xV (decide (e=0)) (λG R vM=>?_);rw[xj]at vM;have x6:=x5.trans (R.up (by simp));have t:=xV.lk R (tys:=150::411::5::(uN++je)) (by decide);have w:=t _ _ _ _ (by decide) EJ;have U:=(v.le l).mt (t.sub);have Qm:=N.ls (t.sub);have n:=J.mono (t.sub);have m:=FA.ls (t.sub);have fin:∀h',h'=bu G x (.cells (List.toArray [.slice o P Y,.slice y B V,.slice M tU H,.slice z E uf,.int .i64 L.next,.slice e1 m1 d1,.slice e2 m2 d2,.slice e3 m3 d3]) 150 (0,0))->k (.tuple #[]) h':=λh' f=>by
  have g:dI [150] G h':=by rw[f];exact fE w (by decide)
  exact u h' (x6.trans (by rw[f];exact Kp.set (by simp))) ⟨_,_,_,_,_,_,_,_,_,_,_,_,_,_,_,_,_,_,_,_,_,by rw[f];exact ae,n.mono (g.t (by decide)),Qm.ls (g.t (by decide)),m.ls (g.t (by decide))⟩ (vM.lt (g.t (by decide))) (U.mt (g.t (by decide)))
 clear u xj;cbv;rw[al A];refine jr w (by simp) (λh' f=>?_);have:=fin h' f;cbv;exact this
inductive rF:DB->jE->Bs->DB->jE->Prop
 |aJq {d d':DB} {L:jE} {l:Bs} (h1:(az 1 (some l)).1=1) (h2:mu d (az 1 (some l)).2=(d',false,some [])):rF d L l d' L
 |drop {d d':DB} {L:jE} {l:Bs} (h1:(az 1 (some l)).1=2) (h2:jl d (az 1 (some l)).2=(d',false,some [])):rF d L l d' L
 |tx {d:DB} {L:jE} {cs:List cC} {tt:Nat->List bJ} (h1:tt 0=d.aj) (h2:RunT cs tt):rF d L (jV ⟨L.next,cs⟩ (fq L cs)) (fy d (tt cs.length)) (fq L cs)
 |kE {d:DB} {L:jE} (h1:L.rP.length≠0):rF d L (Gw ((L.lW.length+1:Nat):Int) (dN (jm L.rP L.lW))) d (lj L)
theorem eD.cQl{a e f:Option Addr}{n k g m o j:Nat}{T:List bJ}(q:eD h (.agg #[.slice b n c,.slice a k g,.slice e m i,.slice f o j]) d)(l:bV [45,79,161,183,253] h h')(v:Sl 61 bo h' (.slice b n c) T):eD h' (.agg #[.slice b n c,.slice a k g,.slice e m i,.slice f o j]) (fy d T):=by obtain⟨_,_,_,_,_,_,_,_,_,_,_,_,w,p,x,s,t,u,r⟩:=q.out;cases p;exact⟨_,_,_,_,_,_,_,_,_,_,_,_,w,rfl,v,s.mono (l.sub),t.mono (l.sub),u.mono (l.sub),r⟩
theorem iXv{f:ab}{x:Nat}{M:DB}{l:Bs}(S:rF d L l M L')(qx:GC f h x d L)(lb:Le f h)(R:f x=none)(hB:Dd L)(sm:Small d){e1:Nat}{m:Nat}(q:Sl e1 bL h (.slice b m c) l)
 (y:∀h',Le f h'->GC f h' x M L'->k (.bool true) h'):
 Ct 64 [.pointer (some ⟨x,0,none⟩),.slice b m c] h k:=by
 obtain⟨A,hA⟩:=Ar.ex;obtain⟨_,_,_,_,_,_,_,_,_,_,_,_,_,_,_,_,_,_,_,_,_,gx,-⟩:=qx.out;have aj:A .ay .eql 1 1=true:=by rw[aq A];rfl
 have ao:A .ay .eql 2 1=false:=by rw[aq A];rfl
 have ar:A .ay .eql 2 2=true:=by rw[aq A];rfl
 have au:A .ay .eql 3 1=false:=by rw[aq A];rfl
 have aF:A .ay .eql 3 2=false:=by rw[aq A];rfl
 have aH:A .ay .eql 3 3=true:=by rw[aq A];rfl
 have aN:A .ay .eql 4 1=false:=by rw[aq A];rfl
 have aW:A .ay .eql 4 2=false:=by rw[aq A];rfl
 have aZ:A .ay .eql 4 3=false:=by rw[aq A];rfl
 have bc:A .ay .eql 4 4=true:=by rw[aq A];rfl
 have K:A .not false=true:=by rw[hA.not];rfl
 have kI:A .ay .eql 0 0=true:=by rw[aq A];rfl
 refine bB eXC A Tryz.func64 ?_;cbv;refine Qh q (λv p hp l1 V=>?_);cbv;intro r B hr e2;have l2:Le v B:=by rw[e2];exact Le.set hr
 have F:B r=some (.cells (List.toArray [.pointer (some ⟨p,0,none⟩),.int .u32 0,.int .i32 0,.int .u32 0,.bool false]) 299 (0,0)):=(congrFun e2 r).trans ae;have Aj:nv B r p false:=⟨0,F,.inl ⟨rfl,rfl⟩⟩;have q2:=V.le l2;have eF:=l1.trans l2;have sK:=l1.none hr;have N:f p=none:=lb.none hp;have P:f r=none:=lb.none sK;clear e2;cbv;rw[al A];refine ak F ?_;cbv;refine pR q2 (λh3 kx W k3 s=>?_);have l3:Le h h3:=eF.aE (bs:=[p]) (by simpa using hp) k3;have U:=Aj.lt (q2.lt k3 (by decide));have Fw:=qx.le l3;have I:=lb.trans l3;clear V q2 Aj l1 l2 eF k3 F;cases S with
 |aJq E G=>generalize az 1 (some l)=R1 at *;obtain⟨nk,s1⟩:=R1;have E:nk=1:=E;subst E;have W:kx=1:=W;subst W;have s:fh h3 p s1:=s;have G:mu d s1=(M,false,some []):=G;cbv;rw[aj];cbv;refine bZP Fw I R P N U s sm (λa z Z O u=>?_);rw[G]at Z O u;have T:Le f a:=I.aE (bs:=[x,r,p]) (by simp[R,P,N]) z;have Z:GC f a x M L:=Z;have O:nv a r p false:=O;have u:fh a p (some []):=u;obtain⟨d4,X,-⟩:=O.out;have this:=y a T Z;clear y;cbv;rw[al A];refine ak X ?_;cbv;rw[K];cbv;rw[al A];refine ak X ?_;cbv;refine Jw u (λe g=>?_);have g:e=0:=g.2 rfl;subst g;cbv;rw[kI];exact this
 |drop E G=>generalize az 1 (some l)=R1 at *;obtain⟨nk,s1⟩:=R1;have E:nk=2:=E;subst E;have W:kx=2:=W;subst W;have s:fh h3 p s1:=s;have G:jl d s1=(M,false,some []):=G;cbv;rw[ao];cbv;rw[ar];cbv;refine dKr Fw I R P N U s (λa z Z O u=>?_);rw[G]at Z O u;have T:Le f a:=I.aE (bs:=[x,r,p]) (by simp[R,P,N]) z;have Z:GC f a x M L:=Z;have O:nv a r p false:=O;have u:fh a p (some []):=u;obtain⟨d4,X,-⟩:=O.out;have this:=y a T Z;clear y;cbv;rw[al A];refine ak X ?_;cbv;rw[K];cbv;rw[al A];refine ak X ?_;cbv;refine Jw u (λe g=>?_);have g:e=0:=g.2 rfl;subst g;cbv;rw[kI];exact this
 |tx v B=>
  rename_i cs tt;obtain⟨L',hL⟩:∃L',fq L cs=L':=⟨_,rfl⟩;rw[hL]at s W y;obtain⟨D,Q,w,H⟩:=L;have e0:jV ⟨D,cs⟩ L'=u8 3::(bR D++([u8 (cs.length:Int)]++((cs.mapIdx (eo D)).flatten++(eS D cs++(mL L'++[]))))):=by unfold jV oN;simp[List.append_assoc]
  rw[show jV ⟨(⟨D,Q,w,H⟩:jE).next,cs⟩ L'=_ from e0,eN]at W s;have W:kx=3:=W;subst W;obtain⟨b1,n1,c1,b2,n2,c2,b3,n3,c3,b4,n4,c4,e1,m1,d1,e2,m2,d2,e3,m3,d3,Y,J,GH,Jy⟩:=Fw.out;have ek:n1=d.aj.length:=J.sl.len;have kY:0<n1:=by obtain⟨c,hc⟩:=ax (xs:=cs) (i:=0) B.n.1;obtain⟨ti,t,t',ht,-⟩:=(B.step 0 c hc).out;rw[v]at ht;have:=(List.getElem?_eq_some_iff.1 ht).1;omega
  obtain⟨nb,rfl,dp,-,ow⟩:=J.own kY;cbv;rw[au];cbv;rw[aF];cbv;rw[aH];cbv;refine iXf Y (by rw[v];exact ow) (by rw[v];exact ek) Jy hB B U hL s (λa f1 o1 g1 f2 o2 g2 f3 o3 g3 z rA ag AM O u=>?_);have T:Le f a:=I.aE (bs:=[x,r,p,nb]) (by simp[R,P,N,dp]) z;have C:n1=(tt cs.length).length:=by rw[B.len cs.length (Nat.le_refl _),v];exact ek
  have x4:dI [150,299,411,61] h3 a:=by
   obtain⟨dr,F,-⟩:=U.out;obtain⟨rr,V,-⟩:=s.out;obtain⟨bb,n,c,d2,g2,-⟩:=V.out;obtain⟨cc,gc,-⟩:=ow.out;exact z.x (λb f o j=>by
    simp only[List.mem_cons,List.not_mem_nil,or_false]at f;rcases f with rfl|rfl|rfl|rfl
    .rw[Y]at j;cases j;exact⟨_,_,_,rfl,by decide⟩
    .rw[F]at j;cases j;exact⟨_,_,_,rfl,by decide⟩
    .rw[g2]at j;cases j;exact⟨_,_,_,rfl,by decide⟩
    rw[gc]at j;cases j;exact⟨_,_,_,rfl,by decide⟩)
  have Z:GC f a x (fy d (tt cs.length)) L':=⟨_,_,_,_,_,_,_,_,_,_,_,_,_,_,_,_,_,_,_,_,_,rA,ag.buf dp C,GH.cQl (x4.t (by decide)) (ag.sl C),AM⟩;obtain⟨d4,X,-⟩:=O.out;have this:=y a T Z;clear y;cbv;rw[al A];refine ak X ?_;cbv;rw[K];cbv;rw[al A];refine ak X ?_;cbv;refine Jw u (λe g=>?_);have g:e=0:=g.2 rfl;subst g;cbv;rw[kI];exact this
 |kE v=>
  obtain⟨D,Q,w,H⟩:=L;have v:Q.length≠0:=v;have e0:Gw ((w.length+1:Nat):Int) (dN (jm Q w))=u8 4::(bR ((w.length+1:Nat):Int)++(dN (jm Q w)++[])):=by unfold Gw;simp[List.append_assoc]
  rw[show Gw (((⟨D,Q,w,H⟩:jE).lW.length+1:Nat):Int) (dN (jm (⟨D,Q,w,H⟩:jE).rP (⟨D,Q,w,H⟩:jE).lW))=_ from e0,eN]at W s;have W:kx=4:=W;subst W;obtain⟨b1,n1,c1,b2,n2,c2,b3,n3,c3,b4,n4,c4,e1,m1,d1,e2,m2,d2,e3,m3,d3,Y,J,GH,Jy⟩:=Fw.out;cbv;rw[aN];cbv;rw[aW];cbv;rw[aZ];cbv;rw[bc];cbv;refine bJg Y Jy hB v U s (λa f1 o1 g1 f2 o2 g2 f3 o3 g3 z rA AM O u=>?_);have T:Le f a:=I.aE (bs:=[x,r,p]) (by simp[R,P,N]) z;have x4:dI [150,299,411] h3 a:=by
   obtain⟨dr,F,-⟩:=U.out;obtain⟨rr,V,-⟩:=s.out;obtain⟨bb,n,c,d2,g2,-⟩:=V.out;exact z.x (λb f o j=>by
    simp only[List.mem_cons,List.not_mem_nil,or_false]at f;rcases f with rfl|rfl|rfl
    .rw[Y]at j;cases j;exact⟨_,_,_,rfl,by decide⟩
    .rw[F]at j;cases j;exact⟨_,_,_,rfl,by decide⟩
    rw[g2]at j;cases j;exact⟨_,_,_,rfl,by decide⟩)
  have Z:GC f a x d (lj ⟨D,Q,w,H⟩):=⟨_,_,_,_,_,_,_,_,_,_,_,_,_,_,_,_,_,_,_,_,_,rA,J.mono (x4.t (by decide)),GH.ls (x4.t (by decide)),AM⟩;obtain⟨d4,X,-⟩:=O.out;have this:=y a T Z;clear y;cbv;rw[al A];refine ak X ?_;cbv;rw[K];cbv;rw[al A];refine ak X ?_;cbv;refine Jw u (λe g=>?_);have g:e=0:=g.2 rfl;subst g;cbv;rw[kI];exact this
def lz:jE:=⟨0,[],[],[]⟩
structure uP(dL:List Bs)(sd:Nat->DB)(sl:Nat->jE):Prop where
 d0:sd 0=dz
 l0:sl 0=lz
 step:∀i l,dL[i]? =some l->rF (sd i) (sl i) l (sd (i+1)) (sl (i+1))
 aXC:∀i,i<=dL.length->Dd (sl i)
 small:∀i,i<=dL.length->Small (sd i)
theorem dKi{D:Dk}(q:lY h p D)(hP:1<=D.now.length){d:List Bs}{E:Nat->DB}{sl:Nat->jE}(hL:(eV D).2=0/\(eV D).1.bad=false/\(eV D).1.dL=d)(R:uP d E sl)
 (L:∀h' a s g x,dI OH h h'->bZR h' s g x->EX h' g p (eV D).1.size (eV D).1.count->GC a h' x (E d.length) (sl d.length)->k (.tuple #[.pointer (some ⟨s,0,none⟩),.int .i64 0]) h'):
 Ct 19 [.pointer (some ⟨p,0,none⟩)] h k:=by
 obtain⟨A,X⟩:=Ar.ex;have kI:A .ay .neq 0 0=false:=by rw[av A];rfl
 have F:A .not true=false:=by rw[X.not];rfl
 obtain⟨M,U,T⟩:=hL;refine bB eXI A Tryz.func19 ?_;cbv;refine aZV q hP (λf e x1 he a=>?_) (λf g b m c h0 au x1 ql n=>?_)
 .exfalso;rcases a with a|a
  .exact a M
  rw[U]at a;cases a
 rw[T]at n;generalize (eV D).1.size=sz at *;generalize (eV D).1.count=cn at *;have ag:=n.len;obtain⟨aH,ar⟩:=n.bound;cbv;rw[kI];cbv;intro x t hx I;have l2:Le f t:=by rw[I];exact Le.set hx
 have g2:t x=some (.cells (List.toArray [.slice none 0 0,.slice none 0 0,.slice none 0 0,.slice none 0 0,.int .i64 0,.slice none 0 0,.slice none 0 0,.slice none 0 0]) 150 (0,0)):=(congrFun I x).trans ae;have qx:GC f t x (E 0) (sl 0):=by rw[R.d0,R.l0];exact⟨_,_,_,_,_,_,_,_,_,_,_,_,_,_,_,_,_,_,_,_,_,g2,aU.nil,⟨_,_,_,_,_,_,_,_,_,_,_,_,[],rfl,Sl.nil,Sl.nil,Sl.nil,Sl.nil,rfl⟩,⟨Sl.nil,Sl.nil,Sl.nil⟩⟩
 clear I;obtain⟨J,Z⟩:∃J:Nat->Int->ab->Prop,∀w z h',J w z h'=(∃i,aK z i/\w=m-i/\i<=m/\Le f h'/\GC f h' x (E i) (sl i)):=⟨_,λ_ _ _=>rfl⟩;have H:J m 0 t:=by rw[Z];exact⟨0,⟨rfl⟩,rfl,by omega,l2,qx⟩
 cbv;refine aG.go (G:=Int) (λz=>[(27,.v (.int .i64 z))]) (λ_=>[]) (λw z h'=>J w z h') m 0 (by constructor<;>cbv) H ?_
 intro w z Q Y;rw[Z]at Y;cbv;obtain⟨i,y,hw,hi,B,C⟩:=Y;have fl:A .ay .lss z (A .nat m)=decide (i<m):=by rw[aD A,y.eq,X.nat];exact decide_eq_decide.2 (by show(i:Int)<(m:Int)↔_;omega)
 rw[fl];by_cases V:i<m
 .obtain⟨l,hl⟩:=bn d i;have S:=R.step i l hl;have lB:=R.aXC i (by omega);have sm:=R.small i (by omega);have ix:=y.ix V;have FB:=n.mono (B.t _);have aF:m-(i+1)<w:=by omega
  have kG:=y.succ (A:=A);rw[decide_eq_true V];clear fl H;cbv;refine⟨⟨n.aQ,ix⟩,?_⟩;cbv;refine FB.load hl y.eq (λcs ao=>?_);obtain⟨v,rfl,qv⟩:=ao;obtain⟨vb,vm,vc,rfl⟩:∃vb vm vc,v=.slice vb vm vc:=by obtain⟨b',cap,e1,-⟩:=qv.out;exact⟨_,_,_,e1⟩
  cbv;refine iXv S C B hx lB sm qv (λj W q4=>?_);have:=show J (m-(i+1)) (A .aC .add .i64 z 1) j by rw[Z];exact⟨i+1,kG,rfl,by omega,W,q4⟩
  clear Z L;cbv;rw[F];cbv;refine⟨m-(i+1),A .aC .add .i64 z 1,aF,by constructor<;>cbv,this⟩
 have QA:i=m:=by omega
 have N:i=d.length:=by omega
 rw[N]at C;rw[decide_eq_false V];have O:∃o,o.length=8/\Q x=some (.cells (List.toArray o) 150 (0,0)):=by obtain⟨_,_,_,_,_,_,_,_,_,_,_,_,_,_,_,_,_,_,_,_,_,P,-⟩:=C.out;exact⟨_,rfl,P⟩
 obtain⟨o,aj,P⟩:=O;clear fl Z H;cbv;intro s j hs r;have W:Le Q j:=by rw[r];exact Le.set hs
 have g4:j s=some (.cells (List.toArray [.pointer (some ⟨g,0,none⟩),.pointer none]) 158 (0,0)):=(congrFun r s).trans ae;have hq:∀h',h'=bu j s (.cells (List.toArray [.pointer (some ⟨g,0,none⟩),.pointer (some ⟨x,0,none⟩)]) 158 (0,0))->k (.tuple #[.pointer (some ⟨s,0,none⟩),.int .i64 0]) h':=λh' u=>by
  have K:Le Q h':=by rw[u,r,dD];exact Le.set hs
  exact L h' f s g x (x1.trans ((B.trans K).x _)) ⟨by rw[u];exact ae⟩ (ql.lt ((B.trans K).t _)) (C.le K)
 have rA:=W _ _ P;clear r L;cbv;rw[al A];refine zE g4 rfl (bY (x:=o[0]) rA (List.getElem?_eq_getElem _)) (λh' u=>?_);have:=hq h' u;cbv;exact this
theorem Ww{d:Nat->DB}{sl:Nat->jE}(q:lY h p g.D)(I:xS g P r)(a:0<P)(i:g.s<2^60)(n:g.n<2^60)(R:uP r d sl)
 (f:∀h' s,dI OH h h'->AB h' s p g (d r.length) (sl r.length)->k (.tuple #[.pointer (some ⟨s,0,none⟩),.int .i64 0]) h'):
 Ct 19 [.pointer (some ⟨p,0,none⟩)] h k:=by
 have hl:=FI I a i n;refine dKi q (by rw[I.gX.len];exact a) (by rw[hl];exact⟨rfl,rfl,rfl⟩) R (λh' H s c x b m l o=>?_);rw[hl]at l;obtain⟨t,N,y,u,O,z,v,Q,A,w,S,B,e1,J,C,F,K,D,G,M,E,e,T,j,L⟩:=o.out;exact f h' s b ⟨_,_,_,_,_,_,_,_,_,⟨c,x,m,l,q.lt (b.t (by decide)),⟨_,_,_,_,_,_,_,_,_,_,_,_,e,j⟩⟩,L⟩
theorem NF(q:AB h s p G d L)
 (r:∀h' b n e a j f c l i,Le h h'->vR h' b n e a j f c l i L->k (.agg #[.int .i64 L.next,.slice b n e,.slice a j f,.slice c l i]) h'):Ct 15 [.pointer (some ⟨s,0,none⟩)] h k:=by
 obtain⟨e1,w,O,S,y,Q,T,z,R,F,D⟩:=q.out;obtain⟨g,x,E,X,Z,H⟩:=F.out;obtain⟨b,n,e,a,j,f,c,l,i,M,V,N,m,W⟩:=H.out;obtain⟨K,zQ,vO,I⟩:=L;refine an eXJ Tryz.func15 λA U=>?_;cbv;rw[al A];refine Db (bY E.out rfl) m rfl ?_;cbv;rw[al A];refine ak m ?_;cbv;refine aQR D (λo P Y J t B u v C=>?_);have:=r o P w Y J y t B z u v C;cbv;exact this
theorem bKU(q:AB h s p G d L)(a:fKW h d k):Ct 13 [.pointer (some ⟨s,0,none⟩)] h k:=by obtain⟨e1,m,b,f,i,c,g,j,e,w,l⟩:=q.out;exact dJY w a
theorem aXf(q:AB h s p G d L){nm:ByteArray}{cols:List iK}{key:Int}{only:Bool}{n:Nat}(m:Sl 202 bh h (.slice b n c) cols)
 (U:n<=2^16) (a:nm.size<=2^40) (e:∀x∈cols,x.name.size<=2^40) (r:Small d) (i:G.s<=2^29) (g:G.n<=2^29) (j:G.D.ws.length<=2^28) 
 (f:∀h',dI He h h'->AB h' s p (gH G d ⟨nm,cols,key,only⟩).2.1 (gH G d ⟨nm,cols,key,only⟩).2.2 L->k (.int .i64 (gH G d ⟨nm,cols,key,only⟩).1) h'):
 Ct 36 [.pointer (some ⟨s,0,none⟩),.agg #[.string nm,.slice b n c,.int .i64 key,.bool only]] h k:=by
 obtain⟨e1,A,t,y,B,u,z,C,v,o,l⟩:=q.out;exact aXe o m U a e r i g j (λh' x w=>f h' x ⟨_,_,_,_,_,_,_,_,_,w,l.ls (x.t (by decide))⟩)
theorem LG(I:xS g P r)(l:Bs)(hl:l.length<=65536)(e:0<P):(∃a,aT g l=(0,a)/\xS a P (r++[l])/\a.s=g.s+8+l.length/\64+a.s<=P*64)\/aT g l=(14,g):=by
 by_cases h:64+g.s+8+l.length<=P*64
 .obtain⟨a,b,c,d⟩:=zC I l hl h;exact .inl ⟨a,b,c,d,by omega⟩
 refine .inr ?_;have p:=I.gX.len;unfold aT;rw[if_neg (by omega),if_pos (by rw[p];omega)]
theorem uP.nil:uP [] (λ_=>dz) (λ_=>lz)where
 d0:=rfl
 l0:=rfl
 step:=λi l h=>by cases h
 aXC:=λ_ _=>⟨⟨Int.le_refl _,by decide⟩,λt ht=>(by cases ht),Nat.zero_le _,Nat.zero_le _,Nat.zero_le _⟩
 small:=λ_ _=>gQd.small
theorem uP.snoc{s:Nat->DB}{sl:Nat->jE}(R:uP r s sl){l:Bs}(S:rF (s r.length) (sl r.length) l d L)(B:Dd L)(m:Small d):
 ∃J b,uP (r++[l]) J b/\J (r++[l]).length=d/\b (r++[l]).length=L:=by
 have n:(r++[l]).length=r.length+1:=by rw[List.length_append,List.length_singleton]
 refine⟨λi=>if i<=r.length then s i else d,λi=>if i<=r.length then sl i else L,⟨?_,?_,λi x hx=>?_,λi a=>?_,λi a=>?_⟩,?_,?_⟩
 .show(if 0<=r.length then s 0 else d)=dz;rw[if_pos (Nat.zero_le _)];exact R.d0
 .show(if 0<=r.length then sl 0 else L)=lz;rw[if_pos (Nat.zero_le _)];exact R.l0
 .have a:i<r.length+1:=by have:=(List.getElem?_eq_some_iff.1 hx).1;omega
  by_cases F:i<r.length
  .rw[List.getElem?_append_left F]at hx;show rF (if i<=r.length then s i else d) (if i<=r.length then sl i else L) x (if i+1<=r.length then s (i+1)else d) (if i+1<=r.length then sl (i+1)else L);rw[if_pos (by omega),if_pos (by omega),if_pos (by omega),if_pos (by omega)];exact R.step i x hx
  have Q:i=r.length:=by omega
  subst Q;rw[List.getElem?_append_right (Nat.le_refl _),Nat.sub_self]at hx;have hx:l=x:=by simpa using hx
  subst hx;show rF (if r.length<=r.length then s r.length else d) (if r.length<=r.length then sl r.length else L) l (if r.length+1<=r.length then s (r.length+1)else d) (if r.length+1<=r.length then sl (r.length+1)else L);rw[if_pos (Nat.le_refl _),if_pos (Nat.le_refl _),if_neg (by omega),if_neg (by omega)];exact S
 .show Dd (if i<=r.length then sl i else L);split
  .rename_i h;exact R.aXC i h
  exact B
 .show Small (if i<=r.length then s i else d);split
  .rename_i h;exact R.small i h
  exact m
 .show(if(r++[l]).length<=r.length then s (r++[l]).length else d)=d;rw[if_neg (by omega)]
 show(if(r++[l]).length<=r.length then sl (r++[l]).length else L)=L;rw[if_neg (by omega)]
theorem Ys(h:-2^63<=z/\z<2^63):IntKind.i64.wrap ((lq (bR z):Nat):Int)=z:=by
 obtain⟨n,a⟩:∃n:Nat,(n:Int)=z % 18446744073709551616:=⟨(z % 18446744073709551616).toNat,Int.toNat_of_nonneg (Int.emod_nonneg _ (by decide))⟩;have F:n<18446744073709551616:=by have:=Int.emod_lt_of_pos z (b:=18446744073709551616) (by decide);omega
 have c:∀k,(fY z k).toNat=n / 2^(8*k) % 256:=λk=>by
  unfold fY;rw[<-a];have e:((n:Int) / (2^(8*k)))=((n / 2^(8*k):Nat):Int):=by simp
  rw[e,yg]
 have e1:lq (bR z)=n:=by show lq [fY z 0,fY z 1,fY z 2,fY z 3,fY z 4,fY z 5,fY z 6,fY z 7]=n;simp only[lq,c];omega
 rw[e1,a];have K:(2:Int)^63=9223372036854775808:=rfl;show(IntKind.i64.wrap (z % 18446744073709551616))=z;by_cases d:0<=z
 .rw[show z % 18446744073709551616=z from by omega,IntWalk.i64_in _ (by omega)]
 have:z % 18446744073709551616=z+18446744073709551616:=by omega
 rw[this];have w:IntKind.i64.wrap (z+18446744073709551616)=IntKind.i64.wrap z:=by unfold IntKind.wrap;simp[IntKind.bits,IntKind.signed]
 rw[w,IntWalk.i64_in _ (by omega)]
theorem Te(h:-2^63<=z/\z<2^63)(r:Bs):IntKind.i64.wrap ((az 8 (some (bR z++r))).1:Int)=z/\(az 8 (some (bR z++r))).2=some r:=by rw[FF (bW z)];exact⟨Ys h,rfl⟩
theorem Re{v:gV}(h:da v=0)(d:-2^63<=v.n/\v.n<2^63)(r:Bs):iw (some (iL v++r))=(v,some r):=by
 obtain⟨k,n,s⟩:=v;have g:k=0\/k=1\/k=2\/k=3:=by
  by_cases c:(decide (k<0)||decide (k>3))=true
  .unfold da at h;rw[if_pos c]at h;cases h
  simp at c;omega
 have e:(u8 0).toNat=0:=rfl;have u:(u8 1).toNat=1:=rfl;have i:(u8 2).toNat=2:=rfl;have u3:(u8 3).toNat=3:=rfl;rcases g with rfl|rfl|rfl|rfl
 .simp[da,fX,gI]at h;have c:n=0/\s=⟨#[]⟩:=Decidable.byContradiction λc=>by
   split at h
   .cases h
   rename_i b;exact c ⟨Decidable.byContradiction λa=>b (.inl a),Decidable.byContradiction λa=>b (.inr a)⟩
  obtain⟨rfl,rfl⟩:=c;show iw (some (u8 0::r))=_;unfold iw;rw[eN,e];rfl
 .simp[da,fX,gI]at h;have c:s=⟨#[]⟩/\(n=0\/n=1):=Decidable.byContradiction λc=>by
   split at h
   .cases h
   rename_i b;refine c ⟨Decidable.byContradiction λa=>b (.inl a),?_⟩;by_cases h0:n=0
   .exact .inl h0
   exact .inr (Decidable.byContradiction λa=>b (.inr ⟨h0,a⟩))
  obtain⟨rfl,c⟩:=c;rcases c with rfl|rfl
  .show iw (some (u8 1::u8 0::r))=_;unfold iw;rw[eN,u];show(if(1:Nat)=0 then _ else if(1:Nat)=1 then((⟨1,((az 1 (some (u8 0::r))).1:Int),⟨#[]⟩⟩:gV),(az 1 (some (u8 0::r))).2)else _)=_;rw[eN,e];rfl
  show iw (some (u8 1::u8 1::r))=_;unfold iw;rw[eN,u];show(if(1:Nat)=0 then _ else if(1:Nat)=1 then((⟨1,((az 1 (some (u8 1::r))).1:Int),⟨#[]⟩⟩:gV),(az 1 (some (u8 1::r))).2)else _)=_;rw[eN,u];rfl
 .simp[da,fX,gI]at h;have c:s=⟨#[]⟩:=Decidable.byContradiction λc=>by rw[if_neg c]at h;cases h
  subst c;have d:-2^63<=n/\n<2^63:=d;obtain⟨a1,a2⟩:=Te d r;show iw (some (u8 2::(bR n++r)))=_;unfold iw;rw[eN,i];show(if(2:Nat)=0 then _ else if(2:Nat)=1 then _ else if(2:Nat)=2 then((⟨2,IntKind.i64.wrap ((az 8 (some (bR n++r))).1:Int),⟨#[]⟩⟩:gV),(az 8 (some (bR n++r))).2)else _)=_;rw[a1,a2];rfl
 simp[da,fX,gI]at h;have c:n=0/\s.size<=60:=Decidable.byContradiction λc=>by
  by_cases h0:n=0
  .rw[if_pos h0]at h;by_cases f:(60:Int)<s.size
   .rw[if_pos f]at h;cases h
   exact c ⟨h0,by omega⟩
  rw[if_neg h0]at h;cases h
 obtain⟨rfl,j⟩:=c;have t:=Bw (s:=s) (by omega) r;have Z:strOf (jn s)=s:=by unfold strOf jn;simp
 show iw (some (u8 3::(dY s++r)))=_;unfold iw;rw[eN,u3];show(if(3:Nat)=0 then _ else if(3:Nat)=1 then _ else if(3:Nat)=2 then _ else if(3:Nat)=3 then((⟨3,0,strOf (aM (some (dY s++r))).1⟩:gV),(aM (some (dY s++r))).2)else _)=_;rw[t,Z];rfl
theorem NV:∀(l:Row) (r:Bs),(∀v∈l,da v=0/\-2^63<=v.n/\v.n<2^63)->ei l.length (some (l.flatMap iL++r))=(l,some r):=λl=>by
 induction l with
 |nil=>intro r _;rfl
 |cons v l i=>intro r h;have a:=h v (List.mem_cons_self ..);show((iw (some ((v::l).flatMap iL++r))).1::(ei l.length (iw (some ((v::l).flatMap iL++r))).2).1,(ei l.length (iw (some ((v::l).flatMap iL++r))).2).2)=_;rw[List.flatMap_cons,List.append_assoc,Re a.1 a.2];show(v::(ei l.length (some (l.flatMap iL++r))).1,(ei l.length (some (l.flatMap iL++r))).2)=_;rw[i r (λx hx=>h x (List.mem_cons_of_mem _ hx))]
theorem Sq{l:Row}(b:l.length<=6)(h:∀v∈l,da v=0/\-2^63<=v.n/\v.n<2^63):eU (fH l)=some l:=by
 have hl:(u8 (l.length:Int)).toNat=l.length:=by rw[yg];omega
 have a:=NV l [] h;rw[List.append_nil]at a;unfold eU fH;rw[eN,hl,if_neg (by omega)];show iN (ei l.length (some (l.flatMap iL)))=_;rw[a];unfold iN;rw[if_pos rfl,if_pos];exact List.all_eq_true.2 (λv a=>decide_eq_true (h v a).1)
end Go.S
