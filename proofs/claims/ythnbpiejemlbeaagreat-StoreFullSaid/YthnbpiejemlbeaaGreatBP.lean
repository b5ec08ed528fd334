import Derived.Test.YthnbpiejemlbeaaGreatBO
import Derived.Test.YthnbpiejemlbeaaGreatBK
set_option linter.all false
set_option maxRecDepth 100000
set_option maxHeartbeats 8000000
namespace Go.S
open Go.Sx Go.Proofs
variable {e:Bs}{s:ByteArray}{d:DB}{G:Lg}{F c c1 m n p r:Nat}{b:Option Addr}{k:Value->ab->Prop}{L':Value×Value×Value×Value}{h h':ab}{L:jE}
def eo(id:Int)(i:Nat)(c:cC):Bs:=(([u8 c.op]++dY c.table)++dY (strOf (fH c.row)))++cP id i c
def oN(id:Int)(n:Nat):Bs:=([u8 3]++bR id)++[u8 (n:Int)]
def mL(L:jE):Bs:=if 0<L.rP.length then [u8 0]else [u8 1]++(jg L.lW).2.1
def jV(t:pa)(L:jE):Bs:=((oN t.id t.JL.length++(t.JL.mapIdx (eo t.id)).flatten)++eS t.id t.JL)++mL L
def Gw(n:Int)(said:Bs):Bs:=([u8 4]++bR n)++said
theorem Lz(d:Int)(i:Nat)(c:cC):(eo d i c).length<=2^18:=by unfold eo;have h:=fj c.table;have a:=fj (strOf (fH c.row));have b:(cP d i c).length=32:=fw _;simp only[List.length_append,List.length_cons,List.length_nil];omega
theorem PA{l:List Bs}(h:∀x∈l,x.length<=m):l.flatten.length<=l.length*m:=by
 induction l with
 |nil=>simp
 |cons a l i=>have b:=h a (List.mem_cons_self ..);have c:=i (λx hx=>h x (List.mem_cons_of_mem _ hx));rw[List.flatten_cons,List.length_append,List.length_cons,Nat.succ_mul];omega
theorem Vy(d:Int)(L:List cC)(i:Nat):(((L.mapIdx (eo d)).take i).flatten).length<=L.length*2^18:=by
 have h:((L.mapIdx (eo d)).take i).flatten.length<=((L.mapIdx (eo d)).take i).length*2^18:=PA (λx hx=>by
  have:=List.mem_of_mem_take hx;obtain⟨j,b,rfl⟩:=List.mem_mapIdx.1 this;exact Lz _ _ _)
 have a:((L.mapIdx (eo d)).take i).length<=L.length:=by rw[List.length_take,List.length_mapIdx];omega
 exact Nat.le_trans h (Nat.mul_le_mul_right _ a)
theorem XD(x:Int)(g:Nat->Int):fK (.int .i64 0::List.replicate 32 (.int .u8 0)) 0 (.int .i64 x::hl g)=.int .i64 x::hl g:=by kernel_rfl
theorem bZN{d nx:Int}{b1 b2 b3:Option Addr}{O n2 c2 n3 c3:Nat}{cs:List cC}{y:List pa}{bs:List xT}{ts:List (List pa)}(q:Sl 161 aV h (.slice b n c) cs)(ql:vR h b1 O c1 b2 n2 c2 b3 n3 c3 ⟨nx,y,bs,ts⟩)
 (hB:∀x∈cs,AH x) (hn:cs.length<=255) (hb:bs.length<=2^20) 
 (j:∀h' a n' c',Le h h'->aU 5 bL h h' (.slice a n' c') (jV ⟨d,cs⟩ ⟨nx,y,bs,ts⟩)->n'<=2^27->k (.slice a n' c') h'):
 Ct 53 [.agg #[.int .i64 d,.slice b n c],.agg #[.int .i64 nx,.slice b1 O c1,.slice b2 n2 c2,.slice b3 n3 c3]] h k:=by
 obtain⟨A,hA⟩:=Ar.ex;have au:=q.len;have ek:O=y.length:=ql.rP.len;have hR:jV ⟨d,cs⟩ ⟨nx,y,bs,ts⟩=((oN d cs.length++(cs.mapIdx (eo d)).flatten)++eS d cs)++(if 0<y.length then [u8 0]else [u8 1]++(jg bs).2.1):=rfl;rw[hR]at j;clear hR;have zY:oN d cs.length=(([]++[u8 3])++bR d)++[u8 (A .nat n)]:=by rw[hA.nat,au];rfl
 have Zd:(oN d cs.length).length=10:=by unfold oN;simp[bW]
 obtain⟨H,hH⟩:∃H,H=oN d cs.length:=⟨_,rfl⟩;rw[<-hH]at j zY Zd;clear hH;have rU:=Vy d cs;have B:∀ {i:Nat} {x:cC},cs[i]? =some x->(cs.mapIdx (eo d))[i]? =some (eo d i x):=λh=>by rw[List.getElem?_mapIdx,h];rfl
 have pG:(cs.mapIdx (eo d)).length=cs.length:=List.length_mapIdx;generalize cs.mapIdx (eo d)=M at *;obtain⟨J,U⟩:∃J:Nat->((Option Addr×Nat×Nat)×Int)->ab->Prop,∀w g h',J w g h'=(∃i,aK g.2 i/\w=n-i/\i<=n/\Le h h'/\aU 5 bL h h' (.slice g.1.1 g.1.2.1 g.1.2.2) (H++(M.take i).flatten)):=⟨_,λ_ _ _=>rfl⟩;refine bB gJY A Tryz.func53 ?_;cbv;refine oe (l:=[]) Sl.nil (by omega) 3 (λh1 d1 m1 e1 l1 q1=>?_);have YX:=q1.sl.len;rw[List.nil_append,List.length_singleton]at YX;cbv;refine LO q1.sl (by omega) d (λh2 d2 m2 e2 l2 q2=>?_);have yY:=q2.sl.len;rw[List.length_append,bW,List.nil_append,List.length_singleton]at yY;cbv;refine oe q2.sl (by omega) (A .nat n) (λh3 d3 m3 e3 l3 q3=>?_);have aN:=(l1.trans l2).trans l3;have q3:aU 5 bL h h3 (.slice d3 m3 e3) H:=by rw[zY];exact q3.base (l1.trans l2)
 have df:J n ((d3,m3,e3),0) h3:=by rw[U];exact⟨0,⟨rfl⟩,rfl,by omega,aN,by rw[List.take_zero,List.flatten_nil,List.append_nil];exact q3⟩
 clear q1 q2 q3 zY;cbv;refine aG.go (G:=(Option Addr×Nat×Nat)×Int) (λg=>[(5,.v (.slice g.1.1 g.1.2.1 g.1.2.2)),(23,.v (.int .i64 g.2))]) (λ_=>[(2,[.int .i64 d,.slice b n c]),(3,[.int .i64 nx,.slice b1 O c1,.slice b2 n2 c2,.slice b3 n3 c3])]) (λw g h'=>J w g h') n ((d3,m3,e3),0) (by constructor<;>cbv) df ?_
 intro w g h4 hI;rw[U]at hI;cbv;obtain⟨⟨gb,gm,gc⟩,z⟩:=g;obtain⟨i,u,hw,hi,E,f⟩:=hI;have u:aK z i:=u;have f:aU 5 bL h h4 (.slice gb gm gc) (H++(M.take i).flatten):=f;have nj:=f.sl.len;have cp:=rU i;rw[List.length_append,Zd]at nj;have f1:A .ay .lss z (A .nat n)=decide (i<n):=by rw[aD A,u.eq,hA.nat];exact decide_eq_decide.2 (by show(i:Int)<(n:Int)↔_;omega)
 rw[f1];by_cases hc:i<n
 .rw[decide_eq_true hc];obtain⟨x,hx⟩:=bn cs i;have Qw:=hB x (List.mem_of_getElem? hx);have ix:=u.ix hc;have iU:b.isSome=true:=q.aQ;have aF:n-(i+1)<w:=by omega
  have iq:=pj (B hx);have qG:(cP d i x).length=32:=fw _;have bI:∀a m' c' h',Le h h'->aU 5 bL h h' (.slice a m' c') ((((H++(M.take i).flatten)++[u8 x.op])++(gA x.table++fD x.table))++(gA (strOf (fH x.row))++fD (strOf (fH x.row)))++cP d i x)->J (n-(i+1)) ((a,m',c'),A .aC .add .i64 z 1) h':=λa m' c' h' l' q'=>by
   rw[U];refine⟨i+1,u.succ (A:=A),rfl,hc,l',?_⟩;rw[iq,List.flatten_append,List.flatten_cons,List.flatten_nil,List.append_nil];have e:H++((M.take i).flatten++eo d i x)=(((H++(M.take i).flatten)++[u8 x.op])++(gA x.table++fD x.table))++(gA (strOf (fH x.row))++fD (strOf (fH x.row)))++cP d i x:=by unfold eo dY;simp only[List.append_assoc]
   rw[e];exact q'
  have ht:=fj x.table;have zU:=fj (strOf (fH x.row));have rL:=cP d i x;clear f1 U df iq B rU;generalize H++(M.take i).flatten=P at *;obtain⟨t,R,r⟩:=x;cbv;refine⟨⟨iU,ix⟩,?_⟩;cbv;refine(q.ME E hx u.eq (λcs ao=>?_));obtain⟨rb,rn,rc,rfl,qr⟩:=ao;have qr:Sl 45 aS h (.slice rb rn rc) r:=qr;cbv;refine oe f.sl (by omega) R (λh5 d5 m5 e5 I q5=>?_);have JG:=q5.sl.len;rw[List.length_append,List.length_singleton,<-f.sl.len]at JG;cbv;refine xQ (e1:=0) q5.sl (by omega) t Qw.aJq (λh6 d6 m6 e6 l6 q6=>?_);have ht:(gA t++fD t).length<=65537:=ht;have Pf:m6<=m5+65537:=by have:=q6.sl.len;rw[List.length_append,<-q5.sl.len]at this;omega
  cbv;refine Jt (qr.mono (((E.trans I).trans l6).t _)) (by rw[qr.len];exact Qw.row) Qw.val (λh7 d7 m7 e7 l7 q7 cb=>?_);have gE:=BG (fH r);have zU:(gA (strOf (fH r))++fD (strOf (fH r))).length<=65537:=zU;have bI:∀a m' c' h',Le h h'->aU 5 bL h h' (.slice a m' c') ((((P++[u8 R])++(gA t++fD t))++(gA (strOf (fH r))++fD (strOf (fH r))))++cP d i ⟨t,R,r⟩)->J (n-(i+1)) ((a,m',c'),A .aC .add .i64 z 1) h':=bI;have qG:(cP d i ⟨t,R,r⟩).length=32:=qG;have GS:=f.sl.len;generalize fH r=S at *;cbv;refine qi q7.sl ?_;cbv;refine xQ (e1:=0) (q6.sl.mono (l7.t _)) (by omega) (strOf S) (by omega) (λh8 d8 m8 e8 L m=>?_);have bl:m8<=m6+65537:=by have:=m.sl.len;rw[List.length_append,<-q6.sl.len]at this;omega
  have WL:=(((E.trans I).trans l6).trans l7).trans L;have m:=m.base (((E.trans I).trans l6).trans l7);cbv;refine Wx u (qr.mono (WL.t _)) Qw (λs g v hg=>?_);generalize cP d i ⟨t,R,r⟩=RH at *;generalize ((P++[u8 R])++(gA t++fD t))++(gA (strOf S)++fD (strOf S))=Q at *;have ar:=WL.trans v;cbv;intro F D C Z;have fo:Le s D:=by rw[Z];exact Le.set C
  have Ln:D F=some (.cells (List.toArray (List.replicate 32 (.int .u8 0))) 100 (0,0)):=(congrFun Z F).trans ae;have aj:=ar.none C;have z9:=C;clear Z;cbv;refine jr Ln (Nat.le_refl _) (λN V=>?_);have p:=tM V (AK _ _);have bc:Kp [F] D N:=by rw[V];exact Kp.set (by simp)
  have T:Le s N:=fo.aE (bs:=[F]) (by simpa using z9) bc;clear V;have ou:=m.mono ((v.trans T).t _);cbv;refine ou.app (mf p hg qG) (by decide) rfl (by decide) (by omega) (ar.trans T) (λK X W pJ ag eF cq aW Du=>?_);have gU:=bI X K W pJ eF Du;clear bI aW;cbv;refine⟨_,((X,K,W),A .aC .add .i64 z 1),aF,by constructor<;>cbv,gU⟩
 rw[decide_eq_false hc];rw[List.take_of_length_le (by omega)]at f;have bp:=rU cs.length;rw[List.take_of_length_le (by omega)]at bp;have nj:=f.sl.len;rw[List.length_append,Zd]at nj;clear U df B rU;cbv;refine LM (q.mono (E.t _)) hB (by omega) (λh5 g I hg Cs=>?_);generalize eS d cs=TR at *;have q5:=f.mono (I.t _);have OT:=E.trans I;cbv;intro n6 h6 MS e6;have l6:Le h5 h6:=by rw[e6];exact Le.set MS
 have g6:h6 n6=some (.cells (List.toArray (List.replicate 32 (.int .u8 0))) 100 (0,0)):=(congrFun e6 n6).trans ae;have z6:=MS;clear e6;cbv;refine jr g6 (Nat.le_refl _) (λh7 e7=>?_);have g7:=tM e7 (AK _ _);have Qq:Le h5 h7:=l6.aE (bs:=[n6]) (by simpa using z6) (by rw[e7];exact Kp.set (by simp));clear e7;have q7:=q5.mono (Qq.t _);cbv;refine q7.app (mf g7 hg Cs) (by decide) rfl (by decide) (by omega) (OT.trans Qq) (λm8 b8 c8 h8 bl L t8 k8 m=>?_);clear k8;have GS:m8<=2^26+2^10:=by omega
 have f0:A .ay .gtr (A .nat O) 0=decide (0<y.length):=by rw[aX A,hA.nat];exact decide_eq_decide.2 (by show(O:Int)>0↔_;omega)
 cbv;rw[f0];by_cases xd:0<y.length
 .rw[if_pos xd]at j;rw[decide_eq_true xd];cbv;refine oe m.sl (by omega) 0 (λs d9 m9 e9 v q9=>?_);have bk:=q9.sl.len;rw[List.length_append,List.length_singleton,<-m.sl.len]at bk;have:=j s d9 m9 e9 (L.trans v) (q9.base L) (by omega);clear j;cbv;exact this
 rw[if_neg xd]at j;rw[decide_eq_false xd];have bC:=ql.lW.mono (L.t _);have bj:=yL bs;cbv;refine Wz bC hb (λs g9 v br=>?_);generalize (jg bs).2.1=said at *;generalize (jg bs).1=dn at *;generalize (jg bs).2.2=de at *;cbv;intro F D C Z;have fo:Le s D:=by rw[Z];exact Le.set C
 have Ln:D F=some (.cells (List.toArray (.int .i64 0::List.replicate 32 (.int .u8 0))) 102 (0,0)):=(congrFun Z F).trans ae;have aj:=C;clear Z;cbv;refine jr Ln (Nat.le_refl _) (λN V=>?_);have p:N F=some (.cells (List.toArray (.int .i64 dn::hl g9)) 102 (0,0)):=by have:=(congrFun V F).trans ae;rw[this];exact congrArg (λc=>some (Obj.cells (List.toArray c) 102 (0,0))) (XD dn g9)
 have T:Le s N:=fo.aE (bs:=[F]) (by simpa using aj) (by rw[V];exact Kp.set (by simp));clear V;have ou:=m.mono ((v.trans T).t _);have Y:=L.trans (v.trans T);have sp:Sl 102 bL N (.slice (some ⟨F,1,none⟩) 32 32) said:=wJ (o:=1) (x:=said) p (by rw[<-br];rfl) bj;cbv;rw[al A];refine oe ou.sl (by omega) 1 (λpJ ch K cd eF Du=>?_);have ag:=Du.sl.len;rw[List.length_append,List.length_singleton,<-ou.sl.len]at ag;cbv;refine Du.app (sp.mono (eF.t _)) (by decide) rfl (by decide) (by omega) eF (λbx bZ bF bd cn nP cr aH FB=>?_);have:=j bd bZ bx bF (Y.trans nP) (by rw[<-List.append_assoc];exact FB.base Y) (by omega);clear j aH;cbv;exact this
theorem cKB{s:Nat}{d':DB}{L:Value×Value×Value×Value}(q:AA h s p G d L){l:Bs}(qb:Sl 5 bL h (.slice b m c) l)(hs:G.s<=2^29)(hn:G.n<=2^29)(hm:m<=2^28)(hw:G.D.ws.length<=2^28)
 {w y z B:Option Addr} {I C J D K E N:Nat} (qd:eD h (.agg #[.slice w I C,.slice y J D,.slice z K E,.slice B N F]) d') 
 (hk:∀h',dI He h h'->AA h' s p (aT G l).2 (if(aT G l).1=0 then d' else d) (if(aT G l).1=0 then L' else L)->k (.int .i64 (aT G l).1) h'):
 Ct 52 [.pointer (some ⟨s,0,none⟩),.slice b m c,.agg #[.slice w I C,.slice y J D,.slice z K E,.slice B N F,L'.1,L'.2.1,L'.2.2.1,L'.2.2.2]] h k:=by
 obtain⟨A,hA⟩:=Ar.ex;obtain⟨g,x,qs,ql,qk,qx⟩:=q.out;obtain⟨v5,v6,v7,v8⟩:=L;obtain⟨w5,w6,w7,w8⟩:=L';refine lS A (ai eXE.au eXE.aN) Tryz.func52 rfl (by kernel_rfl) ?_;cbv;intro sc h1 ag e1;have l1:Le h h1:=by rw[e1];exact Le.set ag
 have g1:h1 sc=some (.cells (List.toArray [.pointer (some ⟨s,0,none⟩)]) 38 (0,0)):=(congrFun e1 sc).trans ae;cbv;intro u h2 lD e2;have l2:Le h1 h2:=by rw[e2];exact Le.set lD
 have g2:h2 u=some (.cells (List.toArray [.slice w I C,.slice y J D,.slice z K E,.slice B N F,w5,w6,w7,w8]) 150 (0,0)):=(congrFun e2 u).trans ae;cbv;intro i h3 Q e3;have l3:Le h2 h3:=by rw[e3];exact Le.set Q
 have g3:h3 i=some (.cells (List.toArray [.int .i64 0]) 33 (0,0)):=(congrFun e3 i).trans ae;have r:=(l1.trans l2).trans l3;clear e1 e2 e3;have n:=l3 _ _ (l2 _ _ g1);have O:=l3 _ _ g2;have M:=r _ _ qs.out;have S:=qk.le r;have Jy:=ql.lt (r.t _);have Fw:=qx.le r;cbv;refine ak n ?_;cbv;rw[al A];refine ak M ?_;cbv;refine NO S Jy (qb.mono (r.t _)) hs hn hm hw (λH Z SH AM=>?_);generalize aT G l=R at *;obtain⟨e,j⟩:=R;have SH:lY H p j.D:=SH;have AM:EX H g p (j.s:Int) (j.n:Int):=AM;have hk:∀h',dI He h h'->AA h' s p j (if e=0 then d' else d) (if e=0 then(w5,w6,w7,w8)else(v5,v6,v7,v8))->k (.int .i64 e) h':=hk;have ne:∀ {bl:Nat} {cs:Array Value} {t:Nat} {fr:Nat×Nat},h3 bl=some (.cells cs t fr)->t∉bJP->H bl=some (.cells cs t fr):=λY ht=>Z _ _ Y (λ_ _ _ he=>by cases he;exact ht);have V:=ne g3 (by decide);have W:=ne n (by decide);have U:=ne O (by decide);have X:=ne M (by decide);have qZ:=Fw.lt (Z.t (by decide));have QS:dI He h H:=(r.x _).trans (Z.sup (by decide));have aN:sc≠i:=λe=>by rw[e,V]at W;cases W
 have aH:u≠i:=λe=>by rw[e,V]at U;cases U
 have T:s≠i:=λe=>by rw[e,V]at X;cases X
 have ao:h i=none:=(l1.trans l2).none Q;have t4:=(qd.mono (r)).ls (Z.t (by decide));have fin:∀a,a=bu H i (.cells (List.toArray [.int .i64 e]) 33 (0,0))->dI He h a/\lY a p j.D/\EX a g p (j.s:Int) (j.n:Int)/\uB a x d (v5,v6,v7,v8)/\eD a (.agg #[.slice w I C,.slice y J D,.slice z K E,.slice B N F]) d'/\
  a i=some (.cells #[.int .i64 e] 33 (0,0))/\a sc=some (.cells #[.pointer (some ⟨s,0,none⟩)] 38 (0,0))/\a u=some (.cells (List.toArray [.slice w I C,.slice y J D,.slice z K E,.slice B N F,w5,w6,w7,w8]) 150 (0,0))/\bZR a s g x:=λa f=>by
  have v:dI [33] H a:=by rw[f];exact fE V (by decide)
  refine⟨?_,SH.lt (v.t (by decide)),AM.lt (v.t (by decide)),qZ.lt (v.t (by decide)),t4.ls (v.t (by decide)),by rw[f];exact ae,by rw[f,bN aN];exact W,by rw[f,bN aH];exact U,⟨by rw[f,bN T];exact X⟩⟩;intro b0 o Y bF;rw[f,bN (λe=>by rw[e,ao]at Y;cases Y)];exact QS b0 o Y bF
 clear S Jy Fw SH AM qZ g3 n O M t4 Z;cbv;refine jr V (by simp) (λa f=>?_);obtain⟨v,SG,FA,ar,vN,P,aj,Zv,XY⟩:=fin a f;clear fin f;cbv;refine aZN P aj XY Zv rfl (λbF=>?_) (λh0 h6 f=>?_)
 .have:=hk a v ⟨g,x,XY,FA,SG,by rw[if_neg bF,if_neg bF];exact ar⟩;cbv;refine ak P ?_;cbv;exact this
 have x6:dI [158] a h6:=by rw[f];exact fE XY.out (by decide)
 have aF:h6 i=some (.cells #[.int .i64 e] 33 (0,0)):=by rw[f,bN (Ne.symm T)];exact P
 have aW:u≠s:=λe=>by rw[e,XY.out]at Zv;cases Zv
 have au:h6 u=some (.cells (List.toArray [.slice w I C,.slice y J D,.slice z K E,.slice B N F,w5,w6,w7,w8]) 150 (0,0)):=by rw[f,bN aW];exact Zv
 have:=hk h6 (v.trans (x6.sup (by decide))) ⟨g,u,⟨by rw[f];exact ae⟩,FA.lt (x6.t (by decide)),SG.lt (x6.t (by decide)),by rw[if_pos h0,if_pos h0];exact⟨_,_,_,_,_,_,_,_,_,_,_,_,au,vN.ls (x6.t (by decide))⟩⟩;cbv;refine ak aF ?_;cbv;exact this
structure AB(h:ab)(s p:Nat)(G:Lg)(d:DB)(L:jE):Prop where
 out:∃b1 n1 c1 b2 n2 c2 b3 n3 c3,AA h s p G d (.int .i64 L.next,.slice b1 n1 c1,.slice b2 n2 c2,.slice b3 n3 c3)/\vR h b1 n1 c1 b2 n2 c2 b3 n3 c3 L
theorem AB.le{s:Nat}(q:AB h s p G d L)(l:Le h h'):AB h' s p G d L:=by obtain⟨b,n,e,a,i,f,c,j,g,w,k⟩:=q.out;exact⟨b,n,e,a,i,f,c,j,g,w.lx l,k.le l⟩
theorem AA.now{s g x y:Nat}(b:bZR h s g x)(l:EX h g p (G.s:Int) (G.n:Int))(q:lY h p G.D)(c:uB h y d L')(u:h'=bu h s (.cells (List.toArray [.pointer (some ⟨g,0,none⟩),.pointer (some ⟨y,0,none⟩)]) 158 (0,0))):
 AA h' s p G d L'/\dI [158] h h':=by
 have a:dI [158] h h':=by rw[u];exact fE b.out (by decide)
 exact⟨⟨g,y,⟨by rw[u];exact ae⟩,l.lt (a.t (by decide)),q.lt (a.t (by decide)),c.lt (a.t (by decide))⟩,a⟩
theorem fKP{s:Nat}{i:DB}(q:AB h s p G d L){r t v z:Option Addr}{T B U C V D W:Nat}(qd:eD h (.agg #[.slice r T B,.slice t U C,.slice v V D,.slice z W F]) i)
 (S:∀h',dI [158] h h'->AB h' s p G i L->k (.tuple #[]) h'):
 Ct 16 [.pointer (some ⟨s,0,none⟩),.agg #[.slice r T B,.slice t U C,.slice v V D,.slice z W F]] h k:=by
 obtain⟨Q,c,f,P,K,N,E,O,M,qw,J⟩:=q.out;obtain⟨g,x,Z,ql,qk,qx⟩:=qw.out;obtain⟨d1,m1,e1,d2,m2,a,d3,m3,e3,d4,m4,e4,gx,-⟩:=qx.out;refine an gKt Tryz.func16 λA hA=>?_;cbv;refine aZU qd (λh1 H o Y gJ vg ic jB tU jA Az Et uf m I=>?_);have u:=m _ _ gx;have X:=m _ _ Z.out;cbv;repeat rw[al A]
 refine Db (bY X rfl) u rfl ?_;cbv;repeat (first|rw[al A] | (refine ak u ?_;cbv)|(refine⟨⟨_,rfl,rfl⟩,?_⟩;cbv))
 intro y b hy a;have n:Le h1 b:=by rw[a];exact Le.set hy
 have e:=m.trans n;have R:b y=some (.cells (List.toArray [.slice H o Y,.slice gJ vg ic,.slice jB tU jA,.slice Az Et uf,.int .i64 L.next,.slice Q c f,.slice P K N,.slice E O M]) 150 (0,0)):=(congrFun a y).trans ae;have qy:uB b y i (.int .i64 L.next,.slice Q c f,.slice P K N,.slice E O M):=⟨_,_,_,_,_,_,_,_,_,_,_,_,R,I.ls (n.t _)⟩;have fin:∀h',h'=bu b s (.cells (List.toArray [.pointer (some ⟨g,0,none⟩),.pointer (some ⟨y,0,none⟩)]) 158 (0,0))->k (.tuple #[]) h':=λh' l=>by
  obtain⟨w,x6⟩:=AA.now ⟨e _ _ Z.out⟩ (ql.lt (e.t _)) (qk.le e) qy l;exact S h' ((e.x _).trans x6) ⟨Q,c,f,P,K,N,E,O,M,w,(J.le e).ls (x6.t (by decide))⟩
 have j:=n _ _ X;clear S a qy;cbv;repeat rw[al A]
 refine zE j rfl (bY (x:=.slice H o Y) R rfl) (λh' l=>?_);have:=fin h' l;clear fin;cbv;exact this
def xI(G:Lg)(d:DB)(L:jE)(s:Int):Int×Int×Lg×DB×jE:=
 if(cW d s).2.2≠0 then(0,(cW d s).2.2,G,d,L)
 else if(cW d s).2.1.length=0 then(-1,0,G,(cW d s).1,L)
 else if(aT G (jV ⟨L.next,(cW d s).2.1⟩ (fq L (cW d s).2.1))).1=0 then(L.next,0,(aT G (jV ⟨L.next,(cW d s).2.1⟩ (fq L (cW d s).2.1))).2,(cW d s).1,fq L (cW d s).2.1)
 else(0,(aT G (jV ⟨L.next,(cW d s).2.1⟩ (fq L (cW d s).2.1))).1,(aT G (jV ⟨L.next,(cW d s).2.1⟩ (fq L (cW d s).2.1))).2,(dU d s).1,L)
theorem NL{s:Nat}(q:AB h s p G d L)(f:Int)(ok:pQ n d)(yX:n<2^18)(lb:Dd L)(rU:(cW d f).2.1.length<=255)(MX:∀c∈(cW d f).2.1,AH c)
 (hs:G.s<=2^29) (hn:G.n<=2^29) (hw:G.D.ws.length<=2^28) {W:Int×Int×Lg×DB×jE} (b:xI G d L f=W) 
 (m:∀h',dI He h h'->AB h' s p W.2.2.1 W.2.2.2.1 W.2.2.2.2->k (.tuple #[.int .i64 W.1,.int .i64 W.2.1]) h'):
 Ct 17 [.pointer (some ⟨s,0,none⟩),.int .i64 f] h k:=by
 obtain⟨l,i,j,P,K,N,E,O,M,qw,B⟩:=q.out;obtain⟨g,x,qs,ql,qk,qx⟩:=qw.out;obtain⟨d1,m1,e1,d2,m2,e2,d3,m3,e3,d4,m4,e4,gx,qd⟩:=qx.out;unfold xI at b;obtain⟨a,z,v,e⟩:=L;obtain⟨C,hC⟩:∃C,cW d f=C:=⟨_,rfl⟩;rw[hC]at b rU MX;obtain⟨S,cs,ce⟩:=C;have b:(if ce≠0 then((0,ce,G,d,⟨a,z,v,e⟩):Int×Int×Lg×DB×jE)
  else if cs.length=0 then(-1,0,G,S,⟨a,z,v,e⟩)
  else if(aT G (jV ⟨a,cs⟩ (fq ⟨a,z,v,e⟩ cs))).1=0 then(a,0,(aT G (jV ⟨a,cs⟩ (fq ⟨a,z,v,e⟩ cs))).2,S,fq ⟨a,z,v,e⟩ cs)
  else(0,(aT G (jV ⟨a,cs⟩ (fq ⟨a,z,v,e⟩ cs))).1,(aT G (jV ⟨a,cs⟩ (fq ⟨a,z,v,e⟩ cs))).2,(dU d f).1,⟨a,z,v,e⟩))=W:=b
 have rU:cs.length<=255:=rU;have MX:∀c∈cs,AH c:=MX;have gx:h x=some (.cells (List.toArray [.slice d1 m1 e1,.slice d2 m2 e2,.slice d3 m3 e3,.slice d4 m4 e4,.int .i64 a,.slice l i j,.slice P K N,.slice E O M]) 150 (0,0)):=gx;refine an gKs Tryz.func17 λA hA=>?_;cbv;rw[al A];refine Db (bY qs.out rfl) gx rfl ?_;cbv;rw[al A];refine ak gx ?_;cbv;refine PJ qd ok yX f hC (λh1 T Y V b2 n2 c2 b3 n3 c3 b4 n4 c4 b5 n5 c5 H J Q=>?_);have J:eD h1 (.agg #[.slice T Y V,.slice b2 n2 c2,.slice b3 n3 c3,.slice b4 n4 c4]) S:=J;have Q:Sl 161 aV h1 (.slice b5 n5 c5) cs:=Q;have JF:n5=cs.length:=Q.len;have q1:=q.le H;have Pu:=H _ _ gx;have aW:=H _ _ qs.out;have fe:A .ay .neq ce 0=decide (ce≠0):=av A ..;have fl:A .ay .eql (A .nat n5) 0=decide (cs.length=0):=by rw[aq A,hA.nat];exact decide_eq_decide.2 (by show(n5:Int)=0↔_;omega)
 cbv;rw[fe];by_cases hc:ce≠0
 .rw[if_pos hc]at b;subst b;have:=m h1 (H.x _) q1;rw[decide_eq_true hc];clear m;cbv;exact this
 rw[if_neg hc]at b;rw[decide_eq_false hc];clear fe hC;cbv;rw[fl];by_cases MY:cs.length=0
 .rw[if_pos MY]at b;subst b;rw[decide_eq_true MY];cbv;repeat (first|rw[al A] | (refine ak Pu ?_;cbv)|(refine⟨⟨_,rfl,rfl⟩,?_⟩;cbv))
  intro y X hy e2;have o:Le h1 X:=by rw[e2];exact Le.set hy
  have F:=H.trans o;have gy:X y=some (.cells (List.toArray [.slice T Y V,.slice b2 n2 c2,.slice b3 n3 c3,.slice b4 n4 c4,.int .i64 a,.slice l i j,.slice P K N,.slice E O M]) 150 (0,0)):=(congrFun e2 y).trans ae;have qy:uB X y S (.int .i64 a,.slice l i j,.slice P K N,.slice E O M):=⟨_,_,_,_,_,_,_,_,_,_,_,_,gy,J.ls (o.t _)⟩;have fin:∀h',h'=bu X s (.cells (List.toArray [.pointer (some ⟨g,0,none⟩),.pointer (some ⟨y,0,none⟩)]) 158 (0,0))->k (.tuple #[.int .i64 (-1),.int .i64 0]) h':=λh' D=>by
   obtain⟨w,x6⟩:=AA.now ⟨F _ _ qs.out⟩ (ql.lt (F.t _)) (qk.le F) qy D;exact m h' ((F.x _).trans (x6.sup (by decide))) ⟨l,i,j,P,K,N,E,O,M,w,(B.le F).ls (x6.t (by decide))⟩
  have aZ:=o _ _ aW;clear m e2 qy;cbv;repeat rw[al A]
  refine zE aZ rfl (bY (x:=.slice T Y V) gy rfl) (λh' D=>?_);have:=fin h' D;clear fin;cbv;exact this
 rw[if_neg MY]at b;rw[decide_eq_false MY];cbv;repeat (first|rw[al A] | (refine ak Pu ?_;cbv)|(refine⟨⟨_,rfl,rfl⟩,?_⟩;cbv))
 obtain⟨L',hL⟩:∃L',fq ⟨a,z,v,e⟩ cs=L':=⟨_,rfl⟩;have bc:L'.lW.length<=2^20:=by
  have X:v.length<=2^16:=lb.n2;rw[<-hL];unfold fq lj;split
  .show(v++_).length<=_;rw[List.length_append,List.length_singleton];omega
  show v.length<=_;omega
 rw[hL]at b;refine aZX (B.le H) Q lb ⟨by show cs.length<=2^30;omega,MX⟩ hL (λX b6 n6 c6 b7 n7 c7 b8 n8 c8 b9 c9 o U au=>?_);have aF:=J.ls (o.t _);have F:=H.trans o;have q2:=q1.le o;have Ng:=o _ _ Pu;obtain⟨WH,WG,Dn,ag⟩:=L';cbv;refine bZN au U MX rU bc (λh3 rb rn rc l3 qr Iv=>?_);have nP:=F.trans l3;have GH:=aF.ls (l3.t _);have ao:=U.le l3;have q3:=qw.lx nP;have Aa:=l3 _ _ Ng;have aj:=B.le nP;generalize jV ⟨a,cs⟩ ⟨WH,WG,Dn,ag⟩=rec at *;cbv;refine cKB q3 qr.sl hs hn (by omega) hw GH (L':=(.int .i64 WH,.slice b6 n6 c6,.slice b7 n7 c7,.slice b8 n8 c8)) (λh4 x4 Z=>?_);have aN:=ao.ls (x4.t (by decide));have aH:=aj.ls (x4.t (by decide));have ne:∀ {bl:Nat} {cs:Array Value} {t:Nat} {fr:Nat×Nat},h3 bl=some (.cells cs t fr)->t∉He->h4 bl=some (.cells cs t fr):=λhb ht=>x4 _ _ hb (λ_ _ _ he=>by cases he;exact ht);have rA:=ne Aa (by decide);have Qn:=(qd.mono nP).ls (x4.t (by decide));have QS:dI He h h4:=(nP.x _).trans x4;generalize aT G rec=R at *;obtain⟨u,RG⟩:=R;have Z:AA h4 s p RG (if u=0 then S else d) (if u=0 then(.int .i64 WH,.slice b6 n6 c6,.slice b7 n7 c7,.slice b8 n8 c8)else(.int .i64 a,.slice l i j,.slice P K N,.slice E O M)):=Z;have b:(if u=0 then((a,0,RG,S,⟨WH,WG,Dn,ag⟩):Int×Int×Lg×DB×jE)else(0,u,RG,(dU d f).1,⟨a,z,v,e⟩))=W:=b;have fr:A .ay .neq u 0=decide (u≠0):=av A ..;clear au U ao q2 q3 aF GH qr Ng Aa ne aj;cbv;rw[fr];by_cases r:u=0
 .rw[if_pos r]at b;rw[if_pos r,if_pos r]at Z;subst b;rw[decide_eq_false (λg=>g r)];have:=m h4 QS ⟨_,_,_,_,_,_,_,_,_,Z,aN⟩;clear m;cbv;exact this
 rw[if_neg r]at b;rw[if_neg r,if_neg r]at Z;subst b;rw[decide_eq_true r];obtain⟨g',x',ar,AM,SH,-⟩:=Z.out;cbv;repeat (first|rw[al A] | (refine ak rA ?_;cbv)|(refine⟨⟨_,rfl,rfl⟩,?_⟩;cbv))
 refine HQ Qn ok yX f rfl (λh5 T Y V b2 n2 c2 b3 n3 c3 b4 n4 c4 l5 vN=>?_);generalize dU d f=RB at *;obtain⟨RD,bj⟩:=RB;have EJ:=l5 _ _ rA;cbv;repeat (first|rw[al A] | (refine ak EJ ?_;cbv)|(refine⟨⟨_,rfl,rfl⟩,?_⟩;cbv))
 intro y h6 hy e6;have l6:Le h5 h6:=by rw[e6];exact Le.set hy
 have I:=l5.trans l6;have gy:h6 y=some (.cells (List.toArray [.slice T Y V,.slice b2 n2 c2,.slice b3 n3 c3,.slice b4 n4 c4,.int .i64 a,.slice l i j,.slice P K N,.slice E O M]) 150 (0,0)):=(congrFun e6 y).trans ae;have qy:uB h6 y RD (.int .i64 a,.slice l i j,.slice P K N,.slice E O M):=⟨_,_,_,_,_,_,_,_,_,_,_,_,gy,vN.ls (l6.t _)⟩;have fin:∀h',h'=bu h6 s (.cells (List.toArray [.pointer (some ⟨g',0,none⟩),.pointer (some ⟨y,0,none⟩)]) 158 (0,0))->k (.tuple #[.int .i64 0,.int .i64 u]) h':=λh' D=>by
  obtain⟨w,x6⟩:=AA.now ⟨I _ _ ar.out⟩ (AM.lt (I.t _)) (SH.le I) qy D;exact m h' (QS.trans ((I.x _).trans (x6.sup (by decide)))) ⟨l,i,j,P,K,N,E,O,M,w,(aH.le I).ls (x6.t (by decide))⟩
 have bd:=I _ _ ar.out;clear m e6 qy;cbv;repeat rw[al A]
 refine zE bd rfl (bY (x:=.slice T Y V) gy rfl) (λh' D=>?_);have:=fin h' D;clear fin;cbv;exact this
theorem eN(x:UInt8)(l:Bs):az 1 (some (x::l))=(x.toNat,some l):=by
 have h:dO 1 (some (x::l))=([x],some l):=by show(if 1<=(x::l).length then((x::l).take 1,some ((x::l).drop 1))else([],none))=_;rw[if_pos (by simp)];rfl
 unfold az;rw[h];show(lq [x],some l)=_;have:lq [x]=x.toNat:=by simp[lq]
 rw[this]
theorem NI{s t:Bs}(qr:nv h r p false)(qp:fh h p (some (s++t))){g:Nat->Int}(hg:hl g=aI s)(X:s.length=32)
 (hk:∀h',Kp [r,p] h h'->nv h' r p false->fh h' p (some t)->k (.tuple #[]) h'):
 Ct 266 [.pointer (some ⟨r,0,none⟩),.agg (List.toArray (hl g))] h k:=by
 refine an dXx Tryz.func266 λA hA=>?_;cbv;intro a q m e1;have F:Le h q:=by rw[e1];exact Le.set m
 have g1:q a=some (.cells (List.toArray (hl g)) 100 (0,0)):=(congrFun e1 a).trans ae;have nr:a≠r:=λe=>by
  obtain⟨d,g,-⟩:=qr.out;rw[e,g]at m;cases m
 have np:a≠p:=λe=>by
  obtain⟨rr,q1,-⟩:=qp.out;obtain⟨bb,n,c,d,g,-⟩:=q1.out;rw[e,g]at m;cases m
 clear e1;obtain⟨J,Z⟩:∃J:Nat->Int->ab->Prop,∀w z h',J w z h'=(∃i,aK z i/\w=32-i/\i<=32/\Kp [r,p] q h'/\nv h' r p false/\fh h' p (some (s.drop i++t))/\h' a=some (.cells (List.toArray (hl g)) 100 (0,0))):=⟨_,λ_ _ _=>rfl⟩;have M:J 32 0 q:=by rw[Z];exact⟨0,⟨rfl⟩,rfl,by omega,Kp.refl _ _,qr.le F,qp.le F,g1⟩
 cbv;refine aG.go (G:=Int) (λz=>[(5,.v (.int .i64 z))]) (λ_=>[]) (λw z h'=>J w z h') 32 0 (by constructor<;>cbv) M ?_
 intro w z R Y;rw[Z]at Y;cbv;obtain⟨i,u,hw,hi,k2,v,l,O⟩:=Y;have fl:A .ay .lss z 32=decide (i<32):=by rw[aD A,u.eq];exact decide_eq_decide.2 (by omega)
 rw[fl];by_cases C:i<32
 .rw[decide_eq_true C];obtain⟨x,hx⟩:=bn s i;have hd:s.drop i++t=x::(s.drop (i+1)++t):=by rw[List.drop_eq_getElem_cons (by omega:i<s.length)];have:s[i]'(by omega)=x:=(List.getElem?_eq_some_iff.1 hx).2;rw[this];rfl
  rw[hd]at l;obtain⟨dr,B,-⟩:=v.out;cbv;repeat (first|rw[al A] | (refine ak B ?_;cbv)|(refine⟨⟨_,rfl,rfl⟩,?_⟩;cbv))
  refine⟨u.ix (len:=32) C,?_⟩;cbv;repeat (first|rw[al A] | (refine ak B ?_;cbv)|(refine⟨⟨_,rfl,rfl⟩,?_⟩;cbv))
  have T:Sl 100 bL R (.slice (some ⟨a,0,none⟩) 32 32) s:=mf O hg X;refine T.load hx u.eq (λcs f=>?_);have f:cs=[.int .u8 (x.toNat:Int)]:=f;subst f;have N:=eN x (s.drop (i+1)++t);obtain⟨j,U⟩:∃j:Int,j=(x.toNat:Int):=⟨_,rfl⟩;have y:A .conv .i64 j=j:=by rw[hA.conv,U];have:=x.toNat_lt;exact IntWalk.i64_in _ (by omega)
  rw[<-U];cbv;rw[y];repeat (first|rw[al A] | (refine ak B ?_;cbv)|(refine⟨⟨_,rfl,rfl⟩,?_⟩;cbv))
  refine pR l (λV kx W D I=>?_);rw[N]at W I;have W:kx=j:=by rw[W,U]
  have fe:A .ay .eql kx j=true:=by rw[aq A,W];exact decide_eq_true rfl
  have P:=D _ _ O (by simpa using np);have H:nv V r p false:=v.lt (l.lt D (by decide));obtain⟨ag,K,-⟩:=H.out;have S:Sl 100 bL V (.slice (some ⟨a,0,none⟩) 32 32) s:=mf P hg X;have aF:32-(i+1)<w:=by omega
  have L:∀h',Kp [r,p] q h'->nv h' r p false->fh h' p (some (s.drop (i+1)++t))->h' a=some (.cells (List.toArray (hl g)) 100 (0,0))->J (32-(i+1)) (A .aC .add .i64 z 1) h':=λh' a1 a2 a3 a4=>by
   rw[Z];exact⟨i+1,u.succ (A:=A),rfl,by omega,a1,a2,a3,a4⟩
  clear Z M N fl;cbv;repeat (first|rw[al A] | (refine ak K ?_;cbv)|(refine⟨⟨_,rfl,rfl⟩,?_⟩;cbv))
  refine S.load hx u.eq (λcs f=>?_);have f:cs=[.int .u8 j]:=by rw[U];exact f
  subst f;cbv;repeat (first|rw[al A] | (refine ak K ?_;cbv)|(refine⟨⟨_,rfl,rfl⟩,?_⟩;cbv))
  rw[fe];refine mV H true (λh4 E nO=>?_);have Kl:=I.mt (H.lk E (by decide));have g4:=E _ _ P (by simpa using nr);have:=L h4 ((k2.trans (D.up (by simp))).trans (E.up (by simp))) nO Kl g4;clear L;cbv;refine⟨32-(i+1),A .aC .add .i64 z 1,aF,by constructor<;>cbv,this⟩
 rw[decide_eq_false C];have Q:i=32:=by omega
 subst Q;rw[List.drop_eq_nil_of_le (by omega),List.nil_append]at l;have:=hk R (λb o hb hn=>k2 b o (F _ _ hb) hn) v l;cbv;exact this
theorem Ht{l:Bs}(h:l.length=n)(r:Bs):dO n (some (l++r))=(l,some r):=by show(if n<=(l++r).length then((l++r).take n,some ((l++r).drop n))else([],none))=_;rw[if_pos (by rw[List.length_append];omega),<-h,List.take_left,List.drop_left]
theorem FF{l:Bs}(h:l.length=n)(r:Bs):az n (some (l++r))=(lq l,some r):=by unfold az;rw[Ht h]
theorem Ia(h:n<2^63)(r:Bs):az 8 (some (bR (n:Int)++r))=(n,some r):=by rw[FF (bW _),MG h]
theorem pO(s:ByteArray):(jn s).length=s.size:=Array.length_toList
theorem RZ(h:s.size<65536):lq (gA s)=s.size:=by
 have a:lq (gA s)=(u8 (min s.size 65535:Nat)).toNat+256*(u8 ((min s.size 65535:Nat) / 256:Nat)).toNat:=by unfold gA;show _+256*(_+256*0)=_;rfl
 rw[a,yg,yg];omega
theorem Bw(h:s.size<65536)(r:Bs):aM (some (dY s++r))=(jn s,some r):=by
 have h0:dY s=gA s++jn s:=by unfold dY fD;rw[List.take_of_length_le (by rw[pO];omega)]
 rw[h0,List.append_assoc];unfold aM;rw[FF (n:=2) (by rfl),RZ h];exact Ht (pO s) r
structure WC(c:cC):Prop where
 op:c.op=1\/c.op=2
 aJq:c.table.size<65536
 row:(fH c.row).length<65536
 parse:eU (fH c.row)=some c.row
theorem aXg{c:cC}(qr:nv h r p false)(q:fh h p (some ((([u8 c.op]++dY c.table)++dY (strOf (fH c.row)))++e)))(G:WC c)
 (g:∀h' b n cc,Kp [r,p] h h'->nv h' r p false->fh h' p (some e)->Sl 45 aS h' (.slice b n cc) c.row->k (.agg #[.string c.table,.int .i64 c.op,.slice b n cc]) h'):
 Ct 265 [.pointer (some ⟨r,0,none⟩)] h k:=by
 obtain⟨t,a,o⟩:=c;have xd:a=1\/a=2:=G.op;have ht:t.size<65536:=G.aJq;have hr:(fH o).length<65536:=G.row;have Z:eU (fH o)=some o:=G.parse;obtain⟨dr,gr,-⟩:=qr.out;have q:fh h p (some (u8 a::(dY t++(dY (strOf (fH o))++e)))):=by simpa[List.append_assoc]using q
 have R:=eN (u8 a) (dY t++(dY (strOf (fH o))++e));have D:((u8 a).toNat:Int)=a:=by rcases xd with rfl|rfl<;>rfl
 have Q:=Bw ht (dY (strOf (fH o))++e);have U:=Bw (s:=strOf (fH o)) (by rw[BG];exact hr) e;rw[wo]at U;have y:strOf (jn t)=t:=by unfold strOf jn;simp
 refine an dXy Tryz.func265 λA hA=>?_;cbv;repeat (first|rw[al A] | (refine ak gr ?_;cbv)|(refine⟨⟨_,rfl,rfl⟩,?_⟩;cbv))
 refine pR q (λh1 kx m S M=>?_);rw[R]at m M;have m:kx=a:=by rw[m];exact D
 subst m;have O:=qr.lt (q.lt S (by decide));obtain⟨ao,w,-⟩:=O.out;clear R;cbv;repeat (first|rw[al A] | (refine ak w ?_;cbv)|(refine⟨⟨_,rfl,rfl⟩,?_⟩;cbv))
 refine xP M (λh2 tx J T i=>?_);rw[Q]at J i;have J:tx=t:=by rw[J];exact y
 subst J;have N:=O.lt (M.lt T (by decide));obtain⟨aj,QH,-⟩:=N.out;clear Q;cbv;repeat (first|rw[al A] | (refine ak QH ?_;cbv)|(refine⟨⟨_,rfl,rfl⟩,?_⟩;cbv))
 refine xP i (λh3 L K V P=>?_);rw[U]at K P;have K:L=strOf (fH o):=K;have pT:=N.lt (i.lt V (by decide));have H:=((S.trans T).trans V);have AT:L.size<=2^40:=by rw[K,BG];omega
 have GK:jn L=fH o:=by rw[K,wo]
 clear U K;cbv;refine tN AT (λnb cb mb h4 ag dp l4 q4=>?_);rw[GK]at q4;cbv;refine aQP q4 (λY=>by rw[Z]at Y;cases Y) (λrr h5 l I u X l5 q5 JF=>?_);rw[Z]at X;cases X;have f:=l4.trans l5;have x:=pT.le f;have Fy:=P.le f;have W:A .ay .eql 0 0=true:=by rw[aq A];rfl
 have z:A .ay .eql 1 1=true:=by rw[aq A];rfl
 have B:A .ay .eql 2 1=false:=by rw[aq A];rfl
 have C:A .ay .eql 2 2=true:=by rw[aq A];rfl
 have fin:∀h',Kp [r] h5 h'->nv h' r p (false|| !true)->fh h' p (some e)/\Sl 45 aS h' (.slice l I u) o/\Kp [r,p] h h':=λh' F _=>
  ⟨Fy.mt (x.lk F (by decide)),q5.mono (x.lk F (by decide)),((H.up (by simp)).trans (f.kp _)).trans (F.up (by simp))⟩
 rcases xd with rfl|rfl
 .cbv;rw[W];cbv;rw[z];cbv;refine mV x true (λd E v=>?_);obtain⟨a1,a2,j⟩:=fin d E v;have:=g d l I u j v a1 a2;clear g fin;cbv;exact this
 cbv;rw[W];cbv;rw[B];cbv;rw[C];cbv;refine mV x true (λd E v=>?_);obtain⟨a1,a2,j⟩:=fin d E v;have:=g d l I u j v a1 a2;clear g fin;cbv;exact this
structure dKs(t:bJ)(c:cC)(t':bJ):Prop where
 eq:Gm t c=(t',true)
 len:c.op≠1->c.row.length=t.S.cols.length/\0<=t.S.key/\t.S.key<(c.row.length:Int)
 rows:t.rows.length<=200
theorem bJh{nb:Nat}{b2 b3 b4 rb:Option Addr}{f n2 c2 n3 c3 n4 c4 rc i:Nat}{T:List bJ}{d:ByteArray}{p:Int}{a:Row}(o:cA 61 bo h nb c1 T)(ek:f=T.length)(qr:Sl 45 aS h (.slice rb F rc) a){t u:bJ}(ht:T[i]? =some t)(uK:t.S.name=d)
 (bp:∀j,j<i->∀y,T[j]? =some y->decide (y.S.name=d)=false) (pF:dKs t ⟨d,p,a⟩ u) 
 (hk:∀h',dI [61] h h'->(∀tys,61∉tys->bV tys h h')->Kp [nb] h h'->cA 61 bo h' nb c1 (T.set i u)->k (.bool true) h'):
 Ct 267 [.agg #[.slice (some ⟨nb,0,none⟩) f c1,.slice b2 n2 c2,.slice b3 n3 c3,.slice b4 n4 c4],.agg #[.string d,.int .i64 p,.slice rb F rc]] h k:=by
 obtain⟨A,C⟩:=Ar.ex;have qs:=o.sl ek;obtain⟨jH,fN⟩:=qs.bound;have gh:=(List.getElem?_eq_some_iff.1 ht).1;have aN:A .ay .eql p 1=decide (p=1):=aq A ..;obtain⟨J,aZ⟩:∃J:Nat->Int->ab->Prop,∀w z h',J w z h'=(∃j,aK z j/\w=f-j/\j<=i/\h'=h):=⟨_,λ_ _ _=>rfl⟩;have df:J f 0 h:=by rw[aZ];exact⟨0,⟨rfl⟩,rfl,by omega,rfl⟩
 refine bB dXw A Tryz.func267 ?_;cbv;refine aG.go (G:=Int) (λz=>[(14,.v (.int .i64 z))]) (λ_=>[(2,[.slice (some ⟨nb,0,none⟩) f c1,.slice b2 n2 c2,.slice b3 n3 c3,.slice b4 n4 c4]),(3,[.string d,.int .i64 p,.slice rb F rc])]) (λw z h'=>J w z h') f 0 (by constructor<;>cbv) df ?_
 intro w z h2 hI;rw[aZ]at hI;cbv;obtain⟨j,hz,hw,hj,rfl⟩:=hI;have fl:A .ay .lss z (A .nat f)=true:=by rw[aD A,hz.eq,C.nat];exact decide_eq_true (by show(j:Int)<(f:Int);omega)
 have ix:=hz.ix (len:=f) (by omega);rw[fl];obtain⟨y,hy⟩:=bn T j;cbv;refine⟨⟨rfl,ix⟩,?_⟩;cbv;refine qs.load hy hz.eq (λcs m=>?_);by_cases kD:j<i
 .have bF:=bp j kD y hy;have aF:f-(j+1)<w:=by omega
  have bI:J (f-(j+1)) (A .aC .add .i64 z 1) h2:=by rw[aZ];exact⟨j+1,hz.succ (A:=A),rfl,by omega,rfl⟩
  obtain⟨sb,sn,sc,N,X,L,rfl,bc,q4⟩:=m;have fs:A .js .neq y.S.name d=true:=by have h1:=dF A y.S.name d;rw[C.js]at h1 |-;rw[bF]at h1;have h2:Sx.js .neq y.S.name d= !Sx.js .eql y.S.name d:=rfl;rw[h2,h1];rfl
  generalize y.S.name=yn at *;generalize y.S.key=yk at *;generalize y.S.only=yo at *;cbv;rw[fs];cbv;refine⟨f-(j+1),A .aC .add .i64 z 1,aF,by constructor<;>cbv,bI⟩
 have Qz:j=i:=by omega
 subst Qz;rw[ht]at hy;cases hy;have ss:A .js .neq d d=false:=by rw[C.js];simp[Sx.js]
 have dh:=hz.eq;obtain⟨⟨n,g,tk,q⟩,x⟩:=t;have uK:n=d:=uK;subst uK;obtain⟨sb,sn,sc,N,X,L,m,XX,q4⟩:=m;have m:cs=[.string n,.slice sb sn sc,.int .i64 tk,.bool q,.slice N X L]:=m;subst m;have au:=q4.len;have aW:x.length<=200:=pF.rows;have Q:X<=2^37:=by have:X=x.length:=au;omega
 have K:=pF.eq;have ar:=pF.len;clear pF aZ df fl;cbv;rw[ss];cbv;rw[aN];by_cases H:p=1
 .rw[No (c:=⟨n,p,a⟩) H]at K;rw[decide_eq_true H];cbv;refine SM XX q4 qr Q (λV y1 m1 k1 y2 m2 k2 I P l r1 r2 E=>?_);have E:(⟨⟨⟨n,g,tk,q⟩,I⟩,P⟩:bJ×Int)=bm ⟨⟨n,g,tk,q⟩,x⟩ a:=E;have K:((bm ⟨⟨n,g,tk,q⟩,x⟩ a).1,decide ((bm ⟨⟨n,g,tk,q⟩,x⟩ a).2=0))=(u,true):=K;rw[<-E]at K;have S:(⟨⟨n,g,tk,q⟩,I⟩:bJ)=u:=congrArg Prod.fst K;have ru:P=0:=of_decide_eq_true (congrArg Prod.snd K);subst ru;have fe:A .ay .eql 0 0=true:=by rw[aq A];rfl
  have rT:bo.R V [.string n,.slice y1 m1 k1,.int .i64 tk,.bool q,.slice y2 m2 k2] u:=by rw[<-S];exact⟨_,_,_,_,_,_,rfl,r1,r2⟩
  clear E K S;cbv;repeat (first|rw[al A] | (refine⟨⟨_,rfl,rfl⟩,?_⟩;cbv))
  refine⟨⟨rfl,ix⟩,?_⟩;cbv;refine(o.mono (l.t _)).setAt (by decide) gh dh rfl rT (λW k4 t4 o4=>?_);have x4:dI [61] V W:=k4.x (λb Y oo Z=>by
   simp only[List.mem_singleton]at Y;subst Y;obtain⟨c,hc,-⟩:=(o.mono (l.t _)).out;rw[hc]at Z;cases Z;exact⟨_,_,_,rfl,by decide⟩)
  have:=hk W ((l.x _).trans x4) (λtys e=>(l.t tys).trans (t4 tys e)) ((l.kp _).trans k4) o4;cbv;rw[fe];exact this
 obtain⟨rU,M,B⟩:=ar H;rw[decide_eq_false H];have aH:q=false:=by
  cases q with
  |false=>rfl
  |true=>rw[Vj (c:=⟨n,p,a⟩) H rfl]at K;cases K
 subst aH;have M:0<=tk:=M;have B:tk<(a.length:Int):=B;have rU:a.length=g.length:=rU;have Iv:F=a.length:=qr.len;have WU:sn=g.length:=XX.len;have Zi:rb.isSome=true/\0<=tk/\tk<(F:Int):=⟨qr.aQ (Nat.lt_of_lt_of_eq (Int.ofNat_lt.1 (Int.lt_of_le_of_lt M B)) Iv.symm),M,by rw[Iv];exact B⟩;have FY:tk=(tk.toNat:Int):=(Int.toNat_of_nonneg M).symm;have f1:A .not false=true:=by rw[C.not];rfl
 have f2:A .ay .eql (A .nat F) (A .nat sn)=true:=by rw[aq A,C.nat,Iv,WU,rU];exact decide_eq_true rfl
 have f3:A .ay .geq tk 0=true:=by rw[bX A];exact decide_eq_true M
 have f4:A .ay .lss tk (A .nat F)=true:=by rw[aD A,C.nat,Iv];exact decide_eq_true B
 cbv;rw[f1];cbv;rw[f2];cbv;rw[f3];cbv;rw[f4];cbv;obtain⟨v,aj,R,-⟩:=Tv (r:=a) M B;have O:=Vi (t:=⟨⟨n,g,tk,false⟩,x⟩) (c:=⟨n,p,a⟩) H rfl (λjO=>by
  have jO:tk>=(a.length:Int):=jO;exact Int.not_le.2 B jO) (D:=aY ⟨⟨n,g,tk,false⟩,x⟩ v) (by rw[<-R])
 rw[O]at K;obtain⟨vk,vn,vs⟩:=v;clear O R f1 f2 f3 f4;refine⟨Zi,?_⟩;cbv;refine qr.load aj FY (λcs m=>?_);have m:cs=[.int .i64 vk,.int .i64 vn,.string vs]:=m;subst m;cbv;refine Md XX q4 Q ⟨vk,vn,vs⟩ (λV y1 m1 k1 y2 m2 k2 y3 m3 k3 I R2 P l r1 r2 r3 E=>?_);rw[<-E]at K;have U:(if P=0/\jY R2 a=true then((⟨⟨n,g,tk,false⟩,I⟩:bJ),true)else(⟨⟨n,g,tk,false⟩,x⟩,false))=(u,true):=K;have s:P=0/\jY R2 a=true:=Decidable.byContradiction λhn=>by rw[if_neg hn]at U;cases U
 rw[if_pos s]at U;clear K E;obtain⟨ru,iU⟩:=s;subst ru;have S:(⟨⟨n,g,tk,false⟩,I⟩:bJ)=u:=congrArg Prod.fst U;have fe:A .ay .eql 0 0=true:=by rw[aq A];rfl
 have ag:A .not true=false:=by rw[C.not];rfl
 have rT:bo.R V [.string n,.slice y1 m1 k1,.int .i64 tk,.bool false,.slice y2 m2 k2] u:=by rw[<-S];exact⟨_,_,_,_,_,_,rfl,r1,r2⟩
 have pT:=qr.mono (l.t _);clear U S;cbv;repeat (first|rw[al A] | (refine⟨⟨_,rfl,rfl⟩,?_⟩;cbv)|(refine⟨Zi,?_⟩;cbv))
 rw[fe];cbv;refine aZB r3 pT ?_;rw[iU];cbv;rw[ag];cbv;refine⟨⟨rfl,ix⟩,?_⟩;cbv;refine(o.mono (l.t _)).setAt (by decide) gh dh rfl rT (λW k4 t4 o4=>?_);have x4:dI [61] V W:=k4.x (λb Y oo Z=>by
  simp only[List.mem_singleton]at Y;subst Y;obtain⟨c,hc,-⟩:=(o.mono (l.t _)).out;rw[hc]at Z;cases Z;exact⟨_,_,_,rfl,by decide⟩)
 have:=hk W ((l.x _).trans x4) (λtys e=>(l.t tys).trans (t4 tys e)) ((l.kp _).trans k4) o4;cbv;rw[fe];exact this
theorem OS(bs:List xT)(b:xT):jg (bs++[b])=(b.n,dN b,0):=by unfold jg;rw[List.getLast?_append];simp
theorem So{e:Bool}{s:St}(l:nv h r p e)(j:fh h p s)(k:Kp [r,p] h h'):dI [299,411] h h':=by
 obtain⟨d,g,-⟩:=l.out;obtain⟨rr,q,-⟩:=j.out;obtain⟨bb,n,c,m,i,-⟩:=q.out;exact k.x (λb f o a=>by
  simp only[List.mem_cons,List.not_mem_nil,or_false]at f;rcases f with rfl|rfl
  .rw[g]at a;cases a;exact⟨_,_,_,rfl,by decide⟩
  rw[i]at a;cases a;exact⟨_,_,_,rfl,by decide⟩)
theorem bJg{x:Nat}{u v z B e1 f g:Option Addr}{I C K D L E N d i b j:Nat}{a:Int}{o:List pa}{bs:List xT}{t:List (List pa)}
 (gx:h x=some (.cells (List.toArray [.slice u I C,.slice v K D,.slice z L E,.slice B N F,.int .i64 a,.slice e1 m d,.slice f i b,.slice g j c]) 150 (0,0)))
 (ql:vR h e1 m d f i b g j c ⟨a,o,bs,t⟩) (hB:Dd ⟨a,o,bs,t⟩) (xd:o.length≠0) (qr:nv h r p false)  (qp:fh h p (some (bR ((bs.length+1:Nat):Int)++(dN (jm o bs)++e)))) 
 (q:∀h' e1 m d f i b g j c,Kp [x,r,p] h h'->h' x=some (.cells (List.toArray [.slice u I C,.slice v K D,.slice z L E,.slice B N F,.int .i64 a,.slice e1 m d,.slice f i b,.slice g j c]) 150 (0,0))->
  vR h' e1 m d f i b g j c (lj ⟨a,o,bs,t⟩)->nv h' r p false->fh h' p (some e)->k (.tuple #[]) h'):
 Ct 146 [.pointer (some ⟨x,0,none⟩),.pointer (some ⟨r,0,none⟩)] h k:=by
 obtain⟨dr,gr,-⟩:=qr.out;have fN:bs.length<=2^16:=hB.n2;have zW:=Ia (n:=bs.length+1) (by omega) (dN (jm o bs)++e);have hE:Sa ⟨a,o,bs,t⟩=(⟨a,[],bs++[jm o bs],t++[o]⟩,0):=by unfold Sa;rw[if_neg xd];rfl
 have y:jg (bs++[jm o bs])=(((bs.length+1:Nat):Int),dN (jm o bs),0):=OS _ _;have Xg:(dN (jm o bs)).length=32:=fw _;have DK:(bs++[jm o bs]).length<=2^20:=by rw[List.length_append,List.length_singleton];omega
 have q:∀h' e1 m d f i b g j c,Kp [x,r,p] h h'->h' x=some (.cells (List.toArray [.slice u I C,.slice v K D,.slice z L E,.slice B N F,.int .i64 a,.slice e1 m d,.slice f i b,.slice g j c]) 150 (0,0))->
  vR h' e1 m d f i b g j c ⟨a,[],bs++[jm o bs],t++[o]⟩->nv h' r p false->fh h' p (some e)->k (.tuple #[]) h':=q
 obtain⟨W,Q⟩:∃W:Int,W=((bs.length+1:Nat):Int):=⟨_,rfl⟩;rw[<-Q]at y;have Cj:IntKind.i64.wrap ((bs.length+1:Nat):Int)=W:=by rw[Q];exact IntWalk.i64_in _ (by omega)
 obtain⟨O,w⟩:∃O,O=bs++[jm o bs]:=⟨_,rfl⟩;rw[<-w]at hE y DK q;clear w;generalize dN (jm o bs)=said at *;refine an dJu Tryz.func146 λA hA=>?_;cbv;repeat (first|rw[al A] | (refine ak gr ?_;cbv)|(refine⟨⟨_,rfl,rfl⟩,?_⟩;cbv))
 refine aQU qp (λh1 kx H k1 M=>?_);rw[zW]at H M;have H:kx=W:=by rw[H];exact Cj
 have M:fh h1 p (some (said++e)):=M;subst H;have t1:=qp.lt k1 (tys:=150::299::je) (by decide);have Pu:=t1 _ _ _ _ (by decide) gx;have Dt:=qr.lt (t1.sub);have ag:=ql.ls (t1.sub);obtain⟨au,ar,-⟩:=Dt.out;clear zW Q Cj;cbv;repeat (first|rw[al A] | (refine ak Pu ?_;cbv)|(refine⟨⟨_,rfl,rfl⟩,?_⟩;cbv))
 refine aQT ag hB hE (λh2 R o1 U S o2 V T o3 X G J=>?_);have J:vR h2 R o1 U S o2 V T o3 X ⟨a,[],O,t++[o]⟩:=J;have Aj:=Dt.le G;have Ak:=M.le G;have Ng:=G _ _ Pu;have kI:A .ay .eql 0 0=true:=by rw[aq A];rfl
 have ao:A .ay .eql kx kx=true:=by rw[aq A];exact decide_eq_true rfl
 cbv;rw[kI];refine mV Aj true (λh3 k3 pT=>?_);have t3:=Aj.lk k3 (tys:=150::411::5::je) (by decide);have Aa:=t3 _ _ _ _ (by decide) Ng;have Fz:=Ak.mt (t3.sub);have Jy:=J.ls (t3.sub);cbv;refine Wz Jy.lW DK (λh4 g4 s Z=>?_);rw[y]at Z |-;have nO:=pT.le s;have Kl:=Fz.le s;have AM:=Jy.le s;have rA:=s _ _ Aa;have Z:hl g4=aI said:=Z;cbv;rw[ao];refine mV nO true (λh5 k5 xV=>?_);have t5:=nO.lk k5 (tys:=150::411::5::je) (by decide);have EJ:=t5 _ _ _ _ (by decide) rA;have Fy:=Kl.mt (t5.sub);have FA:=AM.ls (t5.sub);cbv;refine NI xV Fy Z Xg (λY k6 vM SE=>?_);have t6:=(So xV Fy k6).t (tys:=150::je) (by decide);have CD:=t6 _ _ _ _ (by decide) EJ;have P:=FA.ls (t6.sub);have aj:Kp [x,r,p] h Y:=(k1.up (by simp)).trans ((G.kp _).trans ((k3.up (by simp)).trans ((s.kp _).trans ((k5.up (by simp)).trans (k6.up (by simp))))));have fin:∀h',h'=bu Y x (.cells (List.toArray [.slice u I C,.slice v K D,.slice z L E,.slice B N F,.int .i64 a,.slice R o1 U,.slice S o2 V,.slice T o3 X]) 150 (0,0))->k (.tuple #[]) h':=λh' l=>by
  have x7:dI [150] Y h':=by rw[l];exact fE CD (by decide)
  exact q h' R o1 U S o2 V T o3 X (aj.trans (by rw[l];exact Kp.set (by simp))) (by rw[l];exact ae) (P.ls (x7.t (by decide))) (vM.lt (x7.t (by decide))) (SE.mt (x7.t (by decide)))
 clear q;cbv;repeat rw[al A]
 refine jr CD (by simp) (λh' l=>?_);have:=fin h' l;cbv;exact this
end Go.S
