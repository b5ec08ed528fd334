import Derived.Test.YthnbpiejemlbeaaGreatBO
import Derived.Test.YthnbpiejemlbeaaGreatBK
set_option linter.all false
set_option maxRecDepth 100000
set_option maxHeartbeats 8000000
namespace Go.S
open Go.Sx Go.Proofs
variable {d:DB}{G:Lg}{m n p s:Nat}{b:Option Addr}{k:Value->ad->Prop}{L':Value×Value×Value×Value}{h h':ad}{L:fA}
def dh(id:Int)(i:Nat)(c:cV):Bs:=(([u8 c.op]++dS c.table)++dS (strOf (gn c.row)))++cU id i c
def iU(id:Int)(n:Nat):Bs:=([u8 3]++cF id)++[u8 (n:Int)]
def jZ(L:fA):Bs:=if 0<L.oR.length then [u8 0]else [u8 1]++(cW L.dJ).2.1
def iK(t:mu)(L:fA):Bs:=((iU t.id t.JQ.length++(t.JQ.mapIdx (dh t.id)).flatten)++eL t.id t.JQ)++jZ L
def gD(n:Int)(said:Bs):Bs:=([u8 4]++cF n)++said
theorem Pq(id:Int)(i:Nat)(c:cV):(dh id i c).length<=2^18:=by unfold dh;have h:=fO c.table;have a:=fO (strOf (gn c.row));have b:(cU id i c).length=32:=fL _;simp only[cy,wS,yk];omega
theorem Il{l:List Bs}(h:∀x∈l,x.length<=m):l.flatten.length<=l.length*m:=by
 induction l with
 |nil=>simp
 |cons a l i=>have b:=h a (kQJ ..);have c:=i (λx hx=>h x (jKQ _ hx));rw[jKR,cy,wS,jKi];omega
theorem MC(id:Int)(L:List cV)(i:Nat):(((L.mapIdx (dh id)).take i).flatten).length<=L.length*2^18:=by
 have h:((L.mapIdx (dh id)).take i).flatten.length<=((L.mapIdx (dh id)).take i).length*2^18:=Il (λx hx=>by
  have:=jKk hx;obtain⟨j,b,rfl⟩:=List.mem_mapIdx.1 this;exact Pq _ _ _)
 have a:((L.mapIdx (dh id)).take i).length<=L.length:=by rw[eA,List.length_mapIdx];omega
 exact jKl h (za _ a)
theorem aXE(x:Int)(g:Nat->Int):ia (.int .i64 0::List.replicate 32 (.int .u8 0)) 0 (.int .i64 x::hl g)=.int .i64 x::hl g:=by kernel_rfl
theorem cZm{id nx:Int}{b1 b2 b3:Option Addr}{c K c1 n2 c2 n3 c3:Nat}{cs:List cV}{u:List mu}{bs:List sf}{ts:List (List mu)}(q:Sl 161 bz h (.slice b n c) cs)(ql:vd h b1 K c1 b2 n2 c2 b3 n3 c3 ⟨nx,u,bs,ts⟩)
 (hB:∀x∈cs,yh x) (hn:cs.length<=255) (hb:bs.length<=2^20) 
 (f:∀h' a n' c',Le h h'->bt 5 cj h h' (.slice a n' c') (iK ⟨id,cs⟩ ⟨nx,u,bs,ts⟩)->n'<=2^27->k (.slice a n' c') h'):
 Ct 53 [.agg #[.int .i64 id,.slice b n c],.agg #[.int .i64 nx,.slice b1 K c1,.slice b2 n2 c2,.slice b3 n3 c3]] h k:=by
 obtain⟨A,hA⟩:=Ar.ex;have ag:=q.len;have fh:K=u.length:=ql.oR.len;have hR:iK ⟨id,cs⟩ ⟨nx,u,bs,ts⟩=((iU id cs.length++(cs.mapIdx (dh id)).flatten)++eL id cs)++(if 0<u.length then [u8 0]else [u8 1]++(cW bs).2.1):=rfl;rw[hR]at f;clear hR;have zO:iU id cs.length=(([]++[u8 3])++cF id)++[u8 (A .nat n)]:=by rw[hA.nat,ag];rfl
 have QK:(iU id cs.length).length=10:=by unfold iU;simp[bY]
 obtain⟨H,hH⟩:∃H,H=iU id cs.length:=⟨_,rfl⟩;rw[<-hH]at f zO QK;clear hH;have qS:=MC id cs;have OL:∀ {i:Nat} {x:cV},cs[i]? =some x->(cs.mapIdx (dh id))[i]? =some (dh id i x):=λh=>by rw[List.getElem?_mapIdx,h];rfl
 have rX:(cs.mapIdx (dh id)).length=cs.length:=List.length_mapIdx;generalize cs.mapIdx (dh id)=M at *;obtain⟨J,V⟩:∃J:Nat->((Option Addr×Nat×Nat)×Int)->ad->Prop,∀w g h',J w g h'=(∃i,aZ g.2 i/\w=n-i/\i<=n/\Le h h'/\bt 5 cj h h' (.slice g.1.1 g.1.2.1 g.1.2.2) (H++(M.take i).flatten)):=⟨_,λ_ _ _=>rfl⟩;refine fz hKb A Tryz.func53 ?_;cbv;refine pf (l:=[]) Sl.nil (by omega) 3 (λh1 d1 m1 e1 l1 q1=>?_);have an:=q1.sl.len;rw[np,qA]at an;cbv;refine Nc q1.sl (by omega) id (λh2 d2 m2 e2 l2 q2=>?_);have zN:=q2.sl.len;rw[cy,bY,np,qA]at zN;cbv;refine pf q2.sl (by omega) (A .nat n) (λh3 d3 m3 e3 l3 q3=>?_);have aq:=(l1.trans l2).trans l3;have q3:bt 5 cj h h3 (.slice d3 m3 e3) H:=by rw[zO];exact q3.base (l1.trans l2)
 have dL:J n ((d3,m3,e3),0) h3:=by rw[V];exact⟨0,⟨rfl⟩,rfl,by omega,aq,by rw[List.take_zero,List.flatten_nil,vv];exact q3⟩
 clear q1 q2 q3 zO;cbv;refine aX.go (G:=(Option Addr×Nat×Nat)×Int) (λg=>[(5,.v (.slice g.1.1 g.1.2.1 g.1.2.2)),(23,.v (.int .i64 g.2))]) (λ_=>[(2,[.int .i64 id,.slice b n c]),(3,[.int .i64 nx,.slice b1 K c1,.slice b2 n2 c2,.slice b3 n3 c3])]) (λw g h'=>J w g h') n ((d3,m3,e3),0) (by constructor<;>cbv) dL ?_
 intro w g h4 hI;rw[V]at hI;cbv;obtain⟨⟨gb,gm,gc⟩,z⟩:=g;obtain⟨i,p,hw,hi,B,d⟩:=hI;have p:aZ z i:=p;have d:bt 5 cj h h4 (.slice gb gm gc) (H++(M.take i).flatten):=d;have nq:=d.sl.len;have aW:=qS i;rw[cy,QK]at nq;have f1:A .aN .lss z (A .nat n)=decide (i<n):=by rw[aR A,p.eq,hA.nat];exact decide_eq_decide.2 (by show(i:Int)<(n:Int)↔_;omega)
 rw[f1];by_cases hc:i<n
 .rw[ak hc];obtain⟨x,hx⟩:=cB cs i;have LI:=hB x (cK hx);have ix:=p.ix hc;have iV:b.isSome=true:=q.bp;have aU:n-(i+1)<w:=by omega
  have fT:=lY (OL hx);have lH:(cU id i x).length=32:=fL _;have bX:∀a m' c' h',Le h h'->bt 5 cj h h' (.slice a m' c') ((((H++(M.take i).flatten)++[u8 x.op])++(gM x.table++fW x.table))++(gM (strOf (gn x.row))++fW (strOf (gn x.row)))++cU id i x)->J (n-(i+1)) ((a,m',c'),A .aT .add .i64 z 1) h':=λa m' c' h' l' q'=>by
   rw[V];refine⟨i+1,p.succ (A:=A),rfl,hc,l',?_⟩;rw[fT,List.flatten_append,jKR,List.flatten_nil,vv];have e:H++((M.take i).flatten++dh id i x)=(((H++(M.take i).flatten)++[u8 x.op])++(gM x.table++fW x.table))++(gM (strOf (gn x.row))++fW (strOf (gn x.row)))++cU id i x:=by unfold dh dS;simp only[ym]
   rw[e];exact q'
  have ht:=fO x.table;have AG:=fO (strOf (gn x.row));have tq:=cU id i x;clear f1 V dL fT OL qS;generalize H++(M.take i).flatten=P at *;obtain⟨t,N,r⟩:=x;cbv;refine⟨⟨iV,ix⟩,?_⟩;cbv;refine(q.Lv B hx p.eq (λcs ar=>?_));obtain⟨rb,rn,rc,rfl,qr⟩:=ar;have qr:Sl 45 bA h (.slice rb rn rc) r:=qr;cbv;refine pf d.sl (by omega) N (λh5 d5 m5 e5 E q5=>?_);have Kg:=q5.sl.len;rw[cy,qA,<-d.sl.len]at Kg;cbv;refine Bj (e1:=0) q5.sl (by omega) t LI.bZL (λh6 d6 m6 e6 l6 q6=>?_);have ht:(gM t++fW t).length<=65537:=ht;have QJ:m6<=m5+65537:=by have:=q6.sl.len;rw[cy,<-q5.sl.len]at this;omega
  cbv;refine MW (qr.mono (((B.trans E).trans l6).t _)) (by rw[qr.len];exact LI.row) LI.val (λh7 d7 m7 e7 l7 q7 aI=>?_);have ig:=EI (gn r);have AG:(gM (strOf (gn r))++fW (strOf (gn r))).length<=65537:=AG;have bX:∀a m' c' h',Le h h'->bt 5 cj h h' (.slice a m' c') ((((P++[u8 N])++(gM t++fW t))++(gM (strOf (gn r))++fW (strOf (gn r))))++cU id i ⟨t,N,r⟩)->J (n-(i+1)) ((a,m',c'),A .aT .add .i64 z 1) h':=bX;have lH:(cU id i ⟨t,N,r⟩).length=32:=lH;have Kk:=d.sl.len;generalize gn r=S at *;cbv;refine rh q7.sl ?_;cbv;refine Bj (e1:=0) (q6.sl.mono (l7.t _)) (by omega) (strOf S) (by omega) (λh8 d8 m8 e8 I j=>?_);have aB:m8<=m6+65537:=by have:=j.sl.len;rw[cy,<-q6.sl.len]at this;omega
  have U:=(((B.trans E).trans l6).trans l7).trans I;have j:=j.base (((B.trans E).trans l6).trans l7);cbv;refine aQp p (qr.mono (U.t _)) LI (λm g s hg=>?_);generalize cU id i ⟨t,N,r⟩=RH at *;generalize ((P++[u8 N])++(gM t++fW t))++(gM (strOf S)++fW (strOf S))=Q at *;have ab:=U.trans s;cbv;intro F y O v;have gB:Le m y:=by rw[v];exact Le.set O
  have Mj:y F=zcL 100 (List.replicate 32 (.int .u8 0)):=(congrFun v F).trans ae;have Z:=ab.none O;have z9:=O;clear v;cbv;refine ju Mj (kB _) (λL C=>?_);have X:=rf C (wX _ _);have aw:Kp [F] y L:=by rw[C];exact Kp.set (by simp)
  have R:Le m L:=gB.aV (bs:=[F]) (by simpa using z9) aw;clear C;have uX:=j.mono ((s.trans R).t _);cbv;refine uX.app (jR X hg lH) (by decide) rfl (by decide) (by omega) (ab.trans R) (λD T Zx tA W fa bd al Ka=>?_);have iD:=bX T D Zx tA fa Ka;clear bX al;cbv;refine⟨_,((T,D,Zx),A .aT .add .i64 z 1),aU,by constructor<;>cbv,iD⟩
 rw[bn hc];rw[ie (by omega)]at d;have aC:=qS cs.length;rw[ie (by omega)]at aC;have nq:=d.sl.len;rw[cy,QK]at nq;clear V dL OL qS;cbv;refine PB (q.mono (B.t _)) hB (by omega) (λh5 g E hg oU=>?_);generalize eL id cs=TR at *;have q5:=d.mono (E.t _);have Oj:=B.trans E;cbv;intro n6 h6 LS e6;have l6:Le h5 h6:=by rw[e6];exact Le.set LS
 have g6:h6 n6=zcL 100 (List.replicate 32 (.int .u8 0)):=(congrFun e6 n6).trans ae;have z6:=LS;clear e6;cbv;refine ju g6 (kB _) (λh7 e7=>?_);have g7:=rf e7 (wX _ _);have Oi:Le h5 h7:=l6.aV (bs:=[n6]) (by simpa using z6) (by rw[e7];exact Kp.set (by simp));clear e7;have q7:=q5.mono (Oi.t _);cbv;refine q7.app (jR g7 hg oU) (by decide) rfl (by decide) (by omega) (Oj.trans Oi) (λm8 b8 c8 h8 aB I t8 k8 j=>?_);clear k8;have Kk:m8<=2^26+2^10:=by omega
 have f0:A .aN .gtr (A .nat K) 0=decide (0<u.length):=by rw[bC A,hA.nat];exact decide_eq_decide.2 (by show(K:Int)>0↔_;omega)
 cbv;rw[f0];by_cases AK:0<u.length
 .rw[if_pos AK]at f;rw[ak AK];cbv;refine pf j.sl (by omega) 0 (λm d9 m9 e9 s q9=>?_);have ax:=q9.sl.len;rw[cy,qA,<-j.sl.len]at ax;have:=f m d9 m9 e9 (I.trans s) (q9.base I) (by omega);clear f;cbv;exact this
 rw[if_neg AK]at f;rw[bn AK];have aF:=ql.dJ.mono (I.t _);have aD:=jH bs;cbv;refine RC aF hb (λm g9 s aE=>?_);generalize (cW bs).2.1=said at *;generalize (cW bs).1=dn at *;generalize (cW bs).2.2=de at *;cbv;intro F y O v;have gB:Le m y:=by rw[v];exact Le.set O
 have Mj:y F=zcL 102 (.int .i64 0::List.replicate 32 (.int .u8 0)):=(congrFun v F).trans ae;have Z:=O;clear v;cbv;refine ju Mj (kB _) (λL C=>?_);have X:L F=zcL 102 (.int .i64 dn::hl g9):=by have:=(congrFun C F).trans ae;rw[this];exact congrArg (λc=>some (Obj.cells (List.toArray c) 102 (0,0))) (aXE dn g9)
 have R:Le m L:=gB.aV (bs:=[F]) (by simpa using Z) (by rw[C];exact Kp.set (by simp));clear C;have uX:=j.mono ((s.trans R).t _);have Y:=I.trans (s.trans R);have sp:Sl 102 cj L (.slice (some ⟨F,1,none⟩) 32 32) said:=xg (o:=1) (x:=said) X (by rw[<-aE];rfl) aD;cbv;rw[av A];refine pf uX.sl (by omega) 1 (λtA aK D aM fa Ka=>?_);have W:=Ka.sl.len;rw[cy,qA,<-uX.sl.len]at W;cbv;refine Ka.app (sp.mono (fa.t _)) (by decide) rfl (by decide) (by omega) fa (λaG aH aA ay bc ng bj ao NT=>?_);have:=f ay aH aG aA (Y.trans ng) (by rw[<-ym];exact NT.base Y) (by omega);clear f ao;cbv;exact this
theorem bZc{d':DB}{L:Value×Value×Value×Value}(q:Da h s p G d L){c:Nat}{l:Bs}(qb:Sl 5 cj h (.slice b m c) l)(hs:G.s<=2^29)(hn:G.n<=2^29)(hm:m<=2^28)(hw:G.D.ws.length<=2^28)
 {C D E F:Option Addr} {O H P I Q K S M:Nat} (qd:fE h (.agg #[.slice C O H,.slice D P I,.slice E Q K,.slice F S M]) d') 
 (hk:∀h',dX IK h h'->Da h' s p (aY G l).2 (if(aY G l).1=0 then d' else d) (if(aY G l).1=0 then L' else L)->k (.int .i64 (aY G l).1) h'):
 Ct 52 [.zP s,.slice b m c,.agg #[.slice C O H,.slice D P I,.slice E Q K,.slice F S M,L'.1,L'.2.1,L'.2.2.1,L'.2.2.2]] h k:=by
 obtain⟨A,hA⟩:=Ar.ex;obtain⟨g,x,qs,ql,qk,qx⟩:=q.out;obtain⟨v5,v6,v7,v8⟩:=L;obtain⟨w5,w6,w7,w8⟩:=L';refine nY A (aj fXc.aw fXc.bq) Tryz.func52 rfl (by kernel_rfl) ?_;cbv;intro sc h1 ab e1;have l1:Le h h1:=by rw[e1];exact Le.set ab
 have g1:h1 sc=zcL 38 [.zP s]:=(congrFun e1 sc).trans ae;cbv;intro z h2 ni e2;have l2:Le h1 h2:=by rw[e2];exact Le.set ni
 have g2:h2 z=zcL 150 [.slice C O H,.slice D P I,.slice E Q K,.slice F S M,w5,w6,w7,w8]:=(congrFun e2 z).trans ae;cbv;intro i h3 Z e3;have l3:Le h2 h3:=by rw[e3];exact Le.set Z
 have g3:h3 i=zcL 33 [.int .i64 0]:=(congrFun e3 i).trans ae;have y:=(l1.trans l2).trans l3;clear e1 e2 e3;have w:=l3 _ _ (l2 _ _ g1);have T:=l3 _ _ g2;have n:=y _ _ qs.out;have V:=qk.le y;have Ng:=ql.lt (y.t _);have Ja:=qx.le y;cbv;refine cr w ?_;cbv;rw[av A];refine cr n ?_;cbv;refine RO V Ng (qb.mono (y.t _)) hs hn hm hw (λN x4 UJ DH=>?_);generalize aY G l=R at *;obtain⟨e,j⟩:=R;have UJ:nI N p j.D:=UJ;have DH:ID N g p (j.s:Int) (j.n:Int):=DH;have hk:∀h',dX IK h h'->Da h' s p j (if e=0 then d' else d) (if e=0 then(w5,w6,w7,w8)else(v5,v6,v7,v8))->k (.int .i64 e) h':=hk;have ne:∀ {bl:Nat} {cs:Array Value} {t:Nat} {fr:Nat×Nat},h3 bl=some (.cells cs t fr)->t∉cJo->N bl=some (.cells cs t fr):=λY ht=>x4 _ _ Y (λ_ _ _ he=>by cases he;exact ht);have W:=ne g3 (by decide);have v:=ne w (by decide);have u:=ne T (by decide);have X:=ne n (by decide);have tg:=Ja.lt (x4.t (by decide));have PH:dX IK h N:=(y.x _).trans (x4.sup (by decide));have aq:sc≠i:=λe=>by rw[e,W]at v;cases v
 have ao:z≠i:=λe=>by rw[e,W]at u;cases u
 have U:s≠i:=λe=>by rw[e,W]at X;cases X
 have ag:h i=none:=(l1.trans l2).none Z;have t4:=(qd.mono (y)).ls (x4.t (by decide));have fin:∀a,a=bL N i (.cells #[.int .i64 e] 33 (0,0))->dX IK h a/\nI a p j.D/\ID a g p (j.s:Int) (j.n:Int)/\xZ a x d (v5,v6,v7,v8)/\fE a (.agg #[.slice C O H,.slice D P I,.slice E Q K,.slice F S M]) d'/\
  a i=some (.cells #[.int .i64 e] 33 (0,0))/\a sc=some (.cells #[.zP s] 38 (0,0))/\a z=zcL 150 [.slice C O H,.slice D P I,.slice E Q K,.slice F S M,w5,w6,w7,w8]/\cZq a s g x:=λa f=>by
  have B:dX [33] N a:=by rw[f];exact gN W (by decide)
  refine⟨?_,UJ.lt (B.t (by decide)),DH.lt (B.t (by decide)),tg.lt (B.t (by decide)),t4.ls (B.t (by decide)),by rw[f];exact ae,by rw[f,ck aq];exact v,by rw[f,ck ao];exact u,⟨by rw[f,ck U];exact X⟩⟩;intro b0 o Y bS;rw[f,ck (λe=>by rw[e,ag]at Y;cases Y)];exact PH b0 o Y bS
 clear V Ng Ja UJ DH tg g3 w T n t4 x4;cbv;refine ju W (by simp) (λa f=>?_);obtain⟨B,CL,xf,an,xM,r,al,J,Qi⟩:=fin a f;clear fin f;cbv;refine bZe r al Qi J rfl (λbS=>?_) (λh0 h6 f=>?_)
 .have:=hk a B ⟨g,x,Qi,xf,CL,by rw[if_neg bS,if_neg bS];exact an⟩;cbv;refine cr r ?_;cbv;exact this
 have x6:dX [158] a h6:=by rw[f];exact gN Qi.out (by decide)
 have ar:h6 i=some (.cells #[.int .i64 e] 33 (0,0)):=by rw[f,ck (Ne.symm U)];exact r
 have ax:z≠s:=λe=>by rw[e,Qi.out]at J;cases J
 have aw:h6 z=zcL 150 [.slice C O H,.slice D P I,.slice E Q K,.slice F S M,w5,w6,w7,w8]:=by rw[f,ck ax];exact J
 have:=hk h6 (B.trans (x6.sup (by decide))) ⟨g,z,⟨by rw[f];exact ae⟩,xf.lt (x6.t (by decide)),CL.lt (x6.t (by decide)),by rw[if_pos h0,if_pos h0];exact⟨_,_,_,_,_,_,_,_,_,_,_,_,aw,xM.ls (x6.t (by decide))⟩⟩;cbv;refine cr ar ?_;cbv;exact this
structure tD(h:ad)(s p:Nat)(G:Lg)(d:DB)(L:fA):Prop where
 out:∃b1 n1 c1 b2 n2 c2 b3 n3 c3,Da h s p G d (.int .i64 L.next,.slice b1 n1 c1,.slice b2 n2 c2,.slice b3 n3 c3)/\vd h b1 n1 c1 b2 n2 c2 b3 n3 c3 L
theorem tD.le(q:tD h s p G d L)(l:Le h h'):tD h' s p G d L:=by obtain⟨b,n,e,a,i,f,c,j,g,w,k⟩:=q.out;exact⟨b,n,e,a,i,f,c,j,g,w.lx l,k.le l⟩
theorem Da.now{g x y:Nat}(b:cZq h s g x)(l:ID h g p (G.s:Int) (G.n:Int))(q:nI h p G.D)(c:xZ h y d L')(u:h'=bL h s (.cells #[.zP g,.zP y] 158 (0,0))):
 Da h' s p G d L'/\dX [158] h h':=by
 have a:dX [158] h h':=by rw[u];exact gN b.out (by decide)
 exact⟨⟨g,y,⟨by rw[u];exact ae⟩,l.lt (a.t (by decide)),q.lt (a.t (by decide)),c.lt (a.t (by decide))⟩,a⟩
theorem gKG{o:DB}(q:tD h s p G d L){v z B C:Option Addr}{S E T F U H V I:Nat}(qd:fE h (.agg #[.slice v S E,.slice z T F,.slice B U H,.slice C V I]) o)
 (R:∀h',dX [158] h h'->tD h' s p G o L->k (.tuple #[]) h'):
 Ct 16 [.zP s,.agg #[.slice v S E,.slice z T F,.slice B U H,.slice C V I]] h k:=by
 obtain⟨n,i,m,J,N,j,b,O,l,qw,Z⟩:=q.out;obtain⟨g,x,W,ql,qk,qx⟩:=qw.out;obtain⟨d1,m1,e1,d2,m2,e,d3,m3,e3,d4,m4,e4,gx,-⟩:=qx.out;refine cg hKC Tryz.func16 λA hA=>?_;cbv;refine bZo qd (λh1 P Y K fQ nS gv jo qJ jn By Fb uV t Ql=>?_);have M:=t _ _ gx;have c:=t _ _ W.out;cbv;repeat rw[av A]
 refine yJ (cm c rfl) M rfl ?_;cbv;repeat (first|rw[av A] | (refine cr M ?_;cbv)|(refine⟨⟨_,rfl,rfl⟩,?_⟩;cbv))
 intro y a hy e;have u:Le h1 a:=by rw[e];exact Le.set hy
 have f:=t.trans u;have Q:a y=zcL 150 [.slice P Y K,.slice fQ nS gv,.slice jo qJ jn,.slice By Fb uV,.int .i64 L.next,.slice n i m,.slice J N j,.slice b O l]:=(congrFun e y).trans ae;have X:xZ a y o (.int .i64 L.next,.slice n i m,.slice J N j,.slice b O l):=⟨_,_,_,_,_,_,_,_,_,_,_,_,Q,Ql.ls (u.t _)⟩;have fin:∀h',h'=bL a s (.cells #[.zP g,.zP y] 158 (0,0))->k (.tuple #[]) h':=λh' r=>by
  obtain⟨w,x6⟩:=Da.now ⟨f _ _ W.out⟩ (ql.lt (f.t _)) (qk.le f) X r;exact R h' ((f.x _).trans x6) ⟨n,i,m,J,N,j,b,O,l,w,(Z.le f).ls (x6.t (by decide))⟩
 have D:=u _ _ c;clear R e X;cbv;repeat rw[av A]
 refine zE D rfl (cm (x:=.slice P Y K) Q rfl) (λh' r=>?_);have:=fin h' r;clear fin;cbv;exact this
def oe(G:Lg)(d:DB)(L:fA)(s:Int):Int×Int×Lg×DB×fA:=
 if(bZ d s).2.2≠0 then(0,(bZ d s).2.2,G,d,L)
 else if(bZ d s).2.1.length=0 then(-1,0,G,(bZ d s).1,L)
 else if(aY G (iK ⟨L.next,(bZ d s).2.1⟩ (eX L (bZ d s).2.1))).1=0 then(L.next,0,(aY G (iK ⟨L.next,(bZ d s).2.1⟩ (eX L (bZ d s).2.1))).2,(bZ d s).1,eX L (bZ d s).2.1)
 else(0,(aY G (iK ⟨L.next,(bZ d s).2.1⟩ (eX L (bZ d s).2.1))).1,(aY G (iK ⟨L.next,(bZ d s).2.1⟩ (eX L (bZ d s).2.1))).2,(cN d s).1,L)
theorem bQw(q:tD h s p G d L)(f:Int)(ok:sa n d)(Cj:n<2^18)(lb:yg L)(qS:(bZ d f).2.1.length<=255)(Y:∀c∈(bZ d f).2.1,yh c)
 (hs:G.s<=2^29) (hn:G.n<=2^29) (hw:G.D.ws.length<=2^28) {W:Int×Int×Lg×DB×fA} (b:oe G d L f=W) 
 (v:∀h',dX IK h h'->tD h' s p W.2.2.1 W.2.2.2.1 W.2.2.2.2->k (.tuple #[.int .i64 W.1,.int .i64 W.2.1]) h'):
 Ct 17 [.zP s,.int .i64 f] h k:=by
 obtain⟨u,m,r,J,N,l,j,O,o,qw,E⟩:=q.out;obtain⟨g,x,qs,ql,qk,qx⟩:=qw.out;obtain⟨d1,m1,e1,d2,m2,e2,d3,m3,e3,d4,m4,e4,gx,qd⟩:=qx.out;unfold oe at b;obtain⟨a,K,e,i⟩:=L;obtain⟨C,hC⟩:∃C,bZ d f=C:=⟨_,rfl⟩;rw[hC]at b qS Y;obtain⟨P,cs,ce⟩:=C;have b:(if ce≠0 then((0,ce,G,d,⟨a,K,e,i⟩):Int×Int×Lg×DB×fA)
  else if cs.length=0 then(-1,0,G,P,⟨a,K,e,i⟩)
  else if(aY G (iK ⟨a,cs⟩ (eX ⟨a,K,e,i⟩ cs))).1=0 then(a,0,(aY G (iK ⟨a,cs⟩ (eX ⟨a,K,e,i⟩ cs))).2,P,eX ⟨a,K,e,i⟩ cs)
  else(0,(aY G (iK ⟨a,cs⟩ (eX ⟨a,K,e,i⟩ cs))).1,(aY G (iK ⟨a,cs⟩ (eX ⟨a,K,e,i⟩ cs))).2,(cN d f).1,⟨a,K,e,i⟩))=W:=b
 have qS:cs.length<=255:=qS;have Y:∀c∈cs,yh c:=Y;have gx:h x=zcL 150 [.slice d1 m1 e1,.slice d2 m2 e2,.slice d3 m3 e3,.slice d4 m4 e4,.int .i64 a,.slice u m r,.slice J N l,.slice j O o]:=gx;refine cg hKB Tryz.func17 λA hA=>?_;cbv;rw[av A];refine yJ (cm qs.out rfl) gx rfl ?_;cbv;rw[av A];refine cr gx ?_;cbv;refine Ue qd ok Cj f hC (λh1 S V T b2 n2 c2 b3 n3 c3 b4 n4 c4 b5 n5 c5 M Ql Z=>?_);have Ql:fE h1 (.agg #[.slice S V T,.slice b2 n2 c2,.slice b3 n3 c3,.slice b4 n4 c4]) P:=Ql;have Z:Sl 161 bz h1 (.slice b5 n5 c5) cs:=Z;have LU:n5=cs.length:=Z.len;have q1:=q.le M;have Mh:=M _ _ gx;have ax:=M _ _ qs.out;have fe:A .aN .neq ce 0=decide (ce≠0):=az A ..;have fl:A .aN .eql (A .nat n5) 0=decide (cs.length=0):=by rw[au A,hA.nat];exact decide_eq_decide.2 (by show(n5:Int)=0↔_;omega)
 cbv;rw[fe];by_cases hc:ce≠0
 .rw[if_pos hc]at b;subst b;have:=v h1 (M.x _) q1;rw[ak hc];clear v;cbv;exact this
 rw[if_neg hc]at b;rw[bn hc];clear fe hC;cbv;rw[fl];by_cases JC:cs.length=0
 .rw[if_pos JC]at b;subst b;rw[ak JC];cbv;repeat (first|rw[av A] | (refine cr Mh ?_;cbv)|(refine⟨⟨_,rfl,rfl⟩,?_⟩;cbv))
  intro y U hy e2;have B:Le h1 U:=by rw[e2];exact Le.set hy
  have H:=M.trans B;have gy:U y=zcL 150 [.slice S V T,.slice b2 n2 c2,.slice b3 n3 c3,.slice b4 n4 c4,.int .i64 a,.slice u m r,.slice J N l,.slice j O o]:=(congrFun e2 y).trans ae;have qy:xZ U y P (.int .i64 a,.slice u m r,.slice J N l,.slice j O o):=⟨_,_,_,_,_,_,_,_,_,_,_,_,gy,Ql.ls (B.t _)⟩;have fin:∀h',h'=bL U s (.cells #[.zP g,.zP y] 158 (0,0))->k (.tuple #[.int .i64 (-1),.int .i64 0]) h':=λh' I=>by
   obtain⟨w,x6⟩:=Da.now ⟨H _ _ qs.out⟩ (ql.lt (H.t _)) (qk.le H) qy I;exact v h' ((H.x _).trans (x6.sup (by decide))) ⟨u,m,r,J,N,l,j,O,o,w,(E.le H).ls (x6.t (by decide))⟩
  have aB:=B _ _ ax;clear v e2 qy;cbv;repeat rw[av A]
  refine zE aB rfl (cm (x:=.slice S V T) gy rfl) (λh' I=>?_);have:=fin h' I;clear fin;cbv;exact this
 rw[if_neg JC]at b;rw[bn JC];cbv;repeat (first|rw[av A] | (refine cr Mh ?_;cbv)|(refine⟨⟨_,rfl,rfl⟩,?_⟩;cbv))
 obtain⟨L',hL⟩:∃L',eX ⟨a,K,e,i⟩ cs=L':=⟨_,rfl⟩;have ay:L'.dJ.length<=2^20:=by
  have U:e.length<=2^16:=lb.n2;rw[<-hL];unfold eX dq;split
  .show(e++_).length<=_;rw[cy,qA];omega
  show e.length<=_;omega
 rw[hL]at b;refine bZq (E.le M) Z lb ⟨by show cs.length<=2^30;omega,Y⟩ hL (λU b6 n6 c6 b7 n7 c7 b8 n8 c8 b9 c9 B F an=>?_);have aq:=Ql.ls (B.t _);have H:=M.trans B;have q2:=q1.le B;have Mg:=B _ _ Mh;obtain⟨NW,Qr,xY,ab⟩:=L';cbv;refine cZm an F Y qS ay (λh3 rb rn rc l3 qr AH=>?_);have ng:=H.trans l3;have DI:=aq.ls (l3.t _);have ao:=F.le l3;have q3:=qw.lx ng;have Bx:=l3 _ _ Mg;have ag:=E.le ng;generalize iK ⟨a,cs⟩ ⟨NW,Qr,xY,ab⟩=rec at *;cbv;refine bZc q3 qr.sl hs hn (by omega) hw DI (L':=(.int .i64 NW,.slice b6 n6 c6,.slice b7 n7 c7,.slice b8 n8 c8)) (λh4 x4 X=>?_);have aA:=ao.ls (x4.t (by decide));have aw:=ag.ls (x4.t (by decide));have ne:∀ {bl:Nat} {cs:Array Value} {t:Nat} {fr:Nat×Nat},h3 bl=some (.cells cs t fr)->t∉IK->h4 bl=some (.cells cs t fr):=λhb ht=>x4 _ _ hb (λ_ _ _ he=>by cases he;exact ht);have tC:=ne Bx (by decide);have ar:=(qd.mono ng).ls (x4.t (by decide));have PH:dX IK h h4:=(ng.x _).trans x4;generalize aY G rec=R at *;obtain⟨D,RG⟩:=R;have X:Da h4 s p RG (if D=0 then P else d) (if D=0 then(.int .i64 NW,.slice b6 n6 c6,.slice b7 n7 c7,.slice b8 n8 c8)else(.int .i64 a,.slice u m r,.slice J N l,.slice j O o)):=X;have b:(if D=0 then((a,0,RG,P,⟨NW,Qr,xY,ab⟩):Int×Int×Lg×DB×fA)else(0,D,RG,(cN d f).1,⟨a,K,e,i⟩))=W:=b;have fr:A .aN .neq D 0=decide (D≠0):=az A ..;clear an F ao q2 q3 aq DI qr Mg Bx ne ag;cbv;rw[fr];by_cases z:D=0
 .rw[if_pos z]at b;rw[if_pos z,if_pos z]at X;subst b;rw[bn (λg=>g z)];have:=v h4 PH ⟨_,_,_,_,_,_,_,_,_,X,aA⟩;clear v;cbv;exact this
 rw[if_neg z]at b;rw[if_neg z,if_neg z]at X;subst b;rw[ak z];obtain⟨g',x',al,DH,UJ,-⟩:=X.out;cbv;repeat (first|rw[av A] | (refine cr tC ?_;cbv)|(refine⟨⟨_,rfl,rfl⟩,?_⟩;cbv))
 refine CK ar ok Cj f rfl (λh5 S V T b2 n2 c2 b3 n3 c3 b4 n4 c4 l5 xM=>?_);generalize cN d f=RB at *;obtain⟨RD,aD⟩:=RB;have Ii:=l5 _ _ tC;cbv;repeat (first|rw[av A] | (refine cr Ii ?_;cbv)|(refine⟨⟨_,rfl,rfl⟩,?_⟩;cbv))
 intro y h6 hy e6;have l6:Le h5 h6:=by rw[e6];exact Le.set hy
 have Q:=l5.trans l6;have gy:h6 y=zcL 150 [.slice S V T,.slice b2 n2 c2,.slice b3 n3 c3,.slice b4 n4 c4,.int .i64 a,.slice u m r,.slice J N l,.slice j O o]:=(congrFun e6 y).trans ae;have qy:xZ h6 y RD (.int .i64 a,.slice u m r,.slice J N l,.slice j O o):=⟨_,_,_,_,_,_,_,_,_,_,_,_,gy,xM.ls (l6.t _)⟩;have fin:∀h',h'=bL h6 s (.cells #[.zP g',.zP y] 158 (0,0))->k (.tuple #[.int .i64 0,.int .i64 D]) h':=λh' I=>by
  obtain⟨w,x6⟩:=Da.now ⟨Q _ _ al.out⟩ (DH.lt (Q.t _)) (UJ.le Q) qy I;exact v h' (PH.trans ((Q.x _).trans (x6.sup (by decide)))) ⟨u,m,r,J,N,l,j,O,o,w,(aw.le Q).ls (x6.t (by decide))⟩
 have aC:=Q _ _ al.out;clear v e6 qy;cbv;repeat rw[av A]
 refine zE aC rfl (cm (x:=.slice S V T) gy rfl) (λh' I=>?_);have:=fin h' I;clear fin;cbv;exact this
theorem kZ(s:ByteArray):(kJ s).length=s.size:=jKo
structure aQu(c:cV):Prop where
 op:c.op=1\/c.op=2
 bZL:c.table.size<65536
 row:(gn c.row).length<65536
 parse:gz (gn c.row)=some c.row
structure eKb(t:ca)(c:cV)(t':ca):Prop where
 eq:JM t c=(t',true)
 len:c.op≠1->c.row.length=t.S.bB.length/\0<=t.S.key/\t.S.key<(c.row.length:Int)
 rows:t.rows.length<=200
end Go.S
