import Derived.Test.YtekoaiendgjkdaaGreatEA
import Derived.Test.YtekoaiendgjkdaaGreatRd
set_option linter.unusedVariables false
set_option linter.unusedSimpArgs false
set_option linter.unusedSectionVars false
set_option maxRecDepth 100000
namespace Go.S
open Go.Sx Go.Proofs
def eO(w:bK)(H:List bK):List (Int×Int):=(H.filter (fC w)).map fun h=>(w.s,h.s)
def ch(H W:List bK):List (Int×Int):=W.flatMap fun w=>eO w H
def cD(E:List (Int×Int))(a:Int):List Int:=(E.filter fun p=>decide (p.1=a)).map (·.2)
theorem nG{E:List (Int×Int)}{a b:Int}:cD (E++[(a,b)]) a=cD E a++[b]:=by simp[cD]
theorem iH{E:List (Int×Int)}{a b c:Int}(h:c≠a):cD (E++[(a,b)]) c=cD E c:=by simp[cD,Ne.symm h]
theorem yC(E:List (Int×Int))(a:Int):(cD E a).length<=E.length:=by unfold cD;rw[List.length_map];exact List.length_filter_le _ _
structure Sg where
 a:Int
 nb:Nat
 cap:Nat
structure Rg(h0 h:ad)(m:Nat)(E:List (Int×Int)):Prop where
 out:∃G:List Sg,Mp h m (.int .i64) (G.map fun g=>(.int .i64 g.a,.slice (some ⟨g.nb,0,none⟩) (cD E g.a).length g.cap))/\(G.map (·.nb)).Nodup/\(∀g∈G,h0 g.nb=none/\dn 3 ef h g.nb g.cap (cD E g.a))/\∀a,cD E a≠[]->∃g∈G,g.a=a
theorem Db:Tryz.prog.underlying 402=some (.map 3 240):=by kernel_rfl
theorem JO:Tryz.prog.underlying 391=some (.map 3 4):=by kernel_rfl
theorem u3:Tryz.prog.underlying 3=some (.int .i64):=by kernel_rfl
theorem E7(w:World):(zeroValue 240).run Tryz.prog w=.ok (.slice none 0 0) w:=by
 have h:((Tryz.prog.info? 240).bind (·.zero))=some (.slice none 0 0):=by kernel_rfl
 cases h1:Tryz.prog.info? 240 with
 |none=>rw[h1]at h;cases h
 |some i=>rw[h1]at h;simp at h;simp[zeroValue,typeInfo,h1,h]
theorem Rg.kp{h0 h h':ad}{m:Nat}{E:List (Int×Int)}(q:Rg h0 h m E){bs:List Nat}(k:Kp bs h h')(hm:m∉bs)(hb:∀b∈bs,h0 b≠none):Rg h0 h' m E:=by obtain⟨G,g1,g2,g3,g4⟩:=q.out;exact⟨G,g1.kp k hm,g2,fun g hg=>⟨(g3 g hg).1,(g3 g hg).2.kp k (fun hx=>hb _ hx (g3 g hg).1) (fun _ _ _ _ hx=>by cases hx)⟩,g4⟩
def cQ(h:ad)(n:Nat):ad:=fun b=>if b=n then none else h b
theorem fh(h:ad)(n:Nat):Le (cQ h n) h:=fun b o q=>by
 unfold cQ at q;split at q
 ·cases q
 ·exact q
theorem dP(h:ad)(n:Nat):cQ h n n=none:=by unfold cQ;rw[if_pos rfl]
theorem xQ{h h':ad}{n:Nat}(l:Le (cQ h n) h'):Kp [n] h h':=fun b o q hb=>l b o (by unfold cQ;rw[if_neg (by simpa using hb)];exact q)
theorem wx{h:ad}{n b:Nat}(q:cQ h n b=none):b=n\/h b=none:=by
 unfold cQ at q;split at q
 ·rename_i e;exact .inl e
 ·exact .inr q
structure Tk(h0 h:ad)(m:Nat)(E:List (Int×Int))(a:Int)(v:Value):Prop where
 out:∃hb,Le h0 hb/\Le hb h/\cS 3 ef hb h v (cD E a)/\
  ∀h' v' x,Le hb h'->cS 3 ef hb h' v' (cD E a++[x])->∀k:Value->ad->Prop,(∀lY,Rg h0 lY m (E++[(a,x)])->Kp [m] h' lY->(∀tys,cG tys h' lY)->k undef lY)->
   cX (fun _=>Tryz.prog) (fun _=>do Instr.mapUpdate 402 (.map (some m)) (.int .i64 a) v';pure undef) h' k
theorem yW{h:ad}{m nb cap e:Nat}{d:TypeDesc}{l:List (Value×Value)}{α:Type}{s:Sh α}{xs:List α}(q:Mp h m d l)(o:dn e s h nb cap xs):nb≠m:=fun he=>by
 obtain⟨es,clock,g,-⟩:=q.out;obtain⟨c,g',-⟩:=o.out;rw[he,g]at g';cases g'
theorem Rg.tk{h0 h:ad}{m:Nat}{E:List (Int×Int)}(q:Rg h0 h m E)(l0:Le h0 h)(PU:h0 m=none)(a:Int){k:Value->ad->Prop}(hk:∀b n c,Tk h0 h m E a (.slice b n c)->k (.slice b n c) h):
 cX (fun _=>Tryz.prog) (fun _=>Instr.lookup 402 (.map (some m)) (.int .i64 a) false) h k:=by
 obtain⟨G,g1,g2,g3,g4⟩:=q.out;have PY:=g1.GS;by_cases ha:∃g∈G,g.a=a
 ·obtain⟨g,hg,rfl⟩:=ha;obtain⟨i,hi⟩:=List.getElem?_of_mem hg;obtain⟨jG,jA⟩:=List.getElem?_eq_some_iff.1 hi;refine sw Db u3 g1 (key:=.int .i64 g.a) rfl (List.mem_map.2 ⟨g,hg,rfl⟩) (hk _ _ _ ⟨cQ h g.nb,?_,fh h g.nb,?_,?_⟩)
  ·intro b o hb;have bU:b≠g.nb:=fun e=>by rw[e,(g3 g hg).1]at hb;cases hb
   unfold cQ;rw[if_neg bU];exact l0 b o hb
  ·exact(g3 g hg).2.buf (dP h g.nb) rfl
  ·intro h' v' x l' b' k' ER;have bU:g.nb≠m:=yW g1 (g3 g hg).2;have kp:=xQ l';have E1:Mp h' m (.int .i64) _:=g1.kp kp (by simpa using Ne.symm bU);rcases b'.out with ⟨b0,e1,e2⟩ | ⟨nb,cap,e1,e2,o⟩
   ·have:=congrArg List.length e2;simp at this
   subst e1;have fR:(G.map fun g=>(Value.int .i64 g.a,Value.slice (some ⟨g.nb,0,none⟩) (cD E g.a).length g.cap))[i]? =some (.int .i64 g.a,.slice (some ⟨g.nb,0,none⟩) (cD E g.a).length g.cap):=by rw[List.getElem?_map,hi];rfl
   have PK:∀j (g':Sg),G[j]? =some g'->j≠i->g'.a≠g.a/\g'.nb≠g.nb:=fun j g' hj ji=>by
    obtain⟨re,P1⟩:=List.getElem?_eq_some_iff.1 hj;constructor
    ·intro he;have p:=List.pairwise_iff_getElem.1 PY;rcases Nat.lt_or_gt_of_ne ji with aG|aG
     ·have:=p j i (by simpa using re) (by simpa using jG) aG;simp[P1,jA,he]at this
     ·have:=p i j (by simpa using jG) (by simpa using re) aG;simp[P1,jA,he]at this
    ·intro he;have p:=List.pairwise_iff_getElem.1 g2;rcases Nat.lt_or_gt_of_ne ji with aG|aG
     ·have:=p j i (by simpa using re) (by simpa using jG) aG;simp[P1,jA,he]at this
     ·have:=p i j (by simpa using jG) (by simpa using re) aG;simp[P1,jA,he]at this
   refine J2 Db u3 E1 (key:=.int .i64 g.a) rfl fR (fun lY A2 k2 t2=>ER lY ⟨G.set i ⟨g.a,nb,cap⟩,?_,?_,?_,?_⟩ k2 t2)
   ·have:(G.set i ⟨g.a,nb,cap⟩).map (fun(g':Sg)=>(Value.int .i64 g'.a,Value.slice (some ⟨g'.nb,0,none⟩) (cD (E++[(g.a,x)]) g'.a).length g'.cap))=
     (G.map fun g=>(Value.int .i64 g.a,Value.slice (some ⟨g.nb,0,none⟩) (cD E g.a).length g.cap)).set i (.int .i64 g.a,.slice (some ⟨nb,0,none⟩) (cD E g.a++[x]).length cap):=by
     apply List.ext_getElem?;intro j;rw[List.getElem?_map,List.getElem?_set,List.getElem?_set,List.length_map,List.getElem?_map];by_cases ji:i=j
     ·subst ji;rw[if_pos rfl,if_pos rfl,if_pos jG];simp[nG,jG]
     ·rw[if_neg ji,if_neg ji];cases hj:G[j]? with
      |none=>rfl
      |some g'=>simp[iH (PK j g' hj (Ne.symm ji)).1]
    rw[this];exact A2
   ·rw[List.map_set];refine List.pairwise_iff_getElem.2 (fun p r hp hr KY=>?_);have ua:∀j (g':Sg),G[j]? =some g'->j≠i->g'.nb≠nb:=fun j g' hj ji e=>by
     rcases wx e2 with e3|e3
     ·exact(PK j g' hj ji).2 (e.trans e3)
     ·exact(g3 g' (List.mem_of_getElem? hj)).2.has (by rw[e];exact e3)
    simp only[List.length_set,List.length_map]at hp hr;rw[List.getElem_set,List.getElem_set];by_cases h1:i=p
    ·subst h1;rw[if_pos rfl,if_neg (by omega),List.getElem_map];exact Ne.symm (ua r G[r] (by simp[hr]) (by omega))
    ·rw[if_neg h1];by_cases h2:i=r
     ·subst h2;rw[if_pos rfl,List.getElem_map];exact ua p G[p] (by simp[hp]) (by omega)
     ·rw[if_neg h2];exact List.pairwise_iff_getElem.1 g2 p r (by simpa using hp) (by simpa using hr) KY
   ·intro g' D6;obtain⟨j,hj⟩:=List.getElem?_of_mem D6;rw[List.getElem?_set]at hj;by_cases ji:i=j
    ·subst ji;rw[if_pos rfl,if_pos jG]at hj;cases hj;refine⟨?_,?_⟩
     ·rcases wx e2 with e3|e3
      ·rw[e3];exact(g3 g hg).1
      ·exact l0.none e3
     ·rw[nG];exact o.kp k2 (by simpa using yW E1 o) (t2 _)
    ·rw[if_neg ji]at hj;obtain⟨f1,f2⟩:=PK j g' hj (Ne.symm ji);obtain⟨f3,f4⟩:=g3 g' (List.mem_of_getElem? hj);have o':=f4.kp kp (by simpa using f2) (fun _ _ _ _ hx=>by cases hx);refine⟨f3,?_⟩;rw[iH f1];exact o'.kp k2 (by simpa using yW E1 o') (t2 _)
   ·intro c hc;by_cases RZ:c=g.a
    ·exact⟨⟨g.a,nb,cap⟩,List.mem_of_getElem? (i:=i) (by rw[List.getElem?_set,if_pos rfl,if_pos jG]),RZ.symm⟩
    ·rw[iH RZ]at hc;obtain⟨g',D6,he⟩:=g4 c hc;obtain⟨j,hj⟩:=List.getElem?_of_mem D6;have ji:i≠j:=fun e=>by subst e;rw[hi]at hj;cases hj;exact RZ he.symm
     exact⟨g',List.mem_of_getElem? (i:=j) (by rw[List.getElem?_set,if_neg ji];exact hj),he⟩
 ·have TX:cD E a=[]:=Classical.byContradiction fun bU=>ha (g4 a bU);have Hz:∀p∈(G.map fun g=>(Value.int .i64 g.a,Value.slice (some ⟨g.nb,0,none⟩) (cD E g.a).length g.cap)),p.1≠.int .i64 a:=fun p hp e=>by
   obtain⟨g,hg,rfl⟩:=List.mem_map.1 hp;simp at e;exact ha ⟨g,hg,e⟩
  refine pr Db u3 E7 g1 (key:=.int .i64 a) rfl Hz (hk _ _ _ ⟨h,l0,Le.refl _,by rw[TX];exact cS.nil,?_⟩);intro h' v' x l' b' k' ER;have E1:=g1.kp (l'.kp []) (by simp);rcases b'.out with ⟨b0,e1,e2⟩ | ⟨nb,cap,e1,e2,o⟩
  ·have:=congrArg List.length e2;simp at this
  subst e1;refine lL Db u3 E1 (key:=.int .i64 a) rfl Hz (fun lY A2 k2 t2=>ER lY ⟨G++[⟨a,nb,cap⟩],?_,?_,?_,?_⟩ k2 t2)
  ·have:(G++[(⟨a,nb,cap⟩:Sg)]).map (fun(g':Sg)=>(Value.int .i64 g'.a,Value.slice (some ⟨g'.nb,0,none⟩) (cD (E++[(a,x)]) g'.a).length g'.cap))=
    (G.map fun g=>(Value.int .i64 g.a,Value.slice (some ⟨g.nb,0,none⟩) (cD E g.a).length g.cap))++[(.int .i64 a,.slice (some ⟨nb,0,none⟩) (cD E a++[x]).length cap)]:=by
    rw[List.map_append];congr 1
    ·refine List.map_congr_left (fun g hg=>?_);rw[iH (fun e=>ha ⟨g,hg,e⟩)]
    ·simp[nG]
   rw[this];exact A2
  ·rw[List.map_append];refine List.nodup_append.2 ⟨g2,by simp,?_⟩;intro p hp r hr e;simp at hr;obtain⟨g,hg,rfl⟩:=List.mem_map.1 hp;exact(g3 g hg).2.has (by rw[e,hr];exact e2)
  ·intro g' D6;rcases List.mem_append.1 D6 with D6|D6
   ·obtain⟨f3,f4⟩:=g3 g' D6;have o':=f4.mono (l'.t _);refine⟨f3,?_⟩;rw[iH (fun e=>ha ⟨g',D6,e⟩)];exact o'.kp k2 (by simpa using yW E1 o') (t2 _)
   ·simp at D6;subst D6;refine⟨l0.none e2,?_⟩;rw[nG];exact o.kp k2 (by simpa using yW E1 o) (t2 _)
  ·intro c hc;by_cases RZ:c=a
   ·exact⟨⟨a,nb,cap⟩,by simp,RZ.symm⟩
   ·rw[iH RZ]at hc;obtain⟨g',D6,he⟩:=g4 c hc;exact⟨g',by simp[D6],he⟩
theorem BE{H W:List bK}{i:Nat}{w:bK}(h:W[i]? =some w):ch H (W.take (i+1))=ch H (W.take i)++eO w H:=by unfold ch;rw[List.take_add_one,h];simp
theorem BF{w o:bK}{H:List bK}{j:Nat}(h:H[j]? =some o)(ha:fC w o=true):eO w (H.take (j+1))=eO w (H.take j)++[(w.s,o.s)]:=by unfold eO;rw[List.take_add_one,h,List.filter_append];simp[ha]
theorem zV{w o:bK}{H:List bK}{j:Nat}(h:H[j]? =some o)(ha:fC w o=false):eO w (H.take (j+1))=eO w (H.take j):=by unfold eO;rw[List.take_add_one,h,List.filter_append];simp[ha]
theorem uz(w:bK)(H:List bK):(eO w H).length<=H.length:=by unfold eO;rw[List.length_map];exact List.length_filter_le _ _
theorem wC(H W:List bK):(ch H W).length<=W.length*H.length:=by
 induction W with
 |nil=>simp[ch]
 |cons w r ih=>
  have:ch H (w::r)=eO w H++ch H r:=by simp[ch]
  rw[this,List.length_append,List.length_cons,Nat.succ_mul];have:=uz w H;omega
theorem vO{a b:Nat}(ha:a<=2^18)(hb:b<=2^18):a*b<=2^36:=by
 have:=Nat.mul_le_mul ha hb;have e:(2:Nat)^18*2^18=2^36:=by decide
 omega
theorem FV{H W:List bK}{h:ad}{b1 b2:Option Addr}{n1 c1 n2 c2:Nat}(q1:Sl 205 bA h (.slice b1 n1 c1) H)(q2:Sl 205 bA h (.slice b2 n2 c2) W)(nh:n1<=2^18)(mK:n2<=2^18):
 Ct 309 [.agg #[.slice b1 n1 c1,.slice b2 n2 c2]] h (fun v h'=>Le h h'/\∃rb m,v=.pointer (some ⟨rb,0,none⟩)/\h rb=none/\h m=none/\h' rb=some (.cells #[.map (some m),.int .i64 0] 407 (0,0))/\Rg h h' m (ch H W)):=by
 obtain⟨A,hA⟩:=Ar.ex;have Cs:=q1.len;have tX:=q2.len;have hE:∀i,(ch H (W.take i)).length<=2^36:=fun i=>by
  have:=wC H (W.take i);have h2:(W.take i).length<=2^18:=by rw[List.length_take];omega
  have:=vO h2 (show H.length<=2^18 by omega);omega
 refine af A (ar VT.aw VT.aZ) Tryz.func309 rfl (by kernel_rfl) ?_;cbv;intro m h1 hm e1;have l1:Le h h1:=by rw[e1];exact Le.set hm
 have g1:=(congrFun e1 m).trans ah;cbv;intro rb h2 Cn e2;have l2:Le h1 h2:=by rw[e2];exact Le.set Cn
 have gr:=(congrFun e2 rb).trans ah;have gm:=l2 _ _ g1;have lT:=l1.trans l2;have rg0:Rg h h2 m (ch H (W.take 0)):=⟨[],Mp.new gm,by simp,by simp,fun a ha=>absurd rfl ha⟩;cbv;refine aX.go (G:=Int) (fun z=>[(14,.v (.int .i64 z))]) (fun _=>[(1,[.slice b1 n1 c1,.slice b2 n2 c2])])
  (fun k z h'=>∃i:Nat,aO z i/\k=n2-i/\i<=n2/\Le h h'/\h' rb=some (.cells #[.map (some m),.int .i64 0] 407 (0,0))/\Rg h h' m (ch H (W.take i))) n2 0 ⟨?_,?_,?_⟩ ⟨0,⟨rfl⟩,by omega,by omega,lT,gr,rg0⟩ ?_
 ·cbv
 ·cbv
 ·cbv
 ·intro k z h' hI;cbv;obtain⟨i,hz,hk,hi,hle,Cz,rg⟩:=hI;refine aL (fun hc=>?_) (fun hc=>?_)
  ·have aG:=hz.lt hc;clear hc;cbv;obtain⟨w,hw⟩:=aE (xs:=W) (i:=i) (by omega);refine⟨⟨q2.bF (by omega),hz.ix aG⟩,?_⟩;cbv;refine(q2.mono (hle.t _)).load hw hz.eq (fun cs aF=>?_);have aF:cs=[.int .i64 w.s,.string w.table,.bool w.x]:=aF;subst aF;have hEi:=BE (H:=H) hw;have hEl:=hE (i+1);rw[hEi]at hEl;have rg0:Rg h h' m (ch H (W.take i)++eO w (H.take 0)):=by simpa[eO]using rg
   cbv;refine aX.go (G:=Int) (fun z=>[(21,.v (.int .i64 z))]) (fun _=>[(5,[.int .i64 w.s,.string w.table,.bool w.x]),(1,[.slice b1 n1 c1,.slice b2 n2 c2])])
    (fun k z h'=>∃j:Nat,aO z j/\k=n1-j/\j<=n1/\Le h h'/\h' rb=some (.cells #[.map (some m),.int .i64 0] 407 (0,0))/\Rg h h' m (ch H (W.take i)++eO w (H.take j))) n1 0 ⟨?_,?_,?_⟩ ⟨0,⟨rfl⟩,by omega,by omega,hle,Cz,rg0⟩ ?_
   ·cbv
   ·cbv
   ·cbv
   ·intro k2 z2 h3 hI;cbv;obtain⟨j,gL,ni,hj,PV,Qq,SA⟩:=hI;refine aL (fun hc=>?_) (fun hc=>?_)
    ·have gM:=gL.lt hc;clear hc;cbv;obtain⟨o,ho⟩:=aE (xs:=H) (i:=j) (by omega);refine⟨⟨q1.bF (by omega),gL.ix gM⟩,?_⟩;cbv;refine(q1.mono (PV.t _)).load ho gL.eq (fun cs aF=>?_);have aF:cs=[.int .i64 o.s,.string o.table,.bool o.x]:=aF;subst aF;cbv;refine(uP (a:=w) (b:=o)).mono (fun v h4 hR=>?_);obtain⟨l4,t,rfl,et⟩:=hR;have Ax:=l4 _ _ Qq;have MP:=SA.kp (l4.kp []) (by simp) (by simp);have O2:=PV.trans l4;cases t with
     |true=>
      have YP:=BF ho et.symm;have hEb:(ch H (W.take i)++eO w (H.take j)).length<=2^38:=by have:=uz w (H.take j);have h5:=hE i;rw[List.length_take]at this;rw[List.length_append];omega
      cbv;rw[aj A];refine ay Ax rfl rfl ?_;cbv;rw[aj A];refine ay Ax rfl rfl ?_;cbv;refine⟨?_,?_⟩
      ·refine MP.tk O2 hm w.s (fun bb nn cc tk=>?_);obtain⟨hb,t1,t2,t3,t4⟩:=tk.out;have Bl:nn<=2^38:=by have:=t3.sl.len;have:=yC (ch H (W.take i)++eO w (H.take j)) w.s;omega
       cbv;refine ay Ax rfl rfl ?_;cbv;refine⟨⟨_,rfl,rfl⟩,?_⟩;cbv;intro tJ h5 ng e5;have l5:Le h4 h5:=by rw[e5];exact Le.set ng
       have g5:=(congrFun e5 tJ).trans ah;have EZ:=l5 _ _ Ax;cbv;refine ay EZ rfl rfl ?_;cbv;refine⟨⟨_,rfl,rfl⟩,?_⟩;cbv;refine(t3.mono (l5.t _)).append (bX (s:=ef) g5 (x:=o.s) rfl) (by decide) rfl (by decide) (by omega) (t2.trans l5) (fun mm b' c' h6 K6 l6 t6 k6 hb6=>?_);have Qp:=t6 [407] (by decide) _ _ _ _ (by decide) EZ;cbv;refine ay Qp rfl rfl ?_;cbv;refine⟨⟨_,rfl,rfl⟩,?_⟩;cbv;refine t4 h6 _ o.s l6 hb6 _ (fun h7 Sz k7 t7=>?_);have l7:Le h h7:=(t1.trans l6).cO (by simpa using hm) k7;have UN:=t7 [407] _ _ _ _ (by decide) Qp;rw[List.append_assoc,<-YP]at Sz;cbv;refine⟨n1-(j+1),_,by omega,⟨?_,?_,?_⟩,j+1,gL.succ (A:=A) (by omega),rfl,by omega,l7,UN,Sz⟩
       ·cbv
       ·cbv
       ·cbv
      ·intro tJ h5 ng e5;have l5:Le h4 h5:=by rw[e5];exact Le.set ng
       have g5:=(congrFun e5 tJ).trans ah;have EZ:=l5 _ _ Ax;have X5:=MP.kp (l5.kp []) (by simp) (by simp);cbv;refine ay EZ rfl rfl ?_;cbv;refine⟨⟨_,rfl,rfl⟩,?_⟩;cbv;refine ay EZ rfl rfl ?_;cbv;refine⟨⟨_,rfl,rfl⟩,?_⟩;cbv;refine X5.tk (O2.trans l5) hm w.s (fun bb nn cc tk=>?_);obtain⟨hb,t1,t2,t3,t4⟩:=tk.out;have Bl:nn<=2^38:=by have:=t3.sl.len;have:=yC (ch H (W.take i)++eO w (H.take j)) w.s;omega
       cbv;refine ay EZ rfl rfl ?_;cbv;refine⟨⟨_,rfl,rfl⟩,?_⟩;cbv;refine(t3).append (bX (s:=ef) g5 (x:=o.s) rfl) (by decide) rfl (by decide) (by omega) t2 (fun mm b' c' h6 K6 l6 t6 k6 hb6=>?_);have Qp:=t6 [407] (by decide) _ _ _ _ (by decide) EZ;cbv;refine ay Qp rfl rfl ?_;cbv;refine⟨⟨_,rfl,rfl⟩,?_⟩;cbv;refine t4 h6 _ o.s l6 hb6 _ (fun h7 Sz k7 t7=>?_);have l7:Le h h7:=(t1.trans l6).cO (by simpa using hm) k7;have UN:=t7 [407] _ _ _ _ (by decide) Qp;rw[List.append_assoc,<-YP]at Sz;cbv;refine⟨n1-(j+1),_,by omega,⟨?_,?_,?_⟩,j+1,gL.succ (A:=A) (by omega),rfl,by omega,l7,UN,Sz⟩
       ·cbv
       ·cbv
       ·cbv
     |false=>
      have YP:=zV ho et.symm;cbv;refine⟨n1-(j+1),_,by omega,⟨?_,?_,?_⟩,j+1,gL.succ (A:=A) (by omega),rfl,by omega,O2,Ax,?_⟩
      ·cbv
      ·cbv
      ·cbv
      ·rw[YP];exact MP
    ·have iu:=gL.ge hc;rw[show H.take j=H from List.take_of_length_le (by omega),<-hEi]at SA;cbv;refine⟨n2-(i+1),_,by omega,⟨?_,?_,?_⟩,i+1,hz.succ (A:=A) (by omega),rfl,by omega,PV,Qq,SA⟩
     ·cbv
     ·cbv
     ·cbv
  ·have iu:=hz.ge hc;rw[List.take_of_length_le (by omega)]at rg;cbv;exact⟨hle,rb,m,rfl,l1.none Cn,hm,Cz,rg⟩
def fc(st:List Int×List Int)(k:Int):List Int×List Int:=if decide (k∈st.1)=true then st else(st.1++[k],st.2++[k])
def Se(E:List (Int×Int)):Nat->List Int×List Int->List Int
 |0,st=>st.1
 |n+1,st=>match st.2 with
  | []=>st.1
  |a::r=>Se E n ((cD E a).foldl fc (st.1,r))
def over(E:List (Int×Int))(s:Int):List Int:=Se E (E.length+2) ([],[s])
def vQ(E:List (Int×Int))(seen:List Int):Nat:=(E.filter fun p=> !decide (p.2∈seen)).length
theorem yM(seen:List Int)(y:Int):∀L:List (Int×Int),vQ L (seen++[y])<=vQ L seen
 | []=>Nat.le_refl _
 |e::r=>by
  have ih:=yM seen y r;unfold vQ at ih |-;by_cases h1:e.2∈seen
  ·have h2:e.2∈seen++[y]:=by simp[h1]
   rw[List.filter_cons_of_neg (by rw[decide_eq_true h2];simp),List.filter_cons_of_neg (by rw[decide_eq_true h1];simp)];exact ih
  ·rw[List.filter_cons_of_pos (p:=fun p:Int×Int=> !decide (p.2∈seen)) (by rw[decide_eq_false h1];simp)];by_cases h2:e.2∈seen++[y]
   ·rw[List.filter_cons_of_neg (by rw[decide_eq_true h2];simp),List.length_cons];omega
   ·rw[List.filter_cons_of_pos (by rw[decide_eq_false h2];simp),List.length_cons,List.length_cons];omega
theorem Gd(seen:List Int)(x y:Int)(hk:y∉seen):∀L:List (Int×Int),(x,y)∈L->vQ L (seen++[y])+1<=vQ L seen
 | [],h=>by cases h
 |e::r,h=>by
  by_cases he:e=(x,y)
  ·subst he;have hmon:=yM seen y r;unfold vQ at hmon |-;rw[List.filter_cons_of_neg (by simp),List.filter_cons_of_pos (p:=fun p:Int×Int=> !decide (p.2∈seen)) (by simpa using hk),List.length_cons];omega
  ·have hr:(x,y)∈r:=by
    rcases List.mem_cons.1 h with h|h
    ·exact absurd h.symm he
    ·exact h
   have ih:=Gd seen x y hk r hr;unfold vQ at ih |-;by_cases h1:e.2∈seen
   ·have h2:e.2∈seen++[y]:=by simp[h1]
    rw[List.filter_cons_of_neg (by rw[decide_eq_true h2];simp),List.filter_cons_of_neg (by rw[decide_eq_true h1];simp)];exact ih
   ·rw[List.filter_cons_of_pos (p:=fun p:Int×Int=> !decide (p.2∈seen)) (by rw[decide_eq_false h1];simp)];by_cases h2:e.2∈seen++[y]
    ·rw[List.filter_cons_of_neg (by rw[decide_eq_true h2];simp),List.length_cons];omega
    ·rw[List.filter_cons_of_pos (by rw[decide_eq_false h2];simp),List.length_cons,List.length_cons];omega
theorem Kb{E:List (Int×Int)}{seen:List Int}{k:Int}(hk:k∉seen){a:Int}(hE:k∈cD E a):vQ E (seen++[k])+1<=vQ E seen:=by unfold cD at hE;obtain⟨⟨x,y⟩,hm,rfl⟩:=List.mem_map.1 hE;exact Gd seen x y hk E (List.mem_filter.1 hm).1
theorem QP:jg Tryz.prog 344 Tryz.f344:=⟨Tryz.func344,by kernel_rfl,by kernel_rfl,by kernel_rfl⟩
theorem Rk{h:ad}{b o:Nat}{x:Int}(q:lG h ⟨b,o,none⟩ (.int .i64 x)):Ct 327 [.pointer (some ⟨b,o,none⟩),.int .i64 1] h (fun v h'=>∃z y,v=.int .i64 z/\Up h b o (.int .i64 y) h'):=by obtain⟨A,hA⟩:=Ar.ex;refine af A (ar VE.aw VE.aZ) Tryz.func327 rfl (by kernel_rfl) ?_;cbv;rw[aj A];refine CI QP (by kernel_rfl) q (fun c e h1 e1 e2=>?_);have hu:Up h b o (.int .i64 _) h1:=⟨c,e,e1,e2⟩;generalize IntKind.i64.wrap (x+1)=y at *;cbv;exact⟨_,y,rfl,hu⟩
theorem Rg.S1{h0 h h':ad}{m rb:Nat}{E:List (Int×Int)}{cs:List Value}(q:Rg h0 h m E)(gr:h rb=some (.cells (List.toArray cs) 407 (0,0)))(kp:Kp [rb] h h')(a:Int){k:Value->ad->Prop}(hk:∀b n c,Sl 3 ef h (.slice b n c) (cD E a)->k (.slice b n c) h'):
 cX (fun _=>Tryz.prog) (fun _=>Instr.lookup 402 (.map (some m)) (.int .i64 a) false) h' k:=by
 obtain⟨G,g1,g2,g3,g4⟩:=q.out;have hm:m∉[rb]:=by intro e;simp at e;obtain⟨es,clock,g,-⟩:=g1.out;rw[e,gr]at g;cases g
 have E1:=g1.kp kp hm;by_cases ha:∃g∈G,g.a=a
 ·obtain⟨g,hg,rfl⟩:=ha;exact sw Db u3 E1 (key:=.int .i64 g.a) rfl (List.mem_map.2 ⟨g,hg,rfl⟩) (hk _ _ _ ((g3 g hg).2.sl rfl))
 ·refine pr Db u3 E7 E1 (key:=.int .i64 a) rfl (fun p hp e=>?_) (hk _ _ _ ?_)
  ·obtain⟨g,hg,rfl⟩:=List.mem_map.1 hp;simp at e;exact ha ⟨g,hg,e⟩
  ·have:cD E a=[]:=Classical.byContradiction fun bU=>ha (g4 a bU);rw[this];exact Sl.nil
abbrev qO(l:List Int):List (Value×Value):=l.map fun k=>(.int .i64 k,.bool true)
theorem yH{l:List Int}{k:Int}:(Value.int .i64 k,Value.bool true)∈qO l↔k∈l:=by simp[qO]
theorem xC{h:ad}{m:Nat}{l:List Int}(q:Mp h m (.int .i64) (qO l))(a:Int){k:Value->ad->Prop}(hk:∀t,t=decide (a∈l)->k (.bool t) h):
 cX (fun _=>Tryz.prog) (fun _=>Instr.lookup 391 (.map (some m)) (.int .i64 a) false) h k:=by
 by_cases ha:a∈l
 ·exact sw JO u3 q (key:=.int .i64 a) rfl (yH.2 ha) (hk true (by simp[ha]))
 ·refine pr JO u3 MH q (key:=.int .i64 a) rfl (fun p hp e=>?_) (hk false (by simp[ha]));obtain⟨k,hk,rfl⟩:=List.mem_map.1 hp;simp at e;exact ha (e ▸ hk)
theorem OF{h:ad}{m:Nat}{l:List Int}(q:Mp h m (.int .i64) (qO l)){a:Int}(ha:a∉l){k:Value->ad->Prop}(hK:∀h',Mp h' m (.int .i64) (qO (l++[a]))->Kp [m] h h'->(∀tys,cG tys h h')->k undef h'):
 cX (fun _=>Tryz.prog) (fun _=>do Instr.mapUpdate 391 (.map (some m)) (.int .i64 a) (.bool true);pure undef) h k:=by
 refine lL JO u3 q (key:=.int .i64 a) rfl (fun p hp e=>?_) (fun h' mp k' t'=>hK h' ?_ k' t')
 ·obtain⟨k,hk,rfl⟩:=List.mem_map.1 hp;simp at e;exact ha (e ▸ hk)
 ·simpa[qO]using mp
theorem x8{h:ad}{rb m:Nat}{c:List Value}{d:TypeDesc}{l:List (Value×Value)}{e:Nat}(g:h rb=some (.cells (List.toArray c) e (0,0)))(q:Mp h m d l):m≠rb:=fun he=>by
 obtain⟨es,clock,g',-⟩:=q.out;rw[he,g]at g';cases g'
theorem Mp.obj{h h':ad}{m:Nat}{d:TypeDesc}{l:List (Value×Value)}{e:Nat}(q:Mp h m d l)(k:∀j o,h j=some o->(∀c fr,o≠.cells c e fr)->h' j=some o):Mp h' m d l:=by obtain⟨es,clock,g,g2⟩:=q.out;exact⟨es,clock,k _ _ g (fun c fr e=>by cases e),g2⟩
theorem B6{h0 h:ad}{rb mr:Nat}{x:Int}{E:List (Int×Int)}(gr:h rb=some (.cells #[.map (some mr),.int .i64 x] 407 (0,0)))(rg:Rg h0 h mr E)(hE:E.length<=2^37)(s:Int):
 Ct 310 [.pointer (some ⟨rb,0,none⟩),.int .i64 s] h (fun v h'=>Kp [rb] h h'/\∃m x',v=.map (some m)/\h m=none/\h' rb=some (.cells #[.map (some mr),.int .i64 x'] 407 (0,0))/\Mp h' m (.int .i64) (qO (over E s))):=by
 obtain⟨A,hA⟩:=Ar.ex;have Cn:cQ h rb rb=none:=dP h rb;refine af A (ar VS.aw VS.aZ) Tryz.func310 rfl (by kernel_rfl) ?_;cbv;intro m h1 hm e1;have l1:Le h h1:=by rw[e1];exact Le.set hm
 have g1:=(congrFun e1 m).trans ah;have mp1:Mp h1 m (.int .i64) (qO []):=Mp.new g1;cbv;intro nb h2 eJ e2;have l2:Le h1 h2:=by rw[e2];exact Le.set eJ
 have g2:=(congrFun e2 nb).trans ah;have lT:=l1.trans l2;have UO:=lT _ _ gr;have A2:=mp1.kp (l2.kp []) (by simp);have uX:Le (cQ h rb) h2:=(fh h rb).trans lT;have hnb0:cQ h rb nb=none:=((fh h rb).trans l1).none eJ;have jt:mI 3 ef (cQ h rb) h2 (.slice (some ⟨nb,0,none⟩) 1 1) [s] 1:=
  ((Kg (s:=ef) g2 (x:=s) rfl).buf hnb0 rfl).t (by simp)
 have TL:vQ E []=E.length:=by simp[vQ]
 cbv;refine aX.go (G:=Option Addr×Nat×Nat) (fun g=>[(6,.v (.slice g.1 g.2.1 g.2.2))]) (fun _=>[])
  (fun k g h'=>∃seen todo n p x',Kp [rb] h h'/\h' rb=some (.cells #[.map (some mr),.int .i64 x'] 407 (0,0))/\Mp h' m (.int .i64) (qO seen)/\mI 3 ef (cQ h rb) h' (.slice g.1 g.2.1 g.2.2) todo p/\
   k=vQ E seen+todo.length/\k<=n/\Se E n (seen,todo)=over E s/\p+vQ E seen<=E.length+1/\todo.length<=p) (E.length+1) (some ⟨nb,0,none⟩,1,1) ⟨?_,?_,?_⟩ ⟨[],[s],E.length+2,1,x,xQ uX,UO,A2,jt,by rw[TL];rfl,by omega,rfl,by rw[TL];omega,by simp⟩ ?_
 ·cbv
 ·cbv
 ·cbv
 ·intro k g h' hI;cbv;obtain⟨seen,todo,n,p,x',kp,Cz,mp,hb,hk,PY,Ux,hp,htp⟩:=hI;obtain⟨gb,gl,gc⟩:=g;have hb:mI 3 ef (cQ h rb) h' (.slice gb gl gc) todo p:=hb;have xP:gl=todo.length:=hb.sl.len;generalize QW:A .aD .gtr (A .nat gl) 0=u;have fgt:=QW;rw[bB A,hA.nat]at QW;simp only[Int.ofNat_eq_natCast]at QW;have hu:u=true->0<gl:=fun e=>by rw[e]at QW;have:=of_decide_eq_true QW;omega
  have KW:u=false->gl=0:=fun e=>by rw[e]at QW;have:=of_decide_eq_false QW;omega
  cases u with
  |false=>
   have h0:=KW rfl;have ht:todo=[]:=List.eq_nil_of_length_eq_zero (by omega);subst ht;have Jf:over E s=seen:=by rw[<-Ux];cases n<;>rfl
   cbv;exact⟨kp,m,x',rfl,hm,Cz,by rw[Jf];exact mp⟩
  |true=>
   have h0:=hu rfl;cases todo with
   |nil=>simp at xP;omega
   |cons a r=>
    cbv;rw[aj A];refine(Rk (ik Cz rfl)).mono (fun v h3 hR=>?_);obtain⟨z,y,rfl,hup⟩:=hR;have e3:=hup.exp Cz;have Qq:h3 rb=some (.cells #[.map (some mr),.int .i64 y] 407 (0,0)):=(congrFun e3 rb).trans ah;have hcr:=x8 Cz mp;have k3:Kp [rb] h' h3:=by rw[e3];exact Kp.set (by simp)
    have t3:cG [3] h' h3:=by rw[e3];exact cG.set Cz (by decide)
    have Ys:=kp.trans k3;have OW:=mp.kp k3 (by simpa using hcr);have nk:=hb.mono t3;have cT:gb.isSome=true/\(0:Int)<=0/\(0:Int)<(gl:Int):=⟨nk.sl.bF (by omega),by omega,by omega⟩;cbv;rw[aj A];refine ay Qq rfl rfl ?_;cbv;refine⟨cT,?_⟩;cbv;refine nk.sl.load (i:=0) (x:=a) rfl (n:=0) rfl (fun cs aF=>?_);have aF:cs=[.int .i64 a]:=aF;subst aF;cbv;refine rg.S1 gr Ys a (fun bb nn cc qs=>?_);have Bl:nn=(cD E a).length:=qs.len;have hnb40:=qs.bound;obtain⟨n',D4⟩:∃n',n=n'+1:=⟨n-1,by simp at hk;omega⟩;subst D4;have ND:Se E n' ((cD E a).foldl fc (seen,r))=over E s:=Ux;simp only[List.length_cons]at hk htp;cbv;refine aX.go (G:=Int×Option Addr×Nat×Nat) (fun g=>[(30,.v (.int .i64 g.1)),(6,.v (.slice g.2.1 g.2.2.1 g.2.2.2))]) (fun _=>[])
     (fun k2 g h4=>∃j p,aO g.1 j/\k2=nn-j/\j<=nn/\Kp [rb] h h4/\h4 rb=some (.cells #[.map (some mr),.int .i64 y] 407 (0,0))/\Mp h4 m (.int .i64) (qO (((cD E a).take j).foldl fc (seen,r)).1)/\
      mI 3 ef (cQ h rb) h4 (.slice g.2.1 g.2.2.1 g.2.2.2) (a::(((cD E a).take j).foldl fc (seen,r)).2) p/\
      vQ E (((cD E a).take j).foldl fc (seen,r)).1+(((cD E a).take j).foldl fc (seen,r)).2.length<=vQ E seen+r.length/\
      p+vQ E (((cD E a).take j).foldl fc (seen,r)).1<=E.length+1/\(((cD E a).take j).foldl fc (seen,r)).2.length+1<=p) nn (0,gb,gl,gc) ⟨?_,?_,?_⟩
      ⟨0,p,⟨rfl⟩,by omega,by omega,Ys,Qq,OW,nk,Nat.le_refl _,hp,htp⟩ ?_
    ·cbv
    ·cbv
    ·cbv
    ·intro k2 g h4 hI;cbv;obtain⟨j,p4,hz,ni,hj,O7,Ax,DH,Lm,hM,TP,htp4⟩:=hI;obtain⟨z4,US,UP,gc4⟩:=g;have hz:aO z4 j:=hz;generalize est:((cD E a).take j).foldl fc (seen,r)=st at *;have Lm:mI 3 ef (cQ h rb) h4 (.slice US UP gc4) (a::st.2) p4:=Lm;have hgl4:UP=st.2.length+1:=Lm.sl.len;refine aL (fun hc=>?_) (fun hc=>?_)
     ·have aG:=hz.lt hc;clear hc;obtain⟨w,hw⟩:=aE (xs:=cD E a) (i:=j) (by omega);have mw:w∈cD E a:=List.mem_of_getElem? hw;have zC:((cD E a).take (j+1)).foldl fc (seen,r)=fc st w:=by rw[List.take_add_one,hw,List.foldl_append,est];rfl
      cbv;refine⟨⟨qs.bF (by omega),hz.ix aG⟩,?_⟩;cbv;refine(qs.mono (Kp.S6 O7 gr (by decide))).load hw hz.eq (fun cs aF=>?_);have aF:cs=[.int .i64 w]:=aF;subst aF;cbv;refine xC DH w (fun t ht=>?_);cases t with
      |true=>
       have fQ:A .not true=false:=by rw[hA.not];rfl
       have se:fc st w=st:=by unfold fc;rw[<-ht];rfl
       cbv;rw[fQ];cbv;refine⟨nn-(j+1),(_,US,UP,gc4),by omega,⟨?_,?_,?_⟩,j+1,p4,hz.succ (A:=A) (by omega),rfl,by omega,O7,Ax,?_⟩
       ·cbv
       ·cbv
       ·cbv
       ·rw[zC,se];exact⟨DH,Lm,hM,TP,htp4⟩
      |false=>
       have fQ:A .not false=true:=by rw[hA.not];rfl
       have Nn:w∉st.1:=of_decide_eq_false ht.symm;have se:fc st w=(st.1++[w],st.2++[w]):=by unfold fc;rw[<-ht];rfl
       have TM:=Kb Nn mw;cbv;rw[fQ];cbv;refine OF DH Nn (fun h5 Rz k5 t5=>?_);have hmr:=x8 Ax DH;have EZ:=t5 [407] _ _ _ _ (by decide) Ax;have O6:Kp [rb] h h5:=fun b o qH Bs=>by
        have:=O7 b o qH Bs;refine k5 b o this ?_;intro e;simp at e;rw[e,hm]at qH;cases qH
       have uh:=Lm.mono (t5 _);cbv;intro OS h6 Bn e6;have l6:Le h5 h6:=by rw[e6];exact Le.set Bn
       have g6:=(congrFun e6 OS).trans ah;have Qp:=l6 _ _ EZ;have Yj:=Rz.kp (l6.kp []) (by simp);have RF:=O6.trans (l6.kp _);have PX:Le (cQ h rb) h6:=fun b o qH=>by
        unfold cQ at qH;split at qH
        ·cases qH
        ·rename_i bU;exact RF b o qH (by simpa using bU)
       cbv;refine(uh.mono (l6.t _)).append (bX (s:=ef) g6 (x:=w) rfl) (by decide) rfl (by decide) (by omega) (by omega) (by omega) PX (fun mm b' c' h7 K6 l7 t7 Cw k7=>?_);have UN:=t7 [407] (by decide) _ _ _ _ (by decide) Qp;have OV:=Mp.obj Yj k7;have Yr:Kp [rb] h h7:=xQ l7;cbv;refine⟨nn-(j+1),(_,b',mm,c'),by omega,⟨?_,?_,?_⟩,j+1,p4+1,hz.succ (A:=A) (by omega),rfl,by omega,Yr,UN,?_⟩
       ·cbv
       ·cbv
       ·cbv
       ·rw[zC,se];refine⟨OV,by simpa using Cw,?_,?_,?_⟩
        ·simp only[List.length_append,List.length_singleton];omega
        ·simp only;omega
        ·simp only[List.length_append,List.length_singleton];omega
     ·have iu:=hz.ge hc;have hjn:j=nn:=by omega
      rw[show(cD E a).take j=cD E a from List.take_of_length_le (by omega)]at est;have EY:aO (1:Int) 1:=⟨rfl⟩;have vm:(0:Int)<=1/\(1:Int)<=(UP:Int):=by omega
      have Tz:=Lm.tail (A:=A) EY (dZ (A:=A) (n:=UP) EY) (dZ (A:=A) (n:=gc4) EY);rw[est]at ND;cbv;refine⟨vm,?_⟩;cbv;refine⟨vQ E st.1+st.2.length,(_,_,_),by omega,⟨?_,?_,?_⟩,st.1,st.2,n',p4,y,O7,Ax,DH,Tz,rfl,by omega,ND,TP,by omega⟩
      ·cbv;exact⟨rfl,True.intro⟩
      ·cbv
      ·cbv
structure Rl(E:List (Int×Int))(s v:Int)(t:Bool):Prop where
 out:(t=false/\v=0/\s∉over E s)\/(t=true/\s∈over E s/\s<=v/\(v=s\/(v∈over E s/\s∈over E v))/\∀k∈over E s,s∈over E k->k<=v)
theorem Rl.det{E:List (Int×Int)}{s v v':Int}{t t':Bool}(a:Rl E s v t)(b:Rl E s v' t'):v=v'/\t=t':=by
 rcases a.out with ⟨a1,a2,a3⟩ | ⟨a1,a2,a3,a4,a5⟩
 ·rcases b.out with ⟨b1,b2,b3⟩ | ⟨b1,b2,b3,b4,b5⟩
  ·exact⟨by rw[a2,b2],by rw[a1,b1]⟩
  ·exact absurd b2 a3
 ·rcases b.out with ⟨b1,b2,b3⟩ | ⟨b1,b2,b3,b4,b5⟩
  ·exact absurd a2 b3
  ·refine⟨?_,by rw[a1,b1]⟩;have h1:v<=v':=by
    rcases a4 with rfl| ⟨h1,h2⟩
    ·exact b3
    ·exact b5 v h1 h2
   have h2:v'<=v:=by
    rcases b4 with rfl| ⟨h1,h2⟩
    ·exact a3
    ·exact a5 v' h1 h2
   omega
def mO(E:List (Int×Int))(s:Int)(l:List Int)(m:Int):Int:=l.foldl (fun m k=>if decide (k>m)&&decide (s∈over E k)then k else m) m
def cZ(E:List (Int×Int))(s:Int):Int×Bool:=if decide (s∈over E s)=true then(mO E s (over E s) s,true)else(0,false)
theorem mN(E:List (Int×Int))(s:Int):∀(l:List Int) (m:Int),m<=mO E s l m/\(mO E s l m=m\/(mO E s l m∈l/\s∈over E (mO E s l m)))/\∀k∈l,s∈over E k->k<=mO E s l m
 | [],m=>⟨Int.le_refl _,.inl rfl,fun k hk=>by cases hk⟩
 |x::r,m=>by
  have e:mO E s (x::r) m=mO E s r (if decide (x>m)&&decide (s∈over E x)then x else m):=rfl;rw[e];by_cases hc:(decide (x>m)&&decide (s∈over E x))=true
  ·rw[if_pos hc];simp at hc;obtain⟨h1,h2,h3⟩:=mN E s r x;refine⟨by omega,?_,fun k hk hs=>?_⟩
   ·rcases h2 with h2| ⟨h2,h2'⟩
    ·right;rw[h2];exact⟨by simp,hc.2⟩
    ·right;exact⟨by simp[h2],h2'⟩
   ·rcases List.mem_cons.1 hk with rfl|hk
    ·exact h1
    ·exact h3 k hk hs
  ·rw[if_neg hc];simp at hc;obtain⟨h1,h2,h3⟩:=mN E s r m;refine⟨h1,?_,fun k hk hs=>?_⟩
   ·rcases h2 with h2| ⟨h2,h2'⟩
    ·exact .inl h2
    ·right;exact⟨by simp[h2],h2'⟩
   ·rcases List.mem_cons.1 hk with rfl|hk
    ·rcases Int.lt_or_le m k with aG|hle
     ·exact absurd hs (hc aG)
     ·omega
    ·exact h3 k hk hs
theorem lI(E:List (Int×Int))(s:Int):Rl E s (cZ E s).1 (cZ E s).2:=by
 constructor;unfold cZ;by_cases h:s∈over E s
 ·rw[if_pos (by simpa using h)];obtain⟨h1,h2,h3⟩:=mN E s (over E s) s;exact .inr ⟨rfl,h,h1,h2,h3⟩
 ·rw[if_neg (by simpa using h)];exact .inl ⟨rfl,rfl,h⟩
theorem Rl.eq{E:List (Int×Int)}{s v:Int}{t:Bool}(a:Rl E s v t):v=(cZ E s).1/\t=(cZ E s).2:=a.det (lI E s)
theorem Rg.gen{h0 h h':ad}{m:Nat}{E:List (Int×Int)}(q:Rg h0 h m E){bs:List Nat}(k:Kp bs h h')(hm:m∉bs)(t:cG [3] h h'):Rg h0 h' m E:=by obtain⟨G,g1,g2,g3,g4⟩:=q.out;exact⟨G,g1.kp k hm,g2,fun g hg=>⟨(g3 g hg).1,(g3 g hg).2.mono t⟩,g4⟩
theorem Rg.map{h0 h:ad}{m:Nat}{E:List (Int×Int)}(q:Rg h0 h m E):∃l,Mp h m (.int .i64) l:=by obtain⟨G,g1,-⟩:=q.out;exact⟨_,g1⟩
theorem C7{H W:List bK}{h:ad}{b1 b2:Option Addr}{n1 c1 n2 c2:Nat}(q1:Sl 205 bA h (.slice b1 n1 c1) H)(q2:Sl 205 bA h (.slice b2 n2 c2) W)(nh:n1<=2^18)(mK:n2<=2^18)(s:Int):
 Ct 282 [.agg #[.slice b1 n1 c1,.slice b2 n2 c2],.int .i64 s] h (fun v h'=>Le h h'/\∃z t,v=.tuple #[.int .i64 z,.bool t]/\Rl (ch H W) s z t):=by
 obtain⟨A,hA⟩:=Ar.ex;have hE:(ch H W).length<=2^37:=by have:=wC H W;have:=vO (show W.length<=2^18 by rw[<-q2.len];exact mK) (show H.length<=2^18 by rw[<-q1.len];exact nh);omega
 generalize hEe:ch H W=E at *;refine af A (ar Wb.aw Wb.aZ) Tryz.func282 rfl (by kernel_rfl) ?_;cbv;refine(FV q1 q2 nh mK).mono (fun v h1 hR=>?_);obtain⟨l1,rb,mr,rfl,Cn,hmr,gr,rg⟩:=hR;rw[hEe]at rg;cbv;refine(B6 gr rg hE s).mono (fun v h2 hR=>?_);obtain⟨k2,m,x2,rfl,hm,UO,A2⟩:=hR;have l2:Le h h2:=l1.cO (by simpa using Cn) k2;have rg2:Rg h h2 mr E:=by obtain⟨l,ml⟩:=rg.map;exact rg.gen k2 (by simpa using x8 gr ml) (Kp.S6 k2 gr (by decide))
 cbv;refine xC A2 s (fun t ht=>?_);cases t with
 |false=>
  have fQ:A .not false=true:=by rw[hA.not];rfl
  have hs:s∉over E s:=of_decide_eq_false ht.symm;cbv;rw[fQ];cbv;exact⟨l2,0,false,rfl,⟨.inl ⟨rfl,rfl,hs⟩⟩⟩
 |true=>
  have fQ:A .not true=false:=by rw[hA.not];rfl
  have hs:s∈over E s:=of_decide_eq_true ht.symm;cbv;rw[fQ];cbv;refine Dk JO A2 (fun it h3 hit l3 it3=>?_);have Qq:=l3 _ _ UO;have OW:=A2.kp (l3.kp []) (by simp);have SA:=rg2.gen (l3.kp []) (by simp) (l3.t _);have DP:=l2.trans l3;cbv;refine aX.go (G:=Int) (fun z=>[(8,.v (.int .i64 z))]) (fun _=>[(2,[.slice b1 n1 c1,.slice b2 n2 c2])])
   (fun k z h'=>∃left last x',Le h h'/\It h' it m left last/\k=left.length/\h' rb=some (.cells #[.map (some mr),.int .i64 x'] 407 (0,0))/\Rg h h' mr E/\
    s<=z/\(z=s\/(z∈over E s/\s∈over E z))/\(∀p∈left,p∈qO (over E s))/\∀k∈over E s,s∈over E k->k<=z\/(Value.int .i64 k,Value.bool true)∈left) _ s ⟨?_,?_,?_⟩
    ⟨_,_,x2,DP,it3,rfl,Qq,SA,Int.le_refl _,.inl rfl,fun p hp=>hp,fun k hk _=>.inr (yH.2 hk)⟩ ?_
  ·cbv
  ·cbv
  ·cbv
  ·intro k z h' hI;cbv;obtain⟨left,last,x',hle,Ld,hk,Cz,rg',mC,gL,Hg,hz4⟩:=hI;have hir:it≠rb:=fun e=>by
    obtain⟨_,_,_,_,_,_,g,_⟩:=Ld.out;rw[e,Cz]at g;cases g
   have ES:m≠rb:=fun e=>by
    obtain⟨_,_,_,_,_,g,_⟩:=Ld.out;rw[e,Cz]at g;cases g
   have himr:mr≠it:=fun e=>by
    obtain⟨_,_,_,_,_,_,g,_⟩:=Ld.out;obtain⟨l,ml⟩:=rg'.map;obtain⟨_,_,g',_⟩:=ml.out;rw[e,g]at g';cases g'
   refine FN Ld (fun hl=>?_) (fun key val ku h4 fR No cW aG P2 k4 t4=>?_)
   ·cbv;refine⟨hle,z,true,rfl,⟨.inr ⟨rfl,hs,mC,gL,fun k hk RO=>?_⟩⟩⟩;rcases hz4 k hk RO with h1|h1
    ·exact h1
    ·rw[hl]at h1;cases h1
   ·have Ax:=t4 [407] _ _ _ _ (by decide) Cz;have jE:=Hg _ fR;obtain⟨w,hw,he⟩:=List.mem_map.1 jE;cases he;have l4:Le h h4:=hle.cO (by simpa using l2.none hit) k4;have MP:=rg'.gen k4 (by simpa using himr) (t4 _);have stay:∀(h5:ad) (x5:Int),Le h h5->It h5 it m ku (some (.int .i64 w,.bool true))->h5 rb=some (.cells #[.map (some mr),.int .i64 x5] 407 (0,0))->Rg h h5 mr E->((s∈over E w)->w<=z)->
     ∃left last x',Le h h5/\It h5 it m left last/\ku.length=left.length/\h5 rb=some (.cells #[.map (some mr),.int .i64 x'] 407 (0,0))/\Rg h h5 mr E/\
      s<=z/\(z=s\/(z∈over E s/\s∈over E z))/\(∀p∈left,p∈qO (over E s))/\∀k∈over E s,s∈over E k->k<=z\/(Value.int .i64 k,Value.bool true)∈left:=
     fun h5 x5 a1 a2 a3 a4 a5=>⟨ku,_,x5,a1,a2,rfl,a3,a4,mC,gL,fun p hp=>Hg p (cW p hp),fun k hk RO=>by
      rcases hz4 k hk RO with h1|h1
      ·exact .inl h1
      ·rcases No _ h1 with h2|h2
       ·have:k=w:=by cases h2;rfl
        subst this;exact .inl (a5 RO)
       ·exact .inr h2⟩
    have more:∀(h5:ad) (x5:Int),Le h h5->It h5 it m ku (some (.int .i64 w,.bool true))->h5 rb=some (.cells #[.map (some mr),.int .i64 x5] 407 (0,0))->Rg h h5 mr E->s∈over E w->z<w->
     ∃left last x',Le h h5/\It h5 it m left last/\ku.length=left.length/\h5 rb=some (.cells #[.map (some mr),.int .i64 x'] 407 (0,0))/\Rg h h5 mr E/\
      s<=w/\(w=s\/(w∈over E s/\s∈over E w))/\(∀p∈left,p∈qO (over E s))/\∀k∈over E s,s∈over E k->k<=w\/(Value.int .i64 k,Value.bool true)∈left:=
     fun h5 x5 a1 a2 a3 a4 a5 a6=>⟨ku,_,x5,a1,a2,rfl,a3,a4,by omega,.inr ⟨hw,a5⟩,fun p hp=>Hg p (cW p hp),fun k hk RO=>by
      rcases hz4 k hk RO with h1|h1
      ·left;omega
      ·rcases No _ h1 with h2|h2
       ·have:k=w:=by cases h2;rfl
        subst this;exact .inl (Int.le_refl _)
       ·exact .inr h2⟩
    generalize eg:A .aD .gtr w z=u;have fg:=eg;rw[bB A]at eg;cbv;refine Dp P2 ?_;cbv;rw[fg];cases u with
    |false=>
     have cB:=stay h4 x' l4 P2 Ax MP (fun _=>by have:=of_decide_eq_false eg;omega);cbv;refine⟨ku.length,_,by omega,⟨?_,?_,?_⟩,cB⟩
     ·cbv
     ·cbv
     ·cbv
    |true=>
     have KR:z<w:=of_decide_eq_true eg;cbv;refine(B6 Ax MP hE w).mono (fun v h5 hR=>?_);obtain⟨k5,m5,x5,rfl,hm5,EZ,Rz⟩:=hR;have l5:Le h h5:=l4.cO (by simpa using Cn) k5;have X5:Rg h h5 mr E:=by obtain⟨l,ml⟩:=MP.map;exact MP.gen k5 (by simpa using x8 Ax ml) (Kp.S6 k5 Ax (by decide))
     have it5:=P2.kp k5 (by simpa using hir) (by simpa using ES);cbv;refine xC Rz s (fun t ht=>?_);cases t with
     |true=>
      have cB:=more h5 x5 l5 it5 EZ X5 (of_decide_eq_true ht.symm) KR;cbv;refine⟨ku.length,_,by omega,⟨?_,?_,?_⟩,cB⟩
      ·cbv
      ·cbv
      ·cbv
     |false=>
      have hns:s∉over E w:=of_decide_eq_false ht.symm;have cB:=stay h5 x5 l5 it5 EZ X5 (fun hsw=>absurd hsw hns);cbv;refine⟨ku.length,_,by omega,⟨?_,?_,?_⟩,cB⟩
      ·cbv
      ·cbv
      ·cbv
theorem iG.vY{h h':ad}{c tb wb ct cw:Nat}{T:List cA}{W:List (dr×Bool)}{H' Wt':List bK}{e:Int}{n1 n2:Nat}{b3 b4 b5 b6:Option Addr}{n3 c3 n4 c4 n5 c5 n6 c6:Nat}{o:Int}
 (g0:h c=some (.cells #[.slice (some ⟨tb,0,none⟩) n1 ct,.slice (some ⟨wb,0,none⟩) n2 cw,.slice b3 n3 c3,.slice b4 n4 c4,.int .u32 o,.int .i32 0,.int .u32 0,.int .i64 e] 128 (0,0)))
 (ho:(o=0/\e=0)\/(o=1/\e≠0)) (g1:n1=T.length) (g2:dn 51 cJ h tb ct T) (g3:n2=W.length) (g4:dn 55 bO h wb cw W) (q5:Sl 205 bA h (.slice b5 n5 c5) H') (q6:Sl 205 bA h (.slice b6 n6 c6) Wt')
 (hh:h'=aV h c (.cells #[.slice (some ⟨tb,0,none⟩) n1 ct,.slice (some ⟨wb,0,none⟩) n2 cw,.slice b5 n5 c5,.slice b6 n6 c6,.int .u32 o,.int .i32 0,.int .u32 0,.int .i64 e] 128 (0,0))):
 Kp [c] h h'/\iG h' c tb wb ct cw T W H' Wt' e:=by
 have lt:∀tys,128∉tys->cG tys h h':=fun tys hn=>by rw[hh];exact cG.set g0 hn
 refine⟨by rw[hh];exact Kp.set (by simp),n1,n2,b5,n5,c5,b6,n6,c6,o,by rw[hh];exact ah,ho,g1,g2.mono (lt _ (by decide)),g3,g4.mono (lt _ (by decide)),q5.mono (lt _ (by decide)),q6.mono (lt _ (by decide))⟩
theorem iG.elim{h:ad}{c tb wb ct cw:Nat}{T:List cA}{W:List (dr×Bool)}{H Wt:List bK}{e:Int}(q:iG h c tb wb ct cw T W H Wt e){p:Prop}
 (k:∀(n1 n2:Nat) (b3:Option Addr) (n3 c3:Nat) (b4:Option Addr) (n4 c4:Nat) (o:Int),h c=some (.cells #[.slice (some ⟨tb,0,none⟩) n1 ct,.slice (some ⟨wb,0,none⟩) n2 cw,.slice b3 n3 c3,.slice b4 n4 c4,.int .u32 o,.int .i32 0,.int .u32 0,.int .i64 e] 128 (0,0))->
  ((o=0/\e=0)\/(o=1/\e≠0))->n1=T.length->dn 51 cJ h tb ct T->n2=W.length->dn 55 bO h wb cw W->Sl 205 bA h (.slice b3 n3 c3) H->Sl 205 bA h (.slice b4 n4 c4) Wt->
  gA h (.agg #[.slice (some ⟨tb,0,none⟩) n1 ct,.slice (some ⟨wb,0,none⟩) n2 cw,.slice b3 n3 c3,.slice b4 n4 c4]) ⟨T,W.map (·.1),H,Wt⟩->p):p:=by
 obtain⟨n1,n2,b3,n3,c3,b4,n4,c4,o,g0,g1,g2,g3,g4,g5,g6,g7⟩:=q.out;exact k n1 n2 b3 n3 c3 b4 n4 c4 o g0 g1 g2 g3 g4 g5 g6 g7 ⟨_,_,_,_,_,_,_,_,_,_,_,_,W,rfl,g3.sl g2,g5.sl g4,g6,g7,rfl⟩
theorem fB{d:DB}{h:ad}{v:Value}(q:gA h v d){k:Value->ad->Prop}
 (hk:∀h' b1 n1 c1 b2 n2 c2 b3 n3 c3 b4 n4 c4,Le h h'->gA h' (.agg #[.slice b1 n1 c1,.slice b2 n2 c2,.slice b3 n3 c3,.slice b4 n4 c4]) d->k (.agg #[.slice b1 n1 c1,.slice b2 n2 c2,.slice b3 n3 c3,.slice b4 n4 c4]) h'):Ct 50 [v] h k:=
 (kQ q).mono (fun v h' hR=>by
  obtain⟨l,hd⟩:=hR;obtain⟨b1,n1,c1,b2,n2,c2,b3,n3,c3,b4,n4,c4,hv⟩:=hd.form;rw[hv]at hd |-;exact hk h' _ _ _ _ _ _ _ _ _ _ _ _ l hd)
theorem qB{d:DB}{h:ad}{v:Value}(q:gA h v d){k:Value->ad->Prop}
 (hk:∀h' c tb wb ct cw W,Le h h'->h c=none->h tb=none->h wb=none->c≠tb->c≠wb->W=(d.aq.map fun w=>(w,true))->ct=d.aB.length->cw=W.length->iG h' c tb wb ct cw d.aB W d.holds d.waits 0->k (.pointer (some ⟨c,0,none⟩)) h'):Ct 48 [v] h k:=
 (yc q).mono (fun v h' hR=>by
  obtain⟨l1,c,tb,wb,ct,cw,W,hv,hc,qG,tQ,rI,pQ,hW,NO,H5,cs⟩:=hR;rw[hv];exact hk h' c tb wb ct cw W l1 hc qG tQ rI pQ hW NO H5 cs)
theorem FA{h:ad}{cs:List Value}{t:cA}(q:cJ.R h cs t){p:List Value->Prop}(k:∀(b1:Option Addr) (n1 c1:Nat) (b2:Option Addr) (n2 c2:Nat),Sl 165 bp h (.slice b1 n1 c1) t.S.cols->Sl 59 aN h (.slice b2 n2 c2) t.rows->p [.string t.S.name,.slice b1 n1 c1,.int .i64 t.S.key,.bool t.S.only,.slice b2 n2 c2]):p cs:=by obtain⟨b1,n1,c1,b2,n2,c2,rfl,q1,q2⟩:=q;exact k b1 n1 c1 b2 n2 c2 q1 q2
theorem xE{A:Ar}[aP A]{h:ad}{b:Option Addr}{len cap:Nat}{xs:List cA}(q:Sl 51 cJ h (.slice b len cap) xs){i:Nat}{t:cA}(hx:xs[i]? =some t){n:Int}(hn:n=(i:Int)){k:List Value->Prop}
 (hk:∀(b1:Option Addr) (n1 c1:Nat) (b2:Option Addr) (n2 c2:Nat),Sl 165 bp h (.slice b1 n1 c1) t.S.cols->Sl 59 aN h (.slice b2 n2 c2) t.rows->k [.string t.S.name,.slice b1 n1 c1,.int .i64 t.S.key,.bool t.S.only,.slice b2 n2 c2]):sI h (A.jj b n cJ.n) cJ.n k:=
 q.load hx hn (fun cs aF=>FA aF hk)
theorem xF{A:Ar}[aP A]{h:ad}{b:Option Addr}{len cap:Nat}{xs:List (dr×Bool)}(q:Sl 55 bO h (.slice b len cap) xs){i:Nat}{w:dr×Bool}(hx:xs[i]? =some w){n:Int}(hn:n=(i:Int)){k:List Value->Prop}
 (hk:∀(b1:Option Addr) (n1 c1:Nat),Sl 148 fE h (.slice b1 n1 c1) w.1.log->(w.2=true->c1=n1)->(∀h' k',Le h h'->k' [.slice b1 n1 c1]->sI h' (A .off (A .jj b n 3) 1) 1 k')->k [.slice b1 n1 c1]):sI h (A .off (A .jj b n 3) 1) 1 k:=
 q.xD (s:=bO) hx hn (o:=1) (m:=1) (by decide) (fun cs aF ag=>by
  obtain⟨b1,n1,c1,b2,n2,c2,rfl,q1,q2,q3⟩:=aF;exact hk b1 n1 c1 q1 q3 ag)
theorem za{A:Ar}[aP A]{h:ad}{b:Option Addr}{len cap:Nat}{xs:List (dr×Bool)}(q:Sl 55 bO h (.slice b len cap) xs){i:Nat}{w:dr×Bool}(hx:xs[i]? =some w){n:Int}(hn:n=(i:Int)){k:List Value->Prop}
 (hk:∀(b1:Option Addr) (n1 c1:Nat),Sl 161 fv h (.slice b1 n1 c1) w.1.marks->(∀h' k',Le h h'->k' [.slice b1 n1 c1]->sI h' (A .off (A .jj b n 3) 2) 1 k')->k [.slice b1 n1 c1]):sI h (A .off (A .jj b n 3) 2) 1 k:=
 q.xD (s:=bO) hx hn (o:=2) (m:=1) (by decide) (fun cs aF ag=>by
  obtain⟨b1,n1,c1,b2,n2,c2,rfl,q1,q2,q3⟩:=aF;exact hk b2 n2 c2 q2 ag)
theorem K0{h:ad}{c tb wb ct cw:Nat}{T:List cA}{W:List (dr×Bool)}{H Wt:List bK}{e:Int}(q:iG h c tb wb ct cw T W H Wt e){p4 p5 p6 p7:Nat}{hd:bK}
 (g4:h p4=some (.cells #[.pointer (some ⟨c,0,none⟩)] 109 (0,0))) (g5:h p5=some (.cells #[.int .i64 hd.s] 3 (0,0))) (g6:h p6=some (.cells #[.string hd.table] 9 (0,0))) (g7:h p7=some (.cells #[.bool hd.x] 4 (0,0)))
 (hH:H.length<=2^18) (UE:Wt.length<=2^18):
 Ct 280 [.pointer (some ⟨p4,0,none⟩),.pointer (some ⟨p5,0,none⟩),.pointer (some ⟨p6,0,none⟩),.pointer (some ⟨p7,0,none⟩)] h
  (fun v h'=>Kp [c] h h'/\∃t,v=.bool t/\t=bq H hd/\iG h' c tb wb ct cw T W (bR H hd) (cN H Wt hd) e):=by
 obtain⟨A,hA⟩:=Ar.ex;obtain⟨n1,n2,b3,n3,c3,b4,n4,c4,o,f0,f1,f2,f3,f4,f5,f6,f7⟩:=q.out;obtain⟨hs,ht,hx⟩:=hd;refine af A (ar We.aw We.aZ) Tryz.func280 rfl (by kernel_rfl) ?_;cbv;refine ay g4 rfl rfl ?_;cbv;refine ay g4 rfl rfl ?_;cbv;rw[aj A];rw[aj A];refine ay f0 rfl rfl ?_;cbv;refine ay g5 rfl rfl ?_;cbv;refine ay g6 rfl rfl ?_;cbv;refine ay g7 rfl rfl ?_;cbv;refine(Rh f6 f7 (by have:=f6.len;omega) (by have:=f7.len;omega) ⟨hs,ht,hx⟩).mono (fun v h1 hR=>?_);obtain⟨l1,b5,n5,c5,b6,n6,c6,t,rfl,r5,r6,et⟩:=hR;cbv;refine ay (l1 _ _ g4) rfl rfl ?_;cbv;refine⟨⟨_,rfl,rfl⟩,?_⟩;cbv;rw[aj A];rw[aj A];refine kP (l1 _ _ f0) (by simp) (fun h2 e2=>?_);have ae:=iG.vY (l1 _ _ f0) f1 f2 (f3.mono (l1.t _)) f4 (f5.mono (l1.t _)) r5 r6 e2;cbv;exact⟨(l1.kp _).trans ae.1,t,rfl,et,ae.2⟩
def dg(W:List (dr×Bool))(s:Int):List Int:=W.map fun x=>IntKind.i64.wrap (x.1.s-s)
def aM(T:List cA)(name:ByteArray):List Int:=T.map fun x=>eG x.S.name name
def Bh(T:List cA)(W:List (dr×Bool))(s:Int)(name:ByteArray):Bool:=kE (dg W s)&&kE (aM T name)
def holdH(T:List cA)(W:List (dr×Bool))(H:List bK)(hd:bK):List bK:=if Bh T W hd.s hd.table=true then bR H hd else H
def holdW(T:List cA)(W:List (dr×Bool))(H Wt:List bK)(hd:bK):List bK:=if Bh T W hd.s hd.table=true then cN H Wt hd else Wt
def holdE(T:List cA)(W:List (dr×Bool))(H:List bK)(hd:bK):Int:=if Bh T W hd.s hd.table=true then if bq H hd=true then 0 else 16 else 2
theorem Ai{H:List bK}{hd:bK}:(bR H hd).length<=H.length+1:=by
 unfold bR;split
 ·split
  ·omega
  ·split
   ·rw[List.length_set];omega
   ·simp
 ·omega
theorem lf(l:List bK)(s:Int):(bH l s).length<=l.length:=List.length_filter_le _ _
def jS:ByteArray:=⟨#[]⟩
def cU(r:Row)(t:cA):cA×lD×Int:=((bI t r).1,⟨jS,1,r⟩,(bI t r).2)
def Ib(k:cR)(t:cA):cA×lD×Int:=if t.S.only=true then(t,⟨jS,0,[]⟩,19)else((cu t k).1,⟨jS,2,(cu t k).2.1⟩,(cu t k).2.2)
theorem SG{nm:ByteArray}{cols:List bS}{key:Int}{only:Bool}{rows:List Row}{r:Row}{h:ad}{sb b4 b:Option Addr}{sn sc n4 c4 n c rb:Nat}(qs:Sl 165 bp h (.slice sb sn sc) cols)(q4:Sl 59 aN h (.slice b4 n4 c4) rows)
 (gr:h rb=some (.cells #[.slice b n c] 59 (0,0))) (q:Sl 61 aY h (.slice b n c) r) (hn:n4<=2^37):
 Ct 164 [.agg #[.string nm,.slice sb sn sc,.int .i64 key,.bool only,.slice b4 n4 c4],.pointer (some ⟨rb,0,none⟩)] h (fun v h'=>Le h h'/\∃b1 n1 k1 b2 n2 k2 b3 n3 k3 e T C,v=.tuple #[.agg #[.string nm,.slice b1 n1 k1,.int .i64 key,.bool only,.slice b2 n2 k2],.agg #[.string jS,.int .i64 C.op,.slice b3 n3 k3],.int .i64 e]/\
  Sl 165 bp h' (.slice b1 n1 k1) cols/\Sl 59 aN h' (.slice b2 n2 k2) T/\Sl 61 aY h' (.slice b3 n3 k3) C.row/\(⟨⟨⟨nm,cols,key,only⟩,T⟩,C,e⟩:cA×lD×Int)=cU r ⟨⟨nm,cols,key,only⟩,rows⟩):=by
 obtain⟨A,hA⟩:=Ar.ex;refine af A (ar Xn.aw Xn.aZ) Tryz.func164 rfl (by kernel_rfl) ?_;cbv;refine ay gr rfl rfl ?_;cbv;refine(MU (nm:=nm) (key:=key) (only:=only) qs q4 q hn).mono (fun v h1 hR=>?_);obtain⟨l1,b1,n1,k1,b2,n2,k2,e,T,rfl,r1,r2,r3⟩:=hR;cbv;refine ay (l1 _ _ gr) rfl rfl ?_;cbv;refine(Gi (q.mono (l1.t _))).mono (fun v h2 hR=>?_);obtain⟨l2,b3,k3,rfl,r4⟩:=hR;cbv;exact⟨l1.trans l2,_,_,_,_,_,_,_,_,_,e,T,⟨jS,1,r⟩,rfl,r1.mono (l2.t _),r2.mono (l2.t _),r4,by unfold cU;rw[<-r3]⟩
theorem OE{nm:ByteArray}{cols:List bS}{key:Int}{only:Bool}{rows:List Row}{r:Row}{h:ad}{sb b4 b:Option Addr}{sn sc n4 c4 n c rb:Nat}(qs:Sl 165 bp h (.slice sb sn sc) cols)(q4:Sl 59 aN h (.slice b4 n4 c4) rows)
 (gr:h rb=some (.cells #[.slice b n c] 59 (0,0))) (q:Sl 61 aY h (.slice b n c) r) (hn:n4<=2^37) {k:Value->ad->Prop}
 (hk:∀h' b1 n1 k1 b2 n2 k2 b3 n3 k3 e T C,Le h h'->Sl 165 bp h' (.slice b1 n1 k1) cols->Sl 59 aN h' (.slice b2 n2 k2) T->Sl 61 aY h' (.slice b3 n3 k3) C.row->(⟨⟨⟨nm,cols,key,only⟩,T⟩,C,e⟩:cA×lD×Int)=cU r ⟨⟨nm,cols,key,only⟩,rows⟩->
  k (.tuple #[.agg #[.string nm,.slice b1 n1 k1,.int .i64 key,.bool only,.slice b2 n2 k2],.agg #[.string jS,.int .i64 C.op,.slice b3 n3 k3],.int .i64 e]) h'):
 Ct 164 [.agg #[.string nm,.slice sb sn sc,.int .i64 key,.bool only,.slice b4 n4 c4],.pointer (some ⟨rb,0,none⟩)] h k:=
 (SG (nm:=nm) (key:=key) (only:=only) qs q4 gr q hn).mono (fun v h' hR=>by
  obtain⟨l,b1,n1,k1,b2,n2,k2,b3,n3,k3,e,T,C,hv,r1,r2,r3,r4⟩:=hR;rw[hv];exact hk h' b1 n1 k1 b2 n2 k2 b3 n3 k3 e T C l r1 r2 r3 r4)
end Go.S
