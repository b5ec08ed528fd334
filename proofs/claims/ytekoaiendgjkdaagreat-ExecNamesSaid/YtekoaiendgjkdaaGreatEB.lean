import Derived.Test.YtekoaiendgjkdaaGreatEA
import Derived.Test.YtekoaiendgjkdaaGreatRd
set_option linter.unusedVariables false
set_option linter.unusedSimpArgs false
set_option linter.unusedSectionVars false
set_option maxRecDepth 100000
namespace Go.S
open Go.Sx Go.Proofs
def eT(w:bP)(H:List bP):List (Int×Int):=(H.filter (fV w)).map fun h=>(w.s,h.s)
def ch(H W:List bP):List (Int×Int):=W.flatMap fun w=>eT w H
def cE(E:List (Int×Int))(a:Int):List Int:=(E.filter fun p=>decide (p.1=a)).map (·.2)
theorem oE{E:List (Int×Int)}{a b:Int}:cE (E++[(a,b)]) a=cE E a++[b]:=by simp[cE]
theorem iO{E:List (Int×Int)}{a b c:Int}(h:c≠a):cE (E++[(a,b)]) c=cE E c:=by simp[cE,Ne.symm h]
theorem zL(E:List (Int×Int))(a:Int):(cE E a).length<=E.length:=by unfold cE;rw[List.length_map];exact List.length_filter_le _ _
structure UD where
 a:Int
 nb:Nat
 cap:Nat
structure Rg(h0 h:ad)(m:Nat)(E:List (Int×Int)):Prop where
 out:∃G:List UD,Mp h m (.int .i64) (G.map fun g=>(.int .i64 g.a,.slice (some ⟨g.nb,0,none⟩) (cE E g.a).length g.cap))/\(G.map (·.nb)).Nodup/\(∀g∈G,h0 g.nb=none/\dq 3 dD h g.nb g.cap (cE E g.a))/\∀a,cE E a≠[]->∃g∈G,g.a=a
theorem Eo:Tryz.prog.underlying 402=some (.map 3 240):=by kernel_rfl
theorem LB:Tryz.prog.underlying 391=some (.map 3 4):=by kernel_rfl
theorem u3:Tryz.prog.underlying 3=some (.int .i64):=by kernel_rfl
theorem GM(w:World):(zeroValue 240).run Tryz.prog w=.ok (.slice none 0 0) w:=by
 have h:((Tryz.prog.info? 240).bind (·.zero))=some (.slice none 0 0):=by kernel_rfl
 cases h1:Tryz.prog.info? 240 with
 |none=>rw[h1]at h;cases h
 |some i=>rw[h1]at h;simp at h;simp[zeroValue,typeInfo,h1,h]
theorem Rg.kp{h0 h h':ad}{m:Nat}{E:List (Int×Int)}(q:Rg h0 h m E){bs:List Nat}(k:Kp bs h h')(hm:m∉bs)(hb:∀b∈bs,h0 b≠none):Rg h0 h' m E:=by obtain⟨G,g1,g2,g3,g4⟩:=q.out;exact⟨G,g1.kp k hm,g2,fun g hg=>⟨(g3 g hg).1,(g3 g hg).2.kp k (fun hx=>hb _ hx (g3 g hg).1) (fun _ _ _ _ hx=>by cases hx)⟩,g4⟩
def cI(h:ad)(n:Nat):ad:=fun b=>if b=n then none else h b
theorem dN(h:ad)(n:Nat):Le (cI h n) h:=fun b o q=>by
 unfold cI at q;split at q
 ·cases q
 ·exact q
theorem cO(h:ad)(n:Nat):cI h n n=none:=by unfold cI;rw[if_pos rfl]
theorem yU{h h':ad}{n:Nat}(l:Le (cI h n) h'):Kp [n] h h':=fun b o q hb=>l b o (by unfold cI;rw[if_neg (by simpa using hb)];exact q)
theorem xK{h:ad}{n b:Nat}(q:cI h n b=none):b=n\/h b=none:=by
 unfold cI at q;split at q
 ·rename_i e;exact .inl e
 ·exact .inr q
structure Tk(h0 h:ad)(m:Nat)(E:List (Int×Int))(a:Int)(v:Value):Prop where
 out:∃hb,Le h0 hb/\Le hb h/\cK 3 dD hb h v (cE E a)/\
  ∀h' v' x,Le hb h'->cK 3 dD hb h' v' (cE E a++[x])->∀k:Value->ad->Prop,(∀fX,Rg h0 fX m (E++[(a,x)])->Kp [m] h' fX->(∀tys,bE tys h' fX)->k undef fX)->
   de (fun _=>Tryz.prog) (fun _=>do Instr.mapUpdate 402 (.map (some m)) (.int .i64 a) v';pure undef) h' k
theorem Af{h:ad}{m nb cap e:Nat}{d:TypeDesc}{l:List (Value×Value)}{α:Type}{s:Sh α}{xs:List α}(q:Mp h m d l)(o:dq e s h nb cap xs):nb≠m:=fun he=>by
 obtain⟨es,clock,g,-⟩:=q.out;obtain⟨c,g',-⟩:=o.out;rw[he,g]at g';cases g'
theorem Rg.tk{h0 h:ad}{m:Nat}{E:List (Int×Int)}(q:Rg h0 h m E)(l0:Le h0 h)(RI:h0 m=none)(a:Int){k:Value->ad->Prop}(hk:∀b n c,Tk h0 h m E a (.slice b n c)->k (.slice b n c) h):
 de (fun _=>Tryz.prog) (fun _=>Instr.lookup 402 (.map (some m)) (.int .i64 a) false) h k:=by
 obtain⟨G,g1,g2,g3,g4⟩:=q.out;have Fi:=g1.Iz;by_cases ha:∃g∈G,g.a=a
 ·obtain⟨g,hg,rfl⟩:=ha;obtain⟨i,hi⟩:=List.getElem?_of_mem hg;obtain⟨jV,iE⟩:=List.getElem?_eq_some_iff.1 hi;refine tV Eo u3 g1 (key:=.int .i64 g.a) rfl (List.mem_map.2 ⟨g,hg,rfl⟩) (hk _ _ _ ⟨cI h g.nb,?_,dN h g.nb,?_,?_⟩)
  ·intro b o hb;have bG:b≠g.nb:=fun e=>by rw[e,(g3 g hg).1]at hb;cases hb
   unfold cI;rw[if_neg bG];exact l0 b o hb
  ·exact(g3 g hg).2.buf (cO h g.nb) rfl
  ·intro h' v' x l' b' k' Gu;have bG:g.nb≠m:=Af g1 (g3 g hg).2;have kp:=yU l';have lI:Mp h' m (.int .i64) _:=g1.kp kp (by simpa using Ne.symm bG);rcases b'.out with ⟨b0,e1,e2⟩ | ⟨nb,cap,e1,e2,o⟩
   ·have:=congrArg List.length e2;simp at this
   subst e1;have fI:(G.map fun g=>(Value.int .i64 g.a,Value.slice (some ⟨g.nb,0,none⟩) (cE E g.a).length g.cap))[i]? =some (.int .i64 g.a,.slice (some ⟨g.nb,0,none⟩) (cE E g.a).length g.cap):=by rw[List.getElem?_map,hi];rfl
   have RC:∀j (g':UD),G[j]? =some g'->j≠i->g'.a≠g.a/\g'.nb≠g.nb:=fun j g' hj jE=>by
    obtain⟨rO,RO⟩:=List.getElem?_eq_some_iff.1 hj;constructor
    ·intro he;have p:=List.pairwise_iff_getElem.1 Fi;rcases Nat.lt_or_gt_of_ne jE with aI|aI
     ·have:=p j i (by simpa using rO) (by simpa using jV) aI;simp[RO,iE,he]at this
     ·have:=p i j (by simpa using jV) (by simpa using rO) aI;simp[RO,iE,he]at this
    ·intro he;have p:=List.pairwise_iff_getElem.1 g2;rcases Nat.lt_or_gt_of_ne jE with aI|aI
     ·have:=p j i (by simpa using rO) (by simpa using jV) aI;simp[RO,iE,he]at this
     ·have:=p i j (by simpa using jV) (by simpa using rO) aI;simp[RO,iE,he]at this
   refine LU Eo u3 lI (key:=.int .i64 g.a) rfl fI (fun fX B2 k2 t2=>Gu fX ⟨G.set i ⟨g.a,nb,cap⟩,?_,?_,?_,?_⟩ k2 t2)
   ·have:(G.set i ⟨g.a,nb,cap⟩).map (fun(g':UD)=>(Value.int .i64 g'.a,Value.slice (some ⟨g'.nb,0,none⟩) (cE (E++[(g.a,x)]) g'.a).length g'.cap))=
     (G.map fun g=>(Value.int .i64 g.a,Value.slice (some ⟨g.nb,0,none⟩) (cE E g.a).length g.cap)).set i (.int .i64 g.a,.slice (some ⟨nb,0,none⟩) (cE E g.a++[x]).length cap):=by
     apply List.ext_getElem?;intro j;rw[List.getElem?_map,List.getElem?_set,List.getElem?_set,List.length_map,List.getElem?_map];by_cases jE:i=j
     ·subst jE;rw[if_pos rfl,if_pos rfl,if_pos jV];simp[oE,jV]
     ·rw[if_neg jE,if_neg jE];cases hj:G[j]? with
      |none=>rfl
      |some g'=>simp[iO (RC j g' hj (Ne.symm jE)).1]
    rw[this];exact B2
   ·rw[List.map_set];refine List.pairwise_iff_getElem.2 (fun p r hp hr MN=>?_);have vm:∀j (g':UD),G[j]? =some g'->j≠i->g'.nb≠nb:=fun j g' hj jE e=>by
     rcases xK e2 with e3|e3
     ·exact(RC j g' hj jE).2 (e.trans e3)
     ·exact(g3 g' (List.mem_of_getElem? hj)).2.has (by rw[e];exact e3)
    simp only[List.length_set,List.length_map]at hp hr;rw[List.getElem_set,List.getElem_set];by_cases h1:i=p
    ·subst h1;rw[if_pos rfl,if_neg (by omega),List.getElem_map];exact Ne.symm (vm r G[r] (by simp[hr]) (by omega))
    ·rw[if_neg h1];by_cases h2:i=r
     ·subst h2;rw[if_pos rfl,List.getElem_map];exact vm p G[p] (by simp[hp]) (by omega)
     ·rw[if_neg h2];exact List.pairwise_iff_getElem.1 g2 p r (by simpa using hp) (by simpa using hr) MN
   ·intro g' Fl;obtain⟨j,hj⟩:=List.getElem?_of_mem Fl;rw[List.getElem?_set]at hj;by_cases jE:i=j
    ·subst jE;rw[if_pos rfl,if_pos jV]at hj;cases hj;refine⟨?_,?_⟩
     ·rcases xK e2 with e3|e3
      ·rw[e3];exact(g3 g hg).1
      ·exact l0.none e3
     ·rw[oE];exact o.kp k2 (by simpa using Af lI o) (t2 _)
    ·rw[if_neg jE]at hj;obtain⟨f1,f2⟩:=RC j g' hj (Ne.symm jE);obtain⟨f3,f4⟩:=g3 g' (List.mem_of_getElem? hj);have o':=f4.kp kp (by simpa using f2) (fun _ _ _ _ hx=>by cases hx);refine⟨f3,?_⟩;rw[iO f1];exact o'.kp k2 (by simpa using Af lI o') (t2 _)
   ·intro c hc;by_cases Uk:c=g.a
    ·exact⟨⟨g.a,nb,cap⟩,List.mem_of_getElem? (i:=i) (by rw[List.getElem?_set,if_pos rfl,if_pos jV]),Uk.symm⟩
    ·rw[iO Uk]at hc;obtain⟨g',Fl,he⟩:=g4 c hc;obtain⟨j,hj⟩:=List.getElem?_of_mem Fl;have jE:i≠j:=fun e=>by subst e;rw[hi]at hj;cases hj;exact Uk he.symm
     exact⟨g',List.mem_of_getElem? (i:=j) (by rw[List.getElem?_set,if_neg jE];exact hj),he⟩
 ·have Wz:cE E a=[]:=Classical.byContradiction fun bG=>ha (g4 a bG);have I6:∀p∈(G.map fun g=>(Value.int .i64 g.a,Value.slice (some ⟨g.nb,0,none⟩) (cE E g.a).length g.cap)),p.1≠.int .i64 a:=fun p hp e=>by
   obtain⟨g,hg,rfl⟩:=List.mem_map.1 hp;simp at e;exact ha ⟨g,hg,e⟩
  refine qq Eo u3 GM g1 (key:=.int .i64 a) rfl I6 (hk _ _ _ ⟨h,l0,Le.refl _,by rw[Wz];exact cK.nil,?_⟩);intro h' v' x l' b' k' Gu;have lI:=g1.kp (l'.kp []) (by simp);rcases b'.out with ⟨b0,e1,e2⟩ | ⟨nb,cap,e1,e2,o⟩
  ·have:=congrArg List.length e2;simp at this
  subst e1;refine mu Eo u3 lI (key:=.int .i64 a) rfl I6 (fun fX B2 k2 t2=>Gu fX ⟨G++[⟨a,nb,cap⟩],?_,?_,?_,?_⟩ k2 t2)
  ·have:(G++[(⟨a,nb,cap⟩:UD)]).map (fun(g':UD)=>(Value.int .i64 g'.a,Value.slice (some ⟨g'.nb,0,none⟩) (cE (E++[(a,x)]) g'.a).length g'.cap))=
    (G.map fun g=>(Value.int .i64 g.a,Value.slice (some ⟨g.nb,0,none⟩) (cE E g.a).length g.cap))++[(.int .i64 a,.slice (some ⟨nb,0,none⟩) (cE E a++[x]).length cap)]:=by
    rw[List.map_append];congr 1
    ·refine List.map_congr_left (fun g hg=>?_);rw[iO (fun e=>ha ⟨g,hg,e⟩)]
    ·simp[oE]
   rw[this];exact B2
  ·rw[List.map_append];refine List.nodup_append.2 ⟨g2,by simp,?_⟩;intro p hp r hr e;simp at hr;obtain⟨g,hg,rfl⟩:=List.mem_map.1 hp;exact(g3 g hg).2.has (by rw[e,hr];exact e2)
  ·intro g' Fl;rcases List.mem_append.1 Fl with Fl|Fl
   ·obtain⟨f3,f4⟩:=g3 g' Fl;have o':=f4.mono (l'.t _);refine⟨f3,?_⟩;rw[iO (fun e=>ha ⟨g',Fl,e⟩)];exact o'.kp k2 (by simpa using Af lI o') (t2 _)
   ·simp at Fl;subst Fl;refine⟨l0.none e2,?_⟩;rw[oE];exact o.kp k2 (by simpa using Af lI o) (t2 _)
  ·intro c hc;by_cases Uk:c=a
   ·exact⟨⟨a,nb,cap⟩,by simp,Uk.symm⟩
   ·rw[iO Uk]at hc;obtain⟨g',Fl,he⟩:=g4 c hc;exact⟨g',by simp[Fl],he⟩
theorem CP{H W:List bP}{i:Nat}{w:bP}(h:W[i]? =some w):ch H (W.take (i+1))=ch H (W.take i)++eT w H:=by unfold ch;rw[List.take_add_one,h];simp
theorem CQ{w o:bP}{H:List bP}{j:Nat}(h:H[j]? =some o)(ha:fV w o=true):eT w (H.take (j+1))=eT w (H.take j)++[(w.s,o.s)]:=by unfold eT;rw[List.take_add_one,h,List.filter_append];simp[ha]
theorem AV{w o:bP}{H:List bP}{j:Nat}(h:H[j]? =some o)(ha:fV w o=false):eT w (H.take (j+1))=eT w (H.take j):=by unfold eT;rw[List.take_add_one,h,List.filter_append];simp[ha]
theorem vH(w:bP)(H:List bP):(eT w H).length<=H.length:=by unfold eT;rw[List.length_map];exact List.length_filter_le _ _
theorem xQ(H W:List bP):(ch H W).length<=W.length*H.length:=by
 induction W with
 |nil=>simp[ch]
 |cons w r ih=>
  have:ch H (w::r)=eT w H++ch H r:=by simp[ch]
  rw[this,List.length_append,List.length_cons,Nat.succ_mul];have:=vH w H;omega
theorem xq{a b:Nat}(ha:a<=2^18)(hb:b<=2^18):a*b<=2^36:=by
 have:=Nat.mul_le_mul ha hb;have e:(2:Nat)^18*2^18=2^36:=by decide
 omega
theorem HE{H W:List bP}{h:ad}{b1 b2:Option Addr}{n1 c1 n2 c2:Nat}(q1:Sl 205 bD h (.slice b1 n1 c1) H)(q2:Sl 205 bD h (.slice b2 n2 c2) W)(oL:n1<=2^18)(ng:n2<=2^18):
 Ct 309 [.agg #[.slice b1 n1 c1,.slice b2 n2 c2]] h (fun v h'=>Le h h'/\∃rb m,v=.pointer (some ⟨rb,0,none⟩)/\h rb=none/\h m=none/\h' rb=some (.cells #[.map (some m),.int .i64 0] 407 (0,0))/\Rg h h' m (ch H W)):=by
 obtain⟨A,hA⟩:=Ar.ex;have DK:=q1.len;have vi:=q2.len;have hE:∀i,(ch H (W.take i)).length<=2^36:=fun i=>by
  have:=xQ H (W.take i);have h2:(W.take i).length<=2^18:=by rw[List.length_take];omega
  have:=xq h2 (show H.length<=2^18 by omega);omega
 refine ah A (aq Ya.ax Ya.bm) Tryz.func309 rfl (by kernel_rfl) ?_;cbv;intro m h1 hm e1;have l1:Le h h1:=by rw[e1];exact Le.set hm
 have g1:=(congrFun e1 m).trans ae;cbv;intro rb h2 Bq e2;have l2:Le h1 h2:=by rw[e2];exact Le.set Bq
 have gr:=(congrFun e2 rb).trans ae;have gm:=l2 _ _ g1;have iI:=l1.trans l2;have rg0:Rg h h2 m (ch H (W.take 0)):=⟨[],Mp.new gm,by simp,by simp,fun a ha=>absurd rfl ha⟩;cbv;refine aZ.go (G:=Int) (fun z=>[(14,.v (.int .i64 z))]) (fun _=>[(1,[.slice b1 n1 c1,.slice b2 n2 c2])])
  (fun k z h'=>∃i:Nat,aP z i/\k=n2-i/\i<=n2/\Le h h'/\h' rb=some (.cells #[.map (some m),.int .i64 0] 407 (0,0))/\Rg h h' m (ch H (W.take i))) n2 0 ⟨?_,?_,?_⟩ ⟨0,⟨rfl⟩,by omega,by omega,iI,gr,rg0⟩ ?_
 ·cbv
 ·cbv
 ·cbv
 ·intro k z h' hI;cbv;obtain⟨i,hz,hk,hi,hle,DQ,rg⟩:=hI;refine aN (fun hc=>?_) (fun hc=>?_)
  ·have aI:=hz.lt hc;clear hc;cbv;obtain⟨w,hw⟩:=aD (xs:=W) (i:=i) (by omega);refine⟨⟨q2.bF (by omega),hz.ix aI⟩,?_⟩;cbv;refine(q2.mono (hle.t _)).load hw hz.eq (fun cs aJ=>?_);have aJ:cs=[.int .i64 w.s,.string w.table,.bool w.x]:=aJ;subst aJ;have hEi:=CP (H:=H) hw;have hEl:=hE (i+1);rw[hEi]at hEl;have rg0:Rg h h' m (ch H (W.take i)++eT w (H.take 0)):=by simpa[eT]using rg
   cbv;refine aZ.go (G:=Int) (fun z=>[(21,.v (.int .i64 z))]) (fun _=>[(5,[.int .i64 w.s,.string w.table,.bool w.x]),(1,[.slice b1 n1 c1,.slice b2 n2 c2])])
    (fun k z h'=>∃j:Nat,aP z j/\k=n1-j/\j<=n1/\Le h h'/\h' rb=some (.cells #[.map (some m),.int .i64 0] 407 (0,0))/\Rg h h' m (ch H (W.take i)++eT w (H.take j))) n1 0 ⟨?_,?_,?_⟩ ⟨0,⟨rfl⟩,by omega,by omega,hle,DQ,rg0⟩ ?_
   ·cbv
   ·cbv
   ·cbv
   ·intro k2 z2 h3 hI;cbv;obtain⟨j,jT,pT,hj,RJ,Sr,UY⟩:=hI;refine aN (fun hc=>?_) (fun hc=>?_)
    ·have jN:=jT.lt hc;clear hc;cbv;obtain⟨o,ho⟩:=aD (xs:=H) (i:=j) (by omega);refine⟨⟨q1.bF (by omega),jT.ix jN⟩,?_⟩;cbv;refine(q1.mono (RJ.t _)).load ho jT.eq (fun cs aJ=>?_);have aJ:cs=[.int .i64 o.s,.string o.table,.bool o.x]:=aJ;subst aJ;cbv;refine(vV (a:=w) (b:=o)).mono (fun v h4 hR=>?_);obtain⟨l4,t,rfl,et⟩:=hR;have Bu:=l4 _ _ Sr;have OA:=UY.kp (l4.kp []) (by simp) (by simp);have KJ:=RJ.trans l4;cases t with
     |true=>
      have hEh:=CQ ho et.symm;have hEb:(ch H (W.take i)++eT w (H.take j)).length<=2^38:=by have:=vH w (H.take j);have h5:=hE i;rw[List.length_take]at this;rw[List.length_append];omega
      cbv;rw[ai A];refine ar Bu rfl rfl ?_;cbv;rw[ai A];refine ar Bu rfl rfl ?_;cbv;refine⟨?_,?_⟩
      ·refine OA.tk KJ hm w.s (fun bb nn cc tk=>?_);obtain⟨hb,t1,t2,t3,t4⟩:=tk.out;have wq:nn<=2^38:=by have:=t3.sl.len;have:=zL (ch H (W.take i)++eT w (H.take j)) w.s;omega
       cbv;refine ar Bu rfl rfl ?_;cbv;refine⟨⟨_,rfl,rfl⟩,?_⟩;cbv;intro sU h5 nR e5;have l5:Le h4 h5:=by rw[e5];exact Le.set nR
       have g5:=(congrFun e5 sU).trans ae;have GG:=l5 _ _ Bu;cbv;refine ar GG rfl rfl ?_;cbv;refine⟨⟨_,rfl,rfl⟩,?_⟩;cbv;refine(t3.mono (l5.t _)).append (bp (s:=dD) g5 (x:=o.s) rfl) (by decide) rfl (by decide) (by omega) (t2.trans l5) (fun mm b' c' h6 Ff l6 t6 k6 hb6=>?_);have Sq:=t6 [407] (by decide) _ _ _ _ (by decide) GG;cbv;refine ar Sq rfl rfl ?_;cbv;refine⟨⟨_,rfl,rfl⟩,?_⟩;cbv;refine t4 h6 _ o.s l6 hb6 _ (fun h7 UX k7 t7=>?_);have l7:Le h h7:=(t1.trans l6).cm (by simpa using hm) k7;have Jy:=t7 [407] _ _ _ _ (by decide) Sq;rw[List.append_assoc,<-hEh]at UX;cbv;refine⟨n1-(j+1),_,by omega,⟨?_,?_,?_⟩,j+1,jT.succ (A:=A) (by omega),rfl,by omega,l7,Jy,UX⟩
       ·cbv
       ·cbv
       ·cbv
      ·intro sU h5 nR e5;have l5:Le h4 h5:=by rw[e5];exact Le.set nR
       have g5:=(congrFun e5 sU).trans ae;have GG:=l5 _ _ Bu;have rg5:=OA.kp (l5.kp []) (by simp) (by simp);cbv;refine ar GG rfl rfl ?_;cbv;refine⟨⟨_,rfl,rfl⟩,?_⟩;cbv;refine ar GG rfl rfl ?_;cbv;refine⟨⟨_,rfl,rfl⟩,?_⟩;cbv;refine rg5.tk (KJ.trans l5) hm w.s (fun bb nn cc tk=>?_);obtain⟨hb,t1,t2,t3,t4⟩:=tk.out;have wq:nn<=2^38:=by have:=t3.sl.len;have:=zL (ch H (W.take i)++eT w (H.take j)) w.s;omega
       cbv;refine ar GG rfl rfl ?_;cbv;refine⟨⟨_,rfl,rfl⟩,?_⟩;cbv;refine(t3).append (bp (s:=dD) g5 (x:=o.s) rfl) (by decide) rfl (by decide) (by omega) t2 (fun mm b' c' h6 Ff l6 t6 k6 hb6=>?_);have Sq:=t6 [407] (by decide) _ _ _ _ (by decide) GG;cbv;refine ar Sq rfl rfl ?_;cbv;refine⟨⟨_,rfl,rfl⟩,?_⟩;cbv;refine t4 h6 _ o.s l6 hb6 _ (fun h7 UX k7 t7=>?_);have l7:Le h h7:=(t1.trans l6).cm (by simpa using hm) k7;have Jy:=t7 [407] _ _ _ _ (by decide) Sq;rw[List.append_assoc,<-hEh]at UX;cbv;refine⟨n1-(j+1),_,by omega,⟨?_,?_,?_⟩,j+1,jT.succ (A:=A) (by omega),rfl,by omega,l7,Jy,UX⟩
       ·cbv
       ·cbv
       ·cbv
     |false=>
      have hEh:=AV ho et.symm;cbv;refine⟨n1-(j+1),_,by omega,⟨?_,?_,?_⟩,j+1,jT.succ (A:=A) (by omega),rfl,by omega,KJ,Bu,?_⟩
      ·cbv
      ·cbv
      ·cbv
      ·rw[hEh];exact OA
    ·have iW:=jT.ge hc;rw[show H.take j=H from List.take_of_length_le (by omega),<-hEi]at UY;cbv;refine⟨n2-(i+1),_,by omega,⟨?_,?_,?_⟩,i+1,hz.succ (A:=A) (by omega),rfl,by omega,RJ,Sr,UY⟩
     ·cbv
     ·cbv
     ·cbv
  ·have iW:=hz.ge hc;rw[List.take_of_length_le (by omega)]at rg;cbv;exact⟨hle,rb,m,rfl,l1.none Bq,hm,DQ,rg⟩
def fG(st:List Int×List Int)(k:Int):List Int×List Int:=if decide (k∈st.1)=true then st else(st.1++[k],st.2++[k])
def Uz(E:List (Int×Int)):Nat->List Int×List Int->List Int
 |0,st=>st.1
 |n+1,st=>match st.2 with
  | []=>st.1
  |a::r=>Uz E n ((cE E a).foldl fG (st.1,r))
def over(E:List (Int×Int))(s:Int):List Int:=Uz E (E.length+2) ([],[s])
def xv(E:List (Int×Int))(seen:List Int):Nat:=(E.filter fun p=> !decide (p.2∈seen)).length
theorem zW(seen:List Int)(y:Int):∀L:List (Int×Int),xv L (seen++[y])<=xv L seen
 | []=>Nat.le_refl _
 |e::r=>by
  have ih:=zW seen y r;unfold xv at ih |-;by_cases h1:e.2∈seen
  ·have h2:e.2∈seen++[y]:=by simp[h1]
   rw[List.filter_cons_of_neg (by rw[decide_eq_true h2];simp),List.filter_cons_of_neg (by rw[decide_eq_true h1];simp)];exact ih
  ·rw[List.filter_cons_of_pos (p:=fun p:Int×Int=> !decide (p.2∈seen)) (by rw[decide_eq_false h1];simp)];by_cases h2:e.2∈seen++[y]
   ·rw[List.filter_cons_of_neg (by rw[decide_eq_true h2];simp),List.length_cons];omega
   ·rw[List.filter_cons_of_pos (by rw[decide_eq_false h2];simp),List.length_cons,List.length_cons];omega
theorem HO(seen:List Int)(x y:Int)(hk:y∉seen):∀L:List (Int×Int),(x,y)∈L->xv L (seen++[y])+1<=xv L seen
 | [],h=>by cases h
 |e::r,h=>by
  by_cases he:e=(x,y)
  ·subst he;have hmon:=zW seen y r;unfold xv at hmon |-;rw[List.filter_cons_of_neg (by simp),List.filter_cons_of_pos (p:=fun p:Int×Int=> !decide (p.2∈seen)) (by simpa using hk),List.length_cons];omega
  ·have hr:(x,y)∈r:=by
    rcases List.mem_cons.1 h with h|h
    ·exact absurd h.symm he
    ·exact h
   have ih:=HO seen x y hk r hr;unfold xv at ih |-;by_cases h1:e.2∈seen
   ·have h2:e.2∈seen++[y]:=by simp[h1]
    rw[List.filter_cons_of_neg (by rw[decide_eq_true h2];simp),List.filter_cons_of_neg (by rw[decide_eq_true h1];simp)];exact ih
   ·rw[List.filter_cons_of_pos (p:=fun p:Int×Int=> !decide (p.2∈seen)) (by rw[decide_eq_false h1];simp)];by_cases h2:e.2∈seen++[y]
    ·rw[List.filter_cons_of_neg (by rw[decide_eq_true h2];simp),List.length_cons];omega
    ·rw[List.filter_cons_of_pos (by rw[decide_eq_false h2];simp),List.length_cons,List.length_cons];omega
theorem Ma{E:List (Int×Int)}{seen:List Int}{k:Int}(hk:k∉seen){a:Int}(hE:k∈cE E a):xv E (seen++[k])+1<=xv E seen:=by unfold cE at hE;obtain⟨⟨x,y⟩,hm,rfl⟩:=List.mem_map.1 hE;exact HO seen x y hk E (List.mem_filter.1 hm).1
theorem SX:jC Tryz.prog 344 Tryz.f344:=⟨Tryz.func344,by kernel_rfl,by kernel_rfl,by kernel_rfl⟩
theorem Tu{h:ad}{b o:Nat}{x:Int}(q:mN h ⟨b,o,none⟩ (.int .i64 x)):Ct 327 [.pointer (some ⟨b,o,none⟩),.int .i64 1] h (fun v h'=>∃z y,v=.int .i64 z/\Up h b o (.int .i64 y) h'):=by obtain⟨A,hA⟩:=Ar.ex;refine ah A (aq XV.ax XV.bm) Tryz.func327 rfl (by kernel_rfl) ?_;cbv;rw[ai A];refine DX SX (by kernel_rfl) q (fun c e h1 e1 e2=>?_);have hu:Up h b o (.int .i64 _) h1:=⟨c,e,e1,e2⟩;generalize IntKind.i64.wrap (x+1)=y at *;cbv;exact⟨_,y,rfl,hu⟩
theorem Rg.VC{h0 h h':ad}{m rb:Nat}{E:List (Int×Int)}{cs:List Value}(q:Rg h0 h m E)(gr:h rb=some (.cells (List.toArray cs) 407 (0,0)))(kp:Kp [rb] h h')(a:Int){k:Value->ad->Prop}(hk:∀b n c,Sl 3 dD h (.slice b n c) (cE E a)->k (.slice b n c) h'):
 de (fun _=>Tryz.prog) (fun _=>Instr.lookup 402 (.map (some m)) (.int .i64 a) false) h' k:=by
 obtain⟨G,g1,g2,g3,g4⟩:=q.out;have hm:m∉[rb]:=by intro e;simp at e;obtain⟨es,clock,g,-⟩:=g1.out;rw[e,gr]at g;cases g
 have lI:=g1.kp kp hm;by_cases ha:∃g∈G,g.a=a
 ·obtain⟨g,hg,rfl⟩:=ha;exact tV Eo u3 lI (key:=.int .i64 g.a) rfl (List.mem_map.2 ⟨g,hg,rfl⟩) (hk _ _ _ ((g3 g hg).2.sl rfl))
 ·refine qq Eo u3 GM lI (key:=.int .i64 a) rfl (fun p hp e=>?_) (hk _ _ _ ?_)
  ·obtain⟨g,hg,rfl⟩:=List.mem_map.1 hp;simp at e;exact ha ⟨g,hg,e⟩
  ·have:cE E a=[]:=Classical.byContradiction fun bG=>ha (g4 a bG);rw[this];exact Sl.nil
abbrev rY(l:List Int):List (Value×Value):=l.map fun k=>(.int .i64 k,.bool true)
theorem zS{l:List Int}{k:Int}:(Value.int .i64 k,Value.bool true)∈rY l↔k∈l:=by simp[rY]
theorem yD{h:ad}{m:Nat}{l:List Int}(q:Mp h m (.int .i64) (rY l))(a:Int){k:Value->ad->Prop}(hk:∀t,t=decide (a∈l)->k (.bool t) h):
 de (fun _=>Tryz.prog) (fun _=>Instr.lookup 391 (.map (some m)) (.int .i64 a) false) h k:=by
 by_cases ha:a∈l
 ·exact tV LB u3 q (key:=.int .i64 a) rfl (zS.2 ha) (hk true (by simp[ha]))
 ·refine qq LB u3 Ou q (key:=.int .i64 a) rfl (fun p hp e=>?_) (hk false (by simp[ha]));obtain⟨k,hk,rfl⟩:=List.mem_map.1 hp;simp at e;exact ha (e ▸ hk)
theorem Qs{h:ad}{m:Nat}{l:List Int}(q:Mp h m (.int .i64) (rY l)){a:Int}(ha:a∉l){k:Value->ad->Prop}(hK:∀h',Mp h' m (.int .i64) (rY (l++[a]))->Kp [m] h h'->(∀tys,bE tys h h')->k undef h'):
 de (fun _=>Tryz.prog) (fun _=>do Instr.mapUpdate 391 (.map (some m)) (.int .i64 a) (.bool true);pure undef) h k:=by
 refine mu LB u3 q (key:=.int .i64 a) rfl (fun p hp e=>?_) (fun h' mp k' t'=>hK h' ?_ k' t')
 ·obtain⟨k,hk,rfl⟩:=List.mem_map.1 hp;simp at e;exact ha (e ▸ hk)
 ·simpa[rY]using mp
theorem zd{h:ad}{rb m:Nat}{c:List Value}{d:TypeDesc}{l:List (Value×Value)}{e:Nat}(g:h rb=some (.cells (List.toArray c) e (0,0)))(q:Mp h m d l):m≠rb:=fun he=>by
 obtain⟨es,clock,g',-⟩:=q.out;rw[he,g]at g';cases g'
theorem Mp.obj{h h':ad}{m:Nat}{d:TypeDesc}{l:List (Value×Value)}{e:Nat}(q:Mp h m d l)(k:∀j o,h j=some o->(∀c fr,o≠.cells c e fr)->h' j=some o):Mp h' m d l:=by obtain⟨es,clock,g,g2⟩:=q.out;exact⟨es,clock,k _ _ g (fun c fr e=>by cases e),g2⟩
theorem Dp{h0 h:ad}{rb mr:Nat}{x:Int}{E:List (Int×Int)}(gr:h rb=some (.cells #[.map (some mr),.int .i64 x] 407 (0,0)))(rg:Rg h0 h mr E)(hE:E.length<=2^37)(s:Int):
 Ct 310 [.pointer (some ⟨rb,0,none⟩),.int .i64 s] h (fun v h'=>Kp [rb] h h'/\∃m x',v=.map (some m)/\h m=none/\h' rb=some (.cells #[.map (some mr),.int .i64 x'] 407 (0,0))/\Mp h' m (.int .i64) (rY (over E s))):=by
 obtain⟨A,hA⟩:=Ar.ex;have Bq:cI h rb rb=none:=cO h rb;refine ah A (aq X9.ax X9.bm) Tryz.func310 rfl (by kernel_rfl) ?_;cbv;intro m h1 hm e1;have l1:Le h h1:=by rw[e1];exact Le.set hm
 have g1:=(congrFun e1 m).trans ae;have mp1:Mp h1 m (.int .i64) (rY []):=Mp.new g1;cbv;intro nb h2 eK e2;have l2:Le h1 h2:=by rw[e2];exact Le.set eK
 have g2:=(congrFun e2 nb).trans ae;have iI:=l1.trans l2;have Xg:=iI _ _ gr;have B2:=mp1.kp (l2.kp []) (by simp);have wu:Le (cI h rb) h2:=(dN h rb).trans iI;have hnb0:cI h rb nb=none:=((dN h rb).trans l1).none eK;have iu:m6 3 dD (cI h rb) h2 (.slice (some ⟨nb,0,none⟩) 1 1) [s] 1:=
  ((Me (s:=dD) g2 (x:=s) rfl).buf hnb0 rfl).t (by simp)
 have Wo:xv E []=E.length:=by simp[xv]
 cbv;refine aZ.go (G:=Option Addr×Nat×Nat) (fun g=>[(6,.v (.slice g.1 g.2.1 g.2.2))]) (fun _=>[])
  (fun k g h'=>∃seen todo n p x',Kp [rb] h h'/\h' rb=some (.cells #[.map (some mr),.int .i64 x'] 407 (0,0))/\Mp h' m (.int .i64) (rY seen)/\m6 3 dD (cI h rb) h' (.slice g.1 g.2.1 g.2.2) todo p/\
   k=xv E seen+todo.length/\k<=n/\Uz E n (seen,todo)=over E s/\p+xv E seen<=E.length+1/\todo.length<=p) (E.length+1) (some ⟨nb,0,none⟩,1,1) ⟨?_,?_,?_⟩ ⟨[],[s],E.length+2,1,x,yU wu,Xg,B2,iu,by rw[Wo];rfl,by omega,rfl,by rw[Wo];omega,by simp⟩ ?_
 ·cbv
 ·cbv
 ·cbv
 ·intro k g h' hI;cbv;obtain⟨seen,todo,n,p,x',kp,DQ,mp,hb,hk,Fi,WX,hp,htp⟩:=hI;obtain⟨gb,gl,gc⟩:=g;have hb:m6 3 dD (cI h rb) h' (.slice gb gl gc) todo p:=hb;have yT:gl=todo.length:=hb.sl.len;generalize S4:A .aF .gtr (A .nat gl) 0=u;have fgt:=S4;rw[bH A,hA.nat]at S4;simp only[Int.ofNat_eq_natCast]at S4;have hu:u=true->0<gl:=fun e=>by rw[e]at S4;have:=of_decide_eq_true S4;omega
  have Gp:u=false->gl=0:=fun e=>by rw[e]at S4;have:=of_decide_eq_false S4;omega
  cases u with
  |false=>
   have h0:=Gp rfl;have ht:todo=[]:=List.eq_nil_of_length_eq_zero (by omega);subst ht;have KR:over E s=seen:=by rw[<-WX];cases n<;>rfl
   cbv;exact⟨kp,m,x',rfl,hm,DQ,by rw[KR];exact mp⟩
  |true=>
   have h0:=hu rfl;cases todo with
   |nil=>simp at yT;omega
   |cons a r=>
    cbv;rw[ai A];refine(Tu (iB DQ rfl)).mono (fun v h3 hR=>?_);obtain⟨z,y,rfl,hup⟩:=hR;have e3:=hup.exp DQ;have Sr:h3 rb=some (.cells #[.map (some mr),.int .i64 y] 407 (0,0)):=(congrFun e3 rb).trans ae;have WT:=zd DQ mp;have k3:Kp [rb] h' h3:=by rw[e3];exact Kp.set (by simp)
    have t3:bE [3] h' h3:=by rw[e3];exact bE.set DQ (by decide)
    have kp3:=kp.trans k3;have QM:=mp.kp k3 (by simpa using WT);have mX:=hb.mono t3;have cy:gb.isSome=true/\(0:Int)<=0/\(0:Int)<(gl:Int):=⟨mX.sl.bF (by omega),by omega,by omega⟩;cbv;rw[ai A];refine ar Sr rfl rfl ?_;cbv;refine⟨cy,?_⟩;cbv;refine mX.sl.load (i:=0) (x:=a) rfl (n:=0) rfl (fun cs aJ=>?_);have aJ:cs=[.int .i64 a]:=aJ;subst aJ;cbv;refine rg.VC gr kp3 a (fun bb nn cc qs=>?_);have wq:nn=(cE E a).length:=qs.len;have hnb40:=qs.bound;obtain⟨n',Fe⟩:∃n',n=n'+1:=⟨n-1,by simp at hk;omega⟩;subst Fe;have Pj:Uz E n' ((cE E a).foldl fG (seen,r))=over E s:=WX;simp only[List.length_cons]at hk htp;cbv;refine aZ.go (G:=Int×Option Addr×Nat×Nat) (fun g=>[(30,.v (.int .i64 g.1)),(6,.v (.slice g.2.1 g.2.2.1 g.2.2.2))]) (fun _=>[])
     (fun k2 g h4=>∃j p,aP g.1 j/\k2=nn-j/\j<=nn/\Kp [rb] h h4/\h4 rb=some (.cells #[.map (some mr),.int .i64 y] 407 (0,0))/\Mp h4 m (.int .i64) (rY (((cE E a).take j).foldl fG (seen,r)).1)/\
      m6 3 dD (cI h rb) h4 (.slice g.2.1 g.2.2.1 g.2.2.2) (a::(((cE E a).take j).foldl fG (seen,r)).2) p/\
      xv E (((cE E a).take j).foldl fG (seen,r)).1+(((cE E a).take j).foldl fG (seen,r)).2.length<=xv E seen+r.length/\
      p+xv E (((cE E a).take j).foldl fG (seen,r)).1<=E.length+1/\(((cE E a).take j).foldl fG (seen,r)).2.length+1<=p) nn (0,gb,gl,gc) ⟨?_,?_,?_⟩
      ⟨0,p,⟨rfl⟩,by omega,by omega,kp3,Sr,QM,mX,Nat.le_refl _,hp,htp⟩ ?_
    ·cbv
    ·cbv
    ·cbv
    ·intro k2 g h4 hI;cbv;obtain⟨j,p4,hz,pT,hj,QX,Bu,EW,M8,hM,Wr,htp4⟩:=hI;obtain⟨z4,Nv,Xh,gc4⟩:=g;have hz:aP z4 j:=hz;generalize est:((cE E a).take j).foldl fG (seen,r)=st at *;have M8:m6 3 dD (cI h rb) h4 (.slice Nv Xh gc4) (a::st.2) p4:=M8;have hgl4:Xh=st.2.length+1:=M8.sl.len;refine aN (fun hc=>?_) (fun hc=>?_)
     ·have aI:=hz.lt hc;clear hc;obtain⟨w,hw⟩:=aD (xs:=cE E a) (i:=j) (by omega);have mS:w∈cE E a:=List.mem_of_getElem? hw;have Ax:((cE E a).take (j+1)).foldl fG (seen,r)=fG st w:=by rw[List.take_add_one,hw,List.foldl_append,est];rfl
      cbv;refine⟨⟨qs.bF (by omega),hz.ix aI⟩,?_⟩;cbv;refine(qs.mono (Kp.VI QX gr (by decide))).load hw hz.eq (fun cs aJ=>?_);have aJ:cs=[.int .i64 w]:=aJ;subst aJ;cbv;refine yD EW w (fun t ht=>?_);cases t with
      |true=>
       have fK:A .not true=false:=by rw[hA.not];rfl
       have CF:fG st w=st:=by unfold fG;rw[<-ht];rfl
       cbv;rw[fK];cbv;refine⟨nn-(j+1),(_,Nv,Xh,gc4),by omega,⟨?_,?_,?_⟩,j+1,p4,hz.succ (A:=A) (by omega),rfl,by omega,QX,Bu,?_⟩
       ·cbv
       ·cbv
       ·cbv
       ·rw[Ax,CF];exact⟨EW,M8,hM,Wr,htp4⟩
      |false=>
       have fK:A .not false=true:=by rw[hA.not];rfl
       have Gr:w∉st.1:=of_decide_eq_false ht.symm;have CF:fG st w=(st.1++[w],st.2++[w]):=by unfold fG;rw[<-ht];rfl
       have Ry:=Ma Gr mS;cbv;rw[fK];cbv;refine Qs EW Gr (fun h5 TN k5 t5=>?_);have hmr:=zd Bu EW;have GG:=t5 [407] _ _ _ _ (by decide) Bu;have yH:Kp [rb] h h5:=fun b o rP AE=>by
        have:=QX b o rP AE;refine k5 b o this ?_;intro e;simp at e;rw[e,hm]at rP;cases rP
       have te:=M8.mono (t5 _);cbv;intro KC h6 Cv e6;have l6:Le h5 h6:=by rw[e6];exact Le.set Cv
       have g6:=(congrFun e6 KC).trans ae;have Sq:=l6 _ _ GG;have mp6:=TN.kp (l6.kp []) (by simp);have KL:=yH.trans (l6.kp _);have O7:Le (cI h rb) h6:=fun b o rP=>by
        unfold cI at rP;split at rP
        ·cases rP
        ·rename_i bG;exact KL b o rP (by simpa using bG)
       cbv;refine(te.mono (l6.t _)).append (bp (s:=dD) g6 (x:=w) rfl) (by decide) rfl (by decide) (by omega) (by omega) (by omega) O7 (fun mm b' c' h7 Ff l7 t7 Bs k7=>?_);have Jy:=t7 [407] (by decide) _ _ _ _ (by decide) Sq;have QL:=Mp.obj mp6 k7;have rN:Kp [rb] h h7:=yU l7;cbv;refine⟨nn-(j+1),(_,b',mm,c'),by omega,⟨?_,?_,?_⟩,j+1,p4+1,hz.succ (A:=A) (by omega),rfl,by omega,rN,Jy,?_⟩
       ·cbv
       ·cbv
       ·cbv
       ·rw[Ax,CF];refine⟨QL,by simpa using Bs,?_,?_,?_⟩
        ·simp only[List.length_append,List.length_singleton];omega
        ·simp only;omega
        ·simp only[List.length_append,List.length_singleton];omega
     ·have iW:=hz.ge hc;have hjn:j=nn:=by omega
      rw[show(cE E a).take j=cE E a from List.take_of_length_le (by omega)]at est;have GF:aP (1:Int) 1:=⟨rfl⟩;have Az:(0:Int)<=1/\(1:Int)<=(Xh:Int):=by omega
      have Wb:=M8.tail (A:=A) GF (ei (A:=A) (n:=Xh) GF) (ei (A:=A) (n:=gc4) GF);rw[est]at Pj;cbv;refine⟨Az,?_⟩;cbv;refine⟨xv E st.1+st.2.length,(_,_,_),by omega,⟨?_,?_,?_⟩,st.1,st.2,n',p4,y,QX,Bu,EW,Wb,rfl,by omega,Pj,Wr,by omega⟩
      ·cbv;exact⟨rfl,True.intro⟩
      ·cbv
      ·cbv
structure Tv(E:List (Int×Int))(s v:Int)(t:Bool):Prop where
 out:(t=false/\v=0/\s∉over E s)\/(t=true/\s∈over E s/\s<=v/\(v=s\/(v∈over E s/\s∈over E v))/\∀k∈over E s,s∈over E k->k<=v)
theorem Tv.det{E:List (Int×Int)}{s v v':Int}{t t':Bool}(a:Tv E s v t)(b:Tv E s v' t'):v=v'/\t=t':=by
 rcases a.out with ⟨a1,a2,a3⟩ | ⟨a1,a2,a3,a4,a5⟩
 ·rcases b.out with ⟨b1,b2,b3⟩ | ⟨b1,b2,b3,b4,b5⟩
  ·exact⟨by rw[a2,b2],by rw[a1,b1]⟩
  ·exact absurd b2 a3
 ·rcases b.out with ⟨b1,b2,b3⟩ | ⟨b1,b2,b3,b4,b5⟩
  ·exact absurd a2 b3
  ·refine⟨?_,by rw[a1,b1]⟩;have h1:v<=v':=by
    rcases a4 with rfl| ⟨h1,h2⟩
    ·exact b3
    ·exact b5 v h1 h2
   have h2:v'<=v:=by
    rcases b4 with rfl| ⟨h1,h2⟩
    ·exact a3
    ·exact a5 v' h1 h2
   omega
def nq(E:List (Int×Int))(s:Int)(l:List Int)(m:Int):Int:=l.foldl (fun m k=>if decide (k>m)&&decide (s∈over E k)then k else m) m
def cZ(E:List (Int×Int))(s:Int):Int×Bool:=if decide (s∈over E s)=true then(nq E s (over E s) s,true)else(0,false)
theorem np(E:List (Int×Int))(s:Int):∀(l:List Int) (m:Int),m<=nq E s l m/\(nq E s l m=m\/(nq E s l m∈l/\s∈over E (nq E s l m)))/\∀k∈l,s∈over E k->k<=nq E s l m
 | [],m=>⟨Int.le_refl _,.inl rfl,fun k hk=>by cases hk⟩
 |x::r,m=>by
  have e:nq E s (x::r) m=nq E s r (if decide (x>m)&&decide (s∈over E x)then x else m):=rfl;rw[e];by_cases hc:(decide (x>m)&&decide (s∈over E x))=true
  ·rw[if_pos hc];simp at hc;obtain⟨h1,h2,h3⟩:=np E s r x;refine⟨by omega,?_,fun k hk hs=>?_⟩
   ·rcases h2 with h2| ⟨h2,h2'⟩
    ·right;rw[h2];exact⟨by simp,hc.2⟩
    ·right;exact⟨by simp[h2],h2'⟩
   ·rcases List.mem_cons.1 hk with rfl|hk
    ·exact h1
    ·exact h3 k hk hs
  ·rw[if_neg hc];simp at hc;obtain⟨h1,h2,h3⟩:=np E s r m;refine⟨h1,?_,fun k hk hs=>?_⟩
   ·rcases h2 with h2| ⟨h2,h2'⟩
    ·exact .inl h2
    ·right;exact⟨by simp[h2],h2'⟩
   ·rcases List.mem_cons.1 hk with rfl|hk
    ·rcases Int.lt_or_le m k with aI|hle
     ·exact absurd hs (hc aI)
     ·omega
    ·exact h3 k hk hs
theorem mi(E:List (Int×Int))(s:Int):Tv E s (cZ E s).1 (cZ E s).2:=by
 constructor;unfold cZ;by_cases h:s∈over E s
 ·rw[if_pos (by simpa using h)];obtain⟨h1,h2,h3⟩:=np E s (over E s) s;exact .inr ⟨rfl,h,h1,h2,h3⟩
 ·rw[if_neg (by simpa using h)];exact .inl ⟨rfl,rfl,h⟩
theorem Tv.eq{E:List (Int×Int)}{s v:Int}{t:Bool}(a:Tv E s v t):v=(cZ E s).1/\t=(cZ E s).2:=a.det (mi E s)
theorem Rg.gen{h0 h h':ad}{m:Nat}{E:List (Int×Int)}(q:Rg h0 h m E){bs:List Nat}(k:Kp bs h h')(hm:m∉bs)(t:bE [3] h h'):Rg h0 h' m E:=by obtain⟨G,g1,g2,g3,g4⟩:=q.out;exact⟨G,g1.kp k hm,g2,fun g hg=>⟨(g3 g hg).1,(g3 g hg).2.mono t⟩,g4⟩
theorem Rg.map{h0 h:ad}{m:Nat}{E:List (Int×Int)}(q:Rg h0 h m E):∃l,Mp h m (.int .i64) l:=by obtain⟨G,g1,-⟩:=q.out;exact⟨_,g1⟩
theorem El{H W:List bP}{h:ad}{b1 b2:Option Addr}{n1 c1 n2 c2:Nat}(q1:Sl 205 bD h (.slice b1 n1 c1) H)(q2:Sl 205 bD h (.slice b2 n2 c2) W)(oL:n1<=2^18)(ng:n2<=2^18)(s:Int):
 Ct 282 [.agg #[.slice b1 n1 c1,.slice b2 n2 c2],.int .i64 s] h (fun v h'=>Le h h'/\∃z t,v=.tuple #[.int .i64 z,.bool t]/\Tv (ch H W) s z t):=by
 obtain⟨A,hA⟩:=Ar.ex;have hE:(ch H W).length<=2^37:=by have:=xQ H W;have:=xq (show W.length<=2^18 by rw[<-q2.len];exact ng) (show H.length<=2^18 by rw[<-q1.len];exact oL);omega
 generalize hEe:ch H W=E at *;refine ah A (aq Yt.ax Yt.bm) Tryz.func282 rfl (by kernel_rfl) ?_;cbv;refine(HE q1 q2 oL ng).mono (fun v h1 hR=>?_);obtain⟨l1,rb,mr,rfl,Bq,hmr,gr,rg⟩:=hR;rw[hEe]at rg;cbv;refine(Dp gr rg hE s).mono (fun v h2 hR=>?_);obtain⟨k2,m,x2,rfl,hm,Xg,B2⟩:=hR;have l2:Le h h2:=l1.cm (by simpa using Bq) k2;have rg2:Rg h h2 mr E:=by obtain⟨l,ml⟩:=rg.map;exact rg.gen k2 (by simpa using zd gr ml) (Kp.VI k2 gr (by decide))
 cbv;refine yD B2 s (fun t ht=>?_);cases t with
 |false=>
  have fK:A .not false=true:=by rw[hA.not];rfl
  have hs:s∉over E s:=of_decide_eq_false ht.symm;cbv;rw[fK];cbv;exact⟨l2,0,false,rfl,⟨.inl ⟨rfl,rfl,hs⟩⟩⟩
 |true=>
  have fK:A .not true=false:=by rw[hA.not];rfl
  have hs:s∈over E s:=of_decide_eq_true ht.symm;cbv;rw[fK];cbv;refine Ew LB B2 (fun it h3 hit l3 it3=>?_);have Sr:=l3 _ _ Xg;have QM:=B2.kp (l3.kp []) (by simp);have UY:=rg2.gen (l3.kp []) (by simp) (l3.t _);have qO:=l2.trans l3;cbv;refine aZ.go (G:=Int) (fun z=>[(8,.v (.int .i64 z))]) (fun _=>[(2,[.slice b1 n1 c1,.slice b2 n2 c2])])
   (fun k z h'=>∃left last x',Le h h'/\It h' it m left last/\k=left.length/\h' rb=some (.cells #[.map (some mr),.int .i64 x'] 407 (0,0))/\Rg h h' mr E/\
    s<=z/\(z=s\/(z∈over E s/\s∈over E z))/\(∀p∈left,p∈rY (over E s))/\∀k∈over E s,s∈over E k->k<=z\/(Value.int .i64 k,Value.bool true)∈left) _ s ⟨?_,?_,?_⟩
    ⟨_,_,x2,qO,it3,rfl,Sr,UY,Int.le_refl _,.inl rfl,fun p hp=>hp,fun k hk _=>.inr (zS.2 hk)⟩ ?_
  ·cbv
  ·cbv
  ·cbv
  ·intro k z h' hI;cbv;obtain⟨left,last,x',hle,MY,hk,DQ,rg',mW,jT,IT,hz4⟩:=hI;have hir:it≠rb:=fun e=>by
    obtain⟨_,_,_,_,_,_,g,_⟩:=MY.out;rw[e,DQ]at g;cases g
   have DL:m≠rb:=fun e=>by
    obtain⟨_,_,_,_,_,g,_⟩:=MY.out;rw[e,DQ]at g;cases g
   have himr:mr≠it:=fun e=>by
    obtain⟨_,_,_,_,_,_,g,_⟩:=MY.out;obtain⟨l,ml⟩:=rg'.map;obtain⟨_,_,g',_⟩:=ml.out;rw[e,g]at g';cases g'
   refine Hz MY (fun hl=>?_) (fun key val lj h4 fI O5 dr aI RQ k4 t4=>?_)
   ·cbv;refine⟨hle,z,true,rfl,⟨.inr ⟨rfl,hs,mW,jT,fun k hk Ua=>?_⟩⟩⟩;rcases hz4 k hk Ua with h1|h1
    ·exact h1
    ·rw[hl]at h1;cases h1
   ·have Bu:=t4 [407] _ _ _ _ (by decide) DQ;have fU:=IT _ fI;obtain⟨w,hw,he⟩:=List.mem_map.1 fU;cases he;have l4:Le h h4:=hle.cm (by simpa using l2.none hit) k4;have OA:=rg'.gen k4 (by simpa using himr) (t4 _);have stay:∀(h5:ad) (x5:Int),Le h h5->It h5 it m lj (some (.int .i64 w,.bool true))->h5 rb=some (.cells #[.map (some mr),.int .i64 x5] 407 (0,0))->Rg h h5 mr E->((s∈over E w)->w<=z)->
     ∃left last x',Le h h5/\It h5 it m left last/\lj.length=left.length/\h5 rb=some (.cells #[.map (some mr),.int .i64 x'] 407 (0,0))/\Rg h h5 mr E/\
      s<=z/\(z=s\/(z∈over E s/\s∈over E z))/\(∀p∈left,p∈rY (over E s))/\∀k∈over E s,s∈over E k->k<=z\/(Value.int .i64 k,Value.bool true)∈left:=
     fun h5 x5 a1 a2 a3 a4 a5=>⟨lj,_,x5,a1,a2,rfl,a3,a4,mW,jT,fun p hp=>IT p (dr p hp),fun k hk Ua=>by
      rcases hz4 k hk Ua with h1|h1
      ·exact .inl h1
      ·rcases O5 _ h1 with h2|h2
       ·have:k=w:=by cases h2;rfl
        subst this;exact .inl (a5 Ua)
       ·exact .inr h2⟩
    have more:∀(h5:ad) (x5:Int),Le h h5->It h5 it m lj (some (.int .i64 w,.bool true))->h5 rb=some (.cells #[.map (some mr),.int .i64 x5] 407 (0,0))->Rg h h5 mr E->s∈over E w->z<w->
     ∃left last x',Le h h5/\It h5 it m left last/\lj.length=left.length/\h5 rb=some (.cells #[.map (some mr),.int .i64 x'] 407 (0,0))/\Rg h h5 mr E/\
      s<=w/\(w=s\/(w∈over E s/\s∈over E w))/\(∀p∈left,p∈rY (over E s))/\∀k∈over E s,s∈over E k->k<=w\/(Value.int .i64 k,Value.bool true)∈left:=
     fun h5 x5 a1 a2 a3 a4 a5 a6=>⟨lj,_,x5,a1,a2,rfl,a3,a4,by omega,.inr ⟨hw,a5⟩,fun p hp=>IT p (dr p hp),fun k hk Ua=>by
      rcases hz4 k hk Ua with h1|h1
      ·left;omega
      ·rcases O5 _ h1 with h2|h2
       ·have:k=w:=by cases h2;rfl
        subst this;exact .inl (Int.le_refl _)
       ·exact .inr h2⟩
    generalize eg:A .aF .gtr w z=u;have fg:=eg;rw[bH A]at eg;cbv;refine EC RQ ?_;cbv;rw[fg];cases u with
    |false=>
     have cB:=stay h4 x' l4 RQ Bu OA (fun _=>by have:=of_decide_eq_false eg;omega);cbv;refine⟨lj.length,_,by omega,⟨?_,?_,?_⟩,cB⟩
     ·cbv
     ·cbv
     ·cbv
    |true=>
     have Am:z<w:=of_decide_eq_true eg;cbv;refine(Dp Bu OA hE w).mono (fun v h5 hR=>?_);obtain⟨k5,m5,x5,rfl,hm5,GG,TN⟩:=hR;have l5:Le h h5:=l4.cm (by simpa using Bq) k5;have rg5:Rg h h5 mr E:=by obtain⟨l,ml⟩:=OA.map;exact OA.gen k5 (by simpa using zd Bu ml) (Kp.VI k5 Bu (by decide))
     have it5:=RQ.kp k5 (by simpa using hir) (by simpa using DL);cbv;refine yD TN s (fun t ht=>?_);cases t with
     |true=>
      have cB:=more h5 x5 l5 it5 GG rg5 (of_decide_eq_true ht.symm) Am;cbv;refine⟨lj.length,_,by omega,⟨?_,?_,?_⟩,cB⟩
      ·cbv
      ·cbv
      ·cbv
     |false=>
      have hns:s∉over E w:=of_decide_eq_false ht.symm;have cB:=stay h5 x5 l5 it5 GG rg5 (fun hsw=>absurd hsw hns);cbv;refine⟨lj.length,_,by omega,⟨?_,?_,?_⟩,cB⟩
      ·cbv
      ·cbv
      ·cbv
theorem iG.xF{h h':ad}{c tb wb ct cw:Nat}{T:List cg}{W:List (dw×Bool)}{H' Wt':List bP}{e:Int}{n1 n2:Nat}{b3 b4 b5 b6:Option Addr}{n3 c3 n4 c4 n5 c5 n6 c6:Nat}{o:Int}
 (g0:h c=some (.cells #[.slice (some ⟨tb,0,none⟩) n1 ct,.slice (some ⟨wb,0,none⟩) n2 cw,.slice b3 n3 c3,.slice b4 n4 c4,.int .u32 o,.int .i32 0,.int .u32 0,.int .i64 e] 128 (0,0)))
 (ho:(o=0/\e=0)\/(o=1/\e≠0)) (g1:n1=T.length) (g2:dq 51 cL h tb ct T) (g3:n2=W.length) (g4:dq 55 bQ h wb cw W) (q5:Sl 205 bD h (.slice b5 n5 c5) H') (q6:Sl 205 bD h (.slice b6 n6 c6) Wt')
 (hh:h'=bl h c (.cells #[.slice (some ⟨tb,0,none⟩) n1 ct,.slice (some ⟨wb,0,none⟩) n2 cw,.slice b5 n5 c5,.slice b6 n6 c6,.int .u32 o,.int .i32 0,.int .u32 0,.int .i64 e] 128 (0,0))):
 Kp [c] h h'/\iG h' c tb wb ct cw T W H' Wt' e:=by
 have lt:∀tys,128∉tys->bE tys h h':=fun tys hn=>by rw[hh];exact bE.set g0 hn
 refine⟨by rw[hh];exact Kp.set (by simp),n1,n2,b5,n5,c5,b6,n6,c6,o,by rw[hh];exact ae,ho,g1,g2.mono (lt _ (by decide)),g3,g4.mono (lt _ (by decide)),q5.mono (lt _ (by decide)),q6.mono (lt _ (by decide))⟩
theorem iG.elim{h:ad}{c tb wb ct cw:Nat}{T:List cg}{W:List (dw×Bool)}{H Wt:List bP}{e:Int}(q:iG h c tb wb ct cw T W H Wt e){p:Prop}
 (k:∀(n1 n2:Nat) (b3:Option Addr) (n3 c3:Nat) (b4:Option Addr) (n4 c4:Nat) (o:Int),h c=some (.cells #[.slice (some ⟨tb,0,none⟩) n1 ct,.slice (some ⟨wb,0,none⟩) n2 cw,.slice b3 n3 c3,.slice b4 n4 c4,.int .u32 o,.int .i32 0,.int .u32 0,.int .i64 e] 128 (0,0))->
  ((o=0/\e=0)\/(o=1/\e≠0))->n1=T.length->dq 51 cL h tb ct T->n2=W.length->dq 55 bQ h wb cw W->Sl 205 bD h (.slice b3 n3 c3) H->Sl 205 bD h (.slice b4 n4 c4) Wt->
  fP h (.agg #[.slice (some ⟨tb,0,none⟩) n1 ct,.slice (some ⟨wb,0,none⟩) n2 cw,.slice b3 n3 c3,.slice b4 n4 c4]) ⟨T,W.map (·.1),H,Wt⟩->p):p:=by
 obtain⟨n1,n2,b3,n3,c3,b4,n4,c4,o,g0,g1,g2,g3,g4,g5,g6,g7⟩:=q.out;exact k n1 n2 b3 n3 c3 b4 n4 c4 o g0 g1 g2 g3 g4 g5 g6 g7 ⟨_,_,_,_,_,_,_,_,_,_,_,_,W,rfl,g3.sl g2,g5.sl g4,g6,g7,rfl⟩
theorem ef{d:DB}{h:ad}{v:Value}(q:fP h v d){k:Value->ad->Prop}
 (hk:∀h' b1 n1 c1 b2 n2 c2 b3 n3 c3 b4 n4 c4,Le h h'->fP h' (.agg #[.slice b1 n1 c1,.slice b2 n2 c2,.slice b3 n3 c3,.slice b4 n4 c4]) d->k (.agg #[.slice b1 n1 c1,.slice b2 n2 c2,.slice b3 n3 c3,.slice b4 n4 c4]) h'):Ct 50 [v] h k:=
 (lA q).mono (fun v h' hR=>by
  obtain⟨l,hd⟩:=hR;obtain⟨b1,n1,c1,b2,n2,c2,b3,n3,c3,b4,n4,c4,hv⟩:=hd.form;rw[hv]at hd |-;exact hk h' _ _ _ _ _ _ _ _ _ _ _ _ l hd)
theorem oq{d:DB}{h:ad}{v:Value}(q:fP h v d){k:Value->ad->Prop}
 (hk:∀h' c tb wb ct cw W,Le h h'->h c=none->h tb=none->h wb=none->c≠tb->c≠wb->W=(d.au.map fun w=>(w,true))->ct=d.aK.length->cw=W.length->iG h' c tb wb ct cw d.aK W d.holds d.waits 0->k (.pointer (some ⟨c,0,none⟩)) h'):Ct 48 [v] h k:=
 (zm q).mono (fun v h' hR=>by
  obtain⟨l1,c,tb,wb,ct,cw,W,hv,hc,pJ,sY,rf,pf,hW,NK,GI,cs⟩:=hR;rw[hv];exact hk h' c tb wb ct cw W l1 hc pJ sY rf pf hW NK GI cs)
theorem Hj{h:ad}{cs:List Value}{t:cg}(q:cL.R h cs t){p:List Value->Prop}(k:∀(b1:Option Addr) (n1 c1:Nat) (b2:Option Addr) (n2 c2:Nat),Sl 165 aT h (.slice b1 n1 c1) t.S.cols->Sl 59 az h (.slice b2 n2 c2) t.rows->p [.string t.S.name,.slice b1 n1 c1,.int .i64 t.S.key,.bool t.S.only,.slice b2 n2 c2]):p cs:=by obtain⟨b1,n1,c1,b2,n2,c2,rfl,q1,q2⟩:=q;exact k b1 n1 c1 b2 n2 c2 q1 q2
theorem uV{A:Ar}[aX A]{h:ad}{b:Option Addr}{len cap:Nat}{xs:List cg}(q:Sl 51 cL h (.slice b len cap) xs){i:Nat}{t:cg}(hx:xs[i]? =some t){n:Int}(hn:n=(i:Int)){k:List Value->Prop}
 (hk:∀(b1:Option Addr) (n1 c1:Nat) (b2:Option Addr) (n2 c2:Nat),Sl 165 aT h (.slice b1 n1 c1) t.S.cols->Sl 59 az h (.slice b2 n2 c2) t.rows->k [.string t.S.name,.slice b1 n1 c1,.int .i64 t.S.key,.bool t.S.only,.slice b2 n2 c2]):ue h (A.jF b n cL.n) cL.n k:=
 q.load hx hn (fun cs aJ=>Hj aJ hk)
theorem sq{A:Ar}[aX A]{h:ad}{b:Option Addr}{len cap:Nat}{xs:List (dw×Bool)}(q:Sl 55 bQ h (.slice b len cap) xs){i:Nat}{w:dw×Bool}(hx:xs[i]? =some w){n:Int}(hn:n=(i:Int)){k:List Value->Prop}
 (hk:∀(b1:Option Addr) (n1 c1:Nat),Sl 148 fO h (.slice b1 n1 c1) w.1.log->(w.2=true->c1=n1)->(∀h' k',Le h h'->k' [.slice b1 n1 c1]->ue h' (A .off (A .jF b n 3) 1) 1 k')->k [.slice b1 n1 c1]):ue h (A .off (A .jF b n 3) 1) 1 k:=
 q.yE (s:=bQ) hx hn (o:=1) (m:=1) (by decide) (fun cs aJ ag=>by
  obtain⟨b1,n1,c1,b2,n2,c2,rfl,q1,q2,q3⟩:=aJ;exact hk b1 n1 c1 q1 q3 ag)
theorem Ai{A:Ar}[aX A]{h:ad}{b:Option Addr}{len cap:Nat}{xs:List (dw×Bool)}(q:Sl 55 bQ h (.slice b len cap) xs){i:Nat}{w:dw×Bool}(hx:xs[i]? =some w){n:Int}(hn:n=(i:Int)){k:List Value->Prop}
 (hk:∀(b1:Option Addr) (n1 c1:Nat),Sl 161 fN h (.slice b1 n1 c1) w.1.marks->(∀h' k',Le h h'->k' [.slice b1 n1 c1]->ue h' (A .off (A .jF b n 3) 2) 1 k')->k [.slice b1 n1 c1]):ue h (A .off (A .jF b n 3) 2) 1 k:=
 q.yE (s:=bQ) hx hn (o:=2) (m:=1) (by decide) (fun cs aJ ag=>by
  obtain⟨b1,n1,c1,b2,n2,c2,rfl,q1,q2,q3⟩:=aJ;exact hk b2 n2 c2 q2 ag)
theorem MQ{h:ad}{c tb wb ct cw:Nat}{T:List cg}{W:List (dw×Bool)}{H Wt:List bP}{e:Int}(q:iG h c tb wb ct cw T W H Wt e){p4 p5 p6 p7:Nat}{hd:bP}
 (g4:h p4=some (.cells #[.pointer (some ⟨c,0,none⟩)] 109 (0,0))) (g5:h p5=some (.cells #[.int .i64 hd.s] 3 (0,0))) (g6:h p6=some (.cells #[.string hd.table] 9 (0,0))) (g7:h p7=some (.cells #[.bool hd.x] 4 (0,0)))
 (hH:H.length<=2^18) (Um:Wt.length<=2^18):
 Ct 280 [.pointer (some ⟨p4,0,none⟩),.pointer (some ⟨p5,0,none⟩),.pointer (some ⟨p6,0,none⟩),.pointer (some ⟨p7,0,none⟩)] h
  (fun v h'=>Kp [c] h h'/\∃t,v=.bool t/\t=bu H hd/\iG h' c tb wb ct cw T W (bT H hd) (cS H Wt hd) e):=by
 obtain⟨A,hA⟩:=Ar.ex;obtain⟨n1,n2,b3,n3,c3,b4,n4,c4,o,f0,f1,f2,f3,f4,f5,f6,f7⟩:=q.out;obtain⟨hs,ht,hx⟩:=hd;refine ah A (aq Yv.ax Yv.bm) Tryz.func280 rfl (by kernel_rfl) ?_;cbv;refine ar g4 rfl rfl ?_;cbv;refine ar g4 rfl rfl ?_;cbv;rw[ai A];rw[ai A];refine ar f0 rfl rfl ?_;cbv;refine ar g5 rfl rfl ?_;cbv;refine ar g6 rfl rfl ?_;cbv;refine ar g7 rfl rfl ?_;cbv;refine(Tr f6 f7 (by have:=f6.len;omega) (by have:=f7.len;omega) ⟨hs,ht,hx⟩).mono (fun v h1 hR=>?_);obtain⟨l1,b5,n5,c5,b6,n6,c6,t,rfl,r5,r6,et⟩:=hR;cbv;refine ar (l1 _ _ g4) rfl rfl ?_;cbv;refine⟨⟨_,rfl,rfl⟩,?_⟩;cbv;rw[ai A];rw[ai A];refine eH (l1 _ _ f0) (by simp) (fun h2 e2=>?_);have af:=iG.xF (l1 _ _ f0) f1 f2 (f3.mono (l1.t _)) f4 (f5.mono (l1.t _)) r5 r6 e2;cbv;exact⟨(l1.kp _).trans af.1,t,rfl,et,af.2⟩
def cX(W:List (dw×Bool))(s:Int):List Int:=W.map fun x=>IntKind.i64.wrap (x.1.s-s)
def aR(T:List cg)(name:ByteArray):List Int:=T.map fun x=>eI x.S.name name
def Cq(T:List cg)(W:List (dw×Bool))(s:Int)(name:ByteArray):Bool:=lq (cX W s)&&lq (aR T name)
def holdH(T:List cg)(W:List (dw×Bool))(H:List bP)(hd:bP):List bP:=if Cq T W hd.s hd.table=true then bT H hd else H
def holdW(T:List cg)(W:List (dw×Bool))(H Wt:List bP)(hd:bP):List bP:=if Cq T W hd.s hd.table=true then cS H Wt hd else Wt
def holdE(T:List cg)(W:List (dw×Bool))(H:List bP)(hd:bP):Int:=if Cq T W hd.s hd.table=true then if bu H hd=true then 0 else 16 else 2
theorem Bb{H:List bP}{hd:bP}:(bT H hd).length<=H.length+1:=by
 unfold bT;split
 ·split
  ·omega
  ·split
   ·rw[List.length_set];omega
   ·simp
 ·omega
theorem lK(l:List bP)(s:Int):(bL l s).length<=l.length:=List.length_filter_le _ _
def fT:ByteArray:=⟨#[]⟩
def jX(r:Row)(t:cg):cg×lG×Int:=((cd t r).1,⟨fT,1,r⟩,(cd t r).2)
def eC(k:dc)(t:cg):cg×lG×Int:=if t.S.only=true then(t,⟨fT,0,[]⟩,19)else((bt t k).1,⟨fT,2,(bt t k).2.1⟩,(bt t k).2.2)
theorem Vk{nm:ByteArray}{cols:List bM}{key:Int}{only:Bool}{rows:List Row}{r:Row}{h:ad}{sb b4 b:Option Addr}{sn sc n4 c4 n c rb:Nat}(qs:Sl 165 aT h (.slice sb sn sc) cols)(q4:Sl 59 az h (.slice b4 n4 c4) rows)
 (gr:h rb=some (.cells #[.slice b n c] 59 (0,0))) (q:Sl 61 aQ h (.slice b n c) r) (hn:n4<=2^37):
 Ct 164 [.agg #[.string nm,.slice sb sn sc,.int .i64 key,.bool only,.slice b4 n4 c4],.pointer (some ⟨rb,0,none⟩)] h (fun v h'=>Le h h'/\∃b1 n1 k1 b2 n2 k2 b3 n3 k3 e T C,v=.tuple #[.agg #[.string nm,.slice b1 n1 k1,.int .i64 key,.bool only,.slice b2 n2 k2],.agg #[.string fT,.int .i64 C.op,.slice b3 n3 k3],.int .i64 e]/\
  Sl 165 aT h' (.slice b1 n1 k1) cols/\Sl 59 az h' (.slice b2 n2 k2) T/\Sl 61 aQ h' (.slice b3 n3 k3) C.row/\(⟨⟨⟨nm,cols,key,only⟩,T⟩,C,e⟩:cg×lG×Int)=jX r ⟨⟨nm,cols,key,only⟩,rows⟩):=by
 obtain⟨A,hA⟩:=Ar.ex;refine ah A (aq ZD.ax ZD.bm) Tryz.func164 rfl (by kernel_rfl) ?_;cbv;refine ar gr rfl rfl ?_;cbv;refine(OF (nm:=nm) (key:=key) (only:=only) qs q4 q hn).mono (fun v h1 hR=>?_);obtain⟨l1,b1,n1,k1,b2,n2,k2,e,T,rfl,r1,r2,r3⟩:=hR;cbv;refine ar (l1 _ _ gr) rfl rfl ?_;cbv;refine(HV (q.mono (l1.t _))).mono (fun v h2 hR=>?_);obtain⟨l2,b3,k3,rfl,r4⟩:=hR;cbv;exact⟨l1.trans l2,_,_,_,_,_,_,_,_,_,e,T,⟨fT,1,r⟩,rfl,r1.mono (l2.t _),r2.mono (l2.t _),r4,by unfold jX;rw[<-r3]⟩
theorem P0{nm:ByteArray}{cols:List bM}{key:Int}{only:Bool}{rows:List Row}{h:ad}{sb b4:Option Addr}{sn sc n4 c4 rb:Nat}(qs:Sl 165 aT h (.slice sb sn sc) cols)(q4:Sl 59 az h (.slice b4 n4 c4) rows){kv:dc}
 (gr:h rb=some (.cells #[.int .i64 kv.k,.int .i64 kv.n,.string kv.s] 61 (0,0))) (hn:n4<=2^37):
 Ct 249 [.agg #[.string nm,.slice sb sn sc,.int .i64 key,.bool only,.slice b4 n4 c4],.pointer (some ⟨rb,0,none⟩)] h (fun v h'=>Le h h'/\∃b1 n1 k1 b2 n2 k2 b3 n3 k3 e T C,v=.tuple #[.agg #[.string nm,.slice b1 n1 k1,.int .i64 key,.bool only,.slice b2 n2 k2],.agg #[.string fT,.int .i64 C.op,.slice b3 n3 k3],.int .i64 e]/\
  Sl 165 aT h' (.slice b1 n1 k1) cols/\Sl 59 az h' (.slice b2 n2 k2) T/\Sl 61 aQ h' (.slice b3 n3 k3) C.row/\(⟨⟨⟨nm,cols,key,only⟩,T⟩,C,e⟩:cg×lG×Int)=eC kv ⟨⟨nm,cols,key,only⟩,rows⟩):=by
 obtain⟨A,hA⟩:=Ar.ex;generalize hD:eC kv ⟨⟨nm,cols,key,only⟩,rows⟩=D;refine ah A (aq YK.ax YK.bm) Tryz.func249 rfl (by kernel_rfl) ?_;cases only with
 |true=>cbv;exact⟨Le.refl _,_,_,_,_,_,_,_,_,_,19,rows,⟨fT,0,[]⟩,rfl,qs,q4,Sl.nil,by rw[<-hD];rfl⟩
 |false=>cbv;refine ar gr rfl rfl ?_;cbv;refine(Hl (nm:=nm) (key:=key) (only:=false) qs q4 hn kv).mono (fun v h1 hR=>?_);obtain⟨l1,b1,n1,k1,b2,n2,k2,b3,n3,k3,e,T,R,hv,r1,r2,r3,r4⟩:=hR;rw[hv];cbv;exact⟨l1,_,_,_,_,_,_,_,_,_,e,T,⟨fT,2,R⟩,rfl,r1,r2,r3,by rw[<-hD];unfold eC;rw[<-r4];rfl⟩
theorem Qr{nm:ByteArray}{cols:List bM}{key:Int}{only:Bool}{rows:List Row}{r:Row}{h:ad}{sb b4 b:Option Addr}{sn sc n4 c4 n c rb:Nat}(qs:Sl 165 aT h (.slice sb sn sc) cols)(q4:Sl 59 az h (.slice b4 n4 c4) rows)
 (gr:h rb=some (.cells #[.slice b n c] 59 (0,0))) (q:Sl 61 aQ h (.slice b n c) r) (hn:n4<=2^37) {k:Value->ad->Prop}
 (hk:∀h' b1 n1 k1 b2 n2 k2 b3 n3 k3 e T C,Le h h'->Sl 165 aT h' (.slice b1 n1 k1) cols->Sl 59 az h' (.slice b2 n2 k2) T->Sl 61 aQ h' (.slice b3 n3 k3) C.row->(⟨⟨⟨nm,cols,key,only⟩,T⟩,C,e⟩:cg×lG×Int)=jX r ⟨⟨nm,cols,key,only⟩,rows⟩->
  k (.tuple #[.agg #[.string nm,.slice b1 n1 k1,.int .i64 key,.bool only,.slice b2 n2 k2],.agg #[.string fT,.int .i64 C.op,.slice b3 n3 k3],.int .i64 e]) h'):
 Ct 164 [.agg #[.string nm,.slice sb sn sc,.int .i64 key,.bool only,.slice b4 n4 c4],.pointer (some ⟨rb,0,none⟩)] h k:=
 (Vk (nm:=nm) (key:=key) (only:=only) qs q4 gr q hn).mono (fun v h' hR=>by
  obtain⟨l,b1,n1,k1,b2,n2,k2,b3,n3,k3,e,T,C,hv,r1,r2,r3,r4⟩:=hR;rw[hv];exact hk h' b1 n1 k1 b2 n2 k2 b3 n3 k3 e T C l r1 r2 r3 r4)
theorem LG{nm:ByteArray}{cols:List bM}{key:Int}{only:Bool}{rows:List Row}{h:ad}{sb b4:Option Addr}{sn sc n4 c4 rb:Nat}(qs:Sl 165 aT h (.slice sb sn sc) cols)(q4:Sl 59 az h (.slice b4 n4 c4) rows){kv:dc}
 (gr:h rb=some (.cells #[.int .i64 kv.k,.int .i64 kv.n,.string kv.s] 61 (0,0))) (hn:n4<=2^37) {k:Value->ad->Prop}
 (hk:∀h' b1 n1 k1 b2 n2 k2 b3 n3 k3 e T C,Le h h'->Sl 165 aT h' (.slice b1 n1 k1) cols->Sl 59 az h' (.slice b2 n2 k2) T->Sl 61 aQ h' (.slice b3 n3 k3) C.row->(⟨⟨⟨nm,cols,key,only⟩,T⟩,C,e⟩:cg×lG×Int)=eC kv ⟨⟨nm,cols,key,only⟩,rows⟩->
  k (.tuple #[.agg #[.string nm,.slice b1 n1 k1,.int .i64 key,.bool only,.slice b2 n2 k2],.agg #[.string fT,.int .i64 C.op,.slice b3 n3 k3],.int .i64 e]) h'):
 Ct 249 [.agg #[.string nm,.slice sb sn sc,.int .i64 key,.bool only,.slice b4 n4 c4],.pointer (some ⟨rb,0,none⟩)] h k:=
 (P0 (nm:=nm) (key:=key) (only:=only) qs q4 gr hn).mono (fun v h' hR=>by
  obtain⟨l,b1,n1,k1,b2,n2,k2,b3,n3,k3,e,T,C,hv,r1,r2,r3,r4⟩:=hR;rw[hv];exact hk h' b1 n1 k1 b2 n2 k2 b3 n3 k3 e T C l r1 r2 r3 r4)
end Go.S
