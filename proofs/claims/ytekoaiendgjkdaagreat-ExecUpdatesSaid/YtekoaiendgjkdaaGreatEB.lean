import Derived.Test.YtekoaiendgjkdaaGreatEA
import Derived.Test.YtekoaiendgjkdaaGreatRd
set_option linter.unusedVariables false
set_option linter.unusedSimpArgs false
set_option linter.unusedSectionVars false
set_option maxRecDepth 100000
namespace Go.S
open Go.Sx Go.Proofs
def fE(w:bZ)(H:List bZ):List (Int×Int):=(H.filter (fY w)).map fun h=>(w.s,h.s)
def cI(H W:List bZ):List (Int×Int):=W.flatMap fun w=>fE w H
def cR(E:List (Int×Int))(a:Int):List Int:=(E.filter fun p=>decide (p.1=a)).map (·.2)
theorem o0{E:List (Int×Int)}{a b:Int}:cR (E++[(a,b)]) a=cR E a++[b]:=by simp[cR]
theorem ji{E:List (Int×Int)}{a b c:Int}(h:c≠a):cR (E++[(a,b)]) c=cR E c:=by simp[cR,Ne.symm h]
theorem A9(E:List (Int×Int))(a:Int):(cR E a).length<=E.length:=by unfold cR;rw[List.length_map];exact List.length_filter_le _ _
structure XU where
 a:Int
 nb:Nat
 cap:Nat
structure Rg(h0 h:ad)(m:Nat)(E:List (Int×Int)):Prop where
 out:∃G:List XU,Mp h m (.int .i64) (G.map fun g=>(.int .i64 g.a,.slice (some ⟨g.nb,0,none⟩) (cR E g.a).length g.cap))/\(G.map (·.nb)).Nodup/\(∀g∈G,h0 g.nb=none/\dI 3 dR h g.nb g.cap (cR E g.a))/\∀a,cR E a≠[]->∃g∈G,g.a=a
theorem Gi:Tryz.prog.underlying 402=some (.map 3 240):=by kernel_rfl
theorem NH:Tryz.prog.underlying 391=some (.map 3 4):=by kernel_rfl
theorem u3:Tryz.prog.underlying 3=some (.int .i64):=by kernel_rfl
theorem IE(w:World):(zeroValue 240).run Tryz.prog w=.ok (.slice none 0 0) w:=by
 have h:((Tryz.prog.info? 240).bind (·.zero))=some (.slice none 0 0):=by kernel_rfl
 cases h1:Tryz.prog.info? 240 with
 |none=>rw[h1]at h;cases h
 |some i=>rw[h1]at h;simp at h;simp[zeroValue,typeInfo,h1,h]
theorem Rg.kp{h0 h h':ad}{m:Nat}{E:List (Int×Int)}(q:Rg h0 h m E){bs:List Nat}(k:Kp bs h h')(hm:m∉bs)(hb:∀b∈bs,h0 b≠none):Rg h0 h' m E:=by obtain⟨G,g1,g2,g3,g4⟩:=q.out;exact⟨G,g1.kp k hm,g2,fun g hg=>⟨(g3 g hg).1,(g3 g hg).2.kp k (fun hx=>hb _ hx (g3 g hg).1) (fun _ _ _ _ hx=>by cases hx)⟩,g4⟩
def de(h:ad)(n:Nat):ad:=fun b=>if b=n then none else h b
theorem fJ(h:ad)(n:Nat):Le (de h n) h:=fun b o q=>by
 unfold de at q;split at q
 ·cases q
 ·exact q
theorem dX(h:ad)(n:Nat):de h n n=none:=by unfold de;rw[if_pos rfl]
theorem Ak{h h':ad}{n:Nat}(l:Le (de h n) h'):Kp [n] h h':=fun b o q hb=>l b o (by unfold de;rw[if_neg (by simpa using hb)];exact q)
theorem yG{h:ad}{n b:Nat}(q:de h n b=none):b=n\/h b=none:=by
 unfold de at q;split at q
 ·rename_i e;exact .inl e
 ·exact .inr q
structure Tk(h0 h:ad)(m:Nat)(E:List (Int×Int))(a:Int)(v:Value):Prop where
 out:∃hb,Le h0 hb/\Le hb h/\cX 3 dR hb h v (cR E a)/\
  ∀h' v' x,Le hb h'->cX 3 dR hb h' v' (cR E a++[x])->∀k:Value->ad->Prop,(∀me,Rg h0 me m (E++[(a,x)])->Kp [m] h' me->(∀tys,cF tys h' me)->k undef me)->
   dq (fun _=>Tryz.prog) (fun _=>do Instr.mapUpdate 402 (.map (some m)) (.int .i64 a) v';pure undef) h' k
theorem Bw{h:ad}{m nb cap e:Nat}{d:TypeDesc}{l:List (Value×Value)}{α:Type}{s:Sh α}{xs:List α}(q:Mp h m d l)(o:dI e s h nb cap xs):nb≠m:=fun he=>by
 obtain⟨es,clock,g,-⟩:=q.out;obtain⟨c,g',-⟩:=o.out;rw[he,g]at g';cases g'
theorem Rg.tk{h0 h:ad}{m:Nat}{E:List (Int×Int)}(q:Rg h0 h m E)(l0:Le h0 h)(KW:h0 m=none)(a:Int){k:Value->ad->Prop}(hk:∀b n c,Tk h0 h m E a (.slice b n c)->k (.slice b n c) h):
 dq (fun _=>Tryz.prog) (fun _=>Instr.lookup 402 (.map (some m)) (.int .i64 a) false) h k:=by
 obtain⟨G,g1,g2,g3,g4⟩:=q.out;have KY:=g1.Ki;by_cases ha:∃g∈G,g.a=a
 ·obtain⟨g,hg,rfl⟩:=ha;obtain⟨i,hi⟩:=List.getElem?_of_mem hg;obtain⟨kh,jR⟩:=List.getElem?_eq_some_iff.1 hi;refine uC Gi u3 g1 (key:=.int .i64 g.a) rfl (List.mem_map.2 ⟨g,hg,rfl⟩) (hk _ _ _ ⟨de h g.nb,?_,fJ h g.nb,?_,?_⟩)
  ·intro b o hb;have bW:b≠g.nb:=fun e=>by rw[e,(g3 g hg).1]at hb;cases hb
   unfold de;rw[if_neg bW];exact l0 b o hb
  ·exact(g3 g hg).2.buf (dX h g.nb) rfl
  ·intro h' v' x l' b' k' Fq;have bW:g.nb≠m:=Bw g1 (g3 g hg).2;have kp:=Ak l';have Iy:Mp h' m (.int .i64) _:=g1.kp kp (by simpa using Ne.symm bW);rcases b'.out with ⟨b0,e1,e2⟩ | ⟨nb,cap,e1,e2,o⟩
   ·have:=congrArg List.length e2;simp at this
   subst e1;have eW:(G.map fun g=>(Value.int .i64 g.a,Value.slice (some ⟨g.nb,0,none⟩) (cR E g.a).length g.cap))[i]? =some (.int .i64 g.a,.slice (some ⟨g.nb,0,none⟩) (cR E g.a).length g.cap):=by rw[List.getElem?_map,hi];rfl
   have US:∀j (g':XU),G[j]? =some g'->j≠i->g'.a≠g.a/\g'.nb≠g.nb:=fun j g' hj jQ=>by
    obtain⟨sw,Vg⟩:=List.getElem?_eq_some_iff.1 hj;constructor
    ·intro he;have p:=List.pairwise_iff_getElem.1 KY;rcases Nat.lt_or_gt_of_ne jQ with aK|aK
     ·have:=p j i (by simpa using sw) (by simpa using kh) aK;simp[Vg,jR,he]at this
     ·have:=p i j (by simpa using kh) (by simpa using sw) aK;simp[Vg,jR,he]at this
    ·intro he;have p:=List.pairwise_iff_getElem.1 g2;rcases Nat.lt_or_gt_of_ne jQ with aK|aK
     ·have:=p j i (by simpa using sw) (by simpa using kh) aK;simp[Vg,jR,he]at this
     ·have:=p i j (by simpa using kh) (by simpa using sw) aK;simp[Vg,jR,he]at this
   refine NV Gi u3 Iy (key:=.int .i64 g.a) rfl eW (fun me DA k2 t2=>Fq me ⟨G.set i ⟨g.a,nb,cap⟩,?_,?_,?_,?_⟩ k2 t2)
   ·have:(G.set i ⟨g.a,nb,cap⟩).map (fun(g':XU)=>(Value.int .i64 g'.a,Value.slice (some ⟨g'.nb,0,none⟩) (cR (E++[(g.a,x)]) g'.a).length g'.cap))=
     (G.map fun g=>(Value.int .i64 g.a,Value.slice (some ⟨g.nb,0,none⟩) (cR E g.a).length g.cap)).set i (.int .i64 g.a,.slice (some ⟨nb,0,none⟩) (cR E g.a++[x]).length cap):=by
     apply List.ext_getElem?;intro j;rw[List.getElem?_map,List.getElem?_set,List.getElem?_set,List.length_map,List.getElem?_map];by_cases jQ:i=j
     ·subst jQ;rw[if_pos rfl,if_pos rfl,if_pos kh];simp[o0,kh]
     ·rw[if_neg jQ,if_neg jQ];cases hj:G[j]? with
      |none=>rfl
      |some g'=>simp[ji (US j g' hj (Ne.symm jQ)).1]
    rw[this];exact DA
   ·rw[List.map_set];refine List.pairwise_iff_getElem.2 (fun p r hp hr OT=>?_);have vT:∀j (g':XU),G[j]? =some g'->j≠i->g'.nb≠nb:=fun j g' hj jQ e=>by
     rcases yG e2 with e3|e3
     ·exact(US j g' hj jQ).2 (e.trans e3)
     ·exact(g3 g' (List.mem_of_getElem? hj)).2.has (by rw[e];exact e3)
    simp only[List.length_set,List.length_map]at hp hr;rw[List.getElem_set,List.getElem_set];by_cases h1:i=p
    ·subst h1;rw[if_pos rfl,if_neg (by omega),List.getElem_map];exact Ne.symm (vT r G[r] (by simp[hr]) (by omega))
    ·rw[if_neg h1];by_cases h2:i=r
     ·subst h2;rw[if_pos rfl,List.getElem_map];exact vT p G[p] (by simp[hp]) (by omega)
     ·rw[if_neg h2];exact List.pairwise_iff_getElem.1 g2 p r (by simpa using hp) (by simpa using hr) OT
   ·intro g' Hn;obtain⟨j,hj⟩:=List.getElem?_of_mem Hn;rw[List.getElem?_set]at hj;by_cases jQ:i=j
    ·subst jQ;rw[if_pos rfl,if_pos kh]at hj;cases hj;refine⟨?_,?_⟩
     ·rcases yG e2 with e3|e3
      ·rw[e3];exact(g3 g hg).1
      ·exact l0.none e3
     ·rw[o0];exact o.kp k2 (by simpa using Bw Iy o) (t2 _)
    ·rw[if_neg jQ]at hj;obtain⟨f1,f2⟩:=US j g' hj (Ne.symm jQ);obtain⟨f3,f4⟩:=g3 g' (List.mem_of_getElem? hj);have o':=f4.kp kp (by simpa using f2) (fun _ _ _ _ hx=>by cases hx);refine⟨f3,?_⟩;rw[ji f1];exact o'.kp k2 (by simpa using Bw Iy o') (t2 _)
   ·intro c hc;by_cases Xy:c=g.a
    ·exact⟨⟨g.a,nb,cap⟩,List.mem_of_getElem? (i:=i) (by rw[List.getElem?_set,if_pos rfl,if_pos kh]),Xy.symm⟩
    ·rw[ji Xy]at hc;obtain⟨g',Hn,he⟩:=g4 c hc;obtain⟨j,hj⟩:=List.getElem?_of_mem Hn;have jQ:i≠j:=fun e=>by subst e;rw[hi]at hj;cases hj;exact Xy he.symm
     exact⟨g',List.mem_of_getElem? (i:=j) (by rw[List.getElem?_set,if_neg jQ];exact hj),he⟩
 ·have ZF:cR E a=[]:=Classical.byContradiction fun bW=>ha (g4 a bW);have Fp:∀p∈(G.map fun g=>(Value.int .i64 g.a,Value.slice (some ⟨g.nb,0,none⟩) (cR E g.a).length g.cap)),p.1≠.int .i64 a:=fun p hp e=>by
   obtain⟨g,hg,rfl⟩:=List.mem_map.1 hp;simp at e;exact ha ⟨g,hg,e⟩
  refine qV Gi u3 IE g1 (key:=.int .i64 a) rfl Fp (hk _ _ _ ⟨h,l0,Le.refl _,by rw[ZF];exact cX.nil,?_⟩);intro h' v' x l' b' k' Fq;have Iy:=g1.kp (l'.kp []) (by simp);rcases b'.out with ⟨b0,e1,e2⟩ | ⟨nb,cap,e1,e2,o⟩
  ·have:=congrArg List.length e2;simp at this
  subst e1;refine mR Gi u3 Iy (key:=.int .i64 a) rfl Fp (fun me DA k2 t2=>Fq me ⟨G++[⟨a,nb,cap⟩],?_,?_,?_,?_⟩ k2 t2)
  ·have:(G++[(⟨a,nb,cap⟩:XU)]).map (fun(g':XU)=>(Value.int .i64 g'.a,Value.slice (some ⟨g'.nb,0,none⟩) (cR (E++[(a,x)]) g'.a).length g'.cap))=
    (G.map fun g=>(Value.int .i64 g.a,Value.slice (some ⟨g.nb,0,none⟩) (cR E g.a).length g.cap))++[(.int .i64 a,.slice (some ⟨nb,0,none⟩) (cR E a++[x]).length cap)]:=by
    rw[List.map_append];congr 1
    ·refine List.map_congr_left (fun g hg=>?_);rw[ji (fun e=>ha ⟨g,hg,e⟩)]
    ·simp[o0]
   rw[this];exact DA
  ·rw[List.map_append];refine List.nodup_append.2 ⟨g2,by simp,?_⟩;intro p hp r hr e;simp at hr;obtain⟨g,hg,rfl⟩:=List.mem_map.1 hp;exact(g3 g hg).2.has (by rw[e,hr];exact e2)
  ·intro g' Hn;rcases List.mem_append.1 Hn with Hn|Hn
   ·obtain⟨f3,f4⟩:=g3 g' Hn;have o':=f4.mono (l'.t _);refine⟨f3,?_⟩;rw[ji (fun e=>ha ⟨g',Hn,e⟩)];exact o'.kp k2 (by simpa using Bw Iy o') (t2 _)
   ·simp at Hn;subst Hn;refine⟨l0.none e2,?_⟩;rw[o0];exact o.kp k2 (by simpa using Bw Iy o) (t2 _)
  ·intro c hc;by_cases Xy:c=a
   ·exact⟨⟨a,nb,cap⟩,by simp,Xy.symm⟩
   ·rw[ji Xy]at hc;obtain⟨g',Hn,he⟩:=g4 c hc;exact⟨g',by simp[Hn],he⟩
theorem En{H W:List bZ}{i:Nat}{w:bZ}(h:W[i]? =some w):cI H (W.take (i+1))=cI H (W.take i)++fE w H:=by unfold cI;rw[List.take_add_one,h];simp
theorem Eo{w o:bZ}{H:List bZ}{j:Nat}(h:H[j]? =some o)(ha:fY w o=true):fE w (H.take (j+1))=fE w (H.take j)++[(w.s,o.s)]:=by unfold fE;rw[List.take_add_one,h,List.filter_append];simp[ha]
theorem Ci{w o:bZ}{H:List bZ}{j:Nat}(h:H[j]? =some o)(ha:fY w o=false):fE w (H.take (j+1))=fE w (H.take j):=by unfold fE;rw[List.take_add_one,h,List.filter_append];simp[ha]
theorem wD(w:bZ)(H:List bZ):(fE w H).length<=H.length:=by unfold fE;rw[List.length_map];exact List.length_filter_le _ _
theorem yN(H W:List bZ):(cI H W).length<=W.length*H.length:=by
 induction W with
 |nil=>simp[cI]
 |cons w r ih=>
  have:cI H (w::r)=fE w H++cI H r:=by simp[cI]
  rw[this,List.length_append,List.length_cons,Nat.succ_mul];have:=wD w H;omega
theorem x9{a b:Nat}(ha:a<=2^18)(hb:b<=2^18):a*b<=2^36:=by
 have:=Nat.mul_le_mul ha hb;have e:(2:Nat)^18*2^18=2^36:=by decide
 omega
theorem Jt{H W:List bZ}{h:ad}{b1 b2:Option Addr}{n1 c1 n2 c2:Nat}(q1:Sl 205 bL h (.slice b1 n1 c1) H)(q2:Sl 205 bL h (.slice b2 n2 c2) W)(ma:n1<=2^18)(nN:n2<=2^18):
 Ct 309 [.agg #[.slice b1 n1 c1,.slice b2 n2 c2]] h (fun v h'=>Le h h'/\∃rb m,v=.pointer (some ⟨rb,0,none⟩)/\h rb=none/\h m=none/\h' rb=some (.cells #[.map (some m),.int .i64 0] 407 (0,0))/\Rg h h' m (cI H W)):=by
 obtain⟨A,hA⟩:=Ar.ex;have AO:=q1.len;have tO:=q2.len;have hE:∀i,(cI H (W.take i)).length<=2^36:=fun i=>by
  have:=yN H (W.take i);have h2:(W.take i).length<=2^18:=by rw[List.length_take];omega
  have:=x9 h2 (show H.length<=2^18 by omega);omega
 refine ah A (ar T309.aA T309.bm) Tryz.func309 rfl (by kernel_rfl) ?_;cbv;intro m h1 hm e1;have l1:Le h h1:=by rw[e1];exact Le.set hm
 have g1:=(congrFun e1 m).trans af;cbv;intro rb h2 Fk e2;have l2:Le h1 h2:=by rw[e2];exact Le.set Fk
 have gr:=(congrFun e2 rb).trans af;have gm:=l2 _ _ g1;have ko:=l1.trans l2;have rg0:Rg h h2 m (cI H (W.take 0)):=⟨[],Mp.new gm,by simp,by simp,fun a ha=>absurd rfl ha⟩;cbv;refine aX.go (G:=Int) (fun z=>[(14,.v (.int .i64 z))]) (fun _=>[(1,[.slice b1 n1 c1,.slice b2 n2 c2])])
  (fun k z h'=>∃i:Nat,aS z i/\k=n2-i/\i<=n2/\Le h h'/\h' rb=some (.cells #[.map (some m),.int .i64 0] 407 (0,0))/\Rg h h' m (cI H (W.take i))) n2 0 ⟨?_,?_,?_⟩ ⟨0,⟨rfl⟩,by omega,by omega,ko,gr,rg0⟩ ?_
 ·cbv
 ·cbv
 ·cbv
 ·intro k z h' hI;cbv;obtain⟨i,hz,hk,hi,hle,Fw,rg⟩:=hI;refine aQ (fun hc=>?_) (fun hc=>?_)
  ·have aK:=hz.lt hc;clear hc;cbv;obtain⟨w,hw⟩:=aI (xs:=W) (i:=i) (by omega);refine⟨⟨q2.bu (by omega),hz.ix aK⟩,?_⟩;cbv;refine(q2.mono (hle.t _)).load hw hz.eq (fun cs aC=>?_);have aC:cs=[.int .i64 w.s,.string w.table,.bool w.x]:=aC;subst aC;have hEi:=En (H:=H) hw;have hEl:=hE (i+1);rw[hEi]at hEl;have rg0:Rg h h' m (cI H (W.take i)++fE w (H.take 0)):=by simpa[fE]using rg
   cbv;refine aX.go (G:=Int) (fun z=>[(21,.v (.int .i64 z))]) (fun _=>[(5,[.int .i64 w.s,.string w.table,.bool w.x]),(1,[.slice b1 n1 c1,.slice b2 n2 c2])])
    (fun k z h'=>∃j:Nat,aS z j/\k=n1-j/\j<=n1/\Le h h'/\h' rb=some (.cells #[.map (some m),.int .i64 0] 407 (0,0))/\Rg h h' m (cI H (W.take i)++fE w (H.take j))) n1 0 ⟨?_,?_,?_⟩ ⟨0,⟨rfl⟩,by omega,by omega,hle,Fw,rg0⟩ ?_
   ·cbv
   ·cbv
   ·cbv
   ·intro k2 z2 h3 hI;cbv;obtain⟨j,fN,nh,hj,Vc,VL,Yg⟩:=hI;refine aQ (fun hc=>?_) (fun hc=>?_)
    ·have gQ:=fN.lt hc;clear hc;cbv;obtain⟨o,ho⟩:=aI (xs:=H) (i:=j) (by omega);refine⟨⟨q1.bu (by omega),fN.ix gQ⟩,?_⟩;cbv;refine(q1.mono (Vc.t _)).load ho fN.eq (fun cs aC=>?_);have aC:cs=[.int .i64 o.s,.string o.table,.bool o.x]:=aC;subst aC;cbv;refine(wV (a:=w) (b:=o)).mono (fun v h4 hR=>?_);obtain⟨l4,t,rfl,et⟩:=hR;have CS:=l4 _ _ VL;have QE:=Yg.kp (l4.kp []) (by simp) (by simp);have Ty:=Vc.trans l4;cases t with
     |true=>
      have hEh:=Eo ho et.symm;have hEb:(cI H (W.take i)++fE w (H.take j)).length<=2^38:=by have:=wD w (H.take j);have h5:=hE i;rw[List.length_take]at this;rw[List.length_append];omega
      cbv;rw[ai A];refine av CS rfl rfl ?_;cbv;rw[ai A];refine av CS rfl rfl ?_;cbv;refine⟨?_,?_⟩
      ·refine QE.tk Ty hm w.s (fun bb nn cc tk=>?_);obtain⟨hb,t1,t2,t3,t4⟩:=tk.out;have um:nn<=2^38:=by have:=t3.sl.len;have:=A9 (cI H (W.take i)++fE w (H.take j)) w.s;omega
       cbv;refine av CS rfl rfl ?_;cbv;refine⟨⟨_,rfl,rfl⟩,?_⟩;cbv;intro tG h5 oL e5;have l5:Le h4 h5:=by rw[e5];exact Le.set oL
       have g5:=(congrFun e5 tG).trans af;have Iv:=l5 _ _ CS;cbv;refine av Iv rfl rfl ?_;cbv;refine⟨⟨_,rfl,rfl⟩,?_⟩;cbv;refine(t3.mono (l5.t _)).append (bU (s:=dR) g5 (x:=o.s) rfl) (by decide) rfl (by decide) (by omega) (t2.trans l5) (fun mm b' c' h6 D4 l6 t6 k6 hb6=>?_);have VK:=t6 [407] (by decide) _ _ _ _ (by decide) Iv;cbv;refine av VK rfl rfl ?_;cbv;refine⟨⟨_,rfl,rfl⟩,?_⟩;cbv;refine t4 h6 _ o.s l6 hb6 _ (fun h7 Yf k7 t7=>?_);have l7:Le h h7:=(t1.trans l6).df (by simpa using hm) k7;have gr7:=t7 [407] _ _ _ _ (by decide) VK;rw[List.append_assoc,<-hEh]at Yf;cbv;refine⟨n1-(j+1),_,by omega,⟨?_,?_,?_⟩,j+1,fN.succ (A:=A) (by omega),rfl,by omega,l7,gr7,Yf⟩
       ·cbv
       ·cbv
       ·cbv
      ·intro tG h5 oL e5;have l5:Le h4 h5:=by rw[e5];exact Le.set oL
       have g5:=(congrFun e5 tG).trans af;have Iv:=l5 _ _ CS;have rg5:=QE.kp (l5.kp []) (by simp) (by simp);cbv;refine av Iv rfl rfl ?_;cbv;refine⟨⟨_,rfl,rfl⟩,?_⟩;cbv;refine av Iv rfl rfl ?_;cbv;refine⟨⟨_,rfl,rfl⟩,?_⟩;cbv;refine rg5.tk (Ty.trans l5) hm w.s (fun bb nn cc tk=>?_);obtain⟨hb,t1,t2,t3,t4⟩:=tk.out;have um:nn<=2^38:=by have:=t3.sl.len;have:=A9 (cI H (W.take i)++fE w (H.take j)) w.s;omega
       cbv;refine av Iv rfl rfl ?_;cbv;refine⟨⟨_,rfl,rfl⟩,?_⟩;cbv;refine(t3).append (bU (s:=dR) g5 (x:=o.s) rfl) (by decide) rfl (by decide) (by omega) t2 (fun mm b' c' h6 D4 l6 t6 k6 hb6=>?_);have VK:=t6 [407] (by decide) _ _ _ _ (by decide) Iv;cbv;refine av VK rfl rfl ?_;cbv;refine⟨⟨_,rfl,rfl⟩,?_⟩;cbv;refine t4 h6 _ o.s l6 hb6 _ (fun h7 Yf k7 t7=>?_);have l7:Le h h7:=(t1.trans l6).df (by simpa using hm) k7;have gr7:=t7 [407] _ _ _ _ (by decide) VK;rw[List.append_assoc,<-hEh]at Yf;cbv;refine⟨n1-(j+1),_,by omega,⟨?_,?_,?_⟩,j+1,fN.succ (A:=A) (by omega),rfl,by omega,l7,gr7,Yf⟩
       ·cbv
       ·cbv
       ·cbv
     |false=>
      have hEh:=Ci ho et.symm;cbv;refine⟨n1-(j+1),_,by omega,⟨?_,?_,?_⟩,j+1,fN.succ (A:=A) (by omega),rfl,by omega,Ty,CS,?_⟩
      ·cbv
      ·cbv
      ·cbv
      ·rw[hEh];exact QE
    ·have iR:=fN.ge hc;rw[show H.take j=H from List.take_of_length_le (by omega),<-hEi]at Yg;cbv;refine⟨n2-(i+1),_,by omega,⟨?_,?_,?_⟩,i+1,hz.succ (A:=A) (by omega),rfl,by omega,Vc,VL,Yg⟩
     ·cbv
     ·cbv
     ·cbv
  ·have iR:=hz.ge hc;rw[List.take_of_length_le (by omega)]at rg;cbv;exact⟨hle,rb,m,rfl,l1.none Fk,hm,Fw,rg⟩
def fX(st:List Int×List Int)(k:Int):List Int×List Int:=if decide (k∈st.1)=true then st else(st.1++[k],st.2++[k])
def XR(E:List (Int×Int)):Nat->List Int×List Int->List Int
 |0,st=>st.1
 |n+1,st=>match st.2 with
  | []=>st.1
  |a::r=>XR E n ((cR E a).foldl fX (st.1,r))
def over(E:List (Int×Int))(s:Int):List Int:=XR E (E.length+2) ([],[s])
def yi(E:List (Int×Int))(seen:List Int):Nat:=(E.filter fun p=> !decide (p.2∈seen)).length
theorem Bm(seen:List Int)(y:Int):∀L:List (Int×Int),yi L (seen++[y])<=yi L seen
 | []=>Nat.le_refl _
 |e::r=>by
  have ih:=Bm seen y r;unfold yi at ih |-;by_cases h1:e.2∈seen
  ·have h2:e.2∈seen++[y]:=by simp[h1]
   rw[List.filter_cons_of_neg (by rw[decide_eq_true h2];simp),List.filter_cons_of_neg (by rw[decide_eq_true h1];simp)];exact ih
  ·rw[List.filter_cons_of_pos (p:=fun p:Int×Int=> !decide (p.2∈seen)) (by rw[decide_eq_false h1];simp)];by_cases h2:e.2∈seen++[y]
   ·rw[List.filter_cons_of_neg (by rw[decide_eq_true h2];simp),List.length_cons];omega
   ·rw[List.filter_cons_of_pos (by rw[decide_eq_false h2];simp),List.length_cons,List.length_cons];omega
theorem JD(seen:List Int)(x y:Int)(hk:y∉seen):∀L:List (Int×Int),(x,y)∈L->yi L (seen++[y])+1<=yi L seen
 | [],h=>by cases h
 |e::r,h=>by
  by_cases he:e=(x,y)
  ·subst he;have hmon:=Bm seen y r;unfold yi at hmon |-;rw[List.filter_cons_of_neg (by simp),List.filter_cons_of_pos (p:=fun p:Int×Int=> !decide (p.2∈seen)) (by simpa using hk),List.length_cons];omega
  ·have hr:(x,y)∈r:=by
    rcases List.mem_cons.1 h with h|h
    ·exact absurd h.symm he
    ·exact h
   have ih:=JD seen x y hk r hr;unfold yi at ih |-;by_cases h1:e.2∈seen
   ·have h2:e.2∈seen++[y]:=by simp[h1]
    rw[List.filter_cons_of_neg (by rw[decide_eq_true h2];simp),List.filter_cons_of_neg (by rw[decide_eq_true h1];simp)];exact ih
   ·rw[List.filter_cons_of_pos (p:=fun p:Int×Int=> !decide (p.2∈seen)) (by rw[decide_eq_false h1];simp)];by_cases h2:e.2∈seen++[y]
    ·rw[List.filter_cons_of_neg (by rw[decide_eq_true h2];simp),List.length_cons];omega
    ·rw[List.filter_cons_of_pos (by rw[decide_eq_false h2];simp),List.length_cons,List.length_cons];omega
theorem N7{E:List (Int×Int)}{seen:List Int}{k:Int}(hk:k∉seen){a:Int}(hE:k∈cR E a):yi E (seen++[k])+1<=yi E seen:=by unfold cR at hE;obtain⟨⟨x,y⟩,hm,rfl⟩:=List.mem_map.1 hE;exact JD seen x y hk E (List.mem_filter.1 hm).1
theorem Wa:jP Tryz.prog 344 Tryz.f344:=⟨Tryz.func344,by kernel_rfl,by kernel_rfl,by kernel_rfl⟩
theorem WV{h:ad}{b o:Nat}{x:Int}(q:mM h ⟨b,o,none⟩ (.int .i64 x)):Ct 327 [.pointer (some ⟨b,o,none⟩),.int .i64 1] h (fun v h'=>∃z y,v=.int .i64 z/\Up h b o (.int .i64 y) h'):=by obtain⟨A,hA⟩:=Ar.ex;refine ah A (ar T327.aA T327.bm) Tryz.func327 rfl (by kernel_rfl) ?_;cbv;rw[ai A];refine FC Wa (by kernel_rfl) q (fun c e h1 e1 e2=>?_);have hu:Up h b o (.int .i64 _) h1:=⟨c,e,e1,e2⟩;generalize IntKind.i64.wrap (x+1)=y at *;cbv;exact⟨_,y,rfl,hu⟩
theorem Rg.YI{h0 h h':ad}{m rb:Nat}{E:List (Int×Int)}{cs:List Value}(q:Rg h0 h m E)(gr:h rb=some (.cells (List.toArray cs) 407 (0,0)))(kp:Kp [rb] h h')(a:Int){k:Value->ad->Prop}(hk:∀b n c,Sl 3 dR h (.slice b n c) (cR E a)->k (.slice b n c) h'):
 dq (fun _=>Tryz.prog) (fun _=>Instr.lookup 402 (.map (some m)) (.int .i64 a) false) h' k:=by
 obtain⟨G,g1,g2,g3,g4⟩:=q.out;have hm:m∉[rb]:=by intro e;simp at e;obtain⟨es,clock,g,-⟩:=g1.out;rw[e,gr]at g;cases g
 have Iy:=g1.kp kp hm;by_cases ha:∃g∈G,g.a=a
 ·obtain⟨g,hg,rfl⟩:=ha;exact uC Gi u3 Iy (key:=.int .i64 g.a) rfl (List.mem_map.2 ⟨g,hg,rfl⟩) (hk _ _ _ ((g3 g hg).2.sl rfl))
 ·refine qV Gi u3 IE Iy (key:=.int .i64 a) rfl (fun p hp e=>?_) (hk _ _ _ ?_)
  ·obtain⟨g,hg,rfl⟩:=List.mem_map.1 hp;simp at e;exact ha ⟨g,hg,e⟩
  ·have:cR E a=[]:=Classical.byContradiction fun bW=>ha (g4 a bW);rw[this];exact Sl.nil
abbrev sJ(l:List Int):List (Value×Value):=l.map fun k=>(.int .i64 k,.bool true)
theorem Bg{l:List Int}{k:Int}:(Value.int .i64 k,Value.bool true)∈sJ l↔k∈l:=by simp[sJ]
theorem zO{h:ad}{m:Nat}{l:List Int}(q:Mp h m (.int .i64) (sJ l))(a:Int){k:Value->ad->Prop}(hk:∀t,t=decide (a∈l)->k (.bool t) h):
 dq (fun _=>Tryz.prog) (fun _=>Instr.lookup 391 (.map (some m)) (.int .i64 a) false) h k:=by
 by_cases ha:a∈l
 ·exact uC NH u3 q (key:=.int .i64 a) rfl (Bg.2 ha) (hk true (by simp[ha]))
 ·refine qV NH u3 Qx q (key:=.int .i64 a) rfl (fun p hp e=>?_) (hk false (by simp[ha]));obtain⟨k,hk,rfl⟩:=List.mem_map.1 hp;simp at e;exact ha (e ▸ hk)
theorem S2{h:ad}{m:Nat}{l:List Int}(q:Mp h m (.int .i64) (sJ l)){a:Int}(ha:a∉l){k:Value->ad->Prop}(hK:∀h',Mp h' m (.int .i64) (sJ (l++[a]))->Kp [m] h h'->(∀tys,cF tys h h')->k undef h'):
 dq (fun _=>Tryz.prog) (fun _=>do Instr.mapUpdate 391 (.map (some m)) (.int .i64 a) (.bool true);pure undef) h k:=by
 refine mR NH u3 q (key:=.int .i64 a) rfl (fun p hp e=>?_) (fun h' mp k' t'=>hK h' ?_ k' t')
 ·obtain⟨k,hk,rfl⟩:=List.mem_map.1 hp;simp at e;exact ha (e ▸ hk)
 ·simpa[sJ]using mp
theorem Aw{h:ad}{rb m:Nat}{c:List Value}{d:TypeDesc}{l:List (Value×Value)}{e:Nat}(g:h rb=some (.cells (List.toArray c) e (0,0)))(q:Mp h m d l):m≠rb:=fun he=>by
 obtain⟨es,clock,g',-⟩:=q.out;rw[he,g]at g';cases g'
theorem Mp.obj{h h':ad}{m:Nat}{d:TypeDesc}{l:List (Value×Value)}{e:Nat}(q:Mp h m d l)(k:∀j o,h j=some o->(∀c fr,o≠.cells c e fr)->h' j=some o):Mp h' m d l:=by obtain⟨es,clock,g,g2⟩:=q.out;exact⟨es,clock,k _ _ g (fun c fr e=>by cases e),g2⟩
theorem E0{h0 h:ad}{rb mr:Nat}{x:Int}{E:List (Int×Int)}(gr:h rb=some (.cells #[.map (some mr),.int .i64 x] 407 (0,0)))(rg:Rg h0 h mr E)(hE:E.length<=2^37)(s:Int):
 Ct 310 [.pointer (some ⟨rb,0,none⟩),.int .i64 s] h (fun v h'=>Kp [rb] h h'/\∃m x',v=.map (some m)/\h m=none/\h' rb=some (.cells #[.map (some mr),.int .i64 x'] 407 (0,0))/\Mp h' m (.int .i64) (sJ (over E s))):=by
 obtain⟨A,hA⟩:=Ar.ex;have Fk:de h rb rb=none:=dX h rb;refine ah A (ar T310.aA T310.bm) Tryz.func310 rfl (by kernel_rfl) ?_;cbv;intro m h1 hm e1;have l1:Le h h1:=by rw[e1];exact Le.set hm
 have g1:=(congrFun e1 m).trans af;have mp1:Mp h1 m (.int .i64) (sJ []):=Mp.new g1;cbv;intro nb h2 fk e2;have l2:Le h1 h2:=by rw[e2];exact Le.set fk
 have g2:=(congrFun e2 nb).trans af;have ko:=l1.trans l2;have gr2:=ko _ _ gr;have DA:=mp1.kp (l2.kp []) (by simp);have xh:Le (de h rb) h2:=(fJ h rb).trans ko;have hnb0:de h rb nb=none:=((fJ h rb).trans l1).none fk;have jS:nR 3 dR (de h rb) h2 (.slice (some ⟨nb,0,none⟩) 1 1) [s] 1:=
  ((Oc (s:=dR) g2 (x:=s) rfl).buf hnb0 rfl).t (by simp)
 have Zu:yi E []=E.length:=by simp[yi]
 cbv;refine aX.go (G:=Option Addr×Nat×Nat) (fun g=>[(6,.v (.slice g.1 g.2.1 g.2.2))]) (fun _=>[])
  (fun k g h'=>∃seen todo n p x',Kp [rb] h h'/\h' rb=some (.cells #[.map (some mr),.int .i64 x'] 407 (0,0))/\Mp h' m (.int .i64) (sJ seen)/\nR 3 dR (de h rb) h' (.slice g.1 g.2.1 g.2.2) todo p/\
   k=yi E seen+todo.length/\k<=n/\XR E n (seen,todo)=over E s/\p+yi E seen<=E.length+1/\todo.length<=p) (E.length+1) (some ⟨nb,0,none⟩,1,1) ⟨?_,?_,?_⟩ ⟨[],[s],E.length+2,1,x,Ak xh,gr2,DA,jS,by rw[Zu];rfl,by omega,rfl,by rw[Zu];omega,by simp⟩ ?_
 ·cbv
 ·cbv
 ·cbv
 ·intro k g h' hI;cbv;obtain⟨seen,todo,n,p,x',kp,Fw,mp,hb,hk,KY,Z3,hp,htp⟩:=hI;obtain⟨gb,gl,gc⟩:=g;have hb:nR 3 dR (de h rb) h' (.slice gb gl gc) todo p:=hb;have Aj:gl=todo.length:=hb.sl.len;generalize Wj:A .aG .gtr (A .nat gl) 0=u;have fgt:=Wj;rw[bJ A,hA.nat]at Wj;simp only[Int.ofNat_eq_natCast]at Wj;have hu:u=true->0<gl:=fun e=>by rw[e]at Wj;have:=of_decide_eq_true Wj;omega
  have Ih:u=false->gl=0:=fun e=>by rw[e]at Wj;have:=of_decide_eq_false Wj;omega
  cases u with
  |false=>
   have h0:=Ih rfl;have ht:todo=[]:=List.eq_nil_of_length_eq_zero (by omega);subst ht;have MU:over E s=seen:=by rw[<-Z3];cases n<;>rfl
   cbv;exact⟨kp,m,x',rfl,hm,Fw,by rw[MU];exact mp⟩
  |true=>
   have h0:=hu rfl;cases todo with
   |nil=>simp at Aj;omega
   |cons a r=>
    cbv;rw[ai A];refine(WV (iW Fw rfl)).mono (fun v h3 hR=>?_);obtain⟨z,y,rfl,hup⟩:=hR;have e3:=hup.exp Fw;have VL:h3 rb=some (.cells #[.map (some mr),.int .i64 y] 407 (0,0)):=(congrFun e3 rb).trans af;have hcr:=Aw Fw mp;have k3:Kp [rb] h' h3:=by rw[e3];exact Kp.set (by simp)
    have t3:cF [3] h' h3:=by rw[e3];exact cF.set Fw (by decide)
    have kp3:=kp.trans k3;have Tr:=mp.kp k3 (by simpa using hcr);have nP:=hb.mono t3;have cU:gb.isSome=true/\(0:Int)<=0/\(0:Int)<(gl:Int):=⟨nP.sl.bu (by omega),by omega,by omega⟩;cbv;rw[ai A];refine av VL rfl rfl ?_;cbv;refine⟨cU,?_⟩;cbv;refine nP.sl.load (i:=0) (x:=a) rfl (n:=0) rfl (fun cs aC=>?_);have aC:cs=[.int .i64 a]:=aC;subst aC;cbv;refine rg.YI gr kp3 a (fun bb nn cc qs=>?_);have um:nn=(cR E a).length:=qs.len;have hnb40:=qs.bound;obtain⟨n',Hh⟩:∃n',n=n'+1:=⟨n-1,by simp at hk;omega⟩;subst Hh;have Rw:XR E n' ((cR E a).foldl fX (seen,r))=over E s:=Z3;simp only[List.length_cons]at hk htp;cbv;refine aX.go (G:=Int×Option Addr×Nat×Nat) (fun g=>[(30,.v (.int .i64 g.1)),(6,.v (.slice g.2.1 g.2.2.1 g.2.2.2))]) (fun _=>[])
     (fun k2 g h4=>∃j p,aS g.1 j/\k2=nn-j/\j<=nn/\Kp [rb] h h4/\h4 rb=some (.cells #[.map (some mr),.int .i64 y] 407 (0,0))/\Mp h4 m (.int .i64) (sJ (((cR E a).take j).foldl fX (seen,r)).1)/\
      nR 3 dR (de h rb) h4 (.slice g.2.1 g.2.2.1 g.2.2.2) (a::(((cR E a).take j).foldl fX (seen,r)).2) p/\
      yi E (((cR E a).take j).foldl fX (seen,r)).1+(((cR E a).take j).foldl fX (seen,r)).2.length<=yi E seen+r.length/\
      p+yi E (((cR E a).take j).foldl fX (seen,r)).1<=E.length+1/\(((cR E a).take j).foldl fX (seen,r)).2.length+1<=p) nn (0,gb,gl,gc) ⟨?_,?_,?_⟩
      ⟨0,p,⟨rfl⟩,by omega,by omega,kp3,VL,Tr,nP,Nat.le_refl _,hp,htp⟩ ?_
    ·cbv
    ·cbv
    ·cbv
    ·intro k2 g h4 hI;cbv;obtain⟨j,p4,hz,nh,hj,TD,CS,GN,Pa,hM,Zx,htp4⟩:=hI;obtain⟨z4,Pw,gl4,gc4⟩:=g;have hz:aS z4 j:=hz;generalize est:((cR E a).take j).foldl fX (seen,r)=st at *;have Pa:nR 3 dR (de h rb) h4 (.slice Pw gl4 gc4) (a::st.2) p4:=Pa;have hgl4:gl4=st.2.length+1:=Pa.sl.len;refine aQ (fun hc=>?_) (fun hc=>?_)
     ·have aK:=hz.lt hc;clear hc;obtain⟨w,hw⟩:=aI (xs:=cR E a) (i:=j) (by omega);have nH:w∈cR E a:=List.mem_of_getElem? hw;have BT:((cR E a).take (j+1)).foldl fX (seen,r)=fX st w:=by rw[List.take_add_one,hw,List.foldl_append,est];rfl
      cbv;refine⟨⟨qs.bu (by omega),hz.ix aK⟩,?_⟩;cbv;refine(qs.mono (Kp.YN TD gr (by decide))).load hw hz.eq (fun cs aC=>?_);have aC:cs=[.int .i64 w]:=aC;subst aC;cbv;refine zO GN w (fun t ht=>?_);cases t with
      |true=>
       have gB:A .not true=false:=by rw[hA.not];rfl
       have rJ:fX st w=st:=by unfold fX;rw[<-ht];rfl
       cbv;rw[gB];cbv;refine⟨nn-(j+1),(_,Pw,gl4,gc4),by omega,⟨?_,?_,?_⟩,j+1,p4,hz.succ (A:=A) (by omega),rfl,by omega,TD,CS,?_⟩
       ·cbv
       ·cbv
       ·cbv
       ·rw[BT,rJ];exact⟨GN,Pa,hM,Zx,htp4⟩
      |false=>
       have gB:A .not false=true:=by rw[hA.not];rfl
       have Ik:w∉st.1:=of_decide_eq_false ht.symm;have rJ:fX st w=(st.1++[w],st.2++[w]):=by unfold fX;rw[<-ht];rfl
       have MT:=N7 Ik nH;cbv;rw[gB];cbv;refine S2 GN Ik (fun h5 Xc k5 t5=>?_);have hmr:=Aw CS GN;have Iv:=t5 [407] _ _ _ _ (by decide) CS;have zU:Kp [rb] h h5:=fun b o sA BY=>by
        have:=TD b o sA BY;refine k5 b o this ?_;intro e;simp at e;rw[e,hm]at sA;cases sA
       have tU:=Pa.mono (t5 _);cbv;intro MF h6 D3 e6;have l6:Le h5 h6:=by rw[e6];exact Le.set D3
       have g6:=(congrFun e6 MF).trans af;have VK:=l6 _ _ Iv;have mp6:=Xc.kp (l6.kp []) (by simp);have MO:=zU.trans (l6.kp _);have Rh:Le (de h rb) h6:=fun b o sA=>by
        unfold de at sA;split at sA
        ·cases sA
        ·rename_i bW;exact MO b o sA (by simpa using bW)
       cbv;refine(tU.mono (l6.t _)).append (bU (s:=dR) g6 (x:=w) rfl) (by decide) rfl (by decide) (by omega) (by omega) (by omega) Rh (fun mm b' c' h7 D4 l7 t7 CR k7=>?_);have gr7:=t7 [407] (by decide) _ _ _ _ (by decide) VK;have Tq:=Mp.obj mp6 k7;have MN:Kp [rb] h h7:=Ak l7;cbv;refine⟨nn-(j+1),(_,b',mm,c'),by omega,⟨?_,?_,?_⟩,j+1,p4+1,hz.succ (A:=A) (by omega),rfl,by omega,MN,gr7,?_⟩
       ·cbv
       ·cbv
       ·cbv
       ·rw[BT,rJ];refine⟨Tq,by simpa using CR,?_,?_,?_⟩
        ·simp only[List.length_append,List.length_singleton];omega
        ·simp only;omega
        ·simp only[List.length_append,List.length_singleton];omega
     ·have iR:=hz.ge hc;have hjn:j=nn:=by omega
      rw[show(cR E a).take j=cR E a from List.take_of_length_le (by omega)]at est;have Iu:aS (1:Int) 1:=⟨rfl⟩;have rI:(0:Int)<=1/\(1:Int)<=(gl4:Int):=by omega
      have Zh:=Pa.tail (A:=A) Iu (eO (A:=A) (n:=gl4) Iu) (eO (A:=A) (n:=gc4) Iu);rw[est]at Rw;cbv;refine⟨rI,?_⟩;cbv;refine⟨yi E st.1+st.2.length,(_,_,_),by omega,⟨?_,?_,?_⟩,st.1,st.2,n',p4,y,TD,CS,GN,Zh,rfl,by omega,Rw,Zx,by omega⟩
      ·cbv;exact⟨rfl,True.intro⟩
      ·cbv
      ·cbv
structure WW(E:List (Int×Int))(s v:Int)(t:Bool):Prop where
 out:(t=false/\v=0/\s∉over E s)\/(t=true/\s∈over E s/\s<=v/\(v=s\/(v∈over E s/\s∈over E v))/\∀k∈over E s,s∈over E k->k<=v)
theorem WW.det{E:List (Int×Int)}{s v v':Int}{t t':Bool}(a:WW E s v t)(b:WW E s v' t'):v=v'/\t=t':=by
 rcases a.out with ⟨a1,a2,a3⟩ | ⟨a1,a2,a3,a4,a5⟩
 ·rcases b.out with ⟨b1,b2,b3⟩ | ⟨b1,b2,b3,b4,b5⟩
  ·exact⟨by rw[a2,b2],by rw[a1,b1]⟩
  ·exact absurd b2 a3
 ·rcases b.out with ⟨b1,b2,b3⟩ | ⟨b1,b2,b3,b4,b5⟩
  ·exact absurd a2 b3
  ·refine⟨?_,by rw[a1,b1]⟩;have h1:v<=v':=by
    rcases a4 with rfl| ⟨h1,h2⟩
    ·exact b3
    ·exact b5 v h1 h2
   have h2:v'<=v:=by
    rcases b4 with rfl| ⟨h1,h2⟩
    ·exact a3
    ·exact a5 v' h1 h2
   omega
def nZ(E:List (Int×Int))(s:Int)(l:List Int)(m:Int):Int:=l.foldl (fun m k=>if decide (k>m)&&decide (s∈over E k)then k else m) m
def dt(E:List (Int×Int))(s:Int):Int×Bool:=if decide (s∈over E s)=true then(nZ E s (over E s) s,true)else(0,false)
theorem nY(E:List (Int×Int))(s:Int):∀(l:List Int) (m:Int),m<=nZ E s l m/\(nZ E s l m=m\/(nZ E s l m∈l/\s∈over E (nZ E s l m)))/\∀k∈l,s∈over E k->k<=nZ E s l m
 | [],m=>⟨Int.le_refl _,.inl rfl,fun k hk=>by cases hk⟩
 |x::r,m=>by
  have e:nZ E s (x::r) m=nZ E s r (if decide (x>m)&&decide (s∈over E x)then x else m):=rfl;rw[e];by_cases hc:(decide (x>m)&&decide (s∈over E x))=true
  ·rw[if_pos hc];simp at hc;obtain⟨h1,h2,h3⟩:=nY E s r x;refine⟨by omega,?_,fun k hk hs=>?_⟩
   ·rcases h2 with h2| ⟨h2,h2'⟩
    ·right;rw[h2];exact⟨by simp,hc.2⟩
    ·right;exact⟨by simp[h2],h2'⟩
   ·rcases List.mem_cons.1 hk with rfl|hk
    ·exact h1
    ·exact h3 k hk hs
  ·rw[if_neg hc];simp at hc;obtain⟨h1,h2,h3⟩:=nY E s r m;refine⟨h1,?_,fun k hk hs=>?_⟩
   ·rcases h2 with h2| ⟨h2,h2'⟩
    ·exact .inl h2
    ·right;exact⟨by simp[h2],h2'⟩
   ·rcases List.mem_cons.1 hk with rfl|hk
    ·rcases Int.lt_or_le m k with aK|hle
     ·exact absurd hs (hc aK)
     ·omega
    ·exact h3 k hk hs
theorem mO(E:List (Int×Int))(s:Int):WW E s (dt E s).1 (dt E s).2:=by
 constructor;unfold dt;by_cases h:s∈over E s
 ·rw[if_pos (by simpa using h)];obtain⟨h1,h2,h3⟩:=nY E s (over E s) s;exact .inr ⟨rfl,h,h1,h2,h3⟩
 ·rw[if_neg (by simpa using h)];exact .inl ⟨rfl,rfl,h⟩
theorem WW.eq{E:List (Int×Int)}{s v:Int}{t:Bool}(a:WW E s v t):v=(dt E s).1/\t=(dt E s).2:=a.det (mO E s)
theorem Rg.gen{h0 h h':ad}{m:Nat}{E:List (Int×Int)}(q:Rg h0 h m E){bs:List Nat}(k:Kp bs h h')(hm:m∉bs)(t:cF [3] h h'):Rg h0 h' m E:=by obtain⟨G,g1,g2,g3,g4⟩:=q.out;exact⟨G,g1.kp k hm,g2,fun g hg=>⟨(g3 g hg).1,(g3 g hg).2.mono t⟩,g4⟩
theorem Rg.map{h0 h:ad}{m:Nat}{E:List (Int×Int)}(q:Rg h0 h m E):∃l,Mp h m (.int .i64) l:=by obtain⟨G,g1,-⟩:=q.out;exact⟨_,g1⟩
theorem Gc{H W:List bZ}{h:ad}{b1 b2:Option Addr}{n1 c1 n2 c2:Nat}(q1:Sl 205 bL h (.slice b1 n1 c1) H)(q2:Sl 205 bL h (.slice b2 n2 c2) W)(ma:n1<=2^18)(nN:n2<=2^18)(s:Int):
 Ct 282 [.agg #[.slice b1 n1 c1,.slice b2 n2 c2],.int .i64 s] h (fun v h'=>Le h h'/\∃z t,v=.tuple #[.int .i64 z,.bool t]/\WW (cI H W) s z t):=by
 obtain⟨A,hA⟩:=Ar.ex;have hE:(cI H W).length<=2^37:=by have:=yN H W;have:=x9 (show W.length<=2^18 by rw[<-q2.len];exact nN) (show H.length<=2^18 by rw[<-q1.len];exact ma);omega
 generalize hEe:cI H W=E at *;refine ah A (ar T282.aA T282.bm) Tryz.func282 rfl (by kernel_rfl) ?_;cbv;refine(Jt q1 q2 ma nN).mono (fun v h1 hR=>?_);obtain⟨l1,rb,mr,rfl,Fk,hmr,gr,rg⟩:=hR;rw[hEe]at rg;cbv;refine(E0 gr rg hE s).mono (fun v h2 hR=>?_);obtain⟨k2,m,x2,rfl,hm,gr2,DA⟩:=hR;have l2:Le h h2:=l1.df (by simpa using Fk) k2;have rg2:Rg h h2 mr E:=by obtain⟨l,ml⟩:=rg.map;exact rg.gen k2 (by simpa using Aw gr ml) (Kp.YN k2 gr (by decide))
 cbv;refine zO DA s (fun t ht=>?_);cases t with
 |false=>
  have gB:A .not false=true:=by rw[hA.not];rfl
  have hs:s∉over E s:=of_decide_eq_false ht.symm;cbv;rw[gB];cbv;exact⟨l2,0,false,rfl,⟨.inl ⟨rfl,rfl,hs⟩⟩⟩
 |true=>
  have gB:A .not true=false:=by rw[hA.not];rfl
  have hs:s∈over E s:=of_decide_eq_true ht.symm;cbv;rw[gB];cbv;refine Gs NH DA (fun it h3 hit l3 it3=>?_);have VL:=l3 _ _ gr2;have Tr:=DA.kp (l3.kp []) (by simp);have Yg:=rg2.gen (l3.kp []) (by simp) (l3.t _);have xw:=l2.trans l3;cbv;refine aX.go (G:=Int) (fun z=>[(8,.v (.int .i64 z))]) (fun _=>[(2,[.slice b1 n1 c1,.slice b2 n2 c2])])
   (fun k z h'=>∃left last x',Le h h'/\It h' it m left last/\k=left.length/\h' rb=some (.cells #[.map (some mr),.int .i64 x'] 407 (0,0))/\Rg h h' mr E/\
    s<=z/\(z=s\/(z∈over E s/\s∈over E z))/\(∀p∈left,p∈sJ (over E s))/\∀k∈over E s,s∈over E k->k<=z\/(Value.int .i64 k,Value.bool true)∈left) _ s ⟨?_,?_,?_⟩
    ⟨_,_,x2,xw,it3,rfl,VL,Yg,Int.le_refl _,.inl rfl,fun p hp=>hp,fun k hk _=>.inr (Bg.2 hk)⟩ ?_
  ·cbv
  ·cbv
  ·cbv
  ·intro k z h' hI;cbv;obtain⟨left,last,x',hle,O2,hk,Fw,rg',mJ,fN,Fg,Y4⟩:=hI;have hir:it≠rb:=fun e=>by
    obtain⟨_,_,_,_,_,_,g,_⟩:=O2.out;rw[e,Fw]at g;cases g
   have Fs:m≠rb:=fun e=>by
    obtain⟨_,_,_,_,_,g,_⟩:=O2.out;rw[e,Fw]at g;cases g
   have himr:mr≠it:=fun e=>by
    obtain⟨_,_,_,_,_,_,g,_⟩:=O2.out;obtain⟨l,ml⟩:=rg'.map;obtain⟨_,_,g',_⟩:=ml.out;rw[e,g]at g';cases g'
   refine Jl O2 (fun hl=>?_) (fun key val lG h4 eW Re dp aK Vh k4 t4=>?_)
   ·cbv;refine⟨hle,z,true,rfl,⟨.inr ⟨rfl,hs,mJ,fN,fun k hk Xs=>?_⟩⟩⟩;rcases Y4 k hk Xs with h1|h1
    ·exact h1
    ·rw[hl]at h1;cases h1
   ·have CS:=t4 [407] _ _ _ _ (by decide) Fw;have jJ:=Fg _ eW;obtain⟨w,hw,he⟩:=List.mem_map.1 jJ;cases he;have l4:Le h h4:=hle.df (by simpa using l2.none hit) k4;have QE:=rg'.gen k4 (by simpa using himr) (t4 _);have stay:∀(h5:ad) (x5:Int),Le h h5->It h5 it m lG (some (.int .i64 w,.bool true))->h5 rb=some (.cells #[.map (some mr),.int .i64 x5] 407 (0,0))->Rg h h5 mr E->((s∈over E w)->w<=z)->
     ∃left last x',Le h h5/\It h5 it m left last/\lG.length=left.length/\h5 rb=some (.cells #[.map (some mr),.int .i64 x'] 407 (0,0))/\Rg h h5 mr E/\
      s<=z/\(z=s\/(z∈over E s/\s∈over E z))/\(∀p∈left,p∈sJ (over E s))/\∀k∈over E s,s∈over E k->k<=z\/(Value.int .i64 k,Value.bool true)∈left:=
     fun h5 x5 a1 a2 a3 a4 a5=>⟨lG,_,x5,a1,a2,rfl,a3,a4,mJ,fN,fun p hp=>Fg p (dp p hp),fun k hk Xs=>by
      rcases Y4 k hk Xs with h1|h1
      ·exact .inl h1
      ·rcases Re _ h1 with h2|h2
       ·have:k=w:=by cases h2;rfl
        subst this;exact .inl (a5 Xs)
       ·exact .inr h2⟩
    have more:∀(h5:ad) (x5:Int),Le h h5->It h5 it m lG (some (.int .i64 w,.bool true))->h5 rb=some (.cells #[.map (some mr),.int .i64 x5] 407 (0,0))->Rg h h5 mr E->s∈over E w->z<w->
     ∃left last x',Le h h5/\It h5 it m left last/\lG.length=left.length/\h5 rb=some (.cells #[.map (some mr),.int .i64 x'] 407 (0,0))/\Rg h h5 mr E/\
      s<=w/\(w=s\/(w∈over E s/\s∈over E w))/\(∀p∈left,p∈sJ (over E s))/\∀k∈over E s,s∈over E k->k<=w\/(Value.int .i64 k,Value.bool true)∈left:=
     fun h5 x5 a1 a2 a3 a4 a5 a6=>⟨lG,_,x5,a1,a2,rfl,a3,a4,by omega,.inr ⟨hw,a5⟩,fun p hp=>Fg p (dp p hp),fun k hk Xs=>by
      rcases Y4 k hk Xs with h1|h1
      ·left;omega
      ·rcases Re _ h1 with h2|h2
       ·have:k=w:=by cases h2;rfl
        subst this;exact .inl (Int.le_refl _)
       ·exact .inr h2⟩
    generalize eg:A .aG .gtr w z=u;have fg:=eg;rw[bJ A]at eg;cbv;refine Gw Vh ?_;cbv;rw[fg];cases u with
    |false=>
     have cP:=stay h4 x' l4 Vh CS QE (fun _=>by have:=of_decide_eq_false eg;omega);cbv;refine⟨lG.length,_,by omega,⟨?_,?_,?_⟩,cP⟩
     ·cbv
     ·cbv
     ·cbv
    |true=>
     have OO:z<w:=of_decide_eq_true eg;cbv;refine(E0 CS QE hE w).mono (fun v h5 hR=>?_);obtain⟨k5,m5,x5,rfl,hm5,Iv,Xc⟩:=hR;have l5:Le h h5:=l4.df (by simpa using Fk) k5;have rg5:Rg h h5 mr E:=by obtain⟨l,ml⟩:=QE.map;exact QE.gen k5 (by simpa using Aw CS ml) (Kp.YN k5 CS (by decide))
     have it5:=Vh.kp k5 (by simpa using hir) (by simpa using Fs);cbv;refine zO Xc s (fun t ht=>?_);cases t with
     |true=>
      have cP:=more h5 x5 l5 it5 Iv rg5 (of_decide_eq_true ht.symm) OO;cbv;refine⟨lG.length,_,by omega,⟨?_,?_,?_⟩,cP⟩
      ·cbv
      ·cbv
      ·cbv
     |false=>
      have hns:s∉over E w:=of_decide_eq_false ht.symm;have cP:=stay h5 x5 l5 it5 Iv rg5 (fun hsw=>absurd hsw hns);cbv;refine⟨lG.length,_,by omega,⟨?_,?_,?_⟩,cP⟩
      ·cbv
      ·cbv
      ·cbv
theorem jh.yy{h h':ad}{c tb wb ct cw:Nat}{T:List cE}{W:List (dO×Bool)}{H' Wt':List bZ}{e:Int}{n1 n2:Nat}{b3 b4 b5 b6:Option Addr}{n3 c3 n4 c4 n5 c5 n6 c6:Nat}{o:Int}
 (g0:h c=some (.cells #[.slice (some ⟨tb,0,none⟩) n1 ct,.slice (some ⟨wb,0,none⟩) n2 cw,.slice b3 n3 c3,.slice b4 n4 c4,.int .u32 o,.int .i32 0,.int .u32 0,.int .i64 e] 128 (0,0)))
 (ho:(o=0/\e=0)\/(o=1/\e≠0)) (g1:n1=T.length) (g2:dI 51 cY h tb ct T) (g3:n2=W.length) (g4:dI 55 cf h wb cw W) (q5:Sl 205 bL h (.slice b5 n5 c5) H') (q6:Sl 205 bL h (.slice b6 n6 c6) Wt')
 (hh:h'=bp h c (.cells #[.slice (some ⟨tb,0,none⟩) n1 ct,.slice (some ⟨wb,0,none⟩) n2 cw,.slice b5 n5 c5,.slice b6 n6 c6,.int .u32 o,.int .i32 0,.int .u32 0,.int .i64 e] 128 (0,0))):
 Kp [c] h h'/\jh h' c tb wb ct cw T W H' Wt' e:=by
 have lt:∀tys,128∉tys->cF tys h h':=fun tys hn=>by rw[hh];exact cF.set g0 hn
 refine⟨by rw[hh];exact Kp.set (by simp),n1,n2,b5,n5,c5,b6,n6,c6,o,by rw[hh];exact af,ho,g1,g2.mono (lt _ (by decide)),g3,g4.mono (lt _ (by decide)),q5.mono (lt _ (by decide)),q6.mono (lt _ (by decide))⟩
theorem jh.elim{h:ad}{c tb wb ct cw:Nat}{T:List cE}{W:List (dO×Bool)}{H Wt:List bZ}{e:Int}(q:jh h c tb wb ct cw T W H Wt e){p:Prop}
 (k:∀(n1 n2:Nat) (b3:Option Addr) (n3 c3:Nat) (b4:Option Addr) (n4 c4:Nat) (o:Int),h c=some (.cells #[.slice (some ⟨tb,0,none⟩) n1 ct,.slice (some ⟨wb,0,none⟩) n2 cw,.slice b3 n3 c3,.slice b4 n4 c4,.int .u32 o,.int .i32 0,.int .u32 0,.int .i64 e] 128 (0,0))->
  ((o=0/\e=0)\/(o=1/\e≠0))->n1=T.length->dI 51 cY h tb ct T->n2=W.length->dI 55 cf h wb cw W->Sl 205 bL h (.slice b3 n3 c3) H->Sl 205 bL h (.slice b4 n4 c4) Wt->
  gj h (.agg #[.slice (some ⟨tb,0,none⟩) n1 ct,.slice (some ⟨wb,0,none⟩) n2 cw,.slice b3 n3 c3,.slice b4 n4 c4]) ⟨T,W.map (·.1),H,Wt⟩->p):p:=by
 obtain⟨n1,n2,b3,n3,c3,b4,n4,c4,o,g0,g1,g2,g3,g4,g5,g6,g7⟩:=q.out;exact k n1 n2 b3 n3 c3 b4 n4 c4 o g0 g1 g2 g3 g4 g5 g6 g7 ⟨_,_,_,_,_,_,_,_,_,_,_,_,W,rfl,g3.sl g2,g5.sl g4,g6,g7,rfl⟩
theorem gK{d:DB}{h:ad}{v:Value}(q:gj h v d){k:Value->ad->Prop}
 (hk:∀h' b1 n1 c1 b2 n2 c2 b3 n3 c3 b4 n4 c4,Le h h'->gj h' (.agg #[.slice b1 n1 c1,.slice b2 n2 c2,.slice b3 n3 c3,.slice b4 n4 c4]) d->k (.agg #[.slice b1 n1 c1,.slice b2 n2 c2,.slice b3 n3 c3,.slice b4 n4 c4]) h'):Ct 50 [v] h k:=
 (lS q).mono (fun v h' hR=>by
  obtain⟨l,hd⟩:=hR;obtain⟨b1,n1,c1,b2,n2,c2,b3,n3,c3,b4,n4,c4,hv⟩:=hd.form;rw[hv]at hd |-;exact hk h' _ _ _ _ _ _ _ _ _ _ _ _ l hd)
theorem sg{d:DB}{h:ad}{v:Value}(q:gj h v d){k:Value->ad->Prop}
 (hk:∀h' c tb wb ct cw W,Le h h'->h c=none->h tb=none->h wb=none->c≠tb->c≠wb->W=(d.au.map fun w=>(w,true))->ct=d.aE.length->cw=W.length->jh h' c tb wb ct cw d.aE W d.holds d.waits 0->k (.pointer (some ⟨c,0,none⟩)) h'):Ct 48 [v] h k:=
 (Az q).mono (fun v h' hR=>by
  obtain⟨l1,c,tb,wb,ct,cw,W,hv,hc,su,vM,tR,rH,hW,RO,Lz,cs⟩:=hR;rw[hv];exact hk h' c tb wb ct cw W l1 hc su vM tR rH hW RO Lz cs)
theorem I7{h:ad}{cs:List Value}{t:cE}(q:cY.R h cs t){p:List Value->Prop}(k:∀(b1:Option Addr) (n1 c1:Nat) (b2:Option Addr) (n2 c2:Nat),Sl 165 bt h (.slice b1 n1 c1) t.S.cols->Sl 59 aL h (.slice b2 n2 c2) t.rows->p [.string t.S.name,.slice b1 n1 c1,.int .i64 t.S.key,.bool t.S.only,.slice b2 n2 c2]):p cs:=by obtain⟨b1,n1,c1,b2,n2,c2,rfl,q1,q2⟩:=q;exact k b1 n1 c1 b2 n2 c2 q1 q2
theorem zQ{A:Ar}[aV A]{h:ad}{b:Option Addr}{len cap:Nat}{xs:List cE}(q:Sl 51 cY h (.slice b len cap) xs){i:Nat}{t:cE}(hx:xs[i]? =some t){n:Int}(hn:n=(i:Int)){k:List Value->Prop}
 (hk:∀(b1:Option Addr) (n1 c1:Nat) (b2:Option Addr) (n2 c2:Nat),Sl 165 bt h (.slice b1 n1 c1) t.S.cols->Sl 59 aL h (.slice b2 n2 c2) t.rows->k [.string t.S.name,.slice b1 n1 c1,.int .i64 t.S.key,.bool t.S.only,.slice b2 n2 c2]):tq h (A.ja b n cY.n) cY.n k:=
 q.load hx hn (fun cs aC=>I7 aC hk)
theorem zR{A:Ar}[aV A]{h:ad}{b:Option Addr}{len cap:Nat}{xs:List (dO×Bool)}(q:Sl 55 cf h (.slice b len cap) xs){i:Nat}{w:dO×Bool}(hx:xs[i]? =some w){n:Int}(hn:n=(i:Int)){k:List Value->Prop}
 (hk:∀(b1:Option Addr) (n1 c1:Nat),Sl 148 gM h (.slice b1 n1 c1) w.1.log->(w.2=true->c1=n1)->(∀h' k',Le h h'->k' [.slice b1 n1 c1]->tq h' (A .off (A .ja b n 3) 1) 1 k')->k [.slice b1 n1 c1]):tq h (A .off (A .ja b n 3) 1) 1 k:=
 q.oD (s:=cf) hx hn (o:=1) (m:=1) (by decide) (fun cs aC ag=>by
  obtain⟨b1,n1,c1,b2,n2,c2,rfl,q1,q2,q3⟩:=aC;exact hk b1 n1 c1 q1 q3 ag)
theorem BC{A:Ar}[aV A]{h:ad}{b:Option Addr}{len cap:Nat}{xs:List (dO×Bool)}(q:Sl 55 cf h (.slice b len cap) xs){i:Nat}{w:dO×Bool}(hx:xs[i]? =some w){n:Int}(hn:n=(i:Int)){k:List Value->Prop}
 (hk:∀(b1:Option Addr) (n1 c1:Nat),Sl 161 gF h (.slice b1 n1 c1) w.1.marks->(∀h' k',Le h h'->k' [.slice b1 n1 c1]->tq h' (A .off (A .ja b n 3) 2) 1 k')->k [.slice b1 n1 c1]):tq h (A .off (A .ja b n 3) 2) 1 k:=
 q.oD (s:=cf) hx hn (o:=2) (m:=1) (by decide) (fun cs aC ag=>by
  obtain⟨b1,n1,c1,b2,n2,c2,rfl,q1,q2,q3⟩:=aC;exact hk b2 n2 c2 q2 ag)
theorem OW{h:ad}{c tb wb ct cw:Nat}{T:List cE}{W:List (dO×Bool)}{H Wt:List bZ}{e:Int}(q:jh h c tb wb ct cw T W H Wt e){p4 p5 p6 p7:Nat}{hd:bZ}
 (g4:h p4=some (.cells #[.pointer (some ⟨c,0,none⟩)] 109 (0,0))) (g5:h p5=some (.cells #[.int .i64 hd.s] 3 (0,0))) (g6:h p6=some (.cells #[.string hd.table] 9 (0,0))) (g7:h p7=some (.cells #[.bool hd.x] 4 (0,0)))
 (hH:H.length<=2^18) (hWt:Wt.length<=2^18):
 Ct 280 [.pointer (some ⟨p4,0,none⟩),.pointer (some ⟨p5,0,none⟩),.pointer (some ⟨p6,0,none⟩),.pointer (some ⟨p7,0,none⟩)] h
  (fun v h'=>Kp [c] h h'/\∃t,v=.bool t/\t=bF H hd/\jh h' c tb wb ct cw T W (cd H hd) (cV H Wt hd) e):=by
 obtain⟨A,hA⟩:=Ar.ex;obtain⟨n1,n2,b3,n3,c3,b4,n4,c4,o,f0,f1,f2,f3,f4,f5,f6,f7⟩:=q.out;obtain⟨hs,ht,hx⟩:=hd;refine ah A (ar T280.aA T280.bm) Tryz.func280 rfl (by kernel_rfl) ?_;cbv;refine av g4 rfl rfl ?_;cbv;refine av g4 rfl rfl ?_;cbv;rw[ai A];rw[ai A];refine av f0 rfl rfl ?_;cbv;refine av g5 rfl rfl ?_;cbv;refine av g6 rfl rfl ?_;cbv;refine av g7 rfl rfl ?_;cbv;refine(WR f6 f7 (by have:=f6.len;omega) (by have:=f7.len;omega) ⟨hs,ht,hx⟩).mono (fun v h1 hR=>?_);obtain⟨l1,b5,n5,c5,b6,n6,c6,t,rfl,r5,r6,et⟩:=hR;cbv;refine av (l1 _ _ g4) rfl rfl ?_;cbv;refine⟨⟨_,rfl,rfl⟩,?_⟩;cbv;rw[ai A];rw[ai A];refine jz (l1 _ _ f0) (by simp) (fun h2 e2=>?_);have ae:=jh.yy (l1 _ _ f0) f1 f2 (f3.mono (l1.t _)) f4 (f5.mono (l1.t _)) r5 r6 e2;cbv;exact⟨(l1.kp _).trans ae.1,t,rfl,et,ae.2⟩
def dz(W:List (dO×Bool))(s:Int):List Int:=W.map fun x=>IntKind.i64.wrap (x.1.s-s)
def aR(T:List cE)(name:ByteArray):List Int:=T.map fun x=>eX x.S.name name
def DX(T:List cE)(W:List (dO×Bool))(s:Int)(name:ByteArray):Bool:=lK (dz W s)&&lK (aR T name)
def holdH(T:List cE)(W:List (dO×Bool))(H:List bZ)(hd:bZ):List bZ:=if DX T W hd.s hd.table=true then cd H hd else H
def holdW(T:List cE)(W:List (dO×Bool))(H Wt:List bZ)(hd:bZ):List bZ:=if DX T W hd.s hd.table=true then cV H Wt hd else Wt
def holdE(T:List cE)(W:List (dO×Bool))(H:List bZ)(hd:bZ):Int:=if DX T W hd.s hd.table=true then if bF H hd=true then 0 else 16 else 2
theorem CD{H:List bZ}{hd:bZ}:(cd H hd).length<=H.length+1:=by
 unfold cd;split
 ·split
  ·omega
  ·split
   ·rw[List.length_set];omega
   ·simp
 ·omega
theorem mg(l:List bZ)(s:Int):(bQ l s).length<=l.length:=List.length_filter_le _ _
def jX:ByteArray:=⟨#[]⟩
def cJ(r:Row)(t:cE):cE×iX×Int:=((bI t r).1,⟨jX,1,r⟩,(bI t r).2)
def LG(k:dg)(t:cE):cE×iX×Int:=if t.S.only=true then(t,⟨jX,0,[]⟩,19)else((cK t k).1,⟨jX,2,(cK t k).2.1⟩,(cK t k).2.2)
theorem Yp{nm:ByteArray}{cols:List bT}{key:Int}{only:Bool}{rows:List Row}{r:Row}{h:ad}{sb b4 b:Option Addr}{sn sc n4 c4 n c rb:Nat}(qs:Sl 165 bt h (.slice sb sn sc) cols)(q4:Sl 59 aL h (.slice b4 n4 c4) rows)
 (gr:h rb=some (.cells #[.slice b n c] 59 (0,0))) (q:Sl 61 bq h (.slice b n c) r) (hn:n4<=2^37):
 Ct 164 [.agg #[.string nm,.slice sb sn sc,.int .i64 key,.bool only,.slice b4 n4 c4],.pointer (some ⟨rb,0,none⟩)] h (fun v h'=>Le h h'/\∃b1 n1 k1 b2 n2 k2 b3 n3 k3 e T C,v=.tuple #[.agg #[.string nm,.slice b1 n1 k1,.int .i64 key,.bool only,.slice b2 n2 k2],.agg #[.string jX,.int .i64 C.op,.slice b3 n3 k3],.int .i64 e]/\
  Sl 165 bt h' (.slice b1 n1 k1) cols/\Sl 59 aL h' (.slice b2 n2 k2) T/\Sl 61 bq h' (.slice b3 n3 k3) C.row/\(⟨⟨⟨nm,cols,key,only⟩,T⟩,C,e⟩:cE×iX×Int)=cJ r ⟨⟨nm,cols,key,only⟩,rows⟩):=by
 obtain⟨A,hA⟩:=Ar.ex;refine ah A (ar T164.aA T164.bm) Tryz.func164 rfl (by kernel_rfl) ?_;cbv;refine av gr rfl rfl ?_;cbv;refine(QI (nm:=nm) (key:=key) (only:=only) qs q4 q hn).mono (fun v h1 hR=>?_);obtain⟨l1,b1,n1,k1,b2,n2,k2,e,T,rfl,r1,r2,r3⟩:=hR;cbv;refine av (l1 _ _ gr) rfl rfl ?_;cbv;refine(JI (q.mono (l1.t _))).mono (fun v h2 hR=>?_);obtain⟨l2,b3,k3,rfl,r4⟩:=hR;cbv;exact⟨l1.trans l2,_,_,_,_,_,_,_,_,_,e,T,⟨jX,1,r⟩,rfl,r1.mono (l2.t _),r2.mono (l2.t _),r4,by unfold cJ;rw[<-r3]⟩
theorem take59{nm:ByteArray}{cols:List bT}{key:Int}{only:Bool}{rows:List Row}{h:ad}{sb b4:Option Addr}{sn sc n4 c4 rb:Nat}(qs:Sl 165 bt h (.slice sb sn sc) cols)(q4:Sl 59 aL h (.slice b4 n4 c4) rows){kv:dg}
 (gr:h rb=some (.cells #[.int .i64 kv.k,.int .i64 kv.n,.string kv.s] 61 (0,0))) (hn:n4<=2^37):
 Ct 249 [.agg #[.string nm,.slice sb sn sc,.int .i64 key,.bool only,.slice b4 n4 c4],.pointer (some ⟨rb,0,none⟩)] h (fun v h'=>Le h h'/\∃b1 n1 k1 b2 n2 k2 b3 n3 k3 e T C,v=.tuple #[.agg #[.string nm,.slice b1 n1 k1,.int .i64 key,.bool only,.slice b2 n2 k2],.agg #[.string jX,.int .i64 C.op,.slice b3 n3 k3],.int .i64 e]/\
  Sl 165 bt h' (.slice b1 n1 k1) cols/\Sl 59 aL h' (.slice b2 n2 k2) T/\Sl 61 bq h' (.slice b3 n3 k3) C.row/\(⟨⟨⟨nm,cols,key,only⟩,T⟩,C,e⟩:cE×iX×Int)=LG kv ⟨⟨nm,cols,key,only⟩,rows⟩):=by
 obtain⟨A,hA⟩:=Ar.ex;generalize hD:LG kv ⟨⟨nm,cols,key,only⟩,rows⟩=D;refine ah A (ar T249.aA T249.bm) Tryz.func249 rfl (by kernel_rfl) ?_;cases only with
 |true=>cbv;exact⟨Le.refl _,_,_,_,_,_,_,_,_,_,19,rows,⟨jX,0,[]⟩,rfl,qs,q4,Sl.nil,by rw[<-hD];rfl⟩
 |false=>cbv;refine av gr rfl rfl ?_;cbv;refine(Sm (nm:=nm) (key:=key) (only:=false) qs q4 hn kv).mono (fun v h1 hR=>?_);obtain⟨l1,b1,n1,k1,b2,n2,k2,b3,n3,k3,e,T,R,hv,r1,r2,r3,r4⟩:=hR;rw[hv];cbv;exact⟨l1,_,_,_,_,_,_,_,_,_,e,T,⟨jX,2,R⟩,rfl,r1,r2,r3,by rw[<-hD];unfold LG;rw[<-r4];rfl⟩
theorem S1{nm:ByteArray}{cols:List bT}{key:Int}{only:Bool}{rows:List Row}{r:Row}{h:ad}{sb b4 b:Option Addr}{sn sc n4 c4 n c rb:Nat}(qs:Sl 165 bt h (.slice sb sn sc) cols)(q4:Sl 59 aL h (.slice b4 n4 c4) rows)
 (gr:h rb=some (.cells #[.slice b n c] 59 (0,0))) (q:Sl 61 bq h (.slice b n c) r) (hn:n4<=2^37) {k:Value->ad->Prop}
 (hk:∀h' b1 n1 k1 b2 n2 k2 b3 n3 k3 e T C,Le h h'->Sl 165 bt h' (.slice b1 n1 k1) cols->Sl 59 aL h' (.slice b2 n2 k2) T->Sl 61 bq h' (.slice b3 n3 k3) C.row->(⟨⟨⟨nm,cols,key,only⟩,T⟩,C,e⟩:cE×iX×Int)=cJ r ⟨⟨nm,cols,key,only⟩,rows⟩->
  k (.tuple #[.agg #[.string nm,.slice b1 n1 k1,.int .i64 key,.bool only,.slice b2 n2 k2],.agg #[.string jX,.int .i64 C.op,.slice b3 n3 k3],.int .i64 e]) h'):
 Ct 164 [.agg #[.string nm,.slice sb sn sc,.int .i64 key,.bool only,.slice b4 n4 c4],.pointer (some ⟨rb,0,none⟩)] h k:=
 (Yp (nm:=nm) (key:=key) (only:=only) qs q4 gr q hn).mono (fun v h' hR=>by
  obtain⟨l,b1,n1,k1,b2,n2,k2,b3,n3,k3,e,T,C,hv,r1,r2,r3,r4⟩:=hR;rw[hv];exact hk h' b1 n1 k1 b2 n2 k2 b3 n3 k3 e T C l r1 r2 r3 r4)
theorem take59e{nm:ByteArray}{cols:List bT}{key:Int}{only:Bool}{rows:List Row}{h:ad}{sb b4:Option Addr}{sn sc n4 c4 rb:Nat}(qs:Sl 165 bt h (.slice sb sn sc) cols)(q4:Sl 59 aL h (.slice b4 n4 c4) rows){kv:dg}
 (gr:h rb=some (.cells #[.int .i64 kv.k,.int .i64 kv.n,.string kv.s] 61 (0,0))) (hn:n4<=2^37) {k:Value->ad->Prop}
 (hk:∀h' b1 n1 k1 b2 n2 k2 b3 n3 k3 e T C,Le h h'->Sl 165 bt h' (.slice b1 n1 k1) cols->Sl 59 aL h' (.slice b2 n2 k2) T->Sl 61 bq h' (.slice b3 n3 k3) C.row->(⟨⟨⟨nm,cols,key,only⟩,T⟩,C,e⟩:cE×iX×Int)=LG kv ⟨⟨nm,cols,key,only⟩,rows⟩->
  k (.tuple #[.agg #[.string nm,.slice b1 n1 k1,.int .i64 key,.bool only,.slice b2 n2 k2],.agg #[.string jX,.int .i64 C.op,.slice b3 n3 k3],.int .i64 e]) h'):
 Ct 249 [.agg #[.string nm,.slice sb sn sc,.int .i64 key,.bool only,.slice b4 n4 c4],.pointer (some ⟨rb,0,none⟩)] h k:=
 (take59 (nm:=nm) (key:=key) (only:=only) qs q4 gr hn).mono (fun v h' hR=>by
  obtain⟨l,b1,n1,k1,b2,n2,k2,b3,n3,k3,e,T,C,hv,r1,r2,r3,r4⟩:=hR;rw[hv];exact hk h' b1 n1 k1 b2 n2 k2 b3 n3 k3 e T C l r1 r2 r3 r4)
end Go.S
