import Derived.Test.YthnbpiejemlbeaaGreatEA
set_option linter.all false
set_option maxRecDepth 100000
namespace Go.S
open Go.Sx Go.Proofs
variable {A:Ar}{only:Bool}{nm:ByteArray}{a e key:Int}{E:List (Int×Int)}{o:List Row}{cs:List Value}{H:List bG}{cols:List iK}{c cap i j m n wb:Nat}{b:Option Addr}{r:Row}{d:TypeDesc}{k:Value->ab->Prop}{h h' h0:ab}{hd w:bG}
def gQ(w:bG)(H:List bG):List (Int×Int):=(H.filter (dm w)).map λh=>(w.s,h.s)
def ca(H W:List bG):List (Int×Int):=W.flatMap λw=>gQ w H
def cD(E:List (Int×Int))(a:Int):List Int:=(E.filter λp=>decide (p.1=a)).map (·.2)
theorem tJ{b:Int}:cD (E++[(a,b)]) a=cD E a++[b]:=by simp[cD]
theorem lI{b c:Int}(h:c≠a):cD (E++[(a,b)]) c=cD E c:=by simp[cD,Ne.symm h]
theorem Hw(E:List (Int×Int))(a:Int):(cD E a).length<=E.length:=by unfold cD;rw[List.length_map];exact List.length_filter_le _ _
structure bKP where
 a:Int
 nb:Nat
 cap:Nat
structure Rg(h0 h:ab)(m:Nat)(E:List (Int×Int)):Prop where
 out:∃G:List bKP,Mp h m (.int .i64) (G.map λg=>(.int .i64 g.a,.slice (some ⟨g.nb,0,none⟩) (cD E g.a).length g.cap))/\(G.map (·.nb)).Nodup/\(∀g∈G,h0 g.nb=none/\cA 3 cN h g.nb g.cap (cD E g.a))/\∀a,cD E a≠[]->∃g∈G,g.a=a
theorem Hn:Tryz.prog.underlying 502=some (.map 3 68):=by kernel_rfl
theorem Xs:Tryz.prog.underlying 470=some (.map 3 4):=by kernel_rfl
theorem u3:Tryz.prog.underlying 3=some (.int .i64):=by kernel_rfl
theorem JM(w:World):(zeroValue 68).run Tryz.prog w=.ok (.slice none 0 0) w:=by
 have h:((Tryz.prog.info? 68).bind (·.zero))=some (.slice none 0 0):=by kernel_rfl
 cases a:Tryz.prog.info? 68 with
 |none=>rw[a]at h;cases h
 |some i=>rw[a]at h;simp at h;simp[zeroValue,typeInfo,a,h]
theorem Rg.kp(q:Rg h0 h m E){bs:List Nat}(k:Kp bs h h')(j:m∉bs)(i:∀b∈bs,h0 b≠none):Rg h0 h' m E:=by obtain⟨G,d,e,a,f⟩:=q.out;exact⟨G,d.kp k j,e,λg c=>⟨(a g c).1,(a g c).2.kp k (λhx=>i _ hx (a g c).1) (λ_ _ _ _ hx=>by cases hx)⟩,f⟩
def iP(h:ab)(n:Nat):ab:=λb=>if b=n then none else h b
theorem qK(h:ab)(n:Nat):Le (iP h n) h:=λb o q=>by
 unfold iP at q;split at q
 .cases q
 exact q
theorem lR(h:ab)(n:Nat):iP h n n=none:=by unfold iP;rw[if_pos rfl]
theorem Gc(l:Le (iP h n) h'):Kp [n] h h':=λb o q a=>l b o (by unfold iP;rw[if_neg (by simpa using a)];exact q)
theorem EG{b:Nat}(q:iP h n b=none):b=n\/h b=none:=by
 unfold iP at q;split at q
 .rename_i e;exact .inl e
 exact .inr q
structure Tk(h0 h:ab)(m:Nat)(E:List (Int×Int))(a:Int)(v:Value):Prop where
 out:∃hb,Le h0 hb/\Le hb h/\aU 3 cN hb h v (cD E a)/\
  ∀h' v' x,Le hb h'->aU 3 cN hb h' v' (cD E a++[x])->∀k:Value->ab->Prop,(∀pK,Rg h0 pK m (E++[(a,x)])->Kp [m] h' pK->(∀tys,bV tys h' pK)->k undef pK)->
   ef (λ_=>Tryz.prog) (λ_=>do Instr.mapUpdate 502 (.map (some m)) (.int .i64 a) v';pure undef) h' k
theorem Ic{e:Nat}{l:List (Value×Value)}{b:Type}{s:Sh b}{xs:List b}(q:Mp h m d l)(o:cA e s h n cap xs):n≠m:=λf=>by
 obtain⟨i,k,g,-⟩:=q.out;obtain⟨c,a,-⟩:=o.out;rw[f,g]at a;cases a
theorem Rg.tk(q:Rg h0 h m E)(R:Le h0 h)(AV:h0 m=none)(a:Int)(hk:∀b n c,Tk h0 h m E a (.slice b n c)->k (.slice b n c) h):
 ef (λ_=>Tryz.prog) (λ_=>Instr.lookup 502 (.map (some m)) (.int .i64 a) false) h k:=by
 obtain⟨G,I,g2,v,g4⟩:=q.out;have FY:=I.Tw;by_cases M:∃g∈G,g.a=a
 .obtain⟨g,l,rfl⟩:=M;obtain⟨i,hi⟩:=List.getElem?_of_mem l;obtain⟨w,S⟩:=List.getElem?_eq_some_iff.1 hi;refine wz Hn u3 I (key:=.int .i64 g.a) rfl (List.mem_map.2 ⟨g,l,rfl⟩) (hk _ _ _ ⟨iP h g.nb,?_,qK h g.nb,?_,?_⟩)
  .intro b o hb;have L:b≠g.nb:=λe=>by rw[e,(v g l).1]at hb;cases hb
   unfold iP;rw[if_neg L];exact R b o hb
  .exact(v g l).2.buf (lR h g.nb) rfl
  intro h' v' x P W k' U;have L:g.nb≠m:=Ic I (v g l).2;have kp:=Gc P;have Q:Mp h' m (.int .i64) _:=I.kp kp (by simpa using Ne.symm L);rcases W.out with⟨b0,e1,u⟩|⟨t,cap,e1,u,o⟩
  .have:=congrArg List.length u;simp at this
  subst e1;have eC:(G.map λg=>(Value.int .i64 g.a,Value.slice (some ⟨g.nb,0,none⟩) (cD E g.a).length g.cap))[i]? =some (.int .i64 g.a,.slice (some ⟨g.nb,0,none⟩) (cD E g.a).length g.cap):=by rw[List.getElem?_map,hi];rfl
  have y:∀j (d:bKP),G[j]? =some d->j≠i->d.a≠g.a/\d.nb≠g.nb:=λj d f D=>by
   obtain⟨T,O⟩:=List.getElem?_eq_some_iff.1 f;constructor
   .intro s;have p:=List.pairwise_iff_getElem.1 FY;rcases Nat.lt_or_gt_of_ne D with F|F
    .have:=p j i (by simpa using T) (by simpa using w) F;simp[O,S,s]at this
    have:=p i j (by simpa using w) (by simpa using T) F;simp[O,S,s]at this
   intro s;have p:=List.pairwise_iff_getElem.1 g2;rcases Nat.lt_or_gt_of_ne D with F|F
   .have:=p j i (by simpa using T) (by simpa using w) F;simp[O,S,s]at this
   have:=p i j (by simpa using w) (by simpa using T) F;simp[O,S,s]at this
  refine XG Hn u3 Q (key:=.int .i64 g.a) rfl eC (λpK V B H=>U pK ⟨G.set i ⟨g.a,t,cap⟩,?_,?_,?_,?_⟩ B H)
  .have:(G.set i ⟨g.a,t,cap⟩).map (λ(d:bKP)=>(Value.int .i64 d.a,Value.slice (some ⟨d.nb,0,none⟩) (cD (E++[(g.a,x)]) d.a).length d.cap))=
    (G.map λg=>(Value.int .i64 g.a,Value.slice (some ⟨g.nb,0,none⟩) (cD E g.a).length g.cap)).set i (.int .i64 g.a,.slice (some ⟨t,0,none⟩) (cD E g.a++[x]).length cap):=by
    apply List.ext_getElem?;intro j;rw[List.getElem?_map,List.getElem?_set,List.getElem?_set,List.length_map,List.getElem?_map];by_cases D:i=j
    .subst D;rw[if_pos rfl,if_pos rfl,if_pos w];simp[tJ,w]
    rw[if_neg D,if_neg D];cases f:G[j]? with
    |none=>rfl
    |some d=>simp[lI (y j d f (Ne.symm D)).1]
   rw[this];exact V
  .rw[List.map_set];refine List.pairwise_iff_getElem.2 (λp r A J X=>?_);have sU:∀j (d:bKP),G[j]? =some d->j≠i->d.nb≠t:=λj d f D e=>by
    rcases EG u with z|z
    .exact(y j d f D).2 (e.trans z)
    exact(v d (List.mem_of_getElem? f)).2.has (by rw[e];exact z)
   simp only[List.length_set,List.length_map]at A J;rw[List.getElem_set,List.getElem_set];by_cases h1:i=p
   .subst h1;rw[if_pos rfl,if_neg (by omega),List.getElem_map];exact Ne.symm (sU r G[r] (by simp[J]) (by omega))
   rw[if_neg h1];by_cases h2:i=r
   .subst h2;rw[if_pos rfl,List.getElem_map];exact sU p G[p] (by simp[A]) (by omega)
   rw[if_neg h2];exact List.pairwise_iff_getElem.1 g2 p r (by simpa using A) (by simpa using J) X
  .intro d C;obtain⟨j,f⟩:=List.getElem?_of_mem C;rw[List.getElem?_set]at f;by_cases D:i=j
   .subst D;rw[if_pos rfl,if_pos w]at f;cases f;refine⟨?_,?_⟩
    .rcases EG u with z|z
     .rw[z];exact(v g l).1
     exact R.none z
    rw[tJ];exact o.kp B (by simpa using Ic Q o) (H _)
   rw[if_neg D]at f;obtain⟨f1,f2⟩:=y j d f (Ne.symm D);obtain⟨Y,f4⟩:=v d (List.mem_of_getElem? f);have o':=f4.kp kp (by simpa using f2) (λ_ _ _ _ hx=>by cases hx);refine⟨Y,?_⟩;rw[lI f1];exact o'.kp B (by simpa using Ic Q o') (H _)
  intro c N;by_cases K:c=g.a
  .exact⟨⟨g.a,t,cap⟩,List.mem_of_getElem? (i:=i) (by rw[List.getElem?_set,if_pos rfl,if_pos w]),K.symm⟩
  rw[lI K]at N;obtain⟨d,C,s⟩:=g4 c N;obtain⟨j,f⟩:=List.getElem?_of_mem C;have D:i≠j:=λe=>by subst e;rw[hi]at f;cases f;exact K s.symm
  exact⟨d,List.mem_of_getElem? (i:=j) (by rw[List.getElem?_set,if_neg D];exact f),s⟩
 have Z:cD E a=[]:=Classical.byContradiction λL=>M (g4 a L);have Pc:∀p∈(G.map λg=>(Value.int .i64 g.a,Value.slice (some ⟨g.nb,0,none⟩) (cD E g.a).length g.cap)),p.1≠.int .i64 a:=λp A e=>by
  obtain⟨g,l,rfl⟩:=List.mem_map.1 A;simp at e;exact M ⟨g,l,e⟩
 refine sD Hn u3 JM I (key:=.int .i64 a) rfl Pc (hk _ _ _ ⟨h,R,Le.refl _,by rw[Z];exact aU.nil,?_⟩);intro h' v' x P W k' U;have Q:=I.kp (P.kp []) (by simp);rcases W.out with⟨b0,e1,u⟩|⟨t,cap,e1,u,o⟩
 .have:=congrArg List.length u;simp at this
 subst e1;refine Fs Hn u3 Q (key:=.int .i64 a) rfl Pc (λpK V B H=>U pK ⟨G++[⟨a,t,cap⟩],?_,?_,?_,?_⟩ B H)
 .have:(G++[(⟨a,t,cap⟩:bKP)]).map (λ(d:bKP)=>(Value.int .i64 d.a,Value.slice (some ⟨d.nb,0,none⟩) (cD (E++[(a,x)]) d.a).length d.cap))=
   (G.map λg=>(Value.int .i64 g.a,Value.slice (some ⟨g.nb,0,none⟩) (cD E g.a).length g.cap))++[(.int .i64 a,.slice (some ⟨t,0,none⟩) (cD E a++[x]).length cap)]:=by
   rw[List.map_append];congr 1
   .refine List.map_congr_left (λg l=>?_);rw[lI (λe=>M ⟨g,l,e⟩)]
   simp[tJ]
  rw[this];exact V
 .rw[List.map_append];refine List.nodup_append.2 ⟨g2,by simp,?_⟩;intro p A r J e;simp at J;obtain⟨g,l,rfl⟩:=List.mem_map.1 A;exact(v g l).2.has (by rw[e,J];exact u)
 .intro d C;rcases List.mem_append.1 C with C|C
  .obtain⟨Y,f4⟩:=v d C;have o':=f4.mono (P.t _);refine⟨Y,?_⟩;rw[lI (λe=>M ⟨d,C,e⟩)];exact o'.kp B (by simpa using Ic Q o') (H _)
  simp at C;subst C;refine⟨R.none u,?_⟩;rw[tJ];exact o.kp B (by simpa using Ic Q o) (H _)
 intro c N;by_cases K:c=a
 .exact⟨⟨a,t,cap⟩,by simp,K.symm⟩
 rw[lI K]at N;obtain⟨d,C,s⟩:=g4 c N;exact⟨d,by simp[C],s⟩
theorem Ls{W:List bG}(h:W[i]? =some w):ca H (W.take (i+1))=ca H (W.take i)++gQ w H:=by unfold ca;rw[List.take_add_one,h];simp
theorem Lt{o:bG}(h:H[j]? =some o)(a:dm w o=true):gQ w (H.take (j+1))=gQ w (H.take j)++[(w.s,o.s)]:=by unfold gQ;rw[List.take_add_one,h,List.filter_append];simp[a]
theorem IU{o:bG}(h:H[j]? =some o)(a:dm w o=false):gQ w (H.take (j+1))=gQ w (H.take j):=by unfold gQ;rw[List.take_add_one,h,List.filter_append];simp[a]
theorem CJ(w:bG)(H:List bG):(gQ w H).length<=H.length:=by unfold gQ;rw[List.length_map];exact List.length_filter_le _ _
theorem zo(H W:List bG):(ca H W).length<=W.length*H.length:=by
 induction W with
 |nil=>simp[ca]
 |cons w r i=>
  have:ca H (w::r)=gQ w H++ca H r:=by simp[ca]
  rw[this,List.length_append,List.length_cons,Nat.succ_mul];have:=CJ w H;omega
theorem yw{a b:Nat}(h:a<=2^18)(c:b<=2^18):a*b<=2^36:=by
 have:=Nat.mul_le_mul h c;have e:(2:Nat)^18*2^18=2^36:=by decide
 omega
theorem Sv{W:List bG}{M N:Option Addr}{O f P:Nat}(q1:Sl 253 aO h (.slice M n O) H)(q2:Sl 253 aO h (.slice N f P) W)(ek:n<=2^18)(dZ:f<=2^18):
 Ct 321 [.agg #[.slice M n O,.slice N f P]] h (λv h'=>Le h h'/\∃r m,v=.pointer (some ⟨r,0,none⟩)/\h r=none/\h m=none/\h' r=some (.cells #[.map (some m),.int .i64 0] 504 (0,0))/\Rg h h' m (ca H W)):=by
 have lE:=q1.len;have jG:=q2.len;have hE:∀i,(ca H (W.take i)).length<=2^36:=λi=>by
  have:=zo H (W.take i);have R:(W.take i).length<=2^18:=by rw[List.length_take];omega
  have:=yw R (show H.length<=2^18 by omega);omega
 refine an dQz Tryz.func321 λA hA=>?_;cbv;intro m h1 y e1;have l1:Le h h1:=by rw[e1];exact Le.set y
 have g1:=(congrFun e1 m).trans ae;cbv;intro r R GK e2;have l2:Le h1 R:=by rw[e2];exact Le.set GK
 have gr:=(congrFun e2 r).trans ae;have gm:=l2 _ _ g1;have FN:=l1.trans l2;have K:Rg h R m (ca H (W.take 0)):=⟨[],Mp.new gm,by simp,by simp,λa ha=>absurd rfl ha⟩;cbv;refine aG.go (G:=Int) (λz=>[(14,.v (.int .i64 z))]) (λ_=>[(1,[.slice M n O,.slice N f P])])
  (λk z h'=>∃i:Nat,aK z i/\k=f-i/\i<=f/\Le h h'/\h' r=some (.cells #[.map (some m),.int .i64 0] 504 (0,0))/\Rg h h' m (ca H (W.take i))) f 0 ⟨?_,?_,?_⟩ ⟨0,⟨rfl⟩,by omega,by omega,FN,gr,K⟩ ?_
 .cbv
 .cbv
 .cbv
 intro k z h' hI;cbv;obtain⟨i,D,hk,hi,l,QI,rg⟩:=hI;refine aJ (λd=>?_) (λd=>?_)
 .have aF:=D.lt d;clear d;cbv;obtain⟨w,hw⟩:=bn W i;refine⟨⟨q2.aQ,D.ix aF⟩,?_⟩;cbv;refine(q2.mono (l.t _)).load hw D.eq (λcs g=>?_);have g:cs=[.int .i64 w.s,.string w.table,.bool w.x]:=g;subst g;have F:=Ls (H:=H) hw;have ag:=hE (i+1);rw[F]at ag;have K:Rg h h' m (ca H (W.take i)++gQ w (H.take 0)):=by simpa[gQ]using rg
  cbv;refine aG.go (G:=Int) (λz=>[(21,.v (.int .i64 z))]) (λ_=>[(5,[.int .i64 w.s,.string w.table,.bool w.x]),(1,[.slice M n O,.slice N f P])])
   (λk z h'=>∃j:Nat,aK z j/\k=n-j/\j<=n/\Le h h'/\h' r=some (.cells #[.map (some m),.int .i64 0] 504 (0,0))/\Rg h h' m (ca H (W.take i)++gQ w (H.take j))) n 0 ⟨?_,?_,?_⟩ ⟨0,⟨rfl⟩,by omega,by omega,l,QI,K⟩ ?_
  .cbv
  .cbv
  .cbv
  intro k2 z2 h3 hI;cbv;obtain⟨j,p,oY,hj,U,QG,Q⟩:=hI;refine aJ (λd=>?_) (λd=>?_)
  .have sO:=p.lt d;clear d;cbv;obtain⟨o,ho⟩:=bn H j;refine⟨⟨q1.aQ,p.ix sO⟩,?_⟩;cbv;refine(q1.mono (U.t _)).load ho p.eq (λcs g=>?_);have g:cs=[.int .i64 o.s,.string o.table,.bool o.x]:=g;subst g;cbv;refine(Da (a:=w) (b:=o)).mono (λv h4 hR=>?_);obtain⟨l4,t,rfl,et⟩:=hR;have B:=l4 _ _ QG;have q:=Q.kp (l4.kp []) (by simp) (by simp);have V:=U.trans l4;cases t with
   |true=>
    have e:=Lt ho et.symm;have aj:(ca H (W.take i)++gQ w (H.take j)).length<=2^38:=by have:=CJ w (H.take j);have S:=hE i;rw[List.length_take]at this;rw[List.length_append];omega
    cbv;rw[al A];refine ak B ?_;cbv;rw[al A];refine ak B ?_;cbv;refine⟨?_,?_⟩
    .refine q.tk V y w.s (λbb nn cc tk=>?_);obtain⟨hb,t1,t2,L,t4⟩:=tk.out;have qJ:nn<=2^38:=by have:=L.sl.len;have:=Hw (ca H (W.take i)++gQ w (H.take j)) w.s;omega
     cbv;refine ak B ?_;cbv;refine⟨⟨_,rfl,rfl⟩,?_⟩;cbv;intro T S sM C;have u:Le h4 S:=by rw[C];exact Le.set sM
     have g5:=(congrFun C T).trans ae;have I:=u _ _ B;cbv;refine ak I ?_;cbv;refine⟨⟨_,rfl,rfl⟩,?_⟩;cbv;refine(L.mono (u.t _)).append (aR (s:=cN) g5 (x:=o.s) rfl) (by decide) rfl (by decide) (by omega) (t2.trans u) (λmm b' c' h6 Av E t6 k6 Z=>?_);have X:=t6 [504] (by decide) _ _ _ _ (by decide) I;cbv;refine ak X ?_;cbv;refine⟨⟨_,rfl,rfl⟩,?_⟩;cbv;refine t4 h6 _ o.s E Z _ (λh7 c k7 t7=>?_);have l7:Le h h7:=(t1.trans E).aE (by simpa using y) k7;have J:=t7 [504] _ _ _ _ (by decide) X;rw[List.append_assoc,<-e]at c;cbv;refine⟨n-(j+1),_,by omega,by constructor<;>cbv,j+1,p.succ (A:=A),rfl,by omega,l7,J,c⟩
    intro T S sM C;have u:Le h4 S:=by rw[C];exact Le.set sM
    have g5:=(congrFun C T).trans ae;have I:=u _ _ B;have Y:=q.kp (u.kp []) (by simp) (by simp);cbv;refine ak I ?_;cbv;refine⟨⟨_,rfl,rfl⟩,?_⟩;cbv;refine ak I ?_;cbv;refine⟨⟨_,rfl,rfl⟩,?_⟩;cbv;refine Y.tk (V.trans u) y w.s (λbb nn cc tk=>?_);obtain⟨hb,t1,t2,L,t4⟩:=tk.out;have qJ:nn<=2^38:=by have:=L.sl.len;have:=Hw (ca H (W.take i)++gQ w (H.take j)) w.s;omega
    cbv;refine ak I ?_;cbv;refine⟨⟨_,rfl,rfl⟩,?_⟩;cbv;refine(L).append (aR (s:=cN) g5 (x:=o.s) rfl) (by decide) rfl (by decide) (by omega) t2 (λmm b' c' h6 Av E t6 k6 Z=>?_);have X:=t6 [504] (by decide) _ _ _ _ (by decide) I;cbv;refine ak X ?_;cbv;refine⟨⟨_,rfl,rfl⟩,?_⟩;cbv;refine t4 h6 _ o.s E Z _ (λh7 c k7 t7=>?_);have l7:Le h h7:=(t1.trans E).aE (by simpa using y) k7;have J:=t7 [504] _ _ _ _ (by decide) X;rw[List.append_assoc,<-e]at c;cbv;refine⟨n-(j+1),_,by omega,by constructor<;>cbv,j+1,p.succ (A:=A),rfl,by omega,l7,J,c⟩
   |false=>
    have e:=IU ho et.symm;cbv;refine⟨n-(j+1),_,by omega,by constructor<;>cbv,j+1,p.succ (A:=A),rfl,by omega,V,B,?_⟩
    rw[e];exact q
  have jO:=p.ge d;rw[show H.take j=H from List.take_of_length_le (by omega),<-F]at Q;cbv;refine⟨f-(i+1),_,by omega,by constructor<;>cbv,i+1,D.succ (A:=A),rfl,by omega,U,QG,Q⟩
 have jO:=D.ge d;rw[List.take_of_length_le (by omega)]at rg;cbv;exact⟨l,r,m,rfl,l1.none GK,y,QI,rg⟩
def cX(st:List Int×List Int)(k:Int):List Int×List Int:=if decide (k∈st.1)=true then st else(st.1++[k],st.2++[k])
def aQc(E:List (Int×Int)):Nat->List Int×List Int->List Int
 |0,st=>st.1
 |n+1,st=>match st.2 with
  | []=>st.1
  |a::r=>aQc E n ((cD E a).foldl cX (st.1,r))
def over(E:List (Int×Int))(s:Int):List Int:=aQc E (E.length+2) ([],[s])
def wI(E:List (Int×Int))(seen:List Int):Nat:=(E.filter λp=> !decide (p.2∈seen)).length
theorem HT(s:List Int)(y:Int):∀L:List (Int×Int),wI L (s++[y])<=wI L s
 | []=>Nat.le_refl _
 |e::r=>by
  have i:=HT s y r;unfold wI at i |-;by_cases a:e.2∈s
  .have h:e.2∈s++[y]:=by simp[a]
   rw[List.filter_cons_of_neg (by rw[decide_eq_true h];simp),List.filter_cons_of_neg (by rw[decide_eq_true a];simp)];exact i
  rw[List.filter_cons_of_pos (p:=λp:Int×Int=> !decide (p.2∈s)) (by rw[decide_eq_false a];simp)];by_cases h:e.2∈s++[y]
  .rw[List.filter_cons_of_neg (by rw[decide_eq_true h];simp),List.length_cons];omega
  rw[List.filter_cons_of_pos (by rw[decide_eq_false h];simp),List.length_cons,List.length_cons];omega
theorem SS(s:List Int)(x y:Int)(k:y∉s):∀L:List (Int×Int),(x,y)∈L->wI L (s++[y])+1<=wI L s
 | [],h=>by cases h
 |e::r,h=>by
  by_cases c:e=(x,y)
  .subst c;have f:=HT s y r;unfold wI at f |-;rw[List.filter_cons_of_neg (by simp),List.filter_cons_of_pos (p:=λp:Int×Int=> !decide (p.2∈s)) (by simpa using k),List.length_cons];omega
  have d:(x,y)∈r:=by
   rcases List.mem_cons.1 h with h|h
   .exact absurd h.symm c
   exact h
  have i:=SS s x y k r d;unfold wI at i |-;by_cases b:e.2∈s
  .have a:e.2∈s++[y]:=by simp[b]
   rw[List.filter_cons_of_neg (by rw[decide_eq_true a];simp),List.filter_cons_of_neg (by rw[decide_eq_true b];simp)];exact i
  rw[List.filter_cons_of_pos (p:=λp:Int×Int=> !decide (p.2∈s)) (by rw[decide_eq_false b];simp)];by_cases a:e.2∈s++[y]
  .rw[List.filter_cons_of_neg (by rw[decide_eq_true a];simp),List.length_cons];omega
  rw[List.filter_cons_of_pos (by rw[decide_eq_false a];simp),List.length_cons,List.length_cons];omega
theorem My{s:List Int}{k:Int}(b:k∉s)(h:k∈cD E a):wI E (s++[k])+1<=wI E s:=by unfold cD at h;obtain⟨⟨x,y⟩,m,rfl⟩:=List.mem_map.1 h;exact SS s x y b E (List.mem_filter.1 m).1
theorem bZl:iv Tryz.prog 332 Tryz.f332:=⟨Tryz.func332,by kernel_rfl,by kernel_rfl,by kernel_rfl⟩
theorem bZK{b o:Nat}{x:Int}(q:mj h ⟨b,o,none⟩ (.int .i64 x)):Ct 253 [.pointer (some ⟨b,o,none⟩),.int .i64 1] h (λv h'=>∃z y,v=.int .i64 z/\Up h b o (.int .i64 y) h'):=by refine an aQq Tryz.func253 λA f=>?_;cbv;rw[al A];refine Gi bZl (by kernel_rfl) q (λc e d e1 a=>?_);have u:Up h b o (.int .i64 _) d:=⟨c,e,e1,a⟩;generalize IntKind.i64.wrap (x+1)=y at *;cbv;exact⟨_,y,rfl,u⟩
theorem Rg.cXq{r:Nat}(q:Rg h0 h m E)(t:h r=some (.cells (List.toArray cs) 504 (0,0)))(kp:Kp [r] h h')(a:Int)(j:∀b n c,Sl 3 cN h (.slice b n c) (cD E a)->k (.slice b n c) h'):
 ef (λ_=>Tryz.prog) (λ_=>Instr.lookup 502 (.map (some m)) (.int .i64 a) false) h' k:=by
 obtain⟨G,i,x,o,s⟩:=q.out;have u:m∉[r]:=by intro e;simp at e;obtain⟨w,l,g,-⟩:=i.out;rw[e,t]at g;cases g
 have Q:=i.kp kp u;by_cases f:∃g∈G,g.a=a
 .obtain⟨g,d,rfl⟩:=f;exact wz Hn u3 Q (key:=.int .i64 g.a) rfl (List.mem_map.2 ⟨g,d,rfl⟩) (j _ _ _ ((o g d).2.sl rfl))
 refine sD Hn u3 JM Q (key:=.int .i64 a) rfl (λp v e=>?_) (j _ _ _ ?_)
 .obtain⟨g,d,rfl⟩:=List.mem_map.1 v;simp at e;exact f ⟨g,d,e⟩
 have:cD E a=[]:=Classical.byContradiction λF=>f (s a F);rw[this];exact Sl.nil
abbrev yB(l:List Int):List (Value×Value):=l.map λk=>(.int .i64 k,.bool true)
theorem HF{l:List Int}{k:Int}:(Value.int .i64 k,Value.bool true)∈yB l↔k∈l:=by simp[yB]
theorem FJ{l:List Int}(q:Mp h m (.int .i64) (yB l))(a:Int)(c:∀t,t=decide (a∈l)->k (.bool t) h):
 ef (λ_=>Tryz.prog) (λ_=>Instr.lookup 470 (.map (some m)) (.int .i64 a) false) h k:=by
 by_cases b:a∈l
 .exact wz Xs u3 q (key:=.int .i64 a) rfl (HF.2 b) (c true (by simp[b]))
 refine sD Xs u3 aXh q (key:=.int .i64 a) rfl (λp d e=>?_) (c false (by simp[b]));obtain⟨k,c,rfl⟩:=List.mem_map.1 d;simp at e;exact b (e ▸ c)
theorem aJW{l:List Int}(q:Mp h m (.int .i64) (yB l))(b:a∉l)(K:∀h',Mp h' m (.int .i64) (yB (l++[a]))->Kp [m] h h'->(∀tys,bV tys h h')->k undef h'):
 ef (λ_=>Tryz.prog) (λ_=>do Instr.mapUpdate 470 (.map (some m)) (.int .i64 a) (.bool true);pure undef) h k:=by
 refine Fs Xs u3 q (key:=.int .i64 a) rfl (λp d e=>?_) (λh' g f t=>K h' ?_ f t)
 .obtain⟨k,c,rfl⟩:=List.mem_map.1 d;simp at e;exact b (e ▸ c)
 simpa[yB]using g
theorem Gs{r:Nat}{c:List Value}{l:List (Value×Value)}{e:Nat}(g:h r=some (.cells (List.toArray c) e (0,0)))(q:Mp h m d l):m≠r:=λb=>by
 obtain⟨s,o,a,-⟩:=q.out;rw[b,g]at a;cases a
theorem Mp.obj{l:List (Value×Value)}{e:Nat}(q:Mp h m d l)(k:∀j o,h j=some o->(∀c fr,o≠.cells c e fr)->h' j=some o):Mp h' m d l:=by obtain⟨s,a,g,b⟩:=q.out;exact⟨s,a,k _ _ g (λc fr e=>by cases e),b⟩
theorem MB{f I:Nat}{x:Int}(gr:h f=some (.cells #[.map (some I),.int .i64 x] 504 (0,0)))(rg:Rg h0 h I E)(hE:E.length<=2^37)(s:Int):
 Ct 322 [.pointer (some ⟨f,0,none⟩),.int .i64 s] h (λv h'=>Kp [f] h h'/\∃m x',v=.map (some m)/\h m=none/\h' f=some (.cells #[.map (some I),.int .i64 x'] 504 (0,0))/\Mp h' m (.int .i64) (yB (over E s))):=by
 have GK:iP h f f=none:=lR h f;refine an dQy Tryz.func322 λA hA=>?_;cbv;intro m h1 hm e1;have l1:Le h h1:=by rw[e1];exact Le.set hm
 have g1:=(congrFun e1 m).trans ae;have bd:Mp h1 m (.int .i64) (yB []):=Mp.new g1;cbv;intro V h2 dp e2;have l2:Le h1 h2:=by rw[e2];exact Le.set dp
 have g2:=(congrFun e2 V).trans ae;have FN:=l1.trans l2;have QH:=FN _ _ gr;have Kr:=bd.kp (l2.kp []) (by simp);have DK:Le (iP h f) h2:=(qK h f).trans FN;have bj:iP h f V=none:=((qK h f).trans l1).none dp;have fN:jK 3 cN (iP h f) h2 (.slice (some ⟨V,0,none⟩) 1 1) [s] 1:=
  ((AN (s:=cN) g2 (x:=s) rfl).buf bj rfl).t (by simp)
 have Pa:wI E []=E.length:=by simp[wI]
 cbv;refine aG.go (G:=Option Addr×Nat×Nat) (λg=>[(6,.v (.slice g.1 g.2.1 g.2.2))]) (λ_=>[])
  (λk g h'=>∃c d n p x',Kp [f] h h'/\h' f=some (.cells #[.map (some I),.int .i64 x'] 504 (0,0))/\Mp h' m (.int .i64) (yB c)/\jK 3 cN (iP h f) h' (.slice g.1 g.2.1 g.2.2) d p/\
   k=wI E c+d.length/\k<=n/\aQc E n (c,d)=over E s/\p+wI E c<=E.length+1/\d.length<=p) (E.length+1) (some ⟨V,0,none⟩,1,1) ⟨?_,?_,?_⟩ ⟨[],[s],E.length+2,1,x,Gc DK,QH,Kr,fN,by rw[Pa];rfl,by omega,rfl,by rw[Pa];omega,by simp⟩ ?_
 .cbv
 .cbv
 .cbv
 intro k g h' hI;cbv;obtain⟨c,d,n,p,x',kp,L,mp,R,hk,FY,Li,hp,M⟩:=hI;obtain⟨gb,C,gc⟩:=g;have R:jK 3 cN (iP h f) h' (.slice gb C gc) d p:=R;have xX:C=d.length:=R.sl.len;generalize Z:A .ay .gtr (A .nat C) 0=u;have cp:=Z;rw[aX A,hA.nat]at Z;simp only[Int.ofNat_eq_natCast]at Z;have hu:u=true->0<C:=λe=>by rw[e]at Z;have:=of_decide_eq_true Z;omega
 have YK:u=false->C=0:=λe=>by rw[e]at Z;have:=of_decide_eq_false Z;omega
 cases u with
 |false=>
  have h0:=YK rfl;have P:d=[]:=List.eq_nil_of_length_eq_zero (by omega);subst P;have bp:over E s=c:=by rw[<-Li];cases n<;>rfl
  cbv;exact⟨kp,m,x',rfl,hm,L,by rw[bp];exact mp⟩
 |true=>
  have h0:=hu rfl;cases d with
  |nil=>simp at xX;omega
  |cons a r=>
   cbv;rw[al A];refine(bZK (bY L rfl)).mono (λv h3 hR=>?_);obtain⟨z,y,rfl,aN⟩:=hR;have e3:=aN.exp L;have QG:h3 f=some (.cells #[.map (some I),.int .i64 y] 504 (0,0)):=(congrFun e3 f).trans ae;have ar:=Gs L mp;have k3:Kp [f] h' h3:=by rw[e3];exact Kp.set (by simp)
   have t3:bV [3] h' h3:=by rw[e3];exact bV.set L (by decide)
   have N:=kp.trans k3;have aZ:=mp.kp k3 (by simpa using ar);have uy:=R.mono t3;have dv:gb.isSome=true/\(0:Int)<=0/\(0:Int)<(C:Int):=⟨uy.sl.aQ,by omega,by omega⟩;cbv;rw[al A];refine ak QG ?_;cbv;refine⟨dv,?_⟩;cbv;refine uy.sl.load (i:=0) (x:=a) rfl (n:=0) rfl (λcs q=>?_);have q:cs=[.int .i64 a]:=q;subst q;cbv;refine rg.cXq gr N a (λbb D cc qs=>?_);have qJ:D=(cD E a).length:=qs.len;have ch:=qs.bound;obtain⟨n',aH⟩:∃n',n=n'+1:=⟨n-1,by simp at hk;omega⟩;subst aH;have uL:aQc E n' ((cD E a).foldl cX (c,r))=over E s:=Li;simp only[List.length_cons]at hk M;cbv;refine aG.go (G:=Int×Option Addr×Nat×Nat) (λg=>[(30,.v (.int .i64 g.1)),(6,.v (.slice g.2.1 g.2.2.1 g.2.2.2))]) (λ_=>[])
    (λk2 g H=>∃j p,aK g.1 j/\k2=D-j/\j<=D/\Kp [f] h H/\H f=some (.cells #[.map (some I),.int .i64 y] 504 (0,0))/\Mp H m (.int .i64) (yB (((cD E a).take j).foldl cX (c,r)).1)/\
     jK 3 cN (iP h f) H (.slice g.2.1 g.2.2.1 g.2.2.2) (a::(((cD E a).take j).foldl cX (c,r)).2) p/\
     wI E (((cD E a).take j).foldl cX (c,r)).1+(((cD E a).take j).foldl cX (c,r)).2.length<=wI E c+r.length/\
     p+wI E (((cD E a).take j).foldl cX (c,r)).1<=E.length+1/\(((cD E a).take j).foldl cX (c,r)).2.length+1<=p) D (0,gb,C,gc) ⟨?_,?_,?_⟩
     ⟨0,p,⟨rfl⟩,by omega,by omega,N,QG,aZ,uy,Nat.le_refl _,hp,M⟩ ?_
   .cbv
   .cbv
   .cbv
   intro k2 g H hI;cbv;obtain⟨j,Y,l,oY,hj,K,tX,W,F,hM,T,bk⟩:=hI;obtain⟨z4,O,X,J⟩:=g;have l:aK z4 j:=l;generalize B:((cD E a).take j).foldl cX (c,r)=st at *;have F:jK 3 cN (iP h f) H (.slice O X J) (a::st.2) Y:=F;have cn:X=st.2.length+1:=F.sl.len;refine aJ (λS=>?_) (λS=>?_)
   .have aF:=l.lt S;clear S;obtain⟨w,hw⟩:=bn (cD E a) j;have sI:w∈cD E a:=List.mem_of_getElem? hw;have GP:((cD E a).take (j+1)).foldl cX (c,r)=cX st w:=by rw[List.take_add_one,hw,List.foldl_append,B];rfl
    cbv;refine⟨⟨qs.aQ,l.ix aF⟩,?_⟩;cbv;refine(qs.mono (Kp.cXv K gr (by decide))).load hw l.eq (λcs q=>?_);have q:cs=[.int .i64 w]:=q;subst q;cbv;refine FJ W w (λt P=>?_);cases t with
    |true=>
     have ov:A .not true=false:=by rw[hA.not];rfl
     have nY:cX st w=st:=by unfold cX;rw[<-P];rfl
     cbv;rw[ov];cbv;refine⟨D-(j+1),(_,O,X,J),by omega,by constructor<;>cbv,j+1,Y,l.succ (A:=A),rfl,by omega,K,tX,?_⟩
     rw[GP,nY];exact⟨W,F,hM,T,bk⟩
    |false=>
     have ov:A .not false=true:=by rw[hA.not];rfl
     have Uk:w∉st.1:=of_decide_eq_false P.symm;have nY:cX st w=(st.1++[w],st.2++[w]):=by unfold cX;rw[<-P];rfl
     have cb:=My Uk sI;cbv;rw[ov];cbv;refine aJW W Uk (λh5 bc k5 t5=>?_);have cd:=Gs tX W;have IJ:=t5 [504] _ _ _ _ (by decide) tX;have bZ:Kp [f] h h5:=λb o Q aW=>by
      have:=K b o Q aW;refine k5 b o this ?_;intro e;simp at e;rw[e,hm]at Q;cases Q
     have pI:=F.mono (t5 _);cbv;intro ag h6 KP e6;have U:Le h5 h6:=by rw[e6];exact Le.set KP
     have g6:=(congrFun e6 ag).trans ae;have aj:=U _ _ IJ;have bx:=bc.kp (U.kp []) (by simp);have bI:=bZ.trans (U.kp _);have bl:Le (iP h f) h6:=λb o Q=>by
      unfold iP at Q;split at Q
      .cases Q
      rename_i bF;exact bI b o Q (by simpa using bF)
     cbv;refine(pI.mono (U.t _)).append (aR (s:=cN) g6 (x:=w) rfl) (by decide) rfl (by decide) (by omega) (by omega) (by omega) bl (λmm b' c' h7 Av l7 t7 gL k7=>?_);have au:=t7 [504] (by decide) _ _ _ _ (by decide) aj;have br:=Mp.obj bx k7;have bC:Kp [f] h h7:=Gc l7;cbv;refine⟨D-(j+1),(_,b',mm,c'),by omega,by constructor<;>cbv,j+1,Y+1,l.succ (A:=A),rfl,by omega,bC,au,?_⟩
     rw[GP,nY];refine⟨br,by simpa using gL,?_,?_,?_⟩
     .simp only[List.length_append,List.length_singleton];omega
     .simp only;omega
     simp only[List.length_append,List.length_singleton];omega
   have jO:=l.ge S;have Zb:j=D:=by omega
   rw[show(cD E a).take j=cD E a from List.take_of_length_le (by omega)]at B;have EI:aK (1:Int) 1:=⟨rfl⟩;have lr:(0:Int)<=1/\(1:Int)<=(X:Int):=by omega
   have yS:=F.tail (A:=A) EI (bQ (A:=A) (n:=X) EI) (bQ (A:=A) (n:=J) EI);rw[B]at uL;cbv;refine⟨lr,?_⟩;cbv;refine⟨wI E st.1+st.2.length,(_,_,_),by omega,⟨?_,?_,?_⟩,st.1,st.2,n',Y,y,K,tX,W,yS,rfl,by omega,uL,T,by omega⟩
   .cbv;exact⟨rfl,True.intro⟩
   .cbv
   cbv
structure bZL(E:List (Int×Int))(s v:Int)(t:Bool):Prop where
 out:(t=false/\v=0/\s∉over E s)\/(t=true/\s∈over E s/\s<=v/\(v=s\/(v∈over E s/\s∈over E v))/\∀k∈over E s,s∈over E k->k<=v)
theorem bZL.iQR{s v f:Int}{t l:Bool}(a:bZL E s v t)(b:bZL E s f l):v=f/\t=l:=by
 rcases a.out with⟨a1,a2,i⟩|⟨a1,a2,i,m,n⟩
 .rcases b.out with⟨c,d,e⟩|⟨c,d,e,j,k⟩
  .exact⟨by rw[a2,d],by rw[a1,c]⟩
  exact absurd d i
 rcases b.out with⟨c,d,e⟩|⟨c,d,e,j,k⟩
 .exact absurd a2 e
 refine⟨?_,by rw[a1,c]⟩;have h:v<=f:=by
  rcases m with rfl| ⟨h,g⟩
  .exact e
  exact k v h g
 have g:f<=v:=by
  rcases j with rfl| ⟨h,g⟩
  .exact i
  exact n f h g
 omega
def gN(E:List (Int×Int))(s:Int)(l:List Int)(m:Int):Int:=l.foldl (λm k=>if decide (k>m)&&decide (s∈over E k)then k else m) m
def cL(E:List (Int×Int))(s:Int):Int×Bool:=if decide (s∈over E s)=true then(gN E s (over E s) s,true)else(0,false)
theorem rY(E:List (Int×Int))(s:Int):∀(l:List Int) (m:Int),m<=gN E s l m/\(gN E s l m=m\/(gN E s l m∈l/\s∈over E (gN E s l m)))/\∀k∈l,s∈over E k->k<=gN E s l m
 | [],m=>⟨Int.le_refl _,.inl rfl,λk a=>by cases a⟩
 |x::r,m=>by
  have e:gN E s (x::r) m=gN E s r (if decide (x>m)&&decide (s∈over E x)then x else m):=rfl;rw[e];by_cases c:(decide (x>m)&&decide (s∈over E x))=true
  .rw[if_pos c];simp at c;obtain⟨d,h,f⟩:=rY E s r x;refine⟨by omega,?_,λk a b=>?_⟩
   .rcases h with h| ⟨h,Q⟩
    .right;rw[h];exact⟨by simp,c.2⟩
    right;exact⟨by simp[h],Q⟩
   rcases List.mem_cons.1 a with rfl|a
   .exact d
   exact f k a b
  rw[if_neg c];simp at c;obtain⟨d,h,f⟩:=rY E s r m;refine⟨d,?_,λk a b=>?_⟩
  .rcases h with h| ⟨h,Q⟩
   .exact .inl h
   right;exact⟨by simp[h],Q⟩
  rcases List.mem_cons.1 a with rfl|a
  .rcases Int.lt_or_le m k with F|hle
   .exact absurd b (c F)
   omega
  exact f k a b
theorem nG(E:List (Int×Int))(s:Int):bZL E s (cL E s).1 (cL E s).2:=by
 constructor;unfold cL;by_cases h:s∈over E s
 .rw[if_pos (by simpa using h)];obtain⟨a,b,c⟩:=rY E s (over E s) s;exact .inr ⟨rfl,h,a,b,c⟩
 rw[if_neg (by simpa using h)];exact .inl ⟨rfl,rfl,h⟩
theorem bZL.eq{s v:Int}{t:Bool}(a:bZL E s v t):v=(cL E s).1/\t=(cL E s).2:=a.iQR (nG E s)
theorem Rg.gen(q:Rg h0 h m E){bs:List Nat}(k:Kp bs h h')(f:m∉bs)(t:bV [3] h h'):Rg h0 h' m E:=by obtain⟨G,c,d,a,e⟩:=q.out;exact⟨G,c.kp k f,d,λg b=>⟨(a g b).1,(a g b).2.mono t⟩,e⟩
theorem Rg.map(q:Rg h0 h m E):∃l,Mp h m (.int .i64) l:=by obtain⟨G,g,-⟩:=q.out;exact⟨_,g⟩
theorem DW{W:List bG}{b1 b2:Option Addr}{P c1 R c2:Nat}(q1:Sl 253 aO h (.slice b1 P c1) H)(q2:Sl 253 aO h (.slice b2 R c2) W)(ek:P<=2^18)(dZ:R<=2^18)(s:Int):
 Ct 234 [.agg #[.slice b1 P c1,.slice b2 R c2],.int .i64 s] h (λv h'=>Le h h'/\∃z t,v=.tuple #[.int .i64 z,.bool t]/\bZL (ca H W) s z t):=by
 have hE:(ca H W).length<=2^37:=by have:=zo H W;have:=yw (show W.length<=2^18 by rw[<-q2.len];exact dZ) (show H.length<=2^18 by rw[<-q1.len];exact ek);omega
 generalize Xd:ca H W=E at *;refine an dXZ Tryz.func234 λA hA=>?_;cbv;refine(Sv q1 q2 ek dZ).mono (λv c hR=>?_);obtain⟨l1,j,r,rfl,GK,bd,gr,U⟩:=hR;rw[Xd]at U;cbv;refine(MB gr U hE s).mono (λv d hR=>?_);obtain⟨k2,m,x2,rfl,hm,QH,Kr⟩:=hR;have l2:Le h d:=l1.aE (by simpa using GK) k2;have aZ:Rg h d r E:=by obtain⟨l,L⟩:=U.map;exact U.gen k2 (by simpa using Gs gr L) (Kp.cXv k2 gr (by decide))
 cbv;refine FJ Kr s (λt I=>?_);cases t with
 |false=>
  have ov:A .not false=true:=by rw[hA.not];rfl
  have hs:s∉over E s:=of_decide_eq_false I.symm;cbv;rw[ov];cbv;exact⟨l2,0,false,rfl,⟨.inl ⟨rfl,rfl,hs⟩⟩⟩
 |true=>
  have ov:A .not true=false:=by rw[hA.not];rfl
  have hs:s∈over E s:=of_decide_eq_true I.symm;cbv;rw[ov];cbv;refine Ot Xs Kr (λi h3 aN J bc=>?_);have QG:=J _ _ QH;have bj:=Kr.kp (J.kp []) (by simp);have aj:=aZ.gen (J.kp []) (by simp) (J.t _);have ag:=l2.trans J;cbv;refine aG.go (G:=Int) (λz=>[(8,.v (.int .i64 z))]) (λ_=>[(2,[.slice b1 P c1,.slice b2 R c2])])
   (λk z h'=>∃left b x',Le h h'/\It h' i m left b/\k=left.length/\h' j=some (.cells #[.map (some r),.int .i64 x'] 504 (0,0))/\Rg h h' r E/\
    s<=z/\(z=s\/(z∈over E s/\s∈over E z))/\(∀p∈left,p∈yB (over E s))/\∀k∈over E s,s∈over E k->k<=z\/(Value.int .i64 k,Value.bool true)∈left) _ s ⟨?_,?_,?_⟩
    ⟨_,_,x2,ag,bc,rfl,QG,aj,Int.le_refl _,.inl rfl,λp F=>F,λk f _=>.inr (HF.2 f)⟩ ?_
  .cbv
  .cbv
  .cbv
  intro k z h' hI;cbv;obtain⟨left,b,x',D,Z,f,QI,B,jD,kA,Y,S⟩:=hI;have au:i≠j:=λe=>by
   obtain⟨_,_,_,_,_,_,g,_⟩:=Z.out;rw[e,QI]at g;cases g
  have QA:m≠j:=λe=>by
   obtain⟨_,_,_,_,_,g,_⟩:=Z.out;rw[e,QI]at g;cases g
  have aH:r≠i:=λe=>by
   obtain⟨_,_,_,_,_,_,g,_⟩:=Z.out;obtain⟨l,L⟩:=B.map;obtain⟨_,_,g',_⟩:=L.out;rw[e,g]at g';cases g'
  refine Se Z (λhl=>?_) (λkey val o h4 eC n jh aF Q k4 t4=>?_)
  .cbv;refine⟨D,z,true,rfl,⟨.inr ⟨rfl,hs,jD,kA,λk f K=>?_⟩⟩⟩;rcases S k f K with c|c
   .exact c
   rw[hl]at c;cases c
  have V:=t4 [504] _ _ _ _ (by decide) QI;have nV:=Y _ eC;obtain⟨w,hw,he⟩:=List.mem_map.1 nV;cases he;have l4:Le h h4:=D.aE (by simpa using l2.none aN) k4;have X:=B.gen k4 (by simpa using aH) (t4 _);have y:∀(a:ab) (x:Int),Le h a->It a i m o (some (.int .i64 w,.bool true))->a j=some (.cells #[.map (some r),.int .i64 x] 504 (0,0))->Rg h a r E->((s∈over E w)->w<=z)->
   ∃left b x',Le h a/\It a i m left b/\o.length=left.length/\a j=some (.cells #[.map (some r),.int .i64 x'] 504 (0,0))/\Rg h a r E/\
    s<=z/\(z=s\/(z∈over E s/\s∈over E z))/\(∀p∈left,p∈yB (over E s))/\∀k∈over E s,s∈over E k->k<=z\/(Value.int .i64 k,Value.bool true)∈left:=
   λa x a1 a2 a3 a4 a5=>⟨o,_,x,a1,a2,rfl,a3,a4,jD,kA,λp F=>Y p (jh p F),λk f K=>by
    rcases S k f K with c|c
    .exact .inl c
    rcases n _ c with d|d
    .have:k=w:=by cases d;rfl
     subst this;exact .inl (a5 K)
    exact .inr d⟩
  have M:∀(a:ab) (x:Int),Le h a->It a i m o (some (.int .i64 w,.bool true))->a j=some (.cells #[.map (some r),.int .i64 x] 504 (0,0))->Rg h a r E->s∈over E w->z<w->
   ∃left b x',Le h a/\It a i m left b/\o.length=left.length/\a j=some (.cells #[.map (some r),.int .i64 x'] 504 (0,0))/\Rg h a r E/\
    s<=w/\(w=s\/(w∈over E s/\s∈over E w))/\(∀p∈left,p∈yB (over E s))/\∀k∈over E s,s∈over E k->k<=w\/(Value.int .i64 k,Value.bool true)∈left:=
   λa x a1 a2 a3 a4 a5 a6=>⟨o,_,x,a1,a2,rfl,a3,a4,by omega,.inr ⟨hw,a5⟩,λp F=>Y p (jh p F),λk f K=>by
    rcases S k f K with c|c
    .left;omega
    rcases n _ c with d|d
    .have:k=w:=by cases d;rfl
     subst this;exact .inl (Int.le_refl _)
    exact .inr d⟩
  generalize N:A .ay .gtr w z=u;have fg:=N;rw[aX A]at N;cbv;refine Ou Q ?_;cbv;rw[fg];cases u with
  |false=>
   have q:=y h4 x' l4 Q V X (λ_=>by have:=of_decide_eq_false N;omega);cbv;refine⟨o.length,_,by omega,by constructor<;>cbv,q⟩
  |true=>
   have uo:z<w:=of_decide_eq_true N;cbv;refine(MB V X hE w).mono (λv a hR=>?_);obtain⟨O,m5,x,rfl,JG,IJ,ar⟩:=hR;have l5:Le h a:=l4.aE (by simpa using GK) O;have T:Rg h a r E:=by obtain⟨l,L⟩:=X.map;exact X.gen O (by simpa using Gs V L) (Kp.cXv O V (by decide))
   have C:=Q.kp O (by simpa using au) (by simpa using QA);cbv;refine FJ ar s (λt I=>?_);cases t with
   |true=>
    have q:=M a x l5 C IJ T (of_decide_eq_true I.symm) uo;cbv;refine⟨o.length,_,by omega,by constructor<;>cbv,q⟩
   |false=>
    have ao:s∉over E w:=of_decide_eq_false I.symm;have q:=y a x l5 C IJ T (λaW=>absurd aW ao);cbv;refine⟨o.length,_,by omega,by constructor<;>cbv,q⟩
theorem iX.Tp{b t w:Nat}{T:List bJ}{W:List (ep×Bool)}{A:List bG}{a:Nat}{m p d f:Option Addr}{C q D r k g l:Nat}{o:Int}
 (s:h c=some (.cells #[.slice (some ⟨b,0,none⟩) n t,.slice (some ⟨wb,0,none⟩) a w,.slice m C q,.slice p D r,.int .u32 o,.int .i32 0,.int .u32 0,.int .i64 e] 148 (0,0)))
 (B:(o=0/\e=0)\/(o=1/\e≠0)) (u:n=T.length) (v:cA 61 bo h b t T) (x:a=W.length) (y:cA 79 bE h wb w W) (E:Sl 253 aO h (.slice d k g) H) (F:Sl 253 aO h (.slice f l i) A)
 (j:h'=bu h c (.cells #[.slice (some ⟨b,0,none⟩) n t,.slice (some ⟨wb,0,none⟩) a w,.slice d k g,.slice f l i,.int .u32 o,.int .i32 0,.int .u32 0,.int .i64 e] 148 (0,0))):
 Kp [c] h h'/\iX h' c b wb t w T W H A e:=by
 have lt:∀tys,148∉tys->bV tys h h':=λtys z=>by rw[j];exact bV.set s z
 refine⟨by rw[j];exact Kp.set (by simp),n,a,d,k,g,f,l,i,o,by rw[j];exact ae,B,u,v.mono (lt _ (by decide)),x,y.mono (lt _ (by decide)),E.mono (lt _ (by decide)),F.mono (lt _ (by decide))⟩
theorem iX.elim{l t w:Nat}{T:List bJ}{W:List (ep×Bool)}{m:List bG}(q:iX h c l wb t w T W H m e){p:Prop}
 (k:∀(n g:Nat) (b:Option Addr) (i d:Nat) (a:Option Addr) (j f:Nat) (o:Int),h c=some (.cells #[.slice (some ⟨l,0,none⟩) n t,.slice (some ⟨wb,0,none⟩) g w,.slice b i d,.slice a j f,.int .u32 o,.int .i32 0,.int .u32 0,.int .i64 e] 148 (0,0))->
  ((o=0/\e=0)\/(o=1/\e≠0))->n=T.length->cA 61 bo h l t T->g=W.length->cA 79 bE h wb w W->Sl 253 aO h (.slice b i d) H->Sl 253 aO h (.slice a j f) m->
  eD h (.agg #[.slice (some ⟨l,0,none⟩) n t,.slice (some ⟨wb,0,none⟩) g w,.slice b i d,.slice a j f]) ⟨T,W.map (·.1),H,m⟩->p):p:=by
 obtain⟨n,g,b,i,d,a,j,f,o,z,A,r,s,u,v,x,y⟩:=q.out;exact k n g b i d a j f o z A r s u v x y ⟨_,_,_,_,_,_,_,_,_,_,_,_,W,rfl,s.sl r,v.sl u,x,y,rfl⟩
theorem dc{d:DB}{v:Value}(q:eD h v d)
 (r:∀h' b n f a m g c o i e p j,Le h h'->eD h' (.agg #[.slice b n f,.slice a m g,.slice c o i,.slice e p j]) d->k (.agg #[.slice b n f,.slice a m g,.slice c o i,.slice e p j]) h'):Ct 40 [v] h k:=
 (oP q).mono (λv h' hR=>by
  obtain⟨l,hd⟩:=hR;obtain⟨b,n,f,a,m,g,c,o,i,e,p,j,s⟩:=hd.form;rw[s]at hd |-;exact r h' _ _ _ _ _ _ _ _ _ _ _ _ l hd)
theorem jo{d:DB}{v:Value}(q:eD h v d)
 (g:∀h' c t wb a b W,Le h h'->h c=none->h t=none->h wb=none->c≠t->c≠wb->W=(d.ah.map λw=>(w,true))->a=d.aj.length->b=W.length->iX h' c t wb a b d.aj W d.holds d.waits 0->k (.pointer (some ⟨c,0,none⟩)) h'):Ct 38 [v] h k:=
 (Be q).mono (λv h' hR=>by
  obtain⟨l,c,t,wb,a,b,W,i,f,D,r,n,m,e,I,G,cs⟩:=hR;rw[i];exact g h' c t wb a b W l f D r n m e I G cs)
theorem RC{t:bJ}(q:bo.R h cs t){p:List Value->Prop}(k:∀(b:Option Addr) (n c:Nat) (a:Option Addr) (e d:Nat),Sl 202 bh h (.slice b n c) t.S.cols->Sl 46 ba h (.slice a e d) t.rows->p [.string t.S.name,.slice b n c,.int .i64 t.S.key,.bool t.S.only,.slice a e d]):p cs:=by obtain⟨b,n,c,a,e,d,rfl,f,g⟩:=q;exact k b n c a e d f g
theorem vo[bf A]{len:Nat}{xs:List bJ}(q:Sl 61 bo h (.slice b len cap) xs){t:bJ}(hx:xs[i]? =some t){n:Int}(l:n=(i:Int)){k:List Value->Prop}
 (j:∀(a:Option Addr) (f d:Nat) (c:Option Addr) (g e:Nat),Sl 202 bh h (.slice a f d) t.S.cols->Sl 46 ba h (.slice c g e) t.rows->k [.string t.S.name,.slice a f d,.int .i64 t.S.key,.bool t.S.only,.slice c g e]):vK h (A.ia b n bo.n) bo.n k:=
 q.load hx l (λcs o=>RC o j)
theorem mP[bf A]{len:Nat}{xs:List (ep×Bool)}(q:Sl 79 bE h (.slice b len cap) xs){w:ep×Bool}(hx:xs[i]? =some w){n:Int}(l:n=(i:Int)){k:List Value->Prop}
 (j:∀(d:Option Addr) (a c:Nat),Sl 161 aV h (.slice d a c) w.1.log->(w.2=true->c=a)->(∀h' e,Le h h'->e [.slice d a c]->vK h' (A .off (A .ia b n 3) 1) 1 e)->k [.slice d a c]):vK h (A .off (A .ia b n 3) 1) 1 k:=
 q.vj (s:=bE) hx l (o:=1) (m:=1) (by decide) (λcs f g=>by
  obtain⟨d,a,c,t,v,u,rfl,p,x,r⟩:=f;exact j d a c p r g)
theorem MQ{b w:Nat}{T:List bJ}{W:List (ep×Bool)}{a:List bG}(q:iX h c n wb b w T W H a e){p k:Nat}
 (g:h p=some (.cells #[.pointer (some ⟨c,0,none⟩)] 134 (0,0))) (D:h j=some (.cells #[.int .i64 hd.s] 3 (0,0))) (E:h k=some (.cells #[.string hd.table] 9 (0,0))) (F:h m=some (.cells #[.bool hd.x] 4 (0,0)))
 (Y:H.length<=2^18) (Z:a.length<=2^18):
 Ct 232 [.pointer (some ⟨p,0,none⟩),.pointer (some ⟨j,0,none⟩),.pointer (some ⟨k,0,none⟩),.pointer (some ⟨m,0,none⟩)] h
  (λv h'=>Kp [c] h h'/\∃t,v=.bool t/\t=bz H hd/\iX h' c n wb b w T W (cj H hd) (cm H a hd) e):=by
 obtain⟨n1,n2,L,n3,P,M,n4,Q,o,f,x,y,z,B,C,d,i⟩:=q.out;obtain⟨G,I,hx⟩:=hd;refine an dZb Tryz.func232 λA X=>?_;cbv;refine ak g ?_;cbv;refine ak g ?_;cbv;rw[al A];rw[al A];refine ak f ?_;cbv;refine ak D ?_;cbv;refine ak E ?_;cbv;refine ak F ?_;cbv;refine(bZH d i (by have:=d.len;omega) (by have:=i.len;omega) ⟨G,I,hx⟩).mono (λv U hR=>?_);obtain⟨l,N,n5,R,O,n6,S,t,rfl,J,K,u⟩:=hR;cbv;refine ak (l _ _ g) ?_;cbv;refine⟨⟨_,rfl,rfl⟩,?_⟩;cbv;rw[al A];rw[al A];refine jr (l _ _ f) (by simp) (λV s=>?_);have r:=iX.Tp (l _ _ f) x y (z.mono (l.t _)) B (C.mono (l.t _)) J K s;cbv;exact⟨(l.kp _).trans r.1,t,rfl,u,r.2⟩
def cU(W:List (ep×Bool))(s:Int):List Int:=W.map λx=>IntKind.i64.wrap (x.1.s-s)
def aB(T:List bJ)(name:ByteArray):List Int:=T.map λx=>cT x.S.name name
theorem xL:(cj H hd).length<=H.length+1:=by
 unfold cj;split
 .split
  .omega
  split
  .rw[List.length_set];omega
  simp
 omega
theorem iD(l:List bG)(s:Int):(bA l s).length<=l.length:=List.length_filter_le _ _
def ig:ByteArray:=⟨#[]⟩
def il(r:Row)(t:bJ):bJ×cC×Int:=((bm t r).1,⟨ig,1,r⟩,(bm t r).2)
theorem cQV{z t:Option Addr}{D B s u y:Nat}(G:Sl 202 bh h (.slice z D B) cols)(F:Sl 46 ba h (.slice t s u) o)
 (w:h y=some (.cells #[.slice b n c] 46 (0,0))) (q:Sl 45 aS h (.slice b n c) r) (E:s<=2^37):
 Ct 44 [.agg #[.string nm,.slice z D B,.int .i64 key,.bool only,.slice t s u],.pointer (some ⟨y,0,none⟩)] h (λv h'=>Le h h'/\∃a m k d p g f x i e T C,v=.tuple #[.agg #[.string nm,.slice a m k,.int .i64 key,.bool only,.slice d p g],.agg #[.string ig,.int .i64 C.op,.slice f x i],.int .i64 e]/\
  Sl 202 bh h' (.slice a m k) cols/\Sl 46 ba h' (.slice d p g) T/\Sl 45 aS h' (.slice f x i) C.row/\(⟨⟨⟨nm,cols,key,only⟩,T⟩,C,e⟩:bJ×cC×Int)=il r ⟨⟨nm,cols,key,only⟩,o⟩):=by
 refine an gKe Tryz.func44 λA N=>?_;cbv;refine ak w ?_;cbv;refine(aXt (nm:=nm) (key:=key) (only:=only) G F q E).mono (λv L hR=>?_);obtain⟨l,a,m,k,d,p,g,e,T,rfl,H,I,J⟩:=hR;cbv;refine ak (l _ _ w) ?_;cbv;refine(SZ (q.mono (l.t _))).mono (λv M hR=>?_);obtain⟨j,f,i,rfl,K⟩:=hR;cbv;exact⟨l.trans j,_,_,_,_,_,_,_,_,_,e,T,⟨ig,1,r⟩,rfl,H.mono (j.t _),I.mono (j.t _),K,by unfold il;rw[<-J]⟩
theorem SN{y u:Option Addr}{A z t w x:Nat}(H:Sl 202 bh h (.slice y A z) cols)(G:Sl 46 ba h (.slice u t w) o)
 (B:h x=some (.cells #[.slice b n c] 46 (0,0))) (q:Sl 45 aS h (.slice b n c) r) (E:t<=2^37) 
 (D:∀h' a m g d p i f s j e T C,Le h h'->Sl 202 bh h' (.slice a m g) cols->Sl 46 ba h' (.slice d p i) T->Sl 45 aS h' (.slice f s j) C.row->(⟨⟨⟨nm,cols,key,only⟩,T⟩,C,e⟩:bJ×cC×Int)=il r ⟨⟨nm,cols,key,only⟩,o⟩->
  k (.tuple #[.agg #[.string nm,.slice a m g,.int .i64 key,.bool only,.slice d p i],.agg #[.string ig,.int .i64 C.op,.slice f s j],.int .i64 e]) h'):
 Ct 44 [.agg #[.string nm,.slice y A z,.int .i64 key,.bool only,.slice u t w],.pointer (some ⟨x,0,none⟩)] h k:=
 (cQV (nm:=nm) (key:=key) (only:=only) H G B q E).mono (λv h' hR=>by
  obtain⟨l,a,m,g,d,p,i,f,s,j,e,T,C,F,I,J,K,L⟩:=hR;rw[F];exact D h' a m g d p i f s j e T C l I J K L)
end Go.S
