import Derived.Test.YtifjeceolckgaaaGreatSxA
import Derived.RecoverIn
set_option linter.all false
namespace Go.Sx
variable {op:BinOp}{g:Bool}{F c:Code}{K:Env->Loc->ad->Prop}{Q:Exit->Act->World->Prop}{fn:Func}{f:FuncId}{args cs z:List Value}{bytes cap i j l:Nat}{o:Oper}{b x:Option Addr}{d:Option Nat}{q:Prop}{k:SV->Loc->ad->Prop}{p:Unit->Program}{y:Unit->Prop}{s:Unit->Sem Value}{R:Value->ad->Prop}{h':ad}
variable {ro:Option Nat}{n:Nat}
variable {P:Program}{T:bu}{A:Ar}[bM A]
variable {ds:List Deferred}{h0:ad}{w0:World}{β:Nat->Nat}{env:Env}{L:Loc}{h:ad}{a:Act}{w:World}
theorem cXt{ops:List Oper}{env:Env}{n d c:Unit->Prop}(h:gd ops env o y n)(b:y ()->d ())(a:n ()->c ()):gd ops env o d c:=by
 unfold gd at *;repeat' split at h
 all_goals first
  |exact b h
  |exact a h
  |exact h.elim
  | (rcases pq h with⟨rfl,h⟩ | ⟨rfl,h⟩<;>first|exact b h|exact a h)
theorem yl(s:eO ds h0 w0 β env L h a w){ops:Array Oper}{n:Unit->Prop}(g:gd ops.toList env o y n):
 (Region.wanted o (yielded ops a.tmps)=true/\y ())\/(Region.wanted o (yielded ops a.tmps)=false/\n ()):=by
 unfold gd at g;split at g
 .rename_i E;exact .inl ⟨by simp[Region.wanted,E],g⟩
 rename_i j t Z;split at g
 .rename_i l c;have T:ops[j]? =some l:=by simpa using c
  split at g
  .rename_i d hd;split at g
   .rename_i b f;have e:=getD_some f (by simp);have C:=s.slot d _ e;have P:d<a.tmps.size:=by rw[s.size];exact(mQB.1 e).1
    have C:a.tmps.getD d undef=.bool b:=C;have v:a.tmps[d]? =some (.bool b):=by rw[mXx]at C;rw[mZk P]at C |-;simpa using C
    have k:Region.wanted o (yielded ops a.tmps)=(b==t):=by simp[Region.wanted,Z,yielded,T,hd,v]
    rw[k];split at g
    .rcases pq g with⟨rfl,g⟩|⟨rfl,g⟩
     .exact .inl ⟨rfl,g⟩
     exact .inr ⟨rfl,g⟩
    rcases pq g with⟨rfl,g⟩|⟨rfl,g⟩
    .exact .inr ⟨rfl,g⟩
    exact .inl ⟨rfl,g⟩
   .rename_i i f;have e:=getD_some f (by simp);have C:=s.slot d _ e;have P:d<a.tmps.size:=by rw[s.size];exact(mQB.1 e).1
    have C:a.tmps.getD d undef=.tuple i:=C;have v:a.tmps[d]? =some (.tuple i):=by rw[mXx]at C;rw[mZk P]at C |-;simpa using C
    exact .inr ⟨by simp[Region.wanted,Z,yielded,T,hd,v],g⟩
   exact g.elim
  rename_i hd;exact .inr ⟨by simp[Region.wanted,Z,yielded,T,hd],g⟩
 rename_i c;have T:ops[j]? =none:=by simpa using c
 exact .inr ⟨by simp[Region.wanted,Z,yielded,T],g⟩
theorem sV(d:gE P T){ops:Array Oper}
 (m:qN T ds h0 w0 Q) (f:∀u e h' B t w',K u e h'->eO ds h0 w0 B u e h' t w'->Q .normal t w'):
 ∀(l:List Oper) (env:Env) (L:Loc) (h:ad) (β:Nat->Nat) (a:Act) (w:World),eO ds h0 w0 β env L h a w->
  JW A T (λ_=>P) ops.toList K l env L h->wpListIn (FW ro) n P ops Q l a w
 | [],env,L,h,β,a,w,b,hx=>f _ _ _ _ _ _ hx b
 |o::r,env,L,h,β,a,w,b,hx=>by
  unfold JW at hx;unfold wpListIn;rcases yl b hx with⟨hw,hx⟩|⟨hw,hx⟩
  .rw[if_pos hw];split at hx
   .obtain⟨z,D,j,k⟩:=vH hx;obtain⟨v,w',B,p,C⟩:=Ef d b (k (λx y=>x=z/\y=D) ⟨rfl,rfl⟩);refine wV p ?_;exact sV d m f r _ _ _ _ _ _ C j
   refine Tf d b (Lc:=L) (λ_ _ q=>q) hx m λz v F e h' w' j k p=>?_;have:F=e:=by
    rcases p with⟨g,i⟩|⟨s,c,x,y,-,-,g,i⟩
    .rw[g,i]
    rw[g,i]
   subst this;exact sV d m f r _ _ _ _ _ _ k j
  rw[if_neg (by simp[hw])];refine⟨λ_ _=>trivial,?_⟩;exact sV d m f r _ _ _ _ _ _ (b.put (x:=.v undef) (v:=undef) rfl) hx
def oV(o:Oper):Bool:=match o.op with
 | .load .. =>true
 |_=>false
def pL(o:Oper):Bool:=match o.op with
 | .alloc _| .box .. =>true
 |_=>false
def gQ(o:Oper):Bool:=match o.op with
 | .assign _=>true
 |_=>false
theorem pZ{m X:Operand->SV}{L v:Loc}{h:ad}{k:SV->Option (List Value)->Prop}(j:kG A T p o m L h k)
 (F:∀x∈o.op.operands.toList,X x=m x) (E:oV o=true->∀x∈o.op.operands.toList,∀s off,m x=.loc s off->∀c,mM L s=some c->mM v s=some c)
 (D:pL o=true->∀d,o.dst=some d->mM v d=none) (H:oV o=true->h'=h):kG A T p o X v h' k:=by
 unfold kG at j |-;split at j;case h_1 x a=>simp only[a]at F |-;rw[F x (by simp[Op.operands])];exact j
 case h_2 c x y a=>simp only[a]at F |-;rw[F c (by simp[Op.operands]),F x (by simp[Op.operands]),F y (by simp[Op.operands])];exact j
 case h_3 e a=>
  have C:=D (by simp[pL,a]);simp only[a]at F |-;split at j
  .exact j.elim
  split at j
  .exact j.elim
  rename_i d hd;split at j
  .simp only[C d hd];exact j
  exact j.elim
 case h_4 e x a=>
  have C:=D (by simp[pL,a]);simp only[a]at F |-;rw[F x (by simp[Op.operands])];split at j
  .exact j.elim
  rename_i d hd;split at j
  .split at j
   .simp only[C d hd];exact j
   exact j.elim
  exact j.elim
 case h_5 t x a=>
  have K:=E (by simp[oV,a]);have B:=H (by simp[oV,a]);subst B;simp only[a]at F K |-;rw[F x (by simp[Op.operands])];split at j
  .exact j.elim
  split at j
  .rename_i s off hx;split at j
   .rename_i c G;simp only[K x (by simp[Op.operands]) s off hx c G];exact j
   exact j.elim
  .exact j
  exact j.elim
 case h_6 x a=>simp only[a]at F |-;rw[F x (by simp[Op.operands])];exact j
 case h_7 t x f a=>simp only[a]at F |-;rw[F x (by simp[Op.operands])];exact j
 case h_8 t x i a=>simp only[a]at F |-;rw[F x (by simp[Op.operands]),F i (by simp[Op.operands])];exact j
 case h_9 t x i a=>simp only[a]at F |-;rw[F x (by simp[Op.operands]),F i (by simp[Op.operands])];exact j
 case h_10 t x f a=>simp only[a]at F |-;rw[F x (by simp[Op.operands])];exact j
 case h_11 x i a=>simp only[a]at F |-;rw[F x (by simp[Op.operands])];exact j
 case h_12 t parts a=>
  simp only[a]at F |-;have:∀l:List (Nat×Operand),(∀q∈l,X q.2=m q.2)->pY X l=pY m l:=λl=>by
   induction l with
   |nil=>intro _;rfl
   |cons q r M=>intro u;obtain⟨i,x⟩:=q;unfold pY;rw[u (i,x) (by simp),M (λq Q=>u q (by simp[Q]))]
  rw[this parts.toList (λq u=>F q.2 (by simp only[Op.operands,mQW];exact⟨q,u,rfl⟩))];exact j
 case h_13 op t x y ty a=>simp only[a]at F |-;rw[F x (by simp[Op.operands]),F y (by simp[Op.operands])];exact j
 case h_14 op t x a=>simp only[a]at F |-;rw[F x (by simp[Op.operands])];exact j
 case h_15 s d x a=>simp only[a]at F |-;rw[F x (by simp[Op.operands])];exact j
 case h_16 t x a=>simp only[a]at F |-;rw[F x (by simp[Op.operands])];exact j
 case h_17 fn f c a=>
  simp only[a]at F |-;rw[mZv (g:=m) (λx hx=>F x (by simp only[Op.operands,mJR,mQE];exact .inl hx)),
   mZv (l:=c.toList) (g:=m) (λx hx=>F x (by simp only[Op.operands,mJR,mQE];exact .inr hx))]
  exact j
 case h_18 t x N I O a=>
  simp only[a]at F |-;have w:∀y:Option Operand,(∀z,y=some z->X z=m z)->bJV X y=bJV m y:=λy J=>by
   cases y with
   |none=>rfl
   |some z=>simp only[bJV,J z rfl]
  rw[w N (λz n=>F z (by simp[Op.operands,n])),w I (λz n=>F z (by simp[Op.operands,n])),w O (λz n=>F z (by simp[Op.operands,n])),
   F x (by simp[Op.operands])]
  exact j
 case h_19 b args argTypes a=>simp only[a]at F |-;rw[mZv (g:=m) (λx hx=>F x (by simp[Op.operands,Call.operands];simpa using hx))];exact j
 case h_20 x q as ok a=>simp only[a]at F |-;rw[F x (by simp[Op.operands])];exact j
 case h_21=>exact j.elim
theorem aKe{d X:Operand->SV}{L:Loc}{h:ad}(c:hx A T p o d L h k)
 (F:∀x∈o.op.operands.toList,X x=d x) (K:∀t∈T.rs,X (.tmp t)=d (.tmp t)):hx A T p o X L h k:=by
 have P:(T.rs.map λt=>X (.tmp t))=(T.rs.map λt=>d (.tmp t)):=mZv K;unfold hx at c |-;split at c;case h_1 x a=>simp only[a]at F |-;rw[F x (by simp[Op.operands])];exact c
 case h_2 t x y a=>simp only[a]at F |-;rw[F x (by simp[Op.operands]),F y (by simp[Op.operands])];exact c
 case h_3 e a=>simp only[a]at F |-;exact c
 case h_4 e x a=>simp only[a]at F |-;rw[F x (by simp[Op.operands])];exact c
 case h_5 t len parts a=>
  simp only[a]at F |-;have:∀l:List (Nat×Operand),(∀q∈l,X q.2=d q.2)->pY X l=pY d l:=λl=>by
   induction l with
   |nil=>intro _;rfl
   |cons q r n=>intro j;obtain⟨i,x⟩:=q;unfold pY;rw[j (i,x) (by simp),n (λq Q=>j q (by simp[Q]))]
  rw[this parts.toList (λq j=>F q.2 (by simp only[Op.operands,mQW];exact⟨q,j,rfl⟩))];exact c
 case h_6 t x y a=>simp only[a]at F |-;rw[F x (by simp[Op.operands]),F y (by simp[Op.operands])];exact c
 case h_7 t r a=>simp only[a]at F |-;exact c
 case h_8 f args argTypes a=>simp only[a]at F |-;rw[F f (by simp[Op.operands,Call.operands]),mZv (g:=d) (λx hx=>F x (by simp[Op.operands,Call.operands];right;simpa using hx)),P];exact c
 case h_9 b args argTypes a=>simp only[a]at F |-;rw[mZv (g:=d) (λx hx=>F x (by simp[Op.operands,Call.operands];simpa using hx))];exact c
 case h_10 src dst x a=>simp only[a]at F |-;rw[F x (by simp[Op.operands])];exact c
 case h_11 t x i b a=>simp only[a]at F |-;rw[F x (by simp[Op.operands]),F i (by simp[Op.operands])];exact c
 case h_12 t m i x a=>simp only[a]at F |-;rw[F m (by simp[Op.operands]),F i (by simp[Op.operands]),F x (by simp[Op.operands])];exact c
 case h_13 t m i a=>simp only[a]at F |-;rw[F m (by simp[Op.operands]),F i (by simp[Op.operands])];exact c
 case h_14 t m i x a=>simp only[a]at F |-;rw[F m (by simp[Op.operands]),F i (by simp[Op.operands]),F x (by simp[Op.operands])];exact c
 case h_15 t x a=>simp only[a]at F |-;rw[F x (by simp[Op.operands])];exact c
 case h_16 it str a=>simp only[a]at F |-;rw[F it (by simp[Op.operands])];exact c
 case h_17 it a=>simp only[a]at F |-;rw[F it (by simp[Op.operands])];exact c
 case h_18 t m i x a=>simp only[a]at F |-;rw[F m (by simp[Op.operands]),F i (by simp[Op.operands]),F x (by simp[Op.operands])];exact c
 case h_19 x a=>simp only[a]at F |-;rw[F x (by simp[Op.operands]),P];exact c
 case h_20=>exact c.elim
variable {P:Program}{T:bu}{A:Ar}[bM A]
variable {ds:List Deferred}{h0:ad}{w0:World}
def mL(o:Oper):List Nat:=(o.after.toList.filter λe=>Region.binds .any e).map (·.on)
def Ab(T:bu)(ops:Array Oper):Bool:=
 (List.range ops.size).all λi=>match ops[i]? with
  |none=>false
  |some oi=>(mL oi).all (λe=>decide (e<i))&&
   (match oi.dst with|none=>true|some d=> !nN T oi|| !(oi.looksAt ops).contains d)&&
   (List.range ops.size).all λj=>i==j||match ops[j]? with
    |none=>false
    |some oj=>match oi.dst with
     |none=>true
     |some d=>oj.dst !=some d&&(!(oj.looksAt ops).contains d||(mL oj).contains i||(!nN T oi&&(mL oi).contains j))
def aZh(T:bu)(ops:Array Oper):Bool:=ops.toList.all λo=>match o.dst with
 |some d=> !T.rs.contains d
 |none=>true
theorem Yg{T:bu}{ops:Array Oper}(h:aZh T ops=true)(b:ops[i]? =some o){t:Nat}(c:t∈T.rs):o.dst≠some t:=λhd=>by
 unfold aZh at h;rw[mXq]at h;have a:=h o (by
  obtain⟨l,rfl⟩:=mXD.1 b;simp)
 rw[hd]at a;simp[c]at a
def mB(ops:Array Oper):Nat->List Nat->List Nat
 |0,s=>s
 |i+1,s=>mB ops i (if s.contains i then(match ops[i]? with|some o=>mL o|none=>[])++s else s)
def wo:zX->List Nat
 | .av i _ _=>[i]
 | .fork l r=>wo l++wo r
 |_=>[]
def Nn(ops:Array Oper)(p:zX)(listed:List Nat):Bool:=
 (List.range ops.size).all λj=>listed.contains j||(wo p).contains j||match ops[j]? with
  |some o=> !(mL o).all listed.contains
  |none=>true
def Ge(T:bu)(ops:Array Oper):zX->Bool->List Nat->List Nat->List Nat->Bool
 | .done,br,listed,_,_=> !br&&(List.range ops.size).all listed.contains
 | .aa i rest,br,listed,pend,known=> !br&& !listed.contains i&&(match ops[i]? with
  |some o=>nN T o&&(mL o).all listed.contains
  |none=>false)&&Ge T ops rest false (i::listed) (i::pend) known
 | .av i pn rest,br,listed,pend,known=>(br||Nn ops (.av i pn rest) listed)&& !listed.contains i&&(match ops[i]? with
  |some o=> !nN T o&&(gQ o||pend.all λj=>(mB ops ops.size (i::known)).contains j||pn.contains j||(match ops[j]? with
   |some oj=> !oV oj
   |none=>true))
  |none=>false)&&
  Ge T ops rest false (i::listed) (pend.filter λj=> !(mB ops ops.size (i::known)).contains j) (mB ops ops.size (i::known))
 | .fork l r,br,listed,pend,known=>(br||Nn ops (.fork l r) listed)&&Ge T ops l true listed pend known&&Ge T ops r true listed pend known
theorem rI{ops:Array Oper}(r:Ab T ops=true)(f:ops[i]? =some o):
 (∀e∈mL o,e<i)/\(nN T o=true->∀d,o.dst=some d->d∉o.looksAt ops)/\∀j b,i≠j->ops[j]? =some b->∀d,o.dst=some d->b.dst≠some d/\
  (d∈b.looksAt ops->i∈mL b\/(nN T o=false/\j∈mL o)):=by
 unfold Ab at r;rw[mXq]at r;have P:i<ops.size:=(mXD.1 f).1;have c:=r i (by simpa using P);simp only[f,mQQ,mXq,mQR]at c;refine⟨c.1.1,λm d hd=>?_,λj b k g d hd=>?_⟩
 .have:=c.1.2;simp only[hd,m,nQk,mZU,mZx,mZz,decide_eq_false_iff_not]at this;exact this
 have a:=c.2 j (by simpa using (mXD.1 g).1);simp only[g,hd,mJn,beq_iff_eq,mQQ,bne_iff_ne,mZx,mZz,mQR,decide_eq_false_iff_not]at a;rcases a with a| ⟨a,h⟩
 .exact absurd a k
 refine⟨a,λn=>?_⟩;rcases h with (h|h)|⟨h,l⟩
 .exact absurd n h
 .exact .inl h
 exact .inr ⟨h,l⟩
def In(X:Array Bool)(i:Nat):Prop:=X.getD i false=true
theorem In.set{X:Array Bool}(a:i<X.size):In (X.setIfInBounds i true) j↔i=j\/In X j:=by
 unfold In;simp only[mXx,nQZ];by_cases h:i=j
 .subst h;simp[a]
 simp[h]
theorem Kw:i∈mL o↔∃e∈o.after,Region.binds .any e=true/\e.on=i:=by simp[mL,and_assoc]
theorem DX{ops:Array Oper}{X:Array Bool}(hX:X.size=ops.size):
 j∈Region.ready .any ops X↔¬In X j/\∃o,ops[j]? =some o/\∀e∈mL o,In X e:=by
 rw[mem_ready];constructor
 .rintro⟨h,o,a,b⟩;have P:j<X.size:=by rw[hX];exact(mXD.1 a).1
  refine⟨?_,o,a,λe c=>?_⟩
  .unfold In;rw[mXx,mZk P]at h |-;simp at h |-;exact h
  obtain⟨e',d,f,rfl⟩:=Kw.1 c;exact b e' d f
 rintro⟨h,o,a,b⟩;have P:j<X.size:=by rw[hX];exact(mXD.1 a).1
 refine⟨?_,o,a,λe c g=>b e.on (Kw.2 ⟨e,c,g,rfl⟩)⟩;unfold In at h;rw[mXx,mZk P]at h |-;simp at h |-;exact h
theorem IJ{ops:Array Oper}{X:Array Bool}(hd:∀i o,In X i->ops[i]? =some o->∀e∈mL o,In X e):
 ∀(n:Nat) (s:List Nat),(∀i∈s,In X i)->∀i∈mB ops n s,In X i
 |0,s,a=>a
 |n+1,s,a=>by
  unfold mB;refine IJ hd n _ λi h=>?_;split at h
  .rename_i c;rcases mQE.1 h with h|h
   .cases b:ops[n]? with
    |none=>rw[b]at h;cases h
    |some o=>rw[b]at h;exact hd n o (a n (by simpa using c)) b i h
   exact a i h
  exact a i h
structure sN where
 i:Nat
 o:Oper
 sv:SV
 nb:Option (List Value)
def sN.fact(A:Ar)(T:bu)(P:Program)(ops:Array Oper)(env:Env)(L:Loc)(h:ad)(x:sN):Prop:=
 gd ops.toList env x.o (λ_=>kG A T (λ_=>P) x.o (rq env) (if pL x.o then []else L) h (λa b=>a=x.sv/\b=x.nb)) (λ_=>x.sv=.v undef/\x.nb=none)
structure jH(A:Ar)(T:bu)(P:Program)(ops:Array Oper)(X:Array Bool)(D:List sN)(listed pend known:List Nat)(envc:Env)(Lc:Loc)(kT:Env)(La:Loc)(h:ad):Prop where
 size:X.size=ops.size
 dZU:∀j,j∈listed↔In X j\/∃x∈D,x.i=j
 apart:∀x∈D,¬In X x.i
 down:∀i o,In X i->ops[i]? =some o->∀e∈mL o,In X e
 known:∀i∈known,In X i
 pend:∀x∈D,x.i∈pend
 len:kT.length=envc.length
 env:∀t,(∀x∈D,x.o.dst≠some t)->kT[t]? =envc[t]?
 dst:∀x∈D,∀t,x.o.dst=some t->t<envc.length->envc[t]? =some x.sv
 loc:∀s,(∀x∈D,x.nb.isSome=true->x.o.dst≠some s)->mM La s=mM Lc s
 box:∀x∈D,∀s c,x.nb=some c->x.o.dst=some s->mM La s=none/\mM Lc s=some c
 op:∀x∈D,ops[x.i]? =some x.o/\nN T x.o=true
 eKy:∀x∈D,∀e∈mL x.o,e∈listed
 uniq:∀x∈D,∀y∈D,x.i=y.i->x=y
 fact:∀x∈D,x.fact A T P ops envc Lc h
theorem CL{ops:List Oper}{env:Env}{n:Unit->Prop}(h:gd ops env o y n):
 (y ()/\∀b a:Unit->Prop,gd ops env o b a↔b ())\/(n ()/\∀b a:Unit->Prop,gd ops env o b a↔a ()):=by
 unfold gd at *;repeat' split at h
 all_goals first
  |exact h.elim
  |exact .inl ⟨h,λ_ _=>Iff.rfl⟩
  |exact .inr ⟨h,λ_ _=>Iff.rfl⟩
  | (rcases pq h with⟨rfl,h⟩ | ⟨rfl,h⟩<;>first
   |exact .inl ⟨h,λ_ _=>Iff.rfl⟩
   |exact .inr ⟨h,λ_ _=>Iff.rfl⟩)
theorem Io{ops:Array Oper}{env c:Env}{n:Unit->Prop}(h:gd ops.toList env o y n)(e:∀t∈o.looksAt ops,c[t]? =env[t]?):
 gd ops.toList c o y n:=by
 have key:∀(j:Nat) (w:Bool),o.guard=some (j,w)->∀a,ops.toList[j]? =some a->∀d,a.dst=some d->c.getD d .u=env.getD d .u:=λj w b a T d hd=>by
  rw[mXE,mXE,e d ?_];unfold Oper.looksAt;refine mZT _ ?_;have x:ops[j]? =some a:=by simpa using T
  simp[b,x,hd]
 unfold gd at h |-;cases b:o.guard with
 |none=>simp only[b]at h;exact h
 |some f=>
  obtain⟨j,w⟩:=f;simp only[b]at h |-;cases T:ops.toList[j]? with
  |none=>simp only[T]at h;exact h
  |some a=>
   simp only[T]at h |-;cases hd:a.dst with
   |none=>simp only[hd]at h;exact h
   |some d=>simp only[hd]at h |-;rw[key j w b a T d hd];exact h
theorem BL{ops:Array Oper}{env d:Env}(h:∀t∈o.looksAt ops,d[t]? =env[t]?):∀x∈o.op.operands.toList,rq d x=rq env x:=λx hx=>by
 cases x with
 |tmp t=>show d.getD t .u=env.getD t .u;rw[mXE,mXE,h t ?_];unfold Oper.looksAt;exact mZf _ (List.mem_filterMap.2 ⟨.tmp t,hx,rfl⟩)
 |const v=>rfl
 |global g=>rfl
 |func f=>rfl
theorem nE{env:Env}{x:SV}{t:Nat}(h:d≠some t):(put env d x)[t]? =env[t]? :=by
 cases d with
 |none=>rfl
 |some u=>simp only[put];rw[mJm (λe=>h (by rw[e]))]
theorem BO{env:Env}{t:Nat}{x:SV}(h:t<env.length):(put env (some t) x)[t]? =some x:=by simp only[put];rw[mZi h]
theorem pw{env:Env}{x:SV}:(put env d x).length=env.length:=by cases d<;>simp[put]
theorem aZl(h:uF g cs (λ_=>q)):q:=(nD h).elim λ_ h=>h.2
theorem fQs{h:ad}{x:Addr}{n:Nat}(k:Bn h x n (λcs=>uF g cs (λ_=>q))):q:=k.out.elim λ_ h=>aZl h.2
theorem dXM(h:EG p s (λ_=>q)):q:=h.out.elim λ_ h=>h.2
theorem fJH{p:Unit->Prop}(h:wI p (λ_=>q)):q:=h.out
theorem aXR{len s:Nat}{l a m:Option Int}(h:GV A b len cap s l a m (λ_=>q)):q:=(AK h).elim λ_ h=>h.1
theorem aXS{s:ByteArray}{l a:Option Int}(h:GW A s l a (λ_=>q)):q:=(AM h).elim λ_ h=>h.1
theorem eXm{a b:Value}{e:(Value->Prop)->Unit->Prop}(d:∀k,e k ()->∃v,k v/\∀c:Value->Prop,c v->e c ())(f:QZ A op a b (λ_=>q) (e (λ_=>q))):q:=(IM d f).elim λ_ h=>h.1
theorem eXl{a b:Value}(d:QZ A op a b (λ_=>q) (λ_=>EG p s (λ_=>q))):q:=
 eXm (e:=λk _=>EG p s k) (λk h=>by
  obtain⟨v,g,c⟩:=h.out;exact⟨v,c,λf h'=>⟨v,g,h'⟩⟩) d
theorem AX{j:Operand->SV}{L:Loc}{h:ad}{s:SV}{n:Option (List Value)}(k:kG A T p o j L h (λa b=>a=s/\b=n)):
 (pL o=true->n.isSome=true/\∃d,o.dst=some d/\mM L d=none)/\(pL o=false->n=none):=by
 obtain⟨J,i,⟨rfl,rfl⟩,V⟩:=vH k;clear k;have c:=V (λa b=>b=i) rfl;clear V;unfold kG at c;split at c;case h_3 e f=>
  refine⟨λ_=>?_,λg=>by simp[pL,f]at g⟩;split at c
  .exact c.elim
  split at c
  .exact c.elim
  rename_i d hd;split at c
  .rename_i l;subst c;exact⟨rfl,d,hd,l⟩
  exact c.elim
 case h_4 e x f=>
  refine⟨λ_=>?_,λg=>by simp[pL,f]at g⟩;split at c
  .exact c.elim
  rename_i d hd;split at c
  .split at c
   .rename_i l;subst c;exact⟨rfl,d,hd,l⟩
   exact c.elim
  exact c.elim
 case h_21=>exact c.elim
 all_goals
  rename_i f;refine⟨λg=>by simp[pL,f]at g,λ_=>?_⟩;clear f;repeat' split at c
  all_goals first
   |exact c.elim
   |exact Eq.symm c
   |exact Eq.symm (fQs c)
   |exact Eq.symm (aZl c)
   |exact Eq.symm (dXM c)
   |exact Eq.symm (fJH c)
   |exact Eq.symm (eXl c)
   |exact Eq.symm (aXR c)
   |exact Eq.symm (aXS c)
variable {ro:Option Nat}{n:Nat}
variable {P:Program}{T:bu}{A:Ar}[bM A]
variable {ds:List Deferred}{h0:ad}{w0:World}{β:Nat->Nat}{h:ad}{a:Act}{w:World}
variable {ops:Array Oper}{X:Array Bool}{D:List sN}{listed pend known:List Nat}{envc kT:Env}{Lc La:Loc}
theorem yB{L:Loc}{n:Option (List Value)}{s:Nat}:mM (vT L d n) s=if d=some s/\n.isSome=true then n else mM L s:=by
 cases d with
 |none=>simp[vT]
 |some t=>
  cases n with
  |none=>simp[vT]
  |some c=>simp only[vT,mM];by_cases h:t=s<;>simp[h]
theorem sN.yp{x:sN}{env f:Env}{L e:Loc}{h:ad}(j:x.fact A T P ops env L h)(g:∀t∈x.o.looksAt ops,f[t]? =env[t]?)
 (i:oV x.o=true->∀s c,mM L s=some c->mM e s=some c) (k:oV x.o=true->h'=h):x.fact A T P ops f e h':=by
 unfold sN.fact at *;refine cXt (Io j g) (λq=>?_) id;refine pZ q (BL g) (λl y n s off m c a=>?_) (λb d hd=>?_) k
 .split at a
  .cases a
  rename_i b;rw[if_neg b];exact i l s c a
 rw[if_pos b];rfl
theorem jH.look(B:jH A T P ops X D listed pend known envc Lc kT La h)(r:Ab T ops=true){k:Nat}(d:ops[k]? =some o)(p:∀e∈mL o,In X e):
 ∀t∈o.looksAt ops,kT[t]? =envc[t]? :=λt f=>B.env t λx hx hd=>by
 obtain⟨b,l⟩:=B.op x hx;obtain⟨-,g,i⟩:=rI r b;by_cases c:x.i=k
 .rw[c,d]at b;cases b;exact g l t hd f
 rcases(i k o c d t hd).2 f with a| ⟨a,-⟩
 .exact B.apart x hx (p _ a)
 rw[l]at a;cases a
theorem jH.sub(B:jH A T P ops X D listed pend known envc Lc kT La h){s:Nat}{c:List Value}(l:mM La s=some c):mM Lc s=some c:=by
 rw[<-B.loc s (λx hx n hd=>?_)]
 .exact l
 obtain⟨c',w⟩:=mZA.1 n;rw[(B.box x hx s c' w hd).1]at l;cases l
theorem jH.cQl(B:jH A T P ops X D listed pend known envc Lc kT La h)(h:In X j):j∈listed:=(B.dZU j).2 (.inl h)
theorem jH.take(B:jH A T P ops X D listed pend known envc Lc kT La h)(hr:Ab T ops=true)(S:ops[i]? =some o)(C:i∉listed)(E:nN T o=true)
 (hp:∀e∈mL o,e∈listed) {K:SV->Option (List Value)->Prop} {N:Prop}
 (hx:gd ops.toList envc o (λ_=>kG A T (λ_=>P) o (rq envc) Lc h K) (λ_=>N)):
 ∃v n,(K v n\/(N/\v=.v undef/\n=none))/\jH A T P ops X (⟨i,o,v,n⟩::D) (i::listed) (i::pend) known (put envc o.dst v) (vT Lc o.dst n) kT La h:=by
 obtain⟨-,G,M⟩:=rI hr S;have w:∀x∈D,i≠x.i:=λx hx e=>C ((B.dZU i).2 (.inr ⟨x,hx,e.symm⟩));have F:∃v n,(K v n\/(N/\v=.v undef/\n=none))/\sN.fact A T P ops envc Lc h ⟨i,o,v,n⟩/\(∀d c,o.dst=some d->n=some c->mM Lc d=none):=by
  rcases CL hx with⟨g,u⟩|⟨g,u⟩
  .obtain⟨v,n,p,W⟩:=vH g;have O:=W (λa b=>a=v/\b=n) ⟨rfl,rfl⟩;refine⟨v,n,.inl p,(u _ _).2 ?_,λd c hd f=>?_⟩
   .exact pZ O (λ_ _=>rfl) (λhl y _ s off _ c f=>by
     have:pL o=false:=by cases hq:o.op<;>simp[oV,pL,hq]at hl |-
     simp[this,f]) (λz d hd=>by simp[z,mM]) (λ_=>rfl)
   have z:=AX O;cases Q:pL o with
   |true=>obtain⟨-,d',Z,m⟩:=z.1 Q;rw[hd]at Z;cases Z;exact m
   |false=>rw[z.2 Q]at f;cases f
  exact⟨.v undef,none,.inr ⟨g,rfl,rfl⟩,(u _ _).2 ⟨rfl,rfl⟩,λd c _ f=>by cases f⟩
 obtain⟨v,n,hK,hf,I⟩:=F;have J:∀x∈D,∀t,o.dst=some t->x.o.dst≠some t:=λx hx t k=>(M x.i x.o (w x hx) (B.op x hx).1 t k).1;have Y:∀s c,mM Lc s=some c->mM (vT Lc o.dst n) s=some c:=λs c f=>by
  rw[yB];split
  .rename_i r;obtain⟨c',wG⟩:=mZA.1 r.2;rw[I s c' r.1 wG]at f;cases f
  exact f
 refine⟨v,n,hK,⟨B.size,λj=>?_,λx hx=>?_,B.down,B.known,λx hx=>?_,by rw[pw];exact B.len,λt k=>?_,λx hx t hd l=>?_,λs U=>?_,λx hx s c m hd=>?_,
  λx hx=>?_,λx hx e R=>?_,λx hx y q H=>?_,λx hx=>?_⟩⟩
 .simp only[mQI,B.dZU j];constructor
  .rintro(rfl|g| ⟨x,hx,e⟩)
   .exact .inr ⟨_,.inl rfl,rfl⟩
   .exact .inl g
   exact .inr ⟨x,.inr hx,e⟩
  rintro(g| ⟨x,rfl|hx,e⟩)
  .exact .inr (.inl g)
  .exact .inl e.symm
  exact .inr (.inr ⟨x,hx,e⟩)
 .rcases mQI.1 hx with rfl|hx
  .exact λV=>C (B.cQl V)
  exact B.apart x hx
 .rcases mQI.1 hx with rfl|hx
  .exact mXn
  exact mXm _ (B.pend x hx)
 .rw[nE (k ⟨i,o,v,n⟩ (by simp))];exact B.env t λx hx=>k x (by simp[hx])
 .rw[pw]at l;rcases mQI.1 hx with rfl|hx
  .simp only at hd;rw[hd,BO l]
  rw[nE (λe=>J x hx t e hd)];exact B.dst x hx t hd l
 .rw[yB,if_neg (λf=>U ⟨i,o,v,n⟩ (by simp) f.2 f.1)];exact B.loc s λx hx=>U x (by simp[hx])
 .rcases mQI.1 hx with rfl|hx
  .simp only at m hd;refine⟨?_,by rw[yB,if_pos ⟨hd,by simp[m]⟩];exact m⟩;rw[B.loc s (λy q _ L=>J y q s hd L)];exact I s c hd m
  obtain⟨g,u⟩:=B.box x hx s c m hd;exact⟨g,Y s c u⟩
 .rcases mQI.1 hx with rfl|hx
  .exact⟨S,E⟩
  exact B.op x hx
 .rcases mQI.1 hx with rfl|hx
  .exact mXm _ (hp e R)
  exact mXm _ (B.eKy x hx e R)
 .rcases mQI.1 hx with rfl|hx<;>rcases mQI.1 q with rfl|q
  .rfl
  .exact absurd H (w y q)
  .exact absurd H.symm (w x hx)
  exact B.uniq x hx y q H
 rcases mQI.1 hx with rfl|hx
 .exact sN.yp hf (λt k=>nE (λe=>G E t e k)) (λ_=>Y) (λ_=>rfl)
 refine sN.yp (B.fact x hx) (λt k=>nE (λe=>?_)) (λ_=>Y) (λ_=>rfl);rcases(M x.i x.o (w x hx) (B.op x hx).1 t e).2 k with p| ⟨p,-⟩
 .exact C (B.eKy x hx i p)
 rw[E]at p;cases p
theorem jH.catch(hT:gE P T)(B:jH A T P ops X D listed pend known envc Lc kT La h)(hr:Ab T ops=true)(r:eO ds h0 w0 β kT La h a w){x:sN}(hx:x∈D)
 (hp:∀e∈mL x.o,In X e)  {K:Act->World->Prop}
 (hK:∀C a' w' Lg J,eO ds h0 w0 C Lg J h a' w'->jH A T P ops (X.setIfInBounds x.i true) (D.filter λy=>y.i !=x.i) listed pend known envc Lc Lg J h->K a' w'):
 wpOpIn (FW ro) n P ops Q x.i K a w:=by
 obtain⟨p,aP⟩:=B.op x hx;have H:=B.look hr p hp;have Y:x.i<X.size:=by rw[B.size];exact(mXD.1 p).1
 have V:∀y,(y∈D.filter λy=>y.i !=x.i)↔y∈D/\y.i≠x.i:=λy=>by simp
 have tY:∀C v,eO ds h0 w0 C (put kT x.o.dst x.sv) (vT La x.o.dst x.nb) h (a.put x.o.dst v) w->True:=λ_ _ _=>trivial;have fin:jH A T P ops (X.setIfInBounds x.i true) (D.filter λy=>y.i !=x.i) listed pend known envc Lc (put kT x.o.dst x.sv) (vT La x.o.dst x.nb) h:=by
  obtain⟨-,-,Tr⟩:=rI hr p;have F:∀y∈D,y.i≠x.i->∀t,x.o.dst=some t->y.o.dst≠some t:=λy f ch t U=>(Tr y.i y.o (Ne.symm ch) (B.op y f).1 t U).1;refine⟨by simp[B.size],λj=>?_,λy f=>?_,λi o Z u e he=>?_,λi hi=>?_,λy f=>B.pend y ((V y).1 f).1,by rw[pw];exact B.len,λt U=>?_,
   λy f=>B.dst y ((V y).1 f).1,λs KG=>?_,λy f s c m hd=>?_,λy f=>B.op y ((V y).1 f).1,λy f=>B.eKy y ((V y).1 f).1,
   λy f z hz=>B.uniq y ((V y).1 f).1 z ((V z).1 hz).1,λy f=>B.fact y ((V y).1 f).1⟩
  .rw[B.dZU j,In.set Y];constructor
   .rintro(g| ⟨y,f,e⟩)
    .exact .inl (.inr g)
    by_cases N:y.i=x.i
    .exact .inl (.inl (by rw[<-N,e]))
    exact .inr ⟨y,(V y).2 ⟨f,N⟩,e⟩
   rintro((g|g)|⟨y,f,e⟩)
   .exact .inr ⟨x,hx,g⟩
   .exact .inl g
   exact .inr ⟨y,((V y).1 f).1,e⟩
  .rw[In.set Y];obtain⟨g,O⟩:=(V y).1 f;rintro(e|e)
   .exact O e.symm
   exact B.apart y g e
  .rw[In.set Y]at Z |-;rcases Z with e'|Z
   .subst e';rw[p]at u;cases u;exact .inr (hp e he)
   exact .inr (B.down i o Z u e he)
  .rw[In.set Y];exact .inr (B.known i hi)
  .by_cases hd:x.o.dst=some t
   .by_cases l:t<envc.length
    .rw[hd,BO (by rw[B.len];exact l),B.dst x hx t hd l]
    have M:(put kT x.o.dst x.sv).length<=t:=by rw[pw,B.len];exact mJH l
    rw[mXX M,mXX (mJH l)]
   rw[nE hd];refine B.env t λy f L=>?_;by_cases N:y.i=x.i
   .rw[B.uniq y f x hx N]at L;exact hd L
   exact U y ((V y).2 ⟨f,N⟩) L
  .rw[yB];split
   .rename_i k;obtain⟨c,G⟩:=mZA.1 k.2;rw[(B.box x hx s c G k.1).2,G]
   rename_i k;refine B.loc s λy f m L=>?_;by_cases N:y.i=x.i
   .rw[B.uniq y f x hx N]at L m;exact k ⟨L,m⟩
   exact KG y ((V y).2 ⟨f,N⟩) m L
  obtain⟨g,O⟩:=(V y).1 f;obtain⟨R,S⟩:=B.box y g s c m hd;refine⟨?_,S⟩;rw[yB,if_neg (λk=>F y g O s k.1 hd)];exact R
 have hf:=B.fact x hx;unfold sN.fact at hf;have Wp:=Io hf H;unfold wpOpIn;simp only[p];rcases yl r Wp with⟨hw,q⟩|⟨hw,q⟩
 .rw[if_pos hw];have TI:kG A T (λ_=>P) x.o (rq kT) La h (λa b=>a=x.sv/\b=x.nb):=by
   refine pZ q (BL H) (λE y f s off I c k=>?_) (λhb d hd=>?_) (λ_=>rfl)
   .have:pL x.o=false:=by cases hq:x.o.op<;>simp[oV,pL,hq]at E |-
    rw[this]at k;simp only[mZe,if_false]at k;have W:rq kT y=.loc s off:=by rw[BL H y f];exact I
    obtain⟨⟨c',G⟩,-⟩:=r.uV W;have:=B.sub G;rw[k]at this;cases this;exact G
   obtain⟨g,d',ab,-⟩:=(AX q).1 hb;obtain⟨c,k⟩:=mZA.1 g;exact(B.box x hx d c k hd).1
  obtain⟨v,w',C,R,S⟩:=Ef hT r TI;refine wV R ?_;exact hK _ _ _ _ _ S fin
 rw[if_neg (by simp[hw])];obtain⟨M,e2⟩:=q;have nW:vT La x.o.dst x.nb=La:=by rw[e2];unfold vT;cases x.o.dst<;>rfl
 rw[nW,M]at fin;refine⟨λ_ _=>trivial,?_⟩;exact hK _ _ _ _ _ (r.put (x:=.v undef) (v:=undef) rfl) fin
variable {ro:Option Nat}{n:Nat}
variable {P:Program}{T:bu}{A:Ar}[bM A]
variable {ds:List Deferred}{h0:ad}{w0:World}{β:Nat->Nat}{h:ad}{a:Act}{w:World}
variable {ops:Array Oper}{X:Array Bool}{D:List sN}{listed pend known:List Nat}{envc kT:Env}{Lc La:Loc}
theorem Rn.mono{h:ad}{y:Addr}{k a:ad->Prop}(x:Rn h y cs k)(j:∀h',k h'->a h'):Rn h y cs a:=by obtain⟨c,e,fr,g,b,d,f,i⟩:=x.out;exact⟨c,e,fr,g,b,d,f,λh' e=>j _ (i h' e)⟩
theorem dQA.mono{h:ad}{y:Option Addr}{k d:ad->Prop}(x:dQA h y cs k)(c:∀h',k h'->d h'):dQA h y cs d:=by
 rcases x with⟨a,b⟩|⟨q,a,b⟩
 .exact .inl ⟨a,c _ b⟩
 exact .inr ⟨q,a,b.mono c⟩
theorem Jc.mono{h:ad}{len n s e:Nat}{new:List Value}{k g:Value->ad->Prop}(x:Jc h b len cap n s bytes e new k)(f:∀v h',k v h'->g v h'):
 Jc h b len cap n s bytes e new g:=
 ⟨x.one,λd=>(x.fits d).mono (λ_ q=>f _ _ q),λd=>by
  obtain⟨o,p,a,r,t⟩:=x.cKO d;exact⟨o,p,a,r,λu c h' rest i j l m=>f _ _ (t u c h' rest i j l m)⟩⟩
theorem Aw.mono{h:ad}{e:Nat}{l c:Int}{k a:Value->ad->Prop}(x:Aw h e l c bytes z k)(f:∀v h',k v h'->a v h'):Aw h e l c bytes z a:=
 ⟨x.len,x.room,λn h' b d=>f _ _ (x.out n h' b d)⟩
theorem iU.mono{h:ad}{len:Nat}{n s e:Nat}{k a:Value->ad->Prop}(q:iU h b len cap x n s bytes e k)(f:∀v h',k v h'->a v h'):
 iU h b len cap x n s bytes e a:=by
 obtain⟨new,c,d⟩:=q.out;exact⟨new,c,d.mono f⟩
theorem Ja.mono{h:ad}{len:Nat}{n s:Nat}{k a:Value->ad->Prop}(q:Ja h b len x n s k)(f:∀v h',k v h'->a v h'):
 Ja h b len x n s a:=by
 obtain⟨cs,c,d,e⟩:=q.out;exact⟨cs,c,d,e.mono λh'=>f _ h'⟩
theorem Bo.mono{h:ad}{len:Nat}{k a:ad->Prop}(q:Bo h b len z k)(c:∀h',k h'->a h'):Bo h b len z a:=
 ⟨q.one,q.out.mono c⟩
theorem fW.mono{h:ad}{k a:Value->ad->Prop}(q:fW p s h k)(e:∀v h',k v h'->a v h'):fW p s h a:=
 ⟨λw f=>by
  obtain⟨v,w',h',b,c,d⟩:=q.out w f;exact⟨v,w',h',b,e _ _ c,d⟩⟩
theorem wI.mono{p k a:Unit->Prop}(q:wI p k)(h:k ()->a ()):wI p a:=⟨q.h,h q.out⟩
theorem cZH.mono{h:ad}{a:Value->ad->Prop}(x:cZH p l args h R)(r:∀v h',R v h'->a v h'):cZH p l args h a:=
 ⟨λw j=>by
  obtain⟨fn,t,F,b,g,i⟩:=x.out w j;exact⟨fn,t,F,b,g,λn=>(i n).mono λe w' ⟨v,h',c,d,f⟩=>⟨v,h',c,r _ _ d,f⟩⟩⟩
theorem dJC{s:Operand->SV}{L:Loc}{h:ad}(a:hx A T p o s L h k)(F:Loc->ad->Prop)
 (u:gQ o=true->F L h) (N:gQ o=false->iu o=false->∀h',F L h') (S:iu o=true->∀m h',F m h'):
 hx A T p o s L h (λx m h'=>k x m h'/\F m h'):=by
 unfold hx at a |-;split at a
 case h_1 x d=>
  try simp only[d]
  exact⟨a,u (by simp[gQ,d])⟩
 case h_2 t q x d=>
  have j:=S (by simp[iu,d]);try simp only[d]
  repeat' split at a
  all_goals first
   |exact a.elim
   |exact⟨a,j _ _⟩
   |exact Rn.mono a (λh' q=>⟨q,j _ _⟩)
 case h_3 e d=>
  have J:=N (by simp[gQ,d]) (by simp[iu,d]);try simp only[d]
  split at a
  .exact a.elim
  exact λn h' g i=>⟨a n h' g i,J _⟩
 case h_4 e x d=>
  have J:=N (by simp[gQ,d]) (by simp[iu,d]);try simp only[d]
  split at a
  .exact λn h' g i=>⟨a n h' g i,J _⟩
  exact a.elim
 case h_5 t len parts d=>
  have J:=N (by simp[gQ,d]) (by simp[iu,d]);try simp only[d]
  repeat' split at a
  all_goals first
   |exact a.elim
   |exact λn h' g i=>⟨a n h' g i,J _⟩
 case h_6 t l c d=>
  have J:=N (by simp[gQ,d]) (by simp[iu,d]);try simp only[d]
  repeat' split at a
  all_goals first
   |exact a.elim
   |exact Aw.mono a (λv h' q=>⟨q,J _⟩)
 case h_7 t r d=>
  have J:=N (by simp[gQ,d]) (by simp[iu,d]);try simp only[d]
  split at a
  .exact λn h' g i=>⟨a n h' g i,J _⟩
  exact a.elim
 case h_8 f args argTypes d=>
  have J:=N (by simp[gQ,d]) (by simp[iu,d]);try simp only[d]
  repeat' split at a
  all_goals first
   |exact a.elim
   |exact Rr.mono a (λv h' q=>⟨q,J _⟩) (λ_ _ q=>q)
   |exact aQI.mono a (λv h' q=>⟨q,J _⟩)
   |exact cZH.mono a (λv h' q=>⟨q,J _⟩)
   |exact fW.mono a (λv h' q=>⟨q,J _⟩)
 case h_9 b args argTypes d=>
  have J:=N (by simp[gQ,d]) (by simp[iu,d]);try simp only[d]
  repeat' split at a
  all_goals first
   |exact a.elim
   |exact iU.mono a (λv h' q=>⟨q,J _⟩)
   |exact wI.mono a (λw=>⟨Jc.mono w.out λv h' q=>⟨q,J _⟩⟩)
   |exact Ja.mono a (λv h' q=>⟨q,J _⟩)
   |exact Bo.mono a (λh' q=>⟨q,J _⟩)
   |exact fW.mono a (λv h' q=>⟨q,J _⟩)
 case h_19 x d=>
  try simp only[d]
  exact a
 case h_20=>exact a.elim
 all_goals
  rename_i d;have J:=N (by simp[gQ,d]) (by simp[iu,d]);try simp only[d]
  repeat' split at a
  all_goals first
   |exact a.elim
   |exact fW.mono a (λv h' q=>⟨q,J _⟩)
theorem dJB{e:Operand->SV}{L:Loc}{h:ad}(f:hx A T p o e L h k):
 hx A T p o e L h (λx a h'=>k x a h'/\(iu o=false->a=L)/\(gQ o=true->h'=h)):=
 dJC f (λa h'=>(iu o=false->a=L)/\(gQ o=true->h'=h)) (λ_=>⟨λ_=>rfl,λ_=>rfl⟩) (λc b h'=>⟨λ_=>rfl,λd=>by rw[c]at d;cases d⟩)
  (λc a h'=>⟨λb=>(by rw[c]at b;cases b),λb=>(by
   cases q:o.op<;>simp[gQ,iu,q]at c b)⟩)
theorem Eb{T:bu}{a:Bool}{all:List Oper}{h:ad}{L:Loc}{env:Env}:∀ {l:List Nat} {k:Unit->Prop},pins T a all h L env l k->
 (∀j∈l,∃o,all[j]? =some o/\gd all env o (λ_=>Kj T a h L env o (λ_=>True)) (λ_=>True))/\k ()
 | [],k,p=>⟨λ_ h=>(by cases h),p⟩
 |i::r,k,p=>by
  unfold pins at p;split at p
  .rename_i o w;have K:∀ {R:Unit->Prop},Kj T a h L env o R->Kj T a h L env o (λ_=>True)/\R ():=λ{R} q=>by
    unfold Kj at q |-;split at q
    .rename_i t y W;try simp only[W]at q |-
     split at q
     .rename_i x hx;try simp only[hx]
      obtain⟨cs,f,g⟩:=q.out;obtain⟨v,m,b⟩:=nD g;exact⟨⟨cs,f,oN m λB e=>by subst e;exact⟨b.h,trivial⟩⟩,b.out⟩
     .rename_i s off hx;try simp only[hx]
      split at q
      .exact⟨trivial,q⟩
      split at q
      .rename_i c A;try simp only[A]
       split at q
       .rename_i cs z;try simp only[z]
        obtain⟨v,m,b⟩:=nD q;exact⟨oN m λB e=>by subst e;exact⟨b.h,trivial⟩,b.out⟩
       exact q.elim
      exact q.elim
     exact q.elim
    exact⟨trivial,q⟩
   rcases CL p with⟨f,g⟩|⟨f,g⟩
   .obtain⟨m,b⟩:=K f;obtain⟨n,u⟩:=Eb b;refine⟨λj d=>?_,u⟩;rcases mQI.1 d with rfl|d
    .exact⟨o,w,(g _ _).2 m⟩
    exact n j d
   obtain⟨n,u⟩:=Eb f;refine⟨λj d=>?_,u⟩;rcases mQI.1 d with rfl|d
   .exact⟨o,w,(g _ _).2 trivial⟩
   exact n j d
  exact p.elim
theorem jH.av(hT:gE P T)(B:jH A T P ops X D listed pend known envc Lc kT La h)(hr:Ab T ops=true)(PL:aZh T ops=true)(hs:eO ds h0 w0 β kT La h a w){k:Nat}{f:Oper}
 (hk:ops[k]? =some f) (Y:k∉listed) (aK:nN T f=false) (hp:∀e∈mL f,In X e) {pn:List Nat} {R:Env->Loc->ad->Prop}
 (V:gQ f=true\/∀j∈pend,j∈mB ops ops.size (k::known)\/j∈pn\/(∀oj,ops[j]? =some oj->oV oj=false))
 (hx:gd ops.toList envc f (λ_=>hx A T (λ_=>P) f (rq envc) Lc h (λx L' h'=>pins T (iu f) ops.toList h' L' (put envc f.dst x) pn (λ_=>R (put envc f.dst x) L' h')))
  (λ_=>R (put envc f.dst (.v undef)) Lc h))  {K:Act->World->Prop} (mZ:qN T ds h0 w0 Q)
 (hK:∀a' w' Fg Lg F J h',R Fg F h'->eO ds h0 w0 β Lg J h' a' w'->
  jH A T P ops (X.setIfInBounds k true) D (k::listed) (pend.filter λj=> !(mB ops ops.size (k::known)).contains j) (mB ops ops.size (k::known)) Fg F Lg J h'->K a' w'):
 wpOpIn (FW ro) n P ops Q k K a w:=by
 obtain⟨-,-,Tr⟩:=rI hr hk;have HZ:=B.look hr hk hp;have q:k<X.size:=by rw[B.size];exact(mXD.1 hk).1
 have ch:∀x∈D,k≠x.i:=λx hx e=>Y ((B.dZU k).2 (.inr ⟨x,hx,e.symm⟩));have ak:∀x∈D,∀t,f.dst=some t->x.o.dst≠some t:=λx hx t p=>(Tr x.i x.o (ch x hx) (B.op x hx).1 t p).1;have ab:∀x∈D,∀t∈x.o.looksAt ops,f.dst≠some t:=λx hx t p hd=>by
  rcases(Tr x.i x.o (ch x hx) (B.op x hx).1 t hd).2 p with h3| ⟨-,h3⟩
  .exact Y (B.eKy x hx k h3)
  exact B.apart x hx (hp _ h3)
 have ag:∀i o,In (X.setIfInBounds k true) i->ops[i]? =some o->∀e∈mL o,In (X.setIfInBounds k true) e:=λi o O N e he=>by
  rw[In.set q]at O |-;rcases O with e'|O
  .subst e';rw[hk]at N;cases N;exact .inr (hp e he)
  exact .inr (B.down i o O N e he)
 have L:∀i∈mB ops ops.size (k::known),In (X.setIfInBounds k true) i:=IJ ag _ _ λi hi=>by
  rw[In.set q];rcases mQI.1 hi with rfl|hi
  .exact .inl rfl
  exact .inr (B.known i hi)
 have M:∀x∈D,¬In (X.setIfInBounds k true) x.i:=λx hx O=>by
  rw[In.set q]at O;rcases O with e|e
  .exact ch x hx e
  exact B.apart x hx e
 have fin:∀(m:SV) (F J:Loc) (h':ad),gZp Lc La F J->(∀x∈D,x.fact A T P ops (put envc f.dst m) F h')->
  jH A T P ops (X.setIfInBounds k true) D (k::listed) (pend.filter λj=> !(mB ops ops.size (k::known)).contains j) (mB ops ops.size (k::known)) (put envc f.dst m) F (put kT f.dst m) J h':=λm F J h' hL hf=>by
  refine⟨by simp[B.size],λj=>?_,M,ag,L,λx hx=>?_,by rw[pw,pw];exact B.len,λt p=>?_,λx hx t hd l=>?_,λs KG=>?_,λx hx s c hn hd=>?_,B.op,
   λx hx e he=>mXm _ (B.eKy x hx e he),B.uniq,hf⟩
  .rw[mQI,B.dZU j,In.set q];constructor
   .rintro(rfl|g|g)
    .exact .inl (.inl rfl)
    .exact .inl (.inr g)
    exact .inr g
   rintro((rfl|g) |g)
   .exact .inl rfl
   .exact .inr (.inl g)
   exact .inr (.inr g)
  .simp only[mXQ,mZx,mZz,decide_eq_false_iff_not];exact⟨B.pend x hx,λH=>M x hx (L _ H)⟩
  .by_cases hd:f.dst=some t
   .by_cases l:t<envc.length
    .rw[hd,BO (by rw[B.len];exact l),BO l]
    have r:(put kT f.dst m).length<=t:=by rw[pw,B.len];exact mJH l
    have C:(put envc f.dst m).length<=t:=by rw[pw];exact mJH l
    rw[mXX r,mXX C]
   rw[nE hd,nE hd];exact B.env t p
  .rw[pw]at l;rw[nE (λe=>ak x hx t e hd)];exact B.dst x hx t hd l
  .rcases hL with⟨r,C⟩|⟨s0,c,q1,q2,g1,E,r,C⟩
   .rw[r,C];exact B.loc s KG
   rw[r,C,tz g1,tz E,B.loc s KG]
  obtain⟨g,W⟩:=B.box x hx s c hn hd;rcases hL with⟨r,C⟩|⟨s0,c',q1,q2,g1,E,r,C⟩
  .rw[r,C];exact⟨g,W⟩
  have af:s0≠s:=λe=>by rw[e,g]at E;cases E
  rw[r,C,tz g1,tz E,if_neg af,if_neg af];exact⟨g,W⟩
 unfold wpOpIn;simp only[hk];rcases CL hx with⟨g,W⟩|⟨g,W⟩
 .have U:Region.wanted f (yielded ops a.tmps)=true:=by
   have hg:=Io ((W (λ_=>True) (λ_=>False)).2 trivial) HZ;rcases yl hs hg with⟨U,-⟩|⟨-,hf⟩
   .exact U
   exact hf.elim
  rw[if_pos U];have h3:=aKe (dJB g) (BL HZ) (λt p=>by
   have:=B.env t (λx hx=>Yg PL (B.op x hx).1 p);simp only[rq,mXE,this])
  refine Tf hT hs (λs c H=>B.sub H) h3 mZ λm v F L' h' w' ⟨g1,E,g3⟩ KG hL=>?_;obtain⟨au,hR⟩:=Eb g1;refine hK _ _ _ _ _ _ _ hR KG (fin m F L' h' hL λx hx=>?_);have Z:∀t∈x.o.looksAt ops,(put envc f.dst m)[t]? =envc[t]? :=λt p=>nE (ab x hx t p);have KQ:=B.fact x hx;cases G:oV x.o with
  |false=>exact sN.yp KQ Z (λe=>by rw[G]at e;cases e) (λe=>by rw[G]at e;cases e)
  |true=>
   rcases V with V|V
   .have ig:iu f=false:=by cases S:f.op<;>simp[gQ,iu,S]at V |-
    exact sN.yp KQ Z (λ_ s c H=>by rw[E ig];exact H) (λ_=>g3 V)
   rcases V x.i (B.pend x hx)with h5|h5|h5
   .exact absurd (L _ h5) (M x hx)
   .obtain⟨o',wR,ar⟩:=au x.i h5;have an:ops[x.i]? =some o':=by simpa using wR
    rw[(B.op x hx).1]at an;cases an;have az:gd ops.toList (put envc f.dst m) x.o (λ_=>kG A T (λ_=>P) x.o (rq envc) (if pL x.o then []else Lc) h (λa b=>a=x.sv/\b=x.nb)) (λ_=>x.sv=.v undef/\x.nb=none):=
     Io (by unfold sN.fact at KQ;exact KQ) Z
    unfold sN.fact;rcases CL az with⟨f1,f2⟩|⟨f1,f2⟩
    .refine(f2 _ _).2 ?_;have u:=(f2 _ _).1 ar;have aj:pL x.o=false:=by cases S:x.o.op<;>simp[oV,pL,S]at G |-
     rw[aj]at f1 |-;simp only[mZe,if_false]at f1 |-;have gY:x.nb=none:=(AX f1).2 aj;cases Wg:x.o.op with
     |load t y=>
      have KB:y∈x.o.op.operands.toList:=by rw[Wg];simp[Op.operands]
      have aH:rq (put envc f.dst m) y=rq envc y:=BL Z y KB;unfold kG at f1 |-;unfold Kj at u;simp only[Wg]at f1 u |-;rw[aH]at u |-;have al:∀v:Value,(∃d,x.o.dst=some d/\(put envc f.dst m)[d]? =some (.v v))->(SV.v v=x.sv/\(none:Option (List Value))=x.nb):=λv ⟨d,hd,hv⟩=>by
       have l:d<envc.length:=by have:=(mQB.1 hv).1;rwa[pw]at this
       have:=B.dst x hx d hd l;rw[nE (λe=>ak x hx d e hd),this]at hv;exact⟨(Option.some.inj hv).symm,gY.symm⟩
      split at f1
      .exact f1.elim
      split at f1
      .rename_i s off I;simp only[I]at u;split at u
       .rename_i ig;have aw:iu f=false:=by simpa using ig
        rw[E aw];exact f1
       split at f1
       .rename_i c H;split at u
        .rename_i c' wG;try simp only[wG]
         split at u
         .rename_i cs ay;exact oN u λv S=>al v S.h
         exact u.elim
        exact u.elim
       exact f1.elim
      .rename_i z I;simp only[I]at u;obtain⟨cs,q1,q2⟩:=u.out;exact⟨cs,q1,oN q2 λv S=>al v S.h⟩
      exact f1.elim
     |_=>simp[oV,Wg]at G
    exact(f2 _ _).2 f1
   have:=h5 x.o (B.op x hx).1;rw[G]at this;cases this
 have U:Region.wanted f (yielded ops a.tmps)=false:=by
  have hg:=Io ((W (λ_=>False) (λ_=>True)).2 trivial) HZ;rcases yl hs hg with⟨-,hf⟩|⟨U,-⟩
  .exact hf.elim
  exact U
 rw[if_neg (by simp[U])];refine⟨λ_ _=>trivial,?_⟩;refine hK _ _ _ _ _ _ _ g (hs.put (x:=.v undef) (v:=undef) rfl) (fin (.v undef) Lc La h (.inl ⟨rfl,rfl⟩) λx hx=>?_);exact sN.yp (B.fact x hx) (λt p=>nE (ab x hx t p)) (λ_ _ _ H=>H) (λ_=>rfl)
variable {ro:Option Nat}{n:Nat}
variable {P:Program}{T:bu}{A:Ar}[bM A]
variable {ds:List Deferred}{h0:ad}{w0:World}{β:Nat->Nat}{h:ad}{a:Act}{w:World}
variable {ops:Array Oper}{X:Array Bool}{D:List sN}{listed pend known:List Nat}{envc kT:Env}{Lc La:Loc}
theorem eO.hJQ(b:eO ds h0 w0 β kT La h a w)(l:∀s,mM La s=mM Lc s):eO ds h0 w0 β kT Lc h a w:=
 ⟨b.after,λs c f=>b.loc s c (by rw[l];exact f),λs g c c' d e=>b.inj s g c c' (by rw[l];exact d) (by rw[l];exact e),b.size,λt x hx=>by
  have:=b.slot t x hx;cases x with
  |v y=>exact this
  |u=>trivial
  |loc s off=>exact⟨by rw[<-l];exact this.1,this.2⟩,b.defers⟩
def eXJ(X:Array Bool):Nat:=X.toList.countP (!·)
theorem UR(a:i<X.size)(n:¬In X i):eXJ (X.setIfInBounds i true)+1=eXJ X:=by
 unfold eXJ;have l:i<X.toList.length:=by simpa using a
 have hx:X.toList[i]=false:=by unfold In at n;rw[mXx,mZk a]at n;simpa using n
 rw[mKK];have P:0<X.toList.countP (!·):=List.countP_pos_iff.2 ⟨X.toList[i],List.getElem_mem l,by simp[hx]⟩;rw[List.countP_set (h:=l)];simp[hx];simp only[Array.countP_toList]at P;omega
theorem JF(hX:X.size=ops.size)(r:Ab T ops=true)(b:Region.ready .any ops X=[]):∀j,j<ops.size->In X j:=by
 intro j;induction j using Nat.strongRecOn with
 |_ j i=>
  intro h;by_cases f:In X j
  .exact f
  exfalso;have:j∈Region.ready .any ops X:=by rw[DX hX];refine⟨f,ops[j],by simp[h],λe k=>?_⟩;have a:=(rI r (show ops[j]? =some ops[j]by simp[h])).1 e k;exact i e a (by omega)
  rw[b]at this;cases this
theorem dZy{p:zX}(h:Ge T ops p true listed pend known=true):∃k∈wo p,k∉listed/\k<ops.size:=by
 induction p with
 |done=>simp[Ge]at h
 |aa i r _=>simp[Ge]at h
 |av i n r _=>
  simp only[Ge,mZS,mQQ]at h;refine⟨i,by simp[wo],by simpa using h.1.1.2,?_⟩;have a:=h.1.2;split at a
  .rename_i o c;exact(mXD.1 c).1
  cases a
 |fork l r K _=>simp only[Ge,mZS,mQQ,true_and]at h;obtain⟨k,b,a⟩:=K h.1;exact⟨k,by simp[wo,b],a⟩
theorem aZM{p:zX}(o:Ge T ops p true listed pend known=true)(hx:lL A T (λ_=>P) ops.toList K p envc Lc h){k:Nat}(a:k∈wo p):
 ∃n r,Ge T ops (.av k n r) true listed pend known=true/\lL A T (λ_=>P) ops.toList K (.av k n r) envc Lc h:=by
 induction p with
 |done=>simp[wo]at a
 |aa i r _=>simp[wo]at a
 |av i n r _=>simp[wo]at a;subst a;exact⟨n,r,o,hx⟩
 |fork l r O J=>
  simp only[Ge,mZS,mQQ,true_and]at o;simp only[wo,mQE]at a;rcases a with a|a
  .exact O o.1 hx.1 a
  exact J o.2 hx.2 a
theorem OV{p:zX}(h:Ge T ops p false listed pend known=true)(a:(∃i n r,p=.av i n r)\/∃l r,p=.fork l r):
 Ge T ops p true listed pend known=true/\Nn ops p listed=true:=by
 rcases a with⟨i,n,r,rfl⟩|⟨l,r,rfl⟩
 .simp only[Ge,mZU,mZS,mQQ]at h |-;simp_all
 simp only[Ge,mZU,mZS,mQQ]at h |-;simp_all
theorem advance(f:Ab T ops=true):∀(p:zX) {D:List sN} {listed pend:List Nat} {envc:Env} {Lc:Loc},jH A T P ops X D listed pend known envc Lc kT La h->
 lL A T (λ_=>P) ops.toList K p envc Lc h->Ge T ops p false listed pend known=true->
 ∃j y V g F d,jH A T P ops X j y V known g F kT La h/\lL A T (λ_=>P) ops.toList K d g F h/\Ge T ops d false y V known=true/\
  (d=.done\/(∃i n r,d=.av i n r)\/∃l r,d=.fork l r)
 | .done,D,listed,pend,envc,Lc,B,hx,a=>⟨_,_,_,_,_,_,B,hx,a,.inl rfl⟩
 | .av i n r,D,listed,pend,envc,Lc,B,hx,a=>⟨_,_,_,_,_,_,B,hx,a,.inr (.inl ⟨_,_,_,rfl⟩)⟩
 | .fork l r,D,listed,pend,envc,Lc,B,hx,a=>⟨_,_,_,_,_,_,B,hx,a,.inr (.inr ⟨_,_,rfl⟩)⟩
 | .aa i r,D,listed,pend,envc,Lc,B,hx,a=>by
  simp only[Ge,nQj,mZR,mQQ]at a;obtain⟨⟨q,b⟩,s⟩:=a;split at b
  .rename_i o e;simp only[mQQ,mXq,mZz,mQR]at b;unfold lL at hx;simp only[mZj,e]at hx;obtain⟨v,t,c,Z⟩:=B.take f e (by simpa using q) b.1 b.2 hx;refine advance f r Z ?_ s;rcases c with c| ⟨c,k,m⟩
   .exact c
   rw[k,m];have:vT Lc o.dst none=Lc:=by unfold vT;cases o.dst<;>rfl
   rw[this];exact c
  cases b
theorem SD(hT:gE P T)(F:Ab T ops=true)(PL:aZh T ops=true)
 (mZ:qN T ds h0 w0 Q) (hK:∀dh L' h' uh J w',K dh L' h'->eO ds h0 w0 uh dh L' h' J w'->Q .normal J w'):
 ∀(f:Nat) {X:Array Bool} {D:List sN} {listed pend known:List Nat} {envc kT:Env} {Lc La:Loc} {h:ad} {β:Nat->Nat} {a:Act} {w:World} {p:zX},
  eXJ X<=f->jH A T P ops X D listed pend known envc Lc kT La h->eO ds h0 w0 β kT La h a w->lL A T (λ_=>P) ops.toList K p envc Lc h->Ge T ops p false listed pend known=true->
  wpAnyIn (FW ro) n P .any ops Q f X a w:=by
 intro f;have done:∀ {X:Array Bool} {D:List sN} {listed pend known:List Nat} {envc kT:Env} {Lc La:Loc} {h:ad} {β:Nat->Nat} {a:Act} {w:World} {p:zX},
  jH A T P ops X D listed pend known envc Lc kT La h->eO ds h0 w0 β kT La h a w->lL A T (λ_=>P) ops.toList K p envc Lc h->Ge T ops p false listed pend known=true->
  Region.ready .any ops X=[]->Q .normal a w:=λ{X D listed pend known envc kT Lc La h β a w p} B g hx y v=>by
  have C:=JF B.size F v;obtain⟨I,V,Vv,Y,W,p',Z,H,z,i⟩:=advance F p B hx y;have L:I=[]:=by
   cases I with
   |nil=>rfl
   |cons x r=>exfalso;exact Z.apart x (by simp) (C x.i (mXD.1 (Z.op x (by simp)).1).1)
  subst L;have gK:∀k,k∉V->k<ops.size->False:=λk b c=>b (Z.cQl (C k c));rcases i with rfl|i
  .unfold lL at H;refine hK _ _ _ β _ _ H ?_;have e1:kT=Y:=mXM λt=>Z.env t (λx hx=>by cases hx);have e2:∀s,mM La s=mM W s:=λs=>Z.loc s (λx hx=>by cases hx);rw[e1]at g;exact g.hJQ e2
  obtain⟨b,-⟩:=OV z i;obtain⟨k,-,c,d⟩:=dZy b;exact(gK k c d).elim
 induction f with
 |zero=>
  intro X D listed pend known envc kT Lc La h β a w p hf B g hx y;have v:Region.ready .any ops X=[]:=by
   apply nQY.2;intro j M;rw[DX B.size]at M;obtain⟨b,o,c,-⟩:=M;have O:j<X.size:=by rw[B.size];exact(mXD.1 c).1
   have:=UR O b;omega
  exact⟨v,done B g hx y v⟩
 |succ f ih=>
  intro X D listed pend known envc kT Lc La h β a w p hf B g hx y;refine⟨λv=>done B g hx y v,λk hk=>?_⟩;obtain⟨I,V,Vv,Y,W,p',Z,H,z,i⟩:=advance F p B hx y;have wT:=hk;rw[DX B.size]at wT;obtain⟨MP,ok,R,N⟩:=wT;have l:k<X.size:=by rw[B.size];exact(mXD.1 R).1
  have aj:=UR l MP;by_cases L:∃x∈I,x.i=k
  .obtain⟨x,G,rfl⟩:=L;have:ops[x.i]? =some x.o:=(Z.op x G).1;rw[R]at this;cases this;exact Z.catch hT F g G N λuh J w' Lg ab b c=>ih (by omega) c b H z
  have m:k∉V:=λhm=>by
   rcases(Z.dZU k).1 hm with b|b
   .exact MP b
   exact L b
  rcases i with rfl|i
  .simp only[Ge,nQj,mZR,mXq,mJl,mZz,mQR]at z;exact absurd (z k (by rw[<-B.size];exact l)) m
  obtain⟨b,c⟩:=OV z i;have S:k∈wo p':=by
   unfold Nn at c;rw[mXq]at c;have:=c k (by simp only[mJl];rw[<-B.size];exact l);simp only[R,mJn,mZz,mQR,mZx,mJQ]at this;rcases this with (d|d)|⟨e,d,E⟩
   .exact absurd d m
   .exact d
   exact absurd (Z.cQl (N e d)) (by simpa using E)
  obtain⟨pn,r,d,E⟩:=aZM b H S;unfold lL at E;simp only[mZj,R]at E;simp only[Ge,mZS,mZR,mQQ,R]at d;obtain⟨⟨-,h5,q⟩,h7⟩:=d;refine Z.av hT F PL g R m (by simpa using h5) N ?_ E mZ (λJ w' af ag ak al h' hR FD U=>ih (by omega) U FD hR h7);simp only[mJn,mXq,mZz,mQR]at q;rcases q with q|q
  .exact .inl q
  refine .inr λj M=>?_;rcases q j M with (u|u) |u
  .exact .inl u
  .exact .inr (.inl u)
  refine .inr (.inr λoj Ty=>?_);simp only[Ty,mZx]at u;exact u
variable {ro:Option Nat}{n:Nat}
variable {P:Program}{T:bu}{A:Ar}[bM A]
variable {ds:List Deferred}{h0:ad}{w0:World}{β:Nat->Nat}{h:ad}{a:Act}{w:World}{env:Env}{L:Loc}
def gu(T:bu):Code->Bool
 | .region id ops true=>(Ab T ops&&aZh T ops)&&Ge T ops (T.aK id) false [] [] []
 | .seq a b| .cond _ a b=>gu T a&&gu T b
 | .block _ c| .loop c=>gu T c
 | .rangeFunc _ _ a c=>gu T a&&gu T c
 |_=>true
def bQT:Ex->Exit
 | .normal=>.normal
 | .exit id=>.exit id
 | .ret=>.ret
theorem Xz(n:Nat):eXJ (Array.replicate n false)<=n:=by unfold eXJ;have:=nQX (p:=λb:Bool=> !b) (l:=(Array.replicate n false).toList);simpa using this
theorem Lv:∀ {e a:Env},wk e a->e.length=a.length
 | [],[],_=>rfl
 |x::r,y::q,hw=>by
  unfold wk at hw;simp only[mQM];cases y with
  |u=>rw[Lv hw]
  |v b=>rw[Lv hw.2]
  |loc s o=>rw[Lv hw.2]
theorem Lw:∀ {e a:Env},Sx.wk e a->∀(t:Nat) (x:SV),a[t]? =some x->x=SV.u\/e[t]? =some x
 | [],[],_,t,x,hx=>by simp at hx
 |y::r,z::q,hw,t,x,hx=>by
  unfold wk at hw;cases t with
  |zero=>
   simp at hx |-;subst hx;cases z with
   |u=>exact .inl rfl
   |v b=>exact .inr hw.1
   |loc s o=>exact .inr hw.1
  |succ t=>
   simp at hx |-;cases z with
   |u=>exact Lw hw t x hx
   |v b=>exact Lw hw.2 t x hx
   |loc s o=>exact Lw hw.2 t x hx
theorem Cg{L:Loc}:∀ {a:Loc},bKK L a->∀(s:Nat) (c:List Value),mM a s=some c->mM L s=some c
 | [],_,s,c,h=>by cases h
 | (k,d)::r,l,s,c,h=>by
  unfold bKK at l;simp only[mM]at h;split at h
  .rename_i e;subst e;cases h;exact l.1
  exact Cg l.2 s c h
theorem Gj{L:Loc}:∀ {e:Env},fQp L e->∀(t s o:Nat),e[t]? =some (SV.loc s o)->∃c,mM L s=some c
 | [],_,t,s,o,hx=>by simp at hx
 |x::r,h,t,s,o,hx=>by
  unfold fQp at h;cases t with
  |zero=>simp at hx;subst hx;exact mZA.1 h.1
  |succ t=>
   simp at hx;cases x with
   |u=>exact Gj h t s o hx
   |v b=>exact Gj h t s o hx
   |loc a o'=>exact Gj h.2 t s o hx
theorem eO.wk(d:eO ds h0 w0 β env L h a w){k:Env}{f:Loc}(e:Wk env L k f):eO ds h0 w0 β k f h a w:=
 ⟨d.after,λs c l=>d.loc s c (Cg e.loc s c l),λs g c c' i j=>d.inj s g c c' (Cg e.loc s c i) (Cg e.loc g c' j),by rw[d.size,Lv e.env],λt x hx=>by
  rcases Lw e.env t x hx with rfl|he
  .trivial
  have:=d.slot t x he;cases x with
  |u=>trivial
  |v b=>exact this
  |loc s o=>exact⟨Gj e.ok t s o hx,this.2⟩,d.defers⟩
theorem lj(G:gE P T):∀(c:Code),gu T c=true->∀ {K:Ex->Env->Loc->ad->Prop} {Q:Exit->Act->World->Prop} {env:Env} {L:Loc} {h:ad} {β:Nat->Nat} {a:Act} {w:World},
 eO ds h0 w0 β env L h a w->sx A T (λ_=>P) c K env L h->
 qN T ds h0 w0 Q->(∀e r l h' v p w',K e r l h'->eO ds h0 w0 v r l h' p w'->Q (bQT e) p w')->c.wpIn (FW ro) n P Q a w:=by
 intro c;induction c with
 |skip=>exact λ_ {K Q env L h β a w} s hx Z b=>wpIn_skip (b .normal _ _ _ _ _ _ hx s)
 |region id ops y=>
  intro f K Q env L h β a w s hx Z b;cases y with
  |false=>exact wpIn_region_list (sV G Z (λr l h' v p w' g k=>b .normal _ _ _ _ _ _ g k) ops.toList _ _ _ _ _ _ s hx)
  |true=>
   simp only[gu,mQQ]at f;refine wpIn_region_any G.mixed ?_;have O:eO ds h0 w0 β env L h a { w with drawn:=w.drawn+1 }:=
    ⟨⟨s.after.os,s.after.tape,s.after.output,s.after.size,s.after.IV,s.after.frame⟩,s.loc,s.inj,s.size,s.slot,s.defers⟩
   refine SD G f.1.1 f.1.2 (K:=λenv L h=>K .normal env L h) Z (λr l h' v p w' g k=>b .normal _ _ _ _ _ _ g k) ops.size (D:=[]) (listed:=[]) (pend:=[]) (known:=[]) (envc:=env) (Lc:=L)
    (by exact Xz ops.size) ?_ O hx f.2
   have N:∀j,¬In (Array.replicate ops.size false) j:=λj C=>by
    unfold In at C;rw[mXx,mJP]at C;split at C<;>simp at C
   exact⟨by simp,λj=>by simp[N j],λx hx=>(by cases hx),λi o H=>absurd H (N i),λi H=>(by cases H),λx hx=>(by cases hx),rfl,λ_ _=>rfl,λx hx=>(by cases hx),λ_ _=>rfl,
    λx hx=>(by cases hx),λx hx=>(by cases hx),λx hx=>(by cases hx),λx hx=>(by cases hx),λx hx=>(by cases hx)⟩
 |seq c d q J=>
  intro f K Q env L h β a w s hx Z b;simp only[gu,mQQ]at f;unfold sx at hx;refine wpIn_seq (q f.1 s hx (λc β env L h a w z B=>Z c β env L h a w z B) λe r l h' v p w' g k=>?_);cases e with
  |normal=>exact J f.2 k g Z b
  |exit id=>exact b (.exit id) _ _ _ _ _ _ g k
  |ret=>exact b .ret _ _ _ _ _ _ g k
 |cond x c d q J=>
  intro f K Q env L h β a w s hx Z b;simp only[gu,mQQ]at f;unfold sx at hx;split at hx
  .rename_i t X;refine wpIn_cond (s.bY X) ?_;rcases pq hx with⟨rfl,hx⟩|⟨rfl,hx⟩
   .exact q f.1 s hx Z b
   exact J f.2 s hx Z b
  exact hx.elim
 |block id c M=>
  intro f K Q env L h β a w s hx Z b;unfold sx at hx;refine wpIn_block (M f s hx (λc β env L h a w z B=>Z c β env L h a w z B) λe r l h' v p w' g k=>?_);cases e with
  |normal=>exact b .normal _ _ _ _ _ _ g k
  |exit j=>
   simp only[bQT,Exit.inBlock]at g |-;split at g
   .rename_i e;rw[if_pos e];exact b .normal _ _ _ _ _ _ g k
   rename_i e;rw[if_neg e];exact b (.exit j) _ _ _ _ _ _ g k
  |ret=>exact b .ret _ _ _ _ _ _ g k
 |loop c M=>
  intro f K Q env L h β a w s hx Z b;unfold sx at hx;obtain⟨I,n,⟨Y,R,u,V⟩,S⟩:=hx.out;refine wpIn_loop_ghost (λn a w=>∃env L h β,I n env L h/\eO ds h0 w0 β env L h a w) n ⟨_,_,_,_,V,s.wk u⟩ λn a w ⟨env,L,h,β,g,k⟩=>?_;refine M f k (S n env L h g) (λc β env L h a w z B=>Z c β env L h a w z B) λe r l h' v p w' E F=>?_;cases e with
  |normal=>obtain⟨m,Y,R,W,u,U⟩:=E;exact⟨m,W,_,_,_,_,U,F.wk u⟩
  |exit j=>exact b (.exit j) _ _ _ _ _ _ E F
  |ret=>exact b .ret _ _ _ _ _ _ E F
 |rangeFunc=>intro f K Q env L h β a w s hx Z b;exact hx.elim
 |exit id=>exact λ_ {K Q env L h β a w} s hx Z b=>wpIn_exit (b (.exit id) _ _ _ _ _ _ hx s)
 |scope=>intro f K Q env L h β a w s hx Z b;exact hx.elim
 |label=>intro f K Q env L h β a w s hx Z b;exact hx.elim
 |goto=>intro f K Q env L h β a w s hx Z b;exact hx.elim
 |ret=>exact λ_ {K Q env L h β a w} s hx Z b=>wpIn_ret (b .ret _ _ _ _ _ _ hx s)
 |refuse=>intro f K Q env L h β a w s hx Z b;exact hx.elim
def LZ(tmps:Array Value):ResultVar->Sem Value
 | .tmp t=>pure (tmps.getD t undef)
 | .cell q t=>do loadVar t (<-asAddr (tmps.getD q undef))
theorem Hm(fn:Func)(m:Array Value):results fn m=(do
 let v <-fn.results.mapM (LZ m)
 pure (if h:v.size=1 then v[0]else .tuple v)):=by
 have:(λ(x:ResultVar)=>(match x with| .tmp t=>pure (m.getD t undef) | .cell a t=>do loadVar t (<-asAddr (m.getD a undef)):Sem Value))=LZ m:=by funext x;cases x<;>rfl
 unfold results;rw[<-this];rfl
theorem aZk(m:gE P T)(s:eO ds h0 w0 β env L h a w){r:ResultVar}{k:Value->Prop}(b:bKm T env L h r k):
 ∃v,(LZ a.tmps r).run P w=.ok v w/\k v:=by
 unfold bKm at b;split at b
 .rename_i t;split at b
  .rename_i x hx;have:=s.slot t _ (getD_some hx (by simp));exact⟨_,rfl,by rw[show a.tmps.getD t undef=x from this];exact b⟩
  exact b.elim
 rename_i q t;split at b
 .exact b.elim
 .rename_i hx j;have i:=jA m (t:=t) (λe=>j e);have C:=s.slot q _ (getD_some hx (by simp));split at b
  .rename_i c z;split at b
   .rename_i cs n;obtain⟨d,u⟩:=Po s z n;obtain⟨v,f,g⟩:=tq i w _ _ cs d u b;refine⟨v,?_,g⟩;show(do loadVar t (<-asAddr (a.tmps.getD q undef)):Sem Value).run P w=_;rw[show a.tmps.getD q undef=_ from C.2];simp[asAddr,f]
   exact b.elim
  exact b.elim
 .rename_i hx j;have i:=jA m (t:=t) (λe=>j e);have C:=s.slot q _ (getD_some hx (by simp));obtain⟨cs,d,A⟩:=(show Bn _ _ _ _ from b).out;obtain⟨l,o,p⟩:=d.cell s.after.IV;obtain⟨v,f,g⟩:=tq i w _ _ cs o p A;refine⟨v,?_,g⟩;rename_i y;have:y=⟨y.block,y.off,none⟩:=by cases y;simp at l;rw[l]
  show(do loadVar t (<-asAddr (a.tmps.getD q undef)):Sem Value).run P w=_;rw[show a.tmps.getD q undef=.pointer (some y)from C];simp only[asAddr,mQY,mXf,mQU];rw[this];exact f
 exact b.elim
theorem Hn(c:gE P T)(s:eO ds h0 w0 β env L h a w):∀ {rs:List ResultVar} {k:List Value->Prop},uE T env L h rs k->
 ∃l,(rs.mapM (LZ a.tmps)).run P w=.ok l w/\k l
 | [],k,b=>⟨[],rfl,b⟩
 |r::rs,k,b=>by
  unfold uE at b;obtain⟨v,d,e⟩:=aZk c s b;obtain⟨l,f,g⟩:=Hn c s e;refine⟨v::l,?_,g⟩;rw[nQq];simp only[mQY,d,mQU,f,mXf]
theorem qN.none(C:∀c s h,¬T.kp c s h):qN T ds h0 w0 Q:=λc β env L h a w q _=>(C _ _ _ q).elim
theorem ah(A:Ar)[bM A](k:gE P T)(y:P.funcs[f]? =some fn)(u:fn.body=some c)(B:gu T c=true){h:ad}
 (hx:dXx A T (λ_=>P) c fn.ntmps fn.results.toList args h R) (C:∀c s h,¬T.kp c s h:=by exact λ_ _ _ b=>b):aQI (λ_=>P) f args h R:=by
 refine⟨λw G=>?_⟩;refine calls_of_wp y u (wpIn_wide (n:=0).1 ?_);have F:eO [] h w (λ_=>0) (args.map SV.v++List.replicate (fn.ntmps-args.length) (.v undef)) [] h { tmps:=args.toArray++Array.replicate (fn.ntmps-args.toArray.size) undef,defers:=[] } w:=by
  refine⟨bW.refl G,λs c b=>(by cases b),λs H c c' b=>(by cases b),by simp,λt x hx=>?_,rfl⟩;rw[mZh]at hx;split at hx
  .rename_i d;have E:t<args.length:=by simpa using d
   rw[mXe,mXP E]at hx;simp at hx;subst hx;show _=_;rw[mXx,nQi (by simpa using E)];simp[E]
  rename_i N;have K:args.length<=t:=by simpa using N
  rw[nQh]at hx;split at hx
  .rename_i d;cases hx;show _=_;rw[mXx,nQg (by simpa using K),mJP];simp at d |-;rw[if_pos d];rfl
  cases hx
 refine lj (A:=A) (ro:=none) (n:=0) k c B F hx (qN.none C) λe p L h' I i w' a j=>?_;have fin:uE T p L h' fn.results.toList (λl=>pJ l (λv=>R v h'))->i.defers=[]/\∃v,(results fn i.tmps).run P w'=.ok v w'/\∃m a,Ending.returned v=.returned m/\R m a/\bW h w a w':=λD=>by
  obtain⟨l,q,g⟩:=Hn k j D;refine⟨j.defers,?_⟩;have r:(results fn i.tmps).run P w'=.ok (if h:l.toArray.size=1 then l.toArray[0]else .tuple l.toArray) w':=by rw[Hm,mJU];rw[mQY,mJT];rw[q];rfl
  refine⟨_,r,_,h',rfl,?_,j.after⟩;unfold pJ at g;split at g
  .exact g
  rename_i o;have:¬l.toArray.size=1:=λz=>by
   match l,z with
   | [x],_=>exact o x rfl
  rw[dif_neg this];exact g
 cases e with
 |normal=>exact fin a
 |ret=>exact fin a
 |exit id=>exact a.elim
variable {ro:Option Nat}{n:Nat}
variable {P:Program}{T:bu}{A:Ar}[bM A]
inductive Df where
 |call (g:FuncId) (args cap:List Value)
 |mark (m:Nat)
def Df.at:Df->Deferred
 | .call g args cap=>{ target:=.fn (.func g) cap.toArray,args:=args.toArray }
 | .mark m=>{ target:=.collected m,args:= #[] }
def oD:Env->Env
 | []=>[]
 |x::r=>match x with
  | .loc _ _=>.u::oD r
  |x=>x::oD r
def EM:Env->List Nat->List Value->Env
 |env,p::ps,v::vs=>EM (env.set p (.v v)) ps vs
 |env,_,_=>env
def St(A:Ar)(T:bu)(p:Unit->Program)(Fk body:Code)(env:Env)(ps:List Nat)(l:Nat)(o1 o2:Obj)(vs:List Value)(k:ad->Prop)(hh:ad):Prop:=
 sx A T p Fk (λe kU L1 h1=>match e with
  | .normal=>h1 l=some o1/\sx A T p body (λe _ _ h2=>match e with
   | .normal=>h2 l=some o2/\k (bU h2 l o1)
   |_=>False) kU L1 (bU h1 l o2)
  |_=>False) (EM env ps vs) [] hh
structure kQh(p:Unit->Program)(gf:FuncId)(lb:List Value)(n:Nat)(round:Nat->Obj->Obj->List Value->(ad->Prop)->ad->Prop)(h:ad)(K:Nat->ad->Prop):Prop where
 out:∀(m l:Nat) (o1 o2:Obj),h m=none->h l=none->m≠l->(∀c e fr,o1≠.cells c e fr)->(∀c e fr,o2≠.cells c e fr)->
  (∀vs hh (k:ad->Prop),vs.length=n->hh l=some o1->round l o1 o2 vs k hh->cZH p l vs hh (λv h'=>v=.bool true/\k h'))->
  aQI p gf (.func (.yield l) #[] #[]::lb) (bU (bU h m (.deferred (some []))) l o1) (λ_ h'=>h' l=some o1/\∀o3,(∀c e fr,o3≠.cells c e fr)->K m (bU h' l o3))
def lZF(P:Program)(f:FuncId)(args:List Value)(h:ad)(R:Value->ad->Prop):Prop:=
 ∀w,Fo h w->∀n,CallsDIn Fence.wide n P f args.toArray .returning w λe u' w'=>u'=.returning/\∃v h',e=.returned v/\R v h'/\bW h w h' w'
structure aQa(p:Unit->Program)(f:FuncId)(args:List Value)(h:ad)(R:Value->ad->Prop):Prop where
 out:lZF (p ()) f args h R
theorem aQa.mono{h:ad}{a:Value->ad->Prop}(x:aQa p f args h R)(r:∀v h',R v h'->a v h'):aQa p f args h a:=
 ⟨λw c n=>(x.out w c n).mono λe u' w' ⟨hu,v,h',he,hR,b⟩=>⟨hu,v,h',he,r _ _ hR,b⟩⟩
def AF(A:Ar)(T:List Df->bu)(p:Unit->Program)(all:List Oper)(K:List Df->Env->Loc->ad->Prop):List Oper->List Df->Env->Loc->ad->Prop
 | [],ds,env,L,h=>K ds env L h
 |o::rest,ds,env,L,h=>
  gd all env o
   (λ_=>match o.op with
    | .defer c=>match c.callee with
     | .value f=>match rq env f with
      | .v (.func (.func g) first cap)=>match bl (c.args.toList.map (rq env))with
       |some as=>AF A T p all K rest (.call g (first.toList++as) cap.toList::ds) (put env o.dst (.v undef)) L h
       |none=>False
      |_=>False
     |_=>False
    |_=>match nN (T ds) o with
     |true=>kG A (T ds) p o (rq env) L h (λx nb=>AF A T p all K rest ds (put env o.dst x) (vT L o.dst nb) h)
     |false=>hx A (T ds) p o (rq env) L h (λx L' h'=>AF A T p all K rest ds (put env o.dst x) L' h'))
   (λ_=>AF A T p all K rest ds (put env o.dst (.v undef)) L h)
def aQd(A:Ar)(T:List Df->bu)(p:Unit->Program):Code->(Ex->List Df->Env->Loc->ad->Prop)->List Df->Env->Loc->ad->Prop
 | .region id ops false,K,ds,env,L,h=>AF A T p ops.toList (λds env L h=>K .normal ds env L h) ops.toList ds env L h
 | .seq a b,K,ds,env,L,h=>aQd A T p a (λe ds env L h=>match e with
  | .normal=>aQd A T p b K ds env L h
  |e=>K e ds env L h) ds env L h
 | .cond c a b,K,ds,env,L,h=>match rq env c with
  | .v (.bool t)=>ZR t (λ_=>aQd A T p a K ds env L h) (λ_=>aQd A T p b K ds env L h)
  |_=>False
 | .block id c,K,ds,env,L,h=>aQd A T p c (λe ds env L h=>match e with
  | .exit j=>if j=id then K .normal ds env L h else K (.exit j) ds env L h
  |e=>K e ds env L h) ds env L h
 | .rangeFunc g ps Fk body,K,ds,env,L,h=>match rq env g with
  | .v (.func (.func gf) first lb)=>match first.isEmpty,(T ds).fn gf with
   |true,true=>kQh p gf lb.toList ps.size (St A (T ds) p Fk body (oD env) ps.toList) h (λm h'=>K .normal (.mark m::ds) env L h')
   |_,_=>False
  |_=>False
 |c,K,ds,env,L,h=>sx A (T ds) p c (λe env L h=>K e ds env L h) env L h
def LY(T:bu)(p:Unit->Program):List Df->(ad->Prop)->ad->Prop
 | [],k,h=>k h
 | .call g args cap::r,k,h=>match T.fn g with
  |true=>aQa p g (args++cap) h (λ_ h'=>LY T p r k h')
  |false=>False
 | .mark m::r,k,h=>h m=some (.deferred (some []))/\LY T p r k (bU h m (.deferred none))
def eJN(A:Ar)(T:bu)(p:Unit->Program)(c:Code)(ntmps:Nat)(rs:List ResultVar)(args:List Value)(h:ad)(R:Value->ad->Prop):Prop:=
 aQd A (λ_=>T) p c (λe ds env L h=>match e with
  | .exit _=>False
  |_=>LY T p ds (λh=>uE T env L h rs (λl=>pJ l (λv=>R v h))) h) [] (args.map SV.v++List.replicate (ntmps-args.length) (.v undef)) [] h
variable {h0:ad}{w0:World}{β:Nat->Nat}{h:ad}{a:Act}{w:World}{env:Env}{L:Loc}
theorem eO.Rk{ds:List Deferred}(s:eO ds h0 w0 β env L h a w)(d:Deferred):eO (d::ds) h0 w0 β env L h { a with defers:=d::a.defers } w:=
 ⟨s.after,s.loc,s.inj,s.size,s.slot,by rw[s.defers]⟩
def bXY(T:List Df->bu)(h0:ad)(w0:World)(Q:Exit->Act->World->Prop):Prop:=∀ds:List Df,qN (T ds) (ds.map Df.at) h0 w0 Q
variable {TT:List Df->bu}
theorem nq(T:∀ds,gE P (TT ds)){ops:Array Oper}{K:List Df->Env->Loc->ad->Prop}
 (m:bXY TT h0 w0 Q) (j:∀W C k h' E B w',K W C k h'->eO (W.map Df.at) h0 w0 E C k h' B w'->Q .normal B w'):
 ∀(l:List Oper) (ds:List Df) (env:Env) (L:Loc) (h:ad) (β:Nat->Nat) (a:Act) (w:World),eO (ds.map Df.at) h0 w0 β env L h a w->
  AF A TT (λ_=>P) ops.toList K l ds env L h->wpListIn (FW none) n P ops Q l a w
 | [],ds,env,L,h,β,a,w,b,hx=>j _ _ _ _ _ _ _ hx b
 |o::r,ds,env,L,h,β,a,w,b,hx=>by
  unfold AF at hx;unfold wpListIn;rcases yl b hx with⟨hw,hx⟩|⟨hw,hx⟩
  .rw[if_pos hw];split at hx
   .rename_i c J;split at hx
    .rename_i f H;split at hx
     .rename_i g first cap I
      split at hx
      .rename_i e has;have M:(execOp a.eval o).run P w=.ok (.defer (Df.at (.call g (first.toList++e) cap.toList))) w:=by
        have i:first++e.toArray=(first.toList++e).toArray:=by apply Array.ext';simp
        simp only[execOp,J,resolve,H,b.bY I,ld b has,Deferred.ofValue,mQY,mXf,mQU,Df.at,i]
       unfold Oper.wpIn;refine⟨λ_ _=>trivial,?_⟩;rw[show(FW none).round=none from rfl,Oper.semAt_none,M,Oper.uponIn_defer];exact nq T m j r (.call g (first.toList++e) cap.toList::ds) _ _ _ _ _ _ ((b.Rk (Df.at (.call g (first.toList++e) cap.toList))).put (d:=o.dst) (x:=.v undef) (v:=undef) rfl) hx
      exact hx.elim
     exact hx.elim
    exact hx.elim
   split at hx
   .obtain⟨D,N,t,u⟩:=vH hx;obtain⟨v,w',E,z,G⟩:=Ef (T ds) b (u (λx y=>x=D/\y=N) ⟨rfl,rfl⟩);refine wV z ?_;exact nq T m j r _ _ _ _ _ _ _ G t
   refine Tf (T ds) b (Lc:=L) (λ_ _ q=>q) hx (m ds) λD v F k h' w' t u z=>?_;have:F=k:=by
    rcases z with⟨i,p⟩|⟨s,c,x,y,-,-,i,p⟩
    .rw[i,p]
    rw[i,p]
   subst this;exact nq T m j r _ _ _ _ _ _ _ u t
  rw[if_neg (by simp[hw])];refine⟨λ_ _=>trivial,?_⟩;exact nq T m j r _ _ _ _ _ _ _ (b.put (x:=.v undef) (v:=undef) rfl) hx
theorem JS:∀ {env:Env} {t:Nat} {x:SV},(oD env)[t]? =some x->x=.u\/(env[t]? =some x/\∀s o,x≠.loc s o)
 | [],t,x,h=>by simp[oD]at h
 |y::r,0,x,h=>by
  cases y with
  |loc s o=>simp[oD]at h;exact .inl h.symm
  |v z=>simp[oD]at h;subst h;exact .inr ⟨by simp,λ_ _ e=>by cases e⟩
  |u=>simp[oD]at h;exact .inl h.symm
 |y::r,t+1,x,h=>by
  have h':(oD r)[t]? =some x:=by cases y<;>simpa[oD]using h
  rcases JS h' with a| ⟨a,b⟩
  .exact .inl a
  exact .inr ⟨by simpa using a,b⟩
theorem JR:∀(env:Env),(oD env).length=env.length
 | []=>rfl
 |y::r=>by cases y<;>simp[oD,JR r]
theorem OH{β:Nat->Nat}:∀(s:List Nat) (a:List Value) (env:Env) (tmps:Array Value),tmps.size=env.length->(∀t x,env[t]? =some x->vw β [] x (tmps.getD t undef))->
 ((s.zip a).foldl (λt (p,v)=>t.setIfInBounds p v) tmps).size=(EM env s a).length/\∀t x,(EM env s a)[t]? =some x->vw β [] x (((s.zip a).foldl (λt (p,v)=>t.setIfInBounds p v) tmps).getD t undef)
 | [],a,env,tmps,h,b=>by simp[EM,h];simpa using b
 |p::s,[],env,tmps,h,b=>by simp[EM,h];simpa using b
 |p::s,v::a,env,tmps,h,b=>by
  simp only[List.zip_cons_cons,mKn,EM];refine OH s a _ _ (by simp[h]) (λt x hx=>?_);rw[mXR]at hx;split at hx
  .rename_i e;subst e;split at hx
   .rename_i P;cases hx;show _=_;have E:p<tmps.size:=by rw[h];exact P
    rw[mXx,mKA E];rfl
   cases hx
  rename_i e;have:=b t x hx;rw[mXx,mKy (by omega),<-mXx];exact this
theorem bW.put{h:ad}{w:World}(a:Fo h w){o o':Obj}(c:h l=some o):bW h w (bU h l o') (w.putObj l o'):=by have e:=a _ _ c;have P:l<w.heap.size:=(mXD.1 e).1;exact bW.set a c (World.putObj_heap_same P) (λb d=>World.putObj_heap_other d) World.putObj_size ⟨rfl,rfl,rfl⟩
theorem aZi(D:gE P T)(C:∀c s h,¬T.kp c s h){r:Loop}{o:Code}(Q:gu T F=true)(j:gu T o=true)(Z:r.assign=F)(L:r.body=o)(y:r.state=.ready)(K:r.pending=none)
 (wC:(oD env).length=r.tmps.size) (J:∀t x,(oD env)[t]? =some x->vw (λ_=>0) [] x (r.tmps.getD t undef))
 {g:List Value} {i:ad} {k:ad->Prop} (X:g.length=r.params.size) (V:i l=some (.loop r))
 (hx:St A T (λ_=>P) F o (oD env) r.params.toList l (.loop r) (.loop { r with state:=.busy }) g k i):cZH (λ_=>P) l g i (λv h'=>v=.bool true/\k h'):=by
 refine⟨λw E=>⟨_,_,_,_,run_yield (E _ _ V) (by simpa using X),λn=>?_⟩⟩;refine roundIn_of_wpIn trivial ?_;have Y:(r.params.zip g.toArray).foldl (λtmps (t,a)=>tmps.setIfInBounds t a) r.tmps=(r.params.toList.zip g).foldl (λt (p,v)=>t.setIfInBounds p v) r.tmps:=by rw[<-nQr];simp
 rw[Y,Z,L];obtain⟨jE,I⟩:=OH (β:=λ_=>0) r.params.toList g (oD env) r.tmps wC.symm J;have W:eO [] i w (λ_=>0) (EM (oD env) r.params.toList g) [] i { tmps:=(r.params.toList.zip g).foldl (λt (p,v)=>t.setIfInBounds p v) r.tmps,defers:=[] } w:=
  ⟨bW.refl E,λs c u=>(by cases u),λs s' c c' u=>(by cases u),jE,I,rfl⟩
 refine lj (A:=A) (ro:=some l) D F Q W hx (qN.none C) λe kU L1 h1 ag a1 w1 m q=>?_;cases e with
 |normal=>
  obtain⟨G,k2⟩:=m;have U:=q.after.IV _ _ G;refine⟨_,run_beginRound U y,?_⟩;have O:=q.step (bW.put q.after.IV (o':=.loop { r with state:=.busy }) G);refine lj (A:=A) (ro:=some l) D o j O k2 (qN.none C) λe ab L2 S af a2 w2 z B=>?_;cases e with
  |normal=>
   obtain⟨H,k4⟩:=z;have vj:=B.after.IV _ _ H;refine⟨_,_,run_endRound none vj,?_⟩;have R:=B.step (bW.put B.after.IV (o':=.loop r) H);have N:({ r with state:=if(none:Option Code).isNone=true then LoopState.ready else LoopState.done,pending:=none }:Loop)=r:=by obtain⟨s,p,f,t,ps,a,b,d⟩:=r;simp only at y K;subst y K;rfl
   refine⟨_,bU S l (.loop r),rfl,⟨rfl,k4⟩,?_⟩;have M:({ ({ r with state:=.busy }:Loop)with state:=if(none:Option Code).isNone=true then LoopState.ready else LoopState.done,pending:=none }:Loop)=r:=N;have:=R.after;rw[M];exact this
  |exit id=>exact z.elim
  |ret=>exact z.elim
 |exit id=>exact m.elim
 |ret=>exact m.elim
theorem Fp(B:gE P T)(E:∀c s h,¬T.kp c s h){ds:List Df}{g:Operand}{p:Array Nat}{body:Code}{l:Array Value}{K:Nat->ad->Prop}
 (b:eO (ds.map Df.at) h0 w0 β env L h a w) (I:gu T F=true) (d:gu T body=true) (W:rq env g=.v (.func (.func f) #[] l)) (Y:T.fn f=true)
 (hx:kQh (λ_=>P) f l.toList p.size (St A T (λ_=>P) F body (oD env) p.toList) h K)
 (U:∀m h' q w',K m h'->eO ((Df.mark m::ds).map Df.at) h0 w0 β env L h' q w'->Q .normal q w'):(Code.rangeFunc g p F body).wp P Q a w:=by
 refine(wpIn_wide (n:=0)).1 (wpIn_rangeFunc λfn _=>?_);refine⟨w.heap.size+1,_,(w.alloc (.deferred (some []))).alloc (.loop { state:=.ready,pending:=none,fn,tmps:=a.tmps,params:=p,assign:=F,body,defers:=w.heap.size }),{ target:=.fn (.func f) l,args:= #[.func (.yield (w.heap.size+1)) #[] #[]] },(w.alloc (.deferred (some []))).alloc (.loop { state:=.ready,pending:=none,fn,tmps:=a.tmps,params:=p,assign:=F,body,defers:=w.heap.size }),f,#[.func (.yield (w.heap.size+1)) #[] #[]]++l,(w.alloc (.deferred (some []))).alloc (.loop { state:=.ready,pending:=none,fn,tmps:=a.tmps,params:=p,assign:=F,body,defers:=w.heap.size }),run_enterLoop_outer fn a.tmps p F body,?_,λ_ _=>trivial,?_,λhd=>by simp[Fence.wide]at hd,?_⟩
 .simp only[resolve,b.bY W,Deferred.ofValue,mXf];simp[Act.eval]
 .simp only[invoke,rj B Y]
 generalize C:({ state:=.ready,pending:=none,fn,tmps:=a.tmps,params:=p,assign:=F,body,defers:=w.heap.size }:Loop)=r;have H:=b.after.IV;have a1:bW h w (bU h w.heap.size (.deferred (some []))) (w.alloc (.deferred (some []))):=bW.new H _;have mX:(w.alloc (.deferred (some []))).heap.size=w.heap.size+1:=World.size_alloc w _;have a2:=bW.new a1.IV (.loop r);rw[mX]at a2;have j:=a1.trans a2;have lG:h w.heap.size=none:=H.qQ (mQD _);have mY:h (w.heap.size+1)=none:=H.qQ (by omega);have V:=(hx.out w.heap.size (w.heap.size+1) (.loop r) (.loop { r with state:=.busy }) lG mY (by omega) (λ_ _ _ e=>by cases e) (λ_ _ _ e=>by cases e) (λvs hh k hv X D=>by
  refine aZi (A:=A) (env:=env) B E I d (r:=r) (by rw[<-C]) (by rw[<-C]) (by rw[<-C]) (by rw[<-C]) ?_ ?_ (by rw[hv,<-C]) X ?_
  .rw[JR,<-b.size,<-C]
  .intro t x hx;rcases JS hx with rfl| ⟨R,S⟩
   .trivial
   have:=b.slot t x R;rw[<-C];cases x with
   |v z=>exact this
   |loc s o=>exact absurd rfl (S s o)
   |u=>trivial
  have Z:p=r.params:=by rw[<-C]
  rw[Z]at D;exact D)).out _ j.IV
 have G:=callsIn_wide (n:=0-1).2 V;have M:(Value.func (.yield (w.heap.size+1)) #[] #[]::l.toList).toArray= #[.func (.yield (w.heap.size+1)) #[] #[]]++l:=by apply Array.ext';simp
 rw[M]at G;refine CallsIn.mono G λe w3 ⟨v,h3,N,⟨y,O⟩,i⟩=>?_;subst N;have J:=i.IV _ _ y;refine⟨none,w3.putObj (w.heap.size+1) (.loop { r with state:=.exhausted }),?_,?_⟩
 .have:=run_endLoop (P:=P) J (by rw[<-C];simp);rw[this,<-C]
 refine U w.heap.size _ _ _ (O (.loop { r with state:=.exhausted }) (λ_ _ _ e=>by cases e)) ?_;have s1:=b.step ((j.trans i).trans (bW.put i.IV (o':=.loop { r with state:=.exhausted }) y));exact s1.Rk (Df.at (.mark w.heap.size))
def Pa:Code->Bool
 | .rangeFunc .. =>false
 | .seq a b| .cond _ a b=>Pa a&&Pa b
 | .block _ c=>Pa c
 |_=>true
theorem JX(z:∀ds,gE P (TT ds)):∀(c:Code),(∀ds,gu (TT ds) c=true)->(Pa c=true\/∀ds c s h,¬(TT ds).kp c s h)->∀ {K:Ex->List Df->Env->Loc->ad->Prop} {Q:Exit->Act->World->Prop} {ds:List Df} {env:Env} {L:Loc} {h:ad} {β:Nat->Nat} {a:Act} {w:World},
 eO (ds.map Df.at) h0 w0 β env L h a w->aQd A TT (λ_=>P) c K ds env L h->bXY TT h0 w0 Q->
 (∀e W u p h' v l w',K e W u p h'->eO (W.map Df.at) h0 w0 v u p h' l w'->Q (bQT e) l w')->c.wp P Q a w:=by
 intro c;induction c with
 |region id ops y=>
  intro o T K Q ds env L h β a w k hx Z f;cases y with
  |false=>exact wpIn_wide (n:=0).1 (wpIn_region_list (nq z Z (λW u p h' v l w' b i=>f .normal _ _ _ _ _ _ _ b i) ops.toList _ _ _ _ _ _ _ k hx))
  |true=>exact wpIn_wide (n:=0).1 (lj (A:=A) (ro:=none) (n:=0) (z ds) _ (o ds) k hx (Z ds) (λe u p h' v l w' b i=>f e _ _ _ _ _ _ _ b i))
 |seq c d r J=>
  intro o T K Q ds env L h β a w k hx Z f;simp only[gu,mQQ]at o;simp only[Pa,mQQ]at T;unfold aQd at hx;refine wp_seq (r (λds=>(o ds).1) (T.imp And.left id) k hx (λds c β env L h a w B C=>Z ds c β env L h a w B C) λe W u p h' v l w' b i=>?_);cases e with
  |normal=>exact J (λds=>(o ds).2) (T.imp And.right id) i b Z f
  |exit id=>exact f (.exit id) _ _ _ _ _ _ _ b i
  |ret=>exact f .ret _ _ _ _ _ _ _ b i
 |cond x c d r J=>
  intro o T K Q ds env L h β a w k hx Z f;simp only[gu,mQQ]at o;simp only[Pa,mQQ]at T;unfold aQd at hx;split at hx
  .rename_i t G;refine wp_cond (k.bY G) ?_;rcases pq hx with⟨rfl,hx⟩|⟨rfl,hx⟩
   .exact r (λds=>(o ds).1) (T.imp And.left id) k hx Z f
   exact J (λds=>(o ds).2) (T.imp And.right id) k hx Z f
  exact hx.elim
 |block id c H=>
  intro o T K Q ds env L h β a w k hx Z f;unfold aQd at hx;refine wp_block (H o T k hx (λds c β env L h a w B C=>Z ds c β env L h a w B C) λe W u p h' v l w' b i=>?_);cases e with
  |normal=>exact f .normal _ _ _ _ _ _ _ b i
  |exit j=>
   simp only[bQT,Exit.inBlock]at b |-;split at b
   .rename_i e;rw[if_pos e];exact f .normal _ _ _ _ _ _ _ b i
   rename_i e;rw[if_neg e];exact f (.exit j) _ _ _ _ _ _ _ b i
  |ret=>exact f .ret _ _ _ _ _ _ _ b i
 |rangeFunc g O I D=>
  intro o T K Q ds env L h β a w k hx Z f;simp only[gu,mQQ]at o;have E:∀ds c s h,¬(TT ds).kp c s h:=T.resolve_left (by simp[Pa]);unfold aQd at hx;split at hx
  .rename_i M first N F
   split at hx
   .rename_i q Y;have q:first= #[]:=by have:first.isEmpty=true:=q;simpa using this
    subst q;exact Fp (z ds) (E ds) k (o ds).1 (o ds).2 F Y hx (λm h' l w' b i=>f .normal _ _ _ _ _ _ _ b i)
   exact hx.elim
  exact hx.elim
 |_=>exact λo T {K Q ds env L h β a w} k hx Z f=>wpIn_wide (n:=0).1 (lj (A:=A) (ro:=none) (n:=0) (z ds) _ (o ds) k hx (Z ds) (λe u p h' v l w' b i=>f e _ _ _ _ _ _ _ b i))
theorem mC{f:FuncId}{h:ad}{w:World}(e:Fo h w):
 eO [] h w (λ_=>0) (args.map SV.v++List.replicate (fn.ntmps-args.length) (.v undef)) [] h { tmps:=args.toArray++Array.replicate (fn.ntmps-args.toArray.size) undef,defers:=[] } w:=by
 refine⟨bW.refl e,λs c b=>(by cases b),λs g c c' b=>(by cases b),by simp,λt x hx=>?_,rfl⟩;rw[mZh]at hx;split at hx
 .rename_i a;have E:t<args.length:=by simpa using a
  rw[mXe,mXP E]at hx;simp at hx;subst hx;show _=_;rw[mXx,nQi (by simpa using E)];simp[E]
 rename_i l;have d:args.length<=t:=by simpa using l
 rw[nQh]at hx;split at hx
 .rename_i a;cases hx;show _=_;rw[mXx,nQg (by simpa using d),mJP];simp at a |-;rw[if_pos a];rfl
 cases hx
theorem yJ(f:gE P T){ds:List Deferred}(s:eO ds h0 w0 β env L h a w)(r:uE T env L h fn.results.toList (λl=>pJ l (λv=>R v h))):
 ∃v,(results fn a.tmps).run P w=.ok v w/\R v h/\bW h0 w0 h w:=by
 obtain⟨l,d,b⟩:=Hn f s r;have e:(results fn a.tmps).run P w=.ok (if h:l.toArray.size=1 then l.toArray[0]else .tuple l.toArray) w:=by rw[Hm,mJU];rw[mQY,mJT];rw[d];rfl
 refine⟨_,e,?_,s.after⟩;unfold pJ at b;split at b
 .exact b
 rename_i c;have:¬l.toArray.size=1:=λg=>by
  match l,g with
  | [x],_=>exact c x rfl
 rw[dif_neg this];exact b
theorem zg(A:Ar)[bM A](g:gE P T)(r:P.funcs[f]? =some fn)(p:fn.body=some c)(t:gu T c=true){h:ad}
 (hx:dXx A T (λ_=>P) c fn.ntmps fn.results.toList args h R) (C:∀c s h,¬T.kp c s h:=by exact λ_ _ _ q=>q):aQa (λ_=>P) f args h R:=by
 refine⟨λw y n=>?_⟩;refine(callsDIn_of_wp (R:=λe w'=>∃v h',e=.returned v/\R v h'/\bW h w h' w') r p trivial ?_).mono (λe u' w' x=>x);refine lj (A:=A) (ro:=none) g c t (mC (f:=f) (fn:=fn) y) hx (qN.none C) λe j L h' z b w' a d=>?_;have fin:uE T j L h' fn.results.toList (λl=>pJ l (λv=>R v h'))->b.defers=[]/\∃v,(results fn b.tmps).run P w'=.ok v w'/\∃i a,Ending.returned v=.returned i/\R i a/\bW h w a w':=λu=>by
  obtain⟨v,k,m,o⟩:=yJ g d u;exact⟨d.defers,v,k,v,h',rfl,m,o⟩
 cases e with
 |normal=>exact fin a
 |ret=>exact fin a
 |exit id=>exact a.elim
theorem vA(b:gE P T)(K:List Deferred):∀(ds:List Df) {h:ad} {a:Act} {w:World},eO K h0 w0 β env L h a w->
 LY T (λ_=>P) ds (λh=>uE T env L h fn.results.toList (λl=>pJ l (λv=>R v h))) h->
 LeavesInM Fence.wide 0 P fn a.tmps (λe w'=>∃v h',e=.returned v/\R v h'/\bW h0 w0 h' w') (ds.map Df.at) .returning w
 | [],h,a,w,s,hx=>by
  obtain⟨v,i,j,k⟩:=yJ b s hx;exact⟨v,i,v,h,rfl,j,k⟩
 | .call g args cap::r,h,a,w,s,hx=>by
  unfold LY at hx;split at hx
  .rename_i o;have p:(invoke (.fn (.func g) cap.toArray) args.toArray).run P w=.ok (.enter g (args++cap).toArray) w:=by
    have d:args.toArray++cap.toArray=(args++cap).toArray:=by simp
    simp only[invoke,d,rj b o]
   refine⟨by simp,.inr ⟨λhd=>by simp[Fence.wide]at hd,_,_,_,_,rfl,p,λ_ _=>trivial,(hx.out w s.after.IV _).mono λe u' w' ⟨hu,v,h',he,hR,n⟩=>?_⟩⟩;subst hu;subst he;have:=vA b K r (s.step n) hR;exact this
  exact hx.elim
 | .mark m::r,h,a,w,s,hx=>by
  unfold LY at hx;obtain⟨c,f⟩:=hx;have q:=s.after.IV _ _ c;refine⟨by simp,.inl ⟨m,_,rfl,run_takeDeferred q,?_⟩⟩;exact vA b K r (s.step (bW.put s.after.IV c)) f
theorem oZ(A:Ar)[bM A](g:gE P T)(m:P.funcs[f]? =some fn)(j:fn.body=some c)(o:gu T c=true){h:ad}
 (hx:eJN A T (λ_=>P) c fn.ntmps fn.results.toList args h R) (C:∀c s h,¬T.kp c s h:=by exact λ_ _ _ k=>k):aQI (λ_=>P) f args h R:=by
 refine⟨λw p=>?_⟩;refine callsIn_wide.1 (callsIn_of_wp_marks (F:=Fence.wide) (n:=0) m j trivial ((wpIn_wide (n:=0)).2 ?_));refine JX (A:=A) (TT:=λ_=>T) (λ_=>g) c (λ_=>o) (.inr λ_=>C) (ds:=[]) (mC (f:=f) (fn:=fn) p) hx (λ_=>qN.none C) λe W i L h' u b w' a d=>?_;have fin:LY T (λ_=>P) W (λh=>uE T i L h fn.results.toList (λl=>pJ l (λv=>R v h))) h'->LeavesInM Fence.wide 0 P fn b.tmps (λe w'=>∃v h',e=.returned v/\R v h'/\bW h w h' w') b.defers .returning w':=λr=>by
  have:=vA g _ W d r;rw[d.defers];exact this
 cases e with
 |normal=>exact fin a
 |ret=>exact fin a
 |exit id=>exact a.elim
variable {ro:Option Nat}{n:Nat}
variable {P:Program}{T:bu}{A:Ar}[bM A]
variable {h0:ad}{w0:World}{β:Nat->Nat}{h:ad}{a:Act}{w:World}{env:Env}{L:Loc}{ds:List Deferred}
theorem mQ(A:Ar)[bM A](g:gE P T)(t:P.funcs[f]? =some fn)(r:fn.body=some c)(u:gu T c=true){h:ad}{K:List PanicEntry->ad->Prop}
 (C:∀c s h',T.kp c s h'->K c h') (hx:dXx A T (λ_=>P) c fn.ntmps fn.results.toList args h R):Rr (λ_=>P) f args h R K:=by
 refine⟨λw y=>?_⟩;refine calls_of_wp t r (wpIn_wide (n:=0).1 ?_);refine lj (A:=A) (ro:=none) (n:=0) g c u (mC (f:=f) (fn:=fn) y) hx (λc β env L a a1 D z q=>⟨q.defers,.inr ⟨c,a,rfl,C _ _ _ z,q.after⟩⟩) λe k j h' B b w' a d=>?_;have fin:uE T k j h' fn.results.toList (λl=>pJ l (λv=>R v h'))->b.defers=[]/\∃v,(results fn b.tmps).run P w'=.ok v w'/\
  ((∃i a,Ending.returned v=.returned i/\R i a/\bW h w a w')\/(∃c a,Ending.returned v=.panicked c/\K c a/\bW h w a w')):=λx=>by
  obtain⟨v,m,o,p⟩:=yJ g d x;exact⟨d.defers,v,m,.inl ⟨v,h',rfl,o,p⟩⟩
 cases e with
 |normal=>exact fin a
 |ret=>exact fin a
 |exit id=>exact a.elim
structure gZs(p:Unit->Program)(f:FuncId)(args:List Value)(v:Value)(h:ad)(R:ad->Prop):Prop where
 out:∀w,Fo h w->∀n,CallsDIn Fence.wide n (p ()) f args.toArray (.panicking [{ v,recovered:=false }]) w λe u' w'=>u'=.panicking [{ v,recovered:=true }]/\∃x h',e=.returned x/\R h'/\bW h w h' w'
def OP(T:bu)(h:ad):List ResultVar->List SV->(List Value->Prop)->Prop
 | [],_,k=>k []
 |r::rs,ss,k=>match r with
  | .cell _ t=>match ss with
   |s::ss=>match s with
    | .v (.pointer (some x))=>match (T.ty t).kd.isNone with
     |true=>False
     |false=>Bn h x (T.ty t).size (λcs=>uF (T.ty t).agg cs (λv=>OP T h rs ss (λl=>k (v::l))))
    |_=>False
   | []=>False
  | .tmp _=>False
def Yf:List ResultVar->List Nat
 | []=>[]
 | .cell a _::r=>a::Yf r
 | .tmp t::r=>t::Yf r
theorem Hp:∀ {rs:List ResultVar} {k:List Value->Prop},OP T h rs ((Yf rs).map λt=>rq env (.tmp t)) k->uE T env L h rs k
 | [],k,r=>r
 | .tmp _::rs,k,r=>by unfold OP at r;exact r.elim
 | .cell q t::rs,k,r=>by
  unfold OP at r;simp only[Yf,mZG,rq]at r;split at r
  .rename_i x hx;split at r
   .exact r.elim
   rename_i n;obtain⟨cs,b,c⟩:=(show Bn _ _ _ _ from r).out;have d:Bn h x (T.ty t).size λcs=>uF (T.ty t).agg cs λx=>uE T env L h rs λxs=>k (x::xs):=⟨cs,b,oN c λv e=>Hp e⟩;unfold uE bKm;cases a:(T.ty t).kd with
   |none=>rw[a]at n;cases n
   |_=>simp only[a,hx];exact d
  exact r.elim
def dXN(T:bu)(p:Unit->Program)(rs:List ResultVar)(R:Value->ad->Prop)(ds:List Df)(c:List PanicEntry)(s:List SV)(h:ad):Prop:=
 match ds with
 | [.call g args cap]=>match T.fn g with
  |true=>∃x,c=[{ v:=x,recovered:=false }]/\gZs p g (args++cap) x h (λh'=>OP T h' rs s (λl=>pJ l (λv=>R v h')))
  |false=>False
 |_=>False
def bu.cJk(T:bu)(p:Unit->Program)(rs:List ResultVar)(R:Value->ad->Prop)(ds:List Df):bu:={ T with rs:=Yf rs,kp:=dXN T p rs R ds }
def eJM(A:Ar)(T:bu)(p:Unit->Program)(c:Code)(ntmps:Nat)(rs:List ResultVar)(args:List Value)(h:ad)(R:Value->ad->Prop):Prop:=
 aQd A (T.cJk p rs R) p c (λe ds env L h=>match e with
  | .exit _=>False
  |_=>LY T p ds (λh=>uE T env L h rs (λl=>pJ l (λv=>R v h))) h) [] (args.map SV.v++List.replicate (ntmps-args.length) (.v undef)) [] h
theorem Zj(A:Ar)[bM A](b:gE P T)(G:P.funcs[f]? =some fn)(E:fn.body=some c)(J:∀q k,gu { T with rs:=q,kp:=k } c=true)(z:Pa c=true){h:ad}
 (hx:eJM A T (λ_=>P) c fn.ntmps fn.results.toList args h R):aQI (λ_=>P) f args h R:=by
 refine⟨λw K=>?_⟩;refine callsIn_wide.1 (callsIn_of_wp_marks (F:=Fence.wide) (n:=0) G E trivial ((wpIn_wide (n:=0)).2 ?_));refine JX (A:=A) (TT:=T.cJk (λ_=>P) fn.results.toList R) (λ_=>⟨b.ty,b.fn,b.mixed⟩) c (λds=>J _ _) (.inl z) (ds:=[]) (mC (f:=f) (fn:=fn) K) hx ?_ λe W s p h' M m w' d o=>?_
 .intro ds c' β env L d a1 i a j;change dXN T (λ_=>P) fn.results.toList R ds c' ((Yf fn.results.toList).map λt=>rq env (.tmp t)) d at a;unfold dXN at a;split at a
  .rename_i g args cap;split at a
   .rename_i H;obtain⟨x,rfl,r⟩:=a;have I:(invoke (.fn (.func g) cap.toArray) args.toArray).run P i=.ok (.enter g (args++cap).toArray) i:=by
     have u:args.toArray++cap.toArray=(args++cap).toArray:=by simp
     simp only[invoke,u,rj b H]
    show LeavesInM Fence.wide 0 P fn a1.tmps _ a1.defers (.panicking _) i;rw[j.defers];refine⟨by simp,.inr ⟨λhd=>by simp[Fence.wide]at hd,_,_,_,_,rfl,I,λ_ _=>trivial,(r.out i j.after.IV _).mono λe u' w' ⟨hu,v,h',he,hR,D⟩=>?_⟩⟩;subst hu;subst he;obtain⟨v,y,B,C⟩:=yJ b (j.step D) (Hp hR);exact⟨v,y,v,h',rfl,B,C⟩
   exact a.elim
  exact a.elim
 have fin:LY T (λ_=>P) W (λh=>uE T s p h fn.results.toList (λl=>pJ l (λv=>R v h))) h'->LeavesInM Fence.wide 0 P fn m.tmps (λe w'=>∃v h',e=.returned v/\R v h'/\bW h w h' w') m.defers .returning w':=λr=>by
  have:=vA b _ W o r;rw[o.defers];exact this
 cases e with
 |normal=>exact fin d
 |ret=>exact fin d
 |exit id=>exact d.elim
end Go.Sx
