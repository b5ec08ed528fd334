import Derived.Test.YtficmdggjjepmaaGreatSxA
import Derived.Scope
set_option linter.all false
namespace Go.Sx
variable {g:Bool}{c:Code}{K:Env->Loc->ab->Prop}{Q:Exit->Act->World->Prop}{fn:Func}{f:FuncId}{args cs z:List Value}{bytes cap i j size:Nat}{o:Oper}{N:Operand->SV}{b:Option Addr}{d:Option Nat}{q:Prop}{k:SV->Loc->ab->Prop}{p:Unit->Program}{y:Unit->Prop}{s:Unit->Sem Value}{R:Value->ab->Prop}{h':ab}
variable {ro:Option Nat}{n:Nat}
variable {P:Program}{T:aN}{A:Ar}[aV A]
variable {ds:List Deferred}{h0:ab}{w0:World}{β:Nat->Nat}{env:Env}{L:Loc}{h:ab}{a:Act}{w:World}
theorem WL{ops:List Oper}{env:Env}{n c n':Unit->Prop}(h:gd ops env o y n)(b:y ()->c ())(a:n ()->n' ()):gd ops env o c n':=by
 unfold gd at *;repeat' split at h
 all_goals first
  |exact b h
  |exact a h
  |exact h.elim
  | (rcases jk h with⟨rfl,h⟩ | ⟨rfl,h⟩<;>first|exact b h|exact a h)
theorem rq(s:da ds h0 w0 β env L h a w){ops:Array Oper}{n:Unit->Prop}(g:gd ops.toList env o y n):
 (Region.wanted o (yielded ops a.tmps)=true/\y ())\/(Region.wanted o (yielded ops a.tmps)=false/\n ()):=by
 unfold gd at g;split at g
 .rename_i W;exact .inl ⟨by simp[Region.wanted,W],g⟩
 rename_i j t C;split at g
 .rename_i l Q;have J:ops[j]? =some l:=by simpa using Q
  split at g
  .rename_i d c;split at g
   .rename_i b f;have e:=getD_some f (by simp);have iX:=s.slot d _ e;have I:d<a.tmps.size:=by rw[s.size];exact(dB.1 e).1
    have iX:a.tmps.getD d undef=.bool b:=iX;have v:a.tmps[d]? =some (.bool b):=by rw[zt]at iX;rw[hJZ I]at iX |-;simpa using iX
    have k:Region.wanted o (yielded ops a.tmps)=(b==t):=by simp[Region.wanted,C,yielded,J,c,v]
    rw[k];split at g
    .rcases jk g with⟨rfl,g⟩|⟨rfl,g⟩
     .exact .inl ⟨rfl,g⟩
     exact .inr ⟨rfl,g⟩
    rcases jk g with⟨rfl,g⟩|⟨rfl,g⟩
    .exact .inr ⟨rfl,g⟩
    exact .inl ⟨rfl,g⟩
   .rename_i i f;have e:=getD_some f (by simp);have iX:=s.slot d _ e;have I:d<a.tmps.size:=by rw[s.size];exact(dB.1 e).1
    have iX:a.tmps.getD d undef=.tuple i:=iX;have v:a.tmps[d]? =some (.tuple i):=by rw[zt]at iX;rw[hJZ I]at iX |-;simpa using iX
    exact .inr ⟨by simp[Region.wanted,C,yielded,J,c,v],g⟩
   exact g.elim
  rename_i c;exact .inr ⟨by simp[Region.wanted,C,yielded,J,c],g⟩
 rename_i Q;have J:ops[j]? =none:=by simpa using Q
 exact .inr ⟨by simp[Region.wanted,C,yielded,J],g⟩
theorem np(d:eU P T){ops:Array Oper}
 (f:lD T ds h0 w0 Q) (g:∀u e h' z t i,K u e h'->da ds h0 w0 z u e h' t i->Q .normal t i):
 ∀(l:List Oper) (env:Env) (L:Loc) (h:ab) (β:Nat->Nat) (a:Act) (w:World),da ds h0 w0 β env L h a w->
  zH A T (λ_=>P) ops.toList K l env L h->wpListIn (FW ro) n P ops Q l a w
 | [],env,L,h,β,a,w,b,hx=>g _ _ _ _ _ _ hx b
 |o::r,env,L,h,β,a,w,b,hx=>by
  unfold zH at hx;unfold wpListIn;rcases rq b hx with⟨hw,hx⟩|⟨hw,hx⟩
  .rw[if_pos hw];split at hx
   .obtain⟨B,D,k,m⟩:=oT hx;obtain⟨v,i,z,p,C⟩:=wV d b (m (λx y=>x=B/\y=D) ⟨rfl,rfl⟩);refine qe p ?_;exact np d f g r _ _ _ _ _ _ C k
   refine Ja d b (Lc:=L) (λ_ _ q=>q) hx f λB v G e h' i k m p=>?_;have:G=e:=by
    rcases p with⟨e1,j⟩|⟨s,c,x,y,-,-,e1,j⟩
    .rw[e1,j]
    rw[e1,j]
   subst this;exact np d f g r _ _ _ _ _ _ m k
  rw[if_neg (by simp[hw])];refine⟨λ_ _=>trivial,?_⟩;exact np d f g r _ _ _ _ _ _ (b.put (x:=.v undef) (v:=undef) rfl) hx
def kM(o:Oper):Bool:=match o.op with
 | .load .. =>true
 |_=>false
def ll(o:Oper):Bool:=match o.op with
 | .alloc _| .box .. =>true
 |_=>false
def eD(o:Oper):Bool:=match o.op with
 | .assign _=>true
 |_=>false
theorem lQ{m:Operand->SV}{L v:Loc}{h:ab}{k:SV->Option (List Value)->Prop}(j:gO A T p o m L h k)
 (Y:∀x∈o.op.operands.toList,N x=m x) (E:kM o=true->∀x∈o.op.operands.toList,∀s off,m x=.loc s off->∀c,js L s=some c->js v s=some c)
 (D:ll o=true->∀d,o.dst=some d->js v d=none) (G:kM o=true->h'=h):gO A T p o N v h' k:=by
 unfold gO at j |-;split at j;case h_1 x a=>simp only[a]at Y |-;rw[Y x (by simp[Op.operands])];exact j
 case h_2 c x y a=>simp only[a]at Y |-;rw[Y c (by simp[Op.operands]),Y x (by simp[Op.operands]),Y y (by simp[Op.operands])];exact j
 case h_3 e a=>
  have C:=D (by simp[ll,a]);simp only[a]at Y |-;split at j
  .exact j.elim
  split at j
  .exact j.elim
  rename_i d w;split at j
  .simp only[C d w];exact j
  exact j.elim
 case h_4 e x a=>
  have C:=D (by simp[ll,a]);simp only[a]at Y |-;rw[Y x (by simp[Op.operands])];split at j
  .exact j.elim
  rename_i d w;split at j
  .split at j
   .simp only[C d w];exact j
   exact j.elim
  exact j.elim
 case h_5 t x a=>
  have J:=E (by simp[kM,a]);have Q:=G (by simp[kM,a]);subst Q;simp only[a]at Y J |-;rw[Y x (by simp[Op.operands])];split at j
  .exact j.elim
  split at j
  .rename_i s off hx;split at j
   .rename_i c F;simp only[J x (by simp[Op.operands]) s off hx c F];exact j
   exact j.elim
  .exact j
  exact j.elim
 case h_6 x a=>simp only[a]at Y |-;rw[Y x (by simp[Op.operands])];exact j
 case h_7 t x f a=>simp only[a]at Y |-;rw[Y x (by simp[Op.operands])];exact j
 case h_8 t x i a=>simp only[a]at Y |-;rw[Y x (by simp[Op.operands]),Y i (by simp[Op.operands])];exact j
 case h_9 t x i a=>simp only[a]at Y |-;rw[Y x (by simp[Op.operands]),Y i (by simp[Op.operands])];exact j
 case h_10 t x f a=>simp only[a]at Y |-;rw[Y x (by simp[Op.operands])];exact j
 case h_11 x i a=>simp only[a]at Y |-;rw[Y x (by simp[Op.operands])];exact j
 case h_12 t parts a=>
  simp only[a]at Y |-;have:∀l:List (Nat×Operand),(∀q∈l,N q.2=m q.2)->lP N l=lP m l:=λl=>by
   induction l with
   |nil=>intro _;rfl
   |cons q r K=>intro u;obtain⟨i,x⟩:=q;unfold lP;rw[u (i,x) (by simp),K (λq Z=>u q (by simp[Z]))]
  rw[this parts.toList (λq u=>Y q.2 (by simp only[Op.operands,hJK];exact⟨q,u,rfl⟩))];exact j
 case h_13 op t x y ty a=>simp only[a]at Y |-;rw[Y x (by simp[Op.operands]),Y y (by simp[Op.operands])];exact j
 case h_14 op t x a=>simp only[a]at Y |-;rw[Y x (by simp[Op.operands])];exact j
 case h_15 s d x a=>simp only[a]at Y |-;rw[Y x (by simp[Op.operands])];exact j
 case h_16 t x a=>simp only[a]at Y |-;rw[Y x (by simp[Op.operands])];exact j
 case h_17 fn f c a=>
  simp only[a]at Y |-;rw[hKl (g:=m) (λx hx=>Y x (by simp only[Op.operands,hKS,hJJ];exact .inl hx)),
   hKl (l:=c.toList) (g:=m) (λx hx=>Y x (by simp only[Op.operands,hKS,hJJ];exact .inr hx))]
  exact j
 case h_18 t x M H O a=>
  simp only[a]at Y |-;have B:∀y:Option Operand,(∀z,y=some z->N z=m z)->UH N y=UH m y:=λy I=>by
   cases y with
   |none=>rfl
   |some z=>simp only[UH,I z rfl]
  rw[B M (λz n=>Y z (by simp[Op.operands,n])),B H (λz n=>Y z (by simp[Op.operands,n])),B O (λz n=>Y z (by simp[Op.operands,n])),
   Y x (by simp[Op.operands])]
  exact j
 case h_19 b args argTypes a=>simp only[a]at Y |-;rw[hKl (g:=m) (λx hx=>Y x (by simp[Op.operands,Call.operands];simpa using hx))];exact j
 case h_20 x q as ok a=>simp only[a]at Y |-;rw[Y x (by simp[Op.operands])];exact j
 case h_21=>exact j.elim
theorem Qx{d:Operand->SV}{L:Loc}{h:ab}(c:hx A T p o d L h k)
 (Y:∀x∈o.op.operands.toList,N x=d x) (X:∀t∈T.rs,N (.tmp t)=d (.tmp t)):hx A T p o N L h k:=by
 have n:(T.rs.map λt=>N (.tmp t))=(T.rs.map λt=>d (.tmp t)):=hKl X;unfold hx at c |-;split at c;case h_1 x a=>simp only[a]at Y |-;rw[Y x (by simp[Op.operands])];exact c
 case h_2 t x y a=>simp only[a]at Y |-;rw[Y x (by simp[Op.operands]),Y y (by simp[Op.operands])];exact c
 case h_3 e a=>simp only[a]at Y |-;exact c
 case h_4 e x a=>simp only[a]at Y |-;rw[Y x (by simp[Op.operands])];exact c
 case h_5 t len parts a=>
  simp only[a]at Y |-;have:∀l:List (Nat×Operand),(∀q∈l,N q.2=d q.2)->lP N l=lP d l:=λl=>by
   induction l with
   |nil=>intro _;rfl
   |cons q r s=>intro j;obtain⟨i,x⟩:=q;unfold lP;rw[j (i,x) (by simp),s (λq Z=>j q (by simp[Z]))]
  rw[this parts.toList (λq j=>Y q.2 (by simp only[Op.operands,hJK];exact⟨q,j,rfl⟩))];exact c
 case h_6 t x y a=>simp only[a]at Y |-;rw[Y x (by simp[Op.operands]),Y y (by simp[Op.operands])];exact c
 case h_7 t r a=>simp only[a]at Y |-;exact c
 case h_8 f args argTypes a=>simp only[a]at Y |-;rw[Y f (by simp[Op.operands,Call.operands]),hKl (g:=d) (λx hx=>Y x (by simp[Op.operands,Call.operands];right;simpa using hx)),n];exact c
 case h_9 b args argTypes a=>simp only[a]at Y |-;rw[hKl (g:=d) (λx hx=>Y x (by simp[Op.operands,Call.operands];simpa using hx))];exact c
 case h_10 src dst x a=>simp only[a]at Y |-;rw[Y x (by simp[Op.operands])];exact c
 case h_11 t x i b a=>simp only[a]at Y |-;rw[Y x (by simp[Op.operands]),Y i (by simp[Op.operands])];exact c
 case h_12 t m i x a=>simp only[a]at Y |-;rw[Y m (by simp[Op.operands]),Y i (by simp[Op.operands]),Y x (by simp[Op.operands])];exact c
 case h_13 t m i a=>simp only[a]at Y |-;rw[Y m (by simp[Op.operands]),Y i (by simp[Op.operands])];exact c
 case h_14 t m i x a=>simp only[a]at Y |-;rw[Y m (by simp[Op.operands]),Y i (by simp[Op.operands]),Y x (by simp[Op.operands])];exact c
 case h_15 t x a=>simp only[a]at Y |-;rw[Y x (by simp[Op.operands])];exact c
 case h_16 it str a=>simp only[a]at Y |-;rw[Y it (by simp[Op.operands])];exact c
 case h_17 it a=>simp only[a]at Y |-;rw[Y it (by simp[Op.operands])];exact c
 case h_18 t m i x a=>simp only[a]at Y |-;rw[Y m (by simp[Op.operands]),Y i (by simp[Op.operands]),Y x (by simp[Op.operands])];exact c
 case h_19 x a=>simp only[a]at Y |-;rw[Y x (by simp[Op.operands]),n];exact c
 case h_20=>exact c.elim
variable {P:Program}{T:aN}{A:Ar}[aV A]
variable {ds:List Deferred}{h0:ab}{w0:World}
def jq(o:Oper):List Nat:=(o.after.toList.filter λe=>Region.binds .any e).map (·.on)
def th(T:aN)(ops:Array Oper):Bool:=
 (List.range ops.size).all λi=>match ops[i]? with
  |none=>false
  |some oi=>(jq oi).all (λe=>decide (e<i))&&
   (match oi.dst with|none=>true|some d=> !jP T oi|| !(oi.looksAt ops).contains d)&&
   (List.range ops.size).all λj=>i==j||match ops[j]? with
    |none=>false
    |some oj=>match oi.dst with
     |none=>true
     |some d=>oj.dst !=some d&&(!(oj.looksAt ops).contains d||(jq oj).contains i||(!jP T oi&&(jq oi).contains j))
def PE(T:aN)(ops:Array Oper):Bool:=ops.toList.all λo=>match o.dst with
 |some d=> !T.rs.contains d
 |none=>true
theorem Ms{T:aN}{ops:Array Oper}(h:PE T ops=true)(b:ops[i]? =some o){t:Nat}(c:t∈T.rs):o.dst≠some t:=λd=>by
 unfold PE at h;rw[GD]at h;have a:=h o (by
  obtain⟨hl,rfl⟩:=zj.1 b;simp)
 rw[d]at a;simp[c]at a
def ja(ops:Array Oper):Nat->List Nat->List Nat
 |0,s=>s
 |i+1,s=>ja ops i (if s.contains i then(match ops[i]? with|some o=>jq o|none=>[])++s else s)
def pC:sX->List Nat
 | .ad i _ _=>[i]
 | .fork l r=>pC l++pC r
 |_=>[]
def EL(ops:Array Oper)(p:sX)(listed:List Nat):Bool:=
 (List.range ops.size).all λj=>listed.contains j||(pC p).contains j||match ops[j]? with
  |some o=> !(jq o).all listed.contains
  |none=>true
def yN(T:aN)(ops:Array Oper):sX->Bool->List Nat->List Nat->List Nat->Bool
 | .done,br,listed,_,_=> !br&&(List.range ops.size).all listed.contains
 | .aa i rest,br,listed,pend,known=> !br&& !listed.contains i&&(match ops[i]? with
  |some o=>jP T o&&(jq o).all listed.contains
  |none=>false)&&yN T ops rest false (i::listed) (i::pend) known
 | .ad i pn rest,br,listed,pend,known=>(br||EL ops (.ad i pn rest) listed)&& !listed.contains i&&(match ops[i]? with
  |some o=> !jP T o&&(eD o||pend.all λj=>(ja ops ops.size (i::known)).contains j||pn.contains j||(match ops[j]? with
   |some oj=> !kM oj
   |none=>true))
  |none=>false)&&
  yN T ops rest false (i::listed) (pend.filter λj=> !(ja ops ops.size (i::known)).contains j) (ja ops ops.size (i::known))
 | .fork l r,br,listed,pend,known=>(br||EL ops (.fork l r) listed)&&yN T ops l true listed pend known&&yN T ops r true listed pend known
theorem mP{ops:Array Oper}(r:th T ops=true)(g:ops[i]? =some o):
 (∀e∈jq o,e<i)/\(jP T o=true->∀d,o.dst=some d->d∉o.looksAt ops)/\∀j b,i≠j->ops[j]? =some b->∀d,o.dst=some d->b.dst≠some d/\
  (d∈b.looksAt ops->i∈jq b\/(jP T o=false/\j∈jq o)):=by
 unfold th at r;rw[GD]at r;have I:i<ops.size:=(zj.1 g).1;have c:=r i (by simpa using I);simp only[g,wL,GD,yr]at c;refine⟨c.1.1,λhl d f=>?_,λj b m k d f=>?_⟩
 .have:=c.1.2;simp only[f,hl,iXm,hKX,hKn,hKc,decide_eq_false_iff_not]at this;exact this
 have a:=c.2 j (by simpa using (zj.1 k).1);simp only[k,f,hKR,beq_iff_eq,wL,bne_iff_ne,hKn,hKc,yr,decide_eq_false_iff_not]at a;rcases a with a| ⟨a,h⟩
 .exact absurd a m
 refine⟨a,λn=>?_⟩;rcases h with (h|h)|⟨h,l⟩
 .exact absurd n h
 .exact .inl h
 exact .inr ⟨h,l⟩
def In(X:Array Bool)(i:Nat):Prop:=X.getD i false=true
theorem In.set{X:Array Bool}(a:i<X.size):In (X.setIfInBounds i true) j↔i=j\/In X j:=by
 unfold In;simp only[zt,iXl];by_cases h:i=j
 .subst h;simp[a]
 simp[h]
theorem CL:i∈jq o↔∃e∈o.after,Region.binds .any e=true/\e.on=i:=by simp[jq,and_assoc]
theorem wJ{ops:Array Oper}{X:Array Bool}(hX:X.size=ops.size):
 j∈Region.ready .any ops X↔¬In X j/\∃o,ops[j]? =some o/\∀e∈jq o,In X e:=by
 rw[mem_ready];constructor
 .rintro⟨h,o,a,b⟩;have I:j<X.size:=by rw[hX];exact(zj.1 a).1
  refine⟨?_,o,a,λe c=>?_⟩
  .unfold In;rw[zt,hJZ I]at h |-;simp at h |-;exact h
  obtain⟨d,f,g,rfl⟩:=CL.1 c;exact b d f g
 rintro⟨h,o,a,b⟩;have I:j<X.size:=by rw[hX];exact(zj.1 a).1
 refine⟨?_,o,a,λe c i=>b e.on (CL.2 ⟨e,c,i,rfl⟩)⟩;unfold In at h;rw[zt,hJZ I]at h |-;simp at h |-;exact h
theorem Bg{ops:Array Oper}{X:Array Bool}(d:∀i o,In X i->ops[i]? =some o->∀e∈jq o,In X e):
 ∀(n:Nat) (s:List Nat),(∀i∈s,In X i)->∀i∈ja ops n s,In X i
 |0,s,a=>a
 |n+1,s,a=>by
  unfold ja;refine Bg d n _ λi h=>?_;split at h
  .rename_i c;rcases hJJ.1 h with h|h
   .cases b:ops[n]? with
    |none=>rw[b]at h;cases h
    |some o=>rw[b]at h;exact d n o (a n (by simpa using c)) b i h
   exact a i h
  exact a i h
structure nh where
 i:Nat
 o:Oper
 sv:SV
 nb:Option (List Value)
def nh.fact(A:Ar)(T:aN)(P:Program)(ops:Array Oper)(env:Env)(L:Loc)(h:ab)(x:nh):Prop:=
 gd ops.toList env x.o (λ_=>gO A T (λ_=>P) x.o (mY env) (if ll x.o then []else L) h (λa b=>a=x.sv/\b=x.nb)) (λ_=>x.sv=.v undef/\x.nb=none)
structure fT(A:Ar)(T:aN)(P:Program)(ops:Array Oper)(X:Array Bool)(D:List nh)(listed pend known:List Nat)(envc:Env)(Lc:Loc)(gV:Env)(La:Loc)(h:ab):Prop where
 size:X.size=ops.size
 aXH:∀j,j∈listed↔In X j\/∃x∈D,x.i=j
 apart:∀x∈D,¬In X x.i
 down:∀i o,In X i->ops[i]? =some o->∀e∈jq o,In X e
 known:∀i∈known,In X i
 pend:∀x∈D,x.i∈pend
 len:gV.length=envc.length
 env:∀t,(∀x∈D,x.o.dst≠some t)->gV[t]? =envc[t]?
 dst:∀x∈D,∀t,x.o.dst=some t->t<envc.length->envc[t]? =some x.sv
 loc:∀s,(∀x∈D,x.nb.isSome=true->x.o.dst≠some s)->js La s=js Lc s
 box:∀x∈D,∀s c,x.nb=some c->x.o.dst=some s->js La s=none/\js Lc s=some c
 op:∀x∈D,ops[x.i]? =some x.o/\jP T x.o=true
 bZj:∀x∈D,∀e∈jq x.o,e∈listed
 uniq:∀x∈D,∀y∈D,x.i=y.i->x=y
 fact:∀x∈D,x.fact A T P ops envc Lc h
theorem vF{ops:List Oper}{env:Env}{n:Unit->Prop}(h:gd ops env o y n):
 (y ()/\∀a n':Unit->Prop,gd ops env o a n'↔a ())\/(n ()/\∀a n':Unit->Prop,gd ops env o a n'↔n' ()):=by
 unfold gd at *;repeat' split at h
 all_goals first
  |exact h.elim
  |exact .inl ⟨h,λ_ _=>Iff.rfl⟩
  |exact .inr ⟨h,λ_ _=>Iff.rfl⟩
  | (rcases jk h with⟨rfl,h⟩ | ⟨rfl,h⟩<;>first
   |exact .inl ⟨h,λ_ _=>Iff.rfl⟩
   |exact .inr ⟨h,λ_ _=>Iff.rfl⟩)
theorem AR{ops:Array Oper}{env c:Env}{n:Unit->Prop}(h:gd ops.toList env o y n)(e:∀t∈o.looksAt ops,c[t]? =env[t]?):
 gd ops.toList c o y n:=by
 have key:∀(j:Nat) (w:Bool),o.guard=some (j,w)->∀a,ops.toList[j]? =some a->∀d,a.dst=some d->c.getD d .u=env.getD d .u:=λj w C a Q d b=>by
  rw[xa,xa,e d ?_];unfold Oper.looksAt;refine iXk _ ?_;have J:ops[j]? =some a:=by simpa using Q
  simp[C,J,b]
 unfold gd at h |-;cases C:o.guard with
 |none=>simp only[C]at h;exact h
 |some f=>
  obtain⟨j,w⟩:=f;simp only[C]at h |-;cases Q:ops.toList[j]? with
  |none=>simp only[Q]at h;exact h
  |some a=>
   simp only[Q]at h |-;cases b:a.dst with
   |none=>simp only[b]at h;exact h
   |some d=>simp only[b]at h |-;rw[key j w C a Q d b];exact h
theorem uN{ops:Array Oper}{env c:Env}(h:∀t∈o.looksAt ops,c[t]? =env[t]?):∀x∈o.op.operands.toList,mY c x=mY env x:=λx hx=>by
 cases x with
 |tmp t=>show c.getD t .u=env.getD t .u;rw[xa,xa,h t ?_];unfold Oper.looksAt;exact iQI _ (List.mem_filterMap.2 ⟨.tmp t,hx,rfl⟩)
 |const v=>rfl
 |global g=>rfl
 |func f=>rfl
theorem jI{env:Env}{x:SV}{t:Nat}(h:d≠some t):(put env d x)[t]? =env[t]? :=by
 cases d with
 |none=>rfl
 |some u=>simp only[put];rw[hKQ (λe=>h (by rw[e]))]
theorem uY{env:Env}{t:Nat}{x:SV}(h:t<env.length):(put env (some t) x)[t]? =some x:=by simp only[put];rw[hKb h]
theorem kW{env:Env}{x:SV}:(put env d x).length=env.length:=by cases d<;>simp[put]
theorem PJ(h:pJ g cs (λ_=>q)):q:=(jH h).elim λ_ h=>h.2
theorem bZN{h:ab}{x:Addr}{n:Nat}(k:vX h x n (λcs=>pJ g cs (λ_=>q))):q:=k.out.elim λ_ h=>PJ h.2
theorem aQX(h:rO p s (λ_=>q)):q:=h.out.elim λ_ h=>h.2
theorem cQY{p:Unit->Prop}(h:pS p (λ_=>q)):q:=h.out
theorem Ps{len:Nat}{l a m:Option Int}(h:wG A b len cap size l a m (λ_=>q)):q:=(oN h).elim λ_ h=>h.1
theorem Pt{s:ByteArray}{l a:Option Int}(h:zM A s l a (λ_=>q)):q:=(tP h).elim λ_ h=>h.1
theorem aKn{o:BinOp}{a b:Value}{e:(Value->Prop)->Unit->Prop}(d:∀k,e k ()->∃v,k v/\∀c:Value->Prop,c v->e c ())(f:Hw A o a b (λ_=>q) (e (λ_=>q))):q:=(Bj d f).elim λ_ h=>h.1
theorem aKm{o:BinOp}{a b:Value}(d:Hw A o a b (λ_=>q) (λ_=>rO p s (λ_=>q))):q:=
 aKn (e:=λk _=>rO p s k) (λk h=>by
  obtain⟨v,g,c⟩:=h.out;exact⟨v,c,λf h'=>⟨v,g,h'⟩⟩) d
theorem tS{l:Operand->SV}{L:Loc}{h:ab}{s:SV}{n:Option (List Value)}(k:gO A T p o l L h (λa b=>a=s/\b=n)):
 (ll o=true->n.isSome=true/\∃d,o.dst=some d/\js L d=none)/\(ll o=false->n=none):=by
 obtain⟨Z,X,⟨rfl,rfl⟩,j⟩:=oT k;clear k;have c:=j (λa b=>b=X) rfl;clear j;unfold gO at c;split at c;case h_3 e f=>
  refine⟨λ_=>?_,λg=>by simp[ll,f]at g⟩;split at c
  .exact c.elim
  split at c
  .exact c.elim
  rename_i d i;split at c
  .rename_i hl;subst c;exact⟨rfl,d,i,hl⟩
  exact c.elim
 case h_4 e x f=>
  refine⟨λ_=>?_,λg=>by simp[ll,f]at g⟩;split at c
  .exact c.elim
  rename_i d i;split at c
  .split at c
   .rename_i hl;subst c;exact⟨rfl,d,i,hl⟩
   exact c.elim
  exact c.elim
 case h_21=>exact c.elim
 all_goals
  rename_i f;refine⟨λg=>by simp[ll,f]at g,λ_=>?_⟩;clear f;repeat' split at c
  all_goals first
   |exact c.elim
   |exact Eq.symm c
   |exact Eq.symm (bZN c)
   |exact Eq.symm (PJ c)
   |exact Eq.symm (aQX c)
   |exact Eq.symm (cQY c)
   |exact Eq.symm (aKm c)
   |exact Eq.symm (Ps c)
   |exact Eq.symm (Pt c)
variable {ro:Option Nat}{n:Nat}
variable {P:Program}{T:aN}{A:Ar}[aV A]
variable {ds:List Deferred}{h0:ab}{w0:World}{β:Nat->Nat}{h:ab}{a:Act}{w:World}
variable {ops:Array Oper}{X:Array Bool}{D:List nh}{listed pend known:List Nat}{envc gV:Env}{Lc La:Loc}
theorem rL{L:Loc}{n:Option (List Value)}{s:Nat}:js (pk L d n) s=if d=some s/\n.isSome=true then n else js L s:=by
 cases d with
 |none=>simp[pk]
 |some t=>
  cases n with
  |none=>simp[pk]
  |some c=>simp only[pk,js];by_cases h:t=s<;>simp[h]
theorem nh.rA{x:nh}{env f:Env}{L e:Loc}{h:ab}(j:x.fact A T P ops env L h)(g:∀t∈x.o.looksAt ops,f[t]? =env[t]?)
 (i:kM x.o=true->∀s c,js L s=some c->js e s=some c) (k:kM x.o=true->h'=h):x.fact A T P ops f e h':=by
 unfold nh.fact at *;refine WL (AR j g) (λq=>?_) id;refine lQ q (uN g) (λhl y n s off m c a=>?_) (λb d l=>?_) k
 .split at a
  .cases a
  rename_i b;rw[if_neg b];exact i hl s c a
 rw[if_pos b];rfl
theorem fT.look(B:fT A T P ops X D listed pend known envc Lc gV La h)(r:th T ops=true){k:Nat}(f:ops[k]? =some o)(p:∀e∈jq o,In X e):
 ∀t∈o.looksAt ops,gV[t]? =envc[t]? :=λt g=>B.env t λx hx d=>by
 obtain⟨b,hl⟩:=B.op x hx;obtain⟨-,i,j⟩:=mP r b;by_cases c:x.i=k
 .rw[c,f]at b;cases b;exact i hl t d g
 rcases(j k o c f t d).2 g with a| ⟨a,-⟩
 .exact B.apart x hx (p _ a)
 rw[hl]at a;cases a
theorem fT.sub(B:fT A T P ops X D listed pend known envc Lc gV La h){s:Nat}{c:List Value}(hl:js La s=some c):js Lc s=some c:=by
 rw[<-B.loc s (λx hx n d=>?_)]
 .exact hl
 obtain⟨c',u⟩:=hKd.1 n;rw[(B.box x hx s c' u d).1]at hl;cases hl
theorem fT.eXO(B:fT A T P ops X D listed pend known envc Lc gV La h)(h:In X j):j∈listed:=(B.aXH j).2 (.inl h)
theorem fT.take(B:fT A T P ops X D listed pend known envc Lc gV La h)(hr:th T ops=true)(S:ops[i]? =some o)(Q:i∉listed)(I:jP T o=true)
 (hp:∀e∈jq o,e∈listed) {K:SV->Option (List Value)->Prop} {N:Prop}
 (hx:gd ops.toList envc o (λ_=>gO A T (λ_=>P) o (mY envc) Lc h K) (λ_=>N)):
 ∃v n,(K v n\/(N/\v=.v undef/\n=none))/\fT A T P ops X (⟨i,o,v,n⟩::D) (i::listed) (i::pend) known (put envc o.dst v) (pk Lc o.dst n) gV La h:=by
 obtain⟨-,F,H⟩:=mP hr S;have z:∀x∈D,i≠x.i:=λx hx e=>Q ((B.aXH i).2 (.inr ⟨x,hx,e.symm⟩));have J:∃v n,(K v n\/(N/\v=.v undef/\n=none))/\nh.fact A T P ops envc Lc h ⟨i,o,v,n⟩/\(∀d c,o.dst=some d->n=some c->js Lc d=none):=by
  rcases vF hx with⟨k,w⟩|⟨k,w⟩
  .obtain⟨v,n,q,h4⟩:=oT k;have M:=h4 (λa b=>a=v/\b=n) ⟨rfl,rfl⟩;refine⟨v,n,.inl q,(w _ _).2 ?_,λd c g f=>?_⟩
   .exact lQ M (λ_ _=>rfl) (λhl y _ s off _ c f=>by
     have:ll o=false:=by cases hq:o.op<;>simp[kM,ll,hq]at hl |-
     simp[this,f]) (λC d g=>by simp[C,js]) (λ_=>rfl)
   have C:=tS M;cases R:ll o with
   |true=>obtain⟨-,d',u,p⟩:=C.1 R;rw[g]at u;cases u;exact p
   |false=>rw[C.2 R]at f;cases f
  exact⟨.v undef,none,.inr ⟨k,rfl,rfl⟩,(w _ _).2 ⟨rfl,rfl⟩,λd c _ f=>by cases f⟩
 obtain⟨v,n,hK,hf,V⟩:=J;have Z:∀x∈D,∀t,o.dst=some t->x.o.dst≠some t:=λx hx t m=>(H x.i x.o (z x hx) (B.op x hx).1 t m).1;have E:∀s c,js Lc s=some c->js (pk Lc o.dst n) s=some c:=λs c f=>by
  rw[rL];split
  .rename_i L;obtain⟨c',ue⟩:=hKd.1 L.2;rw[V s c' L.1 ue]at f;cases f
  exact f
 refine⟨v,n,hK,⟨B.size,λj=>?_,λx hx=>?_,B.down,B.known,λx hx=>?_,by rw[kW];exact B.len,λt m=>?_,λx hx t g l=>?_,λs U=>?_,λx hx s c p g=>?_,
  λx hx=>?_,λx hx e O=>?_,λx hx y r G=>?_,λx hx=>?_⟩⟩
 .simp only[xu,B.aXH j];constructor
  .rintro(rfl|k| ⟨x,hx,e⟩)
   .exact .inr ⟨_,.inl rfl,rfl⟩
   .exact .inl k
   exact .inr ⟨x,.inr hx,e⟩
  rintro(k| ⟨x,rfl|hx,e⟩)
  .exact .inr (.inl k)
  .exact .inl e.symm
  exact .inr (.inr ⟨x,hx,e⟩)
 .rcases xu.1 hx with rfl|hx
  .exact λY=>Q (B.eXO Y)
  exact B.apart x hx
 .rcases xu.1 hx with rfl|hx
  .exact iXj
  exact hKP _ (B.pend x hx)
 .rw[jI (m ⟨i,o,v,n⟩ (by simp))];exact B.env t λx hx=>m x (by simp[hx])
 .rw[kW]at l;rcases xu.1 hx with rfl|hx
  .simp only at g;rw[g,uY l]
  rw[jI (λe=>Z x hx t e g)];exact B.dst x hx t g l
 .rw[rL,if_neg (λf=>U ⟨i,o,v,n⟩ (by simp) f.2 f.1)];exact B.loc s λx hx=>U x (by simp[hx])
 .rcases xu.1 hx with rfl|hx
  .simp only at p g;refine⟨?_,by rw[rL,if_pos ⟨g,by simp[p]⟩];exact p⟩;rw[B.loc s (λy r _ W=>Z y r s g W)];exact V s c g p
  obtain⟨k,w⟩:=B.box x hx s c p g;exact⟨k,E s c w⟩
 .rcases xu.1 hx with rfl|hx
  .exact⟨S,I⟩
  exact B.op x hx
 .rcases xu.1 hx with rfl|hx
  .exact hKP _ (hp e O)
  exact hKP _ (B.bZj x hx e O)
 .rcases xu.1 hx with rfl|hx<;>rcases xu.1 r with rfl|r
  .rfl
  .exact absurd G (z y r)
  .exact absurd G.symm (z x hx)
  exact B.uniq x hx y r G
 rcases xu.1 hx with rfl|hx
 .exact nh.rA hf (λt m=>jI (λe=>F I t e m)) (λ_=>E) (λ_=>rfl)
 refine nh.rA (B.fact x hx) (λt m=>jI (λe=>?_)) (λ_=>E) (λ_=>rfl);rcases(H x.i x.o (z x hx) (B.op x hx).1 t e).2 m with q| ⟨q,-⟩
 .exact Q (B.bZj x hx i q)
 rw[I]at q;cases q
theorem fT.catch(hT:eU P T)(B:fT A T P ops X D listed pend known envc Lc gV La h)(hr:th T ops=true)(F:da ds h0 w0 β gV La h a w){x:nh}(hx:x∈D)
 (hp:∀e∈jq x.o,In X e)  {K:Act->World->Prop}
 (hK:∀G Y R S V,da ds h0 w0 G S V h Y R->fT A T P ops (X.setIfInBounds x.i true) (D.filter λy=>y.i !=x.i) listed pend known envc Lc S V h->K Y R):
 wpOpIn (FW ro) n P ops Q x.i K a w:=by
 obtain⟨r,aI⟩:=B.op x hx;have H:=B.look hr r hp;have C:x.i<X.size:=by rw[B.size];exact(zj.1 r).1
 have p:∀y,(y∈D.filter λy=>y.i !=x.i)↔y∈D/\y.i≠x.i:=λy=>by simp
 have aj:∀G v,da ds h0 w0 G (put gV x.o.dst x.sv) (pk La x.o.dst x.nb) h (a.put x.o.dst v) w->True:=λ_ _ _=>trivial;have fin:fT A T P ops (X.setIfInBounds x.i true) (D.filter λy=>y.i !=x.i) listed pend known envc Lc (put gV x.o.dst x.sv) (pk La x.o.dst x.nb) h:=by
  obtain⟨-,-,Jg⟩:=mP hr r;have I:∀y∈D,y.i≠x.i->∀t,x.o.dst=some t->y.o.dst≠some t:=λy f bm t O=>(Jg y.i y.o (Ne.symm bm) (B.op y f).1 t O).1;refine⟨by simp[B.size],λj=>?_,λy f=>?_,λi o E Z e he=>?_,λi hi=>?_,λy f=>B.pend y ((p y).1 f).1,by rw[kW];exact B.len,λt O=>?_,
   λy f=>B.dst y ((p y).1 f).1,λs Od=>?_,λy f s c q m=>?_,λy f=>B.op y ((p y).1 f).1,λy f=>B.bZj y ((p y).1 f).1,
   λy f z hz=>B.uniq y ((p y).1 f).1 z ((p z).1 hz).1,λy f=>B.fact y ((p y).1 f).1⟩
  .rw[B.aXH j,In.set C];constructor
   .rintro(g| ⟨y,f,e⟩)
    .exact .inl (.inr g)
    by_cases U:y.i=x.i
    .exact .inl (.inl (by rw[<-U,e]))
    exact .inr ⟨y,(p y).2 ⟨f,U⟩,e⟩
   rintro((g|g)|⟨y,f,e⟩)
   .exact .inr ⟨x,hx,g⟩
   .exact .inl g
   exact .inr ⟨y,((p y).1 f).1,e⟩
  .rw[In.set C];obtain⟨g,L⟩:=(p y).1 f;rintro(e|e)
   .exact L e.symm
   exact B.apart y g e
  .rw[In.set C]at E |-;rcases E with e'|E
   .subst e';rw[r]at Z;cases Z;exact .inr (hp e he)
   exact .inr (B.down i o E Z e he)
  .rw[In.set C];exact .inr (B.known i hi)
  .by_cases m:x.o.dst=some t
   .by_cases l:t<envc.length
    .rw[m,uY (by rw[B.len];exact l),B.dst x hx t m l]
    have e1:(put gV x.o.dst x.sv).length<=t:=by rw[kW,B.len];exact hKO l
    rw[qk e1,qk (hKO l)]
   rw[jI m];refine B.env t λy f W=>?_;by_cases U:y.i=x.i
   .rw[B.uniq y f x hx U]at W;exact m W
   exact O y ((p y).2 ⟨f,U⟩) W
  .rw[rL];split
   .rename_i k;obtain⟨c,u⟩:=hKd.1 k.2;rw[(B.box x hx s c u k.1).2,u]
   rename_i k;refine B.loc s λy f q W=>?_;by_cases U:y.i=x.i
   .rw[B.uniq y f x hx U]at W q;exact k ⟨W,q⟩
   exact Od y ((p y).2 ⟨f,U⟩) q W
  obtain⟨g,L⟩:=(p y).1 f;obtain⟨M,N⟩:=B.box y g s c q m;refine⟨?_,N⟩;rw[rL,if_neg (λk=>I y g L s k.1 m)];exact M
 have hf:=B.fact x hx;unfold nh.fact at hf;have ZB:=AR hf H;unfold wpOpIn;simp only[r];rcases rq F ZB with⟨hw,hl⟩|⟨hw,hl⟩
 .rw[if_pos hw];have Ud:gO A T (λ_=>P) x.o (mY gV) La h (λa b=>a=x.sv/\b=x.nb):=by
   refine lQ hl (uN H) (λJ y f s off HR c k=>?_) (λhb d m=>?_) (λ_=>rfl)
   .have:ll x.o=false:=by cases hq:x.o.op<;>simp[kM,ll,hq]at J |-
    rw[this]at k;simp only[hKN,if_false]at k;have VX:mY gV y=.loc s off:=by rw[uN H y f];exact HR
    obtain⟨⟨c',u⟩,-⟩:=F.oC VX;have:=B.sub u;rw[k]at this;cases this;exact u
   obtain⟨g,d',ai,-⟩:=(tS hl).1 hb;obtain⟨c,k⟩:=hKd.1 g;exact(B.box x hx d c k m).1
  obtain⟨v,R,G,M,N⟩:=wV hT F Ud;refine qe M ?_;exact hK _ _ _ _ _ N fin
 rw[if_neg (by simp[hw])];obtain⟨e1,e2⟩:=hl;have EA:pk La x.o.dst x.nb=La:=by rw[e2];unfold pk;cases x.o.dst<;>rfl
 rw[EA,e1]at fin;refine⟨λ_ _=>trivial,?_⟩;exact hK _ _ _ _ _ (F.put (x:=.v undef) (v:=undef) rfl) fin
variable {ro:Option Nat}{n:Nat}
variable {P:Program}{T:aN}{A:Ar}[aV A]
variable {ds:List Deferred}{h0:ab}{w0:World}{β:Nat->Nat}{h:ab}{a:Act}{w:World}
variable {ops:Array Oper}{X:Array Bool}{D:List nh}{listed pend known:List Nat}{envc gV:Env}{Lc La:Loc}
theorem HG.mono{h:ab}{y:Addr}{k a:ab->Prop}(x:HG h y cs k)(j:∀h',k h'->a h'):HG h y cs a:=by obtain⟨c,e,fr,g,b,d,f,i⟩:=x.out;exact⟨c,e,fr,g,b,d,f,λh' e=>j _ (i h' e)⟩
theorem wo.mono{h:ab}{y:Option Addr}{k d:ab->Prop}(x:wo h y cs k)(c:∀h',k h'->d h'):wo h y cs d:=by
 rcases x with⟨a,b⟩|⟨q,a,b⟩
 .exact .inl ⟨a,c _ b⟩
 exact .inr ⟨q,a,b.mono c⟩
theorem pq.mono{h:ab}{len n e:Nat}{new:List Value}{k f:Value->ab->Prop}(x:pq h b len cap n size bytes e new k)(d:∀v h',k v h'->f v h'):
 pq h b len cap n size bytes e new f:=
 ⟨x.one,λa=>(x.fits a).mono (λ_ q=>d _ _ q),λa=>by
  obtain⟨l,m,P,o,p⟩:=x.ZM a;exact⟨l,m,P,o,λs c h' r e1 g i j=>d _ _ (p s c h' r e1 g i j)⟩⟩
theorem tF.mono{h:ab}{e:Nat}{l c:Int}{k a:Value->ab->Prop}(x:tF h e l c bytes z k)(d:∀v h',k v h'->a v h'):tF h e l c bytes z a:=
 ⟨x.len,x.room,λn h' e1 b=>d _ _ (x.out n h' e1 b)⟩
theorem fq.mono{h:ab}{len:Nat}{x:Option Addr}{n e:Nat}{k a:Value->ab->Prop}(q:fq h b len cap x n size bytes e k)(f:∀v h',k v h'->a v h'):
 fq h b len cap x n size bytes e a:=by
 obtain⟨new,c,d⟩:=q.out;exact⟨new,c,d.mono f⟩
theorem tG.mono{h:ab}{len:Nat}{x:Option Addr}{n:Nat}{k a:Value->ab->Prop}(q:tG h b len x n size k)(f:∀v h',k v h'->a v h'):
 tG h b len x n size a:=by
 obtain⟨cs,c,d,e⟩:=q.out;exact⟨cs,c,d,e.mono λh'=>f _ h'⟩
theorem uq.mono{h:ab}{len:Nat}{k a:ab->Prop}(q:uq h b len z k)(c:∀h',k h'->a h'):uq h b len z a:=
 ⟨q.one,q.out.mono c⟩
theorem dF.mono{h:ab}{k a:Value->ab->Prop}(q:dF p s h k)(e:∀v h',k v h'->a v h'):dF p s h a:=
 ⟨λw f=>by
  obtain⟨v,g,h',b,c,d⟩:=q.out w f;exact⟨v,g,h',b,e _ _ c,d⟩⟩
theorem pS.mono{p k a:Unit->Prop}(q:pS p k)(h:k ()->a ()):pS p a:=⟨q.h,h q.out⟩
theorem XA.mono{l:Nat}{h:ab}{a:Value->ab->Prop}(x:XA p l args h R)(r:∀v h',R v h'->a v h'):XA p l args h a:=
 ⟨λw i=>by
  obtain⟨fn,t,y,b,f,g⟩:=x.out w i;exact⟨fn,t,y,b,f,λn=>(g n).mono λe j ⟨v,h',e1,c,d⟩=>⟨v,h',e1,r _ _ c,d⟩⟩⟩
theorem aXY{j:Operand->SV}{L:Loc}{h:ab}(a:hx A T p o j L h k)(F:Loc->ab->Prop)
 (m:eD o=true->F L h) (N:eD o=false->eR o=false->∀h',F L h') (S:eR o=true->∀i h',F i h'):
 hx A T p o j L h (λx i h'=>k x i h'/\F i h'):=by
 unfold hx at a |-;split at a
 case h_1 x d=>
  try simp only[d]
  exact⟨a,m (by simp[eD,d])⟩
 case h_2 t q x d=>
  have Z:=S (by simp[eR,d]);try simp only[d]
  repeat' split at a
  all_goals first
   |exact a.elim
   |exact⟨a,Z _ _⟩
   |exact HG.mono a (λh' q=>⟨q,Z _ _⟩)
 case h_3 e d=>
  have P:=N (by simp[eD,d]) (by simp[eR,d]);try simp only[d]
  split at a
  .exact a.elim
  exact λn h' e1 g=>⟨a n h' e1 g,P _⟩
 case h_4 e x d=>
  have P:=N (by simp[eD,d]) (by simp[eR,d]);try simp only[d]
  split at a
  .exact λn h' e1 g=>⟨a n h' e1 g,P _⟩
  exact a.elim
 case h_5 t len parts d=>
  have P:=N (by simp[eD,d]) (by simp[eR,d]);try simp only[d]
  repeat' split at a
  all_goals first
   |exact a.elim
   |exact λn h' e1 g=>⟨a n h' e1 g,P _⟩
 case h_6 t l c d=>
  have P:=N (by simp[eD,d]) (by simp[eR,d]);try simp only[d]
  repeat' split at a
  all_goals first
   |exact a.elim
   |exact tF.mono a (λv h' q=>⟨q,P _⟩)
 case h_7 t r d=>
  have P:=N (by simp[eD,d]) (by simp[eR,d]);try simp only[d]
  split at a
  .exact λn h' e1 g=>⟨a n h' e1 g,P _⟩
  exact a.elim
 case h_8 f args argTypes d=>
  have P:=N (by simp[eD,d]) (by simp[eR,d]);try simp only[d]
  repeat' split at a
  all_goals first
   |exact a.elim
   |exact NT.mono a (λv h' q=>⟨q,P _⟩) (λ_ _ q=>q)
   |exact Ca.mono a (λv h' q=>⟨q,P _⟩)
   |exact XA.mono a (λv h' q=>⟨q,P _⟩)
   |exact dF.mono a (λv h' q=>⟨q,P _⟩)
 case h_9 b args argTypes d=>
  have P:=N (by simp[eD,d]) (by simp[eR,d]);try simp only[d]
  repeat' split at a
  all_goals first
   |exact a.elim
   |exact fq.mono a (λv h' q=>⟨q,P _⟩)
   |exact pq.mono a (λv h' q=>⟨q,P _⟩)
   |exact pS.mono a (λs=>⟨pq.mono s.out λv h' q=>⟨q,P _⟩⟩)
   |exact tG.mono a (λv h' q=>⟨q,P _⟩)
   |exact uq.mono a (λh' q=>⟨q,P _⟩)
   |exact dF.mono a (λv h' q=>⟨q,P _⟩)
 case h_19 x d=>
  try simp only[d]
  exact a
 case h_20=>exact a.elim
 all_goals
  rename_i d;have P:=N (by simp[eD,d]) (by simp[eR,d]);try simp only[d]
  repeat' split at a
  all_goals first
   |exact a.elim
   |exact dF.mono a (λv h' q=>⟨q,P _⟩)
theorem aXX{e:Operand->SV}{L:Loc}{h:ab}(f:hx A T p o e L h k):
 hx A T p o e L h (λx a h'=>k x a h'/\(eR o=false->a=L)/\(eD o=true->h'=h)):=
 aXY f (λa h'=>(eR o=false->a=L)/\(eD o=true->h'=h)) (λ_=>⟨λ_=>rfl,λ_=>rfl⟩) (λc b h'=>⟨λ_=>rfl,λd=>by rw[c]at d;cases d⟩)
  (λc a h'=>⟨λb=>(by rw[c]at b;cases b),λb=>(by
   cases q:o.op<;>simp[eD,eR,q]at c b)⟩)
theorem wN{T:aN}{a:Bool}{b:List Oper}{h:ab}{L:Loc}{env:Env}:∀ {l:List Nat} {k:Unit->Prop},pins T a b h L env l k->
 (∀j∈l,∃o,b[j]? =some o/\gd b env o (λ_=>CG T a h L env o (λ_=>True)) (λ_=>True))/\k ()
 | [],k,p=>⟨λ_ h=>(by cases h),p⟩
 |i::r,k,p=>by
  unfold pins at p;split at p
  .rename_i o z;have V:∀ {R:Unit->Prop},CG T a h L env o R->CG T a h L env o (λ_=>True)/\R ():=λ{R} q=>by
    unfold CG at q |-;split at q
    .rename_i t y E;try simp only[E]at q |-
     split at q
     .rename_i x hx;try simp only[hx]
      obtain⟨cs,g,m⟩:=q.out;obtain⟨v,n,d⟩:=jH m;exact⟨⟨cs,g,mC n λC e=>by subst e;exact⟨d.h,trivial⟩⟩,d.out⟩
     .rename_i s off hx;try simp only[hx]
      split at q
      .exact⟨trivial,q⟩
      split at q
      .rename_i c B;try simp only[B]
       split at q
       .rename_i cs A;try simp only[A]
        obtain⟨v,n,d⟩:=jH q;exact⟨mC n λC e=>by subst e;exact⟨d.h,trivial⟩,d.out⟩
       exact q.elim
      exact q.elim
     exact q.elim
    exact⟨trivial,q⟩
   rcases vF p with⟨g,m⟩|⟨g,m⟩
   .obtain⟨n,d⟩:=V g;obtain⟨u,w⟩:=wN d;refine⟨λj f=>?_,w⟩;rcases xu.1 f with rfl|f
    .exact⟨o,z,(m _ _).2 n⟩
    exact u j f
   obtain⟨u,w⟩:=wN g;refine⟨λj f=>?_,w⟩;rcases xu.1 f with rfl|f
   .exact⟨o,z,(m _ _).2 trivial⟩
   exact u j f
  exact p.elim
theorem fT.ad(hT:eU P T)(B:fT A T P ops X D listed pend known envc Lc gV La h)(hr:th T ops=true)(QI:PE T ops=true)(hs:da ds h0 w0 β gV La h a w){k:Nat}{f:Oper}
 (hk:ops[k]? =some f) (MP:k∉listed) (aP:jP T f=false) (hp:∀e∈jq f,In X e) {pn:List Nat} {R:Env->Loc->ab->Prop}
 (O:eD f=true\/∀j∈pend,j∈ja ops ops.size (k::known)\/j∈pn\/(∀oj,ops[j]? =some oj->kM oj=false))
 (hx:gd ops.toList envc f (λ_=>hx A T (λ_=>P) f (mY envc) Lc h (λx L' h'=>pins T (eR f) ops.toList h' L' (put envc f.dst x) pn (λ_=>R (put envc f.dst x) L' h')))
  (λ_=>R (put envc f.dst (.v undef)) Lc h))  {K:Act->World->Prop} (fV:lD T ds h0 w0 Q)
 (hK:∀a' w' ye Db G U h',R ye G h'->da ds h0 w0 β Db U h' a' w'->
  fT A T P ops (X.setIfInBounds k true) D (k::listed) (pend.filter λj=> !(ja ops ops.size (k::known)).contains j) (ja ops ops.size (k::known)) ye G Db U h'->K a' w'):
 wpOpIn (FW ro) n P ops Q k K a w:=by
 obtain⟨-,-,Jg⟩:=mP hr hk;have AF:=B.look hr hk hp;have Zt:k<X.size:=by rw[B.size];exact(zj.1 hk).1
 have bm:∀x∈D,k≠x.i:=λx hx e=>MP ((B.aXH k).2 (.inr ⟨x,hx,e.symm⟩));have V:∀x∈D,∀t,f.dst=some t->x.o.dst≠some t:=λx hx t r=>(Jg x.i x.o (bm x hx) (B.op x hx).1 t r).1;have aj:∀x∈D,∀t∈x.o.looksAt ops,f.dst≠some t:=λx hx t r m=>by
  rcases(Jg x.i x.o (bm x hx) (B.op x hx).1 t m).2 r with h3| ⟨-,h3⟩
  .exact MP (B.bZj x hx k h3)
  exact B.apart x hx (hp _ h3)
 have ZC:∀i o,In (X.setIfInBounds k true) i->ops[i]? =some o->∀e∈jq o,In (X.setIfInBounds k true) e:=λi o L H e he=>by
  rw[In.set Zt]at L |-;rcases L with e'|L
  .subst e';rw[hk]at H;cases H;exact .inr (hp e he)
  exact .inr (B.down i o L H e he)
 have J:∀i∈ja ops ops.size (k::known),In (X.setIfInBounds k true) i:=Bg ZC _ _ λi hi=>by
  rw[In.set Zt];rcases xu.1 hi with rfl|hi
  .exact .inl rfl
  exact .inr (B.known i hi)
 have I:∀x∈D,¬In (X.setIfInBounds k true) x.i:=λx hx L=>by
  rw[In.set Zt]at L;rcases L with e|e
  .exact bm x hx e
  exact B.apart x hx e
 have fin:∀(p:SV) (G U:Loc) (h':ab),dQf Lc La G U->(∀x∈D,x.fact A T P ops (put envc f.dst p) G h')->
  fT A T P ops (X.setIfInBounds k true) D (k::listed) (pend.filter λj=> !(ja ops ops.size (k::known)).contains j) (ja ops ops.size (k::known)) (put envc f.dst p) G (put gV f.dst p) U h':=λp G U h' hL hf=>by
  refine⟨by simp[B.size],λj=>?_,I,ZC,J,λx hx=>?_,by rw[kW,kW];exact B.len,λt r=>?_,λx hx t m l=>?_,λs Od=>?_,λx hx s c hn m=>?_,B.op,
   λx hx e he=>hKP _ (B.bZj x hx e he),B.uniq,hf⟩
  .rw[xu,B.aXH j,In.set Zt];constructor
   .rintro(rfl|g|g)
    .exact .inl (.inl rfl)
    .exact .inl (.inr g)
    exact .inr g
   rintro((rfl|g) |g)
   .exact .inl rfl
   .exact .inr (.inl g)
   exact .inr (.inr g)
  .simp only[iXi,hKn,hKc,decide_eq_false_iff_not];exact⟨B.pend x hx,λF=>I x hx (J _ F)⟩
  .by_cases m:f.dst=some t
   .by_cases l:t<envc.length
    .rw[m,uY (by rw[B.len];exact l),uY l]
    have e1:(put gV f.dst p).length<=t:=by rw[kW,B.len];exact hKO l
    have C:(put envc f.dst p).length<=t:=by rw[kW];exact hKO l
    rw[qk e1,qk C]
   rw[jI m,jI m];exact B.env t r
  .rw[kW]at l;rw[jI (λe=>V x hx t e m)];exact B.dst x hx t m l
  .rcases hL with⟨e1,C⟩|⟨s0,c,q1,q2,g1,E,e1,C⟩
   .rw[e1,C];exact B.loc s Od
   rw[e1,C,ny g1,ny E,B.loc s Od]
  obtain⟨g,S⟩:=B.box x hx s c hn m;rcases hL with⟨e1,C⟩|⟨s0,c',q1,q2,g1,E,e1,C⟩
  .rw[e1,C];exact⟨g,S⟩
  have Fe:s0≠s:=λe=>by rw[e,g]at E;cases E
  rw[e1,C,ny g1,ny E,if_neg Fe,if_neg Fe];exact⟨g,S⟩
 unfold wpOpIn;simp only[hk];rcases vF hx with⟨g,S⟩|⟨g,S⟩
 .have N:Region.wanted f (yielded ops a.tmps)=true:=by
   have hg:=AR ((S (λ_=>True) (λ_=>False)).2 trivial) AF;rcases rq hs hg with⟨N,-⟩|⟨-,hf⟩
   .exact N
   exact hf.elim
  rw[if_pos N];have h3:=Qx (aXX g) (uN AF) (λt r=>by
   have:=B.env t (λx hx=>Ms QI (B.op x hx).1 r);simp only[mY,xa,this])
  refine Ja hT hs (λs c F=>B.sub F) h3 fV λp v G L' h' w' ⟨g1,E,g3⟩ Od hL=>?_;obtain⟨an,hR⟩:=wN g1;refine hK _ _ _ _ _ _ _ hR Od (fin p G L' h' hL λx hx=>?_);have Ub:∀t∈x.o.looksAt ops,(put envc f.dst p)[t]? =envc[t]? :=λt r=>jI (aj x hx t r);have u:=B.fact x hx;cases Z:kM x.o with
  |false=>exact nh.rA u Ub (λe=>by rw[Z]at e;cases e) (λe=>by rw[Z]at e;cases e)
  |true=>
   rcases O with O|O
   .have mE:eR f=false:=by cases M:f.op<;>simp[eD,eR,M]at O |-
    exact nh.rA u Ub (λ_ s c F=>by rw[E mE];exact F) (λ_=>g3 O)
   rcases O x.i (B.pend x hx)with h5|h5|h5
   .exact absurd (J _ h5) (I x hx)
   .obtain⟨o',sP,Zw⟩:=an x.i h5;have W:ops[x.i]? =some o':=by simpa using sP
    rw[(B.op x hx).1]at W;cases W;have aD:gd ops.toList (put envc f.dst p) x.o (λ_=>gO A T (λ_=>P) x.o (mY envc) (if ll x.o then []else Lc) h (λa b=>a=x.sv/\b=x.nb)) (λ_=>x.sv=.v undef/\x.nb=none):=
     AR (by unfold nh.fact at u;exact u) Ub
    unfold nh.fact;rcases vF aD with⟨f1,f2⟩|⟨f1,f2⟩
    .refine(f2 _ _).2 ?_;have q:=(f2 _ _).1 Zw;have ai:ll x.o=false:=by cases M:x.o.op<;>simp[kM,ll,M]at Z |-
     rw[ai]at f1 |-;simp only[hKN,if_false]at f1 |-;have dV:x.nb=none:=(tS f1).2 ai;cases En:x.o.op with
     |load t y=>
      have aw:y∈x.o.op.operands.toList:=by rw[En];simp[Op.operands]
      have ak:mY (put envc f.dst p) y=mY envc y:=uN Ub y aw;unfold gO at f1 |-;unfold CG at q;simp only[En]at f1 q |-;rw[ak]at q |-;have Y:∀v:Value,(∃d,x.o.dst=some d/\(put envc f.dst p)[d]? =some (.v v))->(SV.v v=x.sv/\(none:Option (List Value))=x.nb):=λv ⟨d,m,hv⟩=>by
       have l:d<envc.length:=by have:=(dB.1 hv).1;rwa[kW]at this
       have:=B.dst x hx d m l;rw[jI (λe=>V x hx d e m),this]at hv;exact⟨(Option.some.inj hv).symm,dV.symm⟩
      split at f1
      .exact f1.elim
      split at f1
      .rename_i s off HR;simp only[HR]at q;split at q
       .rename_i mE;have aI:eR f=false:=by simpa using mE
        rw[E aI];exact f1
       split at f1
       .rename_i c F;split at q
        .rename_i c' ue;try simp only[ue]
         split at q
         .rename_i cs au;exact mC q λv M=>Y v M.h
         exact q.elim
        exact q.elim
       exact f1.elim
      .rename_i z HR;simp only[HR]at q;obtain⟨cs,q1,q2⟩:=q.out;exact⟨cs,q1,mC q2 λv M=>Y v M.h⟩
      exact f1.elim
     |_=>simp[kM,En]at Z
    exact(f2 _ _).2 f1
   have:=h5 x.o (B.op x hx).1;rw[Z]at this;cases this
 have N:Region.wanted f (yielded ops a.tmps)=false:=by
  have hg:=AR ((S (λ_=>False) (λ_=>True)).2 trivial) AF;rcases rq hs hg with⟨-,hf⟩|⟨N,-⟩
  .exact hf.elim
  exact N
 rw[if_neg (by simp[N])];refine⟨λ_ _=>trivial,?_⟩;refine hK _ _ _ _ _ _ _ g (hs.put (x:=.v undef) (v:=undef) rfl) (fin (.v undef) Lc La h (.inl ⟨rfl,rfl⟩) λx hx=>?_);exact nh.rA (B.fact x hx) (λt r=>jI (aj x hx t r)) (λ_ _ _ F=>F) (λ_=>rfl)
variable {ro:Option Nat}{n:Nat}
variable {P:Program}{T:aN}{A:Ar}[aV A]
variable {ds:List Deferred}{h0:ab}{w0:World}{β:Nat->Nat}{h:ab}{a:Act}{w:World}
variable {ops:Array Oper}{X:Array Bool}{D:List nh}{listed pend known:List Nat}{envc gV:Env}{Lc La:Loc}
theorem da.eXm(b:da ds h0 w0 β gV La h a w)(hl:∀s,js La s=js Lc s):da ds h0 w0 β gV Lc h a w:=
 ⟨b.after,λs c f=>b.loc s c (by rw[hl];exact f),λs g c c' d e=>b.inj s g c c' (by rw[hl];exact d) (by rw[hl];exact e),b.size,λt x hx=>by
  have:=b.slot t x hx;cases x with
  |v y=>exact this
  |u=>trivial
  |loc s off=>exact⟨by rw[<-hl];exact this.1,this.2⟩,b.defers⟩
def aKX(X:Array Bool):Nat:=X.toList.countP (!·)
theorem Km(a:i<X.size)(n:¬In X i):aKX (X.setIfInBounds i true)+1=aKX X:=by
 unfold aKX;have hl:i<X.toList.length:=by simpa using a
 have hx:X.toList[i]=false:=by unfold In at n;rw[zt,hJZ a]at n;simpa using n
 rw[iQB];have k:0<X.toList.countP (!·):=List.countP_pos_iff.2 ⟨X.toList[i],List.getElem_mem hl,by simp[hx]⟩;rw[List.countP_set (h:=hl)];simp[hx];simp only[Array.countP_toList]at k;omega
theorem BX(hX:X.size=ops.size)(r:th T ops=true)(b:Region.ready .any ops X=[]):∀j,j<ops.size->In X j:=by
 intro j;induction j using Nat.strongRecOn with
 |_ j i=>
  intro h;by_cases f:In X j
  .exact f
  exfalso;have:j∈Region.ready .any ops X:=by rw[wJ hX];refine⟨f,ops[j],by simp[h],λe v=>?_⟩;have a:=(mP r (show ops[j]? =some ops[j]by simp[h])).1 e v;exact i e a (by omega)
  rw[b]at this;cases this
theorem aXx{p:sX}(h:yN T ops p true listed pend known=true):∃k∈pC p,k∉listed/\k<ops.size:=by
 induction p with
 |done=>simp[yN]at h
 |aa i r _=>simp[yN]at h
 |ad i n r _=>
  simp only[yN,hKk,wL]at h;refine⟨i,by simp[pC],by simpa using h.1.1.2,?_⟩;have a:=h.1.2;split at a
  .rename_i o c;exact(zj.1 c).1
  cases a
 |fork l r e _=>simp only[yN,hKk,wL,true_and]at h;obtain⟨k,b,a⟩:=e h.1;exact⟨k,by simp[pC,b],a⟩
theorem PY{p:sX}(o:yN T ops p true listed pend known=true)(hx:ik A T (λ_=>P) ops.toList K p envc Lc h){k:Nat}(a:k∈pC p):
 ∃n r,yN T ops (.ad k n r) true listed pend known=true/\ik A T (λ_=>P) ops.toList K (.ad k n r) envc Lc h:=by
 induction p with
 |done=>simp[pC]at a
 |aa i r _=>simp[pC]at a
 |ad i n r _=>simp[pC]at a;subst a;exact⟨n,r,o,hx⟩
 |fork l r e g=>
  simp only[yN,hKk,wL,true_and]at o;simp only[pC,hJJ]at a;rcases a with a|a
  .exact e o.1 hx.1 a
  exact g o.2 hx.2 a
theorem Gp{p:sX}(h:yN T ops p false listed pend known=true)(a:(∃i n r,p=.ad i n r)\/∃l r,p=.fork l r):
 yN T ops p true listed pend known=true/\EL ops p listed=true:=by
 rcases a with⟨i,n,r,rfl⟩|⟨l,r,rfl⟩
 .simp only[yN,hKX,hKk,wL]at h |-;simp_all
 simp only[yN,hKX,hKk,wL]at h |-;simp_all
theorem advance(f:th T ops=true):∀(p:sX) {D:List nh} {listed pend:List Nat} {envc:Env} {Lc:Loc},fT A T P ops X D listed pend known envc Lc gV La h->
 ik A T (λ_=>P) ops.toList K p envc Lc h->yN T ops p false listed pend known=true->
 ∃j s H g y d,fT A T P ops X j s H known g y gV La h/\ik A T (λ_=>P) ops.toList K d g y h/\yN T ops d false s H known=true/\
  (d=.done\/(∃i n r,d=.ad i n r)\/∃l r,d=.fork l r)
 | .done,D,listed,pend,envc,Lc,B,hx,a=>⟨_,_,_,_,_,_,B,hx,a,.inl rfl⟩
 | .ad i n r,D,listed,pend,envc,Lc,B,hx,a=>⟨_,_,_,_,_,_,B,hx,a,.inr (.inl ⟨_,_,_,rfl⟩)⟩
 | .fork l r,D,listed,pend,envc,Lc,B,hx,a=>⟨_,_,_,_,_,_,B,hx,a,.inr (.inr ⟨_,_,rfl⟩)⟩
 | .aa i r,D,listed,pend,envc,Lc,B,hx,a=>by
  simp only[yN,iQH,hKu,wL]at a;obtain⟨⟨m,b⟩,q⟩:=a;split at b
  .rename_i o e;simp only[wL,GD,hKc,yr]at b;unfold ik at hx;simp only[hKw,e]at hx;obtain⟨v,t,c,N⟩:=B.take f e (by simpa using m) b.1 b.2 hx;refine advance f r N ?_ q;rcases c with c| ⟨c,e1,k⟩
   .exact c
   rw[e1,k];have:pk Lc o.dst none=Lc:=by unfold pk;cases o.dst<;>rfl
   rw[this];exact c
  cases b
theorem IM(hT:eU P T)(z:th T ops=true)(QI:PE T ops=true)
 (fV:lD T ds h0 w0 Q) (hK:∀ca L' h' mq E I,K ca L' h'->da ds h0 w0 mq ca L' h' E I->Q .normal E I):
 ∀(f:Nat) {X:Array Bool} {D:List nh} {listed pend known:List Nat} {envc gV:Env} {Lc La:Loc} {h:ab} {β:Nat->Nat} {a:Act} {w:World} {p:sX},
  aKX X<=f->fT A T P ops X D listed pend known envc Lc gV La h->da ds h0 w0 β gV La h a w->ik A T (λ_=>P) ops.toList K p envc Lc h->yN T ops p false listed pend known=true->
  wpAnyIn (FW ro) n P .any ops Q f X a w:=by
 intro f;have done:∀ {X:Array Bool} {D:List nh} {listed pend known:List Nat} {envc gV:Env} {Lc La:Loc} {h:ab} {β:Nat->Nat} {a:Act} {w:World} {p:sX},
  fT A T P ops X D listed pend known envc Lc gV La h->da ds h0 w0 β gV La h a w->ik A T (λ_=>P) ops.toList K p envc Lc h->yN T ops p false listed pend known=true->
  Region.ready .any ops X=[]->Q .normal a w:=λ{X D listed pend known envc gV Lc La h β a w p} B g hx q m=>by
  have Zy:=BX B.size z m;obtain⟨C,R,KH,ye,yG,p',N,S,v,F⟩:=advance z p B hx q;have G:C=[]:=by
   cases C with
   |nil=>rfl
   |cons x r=>exfalso;exact N.apart x (by simp) (Zy x.i (zj.1 (N.op x (by simp)).1).1)
  subst G;have mZ:∀k,k∉R->k<ops.size->False:=λk b c=>b (N.eXO (Zy k c));rcases F with rfl|F
  .unfold ik at S;refine hK _ _ _ β _ _ S ?_;have e1:gV=ye:=rv λt=>N.env t (λx hx=>by cases hx);have e2:∀s,js La s=js yG s:=λs=>N.loc s (λx hx=>by cases hx);rw[e1]at g;exact g.eXm e2
  obtain⟨b,-⟩:=Gp v F;obtain⟨k,-,c,d⟩:=aXx b;exact(mZ k c d).elim
 induction f with
 |zero=>
  intro X D listed pend known envc gV Lc La h β a w p hf B g hx q;have m:Region.ready .any ops X=[]:=by
   apply iXh.2;intro j H;rw[wJ B.size]at H;obtain⟨b,o,c,-⟩:=H;have M:j<X.size:=by rw[B.size];exact(zj.1 c).1
   have:=Km M b;omega
  exact⟨m,done B g hx q m⟩
 |succ f ih=>
  intro X D listed pend known envc gV Lc La h β a w p hf B g hx q;refine⟨λm=>done B g hx q m,λk hk=>?_⟩;obtain⟨C,R,KH,ye,yG,p',N,S,v,F⟩:=advance z p B hx q;have W:=hk;rw[wJ B.size]at W;obtain⟨V,ok,u,U⟩:=W;have J:k<X.size:=by rw[B.size];exact(zj.1 u).1
  have ak:=Km J V;by_cases G:∃x∈C,x.i=k
  .obtain⟨x,Y,rfl⟩:=G;have:ops[x.i]? =some x.o:=(N.op x Y).1;rw[u]at this;cases this;exact N.catch hT z g Y U λmq E I Db Um b c=>ih (by omega) c b S v
  have Z:k∉R:=λhm=>by
   rcases(N.aXH k).1 hm with b|b
   .exact V b
   exact G b
  rcases F with rfl|F
  .simp only[yN,iQH,hKu,GD,hKM,hKc,yr]at v;exact absurd (v k (by rw[<-B.size];exact J)) Z
  obtain⟨b,c⟩:=Gp v F;have L:k∈pC p':=by
   unfold EL at c;rw[GD]at c;have:=c k (by simp only[hKM];rw[<-B.size];exact J);simp only[u,hKR,hKc,yr,hKn,hKW]at this;rcases this with (d|d)|⟨e,d,y⟩
   .exact absurd d Z
   .exact d
   exact absurd (N.eXO (U e d)) (by simpa using y)
  obtain⟨pn,r,d,y⟩:=PY b S L;unfold ik at y;simp only[hKw,u]at y;simp only[yN,hKk,hKu,wL,u]at d;obtain⟨⟨-,h5,i⟩,h7⟩:=d;refine N.ad hT z QI g u Z (by simpa using h5) U ?_ y fV (λE I ai aj an au h' hR BM O=>ih (by omega) O BM hR h7);simp only[hKR,GD,hKc,yr]at i;rcases i with i|i
  .exact .inl i
  refine .inr λj H=>?_;rcases i j H with (l|l) |l
  .exact .inl l
  .exact .inr (.inl l)
  refine .inr (.inr λoj QN=>?_);simp only[QN,hKn]at l;exact l
variable {ro:Option Nat}{n:Nat}
variable {P:Program}{T:aN}{A:Ar}[aV A]
variable {ds:List Deferred}{h0:ab}{w0:World}{β:Nat->Nat}{h:ab}{a:Act}{w:World}{env:Env}{L:Loc}
def ef(T:aN):Code->Bool
 | .region id ops true=>(th T ops&&PE T ops)&&yN T ops (T.aw id) false [] [] []
 | .seq a b| .cond _ a b=>ef T a&&ef T b
 | .block _ c| .loop c| .scope c=>ef T c
 | .rangeFunc _ _ a c=>ef T a&&ef T c
 |_=>true
def JM:Ex->Exit
 | .normal=>.normal
 | .exit id=>.exit id
 | .ret=>.ret
theorem LX(n:Nat):aKX (Array.replicate n false)<=n:=by unfold aKX;have:=iXg (p:=λb:Bool=> !b) (l:=(Array.replicate n false).toList);simpa using this
theorem DG:∀ {e e1:Env},wk e e1->e.length=e1.length
 | [],[],_=>rfl
 |x::r,y::q,hw=>by
  unfold wk at hw;simp only[hJB];cases y with
  |u=>rw[DG hw]
  |v b=>rw[DG hw.2]
  |loc s o=>rw[DG hw.2]
theorem DH:∀ {e e1:Env},Sx.wk e e1->∀(t:Nat) (x:SV),e1[t]? =some x->x=SV.u\/e[t]? =some x
 | [],[],_,t,x,hx=>by simp at hx
 |y::r,z::q,hw,t,x,hx=>by
  unfold wk at hw;cases t with
  |zero=>
   simp at hx |-;subst hx;cases z with
   |u=>exact .inl rfl
   |v b=>exact .inr hw.1
   |loc s o=>exact .inr hw.1
  |succ t=>
   simp at hx |-;cases z with
   |u=>exact DH hw t x hx
   |v b=>exact DH hw.2 t x hx
   |loc s o=>exact DH hw.2 t x hx
theorem vj{L:Loc}:∀ {a:Loc},Vp L a->∀(s:Nat) (c:List Value),js a s=some c->js L s=some c
 | [],_,s,c,h=>by cases h
 | (k,d)::r,hl,s,c,h=>by
  unfold Vp at hl;simp only[js]at h;split at h
  .rename_i e;subst e;cases h;exact hl.1
  exact vj hl.2 s c h
theorem yR{L:Loc}:∀ {e:Env},bZH L e->∀(t s o:Nat),e[t]? =some (SV.loc s o)->∃c,js L s=some c
 | [],_,t,s,o,hx=>by simp at hx
 |x::r,hl,t,s,o,hx=>by
  unfold bZH at hl;cases t with
  |zero=>simp at hx;subst hx;exact hKd.1 hl.1
  |succ t=>
   simp at hx;cases x with
   |u=>exact yR hl t s o hx
   |v b=>exact yR hl t s o hx
   |loc a o'=>exact yR hl.2 t s o hx
theorem da.wk(d:da ds h0 w0 β env L h a w){g:Env}{f:Loc}(e:Wk env L g f):da ds h0 w0 β g f h a w:=
 ⟨d.after,λs c l=>d.loc s c (vj e.loc s c l),λs i c c' j k=>d.inj s i c c' (vj e.loc s c j) (vj e.loc i c' k),by rw[d.size,DG e.env],λt x hx=>by
  rcases DH e.env t x hx with rfl|he
  .trivial
  have:=d.slot t x he;cases x with
  |u=>trivial
  |v b=>exact this
  |loc s o=>exact⟨yR e.ok t s o hx,this.2⟩,d.defers⟩
theorem jn{b:Frame}{k:List Item}{cs:List Frame}:step P (lone (b.atR a (.code (.scope c)::k)) cs w)=.next (lone (b.atR a (.code c::.inScope c::k)) cs w):=
 step_lone_go (by simp[stepG,stepG.exec,Frame.atR])
theorem BE{b:Frame}{k:List Item}{cs:List Frame}:step P (lone (b.atR a (.inScope c::k)) cs w)=.next (lone (b.atR a k) cs w):=
 step_lone_go (by simp[stepG,stepG.exec,Frame.atR])
theorem zo{F:Fence}(h:c.wpIn F n P (Exit.noGoto Q) a w):(Code.scope c).wpIn F n P Q a w:=by
 intro b k cs I d r;have h0:(lone (b.atR a (.code (.scope c)::k)) cs w).fenced P F:=fenced_calm d r rfl;obtain⟨e,S,O,q,N⟩:=h b (.inScope c::k) cs I d r;cases e with
 |normal=>exact⟨.normal,S,O,q,.head h0 jn (StepsIn.trans N (.one (fenced_calm d r rfl) BE))⟩
 |exit X=>
  have hx:exitTo X (.inScope c::k)=exitTo X k:=by simp[exitTo]
  exact⟨.exit X,S,O,q,λj f=>.head h0 jn (N.1 j (by rw[hx];exact f)),
   λs f=>let ⟨k₁,g,i⟩:=N.2 s (by rw[hx];exact f);⟨k₁,g,.head h0 jn i⟩⟩
 |goto l=>exact q.elim
 |ret=>exact⟨_,S,O,q,.of_steps (.one h0 jn) N⟩
 |panic m=>exact⟨_,S,O,q,.of_steps (.one h0 jn) N⟩
 |outgrown=>exact⟨_,S,O,q,.of_steps (.one h0 jn) N⟩
theorem fJ(M:eU P T):∀(c:Code),ef T c=true->∀ {K:Ex->Env->Loc->ab->Prop} {Q:Exit->Act->World->Prop} {env:Env} {L:Loc} {h:ab} {β:Nat->Nat} {a:Act} {w:World},
 da ds h0 w0 β env L h a w->sx A T (λ_=>P) c K env L h->
 lD T ds h0 w0 Q->(∀e u q h' y r v,K e u q h'->da ds h0 w0 y u q h' r v->Q (JM e) r v)->c.wpIn (FW ro) n P Q a w:=by
 intro c;induction c with
 |skip=>exact λ_ {K Q env L h β a w} s hx f b=>wpIn_skip (b .normal _ _ _ _ _ _ hx s)
 |region id ops C=>
  intro g K Q env L h β a w s hx f b;cases C with
  |false=>exact wpIn_region_list (np M f (λu q h' y r v k p=>b .normal _ _ _ _ _ _ k p) ops.toList _ _ _ _ _ _ s hx)
  |true=>
   simp only[ef,wL]at g;refine wpIn_region_any M.mixed ?_;have W:da ds h0 w0 β env L h a { w with drawn:=w.drawn+1 }:=
    ⟨⟨s.after.os,s.after.tape,s.after.output,s.after.size,s.after.zc,s.after.frame⟩,s.loc,s.inj,s.size,s.slot,s.defers⟩
   refine IM M g.1.1 g.1.2 (K:=λenv L h=>K .normal env L h) f (λu q h' y r v k p=>b .normal _ _ _ _ _ _ k p) ops.size (D:=[]) (listed:=[]) (pend:=[]) (known:=[]) (envc:=env) (Lc:=L)
    (by exact LX ops.size) ?_ W hx g.2
   have S:∀j,¬In (Array.replicate ops.size false) j:=λj F=>by
    unfold In at F;rw[zt,hKV]at F;split at F<;>simp at F
   exact⟨by simp,λj=>by simp[S j],λx hx=>(by cases hx),λi o R=>absurd R (S i),λi R=>(by cases R),λx hx=>(by cases hx),rfl,λ_ _=>rfl,λx hx=>(by cases hx),λ_ _=>rfl,
    λx hx=>(by cases hx),λx hx=>(by cases hx),λx hx=>(by cases hx),λx hx=>(by cases hx),λx hx=>(by cases hx)⟩
 |seq c d O N=>
  intro g K Q env L h β a w s hx f b;simp only[ef,wL]at g;unfold sx at hx;refine wpIn_seq (O g.1 s hx (λc β env L h a w z B=>f c β env L h a w z B) λe u q h' y r v k p=>?_);cases e with
  |normal=>exact N g.2 p k f b
  |exit id=>exact b (.exit id) _ _ _ _ _ _ k p
  |ret=>exact b .ret _ _ _ _ _ _ k p
 |cond x c d O N=>
  intro g K Q env L h β a w s hx f b;simp only[ef,wL]at g;unfold sx at hx;split at hx
  .rename_i t ht;refine wpIn_cond (s.bo ht) ?_;rcases jk hx with⟨rfl,hx⟩|⟨rfl,hx⟩
   .exact O g.1 s hx f b
   exact N g.2 s hx f b
  exact hx.elim
 |block id c E=>
  intro g K Q env L h β a w s hx f b;unfold sx at hx;refine wpIn_block (E g s hx (λc β env L h a w z B=>f c β env L h a w z B) λe u q h' y r v k p=>?_);cases e with
  |normal=>exact b .normal _ _ _ _ _ _ k p
  |exit j=>
   simp only[JM,Exit.inBlock]at k |-;split at k
   .rename_i e;rw[if_pos e];exact b .normal _ _ _ _ _ _ k p
   rename_i e;rw[if_neg e];exact b (.exit j) _ _ _ _ _ _ k p
  |ret=>exact b .ret _ _ _ _ _ _ k p
 |loop c E=>
  intro g K Q env L h β a w s hx f b;unfold sx at hx;obtain⟨I,n,⟨X,V,G,Z⟩,U⟩:=hx.out;refine wpIn_loop_ghost (λn a w=>∃env L h β,I n env L h/\da ds h0 w0 β env L h a w) n ⟨_,_,_,_,Z,s.wk G⟩ λn a w ⟨env,L,h,β,k,p⟩=>?_;refine E g p (U n env L h k) (λc β env L h a w z B=>f c β env L h a w z B) λe u q h' y r v H J=>?_;cases e with
  |normal=>obtain⟨m,X,V,hm,G,Y⟩:=H;exact⟨m,hm,_,_,_,_,Y,J.wk G⟩
  |exit j=>exact b (.exit j) _ _ _ _ _ _ H J
  |ret=>exact b .ret _ _ _ _ _ _ H J
 |rangeFunc=>intro g K Q env L h β a w s hx f b;exact hx.elim
 |exit id=>exact λ_ {K Q env L h β a w} s hx f b=>wpIn_exit (b (.exit id) _ _ _ _ _ _ hx s)
 |scope c E=>
  intro g K Q env L h β a w s hx f b;refine zo (E g s hx (λc β env L h a w z B=>f c β env L h a w z B) λe u q h' y r v k p=>?_);cases e with
  |normal=>exact b .normal _ _ _ _ _ _ k p
  |exit j=>exact b (.exit j) _ _ _ _ _ _ k p
  |ret=>exact b .ret _ _ _ _ _ _ k p
 |label l=>exact λ_ {K Q env L h β a w} s hx f b=>wpIn_label (b .normal _ _ _ _ _ _ hx s)
 |goto=>intro g K Q env L h β a w s hx f b;exact hx.elim
 |ret=>exact λ_ {K Q env L h β a w} s hx f b=>wpIn_ret (b .ret _ _ _ _ _ _ hx s)
 |refuse=>intro g K Q env L h β a w s hx f b;exact hx.elim
def DX(tmps:Array Value):ResultVar->Sem Value
 | .tmp t=>pure (tmps.getD t undef)
 | .cell q t=>do loadVar t (<-asAddr (tmps.getD q undef))
theorem Aa(fn:Func)(m:Array Value):results fn m=(do
 let v <-fn.results.mapM (DX m)
 pure (if h:v.size=1 then v[0]else .tuple v)):=by
 have:(λ(x:ResultVar)=>(match x with| .tmp t=>pure (m.getD t undef) | .cell a t=>do loadVar t (<-asAddr (m.getD a undef)):Sem Value))=DX m:=by funext x;cases x<;>rfl
 unfold results;rw[<-this];rfl
theorem PH(m:eU P T)(s:da ds h0 w0 β env L h a w){r:ResultVar}{k:Value->Prop}(b:aXc T env L h r k):
 ∃v,(DX a.tmps r).run P w=.ok v w/\k v:=by
 unfold aXc at b;split at b
 .rename_i t;split at b
  .rename_i x hx;have:=s.slot t _ (getD_some hx (by simp));exact⟨_,rfl,by rw[show a.tmps.getD t undef=x from this];exact b⟩
  exact b.elim
 rename_i q t;split at b
 .exact b.elim
 .rename_i hx j;have i:=fv m (t:=t) (λe=>j e);have iX:=s.slot q _ (getD_some hx (by simp));split at b
  .rename_i c z;split at b
   .rename_i cs u;obtain⟨d,p⟩:=Gu s z u;obtain⟨v,f,g⟩:=nr i w _ _ cs d p b;refine⟨v,?_,g⟩;show(do loadVar t (<-asAddr (a.tmps.getD q undef)):Sem Value).run P w=_;rw[show a.tmps.getD q undef=_ from iX.2];simp[asAddr,f]
   exact b.elim
  exact b.elim
 .rename_i hx j;have i:=fv m (t:=t) (λe=>j e);have iX:=s.slot q _ (getD_some hx (by simp));obtain⟨cs,d,hl⟩:=(show vX _ _ _ _ from b).out;obtain⟨l,n,o⟩:=d.cell s.after.zc;obtain⟨v,f,g⟩:=nr i w _ _ cs n o hl;refine⟨v,?_,g⟩;rename_i y;have:y=⟨y.block,y.off,none⟩:=by cases y;simp at l;rw[l]
  show(do loadVar t (<-asAddr (a.tmps.getD q undef)):Sem Value).run P w=_;rw[show a.tmps.getD q undef=.pointer (some y)from iX];simp only[asAddr,mc,ox,hM];rw[this];exact f
 exact b.elim
theorem Ac(c:eU P T)(s:da ds h0 w0 β env L h a w):∀ {rs:List ResultVar} {k:List Value->Prop},uV T env L h rs k->
 ∃l,(rs.mapM (DX a.tmps)).run P w=.ok l w/\k l
 | [],k,b=>⟨[],rfl,b⟩
 |r::rs,k,b=>by
  unfold uV at b;obtain⟨v,d,e⟩:=PH c s b;obtain⟨l,f,g⟩:=Ac c s e;refine⟨v::l,?_,g⟩;rw[iQN];simp only[mc,d,hM,f,ox]
theorem lD.none(x:∀c s h,¬T.kp c s h):lD T ds h0 w0 Q:=λc β env L h a w q _=>(x _ _ _ q).elim
theorem af(A:Ar)[aV A](k:eU P T)(y:P.funcs[f]? =some fn)(u:fn.body=some c)(z:ef T c=true){h:ab}
 (hx:bXN A T (λ_=>P) c fn.ntmps fn.results.toList args h R) (F:∀c s h,¬T.kp c s h:=by exact λ_ _ _ b=>b):Ca (λ_=>P) f args h R:=by
 refine⟨λw D=>?_⟩;refine calls_of_wp y u (wpIn_wide (n:=0).1 ?_);have C:da [] h w (λ_=>0) (args.map SV.v++List.replicate (fn.ntmps-args.length) (.v undef)) [] h { tmps:=args.toArray++Array.replicate (fn.ntmps-args.toArray.size) undef,defers:=[] } w:=by
  refine⟨bD.refl D,λs c b=>(by cases b),λs H c c' b=>(by cases b),by simp,λt x hx=>?_,rfl⟩;rw[hKj]at hx;split at hx
  .rename_i I;have E:t<args.length:=by simpa using I
   rw[qy,zs E]at hx;simp at hx;subst hx;show _=_;rw[zt,iQG (by simpa using E)];simp[E]
  rename_i W;have Z:args.length<=t:=by simpa using W
  rw[hKL]at hx;split at hx
  .rename_i I;cases hx;show _=_;rw[zt,iQF (by simpa using Z),hKV];simp at I |-;rw[if_pos I];rfl
  cases hx
 refine fJ (A:=A) (ro:=none) (n:=0) k c z C hx (lD.none F) λe p L h' G i d a j=>?_;have fin:uV T p L h' fn.results.toList (λl=>ou l (λv=>R v h'))->i.defers=[]/\∃v,(results fn i.tmps).run P d=.ok v d/\∃m a,Ending.returned v=.returned m/\R m a/\bD h w a d:=λB=>by
  obtain⟨l,q,g⟩:=Ac k j B;refine⟨j.defers,?_⟩;have r:(results fn i.tmps).run P d=.ok (if h:l.toArray.size=1 then l.toArray[0]else .tuple l.toArray) d:=by rw[Aa,iQb];rw[mc,iQa];rw[q];rfl
  refine⟨_,r,_,h',rfl,?_,j.after⟩;unfold ou at g;split at g
  .exact g
  rename_i o;have:¬l.toArray.size=1:=λhl=>by
   match l,hl with
   | [x],_=>exact o x rfl
  rw[dif_neg this];exact g
 cases e with
 |normal=>exact fin a
 |ret=>exact fin a
 |exit id=>exact a.elim
variable {ro:Option Nat}{n:Nat}
variable {P:Program}{T:aN}{A:Ar}[aV A]
inductive Df where
 |call (g:FuncId) (args cap:List Value)
 |mark (m:Nat)
def Df.at:Df->Deferred
 | .call g args cap=>{ target:=.fn (.func g) cap.toArray,args:=args.toArray }
 | .mark m=>{ target:=.collected m,args:= #[] }
def ko:Env->Env
 | []=>[]
 |x::r=>match x with
  | .loc _ _=>.u::ko r
  |x=>x::ko r
def xQ:Env->List Nat->List Value->Env
 |env,p::ps,v::vs=>xQ (env.set p (.v v)) ps vs
 |env,_,_=>env
def IF(A:Ar)(T:aN)(p:Unit->Program)(yi body:Code)(env:Env)(ps:List Nat)(l:Nat)(o1 o2:Obj)(vs:List Value)(k:ab->Prop)(hh:ab):Prop:=
 sx A T p yi (λe gF L1 h1=>match e with
  | .normal=>h1 l=some o1/\sx A T p body (λe _ _ h2=>match e with
   | .normal=>h2 l=some o2/\k (bH h2 l o1)
   |_=>False) gF L1 (bH h1 l o2)
  |_=>False) (xQ env ps vs) [] hh
structure gQr(p:Unit->Program)(gf:FuncId)(lb:List Value)(n:Nat)(round:Nat->Obj->Obj->List Value->(ab->Prop)->ab->Prop)(h:ab)(K:Nat->ab->Prop):Prop where
 out:∀(m l:Nat) (o1 o2:Obj),h m=none->h l=none->m≠l->(∀c e fr,o1≠.cells c e fr)->(∀c e fr,o2≠.cells c e fr)->
  (∀vs hh (k:ab->Prop),vs.length=n->hh l=some o1->round l o1 o2 vs k hh->XA p l vs hh (λv h'=>v=.bool true/\k h'))->
  Ca p gf (.func (.yield l) #[] #[]::lb) (bH (bH h m (.deferred (some []))) l o1) (λ_ h'=>h' l=some o1/\∀o3,(∀c e fr,o3≠.cells c e fr)->K m (bH h' l o3))
def hXQ(P:Program)(f:FuncId)(args:List Value)(h:ab)(R:Value->ab->Prop):Prop:=
 ∀w,yH h w->∀n,CallsDIn Fence.wide n P f args.toArray .returning w λe u' w'=>u'=.returning/\∃v h',e=.returned v/\R v h'/\bD h w h' w'
structure NU(p:Unit->Program)(f:FuncId)(args:List Value)(h:ab)(R:Value->ab->Prop):Prop where
 out:hXQ (p ()) f args h R
theorem NU.mono{h:ab}{a:Value->ab->Prop}(x:NU p f args h R)(r:∀v h',R v h'->a v h'):NU p f args h a:=
 ⟨λw c n=>(x.out w c n).mono λe u d ⟨hu,v,h',he,hR,b⟩=>⟨hu,v,h',he,r _ _ hR,b⟩⟩
def tN(A:Ar)(T:List Df->aN)(p:Unit->Program)(all:List Oper)(K:List Df->Env->Loc->ab->Prop):List Oper->List Df->Env->Loc->ab->Prop
 | [],ds,env,L,h=>K ds env L h
 |o::rest,ds,env,L,h=>
  gd all env o
   (λ_=>match o.op with
    | .defer c=>match c.callee with
     | .value f=>match mY env f with
      | .v (.func (.func g) first cap)=>match mK (c.args.toList.map (mY env))with
       |some as=>tN A T p all K rest (.call g (first.toList++as) cap.toList::ds) (put env o.dst (.v undef)) L h
       |none=>False
      |_=>False
     |_=>False
    |_=>match jP (T ds) o with
     |true=>gO A (T ds) p o (mY env) L h (λx nb=>tN A T p all K rest ds (put env o.dst x) (pk L o.dst nb) h)
     |false=>hx A (T ds) p o (mY env) L h (λx L' h'=>tN A T p all K rest ds (put env o.dst x) L' h'))
   (λ_=>tN A T p all K rest ds (put env o.dst (.v undef)) L h)
def Pk(A:Ar)(T:List Df->aN)(p:Unit->Program):Code->(Ex->List Df->Env->Loc->ab->Prop)->List Df->Env->Loc->ab->Prop
 | .region id ops false,K,ds,env,L,h=>tN A T p ops.toList (λds env L h=>K .normal ds env L h) ops.toList ds env L h
 | .seq a b,K,ds,env,L,h=>Pk A T p a (λe ds env L h=>match e with
  | .normal=>Pk A T p b K ds env L h
  |e=>K e ds env L h) ds env L h
 | .cond c a b,K,ds,env,L,h=>match mY env c with
  | .v (.bool t)=>JR t (λ_=>Pk A T p a K ds env L h) (λ_=>Pk A T p b K ds env L h)
  |_=>False
 | .block id c,K,ds,env,L,h=>Pk A T p c (λe ds env L h=>match e with
  | .exit j=>if j=id then K .normal ds env L h else K (.exit j) ds env L h
  |e=>K e ds env L h) ds env L h
 | .rangeFunc g ps yi body,K,ds,env,L,h=>match mY env g with
  | .v (.func (.func gf) first lb)=>match first.isEmpty,(T ds).fn gf with
   |true,true=>gQr p gf lb.toList ps.size (IF A (T ds) p yi body (ko env) ps.toList) h (λm h'=>K .normal (.mark m::ds) env L h')
   |_,_=>False
  |_=>False
 |c,K,ds,env,L,h=>sx A (T ds) p c (λe env L h=>K e ds env L h) env L h
def IC(T:aN)(p:Unit->Program):List Df->(ab->Prop)->ab->Prop
 | [],k,h=>k h
 | .call g args cap::r,k,h=>match T.fn g with
  |true=>NU p g (args++cap) h (λ_ h'=>IC T p r k h')
  |false=>False
 | .mark m::r,k,h=>h m=some (.deferred (some []))/\IC T p r k (bH h m (.deferred none))
def bXM(A:Ar)(T:aN)(p:Unit->Program)(c:Code)(ntmps:Nat)(rs:List ResultVar)(args:List Value)(h:ab)(R:Value->ab->Prop):Prop:=
 Pk A (λ_=>T) p c (λe ds env L h=>match e with
  | .exit _=>False
  |_=>IC T p ds (λh=>uV T env L h rs (λl=>ou l (λv=>R v h))) h) [] (args.map SV.v++List.replicate (ntmps-args.length) (.v undef)) [] h
variable {h0:ab}{w0:World}{β:Nat->Nat}{h:ab}{a:Act}{w:World}{env:Env}{L:Loc}
theorem da.HD{ds:List Deferred}(s:da ds h0 w0 β env L h a w)(d:Deferred):da (d::ds) h0 w0 β env L h { a with defers:=d::a.defers } w:=
 ⟨s.after,s.loc,s.inj,s.size,s.slot,by rw[s.defers]⟩
def TD(T:List Df->aN)(h0:ab)(w0:World)(Q:Exit->Act->World->Prop):Prop:=∀ds:List Df,lD (T ds) (ds.map Df.at) h0 w0 Q
variable {TT:List Df->aN}
theorem jF(T:∀ds,eU P (TT ds)){ops:Array Oper}{K:List Df->Env->Loc->ab->Prop}
 (V:TD TT h0 w0 Q) (i:∀R B j h' C z k,K R B j h'->da (R.map Df.at) h0 w0 C B j h' z k->Q .normal z k):
 ∀(l:List Oper) (ds:List Df) (env:Env) (L:Loc) (h:ab) (β:Nat->Nat) (a:Act) (w:World),da (ds.map Df.at) h0 w0 β env L h a w->
  tN A TT (λ_=>P) ops.toList K l ds env L h->wpListIn (FW none) n P ops Q l a w
 | [],ds,env,L,h,β,a,w,b,hx=>i _ _ _ _ _ _ _ hx b
 |o::r,ds,env,L,h,β,a,w,b,hx=>by
  unfold tN at hx;unfold wpListIn;rcases rq b hx with⟨hw,hx⟩|⟨hw,hx⟩
  .rw[if_pos hw];split at hx
   .rename_i c H;split at hx
    .rename_i f F;split at hx
     .rename_i g first cap G
      split at hx
      .rename_i e has;have I:(execOp a.eval o).run P w=.ok (.defer (Df.at (.call g (first.toList++e) cap.toList))) w:=by
        have e1:first++e.toArray=(first.toList++e).toArray:=by apply Array.ext';simp
        simp only[execOp,H,resolve,F,b.bo G,ia b has,Deferred.ofValue,mc,ox,hM,Df.at,e1]
       unfold Oper.wpIn;refine⟨λ_ _=>trivial,?_⟩;rw[show(FW none).round=none from rfl,Oper.semAt_none,I,Oper.uponIn_defer];exact jF T V i r (.call g (first.toList++e) cap.toList::ds) _ _ _ _ _ _ ((b.HD (Df.at (.call g (first.toList++e) cap.toList))).put (d:=o.dst) (x:=.v undef) (v:=undef) rfl) hx
      exact hx.elim
     exact hx.elim
    exact hx.elim
   split at hx
   .obtain⟨D,J,p,t⟩:=oT hx;obtain⟨v,k,C,u,E⟩:=wV (T ds) b (t (λx y=>x=D/\y=J) ⟨rfl,rfl⟩);refine qe u ?_;exact jF T V i r _ _ _ _ _ _ _ E p
   refine Ja (T ds) b (Lc:=L) (λ_ _ q=>q) hx (V ds) λD v M j h' k p t u=>?_;have:M=j:=by
    rcases u with⟨e1,m⟩|⟨s,c,x,y,-,-,e1,m⟩
    .rw[e1,m]
    rw[e1,m]
   subst this;exact jF T V i r _ _ _ _ _ _ _ t p
  rw[if_neg (by simp[hw])];refine⟨λ_ _=>trivial,?_⟩;exact jF T V i r _ _ _ _ _ _ _ (b.put (x:=.v undef) (v:=undef) rfl) hx
theorem Cn:∀ {env:Env} {t:Nat} {x:SV},(ko env)[t]? =some x->x=.u\/(env[t]? =some x/\∀s o,x≠.loc s o)
 | [],t,x,h=>by simp[ko]at h
 |y::r,0,x,h=>by
  cases y with
  |loc s o=>simp[ko]at h;exact .inl h.symm
  |v z=>simp[ko]at h;subst h;exact .inr ⟨by simp,λ_ _ e=>by cases e⟩
  |u=>simp[ko]at h;exact .inl h.symm
 |y::r,t+1,x,h=>by
  have h':(ko r)[t]? =some x:=by cases y<;>simpa[ko]using h
  rcases Cn h' with a| ⟨a,b⟩
  .exact .inl a
  exact .inr ⟨by simpa using a,b⟩
theorem Cm:∀(env:Env),(ko env).length=env.length
 | []=>rfl
 |y::r=>by cases y<;>simp[ko,Cm r]
theorem FV{β:Nat->Nat}:∀(s:List Nat) (a:List Value) (env:Env) (tmps:Array Value),tmps.size=env.length->(∀t x,env[t]? =some x->nY β [] x (tmps.getD t undef))->
 ((s.zip a).foldl (λt (p,v)=>t.setIfInBounds p v) tmps).size=(xQ env s a).length/\∀t x,(xQ env s a)[t]? =some x->nY β [] x (((s.zip a).foldl (λt (p,v)=>t.setIfInBounds p v) tmps).getD t undef)
 | [],a,env,tmps,h,b=>by simp[xQ,h];simpa using b
 |p::s,[],env,tmps,h,b=>by simp[xQ,h];simpa using b
 |p::s,v::a,env,tmps,h,b=>by
  simp only[List.zip_cons_cons,iQc,xQ];refine FV s a _ _ (by simp[h]) (λt x hx=>?_);rw[hJN]at hx;split at hx
  .rename_i e;subst e;split at hx
   .rename_i I;cases hx;show _=_;have E:p<tmps.size:=by rw[h];exact I
    rw[zt,iQt E];rfl
   cases hx
  rename_i e;have:=b t x hx;rw[zt,iQp (by omega),<-zt];exact this
theorem bD.put{h:ab}{w:World}(a:yH h w){l:Nat}{o o':Obj}(hl:h l=some o):bD h w (bH h l o') (w.putObj l o'):=by have d:=a _ _ hl;have I:l<w.heap.size:=(zj.1 d).1;exact bD.set a hl (World.putObj_heap_same I) (λb c=>World.putObj_heap_other c) World.putObj_size ⟨rfl,rfl,rfl⟩
theorem PF(B:eU P T)(G:∀c s h,¬T.kp c s h){l:Nat}{r:Loop}{y o:Code}(M:ef T y=true)(J:ef T o=true)(L:r.assign=y)(O:r.body=o)(E:r.state=.ready)(Z:r.pending=none)
 (iX:(ko env).length=r.tmps.size) (R:∀t x,(ko env)[t]? =some x->nY (λ_=>0) [] x (r.tmps.getD t undef))
 {g:List Value} {i:ab} {k:ab->Prop} (hv:g.length=r.params.size) (hl:i l=some (.loop r))
 (hx:IF A T (λ_=>P) y o (ko env) r.params.toList l (.loop r) (.loop { r with state:=.busy }) g k i):XA (λ_=>P) l g i (λv h'=>v=.bool true/\k h'):=by
 refine⟨λw C=>⟨_,_,_,_,run_yield (C _ _ hl) (by simpa using hv),λn=>?_⟩⟩;refine roundIn_of_wpIn trivial ?_;have hz:(r.params.zip g.toArray).foldl (λtmps (t,a)=>tmps.setIfInBounds t a) r.tmps=(r.params.toList.zip g).foldl (λt (p,v)=>t.setIfInBounds p v) r.tmps:=by rw[<-iQO];simp
 rw[hz,L,O];obtain⟨K,H⟩:=FV (β:=λ_=>0) r.params.toList g (ko env) r.tmps iX.symm R;have hs:da [] i w (λ_=>0) (xQ (ko env) r.params.toList g) [] i { tmps:=(r.params.toList.zip g).foldl (λt (p,v)=>t.setIfInBounds p v) r.tmps,defers:=[] } w:=
  ⟨bD.refl C,λs c q=>(by cases q),λs s' c c' q=>(by cases q),K,H,rfl⟩
 refine fJ (A:=A) (ro:=some l) B y M hs hx (lD.none G) λe gF L1 h1 ai a1 w1 j m=>?_;cases e with
 |normal=>
  obtain⟨D,k2⟩:=j;have N:=m.after.zc _ _ D;refine⟨_,run_beginRound N E,?_⟩;have U:=m.step (bD.put m.after.zc (o':=.loop { r with state:=.busy }) D);refine fJ (A:=A) (ro:=some l) B o J U k2 (lD.none G) λe X L2 W Y a2 w2 u z=>?_;cases e with
  |normal=>
   obtain⟨F,k4⟩:=u;have I:=z.after.zc _ _ F;refine⟨_,_,run_endRound none I,?_⟩;have V:=z.step (bD.put z.after.zc (o':=.loop r) F);have S:({ r with state:=if(none:Option Code).isNone=true then LoopState.ready else LoopState.done,pending:=none }:Loop)=r:=by obtain⟨s,p,f,t,ps,a,b,d⟩:=r;simp only at E Z;subst E Z;rfl
   refine⟨_,bH W l (.loop r),rfl,⟨rfl,k4⟩,?_⟩;have Q:({ ({ r with state:=.busy }:Loop)with state:=if(none:Option Code).isNone=true then LoopState.ready else LoopState.done,pending:=none }:Loop)=r:=S;have:=V.after;rw[Q];exact this
  |exit id=>exact u.elim
  |ret=>exact u.elim
 |exit id=>exact j.elim
 |ret=>exact j.elim
theorem yo(E:eU P T)(xf:∀c s h,¬T.kp c s h){ds:List Df}{g:Operand}{p:Array Nat}{y body:Code}{b:FuncId}{l:Array Value}{K:Nat->ab->Prop}
 (d:da (ds.map Df.at) h0 w0 β env L h a w) (Z:ef T y=true) (J:ef T body=true) (hg:mY env g=.v (.func (.func b) #[] l)) (j:T.fn b=true)
 (hx:gQr (λ_=>P) b l.toList p.size (IF A T (λ_=>P) y body (ko env) p.toList) h K)
 (V:∀m h' C H,K m h'->da ((Df.mark m::ds).map Df.at) h0 w0 β env L h' C H->Q .normal C H):(Code.rangeFunc g p y body).wp P Q a w:=by
 refine(wpIn_wide (n:=0)).1 (wpIn_rangeFunc λfn _=>?_);refine⟨w.heap.size+1,_,(w.alloc (.deferred (some []))).alloc (.loop { state:=.ready,pending:=none,fn,tmps:=a.tmps,params:=p,assign:=y,body,defers:=w.heap.size }),{ target:=.fn (.func b) l,args:= #[.func (.yield (w.heap.size+1)) #[] #[]] },(w.alloc (.deferred (some []))).alloc (.loop { state:=.ready,pending:=none,fn,tmps:=a.tmps,params:=p,assign:=y,body,defers:=w.heap.size }),b,#[.func (.yield (w.heap.size+1)) #[] #[]]++l,(w.alloc (.deferred (some []))).alloc (.loop { state:=.ready,pending:=none,fn,tmps:=a.tmps,params:=p,assign:=y,body,defers:=w.heap.size }),run_enterLoop_outer fn a.tmps p y body,?_,λ_ _=>trivial,?_,λY=>by simp[Fence.wide]at Y,?_⟩
 .simp only[resolve,d.bo hg,Deferred.ofValue,ox];simp[Act.eval]
 .simp only[invoke,ph E j]
 generalize X:({ state:=.ready,pending:=none,fn,tmps:=a.tmps,params:=p,assign:=y,body,defers:=w.heap.size }:Loop)=r;have B:=d.after.zc;have a1:bD h w (bH h w.heap.size (.deferred (some []))) (w.alloc (.deferred (some []))):=bD.new B _;have N:(w.alloc (.deferred (some []))).heap.size=w.heap.size+1:=World.size_alloc w _;have a2:=bD.new a1.zc (.loop r);rw[N]at a2;have f:=a1.trans a2;have M:h w.heap.size=none:=B.kX (mr _);have I:h (w.heap.size+1)=none:=B.kX (by omega);have W:=(hx.out w.heap.size (w.heap.size+1) (.loop r) (.loop { r with state:=.busy }) M I (by omega) (λ_ _ _ e=>by cases e) (λ_ _ _ e=>by cases e) (λvs hh k hv hl F=>by
  refine PF (A:=A) (env:=env) E xf Z J (r:=r) (by rw[<-X]) (by rw[<-X]) (by rw[<-X]) (by rw[<-X]) ?_ ?_ (by rw[hv,<-X]) hl ?_
  .rw[Cm,<-d.size,<-X]
  .intro t x hx;rcases Cn hx with rfl| ⟨S,U⟩
   .trivial
   have:=d.slot t x S;rw[<-X];cases x with
   |v z=>exact this
   |loc s o=>exact absurd rfl (U s o)
   |u=>trivial
  have hp:p=r.params:=by rw[<-X]
  rw[hp]at F;exact F)).out _ f.zc
 have G:=callsIn_wide (n:=0-1).2 W;have e1:(Value.func (.yield (w.heap.size+1)) #[] #[]::l.toList).toArray= #[.func (.yield (w.heap.size+1)) #[] #[]]++l:=by apply Array.ext';simp
 rw[e1]at G;refine CallsIn.mono G λe w3 ⟨v,h3,O,⟨D,R⟩,q⟩=>?_;subst O;have i:=q.zc _ _ D;refine⟨none,w3.putObj (w.heap.size+1) (.loop { r with state:=.exhausted }),?_,?_⟩
 .have:=run_endLoop (P:=P) i (by rw[<-X];simp);rw[this,<-X]
 refine V w.heap.size _ _ _ (R (.loop { r with state:=.exhausted }) (λ_ _ _ e=>by cases e)) ?_;have s1:=d.step ((f.trans q).trans (bD.put q.zc (o':=.loop { r with state:=.exhausted }) D));exact s1.HD (Df.at (.mark w.heap.size))
def IP:Code->Bool
 | .rangeFunc .. =>false
 | .seq a b| .cond _ a b=>IP a&&IP b
 | .block _ c=>IP c
 |_=>true
theorem Md(T:∀ds,eU P (TT ds)):∀(c:Code),(∀ds,ef (TT ds) c=true)->(IP c=true\/∀ds c s h,¬(TT ds).kp c s h)->∀ {K:Ex->List Df->Env->Loc->ab->Prop} {Q:Exit->Act->World->Prop} {ds:List Df} {env:Env} {L:Loc} {h:ab} {β:Nat->Nat} {a:Act} {w:World},
 da (ds.map Df.at) h0 w0 β env L h a w->Pk A TT (λ_=>P) c K ds env L h->TD TT h0 w0 Q->
 (∀e R r q h' u l p,K e R r q h'->da (R.map Df.at) h0 w0 u r q h' l p->Q (JM e) l p)->c.wp P Q a w:=by
 intro c;induction c with
 |region id ops v=>
  intro o J K Q ds env L h β a w k hx V f;cases v with
  |false=>exact wpIn_wide (n:=0).1 (wpIn_region_list (jF T V (λR r q h' u l p b i=>f .normal _ _ _ _ _ _ _ b i) ops.toList _ _ _ _ _ _ _ k hx))
  |true=>exact wpIn_wide (n:=0).1 (fJ (A:=A) (ro:=none) (n:=0) (T ds) _ (o ds) k hx (V ds) (λe r q h' u l p b i=>f e _ _ _ _ _ _ _ b i))
 |seq c d O N=>
  intro o J K Q ds env L h β a w k hx V f;simp only[ef,wL]at o;simp only[IP,wL]at J;unfold Pk at hx;refine wp_seq (O (λds=>(o ds).1) (J.imp And.left id) k hx (λds c β env L h a w z B=>V ds c β env L h a w z B) λe R r q h' u l p b i=>?_);cases e with
  |normal=>exact N (λds=>(o ds).2) (J.imp And.right id) i b V f
  |exit id=>exact f (.exit id) _ _ _ _ _ _ _ b i
  |ret=>exact f .ret _ _ _ _ _ _ _ b i
 |cond x c d O N=>
  intro o J K Q ds env L h β a w k hx V f;simp only[ef,wL]at o;simp only[IP,wL]at J;unfold Pk at hx;split at hx
  .rename_i t E;refine wp_cond (k.bo E) ?_;rcases jk hx with⟨rfl,hx⟩|⟨rfl,hx⟩
   .exact O (λds=>(o ds).1) (J.imp And.left id) k hx V f
   exact N (λds=>(o ds).2) (J.imp And.right id) k hx V f
  exact hx.elim
 |block id c F=>
  intro o J K Q ds env L h β a w k hx V f;unfold Pk at hx;refine wp_block (F o J k hx (λds c β env L h a w z B=>V ds c β env L h a w z B) λe R r q h' u l p b i=>?_);cases e with
  |normal=>exact f .normal _ _ _ _ _ _ _ b i
  |exit j=>
   simp only[JM,Exit.inBlock]at b |-;split at b
   .rename_i e;rw[if_pos e];exact f .normal _ _ _ _ _ _ _ b i
   rename_i e;rw[if_neg e];exact f (.exit j) _ _ _ _ _ _ _ b i
  |ret=>exact f .ret _ _ _ _ _ _ _ b i
 |rangeFunc g M S C=>
  intro o J K Q ds env L h β a w k hx V f;simp only[ef,wL]at o;have G:∀ds c s h,¬(TT ds).kp c s h:=J.resolve_left (by simp[IP]);unfold Pk at hx;split at hx
  .rename_i H first I D
   split at hx
   .rename_i Z y;have Z:first= #[]:=by have:first.isEmpty=true:=Z;simpa using this
    subst Z;exact yo (T ds) (G ds) k (o ds).1 (o ds).2 D y hx (λm h' l p b i=>f .normal _ _ _ _ _ _ _ b i)
   exact hx.elim
  exact hx.elim
 |_=>exact λo J {K Q ds env L h β a w} k hx V f=>wpIn_wide (n:=0).1 (fJ (A:=A) (ro:=none) (n:=0) (T ds) _ (o ds) k hx (V ds) (λe r q h' u l p b i=>f e _ _ _ _ _ _ _ b i))
theorem oM{f:FuncId}{h:ab}{w:World}(d:yH h w):
 da [] h w (λ_=>0) (args.map SV.v++List.replicate (fn.ntmps-args.length) (.v undef)) [] h { tmps:=args.toArray++Array.replicate (fn.ntmps-args.toArray.size) undef,defers:=[] } w:=by
 refine⟨bD.refl d,λs c b=>(by cases b),λs e c c' b=>(by cases b),by simp,λt x hx=>?_,rfl⟩;rw[hKj]at hx;split at hx
 .rename_i a;have E:t<args.length:=by simpa using a
  rw[qy,zs E]at hx;simp at hx;subst hx;show _=_;rw[zt,iQG (by simpa using E)];simp[E]
 rename_i g;have Z:args.length<=t:=by simpa using g
 rw[hKL]at hx;split at hx
 .rename_i a;cases hx;show _=_;rw[zt,iQF (by simpa using Z),hKV];simp at a |-;rw[if_pos a];rfl
 cases hx
theorem yK(e:eU P T){ds:List Deferred}(s:da ds h0 w0 β env L h a w)(r:uV T env L h fn.results.toList (λl=>ou l (λv=>R v h))):
 ∃v,(results fn a.tmps).run P w=.ok v w/\R v h/\bD h0 w0 h w:=by
 obtain⟨l,c,b⟩:=Ac e s r;have d:(results fn a.tmps).run P w=.ok (if h:l.toArray.size=1 then l.toArray[0]else .tuple l.toArray) w:=by rw[Aa,iQb];rw[mc,iQa];rw[c];rfl
 refine⟨_,d,?_,s.after⟩;unfold ou at b;split at b
 .exact b
 rename_i m;have:¬l.toArray.size=1:=λhl=>by
  match l,hl with
  | [x],_=>exact m x rfl
 rw[dif_neg this];exact b
theorem sA(A:Ar)[aV A](i:eU P T)(t:P.funcs[f]? =some fn)(q:fn.body=some c)(u:ef T c=true){h:ab}
 (hx:bXN A T (λ_=>P) c fn.ntmps fn.results.toList args h R) (B:∀c s h,¬T.kp c s h:=by exact λ_ _ _ r=>r):NU (λ_=>P) f args h R:=by
 refine⟨λw z n=>?_⟩;refine(callsDIn_of_wp (R:=λe b=>∃v h',e=.returned v/\R v h'/\bD h w h' b) t q trivial ?_).mono (λe D b x=>x);refine fJ (A:=A) (ro:=none) i c u (oM (f:=f) (fn:=fn) z) hx (lD.none B) λe k L h' C d b a g=>?_;have fin:uV T k L h' fn.results.toList (λl=>ou l (λv=>R v h'))->d.defers=[]/\∃v,(results fn d.tmps).run P b=.ok v b/\∃j a,Ending.returned v=.returned j/\R j a/\bD h w a b:=λy=>by
  obtain⟨v,m,o,p⟩:=yK i g y;exact⟨g.defers,v,m,v,h',rfl,o,p⟩
 cases e with
 |normal=>exact fin a
 |ret=>exact fin a
 |exit id=>exact a.elim
theorem tQ(b:eU P T)(d:List Deferred):∀(ds:List Df) {h:ab} {a:Act} {w:World},da d h0 w0 β env L h a w->
 IC T (λ_=>P) ds (λh=>uV T env L h fn.results.toList (λl=>ou l (λv=>R v h))) h->
 LeavesInM Fence.wide 0 P fn a.tmps (λe f=>∃v h',e=.returned v/\R v h'/\bD h0 w0 h' f) (ds.map Df.at) .returning w
 | [],h,a,w,s,hx=>by
  obtain⟨v,j,k,n⟩:=yK b s hx;exact⟨v,j,v,h,rfl,k,n⟩
 | .call g args cap::r,h,a,w,s,hx=>by
  unfold IC at hx;split at hx
  .rename_i q;have t:(invoke (.fn (.func g) cap.toArray) args.toArray).run P w=.ok (.enter g (args++cap).toArray) w:=by
    have e1:args.toArray++cap.toArray=(args++cap).toArray:=by simp
    simp only[invoke,e1,ph b q]
   refine⟨by simp,.inr ⟨λp=>by simp[Fence.wide]at p,_,_,_,_,rfl,t,λ_ _=>trivial,(hx.out w s.after.zc _).mono λe x f ⟨hu,v,h',he,hR,o⟩=>?_⟩⟩;subst hu;subst he;have:=tQ b d r (s.step o) hR;exact this
  exact hx.elim
 | .mark m::r,h,a,w,s,hx=>by
  unfold IC at hx;obtain⟨c,i⟩:=hx;have u:=s.after.zc _ _ c;refine⟨by simp,.inl ⟨m,_,rfl,run_takeDeferred u,?_⟩⟩;exact tQ b d r (s.step (bD.put s.after.zc c)) i
theorem mF(A:Ar)[aV A](i:eU P T)(o:P.funcs[f]? =some fn)(k:fn.body=some c)(p:ef T c=true){h:ab}
 (hx:bXM A T (λ_=>P) c fn.ntmps fn.results.toList args h R) (x:∀c s h,¬T.kp c s h:=by exact λ_ _ _ m=>m):Ca (λ_=>P) f args h R:=by
 refine⟨λw q=>?_⟩;refine callsIn_wide.1 (callsIn_of_wp_marks (F:=Fence.wide) (n:=0) o k trivial ((wpIn_wide (n:=0)).2 ?_));refine Md (A:=A) (TT:=λ_=>T) (λ_=>i) c (λ_=>p) (.inr λ_=>x) (ds:=[]) (oM (f:=f) (fn:=fn) q) hx (λ_=>lD.none x) λe X j L h' t d b a g=>?_;have fin:IC T (λ_=>P) X (λh=>uV T j L h fn.results.toList (λl=>ou l (λv=>R v h))) h'->LeavesInM Fence.wide 0 P fn d.tmps (λe b=>∃v h',e=.returned v/\R v h'/\bD h w h' b) d.defers .returning b:=λr=>by
  have:=tQ i _ X g r;rw[g.defers];exact this
 cases e with
 |normal=>exact fin a
 |ret=>exact fin a
 |exit id=>exact a.elim
end Go.Sx
