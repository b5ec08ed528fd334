import Derived.Test.YthnbpiejemlbeaaGreatSxA
import Derived.Scope
set_option linter.all false
namespace Go.Sx
variable {g:Bool}{c:Code}{K:Env->Loc->ab->Prop}{Q:Exit->Act->World->Prop}{fn:Func}{f:FuncId}{args cs z:List Value}{L':Loc}{bytes cap i j size:Nat}{o:Oper}{N:Operand->SV}{b:Option Addr}{d:Option Nat}{q:Prop}{k:SV->Loc->ab->Prop}{p:Unit->Program}{y:Unit->Prop}{s:Unit->Sem Value}{R:Value->ab->Prop}{h':ab}
variable {ro:Option Nat}{n:Nat}
variable {P:Program}{T:aL}{A:Ar}[bf A]
variable {ds:List Deferred}{h0:ab}{w0:World}{β:Nat->Nat}{env:Env}{L:Loc}{h:ab}{a:Act}{w:World}
theorem Zz{ops:List Oper}{env:Env}{n c n':Unit->Prop}(h:gd ops env o y n)(b:y ()->c ())(a:n ()->n' ()):gd ops env o c n':=by
 unfold gd at *;repeat' split at h
 all_goals first
  |exact b h
  |exact a h
  |exact h.elim
  | (rcases jR h with⟨rfl,h⟩ | ⟨rfl,h⟩<;>first|exact b h|exact a h)
theorem sX(s:cZ ds h0 w0 β env L h a w){ops:Array Oper}{n:Unit->Prop}(g:gd ops.toList env o y n):
 (Region.wanted o (yielded ops a.tmps)=true/\y ())\/(Region.wanted o (yielded ops a.tmps)=false/\n ()):=by
 unfold gd at g;split at g
 .rename_i M;exact .inl ⟨by simp[Region.wanted,M],g⟩
 rename_i j t W;split at g
 .rename_i k U;have K:ops[j]? =some k:=by simpa using U
  split at g
  .rename_i d hd;split at g
   .rename_i b c;have e:=getD_some c (by simp);have mC:=s.slot d _ e;have F:d<a.tmps.size:=by rw[s.size];exact(List.getElem?_eq_some_iff.1 e).1
    have mC:a.tmps.getD d undef=.bool b:=mC;have v:a.tmps[d]? =some (.bool b):=by rw[Array.getD_eq_getD_getElem?]at mC;rw[Array.getElem?_eq_getElem F]at mC |-;simpa using mC
    have i:Region.wanted o (yielded ops a.tmps)=(b==t):=by simp[Region.wanted,W,yielded,K,hd,v]
    rw[i];split at g
    .rcases jR g with⟨rfl,g⟩|⟨rfl,g⟩
     .exact .inl ⟨rfl,g⟩
     exact .inr ⟨rfl,g⟩
    rcases jR g with⟨rfl,g⟩|⟨rfl,g⟩
    .exact .inr ⟨rfl,g⟩
    exact .inl ⟨rfl,g⟩
   .rename_i f c;have e:=getD_some c (by simp);have mC:=s.slot d _ e;have F:d<a.tmps.size:=by rw[s.size];exact(List.getElem?_eq_some_iff.1 e).1
    have mC:a.tmps.getD d undef=.tuple f:=mC;have v:a.tmps[d]? =some (.tuple f):=by rw[Array.getD_eq_getD_getElem?]at mC;rw[Array.getElem?_eq_getElem F]at mC |-;simpa using mC
    exact .inr ⟨by simp[Region.wanted,W,yielded,K,hd,v],g⟩
   exact g.elim
  rename_i hd;exact .inr ⟨by simp[Region.wanted,W,yielded,K,hd],g⟩
 rename_i U;have K:ops[j]? =none:=by simpa using U
 exact .inr ⟨by simp[Region.wanted,W,yielded,K],g⟩
theorem oC(d:fF P T){ops:Array Oper}
 (g:mI T ds h0 w0 Q) (e:∀Z L' h' B p f,K Z L' h'->cZ ds h0 w0 B Z L' h' p f->Q .normal p f):
 ∀(l:List Oper) (env:Env) (L:Loc) (h:ab) (β:Nat->Nat) (a:Act) (w:World),cZ ds h0 w0 β env L h a w->
  BA A T (λ_=>P) ops.toList K l env L h->wpListIn (FW ro) n P ops Q l a w
 | [],env,L,h,β,a,w,b,hx=>e _ _ _ _ _ _ hx b
 |o::r,env,L,h,β,a,w,b,hx=>by
  unfold BA at hx;unfold wpListIn;rcases sX b hx with⟨hw,hx⟩|⟨hw,hx⟩
  .rw[if_pos hw];split at hx
   .obtain⟨t,z,j,k⟩:=qB hx;obtain⟨v,f,B,m,u⟩:=yK d b (k (λx y=>x=t/\y=z) ⟨rfl,rfl⟩);refine rW m ?_;exact oC d g e r _ _ _ _ _ _ u j
   refine Kz d b (Lc:=L) (λ_ _ q=>q) hx g λt v G L' h' f j k m=>?_;have:G=L':=by
    rcases m with⟨e1,i⟩|⟨s,c,x,y,-,-,e1,i⟩
    .rw[e1,i]
    rw[e1,i]
   subst this;exact oC d g e r _ _ _ _ _ _ k j
  rw[if_neg (by simp[hw])];refine⟨λ_ _=>trivial,?_⟩;exact oC d g e r _ _ _ _ _ _ (b.put (x:=.v undef) (v:=undef) rfl) hx
def lP(o:Oper):Bool:=match o.op with
 | .load .. =>true
 |_=>false
def mA(o:Oper):Bool:=match o.op with
 | .alloc _| .box .. =>true
 |_=>false
def eX(o:Oper):Bool:=match o.op with
 | .assign _=>true
 |_=>false
theorem mO{m:Operand->SV}{L:Loc}{h:ab}{k:SV->Option (List Value)->Prop}(j:iO A T p o m L h k)
 (J:∀x∈o.op.operands.toList,N x=m x) (B:lP o=true->∀x∈o.op.operands.toList,∀s off,m x=.loc s off->∀c,kf L s=some c->kf L' s=some c)
 (w:mA o=true->∀d,o.dst=some d->kf L' d=none) (D:lP o=true->h'=h):iO A T p o N L' h' k:=by
 unfold iO at j |-;split at j;case h_1 x a=>simp only[a]at J |-;rw[J x (by simp[Op.operands])];exact j
 case h_2 c x y a=>simp only[a]at J |-;rw[J c (by simp[Op.operands]),J x (by simp[Op.operands]),J y (by simp[Op.operands])];exact j
 case h_3 e a=>
  have I:=w (by simp[mA,a]);simp only[a]at J |-;split at j
  .exact j.elim
  split at j
  .exact j.elim
  rename_i d hd;split at j
  .simp only[I d hd];exact j
  exact j.elim
 case h_4 e x a=>
  have I:=w (by simp[mA,a]);simp only[a]at J |-;rw[J x (by simp[Op.operands])];split at j
  .exact j.elim
  rename_i d hd;split at j
  .split at j
   .simp only[I d hd];exact j
   exact j.elim
  exact j.elim
 case h_5 t x a=>
  have Z:=B (by simp[lP,a]);have K:=D (by simp[lP,a]);subst K;simp only[a]at J Z |-;rw[J x (by simp[Op.operands])];split at j
  .exact j.elim
  split at j
  .rename_i s off hx;split at j
   .rename_i c C;simp only[Z x (by simp[Op.operands]) s off hx c C];exact j
   exact j.elim
  .exact j
  exact j.elim
 case h_6 x a=>simp only[a]at J |-;rw[J x (by simp[Op.operands])];exact j
 case h_7 t x f a=>simp only[a]at J |-;rw[J x (by simp[Op.operands])];exact j
 case h_8 t x i a=>simp only[a]at J |-;rw[J x (by simp[Op.operands]),J i (by simp[Op.operands])];exact j
 case h_9 t x i a=>simp only[a]at J |-;rw[J x (by simp[Op.operands]),J i (by simp[Op.operands])];exact j
 case h_10 t x f a=>simp only[a]at J |-;rw[J x (by simp[Op.operands])];exact j
 case h_11 x i a=>simp only[a]at J |-;rw[J x (by simp[Op.operands])];exact j
 case h_12 t parts a=>
  simp only[a]at J |-;have:∀l:List (Nat×Operand),(∀q∈l,N q.2=m q.2)->mN N l=mN m l:=λl=>by
   induction l with
   |nil=>intro _;rfl
   |cons q r G=>intro u;obtain⟨i,x⟩:=q;unfold mN;rw[u (i,x) (by simp),G (λq X=>u q (by simp[X]))]
  rw[this parts.toList (λq u=>J q.2 (by simp only[Op.operands,List.mem_map];exact⟨q,u,rfl⟩))];exact j
 case h_13 op t x y ty a=>simp only[a]at J |-;rw[J x (by simp[Op.operands]),J y (by simp[Op.operands])];exact j
 case h_14 op t x a=>simp only[a]at J |-;rw[J x (by simp[Op.operands])];exact j
 case h_15 s d x a=>simp only[a]at J |-;rw[J x (by simp[Op.operands])];exact j
 case h_16 t x a=>simp only[a]at J |-;rw[J x (by simp[Op.operands])];exact j
 case h_17 fn f c a=>
  simp only[a]at J |-;rw[List.map_congr_left (g:=m) (λx hx=>J x (by simp only[Op.operands,Array.toList_append,List.mem_append];exact .inl hx)),
   List.map_congr_left (l:=c.toList) (g:=m) (λx hx=>J x (by simp only[Op.operands,Array.toList_append,List.mem_append];exact .inr hx))]
  exact j
 case h_18 t x H E M a=>
  simp only[a]at J |-;have v:∀y:Option Operand,(∀z,y=some z->N z=m z)->XB N y=XB m y:=λy F=>by
   cases y with
   |none=>rfl
   |some z=>simp only[XB,F z rfl]
  rw[v H (λz n=>J z (by simp[Op.operands,n])),v E (λz n=>J z (by simp[Op.operands,n])),v M (λz n=>J z (by simp[Op.operands,n])),
   J x (by simp[Op.operands])]
  exact j
 case h_19 b args argTypes a=>simp only[a]at J |-;rw[List.map_congr_left (g:=m) (λx hx=>J x (by simp[Op.operands,Call.operands];simpa using hx))];exact j
 case h_20 x q as ok a=>simp only[a]at J |-;rw[J x (by simp[Op.operands])];exact j
 case h_21=>exact j.elim
theorem TK{d:Operand->SV}{L:Loc}{h:ab}(c:hx A T p o d L h k)
 (J:∀x∈o.op.operands.toList,N x=d x) (Q:∀t∈T.rs,N (.tmp t)=d (.tmp t)):hx A T p o N L h k:=by
 have n:(T.rs.map λt=>N (.tmp t))=(T.rs.map λt=>d (.tmp t)):=List.map_congr_left Q;unfold hx at c |-;split at c;case h_1 x a=>simp only[a]at J |-;rw[J x (by simp[Op.operands])];exact c
 case h_2 t x y a=>simp only[a]at J |-;rw[J x (by simp[Op.operands]),J y (by simp[Op.operands])];exact c
 case h_3 e a=>simp only[a]at J |-;exact c
 case h_4 e x a=>simp only[a]at J |-;rw[J x (by simp[Op.operands])];exact c
 case h_5 t len parts a=>
  simp only[a]at J |-;have:∀l:List (Nat×Operand),(∀q∈l,N q.2=d q.2)->mN N l=mN d l:=λl=>by
   induction l with
   |nil=>intro _;rfl
   |cons q r s=>intro j;obtain⟨i,x⟩:=q;unfold mN;rw[j (i,x) (by simp),s (λq X=>j q (by simp[X]))]
  rw[this parts.toList (λq j=>J q.2 (by simp only[Op.operands,List.mem_map];exact⟨q,j,rfl⟩))];exact c
 case h_6 t x y a=>simp only[a]at J |-;rw[J x (by simp[Op.operands]),J y (by simp[Op.operands])];exact c
 case h_7 t r a=>simp only[a]at J |-;exact c
 case h_8 f args argTypes a=>simp only[a]at J |-;rw[J f (by simp[Op.operands,Call.operands]),List.map_congr_left (g:=d) (λx hx=>J x (by simp[Op.operands,Call.operands];right;simpa using hx)),n];exact c
 case h_9 b args argTypes a=>simp only[a]at J |-;rw[List.map_congr_left (g:=d) (λx hx=>J x (by simp[Op.operands,Call.operands];simpa using hx))];exact c
 case h_10 src dst x a=>simp only[a]at J |-;rw[J x (by simp[Op.operands])];exact c
 case h_11 t x i b a=>simp only[a]at J |-;rw[J x (by simp[Op.operands]),J i (by simp[Op.operands])];exact c
 case h_12 t m i x a=>simp only[a]at J |-;rw[J m (by simp[Op.operands]),J i (by simp[Op.operands]),J x (by simp[Op.operands])];exact c
 case h_13 t m i a=>simp only[a]at J |-;rw[J m (by simp[Op.operands]),J i (by simp[Op.operands])];exact c
 case h_14 t m i x a=>simp only[a]at J |-;rw[J m (by simp[Op.operands]),J i (by simp[Op.operands]),J x (by simp[Op.operands])];exact c
 case h_15 t x a=>simp only[a]at J |-;rw[J x (by simp[Op.operands])];exact c
 case h_16 it str a=>simp only[a]at J |-;rw[J it (by simp[Op.operands])];exact c
 case h_17 it a=>simp only[a]at J |-;rw[J it (by simp[Op.operands])];exact c
 case h_18 t m i x a=>simp only[a]at J |-;rw[J m (by simp[Op.operands]),J i (by simp[Op.operands]),J x (by simp[Op.operands])];exact c
 case h_19 x a=>simp only[a]at J |-;rw[J x (by simp[Op.operands]),n];exact c
 case h_20=>exact c.elim
variable {P:Program}{T:aL}{A:Ar}[bf A]
variable {ds:List Deferred}{h0:ab}{w0:World}
def ke(o:Oper):List Nat:=(o.after.toList.filter λe=>Region.binds .any e).map (·.on)
def uH(T:aL)(ops:Array Oper):Bool:=
 (List.range ops.size).all λi=>match ops[i]? with
  |none=>false
  |some oi=>(ke oi).all (λe=>decide (e<i))&&
   (match oi.dst with|none=>true|some d=> !kW T oi|| !(oi.looksAt ops).contains d)&&
   (List.range ops.size).all λj=>i==j||match ops[j]? with
    |none=>false
    |some oj=>match oi.dst with
     |none=>true
     |some d=>oj.dst !=some d&&(!(oj.looksAt ops).contains d||(ke oj).contains i||(!kW T oi&&(ke oi).contains j))
def Sn(T:aL)(ops:Array Oper):Bool:=ops.toList.all λo=>match o.dst with
 |some d=> !T.rs.contains d
 |none=>true
theorem Ox{T:aL}{ops:Array Oper}(h:Sn T ops=true)(b:ops[i]? =some o){t:Nat}(c:t∈T.rs):o.dst≠some t:=λhd=>by
 unfold Sn at h;rw[List.all_eq_true]at h;have a:=h o (by
  obtain⟨hl,rfl⟩:=Array.getElem?_eq_some_iff.1 b;simp)
 rw[hd]at a;simp[c]at a
def jQ(ops:Array Oper):Nat->List Nat->List Nat
 |0,s=>s
 |i+1,s=>jQ ops i (if s.contains i then(match ops[i]? with|some o=>ke o|none=>[])++s else s)
def rq:uC->List Nat
 | .ad i _ _=>[i]
 | .fork l r=>rq l++rq r
 |_=>[]
def Gq(ops:Array Oper)(p:uC)(listed:List Nat):Bool:=
 (List.range ops.size).all λj=>listed.contains j||(rq p).contains j||match ops[j]? with
  |some o=> !(ke o).all listed.contains
  |none=>true
def AO(T:aL)(ops:Array Oper):uC->Bool->List Nat->List Nat->List Nat->Bool
 | .done,br,listed,_,_=> !br&&(List.range ops.size).all listed.contains
 | .aa i rest,br,listed,pend,known=> !br&& !listed.contains i&&(match ops[i]? with
  |some o=>kW T o&&(ke o).all listed.contains
  |none=>false)&&AO T ops rest false (i::listed) (i::pend) known
 | .ad i pn rest,br,listed,pend,known=>(br||Gq ops (.ad i pn rest) listed)&& !listed.contains i&&(match ops[i]? with
  |some o=> !kW T o&&(eX o||pend.all λj=>(jQ ops ops.size (i::known)).contains j||pn.contains j||(match ops[j]? with
   |some oj=> !lP oj
   |none=>true))
  |none=>false)&&
  AO T ops rest false (i::listed) (pend.filter λj=> !(jQ ops ops.size (i::known)).contains j) (jQ ops ops.size (i::known))
 | .fork l r,br,listed,pend,known=>(br||Gq ops (.fork l r) listed)&&AO T ops l true listed pend known&&AO T ops r true listed pend known
theorem nN{ops:Array Oper}(r:uH T ops=true)(f:ops[i]? =some o):
 (∀e∈ke o,e<i)/\(kW T o=true->∀d,o.dst=some d->d∉o.looksAt ops)/\∀j b,i≠j->ops[j]? =some b->∀d,o.dst=some d->b.dst≠some d/\
  (d∈b.looksAt ops->i∈ke b\/(kW T o=false/\j∈ke o)):=by
 unfold uH at r;rw[List.all_eq_true]at r;have F:i<ops.size:=(Array.getElem?_eq_some_iff.1 f).1;have c:=r i (by simpa using F);simp only[f,Bool.and_eq_true,List.all_eq_true,decide_eq_true_eq]at c;refine⟨c.1.1,λhl d hd=>?_,λj b k g d hd=>?_⟩
 .have:=c.1.2;simp only[hd,hl,Bool.not_true,Bool.false_or,Bool.not_eq_true',List.contains_eq_mem,decide_eq_false_iff_not]at this;exact this
 have a:=c.2 j (by simpa using (Array.getElem?_eq_some_iff.1 g).1);simp only[g,hd,Bool.or_eq_true,beq_iff_eq,Bool.and_eq_true,bne_iff_ne,Bool.not_eq_true',List.contains_eq_mem,decide_eq_true_eq,decide_eq_false_iff_not]at a;rcases a with a| ⟨a,h⟩
 .exact absurd a k
 refine⟨a,λm=>?_⟩;rcases h with (h|h)|⟨h,l⟩
 .exact absurd m h
 .exact .inl h
 exact .inr ⟨h,l⟩
def In(X:Array Bool)(i:Nat):Prop:=X.getD i false=true
theorem In.set{X:Array Bool}(a:i<X.size):In (X.setIfInBounds i true) j↔i=j\/In X j:=by
 unfold In;simp only[Array.getD_eq_getD_getElem?,Array.getElem?_setIfInBounds];by_cases h:i=j
 .subst h;simp[a]
 simp[h]
theorem Eu:i∈ke o↔∃e∈o.after,Region.binds .any e=true/\e.on=i:=by simp[ke,and_assoc]
theorem yD{ops:Array Oper}{X:Array Bool}(hX:X.size=ops.size):
 j∈Region.ready .any ops X↔¬In X j/\∃o,ops[j]? =some o/\∀e∈ke o,In X e:=by
 rw[mem_ready];constructor
 .rintro⟨h,o,a,b⟩;have F:j<X.size:=by rw[hX];exact(Array.getElem?_eq_some_iff.1 a).1
  refine⟨?_,o,a,λe c=>?_⟩
  .unfold In;rw[Array.getD_eq_getD_getElem?,Array.getElem?_eq_getElem F]at h |-;simp at h |-;exact h
  obtain⟨d,f,g,rfl⟩:=Eu.1 c;exact b d f g
 rintro⟨h,o,a,b⟩;have F:j<X.size:=by rw[hX];exact(Array.getElem?_eq_some_iff.1 a).1
 refine⟨?_,o,a,λe c i=>b e.on (Eu.2 ⟨e,c,i,rfl⟩)⟩;unfold In at h;rw[Array.getD_eq_getD_getElem?,Array.getElem?_eq_getElem F]at h |-;simp at h |-;exact h
theorem CT{ops:Array Oper}{X:Array Bool}(hd:∀i o,In X i->ops[i]? =some o->∀e∈ke o,In X e):
 ∀(n:Nat) (s:List Nat),(∀i∈s,In X i)->∀i∈jQ ops n s,In X i
 |0,s,a=>a
 |n+1,s,a=>by
  unfold jQ;refine CT hd n _ λi h=>?_;split at h
  .rename_i c;rcases List.mem_append.1 h with h|h
   .cases b:ops[n]? with
    |none=>rw[b]at h;cases h
    |some o=>rw[b]at h;exact hd n o (a n (by simpa using c)) b i h
   exact a i h
  exact a i h
structure oy where
 i:Nat
 o:Oper
 sv:SV
 nb:Option (List Value)
def oy.fact(A:Ar)(T:aL)(P:Program)(ops:Array Oper)(env:Env)(L:Loc)(h:ab)(x:oy):Prop:=
 gd ops.toList env x.o (λ_=>iO A T (λ_=>P) x.o (og env) (if mA x.o then []else L) h (λa b=>a=x.sv/\b=x.nb)) (λ_=>x.sv=.v undef/\x.nb=none)
structure gS(A:Ar)(T:aL)(P:Program)(ops:Array Oper)(X:Array Bool)(D:List oy)(listed pend known:List Nat)(envc:Env)(Lc:Loc)(iV:Env)(La:Loc)(h:ab):Prop where
 size:X.size=ops.size
 aKA:∀j,j∈listed↔In X j\/∃x∈D,x.i=j
 apart:∀x∈D,¬In X x.i
 down:∀i o,In X i->ops[i]? =some o->∀e∈ke o,In X e
 known:∀i∈known,In X i
 pend:∀x∈D,x.i∈pend
 len:iV.length=envc.length
 env:∀t,(∀x∈D,x.o.dst≠some t)->iV[t]? =envc[t]?
 dst:∀x∈D,∀t,x.o.dst=some t->t<envc.length->envc[t]? =some x.sv
 loc:∀s,(∀x∈D,x.nb.isSome=true->x.o.dst≠some s)->kf La s=kf Lc s
 box:∀x∈D,∀s c,x.nb=some c->x.o.dst=some s->kf La s=none/\kf Lc s=some c
 op:∀x∈D,ops[x.i]? =some x.o/\kW T x.o=true
 cQW:∀x∈D,∀e∈ke x.o,e∈listed
 uniq:∀x∈D,∀y∈D,x.i=y.i->x=y
 fact:∀x∈D,x.fact A T P ops envc Lc h
theorem xq{ops:List Oper}{env:Env}{n:Unit->Prop}(h:gd ops env o y n):
 (y ()/\∀a n':Unit->Prop,gd ops env o a n'↔a ())\/(n ()/\∀a n':Unit->Prop,gd ops env o a n'↔n' ()):=by
 unfold gd at *;repeat' split at h
 all_goals first
  |exact h.elim
  |exact .inl ⟨h,λ_ _=>Iff.rfl⟩
  |exact .inr ⟨h,λ_ _=>Iff.rfl⟩
  | (rcases jR h with⟨rfl,h⟩ | ⟨rfl,h⟩<;>first
   |exact .inl ⟨h,λ_ _=>Iff.rfl⟩
   |exact .inr ⟨h,λ_ _=>Iff.rfl⟩)
theorem CE{ops:Array Oper}{env b:Env}{n:Unit->Prop}(h:gd ops.toList env o y n)(e:∀t∈o.looksAt ops,b[t]? =env[t]?):
 gd ops.toList b o y n:=by
 have key:∀(j:Nat) (w:Bool),o.guard=some (j,w)->∀a,ops.toList[j]? =some a->∀d,a.dst=some d->b.getD d .u=env.getD d .u:=λj w W a U d hd=>by
  rw[List.getD_eq_getElem?_getD,List.getD_eq_getElem?_getD,e d ?_];unfold Oper.looksAt;refine List.mem_append_right _ ?_;have K:ops[j]? =some a:=by simpa using U
  simp[W,K,hd]
 unfold gd at h |-;cases W:o.guard with
 |none=>simp only[W]at h;exact h
 |some c=>
  obtain⟨j,w⟩:=c;simp only[W]at h |-;cases U:ops.toList[j]? with
  |none=>simp only[U]at h;exact h
  |some a=>
   simp only[U]at h |-;cases hd:a.dst with
   |none=>simp only[hd]at h;exact h
   |some d=>simp only[hd]at h |-;rw[key j w W a U d hd];exact h
theorem wv{ops:Array Oper}{env b:Env}(h:∀t∈o.looksAt ops,b[t]? =env[t]?):∀x∈o.op.operands.toList,og b x=og env x:=λx hx=>by
 cases x with
 |tmp t=>show b.getD t .u=env.getD t .u;rw[List.getD_eq_getElem?_getD,List.getD_eq_getElem?_getD,h t ?_];unfold Oper.looksAt;exact List.mem_append_left _ (List.mem_filterMap.2 ⟨.tmp t,hx,rfl⟩)
 |const v=>rfl
 |global g=>rfl
 |func f=>rfl
theorem kP{env:Env}{x:SV}{t:Nat}(h:d≠some t):(put env d x)[t]? =env[t]? :=by
 cases d with
 |none=>rfl
 |some u=>simp only[put];rw[List.getElem?_set_ne (λe=>h (by rw[e]))]
theorem wH{env:Env}{t:Nat}{x:SV}(h:t<env.length):(put env (some t) x)[t]? =some x:=by simp only[put];rw[List.getElem?_set_self h]
theorem lZ{env:Env}{x:SV}:(put env d x).length=env.length:=by cases d<;>simp[put]
theorem SB(h:rI g cs (λ_=>q)):q:=(kO h).elim λ_ h=>h.2
theorem cXx{h:ab}{x:Addr}{n:Nat}(k:vK h x n (λcs=>rI g cs (λ_=>q))):q:=k.out.elim λ_ h=>SB h.2
theorem aJE(h:tG p s (λ_=>q)):q:=h.out.elim λ_ h=>h.2
theorem cKu{p:Unit->Prop}(h:rO p (λ_=>q)):q:=h.out
theorem RW{len:Nat}{l a m:Option Int}(h:yy A b len cap size l a m (λ_=>q)):q:=(qe h).elim λ_ h=>h.1
theorem RX{s:ByteArray}{l a:Option Int}(h:BF A s l a (λ_=>q)):q:=(uX h).elim λ_ h=>h.1
theorem bZD{o:BinOp}{a b:Value}{e:(Value->Prop)->Unit->Prop}(d:∀k,e k ()->∃v,k v/\∀c:Value->Prop,c v->e c ())(f:Jh A o a b (λ_=>q) (e (λ_=>q))):q:=(CX d f).elim λ_ h=>h.1
theorem bZC{o:BinOp}{a b:Value}(d:Jh A o a b (λ_=>q) (λ_=>tG p s (λ_=>q))):q:=
 bZD (e:=λk _=>tG p s k) (λk h=>by
  obtain⟨v,g,c⟩:=h.out;exact⟨v,c,λf h'=>⟨v,g,h'⟩⟩) d
theorem vl{j:Operand->SV}{L:Loc}{h:ab}{s:SV}{n:Option (List Value)}(k:iO A T p o j L h (λa b=>a=s/\b=n)):
 (mA o=true->n.isSome=true/\∃d,o.dst=some d/\kf L d=none)/\(mA o=false->n=none):=by
 obtain⟨S,X,⟨rfl,rfl⟩,i⟩:=qB k;clear k;have c:=i (λa b=>b=X) rfl;clear i;unfold iO at c;split at c;case h_3 e f=>
  refine⟨λ_=>?_,λg=>by simp[mA,f]at g⟩;split at c
  .exact c.elim
  split at c
  .exact c.elim
  rename_i d hd;split at c
  .rename_i hl;subst c;exact⟨rfl,d,hd,hl⟩
  exact c.elim
 case h_4 e x f=>
  refine⟨λ_=>?_,λg=>by simp[mA,f]at g⟩;split at c
  .exact c.elim
  rename_i d hd;split at c
  .split at c
   .rename_i hl;subst c;exact⟨rfl,d,hd,hl⟩
   exact c.elim
  exact c.elim
 case h_21=>exact c.elim
 all_goals
  rename_i f;refine⟨λg=>by simp[mA,f]at g,λ_=>?_⟩;clear f;repeat' split at c
  all_goals first
   |exact c.elim
   |exact Eq.symm c
   |exact Eq.symm (cXx c)
   |exact Eq.symm (SB c)
   |exact Eq.symm (aJE c)
   |exact Eq.symm (cKu c)
   |exact Eq.symm (bZC c)
   |exact Eq.symm (RW c)
   |exact Eq.symm (RX c)
variable {ro:Option Nat}{n:Nat}
variable {P:Program}{T:aL}{A:Ar}[bf A]
variable {ds:List Deferred}{h0:ab}{w0:World}{β:Nat->Nat}{h:ab}{a:Act}{w:World}
variable {ops:Array Oper}{X:Array Bool}{D:List oy}{listed pend known:List Nat}{envc iV:Env}{Lc La:Loc}
theorem tF{L:Loc}{n:Option (List Value)}{s:Nat}:kf (fq L d n) s=if d=some s/\n.isSome=true then n else kf L s:=by
 cases d with
 |none=>simp[fq]
 |some t=>
  cases n with
  |none=>simp[fq]
  |some c=>simp only[fq,kf];by_cases h:t=s<;>simp[h]
theorem oy.tg{x:oy}{env Z:Env}{L:Loc}{h:ab}(g:x.fact A T P ops env L h)(e:∀t∈x.o.looksAt ops,Z[t]? =env[t]?)
 (f:lP x.o=true->∀s c,kf L s=some c->kf L' s=some c) (i:lP x.o=true->h'=h):x.fact A T P ops Z L' h':=by
 unfold oy.fact at *;refine Zz (CE g e) (λq=>?_) id;refine mO q (wv e) (λhl y k s off j c a=>?_) (λb d hd=>?_) i
 .split at a
  .cases a
  rename_i b;rw[if_neg b];exact f hl s c a
 rw[if_pos b];rfl
theorem gS.look(B:gS A T P ops X D listed pend known envc Lc iV La h)(r:uH T ops=true){k:Nat}(d:ops[k]? =some o)(p:∀e∈ke o,In X e):
 ∀t∈o.looksAt ops,iV[t]? =envc[t]? :=λt f=>B.env t λx hx hd=>by
 obtain⟨b,hl⟩:=B.op x hx;obtain⟨-,g,i⟩:=nN r b;by_cases c:x.i=k
 .rw[c,d]at b;cases b;exact g hl t hd f
 rcases(i k o c d t hd).2 f with a| ⟨a,-⟩
 .exact B.apart x hx (p _ a)
 rw[hl]at a;cases a
theorem gS.sub(B:gS A T P ops X D listed pend known envc Lc iV La h){s:Nat}{c:List Value}(hl:kf La s=some c):kf Lc s=some c:=by
 rw[<-B.loc s (λx hx n hd=>?_)]
 .exact hl
 obtain⟨c',v⟩:=Option.isSome_iff_exists.1 n;rw[(B.box x hx s c' v hd).1]at hl;cases hl
theorem gS.fQI(B:gS A T P ops X D listed pend known envc Lc iV La h)(h:In X j):j∈listed:=(B.aKA j).2 (.inl h)
theorem gS.take(B:gS A T P ops X D listed pend known envc Lc iV La h)(hr:uH T ops=true)(O:ops[i]? =some o)(z:i∉listed)(C:kW T o=true)
 (hp:∀e∈ke o,e∈listed) {K:SV->Option (List Value)->Prop} {N:Prop}
 (hx:gd ops.toList envc o (λ_=>iO A T (λ_=>P) o (og envc) Lc h K) (λ_=>N)):
 ∃v n,(K v n\/(N/\v=.v undef/\n=none))/\gS A T P ops X (⟨i,o,v,n⟩::D) (i::listed) (i::pend) known (put envc o.dst v) (fq Lc o.dst n) iV La h:=by
 obtain⟨-,E,H⟩:=nN hr O;have F:∀x∈D,i≠x.i:=λx hx e=>z ((B.aKA i).2 (.inr ⟨x,hx,e.symm⟩));have M:∃v n,(K v n\/(N/\v=.v undef/\n=none))/\oy.fact A T P ops envc Lc h ⟨i,o,v,n⟩/\(∀d c,o.dst=some d->n=some c->kf Lc d=none):=by
  rcases xq hx with⟨g,u⟩|⟨g,u⟩
  .obtain⟨v,n,p,Y⟩:=qB g;have G:=Y (λa b=>a=v/\b=n) ⟨rfl,rfl⟩;refine⟨v,n,.inl p,(u _ _).2 ?_,λd c hd f=>?_⟩
   .exact mO G (λ_ _=>rfl) (λhl y _ s off _ c f=>by
     have:mA o=false:=by cases hq:o.op<;>simp[lP,mA,hq]at hl |-
     simp[this,f]) (λw d hd=>by simp[w,kf]) (λ_=>rfl)
   have w:=vl G;cases r:mA o with
   |true=>obtain⟨-,d',J,m⟩:=w.1 r;rw[hd]at J;cases J;exact m
   |false=>rw[w.2 r]at f;cases f
  exact⟨.v undef,none,.inr ⟨g,rfl,rfl⟩,(u _ _).2 ⟨rfl,rfl⟩,λd c _ f=>by cases f⟩
 obtain⟨v,n,hK,hf,S⟩:=M;have Q:∀x∈D,∀t,o.dst=some t->x.o.dst≠some t:=λx hx t k=>(H x.i x.o (F x hx) (B.op x hx).1 t k).1;have U:∀s c,kf Lc s=some c->kf (fq Lc o.dst n) s=some c:=λs c f=>by
  rw[tF];split
  .rename_i Z;obtain⟨c',vt⟩:=Option.isSome_iff_exists.1 Z.2;rw[S s c' Z.1 vt]at f;cases f
  exact f
 refine⟨v,n,hK,⟨B.size,λj=>?_,λx hx=>?_,B.down,B.known,λx hx=>?_,by rw[lZ];exact B.len,λt k=>?_,λx hx t hd l=>?_,λs R=>?_,λx hx s c m hd=>?_,
  λx hx=>?_,λx hx e L=>?_,λx hx y q I=>?_,λx hx=>?_⟩⟩
 .simp only[List.mem_cons,B.aKA j];constructor
  .rintro(rfl|g| ⟨x,hx,e⟩)
   .exact .inr ⟨_,.inl rfl,rfl⟩
   .exact .inl g
   exact .inr ⟨x,.inr hx,e⟩
  rintro(g| ⟨x,rfl|hx,e⟩)
  .exact .inr (.inl g)
  .exact .inl e.symm
  exact .inr (.inr ⟨x,hx,e⟩)
 .rcases List.mem_cons.1 hx with rfl|hx
  .exact λW=>z (B.fQI W)
  exact B.apart x hx
 .rcases List.mem_cons.1 hx with rfl|hx
  .exact List.mem_cons_self
  exact List.mem_cons_of_mem _ (B.pend x hx)
 .rw[kP (k ⟨i,o,v,n⟩ (by simp))];exact B.env t λx hx=>k x (by simp[hx])
 .rw[lZ]at l;rcases List.mem_cons.1 hx with rfl|hx
  .simp only at hd;rw[hd,wH l]
  rw[kP (λe=>Q x hx t e hd)];exact B.dst x hx t hd l
 .rw[tF,if_neg (λf=>R ⟨i,o,v,n⟩ (by simp) f.2 f.1)];exact B.loc s λx hx=>R x (by simp[hx])
 .rcases List.mem_cons.1 hx with rfl|hx
  .simp only at m hd;refine⟨?_,by rw[tF,if_pos ⟨hd,by simp[m]⟩];exact m⟩;rw[B.loc s (λy q _ V=>Q y q s hd V)];exact S s c hd m
  obtain⟨g,u⟩:=B.box x hx s c m hd;exact⟨g,U s c u⟩
 .rcases List.mem_cons.1 hx with rfl|hx
  .exact⟨O,C⟩
  exact B.op x hx
 .rcases List.mem_cons.1 hx with rfl|hx
  .exact List.mem_cons_of_mem _ (hp e L)
  exact List.mem_cons_of_mem _ (B.cQW x hx e L)
 .rcases List.mem_cons.1 hx with rfl|hx<;>rcases List.mem_cons.1 q with rfl|q
  .rfl
  .exact absurd I (F y q)
  .exact absurd I.symm (F x hx)
  exact B.uniq x hx y q I
 rcases List.mem_cons.1 hx with rfl|hx
 .exact oy.tg hf (λt k=>kP (λe=>E C t e k)) (λ_=>U) (λ_=>rfl)
 refine oy.tg (B.fact x hx) (λt k=>kP (λe=>?_)) (λ_=>U) (λ_=>rfl);rcases(H x.i x.o (F x hx) (B.op x hx).1 t e).2 k with p| ⟨p,-⟩
 .exact z (B.cQW x hx i p)
 rw[C]at p;cases p
theorem gS.catch(hT:fF P T)(B:gS A T P ops X D listed pend known envc Lc iV La h)(hr:uH T ops=true)(E:cZ ds h0 w0 β iV La h a w){x:oy}(hx:x∈D)
 (hp:∀e∈ke x.o,In X e)  {K:Act->World->Prop}
 (hK:∀F Y R S U,cZ ds h0 w0 F S U h Y R->gS A T P ops (X.setIfInBounds x.i true) (D.filter λy=>y.i !=x.i) listed pend known envc Lc S U h->K Y R):
 wpOpIn (FW ro) n P ops Q x.i K a w:=by
 obtain⟨r,aF⟩:=B.op x hx;have G:=B.look hr r hp;have m:x.i<X.size:=by rw[B.size];exact(Array.getElem?_eq_some_iff.1 r).1
 have V:∀y,(y∈D.filter λy=>y.i !=x.i)↔y∈D/\y.i≠x.i:=λy=>by simp
 have aj:∀F v,cZ ds h0 w0 F (put iV x.o.dst x.sv) (fq La x.o.dst x.nb) h (a.put x.o.dst v) w->True:=λ_ _ _=>trivial;have fin:gS A T P ops (X.setIfInBounds x.i true) (D.filter λy=>y.i !=x.i) listed pend known envc Lc (put iV x.o.dst x.sv) (fq La x.o.dst x.nb) h:=by
  obtain⟨-,-,KH⟩:=nN hr r;have J:∀y∈D,y.i≠x.i->∀t,x.o.dst=some t->y.o.dst≠some t:=λy f bF t O=>(KH y.i y.o (Ne.symm bF) (B.op y f).1 t O).1;refine⟨by simp[B.size],λj=>?_,λy f=>?_,λi o C W e he=>?_,λi hi=>?_,λy f=>B.pend y ((V y).1 f).1,by rw[lZ];exact B.len,λt O=>?_,
   λy f=>B.dst y ((V y).1 f).1,λs OZ=>?_,λy f s c q hd=>?_,λy f=>B.op y ((V y).1 f).1,λy f=>B.cQW y ((V y).1 f).1,
   λy f z hz=>B.uniq y ((V y).1 f).1 z ((V z).1 hz).1,λy f=>B.fact y ((V y).1 f).1⟩
  .rw[B.aKA j,In.set m];constructor
   .rintro(g| ⟨y,f,e⟩)
    .exact .inl (.inr g)
    by_cases p:y.i=x.i
    .exact .inl (.inl (by rw[<-p,e]))
    exact .inr ⟨y,(V y).2 ⟨f,p⟩,e⟩
   rintro((g|g)|⟨y,f,e⟩)
   .exact .inr ⟨x,hx,g⟩
   .exact .inl g
   exact .inr ⟨y,((V y).1 f).1,e⟩
  .rw[In.set m];obtain⟨g,L⟩:=(V y).1 f;rintro(e|e)
   .exact L e.symm
   exact B.apart y g e
  .rw[In.set m]at C |-;rcases C with e'|C
   .subst e';rw[r]at W;cases W;exact .inr (hp e he)
   exact .inr (B.down i o C W e he)
  .rw[In.set m];exact .inr (B.known i hi)
  .by_cases hd:x.o.dst=some t
   .by_cases l:t<envc.length
    .rw[hd,wH (by rw[B.len];exact l),B.dst x hx t hd l]
    have e1:(put iV x.o.dst x.sv).length<=t:=by rw[lZ,B.len];exact Nat.le_of_not_lt l
    rw[List.getElem?_eq_none e1,List.getElem?_eq_none (Nat.le_of_not_lt l)]
   rw[kP hd];refine B.env t λy f Z=>?_;by_cases p:y.i=x.i
   .rw[B.uniq y f x hx p]at Z;exact hd Z
   exact O y ((V y).2 ⟨f,p⟩) Z
  .rw[tF];split
   .rename_i k;obtain⟨c,u⟩:=Option.isSome_iff_exists.1 k.2;rw[(B.box x hx s c u k.1).2,u]
   rename_i k;refine B.loc s λy f q Z=>?_;by_cases p:y.i=x.i
   .rw[B.uniq y f x hx p]at Z q;exact k ⟨Z,q⟩
   exact OZ y ((V y).2 ⟨f,p⟩) q Z
  obtain⟨g,L⟩:=(V y).1 f;obtain⟨M,N⟩:=B.box y g s c q hd;refine⟨?_,N⟩;rw[tF,if_neg (λk=>J y g L s k.1 hd)];exact M
 have hf:=B.fact x hx;unfold oy.fact at hf;have H:=CE hf G;unfold wpOpIn;simp only[r];rcases sX E H with⟨hw,hl⟩|⟨hw,hl⟩
 .rw[if_pos hw];have WY:iO A T (λ_=>P) x.o (og iV) La h (λa b=>a=x.sv/\b=x.nb):=by
   refine mO hl (wv G) (λI y f s off FR c k=>?_) (λhb d hd=>?_) (λ_=>rfl)
   .have:mA x.o=false:=by cases hq:x.o.op<;>simp[lP,mA,hq]at I |-
    rw[this]at k;simp only[Bool.false_eq_true,if_false]at k;have FT:og iV y=.loc s off:=by rw[wv G y f];exact FR
    obtain⟨⟨c',u⟩,-⟩:=E.pN FT;have:=B.sub u;rw[k]at this;cases this;exact u
   obtain⟨g,d',ag,-⟩:=(vl hl).1 hb;obtain⟨c,k⟩:=Option.isSome_iff_exists.1 g;exact(B.box x hx d c k hd).1
  obtain⟨v,R,F,M,N⟩:=yK hT E WY;refine rW M ?_;exact hK _ _ _ _ _ N fin
 rw[if_neg (by simp[hw])];obtain⟨e1,e2⟩:=hl;have nY:fq La x.o.dst x.nb=La:=by rw[e2];unfold fq;cases x.o.dst<;>rfl
 rw[nY,e1]at fin;refine⟨λ_ _=>trivial,?_⟩;exact hK _ _ _ _ _ (E.put (x:=.v undef) (v:=undef) rfl) fin
variable {ro:Option Nat}{n:Nat}
variable {P:Program}{T:aL}{A:Ar}[bf A]
variable {ds:List Deferred}{h0:ab}{w0:World}{β:Nat->Nat}{h:ab}{a:Act}{w:World}
variable {ops:Array Oper}{X:Array Bool}{D:List oy}{listed pend known:List Nat}{envc iV:Env}{Lc La:Loc}
theorem Dq.mono{h:ab}{y:Addr}{k a:ab->Prop}(x:Dq h y cs k)(j:∀h',k h'->a h'):Dq h y cs a:=by obtain⟨c,e,fr,g,b,d,f,i⟩:=x.out;exact⟨c,e,fr,g,b,d,f,λh' e=>j _ (i h' e)⟩
theorem uB.mono{h:ab}{y:Option Addr}{k d:ab->Prop}(x:uB h y cs k)(c:∀h',k h'->d h'):uB h y cs d:=by
 rcases x with⟨a,b⟩|⟨q,a,b⟩
 .exact .inl ⟨a,c _ b⟩
 exact .inr ⟨q,a,b.mono c⟩
theorem qX.mono{h:ab}{len n e:Nat}{new:List Value}{k f:Value->ab->Prop}(x:qX h b len cap n size bytes e new k)(d:∀v h',k v h'->f v h'):
 qX h b len cap n size bytes e new f:=
 ⟨x.one,λa=>(x.fits a).mono (λ_ q=>d _ _ q),λa=>by
  obtain⟨l,m,T,o,p⟩:=x.aZv a;exact⟨l,m,T,o,λs c h' r e1 g i j=>d _ _ (p s c h' r e1 g i j)⟩⟩
theorem od.mono{h:ab}{e:Nat}{l c:Int}{k a:Value->ab->Prop}(x:od h e l c bytes z k)(d:∀v h',k v h'->a v h'):od h e l c bytes z a:=
 ⟨x.len,x.room,λn h' e1 b=>d _ _ (x.out n h' e1 b)⟩
theorem fS.mono{h:ab}{len:Nat}{x:Option Addr}{n e:Nat}{k a:Value->ab->Prop}(q:fS h b len cap x n size bytes e k)(f:∀v h',k v h'->a v h'):
 fS h b len cap x n size bytes e a:=by
 obtain⟨new,c,d⟩:=q.out;exact⟨new,c,d.mono f⟩
theorem uQ.mono{h:ab}{len:Nat}{x:Option Addr}{n:Nat}{k a:Value->ab->Prop}(q:uQ h b len x n size k)(f:∀v h',k v h'->a v h'):
 uQ h b len x n size a:=by
 obtain⟨cs,c,d,e⟩:=q.out;exact⟨cs,c,d,e.mono λh'=>f _ h'⟩
theorem vL.mono{h:ab}{len:Nat}{k a:ab->Prop}(q:vL h b len z k)(c:∀h',k h'->a h'):vL h b len z a:=
 ⟨q.one,q.out.mono c⟩
theorem ef.mono{h:ab}{k a:Value->ab->Prop}(q:ef p s h k)(e:∀v h',k v h'->a v h'):ef p s h a:=
 ⟨λw f=>by
  obtain⟨v,g,h',b,c,d⟩:=q.out w f;exact⟨v,g,h',b,e _ _ c,d⟩⟩
theorem rO.mono{p k a:Unit->Prop}(q:rO p k)(h:k ()->a ()):rO p a:=⟨q.h,h q.out⟩
theorem aQk.mono{l:Nat}{h:ab}{a:Value->ab->Prop}(x:aQk p l args h R)(r:∀v h',R v h'->a v h'):aQk p l args h a:=
 ⟨λw i=>by
  obtain⟨fn,t,A,b,f,g⟩:=x.out w i;exact⟨fn,t,A,b,f,λn=>(g n).mono λe j ⟨v,h',e1,c,d⟩=>⟨v,h',e1,r _ _ c,d⟩⟩⟩
theorem aKU{i:Operand->SV}{L:Loc}{h:ab}(a:hx A T p o i L h k)(F:Loc->ab->Prop)
 (j:eX o=true->F L h) (N:eX o=false->fB o=false->∀h',F L h') (S:fB o=true->∀L' h',F L' h'):
 hx A T p o i L h (λx L' h'=>k x L' h'/\F L' h'):=by
 unfold hx at a |-;split at a
 case h_1 x d=>
  try simp only[d]
  exact⟨a,j (by simp[eX,d])⟩
 case h_2 t q x d=>
  have Z:=S (by simp[fB,d]);try simp only[d]
  repeat' split at a
  all_goals first
   |exact a.elim
   |exact⟨a,Z _ _⟩
   |exact Dq.mono a (λh' q=>⟨q,Z _ _⟩)
 case h_3 e d=>
  have C:=N (by simp[eX,d]) (by simp[fB,d]);try simp only[d]
  split at a
  .exact a.elim
  exact λn h' e1 g=>⟨a n h' e1 g,C _⟩
 case h_4 e x d=>
  have C:=N (by simp[eX,d]) (by simp[fB,d]);try simp only[d]
  split at a
  .exact λn h' e1 g=>⟨a n h' e1 g,C _⟩
  exact a.elim
 case h_5 t len parts d=>
  have C:=N (by simp[eX,d]) (by simp[fB,d]);try simp only[d]
  repeat' split at a
  all_goals first
   |exact a.elim
   |exact λn h' e1 g=>⟨a n h' e1 g,C _⟩
 case h_6 t l c d=>
  have C:=N (by simp[eX,d]) (by simp[fB,d]);try simp only[d]
  repeat' split at a
  all_goals first
   |exact a.elim
   |exact od.mono a (λv h' q=>⟨q,C _⟩)
 case h_7 t r d=>
  have C:=N (by simp[eX,d]) (by simp[fB,d]);try simp only[d]
  split at a
  .exact λn h' e1 g=>⟨a n h' e1 g,C _⟩
  exact a.elim
 case h_8 f args argTypes d=>
  have C:=N (by simp[eX,d]) (by simp[fB,d]);try simp only[d]
  repeat' split at a
  all_goals first
   |exact a.elim
   |exact Qj.mono a (λv h' q=>⟨q,C _⟩) (λ_ _ q=>q)
   |exact Dr.mono a (λv h' q=>⟨q,C _⟩)
   |exact aQk.mono a (λv h' q=>⟨q,C _⟩)
   |exact ef.mono a (λv h' q=>⟨q,C _⟩)
 case h_9 b args argTypes d=>
  have C:=N (by simp[eX,d]) (by simp[fB,d]);try simp only[d]
  repeat' split at a
  all_goals first
   |exact a.elim
   |exact fS.mono a (λv h' q=>⟨q,C _⟩)
   |exact qX.mono a (λv h' q=>⟨q,C _⟩)
   |exact rO.mono a (λm=>⟨qX.mono m.out λv h' q=>⟨q,C _⟩⟩)
   |exact uQ.mono a (λv h' q=>⟨q,C _⟩)
   |exact vL.mono a (λh' q=>⟨q,C _⟩)
   |exact ef.mono a (λv h' q=>⟨q,C _⟩)
 case h_19 x d=>
  try simp only[d]
  exact a
 case h_20=>exact a.elim
 all_goals
  rename_i d;have C:=N (by simp[eX,d]) (by simp[fB,d]);try simp only[d]
  repeat' split at a
  all_goals first
   |exact a.elim
   |exact ef.mono a (λv h' q=>⟨q,C _⟩)
theorem aKT{d:Operand->SV}{L:Loc}{h:ab}(e:hx A T p o d L h k):
 hx A T p o d L h (λx L' h'=>k x L' h'/\(fB o=false->L'=L)/\(eX o=true->h'=h)):=
 aKU e (λL' h'=>(fB o=false->L'=L)/\(eX o=true->h'=h)) (λ_=>⟨λ_=>rfl,λ_=>rfl⟩) (λb a h'=>⟨λ_=>rfl,λc=>by rw[b]at c;cases c⟩)
  (λb L' h'=>⟨λa=>(by rw[b]at a;cases a),λa=>(by
   cases q:o.op<;>simp[eX,fB,q]at b a)⟩)
theorem yE{T:aL}{a:Bool}{b:List Oper}{h:ab}{L:Loc}{env:Env}:∀ {l:List Nat} {k:Unit->Prop},pins T a b h L env l k->
 (∀j∈l,∃o,b[j]? =some o/\gd b env o (λ_=>En T a h L env o (λ_=>True)) (λ_=>True))/\k ()
 | [],k,p=>⟨λ_ h=>(by cases h),p⟩
 |i::r,k,p=>by
  unfold pins at p;split at p
  .rename_i o z;have Y:∀ {R:Unit->Prop},En T a h L env o R->En T a h L env o (λ_=>True)/\R ():=λ{R} q=>by
    unfold En at q |-;split at q
    .rename_i t y D;try simp only[D]at q |-
     split at q
     .rename_i x hx;try simp only[hx]
      obtain⟨cs,g,m⟩:=q.out;obtain⟨v,n,d⟩:=kO m;exact⟨⟨cs,g,nE n λC e=>by subst e;exact⟨d.h,trivial⟩⟩,d.out⟩
     .rename_i s off hx;try simp only[hx]
      split at q
      .exact⟨trivial,q⟩
      split at q
      .rename_i c B;try simp only[B]
       split at q
       .rename_i cs A;try simp only[A]
        obtain⟨v,n,d⟩:=kO q;exact⟨nE n λC e=>by subst e;exact⟨d.h,trivial⟩,d.out⟩
       exact q.elim
      exact q.elim
     exact q.elim
    exact⟨trivial,q⟩
   rcases xq p with⟨g,m⟩|⟨g,m⟩
   .obtain⟨n,d⟩:=Y g;obtain⟨u,w⟩:=yE d;refine⟨λj f=>?_,w⟩;rcases List.mem_cons.1 f with rfl|f
    .exact⟨o,z,(m _ _).2 n⟩
    exact u j f
   obtain⟨u,w⟩:=yE g;refine⟨λj f=>?_,w⟩;rcases List.mem_cons.1 f with rfl|f
   .exact⟨o,z,(m _ _).2 trivial⟩
   exact u j f
  exact p.elim
theorem gS.ad(hT:fF P T)(B:gS A T P ops X D listed pend known envc Lc iV La h)(hr:uH T ops=true)(KG:Sn T ops=true)(hs:cZ ds h0 w0 β iV La h a w){k:Nat}{f:Oper}
 (hk:ops[k]? =some f) (Pc:k∉listed) (aZ:kW T f=false) (hp:∀e∈ke f,In X e) {pn:List Nat} {R:Env->Loc->ab->Prop}
 (M:eX f=true\/∀j∈pend,j∈jQ ops ops.size (k::known)\/j∈pn\/(∀oj,ops[j]? =some oj->lP oj=false))
 (hx:gd ops.toList envc f (λ_=>hx A T (λ_=>P) f (og envc) Lc h (λx L' h'=>pins T (fB f) ops.toList h' L' (put envc f.dst x) pn (λ_=>R (put envc f.dst x) L' h')))
  (λ_=>R (put envc f.dst (.v undef)) Lc h))  {K:Act->World->Prop} (gF:mI T ds h0 w0 Q)
 (hK:∀a' w' Ab EO G N h',R Ab G h'->cZ ds h0 w0 β EO N h' a' w'->
  gS A T P ops (X.setIfInBounds k true) D (k::listed) (pend.filter λj=> !(jQ ops ops.size (k::known)).contains j) (jQ ops ops.size (k::known)) Ab G EO N h'->K a' w'):
 wpOpIn (FW ro) n P ops Q k K a w:=by
 obtain⟨-,-,KH⟩:=nN hr hk;have Cp:=B.look hr hk hp;have Z:k<X.size:=by rw[B.size];exact(Array.getElem?_eq_some_iff.1 hk).1
 have bF:∀x∈D,k≠x.i:=λx hx e=>Pc ((B.aKA k).2 (.inr ⟨x,hx,e.symm⟩));have V:∀x∈D,∀t,f.dst=some t->x.o.dst≠some t:=λx hx t q=>(KH x.i x.o (bF x hx) (B.op x hx).1 t q).1;have ar:∀x∈D,∀t∈x.o.looksAt ops,f.dst≠some t:=λx hx t q hd=>by
  rcases(KH x.i x.o (bF x hx) (B.op x hx).1 t hd).2 q with h3| ⟨-,h3⟩
  .exact Pc (B.cQW x hx k h3)
  exact B.apart x hx (hp _ h3)
 have S:∀i o,In (X.setIfInBounds k true) i->ops[i]? =some o->∀e∈ke o,In (X.setIfInBounds k true) e:=λi o I W e he=>by
  rw[In.set Z]at I |-;rcases I with e'|I
  .subst e';rw[hk]at W;cases W;exact .inr (hp e he)
  exact .inr (B.down i o I W e he)
 have F:∀i∈jQ ops ops.size (k::known),In (X.setIfInBounds k true) i:=CT S _ _ λi hi=>by
  rw[In.set Z];rcases List.mem_cons.1 hi with rfl|hi
  .exact .inl rfl
  exact .inr (B.known i hi)
 have E:∀x∈D,¬In (X.setIfInBounds k true) x.i:=λx hx I=>by
  rw[In.set Z]at I;rcases I with e|e
  .exact bF x hx e
  exact B.apart x hx e
 have fin:∀(p:SV) (G N:Loc) (h':ab),dKn Lc La G N->(∀x∈D,x.fact A T P ops (put envc f.dst p) G h')->
  gS A T P ops (X.setIfInBounds k true) D (k::listed) (pend.filter λj=> !(jQ ops ops.size (k::known)).contains j) (jQ ops ops.size (k::known)) (put envc f.dst p) G (put iV f.dst p) N h':=λp G N h' hL hf=>by
  refine⟨by simp[B.size],λj=>?_,E,S,F,λx hx=>?_,by rw[lZ,lZ];exact B.len,λt q=>?_,λx hx t hd l=>?_,λs OZ=>?_,λx hx s c hn hd=>?_,B.op,
   λx hx e he=>List.mem_cons_of_mem _ (B.cQW x hx e he),B.uniq,hf⟩
  .rw[List.mem_cons,B.aKA j,In.set Z];constructor
   .rintro(rfl|g|g)
    .exact .inl (.inl rfl)
    .exact .inl (.inr g)
    exact .inr g
   rintro((rfl|g) |g)
   .exact .inl rfl
   .exact .inr (.inl g)
   exact .inr (.inr g)
  .simp only[List.mem_filter,Bool.not_eq_true',List.contains_eq_mem,decide_eq_false_iff_not];exact⟨B.pend x hx,λC=>E x hx (F _ C)⟩
  .by_cases hd:f.dst=some t
   .by_cases l:t<envc.length
    .rw[hd,wH (by rw[B.len];exact l),wH l]
    have e1:(put iV f.dst p).length<=t:=by rw[lZ,B.len];exact Nat.le_of_not_lt l
    have r:(put envc f.dst p).length<=t:=by rw[lZ];exact Nat.le_of_not_lt l
    rw[List.getElem?_eq_none e1,List.getElem?_eq_none r]
   rw[kP hd,kP hd];exact B.env t q
  .rw[lZ]at l;rw[kP (λe=>V x hx t e hd)];exact B.dst x hx t hd l
  .rcases hL with⟨e1,r⟩|⟨s0,c,q1,q2,g1,u,e1,r⟩
   .rw[e1,r];exact B.loc s OZ
   rw[e1,r,oG g1,oG u,B.loc s OZ]
  obtain⟨g,O⟩:=B.box x hx s c hn hd;rcases hL with⟨e1,r⟩|⟨s0,c',q1,q2,g1,u,e1,r⟩
  .rw[e1,r];exact⟨g,O⟩
  have U:s0≠s:=λe=>by rw[e,g]at u;cases u
  rw[e1,r,oG g1,oG u,if_neg U,if_neg U];exact⟨g,O⟩
 unfold wpOpIn;simp only[hk];rcases xq hx with⟨g,O⟩|⟨g,O⟩
 .have L:Region.wanted f (yielded ops a.tmps)=true:=by
   have hg:=CE ((O (λ_=>True) (λ_=>False)).2 trivial) Cp;rcases sX hs hg with⟨L,-⟩|⟨-,hf⟩
   .exact L
   exact hf.elim
  rw[if_pos L];have h3:=TK (aKT g) (wv Cp) (λt q=>by
   have:=B.env t (λx hx=>Ox KG (B.op x hx).1 q);simp only[og,List.getD_eq_getElem?_getD,this])
  refine Kz hT hs (λs c C=>B.sub C) h3 gF λp v G L' h' w' ⟨g1,u,g3⟩ OZ hL=>?_;obtain⟨aH,hR⟩:=yE g1;refine hK _ _ _ _ _ _ _ hR OZ (fin p G L' h' hL λx hx=>?_);have WO:∀t∈x.o.looksAt ops,(put envc f.dst p)[t]? =envc[t]? :=λt q=>kP (ar x hx t q);have ED:=B.fact x hx;cases H:lP x.o with
  |false=>exact oy.tg ED WO (λe=>by rw[H]at e;cases e) (λe=>by rw[H]at e;cases e)
  |true=>
   rcases M with M|M
   .have iq:fB f=false:=by cases J:f.op<;>simp[eX,fB,J]at M |-
    exact oy.tg ED WO (λ_ s c C=>by rw[u iq];exact C) (λ_=>g3 M)
   rcases M x.i (B.pend x hx)with h5|h5|h5
   .exact absurd (F _ h5) (E x hx)
   .obtain⟨o',ur,UD⟩:=aH x.i h5;have aj:ops[x.i]? =some o':=by simpa using ur
    rw[(B.op x hx).1]at aj;cases aj;have aW:gd ops.toList (put envc f.dst p) x.o (λ_=>iO A T (λ_=>P) x.o (og envc) (if mA x.o then []else Lc) h (λa b=>a=x.sv/\b=x.nb)) (λ_=>x.sv=.v undef/\x.nb=none):=
     CE (by unfold oy.fact at ED;exact ED) WO
    unfold oy.fact;rcases xq aW with⟨f1,f2⟩|⟨f1,f2⟩
    .refine(f2 _ _).2 ?_;have m:=(f2 _ _).1 UD;have ag:mA x.o=false:=by cases J:x.o.op<;>simp[lP,mA,J]at H |-
     rw[ag]at f1 |-;simp only[Bool.false_eq_true,if_false]at f1 |-;have dp:x.nb=none:=(vl f1).2 ag;cases xd:x.o.op with
     |load t y=>
      have au:y∈x.o.op.operands.toList:=by rw[xd];simp[Op.operands]
      have aF:og (put envc f.dst p) y=og envc y:=wv WO y au;unfold iO at f1 |-;unfold En at m;simp only[xd]at f1 m |-;rw[aF]at m |-;have Y:∀v:Value,(∃d,x.o.dst=some d/\(put envc f.dst p)[d]? =some (.v v))->(SV.v v=x.sv/\(none:Option (List Value))=x.nb):=λv ⟨d,hd,hv⟩=>by
       have l:d<envc.length:=by have:=(List.getElem?_eq_some_iff.1 hv).1;rwa[lZ]at this
       have:=B.dst x hx d hd l;rw[kP (λe=>V x hx d e hd),this]at hv;exact⟨(Option.some.inj hv).symm,dp.symm⟩
      split at f1
      .exact f1.elim
      split at f1
      .rename_i s off FR;simp only[FR]at m;split at m
       .rename_i iq;have aN:fB f=false:=by simpa using iq
        rw[u aN];exact f1
       split at f1
       .rename_i c C;split at m
        .rename_i c' vt;try simp only[vt]
         split at m
         .rename_i cs ao;exact nE m λv J=>Y v J.h
         exact m.elim
        exact m.elim
       exact f1.elim
      .rename_i z FR;simp only[FR]at m;obtain⟨cs,q1,q2⟩:=m.out;exact⟨cs,q1,nE q2 λv J=>Y v J.h⟩
      exact f1.elim
     |_=>simp[lP,xd]at H
    exact(f2 _ _).2 f1
   have:=h5 x.o (B.op x hx).1;rw[H]at this;cases this
 have L:Region.wanted f (yielded ops a.tmps)=false:=by
  have hg:=CE ((O (λ_=>False) (λ_=>True)).2 trivial) Cp;rcases sX hs hg with⟨-,hf⟩|⟨L,-⟩
  .exact hf.elim
  exact L
 rw[if_neg (by simp[L])];refine⟨λ_ _=>trivial,?_⟩;refine hK _ _ _ _ _ _ _ g (hs.put (x:=.v undef) (v:=undef) rfl) (fin (.v undef) Lc La h (.inl ⟨rfl,rfl⟩) λx hx=>?_);exact oy.tg (B.fact x hx) (λt q=>kP (ar x hx t q)) (λ_ _ _ C=>C) (λ_=>rfl)
variable {ro:Option Nat}{n:Nat}
variable {P:Program}{T:aL}{A:Ar}[bf A]
variable {ds:List Deferred}{h0:ab}{w0:World}{β:Nat->Nat}{h:ab}{a:Act}{w:World}
variable {ops:Array Oper}{X:Array Bool}{D:List oy}{listed pend known:List Nat}{envc iV:Env}{Lc La:Loc}
theorem cZ.fQw(b:cZ ds h0 w0 β iV La h a w)(hl:∀s,kf La s=kf Lc s):cZ ds h0 w0 β iV Lc h a w:=
 ⟨b.after,λs c f=>b.loc s c (by rw[hl];exact f),λs g c c' d e=>b.inj s g c c' (by rw[hl];exact d) (by rw[hl];exact e),b.size,λt x hx=>by
  have:=b.slot t x hx;cases x with
  |v y=>exact this
  |u=>trivial
  |loc s off=>exact⟨by rw[<-hl];exact this.1,this.2⟩,b.defers⟩
def bJm(X:Array Bool):Nat:=X.toList.countP (!·)
theorem Ma(a:i<X.size)(n:¬In X i):bJm (X.setIfInBounds i true)+1=bJm X:=by
 unfold bJm;have hl:i<X.toList.length:=by simpa using a
 have hx:X.toList[i]=false:=by unfold In at n;rw[Array.getD_eq_getD_getElem?,Array.getElem?_eq_getElem a]at n;simpa using n
 rw[Array.toList_setIfInBounds];have k:0<X.toList.countP (!·):=List.countP_pos_iff.2 ⟨X.toList[i],List.getElem_mem hl,by simp[hx]⟩;rw[List.countP_set (h:=hl)];simp[hx];simp only[Array.countP_toList]at k;omega
theorem DM(hX:X.size=ops.size)(r:uH T ops=true)(b:Region.ready .any ops X=[]):∀j,j<ops.size->In X j:=by
 intro j;induction j using Nat.strongRecOn with
 |_ j i=>
  intro h;by_cases C:In X j
  .exact C
  exfalso;have:j∈Region.ready .any ops X:=by rw[yD hX];refine⟨C,ops[j],by simp[h],λe x=>?_⟩;have a:=(nN r (show ops[j]? =some ops[j]by simp[h])).1 e x;exact i e a (by omega)
  rw[b]at this;cases this
theorem aKo{p:uC}(h:AO T ops p true listed pend known=true):∃k∈rq p,k∉listed/\k<ops.size:=by
 induction p with
 |done=>simp[AO]at h
 |aa i r _=>simp[AO]at h
 |ad i n r _=>
  simp only[AO,Bool.true_or,Bool.and_eq_true]at h;refine⟨i,by simp[rq],by simpa using h.1.1.2,?_⟩;have a:=h.1.2;split at a
  .rename_i o c;exact(Array.getElem?_eq_some_iff.1 c).1
  cases a
 |fork l r f _=>simp only[AO,Bool.true_or,Bool.and_eq_true,true_and]at h;obtain⟨k,b,a⟩:=f h.1;exact⟨k,by simp[rq,b],a⟩
theorem Td{p:uC}(o:AO T ops p true listed pend known=true)(hx:jc A T (λ_=>P) ops.toList K p envc Lc h){k:Nat}(a:k∈rq p):
 ∃n r,AO T ops (.ad k n r) true listed pend known=true/\jc A T (λ_=>P) ops.toList K (.ad k n r) envc Lc h:=by
 induction p with
 |done=>simp[rq]at a
 |aa i r _=>simp[rq]at a
 |ad i n r _=>simp[rq]at a;subst a;exact⟨n,r,o,hx⟩
 |fork l r f Z=>
  simp only[AO,Bool.true_or,Bool.and_eq_true,true_and]at o;simp only[rq,List.mem_append]at a;rcases a with a|a
  .exact f o.1 hx.1 a
  exact Z o.2 hx.2 a
theorem HZ{p:uC}(h:AO T ops p false listed pend known=true)(a:(∃i n r,p=.ad i n r)\/∃l r,p=.fork l r):
 AO T ops p true listed pend known=true/\Gq ops p listed=true:=by
 rcases a with⟨i,n,r,rfl⟩|⟨l,r,rfl⟩
 .simp only[AO,Bool.false_or,Bool.true_or,Bool.and_eq_true]at h |-;simp_all
 simp only[AO,Bool.false_or,Bool.true_or,Bool.and_eq_true]at h |-;simp_all
theorem advance(g:uH T ops=true):∀(p:uC) {D:List oy} {listed pend:List Nat} {envc:Env} {Lc:Loc},gS A T P ops X D listed pend known envc Lc iV La h->
 jc A T (λ_=>P) ops.toList K p envc Lc h->AO T ops p false listed pend known=true->
 ∃j t M e G d,gS A T P ops X j t M known e G iV La h/\jc A T (λ_=>P) ops.toList K d e G h/\AO T ops d false t M known=true/\
  (d=.done\/(∃i n r,d=.ad i n r)\/∃l r,d=.fork l r)
 | .done,D,listed,pend,envc,Lc,B,hx,a=>⟨_,_,_,_,_,_,B,hx,a,.inl rfl⟩
 | .ad i n r,D,listed,pend,envc,Lc,B,hx,a=>⟨_,_,_,_,_,_,B,hx,a,.inr (.inl ⟨_,_,_,rfl⟩)⟩
 | .fork l r,D,listed,pend,envc,Lc,B,hx,a=>⟨_,_,_,_,_,_,B,hx,a,.inr (.inr ⟨_,_,rfl⟩)⟩
 | .aa i r,D,listed,pend,envc,Lc,B,hx,a=>by
  simp only[AO,Bool.not_false,Bool.true_and,Bool.and_eq_true]at a;obtain⟨⟨m,b⟩,q⟩:=a;split at b
  .rename_i o f;simp only[Bool.and_eq_true,List.all_eq_true,List.contains_eq_mem,decide_eq_true_eq]at b;unfold jc at hx;simp only[Array.getElem?_toList,f]at hx;obtain⟨v,u,c,s⟩:=B.take g f (by simpa using m) b.1 b.2 hx;refine advance g r s ?_ q;rcases c with c| ⟨c,e1,k⟩
   .exact c
   rw[e1,k];have:fq Lc o.dst none=Lc:=by unfold fq;cases o.dst<;>rfl
   rw[this];exact c
  cases b
theorem Kn(hT:fF P T)(H:uH T ops=true)(KG:Sn T ops=true)
 (gF:mI T ds h0 w0 Q) (hK:∀bZ L' h' nB J N,K bZ L' h'->cZ ds h0 w0 nB bZ L' h' J N->Q .normal J N):
 ∀(f:Nat) {X:Array Bool} {D:List oy} {listed pend known:List Nat} {envc iV:Env} {Lc La:Loc} {h:ab} {β:Nat->Nat} {a:Act} {w:World} {p:uC},
  bJm X<=f->gS A T P ops X D listed pend known envc Lc iV La h->cZ ds h0 w0 β iV La h a w->jc A T (λ_=>P) ops.toList K p envc Lc h->AO T ops p false listed pend known=true->
  wpAnyIn (FW ro) n P .any ops Q f X a w:=by
 intro f;have done:∀ {X:Array Bool} {D:List oy} {listed pend known:List Nat} {envc iV:Env} {Lc La:Loc} {h:ab} {β:Nat->Nat} {a:Act} {w:World} {p:uC},
  gS A T P ops X D listed pend known envc Lc iV La h->cZ ds h0 w0 β iV La h a w->jc A T (λ_=>P) ops.toList K p envc Lc h->AO T ops p false listed pend known=true->
  Region.ready .any ops X=[]->Q .normal a w:=λ{X D listed pend known envc iV Lc La h β a w p} B i hx v u=>by
  have z:=DM B.size H u;obtain⟨I,U,MA,Ab,Y,p',c,R,y,G⟩:=advance H p B hx v;have L:I=[]:=by
   cases I with
   |nil=>rfl
   |cons x r=>exfalso;exact c.apart x (by simp) (z x.i (Array.getElem?_eq_some_iff.1 (c.op x (by simp)).1).1)
  subst L;have ov:∀k,k∉U->k<ops.size->False:=λk b d=>b (c.fQI (z k d));rcases G with rfl|G
  .unfold jc at R;refine hK _ _ _ β _ _ R ?_;have e1:iV=Ab:=List.ext_getElem? λt=>c.env t (λx hx=>by cases hx);have e2:∀s,kf La s=kf Y s:=λs=>c.loc s (λx hx=>by cases hx);rw[e1]at i;exact i.fQw e2
  obtain⟨b,-⟩:=HZ y G;obtain⟨k,-,d,g⟩:=aKo b;exact(ov k d g).elim
 induction f with
 |zero=>
  intro X D listed pend known envc iV Lc La h β a w p hf B i hx v;have u:Region.ready .any ops X=[]:=by
   apply List.eq_nil_iff_forall_not_mem.2;intro j M;rw[yD B.size]at M;obtain⟨b,o,d,-⟩:=M;have V:j<X.size:=by rw[B.size];exact(Array.getElem?_eq_some_iff.1 d).1
   have:=Ma V b;omega
  exact⟨u,done B i hx v u⟩
 |succ f ih=>
  intro X D listed pend known envc iV Lc La h β a w p hf B i hx v;refine⟨λu=>done B i hx v u,λk hk=>?_⟩;obtain⟨I,U,MA,Ab,Y,p',c,R,y,G⟩:=advance H p B hx v;have EC:=hk;rw[yD B.size]at EC;obtain⟨FY,ok,F,W⟩:=EC;have l:k<X.size:=by rw[B.size];exact(Array.getElem?_eq_some_iff.1 F).1
  have ao:=Ma l FY;by_cases L:∃x∈I,x.i=k
  .obtain⟨x,C,rfl⟩:=L;have:ops[x.i]? =some x.o:=(c.op x C).1;rw[F]at this;cases this;exact c.catch hT H i C W λnB J N EO Xl b d=>ih (by omega) d b R y
  have Z:k∉U:=λhm=>by
   rcases(c.aKA k).1 hm with b|b
   .exact FY b
   exact L b
  rcases G with rfl|G
  .simp only[AO,Bool.not_false,Bool.true_and,List.all_eq_true,List.mem_range,List.contains_eq_mem,decide_eq_true_eq]at y;exact absurd (y k (by rw[<-B.size];exact l)) Z
  obtain⟨b,d⟩:=HZ y G;have O:k∈rq p':=by
   unfold Gq at d;rw[List.all_eq_true]at d;have:=d k (by simp only[List.mem_range];rw[<-B.size];exact l);simp only[F,Bool.or_eq_true,List.contains_eq_mem,decide_eq_true_eq,Bool.not_eq_true',List.all_eq_false]at this;rcases this with (g|g)|⟨e,g,E⟩
   .exact absurd g Z
   .exact g
   exact absurd (c.fQI (W e g)) (by simpa using E)
  obtain⟨pn,r,g,E⟩:=Td b R O;unfold jc at E;simp only[Array.getElem?_toList,F]at E;simp only[AO,Bool.true_or,Bool.true_and,Bool.and_eq_true,F]at g;obtain⟨⟨-,h5,m⟩,h7⟩:=g;refine c.ad hT H KG i F Z (by simpa using h5) W ?_ E gF (λJ N ag aj ar au h' hR DF S=>ih (by omega) S DF hR h7);simp only[Bool.or_eq_true,List.all_eq_true,List.contains_eq_mem,decide_eq_true_eq]at m;rcases m with m|m
  .exact .inl m
  refine .inr λj M=>?_;rcases m j M with (q|q) |q
  .exact .inl q
  .exact .inr (.inl q)
  refine .inr (.inr λoj Uh=>?_);simp only[Uh,Bool.not_eq_true']at q;exact q
variable {ro:Option Nat}{n:Nat}
variable {P:Program}{T:aL}{A:Ar}[bf A]
variable {ds:List Deferred}{h0:ab}{w0:World}{β:Nat->Nat}{h:ab}{a:Act}{w:World}{env:Env}{L:Loc}
def eI(T:aL):Code->Bool
 | .region id ops true=>(uH T ops&&Sn T ops)&&AO T ops (T.au id) false [] [] []
 | .seq a b| .cond _ a b=>eI T a&&eI T b
 | .block _ c| .loop c| .scope c=>eI T c
 | .rangeFunc _ _ a c=>eI T a&&eI T c
 |_=>true
def Lv:Ex->Exit
 | .normal=>.normal
 | .exit id=>.exit id
 | .ret=>.ret
theorem NZ(n:Nat):bJm (Array.replicate n false)<=n:=by unfold bJm;have:=List.countP_le_length (p:=λb:Bool=> !b) (l:=(Array.replicate n false).toList);simpa using this
theorem Fc:∀ {e e1:Env},wk e e1->e.length=e1.length
 | [],[],_=>rfl
 |x::r,y::q,hw=>by
  unfold wk at hw;simp only[List.length_cons];cases y with
  |u=>rw[Fc hw]
  |v b=>rw[Fc hw.2]
  |loc s o=>rw[Fc hw.2]
theorem Fe:∀ {e e1:Env},Sx.wk e e1->∀(t:Nat) (x:SV),e1[t]? =some x->x=SV.u\/e[t]? =some x
 | [],[],_,t,x,hx=>by simp at hx
 |y::r,z::q,hw,t,x,hx=>by
  unfold wk at hw;cases t with
  |zero=>
   simp at hx |-;subst hx;cases z with
   |u=>exact .inl rfl
   |v b=>exact .inr hw.1
   |loc s o=>exact .inr hw.1
  |succ t=>
   simp at hx |-;cases z with
   |u=>exact Fe hw t x hx
   |v b=>exact Fe hw.2 t x hx
   |loc s o=>exact Fe hw.2 t x hx
theorem wP{L:Loc}:∀ {a:Loc},Yn L a->∀(s:Nat) (c:List Value),kf a s=some c->kf L s=some c
 | [],_,s,c,h=>by cases h
 | (k,d)::r,hl,s,c,h=>by
  unfold Yn at hl;simp only[kf]at h;split at h
  .rename_i e;subst e;cases h;exact hl.1
  exact wP hl.2 s c h
theorem AQ{L:Loc}:∀ {e:Env},cXs L e->∀(t s o:Nat),e[t]? =some (SV.loc s o)->∃c,kf L s=some c
 | [],_,t,s,o,hx=>by simp at hx
 |x::r,hl,t,s,o,hx=>by
  unfold cXs at hl;cases t with
  |zero=>simp at hx;subst hx;exact Option.isSome_iff_exists.1 hl.1
  |succ t=>
   simp at hx;cases x with
   |u=>exact AQ hl t s o hx
   |v b=>exact AQ hl t s o hx
   |loc a o'=>exact AQ hl.2 t s o hx
theorem cZ.wk(d:cZ ds h0 w0 β env L h a w){i:Env}{f:Loc}(e:Wk env L i f):cZ ds h0 w0 β i f h a w:=
 ⟨d.after,λs c l=>d.loc s c (wP e.loc s c l),λs g c c' j k=>d.inj s g c c' (wP e.loc s c j) (wP e.loc g c' k),by rw[d.size,Fc e.env],λt x hx=>by
  rcases Fe e.env t x hx with rfl|he
  .trivial
  have:=d.slot t x he;cases x with
  |u=>trivial
  |v b=>exact this
  |loc s o=>exact⟨AQ e.ok t s o hx,this.2⟩,d.defers⟩
theorem jW{b:Frame}{k:List Item}{cs:List Frame}:step P (lone (b.atR a (.code (.scope c)::k)) cs w)=.next (lone (b.atR a (.code c::.inScope c::k)) cs w):=
 step_lone_go (by simp[stepG,stepG.exec,Frame.atR])
theorem Ds{b:Frame}{k:List Item}{cs:List Frame}:step P (lone (b.atR a (.inScope c::k)) cs w)=.next (lone (b.atR a k) cs w):=
 step_lone_go (by simp[stepG,stepG.exec,Frame.atR])
theorem Bm{F:Fence}(h:c.wpIn F n P (Exit.noGoto Q) a w):(Code.scope c).wpIn F n P Q a w:=by
 intro b k cs K d r;have h0:(lone (b.atR a (.code (.scope c)::k)) cs w).fenced P F:=fenced_calm d r rfl;obtain⟨e,V,T,q,p⟩:=h b (.inScope c::k) cs K d r;cases e with
 |normal=>exact⟨.normal,V,T,q,.head h0 jW (StepsIn.trans p (.one (fenced_calm d r rfl) Ds))⟩
 |exit f=>
  have hx:exitTo f (.inScope c::k)=exitTo f k:=by simp[exitTo]
  exact⟨.exit f,V,T,q,λm g=>.head h0 jW (p.1 m (by rw[hx];exact g)),
   λY g=>let ⟨k₁,i,j⟩:=p.2 Y (by rw[hx];exact g);⟨k₁,i,.head h0 jW j⟩⟩
 |goto l=>exact q.elim
 |ret=>exact⟨_,V,T,q,.of_steps (.one h0 jW) p⟩
 |panic o=>exact⟨_,V,T,q,.of_steps (.one h0 jW) p⟩
 |outgrown=>exact⟨_,V,T,q,.of_steps (.one h0 jW) p⟩
theorem gv(J:fF P T):∀(c:Code),eI T c=true->∀ {K:Ex->Env->Loc->ab->Prop} {Q:Exit->Act->World->Prop} {env:Env} {L:Loc} {h:ab} {β:Nat->Nat} {a:Act} {w:World},
 cZ ds h0 w0 β env L h a w->sx A T (λ_=>P) c K env L h->
 mI T ds h0 w0 Q->(∀e Z L' h' B q r,K e Z L' h'->cZ ds h0 w0 B Z L' h' q r->Q (Lv e) q r)->c.wpIn (FW ro) n P Q a w:=by
 intro c;induction c with
 |skip=>exact λ_ {K Q env L h β a w} s hx g b=>wpIn_skip (b .normal _ _ _ _ _ _ hx s)
 |region id ops y=>
  intro f K Q env L h β a w s hx g b;cases y with
  |false=>exact wpIn_region_list (oC J g (λZ L' h' B q r k p=>b .normal _ _ _ _ _ _ k p) ops.toList _ _ _ _ _ _ s hx)
  |true=>
   simp only[eI,Bool.and_eq_true]at f;refine wpIn_region_any J.mixed ?_;have U:cZ ds h0 w0 β env L h a { w with drawn:=w.drawn+1 }:=
    ⟨⟨s.after.os,s.after.tape,s.after.output,s.after.size,s.after.Bf,s.after.frame⟩,s.loc,s.inj,s.size,s.slot,s.defers⟩
   refine Kn J f.1.1 f.1.2 (K:=λenv L h=>K .normal env L h) g (λZ L' h' B q r k p=>b .normal _ _ _ _ _ _ k p) ops.size (D:=[]) (listed:=[]) (pend:=[]) (known:=[]) (envc:=env) (Lc:=L)
    (by exact NZ ops.size) ?_ U hx f.2
   have N:∀j,¬In (Array.replicate ops.size false) j:=λj C=>by
    unfold In at C;rw[Array.getD_eq_getD_getElem?,Array.getElem?_replicate]at C;split at C<;>simp at C
   exact⟨by simp,λj=>by simp[N j],λx hx=>(by cases hx),λi o M=>absurd M (N i),λi M=>(by cases M),λx hx=>(by cases hx),rfl,λ_ _=>rfl,λx hx=>(by cases hx),λ_ _=>rfl,
    λx hx=>(by cases hx),λx hx=>(by cases hx),λx hx=>(by cases hx),λx hx=>(by cases hx),λx hx=>(by cases hx)⟩
 |seq c d F E=>
  intro f K Q env L h β a w s hx g b;simp only[eI,Bool.and_eq_true]at f;unfold sx at hx;refine wpIn_seq (F f.1 s hx (λc β env L h a w u v=>g c β env L h a w u v) λe Z L' h' B q r k p=>?_);cases e with
  |normal=>exact E f.2 p k g b
  |exit id=>exact b (.exit id) _ _ _ _ _ _ k p
  |ret=>exact b .ret _ _ _ _ _ _ k p
 |cond x c d F E=>
  intro f K Q env L h β a w s hx g b;simp only[eI,Bool.and_eq_true]at f;unfold sx at hx;split at hx
  .rename_i t Y;refine wpIn_cond (s.bt Y) ?_;rcases jR hx with⟨rfl,hx⟩|⟨rfl,hx⟩
   .exact F f.1 s hx g b
   exact E f.2 s hx g b
  exact hx.elim
 |block id c z=>
  intro f K Q env L h β a w s hx g b;unfold sx at hx;refine wpIn_block (z f s hx (λc β env L h a w u v=>g c β env L h a w u v) λe Z L' h' B q r k p=>?_);cases e with
  |normal=>exact b .normal _ _ _ _ _ _ k p
  |exit j=>
   simp only[Lv,Exit.inBlock]at k |-;split at k
   .rename_i e;rw[if_pos e];exact b .normal _ _ _ _ _ _ k p
   rename_i e;rw[if_neg e];exact b (.exit j) _ _ _ _ _ _ k p
  |ret=>exact b .ret _ _ _ _ _ _ k p
 |loop c z=>
  intro f K Q env L h β a w s hx g b;unfold sx at hx;obtain⟨I,n,⟨iC,S,O,W⟩,R⟩:=hx.out;refine wpIn_loop_ghost (λn a w=>∃env L h β,I n env L h/\cZ ds h0 w0 β env L h a w) n ⟨_,_,_,_,W,s.wk O⟩ λn a w ⟨env,L,h,β,k,p⟩=>?_;refine z f p (R n env L h k) (λc β env L h a w u v=>g c β env L h a w u v) λe Z L' h' B q r G H=>?_;cases e with
  |normal=>obtain⟨m,iC,S,X,O,V⟩:=G;exact⟨m,X,_,_,_,_,V,H.wk O⟩
  |exit j=>exact b (.exit j) _ _ _ _ _ _ G H
  |ret=>exact b .ret _ _ _ _ _ _ G H
 |rangeFunc=>intro f K Q env L h β a w s hx g b;exact hx.elim
 |exit id=>exact λ_ {K Q env L h β a w} s hx g b=>wpIn_exit (b (.exit id) _ _ _ _ _ _ hx s)
 |scope c z=>
  intro f K Q env L h β a w s hx g b;refine Bm (z f s hx (λc β env L h a w u v=>g c β env L h a w u v) λe Z L' h' B q r k p=>?_);cases e with
  |normal=>exact b .normal _ _ _ _ _ _ k p
  |exit j=>exact b (.exit j) _ _ _ _ _ _ k p
  |ret=>exact b .ret _ _ _ _ _ _ k p
 |label l=>exact λ_ {K Q env L h β a w} s hx g b=>wpIn_label (b .normal _ _ _ _ _ _ hx s)
 |goto=>intro f K Q env L h β a w s hx g b;exact hx.elim
 |ret=>exact λ_ {K Q env L h β a w} s hx g b=>wpIn_ret (b .ret _ _ _ _ _ _ hx s)
 |refuse=>intro f K Q env L h β a w s hx g b;exact hx.elim
def Fv(tmps:Array Value):ResultVar->Sem Value
 | .tmp t=>pure (tmps.getD t undef)
 | .cell q t=>do loadVar t (<-asAddr (tmps.getD q undef))
theorem BN(fn:Func)(m:Array Value):results fn m=(do
 let v <-fn.results.mapM (Fv m)
 pure (if h:v.size=1 then v[0]else .tuple v)):=by
 have:(λ(x:ResultVar)=>(match x with| .tmp t=>pure (m.getD t undef) | .cell a t=>do loadVar t (<-asAddr (m.getD a undef)):Sem Value))=Fv m:=by funext x;cases x<;>rfl
 unfold results;rw[<-this];rfl
theorem Sw(m:fF P T)(s:cZ ds h0 w0 β env L h a w){r:ResultVar}{k:Value->Prop}(b:aJK T env L h r k):
 ∃v,(Fv a.tmps r).run P w=.ok v w/\k v:=by
 unfold aJK at b;split at b
 .rename_i t;split at b
  .rename_i x hx;have:=s.slot t _ (getD_some hx (by simp));exact⟨_,rfl,by rw[show a.tmps.getD t undef=x from this];exact b⟩
  exact b.elim
 rename_i q t;split at b
 .exact b.elim
 .rename_i hx j;have i:=fT m (t:=t) (λe=>j e);have mC:=s.slot q _ (getD_some hx (by simp));split at b
  .rename_i c z;split at b
   .rename_i cs o;obtain⟨d,u⟩:=Ih s z o;obtain⟨v,f,g⟩:=oD i w _ _ cs d u b;refine⟨v,?_,g⟩;show(do loadVar t (<-asAddr (a.tmps.getD q undef)):Sem Value).run P w=_;rw[show a.tmps.getD q undef=_ from mC.2];simp[asAddr,f]
   exact b.elim
  exact b.elim
 .rename_i hx j;have i:=fT m (t:=t) (λe=>j e);have mC:=s.slot q _ (getD_some hx (by simp));obtain⟨cs,d,hl⟩:=(show vK _ _ _ _ from b).out;obtain⟨l,n,p⟩:=d.cell s.after.Bf;obtain⟨v,f,g⟩:=oD i w _ _ cs n p hl;refine⟨v,?_,g⟩;rename_i y;have:y=⟨y.block,y.off,none⟩:=by cases y;simp at l;rw[l]
  show(do loadVar t (<-asAddr (a.tmps.getD q undef)):Sem Value).run P w=_;rw[show a.tmps.getD q undef=.pointer (some y)from mC];simp only[asAddr,Sem.run_bind,Sem.run_pure,Result.andThen_ok];rw[this];exact f
 exact b.elim
theorem BP(c:fF P T)(s:cZ ds h0 w0 β env L h a w):∀ {rs:List ResultVar} {k:List Value->Prop},wG T env L h rs k->
 ∃l,(rs.mapM (Fv a.tmps)).run P w=.ok l w/\k l
 | [],k,b=>⟨[],rfl,b⟩
 |r::rs,k,b=>by
  unfold wG at b;obtain⟨v,d,e⟩:=Sw c s b;obtain⟨l,f,g⟩:=BP c s e;refine⟨v::l,?_,g⟩;rw[List.mapM_cons];simp only[Sem.run_bind,d,Result.andThen_ok,f,Sem.run_pure]
theorem mI.none(z:∀c s h,¬T.kp c s h):mI T ds h0 w0 Q:=λc β env L h a w q _=>(z _ _ _ q).elim
theorem af(A:Ar)[bf A](k:fF P T)(u:P.funcs[f]? =some fn)(r:fn.body=some c)(y:eI T c=true){h:ab}
 (hx:cQp A T (λ_=>P) c fn.ntmps fn.results.toList args h R) (E:∀c s h,¬T.kp c s h:=by exact λ_ _ _ b=>b):Dr (λ_=>P) f args h R:=by
 refine⟨λw D=>?_⟩;refine calls_of_wp u r (wpIn_wide (n:=0).1 ?_);have B:cZ [] h w (λ_=>0) (args.map SV.v++List.replicate (fn.ntmps-args.length) (.v undef)) [] h { tmps:=args.toArray++Array.replicate (fn.ntmps-args.toArray.size) undef,defers:=[] } w:=by
  refine⟨bD.refl D,λs c b=>(by cases b),λs H c c' b=>(by cases b),by simp,λt x hx=>?_,rfl⟩;rw[List.getElem?_append]at hx;split at hx
  .rename_i F;have C:t<args.length:=by simpa using F
   rw[List.getElem?_map,List.getElem?_eq_getElem C]at hx;simp at hx;subst hx;show _=_;rw[Array.getD_eq_getD_getElem?,Array.getElem?_append_left (by simpa using C)];simp[C]
  rename_i O;have X:args.length<=t:=by simpa using O
  rw[List.getElem?_replicate]at hx;split at hx
  .rename_i F;cases hx;show _=_;rw[Array.getD_eq_getD_getElem?,Array.getElem?_append_right (by simpa using X),Array.getElem?_replicate];simp at F |-;rw[if_pos F];rfl
  cases hx
 refine gv (A:=A) (ro:=none) (n:=0) k c y B hx (mI.none E) λe Z L' h' G i d a j=>?_;have fin:wG T Z L' h' fn.results.toList (λl=>pB l (λv=>R v h'))->i.defers=[]/\∃v,(results fn i.tmps).run P d=.ok v d/\∃m a,Ending.returned v=.returned m/\R m a/\bD h w a d:=λz=>by
  obtain⟨l,p,g⟩:=BP k j z;refine⟨j.defers,?_⟩;have q:(results fn i.tmps).run P d=.ok (if h:l.toArray.size=1 then l.toArray[0]else .tuple l.toArray) d:=by rw[BN,Array.mapM_eq_mapM_toList];rw[Sem.run_bind,Sem.run_map];rw[p];rfl
  refine⟨_,q,_,h',rfl,?_,j.after⟩;unfold pB at g;split at g
  .exact g
  rename_i o;have:¬l.toArray.size=1:=λhl=>by
   match l,hl with
   | [x],_=>exact o x rfl
  rw[dif_neg this];exact g
 cases e with
 |normal=>exact fin a
 |ret=>exact fin a
 |exit id=>exact a.elim
variable {ro:Option Nat}{n:Nat}
variable {P:Program}{T:aL}{A:Ar}[bf A]
inductive Df where
 |call (g:FuncId) (args cap:List Value)
 |mark (m:Nat)
def Df.at:Df->Deferred
 | .call g args cap=>{ target:=.fn (.func g) cap.toArray,args:=args.toArray }
 | .mark m=>{ target:=.collected m,args:= #[] }
def ly:Env->Env
 | []=>[]
 |x::r=>match x with
  | .loc _ _=>.u::ly r
  |x=>x::ly r
def zJ:Env->List Nat->List Value->Env
 |env,p::ps,v::vs=>zJ (env.set p (.v v)) ps vs
 |env,_,_=>env
def Kg(A:Ar)(T:aL)(p:Unit->Program)(Ae body:Code)(env:Env)(ps:List Nat)(l:Nat)(o1 o2:Obj)(vs:List Value)(k:ab->Prop)(hh:ab):Prop:=
 sx A T p Ae (λe iC L1 h1=>match e with
  | .normal=>h1 l=some o1/\sx A T p body (λe _ _ h2=>match e with
   | .normal=>h2 l=some o2/\k (bu h2 l o1)
   |_=>False) iC L1 (bu h1 l o2)
  |_=>False) (zJ env ps vs) [] hh
structure gKy(p:Unit->Program)(gf:FuncId)(lb:List Value)(n:Nat)(round:Nat->Obj->Obj->List Value->(ab->Prop)->ab->Prop)(h:ab)(K:Nat->ab->Prop):Prop where
 out:∀(m l:Nat) (o1 o2:Obj),h m=none->h l=none->m≠l->(∀c e fr,o1≠.cells c e fr)->(∀c e fr,o2≠.cells c e fr)->
  (∀vs hh (k:ab->Prop),vs.length=n->hh l=some o1->round l o1 o2 vs k hh->aQk p l vs hh (λv h'=>v=.bool true/\k h'))->
  Dr p gf (.func (.yield l) #[] #[]::lb) (bu (bu h m (.deferred (some []))) l o1) (λ_ h'=>h' l=some o1/\∀o3,(∀c e fr,o3≠.cells c e fr)->K m (bu h' l o3))
def iXt(P:Program)(f:FuncId)(args:List Value)(h:ab)(R:Value->ab->Prop):Prop:=
 ∀w,AI h w->∀n,CallsDIn Fence.wide n P f args.toArray .returning w λe u' w'=>u'=.returning/\∃v h',e=.returned v/\R v h'/\bD h w h' w'
structure Qk(p:Unit->Program)(f:FuncId)(args:List Value)(h:ab)(R:Value->ab->Prop):Prop where
 out:iXt (p ()) f args h R
theorem Qk.mono{h:ab}{a:Value->ab->Prop}(x:Qk p f args h R)(r:∀v h',R v h'->a v h'):Qk p f args h a:=
 ⟨λw c n=>(x.out w c n).mono λe u d ⟨hu,v,h',he,hR,b⟩=>⟨hu,v,h',he,r _ _ hR,b⟩⟩
def uV(A:Ar)(T:List Df->aL)(p:Unit->Program)(all:List Oper)(K:List Df->Env->Loc->ab->Prop):List Oper->List Df->Env->Loc->ab->Prop
 | [],ds,env,L,h=>K ds env L h
 |o::rest,ds,env,L,h=>
  gd all env o
   (λ_=>match o.op with
    | .defer c=>match c.callee with
     | .value f=>match og env f with
      | .v (.func (.func g) first cap)=>match nI (c.args.toList.map (og env))with
       |some as=>uV A T p all K rest (.call g (first.toList++as) cap.toList::ds) (put env o.dst (.v undef)) L h
       |none=>False
      |_=>False
     |_=>False
    |_=>match kW (T ds) o with
     |true=>iO A (T ds) p o (og env) L h (λx nb=>uV A T p all K rest ds (put env o.dst x) (fq L o.dst nb) h)
     |false=>hx A (T ds) p o (og env) L h (λx L' h'=>uV A T p all K rest ds (put env o.dst x) L' h'))
   (λ_=>uV A T p all K rest ds (put env o.dst (.v undef)) L h)
def RO(A:Ar)(T:List Df->aL)(p:Unit->Program):Code->(Ex->List Df->Env->Loc->ab->Prop)->List Df->Env->Loc->ab->Prop
 | .region id ops false,K,ds,env,L,h=>uV A T p ops.toList (λds env L h=>K .normal ds env L h) ops.toList ds env L h
 | .seq a b,K,ds,env,L,h=>RO A T p a (λe ds env L h=>match e with
  | .normal=>RO A T p b K ds env L h
  |e=>K e ds env L h) ds env L h
 | .cond c a b,K,ds,env,L,h=>match og env c with
  | .v (.bool t)=>LC t (λ_=>RO A T p a K ds env L h) (λ_=>RO A T p b K ds env L h)
  |_=>False
 | .block id c,K,ds,env,L,h=>RO A T p c (λe ds env L h=>match e with
  | .exit j=>if j=id then K .normal ds env L h else K (.exit j) ds env L h
  |e=>K e ds env L h) ds env L h
 | .rangeFunc g ps Ae body,K,ds,env,L,h=>match og env g with
  | .v (.func (.func gf) first lb)=>match first.isEmpty,(T ds).fn gf with
   |true,true=>gKy p gf lb.toList ps.size (Kg A (T ds) p Ae body (ly env) ps.toList) h (λm h'=>K .normal (.mark m::ds) env L h')
   |_,_=>False
  |_=>False
 |c,K,ds,env,L,h=>sx A (T ds) p c (λe env L h=>K e ds env L h) env L h
def Kc(T:aL)(p:Unit->Program):List Df->(ab->Prop)->ab->Prop
 | [],k,h=>k h
 | .call g args cap::r,k,h=>match T.fn g with
  |true=>Qk p g (args++cap) h (λ_ h'=>Kc T p r k h')
  |false=>False
 | .mark m::r,k,h=>h m=some (.deferred (some []))/\Kc T p r k (bu h m (.deferred none))
def cQo(A:Ar)(T:aL)(p:Unit->Program)(c:Code)(ntmps:Nat)(rs:List ResultVar)(args:List Value)(h:ab)(R:Value->ab->Prop):Prop:=
 RO A (λ_=>T) p c (λe ds env L h=>match e with
  | .exit _=>False
  |_=>Kc T p ds (λh=>wG T env L h rs (λl=>pB l (λv=>R v h))) h) [] (args.map SV.v++List.replicate (ntmps-args.length) (.v undef)) [] h
variable {h0:ab}{w0:World}{β:Nat->Nat}{h:ab}{a:Act}{w:World}{env:Env}{L:Loc}
theorem cZ.Jq{ds:List Deferred}(s:cZ ds h0 w0 β env L h a w)(d:Deferred):cZ (d::ds) h0 w0 β env L h { a with defers:=d::a.defers } w:=
 ⟨s.after,s.loc,s.inj,s.size,s.slot,by rw[s.defers]⟩
def Ws(T:List Df->aL)(h0:ab)(w0:World)(Q:Exit->Act->World->Prop):Prop:=∀ds:List Df,mI (T ds) (ds.map Df.at) h0 w0 Q
variable {TT:List Df->aL}
theorem kL(T:∀ds,fF P (TT ds)){ops:Array Oper}{K:List Df->Env->Loc->ab->Prop}
 (F:Ws TT h0 w0 Q) (i:∀V Z L' h' B u j,K V Z L' h'->cZ (V.map Df.at) h0 w0 B Z L' h' u j->Q .normal u j):
 ∀(l:List Oper) (ds:List Df) (env:Env) (L:Loc) (h:ab) (β:Nat->Nat) (a:Act) (w:World),cZ (ds.map Df.at) h0 w0 β env L h a w->
  uV A TT (λ_=>P) ops.toList K l ds env L h->wpListIn (FW none) n P ops Q l a w
 | [],ds,env,L,h,β,a,w,b,hx=>i _ _ _ _ _ _ _ hx b
 |o::r,ds,env,L,h,β,a,w,b,hx=>by
  unfold uV at hx;unfold wpListIn;rcases sX b hx with⟨hw,hx⟩|⟨hw,hx⟩
  .rw[if_pos hw];split at hx
   .rename_i c H;split at hx
    .rename_i f D;split at hx
     .rename_i g first cap E
      split at hx
      .rename_i e has;have I:(execOp a.eval o).run P w=.ok (.defer (Df.at (.call g (first.toList++e) cap.toList))) w:=by
        have e1:first++e.toArray=(first.toList++e).toArray:=by apply Array.ext';simp
        simp only[execOp,H,resolve,D,b.bt E,iZ b has,Deferred.ofValue,Sem.run_bind,Sem.run_pure,Result.andThen_ok,Df.at,e1]
       unfold Oper.wpIn;refine⟨λ_ _=>trivial,?_⟩;rw[show(FW none).round=none from rfl,Oper.semAt_none,I,Oper.uponIn_defer];exact kL T F i r (.call g (first.toList++e) cap.toList::ds) _ _ _ _ _ _ ((b.Jq (Df.at (.call g (first.toList++e) cap.toList))).put (d:=o.dst) (x:=.v undef) (v:=undef) rfl) hx
      exact hx.elim
     exact hx.elim
    exact hx.elim
   split at hx
   .obtain⟨z,J,m,p⟩:=qB hx;obtain⟨v,j,B,t,C⟩:=yK (T ds) b (p (λx y=>x=z/\y=J) ⟨rfl,rfl⟩);refine rW t ?_;exact kL T F i r _ _ _ _ _ _ _ C m
   refine Kz (T ds) b (Lc:=L) (λ_ _ q=>q) hx (F ds) λz v G L' h' j m p t=>?_;have:G=L':=by
    rcases t with⟨e1,k⟩|⟨s,c,x,y,-,-,e1,k⟩
    .rw[e1,k]
    rw[e1,k]
   subst this;exact kL T F i r _ _ _ _ _ _ _ p m
  rw[if_neg (by simp[hw])];refine⟨λ_ _=>trivial,?_⟩;exact kL T F i r _ _ _ _ _ _ _ (b.put (x:=.v undef) (v:=undef) rfl) hx
theorem DZ:∀ {env:Env} {t:Nat} {x:SV},(ly env)[t]? =some x->x=.u\/(env[t]? =some x/\∀s o,x≠.loc s o)
 | [],t,x,h=>by simp[ly]at h
 |y::r,0,x,h=>by
  cases y with
  |loc s o=>simp[ly]at h;exact .inl h.symm
  |v z=>simp[ly]at h;subst h;exact .inr ⟨by simp,λ_ _ e=>by cases e⟩
  |u=>simp[ly]at h;exact .inl h.symm
 |y::r,t+1,x,h=>by
  have h':(ly r)[t]? =some x:=by cases y<;>simpa[ly]using h
  rcases DZ h' with a| ⟨a,b⟩
  .exact .inl a
  exact .inr ⟨by simpa using a,b⟩
theorem DY:∀(env:Env),(ly env).length=env.length
 | []=>rfl
 |y::r=>by cases y<;>simp[ly,DY r]
theorem HD{β:Nat->Nat}:∀(s:List Nat) (a:List Value) (env:Env) (tmps:Array Value),tmps.size=env.length->(∀t x,env[t]? =some x->pt β [] x (tmps.getD t undef))->
 ((s.zip a).foldl (λt (p,v)=>t.setIfInBounds p v) tmps).size=(zJ env s a).length/\∀t x,(zJ env s a)[t]? =some x->pt β [] x (((s.zip a).foldl (λt (p,v)=>t.setIfInBounds p v) tmps).getD t undef)
 | [],a,env,tmps,h,b=>by simp[zJ,h];simpa using b
 |p::s,[],env,tmps,h,b=>by simp[zJ,h];simpa using b
 |p::s,v::a,env,tmps,h,b=>by
  simp only[List.zip_cons_cons,List.foldl_cons,zJ];refine HD s a _ _ (by simp[h]) (λt x hx=>?_);rw[List.getElem?_set]at hx;split at hx
  .rename_i e;subst e;split at hx
   .rename_i F;cases hx;show _=_;have C:p<tmps.size:=by rw[h];exact F
    rw[Array.getD_eq_getD_getElem?,Array.getElem?_setIfInBounds_self_of_lt C];rfl
   cases hx
  rename_i e;have:=b t x hx;rw[Array.getD_eq_getD_getElem?,Array.getElem?_setIfInBounds_ne (by omega),<-Array.getD_eq_getD_getElem?];exact this
theorem bD.put{h:ab}{w:World}(a:AI h w){l:Nat}{o o':Obj}(hl:h l=some o):bD h w (bu h l o') (w.putObj l o'):=by have d:=a _ _ hl;have F:l<w.heap.size:=(Array.getElem?_eq_some_iff.1 d).1;exact bD.set a hl (World.putObj_heap_same F) (λb c=>World.putObj_heap_other c) World.putObj_size ⟨rfl,rfl,rfl⟩
theorem Ss(D:fF P T)(H:∀c s h,¬T.kp c s h){l:Nat}{r:Loop}{j o:Code}(Q:eI T j=true)(m:eI T o=true)(W:r.assign=j)(K:r.body=o)(z:r.state=.ready)(X:r.pending=none)
 (mC:(ly env).length=r.tmps.size) (R:∀t x,(ly env)[t]? =some x->pt (λ_=>0) [] x (r.tmps.getD t undef))
 {g:List Value} {i:ab} {k:ab->Prop} (Z:g.length=r.params.size) (hl:i l=some (.loop r))
 (hx:Kg A T (λ_=>P) j o (ly env) r.params.toList l (.loop r) (.loop { r with state:=.busy }) g k i):aQk (λ_=>P) l g i (λv h'=>v=.bool true/\k h'):=by
 refine⟨λw E=>⟨_,_,_,_,run_yield (E _ _ hl) (by simpa using Z),λn=>?_⟩⟩;refine roundIn_of_wpIn trivial ?_;have hz:(r.params.zip g.toArray).foldl (λtmps (t,a)=>tmps.setIfInBounds t a) r.tmps=(r.params.toList.zip g).foldl (λt (p,v)=>t.setIfInBounds p v) r.tmps:=by rw[<-Array.foldl_toList];simp
 rw[hz,W,K];obtain⟨M,I⟩:=HD (β:=λ_=>0) r.params.toList g (ly env) r.tmps mC.symm R;have Y:cZ [] i w (λ_=>0) (zJ (ly env) r.params.toList g) [] i { tmps:=(r.params.toList.zip g).foldl (λt (p,v)=>t.setIfInBounds p v) r.tmps,defers:=[] } w:=
  ⟨bD.refl E,λs c y=>(by cases y),λs s' c c' y=>(by cases y),M,I,rfl⟩
 refine gv (A:=A) (ro:=some l) D j Q Y hx (mI.none H) λe iC L1 h1 ao a1 w1 q u=>?_;cases e with
 |normal=>
  obtain⟨F,k2⟩:=q;have L:=u.after.Bf _ _ F;refine⟨_,run_beginRound L z,?_⟩;have S:=u.step (bD.put u.after.Bf (o':=.loop { r with state:=.busy }) F);refine gv (A:=A) (ro:=some l) D o m S k2 (mI.none H) λe ag L2 V aj a2 w2 B C=>?_;cases e with
  |normal=>
   obtain⟨G,k4⟩:=B;have J:=C.after.Bf _ _ G;refine⟨_,_,run_endRound none J,?_⟩;have U:=C.step (bD.put C.after.Bf (o':=.loop r) G);have O:({ r with state:=if(none:Option Code).isNone=true then LoopState.ready else LoopState.done,pending:=none }:Loop)=r:=by obtain⟨s,p,f,t,ps,a,b,d⟩:=r;simp only at z X;subst z X;rfl
   refine⟨_,bu V l (.loop r),rfl,⟨rfl,k4⟩,?_⟩;have N:({ ({ r with state:=.busy }:Loop)with state:=if(none:Option Code).isNone=true then LoopState.ready else LoopState.done,pending:=none }:Loop)=r:=O;have:=U.after;rw[N];exact this
  |exit id=>exact B.elim
  |ret=>exact B.elim
 |exit id=>exact q.elim
 |ret=>exact q.elim
theorem Ai(E:fF P T)(zc:∀c s h,¬T.kp c s h){ds:List Df}{g:Operand}{p:Array Nat}{b body:Code}{l:Array Value}{K:Nat->ab->Prop}
 (d:cZ (ds.map Df.at) h0 w0 β env L h a w) (j:eI T b=true) (i:eI T body=true) (Y:og env g=.v (.func (.func f) #[] l)) (Z:T.fn f=true)
 (hx:gKy (λ_=>P) f l.toList p.size (Kg A T (λ_=>P) b body (ly env) p.toList) h K)
 (V:∀m h' C H,K m h'->cZ ((Df.mark m::ds).map Df.at) h0 w0 β env L h' C H->Q .normal C H):(Code.rangeFunc g p b body).wp P Q a w:=by
 refine(wpIn_wide (n:=0)).1 (wpIn_rangeFunc λfn _=>?_);refine⟨w.heap.size+1,_,(w.alloc (.deferred (some []))).alloc (.loop { state:=.ready,pending:=none,fn,tmps:=a.tmps,params:=p,assign:=b,body,defers:=w.heap.size }),{ target:=.fn (.func f) l,args:= #[.func (.yield (w.heap.size+1)) #[] #[]] },(w.alloc (.deferred (some []))).alloc (.loop { state:=.ready,pending:=none,fn,tmps:=a.tmps,params:=p,assign:=b,body,defers:=w.heap.size }),f,#[.func (.yield (w.heap.size+1)) #[] #[]]++l,(w.alloc (.deferred (some []))).alloc (.loop { state:=.ready,pending:=none,fn,tmps:=a.tmps,params:=p,assign:=b,body,defers:=w.heap.size }),run_enterLoop_outer fn a.tmps p b body,?_,λ_ _=>trivial,?_,λhd=>by simp[Fence.wide]at hd,?_⟩
 .simp only[resolve,d.bt Y,Deferred.ofValue,Sem.run_pure];simp[Act.eval]
 .simp only[invoke,qO E Z]
 generalize y:({ state:=.ready,pending:=none,fn,tmps:=a.tmps,params:=p,assign:=b,body,defers:=w.heap.size }:Loop)=r;have B:=d.after.Bf;have a1:bD h w (bu h w.heap.size (.deferred (some []))) (w.alloc (.deferred (some []))):=bD.new B _;have R:(w.alloc (.deferred (some []))).heap.size=w.heap.size+1:=World.size_alloc w _;have a2:=bD.new a1.Bf (.loop r);rw[R]at a2;have J:=a1.trans a2;have M:h w.heap.size=none:=B.ma (Nat.le_refl _);have I:h (w.heap.size+1)=none:=B.ma (by omega);have W:=(hx.out w.heap.size (w.heap.size+1) (.loop r) (.loop { r with state:=.busy }) M I (by omega) (λ_ _ _ e=>by cases e) (λ_ _ _ e=>by cases e) (λvs hh k hv hl F=>by
  refine Ss (A:=A) (env:=env) E zc j i (r:=r) (by rw[<-y]) (by rw[<-y]) (by rw[<-y]) (by rw[<-y]) ?_ ?_ (by rw[hv,<-y]) hl ?_
  .rw[DY,<-d.size,<-y]
  .intro t x hx;rcases DZ hx with rfl| ⟨S,U⟩
   .trivial
   have:=d.slot t x S;rw[<-y];cases x with
   |v z=>exact this
   |loc s o=>exact absurd rfl (U s o)
   |u=>trivial
  have hp:p=r.params:=by rw[<-y]
  rw[hp]at F;exact F)).out _ J.Bf
 have G:=callsIn_wide (n:=0-1).2 W;have e1:(Value.func (.yield (w.heap.size+1)) #[] #[]::l.toList).toArray= #[.func (.yield (w.heap.size+1)) #[] #[]]++l:=by apply Array.ext';simp
 rw[e1]at G;refine CallsIn.mono G λe w3 ⟨v,h3,N,⟨D,O⟩,q⟩=>?_;subst N;have X:=q.Bf _ _ D;refine⟨none,w3.putObj (w.heap.size+1) (.loop { r with state:=.exhausted }),?_,?_⟩
 .have:=run_endLoop (P:=P) X (by rw[<-y];simp);rw[this,<-y]
 refine V w.heap.size _ _ _ (O (.loop { r with state:=.exhausted }) (λ_ _ _ e=>by cases e)) ?_;have s1:=d.step ((J.trans q).trans (bD.put q.Bf (o':=.loop { r with state:=.exhausted }) D));exact s1.Jq (Df.at (.mark w.heap.size))
def Ko:Code->Bool
 | .rangeFunc .. =>false
 | .seq a b| .cond _ a b=>Ko a&&Ko b
 | .block _ c=>Ko c
 |_=>true
theorem Oh(T:∀ds,fF P (TT ds)):∀(c:Code),(∀ds,eI (TT ds) c=true)->(Ko c=true\/∀ds c s h,¬(TT ds).kp c s h)->∀ {K:Ex->List Df->Env->Loc->ab->Prop} {Q:Exit->Act->World->Prop} {ds:List Df} {env:Env} {L:Loc} {h:ab} {β:Nat->Nat} {a:Act} {w:World},
 cZ (ds.map Df.at) h0 w0 β env L h a w->RO A TT (λ_=>P) c K ds env L h->Ws TT h0 w0 Q->
 (∀e V q L' h' B l p,K e V q L' h'->cZ (V.map Df.at) h0 w0 B q L' h' l p->Q (Lv e) l p)->c.wp P Q a w:=by
 intro c;induction c with
 |region id ops r=>
  intro o N K Q ds env L h β a w k hx F f;cases r with
  |false=>exact wpIn_wide (n:=0).1 (wpIn_region_list (kL T F (λV q L' h' B l p b i=>f .normal _ _ _ _ _ _ _ b i) ops.toList _ _ _ _ _ _ _ k hx))
  |true=>exact wpIn_wide (n:=0).1 (gv (A:=A) (ro:=none) (n:=0) (T ds) _ (o ds) k hx (F ds) (λe q L' h' B l p b i=>f e _ _ _ _ _ _ _ b i))
 |seq c d v u=>
  intro o N K Q ds env L h β a w k hx F f;simp only[eI,Bool.and_eq_true]at o;simp only[Ko,Bool.and_eq_true]at N;unfold RO at hx;refine wp_seq (v (λds=>(o ds).1) (N.imp And.left id) k hx (λds c β env L h a w z C=>F ds c β env L h a w z C) λe V q L' h' B l p b i=>?_);cases e with
  |normal=>exact u (λds=>(o ds).2) (N.imp And.right id) i b F f
  |exit id=>exact f (.exit id) _ _ _ _ _ _ _ b i
  |ret=>exact f .ret _ _ _ _ _ _ _ b i
 |cond x c d v u=>
  intro o N K Q ds env L h β a w k hx F f;simp only[eI,Bool.and_eq_true]at o;simp only[Ko,Bool.and_eq_true]at N;unfold RO at hx;split at hx
  .rename_i t G;refine wp_cond (k.bt G) ?_;rcases jR hx with⟨rfl,hx⟩|⟨rfl,hx⟩
   .exact v (λds=>(o ds).1) (N.imp And.left id) k hx F f
   exact u (λds=>(o ds).2) (N.imp And.right id) k hx F f
  exact hx.elim
 |block id c H=>
  intro o N K Q ds env L h β a w k hx F f;unfold RO at hx;refine wp_block (H o N k hx (λds c β env L h a w z C=>F ds c β env L h a w z C) λe V q L' h' B l p b i=>?_);cases e with
  |normal=>exact f .normal _ _ _ _ _ _ _ b i
  |exit j=>
   simp only[Lv,Exit.inBlock]at b |-;split at b
   .rename_i e;rw[if_pos e];exact f .normal _ _ _ _ _ _ _ b i
   rename_i e;rw[if_neg e];exact f (.exit j) _ _ _ _ _ _ _ b i
  |ret=>exact f .ret _ _ _ _ _ _ _ b i
 |rangeFunc g R J D=>
  intro o N K Q ds env L h β a w k hx F f;simp only[eI,Bool.and_eq_true]at o;have I:∀ds c s h,¬(TT ds).kp c s h:=N.resolve_left (by simp[Ko]);unfold RO at hx;split at hx
  .rename_i M first O E
   split at hx
   .rename_i Z y;have Z:first= #[]:=by have:first.isEmpty=true:=Z;simpa using this
    subst Z;exact Ai (T ds) (I ds) k (o ds).1 (o ds).2 E y hx (λm h' l p b i=>f .normal _ _ _ _ _ _ _ b i)
   exact hx.elim
  exact hx.elim
 |_=>exact λo N {K Q ds env L h β a w} k hx F f=>wpIn_wide (n:=0).1 (gv (A:=A) (ro:=none) (n:=0) (T ds) _ (o ds) k hx (F ds) (λe q L' h' B l p b i=>f e _ _ _ _ _ _ _ b i))
theorem pZ{f:FuncId}{h:ab}{w:World}(e:AI h w):
 cZ [] h w (λ_=>0) (args.map SV.v++List.replicate (fn.ntmps-args.length) (.v undef)) [] h { tmps:=args.toArray++Array.replicate (fn.ntmps-args.toArray.size) undef,defers:=[] } w:=by
 refine⟨bD.refl e,λs c d=>(by cases d),λs g c c' d=>(by cases d),by simp,λt x hx=>?_,rfl⟩;rw[List.getElem?_append]at hx;split at hx
 .rename_i a;have C:t<args.length:=by simpa using a
  rw[List.getElem?_map,List.getElem?_eq_getElem C]at hx;simp at hx;subst hx;show _=_;rw[Array.getD_eq_getD_getElem?,Array.getElem?_append_left (by simpa using C)];simp[C]
 rename_i j;have b:args.length<=t:=by simpa using j
 rw[List.getElem?_replicate]at hx;split at hx
 .rename_i a;cases hx;show _=_;rw[Array.getD_eq_getD_getElem?,Array.getElem?_append_right (by simpa using b),Array.getElem?_replicate];simp at a |-;rw[if_pos a];rfl
 cases hx
theorem AL(e:fF P T){ds:List Deferred}(s:cZ ds h0 w0 β env L h a w)(r:wG T env L h fn.results.toList (λl=>pB l (λv=>R v h))):
 ∃v,(results fn a.tmps).run P w=.ok v w/\R v h/\bD h0 w0 h w:=by
 obtain⟨l,c,b⟩:=BP e s r;have d:(results fn a.tmps).run P w=.ok (if h:l.toArray.size=1 then l.toArray[0]else .tuple l.toArray) w:=by rw[BN,Array.mapM_eq_mapM_toList];rw[Sem.run_bind,Sem.run_map];rw[c];rfl
 refine⟨_,d,?_,s.after⟩;unfold pB at b;split at b
 .exact b
 rename_i F;have:¬l.toArray.size=1:=λhl=>by
  match l,hl with
  | [x],_=>exact F x rfl
 rw[dif_neg this];exact b
theorem tY(A:Ar)[bf A](i:fF P T)(r:P.funcs[f]? =some fn)(p:fn.body=some c)(t:eI T c=true){h:ab}
 (hx:cQp A T (λ_=>P) c fn.ntmps fn.results.toList args h R) (z:∀c s h,¬T.kp c s h:=by exact λ_ _ _ q=>q):Qk (λ_=>P) f args h R:=by
 refine⟨λw y n=>?_⟩;refine(callsDIn_of_wp (R:=λe b=>∃v h',e=.returned v/\R v h'/\bD h w h' b) r p trivial ?_).mono (λe C b x=>x);refine gv (A:=A) (ro:=none) i c t (pZ (f:=f) (fn:=fn) y) hx (mI.none z) λe Z L' h' B d b a g=>?_;have fin:wG T Z L' h' fn.results.toList (λl=>pB l (λv=>R v h'))->d.defers=[]/\∃v,(results fn d.tmps).run P b=.ok v b/\∃j a,Ending.returned v=.returned j/\R j a/\bD h w a b:=λu=>by
  obtain⟨v,k,m,o⟩:=AL i g u;exact⟨g.defers,v,k,v,h',rfl,m,o⟩
 cases e with
 |normal=>exact fin a
 |ret=>exact fin a
 |exit id=>exact a.elim
theorem uZ(b:fF P T)(X:List Deferred):∀(ds:List Df) {h:ab} {a:Act} {w:World},cZ X h0 w0 β env L h a w->
 Kc T (λ_=>P) ds (λh=>wG T env L h fn.results.toList (λl=>pB l (λv=>R v h))) h->
 LeavesInM Fence.wide 0 P fn a.tmps (λe d=>∃v h',e=.returned v/\R v h'/\bD h0 w0 h' d) (ds.map Df.at) .returning w
 | [],h,a,w,s,hx=>by
  obtain⟨v,i,j,k⟩:=AL b s hx;exact⟨v,i,v,h,rfl,j,k⟩
 | .call g args cap::r,h,a,w,s,hx=>by
  unfold Kc at hx;split at hx
  .rename_i o;have p:(invoke (.fn (.func g) cap.toArray) args.toArray).run P w=.ok (.enter g (args++cap).toArray) w:=by
    have e1:args.toArray++cap.toArray=(args++cap).toArray:=by simp
    simp only[invoke,e1,qO b o]
   refine⟨by simp,.inr ⟨λhd=>by simp[Fence.wide]at hd,_,_,_,_,rfl,p,λ_ _=>trivial,(hx.out w s.after.Bf _).mono λe u d ⟨hu,v,h',he,hR,n⟩=>?_⟩⟩;subst hu;subst he;have:=uZ b X r (s.step n) hR;exact this
  exact hx.elim
 | .mark m::r,h,a,w,s,hx=>by
  unfold Kc at hx;obtain⟨c,f⟩:=hx;have q:=s.after.Bf _ _ c;refine⟨by simp,.inl ⟨m,_,rfl,run_takeDeferred q,?_⟩⟩;exact uZ b X r (s.step (bD.put s.after.Bf c)) f
theorem lS(A:Ar)[bf A](i:fF P T)(m:P.funcs[f]? =some fn)(j:fn.body=some c)(o:eI T c=true){h:ab}
 (hx:cQo A T (λ_=>P) c fn.ntmps fn.results.toList args h R) (z:∀c s h,¬T.kp c s h:=by exact λ_ _ _ k=>k):Dr (λ_=>P) f args h R:=by
 refine⟨λw p=>?_⟩;refine callsIn_wide.1 (callsIn_of_wp_marks (F:=Fence.wide) (n:=0) m j trivial ((wpIn_wide (n:=0)).2 ?_));refine Oh (A:=A) (TT:=λ_=>T) (λ_=>i) c (λ_=>o) (.inr λ_=>z) (ds:=[]) (pZ (f:=f) (fn:=fn) p) hx (λ_=>mI.none z) λe V Z L' h' B d b a g=>?_;have fin:Kc T (λ_=>P) V (λh=>wG T Z L' h fn.results.toList (λl=>pB l (λv=>R v h))) h'->LeavesInM Fence.wide 0 P fn d.tmps (λe b=>∃v h',e=.returned v/\R v h'/\bD h w h' b) d.defers .returning b:=λr=>by
  have:=uZ i _ V g r;rw[g.defers];exact this
 cases e with
 |normal=>exact fin a
 |ret=>exact fin a
 |exit id=>exact a.elim
end Go.Sx
