import Derived.Test.YthnbpiejemlbeaaGreatSxA
import Derived.Scope
set_option linter.all false
namespace Go.Sx
variable {g:Bool}{c:Code}{K:Env->Loc->ad->Prop}{Q:Exit->Act->World->Prop}{fn:Func}{f:FuncId}{args cs z:List Value}{L':Loc}{bytes cap i j size:Nat}{o:Oper}{F:Operand->SV}{b:Option Addr}{d:Option Nat}{q:Prop}{k:SV->Loc->ad->Prop}{p:Unit->Program}{y:Unit->Prop}{s:Unit->Sem Value}{R:Value->ad->Prop}{h':ad}
variable {ro:Option Nat}{n:Nat}
variable {P:Program}{T:bt}{A:Ar}[bM A]
variable {ds:List Deferred}{h0:ad}{w0:World}{β:Nat->Nat}{env:Env}{L:Loc}{h:ad}{a:Act}{w:World}
theorem aKZ{ops:List Oper}{env:Env}{n c n':Unit->Prop}(h:gd ops env o y n)(b:y ()->c ())(a:n ()->n' ()):gd ops env o c n':=by
 unfold gd at *;repeat' split at h
 all_goals first
  |exact b h
  |exact a h
  |exact h.elim
  | (rcases mD h with⟨rfl,h⟩ | ⟨rfl,h⟩<;>first|exact b h|exact a h)
theorem xh(s:ef ds h0 w0 β env L h a w){ops:Array Oper}{n:Unit->Prop}(g:gd ops.toList env o y n):
 (Region.wanted o (yielded ops a.tmps)=true/\y ())\/(Region.wanted o (yielded ops a.tmps)=false/\n ()):=by
 unfold gd at g;split at g
 .rename_i S;exact .inl ⟨by simp[Region.wanted,S],g⟩
 rename_i j t Z;split at g
 .rename_i k C;have P:ops[j]? =some k:=gg
  split at g
  .rename_i d hd;split at g
   .rename_i b c;have e:=getD_some c io;have oR:=s.slot d _ e;have i:d<a.tmps.size:=by rw[s.size];grind
    have oR:a.tmps.getD d undef=.bool b:=oR;have v:a.tmps[d]? =some (.bool b):=by
     rw[kJl]at oR
     grind
    have l:Region.wanted o (yielded ops a.tmps)=(b==t):=by simp[Region.wanted,Z,yielded,P,hd,v]
    grind [mD]
   .rename_i f c;have e:=getD_some c io;have oR:=s.slot d _ e;have i:d<a.tmps.size:=by rw[s.size];grind
    have oR:a.tmps.getD d undef=.tuple f:=oR;have v:a.tmps[d]? =some (.tuple f):=by
     rw[kJl]at oR
     grind
    exact .inr ⟨by simp[Region.wanted,Z,yielded,P,hd,v],g⟩
   grind
  rename_i hd;exact .inr ⟨by simp[Region.wanted,Z,yielded,P,hd],g⟩
 rename_i C;have P:ops[j]? =none:=gg
 exact .inr ⟨by simp[Region.wanted,Z,yielded,P],g⟩
theorem rR(d:il P T){ops:Array Oper}
 (i:pd T ds h0 w0 Q) (e:∀Y L' h' p m w',K Y L' h'->ef ds h0 w0 p Y L' h' m w'->Q .normal m w'):
 ∀(l:List Oper) (env:Env) (L:Loc) (h:ad) (β:Nat->Nat) (a:Act) (w:World),ef ds h0 w0 β env L h a w->
  Fq A T (λ_=>P) ops.toList K l env L h->wpListIn (FW ro) n P ops Q l a w
 | [],env,L,h,β,a,w,b,hx=>e _ _ _ _ _ _ hx b
 |o::r,env,L,h,β,a,w,b,hx=>by
  unfold Fq at hx;unfold wpListIn;rcases xh b hx with⟨hw,hx⟩|⟨hw,hx⟩
  .rw[if_pos hw];split at hx
   .obtain⟨t,z,g,j⟩:=uG hx;obtain⟨v,w',p,k,u⟩:=CF d b (j (λx y=>x=t/\y=z) ⟨rfl,rfl⟩);refine vP k ?_;exact rR d i e r _ _ _ _ _ _ u g
   refine PN d b (Lc:=L) (λ_ _ q=>q) hx i λt v E L' h' w' g j k=>?_;have:E=L':=by
    rcases k with⟨e1,f⟩|⟨s,c,x,y,-,-,e1,f⟩
    .rw[e1,f]
    rw[e1,f]
   subst this;exact rR d i e r _ _ _ _ _ _ j g
  rw[if_neg (by simp[hw])];refine⟨λ_ _=>trivial,?_⟩;exact rR d i e r _ _ _ _ _ _ (b.put (x:=.v undef) (v:=undef) rfl) hx
def oC(o:Oper):Bool:=match o.op with
 | .load .. =>true
 |_=>false
def oQ(o:Oper):Bool:=match o.op with
 | .alloc _| .box .. =>true
 |_=>false
def gL(o:Oper):Bool:=match o.op with
 | .assign _=>true
 |_=>false
theorem pq{m:Operand->SV}{L:Loc}{h:ad}{k:SV->Option (List Value)->Prop}(j:ki A T p o m L h k)
 (u:∀x∈o.op.operands.toList,F x=m x) (w:oC o=true->∀x∈o.op.operands.toList,∀s off,m x=.loc s off->∀c,mM L s=some c->mM L' s=some c)
 (B:oQ o=true->∀d,o.dst=some d->mM L' d=none) (D:oC o=true->h'=h):ki A T p o F L' h' k:=by
 unfold ki at j |-;split at j;case h_1 x a=>simp only[a]at u |-;rw[u x (by simp[Op.operands])];exact j
 case h_2 c x y a=>simp only[a]at u |-;rw[u c (by simp[Op.operands]),u x (by simp[Op.operands]),u y (by simp[Op.operands])];exact j
 case h_3 e a=>
  grind [oQ]
 case h_4 e x a=>
  have M:=B (by simp[oQ,a]);simp only[a]at u |-;rw[u x (by simp[Op.operands])];split at j
  .exact j.elim
  grind
 case h_5 t x a=>
  have K:=w (by simp[oC,a]);have Q:=D (by simp[oC,a]);subst Q;simp only[a]at u K |-;rw[u x (by simp[Op.operands])];split at j
  .exact j.elim
  split at j
  .rename_i s off hx;split at j
   .rename_i c C;simp only[K x (by simp[Op.operands]) s off hx c C];exact j
   grind
  .exact j
  grind
 case h_6 x a=>simp only[a]at u |-;rw[u x (by simp[Op.operands])];exact j
 case h_7 t x f a=>simp only[a]at u |-;rw[u x (by simp[Op.operands])];exact j
 case h_8 t x i a=>simp only[a]at u |-;rw[u x (by simp[Op.operands]),u i (by simp[Op.operands])];exact j
 case h_9 t x i a=>simp only[a]at u |-;rw[u x (by simp[Op.operands]),u i (by simp[Op.operands])];exact j
 case h_10 t x f a=>simp only[a]at u |-;rw[u x (by simp[Op.operands])];exact j
 case h_11 x i a=>simp only[a]at u |-;rw[u x (by simp[Op.operands])];exact j
 case h_12 t parts a=>
  simp only[a]at u |-;have:∀l:List (Nat×Operand),(∀q∈l,F q.2=m q.2)->po F l=po m l:=λl=>by
   induction l with
   |nil=>intro _;rfl
   |cons q r N=>
    intro G
    grind [po]
  rw[this parts.toList (λq G=>u q.2 (by simp only[Op.operands,kZd];grind))];exact j
 case h_13 op t x y ty a=>simp only[a]at u |-;rw[u x (by simp[Op.operands]),u y (by simp[Op.operands])];exact j
 case h_14 op t x a=>simp only[a]at u |-;rw[u x (by simp[Op.operands])];exact j
 case h_15 s d x a=>simp only[a]at u |-;rw[u x (by simp[Op.operands])];exact j
 case h_16 t x a=>simp only[a]at u |-;rw[u x (by simp[Op.operands])];exact j
 case h_17 fn f c a=>
  simp only[a]at u |-;rw[kJN (g:=m) (λx hx=>u x (by simp only[Op.operands,kJM,kJj];exact .inl hx)),
   kJN (l:=c.toList) (g:=m) (λx hx=>u x (by simp only[Op.operands,kJM,kJj];exact .inr hx))]
  exact j
 case h_18 t x I E J a=>
  simp only[a]at u |-;have v:∀y:Option Operand,(∀z,y=some z->F z=m z)->aZT F y=aZT m y:=λy H=>by
   cases y with
   |none=>rfl
   |some z=>simp only[aZT,H z rfl]
  rw[v I (λz n=>u z (by simp[Op.operands,n])),v E (λz n=>u z (by simp[Op.operands,n])),v J (λz n=>u z (by simp[Op.operands,n])),
   u x (by simp[Op.operands])]
  exact j
 case h_19 b args argTypes a=>simp only[a]at u |-;rw[kJN (g:=m) (λx hx=>u x (by simp[Op.operands,Call.operands];simpa using hx))];exact j
 case h_20 x q as ok a=>simp only[a]at u |-;rw[u x (by simp[Op.operands])];exact j
 grind
theorem Zm{d:Operand->SV}{L:Loc}{h:ad}(c:hx A T p o d L h k)
 (u:∀x∈o.op.operands.toList,F x=d x) (Z:∀t∈T.rs,F (.tmp t)=d (.tmp t)):hx A T p o F L h k:=by
 have H:(T.rs.map λt=>F (.tmp t))=(T.rs.map λt=>d (.tmp t)):=kJN Z;unfold hx at c |-;split at c;case h_1 x a=>simp only[a]at u |-;rw[u x (by simp[Op.operands])];exact c
 case h_2 t x y a=>simp only[a]at u |-;rw[u x (by simp[Op.operands]),u y (by simp[Op.operands])];exact c
 case h_3 e a=>grind
 case h_4 e x a=>simp only[a]at u |-;rw[u x (by simp[Op.operands])];exact c
 case h_5 t len parts a=>
  simp only[a]at u |-;have:∀l:List (Nat×Operand),(∀q∈l,F q.2=d q.2)->po F l=po d l:=λl=>by
   induction l with
   |nil=>intro _;rfl
   |cons q r n=>
    intro j
    grind [po]
  rw[this parts.toList (λq j=>u q.2 (by simp only[Op.operands,kZd];grind))];exact c
 case h_6 t x y a=>simp only[a]at u |-;rw[u x (by simp[Op.operands]),u y (by simp[Op.operands])];exact c
 case h_7 t r a=>grind
 case h_8 f args argTypes a=>simp only[a]at u |-;rw[u f (by simp[Op.operands,Call.operands]),kJN (g:=d) (λx hx=>u x (by simp[Op.operands,Call.operands];grind)),H];exact c
 case h_9 b args argTypes a=>simp only[a]at u |-;rw[kJN (g:=d) (λx hx=>u x (by simp[Op.operands,Call.operands];simpa using hx))];exact c
 case h_10 src dst x a=>simp only[a]at u |-;rw[u x (by simp[Op.operands])];exact c
 case h_11 t x i b a=>simp only[a]at u |-;rw[u x (by simp[Op.operands]),u i (by simp[Op.operands])];exact c
 case h_12 t m i x a=>simp only[a]at u |-;rw[u m (by simp[Op.operands]),u i (by simp[Op.operands]),u x (by simp[Op.operands])];exact c
 case h_13 t m i a=>simp only[a]at u |-;rw[u m (by simp[Op.operands]),u i (by simp[Op.operands])];exact c
 case h_14 t m i x a=>simp only[a]at u |-;rw[u m (by simp[Op.operands]),u i (by simp[Op.operands]),u x (by simp[Op.operands])];exact c
 case h_15 t x a=>simp only[a]at u |-;rw[u x (by simp[Op.operands])];exact c
 case h_16 it str a=>simp only[a]at u |-;rw[u it (by simp[Op.operands])];exact c
 case h_17 it a=>simp only[a]at u |-;rw[u it (by simp[Op.operands])];exact c
 case h_18 t m i x a=>simp only[a]at u |-;rw[u m (by simp[Op.operands]),u i (by simp[Op.operands]),u x (by simp[Op.operands])];exact c
 case h_19 x a=>simp only[a]at u |-;rw[u x (by simp[Op.operands]),H];exact c
 grind
variable {P:Program}{T:bt}{A:Ar}[bM A]
variable {ds:List Deferred}{h0:ad}{w0:World}
def mL(o:Oper):List Nat:=(o.after.toList.filter λe=>Region.binds .any e).map (·.on)
def yZ(T:bt)(ops:Array Oper):Bool:=
 (List.range ops.size).all λi=>match ops[i]? with
  |none=>false
  |some oi=>(mL oi).all (λe=>decide (e<i))&&
   (match oi.dst with|none=>true|some d=> !nv T oi|| !(oi.looksAt ops).contains d)&&
   (List.range ops.size).all λj=>i==j||match ops[j]? with
    |none=>false
    |some oj=>match oi.dst with
     |none=>true
     |some d=>oj.dst !=some d&&(!(oj.looksAt ops).contains d||(mL oj).contains i||(!nv T oi&&(mL oi).contains j))
def Yb(T:bt)(ops:Array Oper):Bool:=ops.toList.all λo=>match o.dst with
 |some d=> !T.rs.contains d
 |none=>true
theorem Uu{T:bt}{ops:Array Oper}(h:Yb T ops=true)(a:ops[i]? =some o){t:Nat}(b:t∈T.rs):o.dst≠some t:=λhd=>by
 grind [Yb]
def mA(ops:Array Oper):Nat->List Nat->List Nat
 |0,s=>s
 |i+1,s=>mA ops i (if s.contains i then(match ops[i]? with|some o=>mL o|none=>[])++s else s)
def vh:yS->List Nat
 | .af i _ _=>[i]
 | .fork l r=>vh l++vh r
 |_=>[]
def KK(ops:Array Oper)(p:yS)(listed:List Nat):Bool:=
 (List.range ops.size).all λj=>listed.contains j||(vh p).contains j||match ops[j]? with
  |some o=> !(mL o).all listed.contains
  |none=>true
def Ey(T:bt)(ops:Array Oper):yS->Bool->List Nat->List Nat->List Nat->Bool
 | .done,br,listed,_,_=> !br&&(List.range ops.size).all listed.contains
 | .aa i rest,br,listed,pend,known=> !br&& !listed.contains i&&(match ops[i]? with
  |some o=>nv T o&&(mL o).all listed.contains
  |none=>false)&&Ey T ops rest false (i::listed) (i::pend) known
 | .af i pn rest,br,listed,pend,known=>(br||KK ops (.af i pn rest) listed)&& !listed.contains i&&(match ops[i]? with
  |some o=> !nv T o&&(gL o||pend.all λj=>(mA ops ops.size (i::known)).contains j||pn.contains j||(match ops[j]? with
   |some oj=> !oC oj
   |none=>true))
  |none=>false)&&
  Ey T ops rest false (i::listed) (pend.filter λj=> !(mA ops ops.size (i::known)).contains j) (mA ops ops.size (i::known))
 | .fork l r,br,listed,pend,known=>(br||KK ops (.fork l r) listed)&&Ey T ops l true listed pend known&&Ey T ops r true listed pend known
theorem qJ{ops:Array Oper}(r:yZ T ops=true)(h:ops[i]? =some o):
 (∀e∈mL o,e<i)/\(nv T o=true->∀d,o.dst=some d->d∉o.looksAt ops)/\∀j a,i≠j->ops[j]? =some a->∀d,o.dst=some d->a.dst≠some d/\
  (d∈a.looksAt ops->i∈mL a\/(nv T o=false/\j∈mL o)):=by
 grind [yZ]
def In(X:Array Bool)(i:Nat):Prop:=X.getD i false=true
theorem In.set{X:Array Bool}(h:i<X.size):In (X.setIfInBounds i true) j↔i=j\/In X j:=by
 unfold In;simp only[kJl,kXI]
 grind
theorem IH:i∈mL o↔∃e∈o.after,Region.binds .any e=true/\e.on=i:=by simp[mL,and_assoc]
theorem Cv{ops:Array Oper}{X:Array Bool}(hX:X.size=ops.size):
 j∈Region.ready .any ops X↔¬In X j/\∃o,ops[j]? =some o/\∀e∈mL o,In X e:=by
 rw[mem_ready];constructor
 .grind [In,IH]
 rintro⟨d,o,c,h⟩;have Z:j<X.size:=gg
 refine⟨?_,o,c,λe a b=>h e.on (IH.2 ⟨e,a,b,rfl⟩)⟩
 grind [In]
theorem Hb{ops:Array Oper}{X:Array Bool}(hd:∀i o,In X i->ops[i]? =some o->∀e∈mL o,In X e):
 ∀(n:Nat) (s:List Nat),(∀i∈s,In X i)->∀i∈mA ops n s,In X i
 |0,s,h=>h
 |n+1,s,h=>by
  unfold mA;refine Hb hd n _ λi a=>?_
  grind
structure rN where
 i:Nat
 o:Oper
 sv:SV
 nb:Option (List Value)
def rN.fact(A:Ar)(T:bt)(P:Program)(ops:Array Oper)(env:Env)(L:Loc)(h:ad)(x:rN):Prop:=
 gd ops.toList env x.o (λ_=>ki A T (λ_=>P) x.o (rl env) (if oQ x.o then []else L) h (λa b=>a=x.sv/\b=x.nb)) (λ_=>x.sv=.v undef/\x.nb=none)
structure jm(A:Ar)(T:bt)(P:Program)(ops:Array Oper)(X:Array Bool)(D:List rN)(listed pend known:List Nat)(envc:Env)(Lc:Loc)(kJ:Env)(La:Loc)(h:ad):Prop where
 size:X.size=ops.size
 cQA:∀j,j∈listed↔In X j\/∃x∈D,x.i=j
 apart:∀x∈D,¬In X x.i
 down:∀i o,In X i->ops[i]? =some o->∀e∈mL o,In X e
 known:∀i∈known,In X i
 pend:∀x∈D,x.i∈pend
 len:kJ.length=envc.length
 env:∀t,(∀x∈D,x.o.dst≠some t)->kJ[t]? =envc[t]?
 dst:∀x∈D,∀t,x.o.dst=some t->t<envc.length->envc[t]? =some x.sv
 loc:∀s,(∀x∈D,x.nb.isSome=true->x.o.dst≠some s)->mM La s=mM Lc s
 box:∀x∈D,∀s c,x.nb=some c->x.o.dst=some s->mM La s=none/\mM Lc s=some c
 op:∀x∈D,ops[x.i]? =some x.o/\nv T x.o=true
 dXY:∀x∈D,∀e∈mL x.o,e∈listed
 uniq:∀x∈D,∀y∈D,x.i=y.i->x=y
 fact:∀x∈D,x.fact A T P ops envc Lc h
theorem By{ops:List Oper}{env:Env}{n:Unit->Prop}(h:gd ops env o y n):
 (y ()/\∀a n':Unit->Prop,gd ops env o a n'↔a ())\/(n ()/\∀a n':Unit->Prop,gd ops env o a n'↔n' ()):=by
 unfold gd at *;repeat' split at h
 all_goals first
  |exact h.elim
  |exact .inl ⟨h,λ_ _=>Iff.rfl⟩
  |exact .inr ⟨h,λ_ _=>Iff.rfl⟩
  | (rcases mD h with⟨rfl,h⟩ | ⟨rfl,h⟩<;>first
   |exact .inl ⟨h,λ_ _=>Iff.rfl⟩
   |exact .inr ⟨h,λ_ _=>Iff.rfl⟩)
theorem GJ{ops:Array Oper}{env c:Env}{n:Unit->Prop}(g:gd ops.toList env o y n)(h:∀t∈o.looksAt ops,c[t]? =env[t]?):
 gd ops.toList c o y n:=by
 have key:∀(j:Nat) (w:Bool),o.guard=some (j,w)->∀b,ops.toList[j]? =some b->∀d,b.dst=some d->c.getD d .u=env.getD d .u:=λj w a b Z d hd=>by
  rw[kXC,kXC,h d ?_];unfold Oper.looksAt
  grind
 unfold gd at g |-;cases a:o.guard with
 |none=>grind
 |some e=>
  grind
theorem AN{ops:Array Oper}{env c:Env}(h:∀t∈o.looksAt ops,c[t]? =env[t]?):∀x∈o.op.operands.toList,rl c x=rl env x:=λx hx=>by
 cases x with
 |tmp t=>
  show c.getD t .u=env.getD t .u;rw[kXC,kXC,h t ?_];unfold Oper.looksAt
  grind
 |const v=>rfl
 |global g=>rfl
 |func f=>rfl
theorem ni{env:Env}{x:SV}{t:Nat}(h:d≠some t):(put env d x)[t]? =env[t]? :=by
 cases d with
 |none=>rfl
 |some u=>grind [put]
theorem AT{env:Env}{t:Nat}{x:SV}(h:t<env.length):(put env (some t) x)[t]? =some x:=by
 grind [put]
theorem oF{env:Env}{x:SV}:(put env d x).length=env.length:=by cases d<;>simp[put]
theorem Yn(h:vA g cs (λ_=>q)):q:=(ng h).elim λ_ h=>h.2
theorem dZz{h:ad}{x:Addr}{n:Nat}(k:Ai h x n (λcs=>vA g cs (λ_=>q))):q:=k.out.elim λ_ h=>Yn h.2
theorem bKz(h:uS p s (λ_=>q)):q:=h.out.elim λ_ h=>h.2
theorem eQv{p:Unit->Prop}(h:vI p (λ_=>q)):q:=h.out
theorem XK{len:Nat}{l a m:Option Int}(h:Cq A b len cap size l a m (λ_=>q)):q:=(uy h).elim λ_ h=>h.1
theorem XL{s:ByteArray}{l a:Option Int}(h:Fw A s l a (λ_=>q)):q:=(zI h).elim λ_ h=>h.1
theorem cJH{o:BinOp}{a b:Value}{e:(Value->Prop)->Unit->Prop}(d:∀k,e k ()->∃v,k v/\∀c:Value->Prop,c v->e c ())(f:NU A o a b (λ_=>q) (e (λ_=>q))):q:=(Hf d f).elim λ_ h=>h.1
theorem cJG{o:BinOp}{a b:Value}(d:NU A o a b (λ_=>q) (λ_=>uS p s (λ_=>q))):q:=
 cJH (e:=λk _=>uS p s k) (λk h=>by
  obtain⟨v,g,c⟩:=h.out;exact⟨v,c,λf h'=>⟨v,g,h'⟩⟩) d
theorem zR{i:Operand->SV}{L:Loc}{h:ad}{s:SV}{n:Option (List Value)}(k:ki A T p o i L h (λa b=>a=s/\b=n)):
 (oQ o=true->n.isSome=true/\∃d,o.dst=some d/\mM L d=none)/\(oQ o=false->n=none):=by
 obtain⟨j,Z,⟨rfl,rfl⟩,R⟩:=uG k;clear k;have c:=R (λa b=>b=Z) rfl;clear R;unfold ki at c;split at c;case h_3 e f=>
  grind [oQ]
 case h_4 e x f=>
  grind [oQ]
 case h_21=>exact c.elim
 all_goals
  rename_i f;refine⟨λg=>by simp[oQ,f]at g,λ_=>?_⟩;clear f;repeat' split at c
  all_goals first
   |exact c.elim
   |exact Eq.symm c
   |exact Eq.symm (dZz c)
   |exact Eq.symm (Yn c)
   |exact Eq.symm (bKz c)
   |exact Eq.symm (eQv c)
   |exact Eq.symm (cJG c)
   |exact Eq.symm (XK c)
   |exact Eq.symm (XL c)
variable {ro:Option Nat}{n:Nat}
variable {P:Program}{T:bt}{A:Ar}[bM A]
variable {ds:List Deferred}{h0:ad}{w0:World}{β:Nat->Nat}{h:ad}{a:Act}{w:World}
variable {ops:Array Oper}{X:Array Bool}{D:List rN}{listed pend known:List Nat}{envc kJ:Env}{Lc La:Loc}
theorem xH{L:Loc}{n:Option (List Value)}{s:Nat}:mM (eZ L d n) s=if d=some s/\n.isSome=true then n else mM L s:=by
 cases d with
 |none=>simp[eZ]
 |some t=>
  cases n with
  |none=>simp[eZ]
  |some c=>
   grind [eZ,mM]
theorem rN.xq{x:rN}{env Y:Env}{L:Loc}{h:ad}(f:x.fact A T P ops env L h)(e:∀t∈x.o.looksAt ops,Y[t]? =env[t]?)
 (g:oC x.o=true->∀s c,mM L s=some c->mM L' s=some c) (a:oC x.o=true->h'=h):x.fact A T P ops Y L' h':=by
 unfold rN.fact at *;refine aKZ (GJ f e) (λq=>?_) id;refine pq q (AN e) (λhl y k s off j c i=>?_) (λb d hd=>?_) a
 .grind
 rw[if_pos b];rfl
theorem jm.look(B:jm A T P ops X D listed pend known envc Lc kJ La h)(r:yZ T ops=true){k:Nat}(d:ops[k]? =some o)(p:∀e∈mL o,In X e):
 ∀t∈o.looksAt ops,kJ[t]? =envc[t]? :=λt g=>B.env t λx hx hd=>by
 obtain⟨f,hl⟩:=B.op x hx;obtain⟨-,i,b⟩:=qJ r f;by_cases c:x.i=k
 .grind
 rcases(b k o c d t hd).2 g with a| ⟨a,-⟩
 .exact B.apart x hx (p _ a)
 grind
theorem jm.sub(B:jm A T P ops X D listed pend known envc Lc kJ La h){s:Nat}{c:List Value}(hl:mM La s=some c):mM Lc s=some c:=by
 rw[<-B.loc s (λx hx n hd=>?_)]
 .exact hl
 obtain⟨c',y⟩:=kJm.1 n;rw[(B.box x hx s c' y hd).1]at hl;cases hl
theorem jm.gZi(B:jm A T P ops X D listed pend known envc Lc kJ La h)(h:In X j):j∈listed:=(B.cQA j).2 (.inl h)
theorem jm.take(B:jm A T P ops X D listed pend known envc Lc kJ La h)(hr:yZ T ops=true)(G:ops[i]? =some o)(Z:i∉listed)(z:nv T o=true)
 (Y:∀e∈mL o,e∈listed) {K:SV->Option (List Value)->Prop} {N:Prop}
 (hx:gd ops.toList envc o (λ_=>ki A T (λ_=>P) o (rl envc) Lc h K) (λ_=>N)):
 ∃v n,(K v n\/(N/\v=.v undef/\n=none))/\jm A T P ops X (⟨i,o,v,n⟩::D) (i::listed) (i::pend) known (put envc o.dst v) (eZ Lc o.dst n) kJ La h:=by
 obtain⟨-,w,U⟩:=qJ hr G;have V:∀x∈D,i≠x.i:=λx hx e=>Z ((B.cQA i).2 (.inr ⟨x,hx,e.symm⟩));have J:∃v n,(K v n\/(N/\v=.v undef/\n=none))/\rN.fact A T P ops envc Lc h ⟨i,o,v,n⟩/\(∀d c,o.dst=some d->n=some c->mM Lc d=none):=by
  rcases By hx with⟨p,q⟩|⟨p,q⟩
  .obtain⟨v,n,r,R⟩:=uG p;have C:=R (λa b=>a=v/\b=n) ⟨rfl,rfl⟩;refine⟨v,n,.inl r,(q _ _).2 ?_,λd c hd f=>?_⟩
   .exact pq C (λ_ _=>rfl) (λhl y _ s off _ c f=>by
     grind [oQ,oC]) (λE d hd=>by simp[E,mM]) (λ_=>rfl)
   have E:=zR C
   grind
  exact⟨.v undef,none,.inr ⟨p,rfl,rfl⟩,(q _ _).2 ⟨rfl,rfl⟩,λd c _ f=>by cases f⟩
 obtain⟨v,n,S,W,xd⟩:=J;have m:∀x∈D,∀t,o.dst=some t->x.o.dst≠some t:=λx hx t g=>(U x.i x.o (V x hx) (B.op x hx).1 t g).1;have Q:∀s c,mM Lc s=some c->mM (eZ Lc o.dst n) s=some c:=λs c f=>by
  rw[xH];split
  .rename_i u;obtain⟨c',yK⟩:=kJm.1 u.2
   grind
  exact f
 refine⟨v,n,S,⟨B.size,λj=>?_,λx hx=>?_,B.down,B.known,λx hx=>?_,by rw[oF];exact B.len,λt g=>?_,λx hx t hd l=>?_,λs L=>?_,λx hx s c H hd=>?_,
  λx hx=>?_,λx hx e F=>?_,λx hx y k M=>?_,λx hx=>?_⟩⟩
 .simp only[kXB,B.cQA j]
  grind
 .rcases kXB.1 hx with rfl|hx
  .exact λO=>Z (B.gZi O)
  exact B.apart x hx
 .rcases kXB.1 hx with rfl|hx
  .exact kXi
  exact kQH _ (B.pend x hx)
 .rw[ni (g ⟨i,o,v,n⟩ io)];exact B.env t λx hx=>g x (by simp[hx])
 .rw[oF]at l;rcases kXB.1 hx with rfl|hx
  .simp only at hd;rw[hd,AT l]
  rw[ni (λe=>m x hx t e hd)];exact B.dst x hx t hd l
 .rw[xH,if_neg (λf=>L ⟨i,o,v,n⟩ io f.2 f.1)];exact B.loc s λx hx=>L x (by simp[hx])
 .rcases kXB.1 hx with rfl|hx
  .simp only at H hd;refine⟨?_,by grind [xH]⟩;rw[B.loc s (λy k _ I=>m y k s hd I)]
   grind
  obtain⟨p,q⟩:=B.box x hx s c H hd
  grind
 .rcases kXB.1 hx with rfl|hx
  .exact⟨G,z⟩
  exact B.op x hx
 .rcases kXB.1 hx with rfl|hx
  .exact kQH _ (Y e F)
  exact kQH _ (B.dXY x hx e F)
 .rcases kXB.1 hx with rfl|hx<;>rcases kXB.1 k with rfl|k
  .rfl
  .exact absurd M (V y k)
  .exact absurd M.symm (V x hx)
  exact B.uniq x hx y k M
 rcases kXB.1 hx with rfl|hx
 .exact rN.xq W (λt g=>ni (λe=>w z t e g)) (λ_=>Q) (λ_=>rfl)
 refine rN.xq (B.fact x hx) (λt g=>ni (λe=>?_)) (λ_=>Q) (λ_=>rfl);rcases(U x.i x.o (V x hx) (B.op x hx).1 t e).2 g with r| ⟨r,-⟩
 .exact Z (B.dXY x hx i r)
 grind
theorem jm.catch(hT:il P T)(B:jm A T P ops X D listed pend known envc Lc kJ La h)(S:yZ T ops=true)(p:ef ds h0 w0 β kJ La h a w){x:rN}(hx:x∈D)
 (hp:∀e∈mL x.o,In X e)  {K:Act->World->Prop}
 (hK:∀q M w' J k,ef ds h0 w0 q J k h M w'->jm A T P ops (X.setIfInBounds x.i true) (D.filter λy=>y.i !=x.i) listed pend known envc Lc J k h->K M w'):
 wpOpIn (FW ro) n P ops Q x.i K a w:=by
 obtain⟨H,aZ⟩:=B.op x hx;have G:=B.look S H hp;have Z:x.i<X.size:=by rw[B.size];grind
 have C:∀y,(y∈D.filter λy=>y.i !=x.i)↔y∈D/\y.i≠x.i:=λy=>io
 have al:∀q v,ef ds h0 w0 q (put kJ x.o.dst x.sv) (eZ La x.o.dst x.nb) h (a.put x.o.dst v) w->True:=λ_ _ _=>trivial;have fin:jm A T P ops (X.setIfInBounds x.i true) (D.filter λy=>y.i !=x.i) listed pend known envc Lc (put kJ x.o.dst x.sv) (eZ La x.o.dst x.nb) h:=by
  obtain⟨-,-,Y⟩:=qJ S H;have ag:∀y∈D,y.i≠x.i->∀t,x.o.dst=some t->y.o.dst≠some t:=λy f bV t U=>(Y y.i y.o (Ne.symm bV) (B.op y f).1 t U).1;refine⟨by simp[B.size],λj=>?_,λy f=>?_,λi o N E e he=>?_,λi hi=>?_,λy f=>B.pend y ((C y).1 f).1,by rw[oF];exact B.len,λt U=>?_,
   λy f=>B.dst y ((C y).1 f).1,λs UM=>?_,λy f s c F hd=>?_,λy f=>B.op y ((C y).1 f).1,λy f=>B.dXY y ((C y).1 f).1,
   λy f z hz=>B.uniq y ((C y).1 f).1 z ((C z).1 hz).1,λy f=>B.fact y ((C y).1 f).1⟩
  .rw[B.cQA j,In.set Z]
   grind
  .rw[In.set Z];obtain⟨m,O⟩:=(C y).1 f;rintro(e|e)
   .exact O e.symm
   exact B.apart y m e
  .rw[In.set Z]at N |-;rcases N with e'|N
   .grind
   exact .inr (B.down i o N E e he)
  .rw[In.set Z];exact .inr (B.known i hi)
  .by_cases hd:x.o.dst=some t
   .by_cases l:t<envc.length
    .rw[hd,AT (by rw[B.len];exact l),B.dst x hx t hd l]
    have e1:(put kJ x.o.dst x.sv).length<=t:=by rw[oF,B.len];grind
    grind
   rw[ni hd];refine B.env t λy f I=>?_;by_cases L:y.i=x.i
   .rw[B.uniq y f x hx L]at I;exact hd I
   grind
  .rw[xH];split
   .rename_i g;obtain⟨c,r⟩:=kJm.1 g.2;rw[(B.box x hx s c r g.1).2,r]
   rename_i g;refine B.loc s λy f F I=>?_;by_cases L:y.i=x.i
   .rw[B.uniq y f x hx L]at I F;grind
   grind
  obtain⟨m,O⟩:=(C y).1 f;obtain⟨h3,h4⟩:=B.box y m s c F hd
  grind [xH]
 have R:=B.fact x hx;unfold rN.fact at R;have W:=GJ R G;unfold wpOpIn;simp only[H];rcases xh p W with⟨hw,hl⟩|⟨hw,hl⟩
 .rw[if_pos hw];have u:ki A T (λ_=>P) x.o (rl kJ) La h (λa b=>a=x.sv/\b=x.nb):=by
   refine pq hl (AN G) (λab y f s off V c g=>?_) (λhb d hd=>?_) (λ_=>rfl)
   .have:oQ x.o=false:=by grind [oC,oQ]
    rw[this]at g;simp only[kXk,if_false]at g;have pQ:rl kJ y=.loc s off:=by rw[AN G y f];exact V
    obtain⟨⟨c',r⟩,-⟩:=p.tQ pQ;have:=B.sub r
    grind
   obtain⟨m,d',ak,-⟩:=(zR hl).1 hb;obtain⟨c,g⟩:=kJm.1 m;exact(B.box x hx d c g hd).1
  obtain⟨v,w',q,h3,h4⟩:=CF hT p u
  grind [vP]
 rw[if_neg (by simp[hw])];obtain⟨e1,e2⟩:=hl;have kI:eZ La x.o.dst x.nb=La:=by grind [eZ]
 rw[kI,e1]at fin;refine⟨λ_ _=>trivial,?_⟩;exact hK _ _ _ _ _ (p.put (x:=.v undef) (v:=undef) rfl) fin
variable {ro:Option Nat}{n:Nat}
variable {P:Program}{T:bt}{A:Ar}[bM A]
variable {ds:List Deferred}{h0:ad}{w0:World}{β:Nat->Nat}{h:ad}{a:Act}{w:World}
variable {ops:Array Oper}{X:Array Bool}{D:List rN}{listed pend known:List Nat}{envc kJ:Env}{Lc La:Loc}
theorem Hy.mono{h:ad}{y:Addr}{k a:ad->Prop}(x:Hy h y cs k)(j:∀h',k h'->a h'):Hy h y cs a:=by obtain⟨c,e,fr,g,b,d,f,i⟩:=x.out;exact⟨c,e,fr,g,b,d,f,λh' e=>j _ (i h' e)⟩
theorem yQ.mono{h:ad}{y:Option Addr}{k d:ad->Prop}(x:yQ h y cs k)(c:∀h',k h'->d h'):yQ h y cs d:=by
 rcases x with⟨a,b⟩|⟨q,a,b⟩
 .exact .inl ⟨a,c _ b⟩
 exact .inr ⟨q,a,b.mono c⟩
theorem uW.mono{h:ad}{len n e:Nat}{new:List Value}{k a:Value->ad->Prop}(x:uW h b len cap n size bytes e new k)(d:∀v h',k v h'->a v h'):
 uW h b len cap n size bytes e new a:=
 ⟨x.one,λc=>(x.fits c).mono (λ_ q=>d _ _ q),λc=>by
  obtain⟨f,g,Y,i,j⟩:=x.bJg c
  grind⟩
theorem rk.mono{h:ad}{e:Nat}{l c:Int}{k a:Value->ad->Prop}(x:rk h e l c bytes z k)(d:∀v h',k v h'->a v h'):rk h e l c bytes z a:=
 ⟨x.len,x.room,λn h' e1 b=>d _ _ (x.out n h' e1 b)⟩
theorem iF.mono{h:ad}{len:Nat}{x:Option Addr}{n e:Nat}{k a:Value->ad->Prop}(q:iF h b len cap x n size bytes e k)(f:∀v h',k v h'->a v h'):
 iF h b len cap x n size bytes e a:=by
 obtain⟨new,c,d⟩:=q.out;exact⟨new,c,d.mono f⟩
theorem zy.mono{h:ad}{len:Nat}{x:Option Addr}{n:Nat}{k a:Value->ad->Prop}(q:zy h b len x n size k)(f:∀v h',k v h'->a v h'):
 zy h b len x n size a:=by
 obtain⟨cs,c,d,e⟩:=q.out;exact⟨cs,c,d,e.mono λh'=>f _ h'⟩
theorem Aj.mono{h:ad}{len:Nat}{k a:ad->Prop}(q:Aj h b len z k)(c:∀h',k h'->a h'):Aj h b len z a:=
 ⟨q.one,q.out.mono c⟩
theorem fL.mono{h:ad}{k a:Value->ad->Prop}(q:fL p s h k)(f:∀v h',k v h'->a v h'):fL p s h a:=
 ⟨λw b=>by
  obtain⟨v,w',h',c,d,e⟩:=q.out w b
  grind⟩
theorem vI.mono{p k a:Unit->Prop}(q:vI p k)(h:k ()->a ()):vI p a:=⟨q.h,h q.out⟩
theorem bQX.mono{l:Nat}{h:ad}{a:Value->ad->Prop}(x:bQX p l args h R)(r:∀v h',R v h'->a v h'):bQX p l args h a:=
 ⟨λw i=>by
  obtain⟨fn,t,D,b,f,g⟩:=x.out w i;exact⟨fn,t,D,b,f,λn=>(g n).mono λe w' ⟨v,h',e1,c,d⟩=>⟨v,h',e1,r _ _ c,d⟩⟩⟩
theorem cQW{g:Operand->SV}{L:Loc}{h:ad}(a:hx A T p o g L h k)(F:Loc->ad->Prop)
 (m:gL o=true->F L h) (N:gL o=false->ia o=false->∀h',F L h') (S:ia o=true->∀L' h',F L' h'):
 hx A T p o g L h (λx L' h'=>k x L' h'/\F L' h'):=by
 unfold hx at a |-;split at a;case h_1 x d=>grind [gL]
 case h_2 t q x d=>
  have K:=S (by simp[ia,d]);try simp only[d]
  repeat' split at a
  all_goals first
   |exact a.elim
   |exact⟨a,K _ _⟩
   |exact Hy.mono a (λh' q=>⟨q,K _ _⟩)
 case h_3 e d=>
  grind [gL,ia]
 case h_4 e x d=>
  grind [gL,ia]
 case h_5 t len parts d=>
  have G:=N (by simp[gL,d]) (by simp[ia,d]);try simp only[d]
  repeat' split at a
  all_goals first
   |exact a.elim
   |exact λn h' e1 i=>⟨a n h' e1 i,G _⟩
 case h_6 t l c d=>
  have G:=N (by simp[gL,d]) (by simp[ia,d]);try simp only[d]
  repeat' split at a
  all_goals first
   |exact a.elim
   |exact rk.mono a (λv h' q=>⟨q,G _⟩)
 case h_7 t r d=>
  grind [gL,ia]
 case h_8 f args argTypes d=>
  have G:=N (by simp[gL,d]) (by simp[ia,d]);try simp only[d]
  repeat' split at a
  all_goals first
   |exact a.elim
   |exact Wg.mono a (λv h' q=>⟨q,G _⟩) (λ_ _ q=>q)
   |exact Hl.mono a (λv h' q=>⟨q,G _⟩)
   |exact bQX.mono a (λv h' q=>⟨q,G _⟩)
   |exact fL.mono a (λv h' q=>⟨q,G _⟩)
 case h_9 b args argTypes d=>
  have G:=N (by simp[gL,d]) (by simp[ia,d]);try simp only[d]
  repeat' split at a
  all_goals first
   |exact a.elim
   |exact iF.mono a (λv h' q=>⟨q,G _⟩)
   |exact uW.mono a (λv h' q=>⟨q,G _⟩)
   |exact vI.mono a (λj=>⟨uW.mono j.out λv h' q=>⟨q,G _⟩⟩)
   |exact zy.mono a (λv h' q=>⟨q,G _⟩)
   |exact Aj.mono a (λh' q=>⟨q,G _⟩)
   |exact fL.mono a (λv h' q=>⟨q,G _⟩)
 case h_19 x d=>grind
 case h_20=>exact a.elim
 all_goals
  rename_i d;have G:=N (by simp[gL,d]) (by simp[ia,d]);try simp only[d]
  repeat' split at a
  all_goals first
   |exact a.elim
   |exact fL.mono a (λv h' q=>⟨q,G _⟩)
theorem cQV{c:Operand->SV}{L:Loc}{h:ad}(d:hx A T p o c L h k):
 hx A T p o c L h (λx L' h'=>k x L' h'/\(ia o=false->L'=L)/\(gL o=true->h'=h)):=
 cQW d (λL' h'=>(ia o=false->L'=L)/\(gL o=true->h'=h)) (λ_=>⟨λ_=>rfl,λ_=>rfl⟩) (λb a h'=>⟨λ_=>rfl,λe=>gg⟩)
  (λb L' h'=>⟨λa=>gg,λa=>(by
   cases q:o.op<;>simp[gL,ia,q]at b a)⟩)
theorem Cy{T:bt}{a:Bool}{b:List Oper}{h:ad}{L:Loc}{env:Env}:∀ {l:List Nat} {k:Unit->Prop},pins T a b h L env l k->
 (∀j∈l,∃o,b[j]? =some o/\gd b env o (λ_=>IC T a h L env o (λ_=>True)) (λ_=>True))/\k ()
 | [],k,p=>⟨λ_ h=>(by cases h),p⟩
 |i::r,k,p=>by
  unfold pins at p;split at p
  .rename_i o C;have J:∀ {R:Unit->Prop},IC T a h L env o R->IC T a h L env o (λ_=>True)/\R ():=λ{R} q=>by
    unfold IC at q |-;split at q
    .rename_i t y B;try simp only[B]at q |-
     split at q
     .rename_i x hx;try simp only[hx]
      obtain⟨cs,f,m⟩:=q.out;obtain⟨v,g,d⟩:=ng m;exact⟨⟨cs,f,qi g λA e=>by subst e;exact⟨d.h,trivial⟩⟩,d.out⟩
     .rename_i s off hx;try simp only[hx]
      split at q
      .exact⟨trivial,q⟩
      split at q
      .rename_i c z;try simp only[z]
       split at q
       .rename_i cs n;try simp only[n]
        obtain⟨v,g,d⟩:=ng q;exact⟨qi g λA e=>by subst e;exact⟨d.h,trivial⟩,d.out⟩
       grind
      grind
     grind
    grind
   rcases By p with⟨f,m⟩|⟨f,m⟩
   .obtain⟨g,d⟩:=J f;obtain⟨u,w⟩:=Cy d
    grind
   obtain⟨u,w⟩:=Cy f
   grind
  grind
theorem jm.af(hT:il P T)(B:jm A T P ops X D listed pend known envc Lc kJ La h)(hr:yZ T ops=true)(CL:Yb T ops=true)(hs:ef ds h0 w0 β kJ La h a w){k:Nat}{f:Oper}
 (hk:ops[k]? =some f) (UP:k∉listed) (aw:nv T f=false) (hp:∀e∈mL f,In X e) {pn:List Nat} {R:Env->Loc->ad->Prop}
 (S:gL f=true\/∀j∈pend,j∈mA ops ops.size (k::known)\/j∈pn\/(∀oj,ops[j]? =some oj->oC oj=false))
 (hx:gd ops.toList envc f (λ_=>hx A T (λ_=>P) f (rl envc) Lc h (λx L' h'=>pins T (ia f) ops.toList h' L' (put envc f.dst x) pn (λ_=>R (put envc f.dst x) L' h')))
  (λ_=>R (put envc f.dst (.v undef)) Lc h))  {K:Act->World->Prop} (iZ:pd T ds h0 w0 Q)
 (hK:∀a' w' DJ Jh p Z h',R DJ p h'->ef ds h0 w0 β Jh Z h' a' w'->
  jm A T P ops (X.setIfInBounds k true) D (k::listed) (pend.filter λj=> !(mA ops ops.size (k::known)).contains j) (mA ops ops.size (k::known)) DJ p Jh Z h'->K a' w'):
 wpOpIn (FW ro) n P ops Q k K a w:=by
 obtain⟨-,-,PU⟩:=qJ hr hk;have Gt:=B.look hr hk hp;have O:k<X.size:=by rw[B.size];grind
 have bV:∀x∈D,k≠x.i:=λx hx e=>UP ((B.cQA k).2 (.inr ⟨x,hx,e.symm⟩));have ak:∀x∈D,∀t,f.dst=some t->x.o.dst≠some t:=λx hx t g=>(PU x.i x.o (bV x hx) (B.op x hx).1 t g).1;have M:∀x∈D,∀t∈x.o.looksAt ops,f.dst≠some t:=λx hx t g hd=>by
  rcases(PU x.i x.o (bV x hx) (B.op x hx).1 t hd).2 g with I| ⟨-,I⟩
  .exact UP (B.dXY x hx k I)
  exact B.apart x hx (hp _ I)
 have C:∀i o,In (X.setIfInBounds k true) i->ops[i]? =some o->∀e∈mL o,In (X.setIfInBounds k true) e:=λi o N al e he=>by
  rw[In.set O]at N |-;rcases N with e'|N
  .grind
  exact .inr (B.down i o N al e he)
 have Qm:∀i∈mA ops ops.size (k::known),In (X.setIfInBounds k true) i:=Hb C _ _ λi hi=>by
  rw[In.set O];rcases kXB.1 hi with rfl|hi
  .exact .inl rfl
  exact .inr (B.known i hi)
 have r:∀x∈D,¬In (X.setIfInBounds k true) x.i:=λx hx N=>by
  rw[In.set O]at N;rcases N with e|e
  .exact bV x hx e
  exact B.apart x hx e
 have fin:∀(m:SV) (p Z:Loc) (h':ad),fQr Lc La p Z->(∀x∈D,x.fact A T P ops (put envc f.dst m) p h')->
  jm A T P ops (X.setIfInBounds k true) D (k::listed) (pend.filter λj=> !(mA ops ops.size (k::known)).contains j) (mA ops ops.size (k::known)) (put envc f.dst m) p (put kJ f.dst m) Z h':=λm p Z h' hL hf=>by
  refine⟨by simp[B.size],λj=>?_,r,C,Qm,λx hx=>?_,by rw[oF,oF];exact B.len,λt g=>?_,λx hx t hd l=>?_,λs U=>?_,λx hx s c hn hd=>?_,B.op,
   λx hx e he=>kQH _ (B.dXY x hx e he),B.uniq,hf⟩
  .rw[kXB,B.cQA j,In.set O]
   grind
  .simp only[kZp,Rs,kQJ,decide_eq_false_iff_not];exact⟨B.pend x hx,λu=>r x hx (Qm _ u)⟩
  .by_cases hd:f.dst=some t
   .by_cases l:t<envc.length
    .rw[hd,AT (by rw[B.len];exact l),AT l]
    have e1:(put kJ f.dst m).length<=t:=by rw[oF,B.len];grind
    grind [put,oF]
   rw[ni hd,ni hd];exact B.env t g
  .rw[oF]at l;rw[ni (λe=>ak x hx t e hd)];exact B.dst x hx t hd l
  .rcases hL with⟨e1,H⟩|⟨s0,c,q1,q2,V,g2,e1,H⟩
   .rw[e1,H];exact B.loc s U
   rw[e1,H,sk V,sk g2,B.loc s U]
  obtain⟨Y,h2⟩:=B.box x hx s c hn hd;rcases hL with⟨e1,H⟩|⟨s0,c',q1,q2,V,g2,e1,H⟩
  .grind
  grind [sk]
 unfold wpOpIn;simp only[hk];rcases By hx with⟨Y,h2⟩|⟨Y,h2⟩
 .have hw:Region.wanted f (yielded ops a.tmps)=true:=by
   have hg:=GJ ((h2 (λ_=>True) (λ_=>False)).2 trivial) Gt
   grind [xh]
  rw[if_pos hw];have I:=Zm (cQV Y) (AN Gt) (λt g=>by
   have:=B.env t (λx hx=>Uu CL (B.op x hx).1 g)
   grind [rl])
  refine PN hT hs (λs c u=>B.sub u) I iZ λm v p L' h' w' ⟨V,g2,g3⟩ U hL=>?_;obtain⟨ao,hR⟩:=Cy V;refine hK _ _ _ _ _ _ _ hR U (fin m p L' h' hL λx hx=>?_);have q:∀t∈x.o.looksAt ops,(put envc f.dst m)[t]? =envc[t]? :=λt g=>ni (M x hx t g);have W:=B.fact x hx;cases ag:oC x.o with
  |false=>exact rN.xq W q (λe=>gg) (λe=>gg)
  |true=>
   rcases S with S|S
   .have fV:ia f=false:=by
     grind [gL,ia]
    exact rN.xq W q (λ_ s c u=>gg) (λ_=>g3 S)
   rcases S x.i (B.pend x hx)with L|L|L
   .exact absurd (Qm _ L) (r x hx)
   .obtain⟨o',yH,EE⟩:=ao x.i L;have J:ops[x.i]? =some o':=gg
    rw[(B.op x hx).1]at J;cases J;have aq:gd ops.toList (put envc f.dst m) x.o (λ_=>ki A T (λ_=>P) x.o (rl envc) (if oQ x.o then []else Lc) h (λa b=>a=x.sv/\b=x.nb)) (λ_=>x.sv=.v undef/\x.nb=none):=
     GJ (by unfold rN.fact at W;exact W) q
    unfold rN.fact;rcases By aq with⟨f1,f2⟩|⟨f1,f2⟩
    .refine(f2 _ _).2 ?_;have E:=(f2 _ _).1 EE;have G:oQ x.o=false:=by grind [oC,oQ]
     rw[G]at f1 |-;simp only[kXk,if_false]at f1 |-;have eM:x.nb=none:=(zR f1).2 G;cases Bn:x.o.op with
     |load t y=>
      have ab:y∈x.o.op.operands.toList:=by rw[Bn];simp[Op.operands]
      have an:rl (put envc f.dst m) y=rl envc y:=AN q y ab;unfold ki at f1 |-;unfold IC at E;simp only[Bn]at f1 E |-;rw[an]at E |-;have F:∀v:Value,(∃d,x.o.dst=some d/\(put envc f.dst m)[d]? =some (.v v))->(SV.v v=x.sv/\(none:Option (List Value))=x.nb):=λv ⟨d,hd,hv⟩=>by
       have l:d<envc.length:=by
        grind [oF]
       have:=B.dst x hx d hd l
       grind [ni,hx]
      split at f1
      .exact f1.elim
      split at f1
      .rename_i s off IN;simp only[IN]at E;split at E
       .grind
       split at f1
       .rename_i c u;split at E
        .rename_i c' yK;try simp only[yK]
         split at E
         .rename_i cs ar;exact qi E λv hq=>F v hq.h
         grind
        grind
       grind
      .rename_i z IN;simp only[IN]at E;obtain⟨cs,q1,q2⟩:=E.out;exact⟨cs,q1,qi q2 λv hq=>F v hq.h⟩
      grind
     |_=>simp[oC,Bn]at ag
    grind
   have:=L x.o (B.op x hx).1
   grind
 have hw:Region.wanted f (yielded ops a.tmps)=false:=by
  have hg:=GJ ((h2 (λ_=>False) (λ_=>True)).2 trivial) Gt
  grind [xh]
 rw[if_neg (by simp[hw])];refine⟨λ_ _=>trivial,?_⟩;refine hK _ _ _ _ _ _ _ Y (hs.put (x:=.v undef) (v:=undef) rfl) (fin (.v undef) Lc La h (.inl ⟨rfl,rfl⟩) λx hx=>?_);exact rN.xq (B.fact x hx) (λt g=>ni (M x hx t g)) (λ_ _ _ u=>u) (λ_=>rfl)
variable {ro:Option Nat}{n:Nat}
variable {P:Program}{T:bt}{A:Ar}[bM A]
variable {ds:List Deferred}{h0:ad}{w0:World}{β:Nat->Nat}{h:ad}{a:Act}{w:World}
variable {ops:Array Oper}{X:Array Bool}{D:List rN}{listed pend known:List Nat}{envc kJ:Env}{Lc La:Loc}
theorem ef.gXz(b:ef ds h0 w0 β kJ La h a w)(hl:∀s,mM La s=mM Lc s):ef ds h0 w0 β kJ Lc h a w:=
 ⟨b.after,λs c g=>b.loc s c gg,λs d c c' e f=>b.inj s d c c' gg gg,b.size,λt x hx=>by
  have:=b.slot t x hx;cases x with
  |v y=>exact this
  |u=>trivial
  |loc s off=>exact⟨by rw[<-hl];exact this.1,this.2⟩,b.defers⟩
def cKt(X:Array Bool):Nat:=X.toList.countP (!·)
theorem Rk(a:i<X.size)(h:¬In X i):cKt (X.setIfInBounds i true)+1=cKt X:=by
 unfold cKt;have hl:i<X.toList.length:=iu a
 have hx:X.toList[i]=false:=by unfold In at h;rw[kJl,kKk a]at h;simpa using h
 grind
theorem HQ(hX:X.size=ops.size)(r:yZ T ops=true)(b:Region.ready .any ops X=[]):∀j,j<ops.size->In X j:=by
 intro j;induction j using Nat.strongRecOn with
 |_ j i=>
  intro h;by_cases f:In X j
  .exact f
  exfalso;have:j∈Region.ready .any ops X:=by
   rw[Cv hX];refine⟨f,ops[j],by simp[h],λe B=>?_⟩;have a:=(qJ r (show ops[j]? =some ops[j]by simp[h])).1 e B
   grind
  grind
theorem cQp{p:yS}(h:Ey T ops p true listed pend known=true):∃k∈vh p,k∉listed/\k<ops.size:=by
 induction p with
 |done=>simp[Ey]at h
 |aa i r _=>simp[Ey]at h
 |af i n r _=>
  grind [Ey,vh]
 |fork l r g _=>
  grind [Ey,vh]
theorem YI{p:yS}(o:Ey T ops p true listed pend known=true)(hx:kV A T (λ_=>P) ops.toList K p envc Lc h){k:Nat}(a:k∈vh p):
 ∃n r,Ey T ops (.af k n r) true listed pend known=true/\kV A T (λ_=>P) ops.toList K (.af k n r) envc Lc h:=by
 induction p with
 |done=>simp[vh]at a
 |aa i r _=>simp[vh]at a
 |af i n r _=>
  grind [vh,hx]
 |fork l r g H=>
  simp only[Ey,kJi,kZj,true_and]at o;simp only[vh,kJj]at a;rcases a with a|a
  .exact g o.1 hx.1 a
  exact H o.2 hx.2 a
theorem Mt{p:yS}(h:Ey T ops p false listed pend known=true)(a:(∃i n r,p=.af i n r)\/∃l r,p=.fork l r):
 Ey T ops p true listed pend known=true/\KK ops p listed=true:=by
 grind [Ey]
theorem advance(e:yZ T ops=true):∀(p:yS) {D:List rN} {listed pend:List Nat} {envc:Env} {Lc:Loc},jm A T P ops X D listed pend known envc Lc kJ La h->
 kV A T (λ_=>P) ops.toList K p envc Lc h->Ey T ops p false listed pend known=true->
 ∃f x R J E c,jm A T P ops X f x R known J E kJ La h/\kV A T (λ_=>P) ops.toList K c J E h/\Ey T ops c false x R known=true/\
  (c=.done\/(∃i n r,c=.af i n r)\/∃l r,c=.fork l r)
 | .done,D,listed,pend,envc,Lc,B,hx,a=>⟨_,_,_,_,_,_,B,hx,a,.inl rfl⟩
 | .af i n r,D,listed,pend,envc,Lc,B,hx,a=>⟨_,_,_,_,_,_,B,hx,a,.inr (.inl ⟨_,_,_,rfl⟩)⟩
 | .fork l r,D,listed,pend,envc,Lc,B,hx,a=>⟨_,_,_,_,_,_,B,hx,a,.inr (.inr ⟨_,_,rfl⟩)⟩
 | .aa i r,D,listed,pend,envc,Lc,B,hx,a=>by
  simp only[Ey,mz,kQN,kZj]at a;obtain⟨⟨g,b⟩,j⟩:=a;split at b
  .rename_i o d;simp only[kZj,zG,kQJ,kJP]at b;unfold kV at hx;simp only[vv,d]at hx;obtain⟨s,m,k,O⟩:=B.take e d (iu g) b.1 b.2 hx;refine advance e r O ?_ j
   grind [eZ]
  cases b
theorem Pr(hT:il P T)(v:yZ T ops=true)(CL:Yb T ops=true)
 (iZ:pd T ds h0 w0 Q) (hK:∀Y L' h' pX C w',K Y L' h'->ef ds h0 w0 pX Y L' h' C w'->Q .normal C w'):
 ∀(f:Nat) {X:Array Bool} {D:List rN} {listed pend known:List Nat} {envc kJ:Env} {Lc La:Loc} {h:ad} {β:Nat->Nat} {a:Act} {w:World} {p:yS},
  cKt X<=f->jm A T P ops X D listed pend known envc Lc kJ La h->ef ds h0 w0 β kJ La h a w->kV A T (λ_=>P) ops.toList K p envc Lc h->Ey T ops p false listed pend known=true->
  wpAnyIn (FW ro) n P .any ops Q f X a w:=by
 intro f;have done:∀ {X:Array Bool} {D:List rN} {listed pend known:List Nat} {envc kJ:Env} {Lc La:Loc} {h:ad} {β:Nat->Nat} {a:Act} {w:World} {p:yS},
  jm A T P ops X D listed pend known envc Lc kJ La h->ef ds h0 w0 β kJ La h a w->kV A T (λ_=>P) ops.toList K p envc Lc h->Ey T ops p false listed pend known=true->
  Region.ready .any ops X=[]->Q .normal a w:=λ{X D listed pend known envc kJ Lc La h β a w p} B g hx l i=>by
  have q:=HQ B.size v i;obtain⟨z,J,RU,M,N,p',O,m,H,L⟩:=advance v p B hx l;have E:z=[]:=by
   cases z with
   |nil=>rfl
   |cons x r=>exfalso;exact O.apart x io (q x.i (kJh.1 (O.op x io).1).1)
  subst E;have oT:∀k,k∉J->k<ops.size->False:=λk b c=>b (O.gZi (q k c));rcases L with rfl|L
  .unfold kV at m;refine hK _ _ _ β _ _ m ?_;have e1:kJ=M:=kZq λt=>O.env t (λx hx=>by cases hx);have e2:∀s,mM La s=mM N s:=λs=>O.loc s (λx hx=>by cases hx);rw[e1]at g;exact g.gXz e2
  obtain⟨b,-⟩:=Mt H L
  grind [cQp]
 induction f with
 |zero=>
  intro X D listed pend known envc kJ Lc La h β a w p hf B g hx l;have i:Region.ready .any ops X=[]:=by
   apply kQI.2;intro j hj;rw[Cv B.size]at hj;obtain⟨b,o,c,-⟩:=hj;have W:j<X.size:=by rw[B.size];grind
   have:=Rk W b;omega
  exact⟨i,done B g hx l i⟩
 |succ f ih=>
  intro X D listed pend known envc kJ Lc La h β a w p hf B g hx l;refine⟨λi=>done B g hx l i,λk hk=>?_⟩;obtain⟨z,J,RU,M,N,p',O,m,H,L⟩:=advance v p B hx l;have S:=hk;rw[Cv B.size]at S;obtain⟨U,ok,y,F⟩:=S;have G:k<X.size:=by rw[B.size];grind
  have al:=Rk G U;by_cases E:∃x∈z,x.i=k
  .obtain⟨x,V,rfl⟩:=E;have:ops[x.i]? =some x.o:=(O.op x V).1;rw[y]at this;cases this;exact O.catch hT v g V F λpX C w' Jh ab b c=>ih ip c b m H
  have Z:k∉J:=λhm=>by
   rcases(O.cQA k).1 hm with b|b
   .exact U b
   exact E b
  rcases L with rfl|L
  .simp only[Ey,mz,kQN,zG,kZc,kQJ,kJP]at H
   grind
  obtain⟨b,c⟩:=Mt H L;have R:k∈vh p':=by
   unfold KK at c;rw[zG]at c;have:=c k gg;simp only[y,kJa,kQJ,kJP,Rs,yz]at this;rcases this with (d|d)|⟨e,d,u⟩
   .exact absurd d Z
   .exact d
   exact absurd (O.gZi (F e d)) (iu u)
  obtain⟨pn,r,d,u⟩:=YI b m R;unfold kV at u;simp only[vv,y]at u;simp only[Ey,kJi,kQN,kZj,y]at d;obtain⟨⟨-,h5,h6⟩,h7⟩:=d;refine O.af hT v CL g y Z (iu h5) F ?_ u iZ (λC w' ag ak an ao h' hR Eb I=>ih ip I Eb hR h7)
  grind
variable {ro:Option Nat}{n:Nat}
variable {P:Program}{T:bt}{A:Ar}[bM A]
variable {ds:List Deferred}{h0:ad}{w0:World}{β:Nat->Nat}{h:ad}{a:Act}{w:World}{env:Env}{L:Loc}
def gn(T:bt):Code->Bool
 | .region id ops true=>(yZ T ops&&Yb T ops)&&Ey T ops (T.aw id) false [] [] []
 | .seq a b| .cond _ a b=>gn T a&&gn T b
 | .block _ c| .loop c| .scope c=>gn T c
 | .rangeFunc _ _ a c=>gn T a&&gn T c
 |_=>true
def QF:Ex->Exit
 | .normal=>.normal
 | .exit id=>.exit id
 | .ret=>.ret
theorem TV(n:Nat):cKt (Array.replicate n false)<=n:=by
 unfold cKt;have:=kXp (p:=λb:Bool=> !b) (l:=(Array.replicate n false).toList)
 grind
theorem JC:∀ {e e1:Env},wk e e1->e.length=e1.length
 | [],[],_=>rfl
 |x::r,y::q,hw=>by
  unfold wk at hw;simp only[kZs];cases y with
  |u=>rw[JC hw]
  |v b=>rw[JC hw.2]
  |loc s o=>rw[JC hw.2]
theorem JD:∀ {e e1:Env},Sx.wk e e1->∀(t:Nat) (x:SV),e1[t]? =some x->x=SV.u\/e[t]? =some x
 | [],[],_,t,x,hx=>by simp at hx
 |y::r,z::q,hw,t,x,hx=>by
  unfold wk at hw;cases t with
  |zero=>
   grind
  |succ t=>
   simp at hx |-;cases z with
   |u=>exact JD hw t x hx
   |v b=>exact JD hw.2 t x hx
   |loc s o=>exact JD hw.2 t x hx
theorem AZ{L:Loc}:∀ {a:Loc},aJO L a->∀(s:Nat) (c:List Value),mM a s=some c->mM L s=some c
 | [],_,s,c,h=>by cases h
 | (k,d)::r,hl,s,c,h=>by
  unfold aJO at hl;simp only[mM]at h;split at h
  .grind
  exact AZ hl.2 s c h
theorem EA{L:Loc}:∀ {e:Env},dZu L e->∀(t s o:Nat),e[t]? =some (SV.loc s o)->∃c,mM L s=some c
 | [],_,t,s,o,hx=>by simp at hx
 |x::r,hl,t,s,o,hx=>by
  unfold dZu at hl;cases t with
  |zero=>simp at hx;subst hx;exact kJm.1 hl.1
  |succ t=>
   simp at hx;cases x with
   |u=>exact EA hl t s o hx
   |v b=>exact EA hl t s o hx
   |loc a o'=>exact EA hl.2 t s o hx
theorem ef.wk(d:ef ds h0 w0 β env L h a w){j:Env}{f:Loc}(e:Wk env L j f):ef ds h0 w0 β j f h a w:=
 ⟨d.after,λs c l=>d.loc s c (AZ e.loc s c l),λs g c c' i k=>d.inj s g c c' (AZ e.loc s c i) (AZ e.loc g c' k),by rw[d.size,JC e.env],λt x hx=>by
  rcases JD e.env t x hx with rfl|he
  .trivial
  have:=d.slot t x he;cases x with
  |u=>trivial
  |v b=>exact this
  |loc s o=>exact⟨EA e.ok t s o hx,this.2⟩,d.defers⟩
theorem mJ{b:Frame}{k:List Item}{cs:List Frame}:step P (lone (b.atR a (.code (.scope c)::k)) cs w)=.next (lone (b.atR a (.code c::.inScope c::k)) cs w):=
 step_lone_go (by simp[stepG,stepG.exec,Frame.atR])
theorem HA{b:Frame}{k:List Item}{cs:List Frame}:step P (lone (b.atR a (.inScope c::k)) cs w)=.next (lone (b.atR a k) cs w):=
 step_lone_go (by simp[stepG,stepG.exec,Frame.atR])
theorem EX{F:Fence}(h:c.wpIn F n P (Exit.noGoto Q) a w):(Code.scope c).wpIn F n P Q a w:=by
 intro b k cs C d r;have h0:(lone (b.atR a (.code (.scope c)::k)) cs w).fenced P F:=fenced_calm d r rfl;obtain⟨e,X,W,q,V⟩:=h b (.inScope c::k) cs C d r;cases e with
 |normal=>exact⟨.normal,X,W,q,.head h0 mJ (StepsIn.trans V (.one (fenced_calm d r rfl) HA))⟩
 |exit g=>
  have hx:exitTo g (.inScope c::k)=exitTo g k:=by simp[exitTo]
  exact⟨.exit g,X,W,q,λm j=>.head h0 mJ (V.1 m gg),
   λB j=>let ⟨k₁,f,i⟩:=V.2 B gg;⟨k₁,f,.head h0 mJ i⟩⟩
 |goto l=>exact q.elim
 |ret=>exact⟨_,X,W,q,.of_steps (.one h0 mJ) V⟩
 |panic o=>exact⟨_,X,W,q,.of_steps (.one h0 mJ) V⟩
 |outgrown=>exact⟨_,X,W,q,.of_steps (.one h0 mJ) V⟩
theorem iV(C:il P T):∀(c:Code),gn T c=true->∀ {K:Ex->Env->Loc->ad->Prop} {Q:Exit->Act->World->Prop} {env:Env} {L:Loc} {h:ad} {β:Nat->Nat} {a:Act} {w:World},
 ef ds h0 w0 β env L h a w->sx A T (λ_=>P) c K env L h->
 pd T ds h0 w0 Q->(∀e Y L' h' X p w',K e Y L' h'->ef ds h0 w0 X Y L' h' p w'->Q (QF e) p w')->c.wpIn (FW ro) n P Q a w:=by
 intro c;induction c with
 |skip=>exact λ_ {K Q env L h β a w} s hx Z b=>wpIn_skip (b .normal _ _ _ _ _ _ hx s)
 |region id ops u=>
  intro g K Q env L h β a w s hx Z b;cases u with
  |false=>exact wpIn_region_list (rR C Z (λY L' h' X p w' f k=>b .normal _ _ _ _ _ _ f k) ops.toList _ _ _ _ _ _ s hx)
  |true=>
   simp only[gn,kZj]at g;refine wpIn_region_any C.mixed ?_;have U:ef ds h0 w0 β env L h a { w with drawn:=w.drawn+1 }:=
    ⟨⟨s.after.os,s.after.tape,s.after.output,s.after.size,s.after.EP,s.after.frame⟩,s.loc,s.inj,s.size,s.slot,s.defers⟩
   refine Pr C g.1.1 g.1.2 (K:=λenv L h=>K .normal env L h) Z (λY L' h' X p w' f k=>b .normal _ _ _ _ _ _ f k) ops.size (D:=[]) (listed:=[]) (pend:=[]) (known:=[]) (envc:=env) (Lc:=L)
    (by exact TV ops.size) ?_ U hx g.2
   have H:∀j,¬In (Array.replicate ops.size false) j:=λj G=>by
    unfold In at G;rw[kJl,kJg]at G
    grind
   exact⟨io,λj=>by simp[H j],λx hx=>(by cases hx),λi o E=>absurd E (H i),λi E=>(by cases E),λx hx=>(by cases hx),rfl,λ_ _=>rfl,λx hx=>(by cases hx),λ_ _=>rfl,
    λx hx=>(by cases hx),λx hx=>(by cases hx),λx hx=>(by cases hx),λx hx=>(by cases hx),λx hx=>(by cases hx)⟩
 |seq c d F W=>
  intro g K Q env L h β a w s hx Z b;simp only[gn,kZj]at g;unfold sx at hx;refine wpIn_seq (F g.1 s hx (λc β env L h a w q r=>Z c β env L h a w q r) λe Y L' h' X p w' f k=>?_);cases e with
  |normal=>exact W g.2 k f Z b
  |exit id=>exact b (.exit id) _ _ _ _ _ _ f k
  |ret=>exact b .ret _ _ _ _ _ _ f k
 |cond x c d F W=>
  intro g K Q env L h β a w s hx Z b;simp only[gn,kZj]at g;unfold sx at hx;split at hx
  .rename_i t S;refine wpIn_cond (s.bU S) ?_
   grind [mD,hx]
  grind
 |block id c v=>
  intro g K Q env L h β a w s hx Z b;unfold sx at hx;refine wpIn_block (v g s hx (λc β env L h a w q r=>Z c β env L h a w q r) λe Y L' h' X p w' f k=>?_);cases e with
  |normal=>exact b .normal _ _ _ _ _ _ f k
  |exit j=>
   simp only[QF,Exit.inBlock]at f |-;split at f
   .rename_i e;rw[if_pos e];exact b .normal _ _ _ _ _ _ f k
   rename_i e;rw[if_neg e];exact b (.exit j) _ _ _ _ _ _ f k
  |ret=>exact b .ret _ _ _ _ _ _ f k
 |loop c v=>
  intro g K Q env L h β a w s hx Z b;unfold sx at hx;obtain⟨I,n,⟨V,J,y,O⟩,M⟩:=hx.out;refine wpIn_loop_ghost (λn a w=>∃env L h β,I n env L h/\ef ds h0 w0 β env L h a w) n ⟨_,_,_,_,O,s.wk y⟩ λn a w ⟨env,L,h,β,f,k⟩=>?_;refine v g k (M n env L h f) (λc β env L h a w q r=>Z c β env L h a w q r) λe Y L' h' X p w' z B=>?_;cases e with
  |normal=>obtain⟨m,V,J,R,y,N⟩:=z;exact⟨m,R,_,_,_,_,N,B.wk y⟩
  |exit j=>exact b (.exit j) _ _ _ _ _ _ z B
  |ret=>exact b .ret _ _ _ _ _ _ z B
 |rangeFunc=>intro g K Q env L h β a w s hx Z b;exact hx.elim
 |exit id=>exact λ_ {K Q env L h β a w} s hx Z b=>wpIn_exit (b (.exit id) _ _ _ _ _ _ hx s)
 |scope c v=>
  intro g K Q env L h β a w s hx Z b;refine EX (v g s hx (λc β env L h a w q r=>Z c β env L h a w q r) λe Y L' h' X p w' f k=>?_);cases e with
  |normal=>exact b .normal _ _ _ _ _ _ f k
  |exit j=>exact b (.exit j) _ _ _ _ _ _ f k
  |ret=>exact b .ret _ _ _ _ _ _ f k
 |label l=>exact λ_ {K Q env L h β a w} s hx Z b=>wpIn_label (b .normal _ _ _ _ _ _ hx s)
 |goto=>intro g K Q env L h β a w s hx Z b;exact hx.elim
 |ret=>exact λ_ {K Q env L h β a w} s hx Z b=>wpIn_ret (b .ret _ _ _ _ _ _ hx s)
 |refuse=>intro g K Q env L h β a w s hx Z b;exact hx.elim
def JR(tmps:Array Value):ResultVar->Sem Value
 | .tmp t=>pure (tmps.getD t undef)
 | .cell q t=>do loadVar t (<-asAddr (tmps.getD q undef))
theorem FI(fn:Func)(m:Array Value):results fn m=(do
 let v <-fn.results.mapM (JR m)
 pure (if h:v.size=1 then v[0]else .tuple v)):=by
 have:(λ(x:ResultVar)=>(match x with| .tmp t=>pure (m.getD t undef) | .cell a t=>do loadVar t (<-asAddr (m.getD a undef)):Sem Value))=JR m:=by funext x;cases x<;>rfl
 unfold results;rw[<-this];rfl
theorem Yj(l:il P T)(s:ef ds h0 w0 β env L h a w){r:ResultVar}{k:Value->Prop}(b:bKH T env L h r k):
 ∃v,(JR a.tmps r).run P w=.ok v w/\k v:=by
 unfold bKH at b;split at b
 .rename_i t;split at b
  .rename_i x hx;have:=s.slot t _ (getD_some hx io);exact⟨_,rfl,by rw[show a.tmps.getD t undef=x from this];exact b⟩
  grind
 rename_i q t;split at b
 .exact b.elim
 .rename_i hx g;have i:=iG l (t:=t) (λe=>g e);have oR:=s.slot q _ (getD_some hx io);split at b
  .rename_i c u;split at b
   .rename_i cs m;obtain⟨d,p⟩:=MA s u m;obtain⟨v,j,f⟩:=rV i w _ _ cs d p b;refine⟨v,?_,f⟩;show(do loadVar t (<-asAddr (a.tmps.getD q undef)):Sem Value).run P w=_;rw[show a.tmps.getD q undef=_ from oR.2];simp[asAddr,j]
   grind
  grind
 .rename_i hx g;have i:=iG l (t:=t) (λe=>g e);have oR:=s.slot q _ (getD_some hx io);obtain⟨cs,d,hl⟩:=(show Ai _ _ _ _ from b).out;obtain⟨z,n,o⟩:=d.cell s.after.EP;obtain⟨v,j,f⟩:=rV i w _ _ cs n o hl;refine⟨v,?_,f⟩;rename_i y;have:y=⟨y.block,y.off,none⟩:=by cases y;grind
  show(do loadVar t (<-asAddr (a.tmps.getD q undef)):Sem Value).run P w=_;rw[show a.tmps.getD q undef=.pointer (some y)from oR];simp only[asAddr,kKm,kXa,kXb]
  grind
 grind
theorem FK(c:il P T)(s:ef ds h0 w0 β env L h a w):∀ {rs:List ResultVar} {k:List Value->Prop},AS T env L h rs k->
 ∃l,(rs.mapM (JR a.tmps)).run P w=.ok l w/\k l
 | [],k,b=>⟨[],rfl,b⟩
 |r::rs,k,b=>by
  unfold AS at b;obtain⟨v,d,e⟩:=Yj c s b;obtain⟨l,f,g⟩:=FK c s e;refine⟨v::l,?_,g⟩;rw[kQL];simp only[kKm,d,kXb,f,kXa]
theorem pd.none(C:∀c s h,¬T.kp c s h):pd T ds h0 w0 Q:=λc β env L h a w q _=>(C _ _ _ q).elim
theorem ah(A:Ar)[bM A](j:il P T)(r:P.funcs[f]? =some fn)(q:fn.body=some c)(u:gn T c=true){h:ad}
 (hx:dXq A T (λ_=>P) c fn.ntmps fn.results.toList args h R) (C:∀c s h,¬T.kp c s h:=by exact λ_ _ _ b=>b):Hl (λ_=>P) f args h R:=by
 refine⟨λw B=>?_⟩;refine calls_of_wp r q (wpIn_wide (n:=0).1 ?_);have z:ef [] h w (λ_=>0) (args.map SV.v++List.replicate (fn.ntmps-args.length) (.v undef)) [] h { tmps:=args.toArray++Array.replicate (fn.ntmps-args.toArray.size) undef,defers:=[] } w:=by
  refine⟨cj.refl B,λs c b=>(by cases b),λs E c c' b=>(by cases b),io,λt x hx=>?_,rfl⟩;rw[kZZ]at hx;split at hx
  .rename_i m;have G:t<args.length:=gg
   rw[kZf,kZG G]at hx;simp at hx;subst hx;show _=_;rw[kJl,kKh (iu G)];simp[G]
  rename_i D;have Z:args.length<=t:=gg
  rw[kKg]at hx;split at hx
  .rename_i m;cases hx;show _=_;rw[kJl,kJf (iu Z),kJg]
   grind
  cases hx
 refine iV (A:=A) (ro:=none) (n:=0) j c u z hx (pd.none C) λe Y L' h' X d w' a g=>?_;have fin:AS T Y L' h' fn.results.toList (λl=>tF l (λv=>R v h'))->d.defers=[]/\∃v,(results fn d.tmps).run P w'=.ok v w'/\∃k a,Ending.returned v=.returned k/\R k a/\cj h w a w':=λy=>by
  obtain⟨l,o,i⟩:=FK j g y;refine⟨g.defers,?_⟩;have p:(results fn d.tmps).run P w'=.ok (if h:l.toArray.size=1 then l.toArray[0]else .tuple l.toArray) w':=by rw[FI,kXf];rw[kKm,kJB];rw[o];rfl
  refine⟨_,p,_,h',rfl,?_,g.after⟩;unfold tF at i;split at i
  .exact i
  rename_i V;have:¬l.toArray.size=1:=λhl=>by
   match l,hl with
   | [x],_=>exact V x rfl
  grind
 cases e with
 |normal=>exact fin a
 |ret=>exact fin a
 |exit id=>exact a.elim
variable {ro:Option Nat}{n:Nat}
variable {P:Program}{T:bt}{A:Ar}[bM A]
inductive Df where
 |call (g:FuncId) (args cap:List Value)
 |mark (m:Nat)
def Df.at:Df->Deferred
 | .call g args cap=>{ target:=.fn (.func g) cap.toArray,args:=args.toArray }
 | .mark m=>{ target:=.collected m,args:= #[] }
def nW:Env->Env
 | []=>[]
 |x::r=>match x with
  | .loc _ _=>.u::nW r
  |x=>x::nW r
def Dw:Env->List Nat->List Value->Env
 |env,p::ps,v::vs=>Dw (env.set p (.v v)) ps vs
 |env,_,_=>env
def Pj(A:Ar)(T:bt)(p:Unit->Program)(DM body:Code)(env:Env)(ps:List Nat)(l:Nat)(o1 o2:Obj)(vs:List Value)(k:ad->Prop)(hh:ad):Prop:=
 sx A T p DM (λe jP L1 h1=>match e with
  | .normal=>h1 l=some o1/\sx A T p body (λe _ _ h2=>match e with
   | .normal=>h2 l=some o2/\k (bO h2 l o1)
   |_=>False) jP L1 (bO h1 l o2)
  |_=>False) (Dw env ps vs) [] hh
structure iXo(p:Unit->Program)(gf:FuncId)(lb:List Value)(n:Nat)(round:Nat->Obj->Obj->List Value->(ad->Prop)->ad->Prop)(h:ad)(K:Nat->ad->Prop):Prop where
 out:∀(m l:Nat) (o1 o2:Obj),h m=none->h l=none->m≠l->(∀c e fr,o1≠.cells c e fr)->(∀c e fr,o2≠.cells c e fr)->
  (∀vs hh (k:ad->Prop),vs.length=n->hh l=some o1->round l o1 o2 vs k hh->bQX p l vs hh (λv h'=>v=.bool true/\k h'))->
  Hl p gf (.func (.yield l) #[] #[]::lb) (bO (bO h m (.deferred (some []))) l o1) (λ_ h'=>h' l=some o1/\∀o3,(∀c e fr,o3≠.cells c e fr)->K m (bO h' l o3))
def jJB(P:Program)(f:FuncId)(args:List Value)(h:ad)(R:Value->ad->Prop):Prop:=
 ∀w,Eo h w->∀n,CallsDIn Fence.wide n P f args.toArray .returning w λe u' w'=>u'=.returning/\∃v h',e=.returned v/\R v h'/\cj h w h' w'
structure Wh(p:Unit->Program)(f:FuncId)(args:List Value)(h:ad)(R:Value->ad->Prop):Prop where
 out:jJB (p ()) f args h R
theorem Wh.mono{h:ad}{a:Value->ad->Prop}(x:Wh p f args h R)(r:∀v h',R v h'->a v h'):Wh p f args h a:=
 ⟨λw c n=>(x.out w c n).mono λe u w' ⟨hu,v,h',he,hR,b⟩=>⟨hu,v,h',he,r _ _ hR,b⟩⟩
def zF(A:Ar)(T:List Df->bt)(p:Unit->Program)(all:List Oper)(K:List Df->Env->Loc->ad->Prop):List Oper->List Df->Env->Loc->ad->Prop
 | [],ds,env,L,h=>K ds env L h
 |o::rest,ds,env,L,h=>
  gd all env o
   (λ_=>match o.op with
    | .defer c=>match c.callee with
     | .value f=>match rl env f with
      | .v (.func (.func g) first cap)=>match qB (c.args.toList.map (rl env))with
       |some as=>zF A T p all K rest (.call g (first.toList++as) cap.toList::ds) (put env o.dst (.v undef)) L h
       |none=>False
      |_=>False
     |_=>False
    |_=>match nv (T ds) o with
     |true=>ki A (T ds) p o (rl env) L h (λx nb=>zF A T p all K rest ds (put env o.dst x) (eZ L o.dst nb) h)
     |false=>hx A (T ds) p o (rl env) L h (λx L' h'=>zF A T p all K rest ds (put env o.dst x) L' h'))
   (λ_=>zF A T p all K rest ds (put env o.dst (.v undef)) L h)
def XD(A:Ar)(T:List Df->bt)(p:Unit->Program):Code->(Ex->List Df->Env->Loc->ad->Prop)->List Df->Env->Loc->ad->Prop
 | .region id ops false,K,ds,env,L,h=>zF A T p ops.toList (λds env L h=>K .normal ds env L h) ops.toList ds env L h
 | .seq a b,K,ds,env,L,h=>XD A T p a (λe ds env L h=>match e with
  | .normal=>XD A T p b K ds env L h
  |e=>K e ds env L h) ds env L h
 | .cond c a b,K,ds,env,L,h=>match rl env c with
  | .v (.bool t)=>QL t (λ_=>XD A T p a K ds env L h) (λ_=>XD A T p b K ds env L h)
  |_=>False
 | .block id c,K,ds,env,L,h=>XD A T p c (λe ds env L h=>match e with
  | .exit j=>if j=id then K .normal ds env L h else K (.exit j) ds env L h
  |e=>K e ds env L h) ds env L h
 | .rangeFunc g ps DM body,K,ds,env,L,h=>match rl env g with
  | .v (.func (.func gf) first lb)=>match first.isEmpty,(T ds).fn gf with
   |true,true=>iXo p gf lb.toList ps.size (Pj A (T ds) p DM body (nW env) ps.toList) h (λm h'=>K .normal (.mark m::ds) env L h')
   |_,_=>False
  |_=>False
 |c,K,ds,env,L,h=>sx A (T ds) p c (λe env L h=>K e ds env L h) env L h
def Pf(T:bt)(p:Unit->Program):List Df->(ad->Prop)->ad->Prop
 | [],k,h=>k h
 | .call g args cap::r,k,h=>match T.fn g with
  |true=>Wh p g (args++cap) h (λ_ h'=>Pf T p r k h')
  |false=>False
 | .mark m::r,k,h=>h m=some (.deferred (some []))/\Pf T p r k (bO h m (.deferred none))
def dXp(A:Ar)(T:bt)(p:Unit->Program)(c:Code)(ntmps:Nat)(rs:List ResultVar)(args:List Value)(h:ad)(R:Value->ad->Prop):Prop:=
 XD A (λ_=>T) p c (λe ds env L h=>match e with
  | .exit _=>False
  |_=>Pf T p ds (λh=>AS T env L h rs (λl=>tF l (λv=>R v h))) h) [] (args.map SV.v++List.replicate (ntmps-args.length) (.v undef)) [] h
variable {h0:ad}{w0:World}{β:Nat->Nat}{h:ad}{a:Act}{w:World}{env:Env}{L:Loc}
theorem ef.Oe{ds:List Deferred}(s:ef ds h0 w0 β env L h a w)(d:Deferred):ef (d::ds) h0 w0 β env L h { a with defers:=d::a.defers } w:=
 ⟨s.after,s.loc,s.inj,s.size,s.slot,by rw[s.defers]⟩
def aXK(T:List Df->bt)(h0:ad)(w0:World)(Q:Exit->Act->World->Prop):Prop:=∀ds:List Df,pd (T ds) (ds.map Df.at) h0 w0 Q
variable {TT:List Df->bt}
theorem mY(T:∀ds,il P (TT ds)){ops:Array Oper}{K:List Df->Env->Loc->ad->Prop}
 (Z:aXK TT h0 w0 Q) (i:∀C Y L' h' X t w',K C Y L' h'->ef (C.map Df.at) h0 w0 X Y L' h' t w'->Q .normal t w'):
 ∀(l:List Oper) (ds:List Df) (env:Env) (L:Loc) (h:ad) (β:Nat->Nat) (a:Act) (w:World),ef (ds.map Df.at) h0 w0 β env L h a w->
  zF A TT (λ_=>P) ops.toList K l ds env L h->wpListIn (FW none) n P ops Q l a w
 | [],ds,env,L,h,β,a,w,b,hx=>i _ _ _ _ _ _ _ hx b
 |o::r,ds,env,L,h,β,a,w,b,hx=>by
  unfold zF at hx;unfold wpListIn;rcases xh b hx with⟨hw,hx⟩|⟨hw,hx⟩
  .rw[if_pos hw];split at hx
   .rename_i c F;split at hx
    .rename_i f B;split at hx
     .rename_i g first cap D
      split at hx
      .rename_i e has;have G:(execOp a.eval o).run P w=.ok (.defer (Df.at (.call g (first.toList++e) cap.toList))) w:=by
        have e1:first++e.toArray=(first.toList++e).toArray:=gg
        simp only[execOp,F,resolve,B,b.bU D,kR b has,Deferred.ofValue,kKm,kXa,kXb,Df.at,e1]
       unfold Oper.wpIn;refine⟨λ_ _=>trivial,?_⟩;rw[show(FW none).round=none from rfl,Oper.semAt_none,G,Oper.uponIn_defer];exact mY T Z i r (.call g (first.toList++e) cap.toList::ds) _ _ _ _ _ _ ((b.Oe (Df.at (.call g (first.toList++e) cap.toList))).put (d:=o.dst) (x:=.v undef) (v:=undef) rfl) hx
      grind
     grind
    grind
   split at hx
   .obtain⟨u,H,k,m⟩:=uG hx;obtain⟨v,w',X,p,z⟩:=CF (T ds) b (m (λx y=>x=u/\y=H) ⟨rfl,rfl⟩);refine vP p ?_;exact mY T Z i r _ _ _ _ _ _ _ z k
   refine PN (T ds) b (Lc:=L) (λ_ _ q=>q) hx (Z ds) λu v E L' h' w' k m p=>?_;have:E=L':=by
    rcases p with⟨e1,j⟩|⟨s,c,x,y,-,-,e1,j⟩
    .rw[e1,j]
    rw[e1,j]
   subst this;exact mY T Z i r _ _ _ _ _ _ _ m k
  rw[if_neg (by simp[hw])];refine⟨λ_ _=>trivial,?_⟩;exact mY T Z i r _ _ _ _ _ _ _ (b.put (x:=.v undef) (v:=undef) rfl) hx
theorem Ij:∀ {env:Env} {t:Nat} {x:SV},(nW env)[t]? =some x->x=.u\/(env[t]? =some x/\∀s o,x≠.loc s o)
 | [],t,x,h=>by simp[nW]at h
 |y::r,0,x,h=>by
  cases y with
  |loc s o=>simp[nW]at h;grind
  |v z=>grind [nW]
  |u=>simp[nW]at h;grind
 |y::r,t+1,x,h=>by
  have h':(nW r)[t]? =some x:=by cases y<;>simpa[nW]using h
  rcases Ij h' with a| ⟨a,b⟩
  .exact .inl a
  grind
theorem Ii:∀(env:Env),(nW env).length=env.length
 | []=>rfl
 |y::r=>by cases y<;>simp[nW,Ii r]
theorem LV{β:Nat->Nat}:∀(s:List Nat) (a:List Value) (env:Env) (tmps:Array Value),tmps.size=env.length->(∀t x,env[t]? =some x->tq β [] x (tmps.getD t undef))->
 ((s.zip a).foldl (λt (p,v)=>t.setIfInBounds p v) tmps).size=(Dw env s a).length/\∀t x,(Dw env s a)[t]? =some x->tq β [] x (((s.zip a).foldl (λt (p,v)=>t.setIfInBounds p v) tmps).getD t undef)
 | [],a,env,tmps,h,b=>by simp[Dw,h];simpa using b
 |p::s,[],env,tmps,h,b=>by simp[Dw,h];simpa using b
 |p::s,v::a,env,tmps,h,b=>by
  simp only[List.zip_cons_cons,kJF,Dw];refine LV s a _ _ (by simp[h]) (λt x hx=>?_);rw[kKl]at hx;split at hx
  .rename_i e;subst e;split at hx
   .rename_i Z;cases hx;show _=_;have G:p<tmps.size:=gg
    rw[kJl,kXA G];rfl
   cases hx
  rename_i e;have:=b t x hx;rw[kJl,kQZ ip,<-kJl];exact this
theorem cj.put{h:ad}{w:World}(a:Eo h w){l:Nat}{o o':Obj}(hl:h l=some o):cj h w (bO h l o') (w.putObj l o'):=by have d:=a _ _ hl;have Z:l<w.heap.size:=(kJh.1 d).1;exact cj.set a hl (World.putObj_heap_same Z) (λb c=>World.putObj_heap_other c) World.putObj_size ⟨rfl,rfl,rfl⟩
theorem Yg(B:il P T)(C:∀c s h,¬T.kp c s h){l:Nat}{r:Loop}{D o:Code}(q:gn T D=true)(J:gn T o=true)(Z:r.assign=D)(K:r.body=o)(V:r.state=.ready)(U:r.pending=none)
 (oR:(nW env).length=r.tmps.size) (N:∀t x,(nW env)[t]? =some x->tq (λ_=>0) [] x (r.tmps.getD t undef))
 {g:List Value} {i:ad} {k:ad->Prop} (X:g.length=r.params.size) (hl:i l=some (.loop r))
 (hx:Pj A T (λ_=>P) D o (nW env) r.params.toList l (.loop r) (.loop { r with state:=.busy }) g k i):bQX (λ_=>P) l g i (λv h'=>v=.bool true/\k h'):=by
 refine⟨λw E=>⟨_,_,_,_,run_yield (E _ _ hl) (iu X),λn=>?_⟩⟩;refine roundIn_of_wpIn trivial ?_;have Y:(r.params.zip g.toArray).foldl (λtmps (t,a)=>tmps.setIfInBounds t a) r.tmps=(r.params.toList.zip g).foldl (λt (p,v)=>t.setIfInBounds p v) r.tmps:=by rw[<-kZe];simp
 rw[Y,Z,K];obtain⟨S,H⟩:=LV (β:=λ_=>0) r.params.toList g (nW env) r.tmps oR.symm N;have W:ef [] i w (λ_=>0) (Dw (nW env) r.params.toList g) [] i { tmps:=(r.params.toList.zip g).foldl (λt (p,v)=>t.setIfInBounds p v) r.tmps,defers:=[] } w:=
  ⟨cj.refl E,λs c u=>(by cases u),λs s' c c' u=>(by cases u),S,H,rfl⟩
 refine iV (A:=A) (ro:=some l) B D q W hx (pd.none C) λe jP L1 h1 ag a1 w1 j m=>?_;cases e with
 |normal=>
  obtain⟨F,k2⟩:=j;have O:=m.after.EP _ _ F;refine⟨_,run_beginRound O V,?_⟩;have M:=m.step (cj.put m.after.EP (o':=.loop { r with state:=.busy }) F);refine iV (A:=A) (ro:=some l) B o J M k2 (pd.none C) λe ak L2 R ab a2 w2 y z=>?_;cases e with
  |normal=>
   obtain⟨G,k4⟩:=y;have I:=z.after.EP _ _ G;refine⟨_,_,run_endRound none I,?_⟩;have Q:=z.step (cj.put z.after.EP (o':=.loop r) G);have L:({ r with state:=if(none:Option Code).isNone=true then LoopState.ready else LoopState.done,pending:=none }:Loop)=r:=by
    obtain⟨s,p,f,t,ps,a,b,d⟩:=r
    grind
   refine⟨_,bO R l (.loop r),rfl,⟨rfl,k4⟩,?_⟩;have e2:({ ({ r with state:=.busy }:Loop)with state:=if(none:Option Code).isNone=true then LoopState.ready else LoopState.done,pending:=none }:Loop)=r:=L;have:=Q.after
   grind
  |exit id=>exact y.elim
  |ret=>exact y.elim
 |exit id=>exact j.elim
 |ret=>exact j.elim
theorem DT(E:il P T)(G:∀c s h,¬T.kp c s h){ds:List Df}{g:Operand}{p:Array Nat}{D body:Code}{l:Array Value}{K:Nat->ad->Prop}
 (d:ef (ds.map Df.at) h0 w0 β env L h a w) (j:gn T D=true) (B:gn T body=true) (W:rl env g=.v (.func (.func f) #[] l)) (q:T.fn f=true)
 (hx:iXo (λ_=>P) f l.toList p.size (Pj A T (λ_=>P) D body (nW env) p.toList) h K)
 (U:∀m h' y w',K m h'->ef ((Df.mark m::ds).map Df.at) h0 w0 β env L h' y w'->Q .normal y w'):(Code.rangeFunc g p D body).wp P Q a w:=by
 refine(wpIn_wide (n:=0)).1 (wpIn_rangeFunc λfn _=>?_);refine⟨w.heap.size+1,_,(w.alloc (.deferred (some []))).alloc (.loop { state:=.ready,pending:=none,fn,tmps:=a.tmps,params:=p,assign:=D,body,defers:=w.heap.size }),{ target:=.fn (.func f) l,args:= #[.func (.yield (w.heap.size+1)) #[] #[]] },(w.alloc (.deferred (some []))).alloc (.loop { state:=.ready,pending:=none,fn,tmps:=a.tmps,params:=p,assign:=D,body,defers:=w.heap.size }),f,#[.func (.yield (w.heap.size+1)) #[] #[]]++l,(w.alloc (.deferred (some []))).alloc (.loop { state:=.ready,pending:=none,fn,tmps:=a.tmps,params:=p,assign:=D,body,defers:=w.heap.size }),run_enterLoop_outer fn a.tmps p D body,?_,λ_ _=>trivial,?_,λhd=>by simp[Fence.wide]at hd,?_⟩
 .simp only[resolve,d.bU W,Deferred.ofValue,kXa];simp[Act.eval]
 .simp only[invoke,uO E q]
 generalize J:({ state:=.ready,pending:=none,fn,tmps:=a.tmps,params:=p,assign:=D,body,defers:=w.heap.size }:Loop)=r;have I:=d.after.EP;have a1:cj h w (bO h w.heap.size (.deferred (some []))) (w.alloc (.deferred (some []))):=cj.new I _;have Z:(w.alloc (.deferred (some []))).heap.size=w.heap.size+1:=World.size_alloc w _;have a2:=cj.new a1.EP (.loop r);rw[Z]at a2;have b:=a1.trans a2;have M:h w.heap.size=none:=I.oG (qA _);have H:h (w.heap.size+1)=none:=I.oG ip;have V:=(hx.out w.heap.size (w.heap.size+1) (.loop r) (.loop { r with state:=.busy }) M H ip (λ_ _ _ e=>by cases e) (λ_ _ _ e=>by cases e) (λvs hh k X hl hr=>by
  refine Yg (A:=A) (env:=env) E G j B (r:=r) (by rw[<-J]) (by rw[<-J]) (by rw[<-J]) (by rw[<-J]) ?_ ?_ (by rw[X,<-J]) hl ?_
  .rw[Ii,<-d.size,<-J]
  .intro t x hx;rcases Ij hx with rfl| ⟨R,S⟩
   .trivial
   have:=d.slot t x R;rw[<-J];cases x with
   |v z=>exact this
   |loc s o=>exact absurd rfl (S s o)
   |u=>trivial
  grind)).out _ b.EP
 have F:=callsIn_wide (n:=0-1).2 V;have e1:(Value.func (.yield (w.heap.size+1)) #[] #[]::l.toList).toArray= #[.func (.yield (w.heap.size+1)) #[] #[]]++l:=by
  grind
 rw[e1]at F;refine CallsIn.mono F λe w3 ⟨v,h3,N,⟨C,O⟩,i⟩=>?_;subst N;have Y:=i.EP _ _ C;refine⟨none,w3.putObj (w.heap.size+1) (.loop { r with state:=.exhausted }),?_,?_⟩
 .have:=run_endLoop (P:=P) Y gg
  grind
 refine U w.heap.size _ _ _ (O (.loop { r with state:=.exhausted }) (λ_ _ _ e=>by cases e)) ?_;have s1:=d.step ((b.trans i).trans (cj.put i.EP (o':=.loop { r with state:=.exhausted }) C));exact s1.Oe (Df.at (.mark w.heap.size))
def Pw:Code->Bool
 | .rangeFunc .. =>false
 | .seq a b| .cond _ a b=>Pw a&&Pw b
 | .block _ c=>Pw c
 |_=>true
theorem Ue(T:∀ds,il P (TT ds)):∀(c:Code),(∀ds,gn (TT ds) c=true)->(Pw c=true\/∀ds c s h,¬(TT ds).kp c s h)->∀ {K:Ex->List Df->Env->Loc->ad->Prop} {Q:Exit->Act->World->Prop} {ds:List Df} {env:Env} {L:Loc} {h:ad} {β:Nat->Nat} {a:Act} {w:World},
 ef (ds.map Df.at) h0 w0 β env L h a w->XD A TT (λ_=>P) c K ds env L h->aXK TT h0 w0 Q->
 (∀e C Y L' h' X p w',K e C Y L' h'->ef (C.map Df.at) h0 w0 X Y L' h' p w'->Q (QF e) p w')->c.wp P Q a w:=by
 intro c;induction c with
 |region id ops r=>
  intro o Z K Q ds env L h β a w k hx l i;cases r with
  |false=>exact wpIn_wide (n:=0).1 (wpIn_region_list (mY T l (λC Y L' h' X p w' b f=>i .normal _ _ _ _ _ _ _ b f) ops.toList _ _ _ _ _ _ _ k hx))
  |true=>exact wpIn_wide (n:=0).1 (iV (A:=A) (ro:=none) (n:=0) (T ds) _ (o ds) k hx (l ds) (λe Y L' h' X p w' b f=>i e _ _ _ _ _ _ _ b f))
 |seq c d y W=>
  intro o Z K Q ds env L h β a w k hx l i;simp only[gn,kZj]at o;simp only[Pw,kZj]at Z;unfold XD at hx;refine wp_seq (y (λds=>(o ds).1) (Z.imp And.left id) k hx (λds c β env L h a w u v=>l ds c β env L h a w u v) λe C Y L' h' X p w' b f=>?_);cases e with
  |normal=>exact W (λds=>(o ds).2) (Z.imp And.right id) f b l i
  |exit id=>exact i (.exit id) _ _ _ _ _ _ _ b f
  |ret=>exact i .ret _ _ _ _ _ _ _ b f
 |cond x c d y W=>
  intro o Z K Q ds env L h β a w k hx l i;simp only[gn,kZj]at o;simp only[Pw,kZj]at Z;unfold XD at hx;split at hx
  .rename_i t E;refine wp_cond (k.bU E) ?_
   grind [mD,hx]
  grind
 |block id c F=>
  intro o Z K Q ds env L h β a w k hx l i;unfold XD at hx;refine wp_block (F o Z k hx (λds c β env L h a w u v=>l ds c β env L h a w u v) λe C Y L' h' X p w' b f=>?_);cases e with
  |normal=>exact i .normal _ _ _ _ _ _ _ b f
  |exit j=>
   simp only[QF,Exit.inBlock]at b |-;split at b
   .rename_i e;rw[if_pos e];exact i .normal _ _ _ _ _ _ _ b f
   rename_i e;rw[if_neg e];exact i (.exit j) _ _ _ _ _ _ _ b f
  |ret=>exact i .ret _ _ _ _ _ _ _ b f
 |rangeFunc g I M z=>
  intro o Z K Q ds env L h β a w k hx l i;simp only[gn,kZj]at o;have B:∀ds c s h,¬(TT ds).kp c s h:=Z.resolve_left (by simp[Pw]);unfold XD at hx;split at hx
  .rename_i G first H D
   split at hx
   .rename_i V q;have V:first= #[]:=by
     grind
    subst V;exact DT (T ds) (B ds) k (o ds).1 (o ds).2 D q hx (λm h' p w' b f=>i .normal _ _ _ _ _ _ _ b f)
   grind
  grind
 |_=>exact λo Z {K Q ds env L h β a w} k hx l i=>wpIn_wide (n:=0).1 (iV (A:=A) (ro:=none) (n:=0) (T ds) _ (o ds) k hx (l ds) (λe Y L' h' X p w' b f=>i e _ _ _ _ _ _ _ b f))
theorem ux{f:FuncId}{h:ad}{w:World}(d:Eo h w):
 ef [] h w (λ_=>0) (args.map SV.v++List.replicate (fn.ntmps-args.length) (.v undef)) [] h { tmps:=args.toArray++Array.replicate (fn.ntmps-args.toArray.size) undef,defers:=[] } w:=by
 refine⟨cj.refl d,λs c a=>(by cases a),λs e c c' a=>(by cases a),io,λt x hx=>?_,rfl⟩;rw[kZZ]at hx;split at hx
 .rename_i b;have G:t<args.length:=gg
  rw[kZf,kZG G]at hx;simp at hx;subst hx;show _=_;rw[kJl,kKh (iu G)];simp[G]
 rename_i m;have Z:args.length<=t:=gg
 rw[kKg]at hx;split at hx
 .rename_i b;cases hx;show _=_;rw[kJl,kJf (iu Z),kJg]
  grind
 cases hx
theorem Es(e:il P T){ds:List Deferred}(s:ef ds h0 w0 β env L h a w)(r:AS T env L h fn.results.toList (λl=>tF l (λv=>R v h))):
 ∃v,(results fn a.tmps).run P w=.ok v w/\R v h/\cj h0 w0 h w:=by
 obtain⟨l,c,b⟩:=FK e s r;have d:(results fn a.tmps).run P w=.ok (if h:l.toArray.size=1 then l.toArray[0]else .tuple l.toArray) w:=by rw[FI,kXf];rw[kKm,kJB];rw[c];rfl
 refine⟨_,d,?_,s.after⟩;unfold tF at b;split at b
 .exact b
 rename_i V;have:¬l.toArray.size=1:=λhl=>by
  match l,hl with
  | [x],_=>exact V x rfl
 grind
theorem yf(A:Ar)[bM A](g:il P T)(q:P.funcs[f]? =some fn)(o:fn.body=some c)(r:gn T c=true){h:ad}
 (hx:dXq A T (λ_=>P) c fn.ntmps fn.results.toList args h R) (C:∀c s h,¬T.kp c s h:=by exact λ_ _ _ p=>p):Wh (λ_=>P) f args h R:=by
 refine⟨λw u n=>?_⟩;refine(callsDIn_of_wp (R:=λe w'=>∃v h',e=.returned v/\R v h'/\cj h w h' w') q o trivial ?_).mono (λe y w' x=>x);refine iV (A:=A) (ro:=none) g c r (ux (f:=f) (fn:=fn) u) hx (pd.none C) λe Y L' h' X b w' a d=>?_;have fin:AS T Y L' h' fn.results.toList (λl=>tF l (λv=>R v h'))->b.defers=[]/\∃v,(results fn b.tmps).run P w'=.ok v w'/\∃i a,Ending.returned v=.returned i/\R i a/\cj h w a w':=λt=>by
  obtain⟨v,j,k,m⟩:=Es g d t;exact⟨d.defers,v,j,v,h',rfl,k,m⟩
 cases e with
 |normal=>exact fin a
 |ret=>exact fin a
 |exit id=>exact a.elim
theorem zJ(b:il P T)(f:List Deferred):∀(ds:List Df) {h:ad} {a:Act} {w:World},ef f h0 w0 β env L h a w->
 Pf T (λ_=>P) ds (λh=>AS T env L h fn.results.toList (λl=>tF l (λv=>R v h))) h->
 LeavesInM Fence.wide 0 P fn a.tmps (λe w'=>∃v h',e=.returned v/\R v h'/\cj h0 w0 h' w') (ds.map Df.at) .returning w
 | [],h,a,w,s,hx=>by
  obtain⟨v,i,j,k⟩:=Es b s hx;exact⟨v,i,v,h,rfl,j,k⟩
 | .call g args cap::r,h,a,w,s,hx=>by
  unfold Pf at hx;split at hx
  .rename_i o;have p:(invoke (.fn (.func g) cap.toArray) args.toArray).run P w=.ok (.enter g (args++cap).toArray) w:=by
    have e1:args.toArray++cap.toArray=(args++cap).toArray:=io
    simp only[invoke,e1,uO b o]
   refine⟨io,.inr ⟨λhd=>by simp[Fence.wide]at hd,_,_,_,_,rfl,p,λ_ _=>trivial,(hx.out w s.after.EP _).mono λe u w' ⟨hu,v,h',he,hR,n⟩=>?_⟩⟩;subst hu;subst he;have:=zJ b f r (s.step n) hR;exact this
  grind
 | .mark m::r,h,a,w,s,hx=>by
  unfold Pf at hx;obtain⟨c,d⟩:=hx;have q:=s.after.EP _ _ c;refine⟨io,.inl ⟨m,_,rfl,run_takeDeferred q,?_⟩⟩;exact zJ b f r (s.step (cj.put s.after.EP c)) d
theorem oE(A:Ar)[bM A](i:il P T)(m:P.funcs[f]? =some fn)(j:fn.body=some c)(o:gn T c=true){h:ad}
 (hx:dXp A T (λ_=>P) c fn.ntmps fn.results.toList args h R) (C:∀c s h,¬T.kp c s h:=by exact λ_ _ _ k=>k):Hl (λ_=>P) f args h R:=by
 refine⟨λw p=>?_⟩;refine callsIn_wide.1 (callsIn_of_wp_marks (F:=Fence.wide) (n:=0) m j trivial ((wpIn_wide (n:=0)).2 ?_));refine Ue (A:=A) (TT:=λ_=>T) (λ_=>i) c (λ_=>o) (.inr λ_=>C) (ds:=[]) (ux (f:=f) (fn:=fn) p) hx (λ_=>pd.none C) λe a Y L' h' X d w' b g=>?_;have fin:Pf T (λ_=>P) a (λh=>AS T Y L' h fn.results.toList (λl=>tF l (λv=>R v h))) h'->LeavesInM Fence.wide 0 P fn d.tmps (λe w'=>∃v h',e=.returned v/\R v h'/\cj h w h' w') d.defers .returning w':=λr=>by
  have:=zJ i _ a g r;rw[g.defers];exact this
 cases e with
 |normal=>exact fin b
 |ret=>exact fin b
 |exit id=>exact b.elim
end Go.Sx
