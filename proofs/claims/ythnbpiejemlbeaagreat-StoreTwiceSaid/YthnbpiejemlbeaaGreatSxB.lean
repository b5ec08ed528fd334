import Derived.Test.YthnbpiejemlbeaaGreatSxA
import Derived.Scope
set_option linter.all false
namespace Go.Sx
variable {g:Bool}{C c:Code}{K:Env->Loc->ad->Prop}{Q:Exit->Act->World->Prop}{fn:Func}{f:FuncId}{args cs z:List Value}{L':Loc}{bytes cap i j size:Nat}{o:Oper}{b:Option Addr}{d:Option Nat}{q:Prop}{k:SV->Loc->ad->Prop}{p:Unit->Program}{y:Unit->Prop}{s:Unit->Sem Value}{R:Value->ad->Prop}{h':ad}
variable {ro:Option Nat}{n:Nat}
variable {P:Program}{T:bg}{A:Ar}[bI A]
variable {ds:List Deferred}{h0:ad}{w0:World}{β:Nat->Nat}{env:Env}{L:Loc}{h:ad}{a:Act}{w:World}
theorem aJF{ops:List Oper}{env:Env}{n c n':Unit->Prop}(h:gd ops env o y n)(b:y ()->c ())(a:n ()->n' ()):gd ops env o c n':=by
 unfold gd at *;repeat' split at h
 all_goals first
  |exact b h
  |exact a h
  |exact h.elim
  | (rcases lQ h with⟨rfl,h⟩ | ⟨rfl,h⟩<;>first|exact b h|exact a h)
theorem wv(s:dQ ds h0 w0 β env L h a w){ops:Array Oper}{n:Unit->Prop}(g:gd ops.toList env o y n):
 (Region.wanted o (yielded ops a.tmps)=true/\y ())\/(Region.wanted o (yielded ops a.tmps)=false/\n ()):=by
 unfold gd at g;split at g
 .rename_i i;exact .inl ⟨by simp[Region.wanted,i],g⟩
 rename_i j t Q;split at g
 .rename_i l Y;have O:ops[j]? =some l:=by simpa using Y
  split at g
  .rename_i d hd;split at g
   .rename_i b c;have e:=getD_some c (by simp);have oC:=s.slot d _ e;have U:d<a.tmps.size:=by rw[s.size];exact(ff.1 e).1
    have oC:a.tmps.getD d undef=.bool b:=oC;have v:a.tmps[d]? =some (.bool b):=by rw[jKg]at oC;rw[kQf U]at oC |-;simpa using oC
    have k:Region.wanted o (yielded ops a.tmps)=(b==t):=by simp[Region.wanted,Q,yielded,O,hd,v]
    rw[k];split at g
    .rcases lQ g with⟨rfl,g⟩|⟨rfl,g⟩
     .exact .inl ⟨rfl,g⟩
     exact .inr ⟨rfl,g⟩
    rcases lQ g with⟨rfl,g⟩|⟨rfl,g⟩
    .exact .inr ⟨rfl,g⟩
    exact .inl ⟨rfl,g⟩
   .rename_i f c;have e:=getD_some c (by simp);have oC:=s.slot d _ e;have U:d<a.tmps.size:=by rw[s.size];exact(ff.1 e).1
    have oC:a.tmps.getD d undef=.tuple f:=oC;have v:a.tmps[d]? =some (.tuple f):=by rw[jKg]at oC;rw[kQf U]at oC |-;simpa using oC
    exact .inr ⟨by simp[Region.wanted,Q,yielded,O,hd,v],g⟩
   exact g.elim
  rename_i hd;exact .inr ⟨by simp[Region.wanted,Q,yielded,O,hd],g⟩
 rename_i Y;have O:ops[j]? =none:=by simpa using Y
 exact .inr ⟨by simp[Region.wanted,Q,yielded,O],g⟩
theorem qZ(d:gV P T){ops:Array Oper}
 (i:oK T ds h0 w0 Q) (e:∀p L' h' D m w',K p L' h'->dQ ds h0 w0 D p L' h' m w'->Q .normal m w'):
 ∀(l:List Oper) (env:Env) (L:Loc) (h:ad) (β:Nat->Nat) (a:Act) (w:World),dQ ds h0 w0 β env L h a w->
  EC A T (λ_=>P) ops.toList K l env L h->wpListIn (FW ro) n P ops Q l a w
 | [],env,L,h,β,a,w,b,hx=>e _ _ _ _ _ _ hx b
 |o::r,env,L,h,β,a,w,b,hx=>by
  unfold EC at hx;unfold wpListIn;rcases wv b hx with⟨hw,hx⟩|⟨hw,hx⟩
  .rw[if_pos hw];split at hx
   .obtain⟨t,B,g,j⟩:=tS hx;obtain⟨v,w',D,k,z⟩:=BZ d b (j (λx y=>x=t/\y=B) ⟨rfl,rfl⟩);refine ve k ?_;exact qZ d i e r _ _ _ _ _ _ z g
   refine Ow d b (Lc:=L) (λ_ _ q=>q) hx i λt v u L' h' w' g j k=>?_;have:u=L':=by
    rcases k with⟨e1,f⟩|⟨s,c,x,y,-,-,e1,f⟩
    .rw[e1,f]
    rw[e1,f]
   subst this;exact qZ d i e r _ _ _ _ _ _ j g
  rw[if_neg (by simp[hw])];refine⟨λ_ _=>trivial,?_⟩;exact qZ d i e r _ _ _ _ _ _ (b.put (x:=.v undef) (v:=undef) rfl) hx
def nU(o:Oper):Bool:=match o.op with
 | .load .. =>true
 |_=>false
def oB(o:Oper):Bool:=match o.op with
 | .alloc _| .box .. =>true
 |_=>false
def gC(o:Oper):Bool:=match o.op with
 | .assign _=>true
 |_=>false
theorem oS{m R:Operand->SV}{L:Loc}{h:ad}{k:SV->Option (List Value)->Prop}(j:jK A T p o m L h k)
 (Y:∀x∈o.op.operands.toList,R x=m x) (B:nU o=true->∀x∈o.op.operands.toList,∀s off,m x=.loc s off->∀c,mg L s=some c->mg L' s=some c)
 (w:oB o=true->∀d,o.dst=some d->mg L' d=none) (D:nU o=true->h'=h):jK A T p o R L' h' k:=by
 unfold jK at j |-;split at j;case h_1 x a=>simp only[a]at Y |-;rw[Y x (by simp[Op.operands])];exact j
 case h_2 c x y a=>simp only[a]at Y |-;rw[Y c (by simp[Op.operands]),Y x (by simp[Op.operands]),Y y (by simp[Op.operands])];exact j
 case h_3 e a=>
  have F:=w (by simp[oB,a]);simp only[a]at Y |-;split at j
  .exact j.elim
  split at j
  .exact j.elim
  rename_i d hd;split at j
  .simp only[F d hd];exact j
  exact j.elim
 case h_4 e x a=>
  have F:=w (by simp[oB,a]);simp only[a]at Y |-;rw[Y x (by simp[Op.operands])];split at j
  .exact j.elim
  rename_i d hd;split at j
  .split at j
   .simp only[F d hd];exact j
   exact j.elim
  exact j.elim
 case h_5 t x a=>
  have Z:=B (by simp[nU,a]);have J:=D (by simp[nU,a]);subst J;simp only[a]at Y Z |-;rw[Y x (by simp[Op.operands])];split at j
  .exact j.elim
  split at j
  .rename_i s off hx;split at j
   .rename_i c C;simp only[Z x (by simp[Op.operands]) s off hx c C];exact j
   exact j.elim
  .exact j
  exact j.elim
 case h_6 x a=>simp only[a]at Y |-;rw[Y x (by simp[Op.operands])];exact j
 case h_7 t x f a=>simp only[a]at Y |-;rw[Y x (by simp[Op.operands])];exact j
 case h_8 t x i a=>simp only[a]at Y |-;rw[Y x (by simp[Op.operands]),Y i (by simp[Op.operands])];exact j
 case h_9 t x i a=>simp only[a]at Y |-;rw[Y x (by simp[Op.operands]),Y i (by simp[Op.operands])];exact j
 case h_10 t x f a=>simp only[a]at Y |-;rw[Y x (by simp[Op.operands])];exact j
 case h_11 x i a=>simp only[a]at Y |-;rw[Y x (by simp[Op.operands])];exact j
 case h_12 t parts a=>
  simp only[a]at Y |-;have:∀l:List (Nat×Operand),(∀q∈l,R q.2=m q.2)->oQ R l=oQ m l:=λl=>by
   induction l with
   |nil=>intro _;rfl
   |cons q r H=>intro u;obtain⟨i,x⟩:=q;unfold oQ;rw[u (i,x) (by simp),H (λq X=>u q (by simp[X]))]
  rw[this parts.toList (λq u=>Y q.2 (by simp only[Op.operands,xz];exact⟨q,u,rfl⟩))];exact j
 case h_13 op t x y ty a=>simp only[a]at Y |-;rw[Y x (by simp[Op.operands]),Y y (by simp[Op.operands])];exact j
 case h_14 op t x a=>simp only[a]at Y |-;rw[Y x (by simp[Op.operands])];exact j
 case h_15 s d x a=>simp only[a]at Y |-;rw[Y x (by simp[Op.operands])];exact j
 case h_16 t x a=>simp only[a]at Y |-;rw[Y x (by simp[Op.operands])];exact j
 case h_17 fn f c a=>
  simp only[a]at Y |-;rw[jKZ (g:=m) (λx hx=>Y x (by simp only[Op.operands,kXd,wy];exact .inl hx)),
   jKZ (l:=c.toList) (g:=m) (λx hx=>Y x (by simp only[Op.operands,kXd,wy];exact .inr hx))]
  exact j
 case h_18 t x I E K a=>
  simp only[a]at Y |-;have v:∀y:Option Operand,(∀z,y=some z->R z=m z)->aXx R y=aXx m y:=λy G=>by
   cases y with
   |none=>rfl
   |some z=>simp only[aXx,G z rfl]
  rw[v I (λz n=>Y z (by simp[Op.operands,n])),v E (λz n=>Y z (by simp[Op.operands,n])),v K (λz n=>Y z (by simp[Op.operands,n])),
   Y x (by simp[Op.operands])]
  exact j
 case h_19 b args argTypes a=>simp only[a]at Y |-;rw[jKZ (g:=m) (λx hx=>Y x (by simp[Op.operands,Call.operands];simpa using hx))];exact j
 case h_20 x q as ok a=>simp only[a]at Y |-;rw[Y x (by simp[Op.operands])];exact j
 case h_21=>exact j.elim
theorem XL{d R:Operand->SV}{L:Loc}{h:ad}(c:hx A T p o d L h k)
 (Y:∀x∈o.op.operands.toList,R x=d x) (Q:∀t∈T.rs,R (.tmp t)=d (.tmp t)):hx A T p o R L h k:=by
 have G:(T.rs.map λt=>R (.tmp t))=(T.rs.map λt=>d (.tmp t)):=jKZ Q;unfold hx at c |-;split at c;case h_1 x a=>simp only[a]at Y |-;rw[Y x (by simp[Op.operands])];exact c
 case h_2 t x y a=>simp only[a]at Y |-;rw[Y x (by simp[Op.operands]),Y y (by simp[Op.operands])];exact c
 case h_3 e a=>simp only[a]at Y |-;exact c
 case h_4 e x a=>simp only[a]at Y |-;rw[Y x (by simp[Op.operands])];exact c
 case h_5 t len parts a=>
  simp only[a]at Y |-;have:∀l:List (Nat×Operand),(∀q∈l,R q.2=d q.2)->oQ R l=oQ d l:=λl=>by
   induction l with
   |nil=>intro _;rfl
   |cons q r n=>intro j;obtain⟨i,x⟩:=q;unfold oQ;rw[j (i,x) (by simp),n (λq X=>j q (by simp[X]))]
  rw[this parts.toList (λq j=>Y q.2 (by simp only[Op.operands,xz];exact⟨q,j,rfl⟩))];exact c
 case h_6 t x y a=>simp only[a]at Y |-;rw[Y x (by simp[Op.operands]),Y y (by simp[Op.operands])];exact c
 case h_7 t r a=>simp only[a]at Y |-;exact c
 case h_8 f args argTypes a=>simp only[a]at Y |-;rw[Y f (by simp[Op.operands,Call.operands]),jKZ (g:=d) (λx hx=>Y x (by simp[Op.operands,Call.operands];right;simpa using hx)),G];exact c
 case h_9 b args argTypes a=>simp only[a]at Y |-;rw[jKZ (g:=d) (λx hx=>Y x (by simp[Op.operands,Call.operands];simpa using hx))];exact c
 case h_10 src dst x a=>simp only[a]at Y |-;rw[Y x (by simp[Op.operands])];exact c
 case h_11 t x i b a=>simp only[a]at Y |-;rw[Y x (by simp[Op.operands]),Y i (by simp[Op.operands])];exact c
 case h_12 t m i x a=>simp only[a]at Y |-;rw[Y m (by simp[Op.operands]),Y i (by simp[Op.operands]),Y x (by simp[Op.operands])];exact c
 case h_13 t m i a=>simp only[a]at Y |-;rw[Y m (by simp[Op.operands]),Y i (by simp[Op.operands])];exact c
 case h_14 t m i x a=>simp only[a]at Y |-;rw[Y m (by simp[Op.operands]),Y i (by simp[Op.operands]),Y x (by simp[Op.operands])];exact c
 case h_15 t x a=>simp only[a]at Y |-;rw[Y x (by simp[Op.operands])];exact c
 case h_16 it str a=>simp only[a]at Y |-;rw[Y it (by simp[Op.operands])];exact c
 case h_17 it a=>simp only[a]at Y |-;rw[Y it (by simp[Op.operands])];exact c
 case h_18 t m i x a=>simp only[a]at Y |-;rw[Y m (by simp[Op.operands]),Y i (by simp[Op.operands]),Y x (by simp[Op.operands])];exact c
 case h_19 x a=>simp only[a]at Y |-;rw[Y x (by simp[Op.operands]),G];exact c
 case h_20=>exact c.elim
variable {P:Program}{T:bg}{A:Ar}[bI A]
variable {ds:List Deferred}{h0:ad}{w0:World}
def mf(o:Oper):List Nat:=(o.after.toList.filter λe=>Region.binds .any e).map (·.on)
def yv(T:bg)(ops:Array Oper):Bool:=
 (List.range ops.size).all λi=>match ops[i]? with
  |none=>false
  |some oi=>(mf oi).all (λe=>decide (e<i))&&
   (match oi.dst with|none=>true|some d=> !mO T oi|| !(oi.looksAt ops).contains d)&&
   (List.range ops.size).all λj=>i==j||match ops[j]? with
    |none=>false
    |some oj=>match oi.dst with
     |none=>true
     |some d=>oj.dst !=some d&&(!(oj.looksAt ops).contains d||(mf oj).contains i||(!mO T oi&&(mf oi).contains j))
def Wz(T:bg)(ops:Array Oper):Bool:=ops.toList.all λo=>match o.dst with
 |some d=> !T.rs.contains d
 |none=>true
theorem SG{T:bg}{ops:Array Oper}(h:Wz T ops=true)(b:ops[i]? =some o){t:Nat}(c:t∈T.rs):o.dst≠some t:=λhd=>by
 unfold Wz at h;rw[jKy]at h;have a:=h o (by
  obtain⟨hl,rfl⟩:=jKc.1 b;simp)
 rw[hd]at a;simp[c]at a
def lM(ops:Array Oper):Nat->List Nat->List Nat
 |0,s=>s
 |i+1,s=>lM ops i (if s.contains i then(match ops[i]? with|some o=>mf o|none=>[])++s else s)
def uG:ye->List Nat
 | .af i _ _=>[i]
 | .fork l r=>uG l++uG r
 |_=>[]
def JP(ops:Array Oper)(p:ye)(listed:List Nat):Bool:=
 (List.range ops.size).all λj=>listed.contains j||(uG p).contains j||match ops[j]? with
  |some o=> !(mf o).all listed.contains
  |none=>true
def DK(T:bg)(ops:Array Oper):ye->Bool->List Nat->List Nat->List Nat->Bool
 | .done,br,listed,_,_=> !br&&(List.range ops.size).all listed.contains
 | .aa i rest,br,listed,pend,known=> !br&& !listed.contains i&&(match ops[i]? with
  |some o=>mO T o&&(mf o).all listed.contains
  |none=>false)&&DK T ops rest false (i::listed) (i::pend) known
 | .af i pn rest,br,listed,pend,known=>(br||JP ops (.af i pn rest) listed)&& !listed.contains i&&(match ops[i]? with
  |some o=> !mO T o&&(gC o||pend.all λj=>(lM ops ops.size (i::known)).contains j||pn.contains j||(match ops[j]? with
   |some oj=> !nU oj
   |none=>true))
  |none=>false)&&
  DK T ops rest false (i::listed) (pend.filter λj=> !(lM ops ops.size (i::known)).contains j) (lM ops ops.size (i::known))
 | .fork l r,br,listed,pend,known=>(br||JP ops (.fork l r) listed)&&DK T ops l true listed pend known&&DK T ops r true listed pend known
theorem pP{ops:Array Oper}(r:yv T ops=true)(f:ops[i]? =some o):
 (∀e∈mf o,e<i)/\(mO T o=true->∀d,o.dst=some d->d∉o.looksAt ops)/\∀j b,i≠j->ops[j]? =some b->∀d,o.dst=some d->b.dst≠some d/\
  (d∈b.looksAt ops->i∈mf b\/(mO T o=false/\j∈mf o)):=by
 unfold yv at r;rw[jKy]at r;have U:i<ops.size:=(jKc.1 f).1;have c:=r i (by simpa using U);simp only[f,ya,jKy,NB]at c;refine⟨c.1.1,λhl d hd=>?_,λj b S g d hd=>?_⟩
 .have:=c.1.2;simp only[hd,hl,kXi,kXc,kQq,kQd,decide_eq_false_iff_not]at this;exact this
 have a:=c.2 j (by simpa using (jKc.1 g).1);simp only[g,hd,kQL,beq_iff_eq,ya,bne_iff_ne,kQq,kQd,NB,decide_eq_false_iff_not]at a;rcases a with a| ⟨a,h⟩
 .exact absurd a S
 refine⟨a,λm=>?_⟩;rcases h with (h|h)|⟨h,k⟩
 .exact absurd m h
 .exact .inl h
 exact .inr ⟨h,k⟩
def In(X:Array Bool)(i:Nat):Prop:=X.getD i false=true
theorem In.set{X:Array Bool}(a:i<X.size):In (X.setIfInBounds i true) j↔i=j\/In X j:=by
 unfold In;simp only[jKg,kZi];by_cases h:i=j
 .subst h;simp[a]
 simp[h]
theorem HK:i∈mf o↔∃e∈o.after,Region.binds .any e=true/\e.on=i:=by simp[mf,and_assoc]
theorem BQ{ops:Array Oper}{X:Array Bool}(hX:X.size=ops.size):
 j∈Region.ready .any ops X↔¬In X j/\∃o,ops[j]? =some o/\∀e∈mf o,In X e:=by
 rw[mem_ready];constructor
 .rintro⟨h,o,a,b⟩;have U:j<X.size:=by rw[hX];exact(jKc.1 a).1
  refine⟨?_,o,a,λe c=>?_⟩
  .unfold In;rw[jKg,kQf U]at h |-;simp at h |-;exact h
  obtain⟨d,f,g,rfl⟩:=HK.1 c;exact b d f g
 rintro⟨h,o,a,b⟩;have U:j<X.size:=by rw[hX];exact(jKc.1 a).1
 refine⟨?_,o,a,λe c i=>b e.on (HK.2 ⟨e,c,i,rfl⟩)⟩;unfold In at h;rw[jKg,kQf U]at h |-;simp at h |-;exact h
theorem Gk{ops:Array Oper}{X:Array Bool}(hd:∀i o,In X i->ops[i]? =some o->∀e∈mf o,In X e):
 ∀(n:Nat) (s:List Nat),(∀i∈s,In X i)->∀i∈lM ops n s,In X i
 |0,s,a=>a
 |n+1,s,a=>by
  unfold lM;refine Gk hd n _ λi h=>?_;split at h
  .rename_i c;rcases wy.1 h with h|h
   .cases b:ops[n]? with
    |none=>rw[b]at h;cases h
    |some o=>rw[b]at h;exact hd n o (a n (by simpa using c)) b i h
   exact a i h
  exact a i h
structure qU where
 i:Nat
 o:Oper
 sv:SV
 nb:Option (List Value)
def qU.fact(A:Ar)(T:bg)(P:Program)(ops:Array Oper)(env:Env)(L:Loc)(h:ad)(x:qU):Prop:=
 gd ops.toList env x.o (λ_=>jK A T (λ_=>P) x.o (qi env) (if oB x.o then []else L) h (λa b=>a=x.sv/\b=x.nb)) (λ_=>x.sv=.v undef/\x.nb=none)
structure iZ(A:Ar)(T:bg)(P:Program)(ops:Array Oper)(X:Array Bool)(D:List qU)(listed pend known:List Nat)(envc:Env)(Lc:Loc)(jS:Env)(La:Loc)(h:ad):Prop where
 size:X.size=ops.size
 bJZ:∀j,j∈listed↔In X j\/∃x∈D,x.i=j
 apart:∀x∈D,¬In X x.i
 down:∀i o,In X i->ops[i]? =some o->∀e∈mf o,In X e
 known:∀i∈known,In X i
 pend:∀x∈D,x.i∈pend
 len:jS.length=envc.length
 env:∀t,(∀x∈D,x.o.dst≠some t)->jS[t]? =envc[t]?
 dst:∀x∈D,∀t,x.o.dst=some t->t<envc.length->envc[t]? =some x.sv
 loc:∀s,(∀x∈D,x.nb.isSome=true->x.o.dst≠some s)->mg La s=mg Lc s
 box:∀x∈D,∀s c,x.nb=some c->x.o.dst=some s->mg La s=none/\mg Lc s=some c
 op:∀x∈D,ops[x.i]? =some x.o/\mO T x.o=true
 dQA:∀x∈D,∀e∈mf x.o,e∈listed
 uniq:∀x∈D,∀y∈D,x.i=y.i->x=y
 fact:∀x∈D,x.fact A T P ops envc Lc h
theorem AR{ops:List Oper}{env:Env}{n:Unit->Prop}(h:gd ops env o y n):
 (y ()/\∀a n':Unit->Prop,gd ops env o a n'↔a ())\/(n ()/\∀a n':Unit->Prop,gd ops env o a n'↔n' ()):=by
 unfold gd at *;repeat' split at h
 all_goals first
  |exact h.elim
  |exact .inl ⟨h,λ_ _=>Iff.rfl⟩
  |exact .inr ⟨h,λ_ _=>Iff.rfl⟩
  | (rcases lQ h with⟨rfl,h⟩ | ⟨rfl,h⟩<;>first
   |exact .inl ⟨h,λ_ _=>Iff.rfl⟩
   |exact .inr ⟨h,λ_ _=>Iff.rfl⟩)
theorem FT{ops:Array Oper}{env c:Env}{n:Unit->Prop}(h:gd ops.toList env o y n)(e:∀t∈o.looksAt ops,c[t]? =env[t]?):
 gd ops.toList c o y n:=by
 have key:∀(j:Nat) (w:Bool),o.guard=some (j,w)->∀b,ops.toList[j]? =some b->∀d,b.dst=some d->c.getD d .u=env.getD d .u:=λj w a b Y d hd=>by
  rw[yz,yz,e d ?_];unfold Oper.looksAt;refine kZh _ ?_;have O:ops[j]? =some b:=by simpa using Y
  simp[a,O,hd]
 unfold gd at h |-;cases a:o.guard with
 |none=>simp only[a]at h;exact h
 |some f=>
  obtain⟨j,w⟩:=f;simp only[a]at h |-;cases Y:ops.toList[j]? with
  |none=>simp only[Y]at h;exact h
  |some b=>
   simp only[Y]at h |-;cases hd:b.dst with
   |none=>simp only[hd]at h;exact h
   |some d=>simp only[hd]at h |-;rw[key j w a b Y d hd];exact h
theorem Aj{ops:Array Oper}{env c:Env}(h:∀t∈o.looksAt ops,c[t]? =env[t]?):∀x∈o.op.operands.toList,qi c x=qi env x:=λx hx=>by
 cases x with
 |tmp t=>show c.getD t .u=env.getD t .u;rw[yz,yz,h t ?_];unfold Oper.looksAt;exact kXM _ (List.mem_filterMap.2 ⟨.tmp t,hx,rfl⟩)
 |const v=>rfl
 |global g=>rfl
 |func f=>rfl
theorem mJ{env:Env}{x:SV}{t:Nat}(h:d≠some t):(put env d x)[t]? =env[t]? :=by
 cases d with
 |none=>rfl
 |some u=>simp only[put];rw[kQK (λe=>h (by rw[e]))]
theorem Ap{env:Env}{t:Nat}{x:SV}(h:t<env.length):(put env (some t) x)[t]? =some x:=by simp only[put];rw[jKx h]
theorem nZ{env:Env}{x:SV}:(put env d x).length=env.length:=by cases d<;>simp[put]
theorem WO(h:uO g cs (λ_=>q)):q:=(mI h).elim λ_ h=>h.2
theorem dXb{h:ad}{x:Addr}{n:Nat}(k:zF h x n (λcs=>uO g cs (λ_=>q))):q:=k.out.elim λ_ h=>WO h.2
theorem bZZ(h:uj p s (λ_=>q)):q:=h.out.elim λ_ h=>h.2
theorem dJY{p:Unit->Prop}(h:uW p (λ_=>q)):q:=h.out
theorem Wd{len:Nat}{l a m:Option Int}(h:BM A b len cap size l a m (λ_=>q)):q:=(tK h).elim λ_ h=>h.1
theorem We{s:ByteArray}{l a:Option Int}(h:EH A s l a (λ_=>q)):q:=(yR h).elim λ_ h=>h.1
theorem cZc{o:BinOp}{a b:Value}{e:(Value->Prop)->Unit->Prop}(d:∀k,e k ()->∃v,k v/\∀c:Value->Prop,c v->e c ())(f:MI A o a b (λ_=>q) (e (λ_=>q))):q:=(Gp d f).elim λ_ h=>h.1
theorem cZb{o:BinOp}{a b:Value}(d:MI A o a b (λ_=>q) (λ_=>uj p s (λ_=>q))):q:=
 cZc (e:=λk _=>uj p s k) (λk h=>by
  obtain⟨v,g,c⟩:=h.out;exact⟨v,c,λf h'=>⟨v,g,h'⟩⟩) d
theorem yZ{i:Operand->SV}{L:Loc}{h:ad}{s:SV}{n:Option (List Value)}(k:jK A T p o i L h (λa b=>a=s/\b=n)):
 (oB o=true->n.isSome=true/\∃d,o.dst=some d/\mg L d=none)/\(oB o=false->n=none):=by
 obtain⟨j,Q,⟨rfl,rfl⟩,M⟩:=tS k;clear k;have c:=M (λa b=>b=Q) rfl;clear M;unfold jK at c;split at c;case h_3 e f=>
  refine⟨λ_=>?_,λg=>by simp[oB,f]at g⟩;split at c
  .exact c.elim
  split at c
  .exact c.elim
  rename_i d hd;split at c
  .rename_i hl;subst c;exact⟨rfl,d,hd,hl⟩
  exact c.elim
 case h_4 e x f=>
  refine⟨λ_=>?_,λg=>by simp[oB,f]at g⟩;split at c
  .exact c.elim
  rename_i d hd;split at c
  .split at c
   .rename_i hl;subst c;exact⟨rfl,d,hd,hl⟩
   exact c.elim
  exact c.elim
 case h_21=>exact c.elim
 all_goals
  rename_i f;refine⟨λg=>by simp[oB,f]at g,λ_=>?_⟩;clear f;repeat' split at c
  all_goals first
   |exact c.elim
   |exact Eq.symm c
   |exact Eq.symm (dXb c)
   |exact Eq.symm (WO c)
   |exact Eq.symm (bZZ c)
   |exact Eq.symm (dJY c)
   |exact Eq.symm (cZb c)
   |exact Eq.symm (Wd c)
   |exact Eq.symm (We c)
variable {ro:Option Nat}{n:Nat}
variable {P:Program}{T:bg}{A:Ar}[bI A]
variable {ds:List Deferred}{h0:ad}{w0:World}{β:Nat->Nat}{h:ad}{a:Act}{w:World}
variable {ops:Array Oper}{X:Array Bool}{D:List qU}{listed pend known:List Nat}{envc jS:Env}{Lc La:Loc}
theorem wP{L:Loc}{n:Option (List Value)}{s:Nat}:mg (eX L d n) s=if d=some s/\n.isSome=true then n else mg L s:=by
 cases d with
 |none=>simp[eX]
 |some t=>
  cases n with
  |none=>simp[eX]
  |some c=>simp only[eX,mg];by_cases h:t=s<;>simp[h]
theorem qU.wC{x:qU}{env e:Env}{L:Loc}{h:ad}(i:x.fact A T P ops env L h)(f:∀t∈x.o.looksAt ops,e[t]? =env[t]?)
 (g:nU x.o=true->∀s c,mg L s=some c->mg L' s=some c) (j:nU x.o=true->h'=h):x.fact A T P ops e L' h':=by
 unfold qU.fact at *;refine aJF (FT i f) (λq=>?_) id;refine oS q (Aj f) (λhl y l s off k c a=>?_) (λb d hd=>?_) j
 .split at a
  .cases a
  rename_i b;rw[if_neg b];exact g hl s c a
 rw[if_pos b];rfl
theorem iZ.look(B:iZ A T P ops X D listed pend known envc Lc jS La h)(r:yv T ops=true){k:Nat}(d:ops[k]? =some o)(p:∀e∈mf o,In X e):
 ∀t∈o.looksAt ops,jS[t]? =envc[t]? :=λt f=>B.env t λx hx hd=>by
 obtain⟨b,hl⟩:=B.op x hx;obtain⟨-,g,i⟩:=pP r b;by_cases c:x.i=k
 .rw[c,d]at b;cases b;exact g hl t hd f
 rcases(i k o c d t hd).2 f with a| ⟨a,-⟩
 .exact B.apart x hx (p _ a)
 rw[hl]at a;cases a
theorem iZ.sub(B:iZ A T P ops X D listed pend known envc Lc jS La h){s:Nat}{c:List Value}(hl:mg La s=some c):mg Lc s=some c:=by
 rw[<-B.loc s (λx hx n hd=>?_)]
 .exact hl
 obtain⟨c',z⟩:=kQg.1 n;rw[(B.box x hx s c' z hd).1]at hl;cases hl
theorem iZ.gQA(B:iZ A T P ops X D listed pend known envc Lc jS La h)(h:In X j):j∈listed:=(B.bJZ j).2 (.inl h)
theorem iZ.take(B:iZ A T P ops X D listed pend known envc Lc jS La h)(hr:yv T ops=true)(M:ops[i]? =some o)(z:i∉listed)(U:mO T o=true)
 (hp:∀e∈mf o,e∈listed) {K:SV->Option (List Value)->Prop} {N:Prop}
 (hx:gd ops.toList envc o (λ_=>jK A T (λ_=>P) o (qi envc) Lc h K) (λ_=>N)):
 ∃v n,(K v n\/(N/\v=.v undef/\n=none))/\iZ A T P ops X (⟨i,o,v,n⟩::D) (i::listed) (i::pend) known (put envc o.dst v) (eX Lc o.dst n) jS La h:=by
 obtain⟨-,O,G⟩:=pP hr M;have S:∀x∈D,i≠x.i:=λx hx e=>z ((B.bJZ i).2 (.inr ⟨x,hx,e.symm⟩));have F:∃v n,(K v n\/(N/\v=.v undef/\n=none))/\qU.fact A T P ops envc Lc h ⟨i,o,v,n⟩/\(∀d c,o.dst=some d->n=some c->mg Lc d=none):=by
  rcases AR hx with⟨g,u⟩|⟨g,u⟩
  .obtain⟨v,n,p,W⟩:=tS g;have H:=W (λa b=>a=v/\b=n) ⟨rfl,rfl⟩;refine⟨v,n,.inl p,(u _ _).2 ?_,λd c hd f=>?_⟩
   .exact oS H (λ_ _=>rfl) (λhl y _ s off _ c f=>by
     have:oB o=false:=by cases hq:o.op<;>simp[nU,oB,hq]at hl |-
     simp[this,f]) (λw d hd=>by simp[w,mg]) (λ_=>rfl)
   have w:=yZ H;cases J:oB o with
   |true=>obtain⟨-,d',Z,m⟩:=w.1 J;rw[hd]at Z;cases Z;exact m
   |false=>rw[w.2 J]at f;cases f
  exact⟨.v undef,none,.inr ⟨g,rfl,rfl⟩,(u _ _).2 ⟨rfl,rfl⟩,λd c _ f=>by cases f⟩
 obtain⟨v,n,hK,hf,R⟩:=F;have r:∀x∈D,∀t,o.dst=some t->x.o.dst≠some t:=λx hx t k=>(G x.i x.o (S x hx) (B.op x hx).1 t k).1;have Y:∀s c,mg Lc s=some c->mg (eX Lc o.dst n) s=some c:=λs c f=>by
  rw[wP];split
  .rename_i E;obtain⟨c',zl⟩:=kQg.1 E.2;rw[R s c' E.1 zl]at f;cases f
  exact f
 refine⟨v,n,hK,⟨B.size,λj=>?_,λx hx=>?_,B.down,B.known,λx hx=>?_,by rw[nZ];exact B.len,λt k=>?_,λx hx t hd l=>?_,λs Q=>?_,λx hx s c m hd=>?_,
  λx hx=>?_,λx hx e I=>?_,λx hx y q L=>?_,λx hx=>?_⟩⟩
 .simp only[xl,B.bJZ j];constructor
  .rintro(rfl|g| ⟨x,hx,e⟩)
   .exact .inr ⟨_,.inl rfl,rfl⟩
   .exact .inl g
   exact .inr ⟨x,.inr hx,e⟩
  rintro(g| ⟨x,rfl|hx,e⟩)
  .exact .inr (.inl g)
  .exact .inl e.symm
  exact .inr (.inr ⟨x,hx,e⟩)
 .rcases xl.1 hx with rfl|hx
  .exact λV=>z (B.gQA V)
  exact B.apart x hx
 .rcases xl.1 hx with rfl|hx
  .exact kQJ
  exact jKQ _ (B.pend x hx)
 .rw[mJ (k ⟨i,o,v,n⟩ (by simp))];exact B.env t λx hx=>k x (by simp[hx])
 .rw[nZ]at l;rcases xl.1 hx with rfl|hx
  .simp only at hd;rw[hd,Ap l]
  rw[mJ (λe=>r x hx t e hd)];exact B.dst x hx t hd l
 .rw[wP,if_neg (λf=>Q ⟨i,o,v,n⟩ (by simp) f.2 f.1)];exact B.loc s λx hx=>Q x (by simp[hx])
 .rcases xl.1 hx with rfl|hx
  .simp only at m hd;refine⟨?_,by rw[wP,if_pos ⟨hd,by simp[m]⟩];exact m⟩;rw[B.loc s (λy q _ C=>r y q s hd C)];exact R s c hd m
  obtain⟨g,u⟩:=B.box x hx s c m hd;exact⟨g,Y s c u⟩
 .rcases xl.1 hx with rfl|hx
  .exact⟨M,U⟩
  exact B.op x hx
 .rcases xl.1 hx with rfl|hx
  .exact jKQ _ (hp e I)
  exact jKQ _ (B.dQA x hx e I)
 .rcases xl.1 hx with rfl|hx<;>rcases xl.1 q with rfl|q
  .rfl
  .exact absurd L (S y q)
  .exact absurd L.symm (S x hx)
  exact B.uniq x hx y q L
 rcases xl.1 hx with rfl|hx
 .exact qU.wC hf (λt k=>mJ (λe=>O U t e k)) (λ_=>Y) (λ_=>rfl)
 refine qU.wC (B.fact x hx) (λt k=>mJ (λe=>?_)) (λ_=>Y) (λ_=>rfl);rcases(G x.i x.o (S x hx) (B.op x hx).1 t e).2 k with p| ⟨p,-⟩
 .exact z (B.dQA x hx i p)
 rw[U]at p;cases p
theorem iZ.catch(hT:gV P T)(B:iZ A T P ops X D listed pend known envc Lc jS La h)(hr:yv T ops=true)(G:dQ ds h0 w0 β jS La h a w){x:qU}(hx:x∈D)
 (hp:∀e∈mf x.o,In X e)  {K:Act->World->Prop}
 (hK:∀H Z w' Y r,dQ ds h0 w0 H Y r h Z w'->iZ A T P ops (X.setIfInBounds x.i true) (D.filter λy=>y.i !=x.i) listed pend known envc Lc Y r h->K Z w'):
 wpOpIn (FW ro) n P ops Q x.i K a w:=by
 obtain⟨C,aU⟩:=B.op x hx;have I:=B.look hr C hp;have p:x.i<X.size:=by rw[B.size];exact(jKc.1 C).1
 have m:∀y,(y∈D.filter λy=>y.i !=x.i)↔y∈D/\y.i≠x.i:=λy=>by simp
 have ag:∀H v,dQ ds h0 w0 H (put jS x.o.dst x.sv) (eX La x.o.dst x.nb) h (a.put x.o.dst v) w->True:=λ_ _ _=>trivial;have fin:iZ A T P ops (X.setIfInBounds x.i true) (D.filter λy=>y.i !=x.i) listed pend known envc Lc (put jS x.o.dst x.sv) (eX La x.o.dst x.nb) h:=by
  obtain⟨-,-,OD⟩:=pP hr C;have L:∀y∈D,y.i≠x.i->∀t,x.o.dst=some t->y.o.dst≠some t:=λy f bS t W=>(OD y.i y.o (Ne.symm bS) (B.op y f).1 t W).1;refine⟨by simp[B.size],λj=>?_,λy f=>?_,λi o F q e he=>?_,λi hi=>?_,λy f=>B.pend y ((m y).1 f).1,by rw[nZ];exact B.len,λt W=>?_,
   λy f=>B.dst y ((m y).1 f).1,λs Te=>?_,λy f s c u hd=>?_,λy f=>B.op y ((m y).1 f).1,λy f=>B.dQA y ((m y).1 f).1,
   λy f z hz=>B.uniq y ((m y).1 f).1 z ((m z).1 hz).1,λy f=>B.fact y ((m y).1 f).1⟩
  .rw[B.bJZ j,In.set p];constructor
   .rintro(g| ⟨y,f,e⟩)
    .exact .inl (.inr g)
    by_cases O:y.i=x.i
    .exact .inl (.inl (by rw[<-O,e]))
    exact .inr ⟨y,(m y).2 ⟨f,O⟩,e⟩
   rintro((g|g)|⟨y,f,e⟩)
   .exact .inr ⟨x,hx,g⟩
   .exact .inl g
   exact .inr ⟨y,((m y).1 f).1,e⟩
  .rw[In.set p];obtain⟨g,S⟩:=(m y).1 f;rintro(e|e)
   .exact S e.symm
   exact B.apart y g e
  .rw[In.set p]at F |-;rcases F with e'|F
   .subst e';rw[C]at q;cases q;exact .inr (hp e he)
   exact .inr (B.down i o F q e he)
  .rw[In.set p];exact .inr (B.known i hi)
  .by_cases hd:x.o.dst=some t
   .by_cases l:t<envc.length
    .rw[hd,Ap (by rw[B.len];exact l),B.dst x hx t hd l]
    have e1:(put jS x.o.dst x.sv).length<=t:=by rw[nZ,B.len];exact kQI l
    rw[yo e1,yo (kQI l)]
   rw[mJ hd];refine B.env t λy f J=>?_;by_cases O:y.i=x.i
   .rw[B.uniq y f x hx O]at J;exact hd J
   exact W y ((m y).2 ⟨f,O⟩) J
  .rw[wP];split
   .rename_i k;obtain⟨c,E⟩:=kQg.1 k.2;rw[(B.box x hx s c E k.1).2,E]
   rename_i k;refine B.loc s λy f u J=>?_;by_cases O:y.i=x.i
   .rw[B.uniq y f x hx O]at J u;exact k ⟨J,u⟩
   exact Te y ((m y).2 ⟨f,O⟩) u J
  obtain⟨g,S⟩:=(m y).1 f;obtain⟨U,V⟩:=B.box y g s c u hd;refine⟨?_,V⟩;rw[wP,if_neg (λk=>L y g S s k.1 hd)];exact U
 have hf:=B.fact x hx;unfold qU.fact at hf;have M:=FT hf I;unfold wpOpIn;simp only[C];rcases wv G M with⟨hw,hl⟩|⟨hw,hl⟩
 .rw[if_pos hw];have R:jK A T (λ_=>P) x.o (qi jS) La h (λa b=>a=x.sv/\b=x.nb):=by
   refine oS hl (Aj I) (λN y f s off HQ c k=>?_) (λhb d hd=>?_) (λ_=>rfl)
   .have:oB x.o=false:=by cases hq:x.o.op<;>simp[nU,oB,hq]at N |-
    rw[this]at k;simp only[jKw,if_false]at k;have rF:qi jS y=.loc s off:=by rw[Aj I y f];exact HQ
    obtain⟨⟨c',E⟩,-⟩:=G.sU rF;have:=B.sub E;rw[k]at this;cases this;exact E
   obtain⟨g,d',ab,-⟩:=(yZ hl).1 hb;obtain⟨c,k⟩:=kQg.1 g;exact(B.box x hx d c k hd).1
  obtain⟨v,w',H,U,V⟩:=BZ hT G R;refine ve U ?_;exact hK _ _ _ _ _ V fin
 rw[if_neg (by simp[hw])];obtain⟨e1,e2⟩:=hl;have nW:eX La x.o.dst x.nb=La:=by rw[e2];unfold eX;cases x.o.dst<;>rfl
 rw[nW,e1]at fin;refine⟨λ_ _=>trivial,?_⟩;exact hK _ _ _ _ _ (G.put (x:=.v undef) (v:=undef) rfl) fin
variable {ro:Option Nat}{n:Nat}
variable {P:Program}{T:bg}{A:Ar}[bI A]
variable {ds:List Deferred}{h0:ad}{w0:World}{β:Nat->Nat}{h:ad}{a:Act}{w:World}
variable {ops:Array Oper}{X:Array Bool}{D:List qU}{listed pend known:List Nat}{envc jS:Env}{Lc La:Loc}
theorem GG.mono{h:ad}{y:Addr}{k a:ad->Prop}(x:GG h y cs k)(j:∀h',k h'->a h'):GG h y cs a:=by obtain⟨c,e,fr,g,b,d,f,i⟩:=x.out;exact⟨c,e,fr,g,b,d,f,λh' e=>j _ (i h' e)⟩
theorem xZ.mono{h:ad}{y:Option Addr}{k d:ad->Prop}(x:xZ h y cs k)(c:∀h',k h'->d h'):xZ h y cs d:=by
 rcases x with⟨a,b⟩|⟨q,a,b⟩
 .exact .inl ⟨a,c _ b⟩
 exact .inr ⟨q,a,b.mono c⟩
theorem uv.mono{h:ad}{len n e:Nat}{new:List Value}{k f:Value->ad->Prop}(x:uv h b len cap n size bytes e new k)(d:∀v h',k v h'->f v h'):
 uv h b len cap n size bytes e new f:=
 ⟨x.one,λa=>(x.fits a).mono (λ_ q=>d _ _ q),λa=>by
  obtain⟨l,m,X,o,p⟩:=x.bXL a;exact⟨l,m,X,o,λs c h' r e1 g i j=>d _ _ (p s c h' r e1 g i j)⟩⟩
theorem qf.mono{h:ad}{e:Nat}{l c:Int}{k a:Value->ad->Prop}(x:qf h e l c bytes z k)(d:∀v h',k v h'->a v h'):qf h e l c bytes z a:=
 ⟨x.len,x.room,λn h' e1 b=>d _ _ (x.out n h' e1 b)⟩
theorem iq.mono{h:ad}{len:Nat}{x:Option Addr}{n e:Nat}{k a:Value->ad->Prop}(q:iq h b len cap x n size bytes e k)(f:∀v h',k v h'->a v h'):
 iq h b len cap x n size bytes e a:=by
 obtain⟨new,c,d⟩:=q.out;exact⟨new,c,d.mono f⟩
theorem yK.mono{h:ad}{len:Nat}{x:Option Addr}{n:Nat}{k a:Value->ad->Prop}(q:yK h b len x n size k)(f:∀v h',k v h'->a v h'):
 yK h b len x n size a:=by
 obtain⟨cs,c,d,e⟩:=q.out;exact⟨cs,c,d,e.mono λh'=>f _ h'⟩
theorem zH.mono{h:ad}{len:Nat}{k a:ad->Prop}(q:zH h b len z k)(c:∀h',k h'->a h'):zH h b len z a:=
 ⟨q.one,q.out.mono c⟩
theorem fw.mono{h:ad}{k a:Value->ad->Prop}(q:fw p s h k)(e:∀v h',k v h'->a v h'):fw p s h a:=
 ⟨λw f=>by
  obtain⟨v,w',h',b,c,d⟩:=q.out w f;exact⟨v,w',h',b,e _ _ c,d⟩⟩
theorem uW.mono{p k a:Unit->Prop}(q:uW p k)(h:k ()->a ()):uW p a:=⟨q.h,h q.out⟩
theorem aKD.mono{l:Nat}{h:ad}{a:Value->ad->Prop}(x:aKD p l args h R)(r:∀v h',R v h'->a v h'):aKD p l args h a:=
 ⟨λw i=>by
  obtain⟨fn,t,C,b,f,g⟩:=x.out w i;exact⟨fn,t,C,b,f,λn=>(g n).mono λe w' ⟨v,h',e1,c,d⟩=>⟨v,h',e1,r _ _ c,d⟩⟩⟩
theorem bKv{i:Operand->SV}{L:Loc}{h:ad}(a:hx A T p o i L h k)(F:Loc->ad->Prop)
 (j:gC o=true->F L h) (N:gC o=false->gT o=false->∀h',F L h') (S:gT o=true->∀L' h',F L' h'):
 hx A T p o i L h (λx L' h'=>k x L' h'/\F L' h'):=by
 unfold hx at a |-;split at a
 case h_1 x d=>
  try simp only[d]
  exact⟨a,j (by simp[gC,d])⟩
 case h_2 t q x d=>
  have Z:=S (by simp[gT,d]);try simp only[d]
  repeat' split at a
  all_goals first
   |exact a.elim
   |exact⟨a,Z _ _⟩
   |exact GG.mono a (λh' q=>⟨q,Z _ _⟩)
 case h_3 e d=>
  have P:=N (by simp[gC,d]) (by simp[gT,d]);try simp only[d]
  split at a
  .exact a.elim
  exact λn h' e1 g=>⟨a n h' e1 g,P _⟩
 case h_4 e x d=>
  have P:=N (by simp[gC,d]) (by simp[gT,d]);try simp only[d]
  split at a
  .exact λn h' e1 g=>⟨a n h' e1 g,P _⟩
  exact a.elim
 case h_5 t len parts d=>
  have P:=N (by simp[gC,d]) (by simp[gT,d]);try simp only[d]
  repeat' split at a
  all_goals first
   |exact a.elim
   |exact λn h' e1 g=>⟨a n h' e1 g,P _⟩
 case h_6 t l c d=>
  have P:=N (by simp[gC,d]) (by simp[gT,d]);try simp only[d]
  repeat' split at a
  all_goals first
   |exact a.elim
   |exact qf.mono a (λv h' q=>⟨q,P _⟩)
 case h_7 t r d=>
  have P:=N (by simp[gC,d]) (by simp[gT,d]);try simp only[d]
  split at a
  .exact λn h' e1 g=>⟨a n h' e1 g,P _⟩
  exact a.elim
 case h_8 f args argTypes d=>
  have P:=N (by simp[gC,d]) (by simp[gT,d]);try simp only[d]
  repeat' split at a
  all_goals first
   |exact a.elim
   |exact UG.mono a (λv h' q=>⟨q,P _⟩) (λ_ _ q=>q)
   |exact Gt.mono a (λv h' q=>⟨q,P _⟩)
   |exact aKD.mono a (λv h' q=>⟨q,P _⟩)
   |exact fw.mono a (λv h' q=>⟨q,P _⟩)
 case h_9 b args argTypes d=>
  have P:=N (by simp[gC,d]) (by simp[gT,d]);try simp only[d]
  repeat' split at a
  all_goals first
   |exact a.elim
   |exact iq.mono a (λv h' q=>⟨q,P _⟩)
   |exact uv.mono a (λv h' q=>⟨q,P _⟩)
   |exact uW.mono a (λm=>⟨uv.mono m.out λv h' q=>⟨q,P _⟩⟩)
   |exact yK.mono a (λv h' q=>⟨q,P _⟩)
   |exact zH.mono a (λh' q=>⟨q,P _⟩)
   |exact fw.mono a (λv h' q=>⟨q,P _⟩)
 case h_19 x d=>
  try simp only[d]
  exact a
 case h_20=>exact a.elim
 all_goals
  rename_i d;have P:=N (by simp[gC,d]) (by simp[gT,d]);try simp only[d]
  repeat' split at a
  all_goals first
   |exact a.elim
   |exact fw.mono a (λv h' q=>⟨q,P _⟩)
theorem bKu{d:Operand->SV}{L:Loc}{h:ad}(e:hx A T p o d L h k):
 hx A T p o d L h (λx L' h'=>k x L' h'/\(gT o=false->L'=L)/\(gC o=true->h'=h)):=
 bKv e (λL' h'=>(gT o=false->L'=L)/\(gC o=true->h'=h)) (λ_=>⟨λ_=>rfl,λ_=>rfl⟩) (λb a h'=>⟨λ_=>rfl,λc=>by rw[b]at c;cases c⟩)
  (λb L' h'=>⟨λa=>(by rw[b]at a;cases a),λa=>(by
   cases q:o.op<;>simp[gC,gT,q]at b a)⟩)
theorem BS{T:bg}{a:Bool}{b:List Oper}{h:ad}{L:Loc}{env:Env}:∀ {l:List Nat} {k:Unit->Prop},pins T a b h L env l k->
 (∀j∈l,∃o,b[j]? =some o/\gd b env o (λ_=>HE T a h L env o (λ_=>True)) (λ_=>True))/\k ()
 | [],k,p=>⟨λ_ h=>(by cases h),p⟩
 |i::r,k,p=>by
  unfold pins at p;split at p
  .rename_i o z;have Z:∀ {R:Unit->Prop},HE T a h L env o R->HE T a h L env o (λ_=>True)/\R ():=λ{R} q=>by
    unfold HE at q |-;split at q
    .rename_i t y A;try simp only[A]at q |-
     split at q
     .rename_i x hx;try simp only[hx]
      obtain⟨cs,g,m⟩:=q.out;obtain⟨v,n,d⟩:=mI m;exact⟨⟨cs,g,pG n λD e=>by subst e;exact⟨d.h,trivial⟩⟩,d.out⟩
     .rename_i s off hx;try simp only[hx]
      split at q
      .exact⟨trivial,q⟩
      split at q
      .rename_i c C;try simp only[C]
       split at q
       .rename_i cs B;try simp only[B]
        obtain⟨v,n,d⟩:=mI q;exact⟨pG n λD e=>by subst e;exact⟨d.h,trivial⟩,d.out⟩
       exact q.elim
      exact q.elim
     exact q.elim
    exact⟨trivial,q⟩
   rcases AR p with⟨g,m⟩|⟨g,m⟩
   .obtain⟨n,d⟩:=Z g;obtain⟨u,w⟩:=BS d;refine⟨λj f=>?_,w⟩;rcases xl.1 f with rfl|f
    .exact⟨o,z,(m _ _).2 n⟩
    exact u j f
   obtain⟨u,w⟩:=BS g;refine⟨λj f=>?_,w⟩;rcases xl.1 f with rfl|f
   .exact⟨o,z,(m _ _).2 trivial⟩
   exact u j f
  exact p.elim
theorem iZ.af(hT:gV P T)(B:iZ A T P ops X D listed pend known envc Lc jS La h)(hr:yv T ops=true)(DO:Wz T ops=true)(hs:dQ ds h0 w0 β jS La h a w){k:Nat}{f:Oper}
 (hk:ops[k]? =some f) (Tj:k∉listed) (ay:mO T f=false) (hp:∀e∈mf f,In X e) {pn:List Nat} {R:Env->Loc->ad->Prop}
 (O:gC f=true\/∀j∈pend,j∈lM ops ops.size (k::known)\/j∈pn\/(∀oj,ops[j]? =some oj->nU oj=false))
 (hx:gd ops.toList envc f (λ_=>hx A T (λ_=>P) f (qi envc) Lc h (λx L' h'=>pins T (gT f) ops.toList h' L' (put envc f.dst x) pn (λ_=>R (put envc f.dst x) L' h')))
  (λ_=>R (put envc f.dst (.v undef)) Lc h))  {K:Act->World->Prop} (iO:oK T ds h0 w0 Q)
 (hK:∀a' w' CV Im C m h',R CV C h'->dQ ds h0 w0 β Im m h' a' w'->
  iZ A T P ops (X.setIfInBounds k true) D (k::listed) (pend.filter λj=> !(lM ops ops.size (k::known)).contains j) (lM ops ops.size (k::known)) CV C Im m h'->K a' w'):
 wpOpIn (FW ro) n P ops Q k K a w:=by
 obtain⟨-,-,OD⟩:=pP hr hk;have FD:=B.look hr hk hp;have E:k<X.size:=by rw[B.size];exact(jKc.1 hk).1
 have bS:∀x∈D,k≠x.i:=λx hx e=>Tj ((B.bJZ k).2 (.inr ⟨x,hx,e.symm⟩));have U:∀x∈D,∀t,f.dst=some t->x.o.dst≠some t:=λx hx t u=>(OD x.i x.o (bS x hx) (B.op x hx).1 t u).1;have al:∀x∈D,∀t∈x.o.looksAt ops,f.dst≠some t:=λx hx t u hd=>by
  rcases(OD x.i x.o (bS x hx) (B.op x hx).1 t hd).2 u with h3| ⟨-,h3⟩
  .exact Tj (B.dQA x hx k h3)
  exact B.apart x hx (hp _ h3)
 have V:∀i o,In (X.setIfInBounds k true) i->ops[i]? =some o->∀e∈mf o,In (X.setIfInBounds k true) e:=λi o L I e he=>by
  rw[In.set E]at L |-;rcases L with e'|L
  .subst e';rw[hk]at I;cases I;exact .inr (hp e he)
  exact .inr (B.down i o L I e he)
 have OV:∀i∈lM ops ops.size (k::known),In (X.setIfInBounds k true) i:=Gk V _ _ λi hi=>by
  rw[In.set E];rcases xl.1 hi with rfl|hi
  .exact .inl rfl
  exact .inr (B.known i hi)
 have Z:∀x∈D,¬In (X.setIfInBounds k true) x.i:=λx hx L=>by
  rw[In.set E]at L;rcases L with e|e
  .exact bS x hx e
  exact B.apart x hx e
 have fin:∀(q:SV) (C m:Loc) (h':ad),eJV Lc La C m->(∀x∈D,x.fact A T P ops (put envc f.dst q) C h')->
  iZ A T P ops (X.setIfInBounds k true) D (k::listed) (pend.filter λj=> !(lM ops ops.size (k::known)).contains j) (lM ops ops.size (k::known)) (put envc f.dst q) C (put jS f.dst q) m h':=λq C m h' hL hf=>by
  refine⟨by simp[B.size],λj=>?_,Z,V,OV,λx hx=>?_,by rw[nZ,nZ];exact B.len,λt u=>?_,λx hx t hd l=>?_,λs Te=>?_,λx hx s c hn hd=>?_,B.op,
   λx hx e he=>jKQ _ (B.dQA x hx e he),B.uniq,hf⟩
  .rw[xl,B.bJZ j,In.set E];constructor
   .rintro(rfl|g|g)
    .exact .inl (.inl rfl)
    .exact .inl (.inr g)
    exact .inr g
   rintro((rfl|g) |g)
   .exact .inl rfl
   .exact .inr (.inl g)
   exact .inr (.inr g)
  .simp only[jKn,kQq,kQd,decide_eq_false_iff_not];exact⟨B.pend x hx,λH=>Z x hx (OV _ H)⟩
  .by_cases hd:f.dst=some t
   .by_cases l:t<envc.length
    .rw[hd,Ap (by rw[B.len];exact l),Ap l]
    have e1:(put jS f.dst q).length<=t:=by rw[nZ,B.len];exact kQI l
    have F:(put envc f.dst q).length<=t:=by rw[nZ];exact kQI l
    rw[yo e1,yo F]
   rw[mJ hd,mJ hd];exact B.env t u
  .rw[nZ]at l;rw[mJ (λe=>U x hx t e hd)];exact B.dst x hx t hd l
  .rcases hL with⟨e1,F⟩|⟨s0,c,q1,q2,g1,G,e1,F⟩
   .rw[e1,F];exact B.loc s Te
   rw[e1,F,rA g1,rA G,B.loc s Te]
  obtain⟨g,S⟩:=B.box x hx s c hn hd;rcases hL with⟨e1,F⟩|⟨s0,c',q1,q2,g1,G,e1,F⟩
  .rw[e1,F];exact⟨g,S⟩
  have W:s0≠s:=λe=>by rw[e,g]at G;cases G
  rw[e1,F,rA g1,rA G,if_neg W,if_neg W];exact⟨g,S⟩
 unfold wpOpIn;simp only[hk];rcases AR hx with⟨g,S⟩|⟨g,S⟩
 .have N:Region.wanted f (yielded ops a.tmps)=true:=by
   have hg:=FT ((S (λ_=>True) (λ_=>False)).2 trivial) FD;rcases wv hs hg with⟨N,-⟩|⟨-,hf⟩
   .exact N
   exact hf.elim
  rw[if_pos N];have h3:=XL (bKu g) (Aj FD) (λt u=>by
   have:=B.env t (λx hx=>SG DO (B.op x hx).1 u);simp only[qi,yz,this])
  refine Ow hT hs (λs c H=>B.sub H) h3 iO λq v C L' h' w' ⟨g1,G,g3⟩ Te hL=>?_;obtain⟨aq,hR⟩:=BS g1;refine hK _ _ _ _ _ _ _ hR Te (fin q C L' h' hL λx hx=>?_);have J:∀t∈x.o.looksAt ops,(put envc f.dst q)[t]? =envc[t]? :=λt u=>mJ (al x hx t u);have HZ:=B.fact x hx;cases r:nU x.o with
  |false=>exact qU.wC HZ J (λe=>by rw[r]at e;cases e) (λe=>by rw[r]at e;cases e)
  |true=>
   rcases O with O|O
   .have fT:gT f=false:=by cases M:f.op<;>simp[gC,gT,M]at O |-
    exact qU.wC HZ J (λ_ s c H=>by rw[G fT];exact H) (λ_=>g3 O)
   rcases O x.i (B.pend x hx)with h5|h5|h5
   .exact absurd (OV _ h5) (Z x hx)
   .obtain⟨o',xR,DS⟩:=aq x.i h5;have ag:ops[x.i]? =some o':=by simpa using xR
    rw[(B.op x hx).1]at ag;cases ag;have ax:gd ops.toList (put envc f.dst q) x.o (λ_=>jK A T (λ_=>P) x.o (qi envc) (if oB x.o then []else Lc) h (λa b=>a=x.sv/\b=x.nb)) (λ_=>x.sv=.v undef/\x.nb=none):=
     FT (by unfold qU.fact at HZ;exact HZ) J
    unfold qU.fact;rcases AR ax with⟨f1,f2⟩|⟨f1,f2⟩
    .refine(f2 _ _).2 ?_;have p:=(f2 _ _).1 DS;have Y:oB x.o=false:=by cases M:x.o.op<;>simp[nU,oB,M]at r |-
     rw[Y]at f1 |-;simp only[jKw,if_false]at f1 |-;have eC:x.nb=none:=(yZ f1).2 Y;cases AK:x.o.op with
     |load t y=>
      have an:y∈x.o.op.operands.toList:=by rw[AK];simp[Op.operands]
      have ao:qi (put envc f.dst q) y=qi envc y:=Aj J y an;unfold jK at f1 |-;unfold HE at p;simp only[AK]at f1 p |-;rw[ao]at p |-;have ab:∀v:Value,(∃d,x.o.dst=some d/\(put envc f.dst q)[d]? =some (.v v))->(SV.v v=x.sv/\(none:Option (List Value))=x.nb):=λv ⟨d,hd,hv⟩=>by
       have l:d<envc.length:=by have:=(ff.1 hv).1;rwa[nZ]at this
       have:=B.dst x hx d hd l;rw[mJ (λe=>U x hx d e hd),this]at hv;exact⟨(Option.some.inj hv).symm,eC.symm⟩
      split at f1
      .exact f1.elim
      split at f1
      .rename_i s off HQ;simp only[HQ]at p;split at p
       .rename_i fT;have aw:gT f=false:=by simpa using fT
        rw[G aw];exact f1
       split at f1
       .rename_i c H;split at p
        .rename_i c' zl;try simp only[zl]
         split at p
         .rename_i cs ar;exact pG p λv M=>ab v M.h
         exact p.elim
        exact p.elim
       exact f1.elim
      .rename_i z HQ;simp only[HQ]at p;obtain⟨cs,q1,q2⟩:=p.out;exact⟨cs,q1,pG q2 λv M=>ab v M.h⟩
      exact f1.elim
     |_=>simp[nU,AK]at r
    exact(f2 _ _).2 f1
   have:=h5 x.o (B.op x hx).1;rw[r]at this;cases this
 have N:Region.wanted f (yielded ops a.tmps)=false:=by
  have hg:=FT ((S (λ_=>False) (λ_=>True)).2 trivial) FD;rcases wv hs hg with⟨-,hf⟩|⟨N,-⟩
  .exact hf.elim
  exact N
 rw[if_neg (by simp[N])];refine⟨λ_ _=>trivial,?_⟩;refine hK _ _ _ _ _ _ _ g (hs.put (x:=.v undef) (v:=undef) rfl) (fin (.v undef) Lc La h (.inl ⟨rfl,rfl⟩) λx hx=>?_);exact qU.wC (B.fact x hx) (λt u=>mJ (al x hx t u)) (λ_ _ _ H=>H) (λ_=>rfl)
variable {ro:Option Nat}{n:Nat}
variable {P:Program}{T:bg}{A:Ar}[bI A]
variable {ds:List Deferred}{h0:ad}{w0:World}{β:Nat->Nat}{h:ad}{a:Act}{w:World}
variable {ops:Array Oper}{X:Array Bool}{D:List qU}{listed pend known:List Nat}{envc jS:Env}{Lc La:Loc}
theorem dQ.fKR(b:dQ ds h0 w0 β jS La h a w)(hl:∀s,mg La s=mg Lc s):dQ ds h0 w0 β jS Lc h a w:=
 ⟨b.after,λs c f=>b.loc s c (by rw[hl];exact f),λs g c c' d e=>b.inj s g c c' (by rw[hl];exact d) (by rw[hl];exact e),b.size,λt x hx=>by
  have:=b.slot t x hx;cases x with
  |v y=>exact this
  |u=>trivial
  |loc s off=>exact⟨by rw[<-hl];exact this.1,this.2⟩,b.defers⟩
def cZO(X:Array Bool):Nat:=X.toList.countP (!·)
theorem PO(a:i<X.size)(n:¬In X i):cZO (X.setIfInBounds i true)+1=cZO X:=by
 unfold cZO;have hl:i<X.toList.length:=by simpa using a
 have hx:X.toList[i]=false:=by unfold In at n;rw[jKg,kQf a]at n;simpa using n
 rw[kXG];have m:0<X.toList.countP (!·):=List.countP_pos_iff.2 ⟨X.toList[i],List.getElem_mem hl,by simp[hx]⟩;rw[List.countP_set (h:=hl)];simp[hx];simp only[Array.countP_toList]at m;omega
theorem GW(hX:X.size=ops.size)(r:yv T ops=true)(b:Region.ready .any ops X=[]):∀j,j<ops.size->In X j:=by
 intro j;induction j using Nat.strongRecOn with
 |_ j i=>
  intro h;by_cases f:In X j
  .exact f
  exfalso;have:j∈Region.ready .any ops X:=by rw[BQ hX];refine⟨f,ops[j],by simp[h],λe A=>?_⟩;have a:=(pP r (show ops[j]? =some ops[j]by simp[h])).1 e A;exact i e a (by omega)
  rw[b]at this;cases this
theorem bJO{p:ye}(h:DK T ops p true listed pend known=true):∃k∈uG p,k∉listed/\k<ops.size:=by
 induction p with
 |done=>simp[DK]at h
 |aa i r _=>simp[DK]at h
 |af i n r _=>
  simp only[DK,kQo,ya]at h;refine⟨i,by simp[uG],by simpa using h.1.1.2,?_⟩;have a:=h.1.2;split at a
  .rename_i o c;exact(jKc.1 c).1
  cases a
 |fork l r g _=>simp only[DK,kQo,ya,true_and]at h;obtain⟨k,b,a⟩:=g h.1;exact⟨k,by simp[uG,b],a⟩
theorem Xk{p:ye}(o:DK T ops p true listed pend known=true)(hx:ki A T (λ_=>P) ops.toList K p envc Lc h){k:Nat}(a:k∈uG p):
 ∃n r,DK T ops (.af k n r) true listed pend known=true/\ki A T (λ_=>P) ops.toList K (.af k n r) envc Lc h:=by
 induction p with
 |done=>simp[uG]at a
 |aa i r _=>simp[uG]at a
 |af i n r _=>simp[uG]at a;subst a;exact⟨n,r,o,hx⟩
 |fork l r g Z=>
  simp only[DK,kQo,ya,true_and]at o;simp only[uG,wy]at a;rcases a with a|a
  .exact g o.1 hx.1 a
  exact Z o.2 hx.2 a
theorem Ln{p:ye}(h:DK T ops p false listed pend known=true)(a:(∃i n r,p=.af i n r)\/∃l r,p=.fork l r):
 DK T ops p true listed pend known=true/\JP ops p listed=true:=by
 rcases a with⟨i,n,r,rfl⟩|⟨l,r,rfl⟩
 .simp only[DK,kXc,kQo,ya]at h |-;simp_all
 simp only[DK,kXc,kQo,ya]at h |-;simp_all
theorem advance(g:yv T ops=true):∀(p:ye) {D:List qU} {listed pend:List Nat} {envc:Env} {Lc:Loc},iZ A T P ops X D listed pend known envc Lc jS La h->
 ki A T (λ_=>P) ops.toList K p envc Lc h->DK T ops p false listed pend known=true->
 ∃j x Q C e d,iZ A T P ops X j x Q known C e jS La h/\ki A T (λ_=>P) ops.toList K d C e h/\DK T ops d false x Q known=true/\
  (d=.done\/(∃i n r,d=.af i n r)\/∃l r,d=.fork l r)
 | .done,D,listed,pend,envc,Lc,B,hx,a=>⟨_,_,_,_,_,_,B,hx,a,.inl rfl⟩
 | .af i n r,D,listed,pend,envc,Lc,B,hx,a=>⟨_,_,_,_,_,_,B,hx,a,.inr (.inl ⟨_,_,_,rfl⟩)⟩
 | .fork l r,D,listed,pend,envc,Lc,B,hx,a=>⟨_,_,_,_,_,_,B,hx,a,.inr (.inr ⟨_,_,rfl⟩)⟩
 | .aa i r,D,listed,pend,envc,Lc,B,hx,a=>by
  simp only[DK,kXL,jKP,ya]at a;obtain⟨⟨m,b⟩,q⟩:=a;split at b
  .rename_i o f;simp only[ya,jKy,kQd,NB]at b;unfold ki at hx;simp only[kQb,f]at hx;obtain⟨v,s,c,H⟩:=B.take g f (by simpa using m) b.1 b.2 hx;refine advance g r H ?_ q;rcases c with c| ⟨c,e1,k⟩
   .exact c
   rw[e1,k];have:eX Lc o.dst none=Lc:=by unfold eX;cases o.dst<;>rfl
   rw[this];exact c
  cases b
theorem NV(hT:gV P T)(G:yv T ops=true)(DO:Wz T ops=true)
 (iO:oK T ds h0 w0 Q) (hK:∀cP L' h' pD J w',K cP L' h'->dQ ds h0 w0 pD cP L' h' J w'->Q .normal J w'):
 ∀(f:Nat) {X:Array Bool} {D:List qU} {listed pend known:List Nat} {envc jS:Env} {Lc La:Loc} {h:ad} {β:Nat->Nat} {a:Act} {w:World} {p:ye},
  cZO X<=f->iZ A T P ops X D listed pend known envc Lc jS La h->dQ ds h0 w0 β jS La h a w->ki A T (λ_=>P) ops.toList K p envc Lc h->DK T ops p false listed pend known=true->
  wpAnyIn (FW ro) n P .any ops Q f X a w:=by
 intro f;have done:∀ {X:Array Bool} {D:List qU} {listed pend known:List Nat} {envc jS:Env} {Lc La:Loc} {h:ad} {β:Nat->Nat} {a:Act} {w:World} {p:ye},
  iZ A T P ops X D listed pend known envc Lc jS La h->dQ ds h0 w0 β jS La h a w->ki A T (λ_=>P) ops.toList K p envc Lc h->DK T ops p false listed pend known=true->
  Region.ready .any ops X=[]->Q .normal a w:=λ{X D listed pend known envc jS Lc La h β a w p} B g hx y v=>by
  have C:=GW B.size G v;obtain⟨I,W,Qp,Y,Z,p',H,N,R,i⟩:=advance G p B hx y;have L:I=[]:=by
   cases I with
   |nil=>rfl
   |cons x r=>exfalso;exact H.apart x (by simp) (C x.i (jKc.1 (H.op x (by simp)).1).1)
  subst L;have qO:∀k,k∉W->k<ops.size->False:=λk b c=>b (H.gQA (C k c));rcases i with rfl|i
  .unfold ki at N;refine hK _ _ _ β _ _ N ?_;have e1:jS=Y:=yr λt=>H.env t (λx hx=>by cases hx);have e2:∀s,mg La s=mg Z s:=λs=>H.loc s (λx hx=>by cases hx);rw[e1]at g;exact g.fKR e2
  obtain⟨b,-⟩:=Ln R i;obtain⟨k,-,c,d⟩:=bJO b;exact(qO k c d).elim
 induction f with
 |zero=>
  intro X D listed pend known envc jS Lc La h β a w p hf B g hx y;have v:Region.ready .any ops X=[]:=by
   apply kZg.2;intro j M;rw[BQ B.size]at M;obtain⟨b,o,c,-⟩:=M;have U:j<X.size:=by rw[B.size];exact(jKc.1 c).1
   have:=PO U b;omega
  exact⟨v,done B g hx y v⟩
 |succ f ih=>
  intro X D listed pend known envc jS Lc La h β a w p hf B g hx y;refine⟨λv=>done B g hx y v,λk hk=>?_⟩;obtain⟨I,W,Qp,Y,Z,p',H,N,R,i⟩:=advance G p B hx y;have HV:=hk;rw[BQ B.size]at HV;obtain⟨Jv,ok,z,O⟩:=HV;have q:k<X.size:=by rw[B.size];exact(jKc.1 z).1
  have an:=PO q Jv;by_cases L:∃x∈I,x.i=k
  .obtain⟨x,F,rfl⟩:=L;have:ops[x.i]? =some x.o:=(H.op x F).1;rw[z]at this;cases this;exact H.catch hT G g F O λpD J w' Im ab b c=>ih (by omega) c b N R
  have l:k∉W:=λhm=>by
   rcases(H.bJZ k).1 hm with b|b
   .exact Jv b
   exact L b
  rcases i with rfl|i
  .simp only[DK,kXL,jKP,jKy,kXb,kQd,NB]at R;exact absurd (R k (by rw[<-B.size];exact q)) l
  obtain⟨b,c⟩:=Ln R i;have S:k∈uG p':=by
   unfold JP at c;rw[jKy]at c;have:=c k (by simp only[kXb];rw[<-B.size];exact q);simp only[z,kQL,kQd,NB,kQq,kXh]at this;rcases this with (d|d)|⟨e,d,E⟩
   .exact absurd d l
   .exact d
   exact absurd (H.gQA (O e d)) (by simpa using E)
  obtain⟨pn,r,d,E⟩:=Xk b N S;unfold ki at E;simp only[kQb,z]at E;simp only[DK,kQo,jKP,ya,z]at d;obtain⟨⟨-,h5,m⟩,h7⟩:=d;refine H.af hT G DO g z l (by simpa using h5) O ?_ E iO (λJ w' al ag ao aq h' hR Fu V=>ih (by omega) V Fu hR h7);simp only[kQL,jKy,kQd,NB]at m;rcases m with m|m
  .exact .inl m
  refine .inr λj M=>?_;rcases m j M with (u|u) |u
  .exact .inl u
  .exact .inr (.inl u)
  refine .inr (.inr λoj Ye=>?_);simp only[Ye,kQq]at u;exact u
variable {ro:Option Nat}{n:Nat}
variable {P:Program}{T:bg}{A:Ar}[bI A]
variable {ds:List Deferred}{h0:ad}{w0:World}{β:Nat->Nat}{h:ad}{a:Act}{w:World}{env:Env}{L:Loc}
def fK(T:bg):Code->Bool
 | .region id ops true=>(yv T ops&&Wz T ops)&&DK T ops (T.aw id) false [] [] []
 | .seq a b| .cond _ a b=>fK T a&&fK T b
 | .block _ c| .loop c| .scope c=>fK T c
 | .rangeFunc _ _ a c=>fK T a&&fK T c
 |_=>true
def Pm:Ex->Exit
 | .normal=>.normal
 | .exit id=>.exit id
 | .ret=>.ret
theorem Se(n:Nat):cZO (Array.replicate n false)<=n:=by unfold cZO;have:=kZf (p:=λb:Bool=> !b) (l:=(Array.replicate n false).toList);simpa using this
theorem II:∀ {e e1:Env},wk e e1->e.length=e1.length
 | [],[],_=>rfl
 |x::r,y::q,hw=>by
  unfold wk at hw;simp only[wS];cases y with
  |u=>rw[II hw]
  |v b=>rw[II hw.2]
  |loc s o=>rw[II hw.2]
theorem IJ:∀ {e e1:Env},Sx.wk e e1->∀(t:Nat) (x:SV),e1[t]? =some x->x=SV.u\/e[t]? =some x
 | [],[],_,t,x,hx=>by simp at hx
 |y::r,z::q,hw,t,x,hx=>by
  unfold wk at hw;cases t with
  |zero=>
   simp at hx |-;subst hx;cases z with
   |u=>exact .inl rfl
   |v b=>exact .inr hw.1
   |loc s o=>exact .inr hw.1
  |succ t=>
   simp at hx |-;cases z with
   |u=>exact IJ hw t x hx
   |v b=>exact IJ hw.2 t x hx
   |loc s o=>exact IJ hw.2 t x hx
theorem Ax{L:Loc}:∀ {a:Loc},aZt L a->∀(s:Nat) (c:List Value),mg a s=some c->mg L s=some c
 | [],_,s,c,h=>by cases h
 | (k,d)::r,hl,s,c,h=>by
  unfold aZt at hl;simp only[mg]at h;split at h
  .rename_i e;subst e;cases h;exact hl.1
  exact Ax hl.2 s c h
theorem DM{L:Loc}:∀ {e:Env},dQW L e->∀(t s o:Nat),e[t]? =some (SV.loc s o)->∃c,mg L s=some c
 | [],_,t,s,o,hx=>by simp at hx
 |x::r,hl,t,s,o,hx=>by
  unfold dQW at hl;cases t with
  |zero=>simp at hx;subst hx;exact kQg.1 hl.1
  |succ t=>
   simp at hx;cases x with
   |u=>exact DM hl t s o hx
   |v b=>exact DM hl t s o hx
   |loc a o'=>exact DM hl.2 t s o hx
theorem dQ.wk(d:dQ ds h0 w0 β env L h a w){j:Env}{f:Loc}(e:Wk env L j f):dQ ds h0 w0 β j f h a w:=
 ⟨d.after,λs c l=>d.loc s c (Ax e.loc s c l),λs g c c' i k=>d.inj s g c c' (Ax e.loc s c i) (Ax e.loc g c' k),by rw[d.size,II e.env],λt x hx=>by
  rcases IJ e.env t x hx with rfl|he
  .trivial
  have:=d.slot t x he;cases x with
  |u=>trivial
  |v b=>exact this
  |loc s o=>exact⟨DM e.ok t s o hx,this.2⟩,d.defers⟩
theorem lZ{b:Frame}{k:List Item}{cs:List Frame}:step P (lone (b.atR a (.code (.scope c)::k)) cs w)=.next (lone (b.atR a (.code c::.inScope c::k)) cs w):=
 step_lone_go (by simp[stepG,stepG.exec,Frame.atR])
theorem GH{b:Frame}{k:List Item}{cs:List Frame}:step P (lone (b.atR a (.inScope c::k)) cs w)=.next (lone (b.atR a k) cs w):=
 step_lone_go (by simp[stepG,stepG.exec,Frame.atR])
theorem Ej{F:Fence}(h:c.wpIn F n P (Exit.noGoto Q) a w):(Code.scope c).wpIn F n P Q a w:=by
 intro b k cs D d r;have h0:(lone (b.atR a (.code (.scope c)::k)) cs w).fenced P F:=fenced_calm d r rfl;obtain⟨e,Z,V,q,T⟩:=h b (.inScope c::k) cs D d r;cases e with
 |normal=>exact⟨.normal,Z,V,q,.head h0 lZ (StepsIn.trans T (.one (fenced_calm d r rfl) GH))⟩
 |exit g=>
  have hx:exitTo g (.inScope c::k)=exitTo g k:=by simp[exitTo]
  exact⟨.exit g,Z,V,q,λm f=>.head h0 lZ (T.1 m (by rw[hx];exact f)),
   λA f=>let ⟨k₁,i,j⟩:=T.2 A (by rw[hx];exact f);⟨k₁,i,.head h0 lZ j⟩⟩
 |goto l=>exact q.elim
 |ret=>exact⟨_,Z,V,q,.of_steps (.one h0 lZ) T⟩
 |panic o=>exact⟨_,Z,V,q,.of_steps (.one h0 lZ) T⟩
 |outgrown=>exact⟨_,Z,V,q,.of_steps (.one h0 lZ) T⟩
theorem iL(F:gV P T):∀(c:Code),fK T c=true->∀ {K:Ex->Env->Loc->ad->Prop} {Q:Exit->Act->World->Prop} {env:Env} {L:Loc} {h:ad} {β:Nat->Nat} {a:Act} {w:World},
 dQ ds h0 w0 β env L h a w->sx A T (λ_=>P) c K env L h->
 oK T ds h0 w0 Q->(∀e q L' h' r p w',K e q L' h'->dQ ds h0 w0 r q L' h' p w'->Q (Pm e) p w')->c.wpIn (FW ro) n P Q a w:=by
 intro c;induction c with
 |skip=>exact λ_ {K Q env L h β a w} s hx O b=>wpIn_skip (b .normal _ _ _ _ _ _ hx s)
 |region id ops y=>
  intro f K Q env L h β a w s hx O b;cases y with
  |false=>exact wpIn_region_list (qZ F O (λq L' h' r p w' g k=>b .normal _ _ _ _ _ _ g k) ops.toList _ _ _ _ _ _ s hx)
  |true=>
   simp only[fK,ya]at f;refine wpIn_region_any F.mixed ?_;have R:dQ ds h0 w0 β env L h a { w with drawn:=w.drawn+1 }:=
    ⟨⟨s.after.os,s.after.tape,s.after.output,s.after.size,s.after.Ee,s.after.frame⟩,s.loc,s.inj,s.size,s.slot,s.defers⟩
   refine NV F f.1.1 f.1.2 (K:=λenv L h=>K .normal env L h) O (λq L' h' r p w' g k=>b .normal _ _ _ _ _ _ g k) ops.size (D:=[]) (listed:=[]) (pend:=[]) (known:=[]) (envc:=env) (Lc:=L)
    (by exact Se ops.size) ?_ R hx f.2
   have H:∀j,¬In (Array.replicate ops.size false) j:=λj B=>by
    unfold In at B;rw[jKg,kXg]at B;split at B<;>simp at B
   exact⟨by simp,λj=>by simp[H j],λx hx=>(by cases hx),λi o G=>absurd G (H i),λi G=>(by cases G),λx hx=>(by cases hx),rfl,λ_ _=>rfl,λx hx=>(by cases hx),λ_ _=>rfl,
    λx hx=>(by cases hx),λx hx=>(by cases hx),λx hx=>(by cases hx),λx hx=>(by cases hx),λx hx=>(by cases hx)⟩
 |seq c d N U=>
  intro f K Q env L h β a w s hx O b;simp only[fK,ya]at f;unfold sx at hx;refine wpIn_seq (N f.1 s hx (λc β env L h a w u v=>O c β env L h a w u v) λe q L' h' r p w' g k=>?_);cases e with
  |normal=>exact U f.2 k g O b
  |exit id=>exact b (.exit id) _ _ _ _ _ _ g k
  |ret=>exact b .ret _ _ _ _ _ _ g k
 |cond x c d N U=>
  intro f K Q env L h β a w s hx O b;simp only[fK,ya]at f;unfold sx at hx;split at hx
  .rename_i t Y;refine wpIn_cond (s.bO Y) ?_;rcases lQ hx with⟨rfl,hx⟩|⟨rfl,hx⟩
   .exact N f.1 s hx O b
   exact U f.2 s hx O b
  exact hx.elim
 |block id c z=>
  intro f K Q env L h β a w s hx O b;unfold sx at hx;refine wpIn_block (z f s hx (λc β env L h a w u v=>O c β env L h a w u v) λe q L' h' r p w' g k=>?_);cases e with
  |normal=>exact b .normal _ _ _ _ _ _ g k
  |exit j=>
   simp only[Pm,Exit.inBlock]at g |-;split at g
   .rename_i e;rw[if_pos e];exact b .normal _ _ _ _ _ _ g k
   rename_i e;rw[if_neg e];exact b (.exit j) _ _ _ _ _ _ g k
  |ret=>exact b .ret _ _ _ _ _ _ g k
 |loop c z=>
  intro f K Q env L h β a w s hx O b;unfold sx at hx;obtain⟨I,n,⟨Z,J,X,V⟩,M⟩:=hx.out;refine wpIn_loop_ghost (λn a w=>∃env L h β,I n env L h/\dQ ds h0 w0 β env L h a w) n ⟨_,_,_,_,V,s.wk X⟩ λn a w ⟨env,L,h,β,g,k⟩=>?_;refine z f k (M n env L h g) (λc β env L h a w u v=>O c β env L h a w u v) λe q L' h' r p w' C E=>?_;cases e with
  |normal=>obtain⟨m,Z,J,W,X,S⟩:=C;exact⟨m,W,_,_,_,_,S,E.wk X⟩
  |exit j=>exact b (.exit j) _ _ _ _ _ _ C E
  |ret=>exact b .ret _ _ _ _ _ _ C E
 |rangeFunc=>intro f K Q env L h β a w s hx O b;exact hx.elim
 |exit id=>exact λ_ {K Q env L h β a w} s hx O b=>wpIn_exit (b (.exit id) _ _ _ _ _ _ hx s)
 |scope c z=>
  intro f K Q env L h β a w s hx O b;refine Ej (z f s hx (λc β env L h a w u v=>O c β env L h a w u v) λe q L' h' r p w' g k=>?_);cases e with
  |normal=>exact b .normal _ _ _ _ _ _ g k
  |exit j=>exact b (.exit j) _ _ _ _ _ _ g k
  |ret=>exact b .ret _ _ _ _ _ _ g k
 |label l=>exact λ_ {K Q env L h β a w} s hx O b=>wpIn_label (b .normal _ _ _ _ _ _ hx s)
 |goto=>intro f K Q env L h β a w s hx O b;exact hx.elim
 |ret=>exact λ_ {K Q env L h β a w} s hx O b=>wpIn_ret (b .ret _ _ _ _ _ _ hx s)
 |refuse=>intro f K Q env L h β a w s hx O b;exact hx.elim
def IZ(tmps:Array Value):ResultVar->Sem Value
 | .tmp t=>pure (tmps.getD t undef)
 | .cell q t=>do loadVar t (<-asAddr (tmps.getD q undef))
theorem ES(fn:Func)(m:Array Value):results fn m=(do
 let v <-fn.results.mapM (IZ m)
 pure (if h:v.size=1 then v[0]else .tuple v)):=by
 have:(λ(x:ResultVar)=>(match x with| .tmp t=>pure (m.getD t undef) | .cell a t=>do loadVar t (<-asAddr (m.getD a undef)):Sem Value))=IZ m:=by funext x;cases x<;>rfl
 unfold results;rw[<-this];rfl
theorem WJ(m:gV P T)(s:dQ ds h0 w0 β env L h a w){r:ResultVar}{k:Value->Prop}(b:bJh T env L h r k):
 ∃v,(IZ a.tmps r).run P w=.ok v w/\k v:=by
 unfold bJh at b;split at b
 .rename_i t;split at b
  .rename_i x hx;have:=s.slot t _ (getD_some hx (by simp));exact⟨_,rfl,by rw[show a.tmps.getD t undef=x from this];exact b⟩
  exact b.elim
 rename_i q t;split at b
 .exact b.elim
 .rename_i hx j;have i:=ir m (t:=t) (λe=>j e);have oC:=s.slot q _ (getD_some hx (by simp));split at b
  .rename_i c z;split at b
   .rename_i cs n;obtain⟨d,u⟩:=Lu s z n;obtain⟨v,f,g⟩:=ri i w _ _ cs d u b;refine⟨v,?_,g⟩;show(do loadVar t (<-asAddr (a.tmps.getD q undef)):Sem Value).run P w=_;rw[show a.tmps.getD q undef=_ from oC.2];simp[asAddr,f]
   exact b.elim
  exact b.elim
 .rename_i hx j;have i:=ir m (t:=t) (λe=>j e);have oC:=s.slot q _ (getD_some hx (by simp));obtain⟨cs,d,hl⟩:=(show zF _ _ _ _ from b).out;obtain⟨l,o,p⟩:=d.cell s.after.Ee;obtain⟨v,f,g⟩:=ri i w _ _ cs o p hl;refine⟨v,?_,g⟩;rename_i y;have:y=⟨y.block,y.off,none⟩:=by cases y;simp at l;rw[l]
  show(do loadVar t (<-asAddr (a.tmps.getD q undef)):Sem Value).run P w=_;rw[show a.tmps.getD q undef=.pointer (some y)from oC];simp only[asAddr,nX,va,mB];rw[this];exact f
 exact b.elim
theorem EU(c:gV P T)(s:dQ ds h0 w0 β env L h a w):∀ {rs:List ResultVar} {k:List Value->Prop},Ao T env L h rs k->
 ∃l,(rs.mapM (IZ a.tmps)).run P w=.ok l w/\k l
 | [],k,b=>⟨[],rfl,b⟩
 |r::rs,k,b=>by
  unfold Ao at b;obtain⟨v,d,e⟩:=WJ c s b;obtain⟨l,f,g⟩:=EU c s e;refine⟨v::l,?_,g⟩;rw[kXP];simp only[nX,d,mB,f,va]
theorem oK.none(C:∀c s h,¬T.kp c s h):oK T ds h0 w0 Q:=λc β env L h a w q _=>(C _ _ _ q).elim
theorem ah(A:Ar)[bI A](j:gV P T)(r:P.funcs[f]? =some fn)(q:fn.body=some c)(u:fK T c=true){h:ad}
 (hx:cKU A T (λ_=>P) c fn.ntmps fn.results.toList args h R) (C:∀c s h,¬T.kp c s h:=by exact λ_ _ _ b=>b):Gt (λ_=>P) f args h R:=by
 refine⟨λw B=>?_⟩;refine calls_of_wp r q (wpIn_wide (n:=0).1 ?_);have z:dQ [] h w (λ_=>0) (args.map SV.v++List.replicate (fn.ntmps-args.length) (.v undef)) [] h { tmps:=args.toArray++Array.replicate (fn.ntmps-args.toArray.size) undef,defers:=[] } w:=by
  refine⟨bT.refl B,λs c b=>(by cases b),λs E c c' b=>(by cases b),by simp,λt x hx=>?_,rfl⟩;rw[jKO]at hx;split at hx
  .rename_i U;have F:t<args.length:=by simpa using U
   rw[kS,zG F]at hx;simp at hx;subst hx;show _=_;rw[jKg,kXK (by simpa using F)];simp[F]
  rename_i J;have Q:args.length<=t:=by simpa using J
  rw[kXa]at hx;split at hx
  .rename_i U;cases hx;show _=_;rw[jKg,kXJ (by simpa using Q),kXg];simp at U |-;rw[if_pos U];rfl
  cases hx
 refine iL (A:=A) (ro:=none) (n:=0) j c u z hx (oK.none C) λe m L' h' D g w' a i=>?_;have fin:Ao T m L' h' fn.results.toList (λl=>sH l (λv=>R v h'))->g.defers=[]/\∃v,(results fn g.tmps).run P w'=.ok v w'/\∃k a,Ending.returned v=.returned k/\R k a/\bT h w a w':=λy=>by
  obtain⟨l,o,d⟩:=EU j i y;refine⟨i.defers,?_⟩;have p:(results fn g.tmps).run P w'=.ok (if h:l.toArray.size=1 then l.toArray[0]else .tuple l.toArray) w':=by rw[ES,kXo];rw[nX,kXn];rw[o];rfl
  refine⟨_,p,_,h',rfl,?_,i.after⟩;unfold sH at d;split at d
  .exact d
  rename_i S;have:¬l.toArray.size=1:=λhl=>by
   match l,hl with
   | [x],_=>exact S x rfl
  rw[dif_neg this];exact d
 cases e with
 |normal=>exact fin a
 |ret=>exact fin a
 |exit id=>exact a.elim
variable {ro:Option Nat}{n:Nat}
variable {P:Program}{T:bg}{A:Ar}[bI A]
inductive Df where
 |call (g:FuncId) (args cap:List Value)
 |mark (m:Nat)
def Df.at:Df->Deferred
 | .call g args cap=>{ target:=.fn (.func g) cap.toArray,args:=args.toArray }
 | .mark m=>{ target:=.collected m,args:= #[] }
def nB:Env->Env
 | []=>[]
 |x::r=>match x with
  | .loc _ _=>.u::nB r
  |x=>x::nB r
def CJ:Env->List Nat->List Value->Env
 |env,p::ps,v::vs=>CJ (env.set p (.v v)) ps vs
 |env,_,_=>env
def NP(A:Ar)(T:bg)(p:Unit->Program)(CY body:Code)(env:Env)(ps:List Nat)(l:Nat)(o1 o2:Obj)(vs:List Value)(k:ad->Prop)(hh:ad):Prop:=
 sx A T p CY (λe jz L1 h1=>match e with
  | .normal=>h1 l=some o1/\sx A T p body (λe _ _ h2=>match e with
   | .normal=>h2 l=some o2/\k (bL h2 l o1)
   |_=>False) jz L1 (bL h1 l o2)
  |_=>False) (CJ env ps vs) [] hh
structure hKH(p:Unit->Program)(gf:FuncId)(lb:List Value)(n:Nat)(round:Nat->Obj->Obj->List Value->(ad->Prop)->ad->Prop)(h:ad)(K:Nat->ad->Prop):Prop where
 out:∀(m l:Nat) (o1 o2:Obj),h m=none->h l=none->m≠l->(∀c e fr,o1≠.cells c e fr)->(∀c e fr,o2≠.cells c e fr)->
  (∀vs hh (k:ad->Prop),vs.length=n->hh l=some o1->round l o1 o2 vs k hh->aKD p l vs hh (λv h'=>v=.bool true/\k h'))->
  Gt p gf (.func (.yield l) #[] #[]::lb) (bL (bL h m (.deferred (some []))) l o1) (λ_ h'=>h' l=some o1/\∀o3,(∀c e fr,o3≠.cells c e fr)->K m (bL h' l o3))
def jXY(P:Program)(f:FuncId)(args:List Value)(h:ad)(R:Value->ad->Prop):Prop:=
 ∀w,DC h w->∀n,CallsDIn Fence.wide n P f args.toArray .returning w λe u' w'=>u'=.returning/\∃v h',e=.returned v/\R v h'/\bT h w h' w'
structure UH(p:Unit->Program)(f:FuncId)(args:List Value)(h:ad)(R:Value->ad->Prop):Prop where
 out:jXY (p ()) f args h R
theorem UH.mono{h:ad}{a:Value->ad->Prop}(x:UH p f args h R)(r:∀v h',R v h'->a v h'):UH p f args h a:=
 ⟨λw c n=>(x.out w c n).mono λe u w' ⟨hu,v,h',he,hR,b⟩=>⟨hu,v,h',he,r _ _ hR,b⟩⟩
def yP(A:Ar)(T:List Df->bg)(p:Unit->Program)(all:List Oper)(K:List Df->Env->Loc->ad->Prop):List Oper->List Df->Env->Loc->ad->Prop
 | [],ds,env,L,h=>K ds env L h
 |o::rest,ds,env,L,h=>
  gd all env o
   (λ_=>match o.op with
    | .defer c=>match c.callee with
     | .value f=>match qi env f with
      | .v (.func (.func g) first cap)=>match pK (c.args.toList.map (qi env))with
       |some as=>yP A T p all K rest (.call g (first.toList++as) cap.toList::ds) (put env o.dst (.v undef)) L h
       |none=>False
      |_=>False
     |_=>False
    |_=>match mO (T ds) o with
     |true=>jK A (T ds) p o (qi env) L h (λx nb=>yP A T p all K rest ds (put env o.dst x) (eX L o.dst nb) h)
     |false=>hx A (T ds) p o (qi env) L h (λx L' h'=>yP A T p all K rest ds (put env o.dst x) L' h'))
   (λ_=>yP A T p all K rest ds (put env o.dst (.v undef)) L h)
def VX(A:Ar)(T:List Df->bg)(p:Unit->Program):Code->(Ex->List Df->Env->Loc->ad->Prop)->List Df->Env->Loc->ad->Prop
 | .region id ops false,K,ds,env,L,h=>yP A T p ops.toList (λds env L h=>K .normal ds env L h) ops.toList ds env L h
 | .seq a b,K,ds,env,L,h=>VX A T p a (λe ds env L h=>match e with
  | .normal=>VX A T p b K ds env L h
  |e=>K e ds env L h) ds env L h
 | .cond c a b,K,ds,env,L,h=>match qi env c with
  | .v (.bool t)=>Ps t (λ_=>VX A T p a K ds env L h) (λ_=>VX A T p b K ds env L h)
  |_=>False
 | .block id c,K,ds,env,L,h=>VX A T p c (λe ds env L h=>match e with
  | .exit j=>if j=id then K .normal ds env L h else K (.exit j) ds env L h
  |e=>K e ds env L h) ds env L h
 | .rangeFunc g ps CY body,K,ds,env,L,h=>match qi env g with
  | .v (.func (.func gf) first lb)=>match first.isEmpty,(T ds).fn gf with
   |true,true=>hKH p gf lb.toList ps.size (NP A (T ds) p CY body (nB env) ps.toList) h (λm h'=>K .normal (.mark m::ds) env L h')
   |_,_=>False
  |_=>False
 |c,K,ds,env,L,h=>sx A (T ds) p c (λe env L h=>K e ds env L h) env L h
def NL(T:bg)(p:Unit->Program):List Df->(ad->Prop)->ad->Prop
 | [],k,h=>k h
 | .call g args cap::r,k,h=>match T.fn g with
  |true=>UH p g (args++cap) h (λ_ h'=>NL T p r k h')
  |false=>False
 | .mark m::r,k,h=>h m=some (.deferred (some []))/\NL T p r k (bL h m (.deferred none))
def cKT(A:Ar)(T:bg)(p:Unit->Program)(c:Code)(ntmps:Nat)(rs:List ResultVar)(args:List Value)(h:ad)(R:Value->ad->Prop):Prop:=
 VX A (λ_=>T) p c (λe ds env L h=>match e with
  | .exit _=>False
  |_=>NL T p ds (λh=>Ao T env L h rs (λl=>sH l (λv=>R v h))) h) [] (args.map SV.v++List.replicate (ntmps-args.length) (.v undef)) [] h
variable {h0:ad}{w0:World}{β:Nat->Nat}{h:ad}{a:Act}{w:World}{env:Env}{L:Loc}
theorem dQ.MR{ds:List Deferred}(s:dQ ds h0 w0 β env L h a w)(d:Deferred):dQ (d::ds) h0 w0 β env L h { a with defers:=d::a.defers } w:=
 ⟨s.after,s.loc,s.inj,s.size,s.slot,by rw[s.defers]⟩
def aQl(T:List Df->bg)(h0:ad)(w0:World)(Q:Exit->Act->World->Prop):Prop:=∀ds:List Df,oK (T ds) (ds.map Df.at) h0 w0 Q
variable {TT:List Df->bg}
theorem mF(T:∀ds,gV P (TT ds)){ops:Array Oper}{K:List Df->Env->Loc->ad->Prop}
 (O:aQl TT h0 w0 Q) (i:∀Z u L' h' D t w',K Z u L' h'->dQ (Z.map Df.at) h0 w0 D u L' h' t w'->Q .normal t w'):
 ∀(l:List Oper) (ds:List Df) (env:Env) (L:Loc) (h:ad) (β:Nat->Nat) (a:Act) (w:World),dQ (ds.map Df.at) h0 w0 β env L h a w->
  yP A TT (λ_=>P) ops.toList K l ds env L h->wpListIn (FW none) n P ops Q l a w
 | [],ds,env,L,h,β,a,w,b,hx=>i _ _ _ _ _ _ _ hx b
 |o::r,ds,env,L,h,β,a,w,b,hx=>by
  unfold yP at hx;unfold wpListIn;rcases wv b hx with⟨hw,hx⟩|⟨hw,hx⟩
  .rw[if_pos hw];split at hx
   .rename_i c G;split at hx
    .rename_i f E;split at hx
     .rename_i g first cap F
      split at hx
      .rename_i e has;have H:(execOp a.eval o).run P w=.ok (.defer (Df.at (.call g (first.toList++e) cap.toList))) w:=by
        have e1:first++e.toArray=(first.toList++e).toArray:=by apply Array.ext';simp
        simp only[execOp,G,resolve,E,b.bO F,jY b has,Deferred.ofValue,nX,va,mB,Df.at,e1]
       unfold Oper.wpIn;refine⟨λ_ _=>trivial,?_⟩;rw[show(FW none).round=none from rfl,Oper.semAt_none,H,Oper.uponIn_defer];exact mF T O i r (.call g (first.toList++e) cap.toList::ds) _ _ _ _ _ _ ((b.MR (Df.at (.call g (first.toList++e) cap.toList))).put (d:=o.dst) (x:=.v undef) (v:=undef) rfl) hx
      exact hx.elim
     exact hx.elim
    exact hx.elim
   split at hx
   .obtain⟨z,I,k,m⟩:=tS hx;obtain⟨v,w',D,p,C⟩:=BZ (T ds) b (m (λx y=>x=z/\y=I) ⟨rfl,rfl⟩);refine ve p ?_;exact mF T O i r _ _ _ _ _ _ _ C k
   refine Ow (T ds) b (Lc:=L) (λ_ _ q=>q) hx (O ds) λz v B L' h' w' k m p=>?_;have:B=L':=by
    rcases p with⟨e1,j⟩|⟨s,c,x,y,-,-,e1,j⟩
    .rw[e1,j]
    rw[e1,j]
   subst this;exact mF T O i r _ _ _ _ _ _ _ m k
  rw[if_neg (by simp[hw])];refine⟨λ_ _=>trivial,?_⟩;exact mF T O i r _ _ _ _ _ _ _ (b.put (x:=.v undef) (v:=undef) rfl) hx
theorem Hn:∀ {env:Env} {t:Nat} {x:SV},(nB env)[t]? =some x->x=.u\/(env[t]? =some x/\∀s o,x≠.loc s o)
 | [],t,x,h=>by simp[nB]at h
 |y::r,0,x,h=>by
  cases y with
  |loc s o=>simp[nB]at h;exact .inl h.symm
  |v z=>simp[nB]at h;subst h;exact .inr ⟨by simp,λ_ _ e=>by cases e⟩
  |u=>simp[nB]at h;exact .inl h.symm
 |y::r,t+1,x,h=>by
  have h':(nB r)[t]? =some x:=by cases y<;>simpa[nB]using h
  rcases Hn h' with a| ⟨a,b⟩
  .exact .inl a
  exact .inr ⟨by simpa using a,b⟩
theorem Hm:∀(env:Env),(nB env).length=env.length
 | []=>rfl
 |y::r=>by cases y<;>simp[nB,Hm r]
theorem KQ{β:Nat->Nat}:∀(s:List Nat) (a:List Value) (env:Env) (tmps:Array Value),tmps.size=env.length->(∀t x,env[t]? =some x->sB β [] x (tmps.getD t undef))->
 ((s.zip a).foldl (λt (p,v)=>t.setIfInBounds p v) tmps).size=(CJ env s a).length/\∀t x,(CJ env s a)[t]? =some x->sB β [] x (((s.zip a).foldl (λt (p,v)=>t.setIfInBounds p v) tmps).getD t undef)
 | [],a,env,tmps,h,b=>by simp[CJ,h];simpa using b
 |p::s,[],env,tmps,h,b=>by simp[CJ,h];simpa using b
 |p::s,v::a,env,tmps,h,b=>by
  simp only[List.zip_cons_cons,kQr,CJ];refine KQ s a _ _ (by simp[h]) (λt x hx=>?_);rw[VS]at hx;split at hx
  .rename_i e;subst e;split at hx
   .rename_i U;cases hx;show _=_;have F:p<tmps.size:=by rw[h];exact U
    rw[jKg,kXC F];rfl
   cases hx
  rename_i e;have:=b t x hx;rw[jKg,kXB (by omega),<-jKg];exact this
theorem bT.put{h:ad}{w:World}(a:DC h w){l:Nat}{o o':Obj}(hl:h l=some o):bT h w (bL h l o') (w.putObj l o'):=by have d:=a _ _ hl;have U:l<w.heap.size:=(jKc.1 d).1;exact bT.set a hl (World.putObj_heap_same U) (λb c=>World.putObj_heap_other c) World.putObj_size ⟨rfl,rfl,rfl⟩
theorem WE(D:gV P T)(B:∀c s h,¬T.kp c s h){l:Nat}{r:Loop}{o:Code}(G:fK T C=true)(Z:fK T o=true)(Q:r.assign=C)(L:r.body=o)(j:r.state=.ready)(X:r.pending=none)
 (oC:(nB env).length=r.tmps.size) (K:∀t x,(nB env)[t]? =some x->sB (λ_=>0) [] x (r.tmps.getD t undef))
 {g:List Value} {i:ad} {k:ad->Prop} (Y:g.length=r.params.size) (hl:i l=some (.loop r))
 (hx:NP A T (λ_=>P) C o (nB env) r.params.toList l (.loop r) (.loop { r with state:=.busy }) g k i):aKD (λ_=>P) l g i (λv h'=>v=.bool true/\k h'):=by
 refine⟨λw E=>⟨_,_,_,_,run_yield (E _ _ hl) (by simpa using Y),λn=>?_⟩⟩;refine roundIn_of_wpIn trivial ?_;have hz:(r.params.zip g.toArray).foldl (λtmps (t,a)=>tmps.setIfInBounds t a) r.tmps=(r.params.toList.zip g).foldl (λt (p,v)=>t.setIfInBounds p v) r.tmps:=by rw[<-kXQ];simp
 rw[hz,Q,L];obtain⟨O,I⟩:=KQ (β:=λ_=>0) r.params.toList g (nB env) r.tmps oC.symm K;have W:dQ [] i w (λ_=>0) (CJ (nB env) r.params.toList g) [] i { tmps:=(r.params.toList.zip g).foldl (λt (p,v)=>t.setIfInBounds p v) r.tmps,defers:=[] } w:=
  ⟨bT.refl E,λs c u=>(by cases u),λs s' c c' u=>(by cases u),O,I,rfl⟩
 refine iL (A:=A) (ro:=some l) D C G W hx (oK.none B) λe jz L1 h1 al a1 w1 m q=>?_;cases e with
 |normal=>
  obtain⟨F,k2⟩:=m;have N:=q.after.Ee _ _ F;refine⟨_,run_beginRound N j,?_⟩;have S:=q.step (bT.put q.after.Ee (o':=.loop { r with state:=.busy }) F);refine iL (A:=A) (ro:=some l) D o Z S k2 (oK.none B) λe ab L2 V ag a2 w2 y z=>?_;cases e with
  |normal=>
   obtain⟨H,k4⟩:=y;have J:=z.after.Ee _ _ H;refine⟨_,_,run_endRound none J,?_⟩;have U:=z.step (bT.put z.after.Ee (o':=.loop r) H);have R:({ r with state:=if(none:Option Code).isNone=true then LoopState.ready else LoopState.done,pending:=none }:Loop)=r:=by obtain⟨s,p,f,t,ps,a,b,d⟩:=r;simp only at j X;subst j X;rfl
   refine⟨_,bL V l (.loop r),rfl,⟨rfl,k4⟩,?_⟩;have M:({ ({ r with state:=.busy }:Loop)with state:=if(none:Option Code).isNone=true then LoopState.ready else LoopState.done,pending:=none }:Loop)=r:=R;have:=U.after;rw[M];exact this
  |exit id=>exact y.elim
  |ret=>exact y.elim
 |exit id=>exact m.elim
 |ret=>exact m.elim
theorem De(B:gV P T)(G:∀c s h,¬T.kp c s h){ds:List Df}{g:Operand}{p:Array Nat}{body:Code}{l:Array Value}{K:Nat->ad->Prop}
 (d:dQ (ds.map Df.at) h0 w0 β env L h a w) (X:fK T C=true) (Z:fK T body=true) (W:qi env g=.v (.func (.func f) #[] l)) (E:T.fn f=true)
 (hx:hKH (λ_=>P) f l.toList p.size (NP A T (λ_=>P) C body (nB env) p.toList) h K)
 (S:∀m h' j w',K m h'->dQ ((Df.mark m::ds).map Df.at) h0 w0 β env L h' j w'->Q .normal j w'):(Code.rangeFunc g p C body).wp P Q a w:=by
 refine(wpIn_wide (n:=0)).1 (wpIn_rangeFunc λfn _=>?_);refine⟨w.heap.size+1,_,(w.alloc (.deferred (some []))).alloc (.loop { state:=.ready,pending:=none,fn,tmps:=a.tmps,params:=p,assign:=C,body,defers:=w.heap.size }),{ target:=.fn (.func f) l,args:= #[.func (.yield (w.heap.size+1)) #[] #[]] },(w.alloc (.deferred (some []))).alloc (.loop { state:=.ready,pending:=none,fn,tmps:=a.tmps,params:=p,assign:=C,body,defers:=w.heap.size }),f,#[.func (.yield (w.heap.size+1)) #[] #[]]++l,(w.alloc (.deferred (some []))).alloc (.loop { state:=.ready,pending:=none,fn,tmps:=a.tmps,params:=p,assign:=C,body,defers:=w.heap.size }),run_enterLoop_outer fn a.tmps p C body,?_,λ_ _=>trivial,?_,λhd=>by simp[Fence.wide]at hd,?_⟩
 .simp only[resolve,d.bO W,Deferred.ofValue,va];simp[Act.eval]
 .simp only[invoke,ue B E]
 generalize q:({ state:=.ready,pending:=none,fn,tmps:=a.tmps,params:=p,assign:=C,body,defers:=w.heap.size }:Loop)=r;have U:=d.after.Ee;have a1:bT h w (bL h w.heap.size (.deferred (some []))) (w.alloc (.deferred (some []))):=bT.new U _;have ig:(w.alloc (.deferred (some []))).heap.size=w.heap.size+1:=World.size_alloc w _;have a2:=bT.new a1.Ee (.loop r);rw[ig]at a2;have b:=a1.trans a2;have I:h w.heap.size=none:=U.oa (kB _);have H:h (w.heap.size+1)=none:=U.oa (by omega);have V:=(hx.out w.heap.size (w.heap.size+1) (.loop r) (.loop { r with state:=.busy }) I H (by omega) (λ_ _ _ e=>by cases e) (λ_ _ _ e=>by cases e) (λvs hh k hv hl D=>by
  refine WE (A:=A) (env:=env) B G X Z (r:=r) (by rw[<-q]) (by rw[<-q]) (by rw[<-q]) (by rw[<-q]) ?_ ?_ (by rw[hv,<-q]) hl ?_
  .rw[Hm,<-d.size,<-q]
  .intro t x hx;rcases Hn hx with rfl| ⟨O,R⟩
   .trivial
   have:=d.slot t x O;rw[<-q];cases x with
   |v z=>exact this
   |loc s o=>exact absurd rfl (R s o)
   |u=>trivial
  have Y:p=r.params:=by rw[<-q]
  rw[Y]at D;exact D)).out _ b.Ee
 have F:=callsIn_wide (n:=0-1).2 V;have e1:(Value.func (.yield (w.heap.size+1)) #[] #[]::l.toList).toArray= #[.func (.yield (w.heap.size+1)) #[] #[]]++l:=by apply Array.ext';simp
 rw[e1]at F;refine CallsIn.mono F λe w3 ⟨v,h3,M,⟨y,N⟩,i⟩=>?_;subst M;have J:=i.Ee _ _ y;refine⟨none,w3.putObj (w.heap.size+1) (.loop { r with state:=.exhausted }),?_,?_⟩
 .have:=run_endLoop (P:=P) J (by rw[<-q];simp);rw[this,<-q]
 refine S w.heap.size _ _ _ (N (.loop { r with state:=.exhausted }) (λ_ _ _ e=>by cases e)) ?_;have s1:=d.step ((b.trans i).trans (bT.put i.Ee (o':=.loop { r with state:=.exhausted }) y));exact s1.MR (Df.at (.mark w.heap.size))
def NX:Code->Bool
 | .rangeFunc .. =>false
 | .seq a b| .cond _ a b=>NX a&&NX b
 | .block _ c=>NX c
 |_=>true
theorem Sn(T:∀ds,gV P (TT ds)):∀(c:Code),(∀ds,fK (TT ds) c=true)->(NX c=true\/∀ds c s h,¬(TT ds).kp c s h)->∀ {K:Ex->List Df->Env->Loc->ad->Prop} {Q:Exit->Act->World->Prop} {ds:List Df} {env:Env} {L:Loc} {h:ad} {β:Nat->Nat} {a:Act} {w:World},
 dQ (ds.map Df.at) h0 w0 β env L h a w->VX A TT (λ_=>P) c K ds env L h->aQl TT h0 w0 Q->
 (∀e Z q L' h' D p w',K e Z q L' h'->dQ (Z.map Df.at) h0 w0 D q L' h' p w'->Q (Pm e) p w')->c.wp P Q a w:=by
 intro c;induction c with
 |region id ops r=>
  intro o O K Q ds env L h β a w k hx l f;cases r with
  |false=>exact wpIn_wide (n:=0).1 (wpIn_region_list (mF T l (λZ q L' h' D p w' b i=>f .normal _ _ _ _ _ _ _ b i) ops.toList _ _ _ _ _ _ _ k hx))
  |true=>exact wpIn_wide (n:=0).1 (iL (A:=A) (ro:=none) (n:=0) (T ds) _ (o ds) k hx (l ds) (λe q L' h' D p w' b i=>f e _ _ _ _ _ _ _ b i))
 |seq c d N U=>
  intro o O K Q ds env L h β a w k hx l f;simp only[fK,ya]at o;simp only[NX,ya]at O;unfold VX at hx;refine wp_seq (N (λds=>(o ds).1) (O.imp And.left id) k hx (λds c β env L h a w u v=>l ds c β env L h a w u v) λe Z q L' h' D p w' b i=>?_);cases e with
  |normal=>exact U (λds=>(o ds).2) (O.imp And.right id) i b l f
  |exit id=>exact f (.exit id) _ _ _ _ _ _ _ b i
  |ret=>exact f .ret _ _ _ _ _ _ _ b i
 |cond x c d N U=>
  intro o O K Q ds env L h β a w k hx l f;simp only[fK,ya]at o;simp only[NX,ya]at O;unfold VX at hx;split at hx
  .rename_i t B;refine wp_cond (k.bO B) ?_;rcases lQ hx with⟨rfl,hx⟩|⟨rfl,hx⟩
   .exact N (λds=>(o ds).1) (O.imp And.left id) k hx l f
   exact U (λds=>(o ds).2) (O.imp And.right id) k hx l f
  exact hx.elim
 |block id c F=>
  intro o O K Q ds env L h β a w k hx l f;unfold VX at hx;refine wp_block (F o O k hx (λds c β env L h a w u v=>l ds c β env L h a w u v) λe Z q L' h' D p w' b i=>?_);cases e with
  |normal=>exact f .normal _ _ _ _ _ _ _ b i
  |exit j=>
   simp only[Pm,Exit.inBlock]at b |-;split at b
   .rename_i e;rw[if_pos e];exact f .normal _ _ _ _ _ _ _ b i
   rename_i e;rw[if_neg e];exact f (.exit j) _ _ _ _ _ _ _ b i
  |ret=>exact f .ret _ _ _ _ _ _ _ b i
 |rangeFunc g I Y y=>
  intro o O K Q ds env L h β a w k hx l f;simp only[fK,ya]at o;have C:∀ds c s h,¬(TT ds).kp c s h:=O.resolve_left (by simp[NX]);unfold VX at hx;split at hx
  .rename_i G first H z
   split at hx
   .rename_i X E;have X:first= #[]:=by have:first.isEmpty=true:=X;simpa using this
    subst X;exact De (T ds) (C ds) k (o ds).1 (o ds).2 z E hx (λm h' p w' b i=>f .normal _ _ _ _ _ _ _ b i)
   exact hx.elim
  exact hx.elim
 |_=>exact λo O {K Q ds env L h β a w} k hx l f=>wpIn_wide (n:=0).1 (iL (A:=A) (ro:=none) (n:=0) (T ds) _ (o ds) k hx (l ds) (λe q L' h' D p w' b i=>f e _ _ _ _ _ _ _ b i))
theorem tJ{f:FuncId}{h:ad}{w:World}(d:DC h w):
 dQ [] h w (λ_=>0) (args.map SV.v++List.replicate (fn.ntmps-args.length) (.v undef)) [] h { tmps:=args.toArray++Array.replicate (fn.ntmps-args.toArray.size) undef,defers:=[] } w:=by
 refine⟨bT.refl d,λs c b=>(by cases b),λs e c c' b=>(by cases b),by simp,λt x hx=>?_,rfl⟩;rw[jKO]at hx;split at hx
 .rename_i a;have F:t<args.length:=by simpa using a
  rw[kS,zG F]at hx;simp at hx;subst hx;show _=_;rw[jKg,kXK (by simpa using F)];simp[F]
 rename_i l;have Q:args.length<=t:=by simpa using l
 rw[kXa]at hx;split at hx
 .rename_i a;cases hx;show _=_;rw[jKg,kXJ (by simpa using Q),kXg];simp at a |-;rw[if_pos a];rfl
 cases hx
theorem DF(e:gV P T){ds:List Deferred}(s:dQ ds h0 w0 β env L h a w)(r:Ao T env L h fn.results.toList (λl=>sH l (λv=>R v h))):
 ∃v,(results fn a.tmps).run P w=.ok v w/\R v h/\bT h0 w0 h w:=by
 obtain⟨l,c,b⟩:=EU e s r;have d:(results fn a.tmps).run P w=.ok (if h:l.toArray.size=1 then l.toArray[0]else .tuple l.toArray) w:=by rw[ES,kXo];rw[nX,kXn];rw[c];rfl
 refine⟨_,d,?_,s.after⟩;unfold sH at b;split at b
 .exact b
 rename_i S;have:¬l.toArray.size=1:=λhl=>by
  match l,hl with
  | [x],_=>exact S x rfl
 rw[dif_neg this];exact b
theorem xB(A:Ar)[bI A](g:gV P T)(r:P.funcs[f]? =some fn)(p:fn.body=some c)(t:fK T c=true){h:ad}
 (hx:cKU A T (λ_=>P) c fn.ntmps fn.results.toList args h R) (C:∀c s h,¬T.kp c s h:=by exact λ_ _ _ q=>q):UH (λ_=>P) f args h R:=by
 refine⟨λw y n=>?_⟩;refine(callsDIn_of_wp (R:=λe w'=>∃v h',e=.returned v/\R v h'/\bT h w h' w') r p trivial ?_).mono (λe z w' x=>x);refine iL (A:=A) (ro:=none) g c t (tJ (f:=f) (fn:=fn) y) hx (oK.none C) λe j L' h' D b w' a d=>?_;have fin:Ao T j L' h' fn.results.toList (λl=>sH l (λv=>R v h'))->b.defers=[]/\∃v,(results fn b.tmps).run P w'=.ok v w'/\∃i a,Ending.returned v=.returned i/\R i a/\bT h w a w':=λu=>by
  obtain⟨v,k,m,o⟩:=DF g d u;exact⟨d.defers,v,k,v,h',rfl,m,o⟩
 cases e with
 |normal=>exact fin a
 |ret=>exact fin a
 |exit id=>exact a.elim
theorem yS(b:gV P T)(f:List Deferred):∀(ds:List Df) {h:ad} {a:Act} {w:World},dQ f h0 w0 β env L h a w->
 NL T (λ_=>P) ds (λh=>Ao T env L h fn.results.toList (λl=>sH l (λv=>R v h))) h->
 LeavesInM Fence.wide 0 P fn a.tmps (λe w'=>∃v h',e=.returned v/\R v h'/\bT h0 w0 h' w') (ds.map Df.at) .returning w
 | [],h,a,w,s,hx=>by
  obtain⟨v,i,j,k⟩:=DF b s hx;exact⟨v,i,v,h,rfl,j,k⟩
 | .call g args cap::r,h,a,w,s,hx=>by
  unfold NL at hx;split at hx
  .rename_i o;have p:(invoke (.fn (.func g) cap.toArray) args.toArray).run P w=.ok (.enter g (args++cap).toArray) w:=by
    have e1:args.toArray++cap.toArray=(args++cap).toArray:=by simp
    simp only[invoke,e1,ue b o]
   refine⟨by simp,.inr ⟨λhd=>by simp[Fence.wide]at hd,_,_,_,_,rfl,p,λ_ _=>trivial,(hx.out w s.after.Ee _).mono λe u w' ⟨hu,v,h',he,hR,n⟩=>?_⟩⟩;subst hu;subst he;have:=yS b f r (s.step n) hR;exact this
  exact hx.elim
 | .mark m::r,h,a,w,s,hx=>by
  unfold NL at hx;obtain⟨c,d⟩:=hx;have q:=s.after.Ee _ _ c;refine⟨by simp,.inl ⟨m,_,rfl,run_takeDeferred q,?_⟩⟩;exact yS b f r (s.step (bT.put s.after.Ee c)) d
theorem nY(A:Ar)[bI A](g:gV P T)(m:P.funcs[f]? =some fn)(j:fn.body=some c)(o:fK T c=true){h:ad}
 (hx:cKT A T (λ_=>P) c fn.ntmps fn.results.toList args h R) (C:∀c s h,¬T.kp c s h:=by exact λ_ _ _ k=>k):Gt (λ_=>P) f args h R:=by
 refine⟨λw p=>?_⟩;refine callsIn_wide.1 (callsIn_of_wp_marks (F:=Fence.wide) (n:=0) m j trivial ((wpIn_wide (n:=0)).2 ?_));refine Sn (A:=A) (TT:=λ_=>T) (λ_=>g) c (λ_=>o) (.inr λ_=>C) (ds:=[]) (tJ (f:=f) (fn:=fn) p) hx (λ_=>oK.none C) λe Z i L' h' D b w' a d=>?_;have fin:NL T (λ_=>P) Z (λh=>Ao T i L' h fn.results.toList (λl=>sH l (λv=>R v h))) h'->LeavesInM Fence.wide 0 P fn b.tmps (λe w'=>∃v h',e=.returned v/\R v h'/\bT h w h' w') b.defers .returning w':=λr=>by
  have:=yS g _ Z d r;rw[d.defers];exact this
 cases e with
 |normal=>exact fin a
 |ret=>exact fin a
 |exit id=>exact a.elim
end Go.Sx
