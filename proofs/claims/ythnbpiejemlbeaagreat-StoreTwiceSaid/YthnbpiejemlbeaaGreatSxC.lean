import Derived.Test.YthnbpiejemlbeaaGreatRd
set_option linter.all false
namespace Go.Sx
variable {G:Type}{first:(Ex->Env->Loc->ad->Prop)->Prop}{c:Code}{r:Env->Loc->ad->Prop}{K:Ex->Env->Loc->ad->Prop}{fn:Func}{f:FuncId}{args:List Value}{R:Value->ad->Prop}
inductive CC where
 |leaf (c:Code)
 |aXF (a:Code) (b:CC)
 |aXG (a:Code) (b:CC)
def CC.code:CC->Code
 | .leaf c=>c
 | .aXF a b=>.seq a b.code
 | .aXG a b=>.seq a b.code
def Zi:List Bool->Code->CC
 | [],c=>.leaf c
 |t::r,c=>match c with
  | .seq a b=>match t with
   |true=>.aXG a (Zi r b)
   |false=>.aXF a (Zi r b)
  |c=>.leaf c
theorem xE:∀(l:List Bool) (c:Code),(Zi l c).code=c
 | [],c=>rfl
 |t::r,c=>by
  cases c with
  |seq a b=>
   cases t with
   |true=>exact congrArg (Code.seq a) (xE r b)
   |false=>exact congrArg (Code.seq a) (xE r b)
  |_=>rfl
structure ld(ws:List Nat)(first:(Ex->Env->Loc->ad->Prop)->Prop)(rest:Env->Loc->ad->Prop)(K:Ex->Env->Loc->ad->Prop)(env:Env):Prop where
 out:∃I:Env->Loc->ad->Prop,first (λe cP L' h'=>match e with
  | .normal=>∃jz L1,Wk cP L' jz L1/\I jz L1 h'
  |e=>K e cP L' h')/\∀cP L' h',I cP L' h'->rest cP L' h'
theorem ld.go{w:List Nat}{env:Env}
 (v:G->List (Nat×SV)) (l:G->Loc) (I:G->ad->Prop)
 (h:first (λe c L' h'=>match e with
  | .normal=>∃g,Wk c L' (vC (UT env w) (v g)) (l g)/\I g h'
  |e=>K e c L' h'))
 (a:∀g h',I g h'->r (vC (UT env w) (v g)) (l g) h'):ld w first r K env:=by
 refine⟨λz L h'=>∃g,z=vC (UT env w) (v g)/\L=l g/\I g h',?_,?_⟩
 .have key:(λ(e:Ex) (c:Env) (L':Loc) (h':ad)=>match e with
   | .normal=>∃g,Wk c L' (vC (UT env w) (v g)) (l g)/\I g h'
   |e=>K e c L' h')=(λe c L' h'=>match e with
   | .normal=>∃z L,Wk c L' z L/\∃g,z=vC (UT env w) (v g)/\L=l g/\I g h'
   |e=>K e c L' h'):=by
   funext e c L' h';cases e with
   |normal=>
    apply propext;constructor
    .rintro⟨g,h,a⟩;exact⟨_,_,h,g,rfl,rfl,a⟩
    rintro⟨_,_,h,g,rfl,rfl,a⟩;exact⟨g,h,a⟩
   |exit j=>rfl
   |ret=>rfl
  rw[key]at h;exact h
 rintro _ _ h' ⟨g,rfl,rfl,b⟩;exact a g h' b
theorem ld.jQI{w:List Nat}{env:Env}
 (n:Nat) (v:G->List (Nat×SV)) (l:G->Loc) (I:G->ad->Prop)
 (h:first (λe c L' h'=>match e with
  | .normal=>∃g,Wk c L' (vC (List.replicate n SV.u) (v g)) (l g)/\I g h'
  |e=>K e c L' h'))
 (a:∀g h',I g h'->r (vC (List.replicate n SV.u) (v g)) (l g) h'):ld w first r K env:=by
 refine⟨λz L h'=>∃g,z=vC (List.replicate n SV.u) (v g)/\L=l g/\I g h',?_,?_⟩
 .have key:(λ(e:Ex) (c:Env) (L':Loc) (h':ad)=>match e with
   | .normal=>∃g,Wk c L' (vC (List.replicate n SV.u) (v g)) (l g)/\I g h'
   |e=>K e c L' h')=(λe c L' h'=>match e with
   | .normal=>∃z L,Wk c L' z L/\∃g,z=vC (List.replicate n SV.u) (v g)/\L=l g/\I g h'
   |e=>K e c L' h'):=by
   funext e c L' h';cases e with
   |normal=>
    apply propext;constructor
    .rintro⟨g,h,a⟩;exact⟨_,_,h,g,rfl,rfl,a⟩
    rintro⟨_,_,h,g,rfl,rfl,a⟩;exact⟨g,h,a⟩
   |exit j=>rfl
   |ret=>rfl
  rw[key]at h;exact h
 rintro _ _ h' ⟨g,rfl,rfl,b⟩;exact a g h' b
def cZV(A:Ar)(T:bg)(p:Unit->Program):CC->(Ex->Env->Loc->ad->Prop)->Env->Loc->ad->Prop
 | .leaf c,K,env,L,h=>sx A T p c K env L h
 | .aXF a b,K,env,L,h=>sx A T p a (λe env L h=>match e with
  | .normal=>cZV A T p b K env L h
  |e=>K e env L h) env L h
 | .aXG a b,K,env,L,h=>ld (wr a) (λK'=>sx A T p a K' env L h) (λenv L h=>cZV A T p b K env L h) K env
def cKS(A:Ar)(T:bg)(p:Unit->Program)(c:CC)(ntmps:Nat)(rs:List ResultVar)(args:List Value)(h:ad)(R:Value->ad->Prop):Prop:=
 cZV A T p c (λe env L h=>match e with
  | .exit _=>False
  |_=>Ao T env L h rs (λl=>sH l (λv=>R v h))) (args.map SV.v++List.replicate (ntmps-args.length) (.v undef)) [] h
variable {ro:Option Nat}{n:Nat}
variable {P:Program}{T:bg}{A:Ar}[bI A]
variable {h0:ad}{w0:World}{β:Nat->Nat}{h:ad}{a:Act}{w:World}{env:Env}{L:Loc}{ds:List Deferred}
theorem Sm(l:gV P T):∀(c:CC),fK T c.code=true->∀ {K:Ex->Env->Loc->ad->Prop} {Q:Exit->Act->World->Prop} {env:Env} {L:Loc} {h:ad} {β:Nat->Nat} {a:Act} {w:World},
 dQ ds h0 w0 β env L h a w->cZV A T (λ_=>P) c K env L h->
 oK T ds h0 w0 Q->(∀e k L' h' p j w',K e k L' h'->dQ ds h0 w0 p k L' h' j w'->Q (Pm e) j w')->c.code.wpIn (FW ro) n P Q a w:=by
 intro c;induction c with
 |leaf c=>exact λo {K Q env L h β a w} s hx i b=>iL l c o s hx i b
 |aXF c d m=>
  intro o K Q env L h β a w s hx i b;simp only[CC.code,fK,ya]at o;unfold cZV at hx;refine wpIn_seq (iL l c o.1 s hx (λc β env L h a w q r=>i c β env L h a w q r) λe k L' h' p j w' f g=>?_);cases e with
  |normal=>exact m o.2 g f i b
  |exit id=>exact b (.exit id) _ _ _ _ _ _ f g
  |ret=>exact b .ret _ _ _ _ _ _ f g
 |aXG c d m=>
  intro o K Q env L h β a w s hx i b;simp only[CC.code,fK,ya]at o;unfold cZV at hx;obtain⟨I,u,v⟩:=hx.out;refine wpIn_seq (iL l c o.1 s u (λc β env L h a w q r=>i c β env L h a w q r) λe k L' h' p j w' f g=>?_);cases e with
  |normal=>obtain⟨z,x,X,t⟩:=f;exact m o.2 (g.wk X) (v _ _ _ t) i b
  |exit id=>exact b (.exit id) _ _ _ _ _ _ f g
  |ret=>exact b .ret _ _ _ _ _ _ f g
theorem Cq(A:Ar)[bI A](l:List Bool)(g:gV P T)(r:P.funcs[f]? =some fn)(p:fn.body=some c)(t:fK T c=true){h:ad}
 (hx:cKS A T (λ_=>P) (Zi l c) fn.ntmps fn.results.toList args h R) (C:∀c s h,¬T.kp c s h:=by exact λ_ _ _ q=>q):Gt (λ_=>P) f args h R:=by
 refine⟨λw y=>?_⟩;refine calls_of_wp r p (wpIn_wide (n:=0).1 ?_);have x:=tJ (f:=f) (fn:=fn) (args:=args) y;rw[<-xE l c];refine Sm (A:=A) (ro:=none) (n:=0) g (Zi l c) (by rw[xE];exact t) x hx (oK.none C) λe j L' h' D b w' a d=>?_;have fin:Ao T j L' h' fn.results.toList (λl=>sH l (λv=>R v h'))->b.defers=[]/\∃v,(results fn b.tmps).run P w'=.ok v w'/\∃i a,Ending.returned v=.returned i/\R i a/\bT h w a w':=λu=>by
  obtain⟨v,k,m,o⟩:=DF g d u;exact⟨d.defers,v,k,v,h',rfl,m,o⟩
 cases e with
 |normal=>exact fin a
 |ret=>exact fin a
 |exit id=>exact a.elim
def dJz:Code->Option Nat
 | .region id _ _=>some id
 | .seq a _=>dJz a
 |_=>none
def inl:List Nat->Nat->Bool
 | [],_=>false
 |x::r,n=>match Nat.beq x n with
  |true=>true
  |false=>inl r n
def dXp(cs:List Nat)(b:Code):Bool:=match dJz b with
 |some i=>inl cs i
 |none=>false
def NF(A:Ar)(T:bg)(p:Unit->Program)(cs:List Nat):Code->(Ex->Env->Loc->ad->Prop)->Env->Loc->ad->Prop
 | .skip,K,env,L,h=>K .normal env L h
 | .region id ops draw,K,env,L,h=>match draw with
  |false=>EC A T p ops.toList (λenv L h=>K .normal env L h) ops.toList env L h
  |true=>ki A T p ops.toList (λenv L h=>K .normal env L h) (T.aw id) env L h
 | .seq a b,K,env,L,h=>match dXp cs b with
  |true=>ld (wr a) (λK'=>NF A T p cs a K' env L h) (λenv L h=>NF A T p cs b K env L h) K env
  |false=>NF A T p cs a (λe env L h=>match e with
   | .normal=>NF A T p cs b K env L h
   |e=>K e env L h) env L h
 | .cond c a b,K,env,L,h=>match qi env c with
  | .v (.bool t)=>Ps t (λ_=>NF A T p cs a K env L h) (λ_=>NF A T p cs b K env L h)
  |_=>False
 | .block id c,K,env,L,h=>NF A T p cs c (λe env L h=>match e with
  | .exit j=>if j=id then K .normal env L h else K (.exit j) env L h
  |e=>K e env L h) env L h
 | .loop c,K,env,L,h=>aX (wr c) (λK' env L h=>NF A T p cs c K' env L h) K env L h
 | .exit id,K,env,L,h=>K (.exit id) env L h
 | .ret,K,env,L,h=>K .ret env L h
 | .scope c,K,env,L,h=>NF A T p cs c K env L h
 | .label _,K,env,L,h=>K .normal env L h
 |_,_,_,_,_=>False
def cKR(A:Ar)(T:bg)(p:Unit->Program)(cs:List Nat)(c:Code)(ntmps:Nat)(rs:List ResultVar)(args:List Value)(h:ad)(R:Value->ad->Prop):Prop:=
 NF A T p cs c (λe env L h=>match e with
  | .exit _=>False
  |_=>Ao T env L h rs (λl=>sH l (λv=>R v h))) (args.map SV.v++List.replicate (ntmps-args.length) (.v undef)) [] h
variable {ro:Option Nat}{n:Nat}
variable {P:Program}{T:bg}{A:Ar}[bI A]
variable {h0:ad}{w0:World}{β:Nat->Nat}{h:ad}{a:Act}{w:World}{env:Env}{L:Loc}{ds:List Deferred}
theorem Sk(u:gV P T)(cs:List Nat):∀(c:Code),fK T c=true->∀ {K:Ex->Env->Loc->ad->Prop} {Q:Exit->Act->World->Prop} {env:Env} {L:Loc} {h:ad} {β:Nat->Nat} {a:Act} {w:World},
 dQ ds h0 w0 β env L h a w->NF A T (λ_=>P) cs c K env L h->
 oK T ds h0 w0 Q->(∀e p L' h' D l w',K e p L' h'->dQ ds h0 w0 D p L' h' l w'->Q (Pm e) l w')->c.wpIn (FW ro) n P Q a w:=by
 intro c;induction c with
 |skip=>exact λo {K Q env L h β a w} s hx O b=>iL (A:=A) u .skip o s hx O b
 |region id C r=>exact λo {K Q env L h β a w} s hx O b=>iL (A:=A) u (.region id C r) o s hx O b
 |seq c d N U=>
  intro o K Q env L h β a w s hx O b;simp only[fK,ya]at o;unfold NF at hx;split at hx
  .obtain⟨I,J,R⟩:=hx.out;refine wpIn_seq (N o.1 s J (λc β env L h a w q k=>O c β env L h a w q k) λe p L' h' D l w' f g=>?_);cases e with
   |normal=>obtain⟨F,E,X,B⟩:=f;exact U o.2 (g.wk X) (R _ _ _ B) O b
   |exit id=>exact b (.exit id) _ _ _ _ _ _ f g
   |ret=>exact b .ret _ _ _ _ _ _ f g
  refine wpIn_seq (N o.1 s hx (λc β env L h a w q k=>O c β env L h a w q k) λe p L' h' D l w' f g=>?_);cases e with
  |normal=>exact U o.2 g f O b
  |exit id=>exact b (.exit id) _ _ _ _ _ _ f g
  |ret=>exact b .ret _ _ _ _ _ _ f g
 |cond x c d N U=>
  intro o K Q env L h β a w s hx O b;simp only[fK,ya]at o;unfold NF at hx;split at hx
  .rename_i t S;refine wpIn_cond (s.bO S) ?_;rcases lQ hx with⟨rfl,hx⟩|⟨rfl,hx⟩
   .exact N o.1 s hx O b
   exact U o.2 s hx O b
  exact hx.elim
 |block id c v=>
  intro o K Q env L h β a w s hx O b;unfold NF at hx;refine wpIn_block (v o s hx (λc β env L h a w q k=>O c β env L h a w q k) λe p L' h' D l w' f g=>?_);cases e with
  |normal=>exact b .normal _ _ _ _ _ _ f g
  |exit j=>
   simp only[Pm,Exit.inBlock]at f |-;split at f
   .rename_i e;rw[if_pos e];exact b .normal _ _ _ _ _ _ f g
   rename_i e;rw[if_neg e];exact b (.exit j) _ _ _ _ _ _ f g
  |ret=>exact b .ret _ _ _ _ _ _ f g
 |loop c v=>
  intro o K Q env L h β a w s hx O b;unfold NF at hx;obtain⟨I,n,⟨F,E,X,B⟩,G⟩:=hx.out;refine wpIn_loop_ghost (λn a w=>∃env L h β,I n env L h/\dQ ds h0 w0 β env L h a w) n ⟨_,_,_,_,B,s.wk X⟩ λn a w ⟨env,L,h,β,f,g⟩=>?_;refine v o g (G n env L h f) (λc β env L h a w q k=>O c β env L h a w q k) λe p L' h' D l w' y z=>?_;cases e with
  |normal=>obtain⟨m,F,E,M,X,H⟩:=y;exact⟨m,M,_,_,_,_,H,z.wk X⟩
  |exit j=>exact b (.exit j) _ _ _ _ _ _ y z
  |ret=>exact b .ret _ _ _ _ _ _ y z
 |exit id=>exact λo {K Q env L h β a w} s hx O b=>iL (A:=A) u (.exit id) o s hx O b
 |ret=>exact λo {K Q env L h β a w} s hx O b=>iL (A:=A) u .ret o s hx O b
 |label i=>exact λo {K Q env L h β a w} s hx O b=>iL (A:=A) u (.label i) o s hx O b
 |scope c v=>
  intro o K Q env L h β a w s hx O b;refine Ej (v o s hx (λc β env L h a w q k=>O c β env L h a w q k) λe p L' h' D l w' f g=>?_);cases e with
  |normal=>exact b .normal _ _ _ _ _ _ f g
  |exit j=>exact b (.exit j) _ _ _ _ _ _ f g
  |ret=>exact b .ret _ _ _ _ _ _ f g
 |_=>intro o K Q env L h β a w s hx O b;exact hx.elim
theorem fU(A:Ar)[bI A](cs:List Nat)(g:gV P T)(r:P.funcs[f]? =some fn)(p:fn.body=some c)(t:fK T c=true){h:ad}
 (hx:cKR A T (λ_=>P) cs c fn.ntmps fn.results.toList args h R) (C:∀c s h,¬T.kp c s h:=by exact λ_ _ _ q=>q):Gt (λ_=>P) f args h R:=by
 refine⟨λw y=>?_⟩;refine calls_of_wp r p (wpIn_wide (n:=0).1 ?_);have x:=tJ (f:=f) (fn:=fn) (args:=args) y;refine Sk (A:=A) (ro:=none) (n:=0) g cs c t x hx (oK.none C) λe j L' h' D b w' a d=>?_;have fin:Ao T j L' h' fn.results.toList (λl=>sH l (λv=>R v h'))->b.defers=[]/\∃v,(results fn b.tmps).run P w'=.ok v w'/\∃i a,Ending.returned v=.returned i/\R i a/\bT h w a w':=λu=>by
  obtain⟨v,k,m,o⟩:=DF g d u;exact⟨d.defers,v,k,v,h',rfl,m,o⟩
 cases e with
 |normal=>exact fin a
 |ret=>exact fin a
 |exit id=>exact a.elim
end Go.Sx
