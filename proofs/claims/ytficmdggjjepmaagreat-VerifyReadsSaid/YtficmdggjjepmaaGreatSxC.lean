import Derived.Test.YtficmdggjjepmaaGreatRd
set_option linter.all false
namespace Go.Sx
variable {c:Code}{fn:Func}{f:FuncId}{args:List Value}{R:Value->ab->Prop}
inductive CC where
 |leaf (c:Code)
 |UI (a:Code) (b:CC)
 |UJ (a:Code) (b:CC)
def CC.code:CC->Code
 | .leaf c=>c
 | .UI a b=>.seq a b.code
 | .UJ a b=>.seq a b.code
def Sb:List Bool->Code->CC
 | [],c=>.leaf c
 |t::r,c=>match c with
  | .seq a b=>match t with
   |true=>.UJ a (Sb r b)
   |false=>.UI a (Sb r b)
  |c=>.leaf c
theorem sE:∀(l:List Bool) (c:Code),(Sb l c).code=c
 | [],c=>rfl
 |t::r,c=>by
  cases c with
  |seq a b=>
   cases t with
   |true=>exact congrArg (Code.seq a) (sE r b)
   |false=>exact congrArg (Code.seq a) (sE r b)
  |_=>rfl
structure jA(ws:List Nat)(first:(Ex->Env->Loc->ab->Prop)->Prop)(rest:Env->Loc->ab->Prop)(K:Ex->Env->Loc->ab->Prop)(env:Env):Prop where
 out:∃I:Env->Loc->ab->Prop,first (λe ca L' h'=>match e with
  | .normal=>∃gF L1,Wk ca L' gF L1/\I gF L1 h'
  |e=>K e ca L' h')/\∀ca L' h',I ca L' h'->rest ca L' h'
theorem jA.go{G:Type}{w:List Nat}{first:(Ex->Env->Loc->ab->Prop)->Prop}{r:Env->Loc->ab->Prop}{K:Ex->Env->Loc->ab->Prop}{env:Env}
 (v:G->List (Nat×SV)) (l:G->Loc) (I:G->ab->Prop)
 (h:first (λe c L h'=>match e with
  | .normal=>∃g,Wk c L (qK (Ok env w) (v g)) (l g)/\I g h'
  |e=>K e c L h'))
 (a:∀g h',I g h'->r (qK (Ok env w) (v g)) (l g) h'):jA w first r K env:=by
 refine⟨λF b h'=>∃g,F=qK (Ok env w) (v g)/\b=l g/\I g h',?_,?_⟩
 .have key:(λ(e:Ex) (c:Env) (L:Loc) (h':ab)=>match e with
   | .normal=>∃g,Wk c L (qK (Ok env w) (v g)) (l g)/\I g h'
   |e=>K e c L h')=(λe c L h'=>match e with
   | .normal=>∃F b,Wk c L F b/\∃g,F=qK (Ok env w) (v g)/\b=l g/\I g h'
   |e=>K e c L h'):=by
   funext e c L h';cases e with
   |normal=>
    apply propext;constructor
    .rintro⟨g,h,a⟩;exact⟨_,_,h,g,rfl,rfl,a⟩
    rintro⟨_,_,h,g,rfl,rfl,a⟩;exact⟨g,h,a⟩
   |exit j=>rfl
   |ret=>rfl
  rw[key]at h;exact h
 rintro _ _ h' ⟨g,rfl,rfl,d⟩;exact a g h' d
def bQe(A:Ar)(T:aN)(p:Unit->Program):CC->(Ex->Env->Loc->ab->Prop)->Env->Loc->ab->Prop
 | .leaf c,K,env,L,h=>sx A T p c K env L h
 | .UI a b,K,env,L,h=>sx A T p a (λe env L h=>match e with
  | .normal=>bQe A T p b K env L h
  |e=>K e env L h) env L h
 | .UJ a b,K,env,L,h=>jA (wr a) (λK'=>sx A T p a K' env L h) (λenv L h=>bQe A T p b K env L h) K env
def bXL(A:Ar)(T:aN)(p:Unit->Program)(c:CC)(ntmps:Nat)(rs:List ResultVar)(args:List Value)(h:ab)(R:Value->ab->Prop):Prop:=
 bQe A T p c (λe env L h=>match e with
  | .exit _=>False
  |_=>uV T env L h rs (λl=>ou l (λv=>R v h))) (args.map SV.v++List.replicate (ntmps-args.length) (.v undef)) [] h
variable {ro:Option Nat}{n:Nat}
variable {P:Program}{T:aN}{A:Ar}[aV A]
variable {h0:ab}{w0:World}{β:Nat->Nat}{h:ab}{a:Act}{w:World}{env:Env}{L:Loc}{ds:List Deferred}
theorem Mc(p:eU P T):∀(c:CC),ef T c.code=true->∀ {K:Ex->Env->Loc->ab->Prop} {Q:Exit->Act->World->Prop} {env:Env} {L:Loc} {h:ab} {β:Nat->Nat} {a:Act} {w:World},
 da ds h0 w0 β env L h a w->bQe A T (λ_=>P) c K env L h->
 lD T ds h0 w0 Q->(∀e l j h' r k m,K e l j h'->da ds h0 w0 r l j h' k m->Q (JM e) k m)->c.code.wpIn (FW ro) n P Q a w:=by
 intro c;induction c with
 |leaf c=>exact λo {K Q env L h β a w} s hx f b=>fJ p c o s hx f b
 |UI c d q=>
  intro o K Q env L h β a w s hx f b;simp only[CC.code,ef,wL]at o;unfold bQe at hx;refine wpIn_seq (fJ p c o.1 s hx (λc β env L h a w t u=>f c β env L h a w t u) λe l j h' r k m g i=>?_);cases e with
  |normal=>exact q o.2 i g f b
  |exit id=>exact b (.exit id) _ _ _ _ _ _ g i
  |ret=>exact b .ret _ _ _ _ _ _ g i
 |UJ c d q=>
  intro o K Q env L h β a w s hx f b;simp only[CC.code,ef,wL]at o;unfold bQe at hx;obtain⟨I,y,z⟩:=hx.out;refine wpIn_seq (fJ p c o.1 s y (λc β env L h a w t u=>f c β env L h a w t u) λe l j h' r k m g i=>?_);cases e with
  |normal=>obtain⟨F,B,v,x⟩:=g;exact q o.2 (i.wk v) (z _ _ _ x) f b
  |exit id=>exact b (.exit id) _ _ _ _ _ _ g i
  |ret=>exact b .ret _ _ _ _ _ _ g i
theorem Da(A:Ar)[aV A](l:List Bool)(i:eU P T)(t:P.funcs[f]? =some fn)(q:fn.body=some c)(u:ef T c=true){h:ab}
 (hx:bXL A T (λ_=>P) (Sb l c) fn.ntmps fn.results.toList args h R) (B:∀c s h,¬T.kp c s h:=by exact λ_ _ _ r=>r):Ca (λ_=>P) f args h R:=by
 refine⟨λw z=>?_⟩;refine calls_of_wp t q (wpIn_wide (n:=0).1 ?_);have y:=oM (f:=f) (fn:=fn) (args:=args) z;rw[<-sE l c];refine Mc (A:=A) (ro:=none) (n:=0) i (Sb l c) (by rw[sE];exact u) y hx (lD.none B) λe k L h' C d b a g=>?_;have fin:uV T k L h' fn.results.toList (λl=>ou l (λv=>R v h'))->d.defers=[]/\∃v,(results fn d.tmps).run P b=.ok v b/\∃j a,Ending.returned v=.returned j/\R j a/\bD h w a b:=λx=>by
  obtain⟨v,m,o,p⟩:=yK i g x;exact⟨g.defers,v,m,v,h',rfl,o,p⟩
 cases e with
 |normal=>exact fin a
 |ret=>exact fin a
 |exit id=>exact a.elim
def cQu:Code->Option Nat
 | .region id _ _=>some id
 | .seq a _=>cQu a
 |_=>none
def inl:List Nat->Nat->Bool
 | [],_=>false
 |x::r,n=>match Nat.beq x n with
  |true=>true
  |false=>inl r n
def bJc(cs:List Nat)(b:Code):Bool:=match cQu b with
 |some i=>inl cs i
 |none=>false
def Iv(A:Ar)(T:aN)(p:Unit->Program)(cs:List Nat):Code->(Ex->Env->Loc->ab->Prop)->Env->Loc->ab->Prop
 | .skip,K,env,L,h=>K .normal env L h
 | .region id ops draw,K,env,L,h=>match draw with
  |false=>zH A T p ops.toList (λenv L h=>K .normal env L h) ops.toList env L h
  |true=>ik A T p ops.toList (λenv L h=>K .normal env L h) (T.aw id) env L h
 | .seq a b,K,env,L,h=>match bJc cs b with
  |true=>jA (wr a) (λK'=>Iv A T p cs a K' env L h) (λenv L h=>Iv A T p cs b K env L h) K env
  |false=>Iv A T p cs a (λe env L h=>match e with
   | .normal=>Iv A T p cs b K env L h
   |e=>K e env L h) env L h
 | .cond c a b,K,env,L,h=>match mY env c with
  | .v (.bool t)=>JR t (λ_=>Iv A T p cs a K env L h) (λ_=>Iv A T p cs b K env L h)
  |_=>False
 | .block id c,K,env,L,h=>Iv A T p cs c (λe env L h=>match e with
  | .exit j=>if j=id then K .normal env L h else K (.exit j) env L h
  |e=>K e env L h) env L h
 | .loop c,K,env,L,h=>aK (wr c) (λK' env L h=>Iv A T p cs c K' env L h) K env L h
 | .exit id,K,env,L,h=>K (.exit id) env L h
 | .ret,K,env,L,h=>K .ret env L h
 | .scope c,K,env,L,h=>Iv A T p cs c K env L h
 | .label _,K,env,L,h=>K .normal env L h
 |_,_,_,_,_=>False
def bXK(A:Ar)(T:aN)(p:Unit->Program)(cs:List Nat)(c:Code)(ntmps:Nat)(rs:List ResultVar)(args:List Value)(h:ab)(R:Value->ab->Prop):Prop:=
 Iv A T p cs c (λe env L h=>match e with
  | .exit _=>False
  |_=>uV T env L h rs (λl=>ou l (λv=>R v h))) (args.map SV.v++List.replicate (ntmps-args.length) (.v undef)) [] h
variable {ro:Option Nat}{n:Nat}
variable {P:Program}{T:aN}{A:Ar}[aV A]
variable {h0:ab}{w0:World}{β:Nat->Nat}{h:ab}{a:Act}{w:World}{env:Env}{L:Loc}{ds:List Deferred}
theorem Mb(C:eU P T)(cs:List Nat):∀(c:Code),ef T c=true->∀ {K:Ex->Env->Loc->ab->Prop} {Q:Exit->Act->World->Prop} {env:Env} {L:Loc} {h:ab} {β:Nat->Nat} {a:Act} {w:World},
 da ds h0 w0 β env L h a w->Iv A T (λ_=>P) cs c K env L h->
 lD T ds h0 w0 Q->(∀e u p h' y r v,K e u p h'->da ds h0 w0 y u p h' r v->Q (JM e) r v)->c.wpIn (FW ro) n P Q a w:=by
 intro c;induction c with
 |skip=>exact λo {K Q env L h β a w} s hx f b=>fJ (A:=A) C .skip o s hx f b
 |region id H B=>exact λo {K Q env L h β a w} s hx f b=>fJ (A:=A) C (.region id H B) o s hx f b
 |seq c d O N=>
  intro o K Q env L h β a w s hx f b;simp only[ef,wL]at o;unfold Iv at hx;split at hx
  .obtain⟨I,U,W⟩:=hx.out;refine wpIn_seq (O o.1 s U (λc β env L h a w q l=>f c β env L h a w q l) λe u p h' y r v g k=>?_);cases e with
   |normal=>obtain⟨M,J,z,G⟩:=g;exact N o.2 (k.wk z) (W _ _ _ G) f b
   |exit id=>exact b (.exit id) _ _ _ _ _ _ g k
   |ret=>exact b .ret _ _ _ _ _ _ g k
  refine wpIn_seq (O o.1 s hx (λc β env L h a w q l=>f c β env L h a w q l) λe u p h' y r v g k=>?_);cases e with
  |normal=>exact N o.2 k g f b
  |exit id=>exact b (.exit id) _ _ _ _ _ _ g k
  |ret=>exact b .ret _ _ _ _ _ _ g k
 |cond x c d O N=>
  intro o K Q env L h β a w s hx f b;simp only[ef,wL]at o;unfold Iv at hx;split at hx
  .rename_i t X;refine wpIn_cond (s.bo X) ?_;rcases jk hx with⟨rfl,hx⟩|⟨rfl,hx⟩
   .exact O o.1 s hx f b
   exact N o.2 s hx f b
  exact hx.elim
 |block id c D=>
  intro o K Q env L h β a w s hx f b;unfold Iv at hx;refine wpIn_block (D o s hx (λc β env L h a w q l=>f c β env L h a w q l) λe u p h' y r v g k=>?_);cases e with
  |normal=>exact b .normal _ _ _ _ _ _ g k
  |exit j=>
   simp only[JM,Exit.inBlock]at g |-;split at g
   .rename_i e;rw[if_pos e];exact b .normal _ _ _ _ _ _ g k
   rename_i e;rw[if_neg e];exact b (.exit j) _ _ _ _ _ _ g k
  |ret=>exact b .ret _ _ _ _ _ _ g k
 |loop c D=>
  intro o K Q env L h β a w s hx f b;unfold Iv at hx;obtain⟨I,n,⟨M,J,z,G⟩,R⟩:=hx.out;refine wpIn_loop_ghost (λn a w=>∃env L h β,I n env L h/\da ds h0 w0 β env L h a w) n ⟨_,_,_,_,G,s.wk z⟩ λn a w ⟨env,L,h,β,g,k⟩=>?_;refine D o k (R n env L h g) (λc β env L h a w q l=>f c β env L h a w q l) λe u p h' y r v E F=>?_;cases e with
  |normal=>obtain⟨m,M,J,V,z,S⟩:=E;exact⟨m,V,_,_,_,_,S,F.wk z⟩
  |exit j=>exact b (.exit j) _ _ _ _ _ _ E F
  |ret=>exact b .ret _ _ _ _ _ _ E F
 |exit id=>exact λo {K Q env L h β a w} s hx f b=>fJ (A:=A) C (.exit id) o s hx f b
 |ret=>exact λo {K Q env L h β a w} s hx f b=>fJ (A:=A) C .ret o s hx f b
 |label i=>exact λo {K Q env L h β a w} s hx f b=>fJ (A:=A) C (.label i) o s hx f b
 |scope c D=>
  intro o K Q env L h β a w s hx f b;refine zo (D o s hx (λc β env L h a w q l=>f c β env L h a w q l) λe u p h' y r v g k=>?_);cases e with
  |normal=>exact b .normal _ _ _ _ _ _ g k
  |exit j=>exact b (.exit j) _ _ _ _ _ _ g k
  |ret=>exact b .ret _ _ _ _ _ _ g k
 |_=>intro o K Q env L h β a w s hx f b;exact hx.elim
theorem fG(A:Ar)[aV A](cs:List Nat)(i:eU P T)(t:P.funcs[f]? =some fn)(q:fn.body=some c)(u:ef T c=true){h:ab}
 (hx:bXK A T (λ_=>P) cs c fn.ntmps fn.results.toList args h R) (B:∀c s h,¬T.kp c s h:=by exact λ_ _ _ r=>r):Ca (λ_=>P) f args h R:=by
 refine⟨λw z=>?_⟩;refine calls_of_wp t q (wpIn_wide (n:=0).1 ?_);have y:=oM (f:=f) (fn:=fn) (args:=args) z;refine Mb (A:=A) (ro:=none) (n:=0) i cs c u y hx (lD.none B) λe k L h' C d b a g=>?_;have fin:uV T k L h' fn.results.toList (λl=>ou l (λv=>R v h'))->d.defers=[]/\∃v,(results fn d.tmps).run P b=.ok v b/\∃j a,Ending.returned v=.returned j/\R j a/\bD h w a b:=λx=>by
  obtain⟨v,m,o,p⟩:=yK i g x;exact⟨g.defers,v,m,v,h',rfl,o,p⟩
 cases e with
 |normal=>exact fin a
 |ret=>exact fin a
 |exit id=>exact a.elim
end Go.Sx
