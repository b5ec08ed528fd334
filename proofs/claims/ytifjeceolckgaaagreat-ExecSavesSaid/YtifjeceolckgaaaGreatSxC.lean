import Derived.Test.YtifjeceolckgaaaGreatRd
set_option linter.all false
namespace Go.Sx
inductive CC where
 |leaf (c:Code)
 |bKa (a:Code) (b:CC)
 |bKb (a:Code) (b:CC)
def CC.code:CC->Code
 | .leaf c=>c
 | .bKa a b=>.seq a b.code
 | .bKb a b=>.seq a b.code
def bQU:List Bool->Code->CC
 | [],c=>.leaf c
 |t::r,c=>match c with
  | .seq a b=>match t with
   |true=>.bKb a (bQU r b)
   |false=>.bKa a (bQU r b)
  |c=>.leaf c
theorem zF:∀(l:List Bool) (c:Code),(bQU l c).code=c
 | [],c=>rfl
 |t::r,c=>by
  cases c with
  |seq a b=>
   cases t with
   |true=>exact congrArg (Code.seq a) (zF r b)
   |false=>exact congrArg (Code.seq a) (zF r b)
  |_=>rfl
structure Dw(ws:List Nat)(first:(Ex->Env->Loc->ad->Prop)->Prop)(rest:Env->Loc->ad->Prop)(K:Ex->Env->Loc->ad->Prop)(env:Env):Prop where
 out:∃I:Env->Loc->ad->Prop,first (λe dh L' h'=>match e with
  | .normal=>∃kU L1,Wk dh L' kU L1/\I kU L1 h'
  |e=>K e dh L' h')/\∀dh L' h',I dh L' h'->rest dh L' h'
theorem Dw.go{G:Type}{w:List Nat}{first:(Ex->Env->Loc->ad->Prop)->Prop}{rest:Env->Loc->ad->Prop}{K:Ex->Env->Loc->ad->Prop}{env:Env}
 (v:G->List (Nat×SV)) (l:G->Loc) (I:G->ad->Prop)
 (h:first (λe d L h'=>match e with
  | .normal=>∃g,Wk d L (xC (aQt env w) (v g)) (l g)/\I g h'
  |e=>K e d L h'))
 (a:∀g h',I g h'->rest (xC (aQt env w) (v g)) (l g) h'):Dw w first rest K env:=by
 refine⟨λk b h'=>∃g,k=xC (aQt env w) (v g)/\b=l g/\I g h',?_,?_⟩
 .have key:(λ(e:Ex) (d:Env) (L:Loc) (h':ad)=>match e with
   | .normal=>∃g,Wk d L (xC (aQt env w) (v g)) (l g)/\I g h'
   |e=>K e d L h')=(λe d L h'=>match e with
   | .normal=>∃k b,Wk d L k b/\∃g,k=xC (aQt env w) (v g)/\b=l g/\I g h'
   |e=>K e d L h'):=by
   funext e d L h';cases e with
   |normal=>
    apply propext;constructor
    .rintro⟨g,h,a⟩;exact⟨_,_,h,g,rfl,rfl,a⟩
    rintro⟨_,_,h,g,rfl,rfl,a⟩;exact⟨g,h,a⟩
   |exit j=>rfl
   |ret=>rfl
  rw[key]at h;exact h
 rintro _ _ h' ⟨g,rfl,rfl,c⟩;exact a g h' c
def eXO(A:Ar)(T:bu)(p:Unit->Program):CC->(Ex->Env->Loc->ad->Prop)->Env->Loc->ad->Prop
 | .leaf c,K,env,L,h=>sx A T p c K env L h
 | .bKa a b,K,env,L,h=>sx A T p a (λe env L h=>match e with
  | .normal=>eXO A T p b K env L h
  |e=>K e env L h) env L h
 | .bKb a b,K,env,L,h=>Dw (wr a) (λK'=>sx A T p a K' env L h) (λenv L h=>eXO A T p b K env L h) K env
def eJL(A:Ar)(T:bu)(p:Unit->Program)(c:CC)(ntmps:Nat)(rs:List ResultVar)(args:List Value)(h:ad)(R:Value->ad->Prop):Prop:=
 eXO A T p c (λe env L h=>match e with
  | .exit _=>False
  |_=>uE T env L h rs (λl=>pJ l (λv=>R v h))) (args.map SV.v++List.replicate (ntmps-args.length) (.v undef)) [] h
variable {ro:Option Nat}{n:Nat}
variable {P:Program}{T:bu}{A:Ar}[bM A]
variable {h0:ad}{w0:World}{β:Nat->Nat}{h:ad}{a:Act}{w:World}{env:Env}{L:Loc}{ds:List Deferred}
theorem XF(l:gE P T):∀(c:CC),gu T c.code=true->∀ {K:Ex->Env->Loc->ad->Prop} {Q:Exit->Act->World->Prop} {env:Env} {L:Loc} {h:ad} {β:Nat->Nat} {a:Act} {w:World},
 eO ds h0 w0 β env L h a w->eXO A T (λ_=>P) c K env L h->
 qN T ds h0 w0 Q->(∀e k i h' u j w',K e k i h'->eO ds h0 w0 u k i h' j w'->Q (bQT e) j w')->c.code.wpIn (FW ro) n P Q a w:=by
 intro c;induction c with
 |leaf c=>exact λo {K Q env L h β a w} s hx m b=>lj l c o s hx m b
 |bKa c d p=>
  intro o K Q env L h β a w s hx m b;simp only[CC.code,gu,mQQ]at o;unfold eXO at hx;refine wpIn_seq (lj l c o.1 s hx (λc β env L h a w q r=>m c β env L h a w q r) λe k i h' u j w' f g=>?_);cases e with
  |normal=>exact p o.2 g f m b
  |exit id=>exact b (.exit id) _ _ _ _ _ _ f g
  |ret=>exact b .ret _ _ _ _ _ _ f g
 |bKb c d p=>
  intro o K Q env L h β a w s hx m b;simp only[CC.code,gu,mQQ]at o;unfold eXO at hx;obtain⟨I,v,x⟩:=hx.out;refine wpIn_seq (lj l c o.1 s v (λc β env L h a w q r=>m c β env L h a w q r) λe k i h' u j w' f g=>?_);cases e with
  |normal=>obtain⟨U,y,Z,t⟩:=f;exact p o.2 (g.wk Z) (x _ _ _ t) m b
  |exit id=>exact b (.exit id) _ _ _ _ _ _ f g
  |ret=>exact b .ret _ _ _ _ _ _ f g
theorem zo(A:Ar)[bM A](l:List Bool)(g:gE P T){f:FuncId}{fn:Func}{c:Code}(r:P.funcs[f]? =some fn)(p:fn.body=some c)(t:gu T c=true){args:List Value}{h:ad}{R:Value->ad->Prop}
 (hx:eJL A T (λ_=>P) (bQU l c) fn.ntmps fn.results.toList args h R) (C:∀c s h,¬T.kp c s h:=by exact λ_ _ _ q=>q):aQI (λ_=>P) f args h R:=by
 refine⟨λw y=>?_⟩;refine calls_of_wp r p (wpIn_wide (n:=0).1 ?_);have x:=mC (f:=f) (fn:=fn) (args:=args) y;rw[<-zF l c];refine XF (A:=A) (ro:=none) (n:=0) g (bQU l c) (by rw[zF];exact t) x hx (qN.none C) λe j L h' z b w' a d=>?_;have fin:uE T j L h' fn.results.toList (λl=>pJ l (λv=>R v h'))->b.defers=[]/\∃v,(results fn b.tmps).run P w'=.ok v w'/\∃i a,Ending.returned v=.returned i/\R i a/\bW h w a w':=λu=>by
  obtain⟨v,k,m,o⟩:=yJ g d u;exact⟨d.defers,v,k,v,h',rfl,m,o⟩
 cases e with
 |normal=>exact fin a
 |ret=>exact fin a
 |exit id=>exact a.elim
end Go.Sx
