import Derived.Test.YthnbpiejemlbeaaGreatRd
set_option linter.all false
namespace Go.Sx
variable {c:Code}{fn:Func}{f:FuncId}{args:List Value}{R:Value->ab->Prop}
inductive CC where
 |leaf (c:Code)
 |XE (a:Code) (b:CC)
 |XF (a:Code) (b:CC)
def CC.code:CC->Code
 | .leaf c=>c
 | .XE a b=>.seq a b.code
 | .XF a b=>.seq a b.code
def Vm:List Bool->Code->CC
 | [],c=>.leaf c
 |t::r,c=>match c with
  | .seq a b=>match t with
   |true=>.XF a (Vm r b)
   |false=>.XE a (Vm r b)
  |c=>.leaf c
theorem ub:∀(l:List Bool) (c:Code),(Vm l c).code=c
 | [],c=>rfl
 |t::r,c=>by
  cases c with
  |seq a b=>
   cases t with
   |true=>exact congrArg (Code.seq a) (ub r b)
   |false=>exact congrArg (Code.seq a) (ub r b)
  |_=>rfl
structure ny(ws:List Nat)(first:(Ex->Env->Loc->ab->Prop)->Prop)(rest:Env->Loc->ab->Prop)(K:Ex->Env->Loc->ab->Prop)(env:Env):Prop where
 out:∃I:Env->Loc->ab->Prop,first (λe bZ L' h'=>match e with
  | .normal=>∃iC L1,Wk bZ L' iC L1/\I iC L1 h'
  |e=>K e bZ L' h')/\∀bZ L' h',I bZ L' h'->rest bZ L' h'
theorem ny.go{G:Type}{w:List Nat}{first:(Ex->Env->Loc->ab->Prop)->Prop}{r:Env->Loc->ab->Prop}{K:Ex->Env->Loc->ab->Prop}{env:Env}
 (v:G->List (Nat×SV)) (l:G->Loc) (I:G->ab->Prop)
 (h:first (λe b L' h'=>match e with
  | .normal=>∃g,Wk b L' (sC (QC env w) (v g)) (l g)/\I g h'
  |e=>K e b L' h'))
 (a:∀g h',I g h'->r (sC (QC env w) (v g)) (l g) h'):ny w first r K env:=by
 refine⟨λi L h'=>∃g,i=sC (QC env w) (v g)/\L=l g/\I g h',?_,?_⟩
 .have key:(λ(e:Ex) (b:Env) (L':Loc) (h':ab)=>match e with
   | .normal=>∃g,Wk b L' (sC (QC env w) (v g)) (l g)/\I g h'
   |e=>K e b L' h')=(λe b L' h'=>match e with
   | .normal=>∃i L,Wk b L' i L/\∃g,i=sC (QC env w) (v g)/\L=l g/\I g h'
   |e=>K e b L' h'):=by
   funext e b L' h';cases e with
   |normal=>
    apply propext;constructor
    .rintro⟨g,h,a⟩;exact⟨_,_,h,g,rfl,rfl,a⟩
    rintro⟨_,_,h,g,rfl,rfl,a⟩;exact⟨g,h,a⟩
   |exit j=>rfl
   |ret=>rfl
  rw[key]at h;exact h
 rintro _ _ h' ⟨g,rfl,rfl,c⟩;exact a g h' c
def bJu(A:Ar)(T:aL)(p:Unit->Program):CC->(Ex->Env->Loc->ab->Prop)->Env->Loc->ab->Prop
 | .leaf c,K,env,L,h=>sx A T p c K env L h
 | .XE a b,K,env,L,h=>sx A T p a (λe env L h=>match e with
  | .normal=>bJu A T p b K env L h
  |e=>K e env L h) env L h
 | .XF a b,K,env,L,h=>ny (wr a) (λK'=>sx A T p a K' env L h) (λenv L h=>bJu A T p b K env L h) K env
def cQn(A:Ar)(T:aL)(p:Unit->Program)(c:CC)(ntmps:Nat)(rs:List ResultVar)(args:List Value)(h:ab)(R:Value->ab->Prop):Prop:=
 bJu A T p c (λe env L h=>match e with
  | .exit _=>False
  |_=>wG T env L h rs (λl=>pB l (λv=>R v h))) (args.map SV.v++List.replicate (ntmps-args.length) (.v undef)) [] h
variable {ro:Option Nat}{n:Nat}
variable {P:Program}{T:aL}{A:Ar}[bf A]
variable {h0:ab}{w0:World}{β:Nat->Nat}{h:ab}{a:Act}{w:World}{env:Env}{L:Loc}{ds:List Deferred}
theorem Og(l:fF P T):∀(c:CC),eI T c.code=true->∀ {K:Ex->Env->Loc->ab->Prop} {Q:Exit->Act->World->Prop} {env:Env} {L:Loc} {h:ab} {β:Nat->Nat} {a:Act} {w:World},
 cZ ds h0 w0 β env L h a w->bJu A T (λ_=>P) c K env L h->
 mI T ds h0 w0 Q->(∀e Z L' h' B j k,K e Z L' h'->cZ ds h0 w0 B Z L' h' j k->Q (Lv e) j k)->c.code.wpIn (FW ro) n P Q a w:=by
 intro c;induction c with
 |leaf c=>exact λo {K Q env L h β a w} s hx g b=>gv l c o s hx g b
 |XE c d m=>
  intro o K Q env L h β a w s hx g b;simp only[CC.code,eI,Bool.and_eq_true]at o;unfold bJu at hx;refine wpIn_seq (gv l c o.1 s hx (λc β env L h a w q p=>g c β env L h a w q p) λe Z L' h' B j k f i=>?_);cases e with
  |normal=>exact m o.2 i f g b
  |exit id=>exact b (.exit id) _ _ _ _ _ _ f i
  |ret=>exact b .ret _ _ _ _ _ _ f i
 |XF c d m=>
  intro o K Q env L h β a w s hx g b;simp only[CC.code,eI,Bool.and_eq_true]at o;unfold bJu at hx;obtain⟨I,t,u⟩:=hx.out;refine wpIn_seq (gv l c o.1 s t (λc β env L h a w q p=>g c β env L h a w q p) λe Z L' h' B j k f i=>?_);cases e with
  |normal=>obtain⟨C,v,O,r⟩:=f;exact m o.2 (i.wk O) (u _ _ _ r) g b
  |exit id=>exact b (.exit id) _ _ _ _ _ _ f i
  |ret=>exact b .ret _ _ _ _ _ _ f i
theorem EN(A:Ar)[bf A](l:List Bool)(i:fF P T)(r:P.funcs[f]? =some fn)(p:fn.body=some c)(t:eI T c=true){h:ab}
 (hx:cQn A T (λ_=>P) (Vm l c) fn.ntmps fn.results.toList args h R) (z:∀c s h,¬T.kp c s h:=by exact λ_ _ _ q=>q):Dr (λ_=>P) f args h R:=by
 refine⟨λw y=>?_⟩;refine calls_of_wp r p (wpIn_wide (n:=0).1 ?_);have x:=pZ (f:=f) (fn:=fn) (args:=args) y;rw[<-ub l c];refine Og (A:=A) (ro:=none) (n:=0) i (Vm l c) (by rw[ub];exact t) x hx (mI.none z) λe Z L' h' B d b a g=>?_;have fin:wG T Z L' h' fn.results.toList (λl=>pB l (λv=>R v h'))->d.defers=[]/\∃v,(results fn d.tmps).run P b=.ok v b/\∃j a,Ending.returned v=.returned j/\R j a/\bD h w a b:=λu=>by
  obtain⟨v,k,m,o⟩:=AL i g u;exact⟨g.defers,v,k,v,h',rfl,m,o⟩
 cases e with
 |normal=>exact fin a
 |ret=>exact fin a
 |exit id=>exact a.elim
def cJS:Code->Option Nat
 | .region id _ _=>some id
 | .seq a _=>cJS a
 |_=>none
def inl:List Nat->Nat->Bool
 | [],_=>false
 |x::r,n=>match Nat.beq x n with
  |true=>true
  |false=>inl r n
def cXL(cs:List Nat)(b:Code):Bool:=match cJS b with
 |some i=>inl cs i
 |none=>false
def JW(A:Ar)(T:aL)(p:Unit->Program)(cs:List Nat):Code->(Ex->Env->Loc->ab->Prop)->Env->Loc->ab->Prop
 | .skip,K,env,L,h=>K .normal env L h
 | .region id ops draw,K,env,L,h=>match draw with
  |false=>BA A T p ops.toList (λenv L h=>K .normal env L h) ops.toList env L h
  |true=>jc A T p ops.toList (λenv L h=>K .normal env L h) (T.au id) env L h
 | .seq a b,K,env,L,h=>match cXL cs b with
  |true=>ny (wr a) (λK'=>JW A T p cs a K' env L h) (λenv L h=>JW A T p cs b K env L h) K env
  |false=>JW A T p cs a (λe env L h=>match e with
   | .normal=>JW A T p cs b K env L h
   |e=>K e env L h) env L h
 | .cond c a b,K,env,L,h=>match og env c with
  | .v (.bool t)=>LC t (λ_=>JW A T p cs a K env L h) (λ_=>JW A T p cs b K env L h)
  |_=>False
 | .block id c,K,env,L,h=>JW A T p cs c (λe env L h=>match e with
  | .exit j=>if j=id then K .normal env L h else K (.exit j) env L h
  |e=>K e env L h) env L h
 | .loop c,K,env,L,h=>aG (wr c) (λK' env L h=>JW A T p cs c K' env L h) K env L h
 | .exit id,K,env,L,h=>K (.exit id) env L h
 | .ret,K,env,L,h=>K .ret env L h
 | .scope c,K,env,L,h=>JW A T p cs c K env L h
 | .label _,K,env,L,h=>K .normal env L h
 |_,_,_,_,_=>False
def cQm(A:Ar)(T:aL)(p:Unit->Program)(cs:List Nat)(c:Code)(ntmps:Nat)(rs:List ResultVar)(args:List Value)(h:ab)(R:Value->ab->Prop):Prop:=
 JW A T p cs c (λe env L h=>match e with
  | .exit _=>False
  |_=>wG T env L h rs (λl=>pB l (λv=>R v h))) (args.map SV.v++List.replicate (ntmps-args.length) (.v undef)) [] h
variable {ro:Option Nat}{n:Nat}
variable {P:Program}{T:aL}{A:Ar}[bf A]
variable {h0:ab}{w0:World}{β:Nat->Nat}{h:ab}{a:Act}{w:World}{env:Env}{L:Loc}{ds:List Deferred}
theorem Of(v:fF P T)(cs:List Nat):∀(c:Code),eI T c=true->∀ {K:Ex->Env->Loc->ab->Prop} {Q:Exit->Act->World->Prop} {env:Env} {L:Loc} {h:ab} {β:Nat->Nat} {a:Act} {w:World},
 cZ ds h0 w0 β env L h a w->JW A T (λ_=>P) cs c K env L h->
 mI T ds h0 w0 Q->(∀e Z L' h' B p r,K e Z L' h'->cZ ds h0 w0 B Z L' h' p r->Q (Lv e) p r)->c.wpIn (FW ro) n P Q a w:=by
 intro c;induction c with
 |skip=>exact λo {K Q env L h β a w} s hx g b=>gv (A:=A) v .skip o s hx g b
 |region id G u=>exact λo {K Q env L h β a w} s hx g b=>gv (A:=A) v (.region id G u) o s hx g b
 |seq c d C z=>
  intro o K Q env L h β a w s hx g b;simp only[eI,Bool.and_eq_true]at o;unfold JW at hx;split at hx
  .obtain⟨I,R,U⟩:=hx.out;refine wpIn_seq (C o.1 s R (λc β env L h a w q l=>g c β env L h a w q l) λe Z L' h' B p r f k=>?_);cases e with
   |normal=>obtain⟨J,H,O,F⟩:=f;exact z o.2 (k.wk O) (U _ _ _ F) g b
   |exit id=>exact b (.exit id) _ _ _ _ _ _ f k
   |ret=>exact b .ret _ _ _ _ _ _ f k
  refine wpIn_seq (C o.1 s hx (λc β env L h a w q l=>g c β env L h a w q l) λe Z L' h' B p r f k=>?_);cases e with
  |normal=>exact z o.2 k f g b
  |exit id=>exact b (.exit id) _ _ _ _ _ _ f k
  |ret=>exact b .ret _ _ _ _ _ _ f k
 |cond x c d C z=>
  intro o K Q env L h β a w s hx g b;simp only[eI,Bool.and_eq_true]at o;unfold JW at hx;split at hx
  .rename_i t V;refine wpIn_cond (s.bt V) ?_;rcases jR hx with⟨rfl,hx⟩|⟨rfl,hx⟩
   .exact C o.1 s hx g b
   exact z o.2 s hx g b
  exact hx.elim
 |block id c y=>
  intro o K Q env L h β a w s hx g b;unfold JW at hx;refine wpIn_block (y o s hx (λc β env L h a w q l=>g c β env L h a w q l) λe Z L' h' B p r f k=>?_);cases e with
  |normal=>exact b .normal _ _ _ _ _ _ f k
  |exit j=>
   simp only[Lv,Exit.inBlock]at f |-;split at f
   .rename_i e;rw[if_pos e];exact b .normal _ _ _ _ _ _ f k
   rename_i e;rw[if_neg e];exact b (.exit j) _ _ _ _ _ _ f k
  |ret=>exact b .ret _ _ _ _ _ _ f k
 |loop c y=>
  intro o K Q env L h β a w s hx g b;unfold JW at hx;obtain⟨I,n,⟨J,H,O,F⟩,M⟩:=hx.out;refine wpIn_loop_ghost (λn a w=>∃env L h β,I n env L h/\cZ ds h0 w0 β env L h a w) n ⟨_,_,_,_,F,s.wk O⟩ λn a w ⟨env,L,h,β,f,k⟩=>?_;refine y o k (M n env L h f) (λc β env L h a w q l=>g c β env L h a w q l) λe Z L' h' B p r D E=>?_;cases e with
  |normal=>obtain⟨m,J,H,S,O,N⟩:=D;exact⟨m,S,_,_,_,_,N,E.wk O⟩
  |exit j=>exact b (.exit j) _ _ _ _ _ _ D E
  |ret=>exact b .ret _ _ _ _ _ _ D E
 |exit id=>exact λo {K Q env L h β a w} s hx g b=>gv (A:=A) v (.exit id) o s hx g b
 |ret=>exact λo {K Q env L h β a w} s hx g b=>gv (A:=A) v .ret o s hx g b
 |label i=>exact λo {K Q env L h β a w} s hx g b=>gv (A:=A) v (.label i) o s hx g b
 |scope c y=>
  intro o K Q env L h β a w s hx g b;refine Bm (y o s hx (λc β env L h a w q l=>g c β env L h a w q l) λe Z L' h' B p r f k=>?_);cases e with
  |normal=>exact b .normal _ _ _ _ _ _ f k
  |exit j=>exact b (.exit j) _ _ _ _ _ _ f k
  |ret=>exact b .ret _ _ _ _ _ _ f k
 |_=>intro o K Q env L h β a w s hx g b;exact hx.elim
theorem ik(A:Ar)[bf A](cs:List Nat)(i:fF P T)(r:P.funcs[f]? =some fn)(p:fn.body=some c)(t:eI T c=true){h:ab}
 (hx:cQm A T (λ_=>P) cs c fn.ntmps fn.results.toList args h R) (z:∀c s h,¬T.kp c s h:=by exact λ_ _ _ q=>q):Dr (λ_=>P) f args h R:=by
 refine⟨λw y=>?_⟩;refine calls_of_wp r p (wpIn_wide (n:=0).1 ?_);have x:=pZ (f:=f) (fn:=fn) (args:=args) y;refine Of (A:=A) (ro:=none) (n:=0) i cs c t x hx (mI.none z) λe Z L' h' B d b a g=>?_;have fin:wG T Z L' h' fn.results.toList (λl=>pB l (λv=>R v h'))->d.defers=[]/\∃v,(results fn d.tmps).run P b=.ok v b/\∃j a,Ending.returned v=.returned j/\R j a/\bD h w a b:=λu=>by
  obtain⟨v,k,m,o⟩:=AL i g u;exact⟨g.defers,v,k,v,h',rfl,m,o⟩
 cases e with
 |normal=>exact fin a
 |ret=>exact fin a
 |exit id=>exact a.elim
end Go.Sx
