import Derived.Test.YthnbpiejemlbeaaGreatRd
set_option linter.all false
namespace Go.Sx
variable {G:Type}{first:(Ex->Env->Loc->ad->Prop)->Prop}{c:Code}{r:Env->Loc->ad->Prop}{K:Ex->Env->Loc->ad->Prop}{fn:Func}{f:FuncId}{ws:List Nat}{args:List Value}{R:Value->ad->Prop}
inductive CC where
 |leaf (c:Code)
 |aJb (a:Code) (b:CC)
 |aJc (a:Code) (b:CC)
def CC.code:CC->Code
 | .leaf c=>c
 | .aJb a b=>.seq a b.code
 | .aJc a b=>.seq a b.code
def aQI:List Bool->Code->CC
 | [],c=>.leaf c
 |t::r,c=>match c with
  | .seq a b=>match t with
   |true=>.aJc a (aQI r b)
   |false=>.aJb a (aQI r b)
  |c=>.leaf c
theorem yi:∀(l:List Bool) (c:Code),(aQI l c).code=c
 | [],c=>rfl
 |t::r,c=>by
  cases c with
  |seq a b=>
   cases t with
   |true=>exact congrArg (Code.seq a) (yi r b)
   |false=>exact congrArg (Code.seq a) (yi r b)
  |_=>rfl
structure kK(ws:List Nat)(first:(Ex->Env->Loc->ad->Prop)->Prop)(rest:Env->Loc->ad->Prop)(K:Ex->Env->Loc->ad->Prop)(env:Env):Prop where
 out:∃I:Env->Loc->ad->Prop,first (λe cY L' h'=>match e with
  | .normal=>∃jP L1,Wk cY L' jP L1/\I jP L1 h'
  |e=>K e cY L' h')/\∀cY L' h',I cY L' h'->rest cY L' h'
theorem kK.go{env:Env}
 (v:G->List (Nat×SV)) (l:G->Loc) (I:G->ad->Prop)
 (h:first (λe c L' h'=>match e with
  | .normal=>∃g,Wk c L' (wo (Wy env ws) (v g)) (l g)/\I g h'
  |e=>K e c L' h'))
 (a:∀g h',I g h'->r (wo (Wy env ws) (v g)) (l g) h'):kK ws first r K env:=by
 refine⟨λj L h'=>∃g,j=wo (Wy env ws) (v g)/\L=l g/\I g h',?_,?_⟩
 .grind
 grind
theorem kK.jZl{env:Env}
 (n:Nat) (v:G->List (Nat×SV)) (l:G->Loc) (I:G->ad->Prop)
 (h:first (λe c L' h'=>match e with
  | .normal=>∃g,Wk c L' (wo (List.replicate n SV.u) (v g)) (l g)/\I g h'
  |e=>K e c L' h'))
 (a:∀g h',I g h'->r (wo (List.replicate n SV.u) (v g)) (l g) h'):kK ws first r K env:=by
 refine⟨λj L h'=>∃g,j=wo (List.replicate n SV.u) (v g)/\L=l g/\I g h',?_,?_⟩
 .grind
 grind
def cKA(A:Ar)(T:bt)(p:Unit->Program):CC->(Ex->Env->Loc->ad->Prop)->Env->Loc->ad->Prop
 | .leaf c,K,env,L,h=>sx A T p c K env L h
 | .aJb a b,K,env,L,h=>sx A T p a (λe env L h=>match e with
  | .normal=>cKA A T p b K env L h
  |e=>K e env L h) env L h
 | .aJc a b,K,env,L,h=>kK (wr a) (λK'=>sx A T p a K' env L h) (λenv L h=>cKA A T p b K env L h) K env
def dXo(A:Ar)(T:bt)(p:Unit->Program)(c:CC)(ntmps:Nat)(rs:List ResultVar)(args:List Value)(h:ad)(R:Value->ad->Prop):Prop:=
 cKA A T p c (λe env L h=>match e with
  | .exit _=>False
  |_=>AS T env L h rs (λl=>tF l (λv=>R v h))) (args.map SV.v++List.replicate (ntmps-args.length) (.v undef)) [] h
variable {ro:Option Nat}{n:Nat}
variable {P:Program}{T:bt}{A:Ar}[bM A]
variable {h0:ad}{w0:World}{β:Nat->Nat}{h:ad}{a:Act}{w:World}{env:Env}{L:Loc}{ds:List Deferred}
theorem Ud(k:il P T):∀(c:CC),gn T c.code=true->∀ {K:Ex->Env->Loc->ad->Prop} {Q:Exit->Act->World->Prop} {env:Env} {L:Loc} {h:ad} {β:Nat->Nat} {a:Act} {w:World},
 ef ds h0 w0 β env L h a w->cKA A T (λ_=>P) c K env L h->
 pd T ds h0 w0 Q->(∀e Y L' h' p j w',K e Y L' h'->ef ds h0 w0 p Y L' h' j w'->Q (QF e) j w')->c.code.wpIn (FW ro) n P Q a w:=by
 intro c;induction c with
 |leaf c=>exact λo {K Q env L h β a w} s hx i b=>iV k c o s hx i b
 |aJb c d l=>
  intro o K Q env L h β a w s hx i b;simp only[CC.code,gn,kZj]at o;unfold cKA at hx;refine wpIn_seq (iV k c o.1 s hx (λc β env L h a w q m=>i c β env L h a w q m) λe Y L' h' p j w' f g=>?_);cases e with
  |normal=>exact l o.2 g f i b
  |exit id=>exact b (.exit id) _ _ _ _ _ _ f g
  |ret=>exact b .ret _ _ _ _ _ _ f g
 |aJc c d l=>
  intro o K Q env L h β a w s hx i b;simp only[CC.code,gn,kZj]at o;unfold cKA at hx;obtain⟨I,t,u⟩:=hx.out;refine wpIn_seq (iV k c o.1 s t (λc β env L h a w q m=>i c β env L h a w q m) λe Y L' h' p j w' f g=>?_);cases e with
  |normal=>obtain⟨x,v,Z,r⟩:=f;exact l o.2 (g.wk Z) (u _ _ _ r) i b
  |exit id=>exact b (.exit id) _ _ _ _ _ _ f g
  |ret=>exact b .ret _ _ _ _ _ _ f g
theorem CY(A:Ar)[bM A](l:List Bool)(g:il P T)(q:P.funcs[f]? =some fn)(o:fn.body=some c)(r:gn T c=true){h:ad}
 (hx:dXo A T (λ_=>P) (aQI l c) fn.ntmps fn.results.toList args h R) (C:∀c s h,¬T.kp c s h:=by exact λ_ _ _ p=>p):Hl (λ_=>P) f args h R:=by
 refine⟨λw x=>?_⟩;refine calls_of_wp q o (wpIn_wide (n:=0).1 ?_);have u:=ux (f:=f) (fn:=fn) (args:=args) x;rw[<-yi l c];refine Ud (A:=A) (ro:=none) (n:=0) g (aQI l c) (by rw[yi];exact r) u hx (pd.none C) λe Y L' h' X b w' a d=>?_;have fin:AS T Y L' h' fn.results.toList (λl=>tF l (λv=>R v h'))->b.defers=[]/\∃v,(results fn b.tmps).run P w'=.ok v w'/\∃i a,Ending.returned v=.returned i/\R i a/\cj h w a w':=λt=>by
  obtain⟨v,j,k,m⟩:=Es g d t;exact⟨d.defers,v,j,v,h',rfl,k,m⟩
 cases e with
 |normal=>exact fin a
 |ret=>exact fin a
 |exit id=>exact a.elim
def dKW:Code->Option Nat
 | .region id _ _=>some id
 | .seq a _=>dKW a
 |_=>none
def inl:List Nat->Nat->Bool
 | [],_=>false
 |x::r,n=>match Nat.beq x n with
  |true=>true
  |false=>inl r n
def dZN(cs:List Nat)(b:Code):Bool:=match dKW b with
 |some i=>inl cs i
 |none=>false
def OY(A:Ar)(T:bt)(p:Unit->Program)(cs:List Nat):Code->(Ex->Env->Loc->ad->Prop)->Env->Loc->ad->Prop
 | .skip,K,env,L,h=>K .normal env L h
 | .region id ops draw,K,env,L,h=>match draw with
  |false=>Fq A T p ops.toList (λenv L h=>K .normal env L h) ops.toList env L h
  |true=>kV A T p ops.toList (λenv L h=>K .normal env L h) (T.aw id) env L h
 | .seq a b,K,env,L,h=>match dZN cs b with
  |true=>kK (wr a) (λK'=>OY A T p cs a K' env L h) (λenv L h=>OY A T p cs b K env L h) K env
  |false=>OY A T p cs a (λe env L h=>match e with
   | .normal=>OY A T p cs b K env L h
   |e=>K e env L h) env L h
 | .cond c a b,K,env,L,h=>match rl env c with
  | .v (.bool t)=>QL t (λ_=>OY A T p cs a K env L h) (λ_=>OY A T p cs b K env L h)
  |_=>False
 | .block id c,K,env,L,h=>OY A T p cs c (λe env L h=>match e with
  | .exit j=>if j=id then K .normal env L h else K (.exit j) env L h
  |e=>K e env L h) env L h
 | .loop c,K,env,L,h=>ba (wr c) (λK' env L h=>OY A T p cs c K' env L h) K env L h
 | .exit id,K,env,L,h=>K (.exit id) env L h
 | .ret,K,env,L,h=>K .ret env L h
 | .scope c,K,env,L,h=>OY A T p cs c K env L h
 | .label _,K,env,L,h=>K .normal env L h
 |_,_,_,_,_=>False
def dXn(A:Ar)(T:bt)(p:Unit->Program)(cs:List Nat)(c:Code)(ntmps:Nat)(rs:List ResultVar)(args:List Value)(h:ad)(R:Value->ad->Prop):Prop:=
 OY A T p cs c (λe env L h=>match e with
  | .exit _=>False
  |_=>AS T env L h rs (λl=>tF l (λv=>R v h))) (args.map SV.v++List.replicate (ntmps-args.length) (.v undef)) [] h
variable {ro:Option Nat}{n:Nat}
variable {P:Program}{T:bt}{A:Ar}[bM A]
variable {h0:ad}{w0:World}{β:Nat->Nat}{h:ad}{a:Act}{w:World}{env:Env}{L:Loc}{ds:List Deferred}
theorem Uc(v:il P T)(cs:List Nat):∀(c:Code),gn T c=true->∀ {K:Ex->Env->Loc->ad->Prop} {Q:Exit->Act->World->Prop} {env:Env} {L:Loc} {h:ad} {β:Nat->Nat} {a:Act} {w:World},
 ef ds h0 w0 β env L h a w->OY A T (λ_=>P) cs c K env L h->
 pd T ds h0 w0 Q->(∀e Y L' h' p l w',K e Y L' h'->ef ds h0 w0 p Y L' h' l w'->Q (QF e) l w')->c.wpIn (FW ro) n P Q a w:=by
 intro c;induction c with
 |skip=>exact λo {K Q env L h β a w} s hx Z b=>iV (A:=A) v .skip o s hx Z b
 |region id E u=>exact λo {K Q env L h β a w} s hx Z b=>iV (A:=A) v (.region id E u) o s hx Z b
 |seq c d z W=>
  intro o K Q env L h β a w s hx Z b;simp only[gn,kZj]at o;unfold OY at hx;split at hx
  .obtain⟨I,M,O⟩:=hx.out;refine wpIn_seq (z o.1 s M (λc β env L h a w q k=>Z c β env L h a w q k) λe Y L' h' p l w' f g=>?_);cases e with
   |normal=>obtain⟨G,F,r,D⟩:=f;exact W o.2 (g.wk r) (O _ _ _ D) Z b
   |exit id=>exact b (.exit id) _ _ _ _ _ _ f g
   |ret=>exact b .ret _ _ _ _ _ _ f g
  refine wpIn_seq (z o.1 s hx (λc β env L h a w q k=>Z c β env L h a w q k) λe Y L' h' p l w' f g=>?_);cases e with
  |normal=>exact W o.2 g f Z b
  |exit id=>exact b (.exit id) _ _ _ _ _ _ f g
  |ret=>exact b .ret _ _ _ _ _ _ f g
 |cond x c d z W=>
  intro o K Q env L h β a w s hx Z b;simp only[gn,kZj]at o;unfold OY at hx;split at hx
  .rename_i t R;refine wpIn_cond (s.bU R) ?_
   grind [mD,hx]
  grind
 |block id c y=>
  intro o K Q env L h β a w s hx Z b;unfold OY at hx;refine wpIn_block (y o s hx (λc β env L h a w q k=>Z c β env L h a w q k) λe Y L' h' p l w' f g=>?_);cases e with
  |normal=>exact b .normal _ _ _ _ _ _ f g
  |exit j=>
   simp only[QF,Exit.inBlock]at f |-;split at f
   .rename_i e;rw[if_pos e];exact b .normal _ _ _ _ _ _ f g
   rename_i e;rw[if_neg e];exact b (.exit j) _ _ _ _ _ _ f g
  |ret=>exact b .ret _ _ _ _ _ _ f g
 |loop c y=>
  intro o K Q env L h β a w s hx Z b;unfold OY at hx;obtain⟨I,n,⟨G,F,r,D⟩,H⟩:=hx.out;refine wpIn_loop_ghost (λn a w=>∃env L h β,I n env L h/\ef ds h0 w0 β env L h a w) n ⟨_,_,_,_,D,s.wk r⟩ λn a w ⟨env,L,h,β,f,g⟩=>?_;refine y o g (H n env L h f) (λc β env L h a w q k=>Z c β env L h a w q k) λe Y L' h' p l w' B C=>?_;cases e with
  |normal=>obtain⟨m,G,F,N,r,J⟩:=B;exact⟨m,N,_,_,_,_,J,C.wk r⟩
  |exit j=>exact b (.exit j) _ _ _ _ _ _ B C
  |ret=>exact b .ret _ _ _ _ _ _ B C
 |exit id=>exact λo {K Q env L h β a w} s hx Z b=>iV (A:=A) v (.exit id) o s hx Z b
 |ret=>exact λo {K Q env L h β a w} s hx Z b=>iV (A:=A) v .ret o s hx Z b
 |label i=>exact λo {K Q env L h β a w} s hx Z b=>iV (A:=A) v (.label i) o s hx Z b
 |scope c y=>
  intro o K Q env L h β a w s hx Z b;refine EX (y o s hx (λc β env L h a w q k=>Z c β env L h a w q k) λe Y L' h' p l w' f g=>?_);cases e with
  |normal=>exact b .normal _ _ _ _ _ _ f g
  |exit j=>exact b (.exit j) _ _ _ _ _ _ f g
  |ret=>exact b .ret _ _ _ _ _ _ f g
 |_=>intro o K Q env L h β a w s hx Z b;exact hx.elim
theorem fT(A:Ar)[bM A](cs:List Nat)(g:il P T)(q:P.funcs[f]? =some fn)(o:fn.body=some c)(r:gn T c=true){h:ad}
 (hx:dXn A T (λ_=>P) cs c fn.ntmps fn.results.toList args h R) (C:∀c s h,¬T.kp c s h:=by exact λ_ _ _ p=>p):Hl (λ_=>P) f args h R:=by
 refine⟨λw x=>?_⟩;refine calls_of_wp q o (wpIn_wide (n:=0).1 ?_);have u:=ux (f:=f) (fn:=fn) (args:=args) x;refine Uc (A:=A) (ro:=none) (n:=0) g cs c r u hx (pd.none C) λe Y L' h' X b w' a d=>?_;have fin:AS T Y L' h' fn.results.toList (λl=>tF l (λv=>R v h'))->b.defers=[]/\∃v,(results fn b.tmps).run P w'=.ok v w'/\∃i a,Ending.returned v=.returned i/\R i a/\cj h w a w':=λt=>by
  obtain⟨v,j,k,m⟩:=Es g d t;exact⟨d.defers,v,j,v,h',rfl,k,m⟩
 cases e with
 |normal=>exact fin a
 |ret=>exact fin a
 |exit id=>exact a.elim
end Go.Sx
