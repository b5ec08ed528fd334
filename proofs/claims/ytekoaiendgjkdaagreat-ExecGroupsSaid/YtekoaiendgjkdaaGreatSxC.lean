import Derived.Test.YtekoaiendgjkdaaGreatSxB
import Derived.Test.YtekoaiendgjkdaaGreatRd
set_option linter.unusedVariables false
set_option linter.unusedSimpArgs false
set_option linter.unusedSectionVars false
namespace Go.Sx
inductive CC where
 |leaf (c:Code)
 |bKa (a:Code) (b:CC)
 |bKb (a:Code) (b:CC)
def CC.code:CC->Code
 | .leaf c=>c
 | .bKa a b=>.seq a b.code
 | .bKb a b=>.seq a b.code
def bQU:List Bool->Code->CC
 | [],c=>.leaf c
 |t::r,c=>match c with
  | .seq a b=>match t with
   |true=>.bKb a (bQU r b)
   |false=>.bKa a (bQU r b)
  |c=>.leaf c
theorem zF:∀(l:List Bool) (c:Code),(bQU l c).code=c
 | [],c=>rfl
 |t::r,c=>by
  cases c with
  |seq a b=>
   cases t with
   |true=>exact congrArg (Code.seq a) (zF r b)
   |false=>exact congrArg (Code.seq a) (zF r b)
  |_=>rfl
structure Dw(ws:List Nat)(first:(Ex->Env->Loc->ad->Prop)->Prop)(rest:Env->Loc->ad->Prop)(K:Ex->Env->Loc->ad->Prop)(env:Env):Prop where
 out:∃I:Env->Loc->ad->Prop,first (fun e dh L' h'=>match e with
  | .normal=>∃kU L1,Wk dh L' kU L1/\I kU L1 h'
  |e=>K e dh L' h')/\∀dh L' h',I dh L' h'->rest dh L' h'
theorem Dw.go{G:Type}{ws:List Nat}{first:(Ex->Env->Loc->ad->Prop)->Prop}{rest:Env->Loc->ad->Prop}{K:Ex->Env->Loc->ad->Prop}{env:Env}
 (vs:G->List (Nat×SV)) (lv:G->Loc) (I:G->ad->Prop)
 (h1:first (fun e dh L' h'=>match e with
  | .normal=>∃g,Wk dh L' (xC (aQt env ws) (vs g)) (lv g)/\I g h'
  |e=>K e dh L' h'))
 (h2:∀g h',I g h'->rest (xC (aQt env ws) (vs g)) (lv g) h'):Dw ws first rest K env:=by
 refine⟨fun kU L1 h'=>∃g,kU=xC (aQt env ws) (vs g)/\L1=lv g/\I g h',?_,?_⟩
 ·have key:(fun(e:Ex) (dh:Env) (L':Loc) (h':ad)=>match e with
   | .normal=>∃g,Wk dh L' (xC (aQt env ws) (vs g)) (lv g)/\I g h'
   |e=>K e dh L' h')=(fun e dh L' h'=>match e with
   | .normal=>∃kU L1,Wk dh L' kU L1/\∃g,kU=xC (aQt env ws) (vs g)/\L1=lv g/\I g h'
   |e=>K e dh L' h'):=by
   funext e dh L' h';cases e with
   |normal=>
    apply propext;constructor
    ·rintro⟨g,h1,h2⟩;exact⟨_,_,h1,g,rfl,rfl,h2⟩
    ·rintro⟨_,_,h1,g,rfl,rfl,h2⟩;exact⟨g,h1,h2⟩
   |exit j=>rfl
   |ret=>rfl
  rw[key]at h1;exact h1
 ·rintro _ _ h' ⟨g,rfl,rfl,hI⟩;exact h2 g h' hI
def eXO(A:Ar)(T:bu)(p:Unit->Program):CC->(Ex->Env->Loc->ad->Prop)->Env->Loc->ad->Prop
 | .leaf c,K,env,L,h=>sx A T p c K env L h
 | .bKa a b,K,env,L,h=>sx A T p a (fun e env L h=>match e with
  | .normal=>eXO A T p b K env L h
  |e=>K e env L h) env L h
 | .bKb a b,K,env,L,h=>Dw (wr a) (fun K'=>sx A T p a K' env L h) (fun env L h=>eXO A T p b K env L h) K env
def eJL(A:Ar)(T:bu)(p:Unit->Program)(c:CC)(ntmps:Nat)(rs:List ResultVar)(args:List Value)(h:ad)(R:Value->ad->Prop):Prop:=
 eXO A T p c (fun e env L h=>match e with
  | .exit _=>False
  |_=>uE T env L h rs (fun l=>pJ l (fun v=>R v h))) (args.map SV.v++List.replicate (ntmps-args.length) (.v undef)) [] h
variable {ro:Option Nat}{n:Nat}
variable {P:Program}{T:bu}{A:Ar}[bM A]
variable {h0:ad}{w0:World}{β:Nat->Nat}{h:ad}{a:Act}{w:World}{env:Env}{L:Loc}{ds:List Deferred}
theorem XF(hT:gE P T):∀(c:CC),gu T c.code=true->∀ {K:Ex->Env->Loc->ad->Prop} {Q:Exit->Act->World->Prop} {env:Env} {L:Loc} {h:ad} {β:Nat->Nat} {a:Act} {w:World},
 eO ds h0 w0 β env L h a w->eXO A T (fun _=>P) c K env L h->
 qN T ds h0 w0 Q->(∀e dh L' h' uh a' w',K e dh L' h'->eO ds h0 w0 uh dh L' h' a' w'->Q (bQT e) a' w')->c.code.wpIn (FW ro) n P Q a w:=by
 intro c;induction c with
 |leaf c=>exact fun ho {K Q env L h β a w} hs hx mZ hK=>lj hT c ho hs hx mZ hK
 |bKa c d ih=>
  intro ho K Q env L h β a w hs hx mZ hK;simp only[CC.code,gu,mQG]at ho;unfold eXO at hx;refine wpIn_seq (lj hT c ho.1 hs hx (fun c β env L h a w q1 q2=>mZ c β env L h a w q1 q2) fun e dh L' h' uh a' w' h1 h2=>?_);cases e with
  |normal=>exact ih ho.2 h2 h1 mZ hK
  |exit id=>exact hK (.exit id) _ _ _ _ _ _ h1 h2
  |ret=>exact hK .ret _ _ _ _ _ _ h1 h2
 |bKb c d ih=>
  intro ho K Q env L h β a w hs hx mZ hK;simp only[CC.code,gu,mQG]at ho;unfold eXO at hx;obtain⟨I,hf,hr⟩:=hx.out;refine wpIn_seq (lj hT c ho.1 hs hf (fun c β env L h a w q1 q2=>mZ c β env L h a w q1 q2) fun e dh L' h' uh a' w' h1 h2=>?_);cases e with
  |normal=>obtain⟨kU,L1,fQZ,hI⟩:=h1;exact ih ho.2 (h2.wk fQZ) (hr _ _ _ hI) mZ hK
  |exit id=>exact hK (.exit id) _ _ _ _ _ _ h1 h2
  |ret=>exact hK .ret _ _ _ _ _ _ h1 h2
theorem zo(A:Ar)[bM A](l:List Bool)(hT:gE P T){f:FuncId}{fn:Func}{c:Code}(hf:P.funcs[f]? =some fn)(hb:fn.body=some c)(ho:gu T c=true){args:List Value}{h:ad}{R:Value->ad->Prop}
 (hx:eJL A T (fun _=>P) (bQU l c) fn.ntmps fn.results.toList args h R) (Cx:∀c s h,¬T.kp c s h:=by exact fun _ _ _ hc=>hc):aQI (fun _=>P) f args h R:=by
 refine⟨fun w hw=>?_⟩;refine calls_of_wp hf hb (wpIn_wide (n:=0).1 ?_);have hs:=mC (f:=f) (fn:=fn) (args:=args) hw;rw[<-zF l c];refine XF (A:=A) (ro:=none) (n:=0) hT (bQU l c) (by rw[zF];exact ho) hs hx (qN.none Cx) fun e dh L' h' uh a' w' h1 h2=>?_;have fin:uE T dh L' h' fn.results.toList (fun l=>pJ l (fun v=>R v h'))->a'.defers=[]/\∃v,(results fn a'.tmps).run P w'=.ok v w'/\∃v1 h1,Ending.returned v=.returned v1/\R v1 h1/\bW h w h1 w':=fun hr=>by
  obtain⟨v,h3,h4,h5⟩:=yJ hT h2 hr;exact⟨h2.defers,v,h3,v,h',rfl,h4,h5⟩
 cases e with
 |normal=>exact fin h1
 |ret=>exact fin h1
 |exit id=>exact h1.elim
end Go.Sx
