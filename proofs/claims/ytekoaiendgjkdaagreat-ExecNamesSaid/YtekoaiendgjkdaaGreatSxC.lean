import Derived.Test.YtekoaiendgjkdaaGreatSxB
import Derived.Test.YtekoaiendgjkdaaGreatRd
set_option linter.unusedVariables false
set_option linter.unusedSimpArgs false
set_option linter.unusedSectionVars false
namespace Go.Sx
inductive CC where
 |leaf (c:Code)
 |LR (a:Code) (b:CC)
 |LS (a:Code) (b:CC)
def CC.code:CC->Code
 | .leaf c=>c
 | .LR a b=>.seq a b.code
 | .LS a b=>.seq a b.code
def JV:List Bool->Code->CC
 | [],c=>.leaf c
 |t::r,c=>match c with
  | .seq a b=>match t with
   |true=>.LS a (JV r b)
   |false=>.LR a (JV r b)
  |c=>.leaf c
theorem oP:∀(l:List Bool) (c:Code),(JV l c).code=c
 | [],c=>rfl
 |t::r,c=>by
  cases c with
  |seq a b=>
   cases t with
   |true=>exact congrArg (Code.seq a) (oP r b)
   |false=>exact congrArg (Code.seq a) (oP r b)
  |_=>rfl
structure Bj(ws:List Nat)(first:(Ex->Env->Loc->ad->Prop)->Prop)(rest:Env->Loc->ad->Prop)(K:Ex->Env->Loc->ad->Prop)(env:Env):Prop where
 out:∃I:Env->Loc->ad->Prop,first (fun e bR L' h'=>match e with
  | .normal=>∃gI L1,Wk bR L' gI L1/\I gI L1 h'
  |e=>K e bR L' h')/\∀bR L' h',I bR L' h'->rest bR L' h'
theorem Bj.go{G:Type}{ws:List Nat}{first:(Ex->Env->Loc->ad->Prop)->Prop}{rest:Env->Loc->ad->Prop}{K:Ex->Env->Loc->ad->Prop}{env:Env}
 (vs:G->List (Nat×SV)) (lv:G->Loc) (I:G->ad->Prop)
 (h1:first (fun e bR L' h'=>match e with
  | .normal=>∃g,Wk bR L' (tE (GA env ws) (vs g)) (lv g)/\I g h'
  |e=>K e bR L' h'))
 (h2:∀g h',I g h'->rest (tE (GA env ws) (vs g)) (lv g) h'):Bj ws first rest K env:=by
 refine⟨fun gI L1 h'=>∃g,gI=tE (GA env ws) (vs g)/\L1=lv g/\I g h',?_,?_⟩
 ·have key:(fun(e:Ex) (bR:Env) (L':Loc) (h':ad)=>match e with
   | .normal=>∃g,Wk bR L' (tE (GA env ws) (vs g)) (lv g)/\I g h'
   |e=>K e bR L' h')=(fun e bR L' h'=>match e with
   | .normal=>∃gI L1,Wk bR L' gI L1/\∃g,gI=tE (GA env ws) (vs g)/\L1=lv g/\I g h'
   |e=>K e bR L' h'):=by
   funext e bR L' h';cases e with
   |normal=>
    apply propext;constructor
    ·rintro⟨g,h1,h2⟩;exact⟨_,_,h1,g,rfl,rfl,h2⟩
    ·rintro⟨_,_,h1,g,rfl,rfl,h2⟩;exact⟨g,h1,h2⟩
   |exit j=>rfl
   |ret=>rfl
  rw[key]at h1;exact h1
 ·rintro _ _ h' ⟨g,rfl,rfl,hI⟩;exact h2 g h' hI
def TD(A:Ar)(T:aS)(p:Unit->Program):CC->(Ex->Env->Loc->ad->Prop)->Env->Loc->ad->Prop
 | .leaf c,K,env,L,h=>sx A T p c K env L h
 | .LR a b,K,env,L,h=>sx A T p a (fun e env L h=>match e with
  | .normal=>TD A T p b K env L h
  |e=>K e env L h) env L h
 | .LS a b,K,env,L,h=>Bj (wr a) (fun K'=>sx A T p a K' env L h) (fun env L h=>TD A T p b K env L h) K env
def UN(A:Ar)(T:aS)(p:Unit->Program)(c:CC)(ntmps:Nat)(rs:List ResultVar)(args:List Value)(h:ad)(R:Value->ad->Prop):Prop:=
 TD A T p c (fun e env L h=>match e with
  | .exit _=>False
  |_=>lQ T env L h rs (fun l=>jr l (fun v=>R v h))) (args.map SV.v++List.replicate (ntmps-args.length) (.v undef)) [] h
variable {ro:Option Nat}{n:Nat}
variable {P:Program}{T:aS}{A:Ar}[aX A]
variable {h0:ad}{w0:World}{β:Nat->Nat}{h:ad}{a:Act}{w:World}{env:Env}{L:Loc}{ds:List Deferred}
theorem Er(hT:dE P T):∀(c:CC),da T c.code=true->∀ {K:Ex->Env->Loc->ad->Prop} {Q:Exit->Act->World->Prop} {env:Env} {L:Loc} {h:ad} {β:Nat->Nat} {a:Act} {w:World},
 bZ ds h0 w0 β env L h a w->TD A T (fun _=>P) c K env L h->
 jY T ds h0 w0 Q->(∀e bR L' h' lH a' w',K e bR L' h'->bZ ds h0 w0 lH bR L' h' a' w'->Q (JU e) a' w')->c.code.wpIn (FW ro) n P Q a w:=by
 intro c;induction c with
 |leaf c=>exact fun ho {K Q env L h β a w} hs hx gT hK=>fC hT c ho hs hx gT hK
 |LR c d ih=>
  intro ho K Q env L h β a w hs hx gT hK;simp only[CC.code,da,Bool.and_eq_true]at ho;unfold TD at hx;refine wpIn_seq (fC hT c ho.1 hs hx (fun c β env L h a w q1 q2=>gT c β env L h a w q1 q2) fun e bR L' h' lH a' w' h1 h2=>?_);cases e with
  |normal=>exact ih ho.2 h2 h1 gT hK
  |exit id=>exact hK (.exit id) _ _ _ _ _ _ h1 h2
  |ret=>exact hK .ret _ _ _ _ _ _ h1 h2
 |LS c d ih=>
  intro ho K Q env L h β a w hs hx gT hK;simp only[CC.code,da,Bool.and_eq_true]at ho;unfold TD at hx;obtain⟨I,hf,hr⟩:=hx.out;refine wpIn_seq (fC hT c ho.1 hs hf (fun c β env L h a w q1 q2=>gT c β env L h a w q1 q2) fun e bR L' h' lH a' w' h1 h2=>?_);cases e with
  |normal=>obtain⟨gI,L1,V3,hI⟩:=h1;exact ih ho.2 (h2.wk V3) (hr _ _ _ hI) gT hK
  |exit id=>exact hK (.exit id) _ _ _ _ _ _ h1 h2
  |ret=>exact hK .ret _ _ _ _ _ _ h1 h2
theorem xN(A:Ar)[aX A](l:List Bool)(hT:dE P T){f:FuncId}{fn:Func}{c:Code}(hf:P.funcs[f]? =some fn)(hb:fn.body=some c)(ho:da T c=true){args:List Value}{h:ad}{R:Value->ad->Prop}
 (hx:UN A T (fun _=>P) (JV l c) fn.ntmps fn.results.toList args h R) (re:∀c s h,¬T.kp c s h:=by exact fun _ _ _ hc=>hc):GK (fun _=>P) f args h R:=by
 refine⟨fun w hw=>?_⟩;refine calls_of_wp hf hb (wpIn_wide (n:=0).1 ?_);have hs:=gD (f:=f) (fn:=fn) (args:=args) hw;rw[<-oP l c];refine Er (A:=A) (ro:=none) (n:=0) hT (JV l c) (by rw[oP];exact ho) hs hx (jY.none re) fun e bR L' h' lH a' w' h1 h2=>?_;have fin:lQ T bR L' h' fn.results.toList (fun l=>jr l (fun v=>R v h'))->a'.defers=[]/\∃v,(results fn a'.tmps).run P w'=.ok v w'/\∃v1 h1,Ending.returned v=.returned v1/\R v1 h1/\aY h w h1 w':=fun hr=>by
  obtain⟨v,h3,h4,h5⟩:=oG hT h2 hr;exact⟨h2.defers,v,h3,v,h',rfl,h4,h5⟩
 cases e with
 |normal=>exact fin h1
 |ret=>exact fin h1
 |exit id=>exact h1.elim
end Go.Sx
