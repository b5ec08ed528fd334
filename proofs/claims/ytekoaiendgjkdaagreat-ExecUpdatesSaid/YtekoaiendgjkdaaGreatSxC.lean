import Derived.Test.YtekoaiendgjkdaaGreatSxB
import Derived.Test.YtekoaiendgjkdaaGreatRd
set_option linter.unusedVariables false
set_option linter.unusedSimpArgs false
set_option linter.unusedSectionVars false
namespace Go.Sx
inductive CC where
 |leaf (c:Code)
 |NT (a:Code) (b:CC)
 |NU (a:Code) (b:CC)
def CC.code:CC->Code
 | .leaf c=>c
 | .NT a b=>.seq a b.code
 | .NU a b=>.seq a b.code
def LM:List Bool->Code->CC
 | [],c=>.leaf c
 |t::r,c=>match c with
  | .seq a b=>match t with
   |true=>.NU a (LM r b)
   |false=>.NT a (LM r b)
  |c=>.leaf c
theorem pw:∀(l:List Bool) (c:Code),(LM l c).code=c
 | [],c=>rfl
 |t::r,c=>by
  cases c with
  |seq a b=>
   cases t with
   |true=>exact congrArg (Code.seq a) (pw r b)
   |false=>exact congrArg (Code.seq a) (pw r b)
  |_=>rfl
structure CL(ws:List Nat)(first:(Ex->Env->Loc->ad->Prop)->Prop)(rest:Env->Loc->ad->Prop)(K:Ex->Env->Loc->ad->Prop)(env:Env):Prop where
 out:∃I:Env->Loc->ad->Prop,first (fun e bX L' h'=>match e with
  | .normal=>∃ig L1,Wk bX L' ig L1/\I ig L1 h'
  |e=>K e bX L' h')/\∀bX L' h',I bX L' h'->rest bX L' h'
theorem CL.go{G:Type}{ws:List Nat}{first:(Ex->Env->Loc->ad->Prop)->Prop}{rest:Env->Loc->ad->Prop}{K:Ex->Env->Loc->ad->Prop}{env:Env}
 (vs:G->List (Nat×SV)) (lv:G->Loc) (I:G->ad->Prop)
 (h1:first (fun e bX L' h'=>match e with
  | .normal=>∃g,Wk bX L' (ue (Iq env ws) (vs g)) (lv g)/\I g h'
  |e=>K e bX L' h'))
 (h2:∀g h',I g h'->rest (ue (Iq env ws) (vs g)) (lv g) h'):CL ws first rest K env:=by
 refine⟨fun ig L1 h'=>∃g,ig=ue (Iq env ws) (vs g)/\L1=lv g/\I g h',?_,?_⟩
 ·have key:(fun(e:Ex) (bX:Env) (L':Loc) (h':ad)=>match e with
   | .normal=>∃g,Wk bX L' (ue (Iq env ws) (vs g)) (lv g)/\I g h'
   |e=>K e bX L' h')=(fun e bX L' h'=>match e with
   | .normal=>∃ig L1,Wk bX L' ig L1/\∃g,ig=ue (Iq env ws) (vs g)/\L1=lv g/\I g h'
   |e=>K e bX L' h'):=by
   funext e bX L' h';cases e with
   |normal=>
    apply propext;constructor
    ·rintro⟨g,h1,h2⟩;exact⟨_,_,h1,g,rfl,rfl,h2⟩
    ·rintro⟨_,_,h1,g,rfl,rfl,h2⟩;exact⟨g,h1,h2⟩
   |exit j=>rfl
   |ret=>rfl
  rw[key]at h1;exact h1
 ·rintro _ _ h' ⟨g,rfl,rfl,hI⟩;exact h2 g h' hI
def W7(A:Ar)(T:aU)(p:Unit->Program):CC->(Ex->Env->Loc->ad->Prop)->Env->Loc->ad->Prop
 | .leaf c,K,env,L,h=>sx A T p c K env L h
 | .NT a b,K,env,L,h=>sx A T p a (fun e env L h=>match e with
  | .normal=>W7 A T p b K env L h
  |e=>K e env L h) env L h
 | .NU a b,K,env,L,h=>CL (wr a) (fun K'=>sx A T p a K' env L h) (fun env L h=>W7 A T p b K env L h) K env
def X5(A:Ar)(T:aU)(p:Unit->Program)(c:CC)(ntmps:Nat)(rs:List ResultVar)(args:List Value)(h:ad)(R:Value->ad->Prop):Prop:=
 W7 A T p c (fun e env L h=>match e with
  | .exit _=>False
  |_=>mw T env L h rs (fun l=>jH l (fun v=>R v h))) (args.map SV.v++List.replicate (ntmps-args.length) (.v undef)) [] h
variable {ro:Option Nat}{n:Nat}
variable {P:Program}{T:aU}{A:Ar}[aV A]
variable {h0:ad}{w0:World}{β:Nat->Nat}{h:ad}{a:Act}{w:World}{env:Env}{L:Loc}{ds:List Deferred}
theorem Gm(hT:dU P T):∀(c:CC),dw T c.code=true->∀ {K:Ex->Env->Loc->ad->Prop} {Q:Exit->Act->World->Prop} {env:Env} {L:Loc} {h:ad} {β:Nat->Nat} {a:Act} {w:World},
 cC ds h0 w0 β env L h a w->W7 A T (fun _=>P) c K env L h->
 ki T ds h0 w0 Q->(∀e bX L' h' lZ a' w',K e bX L' h'->cC ds h0 w0 lZ bX L' h' a' w'->Q (LL e) a' w')->c.code.wpIn (FW ro) n P Q a w:=by
 intro c;induction c with
 |leaf c=>exact fun ho {K Q env L h β a w} hs hx iD hK=>fT hT c ho hs hx iD hK
 |NT c d ih=>
  intro ho K Q env L h β a w hs hx iD hK;simp only[CC.code,dw,Bool.and_eq_true]at ho;unfold W7 at hx;refine wpIn_seq (fT hT c ho.1 hs hx (fun c β env L h a w q1 q2=>iD c β env L h a w q1 q2) fun e bX L' h' lZ a' w' h1 h2=>?_);cases e with
  |normal=>exact ih ho.2 h2 h1 iD hK
  |exit id=>exact hK (.exit id) _ _ _ _ _ _ h1 h2
  |ret=>exact hK .ret _ _ _ _ _ _ h1 h2
 |NU c d ih=>
  intro ho K Q env L h β a w hs hx iD hK;simp only[CC.code,dw,Bool.and_eq_true]at ho;unfold W7 at hx;obtain⟨I,hf,hr⟩:=hx.out;refine wpIn_seq (fT hT c ho.1 hs hf (fun c β env L h a w q1 q2=>iD c β env L h a w q1 q2) fun e bX L' h' lZ a' w' h1 h2=>?_);cases e with
  |normal=>obtain⟨ig,L1,Zd,hI⟩:=h1;exact ih ho.2 (h2.wk Zd) (hr _ _ _ hI) iD hK
  |exit id=>exact hK (.exit id) _ _ _ _ _ _ h1 h2
  |ret=>exact hK .ret _ _ _ _ _ _ h1 h2
theorem yJ(A:Ar)[aV A](l:List Bool)(hT:dU P T){f:FuncId}{fn:Func}{c:Code}(hf:P.funcs[f]? =some fn)(hb:fn.body=some c)(ho:dw T c=true){args:List Value}{h:ad}{R:Value->ad->Prop}
 (hx:X5 A T (fun _=>P) (LM l c) fn.ntmps fn.results.toList args h R) (rF:∀c s h,¬T.kp c s h:=by exact fun _ _ _ hc=>hc):IC (fun _=>P) f args h R:=by
 refine⟨fun w hw=>?_⟩;refine calls_of_wp hf hb (wpIn_wide (n:=0).1 ?_);have hs:=gY (f:=f) (fn:=fn) (args:=args) hw;rw[<-pw l c];refine Gm (A:=A) (ro:=none) (n:=0) hT (LM l c) (by rw[pw];exact ho) hs hx (ki.none rF) fun e bX L' h' lZ a' w' h1 h2=>?_;have fin:mw T bX L' h' fn.results.toList (fun l=>jH l (fun v=>R v h'))->a'.defers=[]/\∃v,(results fn a'.tmps).run P w'=.ok v w'/\∃v1 h1,Ending.returned v=.returned v1/\R v1 h1/\aY h w h1 w':=fun hr=>by
  obtain⟨v,h3,h4,h5⟩:=pd hT h2 hr;exact⟨h2.defers,v,h3,v,h',rfl,h4,h5⟩
 cases e with
 |normal=>exact fin h1
 |ret=>exact fin h1
 |exit id=>exact h1.elim
end Go.Sx
