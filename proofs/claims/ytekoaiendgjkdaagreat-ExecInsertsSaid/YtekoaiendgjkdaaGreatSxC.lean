import Derived.Test.YtekoaiendgjkdaaGreatSxB
import Derived.Test.YtekoaiendgjkdaaGreatRd
set_option linter.unusedVariables false
set_option linter.unusedSimpArgs false
set_option linter.unusedSectionVars false
namespace Go.Sx
inductive CC where
 |leaf (c:Code)
 |J0 (a:Code) (b:CC)
 |J1 (a:Code) (b:CC)
def CC.code:CC->Code
 | .leaf c=>c
 | .J0 a b=>.seq a b.code
 | .J1 a b=>.seq a b.code
def Il:List Bool->Code->CC
 | [],c=>.leaf c
 |t::r,c=>match c with
  | .seq a b=>match t with
   |true=>.J1 a (Il r b)
   |false=>.J0 a (Il r b)
  |c=>.leaf c
theorem nT:∀(l:List Bool) (c:Code),(Il l c).code=c
 | [],c=>rfl
 |t::r,c=>by
  cases c with
  |seq a b=>
   cases t with
   |true=>exact congrArg (Code.seq a) (nT r b)
   |false=>exact congrArg (Code.seq a) (nT r b)
  |_=>rfl
structure Aq(ws:List Nat)(first:(Ex->Env->Loc->ad->Prop)->Prop)(rest:Env->Loc->ad->Prop)(K:Ex->Env->Loc->ad->Prop)(env:Env):Prop where
 out:∃I:Env->Loc->ad->Prop,first (fun e bJ L' h'=>match e with
  | .normal=>∃gh L1,Wk bJ L' gh L1/\I gh L1 h'
  |e=>K e bJ L' h')/\∀bJ L' h',I bJ L' h'->rest bJ L' h'
theorem Aq.go{G:Type}{ws:List Nat}{first:(Ex->Env->Loc->ad->Prop)->Prop}{rest:Env->Loc->ad->Prop}{K:Ex->Env->Loc->ad->Prop}{env:Env}
 (vs:G->List (Nat×SV)) (lv:G->Loc) (I:G->ad->Prop)
 (h1:first (fun e bJ L' h'=>match e with
  | .normal=>∃g,Wk bJ L' (rQ (EV env ws) (vs g)) (lv g)/\I g h'
  |e=>K e bJ L' h'))
 (h2:∀g h',I g h'->rest (rQ (EV env ws) (vs g)) (lv g) h'):Aq ws first rest K env:=by
 refine⟨fun gh L1 h'=>∃g,gh=rQ (EV env ws) (vs g)/\L1=lv g/\I g h',?_,?_⟩
 ·have key:(fun(e:Ex) (bJ:Env) (L':Loc) (h':ad)=>match e with
   | .normal=>∃g,Wk bJ L' (rQ (EV env ws) (vs g)) (lv g)/\I g h'
   |e=>K e bJ L' h')=(fun e bJ L' h'=>match e with
   | .normal=>∃gh L1,Wk bJ L' gh L1/\∃g,gh=rQ (EV env ws) (vs g)/\L1=lv g/\I g h'
   |e=>K e bJ L' h'):=by
   funext e bJ L' h';cases e with
   |normal=>
    apply propext;constructor
    ·rintro⟨g,h1,h2⟩;exact⟨_,_,h1,g,rfl,rfl,h2⟩
    ·rintro⟨_,_,h1,g,rfl,rfl,h2⟩;exact⟨g,h1,h2⟩
   |exit j=>rfl
   |ret=>rfl
  rw[key]at h1;exact h1
 ·rintro _ _ h' ⟨g,rfl,rfl,hI⟩;exact h2 g h' hI
def Ru(A:Ar)(T:aQ)(p:Unit->Program):CC->(Ex->Env->Loc->ad->Prop)->Env->Loc->ad->Prop
 | .leaf c,K,env,L,h=>sx A T p c K env L h
 | .J0 a b,K,env,L,h=>sx A T p a (fun e env L h=>match e with
  | .normal=>Ru A T p b K env L h
  |e=>K e env L h) env L h
 | .J1 a b,K,env,L,h=>Aq (wr a) (fun K'=>sx A T p a K' env L h) (fun env L h=>Ru A T p b K env L h) K env
def Sq(A:Ar)(T:aQ)(p:Unit->Program)(c:CC)(ntmps:Nat)(rs:List ResultVar)(args:List Value)(h:ad)(R:Value->ad->Prop):Prop:=
 Ru A T p c (fun e env L h=>match e with
  | .exit _=>False
  |_=>ll T env L h rs (fun l=>iZ l (fun v=>R v h))) (args.map SV.v++List.replicate (ntmps-args.length) (.v undef)) [] h
variable {ro:Option Nat}{n:Nat}
variable {P:Program}{T:aQ}{A:Ar}[aP A]
variable {h0:ad}{w0:World}{β:Nat->Nat}{h:ad}{a:Act}{w:World}{env:Env}{L:Loc}{ds:List Deferred}
theorem Dd(hT:dx P T):∀(c:CC),da T c.code=true->∀ {K:Ex->Env->Loc->ad->Prop} {Q:Exit->Act->World->Prop} {env:Env} {L:Loc} {h:ad} {β:Nat->Nat} {a:Act} {w:World},
 bZ ds h0 w0 β env L h a w->Ru A T (fun _=>P) c K env L h->
 jB T ds h0 w0 Q->(∀e bJ L' h' kY a' w',K e bJ L' h'->bZ ds h0 w0 kY bJ L' h' a' w'->Q (Ik e) a' w')->c.code.wpIn (FW ro) n P Q a w:=by
 intro c;induction c with
 |leaf c=>exact fun ho {K Q env L h β a w} hs hx gN hK=>eV hT c ho hs hx gN hK
 |J0 c d ih=>
  intro ho K Q env L h β a w hs hx gN hK;simp only[CC.code,da,Bool.and_eq_true]at ho;unfold Ru at hx;refine wpIn_seq (eV hT c ho.1 hs hx (fun c β env L h a w q1 q2=>gN c β env L h a w q1 q2) fun e bJ L' h' kY a' w' h1 h2=>?_);cases e with
  |normal=>exact ih ho.2 h2 h1 gN hK
  |exit id=>exact hK (.exit id) _ _ _ _ _ _ h1 h2
  |ret=>exact hK .ret _ _ _ _ _ _ h1 h2
 |J1 c d ih=>
  intro ho K Q env L h β a w hs hx gN hK;simp only[CC.code,da,Bool.and_eq_true]at ho;unfold Ru at hx;obtain⟨I,hf,hr⟩:=hx.out;refine wpIn_seq (eV hT c ho.1 hs hf (fun c β env L h a w q1 q2=>gN c β env L h a w q1 q2) fun e bJ L' h' kY a' w' h1 h2=>?_);cases e with
  |normal=>obtain⟨gh,L1,Ts,hI⟩:=h1;exact ih ho.2 (h2.wk Ts) (hr _ _ _ hI) gN hK
  |exit id=>exact hK (.exit id) _ _ _ _ _ _ h1 h2
  |ret=>exact hK .ret _ _ _ _ _ _ h1 h2
theorem wz(A:Ar)[aP A](l:List Bool)(hT:dx P T){f:FuncId}{fn:Func}{c:Code}(hf:P.funcs[f]? =some fn)(hb:fn.body=some c)(ho:da T c=true){args:List Value}{h:ad}{R:Value->ad->Prop}
 (hx:Sq A T (fun _=>P) (Il l c) fn.ntmps fn.results.toList args h R) (pO:∀c s h,¬T.kp c s h:=by exact fun _ _ _ hc=>hc):E5 (fun _=>P) f args h R:=by
 refine⟨fun w hw=>?_⟩;refine calls_of_wp hf hb (wpIn_wide (n:=0).1 ?_);have hs:=fW (f:=f) (fn:=fn) (args:=args) hw;rw[<-nT l c];refine Dd (A:=A) (ro:=none) (n:=0) hT (Il l c) (by rw[nT];exact ho) hs hx (jB.none pO) fun e bJ L' h' kY a' w' h1 h2=>?_;have fin:ll T bJ L' h' fn.results.toList (fun l=>iZ l (fun v=>R v h'))->a'.defers=[]/\∃v,(results fn a'.tmps).run P w'=.ok v w'/\∃v1 h1,Ending.returned v=.returned v1/\R v1 h1/\aR h w h1 w':=fun hr=>by
  obtain⟨v,h3,h4,h5⟩:=nI hT h2 hr;exact⟨h2.defers,v,h3,v,h',rfl,h4,h5⟩
 cases e with
 |normal=>exact fin h1
 |ret=>exact fin h1
 |exit id=>exact h1.elim
end Go.Sx
