import Derived.Test.YtekoaiendgjkdaaGreatSxB
import Derived.Test.YtekoaiendgjkdaaGreatRd
set_option linter.unusedVariables false
set_option linter.unusedSimpArgs false
set_option linter.unusedSectionVars false
namespace Go.Sx
inductive CC where
 |leaf (c:Code)
 |NT (a:Code) (b:CC)
 |NU (a:Code) (b:CC)
def CC.code:CC->Code
 | .leaf c=>c
 | .NT a b=>.seq a b.code
 | .NU a b=>.seq a b.code
def LM:List Bool->Code->CC
 | [],c=>.leaf c
 |t::r,c=>match c with
  | .seq a b=>match t with
   |true=>.NU a (LM r b)
   |false=>.NT a (LM r b)
  |c=>.leaf c
structure CL(ws:List Nat)(first:(Ex->Env->Loc->ad->Prop)->Prop)(rest:Env->Loc->ad->Prop)(K:Ex->Env->Loc->ad->Prop)(env:Env):Prop where
 out:∃I:Env->Loc->ad->Prop,first (fun e bX L' h'=>match e with
  | .normal=>∃ig L1,Wk bX L' ig L1/\I ig L1 h'
  |e=>K e bX L' h')/\∀bX L' h',I bX L' h'->rest bX L' h'
def W7(A:Ar)(T:aU)(p:Unit->Program):CC->(Ex->Env->Loc->ad->Prop)->Env->Loc->ad->Prop
 | .leaf c,K,env,L,h=>sx A T p c K env L h
 | .NT a b,K,env,L,h=>sx A T p a (fun e env L h=>match e with
  | .normal=>W7 A T p b K env L h
  |e=>K e env L h) env L h
 | .NU a b,K,env,L,h=>CL (wr a) (fun K'=>sx A T p a K' env L h) (fun env L h=>W7 A T p b K env L h) K env
def X5(A:Ar)(T:aU)(p:Unit->Program)(c:CC)(ntmps:Nat)(rs:List ResultVar)(args:List Value)(h:ad)(R:Value->ad->Prop):Prop:=
 W7 A T p c (fun e env L h=>match e with
  | .exit _=>False
  |_=>mw T env L h rs (fun l=>jH l (fun v=>R v h))) (args.map SV.v++List.replicate (ntmps-args.length) (.v undef)) [] h
variable {ro:Option Nat}{n:Nat}
variable {P:Program}{T:aU}{A:Ar}[aV A]
variable {h0:ad}{w0:World}{β:Nat->Nat}{h:ad}{a:Act}{w:World}{env:Env}{L:Loc}{ds:List Deferred}
end Go.Sx
