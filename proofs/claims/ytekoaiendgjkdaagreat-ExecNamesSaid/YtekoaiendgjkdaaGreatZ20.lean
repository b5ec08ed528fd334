/-
  ExecNames is true: whichever of the ten statements is picked, it is refused with the error that belongs to it, and no rows are told. No conditions.
-/
import Derived.Test.YtekoaiendgjkdaaGreatX
import Derived.Test.YtekoaiendgjkdaaGreatF4
import Derived.Test.YtekoaiendgjkdaaGreatJN
import Derived.SizedLaws
set_option linter.unusedVariables false
set_option linter.unusedSimpArgs false
set_option linter.unusedSectionVars false
set_option maxRecDepth 100000
namespace Go.Proofs.YtekoaiendgjkdaaGreat.execNames
open Go.ChangeShapes Go.WideShapes Go.ChangeAt Go.RowKit Go.Sx Go.S
theorem own:ownKnob Tryz.prog.godebug=none:=by kernel_rfl
theorem lifted(os:Os)(started:os.Started)(H:Type)(enc:TypeId×Value->H):
 ReturnsInHanded {} Tryz.checked os 12 .any (Rows.execNamesSpec.pre6 enc Tryz.prog Tryz.f12 Rows.execNamesRow.domain false) (Rows.execNamesSpec.post enc Tryz.prog Tryz.f12 false true false false):=by
 refine returnsInHanded_of_change (C:=Tryz.checked) own started (by kernel_rfl) Tryz.func12
  (ChangeSpec.witness6 (enc:=enc) (C:=Tryz.checked) false ⟨#[],#[.int .i64 0],[]⟩ 8 (by kernel_rfl) (by kernel_rfl) (by kernel_rfl) (by kernel_rfl)) ?_
 intro W base args ds gs before V8 hW hcnd _;have V9:∀(j:Nat) t v,Tryz.f12.params[j]? =some t->args[j]? =some v->Value.okWide Tryz.prog W .any base t v:=V8;have hW':=hW;obtain⟨p,q,hA0,hV,rfl,hfz,MT⟩:=hW;have hA:DataW.TrodAll enc Tryz.prog W 0 (fun _=>true) true Tryz.f12.params.toList args.toList ds p:=hA0;rw[Tryz.params12]at hA V9;obtain⟨v0,vs0,d0,ds0,p0,q0,hargs,rfl,rfl,h0,r0⟩:=trodAll_cons hA;obtain⟨rfl,rfl,rfl⟩:=trodAll_nil r0;obtain rfl:args= #[v0]:=by cases args;simp_all
 obtain⟨rfl,rfl⟩:=trodVars_none hV;obtain⟨x0,rfl,e0,-,w0⟩:=open_int Tryz.underlying3 (V9 0 3 v0 rfl rfl) h0;have g0:-2^63<=x0/\x0<2^63:=E5 w0;refine(EY (Mi x0 _)).mono fun e W' ⟨he,h1,h2,h3⟩=>?_;subst he;exact⟨_,rfl,ED (by kernel_rfl) (by kernel_rfl) (by kernel_rfl) (by kernel_rfl) (by kernel_rfl) Tryz.underlying4 hW' rfl rfl h1 h2 h3⟩
theorem over:Rows.execNamesRow.holds Tryz.pinned (OpenSpec.ofChange Rows.execNamesSpec):=
 OpenClaim.holds_of_wide 12 Tryz.f12 rfl rfl rfl rfl rfl rfl rfl ⟨rfl,rfl,rfl,rfl,rfl⟩ rfl rfl rfl rfl rfl (by kernel_rfl) Tryz.func12 jf
  (of_decide_eq_true (by kernel_rfl)) (by unfold Func.isWrapper;first| (rw[if_pos (by decide+kernel)];kernel_rfl) | (rw[if_neg (by decide+kernel)];exact⟨rfl,rfl⟩))
  (fun os started H enc _=>lifted os started H enc)
theorem proved:Rows.ExecNamesSaid:=
 over
end Go.Proofs.YtekoaiendgjkdaaGreat.execNames
