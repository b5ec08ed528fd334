/-
  ExecGroups is true: whatever acts made the rows, groups stand in the order of their values, each once, turned about the other way, with the count and the least of their rows. No conditions.
-/
import Derived.Test.YtekoaiendgjkdaaGreatWL
import Derived.Test.YtekoaiendgjkdaaGreatJG
import Derived.Test.YtekoaiendgjkdaaGreatF4b
import Derived.SizedLaws
set_option linter.unusedVariables false
set_option linter.unusedSimpArgs false
set_option linter.unusedSectionVars false
set_option maxRecDepth 100000
namespace Go.Proofs.YtekoaiendgjkdaaGreat.execGroups
open Go.ChangeShapes Go.WideShapes Go.ChangeAt Go.RowKit Go.Sx Go.S
theorem own:ownKnob Tryz.prog.godebug=none:=by kernel_rfl
theorem lXL:Tryz.prog.bytesOf 24=32:=by kernel_rfl
theorem lifted(os:Os)(started:os.Started)(H:Type)(enc:TypeId×Value->H):
 ReturnsInHanded {} Tryz.checked os 10 .any (Rows.execGroupsSpec.pre6 enc Tryz.prog Tryz.f10 Rows.execGroupsRow.domain false) (Rows.execGroupsSpec.post enc Tryz.prog Tryz.f10 false true false false):=by
 refine returnsInHanded_of_change_sized (C:=Tryz.checked) own started (by kernel_rfl) Tryz.func10
  (ChangeSpec.witness6 (enc:=enc) (C:=Tryz.checked) false ⟨#[],#[.slice none 0 0],[]⟩ 8 (by kernel_rfl) (by kernel_rfl) (by kernel_rfl) (by kernel_rfl)) ?_
 intro W base args ds gs before fXb hW kKO mX _;have dJJ:∀(j:Nat) t v,Tryz.f10.params[j]? =some t->args[j]? =some v->Value.okWide Tryz.prog W .any base t v:=fXb;have iXZ:=hW;obtain⟨p,q,bQc,hV,rfl,lKh,KL⟩:=hW;have hA:DataW.TrodAll enc Tryz.prog W 0 (fun _=>true) true Tryz.f10.params.toList args.toList ds p:=bQc;rw[Tryz.params10]at hA dJJ;obtain⟨v0,lZW,d0,gKI,p0,q0,jZh,rfl,rfl,h0,r0⟩:=trodAll_cons hA;obtain⟨rfl,rfl,rfl⟩:=trodAll_nil r0;obtain rfl:args= #[v0]:=by cases args;simp_all
 obtain⟨rfl,rfl⟩:=trodVars_none hV;obtain⟨x0,y0⟩:=ZV h0 (okWide_slice Tryz.underlying22 (dJJ 0 22 v0 rfl rfl)) (fun elems spare hd=>by
  have:=sized_slice (P:=Tryz.prog) (ts:=Tryz.f10.params.toList) mX (j:=0) (t:=22) (e:=24) (elems:=elems) (spare:=spare) (by rw[Tryz.params10];rfl) (by rw[hd];rfl) Tryz.underlying22;rw[lXL]at this;have h2:=reachBytes_lt;omega)
 obtain⟨s0,l0,c0,rfl⟩:=y0.form;refine(YB (gKp y0)).mono fun e W' ⟨he,h1,h2,h3⟩=>?_;subst he;exact⟨_,rfl,Ya (by kernel_rfl) (by kernel_rfl) (by kernel_rfl) (by kernel_rfl) (by kernel_rfl) Tryz.underlying4 iXZ rfl rfl h1 h2 h3⟩
theorem over:Rows.execGroupsRow.holds Tryz.pinned (OpenSpec.ofChange Rows.execGroupsSpec):=
 OpenClaim.holds_of_wide 10 Tryz.f10 rfl rfl rfl rfl rfl rfl rfl ⟨rfl,rfl,rfl,rfl,rfl⟩ rfl rfl rfl rfl rfl (by kernel_rfl) Tryz.func10 jf
  (mQB (by kernel_rfl)) (by unfold Func.isWrapper;first| (rw[if_pos (by decide+kernel)];kernel_rfl) | (rw[if_neg (by decide+kernel)];exact⟨rfl,rfl⟩))
  (fun os started H enc _=>lifted os started H enc)
theorem proved:Rows.ExecGroupsSaid:=
 over
end Go.Proofs.YtekoaiendgjkdaaGreat.execGroups
