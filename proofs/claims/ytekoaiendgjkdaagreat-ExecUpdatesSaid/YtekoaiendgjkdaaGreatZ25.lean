/-
  ExecUpdates is true: whatever acts made the rows, the update puts all rows at their new places at once, or is refused where there would be too many changes. No conditions.
-/
import Derived.Test.YtekoaiendgjkdaaGreatWC
import Derived.Test.YtekoaiendgjkdaaGreatJU
import Derived.Test.YtekoaiendgjkdaaGreatF4b
import Derived.SizedLaws
set_option linter.unusedVariables false
set_option linter.unusedSimpArgs false
set_option linter.unusedSectionVars false
set_option maxRecDepth 100000
namespace Go.Proofs.YtekoaiendgjkdaaGreat.execUpdates
open Go.ChangeShapes Go.WideShapes Go.ChangeAt Go.RowKit Go.Sx Go.S
theorem own:ownKnob Tryz.prog.godebug=none:=by kernel_rfl
theorem b24:Tryz.prog.bytesOf 24=32:=by kernel_rfl
theorem lifted(os:Os)(started:os.Started)(H:Type)(enc:TypeId×Value->H):
 ReturnsInHanded {} Tryz.checked os 7 .any (Rows.execUpdatesSpec.pre6 enc Tryz.prog Tryz.f7 Rows.execUpdatesRow.domain false) (Rows.execUpdatesSpec.post enc Tryz.prog Tryz.f7 false true false false):=by
 refine returnsInHanded_of_change_sized (C:=Tryz.checked) own started (by kernel_rfl) Tryz.func7
  (ChangeSpec.witness6 (enc:=enc) (C:=Tryz.checked) false ⟨#[],#[.slice none 0 0,.int .i64 0],[]⟩ 8 (by kernel_rfl) (by kernel_rfl) (by kernel_rfl) (by kernel_rfl)) ?_
 intro W base args ds gs before KI hW hcnd kf _;have Ha:∀(j:Nat) t v,Tryz.f7.params[j]? =some t->args[j]? =some v->Value.okWide Tryz.prog W .any base t v:=KI;have hW':=hW;obtain⟨p,q,XD,hV,rfl,hfz,MV⟩:=hW;have hA:DataW.TrodAll enc Tryz.prog W 0 (fun _=>true) true Tryz.f7.params.toList args.toList ds p:=XD;rw[Tryz.params7]at hA Ha;obtain⟨v0,vs0,d0,ds0,p0,q0,Z8,rfl,rfl,h0,r0⟩:=trodAll_cons hA;obtain⟨v1,vs1,d1,ds1,p1,q1,rfl,rfl,rfl,h1,r1⟩:=trodAll_cons r0;obtain⟨rfl,rfl,rfl⟩:=trodAll_nil r1;obtain rfl:args= #[v0,v1]:=by cases args;simp_all
 obtain⟨rfl,rfl⟩:=trodVars_none hV;obtain⟨x0,y0⟩:=yY h0 (okWide_slice Tryz.underlying22 (Ha 0 22 v0 rfl rfl)) (fun elems spare hd=>by
  have:=sized_slice (P:=Tryz.prog) (ts:=Tryz.f7.params.toList) kf (j:=0) (t:=22) (e:=24) (elems:=elems) (spare:=spare) (by rw[Tryz.params7];rfl) (by rw[hd];rfl) Tryz.underlying22;rw[b24]at this;have h2:=reachBytes_lt;omega)
 obtain⟨s0,l0,c0,rfl⟩:=y0.form;obtain⟨x1,rfl,e1,-,w1⟩:=open_int Tryz.underlying3 (Ha 1 3 v1 rfl rfl) h1;have g1:-2^63<=x1/\x1<2^63:=GY w1;refine(yA (updatesG y0 x1)).mono fun e W' ⟨he,h1,h2,h3⟩=>?_;subst he;exact⟨_,rfl,yf (by kernel_rfl) (by kernel_rfl) (by kernel_rfl) (by kernel_rfl) (by kernel_rfl) Tryz.underlying4 hW' rfl rfl h1 h2 h3⟩
theorem over:Rows.execUpdatesRow.holds Tryz.pinned (OpenSpec.ofChange Rows.execUpdatesSpec):=
 OpenClaim.holds_of_wide 7 Tryz.f7 rfl rfl rfl rfl rfl rfl rfl ⟨rfl,rfl,rfl,rfl,rfl⟩ rfl rfl rfl rfl rfl (by kernel_rfl) Tryz.func7 jf
  (of_decide_eq_true (by kernel_rfl)) (by unfold Func.isWrapper;first| (rw[if_pos (by decide+kernel)];kernel_rfl) | (rw[if_neg (by decide+kernel)];exact⟨rfl,rfl⟩))
  (fun os started H enc _=>lifted os started H enc)
theorem proved:Rows.ExecUpdatesSaid:=
 over
end Go.Proofs.YtekoaiendgjkdaaGreat.execUpdates
