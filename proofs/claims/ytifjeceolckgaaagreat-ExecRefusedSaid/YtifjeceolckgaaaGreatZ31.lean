/-
  ExecRefused is true: whatever acts made the rows, a statement that is refused changes no row, and tells none. No conditions.
-/
import Derived.Test.YtifjeceolckgaaaGreatWP
import Derived.Test.YtifjeceolckgaaaGreatJR
import Derived.Test.YtifjeceolckgaaaGreatF4c
set_option linter.all false
set_option maxRecDepth 100000
namespace Go.Proofs.YtifjeceolckgaaaGreat.execRefused
open Go.ChangeShapes Go.WideShapes Go.ChangeAt Go.RowKit Go.Sx Go.S
theorem own:ownKnob Tryz.prog.godebug=none:=by kernel_rfl
theorem lXL:Tryz.prog.bytesOf 24=32:=by kernel_rfl
theorem lifted(o:Os)(s:o.Started)(H:Type)(enc:TypeId×Value->H):
 ReturnsInHanded {} Tryz.checked o 3 .any (Rows.execRefusedSpec.pre6 enc Tryz.prog Tryz.f3 Rows.execRefusedRow.domain false) (Rows.execRefusedSpec.post enc Tryz.prog Tryz.f3 false true false false):=by
 refine returnsInHanded_of_change_sized (C:=Tryz.checked) own s (by kernel_rfl) Tryz.func3
  (ChangeSpec.witness6 (enc:=enc) (C:=Tryz.checked) false ⟨#[],#[.slice none 0 0,.agg #[.int .i64 0,.int .i64 0,.int .i64 0,.int .i64 0]],[]⟩ 8 (by kernel_rfl) (by kernel_rfl) (by kernel_rfl) (by kernel_rfl)) ?_
 intro W base args ds E b f c O X _;have d:∀(j:Nat) t v,Tryz.f3.params[j]? =some t->args[j]? =some v->Value.okWide Tryz.prog W .any base t v:=f;have i:=c;obtain⟨p,q,Q,V,rfl,m,L⟩:=c;have A:DataW.TrodAll enc Tryz.prog W 0 (λ_=>true) true Tryz.f3.params.toList args.toList ds p:=Q;rw[Tryz.params3]at A d;obtain⟨v0,r,d0,K,G,J,Z,rfl,rfl,h0,u⟩:=trodAll_cons A;obtain⟨g,n,D,l,I,M,rfl,rfl,rfl,h,w⟩:=trodAll_cons u;obtain⟨rfl,rfl,rfl⟩:=trodAll_nil w;obtain rfl:args= #[v0,g]:=by cases args;simp_all
 obtain⟨rfl,rfl⟩:=trodVars_none V;obtain⟨R,y⟩:=ZV h0 (okWide_slice Tryz.underlying22 (d 0 22 v0 rfl rfl)) (λelems spare hd=>by
  have:=sized_slice (P:=Tryz.prog) (ts:=Tryz.f3.params.toList) X (j:=0) (t:=22) (e:=24) (elems:=elems) (spare:=spare) (by rw[Tryz.params3];rfl) (by rw[hd];rfl) Tryz.underlying22;rw[lXL]at this;have a:=reachBytes_lt;omega)
 obtain⟨N,F,B,rfl⟩:=y.form;obtain⟨x,rfl⟩:=fc (d 1 24 g rfl rfl) h;refine(YB (eW y x)).mono λe z ⟨he,h,a,k⟩=>?_;subst he;exact⟨_,rfl,Ya (by kernel_rfl) (by kernel_rfl) (by kernel_rfl) (by kernel_rfl) (by kernel_rfl) Tryz.underlying4 i rfl rfl h a k⟩
theorem over:Rows.execRefusedRow.holds Tryz.pinned (OpenSpec.ofChange Rows.execRefusedSpec):=
 OpenClaim.holds_of_wide 3 Tryz.f3 rfl rfl rfl rfl rfl rfl rfl ⟨rfl,rfl,rfl,rfl,rfl⟩ rfl rfl rfl rfl rfl (by kernel_rfl) Tryz.func3 jf
  (mQL (by kernel_rfl)) (by unfold Func.isWrapper;first|(rw[if_pos (by decide+kernel)];kernel_rfl)|(rw[if_neg (by decide+kernel)];exact⟨rfl,rfl⟩))
  (λo s H enc _=>lifted o s H enc)
theorem proved:Rows.ExecRefusedSaid:=
 over
end Go.Proofs.YtifjeceolckgaaaGreat.execRefused
