/-
  StoreTwice: a digest that is asked again at once is the same one, and nothing is written; without conditions.
-/
import Derived.Test.YthnbpiejemlbeaaGreatBR
import Derived.Test.YthnbpiejemlbeaaGreatJP
set_option linter.all false
set_option maxRecDepth 100000
namespace Go.Proofs.YthnbpiejemlbeaaGreat.storeTwice
open Go.ChangeShapes Go.WideShapes Go.ChangeAt Go.RowKit Go.Sx Go.S
theorem own:ownKnob Tryz.prog.godebug=none:=by kernel_rfl
theorem jXJ:Tryz.prog.bytesOf 73=80:=by kernel_rfl
theorem lifted(o:Os)(s:o.Started)(H:Type)(enc:TypeId×Value->H):
 ReturnsInHanded {} Tryz.checked o 7 .any (Rows.storeTwiceSpec.pre6 enc Tryz.prog Tryz.f7 Rows.storeTwiceRow.domain false) (Rows.storeTwiceSpec.post enc Tryz.prog Tryz.f7 false true false false):=by
 refine returnsInHanded_of_change_sized (C:=Tryz.checked) own s (by kernel_rfl) Tryz.func7
  (ChangeSpec.witness6 (enc:=enc) (C:=Tryz.checked) false ⟨#[],#[.slice none 0 0],[]⟩ 8 (by kernel_rfl) (by kernel_rfl) (by kernel_rfl) (by kernel_rfl)) ?_
 intro W base args ds z b d c K m _;have a:∀(j:Nat) t v,Tryz.f7.params[j]? =some t->args[j]? =some v->Value.okWide Tryz.prog W .any base t v:=d;have g:=c;obtain⟨p,q,Q,V,rfl,J,G⟩:=c;have A:DataW.TrodAll enc Tryz.prog W 0 (λ_=>true) true Tryz.f7.params.toList args.toList ds p:=Q;rw[Tryz.params7]at A a;obtain⟨f,n,x,O,D,E,Z,rfl,rfl,h0,r⟩:=trodAll_cons A;obtain⟨rfl,rfl,rfl⟩:=trodAll_nil r;obtain rfl:args= #[f]:=by cases args;simp_all
 obtain⟨rfl,rfl⟩:=trodVars_none V;obtain⟨x0,y,i⟩:=Pw h0 (okWide_slice Tryz.underlying66 (a 0 66 f rfl rfl)) (λelems spare hd=>by
  have:=sized_slice (P:=Tryz.prog) (ts:=Tryz.f7.params.toList) m (j:=0) (t:=66) (e:=73) (elems:=elems) (spare:=spare) (by rw[Tryz.params7];rfl) (by rw[hd];rfl) Tryz.underlying66;rw[jXJ]at this;have h:=reachBytes_lt;omega)
 obtain⟨F,B,w,rfl⟩:=y.form;refine(SX (aXo y i)).mono λe u ⟨he,k,h,l⟩=>?_;subst he;exact⟨_,rfl,SD (by kernel_rfl) (by kernel_rfl) (by kernel_rfl) (by kernel_rfl) (by kernel_rfl) Tryz.underlying4 g rfl rfl k h l⟩
theorem over:Rows.storeTwiceRow.holds Tryz.pinned (OpenSpec.ofChange Rows.storeTwiceSpec):=
 OpenClaim.holds_of_wide 7 Tryz.f7 rfl rfl rfl rfl rfl rfl rfl ⟨rfl,rfl,rfl,rfl,rfl⟩ rfl rfl rfl rfl rfl (by kernel_rfl) Tryz.func7 jf
  (lA (by kernel_rfl)) (by unfold Func.isWrapper;first|(rw[if_pos (by decide+kernel)];kernel_rfl)|(rw[if_neg (by decide+kernel)];exact⟨rfl,rfl⟩))
  (λo s H enc _=>lifted o s H enc)
theorem proved:Rows.StoreTwiceSaid:=
 over
end Go.Proofs.YthnbpiejemlbeaaGreat.storeTwice
