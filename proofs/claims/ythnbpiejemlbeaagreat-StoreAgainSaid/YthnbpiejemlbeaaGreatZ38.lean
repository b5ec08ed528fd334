/-
  StoreAgain: opened anew, at any time, all that was committed is there, and nobody is at work; without conditions.
-/
import Derived.Test.YthnbpiejemlbeaaGreatBT
import Derived.Test.YthnbpiejemlbeaaGreatJPX
set_option linter.all false
set_option maxRecDepth 100000
namespace Go.Proofs.YthnbpiejemlbeaaGreat.storeAgain
open Go.ChangeShapes Go.WideShapes Go.ChangeAt Go.RowKit Go.Sx Go.S
theorem own:ownKnob Tryz.prog.godebug=none:=by kernel_rfl
theorem jJn:Tryz.prog.bytesOf 73=80:=by kernel_rfl
theorem lifted(o:Os)(s:o.Started)(H:Type)(enc:TypeId×Value->H):
 ReturnsInHanded {} Tryz.checked o 8 .any (Rows.storeAgainSpec.pre6 enc Tryz.prog Tryz.f8 Rows.storeAgainRow.domain false) (Rows.storeAgainSpec.post enc Tryz.prog Tryz.f8 false true false false):=by
 refine returnsInHanded_of_change_sized (C:=Tryz.checked) own s (by kernel_rfl) Tryz.func8
  (ChangeSpec.witness6 (enc:=enc) (C:=Tryz.checked) false ⟨#[],#[.slice none 0 0],[]⟩ 8 (by kernel_rfl) (by kernel_rfl) (by kernel_rfl) (by kernel_rfl)) ?_
 intro W base args ds z b d c n m _;have a:∀(j:Nat) t v,Tryz.f8.params[j]? =some t->args[j]? =some v->Value.okWide Tryz.prog W .any base t v:=d;have g:=c;obtain⟨p,q,X,V,rfl,K,F⟩:=c;have A:DataW.TrodAll enc Tryz.prog W 0 (λ_=>true) true Tryz.f8.params.toList args.toList ds p:=X;rw[Tryz.params8]at A a;obtain⟨f,U,x,Z,D,E,J,rfl,rfl,h0,r⟩:=trodAll_cons A;obtain⟨rfl,rfl,rfl⟩:=trodAll_nil r;obtain rfl:args= #[f]:=by cases args;simp_all
 obtain⟨rfl,rfl⟩:=trodVars_none V;obtain⟨x0,y,i⟩:=QQ h0 (okWide_slice Tryz.underlying66 (a 0 66 f rfl rfl)) (λelems spare hd=>by
  have:=sized_slice (P:=Tryz.prog) (ts:=Tryz.f8.params.toList) m (j:=0) (t:=66) (e:=73) (elems:=elems) (spare:=spare) (by rw[Tryz.params8];rfl) (by rw[hd];rfl) Tryz.underlying66;rw[jJn]at this;have h:=reachBytes_lt;omega)
 obtain⟨G,B,w,rfl⟩:=y.form;refine(UE (bQT y i)).mono λe u ⟨he,k,h,l⟩=>?_;subst he;exact⟨_,rfl,Ur (by kernel_rfl) (by kernel_rfl) (by kernel_rfl) (by kernel_rfl) (by kernel_rfl) Tryz.underlying4 g rfl rfl k h l⟩
theorem over:Rows.storeAgainRow.holds Tryz.pinned (OpenSpec.ofChange Rows.storeAgainSpec):=
 OpenClaim.holds_of_wide 8 Tryz.f8 rfl rfl rfl rfl rfl rfl rfl ⟨rfl,rfl,rfl,rfl,rfl⟩ rfl rfl rfl rfl rfl (by kernel_rfl) Tryz.func8 jf
  (kZr (by kernel_rfl)) (by unfold Func.isWrapper;first|(rw[if_pos (by decide+kernel)];kernel_rfl)|(rw[if_neg (by decide+kernel)];exact⟨rfl,rfl⟩))
  (λo s H enc _=>lifted o s H enc)
theorem proved:Rows.StoreAgainSaid:=
 over
end Go.Proofs.YthnbpiejemlbeaaGreat.storeAgain
