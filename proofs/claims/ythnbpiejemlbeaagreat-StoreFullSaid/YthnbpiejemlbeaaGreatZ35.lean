/-
  StoreFull: where the log of a store has no room a commit is refused, the session is taken back and all stays; without conditions.
-/
import Derived.Test.YthnbpiejemlbeaaGreatBR
import Derived.Test.YthnbpiejemlbeaaGreatFX
import Derived.SizedLaws
set_option linter.all false
set_option maxRecDepth 100000
namespace Go.Proofs.YthnbpiejemlbeaaGreat.storeFull
open Go.ChangeShapes Go.WideShapes Go.ChangeAt Go.RowKit Go.Sx Go.S
theorem own:ownKnob Tryz.prog.godebug=none:=by kernel_rfl
theorem hZy:(Rows.storeFullRow.inPlace==Tryz.pinned.checked.prog.inPlace 3)=true:=by kernel_rfl
theorem hZx:(Rows.storeFullRow.unfollowed==Tryz.pinned.checked.prog.unfollowed 3)=true:=by kernel_rfl
theorem hZv:(Rows.storeFullRow.recurses==Tryz.pinned.checked.prog.recurses 3)=true:=by kernel_rfl
theorem hZu:(Rows.storeFullRow.named==Tryz.pinned.checked.prog.varsNamed 3)=true:=by kernel_rfl
theorem jf:joinedFacts Tryz.pinned.checked.prog 3 Tryz.f3 Rows.storeFullSpec Rows.storeFullRow=true:=by unfold joinedFacts;rw[hZy,hZx,hZv,hZu];kernel_rfl
theorem lifted(o:Os)(s:o.Started)(H:Type)(enc:TypeId×Value->H):
 ReturnsInHanded {} Tryz.checked o 3 .any (Rows.storeFullSpec.pre6 enc Tryz.prog Tryz.f3 Rows.storeFullRow.domain false) (Rows.storeFullSpec.post enc Tryz.prog Tryz.f3 false true false false):=by
 refine returnsInHanded_of_change (C:=Tryz.checked) own s (by kernel_rfl) Tryz.func3
  (ChangeSpec.witness6 (enc:=enc) (C:=Tryz.checked) false ⟨#[],#[.int .i64 0,.int .i64 0],[]⟩ 8 (by kernel_rfl) (by kernel_rfl) (by kernel_rfl) (by kernel_rfl)) ?_
 intro W base args ds F b c a n _;have T:∀(j:Nat) t v,Tryz.f3.params[j]? =some t->args[j]? =some v->Value.okWide Tryz.prog W .any base t v:=c;have f:=a;obtain⟨p,q,K,V,rfl,l,J⟩:=a;have A:DataW.TrodAll enc Tryz.prog W 0 (λ_=>true) true Tryz.f3.params.toList args.toList ds p:=K;rw[Tryz.params3]at A T;obtain⟨d,N,y,X,G,L,Z,rfl,rfl,h0,r⟩:=trodAll_cons A;obtain⟨g,M,z,Y,I,O,rfl,rfl,rfl,h,m⟩:=trodAll_cons r;obtain⟨rfl,rfl,rfl⟩:=trodAll_nil m;obtain rfl:args= #[d,g]:=by cases args;simp_all
 obtain⟨rfl,rfl⟩:=trodVars_none V;obtain⟨x0,rfl,B,-,w0⟩:=open_int Tryz.underlying3 (T 0 3 d rfl rfl) h0;have D:-2^63<=x0/\x0<2^63:=yQ w0;obtain⟨x,rfl,e1,-,w⟩:=open_int Tryz.underlying3 (T 1 3 g rfl rfl) h;have E:-2^63<=x/\x<2^63:=yQ w;refine(OR (ZC x0 x _)).mono λe u ⟨he,h,i,k⟩=>?_;subst he;exact⟨_,rfl,Ov (by kernel_rfl) (by kernel_rfl) (by kernel_rfl) (by kernel_rfl) (by kernel_rfl) Tryz.underlying4 f rfl rfl h i k⟩
theorem over:Rows.storeFullRow.holds Tryz.pinned (OpenSpec.ofChange Rows.storeFullSpec):=
 OpenClaim.holds_of_wide 3 Tryz.f3 rfl rfl rfl rfl rfl rfl rfl ⟨rfl,rfl,rfl,rfl,rfl⟩ rfl rfl rfl rfl rfl (by kernel_rfl) Tryz.func3 jf
  (of_decide_eq_true (by kernel_rfl)) (by unfold Func.isWrapper;first|(rw[if_pos (by decide+kernel)];kernel_rfl)|(rw[if_neg (by decide+kernel)];exact⟨rfl,rfl⟩))
  (λo s H enc _=>lifted o s H enc)
theorem proved:Rows.StoreFullSaid:=
 over
end Go.Proofs.YthnbpiejemlbeaaGreat.storeFull
