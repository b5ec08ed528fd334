/-
  ExecSaves is true: whatever acts made the rows and whatever statements come between, back to a savepoint is back to the rows that were there. No conditions.
-/
import Derived.Test.YtifjeceolckgaaaGreatWR
import Derived.Test.YtifjeceolckgaaaGreatJV
import Derived.Test.YtifjeceolckgaaaGreatF4b
set_option linter.all false
set_option maxRecDepth 100000
namespace Go.Proofs.YtifjeceolckgaaaGreat.execSaves
open Go.ChangeShapes Go.WideShapes Go.ChangeAt Go.RowKit Go.Sx Go.S
theorem own:ownKnob Tryz.prog.godebug=none:=by kernel_rfl
theorem lXL:Tryz.prog.bytesOf 24=32:=by kernel_rfl
theorem lifted(o:Os)(s:o.Started)(H:Type)(enc:TypeId×Value->H):
 ReturnsInHanded {} Tryz.checked o 4 .any (Rows.execSavesSpec.pre6 enc Tryz.prog Tryz.f4 Rows.execSavesRow.domain false) (Rows.execSavesSpec.post enc Tryz.prog Tryz.f4 false true false false):=by
 refine returnsInHanded_of_change_sized (C:=Tryz.checked) own s (by kernel_rfl) Tryz.func4
  (ChangeSpec.witness6 (enc:=enc) (C:=Tryz.checked) false ⟨#[],#[.slice none 0 0,.slice none 0 0],[]⟩ 8 (by kernel_rfl) (by kernel_rfl) (by kernel_rfl) (by kernel_rfl)) ?_
 intro W base args ds F b f c O m _;have d:∀(j:Nat) t v,Tryz.f4.params[j]? =some t->args[j]? =some v->Value.okWide Tryz.prog W .any base t v:=f;have i:=c;obtain⟨p,q,Q,V,rfl,n,L⟩:=c;have A:DataW.TrodAll enc Tryz.prog W 0 (λ_=>true) true Tryz.f4.params.toList args.toList ds p:=Q;rw[Tryz.params4]at A d;obtain⟨v0,u,d0,K,J,N,Z,rfl,rfl,h0,w⟩:=trodAll_cons A;obtain⟨g,r,E,l,M,R,rfl,rfl,rfl,h,x⟩:=trodAll_cons w;obtain⟨rfl,rfl,rfl⟩:=trodAll_nil x;obtain rfl:args= #[v0,g]:=by cases args;simp_all
 obtain⟨rfl,rfl⟩:=trodVars_none V;obtain⟨T,y⟩:=ZV h0 (okWide_slice Tryz.underlying22 (d 0 22 v0 rfl rfl)) (λelems spare hd=>by
  have:=sized_slice (P:=Tryz.prog) (ts:=Tryz.f4.params.toList) m (j:=0) (t:=22) (e:=24) (elems:=elems) (spare:=spare) (by rw[Tryz.params4];rfl) (by rw[hd];rfl) Tryz.underlying22;rw[lXL]at this;have a:=reachBytes_lt;omega)
 obtain⟨S,G,B,rfl⟩:=y.form;obtain⟨U,y1⟩:=ZV h (okWide_slice Tryz.underlying22 (d 1 22 g rfl rfl)) (λelems spare hd=>by
  have:=sized_slice (P:=Tryz.prog) (ts:=Tryz.f4.params.toList) m (j:=1) (t:=22) (e:=24) (elems:=elems) (spare:=spare) (by rw[Tryz.params4];rfl) (by rw[hd];rfl) Tryz.underlying22;rw[lXL]at this;have a:=reachBytes_lt;omega)
 obtain⟨s1,I,D,rfl⟩:=y1.form;refine(YB (nQV y y1)).mono λe z ⟨he,h,a,k⟩=>?_;subst he;exact⟨_,rfl,Ya (by kernel_rfl) (by kernel_rfl) (by kernel_rfl) (by kernel_rfl) (by kernel_rfl) Tryz.underlying4 i rfl rfl h a k⟩
theorem over:Rows.execSavesRow.holds Tryz.pinned (OpenSpec.ofChange Rows.execSavesSpec):=
 OpenClaim.holds_of_wide 4 Tryz.f4 rfl rfl rfl rfl rfl rfl rfl ⟨rfl,rfl,rfl,rfl,rfl⟩ rfl rfl rfl rfl rfl (by kernel_rfl) Tryz.func4 jf
  (mQL (by kernel_rfl)) (by unfold Func.isWrapper;first|(rw[if_pos (by decide+kernel)];kernel_rfl)|(rw[if_neg (by decide+kernel)];exact⟨rfl,rfl⟩))
  (λo s H enc _=>lifted o s H enc)
theorem proved:Rows.ExecSavesSaid:=
 over
end Go.Proofs.YtifjeceolckgaaaGreat.execSaves
