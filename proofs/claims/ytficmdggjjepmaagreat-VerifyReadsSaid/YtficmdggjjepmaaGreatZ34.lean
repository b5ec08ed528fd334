/-
  What is proved: the law VerifyReads of chapter 21 answers true for every input, and each argument reads behind the call as it read before: whatever records stand on a log of thirty pages, and whatever digests are asked, the program's verification finds what the document's finds. No conditions.
-/
import Derived.Test.YtficmdggjjepmaaGreatBN
import Derived.SizedLaws
set_option linter.all false
set_option maxRecDepth 100000
namespace Go.Proofs.YtficmdggjjepmaaGreat.verifyReads
open Go.ChangeShapes Go.WideShapes Go.ChangeAt Go.RowKit Go.Sx Go.S
theorem own:ownKnob Tryz.prog.godebug=none:=by kernel_rfl
theorem gZW:(Rows.verifyReadsRow.inPlace==Tryz.pinned.checked.prog.inPlace 3)=true:=by kernel_rfl
theorem gZV:(Rows.verifyReadsRow.unfollowed==Tryz.pinned.checked.prog.unfollowed 3)=true:=by kernel_rfl
theorem gZU:(Rows.verifyReadsRow.recurses==Tryz.pinned.checked.prog.recurses 3)=true:=by kernel_rfl
theorem gZT:(Rows.verifyReadsRow.named==Tryz.pinned.checked.prog.varsNamed 3)=true:=by kernel_rfl
theorem jf:joinedFacts Tryz.pinned.checked.prog 3 Tryz.f3 Rows.verifyReadsSpec Rows.verifyReadsRow=true:=by unfold joinedFacts;rw[gZW,gZV,gZU,gZT];kernel_rfl
theorem lifted(o:Os)(s:o.Started)(H:Type)(enc:TypeId×Value->H):
 ReturnsInHanded {} Tryz.checked o 3 .any (Rows.verifyReadsSpec.pre6 enc Tryz.prog Tryz.f3 Rows.verifyReadsRow.domain false) (Rows.verifyReadsSpec.post enc Tryz.prog Tryz.f3 false true false false):=by
 refine returnsInHanded_of_change (C:=Tryz.checked) own s (by kernel_rfl) Tryz.func3
  (ChangeSpec.witness6 (enc:=enc) (C:=Tryz.checked) false ⟨#[],#[.slice none 0 0,.int .i64 0,.slice none 0 0],[]⟩ 8 (by kernel_rfl) (by kernel_rfl) (by kernel_rfl) (by kernel_rfl)) ?_
 intro W base args ds R b J c K _;have M:∀(j:Nat) t v,Tryz.f3.params[j]? =some t->args[j]? =some v->Value.okWide Tryz.prog W .any base t v:=J;have U:=c;obtain⟨p,q,Q,V,rfl,n,i⟩:=c;have A:DataW.TrodAll enc Tryz.prog W 0 (λ_=>true) true Tryz.f3.params.toList args.toList ds p:=Q;rw[Tryz.params3]at A M;obtain⟨d,w,L,X,Y,q0,Z,rfl,rfl,h0,z⟩:=trodAll_cons A;obtain⟨f,u,N,m,p1,q1,rfl,rfl,rfl,h,B⟩:=trodAll_cons z;obtain⟨g,r,O,l,p2,q2,rfl,rfl,rfl,a,D⟩:=trodAll_cons B;obtain⟨rfl,rfl,rfl⟩:=trodAll_nil D;obtain rfl:args= #[d,f,g]:=by cases args;simp_all
 obtain⟨rfl,rfl⟩:=trodVars_none V;obtain⟨x0,y⟩:=PI h0 (okWide_slice Tryz.underlying22 (M 0 22 d rfl rfl));obtain⟨s0,S,G,rfl⟩:=y.form;obtain⟨x,rfl,e1,-,E⟩:=open_int Tryz.underlying3 (M 1 3 f rfl rfl) h;have P:-2^63<=x/\x<2^63:=CM E;obtain⟨x2,y2⟩:=Xh a (okWide_slice Tryz.underlying23 (M 2 23 g rfl rfl));obtain⟨s2,T,I,rfl⟩:=y2.form;refine(MB (UW y y2 x)).mono λe F ⟨he,h,a,k⟩=>?_;subst he;exact⟨_,rfl,Mq (by kernel_rfl) (by kernel_rfl) (by kernel_rfl) (by kernel_rfl) (by kernel_rfl) Tryz.underlying4 U rfl rfl h a k⟩
theorem over:Rows.verifyReadsRow.holds Tryz.pinned (OpenSpec.ofChange Rows.verifyReadsSpec):=
 OpenClaim.holds_of_wide 3 Tryz.f3 rfl rfl rfl rfl rfl rfl rfl ⟨rfl,rfl,rfl,rfl,rfl⟩ rfl rfl rfl rfl rfl (by kernel_rfl) Tryz.func3 jf
  (qH (by kernel_rfl)) (by unfold Func.isWrapper;first|(rw[if_pos (by decide+kernel)];kernel_rfl)|(rw[if_neg (by decide+kernel)];exact⟨rfl,rfl⟩))
  (λo s H enc _=>lifted o s H enc)
theorem proved:Rows.VerifyReadsSaid:=
 over
end Go.Proofs.YtficmdggjjepmaaGreat.verifyReads
