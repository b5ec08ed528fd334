/-
  ExecInserts is true: values are put as they were typed, and too few, too many, of another kind, or nothing where something must be, are refused, whatever number, text and choice are given. No conditions.
-/
import Derived.Test.YtekoaiendgjkdaaGreatWA
import Derived.Test.YtekoaiendgjkdaaGreatJI
import Derived.Test.YtekoaiendgjkdaaGreatF4
import Derived.SizedLaws
set_option linter.unusedVariables false
set_option linter.unusedSimpArgs false
set_option linter.unusedSectionVars false
set_option maxRecDepth 100000
namespace Go.Proofs.YtekoaiendgjkdaaGreat.execInserts
open Go.ChangeShapes Go.WideShapes Go.ChangeAt Go.RowKit Go.Sx Go.S
theorem own:ownKnob Tryz.prog.godebug=none:=by kernel_rfl
theorem lifted(os:Os)(started:os.Started)(H:Type)(enc:TypeId×Value->H):
 ReturnsInHanded {} Tryz.checked os 8 .any (Rows.execInsertsSpec.pre6 enc Tryz.prog Tryz.f8 Rows.execInsertsRow.domain false) (Rows.execInsertsSpec.post enc Tryz.prog Tryz.f8 false true false false):=by
 refine returnsInHanded_of_change (C:=Tryz.checked) own started (by kernel_rfl) Tryz.func8
  (ChangeSpec.witness6 (enc:=enc) (C:=Tryz.checked) false ⟨#[],#[.int .i64 0,.string ⟨#[]⟩,.int .i64 0],[]⟩ 8 (by kernel_rfl) (by kernel_rfl) (by kernel_rfl) (by kernel_rfl)) ?_
 intro W base args ds gs before Tx hW hcnd _;have KV:∀(j:Nat) t v,Tryz.f8.params[j]? =some t->args[j]? =some v->Value.okWide Tryz.prog W .any base t v:=Tx;have hW':=hW;obtain⟨p,q,hA0,hV,rfl,hfz,K3⟩:=hW;have hA:DataW.TrodAll enc Tryz.prog W 0 (fun _=>true) true Tryz.f8.params.toList args.toList ds p:=hA0;rw[Tryz.params8]at hA KV;obtain⟨v0,vs0,d0,Y4,p0,q0,hargs,rfl,rfl,h0,r0⟩:=trodAll_cons hA;obtain⟨v1,vs1,d1,ds1,p1,q1,rfl,rfl,rfl,h1,r1⟩:=trodAll_cons r0;obtain⟨v2,vs2,d2,ds2,p2,q2,rfl,rfl,rfl,h2,r2⟩:=trodAll_cons r1;obtain⟨rfl,rfl,rfl⟩:=trodAll_nil r2;obtain rfl:args= #[v0,v1,v2]:=by cases args;simp_all
 obtain⟨rfl,rfl⟩:=trodVars_none hV;obtain⟨x0,rfl,e0,-,w0⟩:=open_int Tryz.underlying3 (KV 0 3 v0 rfl rfl) h0;have g0:-2^63<=x0/\x0<2^63:=wu w0;obtain⟨x1,rfl,e1,-,-⟩:=Go.ChangeMaps.open_string Tryz.underlying9 (KV 1 9 v1 rfl rfl) h1;obtain⟨x2,rfl,e2,-,w2⟩:=open_int Tryz.underlying3 (KV 2 3 v2 rfl rfl) h2;have g2:-2^63<=x2/\x2<2^63:=wu w2;refine(DL (DT x0 x1 x2 _)).mono fun e W' ⟨he,h1,h2,h3⟩=>?_;subst he;exact⟨_,rfl,Dr (by kernel_rfl) (by kernel_rfl) (by kernel_rfl) (by kernel_rfl) (by kernel_rfl) Tryz.underlying4 hW' rfl rfl h1 h2 h3⟩
theorem over:Rows.execInsertsRow.holds Tryz.pinned (OpenSpec.ofChange Rows.execInsertsSpec):=
 OpenClaim.holds_of_wide 8 Tryz.f8 rfl rfl rfl rfl rfl rfl rfl ⟨rfl,rfl,rfl,rfl,rfl⟩ rfl rfl rfl rfl rfl (by kernel_rfl) Tryz.func8 jf
  (of_decide_eq_true (by kernel_rfl)) (by unfold Func.isWrapper;first| (rw[if_pos (by decide+kernel)];kernel_rfl) | (rw[if_neg (by decide+kernel)];exact⟨rfl,rfl⟩))
  (fun os started H enc _=>lifted os started H enc)
theorem proved:Rows.ExecInsertsSaid:=
 over
end Go.Proofs.YtekoaiendgjkdaaGreat.execInserts
