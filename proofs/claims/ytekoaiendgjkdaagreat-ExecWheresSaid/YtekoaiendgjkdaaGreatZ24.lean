/-
  ExecWheres is true: whatever acts made the rows, what a where says is held against each row, those for which it is true are told, or go, and no others. No conditions.
-/
import Derived.Test.YtekoaiendgjkdaaGreatWC
import Derived.Test.YtekoaiendgjkdaaGreatJW
import Derived.Test.YtekoaiendgjkdaaGreatF4b
import Derived.SizedLaws
set_option linter.unusedVariables false
set_option linter.unusedSimpArgs false
set_option linter.unusedSectionVars false
set_option maxRecDepth 100000
namespace Go.Proofs.YtekoaiendgjkdaaGreat.execWheres
open Go.ChangeShapes Go.WideShapes Go.ChangeAt Go.RowKit Go.Sx Go.S
theorem own:ownKnob Tryz.prog.godebug=none:=by kernel_rfl
theorem b24:Tryz.prog.bytesOf 24=32:=by kernel_rfl
theorem lifted(os:Os)(started:os.Started)(H:Type)(enc:TypeId×Value->H):
 ReturnsInHanded {} Tryz.checked os 9 .any (Rows.execWheresSpec.pre6 enc Tryz.prog Tryz.f9 Rows.execWheresRow.domain false) (Rows.execWheresSpec.post enc Tryz.prog Tryz.f9 false true false false):=by
 refine returnsInHanded_of_change_sized (C:=Tryz.checked) own started (by kernel_rfl) Tryz.func9
  (ChangeSpec.witness6 (enc:=enc) (C:=Tryz.checked) false ⟨#[],#[.slice none 0 0,.int .i64 0,.int .i64 0],[]⟩ 8 (by kernel_rfl) (by kernel_rfl) (by kernel_rfl) (by kernel_rfl)) ?_
 intro W base args ds gs before KI hW hcnd kf _;have Ha:∀(j:Nat) t v,Tryz.f9.params[j]? =some t->args[j]? =some v->Value.okWide Tryz.prog W .any base t v:=KI;have hW':=hW;obtain⟨p,q,XD,hV,rfl,hfz,MV⟩:=hW;have hA:DataW.TrodAll enc Tryz.prog W 0 (fun _=>true) true Tryz.f9.params.toList args.toList ds p:=XD;rw[Tryz.params9]at hA Ha;obtain⟨v0,vs0,d0,ds0,p0,q0,Z8,rfl,rfl,h0,r0⟩:=trodAll_cons hA;obtain⟨v1,vs1,d1,ds1,p1,q1,rfl,rfl,rfl,h1,r1⟩:=trodAll_cons r0;obtain⟨v2,vs2,d2,ds2,p2,q2,rfl,rfl,rfl,h2,r2⟩:=trodAll_cons r1;obtain⟨rfl,rfl,rfl⟩:=trodAll_nil r2;obtain rfl:args= #[v0,v1,v2]:=by cases args;simp_all
 obtain⟨rfl,rfl⟩:=trodVars_none hV;obtain⟨x0,y0⟩:=yY h0 (okWide_slice Tryz.underlying22 (Ha 0 22 v0 rfl rfl)) (fun elems spare hd=>by
  have:=sized_slice (P:=Tryz.prog) (ts:=Tryz.f9.params.toList) kf (j:=0) (t:=22) (e:=24) (elems:=elems) (spare:=spare) (by rw[Tryz.params9];rfl) (by rw[hd];rfl) Tryz.underlying22;rw[b24]at this;have h2:=reachBytes_lt;omega)
 obtain⟨s0,l0,c0,rfl⟩:=y0.form;obtain⟨x1,rfl,e1,-,w1⟩:=open_int Tryz.underlying3 (Ha 1 3 v1 rfl rfl) h1;have g1:-2^63<=x1/\x1<2^63:=GY w1;obtain⟨x2,rfl,e2,-,w2⟩:=open_int Tryz.underlying3 (Ha 2 3 v2 rfl rfl) h2;have g2:-2^63<=x2/\x2<2^63:=GY w2;refine(yA (wheresG y0 x1 x2)).mono fun e W' ⟨he,h1,h2,h3⟩=>?_;subst he;exact⟨_,rfl,yf (by kernel_rfl) (by kernel_rfl) (by kernel_rfl) (by kernel_rfl) (by kernel_rfl) Tryz.underlying4 hW' rfl rfl h1 h2 h3⟩
theorem over:Rows.execWheresRow.holds Tryz.pinned (OpenSpec.ofChange Rows.execWheresSpec):=
 OpenClaim.holds_of_wide 9 Tryz.f9 rfl rfl rfl rfl rfl rfl rfl ⟨rfl,rfl,rfl,rfl,rfl⟩ rfl rfl rfl rfl rfl (by kernel_rfl) Tryz.func9 jf
  (of_decide_eq_true (by kernel_rfl)) (by unfold Func.isWrapper;first| (rw[if_pos (by decide+kernel)];kernel_rfl) | (rw[if_neg (by decide+kernel)];exact⟨rfl,rfl⟩))
  (fun os started H enc _=>lifted os started H enc)
theorem proved:Rows.ExecWheresSaid:=
 over
end Go.Proofs.YtekoaiendgjkdaaGreat.execWheres
