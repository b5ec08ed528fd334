import Derived.Test.YtekoaiendgjkdaaGreatQE
import Derived.Test.YtekoaiendgjkdaaGreatQB
import Derived.Test.YtekoaiendgjkdaaGreatRd
import Derived.Test.YtekoaiendgjkdaaGreatGB
import Derived.Test.YtekoaiendgjkdaaGreatGC
import Derived.Test.YtekoaiendgjkdaaGreatEB
import Derived.Test.YtekoaiendgjkdaaGreatEC
set_option linter.unusedVariables false
set_option linter.unusedSimpArgs false
set_option linter.unusedSectionVars false
set_option maxRecDepth 100000
set_option maxHeartbeats 8000000
namespace Go.S
open Go.Sx Go.Proofs
theorem zg:Tryz.prog.underlying 104=some (.map 3 102):=by kernel_rfl
theorem Nw(w:World):(zeroValue 102).run Tryz.prog w=.ok (.nilFunc) w:=by
 have h:((Tryz.prog.info? 102).bind (·.zero))=some (.nilFunc):=by kernel_rfl
 cases h1:Tryz.prog.info? 102 with
 |none=>rw[h1]at h;cases h
 |some i=>rw[h1]at h;simp at h;simp[zeroValue,typeInfo,h1,h]
theorem HW(d:DB):ey d (-1)=(d,1):=by unfold ey ij;rw[if_pos (by decide)]
abbrev Nv(h:ad)(D:DB×List Row×Int)(k:Value->ad->Prop):Prop:=
 ∀h' x1 m1 d1 x2 m2 d2 x3 m3 d3 x4 m4 d4 b n c,Le h h'->gj h' (.agg #[.slice x1 m1 d1,.slice x2 m2 d2,.slice x3 m3 d3,.slice x4 m4 d4]) D.1->Sl 59 aL h' (.slice b n c) D.2.1->k (.tuple #[.agg #[.slice x1 m1 d1,.slice x2 m2 d2,.slice x3 m3 d3,.slice x4 m4 d4],.slice b n c,.int .i64 D.2.2]) h'
theorem nW(was:DB)(r:DB×Int):(bK was r).2.1=[]:=by unfold bK;split<;>rfl
theorem zY(d:DB)(s:Int)(x:az):(jB d s x).2.1=[]:=by
 unfold jB;generalize ay d ⟨s,x.table,true⟩=H;obtain⟨d1,e⟩:=H;show(if e≠0 then(d1,[],e)else bK d1 _:DB×List Row×Int).2.1=[];split
 ·rfl
 ·exact nW ..
theorem zc(d:DB)(s:Int)(x:az):(fH d s x).2.1=[]:=by
 unfold fH;generalize ay d ⟨s,x.table,true⟩=H;obtain⟨d1,e⟩:=H;show(if e≠0 then(d1,[],e)else if(bO d1 x.table).S.only=true then(d1,[],19)else bK d1 _:DB×List Row×Int).2.1=[];split
 ·rfl
 ·split
  ·rfl
  ·exact nW ..
theorem Aq(d:DB)(s:Int)(x:az):(fL d s x).2.1=[]:=by
 unfold fL;generalize ay d ⟨s,x.table,true⟩=H;obtain⟨d1,e⟩:=H;show(if e≠0 then(d1,[],e)else if(bO d1 x.table).S.only=true then(d1,[],19)else bK d1 _:DB×List Row×Int).2.1=[];split
 ·rfl
 ·split
  ·rfl
  ·exact nW ..
theorem doC{h:ad}{d:DB}{s:Int}{st:az}{v:Value}(qd:gj h v d)(hx:eG st){n0:Nat}(ej:EJ n0 d)(gP:n0+700<2^18)(iQ:-2^63<=s/\s<2^63)(xg:j8 d s st){w:Value}(qs:Qu h w st){k:Value->ad->Prop}(hk:Nv h (jD d s st) k):
 Ct 19 [v,.int .i64 s,w] h k:=by
 obtain⟨A,hA⟩:=Ar.ex;have sm:=ej.sj.CM.small (by omega:n0<2^18);have f7:A .aG .eql st.kind 7=decide (st.kind=7):=aw A ..;have f9:A .aG .eql st.kind 9=decide (st.kind=9):=aw A ..;have f10:A .aG .eql st.kind 10=decide (st.kind=10):=aw A ..;have f11:A .aG .eql st.kind 11=decide (st.kind=11):=aw A ..;obtain⟨a1,i1,j1,a2,i2,j2,a3,i3,j3,a4,i4,j4,rfl⟩:=qd.form;obtain⟨b5,n5,c5,b6,n6,c6,b7,n7,c7,b8,n8,c8,b9,n9,c9,fG,gG,fF,rfl,p1,p2,p3,p4,p5,p6⟩:=qs.out;refine ah A (ar T19.aA T19.bm) Tryz.func19 rfl (by kernel_rfl) ?_;cbv;rw[f7];by_cases Lp:st.kind=7
 ·have hX:jD d s st=((ey d s).1,[],(ey d s).2):=by unfold jD;rw[if_pos Lp]
  rw[hX]at hk;obtain⟨D,hD⟩:∃D,ey d s=D:=⟨_,rfl⟩;rw[hD]at hk;obtain⟨D1,De⟩:=D;replace hk:Nv h (D1,[],De) k:=hk;rw[decide_eq_true Lp];cbv;refine oV qd s sm hD (fun h1 x1 m1 d1 x2 m2 d2 x3 m3 d3 x4 m4 d4 l1 Bl=>?_);have ae:=hk h1 x1 m1 d1 x2 m2 d2 x3 m3 d3 x4 m4 d4 none 0 0 l1 Bl Sl.nil;clear hk;cbv;exact ae
 rw[decide_eq_false Lp];cbv;rw[f9];by_cases Nc:st.kind=9
 ·have hX:jD d s st=((ir d s).1,[],(ir d s).2):=by unfold jD;rw[if_neg Lp];rw[if_pos Nc]
  rw[hX]at hk;obtain⟨D,hD⟩:∃D,ir d s=D:=⟨_,rfl⟩;rw[hD]at hk;obtain⟨D1,De⟩:=D;replace hk:Nv h (D1,[],De) k:=hk;rw[decide_eq_true Nc];cbv;refine Bi qd ej.sj.CM (by omega) s hD (fun h1 x1 m1 d1 x2 m2 d2 x3 m3 d3 x4 m4 d4 l1 Bl=>?_);have ae:=hk h1 x1 m1 d1 x2 m2 d2 x3 m3 d3 x4 m4 d4 none 0 0 l1 Bl Sl.nil;clear hk;cbv;exact ae
 rw[decide_eq_false Nc];cbv;rw[f10];by_cases Ao:st.kind=10
 ·have hX:jD d s st=((tC d s st.name).1,[],(tC d s st.name).2):=by unfold jD;rw[if_neg Lp,if_neg Nc];rw[if_pos Ao]
  rw[hX]at hk;obtain⟨D,hD⟩:∃D,tC d s st.name=D:=⟨_,rfl⟩;rw[hD]at hk;obtain⟨D1,De⟩:=D;replace hk:Nv h (D1,[],De) k:=hk;rw[decide_eq_true Ao];cbv;refine NZ qd s st.name hD (fun h1 x1 m1 d1 x2 m2 d2 x3 m3 d3 x4 m4 d4 l1 Bl=>?_);have ae:=hk h1 x1 m1 d1 x2 m2 d2 x3 m3 d3 x4 m4 d4 none 0 0 l1 Bl Sl.nil;clear hk;cbv;exact ae
 rw[decide_eq_false Ao];cbv;rw[f11];by_cases B5:st.kind=11
 ·have hX:jD d s st=((tZ d s st.name).1,[],(tZ d s st.name).2):=by unfold jD;rw[if_neg Lp,if_neg Nc,if_neg Ao];rw[if_pos B5]
  rw[hX]at hk;obtain⟨D,hD⟩:∃D,tZ d s st.name=D:=⟨_,rfl⟩;rw[hD]at hk;obtain⟨D1,De⟩:=D;replace hk:Nv h (D1,[],De) k:=hk;rw[decide_eq_true B5];cbv;refine Qa qd ej.sj.CM s st.name hD (fun h1 x1 m1 d1 x2 m2 d2 x3 m3 d3 x4 m4 d4 l1 Bl=>?_);have ae:=hk h1 x1 m1 d1 x2 m2 d2 x3 m3 d3 x4 m4 d4 none 0 0 l1 Bl Sl.nil;clear hk;cbv;exact ae
 rw[decide_eq_false B5];cbv;skip;refine oV qd (-1) sm (HW d) (fun h1 b1 n1 c1 b2 n2 c2 b3 n3 c3 b4 n4 c4 l1 Bl=>?_);cbv;intro pb h2 f2 e2;have l2:Le h1 h2:=by rw[e2];exact Le.set f2
 have q2:dS h2 pb d s st:=⟨⟨b1,n1,c1,b2,n2,c2,b3,n3,c3,b4,n4,c4,b5,n5,c5,b6,n6,c6,b7,n7,c7,b8,n8,c8,b9,n9,c9,fG,gG,fF,by rw[e2];exact af,Bl.mono l2,p1.mono ((l1.trans l2).t _),p2.mono ((l1.trans l2).t _),p3.mono ((l1.trans l2).t _),p4.mono ((l1.trans l2).t _),p5.mono ((l1.trans l2).t _),p6.mono ((l1.trans l2).t _)⟩⟩;have hpb:h pb=none:=by
  cases hh:h pb with
  |none=>rfl
  |some o=>rw[l1 _ _ hh]at f2;cases f2
 have ko:=l1.trans l2;clear p1 p2 p3 p4 p5 p6 e2;cbv;intro mb h3 f3 e3;have l3:Le h2 h3:=by rw[e3];exact Le.set f3
 have Tr:Mp h3 mb (.int .i64) []:=Mp.new (by rw[e3];exact af);have AI:Le h2 h3:=l3;clear e3;cbv;refine mR zg u3 Tr (key:=.int .i64 3) rfl (fun p hp=>by cases hp) (fun h4 GN k4 t4=>?_);cbv;refine mR zg u3 GN (key:=.int .i64 4) rfl (fun p hp=>?_) (fun h5 Xc k5 t5=>?_)
 ·simp at hp;subst hp;simp
 cbv;refine mR zg u3 Xc (key:=.int .i64 5) rfl (fun p hp=>?_) (fun h6 mp6 k6 t6=>?_)
 ·simp at hp;rcases hp with hp|hp<;>(subst hp;simp)
 cbv;refine mR zg u3 mp6 (key:=.int .i64 6) rfl (fun p hp=>?_) (fun h7 Tq k7 t7=>?_)
 ·simp at hp;rcases hp with hp|hp|hp<;>(subst hp;simp)
 have MM:Le h2 h7:=fun b o hb=>by
  have bW:b∉[mb]:=fun hn=>by
   have:b=mb:=by simpa using hn
   rw[this,f3]at hb;cases hb
  exact k7 _ _ (k6 _ _ (k5 _ _ (k4 _ _ (AI _ _ hb) bW) bW) bW) bW
 have q7:=q2.mono MM;have l07:=ko.trans MM;clear k4 k5 k6 k7 t4 t5 t6 t7 Tr GN Xc mp6;have Pe:∀h8,Kp [pb] h7 h8->Le h h8:=fun h8 k8 b o hb=>k8 _ _ (l07 _ _ hb) (fun hn=>by
  have:b=pb:=by simpa using hn
  rw[this,hpb]at hb;cases hb)
 by_cases XG:st.kind=3
 ·have hX:jD d s st=jB d s st:=by unfold jD;rw[if_neg Lp,if_neg Nc,if_neg Ao,if_neg B5,if_pos XG]
  rw[hX]at hk;have Ag:(jB d s st).2.1=[]:=zY ..;cbv;refine qX zg u3 Tq (key:=.int .i64 st.kind) (v:=.func (.func 41) #[.pointer (some ⟨pb,0,none⟩)] #[]) rfl (by rw[XG];simp) ?_;have AS:A .not true=false:=by rw[hA.not];rfl
  cbv;rw[AS];cbv;refine OB q7 hx ej.sj (by omega) iQ (fun h8 k8 q8=>?_);generalize jB d s st=D at *;obtain⟨D1,DR,De⟩:=D;replace q8:dS h8 pb D1 s st:=q8;replace hk:Nv h (D1,DR,De) k:=hk;replace Ag:DR=[]:=Ag;subst Ag;refine q8.elim (fun b1 n1 c1 b2 n2 c2 b3 n3 c3 b4 n4 c4 b5 n5 c5 b6 n6 c6 b7 n7 c7 b8 n8 c8 b9 n9 c9 fG gG fF g8 Dq _ _ _ _ _ _=>?_);have ae:=hk h8 b1 n1 c1 b2 n2 c2 b3 n3 c3 b4 n4 c4 none 0 0 (Pe _ k8) Dq Sl.nil;clear hk Pe;cbv;first| (refine av g8 rfl rfl ?_;cbv) | (rw[ai A,ai A];refine av g8 rfl rfl ?_;cbv) | (rw[ai A];refine av g8 rfl rfl ?_;cbv)
  exact ae
 by_cases XF:st.kind=4
 ·have hX:jD d s st=fH d s st:=by unfold jD;rw[if_neg Lp,if_neg Nc,if_neg Ao,if_neg B5,if_neg XG,if_pos XF]
  rw[hX]at hk;have Ag:(fH d s st).2.1=[]:=zc ..;cbv;refine qX zg u3 Tq (key:=.int .i64 st.kind) (v:=.func (.func 42) #[.pointer (some ⟨pb,0,none⟩)] #[]) rfl (by rw[XF];simp) ?_;have AS:A .not true=false:=by rw[hA.not];rfl
  cbv;rw[AS];cbv;refine xg.Gf XF q7 hx ej (by omega) iQ (fun h8 k8 q8=>?_);generalize fH d s st=D at *;obtain⟨D1,DR,De⟩:=D;replace q8:dS h8 pb D1 s st:=q8;replace hk:Nv h (D1,DR,De) k:=hk;replace Ag:DR=[]:=Ag;subst Ag;refine q8.elim (fun b1 n1 c1 b2 n2 c2 b3 n3 c3 b4 n4 c4 b5 n5 c5 b6 n6 c6 b7 n7 c7 b8 n8 c8 b9 n9 c9 fG gG fF g8 Dq _ _ _ _ _ _=>?_);have ae:=hk h8 b1 n1 c1 b2 n2 c2 b3 n3 c3 b4 n4 c4 none 0 0 (Pe _ k8) Dq Sl.nil;clear hk Pe;cbv;first| (refine av g8 rfl rfl ?_;cbv) | (rw[ai A,ai A];refine av g8 rfl rfl ?_;cbv) | (rw[ai A];refine av g8 rfl rfl ?_;cbv)
  exact ae
 by_cases gk5:st.kind=5
 ·have hX:jD d s st=fL d s st:=by unfold jD;rw[if_neg Lp,if_neg Nc,if_neg Ao,if_neg B5,if_neg XG,if_neg XF,if_pos gk5]
  rw[hX]at hk;have Ag:(fL d s st).2.1=[]:=Aq ..;cbv;refine qX zg u3 Tq (key:=.int .i64 st.kind) (v:=.func (.func 43) #[.pointer (some ⟨pb,0,none⟩)] #[]) rfl (by rw[gk5];simp) ?_;have AS:A .not true=false:=by rw[hA.not];rfl
  cbv;rw[AS];cbv;refine xg.del gk5 q7 hx ej (by omega) iQ (fun h8 k8 q8=>?_);generalize fL d s st=D at *;obtain⟨D1,DR,De⟩:=D;replace q8:dS h8 pb D1 s st:=q8;replace hk:Nv h (D1,DR,De) k:=hk;replace Ag:DR=[]:=Ag;subst Ag;refine q8.elim (fun b1 n1 c1 b2 n2 c2 b3 n3 c3 b4 n4 c4 b5 n5 c5 b6 n6 c6 b7 n7 c7 b8 n8 c8 b9 n9 c9 fG gG fF g8 Dq _ _ _ _ _ _=>?_);have ae:=hk h8 b1 n1 c1 b2 n2 c2 b3 n3 c3 b4 n4 c4 none 0 0 (Pe _ k8) Dq Sl.nil;clear hk Pe;cbv;first| (refine av g8 rfl rfl ?_;cbv) | (rw[ai A,ai A];refine av g8 rfl rfl ?_;cbv) | (rw[ai A];refine av g8 rfl rfl ?_;cbv)
  exact ae
 by_cases gk6:st.kind=6
 ·have hX:jD d s st=dJ d s st:=by unfold jD;rw[if_neg Lp,if_neg Nc,if_neg Ao,if_neg B5,if_neg XG,if_neg XF,if_neg gk5,if_pos gk6]
  rw[hX]at hk;have Ag:True:=trivial;cbv;refine qX zg u3 Tq (key:=.int .i64 st.kind) (v:=.func (.func 44) #[.pointer (some ⟨pb,0,none⟩)] #[]) rfl (by rw[gk6];simp) ?_;have AS:A .not true=false:=by rw[hA.not];rfl
  cbv;rw[AS];cbv;refine xg.sel gk6 q7 hx ej (by omega) iQ (fun h8 b8 n8 c8 k8 q8 s8=>?_);generalize dJ d s st=D at *;obtain⟨D1,DR,De⟩:=D;replace q8:dS h8 pb D1 s st:=q8;replace hk:Nv h (D1,DR,De) k:=hk;replace s8:Sl 59 aL h8 (.slice b8 n8 c8) DR:=s8;skip;refine q8.elim (fun b1 n1 c1 b2 n2 c2 b3 n3 c3 b4 n4 c4 b5 n5 c5 b6 n6 c6 b7 n7 c7 y8 u8 v8 b9 n9 c9 fG gG fF g8 Dq _ _ _ _ _ _=>?_);have ae:=hk h8 b1 n1 c1 b2 n2 c2 b3 n3 c3 b4 n4 c4 b8 n8 c8 (Pe _ k8) Dq s8;clear hk Pe;cbv;first| (refine av g8 rfl rfl ?_;cbv) | (rw[ai A,ai A];refine av g8 rfl rfl ?_;cbv) | (rw[ai A];refine av g8 rfl rfl ?_;cbv)
  exact ae
 have hX:jD d s st=(d,[],1):=by unfold jD;rw[if_neg Lp,if_neg Nc,if_neg Ao,if_neg B5,if_neg XG,if_neg XF,if_neg gk5,if_neg gk6]
 rw[hX]at hk;cbv;refine Gv zg u3 Nw Tq (key:=.int .i64 st.kind) rfl (fun p hp e=>?_) ?_
 ·simp at hp;rcases hp with hp|hp|hp|hp<;>(subst hp;simp at e;omega)
 refine q7.elim (fun b1 n1 c1 b2 n2 c2 b3 n3 c3 b4 n4 c4 b5 n5 c5 b6 n6 c6 b7 n7 c7 b8 n8 c8 b9 n9 c9 fG gG fF g7 qd7 _ _ _ _ _ _=>?_);have ae:=hk h7 b1 n1 c1 b2 n2 c2 b3 n3 c3 b4 n4 c4 none 0 0 l07 qd7 Sl.nil;clear hk Pe;cbv;have fn:A .not false=true:=by rw[hA.not];rfl
 rw[fn];cbv;first| (refine av g7 rfl rfl ?_;cbv) | (rw[ai A,ai A];refine av g7 rfl rfl ?_;cbv) | (rw[ai A];refine av g7 rfl rfl ?_;cbv)
 exact ae
end Go.S
