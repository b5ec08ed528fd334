import Derived.Test.YtekoaiendgjkdaaGreatQE
import Derived.Test.YtekoaiendgjkdaaGreatQB
import Derived.Test.YtekoaiendgjkdaaGreatRd
import Derived.Test.YtekoaiendgjkdaaGreatGB
import Derived.Test.YtekoaiendgjkdaaGreatGC
import Derived.Test.YtekoaiendgjkdaaGreatEB
import Derived.Test.YtekoaiendgjkdaaGreatEC
set_option linter.unusedVariables false
set_option linter.unusedSimpArgs false
set_option linter.unusedSectionVars false
set_option maxRecDepth 100000
set_option maxHeartbeats 8000000
namespace Go.S
open Go.Sx Go.Proofs
theorem wV:Tryz.prog.underlying 104=some (.map 3 102):=by kernel_rfl
theorem JD(w:World):(zeroValue 102).run Tryz.prog w=.ok (.nilFunc) w:=by
 have h:((Tryz.prog.info? 102).bind (·.zero))=some (.nilFunc):=by kernel_rfl
 cases h1:Tryz.prog.info? 102 with
 |none=>rw[h1]at h;cases h
 |some i=>rw[h1]at h;simp at h;simp[zeroValue,typeInfo,h1,h]
theorem EB(d:DB):ed d (-1)=(d,1):=by unfold ed gj;rw[if_pos (by decide)]
abbrev JC(h:ad)(D:DB×List Row×Int)(k:Value->ad->Prop):Prop:=
 ∀h' x1 m1 d1 x2 m2 d2 x3 m3 d3 x4 m4 d4 b n c,Le h h'->gA h' (.agg #[.slice x1 m1 d1,.slice x2 m2 d2,.slice x3 m3 d3,.slice x4 m4 d4]) D.1->Sl 59 aN h' (.slice b n c) D.2.1->k (.tuple #[.agg #[.slice x1 m1 d1,.slice x2 m2 d2,.slice x3 m3 d3,.slice x4 m4 d4],.slice b n c,.int .i64 D.2.2]) h'
theorem mM(was:DB)(r:DB×Int):(cY was r).2.1=[]:=by unfold cY;split<;>rfl
theorem xI(d:DB)(s:Int)(x:aA):(iW d s x).2.1=[]:=by
 unfold iW;generalize ax d ⟨s,x.table,true⟩=H;obtain⟨d1,e⟩:=H;show(if e≠0 then(d1,[],e)else cY d1 _:DB×List Row×Int).2.1=[];split
 ·rfl
 ·exact mM ..
theorem wT(d:DB)(s:Int)(x:aA):(kg d s x).2.1=[]:=by
 unfold kg;generalize ax d ⟨s,x.table,true⟩=H;obtain⟨d1,e⟩:=H;show(if e≠0 then(d1,[],e)else if(dG d1 x.table).S.only=true then(d1,[],19)else cY d1 _:DB×List Row×Int).2.1=[];split
 ·rfl
 ·split
  ·rfl
  ·exact mM ..
theorem xX(d:DB)(s:Int)(x:aA):(kD d s x).2.1=[]:=by
 unfold kD;generalize ax d ⟨s,x.table,true⟩=H;obtain⟨d1,e⟩:=H;show(if e≠0 then(d1,[],e)else if(dG d1 x.table).S.only=true then(d1,[],19)else cY d1 _:DB×List Row×Int).2.1=[];split
 ·rfl
 ·split
  ·rfl
  ·exact mM ..
theorem doC{h:ad}{d:DB}{s:Int}{st:aA}{v:Value}(qd:gA h v d)(hx:gy st){n0:Nat}(ej:EJ n0 d)(kT:n0+700<2^18)(nN:-2^63<=s/\s<2^63)(ET:uS d s st){w:Value}(qs:N0 h w st){k:Value->ad->Prop}(hk:JC h (ny d s st) k):
 Ct 19 [v,.int .i64 s,w] h k:=by
 obtain⟨A,hA⟩:=Ar.ex;have sm:=ej.sj.DE.small (by omega:n0<2^18);have f7:A .aD .eql st.kind 7=decide (st.kind=7):=av A ..;have f9:A .aD .eql st.kind 9=decide (st.kind=9):=av A ..;have f10:A .aD .eql st.kind 10=decide (st.kind=10):=av A ..;have f11:A .aD .eql st.kind 11=decide (st.kind=11):=av A ..;obtain⟨a1,i1,j1,a2,i2,j2,a3,i3,j3,a4,i4,j4,rfl⟩:=qd.form;obtain⟨b5,n5,c5,b6,n6,c6,b7,n7,c7,b8,n8,c8,b9,n9,c9,fJ,iq,fI,rfl,p1,p2,p3,p4,p5,p6⟩:=qs.out;refine af A (ar T19.aw T19.aZ) Tryz.func19 rfl (by kernel_rfl) ?_;cbv;rw[f7];by_cases HP:st.kind=7
 ·have hX:ny d s st=((ed d s).1,[],(ed d s).2):=by unfold ny;rw[if_pos HP]
  rw[hX]at hk;obtain⟨D,hD⟩:∃D,ed d s=D:=⟨_,rfl⟩;rw[hD]at hk;obtain⟨D1,De⟩:=D;replace hk:JC h (D1,[],De) k:=hk;rw[decide_eq_true HP];cbv;refine qC qd s sm hD (fun h1 x1 m1 d1 x2 m2 d2 x3 m3 d3 x4 m4 d4 l1 yL=>?_);have ae:=hk h1 x1 m1 d1 x2 m2 d2 x3 m3 d3 x4 m4 d4 none 0 0 l1 yL Sl.nil;clear hk;cbv;exact ae
 rw[decide_eq_false HP];cbv;rw[f9];by_cases Jv:st.kind=9
 ·have hX:ny d s st=((gE d s).1,[],(gE d s).2):=by unfold ny;rw[if_neg HP];rw[if_pos Jv]
  rw[hX]at hk;obtain⟨D,hD⟩:∃D,gE d s=D:=⟨_,rfl⟩;rw[hD]at hk;obtain⟨D1,De⟩:=D;replace hk:JC h (D1,[],De) k:=hk;rw[decide_eq_true Jv];cbv;refine yJ qd ej.sj.DE (by omega) s hD (fun h1 x1 m1 d1 x2 m2 d2 x3 m3 d3 x4 m4 d4 l1 yL=>?_);have ae:=hk h1 x1 m1 d1 x2 m2 d2 x3 m3 d3 x4 m4 d4 none 0 0 l1 yL Sl.nil;clear hk;cbv;exact ae
 rw[decide_eq_false Jv];cbv;rw[f10];by_cases xU:st.kind=10
 ·have hX:ny d s st=((rr d s st.name).1,[],(rr d s st.name).2):=by unfold ny;rw[if_neg HP,if_neg Jv];rw[if_pos xU]
  rw[hX]at hk;obtain⟨D,hD⟩:∃D,rr d s st.name=D:=⟨_,rfl⟩;rw[hD]at hk;obtain⟨D1,De⟩:=D;replace hk:JC h (D1,[],De) k:=hk;rw[decide_eq_true xU];cbv;refine J5 qd s st.name hD (fun h1 x1 m1 d1 x2 m2 d2 x3 m3 d3 x4 m4 d4 l1 yL=>?_);have ae:=hk h1 x1 m1 d1 x2 m2 d2 x3 m3 d3 x4 m4 d4 none 0 0 l1 yL Sl.nil;clear hk;cbv;exact ae
 rw[decide_eq_false xU];cbv;rw[f11];by_cases zK:st.kind=11
 ·have hX:ny d s st=((rM d s st.name).1,[],(rM d s st.name).2):=by unfold ny;rw[if_neg HP,if_neg Jv,if_neg xU];rw[if_pos zK]
  rw[hX]at hk;obtain⟨D,hD⟩:∃D,rM d s st.name=D:=⟨_,rfl⟩;rw[hD]at hk;obtain⟨D1,De⟩:=D;replace hk:JC h (D1,[],De) k:=hk;rw[decide_eq_true zK];cbv;refine Mk qd ej.sj.DE s st.name hD (fun h1 x1 m1 d1 x2 m2 d2 x3 m3 d3 x4 m4 d4 l1 yL=>?_);have ae:=hk h1 x1 m1 d1 x2 m2 d2 x3 m3 d3 x4 m4 d4 none 0 0 l1 yL Sl.nil;clear hk;cbv;exact ae
 rw[decide_eq_false zK];cbv;skip;refine qC qd (-1) sm (EB d) (fun h1 b1 n1 c1 b2 n2 c2 b3 n3 c3 b4 n4 c4 l1 yL=>?_);cbv;intro pb h2 f2 e2;have l2:Le h1 h2:=by rw[e2];exact Le.set f2
 have q2:iD h2 pb d s st:=⟨⟨b1,n1,c1,b2,n2,c2,b3,n3,c3,b4,n4,c4,b5,n5,c5,b6,n6,c6,b7,n7,c7,b8,n8,c8,b9,n9,c9,fJ,iq,fI,by rw[e2];exact ah,yL.mono l2,p1.mono ((l1.trans l2).t _),p2.mono ((l1.trans l2).t _),p3.mono ((l1.trans l2).t _),p4.mono ((l1.trans l2).t _),p5.mono ((l1.trans l2).t _),p6.mono ((l1.trans l2).t _)⟩⟩;have hpb:h pb=none:=by
  cases hh:h pb with
  |none=>rfl
  |some o=>rw[l1 _ _ hh]at f2;cases f2
 have lT:=l1.trans l2;clear p1 p2 p3 p4 p5 p6 e2;cbv;intro mb h3 f3 e3;have l3:Le h2 h3:=by rw[e3];exact Le.set f3
 have OW:Mp h3 mb (.int .i64) []:=Mp.new (by rw[e3];exact ah);have Yo:Le h2 h3:=l3;clear e3;cbv;refine lL wV u3 OW (key:=.int .i64 3) rfl (fun p hp=>by cases hp) (fun h4 DH k4 t4=>?_);cbv;refine lL wV u3 DH (key:=.int .i64 4) rfl (fun p hp=>?_) (fun h5 Rz k5 t5=>?_)
 ·simp at hp;subst hp;simp
 cbv;refine lL wV u3 Rz (key:=.int .i64 5) rfl (fun p hp=>?_) (fun h6 Yj k6 t6=>?_)
 ·simp at hp;rcases hp with hp|hp<;>(subst hp;simp)
 cbv;refine lL wV u3 Yj (key:=.int .i64 6) rfl (fun p hp=>?_) (fun h7 OV k7 t7=>?_)
 ·simp at hp;rcases hp with hp|hp|hp<;>(subst hp;simp)
 have Jc:Le h2 h7:=fun b o hb=>by
  have bU:b∉[mb]:=fun hn=>by
   have:b=mb:=by simpa using hn
   rw[this,f3]at hb;cases hb
  exact k7 _ _ (k6 _ _ (k5 _ _ (k4 _ _ (Yo _ _ hb) bU) bU) bU) bU
 have q7:=q2.mono Jc;have Yp:=lT.trans Jc;clear k4 k5 k6 k7 t4 t5 t6 t7 OW DH Rz Yj;have Lr:∀h8,Kp [pb] h7 h8->Le h h8:=fun h8 k8 b o hb=>k8 _ _ (Yp _ _ hb) (fun hn=>by
  have:b=pb:=by simpa using hn
  rw[this,hpb]at hb;cases hb)
 by_cases R6:st.kind=3
 ·have hX:ny d s st=iW d s st:=by unfold ny;rw[if_neg HP,if_neg Jv,if_neg xU,if_neg zK,if_pos R6]
  rw[hX]at hk;have ym:(iW d s st).2.1=[]:=xI ..;cbv;refine pw wV u3 OV (key:=.int .i64 st.kind) (v:=.func (.func 41) #[.pointer (some ⟨pb,0,none⟩)] #[]) rfl (by rw[R6];simp) ?_;have HV:A .not true=false:=by rw[hA.not];rfl
  cbv;rw[HV];cbv;refine KE q7 hx ej.sj (by omega) nN (fun h8 k8 q8=>?_);generalize iW d s st=D at *;obtain⟨D1,DR,De⟩:=D;replace q8:iD h8 pb D1 s st:=q8;replace hk:JC h (D1,DR,De) k:=hk;replace ym:DR=[]:=ym;subst ym;refine q8.elim (fun b1 n1 c1 b2 n2 c2 b3 n3 c3 b4 n4 c4 b5 n5 c5 b6 n6 c6 b7 n7 c7 b8 n8 c8 b9 n9 c9 fJ iq fI g8 AW _ _ _ _ _ _=>?_);have ae:=hk h8 b1 n1 c1 b2 n2 c2 b3 n3 c3 b4 n4 c4 none 0 0 (Lr _ k8) AW Sl.nil;clear hk Lr;cbv;first| (refine ay g8 rfl rfl ?_;cbv) | (rw[aj A,aj A];refine ay g8 rfl rfl ?_;cbv) | (rw[aj A];refine ay g8 rfl rfl ?_;cbv)
  exact ae
 by_cases R5:st.kind=4
 ·have hX:ny d s st=kg d s st:=by unfold ny;rw[if_neg HP,if_neg Jv,if_neg xU,if_neg zK,if_neg R6,if_pos R5]
  rw[hX]at hk;have ym:(kg d s st).2.1=[]:=wT ..;cbv;refine pw wV u3 OV (key:=.int .i64 st.kind) (v:=.func (.func 42) #[.pointer (some ⟨pb,0,none⟩)] #[]) rfl (by rw[R5];simp) ?_;have HV:A .not true=false:=by rw[hA.not];rfl
  cbv;rw[HV];cbv;refine ET.C8 R5 q7 hx ej (by omega) nN (fun h8 k8 q8=>?_);generalize kg d s st=D at *;obtain⟨D1,DR,De⟩:=D;replace q8:iD h8 pb D1 s st:=q8;replace hk:JC h (D1,DR,De) k:=hk;replace ym:DR=[]:=ym;subst ym;refine q8.elim (fun b1 n1 c1 b2 n2 c2 b3 n3 c3 b4 n4 c4 b5 n5 c5 b6 n6 c6 b7 n7 c7 b8 n8 c8 b9 n9 c9 fJ iq fI g8 AW _ _ _ _ _ _=>?_);have ae:=hk h8 b1 n1 c1 b2 n2 c2 b3 n3 c3 b4 n4 c4 none 0 0 (Lr _ k8) AW Sl.nil;clear hk Lr;cbv;first| (refine ay g8 rfl rfl ?_;cbv) | (rw[aj A,aj A];refine ay g8 rfl rfl ?_;cbv) | (rw[aj A];refine ay g8 rfl rfl ?_;cbv)
  exact ae
 by_cases UQ:st.kind=5
 ·have hX:ny d s st=kD d s st:=by unfold ny;rw[if_neg HP,if_neg Jv,if_neg xU,if_neg zK,if_neg R6,if_neg R5,if_pos UQ]
  rw[hX]at hk;have ym:(kD d s st).2.1=[]:=xX ..;cbv;refine pw wV u3 OV (key:=.int .i64 st.kind) (v:=.func (.func 43) #[.pointer (some ⟨pb,0,none⟩)] #[]) rfl (by rw[UQ];simp) ?_;have HV:A .not true=false:=by rw[hA.not];rfl
  cbv;rw[HV];cbv;refine ET.del UQ q7 hx ej (by omega) nN (fun h8 k8 q8=>?_);generalize kD d s st=D at *;obtain⟨D1,DR,De⟩:=D;replace q8:iD h8 pb D1 s st:=q8;replace hk:JC h (D1,DR,De) k:=hk;replace ym:DR=[]:=ym;subst ym;refine q8.elim (fun b1 n1 c1 b2 n2 c2 b3 n3 c3 b4 n4 c4 b5 n5 c5 b6 n6 c6 b7 n7 c7 b8 n8 c8 b9 n9 c9 fJ iq fI g8 AW _ _ _ _ _ _=>?_);have ae:=hk h8 b1 n1 c1 b2 n2 c2 b3 n3 c3 b4 n4 c4 none 0 0 (Lr _ k8) AW Sl.nil;clear hk Lr;cbv;first| (refine ay g8 rfl rfl ?_;cbv) | (rw[aj A,aj A];refine ay g8 rfl rfl ?_;cbv) | (rw[aj A];refine ay g8 rfl rfl ?_;cbv)
  exact ae
 by_cases YU:st.kind=6
 ·have hX:ny d s st=fM d s st:=by unfold ny;rw[if_neg HP,if_neg Jv,if_neg xU,if_neg zK,if_neg R6,if_neg R5,if_neg UQ,if_pos YU]
  rw[hX]at hk;have ym:True:=trivial;cbv;refine pw wV u3 OV (key:=.int .i64 st.kind) (v:=.func (.func 44) #[.pointer (some ⟨pb,0,none⟩)] #[]) rfl (by rw[YU];simp) ?_;have HV:A .not true=false:=by rw[hA.not];rfl
  cbv;rw[HV];cbv;refine ET.sel YU q7 hx ej (by omega) nN (fun h8 b8 n8 c8 k8 q8 s8=>?_);generalize fM d s st=D at *;obtain⟨D1,DR,De⟩:=D;replace q8:iD h8 pb D1 s st:=q8;replace hk:JC h (D1,DR,De) k:=hk;replace s8:Sl 59 aN h8 (.slice b8 n8 c8) DR:=s8;skip;refine q8.elim (fun b1 n1 c1 b2 n2 c2 b3 n3 c3 b4 n4 c4 b5 n5 c5 b6 n6 c6 b7 n7 c7 y8 u8 v8 b9 n9 c9 fJ iq fI g8 AW _ _ _ _ _ _=>?_);have ae:=hk h8 b1 n1 c1 b2 n2 c2 b3 n3 c3 b4 n4 c4 b8 n8 c8 (Lr _ k8) AW s8;clear hk Lr;cbv;first| (refine ay g8 rfl rfl ?_;cbv) | (rw[aj A,aj A];refine ay g8 rfl rfl ?_;cbv) | (rw[aj A];refine ay g8 rfl rfl ?_;cbv)
  exact ae
 have hX:ny d s st=(d,[],1):=by unfold ny;rw[if_neg HP,if_neg Jv,if_neg xU,if_neg zK,if_neg R6,if_neg R5,if_neg UQ,if_neg YU]
 rw[hX]at hk;cbv;refine Dn wV u3 JD OV (key:=.int .i64 st.kind) rfl (fun p hp e=>?_) ?_
 ·simp at hp;rcases hp with hp|hp|hp|hp<;>(subst hp;simp at e;omega)
 refine q7.elim (fun b1 n1 c1 b2 n2 c2 b3 n3 c3 b4 n4 c4 b5 n5 c5 b6 n6 c6 b7 n7 c7 b8 n8 c8 b9 n9 c9 fJ iq fI g7 qd7 _ _ _ _ _ _=>?_);have ae:=hk h7 b1 n1 c1 b2 n2 c2 b3 n3 c3 b4 n4 c4 none 0 0 Yp qd7 Sl.nil;clear hk Lr;cbv;have fn:A .not false=true:=by rw[hA.not];rfl
 rw[fn];cbv;first| (refine ay g7 rfl rfl ?_;cbv) | (rw[aj A,aj A];refine ay g7 rfl rfl ?_;cbv) | (rw[aj A];refine ay g7 rfl rfl ?_;cbv)
 exact ae
end Go.S
