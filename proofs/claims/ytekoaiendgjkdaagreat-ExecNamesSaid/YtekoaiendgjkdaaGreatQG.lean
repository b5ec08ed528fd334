import Derived.Test.YtekoaiendgjkdaaGreatQE
import Derived.Test.YtekoaiendgjkdaaGreatQF
import Derived.Test.YtekoaiendgjkdaaGreatQC
import Derived.Test.YtekoaiendgjkdaaGreatQB
import Derived.Test.YtekoaiendgjkdaaGreatRd
import Derived.Test.YtekoaiendgjkdaaGreatGB
import Derived.Test.YtekoaiendgjkdaaGreatGC
import Derived.Test.YtekoaiendgjkdaaGreatEB
import Derived.Test.YtekoaiendgjkdaaGreatEC
set_option linter.unusedVariables false
set_option linter.unusedSimpArgs false
set_option linter.unusedSectionVars false
set_option maxRecDepth 100000
set_option maxHeartbeats 8000000
namespace Go.S
open Go.Sx Go.Proofs
theorem yi:Tryz.prog.underlying 104=some (.map 3 102):=by kernel_rfl
theorem Lq(w:World):(zeroValue 102).run Tryz.prog w=.ok (.nilFunc) w:=by
 have h:((Tryz.prog.info? 102).bind (·.zero))=some (.nilFunc):=by kernel_rfl
 cases h1:Tryz.prog.info? 102 with
 |none=>rw[h1]at h;cases h
 |some i=>rw[h1]at h;simp at h;simp[zeroValue,typeInfo,h1,h]
theorem FZ(d:DB):dX d (-1)=(d,1):=by unfold dX gK;rw[if_pos (by decide)]
abbrev Lp(h:ad)(D:DB×List Row×Int)(k:Value->ad->Prop):Prop:=
 ∀h' x1 m1 d1 x2 m2 d2 x3 m3 d3 x4 m4 d4 b n c,Le h h'->fP h' (.agg #[.slice x1 m1 d1,.slice x2 m2 d2,.slice x3 m3 d3,.slice x4 m4 d4]) D.1->Sl 59 az h' (.slice b n c) D.2.1->k (.tuple #[.agg #[.slice x1 m1 d1,.slice x2 m2 d2,.slice x3 m3 d3,.slice x4 m4 d4],.slice b n c,.int .i64 D.2.2]) h'
structure Gh(d:DB)(s:Int)(st:aB):Prop where
 sel:st.kind=6->∀y,dx st (dY (dm s (bK st) d).1 st)=(y,0)->y.order<0/\(y.kU=true->y.group<0/\∀i∈st.items,i.fn=1)
theorem nk(was:DB)(r:DB×Int):(cC was r).2.1=[]:=by unfold cC;split<;>rfl
theorem yK(d:DB)(s:Int)(x:aB):(jh d s x).2.1=[]:=by
 unfold jh;generalize aO d ⟨s,x.table,true⟩=H;obtain⟨d1,e⟩:=H;show(if e≠0 then(d1,[],e)else cC d1 _:DB×List Row×Int).2.1=[];split
 ·rfl
 ·exact nk ..
theorem yf(d:DB)(s:Int)(x:aB):(jd d s x).2.1=[]:=by
 unfold jd;generalize aO d ⟨s,x.table,true⟩=H;obtain⟨d1,e⟩:=H;show(if e≠0 then(d1,[],e)else if(bU d1 x.table).S.only=true then(d1,[],19)else cC d1 _:DB×List Row×Int).2.1=[];split
 ·rfl
 ·split
  ·rfl
  ·exact nk ..
theorem y7(d:DB)(s:Int)(x:aB):(jl d s x).2.1=[]:=by
 unfold jl;generalize aO d ⟨s,x.table,true⟩=H;obtain⟨d1,e⟩:=H;show(if e≠0 then(d1,[],e)else if(bU d1 x.table).S.only=true then(d1,[],19)else cC d1 _:DB×List Row×Int).2.1=[];split
 ·rfl
 ·split
  ·rfl
  ·exact nk ..
theorem selW{h:ad}{pb:Nat}{d:DB}{s:Int}{st:aB}(q:di h pb d s st)(hx:eO st){n:Nat}(ej:EJ n d)(iq:n+700<2^18)(gu:-2^63<=s/\s<2^63)
 (wH:∀y,dx st (dY (dm s (bK st) d).1 st)=(y,0)->y.order<0/\(y.kU=true->y.group<0/\∀i∈st.items,i.fn=1)) {k:Value->ad->Prop}
 (hk:∀h' b n c,Kp [pb] h h'->di h' pb (ey d s st).1 s st->Sl 59 az h' (.slice b n c) (ey d s st).2.1->k (.tuple #[.slice b n c,.int .i64 (ey d s st).2.2]) h'):
 Ct 44 [.pointer (some ⟨pb,0,none⟩)] h k:=by
 by_cases hj:st.join=b0
 ·exact selE q hx hj ej iq gu wH hk
 ·exact selJ q hx hj ej iq gu wH hk
theorem doC{h:ad}{d:DB}{s:Int}{st:aB}{v:Value}(qd:fP h v d)(hx:eO st){n0:Nat}(ej:EJ n0 d)(iq:n0+700<2^18)(gu:-2^63<=s/\s<2^63)(M3:Gh d s st){w:Value}(qs:PL h w st){k:Value->ad->Prop}(hk:Lp h (rQ d s st) k):
 Ct 19 [v,.int .i64 s,w] h k:=by
 obtain⟨A,hA⟩:=Ar.ex;have sm:=ej.sj.zs.small (by omega:n0<2^18);have f7:A .aF .eql st.kind 7=decide (st.kind=7):=aw A ..;have f9:A .aF .eql st.kind 9=decide (st.kind=9):=aw A ..;have f10:A .aF .eql st.kind 10=decide (st.kind=10):=aw A ..;have f11:A .aF .eql st.kind 11=decide (st.kind=11):=aw A ..;obtain⟨a1,i1,j1,a2,i2,j2,a3,i3,j3,a4,i4,j4,rfl⟩:=qd.form;obtain⟨b5,n5,c5,b6,n6,c6,b7,n7,c7,b8,n8,c8,b9,n9,c9,eQ,fJ,eP,rfl,p1,p2,p3,p4,p5,p6⟩:=qs.out;refine ah A (aq T19.ax T19.bm) Tryz.func19 rfl (by kernel_rfl) ?_;cbv;rw[f7];by_cases Jz:st.kind=7
 ·have hX:rQ d s st=((dX d s).1,[],(dX d s).2):=by unfold rQ;rw[if_pos Jz]
  rw[hX]at hk;obtain⟨D,hD⟩:∃D,dX d s=D:=⟨_,rfl⟩;rw[hD]at hk;obtain⟨D1,De⟩:=D;replace hk:Lp h (D1,[],De) k:=hk;rw[decide_eq_true Jz];cbv;refine rG qd s sm hD (fun h1 x1 m1 d1 x2 m2 d2 x3 m3 d3 x4 m4 d4 l1 wC=>?_);have af:=hk h1 x1 m1 d1 x2 m2 d2 x3 m3 d3 x4 m4 d4 none 0 0 l1 wC Sl.nil;clear hk;cbv;exact af
 rw[decide_eq_false Jz];cbv;rw[f9];by_cases K4:st.kind=9
 ·have hX:rQ d s st=((gO d s).1,[],(gO d s).2):=by unfold rQ;rw[if_neg Jz];rw[if_pos K4]
  rw[hX]at hk;obtain⟨D,hD⟩:∃D,gO d s=D:=⟨_,rfl⟩;rw[hD]at hk;obtain⟨D1,De⟩:=D;replace hk:Lp h (D1,[],De) k:=hk;rw[decide_eq_true K4];cbv;refine zU qd ej.sj.zs (by omega) s hD (fun h1 x1 m1 d1 x2 m2 d2 x3 m3 d3 x4 m4 d4 l1 wC=>?_);have af:=hk h1 x1 m1 d1 x2 m2 d2 x3 m3 d3 x4 m4 d4 none 0 0 l1 wC Sl.nil;clear hk;cbv;exact af
 rw[decide_eq_false K4];cbv;rw[f10];by_cases yZ:st.kind=10
 ·have hX:rQ d s st=((sP d s st.name).1,[],(sP d s st.name).2):=by unfold rQ;rw[if_neg Jz,if_neg K4];rw[if_pos yZ]
  rw[hX]at hk;obtain⟨D,hD⟩:∃D,sP d s st.name=D:=⟨_,rfl⟩;rw[hD]at hk;obtain⟨D1,De⟩:=D;replace hk:Lp h (D1,[],De) k:=hk;rw[decide_eq_true yZ];cbv;refine LW qd s st.name hD (fun h1 x1 m1 d1 x2 m2 d2 x3 m3 d3 x4 m4 d4 l1 wC=>?_);have af:=hk h1 x1 m1 d1 x2 m2 d2 x3 m3 d3 x4 m4 d4 none 0 0 l1 wC Sl.nil;clear hk;cbv;exact af
 rw[decide_eq_false yZ];cbv;rw[f11];by_cases AH:st.kind=11
 ·have hX:rQ d s st=((tz d s st.name).1,[],(tz d s st.name).2):=by unfold rQ;rw[if_neg Jz,if_neg K4,if_neg yZ];rw[if_pos AH]
  rw[hX]at hk;obtain⟨D,hD⟩:∃D,tz d s st.name=D:=⟨_,rfl⟩;rw[hD]at hk;obtain⟨D1,De⟩:=D;replace hk:Lp h (D1,[],De) k:=hk;rw[decide_eq_true AH];cbv;refine N5 qd ej.sj.zs s st.name hD (fun h1 x1 m1 d1 x2 m2 d2 x3 m3 d3 x4 m4 d4 l1 wC=>?_);have af:=hk h1 x1 m1 d1 x2 m2 d2 x3 m3 d3 x4 m4 d4 none 0 0 l1 wC Sl.nil;clear hk;cbv;exact af
 rw[decide_eq_false AH];cbv;skip;refine rG qd (-1) sm (FZ d) (fun h1 b1 n1 c1 b2 n2 c2 b3 n3 c3 b4 n4 c4 l1 wC=>?_);cbv;intro pb h2 f2 e2;have l2:Le h1 h2:=by rw[e2];exact Le.set f2
 have q2:di h2 pb d s st:=⟨⟨b1,n1,c1,b2,n2,c2,b3,n3,c3,b4,n4,c4,b5,n5,c5,b6,n6,c6,b7,n7,c7,b8,n8,c8,b9,n9,c9,eQ,fJ,eP,by rw[e2];exact ae,wC.mono l2,p1.mono ((l1.trans l2).t _),p2.mono ((l1.trans l2).t _),p3.mono ((l1.trans l2).t _),p4.mono ((l1.trans l2).t _),p5.mono ((l1.trans l2).t _),p6.mono ((l1.trans l2).t _)⟩⟩;have hpb:h pb=none:=by
  cases hh:h pb with
  |none=>rfl
  |some o=>rw[l1 _ _ hh]at f2;cases f2
 have iI:=l1.trans l2;clear p1 p2 p3 p4 p5 p6 e2;cbv;intro mb h3 f3 e3;have l3:Le h2 h3:=by rw[e3];exact Le.set f3
 have QM:Mp h3 mb (.int .i64) []:=Mp.new (by rw[e3];exact ae);have zu:Le h2 h3:=l3;clear e3;cbv;refine mu yi u3 QM (key:=.int .i64 3) rfl (fun p hp=>by cases hp) (fun h4 EW k4 t4=>?_);cbv;refine mu yi u3 EW (key:=.int .i64 4) rfl (fun p hp=>?_) (fun h5 TN k5 t5=>?_)
 ·simp at hp;subst hp;simp
 cbv;refine mu yi u3 TN (key:=.int .i64 5) rfl (fun p hp=>?_) (fun h6 mp6 k6 t6=>?_)
 ·simp at hp;rcases hp with hp|hp<;>(subst hp;simp)
 cbv;refine mu yi u3 mp6 (key:=.int .i64 6) rfl (fun p hp=>?_) (fun h7 QL k7 t7=>?_)
 ·simp at hp;rcases hp with hp|hp|hp<;>(subst hp;simp)
 have KK:Le h2 h7:=fun b o hb=>by
  have bG:b∉[mb]:=fun hn=>by
   have:b=mb:=by simpa using hn
   rw[this,f3]at hb;cases hb
  exact k7 _ _ (k6 _ _ (k5 _ _ (k4 _ _ (zu _ _ hb) bG) bG) bG) bG
 have q7:=q2.mono KK;have l07:=iI.trans KK;clear k4 k5 k6 k7 t4 t5 t6 t7 QM EW TN mp6;have Nf:∀h8,Kp [pb] h7 h8->Le h h8:=fun h8 k8 b o hb=>k8 _ _ (l07 _ _ hb) (fun hn=>by
  have:b=pb:=by simpa using hn
  rw[this,hpb]at hb;cases hb)
 by_cases Pq:st.kind=3
 ·have hX:rQ d s st=jh d s st:=by unfold rQ;rw[if_neg Jz,if_neg K4,if_neg yZ,if_neg AH,if_pos Pq]
  rw[hX]at hk;have xI:(jh d s st).2.1=[]:=yK ..;cbv;refine qu yi u3 QL (key:=.int .i64 st.kind) (v:=.func (.func 41) #[.pointer (some ⟨pb,0,none⟩)] #[]) rfl (by rw[Pq];simp) ?_;have Nz:A .not true=false:=by rw[hA.not];rfl
  cbv;rw[Nz];cbv;refine MA q7 hx ej.sj (by omega) gu (fun h8 k8 q8=>?_);generalize jh d s st=D at *;obtain⟨D1,DR,De⟩:=D;replace q8:di h8 pb D1 s st:=q8;replace hk:Lp h (D1,DR,De) k:=hk;replace xI:DR=[]:=xI;subst xI;refine q8.elim (fun b1 n1 c1 b2 n2 c2 b3 n3 c3 b4 n4 c4 b5 n5 c5 b6 n6 c6 b7 n7 c7 b8 n8 c8 b9 n9 c9 eQ fJ eP g8 Qj _ _ _ _ _ _=>?_);have af:=hk h8 b1 n1 c1 b2 n2 c2 b3 n3 c3 b4 n4 c4 none 0 0 (Nf _ k8) Qj Sl.nil;clear hk Nf;cbv;first| (refine ar g8 rfl rfl ?_;cbv) | (rw[ai A,ai A];refine ar g8 rfl rfl ?_;cbv) | (rw[ai A];refine ar g8 rfl rfl ?_;cbv)
  exact af
 by_cases Ur:st.kind=4
 ·have hX:rQ d s st=jd d s st:=by unfold rQ;rw[if_neg Jz,if_neg K4,if_neg yZ,if_neg AH,if_neg Pq,if_pos Ur]
  rw[hX]at hk;have xI:(jd d s st).2.1=[]:=yf ..;cbv;refine qu yi u3 QL (key:=.int .i64 st.kind) (v:=.func (.func 42) #[.pointer (some ⟨pb,0,none⟩)] #[]) rfl (by rw[Ur];simp) ?_;have Nz:A .not true=false:=by rw[hA.not];rfl
  cbv;rw[Nz];cbv;refine updW q7 hx Ur ej (by omega) gu (fun h8 k8 q8=>?_);generalize jd d s st=D at *;obtain⟨D1,DR,De⟩:=D;replace q8:di h8 pb D1 s st:=q8;replace hk:Lp h (D1,DR,De) k:=hk;replace xI:DR=[]:=xI;subst xI;refine q8.elim (fun b1 n1 c1 b2 n2 c2 b3 n3 c3 b4 n4 c4 b5 n5 c5 b6 n6 c6 b7 n7 c7 b8 n8 c8 b9 n9 c9 eQ fJ eP g8 Qj _ _ _ _ _ _=>?_);have af:=hk h8 b1 n1 c1 b2 n2 c2 b3 n3 c3 b4 n4 c4 none 0 0 (Nf _ k8) Qj Sl.nil;clear hk Nf;cbv;first| (refine ar g8 rfl rfl ?_;cbv) | (rw[ai A,ai A];refine ar g8 rfl rfl ?_;cbv) | (rw[ai A];refine ar g8 rfl rfl ?_;cbv)
  exact af
 by_cases gk5:st.kind=5
 ·have hX:rQ d s st=jl d s st:=by unfold rQ;rw[if_neg Jz,if_neg K4,if_neg yZ,if_neg AH,if_neg Pq,if_neg Ur,if_pos gk5]
  rw[hX]at hk;have xI:(jl d s st).2.1=[]:=y7 ..;cbv;refine qu yi u3 QL (key:=.int .i64 st.kind) (v:=.func (.func 43) #[.pointer (some ⟨pb,0,none⟩)] #[]) rfl (by rw[gk5];simp) ?_;have Nz:A .not true=false:=by rw[hA.not];rfl
  cbv;rw[Nz];cbv;refine delW q7 hx ej (by omega) gu (fun h8 k8 q8=>?_);generalize jl d s st=D at *;obtain⟨D1,DR,De⟩:=D;replace q8:di h8 pb D1 s st:=q8;replace hk:Lp h (D1,DR,De) k:=hk;replace xI:DR=[]:=xI;subst xI;refine q8.elim (fun b1 n1 c1 b2 n2 c2 b3 n3 c3 b4 n4 c4 b5 n5 c5 b6 n6 c6 b7 n7 c7 b8 n8 c8 b9 n9 c9 eQ fJ eP g8 Qj _ _ _ _ _ _=>?_);have af:=hk h8 b1 n1 c1 b2 n2 c2 b3 n3 c3 b4 n4 c4 none 0 0 (Nf _ k8) Qj Sl.nil;clear hk Nf;cbv;first| (refine ar g8 rfl rfl ?_;cbv) | (rw[ai A,ai A];refine ar g8 rfl rfl ?_;cbv) | (rw[ai A];refine ar g8 rfl rfl ?_;cbv)
  exact af
 by_cases gk6:st.kind=6
 ·have hX:rQ d s st=ey d s st:=by unfold rQ;rw[if_neg Jz,if_neg K4,if_neg yZ,if_neg AH,if_neg Pq,if_neg Ur,if_neg gk5,if_pos gk6]
  rw[hX]at hk;have xI:True:=trivial;cbv;refine qu yi u3 QL (key:=.int .i64 st.kind) (v:=.func (.func 44) #[.pointer (some ⟨pb,0,none⟩)] #[]) rfl (by rw[gk6];simp) ?_;have Nz:A .not true=false:=by rw[hA.not];rfl
  cbv;rw[Nz];cbv;refine selW q7 hx ej (by omega) gu (M3.sel gk6) (fun h8 b8 n8 c8 k8 q8 s8=>?_);generalize ey d s st=D at *;obtain⟨D1,DR,De⟩:=D;replace q8:di h8 pb D1 s st:=q8;replace hk:Lp h (D1,DR,De) k:=hk;replace s8:Sl 59 az h8 (.slice b8 n8 c8) DR:=s8;skip;refine q8.elim (fun b1 n1 c1 b2 n2 c2 b3 n3 c3 b4 n4 c4 b5 n5 c5 b6 n6 c6 b7 n7 c7 y8 u8 v8 b9 n9 c9 eQ fJ eP g8 Qj _ _ _ _ _ _=>?_);have af:=hk h8 b1 n1 c1 b2 n2 c2 b3 n3 c3 b4 n4 c4 b8 n8 c8 (Nf _ k8) Qj s8;clear hk Nf;cbv;first| (refine ar g8 rfl rfl ?_;cbv) | (rw[ai A,ai A];refine ar g8 rfl rfl ?_;cbv) | (rw[ai A];refine ar g8 rfl rfl ?_;cbv)
  exact af
 have hX:rQ d s st=(d,[],1):=by unfold rQ;rw[if_neg Jz,if_neg K4,if_neg yZ,if_neg AH,if_neg Pq,if_neg Ur,if_neg gk5,if_neg gk6]
 rw[hX]at hk;cbv;refine EA yi u3 Lq QL (key:=.int .i64 st.kind) rfl (fun p hp e=>?_) ?_
 ·simp at hp;rcases hp with hp|hp|hp|hp<;>(subst hp;simp at e;omega)
 refine q7.elim (fun b1 n1 c1 b2 n2 c2 b3 n3 c3 b4 n4 c4 b5 n5 c5 b6 n6 c6 b7 n7 c7 b8 n8 c8 b9 n9 c9 eQ fJ eP g7 qd7 _ _ _ _ _ _=>?_);have af:=hk h7 b1 n1 c1 b2 n2 c2 b3 n3 c3 b4 n4 c4 none 0 0 l07 qd7 Sl.nil;clear hk Nf;cbv;have fn:A .not false=true:=by rw[hA.not];rfl
 rw[fn];cbv;first| (refine ar g7 rfl rfl ?_;cbv) | (rw[ai A,ai A];refine ar g7 rfl rfl ?_;cbv) | (rw[ai A];refine ar g7 rfl rfl ?_;cbv)
 exact af
end Go.S
