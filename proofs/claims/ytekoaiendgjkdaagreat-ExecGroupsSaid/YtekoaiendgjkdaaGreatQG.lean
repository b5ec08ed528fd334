import Derived.Test.YtekoaiendgjkdaaGreatQE
import Derived.Test.YtekoaiendgjkdaaGreatQB
import Derived.Test.YtekoaiendgjkdaaGreatRd
import Derived.Test.YtekoaiendgjkdaaGreatGB
import Derived.Test.YtekoaiendgjkdaaGreatGC
import Derived.Test.YtekoaiendgjkdaaGreatEB
import Derived.Test.YtekoaiendgjkdaaGreatEC
set_option linter.unusedVariables false
set_option linter.unusedSimpArgs false
set_option linter.unusedSectionVars false
set_option maxRecDepth 100000
set_option maxHeartbeats 8000000
namespace Go.S
open Go.Sx Go.Proofs
theorem LB:Tryz.prog.underlying 104=some (.map 3 102):=by kernel_rfl
theorem bJh(w:World):(zeroValue 102).run Tryz.prog w=.ok (.nilFunc) w:=by
 have h:((Tryz.prog.info? 102).bind (·.zero))=some (.nilFunc):=by kernel_rfl
 cases h1:Tryz.prog.info? 102 with
 |none=>rw[h1]at h;cases h
 |some i=>rw[h1]at h;simp at h;simp[zeroValue,typeInfo,h1,h]
theorem ZT(d:DB):dy d (-1)=(d,1):=by unfold dy jh;rw[if_pos (by decide)]
abbrev bJf(h:ad)(D:DB×List Row×Int)(k:Value->ad->Prop):Prop:=
 ∀h' x1 m1 d1 x2 m2 d2 x3 m3 d3 x4 m4 d4 b n c,Le h h'->ik h' (.agg #[.slice x1 m1 d1,.slice x2 m2 d2,.slice x3 m3 d3,.slice x4 m4 d4]) D.1->Sl 59 aD h' (.slice b n c) D.2.1->k (.tuple #[.agg #[.slice x1 m1 d1,.slice x2 m2 d2,.slice x3 m3 d3,.slice x4 m4 d4],.slice b n c,.int .i64 D.2.2]) h'
theorem wX(dQV:DB)(r:DB×Int):(cP dQV r).2.1=[]:=by unfold cP;split<;>rfl
theorem MC(d:DB)(s:Int)(x:aJ):(nO d s x).2.1=[]:=by
 unfold nO;generalize aL d ⟨s,x.table,true⟩=H;obtain⟨d1,e⟩:=H;show(if e≠0 then(d1,[],e)else cP d1 _:DB×List Row×Int).2.1=[];split
 ·rfl
 ·exact wX ..
theorem Lz(d:DB)(s:Int)(x:aJ):(kj d s x).2.1=[]:=by
 unfold kj;generalize aL d ⟨s,x.table,true⟩=H;obtain⟨d1,e⟩:=H;show(if e≠0 then(d1,[],e)else if(cI d1 x.table).S.only=true then(d1,[],19)else cP d1 _:DB×List Row×Int).2.1=[];split
 ·rfl
 ·split
  ·rfl
  ·exact wX ..
theorem Nl(d:DB)(s:Int)(x:aJ):(jt d s x).2.1=[]:=by
 unfold jt;generalize aL d ⟨s,x.table,true⟩=H;obtain⟨d1,e⟩:=H;show(if e≠0 then(d1,[],e)else if(cI d1 x.table).S.only=true then(d1,[],19)else cP d1 _:DB×List Row×Int).2.1=[];split
 ·rfl
 ·split
  ·rfl
  ·exact wX ..
theorem iJL{h:ad}{d:DB}{s:Int}{st:aJ}{v:Value}(qd:ik h v d)(hx:dr st){n0:Nat}(ej:EJ n0 d)(jm:n0+700<2^18)(jx:-2^63<=s/\s<2^63)(Gm:iE d s st){w:Value}(qs:aQG h w st){k:Value->ad->Prop}(hk:bJf h (iD d s st) k):
 Ct 19 [v,.int .i64 s,w] h k:=by
 obtain⟨A,hA⟩:=Ar.ex;have sm:=ej.sj.Ko.small (by omega:n0<2^18);have f7:A .aI .eql st.kind 7=decide (st.kind=7):=aA A ..;have f9:A .aI .eql st.kind 9=decide (st.kind=9):=aA A ..;have f10:A .aI .eql st.kind 10=decide (st.kind=10):=aA A ..;have f11:A .aI .eql st.kind 11=decide (st.kind=11):=aA A ..;obtain⟨a1,i1,j1,a2,i2,j2,a3,i3,j3,a4,i4,j4,rfl⟩:=qd.form;obtain⟨b5,n5,c5,b6,n6,c6,b7,n7,c7,b8,n8,c8,b9,n9,c9,gW,jD,gT,rfl,p1,p2,p3,p4,p5,p6⟩:=qs.out;refine ah A (ax jKZ.aK jKZ.bF) Tryz.func19 rfl (by kernel_rfl) ?_;cbv;rw[f7];by_cases bQk:st.kind=7
 ·have hX:iD d s st=((dy d s).1,[],(dy d s).2):=by unfold iD;rw[if_pos bQk]
  rw[hX]at hk;obtain⟨D,hD⟩:∃D,dy d s=D:=⟨_,rfl⟩;rw[hD]at hk;obtain⟨D1,De⟩:=D;replace hk:bJf h (D1,[],De) k:=hk;rw[kS bQk];cbv;refine uX qd s sm hD (fun h1 x1 m1 d1 x2 m2 d2 x3 m3 d3 x4 m4 d4 l1 Jq=>?_);have af:=hk h1 x1 m1 d1 x2 m2 d2 x3 m3 d3 x4 m4 d4 none 0 0 l1 Jq Sl.nil;clear hk;cbv;exact af
 rw[nM bQk];cbv;rw[f9];by_cases bZY:st.kind=9
 ·have hX:iD d s st=((dC d s).1,[],(dC d s).2):=by unfold iD;rw[if_neg bQk];rw[if_pos bZY]
  rw[hX]at hk;obtain⟨D,hD⟩:∃D,dC d s=D:=⟨_,rfl⟩;rw[hD]at hk;obtain⟨D1,De⟩:=D;replace hk:bJf h (D1,[],De) k:=hk;rw[kS bZY];cbv;refine OO qd ej.sj.Ko (by omega) s hD (fun h1 x1 m1 d1 x2 m2 d2 x3 m3 d3 x4 m4 d4 l1 Jq=>?_);have af:=hk h1 x1 m1 d1 x2 m2 d2 x3 m3 d3 x4 m4 d4 none 0 0 l1 Jq Sl.nil;clear hk;cbv;exact af
 rw[nM bZY];cbv;rw[f10];by_cases Nc:st.kind=10
 ·have hX:iD d s st=((jT d s st.name).1,[],(jT d s st.name).2):=by unfold iD;rw[if_neg bQk,if_neg bZY];rw[if_pos Nc]
  rw[hX]at hk;obtain⟨D,hD⟩:∃D,jT d s st.name=D:=⟨_,rfl⟩;rw[hD]at hk;obtain⟨D1,De⟩:=D;replace hk:bJf h (D1,[],De) k:=hk;rw[kS Nc];cbv;refine bKh qd s st.name hD (fun h1 x1 m1 d1 x2 m2 d2 x3 m3 d3 x4 m4 d4 l1 Jq=>?_);have af:=hk h1 x1 m1 d1 x2 m2 d2 x3 m3 d3 x4 m4 d4 none 0 0 l1 Jq Sl.nil;clear hk;cbv;exact af
 rw[nM Nc];cbv;rw[f11];by_cases Qv:st.kind=11
 ·have hX:iD d s st=((kg d s st.name).1,[],(kg d s st.name).2):=by unfold iD;rw[if_neg bQk,if_neg bZY,if_neg Nc];rw[if_pos Qv]
  rw[hX]at hk;obtain⟨D,hD⟩:∃D,kg d s st.name=D:=⟨_,rfl⟩;rw[hD]at hk;obtain⟨D1,De⟩:=D;replace hk:bJf h (D1,[],De) k:=hk;rw[kS Qv];cbv;refine cZv qd ej.sj.Ko s st.name hD (fun h1 x1 m1 d1 x2 m2 d2 x3 m3 d3 x4 m4 d4 l1 Jq=>?_);have af:=hk h1 x1 m1 d1 x2 m2 d2 x3 m3 d3 x4 m4 d4 none 0 0 l1 Jq Sl.nil;clear hk;cbv;exact af
 rw[nM Qv];cbv;skip;refine uX qd (-1) sm (ZT d) (fun h1 b1 n1 c1 b2 n2 c2 b3 n3 c3 b4 n4 c4 l1 Jq=>?_);cbv;intro pb h2 f2 e2;have l2:Le h1 h2:=by rw[e2];exact Le.set f2
 have q2:fM h2 pb d s st:=⟨⟨b1,n1,c1,b2,n2,c2,b3,n3,c3,b4,n4,c4,b5,n5,c5,b6,n6,c6,b7,n7,c7,b8,n8,c8,b9,n9,c9,gW,jD,gT,by rw[e2];exact ae,Jq.mono l2,p1.mono ((l1.trans l2).t _),p2.mono ((l1.trans l2).t _),p3.mono ((l1.trans l2).t _),p4.mono ((l1.trans l2).t _),p5.mono ((l1.trans l2).t _),p6.mono ((l1.trans l2).t _)⟩⟩;have kJT:h pb=none:=by
  cases hh:h pb with
  |none=>rfl
  |some o=>rw[l1 _ _ hh]at f2;cases f2
 have jZ:=l1.trans l2;clear p1 p2 p3 p4 p5 p6 e2;cbv;intro mb h3 f3 e3;have l3:Le h2 h3:=by rw[e3];exact Le.set f3
 have dZL:Mp h3 mb (.int .i64) []:=Mp.new (by rw[e3];exact ae);have ET:Le h2 h3:=l3;clear e3;cbv;refine vz LB u3 dZL (key:=.int .i64 3) rfl (fun p hp=>by cases hp) (fun h4 Yu k4 t4=>?_);cbv;refine vz LB u3 Yu (key:=.int .i64 4) rfl (fun p hp=>?_) (fun h5 eZg k5 t5=>?_)
 ·simp at hp;subst hp;simp
 cbv;refine vz LB u3 eZg (key:=.int .i64 5) rfl (fun p hp=>?_) (fun h6 gJp k6 t6=>?_)
 ·simp at hp;rcases hp with hp|hp<;>(subst hp;simp)
 cbv;refine vz LB u3 gJp (key:=.int .i64 6) rfl (fun p hp=>?_) (fun h7 dZK k7 t7=>?_)
 ·simp at hp;rcases hp with hp|hp|hp<;>(subst hp;simp)
 have bZr:Le h2 h7:=fun b o hb=>by
  have ch:b∉[mb]:=fun hn=>by
   have:b=mb:=by simpa using hn
   rw[this,f3]at hb;cases hb
  exact k7 _ _ (k6 _ _ (k5 _ _ (k4 _ _ (ET _ _ hb) ch) ch) ch) ch
 have q7:=q2.mono bZr;have gJx:=jZ.trans bZr;clear k4 k5 k6 k7 t4 t5 t6 t7 dZL Yu eZg gJp;have cQY:∀h8,Kp [pb] h7 h8->Le h h8:=fun h8 k8 b o hb=>k8 _ _ (gJx _ _ hb) (fun hn=>by
  have:b=pb:=by simpa using hn
  rw[this,kJT]at hb;cases hb)
 by_cases cKP:st.kind=3
 ·have hX:iD d s st=nO d s st:=by unfold iD;rw[if_neg bQk,if_neg bZY,if_neg Nc,if_neg Qv,if_pos cKP]
  rw[hX]at hk;have tG:(nO d s st).2.1=[]:=MC ..;cbv;refine BM LB u3 dZK (key:=.int .i64 st.kind) (v:=.func (.func 41) #[.pointer (some ⟨pb,0,none⟩)] #[]) rfl (by rw[cKP];simp) ?_;have zd:A .not true=false:=by rw[hA.not];rfl
  cbv;rw[zd];cbv;refine cQd q7 hx ej.sj (by omega) jx (fun h8 k8 q8=>?_);generalize nO d s st=D at *;obtain⟨D1,DR,De⟩:=D;replace q8:fM h8 pb D1 s st:=q8;replace hk:bJf h (D1,DR,De) k:=hk;replace tG:DR=[]:=tG;subst tG;refine q8.elim (fun b1 n1 c1 b2 n2 c2 b3 n3 c3 b4 n4 c4 b5 n5 c5 b6 n6 c6 b7 n7 c7 b8 n8 c8 b9 n9 c9 gW jD gT g8 SB _ _ _ _ _ _=>?_);have af:=hk h8 b1 n1 c1 b2 n2 c2 b3 n3 c3 b4 n4 c4 none 0 0 (cQY _ k8) SB Sl.nil;clear hk cQY;cbv;first| (refine aB g8 rfl rfl ?_;cbv) | (rw[ai A,ai A];refine aB g8 rfl rfl ?_;cbv) | (rw[ai A];refine aB g8 rfl rfl ?_;cbv)
  exact af
 by_cases eZR:st.kind=4
 ·have hX:iD d s st=kj d s st:=by unfold iD;rw[if_neg bQk,if_neg bZY,if_neg Nc,if_neg Qv,if_neg cKP,if_pos eZR]
  rw[hX]at hk;have tG:(kj d s st).2.1=[]:=Lz ..;cbv;refine BM LB u3 dZK (key:=.int .i64 st.kind) (v:=.func (.func 42) #[.pointer (some ⟨pb,0,none⟩)] #[]) rfl (by rw[eZR];simp) ?_;have zd:A .not true=false:=by rw[hA.not];rfl
  cbv;rw[zd];cbv;refine Gm.Bz eZR q7 hx ej (by omega) jx (fun h8 k8 q8=>?_);generalize kj d s st=D at *;obtain⟨D1,DR,De⟩:=D;replace q8:fM h8 pb D1 s st:=q8;replace hk:bJf h (D1,DR,De) k:=hk;replace tG:DR=[]:=tG;subst tG;refine q8.elim (fun b1 n1 c1 b2 n2 c2 b3 n3 c3 b4 n4 c4 b5 n5 c5 b6 n6 c6 b7 n7 c7 b8 n8 c8 b9 n9 c9 gW jD gT g8 SB _ _ _ _ _ _=>?_);have af:=hk h8 b1 n1 c1 b2 n2 c2 b3 n3 c3 b4 n4 c4 none 0 0 (cQY _ k8) SB Sl.nil;clear hk cQY;cbv;first| (refine aB g8 rfl rfl ?_;cbv) | (rw[ai A,ai A];refine aB g8 rfl rfl ?_;cbv) | (rw[ai A];refine aB g8 rfl rfl ?_;cbv)
  exact af
 by_cases fZS:st.kind=5
 ·have hX:iD d s st=jt d s st:=by unfold iD;rw[if_neg bQk,if_neg bZY,if_neg Nc,if_neg Qv,if_neg cKP,if_neg eZR,if_pos fZS]
  rw[hX]at hk;have tG:(jt d s st).2.1=[]:=Nl ..;cbv;refine BM LB u3 dZK (key:=.int .i64 st.kind) (v:=.func (.func 43) #[.pointer (some ⟨pb,0,none⟩)] #[]) rfl (by rw[fZS];simp) ?_;have zd:A .not true=false:=by rw[hA.not];rfl
  cbv;rw[zd];cbv;refine Gm.del fZS q7 hx ej (by omega) jx (fun h8 k8 q8=>?_);generalize jt d s st=D at *;obtain⟨D1,DR,De⟩:=D;replace q8:fM h8 pb D1 s st:=q8;replace hk:bJf h (D1,DR,De) k:=hk;replace tG:DR=[]:=tG;subst tG;refine q8.elim (fun b1 n1 c1 b2 n2 c2 b3 n3 c3 b4 n4 c4 b5 n5 c5 b6 n6 c6 b7 n7 c7 b8 n8 c8 b9 n9 c9 gW jD gT g8 SB _ _ _ _ _ _=>?_);have af:=hk h8 b1 n1 c1 b2 n2 c2 b3 n3 c3 b4 n4 c4 none 0 0 (cQY _ k8) SB Sl.nil;clear hk cQY;cbv;first| (refine aB g8 rfl rfl ?_;cbv) | (rw[ai A,ai A];refine aB g8 rfl rfl ?_;cbv) | (rw[ai A];refine aB g8 rfl rfl ?_;cbv)
  exact af
 by_cases gKs:st.kind=6
 ·have hX:iD d s st=gH d s st:=by unfold iD;rw[if_neg bQk,if_neg bZY,if_neg Nc,if_neg Qv,if_neg cKP,if_neg eZR,if_neg fZS,if_pos gKs]
  rw[hX]at hk;have tG:True:=trivial;cbv;refine BM LB u3 dZK (key:=.int .i64 st.kind) (v:=.func (.func 44) #[.pointer (some ⟨pb,0,none⟩)] #[]) rfl (by rw[gKs];simp) ?_;have zd:A .not true=false:=by rw[hA.not];rfl
  cbv;rw[zd];cbv;refine Gm.kXJ gKs q7 hx ej (by omega) jx (fun h8 b8 n8 c8 k8 q8 s8=>?_);generalize gH d s st=D at *;obtain⟨D1,DR,De⟩:=D;replace q8:fM h8 pb D1 s st:=q8;replace hk:bJf h (D1,DR,De) k:=hk;replace s8:Sl 59 aD h8 (.slice b8 n8 c8) DR:=s8;skip;refine q8.elim (fun b1 n1 c1 b2 n2 c2 b3 n3 c3 b4 n4 c4 b5 n5 c5 b6 n6 c6 b7 n7 c7 y8 u8 v8 b9 n9 c9 gW jD gT g8 SB _ _ _ _ _ _=>?_);have af:=hk h8 b1 n1 c1 b2 n2 c2 b3 n3 c3 b4 n4 c4 b8 n8 c8 (cQY _ k8) SB s8;clear hk cQY;cbv;first| (refine aB g8 rfl rfl ?_;cbv) | (rw[ai A,ai A];refine aB g8 rfl rfl ?_;cbv) | (rw[ai A];refine aB g8 rfl rfl ?_;cbv)
  exact af
 have hX:iD d s st=(d,[],1):=by unfold iD;rw[if_neg bQk,if_neg bZY,if_neg Nc,if_neg Qv,if_neg cKP,if_neg eZR,if_neg fZS,if_neg gKs]
 rw[hX]at hk;cbv;refine XW LB u3 bJh dZK (key:=.int .i64 st.kind) rfl (fun p hp e=>?_) ?_
 ·simp at hp;rcases hp with hp|hp|hp|hp<;>(subst hp;simp at e;omega)
 refine q7.elim (fun b1 n1 c1 b2 n2 c2 b3 n3 c3 b4 n4 c4 b5 n5 c5 b6 n6 c6 b7 n7 c7 b8 n8 c8 b9 n9 c9 gW jD gT g7 gJd _ _ _ _ _ _=>?_);have af:=hk h7 b1 n1 c1 b2 n2 c2 b3 n3 c3 b4 n4 c4 none 0 0 gJx gJd Sl.nil;clear hk cQY;cbv;have fn:A .not false=true:=by rw[hA.not];rfl
 rw[fn];cbv;first| (refine aB g7 rfl rfl ?_;cbv) | (rw[ai A,ai A];refine aB g7 rfl rfl ?_;cbv) | (rw[ai A];refine aB g7 rfl rfl ?_;cbv)
 exact af
end Go.S
