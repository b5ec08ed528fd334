import Derived.Test.YtekoaiendgjkdaaGreatYA
import Derived.Test.YtekoaiendgjkdaaGreatHA
import Derived.Test.YtekoaiendgjkdaaGreatLA
import Derived.Test.YtekoaiendgjkdaaGreatNA
import Derived.Test.YtekoaiendgjkdaaGreatQC
import Derived.Test.YtekoaiendgjkdaaGreatQA
import Derived.Test.YtekoaiendgjkdaaGreatGA
import Derived.Test.YtekoaiendgjkdaaGreatQD
import Derived.Test.YtekoaiendgjkdaaGreatSxC
import Derived.Test.YtekoaiendgjkdaaGreatQE
import Derived.Test.YtekoaiendgjkdaaGreatEC
set_option linter.unusedVariables false
set_option linter.unusedSimpArgs false
set_option linter.unusedSectionVars false
set_option maxRecDepth 100000
set_option maxHeartbeats 8000000
namespace Go.S
open Go.Sx Go.Proofs
theorem Dh(a b:Int):eR a b<0↔a<b:=by
 unfold eR;by_cases h:a<b
 ·rw[if_pos (kS h)];exact⟨fun _=>h,fun _=>by decide⟩
 ·rw[if_neg (by simpa using h)];constructor
  ·intro h2;split at h2<;>simp at h2
  ·intro h2;exact absurd h2 h
theorem Bl(a b:Int):eR a b=0↔a=b:=by
 unfold eR;by_cases h:a<b
 ·rw[if_pos (kS h)];exact⟨fun h2=>by simp at h2,fun h2=>by omega⟩
 ·rw[if_neg (by simpa using h)];by_cases h3:a>b
  ·rw[if_pos (kS h3)];exact⟨fun h2=>by simp at h2,fun h2=>by omega⟩
  ·rw[if_neg (by simpa using h3)];exact⟨fun _=>by omega,fun _=>rfl⟩
theorem AB(a b:cO):bC a b<0↔a.k<b.k\/(a.k=b.k/\(a.n<b.n\/(a.n=b.n/\eC a.s b.s<0))):=by
 have e:bC a b=if eR a.k b.k≠0 then eR a.k b.k else if eR a.n b.n≠0 then eR a.n b.n else if eC a.s b.s≠0 then eC a.s b.s else 0:=by unfold bC;simp only[fP,mQD]
 have k1:=Dh a.k b.k;have k2:=Bl a.k b.k;have n1:=Dh a.n b.n;have n2:=Bl a.n b.n;rw[e];split
 ·rename_i h;constructor
  ·intro h2;exact .inl (k1.1 h2)
  ·rintro(h2| ⟨h2,-⟩)
   ·exact k1.2 h2
   ·exact absurd (k2.2 h2) h
 ·rename_i h;have hk:=k2.1 (mQW.1 h);split
  ·rename_i h3;constructor
   ·intro h2;exact .inr ⟨hk,.inl (n1.1 h2)⟩
   ·rintro(h2| ⟨-,h2| ⟨h2,-⟩⟩)
    ·omega
    ·exact n1.2 h2
    ·exact absurd (n2.2 h2) h3
  ·rename_i h3;have hn:=n2.1 (mQW.1 h3);split
   ·constructor
    ·intro h2;exact .inr ⟨hk,.inr ⟨hn,h2⟩⟩
    ·rintro(h2| ⟨-,h2| ⟨-,h2⟩⟩)
     ·omega
     ·omega
     ·exact h2
   ·rename_i h5;constructor
    ·intro h2;exact absurd h2 (by decide)
    ·rintro(h2| ⟨-,h2| ⟨-,h2⟩⟩)
     ·omega
     ·omega
     ·rw[mQW.1 h5]at h2;exact absurd h2 (by decide)
theorem bXc(a b:ByteArray):eC a b<0\/eC a b=0\/eC b a<0:=by have:=Di a b;omega
def Gi(a b:cO):Bool:=decide (bC a b<0)
theorem BZ(a:cO):Gi a a=false:=by unfold Gi;rw[xg];rfl
theorem AW{a b c:cO}(h1:Gi a b=true)(h2:Gi b c=true):Gi a c=true:=by
 unfold Gi at *;rw[mQD,AB]at *;rcases h1 with h1| ⟨h1,h1| ⟨h1,eZO⟩⟩<;>rcases h2 with h2| ⟨h2,h2| ⟨h2,cXm⟩⟩
 case inr.inr.inr.inr=>exact .inr ⟨by omega,.inr ⟨by omega,IG eZO cXm⟩⟩
 all_goals first|exact .inl (by omega) |exact .inr ⟨by omega,.inl (by omega)⟩
theorem Ml(a b:cO):Gi a b=true\/a=b\/Gi b a=true:=by
 unfold Gi;rw[mQD,AB,mQD,AB];obtain⟨k1,n1,s1⟩:=a;obtain⟨k2,n2,s2⟩:=b;show(k1<k2\/(k1=k2/\(n1<n2\/(n1=n2/\eC s1 s2<0))))\/_\/(k2<k1\/(k2=k1/\(n2<n1\/(n2=n1/\eC s2 s1<0))));rcases mJA k1 k2 with h|h|h
 ·exact .inl (.inl h)
 ·rcases mJA n1 n2 with g|g|g
  ·exact .inl (.inr ⟨h,.inl g⟩)
  ·rcases bXc s1 s2 with f|f|f
   ·exact .inl (.inr ⟨h,.inr ⟨g,f⟩⟩)
   ·exact .inr (.inl (by rw[h,g,zI f]))
   ·exact .inr (.inr (.inr ⟨h.symm,.inr ⟨g.symm,f⟩⟩))
  ·exact .inr (.inr (.inr ⟨h.symm,.inl g⟩))
 ·exact .inr (.inr (.inl h))
theorem Mm{a b c:cO}(h1:Gi a b=false)(h2:Gi b c=false):Gi a c=false:=by
 cases h:Gi a c with
 |false=>rfl
 |true=>
  rcases Ml a b with g|g|g
  ·rw[g]at h1;cases h1
  ·subst g;rw[h]at h2;cases h2
  ·have:=AW g h;rw[this]at h2;cases h2
theorem tP(k:Int)(desc:Bool)(a b:Row):wP k desc a b=if desc=true then Gi (fT b k) (fT a k)else Gi (fT a k) (fT b k):=by unfold wP Mg Gi;cases desc<;>rfl
theorem Ce(k:Int)(desc:Bool):FQ (wP k desc):=by
 cases desc with
 |true=>exact⟨fun x=>by rw[tP];exact BZ _,fun x y z h1 h2=>by rw[tP]at *;exact AW h2 h1,fun x y z h1 h2=>by rw[tP]at *;exact Mm h2 h1⟩
 |false=>exact⟨fun x=>by rw[tP];exact BZ _,fun x y z h1 h2=>by rw[tP]at *;exact AW h1 h2,fun x y z h1 h2=>by rw[tP]at *;exact Mm h1 h2⟩
theorem eKE(a b:cO)(desc:Bool)(h:ad){k:Value->ad->Prop}(hk:∀h',Le h h'->k (.int .i64 (Mg desc a b)) h'):Ct 193 [.agg #[.int .i64 a.k,.int .i64 a.n,.string a.s],.agg #[.int .i64 b.k,.int .i64 b.n,.string b.s],.bool desc] h k:=by
 obtain⟨A,hA⟩:=Ar.ex;have hP:Mg desc a b=if desc=true then bC b a else bC a b:=rfl
 generalize Mg desc a b=D at *;refine ah A (ax gQZ.aK gQZ.bF) Tryz.func193 rfl (by kernel_rfl) ?_;cbv;cases desc with
 |true=>rw[if_pos rfl]at hP;cbv;refine(pg b a h).mono (fun v h4 hR=>?_);obtain⟨l4,z,hv,hz⟩:=hR;rw[hv];rw[<-hP]at hz;subst hz;have af:=hk h4 l4;clear hk hP;cbv;exact af
 |false=>rw[if_neg (by simp)]at hP;cbv;refine(pg a b h).mono (fun v h4 hR=>?_);obtain⟨l4,z,hv,hz⟩:=hR;rw[hv];rw[<-hP]at hz;subst hz;have af:=hk h4 l4;clear hk hP;cbv;exact af
theorem bXa{h0:ad}{nb ob qb qp:Nat}{x:aJ}{cols:List cK}{y:Qy}{z:Int}(gO:h0 ob=some (.cells #[.int .i64 z] 3 (0,0)))(gB:h0 qb=some (.cells #[.pointer (some ⟨qp,0,none⟩)] 186 (0,0)))(q:oC h0 qp x cols y)(ho:ob≠nb)(hb:qb≠nb)(hq:qp≠nb)(hz:0<=z):Jb (wP z x.desc) 192 (.pointer (some ⟨ob,0,none⟩)) (.pointer (some ⟨qb,0,none⟩)) nb h0 (fun r=>z<r.length):=by
 refine⟨fun{h u v bx nx cx eJe ny cy} k1 t1 hu hv qu qv {k} hk=>?_⟩;obtain⟨A,hA⟩:=Ar.ex;have g1:=k1 _ _ gO (by simpa using ho);have g2:=k1 _ _ gB (by simpa using hb);obtain⟨i,hi⟩:∃i:Nat,z=(i:Int):=⟨z.toNat,by omega⟩;have nz:aS z i:=⟨hi⟩;obtain⟨xu,fQS⟩:=aE (xs:=u) (i:=i) (by omega);obtain⟨xv,NA⟩:=aE (xs:=v) (i:=i) (by omega);have eu:=lD fQS hi;have ev:=lD NA hi;have lu:=qu.len;have lv:=qv.len;have cu:bx.isSome=true/\0<=z/\z<(nx:Int):=⟨qu.aT (by omega),nz.ix (by omega)⟩;have cv:eJe.isSome=true/\0<=z/\z<(ny:Int):=⟨qv.aT (by omega),nz.ix (by omega)⟩;have eKM:=nz.eq;have hw:∀w:Int,w=Mg x.desc (fT u z) (fT v z)->(w<0↔wP z x.desc u v=true):=fun w hw=>by unfold wP;rw[mQD,hw]
 rw[eu,ev]at hw;refine q.elim (fun b5 n5 c5 b6 n6 c6 b7 n7 c7 b8 n8 c8 b9 n9 c9 gW jD gT cb cn cc g q1 q2 q3 q4 q5 q6 q7=>?_);clear q1 q2 q3 q4 q5 q6 q7;have g3:=k1 _ _ g (by simpa using hq);refine ah A (ax gXa.aK gXa.bF) Tryz.func192 rfl (by kernel_rfl) ?_;cbv;refine aB g1 rfl rfl ?_;cbv;refine⟨cu,?_⟩;cbv;refine qu.load fQS eKM (fun cs ay=>?_);have ay:cs=[.int .i64 xu.k,.int .i64 xu.n,.string xu.s]:=ay;subst ay;cbv;refine aB g1 rfl rfl ?_;cbv;refine⟨cv,?_⟩;cbv;refine qv.load NA eKM (fun cs ay=>?_);have ay:cs=[.int .i64 xv.k,.int .i64 xv.n,.string xv.s]:=ay;subst ay;cbv;repeat (first| ((try rw[ai A]);(try rw[ai A]);(first|refine aB g2 rfl rfl ?_|refine aB g3 rfl rfl ?_);cbv) | (refine⟨⟨_,rfl,rfl⟩,?_⟩;cbv))
 refine eKE xu xv x.desc h (fun h2 l2=>?_);have af:=hk h2 _ l2 (hw _ rfl);clear hk hw;generalize Mg x.desc xu xv=D at *;cbv;exact af
theorem ZC{h0:ad}{nb ob qb qp:Nat}{x:aJ}{cols:List cK}{y:Qy}{z:Int}(gO:h0 ob=some (.cells #[.int .i64 z] 3 (0,0)))(gB:h0 qb=some (.cells #[.pointer (some ⟨qp,0,none⟩)] 186 (0,0)))(q:oC h0 qp x cols y)(ho:ob≠nb)(hb:qb≠nb)(hq:qp≠nb)(hz:0<=z):Jb (wP z x.desc) 255 (.pointer (some ⟨ob,0,none⟩)) (.pointer (some ⟨qb,0,none⟩)) nb h0 (fun r=>z<r.length):=by
 refine⟨fun{h u v bx nx cx eJe ny cy} k1 t1 hu hv qu qv {k} hk=>?_⟩;obtain⟨A,hA⟩:=Ar.ex;have g1:=k1 _ _ gO (by simpa using ho);have g2:=k1 _ _ gB (by simpa using hb);obtain⟨i,hi⟩:∃i:Nat,z=(i:Int):=⟨z.toNat,by omega⟩;have nz:aS z i:=⟨hi⟩;obtain⟨xu,fQS⟩:=aE (xs:=u) (i:=i) (by omega);obtain⟨xv,NA⟩:=aE (xs:=v) (i:=i) (by omega);have eu:=lD fQS hi;have ev:=lD NA hi;have lu:=qu.len;have lv:=qv.len;have cu:bx.isSome=true/\0<=z/\z<(nx:Int):=⟨qu.aT (by omega),nz.ix (by omega)⟩;have cv:eJe.isSome=true/\0<=z/\z<(ny:Int):=⟨qv.aT (by omega),nz.ix (by omega)⟩;have eKM:=nz.eq;have hw:∀w:Int,w=Mg x.desc (fT u z) (fT v z)->(w<0↔wP z x.desc u v=true):=fun w hw=>by unfold wP;rw[mQD,hw]
 rw[eu,ev]at hw;refine q.elim (fun b5 n5 c5 b6 n6 c6 b7 n7 c7 b8 n8 c8 b9 n9 c9 gW jD gT cb cn cc g q1 q2 q3 q4 q5 q6 q7=>?_);clear q1 q2 q3 q4 q5 q6 q7;have g3:=k1 _ _ g (by simpa using hq);refine ah A (ax gQi.aK gQi.bF) Tryz.func255 rfl (by kernel_rfl) ?_;cbv;refine aB g1 rfl rfl ?_;cbv;refine⟨cu,?_⟩;cbv;refine qu.load fQS eKM (fun cs ay=>?_);have ay:cs=[.int .i64 xu.k,.int .i64 xu.n,.string xu.s]:=ay;subst ay;cbv;refine aB g1 rfl rfl ?_;cbv;refine⟨cv,?_⟩;cbv;refine qv.load NA eKM (fun cs ay=>?_);have ay:cs=[.int .i64 xv.k,.int .i64 xv.n,.string xv.s]:=ay;subst ay;cbv;repeat (first| ((try rw[ai A]);(try rw[ai A]);(first|refine aB g2 rfl rfl ?_|refine aB g3 rfl rfl ?_);cbv) | (refine⟨⟨_,rfl,rfl⟩,?_⟩;cbv))
 refine eKE xu xv x.desc h (fun h2 l2=>?_);have af:=hk h2 _ l2 (hw _ rfl);clear hk hw;generalize Mg x.desc xu xv=D at *;cbv;exact af
theorem cQf{h:ad}{b:Option Addr}{c:Nat}{f:Value}{k:Value->ad->Prop}(hk:k (.tuple #[]) h):Ct 288 [.slice b 0 c,.int .i64 0,.int .i64 0,f] h k:=by
 obtain⟨A,hA⟩:=Ar.ex;have n1:=(⟨rfl⟩:aS 0 0).succ (A:=A) (by omega);obtain⟨z1,jV⟩:∃z,A .bB .add .i64 0 1=z:=⟨_,rfl⟩;rw[jV]at n1;have f1:A .aI .lss z1 0=false:=by rw[bm A];exact nM (by have:=n1.eq;omega)
 obtain⟨I,aY⟩:∃I:Nat->Int->ad->Prop,∀m g h',I m g h'=(g=z1/\h'=h):=⟨_,fun _ _ _=>rfl⟩;have hJ:I 0 z1 h:=by rw[aY];exact⟨rfl,rfl⟩
 refine ah A (ax cZL.aK cZL.bF) Tryz.func288 rfl (by kernel_rfl) ?_;cbv;rw[jV];refine aX.go (G:=Int) (fun g=>[(8,.v (.int .i64 g))]) (fun _=>[]) (fun m g h'=>I m g h') 0 z1 ⟨?_,?_,?_⟩ hJ ?_
 ·cbv
 ·cbv
 ·cbv
 ·intro m z h1 hI;rw[aY]at hI;cbv;obtain⟨e1,e2⟩:=hI;rw[e1,e2,f1];clear hJ aY;cbv;exact hk
theorem bJQ{h:ad}{b:Option Addr}{c:Nat}{f:Value}{k:Value->ad->Prop}(hk:k (.tuple #[]) h):Ct 253 [.slice b 0 c,.int .i64 0,f] h k:=by
 obtain⟨A,hA⟩:=Ar.ex;have f1:A .aI .leq 20 0=false:=by rw[vM A];exact nM (by omega)
 have f2:A .aI .lss 20 0=false:=by rw[bm A];exact nM (by omega)
 obtain⟨I,aY⟩:∃I:Nat->Int×Int->ad->Prop,∀m g h',I m g h'=(g=(0,20)/\h'=h):=⟨_,fun _ _ _=>rfl⟩;have hJ:I 0 (0,20) h:=by rw[aY];exact⟨rfl,rfl⟩
 obtain⟨J,dY⟩:∃J:Nat->Int->ad->Prop,∀m g h',J m g h'=(g=20/\h'=h):=⟨_,fun _ _ _=>rfl⟩;have FN:J 0 20 h:=by rw[dY];exact⟨rfl,rfl⟩
 refine ah A (ax cZO.aK cZO.bF) Tryz.func253 rfl (by kernel_rfl) ?_;cbv;refine aX.go (G:=Int×Int) (fun g=>[(7,.v (.int .i64 g.1)),(8,.v (.int .i64 g.2))]) (fun _=>[]) (fun q0 g h'=>I q0 g h') 0 (0,20) ⟨?_,?_,?_⟩ hJ ?_
 ·cbv
 ·cbv
 ·cbv
 ·intro ms g h1 hI;rw[aY]at hI;cbv;obtain⟨e1,e2⟩:=hI;rw[e1,e2];clear aY hJ;cbv;rw[f1];cbv;refine cQf ?_;cbv;refine aX.go (G:=Int) (fun g=>[(6,.v (.int .i64 g))]) (fun _=>[]) (fun q0 g h'=>J q0 g h') 0 20 ⟨?_,?_,?_⟩ FN ?_
  ·cbv
  ·cbv
  ·cbv
  ·intro jQK g h3 Zd;rw[dY]at Zd;cbv;obtain⟨e1,e2⟩:=Zd;rw[e1,e2,f2];clear dY FN;cbv;exact hk
theorem aXO{lt:Row->Row->Bool}(sw:FQ lt){f:FuncId}(hf:aG f=true){p0 p1:Value}{kW:Row->Prop}{h0 h:ad}(l0:Le h0 h){rows:List Row}{rb:Option Addr}{rn rc:Nat}(qr:cF 59 aD h0 h (.slice rb rn rc) rows)(aV:∀r∈rows,kW r)
 (cmp:∀nb c fr,h nb=some (.cells c 59 fr)->Jb lt f p0 p1 nb h kW) {k:Value->ad->Prop}
 (hk:∀h',Le h0 h'->(∀tys,59∉tys->bR tys h h')->(∀b o,h b=some o->(∀c fr,o≠.cells c 59 fr)->h' b=some o)->cF 59 aD h0 h' (.slice rb rn rc) (gL lt rows)->k (.tuple #[]) h'):
 Ct 191 [.slice rb rn rc,.func (.func f) #[] #[p0,p1]] h k:=by
 obtain⟨A,hA⟩:=Ar.ex;have tG:=qr.sl.len;have JD:=qr.sl.bound;by_cases iZC:rn=0
 ·subst iZC;have hr:rows=[]:=mXs.1 tG.symm;subst hr;have af:=hk h l0 (fun _ _=>bR.refl _ _) (fun _ _ hb _=>hb) qr;have hz:A .nat 0=0:=by rw[hA.nat];rfl
  clear hk cmp;refine ah A (ax cZV.aK cZV.bF) Tryz.func191 rfl (by kernel_rfl) ?_;cbv;rw[hz];refine bJQ ?_;cbv;exact af
 ·obtain⟨nb,hb,nf,hl,o⟩:=qr.own (by omega);subst hb;obtain⟨c,hc,-⟩:=o.out;have cm:=cmp _ _ _ hc;have nz:aS (A .nat rn) rn:=aS.nat rn;obtain⟨zn,nP⟩:∃z,A .nat rn=z:=⟨_,rfl⟩;rw[nP]at nz;obtain⟨X,hX⟩:∃X,X=GL 0 rows:=⟨_,rfl⟩;have e1:bT X=rows:=by rw[hX];exact BE 0 rows
  have Sv:Ro X:=by rw[hX];exact GK 0 rows
  have jXF:rn=X.length:=by rw[hl,<-e1,iO]
  have call:∀ {k':Value->ad->Prop},(∀h' C,Kp [nb] h h'->bR [61] h h'->C.Perm X->C.Pairwise (lx lt)->cR h' nb rc (bT C)->k' (.tuple #[]) h')->Ct 253 [.slice (some ⟨nb,0,none⟩) rn rc,.int .i64 zn,.func (.func f) #[] #[p0,p1]] h k':=fun wT=>XM sw hf (X:=X) (by rw[e1];exact o) Sv (fun x hx=>aV x.1 (by rw[<-e1];exact mJd hx)) cm jXF nz wT;have fin:∀h' C,Kp [nb] h h'->C.Perm X->C.Pairwise (lx lt)->cR h' nb rc (bT C)->k (.tuple #[]) h':=fun h' C d1 d3 d4 d5=>by
   have es:bT C=gL lt rows:=by rw[<-e1];exact bJT sw Sv d3 d4
   refine hk h' (fun b o hb=>d1 _ _ (l0 _ _ hb) (fun hm=>?_)) (fun tys ht=>d1.ES hc ht) (fun b o hb ho=>d1 _ _ hb (fun hm=>?_)) ?_
   ·rw[mQA.1 hm,nf]at hb;cases hb
   ·rw[mQA.1 hm,hc]at hb;cases hb;exact ho _ _ rfl
   ·rw[es]at d5;exact d5.buf nf (by rw[<-es,iO,d3.length_eq];exact jXF)
  obtain⟨WB,jQ⟩:∃g,g=aG:=⟨_,rfl⟩;have tk:gE Tryz.prog ⟨ty,WB,cZV.aK,cZV.bF,fun _=>false,[],fun _ _ _=>False⟩:=by rw[jQ];exact ax _ _
  have Ao:WB 253=true:=by rw[jQ];kernel_rfl
  clear jQ hk cmp;refine ah A tk Tryz.func191 rfl (by kernel_rfl) ?_;cbv;rw[Ao];cbv;rw[nP];refine call (fun h2 C k2 t2 d1 d2 o2=>?_);have af:=fin h2 C k2 d1 d2 o2;clear fin call;cbv;exact af
theorem Et{nm:ByteArray}:∀ {cols:List cK} {i:Int} {at_:Option Int},0<=i->(∀a,at_=some a->0<=a/\a<i)->(js nm cols i at_).2=0->0<=(js nm cols i at_).1/\(js nm cols i at_).1<i+cols.length
 | [],i,none,_,_,h=>by simp[js]at h
 | [],i,some a,_,ha,_=>by
  have:=ha a rfl;show 0<=a/\a<i+((0:Nat):Int);omega
 |c::r,i,at_,hi,ha,h=>by
  unfold js at h |-;rw[mQx];cases ht:pW nm c.name with
  |false=>rw[ht]at h;have:=Et (cols:=r) (i:=i+1) (at_:=at_) (by omega) (fun a e=>by have:=ha a e;omega) h;show 0<=(js nm r (i+1) at_).1/\(js nm r (i+1) at_).1<i+((r.length+1:Nat):Int);omega
  |true=>
   rw[ht]at h;cases at_ with
   |some a=>exact absurd (show(12:Int)=0 from h) (by decide)
   |none=>have:=Et (cols:=r) (i:=i+1) (at_:=some i) (by omega) (fun a e=>by cases e;omega) h;show 0<=(js nm r (i+1) (some i)).1/\(js nm r (i+1) (some i)).1<i+((r.length+1:Nat):Int);omega
theorem Fi{nm:ByteArray}{cols:List cK}(h:(bN nm cols).2=0):(bN nm cols).1<cols.length:=by
 unfold bN at h |-;split
 ·have:(0:Int)<=cols.length:=Int.natCast_nonneg _;show(-1:Int)<_;omega
 ·rename_i hn;rw[if_neg hn]at h;have:=Et (nm:=nm) (cols:=cols) (i:=0) (at_:=none) (by omega) (fun a e=>by cases e) h;unfold gS;omega
theorem Lb{x:aJ}{cols:List cK}{y:Qy}(h:dp x cols=(y,0)):y.order<cols.length/\y.group<cols.length:=by
 have hg:=Fi (nm:=x.group) (cols:=cols);have ho:=Fi (nm:=x.order) (cols:=cols);unfold dp at h;split at h
 ·rename_i h1;rw[Prod.mk.injEq]at h;exact absurd h.2 h1
 ·split at h
  ·rename_i h1;rw[Prod.mk.injEq]at h;exact absurd h.2 h1
  ·split at h
   ·rename_i h1;rw[Prod.mk.injEq]at h;exact absurd h.2 h1
   ·generalize bN x.group cols=G at *;obtain⟨g,e1⟩:=G;generalize bN x.order cols=O at *;obtain⟨o,e2⟩:=O;replace hg:e1=0->g<cols.length:=hg;replace ho:e2=0->o<cols.length:=ho;simp only[]at h;split at h
    ·rename_i h1;rw[Prod.mk.injEq]at h;exact absurd h.2 h1
    ·rename_i h1;split at h
     ·rename_i h2;rw[Prod.mk.injEq]at h;exact absurd h.2 h2
     ·rename_i h2;have RJ:=hg (mQW.1 h1);have wR:=ho (mQW.1 h2);split at h
      ·rw[Prod.mk.injEq]at h;rw[<-h.1];exact⟨wR,RJ⟩
      ·split at h
       ·rw[Prod.mk.injEq]at h;exact absurd h.2 (by decide)
       ·rw[Prod.mk.injEq]at h;rw[<-h.1];exact⟨wR,RJ⟩
theorem oM{α:Type}{lt:α->α->Bool}{l:List α}{r:α}(h:r∈gL lt l):r∈l:=(gh lt l).subset h
theorem dZm{h0 h:ad}{qp:Nat}{x:aJ}{cols:List cK}{y:Qy}(q:oC h qp x cols y)(hx:dr x)(hc:∀c∈cols,Nm c.name){fI:List Row}(rZ:∀r∈fI,fS r)(cQA:fI.length<=2^20)(gJW:dp x cols=(y,0))(hw:∀r∈fI,cols.length<=r.length){rb:Option Addr}{rn rc:Nat}(l0:Le h0 h)(qr:cF 59 aD h0 h (.slice rb rn rc) fI)
 {k:Value->ad->Prop} (hk:∀h' b n c,Le h0 h'->Sl 59 aD h' (.slice b n c) (eJ x cols y.order fI).1->k (.tuple #[.slice b n c,.int .i64 (eJ x cols y.order fI).2]) h'):
 Ct 102 [.pointer (some ⟨qp,0,none⟩),.slice rb rn rc] h k:=by
 obtain⟨A,hA⟩:=Ar.ex;obtain⟨rows,Aj⟩:∃r,r=if y.order>=0 then gL (wP y.order x.desc) fI else fI:=⟨_,rfl⟩
 have hP:eJ x cols y.order fI=eZ x cols (bL rows x.eG) []:=by rw[Aj];rfl
 rw[hP]at hk;obtain⟨D,hD⟩:∃D,eZ x cols (bL rows x.eG) []=D:=⟨_,rfl⟩;rw[hD]at hk;have eZw:∀r∈rows,r∈fI:=fun r hr=>by
  rw[Aj]at hr;split at hr
  ·exact oM hr
  ·exact hr
 have hr:∀r∈rows,fS r:=fun r h=>rZ r (eZw r h);have mF:rows.length<=2^20:=by
  rw[Aj];split
  ·rw[(gh _ _).length_eq];exact cQA
  ·exact cQA
 obtain⟨cKk,-⟩:=Lb gJW;have aV:∀r∈fI,y.order<r.length:=fun r h=>by have:=hw r h;omega
 have fo:A .aI .geq y.order 0=decide (y.order>=0):=cf A ..;have iXv:aG 192=true:=by kernel_rfl
 clear hP eZw;refine q.elim (fun b5 n5 c5 b6 n6 c6 b7 n7 c7 b8 n8 c8 b9 n9 c9 gW jD gT cb cn cc g q1 q2 q3 q4 q5 q6 q7=>?_);clear q1 q2 q3 q4 q5 q6 q7;refine zo A [false,true] (ax cJd.aK cJd.bF) Tryz.func102 rfl (by kernel_rfl) ?_;cbv;intro qb h1 f1 e1;have l1:Le h h1:=by rw[e1];exact Le.set f1
 have gb:h1 qb=some (.cells #[.pointer (some ⟨qp,0,none⟩)] 186 (0,0)):=by rw[e1];exact ae
 have g1:=l1 _ _ g;have eXW:=q.mono l1;have Sz:=qr.mono (l1.t _);have jQT:=l0.trans l1;obtain⟨IC,eZM⟩:∃IC:Unit->ad->Prop,∀u h',IC u h'=(Le h0 h'/\h' qb=some (.cells #[.pointer (some ⟨qp,0,none⟩)] 186 (0,0))/\oC h' qp x cols y/\Sl 59 aD h' (.slice rb rn rc) rows):=⟨_,fun _ _=>rfl⟩;clear e1 g;cbv;refine Dw.go (G:=Unit) (fun _=>[]) (fun _=>[]) IC ?_ ?_
 ·clear hk;cbv;repeat (first| ((try rw[ai A]);(try rw[ai A]);(first|refine aB gb rfl rfl ?_|refine aB g1 rfl rfl ?_);cbv) | (refine⟨⟨_,rfl,rfl⟩,?_⟩;cbv))
  intro ob bQd f2 e2;have cJM:Le h1 bQd:=by rw[e2];exact Le.set f2
  have eQb:bQd ob=some (.cells #[.int .i64 0] 3 (0,0)):=by rw[e2];exact ae
  clear e2;cbv;refine ja eQb (by simp) (fun h2 e2=>?_);have l2:Le h1 h2:=fun b o hb=>by rw[e2,aO (fun e=>by rw[e,f2]at hb;cases hb)];exact cJM _ _ hb
  have go:h2 ob=some (.cells #[.int .i64 y.order] 3 (0,0)):=by rw[e2];exact ae
  have yY:=l2 _ _ gb;have g2:=l2 _ _ g1;have cJs:=eXW.mono l2;have cJt:=Sz.mono (l2.t _);have jZ:=jQT.trans l2;clear e2;cbv;refine aB go rfl rfl ?_;cbv;rw[fo];by_cases ho:y.order>=0
  ·rw[if_pos ho]at Aj;have call:∀ {k':Value->ad->Prop},(∀h',IC () h'->k' (.tuple #[]) h')->Ct 191 [.slice rb rn rc,.func (.func 192) #[] #[.pointer (some ⟨ob,0,none⟩),.pointer (some ⟨qb,0,none⟩)]] h2 k':=fun wT=>aXO (Ce y.order x.desc) iXv jZ cJt aV (fun nb c fr gY=>bXa go yY cJs (fun e=>by rw[e,gY]at go;cases go) (fun e=>by rw[e,gY]at yY;cases yY) (fun e=>by rw[e,gY]at g2;cases g2) ho) (fun h' d1 d2 d3 d4=>wT h' (by
    rw[eZM];refine⟨d1,d3 _ _ yY (fun c fr e=>by cases e),cJs.lt ((d3 _ _ g2 (fun c fr e=>by cases e)).trans g2.symm) (d2 _ (by decide)),by rw[Aj];exact d4.sl⟩))
   rw[kS ho];clear eZM Aj;cbv;refine call (fun h3 af=>?_);clear call;cbv;refine⟨(),⟨?_,?_,?_⟩,af⟩
   ·cbv
   ·cbv
   ·cbv
  ·rw[if_neg ho]at Aj;have af:IC () h2:=by rw[eZM,Aj];exact⟨jZ,yY,cJs,cJt.sl⟩
   clear eZM Aj;rw[nM ho];cbv;refine⟨(),⟨?_,?_,?_⟩,af⟩
   ·cbv
   ·cbv
   ·cbv
 ·intro u h2 hI;cbv;rw[eZM]at hI;obtain⟨jZ,yY,cJs,cJt⟩:=hI;clear eZM eXW Sz jQT gb g1 Aj q qr l0 f1 l1 fo;refine cJs.elim (fun b5 n5 c5 b6 n6 c6 b7 n7 c7 b8 n8 c8 b9 n9 c9 gW jD gT cb cn cc g2 q1 q2 q3 q4 q5 q6 q7=>?_);clear q1 q2 q3 q4 q6;repeat (first| ((try rw[ai A]);(try rw[ai A]);(first|refine aB yY rfl rfl ?_|refine aB g2 rfl rfl ?_);cbv) | (refine⟨⟨_,rfl,rfl⟩,?_⟩;cbv))
  have FG:=q5.len;have vo:=q5.bound;obtain⟨LX,Uf⟩:∃LX,LX=x.items.map (fun i:dO=>i.e):=⟨_,rfl⟩;obtain⟨N9,lQk⟩:∃N9,N9=n9:=⟨_,rfl⟩;obtain⟨I,aY⟩:∃I:Nat->(Int×Option Addr×Nat×Nat)->ad->Prop,∀m g h',I m g h'=∃i,aS g.1 i/\i<=n9/\m=n9-i/\Le h2 h'/\cF 42 jM h2 h' (.slice g.2.1 g.2.2.1 g.2.2.2) (LX.take i):=⟨_,fun _ _ _=>rfl⟩;have hJ:I n9 (0,none,0,0) h2:=by rw[aY];exact⟨0,⟨rfl⟩,mQr _,rfl,Le.refl _,cF.nil⟩
  have ke:=hx.aJU;have fZ:=hx.items;cbv;refine aX.go (G:=Int×Option Addr×Nat×Nat) (fun g=>[(30,.v (.int .i64 g.1)),(7,.v (.slice g.2.1 g.2.2.1 g.2.2.2))]) (fun _=>[]) (fun m g h'=>I m g h') n9 (0,none,0,0) ⟨?_,?_,?_⟩ hJ ?_
  ·cbv
  ·cbv
  ·cbv
  ·intro m gg h3 hI;rw[aY]at hI;cbv;obtain⟨i,hz,hi,hm,ET,qb⟩:=hI;obtain⟨z,b7,n7,c7⟩:=gg;replace hz:aS z i:=hz;replace qb:cF 42 jM h2 h3 (.slice b7 n7 c7) (LX.take i):=qb;have f1:A .aI .lss z (A .nat n9)=decide (i<n9):=hz.iJ (aS.nat n9);have eKr:=q5.mono (ET.t _);cbv;rw[f1];by_cases aP:i<n9
   ·obtain⟨it,JA⟩:=aE (xs:=x.items) (i:=i) (by omega);have cJ:0<=z/\z<(n9:Int):=hz.ix aP;have cN:=hz.eq;have cZ:=hz.succ (A:=A) (by omega);have kX:n9-(i+1)<m:=by omega
    have dKI:LX.take i++[it.e]=LX.take (i+1):=by
     have:LX[i]? =some it.e:=by rw[Uf,mQU,JA];rfl
     rw[mXc,this];rfl
    have iQT:n7=i:=by have h1:=qb.sl.len;rw[h1,mQw,Uf,mQz];omega
    have cD:∀h4 b4 n4 c4,Le h2 h4->cF 42 jM h2 h4 (.slice b4 n4 c4) (LX.take (i+1))->I (n9-(i+1)) (A .bB .add .i64 z 1,b4,n4,c4) h4:=fun h4 b4 n4 c4 l4 o4=>by
     rw[aY];exact⟨i+1,cZ,aP,rfl,l4,o4⟩
    have RD:=eKr.aT (by omega:0<n9);clear aY hJ hk cZ;rw[kS aP];cbv;refine⟨⟨RD,cJ⟩,?_⟩;cbv;refine yQ eKr JA cN (fun bi ni ci qi=>?_);cbv;intro eKZ h4 f4 e4;have l4:Le h3 h4:=by rw[e4];exact Le.set f4
    have v4:Sl 42 jM h4 (.slice (some ⟨eKZ,0,none⟩) 1 1) [it.e]:=bA (s:=jM) ((congrFun e4 eKZ).trans ae) ⟨_,rfl,qi.mono (l4.t _)⟩;clear e4;cbv;refine(qb.mono (l4.t _)).append v4 (by decide) rfl (by decide) (by omega) (ET.trans l4) (fun m5 b5 c5 h5 cXJ l5 t5 k5 qX=>?_);clear t5 k5 v4;rw[dKI]at qX;have af:=cD h5 b5 m5 c5 l5 qX;clear cD;cbv;refine⟨n9-(i+1),(A .bB .add .i64 z 1,b5,m5,c5),kX,⟨?_,?_,?_⟩,af⟩
    ·cbv
    ·cbv
    ·cbv
   ·have aQp:i=n9:=by omega
    have dKI:LX.take i=LX:=by rw[mQM];rw[Uf,mQz];omega
    rw[dKI]at qb;have iQT:n7=x.items.length:=by have h1:=qb.sl.len;rw[h1,Uf,mQz]
    have g3:=ET _ _ g2;have Zh:=ET _ _ yY;have eKj:=cJt.mono (ET.t _);clear aY hJ;rw[nM aP];cbv;repeat (first| ((try rw[ai A]);(try rw[ai A]);(first|refine aB Zh rfl rfl ?_|refine aB g3 rfl rfl ?_);cbv) | (refine⟨⟨_,rfl,rfl⟩,?_⟩;cbv))
    refine Pp eKj x.eG (fun lb ln lc qm=>?_);obtain⟨M,hM⟩:∃M,bL rows x.eG=M:=⟨_,rfl⟩;rw[hM]at qm hD;have iZh:∀r∈M,fS r:=fun r hm=>hr r (by
     rw[<-hM]at hm;unfold bL at hm;split at hm
     ·exact hm
     ·exact mXN hm)
    have iZi:M.length<=2^20:=by
     rw[<-hM];unfold bL;split
     ·exact mF
     ·rw[mQw];omega
    have tG:=qm.len;have JD:=qm.bound;have qL:=qb.sl;have fQw:Le h0 h3:=jZ.trans ET;replace q7:=q7.mono (ET.t _);obtain⟨I2,aY⟩:∃I:Nat->(Int×Option Addr×Nat×Nat)->ad->Prop,∀m g h',I m g h'=∃i out,aS g.1 i/\i<=ln/\m=ln-i/\Le h3 h'/\out.length=i/\cF 59 aD h3 h' (.slice g.2.1 g.2.2.1 g.2.2.2) out/\eZ x cols (M.drop i) out=D:=⟨_,fun _ _ _=>rfl⟩;have hJ:I2 ln (0,none,0,0) h3:=by rw[aY];exact⟨0,[],⟨rfl⟩,mQr _,rfl,Le.refl _,rfl,cF.nil,hD⟩
    clear eKj hM hD hr mF q5 cJt g2 yY;cbv;refine aX.go (G:=Int×Option Addr×Nat×Nat) (fun g=>[(48,.v (.int .i64 g.1)),(10,.v (.slice g.2.1 g.2.2.1 g.2.2.2))]) (fun _=>[]) (fun m g h'=>I2 m g h') ln (0,none,0,0) ⟨?_,?_,?_⟩ hJ ?_
    ·cbv
    ·cbv
    ·cbv
    ·intro m2 gg h4 hI;rw[aY]at hI;cbv;obtain⟨j,out,hw,hj,sH,AY,bZG,qo,hD⟩:=hI;obtain⟨w,bo,no,co⟩:=gg;replace hw:aS w j:=hw;replace qo:cF 59 aD h3 h4 (.slice bo no co) out:=qo;have f2:A .aI .lss w (A .nat ln)=decide (j<ln):=hw.iJ (aS.nat ln);have aZm:=qm.mono (AY.t _);have gK:=qo.sl.len;cbv;rw[f2];by_cases KM:j<ln
     ·obtain⟨r,Jx⟩:=aE (xs:=M) (i:=j) (by omega);have eZw:=iZh r (GD Jx);have jo:0<=w/\w<(ln:Int):=hw.ix KM;have PF:=hw.eq;have VZ:=hw.succ (A:=A) (by omega);have sf:ln-(j+1)<m2:=by omega
      have Bc:M.drop j=r::M.drop (j+1):=by obtain⟨h1,h2⟩:=HH.1 Jx;rw[mQy h1,h2]
      rw[Bc]at hD;replace hD:(if x.items.length=0 then eZ x cols (M.drop (j+1)) (out++[r])else match bS (x.items.map (·.e)) cols r with
       | (v,e)=>if e≠0 then([],e)else eZ x cols (M.drop (j+1)) (out++[v]))=D:=hD
      have jd:∀h5 b5 m5 c5 v,Le h3 h5->m5=no+1->cF 59 aD h3 h5 (.slice b5 m5 c5) (out++[v])->eZ x cols (M.drop (j+1)) (out++[v])=D->I2 (ln-(j+1)) (A .bB .add .i64 w 1,b5,m5,c5) h5:=fun h5 b5 m5 c5 v l5 cXJ o5 hd=>by
       rw[aY];exact⟨j+1,out++[v],VZ,KM,rfl,l5,by rw[nX,mQu,bZG],o5,hd⟩
      have Tp:=aZm.aT (by omega:0<ln);have fl:A .aI .gtr (A .nat n7) 0=decide (n7≠0):=by
       rw[bO A,hA.nat];apply decide_eq_decide.2;constructor
       ·intro h1 h2;rw[h2]at h1;exact absurd h1 (by decide)
       ·intro h1;have:0<n7:=Nat.pos_of_ne_zero h1;exact Int.natCast_pos.2 this
      have g4:=AY _ _ g3;have RQ:=AY _ _ Zh;clear aY hJ VZ;rw[kS KM];cbv;refine⟨⟨Tp,jo⟩,?_⟩;cbv;refine bZ aZm Jx PF (fun br nr cr uG=>?_);cbv;rw[fl];by_cases h0:n7=0
      ·rw[if_pos (by omega)]at hD;rw[nM (fun g=>g h0)];cbv;refine(mU uG).mono (fun v5 h5 hR=>?_);obtain⟨l5,b5,c5,aKh,Sy⟩:=hR;subst aKh;cbv;intro Yr h6 f6 e6;have l6:Le h5 h6:=by rw[e6];exact Le.set f6
       have v6:Sl 59 aD h6 (.slice (some ⟨Yr,0,none⟩) 1 1) [r]:=bA (s:=aD) ((congrFun e6 Yr).trans ae) ⟨_,rfl,Sy.sl.mono (l6.t _)⟩;clear e6;cbv;refine(qo.mono ((l5.trans l6).t _)).append v6 (by decide) rfl (by decide) (by omega) (AY.trans (l5.trans l6)) (fun m7 b7 c7 h7 Nj l7 t7 k7 mP=>?_);clear t7 k7 v6;have af:=jd h7 b7 m7 c7 r l7 Nj mP hD;clear jd hk;cbv;refine⟨ln-(j+1),(A .bB .add .i64 w 1,b7,m7,c7),sf,⟨?_,?_,?_⟩,af⟩
       ·cbv
       ·cbv
       ·cbv
      ·rw[if_neg (by omega)]at hD;rw[kS h0];cbv;repeat (first| ((try rw[ai A]);(try rw[ai A]);(first|refine aB RQ rfl rfl ?_|refine aB g4 rfl rfl ?_);cbv) | (refine⟨⟨_,rfl,rfl⟩,?_⟩;cbv))
       refine FX (xs:=LX) (fun ex hex=>?_) hc eZw (by rw[Uf,mQz];omega) (qL.mono (AY.t _)) (q7.mono (AY.t _)) uG (fun h5 b5 kZA lXF vl e l5 Je Sy jXq=>?_)
       ·rw[Uf]at hex;obtain⟨it,MQ,rfl⟩:=mQO.1 hex;exact fZ it MQ
       rw[Uf]at Je;rw[<-Je]at hD;replace hD:(if e≠0 then([],e)else eZ x cols (M.drop (j+1)) (out++[vl]))=D:=hD;have fe:A .aI .neq e 0=decide (e≠0):=aC A ..;cbv;rw[fe];by_cases he:e≠0
       ·rw[if_pos he]at hD;subst hD;have af:=hk h5 none 0 0 (fQw.trans (AY.trans l5)) Sl.nil;clear hk jd;rw[kS he];cbv;exact af
       ·rw[if_neg he]at hD;rw[nM he];cbv;refine(mU Sy.sl).mono (fun v6 h6 hR=>?_);obtain⟨l6,b6,c6,iQi,hZN⟩:=hR;subst iQi;cbv;intro Yq h7 f7 e7;have l7:Le h6 h7:=by rw[e7];exact Le.set f7
        have v7:Sl 59 aD h7 (.slice (some ⟨Yq,0,none⟩) 1 1) [vl]:=bA (s:=aD) ((congrFun e7 Yq).trans ae) ⟨_,rfl,hZN.sl.mono (l7.t _)⟩;clear e7;cbv;refine(qo.mono ((l5.trans (l6.trans l7)).t _)).append v7 (by decide) rfl (by decide) (by omega) (AY.trans (l5.trans (l6.trans l7))) (fun m8 b8 c8 h8 dQb l8 t8 k8 Qp=>?_);clear t8 k8 v7;have af:=jd h8 b8 m8 c8 vl l8 dQb Qp hD;clear jd hk;cbv;refine⟨ln-(j+1),(A .bB .add .i64 w 1,b8,m8,c8),sf,⟨?_,?_,?_⟩,af⟩
        ·cbv
        ·cbv
        ·cbv
     ·have KP:j=ln:=by omega
      rw[mQR (by omega)]at hD;replace hD:(out,0)=D:=hD;subst hD;clear aY hJ;rw[nM KM];cbv;refine(Gp qo.sl).mono (fun v5 h5 hR=>?_);obtain⟨l5,b5,c5,aKh,Sy⟩:=hR;subst aKh;have af:=hk h5 b5 no c5 (fQw.trans (AY.trans l5)) Sy.sl;clear hk;cbv;exact af
theorem eKz{x:aJ}{y:Qy}:eXB x y:=fun{h0 h qp cols} q hx hc {rows} hr mF hf hw {rb rn rc} l0 qr {k} hk=>dZm q hx hc hr mF hf hw l0 qr hk
structure aQb(v:cO):Prop where
 s:v.k≠3->v.s=fQ
 n:v.k=3->v.n=0
 z:v.s.size<=2^60
theorem xh(a b:cO):bC a b=if eR a.k b.k≠0 then eR a.k b.k else if eR a.n b.n≠0 then eR a.n b.n else if eC a.s b.s≠0 then eC a.s b.s else 0:=by unfold bC;simp only[fP,mQD]
theorem aXa{a b:cO}(h:a.k≠b.k):bC a b=eR a.k b.k:=by rw[xh,if_pos (fun e=>h ((Bl _ _).1 e))]
theorem Xu{a b:cO}(h:a.k=b.k)(hs:a.s=b.s):bC a b=eR a.n b.n:=by
 rw[xh,if_neg (fun g=>g ((Bl _ _).2 h)),hs,zJ];by_cases h2:eR a.n b.n≠0
 ·rw[if_pos h2]
 ·rw[if_neg h2,if_neg (fun g=>g rfl),mQW.1 h2]
theorem Xs{a b:cO}(h:a.k=b.k)(hn:a.n=b.n):bC a b=eC a.s b.s:=by
 rw[xh,if_neg (fun g=>g ((Bl _ _).2 h)),if_neg (fun g=>g ((Bl _ _).2 hn))];by_cases h2:eC a.s b.s≠0
 ·rw[if_pos h2]
 ·rw[if_neg h2,mQW.1 h2]
theorem Ll{A:Ar}[hA:bM A]{z:Int}{x:UInt8}(h:z=(x.toNat:Int)):A .conv .i64 z=(x.toNat:Int):=by rw[hA.conv,h];show IntKind.wrap .i64 _=_;rw[IntWalk.i64_in _ (by have:=x.toNat_lt;omega)]
theorem IA{a b:cO}(ha:aQb a)(hb:aQb b){h:ad}{k:Value->ad->Prop}(hk:∀z,z=bC a b->k (.int .i64 z) h):Ct 29 [.agg #[.int .i64 a.k,.int .i64 a.n,.string a.s],.agg #[.int .i64 b.k,.int .i64 b.n,.string b.s]] h k:=by
 obtain⟨A,hA⟩:=Ar.ex;have cKw:=fun e=>hk (eR a.k b.k) (aXa (a:=a) (b:=b) e).symm;have jQ:=fun e f=>hk (eR a.n b.n) (Xu (a:=a) (b:=b) e f).symm;have Ao:=fun e f z (g:z=eC a.s b.s)=>hk z (by rw[g];exact(Xs (a:=a) (b:=b) e f).symm);clear hk;obtain⟨jE,lG,jV⟩:=ha;obtain⟨FD,mY,dL⟩:=hb;obtain⟨ak,an,as_⟩:=a;obtain⟨bk,bn,bs⟩:=b;simp only at cKw jQ Ao jE lG jV FD mY dL;have f1:A .aI .neq ak bk=decide (ak≠bk):=aC A ..;have f2:A .aI .neq ak 3=decide (ak≠3):=aC A ..;refine ah A (ax hQi.aK hQi.bF) Tryz.func29 rfl (by kernel_rfl) ?_;cbv;rw[f1];by_cases Jz:ak≠bk
 ·rw[kS Jz];have af:=cKw Jz;clear cKw jQ Ao;cbv;refine uJ ak bk ?_;generalize eR ak bk=C at *;cbv;exact af
 have Jz:=mQW.1 Jz;subst Jz;rw[nM (by simp)];cbv;rw[f2];by_cases h3:ak≠3
 ·rw[kS h3];have af:=jQ rfl (by rw[jE h3,FD h3]);clear cKw jQ Ao;cbv;refine uJ an bn ?_;generalize eR an bn=C at *;cbv;exact af
 have h3:=mQW.1 h3;replace Ao:=Ao rfl (by rw[lG h3,mY h3]);rw[nM (by simp[h3])];clear cKw jQ jE FD lG mY;have fXC:aS (A .jO as_) as_.size:=⟨by rw[hA.jO]⟩;have gY:aS (A .jO bs) bs.size:=⟨by rw[hA.jO]⟩;have kJK:as_.data.toList.length=as_.size:=by rw[mXV];rfl
 have KF:bs.data.toList.length=bs.size:=by rw[mXV];rfl
 have aKL:∀(s:ByteArray) (i:Nat),i<s.size->∃x:UInt8,s.data.toList[i]? =some x/\jg s i=(x.toNat:Int):=fun s i hi=>by
  have Cz:i<s.data.size:=hi;refine⟨s.data[i],by simp[Cz],?_⟩;simp[jg,mXR Cz]
 have rR:∀s z i,aS z i->A .byte s z=jg s i:=fun s z i hz=>by
  rw[hA.byte];simp only[jg];rw[hz.eq];rfl
 obtain⟨I,aY⟩:∃I:Nat->Int->ad->Prop,∀m z h',I m z h'=∃i:Nat,aS z i/\m=as_.size-i/\i<=as_.size/\i<=bs.size/\h'=h/\∀j,j<i->as_.data.toList[j]? =bs.data.toList[j]? :=⟨_,fun _ _ _=>rfl⟩;have hJ:I as_.size 0 h:=by rw[aY];exact⟨0,⟨rfl⟩,by omega,by omega,by omega,rfl,fun j hj=>(by omega)⟩
 obtain⟨mz,FH⟩:∃mz,mz=as_.size:=⟨_,rfl⟩;rw[<-FH]at hJ;cbv;refine aX.go (G:=Int) (fun z=>[(5,.v (.int .i64 z))]) (fun _=>[(2,[.int .i64 ak,.int .i64 an,.string as_]),(3,[.int .i64 ak,.int .i64 bn,.string bs])]) (fun m z h'=>I m z h') mz 0 ⟨?_,?_,?_⟩ hJ ?_
 ·cbv
 ·cbv
 ·cbv
 ·intro m z h' hI;rw[aY]at hI;cbv;obtain⟨i,hz,hm,kKu,iXo,kKy,aV⟩:=hI;have Za:=IE (a:=as_.data.toList) (b:=bs.data.toList) (i:=i) (by omega) (by omega) aV;have g1:A .aI .lss z (A .jO as_)=decide (i<as_.size):=hz.iJ fXC;have g2:A .aI .lss z (A .jO bs)=decide (i<bs.size):=hz.iJ gY;have tG:∀x y:List UInt8,as_.data.toList.drop i=x->bs.data.toList.drop i=y->x=[]\/y=[]->eR (A .jO as_) (A .jO bs)=eC as_ bs:=fun x y hx hy ho=>by
   unfold eC;rw[Za,hx,hy,fXC.eq,gY.eq];have l1:=congrArg List.length hx;have l2:=congrArg List.length hy;rw[mQX]at l1 l2
   match x,y,ho with
   | [],[],_=>rw[mQK]at l1 l2;rw[(Bl _ _).2 (by omega)];rfl
   | [],y::r,_=>rw[mQK]at l1;rw[mQx]at l2;show(if decide ((as_.size:Int)<bs.size)=true then(-1:Int)else _)=-1;rw[if_pos (kS (by omega))]
   |x::r,[],_=>rw[mQK]at l2;rw[mQx]at l1;show(if decide ((as_.size:Int)<bs.size)=true then(-1:Int)else if decide ((as_.size:Int)>bs.size)=true then 1 else 0)=1;rw[if_neg (by simp;omega),if_pos (kS (by omega))]
   |x::r,y::s,h=>exact absurd h (by simp)
  subst kKy;by_cases h1:i<as_.size
  ·rw[kS h1]at g1;obtain⟨x,hx,dJA⟩:=aKL as_ i h1;have MT:as_.data.toList.drop i=x::as_.data.toList.drop (i+1):=by rw[mQy (by omega)];rw[(HH.1 hx).2]
   rw[g1];cbv;by_cases h2:i<bs.size
   ·rw[kS h2]at g2;obtain⟨y,hy,aKc⟩:=aKL bs i h2;have JB:bs.data.toList.drop i=y::bs.data.toList.drop (i+1):=by rw[mQy (by omega)];rw[(HH.1 hy).2]
    rw[MT,JB]at Za;have c1:(0:Int)<=z/\z<(as_.size:Int):=hz.ix h1;have c2:(0:Int)<=z/\z<(bs.size:Int):=hz.ix h2;have e1:A .byte as_ z=(x.toNat:Int):=by rw[rR as_ z i hz,dJA]
    have e2:A .byte bs z=(y.toNat:Int):=by rw[rR bs z i hz,aKc]
    have g3:A .aI .neq (A .byte as_ z) (A .byte bs z)=decide (x≠y):=by
     rw[e1,e2,aC A,decide_eq_decide];refine not_congr ?_;constructor
     ·intro e;exact mXG.1 (mKa.1 e)
     ·rintro rfl;rfl
    have g4:=Ll (A:=A) e1;have g5:=Ll (A:=A) e2;obtain⟨hKe,VZ⟩:∃w,A .conv .i64 (A .byte as_ z)=w:=⟨_,rfl⟩;obtain⟨mQj,jXj⟩:∃w,A .conv .i64 (A .byte bs z)=w:=⟨_,rfl⟩;rw[VZ]at g4;rw[jXj]at g5;have cZ:=hz.succ (A:=A) (by omega);obtain⟨z2,dL⟩:∃z2,A .bB .add .i64 z 1=z2:=⟨_,rfl⟩;rw[dL]at cZ;have cD:x=y->I (as_.size-(i+1)) z2 h':=fun uP=>by
     rw[aY];refine⟨i+1,cZ,rfl,by omega,by omega,rfl,fun j hj=>?_⟩;rcases mQS j i with h|h
     ·exact aV j h
     ·have:j=i:=by omega
      rw[this,hx,hy,uP]
    have af:x≠y->k (.int .i64 (eR hKe mQj)) h':=fun uP=>by
     refine Ao _ ?_;unfold eC;rw[Za,g4,g5];simp only[Lib.compareBytes];unfold eR;by_cases aP:x<y
     ·have:x.toNat<y.toNat:=mXP.1 aP;rw[if_pos aP,if_pos (kS (by omega))]
     ·have h5:¬x.toNat<y.toNat:=fun e=>aP (mXP.2 e);have h6:x.toNat≠y.toNat:=fun e=>uP (mXG.1 e);have h7:y<x:=mXP.2 (by omega);rw[if_neg aP,if_pos h7,if_neg (by simp;omega),if_pos (kS (by omega))]
    have sh:as_.size-(i+1)<m:=by omega
    obtain⟨mm,sf⟩:∃mm,mm=as_.size-(i+1):=⟨_,rfl⟩;rw[<-sf]at sh cD;clear aY hJ Ao tG;rw[g2];cbv;refine⟨c1,?_⟩;cbv;refine⟨c2,?_⟩;cbv;rw[g3];by_cases uP:x=y
    ·have jd:=cD uP;rw[nM (by simp[uP])];clear cD af;cbv;rw[dL];refine⟨mm,_,sh,⟨?_,?_,?_⟩,jd⟩
     ·cbv
     ·cbv
     ·cbv
    ·have hf:=af uP;rw[kS (by simpa using uP)];clear cD af;cbv;refine⟨c1,?_⟩;cbv;refine⟨c2,?_⟩;cbv;rw[VZ,jXj];refine uJ hKe mQj ?_;generalize eR hKe mQj=C at *;cbv;exact hf
   ·rw[nM h2]at g2;have hf:=Ao _ (tG _ _ MT (mXl (by omega)) (.inr rfl));rw[g2];clear aY hJ Ao tG;cbv;refine uJ (A .jO as_) (A .jO bs) ?_;generalize eR (A .jO as_) (A .jO bs)=C at *;cbv;exact hf
  ·rw[nM h1]at g1;have hf:=Ao _ (tG _ _ (mXl (by omega)) rfl (.inl rfl));rw[g1];clear aY hJ Ao tG;cbv;refine uJ (A .jO as_) (A .jO bs) ?_;generalize eR (A .jO as_) (A .jO bs)=C at *;cbv;exact hf
end Go.S
