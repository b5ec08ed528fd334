import Derived.Test.YthnbpiejemlbeaaGreatGA
set_option linter.all false
set_option maxRecDepth 100000
set_option maxHeartbeats 8000000
namespace Go.S
open Go.Sx Go.Proofs
variable {d:DB}{D:DB×Int}{n vc:Nat}{vb:Option Addr}{r:Row}{k:Value->ab->Prop}{h:ab}
def dG(d:DB)(hd:bG)(act:bJ->bJ×cC×Int):DB×Int:=
 if decide ((bU d hd).2≠0)=true then bU d hd
 else match (bU d hd).1.aj[cR (aB (bU d hd).1.aj hd.table)]?,(bU d hd).1.ah[cR (bH (bU d hd).1.ah hd.s)]? with
  |some t,some w=>
   if decide ((act t).2.2≠19)&&decide ((w.log.length:Int)>=60)then((bU d hd).1,4)
   else if decide ((act t).2.2=0)=true then
    (⟨(bU d hd).1.aj.set (cR (aB (bU d hd).1.aj hd.table)) (act t).1,(bU d hd).1.ah.set (cR (bH (bU d hd).1.ah hd.s)) ⟨w.s,w.log++[⟨hd.table,(act t).2.1.op,(act t).2.1.row⟩],w.marks⟩,(bU d hd).1.holds,(bU d hd).1.waits⟩,0)
   else((bU d hd).1,(act t).2.2)
  |_,_=>bU d hd
theorem PV{v:Value}(q:eD h v d)(ok:pQ n d)(yX:n<2^18)(s:Int)(DE:-2^63<=s/\s<2^63)(a:ByteArray){rb:Nat}{vn:Nat}(gr:h rb=some (.cells #[.slice vb vn vc] 46 (0,0)))(qr:Sl 45 aS h (.slice vb vn vc) r):
 Ct 47 [v,.int .i64 s,.string a,.func (.func 44) #[] #[.pointer (some ⟨rb,0,none⟩)]] h (λv' h'=>∃v1 e P,v'=.tuple #[v1,.int .i64 e]/\Le h h'/\eD h' v1 P/\(P,e)=dG d ⟨s,a,true⟩ (il r)):=by
 obtain⟨F,Z,K,G,n2,L,I,n3,N,J,n4,O,rfl⟩:=q.form;have hH:=ok.holds;have bc:=ok.waits;generalize y:dG d ⟨s,a,true⟩ (il r)=D;have X:=xg ok ⟨s,a,true⟩ DE;have MZ:=xf ok (hd:=⟨s,a,true⟩) DE;unfold dG at y;obtain⟨D0,Nb⟩:∃D0,bU d ⟨s,a,true⟩=D0:=⟨_,rfl⟩;rw[Nb]at y X MZ;obtain⟨⟨dT,b,H,f⟩,e⟩:=D0;refine an aZQ Tryz.func47 λA hA=>?_;cbv;refine jo q (λk c E wb ct cw W l1 hc lD rJ nF mQ hW IV Gk cs=>?_);have cs:iX k c E wb ct cw d.aj (Wf d.ah) d.holds d.waits 0:=by rw[hW]at cs;exact cs
 cbv;refine FU cs ⟨s,a,true⟩ nF mQ ok.rows (by omega) (by omega) Nb (λR k2 IX=>?_);have ud:iX R c E wb ct cw dT (Wf b) H f 0:=IX;clear IX;have y:(if decide (e≠0)=true then((⟨dT,b,H,f⟩,e):DB×Int)
  else match dT[cR (aB dT a)]?,b[cR (bH b s)]? with
  |some t,some w=>
   if decide (((il r) t).2.2≠19)&&decide ((w.log.length:Int)>=60)then(⟨dT,b,H,f⟩,4)
   else if decide (((il r) t).2.2=0)=true then
    (⟨dT.set (cR (aB dT a)) ((il r) t).1,b.set (cR (bH b s)) ⟨w.s,w.log++[⟨a,((il r) t).2.1.op,((il r) t).2.1.row⟩],w.marks⟩,H,f⟩,0)
   else(⟨dT,b,H,f⟩,((il r) t).2.2)
  |_,_=>(⟨dT,b,H,f⟩,e))=D:=y
 have MZ:e=0->gZ (aB dT a)=true/\gZ (bH b s)=true:=MZ;have aW:ko dT:=X.ok.rows;clear X;have l2:Le h R:=l1.aE (by simp[hc,lD,rJ]) k2;have Lj:(Wf b).map (·.1)=b:=by unfold Wf;rw[List.map_map];simp[Function.comp_def]
 generalize eu:A .ay .neq e 0=u;have fu:=eu;rw[av A]at eu;rw[eu]at y;cbv;rw[fu];cases u with
 |true=>
  have C:D=(⟨dT,b,H,f⟩,e):=by rw[<-y];rfl
  refine ud.elim (λm1 m2 x3 m3 k3 x4 m4 k4 o p _ _ _ _ _ _ _ U=>?_);rw[Lj]at U;cbv;rw[al A];refine ak p ?_;cbv;refine dc U (λh3 F Z K G n2 L I n3 N J n4 O l3 j=>?_);cbv;exact⟨_,e,_,rfl,l2.trans l3,j,C.symm⟩
 |false=>
  have uv:e=0:=Decidable.not_not.1 (of_decide_eq_false eu);subst uv;obtain⟨Gg,Gf⟩:=MZ rfl;have KS:=im Gg;have Pj:=im Gf;simp only[aB,bH,List.length_map]at KS Pj;obtain⟨t,ht⟩:=ax (xs:=dT) (i:=cR (aB dT a)) KS;obtain⟨w,hw⟩:=ax (xs:=b) (i:=cR (bH b s)) Pj;cbv;refine(oB ud a).mono (λv h3 hR=>?_);obtain⟨l3,zt,tt,rfl,Lh⟩:=hR;obtain⟨Q,-⟩:=Lh.at_;have Q:aK zt (cR (aB dT a)):=Q;cbv;refine(uR (ud.mono l3) s).mono (λv h4 hR=>?_);obtain⟨l4,zw,tw,rfl,Lf⟩:=hR;obtain⟨z,-⟩:=Lf.at_;have z:aK zw (cR (bH b s)):=by have k:aK zw (cR (cU (Wf b) s)):=z;rw[mY]at k;exact k
  have bj:=(List.getElem?_eq_some_iff.1 ht).1;have bd:=(List.getElem?_eq_some_iff.1 hw).1;generalize Ux:cR (aB dT a)=kt at *;generalize Uw:cR (bH b s)=kw at *;have zR:=l3.trans l4;have Ii:=l2.trans zR;have DO:=ud.mono zR;refine DO.elim (λm1 m2 x3 m3 k3 x4 m4 k4 o f0 f1 f2 f3 f4 f5 f6 f7 _=>?_);have yY:m2=b.length:=by rw[f4];simp[Wf]
  have Ey:(Wf b)[kw]? =some (w,true):=by unfold Wf;rw[List.getElem?_map,hw];rfl
  have Gd:(some (⟨wb,0,none⟩:Addr)).isSome=true/\0<=zw/\zw<(m2:Int):=⟨rfl,z.ix (by omega)⟩;have Cz:(some (⟨E,0,none⟩:Addr)).isSome=true/\0<=zt/\zt<(m1:Int):=⟨rfl,Q.ix (by omega)⟩;cbv;rw[al A];rw[al A];refine ak f0 ?_;cbv;refine⟨Gd,?_⟩;cbv;rw[al A];rw[al A];refine ak f0 ?_;cbv;refine⟨Cz,?_⟩;cbv;obtain⟨⟨nm,cols,key,only⟩,m⟩:=t;refine vo (f3.sl f2) ht Q.eq (λy1 y2 y3 y4 y5 y6 r1 r2=>?_);have rL:y5<=2^37:=by have k:=aW _ (List.mem_of_getElem? ht);have R:=r2.len;have k:m.length<=2^36:=k;have R:y5=m.length:=R;omega
  cbv;refine SN (nm:=nm) (key:=key) (only:=only) r1 r2 (Ii _ _ gr) (qr.mono (Ii.t _)) rL (λh5 z1 z2 z3 z4 z5 z6 z7 z8 z9 e1 T1 g l5 r3 r4 r5 r6=>?_);have my:=Ii.trans l5;have uO:=DO.mono l5;have C:D=(if decide (e1≠19)&&decide ((w.log.length:Int)>=60)then(⟨dT,b,H,f⟩,4)
   else if decide (e1=0)=true then(⟨dT.set kt ⟨⟨nm,cols,key,only⟩,T1⟩,b.set kw ⟨w.s,w.log++[⟨a,g.op,g.row⟩],w.marks⟩,H,f⟩,0)else(⟨dT,b,H,f⟩,e1)):=by
   rw[<-y];simp only[Bool.false_eq_true,if_false];rw[ht,hw];simp only;rw[<-r6]
  have fin:∀(e:Int) (T:ab) (v:Value),Le h T->eD T v ⟨dT,b,H,f⟩->D=(⟨dT,b,H,f⟩,e)->∃v1 e1 P,Value.tuple #[v,.int .i64 e]=.tuple #[v1,.int .i64 e1]/\Le h T/\eD T v1 P/\(P,e1)=D:=
   λe T v l r hE=>⟨v,e,_,rfl,l,r,hE.symm⟩
  refine uO.elim (λp1 p2 p3 p4 p5 p6 p7 p8 p9 p i1 i2 i3 i4 i5 i6 i7 U=>?_);rw[Lj]at U;generalize Gl:A .ay .neq e1 19=Xt;have aH:=Gl;rw[av A]at Gl;generalize vE:A .ay .eql e1 0=u0;have kI:=vE;rw[aq A]at vE;rw[Gl,vE]at C;cbv;rw[aH];cases Xt with
  |false=>
   have au:e1=19:=Decidable.not_not.1 (of_decide_eq_false Gl);have YL:u0=false:=by rw[<-vE,au];rfl
   subst YL;have C:D=(⟨dT,b,H,f⟩,e1):=C;cbv;rw[kI];cbv;rw[al A];refine ak p ?_;cbv;refine dc U (λS F Z K G n2 L I n3 N J n4 O Y j=>?_);cbv;exact fin e1 _ _ (my.trans Y) j C
  |true=>
   have Ax:=z.eq;cbv;refine mP (i5.sl i4) Ey z.eq (λy1 y2 y3 r7 r9 _=>?_);generalize B:A .ay .geq (A .nat y2) 60=Rq;have aN:=B;rw[bX A,hA.nat]at B;simp only[Int.ofNat_eq_natCast]at B;have vp:y2=w.log.length:=r7.len;have Cn:Rq=false->y2<60:=λe=>by rw[e]at B;have:=of_decide_eq_false B;omega
   rw[vp]at B;rw[B]at C;cbv;rw[aN];cases Rq with
   |true=>
    have C:D=(⟨dT,b,H,f⟩,4):=C;have Nf:A .ay .eql 4 0=false:=by rw[aq A];rfl
    cbv;rw[Nf];cbv;rw[al A];refine ak p ?_;cbv;refine dc U (λS F Z K G n2 L I n3 N J n4 O Y j=>?_);cbv;exact fin 4 _ _ (my.trans Y) j C
   |false=>
    have aF:=Cn rfl;have mD:w.log.length<60:=by omega
    cbv;rw[kI];cases u0 with
    |false=>have C:D=(⟨dT,b,H,f⟩,e1):=C;cbv;rw[al A];refine ak p ?_;cbv;refine dc U (λS F Z K G n2 L I n3 N J n4 O Y j=>?_);cbv;exact fin e1 _ _ (my.trans Y) j C
    |true=>
     have gP:e1=0:=of_decide_eq_true vE;have C:D=(⟨dT.set kt ⟨⟨nm,cols,key,only⟩,T1⟩,b.set kw ⟨w.s,w.log++[⟨a,g.op,g.row⟩],w.marks⟩,H,f⟩,0):=C;subst gP;have Cy:(some (⟨E,0,none⟩:Addr)).isSome=true/\0<=zt/\zt<(p1:Int):=⟨rfl,Q.ix (by omega)⟩;cbv;rw[al A];rw[al A];refine ak p ?_;cbv;refine⟨Cy,?_⟩;cbv;have rT:bo.R h5 [.string nm,.slice z1 z2 z3,.int .i64 key,.bool only,.slice z4 z5 z6] ⟨⟨nm,cols,key,only⟩,T1⟩:=⟨_,_,_,_,_,_,rfl,r3,r4⟩;refine i3.setAt (by decide) (i:=kt) (by omega) Q.eq rfl rT (λS k6 t6 o6=>?_);have KY:c≠E:=nF;have g6:=k6 _ _ p (by simpa using KY);have V:=i5.mono (t6 _ (by decide));have aj:=r5.mono (t6 _ (by decide));cbv;refine mP (V.sl i4) Ey z.eq (λy1 y2 y3 r7 r9 ag=>?_);have OV:=r9 rfl;subst OV;cbv;intro ar h7 KO e7;have l7:Le S h7:=by rw[e7];exact Le.set KO
     have g7:=(congrFun e7 ar).trans ae;have qx:=aR (s:=aV) g7 (x:=⟨a,g.op,g.row⟩) ⟨_,_,_,rfl,aj.mono (l7.t _)⟩;cbv;refine ag _ _ l7 ?_;cbv;refine⟨⟨_,rfl,rfl⟩,?_⟩;cbv;have vp:=r7.len;refine iu (r7.mono (l7.t _)) qx (by omega) rfl (by decide) (by simp only at vp;omega) (λbp c8 h8 bk l8 bl o8=>?_);have M:=l7.trans l8;have aZ:=V.mono (M.t _);have s8:=o8.sl (n:=y3+1) (by simp only[List.length_append,List.length_singleton];simp only at vp;omega);cbv;refine aZ.HG (by decide) (i:=kw) Ey z.eq rfl (off:=1) (by simp[bE]) (x':=(⟨w.s,w.log++[⟨a,g.op,g.row⟩],w.marks⟩,false)) (λcs ao=>?_) (λh9 k9 t9 o9=>?_)
     .obtain⟨y1,y2,y3,y4,y5,y6,rfl,q1,q2,q3⟩:=ao;exact⟨_,_,_,y4,y5,y6,rfl,s8,q2,λe=>by cases e⟩
     have g8:=M _ _ g6;have KX:c≠wb:=mQ;have g9:=k9 _ _ g8 (by simpa using KX);have Qp:Le h h9:=by have k:Le h S:=my.aE (by simpa using lD) k6;exact(k.trans M).aE (by simpa using rJ) k9
     have Cx:eD h9 (.agg #[.slice (some ⟨E,0,none⟩) p1 ct,.slice (some ⟨wb,0,none⟩) p2 cw,.slice p3 p4 p5,.slice p6 p7 p8]) ⟨dT.set kt ⟨⟨nm,cols,key,only⟩,T1⟩,b.set kw ⟨w.s,w.log++[⟨a,g.op,g.row⟩],w.marks⟩,H,f⟩:=by refine⟨_,_,_,_,_,_,_,_,_,_,_,_,_,rfl,((o6.mono (M.t _)).mono (t9 _ (by decide))).sl (by rw[List.length_set];exact i2),o9.sl (by rw[List.length_set];exact i4),((i6.mono (t6 _ (by decide))).mono (M.t _)).mono (t9 _ (by decide)),((i7.mono (t6 _ (by decide))).mono (M.t _)).mono (t9 _ (by decide)),?_⟩;rw[List.map_set,Lj]
     cbv;rw[al A];refine ak g9 ?_;cbv;refine dc Cx (λgP F Z K G n2 L I n3 N J n4 O fo j=>?_);cbv;exact⟨_,0,_,rfl,Qp.trans fo,j,C.symm⟩
def um(d:DB)(s:Int)(name:ByteArray)(r:Row):DB×Int:=dG d ⟨s,name,true⟩ (il r)
def dU(d:DB)(s:Int):DB×Int:=if gZ (bH d.ah s)=true then(iI d s,0)else(d,2)
def cW(d:DB)(s:Int):DB×List cC×Int:=
 if gZ (bH d.ah s)=true then(⟨d.aj,uz d.ah s,bA d.holds s,bA d.waits s⟩,match d.ah[cR (bH d.ah s)]? with
  |some w=>w.log
  |none=>[],0)
 else(d,[],2)
def dQ(d:DB)(name:ByteArray):DB×Int:=
 if gZ (aB d.aj name)=true then if decide ((d.ah.length:Int)>0)=true then(d,18)else(⟨d.aj.eraseIdx (cR (aB d.aj name)),d.ah,d.holds,d.waits⟩,0)
 else(d,2)
theorem vG(w:List ep):(Wf w).map (·.1)=w:=by unfold Wf;rw[List.map_map];simp[Function.comp_def]
theorem aJX{v:Value}(q:eD h v d)(N:pQ n d)(Q:n<2^18)(s:Int)(E:-2^63<=s/\s<2^63)(a:ByteArray){y:Nat}(O:Sl 45 aS h (.slice vb y vc) r)(I:um d s a r=D)
 (K:QO h D.1 D.2 k):Ct 14 [v,.int .i64 s,.string a,.slice vb y vc] h k:=by
 obtain⟨b,t,i,c,u,j,f,w,m,g,x,o,rfl⟩:=q.form;refine an eXK Tryz.func14 λA R=>?_;cbv;intro P F G e1;have l:Le h F:=by rw[e1];exact Le.set G
 have C:=(congrFun e1 P).trans ae;cbv;refine(PV (q.mono l) N Q s E a C (O.mono (l.t _))).mono (λv H hR=>?_);obtain⟨S,e,B,L,M,hd,J⟩:=hR;have X:(B,e)=D:=J.trans I;subst X;obtain⟨b,t,i,c,u,j,f,w,m,g,x,o,p⟩:=hd.form;rw[L,p];have z:=K H b t i c u j f w m g x o (l.trans M) (by rw[<-p];exact hd);cbv;exact z
theorem iX.new{c b wb t a:Nat}{W:List (ep×Bool)}(cs:iX h c b wb t a d.aj W d.holds d.waits 0)(e:W=d.ah.map λw=>(w,true)):iX h c b wb t a d.aj (Wf d.ah) d.holds d.waits 0:=by rw[e]at cs;exact cs
theorem HQ{v:Value}(q:eD h v d)(G:pQ n d)(yX:n<2^18)(s:Int)(J:dU d s=D)
 (K:QO h D.1 D.2 k):Ct 23 [v,.int .i64 s] h k:=by
 obtain⟨b,m,g,a,p,i,e,r,j,f,u,l,rfl⟩:=q.form;have hH:=G.holds;have Z:=G.waits;refine an gKq Tryz.func23 λA I=>?_;cbv;refine jo q (λh1 c tb wb ct cw W R Q T rJ X V P IV Gk cs=>?_);have cs:=cs.new P;cbv;refine oz cs s (λh2 z t M hz B=>?_);rw[mY]at B;have F:=R.trans M;have Y:=q.mono F;cases t with
 |false=>
  have C:D=(d,2):=by rw[<-J];unfold dU;rw[<-B];rfl
  subst C;cbv;rw[show A .not false=true by rw[I.not];rfl];cbv;refine dc Y (λy b m g a p i e r j f u l E x=>?_);have w:=K y b m g a p i e r j f u l (F.trans E) x;cbv;exact w
 |true=>
  have C:D=(iI d s,0):=by rw[<-J];unfold dU;rw[<-B];rfl
  subst C;cbv;rw[show A .not true=false by rw[I.not];rfl];cbv;refine VN (cs.mono M) X V G.rows s (by omega) (by omega) (λy L H=>?_);rw[Jk,Gj]at H;have E:Le h y:=F.aE (by simp[Q,T,rJ]) L;refine H.elim (λm1 m2 x3 m3 L x4 m4 k4 o N _ _ _ _ _ _ _ U=>?_);rw[vG]at U;cbv;rw[al A];refine ak N ?_;cbv;refine dc U (λO b m g a p i e r j f u l S x=>?_);have w:=K O b m g a p i e r j f u l (E.trans S) x;cbv;exact w
theorem PJ{v:Value}(q:eD h v d)(ok:pQ n d)(yX:n<2^18)(s:Int){D:DB×List cC×Int}(Q:cW d s=D)
 (hk:∀h' a r j e u l f y m g B p V n5 Y,Le h h'->eD h' (.agg #[.slice a r j,.slice e u l,.slice f y m,.slice g B p]) D.1->Sl 161 aV h' (.slice V n5 Y) D.2.1->k (.tuple #[.agg #[.slice a r j,.slice e u l,.slice f y m,.slice g B p],.slice V n5 Y,.int .i64 D.2.2]) h'):Ct 50 [v,.int .i64 s] h k:=by
 obtain⟨a,r,j,e,u,l,f,y,m,g,B,p,rfl⟩:=q.form;have hH:=ok.holds;have ag:=ok.waits;refine an gKa Tryz.func50 λA hA=>?_;cbv;refine jo q (λh1 c tb wb ct cw W l1 hc lD rJ nF mQ hW IV Gk cs=>?_);have cs:=cs.new hW;cbv;refine oz cs s (λh2 z t l2 S H=>?_);rw[mY]at H S;have L:=l1.trans l2;have q2:=q.mono L;cases t with
 |false=>
  have K:D=(d,[],2):=by rw[<-Q];unfold cW;rw[<-H];rfl
  subst K;cbv;rw[show A .not false=true by rw[hA.not];rfl];cbv;refine dc q2 (λO a r j e u l f y m g B p E N=>?_);have J:=hk O a r j e u l f y m g B p none 0 0 (L.trans E) N Sl.nil;cbv;exact J
 |true=>
  have aF:cR (bH d.ah s)<d.ah.length:=by have:=im H.symm;simpa[bH]using this
  obtain⟨w,hw⟩:=ax aF;have K:D=(⟨d.aj,uz d.ah s,bA d.holds s,bA d.waits s⟩,w.log,0):=by rw[<-Q];unfold cW;rw[<-H,hw];rfl
  subst K;clear Q;generalize cR (bH d.ah s)=i at *;have ud:=cs.mono l2;have Ey:(Wf d.ah)[i]? =some (w,true):=by unfold Wf;rw[List.getElem?_map,hw];rfl
  refine ud.elim (λm1 T x3 m3 k3 x4 m4 I o C _ _ _ f3 M _ _ _=>?_);have yY:T=d.ah.length:=by rw[f3];simp[Wf]
  have dv:(some (⟨wb,0,none⟩:Addr)).isSome=true/\0<=z/\z<(T:Int):=⟨rfl,S.ix (by omega)⟩;cbv;rw[show A .not true=false by rw[hA.not];rfl];cbv;rw[al A];rw[al A];refine ak C ?_;cbv;refine⟨dv,?_⟩;cbv;refine mP (M.sl f3) Ey S.eq (λy1 y2 y3 r7 r9 _=>?_);cbv;refine(Lu r7).mono (λv O hR=>?_);obtain⟨E,nb,Z,rfl,ol⟩:=hR;have vp:=r7.len;have Dm:=ud.mono E;have aj:nb∉[c,wb]:=λG=>by
   simp at G;rcases G with rfl|rfl
   .rw[Z]at C;cases C
   obtain⟨x,hx,-⟩:=M.out;rw[Z]at hx;cases hx
  cbv;refine cKg Dm mQ s (by omega) (by omega) (λP I U=>?_);rw[Gj]at U;have l4:Le h P:=(L.trans E).aE (by simp[hc,rJ]) I;have X:Sl 161 aV P (.slice (some ⟨nb,0,none⟩) y2 y2) w.log:=by
   obtain⟨x1,WQ,-⟩:=M.out;have R:bV [161,45] O P:=λb c' e' JK he F=>I b _ F (λG=>by
    simp at G;rcases G with rfl|rfl
    .rw[E _ _ C]at F;cases F;simp at he
    rw[E _ _ WQ]at F;cases F;simp at he)
   exact(ol.mono (by exact R)).sl vp
  refine U.elim (λm1 T x3 m3 k3 x4 m4 I o C _ _ _ _ _ _ _ fU=>?_);rw[vG]at fU;cbv;rw[al A];refine ak C ?_;cbv;refine dc fU (λh5 a r j e u l f y m g B p l5 N=>?_);have J:=hk h5 a r j e u l f y m g B p _ _ _ (l4.trans l5) N (X.mono (l5.t _));cbv;exact J
theorem iX.Mg{d h':ab}{c m wb t w:Nat}{T:List bJ}{W:List (ep×Bool)}{H s:List bG}{e:Int}{G r:Nat}{f g:Option Addr}{k i l j:Nat}{o:Int}
 (u:h c=some (.cells #[.slice (some ⟨m,0,none⟩) G t,.slice (some ⟨wb,0,none⟩) n w,.slice f k i,.slice g l j,.int .u32 o,.int .i32 0,.int .u32 0,.int .i64 e] 148 (0,0)))
 (D:(o=0/\e=0)\/(o=1/\e≠0)) (v:n=W.length) (x:cA 79 bE h wb w W) (y:Sl 253 aO h (.slice f k i) H) (z:Sl 253 aO h (.slice g l j) s) (B:r=T.length)
 (F:∀tys,61∉tys->bV tys h d) (E:d c=h c) (A:cA 61 bo d m t T)
 (p:h'=bu d c (.cells #[.slice (some ⟨m,0,none⟩) r t,.slice (some ⟨wb,0,none⟩) n w,.slice f k i,.slice g l j,.int .u32 o,.int .i32 0,.int .u32 0,.int .i64 e] 148 (0,0))):
 Kp [c] d h'/\iX h' c m wb t w T W H s e:=by
 have Z:=E.trans u;have lt:∀tys,148∉tys->bV tys d h':=λtys C=>by rw[p];exact bV.set Z C
 have q:∀tys,61∉tys->148∉tys->bV tys h h':=λtys a b=>(F tys a).trans (lt tys b);refine⟨by rw[p];exact Kp.set (by simp),r,n,f,k,i,g,l,j,o,by rw[p];exact ae,D,B,A.mono (lt _ (by decide)),v,x.mono (q _ (by decide) (by decide)),y.mono (q _ (by decide) (by decide)),z.mono (q _ (by decide) (by decide))⟩
theorem Nn{v:Value}(q:eD h v d)(n:ByteArray)(M:dQ d n=D)
 (N:QO h D.1 D.2 k):Ct 166 [v,.string n] h k:=by
 obtain⟨e,x,p,f,a,r,j,y,s,l,B,w,rfl⟩:=q.form;have rj:a=d.ah.length:=by obtain⟨_,_,_,_,_,_,_,_,_,_,_,_,ws,he,_,qw,_,_,O⟩:=q.out;cases he;rw[qw.len,<-O,List.length_map]
 refine an aQw Tryz.func166 λA L=>?_;cbv;refine jo q (λh1 c tb wb ct cw W l1 hc lD rJ nF mQ hW IV Gk cs=>?_);have cs:=cs.new hW;cbv;refine sj cs n (λh2 z t l2 Z P=>?_);have G:=l1.trans l2;have q2:=q.mono G;cases t with
 |false=>
  have b:D=(d,2):=by rw[<-M];unfold dQ;rw[<-P];rfl
  subst b;cbv;rw[show A .not false=true by rw[L.not];rfl];cbv;refine dc q2 (λF e x p f a r j y s l B w S E=>?_);have C:=N F e x p f a r j y s l B w (G.trans S) E;cbv;exact C
 |true=>
  have aF:cR (aB d.aj n)<d.aj.length:=by have:=im P.symm;simpa[aB]using this
  have b:D=if decide ((d.ah.length:Int)>0)=true then(d,18)else(⟨d.aj.eraseIdx (cR (aB d.aj n)),d.ah,d.holds,d.waits⟩,0):=by rw[<-M];unfold dQ;rw[<-P];rfl
  clear M;generalize cR (aB d.aj n)=i at *;generalize K:A .ay .gtr (A .nat a) 0=u;have fu:=K;rw[aX A,L.nat,rj,show Int.ofNat d.ah.length=(d.ah.length:Int)from rfl]at K;rw[K]at b;cbv;rw[show A .not true=false by rw[L.not];rfl];cbv;rw[fu];cases u with
  |true=>have b:D=(d,18):=b;subst b;cbv;refine dc q2 (λF e x p f a r j y s l B w S E=>?_);have C:=N F e x p f a r j y s l B w (G.trans S) E;cbv;exact C
  |false=>
   have b:D=(⟨d.aj.eraseIdx i,d.ah,d.holds,d.waits⟩,0):=b;subst b;have ud:=cs.mono l2;refine ud.elim (λm1 m2 x3 m3 I x4 m4 R o g ho f1 V f3 f4 f6 f7 _=>?_);have iW:=V.bd;have jD:=Z.succ (A:=A);have Q:(d.aj.eraseIdx i).length=m1-1:=by rw[List.length_eraseIdx_of_lt aF];omega
   cbv;rw[al A];rw[al A];refine ak g ?_;cbv;refine IW V f1 Z jD (by omega) (λF m O I t3 o3=>?_);have X:F c=h2 c:=(I _ _ g (by simpa using nF)).trans g.symm;have T:=λH hh=>iX.Mg (h':=H) g ho f3 f4 f6 f7 (O.trans Q.symm) t3 X o3 hh;have J:=X.trans g;cbv;rw[al A];rw[al A];refine jr J (by simp) (λH U=>?_);obtain⟨R,DO⟩:=T H U;clear T U;have l4:Le h H:=G.aE (bs:=[tb,c]) (by simp[hc,lD]) ((I.sub (by simp)).trans (R.sub (by simp)));refine DO.elim (λm1 m2 x3 m3 I x4 m4 R o g _ _ _ _ _ _ _ Y=>?_);rw[vG]at Y;cbv;rw[al A];refine ak g ?_;cbv;refine dc Y (λh5 e x p f a r j y s l B w l5 E=>?_);have C:=N h5 e x p f a r j y s l B w (l4.trans l5) E;cbv;exact C
end Go.S
