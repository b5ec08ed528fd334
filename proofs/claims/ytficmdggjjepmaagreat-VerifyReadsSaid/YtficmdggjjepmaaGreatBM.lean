import Derived.Test.YtficmdggjjepmaaGreatBL
set_option linter.all false
set_option maxRecDepth 100000
set_option maxHeartbeats 2000000
namespace Go.S
open Go.Sx Go.Proofs
variable {d:DB}{n:Int}{a o s u:List Bs}{f:List Fd}{m:Nat}{b:Option Addr}{k:Value->ab->Prop}
theorem Xo{T:List bM}{c:cW}(h:(jz T c).2=false):(jz T c).1=T:=by
 unfold jz at *;cases a:T[sY T c.table]? with
 |none=>rfl
 |some t=>
  rw[a]at h;have h:(BC t c).2=false:=h;show T.set (sY T c.table) (BC t c).1=T;have:(BC t c).1=t:=by
   unfold BC at *;split
   .rename_i o;rw[if_pos o]at h;exact Iq (ra h)
   rename_i o;rw[if_neg o]at h;split
   .rfl
   rename_i b;rw[if_neg b]at h;split
   .rfl
   rename_i d;rw[if_neg d]at h;split
   .rename_i e;rw[if_pos e]at h;cases h
   rfl
  rw[this];exact uO a
theorem XY{h:ab}{b1 b2 b3 b4:Option Addr}{n1 c1 n2 c2 n3 c3 n4 c4:Nat}(q:RP h b1 n1 c1 b2 n2 c2 b3 n3 c3 b4 n4 c4 d)(vi:VI d){x:ByteArray}{o:Int}{f:Row}{rb:Option Addr}{rn rc:Nat}(qr:Sl 87 aZ h (.slice rb rn rc) f)(hv:∀v∈f,dX v=0)
 {R:List bM} {u:Bool} (b:jz d.al ⟨x,o,f⟩=(R,u)) 
 (C:u=false->∀h',Le h h'->k (.tuple #[.agg #[.slice b1 n1 c1,.slice b2 n2 c2,.slice b3 n3 c3,.slice b4 n4 c4],.bool false]) h')
 (j:u=true->∀h' lu pU iO,Le h h'->RP h' lu pU iO b2 n2 c2 b3 n3 c3 b4 n4 c4 (ba d R)->k (.tuple #[.agg #[.slice lu pU iO,.slice b2 n2 c2,.slice b3 n3 c3,.slice b4 n4 c4],.bool true]) h'):
 Ct 221 [.agg #[.slice b1 n1 c1,.slice b2 n2 c2,.slice b3 n3 c3,.slice b4 n4 c4],.agg #[.string x,.int .i64 o,.slice rb rn rc]] h k:=by
 obtain⟨A,hA⟩:=Ar.ex;have ai:A .az .lss (-1) 0=true:=by rw[aJ A];rfl
 have aW:A .az .eql o 1=decide (o=1):=aq A ..;have TU:A .az .neq 0 0=false:=by rw[av A];rfl
 have Lu:A .az .eql 0 0=true:=by rw[aq A];rfl
 have Uc:=qr.len;refine dH cZY A Tryz.func221 ?_;cbv;refine(EH q).mono (λv h1 hR=>?_);obtain⟨F,z,rfl,hz⟩:=hR;have q1:=q.mono F;rcases hz.out with⟨gz,bg⟩|⟨i,t,eW,ht,U,bg⟩
 .subst gz;rw[Dr (c:=⟨x,o,f⟩) bg]at b;cases b;have:=C rfl h1 F;clear j;cbv;rw[ai];cbv;exact this
 have hn:t.S.name=x:=qH U;rw[Dq (c:=⟨x,o,f⟩) ht hn bg]at b;have L:=(vi.al t (kF ht)).1;have aI:=(dB.1 ht).1;have eL:n1=d.al.length:=q.al.len;have bk:=vi.le;have aj:A .az .lss z 0=false:=eW.vf (A:=A);have dJ:=eW.eq;have ea:b1.isSome=true/\0<=z/\z<(n1:Int):=⟨q.al.aR,eW.ix (by omega)⟩;have Og:z<(n1:Int):=ea.2.2;have iR:0<n1:=by omega
 have Y:0+n1<=2^39:=by omega
 clear hz bg U;cbv;rw[aj];have IK:=qr.mono (F.t _);cbv;refine⟨ea,?_⟩;cbv;refine q1.al.load ht dJ (λcs w=>?_);obtain⟨⟨n,g,a,to⟩,B⟩:=t;obtain⟨sb,sn,sc,bd,ak,aX,w,qs,q4⟩:=w;have w:cs=[.string n,.slice sb sn sc,.int .i64 a,.bool to,.slice bd ak aX]:=w;subst w;have L:rN g a B:=L;have aP:0<=a:=L.k0;have bl:a.toNat<g.length:=by have:=L.k1;omega
 have bh:=qs.len;cbv;rw[aW];by_cases P:o=1
 .rw[Lw (c:=⟨x,o,f⟩) P]at b;rw[aH P];obtain⟨⟨⟨⟨un,uc,uk,uo⟩,T3⟩,l⟩,T⟩:∃DT,bq ⟨⟨n,g,a,to⟩,B⟩ f=DT:=⟨_,rfl⟩;have W:=mM ⟨⟨n,g,a,to⟩,B⟩ f;rw[T]at W;have W:(⟨un,uc,uk,uo⟩:rM)=⟨n,g,a,to⟩:=W;cases W;have b:(d.al.set i (bq ⟨⟨n,g,a,to⟩,B⟩ f).1,decide ((bq ⟨⟨n,g,a,to⟩,B⟩ f).2=0))=(R,u):=b;rw[T]at b;have b:(d.al.set i ⟨⟨n,g,a,to⟩,T3⟩,decide (l=0))=(R,u):=b;have Ol:R=d.al.set i ⟨⟨n,g,a,to⟩,T3⟩:=by cases b;rfl
  have V:u=decide (l=0):=by cases b;rfl
  have fe:A .az .neq l 0=decide (l≠0):=av A ..;clear b;cbv;refine cKY qs q4 L IK T (λp y1 m1 k1 E M=>?_);have M:Sl 88 aU p (.slice y1 m1 k1) T3:=M;have q2:=q1.mono E;have Q:=qs.mono (E.t _);have O:=F.trans E;cbv;rw[fe];by_cases m:l≠0
  .rw[ag m]at V;have:=C V p O;rw[aH m];clear j;cbv;exact this
  have m:=se.1 m;rw[aH m]at V;rw[ag (by simp[m])];have j:=j V;rw[Ol]at j;clear C;cbv;intro n6 h6 g6 e6;have l6:Le p h6:=by rw[e6];exact Le.set g6
  have lR:aT 198 bu p h6 (.slice (some ⟨n6,0,none⟩) 0 0) ([]:List bM):=aT.nil;cbv;refine lR.append (q2.mono l6).al (by decide) rfl (by decide) Y l6 (λG b7 c7 h7 RV y t7 k7 lH=>?_);rw[hJG]at lH;have K:G=n1:=by omega
  subst K;obtain⟨H,rfl,dV,-,ow⟩:=lH.own iR;have I:=q2.mono y;have J:(some (⟨H,0,none⟩:Addr)).isSome=true/\0<=z/\z<(G:Int):=⟨rfl,ea.2⟩;cbv;refine⟨J,?_⟩;cbv;have rT:bu.R h7 [.string n,.slice sb sn sc,.int .i64 a,.bool to,.slice y1 m1 k1] ⟨⟨n,g,a,to⟩,T3⟩:=⟨_,_,_,_,_,_,rfl,Q.mono (y.t _),M.mono (y.t _)⟩;refine ow.setAt (by decide) aI dJ rfl rT (λh8 k8 N o8=>?_);have l8:Le h h8:=(O.trans y).aE (bs:=[H]) (by simpa using O.none dV) k8;have aD:=j h8 (some ⟨H,0,none⟩) G c7 l8 ⟨o8.sl (by rw[ml];exact eL),I.aj.mono (N _ (by decide)),I.holds.mono (N _ (by decide)),I.waits.mono (N _ (by decide))⟩;clear j;cbv;exact aD
 rw[ag P];cbv;cases to with
 |true=>
  rw[Hh (c:=⟨x,o,f⟩) P rfl]at b;have V:u=false:=by cases b;rfl
  have:=C V h1 F;clear j;cbv;exact this
 |false=>
  have bj:A .az .neq (A .nat rn) (A .nat sn)=decide (f.length≠g.length):=by rw[av A,hA.nat,Uc,bh];exact decide_eq_decide.2 (by simp only[kH];omega)
  cbv;rw[bj];by_cases bm:f.length≠g.length
  .rw[Xe (t:=⟨⟨n,g,a,false⟩,B⟩) L (c:=⟨x,o,f⟩) P bm]at b;have V:u=false:=by cases b;rfl
   have:=C V h1 F;rw[aH bm];clear j;cbv;exact this
  rw[ag bm];have bm:=se.1 bm;have gW:¬a>=(f.length:Int):=by omega
  obtain⟨v,Zf,MW,Z⟩:=Ej (r:=f) aP (by omega);have oZ:=OB.of (hv v Z);have Rn:rb.isSome=true/\0<=a/\a<(rn:Int):=⟨qr.aR,by omega,by omega⟩;have CR:a=(a.toNat:Int):=by omega
  obtain⟨⟨⟨⟨un,uc,uk,uo⟩,T3⟩,S,l⟩,T⟩:∃DT,aS ⟨⟨n,g,a,false⟩,B⟩ v=DT:=⟨_,rfl⟩;have W:=mu ⟨⟨n,g,a,false⟩,B⟩ v;rw[T]at W;have W:(⟨un,uc,uk,uo⟩:rM)=⟨n,g,a,false⟩:=W;cases W;have Ol:=Hg (t:=⟨⟨n,g,a,false⟩,B⟩) (c:=⟨x,o,f⟩) P rfl gW (D:=(⟨⟨n,g,a,false⟩,T3⟩,S,l)) (by rw[<-T,<-MW]);rw[Ol]at b;have mZ:¬(l=0/\gB S f=true)->u=false:=λe=>by
   rw[if_neg e]at b;cases b;rfl
  have qW:(l=0/\gB S f=true)->u=true/\R=d.al.set i ⟨⟨n,g,a,false⟩,T3⟩:=λe=>by
   rw[if_pos e]at b;cases b;exact⟨rfl,rfl⟩
  have fe:A .az .eql l 0=decide (l=0):=aq A ..;have X:A .az .neq l 0=decide (l≠0):=av A ..;obtain⟨vk,vn,vs⟩:=v;clear b Ol MW gW Z;cbv;refine⟨Rn,?_⟩;cbv;refine IK.load Zf CR (λcs w=>?_);have w:cs=[.int .i64 vk,.int .i64 vn,.string vs]:=w;subst w;cbv;refine aKC q4 L oZ T (λp y1 m1 k1 y2 m2 k2 E M r2=>?_);have M:Sl 88 aU p (.slice y1 m1 k1) T3:=M;have r2:Sl 87 aZ p (.slice y2 m2 k2) S:=r2;have q2:=q1.mono E;have Q:=qs.mono (E.t _);have an:=IK.mono (E.t _);have O:=F.trans E;cbv;rw[fe];by_cases m:l=0
  .rw[aH m];cbv;refine NO r2 an ?_;obtain⟨s,hs⟩:∃s,gB S f=s:=⟨_,rfl⟩;rw[hs]at mZ qW |-;have RG:A .not s= !s:=by rw[hA.not]
   cases s with
   |false=>have:=C (mZ (λh=>by cases h.2)) p O;clear j qW;cbv;rw[RG];cbv;exact this
   |true=>
    obtain⟨mT,aw⟩:=qW ⟨m,rfl⟩;have j:=j mT;rw[aw]at j;rw[ag (by simp[m])]at X;clear C mZ qW;cbv;rw[RG];cbv;rw[X];cbv;intro n6 h6 g6 e6;have l6:Le p h6:=by rw[e6];exact Le.set g6
    have lR:aT 198 bu p h6 (.slice (some ⟨n6,0,none⟩) 0 0) ([]:List bM):=aT.nil;cbv;refine lR.append (q2.mono l6).al (by decide) rfl (by decide) Y l6 (λG b7 c7 h7 RV y t7 k7 lH=>?_);rw[hJG]at lH;have K:G=n1:=by omega
    subst K;obtain⟨H,rfl,dV,-,ow⟩:=lH.own iR;have I:=q2.mono y;have J:(some (⟨H,0,none⟩:Addr)).isSome=true/\0<=z/\z<(G:Int):=⟨rfl,ea.2⟩;cbv;refine⟨J,?_⟩;cbv;have rT:bu.R h7 [.string n,.slice sb sn sc,.int .i64 a,.bool false,.slice y1 m1 k1] ⟨⟨n,g,a,false⟩,T3⟩:=⟨_,_,_,_,_,_,rfl,Q.mono (y.t _),M.mono (y.t _)⟩;refine ow.setAt (by decide) aI dJ rfl rT (λh8 k8 N o8=>?_);have l8:Le h h8:=(O.trans y).aE (bs:=[H]) (by simpa using O.none dV) k8;have aD:=j h8 (some ⟨H,0,none⟩) G c7 l8 ⟨o8.sl (by rw[ml];exact eL),I.aj.mono (N _ (by decide)),I.holds.mono (N _ (by decide)),I.waits.mono (N _ (by decide))⟩;clear j;cbv;exact aD
  have:=C (mZ (λh=>m h.1)) p O;rw[ag m];rw[aH m]at X;clear j qW;cbv;rw[X];cbv;exact this
set_option maxHeartbeats 1000000
structure mG(h0 h:ab)(p:Nat)(b1:Option Addr)(n1 c1:Nat)(b2:Option Addr)(n2 c2:Nat)(b3:Option Addr)(n3 c3:Nat)(b4:Option Addr)(n4 c4:Nat)(b5:Option Addr)(n5 c5:Nat)(b6:Option Addr)(n6 c6:Nat)(fb:Option Addr)(fm fc:Nat)(v:VS):Prop where
 lk:TJ h0 h p b1 n1 c1 b2 n2 c2 b3 n3 c3 b4 n4 c4 v.next b5 n5 c5 b6 n6 c6 fb fm fc v.found
 rp:RP h b1 n1 c1 b2 n2 c2 b3 n3 c3 b4 n4 c4 v.d
 op:aT 104 iM h0 h (.slice b5 n5 c5) v.open_
 sm:aT 104 iM h0 h (.slice b6 n6 c6) v.bG
 ne:c5=0\/c6=0\/∀j,b5=some ⟨j,0,none⟩->b6≠some ⟨j,0,none⟩
variable {h0 h gL h':ab}{p:Nat}{fb:Option Addr}{fm fc:Nat}{b1 b2 b3 b4 b5 b6:Option Addr}{n1 c1 n2 c2 n3 c3 n4 c4 n5 c5 n6 c6:Nat}
theorem mG.le{v:VS}(q:mG h0 h p b1 n1 c1 b2 n2 c2 b3 n3 c3 b4 n4 c4 b5 n5 c5 b6 n6 c6 fb fm fc v)(l:Le h h'):mG h0 h' p b1 n1 c1 b2 n2 c2 b3 n3 c3 b4 n4 c4 b5 n5 c5 b6 n6 c6 fb fm fc v:=
 ⟨q.lk.fXF l,q.rp.mono l,q.op.mono (l.t _),q.sm.mono (l.t _),q.ne⟩
theorem mG.call{v:VS}(q:mG h0 h p b1 n1 c1 b2 n2 c2 b3 n3 c3 b4 n4 c4 b5 n5 c5 b6 n6 c6 fb fm fc v)(l:Le h h')(a:Le gL h')(fr:Fr h0 h gL h'):mG gL h' p b1 n1 c1 b2 n2 c2 b3 n3 c3 b4 n4 c4 b5 n5 c5 b6 n6 c6 fb fm fc v:=
 ⟨⟨l _ _ q.lk.out,q.lk.buf.call l fr,(fr _ _ q.lk.new q.lk.out).2,a⟩,q.rp.mono l,q.op.call l fr,q.sm.call l fr,q.ne⟩
theorem mG.dXT{Q:List Fd}{c:Option Addr}{a z:Nat}(q:mG h0 h p b1 n1 c1 b2 n2 c2 b3 n3 c3 b4 n4 c4 b5 n5 c5 b6 n6 c6 fb fm fc ⟨d,n,o,s,f⟩)(x:cY bZJ h h')(b:TJ h0 h' p b1 n1 c1 b2 n2 c2 b3 n3 c3 b4 n4 c4 n b5 n5 c5 b6 n6 c6 c a z Q):
 mG h0 h' p b1 n1 c1 b2 n2 c2 b3 n3 c3 b4 n4 c4 b5 n5 c5 b6 n6 c6 c a z ⟨d,n,o,s,Q⟩:=
 ⟨b,q.rp.lt (x.t (by decide)),q.op.mono (x.t (by decide)),q.sm.mono (x.t (by decide)),q.ne⟩
theorem ni{o:List Fd}(q:mG h0 h p b1 n1 c1 b2 n2 c2 b3 n3 c3 b4 n4 c4 b5 n5 c5 b6 n6 c6 fb fm fc ⟨d,n,a,s,o⟩)(w I t f:Int)
 (b:∀h' fb fm fc,mG h0 h' p b1 n1 c1 b2 n2 c2 b3 n3 c3 b4 n4 c4 b5 n5 c5 b6 n6 c6 fb fm fc ⟨d,n,a,s,iS o ⟨w,I,t,f⟩⟩->k (.tuple #[]) h'):
 Ct 52 [.pointer (some ⟨p,0,none⟩),.int .i64 w,.int .i64 I,.int .i64 t,.int .i64 f] h k:=
 Tn q.lk w I t f (λh' fb fm fc x c=>b h' fb fm fc (q.dXT x c))
theorem Yz(q:mG h0 h p b1 n1 c1 b2 n2 c2 b3 n3 c3 b4 n4 c4 b5 n5 c5 b6 n6 c6 fb fm fc ⟨d,n,o,u,f⟩)(b:o.length<=2^30)(c:u.length<=2^30)
 {g:Nat->Int} {s:Bs} (C:hl g=aA s) (iX:s.length=32) 
 (a:∀h' b6 n6 c6 fb fm fc,mG h0 h' p b1 n1 c1 b2 n2 c2 b3 n3 c3 b4 n4 c4 none 0 0 b6 n6 c6 fb fm fc (lh ⟨d,n,o,u,f⟩ s)->k (.tuple #[]) h'):
 Ct 131 [.pointer (some ⟨p,0,none⟩),.agg (List.toArray (hl g))] h k:=
 aKD q.lk q.op.sl q.sm (by rw[q.op.sl.len];exact b) (by rw[q.sm.sl.len];exact c) C iX (λh' fb fm fc b6 n6 c6 x e i=>a h' b6 n6 c6 fb fm fc ⟨e,q.rp.lt (x.t (by decide)),aT.nil,i,.inl rfl⟩)
theorem mG.apart{v:VS}(q:mG h0 h p b1 n1 c1 b2 n2 c2 b3 n3 c3 b4 n4 c4 b5 n5 c5 b6 n6 c6 fb fm fc v):∃L,HL h0 L/\Le L h/\aT 104 iM h0 L (.slice b6 n6 c6) v.bG/\aT 104 iM L h (.slice b5 n5 c5) v.open_:=by
 rcases q.sm.out with g| ⟨n,cap,d,k,o⟩
 .exact⟨h0,⟨Le.refl _,λb o a=>.inl a⟩,q.lk.le,⟨.inl g⟩,q.op⟩
 obtain⟨c,j,r,hl⟩:=o.out;cases d;refine⟨bH h0 n (.cells (List.toArray c) 104 (0,0)),⟨Le.set k,λb x a=>?_⟩,λb x a=>?_,⟨.inr ⟨n,_,rfl,k,⟨c,ae,⟨r.1,λi x hx=>r.2 i x hx⟩,hl⟩,o.le,o.bd⟩⟩,?_⟩
 .by_cases e:b=n
  .subst e;rw[ae]at a;cases a;exact .inr ⟨_,_,rfl⟩
  rw[bU e]at a;exact .inl a
 .by_cases e:b=n
  .subst e;rw[ae]at a;rw[<-a];exact j
  rw[bU e]at a;exact q.lk.le b x a
 rcases q.op.out with g| ⟨y,Q,d,l,f⟩
 .exact⟨.inl g⟩
 by_cases z:v.open_=[]
 .by_cases O:c5=0
  .exact⟨.inl ⟨b5,by cases d;rw[z,O];rfl,z⟩⟩
  cases d;refine⟨.inr ⟨y,_,rfl,?_,f⟩⟩;by_cases e:y=n
  .subst e;rcases q.ne with e1|e1|e1
   .exact absurd e1 O
   .have m:=o.le;have F:v.bG=[]:=ee (by omega);have s:=hl;obtain⟨X,R,-,K⟩:=f.out;rw[j]at R;cases R;rw[e1]at hl;rw[hl]at K;have:iM.n=32:=rfl;rw[this]at K;omega
   exact absurd rfl (e1 y rfl)
  rw[bU e];exact l
 cases d;have t:0<v.open_.length:=hJS.2 z;have O:c5≠0:=by have:=f.le;omega
 refine⟨.inr ⟨y,_,rfl,?_,f⟩⟩;by_cases e:y=n
 .subst e;rcases q.ne with e1|e1|e1
  .exact absurd e1 O
  .obtain⟨X,R,-,K⟩:=f.out;rw[j]at R;cases R;rw[e1]at hl;rw[hl]at K;have:iM.n=32:=rfl;rw[this]at K;omega
  exact absurd rfl (e1 y rfl)
 rw[bU e];exact l
theorem bZu{L:ab}{p:List Bs}(s:aT 104 iM h0 L (.slice b6 n6 c6) u)(o:aT 104 iM L h (.slice b5 n5 c5) p):c5=0\/c6=0\/∀j,b5=some ⟨j,0,none⟩->b6≠some ⟨j,0,none⟩:=by
 rcases o.out with⟨b,g,-⟩|⟨y,f,g,i,m⟩
 .cases g;exact .inl rfl
 rcases s.out with⟨b,a,-⟩|⟨Y,X,a,l,k⟩
 .cases a;exact .inr (.inl rfl)
 cases g;cases a;refine .inr (.inr (λj e1 e=>?_));cases e1;cases e;obtain⟨c,d,-⟩:=k.out;rw[i]at d;cases d
theorem mG.put{d':DB}{nx':Int}{u E D w:Option Addr}{U i y o l t A R:Nat}(q:mG h0 h p b1 n1 c1 b2 n2 c2 b3 n3 c3 b4 n4 c4 b5 n5 c5 b6 n6 c6 fb fm fc ⟨d,n,a,s,f⟩)(r:RP h u U i E y o D l t w A R d')
 (e:h'=bH h p (.cells (List.toArray [.slice u U i,.slice E y o,.slice D l t,.slice w A R,.int .i64 nx',.slice b5 n5 c5,.slice b6 n6 c6,.slice fb fm fc]) 170 (0,0))):
 mG h0 h' p u U i E y o D l t w A R b5 n5 c5 b6 n6 c6 fb fm fc ⟨d',nx',a,s,f⟩:=by
 have x:cY [170] h h':=by rw[e];exact gi q.lk.out (by decide)
 have k:Kp [p] h h':=by rw[e];exact Kp.set (by simp)
 have g:=(congrFun e p).trans ae;exact⟨⟨g,q.lk.buf.mono (x.t (by decide)),q.lk.new,q.lk.le.aE (bs:=[p]) (by simpa using q.lk.new) k⟩,r.lt (x.t (by decide)),q.op.mono (x.t (by decide)),q.sm.mono (x.t (by decide)),q.ne⟩
variable {h0 h gL h':ab}{p:Nat}{fb:Option Addr}{fm fc:Nat}{b1 b2 b3 b4 b5 b6:Option Addr}{n1 c1 n2 c2 n3 c3 n4 c4 n5 c5 n6 c6:Nat}
theorem cKV{nx:Int}{b:List Bs}{fo:List Fd}(q:mG h0 h p b1 n1 c1 b2 n2 c2 b3 n3 c3 b4 n4 c4 b5 n5 c5 b6 n6 c6 fb fm fc ⟨d,nx,b,u,fo⟩)(vi:VI d)(ho:b.length<=2^20)(j:u.length<=2^20)
 {id:Int} {L:List cW} {rows:List Bs} {o dM:Bs} {cl:Bool} {vb wb:Option Addr} {n vc wn wc:Nat} {g1 g2:Nat->Int}
 (qL:Sl 228 bW h0 (.slice vb n vc) L) (qR:Sl 104 iM h0 (.slice wb wn wc) rows) (ch:n<=255) (cg:wn=n) (m:∀c∈L,NV c) (uv:hl g1=aA o) (oz:o.length=32) (By:hl g2=aA dM) (Jw:dM.length=32)
 {V:VS} (l:Yt ⟨d,nx,b,u,fo⟩ ⟨id,L,rows,o,cl,dM⟩=V) 
 (Y:∀h' b1 n1 c1 b5 n5 c5 b6 n6 c6 fb fm fc,mG h0 h' p b1 n1 c1 b2 n2 c2 b3 n3 c3 b4 n4 c4 b5 n5 c5 b6 n6 c6 fb fm fc V->k (.tuple #[]) h'):
 Ct 130 [.pointer (some ⟨p,0,none⟩),.agg (List.toArray (uR 3 ⟨#[]⟩ none 0 0 0 false ⟨#[]⟩ id vb n vc wb wn wc g1 cl 0 g2))] h k:=by
 obtain⟨A,hA⟩:=Ar.ex;have g:=q.lk.out;have yB:n5=b.length:=q.op.sl.len;have Bx:n6=u.length:=q.sm.sl.len;have cd:=qL.len;have xV:=qR.len;have gz:aM (A .aC .add .i64 (A .nat n6) 1) (n6+1):=(aM.nat n6).succ (A:=A);obtain⟨a,yx⟩:∃a,a=A .aC .add .i64 (A .nat n6) 1:=⟨_,rfl⟩;rw[<-yx]at gz;have GG:a=((u.length+1:Nat):Int):=by rw[gz.eq,Bx]
 have f1:A .az .neq id nx= !(decide (id=nx)):=by rw[av A];simp
 have fW:A .aC .add .i64 id 1=IntKind.i64.wrap (id+1):=by rw[hA.aC];rfl
 obtain⟨s,Fe⟩:∃s,s=lW a id rows 0 (d.al,bT (decide (id=nx)) fo ⟨2,a,id,0⟩) L:=⟨_,rfl⟩;have l:V=if cl=true then lh ⟨ba d s.1,A .aC .add .i64 id 1,b++[eF id L],u,bT (decide (cl=decide ((b++[eF id L]).length=4))) (bT (decide (fN id L=o)) s.2 ⟨4,a,id,0⟩) ⟨2,a,0,0⟩⟩ dM
  else⟨ba d s.1,A .aC .add .i64 id 1,b++[eF id L],u,bT (decide (cl=decide ((b++[eF id L]).length=4))) (bT (decide (fN id L=o)) s.2 ⟨4,a,id,0⟩) ⟨2,a,0,0⟩⟩:=by
  rw[<-l,fW,Fe,GG];rfl
 have bd:A .az .eql (A .nat (n5+1)) 4=decide ((b++[eF id L]).length=4):=by rw[aq A,hA.nat];refine decide_eq_decide.2 ?_;rw[dr,hJF];simp only[kH];omega
 have bj:∀c∈L,c.row.length<=2^16:=λc hc=>(m c hc).b.row;have bn:(eF id L).length=32:=iW _;clear fW gz;generalize decide ((b++[eF id L]).length=4)=full at *;refine fG A [5,11,17,20] (ah cKo.aw cKo.aP) Tryz.func130 rfl (by kernel_rfl) ?_;cbv;repeat (first|rw[ao A] | (refine bc g ?_;cbv)|(refine⟨⟨_,rfl,rfl⟩,?_⟩;cbv))
 generalize decide (id=nx)=t1 at *;obtain⟨f0,Wr⟩:∃f0,f0=bT t1 fo ⟨2,a,id,0⟩:=⟨_,rfl⟩;rw[<-Wr]at Fe;obtain⟨C,eZ⟩:∃C:(Option Addr×Nat×Nat)->ab->Prop,∀g h',C g h'=mG h0 h' p b1 n1 c1 b2 n2 c2 b3 n3 c3 b4 n4 c4 b5 n5 c5 b6 n6 c6 g.1 g.2.1 g.2.2 ⟨d,nx,b,u,f0⟩:=⟨_,λ_ _=>rfl⟩;refine jA.go (G:=Option Addr×Nat×Nat) (λ_=>[]) (λ_=>[(3,uR 3 ⟨#[]⟩ none 0 0 0 false ⟨#[]⟩ id vb n vc wb wn wc g1 cl 0 g2),(5,[.int .i64 id,.slice vb n vc])]) C ?_ ?_
 .cbv;repeat (first|rw[ao A] | (refine bc g ?_;cbv)|(refine⟨⟨_,rfl,rfl⟩,?_⟩;cbv))
  rw[f1];cases t1 with
  |true=>
   have m:C (fb,fm,fc) h:=by rw[eZ,Wr];exact q
   clear eZ Wr Fe l;cbv;refine⟨(fb,fm,fc),by constructor<;>cbv,m⟩
  |false=>
   cbv;rw[<-yx];refine ni q 2 a id 0 (λh1 fb fm fc q1=>?_);have m:C (fb,fm,fc) h1:=by rw[eZ,Wr];exact q1
   clear eZ Wr Fe l;cbv;refine⟨(fb,fm,fc),by constructor<;>cbv,m⟩
 intro gf h2 I;rw[eZ]at I;cbv;obtain⟨R,O,P⟩:=gf;have q2:mG h0 h2 p b1 n1 c1 b2 n2 c2 b3 n3 c3 b4 n4 c4 b5 n5 c5 b6 n6 c6 R O P ⟨d,nx,b,u,f0⟩:=I;have Ha:=q2.lk.out;clear eZ Wr I q g;repeat rw[ao A]
 refine iB Ha (by show 5<=8;decide) (λh3 e3=>?_);obtain⟨t,QO⟩:∃t,t=A .aC .add .i64 id 1:=⟨_,rfl⟩;rw[<-QO]at l e3;have q3:=q2.put (d':=d) (nx':=t) q2.rp e3;clear e3 Ha q2;obtain⟨J,aX⟩:∃J:Nat->Int->ab->Prop,∀w g h',J w g h'=(∃i b1 n1 c1 fb fm fc T f,aM g i/\i<=n/\w=n-i/\mG h0 h' p b1 n1 c1 b2 n2 c2 b3 n3 c3 b4 n4 c4 b5 n5 c5 b6 n6 c6 fb fm fc ⟨ba d T,t,b,u,f⟩/\VI (ba d T)/\s=lW a id rows i (T,f) (L.drop i)):=⟨_,λ_ _ _=>rfl⟩;have hJ:J n 0 h3:=by rw[aX];exact⟨0,b1,n1,c1,R,O,P,d.al,f0,⟨rfl⟩,by omega,by omega,q3,vi,Fe⟩
 clear q3 Fe;cbv;refine aK.go (G:=Int) (λg=>[(6,.v (.int .i64 g))]) (λ_=>[(3,uR 3 ⟨#[]⟩ none 0 0 0 false ⟨#[]⟩ id vb n vc wb wn wc g1 cl 0 g2),(5,[.int .i64 id,.slice vb n vc])]) (λw g h'=>J w g h') n 0 (by constructor<;>cbv) hJ ?_
 intro w z h4 I;rw[aX]at I;cbv;obtain⟨i,b1,n1,c1,fb,fm,fc,T,f,hz,hi,hw,q4,aw,j⟩:=I;have fz:A .az .lss z (A .nat n)=decide (i<n):=hz.pL (aM.nat n);rw[fz];by_cases hc:i<n
 .rw[aH hc];obtain⟨c,hx⟩:=di L i;obtain⟨r,hr⟩:=di rows i;rw[zX hx hr]at j;rw[show((i:Nat):Int)=z from hz.eq.symm]at j;have bh:=m c (kF hx);have GL:r.length=32:=DQ qR hr;obtain⟨M,K,F⟩:=c;have Ri:∀v∈F,dX v=0:=bh.v;have ck:F.length<=2^16:=bh.b.row;have bF:∀h' b1 n1 c1 fb fm fc y f2,mG h0 h' p b1 n1 c1 b2 n2 c2 b3 n3 c3 b4 n4 c4 b5 n5 c5 b6 n6 c6 fb fm fc ⟨ba d y,t,b,u,f2⟩->VI (ba d y)->s=lW a id rows (i+1) (y,f2) (L.drop (i+1))->J (n-(i+1)) (A .aC .add .i64 z 1) h':=λh' b1 n1 c1 fb fm fc y f2 a1 a2 a5=>by
   rw[aX];exact⟨i+1,b1,n1,c1,fb,fm,fc,y,f2,hz.succ (A:=A),hc,rfl,a1,a2,a5⟩
  have aI:n-(i+1)<w:=by omega
  obtain⟨wi,vA⟩:∃wi,wi=n-(i+1):=⟨_,rfl⟩;rw[<-vA]at bF aI;have kZ:vb.isSome=true/\0<=z/\z<(n:Int):=⟨qL.aR,hz.ix hc⟩;have lJ:wb.isSome=true/\0<=z/\z<(wn:Int):=⟨qR.aR,hz.ix (by omega)⟩;have dJ:=hz.eq;have H:=Ih aw ⟨M,K,F⟩;obtain⟨⟨y,ok⟩,hD⟩:∃D,jz T ⟨M,K,F⟩=D:=⟨_,rfl⟩;have j:s=lW a id rows (i+1) ((jz T ⟨M,K,F⟩).1,bT (jz T ⟨M,K,F⟩).2 (bT (decide (dy id i ⟨M,K,F⟩=r)) f ⟨3,a,id,z⟩) ⟨7,a,id,z⟩) (L.drop (i+1)):=j;have mZ:=Xo (T:=T) (c:=⟨M,K,F⟩);have e:jz (ba d T).al ⟨M,K,F⟩=(y,ok):=hD;rw[e]at H;have H:VI (ba d y):=H;rw[hD]at j mZ;have mZ:ok=false->y=T:=mZ;have tZ:(dy id i ⟨M,K,F⟩).length=32:=iW _;obtain⟨rh,W⟩:∃rh,rh=dy id i ⟨M,K,F⟩:=⟨_,rfl⟩;rw[<-W]at j tZ;obtain⟨f7,KY⟩:∃f7,f7=bT (decide (rh=r)) f ⟨3,a,id,z⟩:=⟨_,rfl⟩;rw[<-KY]at j;have j:s=lW a id rows (i+1) (y,bT ok f7 ⟨7,a,id,z⟩) (L.drop (i+1)):=j;obtain⟨D,rk⟩:∃C:(Option Addr×Nat×Nat)->ab->Prop,∀g h',C g h'=mG h0 h' p b1 n1 c1 b2 n2 c2 b3 n3 c3 b4 n4 c4 b5 n5 c5 b6 n6 c6 g.1 g.2.1 g.2.2 ⟨ba d T,t,b,u,f7⟩:=⟨_,λ_ _=>rfl⟩;clear aX hJ fz Y l e;cbv;refine jA.go (G:=Option Addr×Nat×Nat) (λ_=>[]) (λ_=>[(3,uR 3 ⟨#[]⟩ none 0 0 0 false ⟨#[]⟩ id vb n vc wb wn wc g1 cl 0 g2),(5,[.int .i64 id,.slice vb n vc])]) D ?_ ?_
  .cbv;have bG:=qL.mono (q4.lk.le.t _);refine⟨kZ,?_⟩;cbv;refine bG.load hx dJ (λcs x=>?_);obtain⟨rb,rn,rc,x,qr⟩:=x;have x:cs=[.string M,.int .i64 K,.slice rb rn rc]:=x;subst x;cbv;have br:rn<=2^16:=by have:rn=F.length:=qr.len;omega
   refine⟨lJ,?_⟩;cbv;refine(qR.mono (q4.lk.le.t _)).KL hr dJ (λcs x aj=>?_);obtain⟨x,-⟩:=x;obtain⟨gr,Oh⟩:=AH GL;rw[<-Oh]at x;subst x;cbv;refine LL hz qr br (λh5 gh l5 aD=>?_);rw[<-W]at aD;have S:=q4.le l5;clear W;cbv;refine aj _ _ l5 ?_;cbv;refine⟨⟨_,rfl,rfl⟩,?_⟩;cbv;refine yO aD Oh tZ GL ?_;generalize decide (rh=r)=t7 at *;cbv;cases t7 with
   |true=>
    have m:D (fb,fm,fc) h5:=by rw[rk,KY];exact S
    clear rk KY j;cbv;refine⟨(fb,fm,fc),by constructor<;>cbv,m⟩
   |false=>
    cbv;try rw[<-yx]
    refine ni S 3 a id z (λh6 fb fm fc E=>?_);have m:D (fb,fm,fc) h6:=by rw[rk,KY];exact E
    clear rk KY j;cbv;refine⟨(fb,fm,fc),by constructor<;>cbv,m⟩
  intro gf h6 I;rw[rk]at I;cbv;obtain⟨R,O,P⟩:=gf;have E:mG h0 h6 p b1 n1 c1 b2 n2 c2 b3 n3 c3 b4 n4 c4 b5 n5 c5 b6 n6 c6 R O P ⟨ba d T,t,b,u,f7⟩:=I;have RC:=E.lk.out;have cb:=qL.mono (E.lk.le.t _);clear rk I KY W;repeat (first|rw[ao A] | (refine bc RC ?_;cbv)|(refine⟨⟨_,rfl,rfl⟩,?_⟩;cbv))
  refine⟨kZ,?_⟩;cbv;refine cb.load hx dJ (λcs x=>?_);obtain⟨rb,rn,rc,x,qr⟩:=x;have x:cs=[.string M,.int .i64 K,.slice rb rn rc]:=x;subst x;cbv;refine XY E.rp aw qr Ri hD (λmT h7 l7=>?_) (λmT h7 lu pU iO l7 r7=>?_)
  .have N:=E.le l7;have bB:=mZ mT;subst mT;cbv;rw[show A .not false=true by rw[hA.not];rfl];cbv;try rw[<-yx]
   refine ni N 7 a id z (λh8 fb fm fc q8=>?_);have dt:=bF h8 b1 n1 c1 fb fm fc y _ (by rw[bB];exact q8) H j;clear bF j;cbv;refine⟨wi,_,aI,by constructor<;>cbv,dt⟩
  have N:=E.le l7;have Ln:=N.lk.out;subst mT;have j:s=lW a id rows (i+1) (y,f7) (L.drop (i+1)):=j;cbv;rw[show A .not true=false by rw[hA.not];rfl];cbv;repeat rw[ao A]
  refine iB Ln (by show 4<=8;decide) (λh8 e8=>?_);have q8:=N.put (nx':=t) r7 e8;have dt:=bF h8 lu pU iO R O P y f7 q8 H j;clear bF j e8;cbv;refine⟨wi,_,aI,by constructor<;>cbv,dt⟩
 rw[ag hc];rw[wM (by omega)]at j;have j:s=(T,f):=j;rw[j]at l;have l:V=if cl=true then lh ⟨ba d T,t,b++[eF id L],u,bT (decide (cl=full)) (bT (decide (fN id L=o)) f ⟨4,a,id,0⟩) ⟨2,a,0,0⟩⟩ dM
  else⟨ba d T,t,b++[eF id L],u,bT (decide (cl=full)) (bT (decide (fN id L=o)) f ⟨4,a,id,0⟩) ⟨2,a,0,0⟩⟩:=l
 clear aX hJ fz j;obtain⟨f5,Q⟩:∃f5,f5=bT (decide (fN id L=o)) f ⟨4,a,id,0⟩:=⟨_,rfl⟩;rw[<-Q]at l;obtain⟨C3,X⟩:∃C:(Option Addr×Nat×Nat)->ab->Prop,∀g h',C g h'=mG h0 h' p b1 n1 c1 b2 n2 c2 b3 n3 c3 b4 n4 c4 b5 n5 c5 b6 n6 c6 g.1 g.2.1 g.2.2 ⟨ba d T,t,b,u,f5⟩:=⟨_,λ_ _=>rfl⟩;cbv;refine jA.go (G:=Option Addr×Nat×Nat) (λ_=>[]) (λ_=>[(3,uR 3 ⟨#[]⟩ none 0 0 0 false ⟨#[]⟩ id vb n vc wb wn wc g1 cl 0 g2),(5,[.int .i64 id,.slice vb n vc])]) C3 ?_ ?_
 .cbv;clear l Y;refine HM (qL.mono (q4.lk.le.t _)) bj (by omega) (λh5 gr l5 Oh tV=>?_);have S:=q4.le l5;generalize fN id L=rt at *;cbv;refine yO Oh uv tV oz ?_;generalize decide (rt=o)=t5 at *;cbv;cases t5 with
  |true=>
   have m:C3 (fb,fm,fc) h5:=by rw[X,Q];exact S
   clear X Q;cbv;refine⟨(fb,fm,fc),by constructor<;>cbv,m⟩
  |false=>
   cbv;try rw[<-yx]
   refine ni S 4 a id 0 (λh6 fb fm fc E=>?_);have m:C3 (fb,fm,fc) h6:=by rw[X,Q];exact E
   clear X Q;cbv;refine⟨(fb,fm,fc),by constructor<;>cbv,m⟩
 intro gf h5 I;rw[X]at I;cbv;obtain⟨R,O,P⟩:=gf;have S:mG h0 h5 p b1 n1 c1 b2 n2 c2 b3 n3 c3 b4 n4 c4 b5 n5 c5 b6 n6 c6 R O P ⟨ba d T,t,b,u,f5⟩:=I;have Ia:=S.lk.out;have bE:=qL.mono (S.lk.le.t _);clear X I Q q4;repeat (first|rw[ao A] | (refine bc Ia ?_;cbv)|(refine⟨⟨_,rfl,rfl⟩,?_⟩;cbv))
 refine NR bE bj (by omega) (λh6 ge l6 gW=>?_);have E:=S.le l6;have RC:=E.lk.out;generalize eF id L=en at *;cbv;repeat (first|rw[ao A] | (refine bc RC ?_;cbv)|(refine⟨⟨_,rfl,rfl⟩,?_⟩;cbv))
 intro nn h7 oH e7;have l7:Le h6 h7:=by rw[e7];exact Le.set oH
 have qn:Sl 104 iM h7 (.slice (some ⟨nn,0,none⟩) 1 1) [en]:=bC (s:=iM) (cs:=hl ge) ((congrFun e7 nn).trans ae) ⟨gW,bn⟩;have N:=E.le l7;have Ln:=N.lk.out;obtain⟨hL,WD,bg,s7,o7⟩:=N.apart;have o7:aT 104 iM hL h7 (.slice b5 n5 c5) b:=o7;have s7:aT 104 iM h0 hL (.slice b6 n6 c6) u:=s7;clear e7 S E Ia RC;cbv;repeat (first|rw[ao A] | (refine bc Ln ?_;cbv)|(refine⟨⟨_,rfl,rfl⟩,?_⟩;cbv))
 refine o7.app qn (by decide) rfl (by decide) (by omega) bg (λm8 b8 c8 h8 bx ak t8 k8 u8=>?_);have ai:h8 p=_:=k8 _ _ Ln (.inr (.inr (λc fr e=>by cases e)));have aP:=N.lk.buf.mono (t8 _ (by decide));have bl:=N.rp.lt (t8 _ (by decide));have gA:=N.lk.new;have bk:Le h0 h8:=WD.le.trans ak;have aW:A .az .eql (A .nat m8) 4=full:=by rw[bx];exact bd
 have Ez:A .not (A .nR .eql cl full)= !(decide (cl=full)):=by rw[hA.not,hA.nR];cases cl<;>cases full<;>rfl
 have bm:=bZu s7 u8;clear k8 N Ln o7 bd;cbv;repeat rw[ao A]
 refine iB ai (by show 6<=8;decide) (λh9 e9=>?_);have WI:=(congrFun e9 p).trans ae;have x9:cY [170] h8 h9:=by rw[e9];exact gi ai (by decide)
 have k9:Kp [p] h8 h9:=by rw[e9];exact Kp.set (by simp)
 have an:Le h0 h9:=bk.aE (bs:=[p]) (by simpa using gA) k9;have q9:mG h0 h9 p b1 n1 c1 b2 n2 c2 b3 n3 c3 b4 n4 c4 b8 m8 c8 b6 n6 c6 R O P ⟨ba d T,t,b++[en],u,f5⟩:=
  ⟨⟨WI,aP.mono (x9.t (by decide)),gA,an⟩,bl.lt (x9.t (by decide)),(u8.base WD.le).mono (x9.t (by decide)),s7.mono ((WD.jO ak x9 (by decide) an).t _),bm⟩
 have WI:=q9.lk.out;have ca:(b++[en]).length<=2^30:=by rw[dr,hJF];omega
 have iX:u.length<=2^30:=by omega
 generalize b++[en]=U at *;obtain⟨B,MY⟩:∃B,B=bT (decide (cl=full)) f5 ⟨2,a,0,0⟩:=⟨_,rfl⟩;rw[<-MY]at l;obtain⟨C4,Z⟩:∃C:(Option Addr×Nat×Nat)->ab->Prop,∀g h',C g h'=mG h0 h' p b1 n1 c1 b2 n2 c2 b3 n3 c3 b4 n4 c4 b8 m8 c8 b6 n6 c6 g.1 g.2.1 g.2.2 ⟨ba d T,t,U,u,B⟩:=⟨_,λ_ _=>rfl⟩;clear e9 ai aP bl x9 k9 bk an t8 u8 s7 ak bm WD bg;cbv;refine jA.go (G:=Option Addr×Nat×Nat) (λ_=>[]) (λ_=>[(3,uR 3 ⟨#[]⟩ none 0 0 0 false ⟨#[]⟩ id vb n vc wb wn wc g1 cl 0 g2),(5,[.int .i64 id,.slice vb n vc])]) C4 ?_ ?_
 .cbv;clear l Y;repeat (first|rw[ao A] | (refine bc WI ?_;cbv)|(refine⟨⟨_,rfl,rfl⟩,?_⟩;cbv))
  rw[aW,Ez];generalize decide (cl=full)=t10 at *;cases t10 with
  |true=>
   have m:C4 (R,O,P) h9:=by rw[Z,MY];exact q9
   clear Z MY;cbv;refine⟨(R,O,P),by constructor<;>cbv,m⟩
  |false=>
   cbv;try rw[<-yx]
   refine ni q9 2 a 0 0 (λlI fb fm fc uX=>?_);have m:C4 (fb,fm,fc) lI:=by rw[Z,MY];exact uX
   clear Z MY;cbv;refine⟨(fb,fm,fc),by constructor<;>cbv,m⟩
 intro gf lI I;rw[Z]at I;cbv;obtain⟨xb,xm,xc⟩:=gf;have uX:mG h0 lI p b1 n1 c1 b2 n2 c2 b3 n3 c3 b4 n4 c4 b8 m8 c8 b6 n6 c6 xb xm xc ⟨ba d T,t,U,u,B⟩:=I;clear Z I MY q9 WI aW Ez;cases cl with
 |false=>have l:V=⟨ba d T,t,U,u,B⟩:=l;rw[l]at Y;have:=Y lI _ _ _ _ _ _ _ _ _ _ _ _ uX;clear Y;cbv;exact this
 |true=>have l:V=lh ⟨ba d T,t,U,u,B⟩ dM:=l;rw[l]at Y;cbv;refine Yz uX ca iX By Jw (λyD b6 n6 c6 fb fm fc pK=>?_);have:=Y yD _ _ _ _ _ _ _ _ _ _ _ _ pK;clear Y;cbv;exact this
theorem Ad{k:Nat}{v:VS}{l:List Bs}{b:Bs}(h:l[k]? =some b)(r:cF b=none):qO k v (l.drop k)=⟨v.d,v.next,v.open_,v.bG,iS v.found ⟨1,0,0,(k:Int)⟩⟩:=by have a:=dB.1 h;rw[qM a.1,a.2];show(match cF b with|none=>_|some x=>_)=_;rw[r]
theorem il{k:Nat}{v:VS}{l:List Bs}{b:Bs}{x:HI}(h:l[k]? =some b)(r:cF b=some x):qO k v (l.drop k)=qO (k+1) (IG v k x) (l.drop (k+1)):=by have a:=dB.1 h;rw[qM a.1,a.2];show(match cF b with|none=>_|some x=>_)=_;rw[r]
theorem Ql{h h':ab}{a:Addr}{n:Nat}{k:List Value->Prop}(l:Le h h')(q:vX h a n k):vX h' a n k:=by obtain⟨cs,b,c⟩:=q;exact⟨cs,b.le l,c⟩
def gQs(l:Bs)(v:Value)(h:ab):Prop:=
 (cF l=none/\∃kd nm b0 n0 c0 key only name id b1 n1 c1 b2 n2 c2 g1 cl g2 n g3,v=.agg (List.toArray (II true kd nm b0 n0 c0 key only name id b1 n1 c1 b2 n2 c2 g1 cl g2 n g3)))\/
 (∃nm aW key only b0 n0 c0,cF l=some (.made ⟨nm,aW,key,only⟩)/\v=.agg (List.toArray (II false 1 nm b0 n0 c0 key only ⟨#[]⟩ 0 none 0 0 none 0 0 zG false zG 0 zG))/\Sl 58 bt h (.slice b0 n0 c0) aW)\/
 (∃nm,cF l=some (.gone nm)/\v=.agg (List.toArray (II false 2 ⟨#[]⟩ none 0 0 0 false nm 0 none 0 0 none 0 0 zG false zG 0 zG)))\/
 (∃id L rows root cl dM b1 n1 c1 b2 n2 c2 g1 g2,cF l=some (.tx ⟨id,L,rows,root,cl,dM⟩)/\v=.agg (List.toArray (II false 3 ⟨#[]⟩ none 0 0 0 false ⟨#[]⟩ id b1 n1 c1 b2 n2 c2 g1 cl g2 0 zG))/\Sl 228 bW h (.slice b1 n1 c1) L/\Sl 104 iM h (.slice b2 n2 c2) rows/\n1<=255/\n2=n1/\hl g1=aA root/\hl g2=aA dM)\/
 (∃n sum g3,cF l=some (.dM n sum)/\v=.agg (List.toArray (II false 4 ⟨#[]⟩ none 0 0 0 false ⟨#[]⟩ 0 none 0 0 none 0 0 zG false zG n g3))/\hl g3=aA sum)
theorem cKU{h0 h:ab}(B:Le h0 h){c:Nat}{l:Bs}(q:Sl 5 bS h0 (.slice b m c) l)
 (z:∀v gL h',gQs l v gL->Le h0 gL->Le gL h'->Le h h'->Fr h0 h gL h'->k v h'):Ct 42 [.slice b m c] h k:=by
 refine stat B (P:=gQs l) (aKB q (λr h' A nm d o f key only a id b1 n1 c1 b2 n2 c2 g cl i n j l=>?_) (λs h' d o f r l p=>?_) (λnm h' r l=>?_) (λt h' b1 n1 c1 b2 n2 c2 g i r l p C e1 w x y=>?_) (λn u h' j r l e=>?_)) z
 .exact⟨l,.inl ⟨r,A,nm,d,o,f,key,only,a,id,b1,n1,c1,b2,n2,c2,g,cl,i,n,j,rfl⟩⟩
 .exact⟨l,.inr (.inl ⟨s.name,s.aW,s.key,s.only,d,o,f,r,rfl,p⟩)⟩
 .exact⟨l,.inr (.inr (.inl ⟨nm,r,rfl⟩))⟩
 .exact⟨l,.inr (.inr (.inr (.inl ⟨t.id,t.xI,t.rows,t.root,t.pf,t.block,b1,n1,c1,b2,n2,c2,g,i,r,rfl,p,C,e1,w,x,y⟩)))⟩
 exact⟨l,.inr (.inr (.inr (.inr ⟨n,u,j,r,rfl,e⟩)))⟩
theorem cKT{h0 h:ab}(G:Le h0 h){c:Nat}{l:Bs}(q:Sl 5 bS h0 (.slice b m c) l)
 (y:∀gL h' w nm f p g key only d id b1 n1 c1 b2 n2 c2 i cl j n o,cF l=none->Le h0 gL->Le gL h'->Le h h'->Fr h0 h gL h'->k (.agg (List.toArray (II true w nm f p g key only d id b1 n1 c1 b2 n2 c2 i cl j n o))) h')
 (x:∀gL h' nm W key only f p g,cF l=some (.made ⟨nm,W,key,only⟩)->Sl 58 bt gL (.slice f p g) W->Le h0 gL->Le gL h'->Le h h'->Fr h0 h gL h'->k (.agg (List.toArray (II false 1 nm f p g key only ⟨#[]⟩ 0 none 0 0 none 0 0 zG false zG 0 zG))) h')
 (Y:∀gL h' nm,cF l=some (.gone nm)->Le h0 gL->Le gL h'->Le h h'->Fr h0 h gL h'->k (.agg (List.toArray (II false 2 ⟨#[]⟩ none 0 0 0 false nm 0 none 0 0 none 0 0 zG false zG 0 zG))) h')
 (R:∀gL h' id L rows r cl M b1 n1 c1 b2 n2 c2 i j,cF l=some (.tx ⟨id,L,rows,r,cl,M⟩)->Sl 228 bW gL (.slice b1 n1 c1) L->Sl 104 iM gL (.slice b2 n2 c2) rows->n1<=255->n2=n1->hl i=aA r->hl j=aA M->Le h0 gL->Le gL h'->Le h h'->Fr h0 h gL h'->k (.agg (List.toArray (II false 3 ⟨#[]⟩ none 0 0 0 false ⟨#[]⟩ id b1 n1 c1 b2 n2 c2 i cl j 0 zG))) h')
 (C:∀gL h' n s o,cF l=some (.dM n s)->hl o=aA s->Le h0 gL->Le gL h'->Le h h'->Fr h0 h gL h'->k (.agg (List.toArray (II false 4 ⟨#[]⟩ none 0 0 0 false ⟨#[]⟩ 0 none 0 0 none 0 0 zG false zG n o))) h'):
 Ct 42 [.slice b m c] h k:=
 cKU G q (λv gL h' D a1 a2 t u=>by
  rcases D with⟨a,w,nm,f,p,g,key,only,d,id,y1,H,E,y2,I,F,i,cl,j,n,o,e⟩|⟨nm,W,key,only,f,p,g,a,e,s1⟩|⟨nm,a,e⟩|⟨id,L,rows,r,cl,M,y1,H,E,y2,I,F,i,j,a,e,s1,s2,e1,z,A,B⟩|⟨n,s,o,a,e,e1⟩
  .rw[e];exact y _ _ _ _ _ _ _ _ _ _ _ _ _ _ _ _ _ _ _ _ _ _ a a1 a2 t u
  .rw[e];exact x _ _ _ _ _ _ _ _ _ a s1 a1 a2 t u
  .rw[e];exact Y _ _ _ a a1 a2 t u
  .rw[e];exact R _ _ _ _ _ _ _ _ _ _ _ _ _ _ _ _ a s1 s2 e1 z A B a1 a2 t u
  rw[e];exact C _ _ _ _ _ a e1 a1 a2 t u)
def vq(h:ab)(p mp:Nat):ab:=λb=>if b=p\/b=mp then none else h b
theorem Qj(h:ab)(p m:Nat):Le (vq h p m) h:=λb o a=>by
 unfold vq at a;split at a
 .cases a
 exact a
theorem Gw{h0 h:ab}{p:Nat}(l:Le h0 h)(d:h0 p=none)(c:h0 m=none):Le h0 (vq h p m):=λb o a=>by
 unfold vq;rw[if_neg]
 .exact l b o a
 rintro(rfl|rfl)
 .rw[d]at a;cases a
 rw[c]at a;cases a
theorem Vu(h:ab)(p m:Nat):vq h p m p=none:=if_pos (.inl rfl)
theorem Vv(h:ab)(p m:Nat):vq h p m m=none:=if_pos (.inr rfl)
theorem EW{h0 hA h:ab}{dp:Nat}{D:Dk}(z:Fz h0 hA h)(q:kf hA dp D)(hP:1<=D.now.length){cL:List Bs}{a:Bool}(hS:(cL,a)=qN D)(hN:cL.length<=2^20){e:Nat}{gb:Option Addr}{gn gc:Nat}{ds:List Dg}(qg:Sl e zQ h0 (.slice gb gn gc) ds)
 (hk:∀h' sU b m c,cY An h h'->Fz h0 sU h'->kf sU dp D->Sl 137 qI h' (.slice b m c) (Ii cL a ds)->k (.slice b m c) h'):
 Ct 16 [.pointer (some ⟨dp,0,none⟩),.slice gb gn gc] h k:=by
 obtain⟨A,dn⟩:=Ar.ex;obtain⟨P,Li⟩:∃P,P=Uu cL a:=⟨_,rfl⟩;have VQ:Ii cL a ds=oD P.bG P.found ds:=by rw[Li];rfl
 rw[VQ]at hk;have YW:A .az .eql 1 1=true:=by rw[aq A];rfl
 have dj:A .az .eql 2 1=false:=by rw[aq A];rfl
 have df:A .az .eql 2 2=true:=by rw[aq A];rfl
 have de:A .az .eql 3 1=false:=by rw[aq A];rfl
 have dd:A .az .eql 3 2=false:=by rw[aq A];rfl
 have cK:A .az .eql 3 3=true:=by rw[aq A];rfl
 have cI:A .az .eql 4 1=false:=by rw[aq A];rfl
 have cB:A .az .eql 4 2=false:=by rw[aq A];rfl
 have cz:A .az .eql 4 3=false:=by rw[aq A];rfl
 refine dH gQk A Tryz.func16 ?_;cbv;intro j h1 bx e1;have l1:Le h h1:=by rw[e1];exact Le.set bx
 have cb:=(congrFun e1 j).trans ae;clear e1;cbv;intro p h2 hp e2;have l2:Le h1 h2:=by rw[e2];exact Le.set hp
 have Ha:=(congrFun e2 p).trans ae;clear e2;cbv;intro r h3 Q e3;have l3:Le h2 h3:=by rw[e3];exact Le.set Q
 have ch:=(congrFun e3 r).trans ae;clear e3;cbv;refine iB ch (by show 1<=1;decide) (λF e4=>?_);have ZN:=(congrFun e4 r).trans ae;have ZN:F r=some (.cells #[.pointer (some ⟨p,0,none⟩)] 138 (0,0)):=ZN;have k4:Kp [r] h3 F:=by rw[e4];exact Kp.set (by simp)
 have YT:=l2.trans l3;have cw:(h2 r=none):=Q;have l4:Le h2 F:=l3.aE (bs:=[r]) (by simpa using Q) k4;have Nh:=l4 _ _ Ha;have bg:=l4 _ _ (l2 _ _ cb);have aw:h j=none:=bx;have GM:h p=none:=l1.none hp;have aj:h r=none:=(l1.trans l2).none Q;have NX:Le h F:=(l1.trans l2).trans l4;clear e4 ch Ha cb k4 YT cw l3 l1 l2 l4 bx hp Q h1 h2 h3;have z4:Fz (λb=>if b=p\/b=j\/b=r then F b else h0 b) hA F:=by
  refine⟨z.le.trans NX,λb o g=>?_⟩;have g:(if b=p\/b=j\/b=r then F b else h0 b)=some o:=g;split at g
  .rename_i hc;refine⟨g,?_⟩;have:h b=none:=by rcases hc with rfl|rfl|rfl<;>assumption
   exact z.le.none this
  have:=z.jO b o g;exact⟨NX _ _ this.1,this.2⟩
 cbv;refine z4.WN (ex:=An) (cKS q hP (k:=λv h'=>cY An hA h'/\∃b m c,v=.tuple #[.slice b m c,.bool a]/\Sl 35 me h' (.slice b m c) cL/\cY An hA h') (λh' b m c l w bB x s=>?_)) (λv ca h5 hv z5 x5=>?_)
 .rw[<-hS]at bB;cases bB;exact⟨x,b,m,c,rfl,s,x⟩
 obtain⟨rb,B,rc,rfl,cq,cn⟩:=hv;have q5:=q.lt (cn.t (by decide));have aD:=z5.jO p _ (show(if p=p\/p=j\/p=r then F p else h0 p)=_ by rw[if_pos (.inl rfl)];exact Nh);have bj:=z5.jO j _ (show(if j=p\/j=j\/j=r then F j else h0 j)=_ by rw[if_pos (.inr (.inl rfl))];exact bg);have bk:=z5.jO r _ (show(if r=p\/r=j\/r=r then F r else h0 r)=_ by rw[if_pos (.inr (.inr rfl))];exact ZN);have Wa:h0 p=none:=z.base.none GM;have Wj:h0 j=none:=z.base.none aw;have ME:Le h0 h5:=λb o g=>by
  refine(z5.jO b o ?_).1;show(if b=p\/b=j\/b=r then F b else h0 b)=_;rw[if_neg]
  .exact g
  rintro(rfl|rfl|rfl)
  .rw[Wa]at g;cases g
  .rw[Wj]at g;cases g
  rw[z.base.none aj]at g;cases g
 obtain⟨g,Lf⟩:∃g,g=vq h5 p j:=⟨_,rfl⟩;have bG:Le g h5:=by rw[Lf];exact Qj _ _ _
 have br:Le h0 g:=by rw[Lf];exact Gw ME Wa Wj
 have bn:Le ca g:=by rw[Lf];exact Gw z5.le aD.2 bj.2
 have ZG:g p=none:=by rw[Lf];exact Vu _ _ _
 have cx:g j=none:=by rw[Lf];exact Vv _ _ _
 have W:g r=some (.cells #[.pointer (some ⟨p,0,none⟩)] 138 (0,0)):=by
  rw[Lf];unfold vq;rw[if_neg]
  .exact bk.1
  rintro(rfl|rfl)
  .rw[Nh]at ZN;cases ZN
  rw[bg]at ZN;cases ZN
 have xb:∀b o,h b=some o->(∀c e fr,o=.cells c e fr->e∉An)->g b=some o:=λb o C bm=>by
  rw[Lf];unfold vq;rw[if_neg]
  .exact x5 _ _ (NX _ _ C) bm
  rintro(rfl|rfl)
  .rw[GM]at C;cases C
  rw[aw]at C;cases C
 have an:=cq.mono (bn.t _);have YJ:=qg.mono (br.t _);have q6:jb g h5 p j 0 0 0 none 0 0 none 0 0 none 0 0 none 0 0 none 0 0 none 0 0 none 0 0 [] ⟨dz,0,[],[],[]⟩:=
  ⟨⟨aD.1,aT.nil,ZG,bG⟩,aT.nil,⟨_,_,_,_,_,_,_,_,_,_,_,_,[],rfl,Sl.nil,Sl.nil,Sl.nil,Sl.nil,rfl⟩,aT.nil,aT.nil,rfl,⟨[],rfl,Mp.new bj.1⟩,cx⟩
 have Y:∀h' f b m c,Le g f->Le f h'->Sl 137 qI h' (.slice b m c) (oD P.bG P.found ds)->k (.slice b m c) h':=λh' f b m c a1 a2 a3=>
  hk h' ca b m c (λb o C bm=>a2 _ _ (a1 _ _ (xb b o C bm))) ⟨(bn.trans a1).trans a2,λb o C=>by
   have h1:=br b o C;refine⟨a2 _ _ (a1 _ _ h1),(z5.jO b o ?_).2⟩;show(if b=p\/b=j\/b=r then F b else h0 b)=_;rw[if_neg]
   .exact C
   rintro(rfl|rfl|rfl)
   .rw[Wa]at C;cases C
   .rw[Wj]at C;cases C
   rw[z.base.none aj]at C;cases C⟩ q5 a3
 have cg:=bk.1;have tV:=an.len;clear hk xb Nh bg ZN GM aw aj NX z4 z5 x5 aD bj bk ME bG Lf q cn cq VQ hS hP Wa Wj br z q5 bn;cbv;repeat (first|rw[ao A] | (refine bc cg ?_;cbv)|(refine⟨⟨_,rfl,rfl⟩,?_⟩;cbv))
 have Li:P=qO 0 ⟨dz,0,[],[],bT a [] ⟨1,0,0,A .nat B⟩⟩ (cL.drop 0):=by rw[Li,dn.nat,tV];rfl
 refine vg q6 a ⟨1,0,0,A .nat B⟩ (λh7 fb fm fc x7 q7=>?_);have LR:Ox ⟨dz,0,[],[],bT a [] ⟨1,0,0,A .nat B⟩⟩ 0:=bXw;generalize bT a [] ⟨1,0,0,A .nat B⟩=f7 at *;have e7:=q7.e;obtain⟨J,aX⟩:∃J:Nat->Int->ab->Prop,∀w z h',J w z h'=(∃i f v,aM z i/\i<=B/\w=B-i/\Le g f/\Ye f h' p j 0 0 0 v/\Ox v i/\P=qO i v (cL.drop i)):=⟨_,λ_ _ _=>rfl⟩;have hJ:J B 0 h7:=by rw[aX];exact⟨0,g,_,⟨rfl⟩,by omega,by omega,Le.refl _,e7,LR,Li⟩
 clear q6 q7 e7 LR Li cg x7;cbv;refine aK.go (G:=Int) (λz=>[(27,.v (.int .i64 z))]) (λ_=>[]) (λw z h'=>J w z h') B 0 (by constructor<;>cbv) hJ ?_
 intro w z h8 hI;rw[aX]at hI;cbv;obtain⟨i,dK,v,hz,hi,hw,O,e8,U,M⟩:=hI;obtain⟨d,nx,op,su,fo⟩:=v;refine e8.elim (λfb fm fc b1 n1 c1 b2 n2 c2 b3 n3 c3 b4 n4 c4 b5 n5 c5 b6 n6 c6 bl q8=>?_);have fz:A .az .lss z (A .nat B)=decide (i<B):=hz.pL (aM.nat B);have dq:=q8.fn.le _ _ (O _ _ W);rw[fz];by_cases hc:i<B
 .rw[aH hc];obtain⟨x,hx⟩:=di cL i;have ck:rb.isSome=true/\0<=z/\z<(B:Int):=⟨an.aR,hz.ix hc⟩;have dJ:=hz.eq;have cv:=(an.mono (O.t _));have Z:∀h' f v,Le g f->Ye f h' p j 0 0 0 v->Ox v (i+1)->P=qO (i+1) v (cL.drop (i+1))->J (B-(i+1)) (A .aC .add .i64 z 1) h':=λh' f v a1 a2 a3 a4=>by
   rw[aX];exact⟨i+1,f,v,hz.succ (A:=A),hc,rfl,a1,a2,a3,a4⟩
  have aI:B-(i+1)<w:=by omega
  obtain⟨wi,vA⟩:∃wi,wi=B-(i+1):=⟨_,rfl⟩;rw[<-vA]at Z aI;have vo:=U.o;have vs:=U.s;have X:=U.YB;have dx:B<=2^20:=by omega
  clear aX hJ fz e8;cbv;refine⟨ck,?_⟩;cbv;refine Ql q8.fn.le (cv.load hx dJ (λcs au=>?_));obtain⟨xv,rfl,qx⟩:=au;obtain⟨xb,xn,xc,rfl⟩:=qx.form;cbv;intro kb h9 cr e9;have l9:Le h8 h9:=by rw[e9];exact Le.set cr
  have cd:=(congrFun e9 kb).trans ae;clear e9;cbv;refine iB cd (by show 1<=1;decide) (λlI sV=>?_);have I:=(congrFun sV kb).trans ae;have I:lI kb=some (.cells #[.int .i64 z] 3 (0,0)):=I;have pM:Le h8 lI:=l9.aE (bs:=[kb]) (by simpa using cr) (by rw[sV];exact Kp.set (by simp));have T:=q8.le pM;clear sV cd l9 q8;cbv;refine cKT T.fn.le qx (λng yD kd nm y0 m0 k0 key only du id y1 m1 k1 y2 m2 k2 g1 cl g2 n g3 R oU N u V=>?_) (λng yD nm aW key only y0 m0 k0 R s1 oU N u V=>?_) (λng yD nm R oU N u V=>?_) (λng yD id L rows ai cl dM y1 m1 k1 y2 m2 k2 g1 g2 R s1 s2 e1 e2 e3 e4 oU N u V=>?_) (λng yD n ct g3 R e oU N u V=>?_)
  .have K:=T.call u N V;have EC:=u _ _ I;have y:=O.trans oU;have ED:=K.fn.le _ _ (y _ _ W);clear T I u N V pM;have Rw:=M.trans (Ad hx R);clear M Z;cbv;repeat (first|rw[ao A] | (refine bc ED ?_;cbv)|(refine⟨⟨_,rfl,rfl⟩,?_⟩;cbv))
   refine bZp K (y _ _ W) EC (λkD fb fm fc H=>?_);have cy:=H.fn.le _ _ (y _ _ W);have Rw:P=⟨d,nx,op,su,iS fo ⟨1,0,0,z⟩⟩:=by rw[Rw,dJ]
   rw[Rw]at Y;generalize iS fo ⟨1,0,0,z⟩=dk at *;have Y:∀h' f b m c,Le g f->Le f h'->Sl 137 qI h' (.slice b m c) (oD su dk ds)->k (.slice b m c) h':=Y;cbv;repeat (first|rw[ao A] | (refine bc cy ?_;cbv)|(refine⟨⟨_,rfl,rfl⟩,?_⟩;cbv))
   refine Hj H.fn H.sm X (YJ.mono (y.t _)) (λhD fb fm fc xD E=>?_);have bh:=E.le _ _ (y _ _ W);have bd:=E.out;have aP:=Y hD _ fb fm fc y E.le E.buf.sl;cbv;repeat (first|rw[ao A] | (refine bc bh ?_;cbv)|(refine bc bd ?_;cbv)|(refine⟨⟨_,rfl,rfl⟩,?_⟩;cbv))
   refine So E.buf.sl (λhE bE cE lE qE=>?_);have:=Y hE _ bE fm cE y (E.le.trans lE) qE.sl;clear Y aP;cbv;exact this
  .have K:=T.call u N V;have EC:=u _ _ I;have y:=O.trans oU;have ED:=K.fn.le _ _ (y _ _ W);clear T I u N V pM;have S:=nt U (.made ⟨nm,aW,key,only⟩);have t:=λh' f a1 a2=>Z h' f _ a1 a2 S (M.trans (il hx R));clear M Z Y S;cbv;rw[YW];cbv;repeat (first|rw[ao A] | (refine bc ED ?_;cbv)|(refine bc EC ?_;cbv)|(refine⟨⟨_,rfl,rfl⟩,?_⟩;cbv))
   refine bZE K U.vi.small z (s1.mono (K.fn.le.t _)) (λkD fb fm fc b1 n1 c1 b2 n2 c2 b3 n3 c3 b4 n4 c4 H=>?_);rw[show z=((i:Nat):Int)from dJ]at H;have xy:=t kD ng y H.e;clear t H;cbv;refine⟨wi,_,aI,by constructor<;>cbv,xy⟩
  .have K:=T.call u N V;have EC:=u _ _ I;have y:=O.trans oU;have ED:=K.fn.le _ _ (y _ _ W);clear T I u N V pM;have S:=nt U (.gone nm);have t:=λh' f a1 a2=>Z h' f _ a1 a2 S (M.trans (il hx R));clear M Z Y S;cbv;rw[dj];cbv;rw[df];cbv;repeat (first|rw[ao A] | (refine bc ED ?_;cbv)|(refine bc EC ?_;cbv)|(refine⟨⟨_,rfl,rfl⟩,?_⟩;cbv))
   refine cQn K z nm (λkD fb fm fc b1 n1 c1 b2 n2 c2 b3 n3 c3 b4 n4 c4 H=>?_);rw[show z=((i:Nat):Int)from dJ]at H;have xy:=t kD ng y H.e;clear t H;cbv;refine⟨wi,_,aI,by constructor<;>cbv,xy⟩
  .have K:=T.call u N V;have EC:=u _ _ I;have y:=O.trans oU;have ED:=K.fn.le _ _ (y _ _ W);clear T I u N V pM;have S:=nt U (.tx ⟨id,L,rows,ai,cl,dM⟩);have t:=λh' f a1 a2=>Z h' f _ a1 a2 S (M.trans (il hx R));have tk:=Gj R;have tr:=tk.root;have tb:=tk.dM;have tc:=tk.fJS;have t:∃V2,Yt ⟨d,nx,op,su,fo⟩ ⟨id,L,rows,ai,cl,dM⟩=V2/\∀h' f,Le g f->Ye f h' p j 0 0 0 V2->J wi (A .aC .add .i64 z 1) h':=⟨_,rfl,λh' f a1 a2=>t h' f a1 a2⟩;clear M Z Y S tk;cbv;obtain⟨V2,ak,t⟩:=t;rw[de];cbv;rw[dd];cbv;rw[cK];cbv;repeat (first|rw[ao A] | (refine bc ED ?_;cbv)|(refine bc EC ?_;cbv)|(refine⟨⟨_,rfl,rfl⟩,?_⟩;cbv))
   refine gXy K U.vi X (hJX vo (by omega)) (hJX vs (by omega)) s1 s2 e1 e2 tc e3 tr e4 tb ak (λkD fb fm fc b5 n5 c5 b6 n6 c6 bl H=>?_);have xy:=t kD ng y H.e;clear t H;cbv;refine⟨wi,_,aI,by constructor<;>cbv,xy⟩
  have K:=T.call u N V;have EC:=u _ _ I;have y:=O.trans oU;have ED:=K.fn.le _ _ (y _ _ W);clear T I u N V pM;have S:=nt U (.dM n ct);have t:=λh' f a1 a2=>Z h' f _ a1 a2 S (M.trans (il hx R));have sl:=CB R;have t:∃V2,IG ⟨d,nx,op,su,fo⟩ 0 (.dM n ct)=V2/\∀h' f,Le g f->Ye f h' p j 0 0 0 V2->J wi (A .aC .add .i64 z 1) h':=⟨_,rfl,λh' f a1 a2=>t h' f a1 a2⟩;clear M Z Y S;cbv;obtain⟨V2,ak,t⟩:=t;rw[cI];cbv;rw[cB];cbv;rw[cz];cbv;repeat (first|rw[ao A] | (refine bc ED ?_;cbv)|(refine bc EC ?_;cbv)|(refine⟨⟨_,rfl,rfl⟩,?_⟩;cbv))
  refine aKl K X (hJX vo (by omega)) (hJX vs (by omega)) n e sl ak (λkD fb fm fc b5 n5 c5 b6 n6 c6 bl H=>?_);have xy:=t kD ng y H.e;clear t H;cbv;refine⟨wi,_,aI,by constructor<;>cbv,xy⟩
 rw[ag hc];rw[wM (by omega)]at M;have Rw:P=⟨d,nx,op,su,fo⟩:=M;have X:=U.YB;rw[Rw]at Y;have Y:∀h' f b m c,Le g f->Le f h'->Sl 137 qI h' (.slice b m c) (oD su fo ds)->k (.slice b m c) h':=Y;clear aX hJ fz e8;cbv;repeat (first|rw[ao A] | (refine bc dq ?_;cbv)|(refine⟨⟨_,rfl,rfl⟩,?_⟩;cbv))
 refine Hj q8.fn q8.sm X (YJ.mono (O.t _)) (λhD fb fm fc xD E=>?_);have bh:=E.le _ _ (O _ _ W);have bd:=E.out;have aP:=Y hD _ fb fm fc O E.le E.buf.sl;cbv;repeat (first|rw[ao A] | (refine bc bh ?_;cbv)|(refine bc bd ?_;cbv)|(refine⟨⟨_,rfl,rfl⟩,?_⟩;cbv))
 refine So E.buf.sl (λhE bE cE lE qE=>?_);have:=Y hE _ bE fm cE O (E.le.trans lE) qE.sl;clear Y aP;cbv;exact this
end Go.S
