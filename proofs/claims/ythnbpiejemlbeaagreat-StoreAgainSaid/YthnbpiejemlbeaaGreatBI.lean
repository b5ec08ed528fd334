import Derived.Test.YthnbpiejemlbeaaGreatBH
set_option linter.all false
set_option maxRecDepth 100000
set_option maxHeartbeats 4000000
namespace Go.S
open Go.Sx Go.Proofs
variable {D:Dk}{c i m p:Nat}{b:Option Addr}{k:Value->ad->Prop}{h h0:ad}
theorem aXz(q:nU h0 h p D)(hl:0<=D.left/\D.left<2^63)(a:∀h',ep Pn h h'->nU h0 h' p (dD D).2->k (.zI (dD D).1) h'):
 Ct 190 [.zP p] h k:=by
 have S:dD D=if D.dead then(15,D)else if(fh D).1 then(15,(fh D).2)else(0,{ (fh D).2 with kept:=(fh D).2.now,ws:=[] }):=rfl
 obtain⟨_,_,_,_,_,_,_,g,-⟩:=q.out;generalize qX:D.dead=O at *;refine cB eJN Tryz.func190 λA hA=>?_;cbv;rw[av A];refine cy g ?_;cases O with
 |true=>have S:dD D=(15,D):=S;rw[S]at a;have:=a h (ep.refl _ _) q;clear a;cbv;exact this
 |false=>
  have S:dD D=if(fh D).1 then(15,(fh D).2)else(0,{ (fh D).2 with kept:=(fh D).2.now,ws:=[] }):=S
  cbv;refine dXB q qX hl (λf I m=>?_);generalize fh D=R at *;obtain⟨t,D1⟩:=R;have m:nU h0 f p D1:=m;cases t with
  |true=>have S:dD D=(15,D1):=S;rw[S]at a;have:=a f I m;clear a;cbv;exact this
  |false=>
   have S:dD D=(0,{ D1 with kept:=D1.now,ws:=[] }):=S;rw[S]at a;obtain⟨kb,kc,r,s,wb,G,wc,v,o1,o2,e1,e2,w,P,Q,J,z2,z3,E⟩:=m.out;have oR:=o2.sl (n:=D1.now.length) rfl;have fin:∀i x j c d,Le f i->f c=none->dt 210 pN i c d D1.now->x=bO i p (.cells #[.slice (zsA r) D1.now.length s,.slice (zsA c) D1.now.length d,.slice wb G wc,.zI D1.left,.bool D1.dead] 231 (0,0))->
    j=bO x p (.cells #[.slice (zsA r) D1.now.length s,.slice (zsA c) D1.now.length d,.zN,.zI D1.left,.bool D1.dead] 231 (0,0))->k (.zI 0) j:=λi x j c d o z o3 M b=>by
    have B:=o _ _ v;rw[M,eI]at b;have lt:∀tys,231∉tys->cX tys i j:=λtys hn=>by rw[b];exact cX.set B hn
    refine a j (I.trans ((o.x _).trans (by rw[b];exact gU B dl))) ⟨c,d,r,s,none,0,0,zqt b,o3.mono (lt _ dl),(o2.mono (o.t _)).mono (lt _ dl),rfl,λe=>by rw[e]at z;exact o2.has z,bA.nil,P,Q,J,E.none z,z3,?_⟩;exact(E.trans o).bf (bs:=[p]) (iu J) (by rw[b];exact Kp.set io)
   clear a S w o1 q m;generalize W:D1.left=lf at *;generalize Vb:D1.dead=d1 at *;generalize sQ:D1.now=N at *;generalize ZD:N.length=nl at *;cbv;intro n5 X L K;have l:Le f X:=zqs K L
   clear K;cbv;rw[av A];refine cy (l _ _ v) ?_;cbv;refine oZ (oR.mono (l.t _)) rfl dl (λe0=>ip) (λH cap Y T nB F o6=>?_);have U:=F _ _ (l _ _ v);have fin:=fin Y;cbv;rw[av A];refine jE U (by show 2<=5;decide) (λC u=>?_);have V:C p=zcL 231 [.slice (zsA r) nl s,.slice (zsA H) nl cap,.slice wb G wc,.zI lf,.bool d1]:=zqt u;cbv;rw[av A];refine jE V (by show 3<=5;decide) (λZ y=>?_);have:=fin C Z H cap (l.trans F) (l.none T) o6 u y;clear fin u y;cbv;exact this
def bXW(n:Int)(g:Nat->Int):List Value:=[.zI n,.int .u8 (g 0),.int .u8 (g 1),.int .u8 (g 2),.int .u8 (g 3),.int .u8 (g 4),.int .u8 (g 5),.int .u8 (g 6),.int .u8 (g 7),.int .u8 (g 8),.int .u8 (g 9),.int .u8 (g 10),.int .u8 (g 11),.int .u8 (g 12),.int .u8 (g 13),.int .u8 (g 14),.int .u8 (g 15),.int .u8 (g 16),.int .u8 (g 17),.int .u8 (g 18),.int .u8 (g 19),.int .u8 (g 20),.int .u8 (g 21),.int .u8 (g 22),.int .u8 (g 23),.int .u8 (g 24),.int .u8 (g 25),.int .u8 (g 26),.int .u8 (g 27),.int .u8 (g 28),.int .u8 (g 29),.int .u8 (g 30),.int .u8 (g 31),.int .u8 (g 32),.int .u8 (g 33),.int .u8 (g 34),.int .u8 (g 35),.int .u8 (g 36),.int .u8 (g 37),.int .u8 (g 38),.int .u8 (g 39),.int .u8 (g 40),.int .u8 (g 41),.int .u8 (g 42),.int .u8 (g 43),.int .u8 (g 44),.int .u8 (g 45),.int .u8 (g 46),.int .u8 (g 47),.int .u8 (g 48),.int .u8 (g 49),.int .u8 (g 50),.int .u8 (g 51),.int .u8 (g 52),.int .u8 (g 53),.int .u8 (g 54),.int .u8 (g 55),.int .u8 (g 56),.int .u8 (g 57),.int .u8 (g 58),.int .u8 (g 59),.int .u8 (g 60),.int .u8 (g 61),.int .u8 (g 62),.int .u8 (g 63)]
theorem Jy(n:Int)(g:Nat->Int):bXW n g=.zI n::RT g:=rfl
theorem Cz(g:Nat->Int):RT g=(List.range 64).map λi=>Value.int .u8 (g i):=rfl
theorem aJD(g:Nat->Int)(x:Int)(h:i<64):(RT g).set i (.int .u8 x)=RT (λj=>if j=i then x else g j):=by
 rw[Cz,Cz];apply kZq;intro j
 grind
theorem aZA(n:Int)(g:Nat->Int)(x:Int)(h:i<64):(bXW n g).set (1+i) (.int .u8 x)=bXW n (λj=>if j=i then x else g j):=by rw[Jy,Jy,<-aJD g x h,rK,List.set_cons_succ]
theorem aJE{g:Nat->Int}{l:Bs}(hl:l.length<=64)(a:∀j x,l[j]? =some x->g j=(x.toNat:Int))(b:∀j,l.length<=j->g j=0):RT g=aT (eS l):=by
 rw[Cz];unfold aT;apply kZq;intro i;rw[kZf,kZf];have c:=tD hl;by_cases h:i<64
 .rw[List.getElem?_range h];unfold eS
  grind
 grind
theorem Tm(q:nU h0 h p D)(hl:0<=D.left/\D.left<2^63)(n:Int){l:Bs}(qb:Sl 5 cD h (.slice b m c) l)(hw:D.ws.length<=2^38)
 (a:∀h',ep Pn h h'->nU h0 h' p (bN D n l).2->k (.zI (bN D n l).1) h'):
 Ct 189 [.zP p,.zI n,.slice b m c] h k:=by
 obtain⟨A,hA⟩:=Ar.ex;have ag:=qb.len;obtain⟨kb,kc,nb,nc,wb,wn,wc,g,o1,o2,e1,e2,w,e4,e5,z1,z2,z3,l0⟩:=q.out;have C:fH D n l.length=if D.dead then 15 else if n<0\/n>=D.now.length\/(l.length:Int)>64 then 1 else 0:=rfl
 have W:bN D n l=if fH D n l.length≠0 then(fH D n l.length,D)else(if(fh { D with now:=D.now.set n.toNat (eS l),ws:=D.ws++[(n,eS l)] }).1 then 15 else 0,(fh { D with now:=D.now.set n.toNat (eS l),ws:=D.ws++[(n,eS l)] }).2):=rfl
 have f1:A .aQ .lss n 0=decide (n<0):=aV A ..;obtain⟨f,ZD⟩:∃f,f=D.now.length:=⟨_,rfl⟩;have f2:A .aQ .geq n (A .nat f)=decide (n>=(f:Int)):=by rw[cF A,hA.nat];rfl
 have f3:A .aQ .gtr (A .nat m) 64=decide ((l.length:Int)>64):=by rw[bF A,hA.nat,ag];rfl
 rw[<-ZD]at g C;generalize qX:D.dead=dd at *;refine kh eJO A Tryz.func189 ?_;cbv;rw[av A];refine cy g ?_;cbv;cases dd with
 |true=>have C:fH D n l.length=15:=C;rw[C,if_pos dl]at W;rw[W]at a;have:=a h (ep.refl _ _) q;clear a;cbv;exact this
 |false=>
  have C:fH D n l.length=if n<0\/n>=(f:Int)\/(l.length:Int)>64 then 1 else 0:=C
  cbv;rw[f1];by_cases N:n<0
  .rw[if_pos (.inl N)]at C;rw[C,if_pos dl]at W;rw[W]at a;have:=a h (ep.refl _ _) q;rw[kS N];clear a;cbv;exact this
  rw[kQW N];cbv;rw[av A];refine cy g ?_;cbv;rw[f2];by_cases O:n>=(f:Int)
  .rw[if_pos (.inr (.inl O))]at C;rw[C,if_pos dl]at W;rw[W]at a;have:=a h (ep.refl _ _) q;rw[kS O];clear a;cbv;exact this
  rw[kQW O];cbv;rw[f3];by_cases c3:(l.length:Int)>64
  .rw[if_pos (.inr (.inr c3))]at C;rw[C,if_pos dl]at W;rw[W]at a;have:=a h (ep.refl _ _) q;rw[kS c3];clear a;cbv;exact this
  rw[if_neg (λhh=>gg)]at C;rw[C,if_neg dl]at W;rw[W]at a;have Z:(⟨D.left,false,D.kept,D.now.set n.toNat (eS l),D.ws++[(n,eS l)]⟩:Dk)={ D with now:=D.now.set n.toNat (eS l),ws:=D.ws++[(n,eS l)] }:=by rw[<-qX]
  rw[Z]at a;clear Z;rw[kQW c3];have O:¬n>=(f:Int):=O;have N:¬n<0:=N;have sQ:n.toNat<D.now.length:=gg
  have X:l.length<=64:=ip
  have P:bg n n.toNat:=⟨ip⟩;have aw:=P.ix (len:=f) ip;clear W C f1 f2 f3 c3;cbv;intro d h1 K e7;have l1:Le h h1:=zqs e7 K
  have u:h1 d=zcL 326 (bXW 0 λ_=>0):=zqt e7;have z7:=l0.none K;clear e7;cbv;refine jE u (qA _) (λh2 e8=>?_);have k2:Kp [d] h1 h2:=by rw[e8];exact Kp.set io
  have u:h2 d=zcL 326 (bXW n λ_=>0):=by rw[e8,ae];exact congrArg (λc=>some (Obj.cells (List.toArray c) 326 (0,0))) (by kernel_rfl)
  have l2:Le h h2:=l1.bf (bs:=[d]) (iu K) k2;obtain⟨J,M⟩:∃J:Nat->Int->ad->Prop,∀w z h',J w z h'=(∃i r,bg z i/\w=m-i/\i<=m/\Le h h'/\h' d=zcL 326 (bXW n r)/\(∀j x,j<i->l[j]? =some x->r j=(x.toNat:Int))/\(∀j,i<=j->r j=0)):=⟨_,λ_ _ _=>rfl⟩;have dP:J m 0 h2:=by rw[M];exact⟨0,_,⟨rfl⟩,rfl,ip,l2,u,λj x hj=>ip,λ_ _=>rfl⟩
  clear e8 k2 u l2 l1;cbv;refine ba.gz (G:=Int) (λz=>[(8,.v (.zI z))]) (λ_=>[]) (λw z h'=>J w z h') m 0 dP ?_
  intro w' z h3 hI;rw[M]at hI;cbv;obtain⟨i,r,H,PO,hi,B,u,ui,EF⟩:=hI;have f6:A .aQ .lss z (A .nat m)=decide (i<m):=by rw[aV A,H.eq,hA.nat];grind
  rw[f6];by_cases hc:i<m
  .rw[kS hc];obtain⟨v,hv⟩:=cK l i;have ib:=H.ix hc;have ao:=H.ix (len:=64) ip;have iK:b.isSome=true:=qb.bu;have aZ:m-(i+1)<w':=ip
   obtain⟨vz,an⟩:∃vz:Int,vz=(v.toNat:Int):=⟨_,rfl⟩;have cm:∀h',Le h h'->h' d=zcL 326 ((bXW n r).set (1+i) (.int .u8 vz))->J (m-(i+1)) (A .aX .add .i64 z 1) h':=λh' l' g'=>by
    rw[M];rw[aZA n r vz ip]at g';refine⟨i+1,_,H.succ (A:=A),rfl,hc,l',g',λj x hj hx=>?_,λj hj=>?_⟩
    .grind
    grind
   clear M dP f6 a ui EF;cbv;refine⟨⟨iK,ib⟩,?_⟩;cbv;refine(qb.mono (B.t _)).load hv H.eq (λcs ar=>?_);have ar:cs=[.int .u8 vz]:=by rw[an];exact ar
   subst ar;cbv;rw[av A];refine⟨ao,?_⟩;cbv;refine bKm H u (by show 0+1+i<65;omega) (λU e4=>?_);have iL:=cm U (B.bf (bs:=[d]) (iu K) (by rw[e4];exact Kp.set io)) (by rw[e4,ae]);clear cm e4;cbv;refine zqn _ (A .aX .add .i64 z 1) aZ iL
  rw[kQW hc];have CM:RT r=aT (eS l):=aJE X (λj x hx=>ui j x gg hx) (λj hj=>EF j ip);have L:=tD X;have g3:=B _ _ g;have ak:=o1.mono (B.t _);have al:=o2.mono (B.t _);have w3:=w.mono (B.t _);have vd:=w.sl.len;clear M dP f6 ui EF;cbv;rw[av A];refine cy g3 ?_;cbv;refine cy u ?_;cbv;intro n9 U mh e9;have E:Le h3 U:=zqs e9 mh
  have q9:Sl 326 Um U (.slice (zsA n9) 1 1) [(n,eS l)]:=bh (s:=Um) (cs:=bXW n r) (zqt e9) ⟨by rw[Jy,CM],L⟩;have g4:=E _ _ g3;have aC:=E _ _ u;have ax:wc=0\/wb≠zsA d:=by
   rcases w.out with⟨b',y1,y2⟩|⟨aD,iB,y1,y2,y3⟩
   .grind
   right;cases y1;intro hh;cases hh;exact y3.has K
  clear e9;cbv;try rw[av A]
  refine cy g4 ?_;cbv;refine zqr ?_;cbv;refine(w3.mono (E.t _)).app q9 dl rfl dl ip ((l0.trans B).trans E) (λm5 b5 c5 h5 Lf l5 t5 k5 q5=>?_);have g5:=k5 _ _ g4 (.inr (.inr (λc fr e=>by cases e)));have aB:=k5 _ _ aC (ax.elim .inl (λhh=>.inr (.inl hh)));have V:ep Pn U h5:=λbb o hb bV=>k5 bb o hb (.inr (.inr (λc fr e=>bV _ _ _ e dl)));have S:=(ak.mono (E.t _)).mono (t5 _ dl);have ab:=(al.mono (E.t _)).mono (t5 _ dl);clear k5;cbv;rw[av A];refine jE g5 gg (λF T=>?_);have k6:Kp [p] h5 F:=by rw[T];exact Kp.set io
  have Q:∀tys,231∉tys->cX tys h5 F:=λtys hn=>by rw[T];exact cX.set g5 hn
  have g6:F p=zcL 231 [.slice (zsA nb) f nc,.slice (zsA kb) f kc,.slice b5 m5 c5,.zI D.left,.bool false]:=zqt T;have az:d≠p:=λe=>gg
  have aA:=k6 _ _ aB (iu az);have x6:ep Pn h F:=((B.trans E).x _).trans (V.trans (by rw[T];exact gU g5 dl));have Ao:=l5.bf (bs:=[p]) (iu z1) k6;have aq:=S.mono (Q _ dl);have Y:=ab.mono (Q _ dl);have w6:=q5.mono (Q _ dl);have fin:∀y,Kp [nb] F y->(∀tys,210∉tys->cX tys F y)->dt 210 pN y nb nc (D.now.set n.toNat (eS l))->nU h0 y p { D with now:=D.now.set n.toNat (eS l),ws:=D.ws++[(n,eS l)] }/\ep Pn h y:=λy I t7 o7=>by
   obtain⟨cn,Ku,-⟩:=Y.out;refine⟨⟨kb,kc,nb,nc,b5,m5,c5,?_,?_,o7,?_,e2,w6.mono (t7 _ dl),?_,?_,z1,z2,z3,Ao.bf (bs:=[nb]) (iu z3) I⟩,x6.trans (I.x (ex:=Pn) (λbb hb o xZ=>?_))⟩
   .have:=t7 [231] dl _ _ _ _ io g6
    grind
   .exact aq.kp I (iu e2) (λ_ _ _ _ hm _=>by cases hm)
   .grind
   .grind
   .grind
   grind
  clear T k6 Q V x6 Ao S ab q5;cbv;rw[av A];refine cy g6 ?_;cbv;rw[av A];refine cy aA ?_;cbv;refine⟨⟨rfl,aw⟩,?_⟩;cbv;refine Y.setAt (s:=pN) (by simp[pN]) (i:=n.toNat) sQ P.eq rfl (cs:=RT r) (x:=eS l) ⟨CM,L⟩ (λy I t7 o7=>?_);obtain⟨r7,x7⟩:=fin y I t7 o7;clear fin I t7 o7;cbv;refine dXB r7 qX hl (λh8 x8 r8=>?_);have a:k (.zI (if(fh { D with now:=D.now.set n.toNat (eS l),ws:=D.ws++[(n,eS l)] }).1 then 15 else 0)) h8:=a h8 (x7.trans x8) r8;generalize fh { D with now:=D.now.set n.toNat (eS l),ws:=D.ws++[(n,eS l)] }=R at *;obtain⟨t,D9⟩:=R;cases t with
  |true=>cbv;exact a
  |false=>cbv;exact a
theorem eQw(P:0<D.now.length):fH D 0 0=if D.dead then 15 else 0:=by
 unfold fH;split
 .rfl
 rw[if_neg];rintro(h|h|h)<;>omega
theorem To(q:nU h0 h p D)
 (s:∀h' n c e,e=(if D.dead then 15 else 0:Int)->(D.dead=false->n=vO (dF D 0)/\c=vO ((dF D 0).drop 8))->Le h h'->k (.tuple #[.zI n,.zI c,.zI e]) h'):
 Ct 195 [.zP p] h k:=by
 obtain⟨A,U⟩:=Ar.ex;have f:A .aQ .neq 15 0=true:=by rw[aJ A];rfl
 have E:A .aQ .neq 0 0=false:=by rw[aJ A];rfl
 have j:0<D.now.length:=by obtain⟨Y,kc,nb,nc,wb,wn,wc,g,o1,o2,e1,O,w,Q,v,z⟩:=q.out;exact v
 have Z:=eQw j;refine kh eJI A Tryz.func195 ?_;cbv;refine QS q 0 (λV=>?_) (λb R L N l1 M u i F=>?_)
 .have X:D.dead=true:=by
   cases hd:D.dead with
   |true=>rfl
   |false=>rw[Z,hd]at V;exact absurd rfl V
  have b:fH D 0 0=15:=by rw[Z,X];rfl
  have:=s h 0 0 15 (by rw[X];rfl) (λr=>by rw[X]at r;cases r) (Le.refl _);rw[b];cbv;rw[f];cbv;exact this
 have X:D.dead=false:=by
  cases hd:D.dead with
  |false=>rfl
  |true=>rw[Z,hd]at b;cases b
 subst M;have G:aR 8 (some (dF D 0))=(nL ((dF D 0).take 8),some ((dF D 0).drop 8)):=by simp only[aR,fw];rw[if_pos ip]
 have l:aR 8 (some ((dF D 0).drop 8))=(nL (((dF D 0).drop 8).take 8),some (((dF D 0).drop 8).drop 8)):=by simp only[aR,fw];rw[if_pos (by rw[kJb];omega)]
 have a:IntKind.i64.wrap ((aR 8 (some (dF D 0))).1:Int)=vO (dF D 0):=by rw[G];rfl
 have o:IntKind.i64.wrap ((aR 8 (some ((dF D 0).drop 8))).1:Int)=vO ((dF D 0).drop 8):=by rw[l];rfl
 have P:(aR 8 (some (dF D 0))).2=some ((dF D 0).drop 8):=by rw[G]
 clear G l;cbv;rw[E];cbv;refine Ol F.sl (λS pr J B H=>?_);cbv;refine DQ H (λT I W x t=>?_);rw[P]at t;rw[a]at W;cbv;refine DQ t (λm K d y r4=>?_);rw[o]at d;have C:Le h m:=i.trans (B.bf (iu J) (x.trans y));have:=s m I K 0 (by rw[X];rfl) (λ_=>⟨W,d⟩) C;clear a o P W d;cbv;exact this
theorem nU.pg(q:nU h0 h p D){b:Bs}(d:b∈D.now):b.length=64:=by obtain⟨n,kc,r,s,wb,t,wc,g,o1,o2,e1,f,w,j,k,z,u,v,o⟩:=q.out;obtain⟨c,l,a,m⟩:=o2.out;obtain⟨i,e⟩:=kZO.1 d;exact(a.2 i b e).2
theorem nU.max(q:nU h0 h p D):D.now.length<=4096:=by obtain⟨k,kc,n,c,wb,d,wc,g,o1,o2,e1,a,w,e,b,z,f,i,l⟩:=q.out;exact e
theorem Iy(q:nU h0 h p D):(dL D).length=64*(D.now.length-1):=by unfold dL;rw[tP (λb a=>q.pg (kXN a)),kJb]
theorem fQh(q:nU h0 h p D)(hd:D.dead=false){z:Int}{n:Nat}(L:bg z n)
 (hk:∀h' b m c,Le h h'->Sl 5 cD h' (.slice b m c) ((dL D).take n)->k (.slice b m c) h'):
 Ct 296 [.zP p,.zI z] h k:=by
 have ZL:=q.max;obtain⟨kb,kc,nb,nc,wb,wn,wc,g,o1,o2,e1,e2,w,e4,e5,z1,z2,z3,l0⟩:=q.out;obtain⟨P,hP⟩:∃P,P=D.now.length:=⟨_,rfl⟩;rw[<-hP]at g;obtain⟨J,H⟩:∃J:Nat->(Int×Option Addr×Nat×Nat)->ad->Prop,∀w g h',J w g h'=(∃i,bg g.1 (i+1)/\w=P-i/\i+1<=P/\Le h h'/\bA 5 cD h h' (.slice g.2.1 g.2.2.1 g.2.2.2) (((D.now.drop 1).take i).flatten)):=⟨_,λ_ _ _=>rfl⟩;have u:J P (1,none,0,0) h:=by rw[H];exact⟨0,⟨rfl⟩,rfl,ip,Le.refl _,bA.nil⟩
 refine cB eXV Tryz.func296 λA t=>?_;cbv;refine ba.gz (G:=Int×Option Addr×Nat×Nat) (λg=>[(6,.v (.zI g.1)),(5,.v (.slice g.2.1 g.2.2.1 g.2.2.2))]) (λ_=>[]) (λw g h'=>J w g h') P (1,none,0,0) u ?_
 intro w' S y I;rw[H]at I;cbv;obtain⟨a,b,m,c⟩:=S;obtain⟨i,f,PO,hi,v,j⟩:=I;have f:bg a (i+1):=f;have j:bA 5 cD h y (.slice b m c) (((D.now.drop 1).take i).flatten):=j;have T:=v _ _ g;have hm:=j.sl.len;have Y:m=64*i:=by rw[hm,tP (λx hx=>q.pg (kXN (kZx hx))),kJI,kJb];congr 1;omega
 have r:A .aQ .lss a (A .nat P)=decide (i+1<P):=by rw[aV A,f.eq,t.nat];exact decide_eq_decide.2 (by show((i+1:Nat):Int)<(P:Int)↔_;omega)
 have s:A .aQ .lss (A .nat m) z=decide (m<n):=by rw[aV A,L.eq,t.nat];exact decide_eq_decide.2 (by show(m:Int)<(n:Int)↔_;omega)
 obtain⟨e,U⟩:∃e,e=A .mT z (A .nat m):=⟨_,rfl⟩;have E:bg e (min n m):=⟨by rw[U,t.mT,t.nat,L.eq];show min (n:Int) (m:Int)=_;omega⟩;have kE:=j.sl.bound;have fin:¬(i+1<P/\m<n)->(0<=e/\e<=(c:Int))/\k (.slice (A .cut b 0 (A .nat c) 1) (A .nR e 0) c) y:=λhn=>by
  refine⟨by have:=E.eq;omega,?_⟩;rw[dJ (A:=A) E];have K:=j.sl.vU (A:=A) (z:=A .nat c) (i:=min n m) ip rfl;have he:(((D.now.drop 1).take i).flatten).take (min n m)=(dL D).take n:=by
   have hr:=Iy q;have R:dL D=((D.now.drop 1).take i).flatten++((D.now.drop 1).drop i).flatten:=by unfold dL;rw[<-List.flatten_append,GD]
   rw[R];by_cases ab:m<n
   .have h0:(D.now.drop 1).drop i=[]:=kXc (by rw[kJb];omega);rw[h0,List.flatten_nil,kJH];generalize ((D.now.drop 1).take i).flatten=fl at *;rw[kXe (show fl.length<=min n m by omega),kXe (show fl.length<=n by omega)]
   rw[kB ip,kXx ip]
  rw[he]at K;exact hk y _ _ _ v K
 rw[av A];refine cy T ?_;cbv;rw[r];by_cases l:i+1<P
 .rw[kS l];cbv;rw[s];by_cases o:m<n
  .rw[kS o];have O:fH D a 0=0:=by unfold fH;rw[hd];show(if _ then(1:Int)else 0)=0;rw[if_neg];have:=f.eq;rintro(M|M|M)<;>omega
   have C:((D.now.drop 1).take (i+1)).flatten=((D.now.drop 1).take i).flatten++dF D a:=by
    obtain⟨x,hx⟩:=cK D.now (i+1);have e1:dF D a=x:=by unfold dF;rw[show a.toNat=i+1 by have:=f.eq;omega,hx];rfl
    rw[e1];exact ir (by rw[kXz,rK];exact hx)
   have F:∀h' d m' c',Le h h'->bA 5 cD h h' (.slice d m' c') (((D.now.drop 1).take i).flatten++dF D a)->J (P-(i+1)) (A .aX .add .i64 a 1,d,m',c') h':=λh' d m' c' l' q'=>by
    rw[H];exact⟨i+1,f.succ (A:=A),rfl,l,l',by rw[C];exact q'⟩
   have N:P-(i+1)<w':=ip
   clear H u fin r s C U E;cbv;refine QS (q.le v) a (λV=>absurd O V) (λ_ h2 b2 o l2 lN Q Z q2=>?_);subst lN;have W:=j.mono (Z.t _);generalize dF D a=pg at *;cbv;refine W.app q2.sl dl rfl dl ip (v.trans Z) (λm' d c' X HL l3 t3 k3 q3=>?_);have iL:=F X d m' c' l3 q3;clear F k3;cbv;refine zqn (P-(i+1)) (A .aX .add .i64 a 1,d,m',c') N iL
  rw[kQW o];have:=fin (λB=>o B.2);rw[U]at this;clear H u fin r s U E;cbv;refine⟨this.1,?_⟩;have:=this.2;cbv;exact this
 rw[kQW l];have:=fin (λB=>l B.1);rw[U]at this;clear H u fin r s U E;cbv;refine⟨this.1,?_⟩;have:=this.2;cbv;exact this
def fy:Nat->Bs->List Bs×Bool
 |0,b=>([],b.isEmpty)
 |f+1,b=>if b.length=0 then([],true)else if b.length<8 then([],false)else if eK b<0\/eK b>(b.length:Int)-8 then([],false)else
  let r:=fy f (b.drop (8+(eK b).toNat))
  ((b.drop 8).take (eK b).toNat::r.1,r.2)
theorem Wa{bs:Bs}(q:Sl 5 cD h (.slice b m c) bs)(hm:m<=2^30)
 (hk:∀h' b1 m1 D,Le h h'->Sl 176 tu h' (.slice b1 m1 D) (fy bs.length bs).1->k (.tuple #[.slice b1 m1 D,.bool (fy bs.length bs).2]) h'):
 Ct 295 [.slice b m c] h k:=by
 have aq:=q.len;obtain⟨J,H⟩:∃J:Nat->((Option Addr×Nat×Nat)×Option Addr×Nat×Nat)->ad->Prop,∀w g h',J w g h'=(∃u e f,w=g.1.2.1/\u.length<=f/\u.length+8*e.length<=bs.length/\Le h h'/\Sl 5 cD h' (.slice g.1.1 g.1.2.1 g.1.2.2) u/\
  bA 176 tu h h' (.slice g.2.1 g.2.2.1 g.2.2.2) e/\fy bs.length bs=(e++(fy f u).1,(fy f u).2)):=⟨_,λ_ _ _=>rfl⟩
 have hJ:J m ((b,m,c),none,0,0) h:=by rw[H];exact⟨bs,[],bs.length,rfl,qA _,io,Le.refl _,q,bA.nil,rfl⟩
 refine cB eXW Tryz.func295 λA hA=>?_;cbv;refine ba.gz (G:=(Option Addr×Nat×Nat)×Option Addr×Nat×Nat) (λg=>[(0,.v (.slice g.1.1 g.1.2.1 g.1.2.2)),(4,.v (.slice g.2.1 g.2.2.1 g.2.2.2))]) (λ_=>[]) (λw g h'=>J w g h') m ((b,m,c),none,0,0) hJ ?_
 intro w g y hI;rw[H]at hI;cbv;obtain⟨⟨X,a,d⟩,ob,om,oc⟩:=g;obtain⟨u,e,f,hw,hf,ar,l1,C,R,K⟩:=hI;have hw:w=a:=hw;have C:Sl 5 cD y (.slice X a d) u:=C;have R:bA 176 tu h y (.slice ob om oc) e:=R;have nQ:=C.len;have kE:=C.bound;have aw:=R.sl.len;have f0:A .aQ .gtr (A .nat a) 0=decide (0<a):=by rw[bF A,hA.nat];exact decide_eq_decide.2 (by rw[kZn];omega)
 have f1:A .aQ .lss (A .nat a) 8=decide (a<8):=by rw[aV A,hA.nat];exact decide_eq_decide.2 (by rw[kZn];omega)
 have fin:∀L,Le y L->∀t,fy f u=([],t)->k (.tuple #[.slice ob om oc,.bool t]) L:=λL N t o=>by
  rw[o]at K;simp only[kJH]at K;rw[K]at hk;exact hk L ob om oc (l1.trans N) (R.sl.mono (N.t _))
 rw[f0];by_cases c0:0<a
 .rw[kS c0];obtain⟨j,rfl⟩:∃j,f=j+1:=⟨f-1,ip⟩;have hR:fy (j+1) u=if u.length=0 then([],true)else if u.length<8 then([],false)else if eK u<0\/eK u>(u.length:Int)-8 then([],false)else
   ((u.drop 8).take (eK u).toNat::(fy j (u.drop (8+(eK u).toNat))).1,(fy j (u.drop (8+(eK u).toNat))).2):=rfl
  rw[if_neg ip]at hR;cbv;rw[f1];by_cases D:a<8
  .rw[kS D];have:=fin y (Le.refl _) false (by rw[hR,if_pos ip]);clear H hJ K fin hR;cbv;exact this
  rw[kQW D];rw[if_neg ip]at hR;have P:((u.length:Nat):Int)-8=(a:Int)-8:=by rw[nQ]
  have nI:aR 8 (some (u.take 8))=(nL (u.take 8),some []):=dZh _ (by rw[kJI];omega);have mV:(0:Int)<=8/\(8:Int)<=(d:Int):=ip
  have d8:A .nR 8 0=8:=dJ ⟨rfl⟩;have t8:=C.vU (A:=A) (z:=A .nat d) (i:=8) ip rfl;have S:eK u<0->fy (j+1) u=([],false):=λr=>by rw[hR,if_pos (.inl r)]
  have Q:eK u>(a:Int)-8->fy (j+1) u=([],false):=λr=>by rw[hR,if_pos (.inr (P ▸ r))]
  have Z:¬eK u<0->¬eK u>(a:Int)-8->bg (eK u) (eK u).toNat/\8+(eK u).toNat<=a/\(u.drop (8+(eK u).toNat)).length<=j/\fy bs.length bs=((e++[(u.drop 8).take (eK u).toNat])++(fy j (u.drop (8+(eK u).toNat))).1,(fy j (u.drop (8+(eK u).toNat))).2)/\u.length-(8+(eK u).toNat)+8*(e.length+1)<=bs.length:=λwZ an=>by
   rw[if_neg (λr=>r.elim wZ (λr=>an (P ▸ r)))]at hR;refine⟨⟨ip⟩,ip,by rw[kJb];omega,?_,ip⟩;rw[K,hR,kJk];rfl
  have hB:om+1<=2^39:=ip
  clear hJ hR K;cbv;refine⟨mV,?_⟩;cbv;rw[d8];refine Ol t8 (λL p hp N r2=>?_);cbv;refine DQ r2 (λB x3 W k3 r3=>?_);rw[nI]at W;have O:Le y B:=N.bf (iu hp) k3;have W:x3=eK u:=W;have Pp:=C.mono (O.t [5]);have ag:=R.mono (O.t [176,5]);clear nI r3 r2 k3 t8 d8 mV hp N;rw[W];clear W;generalize eK u=z at *;have f3:A .aQ .lss z 0=decide (z<0):=aV A ..;have kj:A .aX .sub .i64 (A .nat a) 8=(a:Int)-8:=by rw[hA.aX,hA.nat];show IntKind.i64.wrap ((a:Int)-8)=_;rw[IntWalk.i64_in _ ip]
  have U:A .aQ .gtr z (A .aX .sub .i64 (A .nat a) 8)=decide (z>(a:Int)-8):=by rw[kj];exact bF A ..
  by_cases F:z<0
  .have o:=S F;have:=fin B O _ o;clear S Q Z fin o;cbv;rw[f3,kS F];cbv;exact this
  by_cases T:z>(a:Int)-8
  .have o:=Q T;have:=fin B O _ o;rw[kS T]at U;clear S Q Z fin o;cbv;rw[f3,kQW F];cbv;rw[U];cbv;exact this
  rw[kQW T]at U;obtain⟨ly,PZ,pE,K,lN⟩:=Z F T;generalize z.toNat=n at *;have Y:bg 8 8:=⟨rfl⟩;have V:bg (A .aX .add .i64 8 z) (8+n):=Y.add (A:=A) ly ip;have jW:0<=A .aX .add .i64 8 z/\A .aX .add .i64 8 z<=(d:Int)/\0<=(8:Int)/\(8:Int)<=A .aX .add .i64 8 z:=by have:=V.eq;omega
  have zX:0<=A .aX .add .i64 8 z/\A .aX .add .i64 8 z<=(a:Int):=by have:=V.eq;omega
  have Vz:A .nR (A .aX .add .i64 8 z) 8=n:=by rw[KI (A:=A) V Y];omega
  have Ln:A .nR (A .nat d) 8=d-8:=cS (A:=A) Y;have SY:=cS (A:=A) (n:=a) V;have I:=cS (A:=A) (n:=d) V;have tm:=Pp.cQx (A:=A) Y (m:=n) ip rfl;have td:=Pp.jX (A:=A) V ip rfl rfl;have cm:∀h' m' v c',Le h h'->Sl 5 cD h' (.slice (A .cut X (A .aX .add .i64 8 z) (A .nat d) 1) (a-(8+n)) (d-(8+n))) (u.drop (8+n))->bA 176 tu h h' (.slice v m' c') (e++[(u.drop 8).take n])->
   J (a-(8+n)) ((A .cut X (A .aX .add .i64 8 z) (A .nat d) 1,a-(8+n),d-(8+n)),v,m',c') h':=λh' m' v c' l' s' q'=>by
   rw[H];exact⟨_,_,j,rfl,pE,by rw[kXy,kJb];exact lN,l',s',q',K⟩
  have aZ:a-(8+n)<w:=ip
  obtain⟨M,E⟩:∃x,x=a-(8+n):=⟨_,rfl⟩;obtain⟨ab,l⟩:∃x,x=d-(8+n):=⟨_,rfl⟩;obtain⟨ax,ak⟩:∃x,x=d-8:=⟨_,rfl⟩;rw[<-E,<-l]at cm;rw[<-E]at aZ;rw[<-E]at SY;rw[<-l]at I;rw[<-ak]at Ln tm;rw[<-E,<-l]at td;clear fin K hk S Q Z H;cbv;rw[f3,kQW F];cbv;rw[U];cbv;intro n4 h4 Gq e4;have l4:Le B h4:=zqs e4 Gq
  clear e4;cbv;refine⟨jW,?_⟩;cbv;rw[Vz,Ln];have o4:bA 5 cD B h4 (.slice (zsA n4) 0 0) []:=bA.nil;refine o4.app (tm.mono (l4.t _)) dl rfl dl ip l4 (λm4 b4 vH h5 BY l5 t5 k5 q5=>?_);have PE:Le B h5:=l5;have al:=td.mono (l5.t _);have ao:=ag.mono (l5.t _);have q5:Sl 5 cD h5 (.slice b4 m4 vH) ((u.drop 8).take n):=iu q5.sl
  clear k5;cbv;intro n6 h6 MZ e6;have l6:Le h5 h6:=zqs e6 MZ
  have q6:Sl 176 tu h6 (.slice (zsA n6) 1 1) [(u.drop 8).take n]:=bh (s:=tu) (zqt e6) ⟨_,rfl,q5.mono (l6.t _)⟩;clear e6;cbv;refine(ao.mono (l6.t _)).app q6 dl rfl dl hB ((l1.trans O).trans (PE.trans l6)) (λm' v c' h7 HL l7 t7 k7 q7=>?_);have iL:=cm h7 m' v c' l7 ((al.mono (l6.t _)).mono (t7 _ dl)) q7;clear cm k7;cbv;refine⟨zX,?_⟩;cbv;rw[SY,I];refine zqn M ((A .cut X (A .aX .add .i64 8 z) (A .nat d) 1,M,ab),v,m',c') aZ iL
 rw[kQW c0];have:=fin y (Le.refl _) true (by
  have:u=[]:=kZh ip;subst this;cases f<;>rfl)
 clear H hJ K fin;cbv;exact this
def jT(D:Dk):Nat:=64*(D.now.length-1)
def RE(D:Dk)(n c:Int):List Bs×Bool:=
 let b:=(dL D).take (max (min n (jT D)) 0).toNat;let r:=fy b.length b
 (r.1,r.2&&(decide (n>=0)&&(decide (n<=(jT D:Nat))&&decide (c=(r.1.length:Nat)))))
def Iu(D:Dk):List Bs×Bool:=if D.dead then([],false)else RE D (vO (dF D 0)) (vO ((dF D 0).drop 8))
theorem nU.pos(q:nU h0 h p D):0<D.now.length:=by obtain⟨k,kc,n,c,wb,d,wc,g,o1,o2,e1,a,w,b,e,z⟩:=q.out;exact e
theorem cJY(q:nU h0 h p D)
 (a:∀h' b m c l w,(l,w)=Iu D->Le h h'->Sl 176 tu h' (.slice b m c) l->k (.tuple #[.slice b m c,.bool w]) h'):
 Ct 196 [.zP p] h k:=by
 obtain⟨A,i⟩:=Ar.ex;have s:A .aQ .neq 15 0=true:=by rw[aJ A];rfl
 have mW:A .aQ .neq 0 0=false:=by rw[aJ A];rfl
 have L:=q.max;have nB:=q.pos;have uf:=Iy q;have d:Iu D=if D.dead then([],false)else RE D (vO (dF D 0)) (vO ((dF D 0).drop 8)):=rfl
 obtain⟨kb,kc,nb,nc,wb,wn,wc,g,-⟩:=q.out;obtain⟨P,B⟩:∃P,P=D.now.length:=⟨_,rfl⟩;have Z:jT D=64*(P-1):=by rw[B];rfl
 rw[<-B]at g L nB uf;refine kh eJH A Tryz.func196 ?_;cbv;refine To q (λT n c e j W o=>?_);cases X:D.dead with
 |true=>rw[X,if_pos rfl]at j;rw[X,if_pos rfl]at d;have:=a T none 0 0 [] false d.symm o Sl.nil;rw[j];clear d;cbv;rw[s];cbv;exact this
 |false=>
  rw[X,if_neg dl]at j;rw[X,if_neg dl,<-(W X).1,<-(W X).2]at d;rw[j];have O:=o _ _ g;obtain⟨z,C⟩:∃z,z=A .aX .mul .i64 (A .aX .sub .i64 (A .nat P) 1) 64:=⟨_,rfl⟩;have Q:bg z (jT D):=⟨by
   rw[C,i.aX,i.nat,Z];show IntKind.i64.wrap (IntKind.i64.wrap ((P:Int)-1)*64)=_;rw[IntWalk.i64_in ((P:Int)-1) ip,IntWalk.i64_in _ ip];omega⟩
  obtain⟨t,E⟩:∃t,t=A .imax (A .mT n z) 0:=⟨_,rfl⟩;have S:bg t (max (min n (jT D)) 0).toNat:=⟨by
   rw[E,i.imax,i.mT,Q.eq];show max (min n _) 0=_;omega⟩
  have F:RE D n c=((fy ((dL D).take (max (min n (jT D)) 0).toNat).length ((dL D).take (max (min n (jT D)) 0).toNat)).1,(fy ((dL D).take (max (min n (jT D)) 0).toNat).length ((dL D).take (max (min n (jT D)) 0).toNat)).2&&(decide (n>=0)&&(decide (n<=(jT D:Nat))&&decide (c=((fy ((dL D).take (max (min n (jT D)) 0).toNat).length ((dL D).take (max (min n (jT D)) 0).toNat)).1.length:Nat))))):=rfl;have J:((dL D).take (max (min n (jT D)) 0).toNat).length<=2^30:=by rw[kJI];omega
  have x:A .aQ .geq n 0=decide (n>=0):=cF A ..;have M:A .aQ .leq n z=decide (n<=(jT D:Nat)):=by rw[Sg A,Q.eq]
  clear Z;generalize jT D=I at *;cbv;rw[mW];cbv;rw[av A];refine cy O ?_;cbv;rw[<-C,<-E];refine fQh (q.le o) X S (λh2 u m2 c2 V G=>?_);generalize (dL D).take (max (min n I) 0).toNat=bs at *;cbv;refine Wa G (by rw[G.len];exact J) (λy f r v Y H=>?_);have N:A .aQ .eql c (A .nat r)=decide (c=((fy bs.length bs).1.length:Nat)):=by rw[au A,i.nat,<-H.len];rfl
  have a:∀w,w=((fy bs.length bs).2&&(decide (n>=0)&&(decide (n<=(I:Nat))&&decide (c=((fy bs.length bs).1.length:Nat)))))->k (.tuple #[.slice f r v,.bool w]) y:=λw U=>a y f r v (fy bs.length bs).1 w (by rw[d,F,U]) ((o.trans V).trans Y) H;rw[<-x,<-M,<-N]at a;clear F d Q S;generalize (fy bs.length bs).2=w at *;have x:A .aQ .geq n 0=A .aQ .geq n 0:=rfl;generalize lG:A .aQ .geq n 0=K at *;generalize R:A .aQ .leq n z=u at *;generalize yL:A .aQ .eql c (A .nat r)=f at *;cbv;cases w with
  |false=>have:=a false rfl;cbv;exact this
  |true=>
   cbv;rw[lG];cases K with
   |false=>have:=a false rfl;cbv;exact this
   |true=>
    cbv;rw[R];cases u with
    |false=>have:=a false rfl;cbv;exact this
    |true=>cbv;rw[yL];have:=a f (by cases f<;>rfl);cbv;exact this
def LB(D:Dk):Prop:=0<=D.left/\D.left<2^63
theorem Ft(q:LB D):LB (fh D).2:=by
 unfold LB at *;unfold fh;split
 .rename_i h;split
  .exact⟨by show(0:Int)<=0;omega,by show(0:Int)<2^63;omega⟩
  have e:IntKind.i64.wrap (D.left+ -1)=D.left+ -1:=IntWalk.i64_in _ ip;show 0<=IntKind.i64.wrap (D.left+ -1)/\IntKind.i64.wrap (D.left+ -1)<2^63;rw[e];omega
 exact q
theorem od(q:LB D)(n:Int)(l:Bs):LB (bN D n l).2:=by
 unfold bN;split
 .exact q
 exact Ft (D:={ D with now:=D.now.set n.toNat (eS l),ws:=D.ws++[(n,eS l)] }) q
theorem vW(q:LB D):LB (dD D).2:=by
 unfold dD;split
 .exact q
 split
 .exact Ft q
 exact Ft q
theorem EW:∀(n:Nat) (D:Dk) (pg:Nat) (b:Bs),b.length<=n->LB D->LB (dN D pg b).2:=λn=>by
 induction n with
 |zero=>intro D pg b h q;have:b=[]:=kZh ip;rw[dN,dif_pos this];exact vW q
 |succ n i=>
  intro D pg b h q;rw[dN];split
  .exact vW q
  rename_i V;have B:=kZz.2 V;split
  .exact od q ..
  exact i _ _ _ (by rw[kJb];omega) (od q ..)
theorem tC(q:LB D)(s:Nat)(b:Bs):LB (cO D s b).2:=by
 unfold cO;split
 .exact EW _ _ _ _ (qA _) q
 split
 .exact q
 exact EW _ _ _ _ (qA _) q
structure Tn(h0 h:ad)(lg p:Nat)(s n:Int):Prop where
 out:h lg=zcL 353 [.zP p,.zI s,.zI n]
 new:h0 lg=none
theorem Tn.lt{h':ad}{g:Nat}{s n:Int}(q:Tn h0 h g p s n)(l:cX [353] h h'):Tn h0 h' g p s n:=⟨l _ _ _ _ dl q.out,q.new⟩
theorem cJZ(q:nU h0 h p D)(hd:D.dead=false){l:List Bs}(z:Iu D=(l,true))
 (f:∀h' g b m c,Le h h'->Tn h0 h' g p (vO (dF D 0)) (vO ((dF D 0).drop 8))->Sl 176 tu h' (.slice b m c) l->k (.tuple #[.zP g,.slice b m c,.zI 0]) h'):
 Ct 88 [.zP p] h k:=by
 obtain⟨A,y⟩:=Ar.ex;have B:A .aQ .neq 0 0=false:=by rw[aJ A];rfl
 refine kh iQh A Tryz.func88 ?_;cbv;refine To q (λE n c e r W i=>?_);rw[hd,if_neg dl]at r;rw[r];obtain⟨s,o⟩:=W hd;rw[<-s,<-o]at f;clear s o W;cbv;rw[B];cbv;refine cJY (q.le i) (λx b m v F w a t C=>?_);rw[z]at a;injection a with hl a
 subst hl;rw[a];have O:A .not true=false:=by rw[y.not];rfl
 cbv;rw[O];cbv;intro g j J d;have u:Le x j:=zqs d J
 have:=f j g b m v ((i.trans t).trans u) ⟨zqt d,(q.base.trans (i.trans t)).none J⟩ (C.mono (u.t _));clear d f;cbv;exact this
set_option maxHeartbeats 8000000
abbrev aJs:List Nat:=[353,231,210,326]
theorem KR(hd:D.dead=true)(s n:Nat){l:Bs}(c:¬l.length>65536)(a:¬((l.length:Int)+8>((D.now.length:Int)-1)*64-s)):aY ⟨D,s,n⟩ l=(15,⟨D,s,n⟩):=by
 have L:∀x y,fH D x y=15:=λx y=>by unfold fH;rw[hd];rfl
 have w:∀pg b,b≠[]->dN D pg b=(15,D):=λpg b d=>by
  grind [bN,dN]
 have h:=ck (l.length:Int);have p:cO D s (cP (l.length:Int)++l)=(15,D):=by
  unfold cO;split
  .exact w _ _ (λe=>by have:=congrArg List.length e;grind)
  grind
 show(if l.length>65536 then _ else if _ then _ else _)=_;rw[if_neg c,if_neg a,p];rfl
theorem BU{H:Nat}{g:Lg}(q:nU h0 h p g.D)(hl:LB g.D)(ql:Tn h0 h H p (g.s:Int) (g.n:Int)){e1:Nat}{l:Bs}(qb:Sl e1 cD h (.slice b m c) l)(hs:g.s<=64*(g.D.now.length-1))(hn:g.n<=2^29)(hm:m<=2^28)(hw:g.D.ws.length<=2^28)
 (j:∀h',ep aJs h h'->nU h0 h' p (aY g l).2.D->Tn h0 h' H p ((aY g l).2.s:Int) ((aY g l).2.n:Int)->k (.zI (aY g l).1) h'):
 Ct 83 [.zP H,.slice b m c] h k:=by
 obtain⟨A,K⟩:=Ar.ex;obtain⟨D,s,n⟩:=g;have q:nU h0 h p D:=q;have ql:Tn h0 h H p (s:Int) (n:Int):=ql;have hs:s<=64*(D.now.length-1):=hs;have hn:n<=2^29:=hn;have hl:LB D:=hl;have hw:D.ws.length<=2^28:=hw;have bd:=qb.len;have ZL:=q.max;have nB:=q.pos;have mW:A .aQ .neq 0 0=false:=by rw[aJ A];rfl
 have ZM:A .nat m=(l.length:Int):=by rw[K.nat,bd];rfl
 have f1:A .aQ .gtr (A .nat m) 65536=decide (l.length>65536):=by rw[ZM,bF A];grind
 have w:∀z:Int,-9223372036854775808<=z/\z<=9223372036854775807->IntKind.i64.wrap z=z:=IntWalk.i64_in;obtain⟨P,aL⟩:∃P,P=D.now.length:=⟨_,rfl⟩;have f2:A .aQ .gtr (A .aX .add .i64 (A .nat m) 8) (A .aX .sub .i64 (A .aX .mul .i64 (A .aX .sub .i64 (A .nat P) 1) 64) (s:Int))=decide ((l.length:Int)+8>((D.now.length:Int)-1)*64-s):=by
  have e1:A .aX .add .i64 (A .nat m) 8=(l.length:Int)+8:=by rw[ZM,K.aX];exact w _ ip
  have e2:A .aX .sub .i64 (A .nat P) 1=(D.now.length:Int)-1:=by rw[aL,K.nat,K.aX];exact w _ gg
  have e3:A .aX .mul .i64 ((D.now.length:Int)-1) 64=((D.now.length:Int)-1)*64:=by rw[K.aX];exact w _ ip
  have e4:A .aX .sub .i64 (((D.now.length:Int)-1)*64) (s:Int)=((D.now.length:Int)-1)*64-s:=by rw[K.aX];exact w _ ip
  rw[e1,e2,e3,e4,bF A]
 have ab:A .aX .add .i64 (A .aX .add .i64 (s:Int) 8) (A .nat m)=((s+8+l.length:Nat):Int):=by
  have e1:A .aX .add .i64 (s:Int) 8=(s:Int)+8:=by rw[K.aX];exact w _ ip
  rw[e1,ZM,K.aX];show IntKind.i64.wrap ((s:Int)+8+(l.length:Int))=_
  grind
 have al:A .aX .add .i64 (n:Int) 1=((n+1:Nat):Int):=by
  rw[K.aX];show IntKind.i64.wrap ((n:Int)+1)=_
  grind
 have a:aY ⟨D,s,n⟩ l=if l.length>65536 then(5,⟨D,s,n⟩)
  else if(l.length:Int)+8>((D.now.length:Int)-1)*64-s then(14,⟨D,s,n⟩)
  else if(cO D s (cP (l.length:Int)++l)).1≠0 then((cO D s (cP (l.length:Int)++l)).1,⟨(cO D s (cP (l.length:Int)++l)).2,s,n⟩)
  else if(bN (cO D s (cP (l.length:Int)++l)).2 0 (sB (s+8+l.length) (n+1))).1≠0 then((bN (cO D s (cP (l.length:Int)++l)).2 0 (sB (s+8+l.length) (n+1))).1,⟨(bN (cO D s (cP (l.length:Int)++l)).2 0 (sB (s+8+l.length) (n+1))).2,s,n⟩)
  else if(dD (bN (cO D s (cP (l.length:Int)++l)).2 0 (sB (s+8+l.length) (n+1))).2).1≠0 then((dD (bN (cO D s (cP (l.length:Int)++l)).2 0 (sB (s+8+l.length) (n+1))).2).1,⟨(dD (bN (cO D s (cP (l.length:Int)++l)).2 0 (sB (s+8+l.length) (n+1))).2).2,s,n⟩)
  else(0,⟨(dD (bN (cO D s (cP (l.length:Int)++l)).2 0 (sB (s+8+l.length) (n+1))).2).2,s+8+l.length,n+1⟩):=rfl
 have aC:=ID D s (cP (l.length:Int)++l);rw[kXy,ck]at aC;have SD:=λhd:D.dead=true=>KR hd s n (l:=l);have O:cO D s (cP (l.length:Int)++l)=if s % 64=0 then dN D (1+s / 64) (cP (l.length:Int)++l)
  else if fH D ((1+s / 64:Nat):Int) 0≠0 then(fH D ((1+s / 64:Nat):Int) 0,D)
  else dN D (1+s / 64) ((dF D ((1+s / 64:Nat):Int)).take (s % 64)++(cP (l.length:Int)++l)):=rfl
 have bR:=tC hl s (cP (l.length:Int)++l);have Bl:A .aX .rem .i64 (s:Int) 64=((s % 64:Nat):Int):=by
  rw[K.aX];show((s:Int)).tmod 64=_
  grind
 have CM:A .aX .add .i64 (A .aX .quo .i64 (s:Int) 64) 1=((1+s / 64:Nat):Int):=by
  have v:A .aX .quo .i64 (s:Int) 64=((s / 64:Nat):Int):=by
   rw[K.aX];show IntKind.i64.wrap (((s:Int)).tdiv 64)=_
   grind
  rw[v,K.aX];show IntKind.i64.wrap (((s / 64:Nat):Int)+1)=_
  grind
 have fr:A .aQ .gtr (A .aX .rem .i64 (s:Int) 64) 0=decide (¬s % 64=0):=by rw[Bl,bF A];grind
 obtain⟨pg,bl⟩:∃pg,pg=1+s / 64:=⟨_,rfl⟩;obtain⟨pz,aH⟩:∃pz:Int,pz=((pg:Nat):Int):=⟨_,rfl⟩;rw[<-bl]at O CM;rw[<-aH]at O CM;have bz:bg pz pg:=⟨aH⟩;have cr:pg<=2^31:=ip
 have Vd:s % 64≠0->D.dead=false->fH D pz 0=0:=λv h2=>by
  grind [fH]
 obtain⟨sz,iA⟩:∃sz:Int,sz=(s:Int):=⟨_,rfl⟩;obtain⟨nz,bn⟩:∃nz:Int,nz=(n:Int):=⟨_,rfl⟩;have RM:=ql;rw[<-iA]at f2 ab ql a Bl CM fr;rw[<-bn]at al ql;obtain⟨lz,aF⟩:∃lz:Int,lz=(l.length:Int):=⟨_,rfl⟩;rw[<-aF]at ZM a aC f2 O bR;obtain⟨s2,Eb⟩:∃s2:Int,s2=((s+8+l.length:Nat):Int):=⟨_,rfl⟩;rw[<-Eb]at ab;obtain⟨y,fA⟩:∃y:Int,y=((n+1:Nat):Int):=⟨_,rfl⟩;rw[<-fA]at al;have Aq:sB (s+8+l.length) (n+1)=cP s2++cP y:=by unfold sB;rw[Eb,fA]
 rw[Aq]at a;clear Aq;obtain⟨C,fo⟩:∃C:(Option Addr×Nat×Nat)->ad->Prop,∀g v,C g v=(Le h v/\∃E,Sl 5 cD v (.slice g.1 g.2.1 g.2.2) E/\cO D s (cP lz++l)=dN D pg E/\E.length<=2^30+64):=⟨_,λ_ _=>rfl⟩;obtain⟨J,V⟩:∃J:Option Addr->Nat->Nat->Bs->Nat->(Int×Int)->ad->Prop,∀xb xm xc E w g h',J xb xm xc E w g h'=(∃u F i,bg g.1 i/\bg g.2 F/\i<=xm+64/\w=xm+64-i/\nU h0 h' p u/\LB u/\ep Pn h h'/\Sl 5 cD h' (.slice xb xm xc) E/\cO D s (cP lz++l)=dN u F (E.drop i)/\F<=pg+i/\u.ws.length<=D.ws.length+i):=⟨_,λ_ _ _ _ _ _ _=>rfl⟩;have SE:∀g v,C g v->∃E,E.length=g.2.1/\g.2.1<=2^30+64/\J g.1 g.2.1 g.2.2 E (g.2.1+64) (0,pz) v:=λg v hc=>by
  rw[fo]at hc;obtain⟨E,l2,s1,o,nZ⟩:=hc;have oR:=s1.len;refine⟨l2,oR.symm,ip,?_⟩;rw[V];exact⟨D,pg,0,⟨rfl⟩,bz,ip,ip,q.le E,hl,E.x _,s1,o,ip,ip⟩
 obtain⟨C1,Z⟩:∃C:(Option Addr×Nat×Nat)->ad->Prop,∀g v,C g v=(Le h v/\∃S,bA 5 cD h v (.slice g.1 g.2.1 g.2.2) S/\cO D s (cP lz++l)=dN D pg (S++(cP lz++l))/\S.length<=64):=⟨_,λ_ _=>rfl⟩;refine fT A [13,14] (aj iQm.aw iQm.bz) Tryz.func83 rfl (by kernel_rfl) ?_;cbv;rw[f1];by_cases M:l.length>65536
 .rw[if_pos M]at a;rw[a]at j;have:=j h (ep.refl _ _) q RM;rw[kS M];clear j a fo V SE SD O Z;cbv;exact this
 rw[if_neg M]at a;rw[kQW M];have SD:=λhd=>SD hd M;obtain⟨kb,kc,nb,nc,wb,wn,wc,g,-⟩:=q.out;rw[<-aL]at g;have gl:=ql.out;cbv;repeat (first|rw[av A] | (refine cy gl ?_;cbv)|(refine cy g ?_;cbv)|(refine zqr ?_;cbv))
 rw[f2];by_cases c2:lz+8>((D.now.length:Int)-1)*64-sz
 .rw[if_pos c2]at a;rw[a]at j;have:=j h (ep.refl _ _) q RM;rw[kS c2];clear j a fo V SE SD O Z;cbv;exact this
 rw[if_neg c2]at a;rw[kQW c2];rw[aF]at c2;rw[iA]at c2;have SD:=λhd=>SD hd c2;have Ll:∀h' e d,cO D s (cP lz++l)=(e,d)->e≠0->ep Pn h h'->nU h0 h' p d->k (.zI e) h':=λh' e d o bV x' d'=>by
  rw[a,o]at j;have j:∀h',ep aJs h h'->nU h0 h' p ((if e≠0 then(e,⟨d,s,n⟩)else _:Int×Lg)).2.D->Tn h0 h' H p (((if e≠0 then(e,⟨d,s,n⟩)else _:Int×Lg)).2.s:Int) (((if e≠0 then(e,⟨d,s,n⟩)else _:Int×Lg)).2.n:Int)->k (.zI ((if e≠0 then(e,⟨d,s,n⟩)else _:Int×Lg)).1) h':=j;rw[if_pos bV]at j;exact j h' (x'.sup dl) d' (RM.lt (x'.t dl))
 have Qt:∀d,cO D s (cP lz++l)=(0,d)->aY ⟨D,s,n⟩ l=if(bN d 0 (cP s2++cP y)).1≠0 then((bN d 0 (cP s2++cP y)).1,⟨(bN d 0 (cP s2++cP y)).2,s,n⟩)
  else if(dD (bN d 0 (cP s2++cP y)).2).1≠0 then((dD (bN d 0 (cP s2++cP y)).2).1,⟨(dD (bN d 0 (cP s2++cP y)).2).2,s,n⟩)
  else(0,⟨(dD (bN d 0 (cP s2++cP y)).2).2,s+8+l.length,n+1⟩):=λd o=>by
  rw[a,o];exact if_neg (λg=>g rfl)
 have T:∀h' d e f,cO D s (cP lz++l)=(0,d)->bN d 0 (cP s2++cP y)=(e,f)->e≠0->ep Pn h h'->nU h0 h' p f->k (.zI e) h':=λh' d e f o Gi bV x' d'=>by
  have a:=Qt d o;rw[Gi]at a;have a:aY ⟨D,s,n⟩ l=(e,⟨f,s,n⟩):=by rw[a];exact if_pos bV
  rw[a]at j;exact j h' (x'.sup dl) d' (RM.lt (x'.t dl))
 have L:∀h' d f e B,cO D s (cP lz++l)=(0,d)->bN d 0 (cP s2++cP y)=(0,f)->dD f=(e,B)->e≠0->ep Pn h h'->nU h0 h' p B->k (.zI e) h':=λh' d f e B o Gi aw bV x' d'=>by
  have a:=Qt d o;rw[Gi]at a;have a:aY ⟨D,s,n⟩ l=if(dD f).1≠0 then((dD f).1,⟨(dD f).2,s,n⟩)else(0,⟨(dD f).2,s+8+l.length,n+1⟩):=by rw[a];exact if_neg (λg=>g rfl)
  rw[aw]at a;have a:aY ⟨D,s,n⟩ l=(e,⟨B,s,n⟩):=by rw[a];exact if_pos bV
  rw[a]at j;exact j h' (x'.sup dl) d' (RM.lt (x'.t dl))
 have Q:∀h' d f B,cO D s (cP lz++l)=(0,d)->bN d 0 (cP s2++cP y)=(0,f)->dD f=(0,B)->ep aJs h h'->nU h0 h' p B->Tn h0 h' H p s2 y->k (.zI 0) h':=λh' d f B o Gi aw x' d' g'=>by
  have a:=Qt d o;rw[Gi]at a;have a:aY ⟨D,s,n⟩ l=if(dD f).1≠0 then((dD f).1,⟨(dD f).2,s,n⟩)else(0,⟨(dD f).2,s+8+l.length,n+1⟩):=by rw[a];exact if_neg (λg=>g rfl)
  rw[aw]at a;have a:aY ⟨D,s,n⟩ l=(0,⟨B,s+8+l.length,n+1⟩):=by rw[a];exact if_neg (λg=>g rfl)
  rw[a]at j;rw[Eb,fA]at g';exact j h' x' d' g'
 obtain⟨dd,qX⟩:∃dd,dd=D.dead:=⟨_,rfl⟩;rw[<-qX]at g SD Vd;cbv;rw[av A];refine cy gl ?_;cbv;rw[av A];refine cy g ?_;cbv;cases dd with
 |true=>rw[SD rfl]at j;have:=j h (ep.refl _ _) q RM;clear j a fo V SE SD O Z Qt Ll T L Q;cbv;exact this
 |false=>
  have qX:D.dead=false:=qX.symm;have Vd:=λv=>Vd v rfl;clear SD f2 f1;cbv;rw[av A];refine cy gl ?_;cbv;refine⟨dl,?_⟩;cbv;rw[CM];intro n9 v mh e1;have E:Le h v:=zqs e1 mh
  clear e1;have az:=E _ _ gl;cbv;refine kK.go (G:=Option Addr×Nat×Nat) (λg=>[(7,.v (.slice g.1 g.2.1 g.2.2))]) (λ_=>[]) C1 ?_ ?_
  .cbv;rw[av A];refine cy az ?_;cbv;refine⟨dl,?_⟩;cbv;rw[fr];by_cases c3:s % 64=0
   .rw[if_pos c3]at O;have Bx:C1 (zsA n9,0,0) v:=by rw[Z];exact⟨E,[],bA.nil,O,io⟩
    rw[kQW (λg=>g c3)];clear fo SE V j a Z O Qt Ll T L Q;cbv;refine zqc (zsA n9,0,0) Bx
   rw[if_neg c3,if_neg (λg=>g (Vd c3))]at O;have HM:=Vd c3;clear Vd;have iK:s % 64<64:=kZy _ dl;rw[kS c3];generalize s % 64=r at *;have br:bg (A .aX .rem .i64 sz 64) r:=⟨Bl⟩;have dd:=dJ (A:=A) br;have Bx:∀b1 M h',Le h h'->bA 5 cD h h' (.slice b1 r M) ((dF D pz).take r)->C1 (b1,r,M) h':=λb1 M h' l' q'=>by
    rw[Z];exact⟨l',_,q',O,by rw[kJI];omega⟩
   clear fo SE V j a Z O Qt Ll T L Q fr;cbv;rw[av A];refine cy az ?_;cbv;refine QS (q.le E) pz (λbV=>absurd HM bV) (λ_ h2 b2 fU l2 zT cq aK q2=>?_);subst zT;have cd:=aK _ _ az;have eL:0<=A .aX .rem .i64 sz 64/\A .aX .rem .i64 sz 64<=(fU:Int):=by have:=q2.sl.bound;grind
   have tk:=q2.sl.vU (A:=A) (z:=A .nat fU) (i:=r) ip rfl;generalize dF D pz=pb at *;cbv;rw[av A];refine cy cd ?_;cbv;refine⟨dl,?_⟩;cbv;refine⟨eL,?_⟩;cbv;rw[dd];have o4:bA 5 cD h h2 (.slice (zsA n9) 0 0) []:=bA.nil;refine o4.app tk dl rfl dl ip (E.trans aK) (λm4 b4 vH U BY l5 t5 k5 q5=>?_);have BY:m4=r:=ip
   subst BY;have Bx:=Bx b4 vH U l5 (iu q5);clear k5;cbv;refine zqc (b4,m4,vH) Bx
  intro g h2 aB;rw[Z]at aB;cbv;obtain⟨xb,xm,xc⟩:=g;obtain⟨l2,S,q2,O,cn⟩:=aB;have q2:bA 5 cD h h2 (.slice xb xm xc) S:=q2;have ch:=q2.sl.len;have ct:xm<=64:=ip
  have hC:∀b1 m1 M h',Le h h'->Sl 5 cD h' (.slice b1 m1 M) (S++(cP lz++l))->C (b1,m1,M) h':=λb1 m1 M h' l' q'=>by
   rw[fo];exact⟨l',_,q',O,by rw[kXy,kXy,ck];omega⟩
  refine kK.go (G:=Option Addr×Nat×Nat) (λg=>[(7,.v (.slice g.1 g.2.1 g.2.2))]) (λ_=>[]) C ?_ ?_
  .clear fo SE V j a Z O Qt Ll T L Q;cbv;rw[ZM];refine tX q2 l2 ip lz rfl (λh3 b3 c3 l3 t3 q3=>?_);have bk:=qb.mono (l3.t _);cbv;refine q3.app bk dl rfl dl ip l3 (λm4 b4 vH U BY l5 t5 k5 q5=>?_);have hC:=hC b4 m4 vH U l5 (by rw[<-kJk];exact q5.sl);clear k5;cbv;refine zqc (b4,m4,vH) hC
  intro g h3 hc;obtain⟨X,aG,aE,hJ⟩:=SE g h3 hc;clear SE fo hc hC Z O j a Qt;cbv;obtain⟨gb,t,gc⟩:=g;have aG:X.length=t:=aG;have aE:t<=2^30+64:=aE;have hJ:J gb t gc X (t+64) (0,pz) h3:=hJ;refine ba.gz (G:=Int×Int) (λg=>[(10,.v (.zI g.1)),(6,.v (.zI g.2))]) (λ_=>[]) (λw g h'=>J gb t gc X w g h') (t+64) (0,pz) hJ ?_
  intro w' g h4 hI;rw[V]at hI;cbv;obtain⟨zi,zp⟩:=g;obtain⟨u,F,i,fv,ag,hi,PO,q4,BZ,x4,s4,o,cv,cp⟩:=hI;have fv:bg zi i:=fv;have ag:bg zp F:=ag;have nQ:=s4.len;have kE:=s4.bound;have ak:h4 H=_:=x4.t (tys:=[353]) dl _ _ _ _ dl gl;have fi:A .aQ .lss zi (A .nat t)=decide (i<t):=fv.zQ (bg.nat t);have Nn:dN u F (X.drop i)=if h:X.drop i=[]then dD u
   else if(bN u F ((X.drop i).take 64)).1≠0 then bN u F ((X.drop i).take 64)
   else dN (bN u F ((X.drop i).take 64)).2 (F+1) ((X.drop i).drop 64):=by rw[dN]
  rw[fi];by_cases c4:i<t
  .rw[kS c4];have bV:X.drop i≠[]:=λe=>by have:=congrArg List.length e;rw[kJb]at this;simp at this;omega
   rw[dif_neg bV]at Nn;have aI:bg (A .aX .add .i64 zi 64) (i+64):=fv.add (A:=A) ⟨rfl⟩ ip;obtain⟨Y,sQ⟩:∃Y,Y=min (i+64) t:=⟨_,rfl⟩;have HK:A .mT (A .aX .add .i64 zi 64) (A .nat t)=A .nat Y:=by rw[K.mT,aI.eq,K.nat,sQ];show min ((i+64:Nat):Int) (t:Int)=((min (i+64) t:Nat):Int);omega
   have CP:bg (A .nat Y) Y:=bg.nat Y;have mV:0<=A .nat Y/\A .nat Y<=(gc:Int)/\0<=zi/\zi<=A .nat Y:=by have:=CP.eq;have:=fv.eq;omega
   obtain⟨n1,fG⟩:∃x,x=Y-i:=⟨_,rfl⟩;obtain⟨me,aA⟩:∃x,x=gc-i:=⟨_,rfl⟩;have Vz:A .nR (A .nat Y) zi=n1:=by rw[KI (A:=A) CP fv,fG]
   have Ln:A .nR (A .nat gc) zi=me:=by rw[cS (A:=A) fv,aA]
   have tk:=s4.cQx (A:=A) fv (m:=n1) ip aA;have bY:(X.drop i).take n1=(X.drop i).take 64:=by
    by_cases hh:i+64<=t
    .rw[show n1=64 by omega]
    rw[kXe (by rw[kJb];omega),kXe (by rw[kJb];omega)]
   rw[bY]at tk;have vB:=Ce u F ((X.drop i).take 64);have UU:=od BZ F ((X.drop i).take 64);have ez:bN u zp ((X.drop i).take 64)=bN u F ((X.drop i).take 64):=by rw[ag.eq]
   have cm:∀h',(bN u F ((X.drop i).take 64)).1=0->ep Pn h h'->nU h0 h' p (bN u F ((X.drop i).take 64)).2->Sl 5 cD h' (.slice gb t gc) X->
    J gb t gc X (t-i) (A .aX .add .i64 zi 64,A .aX .add .i64 zp 1) h':=λh' h0 x' d' s'=>by
    rw[V];rw[if_neg (λg=>g h0)]at Nn;refine⟨_,F+1,i+64,aI,ag.succ (A:=A),ip,ip,d',UU,x',s',by rw[o,Nn,kJO],?_,?_⟩
    .omega
    omega
   have aZ:t-i<w':=ip
   have ca:u.ws.length<=2^38:=ip
   clear V hJ;cbv;rw[av A];refine cy ak ?_;cbv;rw[HK];refine⟨mV,?_⟩;cbv;rw[Vz,Ln];repeat (first|(refine cy ak ?_;cbv) |rw[av A])
   refine Tm q4 BZ zp tk ca (λU x5 d5=>?_);rw[ez]at d5 |-;clear ez;have cm:=cm U;have s5:=s4.mono (x5.t dl);have hx:=x4.trans x5;rw[Nn]at o;clear Nn vB;generalize Gi:bN u F ((X.drop i).take 64)=R at *;obtain⟨e,B⟩:=R;have N:A .aQ .neq e 0=decide (e≠0):=aJ A ..;by_cases I:e≠0
   .have o:cO D s (cP lz++l)=(e,B):=by rw[o];exact if_pos I
    have:=Ll U e B o I hx d5;rw[kS I]at N;clear Ll T L Q cm;cbv;rw[N];cbv;exact this
   have iL:=cm (by show e=0;omega) hx d5 s5;rw[kQW I]at N;clear Ll T L Q cm;cbv;rw[N];cbv;refine zqn (t-i) (A .aX .add .i64 zi 64,A .aX .add .i64 zp 1) aZ iL
  rw[kQW c4];have fO:X.drop i=[]:=kXc ip;rw[dif_pos fO]at Nn;rw[Nn]at o;have ao:(dD u).2.ws.length<=2^38:=by have e0:=o;rw[<-e0];omega
  have UU:=vW BZ;clear V hJ Nn;cbv;rw[av A];refine cy ak ?_;cbv;refine aXz q4 BZ (λU x5 d5=>?_);have hx:=x4.trans x5;have ax:U H=_:=x5.t (tys:=[353]) dl _ _ _ _ dl ak;generalize dD u=R at *;obtain⟨e,D1⟩:=R;have d5:nU h0 U p D1:=d5;have UU:LB D1:=UU;have ao:D1.ws.length<=2^38:=ao;have N:A .aQ .eql e 0=decide (e=0):=au A ..;have W:A .aQ .neq e 0=decide (e≠0):=aJ A ..;by_cases I:e≠0
  .have:=Ll U e D1 o I hx d5;rw[kS I]at W;rw[kQW I]at N;clear Ll T L Q;cbv;rw[N];cbv;rw[N];cbv;rw[W];cbv;exact this
  have yI:e=0:=ip
  subst yI;have aM:A .aQ .eql 0 0=true:=by rw[au A];rfl
  clear N W Ll;cbv;rw[aM];cbv;repeat (first|rw[av A] | (refine cy ax ?_;cbv)|(refine zqr ?_;cbv))
  rw[ab];refine tX (h0:=U) bA.nil (Le.refl _) ip s2 rfl (λh6 b6 c6 l6 t6 q6=>?_);have cb:=l6 _ _ ax;cbv;repeat (first|rw[av A] | (refine cy cb ?_;cbv)|(refine zqr ?_;cbv))
  rw[al];refine tX q6 l6 ip y rfl (λh7 b7 c7 l7 t7 q7=>?_);have aO:=l7 _ _ ax;cbv;repeat (first|rw[av A] | (refine cy aO ?_;cbv)|(refine zqr ?_;cbv))
  have q7:bA 5 cD U h7 (.slice b7 16 c7) (cP s2++cP y):=iu q7
  refine Tm (d5.le l7) UU 0 q7.sl ao (λh8 x8 d8=>?_);have aq:=od UU 0 (cP s2++cP y);have bc:=hx.trans ((l7.x _).trans x8);have aN:h8 H=_:=x8.t (tys:=[353]) dl _ _ _ _ dl aO;have T:=T h8 D1;generalize Gi:bN D1 0 (cP s2++cP y)=R at *;obtain⟨e,f⟩:=R;have d8:nU h0 h8 p f:=d8;have aq:LB f:=aq;have N:A .aQ .eql e 0=decide (e=0):=au A ..;have W:A .aQ .neq e 0=decide (e≠0):=aJ A ..;by_cases I:e≠0
  .have:=T e f o rfl I bc d8;rw[kS I]at W;rw[kQW I]at N;clear T L Q;cbv;rw[N];cbv;rw[W];cbv;exact this
  have yI:e=0:=ip
  subst yI;clear N W T;cbv;rw[aM];cbv;rw[av A];refine cy aN ?_;cbv;refine aXz d8 aq (λh9 x9 d9=>?_);have aW:=bc.trans x9;have an:h9 H=_:=x9.t (tys:=[353]) dl _ _ _ _ dl aN;have L:=L h9 D1 f;have Q:=λh'=>Q h' D1 f;generalize dD f=R at *;obtain⟨e,B⟩:=R;have d9:nU h0 h9 p B:=d9;have W:A .aQ .neq e 0=decide (e≠0):=aJ A ..;by_cases I:e≠0
  .have:=L e B o Gi rfl I aW d9;rw[kS I]at W;clear L Q;cbv;rw[W];cbv;exact this
  have yI:e=0:=ip
  subst yI;clear W L;cbv;rw[mW];cbv;rw[av A];refine cy an ?_;cbv;rw[ab,av A];refine jE an (by show 2<=3;decide) (λiE rE=>?_);have Vo:=zqt rE;have bj:ep aJs h9 iE:=by rw[rE];exact gU an dl
  have aD:nU h0 iE p B:=d9.lt (by rw[rE];exact cX.set an dl) (d9.base.bf (bs:=[H]) (iu ql.new) (by rw[rE];exact Kp.set io));have Vo:iE H=zcL 353 [.zP p,.zI s2,.zI nz]:=Vo;clear rE;cbv;rw[av A];refine cy Vo ?_;cbv;rw[al,av A];refine jE Vo (by show 3<=3;decide) (λoV Hw=>?_);have ar:=zqt Hw;have bx:ep aJs iE oV:=by rw[Hw];exact gU Vo dl
  have bo:nU h0 oV p B:=aD.lt (by rw[Hw];exact cX.set Vo dl) (aD.base.bf (bs:=[H]) (iu ql.new) (by rw[Hw];exact Kp.set io));have ar:oV H=zcL 353 [.zP p,.zI s2,.zI y]:=ar;clear Hw;have:=Q oV B o Gi rfl (((aW.sup dl).trans bj).trans bx) bo ⟨ar,ql.new⟩;clear Q;cbv;exact this
def XX(D:Dk):List Bs×Bool:=
 if D.dead then([],false)
 else if(Ba D (vO (dF D 0)) (vO ((dF D 0).drop 8))).bad then((eN ((dL D).take (vO (dF D 0)).toNat) (dL D).length).1,false)
 else((Ba D (vO (dF D 0)) (vO ((dF D 0).drop 8))).fj,true)
theorem Yl:∀(f:Nat) (b:Bs),8*(fy f b).1.length<=b.length:=λf=>by
 induction f with
 |zero=>intro b;exact kXH _
 |succ f i=>
  intro b;unfold fy;split
  .exact kXH _
  split
  .exact kXH _
  split
  .exact kXH _
  have:=i (b.drop (8+(eK b).toNat));rw[kJb]at this;simp only[kZs];omega
theorem SZ:∀(f:Nat) (b:Bs) (m:Nat),b.length<=f->(fy f b).1.length<=m->fy f b=((eN b m).1,decide ((eN b m).2=[])):=λf=>by
 induction f with
 |zero=>intro b m g h;have:b=[]:=kZh ip;subst this;cases m<;>rfl
 |succ f i=>
  intro b m g h;by_cases h0:b.length=0
  .have:b=[]:=kZh h0;subst this;cases m<;>rfl
  have V:b≠[]:=λe=>h0 (by rw[e];rfl);have hR:fy (f+1) b=if b.length<8 then([],false)else if eK b<0\/eK b>(b.length:Int)-8 then([],false)else
   ((b.drop 8).take (eK b).toNat::(fy f (b.drop (8+(eK b).toNat))).1,(fy f (b.drop (8+(eK b).toNat))).2):=by
   conv=>lhs;unfold fy
   rw[if_neg h0]
  have K:decide (b=[])=false:=kQW V;by_cases a:b.length<8
  .rw[hR,if_pos a];cases m with
   |zero=>show _=([],decide (b=[]));rw[K]
   |succ m=>
    have:eN b (m+1)=([],b):=by show(if 8<=b.length then _ else _)=_;rw[if_neg ip]
    rw[this];show _=([],decide (b=[]));rw[K]
  rw[if_neg a]at hR;by_cases c:eK b<0\/eK b>(b.length:Int)-8
  .rw[hR,if_pos c];cases m with
   |zero=>show _=([],decide (b=[]));rw[K]
   |succ m=>
    have:eN b (m+1)=([],b):=by show(if 8<=b.length then if _ then _ else _ else _)=_;rw[if_pos ip,if_neg ip]
    rw[this];show _=([],decide (b=[]));rw[K]
  rw[if_neg c]at hR;rw[hR]at h |-;simp only[kZs]at h;cases m with
  |zero=>omega
  |succ m=>
   have d:eN b (m+1)=((b.drop 8).take (eK b).toNat::(eN (b.drop (8+(eK b).toNat)) m).1,(eN (b.drop (8+(eK b).toNat)) m).2):=by show(if 8<=b.length then if _ then _ else _ else _)=_;rw[if_pos ip,if_pos ip]
   rw[d,i (b.drop (8+(eK b).toNat)) m (by rw[kJb];omega) ip]
theorem bQD:∀(f:Nat) (b:Bs) (m:Nat),b.length<=f->(eN b m).2=[]->fy f b=((eN b m).1,true):=λf=>by
 induction f with
 |zero=>intro b m d h;have:b=[]:=kZh ip;subst this;cases m<;>rfl
 |succ f i=>
  intro b m d h;by_cases h0:b.length=0
  .have:b=[]:=kZh h0;subst this;cases m<;>rfl
  have V:b≠[]:=λe=>h0 (by rw[e];rfl);cases m with
  |zero=>exact absurd h V
  |succ m=>
   have C:eN b (m+1)=if 8<=b.length then if 0<=eK b/\eK b<=(b.length-8:Nat)then((b.drop 8).take (eK b).toNat::(eN (b.drop (8+(eK b).toNat)) m).1,(eN (b.drop (8+(eK b).toNat)) m).2)else([],b)else([],b):=rfl
   by_cases a:8<=b.length
   .rw[if_pos a]at C;by_cases c:0<=eK b/\eK b<=(b.length-8:Nat)
    .rw[if_pos c]at C;rw[C]at h |-;have:=i (b.drop (8+(eK b).toNat)) m (by rw[kJb];omega) h;conv=>lhs;unfold fy
     rw[if_neg h0,if_neg ip,if_neg ip];show(_::(fy f _).1,(fy f _).2)=_;rw[this]
    rw[if_neg c]at C;rw[C]at h;exact absurd h V
   rw[if_neg a]at C;rw[C]at h;exact absurd h V
theorem aJj(p:(dL D).length=jT D):XX D=Iu D:=by
 unfold XX Iu;split
 .rfl
 generalize vO (dF D 0)=n;generalize vO ((dF D 0).drop 8)=c;have S:RE D n c=((fy ((dL D).take (max (min n (jT D)) 0).toNat).length ((dL D).take (max (min n (jT D)) 0).toNat)).1,(fy ((dL D).take (max (min n (jT D)) 0).toNat).length ((dL D).take (max (min n (jT D)) 0).toNat)).2&&(decide (n>=0)&&(decide (n<=(jT D:Nat))&&decide (c=((fy ((dL D).take (max (min n (jT D)) 0).toNat).length ((dL D).take (max (min n (jT D)) 0).toNat)).1.length:Nat))))):=rfl;have L:Ba D n c=if n<0\/c<0\/n>(dL D).length then⟨n,c,[],true⟩
  else⟨n,c,(eN ((dL D).take n.toNat) c.toNat).1,!decide ((eN ((dL D).take n.toNat) c.toNat).2=[])||decide (((eN ((dL D).take n.toNat) c.toNat).1.length:Int)≠c)⟩:=rfl
 rw[<-p]at S;generalize dL D=r at *;have t:r.take (max (min n (r.length:Int)) 0).toNat=r.take n.toNat:=by
  by_cases h:n<=r.length
  .congr 1;omega
  rw[kXe ip,kXe ip]
 rw[t]at S;obtain⟨b,k⟩:∃b,b=r.take n.toNat:=⟨_,rfl⟩;have E:b.length<=r.length:=by rw[k,kJI];omega
 rw[<-k]at S L |-;have R:=SZ b.length b r.length (qA _) (by have:=Yl b.length b;omega);rw[L,S];by_cases j:n<0\/c<0\/n>(r.length:Int)
 .rw[if_pos j];show((eN b r.length).1,false)=_;have o:(decide (n>=0)&&(decide (n<=(r.length:Nat))&&decide (c=((fy b.length b).1.length:Nat))))=false:=by
   rcases j with h|h|h
   .rw[kQW (show ¬n>=0 by omega)];rfl
   .rw[kQW (show ¬c=((fy b.length b).1.length:Nat)by omega)];simp
   rw[kQW (show ¬n<=(r.length:Nat)by omega)];simp
  rw[o,Bool.and_false,R]
 rw[if_neg j];have m:decide (n>=0)=true:=kS ip;have Q:decide (n<=(r.length:Nat))=true:=kS ip;rw[m,Q,kQN,kQN];by_cases g:(eN b c.toNat).2=[]
 .have d:=bQD b.length b c.toNat (qA _) g;have e1:decide ((eN b c.toNat).2=[])=true:=kS g;by_cases f:((eN b c.toNat).1.length:Int)≠c
  .have a:(!decide ((eN b c.toNat).2=[])||decide (((eN b c.toNat).1.length:Int)≠c))=true:=by rw[kS f];simp
   rw[a];show((eN b r.length).1,false)=_;have l:decide (c=((fy b.length b).1.length:Nat))=false:=kQW (by rw[d];exact λe=>f e.symm);rw[l,Bool.and_false,R]
  have a:(!decide ((eN b c.toNat).2=[])||decide (((eN b c.toNat).1.length:Int)≠c))=false:=by rw[e1,kQW f];rfl
  rw[a];show((eN b c.toNat).1,true)=_;rw[d];show _=(_,true&&decide (c=((eN b c.toNat).1.length:Int)));rw[kS (show c=((eN b c.toNat).1.length:Int)by omega)];rfl
 have a:(!decide ((eN b c.toNat).2=[])||decide (((eN b c.toNat).1.length:Int)≠c))=true:=by rw[kQW g];rfl
 rw[a];show((eN b r.length).1,false)=_;rw[R];show _=(_,decide ((eN b r.length).2=[])&&decide (c=((eN b r.length).1.length:Int)));by_cases f:c=((eN b r.length).1.length:Int)
 .have:=SZ b.length b c.toNat (qA _) (by rw[R];show(eN b r.length).1.length<=c.toNat;omega);rw[R]at this;have i:=congrArg Prod.snd this;have i:decide ((eN b r.length).2=[])=decide ((eN b c.toNat).2=[]):=i;rw[i,kQW g];rfl
 rw[kQW f,Bool.and_false]
end Go.S
