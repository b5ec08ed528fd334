import Derived.Test.YthnbpiejemlbeaaGreatBH
set_option linter.all false
set_option maxRecDepth 100000
set_option maxHeartbeats 4000000
namespace Go.S
open Go.Sx Go.Proofs
variable {D:Dk}{c i m p:Nat}{b:Option Addr}{k:Value->ab->Prop}{h h0:ab}
theorem We(q:mi h0 h p D)(hl:0<=D.left/\D.left<2^63)(b:∀h',dI Kj h h'->mi h0 h' p (cJ D).2->k (.int .i64 (cJ D).1) h'):
 Ct 190 [.pointer (some ⟨p,0,none⟩)] h k:=by
 have S:cJ D=if D.dead then(15,D)else if(dJ D).1 then(15,(dJ D).2)else(0,{ (dJ D).2 with kept:=(dJ D).2.now,ws:=[] }):=rfl
 obtain⟨_,_,_,_,_,_,_,g,-⟩:=q.out;generalize nW:D.dead=O at *;refine an dZN Tryz.func190 λA hA=>?_;cbv;rw[al A];refine ak g ?_;cases O with
 |true=>have S:cJ D=(15,D):=S;rw[S]at b;have:=b h (dI.refl _ _) q;clear b;cbv;exact this
 |false=>
  have S:cJ D=if(dJ D).1 then(15,(dJ D).2)else(0,{ (dJ D).2 with kept:=(dJ D).2.now,ws:=[] }):=S
  cbv;refine cQA q nW hl (λf I m=>?_);generalize dJ D=R at *;obtain⟨t,D1⟩:=R;have m:mi h0 f p D1:=m;cases t with
  |true=>have S:cJ D=(15,D1):=S;rw[S]at b;have:=b f I m;clear b;cbv;exact this
  |false=>
   have S:cJ D=(0,{ D1 with kept:=D1.now,ws:=[] }):=S;rw[S]at b;obtain⟨kb,kc,r,s,wb,H,wc,v,o1,o2,e1,e2,w,Q,T,K,z2,z3,F⟩:=m.out;have mC:=o2.sl (n:=D1.now.length) rfl;have fin:∀i x j a c,Le f i->f a=none->cA 210 nf i a c D1.now->x=bu i p (.cells (List.toArray [.slice (some ⟨r,0,none⟩) D1.now.length s,.slice (some ⟨a,0,none⟩) D1.now.length c,.slice wb H wc,.int .i64 D1.left,.bool D1.dead]) 231 (0,0))->
    j=bu x p (.cells (List.toArray [.slice (some ⟨r,0,none⟩) D1.now.length s,.slice (some ⟨a,0,none⟩) D1.now.length c,.slice none 0 0,.int .i64 D1.left,.bool D1.dead]) 231 (0,0))->k (.int .i64 0) j:=λi x j a c o z o3 M d=>by
    have C:=o _ _ v;rw[M,dD]at d;have lt:∀tys,231∉tys->bV tys i j:=λtys hn=>by rw[d];exact bV.set C hn
    refine b j (I.trans ((o.x _).trans (by rw[d];exact fE C (by decide)))) ⟨a,c,r,s,none,0,0,(congrFun d p).trans ae,o3.mono (lt _ (by decide)),(o2.mono (o.t _)).mono (lt _ (by decide)),rfl,λe=>by rw[e]at z;exact o2.has z,aU.nil,Q,T,K,F.none z,z3,?_⟩;exact(F.trans o).aE (bs:=[p]) (by simpa using K) (by rw[d];exact Kp.set (by simp))
   clear b S w o1 q m;generalize Z:D1.left=lf at *;generalize Pm:D1.dead=d1 at *;generalize qJ:D1.now=N at *;generalize Ui:N.length=nl at *;cbv;intro n5 W L J;have l:Le f W:=by rw[J];exact Le.set L
   clear J;cbv;rw[al A];refine ak (l _ _ v) ?_;cbv;refine mG (mC.mono (l.t _)) rfl (by decide) (λe0=>by omega) (λy cap X P kY G o6=>?_);have U:=G _ _ (l _ _ v);have fin:=fin X;cbv;rw[al A];refine jr U (by show 2<=5;decide) (λE u=>?_);have V:E p=some (.cells (List.toArray [.slice (some ⟨r,0,none⟩) nl s,.slice (some ⟨y,0,none⟩) nl cap,.slice wb H wc,.int .i64 lf,.bool d1]) 231 (0,0)):=(congrFun u p).trans ae;cbv;rw[al A];refine jr V (by show 3<=5;decide) (λY B=>?_);have:=fin E Y y cap (l.trans G) (l.none P) o6 u B;clear fin u B;cbv;exact this
def aXj(n:Int)(g:Nat->Int):List Value:=[.int .i64 n,.int .u8 (g 0),.int .u8 (g 1),.int .u8 (g 2),.int .u8 (g 3),.int .u8 (g 4),.int .u8 (g 5),.int .u8 (g 6),.int .u8 (g 7),.int .u8 (g 8),.int .u8 (g 9),.int .u8 (g 10),.int .u8 (g 11),.int .u8 (g 12),.int .u8 (g 13),.int .u8 (g 14),.int .u8 (g 15),.int .u8 (g 16),.int .u8 (g 17),.int .u8 (g 18),.int .u8 (g 19),.int .u8 (g 20),.int .u8 (g 21),.int .u8 (g 22),.int .u8 (g 23),.int .u8 (g 24),.int .u8 (g 25),.int .u8 (g 26),.int .u8 (g 27),.int .u8 (g 28),.int .u8 (g 29),.int .u8 (g 30),.int .u8 (g 31),.int .u8 (g 32),.int .u8 (g 33),.int .u8 (g 34),.int .u8 (g 35),.int .u8 (g 36),.int .u8 (g 37),.int .u8 (g 38),.int .u8 (g 39),.int .u8 (g 40),.int .u8 (g 41),.int .u8 (g 42),.int .u8 (g 43),.int .u8 (g 44),.int .u8 (g 45),.int .u8 (g 46),.int .u8 (g 47),.int .u8 (g 48),.int .u8 (g 49),.int .u8 (g 50),.int .u8 (g 51),.int .u8 (g 52),.int .u8 (g 53),.int .u8 (g 54),.int .u8 (g 55),.int .u8 (g 56),.int .u8 (g 57),.int .u8 (g 58),.int .u8 (g 59),.int .u8 (g 60),.int .u8 (g 61),.int .u8 (g 62),.int .u8 (g 63)]
theorem EZ(n:Int)(g:Nat->Int):aXj n g=.int .i64 n::Mz g:=rfl
theorem yF(g:Nat->Int):Mz g=(List.range 64).map λi=>Value.int .u8 (g i):=rfl
theorem Ye(g:Nat->Int)(x:Int)(h:i<64):(Mz g).set i (.int .u8 x)=Mz (λj=>if j=i then x else g j):=by
 rw[yF,yF];apply List.ext_getElem?;intro j;rw[List.getElem?_set,List.getElem?_map,List.getElem?_map];by_cases a:j<64
 .rw[List.getElem?_range a];by_cases e:i=j
  .rw[if_pos e,if_pos (by simpa using h)];subst e;simp
  rw[if_neg e];simp[Ne.symm e]
 rw[List.getElem?_eq_none (by simp;omega),if_neg (by omega)];rfl
theorem Xm(n:Int)(g:Nat->Int)(x:Int)(h:i<64):(aXj n g).set (1+i) (.int .u8 x)=aXj n (λj=>if j=i then x else g j):=by rw[EZ,EZ,<-Ye g x h,Nat.add_comm,List.set_cons_succ]
theorem Yf{g:Nat->Int}{l:Bs}(hl:l.length<=64)(h:∀j x,l[j]? =some x->g j=(x.toNat:Int))(a:∀j,l.length<=j->g j=0):Mz g=aI (dC l):=by
 rw[yF];unfold aI;apply List.ext_getElem?;intro i;rw[List.getElem?_map,List.getElem?_map];have Q:=py hl;by_cases c:i<64
 .rw[List.getElem?_range c];unfold dC;by_cases b:i<l.length
  .rw[List.getElem?_append_left b];obtain⟨x,hx⟩:=ax (xs:=l) (i:=i) b;rw[hx,Option.map_some,Option.map_some,h i x hx]
  rw[List.getElem?_append_right (by omega),List.getElem?_replicate,if_pos (by omega),Option.map_some,Option.map_some,a i (by omega)];rfl
 rw[List.getElem?_eq_none (by simp;omega),List.getElem?_eq_none (by omega)];rfl
theorem Ny(q:mi h0 h p D)(hl:0<=D.left/\D.left<2^63)(n:Int){l:Bs}(qb:Sl 5 bL h (.slice b m c) l)(hw:D.ws.length<=2^38)
 (a:∀h',dI Kj h h'->mi h0 h' p (bg D n l).2->k (.int .i64 (bg D n l).1) h'):
 Ct 189 [.pointer (some ⟨p,0,none⟩),.int .i64 n,.slice b m c] h k:=by
 obtain⟨A,hA⟩:=Ar.ex;have ar:=qb.len;obtain⟨kb,kc,nb,nc,wb,wn,wc,g,o1,o2,e1,e2,w,T,e5,z1,z2,z3,l0⟩:=q.out;have C:dV D n l.length=if D.dead then 15 else if n<0\/n>=D.now.length\/(l.length:Int)>64 then 1 else 0:=rfl
 have W:bg D n l=if dV D n l.length≠0 then(dV D n l.length,D)else(if(dJ { D with now:=D.now.set n.toNat (dC l),ws:=D.ws++[(n,dC l)] }).1 then 15 else 0,(dJ { D with now:=D.now.set n.toNat (dC l),ws:=D.ws++[(n,dC l)] }).2):=rfl
 have f1:A .ay .lss n 0=decide (n<0):=aD A ..;obtain⟨u,Ui⟩:∃u,u=D.now.length:=⟨_,rfl⟩;have f2:A .ay .geq n (A .nat u)=decide (n>=(u:Int)):=by rw[bX A,hA.nat];rfl
 have f3:A .ay .gtr (A .nat m) 64=decide ((l.length:Int)>64):=by rw[aX A,hA.nat,ar];rfl
 rw[<-Ui]at g C;generalize nW:D.dead=dd at *;refine bB dZO A Tryz.func189 ?_;cbv;rw[al A];refine ak g ?_;cbv;cases dd with
 |true=>have C:dV D n l.length=15:=C;rw[C,if_pos (by decide)]at W;rw[W]at a;have:=a h (dI.refl _ _) q;clear a;cbv;exact this
 |false=>
  have C:dV D n l.length=if n<0\/n>=(u:Int)\/(l.length:Int)>64 then 1 else 0:=C
  cbv;rw[f1];by_cases H:n<0
  .rw[if_pos (.inl H)]at C;rw[C,if_pos (by decide)]at W;rw[W]at a;have:=a h (dI.refl _ _) q;rw[decide_eq_true H];clear a;cbv;exact this
  rw[decide_eq_false H];cbv;rw[al A];refine ak g ?_;cbv;rw[f2];by_cases I:n>=(u:Int)
  .rw[if_pos (.inr (.inl I))]at C;rw[C,if_pos (by decide)]at W;rw[W]at a;have:=a h (dI.refl _ _) q;rw[decide_eq_true I];clear a;cbv;exact this
  rw[decide_eq_false I];cbv;rw[f3];by_cases S:(l.length:Int)>64
  .rw[if_pos (.inr (.inr S))]at C;rw[C,if_pos (by decide)]at W;rw[W]at a;have:=a h (dI.refl _ _) q;rw[decide_eq_true S];clear a;cbv;exact this
  rw[if_neg (λhh=>by rcases hh with h|h|h;exact H h;exact I h;exact S h)]at C;rw[C,if_neg (by decide)]at W;rw[W]at a;have Xb:(⟨D.left,false,D.kept,D.now.set n.toNat (dC l),D.ws++[(n,dC l)]⟩:Dk)={ D with now:=D.now.set n.toNat (dC l),ws:=D.ws++[(n,dC l)] }:=by rw[<-nW]
  rw[Xb]at a;clear Xb;rw[decide_eq_false S];have I:¬n>=(u:Int):=I;have H:¬n<0:=H;have qJ:n.toNat<D.now.length:=by rw[<-Ui];omega
  have Q:l.length<=64:=by omega
  have P:aK n n.toNat:=⟨by omega⟩;have bd:=P.ix (len:=u) (by omega);clear W C f1 f2 f3 S;cbv;intro r h1 O e7;have l1:Le h h1:=by rw[e7];exact Le.set O
  have f:h1 r=some (.cells (List.toArray (aXj 0 λ_=>0)) 326 (0,0)):=(congrFun e7 r).trans ae;have z7:=l0.none O;clear e7;cbv;refine jr f (Nat.le_refl _) (λh2 e8=>?_);have k2:Kp [r] h1 h2:=by rw[e8];exact Kp.set (by simp)
  have f:h2 r=some (.cells (List.toArray (aXj n λ_=>0)) 326 (0,0)):=by rw[e8,ae];exact congrArg (λc=>some (Obj.cells (List.toArray c) 326 (0,0))) (by kernel_rfl)
  have l2:Le h h2:=l1.aE (bs:=[r]) (by simpa using O) k2;obtain⟨J,Z⟩:∃J:Nat->Int->ab->Prop,∀w z h',J w z h'=(∃i d,aK z i/\w=m-i/\i<=m/\Le h h'/\h' r=some (.cells (List.toArray (aXj n d)) 326 (0,0))/\(∀j x,j<i->l[j]? =some x->d j=(x.toNat:Int))/\(∀j,i<=j->d j=0)):=⟨_,λ_ _ _=>rfl⟩;have df:J m 0 h2:=by rw[Z];exact⟨0,_,⟨rfl⟩,rfl,by omega,l2,f,λj x hj=>by omega,λ_ _=>rfl⟩
  clear e8 k2 f l2 l1;cbv;refine aG.go (G:=Int) (λz=>[(8,.v (.int .i64 z))]) (λ_=>[]) (λw z h'=>J w z h') m 0 (by constructor<;>cbv) df ?_
  intro w' z h3 hI;rw[Z]at hI;cbv;obtain⟨i,d,M,KA,hi,y,f,Pk,Xa⟩:=hI;have f6:A .ay .lss z (A .nat m)=decide (i<m):=by rw[aD A,M.eq,hA.nat];exact decide_eq_decide.2 (by show(i:Int)<(m:Int)↔_;omega)
  rw[f6];by_cases hc:i<m
  .rw[decide_eq_true hc];obtain⟨v,hv⟩:=bn l i;have ib:=M.ix hc;have bj:=M.ix (len:=64) (by omega);have iU:b.isSome=true:=qb.aQ;have aF:m-(i+1)<w':=by omega
   obtain⟨F,aj⟩:∃F:Int,F=(v.toNat:Int):=⟨_,rfl⟩;have bI:∀h',Le h h'->h' r=some (.cells (List.toArray ((aXj n d).set (1+i) (.int .u8 F))) 326 (0,0))->J (m-(i+1)) (A .aC .add .i64 z 1) h':=λh' l' g'=>by
    rw[Z];rw[Xm n d F (by omega)]at g';refine⟨i+1,_,M.succ (A:=A),rfl,hc,l',g',λj x hj hx=>?_,λj hj=>?_⟩
    .show(if j=i then F else d j)=_;by_cases e:j=i
     .subst e;rw[hv]at hx;cases hx;rw[if_pos rfl,aj]
     rw[if_neg e];exact Pk j x (by omega) hx
    show(if j=i then F else d j)=_;rw[if_neg (by omega)];exact Xa j (by omega)
   clear Z df f6 a Pk Xa;cbv;refine⟨⟨iU,ib⟩,?_⟩;cbv;refine(qb.mono (y.t _)).load hv M.eq (λcs ao=>?_);have ao:cs=[.int .u8 F]:=by rw[aj];exact ao
   subst ao;cbv;rw[al A];refine⟨bj,?_⟩;cbv;refine aJs M f (by show 0+1+i<65;omega) (λh4 T=>?_);have gU:=bI h4 (y.aE (bs:=[r]) (by simpa using O) (by rw[T];exact Kp.set (by simp))) (by rw[T,ae]);clear bI T;cbv;refine⟨_,A .aC .add .i64 z 1,aF,by constructor<;>cbv,gU⟩
  rw[decide_eq_false hc];have yU:Mz d=aI (dC l):=Yf Q (λj x hx=>Pk j x (by have:=(List.getElem?_eq_some_iff.1 hx).1;omega) hx) (λj hj=>Xa j (by omega));have UO:=py Q;have g3:=y _ _ g;have aH:=o1.mono (y.t _);have aN:=o2.mono (y.t _);have w3:=w.mono (y.t _);have rj:=w.sl.len;clear Z df f6 Pk Xa;cbv;rw[al A];refine ak g3 ?_;cbv;refine ak f ?_;cbv;intro n9 h4 vq e9;have E:Le h3 h4:=by rw[e9];exact Le.set vq
  have q9:Sl 326 Oo h4 (.slice (some ⟨n9,0,none⟩) 1 1) [(n,dC l)]:=aR (s:=Oo) (cs:=aXj n d) ((congrFun e9 n9).trans ae) ⟨by rw[EZ,yU],UO⟩;have g4:=E _ _ g3;have br:=E _ _ f;have bc:wc=0\/wb≠some ⟨r,0,none⟩:=by
   rcases w.out with⟨b',y1,y2⟩|⟨bx,fO,y1,y2,y3⟩
   .left;cases y1;rfl
   right;cases y1;intro hh;cases hh;exact y3.has O
  clear e9;cbv;try rw[al A]
  refine ak g4 ?_;cbv;refine⟨⟨_,rfl,rfl⟩,?_⟩;cbv;refine(w3.mono (E.t _)).app q9 (by decide) rfl (by decide) (by omega) ((l0.trans y).trans E) (λm5 b5 c5 h5 JG l5 t5 k5 q5=>?_);have g5:=k5 _ _ g4 (.inr (.inr (λc fr e=>by cases e)));have bp:=k5 _ _ br (bc.elim .inl (λhh=>.inr (.inl hh)));have ag:dI Kj h4 h5:=λbb o hb bF=>k5 bb o hb (.inr (.inr (λc fr e=>bF _ _ _ e (by decide))));have X:=(aH.mono (E.t _)).mono (t5 _ (by decide));have Y:=(aN.mono (E.t _)).mono (t5 _ (by decide));clear k5;cbv;rw[al A];refine jr g5 (by show 3<=5;decide) (λL U=>?_);have k6:Kp [p] h5 L:=by rw[U];exact Kp.set (by simp)
  have K:∀tys,231∉tys->bV tys h5 L:=λtys hn=>by rw[U];exact bV.set g5 hn
  have g6:L p=some (.cells (List.toArray [.slice (some ⟨nb,0,none⟩) u nc,.slice (some ⟨kb,0,none⟩) u kc,.slice b5 m5 c5,.int .i64 D.left,.bool false]) 231 (0,0)):=(congrFun U p).trans ae;have bk:r≠p:=λe=>by rw[e,y _ _ g]at f;cases f
  have bl:=k6 _ _ bp (by simpa using bk);have x6:dI Kj h L:=((y.trans E).x _).trans (ag.trans (by rw[U];exact fE g5 (by decide)));have Qs:=l5.aE (bs:=[p]) (by simpa using z1) k6;have aW:=X.mono (K _ (by decide));have V:=Y.mono (K _ (by decide));have w6:=q5.mono (K _ (by decide));have fin:∀B,Kp [nb] L B->(∀tys,210∉tys->bV tys L B)->cA 210 nf B nb nc (D.now.set n.toNat (dC l))->mi h0 B p { D with now:=D.now.set n.toNat (dC l),ws:=D.ws++[(n,dC l)] }/\dI Kj h B:=λB N t7 o7=>by
   obtain⟨cn,au,-⟩:=V.out;refine⟨⟨kb,kc,nb,nc,b5,m5,c5,?_,?_,o7,?_,e2,w6.mono (t7 _ (by decide)),?_,?_,z1,z2,z3,Qs.aE (bs:=[nb]) (by simpa using z3) N⟩,x6.trans (N.x (ex:=Kj) (λbb hb o vQ=>?_))⟩
   .have:=t7 [231] (by decide) _ _ _ _ (by simp) g6;rw[this,Ui,nW];simp only[List.length_set]
   .exact aW.kp N (by simpa using e2) (λ_ _ _ _ hm _=>by cases hm)
   .simp only[List.length_set];exact e1
   .simp only[List.length_set];exact T
   .simp only[List.length_set];exact e5
   simp at hb;subst hb;rw[au]at vQ;cases vQ;exact⟨_,_,_,rfl,by decide⟩
  clear U k6 K ag x6 Qs X Y q5;cbv;rw[al A];refine ak g6 ?_;cbv;rw[al A];refine ak bl ?_;cbv;refine⟨⟨rfl,bd⟩,?_⟩;cbv;refine V.setAt (s:=nf) (by simp[nf]) (i:=n.toNat) qJ P.eq rfl (cs:=Mz d) (x:=dC l) ⟨yU,UO⟩ (λB N t7 o7=>?_);obtain⟨r7,x7⟩:=fin B N t7 o7;clear fin N t7 o7;cbv;refine cQA r7 nW hl (λh8 x8 r8=>?_);have a:k (.int .i64 (if(dJ { D with now:=D.now.set n.toNat (dC l),ws:=D.ws++[(n,dC l)] }).1 then 15 else 0)) h8:=a h8 (x7.trans x8) r8;generalize dJ { D with now:=D.now.set n.toNat (dC l),ws:=D.ws++[(n,dC l)] }=R at *;obtain⟨t,D9⟩:=R;cases t with
  |true=>cbv;exact a
  |false=>cbv;exact a
theorem cKv(P:0<D.now.length):dV D 0 0=if D.dead then 15 else 0:=by
 unfold dV;split
 .rfl
 rw[if_neg];rintro(h|h|h)<;>omega
theorem NA(q:mi h0 h p D)
 (r:∀h' n c e,e=(if D.dead then 15 else 0:Int)->(D.dead=false->n=rS (cH D 0)/\c=rS ((cH D 0).drop 8))->Le h h'->k (.tuple #[.int .i64 n,.int .i64 c,.int .i64 e]) h'):
 Ct 195 [.pointer (some ⟨p,0,none⟩)] h k:=by
 obtain⟨A,V⟩:=Ar.ex;have f:A .ay .neq 15 0=true:=by rw[av A];rfl
 have x:A .ay .neq 0 0=false:=by rw[av A];rfl
 have K:0<D.now.length:=by obtain⟨Y,kc,nb,nc,wb,wn,wc,g,o1,o2,e1,O,w,P,t,z⟩:=q.out;exact t
 have b:=cKv K;refine bB dZI A Tryz.func195 ?_;cbv;refine LJ q 0 (λF=>?_) (λa R L N l1 I M i C=>?_)
 .have W:D.dead=true:=by
   cases hd:D.dead with
   |true=>rfl
   |false=>rw[b,hd]at F;exact absurd rfl F
  have a:dV D 0 0=15:=by rw[b,W];rfl
  have:=r h 0 0 15 (by rw[W];rfl) (λo=>by rw[W]at o;cases o) (Le.refl _);rw[a];cbv;rw[f];cbv;exact this
 have W:D.dead=false:=by
  cases hd:D.dead with
  |false=>rfl
  |true=>rw[b,hd]at a;cases a
 subst I;have d:az 8 (some (cH D 0))=(lq ((cH D 0).take 8),some ((cH D 0).drop 8)):=by simp only[az,dO];rw[if_pos (by omega)]
 have l:az 8 (some ((cH D 0).drop 8))=(lq (((cH D 0).drop 8).take 8),some (((cH D 0).drop 8).drop 8)):=by simp only[az,dO];rw[if_pos (by rw[List.length_drop];omega)]
 have j:IntKind.i64.wrap ((az 8 (some (cH D 0))).1:Int)=rS (cH D 0):=by rw[d];rfl
 have T:IntKind.i64.wrap ((az 8 (some ((cH D 0).drop 8))).1:Int)=rS ((cH D 0).drop 8):=by rw[l];rfl
 have E:(az 8 (some (cH D 0))).2=some ((cH D 0).drop 8):=by rw[d]
 clear d l;cbv;rw[x];cbv;refine Jv C.sl (λS pr Z y G=>?_);cbv;refine Ag G (λU H Q u s=>?_);rw[E]at s;rw[j]at Q;cbv;refine Ag s (λm J X v r4=>?_);rw[T]at X;have B:Le h m:=i.trans (y.aE (by simpa using Z) (u.trans v));have:=r m H J 0 (by rw[W];rfl) (λ_=>⟨Q,X⟩) B;clear j T E Q X;cbv;exact this
theorem mi.pg(q:mi h0 h p D){b:Bs}(d:b∈D.now):b.length=64:=by obtain⟨n,kc,r,s,wb,t,wc,g,o1,o2,e1,f,w,j,k,z,u,v,o⟩:=q.out;obtain⟨c,l,a,m⟩:=o2.out;obtain⟨i,e⟩:=List.mem_iff_getElem?.1 d;exact(a.2 i b e).2
theorem mi.max(q:mi h0 h p D):D.now.length<=4096:=by obtain⟨k,kc,n,c,wb,d,wc,g,o1,o2,e1,a,w,e,b,z,f,i,l⟩:=q.out;exact e
theorem Ei(q:mi h0 h p D):(cO D).length=64*(D.now.length-1):=by unfold cO;rw[pM (λb a=>q.pg (List.mem_of_mem_drop a)),List.length_drop]
theorem dKd(q:mi h0 h p D)(hd:D.dead=false){z:Int}{n:Nat}(F:aK z n)
 (hk:∀h' b m c,Le h h'->Sl 5 bL h' (.slice b m c) ((cO D).take n)->k (.slice b m c) h'):
 Ct 296 [.pointer (some ⟨p,0,none⟩),.int .i64 z] h k:=by
 have Ur:=q.max;obtain⟨kb,kc,nb,nc,wb,wn,wc,g,o1,o2,e1,e2,w,e4,e5,z1,z2,z3,l0⟩:=q.out;obtain⟨P,hP⟩:∃P,P=D.now.length:=⟨_,rfl⟩;rw[<-hP]at g;obtain⟨J,Z⟩:∃J:Nat->(Int×Option Addr×Nat×Nat)->ab->Prop,∀w g h',J w g h'=(∃i,aK g.1 (i+1)/\w=P-i/\i+1<=P/\Le h h'/\aU 5 bL h h' (.slice g.2.1 g.2.2.1 g.2.2.2) (((D.now.drop 1).take i).flatten)):=⟨_,λ_ _ _=>rfl⟩;have u:J P (1,none,0,0) h:=by rw[Z];exact⟨0,⟨rfl⟩,rfl,by omega,Le.refl _,aU.nil⟩
 refine an dQV Tryz.func296 λA t=>?_;cbv;refine aG.go (G:=Int×Option Addr×Nat×Nat) (λg=>[(6,.v (.int .i64 g.1)),(5,.v (.slice g.2.1 g.2.2.1 g.2.2.2))]) (λ_=>[]) (λw g h'=>J w g h') P (1,none,0,0) (by constructor<;>cbv) u ?_
 intro w' T y C;rw[Z]at C;cbv;obtain⟨a,b,m,c⟩:=T;obtain⟨i,O,KA,hi,v,j⟩:=C;have O:aK a (i+1):=O;have j:aU 5 bL h y (.slice b m c) (((D.now.drop 1).take i).flatten):=j;have V:=v _ _ g;have hm:=j.sl.len;have Y:m=64*i:=by rw[hm,pM (λx hx=>q.pg (List.mem_of_mem_drop (List.mem_of_mem_take hx))),List.length_take,List.length_drop];congr 1;omega
 have r:A .ay .lss a (A .nat P)=decide (i+1<P):=by rw[aD A,O.eq,t.nat];exact decide_eq_decide.2 (by show((i+1:Nat):Int)<(P:Int)↔_;omega)
 have s:A .ay .lss (A .nat m) z=decide (m<n):=by rw[aD A,F.eq,t.nat];exact decide_eq_decide.2 (by show(m:Int)<(n:Int)↔_;omega)
 obtain⟨f,d⟩:∃f,f=A .ku z (A .nat m):=⟨_,rfl⟩;have U:aK f (min n m):=⟨by rw[d,t.ku,t.nat,F.eq];show min (n:Int) (m:Int)=_;omega⟩;have iW:=j.sl.bound;have fin:¬(i+1<P/\m<n)->(0<=f/\f<=(c:Int))/\k (.slice (A .cut b 0 (A .nat c) 1) (A .mg f 0) c) y:=λhn=>by
  refine⟨by have:=U.eq;omega,?_⟩;rw[cM (A:=A) U];have E:=j.sl.sg (A:=A) (z:=A .nat c) (i:=min n m) (by omega) rfl;have he:(((D.now.drop 1).take i).flatten).take (min n m)=(cO D).take n:=by
   have hr:=Ei q;have L:cO D=((D.now.drop 1).take i).flatten++((D.now.drop 1).drop i).flatten:=by unfold cO;rw[<-List.flatten_append,List.take_append_drop]
   rw[L];by_cases ag:m<n
   .have h0:(D.now.drop 1).drop i=[]:=List.drop_of_length_le (by rw[List.length_drop];omega);rw[h0,List.flatten_nil,List.append_nil];generalize ((D.now.drop 1).take i).flatten=fl at *;rw[List.take_of_length_le (show fl.length<=min n m by omega),List.take_of_length_le (show fl.length<=n by omega)]
   rw[List.take_append_of_le_length (by omega),Nat.min_eq_left (by omega)]
  rw[he]at E;exact hk y _ _ _ v E
 rw[al A];refine ak V ?_;cbv;rw[r];by_cases l:i+1<P
 .rw[decide_eq_true l];cbv;rw[s];by_cases o:m<n
  .rw[decide_eq_true o];have R:dV D a 0=0:=by unfold dV;rw[hd];show(if _ then(1:Int)else 0)=0;rw[if_neg];have:=O.eq;rintro(S|S|S)<;>omega
   have H:((D.now.drop 1).take (i+1)).flatten=((D.now.drop 1).take i).flatten++cH D a:=by
    obtain⟨x,hx⟩:=bn D.now (i+1);have e1:cH D a=x:=by unfold cH;rw[show a.toNat=i+1 by have:=O.eq;omega,hx];rfl
    rw[e1];exact fI (by rw[List.getElem?_drop,Nat.add_comm];exact hx)
   have I:∀h' e m' c',Le h h'->aU 5 bL h h' (.slice e m' c') (((D.now.drop 1).take i).flatten++cH D a)->J (P-(i+1)) (A .aC .add .i64 a 1,e,m',c') h':=λh' e m' c' l' q'=>by
    rw[Z];exact⟨i+1,O.succ (A:=A),rfl,l,l',by rw[H];exact q'⟩
   have M:P-(i+1)<w':=by omega
   clear Z u fin r s H d U;cbv;refine LJ (q.le v) a (λN=>absurd R N) (λ_ h2 b2 o l2 jG Q X q2=>?_);subst jG;have K:=j.mono (X.t _);generalize cH D a=pg at *;cbv;refine K.app q2.sl (by decide) rfl (by decide) (by omega) (v.trans X) (λm' e c' h3 DI l3 t3 k3 q3=>?_);have W:=I h3 e m' c' l3 q3;clear I k3;cbv;refine⟨P-(i+1),(A .aC .add .i64 a 1,e,m',c'),M,by constructor<;>cbv,W⟩
  rw[decide_eq_false o];have:=fin (λB=>o B.2);rw[d]at this;clear Z u fin r s d U;cbv;refine⟨this.1,?_⟩;have:=this.2;cbv;exact this
 rw[decide_eq_false l];have:=fin (λB=>l B.1);rw[d]at this;clear Z u fin r s d U;cbv;refine⟨this.1,?_⟩;have:=this.2;cbv;exact this
def dP:Nat->Bs->List Bs×Bool
 |0,b=>([],b.isEmpty)
 |f+1,b=>if b.length=0 then([],true)else if b.length<8 then([],false)else if dq b<0\/dq b>(b.length:Int)-8 then([],false)else
  let r:=dP f (b.drop (8+(dq b).toNat))
  ((b.drop 8).take (dq b).toNat::r.1,r.2)
theorem Qg{bs:Bs}(q:Sl 5 bL h (.slice b m c) bs)(hm:m<=2^30)
 (hk:∀h' b1 m1 D,Le h h'->Sl 176 pv h' (.slice b1 m1 D) (dP bs.length bs).1->k (.tuple #[.slice b1 m1 D,.bool (dP bs.length bs).2]) h'):
 Ct 295 [.slice b m c] h k:=by
 have aN:=q.len;obtain⟨J,Z⟩:∃J:Nat->((Option Addr×Nat×Nat)×Option Addr×Nat×Nat)->ab->Prop,∀w g h',J w g h'=(∃u L f,w=g.1.2.1/\u.length<=f/\u.length+8*L.length<=bs.length/\Le h h'/\Sl 5 bL h' (.slice g.1.1 g.1.2.1 g.1.2.2) u/\
  aU 176 pv h h' (.slice g.2.1 g.2.2.1 g.2.2.2) L/\dP bs.length bs=(L++(dP f u).1,(dP f u).2)):=⟨_,λ_ _ _=>rfl⟩
 have hJ:J m ((b,m,c),none,0,0) h:=by rw[Z];exact⟨bs,[],bs.length,rfl,Nat.le_refl _,by simp,Le.refl _,q,aU.nil,rfl⟩
 refine an dQW Tryz.func295 λA hA=>?_;cbv;refine aG.go (G:=(Option Addr×Nat×Nat)×Option Addr×Nat×Nat) (λg=>[(0,.v (.slice g.1.1 g.1.2.1 g.1.2.2)),(4,.v (.slice g.2.1 g.2.2.1 g.2.2.2))]) (λ_=>[]) (λw g h'=>J w g h') m ((b,m,c),none,0,0) (by constructor<;>cbv) hJ ?_
 intro w g y hI;rw[Z]at hI;cbv;obtain⟨⟨W,a,d⟩,ob,om,oc⟩:=g;obtain⟨u,L,f,hw,hf,bc,l1,C,S,o⟩:=hI;have hw:w=a:=hw;have C:Sl 5 bL y (.slice W a d) u:=C;have S:aU 176 pv h y (.slice ob om oc) L:=S;have nj:=C.len;have iW:=C.bound;have aW:=S.sl.len;have f0:A .ay .gtr (A .nat a) 0=decide (0<a):=by rw[aX A,hA.nat];exact decide_eq_decide.2 (by rw[Int.ofNat_eq_natCast];omega)
 have f1:A .ay .lss (A .nat a) 8=decide (a<8):=by rw[aD A,hA.nat];exact decide_eq_decide.2 (by rw[Int.ofNat_eq_natCast];omega)
 have fin:∀N,Le y N->∀t,dP f u=([],t)->k (.tuple #[.slice ob om oc,.bool t]) N:=λN O t l=>by
  rw[l]at o;simp only[List.append_nil]at o;rw[o]at hk;exact hk N ob om oc (l1.trans O) (S.sl.mono (O.t _))
 rw[f0];by_cases c0:0<a
 .rw[decide_eq_true c0];obtain⟨j,rfl⟩:∃j,f=j+1:=⟨f-1,by omega⟩;have hR:dP (j+1) u=if u.length=0 then([],true)else if u.length<8 then([],false)else if dq u<0\/dq u>(u.length:Int)-8 then([],false)else
   ((u.drop 8).take (dq u).toNat::(dP j (u.drop (8+(dq u).toNat))).1,(dP j (u.drop (8+(dq u).toNat))).2):=rfl
  rw[if_neg (by omega)]at hR;cbv;rw[f1];by_cases D:a<8
  .rw[decide_eq_true D];have:=fin y (Le.refl _) false (by rw[hR,if_pos (by omega)]);clear Z hJ o fin hR;cbv;exact this
  rw[decide_eq_false D];rw[if_neg (by omega)]at hR;have M:((u.length:Nat):Int)-8=(a:Int)-8:=by rw[nj]
  have zW:az 8 (some (u.take 8))=(lq (u.take 8),some []):=cXf _ (by rw[List.length_take];omega);have lr:(0:Int)<=8/\(8:Int)<=(d:Int):=by omega
  have d8:A .mg 8 0=8:=cM ⟨rfl⟩;have t8:=C.sg (A:=A) (z:=A .nat d) (i:=8) (by omega) rfl;have F:dq u<0->dP (j+1) u=([],false):=λr=>by rw[hR,if_pos (.inl r)]
  have E:dq u>(a:Int)-8->dP (j+1) u=([],false):=λr=>by rw[hR,if_pos (.inr (M ▸ r))]
  have X:¬dq u<0->¬dq u>(a:Int)-8->aK (dq u) (dq u).toNat/\8+(dq u).toNat<=a/\(u.drop (8+(dq u).toNat)).length<=j/\dP bs.length bs=((L++[(u.drop 8).take (dq u).toNat])++(dP j (u.drop (8+(dq u).toNat))).1,(dP j (u.drop (8+(dq u).toNat))).2)/\u.length-(8+(dq u).toNat)+8*(L.length+1)<=bs.length:=λsS au=>by
   rw[if_neg (λr=>r.elim sS (λr=>au (M ▸ r)))]at hR;refine⟨⟨by omega⟩,by omega,by rw[List.length_drop];omega,?_,by omega⟩;rw[o,hR,List.append_assoc];rfl
  have hB:om+1<=2^39:=by omega
  clear hJ hR o;cbv;refine⟨lr,?_⟩;cbv;rw[d8];refine Jv t8 (λN p hp O r2=>?_);cbv;refine Ag r2 (λB x3 Q k3 r3=>?_);rw[zW]at Q;have R:Le y B:=O.aE (by simpa using hp) k3;have Q:x3=dq u:=Q;have FB:=C.mono (R.t [5]);have aj:=S.mono (R.t [176,5]);clear zW r3 r2 k3 t8 d8 lr hp O;rw[Q];clear Q;generalize dq u=z at *;have f3:A .ay .lss z 0=decide (z<0):=aD A ..;have jh:A .aC .sub .i64 (A .nat a) 8=(a:Int)-8:=by rw[hA.aC,hA.nat];show IntKind.i64.wrap ((a:Int)-8)=_;rw[IntWalk.i64_in _ (by omega)]
  have V:A .ay .gtr z (A .aC .sub .i64 (A .nat a) 8)=decide (z>(a:Int)-8):=by rw[jh];exact aX A ..
  by_cases H:z<0
  .have l:=F H;have:=fin B R _ l;clear F E X fin l;cbv;rw[f3,decide_eq_true H];cbv;exact this
  by_cases U:z>(a:Int)-8
  .have l:=E U;have:=fin B R _ l;rw[decide_eq_true U]at V;clear F E X fin l;cbv;rw[f3,decide_eq_false H];cbv;rw[V];cbv;exact this
  rw[decide_eq_false U]at V;obtain⟨kG,KN,oT,o,jG⟩:=X H U;generalize z.toNat=n at *;have Y:aK 8 8:=⟨rfl⟩;have P:aK (A .aC .add .i64 8 z) (8+n):=Y.add (A:=A) kG (by omega);have iG:0<=A .aC .add .i64 8 z/\A .aC .add .i64 8 z<=(d:Int)/\0<=(8:Int)/\(8:Int)<=A .aC .add .i64 8 z:=by have:=P.eq;omega
  have vr:0<=A .aC .add .i64 8 z/\A .aC .add .i64 8 z<=(a:Int):=by have:=P.eq;omega
  have PG:A .mg (A .aC .add .i64 8 z) 8=n:=by rw[Gp (A:=A) P Y];omega
  have GW:A .mg (A .nat d) 8=d-8:=bQ (A:=A) Y;have Nq:=bQ (A:=A) (n:=a) P;have I:=bQ (A:=A) (n:=d) P;have tm:=FB.aKw (A:=A) Y (m:=n) (by omega) rfl;have td:=FB.iH (A:=A) P (by omega) rfl rfl;have bI:∀h' m' v c',Le h h'->Sl 5 bL h' (.slice (A .cut W (A .aC .add .i64 8 z) (A .nat d) 1) (a-(8+n)) (d-(8+n))) (u.drop (8+n))->aU 176 pv h h' (.slice v m' c') (L++[(u.drop 8).take n])->
   J (a-(8+n)) ((A .cut W (A .aC .add .i64 8 z) (A .nat d) 1,a-(8+n),d-(8+n)),v,m',c') h':=λh' m' v c' l' s' q'=>by
   rw[Z];exact⟨_,_,j,rfl,oT,by rw[List.length_append,List.length_drop];exact jG,l',s',q',o⟩
  have aF:a-(8+n)<w:=by omega
  obtain⟨K,T⟩:∃x,x=a-(8+n):=⟨_,rfl⟩;obtain⟨ag,e⟩:∃x,x=d-(8+n):=⟨_,rfl⟩;obtain⟨bd,ar⟩:∃x,x=d-8:=⟨_,rfl⟩;rw[<-T,<-e]at bI;rw[<-T]at aF;rw[<-T]at Nq;rw[<-e]at I;rw[<-ar]at GW tm;rw[<-T,<-e]at td;clear fin o hk F E X Z;cbv;rw[f3,decide_eq_false H];cbv;rw[V];cbv;intro n4 h4 FV e4;have l4:Le B h4:=by rw[e4];exact Le.set FV
  clear e4;cbv;refine⟨iG,?_⟩;cbv;rw[PG,GW];have o4:aU 5 bL B h4 (.slice (some ⟨n4,0,none⟩) 0 0) []:=aU.nil;refine o4.app (tm.mono (l4.t _)) (by decide) rfl (by decide) (by omega) l4 (λm4 b4 uf h5 zX l5 t5 k5 q5=>?_);have OT:Le B h5:=l5;have ao:=td.mono (l5.t _);have aH:=aj.mono (l5.t _);have q5:Sl 5 bL h5 (.slice b4 m4 uf) ((u.drop 8).take n):=by simpa using q5.sl
  clear k5;cbv;intro n6 h6 MS e6;have l6:Le h5 h6:=by rw[e6];exact Le.set MS
  have q6:Sl 176 pv h6 (.slice (some ⟨n6,0,none⟩) 1 1) [(u.drop 8).take n]:=aR (s:=pv) ((congrFun e6 n6).trans ae) ⟨_,rfl,q5.mono (l6.t _)⟩;clear e6;cbv;refine(aH.mono (l6.t _)).app q6 (by decide) rfl (by decide) hB ((l1.trans R).trans (OT.trans l6)) (λm' v c' h7 DI l7 t7 k7 q7=>?_);have gU:=bI h7 m' v c' l7 ((ao.mono (l6.t _)).mono (t7 _ (by decide))) q7;clear bI k7;cbv;refine⟨vr,?_⟩;cbv;rw[Nq,I];refine⟨K,((A .cut W (A .aC .add .i64 8 z) (A .nat d) 1,K,ag),v,m',c'),aF,by constructor<;>cbv,gU⟩
 rw[decide_eq_false c0];have:=fin y (Le.refl _) true (by
  have:u=[]:=List.eq_nil_of_length_eq_zero (by omega);subst this;cases f<;>rfl)
 clear Z hJ o fin;cbv;exact this
def iF(D:Dk):Nat:=64*(D.now.length-1)
def Ms(D:Dk)(n c:Int):List Bs×Bool:=
 let b:=(cO D).take (max (min n (iF D)) 0).toNat;let r:=dP b.length b
 (r.1,r.2&&(decide (n>=0)&&(decide (n<=(iF D:Nat))&&decide (c=(r.1.length:Nat)))))
def Ee(D:Dk):List Bs×Bool:=if D.dead then([],false)else Ms D (rS (cH D 0)) (rS ((cH D 0).drop 8))
theorem mi.pos(q:mi h0 h p D):0<D.now.length:=by obtain⟨k,kc,n,c,wb,d,wc,g,o1,o2,e1,a,w,b,e,z⟩:=q.out;exact e
theorem bZT(q:mi h0 h p D)
 (a:∀h' b m c l w,(l,w)=Ee D->Le h h'->Sl 176 pv h' (.slice b m c) l->k (.tuple #[.slice b m c,.bool w]) h'):
 Ct 196 [.pointer (some ⟨p,0,none⟩)] h k:=by
 obtain⟨A,i⟩:=Ar.ex;have s:A .ay .neq 15 0=true:=by rw[av A];rfl
 have Z:A .ay .neq 0 0=false:=by rw[av A];rfl
 have J:=q.max;have kY:=q.pos;have rL:=Ei q;have K:Ee D=if D.dead then([],false)else Ms D (rS (cH D 0)) (rS ((cH D 0).drop 8)):=rfl
 obtain⟨kb,kc,nb,nc,wb,wn,wc,g,-⟩:=q.out;obtain⟨P,B⟩:∃P,P=D.now.length:=⟨_,rfl⟩;have X:iF D=64*(P-1):=by rw[B];rfl
 rw[<-B]at g J kY rL;refine bB dZH A Tryz.func196 ?_;cbv;refine NA q (λS n c e j U o=>?_);cases W:D.dead with
 |true=>rw[W,if_pos rfl]at j;rw[W,if_pos rfl]at K;have:=a S none 0 0 [] false K.symm o Sl.nil;rw[j];clear K;cbv;rw[s];cbv;exact this
 |false=>
  rw[W,if_neg (by decide)]at j;rw[W,if_neg (by decide),<-(U W).1,<-(U W).2]at K;rw[j];have R:=o _ _ g;obtain⟨z,C⟩:∃z,z=A .aC .mul .i64 (A .aC .sub .i64 (A .nat P) 1) 64:=⟨_,rfl⟩;have Q:aK z (iF D):=⟨by
   rw[C,i.aC,i.nat,X];show IntKind.i64.wrap (IntKind.i64.wrap ((P:Int)-1)*64)=_;rw[IntWalk.i64_in ((P:Int)-1) (by omega),IntWalk.i64_in _ (by omega)];omega⟩
  obtain⟨t,E⟩:∃t,t=A .imax (A .ku n z) 0:=⟨_,rfl⟩;have f:aK t (max (min n (iF D)) 0).toNat:=⟨by
   rw[E,i.imax,i.ku,Q.eq];show max (min n _) 0=_;omega⟩
  have F:Ms D n c=((dP ((cO D).take (max (min n (iF D)) 0).toNat).length ((cO D).take (max (min n (iF D)) 0).toNat)).1,(dP ((cO D).take (max (min n (iF D)) 0).toNat).length ((cO D).take (max (min n (iF D)) 0).toNat)).2&&(decide (n>=0)&&(decide (n<=(iF D:Nat))&&decide (c=((dP ((cO D).take (max (min n (iF D)) 0).toNat).length ((cO D).take (max (min n (iF D)) 0).toNat)).1.length:Nat))))):=rfl;have V:((cO D).take (max (min n (iF D)) 0).toNat).length<=2^30:=by rw[List.length_take];omega
  have x:A .ay .geq n 0=decide (n>=0):=bX A ..;have M:A .ay .leq n z=decide (n<=(iF D:Nat)):=by rw[YE A,Q.eq]
  clear X;generalize iF D=I at *;cbv;rw[Z];cbv;rw[al A];refine ak R ?_;cbv;rw[<-C,<-E];refine dKd (q.le o) W f (λh2 u m2 c2 l2 G=>?_);generalize (cO D).take (max (min n I) 0).toNat=bs at *;cbv;refine Qg G (by rw[G.len];exact V) (λy d r v l3 H=>?_);have N:A .ay .eql c (A .nat r)=decide (c=((dP bs.length bs).1.length:Nat)):=by rw[aq A,i.nat,<-H.len];rfl
  have a:∀w,w=((dP bs.length bs).2&&(decide (n>=0)&&(decide (n<=(I:Nat))&&decide (c=((dP bs.length bs).1.length:Nat)))))->k (.tuple #[.slice d r v,.bool w]) y:=λw T=>a y d r v (dP bs.length bs).1 w (by rw[K,F,T]) ((o.trans l2).trans l3) H;rw[<-x,<-M,<-N]at a;clear F K Q f;generalize (dP bs.length bs).2=w at *;have x:A .ay .geq n 0=A .ay .geq n 0:=rfl;generalize Y:A .ay .geq n 0=L at *;generalize O:A .ay .leq n z=u at *;generalize uy:A .ay .eql c (A .nat r)=d at *;cbv;cases w with
  |false=>have:=a false rfl;cbv;exact this
  |true=>
   cbv;rw[Y];cases L with
   |false=>have:=a false rfl;cbv;exact this
   |true=>
    cbv;rw[O];cases u with
    |false=>have:=a false rfl;cbv;exact this
    |true=>cbv;rw[uy];have:=a d (by cases d<;>rfl);cbv;exact this
def LB(D:Dk):Prop:=0<=D.left/\D.left<2^63
theorem BC(q:LB D):LB (dJ D).2:=by
 unfold LB at *;unfold dJ;split
 .rename_i h;split
  .exact⟨by show(0:Int)<=0;omega,by show(0:Int)<2^63;omega⟩
  have e:IntKind.i64.wrap (D.left+ -1)=D.left+ -1:=IntWalk.i64_in _ (by omega);show 0<=IntKind.i64.wrap (D.left+ -1)/\IntKind.i64.wrap (D.left+ -1)<2^63;rw[e];omega
 exact q
theorem lF(q:LB D)(n:Int)(l:Bs):LB (bg D n l).2:=by
 unfold bg;split
 .exact q
 exact BC (D:={ D with now:=D.now.set n.toNat (dC l),ws:=D.ws++[(n,dC l)] }) q
theorem su(q:LB D):LB (cJ D).2:=by
 unfold cJ;split
 .exact q
 split
 .exact BC q
 exact BC q
theorem Bl:∀(n:Nat) (D:Dk) (pg:Nat) (b:Bs),b.length<=n->LB D->LB (cS D pg b).2:=λn=>by
 induction n with
 |zero=>intro D pg b h q;have:b=[]:=List.eq_nil_of_length_eq_zero (by omega);rw[cS,dif_pos this];exact su q
 |succ n i=>
  intro D pg b h q;rw[cS];split
  .exact su q
  rename_i F;have k:=List.length_pos_iff.2 F;split
  .exact lF q ..
  exact i _ _ _ (by rw[List.length_drop];omega) (lF q ..)
theorem px(q:LB D)(s:Nat)(b:Bs):LB (bO D s b).2:=by
 unfold bO;split
 .exact Bl _ _ _ _ (Nat.le_refl _) q
 split
 .exact q
 exact Bl _ _ _ _ (Nat.le_refl _) q
structure Wi(h0 h:ab)(lg p:Nat)(s n:Int):Prop where
 out:h lg=some (.cells (List.toArray [.pointer (some ⟨p,0,none⟩),.int .i64 s,.int .i64 n]) 353 (0,0))
 new:h0 lg=none
theorem Wi.lt{h':ab}{g:Nat}{s n:Int}(q:Wi h0 h g p s n)(l:bV [353] h h'):Wi h0 h' g p s n:=⟨l _ _ _ _ (by decide) q.out,q.new⟩
theorem bZV(q:mi h0 h p D)(hd:D.dead=false){l:List Bs}(B:Ee D=(l,true))
 (i:∀h' a b m c,Le h h'->Wi h0 h' a p (rS (cH D 0)) (rS ((cH D 0).drop 8))->Sl 176 pv h' (.slice b m c) l->k (.tuple #[.pointer (some ⟨a,0,none⟩),.slice b m c,.int .i64 0]) h'):
 Ct 88 [.pointer (some ⟨p,0,none⟩)] h k:=by
 obtain⟨A,z⟩:=Ar.ex;have I:A .ay .neq 0 0=false:=by rw[av A];rfl
 refine bB gJE A Tryz.func88 ?_;cbv;refine NA q (λE n c e s U j=>?_);rw[hd,if_neg (by decide)]at s;rw[s];obtain⟨t,r⟩:=U hd;rw[<-t,<-r]at i;clear t r U;cbv;rw[I];cbv;refine bZT (q.le j) (λy b m x F w d u C=>?_);rw[B]at d;injection d with hl d
 subst hl;rw[d];have Z:A .not true=false:=by rw[z.not];rfl
 cbv;rw[Z];cbv;intro a o g f;have v:Le y o:=by rw[f];exact Le.set g
 have:=i o a b m x ((j.trans u).trans v) ⟨(congrFun f a).trans ae,(q.base.trans (j.trans u)).none g⟩ (C.mono (v.t _));clear f i;cbv;exact this
set_option maxHeartbeats 8000000
abbrev aXp:List Nat:=[353,231,210,326]
theorem GB(hd:D.dead=true)(s n:Nat){l:Bs}(c:¬l.length>65536)(a:¬((l.length:Int)+8>((D.now.length:Int)-1)*64-s)):aT ⟨D,s,n⟩ l=(15,⟨D,s,n⟩):=by
 have d:∀x y,dV D x y=15:=λx y=>by unfold dV;rw[hd];rfl
 have w:∀pg b,b≠[]->cS D pg b=(15,D):=λpg b f=>by
  have e:bg D (pg:Int) (b.take 64)=(15,D):=by unfold bg;rw[d];rfl
  rw[cS,dif_neg f,e];rfl
 have h:=bW (l.length:Int);have p:bO D s (bR (l.length:Int)++l)=(15,D):=by
  unfold bO;split
  .exact w _ _ (λe=>by have:=congrArg List.length e;rw[List.length_append,h]at this;simp at this)
  rw[d];rfl
 show(if l.length>65536 then _ else if _ then _ else _)=_;rw[if_neg c,if_neg a,p];rfl
theorem Wo{K:Nat}{g:Lg}(q:mi h0 h p g.D)(hl:LB g.D)(ql:Wi h0 h K p (g.s:Int) (g.n:Int)){e1:Nat}{l:Bs}(qb:Sl e1 bL h (.slice b m c) l)(hs:g.s<=64*(g.D.now.length-1))(hn:g.n<=2^29)(hm:m<=2^28)(hw:g.D.ws.length<=2^28)
 (j:∀h',dI aXp h h'->mi h0 h' p (aT g l).2.D->Wi h0 h' K p ((aT g l).2.s:Int) ((aT g l).2.n:Int)->k (.int .i64 (aT g l).1) h'):
 Ct 83 [.pointer (some ⟨K,0,none⟩),.slice b m c] h k:=by
 obtain⟨A,M⟩:=Ar.ex;obtain⟨D,s,n⟩:=g;have q:mi h0 h p D:=q;have ql:Wi h0 h K p (s:Int) (n:Int):=ql;have hs:s<=64*(D.now.length-1):=hs;have hn:n<=2^29:=hn;have hl:LB D:=hl;have hw:D.ws.length<=2^28:=hw;have ct:=qb.len;have Ur:=q.max;have kY:=q.pos;have kI:A .ay .neq 0 0=false:=by rw[av A];rfl
 have Us:A .nat m=(l.length:Int):=by rw[M.nat,ct];rfl
 have f1:A .ay .gtr (A .nat m) 65536=decide (l.length>65536):=by rw[Us,aX A];exact decide_eq_decide.2 (by omega)
 have w:∀z:Int,-9223372036854775808<=z/\z<=9223372036854775807->IntKind.i64.wrap z=z:=IntWalk.i64_in;obtain⟨P,cd⟩:∃P,P=D.now.length:=⟨_,rfl⟩;have f2:A .ay .gtr (A .aC .add .i64 (A .nat m) 8) (A .aC .sub .i64 (A .aC .mul .i64 (A .aC .sub .i64 (A .nat P) 1) 64) (s:Int))=decide ((l.length:Int)+8>((D.now.length:Int)-1)*64-s):=by
  have e1:A .aC .add .i64 (A .nat m) 8=(l.length:Int)+8:=by rw[Us,M.aC];exact w _ (by omega)
  have e2:A .aC .sub .i64 (A .nat P) 1=(D.now.length:Int)-1:=by rw[cd,M.nat,M.aC];exact w _ (by show _<=((D.now.length:Int))-1/\((D.now.length:Int))-1<=_;omega)
  have e3:A .aC .mul .i64 ((D.now.length:Int)-1) 64=((D.now.length:Int)-1)*64:=by rw[M.aC];exact w _ (by omega)
  have e4:A .aC .sub .i64 (((D.now.length:Int)-1)*64) (s:Int)=((D.now.length:Int)-1)*64-s:=by rw[M.aC];exact w _ (by omega)
  rw[e1,e2,e3,e4,aX A]
 have Zr:A .aC .add .i64 (A .aC .add .i64 (s:Int) 8) (A .nat m)=((s+8+l.length:Nat):Int):=by
  have e1:A .aC .add .i64 (s:Int) 8=(s:Int)+8:=by rw[M.aC];exact w _ (by omega)
  rw[e1,Us,M.aC];show IntKind.i64.wrap ((s:Int)+8+(l.length:Int))=_;rw[w _ (by omega)];omega
 have ag:A .aC .add .i64 (n:Int) 1=((n+1:Nat):Int):=by rw[M.aC];show IntKind.i64.wrap ((n:Int)+1)=_;rw[w _ (by omega)];omega
 have a:aT ⟨D,s,n⟩ l=if l.length>65536 then(5,⟨D,s,n⟩)
  else if(l.length:Int)+8>((D.now.length:Int)-1)*64-s then(14,⟨D,s,n⟩)
  else if(bO D s (bR (l.length:Int)++l)).1≠0 then((bO D s (bR (l.length:Int)++l)).1,⟨(bO D s (bR (l.length:Int)++l)).2,s,n⟩)
  else if(bg (bO D s (bR (l.length:Int)++l)).2 0 (oJ (s+8+l.length) (n+1))).1≠0 then((bg (bO D s (bR (l.length:Int)++l)).2 0 (oJ (s+8+l.length) (n+1))).1,⟨(bg (bO D s (bR (l.length:Int)++l)).2 0 (oJ (s+8+l.length) (n+1))).2,s,n⟩)
  else if(cJ (bg (bO D s (bR (l.length:Int)++l)).2 0 (oJ (s+8+l.length) (n+1))).2).1≠0 then((cJ (bg (bO D s (bR (l.length:Int)++l)).2 0 (oJ (s+8+l.length) (n+1))).2).1,⟨(cJ (bg (bO D s (bR (l.length:Int)++l)).2 0 (oJ (s+8+l.length) (n+1))).2).2,s,n⟩)
  else(0,⟨(cJ (bg (bO D s (bR (l.length:Int)++l)).2 0 (oJ (s+8+l.length) (n+1))).2).2,s+8+l.length,n+1⟩):=rfl
 have bd:=Eo D s (bR (l.length:Int)++l);rw[List.length_append,bW]at bd;have Nc:=λhd:D.dead=true=>GB hd s n (l:=l);have I:bO D s (bR (l.length:Int)++l)=if s % 64=0 then cS D (1+s / 64) (bR (l.length:Int)++l)
  else if dV D ((1+s / 64:Nat):Int) 0≠0 then(dV D ((1+s / 64:Nat):Int) 0,D)
  else cS D (1+s / 64) ((cH D ((1+s / 64:Nat):Int)).take (s % 64)++(bR (l.length:Int)++l)):=rfl
 have df:=px hl s (bR (l.length:Int)++l);have wX:A .aC .rem .i64 (s:Int) 64=((s % 64:Nat):Int):=by rw[M.aC];show((s:Int)).tmod 64=_;rw[Int.tmod_eq_emod_of_nonneg (by omega)];omega
 have yU:A .aC .add .i64 (A .aC .quo .i64 (s:Int) 64) 1=((1+s / 64:Nat):Int):=by
  have y:A .aC .quo .i64 (s:Int) 64=((s / 64:Nat):Int):=by rw[M.aC];show IntKind.i64.wrap (((s:Int)).tdiv 64)=_;rw[Int.tdiv_eq_ediv_of_nonneg (by omega),IntWalk.i64_in _ (by omega)];omega
  rw[y,M.aC];show IntKind.i64.wrap (((s / 64:Nat):Int)+1)=_;rw[IntWalk.i64_in _ (by omega)];omega
 have fr:A .ay .gtr (A .aC .rem .i64 (s:Int) 64) 0=decide (¬s % 64=0):=by rw[wX,aX A];exact decide_eq_decide.2 (by omega)
 obtain⟨pg,cx⟩:∃pg,pg=1+s / 64:=⟨_,rfl⟩;obtain⟨pz,bC⟩:∃pz:Int,pz=((pg:Nat):Int):=⟨_,rfl⟩;rw[<-cx]at I yU;rw[<-bC]at I yU;have de:aK pz pg:=⟨bC⟩;have dt:pg<=2^31:=by omega
 have Pn:s % 64≠0->D.dead=false->dV D pz 0=0:=λy h2=>by
  unfold dV;rw[h2];show(if _ then(1:Int)else 0)=0;rw[if_neg];rintro(sS|sS|sS)<;>omega
 obtain⟨sz,gE⟩:∃sz:Int,sz=(s:Int):=⟨_,rfl⟩;obtain⟨nz,cz⟩:∃nz:Int,nz=(n:Int):=⟨_,rfl⟩;have Mv:=ql;rw[<-gE]at f2 Zr ql a wX yU fr;rw[<-cz]at ag ql;obtain⟨lz,bp⟩:∃lz:Int,lz=(l.length:Int):=⟨_,rfl⟩;rw[<-bp]at Us a bd f2 I df;obtain⟨s2,DF⟩:∃s2:Int,s2=((s+8+l.length:Nat):Int):=⟨_,rfl⟩;rw[<-DF]at Zr;obtain⟨B,dZ⟩:∃B:Int,B=((n+1:Nat):Int):=⟨_,rfl⟩;rw[<-dZ]at ag;have zY:oJ (s+8+l.length) (n+1)=bR s2++bR B:=by unfold oJ;rw[DF,dZ]
 rw[zY]at a;clear zY;obtain⟨C,fV⟩:∃C:(Option Addr×Nat×Nat)->ab->Prop,∀g y,C g y=(Le h y/\∃F,Sl 5 bL y (.slice g.1 g.2.1 g.2.2) F/\bO D s (bR lz++l)=cS D pg F/\F.length<=2^30+64):=⟨_,λ_ _=>rfl⟩;obtain⟨J,Z⟩:∃J:Option Addr->Nat->Nat->Bs->Nat->(Int×Int)->ab->Prop,∀xb xm xc F w g h',J xb xm xc F w g h'=(∃v H i,aK g.1 i/\aK g.2 H/\i<=xm+64/\w=xm+64-i/\mi h0 h' p v/\LB v/\dI Kj h h'/\Sl 5 bL h' (.slice xb xm xc) F/\bO D s (bR lz++l)=cS v H (F.drop i)/\H<=pg+i/\v.ws.length<=D.ws.length+i):=⟨_,λ_ _ _ _ _ _ _=>rfl⟩;have Nd:∀g y,C g y->∃F,F.length=g.2.1/\g.2.1<=2^30+64/\J g.1 g.2.1 g.2.2 F (g.2.1+64) (0,pz) y:=λg y hc=>by
  rw[fV]at hc;obtain⟨F,l2,s1,o,lE⟩:=hc;have mC:=s1.len;refine⟨l2,mC.symm,by omega,?_⟩;rw[Z];exact⟨D,pg,0,⟨rfl⟩,de,by omega,by omega,q.le F,hl,F.x _,s1,o,by omega,by omega⟩
 obtain⟨C1,Y⟩:∃C:(Option Addr×Nat×Nat)->ab->Prop,∀g y,C g y=(Le h y/\∃S,aU 5 bL h y (.slice g.1 g.2.1 g.2.2) S/\bO D s (bR lz++l)=cS D pg (S++(bR lz++l))/\S.length<=64):=⟨_,λ_ _=>rfl⟩;refine ik A [13,14] (ai gJH.au gJH.aN) Tryz.func83 rfl (by kernel_rfl) ?_;cbv;rw[f1];by_cases O:l.length>65536
 .rw[if_pos O]at a;rw[a]at j;have:=j h (dI.refl _ _) q Mv;rw[decide_eq_true O];clear j a fV Z Nd Nc I Y;cbv;exact this
 rw[if_neg O]at a;rw[decide_eq_false O];have Nc:=λhd=>Nc hd O;obtain⟨kb,kc,nb,nc,wb,wn,wc,g,-⟩:=q.out;rw[<-cd]at g;have gl:=ql.out;cbv;repeat (first|rw[al A] | (refine ak gl ?_;cbv)|(refine ak g ?_;cbv)|(refine⟨⟨_,rfl,rfl⟩,?_⟩;cbv))
 rw[f2];by_cases c2:lz+8>((D.now.length:Int)-1)*64-sz
 .rw[if_pos c2]at a;rw[a]at j;have:=j h (dI.refl _ _) q Mv;rw[decide_eq_true c2];clear j a fV Z Nd Nc I Y;cbv;exact this
 rw[if_neg c2]at a;rw[decide_eq_false c2];rw[bp]at c2;rw[gE]at c2;have Nc:=λhd=>Nc hd c2;have Na:∀h' e d,bO D s (bR lz++l)=(e,d)->e≠0->dI Kj h h'->mi h0 h' p d->k (.int .i64 e) h':=λh' e d o bF x' d'=>by
  rw[a,o]at j;have j:∀h',dI aXp h h'->mi h0 h' p ((if e≠0 then(e,⟨d,s,n⟩)else _:Int×Lg)).2.D->Wi h0 h' K p (((if e≠0 then(e,⟨d,s,n⟩)else _:Int×Lg)).2.s:Int) (((if e≠0 then(e,⟨d,s,n⟩)else _:Int×Lg)).2.n:Int)->k (.int .i64 ((if e≠0 then(e,⟨d,s,n⟩)else _:Int×Lg)).1) h':=j;rw[if_pos bF]at j;exact j h' (x'.sup (by decide)) d' (Mv.lt (x'.t (by decide)))
 have UP:∀d,bO D s (bR lz++l)=(0,d)->aT ⟨D,s,n⟩ l=if(bg d 0 (bR s2++bR B)).1≠0 then((bg d 0 (bR s2++bR B)).1,⟨(bg d 0 (bR s2++bR B)).2,s,n⟩)
  else if(cJ (bg d 0 (bR s2++bR B)).2).1≠0 then((cJ (bg d 0 (bR s2++bR B)).2).1,⟨(cJ (bg d 0 (bR s2++bR B)).2).2,s,n⟩)
  else(0,⟨(cJ (bg d 0 (bR s2++bR B)).2).2,s+8+l.length,n+1⟩):=λd o=>by
  rw[a,o];exact if_neg (λg=>g rfl)
 have T:∀h' d e f,bO D s (bR lz++l)=(0,d)->bg d 0 (bR s2++bR B)=(e,f)->e≠0->dI Kj h h'->mi h0 h' p f->k (.int .i64 e) h':=λh' d e f o Cj bF x' d'=>by
  have a:=UP d o;rw[Cj]at a;have a:aT ⟨D,s,n⟩ l=(e,⟨f,s,n⟩):=by rw[a];exact if_pos bF
  rw[a]at j;exact j h' (x'.sup (by decide)) d' (Mv.lt (x'.t (by decide)))
 have U:∀h' d f e E,bO D s (bR lz++l)=(0,d)->bg d 0 (bR s2++bR B)=(0,f)->cJ f=(e,E)->e≠0->dI Kj h h'->mi h0 h' p E->k (.int .i64 e) h':=λh' d f e E o Cj aN bF x' d'=>by
  have a:=UP d o;rw[Cj]at a;have a:aT ⟨D,s,n⟩ l=if(cJ f).1≠0 then((cJ f).1,⟨(cJ f).2,s,n⟩)else(0,⟨(cJ f).2,s+8+l.length,n+1⟩):=by rw[a];exact if_neg (λg=>g rfl)
  rw[aN]at a;have a:aT ⟨D,s,n⟩ l=(e,⟨E,s,n⟩):=by rw[a];exact if_pos bF
  rw[a]at j;exact j h' (x'.sup (by decide)) d' (Mv.lt (x'.t (by decide)))
 have N:∀h' d f E,bO D s (bR lz++l)=(0,d)->bg d 0 (bR s2++bR B)=(0,f)->cJ f=(0,E)->dI aXp h h'->mi h0 h' p E->Wi h0 h' K p s2 B->k (.int .i64 0) h':=λh' d f E o Cj aN x' d' g'=>by
  have a:=UP d o;rw[Cj]at a;have a:aT ⟨D,s,n⟩ l=if(cJ f).1≠0 then((cJ f).1,⟨(cJ f).2,s,n⟩)else(0,⟨(cJ f).2,s+8+l.length,n+1⟩):=by rw[a];exact if_neg (λg=>g rfl)
  rw[aN]at a;have a:aT ⟨D,s,n⟩ l=(0,⟨E,s+8+l.length,n+1⟩):=by rw[a];exact if_neg (λg=>g rfl)
  rw[a]at j;rw[DF,dZ]at g';exact j h' x' d' g'
 obtain⟨dd,nW⟩:∃dd,dd=D.dead:=⟨_,rfl⟩;rw[<-nW]at g Nc Pn;cbv;rw[al A];refine ak gl ?_;cbv;rw[al A];refine ak g ?_;cbv;cases dd with
 |true=>rw[Nc rfl]at j;have:=j h (dI.refl _ _) q Mv;clear j a fV Z Nd Nc I Y UP Na T U N;cbv;exact this
 |false=>
  have nW:D.dead=false:=nW.symm;have Pn:=λy=>Pn y rfl;clear Nc f2 f1;cbv;rw[al A];refine ak gl ?_;cbv;refine⟨by decide,?_⟩;cbv;rw[yU];intro n9 y vq e1;have F:Le h y:=by rw[e1];exact Le.set vq
  clear e1;have bc:=F _ _ gl;cbv;refine ny.go (G:=Option Addr×Nat×Nat) (λg=>[(7,.v (.slice g.1 g.2.1 g.2.2))]) (λ_=>[]) C1 ?_ ?_
  .cbv;rw[al A];refine ak bc ?_;cbv;refine⟨by decide,?_⟩;cbv;rw[fr];by_cases c3:s % 64=0
   .rw[if_pos c3]at I;have Zu:C1 (some ⟨n9,0,none⟩,0,0) y:=by rw[Y];exact⟨F,[],aU.nil,I,by simp⟩
    rw[decide_eq_false (λg=>g c3)];clear fV Nd Z j a Y I UP Na T U N;cbv;refine⟨(some ⟨n9,0,none⟩,0,0),by constructor<;>cbv,Zu⟩
   rw[if_neg c3,if_neg (λg=>g (Pn c3))]at I;have KZ:=Pn c3;clear Pn;have iU:s % 64<64:=Nat.mod_lt _ (by decide);rw[decide_eq_true c3];generalize s % 64=r at *;have bx:aK (A .aC .rem .i64 sz 64) r:=⟨wX⟩;have dd:=cM (A:=A) bx;have Zu:∀b1 O h',Le h h'->aU 5 bL h h' (.slice b1 r O) ((cH D pz).take r)->C1 (b1,r,O) h':=λb1 O h' l' q'=>by
    rw[Y];exact⟨l',_,q',I,by rw[List.length_take];omega⟩
   clear fV Nd Z j a Y I UP Na T U N fr;cbv;rw[al A];refine ak bc ?_;cbv;refine LJ (q.le F) pz (λbF=>absurd KZ bF) (λ_ h2 b2 ic l2 wZ dn bk q2=>?_);subst wZ;have dj:=bk _ _ bc;have dv:0<=A .aC .rem .i64 sz 64/\A .aC .rem .i64 sz 64<=(ic:Int):=by have:=q2.sl.bound;have h9:=bx.eq;omega
   have tk:=q2.sl.sg (A:=A) (z:=A .nat ic) (i:=r) (by omega) rfl;generalize cH D pz=pb at *;cbv;rw[al A];refine ak dj ?_;cbv;refine⟨by decide,?_⟩;cbv;refine⟨dv,?_⟩;cbv;rw[dd];have o4:aU 5 bL h h2 (.slice (some ⟨n9,0,none⟩) 0 0) []:=aU.nil;refine o4.app tk (by decide) rfl (by decide) (by omega) (F.trans bk) (λm4 b4 uf V zX l5 t5 k5 q5=>?_);have zX:m4=r:=by omega
   subst zX;have Zu:=Zu b4 uf V l5 (by simpa using q5);clear k5;cbv;refine⟨(b4,m4,uf),by constructor<;>cbv,Zu⟩
  intro g h2 cb;rw[Y]at cb;cbv;obtain⟨xb,xm,xc⟩:=g;obtain⟨l2,S,q2,I,dp⟩:=cb;have q2:aU 5 bL h h2 (.slice xb xm xc) S:=q2;have dk:=q2.sl.len;have du:xm<=64:=by omega
  have hC:∀b1 m1 O h',Le h h'->Sl 5 bL h' (.slice b1 m1 O) (S++(bR lz++l))->C (b1,m1,O) h':=λb1 m1 O h' l' q'=>by
   rw[fV];exact⟨l',_,q',I,by rw[List.length_append,List.length_append,bW];omega⟩
  refine ny.go (G:=Option Addr×Nat×Nat) (λg=>[(7,.v (.slice g.1 g.2.1 g.2.2))]) (λ_=>[]) C ?_ ?_
  .clear fV Nd Z j a Y I UP Na T U N;cbv;rw[Us];refine tH q2 l2 (by omega) lz rfl (λh3 b3 c3 l3 t3 q3=>?_);have cw:=qb.mono (l3.t _);cbv;refine q3.app cw (by decide) rfl (by decide) (by omega) l3 (λm4 b4 uf V zX l5 t5 k5 q5=>?_);have hC:=hC b4 m4 uf V l5 (by rw[<-List.append_assoc];exact q5.sl);clear k5;cbv;refine⟨(b4,m4,uf),by constructor<;>cbv,hC⟩
  intro g h3 hc;obtain⟨t,br,bl,hJ⟩:=Nd g h3 hc;clear Nd fV hc hC Y I j a UP;cbv;obtain⟨gb,u,gc⟩:=g;have br:t.length=u:=br;have bl:u<=2^30+64:=bl;have hJ:J gb u gc t (u+64) (0,pz) h3:=hJ;refine aG.go (G:=Int×Int) (λg=>[(10,.v (.int .i64 g.1)),(6,.v (.int .i64 g.2))]) (λ_=>[]) (λw g h'=>J gb u gc t w g h') (u+64) (0,pz) (by constructor<;>cbv) hJ ?_
  intro w' g h4 hI;rw[Z]at hI;cbv;obtain⟨zi,zp⟩:=g;obtain⟨v,H,i,gO,Qv,hi,KA,q4,aj,x4,s4,o,dB,dr⟩:=hI;have gO:aK zi i:=gO;have Qv:aK zp H:=Qv;have nj:=s4.len;have iW:=s4.bound;have Xh:h4 K=_:=x4.t (tys:=[353]) (by decide) _ _ _ _ (by decide) gl;have fi:A .ay .lss zi (A .nat u)=decide (i<u):=gO.vh (aK.nat u);have II:cS v H (t.drop i)=if h:t.drop i=[]then cJ v
   else if(bg v H ((t.drop i).take 64)).1≠0 then bg v H ((t.drop i).take 64)
   else cS (bg v H ((t.drop i).take 64)).2 (H+1) ((t.drop i).drop 64):=by rw[cS]
  rw[fi];by_cases c4:i<u
  .rw[decide_eq_true c4];have bF:t.drop i≠[]:=λe=>by have:=congrArg List.length e;rw[List.length_drop]at this;simp at this;omega
   rw[dif_neg bF]at II;have bj:aK (A .aC .add .i64 zi 64) (i+64):=gO.add (A:=A) ⟨rfl⟩ (by omega);obtain⟨X,qJ⟩:∃X,X=min (i+64) u:=⟨_,rfl⟩;have DH:A .ku (A .aC .add .i64 zi 64) (A .nat u)=A .nat X:=by rw[M.ku,bj.eq,M.nat,qJ];show min ((i+64:Nat):Int) (u:Int)=((min (i+64) u:Nat):Int);omega
   have yW:aK (A .nat X) X:=aK.nat X;have lr:0<=A .nat X/\A .nat X<=(gc:Int)/\0<=zi/\zi<=A .nat X:=by have:=yW.eq;have:=gO.eq;omega
   obtain⟨n1,ek⟩:∃x,x=X-i:=⟨_,rfl⟩;obtain⟨vg,YU⟩:∃x,x=gc-i:=⟨_,rfl⟩;have PG:A .mg (A .nat X) zi=n1:=by rw[Gp (A:=A) yW gO,ek]
   have GW:A .mg (A .nat gc) zi=vg:=by rw[bQ (A:=A) gO,YU]
   have tk:=s4.aKw (A:=A) gO (m:=n1) (by omega) YU;have cY:(t.drop i).take n1=(t.drop i).take 64:=by
    by_cases hh:i+64<=u
    .rw[show n1=64 by omega]
    rw[List.take_of_length_le (by rw[List.length_drop];omega),List.take_of_length_le (by rw[List.length_drop];omega)]
   rw[cY]at tk;have sI:=xZ v H ((t.drop i).take 64);have Ph:=lF aj H ((t.drop i).take 64);have ez:bg v zp ((t.drop i).take 64)=bg v H ((t.drop i).take 64):=by rw[Qv.eq]
   have bI:∀h',(bg v H ((t.drop i).take 64)).1=0->dI Kj h h'->mi h0 h' p (bg v H ((t.drop i).take 64)).2->Sl 5 bL h' (.slice gb u gc) t->
    J gb u gc t (u-i) (A .aC .add .i64 zi 64,A .aC .add .i64 zp 1) h':=λh' h0 x' d' s'=>by
    rw[Z];rw[if_neg (λg=>g h0)]at II;refine⟨_,H+1,i+64,bj,Qv.succ (A:=A),by omega,by omega,d',Ph,x',s',by rw[o,II,List.drop_drop],?_,?_⟩
    .omega
    omega
   have aF:u-i<w':=by omega
   have dh:v.ws.length<=2^38:=by omega
   clear Z hJ;cbv;rw[al A];refine ak Xh ?_;cbv;rw[DH];refine⟨lr,?_⟩;cbv;rw[PG,GW];repeat (first|(refine ak Xh ?_;cbv) |rw[al A])
   refine Ny q4 aj zp tk dh (λV x5 d5=>?_);rw[ez]at d5 |-;clear ez;have bI:=bI V;have s5:=s4.mono (x5.t (by decide));have hx:=x4.trans x5;rw[II]at o;clear II sI;generalize Cj:bg v H ((t.drop i).take 64)=R at *;obtain⟨e,E⟩:=R;have Q:A .ay .neq e 0=decide (e≠0):=av A ..;by_cases L:e≠0
   .have o:bO D s (bR lz++l)=(e,E):=by rw[o];exact if_pos L
    have:=Na V e E o L hx d5;rw[decide_eq_true L]at Q;clear Na T U N bI;cbv;rw[Q];cbv;exact this
   have gU:=bI (by show e=0;omega) hx d5 s5;rw[decide_eq_false L]at Q;clear Na T U N bI;cbv;rw[Q];cbv;refine⟨u-i,(A .aC .add .i64 zi 64,A .aC .add .i64 zp 1),aF,by constructor<;>cbv,gU⟩
  rw[decide_eq_false c4];have jj:t.drop i=[]:=List.drop_of_length_le (by omega);rw[dif_pos jj]at II;rw[II]at o;have ar:(cJ v).2.ws.length<=2^38:=by have e0:=o;rw[<-e0];omega
  have Ph:=su aj;clear Z hJ II;cbv;rw[al A];refine ak Xh ?_;cbv;refine We q4 aj (λV x5 d5=>?_);have hx:=x4.trans x5;have aW:V K=_:=x5.t (tys:=[353]) (by decide) _ _ _ _ (by decide) Xh;generalize cJ v=R at *;obtain⟨e,D1⟩:=R;have d5:mi h0 V p D1:=d5;have Ph:LB D1:=Ph;have ar:D1.ws.length<=2^38:=ar;have Q:A .ay .eql e 0=decide (e=0):=aq A ..;have W:A .ay .neq e 0=decide (e≠0):=av A ..;by_cases L:e≠0
  .have:=Na V e D1 o L hx d5;rw[decide_eq_true L]at W;rw[decide_eq_false L]at Q;clear Na T U N;cbv;rw[Q];cbv;rw[Q];cbv;rw[W];cbv;exact this
  have uv:e=0:=by omega
  subst uv;have ch:A .ay .eql 0 0=true:=by rw[aq A];rfl
  clear Q W Na;cbv;rw[ch];cbv;repeat (first|rw[al A] | (refine ak aW ?_;cbv)|(refine⟨⟨_,rfl,rfl⟩,?_⟩;cbv))
  rw[Zr];refine tH (h0:=V) aU.nil (Le.refl _) (by omega) s2 rfl (λh6 b6 c6 l6 t6 q6=>?_);have di:=l6 _ _ aW;cbv;repeat (first|rw[al A] | (refine ak di ?_;cbv)|(refine⟨⟨_,rfl,rfl⟩,?_⟩;cbv))
  rw[ag];refine tH q6 l6 (by omega) B rfl (λh7 b7 c7 l7 t7 q7=>?_);have cr:=l7 _ _ aW;cbv;repeat (first|rw[al A] | (refine ak cr ?_;cbv)|(refine⟨⟨_,rfl,rfl⟩,?_⟩;cbv))
  have q7:aU 5 bL V h7 (.slice b7 16 c7) (bR s2++bR B):=by simpa using q7
  refine Ny (d5.le l7) Ph 0 q7.sl ar (λh8 x8 d8=>?_);have au:=lF Ph 0 (bR s2++bR B);have cp:=hx.trans ((l7.x _).trans x8);have cq:h8 K=_:=x8.t (tys:=[353]) (by decide) _ _ _ _ (by decide) cr;have T:=T h8 D1;generalize Cj:bg D1 0 (bR s2++bR B)=R at *;obtain⟨e,f⟩:=R;have d8:mi h0 h8 p f:=d8;have au:LB f:=au;have Q:A .ay .eql e 0=decide (e=0):=aq A ..;have W:A .ay .neq e 0=decide (e≠0):=av A ..;by_cases L:e≠0
  .have:=T e f o rfl L cp d8;rw[decide_eq_true L]at W;rw[decide_eq_false L]at Q;clear T U N;cbv;rw[Q];cbv;rw[W];cbv;exact this
  have uv:e=0:=by omega
  subst uv;clear Q W T;cbv;rw[ch];cbv;rw[al A];refine ak cq ?_;cbv;refine We d8 au (λh9 x9 d9=>?_);have cn:=cp.trans x9;have ao:h9 K=_:=x9.t (tys:=[353]) (by decide) _ _ _ _ (by decide) cq;have U:=U h9 D1 f;have N:=λh'=>N h' D1 f;generalize cJ f=R at *;obtain⟨e,E⟩:=R;have d9:mi h0 h9 p E:=d9;have W:A .ay .neq e 0=decide (e≠0):=av A ..;by_cases L:e≠0
  .have:=U e E o Cj rfl L cn d9;rw[decide_eq_true L]at W;clear U N;cbv;rw[W];cbv;exact this
  have uv:e=0:=by omega
  subst uv;clear W U;cbv;rw[kI];cbv;rw[al A];refine ak ao ?_;cbv;rw[Zr,al A];refine jr ao (by show 2<=3;decide) (λgP oZ=>?_);have Pw:=(congrFun oZ K).trans ae;have WD:dI aXp h9 gP:=by rw[oZ];exact fE ao (by decide)
  have bZ:mi h0 gP p E:=d9.lt (by rw[oZ];exact bV.set ao (by decide)) (d9.base.aE (bs:=[K]) (by simpa using ql.new) (by rw[oZ];exact Kp.set (by simp)));have Pw:gP K=some (.cells (List.toArray [.pointer (some ⟨p,0,none⟩),.int .i64 s2,.int .i64 nz]) 353 (0,0)):=Pw;clear oZ;cbv;rw[al A];refine ak Pw ?_;cbv;rw[ag,al A];refine jr Pw (by show 3<=3;decide) (λmK GV=>?_);have aH:=(congrFun GV K).trans ae;have cv:dI aXp gP mK:=by rw[GV];exact fE Pw (by decide)
  have cQ:mi h0 mK p E:=bZ.lt (by rw[GV];exact bV.set Pw (by decide)) (bZ.base.aE (bs:=[K]) (by simpa using ql.new) (by rw[GV];exact Kp.set (by simp)));have aH:mK K=some (.cells (List.toArray [.pointer (some ⟨p,0,none⟩),.int .i64 s2,.int .i64 B]) 353 (0,0)):=aH;clear GV;have:=N mK E o Cj rfl (((cn.sup (by decide)).trans WD).trans cv) cQ ⟨aH,ql.new⟩;clear N;cbv;exact this
def Si(D:Dk):List Bs×Bool:=
 if D.dead then([],false)
 else if(wQ D (rS (cH D 0)) (rS ((cH D 0).drop 8))).bad then((dy ((cO D).take (rS (cH D 0)).toNat) (cO D).length).1,false)
 else((wQ D (rS (cH D 0)) (rS ((cH D 0).drop 8))).dL,true)
theorem Sz:∀(f:Nat) (b:Bs),8*(dP f b).1.length<=b.length:=λf=>by
 induction f with
 |zero=>intro b;exact Nat.zero_le _
 |succ f i=>
  intro b;unfold dP;split
  .exact Nat.zero_le _
  split
  .exact Nat.zero_le _
  split
  .exact Nat.zero_le _
  have:=i (b.drop (8+(dq b).toNat));rw[List.length_drop]at this;simp only[List.length_cons];omega
theorem Nr:∀(f:Nat) (b:Bs) (m:Nat),b.length<=f->(dP f b).1.length<=m->dP f b=((dy b m).1,decide ((dy b m).2=[])):=λf=>by
 induction f with
 |zero=>intro b m g h;have:b=[]:=List.eq_nil_of_length_eq_zero (by omega);subst this;cases m<;>rfl
 |succ f i=>
  intro b m g h;by_cases h0:b.length=0
  .have:b=[]:=List.eq_nil_of_length_eq_zero h0;subst this;cases m<;>rfl
  have F:b≠[]:=λe=>h0 (by rw[e];rfl);have hR:dP (f+1) b=if b.length<8 then([],false)else if dq b<0\/dq b>(b.length:Int)-8 then([],false)else
   ((b.drop 8).take (dq b).toNat::(dP f (b.drop (8+(dq b).toNat))).1,(dP f (b.drop (8+(dq b).toNat))).2):=by
   conv=>lhs;unfold dP
   rw[if_neg h0]
  have G:decide (b=[])=false:=decide_eq_false F;by_cases a:b.length<8
  .rw[hR,if_pos a];cases m with
   |zero=>show _=([],decide (b=[]));rw[G]
   |succ m=>
    have:dy b (m+1)=([],b):=by show(if 8<=b.length then _ else _)=_;rw[if_neg (by omega)]
    rw[this];show _=([],decide (b=[]));rw[G]
  rw[if_neg a]at hR;by_cases c:dq b<0\/dq b>(b.length:Int)-8
  .rw[hR,if_pos c];cases m with
   |zero=>show _=([],decide (b=[]));rw[G]
   |succ m=>
    have:dy b (m+1)=([],b):=by show(if 8<=b.length then if _ then _ else _ else _)=_;rw[if_pos (by omega),if_neg (by omega)]
    rw[this];show _=([],decide (b=[]));rw[G]
  rw[if_neg c]at hR;rw[hR]at h |-;simp only[List.length_cons]at h;cases m with
  |zero=>omega
  |succ m=>
   have d:dy b (m+1)=((b.drop 8).take (dq b).toNat::(dy (b.drop (8+(dq b).toNat)) m).1,(dy (b.drop (8+(dq b).toNat)) m).2):=by show(if 8<=b.length then if _ then _ else _ else _)=_;rw[if_pos (by omega),if_pos (by omega)]
   rw[d,i (b.drop (8+(dq b).toNat)) m (by rw[List.length_drop];omega) (by omega)]
theorem ZV:∀(f:Nat) (b:Bs) (m:Nat),b.length<=f->(dy b m).2=[]->dP f b=((dy b m).1,true):=λf=>by
 induction f with
 |zero=>intro b m d h;have:b=[]:=List.eq_nil_of_length_eq_zero (by omega);subst this;cases m<;>rfl
 |succ f i=>
  intro b m d h;by_cases h0:b.length=0
  .have:b=[]:=List.eq_nil_of_length_eq_zero h0;subst this;cases m<;>rfl
  have F:b≠[]:=λe=>h0 (by rw[e];rfl);cases m with
  |zero=>exact absurd h F
  |succ m=>
   have C:dy b (m+1)=if 8<=b.length then if 0<=dq b/\dq b<=(b.length-8:Nat)then((b.drop 8).take (dq b).toNat::(dy (b.drop (8+(dq b).toNat)) m).1,(dy (b.drop (8+(dq b).toNat)) m).2)else([],b)else([],b):=rfl
   by_cases a:8<=b.length
   .rw[if_pos a]at C;by_cases c:0<=dq b/\dq b<=(b.length-8:Nat)
    .rw[if_pos c]at C;rw[C]at h |-;have:=i (b.drop (8+(dq b).toNat)) m (by rw[List.length_drop];omega) h;conv=>lhs;unfold dP
     rw[if_neg h0,if_neg (by omega),if_neg (by omega)];show(_::(dP f _).1,(dP f _).2)=_;rw[this]
    rw[if_neg c]at C;rw[C]at h;exact absurd h F
   rw[if_neg a]at C;rw[C]at h;exact absurd h F
theorem XM(o:(cO D).length=iF D):Si D=Ee D:=by
 unfold Si Ee;split
 .rfl
 generalize rS (cH D 0)=n;generalize rS ((cH D 0).drop 8)=c;have S:Ms D n c=((dP ((cO D).take (max (min n (iF D)) 0).toNat).length ((cO D).take (max (min n (iF D)) 0).toNat)).1,(dP ((cO D).take (max (min n (iF D)) 0).toNat).length ((cO D).take (max (min n (iF D)) 0).toNat)).2&&(decide (n>=0)&&(decide (n<=(iF D:Nat))&&decide (c=((dP ((cO D).take (max (min n (iF D)) 0).toNat).length ((cO D).take (max (min n (iF D)) 0).toNat)).1.length:Nat))))):=rfl;have L:wQ D n c=if n<0\/c<0\/n>(cO D).length then⟨n,c,[],true⟩
  else⟨n,c,(dy ((cO D).take n.toNat) c.toNat).1,!decide ((dy ((cO D).take n.toNat) c.toNat).2=[])||decide (((dy ((cO D).take n.toNat) c.toNat).1.length:Int)≠c)⟩:=rfl
 rw[<-o]at S;generalize cO D=r at *;have t:r.take (max (min n (r.length:Int)) 0).toNat=r.take n.toNat:=by
  by_cases h:n<=r.length
  .congr 1;omega
  rw[List.take_of_length_le (by omega),List.take_of_length_le (by omega)]
 rw[t]at S;obtain⟨b,j⟩:∃b,b=r.take n.toNat:=⟨_,rfl⟩;have K:b.length<=r.length:=by rw[j,List.length_take];omega
 rw[<-j]at S L |-;have p:=Nr b.length b r.length (Nat.le_refl _) (by have:=Sz b.length b;omega);rw[L,S];by_cases i:n<0\/c<0\/n>(r.length:Int)
 .rw[if_pos i];show((dy b r.length).1,false)=_;have m:(decide (n>=0)&&(decide (n<=(r.length:Nat))&&decide (c=((dP b.length b).1.length:Nat))))=false:=by
   rcases i with h|h|h
   .rw[decide_eq_false (show ¬n>=0 by omega)];rfl
   .rw[decide_eq_false (show ¬c=((dP b.length b).1.length:Nat)by omega)];simp
   rw[decide_eq_false (show ¬n<=(r.length:Nat)by omega)];simp
  rw[m,Bool.and_false,p]
 rw[if_neg i];have l:decide (n>=0)=true:=decide_eq_true (by omega);have N:decide (n<=(r.length:Nat))=true:=decide_eq_true (by omega);rw[l,N,Bool.true_and,Bool.true_and];by_cases f:(dy b c.toNat).2=[]
 .have J:=ZV b.length b c.toNat (Nat.le_refl _) f;have e1:decide ((dy b c.toNat).2=[])=true:=decide_eq_true f;by_cases d:((dy b c.toNat).1.length:Int)≠c
  .have a:(!decide ((dy b c.toNat).2=[])||decide (((dy b c.toNat).1.length:Int)≠c))=true:=by rw[decide_eq_true d];simp
   rw[a];show((dy b r.length).1,false)=_;have k:decide (c=((dP b.length b).1.length:Nat))=false:=decide_eq_false (by rw[J];exact λe=>d e.symm);rw[k,Bool.and_false,p]
  have a:(!decide ((dy b c.toNat).2=[])||decide (((dy b c.toNat).1.length:Int)≠c))=false:=by rw[e1,decide_eq_false d];rfl
  rw[a];show((dy b c.toNat).1,true)=_;rw[J];show _=(_,true&&decide (c=((dy b c.toNat).1.length:Int)));rw[decide_eq_true (show c=((dy b c.toNat).1.length:Int)by omega)];rfl
 have a:(!decide ((dy b c.toNat).2=[])||decide (((dy b c.toNat).1.length:Int)≠c))=true:=by rw[decide_eq_false f];rfl
 rw[a];show((dy b r.length).1,false)=_;rw[p];show _=(_,decide ((dy b r.length).2=[])&&decide (c=((dy b r.length).1.length:Int)));by_cases d:c=((dy b r.length).1.length:Int)
 .have:=Nr b.length b c.toNat (Nat.le_refl _) (by rw[p];show(dy b r.length).1.length<=c.toNat;omega);rw[p]at this;have g:=congrArg Prod.snd this;have g:decide ((dy b r.length).2=[])=decide ((dy b c.toNat).2=[]):=g;rw[g,decide_eq_false f];rfl
 rw[decide_eq_false d,Bool.and_false]
end Go.S
