import Derived.Test.YthnbpiejemlbeaaGreatBH
set_option linter.all false
set_option maxRecDepth 100000
set_option maxHeartbeats 4000000
namespace Go.S
open Go.Sx Go.Proofs
variable {D:Dk}{c i m p:Nat}{b:Option Addr}{k:Value->ad->Prop}{h h0:ad}
theorem aQa(q:nv h0 h p D)(hl:0<=D.left/\D.left<2^63)(a:∀h',dX NR h h'->nv h0 h' p (dw D).2->k (.int .i64 (dw D).1) h'):
 Ct 190 [.zP p] h k:=by
 have S:dw D=if D.dead then(15,D)else if(eM D).1 then(15,(eM D).2)else(0,{ (eM D).2 with kept:=(eM D).2.now,ws:=[] }):=rfl
 obtain⟨_,_,_,_,_,_,_,g,-⟩:=q.out;generalize pX:D.dead=P at *;refine cg eZr Tryz.func190 λA hA=>?_;cbv;rw[av A];refine cr g ?_;cases P with
 |true=>have S:dw D=(15,D):=S;rw[S]at a;have:=a h (dX.refl _ _) q;clear a;cbv;exact this
 |false=>
  have S:dw D=if(eM D).1 then(15,(eM D).2)else(0,{ (eM D).2 with kept:=(eM D).2.now,ws:=[] }):=S
  cbv;refine dQf q pX hl (λf L m=>?_);generalize eM D=R at *;obtain⟨t,D1⟩:=R;have m:nv h0 f p D1:=m;cases t with
  |true=>have S:dw D=(15,D1):=S;rw[S]at a;have:=a f L m;clear a;cbv;exact this
  |false=>
   have S:dw D=(0,{ D1 with kept:=D1.now,ws:=[] }):=S;rw[S]at a;obtain⟨kb,kc,r,s,H,K,I,v,o1,o2,e1,e2,w,Q,T,M,z2,z3,E⟩:=m.out;have oC:=o2.sl (n:=D1.now.length) rfl;have fin:∀i x j b d,Le f i->f b=none->cZ 210 pq i b d D1.now->x=bL i p (.cells #[.slice (zsA r) D1.now.length s,.slice (zsA b) D1.now.length d,.slice H K I,.int .i64 D1.left,.bool D1.dead] 231 (0,0))->
    j=bL x p (.cells #[.slice (zsA r) D1.now.length s,.slice (zsA b) D1.now.length d,.slice none 0 0,.int .i64 D1.left,.bool D1.dead] 231 (0,0))->k (.int .i64 0) j:=λi x j b d o z o3 O c=>by
    have B:=o _ _ v;rw[O,ek]at c;have lt:∀tys,231∉tys->cO tys i j:=λtys hn=>by rw[c];exact cO.set B hn
    refine a j (L.trans ((o.x _).trans (by rw[c];exact gN B (by decide)))) ⟨b,d,r,s,none,0,0,(congrFun c p).trans ae,o3.mono (lt _ (by decide)),(o2.mono (o.t _)).mono (lt _ (by decide)),rfl,λe=>by rw[e]at z;exact o2.has z,bt.nil,Q,T,M,E.none z,z3,?_⟩;exact(E.trans o).aV (bs:=[p]) (by simpa using M) (by rw[c];exact Kp.set (by simp))
   clear a S w o1 q m;generalize Z:D1.left=lf at *;generalize Ts:D1.dead=d1 at *;generalize rW:D1.now=N at *;generalize Yf:N.length=nl at *;cbv;intro n5 Y U J;have l:Le f Y:=by rw[J];exact Le.set U
   clear J;cbv;rw[av A];refine cr (l _ _ v) ?_;cbv;refine oI (oC.mono (l.t _)) rfl (by decide) (λe0=>by omega) (λG cap h6 V mP F o6=>?_);have W:=F _ _ (l _ _ v);have fin:=fin h6;cbv;rw[av A];refine ju W (by show 2<=5;decide) (λC u=>?_);have X:C p=zcL 231 [.slice (zsA r) nl s,.slice (zsA G) nl cap,.slice H K I,.int .i64 lf,.bool d1]:=(congrFun u p).trans ae;cbv;rw[av A];refine ju X (by show 3<=5;decide) (λh8 y=>?_);have:=fin C h8 G cap (l.trans F) (l.none V) o6 u y;clear fin u y;cbv;exact this
def bQA(n:Int)(g:Nat->Int):List Value:=[.int .i64 n,.int .u8 (g 0),.int .u8 (g 1),.int .u8 (g 2),.int .u8 (g 3),.int .u8 (g 4),.int .u8 (g 5),.int .u8 (g 6),.int .u8 (g 7),.int .u8 (g 8),.int .u8 (g 9),.int .u8 (g 10),.int .u8 (g 11),.int .u8 (g 12),.int .u8 (g 13),.int .u8 (g 14),.int .u8 (g 15),.int .u8 (g 16),.int .u8 (g 17),.int .u8 (g 18),.int .u8 (g 19),.int .u8 (g 20),.int .u8 (g 21),.int .u8 (g 22),.int .u8 (g 23),.int .u8 (g 24),.int .u8 (g 25),.int .u8 (g 26),.int .u8 (g 27),.int .u8 (g 28),.int .u8 (g 29),.int .u8 (g 30),.int .u8 (g 31),.int .u8 (g 32),.int .u8 (g 33),.int .u8 (g 34),.int .u8 (g 35),.int .u8 (g 36),.int .u8 (g 37),.int .u8 (g 38),.int .u8 (g 39),.int .u8 (g 40),.int .u8 (g 41),.int .u8 (g 42),.int .u8 (g 43),.int .u8 (g 44),.int .u8 (g 45),.int .u8 (g 46),.int .u8 (g 47),.int .u8 (g 48),.int .u8 (g 49),.int .u8 (g 50),.int .u8 (g 51),.int .u8 (g 52),.int .u8 (g 53),.int .u8 (g 54),.int .u8 (g 55),.int .u8 (g 56),.int .u8 (g 57),.int .u8 (g 58),.int .u8 (g 59),.int .u8 (g 60),.int .u8 (g 61),.int .u8 (g 62),.int .u8 (g 63)]
theorem IF(n:Int)(g:Nat->Int):bQA n g=.int .i64 n::Qo g:=rfl
theorem BT(g:Nat->Int):Qo g=(List.range 64).map λi=>Value.int .u8 (g i):=rfl
theorem aZj(g:Nat->Int)(x:Int)(h:i<64):(Qo g).set i (.int .u8 x)=Qo (λj=>if j=i then x else g j):=by
 rw[BT,BT];apply yr;intro j;rw[VS,kS,kS];by_cases a:j<64
 .rw[List.getElem?_range a];by_cases e:i=j
  .rw[if_pos e,if_pos (by simpa using h)];subst e;simp
  rw[if_neg e];simp[Ne.symm e]
 rw[yo (by simp;omega),if_neg (by omega)];rfl
theorem aXe(n:Int)(g:Nat->Int)(x:Int)(h:i<64):(bQA n g).set (1+i) (.int .u8 x)=bQA n (λj=>if j=i then x else g j):=by rw[IF,IF,<-aZj g x h,kQh,List.set_cons_succ]
theorem aZk{g:Nat->Int}{l:Bs}(hl:l.length<=64)(h:∀j x,l[j]? =some x->g j=(x.toNat:Int))(c:∀j,l.length<=j->g j=0):Qo g=aQ (eI l):=by
 rw[BT];unfold aQ;apply yr;intro i;rw[kS,kS];have b:=sF hl;by_cases d:i<64
 .rw[List.getElem?_range d];unfold eI;by_cases a:i<l.length
  .rw[kQa a];obtain⟨x,hx⟩:=aJ (xs:=l) (i:=i) a;rw[hx,Option.map_some,Option.map_some,h i x hx]
  rw[kQe (by omega),kXa,if_pos (by omega),Option.map_some,Option.map_some,c i (by omega)];rfl
 rw[yo (by simp;omega),yo (by omega)];rfl
theorem Rr(q:nv h0 h p D)(hl:0<=D.left/\D.left<2^63)(n:Int){l:Bs}(qb:Sl 5 cj h (.slice b m c) l)(hw:D.ws.length<=2^38)
 (a:∀h',dX NR h h'->nv h0 h' p (bJ D n l).2->k (.int .i64 (bJ D n l).1) h'):
 Ct 189 [.zP p,.int .i64 n,.slice b m c] h k:=by
 obtain⟨A,hA⟩:=Ar.ex;have an:=qb.len;obtain⟨kb,kc,nb,nc,wb,wn,wc,g,o1,o2,e1,e2,w,V,e5,z1,z2,z3,l0⟩:=q.out;have C:fj D n l.length=if D.dead then 15 else if n<0\/n>=D.now.length\/(l.length:Int)>64 then 1 else 0:=rfl
 have W:bJ D n l=if fj D n l.length≠0 then(fj D n l.length,D)else(if(eM { D with now:=D.now.set n.toNat (eI l),ws:=D.ws++[(n,eI l)] }).1 then 15 else 0,(eM { D with now:=D.now.set n.toNat (eI l),ws:=D.ws++[(n,eI l)] }).2):=rfl
 have f1:A .aN .lss n 0=decide (n<0):=aR A ..;obtain⟨u,Yf⟩:∃u,u=D.now.length:=⟨_,rfl⟩;have f2:A .aN .geq n (A .nat u)=decide (n>=(u:Int)):=by rw[cH A,hA.nat];rfl
 have f3:A .aN .gtr (A .nat m) 64=decide ((l.length:Int)>64):=by rw[bC A,hA.nat,an];rfl
 rw[<-Yf]at g C;generalize pX:D.dead=dd at *;refine fz eZs A Tryz.func189 ?_;cbv;rw[av A];refine cr g ?_;cbv;cases dd with
 |true=>have C:fj D n l.length=15:=C;rw[C,if_pos (by decide)]at W;rw[W]at a;have:=a h (dX.refl _ _) q;clear a;cbv;exact this
 |false=>
  have C:fj D n l.length=if n<0\/n>=(u:Int)\/(l.length:Int)>64 then 1 else 0:=C
  cbv;rw[f1];by_cases H:n<0
  .rw[if_pos (.inl H)]at C;rw[C,if_pos (by decide)]at W;rw[W]at a;have:=a h (dX.refl _ _) q;rw[ak H];clear a;cbv;exact this
  rw[bn H];cbv;rw[av A];refine cr g ?_;cbv;rw[f2];by_cases I:n>=(u:Int)
  .rw[if_pos (.inr (.inl I))]at C;rw[C,if_pos (by decide)]at W;rw[W]at a;have:=a h (dX.refl _ _) q;rw[ak I];clear a;cbv;exact this
  rw[bn I];cbv;rw[f3];by_cases S:(l.length:Int)>64
  .rw[if_pos (.inr (.inr S))]at C;rw[C,if_pos (by decide)]at W;rw[W]at a;have:=a h (dX.refl _ _) q;rw[ak S];clear a;cbv;exact this
  rw[if_neg (λhh=>by rcases hh with h|h|h;exact H h;exact I h;exact S h)]at C;rw[C,if_neg (by decide)]at W;rw[W]at a;have Q:(⟨D.left,false,D.kept,D.now.set n.toNat (eI l),D.ws++[(n,eI l)]⟩:Dk)={ D with now:=D.now.set n.toNat (eI l),ws:=D.ws++[(n,eI l)] }:=by rw[<-pX]
  rw[Q]at a;clear Q;rw[bn S];have I:¬n>=(u:Int):=I;have H:¬n<0:=H;have rW:n.toNat<D.now.length:=by rw[<-Yf];omega
  have T:l.length<=64:=by omega
  have P:aZ n n.toNat:=⟨by omega⟩;have ay:=P.ix (len:=u) (by omega);clear W C f1 f2 f3 S;cbv;intro r h1 N e7;have l1:Le h h1:=by rw[e7];exact Le.set N
  have f:h1 r=zcL 326 (bQA 0 λ_=>0):=(congrFun e7 r).trans ae;have z7:=l0.none N;clear e7;cbv;refine ju f (kB _) (λh2 e8=>?_);have k2:Kp [r] h1 h2:=by rw[e8];exact Kp.set (by simp)
  have f:h2 r=zcL 326 (bQA n λ_=>0):=by rw[e8,ae];exact congrArg (λc=>some (Obj.cells (List.toArray c) 326 (0,0))) (by kernel_rfl)
  have l2:Le h h2:=l1.aV (bs:=[r]) (by simpa using N) k2;obtain⟨J,O⟩:∃J:Nat->Int->ad->Prop,∀w z h',J w z h'=(∃i d,aZ z i/\w=m-i/\i<=m/\Le h h'/\h' r=zcL 326 (bQA n d)/\(∀j x,j<i->l[j]? =some x->d j=(x.toNat:Int))/\(∀j,i<=j->d j=0)):=⟨_,λ_ _ _=>rfl⟩;have dL:J m 0 h2:=by rw[O];exact⟨0,_,⟨rfl⟩,rfl,by omega,l2,f,λj x hj=>by omega,λ_ _=>rfl⟩
  clear e8 k2 f l2 l1;cbv;refine aX.go (G:=Int) (λz=>[(8,.v (.int .i64 z))]) (λ_=>[]) (λw z h'=>J w z h') m 0 (by constructor<;>cbv) dL ?_
  intro w' z h3 hI;rw[O]at hI;cbv;obtain⟨i,d,L,Ox,hi,y,f,yB,HY⟩:=hI;have f6:A .aN .lss z (A .nat m)=decide (i<m):=by rw[aR A,L.eq,hA.nat];exact decide_eq_decide.2 (by show(i:Int)<(m:Int)↔_;omega)
  rw[f6];by_cases hc:i<m
  .rw[ak hc];obtain⟨v,hv⟩:=cB l i;have ib:=L.ix hc;have aw:=L.ix (len:=64) (by omega);have iV:b.isSome=true:=qb.bp;have aU:m-(i+1)<w':=by omega
   obtain⟨F,al⟩:∃F:Int,F=(v.toNat:Int):=⟨_,rfl⟩;have bX:∀h',Le h h'->h' r=zcL 326 ((bQA n d).set (1+i) (.int .u8 F))->J (m-(i+1)) (A .aT .add .i64 z 1) h':=λh' l' g'=>by
    rw[O];rw[aXe n d F (by omega)]at g';refine⟨i+1,_,L.succ (A:=A),rfl,hc,l',g',λj x hj hx=>?_,λj hj=>?_⟩
    .show(if j=i then F else d j)=_;by_cases e:j=i
     .subst e;rw[hv]at hx;cases hx;rw[if_pos rfl,al]
     rw[if_neg e];exact yB j x (by omega) hx
    show(if j=i then F else d j)=_;rw[if_neg (by omega)];exact HY j (by omega)
   clear O dL f6 a yB HY;cbv;refine⟨⟨iV,ib⟩,?_⟩;cbv;refine(qb.mono (y.t _)).load hv L.eq (λcs ar=>?_);have ar:cs=[.int .u8 F]:=by rw[al];exact ar
   subst ar;cbv;rw[av A];refine⟨aw,?_⟩;cbv;refine bZN L f (by show 0+1+i<65;omega) (λh4 V=>?_);have iD:=bX h4 (y.aV (bs:=[r]) (by simpa using N) (by rw[V];exact Kp.set (by simp))) (by rw[V,ae]);clear bX V;cbv;refine⟨_,A .aT .add .i64 z 1,aU,by constructor<;>cbv,iD⟩
  rw[bn hc];have Cf:Qo d=aQ (eI l):=aZk T (λj x hx=>yB j x (by have:=(ff.1 hx).1;omega) hx) (λj hj=>HY j (by omega));have YM:=sF T;have g3:=y _ _ g;have ao:=o1.mono (y.t _);have aq:=o2.mono (y.t _);have w3:=w.mono (y.t _);have uC:=w.sl.len;clear O dL f6 yB HY;cbv;rw[av A];refine cr g3 ?_;cbv;refine cr f ?_;cbv;intro n9 h4 nj e9;have E:Le h3 h4:=by rw[e9];exact Le.set nj
  have q9:Sl 326 Sy h4 (.slice (zsA n9) 1 1) [(n,eI l)]:=bf (s:=Sy) (cs:=bQA n d) ((congrFun e9 n9).trans ae) ⟨by rw[IF,Cf],YM⟩;have g4:=E _ _ g3;have aD:=E _ _ f;have ax:wc=0\/wb≠zsA r:=by
   rcases w.out with⟨b',y1,y2⟩|⟨aF,ij,y1,y2,y3⟩
   .left;cases y1;rfl
   right;cases y1;intro hh;cases hh;exact y3.has N
  clear e9;cbv;try rw[av A]
  refine cr g4 ?_;cbv;refine⟨⟨_,rfl,rfl⟩,?_⟩;cbv;refine(w3.mono (E.t _)).app q9 (by decide) rfl (by decide) (by omega) ((l0.trans y).trans E) (λm5 b5 c5 h5 Kg l5 t5 k5 q5=>?_);have g5:=k5 _ _ g4 (.inr (.inr (λc fr e=>by cases e)));have aC:=k5 _ _ aD (ax.elim .inl (λhh=>.inr (.inl hh)));have Z:dX NR h4 h5:=λbb o hb bS=>k5 bb o hb (.inr (.inr (λc fr e=>bS _ _ _ e (by decide))));have U:=(ao.mono (E.t _)).mono (t5 _ (by decide));have ag:=(aq.mono (E.t _)).mono (t5 _ (by decide));clear k5;cbv;rw[av A];refine ju g5 (by show 3<=5;decide) (λK X=>?_);have k6:Kp [p] h5 K:=by rw[X];exact Kp.set (by simp)
  have Y:∀tys,231∉tys->cO tys h5 K:=λtys hn=>by rw[X];exact cO.set g5 hn
  have g6:K p=zcL 231 [.slice (zsA nb) u nc,.slice (zsA kb) u kc,.slice b5 m5 c5,.int .i64 D.left,.bool false]:=(congrFun X p).trans ae;have aE:r≠p:=λe=>by rw[e,y _ _ g]at f;cases f
  have aB:=k6 _ _ aC (by simpa using aE);have x6:dX NR h K:=((y.trans E).x _).trans (Z.trans (by rw[X];exact gN g5 (by decide)));have zK:=l5.aV (bs:=[p]) (by simpa using z1) k6;have aA:=U.mono (Y _ (by decide));have ab:=ag.mono (Y _ (by decide));have w6:=q5.mono (Y _ (by decide));have fin:∀B,Kp [nb] K B->(∀tys,210∉tys->cO tys K B)->cZ 210 pq B nb nc (D.now.set n.toNat (eI l))->nv h0 B p { D with now:=D.now.set n.toNat (eI l),ws:=D.ws++[(n,eI l)] }/\dX NR h B:=λB M t7 o7=>by
   obtain⟨cn,OU,-⟩:=ab.out;refine⟨⟨kb,kc,nb,nc,b5,m5,c5,?_,?_,o7,?_,e2,w6.mono (t7 _ (by decide)),?_,?_,z1,z2,z3,zK.aV (bs:=[nb]) (by simpa using z3) M⟩,x6.trans (M.x (ex:=NR) (λbb hb o yC=>?_))⟩
   .have:=t7 [231] (by decide) _ _ _ _ (by simp) g6;rw[this,Yf,pX];simp only[nM]
   .exact aA.kp M (by simpa using e2) (λ_ _ _ _ hm _=>by cases hm)
   .simp only[nM];exact e1
   .simp only[nM];exact V
   .simp only[nM];exact e5
   simp at hb;subst hb;rw[OU]at yC;cases yC;exact⟨_,_,_,rfl,by decide⟩
  clear X k6 Y Z x6 zK U ag q5;cbv;rw[av A];refine cr g6 ?_;cbv;rw[av A];refine cr aB ?_;cbv;refine⟨⟨rfl,ay⟩,?_⟩;cbv;refine ab.setAt (s:=pq) (by simp[pq]) (i:=n.toNat) rW P.eq rfl (cs:=Qo d) (x:=eI l) ⟨Cf,YM⟩ (λB M t7 o7=>?_);obtain⟨r7,x7⟩:=fin B M t7 o7;clear fin M t7 o7;cbv;refine dQf r7 pX hl (λh8 x8 r8=>?_);have a:k (.int .i64 (if(eM { D with now:=D.now.set n.toNat (eI l),ws:=D.ws++[(n,eI l)] }).1 then 15 else 0)) h8:=a h8 (x7.trans x8) r8;generalize eM { D with now:=D.now.set n.toNat (eI l),ws:=D.ws++[(n,eI l)] }=R at *;obtain⟨t,D9⟩:=R;cases t with
  |true=>cbv;exact a
  |false=>cbv;exact a
theorem dJZ(P:0<D.now.length):fj D 0 0=if D.dead then 15 else 0:=by
 unfold fj;split
 .rfl
 rw[if_neg];rintro(h|h|h)<;>omega
theorem Ru(q:nv h0 h p D)
 (r:∀h' n c e,e=(if D.dead then 15 else 0:Int)->(D.dead=false->n=uZ (dp D 0)/\c=uZ ((dp D 0).drop 8))->Le h h'->k (.tuple #[.int .i64 n,.int .i64 c,.int .i64 e]) h'):
 Ct 195 [.zP p] h k:=by
 obtain⟨A,V⟩:=Ar.ex;have f:A .aN .neq 15 0=true:=by rw[az A];rfl
 have C:A .aN .neq 0 0=false:=by rw[az A];rfl
 have j:0<D.now.length:=by obtain⟨W,kc,nb,nc,wb,wn,wc,g,o1,o2,e1,L,w,M,u,z⟩:=q.out;exact u
 have Q:=dJZ j;refine fz eZm A Tryz.func195 ?_;cbv;refine Py q 0 (λS=>?_) (λb P J K l1 E t Z F=>?_)
 .have X:D.dead=true:=by
   cases hd:D.dead with
   |true=>rfl
   |false=>rw[Q,hd]at S;exact absurd rfl S
  have b:fj D 0 0=15:=by rw[Q,X];rfl
  have:=r h 0 0 15 (by rw[X];rfl) (λo=>by rw[X]at o;cases o) (Le.refl _);rw[b];cbv;rw[f];cbv;exact this
 have X:D.dead=false:=by
  cases hd:D.dead with
  |false=>rfl
  |true=>rw[Q,hd]at b;cases b
 subst E;have i:aO 8 (some (dp D 0))=(nf ((dp D 0).take 8),some ((dp D 0).drop 8)):=by simp only[aO,eP];rw[if_pos (by omega)]
 have l:aO 8 (some ((dp D 0).drop 8))=(nf (((dp D 0).drop 8).take 8),some (((dp D 0).drop 8).drop 8)):=by simp only[aO,eP];rw[if_pos (by rw[iz];omega)]
 have a:IntKind.i64.wrap ((aO 8 (some (dp D 0))).1:Int)=uZ (dp D 0):=by rw[i];rfl
 have N:IntKind.i64.wrap ((aO 8 (some ((dp D 0).drop 8))).1:Int)=uZ ((dp D 0).drop 8):=by rw[l];rfl
 have O:(aO 8 (some (dp D 0))).2=some ((dp D 0).drop 8):=by rw[i]
 clear i l;cbv;rw[C];cbv;refine MY F.sl (λR pr Y y G=>?_);cbv;refine Db G (λT H U v s=>?_);rw[O]at s;rw[a]at U;cbv;refine Db s (λm I d x r4=>?_);rw[N]at d;have B:Le h m:=Z.trans (y.aV (by simpa using Y) (v.trans x));have:=r m H I 0 (by rw[X];rfl) (λ_=>⟨U,d⟩) B;clear a N O U d;cbv;exact this
theorem nv.pg(q:nv h0 h p D){b:Bs}(d:b∈D.now):b.length=64:=by obtain⟨n,kc,r,s,t,v,u,g,o1,o2,e1,f,w,j,k,z,x,y,o⟩:=q.out;obtain⟨c,l,a,m⟩:=o2.out;obtain⟨i,e⟩:=jKA.1 d;exact(a.2 i b e).2
theorem nv.max(q:nv h0 h p D):D.now.length<=4096:=by obtain⟨k,kc,n,c,d,i,f,g,o1,o2,e1,a,w,e,b,z,j,m,l⟩:=q.out;exact e
theorem Hz(q:nv h0 h p D):(dE D).length=64*(D.now.length-1):=by unfold dE;rw[sS (λb a=>q.pg (jKd a)),iz]
theorem eJK(q:nv h0 h p D)(hd:D.dead=false){z:Int}{n:Nat}(K:aZ z n)
 (hk:∀h' b m c,Le h h'->Sl 5 cj h' (.slice b m c) ((dE D).take n)->k (.slice b m c) h'):
 Ct 296 [.zP p,.int .i64 z] h k:=by
 have Yn:=q.max;obtain⟨kb,kc,nb,nc,wb,wn,wc,g,o1,o2,e1,e2,w,e4,e5,z1,z2,z3,l0⟩:=q.out;obtain⟨P,Z⟩:∃P,P=D.now.length:=⟨_,rfl⟩;rw[<-Z]at g;obtain⟨J,e⟩:∃J:Nat->(Int×Option Addr×Nat×Nat)->ad->Prop,∀w g h',J w g h'=(∃i,aZ g.1 (i+1)/\w=P-i/\i+1<=P/\Le h h'/\bt 5 cj h h' (.slice g.2.1 g.2.2.1 g.2.2.2) (((D.now.drop 1).take i).flatten)):=⟨_,λ_ _ _=>rfl⟩;have v:J P (1,none,0,0) h:=by rw[e];exact⟨0,⟨rfl⟩,rfl,by omega,Le.refl _,bt.nil⟩
 refine cg eQz Tryz.func296 λA t=>?_;cbv;refine aX.go (G:=Int×Option Addr×Nat×Nat) (λg=>[(6,.v (.int .i64 g.1)),(5,.v (.slice g.2.1 g.2.2.1 g.2.2.2))]) (λ_=>[]) (λw g h'=>J w g h') P (1,none,0,0) (by constructor<;>cbv) v ?_
 intro w' R B I;rw[e]at I;cbv;obtain⟨a,b,m,c⟩:=R;obtain⟨i,u,Ox,hi,y,j⟩:=I;have u:aZ a (i+1):=u;have j:bt 5 cj h B (.slice b m c) (((D.now.drop 1).take i).flatten):=j;have V:=y _ _ g;have hm:=j.sl.len;have ab:m=64*i:=by rw[hm,sS (λx hx=>q.pg (jKd (jKk hx))),eA,iz];congr 1;omega
 have r:A .aN .lss a (A .nat P)=decide (i+1<P):=by rw[aR A,u.eq,t.nat];exact decide_eq_decide.2 (by show((i+1:Nat):Int)<(P:Int)↔_;omega)
 have s:A .aN .lss (A .nat m) z=decide (m<n):=by rw[aR A,K.eq,t.nat];exact decide_eq_decide.2 (by show(m:Int)<(n:Int)↔_;omega)
 obtain⟨f,T⟩:∃f,f=A .my z (A .nat m):=⟨_,rfl⟩;have Q:aZ f (min n m):=⟨by rw[T,t.my,t.nat,K.eq];show min (n:Int) (m:Int)=_;omega⟩;have jQ:=j.sl.bound;have fin:¬(i+1<P/\m<n)->(0<=f/\f<=(c:Int))/\k (.slice (A .cut b 0 (A .nat c) 1) (A .nt f 0) c) B:=λhn=>by
  refine⟨by have:=Q.eq;omega,?_⟩;rw[dy (A:=A) Q];have H:=j.sl.vo (A:=A) (z:=A .nat c) (i:=min n m) (by omega) rfl;have he:(((D.now.drop 1).take i).flatten).take (min n m)=(dE D).take n:=by
   have hr:=Hz q;have N:dE D=((D.now.drop 1).take i).flatten++((D.now.drop 1).drop i).flatten:=by unfold dE;rw[<-List.flatten_append,jKu]
   rw[N];by_cases ag:m<n
   .have h0:(D.now.drop 1).drop i=[]:=jKz (by rw[iz];omega);rw[h0,List.flatten_nil,vv];generalize ((D.now.drop 1).take i).flatten=fl at *;rw[ie (show fl.length<=min n m by omega),ie (show fl.length<=n by omega)]
   rw[kQl (by omega),jKf (by omega)]
  rw[he]at H;exact hk B _ _ _ y H
 rw[av A];refine cr V ?_;cbv;rw[r];by_cases l:i+1<P
 .rw[ak l];cbv;rw[s];by_cases o:m<n
  .rw[ak o];have O:fj D a 0=0:=by unfold fj;rw[hd];show(if _ then(1:Int)else 0)=0;rw[if_neg];have:=u.eq;rintro(L|L|L)<;>omega
   have E:((D.now.drop 1).take (i+1)).flatten=((D.now.drop 1).take i).flatten++dp D a:=by
    obtain⟨x,hx⟩:=cB D.now (i+1);have e1:dp D a=x:=by unfold dp;rw[show a.toNat=i+1 by have:=u.eq;omega,hx];rfl
    rw[e1];exact gX (by rw[rB,kQh];exact hx)
   have F:∀h' d m' c',Le h h'->bt 5 cj h h' (.slice d m' c') (((D.now.drop 1).take i).flatten++dp D a)->J (P-(i+1)) (A .aT .add .i64 a 1,d,m',c') h':=λh' d m' c' l' q'=>by
    rw[e];exact⟨i+1,u.succ (A:=A),rfl,l,l',by rw[E];exact q'⟩
   have U:P-(i+1)<w':=by omega
   clear e v fin r s E T Q;cbv;refine Py (q.le y) a (λS=>absurd O S) (λ_ h2 b2 o l2 lq Y X q2=>?_);subst lq;have M:=j.mono (X.t _);generalize dp D a=pg at *;cbv;refine M.app q2.sl (by decide) rfl (by decide) (by omega) (y.trans X) (λm' d c' W GS l3 t3 k3 q3=>?_);have iD:=F W d m' c' l3 q3;clear F k3;cbv;refine⟨P-(i+1),(A .aT .add .i64 a 1,d,m',c'),U,by constructor<;>cbv,iD⟩
  rw[bn o];have:=fin (λC=>o C.2);rw[T]at this;clear e v fin r s T Q;cbv;refine⟨this.1,?_⟩;have:=this.2;cbv;exact this
 rw[bn l];have:=fin (λC=>l C.1);rw[T]at this;clear e v fin r s T Q;cbv;refine⟨this.1,?_⟩;have:=this.2;cbv;exact this
def eQ:Nat->Bs->List Bs×Bool
 |0,b=>([],b.isEmpty)
 |f+1,b=>if b.length=0 then([],true)else if b.length<8 then([],false)else if ep b<0\/ep b>(b.length:Int)-8 then([],false)else
  let r:=eQ f (b.drop (8+(ep b).toNat))
  ((b.drop 8).take (ep b).toNat::r.1,r.2)
theorem UB{bs:Bs}(q:Sl 5 cj h (.slice b m c) bs)(hm:m<=2^30)
 (hk:∀h' b1 m1 E,Le h h'->Sl 176 sC h' (.slice b1 m1 E) (eQ bs.length bs).1->k (.tuple #[.slice b1 m1 E,.bool (eQ bs.length bs).2]) h'):
 Ct 295 [.slice b m c] h k:=by
 have ar:=q.len;obtain⟨J,D⟩:∃J:Nat->((Option Addr×Nat×Nat)×Option Addr×Nat×Nat)->ad->Prop,∀w g h',J w g h'=(∃u O f,w=g.1.2.1/\u.length<=f/\u.length+8*O.length<=bs.length/\Le h h'/\Sl 5 cj h' (.slice g.1.1 g.1.2.1 g.1.2.2) u/\
  bt 176 sC h h' (.slice g.2.1 g.2.2.1 g.2.2.2) O/\eQ bs.length bs=(O++(eQ f u).1,(eQ f u).2)):=⟨_,λ_ _ _=>rfl⟩
 have hJ:J m ((b,m,c),none,0,0) h:=by rw[D];exact⟨bs,[],bs.length,rfl,kB _,by simp,Le.refl _,q,bt.nil,rfl⟩
 refine cg eQA Tryz.func295 λA hA=>?_;cbv;refine aX.go (G:=(Option Addr×Nat×Nat)×Option Addr×Nat×Nat) (λg=>[(0,.v (.slice g.1.1 g.1.2.1 g.1.2.2)),(4,.v (.slice g.2.1 g.2.2.1 g.2.2.2))]) (λ_=>[]) (λw g h'=>J w g h') m ((b,m,c),none,0,0) (by constructor<;>cbv) hJ ?_
 intro w g y hI;rw[D]at hI;cbv;obtain⟨⟨V,a,d⟩,ob,om,oc⟩:=g;obtain⟨u,O,f,hw,hf,aw,l1,C,M,r⟩:=hI;have hw:w=a:=hw;have C:Sl 5 cj y (.slice V a d) u:=C;have M:bt 176 sC h y (.slice ob om oc) O:=M;have nq:=C.len;have jQ:=C.bound;have ax:=M.sl.len;have f0:A .aN .gtr (A .nat a) 0=decide (0<a):=by rw[bC A,hA.nat];exact decide_eq_decide.2 (by rw[rz];omega)
 have f1:A .aN .lss (A .nat a) 8=decide (a<8):=by rw[aR A,hA.nat];exact decide_eq_decide.2 (by rw[rz];omega)
 have fin:∀H,Le y H->∀t,eQ f u=([],t)->k (.tuple #[.slice ob om oc,.bool t]) H:=λH K t l=>by
  rw[l]at r;simp only[vv]at r;rw[r]at hk;exact hk H ob om oc (l1.trans K) (M.sl.mono (K.t _))
 rw[f0];by_cases c0:0<a
 .rw[ak c0];obtain⟨j,rfl⟩:∃j,f=j+1:=⟨f-1,by omega⟩;have hR:eQ (j+1) u=if u.length=0 then([],true)else if u.length<8 then([],false)else if ep u<0\/ep u>(u.length:Int)-8 then([],false)else
   ((u.drop 8).take (ep u).toNat::(eQ j (u.drop (8+(ep u).toNat))).1,(eQ j (u.drop (8+(ep u).toNat))).2):=rfl
  rw[if_neg (by omega)]at hR;cbv;rw[f1];by_cases E:a<8
  .rw[ak E];have:=fin y (Le.refl _) false (by rw[hR,if_pos (by omega)]);clear D hJ r fin hR;cbv;exact this
  rw[bn E];rw[if_neg (by omega)]at hR;have I:((u.length:Nat):Int)-8=(a:Int)-8:=by rw[nq]
  have pH:aO 8 (some (u.take 8))=(nf (u.take 8),some []):=dQJ _ (by rw[eA];omega);have mC:(0:Int)<=8/\(8:Int)<=(d:Int):=by omega
  have d8:A .nt 8 0=8:=dy ⟨rfl⟩;have t8:=C.vo (A:=A) (z:=A .nat d) (i:=8) (by omega) rfl;have N:ep u<0->eQ (j+1) u=([],false):=λo=>by rw[hR,if_pos (.inl o)]
  have Y:ep u>(a:Int)-8->eQ (j+1) u=([],false):=λo=>by rw[hR,if_pos (.inr (I ▸ o))]
  have X:¬ep u<0->¬ep u>(a:Int)-8->aZ (ep u) (ep u).toNat/\8+(ep u).toNat<=a/\(u.drop (8+(ep u).toNat)).length<=j/\eQ bs.length bs=((O++[(u.drop 8).take (ep u).toNat])++(eQ j (u.drop (8+(ep u).toNat))).1,(eQ j (u.drop (8+(ep u).toNat))).2)/\u.length-(8+(ep u).toNat)+8*(O.length+1)<=bs.length:=λwj ao=>by
   rw[if_neg (λo=>o.elim wj (λo=>ao (I ▸ o)))]at hR;refine⟨⟨by omega⟩,by omega,by rw[iz];omega,?_,by omega⟩;rw[r,hR,ym];rfl
  have hB:om+1<=2^39:=by omega
  clear hJ hR r;cbv;refine⟨mC,?_⟩;cbv;rw[d8];refine MY t8 (λH p hp K r2=>?_);cbv;refine Db r2 (λB x3 U k3 r3=>?_);rw[pH]at U;have L:Le y B:=K.aV (by simpa using hp) k3;have U:x3=ep u:=U;have NT:=C.mono (L.t [5]);have ag:=M.mono (L.t [176,5]);clear pH r3 r2 k3 t8 d8 mC hp K;rw[U];clear U;generalize ep u=z at *;have f3:A .aN .lss z 0=decide (z<0):=aR A ..;have ku:A .aT .sub .i64 (A .nat a) 8=(a:Int)-8:=by rw[hA.aT,hA.nat];show IntKind.i64.wrap ((a:Int)-8)=_;rw[IntWalk.i64_in _ (by omega)]
  have S:A .aN .gtr z (A .aT .sub .i64 (A .nat a) 8)=decide (z>(a:Int)-8):=by rw[ku];exact bC A ..
  by_cases F:z<0
  .have l:=N F;have:=fin B L _ l;clear N Y X fin l;cbv;rw[f3,ak F];cbv;exact this
  by_cases P:z>(a:Int)-8
  .have l:=Y P;have:=fin B L _ l;rw[ak P]at S;clear N Y X fin l;cbv;rw[f3,bn F];cbv;rw[S];cbv;exact this
  rw[bn P]at S;obtain⟨ll,OI,qQ,r,lq⟩:=X F P;generalize z.toNat=n at *;have W:aZ 8 8:=⟨rfl⟩;have T:aZ (A .aT .add .i64 8 z) (8+n):=W.add (A:=A) ll (by omega);have jC:0<=A .aT .add .i64 8 z/\A .aT .add .i64 8 z<=(d:Int)/\0<=(8:Int)/\(8:Int)<=A .aT .add .i64 8 z:=by have:=T.eq;omega
  have zh:0<=A .aT .add .i64 8 z/\A .aT .add .i64 8 z<=(a:Int):=by have:=T.eq;omega
  have Ua:A .nt (A .aT .add .i64 8 z) 8=n:=by rw[JO (A:=A) T W];omega
  have Kn:A .nt (A .nat d) 8=d-8:=cJ (A:=A) W;have Rf:=cJ (A:=A) (n:=a) T;have R:=cJ (A:=A) (n:=d) T;have tm:=NT.bJW (A:=A) W (m:=n) (by omega) rfl;have td:=NT.jD (A:=A) T (by omega) rfl rfl;have bX:∀h' m' v c',Le h h'->Sl 5 cj h' (.slice (A .cut V (A .aT .add .i64 8 z) (A .nat d) 1) (a-(8+n)) (d-(8+n))) (u.drop (8+n))->bt 176 sC h h' (.slice v m' c') (O++[(u.drop 8).take n])->
   J (a-(8+n)) ((A .cut V (A .aT .add .i64 8 z) (A .nat d) 1,a-(8+n),d-(8+n)),v,m',c') h':=λh' m' v c' l' s' q'=>by
   rw[D];exact⟨_,_,j,rfl,qQ,by rw[cy,iz];exact lq,l',s',q',r⟩
  have aU:a-(8+n)<w:=by omega
  obtain⟨Z,e⟩:∃x,x=a-(8+n):=⟨_,rfl⟩;obtain⟨ab,Q⟩:∃x,x=d-(8+n):=⟨_,rfl⟩;obtain⟨ay,an⟩:∃x,x=d-8:=⟨_,rfl⟩;rw[<-e,<-Q]at bX;rw[<-e]at aU;rw[<-e]at Rf;rw[<-Q]at R;rw[<-an]at Kn tm;rw[<-e,<-Q]at td;clear fin r hk N Y X D;cbv;rw[f3,bn F];cbv;rw[S];cbv;intro n4 h4 FA e4;have l4:Le B h4:=by rw[e4];exact Le.set FA
  clear e4;cbv;refine⟨jC,?_⟩;cbv;rw[Ua,Kn];have o4:bt 5 cj B h4 (.slice (zsA n4) 0 0) []:=bt.nil;refine o4.app (tm.mono (l4.t _)) (by decide) rfl (by decide) (by omega) l4 (λm4 b4 uV h5 Bu l5 t5 k5 q5=>?_);have Oj:Le B h5:=l5;have al:=td.mono (l5.t _);have aq:=ag.mono (l5.t _);have q5:Sl 5 cj h5 (.slice b4 m4 uV) ((u.drop 8).take n):=by simpa using q5.sl
  clear k5;cbv;intro n6 h6 LS e6;have l6:Le h5 h6:=by rw[e6];exact Le.set LS
  have q6:Sl 176 sC h6 (.slice (zsA n6) 1 1) [(u.drop 8).take n]:=bf (s:=sC) ((congrFun e6 n6).trans ae) ⟨_,rfl,q5.mono (l6.t _)⟩;clear e6;cbv;refine(aq.mono (l6.t _)).app q6 (by decide) rfl (by decide) hB ((l1.trans L).trans (Oj.trans l6)) (λm' v c' h7 GS l7 t7 k7 q7=>?_);have iD:=bX h7 m' v c' l7 ((al.mono (l6.t _)).mono (t7 _ (by decide))) q7;clear bX k7;cbv;refine⟨zh,?_⟩;cbv;rw[Rf,R];refine⟨Z,((A .cut V (A .aT .add .i64 8 z) (A .nat d) 1,Z,ab),v,m',c'),aU,by constructor<;>cbv,iD⟩
 rw[bn c0];have:=fin y (Le.refl _) true (by
  have:u=[]:=kh (by omega);subst this;cases f<;>rfl)
 clear D hJ r fin;cbv;exact this
def jB(D:Dk):Nat:=64*(D.now.length-1)
def Qg(D:Dk)(n c:Int):List Bs×Bool:=
 let b:=(dE D).take (max (min n (jB D)) 0).toNat;let r:=eQ b.length b
 (r.1,r.2&&(decide (n>=0)&&(decide (n<=(jB D:Nat))&&decide (c=(r.1.length:Nat)))))
def Hw(D:Dk):List Bs×Bool:=if D.dead then([],false)else Qg D (uZ (dp D 0)) (uZ ((dp D 0).drop 8))
theorem nv.pos(q:nv h0 h p D):0<D.now.length:=by obtain⟨k,kc,n,c,d,i,f,g,o1,o2,e1,a,w,b,e,z⟩:=q.out;exact e
theorem cZt(q:nv h0 h p D)
 (a:∀h' b m c l w,(l,w)=Hw D->Le h h'->Sl 176 sC h' (.slice b m c) l->k (.tuple #[.slice b m c,.bool w]) h'):
 Ct 196 [.zP p] h k:=by
 obtain⟨A,f⟩:=Ar.ex;have t:A .aN .neq 15 0=true:=by rw[az A];rfl
 have mY:A .aN .neq 0 0=false:=by rw[az A];rfl
 have Y:=q.max;have mP:=q.pos;have tq:=Hz q;have J:Hw D=if D.dead then([],false)else Qg D (uZ (dp D 0)) (uZ ((dp D 0).drop 8)):=rfl
 obtain⟨kb,kc,nb,nc,wb,wn,wc,g,-⟩:=q.out;obtain⟨P,E⟩:∃P,P=D.now.length:=⟨_,rfl⟩;have i:jB D=64*(P-1):=by rw[E];rfl
 rw[<-E]at g Y mP tq;refine fz eZl A Tryz.func196 ?_;cbv;refine Ru q (λS n c e j U o=>?_);cases X:D.dead with
 |true=>rw[X,if_pos rfl]at j;rw[X,if_pos rfl]at J;have:=a S none 0 0 [] false J.symm o Sl.nil;rw[j];clear J;cbv;rw[t];cbv;exact this
 |false=>
  rw[X,if_neg (by decide)]at j;rw[X,if_neg (by decide),<-(U X).1,<-(U X).2]at J;rw[j];have R:=o _ _ g;obtain⟨z,G⟩:∃z,z=A .aT .mul .i64 (A .aT .sub .i64 (A .nat P) 1) 64:=⟨_,rfl⟩;have K:aZ z (jB D):=⟨by
   rw[G,f.aT,f.nat,i];show IntKind.i64.wrap (IntKind.i64.wrap ((P:Int)-1)*64)=_;rw[IntWalk.i64_in ((P:Int)-1) (by omega),IntWalk.i64_in _ (by omega)];omega⟩
  obtain⟨u,N⟩:∃u,u=A .imax (A .my n z) 0:=⟨_,rfl⟩;have v:aZ u (max (min n (jB D)) 0).toNat:=⟨by
   rw[N,f.imax,f.my,K.eq];show max (min n _) 0=_;omega⟩
  have F:Qg D n c=((eQ ((dE D).take (max (min n (jB D)) 0).toNat).length ((dE D).take (max (min n (jB D)) 0).toNat)).1,(eQ ((dE D).take (max (min n (jB D)) 0).toNat).length ((dE D).take (max (min n (jB D)) 0).toNat)).2&&(decide (n>=0)&&(decide (n<=(jB D:Nat))&&decide (c=((eQ ((dE D).take (max (min n (jB D)) 0).toNat).length ((dE D).take (max (min n (jB D)) 0).toNat)).1.length:Nat))))):=rfl;have s:((dE D).take (max (min n (jB D)) 0).toNat).length<=2^30:=by rw[eA];omega
  have B:A .aN .geq n 0=decide (n>=0):=cH A ..;have O:A .aN .leq n z=decide (n<=(jB D:Nat)):=by rw[QA A,K.eq]
  clear i;generalize jB D=L at *;cbv;rw[mY];cbv;rw[av A];refine cr R ?_;cbv;rw[<-G,<-N];refine eJK (q.le o) X v (λh2 x m2 c2 V H=>?_);generalize (dE D).take (max (min n L) 0).toNat=bs at *;cbv;refine UB H (by rw[H.len];exact s) (λC d r y l3 I=>?_);have Q:A .aN .eql c (A .nat r)=decide (c=((eQ bs.length bs).1.length:Nat)):=by rw[au A,f.nat,<-I.len];rfl
  have a:∀w,w=((eQ bs.length bs).2&&(decide (n>=0)&&(decide (n<=(L:Nat))&&decide (c=((eQ bs.length bs).1.length:Nat)))))->k (.tuple #[.slice d r y,.bool w]) C:=λw T=>a C d r y (eQ bs.length bs).1 w (by rw[J,F,T]) ((o.trans V).trans l3) I;rw[<-B,<-O,<-Q]at a;clear F J K v;generalize (eQ bs.length bs).2=w at *;have B:A .aN .geq n 0=A .aN .geq n 0:=rfl;generalize W:A .aN .geq n 0=M at *;generalize Z:A .aN .leq n z=x at *;generalize xU:A .aN .eql c (A .nat r)=d at *;cbv;cases w with
  |false=>have:=a false rfl;cbv;exact this
  |true=>
   cbv;rw[W];cases M with
   |false=>have:=a false rfl;cbv;exact this
   |true=>
    cbv;rw[Z];cases x with
    |false=>have:=a false rfl;cbv;exact this
    |true=>cbv;rw[xU];have:=a d (by cases d<;>rfl);cbv;exact this
def LB(D:Dk):Prop:=0<=D.left/\D.left<2^63
theorem EE(q:LB D):LB (eM D).2:=by
 unfold LB at *;unfold eM;split
 .rename_i h;split
  .exact⟨by show(0:Int)<=0;omega,by show(0:Int)<2^63;omega⟩
  have e:IntKind.i64.wrap (D.left+ -1)=D.left+ -1:=IntWalk.i64_in _ (by omega);show 0<=IntKind.i64.wrap (D.left+ -1)/\IntKind.i64.wrap (D.left+ -1)<2^63;rw[e];omega
 exact q
theorem nJ(q:LB D)(n:Int)(l:Bs):LB (bJ D n l).2:=by
 unfold bJ;split
 .exact q
 exact EE (D:={ D with now:=D.now.set n.toNat (eI l),ws:=D.ws++[(n,eI l)] }) q
theorem vr(q:LB D):LB (dw D).2:=by
 unfold dw;split
 .exact q
 split
 .exact EE q
 exact EE q
theorem Ei:∀(n:Nat) (D:Dk) (pg:Nat) (b:Bs),b.length<=n->LB D->LB (dI D pg b).2:=λn=>by
 induction n with
 |zero=>intro D pg b h q;have:b=[]:=kh (by omega);rw[dI,dif_pos this];exact vr q
 |succ n i=>
  intro D pg b h q;rw[dI];split
  .exact vr q
  rename_i S;have m:=jKF.2 S;split
  .exact nJ q ..
  exact i _ _ _ (by rw[iz];omega) (nJ q ..)
theorem sE(q:LB D)(s:Nat)(b:Bs):LB (cD D s b).2:=by
 unfold cD;split
 .exact Ei _ _ _ _ (kB _) q
 split
 .exact q
 exact Ei _ _ _ _ (kB _) q
structure Rt(h0 h:ad)(lg p:Nat)(s n:Int):Prop where
 out:h lg=zcL 353 [.zP p,.int .i64 s,.int .i64 n]
 new:h0 lg=none
theorem Rt.lt{h':ad}{g:Nat}{s n:Int}(q:Rt h0 h g p s n)(l:cO [353] h h'):Rt h0 h' g p s n:=⟨l _ _ _ _ (by decide) q.out,q.new⟩
theorem cZu(q:nv h0 h p D)(hd:D.dead=false){l:List Bs}(z:Hw D=(l,true))
 (f:∀h' g b m c,Le h h'->Rt h0 h' g p (uZ (dp D 0)) (uZ ((dp D 0).drop 8))->Sl 176 sC h' (.slice b m c) l->k (.tuple #[.zP g,.slice b m c,.int .i64 0]) h'):
 Ct 88 [.zP p] h k:=by
 obtain⟨A,y⟩:=Ar.ex;have Y:A .aN .neq 0 0=false:=by rw[az A];rfl
 refine fz hJy A Tryz.func88 ?_;cbv;refine Ru q (λC n c e r U i=>?_);rw[hd,if_neg (by decide)]at r;rw[r];obtain⟨s,o⟩:=U hd;rw[<-s,<-o]at f;clear s o U;cbv;rw[Y];cbv;refine cZt (q.le i) (λx b m v E w a t B=>?_);rw[z]at a;injection a with hl a
 subst hl;rw[a];have T:A .not true=false:=by rw[y.not];rfl
 cbv;rw[T];cbv;intro g j X d;have u:Le x j:=by rw[d];exact Le.set X
 have:=f j g b m v ((i.trans t).trans u) ⟨(congrFun d g).trans ae,(q.base.trans (i.trans t)).none X⟩ (B.mono (u.t _));clear d f;cbv;exact this
set_option maxHeartbeats 8000000
abbrev aXX:List Nat:=[353,231,210,326]
theorem JW(hd:D.dead=true)(s n:Nat){l:Bs}(c:¬l.length>65536)(d:¬((l.length:Int)+8>((D.now.length:Int)-1)*64-s)):aY ⟨D,s,n⟩ l=(15,⟨D,s,n⟩):=by
 have a:∀x y,fj D x y=15:=λx y=>by unfold fj;rw[hd];rfl
 have w:∀pg b,b≠[]->dI D pg b=(15,D):=λpg b f=>by
  have e:bJ D (pg:Int) (b.take 64)=(15,D):=by unfold bJ;rw[a];rfl
  rw[dI,dif_neg f,e];rfl
 have h:=bY (l.length:Int);have p:cD D s (cF (l.length:Int)++l)=(15,D):=by
  unfold cD;split
  .exact w _ _ (λe=>by have:=congrArg List.length e;rw[cy,h]at this;simp at this)
  rw[a];rfl
 show(if l.length>65536 then _ else if _ then _ else _)=_;rw[if_neg c,if_neg d,p];rfl
theorem Bn{I:Nat}{g:Lg}(q:nv h0 h p g.D)(hl:LB g.D)(ql:Rt h0 h I p (g.s:Int) (g.n:Int)){e1:Nat}{l:Bs}(qb:Sl e1 cj h (.slice b m c) l)(hs:g.s<=64*(g.D.now.length-1))(hn:g.n<=2^29)(hm:m<=2^28)(hw:g.D.ws.length<=2^28)
 (j:∀h',dX aXX h h'->nv h0 h' p (aY g l).2.D->Rt h0 h' I p ((aY g l).2.s:Int) ((aY g l).2.n:Int)->k (.int .i64 (aY g l).1) h'):
 Ct 83 [.zP I,.slice b m c] h k:=by
 obtain⟨A,K⟩:=Ar.ex;obtain⟨D,s,n⟩:=g;have q:nv h0 h p D:=q;have ql:Rt h0 h I p (s:Int) (n:Int):=ql;have hs:s<=64*(D.now.length-1):=hs;have hn:n<=2^29:=hn;have hl:LB D:=hl;have hw:D.ws.length<=2^28:=hw;have bq:=qb.len;have Yn:=q.max;have mP:=q.pos;have mY:A .aN .neq 0 0=false:=by rw[az A];rfl
 have Yo:A .nat m=(l.length:Int):=by rw[K.nat,bq];rfl
 have f1:A .aN .gtr (A .nat m) 65536=decide (l.length>65536):=by rw[Yo,bC A];exact decide_eq_decide.2 (by omega)
 have w:∀z:Int,-9223372036854775808<=z/\z<=9223372036854775807->IntKind.i64.wrap z=z:=IntWalk.i64_in;obtain⟨P,bc⟩:∃P,P=D.now.length:=⟨_,rfl⟩;have f2:A .aN .gtr (A .aT .add .i64 (A .nat m) 8) (A .aT .sub .i64 (A .aT .mul .i64 (A .aT .sub .i64 (A .nat P) 1) 64) (s:Int))=decide ((l.length:Int)+8>((D.now.length:Int)-1)*64-s):=by
  have e1:A .aT .add .i64 (A .nat m) 8=(l.length:Int)+8:=by rw[Yo,K.aT];exact w _ (by omega)
  have e2:A .aT .sub .i64 (A .nat P) 1=(D.now.length:Int)-1:=by rw[bc,K.nat,K.aT];exact w _ (by show _<=((D.now.length:Int))-1/\((D.now.length:Int))-1<=_;omega)
  have e3:A .aT .mul .i64 ((D.now.length:Int)-1) 64=((D.now.length:Int)-1)*64:=by rw[K.aT];exact w _ (by omega)
  have e4:A .aT .sub .i64 (((D.now.length:Int)-1)*64) (s:Int)=((D.now.length:Int)-1)*64-s:=by rw[K.aT];exact w _ (by omega)
  rw[e1,e2,e3,e4,bC A]
 have ab:A .aT .add .i64 (A .aT .add .i64 (s:Int) 8) (A .nat m)=((s+8+l.length:Nat):Int):=by
  have e1:A .aT .add .i64 (s:Int) 8=(s:Int)+8:=by rw[K.aT];exact w _ (by omega)
  rw[e1,Yo,K.aT];show IntKind.i64.wrap ((s:Int)+8+(l.length:Int))=_;rw[w _ (by omega)];omega
 have an:A .aT .add .i64 (n:Int) 1=((n+1:Nat):Int):=by rw[K.aT];show IntKind.i64.wrap ((n:Int)+1)=_;rw[w _ (by omega)];omega
 have a:aY ⟨D,s,n⟩ l=if l.length>65536 then(5,⟨D,s,n⟩)
  else if(l.length:Int)+8>((D.now.length:Int)-1)*64-s then(14,⟨D,s,n⟩)
  else if(cD D s (cF (l.length:Int)++l)).1≠0 then((cD D s (cF (l.length:Int)++l)).1,⟨(cD D s (cF (l.length:Int)++l)).2,s,n⟩)
  else if(bJ (cD D s (cF (l.length:Int)++l)).2 0 (rI (s+8+l.length) (n+1))).1≠0 then((bJ (cD D s (cF (l.length:Int)++l)).2 0 (rI (s+8+l.length) (n+1))).1,⟨(bJ (cD D s (cF (l.length:Int)++l)).2 0 (rI (s+8+l.length) (n+1))).2,s,n⟩)
  else if(dw (bJ (cD D s (cF (l.length:Int)++l)).2 0 (rI (s+8+l.length) (n+1))).2).1≠0 then((dw (bJ (cD D s (cF (l.length:Int)++l)).2 0 (rI (s+8+l.length) (n+1))).2).1,⟨(dw (bJ (cD D s (cF (l.length:Int)++l)).2 0 (rI (s+8+l.length) (n+1))).2).2,s,n⟩)
  else(0,⟨(dw (bJ (cD D s (cF (l.length:Int)++l)).2 0 (rI (s+8+l.length) (n+1))).2).2,s+8+l.length,n+1⟩):=rfl
 have aC:=HF D s (cF (l.length:Int)++l);rw[cy,bY]at aC;have QR:=λhd:D.dead=true=>JW hd s n (l:=l);have N:cD D s (cF (l.length:Int)++l)=if s % 64=0 then dI D (1+s / 64) (cF (l.length:Int)++l)
  else if fj D ((1+s / 64:Nat):Int) 0≠0 then(fj D ((1+s / 64:Nat):Int) 0,D)
  else dI D (1+s / 64) ((dp D ((1+s / 64:Nat):Int)).take (s % 64)++(cF (l.length:Int)++l)):=rfl
 have ch:=sE hl s (cF (l.length:Int)++l);have AI:A .aT .rem .i64 (s:Int) 64=((s % 64:Nat):Int):=by rw[K.aT];show((s:Int)).tmod 64=_;rw[jKU (by omega)];omega
 have Cf:A .aT .add .i64 (A .aT .quo .i64 (s:Int) 64) 1=((1+s / 64:Nat):Int):=by
  have y:A .aT .quo .i64 (s:Int) 64=((s / 64:Nat):Int):=by rw[K.aT];show IntKind.i64.wrap (((s:Int)).tdiv 64)=_;rw[kQz (by omega),IntWalk.i64_in _ (by omega)];omega
  rw[y,K.aT];show IntKind.i64.wrap (((s / 64:Nat):Int)+1)=_;rw[IntWalk.i64_in _ (by omega)];omega
 have fr:A .aN .gtr (A .aT .rem .i64 (s:Int) 64) 0=decide (¬s % 64=0):=by rw[AI,bC A];exact decide_eq_decide.2 (by omega)
 obtain⟨pg,br⟩:∃pg,pg=1+s / 64:=⟨_,rfl⟩;obtain⟨pz,aF⟩:∃pz:Int,pz=((pg:Nat):Int):=⟨_,rfl⟩;rw[<-br]at N Cf;rw[<-aF]at N Cf;have cn:aZ pz pg:=⟨aF⟩;have cE:pg<=2^31:=by omega
 have Tu:s % 64≠0->D.dead=false->fj D pz 0=0:=λy h2=>by
  unfold fj;rw[h2];show(if _ then(1:Int)else 0)=0;rw[if_neg];rintro(wj|wj|wj)<;>omega
 obtain⟨sz,ig⟩:∃sz:Int,sz=(s:Int):=⟨_,rfl⟩;obtain⟨nz,bx⟩:∃nz:Int,nz=(n:Int):=⟨_,rfl⟩;have Qk:=ql;rw[<-ig]at f2 ab ql a AI Cf fr;rw[<-bx]at an ql;obtain⟨lz,aM⟩:∃lz:Int,lz=(l.length:Int):=⟨_,rfl⟩;rw[<-aM]at Yo a aC f2 N ch;obtain⟨s2,Fu⟩:∃s2:Int,s2=((s+8+l.length:Nat):Int):=⟨_,rfl⟩;rw[<-Fu]at ab;obtain⟨B,eU⟩:∃B:Int,B=((n+1:Nat):Int):=⟨_,rfl⟩;rw[<-eU]at an;have zO:rI (s+8+l.length) (n+1)=cF s2++cF B:=by unfold rI;rw[Fu,eU]
 rw[zO]at a;clear zO;obtain⟨C,fD⟩:∃C:(Option Addr×Nat×Nat)->ad->Prop,∀g y,C g y=(Le h y/\∃F,Sl 5 cj y (.slice g.1 g.2.1 g.2.2) F/\cD D s (cF lz++l)=dI D pg F/\F.length<=2^30+64):=⟨_,λ_ _=>rfl⟩;obtain⟨J,W⟩:∃J:Option Addr->Nat->Nat->Bs->Nat->(Int×Int)->ad->Prop,∀xb xm xc F w g h',J xb xm xc F w g h'=(∃v H i,aZ g.1 i/\aZ g.2 H/\i<=xm+64/\w=xm+64-i/\nv h0 h' p v/\LB v/\dX NR h h'/\Sl 5 cj h' (.slice xb xm xc) F/\cD D s (cF lz++l)=dI v H (F.drop i)/\H<=pg+i/\v.ws.length<=D.ws.length+i):=⟨_,λ_ _ _ _ _ _ _=>rfl⟩;have QS:∀g y,C g y->∃F,F.length=g.2.1/\g.2.1<=2^30+64/\J g.1 g.2.1 g.2.2 F (g.2.1+64) (0,pz) y:=λg y hc=>by
  rw[fD]at hc;obtain⟨F,l2,s1,o,nE⟩:=hc;have oC:=s1.len;refine⟨l2,oC.symm,by omega,?_⟩;rw[W];exact⟨D,pg,0,⟨rfl⟩,cn,by omega,by omega,q.le F,hl,F.x _,s1,o,by omega,by omega⟩
 obtain⟨C1,Z⟩:∃C:(Option Addr×Nat×Nat)->ad->Prop,∀g y,C g y=(Le h y/\∃T,bt 5 cj h y (.slice g.1 g.2.1 g.2.2) T/\cD D s (cF lz++l)=dI D pg (T++(cF lz++l))/\T.length<=64):=⟨_,λ_ _=>rfl⟩;refine fU A [13,14] (aj hJD.aw hJD.bq) Tryz.func83 rfl (by kernel_rfl) ?_;cbv;rw[f1];by_cases Q:l.length>65536
 .rw[if_pos Q]at a;rw[a]at j;have:=j h (dX.refl _ _) q Qk;rw[ak Q];clear j a fD W QS QR N Z;cbv;exact this
 rw[if_neg Q]at a;rw[bn Q];have QR:=λhd=>QR hd Q;obtain⟨kb,kc,nb,nc,wb,wn,wc,g,-⟩:=q.out;rw[<-bc]at g;have gl:=ql.out;cbv;repeat (first|rw[av A] | (refine cr gl ?_;cbv)|(refine cr g ?_;cbv)|(refine⟨⟨_,rfl,rfl⟩,?_⟩;cbv))
 rw[f2];by_cases c2:lz+8>((D.now.length:Int)-1)*64-sz
 .rw[if_pos c2]at a;rw[a]at j;have:=j h (dX.refl _ _) q Qk;rw[ak c2];clear j a fD W QS QR N Z;cbv;exact this
 rw[if_neg c2]at a;rw[bn c2];rw[aM]at c2;rw[ig]at c2;have QR:=λhd=>QR hd c2;have QP:∀h' e d,cD D s (cF lz++l)=(e,d)->e≠0->dX NR h h'->nv h0 h' p d->k (.int .i64 e) h':=λh' e d o bS x' d'=>by
  rw[a,o]at j;have j:∀h',dX aXX h h'->nv h0 h' p ((if e≠0 then(e,⟨d,s,n⟩)else _:Int×Lg)).2.D->Rt h0 h' I p (((if e≠0 then(e,⟨d,s,n⟩)else _:Int×Lg)).2.s:Int) (((if e≠0 then(e,⟨d,s,n⟩)else _:Int×Lg)).2.n:Int)->k (.int .i64 ((if e≠0 then(e,⟨d,s,n⟩)else _:Int×Lg)).1) h':=j;rw[if_pos bS]at j;exact j h' (x'.sup (by decide)) d' (Qk.lt (x'.t (by decide)))
 have TC:∀d,cD D s (cF lz++l)=(0,d)->aY ⟨D,s,n⟩ l=if(bJ d 0 (cF s2++cF B)).1≠0 then((bJ d 0 (cF s2++cF B)).1,⟨(bJ d 0 (cF s2++cF B)).2,s,n⟩)
  else if(dw (bJ d 0 (cF s2++cF B)).2).1≠0 then((dw (bJ d 0 (cF s2++cF B)).2).1,⟨(dw (bJ d 0 (cF s2++cF B)).2).2,s,n⟩)
  else(0,⟨(dw (bJ d 0 (cF s2++cF B)).2).2,s+8+l.length,n+1⟩):=λd o=>by
  rw[a,o];exact if_neg (λg=>g rfl)
 have U:∀h' d e f,cD D s (cF lz++l)=(0,d)->bJ d 0 (cF s2++cF B)=(e,f)->e≠0->dX NR h h'->nv h0 h' p f->k (.int .i64 e) h':=λh' d e f o Fq bS x' d'=>by
  have a:=TC d o;rw[Fq]at a;have a:aY ⟨D,s,n⟩ l=(e,⟨f,s,n⟩):=by rw[a];exact if_pos bS
  rw[a]at j;exact j h' (x'.sup (by decide)) d' (Qk.lt (x'.t (by decide)))
 have L:∀h' d f e E,cD D s (cF lz++l)=(0,d)->bJ d 0 (cF s2++cF B)=(0,f)->dw f=(e,E)->e≠0->dX NR h h'->nv h0 h' p E->k (.int .i64 e) h':=λh' d f e E o Fq ax bS x' d'=>by
  have a:=TC d o;rw[Fq]at a;have a:aY ⟨D,s,n⟩ l=if(dw f).1≠0 then((dw f).1,⟨(dw f).2,s,n⟩)else(0,⟨(dw f).2,s+8+l.length,n+1⟩):=by rw[a];exact if_neg (λg=>g rfl)
  rw[ax]at a;have a:aY ⟨D,s,n⟩ l=(e,⟨E,s,n⟩):=by rw[a];exact if_pos bS
  rw[a]at j;exact j h' (x'.sup (by decide)) d' (Qk.lt (x'.t (by decide)))
 have M:∀h' d f E,cD D s (cF lz++l)=(0,d)->bJ d 0 (cF s2++cF B)=(0,f)->dw f=(0,E)->dX aXX h h'->nv h0 h' p E->Rt h0 h' I p s2 B->k (.int .i64 0) h':=λh' d f E o Fq ax x' d' g'=>by
  have a:=TC d o;rw[Fq]at a;have a:aY ⟨D,s,n⟩ l=if(dw f).1≠0 then((dw f).1,⟨(dw f).2,s,n⟩)else(0,⟨(dw f).2,s+8+l.length,n+1⟩):=by rw[a];exact if_neg (λg=>g rfl)
  rw[ax]at a;have a:aY ⟨D,s,n⟩ l=(0,⟨E,s+8+l.length,n+1⟩):=by rw[a];exact if_neg (λg=>g rfl)
  rw[a]at j;rw[Fu,eU]at g';exact j h' x' d' g'
 obtain⟨dd,pX⟩:∃dd,dd=D.dead:=⟨_,rfl⟩;rw[<-pX]at g QR Tu;cbv;rw[av A];refine cr gl ?_;cbv;rw[av A];refine cr g ?_;cbv;cases dd with
 |true=>rw[QR rfl]at j;have:=j h (dX.refl _ _) q Qk;clear j a fD W QS QR N Z TC QP U L M;cbv;exact this
 |false=>
  have pX:D.dead=false:=pX.symm;have Tu:=λy=>Tu y rfl;clear QR f2 f1;cbv;rw[av A];refine cr gl ?_;cbv;refine⟨by decide,?_⟩;cbv;rw[Cf];intro n9 y nj e1;have F:Le h y:=by rw[e1];exact Le.set nj
  clear e1;have aA:=F _ _ gl;cbv;refine ld.go (G:=Option Addr×Nat×Nat) (λg=>[(7,.v (.slice g.1 g.2.1 g.2.2))]) (λ_=>[]) C1 ?_ ?_
  .cbv;rw[av A];refine cr aA ?_;cbv;refine⟨by decide,?_⟩;cbv;rw[fr];by_cases c3:s % 64=0
   .rw[if_pos c3]at N;have JG:C1 (zsA n9,0,0) y:=by rw[Z];exact⟨F,[],bt.nil,N,by simp⟩
    rw[bn (λg=>g c3)];clear fD QS W j a Z N TC QP U L M;cbv;refine⟨(zsA n9,0,0),by constructor<;>cbv,JG⟩
   rw[if_neg c3,if_neg (λg=>g (Tu c3))]at N;have GU:=Tu c3;clear Tu;have iV:s % 64<64:=kQp _ (by decide);rw[ak c3];generalize s % 64=r at *;have aE:aZ (A .aT .rem .i64 sz 64) r:=⟨AI⟩;have dd:=dy (A:=A) aE;have JG:∀b1 Q h',Le h h'->bt 5 cj h h' (.slice b1 r Q) ((dp D pz).take r)->C1 (b1,r,Q) h':=λb1 Q h' l' q'=>by
    rw[Z];exact⟨l',_,q',N,by rw[eA];omega⟩
   clear fD QS W j a Z N TC QP U L M fr;cbv;rw[av A];refine cr aA ?_;cbv;refine Py (q.le F) pz (λbS=>absurd GU bS) (λ_ h2 b2 gv l2 zd cw aG q2=>?_);subst zd;have ct:=aG _ _ aA;have ey:0<=A .aT .rem .i64 sz 64/\A .aT .rem .i64 sz 64<=(gv:Int):=by have:=q2.sl.bound;have h9:=aE.eq;omega
   have tk:=q2.sl.vo (A:=A) (z:=A .nat gv) (i:=r) (by omega) rfl;generalize dp D pz=pb at *;cbv;rw[av A];refine cr ct ?_;cbv;refine⟨by decide,?_⟩;cbv;refine⟨ey,?_⟩;cbv;rw[dd];have o4:bt 5 cj h h2 (.slice (zsA n9) 0 0) []:=bt.nil;refine o4.app tk (by decide) rfl (by decide) (by omega) (F.trans aG) (λm4 b4 uV V Bu l5 t5 k5 q5=>?_);have Bu:m4=r:=by omega
   subst Bu;have JG:=JG b4 uV V l5 (by simpa using q5);clear k5;cbv;refine⟨(b4,m4,uV),by constructor<;>cbv,JG⟩
  intro g h2 aW;rw[Z]at aW;cbv;obtain⟨xb,xm,xc⟩:=g;obtain⟨l2,T,q2,N,cv⟩:=aW;have q2:bt 5 cj h h2 (.slice xb xm xc) T:=q2;have cx:=q2.sl.len;have cG:xm<=64:=by omega
  have hC:∀b1 m1 Q h',Le h h'->Sl 5 cj h' (.slice b1 m1 Q) (T++(cF lz++l))->C (b1,m1,Q) h':=λb1 m1 Q h' l' q'=>by
   rw[fD];exact⟨l',_,q',N,by rw[cy,cy,bY];omega⟩
  refine ld.go (G:=Option Addr×Nat×Nat) (λg=>[(7,.v (.slice g.1 g.2.1 g.2.2))]) (λ_=>[]) C ?_ ?_
  .clear fD QS W j a Z N TC QP U L M;cbv;rw[Yo];refine sX q2 l2 (by omega) lz rfl (λh3 b3 c3 l3 t3 q3=>?_);have bM:=qb.mono (l3.t _);cbv;refine q3.app bM (by decide) rfl (by decide) (by omega) l3 (λm4 b4 uV V Bu l5 t5 k5 q5=>?_);have hC:=hC b4 m4 uV V l5 (by rw[<-ym];exact q5.sl);clear k5;cbv;refine⟨(b4,m4,uV),by constructor<;>cbv,hC⟩
  intro g h3 hc;obtain⟨t,aI,aK,hJ⟩:=QS g h3 hc;clear QS fD hc hC Z N j a TC;cbv;obtain⟨gb,u,gc⟩:=g;have aI:t.length=u:=aI;have aK:u<=2^30+64:=aK;have hJ:J gb u gc t (u+64) (0,pz) h3:=hJ;refine aX.go (G:=Int×Int) (λg=>[(10,.v (.int .i64 g.1)),(6,.v (.int .i64 g.2))]) (λ_=>[]) (λw g h'=>J gb u gc t w g h') (u+64) (0,pz) (by constructor<;>cbv) hJ ?_
  intro w' g h4 hI;rw[W]at hI;cbv;obtain⟨zi,zp⟩:=g;obtain⟨v,H,i,gu,al,hi,Ox,q4,FE,x4,s4,o,cL,cz⟩:=hI;have gu:aZ zi i:=gu;have al:aZ zp H:=al;have nq:=s4.len;have jQ:=s4.bound;have ag:h4 I=_:=x4.t (tys:=[353]) (by decide) _ _ _ _ (by decide) gl;have fi:A .aN .lss zi (A .nat u)=decide (i<u):=gu.yY (aZ.nat u);have Md:dI v H (t.drop i)=if h:t.drop i=[]then dw v
   else if(bJ v H ((t.drop i).take 64)).1≠0 then bJ v H ((t.drop i).take 64)
   else dI (bJ v H ((t.drop i).take 64)).2 (H+1) ((t.drop i).drop 64):=by rw[dI]
  rw[fi];by_cases c4:i<u
  .rw[ak c4];have bS:t.drop i≠[]:=λe=>by have:=congrArg List.length e;rw[iz]at this;simp at this;omega
   rw[dif_neg bS]at Md;have aH:aZ (A .aT .add .i64 zi 64) (i+64):=gu.add (A:=A) ⟨rfl⟩ (by omega);obtain⟨Y,rW⟩:∃Y,Y=min (i+64) u:=⟨_,rfl⟩;have GR:A .my (A .aT .add .i64 zi 64) (A .nat u)=A .nat Y:=by rw[K.my,aH.eq,K.nat,rW];show min ((i+64:Nat):Int) (u:Int)=((min (i+64) u:Nat):Int);omega
   have Ci:aZ (A .nat Y) Y:=aZ.nat Y;have mC:0<=A .nat Y/\A .nat Y<=(gc:Int)/\0<=zi/\zi<=A .nat Y:=by have:=Ci.eq;have:=gu.eq;omega
   obtain⟨n1,fh⟩:∃x,x=Y-i:=⟨_,rfl⟩;obtain⟨nS,aB⟩:∃x,x=gc-i:=⟨_,rfl⟩;have Ua:A .nt (A .nat Y) zi=n1:=by rw[JO (A:=A) Ci gu,fh]
   have Kn:A .nt (A .nat gc) zi=nS:=by rw[cJ (A:=A) gu,aB]
   have tk:=s4.bJW (A:=A) gu (m:=n1) (by omega) aB;have cd:(t.drop i).take n1=(t.drop i).take 64:=by
    by_cases hh:i+64<=u
    .rw[show n1=64 by omega]
    rw[ie (by rw[iz];omega),ie (by rw[iz];omega)]
   rw[cd]at tk;have vT:=Bz v H ((t.drop i).take 64);have To:=nJ FE H ((t.drop i).take 64);have ez:bJ v zp ((t.drop i).take 64)=bJ v H ((t.drop i).take 64):=by rw[al.eq]
   have bX:∀h',(bJ v H ((t.drop i).take 64)).1=0->dX NR h h'->nv h0 h' p (bJ v H ((t.drop i).take 64)).2->Sl 5 cj h' (.slice gb u gc) t->
    J gb u gc t (u-i) (A .aT .add .i64 zi 64,A .aT .add .i64 zp 1) h':=λh' h0 x' d' s'=>by
    rw[W];rw[if_neg (λg=>g h0)]at Md;refine⟨_,H+1,i+64,aH,al.succ (A:=A),by omega,by omega,d',To,x',s',by rw[o,Md,jKS],?_,?_⟩
    .omega
    omega
   have aU:u-i<w':=by omega
   have cp:v.ws.length<=2^38:=by omega
   clear W hJ;cbv;rw[av A];refine cr ag ?_;cbv;rw[GR];refine⟨mC,?_⟩;cbv;rw[Ua,Kn];repeat (first|(refine cr ag ?_;cbv) |rw[av A])
   refine Rr q4 FE zp tk cp (λV x5 d5=>?_);rw[ez]at d5 |-;clear ez;have bX:=bX V;have s5:=s4.mono (x5.t (by decide));have hx:=x4.trans x5;rw[Md]at o;clear Md vT;generalize Fq:bJ v H ((t.drop i).take 64)=R at *;obtain⟨e,E⟩:=R;have S:A .aN .neq e 0=decide (e≠0):=az A ..;by_cases O:e≠0
   .have o:cD D s (cF lz++l)=(e,E):=by rw[o];exact if_pos O
    have:=QP V e E o O hx d5;rw[ak O]at S;clear QP U L M bX;cbv;rw[S];cbv;exact this
   have iD:=bX (by show e=0;omega) hx d5 s5;rw[bn O]at S;clear QP U L M bX;cbv;rw[S];cbv;refine⟨u-i,(A .aT .add .i64 zi 64,A .aT .add .i64 zp 1),aU,by constructor<;>cbv,iD⟩
  rw[bn c4];have fB:t.drop i=[]:=jKz (by omega);rw[dif_pos fB]at Md;rw[Md]at o;have aq:(dw v).2.ws.length<=2^38:=by have e0:=o;rw[<-e0];omega
  have To:=vr FE;clear W hJ Md;cbv;rw[av A];refine cr ag ?_;cbv;refine aQa q4 FE (λV x5 d5=>?_);have hx:=x4.trans x5;have ay:V I=_:=x5.t (tys:=[353]) (by decide) _ _ _ _ (by decide) ag;generalize dw v=R at *;obtain⟨e,D1⟩:=R;have d5:nv h0 V p D1:=d5;have To:LB D1:=To;have aq:D1.ws.length<=2^38:=aq;have S:A .aN .eql e 0=decide (e=0):=au A ..;have X:A .aN .neq e 0=decide (e≠0):=az A ..;by_cases O:e≠0
  .have:=QP V e D1 o O hx d5;rw[ak O]at X;rw[bn O]at S;clear QP U L M;cbv;rw[S];cbv;rw[S];cbv;rw[X];cbv;exact this
  have xS:e=0:=by omega
  subst xS;have bo:A .aN .eql 0 0=true:=by rw[au A];rfl
  clear S X QP;cbv;rw[bo];cbv;repeat (first|rw[av A] | (refine cr ay ?_;cbv)|(refine⟨⟨_,rfl,rfl⟩,?_⟩;cbv))
  rw[ab];refine sX (h0:=V) bt.nil (Le.refl _) (by omega) s2 rfl (λh6 b6 c6 l6 t6 q6=>?_);have cq:=l6 _ _ ay;cbv;repeat (first|rw[av A] | (refine cr cq ?_;cbv)|(refine⟨⟨_,rfl,rfl⟩,?_⟩;cbv))
  rw[an];refine sX q6 l6 (by omega) B rfl (λh7 b7 c7 l7 t7 q7=>?_);have bl:=l7 _ _ ay;cbv;repeat (first|rw[av A] | (refine cr bl ?_;cbv)|(refine⟨⟨_,rfl,rfl⟩,?_⟩;cbv))
  have q7:bt 5 cj V h7 (.slice b7 16 c7) (cF s2++cF B):=by simpa using q7
  refine Rr (d5.le l7) To 0 q7.sl aq (λh8 x8 d8=>?_);have ar:=nJ To 0 (cF s2++cF B);have bj:=hx.trans ((l7.x _).trans x8);have bk:h8 I=_:=x8.t (tys:=[353]) (by decide) _ _ _ _ (by decide) bl;have U:=U h8 D1;generalize Fq:bJ D1 0 (cF s2++cF B)=R at *;obtain⟨e,f⟩:=R;have d8:nv h0 h8 p f:=d8;have ar:LB f:=ar;have S:A .aN .eql e 0=decide (e=0):=au A ..;have X:A .aN .neq e 0=decide (e≠0):=az A ..;by_cases O:e≠0
  .have:=U e f o rfl O bj d8;rw[ak O]at X;rw[bn O]at S;clear U L M;cbv;rw[S];cbv;rw[X];cbv;exact this
  have xS:e=0:=by omega
  subst xS;clear S X U;cbv;rw[bo];cbv;rw[av A];refine cr bk ?_;cbv;refine aQa d8 ar (λh9 x9 d9=>?_);have bd:=bj.trans x9;have ao:h9 I=_:=x9.t (tys:=[353]) (by decide) _ _ _ _ (by decide) bk;have L:=L h9 D1 f;have M:=λh'=>M h' D1 f;generalize dw f=R at *;obtain⟨e,E⟩:=R;have d9:nv h0 h9 p E:=d9;have X:A .aN .neq e 0=decide (e≠0):=az A ..;by_cases O:e≠0
  .have:=L e E o Fq rfl O bd d9;rw[ak O]at X;clear L M;cbv;rw[X];cbv;exact this
  have xS:e=0:=by omega
  subst xS;clear X L;cbv;rw[mY];cbv;rw[av A];refine cr ao ?_;cbv;rw[ab,av A];refine ju ao (by show 2<=3;decide) (λiw qF=>?_);have TK:=(congrFun qF I).trans ae;have bB:dX aXX h9 iw:=by rw[qF];exact gN ao (by decide)
  have aD:nv h0 iw p E:=d9.lt (by rw[qF];exact cO.set ao (by decide)) (d9.base.aV (bs:=[I]) (by simpa using ql.new) (by rw[qF];exact Kp.set (by simp)));have TK:iw I=zcL 353 [.zP p,.int .i64 s2,.int .i64 nz]:=TK;clear qF;cbv;rw[av A];refine cr TK ?_;cbv;rw[an,av A];refine ju TK (by show 3<=3;decide) (λoM GC=>?_);have aw:=(congrFun GC I).trans ae;have cb:dX aXX iw oM:=by rw[GC];exact gN TK (by decide)
  have bQ:nv h0 oM p E:=aD.lt (by rw[GC];exact cO.set TK (by decide)) (aD.base.aV (bs:=[I]) (by simpa using ql.new) (by rw[GC];exact Kp.set (by simp)));have aw:oM I=zcL 353 [.zP p,.int .i64 s2,.int .i64 B]:=aw;clear GC;have:=M oM E o Fq rfl (((bd.sup (by decide)).trans bB).trans cb) bQ ⟨aw,ql.new⟩;clear M;cbv;exact this
def Ww(D:Dk):List Bs×Bool:=
 if D.dead then([],false)
 else if(Ay D (uZ (dp D 0)) (uZ ((dp D 0).drop 8))).bad then((eG ((dE D).take (uZ (dp D 0)).toNat) (dE D).length).1,false)
 else((Ay D (uZ (dp D 0)) (uZ ((dp D 0).drop 8))).eO,true)
theorem WM:∀(f:Nat) (b:Bs),8*(eQ f b).1.length<=b.length:=λf=>by
 induction f with
 |zero=>intro b;exact nr _
 |succ f i=>
  intro b;unfold eQ;split
  .exact nr _
  split
  .exact nr _
  split
  .exact nr _
  have:=i (b.drop (8+(ep b).toNat));rw[iz]at this;simp only[wS];omega
theorem Rh:∀(f:Nat) (b:Bs) (m:Nat),b.length<=f->(eQ f b).1.length<=m->eQ f b=((eG b m).1,decide ((eG b m).2=[])):=λf=>by
 induction f with
 |zero=>intro b m g h;have:b=[]:=kh (by omega);subst this;cases m<;>rfl
 |succ f i=>
  intro b m g h;by_cases h0:b.length=0
  .have:b=[]:=kh h0;subst this;cases m<;>rfl
  have S:b≠[]:=λe=>h0 (by rw[e];rfl);have hR:eQ (f+1) b=if b.length<8 then([],false)else if ep b<0\/ep b>(b.length:Int)-8 then([],false)else
   ((b.drop 8).take (ep b).toNat::(eQ f (b.drop (8+(ep b).toNat))).1,(eQ f (b.drop (8+(ep b).toNat))).2):=by
   conv=>lhs;unfold eQ
   rw[if_neg h0]
  have J:decide (b=[])=false:=bn S;by_cases a:b.length<8
  .rw[hR,if_pos a];cases m with
   |zero=>show _=([],decide (b=[]));rw[J]
   |succ m=>
    have:eG b (m+1)=([],b):=by show(if 8<=b.length then _ else _)=_;rw[if_neg (by omega)]
    rw[this];show _=([],decide (b=[]));rw[J]
  rw[if_neg a]at hR;by_cases c:ep b<0\/ep b>(b.length:Int)-8
  .rw[hR,if_pos c];cases m with
   |zero=>show _=([],decide (b=[]));rw[J]
   |succ m=>
    have:eG b (m+1)=([],b):=by show(if 8<=b.length then if _ then _ else _ else _)=_;rw[if_pos (by omega),if_neg (by omega)]
    rw[this];show _=([],decide (b=[]));rw[J]
  rw[if_neg c]at hR;rw[hR]at h |-;simp only[wS]at h;cases m with
  |zero=>omega
  |succ m=>
   have d:eG b (m+1)=((b.drop 8).take (ep b).toNat::(eG (b.drop (8+(ep b).toNat)) m).1,(eG (b.drop (8+(ep b).toNat)) m).2):=by show(if 8<=b.length then if _ then _ else _ else _)=_;rw[if_pos (by omega),if_pos (by omega)]
   rw[d,i (b.drop (8+(ep b).toNat)) m (by rw[iz];omega) (by omega)]
theorem aKk:∀(f:Nat) (b:Bs) (m:Nat),b.length<=f->(eG b m).2=[]->eQ f b=((eG b m).1,true):=λf=>by
 induction f with
 |zero=>intro b m d h;have:b=[]:=kh (by omega);subst this;cases m<;>rfl
 |succ f i=>
  intro b m d h;by_cases h0:b.length=0
  .have:b=[]:=kh h0;subst this;cases m<;>rfl
  have S:b≠[]:=λe=>h0 (by rw[e];rfl);cases m with
  |zero=>exact absurd h S
  |succ m=>
   have C:eG b (m+1)=if 8<=b.length then if 0<=ep b/\ep b<=(b.length-8:Nat)then((b.drop 8).take (ep b).toNat::(eG (b.drop (8+(ep b).toNat)) m).1,(eG (b.drop (8+(ep b).toNat)) m).2)else([],b)else([],b):=rfl
   by_cases a:8<=b.length
   .rw[if_pos a]at C;by_cases c:0<=ep b/\ep b<=(b.length-8:Nat)
    .rw[if_pos c]at C;rw[C]at h |-;have:=i (b.drop (8+(ep b).toNat)) m (by rw[iz];omega) h;conv=>lhs;unfold eQ
     rw[if_neg h0,if_neg (by omega),if_neg (by omega)];show(_::(eQ f _).1,(eQ f _).2)=_;rw[this]
    rw[if_neg c]at C;rw[C]at h;exact absurd h S
   rw[if_neg a]at C;rw[C]at h;exact absurd h S
theorem aXN(p:(dE D).length=jB D):Ww D=Hw D:=by
 unfold Ww Hw;split
 .rfl
 generalize uZ (dp D 0)=n;generalize uZ ((dp D 0).drop 8)=c;have S:Qg D n c=((eQ ((dE D).take (max (min n (jB D)) 0).toNat).length ((dE D).take (max (min n (jB D)) 0).toNat)).1,(eQ ((dE D).take (max (min n (jB D)) 0).toNat).length ((dE D).take (max (min n (jB D)) 0).toNat)).2&&(decide (n>=0)&&(decide (n<=(jB D:Nat))&&decide (c=((eQ ((dE D).take (max (min n (jB D)) 0).toNat).length ((dE D).take (max (min n (jB D)) 0).toNat)).1.length:Nat))))):=rfl;have L:Ay D n c=if n<0\/c<0\/n>(dE D).length then⟨n,c,[],true⟩
  else⟨n,c,(eG ((dE D).take n.toNat) c.toNat).1,!decide ((eG ((dE D).take n.toNat) c.toNat).2=[])||decide (((eG ((dE D).take n.toNat) c.toNat).1.length:Int)≠c)⟩:=rfl
 rw[<-p]at S;generalize dE D=r at *;have t:r.take (max (min n (r.length:Int)) 0).toNat=r.take n.toNat:=by
  by_cases h:n<=r.length
  .congr 1;omega
  rw[ie (by omega),ie (by omega)]
 rw[t]at S;obtain⟨b,k⟩:∃b,b=r.take n.toNat:=⟨_,rfl⟩;have u:b.length<=r.length:=by rw[k,eA];omega
 rw[<-k]at S L |-;have M:=Rh b.length b r.length (kB _) (by have:=WM b.length b;omega);rw[L,S];by_cases j:n<0\/c<0\/n>(r.length:Int)
 .rw[if_pos j];show((eG b r.length).1,false)=_;have o:(decide (n>=0)&&(decide (n<=(r.length:Nat))&&decide (c=((eQ b.length b).1.length:Nat))))=false:=by
   rcases j with h|h|h
   .rw[bn (show ¬n>=0 by omega)];rfl
   .rw[bn (show ¬c=((eQ b.length b).1.length:Nat)by omega)];simp
   rw[bn (show ¬n<=(r.length:Nat)by omega)];simp
  rw[o,Bool.and_false,M]
 rw[if_neg j];have m:decide (n>=0)=true:=ak (by omega);have Z:decide (n<=(r.length:Nat))=true:=ak (by omega);rw[m,Z,jKP,jKP];by_cases g:(eG b c.toNat).2=[]
 .have d:=aKk b.length b c.toNat (kB _) g;have e1:decide ((eG b c.toNat).2=[])=true:=ak g;by_cases f:((eG b c.toNat).1.length:Int)≠c
  .have a:(!decide ((eG b c.toNat).2=[])||decide (((eG b c.toNat).1.length:Int)≠c))=true:=by rw[ak f];simp
   rw[a];show((eG b r.length).1,false)=_;have l:decide (c=((eQ b.length b).1.length:Nat))=false:=bn (by rw[d];exact λe=>f e.symm);rw[l,Bool.and_false,M]
  have a:(!decide ((eG b c.toNat).2=[])||decide (((eG b c.toNat).1.length:Int)≠c))=false:=by rw[e1,bn f];rfl
  rw[a];show((eG b c.toNat).1,true)=_;rw[d];show _=(_,true&&decide (c=((eG b c.toNat).1.length:Int)));rw[ak (show c=((eG b c.toNat).1.length:Int)by omega)];rfl
 have a:(!decide ((eG b c.toNat).2=[])||decide (((eG b c.toNat).1.length:Int)≠c))=true:=by rw[bn g];rfl
 rw[a];show((eG b r.length).1,false)=_;rw[M];show _=(_,decide ((eG b r.length).2=[])&&decide (c=((eG b r.length).1.length:Int)));by_cases f:c=((eG b r.length).1.length:Int)
 .have:=Rh b.length b c.toNat (kB _) (by rw[M];show(eG b r.length).1.length<=c.toNat;omega);rw[M]at this;have i:=congrArg Prod.snd this;have i:decide ((eG b r.length).2=[])=decide ((eG b c.toNat).2=[]):=i;rw[i,bn g];rfl
 rw[bn f,Bool.and_false]
end Go.S
