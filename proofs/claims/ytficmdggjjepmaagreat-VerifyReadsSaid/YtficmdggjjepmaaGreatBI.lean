import Derived.Test.YtficmdggjjepmaaGreatBH
set_option linter.all false
set_option maxRecDepth 100000
set_option maxHeartbeats 4000000
namespace Go.S
open Go.Sx Go.Proofs
variable {D:Dk}{s z:Int}{c e1 i m n p:Nat}{b:Option Addr}{k:Value->ab->Prop}{h h0:ab}
theorem Tp(q:jD h0 h p D)(hl:0<=D.left/\D.left<2^63)(c:∀h',cY DY h h'->jD h0 h' p (cJ D).2->k (.int .i64 (cJ D).1) h'):
 Ct 39 [.pointer (some ⟨p,0,none⟩)] h k:=by
 have S:cJ D=if D.dead then(15,D)else if(dG D).1 then(15,(dG D).2)else(0,{ (dG D).2 with kept:=(dG D).2.now,ws:=[] }):=rfl
 obtain⟨_,_,_,_,_,_,_,g,-⟩:=q.out;generalize nO:D.dead=O at *;refine cp fKS Tryz.func39 λA hA=>?_;cbv;rw[ao A];refine bc g ?_;cases O with
 |true=>have S:cJ D=(15,D):=S;rw[S]at c;have:=c h (cY.refl _ _) q;clear c;cbv;exact this
 |false=>
  have S:cJ D=if(dG D).1 then(15,(dG D).2)else(0,{ (dG D).2 with kept:=(dG D).2.now,ws:=[] }):=S
  cbv;refine bXV q nO hl (λi J o=>?_);generalize dG D=R at *;obtain⟨t,D1⟩:=R;have o:jD h0 i p D1:=o;cases t with
  |true=>have S:cJ D=(15,D1):=S;rw[S]at c;have:=c i J o;clear c;cbv;exact this
  |false=>
   have S:cJ D=(0,{ D1 with kept:=D1.now,ws:=[] }):=S;rw[S]at c;obtain⟨kb,kc,s,u,wb,I,wc,x,o1,o2,e1,e2,w,P,Q,K,z2,z3,G⟩:=o.out;have iX:=o2.sl (n:=D1.now.length) rfl;have fin:∀j y l a b,Le i j->i a=none->cM 134 iC j a b D1.now->y=bH j p (.cells (List.toArray [.slice (some ⟨s,0,none⟩) D1.now.length u,.slice (some ⟨a,0,none⟩) D1.now.length b,.slice wb I wc,.int .i64 D1.left,.bool D1.dead]) 124 (0,0))->
    l=bH y p (.cells (List.toArray [.slice (some ⟨s,0,none⟩) D1.now.length u,.slice (some ⟨a,0,none⟩) D1.now.length b,.slice none 0 0,.int .i64 D1.left,.bool D1.dead]) 124 (0,0))->k (.int .i64 0) l:=λj y l a b r z o3 L d=>by
    have E:=r _ _ x;rw[L,dN]at d;have lt:∀tys,124∉tys->cf tys j l:=λtys hn=>by rw[d];exact cf.set E hn
    refine c l (J.trans ((r.x _).trans (by rw[d];exact gi E (by decide)))) ⟨a,b,s,u,none,0,0,(congrFun d p).trans ae,o3.mono (lt _ (by decide)),(o2.mono (r.t _)).mono (lt _ (by decide)),rfl,λe=>by rw[e]at z;exact o2.has z,aT.nil,P,Q,K,G.none z,z3,?_⟩;exact(G.trans r).aE (bs:=[p]) (by simpa using K) (by rw[d];exact Kp.set (by simp))
   clear c S w o1 q o;generalize T:D1.left=lf at *;generalize M:D1.dead=d1 at *;generalize oH:D1.now=N at *;generalize Fi:N.length=nl at *;cbv;intro n5 X yB f;have m:Le i X:=by rw[f];exact Le.set yB
   clear f;cbv;rw[ao A];refine bc (m _ _ x) ?_;cbv;refine jx (iX.mono (m.t _)) rfl (by decide) (λe0=>by omega) (λB cap Y V kj H o6=>?_);have U:=H _ _ (m _ _ x);have fin:=fin Y;cbv;rw[ao A];refine iB U (by show 2<=5;decide) (λF v=>?_);have W:F p=some (.cells (List.toArray [.slice (some ⟨s,0,none⟩) nl u,.slice (some ⟨B,0,none⟩) nl cap,.slice wb I wc,.int .i64 lf,.bool d1]) 124 (0,0)):=(congrFun v p).trans ae;cbv;rw[ao A];refine iB W (by show 3<=5;decide) (λZ C=>?_);have:=fin F Z B cap (m.trans H) (m.none V) o6 v C;clear fin v C;cbv;exact this
def dU(x:Bs)(at_:Nat)(b:Bs):Bs:=x.take at_++b++x.drop (at_+b.length)
theorem CJ{x:Bs}{at_:Nat}{b:Bs}(h:at_+b.length<=x.length):(dU x at_ b).length=x.length:=by unfold dU;simp only[dr,dW,ec];omega
theorem wR{x:Bs}{at_:Nat}{b:Bs}(h:at_<=x.length)(j:Nat):(dU x at_ b)[j]? =if j<at_ then x[j]? else if j<at_+b.length then b[j-at_]? else x[j]? :=by
 unfold dU;have hl:(x.take at_).length=at_:=by rw[dW];omega
 by_cases a:j<at_
 .rw[if_pos a,ym,hJQ (by rw[hl];exact a),hU,if_pos a]
 rw[if_neg a];by_cases c:j<at_+b.length
 .rw[if_pos c,hJQ (by rw[dr,hl];exact c),hJP (by rw[hl];omega),hl]
 rw[if_neg c,hJP (by rw[dr,hl];omega),nM,dr,hl];congr 1;omega
theorem Ag{x:Bs}{at_:Nat}{b:Bs}{v:UInt8}(h:at_+b.length<=x.length)(d:b[i]? =some v):(dU x at_ (b.take i)).set (at_+i) v=dU x at_ (b.take (i+1)):=by
 have f:=(dB.1 d).1;have k:(b.take i).length=i:=by rw[dW];omega
 have t:(b.take (i+1)).length=i+1:=by rw[dW];omega
 apply rv;intro j;rw[hJN,wR (by omega),wR (by omega),CJ (by omega),k,t];by_cases e:at_+i=j
 .subst e;rw[if_pos rfl,if_pos (by omega),if_neg (by omega),if_pos (by omega),show at_+i-at_=i by omega,hU,if_pos (by omega),d]
 rw[if_neg e];by_cases a:j<at_
 .rw[if_pos a,if_pos a]
 rw[if_neg a,if_neg a];by_cases c:j<at_+i
 .rw[if_pos c,if_pos (by omega),hU,hU,if_pos (by omega),if_pos (by omega)]
 rw[if_neg c,if_neg (by omega)]
theorem wQ(x:Bs)(at_:Nat):dU x at_ []=x:=by unfold dU;simp
theorem Vh{x:Bs}{j:Nat}(a:j<64)(v:UInt8)(cs:List Value)(q:iC.R h cs x):iC.R h (fa cs j [.int .u8 (v.toNat:Int)]) (x.set j v):=by obtain⟨rfl,hl⟩:=q;refine⟨?_,by rw[ml];exact hl⟩;show(aA x).set j (.int .u8 (v.toNat:Int))=_;unfold aA;rw[iQW]
def pv(D:Dk)(n at_:Nat)(b:Bs):Dk:={ D with now:=D.now.set n (dU ((D.now[n]?).getD []) at_ b),kept:=D.kept.set n (dU ((D.kept[n]?).getD []) at_ b) }
theorem To(q:jD h0 h p D){K I:Int}{at_:Nat}(F:aM K n)(Y:aM I at_)(hn:n<D.now.length){l:Bs}(qb:Sl 5 bS h (.slice b m c) l)(Lh:at_+l.length<=64)
 (hk:∀h',cY DY h h'->jD h0 h' p (pv D n at_ l)->k (.bool true) h'):
 Ct 13 [.pointer (some ⟨p,0,none⟩),.int .i64 K,.int .i64 I,.slice b m c] h k:=by
 obtain⟨A,B⟩:=Ar.ex;have aW:=qb.len;obtain⟨r,kc,t,V,wb,wn,wc,g,o1,o2,e1,e2,w,e4,e5,z1,z2,z3,l0⟩:=q.out;obtain⟨x,hx⟩:=ay (xs:=D.now) (i:=n) hn;obtain⟨y,hy⟩:=di D.kept n;have MJ:x.length=64:=by obtain⟨c,h1,a,d⟩:=o2.out;exact(a.at hx).2
 have bd:y.length=64:=by obtain⟨c,h1,a,d⟩:=o1.out;exact(a.at hy).2
 have hT:pv D n at_ l={ D with now:=D.now.set n (dU x at_ l),kept:=D.kept.set n (dU y at_ l) }:=by unfold pv;rw[hx,hy];rfl
 rw[hT]at hk;have f1:A .az .lss K 0=false:=F.vf (A:=A);have f2:A .az .geq K (A .nat D.now.length)=false:=by rw[cZ A,B.nat,F.eq];exact ag (by show ¬(n:Int)>=(D.now.length:Int);omega)
 have f3:A .az .lss I 0=false:=Y.vf (A:=A);have f4:A .az .gtr I 64=false:=by rw[aO A,Y.eq];exact ag (by omega)
 have f5:A .az .gtr (A .nat m) (A .aC .sub .i64 64 I)=false:=by rw[aO A,B.nat,B.aC,Y.eq];refine ag ?_;show ¬(m:Int)>IntKind.i64.wrap (64-(at_:Int));rw[IntWalk.i64_in _ (by omega)];omega
 have VB:=F.ix (len:=D.now.length) hn;obtain⟨J,L⟩:∃J:Nat->Int->ab->Prop,∀w z h',J w z h'=(∃i,aM z i/\w=m-i/\i<=m/\cY DY h h'/\jD h0 h' p { D with now:=D.now.set n (dU x at_ (l.take i)),kept:=D.kept.set n (dU y at_ (l.take i)) }):=⟨_,λ_ _ _=>rfl⟩;have eP:J m 0 h:=by
  rw[L];refine⟨0,⟨rfl⟩,rfl,by omega,cY.refl _ _,?_⟩;rw[List.take_zero,wQ,wQ];have a1:D.now.set n x=D.now:=by
   apply rv;intro j;rw[hJN];split
   .rename_i e;subst e;first|(rw[hx];done)|(rw[hx];simp[hn])
   rfl
  have a2:D.kept.set n y=D.kept:=by
   apply rv;intro j;rw[hJN];split
   .rename_i e;subst e;first|(rw[hy];done)|(rw[hy];simp;omega)
   rfl
  rw[a1,a2];exact q
 clear w;obtain⟨nl,Fi⟩:∃nl,nl=D.now.length:=⟨_,rfl⟩;rw[<-Fi]at f2 VB g;refine dH gQn A Tryz.func13 ?_;cbv;rw[f1];cbv;rw[ao A];refine bc g ?_;cbv;rw[f2];cbv;rw[f3];cbv;rw[f4];cbv;rw[f5];cbv;refine aK.go (G:=Int) (λz=>[(9,.v (.int .i64 z))]) (λ_=>[]) (λw z h'=>J w z h') m 0 (by constructor<;>cbv) eP ?_
 intro w z a hI;rw[L]at hI;cbv;obtain⟨i,C,hw,hi,x2,q2⟩:=hI;have f6:A .az .lss z (A .nat m)=decide (i<m):=by rw[aJ A,C.eq,B.nat];exact decide_eq_decide.2 (by show(i:Int)<(m:Int)↔_;omega)
 rw[f6];by_cases hc:i<m
 .rw[aH hc];obtain⟨v,hv⟩:=di l i;have ib:=C.ix hc;have jB:b.isSome=true:=qb.aR;have Z:=Y.add (A:=A) C (by omega);have iw:=Z.ix (len:=64) (by omega);have aI:m-(i+1)<w:=by omega
  have O:=qb.mono (x2.t (by decide));obtain⟨r,kc,t,V,wb,wn,wc,gr,N,M,a1,a2,R,a4,a5,z1,z2,z3,TY⟩:=q2.out;have o1:cM 134 iC a r kc (D.kept.set n (dU y at_ (l.take i))):=N;have o2:cM 134 iC a t V (D.now.set n (dU x at_ (l.take i))):=M;have w2:aT 256 Iz h0 a (.slice wb wn wc) D.ws:=R;have g2:a p=some (.cells (List.toArray [.slice (some ⟨t,0,none⟩) nl V,.slice (some ⟨r,0,none⟩) nl kc,.slice wb wn wc,.int .i64 D.left,.bool D.dead]) 124 (0,0)):=by rw[gr,Fi];simp only[ml]
  clear gr N M R a1 a4 a5 q2;have an:(D.now.set n (dU x at_ (l.take i)))[n]? =some (dU x at_ (l.take i)):=by rw[hJN];simp[hn]
  have ak:(D.kept.set n (dU y at_ (l.take i)))[n]? =some (dU y at_ (l.take i)):=by rw[hJN];simp[show n<D.kept.length by omega]
  have sx:=Ag (x:=x) (at_:=at_) (b:=l) (by omega) hv;have sy:=Ag (x:=y) (at_:=at_) (b:=l) (by omega) hv;have bF:∀d f,Kp [t] a d->(∀tys,134∉tys->cf tys a d)->cM 134 iC d t V (D.now.set n (dU x at_ (l.take (i+1))))->Kp [r] d f->(∀tys,134∉tys->cf tys d f)->cM 134 iC f r kc (D.kept.set n (dU y at_ (l.take (i+1))))->J (m-(i+1)) (A .aC .add .i64 z 1) f:=λd f E H o3 U t4 o4=>by
   rw[L];obtain⟨cn,Ld,-⟩:=o2.out;obtain⟨ck,ea,-⟩:=o1.out;have aP:=E _ _ ea (by simpa using a2);refine⟨i+1,C.succ (A:=A),rfl,hc,x2.trans ((E.x (ex:=DY) (λb S o T=>?_)).trans (U.x (ex:=DY) (λb S o T=>?_))),⟨r,kc,t,V,wb,wn,wc,?_,o4,?_,?_,a2,(w2.mono (H _ (by decide))).mono (t4 _ (by decide)),?_,?_,z1,z2,z3,?_⟩⟩
   .simp at S;subst S;rw[Ld]at T;cases T;exact⟨_,_,_,rfl,by decide⟩
   .simp at S;subst S;rw[aP]at T;cases T;exact⟨_,_,_,rfl,by decide⟩
   .have:=t4 [124] (by decide) _ _ _ _ (by simp) (H [124] (by decide) _ _ _ _ (by simp) g2);rw[this,Fi];simp only[ml]
   .exact o3.kp U (by simpa using Ne.symm a2) (λ_ _ _ _ hm _=>by cases hm)
   .simp only[ml];exact e1
   .simp only[ml];exact e4
   .simp only[ml];exact e5
   exact(TY.aE (bs:=[t]) (by simpa using z3) E).aE (bs:=[r]) (by simpa using z2) U
  have ew:∀bb,A .fM (some (A .fM (some ⟨bb,0,none⟩) K 64)) (A .aC .add .i64 I z) 1=A .off (A .fM (some ⟨bb,0,none⟩) K 64) (at_+i):=λbb=>by
   rw[B.off,B.fM,F.eq,Z.eq];simp[fM,bL];omega
  obtain⟨W,Q⟩:∃W:Int,W=(v.toNat:Int):=⟨_,rfl⟩;have P:∀(X:Bs) cs,iC.R a cs X->iC.R a (fa cs (at_+i) [.int .u8 W]) (X.set (at_+i) v):=λX cs q=>by rw[Q];exact Vh (by omega) v cs q
  have aD:(D.now.set n (dU x at_ (l.take i))).set n ((dU x at_ (l.take i)).set (at_+i) v)=D.now.set n (dU x at_ (l.take (i+1))):=by rw[sx];simp
  have ai:(D.kept.set n (dU y at_ (l.take i))).set n ((dU y at_ (l.take i)).set (at_+i) v)=D.kept.set n (dU y at_ (l.take (i+1))):=by rw[sy];simp
  generalize D.now.set n (dU x at_ (l.take i))=N1 at *;generalize D.kept.set n (dU y at_ (l.take i))=K1 at *;generalize dU x at_ (l.take i)=X1 at *;generalize dU y at_ (l.take i)=Y1 at *;clear L eP f6 hk;cbv;rw[ao A];refine bc g2 ?_;cbv;refine⟨⟨jB,ib⟩,?_⟩;cbv;refine O.load hv C.eq (λcs u=>?_);have u:cs=[.int .u8 W]:=by rw[Q];exact u
  subst u;cbv;refine⟨⟨rfl,VB⟩,?_⟩;cbv;refine⟨iw,?_⟩;cbv;rw[ew];refine o2.Mi (s:=iC) (by simp[iC]) an F.eq rfl (by show at_+i+1<=64;omega) (P X1) (λd E H o3=>?_);rw[aD]at o3;have g3:=H [124] (by decide) _ _ _ _ (by simp) g2;have aw:=O.mono (H _ (by decide));have aj:=o1.kp E (by simpa using a2) (λ_ _ _ _ hm _=>by cases hm);cbv;rw[ao A];refine bc g3 ?_;cbv;refine⟨⟨jB,ib⟩,?_⟩;cbv;refine aw.load hv C.eq (λcs u=>?_);have u:cs=[.int .u8 W]:=by rw[Q];exact u
  subst u;cbv;refine⟨⟨rfl,VB⟩,?_⟩;cbv;refine⟨iw,?_⟩;cbv;rw[ew];refine aj.Mi (s:=iC) (by simp[iC]) ak F.eq rfl (by show at_+i+1<=64;omega) (P Y1) (λf U t4 o4=>?_);rw[ai]at o4;have dt:=bF d f E H o3 U t4 o4;clear bF;cbv;refine⟨_,A .aC .add .i64 z 1,aI,by constructor<;>cbv,dt⟩
 rw[ag hc];rw[hO (by omega)]at q2;have:=hk a x2 q2;clear L eP hk;cbv;exact this
def Yq(n:Int)(g:Nat->Int):List Value:=[.int .i64 n,.int .u8 (g 0),.int .u8 (g 1),.int .u8 (g 2),.int .u8 (g 3),.int .u8 (g 4),.int .u8 (g 5),.int .u8 (g 6),.int .u8 (g 7),.int .u8 (g 8),.int .u8 (g 9),.int .u8 (g 10),.int .u8 (g 11),.int .u8 (g 12),.int .u8 (g 13),.int .u8 (g 14),.int .u8 (g 15),.int .u8 (g 16),.int .u8 (g 17),.int .u8 (g 18),.int .u8 (g 19),.int .u8 (g 20),.int .u8 (g 21),.int .u8 (g 22),.int .u8 (g 23),.int .u8 (g 24),.int .u8 (g 25),.int .u8 (g 26),.int .u8 (g 27),.int .u8 (g 28),.int .u8 (g 29),.int .u8 (g 30),.int .u8 (g 31),.int .u8 (g 32),.int .u8 (g 33),.int .u8 (g 34),.int .u8 (g 35),.int .u8 (g 36),.int .u8 (g 37),.int .u8 (g 38),.int .u8 (g 39),.int .u8 (g 40),.int .u8 (g 41),.int .u8 (g 42),.int .u8 (g 43),.int .u8 (g 44),.int .u8 (g 45),.int .u8 (g 46),.int .u8 (g 47),.int .u8 (g 48),.int .u8 (g 49),.int .u8 (g 50),.int .u8 (g 51),.int .u8 (g 52),.int .u8 (g 53),.int .u8 (g 54),.int .u8 (g 55),.int .u8 (g 56),.int .u8 (g 57),.int .u8 (g 58),.int .u8 (g 59),.int .u8 (g 60),.int .u8 (g 61),.int .u8 (g 62),.int .u8 (g 63)]
theorem DD(n:Int)(g:Nat->Int):Yq n g=.int .i64 n::KG g:=rfl
theorem wO(g:Nat->Int):KG g=(List.range 64).map λi=>Value.int .u8 (g i):=rfl
theorem Vf(g:Nat->Int)(x:Int)(h:i<64):(KG g).set i (.int .u8 x)=KG (λj=>if j=i then x else g j):=by
 rw[wO,wO];apply rv;intro j;rw[hJN,qy,qy];by_cases a:j<64
 .rw[List.getElem?_range a];by_cases e:i=j
  .rw[if_pos e,if_pos (by simpa using h)];subst e;simp
  rw[if_neg e];simp[Ne.symm e]
 rw[qk (by simp;omega),if_neg (by omega)];rfl
theorem Uo(n:Int)(g:Nat->Int)(x:Int)(h:i<64):(Yq n g).set (1+i) (.int .u8 x)=Yq n (λj=>if j=i then x else g j):=by rw[DD,DD,<-Vf g x h,hKe,List.set_cons_succ]
theorem Vg{g:Nat->Int}{l:Bs}(hl:l.length<=64)(h:∀j x,l[j]? =some x->g j=(x.toNat:Int))(b:∀j,l.length<=j->g j=0):KG g=aA (dQ l):=by
 rw[wO];unfold aA;apply rv;intro i;rw[qy,qy];have Z:=oh hl;by_cases c:i<64
 .rw[List.getElem?_range c];unfold dQ;by_cases a:i<l.length
  .rw[hJQ a];obtain⟨x,hx⟩:=ay (xs:=l) (i:=i) a;rw[hx,Option.map_some,Option.map_some,h i x hx]
  rw[hJP (by omega),hKL,if_pos (by omega),Option.map_some,Option.map_some,b i (by omega)];rfl
 rw[qk (by simp;omega),qk (by omega)];rfl
theorem LI(q:jD h0 h p D)(hl:0<=D.left/\D.left<2^63)(n:Int){l:Bs}(qb:Sl 5 bS h (.slice b m c) l)(hw:D.ws.length<=2^38)
 (a:∀h',cY DY h h'->jD h0 h' p (aY D n l).2->k (.int .i64 (aY D n l).1) h'):
 Ct 38 [.pointer (some ⟨p,0,none⟩),.int .i64 n,.slice b m c] h k:=by
 obtain⟨A,hA⟩:=Ar.ex;have ai:=qb.len;obtain⟨kb,kc,nb,nc,wb,wn,wc,g,o1,o2,e1,e2,w,S,e5,z1,z2,z3,l0⟩:=q.out;have C:dL D n l.length=if D.dead then 15 else if n<0\/n>=D.now.length\/(l.length:Int)>64 then 1 else 0:=rfl
 have W:aY D n l=if dL D n l.length≠0 then(dL D n l.length,D)else(if(dG { D with now:=D.now.set n.toNat (dQ l),ws:=D.ws++[(n,dQ l)] }).1 then 15 else 0,(dG { D with now:=D.now.set n.toNat (dQ l),ws:=D.ws++[(n,dQ l)] }).2):=rfl
 have f1:A .az .lss n 0=decide (n<0):=aJ A ..;obtain⟨u,Fi⟩:∃u,u=D.now.length:=⟨_,rfl⟩;have f2:A .az .geq n (A .nat u)=decide (n>=(u:Int)):=by rw[cZ A,hA.nat];rfl
 have f3:A .az .gtr (A .nat m) 64=decide ((l.length:Int)>64):=by rw[aO A,hA.nat,ai];rfl
 rw[<-Fi]at g C;generalize nO:D.dead=dd at *;refine dH fKT A Tryz.func38 ?_;cbv;rw[ao A];refine bc g ?_;cbv;cases dd with
 |true=>have C:dL D n l.length=15:=C;rw[C,if_pos (by decide)]at W;rw[W]at a;have:=a h (cY.refl _ _) q;clear a;cbv;exact this
 |false=>
  have C:dL D n l.length=if n<0\/n>=(u:Int)\/(l.length:Int)>64 then 1 else 0:=C
  cbv;rw[f1];by_cases H:n<0
  .rw[if_pos (.inl H)]at C;rw[C,if_pos (by decide)]at W;rw[W]at a;have:=a h (cY.refl _ _) q;rw[aH H];clear a;cbv;exact this
  rw[ag H];cbv;rw[ao A];refine bc g ?_;cbv;rw[f2];by_cases I:n>=(u:Int)
  .rw[if_pos (.inr (.inl I))]at C;rw[C,if_pos (by decide)]at W;rw[W]at a;have:=a h (cY.refl _ _) q;rw[aH I];clear a;cbv;exact this
  rw[ag I];cbv;rw[f3];by_cases P:(l.length:Int)>64
  .rw[if_pos (.inr (.inr P))]at C;rw[C,if_pos (by decide)]at W;rw[W]at a;have:=a h (cY.refl _ _) q;rw[aH P];clear a;cbv;exact this
  rw[if_neg (λhh=>by rcases hh with h|h|h;exact H h;exact I h;exact P h)]at C;rw[C,if_neg (by decide)]at W;rw[W]at a;have Ue:(⟨D.left,false,D.kept,D.now.set n.toNat (dQ l),D.ws++[(n,dQ l)]⟩:Dk)={ D with now:=D.now.set n.toNat (dQ l),ws:=D.ws++[(n,dQ l)] }:=by rw[<-nO]
  rw[Ue]at a;clear Ue;rw[ag P];have I:¬n>=(u:Int):=I;have H:¬n<0:=H;have oH:n.toNat<D.now.length:=by rw[<-Fi];omega
  have Jq:l.length<=64:=by omega
  have TZ:aM n n.toNat:=⟨by omega⟩;have VB:=TZ.ix (len:=u) (by omega);clear W C f1 f2 f3 P;cbv;intro r h1 N e7;have l1:Le h h1:=by rw[e7];exact Le.set N
  have f:h1 r=some (.cells (List.toArray (Yq 0 λ_=>0)) 256 (0,0)):=(congrFun e7 r).trans ae;have z7:=l0.none N;clear e7;cbv;refine iB f (mr _) (λh2 e8=>?_);have k2:Kp [r] h1 h2:=by rw[e8];exact Kp.set (by simp)
  have f:h2 r=some (.cells (List.toArray (Yq n λ_=>0)) 256 (0,0)):=by rw[e8,ae];exact congrArg (λc=>some (Obj.cells (List.toArray c) 256 (0,0))) (by kernel_rfl)
  have l2:Le h h2:=l1.aE (bs:=[r]) (by simpa using N) k2;obtain⟨J,X⟩:∃J:Nat->Int->ab->Prop,∀w z h',J w z h'=(∃i d,aM z i/\w=m-i/\i<=m/\Le h h'/\h' r=some (.cells (List.toArray (Yq n d)) 256 (0,0))/\(∀j x,j<i->l[j]? =some x->d j=(x.toNat:Int))/\(∀j,i<=j->d j=0)):=⟨_,λ_ _ _=>rfl⟩;have eP:J m 0 h2:=by rw[X];exact⟨0,_,⟨rfl⟩,rfl,by omega,l2,f,λj x hj=>by omega,λ_ _=>rfl⟩
  clear e8 k2 f l2 l1;cbv;refine aK.go (G:=Int) (λz=>[(8,.v (.int .i64 z))]) (λ_=>[]) (λw z h'=>J w z h') m 0 (by constructor<;>cbv) eP ?_
  intro w' z h3 hI;rw[X]at hI;cbv;obtain⟨i,d,L,bj,hi,y,f,uv,By⟩:=hI;have f6:A .az .lss z (A .nat m)=decide (i<m):=by rw[aJ A,L.eq,hA.nat];exact decide_eq_decide.2 (by show(i:Int)<(m:Int)↔_;omega)
  rw[f6];by_cases hc:i<m
  .rw[aH hc];obtain⟨v,hv⟩:=di l i;have ib:=L.ix hc;have bg:=L.ix (len:=64) (by omega);have jB:b.isSome=true:=qb.aR;have aI:m-(i+1)<w':=by omega
   obtain⟨F,O⟩:∃F:Int,F=(v.toNat:Int):=⟨_,rfl⟩;have bF:∀h',Le h h'->h' r=some (.cells (List.toArray ((Yq n d).set (1+i) (.int .u8 F))) 256 (0,0))->J (m-(i+1)) (A .aC .add .i64 z 1) h':=λh' l' g'=>by
    rw[X];rw[Uo n d F (by omega)]at g';refine⟨i+1,_,L.succ (A:=A),rfl,hc,l',g',λj x hj hx=>?_,λj hj=>?_⟩
    .show(if j=i then F else d j)=_;by_cases e:j=i
     .subst e;rw[hv]at hx;cases hx;rw[if_pos rfl,O]
     rw[if_neg e];exact uv j x (by omega) hx
    show(if j=i then F else d j)=_;rw[if_neg (by omega)];exact By j (by omega)
   clear X eP f6 a uv By;cbv;refine⟨⟨jB,ib⟩,?_⟩;cbv;refine(qb.mono (y.t _)).load hv L.eq (λcs au=>?_);have au:cs=[.int .u8 F]:=by rw[O];exact au
   subst au;cbv;rw[ao A];refine⟨bg,?_⟩;cbv;refine Yx L f (by show 0+1+i<65;omega) (λh4 S=>?_);have dt:=bF h4 (y.aE (bs:=[r]) (by simpa using N) (by rw[S];exact Kp.set (by simp))) (by rw[S,ae]);clear bF S;cbv;refine⟨_,A .aC .add .i64 z 1,aI,by constructor<;>cbv,dt⟩
  rw[ag hc];have ur:KG d=aA (dQ l):=Vg Jq (λj x hx=>uv j x (by have:=(dB.1 hx).1;omega) hx) (λj hj=>By j (by omega));have Ry:=oh Jq;have g3:=y _ _ g;have aj:=o1.mono (y.t _);have an:=o2.mono (y.t _);have w3:=w.mono (y.t _);have xV:=w.sl.len;clear X eP f6 uv By;cbv;rw[ao A];refine bc g3 ?_;cbv;refine bc f ?_;cbv;intro n9 h4 BQ e9;have E:Le h3 h4:=by rw[e9];exact Le.set BQ
  have q9:Sl 256 Iz h4 (.slice (some ⟨n9,0,none⟩) 1 1) [(n,dQ l)]:=bC (s:=Iz) (cs:=Yq n d) ((congrFun e9 n9).trans ae) ⟨by rw[DD,ur],Ry⟩;have g4:=E _ _ g3;have aW:=E _ _ f;have ak:wc=0\/wb≠some ⟨r,0,none⟩:=by
   rcases w.out with⟨b',y1,y2⟩|⟨bh,eQ,y1,y2,y3⟩
   .left;cases y1;rfl
   right;cases y1;intro hh;cases hh;exact y3.has N
  clear e9;cbv;try rw[ao A]
  refine bc g4 ?_;cbv;refine⟨⟨_,rfl,rfl⟩,?_⟩;cbv;refine(w3.mono (E.t _)).app q9 (by decide) rfl (by decide) (by omega) ((l0.trans y).trans E) (λm5 b5 c5 h5 Of l5 t5 k5 q5=>?_);have g5:=k5 _ _ g4 (.inr (.inr (λc fr e=>by cases e)));have aP:=k5 _ _ aW (ak.elim .inl (λhh=>.inr (.inl hh)));have U:cY DY h4 h5:=λbb o hb bm=>k5 bb o hb (.inr (.inr (λc fr e=>bm _ _ _ e (by decide))));have Z:=(aj.mono (E.t _)).mono (t5 _ (by decide));have Y:=(an.mono (E.t _)).mono (t5 _ (by decide));clear k5;cbv;rw[ao A];refine iB g5 (by show 3<=5;decide) (λK T=>?_);have k6:Kp [p] h5 K:=by rw[T];exact Kp.set (by simp)
  have Q:∀tys,124∉tys->cf tys h5 K:=λtys hn=>by rw[T];exact cf.set g5 hn
  have g6:K p=some (.cells (List.toArray [.slice (some ⟨nb,0,none⟩) u nc,.slice (some ⟨kb,0,none⟩) u kc,.slice b5 m5 c5,.int .i64 D.left,.bool false]) 124 (0,0)):=(congrFun T p).trans ae;have bd:r≠p:=λe=>by rw[e,y _ _ g]at f;cases f
  have aD:=k6 _ _ aP (by simpa using bd);have x6:cY DY h K:=((y.trans E).x _).trans (U.trans (by rw[T];exact gi g5 (by decide)));have Qp:=l5.aE (bs:=[p]) (by simpa using z1) k6;have aw:=Z.mono (Q _ (by decide));have V:=Y.mono (Q _ (by decide));have w6:=q5.mono (Q _ (by decide));have fin:∀B,Kp [nb] K B->(∀tys,134∉tys->cf tys K B)->cM 134 iC B nb nc (D.now.set n.toNat (dQ l))->jD h0 B p { D with now:=D.now.set n.toNat (dQ l),ws:=D.ws++[(n,dQ l)] }/\cY DY h B:=λB M t7 o7=>by
   obtain⟨cn,Ld,-⟩:=V.out;refine⟨⟨kb,kc,nb,nc,b5,m5,c5,?_,?_,o7,?_,e2,w6.mono (t7 _ (by decide)),?_,?_,z1,z2,z3,Qp.aE (bs:=[nb]) (by simpa using z3) M⟩,x6.trans (M.x (ex:=DY) (λbb hb o ji=>?_))⟩
   .have:=t7 [124] (by decide) _ _ _ _ (by simp) g6;rw[this,Fi,nO];simp only[ml]
   .exact aw.kp M (by simpa using e2) (λ_ _ _ _ hm _=>by cases hm)
   .simp only[ml];exact e1
   .simp only[ml];exact S
   .simp only[ml];exact e5
   simp at hb;subst hb;rw[Ld]at ji;cases ji;exact⟨_,_,_,rfl,by decide⟩
  clear T k6 Q U x6 Qp Z Y q5;cbv;rw[ao A];refine bc g6 ?_;cbv;rw[ao A];refine bc aD ?_;cbv;refine⟨⟨rfl,VB⟩,?_⟩;cbv;refine V.setAt (s:=iC) (by simp[iC]) (i:=n.toNat) oH TZ.eq rfl (cs:=KG d) (x:=dQ l) ⟨ur,Ry⟩ (λB M t7 o7=>?_);obtain⟨r7,x7⟩:=fin B M t7 o7;clear fin M t7 o7;cbv;refine bXV r7 nO hl (λh8 x8 r8=>?_);have a:k (.int .i64 (if(dG { D with now:=D.now.set n.toNat (dQ l),ws:=D.ws++[(n,dQ l)] }).1 then 15 else 0)) h8:=a h8 (x7.trans x8) r8;generalize dG { D with now:=D.now.set n.toNat (dQ l),ws:=D.ws++[(n,dQ l)] }=R at *;obtain⟨t,D9⟩:=R;cases t with
  |true=>cbv;exact a
  |false=>cbv;exact a
theorem ZV(P:0<D.now.length):dL D 0 0=if D.dead then 15 else 0:=by
 unfold dL;split
 .rfl
 rw[if_neg];rintro(h|h|h)<;>omega
theorem LJ(q:jD h0 h p D)
 (t:∀h' n c e,e=(if D.dead then 15 else 0:Int)->(D.dead=false->n=mU (bQ D 0)/\c=mU ((bQ D 0).drop 8))->Le h h'->k (.tuple #[.int .i64 n,.int .i64 c,.int .i64 e]) h'):
 Ct 35 [.pointer (some ⟨p,0,none⟩)] h k:=by
 obtain⟨A,Y⟩:=Ar.ex;have i:A .az .neq 15 0=true:=by rw[av A];rfl
 have F:A .az .neq 0 0=false:=by rw[av A];rfl
 have K:0<D.now.length:=by obtain⟨kb,kc,nb,nc,wb,wn,wc,g,o1,o2,e1,T,w,U,v,z⟩:=q.out;exact v
 have a:=ZV K;refine dH fKW A Tryz.func35 ?_;cbv;refine EY q 0 (λo=>?_) (λd V R S l1 G Q j H=>?_)
 .have O:D.dead=true:=by
   cases l:D.dead with
   |true=>rfl
   |false=>rw[a,l]at o;exact absurd rfl o
  have d:dL D 0 0=15:=by rw[a,O];rfl
  have:=t h 0 0 15 (by rw[O];rfl) (λs=>by rw[O]at s;cases s) (Le.refl _);rw[d];cbv;rw[i];cbv;exact this
 have O:D.dead=false:=by
  cases l:D.dead with
  |false=>rfl
  |true=>rw[a,l]at d;cases d
 subst G;have L:ar 8 (some (bQ D 0))=(mD ((bQ D 0).take 8),some ((bQ D 0).drop 8)):=by simp only[ar,dO];rw[if_pos (by omega)]
 have E:ar 8 (some ((bQ D 0).drop 8))=(mD (((bQ D 0).drop 8).take 8),some (((bQ D 0).drop 8).drop 8)):=by simp only[ar,dO];rw[if_pos (by rw[ec];omega)]
 have M:IntKind.i64.wrap ((ar 8 (some (bQ D 0))).1:Int)=mU (bQ D 0):=by rw[L];rfl
 have m:IntKind.i64.wrap ((ar 8 (some ((bQ D 0).drop 8))).1:Int)=mU ((bQ D 0).drop 8):=by rw[E];rfl
 have J:(ar 8 (some (bQ D 0))).2=some ((bQ D 0).drop 8):=by rw[L]
 clear L E;cbv;rw[F];cbv;refine HK H.sl (λW pr Z B I=>?_);cbv;refine yj I (λX N f x u=>?_);rw[J]at u;rw[M]at f;cbv;refine yj u (λr P b y r4=>?_);rw[m]at b;have C:Le h r:=j.trans (B.aE (by simpa using Z) (x.trans y));have:=t r N P 0 (by rw[O];rfl) (λ_=>⟨f,b⟩) C;clear M m J f b;cbv;exact this
theorem jD.pg(q:jD h0 h p D){b:Bs}(d:b∈D.now):b.length=64:=by obtain⟨n,kc,r,s,wb,t,wc,g,o1,o2,e1,f,w,j,k,z,u,v,o⟩:=q.out;obtain⟨c,l,a,m⟩:=o2.out;obtain⟨i,e⟩:=hJR.1 d;exact(a.2 i b e).2
theorem jD.max(q:jD h0 h p D):D.now.length<=4096:=by obtain⟨k,kc,n,c,wb,d,wc,g,o1,o2,e1,a,w,e,b,z,f,i,l⟩:=q.out;exact e
theorem Cy(q:jD h0 h p D):(bN D).length=64*(D.now.length-1):=by unfold bN;rw[mV (λb a=>q.pg (hJC a)),ec]
theorem cKX(q:jD h0 h p D)(hd:D.dead=false)(H:aM z n)
 (hk:∀h' b m c,Le h h'->Sl 5 bS h' (.slice b m c) ((bN D).take n)->k (.slice b m c) h'):
 Ct 101 [.pointer (some ⟨p,0,none⟩),.int .i64 z] h k:=by
 have QS:=q.max;obtain⟨kb,kc,nb,nc,wb,wn,wc,g,o1,o2,e1,e2,w,e4,e5,z1,z2,z3,l0⟩:=q.out;obtain⟨P,hP⟩:∃P,P=D.now.length:=⟨_,rfl⟩;rw[<-hP]at g;obtain⟨J,X⟩:∃J:Nat->(Int×Option Addr×Nat×Nat)->ab->Prop,∀w g h',J w g h'=(∃i,aM g.1 (i+1)/\w=P-i/\i+1<=P/\Le h h'/\aT 5 bS h h' (.slice g.2.1 g.2.2.1 g.2.2.2) (((D.now.drop 1).take i).flatten)):=⟨_,λ_ _ _=>rfl⟩;have v:J P (1,none,0,0) h:=by rw[X];exact⟨0,⟨rfl⟩,rfl,by omega,Le.refl _,aT.nil⟩
 refine cp cKP Tryz.func101 λA u=>?_;cbv;refine aK.go (G:=Int×Option Addr×Nat×Nat) (λg=>[(6,.v (.int .i64 g.1)),(5,.v (.slice g.2.1 g.2.2.1 g.2.2.2))]) (λ_=>[]) (λw g h'=>J w g h') P (1,none,0,0) (by constructor<;>cbv) v ?_
 intro w' W B I;rw[X]at I;cbv;obtain⟨a,b,m,c⟩:=W;obtain⟨i,e,U,hi,y,j⟩:=I;have e:aM a (i+1):=e;have j:aT 5 bS h B (.slice b m c) (((D.now.drop 1).take i).flatten):=j;have Y:=y _ _ g;have hm:=j.sl.len;have V:m=64*i:=by rw[hm,mV (λx hx=>q.pg (hJC (hKf hx))),dW,ec];congr 1;omega
 have s:A .az .lss a (A .nat P)=decide (i+1<P):=by rw[aJ A,e.eq,u.nat];exact decide_eq_decide.2 (by show((i+1:Nat):Int)<(P:Int)↔_;omega)
 have t:A .az .lss (A .nat m) z=decide (m<n):=by rw[aJ A,H.eq,u.nat];exact decide_eq_decide.2 (by show(m:Int)<(n:Int)↔_;omega)
 obtain⟨f,M⟩:∃f,f=A .iT z (A .nat m):=⟨_,rfl⟩;have l:aM f (min n m):=⟨by rw[M,u.iT,u.nat,H.eq];show min (n:Int) (m:Int)=_;omega⟩;have iD:=j.sl.bound;have fin:¬(i+1<P/\m<n)->(0<=f/\f<=(c:Int))/\k (.slice (A .cut b 0 (A .nat c) 1) (A .mW f 0) c) B:=λhn=>by
  refine⟨by have:=l.eq;omega,?_⟩;rw[cQ (A:=A) l];have E:=j.sl.pw (A:=A) (z:=A .nat c) (i:=min n m) (by omega) rfl;have he:(((D.now.drop 1).take i).flatten).take (min n m)=(bN D).take n:=by
   have hr:=Cy q;have R:bN D=((D.now.drop 1).take i).flatten++((D.now.drop 1).drop i).flatten:=by unfold bN;rw[<-List.flatten_append,hJO]
   rw[R];by_cases ai:m<n
   .have h0:(D.now.drop 1).drop i=[]:=wM (by rw[ec];omega);rw[h0,List.flatten_nil,wS];generalize ((D.now.drop 1).take i).flatten=fl at *;rw[hO (show fl.length<=min n m by omega),hO (show fl.length<=n by omega)]
   rw[hKs (by omega),zv (by omega)]
  rw[he]at E;exact hk B _ _ _ y E
 rw[ao A];refine bc Y ?_;cbv;rw[s];by_cases o:i+1<P
 .rw[aH o];cbv;rw[t];by_cases r:m<n
  .rw[aH r];have T:dL D a 0=0:=by unfold dL;rw[hd];show(if _ then(1:Int)else 0)=0;rw[if_neg];have:=e.eq;rintro(K|K|K)<;>omega
   have L:((D.now.drop 1).take (i+1)).flatten=((D.now.drop 1).take i).flatten++bQ D a:=by
    obtain⟨x,hx⟩:=di D.now (i+1);have e1:bQ D a=x:=by unfold bQ;rw[show a.toNat=i+1 by have:=e.eq;omega,hx];rfl
    rw[e1];exact eX (by rw[nM,hKe];exact hx)
   have F:∀h' d m' c',Le h h'->aT 5 bS h h' (.slice d m' c') (((D.now.drop 1).take i).flatten++bQ D a)->J (P-(i+1)) (A .aC .add .i64 a 1,d,m',c') h':=λh' d m' c' l' q'=>by
    rw[X];exact⟨i+1,e.succ (A:=A),rfl,o,l',by rw[L];exact q'⟩
   have N:P-(i+1)<w':=by omega
   clear X v fin s t L M l;cbv;refine EY (q.le y) a (λO=>absurd T O) (λ_ h2 b2 r l2 jt Q Z q2=>?_);subst jt;have nH:=j.mono (Z.t _);generalize bQ D a=pg at *;cbv;refine nH.app q2.sl (by decide) rfl (by decide) (by omega) (y.trans Z) (λm' d c' h3 GR l3 t3 k3 q3=>?_);have S:=F h3 d m' c' l3 q3;clear F k3;cbv;refine⟨P-(i+1),(A .aC .add .i64 a 1,d,m',c'),N,by constructor<;>cbv,S⟩
  rw[ag r];have:=fin (λC=>r C.2);rw[M]at this;clear X v fin s t M l;cbv;refine⟨this.1,?_⟩;have:=this.2;cbv;exact this
 rw[ag o];have:=fin (λC=>o C.1);rw[M]at this;clear X v fin s t M l;cbv;refine⟨this.1,?_⟩;have:=this.2;cbv;exact this
def dI:Nat->Bs->List Bs×Bool
 |0,b=>([],b.isEmpty)
 |f+1,b=>if b.length=0 then([],true)else if b.length<8 then([],false)else if dv b<0\/dv b>(b.length:Int)-8 then([],false)else
  let r:=dI f (b.drop (8+(dv b).toNat))
  ((b.drop 8).take (dv b).toNat::r.1,r.2)
theorem NQ{bs:Bs}(q:Sl 5 bS h (.slice b m c) bs)(hm:m<=2^30)
 (hk:∀h' b1 m1 C,Le h h'->Sl 35 me h' (.slice b1 m1 C) (dI bs.length bs).1->k (.tuple #[.slice b1 m1 C,.bool (dI bs.length bs).2]) h'):
 Ct 100 [.slice b m c] h k:=by
 have aP:=q.len;obtain⟨J,X⟩:∃J:Nat->((Option Addr×Nat×Nat)×Option Addr×Nat×Nat)->ab->Prop,∀w g h',J w g h'=(∃u L f,w=g.1.2.1/\u.length<=f/\u.length+8*L.length<=bs.length/\Le h h'/\Sl 5 bS h' (.slice g.1.1 g.1.2.1 g.1.2.2) u/\
  aT 35 me h h' (.slice g.2.1 g.2.2.1 g.2.2.2) L/\dI bs.length bs=(L++(dI f u).1,(dI f u).2)):=⟨_,λ_ _ _=>rfl⟩
 have hJ:J m ((b,m,c),none,0,0) h:=by rw[X];exact⟨bs,[],bs.length,rfl,mr _,by simp,Le.refl _,q,aT.nil,rfl⟩
 refine cp cKQ Tryz.func100 λA hA=>?_;cbv;refine aK.go (G:=(Option Addr×Nat×Nat)×Option Addr×Nat×Nat) (λg=>[(0,.v (.slice g.1.1 g.1.2.1 g.1.2.2)),(4,.v (.slice g.2.1 g.2.2.1 g.2.2.2))]) (λ_=>[]) (λw g h'=>J w g h') m ((b,m,c),none,0,0) (by constructor<;>cbv) hJ ?_
 intro w g r hI;rw[X]at hI;cbv;obtain⟨⟨V,a,d⟩,ob,om,oc⟩:=g;obtain⟨u,L,f,hw,hf,bg,l1,B,M,P⟩:=hI;have hw:w=a:=hw;have B:Sl 5 bS r (.slice V a d) u:=B;have M:aT 35 me h r (.slice ob om oc) L:=M;have pW:=B.len;have iD:=B.bound;have aW:=M.sl.len;have f0:A .az .gtr (A .nat a) 0=decide (0<a):=by rw[aO A,hA.nat];exact decide_eq_decide.2 (by rw[kH];omega)
 have f1:A .az .lss (A .nat a) 8=decide (a<8):=by rw[aJ A,hA.nat];exact decide_eq_decide.2 (by rw[kH];omega)
 have fin:∀H,Le r H->∀t,dI f u=([],t)->k (.tuple #[.slice ob om oc,.bool t]) H:=λH I t e=>by
  rw[e]at P;simp only[wS]at P;rw[P]at hk;exact hk H ob om oc (l1.trans I) (M.sl.mono (I.t _))
 rw[f0];by_cases c0:0<a
 .rw[aH c0];obtain⟨j,rfl⟩:∃j,f=j+1:=⟨f-1,by omega⟩;have hR:dI (j+1) u=if u.length=0 then([],true)else if u.length<8 then([],false)else if dv u<0\/dv u>(u.length:Int)-8 then([],false)else
   ((u.drop 8).take (dv u).toNat::(dI j (u.drop (8+(dv u).toNat))).1,(dI j (u.drop (8+(dv u).toNat))).2):=rfl
  rw[if_neg (by omega)]at hR;cbv;rw[f1];by_cases C:a<8
  .rw[aH C];have:=fin r (Le.refl _) false (by rw[hR,if_pos (by omega)]);clear X hJ P fin hR;cbv;exact this
  rw[ag C];rw[if_neg (by omega)]at hR;have Q:((u.length:Nat):Int)-8=(a:Int)-8:=by rw[pW]
  have Eo:ar 8 (some (u.take 8))=(mD (u.take 8),some []):=bZs _ (by rw[dW];omega);have kQ:(0:Int)<=8/\(8:Int)<=(d:Int):=by omega
  have d8:A .mW 8 0=8:=cQ ⟨rfl⟩;have t8:=B.pw (A:=A) (z:=A .nat d) (i:=8) (by omega) rfl;have R:dv u<0->dI (j+1) u=([],false):=λl=>by rw[hR,if_pos (.inl l)]
  have S:dv u>(a:Int)-8->dI (j+1) u=([],false):=λl=>by rw[hR,if_pos (.inr (Q ▸ l))]
  have v:¬dv u<0->¬dv u>(a:Int)-8->aM (dv u) (dv u).toNat/\8+(dv u).toNat<=a/\(u.drop (8+(dv u).toNat)).length<=j/\dI bs.length bs=((L++[(u.drop 8).take (dv u).toNat])++(dI j (u.drop (8+(dv u).toNat))).1,(dI j (u.drop (8+(dv u).toNat))).2)/\u.length-(8+(dv u).toNat)+8*(L.length+1)<=bs.length:=λri aw=>by
   rw[if_neg (λl=>l.elim ri (λl=>aw (Q ▸ l)))]at hR;refine⟨⟨by omega⟩,by omega,by rw[ec];omega,?_,by omega⟩;rw[P,hR,ym];rfl
  have hB:om+1<=2^39:=by omega
  clear hJ hR P;cbv;refine⟨kQ,?_⟩;cbv;rw[d8];refine HK t8 (λH p hp I r2=>?_);cbv;refine yj r2 (λy x3 O k3 r3=>?_);rw[Eo]at O;have K:Le r y:=I.aE (by simpa using hp) k3;have O:x3=dv u:=O;have Vd:=B.mono (K.t [5]);have ak:=M.mono (K.t [35,5]);clear Eo r3 r2 k3 t8 d8 kQ hp I;rw[O];clear O;generalize dv u=z at *;have f3:A .az .lss z 0=decide (z<0):=aJ A ..;have jg:A .aC .sub .i64 (A .nat a) 8=(a:Int)-8:=by rw[hA.aC,hA.nat];show IntKind.i64.wrap ((a:Int)-8)=_;rw[IntWalk.i64_in _ (by omega)]
  have U:A .az .gtr z (A .aC .sub .i64 (A .nat a) 8)=decide (z>(a:Int)-8):=by rw[jg];exact aO A ..
  by_cases D:z<0
  .have e:=R D;have:=fin y K _ e;clear R S v fin e;cbv;rw[f3,aH D];cbv;exact this
  by_cases T:z>(a:Int)-8
  .have e:=S T;have:=fin y K _ e;rw[aH T]at U;clear R S v fin e;cbv;rw[f3,ag D];cbv;rw[U];cbv;exact this
  rw[ag T]at U;obtain⟨lG,Jk,pO,P,jt⟩:=v D T;generalize z.toNat=n at *;have Y:aM 8 8:=⟨rfl⟩;have N:aM (A .aC .add .i64 8 z) (8+n):=Y.add (A:=A) lG (by omega);have jT:0<=A .aC .add .i64 8 z/\A .aC .add .i64 8 z<=(d:Int)/\0<=(8:Int)/\(8:Int)<=A .aC .add .i64 8 z:=by have:=N.eq;omega
  have BU:0<=A .aC .add .i64 8 z/\A .aC .add .i64 8 z<=(a:Int):=by have:=N.eq;omega
  have Ns:A .mW (A .aC .add .i64 8 z) 8=n:=by rw[EK (A:=A) N Y];omega
  have Fm:A .mW (A .nat d) 8=d-8:=bZ (A:=A) Y;have Ly:=bZ (A:=A) (n:=a) N;have E:=bZ (A:=A) (n:=d) N;have tm:=Vd.aXF (A:=A) Y (m:=n) (by omega) rfl;have td:=Vd.gT (A:=A) N (by omega) rfl rfl;have bF:∀h' m' o c',Le h h'->Sl 5 bS h' (.slice (A .cut V (A .aC .add .i64 8 z) (A .nat d) 1) (a-(8+n)) (d-(8+n))) (u.drop (8+n))->aT 35 me h h' (.slice o m' c') (L++[(u.drop 8).take n])->
   J (a-(8+n)) ((A .cut V (A .aC .add .i64 8 z) (A .nat d) 1,a-(8+n),d-(8+n)),o,m',c') h':=λh' m' o c' l' s' q'=>by
   rw[X];exact⟨_,_,j,rfl,pO,by rw[dr,ec];exact jt,l',s',q',P⟩
  have aI:a-(8+n)<w:=by omega
  obtain⟨F,W⟩:∃x,x=a-(8+n):=⟨_,rfl⟩;obtain⟨ai,Z⟩:∃x,x=d-(8+n):=⟨_,rfl⟩;obtain⟨bd,au⟩:∃x,x=d-8:=⟨_,rfl⟩;rw[<-W,<-Z]at bF;rw[<-W]at aI;rw[<-W]at Ly;rw[<-Z]at E;rw[<-au]at Fm tm;rw[<-W,<-Z]at td;clear fin P hk R S v X;cbv;rw[f3,ag D];cbv;rw[U];cbv;intro n4 h4 HS e4;have l4:Le y h4:=by rw[e4];exact Le.set HS
  clear e4;cbv;refine⟨jT,?_⟩;cbv;rw[Ns,Fm];have o4:aT 5 bS y h4 (.slice (some ⟨n4,0,none⟩) 0 0) []:=aT.nil;refine o4.app (tm.mono (l4.t _)) (by decide) rfl (by decide) (by omega) l4 (λm4 b4 pR h5 BT l5 t5 k5 q5=>?_);have aj:Le y h5:=l5;have an:=td.mono (l5.t _);have aD:=ak.mono (l5.t _);have q5:Sl 5 bS h5 (.slice b4 m4 pR) ((u.drop 8).take n):=by simpa using q5.sl
  clear k5;cbv;intro n6 h6 Bx e6;have l6:Le h5 h6:=by rw[e6];exact Le.set Bx
  have q6:Sl 35 me h6 (.slice (some ⟨n6,0,none⟩) 1 1) [(u.drop 8).take n]:=bC (s:=me) ((congrFun e6 n6).trans ae) ⟨_,rfl,q5.mono (l6.t _)⟩;clear e6;cbv;refine(aD.mono (l6.t _)).app q6 (by decide) rfl (by decide) hB ((l1.trans K).trans (aj.trans l6)) (λm' o c' h7 GR l7 t7 k7 q7=>?_);have dt:=bF h7 m' o c' l7 ((an.mono (l6.t _)).mono (t7 _ (by decide))) q7;clear bF k7;cbv;refine⟨BU,?_⟩;cbv;rw[Ly,E];refine⟨F,((A .cut V (A .aC .add .i64 8 z) (A .nat d) 1,F,ai),o,m',c'),aI,by constructor<;>cbv,dt⟩
 rw[ag c0];have:=fin r (Le.refl _) true (by
  have:u=[]:=ee (by omega);subst this;cases f<;>rfl)
 clear X hJ P fin;cbv;exact this
def fB(D:Dk):Nat:=64*(D.now.length-1)
def Cw(D:Dk)(n c:Int):List Bs×Bool:=
 let b:=(bN D).take (max (min n (fB D)) 0).toNat;let r:=dI b.length b
 (r.1,r.2&&(decide (n>=0)&&(decide (n<=(fB D:Nat))&&decide (c=(r.1.length:Nat)))))
def nq(D:Dk):List Bs×Bool:=if D.dead then([],false)else Cw D (mU (bQ D 0)) (mU ((bQ D 0).drop 8))
theorem jD.pos(q:jD h0 h p D):0<D.now.length:=by obtain⟨k,kc,n,c,wb,d,wc,g,o1,o2,e1,a,w,b,e,z⟩:=q.out;exact e
theorem Tq(q:jD h0 h p D)
 (a:∀h' b m c l w,(l,w)=nq D->Le h h'->Sl 35 me h' (.slice b m c) l->k (.tuple #[.slice b m c,.bool w]) h'):
 Ct 36 [.pointer (some ⟨p,0,none⟩)] h k:=by
 obtain⟨A,f⟩:=Ar.ex;have r:A .az .neq 15 0=true:=by rw[av A];rfl
 have pZ:A .az .neq 0 0=false:=by rw[av A];rfl
 have S:=q.max;have W:=q.pos;have tV:=Cy q;have Q:nq D=if D.dead then([],false)else Cw D (mU (bQ D 0)) (mU ((bQ D 0).drop 8)):=rfl
 obtain⟨kb,kc,nb,nc,wb,wn,wc,g,-⟩:=q.out;obtain⟨P,C⟩:∃P,P=D.now.length:=⟨_,rfl⟩;have Z:fB D=64*(P-1):=by rw[C];rfl
 rw[<-C]at g S W tV;refine dH fKV A Tryz.func36 ?_;cbv;refine LJ q (λU n c e i t j=>?_);cases O:D.dead with
 |true=>rw[O,if_pos rfl]at i;rw[O,if_pos rfl]at Q;have:=a U none 0 0 [] false Q.symm j Sl.nil;rw[i];clear Q;cbv;rw[r];cbv;exact this
 |false=>
  rw[O,if_neg (by decide)]at i;rw[O,if_neg (by decide),<-(t O).1,<-(t O).2]at Q;rw[i];have T:=j _ _ g;obtain⟨z,y⟩:∃z,z=A .aC .mul .i64 (A .aC .sub .i64 (A .nat P) 1) 64:=⟨_,rfl⟩;have X:aM z (fB D):=⟨by
   rw[y,f.aC,f.nat,Z];show IntKind.i64.wrap (IntKind.i64.wrap ((P:Int)-1)*64)=_;rw[IntWalk.i64_in ((P:Int)-1) (by omega),IntWalk.i64_in _ (by omega)];omega⟩
  obtain⟨s,E⟩:∃s,s=A .imax (A .iT n z) 0:=⟨_,rfl⟩;have J:aM s (max (min n (fB D)) 0).toNat:=⟨by
   rw[E,f.imax,f.iT,X.eq];show max (min n _) 0=_;omega⟩
  have F:Cw D n c=((dI ((bN D).take (max (min n (fB D)) 0).toNat).length ((bN D).take (max (min n (fB D)) 0).toNat)).1,(dI ((bN D).take (max (min n (fB D)) 0).toNat).length ((bN D).take (max (min n (fB D)) 0).toNat)).2&&(decide (n>=0)&&(decide (n<=(fB D:Nat))&&decide (c=((dI ((bN D).take (max (min n (fB D)) 0).toNat).length ((bN D).take (max (min n (fB D)) 0).toNat)).1.length:Nat))))):=rfl;have K:((bN D).take (max (min n (fB D)) 0).toNat).length<=2^30:=by rw[dW];omega
  have x:A .az .geq n 0=decide (n>=0):=cZ A ..;have M:A .az .leq n z=decide (n<=(fB D:Nat)):=by rw[VJ A,X.eq]
  clear Z;generalize fB D=I at *;cbv;rw[pZ];cbv;rw[ao A];refine bc T ?_;cbv;rw[<-y,<-E];refine cKX (q.le j) O J (λh2 u m2 c2 l2 G=>?_);generalize (bN D).take (max (min n I) 0).toNat=bs at *;cbv;refine NQ G (by rw[G.len];exact K) (λB d o v l3 H=>?_);have N:A .az .eql c (A .nat o)=decide (c=((dI bs.length bs).1.length:Nat)):=by rw[aq A,f.nat,<-H.len];rfl
  have a:∀w,w=((dI bs.length bs).2&&(decide (n>=0)&&(decide (n<=(I:Nat))&&decide (c=((dI bs.length bs).1.length:Nat)))))->k (.tuple #[.slice d o v,.bool w]) B:=λw V=>a B d o v (dI bs.length bs).1 w (by rw[Q,F,V]) ((j.trans l2).trans l3) H;rw[<-x,<-M,<-N]at a;clear F Q X J;generalize (dI bs.length bs).2=w at *;have x:A .az .geq n 0=A .az .geq n 0:=rfl;generalize Y:A .az .geq n 0=L at *;generalize R:A .az .leq n z=u at *;generalize xw:A .az .eql c (A .nat o)=d at *;cbv;cases w with
  |false=>have:=a false rfl;cbv;exact this
  |true=>
   cbv;rw[Y];cases L with
   |false=>have:=a false rfl;cbv;exact this
   |true=>
    cbv;rw[R];cases u with
    |false=>have:=a false rfl;cbv;exact this
    |true=>cbv;rw[xw];have:=a d (by cases d<;>rfl);cbv;exact this
def LB(D:Dk):Prop:=0<=D.left/\D.left<2^63
theorem zJ(q:LB D):LB (dG D).2:=by
 unfold LB at *;unfold dG;split
 .rename_i h;split
  .exact⟨by show(0:Int)<=0;omega,by show(0:Int)<2^63;omega⟩
  have e:IntKind.i64.wrap (D.left+ -1)=D.left+ -1:=IntWalk.i64_in _ (by omega);show 0<=IntKind.i64.wrap (D.left+ -1)/\IntKind.i64.wrap (D.left+ -1)<2^63;rw[e];omega
 exact q
theorem kE(q:LB D)(n:Int)(l:Bs):LB (aY D n l).2:=by
 unfold aY;split
 .exact q
 exact zJ (D:={ D with now:=D.now.set n.toNat (dQ l),ws:=D.ws++[(n,dQ l)] }) q
theorem qC(q:LB D):LB (cJ D).2:=by
 unfold cJ;split
 .exact q
 split
 .exact zJ q
 exact zJ q
theorem zm:∀(n:Nat) (D:Dk) (pg:Nat) (b:Bs),b.length<=n->LB D->LB (cO D pg b).2:=λn=>by
 induction n with
 |zero=>intro D pg b h q;have:b=[]:=ee (by omega);rw[cO,dif_pos this];exact qC q
 |succ n i=>
  intro D pg b h q;rw[cO];split
  .exact qC q
  rename_i m;have k:=hJS.2 m;split
  .exact kE q ..
  exact i _ _ _ (by rw[ec];omega) (kE q ..)
theorem og(q:LB D)(s:Nat)(b:Bs):LB (bR D s b).2:=by
 unfold bR;split
 .exact zm _ _ _ _ (mr _) q
 split
 .exact q
 exact zm _ _ _ _ (mr _) q
structure Tw(h0 h:ab)(lg p:Nat)(s n:Int):Prop where
 out:h lg=some (.cells (List.toArray [.pointer (some ⟨p,0,none⟩),.int .i64 s,.int .i64 n]) 130 (0,0))
 new:h0 lg=none
theorem Tw.lt{h':ab}{g:Nat}{n:Int}(q:Tw h0 h g p s n)(l:cf [130] h h'):Tw h0 h' g p s n:=⟨l _ _ _ _ (by decide) q.out,q.new⟩
theorem aKG(q:jD h0 h p D)(s:D.dead=false){l:List Bs}(C:nq D=(l,true))
 (i:∀h' g b m c,Le h h'->Tw h0 h' g p (mU (bQ D 0)) (mU ((bQ D 0).drop 8))->Sl 35 me h' (.slice b m c) l->k (.tuple #[.pointer (some ⟨g,0,none⟩),.slice b m c,.int .i64 0]) h'):
 Ct 9 [.pointer (some ⟨p,0,none⟩)] h k:=by
 obtain⟨A,B⟩:=Ar.ex;have Z:A .az .neq 0 0=false:=by rw[av A];rfl
 refine dH T9 A Tryz.func9 ?_;cbv;refine LJ q (λF n c e t Q j=>?_);rw[s,if_neg (by decide)]at t;rw[t];obtain⟨u,r⟩:=Q s;rw[<-u,<-r]at i;clear u r Q;cbv;rw[Z];cbv;refine Tq (q.le j) (λz b m y G w a v E=>?_);rw[C]at a;injection a with hl a
 subst hl;rw[a];have N:A .not true=false:=by rw[B.not];rfl
 cbv;rw[N];cbv;intro g o f d;have x:Le z o:=by rw[d];exact Le.set f
 have:=i o g b m y ((j.trans v).trans x) ⟨(congrFun d g).trans ae,(q.base.trans (j.trans v)).none f⟩ (E.mono (x.t _));clear d i;cbv;exact this
set_option maxHeartbeats 8000000
abbrev bXY:List Nat:=[130,124,134,256]
theorem EU(g:D.dead=true)(s n:Nat){l:Bs}(c:¬l.length>65536)(d:¬((l.length:Int)+8>((D.now.length:Int)-1)*64-s)):bp ⟨D,s,n⟩ l=(15,⟨D,s,n⟩):=by
 have a:∀x y,dL D x y=15:=λx y=>by unfold dL;rw[g];rfl
 have w:∀pg b,b≠[]->cO D pg b=(15,D):=λpg b f=>by
  have e:aY D (pg:Int) (b.take 64)=(15,D):=by unfold aY;rw[a];rfl
  rw[cO,dif_neg f,e];rfl
 have h:=cR (l.length:Int);have p:bR D s (cC (l.length:Int)++l)=(15,D):=by
  unfold bR;split
  .exact w _ _ (λe=>by have:=congrArg List.length e;rw[dr,h]at this;simp at this)
  rw[a];rfl
 show(if l.length>65536 then _ else if _ then _ else _)=_;rw[if_neg c,if_neg d,p];rfl
theorem Tz{K:Nat}{g:Lg}(q:jD h0 h p g.D)(hl:LB g.D)(ql:Tw h0 h K p (g.s:Int) (g.n:Int)){l:Bs}(qb:Sl e1 bS h (.slice b m c) l)(hs:g.s<=64*(g.D.now.length-1))(hn:g.n<=2^29)(hm:m<=2^28)(hw:g.D.ws.length<=2^28)
 (j:∀h',cY bXY h h'->jD h0 h' p (bp g l).2.D->Tw h0 h' K p ((bp g l).2.s:Int) ((bp g l).2.n:Int)->k (.int .i64 (bp g l).1) h'):
 Ct 10 [.pointer (some ⟨K,0,none⟩),.slice b m c] h k:=by
 obtain⟨A,N⟩:=Ar.ex;obtain⟨D,s,n⟩:=g;have q:jD h0 h p D:=q;have ql:Tw h0 h K p (s:Int) (n:Int):=ql;have hs:s<=64*(D.now.length-1):=hs;have hn:n<=2^29:=hn;have hl:LB D:=hl;have hw:D.ws.length<=2^28:=hw;have ck:=qb.len;have QS:=q.max;have kj:=q.pos;have pZ:A .az .neq 0 0=false:=by rw[av A];rfl
 have QT:A .nat m=(l.length:Int):=by rw[N.nat,ck];rfl
 have f1:A .az .gtr (A .nat m) 65536=decide (l.length>65536):=by rw[QT,aO A];exact decide_eq_decide.2 (by omega)
 have w:∀z:Int,-9223372036854775808<=z/\z<=9223372036854775807->IntKind.i64.wrap z=z:=IntWalk.i64_in;obtain⟨P,bE⟩:∃P,P=D.now.length:=⟨_,rfl⟩;have f2:A .az .gtr (A .aC .add .i64 (A .nat m) 8) (A .aC .sub .i64 (A .aC .mul .i64 (A .aC .sub .i64 (A .nat P) 1) 64) (s:Int))=decide ((l.length:Int)+8>((D.now.length:Int)-1)*64-s):=by
  have e1:A .aC .add .i64 (A .nat m) 8=(l.length:Int)+8:=by rw[QT,N.aC];exact w _ (by omega)
  have e2:A .aC .sub .i64 (A .nat P) 1=(D.now.length:Int)-1:=by rw[bE,N.nat,N.aC];exact w _ (by show _<=((D.now.length:Int))-1/\((D.now.length:Int))-1<=_;omega)
  have e3:A .aC .mul .i64 ((D.now.length:Int)-1) 64=((D.now.length:Int)-1)*64:=by rw[N.aC];exact w _ (by omega)
  have e4:A .aC .sub .i64 (((D.now.length:Int)-1)*64) (s:Int)=((D.now.length:Int)-1)*64-s:=by rw[N.aC];exact w _ (by omega)
  rw[e1,e2,e3,e4,aO A]
 have WB:A .aC .add .i64 (A .aC .add .i64 (s:Int) 8) (A .nat m)=((s+8+l.length:Nat):Int):=by
  have e1:A .aC .add .i64 (s:Int) 8=(s:Int)+8:=by rw[N.aC];exact w _ (by omega)
  rw[e1,QT,N.aC];show IntKind.i64.wrap ((s:Int)+8+(l.length:Int))=_;rw[w _ (by omega)];omega
 have ZK:A .aC .add .i64 (n:Int) 1=((n+1:Nat):Int):=by rw[N.aC];show IntKind.i64.wrap ((n:Int)+1)=_;rw[w _ (by omega)];omega
 have a:bp ⟨D,s,n⟩ l=if l.length>65536 then(5,⟨D,s,n⟩)
  else if(l.length:Int)+8>((D.now.length:Int)-1)*64-s then(14,⟨D,s,n⟩)
  else if(bR D s (cC (l.length:Int)++l)).1≠0 then((bR D s (cC (l.length:Int)++l)).1,⟨(bR D s (cC (l.length:Int)++l)).2,s,n⟩)
  else if(aY (bR D s (cC (l.length:Int)++l)).2 0 (oY (s+8+l.length) (n+1))).1≠0 then((aY (bR D s (cC (l.length:Int)++l)).2 0 (oY (s+8+l.length) (n+1))).1,⟨(aY (bR D s (cC (l.length:Int)++l)).2 0 (oY (s+8+l.length) (n+1))).2,s,n⟩)
  else if(cJ (aY (bR D s (cC (l.length:Int)++l)).2 0 (oY (s+8+l.length) (n+1))).2).1≠0 then((cJ (aY (bR D s (cC (l.length:Int)++l)).2 0 (oY (s+8+l.length) (n+1))).2).1,⟨(cJ (aY (bR D s (cC (l.length:Int)++l)).2 0 (oY (s+8+l.length) (n+1))).2).2,s,n⟩)
  else(0,⟨(cJ (aY (bR D s (cC (l.length:Int)++l)).2 0 (oY (s+8+l.length) (n+1))).2).2,s+8+l.length,n+1⟩):=rfl
 have bd:=CH D s (cC (l.length:Int)++l);rw[dr,cR]at bd;have Lk:=λhd:D.dead=true=>EU hd s n (l:=l);have X:bR D s (cC (l.length:Int)++l)=if s % 64=0 then cO D (1+s / 64) (cC (l.length:Int)++l)
  else if dL D ((1+s / 64:Nat):Int) 0≠0 then(dL D ((1+s / 64:Nat):Int) 0,D)
  else cO D (1+s / 64) ((bQ D ((1+s / 64:Nat):Int)).take (s % 64)++(cC (l.length:Int)++l)):=rfl
 have cy:=og hl s (cC (l.length:Int)++l);have BN:A .aC .rem .i64 (s:Int) 64=((s % 64:Nat):Int):=by rw[N.aC];show((s:Int)).tmod 64=_;rw[hKp (by omega)];omega
 have ur:A .aC .add .i64 (A .aC .quo .i64 (s:Int) 64) 1=((1+s / 64:Nat):Int):=by
  have B:A .aC .quo .i64 (s:Int) 64=((s / 64:Nat):Int):=by rw[N.aC];show IntKind.i64.wrap (((s:Int)).tdiv 64)=_;rw[iQr (by omega),IntWalk.i64_in _ (by omega)];omega
  rw[B,N.aC];show IntKind.i64.wrap (((s / 64:Nat):Int)+1)=_;rw[IntWalk.i64_in _ (by omega)];omega
 have fr:A .az .gtr (A .aC .rem .i64 (s:Int) 64) 0=decide (¬s % 64=0):=by rw[BN,aO A];exact decide_eq_decide.2 (by omega)
 obtain⟨pg,cq⟩:∃pg,pg=1+s / 64:=⟨_,rfl⟩;obtain⟨pz,bh⟩:∃pz:Int,pz=((pg:Nat):Int):=⟨_,rfl⟩;rw[<-cq]at X ur;rw[<-bh]at X ur;have cx:aM pz pg:=⟨bh⟩;have dj:pg<=2^31:=by omega
 have Na:s % 64≠0->D.dead=false->dL D pz 0=0:=λB h2=>by
  unfold dL;rw[h2];show(if _ then(1:Int)else 0)=0;rw[if_neg];rintro(ri|ri|ri)<;>omega
 obtain⟨sz,fP⟩:∃sz:Int,sz=(s:Int):=⟨_,rfl⟩;obtain⟨nz,cr⟩:∃nz:Int,nz=(n:Int):=⟨_,rfl⟩;have NW:=ql;rw[<-fP]at f2 WB ql a BN ur fr;rw[<-cr]at ZK ql;obtain⟨L,bl⟩:∃L:Int,L=(l.length:Int):=⟨_,rfl⟩;rw[<-bl]at QT a bd f2 X cy;obtain⟨u,BM⟩:∃u:Int,u=((s+8+l.length:Nat):Int):=⟨_,rfl⟩;rw[<-BM]at WB;obtain⟨E,eE⟩:∃E:Int,E=((n+1:Nat):Int):=⟨_,rfl⟩;rw[<-eE]at ZK;have br:oY (s+8+l.length) (n+1)=cC u++cC E:=by unfold oY;rw[BM,eE]
 rw[br]at a;clear br;obtain⟨C,eZ⟩:∃C:(Option Addr×Nat×Nat)->ab->Prop,∀g B,C g B=(Le h B/\∃H,Sl 5 bS B (.slice g.1 g.2.1 g.2.2) H/\bR D s (cC L++l)=cO D pg H/\H.length<=2^30+64):=⟨_,λ_ _=>rfl⟩;obtain⟨J,Z⟩:∃J:Option Addr->Nat->Nat->Bs->Nat->(Int×Int)->ab->Prop,∀xb xm xc H w g h',J xb xm xc H w g h'=(∃v I i,aM g.1 i/\aM g.2 I/\i<=xm+64/\w=xm+64-i/\jD h0 h' p v/\LB v/\cY DY h h'/\Sl 5 bS h' (.slice xb xm xc) H/\bR D s (cC L++l)=cO v I (H.drop i)/\I<=pg+i/\v.ws.length<=D.ws.length+i):=⟨_,λ_ _ _ _ _ _ _=>rfl⟩;have Ll:∀g B,C g B->∃H,H.length=g.2.1/\g.2.1<=2^30+64/\J g.1 g.2.1 g.2.2 H (g.2.1+64) (0,pz) B:=λg B hc=>by
  rw[eZ]at hc;obtain⟨H,l2,s1,o,kP⟩:=hc;have iX:=s1.len;refine⟨l2,iX.symm,by omega,?_⟩;rw[Z];exact⟨D,pg,0,⟨rfl⟩,cx,by omega,by omega,q.le H,hl,H.x _,s1,o,by omega,by omega⟩
 obtain⟨C1,BW⟩:∃C:(Option Addr×Nat×Nat)->ab->Prop,∀g B,C g B=(Le h B/\∃U,aT 5 bS h B (.slice g.1 g.2.1 g.2.2) U/\bR D s (cC L++l)=cO D pg (U++(cC L++l))/\U.length<=64):=⟨_,λ_ _=>rfl⟩;refine fG A [13,14] (ah gQq.aw gQq.aP) Tryz.func10 rfl (by kernel_rfl) ?_;cbv;rw[f1];by_cases S:l.length>65536
 .rw[if_pos S]at a;rw[a]at j;have:=j h (cY.refl _ _) q NW;rw[aH S];clear j a eZ Z Ll Lk X BW;cbv;exact this
 rw[if_neg S]at a;rw[ag S];have Lk:=λhd=>Lk hd S;obtain⟨kb,kc,nb,nc,wb,wn,wc,g,-⟩:=q.out;rw[<-bE]at g;have gl:=ql.out;cbv;repeat (first|rw[ao A] | (refine bc gl ?_;cbv)|(refine bc g ?_;cbv)|(refine⟨⟨_,rfl,rfl⟩,?_⟩;cbv))
 rw[f2];by_cases c2:L+8>((D.now.length:Int)-1)*64-sz
 .rw[if_pos c2]at a;rw[a]at j;have:=j h (cY.refl _ _) q NW;rw[aH c2];clear j a eZ Z Ll Lk X BW;cbv;exact this
 rw[if_neg c2]at a;rw[ag c2];rw[bl]at c2;rw[fP]at c2;have Lk:=λhd=>Lk hd c2;have Lj:∀h' e d,bR D s (cC L++l)=(e,d)->e≠0->cY DY h h'->jD h0 h' p d->k (.int .i64 e) h':=λh' e d o bm Y d'=>by
  rw[a,o]at j;have j:∀h',cY bXY h h'->jD h0 h' p ((if e≠0 then(e,⟨d,s,n⟩)else _:Int×Lg)).2.D->Tw h0 h' K p (((if e≠0 then(e,⟨d,s,n⟩)else _:Int×Lg)).2.s:Int) (((if e≠0 then(e,⟨d,s,n⟩)else _:Int×Lg)).2.n:Int)->k (.int .i64 ((if e≠0 then(e,⟨d,s,n⟩)else _:Int×Lg)).1) h':=j;rw[if_pos bm]at j;exact j h' (Y.sup (by decide)) d' (NW.lt (Y.t (by decide)))
 have ZJ:∀d,bR D s (cC L++l)=(0,d)->bp ⟨D,s,n⟩ l=if(aY d 0 (cC u++cC E)).1≠0 then((aY d 0 (cC u++cC E)).1,⟨(aY d 0 (cC u++cC E)).2,s,n⟩)
  else if(cJ (aY d 0 (cC u++cC E)).2).1≠0 then((cJ (aY d 0 (cC u++cC E)).2).1,⟨(cJ (aY d 0 (cC u++cC E)).2).2,s,n⟩)
  else(0,⟨(cJ (aY d 0 (cC u++cC E)).2).2,s+8+l.length,n+1⟩):=λd o=>by
  rw[a,o];exact if_neg (λg=>g rfl)
 have V:∀h' d e f,bR D s (cC L++l)=(0,d)->aY d 0 (cC u++cC E)=(e,f)->e≠0->cY DY h h'->jD h0 h' p f->k (.int .i64 e) h':=λh' d e f o GJ bm Y d'=>by
  have a:=ZJ d o;rw[GJ]at a;have a:bp ⟨D,s,n⟩ l=(e,⟨f,s,n⟩):=by rw[a];exact if_pos bm
  rw[a]at j;exact j h' (Y.sup (by decide)) d' (NW.lt (Y.t (by decide)))
 have O:∀h' d f e F,bR D s (cC L++l)=(0,d)->aY d 0 (cC u++cC E)=(0,f)->cJ f=(e,F)->e≠0->cY DY h h'->jD h0 h' p F->k (.int .i64 e) h':=λh' d f e F o GJ aD bm Y d'=>by
  have a:=ZJ d o;rw[GJ]at a;have a:bp ⟨D,s,n⟩ l=if(cJ f).1≠0 then((cJ f).1,⟨(cJ f).2,s,n⟩)else(0,⟨(cJ f).2,s+8+l.length,n+1⟩):=by rw[a];exact if_neg (λg=>g rfl)
  rw[aD]at a;have a:bp ⟨D,s,n⟩ l=(e,⟨F,s,n⟩):=by rw[a];exact if_pos bm
  rw[a]at j;exact j h' (Y.sup (by decide)) d' (NW.lt (Y.t (by decide)))
 have Q:∀h' d f F,bR D s (cC L++l)=(0,d)->aY d 0 (cC u++cC E)=(0,f)->cJ f=(0,F)->cY bXY h h'->jD h0 h' p F->Tw h0 h' K p u E->k (.int .i64 0) h':=λh' d f F o GJ aD Y d' g'=>by
  have a:=ZJ d o;rw[GJ]at a;have a:bp ⟨D,s,n⟩ l=if(cJ f).1≠0 then((cJ f).1,⟨(cJ f).2,s,n⟩)else(0,⟨(cJ f).2,s+8+l.length,n+1⟩):=by rw[a];exact if_neg (λg=>g rfl)
  rw[aD]at a;have a:bp ⟨D,s,n⟩ l=(0,⟨F,s+8+l.length,n+1⟩):=by rw[a];exact if_neg (λg=>g rfl)
  rw[a]at j;rw[BM,eE]at g';exact j h' Y d' g'
 obtain⟨dd,nO⟩:∃dd,dd=D.dead:=⟨_,rfl⟩;rw[<-nO]at g Lk Na;cbv;rw[ao A];refine bc gl ?_;cbv;rw[ao A];refine bc g ?_;cbv;cases dd with
 |true=>rw[Lk rfl]at j;have:=j h (cY.refl _ _) q NW;clear j a eZ Z Ll Lk X BW ZJ Lj V O Q;cbv;exact this
 |false=>
  have nO:D.dead=false:=nO.symm;have Na:=λB=>Na B rfl;clear Lk f2 f1;cbv;rw[ao A];refine bc gl ?_;cbv;refine⟨by decide,?_⟩;cbv;rw[ur];intro n9 B BQ e1;have H:Le h B:=by rw[e1];exact Le.set BQ
  clear e1;have aW:=H _ _ gl;cbv;refine jA.go (G:=Option Addr×Nat×Nat) (λg=>[(7,.v (.slice g.1 g.2.1 g.2.2))]) (λ_=>[]) C1 ?_ ?_
  .cbv;rw[ao A];refine bc aW ?_;cbv;refine⟨by decide,?_⟩;cbv;rw[fr];by_cases c3:s % 64=0
   .rw[if_pos c3]at X;have HZ:C1 (some ⟨n9,0,none⟩,0,0) B:=by rw[BW];exact⟨H,[],aT.nil,X,by simp⟩
    rw[ag (λg=>g c3)];clear eZ Ll Z j a BW X ZJ Lj V O Q;cbv;refine⟨(some ⟨n9,0,none⟩,0,0),by constructor<;>cbv,HZ⟩
   rw[if_neg c3,if_neg (λg=>g (Na c3))]at X;have Ro:=Na c3;clear Na;have jB:s % 64<64:=hKv _ (by decide);rw[aH c3];generalize s % 64=r at *;have bg:aM (A .aC .rem .i64 sz 64) r:=⟨BN⟩;have dd:=cQ (A:=A) bg;have HZ:∀b1 S h',Le h h'->aT 5 bS h h' (.slice b1 r S) ((bQ D pz).take r)->C1 (b1,r,S) h':=λb1 S h' l' q'=>by
    rw[BW];exact⟨l',_,q',X,by rw[dW];omega⟩
   clear eZ Ll Z j a BW X ZJ Lj V O Q fr;cbv;rw[ao A];refine bc aW ?_;cbv;refine EY (q.le H) pz (λbm=>absurd Ro bm) (λ_ h2 b2 oI l2 vZ df bx q2=>?_);subst vZ;have cI:=bx _ _ aW;have ea:0<=A .aC .rem .i64 sz 64/\A .aC .rem .i64 sz 64<=(oI:Int):=by have:=q2.sl.bound;have h9:=bg.eq;omega
   have tk:=q2.sl.pw (A:=A) (z:=A .nat oI) (i:=r) (by omega) rfl;generalize bQ D pz=pb at *;cbv;rw[ao A];refine bc cI ?_;cbv;refine⟨by decide,?_⟩;cbv;refine⟨ea,?_⟩;cbv;rw[dd];have o4:aT 5 bS h h2 (.slice (some ⟨n9,0,none⟩) 0 0) []:=aT.nil;refine o4.app tk (by decide) rfl (by decide) (by omega) (H.trans bx) (λm4 b4 pR W BT l5 t5 k5 q5=>?_);have BT:m4=r:=by omega
   subst BT;have HZ:=HZ b4 pR W l5 (by simpa using q5);clear k5;cbv;refine⟨(b4,m4,pR),by constructor<;>cbv,HZ⟩
  intro g h2 bG;rw[BW]at bG;cbv;obtain⟨xb,xm,xc⟩:=g;obtain⟨l2,U,q2,X,cK⟩:=bG;have q2:aT 5 bS h h2 (.slice xb xm xc) U:=q2;have de:=q2.sl.len;have dk:xm<=64:=by omega
  have hC:∀b1 m1 S h',Le h h'->Sl 5 bS h' (.slice b1 m1 S) (U++(cC L++l))->C (b1,m1,S) h':=λb1 m1 S h' l' q'=>by
   rw[eZ];exact⟨l',_,q',X,by rw[dr,dr,cR];omega⟩
  refine jA.go (G:=Option Addr×Nat×Nat) (λg=>[(7,.v (.slice g.1 g.2.1 g.2.2))]) (λ_=>[]) C ?_ ?_
  .clear eZ Ll Z j a BW X ZJ Lj V O Q;cbv;rw[QT];refine tE q2 l2 (by omega) L rfl (λh3 b3 c3 l3 t3 q3=>?_);have cw:=qb.mono (l3.t _);cbv;refine q3.app cw (by decide) rfl (by decide) (by omega) l3 (λm4 b4 pR W BT l5 t5 k5 q5=>?_);have hC:=hC b4 m4 pR W l5 (by rw[<-ym];exact q5.sl);clear k5;cbv;refine⟨(b4,m4,pR),by constructor<;>cbv,hC⟩
  intro g h3 hc;obtain⟨y,bn,bk,hJ⟩:=Ll g h3 hc;clear Ll eZ hc hC BW X j a ZJ;cbv;obtain⟨gb,t,gc⟩:=g;have bn:y.length=t:=bn;have bk:t<=2^30+64:=bk;have hJ:J gb t gc y (t+64) (0,pz) h3:=hJ;refine aK.go (G:=Int×Int) (λg=>[(10,.v (.int .i64 g.1)),(6,.v (.int .i64 g.2))]) (λ_=>[]) (λw g h'=>J gb t gc y w g h') (t+64) (0,pz) (by constructor<;>cbv) hJ ?_
  intro w' g h4 hI;rw[Z]at hI;cbv;obtain⟨zi,zp⟩:=g;obtain⟨v,I,i,eW,VL,hi,dn,q4,aj,x4,s4,o,dp,cL⟩:=hI;have eW:aM zi i:=eW;have VL:aM zp I:=VL;have pW:=s4.len;have iD:=s4.bound;have Ui:h4 K=_:=x4.t (tys:=[130]) (by decide) _ _ _ _ (by decide) gl;have fi:A .az .lss zi (A .nat t)=decide (i<t):=eW.pL (aM.nat t);have GZ:cO v I (y.drop i)=if h:y.drop i=[]then cJ v
   else if(aY v I ((y.drop i).take 64)).1≠0 then aY v I ((y.drop i).take 64)
   else cO (aY v I ((y.drop i).take 64)).2 (I+1) ((y.drop i).drop 64):=by rw[cO]
  rw[fi];by_cases c4:i<t
  .rw[aH c4];have bm:y.drop i≠[]:=λe=>by have:=congrArg List.length e;rw[ec]at this;simp at this;omega
   rw[dif_neg bm]at GZ;have bj:aM (A .aC .add .i64 zi 64) (i+64):=eW.add (A:=A) ⟨rfl⟩ (by omega);obtain⟨nn,oH⟩:∃nn,nn=min (i+64) t:=⟨_,rfl⟩;have BS:A .iT (A .aC .add .i64 zi 64) (A .nat t)=A .nat nn:=by rw[N.iT,bj.eq,N.nat,oH];show min ((i+64:Nat):Int) (t:Int)=((min (i+64) t:Nat):Int);omega
   have xd:aM (A .nat nn) nn:=aM.nat nn;have kQ:0<=A .nat nn/\A .nat nn<=(gc:Int)/\0<=zi/\zi<=A .nat nn:=by have:=xd.eq;have:=eW.eq;omega
   obtain⟨n1,eL⟩:∃x,x=nn-i:=⟨_,rfl⟩;obtain⟨yQ,Wg⟩:∃x,x=gc-i:=⟨_,rfl⟩;have Ns:A .mW (A .nat nn) zi=n1:=by rw[EK (A:=A) xd eW,eL]
   have Fm:A .mW (A .nat gc) zi=yQ:=by rw[bZ (A:=A) eW,Wg]
   have tk:=s4.aXF (A:=A) eW (m:=n1) (by omega) Wg;have cv:(y.drop i).take n1=(y.drop i).take 64:=by
    by_cases hh:i+64<=t
    .rw[show n1=64 by omega]
    rw[hO (by rw[ec];omega),hO (by rw[ec];omega)]
   rw[cv]at tk;have Qz:=wq v I ((y.drop i).take 64);have MU:=kE aj I ((y.drop i).take 64);have ez:aY v zp ((y.drop i).take 64)=aY v I ((y.drop i).take 64):=by rw[VL.eq]
   have bF:∀h',(aY v I ((y.drop i).take 64)).1=0->cY DY h h'->jD h0 h' p (aY v I ((y.drop i).take 64)).2->Sl 5 bS h' (.slice gb t gc) y->
    J gb t gc y (t-i) (A .aC .add .i64 zi 64,A .aC .add .i64 zp 1) h':=λh' h0 Y d' s'=>by
    rw[Z];rw[if_neg (λg=>g h0)]at GZ;refine⟨_,I+1,i+64,bj,VL.succ (A:=A),by omega,by omega,d',MU,Y,s',by rw[o,GZ,hKa],?_,?_⟩
    .omega
    omega
   have aI:t-i<w':=by omega
   have cz:v.ws.length<=2^38:=by omega
   clear Z hJ;cbv;rw[ao A];refine bc Ui ?_;cbv;rw[BS];refine⟨kQ,?_⟩;cbv;rw[Ns,Fm];repeat (first|(refine bc Ui ?_;cbv) |rw[ao A])
   refine LI q4 aj zp tk cz (λW x5 d5=>?_);rw[ez]at d5 |-;clear ez;have bF:=bF W;have s5:=s4.mono (x5.t (by decide));have hx:=x4.trans x5;rw[GZ]at o;clear GZ Qz;generalize GJ:aY v I ((y.drop i).take 64)=R at *;obtain⟨e,F⟩:=R;have T:A .az .neq e 0=decide (e≠0):=av A ..;by_cases M:e≠0
   .have o:bR D s (cC L++l)=(e,F):=by rw[o];exact if_pos M
    have:=Lj W e F o M hx d5;rw[aH M]at T;clear Lj V O Q bF;cbv;rw[T];cbv;exact this
   have dt:=bF (by show e=0;omega) hx d5 s5;rw[ag M]at T;clear Lj V O Q bF;cbv;rw[T];cbv;refine⟨t-i,(A .aC .add .i64 zi 64,A .aC .add .i64 zp 1),aI,by constructor<;>cbv,dt⟩
  rw[ag c4];have lR:y.drop i=[]:=wM (by omega);rw[dif_pos lR]at GZ;rw[GZ]at o;have au:(cJ v).2.ws.length<=2^38:=by have e0:=o;rw[<-e0];omega
  have MU:=qC aj;clear Z hJ GZ;cbv;rw[ao A];refine bc Ui ?_;cbv;refine Tp q4 aj (λW x5 d5=>?_);have hx:=x4.trans x5;have aP:W K=_:=x5.t (tys:=[130]) (by decide) _ _ _ _ (by decide) Ui;generalize cJ v=R at *;obtain⟨e,D1⟩:=R;have d5:jD h0 W p D1:=d5;have MU:LB D1:=MU;have au:D1.ws.length<=2^38:=au;have T:A .az .eql e 0=decide (e=0):=aq A ..;have f4:A .az .neq e 0=decide (e≠0):=av A ..;by_cases M:e≠0
  .have:=Lj W e D1 o M hx d5;rw[aH M]at f4;rw[ag M]at T;clear Lj V O Q;cbv;rw[T];cbv;rw[T];cbv;rw[f4];cbv;exact this
  have xj:e=0:=by omega
  subst xj;have ca:A .az .eql 0 0=true:=by rw[aq A];rfl
  clear T f4 Lj;cbv;rw[ca];cbv;repeat (first|rw[ao A] | (refine bc aP ?_;cbv)|(refine⟨⟨_,rfl,rfl⟩,?_⟩;cbv))
  rw[WB];refine tE (h0:=W) aT.nil (Le.refl _) (by omega) u rfl (λh6 b6 c6 l6 t6 q6=>?_);have cE:=l6 _ _ aP;cbv;repeat (first|rw[ao A] | (refine bc cE ?_;cbv)|(refine⟨⟨_,rfl,rfl⟩,?_⟩;cbv))
  rw[ZK];refine tE q6 l6 (by omega) E rfl (λh7 b7 c7 l7 t7 q7=>?_);have cd:=l7 _ _ aP;cbv;repeat (first|rw[ao A] | (refine bc cd ?_;cbv)|(refine⟨⟨_,rfl,rfl⟩,?_⟩;cbv))
  have q7:aT 5 bS W h7 (.slice b7 16 c7) (cC u++cC E):=by simpa using q7
  refine LI (d5.le l7) MU 0 q7.sl au (λh8 x8 d8=>?_);have aw:=kE MU 0 (cC u++cC E);have ch:=hx.trans ((l7.x _).trans x8);have cb:h8 K=_:=x8.t (tys:=[130]) (by decide) _ _ _ _ (by decide) cd;have V:=V h8 D1;generalize GJ:aY D1 0 (cC u++cC E)=R at *;obtain⟨e,f⟩:=R;have d8:jD h0 h8 p f:=d8;have aw:LB f:=aw;have T:A .az .eql e 0=decide (e=0):=aq A ..;have f4:A .az .neq e 0=decide (e≠0):=av A ..;by_cases M:e≠0
  .have:=V e f o rfl M ch d8;rw[aH M]at f4;rw[ag M]at T;clear V O Q;cbv;rw[T];cbv;rw[f4];cbv;exact this
  have xj:e=0:=by omega
  subst xj;clear T f4 V;cbv;rw[ca];cbv;rw[ao A];refine bc cb ?_;cbv;refine Tp d8 aw (λh9 x9 d9=>?_);have cg:=ch.trans x9;have ak:h9 K=_:=x9.t (tys:=[130]) (by decide) _ _ _ _ (by decide) cb;have O:=O h9 D1 f;have Q:=λh'=>Q h' D1 f;generalize cJ f=R at *;obtain⟨e,F⟩:=R;have d9:jD h0 h9 p F:=d9;have f4:A .az .neq e 0=decide (e≠0):=av A ..;by_cases M:e≠0
  .have:=O e F o GJ rfl M cg d9;rw[aH M]at f4;clear O Q;cbv;rw[f4];cbv;exact this
  have xj:e=0:=by omega
  subst xj;clear f4 O;cbv;rw[pZ];cbv;rw[ao A];refine bc ak ?_;cbv;rw[WB,ao A];refine iB ak (by show 2<=3;decide) (λlI sV=>?_);have Ni:=(congrFun sV K).trans ae;have cn:cY bXY h9 lI:=by rw[sV];exact gi ak (by decide)
  have bB:jD h0 lI p F:=d9.lt (by rw[sV];exact cf.set ak (by decide)) (d9.base.aE (bs:=[K]) (by simpa using ql.new) (by rw[sV];exact Kp.set (by simp)));have Ni:lI K=some (.cells (List.toArray [.pointer (some ⟨p,0,none⟩),.int .i64 u,.int .i64 nz]) 130 (0,0)):=Ni;clear sV;cbv;rw[ao A];refine bc Ni ?_;cbv;rw[ZK,ao A];refine iB Ni (by show 3<=3;decide) (λyD ai=>?_);have an:=(congrFun ai K).trans ae;have cB:cY bXY lI yD:=by rw[ai];exact gi Ni (by decide)
  have ct:jD h0 yD p F:=bB.lt (by rw[ai];exact cf.set Ni (by decide)) (bB.base.aE (bs:=[K]) (by simpa using ql.new) (by rw[ai];exact Kp.set (by simp)));have an:yD K=some (.cells (List.toArray [.pointer (some ⟨p,0,none⟩),.int .i64 u,.int .i64 E]) 130 (0,0)):=an;clear ai;have:=Q yD F o GJ rfl (((cg.sup (by decide)).trans cn).trans cB) ct ⟨an,ql.new⟩;clear Q;cbv;exact this
theorem Vi{x l:Bs}{at_:Nat}(L:at_+l.length<=64)(cs:List Value)(q:iC.R h cs x):iC.R h (fa cs at_ (aA l)) (dU x at_ l):=by
 obtain⟨rfl,hl⟩:=q;have d:(aA l).length=l.length:=by simp[aA]
 have k:(aA x).length=x.length:=by simp[aA]
 refine⟨?_,by rw[CJ (by omega)];exact hl⟩;apply rv;intro j;rw[jG _ _ _ _ (by omega),d];unfold aA;rw[qy,qy,qy,wR (by omega)];by_cases a:j<at_
 .rw[if_pos a,if_neg (by omega)]
 rw[if_neg a];by_cases b:j<at_+l.length
 .rw[if_pos b,if_pos (by omega)]
 rw[if_neg b,if_neg (by omega)]
theorem LC{A:Ar}[g:aV A]{e:Nat}{a cap:Nat}{xs:List Bs}(o:cM e iC h a cap xs){f d:Int}{at_:Nat}(w:aM f n)(G:aM d at_){x:Bs}(hx:xs[n]? =some x){l:Bs}(t:Sl e1 bS h (.slice b m c) l)(L:at_+l.length<=64)
 (i:∀h' z,Kp [a] h h'->(∀tys,e∉tys->cf tys h h')->cM e iC h' a cap (xs.set n (dU x at_ l))->k (.int .i64 z) h'):
 tG h (A .cut (some (A .fM (some ⟨a,0,none⟩) f 64)) d (A .nat 64) 1) (A .mW (A .nat 64) d) b m 1 k:=by
 have p:=t.len;have C:(aA l).length=l.length:=by simp[aA]
 rw[bZ (A:=A) G];refine⟨aA l,?_,fK l,?_⟩
 .rw[zv (by omega),TG];exact Pu t
 by_cases r:l=[]
 .subst r;refine .inl ⟨rfl,i _ _ (Kp.refl _ _) (λ_ _=>cf.refl _ _) ?_⟩;rw[wQ];have:xs.set n x=xs:=by
   apply rv;intro j;rw[hJN];split
   .rename_i e;subst e;rw[hx,if_pos (dB.1 hx).1]
   rfl
  rw[this];exact o
 have B:=hJS.2 r;have u:A .cut (some (A .fM (some ⟨a,0,none⟩) f 64)) d (A .nat 64) 1=some (A .off (A .fM (some ⟨a,0,none⟩) f 64) at_):=by rw[g.cut,g.nat,g.off];show(if Int.ofNat 64=d then _ else _)=_;rw[if_neg (by have:=G.eq;rw[kH];omega)];simp only[Option.map_some,G.eq,zw,TG]
 refine .inr ⟨_,u,?_⟩;exact o.Mi (s:=iC) (by simp[iC]) hx w.eq rfl (by rw[C];exact L) (λcs q=>Vi L cs q) (λh' v y o'=>i h' _ v y o')
theorem XC(q:kf h p D){at_:Nat}(r:aM s n)(G:aM z at_)(N:n<D.now.length){l:Bs}(H:Sl 5 bS h (.slice b m c) l)(L:at_+l.length<=64)
 (B:∀h',cY dT h h'->kf h' p (pv D n at_ l)->k (.bool true) h'):
 Ct 14 [.pointer (some ⟨p,0,none⟩),.int .i64 s,.int .i64 z,.slice b m c] h k:=by
 obtain⟨A,v⟩:=Ar.ex;have M:=H.len;obtain⟨kb,nb,wb,wn,wc,d,g,o1,o2,e1,t,X,w,Y⟩:=q.out;obtain⟨x,hx⟩:=ay (xs:=D.now) (i:=n) N;obtain⟨y,E⟩:=di D.kept n;have MJ:x.length=64:=by obtain⟨c,u,a,h3⟩:=o2.out;exact(a.at hx).2
 have Z:y.length=64:=by obtain⟨c,u,a,h3⟩:=o1.out;exact(a.at E).2
 have hT:pv D n at_ l={ D with now:=D.now.set n (dU x at_ l),kept:=D.kept.set n (dU y at_ l) }:=by unfold pv;rw[hx,E];rfl
 rw[hT]at B;have f1:A .az .lss s 0=false:=r.vf (A:=A);have J:A .az .geq s (A .nat D.now.length)=false:=by rw[cZ A,v.nat,r.eq];exact ag (by show ¬(n:Int)>=(D.now.length:Int);omega)
 have f3:A .az .lss z 0=false:=G.vf (A:=A);have f4:A .az .gtr z 64=false:=by rw[aO A,G.eq];exact ag (by omega)
 have f5:A .az .gtr (A .nat m) (A .aC .sub .i64 64 z)=false:=by rw[aO A,v.nat,v.aC,G.eq];refine ag ?_;show ¬(m:Int)>IntKind.i64.wrap (64-(at_:Int));rw[IntWalk.i64_in _ (by omega)];omega
 have V:=r.ix (len:=D.now.length) N;obtain⟨R,F⟩:∃R,R=D.now.length:=⟨_,rfl⟩;rw[<-F]at J V g;have f:0<=z/\z<=64:=by have:=G.eq;omega
 refine dH gQm A Tryz.func14 ?_;cbv;rw[f1];cbv;rw[ao A];refine bc g ?_;cbv;rw[J];cbv;rw[f3];cbv;rw[f4];cbv;rw[f5];cbv;rw[ao A];refine bc g ?_;cbv;refine⟨⟨rfl,V⟩,?_⟩;cbv;refine⟨f,?_⟩;cbv;refine LC o2 r G hx H L (λu z1 O I q1=>?_);have K:u p=_:=I [120] (by decide) _ _ _ _ (by decide) g;have S:=o1.kp O (by simpa using t) (λ_ _ _ _ C _=>by cases C);cbv;rw[ao A];refine bc K ?_;cbv;refine⟨⟨rfl,V⟩,?_⟩;cbv;refine⟨f,?_⟩;cbv;refine LC S r G E (H.mono (I _ (by decide))) L (λa z2 P U T=>?_);have g2:a p=_:=U [120] (by decide) _ _ _ _ (by decide) K;have Q:=q1.kp P (by simpa using Ne.symm t) (λ_ _ _ _ C _=>by cases C);have:=B a (by
  obtain⟨cn,W,-⟩:=o2.out;obtain⟨ck,ea,-⟩:=S.out;exact(O.x (λb e o j=>by simp at e;subst e;rw[W]at j;cases j;exact⟨_,_,_,rfl,by decide⟩)).trans (P.x (λb e o j=>by simp at e;subst e;rw[ea]at j;cases j;exact⟨_,_,_,rfl,by decide⟩))) ⟨kb,nb,wb,wn,wc,d,by rw[g2,F];simp only[ml],by simp only[ml];rw[<-F];rw[<-F]at T;exact T,by simp only[ml];rw[<-F];rw[<-F]at Q;exact Q,by simp only[ml];exact e1,t,X,(w.mono (I _ (by decide))).mono (U _ (by decide)),by simp only[ml];exact Y⟩
 clear B;cbv;exact this
def qN(D:Dk):List Bs×Bool:=
 if D.dead then([],false)
 else if(qS D (mU (bQ D 0)) (mU ((bQ D 0).drop 8))).bad then((dh ((bN D).take (mU (bQ D 0)).toNat) (bN D).length).1,false)
 else((qS D (mU (bQ D 0)) (mU ((bQ D 0).drop 8))).cL,true)
theorem Gh:∀(f:Nat) (b:Bs),8*(dI f b).1.length<=b.length:=λf=>by
 induction f with
 |zero=>intro b;exact qT _
 |succ f i=>
  intro b;unfold dI;split
  .exact qT _
  split
  .exact qT _
  split
  .exact qT _
  have:=i (b.drop (8+(dv b).toNat));rw[ec]at this;simp only[hJB];omega
theorem Lz:∀(f:Nat) (b:Bs) (m:Nat),b.length<=f->(dI f b).1.length<=m->dI f b=((dh b m).1,decide ((dh b m).2=[])):=λf=>by
 induction f with
 |zero=>intro b m i h;have:b=[]:=ee (by omega);subst this;cases m<;>rfl
 |succ f j=>
  intro b m i h;by_cases h0:b.length=0
  .have:b=[]:=ee h0;subst this;cases m<;>rfl
  have d:b≠[]:=λe=>h0 (by rw[e];rfl);have hR:dI (f+1) b=if b.length<8 then([],false)else if dv b<0\/dv b>(b.length:Int)-8 then([],false)else
   ((b.drop 8).take (dv b).toNat::(dI f (b.drop (8+(dv b).toNat))).1,(dI f (b.drop (8+(dv b).toNat))).2):=by
   conv=>lhs;unfold dI
   rw[if_neg h0]
  have E:decide (b=[])=false:=ag d;by_cases a:b.length<8
  .rw[hR,if_pos a];cases m with
   |zero=>show _=([],decide (b=[]));rw[E]
   |succ m=>
    have:dh b (m+1)=([],b):=by show(if 8<=b.length then _ else _)=_;rw[if_neg (by omega)]
    rw[this];show _=([],decide (b=[]));rw[E]
  rw[if_neg a]at hR;by_cases c:dv b<0\/dv b>(b.length:Int)-8
  .rw[hR,if_pos c];cases m with
   |zero=>show _=([],decide (b=[]));rw[E]
   |succ m=>
    have:dh b (m+1)=([],b):=by show(if 8<=b.length then if _ then _ else _ else _)=_;rw[if_pos (by omega),if_neg (by omega)]
    rw[this];show _=([],decide (b=[]));rw[E]
  rw[if_neg c]at hR;rw[hR]at h |-;simp only[hJB]at h;cases m with
  |zero=>omega
  |succ m=>
   have g:dh b (m+1)=((b.drop 8).take (dv b).toNat::(dh (b.drop (8+(dv b).toNat)) m).1,(dh (b.drop (8+(dv b).toNat)) m).2):=by show(if 8<=b.length then if _ then _ else _ else _)=_;rw[if_pos (by omega),if_pos (by omega)]
   rw[g,j (b.drop (8+(dv b).toNat)) m (by rw[ec];omega) (by omega)]
theorem Xk:∀(f:Nat) (b:Bs) (m:Nat),b.length<=f->(dh b m).2=[]->dI f b=((dh b m).1,true):=λf=>by
 induction f with
 |zero=>intro b m g h;have:b=[]:=ee (by omega);subst this;cases m<;>rfl
 |succ f i=>
  intro b m g h;by_cases h0:b.length=0
  .have:b=[]:=ee h0;subst this;cases m<;>rfl
  have a:b≠[]:=λe=>h0 (by rw[e];rfl);cases m with
  |zero=>exact absurd h a
  |succ m=>
   have C:dh b (m+1)=if 8<=b.length then if 0<=dv b/\dv b<=(b.length-8:Nat)then((b.drop 8).take (dv b).toNat::(dh (b.drop (8+(dv b).toNat)) m).1,(dh (b.drop (8+(dv b).toNat)) m).2)else([],b)else([],b):=rfl
   by_cases c:8<=b.length
   .rw[if_pos c]at C;by_cases d:0<=dv b/\dv b<=(b.length-8:Nat)
    .rw[if_pos d]at C;rw[C]at h |-;have:=i (b.drop (8+(dv b).toNat)) m (by rw[ec];omega) h;conv=>lhs;unfold dI
     rw[if_neg h0,if_neg (by omega),if_neg (by omega)];show(_::(dI f _).1,(dI f _).2)=_;rw[this]
    rw[if_neg d]at C;rw[C]at h;exact absurd h a
   rw[if_neg c]at C;rw[C]at h;exact absurd h a
theorem UP(p:(bN D).length=fB D):qN D=nq D:=by
 unfold qN nq;split
 .rfl
 generalize mU (bQ D 0)=n;generalize mU ((bQ D 0).drop 8)=c;have S:Cw D n c=((dI ((bN D).take (max (min n (fB D)) 0).toNat).length ((bN D).take (max (min n (fB D)) 0).toNat)).1,(dI ((bN D).take (max (min n (fB D)) 0).toNat).length ((bN D).take (max (min n (fB D)) 0).toNat)).2&&(decide (n>=0)&&(decide (n<=(fB D:Nat))&&decide (c=((dI ((bN D).take (max (min n (fB D)) 0).toNat).length ((bN D).take (max (min n (fB D)) 0).toNat)).1.length:Nat))))):=rfl;have L:qS D n c=if n<0\/c<0\/n>(bN D).length then⟨n,c,[],true⟩
  else⟨n,c,(dh ((bN D).take n.toNat) c.toNat).1,!decide ((dh ((bN D).take n.toNat) c.toNat).2=[])||decide (((dh ((bN D).take n.toNat) c.toNat).1.length:Int)≠c)⟩:=rfl
 rw[<-p]at S;generalize bN D=r at *;have t:r.take (max (min n (r.length:Int)) 0).toNat=r.take n.toNat:=by
  by_cases h:n<=r.length
  .congr 1;omega
  rw[hO (by omega),hO (by omega)]
 rw[t]at S;obtain⟨b,k⟩:∃b,b=r.take n.toNat:=⟨_,rfl⟩;have F:b.length<=r.length:=by rw[k,dW];omega
 rw[<-k]at S L |-;have g:=Lz b.length b r.length (mr _) (by have:=Gh b.length b;omega);rw[L,S];by_cases j:n<0\/c<0\/n>(r.length:Int)
 .rw[if_pos j];show((dh b r.length).1,false)=_;have o:(decide (n>=0)&&(decide (n<=(r.length:Nat))&&decide (c=((dI b.length b).1.length:Nat))))=false:=by
   rcases j with h|h|h
   .rw[ag (show ¬n>=0 by omega)];rfl
   .rw[ag (show ¬c=((dI b.length b).1.length:Nat)by omega)];simp
   rw[ag (show ¬n<=(r.length:Nat)by omega)];simp
  rw[o,Bool.and_false,g]
 rw[if_neg j];have m:decide (n>=0)=true:=aH (by omega);have X:decide (n<=(r.length:Nat))=true:=aH (by omega);rw[m,X,hKu,hKu];by_cases f:(dh b c.toNat).2=[]
 .have K:=Xk b.length b c.toNat (mr _) f;have e1:decide ((dh b c.toNat).2=[])=true:=aH f;by_cases d:((dh b c.toNat).1.length:Int)≠c
  .have a:(!decide ((dh b c.toNat).2=[])||decide (((dh b c.toNat).1.length:Int)≠c))=true:=by rw[aH d];simp
   rw[a];show((dh b r.length).1,false)=_;have l:decide (c=((dI b.length b).1.length:Nat))=false:=ag (by rw[K];exact λe=>d e.symm);rw[l,Bool.and_false,g]
  have a:(!decide ((dh b c.toNat).2=[])||decide (((dh b c.toNat).1.length:Int)≠c))=false:=by rw[e1,ag d];rfl
  rw[a];show((dh b c.toNat).1,true)=_;rw[K];show _=(_,true&&decide (c=((dh b c.toNat).1.length:Int)));rw[aH (show c=((dh b c.toNat).1.length:Int)by omega)];rfl
 have a:(!decide ((dh b c.toNat).2=[])||decide (((dh b c.toNat).1.length:Int)≠c))=true:=by rw[ag f];rfl
 rw[a];show((dh b r.length).1,false)=_;rw[g];show _=(_,decide ((dh b r.length).2=[])&&decide (c=((dh b r.length).1.length:Int)));by_cases d:c=((dh b r.length).1.length:Int)
 .have:=Lz b.length b c.toNat (mr _) (by rw[g];show(dh b r.length).1.length<=c.toNat;omega);rw[g]at this;have i:=congrArg Prod.snd this;have i:decide ((dh b r.length).2=[])=decide ((dh b c.toNat).2=[]):=i;rw[i,ag f];rfl
 rw[ag d,Bool.and_false]
theorem cKS(q:kf h p D)(hP:1<=D.now.length)
 (j:∀h' b m c l w,(l,w)=qN D->cY An h h'->Sl 35 me h' (.slice b m c) l->k (.tuple #[.slice b m c,.bool w]) h'):
 Ct 40 [.pointer (some ⟨p,0,none⟩)] h k:=by
 obtain⟨A,f⟩:=Ar.ex;have pZ:A .az .neq 0 0=false:=by rw[av A];rfl
 have C:A .az .neq 15 0=true:=by rw[av A];rfl
 have u:A .not false=true:=by rw[f.not];rfl
 have Nl:A .not true=false:=by rw[f.not];rfl
 have tV:=Gf q;have J:qN D=if D.dead then([],false)else if(qS D (mU (bQ D 0)) (mU ((bQ D 0).drop 8))).bad then((dh ((bN D).take (mU (bQ D 0)).toNat) (bN D).length).1,false)
  else((qS D (mU (bQ D 0)) (mU ((bQ D 0).drop 8))).cL,true):=rfl
 have U:fU D=if D.dead then(⟨0,0,[],true⟩,15)else(qS D (mU (bQ D 0)) (mU ((bQ D 0).drop 8)),0):=rfl
 have B:D.dead=false->dL D 0 0=0:=λg=>by rw[ZV (by omega),g];rfl
 refine dH fKR A Tryz.func40 ?_;cbv;refine YR q hP (λE b m c F e o r I=>?_);have q1:=q.lt (r.t (by decide));rw[U]at o;cases g:D.dead with
 |true=>
  rw[g,if_pos rfl]at o J;injection o with X d
  have:=j E none 0 0 [] false J.symm r Sl.nil;subst X;rw[d];clear J j;cbv;rw[C];cbv;exact this
 |false=>
  rw[g,if_neg (by decide)]at o J;injection o with X d
  rw[<-X]at J;have B:=B g;rw[d];obtain⟨s,cn,L,n⟩:=F;have I:Sl 35 me E (.slice b m c) L:=I;have J:qN D=if n then((dh ((bN D).take (mU (bQ D 0)).toNat) (bN D).length).1,false)else(L,true):=J
  clear X d U;cases n with
  |false=>have J:qN D=(L,true):=J;have:=j E b m c L true J.symm r I;clear J j;cbv;rw[pZ];cbv;rw[u];cbv;exact this
  |true=>
   have J:qN D=((dh ((bN D).take (mU (bQ D 0)).toNat) (bN D).length).1,false):=J;cbv;rw[pZ];cbv;rw[Nl];cbv;refine LH q1 0 (λbm=>absurd B bm) (λhe h2 b2 c2 l2 GM q2=>?_);have Q:=q1.le l2;cbv;intro l h3 hl y;have G:Le h2 h3:=by rw[y];exact Le.set hl
   have g3:=(congrFun y l).trans ae;clear y;cbv;refine Sw (Q.le G) g g3 hP (λY b4 a S x4 M=>?_);have Yp:cY An h Y:=r.trans (((l2.trans G).x _).trans x4);have T:=M.len;have iD:=M.bound;have sp:=(q2.sl.mono (G.t _)).mono (x4.t (by decide));have W:ar 8 (some (bQ D 0))=(mD ((bQ D 0).take 8),some ((bQ D 0).drop 8)):=by simp only[ar,dO];rw[if_pos (by omega)]
   have P:IntKind.i64.wrap ((ar 8 (some (bQ D 0))).1:Int)=mU (bQ D 0):=by rw[W];rfl
   clear W;cbv;refine JZ sp (λh5 pr t l5 r5=>?_);cbv;refine TK r5 (λh6 k6 r6=>?_);rw[P];have O:Le Y h6:=l5.aE (by simpa using t) k6;have s6:=M.mono (O.t _);have v:=Yp.trans (O.x _);clear P r5 r6 k6 l5 sp;generalize mU (bQ D 0)=s at *;obtain⟨x,Z⟩:∃x,x=A .iT (A .imax s 0) (A .nat a):=⟨_,rfl⟩;have K:aM x (min s.toNat a):=⟨by rw[Z,f.iT,f.imax,f.nat];show min (max s 0) (a:Int)=_;omega⟩;have kQ:0<=x/\x<=(S:Int):=by have:=K.eq;omega
   have V:=cQ (A:=A) K;have N:=s6.pw (A:=A) (z:=A .nat S) (i:=min s.toNat a) (by omega) rfl;have et:(bN D).take (min s.toNat a)=(bN D).take s.toNat:=by rw[T,<-List.take_eq_take_min]
   rw[et]at N;generalize bN D=H at *;obtain⟨mm,MS⟩:∃mm,mm=min s.toNat a:=⟨_,rfl⟩;rw[<-MS]at V N;clear K;cbv;rw[<-Z];refine⟨kQ,?_⟩;cbv;rw[V];refine cQW N (by omega) (A .nat a) (λh7 b7 m7 c7 l7 s7=>?_);have e7:(A .nat a).toNat=H.length:=by rw[f.nat,T];rfl
   rw[e7]at s7 |-;have:=j h7 b7 m7 c7 _ false J.symm (v.trans (l7.x _)) s7;clear j J;generalize (dh (H.take s.toNat) H.length)=R at *;cbv;exact this
end Go.S
