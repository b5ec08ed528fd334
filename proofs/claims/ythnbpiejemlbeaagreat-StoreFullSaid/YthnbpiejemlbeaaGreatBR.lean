import Derived.Test.YthnbpiejemlbeaaGreatBQ
set_option linter.all false
set_option maxRecDepth 100000
set_option maxHeartbeats 8000000
namespace Go.S
open Go.Sx Go.Proofs
variable {only:Bool}{nm s:ByteArray}{d:DB}{key:Int}{G g:Lg}{R:List Row}{cols:List iK}{P i n p:Nat}{b:Option Addr}{k:Value->ab->Prop}{h h' h0:ab}{L:jE}
theorem aZT(b:Bool)(a:k (.int .i64 (xy b)) h):Ct 310 [.bool b] h k:=by
 refine an dQJ Tryz.func310 λA c=>?_;cbv;cases b with
 |false=>exact a
 |true=>exact a
theorem dKc{c:Nat}(q:Sl 202 bh h (.slice b n c) cols)(hn:n<=2^16)
 (hk:∀h' r n' c',Le h h'->aU 5 bL h h' (.slice r n' c') (uY ⟨nm,cols,key,only⟩)->k (.slice r n' c') h'):
 Ct 217 [.agg #[.string nm,.slice b n c,.int .i64 key,.bool only]] h k:=by
 obtain⟨A,hA⟩:=Ar.ex;have f:=q.len;have W:A .nat n=(cols.length:Int):=by rw[hA.nat,f];rfl
 obtain⟨d,P⟩:∃d,d=dY nm++[u8 (cols.length:Int)]:=⟨_,rfl⟩;have ag:d.length<=65538:=by have:=fj nm;rw[P,List.length_append,List.length_singleton];omega
 have hS:uY ⟨nm,cols,key,only⟩=(d++(cols.map jJ).flatten++bR key)++[u8 (xy only)]:=by rw[P];unfold uY;simp[dY,yh]
 rw[hS]at hk;clear hS;have V:([]++dY nm)++[u8 (A .nat n)]=d:=by rw[W,P];rfl
 obtain⟨J,Z⟩:∃J:Nat->((Option Addr×Nat×Nat)×Int)->ab->Prop,∀w g h',J w g h'=(∃i:Nat,aK g.2 i/\w=n-i/\i<=n/\Le h h'/\aU 5 bL h h' (.slice g.1.1 g.1.2.1 g.1.2.2) (d++((cols.take i).map jJ).flatten)/\(d++((cols.take i).map jJ).flatten).length<=2^17*(i+1)):=⟨_,λ_ _ _=>rfl⟩;refine bB dZn A Tryz.func217 ?_;cbv;refine vH (h0:=h) (l:=[]) aU.nil (Le.refl _) (by omega) nm (λm1 YX h1 b1 c1 k1 t1 q1=>?_);have JB:=fj nm;obtain⟨v,yY⟩:∃v,v=m1+1:=⟨_,rfl⟩;cbv;refine oX q1 k1 (by omega) _ yY (λh2 X c2 k2 t2 R=>?_);rw[V]at R;have E:J n ((X,v,c2),0) h2:=by rw[Z];exact⟨0,⟨rfl⟩,rfl,by omega,k2,by simpa using R,by simp;omega⟩
 clear V q1 R W t1 t2;cbv;refine aG.go (G:=(Option Addr×Nat×Nat)×Int) (λg=>[(3,.v (.slice g.1.1 g.1.2.1 g.1.2.2)),(4,.v (.int .i64 g.2))]) (λ_=>[(1,[.string nm,.slice b n c,.int .i64 key,.bool only])]) (λw g h'=>J w g h') n ((X,v,c2),0) (by constructor<;>cbv) E ?_
 intro w g h3 hI;rw[Z]at hI;cbv;obtain⟨⟨gb,gm,gc⟩,z⟩:=g;obtain⟨i,e,hw,hi,I,s,H⟩:=hI;have e:aK z i:=e;have s:aU 5 bL h h3 (.slice gb gm gc) (d++((cols.take i).map jJ).flatten):=s;have nj:=s.sl.len;have F:A .ay .lss z (A .nat n)=decide (i<n):=by rw[aD A,e.eq,hA.nat];exact decide_eq_decide.2 (by show(i:Int)<(n:Int)↔_;omega)
 rw[F];by_cases u:i<n
 .rw[decide_eq_true u];obtain⟨x,hx⟩:=bn cols i;have Y:=IZ x;have Ui:=fj x.name;have ix:=e.ix u;have U:b.isSome=true:=q.aQ;have rj:n-(i+1)<w:=by omega
  have bI:∀r m' c' h',Le h h'->aU 5 bL h h' (.slice r m' c') ((((d++((cols.take i).map jJ).flatten)++dY x.name)++[u8 x.kind])++[u8 (xy x.null)])->J (n-(i+1)) ((r,m',c'),A .aC .add .i64 z 1) h':=λr m' c' h' l' q'=>by
   rw[Z];have ha:(((d++((cols.take i).map jJ).flatten)++dY x.name)++[u8 x.kind])++[u8 (xy x.null)]=d++((cols.take (i+1)).map jJ).flatten:=by rw[List.take_add_one,hx];simp[jJ,dY,yh]
   have hb:d++((cols.take (i+1)).map jJ).flatten=(d++((cols.take i).map jJ).flatten)++jJ x:=by rw[List.take_add_one,hx];simp
   refine⟨i+1,e.succ (A:=A),rfl,by omega,l',?_,?_⟩
   .rw[<-ha];exact q'
   rw[hb,List.length_append];omega
  have uy:(d++((cols.take i).map jJ).flatten).length<=2^34:=by omega
  have C:=q.mono (I.t _);clear F H Z E Y;generalize d++((cols.take i).map jJ).flatten=L at *;generalize O:x.name=xn at *;generalize y:x.kind=xk at *;generalize K:x.null=xu at *;cbv;refine⟨⟨U,ix⟩,?_⟩;cbv;refine C.bT hx e.eq (o:=0) (m:=1) (by decide) (λcs a=>?_);have a:cs=[.string x.name,.int .i64 x.kind,.bool x.null]:=a;rw[O,y,K]at a;subst a;cbv;refine⟨⟨U,ix⟩,?_⟩;cbv;refine C.bT hx e.eq (o:=1) (m:=1) (by decide) (λcs a=>?_);have a:cs=[.string x.name,.int .i64 x.kind,.bool x.null]:=a;rw[O,y,K]at a;subst a;cbv;refine⟨⟨U,ix⟩,?_⟩;cbv;refine C.bT hx e.eq (o:=2) (m:=1) (by decide) (λcs a=>?_);have a:cs=[.string x.name,.int .i64 x.kind,.bool x.null]:=a;rw[O,y,K]at a;subst a;cbv;refine vH s I (by omega) xn (λt zX h4 b4 c4 M t4 S=>?_);have j:=C.mono (t4 _ (by decide));obtain⟨p,D⟩:∃p,p=t+1:=⟨_,rfl⟩;cbv;refine j.bT hx e.eq (o:=2) (m:=1) (by decide) (λcs a=>?_);have a:cs=[.string x.name,.int .i64 x.kind,.bool x.null]:=a;rw[O,y,K]at a;subst a;cbv;refine⟨⟨_,rfl,rfl⟩,?_⟩;cbv;refine j.bT hx e.eq (o:=1) (m:=1) (by decide) (λcs a=>?_);have a:cs=[.string x.name,.int .i64 x.kind,.bool x.null]:=a;rw[O,y,K]at a;subst a;cbv;refine⟨⟨_,rfl,rfl⟩,?_⟩;cbv;refine oX S M (by omega) xk D (λh5 b5 c5 N t5 T=>?_);have Q:=j.mono (t5 _ (by decide));cbv;refine Q.bT hx e.eq (o:=2) (m:=1) (by decide) (λcs a=>?_);have a:cs=[.string x.name,.int .i64 x.kind,.bool x.null]:=a;rw[O,y,K]at a;subst a;cbv;refine⟨⟨_,rfl,rfl⟩,?_⟩;cbv;refine aZT xu ?_;obtain⟨B,Pf⟩:∃B,B=p+1:=⟨_,rfl⟩;cbv;refine oX T N (by omega) _ Pf (λh6 b6 c6 k6 t6 q6=>?_);have gU:=bI b6 B c6 h6 k6 q6;clear bI;cbv;refine⟨_,((b6,B,c6),A .aC .add .i64 z 1),rj,by constructor<;>cbv,gU⟩
 rw[decide_eq_false u];have eC:i=n:=by omega
 subst eC;rw[show cols.take i=cols by rw[f];exact List.take_length]at s H nj;have uy:(d++(cols.map jJ).flatten).length<=2^34:=by omega
 clear u Z E H F;generalize d++(cols.map jJ).flatten=L at *;obtain⟨t,zX⟩:∃t,t=gm+8:=⟨_,rfl⟩;cbv;refine tH s I (by omega) key zX (λh4 b4 c4 M t4 S=>?_);cbv;refine aZT only ?_;obtain⟨p,D⟩:∃p,p=t+1:=⟨_,rfl⟩;cbv;refine oX S M (by omega) _ D (λh5 b5 c5 N t5 T=>?_);have:=hk h5 b5 p c5 N T;cbv;exact this
theorem aQM{c:Nat}(q:Sl 202 bh h (.slice b n c) cols)(s:n<=2^16)
 (e:∀h' d n' c',Le h h'->aU 5 bL h h' (.slice d n' c') (en ⟨nm,cols,key,only⟩)->n'<=2^28->k (.slice d n' c') h'):
 Ct 95 [.agg #[.string nm,.slice b n c,.int .i64 key,.bool only]] h k:=by
 have D:en ⟨nm,cols,key,only⟩=[u8 1]++dY (strOf (uY ⟨nm,cols,key,only⟩)):=rfl;rw[D]at e;clear D;refine an gJz Tryz.func95 λA E=>?_;cbv;refine oX (h0:=h) (l:=[]) aU.nil (Le.refl _) (by omega) 1 (m':=1) rfl (λp i m f G a=>?_);have a:aU 5 bL h p (.slice i 1 m) [u8 1]:=a;cbv;refine dKc (q.mono (f.t _)) s (λC z F B g w=>?_);have J:=fj (strOf (uY ⟨nm,cols,key,only⟩));generalize uY ⟨nm,cols,key,only⟩=S at *;have u:=a.mono (g.t _);cbv;refine qi w.sl ?_;generalize strOf S=y at *;cbv;refine vH u (f.trans g) (by omega) y (λv M r j o t H x=>?_);have:=e r j v o t x (by omega);cbv;exact this
theorem mi.down{a:ab}{D:Dk}(q:mi a h p D)(l:Le h0 a):mi h0 h p D:=by obtain⟨k,kc,n,f,wb,i,wc,g,o1,o2,e1,e,w,b,c,z,j,m,d⟩:=q.out;exact⟨k,kc,n,f,wb,i,wc,g,o1,o2,e1,e,w.base l,b,c,l.none z,l.none j,l.none m,l.trans d⟩
abbrev nH:ab:=λ_=>none
theorem BX(h:ab):Le nH h:=λb o a=>by cases a
theorem XL{r:List Bs}(I:xS g P r)(h:0<P)(s:g.s<2^60)(n:g.n<2^60):Ee g.D=(r,true)/\rS (cH g.D 0)=(g.s:Int)/\rS ((cH g.D 0).drop 8)=(g.n:Int):=by
 have hl:=FI I h s n;have c:(cO g.D).length=iF g.D:=by unfold cO iF;rw[pM (λb a=>I.gX.pg b (List.mem_of_mem_drop a)),List.length_drop];try omega
 unfold eV at hl;rw[I.gX.dead,if_neg (by simp)]at hl;have hl:=congrArg Prod.fst hl;have hl:wQ g.D (rS (cH g.D 0)) (rS ((cH g.D 0).drop 8))=⟨g.s,g.n,r,false⟩:=hl;have K:cH g.D 0=dC (oJ g.s g.n):=by unfold cH;rw[show(0:Int).toNat=0 from rfl,I.hd];rfl
 have e1:rS (dC (oJ g.s g.n))=g.s:=by unfold dC oJ;rw[List.append_assoc,AW (by omega)]
 have e:rS ((dC (oJ g.s g.n)).drop 8)=g.n:=by unfold dC oJ;have:(bR (g.s:Int)).length=8:=bW _;rw[List.append_assoc,<-this,List.drop_left,AW (by omega)]
 refine⟨?_,by rw[K];exact e1,by rw[K];exact e⟩;rw[<-XM c];unfold Si;rw[I.gX.dead,hl];rfl
structure aQN(h:ab)(b1:Option Addr)(n1 c1:Nat)(b2:Option Addr)(n2 c2:Nat)(b3:Option Addr)(n3 c3:Nat)(L:jE):Prop where
 rP:Sl 172 gB h (.slice b1 n1 c1) L.rP
 lW:Sl 113 nJ h (.slice b2 n2 c2) L.lW
 Jx:Sl 47 jX h (.slice b3 n3 c3) L.Jx
abbrev XT:List Nat:=[172,47,113,161,45]
theorem aQN.ls{a c:Option Addr}{d g e f:Nat}(q:aQN h b n d a g e c i f L)(l:bV XT h h'):aQN h' b n d a g e c i f L:=
 ⟨q.rP.mono (l.sub),q.lW.mono (l.sub),q.Jx.mono (l.sub)⟩
structure Nz(h0 h:ab)(t p:Nat)(G:Lg)(d:DB)(L:jE):Prop where
 out:∃lg b1 n1 c1 b2 n2 c2 b3 n3 c3 b4 n4 c4 e1 m1 d1 e2 m2 d2 e3 m3 d3,h t=some (.cells (List.toArray [.pointer (some ⟨lg,0,none⟩),.slice b1 n1 c1,.slice b2 n2 c2,.slice b3 n3 c3,.slice b4 n4 c4,.int .i64 L.next,.slice e1 m1 d1,.slice e2 m2 d2,.slice e3 m3 d3]) 197 (0,0))/\
  Wi h0 h lg p (G.s:Int) (G.n:Int)/\mi h0 h p G.D/\RP h b1 n1 c1 b2 n2 c2 b3 n3 c3 b4 n4 c4 d/\aQN h e1 m1 d1 e2 m2 d2 e3 m3 d3 L
 new:h0 t=none
abbrev eKv:List Nat:=[197,353,231,210,326,132,202,46,45,337,161,340,422,172,47,113]
theorem Nz.lt{t:Nat}(q:Nz h0 h t p G d L)(l:bV eKv h h')(u:Le h0 h'):Nz h0 h' t p G d L:=by obtain⟨v,b,z,f,a,A,i,c,B,j,e,C,k,e1,w,m,r,x,n,s,y,o,g,H,F,E,D⟩:=q.out;exact⟨⟨v,b,z,f,a,A,i,c,B,j,e,C,k,e1,w,m,r,x,n,s,y,o,l _ _ _ _ (by decide) g,H.lt (l.sub),F.lt (l.sub) u,E.lt (l.sub),D.ls (l.sub)⟩,q.new⟩
theorem Nz.le{t:Nat}(q:Nz h0 h t p G d L)(l:Le h h'):Nz h0 h' t p G d L:=by obtain⟨v,b,z,f,a,A,i,c,B,j,e,C,m,e1,w,n,s,x,o,u,y,r,g,F,k,E,D⟩:=q.out;exact q.lt (l.t _) (k.base.trans l)
theorem bZW(q:mi h0 h p g.D)(I:xS g P [])(x:0<P)(B:g.s<2^60)(z:g.n<2^60)
 (f:∀h' t,Le h h'->Nz h0 h' t p g dz lz->k (.tuple #[.pointer (some ⟨t,0,none⟩),.int .i64 0]) h'):
 Ct 34 [.pointer (some ⟨p,0,none⟩)] h k:=by
 obtain⟨A,u⟩:=Ar.ex;obtain⟨s1,s2,s3⟩:=XL I x B z;have C:A .ay .neq 0 0=false:=by rw[av A];rfl
 have i:A .ay .lss 0 (A .nat 0)=false:=by rw[aD A,u.nat];rfl
 refine bB gKm A Tryz.func34 ?_;cbv;refine bZV q I.gX.dead s1 (λs n b m c l o D=>?_);rw[s2,s3]at o;have y:m=0:=D.len;subst y;cbv;rw[C];cbv;intro t a j e;have d:Le s a:=by rw[e];exact Le.set j
 have r:a t=some (.cells (List.toArray [.pointer (some ⟨n,0,none⟩),.slice none 0 0,.slice none 0 0,.slice none 0 0,.slice none 0 0,.int .i64 0,.slice none 0 0,.slice none 0 0,.slice none 0 0]) 197 (0,0)):=(congrFun e t).trans ae;have:=f a t (l.trans d) ⟨⟨n,none,0,0,none,0,0,none,0,0,none,0,0,none,0,0,none,0,0,none,0,0,r,o.lt (d.t _),q.le (l.trans d),⟨Sl.nil,Sl.nil,Sl.nil,Sl.nil⟩,⟨Sl.nil,Sl.nil,Sl.nil⟩⟩,(q.base.trans l).none j⟩;clear e f;cbv;refine aG.go (G:=Unit) (λ_=>[(8,.v (.int .i64 0))]) (λ_=>[]) (λw _ h'=>w=0/\h'=a) 0 () (by constructor<;>cbv) ⟨rfl,rfl⟩ ?_
 intro w g E v;cbv;obtain⟨rfl,rfl⟩:=v;rw[i];cbv;exact this
theorem Wm{t:Nat}(q:Nz h0 h t p G d L)(hl:LB G.D)(gz:d.aj.Pairwise (λa b=>cT a.S.name b.S.name<0))(Z:∀t∈d.aj,t.S.name.size<=2^60)(U:d.aj.length<=2^37){sb:Option Addr}{sn sc:Nat}(qs:Sl 202 bh h (.slice sb sn sc) cols)
 (Un:sn<=2^16) (hs:G.s<=64*(G.D.now.length-1)) (hn:G.n<=2^29) (hw:G.D.ws.length<=2^28) 
 (c:∀h',dI (197::aXp) h h'->Nz h0 h' t p (gH G d ⟨nm,cols,key,only⟩).2.1 (gH G d ⟨nm,cols,key,only⟩).2.2 L->k (.int .i64 (gH G d ⟨nm,cols,key,only⟩).1) h'):
 Ct 37 [.pointer (some ⟨t,0,none⟩),.agg #[.string nm,.slice sb sn sc,.int .i64 key,.bool only]] h k:=by
 have f:gH G d ⟨nm,cols,key,only⟩=QJ G d (bK d ⟨nm,cols,key,only⟩) (en ⟨nm,cols,key,only⟩):=rfl;have X:=tq gz ⟨nm,cols,key,only⟩;obtain⟨r,b1,n1,c1,b2,n2,c2,b3,n3,c3,b4,n4,c4,e1,W,B,J,Y,E,M,m3,I,g,ql,qk,qd,qL⟩:=q.out;obtain⟨nx,op,bs,ts⟩:=L;have g:h t=some (.cells (List.toArray [.pointer (some ⟨r,0,none⟩),.slice b1 n1 c1,.slice b2 n2 c2,.slice b3 n3 c3,.slice b4 n4 c4,.int .i64 nx,.slice e1 W B,.slice J Y E,.slice M m3 I]) 197 (0,0)):=g;refine an gKj Tryz.func37 λA hA=>?_;cbv;rw[al A];refine ak g ?_;cbv;refine Ek qd qs U Z (D:=bK d ⟨nm,cols,key,only⟩) X.symm (λh3 fP AP eY gJ vg ic jB tU jA Az Et uf n H=>?_);have q3:=q.le n;have g3:=n _ _ g;have N:=qs.mono (n.t _);generalize bK d ⟨nm,cols,key,only⟩=C at *;obtain⟨u,w⟩:=C;have H:RP h3 fP AP eY gJ vg ic jB tU jA Az Et uf u:=H;have j:A .ay .eql w 0=decide (w=0):=aq A ..;by_cases y:w=0
 .have f:gH G d ⟨nm,cols,key,only⟩=((aT G (en ⟨nm,cols,key,only⟩)).1,(aT G (en ⟨nm,cols,key,only⟩)).2,if(aT G (en ⟨nm,cols,key,only⟩)).1=0 then u else d):=by rw[f];exact if_neg (λh=>h y)
  rw[f]at c;rw[decide_eq_true y]at j;clear f;cbv;rw[j];cbv;rw[al A];refine ak g3 ?_;cbv;refine aQM N Un (λh4 rb rn rc V q4 Iv=>?_);have g4:=V _ _ g3;have z:=n.trans V;generalize en ⟨nm,cols,key,only⟩=rec at *;cbv;refine ak g4 ?_;cbv;refine⟨⟨_,rfl,rfl⟩,?_⟩;cbv;refine Wo (qk.le z) hl (ql.lt (z.t _)) q4.sl hs hn Iv hw (λi x S F=>?_);have P:=x _ _ g4 (λ_ _ _ l=>by cases l;decide);have vN:=(qd.lt (z.t _)).lt (x.t (by decide));have O:=(H.lt (V.t _)).lt (x.t (by decide));have Qo:=(qL.ls (z.t _)).ls (x.t (by decide));have Q:dI (197::aXp) h i:=(z.x _).trans (x.sup (by decide));generalize aT G rec=R at *;obtain⟨e,v⟩:=R;have S:mi h0 i p v.D:=S;have F:Wi h0 i r p (v.s:Int) (v.n:Int):=F;have K:A .ay .eql e 0=decide (e=0):=aq A ..;by_cases l:e=0
  .subst l;have c:∀h',dI (197::aXp) h h'->Nz h0 h' t p v u ⟨nx,op,bs,ts⟩->k (.int .i64 0) h':=c;have fin:∀h',h'=bu i t (.cells (List.toArray [.pointer (some ⟨r,0,none⟩),.slice fP AP eY,.slice gJ vg ic,.slice jB tU jA,.slice Az Et uf,.int .i64 nx,.slice e1 W B,.slice J Y E,.slice M m3 I]) 197 (0,0))->k (.int .i64 0) h':=λh' m=>by
    have s:dI [197] i h':=by rw[m];exact fE P (by decide)
    have Qs:Le h0 h':=λb o T=>by
     rw[m,bN (λe=>by rw[e,q.new]at T;cases T)];exact S.base _ _ T
    exact c h' (Q.trans (s.sup (by decide))) ⟨⟨r,_,_,_,_,_,_,_,_,_,_,_,_,_,_,_,_,_,_,_,_,_,by rw[m];exact ae,F.lt (s.t (by decide)),S.lt (s.t (by decide)) Qs,O.lt (s.t (by decide)),Qo.ls (s.t (by decide))⟩,q.new⟩
   clear c q3;cbv;rw[K];cbv;repeat rw[al A]
   refine jr P (by simp) (λh6 m=>?_);have:=fin h6 m;clear fin;cbv;exact this
  have:=c i Q ⟨⟨r,b1,n1,c1,b2,n2,c2,b3,n3,c3,b4,n4,c4,e1,W,B,J,Y,E,M,m3,I,P,F,S,by show RP i _ _ _ _ _ _ _ _ _ _ _ _ (if e=0 then u else d);rw[if_neg l];exact vN,Qo⟩,q.new⟩;rw[decide_eq_false l]at K;clear c q3;cbv;rw[K];cbv;exact this
 have f:gH G d ⟨nm,cols,key,only⟩=(w,G,d):=by rw[f];exact if_pos y
 rw[f]at c;rw[decide_eq_false y]at j;have:=c h3 (n.x _) q3;clear c f;cbv;rw[j];cbv;rw[j];cbv;exact this
def fR(R:List Row):Nat->List Row:=rZ (λ_=>[]) 0 R
def rK(k:Nat)(s:ByteArray):Row:=[⟨2,(k:Int),dM⟩,⟨3,0,s⟩]
def cK(k:Nat)(s:ByteArray):cC:=⟨jN,1,rK k s⟩
theorem Lq(R a:List Row):rZ (fR R) 0 a=fR a:=by funext j;unfold fR rZ;split<;>rfl
theorem cJW(R:List Row):fR R 0=R:=rfl
structure xR(k:Nat)(R:List Row):Prop where
 so:SO R
 lo:∀row∈R,kN row<(k:Int)
 n:R.length<=k
theorem xR.bJv{k:Nat}(q:xR k R):QL (fR R):=λj h=>by
 unfold fR rZ;split
 .exact q.so
 exact SO.nil
theorem SD{k:Nat}(h:s.size<=60):gK (rK k s):=⟨k,_,rfl,.inr ⟨s,rfl,h⟩⟩
theorem sE{k:Nat}(q:xR k R)(f:k<200)(c:s.size<=60):
 bm ⟨aA 0,R⟩ (rK k s)=(⟨aA 0,R++[rK k s]⟩,0)/\xR (k+1) (R++[rK k s]):=by
 have n:=q.n;have at_:At R (k:Int) R.length:=⟨Nat.le_refl _,λi r e h=>q.lo r (List.mem_of_getElem? h),λi r e h=>by
  have:=(List.getElem?_eq_some_iff.1 h).1;omega⟩
 have b:iQ R (k:Int) R.length=false:=by unfold iQ;rw[List.getElem?_eq_none (Nat.le_refl _)]
 have a:=q.so.sr.ins (v:=⟨3,0,s⟩) at_ b;rw[List.take_length,List.drop_length,List.append_nil]at a;constructor
 .unfold rK;rw[jv (S:=aA 0) rfl q.so.sr (SD (k:=k) c).fits at_,b,if_neg (by decide),if_neg (by simp;omega),List.take_length,List.drop_length,List.append_nil]
 refine⟨⟨a,λr d=>?_,?_⟩,λr d=>?_,?_⟩
 .rcases List.mem_append.1 d with d|d
  .exact q.so.ok r d
  rw[List.mem_singleton.1 d];exact SD c
 .simp;omega
 .rcases List.mem_append.1 d with d|d
  .have:=q.lo r d;omega
  rw[List.mem_singleton.1 d];show(k:Int)<((k+1:Nat):Int);omega
 simp;omega
theorem SJ{k:Nat}(q:xR k R)(d:k<200)(b:s.size<=60):(aY ⟨aA 0,R++[rK k s]⟩ (qY (rK k s) 0)).1=⟨aA 0,R⟩:=by
 obtain⟨a,f⟩:=sE q d b;rcases cQh q.so (SD (k:=k) b) 0 with⟨e,he,h⟩|⟨c,h,-,hu⟩
 .rw[a]at h;have:=congrArg Prod.snd h;exact absurd this.symm he
 rw[a]at h;have:(⟨aA 0,R++[rK k s]⟩:bJ)=⟨aA 0,c⟩:=congrArg Prod.fst h;rw[this];exact hu
theorem aJu{k:Nat}(q:xR k R)(f:k<200)(g:s.size<=60):
 ∃a,um (GD 1 (fR R) [] [] []) 1 jN (rK k s)=(GD 1 (fR (R++[rK k s])) [cK k s] [] a,0)/\pS 1 a/\a.length<=1:=by
 obtain⟨a,h,d,e⟩:=Nh (s:=1) (F:=fR R) (L:=[]) (M:=[]) (H:=[]) (λx hx=>by cases hx) (t:=0) (by decide) true;obtain⟨i,b⟩:=Eb (fR R) (t:=0) (by decide);obtain⟨j,c⟩:=DV 1 [] [];obtain⟨p,l⟩:=sE q f g;refine⟨a,?_,d,e⟩;unfold um dG;rw[show(jN:ByteArray)=(aA 0).name from rfl,h];simp only;rw[show(GD 1 (fR R) [] [] a).aj=TG (fR R)from rfl,show(GD 1 (fR R) [] [] a).ah=[⟨1,[],[]⟩]from rfl,b,c,Bv _ (by decide)];rw[show decide ((0:Int)≠0)=false from rfl];simp only[Bool.false_eq_true,if_false];rw[show([⟨1,[],[]⟩]:List ep)[0]? =some ⟨1,[],[]⟩from rfl];have D:il (rK k s) ⟨aA 0,fR R 0⟩=(⟨aA 0,R++[rK k s]⟩,⟨ig,1,rK k s⟩,0):=by unfold il;rw[cJW,p]
 simp only;rw[D];simp only;rw[yi _ (by decide),Lq];rfl
theorem XC{k:Nat}(q:xR k R)(h:k<200)(c:s.size<=60):dw (TG (fR (R++[rK k s]))) [cK k s]=TG (fR R):=by obtain⟨b,a⟩:=Eb (fR (R++[rK k s])) (t:=0) (by decide);show eO (TG (fR (R++[rK k s]))) (cK k s)=_;unfold eO;rw[show(cK k s).table=(aA 0).name from rfl,b,a,Bv _ (by decide)];simp only[if_true];rw[show decide ((cK k s).op=2)=false from rfl,show(cK k s).row=rK k s from rfl,cJW];simp only[Bool.false_eq_true,if_false];rw[show(decide ((aA 0).key>=0)&&decide ((aA 0).key<((rK k s).length:Int)))=true from rfl];simp only[if_true];rw[show(aA 0).key=0 from rfl,SJ q h c,yi _ (by decide),Lq]
theorem Rf(a:s.size<=60):da ⟨3,0,s⟩=0:=by
 have h:¬(60:Int)<(s.size:Int):=by omega
 simp[da,fX,gI,h]
theorem Gu{k:Nat}(c:k<200)(a:s.size<=60):WC (cK k s)/\AH (cK k s):=by
 have h:∀v∈rK k s,da v=0/\-2^63<=v.n/\v.n<2^63:=λv h=>by
  rcases List.mem_cons.1 h with rfl|h
  .exact⟨by simp[da,fX,gI,dM];decide,by show(-2^63:Int)<=(k:Int);omega,by show((k:Nat):Int)<2^63;omega⟩
  rw[List.mem_singleton.1 h];exact⟨Rf a,by show(-2^63:Int)<=0;decide,by show(0:Int)<2^63;decide⟩
 have b:=bW (k:Int);have t:(dY s).length<=62:=by unfold dY gA fD;have:=pO s;simp only[List.length_append,List.length_cons,List.length_nil,List.length_take];omega
 have hl:(fH (rK k s)).length<65536:=by show(u8 2::((u8 2::bR (k:Int))++((u8 3::dY s)++[]))).length<65536;simp only[List.length_append,List.length_cons,List.length_nil];omega
 refine⟨⟨.inl rfl,by show jN.size<65536;decide,hl,Sq (by show 2<=6;decide) h⟩,by show 2<=2^16;decide,by show jN.size<=2^40;decide,λv h=>?_⟩;have h:v∈rK k s:=h;rcases List.mem_cons.1 h with rfl|h
 .show dM.size<=2^40;decide
 rw[List.mem_singleton.1 h];show s.size<=2^40;omega
theorem bZv{k:Nat}(q:xR k R)(d:k<200)(e:s.size<=60):RunT [cK k s] (λi=>if i=0 then TG (fR R)else TG (fR (R++[rK k s]))):=by
 obtain⟨p,m⟩:=sE q d e;obtain⟨g,f⟩:=Gu d e;refine⟨λi c a=>?_,λc a=>?_,λc a=>?_,by show 0<1;decide,by show 1<=255;decide⟩
 .have b:=(List.getElem?_eq_some_iff.1 a).1;have b:i=0:=by simp at b;omega
  subst b;cases a;refine⟨0,⟨aA 0,R⟩,⟨aA 0,R++[rK k s]⟩,rfl,rfl,λj l=>by omega,⟨?_,λh=>absurd rfl h,q.so.le⟩,?_⟩
  .rw[No rfl];show((bm ⟨aA 0,R⟩ (rK k s)).1,decide ((bm ⟨aA 0,R⟩ (rK k s)).2=0))=_;rw[p];rfl
  show TG (fR (R++[rK k s]))=_;rw[show(if(0:Nat)=0 then TG (fR R)else TG (fR (R++[rK k s])))=TG (fR R)from rfl,yi _ (by decide),Lq]
 .rw[List.mem_singleton.1 a];exact g
 rw[List.mem_singleton.1 a];exact f
structure Qi(n:Nat)(L:jE):Prop where
 nx:L.next=(n:Int)
 op:∀t∈L.rP,aQl t
 o:L.rP.length<=3
 b:L.lW.length<=n
 t:L.Jx.length<=n
theorem Qi.gJq(q:Qi n L)(h:n<2^16):Dd L:=⟨by rw[q.nx];omega,q.op,by have:=q.o;omega,by have:=q.b;omega,by have:=q.t;omega⟩
theorem Qi.add(q:Qi n L){cs:List cC}(h:cs.length<=2^30)(d:∀c∈cs,AH c):Qi (n+1) (fq L cs):=by
 obtain⟨e,b,f,g,i⟩:=q;unfold fq;split
 .exact⟨by show L.next+1=_;omega,λt a=>(by cases a),Nat.zero_le _,by show(L.lW++[_]).length<=_;simp;omega,by show(L.Jx++[_]).length<=_;simp;omega⟩
 rename_i j;refine⟨by show L.next+1=_;omega,λt a=>?_,?_,by show L.lW.length<=_;omega,by show L.Jx.length<=_;omega⟩
 .have a:t∈L.rP++[⟨L.next,cs⟩]:=a;rcases List.mem_append.1 a with a|a
  .exact b t a
  rw[List.mem_singleton.1 a];exact⟨h,d⟩
 show(L.rP++[_]).length<=3;simp;omega
theorem Su{l:List Bs}(h:∀x∈l,x.length=32):(fL l).length=32:=by
 unfold fL;split
 .exact fw _
 .exact h _ (List.mem_cons_self ..)
 exact fw _
theorem Oc(i:Int)(l:List cC):(eS i l).length=32:=by unfold eS gC;refine Su (λx hx=>?_);obtain⟨j,h,rfl⟩:=List.mem_mapIdx.1 hx;exact fw _
theorem JP(L:jE):(mL L).length<=33:=by
 unfold mL;split
 .decide
 rw[List.length_append,yL];decide
theorem Sr(k:Nat)(a:s.size<=60):(fH (rK k s)).length<=100:=by
 have h:=bW (k:Int);have t:(dY s).length<=62:=by unfold dY gA fD;have:=pO s;simp only[List.length_append,List.length_cons,List.length_nil,List.length_take];omega
 show(u8 2::((u8 2::bR (k:Int))++((u8 3::dY s)++[]))).length<=100;simp only[List.length_append,List.length_cons,List.length_nil];omega
theorem Ru(l:Bs):(dY (strOf l)).length<=l.length+2:=by unfold dY gA fD;have h:=pO (strOf l);have a:(strOf l).size=l.length:=BG l;simp only[List.length_append,List.length_cons,List.length_nil,List.length_take];omega
theorem JQ{n:Int}{k:Nat}(h:s.size<=60)(L:jE):(jV ⟨n,[cK k s]⟩ L).length<=65536:=by
 have a:=Sr k h;have b:=Ru (fH (rK k s));have c:=Oc n [cK k s];have d:=JP L;have e:(cP n 0 (cK k s)).length=32:=fw _;have f:(dY jN).length=4:=rfl;have g:(oN n 1).length=10:=by unfold oN;simp[bW]
 have i:(eo n 0 (cK k s)).length<=200:=by show((([u8 1]++dY jN)++dY (strOf (fH (rK k s))))++cP n 0 (cK k s)).length<=200;simp only[List.length_append,List.length_cons,List.length_nil];omega
 show(((oN n 1++(eo n 0 (cK k s)++[]))++eS n [cK k s])++mL L).length<=65536;simp only[List.length_append,List.length_nil];omega
structure SF(G:Lg)(P k:Nat)(R:List Row)(L:jE):Prop where
 rows:xR k R
 aXC:Qi R.length L
 out:∃rs sd sl,xS G P rs/\uP rs sd sl/\sd rs.length=G0 (fR R)/\sl rs.length=L/\rs.length<=3+k
 fit:64+G.s<=P*64
theorem SF.up{k:Nat}(q:SF G P k R L):SF G P (k+1) R L:=by obtain⟨s,e,sl,h,a,b,c,f⟩:=q.out;exact⟨⟨q.rows.so,λr d=>by have:=q.rows.lo r d;omega,by have:=q.rows.n;omega⟩,q.aXC,⟨s,e,sl,h,a,b,c,by omega⟩,q.fit⟩
theorem cQv{k:Nat}(q:SF G P k R L)(w:0<P)(b:k<200)(a:s.size<=60){H:List bG}(j:pS 1 H):
 (∃f,xI G (GD 1 (fR (R++[rK k s])) [cK k s] [] H) L 1=(L.next,0,f,G0 (fR (R++[rK k s])),fq L [cK k s])/\SF f P (k+1) (R++[rK k s]) (fq L [cK k s]))\/
 xI G (GD 1 (fR (R++[rK k s])) [cK k s] [] H) L 1=(0,14,G,G0 (fR R),L):=by
 have g:=EL (F:=fR (R++[rK k s])) (L:=[cK k s]) (M:=[]) j;have z:=Zy (F:=fR (R++[rK k s])) (L:=[cK k s]) (M:=[]) j (XC q.rows b a);obtain⟨E,p⟩:=sE q.rows b a;obtain⟨C,t⟩:=Gu b a;obtain⟨r,A,sl,I,x,u,v,D⟩:=q.out;have Y:=q.aXC.add (cs:=[cK k s]) (by show 1<=2^30;decide) (λc g=>by rw[List.mem_singleton.1 g];exact t);have K:=q.rows.n;unfold xI;rw[g,z,if_neg (λh=>h rfl),if_neg (by show ¬(1:Nat)=0;decide)];show(∃f,(if(aT G (jV ⟨L.next,[cK k s]⟩ (fq L [cK k s]))).1=0 then _ else _)=_/\_)\/(if(aT G (jV ⟨L.next,[cK k s]⟩ (fq L [cK k s]))).1=0 then _ else _)=_;rcases LG I (jV ⟨L.next,[cK k s]⟩ (fq L [cK k s])) (JQ a _) w with⟨o,e,l,B,n⟩ |e
 .left;rw[e];refine⟨o,rfl,p,?_,?_,n⟩
  .rw[List.length_append,List.length_singleton];exact Y
  have S:rF (A r.length) (sl r.length) (jV ⟨L.next,[cK k s]⟩ (fq L [cK k s])) (G0 (fR (R++[rK k s]))) (fq L [cK k s]):=by rw[u,v];exact rF.tx (d:=G0 (fR R)) (tt:=λi=>if i=0 then TG (fR R)else TG (fR (R++[rK k s]))) rfl (bZv q.rows b a)
  obtain⟨y,J,a1,a2,m⟩:=x.snoc S (Y.gJq (by omega)) (IK _ p.bJv);exact⟨_,y,J,l,a1,a2,m,by rw[List.length_append,List.length_singleton];omega⟩
 right;rw[e];rfl
theorem cKD(q:LB g.D)(l:Bs):LB (aT g l).2.D:=by
 unfold aT;split
 .exact q
 split
 .exact q
 split
 .exact px q ..
 split
 .exact lF (px q ..) ..
 split
 .exact su (lF (px q ..) ..)
 exact su (lF (px q ..) ..)
theorem Ok(h:i<3):(en (aA i)).length=27/\(az 1 (some (en (aA i)))).1=1/\mu (dK i) (az 1 (some (en (aA i)))).2=(dK (i+1),false,some [])/\bK (dK i) (aA i)=(dK (i+1),0):=by
 have h:i=0\/i=1\/i=2:=by omega
 rcases h with rfl|rfl|rfl<;>exact⟨by kernel_rfl,by kernel_rfl,by kernel_rfl,by kernel_rfl⟩
theorem JY:∀i,i<=3->(dK i).aj.Pairwise (λa b=>cT a.S.name b.S.name<0)/\(dK i).aj.length<=8/\∀t∈(dK i).aj,t.S.name.size<=2^60
 |0,_=>⟨List.Pairwise.nil,by decide,λt c=>(by cases c)⟩
 |1,_=>by rw[Mn];exact⟨List.pairwise_singleton ..,by decide,λt c=>by rw[List.mem_singleton.1 c];exact gi 0 (by decide)⟩
 |2,_=>by
  rw[Mm];refine⟨List.pairwise_cons.2 ⟨λb d=>by rw[List.mem_singleton.1 d];decide,List.pairwise_singleton ..⟩,by decide,λt c=>?_⟩;rcases List.mem_cons.1 c with rfl|c
  .exact gi 0 (by decide)
  rw[List.mem_singleton.1 c];exact gi 1 (by decide)
 |3,_=>by
  rw[tL];refine⟨List.pairwise_cons.2 ⟨λb d=>?_,List.pairwise_cons.2 ⟨λb d=>by rw[List.mem_singleton.1 d];decide,List.pairwise_singleton ..⟩⟩,by decide,λt c=>?_⟩
  .rcases List.mem_cons.1 d with rfl|d
   .decide
   rw[List.mem_singleton.1 d];decide
  rcases List.mem_cons.1 c with rfl|c
  .exact gi 0 (by decide)
  rcases List.mem_cons.1 c with rfl|c
  .exact gi 1 (by decide)
  rw[List.mem_singleton.1 c];exact gi 2 (by decide)
 |n+4,h=>by omega
structure BW(G:Lg)(P i:Nat):Prop where
 lb:LB G.D
 out:∃rs sd sl,xS G P rs/\uP rs sd sl/\sd rs.length=dK i/\sl rs.length=lz/\rs.length=i
 s:G.s=35*i
theorem Yr:Dd lz:=⟨⟨Int.le_refl _,by decide⟩,λt h=>(by cases h),Nat.zero_le _,Nat.zero_le _,Nat.zero_le _⟩
theorem iQY(h:0<P):BW ⟨Gn P,0,0⟩ P 0:=⟨⟨Int.le_refl 0,by show(0:Int)<2^63;decide⟩,⟨[],_,_,cXt h,uP.nil,rfl,rfl,rfl⟩,rfl⟩
theorem cKy(q:BW G P i)(p:3<=P)(l:i<3):∃a,gH G (dK i) (aA i)=(0,a,dK (i+1))/\BW a P (i+1):=by
 obtain⟨r,s,sl,I,R,f,g,j⟩:=q.out;obtain⟨u,m,n,o⟩:=Ok l;have t:=q.s;have b:=cKD q.lb (en (aA i));obtain⟨a,e,c,O⟩:=zC I (en (aA i)) (by omega) (by omega);have k:gH G (dK i) (aA i)=QJ G (dK i) (bK (dK i) (aA i)) (en (aA i)):=rfl;have S:rF (s r.length) (sl r.length) (en (aA i)) (dK (i+1)) lz:=by rw[f,g];exact .aJq m n
 obtain⟨y,J,a1,a2,d⟩:=R.snoc S Yr (nd (i+1) (by omega));rw[e]at b;refine⟨a,?_,b,⟨_,y,J,c,a1,a2,d,by rw[List.length_append,List.length_singleton,j]⟩,by omega⟩;rw[k,o];unfold QJ;rw[if_neg (λh=>h rfl),e];rfl
theorem bZx(q:BW G P 3)(f:3<=P):SF G P 0 [] lz:=by obtain⟨s,d,sl,I,R,h,a,e⟩:=q.out;have g:=q.s;refine⟨⟨SO.nil,λr b=>(by cases b),Nat.le_refl _⟩,⟨rfl,λt c=>(by cases c),Nat.zero_le _,Nat.zero_le _,Nat.zero_le _⟩,⟨s,d,sl,I,R,?_,a,by omega⟩,by omega⟩;rw[h,tL];rfl
abbrev hQv:List Nat:=158::150::(bJP++(uN++je))
theorem AB.lt{s:Nat}(q:AB h s p G d L)(l:bV hQv h h'):AB h' s p G d L:=by obtain⟨b,n,e,a,j,f,c,k,i,w,r⟩:=q.out;obtain⟨g,x,t,m,o,u⟩:=w.out;exact⟨b,n,e,a,j,f,c,k,i,⟨g,x,⟨l _ _ _ _ (by decide) t.out⟩,m.lt (l.sub),o.lt (l.sub),u.lt (l.sub)⟩,r.ls (l.sub)⟩
structure Wl(h:ab)(w p x s t:Nat):Prop where
 out:h w=some (.cells (List.toArray [.pointer (some ⟨p,0,none⟩),.pointer (some ⟨x,0,none⟩),.pointer (some ⟨s,0,none⟩),.pointer (some ⟨t,0,none⟩)]) 41 (0,0))
theorem JX(a:i<3)(h:eZ.aj[i]? =some ⟨⟨nm,cols,key,only⟩,R⟩):(⟨nm,cols,key,only⟩:rV)=aA i/\cols.length<=2^16/\nm.size<=2^40/\∀x∈cols,x.name.size<=2^40:=by
 have a:i=0\/i=1\/i=2:=by omega
 rcases a with rfl|rfl|rfl
 all_goals
  have h:=congrArg bJ.S (Option.some.inj h);have e:(⟨nm,cols,key,only⟩:rV)=_:=h.symm;refine⟨e,?_⟩;obtain⟨rfl,rfl,-,-⟩:=rV.mk.inj e;refine⟨by decide,by decide,λx hx=>?_⟩;rcases List.mem_cons.1 hx with rfl|hx
  .decide
  rw[List.mem_singleton.1 hx];decide
theorem Fb{w:Nat}{cs cs':List Value}(g:h w=some (.cells (List.toArray cs) 41 (0,0)))(a:h'=bu h w (.cells (List.toArray cs') 41 (0,0))):
 h' w=some (.cells (List.toArray cs') 41 (0,0))/\dI [41] h h':=by
 subst a;exact⟨ae,fE g (by decide)⟩
theorem aQe{z:Int}(hz:aK z P)(hP:3<=P)(UP:P<=4096)
 (hk:∀h' w p x s t G,Wl h' w p x s t->AB h' s p G eZ lz->Nz nH h' t x G eZ lz->BW G P 3->k (.pointer (some ⟨w,0,none⟩)) h'):
 Ct 10 [.int .i64 z] h k:=by
 have b0:=iQY (P:=P) (by omega);obtain⟨rs,sd,sl,I0,R0,bc,aW,aN⟩:=b0.out;have AT:rs=[]:=List.length_eq_zero_iff.1 aN;subst AT;refine an gKx Tryz.func10 λA hA=>?_;cbv;intro w h1 hw e1;have g1:h1 w=some (.cells (List.toArray [.pointer none,.pointer none,.pointer none,.pointer none]) 41 (0,0)):=(congrFun e1 w).trans ae;clear e1;cbv;refine dKl (n:=P) hz (by omega) UP (λh2 p hp l2 q2=>?_);have g2:=l2 _ _ g1;cbv;repeat rw[al A]
 refine jr g2 (by simp) (λh3 b=>?_);obtain⟨g3,x3⟩:=Fb (cs':=[.pointer (some ⟨p,0,none⟩),.pointer none,.pointer none,.pointer none]) g2 b;have q3:=q2.lt (x3.t (by decide));clear b;cbv;refine dKe hz (by omega) UP (λh4 x hx l4 q4=>?_);have g4:=l4 _ _ g3;have r4:=q4.down (BX h3);cbv;repeat rw[al A]
 refine jr g4 (by simp) (λh5 b=>?_);obtain⟨g5,x5⟩:=Fb (cs':=[.pointer (some ⟨p,0,none⟩),.pointer (some ⟨x,0,none⟩),.pointer none,.pointer none]) g4 b;have q5:=(q3.lt (l4.t _)).lt (x5.t (by decide));have r5:=r4.lt (x5.t (by decide)) (BX _);clear b;cbv;repeat (first|rw[al A] | (refine ak g5 ?_;cbv)|(refine⟨⟨_,rfl,rfl⟩,?_⟩;cbv))
 refine Ww (g:=⟨Gn P,0,0⟩) q5 I0 (by omega) (by show(0:Nat)<2^60;decide) (by show(0:Nat)<2^60;decide) R0 (λh6 s x6 q6=>?_);rw[bc,aW]at q6;have g6:=x6 _ _ g5 (λ_ _ _ B=>by cases B;decide);have r6:=r5.lt (x6.t (by decide)) (BX _);cbv;repeat rw[al A]
 refine jr g6 (by simp) (λh7 b=>?_);obtain⟨g7,x7⟩:=Fb (cs':=[.pointer (some ⟨p,0,none⟩),.pointer (some ⟨x,0,none⟩),.pointer (some ⟨s,0,none⟩),.pointer none]) g6 b;have q7:=q6.lt (x7.t (by decide));have r7:=r6.lt (x7.t (by decide)) (BX _);clear b;cbv;repeat (first|rw[al A] | (refine ak g7 ?_;cbv)|(refine⟨⟨_,rfl,rfl⟩,?_⟩;cbv))
 refine bZW (g:=⟨Gn P,0,0⟩) r7 I0 (by omega) (by show(0:Nat)<2^60;decide) (by show(0:Nat)<2^60;decide) (λh8 t l8 r8=>?_);have g8:=l8 _ _ g7;have q8:=q7.lt (l8.t _);cbv;repeat rw[al A]
 refine jr g8 (by simp) (λh9 b=>?_);obtain⟨g9,x9⟩:=Fb (cs':=[.pointer (some ⟨p,0,none⟩),.pointer (some ⟨x,0,none⟩),.pointer (some ⟨s,0,none⟩),.pointer (some ⟨t,0,none⟩)]) g8 b;have q9:=q8.lt (x9.t (by decide));have r9:=r8.lt (x9.t (by decide)) (BX _);clear b g1 g2 g3 g4 g5 g6 g7 g8 q2 q3 q4 q5 q6 q7 q8 r4 r5 r6 r7 r8;cbv;refine Xz (λgP b1 n1 c1 b2 n2 c2 b3 n3 c3 b4 n4 c4 N m1 e1 d2 m2 e2 d3 m3 e3 d4 m4 e4 fo qD rD=>?_);have au:Wl gP w p x s t:=⟨fo _ _ g9⟩;have uk:=q9.lt (fo.t _);have Y:=r9.le fo;have st:=rD.aj;have hm:m1=3:=st.len;subst hm;obtain⟨J,Z⟩:∃J:Nat->Int->ab->Prop,∀v z h',J v z h'=(∃i G,aK z i/\v=3-i/\i<=3/\Wl h' w p x s t/\AB h' s p G (dK i) lz/\Nz nH h' t x G (dK i) lz/\Sl 132 bo h' (.slice N 3 e1) eZ.aj/\BW G P i):=⟨_,λ_ _ _=>rfl⟩;have U:J 3 0 gP:=by rw[Z];exact⟨0,_,⟨rfl⟩,rfl,by omega,au,uk,Y,st,b0⟩
 cbv;refine aG.go (G:=Int) (λz=>[(6,.v (.int .i64 z))]) (λ_=>[(4,[.slice b1 n1 c1,.slice b2 n2 c2,.slice b3 n3 c3,.slice b4 n4 c4]),(5,[.slice N 3 e1,.slice d2 m2 e2,.slice d3 m3 e3,.slice d4 m4 e4])]) (λv z h'=>J v z h') 3 0 (by constructor<;>cbv) U ?_
 intro v z1 mK hI;rw[Z]at hI;cbv;obtain⟨i,G,F,hv,hi,r,ou,O,u,bw⟩:=hI;have W:A .ay .lss z1 (A .nat 3)=decide (i<3):=by rw[aD A,F.eq,hA.nat];exact decide_eq_decide.2 (by show(i:Int)<3↔_;omega)
 rw[W];by_cases f:i<3
 .rw[decide_eq_true f];have ix:=F.ix (len:=3) f;have kG:=F.succ (A:=A);have aF:3-(i+1)<v:=by omega
  have iU:N.isSome=true:=u.aQ;obtain⟨Tx,hT⟩:=ax (xs:=eZ.aj) (i:=i) f;obtain⟨⟨nm,cols,key,only⟩,R⟩:=Tx;obtain⟨q,rU,uK,S⟩:=JX f hT;obtain⟨j,c,bd⟩:=cKy bw hP f;obtain⟨rs,sd,sl,I,-,-,-,rL⟩:=bw.out;have hs:=bw.s;have y:G.n<=2^29:=by rw[I.n];omega
  have C:G.D.ws.length<=2^28:=by rw[I.ws];exact Nat.zero_le _
  have ar:G.s<=64*(G.D.now.length-1):=by rw[I.gX.len];omega
  obtain⟨gz,bj,ag⟩:=JY i (by omega);rw[<-q]at c;have gw:=r.out;have bI:∀h',Wl h' w p x s t->AB h' s p j (dK (i+1)) lz->Nz nH h' t x j (dK (i+1)) lz->Sl 132 bo h' (.slice N 3 e1) eZ.aj->J (3-(i+1)) (A .aC .add .i64 z1 1) h':=λh' a1 a2 a3 a4=>by
   rw[Z];exact⟨i+1,j,kG,rfl,by omega,a1,a2,a3,a4,bd⟩
  have sm:=nd i (by omega);have aj:=bw.lb;clear W Z U hk q bw;generalize dK (i+1)=d' at *;generalize dK i=d at *;cbv;rw[al A];refine ak gw ?_;cbv;refine⟨⟨iU,ix⟩,?_⟩;cbv;refine u.bT hT F.eq (o:=0) (m:=4) (by decide) (λcs a=>?_);obtain⟨sb,L,sc,E,X,D,a,l,-⟩:=a;have a:cs=[.string nm,.slice sb L sc,.int .i64 key,.bool only,.slice E X D]:=a;subst a;have WU:L=cols.length:=l.len;cbv;refine aXf ou l (by omega) uK S sm (by omega) y C (λpJ V M=>?_);rw[c]at M |-;have M:AB pJ s p j d' lz:=M;have Lm:=V _ _ gw (λ_ _ _ B=>by cases B;decide);have aH:=O.lt (V.t (by decide)) (BX _);have Q:=u.mono (V.t (by decide));cbv;rw[al A];refine ak Lm ?_;cbv;refine⟨⟨iU,ix⟩,?_⟩;cbv;refine Q.bT hT F.eq (o:=0) (m:=4) (by decide) (λcs a=>?_);obtain⟨sb,L,sc,E,X,D,a,l,-⟩:=a;have a:cs=[.string nm,.slice sb L sc,.int .i64 key,.bool only,.slice E X D]:=a;subst a;have WU:L=cols.length:=l.len;cbv;refine Wm aH aj gz ag (by omega) l (by omega) ar y C (λH e K=>?_);rw[c]at K |-;have K:Nz nH H t x j d' lz:=K;have:=bI H ⟨e _ _ Lm (λ_ _ _ B=>by cases B;decide)⟩ (M.lt (e.t (by decide))) K (Q.mono (e.t (by decide)));clear bI;cbv;refine⟨3-(i+1),A .aC .add .i64 z1 1,aF,by constructor<;>cbv,this⟩
 have T:i=3:=by omega
 subst T;rw[tL]at ou O;have:=hk mK w p x s t G r ou O bw;rw[decide_eq_false f];clear hk Z U W;cbv;exact this
theorem Xu{T:Nat}{k c b d:Int}{s1 s2:ByteArray}(e:h n=some (.cells (List.toArray [.int .i64 k,.int .i64 c,.string s1,.int .i64 b,.int .i64 d,.string s2]) T (0,0))):Sl T aS h (.slice (some ⟨n,0,none⟩) 2 2) [⟨k,c,s1⟩,⟨b,d,s2⟩]:=by
 refine Sl.fresh (s:=aS) (xs:=([⟨k,c,s1⟩,⟨b,d,s2⟩]:List gV)) e ⟨by simp[aS],λj z a=>?_⟩ (by simp) (by simp)
 match j,a with
 |0,a=>simp at a;subst a;simp[aS]
 |1,a=>simp at a;subst a;simp[aS]
 |j+2,a=>simp at a
theorem eD.BR{a c d:Option Addr}{e j f k g l:Nat}{F:Nat->List Row}(q:eD h (.agg #[.slice b n e,.slice a j f,.slice c k g,.slice d l i]) (G0 F)):
 Sl 61 bo h (.slice b n e) (TG F)/\Sl 79 bE h (.slice a j f) []/\Sl 253 aO h (.slice c k g) []/\Sl 253 aO h (.slice d l i) []:=by
 obtain⟨m,⟨s,o,w⟩,p,r⟩:=q.aKb;have w:s.map (·.1)=[]:=w;have:s=[]:=List.map_eq_nil_iff.1 w;subst this;exact⟨m,o,p,r⟩
theorem Ol:eZ=G0 (fR []):=rfl
theorem bXZ(HV n:Int)(h:ab):Ct 3 [.int .i64 HV,.int .i64 n] h (λv h'=>v=.bool true):=by
 obtain⟨A,hA⟩:=Ar.ex;have kI:A .ay .neq 0 0=false:=by rw[av A];rfl
 have vE:A .ay .eql 0 0=true:=by rw[aq A];rfl
 have ct:A .ay .eql 14 0=false:=by rw[aq A];rfl
 have bk:A .ay .neq 14 0=true:=by rw[av A];rfl
 have cp:A .ay .neq 14 14=false:=by rw[av A];rfl
 have aH:A .not true=false:=by rw[hA.not];rfl
 refine bB T3 A Tryz.func3 ?_;cbv;refine Yx h (λh1 x1=>?_);cbv;rw[aH];cbv;refine Hd HV 12 (by decide) (by decide) _ (λzj j cn hj dr=>?_);obtain⟨P,hP⟩:∃P,P=8+j:=⟨_,rfl⟩;obtain⟨zp,Qv,nY⟩:∃zp:Int,zp=(P:Int)/\A .aC .add .i64 8 zj=zp:=⟨_,rfl,by
  rw[hA.aC,cn.eq,hP];show IntKind.i64.wrap (8+(j:Int))=_;rw[IntWalk.i64_in _ (by omega)];omega⟩
 clear x1;cbv;rw[nY];refine aQe (P:=P) ⟨Qv⟩ (by omega) (by omega) (λh2 w p x s t G w2 q2 r2 bw=>?_);have f:=bZx bw (by omega);rw[Ol]at q2;clear r2 bw nY Qv hj;obtain⟨J,aZ⟩:∃J:Nat->Int->ab->Prop,∀v z h',J v z h'=(∃k G R L,aK z k/\v=12-k/\k<=12/\Wl h' w p x s t/\AB h' s p G (G0 (fR R)) L/\SF G P k R L):=⟨_,λ_ _ _=>rfl⟩;have df:J 12 0 h2:=by rw[aZ];exact⟨0,G,[],lz,⟨rfl⟩,rfl,by omega,w2,q2,f⟩
 cbv;refine aG.go (G:=Int) (λz=>[(6,.v (.int .i64 z))]) (λ_=>[]) (λv z h'=>J v z h') 12 0 (by constructor<;>cbv) df ?_
 intro v z h3 hI;rw[aZ]at hI;cbv;obtain⟨k,G,R,L,hz,hv,dn,w3,q3,f⟩:=hI;have f1:A .ay .lss z 12=decide (k<12):=by rw[aD A,hz.eq];exact decide_eq_decide.2 (by omega)
 rw[f1];by_cases hc:k<12
 .rw[decide_eq_true hc];have kG:=hz.succ (A:=A);have aF:12-(k+1)<v:=by omega
  have gw:=w3.out;have bJv:=f.rows.bJv;have ch:z=(k:Int):=hz.eq;obtain⟨rs,sd,sl,I,-,-,-,AT⟩:=f.out;have e:G.s<=2^29:=by have:=f.fit;omega
  have Q:G.n<=2^29:=by rw[I.n];omega
  have br:G.D.ws.length<=2^28:=by rw[I.ws];exact Nat.zero_le _
  clear I AT;have dt:=f.rows.n;have cb:=f.aXC.gJq (by omega);obtain⟨D,zQ,vO,Ca⟩:=L;have fa:D=(R.length:Int):=f.aXC.nx;have bC:A .ay .neq D D=false:=by rw[av A];simp
  have bF:∀b:Nat,b=R.length+1->A .ay .neq (A .nat b) (A .aC .add .i64 D 1)=false:=λb h2=>by
   have:A .aC .add .i64 D 1=(b:Int):=by rw[hA.aC,fa];show IntKind.i64.wrap ((R.length:Int)+1)=_;rw[IntWalk.i64_in _ (by omega)];omega
   rw[this,hA.nat,av A];show decide ((b:Int)≠(b:Int))=false;simp
  have bI:∀h' C r L',Wl h' w p x s t->AB h' s p C (G0 (fR r)) L'->SF C P (k+1) r L'->J (12-(k+1)) (A .aC .add .i64 z 1) h':=λh' C r L' a1 a2 a3=>by
   rw[aZ];exact⟨k+1,C,r,L',kG,rfl,by omega,a1,a2,a3⟩
  clear f1 df aZ;cbv;rw[al A];refine ak gw ?_;cbv;refine bKU q3 (λh4 B q S H b T K n3 U N n4 V l4 Qn=>?_);have q4:=q3.le l4;have d:=l4 _ _ gw;cbv;refine VL Qn 1 (IK _ bJv) (UW (by decide) (fR R)) (λh5 B q S H b T K n3 U N n4 V l5 vN=>?_);have vN:eD h5 (.agg #[.slice B q S,.slice H b T,.slice K n3 U,.slice N n4 V]) (GD 1 (fR R) [] [] []):=vN;have q5:=q4.le l5;have Z:=l5 _ _ d;clear Qn q4 d;cbv;refine Hd (A .aC .add .i64 n z) 26 (by decide) (by decide) _ (λzm m WN hm dk=>?_);have bj:0<=zm/\zm<=(26:Int):=by rw[WN.eq];omega
  cbv;refine⟨bj,?_⟩;cbv;generalize FR:A .sub _ 0 zm=a;have YQ:a.size<=60:=by rw[<-FR,hA.sub];show(ByteArray.extract _ _ _).size<=60;rw[ByteArray.size_extract,WN.eq];omega
  clear FR bj;intro nb h6 dp e6;have l6:Le h5 h6:=by rw[e6];exact Le.set dp
  have gb:h6 nb=some (.cells (List.toArray [.int .i64 2,.int .i64 z,.string ⟨#[]⟩,.int .i64 3,.int .i64 0,.string a]) 45 (0,0)):=(congrFun e6 nb).trans ae;have sb:=Xu gb;rw[ch]at sb;have sb:Sl 45 aS h6 (.slice (some ⟨nb,0,none⟩) 2 2) (rK k a):=sb;obtain⟨H',cv,Y,cz⟩:=aJu f.rows (by omega:k<200) YQ;have cx:=cQv f (by omega:0<P) (by omega:k<200) YQ Y;obtain⟨p1,p2⟩:=sE f.rows (by omega:k<200) YQ;have bZ:=EL (F:=fR (R++[rK k a])) (L:=[cK k a]) (M:=[]) Y;have cw:pQ 1 (GD 1 (fR R) [] [] []):=aZw (by decide) (λx hx=>by cases hx) bJv (Nat.zero_le _);have bd:pQ 1 (GD 1 (fR (R++[rK k a])) [cK k a] [] H'):=aZw (by decide) Y p2.bJv cz;have Qm:=vN.mono l6;have q6:=q5.le l6;have bx:=l6 _ _ Z;clear e6 gb vN q5 Z;cbv;refine aJX Qm cw (by decide) 1 (by decide) jN sb cv (λh7 B q S H b T K n3 U N n4 V l7 l=>?_);have l:eD h7 (.agg #[.slice B q S,.slice H b T,.slice K n3 U,.slice N n4 V]) (GD 1 (fR (R++[rK k a])) [cK k a] [] H'):=l;have q7:=q6.le l7;have au:=l7 _ _ bx;clear Qm q6 bx sb;cbv;rw[kI];cbv;rw[al A];refine ak au ?_;cbv;refine bKU q7 (λh8 f1 g1 i1 f2 g2 i2 f3 g3 i3 f4 g4 i4 l8 bp=>?_);have q8:=q7.le l8;have aj:=l8 _ _ au;have aW:=l.mono l8;clear l q7 au;cbv;rw[al A];refine ak aj ?_;cbv;refine NF q8 (λh9 e1 m1 d1 e2 m2 d2 e3 m3 d3 l9 cQ=>?_);have q9:=q8.le l9;have ag:=l9 _ _ aj;have bl:=aW.mono l9;have aN:=bp.mono l9;clear aW q8 aj bp cQ;cbv;rw[al A];refine ak ag ?_;cbv;refine fKP q9 bl (λgP WD uk=>?_);have UT:=WD _ _ ag (λ_ _ _ he=>by cases he;decide);have E:=aN.ls (WD.t (by decide));clear aN q9 ag bl;cbv;rw[al A];refine ak UT ?_;cbv;have rU:(cW (GD 1 (fR (R++[rK k a])) [cK k a] [] H') 1).2.1.length<=255:=by rw[bZ];show 1<=255;decide
  have MX:∀c∈(cW (GD 1 (fR (R++[rK k a])) [cK k a] [] H') 1).2.1,AH c:=λc hc=>by
   rw[bZ]at hc;rw[List.mem_singleton.1 hc];exact(Gu (by omega:k<200) YQ).2
  rcases cx with⟨C,hW,W⟩ |hW
  .refine NL uk 1 bd (by decide) cb rU MX e Q br hW (λmK X u=>?_);have u:AB mK s p C (G0 (fR (R++[rK k a]))) (fq ⟨D,zQ,vO,Ca⟩ [cK k a]):=u;have Pv:=X _ _ UT (λ_ _ _ he=>by cases he;decide);have dj:(R++[rK k a]).length=R.length+1:=by simp
   clear hW rU MX E uk UT;generalize fq ⟨D,zQ,vO,Ca⟩ [cK k a]=L' at *;generalize R++[rK k a]=r at *;cbv;rw[vE];cbv;rw[bC];cbv;rw[al A];refine ak Pv ?_;cbv;refine bKU u (λpJ B q S H b T K n3 U N n4 V eF Ya=>?_);have Du:=u.le eF;have Lm:=eF _ _ Pv;obtain⟨qt,-,-,-⟩:=eD.BR Ya;have ek:q=3:=qt.len;have iU:B.isSome=true:=qt.aQ;have de:=(⟨rfl⟩:aK 0 0).ix (len:=q) (by omega);have ar:=bI pJ C r L' ⟨Lm⟩ Du W;clear bI;cbv;refine⟨⟨iU,de⟩,?_⟩;cbv;refine qt.bT (i:=0) (x:=⟨aA 0,r⟩) rfl rfl (o:=4) (m:=1) (by decide) (λcs ao=>?_);obtain⟨u1,u2,u3,u4,u5,u6,ao,-,qr⟩:=ao;have hu:u5=r.length:=qr.len;have cr:=bF u5 (by omega);subst ao;cbv;rw[cr];cbv;rw[kI];cbv;refine⟨12-(k+1),A .aC .add .i64 z 1,aF,by constructor<;>cbv,ar⟩
  refine NL uk 1 bd (by decide) cb rU MX e Q br hW (λmK X u=>?_);have u:AB mK s p G (G0 (fR R)) ⟨D,zQ,vO,Ca⟩:=u;have Pv:=X _ _ UT (λ_ _ _ he=>by cases he;decide);have bc:=E.ls (X.t (by decide));have W:=f.up;clear hW rU MX E uk UT bF;cbv;rw[ct];cbv;rw[bk];cbv;rw[cp];cbv;rw[al A];refine ak Pv ?_;cbv;refine bKU u (λpJ B q S H b T K n3 U N n4 V eF Ya=>?_);have Du:=u.le eF;have Lm:=eF _ _ Pv;obtain⟨t1,t2,t3,t4⟩:=eD.BR Ya;obtain⟨y1,y2,y3,y4⟩:=eD.BR (bc.mono eF);clear Ya bc u Pv;cbv;refine Sk t1 t2 t3 t4 y1 y2 y3 y4 (λdi nP=>?_);have FB:=Du.le nP;have O:=nP _ _ Lm;clear t1 t2 t3 t4 y1 y2 y3 y4 Du Lm;cbv;rw[aH];cbv;rw[al A];refine ak O ?_;cbv;refine NF FB (λdh e1 m1 d1 e2 m2 d2 e3 m3 d3 pE cq=>?_);have ar:=bI dh G R ⟨D,zQ,vO,Ca⟩ ⟨pE _ _ O⟩ (FB.le pE) W;clear bI cq FB O;cbv;rw[bC];cbv;rw[kI];cbv;refine⟨12-(k+1),A .aC .add .i64 z 1,aF,by constructor<;>cbv,ar⟩
 have hk:k=12:=by omega
 subst hk;have gw:=w3.out;obtain⟨rs,sd,sl,I,Rp,hd,hl,AT⟩:=f.out;have e:G.s<2^60:=by have:=f.fit;omega
 have Q:G.n<2^60:=by rw[I.n];omega
 obtain⟨OQ,OL,OO,OP,OK,ON,Ev,OJ,OM,qw,cd⟩:=q3.out;obtain⟨g,y,qs,ql,qk,qx⟩:=qw.out;rw[decide_eq_false hc];clear f1 df aZ qw cd qs ql qx;cbv;rw[al A];refine ak gw ?_;cbv;refine Ww qk I (by omega) e Q Rp (λh4 s2 x4 q4=>?_);rw[hd,hl]at q4;have dd:=q3.lt (x4.t (by decide));have d:=x4 _ _ gw (λ_ _ _ he=>by cases he;decide);cbv;rw[vE];cbv;rw[al A];refine ak d ?_;cbv;refine bKU q4 (λh5 B q S H b T K n3 U N n4 V l5 vN=>?_);have cY:=dd.le l5;have Z:=l5 _ _ d;cbv;try rw[al A]
 refine ak Z ?_;cbv;refine⟨⟨_,rfl,rfl⟩,?_⟩;cbv;refine bKU cY (λh6 f1 g1 i1 f2 g2 i2 f3 g3 i3 f4 g4 i4 l6 Qm=>?_);obtain⟨t1,t2,t3,t4⟩:=eD.BR (vN.mono l6);obtain⟨y1,y2,y3,y4⟩:=eD.BR Qm;cbv;refine Sk t1 t2 t3 t4 y1 y2 y3 y4 (λh7 l7=>?_);cbv
theorem ZC(H n:Int)(h:ab):Ct 3 [.int .i64 H,.int .i64 n] h (λv h'=>Le h h'/\v=.bool true):=
 Dr.cJT (BX h) (bXZ H n nH) (λv A h' hR l fr=>⟨λb o a=>(fr b o rfl a).1,hR⟩)
end Go.S
