import Derived.Test.YtifjeceolckgaaaGreatQD
set_option linter.all false
set_option maxRecDepth 100000
set_option maxHeartbeats 8000000
namespace Go.S
open Go.Sx Go.Proofs
variable {d:DB}{s:Int}{cols:List cK}{n p w:Nat}{a:Row}{k:Value->ad->Prop}{st x:aJ}{h:ad}
theorem eJX(q:fM h p d s st)(o:ue n d)(j:n<2^18)(g:h w=some (.cells #[.pointer (some ⟨p,0,none⟩)] 89 (0,0)))(nm:ByteArray)
 (a:∀h',Kp [p] h h'->fM h' p (aL d ⟨s,nm,false⟩).1 s st->k (.int .i64 (aL d ⟨s,nm,false⟩).2) h'):Ct 83 [.string nm,.pointer (some ⟨w,0,none⟩)] h k:=by
 refine mQx hQc Tryz.func83 λA l=>?_;cbv;refine mQw g ?_;cbv;refine UP q o j nm false (λb c i=>?_);have f:=a b c i;generalize (aL d ⟨s,nm,false⟩).2=e at *;clear a;cbv;exact f
def fH(s:Int):List ByteArray->DB->DB×Int:=CV λd nm=>aL d ⟨s,nm,false⟩
theorem MM(c:-2^63<=s/\s<2^63):∀ {l:List ByteArray} {n:Nat} {d:DB},EJ n d->EJ (n+l.length) (fH s l d).1
 | [],n,d,h=>h
 |x::r,n,d,h=>by
  have b:=h.hold ⟨s,x,false⟩ c;show EJ _ (CV (λd nm=>aL d ⟨s,nm,false⟩) (x::r) d).1;rw[Bh];generalize aL d ⟨s,x,false⟩=H at *;obtain⟨a,e⟩:=H;show EJ _ (if e≠0 then(a,e)else fH s r a).1;by_cases h0:e≠0
  .rw[if_pos h0];exact EJ.le b (by simp only[mQM];omega)
  rw[if_neg h0];exact(MM c b).le (by simp only[mQM];omega)
theorem PN(q:fM h p d s st)(A:EJ n d){names:List ByteArray}(L:n+names.length+2<2^18)(G:-2^63<=s/\s<2^63)(B:h w=some (.cells #[.pointer (some ⟨p,0,none⟩)] 89 (0,0)))(H:w≠p)
 {b:Option Addr} {v r:Nat} (z:Sl 9 dX h (.slice b v r) names) 
 (o:∀h',Kp [p] h h'->fM h' p (fH s names d).1 s st->k (.int .i64 (fH s names d).2) h'):
 Ct 84 [.slice b v r,.func (.func 83) #[] #[.pointer (some ⟨w,0,none⟩)]] h k:=by
 have F:=z.len;obtain⟨D,t⟩:∃D,fH s names d=D:=⟨_,rfl⟩;rw[t]at o;obtain⟨I,Y⟩:∃I:Nat->ad->Prop,∀i h',I i h'=∃c,fM h' p c s st/\EJ (n+i) c/\Kp [p] h h'/\fH s (names.drop i) c=D:=⟨_,λ_ _=>rfl⟩;have J:I 0 h:=by rw[Y];exact⟨d,q,A,Kp.refl _ _,t⟩
 refine mJK F I J (λi h' j=>?_) (λi x h' K hx j _=>?_) (λh' j=>?_)
 .rw[Y]at j;obtain⟨c,l,U,kp,-⟩:=j;exact z.mono (q.kp kp (by decide))
 .rw[Y]at j;obtain⟨c,l,U,kp,a⟩:=j;have hd:names.drop i=x::names.drop (i+1):=by obtain⟨C,m⟩:=mQB.1 hx;rw[mQJ C,m]
  rw[hd]at a;replace a:(match aL c ⟨s,x,false⟩with
   | (f,e)=>if e≠0 then(f,e)else fH s (names.drop (i+1)) f)=D:=a
  have Q:=U.hold ⟨s,x,false⟩ G;refine eJX l U.sj.Ko (by omega) (kp _ _ B (by simpa using H)) x (λm u y=>⟨_,rfl,λh0=>?_,λh0=>?_⟩)
  .generalize aL c ⟨s,x,false⟩=E at *;obtain⟨f,e⟩:=E;replace a:(if e≠0 then(f,e)else fH s (names.drop (i+1)) f)=D:=a;rw[if_neg (λg=>g h0)]at a;rw[Y];exact⟨f,y,Q,kp.trans u,a⟩
  generalize aL c ⟨s,x,false⟩=E at *;obtain⟨f,e⟩:=E;replace a:(if e≠0 then(f,e)else fH s (names.drop (i+1)) f)=D:=a;rw[if_pos h0]at a;subst a;exact o m (kp.trans u) y
 rw[Y]at j;obtain⟨c,l,U,kp,a⟩:=j;rw[mQT (by omega)]at a;replace a:(c,0)=D:=a;subst a;exact o h' kp l
def cQ(st:aJ):List ByteArray:=if st.join=b0 then [st.table]else [st.table,st.join]
def gI(d:DB)(st:aJ):List cK:=aR (cI d st.table)++(if st.join=b0 then []else aR (cI d st.join))
def LV(d:DB)(st:aJ):List Row:=if st.join=b0 then [[]]else(cI d st.join).rows
theorem He(d:DB)(s:Int)(st:aJ):gH d s st=if st.join=st.table then(d,[],7)else if(fH s (cQ st) d).2≠0 then((fH s (cQ st) d).1,[],(fH s (cQ st) d).2)else
 ((fH s (cQ st) d).1,jI st (gI (fH s (cQ st) d).1 st) (cI (fH s (cQ st) d).1 st.table).rows (LV (fH s (cQ st) d).1 st)):=by
 unfold gH;by_cases h0:st.join=st.table
 .rw[if_pos h0,if_pos h0]
 rw[if_neg h0,if_neg h0];by_cases j:st.join=b0
 .have n:cQ st=[st.table]:=by unfold cQ;rw[if_pos j]
  rw[n];have g:fH s [st.table] d=if(aL d ⟨s,st.table,false⟩).2≠0 then aL d ⟨s,st.table,false⟩else((aL d ⟨s,st.table,false⟩).1,0):=by
   show(match aL d ⟨s,st.table,false⟩with
    | (a,e)=>if e≠0 then(a,e)else(a,0))=_
   generalize aL d ⟨s,st.table,false⟩=H;obtain⟨b,e⟩:=H;rfl
  rw[g];generalize aL d ⟨s,st.table,false⟩=H;obtain⟨b,e⟩:=H;by_cases h:e≠0
  .simp only[h,if_true,ne_eq,not_false_eq_true]
  have h:e=0:=mXc.1 h;subst h;simp only[j,if_true,ne_eq,not_true_eq_false,if_false,gI,LV,mXb]
 have n:cQ st=[st.table,st.join]:=by unfold cQ;rw[if_neg j]
 rw[n];have g:fH s [st.table,st.join] d=if(aL d ⟨s,st.table,false⟩).2≠0 then aL d ⟨s,st.table,false⟩else if(aL (aL d ⟨s,st.table,false⟩).1 ⟨s,st.join,false⟩).2≠0 then aL (aL d ⟨s,st.table,false⟩).1 ⟨s,st.join,false⟩else((aL (aL d ⟨s,st.table,false⟩).1 ⟨s,st.join,false⟩).1,0):=by
  show(match aL d ⟨s,st.table,false⟩with
   | (a,e)=>if e≠0 then(a,e)else match aL a ⟨s,st.join,false⟩with
    | (a,e)=>if e≠0 then(a,e)else(a,0))=_
  generalize aL d ⟨s,st.table,false⟩=H;obtain⟨b,e⟩:=H;show(if e≠0 then(b,e)else match aL b ⟨s,st.join,false⟩with
   | (a,e)=>if e≠0 then(a,e)else(a,0))=_
  generalize aL b ⟨s,st.join,false⟩=c;obtain⟨i,f⟩:=c;rfl
 rw[g];generalize aL d ⟨s,st.table,false⟩=H;obtain⟨b,e⟩:=H;by_cases h:e≠0
 .simp only[h,if_true,ne_eq,not_false_eq_true]
 have h:e=0:=mXc.1 h;subst h;simp only[ne_eq,not_true_eq_false,if_false,j];generalize aL b ⟨s,st.join,false⟩=c;obtain⟨i,f⟩:=c;by_cases h:f≠0
 .simp only[h,if_true,ne_eq,not_false_eq_true]
 have h:f=0:=mXc.1 h;subst h;simp only[j,if_false,ne_eq,not_true_eq_false,gI,LV]
theorem aZC{b:Row}{out:List Row}:∀r∈(vV x cols a b out).1,r∈out\/r=a++b:=by
 intro r c;unfold vV at c;generalize dt x.on cols (a++b)=H at c;obtain⟨on,e⟩:=H;generalize dt x.bV cols (a++b)=f at c;obtain⟨is,d⟩:=f;replace c:r∈(if e≠0 then(out,e)else if on=false then(out,0)else(if d≠0 then(out,d)else(if is=true then out++[a++b]else out,0)):List Row×Int).1:=c;split at c
 .exact .inl c
 split at c
 .exact .inl c
 split at c
 .exact .inl c
 have c:r∈(if is=true then out++[a++b]else out):=c;split at c
 .rcases mQE.1 c with h|h
  .exact .inl h
  exact .inr (by simpa using h)
 exact .inl c
theorem Km:∀ {bs out:List Row},∀r∈(gX x cols a bs out).1,r∈out\/∃b∈bs,r=a++b
 | [],out,r,h=>.inl h
 |b::bs,out,r,h=>by
  rw[xH]at h;have d:∀r∈(vV x cols a b out).1,r∈out\/∃c∈b::bs,r=a++c:=λr i=>by
   rcases aZC r i with g|g
   .exact .inl g
   exact .inr ⟨b,mXn,g⟩
  split at h
  .exact d r h
  rcases Km r h with g| ⟨c,e,f⟩
  .exact d r g
  exact .inr ⟨c,mXm _ e,f⟩
theorem AS{x:aJ}{cols:List cK}{bs:List Row}:∀ {as_ out:List Row},∀r∈(cT x cols bs as_ out).1,r∈out\/∃a∈as_,∃b∈bs,r=a++b
 | [],out,r,h=>.inl h
 |a::as_,out,r,h=>by
  rw[xI]at h;have j:=Km (x:=x) (cols:=cols) (a:=a) (bs:=bs) (out:=out);generalize gX x cols a bs out=E at *;obtain⟨o,e⟩:=E;replace h:r∈(if e≠0 then(o,e)else cT x cols bs as_ o).1:=h;have i:∀r∈o,r∈out\/∃c∈a::as_,∃b∈bs,r=c++b:=λr k=>by
   rcases j r k with g| ⟨b,d,f⟩
   .exact .inl g
   exact .inr ⟨a,mXn,b,d,f⟩
  split at h
  .exact i r h
  rcases AS r h with g| ⟨c,d,f⟩
  .exact i r g
  exact .inr ⟨c,mXm _ d,f⟩
theorem AT{x:aJ}{cols:List cK}{bs:List Row}:∀ {as_ out:List Row},(cT x cols bs as_ out).1.length<=out.length+as_.length*bs.length
 | [],out=>by show out.length<=_;omega
 |a::as_,out=>by
  rw[xI];have h:=AQ (x:=x) (cols:=cols) (a:=a) (bs:=bs) (out:=out);generalize gX x cols a bs out=E at *;obtain⟨o,e⟩:=E;show(if e≠0 then(o,e)else cT x cols bs as_ o).1.length<=_;have m:(a::as_).length*bs.length=as_.length*bs.length+bs.length:=by rw[mQM];exact mXG _ _
  have h:o.length<=out.length+bs.length:=h;split
  .show o.length<=_;omega
  have:=AT (x:=x) (cols:=cols) (bs:=bs) (as_:=as_) (out:=o);omega
theorem VE{A:Ar}[b:bM A]{z w:Int}{i j:Nat}(g:aS z i)(f:aS w j)(c:i<=2^20)(d:j<=2^20):A .aI .gtr (A .bB .mul .i64 z w) 4000=decide (i*j>4000):=by
 have h:=g.eq;have a:=f.eq;have m:i*j<=2^20*2^20:=mJi c d;have e:z*w=((i*j:Nat):Int):=by rw[h,a];exact(mJN i j).symm
 have r:A .bB .mul .i64 z w=((i*j:Nat):Int):=by rw[b.bB];simp only[bB];rw[e,IntWalk.i64_in _ (by omega)]
 rw[r,bO A];apply decide_eq_decide.2;omega
def eXB(x:aJ)(y:Qy):Prop:=∀ {h0 h:ad} {qp:Nat} {cols:List cK} (q:oC h qp x cols y) (hx:dr x) (hc:∀c∈cols,Nm c.name) {rows:List Row} (hr:∀r∈rows,fS r) (mF:rows.length<=2^20) (hf:dp x cols=(y,0)) (hw:∀r∈rows,cols.length<=r.length) {rb:Option Addr} {rn rc:Nat} (l0:Le h0 h) (qr:cF 84 aD h0 h (.slice rb rn rc) rows)
 {k:Value->ad->Prop} (hk:∀h' b n c,Le h0 h'->Sl 84 aD h' (.slice b n c) (eJ x cols y.order rows).1->k (.tuple #[.slice b n c,.int .i64 (eJ x cols y.order rows).2]) h'),Ct 87 [.pointer (some ⟨qp,0,none⟩),.slice rb rn rc] h k
def Rp(x:aJ)(y:Qy):Prop:=∀ {h0 h:ad} {qp:Nat} {cols:List cK} (q:oC h qp x cols y) (hx:dr x) (hc:∀c∈cols,Nm c.name) {rows:List Row} (hr:∀r∈rows,fS r) (mF:rows.length<=2^20) (hf:dp x cols=(y,0)) (hw:∀r∈rows,cols.length<=r.length) {rb:Option Addr} {rn rc:Nat} (l0:Le h0 h) (qr:cF 84 aD h0 h (.slice rb rn rc) rows)
 {k:Value->ad->Prop} (hk:∀h' b n c,Le h0 h'->Sl 84 aD h' (.slice b n c) (dw x cols y.group rows).1->k (.tuple #[.slice b n c,.int .i64 (dw x cols y.group rows).2]) h'),Ct 88 [.pointer (some ⟨qp,0,none⟩),.slice rb rn rc] h k
def cJg(d:DB)(s:Int)(st:aJ):Prop:=∀ {h:ad} {pb:Nat} (q:fM h pb d s st) (hx:dr st) {n:Nat} (ej:EJ n d) (jm:n+700<2^18) (jx:-2^63<=s/\s<2^63) {k:Value->ad->Prop}
 (hk:∀h' b n c,Kp [pb] h h'->fM h' pb (gH d s st).1 s st->Sl 84 aD h' (.slice b n c) (gH d s st).2.1->k (.tuple #[.slice b n c,.int .i64 (gH d s st).2.2]) h'),Ct 29 [.pointer (some ⟨pb,0,none⟩)] h k
def cZJ(d:DB)(s:Int)(st:aJ):Prop:=∀ {h:ad} {pb:Nat} (q:fM h pb d s st) (hx:dr st) {n:Nat} (ej:EJ n d) (jm:n+700<2^18) (jx:-2^63<=s/\s<2^63) {k:Value->ad->Prop}
 (hk:∀h',Kp [pb] h h'->fM h' pb (kj d s st).1 s st->k (.tuple #[.slice none 0 0,.int .i64 (kj d s st).2.2]) h'),Ct 27 [.pointer (some ⟨pb,0,none⟩)] h k
def cJi(d:DB)(s:Int)(st:aJ):Prop:=∀ {h:ad} {pb:Nat} (q:fM h pb d s st) (hx:dr st) {n:Nat} (ej:EJ n d) (jm:n+700<2^18) (jx:-2^63<=s/\s<2^63) {k:Value->ad->Prop}
 (hk:∀h',Kp [pb] h h'->fM h' pb (jt d s st).1 s st->k (.tuple #[.slice none 0 0,.int .i64 (jt d s st).2.2]) h'),Ct 28 [.pointer (some ⟨pb,0,none⟩)] h k
structure iE(d:DB)(s:Int)(st:aJ):Prop where
 kXJ:st.kind=6->cJg d s st
 Bz:st.kind=4->cZJ d s st
 del:st.kind=5->cJi d s st
def cJf(d:DB)(s:Int)(st:aJ):Prop:=∀y,dp st (gI (fH s (cQ st) d).1 st)=(y,0)->(y.kK=true->Rp st y)/\(y.kK=false->eXB st y)
theorem iE.no(h:st.kind≠6)(a:st.kind≠4)(b:st.kind≠5):iE d s st:=⟨λe=>absurd e h,λe=>absurd e a,λe=>absurd e b⟩
theorem iE.Kq(h:st.kind=6)(a:cJg d s st):iE d s st:=⟨λ_=>a,λe=>absurd (e.symm.trans h) (by decide),λe=>absurd (e.symm.trans h) (by decide)⟩
theorem hZE{K:Nat}(q:fM h K d s st)(hx:dr st)(hj:st.join=b0)(ej:EJ n d)(jm:n+700<2^18)(jx:-2^63<=s/\s<2^63)
 (X:∀y,dp st (gI (fH s (cQ st) d).1 st)=(y,0)->(y.kK=true->Rp st y)/\(y.kK=false->eXB st y)) 
 (p:∀h' b n c,Kp [K] h h'->fM h' K (gH d s st).1 s st->Sl 84 aD h' (.slice b n c) (gH d s st).2.1->k (.tuple #[.slice b n c,.int .i64 (gH d s st).2.2]) h'):
 Ct 29 [.pointer (some ⟨K,0,none⟩)] h k:=by
 obtain⟨A,hA⟩:=Ar.ex;have j:=He d s st;generalize gH d s st=D at *;obtain⟨c,hp⟩:=q.has;have cu:A .iQ .eql st.join st.table=decide (st.join=st.table):=cS A ..;have fj:A .iQ .eql st.join ⟨#[]⟩=decide (st.join=b0):=cS A ..;have cv:A .iQ .neq st.join ⟨#[]⟩=decide (st.join≠b0):=Gb A ..;refine q.elim (λb1 n1 c1 b2 n2 c2 b3 n3 c3 b4 n4 c4 b5 n5 c5 b6 n6 c6 b7 n7 c7 b8 n8 c8 b9 n9 c9 gW jD gT g qd q1 q2 q3 q4 q5 q6=>?_);clear qd q1 q2 q3 q4 q5 q6;refine mQF hQi A Tryz.func29 ?_;cbv;intro wb m gn e1;have l1:Le h m:=by rw[e1];exact Le.set gn
 have sq:m wb=some (.cells #[.pointer (some ⟨K,0,none⟩)] 89 (0,0)):=by rw[e1];exact ae
 have nw:wb≠K:=λe=>by rw[e,hp]at gn;cases gn
 have g1:=l1 _ _ g;clear e1;cbv;repeat (first|((try rw[ai A]);(try rw[ai A]);(first|refine mQw sq ?_|refine mQw g1 ?_);cbv)|(refine⟨⟨_,rfl,rfl⟩,?_⟩;cbv))
 rw[cu];by_cases M:st.join=st.table
 .rw[if_pos M]at j;subst j;have t:=p m none 0 0 (l1.kp _) (q.mono l1) Sl.nil;clear p;rw[mQu M];cbv;exact t
 rw[if_neg M]at j;rw[mQv M];cbv;repeat (first|((try rw[ai A]);(try rw[ai A]);(first|refine mQw sq ?_|refine mQw g1 ?_);cbv)|(refine⟨⟨_,rfl,rfl⟩,?_⟩;cbv))
 intro nb E f2 e2;have l2:Le m E:=by rw[e2];exact Le.set f2
 have qn:Sl 9 dX E (.slice (some ⟨nb,0,none⟩) 2 2) [st.table,st.join]:=by
  refine Sl.fresh (s:=dX) (h:=E) (n:=nb) (xs:=[st.table,st.join]) (cap:=2) (c:=[.string st.table,.string st.join]) (by rw[e2];exact ae) ⟨mQD 2,λi x hx=>?_⟩ (by show 2<=_;omega) (mQD 2)
  match i,hx with
  |0,hx=>cases hx;rfl
  |1,hx=>cases hx;rfl
  |i+2,hx=>simp at hx
 have jZ:=l1.trans l2;have rz:=l2 _ _ sq;have g2:=l2 _ _ g1;have q2:=q.mono jZ;clear e2 g1 sq;cbv;repeat (first|((try rw[ai A]);(try rw[ai A]);(first|refine mQw rz ?_|refine mQw g2 ?_);cbv)|(refine⟨⟨_,rfl,rfl⟩,?_⟩;cbv))
 rw[fj];rw[mQu hj];have lG:cQ st=[st.table]:=by unfold cQ;rw[if_pos hj]
 have yU:A .su 1 0=1:=by rw[hA.su];rfl
 have bf:Sl 9 dX E (.slice (A .cut (some ⟨nb,0,none⟩) 0 (A .nat 2) 1) 1 2) [st.table]:=by have:=qn.sU (A:=A) (z:=A .nat 2) (i:=1) (by omega) rfl rfl;exact Sl.Vp this (by omega)
 cbv;refine⟨by decide,?_⟩;cbv;rw[yU];have Al:(cQ st).length=1:=by rw[lG];rfl
 obtain⟨NB,au⟩:∃NB,A .cut (some ⟨nb,0,none⟩) 0 (A .nat 2) 1=NB:=⟨_,rfl⟩;have aH:Sl 9 dX E (.slice NB 1 2) (cQ st):=by rw[<-au,lG];exact bf
 rw[au];clear au bf;cbv;refine PN q2 ej (by rw[Al];omega) jx rz nw aH (λh3 k3 q3=>?_);have N:=MM jx (l:=cQ st) ej;rw[Al]at N;generalize fH s (cQ st) d=H at *;obtain⟨w,e⟩:=H;replace q3:fM h3 K w s st:=q3;replace N:EJ (n+1) w:=N;replace j:D=if e≠0 then(w,[],e)else(w,jI st (gI w st) (cI w st.table).rows (LV w st)):=j
 replace X:∀y,dp st (gI w st)=(y,0)->(y.kK=true->Rp st y)/\(y.kK=false->eXB st y):=X;have V:A .aI .neq e 0=decide (e≠0):=aC A ..;have Px:Kp [K] h h3:=(jZ.kp _).trans k3;have Bf:=k3 _ _ rz (by simpa using nw);clear q2 qn aH rz g2;by_cases h0:e≠0
 .rw[if_pos h0]at j;subst j;have t:=p h3 none 0 0 Px q3 Sl.nil;clear p;cbv;rw[V,mQu h0];cbv;exact t
 rw[if_neg h0]at j;have J:=N.held st.table;have ab:gI w st=aR (cI w st.table)++[]:=by unfold gI;rw[if_pos hj]
 have KF:LV w st=[[]]:=by unfold LV;rw[if_pos hj]
 rw[ab,KF]at j;rw[ab]at X;refine q3.elim (λdb cJ dj cZ cE dh cU cD dd cN cB dc Xh VD WZ Xg VC WY Xf Rv WX UC Ny NS Xe VB WW Dp BX Dm g3 br p1 p2 p3 p4 p5 p6=>?_);clear br;cbv;rw[V,mQv h0];cbv;repeat (first|((try rw[ai A]);(try rw[ai A]);(first|refine mQw Bf ?_|refine mQw g3 ?_);cbv)|(refine⟨⟨_,rfl,rfl⟩,?_⟩;cbv))
 intro qp h4 f4 e4;have I:Le h3 h4:=by rw[e4];exact Le.set f4
 have q4:oC h4 qp st [] ⟨-1,-1,false⟩:=⟨⟨Xh,VD,WZ,Xg,VC,WY,Xf,Rv,WX,UC,Ny,NS,Xe,VB,WW,Dp,BX,Dm,none,0,0,by rw[e4];exact ae,p1.mono (I.t _),p2.mono (I.t _),p3.mono (I.t _),p4.mono (I.t _),p5.mono (I.t _),p6.mono (I.t _),Sl.nil⟩⟩;have g4:=I _ _ g3;have Ji:=I _ _ Bf;clear p1 p2 p3 p4 p5 p6 e4;cbv;repeat (first|((try rw[ai A]);(try rw[ai A]);(first|refine mQw Ji ?_|refine mQw g4 ?_);cbv)|(refine⟨⟨_,rfl,rfl⟩,?_⟩;cbv))
 refine EZ (q3.mono I) st.table (λT t1 u1 w1 t2 u2 w2 hT s1 s2=>?_);rw[<-hT]at J j X;clear hT ab;cbv;repeat (refine⟨⟨_,rfl,rfl⟩,?_⟩;cbv)
 intro Ad h5 f5 e5;have l5:Le h4 h5:=by rw[e5];exact Le.set f5
 have s5:Sl 84 aD h5 (.slice (some ⟨Ad,0,none⟩) 1 1) [[]]:=bA (s:=aD) ((congrFun e5 Ad).trans ae) ⟨_,rfl,Sl.nil⟩;have g5:=l5 _ _ g4;have As:=l5 _ _ Ji;clear e5;cbv;repeat (first|((try rw[ai A]);(try rw[ai A]);(first|refine mQw As ?_|refine mQw g5 ?_);cbv)|(refine⟨⟨_,rfl,rfl⟩,?_⟩;cbv))
 rw[cv];rw[mQv (show ¬st.join≠b0 from λg=>g hj)];obtain⟨B,ar⟩:∃B:List Row,B=[[]]:=⟨_,rfl⟩;obtain⟨C,MZ⟩:∃C:List cK,C=[]:=⟨_,rfl⟩;rw[<-ar]at s5 j;rw[<-MZ]at j X;have dD:B.length<=200:=by rw[ar];decide
 have Ww:∀b∈B,fS b/\b.length<=2^20:=λb u=>by
  rw[ar]at u;have:b=[]:=by simpa using u
  subst this;exact⟨λv hv=>(by cases hv),by decide⟩
 have cl:∀c∈C,Nm c.name:=λc Z=>by rw[MZ]at Z;cases Z
 have NC:=s5.len;cbv;have cy:=J.len;have al:∀a∈T.rows,fS a/\a.length<=2^20:=λa Y=>⟨(J.row a Y).2,by obtain⟨_,_,e,-⟩:=(J.row a Y).1;rw[e];show 2<=_;decide⟩;have aW:∀c∈aR T,Nm c.name:=λc CG=>by
  obtain⟨c0,m,E⟩:=mQW.1 CG;rw[<-E];exact ri J.nm (J.Bt c0 m)
 have hC:∀c∈aR T++C,Nm c.name:=λc Z=>by
  rcases mQE.1 Z with h|h
  .exact aW c h
  exact cl c h
 have cx:u1<=2:=by
  have m:=s1.len;rcases J.cols with E| ⟨E,-⟩
  .rw[E]at m;rw[m];decide
  rw[E]at m;rw[m];decide
 have PH:=s2.len;have aY:∀a∈T.rows,a.length=2:=λa Y=>by obtain⟨_,_,e,-⟩:=(J.row a Y).1;rw[e];rfl
 obtain⟨R,cA⟩:∃R,R=T.rows:=⟨_,rfl⟩;rw[<-cA]at cy al s2 j PH aY;have TH:(aR T).length=u1:=by show(T.S.cols.map _).length=u1;rw[mQN,<-s1.len]
 have ay:T.S.cols.map (ph T.S.name)=aR T:=rfl;obtain⟨f,bo⟩:∃f,f=aR T:=⟨_,rfl⟩;rw[<-bo]at aW hC j X TH ay;refine me J.nm.nm (λc Z=>(J.Bt c Z).nm) (s1.mono (l5.t _)) _ _ _ _ _ (λh6 ba na ca l6 S=>?_);rw[ay]at S;have du:na<=2:=by have m:=S.sl.len;rw[m,TH];exact cx
 cbv;repeat (refine⟨⟨_,rfl,rfl⟩,?_⟩;cbv)
 refine me (nm:=b0) (Gf (l:=[]) (λ_ h=>by cases h) (by decide)).nm (cols:=[]) (λc Z=>by cases Z) Sl.nil _ _ _ _ _ (λh7 bc nc cc l7 Q=>?_);rw[show([]:List cK).map (ph b0)=C from MZ.symm]at Q;have dn:nc<=2:=by have m:=Q.sl.len;rw[m,MZ];decide
 have Ft:=l6.trans l7;cbv;refine(S.mono (l7.t _)).append Q.sl (by decide) rfl (by decide) (by omega) Ft (λmz bz cz h8 dB l8 t8 k8 Qp=>?_);clear t8 k8 S Q;have q8:=(q4.mono l5).mono l8;have cp:Le h3 h8:=(I.trans l5).trans l8;refine q8.elim (λb5 n5 c5 b6 n6 c6 b7 n7 c7 b8 n8 c8 b9 n9 c9 gW jD gT cb cn cc g8 r1 r2 r3 r4 r5 r6 r7=>?_);cbv;first|rw[ai A,ai A] |rw[ai A] |skip
 refine ja g8 (by simp) (λh9 e9=>?_);have xP:bR uB h8 h9:=by rw[e9];exact bR.set g8 (by decide)
 have an:bR [84,86] h8 h9:=by rw[e9];exact bR.set g8 (by decide)
 have q9:oC h9 qp st (f++C) ⟨-1,-1,false⟩:=⟨⟨b5,n5,c5,b6,n6,c6,b7,n7,c7,b8,n8,c8,b9,n9,c9,gW,jD,gT,bz,mz,cz,by rw[e9];exact ae,r1.mono (xP.sub),r2.mono (xP.sub),r3.mono (xP.sub),r4.mono (xP.sub),r5.mono (xP.sub),r6.mono (xP.sub),Qp.sl.mono (xP.sub)⟩⟩;have cm:Le h3 h9:=λb o u=>by rw[e9,aO (λe=>by rw[e,f4]at u;cases u)];exact cp _ _ u
 have cr:Sl 84 aD h9 (.slice t2 u2 w2) R:=(s2.mono ((l5.trans l8).t _)).mono (an.sub);have cq:Sl 84 aD h9 (.slice (some ⟨Ad,0,none⟩) 1 1) B:=(s5.mono (l8.t _)).mono (an.sub);clear r1 r2 r3 r4 r5 r6 r7 e9 xP an Qp q8 g8 s1 s2;have O:jI st (f++C) R B=if(dp st (f++C)).2≠0 then([],(dp st (f++C)).2)else if R.length*B.length>4000 then([],4)else if(cT st (f++C) B R []).2≠0 then([],(cT st (f++C) B R []).2)else
  if(dp st (f++C)).1.kK=true then dw st (f++C) (dp st (f++C)).1.group (cT st (f++C) B R []).1 else eJ st (f++C) (dp st (f++C)).1.order (cT st (f++C) B R []).1:=rfl
 cbv;refine cKW q9 hx hC (λfL y yS Jr hy=>?_);have aw:Le h3 fL:=λb o u=>yS _ _ (cm _ _ u) (λhn=>by
  have:b=qp:=by simpa using hn
  rw[this,f4]at u;cases u)
 have HM:Kp [K] h fL:=Px.trans (aw.kp _);obtain⟨F,hF⟩:∃F,dp st (f++C)=F:=⟨_,rfl⟩;rw[hF]at O hy X |-;obtain⟨fy,V⟩:=F;replace O:jI st (f++C) R B=if V≠0 then([],V)else if R.length*B.length>4000 then([],4)else if(cT st (f++C) B R []).2≠0 then([],(cT st (f++C) B R []).2)else
  if fy.kK=true then dw st (f++C) fy.group (cT st (f++C) B R []).1 else eJ st (f++C) fy.order (cT st (f++C) B R []).1:=O
 have cw:A .aI .neq V 0=decide (V≠0):=aC A ..;have Hs:=q3.mono aw;cbv;rw[cw];by_cases Wo:V≠0
 .rw[if_pos Wo]at O;rw[O]at j;subst j;have t:=p fL none 0 0 HM Hs Sl.nil;clear p;rw[mQu Wo];cbv;exact t
 rw[if_neg Wo]at O;have bg:V=0:=mXc.1 Wo;subst bg;have bj:y=fy:=hy rfl;subst bj;obtain⟨aP,bd⟩:=X y rfl;rw[mQv Wo];obtain⟨dL,az⟩:=q9.has;have bx:Sl 84 aD fL (.slice t2 u2 w2) R:=cr.mono (yS.ES az (by decide));have bw:Sl 84 aD fL (.slice (some ⟨Ad,0,none⟩) 1 1) B:=cq.mono (yS.ES az (by decide));have fm:A .aI .gtr (A .bB .mul .i64 (A .nat u2) (A .nat 1)) 4000=decide (R.length*B.length>4000):=by rw[VE (A:=A) (aS.nat (A:=A) u2) (aS.nat (A:=A) 1) (by omega) (by omega)];apply decide_eq_decide.2;rw[<-PH,<-NC]
 cbv;rw[fm];by_cases hm:R.length*B.length>4000
 .rw[if_pos hm]at O;rw[O]at j;subst j;have t:=p fL none 0 0 HM Hs Sl.nil;clear p;rw[mQu hm];cbv;exact t
 rw[if_neg hm]at O;rw[mQv hm];have W:=AS (x:=st) (cols:=f++C) (bs:=B) (as_:=R) (out:=[]);have aV:=AT (x:=st) (cols:=f++C) (bs:=B) (as_:=R) (out:=[]);cbv;refine cJq Jr hx hC al Ww (by omega) (by omega) rfl rfl bx bw (λlZ cj ck ch bt oU dH Ma=>?_);generalize cT st (f++C) B R []=P at *;obtain⟨L,pe⟩:=P;replace O:jI st (f++C) R B=if pe≠0 then([],pe)else if y.kK=true then dw st (f++C) y.group L else eJ st (f++C) y.order L:=O
 replace Ma:Bx 84 aD fL lZ bt (.slice cj ck ch) L:=Ma;replace W:∀r∈L,r∈[]\/∃a∈R,∃b∈B,r=a++b:=W;replace aV:L.length<=0+R.length*B.length:=aV;have bb:∀r∈L,fS r:=λr hr v hv=>by
  rcases W r hr with h| ⟨a,Y,b,u,e⟩
  .cases h
  rw[e]at hv;rcases mQE.1 hv with h|h
  .exact(al a Y).1 v h
  exact(Ww b u).1 v h
 have aZ:∀r∈L,(f++C).length<=r.length:=λr hr=>by
  rcases W r hr with h| ⟨a,Y,b,u,e⟩
  .cases h
  rw[e,mQy,mQy,aY a Y,MZ,mQS];omega
 have ct:A .aI .neq pe 0=decide (pe≠0):=aC A ..;have bk:Kp [K] h lZ:=HM.trans (oU.kp _);have bF:=Hs.mono oU;have xF:=Jr.mono oU;cbv;rw[ct];by_cases U:pe≠0
 .rw[if_pos U]at O;rw[O]at j;subst j;have t:=p lZ none 0 0 bk bF Sl.nil;clear p;rw[mQu U];cbv;exact t
 rw[if_neg U]at O;rw[mQv U];refine xF.elim (λb5 n5 c5 b6 n6 c6 b7 n7 c7 b8 n8 c8 b9 n9 c9 gW jD gT cb cn cc aK r1 r2 r3 r4 r5 r6 r7=>?_);clear r1 r2 r3 r4 r5 r6 r7;obtain⟨yg,bn⟩:∃yg,yg=y.kK:=⟨_,rfl⟩;rw[<-bn]at aK O aP bd;cbv;first|rw[ai A,ai A] |rw[ai A] |skip
 refine mQw aK ?_;cases yg with
 |true=>rw[if_pos rfl]at O;rw[O]at j;cbv;refine aP rfl xF hx hC bb (by omega) hF aZ oU Ma.buf (λCI aj ak ZN ko ag=>?_);generalize dw st (f++C) y.group L=G at *;obtain⟨GR,ge⟩:=G;subst j;have t:=p CI aj ak ZN (HM.trans (ko.kp _)) (Hs.mono ko) ag;clear p;cbv;exact t
 |false=>rw[if_neg (by simp)]at O;rw[O]at j;cbv;refine bd rfl xF hx hC bb (by omega) hF aZ oU Ma.buf (λCI aj ak ZN ko ag=>?_);generalize eJ st (f++C) y.order L=G at *;obtain⟨GR,ge⟩:=G;subst j;have t:=p CI aj ak ZN (HM.trans (ko.kp _)) (Hs.mono ko) ag;clear p;cbv;exact t
theorem hZD{L:Nat}(q:fM h L d s st)(hx:dr st)(hj:¬st.join=b0)(ej:EJ n d)(jm:n+700<2^18)(jx:-2^63<=s/\s<2^63)
 (N:∀y,dp st (gI (fH s (cQ st) d).1 st)=(y,0)->(y.kK=true->Rp st y)/\(y.kK=false->eXB st y)) 
 (u:∀h' b n c,Kp [L] h h'->fM h' L (gH d s st).1 s st->Sl 84 aD h' (.slice b n c) (gH d s st).2.1->k (.tuple #[.slice b n c,.int .i64 (gH d s st).2.2]) h'):
 Ct 29 [.pointer (some ⟨L,0,none⟩)] h k:=by
 obtain⟨A,hA⟩:=Ar.ex;have j:=He d s st;generalize gH d s st=D at *;obtain⟨c,hp⟩:=q.has;have cv:A .iQ .eql st.join st.table=decide (st.join=st.table):=cS A ..;have fj:A .iQ .eql st.join ⟨#[]⟩=decide (st.join=b0):=cS A ..;have cw:A .iQ .neq st.join ⟨#[]⟩=decide (st.join≠b0):=Gb A ..;refine q.elim (λb1 n1 c1 b2 n2 c2 b3 n3 c3 b4 n4 c4 b5 n5 c5 b6 n6 c6 b7 n7 c7 b8 n8 c8 b9 n9 c9 gW jD gT g qd q1 q2 Y q4 q5 q6=>?_);clear qd q1 q2 Y q4 q5 q6;refine mQF hQi A Tryz.func29 ?_;cbv;intro wb m gn e1;have l1:Le h m:=by rw[e1];exact Le.set gn
 have sq:m wb=some (.cells #[.pointer (some ⟨L,0,none⟩)] 89 (0,0)):=by rw[e1];exact ae
 have nw:wb≠L:=λe=>by rw[e,hp]at gn;cases gn
 have g1:=l1 _ _ g;clear e1;cbv;repeat (first|((try rw[ai A]);(try rw[ai A]);(first|refine mQw sq ?_|refine mQw g1 ?_);cbv)|(refine⟨⟨_,rfl,rfl⟩,?_⟩;cbv))
 rw[cv];by_cases Q:st.join=st.table
 .rw[if_pos Q]at j;subst j;have w:=u m none 0 0 (l1.kp _) (q.mono l1) Sl.nil;clear u;rw[mQu Q];cbv;exact w
 rw[if_neg Q]at j;rw[mQv Q];cbv;repeat (first|((try rw[ai A]);(try rw[ai A]);(first|refine mQw sq ?_|refine mQw g1 ?_);cbv)|(refine⟨⟨_,rfl,rfl⟩,?_⟩;cbv))
 intro nb p f2 e2;have l2:Le m p:=by rw[e2];exact Le.set f2
 have qn:Sl 9 dX p (.slice (some ⟨nb,0,none⟩) 2 2) [st.table,st.join]:=by
  refine Sl.fresh (s:=dX) (h:=p) (n:=nb) (xs:=[st.table,st.join]) (cap:=2) (c:=[.string st.table,.string st.join]) (by rw[e2];exact ae) ⟨mQD 2,λi x hx=>?_⟩ (by show 2<=_;omega) (mQD 2)
  match i,hx with
  |0,hx=>cases hx;rfl
  |1,hx=>cases hx;rfl
  |i+2,hx=>simp at hx
 have jZ:=l1.trans l2;have rz:=l2 _ _ sq;have g2:=l2 _ _ g1;have q2:=q.mono jZ;clear e2 g1 sq;cbv;repeat (first|((try rw[ai A]);(try rw[ai A]);(first|refine mQw rz ?_|refine mQw g2 ?_);cbv)|(refine⟨⟨_,rfl,rfl⟩,?_⟩;cbv))
 rw[fj];rw[mQv hj];have lG:cQ st=[st.table,st.join]:=by unfold cQ;rw[if_neg hj]
 have Al:(cQ st).length=2:=by rw[lG];rfl
 have ay:Sl 9 dX p (.slice (some ⟨nb,0,none⟩) 2 2) (cQ st):=by rw[lG];exact qn
 cbv;refine PN q2 ej (by rw[Al];omega) jx rz nw ay (λh3 k3 Y=>?_);have J:=MM jx (l:=cQ st) ej;rw[Al]at J;generalize fH s (cQ st) d=H at *;obtain⟨z,e⟩:=H;replace Y:fM h3 L z s st:=Y;replace J:EJ (n+2) z:=J;replace j:D=if e≠0 then(z,[],e)else(z,jI st (gI z st) (cI z st.table).rows (LV z st)):=j
 replace N:∀y,dp st (gI z st)=(y,0)->(y.kK=true->Rp st y)/\(y.kK=false->eXB st y):=N;have X:A .aI .neq e 0=decide (e≠0):=aC A ..;have Px:Kp [L] h h3:=(jZ.kp _).trans k3;have Bf:=k3 _ _ rz (by simpa using nw);clear q2 qn ay rz g2;by_cases h0:e≠0
 .rw[if_pos h0]at j;subst j;have w:=u h3 none 0 0 Px Y Sl.nil;clear u;cbv;rw[X,mQu h0];cbv;exact w
 rw[if_neg h0]at j;have I:=J.held st.table;have Z:=J.held st.join;have ab:gI z st=aR (cI z st.table)++aR (cI z st.join):=by unfold gI;rw[if_neg hj]
 have KF:LV z st=(cI z st.join).rows:=by unfold LV;rw[if_neg hj]
 rw[ab,KF]at j;rw[ab]at N;refine Y.elim (λdh cZ dB dd cU du dc cN dn db cJ dj Xh VD WZ Xg VC WY Xf Rv WX UC Ny NS Xe VB WW Dp BX Dm g3 br p1 p2 p3 p4 p5 p6=>?_);clear br;cbv;rw[X,mQv h0];cbv;repeat (first|((try rw[ai A]);(try rw[ai A]);(first|refine mQw Bf ?_|refine mQw g3 ?_);cbv)|(refine⟨⟨_,rfl,rfl⟩,?_⟩;cbv))
 intro qp h4 f4 e4;have E:Le h3 h4:=by rw[e4];exact Le.set f4
 have q4:oC h4 qp st [] ⟨-1,-1,false⟩:=⟨⟨Xh,VD,WZ,Xg,VC,WY,Xf,Rv,WX,UC,Ny,NS,Xe,VB,WW,Dp,BX,Dm,none,0,0,by rw[e4];exact ae,p1.mono (E.t _),p2.mono (E.t _),p3.mono (E.t _),p4.mono (E.t _),p5.mono (E.t _),p6.mono (E.t _),Sl.nil⟩⟩;have g4:=E _ _ g3;have Ji:=E _ _ Bf;clear p1 p2 p3 p4 p5 p6 e4;cbv;repeat (first|((try rw[ai A]);(try rw[ai A]);(first|refine mQw Ji ?_|refine mQw g4 ?_);cbv)|(refine⟨⟨_,rfl,rfl⟩,?_⟩;cbv))
 refine EZ (Y.mono E) st.table (λT t1 u1 w1 t2 u2 w2 hT s1 s2=>?_);rw[<-hT]at I j N;clear hT ab;cbv;repeat (refine⟨⟨_,rfl,rfl⟩,?_⟩;cbv)
 intro Ad h5 f5 e5;have l5:Le h4 h5:=by rw[e5];exact Le.set f5
 have s5:Sl 84 aD h5 (.slice (some ⟨Ad,0,none⟩) 1 1) [[]]:=bA (s:=aD) ((congrFun e5 Ad).trans ae) ⟨_,rfl,Sl.nil⟩;have g5:=l5 _ _ g4;have As:=l5 _ _ Ji;clear e5;cbv;repeat (first|((try rw[ai A]);(try rw[ai A]);(first|refine mQw As ?_|refine mQw g5 ?_);cbv)|(refine⟨⟨_,rfl,rfl⟩,?_⟩;cbv))
 rw[cw];rw[mQu (show st.join≠b0 from hj)];cbv;repeat (first|((try rw[ai A]);(try rw[ai A]);(first|refine mQw As ?_|refine mQw g5 ?_);cbv)|(refine⟨⟨_,rfl,rfl⟩,?_⟩;cbv))
 refine EZ (Y.mono (E.trans l5)) st.join (λK y1 v1 z1 y2 v2 z2 hT s3 s4=>?_);rw[<-hT]at Z j N;clear hT;have ck:=Z.len;have Ww:∀b∈K.rows,fS b/\b.length<=2^20:=λb t=>⟨(Z.row b t).2,by obtain⟨_,_,e,-⟩:=(Z.row b t).1;rw[e];show 2<=_;decide⟩;have bd:∀b∈K.rows,b.length=2:=λb t=>by obtain⟨_,_,e,-⟩:=(Z.row b t).1;rw[e];rfl
 obtain⟨B,cl⟩:∃B,B=K.rows:=⟨_,rfl⟩;rw[<-cl]at ck Ww s4 j bd;have aZ:∀c∈aR K,Nm c.name:=λc CG=>by
  obtain⟨c0,m,p⟩:=mQW.1 CG;rw[<-p];exact ri Z.nm (Z.Bt c0 m)
 have cE:v1<=2:=by
  have m:=s3.len;rcases Z.cols with p| ⟨p,-⟩
  .rw[p]at m;rw[m];decide
  rw[p]at m;rw[m];decide
 have bo:(aR K).length=v1:=by show(K.S.cols.map _).length=v1;rw[mQN,<-s3.len]
 obtain⟨C,MZ⟩:∃C,C=aR K:=⟨_,rfl⟩;rw[<-MZ]at aZ j N bo;have NC:=s4.len;cbv;repeat (refine⟨⟨_,rfl,rfl⟩,?_⟩;cbv)
 have cB:=I.len;have al:∀a∈T.rows,fS a/\a.length<=2^20:=λa ha=>⟨(I.row a ha).2,by obtain⟨_,_,e,-⟩:=(I.row a ha).1;rw[e];show 2<=_;decide⟩;have aP:∀c∈aR T,Nm c.name:=λc CG=>by
  obtain⟨c0,m,p⟩:=mQW.1 CG;rw[<-p];exact ri I.nm (I.Bt c0 m)
 have hC:∀c∈aR T++C,Nm c.name:=λc hc=>by
  rcases mQE.1 hc with h|h
  .exact aP c h
  exact aZ c h
 have cy:u1<=2:=by
  have m:=s1.len;rcases I.cols with p| ⟨p,-⟩
  .rw[p]at m;rw[m];decide
  rw[p]at m;rw[m];decide
 have PH:=s2.len;have aV:∀a∈T.rows,a.length=2:=λa ha=>by obtain⟨_,_,e,-⟩:=(I.row a ha).1;rw[e];rfl
 obtain⟨R,cD⟩:∃R,R=T.rows:=⟨_,rfl⟩;rw[<-cD]at cB al s2 j PH aV;have TH:(aR T).length=u1:=by show(T.S.cols.map _).length=u1;rw[mQN,<-s1.len]
 have au:T.S.cols.map (ph T.S.name)=aR T:=rfl;obtain⟨f,bn⟩:∃f,f=aR T:=⟨_,rfl⟩;rw[<-bn]at aP hC j N TH au;refine me I.nm.nm (λc hc=>(I.Bt c hc).nm) (s1.mono (l5.t _)) _ _ _ _ _ (λh6 ba na ca l6 U=>?_);rw[au]at U;have dH:na<=2:=by have m:=U.sl.len;rw[m,TH];exact cy
 cbv;repeat (refine⟨⟨_,rfl,rfl⟩,?_⟩;cbv)
 refine me Z.nm.nm (λc hc=>(Z.Bt c hc).nm) (s3.mono (l6.t _)) _ _ _ _ _ (λh7 bc nc cc l7 S=>?_);rw[show K.S.cols.map (ph K.S.name)=C from MZ.symm]at S;have dD:nc<=2:=by have m:=S.sl.len;rw[m,MZ];show(K.S.cols.map _).length<=2;rw[mQN,<-s3.len];exact cE
 have Ft:=l6.trans l7;cbv;refine(U.mono (l7.t _)).append S.sl (by decide) rfl (by decide) (by omega) Ft (λmz bz cz h8 dL l8 t8 k8 Qp=>?_);clear t8 k8 U S;have q8:=(q4.mono l5).mono l8;have cq:Le h3 h8:=(E.trans l5).trans l8;refine q8.elim (λb5 n5 c5 b6 n6 c6 b7 n7 c7 b8 n8 c8 b9 n9 c9 gW jD gT cb cn cc g8 r1 r2 r3 r4 r5 r6 r7=>?_);cbv;first|rw[ai A,ai A] |rw[ai A] |skip
 refine ja g8 (by simp) (λh9 e9=>?_);have xP:bR uB h8 h9:=by rw[e9];exact bR.set g8 (by decide)
 have an:bR [84,86] h8 h9:=by rw[e9];exact bR.set g8 (by decide)
 have q9:oC h9 qp st (f++C) ⟨-1,-1,false⟩:=⟨⟨b5,n5,c5,b6,n6,c6,b7,n7,c7,b8,n8,c8,b9,n9,c9,gW,jD,gT,bz,mz,cz,by rw[e9];exact ae,r1.mono (xP.sub),r2.mono (xP.sub),r3.mono (xP.sub),r4.mono (xP.sub),r5.mono (xP.sub),r6.mono (xP.sub),Qp.sl.mono (xP.sub)⟩⟩;have cp:Le h3 h9:=λb o t=>by rw[e9,aO (λe=>by rw[e,f4]at t;cases t)];exact cq _ _ t
 have ct:Sl 84 aD h9 (.slice t2 u2 w2) R:=(s2.mono ((l5.trans l8).t _)).mono (an.sub);have cr:Sl 84 aD h9 (.slice y2 v2 z2) B:=(s4.mono (l8.t _)).mono (an.sub);clear r1 r2 r3 r4 r5 r6 r7 e9 xP an Qp q8 g8 s1 s2;have O:jI st (f++C) R B=if(dp st (f++C)).2≠0 then([],(dp st (f++C)).2)else if R.length*B.length>4000 then([],4)else if(cT st (f++C) B R []).2≠0 then([],(cT st (f++C) B R []).2)else
  if(dp st (f++C)).1.kK=true then dw st (f++C) (dp st (f++C)).1.group (cT st (f++C) B R []).1 else eJ st (f++C) (dp st (f++C)).1.order (cT st (f++C) B R []).1:=rfl
 cbv;refine cKW q9 hx hC (λfL y yS Jr hy=>?_);have ar:Le h3 fL:=λb o t=>yS _ _ (cp _ _ t) (λhn=>by
  have:b=qp:=by simpa using hn
  rw[this,f4]at t;cases t)
 have HM:Kp [L] h fL:=Px.trans (ar.kp _);obtain⟨F,hF⟩:∃F,dp st (f++C)=F:=⟨_,rfl⟩;rw[hF]at O hy N |-;obtain⟨fy,X⟩:=F;replace O:jI st (f++C) R B=if X≠0 then([],X)else if R.length*B.length>4000 then([],4)else if(cT st (f++C) B R []).2≠0 then([],(cT st (f++C) B R []).2)else
  if fy.kK=true then dw st (f++C) fy.group (cT st (f++C) B R []).1 else eJ st (f++C) fy.order (cT st (f++C) B R []).1:=O
 have cx:A .aI .neq X 0=decide (X≠0):=aC A ..;have Hs:=Y.mono ar;cbv;rw[cx];by_cases Wo:X≠0
 .rw[if_pos Wo]at O;rw[O]at j;subst j;have w:=u fL none 0 0 HM Hs Sl.nil;clear u;rw[mQu Wo];cbv;exact w
 rw[if_neg Wo]at O;have bf:X=0:=mXc.1 Wo;subst bf;have bg:y=fy:=hy rfl;subst bg;obtain⟨aH,bb⟩:=N y rfl;rw[mQv Wo];obtain⟨dT,aw⟩:=q9.has;have bx:Sl 84 aD fL (.slice t2 u2 w2) R:=ct.mono (yS.ES aw (by decide));have bw:Sl 84 aD fL (.slice y2 v2 z2) B:=cr.mono (yS.ES aw (by decide));have fm:A .aI .gtr (A .bB .mul .i64 (A .nat u2) (A .nat v2)) 4000=decide (R.length*B.length>4000):=by rw[VE (A:=A) (aS.nat (A:=A) u2) (aS.nat (A:=A) v2) (by omega) (by omega)];apply decide_eq_decide.2;rw[<-PH,<-NC]
 cbv;rw[fm];by_cases hm:R.length*B.length>4000
 .rw[if_pos hm]at O;rw[O]at j;subst j;have w:=u fL none 0 0 HM Hs Sl.nil;clear u;rw[mQu hm];cbv;exact w
 rw[if_neg hm]at O;rw[mQv hm];have W:=AS (x:=st) (cols:=f++C) (bs:=B) (as_:=R) (out:=[]);have aK:=AT (x:=st) (cols:=f++C) (bs:=B) (as_:=R) (out:=[]);cbv;refine cJq Jr hx hC al Ww (by omega) (by omega) rfl rfl bx bw (λlZ cj cm ch bt oU dS Ma=>?_);generalize cT st (f++C) B R []=P at *;obtain⟨M,pe⟩:=P;replace O:jI st (f++C) R B=if pe≠0 then([],pe)else if y.kK=true then dw st (f++C) y.group M else eJ st (f++C) y.order M:=O
 replace Ma:Bx 84 aD fL lZ bt (.slice cj cm ch) M:=Ma;replace W:∀r∈M,r∈[]\/∃a∈R,∃b∈B,r=a++b:=W;replace aK:M.length<=0+R.length*B.length:=aK;have aY:∀r∈M,fS r:=λr hr v hv=>by
  rcases W r hr with h| ⟨a,ha,b,t,e⟩
  .cases h
  rw[e]at hv;rcases mQE.1 hv with h|h
  .exact(al a ha).1 v h
  exact(Ww b t).1 v h
 have aW:∀r∈M,(f++C).length<=r.length:=λr hr=>by
  rcases W r hr with h| ⟨a,ha,b,t,e⟩
  .cases h
  rw[e,mQy,mQy,aV a ha,bd b t];omega
 have cu:A .aI .neq pe 0=decide (pe≠0):=aC A ..;have bj:Kp [L] h lZ:=HM.trans (oU.kp _);have bF:=Hs.mono oU;have xF:=Jr.mono oU;cbv;rw[cu];by_cases V:pe≠0
 .rw[if_pos V]at O;rw[O]at j;subst j;have w:=u lZ none 0 0 bj bF Sl.nil;clear u;rw[mQu V];cbv;exact w
 rw[if_neg V]at O;rw[mQv V];refine xF.elim (λb5 n5 c5 b6 n6 c6 b7 n7 c7 b8 n8 c8 b9 n9 c9 gW jD gT cb cn cc az r1 r2 r3 r4 r5 r6 r7=>?_);clear r1 r2 r3 r4 r5 r6 r7;obtain⟨yg,bk⟩:∃yg,yg=y.kK:=⟨_,rfl⟩;rw[<-bk]at az O aH bb;cbv;first|rw[ai A,ai A] |rw[ai A] |skip
 refine mQw az ?_;cases yg with
 |true=>rw[if_pos rfl]at O;rw[O]at j;cbv;refine aH rfl xF hx hC aY (by omega) hF aW oU Ma.buf (λCI aj ak ZN ko ag=>?_);generalize dw st (f++C) y.group M=G at *;obtain⟨GR,ge⟩:=G;subst j;have w:=u CI aj ak ZN (HM.trans (ko.kp _)) (Hs.mono ko) ag;clear u;cbv;exact w
 |false=>rw[if_neg (by simp)]at O;rw[O]at j;cbv;refine bb rfl xF hx hC aY (by omega) hF aW oU Ma.buf (λCI aj ak ZN ko ag=>?_);generalize eJ st (f++C) y.order M=G at *;obtain⟨GR,ge⟩:=G;subst j;have w:=u CI aj ak ZN (HM.trans (ko.kp _)) (Hs.mono ko) ag;clear u;cbv;exact w
end Go.S
