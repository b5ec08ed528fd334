import Derived.Test.YtifjeceolckgaaaGreatQE
set_option linter.all false
set_option maxRecDepth 100000
set_option maxHeartbeats 8000000
namespace Go.S
open Go.Sx Go.Proofs
theorem LB:Tryz.prog.underlying 94=some (.map 3 92):=by kernel_rfl
theorem bJh(w:World):(zeroValue 92).run Tryz.prog w=.ok (.nilFunc) w:=by
 have h:((Tryz.prog.info? 92).bind (·.zero))=some (.nilFunc):=by kernel_rfl
 cases a:Tryz.prog.info? 92 with
 |none=>rw[a]at h;cases h
 |some i=>rw[a]at h;simp at h;simp[zeroValue,typeInfo,a,h]
theorem ZT(d:DB):dy d (-1)=(d,1):=by unfold dy jh;rw[if_pos (by decide)]
abbrev bJf(h:ad)(D:DB×List Row×Int)(k:Value->ad->Prop):Prop:=
 ∀h' x1 m1 d1 x2 m2 d2 x3 m3 d3 x4 m4 d4 b n c,Le h h'->ik h' (.agg #[.slice x1 m1 d1,.slice x2 m2 d2,.slice x3 m3 d3,.slice x4 m4 d4]) D.1->Sl 84 aD h' (.slice b n c) D.2.1->k (.tuple #[.agg #[.slice x1 m1 d1,.slice x2 m2 d2,.slice x3 m3 d3,.slice x4 m4 d4],.slice b n c,.int .i64 D.2.2]) h'
theorem wX(d:DB)(r:DB×Int):(cP d r).2.1=[]:=by unfold cP;split<;>rfl
theorem MC(d:DB)(s:Int)(x:aJ):(nO d s x).2.1=[]:=by
 unfold nO;generalize aL d ⟨s,x.table,true⟩=H;obtain⟨a,e⟩:=H;show(if e≠0 then(a,[],e)else cP a _:DB×List Row×Int).2.1=[];split
 .rfl
 exact wX ..
theorem Lz(d:DB)(s:Int)(x:aJ):(kj d s x).2.1=[]:=by
 unfold kj;generalize aL d ⟨s,x.table,true⟩=H;obtain⟨a,e⟩:=H;show(if e≠0 then(a,[],e)else if(cI a x.table).S.only=true then(a,[],19)else cP a _:DB×List Row×Int).2.1=[];split
 .rfl
 split
 .rfl
 exact wX ..
theorem Nl(d:DB)(s:Int)(x:aJ):(jt d s x).2.1=[]:=by
 unfold jt;generalize aL d ⟨s,x.table,true⟩=H;obtain⟨a,e⟩:=H;show(if e≠0 then(a,[],e)else if(cI a x.table).S.only=true then(a,[],19)else cP a _:DB×List Row×Int).2.1=[];split
 .rfl
 split
 .rfl
 exact wX ..
theorem iJL{h:ad}{d:DB}{s:Int}{st:aJ}{v:Value}(qd:ik h v d)(hx:dr st){n0:Nat}(ej:EJ n0 d)(jm:n0+700<2^18)(jx:-2^63<=s/\s<2^63)(Gm:iE d s st){w:Value}(qs:aQG h w st){k:Value->ad->Prop}(a:bJf h (iD d s st) k):
 Ct 8 [v,.int .i64 s,w] h k:=by
 obtain⟨A,hA⟩:=Ar.ex;have sm:=ej.sj.Ko.small (by omega:n0<2^18);have f7:A .aI .eql st.kind 7=decide (st.kind=7):=aA A ..;have f9:A .aI .eql st.kind 9=decide (st.kind=9):=aA A ..;have an:A .aI .eql st.kind 10=decide (st.kind=10):=aA A ..;have ar:A .aI .eql st.kind 11=decide (st.kind=11):=aA A ..;obtain⟨a1,i1,j1,a2,i2,j2,a3,i3,j3,a4,i4,j4,rfl⟩:=qd.form;obtain⟨b5,n5,c5,b6,n6,c6,b7,n7,c7,W,n8,X,b9,n9,c9,gW,jD,gT,rfl,p1,p2,p3,p4,p5,p6⟩:=qs.out;refine mQF T8 A Tryz.func8 ?_;cbv;rw[f7];by_cases Q:st.kind=7
 .have hX:iD d s st=((dy d s).1,[],(dy d s).2):=by unfold iD;rw[if_pos Q]
  rw[hX]at a;obtain⟨D,H⟩:∃D,dy d s=D:=⟨_,rfl⟩;rw[H]at a;obtain⟨f,j⟩:=D;replace a:bJf h (f,[],j) k:=a;rw[mQu Q];cbv;refine uX qd s sm H (λT x1 m1 d1 x2 m2 d2 x3 m3 d3 x4 m4 d4 l N=>?_);have g:=a T x1 m1 d1 x2 m2 d2 x3 m3 d3 x4 m4 d4 none 0 0 l N Sl.nil;clear a;cbv;exact g
 rw[mQv Q];cbv;rw[f9];by_cases Z:st.kind=9
 .have hX:iD d s st=((dC d s).1,[],(dC d s).2):=by unfold iD;rw[if_neg Q];rw[if_pos Z]
  rw[hX]at a;obtain⟨D,H⟩:∃D,dC d s=D:=⟨_,rfl⟩;rw[H]at a;obtain⟨f,j⟩:=D;replace a:bJf h (f,[],j) k:=a;rw[mQu Z];cbv;refine OO qd ej.sj.Ko (by omega) s H (λT x1 m1 d1 x2 m2 d2 x3 m3 d3 x4 m4 d4 l N=>?_);have g:=a T x1 m1 d1 x2 m2 d2 x3 m3 d3 x4 m4 d4 none 0 0 l N Sl.nil;clear a;cbv;exact g
 rw[mQv Z];cbv;rw[an];by_cases O:st.kind=10
 .have hX:iD d s st=((jT d s st.name).1,[],(jT d s st.name).2):=by unfold iD;rw[if_neg Q,if_neg Z];rw[if_pos O]
  rw[hX]at a;obtain⟨D,H⟩:∃D,jT d s st.name=D:=⟨_,rfl⟩;rw[H]at a;obtain⟨f,j⟩:=D;replace a:bJf h (f,[],j) k:=a;rw[mQu O];cbv;refine bKh qd s st.name H (λT x1 m1 d1 x2 m2 d2 x3 m3 d3 x4 m4 d4 l N=>?_);have g:=a T x1 m1 d1 x2 m2 d2 x3 m3 d3 x4 m4 d4 none 0 0 l N Sl.nil;clear a;cbv;exact g
 rw[mQv O];cbv;rw[ar];by_cases V:st.kind=11
 .have hX:iD d s st=((kg d s st.name).1,[],(kg d s st.name).2):=by unfold iD;rw[if_neg Q,if_neg Z,if_neg O];rw[if_pos V]
  rw[hX]at a;obtain⟨D,H⟩:∃D,kg d s st.name=D:=⟨_,rfl⟩;rw[H]at a;obtain⟨f,j⟩:=D;replace a:bJf h (f,[],j) k:=a;rw[mQu V];cbv;refine cZv qd ej.sj.Ko s st.name H (λT x1 m1 d1 x2 m2 d2 x3 m3 d3 x4 m4 d4 l N=>?_);have g:=a T x1 m1 d1 x2 m2 d2 x3 m3 d3 x4 m4 d4 none 0 0 l N Sl.nil;clear a;cbv;exact g
 rw[mQv V];cbv;skip;refine uX qd (-1) sm (ZT d) (λT u I B x J C y L E z M F l N=>?_);cbv;intro n h2 f2 e2;have l2:Le T h2:=by rw[e2];exact Le.set f2
 have q2:fM h2 n d s st:=⟨⟨u,I,B,x,J,C,y,L,E,z,M,F,b5,n5,c5,b6,n6,c6,b7,n7,c7,W,n8,X,b9,n9,c9,gW,jD,gT,by rw[e2];exact ae,N.mono l2,p1.mono ((l.trans l2).t _),p2.mono ((l.trans l2).t _),p3.mono ((l.trans l2).t _),p4.mono ((l.trans l2).t _),p5.mono ((l.trans l2).t _),p6.mono ((l.trans l2).t _)⟩⟩;have aw:h n=none:=by
  cases hh:h n with
  |none=>rfl
  |some o=>rw[l _ _ hh]at f2;cases f2
 have jZ:=l.trans l2;clear p1 p2 p3 p4 p5 p6 e2;cbv;intro mb h3 f3 e3;have l3:Le h2 h3:=by rw[e3];exact Le.set f3
 have ag:Mp h3 mb (.int .i64) []:=Mp.new (by rw[e3];exact ae);have ET:Le h2 h3:=l3;clear e3;cbv;refine vz LB u3 ag (key:=.int .i64 3) rfl (λp c=>by cases c) (λh4 Yu k4 t4=>?_);cbv;refine vz LB u3 Yu (key:=.int .i64 4) rfl (λp c=>?_) (λh5 aj k5 t5=>?_)
 .simp at c;subst c;simp
 cbv;refine vz LB u3 aj (key:=.int .i64 5) rfl (λp c=>?_) (λh6 ak k6 t6=>?_)
 .simp at c;rcases c with c|c<;>(subst c;simp)
 cbv;refine vz LB u3 ak (key:=.int .i64 6) rfl (λp c=>?_) (λh7 G k7 t7=>?_)
 .simp at c;rcases c with c|c|c<;>(subst c;simp)
 have ab:Le h2 h7:=λb o hb=>by
  have ch:b∉[mb]:=λhn=>by
   have:b=mb:=by simpa using hn
   rw[this,f3]at hb;cases hb
  exact k7 _ _ (k6 _ _ (k5 _ _ (k4 _ _ (ET _ _ hb) ch) ch) ch) ch
 have q7:=q2.mono ab;have al:=jZ.trans ab;clear k4 k5 k6 k7 t4 t5 t6 t7 ag Yu aj ak;have Y:∀i,Kp [n] h7 i->Le h i:=λi U b o hb=>U _ _ (al _ _ hb) (λhn=>by
  have:b=n:=by simpa using hn
  rw[this,aw]at hb;cases hb)
 by_cases K:st.kind=3
 .have hX:iD d s st=nO d s st:=by unfold iD;rw[if_neg Q,if_neg Z,if_neg O,if_neg V,if_pos K]
  rw[hX]at a;have t:(nO d s st).2.1=[]:=MC ..;cbv;refine BM LB u3 G (key:=.int .i64 st.kind) (v:=.func (.func 26) #[.pointer (some ⟨n,0,none⟩)] #[]) rfl (by rw[K];simp) ?_;have zd:A .not true=false:=by rw[hA.not];rfl
  cbv;rw[zd];cbv;refine cQd q7 hx ej.sj (by omega) jx (λi U q=>?_);generalize nO d s st=D at *;obtain⟨f,r,j⟩:=D;replace q:fM i n f s st:=q;replace a:bJf h (f,r,j) k:=a;replace t:r=[]:=t;subst t;refine q.elim (λu I B x J C y L E z M F b5 n5 c5 b6 n6 c6 b7 n7 c7 W n8 X b9 n9 c9 gW jD gT m SB _ _ _ _ _ _=>?_);have g:=a i u I B x J C y L E z M F none 0 0 (Y _ U) SB Sl.nil;clear a Y;cbv;first|(refine mQw m ?_;cbv)|(rw[ai A,ai A];refine mQw m ?_;cbv)|(rw[ai A];refine mQw m ?_;cbv)
  exact g
 by_cases R:st.kind=4
 .have hX:iD d s st=kj d s st:=by unfold iD;rw[if_neg Q,if_neg Z,if_neg O,if_neg V,if_neg K,if_pos R]
  rw[hX]at a;have t:(kj d s st).2.1=[]:=Lz ..;cbv;refine BM LB u3 G (key:=.int .i64 st.kind) (v:=.func (.func 27) #[.pointer (some ⟨n,0,none⟩)] #[]) rfl (by rw[R];simp) ?_;have zd:A .not true=false:=by rw[hA.not];rfl
  cbv;rw[zd];cbv;refine Gm.Bz R q7 hx ej (by omega) jx (λi U q=>?_);generalize kj d s st=D at *;obtain⟨f,r,j⟩:=D;replace q:fM i n f s st:=q;replace a:bJf h (f,r,j) k:=a;replace t:r=[]:=t;subst t;refine q.elim (λu I B x J C y L E z M F b5 n5 c5 b6 n6 c6 b7 n7 c7 W n8 X b9 n9 c9 gW jD gT m SB _ _ _ _ _ _=>?_);have g:=a i u I B x J C y L E z M F none 0 0 (Y _ U) SB Sl.nil;clear a Y;cbv;first|(refine mQw m ?_;cbv)|(rw[ai A,ai A];refine mQw m ?_;cbv)|(rw[ai A];refine mQw m ?_;cbv)
  exact g
 by_cases S:st.kind=5
 .have hX:iD d s st=jt d s st:=by unfold iD;rw[if_neg Q,if_neg Z,if_neg O,if_neg V,if_neg K,if_neg R,if_pos S]
  rw[hX]at a;have t:(jt d s st).2.1=[]:=Nl ..;cbv;refine BM LB u3 G (key:=.int .i64 st.kind) (v:=.func (.func 28) #[.pointer (some ⟨n,0,none⟩)] #[]) rfl (by rw[S];simp) ?_;have zd:A .not true=false:=by rw[hA.not];rfl
  cbv;rw[zd];cbv;refine Gm.del S q7 hx ej (by omega) jx (λi U q=>?_);generalize jt d s st=D at *;obtain⟨f,r,j⟩:=D;replace q:fM i n f s st:=q;replace a:bJf h (f,r,j) k:=a;replace t:r=[]:=t;subst t;refine q.elim (λu I B x J C y L E z M F b5 n5 c5 b6 n6 c6 b7 n7 c7 W n8 X b9 n9 c9 gW jD gT m SB _ _ _ _ _ _=>?_);have g:=a i u I B x J C y L E z M F none 0 0 (Y _ U) SB Sl.nil;clear a Y;cbv;first|(refine mQw m ?_;cbv)|(rw[ai A,ai A];refine mQw m ?_;cbv)|(rw[ai A];refine mQw m ?_;cbv)
  exact g
 by_cases P:st.kind=6
 .have hX:iD d s st=gH d s st:=by unfold iD;rw[if_neg Q,if_neg Z,if_neg O,if_neg V,if_neg K,if_neg R,if_neg S,if_pos P]
  rw[hX]at a;have t:True:=trivial;cbv;refine BM LB u3 G (key:=.int .i64 st.kind) (v:=.func (.func 29) #[.pointer (some ⟨n,0,none⟩)] #[]) rfl (by rw[P];simp) ?_;have zd:A .not true=false:=by rw[hA.not];rfl
  cbv;rw[zd];cbv;refine Gm.kXJ P q7 hx ej (by omega) jx (λi W n8 X U q s8=>?_);generalize gH d s st=D at *;obtain⟨f,r,j⟩:=D;replace q:fM i n f s st:=q;replace a:bJf h (f,r,j) k:=a;replace s8:Sl 84 aD i (.slice W n8 X) r:=s8;skip;refine q.elim (λu I B x J C y L E z M F b5 n5 c5 b6 n6 c6 b7 n7 c7 y8 u8 v8 b9 n9 c9 gW jD gT m SB _ _ _ _ _ _=>?_);have g:=a i u I B x J C y L E z M F W n8 X (Y _ U) SB s8;clear a Y;cbv;first|(refine mQw m ?_;cbv)|(rw[ai A,ai A];refine mQw m ?_;cbv)|(rw[ai A];refine mQw m ?_;cbv)
  exact g
 have hX:iD d s st=(d,[],1):=by unfold iD;rw[if_neg Q,if_neg Z,if_neg O,if_neg V,if_neg K,if_neg R,if_neg S,if_neg P]
 rw[hX]at a;cbv;refine XW LB u3 bJh G (key:=.int .i64 st.kind) rfl (λp c e=>?_) ?_
 .simp at c;rcases c with c|c|c|c<;>(subst c;simp at e;omega)
 refine q7.elim (λu I B x J C y L E z M F b5 n5 c5 b6 n6 c6 b7 n7 c7 W n8 X b9 n9 c9 gW jD gT g7 au _ _ _ _ _ _=>?_);have g:=a h7 u I B x J C y L E z M F none 0 0 al au Sl.nil;clear a Y;cbv;have fn:A .not false=true:=by rw[hA.not];rfl
 rw[fn];cbv;first|(refine mQw g7 ?_;cbv)|(rw[ai A,ai A];refine mQw g7 ?_;cbv)|(rw[ai A];refine mQw g7 ?_;cbv)
 exact g
end Go.S
