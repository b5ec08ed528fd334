import Derived.Test.YthnbpiejemlbeaaGreatBB
import Derived.Test.YthnbpiejemlbeaaGreatGB
set_option linter.all false
set_option maxRecDepth 100000
set_option maxHeartbeats 8000000
namespace Go.S
open Go.Sx Go.Proofs
variable {a:Addr}{only:Bool}{nm:ByteArray}{d:DB}{fn:Func}{f:FuncId}{key:Int}{cols:List iK}{c e1 m n p r:Nat}{b y:Option Addr}{s:St}{k:Value->ab->Prop}{L:Value×Value×Value×Value}{w:World}{h h':ab}
structure Lg where
 D:Dk
 s:Nat
 n:Nat
def oJ(s n:Nat):Bs:=bR (s:Int)++bR (n:Int)
def Qa(g:Lg)(l:Bs):Int×Dk:=cJ (bg (bO g.D g.s (bR (l.length:Int)++l)).2 0 (oJ (g.s+8+l.length) (g.n+1))).2
def aT(g:Lg)(l:Bs):Int×Lg:=
 if l.length>65536 then(5,g)
 else if(l.length:Int)+8>((g.D.now.length:Int)-1)*64-g.s then(14,g)
 else if(bO g.D g.s (bR (l.length:Int)++l)).1≠0 then((bO g.D g.s (bR (l.length:Int)++l)).1,{ g with D:=(bO g.D g.s (bR (l.length:Int)++l)).2 })
 else if(bg (bO g.D g.s (bR (l.length:Int)++l)).2 0 (oJ (g.s+8+l.length) (g.n+1))).1≠0 then((bg (bO g.D g.s (bR (l.length:Int)++l)).2 0 (oJ (g.s+8+l.length) (g.n+1))).1,{ g with D:=(bg (bO g.D g.s (bR (l.length:Int)++l)).2 0 (oJ (g.s+8+l.length) (g.n+1))).2 })
 else if(Qa g l).1≠0 then((Qa g l).1,{ g with D:=(Qa g l).2 })
 else(0,⟨(Qa g l).2,g.s+8+l.length,g.n+1⟩)
theorem bJf{l:Nat}{s n:Int}(q:EX h l p s n)(a:k (.int .i64 n) h):Ct 251 [.pointer (some ⟨l,0,none⟩)] h k:=by refine an dXL Tryz.func251 λA b=>?_;cbv;rw[al A];refine FL (bY q.out rfl) ?_;cbv;exact a
theorem Bj:∀(n:Nat) (D:Dk) (pg:Nat) (b:Bs),b.length<=n->(cS D pg b).2.ws.length<=D.ws.length+b.length:=λn=>by
 induction n with
 |zero=>
  intro D pg b a;have:b=[]:=List.eq_nil_of_length_eq_zero (by omega);rw[cS,dif_pos this];unfold cJ;split
  .exact Nat.le_add_right _ _
  split
  .rw[BB];exact Nat.le_add_right _ _
  exact Nat.zero_le _
 |succ n i=>
  intro D pg b a;rw[cS];split
  .unfold cJ;split
   .exact Nat.le_add_right _ _
   split
   .rw[BB];exact Nat.le_add_right _ _
   exact Nat.zero_le _
  rename_i F;have k:=List.length_pos_iff.2 F;have c:=xZ D pg (b.take 64);split
  .omega
  have h:=i (bg D pg (b.take 64)).2 (pg+1) (b.drop 64) (by rw[List.length_drop];omega);rw[List.length_drop]at h;omega
theorem Eo(D:Dk)(s:Nat)(b:Bs):(bO D s b).2.ws.length<=D.ws.length+(b.length+64):=by
 unfold bO;split
 .have:=Bj _ D (1+s / 64) b (Nat.le_refl _);omega
 split
 .exact Nat.le_add_right _ _
 have:=Bj _ D (1+s / 64) ((cH D ((1+s / 64:Nat):Int)).take (s % 64)++b) (Nat.le_refl _);have h:s % 64<64:=Nat.mod_lt _ (by decide);rw[List.length_append,List.length_take]at this;omega
abbrev bJP:List Nat:=[294,94,211,213]
theorem _root_.Go.Sx.dI.sup{ex g:List Nat}(x:dI ex h h')(s:∀t∈ex,t∈g):dI g h h':=λb o a F=>x b o a (λc e fr d m=>F c e fr d (s e m))
theorem NO{j:Nat}{g:Lg}(q:lY h p g.D)(t:EX h j p (g.s:Int) (g.n:Int)){l:Bs}(qb:Sl 5 bL h (.slice b m c) l)(hs:g.s<=2^29)(hn:g.n<=2^29)(hm:m<=2^28)(hw:g.D.ws.length<=2^28)
 (a:∀h',dI bJP h h'->lY h' p (aT g l).2.D->EX h' j p ((aT g l).2.s:Int) ((aT g l).2.n:Int)->k (.int .i64 (aT g l).1) h'):
 Ct 129 [.pointer (some ⟨j,0,none⟩),.slice b m c] h k:=by
 obtain⟨A,r⟩:=Ar.ex;obtain⟨D,s,n⟩:=g;have q:lY h p D:=q;have t:EX h j p (s:Int) (n:Int):=t;have hs:s<=2^29:=hs;have hn:n<=2^29:=hn;have hw:D.ws.length<=2^28:=hw;have W:=qb.len;have Ur:=q.max;have kI:A .ay .neq 0 0=false:=by rw[av A];rfl
 have I:A .nat m=(l.length:Int):=by rw[r.nat,W];rfl
 have f1:A .ay .gtr (A .nat m) 65536=decide (l.length>65536):=by rw[I,aX A];exact decide_eq_decide.2 (by omega)
 have w:∀z:Int,-9223372036854775808<=z/\z<=9223372036854775807->IntKind.i64.wrap z=z:=IntWalk.i64_in;have G:∀H,aK H D.now.length->A .ay .gtr (A .aC .add .i64 (A .nat m) 8) (A .aC .sub .i64 (A .aC .mul .i64 (A .aC .sub .i64 H 1) 64) (s:Int))=decide ((l.length:Int)+8>((D.now.length:Int)-1)*64-s):=λH X=>by
  have e1:A .aC .add .i64 (A .nat m) 8=(l.length:Int)+8:=by rw[I,r.aC];exact w _ (by omega)
  have i:A .aC .sub .i64 H 1=(D.now.length:Int)-1:=by rw[X.eq,r.aC];exact w _ (by omega)
  have E:A .aC .mul .i64 ((D.now.length:Int)-1) 64=((D.now.length:Int)-1)*64:=by rw[r.aC];exact w _ (by omega)
  have e4:A .aC .sub .i64 (((D.now.length:Int)-1)*64) (s:Int)=((D.now.length:Int)-1)*64-s:=by rw[r.aC];exact w _ (by omega)
  rw[e1,i,E,e4,aX A]
 have Zr:A .aC .add .i64 (A .aC .add .i64 (s:Int) 8) (A .nat m)=((s+8+l.length:Nat):Int):=by
  have e1:A .aC .add .i64 (s:Int) 8=(s:Int)+8:=by rw[r.aC];exact w _ (by omega)
  rw[e1,I,r.aC];show IntKind.i64.wrap ((s:Int)+8+(l.length:Int))=_;rw[w _ (by omega)];omega
 have Z:A .aC .add .i64 (n:Int) 1=((n+1:Nat):Int):=by rw[r.aC];show IntKind.i64.wrap ((n:Int)+1)=_;rw[w _ (by omega)];omega
 have v:IntKind.i64.wrap ((n:Int)+1)=((n+1:Nat):Int):=by rw[w _ (by omega)];omega
 have P:aT ⟨D,s,n⟩ l=if l.length>65536 then(5,⟨D,s,n⟩)
  else if(l.length:Int)+8>((D.now.length:Int)-1)*64-s then(14,⟨D,s,n⟩)
  else if(bO D s (bR (l.length:Int)++l)).1≠0 then((bO D s (bR (l.length:Int)++l)).1,⟨(bO D s (bR (l.length:Int)++l)).2,s,n⟩)
  else if(bg (bO D s (bR (l.length:Int)++l)).2 0 (oJ (s+8+l.length) (n+1))).1≠0 then((bg (bO D s (bR (l.length:Int)++l)).2 0 (oJ (s+8+l.length) (n+1))).1,⟨(bg (bO D s (bR (l.length:Int)++l)).2 0 (oJ (s+8+l.length) (n+1))).2,s,n⟩)
  else if(cJ (bg (bO D s (bR (l.length:Int)++l)).2 0 (oJ (s+8+l.length) (n+1))).2).1≠0 then((cJ (bg (bO D s (bR (l.length:Int)++l)).2 0 (oJ (s+8+l.length) (n+1))).2).1,⟨(cJ (bg (bO D s (bR (l.length:Int)++l)).2 0 (oJ (s+8+l.length) (n+1))).2).2,s,n⟩)
  else(0,⟨(cJ (bg (bO D s (bR (l.length:Int)++l)).2 0 (oJ (s+8+l.length) (n+1))).2).2,s+8+l.length,n+1⟩):=rfl
 have Q:=Eo D s (bR (l.length:Int)++l);rw[List.length_append,bW]at Q;obtain⟨sz,gE⟩:∃sz:Int,sz=(s:Int):=⟨_,rfl⟩;obtain⟨Y,ao⟩:∃Y:Int,Y=(n:Int):=⟨_,rfl⟩;have M:=t;rw[<-gE]at G Zr t P;rw[<-ao]at Z v t;obtain⟨lz,ar⟩:∃lz:Int,lz=(l.length:Int):=⟨_,rfl⟩;rw[<-ar]at I P Q G;obtain⟨s2,DF⟩:∃s2:Int,s2=((s+8+l.length:Nat):Int):=⟨_,rfl⟩;rw[<-DF]at Zr;obtain⟨e,dZ⟩:∃e:Int,e=((n+1:Nat):Int):=⟨_,rfl⟩;rw[<-dZ]at Z v;have aF:IntKind.i64.wrap (Y+1)=e:=v;have zY:oJ (s+8+l.length) (n+1)=bR s2++bR e:=by unfold oJ;rw[DF,dZ]
 rw[zY]at P;clear zY;refine bB dJI A Tryz.func129 ?_;cbv;rw[al A];refine ak t.out ?_;cbv;refine Wu q (λH X=>?_);have G:=G H X;cbv;rw[al A];refine FL (bY t.out rfl) ?_;cbv;rw[f1];by_cases y:l.length>65536
 .rw[if_pos y]at P;rw[P]at a;have:=a h (dI.refl _ _) q M;rw[decide_eq_true y];clear a P;cbv;exact this
 rw[if_neg y]at P;rw[decide_eq_false y];cbv;rw[G];by_cases N:lz+8>((D.now.length:Int)-1)*64-sz
 .rw[if_pos N]at P;rw[P]at a;have:=a h (dI.refl _ _) q M;rw[decide_eq_true N];clear a P;cbv;exact this
 rw[if_neg N]at P;rw[decide_eq_false N];clear G y N;cbv;rw[I];refine LO (e1:=5) (l:=[]) Sl.nil (by omega) lz (λh1 b1 m1 y l1 q1=>?_);rw[List.nil_append]at q1;cbv;intro vg h2 YU i;have l2:Le h1 h2:=by rw[i];exact Le.set YU
 have g2:=(congrFun i vg).trans ae;clear i;have ha:([bR lz,l]:List Bs).flatten=bR lz++l:=by simp
 have Zl:(bR lz++l).length<=2^38:=by rw[List.length_append,bW];omega
 cbv;refine xH (L:=[bR lz,l]) (mM (s:=Ah) rfl g2 (dE (q1.sl.mono (l2.t _))) (dE (qb.mono ((l1.trans l2).t _)))) (by rw[ha];exact Zl) (λh3 b3 m3 B l3 q3=>?_);rw[ha]at q3;have MU:=q3.sl.len;rw[List.length_append,bW]at MU;have nP:=(l1.trans l2).trans l3;have Jy:=t.lt (nP.t _);cbv;refine aKc (q.le nP) ⟨gE⟩ Jy q3.sl (by omega) (by omega) (by omega) (λh4 x4 d4=>?_);have QS:dI dT h h4:=(nP.x _).trans x4;have AM:=Jy.lt (x4.t (by decide));have aH:=qb.mono (QS.t (by decide));clear q1 q3 Jy;generalize bO D s (bR lz++l)=R1 at *;obtain⟨e1,f⟩:=R1;have Q:f.ws.length<=D.ws.length+(8+l.length+64):=Q;have d4:lY h4 p f:=d4;have f4:A .ay .neq e1 0=decide (e1≠0):=av A ..;by_cases B:e1≠0
 .have P:aT ⟨D,s,n⟩ l=(e1,⟨f,s,n⟩):=by rw[P];exact if_pos B
  rw[P]at a;have:=a h4 (QS.sup (by decide)) d4 (M.lt (QS.t (by decide)));rw[decide_eq_true B]at f4;clear a P;cbv;rw[f4];cbv;exact this
 have P:aT ⟨D,s,n⟩ l=if(bg f 0 (bR s2++bR e)).1≠0 then((bg f 0 (bR s2++bR e)).1,⟨(bg f 0 (bR s2++bR e)).2,s,n⟩)
  else if(cJ (bg f 0 (bR s2++bR e)).2).1≠0 then((cJ (bg f 0 (bR s2++bR e)).2).1,⟨(cJ (bg f 0 (bR s2++bR e)).2).2,s,n⟩)
  else(0,⟨(cJ (bg f 0 (bR s2++bR e)).2).2,s+8+l.length,n+1⟩):=by rw[P];exact if_neg B
 rw[decide_eq_false B]at f4;clear B;cbv;rw[f4];cbv;rw[al A];refine ak AM.out ?_;cbv;rw[Zr];refine LO (e1:=5) (l:=[]) Sl.nil (by omega) s2 (λh5 b5 m5 C l5 q5=>?_);rw[List.nil_append]at q5;have JG:=q5.sl.len;rw[bW]at JG;have FA:=AM.lt (l5.t _);cbv;refine bJf FA ?_;cbv;rw[Z];refine LO q5.sl (by omega) e (λh6 b6 m6 c6 l6 q6=>?_);have d6:=d4.le (l5.trans l6);have ag:=FA.lt (l6.t _);have au:=QS.trans ((l5.trans l6).x _);cbv;refine VY d6 0 q6.sl (by omega) (λh7 x7 d7=>?_);have V:=ag.lt (x7.t (by decide));have U:=au.trans x7;clear q5 q6;generalize bg f 0 (bR s2++bR e)=R2 at *;obtain⟨i,u⟩:=R2;have d7:lY h7 p u:=d7;have f5:A .ay .neq i 0=decide (i≠0):=av A ..;by_cases O:i≠0
 .have P:aT ⟨D,s,n⟩ l=(i,⟨u,s,n⟩):=by rw[P];exact if_pos O
  rw[P]at a;have:=a h7 (U.sup (by decide)) d7 (M.lt (U.t (by decide)));rw[decide_eq_true O]at f5;clear a P;cbv;rw[f5];cbv;exact this
 have P:aT ⟨D,s,n⟩ l=if(cJ u).1≠0 then((cJ u).1,⟨(cJ u).2,s,n⟩)
  else(0,⟨(cJ u).2,s+8+l.length,n+1⟩):=by rw[P];exact if_neg O
 rw[decide_eq_false O]at f5;clear O;cbv;rw[f5];cbv;rw[al A];refine ak V.out ?_;cbv;refine aZR d7 (λh8 x8 d8=>?_);have S:=V.lt (x8.t (by decide));have J:=U.trans x8;generalize cJ u=R3 at *;obtain⟨E,D3⟩:=R3;have d8:lY h8 p D3:=d8;have f6:A .ay .neq E 0=decide (E≠0):=av A ..;by_cases C:E≠0
 .have P:aT ⟨D,s,n⟩ l=(E,⟨D3,s,n⟩):=by rw[P];exact if_pos C
  rw[P]at a;have:=a h8 (J.sup (by decide)) d8 (M.lt (J.t (by decide)));rw[decide_eq_true C]at f6;clear a P;cbv;rw[f6];cbv;exact this
 have P:aT ⟨D,s,n⟩ l=(0,⟨D3,s+8+l.length,n+1⟩):=by rw[P];exact if_neg C
 rw[P]at a;rw[decide_eq_false C]at f6;clear P C;have eB:∀h',dI bJP h h'->lY h' p D3->EX h' j p s2 e->k (.int .i64 0) h':=λh' x d l=>a h' x d (by rw[DF,dZ]at l;exact l);cbv;rw[f6];cbv;rw[al A];cbv;rw[Zr];have R:∀o,o=bu h8 j (.cells (List.toArray [.pointer (some ⟨p,0,none⟩),.int .i64 s2,.int .i64 Y]) 294 (0,0))->dI [294] h8 o/\EX o j p s2 Y:=λo F=>by
  subst F;exact⟨fE S.out (by decide),⟨ae⟩⟩
 refine Fj S.out rfl s2 (λo F=>?_);obtain⟨x9,T⟩:=R o F;clear R F;have K:∀h',h'=bu o j (.cells (List.toArray [.pointer (some ⟨p,0,none⟩),.int .i64 s2,.int .i64 e]) 294 (0,0))->dI [294] o h'/\EX h' j p s2 e:=λh' F=>by
  subst F;exact⟨fE T.out (by decide),⟨ae⟩⟩
 cbv;rw[al A];cbv;refine aZO T.out rfl 1 (λgP oZ=>?_);rw[aF]at oZ |-;obtain⟨WD,aj⟩:=K gP oZ;clear K oZ;have:=eB gP ((J.sup (by decide)).trans ((x9.trans WD).sup (by decide))) (d8.lt ((x9.trans WD).t (by decide))) aj;cbv;exact this
def xy(b:Bool):Int:=if b then 1 else 0
theorem aZz(b:Bool)(a:k (.int .i64 (xy b)) h):Ct 309 [.bool b] h k:=by
 refine an dQK Tryz.func309 λA c=>?_;cbv;cases b with
 |false=>exact a
 |true=>exact a
def yh(s:ByteArray):Bs:=gA s++fD s
theorem ph(s:ByteArray):(yh s).length<=65537:=by unfold yh gA fD;simp only[List.length_append,List.length_cons,List.length_nil,List.length_take];omega
def jJ(c:iK):Bs:=yh c.name++([u8 c.kind]++[u8 (xy c.null)])
theorem IZ(c:iK):(jJ c).length<=65539:=by have:=ph c.name;unfold jJ;simp only[List.length_append,List.length_cons,List.length_nil];omega
def uY(s:rV):Bs:=yh s.name++([u8 (s.cols.length:Int)]++((s.cols.map jJ).flatten++(bR s.key++[u8 (xy s.only)])))
theorem fKQ(q:Sl 202 bh h (.slice b n c) cols)(hn:n<=2^16)(O:nm.size<=2^40)(h2:∀x∈cols,x.name.size<=2^40)
 (U:∀h' j n' c',Le h h'->aU 5 bL h h' (.slice j n' c') (uY ⟨nm,cols,key,only⟩)->k (.slice j n' c') h'):
 Ct 215 [.agg #[.string nm,.slice b n c,.int .i64 key,.bool only]] h k:=by
 obtain⟨A,Q⟩:=Ar.ex;have e:=q.len;obtain⟨jH,fN⟩:=q.bound;have WX:A .nat n=(cols.length:Int):=by rw[Q.nat,e];rfl
 have yW:aK (A .nat n) n:=⟨by rw[Q.nat];rfl⟩;obtain⟨a,B⟩:∃a,a=yh nm++[u8 (cols.length:Int)]:=⟨_,rfl⟩;have aj:a.length<=65538:=by have:=ph nm;rw[B,List.length_append,List.length_singleton];omega
 have S:uY ⟨nm,cols,key,only⟩=(a++(cols.map jJ).flatten++bR key)++[u8 (xy only)]:=by rw[B];unfold uY;simp
 rw[S]at U;clear S;have F:([]++(gA nm++fD nm))++[u8 (A .nat n)]=a:=by rw[WX,B];rfl
 obtain⟨J,Z⟩:∃J:Nat->((Option Addr×Nat×Nat)×Int)->ab->Prop,∀w g h',J w g h'=(∃i:Nat,aK g.2 i/\w=n-i/\i<=n/\Le h h'/\aU 5 bL h h' (.slice g.1.1 g.1.2.1 g.1.2.2) (a++((cols.take i).map jJ).flatten)/\(a++((cols.take i).map jJ).flatten).length<=2^17*(i+1)):=⟨_,λ_ _ _=>rfl⟩;refine bB dZp A Tryz.func215 ?_;cbv;refine xQ (e1:=5) (l:=[]) Sl.nil (by omega) nm O (λO b1 m1 c1 V C=>?_);have YX:m1<=65537:=by have:=C.sl.len;rw[List.nil_append]at this;have h9:=ph nm;unfold yh at h9;omega
 cbv;refine oe C.sl (by omega) _ (λQF H W M k2 D=>?_);rw[F]at D;have X:=V.trans k2;have df:J n ((H,W,M),0) QF:=by
  rw[Z];refine⟨0,⟨rfl⟩,rfl,by omega,X,?_,?_⟩
  .have:=D.base V;simpa using this
  simp;omega
 clear F C D;cbv;refine aG.go (G:=(Option Addr×Nat×Nat)×Int) (λg=>[(3,.v (.slice g.1.1 g.1.2.1 g.1.2.2)),(16,.v (.int .i64 g.2))]) (λ_=>[(1,[.string nm,.slice b n c,.int .i64 key,.bool only])]) (λw g h'=>J w g h') n ((H,W,M),0) (by constructor<;>cbv) df ?_
 intro w g v R;rw[Z]at R;cbv;obtain⟨⟨gb,gm,gc⟩,z⟩:=g;obtain⟨i,d,hw,hi,o,f,y⟩:=R;have d:aK z i:=d;have f:aU 5 bL h v (.slice gb gm gc) (a++((cols.take i).map jJ).flatten):=f;have nj:=f.sl.len;refine aJ (λm=>?_) (λm=>?_)
 .have aF:=d.lt m;obtain⟨x,hx⟩:=bn cols i;have yR:=h2 x (List.mem_of_getElem? hx);have K:∀j m' c' h',Le v h'->aU 5 bL v h' (.slice j m' c') ((a++((cols.take i).map jJ).flatten)++jJ x)->J (n-(i+1)) ((j,m',c'),A .aC .add .i64 z 1) h':=λj m' c' h' l' q'=>by
   rw[Z];have T:(a++((cols.take i).map jJ).flatten)++jJ x=a++((cols.take (i+1)).map jJ).flatten:=by rw[List.take_add_one,hx];simp
   refine⟨i+1,d.succ (A:=A),rfl,by omega,o.trans l',?_,?_⟩
   .rw[<-T];exact q'.base o
   rw[<-T,List.length_append];have:=IZ x;omega
  have rj:n-(i+1)<w:=by omega
  have uy:(a++((cols.take i).map jJ).flatten).length<=2^34:=by omega
  have e1:∀l:Bs,((l++(gA x.name++fD x.name))++[u8 x.kind])++[u8 (xy x.null)]=l++jJ x:=λl=>by unfold jJ yh;simp
  have JB:=ph x.name;unfold yh at JB;have ix:=d.ix aF;clear m y Z;generalize a++((cols.take i).map jJ).flatten=L at *;cbv;refine⟨⟨q.aQ,ix⟩,?_⟩;cbv;refine(q.mono (o.t _)).load hx d.eq (λcs u=>?_);have u:cs=[.string x.name,.int .i64 x.kind,.bool x.null]:=u;subst u;generalize OW:x.name=xn at *;generalize Ky:x.kind=xk at *;generalize ag:x.null=xu at *;cbv;refine xQ (e1:=0) f.sl (by omega) xn yR (λh4 b4 m4 c4 p r=>?_);have E:=r.sl.len;rw[List.length_append]at E;cbv;refine oe r.sl (by omega) xk (λP I Y N s t=>?_);have JG:=t.sl.len;rw[List.length_append,List.length_append,List.length_singleton]at JG;cbv;refine aZz xu ?_;cbv;refine oe t.sl (by omega) _ (λh6 b6 m6 c6 k6 q6=>?_);have gU:=K b6 m6 c6 h6 ((p.trans s).trans k6) (by rw[<-e1];exact q6.base (p.trans s));clear K;cbv;refine⟨n-(i+1),((_,_,_),A .aC .add .i64 z 1),rj,by constructor<;>cbv,gU⟩
 have jO:=d.ge m;have eC:i=n:=by omega
 subst eC;rw[show cols.take i=cols by rw[e];exact List.take_length]at f y;have uy:(a++(cols.map jJ).flatten).length<=2^34:=by omega
 clear m Z y;generalize a++(cols.map jJ).flatten=L at *;have nj:=f.sl.len;cbv;refine LO f.sl (by omega) key (λh4 b4 m4 c4 p r=>?_);have E:=r.sl.len;rw[List.length_append,bW]at E;cbv;refine aZz only ?_;cbv;refine oe r.sl (by omega) _ (λP I Y N s t=>?_);have:=U P I Y N ((o.trans p).trans s) (t.base (o.trans p));cbv;exact this
def bM(s:St):Bool×St:=(decide ((az 1 s).1=1),if(az 1 s).1>1 then none else(az 1 s).2)
theorem pR(q:fh h p s)(a:∀h' x,x=((az 1 s).1:Int)->Kp [p] h h'->fh h' p (az 1 s).2->k (.int .i64 x) h'):
 Ct 142 [.pointer (some ⟨p,0,none⟩)] h k:=dKu q λh' b c=>a h' _ rfl b c
theorem aQU(q:fh h p s)(a:∀h' x,x=IntKind.i64.wrap ((az 8 s).1:Int)->Kp [p] h h'->fh h' p (az 8 s).2->k (.int .i64 x) h'):
 Ct 258 [.pointer (some ⟨p,0,none⟩)] h k:=aQV q λh' b c=>a h' _ rfl b c
theorem xP(q:fh h p s)(a:∀h' x,x=strOf (aM s).1->Kp [p] h h'->fh h' p (aM s).2->k (.string x) h'):
 Ct 263 [.pointer (some ⟨p,0,none⟩)] h k:=cKE q λh' b c=>a h' _ rfl b c
theorem VZ(q:fh h p s)(a:∀h',Kp [p] h h'->fh h' p (bM s).2->k (.bool (bM s).1) h'):
 Ct 337 [.pointer (some ⟨p,0,none⟩)] h k:=by
 have T:bM s=(decide ((az 1 s).1=1),if(az 1 s).1>1 then none else(az 1 s).2):=rfl;refine an dQm Tryz.func337 λA m=>?_;cbv;refine pR q (λg x hx d e=>?_);have f:A .ay .gtr x 1=decide ((az 1 s).1>1):=by rw[aX A];exact decide_eq_decide.2 (by omega)
 have b:A .ay .eql x 1=decide ((az 1 s).1=1):=by rw[aq A];exact decide_eq_decide.2 (by omega)
 clear hx;by_cases c:(az 1 s).1>1
 .rw[if_pos c]at T;rw[T]at a;rw[decide_eq_true c]at f;cbv;rw[f];cbv;refine NJ e 10 (λi j l=>?_);have:=a i (d.trans j) l;cbv;rw[b];exact this
 rw[if_neg c]at T;rw[T]at a;rw[decide_eq_false c]at f;have:=a g d e;cbv;rw[f];cbv;rw[b];exact this
def uA(s:St):iK×St:=(⟨strOf (aM s).1,((az 1 (aM s).2).1:Int),(bM (az 1 (aM s).2).2).1⟩,(bM (az 1 (aM s).2).2).2)
def eL:Nat->St->List iK×St
 |0,s=>([],s)
 |n+1,s=>((uA s).1::(eL n (uA s).2).1,(eL n (uA s).2).2)
def jC(nm:ByteArray)(c:List iK×St):Option rV:=
 if(bM (az 8 c.2).2).2=some []/\dA ⟨nm,c.1,IntKind.i64.wrap ((az 8 c.2).1:Int),(bM (az 8 c.2).2).1⟩=0 then
  some ⟨nm,c.1,IntKind.i64.wrap ((az 8 c.2).1:Int),(bM (az 8 c.2).2).1⟩else none
def dg(b:Bs):Option rV:=
 if(az 1 (aM (some b)).2).1>6 then jC (strOf (aM (some b)).1) (eL 0 none)
 else jC (strOf (aM (some b)).1) (eL (az 1 (aM (some b)).2).1 (az 1 (aM (some b)).2).2)
theorem fh.mt(q:fh h p s)(l:bV [411,5] h h'):fh h' p s:=by obtain⟨r,a,b⟩:=q.out;obtain⟨bb,n,c,d,g,sl,hd⟩:=a.out;exact⟨r,⟨bb,n,c,d,l _ _ _ _ (by decide) g,sl.mono (l.sub),hd⟩,b⟩
theorem bZX{l:Bs}(q:Sl e1 bL h (.slice b m c) l)
 (eM:dg l=none->∀h' (e:Int),Le h h'->e≠0->k (.tuple #[.agg #[.string ⟨#[]⟩,.slice none 0 0,.int .i64 0,.bool false],.int .i64 e]) h')
 (eB:∀s h' b n c,dg l=some s->Le h h'->Sl 202 bh h' (.slice b n c) s.cols->k (.tuple #[.agg #[.string s.name,.slice b n c,.int .i64 s.key,.bool s.only],.int .i64 0]) h'):
 Ct 262 [.slice b m c] h k:=by
 obtain⟨A,hA⟩:=Ar.ex;have H:CG 4 (az 1 (aM (some l)).2).2=none:=rfl;have P:dg l=if(az 1 (aM (some l)).2).1>6 then jC (strOf (aM (some l)).1) (eL 0 none)
  else jC (strOf (aM (some l)).1) (eL (az 1 (aM (some l)).2).1 (az 1 (aM (some l)).2).2):=rfl
 refine EN A [false,false,false,false,true] (ai dXB.au dXB.aN) Tryz.func262 rfl (by kernel_rfl) ?_;cbv;refine Qh q (λt p D l1 q1=>?_);cbv;refine xP q1 (λh2 o uK k2 q2=>?_);have l2:Le h h2:=l1.aE (bs:=[p]) (by simpa using D) k2;rw[<-uK]at P;generalize aM (some l)=W at *;obtain⟨nm,s1⟩:=W;have q2:fh h2 p s1:=q2;cbv;refine pR q2 (λh3 nz Q k3 q3=>?_);have l3:Le h h3:=l2.aE (bs:=[p]) (by simpa using D) k3;have P:dg l=if(az 1 s1).1>6 then jC o (eL 0 none)else jC o (eL (az 1 s1).1 (az 1 s1).2):=P
 have H:CG 4 (az 1 s1).2=none:=H;generalize az 1 s1=R2 at *;obtain⟨T,s2⟩:=R2;have q3:fh h3 p s2:=q3;have Q:nz=(T:Int):=Q;have f1:A .ay .gtr nz 6=decide (T>6):=by rw[aX A];exact decide_eq_decide.2 (by omega)
 have P:dg l=if T>6 then jC o (eL 0 none)else jC o (eL T s2):=P
 obtain⟨C,V⟩:∃C:Int->ab->Prop,∀z t,C z t=(∃a B,aK z a/\a<=6/\Le h t/\fh t p B/\dg l=jC o (eL a B)):=⟨_,λ_ _=>rfl⟩;clear uK;cbv;refine ny.go (G:=Int) (λz=>[(6,.v (.int .i64 z))]) (λ_=>[(2,[.string ⟨#[]⟩,.slice none 0 0,.int .i64 0,.bool false]),(5,[.string o,.slice none 0 0,.int .i64 0,.bool false])]) C ?_ ?_
 .cbv;rw[f1];by_cases r:T>6
  .rw[if_pos r]at P;have hC:∀h',Kp [p] h3 h'->fh h' p none->C 0 h':=λh' k' q'=>by
    rw[V];exact⟨0,none,⟨rfl⟩,by omega,l3.aE (bs:=[p]) (by simpa using D) k',q',P⟩
   rw[decide_eq_true r];clear V P f1 eM eB;cbv;refine NJ q3 4 (λh4 k4 q4=>?_);have hC:=hC h4 k4 q4;cbv;refine⟨0,by constructor<;>cbv,hC⟩
  rw[if_neg r]at P;have hC:C nz h3:=by rw[V];exact⟨T,s2,⟨Q⟩,by omega,l3,q3,P⟩
  rw[decide_eq_false r];clear V P f1 eM eB;cbv;refine⟨nz,by constructor<;>cbv,hC⟩
 intro z h4 r;rw[V]at r;obtain⟨a,B,WN,Pf,l4,q4,P⟩:=r;clear V f1 H q1 q2 q3 k2 k3 l1 l2 l3;obtain⟨J,Z⟩:∃J:Nat->((Option Addr×Nat×Nat)×Int)->ab->Prop,∀w g h',J w g h'=(∃i d f,aK g.2 i/\w=a-i/\i<=a/\Le h h'/\fh h' p d/\aU 202 bh h h' (.slice g.1.1 g.1.2.1 g.1.2.2) f/\f.length=i/\f++(eL (a-i) d).1=(eL a B).1/\(eL (a-i) d).2=(eL a B).2):=⟨_,λ_ _ _=>rfl⟩;have df:J a ((none,0,0),0) h4:=by rw[Z];exact⟨0,B,[],⟨rfl⟩,rfl,by omega,l4,q4,aU.nil,rfl,rfl,rfl⟩
 cbv;refine aG.go (G:=(Option Addr×Nat×Nat)×Int) (λg=>[(20,.v (.int .i64 g.2))]) (λg=>[(2,[.string ⟨#[]⟩,.slice none 0 0,.int .i64 0,.bool false]),(5,[.string o,.slice g.1.1 g.1.2.1 g.1.2.2,.int .i64 0,.bool false])]) (λw g h'=>J w g h') a ((none,0,0),0) (by constructor<;>cbv) df ?_
 .intro w g h5 hI;rw[Z]at hI;cbv;obtain⟨⟨gb,O,gc⟩,U⟩:=g;obtain⟨i,d,f,gO,hw,hi,l5,q5,Y,ux,E,F⟩:=hI;have gO:aK U i:=gO;have Y:aU 202 bh h h5 (.slice gb O gc) f:=Y;have nj:=Y.sl.len;have f2:A .ay .lss U z=decide (i<a):=by rw[aD A,gO.eq,WN.eq];exact decide_eq_decide.2 (by omega)
  rw[f2];by_cases r:i<a
  .have X:eL (a-i) d=((uA d).1::(eL (a-(i+1)) (uA d).2).1,(eL (a-(i+1)) (uA d).2).2):=by
    have:a-i=(a-(i+1))+1:=by omega
    rw[this];rfl
   rw[X]at E F;have I:∀h' j m' c',m'=O+1->Le h h'->fh h' p (uA d).2->aU 202 bh h h' (.slice j m' c') (f++[(uA d).1])->J (a-(i+1)) ((j,m',c'),A .aC .add .i64 U 1) h':=λh' j m' c' e l' q' j=>by
    rw[Z];refine⟨i+1,_,_,gO.succ (A:=A),rfl,by omega,l',q',j,?_,?_,F⟩
    .rw[List.length_append,ux];rfl
    rw[<-E];simp
   have aF:a-(i+1)<w:=by omega
   rw[decide_eq_true r];have ag:uA d=(⟨strOf (aM d).1,((az 1 (aM d).2).1:Int),(bM (az 1 (aM d).2).2).1⟩,(bM (az 1 (aM d).2).2).2):=rfl;rw[ag]at I;clear Z df X ag E F f2 eM eB P r;cbv;refine xP q5 (λR nx fa k6 M=>?_);have t6:bV [202] h5 R:=q5.lt k6 (by decide);have l6:Le h R:=l5.aE (bs:=[p]) (by simpa using D) k6;rw[<-fa]at I;generalize aM d=W at *;obtain⟨au,s3⟩:=W;have M:fh R p s3:=M;cbv;refine pR M (λx kx mW k7 y=>?_);have t7:bV [202] R x:=M.lt k7 (by decide);have l7:Le h x:=l6.aE (bs:=[p]) (by simpa using D) k7;have I:∀h' j m' c',m'=O+1->Le h h'->fh h' p (bM (az 1 s3).2).2->aU 202 bh h h' (.slice j m' c') (f++[⟨nx,((az 1 s3).1:Int),(bM (az 1 s3).2).1⟩])->J (a-(i+1)) ((j,m',c'),A .aC .add .i64 U 1) h':=I;have mW:kx=((az 1 s3).1:Int):=mW;rw[<-mW]at I;generalize az 1 s3=R2 at *;obtain⟨nk,s4⟩:=R2;have y:fh x p s4:=y;cbv;refine VZ y (λu k8 N=>?_);have t8:bV [202] x u:=y.lt k8 (by decide);have l8:Le h u:=l7.aE (bs:=[p]) (by simpa using D) k8;have I:∀h' j m' c',m'=O+1->Le h h'->fh h' p (bM s4).2->aU 202 bh h h' (.slice j m' c') (f++[⟨nx,kx,(bM s4).1⟩])->J (a-(i+1)) ((j,m',c'),A .aC .add .i64 U 1) h':=I;generalize bM s4=R3 at *;obtain⟨tx,s5⟩:=R3;have N:fh u p s5:=N;have b8:=Y.mono ((t6.trans t7).trans t8);cbv;intro n9 S vq e9;have K:Le u S:=by rw[e9];exact Le.set vq
   have g9:=(congrFun e9 n9).trans ae;have q9:Sl 202 bh S (.slice (some ⟨n9,0,none⟩) 1 1) [⟨nx,kx,tx⟩]:=aR (s:=bh) g9 rfl;clear e9;cbv;refine(b8.mono (K.t _)).append q9 (by decide) rfl (by decide) (by omega) (l8.trans K) (λm' j c' gP DI fo ar WD Dp=>?_);have gU:=I gP j m' c' DI fo ((N.le K).mt (ar _ (by decide))) Dp;clear I;cbv;refine⟨a-(i+1),((j,m',c'),A .aC .add .i64 U 1),aF,by constructor<;>cbv,gU⟩
  have QA:a-i=0:=by omega
  rw[QA]at E F;have E:f=(eL a B).1:=by rw[<-E];simp[eL]
  have F:d=(eL a B).2:=F;have X:eL a B=(f,d):=by rw[E,F]
  rw[X]at P;rw[decide_eq_false r];clear Z df X E F f2 r;cbv;refine(ET Y.sl).mono (λv R hR=>?_);obtain⟨l6,b6,c6,rfl,s6⟩:=hR;have M:=q5.le l6;have P:dg l=if(bM (az 8 d).2).2=some []/\dA ⟨o,f,IntKind.i64.wrap ((az 8 d).1:Int),(bM (az 8 d).2).1⟩=0 then
 some ⟨o,f,IntKind.i64.wrap ((az 8 d).1:Int),(bM (az 8 d).2).1⟩else none:=P
  cbv;refine aQU M (λx ky Uv k7 y=>?_);have t7:bV [202] R x:=M.lt k7 (by decide);have l7:Le h x:=(l5.trans l6).aE (bs:=[p]) (by simpa using D) k7;rw[<-Uv]at P;generalize az 8 d=W at *;obtain⟨kn,s7⟩:=W;have y:fh x p s7:=y;cbv;refine VZ y (λu k8 N=>?_);have t8:bV [202] x u:=y.lt k8 (by decide);have l8:Le h u:=l7.aE (bs:=[p]) (by simpa using D) k8;have s8:Sl 202 bh u (.slice b6 O c6) f:=s6.sl.mono (t7.trans t8);have P:dg l=if(bM s7).2=some []/\dA ⟨o,f,ky,(bM s7).1⟩=0 then some ⟨o,f,ky,(bM s7).1⟩else none:=P
  generalize bM s7=R3 at *;obtain⟨tx,s9⟩:=R3;have N:fh u p s9:=N;have P:dg l=if s9=some []/\dA ⟨o,f,ky,tx⟩=0 then some ⟨o,f,ky,tx⟩else none:=P
  cbv;refine Jw N (λex L=>?_);have g1:A .ay .eql ex 0=decide (ex=0):=aq A ..;have g2:A .ay .neq ex 0=decide (ex≠0):=av A ..;by_cases h0:ex=0
  .have S:=L.1 h0;rw[decide_eq_true h0]at g1;clear g2 L;cbv;rw[g1];cbv;refine(Bc s8).mono (λv gP hR=>?_);obtain⟨fo,ez,rfl,aj⟩:=hR;rw[<-aj]at P;have g3:A .ay .neq ez 0=decide (ez≠0):=av A ..;by_cases t:ez=0
   .rw[if_pos ⟨S,t⟩]at P;have:=eB _ gP b6 O c6 P (l8.trans fo) (s8.mono (fo.t _));have g4:decide (ez≠0)=false:=decide_eq_false (λg=>g t);rw[g4]at g3;cbv;rw[g3];cbv;exact this
   rw[if_neg (λg=>t g.2)]at P;have:=eM P gP ez (l8.trans fo) t;rw[decide_eq_true t]at g3;cbv;rw[g3];cbv;exact this
  have S:¬s9=some []:=λg=>h0 (L.2 g);rw[if_neg (λg=>S g.1)]at P;have:=eM P u ex l8 h0;rw[decide_eq_false h0]at g1;rw[decide_eq_true h0]at g2;cbv;rw[g1];cbv;rw[g2];cbv;exact this
section
variable {P:Program}
theorem Ow(o:iv P f fn)(e:Extern.find fn=some (Extern.Atomic.loadT .ptr)){x:Option Addr}(h:w.cell? a=some (.pointer x)):
 (callFunc f #[.pointer (some a)]).run P w=.ok (.value (.pointer x)) w:=by
 rw[run_callFunc_extern o.hf o.sN o.hb o.hn e];change (Sem.run P (do Extern.Atomic.read .ptr (<-asAddr (.pointer (some a)))) w).andThen _=_;simp[Extern.Atomic.read,asAddr,h,Result.andThen]
theorem Kb(o:iv P f fn)(e:Extern.find fn=some Extern.Atomic.storeT){u:Value}(h:w.cell? a=some u)(z:w.frozen? a=false):
 (callFunc f #[.pointer (some a),.pointer y]).run P w=.ok (.value (.tuple #[])) (w.setCell a (.pointer y)):=by
 rw[run_callFunc_extern o.hf o.sN o.hb o.hn e];change (Sem.run P (do
  store (<-asAddr (.pointer (some a))) (.pointer y) .atomic
  pure Extern.Atomic.none_) w).andThen _=_
 simp[asAddr,h,z,run_store P w a (.pointer y) .atomic rfl,Result.andThen,Extern.Atomic.none_]
theorem PC(o:iv P f fn)(e:Extern.find fn=some (Extern.Atomic.loadT .ptr)){x:Option Addr}(c:mj h a (.pointer x))(d:k (.pointer x) h):
 ef (λ_=>P) (λ_=>zl f [.pointer (some a)]) h k:=
 ef.ext λw b=>⟨_,w,h,Ow o e (c.cell b).1,d,bD.refl b⟩
theorem Lr(o:iv P f fn)(j:Extern.find fn=some Extern.Atomic.storeT){v:Value}(b:mj h a v)
 (l:∀c e h',h a.block=some (.cells c e (0,0))->h'=bu h a.block (.cells (c.setIfInBounds a.off (.pointer y)) e (0,0))->k (.tuple #[]) h'):
 ef (λ_=>P) (λ_=>zl f [.pointer (some a),.pointer y]) h k:=
 ef.ext λw d=>by
  obtain⟨h',g,i⟩:=b.set (.pointer y) (k:=k (.tuple #[])) l d;exact⟨_,_,h',Kb o j (b.cell d).1 (b.cell d).2,g,i⟩
theorem XH{s d t:TypeId}(f:P.underlying s=some (.pointer t))(hd:P.underlying d=some .unsafePointer)(g:(P.info? t).map (λi=>decide (i.size=0))=some false){v:Value}(c:mj h a v)(e:k (.pointer (some a)) h):
 ef (λ_=>P) (λ_=>Go.convert s d (.pointer (some a))) h k:=
 ⟨λw b=>⟨_,w,h,run_convert_to_unsafe f hd g (c.cell b).1,e,bD.refl b⟩⟩
theorem Ks{u:Nat}(h:P.cellsOf u≠0)(n:1<=c):liesAt P P.depth u c 0 u 1=true:=by have hd:P.depth=(2*(P.types.size+Made.depth)+1)+1:=rfl;rw[hd];simp only[liesAt,Bool.or_eq_true];left;rw[hd];simp[rowAt,h,n,sameLayout]
theorem XI{s d u z:Nat}(l:P.underlying s=some .unsafePointer)(hd:P.underlying d=some (.pointer u))(E:P.cellsOf u=z)(Y:0<z){b:Nat}{c:Array Value}{fr:Nat×Nat}(g:h b=some (.cells c u fr))(f:c.size=z)(j:k (.pointer (some ⟨b,0,none⟩)) h):
 ef (λ_=>P) (λ_=>Go.convert s d (.pointer (some ⟨b,0,none⟩))) h k:=by
 refine⟨λw a=>⟨.pointer (some ⟨b,0,none⟩),w,h,?_,j,bD.refl a⟩⟩;have e:=a _ _ g;have Q:w.shape? b=some (u,c.size):=by unfold World.shape?;rw[e]
 have Z:liesAt P P.depth u (c.size / P.cellsOf u) 0 u 1=true:=Ks (by omega) (by rw[E,f,Nat.div_self Y];exact Nat.le_refl 1);obtain⟨t,K,X⟩:∃t,P.info? u=some t/\t.size=z:=by
  unfold Program.cellsOf at E;cases i:P.info? u with
  |none=>rw[i]at E;simp at E;omega
  |some t=>rw[i]at E;exact⟨t,rfl,by simpa using E⟩
 simp[convert,Conv.unsafePointer,Conv.seenAt,viewAt,variablesAt,sizeOf,typeInfo,run_underlying l,run_underlying hd,K,X,Q,Z,Result.andThen]
end
theorem Hj:Tryz.prog.underlying 154=some .unsafePointer:=by kernel_rfl
theorem Hz:Tryz.prog.underlying 151=some (.pointer 150):=by kernel_rfl
theorem RT:Tryz.prog.cellsOf 150=8:=by kernel_rfl
theorem cJZ:iv Tryz.prog 109 Tryz.f109:=⟨Tryz.func109,by kernel_rfl,by kernel_rfl,by kernel_rfl⟩
theorem cJY:iv Tryz.prog 120 Tryz.f120:=⟨Tryz.func120,by kernel_rfl,by kernel_rfl,by kernel_rfl⟩
theorem Db{b o x:Nat}(q:mj h ⟨b,o,none⟩ (.pointer (some ⟨x,0,none⟩))){c:List Value}(g:h x=some (.cells (List.toArray c) 150 (0,0)))(a:c.length=8)(d:k (.pointer (some ⟨x,0,none⟩)) h):Ct 43 [.pointer (some ⟨b,o,none⟩)] h k:=by refine an gKf Tryz.func43 λA e=>?_;cbv;rw[al A];refine PC cJZ (by kernel_rfl) q ?_;cbv;refine XI Hj Hz RT (by decide) g a ?_;cbv;exact d
theorem zE{b o ty:Nat}{x:Value}{c:List Value}(g:h b=some (.cells (List.toArray c) ty (0,0)))(hx:c[o]? =some x){y:Nat}{v:Value}(q:mj h ⟨y,0,none⟩ v)(f:∀h',h'=bu h b (.cells (List.toArray (c.set o (.pointer (some ⟨y,0,none⟩)))) ty (0,0))->k (.tuple #[]) h'):Ct 49 [.pointer (some ⟨b,o,none⟩),.pointer (some ⟨y,0,none⟩)] h k:=by refine an gKb Tryz.func49 λA i=>?_;cbv;rw[al A];refine XH Hz Hj (by kernel_rfl) q ?_;cbv;refine Lr cJY (by kernel_rfl) (bY g hx) (λc' e a e1 d=>?_);have u:Up h b o (.pointer (some ⟨y,0,none⟩)) a:=⟨c',e,e1,d⟩;have:=f a (u.exp g);cbv;exact this
theorem BG(l:Bs):(strOf l).size=l.length:=by unfold strOf;show(Array.size _)=_;simp
def en(s:rV):Bs:=[u8 1]++yh (strOf (uY s))
theorem bZQ(q:Sl 202 bh h (.slice b n c) cols)(s:n<=2^16)(o:nm.size<=2^40)(p:∀x∈cols,x.name.size<=2^40)
 (g:∀h' f n' c',Le h h'->aU 5 bL h h' (.slice f n' c') (en ⟨nm,cols,key,only⟩)->k (.slice f n' c') h'):
 Ct 94 [.agg #[.string nm,.slice b n c,.int .i64 key,.bool only]] h k:=by
 have D:en ⟨nm,cols,key,only⟩=([]++[u8 1])++(gA (strOf (uY ⟨nm,cols,key,only⟩))++fD (strOf (uY ⟨nm,cols,key,only⟩))):=rfl;rw[D]at g;clear D;refine an gJA Tryz.func94 λA G=>?_;cbv;refine oe (l:=[]) Sl.nil (by omega) 1 (λC w H z a i=>?_);have Y:=i.sl.len;rw[List.nil_append,List.length_singleton]at Y;cbv;refine fKQ (q.mono (a.t _)) s o p (λF y I B d e=>?_);have E:=BG (uY ⟨nm,cols,key,only⟩);generalize uY ⟨nm,cols,key,only⟩=S at *;have J:=e.sl.len;have W:=e.sl.bound;cbv;refine qi e.sl ?_;cbv;refine xQ (e1:=0) (i.sl.mono (d.t _)) (by omega) (strOf S) (by omega) (λr j u m t v=>?_);have:=g r j u m ((a.trans d).trans t) (v.base (a.trans d));cbv;exact this
structure nv(h:ab)(r p:Nat)(bad:Bool):Prop where
 out:∃d,h r=some (.cells (List.toArray [.pointer (some ⟨p,0,none⟩),.int .u32 d,.int .i32 0,.int .u32 0,.bool bad]) 299 (0,0))/\((bad=false/\d=0)\/(bad=true/\d=1))
theorem nv.lt{b:Bool}(q:nv h r p b)(l:bV [299] h h'):nv h' r p b:=by obtain⟨d,g,hd⟩:=q.out;exact⟨d,l _ _ _ _ (by decide) g,hd⟩
theorem nv.le{b:Bool}(q:nv h r p b)(l:Le h h'):nv h' r p b:=q.lt (l.t _)
theorem cXi{b:Nat}{t:Nat}{s1 s2 s3 s y:Value}(g:h b=some (.cells #[.pointer (some ⟨c,0,none⟩)] t (0,0)))
 (a:h c=some (.cells (List.toArray [s1,s2,s3,s,y]) 299 (0,0)))  (e:k (.tuple #[]) (bu h c (.cells (List.toArray [s1,s2,s3,s,.bool true]) 299 (0,0)))):
 Ct 338 [.pointer (some ⟨b,0,none⟩)] h k:=by
 refine an dQl Tryz.func338 λA f=>?_;cbv;refine ak g ?_;cbv;rw[al A];refine jr a (by simp) (λh' d=>?_);subst d;cbv;exact e
theorem mV{b:Bool}(q:nv h r p b)(s:Bool)(c:∀h',Kp [r] h h'->nv h' r p (b|| !s)->k (.tuple #[]) h'):
 Ct 264 [.pointer (some ⟨r,0,none⟩),.bool s] h k:=by
 obtain⟨d,g,hd⟩:=q.out;refine an dXz Tryz.func264 λA o=>?_;cbv;intro i a w e1;have l:Le h a:=by rw[e1];exact Le.set w
 have j:a i=some (.cells #[.pointer (some ⟨r,0,none⟩)] 295 (0,0)):=by rw[e1];exact ae
 have m:=l _ _ g;have t:i≠r:=λe=>by rw[e,g]at w;cases w
 clear e1;cbv;rw[o.not];cases s with
 |true=>have:=c a (l.kp _) (by rw[show(b|| !true)=b from by simp];exact q.le l);cbv;exact this
 |false=>
  rw[show(b|| !false)=true from by simp]at c;cbv;refine ak j ?_;cbv;rw[al A];rcases hd with⟨he,rfl⟩|⟨he,rfl⟩
  .refine bKD (f:=338) (fl:=[]) (cl:=[.pointer (some ⟨i,0,none⟩)]) m rfl rfl (λn u=>?_);have X:n i=some (.cells #[.pointer (some ⟨r,0,none⟩)] 295 (0,0)):=by rw[u,bN t];exact j
   have K:=(congrFun u r).trans ae;refine cXi X K ⟨rfl,_,ae,rfl,rfl,?_⟩;rw[u,dD,dD];have kp:Kp [r] a (bu a r (.cells (List.toArray [.pointer (some ⟨p,0,none⟩),.int .u32 1,.int .i32 0,.int .u32 0,.bool true]) 299 (0,0))):=Kp.set (by simp);have:=c _ ((l.kp _).trans kp) ⟨1,ae,.inr ⟨rfl,rfl⟩⟩;cbv;exact this
  refine(cKn (bY m rfl)).mono (λv x hR=>?_);obtain⟨rfl,rfl⟩:=hR;cbv;exact c _ (l.kp _) (by rw[<-he];exact q.le l)
theorem nv.lk{b:Bool}(q:nv h r p b)(k:Kp [r] h h'){tys:List Nat}(e:299∉tys):bV tys h h':=by obtain⟨d,g,-⟩:=q.out;exact Ce k g e
abbrev uN:List Nat:=[61,202,46,45,79,161,183,253]
theorem eD.ls{v:Value}(q:eD h v d)(l:bV uN h h'):eD h' v d:=by obtain⟨_,_,_,_,_,_,_,_,_,_,_,_,w,rfl,a,b,c,e,f⟩:=q.out;exact⟨_,_,_,_,_,_,_,_,_,_,_,_,w,rfl,a.mono (l.sub),b.mono (l.sub),c.mono (l.sub),e.mono (l.sub),f⟩
structure uB(h:ab)(x:Nat)(d:DB)(L:Value×Value×Value×Value):Prop where
 out:∃b1 n1 c1 b2 n2 c2 b3 n3 c3 b4 n4 c4,h x=some (.cells (List.toArray [.slice b1 n1 c1,.slice b2 n2 c2,.slice b3 n3 c3,.slice b4 n4 c4,L.1,L.2.1,L.2.2.1,L.2.2.2]) 150 (0,0))/\
  eD h (.agg #[.slice b1 n1 c1,.slice b2 n2 c2,.slice b3 n3 c3,.slice b4 n4 c4]) d
theorem uB.lt{x:Nat}(q:uB h x d L)(l:bV (150::uN) h h'):uB h' x d L:=by obtain⟨b,n,f,a,m,i,c,o,j,e,p,k,g,r⟩:=q.out;exact⟨b,n,f,a,m,i,c,o,j,e,p,k,l _ _ _ _ (by decide) g,r.ls (l.sub)⟩
theorem uB.le{x:Nat}(q:uB h x d L)(l:Le h h'):uB h' x d L:=q.lt (l.t _)
theorem _root_.Go.Sx.Kp.up{bs D:List Nat}(k:Kp bs h h')(s:∀b∈bs,b∈D):Kp D h h':=λb o a n=>k b o a (λm=>n (s b m))
def QQ:rV:=⟨⟨#[]⟩,[],0,false⟩
def mu(d:DB)(s:St):DB×Bool×St:=match dg (aM s).1 with
 |none=>((bK d QQ).1,true,(aM s).2)
 |some x=>((bK d x).1,decide ((bK d x).2≠0),(aM s).2)
theorem yj(s:St):(aM s).1.length<65536:=by have h:=pk (az 2 s).1 (az 2 s).2;have a:=tS 2 s;unfold aM;omega
theorem wo(l:Bs):jn (strOf l)=l:=by unfold jn strOf;simp
theorem Wr{l:Bs}(q:Sl e1 bL h (.slice b m c) l)
 (a:∀h' s b n c (e:Int),Le h h'->Sl 202 bh h' (.slice b n c) s.cols->(dg l=none/\s=QQ/\e≠0\/dg l=some s/\e=0)->k (.tuple #[.agg #[.string s.name,.slice b n c,.int .i64 s.key,.bool s.only],.int .i64 e]) h'):
 Ct 262 [.slice b m c] h k:=
 bZX q (λp h' e l d=>a h' QQ none 0 0 e l Sl.nil (.inl ⟨p,rfl,d⟩)) (λs h' b n c p l q=>a h' s b n c 0 l q (.inr ⟨p,rfl⟩))
theorem bZO{x:Nat}{t:St}{b:Bool}(qx:uB h x d L)(qr:nv h r p b)(v:fh h p t)(sm:Small d)
 (n:∀h',Kp [x,r,p] h h'->uB h' x (mu d t).1 L->nv h' r p (b||(mu d t).2.1)->fh h' p (mu d t).2.2->k (.tuple #[]) h'):
 Ct 143 [.pointer (some ⟨x,0,none⟩),.pointer (some ⟨r,0,none⟩)] h k:=by
 obtain⟨A,hA⟩:=Ar.ex;obtain⟨dr,gr,EF⟩:=qr.out;have T:mu d t=match dg (aM t).1 with
  |none=>((bK d QQ).1,true,(aM t).2)
  |some x=>((bK d x).1,decide ((bK d x).2≠0),(aM t).2):=rfl
 have O:(strOf (aM t).1).size<=2^40:=by rw[BG];have:=yj t;omega
 have kI:A .ay .eql 0 0=true:=by rw[aq A];rfl
 refine bB aQA A Tryz.func143 ?_;cbv;rw[al A];refine ak gr ?_;cbv;refine xP v (λR nx m q u=>?_);have x1:Kp [x,r,p] h R:=q.up (by simp);have K:=qx.lt (v.lt q (by decide));have Dt:=qr.lt (v.lt q (by decide));rw[<-m]at O;have G:jn nx=(aM t).1:=by rw[m,wo]
 rw[<-G]at T;generalize aM t=R1 at *;obtain⟨tx,s1⟩:=R1;have u:fh R p s1:=u;clear m G;cbv;refine tN O (λn2 c2 m2 h2 yY dZ l q2=>?_);cbv;refine Wr q2 (λh3 s sb sn sc e g q3 U=>?_);have T:mu d t=((bK d s).1,(!decide (e=0))||decide ((bK d s).2≠0),s1):=by
  rcases U with⟨o,rfl,he⟩|⟨o,he⟩
  .rw[o]at T;rw[decide_eq_false he];exact T
  rw[o]at T;rw[decide_eq_true he];exact T
 clear U;have Fw:=K.le (l.trans g);have j:=Dt.le (l.trans g);have FB:=u.le (l.trans g);have x3:=x1.trans ((l.trans g).kp _);have ge:A .ay .eql e 0=decide (e=0):=aq A ..;generalize decide (e=0)=t1 at *;obtain⟨nm,cols,key,only⟩:=s;cbv;rw[ge];refine mV j t1 (λh4 f nO=>?_);have x4:=x3.trans (f.up (by simp));have qZ:=Fw.lt (j.lk f (by decide));have Y:=FB.mt (j.lk f (by decide));have q4:=q3.mono (j.lk f (by decide));obtain⟨b1,n1,c1,b2,vg,ic,b3,n3,c3,b4,n4,c4,rA,Qn⟩:=qZ.out;cbv;rw[al A];refine ak rA ?_;cbv;refine zu Qn q4 sm (D:=bK d ⟨nm,cols,key,only⟩) rfl (λh5 M P I Q B V X tU W z H uf i N=>?_);generalize bK d ⟨nm,cols,key,only⟩=C at *;obtain⟨F,c⟩:=C;have T:mu d t=(F,!t1||decide (c≠0),s1):=T;have fe:A .ay .eql c 0=decide (c=0):=aq A ..;have xj:((b|| !t1)|| !decide (c=0))=(b||(!t1||decide (c≠0))):=by simp[Bool.or_assoc]
 rw[T]at n;clear T;have xV:=nO.le i;have x5:=x4.trans (i.kp _);have EJ:=i _ _ rA;have N:eD h5 (.agg #[.slice M P I,.slice Q B V,.slice X tU W,.slice z H uf]) F:=N;cbv;rw[fe];refine mV xV (decide (c=0)) (λS Z vM=>?_);rw[xj]at vM;have x6:=x5.trans (Z.up (by simp));have w:=xV.lk Z (tys:=150::411::5::uN) (by decide);have E:=w _ _ _ _ (by decide) EJ;have J:=(Y.le i).mt (w.sub);have Qm:=N.ls (w.sub);have fin:∀h',h'=bu S x (.cells (List.toArray [.slice M P I,.slice Q B V,.slice X tU W,.slice z H uf,L.1,L.2.1,L.2.2.1,L.2.2.2]) 150 (0,0))->k (.tuple #[]) h':=λh' a=>by
  have y:dI [150] S h':=by rw[a];exact fE E (by decide)
  exact n h' (x6.trans (by rw[a];exact Kp.set (by simp))) ⟨_,_,_,_,_,_,_,_,_,_,_,_,by rw[a];exact ae,Qm.ls (y.t (by decide))⟩ (vM.lt (y.t (by decide))) (J.mt (y.t (by decide)))
 clear n xj;cbv;rw[al A];refine jr E (by simp) (λh' a=>?_);have:=fin h' a;cbv;exact this
def jl(d:DB)(s:St):DB×Bool×St:=((dQ d (strOf (aM s).1)).1,decide ((dQ d (strOf (aM s).1)).2≠0),(aM s).2)
theorem dKq{x:Nat}{b:Bool}(qx:uB h x d L)(N:nv h r p b)(M:fh h p s)
 (f:∀h',Kp [x,r,p] h h'->uB h' x (jl d s).1 L->nv h' r p (b||(jl d s).2.1)->fh h' p (jl d s).2.2->k (.tuple #[]) h'):
 Ct 144 [.pointer (some ⟨x,0,none⟩),.pointer (some ⟨r,0,none⟩)] h k:=by
 obtain⟨dr,gr,EF⟩:=N.out;obtain⟨b1,n1,c1,b2,vg,ic,b3,n3,c3,b4,n4,c4,J,e⟩:=qx.out;have T:jl d s=((dQ d (strOf (aM s).1)).1,decide ((dQ d (strOf (aM s).1)).2≠0),(aM s).2):=rfl;refine an aQz Tryz.func144 λA hA=>?_;cbv;rw[al A];refine ak J ?_;cbv;rw[al A];refine ak gr ?_;cbv;refine xP M (λy n u I q=>?_);have x4:Kp [x,r,p] h y:=I.up (by simp);have t:=M.lt I (tys:=150::299::uN) (by decide);have O:=t _ _ _ _ (by decide) J;have Qn:=e.ls (t.sub);have nO:=N.lt (t.sub);rw[<-u]at T;generalize aM s=R1 at *;obtain⟨tx,s1⟩:=R1;have q:fh y p s1:=q;clear u;cbv;refine ak O ?_;cbv;refine⟨⟨_,rfl,rfl⟩,?_⟩;cbv;refine Nn Qn n (D:=dQ d n) rfl (λh5 o P Y w B V H Q G z E R l v=>?_);generalize dQ d n=C at *;obtain⟨m,c⟩:=C;have T:jl d s=(m,decide (c≠0),s1):=T;have fe:A .ay .eql c 0=decide (c=0):=aq A ..;have X:(b|| !decide (c=0))=(b||decide (c≠0)):=by simp
 rw[T]at f;clear T;have W:=nO.le l;have x5:=x4.trans (l.kp _);have Z:=l _ _ O;have v:eD h5 (.agg #[.slice o P Y,.slice w B V,.slice H Q G,.slice z E R]) m:=v;cbv;rw[fe];refine mV W (decide (c=0)) (λF K S=>?_);rw[X]at S;have x6:=x5.trans (K.up (by simp));have g:=W.lk K (tys:=150::411::5::uN) (by decide);have j:=g _ _ _ _ (by decide) Z;have U:=(q.le l).mt (g.sub);have Qm:=v.ls (g.sub);have fin:∀h',h'=bu F x (.cells (List.toArray [.slice o P Y,.slice w B V,.slice H Q G,.slice z E R,L.1,L.2.1,L.2.2.1,L.2.2.2]) 150 (0,0))->k (.tuple #[]) h':=λh' a=>by
  have i:dI [150] F h':=by rw[a];exact fE j (by decide)
  exact f h' (x6.trans (by rw[a];exact Kp.set (by simp))) ⟨_,_,_,_,_,_,_,_,_,_,_,_,by rw[a];exact ae,Qm.ls (i.t (by decide))⟩ (S.lt (i.t (by decide))) (U.mt (i.t (by decide)))
 clear f X;cbv;rw[al A];refine jr j (by simp) (λh' a=>?_);have:=fin h' a;cbv;exact this
def qu(d:DB)(l:Bs):DB×Bool:=
 if(az 1 (some l)).1=1 then((mu d (az 1 (some l)).2).1,!(mu d (az 1 (some l)).2).2.1&&decide ((mu d (az 1 (some l)).2).2.2=some []))
 else((jl d (az 1 (some l)).2).1,!(jl d (az 1 (some l)).2).2.1&&decide ((jl d (az 1 (some l)).2).2.2=some []))
theorem iXu{x:Nat}(qx:uB h x d L){l:Bs}(q:Sl e1 bL h (.slice b m c) l)(sm:Small d)(J:(az 1 (some l)).1=1\/(az 1 (some l)).1=2)
 (f:∀h',Kp [x] h h'->uB h' x (qu d l).1 L->k (.bool (qu d l).2) h'):
 Ct 64 [.pointer (some ⟨x,0,none⟩),.slice b m c] h k:=by
 obtain⟨A,N⟩:=Ar.ex;have hR:qu d l=if(az 1 (some l)).1=1 then((mu d (az 1 (some l)).2).1,!(mu d (az 1 (some l)).2).2.1&&decide ((mu d (az 1 (some l)).2).2.2=some []))
  else((jl d (az 1 (some l)).2).1,!(jl d (az 1 (some l)).2).2.1&&decide ((jl d (az 1 (some l)).2).2.2=some [])):=rfl
 obtain⟨_,_,_,_,_,_,_,_,_,_,_,_,gx,-⟩:=qx.out;have y:A .ay .eql 1 1=true:=by rw[aq A];rfl
 have z:A .ay .eql 2 1=false:=by rw[aq A];rfl
 have B:A .ay .eql 2 2=true:=by rw[aq A];rfl
 refine bB eXC A Tryz.func64 ?_;cbv;refine Qh q (λh1 p Q U q1=>?_);cbv;intro r E R w;have V:Le h1 E:=by rw[w];exact Le.set R
 have M:E r=some (.cells (List.toArray [.pointer (some ⟨p,0,none⟩),.int .u32 0,.int .i32 0,.int .u32 0,.bool false]) 299 (0,0)):=(congrFun w r).trans ae;have Aj:nv E r p false:=⟨0,M,.inl ⟨rfl,rfl⟩⟩;have q2:=q1.le V;have eF:=U.trans V;have sK:=U.none R;clear w;cbv;rw[al A];refine ak M ?_;cbv;refine pR q2 (λF T W S v=>?_);have Y:Le h F:=eF.aE (bs:=[p]) (by simpa using Q) S;have pT:=Aj.lt (q2.lt S (by decide));have I:=qx.le Y;generalize az 1 (some l)=R1 at *;obtain⟨nk,s1⟩:=R1;have v:fh F p s1:=v;have K:∀h',Kp [x,r,p] F h'->Kp [x] h h':=λh' k'=>by
  intro b0 o j P;refine k' b0 o (Y _ _ j) (λO=>?_);simp only[List.mem_cons,List.not_mem_nil,or_false]at O P;rcases O with rfl|rfl|rfl
  .exact P rfl
  .rw[sK]at j;cases j
  rw[Q]at j;cases j
 rcases J with J|J
 .have J:nk=1:=J;subst J;have W:T=1:=W;subst W;have hR:qu d l=((mu d s1).1,!(mu d s1).2.1&&decide ((mu d s1).2.2=some [])):=hR;rw[hR]at f;clear hR;cbv;rw[y];cbv;refine bZO I pT v sm (λa H Z n g=>?_);have u:=K a H;generalize mu d s1=C at *;obtain⟨D,i,s⟩:=C;have g:fh a p s:=g;have n:nv a r p i:=by simpa using n
  have Z:uB a x D L:=Z;obtain⟨d4,X,-⟩:=n.out;cbv;rw[al A];refine ak X ?_;cbv;rw[N.not];cases i with
  |true=>have:=f a u Z;cbv;exact this
  |false=>
   cbv;rw[al A];refine ak X ?_;cbv;refine Jw g (λe G=>?_);have ge:A .ay .eql e 0=decide (s=some []):=by rw[aq A];exact decide_eq_decide.2 G
   have f:k (.bool (decide (s=some []))) a:=f a u Z;cbv;rw[ge];generalize decide (s=some [])=t at *;cbv;exact f
 have J:nk=2:=J;subst J;have W:T=2:=W;subst W;have hR:qu d l=((jl d s1).1,!(jl d s1).2.1&&decide ((jl d s1).2.2=some [])):=hR;rw[hR]at f;clear hR;cbv;rw[z];cbv;rw[B];cbv;refine dKq I pT v (λa H Z n g=>?_);have u:=K a H;generalize jl d s1=C at *;obtain⟨D,i,s⟩:=C;have g:fh a p s:=g;have n:nv a r p i:=by simpa using n
 have Z:uB a x D L:=Z;obtain⟨d4,X,-⟩:=n.out;cbv;rw[al A];refine ak X ?_;cbv;rw[N.not];cases i with
 |true=>have:=f a u Z;cbv;exact this
 |false=>
  cbv;rw[al A];refine ak X ?_;cbv;refine Jw g (λe G=>?_);have ge:A .ay .eql e 0=decide (s=some []):=by rw[aq A];exact decide_eq_decide.2 G
  have f:k (.bool (decide (s=some []))) a:=f a u Z;cbv;rw[ge];generalize decide (s=some [])=t at *;cbv;exact f
def dz:DB:=⟨[],[],[],[]⟩
abbrev L0:Value×Value×Value×Value:=(.int .i64 0,.slice none 0 0,.slice none 0 0,.slice none 0 0)
def kQ:DB->List Bs->Option DB
 |d,[]=>some d
 |d,l::r=>if(qu d l).2 then kQ (qu d l).1 r else none
theorem Em(l:Bs):∀(r:List Bs) (d:DB),kQ d (r++[l])=(kQ d r).bind λa=>if(qu a l).2 then some (qu a l).1 else none:=λr=>by
 induction r with
 |nil=>intro d;simp only[List.nil_append,kQ,Option.bind_some]
 |cons y r i=>
  intro d;simp only[List.cons_append,kQ];split
  .exact i _
  rfl
theorem Km:∀(i:Nat) (r:List Bs) (d:DB),kQ d (r.take i)=none->kQ d r=none:=λi=>by
 induction i with
 |zero=>intro r d h;rw[List.take_zero]at h;cases h
 |succ i a=>
  intro r d h;cases r with
  |nil=>cases h
  |cons y r=>
   simp only[List.take_succ_cons,kQ]at h |-;split
   .rename_i c;rw[if_pos c]at h;exact a _ _ h
   rfl
structure bZR(h:ab)(s g x:Nat):Prop where
 out:h s=some (.cells (List.toArray [.pointer (some ⟨g,0,none⟩),.pointer (some ⟨x,0,none⟩)]) 158 (0,0))
theorem dKh{D:Dk}(q:lY h p D)(hP:1<=D.now.length)(yT:∀l∈(eV D).1.dL,(az 1 (some l)).1=1\/(az 1 (some l)).1=2)
 (hS:∀i a,kQ dz ((eV D).1.dL.take i)=some a->Small a) 
 (M:((eV D).2≠0\/(eV D).1.bad=true\/kQ dz (eV D).1.dL=none)->∀h' (e:Int),dI OH h h'->e≠0->k (.tuple #[.pointer none,.int .i64 e]) h')
 (B:∀h' s g x d,(eV D).2=0->(eV D).1.bad=false->kQ dz (eV D).1.dL=some d->dI OH h h'->bZR h' s g x->EX h' g p (eV D).1.size (eV D).1.count->uB h' x d L0->k (.tuple #[.pointer (some ⟨s,0,none⟩),.int .i64 0]) h'):
 Ct 19 [.pointer (some ⟨p,0,none⟩)] h k:=by
 obtain⟨A,hA⟩:=Ar.ex;have kI:A .ay .neq 0 0=false:=by rw[av A];rfl
 refine bB eXI A Tryz.func19 ?_;cbv;refine aZV q hP (λh1 e P he n=>?_) (λh1 g b m c h0 R P ql O=>?_)
 .have bF:e≠0:=by
   rw[he];split
   .assumption
   decide
  have:=M (by rcases n with n|n;exact .inl n;exact .inr (.inl n)) h1 e P bF;have fe:A .ay .neq e 0=true:=by rw[av A];exact decide_eq_true bF
  clear M B he n;cbv;rw[fe];cbv;exact this
 generalize (eV D).1.dL=L at *;generalize (eV D).1.size=sz at *;generalize (eV D).1.count=cn at *;have ag:=O.len;obtain⟨au,ar⟩:=O.bound;cbv;rw[kI];cbv;intro x r hx T;have N:Le h1 r:=by rw[T];exact Le.set hx
 have W:r x=some (.cells (List.toArray [.slice none 0 0,.slice none 0 0,.slice none 0 0,.slice none 0 0,.int .i64 0,.slice none 0 0,.slice none 0 0,.slice none 0 0]) 150 (0,0)):=(congrFun T x).trans ae;have qx:uB r x dz L0:=⟨_,_,_,_,_,_,_,_,_,_,_,_,W,⟨_,_,_,_,_,_,_,_,_,_,_,_,[],rfl,Sl.nil,Sl.nil,Sl.nil,Sl.nil,rfl⟩⟩;clear T;obtain⟨J,Z⟩:∃J:Nat->Int->ab->Prop,∀w z h',J w z h'=(∃i a,aK z i/\w=m-i/\i<=m/\Kp [x] r h'/\uB h' x a L0/\kQ dz (L.take i)=some a):=⟨_,λ_ _ _=>rfl⟩;have S:J m 0 r:=by rw[Z];exact⟨0,dz,⟨rfl⟩,rfl,by omega,Kp.refl _ _,qx,rfl⟩
 cbv;refine aG.go (G:=Int) (λz=>[(27,.v (.int .i64 z))]) (λ_=>[]) (λw z h'=>J w z h') m 0 (by constructor<;>cbv) S ?_
 intro w z C hI;rw[Z]at hI;cbv;obtain⟨i,a,H,hw,hi,I,q3,F⟩:=hI;have x3:dI OH h C:=P.trans ((N.aE (bs:=[x]) (by simpa using hx) I).x _);have fl:A .ay .lss z (A .nat m)=decide (i<m):=by rw[aD A,H.eq,hA.nat];exact decide_eq_decide.2 (by show(i:Int)<(m:Int)↔_;omega)
 rw[fl];by_cases hc:i<m
 .obtain⟨l,hl⟩:=bn L i;have V:=yT l (List.mem_of_getElem? hl);have sm:=hS i a F;have ix:=H.ix hc;have FB:=O.mono ((N.t _).trans (Ce I W (by decide)));have X:kQ dz (L.take (i+1))=if(qu a l).2 then some (qu a l).1 else none:=by rw[List.take_add_one,hl];show kQ dz (L.take i++[l])=_;rw[Em,F];rfl
  have aF:m-(i+1)<w:=by omega
  have kG:=H.succ (A:=A);rw[decide_eq_true hc];clear fl S;cbv;refine⟨⟨O.aQ,ix⟩,?_⟩;cbv;refine FB.load hl H.eq (λcs ao=>?_);obtain⟨v,rfl,qv⟩:=ao;obtain⟨vb,vm,vc,rfl⟩:∃vb vm vc,v=.slice vb vm vc:=by obtain⟨b',cap,e1,-⟩:=qv.out;exact⟨_,_,_,e1⟩
  cbv;refine iXu q3 qv sm V (λj k4 q4=>?_);have o:=I.trans k4;have Q:(qu a l).2=true->J (m-(i+1)) (A .aC .add .i64 z 1) j:=λht=>by
   rw[Z];exact⟨i+1,_,kG,rfl,by omega,o,q4,by rw[X,if_pos ht]⟩
  have f:(qu a l).2=false->k (.tuple #[.pointer none,.int .i64 10]) j:=λht=>
   M (.inr (.inr (Km (i+1) _ _ (by rw[X,ht];rfl)))) j 10 (P.trans ((N.aE (bs:=[x]) (by simpa using hx) o).x _)) (by decide)
  clear Z M B X hS yT q4;generalize (qu a l).2=t at *;cbv;rw[hA.not];cases t with
  |true=>
   have:=Q rfl;clear Q f;cbv;refine⟨m-(i+1),A .aC .add .i64 z 1,aF,by constructor<;>cbv,this⟩
  |false=>have:=f rfl;clear Q f;cbv;exact this
 have QA:i=m:=by omega
 have rL:L.take i=L:=List.take_of_length_le (by omega);rw[rL]at F;rw[decide_eq_false hc];have U:∃u,u.length=8/\C x=some (.cells (List.toArray u) 150 (0,0)):=by obtain⟨_,_,_,_,_,_,_,_,_,_,_,_,Y,-⟩:=q3.out;exact⟨_,rfl,Y⟩
 obtain⟨u,aj,Y⟩:=U;clear fl Z S M;cbv;intro s j hs y;have l4:Le C j:=by rw[y];exact Le.set hs
 have g4:j s=some (.cells (List.toArray [.pointer (some ⟨g,0,none⟩),.pointer none]) 158 (0,0)):=(congrFun y s).trans ae;have hq:∀h',h'=bu j s (.cells (List.toArray [.pointer (some ⟨g,0,none⟩),.pointer (some ⟨x,0,none⟩)]) 158 (0,0))->k (.tuple #[.pointer (some ⟨s,0,none⟩),.int .i64 0]) h':=λh' E=>by
  have K:Le C h':=by rw[E,y,dD];exact Le.set hs
  exact B h' s g x a h0 R F (x3.trans (K.x _)) ⟨by rw[E];exact ae⟩ ((ql.lt ((N.t _).trans (Ce I W (by decide)))).lt (K.t _)) (q3.le K)
 have rA:=l4 _ _ Y;clear y B;cbv;rw[al A];refine zE g4 rfl (bY (x:=u[0]) rA (List.getElem?_eq_getElem _)) (λh' E=>?_);have:=hq h' E;cbv;exact this
theorem aZN{a d b s g x:Nat}{e:Int}{t:List Value}(ge:h a=some (.cells #[.int .i64 e] 33 (0,0)))(i:h d=some (.cells #[.pointer (some ⟨s,0,none⟩)] 38 (0,0)))(q:bZR h s g x)
 (j:h b=some (.cells (List.toArray t) 150 (0,0))) (n:t.length=8)  (M:e≠0->k (.tuple #[]) h)
 (B:e=0->∀h',h'=bu h s (.cells (List.toArray [.pointer (some ⟨g,0,none⟩),.pointer (some ⟨b,0,none⟩)]) 158 (0,0))->k (.tuple #[]) h'):
 eXM 128 [.pointer (some ⟨a,0,none⟩),.pointer (some ⟨d,0,none⟩),.pointer (some ⟨b,0,none⟩)] h k:=by
 obtain⟨A,m⟩:=Ar.ex;have f:A .ay .eql e 0=decide (e=0):=aq A ..;refine tY A (ai dJJ.au dJJ.aN) Tryz.func128 rfl (by kernel_rfl) ?_;cbv;refine ak ge ?_;cbv;rw[f];by_cases c:e=0
 .have:=B c;rw[decide_eq_true c];clear M B f;cbv;refine ak i ?_;cbv;rw[al A];refine zE q.out rfl (bY (x:=t[0]) j (List.getElem?_eq_getElem _)) (λh' l=>?_);have:=this h' l;cbv;exact this
 have:=M c;rw[decide_eq_false c];clear M B f;cbv;exact this
structure AA(h:ab)(s p:Nat)(G:Lg)(d:DB)(L:Value×Value×Value×Value):Prop where
 out:∃g x,bZR h s g x/\EX h g p (G.s:Int) (G.n:Int)/\lY h p G.D/\uB h x d L
abbrev He:List Nat:=158::bJP
theorem cKC{s:Nat}{G:Lg}{d':DB}(q:AA h s p G d L){l:Bs}(qb:Sl 5 bL h (.slice b m c) l)(hs:G.s<=2^29)(hn:G.n<=2^29)(hm:m<=2^28)(hw:G.D.ws.length<=2^28)
 {w z B:Option Addr} {I C J D K E N F:Nat} (qd:eD h (.agg #[.slice w I C,.slice y J D,.slice z K E,.slice B N F]) d') 
 (hk:∀h',dI He h h'->AA h' s p (aT G l).2 (if(aT G l).1=0 then d' else d) L->k (.int .i64 (aT G l).1) h'):
 Ct 52 [.pointer (some ⟨s,0,none⟩),.slice b m c,.agg #[.slice w I C,.slice y J D,.slice z K E,.slice B N F,L.1,L.2.1,L.2.2.1,L.2.2.2]] h k:=by
 obtain⟨A,hA⟩:=Ar.ex;obtain⟨g,x,qs,ql,qk,qx⟩:=q.out;obtain⟨Z,v6,v7,v8⟩:=L;refine lS A (ai eXE.au eXE.aN) Tryz.func52 rfl (by kernel_rfl) ?_;cbv;intro sc h1 ag e1;have l1:Le h h1:=by rw[e1];exact Le.set ag
 have g1:h1 sc=some (.cells (List.toArray [.pointer (some ⟨s,0,none⟩)]) 38 (0,0)):=(congrFun e1 sc).trans ae;cbv;intro u h2 lD e2;have l2:Le h1 h2:=by rw[e2];exact Le.set lD
 have g2:h2 u=some (.cells (List.toArray [.slice w I C,.slice y J D,.slice z K E,.slice B N F,Z,v6,v7,v8]) 150 (0,0)):=(congrFun e2 u).trans ae;cbv;intro i h3 Q e3;have l3:Le h2 h3:=by rw[e3];exact Le.set Q
 have g3:h3 i=some (.cells (List.toArray [.int .i64 0]) 33 (0,0)):=(congrFun e3 i).trans ae;have r:=(l1.trans l2).trans l3;clear e1 e2 e3;have n:=l3 _ _ (l2 _ _ g1);have O:=l3 _ _ g2;have M:=r _ _ qs.out;have S:=qk.le r;have Jy:=ql.lt (r.t _);have Fw:=qx.le r;cbv;refine ak n ?_;cbv;rw[al A];refine ak M ?_;cbv;refine NO S Jy (qb.mono (r.t _)) hs hn hm hw (λH x4 SH AM=>?_);generalize aT G l=R at *;obtain⟨e,j⟩:=R;have SH:lY H p j.D:=SH;have AM:EX H g p (j.s:Int) (j.n:Int):=AM;have hk:∀h',dI He h h'->AA h' s p j (if e=0 then d' else d) (Z,v6,v7,v8)->k (.int .i64 e) h':=hk;have ne:∀ {bl:Nat} {cs:Array Value} {t:Nat} {fr:Nat×Nat},h3 bl=some (.cells cs t fr)->t∉bJP->H bl=some (.cells cs t fr):=λY ht=>x4 _ _ Y (λ_ _ _ he=>by cases he;exact ht);have V:=ne g3 (by decide);have W:=ne n (by decide);have U:=ne O (by decide);have X:=ne M (by decide);have qZ:=Fw.lt (x4.t (by decide));have QS:dI He h H:=(r.x _).trans (x4.sup (by decide));have aN:sc≠i:=λe=>by rw[e,V]at W;cases W
 have aH:u≠i:=λe=>by rw[e,V]at U;cases U
 have T:s≠i:=λe=>by rw[e,V]at X;cases X
 have ao:h i=none:=(l1.trans l2).none Q;have t4:=(qd.mono (r)).ls (x4.t (by decide));have fin:∀a,a=bu H i (.cells (List.toArray [.int .i64 e]) 33 (0,0))->dI He h a/\lY a p j.D/\EX a g p (j.s:Int) (j.n:Int)/\uB a x d (Z,v6,v7,v8)/\eD a (.agg #[.slice w I C,.slice y J D,.slice z K E,.slice B N F]) d'/\
  a i=some (.cells #[.int .i64 e] 33 (0,0))/\a sc=some (.cells #[.pointer (some ⟨s,0,none⟩)] 38 (0,0))/\a u=some (.cells (List.toArray [.slice w I C,.slice y J D,.slice z K E,.slice B N F,Z,v6,v7,v8]) 150 (0,0))/\bZR a s g x:=λa f=>by
  have v:dI [33] H a:=by rw[f];exact fE V (by decide)
  refine⟨?_,SH.lt (v.t (by decide)),AM.lt (v.t (by decide)),qZ.lt (v.t (by decide)),t4.ls (v.t (by decide)),by rw[f];exact ae,by rw[f,bN aN];exact W,by rw[f,bN aH];exact U,⟨by rw[f,bN T];exact X⟩⟩;intro b0 o Y bF;rw[f,bN (λe=>by rw[e,ao]at Y;cases Y)];exact QS b0 o Y bF
 clear S Jy Fw SH AM qZ g3 n O M t4 x4;cbv;refine jr V (by simp) (λa f=>?_);obtain⟨v,SG,FA,ar,vN,P,aj,Zv,XY⟩:=fin a f;clear fin f;cbv;refine aZN P aj XY Zv rfl (λbF=>?_) (λh0 h6 f=>?_)
 .have:=hk a v ⟨g,x,XY,FA,SG,by rw[if_neg bF];exact ar⟩;cbv;refine ak P ?_;cbv;exact this
 have x6:dI [158] a h6:=by rw[f];exact fE XY.out (by decide)
 have aF:h6 i=some (.cells #[.int .i64 e] 33 (0,0)):=by rw[f,bN (Ne.symm T)];exact P
 have aW:u≠s:=λe=>by rw[e,XY.out]at Zv;cases Zv
 have au:h6 u=some (.cells (List.toArray [.slice w I C,.slice y J D,.slice z K E,.slice B N F,Z,v6,v7,v8]) 150 (0,0)):=by rw[f,bN aW];exact Zv
 have:=hk h6 (v.trans (x6.sup (by decide))) ⟨g,u,⟨by rw[f];exact ae⟩,FA.lt (x6.t (by decide)),SG.lt (x6.t (by decide)),by rw[if_pos h0];exact⟨_,_,_,_,_,_,_,_,_,_,_,_,au,vN.ls (x6.t (by decide))⟩⟩;cbv;refine ak aF ?_;cbv;exact this
end Go.S
