import Derived.Test.YthnbpiejemlbeaaGreatBG
set_option linter.all false
set_option maxRecDepth 100000
set_option maxHeartbeats 4000000
namespace Go.S
open Go.Sx Go.Proofs
theorem eKp{a:Nat}(b:a<2^56):aC .shl .u64 (a:Int) 8=((a*256:Nat):Int):=by
 show IntKind.u64.wrap ((a:Int)*2^8)=_;have h:(a:Int)*2^8=((a*256:Nat):Int):=by push_cast;rfl
 rw[h,pf (by omega)]
theorem hXA{a x:Nat}(c:a<2^56)(hx:x<256):aC .or .u64 ((a*256:Nat):Int) (x:Int)=((a*256+x:Nat):Int):=by
 show IntKind.u64.wrap (((BitVec.ofInt 64 ((a*256:Nat):Int)|||BitVec.ofInt 64 (x:Int)).toNat:Nat):Int)=_;have h:(BitVec.ofInt 64 ((a*256:Nat):Int)|||BitVec.ofInt 64 (x:Int)).toNat=a*256+x:=by
  rw[BitVec.toNat_or,BitVec.toNat_ofInt,BitVec.toNat_ofInt];have e1:((((a*256:Nat):Int) % ((2^64:Nat):Int)).toNat)=a*256:=by rw[<-Int.natCast_emod,Int.toNat_natCast,Nat.mod_eq_of_lt (by omega)]
  have e:(((x:Int) % ((2^64:Nat):Int)).toNat)=x:=by rw[<-Int.natCast_emod,Int.toNat_natCast,Nat.mod_eq_of_lt (by omega)]
  rw[e1,e];have:=Nat.two_pow_add_eq_or_of_lt (i:=8) (b:=x) (by omega) a;rw[Nat.mul_comm]at this;exact this.symm
 rw[h,pf (by omega)]
theorem Tq{l:Bs}{j:Nat}{x:UInt8}(h:l[j]? =some x):lq (l.drop j)=lq (l.drop (j+1))*256+x.toNat:=by have a:=List.getElem?_eq_some_iff.1 h;rw[List.drop_eq_getElem_cons a.1,a.2];simp only[lq];omega
theorem Ag{h:ab}{p:Nat}{s:St}(q:jt h p s){k:Value->ab->Prop}(d:∀h' x,x=IntKind.i64.wrap ((az 8 s).1:Int)->Kp [p] h h'->jt h' p (az 8 s).2->k (.int .i64 x) h'):
 Ct 202 [.pointer (some ⟨p,0,none⟩)] h k:=by
 have U:az 8 s=(lq (dO 8 s).1,(dO 8 s).2):=rfl;have Q:=pk 8 s;rw[U]at d;refine an dZB Tryz.func202 λA a=>?_;cbv;refine Ft q (n:=8) ⟨rfl⟩ (λt b m c X Y s1=>?_);generalize dO 8 s=R at *;obtain⟨l,s2⟩:=R;have s1:Sl 5 bL t (.slice b m c) l:=s1;have Q:l.length<=8:=Q;have pG:=s1.len;obtain⟨v,C⟩:∃z,z=A .aC .sub .i64 (A .nat m) 1:=⟨_,rfl⟩;have O:v=(m:Int)-1:=by rw[C,a.aC,a.nat];show IntKind.i64.wrap ((m:Int)-1)=_;rw[IntWalk.i64_in _ (by omega)]
 obtain⟨J,Z⟩:∃J:Nat->Int×Int->ab->Prop,∀w g h',J w g h'=(∃j:Nat,g.1=(j:Int)-1/\w=j/\j<=m/\g.2=(lq (l.drop j):Int)/\h'=t):=⟨_,λ_ _ _=>rfl⟩;have r:J m (v,0) t:=by rw[Z];exact⟨m,O,rfl,Nat.le_refl _,by rw[List.drop_of_length_le (by omega)];rfl,rfl⟩
 cbv;rw[<-C];refine aG.go (G:=Int×Int) (λg=>[(5,.v (.int .i64 g.1)),(3,.v (.int .u64 g.2))]) (λ_=>[]) (λw g h'=>J w g h') m (v,0) (by constructor<;>cbv) r ?_
 intro w g D I;rw[Z]at I;cbv;obtain⟨z,u⟩:=g;obtain⟨j,H,hw,hj,e,rfl⟩:=I;have H:z=(j:Int)-1:=H;have e:u=(lq (l.drop j):Int):=e;have B:A .ay .geq z 0=decide (0<j):=by rw[bX A];exact decide_eq_decide.2 (by omega)
 rw[B];by_cases E:0<j
 .rw[decide_eq_true E];obtain⟨x,hx⟩:=bn l (j-1);have K:aK z (j-1):=⟨by omega⟩;have ix:=K.ix (len:=m) (by omega);have W:b.isSome=true:=s1.aQ;have hd:=Tq hx;have T:j-1+1=j:=by omega
  rw[T]at hd;have aF:=Cc (l.drop j);have V:(256:Nat)^(l.drop j).length<=256^7:=Nat.pow_le_pow_right (by omega) (by rw[List.length_drop];omega);have h7:(256:Nat)^7=2^56:=by decide
  obtain⟨y,F⟩:∃y:Int,y=(x.toNat:Int):=⟨_,rfl⟩;have P:=x.toNat_lt;have L:A .aC .or .u64 (A .aC .shl .u64 u 8) (A .conv .u64 y)=(lq (l.drop (j-1)):Int):=by
   have f:A .conv .u64 y=(x.toNat:Int):=by rw[a.conv,F];exact pf (by omega)
   rw[f,a.aC,e,eKp (by omega),hXA (by omega) P,hd]
  have M:A .aC .sub .i64 z 1=((j-1:Nat):Int)-1:=by rw[a.aC];show IntKind.i64.wrap (z-1)=_;rw[IntWalk.i64_in _ (by omega)];omega
  have S:J (j-1) (A .aC .sub .i64 z 1,A .aC .or .u64 (A .aC .shl .u64 u 8) (A .conv .u64 y)) D:=by rw[Z];exact⟨j-1,M,rfl,by omega,L,rfl⟩
  have i:j-1<w:=by omega
  clear Z r B d L M hd;cbv;refine⟨by decide,?_⟩;cbv;refine⟨⟨W,ix⟩,?_⟩;cbv;refine s1.load hx K.eq (λcs o=>?_);have o:cs=[.int .u8 y]:=by rw[F];exact o
  subst o;cbv;refine⟨_,(A .aC .sub .i64 z 1,A .aC .or .u64 (A .aC .shl .u64 u 8) (A .conv .u64 y)),i,by constructor<;>cbv,S⟩
 rw[decide_eq_false E];have N:j=0:=by omega
 subst N;have:=d D (A .conv .i64 u) (by rw[a.conv,e];rfl) X Y;clear Z r d;cbv;exact this
end Go.S
namespace Go.Sx
variable {cs:List Value}{bytes e n size:Nat}{b:Option Addr}{k:Value->ab->Prop}{h:ab}
theorem aU.fKK{z:Type}{s:Sh z}{h0:ab}{len cap:Nat}{xs ys:List z}(q:aU e s h0 h (.slice b len cap) xs)(v:n=ys.length)(r:iA cs=true)(f:cs.length=n*s.n)(t:∀h',Rows s h' cs 0 ys)(B:e∉s.tys)(E:size=s.n)(R:bytes<=128)(D:len+n<=2^39)
  (a:Le h0 h) (p:∀m d c' h',m=len+n->Le h0 h'->(∀tys,e∉tys->bV tys h h')->aU e s h0 h' (.slice d m c') (xs++ys)->k (.slice d m c') h'):
 qX h b len cap n size bytes e cs k:=by
 subst E;have x:=q.sl.len;have g:cap<len+n->qX h b len cap n s.n bytes e cs k:=λw=>by
  refine pL q.sl w rfl R D r f (ys:=ys) (by omega) (λh' hl=>t h') (λy c h' e1 u H o=>?_)
  exact p _ _ _ h' rfl (a.trans u) (λtys _=>u.t tys) (o.buf (a.none e1) (by rw[List.length_append];omega))
 by_cases V:len+n<=cap
 .refine⟨r,λ_=>?_,λw=>by omega⟩;by_cases C:n=0
  .have A:cs=[]:=List.eq_nil_of_length_eq_zero (by rw[f,C];simp);have J:ys=[]:=List.eq_nil_of_length_eq_zero (by omega);refine .inl ⟨A,p _ _ _ h rfl a (λ_ _=>bV.refl _ _) ?_⟩;rw[J,List.append_nil,C];exact q
  rcases q.out with⟨d,j,l⟩|⟨y,O,j,l,o⟩
  .cases j;omega
  cases j;refine .inr ⟨⟨y,xs.length*s.n,none⟩,by simp[bP],?_⟩;refine o.write (ys:=ys) B (i:=xs.length) (by omega) (by omega) (by omega) (by rw[f,v]) (t h) (λh' F G o'=>?_);rw[List.take_length,List.drop_eq_nil_of_le (by omega),List.append_nil]at o';exact p _ _ _ h' rfl (a.aE (by simpa using l) F) G (o'.buf l (by rw[List.length_append,v]))
 exact g (by omega)
theorem PZ{len cap n':Nat}{cs':List Value}(a:n'=n)(c:cs'=cs)(q:qX h b len cap n' size bytes e cs' k):qX h b len cap n size bytes e cs k:=by subst a c;exact q
end Go.Sx
namespace Go.S
open Go.Sx Go.Proofs
variable {D:Dk}{c m m' p:Nat}{b:Option Addr}{k:Value->ab->Prop}{h h0:ab}
theorem HM(l:Bs)(h:ab):Sx.Rows bL h (aI l) 0 l:=by refine⟨by simp[bL,aI],λi y a=>?_⟩;show((aI l).drop (0+i*1)).take 1=[.int .u8 (y.toNat:Int)];rw[Nat.zero_add,Nat.mul_one];unfold aI;rw[<-List.map_drop,<-List.map_take];have b:i<l.length:=(List.getElem?_eq_some_iff.1 a).1;rw[List.drop_eq_getElem_cons b];have:=(List.getElem?_eq_some_iff.1 a).2;simp[this]
theorem Jf(s:ByteArray):(jn s).length=s.size:=Array.length_toList
abbrev WK(h0 h:ab)(n:Nat)(l:Bs)(k:Value->ab->Prop):Prop:=
 ∀h' b' c',Le h0 h'->(∀tys,5∉tys->bV tys h h')->aU 5 bL h0 h' (.slice b' n c') l->k (.slice b' n c') h'
theorem oX{l:Bs}(q:aU 5 bL h0 h (.slice b m c) l)(p:Le h0 h)(E:m<=2^38)(z:Int)(D:m'=m+1)(n:WK h0 h m' (l++[u8 z]) k):
 Ct 191 [.slice b m c,.int .i64 z] h k:=by
 obtain⟨A,C⟩:=Ar.ex;have u:=ju (A:=A) (h:=h) z;refine bB dZM A Tryz.func191 ?_;cbv;intro w i g e1;have a:Le h i:=by rw[e1];exact Le.set g
 have x:=aR (s:=bL) ((congrFun e1 w).trans ae) u;clear e1;cbv;refine(q.mono (a.t _)).app x (by decide) rfl (by decide) (by omega) (p.trans a) (λv d f j Y r B o y=>?_);have e:v=m':=by omega
 subst e;have:=n j d f r (λtys t=>(a.t _).trans (B _ t)) y;clear o;cbv;exact this
theorem tH{l:Bs}(q:aU 5 bL h0 h (.slice b m c) l)(l0:Le h0 h)(hm:m<=2^38)(n:Int)(S:m'=m+8)(M:WK h0 h m' (l++bR n) k):
 Ct 188 [.slice b m c,.int .i64 n] h k:=by
 have o:=q.sl.len;obtain⟨J,Z⟩:∃J:Nat->(Int×Option Addr×Nat×Nat)->ab->Prop,∀w g h',J w g h'=(∃i,aK g.1 i/\i<=8/\w=8-i/\Le h0 h'/\(∀tys,5∉tys->bV tys h h')/\aU 5 bL h0 h' (.slice g.2.1 g.2.2.1 g.2.2.2) (l++(bR n).take i)):=⟨_,λ_ _ _=>rfl⟩;have C:J 8 (0,b,m,c) h:=by rw[Z];exact⟨0,⟨rfl⟩,by omega,rfl,l0,λ_ _=>bV.refl _ _,by simpa using q⟩
 refine an dZP Tryz.func188 λA B=>?_;cbv;refine aG.go (G:=Int×Option Addr×Nat×Nat) (λg=>[(5,.v (.int .i64 g.1)),(0,.v (.slice g.2.1 g.2.2.1 g.2.2.2))]) (λ_=>[]) (λw g h'=>J w g h') 8 (0,b,m,c) (by constructor<;>cbv) C ?_
 intro w g j L;rw[Z]at L;cbv;obtain⟨z,H,x,K⟩:=g;obtain⟨i,a,W,hw,O,R,f⟩:=L;have a:aK z i:=a;have f:aU 5 bL h0 j (.slice H x K) (l++(bR n).take i):=f;have P:=f.sl.len;rw[List.length_append,List.length_take,bW,<-o]at P;have E:A .ay .lss z 8=decide (i<8):=by rw[aD A,a.eq];exact decide_eq_decide.2 (by omega)
 rw[E];by_cases F:i<8
 .obtain⟨p,Q⟩:∃p,p=A .aC .mul .u64 8 (A .conv .u64 z):=⟨_,rfl⟩;have u:p=((8*i:Nat):Int):=by rw[Q,B.conv,B.aC,a.eq];show IntKind.u64.wrap (8*IntKind.u64.wrap (i:Int))=_;rw[mZ,mZ];omega
  have U:A .aC .mul .i64 8 z=p:=by rw[u,B.aC,a.eq];show IntKind.i64.wrap (8*(i:Int))=_;rw[IntWalk.i64_in _ (by omega)];omega
  have V:0<=p:=by omega
  have hR:=HC (A:=A) (h:=j) n a F;rw[U]at hR;have N:(bR n).take (i+1)=(bR n).take i++[fY n i]:=qz (fY n) F;have I:∀h' m' d c',Le h0 h'->(∀tys,5∉tys->bV tys j h')->aU 5 bL h0 h' (.slice d m' c') (l++(bR n).take i++[fY n i])->J (8-(i+1)) (A .aC .add .i64 z 1,d,m',c') h':=λh' m' d c' l' t' q'=>by
   rw[Z];exact⟨i+1,a.succ (A:=A),F,rfl,l',λtys t=>(R _ t).trans (t' _ t),by rw[N,<-List.append_assoc];exact q'⟩
  have r:8-(i+1)<w:=by omega
  have nq:x+1<=2^39:=by omega
  rw[decide_eq_true F];clear Z N C E U P;generalize fY n i=y at *;generalize l++(bR n).take i=cur at *;cbv;rw[<-Q];refine⟨V,?_⟩;cbv;intro n3 Y T v;have D:Le j Y:=by rw[v];exact Le.set T
  have q3:=aR (s:=bL) ((congrFun v n3).trans ae) hR;clear v;cbv;refine(f.mono (D.t _)).app q3 (by decide) rfl (by decide) nq (O.trans D) (λm' d c' h4 S l4 t4 k4 q4=>?_);have X:=I h4 m' d c' l4 (λtys t=>(D.t _).trans (t4 _ t)) q4;clear I k4;cbv;refine⟨8-(i+1),(_,d,m',c'),r,by constructor<;>cbv,X⟩
 rw[decide_eq_false F];have hi:i=8:=by omega
 rw[List.take_of_length_le (by rw[bW];omega)]at f;have e:x=m':=by omega
 subst e;have:=M j H K O R f;clear Z C M;cbv;exact this
theorem vH{l:Bs}(q:aU 5 bL h0 h (.slice b m c) l)(N:Le h0 h)(hm:m<=2^37)(s:ByteArray)(d:∀m',m'=m+(dY s).length->WK h0 h m' (l++dY s) k):
 Ct 216 [.slice b m c,.string s] h k:=by
 obtain⟨A,g⟩:=Ar.ex;obtain⟨j,L⟩:∃j,j=min s.size 65535:=⟨_,rfl⟩;have e:A .ay .gtr (A .jL s) 65535=decide (65535<s.size):=by rw[aX A,g.jL];exact decide_eq_decide.2 (by show(s.size:Int)>65535↔_;omega)
 obtain⟨C,f⟩:∃C:ByteArray->ab->Prop,∀t h',C t h'=(h'=h/\jn t=fD s/\t.size=j):=⟨_,λ_ _=>rfl⟩;refine ik A [3] (ai dZo.au dZo.aN) Tryz.func216 rfl (by kernel_rfl) ?_;cbv;refine ny.go (G:=ByteArray) (λt=>[(1,.v (.string t))]) (λ_=>[]) C ?_ ?_
 .cbv;rw[e];by_cases u:65535<s.size
  .rw[decide_eq_true u];have F:(0:Int)<=65535/\(65535:Int)<=(s.size:Int):=by omega
   have a:C (A .sub s 0 65535) h:=by
    rw[f];have z:A .sub s 0 65535=s.extract 0 65535:=by rw[g.sub];rfl
    refine⟨rfl,?_,?_⟩
    .rw[z];unfold fD jn;simp only[ByteArray.data_extract,Array.toList_extract,List.extract,Nat.sub_zero,List.drop_zero]
    rw[z,ByteArray.size_extract];omega
   clear f e d;cbv;refine⟨F,?_⟩;cbv;refine⟨_,by constructor<;>cbv,a⟩
  rw[decide_eq_false u];have a:C s h:=by rw[f];refine⟨rfl,?_,by omega⟩;unfold fD;rw[List.take_of_length_le (by rw[Jf];omega)]
  clear f e d;cbv;refine⟨_,by constructor<;>cbv,a⟩
 intro t n a;rw[f]at a;cbv;obtain⟨rfl,D,J⟩:=a;have i:=ju (A:=A) (h:=n) (j:Int);have Y:=ju (A:=A) (h:=n) ((j / 256:Nat):Int);have mC:A .jL t=(j:Int):=by rw[g.jL];show(t.size:Int)=_;rw[J]
 have Q:A .aC .shr .i64 (j:Int) 8=((j / 256:Nat):Int):=by rw[g.aC];show((j:Int)).fdiv (2^8)=_;rw[Int.fdiv_eq_ediv_of_nonneg _ (by decide)];omega
 have K:dY s=[u8 (j:Int),u8 ((j / 256:Nat):Int)]++jn t:=by rw[D];unfold dY gA;rw[<-L]
 rw[K]at d;have y:t.size=(jn t).length:=(Jf t).symm;clear f e K D;refine⟨by decide,?_⟩;cbv;rw[mC,Q];intro w p H e1;have o:Le n p:=by rw[e1];exact Le.set H
 have S:Sl 5 bL p (.slice (some ⟨w,0,none⟩) 2 2) [u8 (j:Int),u8 ((j / 256:Nat):Int)]:=mM (s:=bL) rfl ((congrFun e1 w).trans ae) i Y;clear e1;cbv;refine(q.mono (o.t _)).app S (by decide) rfl (by decide) (by omega) (N.trans o) (λm2 b2 c2 h3 yY O W M T=>?_);clear M;generalize Z:[u8 (j:Int),u8 ((j / 256:Nat):Int)]=uu at *;cbv;refine PZ (n':=t.size) (cs':=aI (jn t)) (by rcases t with⟨⟨_| ⟨x,r⟩⟩⟩<;>rfl) (by rcases t with⟨⟨_| ⟨x,r⟩⟩⟩<;>rfl) ?_;refine T.fKK (s:=bL) (ys:=jn t) (cs:=aI (jn t)) y (gD _) (by rw[y];simp[aI,bL]) (λh'=>HM _ _) (by simp[bL]) (size:=1) (bytes:=1) rfl (by decide) (by omega) O (λR B E I MU P X U=>?_);have V:uu.length=2:=by rw[<-Z];rfl
 have:=d R (by rw[List.length_append,V];omega) I B E P (λtys v=>((o.t _).trans (W _ v)).trans (X _ v)) (by rw[<-List.append_assoc];exact U);clear d;cbv;exact this
abbrev Kj:List Nat:=[231,210,326]
structure mi(h0 h:ab)(p:Nat)(D:Dk):Prop where
 out:∃kb kc nb nc wb wn wc,h p=some (.cells (List.toArray [.slice (some ⟨nb,0,none⟩) D.now.length nc,.slice (some ⟨kb,0,none⟩) D.now.length kc,.slice wb wn wc,.int .i64 D.left,.bool D.dead]) 231 (0,0))/\
  cA 210 nf h kb kc D.kept/\cA 210 nf h nb nc D.now/\D.kept.length=D.now.length/\kb≠nb/\aU 326 Oo h0 h (.slice wb wn wc) D.ws/\D.now.length<=4096/\0<D.now.length/\h0 p=none/\h0 kb=none/\h0 nb=none/\Le h0 h
theorem mi.lt{h':ab}(q:mi h0 h p D)(l:bV Kj h h')(c:Le h0 h'):mi h0 h' p D:=by obtain⟨k,kc,n,d,wb,f,wc,g,o1,o2,e1,e,w,a,b,z,i,j,-⟩:=q.out;exact⟨k,kc,n,d,wb,f,wc,l _ _ _ _ (by decide) g,o1.mono (l.sub),o2.mono (l.sub),e1,e,w.mono (l.sub),a,b,z,i,j,c⟩
theorem mi.le{h':ab}(q:mi h0 h p D)(l:Le h h'):mi h0 h' p D:=by obtain⟨k,kc,n,d,wb,f,wc,g,o1,o2,e1,e,w,a,b,z,i,j,c⟩:=q.out;exact⟨k,kc,n,d,wb,f,wc,l _ _ g,o1.mono (l.t _),o2.mono (l.t _),e1,e,w.mono (l.t _),a,b,z,i,j,c.trans l⟩
theorem mi.base(q:mi h0 h p D):Le h0 h:=by obtain⟨k,kc,n,c,wb,d,wc,g,o1,o2,e1,e,w,a,b,z,f,i,l⟩:=q.out;exact l
theorem dKe{z:Int}{n:Nat}(s:aK z n)(b:2<=n)(B:n<=4096)
 (y:∀h' p,h p=none->Le h h'->mi h h' p (Gn n)->k (.tuple #[.pointer (some ⟨p,0,none⟩),.int .i64 0]) h'):
 Ct 33 [.int .i64 z] h k:=by
 obtain⟨A,w⟩:=Ar.ex;have t:A .ay .lss z 2=false:=by rw[aD A,s.eq];exact decide_eq_false (by omega)
 have u:A .ay .gtr z 4096=false:=by rw[aX A,s.eq];exact decide_eq_false (by omega)
 have G:z=A .nat n:=by rw[w.nat];exact s.eq
 have fin:∀(b:ab) (g i:Nat) (a:ab) (p:Nat),Le h b->h g=none->h i=none->cA 210 nf b g n (List.replicate n Di)->cA 210 nf b i n (List.replicate n Di)->g≠i->b p=none->a=bu b p (.cells (List.toArray [.slice (some ⟨i,0,none⟩) n n,.slice (some ⟨g,0,none⟩) n n,.slice none 0 0,.int .i64 0,.bool false]) 231 (0,0))->
  k (.tuple #[.pointer (some ⟨p,0,none⟩),.int .i64 0]) a:=λb g i a p l C D o1 o2 F f c=>by
  have q:Le b a:=by rw[c];exact Le.set f
  have K:=l.none f;refine y a p K (l.trans q) ⟨g,n,i,n,none,0,0,?_,?_,?_,?_,F,aU.nil,?_,?_,K,C,D,l.trans q⟩
  .rw[c,ae];simp only[Gn,List.length_replicate]
  .simp only[Gn];exact o1.mono (q.t _)
  .simp only[Gn];exact o2.mono (q.t _)
  .simp only[Gn]
  .simp only[Gn,List.length_replicate];exact B
  simp only[Gn,List.length_replicate];omega
 refine bB gKn A Tryz.func33 ?_;cbv;rw[t];cbv;rw[u];cbv;rw[G];refine⟨?_,?_⟩
 .refine iB (x:=Di) zM (by omega) (by decide) (λm v r j o1=>?_);cbv;refine iB (x:=Di) zM (by omega) (by decide) (λo b d l o2=>?_);have F:o≠m:=λe=>by rw[e]at d;exact o1.has d
  have fin:=λa p=>fin b o m a p (j.trans l) (j.none d) r o2 (o1.mono (l.t _)) F;cbv;intro p a f c;cbv;exact fin a p f c
 refine iB (x:=Di) zM (by omega) (by decide) (λm v r j o1=>?_);cbv;refine iB (x:=Di) zM (by omega) (by decide) (λo b d l o2=>?_);have F:m≠o:=λe=>by rw[<-e]at d;exact o1.has d
 have fin:=λa p=>fin b m o a p (j.trans l) r (j.none d) (o1.mono (l.t _)) o2 F;cbv;intro p a f c;cbv;exact fin a p f c
theorem mi.rZ(q:mi h0 h p D){G:Prop}
 (i:∀k kc n c wb a wc,h p=some (.cells (List.toArray [.slice (some ⟨n,0,none⟩) D.now.length c,.slice (some ⟨k,0,none⟩) D.now.length kc,.slice wb a wc,.int .i64 D.left,.bool D.dead]) 231 (0,0))->
  (∀left dead h',h'=bu h p (.cells (List.toArray [.slice (some ⟨n,0,none⟩) D.now.length c,.slice (some ⟨k,0,none⟩) D.now.length kc,.slice wb a wc,.int .i64 left,.bool dead]) 231 (0,0))->mi h0 h' p { D with left:=left,dead:=dead }/\dI Kj h h')->G):G:=by
 obtain⟨k,kc,n,c,wb,a,wc,g,o1,o2,e1,b,w,d,f,z,m,o,l⟩:=q.out;refine i k kc n c wb a wc g (λleft dead h' e=>⟨?_,by rw[e];exact fE g (by decide)⟩);have lt:∀tys,231∉tys->bV tys h h':=λtys j=>by rw[e];exact bV.set g j
 exact⟨k,kc,n,c,wb,a,wc,(congrFun e p).trans ae,o1.mono (lt _ (by decide)),o2.mono (lt _ (by decide)),e1,b,w.mono (lt _ (by decide)),d,f,z,m,o,l.aE (bs:=[p]) (by simpa using z) (by rw[e];exact Kp.set (by simp))⟩
theorem cQA(q:mi h0 h p D)(hd:D.dead=false)(hl:0<=D.left/\D.left<2^63)(c:∀h',dI Kj h h'->mi h0 h' p (dJ D).2->k (.bool (dJ D).1) h'):Ct 294 [.pointer (some ⟨p,0,none⟩)] h k:=by
 obtain⟨A,C⟩:=Ar.ex;refine q.rZ (λj kc n o wb w wc g up=>?_);have P:dJ D=if D.left>0 then if IntKind.i64.wrap (D.left+ -1)=0 then(true,{ D with left:=0,dead:=true })else(false,{ D with left:=IntKind.i64.wrap (D.left+ -1) })else(false,D):=rfl
 have y:A .ay .gtr D.left 0=decide (D.left>0):=aX A ..;generalize Z:D.left=l at *;generalize D.now.length=nl at *;obtain⟨m,v⟩:∃m,m=A .aC .sub .i64 l 1:=⟨_,rfl⟩;refine bB dQX A Tryz.func294 ?_;cbv;rw[al A];refine ak g ?_;cbv;rw[y];by_cases i:l>0
 .rw[if_pos i]at P;have J:m=l-1:=by rw[v,C.aC];show IntKind.i64.wrap (l-1)=_;rw[IntWalk.i64_in _ (by omega)]
  have X:IntKind.i64.wrap (l+ -1)=m:=by rw[J,IntWalk.i64_in _ (by omega)];omega
  rw[X]at P;have z:A .ay .eql m 0=decide (m=0):=aq A ..;rw[decide_eq_true i];cbv;rw[al A];refine ak g ?_;cbv;rw[al A,<-v];refine jr g (by show 4<=5;decide) (λt e1=>?_);have s:t p=some (.cells (List.toArray [.slice (some ⟨n,0,none⟩) nl o,.slice (some ⟨j,0,none⟩) nl kc,.slice wb w wc,.int .i64 m,.bool D.dead]) 231 (0,0)):=(congrFun e1 p).trans ae;have Q:∀a b,a=bu t p (.cells (List.toArray [.slice (some ⟨n,0,none⟩) nl o,.slice (some ⟨j,0,none⟩) nl kc,.slice wb w wc,.int .i64 m,.bool b]) 231 (0,0))->mi h0 a p { D with left:=m,dead:=b }/\dI Kj h a:=λa b f=>by
   refine up m b a ?_;rw[f,e1,dD]
  cbv;rw[al A];refine ak s ?_;cbv;rw[al A,z];refine jr s (by show 5<=5;decide) (λa f=>?_);obtain⟨r,x⟩:=Q a (decide (m=0)) f;have B:a p=some (.cells (List.toArray [.slice (some ⟨n,0,none⟩) nl o,.slice (some ⟨j,0,none⟩) nl kc,.slice wb w wc,.int .i64 m,.bool (decide (m=0))]) 231 (0,0)):=(congrFun f p).trans ae;have fin:k (.bool (decide (m=0))) a:=by
   by_cases d:m=0
   .rw[if_pos d]at P;rw[P]at c;rw[decide_eq_true d]at r |-;rw[d]at r;exact c a x r
   rw[if_neg d]at P;rw[P]at c;rw[decide_eq_false d]at r |-;have e:({ D with left:=m,dead:=false }:Dk)={ D with left:=m }:=by rw[<-hd]
   rw[e]at r;exact c a x r
  clear e1 f Q up c P;generalize decide (m=0)=u at *;cbv;rw[al A];refine ak B ?_;cbv;exact fin
 rw[if_neg i]at P;rw[P]at c;have:=c h (dI.refl _ _) q;rw[decide_eq_false i];clear c up;cbv;rw[al A];refine ak g ?_;cbv;show k (.bool D.dead) h;rw[hd];exact this
theorem LJ(q:mi h0 h p D)(n:Int)
 (e:dV D n 0≠0->k (.tuple #[.slice none 0 0,.int .i64 (dV D n 0)]) h)
 (B:dV D n 0=0->∀h' b c l,l=cH D n->l.length=64->Le h h'->aU 5 bL h h' (.slice b 64 c) l->k (.tuple #[.slice b 64 c,.int .i64 0]) h'):
 Ct 173 [.pointer (some ⟨p,0,none⟩),.int .i64 n] h k:=by
 obtain⟨A,t⟩:=Ar.ex;obtain⟨kb,kc,o,X,wb,wn,wc,g,o1,o2,e1,e2,w,e4,r,z1,z2,z3,l0⟩:=q.out;have C:dV D n 0=if D.dead then 15 else if n<0\/n>=D.now.length\/(0:Int)>64 then 1 else 0:=rfl
 have I:A .ay .lss n 0=decide (n<0):=aD A ..;have L:A .ay .geq n (A .nat D.now.length)=decide (n>=D.now.length):=by rw[bX A,t.nat];rfl
 have U:cH D n=(D.now[n.toNat]?).getD []:=rfl;have mC:=o2.sl (n:=D.now.length) rfl;generalize M:D.left=lf at *;generalize nW:D.dead=E at *;generalize qJ:D.now=N at *;generalize Ui:N.length=nl at *;refine bB dZZ A Tryz.func173 ?_;cbv;rw[al A];refine ak g ?_;cbv;cases E with
 |true=>have C:dV D n 0=15:=C;rw[C]at e;have:=e (by decide);clear e B;cbv;exact this
 |false=>
  have C:dV D n 0=if n<0\/n>=nl\/(0:Int)>64 then 1 else 0:=C
  cbv;rw[I];by_cases d:n<0
  .rw[if_pos (.inl d)]at C;rw[C]at e;have:=e (by decide);rw[decide_eq_true d];clear e B;cbv;exact this
  rw[decide_eq_false d];cbv;rw[al A];refine ak g ?_;cbv;rw[L];by_cases a:n>=nl
  .rw[if_pos (.inr (.inl a))]at C;rw[C]at e;have:=e (by decide);rw[decide_eq_true a];clear e B;cbv;exact this
  rw[if_neg (λS=>by rcases S with h|h|h;exact d h;exact a h;exact absurd h (by decide))]at C;have B:=B C;have a:¬n>=(nl:Int):=a;rw[decide_eq_false a];have K:aK n n.toNat:=⟨by omega⟩;obtain⟨x,hx⟩:=bn N n.toNat;rw[hx]at U;have U:cH D n=x:=U;rw[U]at B;have ix:=K.ix (len:=nl) (by omega);obtain⟨c,O,P,s⟩:=o2.out;have hR:=P.at hx;have Y:x.length=64:=hR.2;have z:Sl 210 bL h (.slice (some ⟨o,n.toNat*64,none⟩) 64 64) x:=by
   refine⟨_,64,by rw[Y],by omega,by omega,.inr ⟨o,n.toNat*64,_,_,rfl,O,?_,λi y v=>?_⟩⟩
   .have:n.toNat<N.length:=(List.getElem?_eq_some_iff.1 hx).1;have V:=o2.le;have s:c.length=X*64:=s;show n.toNat*64+x.length*1<=(List.toArray c).toList.length;simp only[List.toArray,Y];omega
   have T:i<64:=by have:=(List.getElem?_eq_some_iff.1 v).1;omega
   have f:=congrArg (λl=>l[i]?) hR.1;have Z:nf.n=64:=rfl;rw[Z]at f;simp only[List.getElem?_take,List.getElem?_drop,aI,List.getElem?_map,v]at f;rw[if_pos T]at f;show((c.drop (n.toNat*64+i*1)).take 1)=[.int .u8 (y.toNat:Int)];apply List.ext_getElem?;intro j;rw[List.getElem?_take,List.getElem?_drop];by_cases u:j<1
   .have:j=0:=by omega
    subst this;rw[if_pos u,Nat.mul_one,Nat.add_zero,f];rfl
   rw[if_neg u,List.getElem?_eq_none (by simp;omega)]
  have H:A .ia (some ⟨o,0,none⟩) n 64=⟨o,n.toNat*64,none⟩:=by rw[t.ia];simp[ia,bP]
  clear e o1 w;cbv;intro n5 Q J r;have m:Le h Q:=by rw[r];exact Le.set J
  clear r;cbv;rw[al A];refine ak (m _ _ g) ?_;cbv;refine⟨⟨rfl,ix⟩,?_⟩;cbv;rw[H];refine mG (z.mono (m.t _)) rfl (by decide) (λG=>by cases G) (λDj cap R F kY W o6=>?_);have:=B R _ _ x rfl Y (m.trans W) (o6.buf (m.none F) Y.symm);clear B;cbv;exact this
end Go.S
