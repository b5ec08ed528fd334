import Derived.Test.YthnbpiejemlbeaaGreatBD
import Derived.Test.YthnbpiejemlbeaaGreatNA
set_option linter.all false
set_option maxRecDepth 100000
set_option maxHeartbeats 8000000
namespace Go.S
open Go.Sx Go.Proofs
variable {d:DB}{D:Dk}{g:Lg}{r:List Bs}{P n:Nat}{p:Option Addr}{e:TypeId}{k:Value->ab->Prop}{h:ab}
def gQq(z:List Value)(hz:iA z=true):Sh Unit where
 n:=z.length
 R _ cs _:=cs=z
 len:=by rintro h cs x rfl;rfl
 one:=by rintro h cs x rfl;exact hz
 tys:=[]
 mono:=λ_ q=>q
theorem aQY(e:∀h' b c,Le h h'->k (.slice b 0 c) h'):
 Ct 238 [.slice none 0 0,.func (.func 239) #[] #[]] h k:=by
 refine an aQs Tryz.func238 λA d=>?_;have f:A .ay .lss 0 (A .nat 0)=false:=by rw[aD A,d.nat];rfl
 cbv;refine iB (s:=gQq [.int .i64 0,.slice none 0 0] rfl) (x:=()) (λ_=>rfl) (by omega) (by decide) (λn a p l o1=>?_);have:=e a (some ⟨n,0,none⟩) 0 l;cbv;refine aG.go (G:=Unit) (λ_=>[(13,.v (.int .i64 0))]) (λ_=>[]) (λw _ h'=>h'=a) 0 () (by constructor<;>cbv) rfl ?_
 intro w g i I;subst I;cbv;rw[f];cbv;exact this
theorem aQQ(d:∀h' b c,Le h h'->k (.slice b 0 c) h'):
 Ct 117 [.slice none 0 0] h k:=by
 refine an aQF Tryz.func117 λA e=>?_;cbv;refine aQY (λa b c l=>?_);have:=d a b c l;cbv;exact this
theorem aXa(e:∀h' b c,Le h h'->k (.slice b 0 c) h'):
 Ct 119 [.slice none 0 0,.func (.func 117) #[] #[]] h k:=by
 refine an aQD Tryz.func119 λA d=>?_;have f:A .ay .lss 0 (A .nat 0)=false:=by rw[aD A,d.nat];rfl
 cbv;refine iB (s:=gQq [.slice none 0 0] rfl) (x:=()) (λ_=>rfl) (by omega) (by decide) (λn a p l o1=>?_);have:=e a (some ⟨n,0,none⟩) 0 l;cbv;refine aG.go (G:=Unit) (λ_=>[(13,.v (.int .i64 0))]) (λ_=>[]) (λw _ h'=>h'=a) 0 () (by constructor<;>cbv) rfl ?_
 intro w g i I;subst I;cbv;rw[f];cbv;exact this
theorem WB(b:k (.slice none 0 0) h):
 Ct 118 [.slice none 0 0] h k:=by
 refine an aQE Tryz.func118 λA a=>?_;have f:A .yP none=true:=by rw[a.yP];rfl
 cbv;rw[f];cbv;exact b
theorem aQS(l:∀h' b e a f,Le h h'->k (.agg #[.int .i64 0,.slice b 0 e,.slice none 0 0,.slice a 0 f]) h'):Ct 48 [.agg #[.int .i64 0,.slice none 0 0,.slice none 0 0,.slice none 0 0]] h k:=by refine an eXF Tryz.func48 λA p=>?_;cbv;refine aQQ (λo c g m=>?_);cbv;refine WB ?_;cbv;refine aXa (λj d i n=>?_);have:=l j c g d i (m.trans n);cbv;exact this
theorem fKT{s p:Nat}{G:Lg}(q:AA h s p G d L0)(o:∀h' b c a e,Le h h'->k (.agg #[.int .i64 0,.slice b 0 c,.slice none 0 0,.slice a 0 e]) h'):Ct 15 [.pointer (some ⟨s,0,none⟩)] h k:=by obtain⟨g,x,t,J,I,u⟩:=q.out;obtain⟨b,C,c,a,D,e,v,E,y,w,F,z,f,H⟩:=u.out;refine an eXJ Tryz.func15 λA B=>?_;cbv;rw[al A];refine Db (bY t.out rfl) f rfl ?_;cbv;rw[al A];refine ak f ?_;cbv;refine aQS (λn i l j m r=>?_);have:=o n i l j m r;cbv;exact this
structure Good(D:Dk)(P:Nat):Prop where
 dead:D.dead=false
 left:¬D.left>0
 len:D.now.length=P
 pg:∀b∈D.now,b.length=64
theorem Mk(g:Good D P):dJ D=(false,D):=by unfold dJ;rw[if_neg g.left]
theorem Fi(g:Good D P):∃a,cJ D=(0,a)/\Good a P/\a.ws=[]/\a.now=D.now:=by unfold cJ;rw[Mk g,g.dead];exact⟨_,rfl,⟨g.dead,g.left,g.len,g.pg⟩,rfl,rfl⟩
theorem Hb(g:Good D P){l:Bs}(f:n<P)(hl:l.length<=64):∃a,bg D (n:Int) l=(0,a)/\Good a P/\a.now=D.now.set n (dC l):=by
 have e:dV D (n:Int) l.length=0:=by unfold dV;rw[g.dead,if_neg (by simp),if_neg (by have:=g.len;omega)]
 unfold bg;rw[e,if_neg (by simp),Int.toNat_natCast];have c:Good { D with now:=D.now.set n (dC l),ws:=D.ws++[((n:Int),dC l)] } P:=
  ⟨g.dead,g.left,by show(D.now.set n _).length=P;rw[List.length_set];exact g.len,λb d=>by
   rcases List.mem_or_eq_of_mem_set d with h|h
   .exact g.pg b h
   rw[h];exact py hl⟩
 rw[Mk c];exact⟨_,rfl,c,rfl⟩
theorem OA{l:Bs}:(dC l).take l.length=l:=by unfold dC;rw[List.take_append_of_le_length (Nat.le_refl _),List.take_length]
theorem DS:∀(n:Nat) (D:Dk) (pg:Nat) (b:Bs),b.length<=n->Good D P->pg*64+b.length<=P*64->
 ∃a,cS D pg b=(0,a)/\Good a P/\a.ws=[]/\a.now.take pg=D.now.take pg/\(a.now.drop pg).flatten.take b.length=b:=λn=>by
 induction n with
 |zero=>intro D pg b c g h;have c:b=[]:=List.eq_nil_of_length_eq_zero (by omega);obtain⟨a,e,d,w,i⟩:=Fi g;refine⟨a,?_,d,w,by rw[i],by rw[c];rfl⟩;rw[cS,dif_pos c,e]
 |succ n x=>
  intro D pg b c g h;by_cases F:b=[]
  .obtain⟨a,e,d,w,i⟩:=Fi g;refine⟨a,?_,d,w,by rw[i],by rw[F];rfl⟩;rw[cS,dif_pos F,e]
  have Y:=List.length_pos_iff.2 F;obtain⟨m,e1,q,k⟩:=Hb g (n:=pg) (l:=b.take 64) (by omega) (by rw[List.length_take];omega);obtain⟨a,p,r,A,t,j⟩:=x m (pg+1) (b.drop 64) (by rw[List.length_drop];omega) q (by rw[List.length_drop];omega);have Q:pg<D.now.length:=by rw[g.len];omega
  have y:a.now[pg]? =some (dC (b.take 64)):=by have:=congrArg (λz=>z[pg]?) t;simp only[List.getElem?_take]at this;rw[if_pos (by omega),if_pos (by omega),k,List.getElem?_set_self Q]at this;exact this
  refine⟨a,?_,r,A,?_,?_⟩
  .rw[cS,dif_neg F,e1];exact p
  .have s:a.now.take pg=(a.now.take (pg+1)).take pg:=by rw[List.take_take,Nat.min_eq_left (by omega)]
   rw[s,t,List.take_take,Nat.min_eq_left (by omega),k,List.take_set_of_le (Nat.le_refl _)]
  have hd:a.now.drop pg=dC (b.take 64)::a.now.drop (pg+1):=by obtain⟨o,u⟩:=List.getElem?_eq_some_iff.1 y;rw[List.drop_eq_getElem_cons o,u]
  have Z:(dC (b.take 64)).length=64:=py (by rw[List.length_take];omega);rw[hd,List.flatten_cons,List.take_append,Z];by_cases f:b.length<=64
  .have h0:b.length-64=0:=by omega
   rw[h0,List.take_zero,List.append_nil,List.take_of_length_le (l:=b) f];exact OA
  have K:(b.take 64).length=64:=by rw[List.length_take];omega
  have v:dC (b.take 64)=b.take 64:=by unfold dC;rw[K];simp
  rw[List.length_drop]at j;rw[j,v,List.take_of_length_le (by omega),List.take_append_drop]
theorem fI{q:Nat}:∀ {xs:List Bs},(∀b∈xs,b.length=64)->q<=xs.length->(xs.take q).flatten.length=64*q:=λ{xs} hx a=>by
 rw[pM (λb h=>hx b (List.mem_of_mem_take h)),List.length_take,Nat.min_eq_left a];try omega
theorem BO(g:Good D P)(q:Nat)(a:1+q<=P):cO D=((D.now.take (1+q)).drop 1).flatten++(D.now.drop (1+q)).flatten/\((D.now.take (1+q)).drop 1).flatten.length=64*q:=by
 constructor
 .unfold cO;rw[<-List.flatten_append];congr 1;have:D.now.drop 1=(D.now.drop 1).take q++(D.now.drop 1).drop q:=(List.take_append_drop _ _).symm;rw[List.drop_drop]at this;rw[this,List.drop_take];simp
 rw[List.drop_take,show 1+q-1=q by omega];exact fI (λb h=>g.pg b (List.mem_of_mem_drop h)) (by rw[List.length_drop,g.len];omega)
theorem SX(g:Good D P)(a:Nat)(b:Bs)(h:64+a+b.length<=P*64)(u:0<b.length):
 ∃c,bO D a b=(0,c)/\Good c P/\c.ws=[]/\c.now.take 1=D.now.take 1/\(cO c).take (a+b.length)=(cO D).take a++b:=by
 obtain⟨q,o⟩:∃q,q=a / 64:=⟨_,rfl⟩;obtain⟨r,p⟩:∃r,r=a % 64:=⟨_,rfl⟩;have s:a=64*q+r:=by omega
 have k:r<64:=by omega
 have J:1+q<P:=by omega
 have Z:1+q<=P:=by omega
 obtain⟨pg,y⟩:∃pg,D.now[1+q]? =some pg:=by
  have:1+q<D.now.length:=by rw[g.len];exact J
  exact⟨_,List.getElem?_eq_getElem this⟩
 have Q:pg.length=64:=g.pg pg (List.mem_of_getElem? y);have key:∃c,bO D a b=(0,c)/\Good c P/\c.ws=[]/\c.now.take (1+q)=D.now.take (1+q)/\(c.now.drop (1+q)).flatten.take (r+b.length)=pg.take r++b:=by
  unfold bO;rw[<-o,<-p];by_cases h0:r=0
  .rw[if_pos h0];obtain⟨c,e,d,w,t,f⟩:=DS b.length D (1+q) b (Nat.le_refl _) g (by omega);exact⟨c,e,d,w,t,by rw[h0,Nat.zero_add,f];rfl⟩
  have m:dV D ((1+q:Nat):Int) 0=0:=by unfold dV;rw[g.dead,if_neg (by simp),if_neg (by have:=g.len;omega)]
  have I:cH D ((1+q:Nat):Int)=pg:=by unfold cH;rw[Int.toNat_natCast,y];rfl
  rw[if_neg h0,m,if_neg (by simp),I];have hl:(pg.take r++b).length=r+b.length:=by rw[List.length_append,List.length_take];omega
  obtain⟨c,e,d,w,t,f⟩:=DS _ D (1+q) (pg.take r++b) (Nat.le_refl _) g (by omega);exact⟨c,e,d,w,t,by rw[hl]at f;exact f⟩
 obtain⟨c,e,d,w,t,f⟩:=key;refine⟨c,e,d,w,?_,?_⟩
 .have j:c.now.take 1=(c.now.take (1+q)).take 1:=by rw[List.take_take,Nat.min_eq_left (by omega)]
  rw[j,t,List.take_take,Nat.min_eq_left (by omega)]
 obtain⟨s1,s2⟩:=BO g q Z;obtain⟨s3,v⟩:=BO d q Z;rw[t]at s3;have hd:D.now.drop (1+q)=pg::D.now.drop (1+q+1):=by obtain⟨F,n⟩:=List.getElem?_eq_some_iff.1 y;rw[List.drop_eq_getElem_cons F,n]
 rw[s1,s3,hd,List.flatten_cons];generalize ((D.now.take (1+q)).drop 1).flatten=X at *;rw[List.take_append,List.take_append,s2,List.take_of_length_le (l:=X) (i:=a+b.length) (by omega),List.take_of_length_le (l:=X) (i:=a) (by omega),List.append_assoc];congr 1;rw[show a+b.length-64*q=r+b.length by omega,show a-64*q=r by omega,f,List.take_append_of_le_length (by omega)]
def km(rs:List Bs):Bs:=(rs.map λl=>bR (l.length:Int)++l).flatten
structure xS(g:Lg)(P:Nat)(rs:List Bs):Prop where
 gX:Good g.D P
 n:g.n=rs.length
 s:g.s=(km rs).length
 body:(cO g.D).take g.s=km rs
 hd:g.D.now[0]? =some (dC (oJ g.s g.n))
 ws:g.D.ws=[]
theorem zC(I:xS g P r)(l:Bs)(hl:l.length<=65536)(t:64+g.s+8+l.length<=P*64):∃b,aT g l=(0,b)/\xS b P (r++[l])/\b.s=g.s+8+l.length:=by
 have e:=bW (l.length:Int);have K:(bR (l.length:Int)++l).length=8+l.length:=by rw[List.length_append,e]
 obtain⟨a,e1,d,z,v,o⟩:=SX I.gX g.s (bR (l.length:Int)++l) (by omega) (by omega);have Y:(oJ (g.s+8+l.length) (g.n+1)).length=16:=by unfold oJ;rw[List.length_append];rfl
 obtain⟨j,k,p,f⟩:=Hb d (n:=0) (l:=oJ (g.s+8+l.length) (g.n+1)) (by omega) (by omega);obtain⟨D,m,q,w,i⟩:=Fi p;have J:bg a 0 (oJ (g.s+8+l.length) (g.n+1))=(0,j):=k;have h:Qa g l=(0,D):=by unfold Qa;rw[e1,J,m]
 have s:cO D=cO a:=by
  unfold cO;rw[i,f];cases u:a.now with
  |nil=>rfl
  |cons x y=>rfl
 have c:0<a.now.length:=by rw[d.len];omega
 refine⟨⟨D,g.s+8+l.length,g.n+1⟩,?_,⟨q,?_,?_,?_,?_,w⟩,rfl⟩
 .unfold aT;rw[if_neg (by omega),if_neg (by have:=I.gX.len;omega),e1];rw[if_neg (by simp),J,if_neg (by simp),h];rfl
 .show g.n+1=_;rw[List.length_append,I.n];rfl
 .show g.s+8+l.length=_;unfold km;rw[List.map_append,List.flatten_append,List.length_append,I.s];simp[km,e];omega
 .show(cO D).take (g.s+8+l.length)=_;rw[s,show g.s+8+l.length=g.s+(bR (l.length:Int)++l).length by omega,o,I.body];unfold km;simp
 show D.now[0]? =_;rw[i,f,List.getElem?_set_self c]
theorem yg(n:Nat):(u8 (n:Int)).toNat=n % 256:=by
 unfold u8;have:((n:Int) % 256).toNat=n % 256:=by omega
 rw[this,UInt8.toNat_ofNat'];omega
theorem MG(h:n<2^63):lq (bR (n:Int))=n:=by
 have b:∀k,(fY (n:Int) k).toNat=n / 2^(8*k) % 256:=λk=>by
  unfold fY;have e:((n:Int) % 18446744073709551616 / (2^(8*k)))=((n / 2^(8*k):Nat):Int):=by
   have:(n:Int) % 18446744073709551616=(n:Int):=by omega
   rw[this];simp
  rw[e,yg]
 show lq [fY n 0,fY n 1,fY n 2,fY n 3,fY n 4,fY n 5,fY n 6,fY n 7]=n;simp only[lq,b];omega
theorem HS(h:n<2^63)(l:Bs):dq (bR (n:Int)++l)=n:=by unfold dq;rw[List.take_append_of_le_length (by rw[bW];omega),List.take_of_length_le (by rw[bW];omega),MG h,IntWalk.i64_in _ (by omega)]
theorem AW(h:n<2^63)(l:Bs):rS (bR (n:Int)++l)=n:=HS h l
theorem Vn:∀(s:List Bs),(∀l∈s,l.length<2^63)->dy (km s) s.length=(s,[]):=λs=>by
 induction s with
 |nil=>intro _;rfl
 |cons l r i=>
  intro h;have hl:=h l (by simp);have c:km (l::r)=bR (l.length:Int)++(l++km r):=by unfold km;simp
  have a:=bW (l.length:Int);have f:dq (bR (l.length:Int)++(l++km r))=l.length:=HS hl _;have e:(bR (l.length:Int)++(l++km r)).length=8+(l.length+(km r).length):=by rw[List.length_append,List.length_append,a]
  rw[c,List.length_cons];unfold dy;rw[f,e,if_pos (by omega),if_pos (by omega),Int.toNat_natCast];have d:(bR (l.length:Int)++(l++km r)).drop 8=l++km r:=by rw[<-a,List.drop_left]
  have b:(bR (l.length:Int)++(l++km r)).drop (8+l.length)=km r:=by rw[<-List.drop_drop,d,List.drop_left]
  rw[d,b,i (λx hx=>h x (by simp[hx])),List.take_left]
theorem VD{l:Bs}{s:List Bs}(h:l∈s):l.length<=(km s).length:=by
 induction s with
 |nil=>cases h
 |cons x r i=>
  have b:km (x::r)=bR (x.length:Int)++(x++km r):=by unfold km;simp
  rw[b,List.length_append,List.length_append];rcases List.mem_cons.1 h with e|e
  .rw[e];omega
  have:=i e;omega
theorem FI(I:xS g P r)(b:0<P)(s:g.s<2^60)(n:g.n<2^60):eV g.D=(⟨g.s,g.n,r,false⟩,0):=by
 have K:cH g.D 0=dC (oJ g.s g.n):=by unfold cH;rw[show(0:Int).toNat=0 from rfl,I.hd];rfl
 have e1:rS (dC (oJ g.s g.n))=g.s:=by unfold dC oJ;rw[List.append_assoc,AW (by omega)]
 have e:rS ((dC (oJ g.s g.n)).drop 8)=g.n:=by unfold dC oJ;have:(bR (g.s:Int)).length=8:=bW _;rw[List.append_assoc,<-this,List.drop_left,AW (by omega)]
 have a:g.s<=(cO g.D).length:=by have:=congrArg List.length I.body;rw[List.length_take,<-I.s]at this;omega
 unfold eV;rw[I.gX.dead,if_neg (by simp),K,e1,e];unfold wQ;have h:=Vn r (λl hl=>by have:=VD hl;rw[<-I.s]at this;omega);rw[if_neg (by omega),Int.toNat_natCast,Int.toNat_natCast,I.body,I.n,h];simp
structure TI(d:DB):Prop where
 gz:d.aj.Pairwise (λa b=>cT a.S.name b.S.name<0)
 le:d.aj.length<=8
 rows:∀t∈d.aj,t.rows=[]/\t.S.name.size<=12
 ah:d.ah=[]
 holds:d.holds=[]
 waits:d.waits=[]
theorem TI.small(q:TI d):Small d where
 aj:=by have:=q.le;omega
 ah:=by rw[q.ah];exact Nat.zero_le _
 rows:=λt ht=>by rw[(q.rows t ht).1];exact Nat.zero_le _
 holds:=by rw[q.holds];exact Nat.two_pow_pos _
 waits:=by rw[q.waits];exact Nat.two_pow_pos _
theorem hQI:TI dz:=⟨List.Pairwise.nil,by decide,λt h=>(by cases h),rfl,rfl,rfl⟩
theorem tq(h:d.aj.Pairwise (λa b=>cT a.S.name b.S.name<0))(s:rV):bK d s=ey d s:=by
 obtain⟨i,-,-,-⟩:=wj h s.name;have j:=Mh h s.name;unfold bK eR eJ ey;rw[i,j];have f:((8:Int)<=(d.aj.length:Int))↔8<=d.aj.length:=by omega
 have g:((0:Int)<(d.ah.length:Int))↔0<d.ah.length:=by omega
 generalize d.aj.any (λt=>decide (t.S.name=s.name))=u;by_cases a:dA s=0
 .cases u with
  |true=>simp[a]
  |false=>
   by_cases c:8<=d.aj.length
   .simp[a,c,f]
   by_cases e:0<d.ah.length
   .simp only[a,c,f,g,e,ne_eq,not_true_eq_false,if_false,ge_iff_le,gt_iff_lt,decide_false,decide_true,Bool.false_eq_true,if_true];rfl
   simp only[a,c,f,g,e,ne_eq,not_true_eq_false,if_false,ge_iff_le,gt_iff_lt,decide_false,decide_true,Bool.false_eq_true,if_true]
 simp[a]
structure SW(G:Lg)(d:DB)(i:Nat):Prop where
 ti:TI d
 out:∃rs,xS G 60 rs/\kQ dz rs=some d/\(∀l∈rs,(az 1 (some l)).1=1\/(az 1 (some l)).1=2)/\(∀k dk,kQ dz (rs.take k)=some dk->Small dk)
 s:G.s<=38*i
 n:G.n<=i
theorem cXt(hP:0<P):xS ⟨Gn P,0,0⟩ P []where
 gX:=⟨rfl,Int.lt_irrefl 0,by show(List.replicate P Di).length=P;rw[List.length_replicate],λb hb=>by
  have:b∈List.replicate P Di:=hb;rw[List.eq_of_mem_replicate this];rfl⟩
 n:=rfl
 s:=rfl
 body:=rfl
 hd:=by show(List.replicate P Di)[0]? =_;rw[List.getElem?_replicate,if_pos hP];exact congrArg some (show Di=dC (oJ 0 0)from by kernel_rfl)
 ws:=rfl
theorem dKj{p:Nat}(q:lY h p g.D)(I:xS g P r)(c:0<P)(o:g.s<2^60)(n:g.n<2^60)(e:kQ dz r=some d)
 (J:∀l∈r,(az 1 (some l)).1=1\/(az 1 (some l)).1=2) (S:∀k a,kQ dz (r.take k)=some a->Small a) 
 (m:∀h' s,dI OH h h'->AA h' s p g d L0->k (.tuple #[.pointer (some ⟨s,0,none⟩),.int .i64 0]) h'):
 Ct 19 [.pointer (some ⟨p,0,none⟩)] h k:=by
 have hl:=FI I c o n;refine dKh q (by rw[I.gX.len];exact c) (by rw[hl];exact J) (by rw[hl];exact S) (λb=>?_) (λh' s j x v _ _ G i t f u=>?_)
 .rw[hl,e]at b;rcases b with b|b|b
  .exact absurd rfl b
  .cases b
  cases b
 rw[hl]at G f;rw[e]at G;cases G;exact m h' s i ⟨j,x,t,f,q.lt (i.t (by decide)),u⟩
theorem HJ{P:Program}{t:TypeId}(h:P.underlying t=some (.pointer e))(p:Option Addr)(w:World):(Op.equal t (.pointer p) (.pointer none)).run P w=.ok p.isNone w:=by unfold Op.equal Op.maxDepth Op.equalIn;rw[Sem.run_bind,run_underlying h,Result.andThen_ok];cases p<;>rfl
theorem ZL{P:Program}{t:TypeId}(h:P.underlying t=some (.pointer e)){x:Operand}{k:Value->Prop}(b:k (.bool p.isNone)):
 tG (λ_=>P) (λ_=>do
  eqGuard .eql t x (.const (.pointer none)) (.pointer p) (.pointer none)
  Go.binOp .eql t (.pointer p) (.pointer none)) k:=by
 refine⟨_,λw=>?_,b⟩;have g:(eqGuard .eql t x (.const (.pointer none)) (.pointer p) (.pointer none)).run P w=.ok () w:=by unfold eqGuard;split<;>rfl
 have a:Go.binOp .eql t (.pointer p) (.pointer none)=Functor.map Value.bool (Op.equal t (.pointer p) (.pointer none)):=rfl;rw[Sem.run_bind,g,Result.andThen_ok,a];simp[HJ h];try rfl
theorem Yk{P:Program}{t:TypeId}(h:P.underlying t=some (.pointer e)){x:Operand}{k:Value->Prop}(c:k (.bool (!p.isNone))):
 tG (λ_=>P) (λ_=>do
  eqGuard .neq t x (.const (.pointer none)) (.pointer p) (.pointer none)
  Go.binOp .neq t (.pointer p) (.pointer none)) k:=by
 refine⟨_,λw=>?_,c⟩;have g:(eqGuard .neq t x (.const (.pointer none)) (.pointer p) (.pointer none)).run P w=.ok () w:=by unfold eqGuard;split<;>rfl
 have a:Go.binOp .neq t (.pointer p) (.pointer none)=Functor.map (λb=>Value.bool (!b)) (Op.equal t (.pointer p) (.pointer none)):=rfl;rw[Sem.run_bind,g,Result.andThen_ok,a];simp[HJ h];try rfl
theorem Ro:Tryz.prog.underlying 36=some (.pointer 94):=by kernel_rfl
theorem Ob:Tryz.prog.underlying 38=some (.pointer 158):=by kernel_rfl
theorem Yx(h:ab)(i:∀h',dI OH h h'->k (.bool true) h'):Ct 9 [] h k:=by
 obtain⟨A,d⟩:=Ar.ex;have I:A .ay .eql 0 0=true:=by rw[aq A];rfl
 have Z:A .ay .eql (A .nat 0) 0=true:=by rw[aq A,d.nat];rfl
 refine bB T9 A Tryz.func9 ?_;cbv;refine dKl (n:=9) ⟨rfl⟩ (by omega) (by omega) (λL p O j q=>?_);cbv;refine ZL Ro ?_;cbv;refine dKj (g:=⟨Gn 9,0,0⟩) q (cXt (by omega)) (by omega) (by decide) (by decide) rfl (λl hl=>by cases hl) (λk K b=>?_) (λM s x w=>?_)
 .rw[List.take_nil]at b;cases b;exact hQI.small
 cbv;rw[I];cbv;refine Yk Ob ?_;cbv;refine dJY w (λN u o D v P E y Q F z R G a r=>?_);have e:o=0:=by obtain⟨_,_,_,_,_,_,_,_,_,_,_,_,S,f,t,_⟩:=r.out;cases f;exact t.len
 subst e;cbv;rw[Z];cbv;refine fKT (w.lx a) (λc B H C J m=>?_);have:=i c (((j.x _).trans x).trans ((a.trans m).x _));cbv;rw[Z];cbv;exact this
theorem Hd(a:Int)(n:Nat)(p:0<n)(Z:n<=2^40)(h:ab)(l:∀z i,aK z i->i=(a % (n:Int)).toNat->i<n->k (.int .i64 z) h):Ct 11 [.int .i64 a,.int .i64 (n:Int)] h k:=by
 obtain⟨A,c⟩:=Ar.ex;obtain⟨m,b⟩:∃m:Int,m=(n:Int):=⟨_,rfl⟩;rw[<-b];have V:m≠0:=by omega
 have w:A .aC .rem .i64 a m=a.tmod m:=by rw[c.aC];rfl
 have H:a.tmod m<m:=by have:=Int.tmod_lt_of_pos a (show 0<m by omega);omega
 have N:-m<a.tmod m:=by have:=Int.lt_tmod_of_pos a (show 0<m by omega);omega
 have s:a % m=if a.tmod m<0 then a.tmod m+m else a.tmod m:=by
  rw[Int.tmod_eq_emod];have g:=Int.emod_nonneg a V;have j:=Int.emod_lt_of_pos a (show 0<m by omega);by_cases d:0<=a\/m ∣ a
  .rw[if_pos d];rw[if_neg (by omega)];omega
  rw[if_neg d];have:(m.natAbs:Int)=m:=by omega
  rw[this,if_pos (by omega)];omega
 generalize q:a.tmod m=t at *;generalize e:A .ay .lss t 0=u;have f:=e;rw[aD A]at e;have key:∀z:Int,z=a % m->k (.int .i64 z) h:=λz r=>by
  have g:=Int.emod_nonneg a V;have j:=Int.emod_lt_of_pos a (show 0<m by omega);refine l z (a % (n:Int)).toNat ⟨?_⟩ rfl ?_
  .rw[<-b];omega
  rw[<-b];omega
 have Y:t<0->A .aC .add .i64 t m=t+m:=λh=>by
  rw[c.aC];simp only[aC];rw[IntWalk.i64_in _ (by omega)]
 refine bB gKw A Tryz.func11 ?_;cbv;refine⟨V,?_⟩;cbv;rw[w];rw[f];cases u with
 |true=>have U:=of_decide_eq_true e;have o:=key (t+m) (by rw[s,if_pos U]);cbv;rw[Y U];exact o
 |false=>have U:=of_decide_eq_false e;have o:=key t (by rw[s,if_neg U]);cbv;exact o
end Go.S
