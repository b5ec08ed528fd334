import Derived.Test.YtficmdggjjepmaaGreatNA
import Derived.Test.YtficmdggjjepmaaGreatBD
import Derived.Test.YtficmdggjjepmaaGreatI2b
set_option linter.all false
set_option maxRecDepth 100000
namespace Go.S
open Go.Sx Go.Proofs
variable {d:DB}{D:Dk}{P:Nat}{p:Option Addr}{k:Value->ab->Prop}{A h h0:ab}
structure Good(D:Dk)(P:Nat):Prop where
 dead:D.dead=false
 left:¬D.left>0
 len:D.now.length=P
 pg:∀b∈D.now,b.length=64
theorem Kw(g:Good D P):dG D=(false,D):=by unfold dG;rw[if_neg g.left]
theorem DM(g:Good D P):∃a,cJ D=(0,a)/\Good a P/\a.ws=[]/\a.now=D.now:=by unfold cJ;rw[Kw g,g.dead];exact⟨_,rfl,⟨g.dead,g.left,g.len,g.pg⟩,rfl,rfl⟩
theorem Fu(g:Good D P){n:Nat}{l:Bs}(f:n<P)(hl:l.length<=64):∃a,aY D (n:Int) l=(0,a)/\Good a P/\a.now=D.now.set n (dQ l):=by
 have e:dL D (n:Int) l.length=0:=by unfold dL;rw[g.dead,if_neg (by simp),if_neg (by have:=g.len;omega)]
 unfold aY;rw[e,if_neg (by simp),zw];have c:Good { D with now:=D.now.set n (dQ l),ws:=D.ws++[((n:Int),dQ l)] } P:=
  ⟨g.dead,g.left,by show(D.now.set n _).length=P;rw[ml];exact g.len,λb d=>by
   rcases iQg d with h|h
   .exact g.pg b h
   rw[h];exact oh hl⟩
 rw[Kw c];exact⟨_,rfl,c,rfl⟩
theorem Mv{l:Bs}:(dQ l).take l.length=l:=by unfold dQ;rw[hKs (mr _),hJz]
theorem Ce:∀(n:Nat) (D:Dk) (pg:Nat) (b:Bs),b.length<=n->Good D P->pg*64+b.length<=P*64->
 ∃a,cO D pg b=(0,a)/\Good a P/\a.ws=[]/\a.now.take pg=D.now.take pg/\(a.now.drop pg).flatten.take b.length=b:=λn=>by
 induction n with
 |zero=>intro D pg b c g h;have c:b=[]:=ee (by omega);obtain⟨a,e,d,w,i⟩:=DM g;refine⟨a,?_,d,w,by rw[i],by rw[c];rfl⟩;rw[cO,dif_pos c,e]
 |succ n y=>
  intro D pg b c g h;by_cases m:b=[]
  .obtain⟨a,e,d,w,i⟩:=DM g;refine⟨a,?_,d,w,by rw[i],by rw[m];rfl⟩;rw[cO,dif_pos m,e]
  have C:=hJS.2 m;obtain⟨o,e1,q,k⟩:=Fu g (n:=pg) (l:=b.take 64) (by omega) (by rw[dW];omega);obtain⟨a,p,r,B,t,j⟩:=y o (pg+1) (b.drop 64) (by rw[ec];omega) q (by rw[ec];omega);have Z:pg<D.now.length:=by rw[g.len];omega
  have A:a.now[pg]? =some (dQ (b.take 64)):=by have:=congrArg (λz=>z[pg]?) t;simp only[hU]at this;rw[if_pos (by omega),if_pos (by omega),k,hKb Z]at this;exact this
  refine⟨a,?_,r,B,?_,?_⟩
  .rw[cO,dif_neg m,e1];exact p
  .have s:a.now.take pg=(a.now.take (pg+1)).take pg:=by rw[hKg,zv (by omega)]
   rw[s,t,hKg,zv (by omega),k,List.take_set_of_le (mr _)]
  have u:a.now.drop pg=dQ (b.take 64)::a.now.drop (pg+1):=by obtain⟨I,v⟩:=dB.1 A;rw[qM I,v]
  have J:(dQ (b.take 64)).length=64:=oh (by rw[dW];omega);rw[u,hKm,List.take_append,J];by_cases f:b.length<=64
  .have h0:b.length-64=0:=by omega
   rw[h0,List.take_zero,wS,hO (l:=b) f];exact Mv
  have Q:(b.take 64).length=64:=by rw[dW];omega
  have x:dQ (b.take 64)=b.take 64:=by unfold dQ;rw[Q];simp
  rw[ec]at j;rw[j,x,hO (by omega),hJO]
theorem eX{q:Nat}:∀ {xs:List Bs},(∀b∈xs,b.length=64)->q<=xs.length->(xs.take q).flatten.length=64*q:=λ{xs} hx a=>by
 rw[mV (λb h=>hx b (hKf h)),dW,zv a];try omega
theorem Ab(g:Good D P)(q:Nat)(a:1+q<=P):bN D=((D.now.take (1+q)).drop 1).flatten++(D.now.drop (1+q)).flatten/\((D.now.take (1+q)).drop 1).flatten.length=64*q:=by
 constructor
 .unfold bN;rw[<-List.flatten_append];congr 1;have:D.now.drop 1=(D.now.drop 1).take q++(D.now.drop 1).drop q:=(hJO _ _).symm;rw[hKa]at this;rw[this,List.drop_take];simp
 rw[List.drop_take,show 1+q-1=q by omega];exact eX (λb h=>g.pg b (hJC h)) (by rw[ec,g.len];omega)
theorem PS(g:Good D P)(a:Nat)(b:Bs)(h:64+a+b.length<=P*64)(A:0<b.length):
 ∃c,bR D a b=(0,c)/\Good c P/\c.ws=[]/\c.now.take 1=D.now.take 1/\(bN c).take (a+b.length)=(bN D).take a++b:=by
 obtain⟨q,o⟩:∃q,q=a / 64:=⟨_,rfl⟩;obtain⟨r,v⟩:∃r,r=a % 64:=⟨_,rfl⟩;have z:a=64*q+r:=by omega
 have M:r<64:=by omega
 have Q:1+q<P:=by omega
 have J:1+q<=P:=by omega
 obtain⟨pg,u⟩:∃pg,D.now[1+q]? =some pg:=by
  have:1+q<D.now.length:=by rw[g.len];exact Q
  exact⟨_,zs this⟩
 have p:pg.length=64:=g.pg pg (kF u);have key:∃c,bR D a b=(0,c)/\Good c P/\c.ws=[]/\c.now.take (1+q)=D.now.take (1+q)/\(c.now.drop (1+q)).flatten.take (r+b.length)=pg.take r++b:=by
  unfold bR;rw[<-o,<-v];by_cases h0:r=0
  .rw[if_pos h0];obtain⟨c,e,d,w,t,f⟩:=Ce b.length D (1+q) b (mr _) g (by omega);exact⟨c,e,d,w,t,by rw[h0,qp,f];rfl⟩
  have k:dL D ((1+q:Nat):Int) 0=0:=by unfold dL;rw[g.dead,if_neg (by simp),if_neg (by have:=g.len;omega)]
  have Z:bQ D ((1+q:Nat):Int)=pg:=by unfold bQ;rw[zw,u];rfl
  rw[if_neg h0,k,if_neg (by simp),Z];have hl:(pg.take r++b).length=r+b.length:=by rw[dr,dW];omega
  obtain⟨c,e,d,w,t,f⟩:=Ce _ D (1+q) (pg.take r++b) (mr _) g (by omega);exact⟨c,e,d,w,t,by rw[hl]at f;exact f⟩
 obtain⟨c,e,d,w,t,f⟩:=key;refine⟨c,e,d,w,?_,?_⟩
 .have j:c.now.take 1=(c.now.take (1+q)).take 1:=by rw[hKg,zv (by omega)]
  rw[j,t,hKg,zv (by omega)]
 obtain⟨x,y⟩:=Ab g q J;obtain⟨s,B⟩:=Ab d q J;rw[t]at s;have m:D.now.drop (1+q)=pg::D.now.drop (1+q+1):=by obtain⟨I,n⟩:=dB.1 u;rw[qM I,n]
 rw[x,s,m,hKm];generalize ((D.now.take (1+q)).drop 1).flatten=X at *;rw[List.take_append,List.take_append,y,hO (l:=X) (i:=a+b.length) (by omega),hO (l:=X) (i:=a) (by omega),ym];congr 1;rw[show a+b.length-64*q=r+b.length by omega,show a-64*q=r by omega,f,hKs (by omega)]
def jv(rs:List Bs):Bs:=(rs.map λl=>cC (l.length:Int)++l).flatten
structure HN(g:Lg)(P:Nat)(rs:List Bs):Prop where
 iE:Good g.D P
 n:g.n=rs.length
 s:g.s=(jv rs).length
 body:(bN g.D).take g.s=jv rs
 hd:g.D.now[0]? =some (dQ (oY g.s g.n))
 ws:g.D.ws=[]
theorem Dw{g:Lg}{r:List Bs}(I:HN g P r)(l:Bs)(hl:l.length<=65536)(t:64+g.s+8+l.length<=P*64):∃c,bp g l=(0,c)/\HN c P (r++[l])/\c.s=g.s+8+l.length:=by
 have h:=cR (l.length:Int);have F:(cC (l.length:Int)++l).length=8+l.length:=by rw[dr,h]
 obtain⟨a,e1,d,z,v,o⟩:=PS I.iE g.s (cC (l.length:Int)++l) (by omega) (by omega);have Q:(oY (g.s+8+l.length) (g.n+1)).length=16:=by unfold oY;rw[dr];rfl
 obtain⟨j,k,p,e⟩:=Fu d (n:=0) (l:=oY (g.s+8+l.length) (g.n+1)) (by omega) (by omega);obtain⟨D,m,q,w,i⟩:=DM p;have f:aY a 0 (oY (g.s+8+l.length) (g.n+1))=(0,j):=k;have K:NI g l=(0,D):=by unfold NI;rw[e1,f,m]
 have s:bN D=bN a:=by
  unfold bN;rw[i,e];cases u:a.now with
  |nil=>rfl
  |cons x y=>rfl
 have b:0<a.now.length:=by rw[d.len];omega
 refine⟨⟨D,g.s+8+l.length,g.n+1⟩,?_,⟨q,?_,?_,?_,?_,w⟩,rfl⟩
 .unfold bp;rw[if_neg (by omega),if_neg (by have:=I.iE.len;omega),e1];rw[if_neg (by simp),f,if_neg (by simp),K];rfl
 .show g.n+1=_;rw[dr,I.n];rfl
 .show g.s+8+l.length=_;unfold jv;rw[hKq,List.flatten_append,dr,I.s];simp[jv,h];omega
 .show(bN D).take (g.s+8+l.length)=_;rw[s,show g.s+8+l.length=g.s+(cC (l.length:Int)++l).length by omega,o,I.body];unfold jv;simp
 show D.now[0]? =_;rw[i,e,hKb b]
structure TI(d:DB):Prop where
 jd:d.al.Pairwise (λa b=>cU a.S.name b.S.name<0)
 le:d.al.length<=8
 rows:∀t∈d.al,t.rows=[]/\t.S.name.size<=12
 aj:d.aj=[]
 holds:d.holds=[]
 waits:d.waits=[]
theorem rD(h:d.al.Pairwise (λa b=>cU a.S.name b.S.name<0))(s:rM):cm d s=dY d s:=by
 obtain⟨i,-,-,-⟩:=uH h s.name;have j:=Ks h s.name;unfold cm eC eo dY;rw[i,j];have f:((8:Int)<=(d.al.length:Int))↔8<=d.al.length:=by omega
 have g:((0:Int)<(d.aj.length:Int))↔0<d.aj.length:=by omega
 generalize d.al.any (λt=>decide (t.S.name=s.name))=u;by_cases a:dA s=0
 .cases u with
  |true=>simp[a]
  |false=>
   by_cases c:8<=d.al.length
   .simp[a,c,f]
   by_cases e:0<d.aj.length
   .simp only[a,c,f,g,e,ne_eq,not_true_eq_false,if_false,ge_iff_le,gt_iff_lt,decide_false,decide_true,hKN,if_true];rfl
   simp only[a,c,f,g,e,ne_eq,not_true_eq_false,if_false,ge_iff_le,gt_iff_lt,decide_false,decide_true,hKN,if_true]
 simp[a]
structure SW(G:Lg)(d:DB)(i:Nat):Prop where
 ti:TI d
 out:∃rs,HN G 60 rs/\jJ dz rs=some d/\(∀l∈rs,(ar 1 (some l)).1=1\/(ar 1 (some l)).1=2)/\(∀k dk,jJ dz (rs.take k)=some dk->Small dk)
 s:G.s<=38*i
 n:G.n<=i
set_option maxHeartbeats 8000000
theorem bZI(hP:0<P):HN ⟨wh P,0,0⟩ P []where
 iE:=⟨rfl,Int.lt_irrefl 0,by show(List.replicate P yL).length=P;rw[hJD],λb hb=>by
  have:b∈List.replicate P yL:=hb;rw[List.eq_of_mem_replicate this];rfl⟩
 n:=rfl
 s:=rfl
 body:=rfl
 hd:=by show(List.replicate P yL)[0]? =_;rw[hKL,if_pos hP];exact congrArg some (show yL=dQ (oY 0 0)from by kernel_rfl)
 ws:=rfl
theorem FZ{P:Program}{t e:TypeId}(h:P.underlying t=some (.pointer e))(p:Option Addr)(w:World):(Op.equal t (.pointer p) (.pointer none)).run P w=.ok p.isNone w:=by unfold Op.equal Op.maxDepth Op.equalIn;rw[mc,run_underlying h,hM];cases p<;>rfl
theorem Ls{P:Program}{t e:TypeId}(h:P.underlying t=some (.pointer e)){x:Operand}{k:Value->Prop}(b:k (.bool p.isNone)):
 rO (λ_=>P) (λ_=>do
  eqGuard .eql t x (.const (.pointer none)) (.pointer p) (.pointer none)
  Go.binOp .eql t (.pointer p) (.pointer none)) k:=by
 refine⟨_,λw=>?_,b⟩;have g:(eqGuard .eql t x (.const (.pointer none)) (.pointer p) (.pointer none)).run P w=.ok () w:=by unfold eqGuard;split<;>rfl
 have a:Go.binOp .eql t (.pointer p) (.pointer none)=Functor.map Value.bool (Op.equal t (.pointer p) (.pointer none)):=rfl;rw[mc,g,hM,a];simp[FZ h];try rfl
theorem FF:Tryz.prog.underlying 25=some (.pointer 120):=by kernel_rfl
theorem Xc{E m o:Option Addr}{c e g r y w B x:Nat}(q:RP h E c e m g r o y w p B x d)(I:d.al.Pairwise (λa b=>cU a.S.name b.S.name<0))(K:d.al.length<=8)(nm:ByteArray){D:DB×Int}(L:dD d nm=D)(M:RK h D.1 D.2 k):
 Ct 24 [.agg #[.slice E c e,.slice m g r,.slice o y w,.slice p B x],.string nm] h k:=by
 obtain⟨A,hA⟩:=Ar.ex;have X:A .az .lss (-1) 0=true:=by rw[aJ A];rfl
 have eL:=q.al.len;have eE:=q.aj.len;have iD:=q.al.bound;have vY:=K;have f1:A .az .gtr (A .nat g) 0=decide ((d.aj.length:Int)>0):=by rw[aO A,hA.nat,eE];rfl
 refine dH dZq A Tryz.func24 ?_;cbv;refine(EH q).mono (λv F hR=>?_);obtain⟨H,j,rfl,P⟩:=hR;have C:=q.mono H;rcases Kr I P with⟨rfl,hb,-⟩|⟨i,t,G,ht,oH,e1,e2⟩
 .have f:D=(d,2):=by rw[<-L];unfold dD;rw[hb];rfl
  subst f;have l:=M F E c e m g r o y w p B x H C;cbv;rw[X];cbv;exact l
 have jZ:=(dB.1 ht).1;have f:D=if decide ((d.aj.length:Int)>0)=true then(d,18)else(⟨d.al.take i++d.al.drop (i+1),d.aj,d.holds,d.waits⟩,0):=by rw[<-L];unfold dD;rw[e2,e1,hKI];rfl
 clear L P;have Y:A .az .lss j 0=false:=G.vf (A:=A);have J:=G.succ (A:=A);have O:A .mW j 0=i:=cQ (A:=A) G;have W:=bZ (A:=A) J (n:=c);obtain⟨Jt,Js⟩:=iD;have eW:0<=j/\j<=(e:Int):=by have:=G.eq;omega
 have lG:0<=A .aC .add .i64 j 1/\A .aC .add .i64 j 1<=(c:Int):=by have:=J.eq;omega
 have fZ:i<=c:=by omega
 have Z:i+1<=c:=by omega
 cbv;rw[Y];cbv;rw[f1];generalize decide ((d.aj.length:Int)>0)=u at *;cases u with
 |true=>have f:D=(d,18):=f;subst f;have l:=M F E c e m g r o y w p B x H C;cbv;exact l
 |false=>
  have f:D=(⟨d.al.take i++d.al.drop (i+1),d.aj,d.holds,d.waits⟩,0):=f;subst f;cbv;intro n6 R g6 e6;have S:Le F R:=by rw[e6];exact Le.set g6
  have q6:=C.mono S;have lR:aT 198 bu F R (.slice (some ⟨n6,0,none⟩) 0 0) ([]:List bM):=aT.nil;cbv;refine⟨eW,?_⟩;cbv;refine lR.append (q6.al.qu (A:=A) (s:=bu) (z:=A .nat e) fZ O O) (by decide) rfl (by decide) (by rw[O];omega) S (λm7 b7 c7 h7 RV T t7 k7 V=>?_);rw[hJG]at V;have q7:=C.mono T;cbv;refine⟨lG,?_⟩;cbv;refine V.append (q7.al.gT (A:=A) (s:=bu) J Z W (c':=e-(i+1)) rfl) (by decide) rfl (by decide) (by rw[W];omega) T (λm8 b8 c8 h8 ai U t8 k8 Q=>?_);have N:=C.mono U;have l:=M h8 b8 m8 c8 m g r o y w p B x (H.trans U) ⟨Q.sl,N.aj,N.holds,N.waits⟩;cbv;exact l
set_option maxHeartbeats 1000000
structure Fz(h0 hA h:ab):Prop where
 le:Le hA h
 jO:∀b o,h0 b=some o->h b=some o/\hA b=none
theorem Fz.base(q:Fz h0 A h):Le h0 h:=λb o a=>(q.jO b o a).1
theorem Fz.to{h':ab}(q:Fz h0 A h)(l:Le h h'):Fz h0 A h':=⟨q.le.trans l,λb o a=>⟨l _ _ (q.jO b o a).1,(q.jO b o a).2⟩⟩
theorem Fz.WN{ex:List Nat}{f:FuncId}{args:List Value}{P:Value->ab->Prop}(q:Fz h0 A h)(c:Ct f args A (λv h'=>cY ex A h'/\P v h'))
 (e:∀v s h',P v s->Fz h0 s h'->cY ex h h'->k v h'):Ct f args h k:=by
 refine Ca.WN q.le c (λv s h' hR l fr=>e v s h' hR.2 ⟨l,λb o a=>?_⟩ (λb o a m=>?_))
 .have d:=q.jO b o a;exact fr b o d.2 d.1
 cases R:A b with
 |none=>exact(fr b o R a).1
 |some o'=>have:=q.le b o' R;rw[a]at this;cases this;exact l _ _ (hR.1 b o R m)
end Go.S
