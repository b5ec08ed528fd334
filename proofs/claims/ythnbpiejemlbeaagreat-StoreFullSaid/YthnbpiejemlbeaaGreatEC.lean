import Derived.Test.YthnbpiejemlbeaaGreatEB
set_option linter.all false
set_option maxRecDepth 100000
set_option maxHeartbeats 8000000
namespace Go.S
open Go.Sx Go.Proofs
variable {only:Bool}{nm s:ByteArray}{d:DB}{D:DB×Int}{key z:Int}{cols:List iK}{i j n:Nat}{b:Option Addr}{k:Value->ab->Prop}{h h':ab}
def bH(W:List ep)(s:Int):List Int:=W.map λx=>IntKind.i64.wrap (x.s-s)
def Dv(d:DB)(hd:bG):Bool:=gZ (bH d.ah hd.s)&&gZ (aB d.aj hd.table)
structure Small(d:DB):Prop where
 aj:d.aj.length<=2^37
 ah:d.ah.length<=2^37
 rows:∀t∈d.aj,t.rows.length<=2^37
 holds:d.holds.length<2^18
 waits:d.waits.length<2^18
def bK(d:DB)(s:rV):DB×Int:=eR d s (cR (aB d.aj s.name)) (gZ (aB d.aj s.name))
def jT(d:DB)(s:Int):DB×Int:=iR d s (cR (bH d.ah s)) (gZ (bH d.ah s))
abbrev QO(h:ab)(d':DB)(e:Int)(k:Value->ab->Prop):Prop:=
 ∀h' b1 n1 c1 b2 n2 c2 b3 n3 c3 b4 n4 c4,Le h h'->eD h' (.agg #[.slice b1 n1 c1,.slice b2 n2 c2,.slice b3 n3 c3,.slice b4 n4 c4]) d'->k (.tuple #[.agg #[.slice b1 n1 c1,.slice b2 n2 c2,.slice b3 n3 c3,.slice b4 n4 c4],.int .i64 e]) h'
theorem FP(a:aK z i)(b:aK z j):i=j:=by have:=a.eq;have:=b.eq;omega
theorem zu{v:Value}(q:eD h v d){s:Option Addr}{b:Nat}(x:Sl 202 bh h (.slice s n b) cols)(m:Small d)(o:bK d ⟨nm,cols,key,only⟩=D)
  (t:QO h D.1 D.2 k):Ct 91 [v,.agg #[.string nm,.slice s n b,.int .i64 key,.bool only]] h k:=
 (Vp q x m.aj m.ah).mono (λv h' hR=>by
  obtain⟨M,e,z,i,is,u,l,hd,a,w,p⟩:=hR;obtain⟨g,j⟩:=p.at_;have r:=FP w g;have c:eR d ⟨nm,cols,key,only⟩ i is=D:=by rw[<-o,r,j];rfl
  rw[c]at hd a;obtain⟨y,I,E,A,J,F,B,K,G,C,L,H,f⟩:=hd.form;rw[u,f,a];exact t h' _ _ _ _ _ _ _ _ _ _ _ _ l (by rw[<-f];exact hd))
theorem VL{v:Value}(q:eD h v d)(s:Int)(t:Small d)(j:jT d s=D)(o:QO h D.1 D.2 k):Ct 12 [v,.int .i64 s] h k:=
 (aQd q s t.ah).mono (λv h' hR=>by
  obtain⟨J,e,z,i,is,p,l,hd,a,r,m⟩:=hR;obtain⟨b,g⟩:=m.at_;have n:=FP r b;have c:iR d s i is=D:=by rw[<-j,n,g];rfl
  rw[c]at hd a;obtain⟨u,F,A,w,G,B,x,H,C,y,I,E,f⟩:=hd.form;rw[p,f,a];exact o h' _ _ _ _ _ _ _ _ _ _ _ _ l (by rw[<-f];exact hd))
def eXs:DB:=⟨[],[],[],[]⟩
def nA:ByteArray:=⟨#[97]⟩
theorem eKC(h:ab):eD h (.agg #[.slice none 0 0,.slice none 0 0,.slice none 0 0,.slice none 0 0]) eXs:=
 ⟨_,_,_,_,_,_,_,_,_,_,_,_,[],rfl,Sl.nil,Sl.nil,Sl.nil,Sl.nil,rfl⟩
def Fm:List ByteArray:=[⟨#[116,97]⟩,⟨#[116,98]⟩,⟨#[116,99]⟩]
def bq:List iK:=[⟨nA,2,false⟩,⟨⟨#[98]⟩,3,true⟩]
def aA(t:Nat):rV:=⟨(Fm[t]?).getD ig,bq,0,decide (t=2)⟩
theorem Fl{t:Nat}(g:aK z t)(m:t<3)(h:ab)
 (F:∀h' b n c nm o,Le h h'->nm=(aA t).name->o=(aA t).only->Sl 202 bh h' (.slice b n c) bq->k (.agg #[.string nm,.slice b n c,.int .i64 0,.bool o]) h'):Ct 92 [.int .i64 z] h k:=by
 obtain⟨A,H⟩:=Ar.ex;obtain⟨x,hx⟩:=ax (xs:=Fm) (i:=t) m;have O:x=(aA t).name:=by unfold aA;rw[hx];rfl
 have E:A .ay .eql z 2=decide (t=2):=by rw[aq A,decide_eq_decide];have:=g.eq;omega
 have v:(0:Int)<=z/\z<((3:Nat):Int):=g.ix m;refine bB gJC A Tryz.func92 ?_;cbv;intro q e B e1;have G:Le h e:=by rw[e1];exact Le.set B
 have C:=(congrFun e1 q).trans ae;have s1:Sl 202 bh e (.slice (some ⟨q,0,none⟩) 2 2) bq:=by
  refine Sl.fresh (xs:=bq) C ⟨by simp[bq,bh],λj y a=>?_⟩ (by simp[bq]) (by simp[bq])
  match j,a with
  |0,a=>simp[bq]at a;subst a;rfl
  |1,a=>simp[bq]at a;subst a;rfl
  |j+2,a=>simp[bq]at a
 cbv;intro r f Z l;have p:Le e f:=by rw[l];exact Le.set Z
 have D:=(congrFun l r).trans ae;have s2:Sl 9 wu f (.slice (some ⟨r,0,none⟩) 3 3) Fm:=sa (s:=wu) rfl D (x:=⟨#[116,97]⟩) (y:=⟨#[116,98]⟩) (w:=⟨#[116,99]⟩) rfl rfl rfl;cbv;refine⟨⟨rfl,v⟩,?_⟩;cbv;refine s2.load hx g.eq (λcs d=>?_);have d:cs=[.string x]:=d;subst d;have u:=F f _ _ _ x (decide (t=2)) (G.trans p) O rfl (s1.mono (p.t _));cbv;rw[E];exact u
theorem Yu(h:ab):Ct 348 [] h (λv h'=>Le h h'/\∃c,v=.slice (some ⟨c,0,none⟩) 41 41/\Sl 9 wu h' v ir):=by
 refine an dQd Tryz.func348 λA d=>?_;cbv;intro n a b e1;have g:a n=some (.cells (List.toArray (ir.map Value.string)) 9 (0,0)):=by rw[e1];exact ae
 have r:Sx.Rows wu a (ir.map Value.string) 0 ir:=by refine⟨by decide,λi x hx=>?_⟩;have F:=(List.getElem?_eq_some_iff.1 hx).1;show List.take 1 (List.drop (0+i*1) _)=_;rw[Nat.zero_add,Nat.mul_one,List.drop_eq_getElem_cons (by simpa using F)];rw[List.getElem?_eq_some_iff]at hx;simp[hx.2]
 have s:Sl 9 wu a (.slice (some ⟨n,0,none⟩) 41 41) ir:=Sl.fresh (xs:=ir) g r (by decide) (by decide);have hl:Le h a:=by rw[e1];exact Le.set b
 clear g r e1;cbv;exact⟨hl,n,rfl,s⟩
theorem FG:Ct 281 [.string s] h (λv h'=>Le h h'/\∃t,v=.bool t/\t=fA s):=by
 refine an dXk Tryz.func281 λA m=>?_;have C:A .jL s=(s.size:Int):=by rw[m.jL]
 have W:aK (A .jL s) s.size:=⟨C⟩;have Q:∀z i,aK z i->A .byte s z=gR s i:=λz i a=>by
  rw[m.byte];simp only[gR];rw[a.eq];rfl
 generalize e1:A .ay .lss (A .jL s) 1=t1;generalize f:A .ay .gtr (A .jL s) 12=t2;generalize k:A .ay .lss (A .byte s 0) 97=t3;generalize l:A .ay .gtr (A .byte s 0) 122=t4;have S:t2=false->s.size<=12:=λe=>by
  rw[e,m.ay,C]at f;have:=of_decide_eq_false f;omega
 have o:zO s= !(t1||t2||t3||t4):=by rw[<-e1,<-f,<-k,<-l,Q 0 0 ⟨rfl⟩,C,m.ay];rfl
 have J:t1=false->(0:Int)<=0/\0<(s.size:Int):=λe=>by
  rw[e,m.ay,C]at e1;have:=of_decide_eq_false e1;omega
 have B:∀(t:Bool) (b:Bool),t=false->zO s=false->t=fA s:=λt b ht hq=>by rw[ht,fA,hq];rfl
 have U:∀(t:Bool),t=true->t=t:=λ_ _=>rfl;cbv;rw[e1];cases t1 with
 |true=>cbv;exact⟨Le.refl _,false,rfl,B _ true rfl o⟩
 |false=>
  have L:=J rfl;cbv;rw[f];cases t2 with
  |true=>cbv;exact⟨Le.refl _,false,rfl,B _ true rfl o⟩
  |false=>
   cbv;refine⟨L,?_⟩;cbv;rw[k];cases t3 with
   |true=>cbv;exact⟨Le.refl _,false,rfl,B _ true rfl o⟩
   |false=>
    cbv;refine⟨L,?_⟩;cbv;rw[l];cases t4 with
    |true=>cbv;exact⟨Le.refl _,false,rfl,B _ true rfl o⟩
    |false=>
     cbv;have D:zO s=true:=o;have S:=S rfl;clear o e1 f k l J B U;refine aG.go (G:=Int) (λz=>[(3,.v (.int .i64 z))]) (λ_=>[]) (λn z h'=>∃i:Nat,aK z i/\n=s.size-i/\i<=s.size/\h'=h/\∀j,j<i->BT (gR s j)=true) s.size 0 (by constructor<;>cbv) ⟨0,⟨rfl⟩,rfl,by omega,rfl,λj g=>(by omega)⟩ ?_
     intro n z h' hI;cbv;obtain⟨i,a,ag,N,rfl,K⟩:=hI;refine aJ (λc=>?_) (λc=>?_)
     .rw[a.vh (A:=A) W]at c;have I:=of_decide_eq_true c;clear c;cbv;refine⟨a.ix I,?_⟩;cbv;rw[Q z i a];generalize O:gR s i=w;generalize e1:A .ay .lss w 97=t1;generalize f:A .ay .gtr w 122=t2;generalize k:A .ay .lss w 48=t3;generalize l:A .ay .gtr w 57=t4;generalize q:A .ay .neq w 95=t5;have p:BT w= !((t1||t2)&&(t3||t4)&&t5):=by rw[<-e1,<-f,<-k,<-l,<-q,m.ay];rfl
      have d:BT w=false->fA s=false:=λe=>by
       have:wK s=false:=by unfold wK;rw[List.all_eq_false];exact⟨i,by simp[I],by rw[O,e];simp⟩
       rw[fA,this];simp
      have X:BT w=true->∀j,j<i+1->BT (gR s j)=true:=λe j g=>by
       rcases Nat.lt_or_ge j i with h|h
       .exact K j h
       have:j=i:=by omega
       rw[this,O,e]
      cbv;cases t1 with
      |true=>
       cbv;rw[k];cases t3 with
       |true=>
        cbv;rw[q];cases t5 with
        |true=>cbv;exact⟨Le.refl _,false,rfl,(d (by rw[p];rfl)).symm⟩
        |false=>cbv;exact⟨s.size-(i+1),_,by omega,by constructor<;>cbv,i+1,a.succ (A:=A),rfl,by omega,rfl,X (by rw[p];rfl)⟩
       |false=>
        cbv;rw[l];cases t4 with
        |true=>
         cbv;rw[q];cases t5 with
         |true=>cbv;exact⟨Le.refl _,false,rfl,(d (by rw[p];rfl)).symm⟩
         |false=>cbv;exact⟨s.size-(i+1),_,by omega,by constructor<;>cbv,i+1,a.succ (A:=A),rfl,by omega,rfl,X (by rw[p];rfl)⟩
        |false=>cbv;exact⟨s.size-(i+1),_,by omega,by constructor<;>cbv,i+1,a.succ (A:=A),rfl,by omega,rfl,X (by rw[p];rfl)⟩
      |false=>
       cbv;rw[f];cases t2 with
       |true=>
        cbv;rw[k];cases t3 with
        |true=>
         cbv;rw[q];cases t5 with
         |true=>cbv;exact⟨Le.refl _,false,rfl,(d (by rw[p];rfl)).symm⟩
         |false=>cbv;exact⟨s.size-(i+1),_,by omega,by constructor<;>cbv,i+1,a.succ (A:=A),rfl,by omega,rfl,X (by rw[p];rfl)⟩
        |false=>
         cbv;rw[l];cases t4 with
         |true=>
          cbv;rw[q];cases t5 with
          |true=>cbv;exact⟨Le.refl _,false,rfl,(d (by rw[p];rfl)).symm⟩
          |false=>cbv;exact⟨s.size-(i+1),_,by omega,by constructor<;>cbv,i+1,a.succ (A:=A),rfl,by omega,rfl,X (by rw[p];rfl)⟩
         |false=>cbv;exact⟨s.size-(i+1),_,by omega,by constructor<;>cbv,i+1,a.succ (A:=A),rfl,by omega,rfl,X (by rw[p];rfl)⟩
       |false=>cbv;exact⟨s.size-(i+1),_,by omega,by constructor<;>cbv,i+1,a.succ (A:=A),rfl,by omega,rfl,X (by rw[p];rfl)⟩
     rw[a.vh (A:=A) W]at c;have jO:=of_decide_eq_false c;cbv;have V:wK s=true:=by unfold wK;rw[List.all_eq_true];intro j g;rw[List.mem_range]at g;exact K j (by omega)
     refine(Yu h').mono (λv h2 hR=>?_);obtain⟨P,nb,rfl,ql⟩:=hR;cbv;refine aG.go (G:=Int) (λz=>[(6,.v (.int .i64 z))]) (λ_=>[]) (λn z M=>∃i:Nat,aK z i/\n=41-i/\i<=41/\M=h2/\∀j,j<i->∀y,ir[j]? =some y->y≠s) 41 0 (by constructor<;>cbv) ⟨0,⟨rfl⟩,by omega,by omega,rfl,λj g=>(by omega)⟩ ?_
     intro n2 z2 M jI;cbv;obtain⟨r,u,dZ,Y,rfl,Z⟩:=jI;refine aJ (λc=>?_) (λc=>?_)
     .have T:=u.lt c;clear c;cbv;obtain⟨x,hx⟩:=ax (xs:=ir) (i:=r) T;refine⟨⟨rfl,u.ix T⟩,?_⟩;cbv;refine ql.load hx u.eq (λcs E=>?_);have E:cs=[.string x]:=E;subst E;cbv;rw[dF A];by_cases R:x=s
      .rw[decide_eq_true R];have F:qF s=true:=qE.2 (by rw[<-R];exact List.mem_of_getElem? hx);cbv;exact⟨P,false,rfl,by rw[fA,F];simp⟩
      rw[decide_eq_false R];cbv;refine⟨41-(r+1),_,by omega,by constructor<;>cbv,r+1,u.succ (A:=A),rfl,by omega,rfl,?_⟩
      intro j g y H;rcases Nat.lt_or_ge j r with h|h
      .exact Z j h y H
      have:j=r:=by omega
      subst this;rw[hx]at H;cases H;exact R
     have aj:=u.ge c;have F:qF s=false:=by
      cases N:qF s with
      |false=>rfl
      |true=>have hm:=qE.1 N;obtain⟨j,g⟩:=List.getElem?_of_mem hm;have oT:j<41:=(List.getElem?_eq_some_iff.1 g).1;exact absurd rfl (Z j (by omega) s g)
     cbv;exact⟨P,true,rfl,by rw[fA,D,V,F];rfl⟩
theorem ZH{c:Nat}(q:Sl 202 bh h (.slice b n c) cols){k:Int}:
 Ct 308 [.agg #[.string nm,.slice b n c,.int .i64 k,.bool only],.string s] h (λv h'=>Le h h'/\∃z t l,v=.tuple #[.int .i64 z,.bool t]/\qV cols (λx=>decide (x.name=s)) l/\z=max l 0/\t=decide (l>=0)):=by
 have r:=q.len;obtain⟨H,N⟩:=q.bound;refine an dQL Tryz.func308 λA w=>?_;cbv;refine aG.go (G:=Int) (λz=>[(6,.v (.int .i64 z))]) (λ_=>[(2,[.string nm,.slice b n c,.int .i64 k,.bool only])]) (λm z h'=>∃i:Nat,aK z i/\m=n-i/\i<=n/\h'=h/\∀j,j<i->∀y,cols[j]? =some y->decide (y.name=s)=false) n 0 (by constructor<;>cbv) ⟨0,⟨rfl⟩,by omega,by omega,rfl,λj e=>(by omega)⟩ ?_
 intro m z h' I;cbv;obtain⟨i,a,E,B,rfl,p⟩:=I;refine aJ (λd=>?_) (λd=>?_)
 .have F:=a.lt d;clear d;cbv;obtain⟨x,hx⟩:=bn cols i;refine⟨⟨q.aQ,a.ix F⟩,?_⟩;cbv;refine q.bT hx a.eq (o:=0) (m:=1) (by decide) (λcs f=>?_);have f:cs=[.string x.name,.int .i64 x.kind,.bool x.null]:=f;subst f;cbv;rw[dF A];by_cases R:x.name=s
  .rw[decide_eq_true R];have hR:qV cols (λx=>decide (x.name=s)) z:=⟨.inr ⟨i,x,a,hx,by simpa using R,p⟩⟩;have C:=a.eq;have e1:z=max z 0:=by omega
   have u:true=decide (z>=0):=by rw[decide_eq_true (by omega)]
   cbv;exact⟨Le.refl _,z,true,z,rfl,hR,e1,u⟩
  rw[decide_eq_false R];cbv;refine⟨n-(i+1),_,by omega,by constructor<;>cbv,i+1,a.succ (A:=A),rfl,by omega,rfl,?_⟩
  intro j e y g;rcases Nat.lt_or_ge j i with D|D
  .exact p j D y g
  have:j=i:=by omega
  subst this;rw[hx]at g;cases g;exact decide_eq_false R
 have O:=a.ge d;have hR:qV cols (λx=>decide (x.name=s)) (-1):=⟨.inl ⟨rfl,λx hx=>by
  obtain⟨j,e⟩:=List.getElem?_of_mem hx;have:=(List.getElem?_eq_some_iff.1 e).1;exact p j (by omega) x e⟩⟩
 cbv;exact⟨Le.refl _,0,false,-1,rfl,hR,rfl,rfl⟩
theorem aKJ{c:iK}(a:cols[i]? =some c)(r:qV cols (λx=>decide (x.name=c.name)) z):
 decide (max z 0≠(i:Int))=(cols.take i).any λx=>decide (x.name=c.name):=by
 have d:=TC a r;rw[<-d,decide_eq_decide];rcases r.out with⟨-,h⟩|⟨k,x,e,hx,p,b⟩
 .have:=h c (List.mem_of_getElem? a);simp at this
 have f:=e.eq;have J:¬i<k:=λh=>by have:=b i h c a;simp at this
 omega
theorem CU{c:Nat}(q:Sl 202 bh h (.slice b n c) cols):
 Ct 212 [.agg #[.string nm,.slice b n c,.int .i64 key,.bool only]] h (λv h'=>Le h h'/\∃z,v=.int .i64 z/\z=dA ⟨nm,cols,key,only⟩):=by
 obtain⟨A,C⟩:=Ar.ex;have D:=q.len;obtain⟨jH,fN⟩:=q.bound;have W:A .not true=false:=by rw[C.not];rfl
 have oI:A .not false=true:=by rw[C.not];rfl
 generalize e1:A .ay .lss (A .nat n) 1=u1;generalize u:A .ay .gtr (A .nat n) 6=u2;generalize O:A .ay .lss key 0=u3;generalize B:A .ay .geq key (A .nat n)=U;have f1:=e1;have f2:=u;have f3:=O;have f4:=B;rw[aD A,C.nat]at e1;rw[aX A,C.nat]at u;rw[aD A]at O;rw[bX A,C.nat]at B;simp only[Int.ofNat_eq_natCast]at e1 u B;rw[D]at e1 u B;obtain⟨E,hE⟩:∃E,E=dA ⟨nm,cols,key,only⟩:=⟨_,rfl⟩;have S:E=if(!fA nm)=true then 12 else if(u1||u2)=true then 4 else if jy cols≠0 then jy cols else if(u3||U)=true then 1 else if((cols[key.toNat]?).map (·.null)).getD false=true then 13 else 0:=by rw[hE,<-e1,<-u,<-O,<-B];rfl
 rw[<-hE];refine bB dZs A Tryz.func212 ?_;cbv;refine FG.mono (λv h1 hR=>?_);obtain⟨K,t,rfl,ht⟩:=hR;rw[<-ht]at S;cases t with
 |false=>cbv;rw[oI];cbv;exact⟨K,12,rfl,S.symm⟩
 |true=>
  cbv;rw[W];cbv;rw[f1];cases u1 with
  |true=>cbv;exact⟨K,4,rfl,S.symm⟩
  |false=>
   cbv;rw[f2];cases u2 with
   |true=>cbv;exact⟨K,4,rfl,S.symm⟩
   |false=>
    have S:E=if jy cols≠0 then jy cols else if(u3||U)=true then 1 else if((cols[key.toNat]?).map (·.null)).getD false=true then 13 else 0:=S
    cbv;refine aG.go (G:=Int) (λz=>[(3,.v (.int .i64 z))]) (λ_=>[(1,[.string nm,.slice b n c,.int .i64 key,.bool only])]) (λm z h'=>∃i:Nat,aK z i/\m=n-i/\i<=n/\Le h h'/\∀j,j<i->∀y,cols[j]? =some y->fC cols j y=0) n 0 (by constructor<;>cbv) ⟨0,⟨rfl⟩,by omega,by omega,K,λj hj=>(by omega)⟩ ?_
    intro m z h' hI;cbv;obtain⟨i,r,hm,hi,e,N⟩:=hI;refine aJ (λJ=>?_) (λJ=>?_)
    .have aF:=r.lt J;clear J;obtain⟨x,hx⟩:=bn cols i;have s:b.isSome=true/\0<=z/\z<(n:Int):=⟨q.aQ,r.ix aF⟩;have p:∀ {hh:ab} (w:Int),Le h hh->fC cols i x=w->w≠0->Le h hh/\∃z,Value.int .i64 w=.int .i64 z/\z=E:=λw l Z hw=>by
      refine⟨l,w,rfl,?_⟩;have:=CN hx N (by rw[Z];exact hw);rw[S,this,Z,if_pos hw]
     have gX:∀(H:ab),Le h H->fC cols i x=0->∃j:Nat,aK (A .aC .add .i64 z 1) j/\n-(i+1)=n-j/\j<=n/\Le h H/\∀T,T<j->∀y,cols[T]? =some y->fC cols T y=0:=λH l e0=>
      ⟨i+1,r.succ (A:=A),rfl,by omega,l,λj hj y F=>by
       rcases Nat.lt_or_ge j i with kD|kD
       .exact N j kD y F
       have:j=i:=by omega
       subst this;rw[hx]at F;cases F;exact e0⟩
     obtain⟨f,k,d⟩:=x;cbv;refine⟨s,?_⟩;cbv;refine(q.mono (e.t _)).bT hx r.eq (o:=0) (m:=1) (by decide) (λcs a=>?_);have a:cs=[.string f,.int .i64 k,.bool d]:=a;subst a;cbv;refine(ZH (q.mono (e.t _))).mono (λv H hR=>?_);obtain⟨l2,zk,tk,ag,rfl,gW,X,ML⟩:=hR;have Y:=e.trans l2;have L:=aKJ hx gW;rw[<-X]at L;generalize P:A .ay .neq zk z=w1;have k1:=P;rw[av A,r.eq]at P;rw[P]at L;generalize Q:A .ay .lss k 1=w2;generalize R:A .ay .gtr k 3=w3;have k2:=Q;have k3:=R;rw[aD A]at Q;rw[aX A]at R;cbv;refine⟨s,?_⟩;cbv;refine(q.mono (Y.t _)).bT hx r.eq (o:=0) (m:=1) (by decide) (λcs a=>?_);have a:cs=[.string f,.int .i64 k,.bool d]:=a;subst a;cbv;refine FG.mono (λv h3 hR=>?_);obtain⟨l3,tn,rfl,Qy⟩:=hR;have I:=Y.trans l3;have key:fC cols i ⟨f,k,d⟩=if(!tn||w1)=true then 12 else if(w2||w3)=true then 3 else 0:=by rw[Qy,L,<-Q,<-R];rfl
     cases tn with
     |false=>have key:fC cols i ⟨f,k,d⟩=12:=key;cbv;rw[oI];cbv;exact p 12 I key (by omega)
     |true=>
      cbv;rw[W];cbv;rw[k1];cases w1 with
      |true=>have key:fC cols i ⟨f,k,d⟩=12:=key;cbv;exact p 12 I key (by omega)
      |false=>
       cbv;refine⟨s,?_⟩;cbv;refine(q.mono (I.t _)).bT hx r.eq (o:=1) (m:=1) (by decide) (λcs a=>?_);have a:cs=[.string f,.int .i64 k,.bool d]:=a;subst a;cbv;rw[k2];cases w2 with
       |true=>have key:fC cols i ⟨f,k,d⟩=3:=key;cbv;exact p 3 I key (by omega)
       |false=>
        cbv;refine⟨s,?_⟩;cbv;refine(q.mono (I.t _)).bT hx r.eq (o:=1) (m:=1) (by decide) (λcs a=>?_);have a:cs=[.string f,.int .i64 k,.bool d]:=a;subst a;cbv;rw[k3];cases w3 with
        |true=>have key:fC cols i ⟨f,k,d⟩=3:=key;cbv;exact p 3 I key (by omega)
        |false=>
         have key:fC cols i ⟨f,k,d⟩=0:=key;have g:=gX h3 I key;cbv;refine⟨n-(i+1),_,by omega,by constructor<;>cbv,g⟩
    have jO:=r.ge J;have M:jy cols=0:=xJ (λj hj y F=>N j (by omega) y F);rw[M,if_neg (by simp)]at S;cbv;rw[f3];cases u3 with
    |true=>cbv;exact⟨e,1,rfl,S.symm⟩
    |false=>
     cbv;rw[f4];cases U with
     |true=>cbv;exact⟨e,1,rfl,S.symm⟩
     |false=>
      obtain⟨V,oY⟩:=Kt A f3 f4;obtain⟨x,hx⟩:=bn cols key.toNat;have s:b.isSome=true/\0<=key/\key<(n:Int):=⟨q.aQ,V.ix oY⟩;rw[hx]at S;obtain⟨f,k,d⟩:=x;cbv;refine⟨s,?_⟩;cbv;refine(q.mono (e.t _)).bT hx V.eq (o:=2) (m:=1) (by decide) (λcs a=>?_);have a:cs=[.string f,.int .i64 k,.bool d]:=a;subst a;cases d with
      |true=>cbv;exact⟨e,13,rfl,S.symm⟩
      |false=>cbv;exact⟨e,0,rfl,S.symm⟩
def iM:Sh ep where
 n:=3
 R h cs t:=∃b1 n1 c1 b2 n2 c2,cs=[.int .i64 t.s,.slice b1 n1 c1,.slice b2 n2 c2]/\Sl 161 aV h (.slice b1 n1 c1) t.log/\Sl 340 cF h (.slice b2 n2 c2) t.marks
 len:=by rintro h cs x ⟨_,_,_,_,_,_,rfl,-⟩;rfl
 one:=by rintro h cs x ⟨_,_,_,_,_,_,rfl,-⟩;rfl
 tys:=[161,45,340]
 mono:=by rintro h h' cs x hl ⟨b1,n1,c1,b2,n2,c2,rfl,q1,q2⟩;exact⟨b1,n1,c1,b2,n2,c2,rfl,q1.mono (hl.sub),q2.mono (hl.sub)⟩
structure RP(h:ab)(b1:Option Addr)(n1 c1:Nat)(b2:Option Addr)(n2 c2:Nat)(b3:Option Addr)(n3 c3:Nat)(b4:Option Addr)(n4 c4:Nat)(d:DB):Prop where
 aj:Sl 132 bo h (.slice b1 n1 c1) d.aj
 ah:Sl 337 iM h (.slice b2 n2 c2) d.ah
 holds:Sl 422 aO h (.slice b3 n3 c3) d.holds
 waits:Sl 422 aO h (.slice b4 n4 c4) d.waits
theorem RP.lt{a c e:Option Addr}{f k g m o:Nat}(q:RP h b n f a k g c m i e o j d)(l:bV [132,202,46,45,337,161,340,422] h h'):RP h' b n f a k g c m i e o j d:=
 ⟨q.aj.mono (l.sub),q.ah.mono (l.sub),q.holds.mono (l.sub),q.waits.mono (l.sub)⟩
theorem RP.mono{a c e:Option Addr}{f k g m o:Nat}(q:RP h b n f a k g c m i e o j d)(l:Le h h'):RP h' b n f a k g c m i e o j d:=q.lt (l.t _)
theorem CO{a b:List UInt8}:∀ {i:Nat},i<=a.length->i<=b.length->(∀j,j<i->a[j]? =b[j]?)->Lib.compareBytes a b=Lib.compareBytes (a.drop i) (b.drop i)
 |0,_,_,_=>rfl
 |i+1,h,c,p=>by
  cases a with
  |nil=>simp at h
  |cons x a=>
   cases b with
   |nil=>simp at c
   |cons y b=>
    have h0:x=y:=by have:=p 0 (by omega);simpa using this
    subst h0;have:Lib.compareBytes (x::a) (x::b)=Lib.compareBytes a b:=by simp[Lib.compareBytes]
    rw[this,List.drop_succ_cons,List.drop_succ_cons];exact CO (by simpa using h) (by simpa using c) (λj d=>by have:=p (j+1) (by omega);simpa using this)
theorem VJ{a b:ByteArray}(U:a.size<=2^60):Ct 214 [.string a,.string b] h (λv h'=>Le h h'/\∃t,v=.bool t/\t=decide (cT a b<0)):=by
 obtain⟨A,n⟩:=Ar.ex;have Y:aK (A .jL a) a.size:=⟨by rw[n.jL]⟩;have u:aK (A .jL b) b.size:=⟨by rw[n.jL]⟩;have T:a.data.toList.length=a.size:=by rw[Array.length_toList];rfl
 have J:b.data.toList.length=b.size:=by rw[Array.length_toList];rfl
 have C:∀(s:ByteArray) (i:Nat),i<s.size->∃x:UInt8,s.data.toList[i]? =some x/\gR s i=(x.toNat:Int):=λs i V=>by
  have D:i<s.data.size:=V;refine⟨s.data[i],by simp[D],?_⟩;simp[gR,Array.getElem?_eq_getElem D]
 have R:∀s z i,aK z i->A .byte s z=gR s i:=λs z i c=>by
  rw[n.byte];simp only[gR];rw[c.eq];rfl
 refine bB dZq A Tryz.func214 ?_;cbv;refine aG.go (G:=Int) (λz=>[(5,.v (.int .i64 z))]) (λ_=>[]) (λm z h'=>∃i:Nat,aK z i/\m=a.size-i/\i<=a.size/\i<=b.size/\h'=h/\∀j,j<i->a.data.toList[j]? =b.data.toList[j]?) a.size 0 (by constructor<;>cbv) ⟨0,⟨rfl⟩,by omega,by omega,by omega,rfl,λj W=>(by omega)⟩ ?_
 intro m z h' P;cbv;obtain⟨i,c,hm,S,O,rfl,p⟩:=P;have Z:=CO (a:=a.data.toList) (b:=b.data.toList) (i:=i) (by omega) (by omega) p;have f:A .ay .lss z (A .jL a)=decide (i<a.size):=c.vh Y;have g:A .ay .lss z (A .jL b)=decide (i<b.size):=c.vh u;have w:A .ay .lss (A .jL a) (A .jL b)=decide (a.size<b.size):=Y.vh u;by_cases k:i<a.size
 .rw[decide_eq_true k]at f;rw[f];cbv;by_cases l:i<b.size
  .rw[decide_eq_true l]at g;rw[g];obtain⟨x,hx,Q⟩:=C a i k;obtain⟨y,B,X⟩:=C b i l;have M:a.data.toList.drop i=x::a.data.toList.drop (i+1):=by rw[List.drop_eq_getElem_cons (by omega)];rw[(List.getElem?_eq_some_iff.1 hx).2]
   have E:b.data.toList.drop i=y::b.data.toList.drop (i+1):=by rw[List.drop_eq_getElem_cons (by omega)];rw[(List.getElem?_eq_some_iff.1 B).2]
   rw[M,E]at Z;have o:(0:Int)<=z/\z<(a.size:Int):=c.ix k;have q:(0:Int)<=z/\z<(b.size:Int):=c.ix l;have L:A .ay .neq (A .byte a z) (A .byte b z)=decide (x≠y):=by
    rw[R a z i c,R b z i c,av A,Q,X,decide_eq_decide];refine not_congr ?_;constructor
    .intro e;exact UInt8.toNat_inj.1 (Int.ofNat_inj.1 e)
    rintro rfl;rfl
   have N:A .ay .lss (A .byte a z) (A .byte b z)=decide (x<y):=by rw[R a z i c,R b z i c,aD A,Q,X,decide_eq_decide,UInt8.lt_iff_toNat_lt];exact Int.ofNat_lt
   cbv;refine⟨o,?_⟩;cbv;refine⟨q,?_⟩;cbv;rw[L];by_cases I:x=y
   .rw[decide_eq_false (by simp[I])];cbv;refine⟨a.size-(i+1),_,by omega,by constructor<;>cbv,i+1,c.succ (A:=A),rfl,by omega,by omega,rfl,?_⟩
    .intro j W;rcases Nat.lt_or_ge j i with h|h
     .exact p j h
     have:j=i:=by omega
     rw[this,hx,B,I]
   rw[decide_eq_true (by simpa using I)];have d:decide (x<y)=decide (cT a b<0):=by
    unfold cT;rw[Z];simp only[Lib.compareBytes];by_cases F:x<y
    .simp[F]
    have:y<x:=by rw[UInt8.lt_iff_toNat_lt]at F |-;have:x.toNat≠y.toNat:=λe=>I (UInt8.toNat_inj.1 e);omega
    simp[F,this]
   cbv;refine⟨o,?_⟩;cbv;refine⟨q,?_⟩;cbv;rw[N];exact⟨Le.refl _,_,rfl,d⟩
  rw[decide_eq_false l]at g;rw[g];have H:b.data.toList.drop i=[]:=List.drop_eq_nil_of_le (by omega);have d:decide (a.size<b.size)=decide (cT a b<0):=by
   unfold cT;rw[Z,H];have:a.data.toList.drop i≠[]:=by intro e;have:=congrArg List.length e;rw[List.length_drop]at this;simp at this;omega
   cases hd:a.data.toList.drop i with
   |nil=>exact absurd hd this
   |cons x r=>simp only[Lib.compareBytes];rw[decide_eq_false (by omega)];rfl
  cbv;rw[w];exact⟨Le.refl _,_,rfl,d⟩
 rw[decide_eq_false k]at f;rw[f];have K:a.data.toList.drop i=[]:=List.drop_eq_nil_of_le (by omega);have d:decide (a.size<b.size)=decide (cT a b<0):=by
  unfold cT;rw[Z,K];cases hd:b.data.toList.drop i with
  |nil=>have:=congrArg List.length hd;rw[List.length_drop]at this;simp at this;simp only[Lib.compareBytes];rw[decide_eq_false (by omega)];rfl
  |cons y r=>have:=congrArg List.length hd;rw[List.length_drop]at this;simp at this;simp only[Lib.compareBytes];rw[decide_eq_true (by omega)];rfl
 cbv;rw[w];exact⟨Le.refl _,_,rfl,d⟩
theorem sY{e f g k:Option Addr}{l w o B r C s:Nat}(q:RP h e n l f w o g B r k C s d):
 Ct 213 [.agg #[.slice e n l,.slice f w o,.slice g B r,.slice k C s],.string nm] h (λv h'=>Le h h'/\∃z,v=.int .i64 z/\qV d.aj (λt=>decide (t.S.name=nm)) z):=by
 have D:=q.aj.len;have W:=q.aj.bound;refine an dZr Tryz.func213 λA J=>?_;cbv;refine aG.go (G:=Int) (λz=>[(5,.v (.int .i64 z))]) (λ_=>[(2,[.slice e n l,.slice f w o,.slice g B r,.slice k C s])]) (λm z h'=>∃i:Nat,aK z i/\m=n-i/\i<=n/\h'=h/\∀j,j<i->∀y,d.aj[j]? =some y->decide (y.S.name=nm)=false) n 0 (by constructor<;>cbv) ⟨0,⟨rfl⟩,by omega,by omega,rfl,λj b=>(by omega)⟩ ?_
 intro m z h' I;cbv;obtain⟨i,a,L,K,rfl,p⟩:=I;refine aJ (λc=>?_) (λc=>?_)
 .have F:=a.lt c;clear c;cbv;obtain⟨x,hx⟩:=bn d.aj i;refine⟨⟨q.aj.aQ,a.ix F⟩,?_⟩;cbv;refine q.aj.yJ hx a.eq (o1:=0) (o2:=0) (m:=1) (by decide) (λcs H=>?_);obtain⟨_,_,_,_,_,_,rfl,-,-⟩:=H;cbv;rw[dF A];by_cases R:x.S.name=nm
  .rw[decide_eq_true R];have hR:qV d.aj (λt=>decide (t.S.name=nm)) z:=⟨.inr ⟨i,x,a,hx,by simpa using R,p⟩⟩;cbv;exact⟨Le.refl _,z,rfl,hR⟩
  rw[decide_eq_false R];cbv;refine⟨n-(i+1),_,by omega,by constructor<;>cbv,i+1,a.succ (A:=A),rfl,by omega,rfl,?_⟩
  intro j b y u;rcases Nat.lt_or_ge j i with E|E
  .exact p j E y u
  have:j=i:=by omega
  subst this;rw[hx]at u;cases u;exact decide_eq_false R
 have O:=a.ge c;have hR:qV d.aj (λt=>decide (t.S.name=nm)) (-1):=⟨.inl ⟨rfl,λx hx=>by
  obtain⟨j,b⟩:=List.getElem?_of_mem hx;have:=(List.getElem?_eq_some_iff.1 b).1;exact p j (by omega) x b⟩⟩
 cbv;exact⟨Le.refl _,-1,rfl,hR⟩
theorem YA{a:Type}{xs:List a}{p:a->Bool}(q:qV xs p z):decide (z>=0)=xs.any p:=by
 rcases q.out with⟨rfl,h⟩|⟨i,x,c,hx,b,-⟩
 .rw[eq_comm];simpa using h
 have:=c.eq;rw[decide_eq_true (by omega),eq_comm,List.any_eq_true];exact⟨x,List.mem_of_getElem? hx,b⟩
def cu(T:List bJ)(nm:ByteArray):Nat:=(T.takeWhile λt=>decide (cT t.S.name nm<0)).length
def ey(d:DB)(s:rV):DB×Int:=
 if decide (dA s≠0)=true then(d,dA s)
 else if d.aj.any (λt=>decide (t.S.name=s.name))=true then(d,7)
 else if decide ((d.aj.length:Int)>=8)=true then(d,4)
 else if decide ((d.ah.length:Int)>0)=true then(d,18)
 else(fy d (d.aj.take (cu d.aj s.name)++[⟨s,[]⟩]++d.aj.drop (cu d.aj s.name)),0)
abbrev RK(h:ab)(d':DB)(e:Int)(k:Value->ab->Prop):Prop:=
 ∀h' b1 n1 c1 b2 n2 c2 b3 n3 c3 b4 n4 c4,Le h h'->RP h' b1 n1 c1 b2 n2 c2 b3 n3 c3 b4 n4 c4 d'->k (.tuple #[.agg #[.slice b1 n1 c1,.slice b2 n2 c2,.slice b3 n3 c3,.slice b4 n4 c4],.int .i64 e]) h'
theorem Bu{d:Type}{p:d->Bool}:∀ {xs:List d} {i:Nat},(∀j,j<i->∀y,xs[j]? =some y->p y=true)->i<=xs.length->(i<xs.length->∃y,xs[i]? =some y/\p y=false)->(xs.takeWhile p).length=i
 | [],i,_,a,_=>by simp at a;simp[a]
 |x::r,0,_,_,s=>by
  obtain⟨y,b,e⟩:=s (by simp);simp at b;subst b;simp[e]
 |x::r,i+1,c,a,s=>by
  have hx:=c 0 (by omega) x rfl;rw[List.takeWhile_cons_of_pos hx,List.length_cons];rw[Bu (xs:=r) (i:=i) (λj f y b=>c (j+1) (by omega) y (by simpa using b)) (by simpa using a) (λh=>by simpa using s (by simpa using h))]
theorem Ek{H o p u:Option Addr}{b e g w E B F C:Nat}(q:RP h H b e o g w p E B u F C d){sb:Option Addr}{sn sc:Nat}(qs:Sl 202 bh h (.slice sb sn sc) cols)
 (hl:d.aj.length<=2^37) (aj:∀t∈d.aj,t.S.name.size<=2^60)  (a:ey d ⟨nm,cols,key,only⟩=D)  (N:RK h D.1 D.2 k):
 Ct 93 [.agg #[.slice H b e,.slice o g w,.slice p E B,.slice u F C],.agg #[.string nm,.slice sb sn sc,.int .i64 key,.bool only]] h k:=by
 obtain⟨A,hA⟩:=Ar.ex;have W:=q.aj.len;have iW:=q.aj.bound;have rj:=q.ah.len;unfold ey at a;generalize f:A .ay .geq (A .nat b) 8=u8;generalize K:A .ay .gtr (A .nat g) 0=O;have P:=f;have au:=K;rw[bX A,hA.nat]at f;rw[aX A,hA.nat]at K;simp only[Int.ofNat_eq_natCast]at f K;rw[W]at f;rw[rj]at K;rw[f,K]at a;refine bB gJB A Tryz.func93 ?_;cbv;refine(CU (nm:=nm) (key:=key) (only:=only) qs).mono (λv h1 hR=>?_);obtain⟨l1,ze,X,aH⟩:=hR;rw[X];rw[<-aH]at a;generalize e0:A .ay .neq ze 0=u0;have f0:=e0;rw[av A]at e0;rw[e0]at a;cbv;rw[f0];cases u0 with
 |true=>have a:(d,ze)=D:=a;have r:=N h1 H b e o g w p E B u F C l1 (by rw[<-a];exact q.mono l1);rw[<-a]at r;cbv;exact r
 |false=>
  cbv;refine(sY (q.mono l1)).mono (λv h2 hR=>?_);obtain⟨l2,zf,X,gW⟩:=hR;rw[X];have I:=l1.trans l2;have oV:=YA gW;generalize e7:A .ay .geq zf 0=u7;have f7:=e7;rw[bX A]at e7;rw[e7]at oV;have a:(if d.aj.any (λt=>decide (t.S.name=nm))=true then(d,7)else if u8=true then(d,4)else if O=true then(d,18)
   else(fy d (d.aj.take (cu d.aj nm)++[⟨⟨nm,cols,key,only⟩,[]⟩]++d.aj.drop (cu d.aj nm)),0))=D:=a
  rw[<-oV]at a;cbv;rw[f7];cases u7 with
  |true=>have a:(d,7)=D:=a;have r:=N h2 H b e o g w p E B u F C I (by rw[<-a];exact q.mono I);rw[<-a]at r;cbv;exact r
  |false=>
   cbv;rw[P];cases u8 with
   |true=>have a:(d,4)=D:=a;have r:=N h2 H b e o g w p E B u F C I (by rw[<-a];exact q.mono I);rw[<-a]at r;cbv;exact r
   |false=>
    cbv;rw[au];cases O with
    |true=>have a:(d,18)=D:=a;have r:=N h2 H b e o g w p E B u F C I (by rw[<-a];exact q.mono I);rw[<-a]at r;cbv;exact r
    |false=>
     have a:(fy d (d.aj.take (cu d.aj nm)++[⟨⟨nm,cols,key,only⟩,[]⟩]++d.aj.drop (cu d.aj nm)),0)=D:=a;cbv;refine aG.go (G:=Int) (λz=>[(7,.v (.int .i64 z))]) (λ_=>[(2,[.slice H b e,.slice o g w,.slice p E B,.slice u F C]),(3,[.string nm,.slice sb sn sc,.int .i64 key,.bool only]),(4,[.slice none 0 0,.slice none 0 0,.slice none 0 0,.slice none 0 0])])
      (λm z h'=>∃i:Nat,aK z i/\m=b-i/\i<=b/\Le h h'/\∀j,j<i->∀y,d.aj[j]? =some y->decide (cT y.S.name nm<0)=true) b 0 ⟨?_,?_,?_⟩ ⟨0,⟨rfl⟩,by omega,by omega,I,λj hj=>(by omega)⟩ ?_
     .cbv
     .cbv
     .cbv
     intro m z h' hI;cbv;obtain⟨i,c,hm,hi,l,bp⟩:=hI;have g1:A .ay .lss z (A .nat b)=decide (i<b):=c.vh (aK.nat b);rw[g1];rcases Nat.lt_or_ge i b with aF|jO
     .rw[decide_eq_true aF];have KT:=c.ix aF;obtain⟨x,hx⟩:=bn d.aj i;have qh:=q.mono l;cbv;refine⟨⟨qh.aj.aQ,KT⟩,?_⟩;cbv;refine qh.aj.yJ hx c.eq (o1:=0) (o2:=0) (m:=1) (by decide) (λcs ao=>?_);obtain⟨_,_,_,_,_,_,rfl,-,-⟩:=ao;cbv;refine(VJ (aj x (List.mem_of_getElem? hx))).mono (λv h3 hR=>?_);obtain⟨l3,t,X,ht⟩:=hR;rw[X];have Aw:=l.trans l3;cbv;cases t with
      |true=>
       cbv;refine⟨b-(i+1),_,by omega,by constructor<;>cbv,i+1,c.succ (A:=A),rfl,by omega,Aw,?_⟩
       intro j hj y hy;rcases Nat.lt_or_ge j i with kD|kD
       .exact bp j kD y hy
       have:j=i:=by omega
       subst this;rw[hx]at hy;cases hy;exact ht.symm
      |false=>
       have kY:cu d.aj nm=i:=Bu bp (by omega) (λ_=>⟨x,hx,ht.symm⟩);have L:=q.mono Aw;have V:A .mg z 0=i:=cM (A:=A) c;obtain⟨Ld,Lb⟩:=iW;have gO:0<=z/\z<=(e:Int):=by have:=c.eq;omega
       have kG:0<=z/\z<=(b:Int):=by have:=c.eq;omega
       have Q:i<=b:=hi;cbv;intro n6 S g6 e6;have Y:Le h3 S:=by rw[e6];exact Le.set g6
       have q6:=L.mono Y;cbv;refine⟨gO,?_⟩;cbv;have jj:aU 132 bo h3 S (.slice (some ⟨n6,0,none⟩) 0 0) ([]:List bJ):=aU.nil;refine jj.append (q6.aj.po (A:=A) (s:=bo) (z:=A .nat e) Q V V) (by decide) rfl (by decide) (by rw[V];omega) Y (λm7 b7 c7 h7 IS Z t7 k7 gL=>?_);cbv;intro n8 U g8 f;have J:Le h7 U:=by rw[f];exact Le.set g8
       have P:=(congrFun f n8).trans ae;have r8:bo.R U [.string nm,.slice sb sn sc,.int .i64 key,.bool only,.slice none 0 0] ⟨⟨nm,cols,key,only⟩,[]⟩:=⟨_,_,_,_,_,_,rfl,qs.mono ((Aw.trans (Z.trans J)).t _),Sl.nil⟩;have v8:=aR (s:=bo) P r8;cbv;refine(gL.mono (J.t _)).append v8 (by decide) rfl (by decide) (by omega) (Z.trans J) (λm9 b9 c9 h9 ag l9 t9 k9 vu=>?_);have q9:=L.mono l9;have ux:=bQ (A:=A) c (n:=b);cbv;refine⟨kG,?_⟩;cbv;refine vu.append (q9.aj.iH (A:=A) (s:=bo) c Q ux (c':=e-i) rfl) (by decide) rfl (by decide) (by rw[ux];omega) l9 (λGJ Dp GY gP xC R aN yO jx=>?_);have T:=jx.sl;rw[List.nil_append]at T;rw[kY]at a;have M:=L.mono R;have hL:=Aw.trans R;have r:=N gP Dp GJ GY o g w p E B u F C hL (by rw[<-a];exact⟨T,M.ah,M.holds,M.waits⟩);rw[<-a]at r;cbv;exact r
     rw[decide_eq_false (by omega)];have kY:cu d.aj nm=i:=Bu bp (by omega) (λh=>by omega);have L:=q.mono l;have V:A .mg z 0=i:=cM (A:=A) c;obtain⟨Ld,Lb⟩:=iW;have gO:0<=z/\z<=(e:Int):=by have:=c.eq;omega
     have kG:0<=z/\z<=(b:Int):=by have:=c.eq;omega
     have Q:i<=b:=hi;cbv;intro n6 S g6 e6;have Y:Le h' S:=by rw[e6];exact Le.set g6
     have q6:=L.mono Y;cbv;refine⟨gO,?_⟩;cbv;have jj:aU 132 bo h' S (.slice (some ⟨n6,0,none⟩) 0 0) ([]:List bJ):=aU.nil;refine jj.append (q6.aj.po (A:=A) (s:=bo) (z:=A .nat e) Q V V) (by decide) rfl (by decide) (by rw[V];omega) Y (λm7 b7 c7 h7 IS Z t7 k7 gL=>?_);cbv;intro n8 U g8 f;have J:Le h7 U:=by rw[f];exact Le.set g8
     have P:=(congrFun f n8).trans ae;have r8:bo.R U [.string nm,.slice sb sn sc,.int .i64 key,.bool only,.slice none 0 0] ⟨⟨nm,cols,key,only⟩,[]⟩:=⟨_,_,_,_,_,_,rfl,qs.mono ((l.trans (Z.trans J)).t _),Sl.nil⟩;have v8:=aR (s:=bo) P r8;cbv;refine(gL.mono (J.t _)).append v8 (by decide) rfl (by decide) (by omega) (Z.trans J) (λm9 b9 c9 h9 ag l9 t9 k9 vu=>?_);have q9:=L.mono l9;have ux:=bQ (A:=A) c (n:=b);cbv;refine⟨kG,?_⟩;cbv;refine vu.append (q9.aj.iH (A:=A) (s:=bo) c Q ux (c':=e-i) rfl) (by decide) rfl (by decide) (by rw[ux];omega) l9 (λGJ Dp GY gP xC R aN yO jx=>?_);have T:=jx.sl;rw[List.nil_append]at T;rw[kY]at a;have M:=L.mono R;have hL:=l.trans R;have r:=N gP Dp GJ GY o g w p E B u F C hL (by rw[<-a];exact⟨T,M.ah,M.holds,M.waits⟩);rw[<-a]at r;cbv;exact r
def dK:Nat->DB
 |0=>⟨[],[],[],[]⟩
 |i+1=>(bK (dK i) (aA i)).1
def lK:Nat->DB
 |0=>⟨[],[],[],[]⟩
 |i+1=>(ey (lK i) (aA i)).1
def jb(i:Nat):bJ:=⟨aA i,[]⟩
def eZ:DB:=⟨[jb 0,jb 1,jb 2],[],[],[]⟩
theorem Mn:dK 1=⟨[jb 0],[],[],[]⟩:=by cbv
theorem Mm:dK 2=⟨[jb 0,jb 1],[],[],[]⟩:=by cbv
theorem tL:dK 3=eZ:=by cbv
theorem Xy:lK 1=⟨[jb 0],[],[],[]⟩:=by cbv
theorem Xx:lK 2=⟨[jb 0,jb 1],[],[],[]⟩:=by cbv
theorem Ml:lK 3=eZ:=by cbv
theorem nd:∀i,i<=3->Small (dK i)
 |0,_=>⟨by decide,by decide,by simp[dK],by decide,by decide⟩
 |1,_=>by rw[Mn];exact⟨by simp,by simp,by simp[jb],by simp,by simp⟩
 |2,_=>by rw[Mm];exact⟨by simp,by simp,by simp[jb],by simp,by simp⟩
 |3,_=>by rw[tL];exact⟨by simp[eZ],by simp[eZ],by simp[eZ,jb],by simp[eZ],by simp[eZ]⟩
 |n+4,h=>by omega
theorem gi:∀i,i<3->(jb i).S.name.size<=2^60
 |0,_=>by decide
 |1,_=>by decide
 |2,_=>by decide
 |n+3,h=>by omega
theorem wq:∀i,i<=3->(lK i).aj.length<=2^37/\∀t∈(lK i).aj,t.S.name.size<=2^60
 |0,_=>by simp[lK]
 |1,_=>by rw[Xy];simp[gi 0]
 |2,_=>by rw[Xx];simp[gi 0,gi 1]
 |3,_=>by rw[Ml];simp[eZ,gi 0,gi 1,gi 2]
 |n+4,h=>by omega
structure aZP where
 b1:Option Addr
 n1:Nat
 c1:Nat
 b2:Option Addr
 n2:Nat
 c2:Nat
 b3:Option Addr
 n3:Nat
 c3:Nat
 b4:Option Addr
 n4:Nat
 c4:Nat
theorem Xz(hk:∀h' e L r j M s n N t p O u v F e1 w H B x I C y K E,Le h h'->
 eD h' (.agg #[.slice e L r,.slice j M s,.slice n N t,.slice p O u]) eZ->RP h' v F e1 w H B x I C y K E eZ->
 k (.tuple #[.agg #[.slice e L r,.slice j M s,.slice n N t,.slice p O u],.agg #[.slice v F e1,.slice w H B,.slice x I C,.slice y K E]]) h'):
 Ct 35 [] h k:=by
 refine an gKl Tryz.func35 λA hA=>?_;cbv;refine aG.go (G:=Int×aZP×aZP) (λg=>[(4,.v (.int .i64 g.1))]) (λg=>[(0,[.slice none 0 0,.slice none 0 0,.slice none 0 0,.slice none 0 0]),(1,[.slice none 0 0,.slice none 0 0,.slice none 0 0,.slice none 0 0]),(2,[.slice g.2.1.b1 g.2.1.n1 g.2.1.c1,.slice g.2.1.b2 g.2.1.n2 g.2.1.c2,.slice g.2.1.b3 g.2.1.n3 g.2.1.c3,.slice g.2.1.b4 g.2.1.n4 g.2.1.c4]),(3,[.slice g.2.2.b1 g.2.2.n1 g.2.2.c1,.slice g.2.2.b2 g.2.2.n2 g.2.2.c2,.slice g.2.2.b3 g.2.2.n3 g.2.2.c3,.slice g.2.2.b4 g.2.2.n4 g.2.2.c4])])
  (λm g h'=>∃i,aK g.1 i/\m=3-i/\i<=3/\Le h h'/\eD h' (.agg #[.slice g.2.1.b1 g.2.1.n1 g.2.1.c1,.slice g.2.1.b2 g.2.1.n2 g.2.1.c2,.slice g.2.1.b3 g.2.1.n3 g.2.1.c3,.slice g.2.1.b4 g.2.1.n4 g.2.1.c4]) (dK i)/\RP h' g.2.2.b1 g.2.2.n1 g.2.2.c1 g.2.2.b2 g.2.2.n2 g.2.2.c2 g.2.2.b3 g.2.2.n3 g.2.2.c3 g.2.2.b4 g.2.2.n4 g.2.2.c4 (lK i)) 3
  (0,⟨none,0,0,none,0,0,none,0,0,none,0,0⟩,⟨none,0,0,none,0,0,none,0,0,none,0,0⟩) ⟨?_,?_,?_⟩ ⟨0,⟨rfl⟩,by omega,by omega,Le.refl _,eKC h,⟨Sl.nil,Sl.nil,Sl.nil,Sl.nil⟩⟩ ?_
 .cbv
 .cbv
 .cbv
 intro m g h' hI;cbv;obtain⟨i,a,hm,J,l,q,d⟩:=hI;obtain⟨z,⟨e,L,r,j,M,s,n,N,t,p,O,u⟩,⟨v,F,e1,w,H,B,x,I,C,y,K,E⟩⟩:=g;have a:aK z i:=a;have q:eD h' (.agg #[.slice e L r,.slice j M s,.slice n N t,.slice p O u]) (dK i):=q;have d:RP h' v F e1 w H B x I C y K E (lK i):=d;refine aJ (λc=>?_) (λc=>?_)
 .have aF:i<3:=by rw[aD A,decide_eq_true_eq]at c;have c:z<3:=c;have:=a.eq;omega
  clear c;cbv;refine Fl a aF h' (λh2 sb sn sc nm o l2 uK ho qs=>?_);obtain⟨D,P⟩:∃D,D=bK (dK i) (aA i):=⟨_,rfl⟩;have hD:bK (dK i) ⟨nm,bq,0,o⟩=D:=by rw[uK,ho,P];rfl
  have b:D.1=dK (i+1):=by rw[P];rfl
  clear P;obtain⟨R,Z⟩:∃R,R=ey (lK i) (aA i):=⟨_,rfl⟩;have f:R.1=lK (i+1):=by rw[Z];rfl
  obtain⟨T,hT⟩:∃T,T=dK (i+1):=⟨_,rfl⟩;obtain⟨U,hU⟩:∃U,U=lK (i+1):=⟨_,rfl⟩;rw[<-hT]at b;rw[<-hU]at f;cbv;refine zu (q.mono l2) (nm:=nm) (key:=0) (only:=o) qs (nd i J) hD (λh3 f1 p1 g1 f2 p2 g2 f3 p3 g3 f4 p4 g4 l3 Y=>?_);cbv;refine Fl a aF h3 (λh4 ao ag aj Q o4 l4 X V S=>?_);have hR:ey (lK i) ⟨Q,bq,0,o4⟩=R:=by rw[X,V,Z];rfl
  have pE:=(l2.trans l3).trans l4;cbv;refine Ek (d.mono pE) (nm:=Q) (key:=0) (only:=o4) S (wq i J).1 (wq i J).2 hR (λh5 r1 s1 t1 r2 s2 t2 r3 s3 t3 r4 s4 t4 l5 W=>?_);cbv;refine⟨3-(i+1),(_,⟨f1,p1,g1,f2,p2,g2,f3,p3,g3,f4,p4,g4⟩,⟨r1,s1,t1,r2,s2,t2,r3,s3,t3,r4,s4,t4⟩),by omega,by constructor<;>cbv,i+1,a.succ (A:=A),rfl,by omega,l.trans (pE.trans l5),by rw[<-hT,<-b];exact Y.mono (l4.trans l5),by rw[<-hU,<-f];exact W⟩
 have jO:i=3:=by rw[aD A,decide_eq_false_iff_not]at c;have c:¬z<3:=c;have:=a.eq;omega
 clear c;subst jO;rw[tL]at q;rw[Ml]at d;have ar:=hk _ _ _ _ _ _ _ _ _ _ _ _ _ _ _ _ _ _ _ _ _ _ _ _ _ l q d;cbv;refine⟨⟨_,rfl,rfl⟩,?_⟩;cbv;exact ar
def dM:ByteArray:=⟨#[]⟩
end Go.S
