import Derived.Test.YtifjeceolckgaaaGreatVA
import Derived.Test.YtifjeceolckgaaaGreatNA
import Derived.Test.YtifjeceolckgaaaGreatSA
set_option linter.all false
namespace Go.S
def CX:By->Option By
 | []=>none
 |c::r=>match decide (c.toNat=46)with
  |true=>some r
  |false=>CX r
def pC(s:ByteArray):Option ByteArray:=match CX s.data.toList with
 |some r=>some (aM r)
 |none=>none
def pW(name gKM:ByteArray):Bool:=decide (name=gKM)||((pC name).isNone&&decide (pC gKM=some name))
def js(name:ByteArray):List cK->Int->Option Int->Int×Int
 | [],_,none=>(0,2)
 | [],_,some a=>(a,0)
 |c::r,i,at_=>match pW name c.name with
  |false=>js name r (i+1) at_
  |true=>match at_ with
   |some _=>(0,12)
   |none=>js name r (i+1) (some i)
def gS(name:ByteArray)(cols:List cK):Int×Int:=js name cols 0 none
def ek(op:Int):Int:=
 if op=1\/op=2 then 0 else if op=3\/op=4\/op=5 then 1 else if 6<=op/\op<=16 then 2 else -1
def QA(k want:Int):Bool:=decide (k=0)||decide (k=want)
def hKN(op a b:Int):Int:=if op=8\/op=9\/op=10\/op=11\/op=12\/op=13 then(if a=0 then b else a)else if op=4\/op=14\/op=15\/op=16 then 2 else 1
def eKD(op:Int):Int:=if op=4\/op=14\/op=15\/op=16 then 2 else 1
def ER(op a b:Int):Int×Int:=
 if op=5 then(1,0)else if(!QA a (hKN op a b)|| !QA b (hKN op a b))=true then(0,3)else(eKD op,0)
def VS(l:List Int)(a:Int):Int:=(l[a.toNat]?).getD 0
def Ag(n:Nd)(l:List Int)(cols:List cK):Int×Int:=
 if ek n.op<0\/(ek n.op>0/\(n.a<0\/n.a>=l.length))\/(ek n.op>1/\(n.b<0\/n.b>=l.length))then(0,1)
 else if n.op=1 then(n.v.k,fv n.v)
 else if n.op=2 then
  match gS n.name cols with
  | (c,e)=>if e≠0 then(0,e)else(match cols[c.toNat]? with
   |some c=>(c.kind,0)
   |none=>(0,0))
 else if ek n.op=1 then ER n.op (VS l n.a) (VS l n.a)else ER n.op (VS l n.a) (VS l n.b)
def eK(cols:List cK):List Nd->List Int->List Int×Int
 | [],l=>(l,0)
 |n::r,l=>match Ag n l cols with
  | (k,e)=>if e≠0 then(l,e)else eK cols r (l++[k])
def Af(l:List Int):Int:=(l.getLast?).getD 0
def jv(e:List Nd)(cols:List cK):Int×Int:=
 if e.length<1\/e.length>60 then(0,1)else match eK cols e []with
  | (l,f)=>if f≠0 then(0,f)else(Af l,0)
def bD(b:Bool):cO:=match b with
 |true=>⟨1,1,b0⟩
 |false=>⟨1,0,b0⟩
def rr(x:Int):Bool:=decide (-9223372036854775808<=x)&&decide (x<=9223372036854775807)
def xK(x:Int):Option cO:=if rr x=true then some ⟨2,x,b0⟩else none
def eD(op a b:Int):Option cO:=if op=4 then xK (-a)else if op=14 then xK (a+b)else if op=15 then xK (a-b)else xK (a*b)
def re(a b:cO):Bool:=decide (a.k=b.k)&&decide (a.n=b.n)&&decide (a.s=b.s)
def oT(op:Int)(a b:cO):cO:=
 if re a (bD (decide (op=6)))=true then a else if re b (bD (decide (op=6)))=true then b
 else if a.k=0\/b.k=0 then v0 else bD (!decide (op=6))
def qK(op:Int)(a b:cO):Option cO:=
 if op=5 then some (bD (decide (a.k=0)))
 else if op=6\/op=7 then some (oT op a b)
 else if a.k=0\/b.k=0 then some v0
 else if op=3 then some (bD (decide (a.n=0)))
 else if op=8 then some (bD (decide (bC a b=0)))
 else if op=9 then some (bD (decide (bC a b≠0)))
 else if op=10 then some (bD (decide (bC a b<0)))
 else if op=11 then some (bD (decide (bC a b<=0)))
 else if op=12 then some (bD (decide (bC a b>0)))
 else if op=13 then some (bD (decide (bC a b>=0)))
 else eD op a.n b.n
def fT(l:List cO)(a:Int):cO:=(l[a.toNat]?).getD v0
def xM(n:Nd)(l:List cO)(cols:List cK)(r:Row):Option cO:=
 if n.op=1 then some n.v
 else if n.op=2 then(match gS n.name cols with
  | (c,_)=>some (fT r c))
 else if ek n.op=1 then qK n.op (fT l n.a) (fT l n.a)else qK n.op (fT l n.a) (fT l n.b)
def gM(cols:List cK)(r:Row):List Nd->List cO->Option (List cO)
 | [],l=>some l
 |n::e,l=>match xM n l cols r with
  |some v=>gM cols r e (l++[v])
  |none=>none
def xV(l:List cO):cO:=(l.getLast?).getD v0
def eP(e:List Nd)(cols:List cK)(r:Row):cO×Int:=match jv e cols with
 | (_,f)=>if f≠0 then(v0,f)else match gM cols r e []with
  |some l=>(xV l,0)
  |none=>(v0,11)
set_option maxRecDepth 100000
set_option maxHeartbeats 8000000
open Go.Sx Go.Proofs
variable {s:ByteArray}{x:Int}{K:List PanicEntry->ad->Prop}{cols:List cK}{l:List cO}{cc cn d e ec lc rc:Nat}{cb rb:Option Addr}{r:Row}{R k:Value->ad->Prop}{h:ad}{c:cK}
def eXE(s:ByteArray):Prop:=∀i,i<s.size->(s.data.getD i 0).toNat<128
theorem XU{P:Program}{ty:TypeId}{r p:Nat}(g:h r=some (.stringIter s p))(a:∀i,i<s.size->(s.data.getD i 0).toNat<128)
  (h0:s.size<=p->k (.tuple #[.bool false]) h)
 (K:∀h' z b,p<s.size->h'=bU h r (.stringIter s (p+1))->aS z p->b=((s.data.getD p 0).toNat:Int)->k (.tuple #[.bool true,.int .i64 z,.int .i32 b]) h'):
 fW (λ_=>P) (λ_=>Instr.next (.pointer (some ⟨r,0,none⟩)) true ty) h k:=XV g a h0 (λh' c e=>K h' _ _ c e ⟨rfl⟩ rfl)
theorem bQJ(c:UInt8)(r:By):CX (c::r)=match decide (c.toNat=46)with
 |true=>some r
 |false=>CX r:=rfl
theorem Xc(V:eXE s)(mX:s.size<=2^40)
 (B:∀h' v t,Le h h'->(t=true->pC s=some v)->(t=false->pC s=none)->k (.tuple #[.string v,.bool t]) h'):
 Ct 317 [.string s] h k:=by
 obtain⟨A,L⟩:=Ar.ex;have E:aS (A .jO s) s.size:=⟨by rw[L.jO]⟩;refine mQF fKq A Tryz.func317 ?_;cbv;refine Sp u9 (λr K U w=>?_);obtain⟨I,a⟩:∃I:Nat->Unit->ad->Prop,∀m g h',I m g h'=∃i t,Av s i t/\CX t=CX s.data.toList/\h'=bU h r (.stringIter s i)/\m=t.length:=⟨_,λ_ _ _=>rfl⟩;have y:I s.data.toList.length () K:=by rw[a];exact⟨0,_,Av.start s,rfl,w,rfl⟩
 have l:∀o,Le h (bU h r o):=λo=>Le.set U;cbv;refine aX.go (G:=Unit) (λ_=>[]) (λ_=>[]) (λm g h'=>I m g h') s.data.toList.length () (by constructor<;>cbv) y ?_
 intro m g h' N;rw[a]at N;cbv;obtain⟨i,t,q,hd,e',hm⟩:=N;have S:h' r=some (.stringIter s i):=by rw[e'];exact ae
 have hl:=q.len;have wE:Le h h':=by rw[e'];exact l _
 refine XU S V (λoX=>?_) (λd z b hp F C f=>?_)
 .have W:t=[]:=by
   cases t with
   |nil=>rfl
   |cons c r=>have:(c::r).length=r.length+1:=rfl;omega
  subst W;have f:pC s=none:=by unfold pC;rw[<-hd];rfl
  have p:=B h' ⟨#[]⟩ false wE (λe=>by cases e) (λ_=>f);cbv;exact p
 cases t with
 |nil=>have:([]:By).length=0:=rfl;omega
 |cons c rest=>
  have yW:b=(c.toNat:Int):=by
   rw[f];have x:=q.byte (A:=A) (z:=z) C;rw[L.byte]at x;have w:z.toNat=i:=by have:=C.eq;omega
   simp only[w]at x;exact x
  have H:A .aI .eql b 46=decide (c.toNat=46):=by rw[aA A,decide_eq_decide,yW];omega
  have X:Le h d:=by rw[F,e',oW];exact l _
  rw[bQJ]at hd;have tW:(c::rest).length=rest.length+1:=rfl;have O:=q.next;have Z:=C.succ (A:=A);have R:0<=A .bB .add .i64 z 1/\A .bB .add .i64 z 1<=(s.size:Int):=by have K:=Z.eq;have d:=E.eq;omega
  have M:A .sub s (A .bB .add .i64 z 1) (A .jO s)=aM rest:=by
   have Y:aS (A .jO s) (i+1+rest.length):=by
    have T:i+1+rest.length=s.size:=by omega
    rw[T];exact E
   have:=O.sub (A:=A) Z (n:=rest.length) Y;rw[mXa (mQD _)]at this;exact this
  have P:rest.length<m:=by omega
  clear f;cbv;rw[H];clear H;generalize decide (c.toNat=46)=u at *;cases u with
  |true=>
   have hd:some rest=CX s.data.toList:=hd;have j:pC s=some (aM rest):=by unfold pC;rw[<-hd]
   obtain⟨D,J⟩:∃D,aM rest=D:=⟨_,rfl⟩;rw[J]at j M;have p:=B d D true X (λ_=>j) (λe=>by cases e);clear a y;cbv;refine⟨R,?_⟩;cbv;try rw[M]
   exact p
  |false=>
   have hd:CX rest=CX s.data.toList:=hd;have Q:I rest.length () d:=by rw[a];exact⟨i+1,rest,O,hd,by rw[F,e',oW],rfl⟩
   clear a y B;cbv;refine⟨rest.length,(),P,by constructor<;>cbv,Q⟩
structure Nm(s:ByteArray):Prop where
 dQu:eXE s
 sz:s.size<=2^40
theorem dXt{name:ByteArray}(m:Nm name)(d:Nm c.name)(a:∀h' t,Le h h'->t=pW name c.name->k (.bool t) h'):
 Ct 300 [.string name,.agg #[.string c.name,.int .i64 c.kind,.bool c.null]] h k:=by
 obtain⟨A,r⟩:=Ar.ex;obtain⟨n,x,y⟩:=c;have d:Nm n:=d;have j:A .iQ .eql name n=decide (name=n):=cS A ..;have g:pW name n=(decide (name=n)||((pC name).isNone&&decide (pC n=some name))):=rfl;have a:∀h',Le h h'->k (.bool (pW name n)) h':=λh' l=>a h' _ l rfl;refine mQF lXX A Tryz.func300 ?_;cbv;rw[j];clear j;by_cases e:name=n
 .have f:=a h (Le.refl _);rw[g,mQu e]at f;have f:k (.bool true) h:=f;rw[mQu e];cbv;exact f
 rw[mQv e]at g |-;cbv;refine Xc m.dQu m.sz (λz B i s a1 o=>?_);cbv;refine Xc d.dQu d.sz (λb v w u a2 p=>?_);have V:A .not i= !i:=by rw[r.not]
 have q:A .iQ .eql name v=decide (name=v):=cS A ..;have a:=a b (s.trans u);rw[g]at a;cases i with
 |true=>rw[a1 rfl]at a;have f:k (.bool false) b:=a;cbv;rw[V];cbv;exact f
 |false=>
  rw[o rfl]at a;cases w with
  |false=>rw[p rfl]at a;have hd:decide ((none:Option ByteArray)=some name)=false:=mQv (by intro h;cases h);rw[hd]at a;have f:k (.bool false) b:=a;cbv;rw[V];cbv;exact f
  |true=>
   rw[a2 rfl]at a;have hd:decide (some v=some name)=decide (name=v):=by rw[decide_eq_decide];constructor<;>(intro h;cases h;rfl)
   rw[hd]at a;have f:k (.bool (decide (name=v))) b:=a;rw[<-q]at f;cbv;rw[V];cbv;exact f
theorem pf{name:ByteArray}{l:List cK}{i:Int}{at_:Option Int}:js name (c::l) i at_=match pW name c.name with
 |false=>js name l (i+1) at_
 |true=>match at_ with
  |some _=>(0,12)
  |none=>js name l (i+1) (some i):=rfl
theorem QE{name:ByteArray}:∀(l:List cK) (i:Int) (at_:Option Int) (r:Int×Int),js name l i at_=r->(at_=none\/∃a,at_=some a/\0<=a/\a<i)->0<=i->r.2=0->0<=r.1/\r.1<i+l.length:=by
 intro l;induction l with
 |nil=>
  intro i at_ r h d f h0;cases at_ with
  |none=>have h:((0:Int),(2:Int))=r:=h;subst h;cases h0
  |some a=>
   have h:(a,(0:Int))=r:=h;subst h;rcases d with d| ⟨b,d,e,j⟩
   .cases d
   cases d;exact⟨e,by show a<i+((0:Nat):Int);omega⟩
 |cons c l g=>
  intro i at_ r h d f h0;rw[pf]at h;have n:((c::l).length:Int)=l.length+1:=by simp
  cases t:pW name c.name with
  |false=>
   rw[t]at h;have:=g (i+1) at_ r h (by
    rcases d with d| ⟨a,d,e,j⟩
    .exact .inl d
    exact .inr ⟨a,d,e,by omega⟩) (by omega) h0
   omega
  |true=>
   rw[t]at h;cases at_ with
   |some a=>cases h;cases h0
   |none=>have:=g (i+1) (some i) r h (.inr ⟨i,rfl,f,by omega⟩) (by omega) h0;omega
theorem cKX{name:ByteArray}(hn:Nm name)(hc:∀c∈cols,Nm c.name){b:Option Addr}{n F:Nat}(q:Sl 155 bI h (.slice b n F) cols)
 (f:∀h' z e,Le h h'->gS name cols=(z,e)->(e=0->0<=z/\z<cols.length)->k (.tuple #[.int .i64 z,.int .i64 e]) h'):
 Ct 272 [.string name,.slice b n F] h k:=by
 have M:=q.len;have sM:=q.bound;have f:∀h' z e,Le h h'->gS name cols=(z,e)->k (.tuple #[.int .i64 z,.int .i64 e]) h':=λh' z e l L=>f h' z e l L (λh0=>by
  have:=QE cols 0 none (z,e) L (.inl rfl) (by decide) h0;simpa using this)
 obtain⟨R,hR⟩:∃R,gS name cols=R:=⟨_,rfl⟩;rw[hR]at f;obtain⟨I,Y⟩:∃I:Nat->Int×Int->ad->Prop,∀m g h',I m g h'=∃i,aS g.1 i/\i<=n/\m=n-i/\Le h h'/\((g.2=-1/\js name (cols.drop i) g.1 none=R)\/(0<=g.2/\js name (cols.drop i) g.1 (some g.2)=R)):=⟨_,λ_ _ _=>rfl⟩;have J:I n (0,-1) h:=by rw[Y];exact⟨0,⟨rfl⟩,mQC _,rfl,Le.refl _,.inl ⟨rfl,hR⟩⟩
 refine mQx lZa Tryz.func272 λA hA=>?_;cbv;refine aX.go (G:=Int×Int) (λg=>[(11,.v (.int .i64 g.1)),(6,.v (.int .i64 g.2))]) (λ_=>[]) (λm g h'=>I m g h') n (0,-1) (by constructor<;>cbv) J ?_
 intro m g u p;rw[Y]at p;cbv;obtain⟨i,o,hi,hm,v,d⟩:=p;obtain⟨z,a⟩:=g;have o:aS z i:=o;have d:(a=-1/\js name (cols.drop i) z none=R)\/(0<=a/\js name (cols.drop i) z (some a)=R):=d;have U:A .aI .lss z (A .nat n)=decide (i<n):=o.iJ (aS.nat n);have H:A .aI .geq a 0=decide (a>=0):=cf A ..;have K:A .aI .lss a 0=decide (a<0):=bm A ..;rw[U];by_cases P:i<n
 .obtain⟨c,B⟩:=mQA cols i;have O:=hc c (mQz B);have Q:b.isSome=true/\0<=z/\z<(n:Int):=⟨q.aT,o.ix P⟩;have S:=o.eq;have T:=o.succ (A:=A);have N:A .bB .add .i64 z 1=z+1:=tI A _ _ (by omega);have hd:cols.drop i=c::cols.drop (i+1):=by obtain⟨u,j⟩:=mQB.1 B;rw[mQJ u,j]
  rw[hd,pf,pf]at d;have D:∀a2 j,Le h j->((a2=-1/\js name (cols.drop (i+1)) (z+1) none=R)\/(0<=a2/\js name (cols.drop (i+1)) (z+1) (some a2)=R))->I (n-(i+1)) (A .bB .add .i64 z 1,a2) j:=λa2 j l hh=>by
   rw[Y];exact⟨i+1,T,P,rfl,l,by rw[N];exact hh⟩
  have X:n-(i+1)<m:=by omega
  clear Y J N hd;rw[mQu P];cbv;refine⟨Q,?_⟩;cbv;refine(q.mono (v.t _)).load B S (λcs y=>?_);obtain⟨s,C,E⟩:=c;have y:cs=[.string s,.int .i64 C,.bool E]:=y;subst y;cbv;refine dXt (c:=⟨s,C,E⟩) hn O (λj t l2 x=>?_);have Z:=v.trans l2;replace d:(a=-1/\(match pW name s with
   |false=>js name (cols.drop (i+1)) (z+1) none
   |true=>js name (cols.drop (i+1)) (z+1) (some z))=R)\/(0<=a/\(match pW name s with
   |false=>js name (cols.drop (i+1)) (z+1) (some a)
   |true=>(0,12))=R):=d
  have x:t=pW name s:=x;rw[<-x]at d;have V:A .not t= !t:=by rw[hA.not]
  cases t with
  |false=>
   have p:=D a j Z d;clear D f d;cbv;rw[V];cbv;refine⟨n-(i+1),(A .bB .add .i64 z 1,a),X,by constructor<;>cbv,p⟩
  |true=>
   rcases d with⟨w,d⟩|⟨w,d⟩
   .have W:decide (a>=0)=false:=mQv (by omega);have p:=D z j Z (.inr ⟨by have:=o.eq;omega,d⟩);clear D f d;cbv;rw[V];cbv;rw[H,W];cbv;refine⟨n-(i+1),(A .bB .add .i64 z 1,z),X,by constructor<;>cbv,p⟩
   have W:decide (a>=0)=true:=mQu (by omega);have r:=f j 0 12 Z d.symm;clear D f d;cbv;rw[V];cbv;rw[H,W];cbv;exact r
 have hd:cols.drop i=[]:=mQT (by omega);rw[hd]at d;rw[mQv P];rcases d with⟨w,d⟩|⟨w,d⟩
 .have r:=f u 0 2 v d.symm;have W:decide (a<0)=true:=mQu (by omega);clear Y J f d;cbv;rw[K,W];cbv;exact r
 have r:=f u a 0 v d.symm;have W:decide (a<0)=false:=mQv (by omega);clear Y J f d;cbv;rw[K,W];cbv;exact r
theorem SE(op:Int)(a:∀z,z=ek op->k (.int .i64 z) h):Ct 273 [.int .i64 op] h k:=by
 refine mQx lXZ Tryz.func273 λA b=>?_;cbv;repeat' (refine bh (λc=>?_) (λc=>?_)<;>(try rw[c])<;>cbv)
 all_goals
  refine a _ ?_;simp only[aA A,cf A,vM A,mQR,decide_eq_false_iff_not]at *;unfold ek;repeat' split
  all_goals omega
theorem fJi(a b:Int)(d:∀t,t=QA a b->k (.bool t) h):Ct 316 [.int .i64 a,.int .i64 b] h k:=by
 refine mQx fKr Tryz.func316 λA e=>?_;cbv;repeat' (refine bh (λc=>?_) (λc=>?_)<;>(try rw[c])<;>cbv)
 all_goals
  refine d _ ?_;simp only[aA A,mQR,decide_eq_false_iff_not]at *;unfold QA;simp[*]
theorem cJI(op a b:Int)(f:∀z e,(z,e)=ER op a b->k (.tuple #[.int .i64 z,.int .i64 e]) h):Ct 299 [.int .i64 op,.int .i64 a,.int .i64 b] h k:=by
 refine mQx ZX Tryz.func299 λA d=>?_;cbv;repeat' (first
  | (refine bh (λc=>?_) (λc=>?_)<;>(try rw[c])<;>cbv)
  | (refine fJi _ _ (λt g=>?_);cbv))
 all_goals
  refine f _ _ ?_;simp only[aA A,d.not,mQR,decide_eq_false_iff_not]at *;simp only[ER,hKN,eKD,QA]at *;simp_all
theorem tJ(b:Bool)(a:∀v,v=(bD b).v->k v h):Ct 301 [.bool b] h k:=by
 refine mQx lXW Tryz.func301 λA c=>?_;cbv;cases b with
 |true=>exact a _ rfl
 |false=>exact a _ rfl
theorem OY(v:cO)(a:k (.bool (decide (v.k=0))) h):Ct 302 [v.v] h k:=by obtain⟨A,c⟩:=Ar.ex;obtain⟨b,n,s⟩:=v;have f:A .aI .eql b 0=decide (b=0):=aA A ..;have a:k (.bool (decide (b=0))) h:=a;refine mQF lXV A Tryz.func302 ?_;cbv;rw[f];exact a
abbrev Yn:List PanicEntry:=[{ v:=.iface 35 (.int .i64 11),recovered:=false }]
abbrev dQB(f:FuncId)(args:List Value)(h:ad)(R:Value->ad->Prop)(K:List PanicEntry->ad->Prop):Prop:=Rr (λ_=>Tryz.prog) f args h R K
def Mf(n:Nat):Bool:=[333,319,321,318,320,304,274,234].contains n
theorem Dl(n:Int)(o:Bool)(a:o=false->R (.int .i64 n) h)(b:o=true->K Yn h):
 dQB 333 [.int .i64 n,.bool o] h R K:=by
 obtain⟨A,d⟩:=Ar.ex;refine mQ A (tK fKc.aK fKc.bF Mf [] (λc _ h=>K c h)) Tryz.func333 rfl (by kernel_rfl) (λ_ _ _ q=>q) ?_;cbv;cases o with
 |true=>cbv;exact b rfl
 |false=>cbv;exact a rfl
theorem jP:rr x=true↔-9223372036854775808<=x/\x<=9223372036854775807:=by unfold rr;rw[mQQ,mQR,mQR]
theorem tC:rr x=false↔¬(-9223372036854775808<=x/\x<=9223372036854775807):=by rw[<-jP];simp
theorem hZm(a b:Int)(j:rr a=true)(k:rr b=true)(f:rr (a+b)=true->R (.int .i64 (a+b)) h)(i:rr (a+b)=false->K Yn h):
 dQB 319 [.int .i64 a,.int .i64 b] h R K:=by
 obtain⟨A,n⟩:=Ar.ex;rw[jP]at j k;have l:b>0->A .bB .sub .i64 9223372036854775807 b=9223372036854775807-b:=λg=>zK A _ _ (by omega);have m:b<0->A .bB .sub .i64 (-9223372036854775808) b=-9223372036854775808-b:=λg=>zK A _ _ (by omega);refine mQ A (tK fKo.aK fKo.bF Mf [] (λc _ h=>K c h)) Tryz.func319 rfl (by kernel_rfl) (λ_ _ _ q=>q) ?_;cbv;repeat' (refine bh (λd=>?_) (λd=>?_)<;>(try rw[d])<;>cbv)
 all_goals (refine Dl _ _ (λo=>?_) (λo=>?_))
 all_goals (cbv)
 all_goals (try (simp only[bO A,bm A,aA A,mQR,decide_eq_false_iff_not,mZe,mZD,reduceCtorEq]at o))
 all_goals (try simp only[bO A,bm A,aA A,mQR,decide_eq_false_iff_not]at *)
 all_goals first
  | (refine i (tC.2 ?_);omega)
  | (
   by_cases r:rr (a+b)=true
   .have e:A .bB .add .i64 a b=a+b:=tI A _ _ (jP.1 r);rw[e];exact f r
   exfalso;rw[mJa,tC]at r;omega)
theorem fQq(a b:Int)(j:rr a=true)(k:rr b=true)(f:rr (a-b)=true->R (.int .i64 (a-b)) h)(i:rr (a-b)=false->K Yn h):
 dQB 320 [.int .i64 a,.int .i64 b] h R K:=by
 obtain⟨A,n⟩:=Ar.ex;rw[jP]at j k;have l:b>0->A .bB .add .i64 (-9223372036854775808) b=-9223372036854775808+b:=λg=>tI A _ _ (by omega);have m:b<0->A .bB .add .i64 9223372036854775807 b=9223372036854775807+b:=λg=>tI A _ _ (by omega);refine mQ A (tK fKn.aK fKn.bF Mf [] (λc _ h=>K c h)) Tryz.func320 rfl (by kernel_rfl) (λ_ _ _ q=>q) ?_;cbv;repeat' (refine bh (λd=>?_) (λd=>?_)<;>(try rw[d])<;>cbv)
 all_goals (refine Dl _ _ (λo=>?_) (λo=>?_))
 all_goals (cbv)
 all_goals (try (simp only[bO A,bm A,aA A,mQR,decide_eq_false_iff_not,mZe,mZD,reduceCtorEq]at o))
 all_goals (try simp only[bO A,bm A,aA A,mQR,decide_eq_false_iff_not]at *)
 all_goals first
  | (refine i (tC.2 ?_);omega)
  | (
   by_cases r:rr (a-b)=true
   .have e:A .bB .sub .i64 a b=a-b:=zK A _ _ (jP.1 r);rw[e];exact f r
   exfalso;rw[mJa,tC]at r;omega)
theorem dZP(a:Int)(g:rr a=true)(d:rr (-a)=true->R (.int .i64 (-a)) h)(f:rr (-a)=false->K Yn h):
 dQB 318 [.int .i64 a] h R K:=by
 obtain⟨A,i⟩:=Ar.ex;rw[jP]at g;refine mQ A (tK fKp.aK fKp.bF Mf [] (λc _ h=>K c h)) Tryz.func318 rfl (by kernel_rfl) (λ_ _ _ q=>q) ?_;cbv;repeat' (refine bh (λb=>?_) (λb=>?_)<;>(try rw[b])<;>cbv)
 all_goals (refine Dl _ _ (λo=>?_) (λo=>?_))
 all_goals (cbv)
 all_goals (try (simp only[bO A,bm A,aA A,mQR,decide_eq_false_iff_not,mZe,mZD,reduceCtorEq]at o))
 all_goals (try simp only[bO A,bm A,aA A,mQR,decide_eq_false_iff_not]at *)
 all_goals first
  | (refine f (tC.2 ?_);omega)
  | (
   by_cases r:rr (-a)=true
   .have e:A .bB .sub .i64 0 a=-a:=by rw[zK A _ _ (by rw[jP]at r;omega)];omega
    rw[e];exact d r
   exfalso;rw[mJa,tC]at r;omega)
theorem UL(x:Int):∃k:Int,IntKind.i64.wrap x=x+k*18446744073709551616/\-9223372036854775808<=IntKind.i64.wrap x/\IntKind.i64.wrap x<=9223372036854775807:=by
 have h:IntKind.i64.signed=true:=rfl;simp only[IntKind.wrap,IntKind.bits,h];simp;split
 .exact⟨⟨-(x / 18446744073709551616)-1,by omega⟩,by omega,by omega⟩
 exact⟨⟨-(x / 18446744073709551616),by omega⟩,by omega,by omega⟩
theorem bKt{a b:Int}(Z:b≠0)(m:-9223372036854775808<=a/\a<=9223372036854775807)(n:-9223372036854775808<=b/\b<=9223372036854775807)
 (f:IntKind.i64.wrap ((IntKind.i64.wrap (a*b)).tdiv b)=a) (i:¬(a=-1/\b=-9223372036854775808)) (l:¬(b=-1/\a=-9223372036854775808)):-9223372036854775808<=a*b/\a*b<=9223372036854775807:=by
 obtain⟨k,s,g,t⟩:=UL (a*b);generalize IntKind.i64.wrap (a*b)=c at *;obtain⟨j,q,Y,Q⟩:=UL (c.tdiv b);have e:=nQA c b;have P:(c.tdiv b).natAbs<=c.natAbs:=by rw[Int.natAbs_tdiv];exact Nat.div_le_self _ _
 by_cases C:j=0
 .subst C;have h:c.tdiv b=a:=by omega
  rw[h]at e;have d:(c.tmod b).natAbs<b.natAbs:=by rw[mKl];exact mZV _ (by omega)
  have o:=d;generalize c.tmod b=r at *;generalize a*b=p at *;have:r=k*18446744073709551616:=by omega
  omega
 have h:c.tdiv b=9223372036854775808:=by omega
 have R:c=-9223372036854775808:=by omega
 have K:b=-1:=by
  rw[h,R]at e;have d:((-9223372036854775808:Int).tmod b).natAbs<b.natAbs:=by rw[mKl];exact mZV _ (by omega)
  rw[R]at h;generalize (-9223372036854775808:Int).tmod b=r at *;omega
 subst K;omega
theorem aZu(a b:Int)(g:rr a=true)(l:rr b=true)(f:rr (a*b)=true->R (.int .i64 (a*b)) h)(j:rr (a*b)=false->K Yn h):
 dQB 321 [.int .i64 a,.int .i64 b] h R K:=by
 obtain⟨A,k⟩:=Ar.ex;rw[jP]at g l;have s:A .bB .mul .i64 a b=IntKind.i64.wrap (a*b):=by rw[k.bB];rfl
 have t:∀c,A .bB .quo .i64 c b=IntKind.i64.wrap (c.tdiv b):=λc=>by rw[k.bB];rfl
 refine mQ A (tK nXK.aK nXK.bF Mf [] (λc _ h=>K c h)) Tryz.func321 rfl (by kernel_rfl) (λ_ _ _ q=>q) ?_;cbv;by_cases h0:a=0\/b=0
 .have Z:a*b=0:=by rcases h0 with rfl|rfl<;>simp
  rw[Z]at f;have p:=f (by decide);clear f j;repeat' (refine bh (λd=>?_) (λd=>?_)<;>(try rw[d])<;>cbv)
  all_goals first
   |exact p
   | (exfalso;simp only[aA A,mQR,decide_eq_false_iff_not]at *;omega)
 have i:A .aI .eql a 0=false:=by rw[aA A,decide_eq_false_iff_not];omega
 have n:A .aI .eql b 0=false:=by rw[aA A,decide_eq_false_iff_not];omega
 have J:b≠0:=by omega
 rw[i];cbv;rw[n];cbv;have s1:a=-1->a*b=-b:=λe=>by rw[e];omega
 have s2:b=-1->a*b=-a:=λe=>by rw[e];omega
 have w:-9223372036854775808<=a*b/\a*b<=9223372036854775807->IntKind.i64.wrap (a*b)=a*b:=λr=>IntWalk.i64_in _ r;have u:-9223372036854775808<=a*b/\a*b<=9223372036854775807->IntKind.i64.wrap ((IntKind.i64.wrap (a*b)).tdiv b)=a:=λr=>by
  rw[w r,Int.mul_tdiv_cancel _ J];exact IntWalk.i64_in _ g
 have Y:=bKt (a:=a) (b:=b) J g l;refine⟨J,?_⟩;cbv;repeat' (refine bh (λd=>?_) (λd=>?_)<;>(try rw[d])<;>cbv)
 all_goals (refine Dl _ _ (λm=>?_) (λm=>?_))
 all_goals (cbv)
 all_goals (try (simp only[bO A,bm A,aA A,mQR,decide_eq_false_iff_not,mZe,mZD,reduceCtorEq]at m))
 all_goals (simp only[aA A,aC A,mQR,decide_eq_false_iff_not,s,t]at *)
 all_goals first
  | (refine j (tC.2 ?_);omega)
  | (
   by_cases r:rr (a*b)=true
   .have o:=r;rw[jP]at o;rw[w o];exact f r
   exfalso;rw[mJa,tC]at r;omega)
theorem bKz(op a b:Int)(m:rr a=true)(n:rr b=true)(d:∀v,eD op a b=some v->R v.v h)(i:eD op a b=none->K Yn h):
 dQB 304 [.int .i64 op,.int .i64 a,.int .i64 b] h R K:=by
 obtain⟨A,t⟩:=Ar.ex;have o:A .aI .eql op 4=decide (op=4):=aA A ..;have p:A .aI .eql op 14=decide (op=14):=aA A ..;have s:A .aI .eql op 15=decide (op=15):=aA A ..;have num:∀x,(∀v,xK x=some v->R v.v h)->rr x=true->R (.agg #[.int .i64 2,.int .i64 x,.string ⟨#[]⟩]) h:=λx hx r=>hx ⟨2,x,b0⟩ (by unfold xK;rw[if_pos r]);have J:∀x,(xK x=none->K Yn h)->rr x=false->K Yn h:=λx hx r=>hx (by unfold xK;rw[r];rfl);refine mQ A (tK fKD.aK fKD.bF Mf [] (λc _ h=>K c h)) Tryz.func304 rfl (by kernel_rfl) (λ_ _ _ q=>q) ?_;cbv;rw[o];by_cases j:op=4
 .have e:eD op a b=xK (-a):=by unfold eD;rw[if_pos j]
  rw[e]at d i;rw[mQu j];cbv;refine dZP a m (λg=>?_) (λg=>?_)
  .have f:=num _ d g;cbv;exact f
  have f:=J _ i g;cbv;exact f
 rw[mQv j];cbv;rw[p];by_cases k:op=14
 .have e:eD op a b=xK (a+b):=by unfold eD;rw[if_neg j,if_pos k]
  rw[e]at d i;rw[mQu k];cbv;refine hZm a b m n (λg=>?_) (λg=>?_)
  .have f:=num _ d g;generalize a+b=c at *;cbv;exact f
  have f:=J _ i g;cbv;exact f
 rw[mQv k];cbv;rw[s];by_cases l:op=15
 .have e:eD op a b=xK (a-b):=by unfold eD;rw[if_neg j,if_neg k,if_pos l]
  rw[e]at d i;rw[mQu l];cbv;refine fQq a b m n (λg=>?_) (λg=>?_)
  .have f:=num _ d g;generalize a-b=c at *;cbv;exact f
  have f:=J _ i g;cbv;exact f
 have e:eD op a b=xK (a*b):=by unfold eD;rw[if_neg j,if_neg k,if_neg l]
 rw[e]at d i;rw[mQv l];cbv;refine aZu a b m n (λg=>?_) (λg=>?_)
 .have f:=num _ d g;generalize a*b=c at *;cbv;exact f
 have f:=J _ i g;cbv;exact f
theorem pA(A:Ar)[h:bM A](a b:cO):A .and (A .aI .eql a.k b.k) (A .and (A .aI .eql a.n b.n) (A .and (A .iQ .eql a.s b.s) true))=re a b:=by rw[h.and,aA A,aA A,cS A];show(decide (a.k=b.k)&&(decide (a.n=b.n)&&(decide (a.s=b.s)&&true)))=_;unfold re;rw[mZK,Bool.and_assoc]
theorem aJl(op:Int)(a b:cO)(B:∀h' v,Le h h'->v=(oT op a b).v->k v h'):Ct 303 [.int .i64 op,a.v,b.v] h k:=by
 obtain⟨A,hA⟩:=Ar.ex;have f1:A .aI .eql op 6=decide (op=6):=aA A ..;have L:oT op a b=if re a (bD (decide (op=6)))=true then a else if re b (bD (decide (op=6)))=true then b
  else if a.k=0\/b.k=0 then v0 else bD (!decide (op=6)):=rfl
 generalize decide (op=6)=d at *;obtain⟨T,Y⟩:∃T,T=bD d:=⟨_,rfl⟩;have Q:∀x:cO,A .and (A .aI .eql x.k T.k) (A .and (A .aI .eql x.n T.n) (A .and (A .iQ .eql x.s T.s) true))=re x T:=λx=>pA A x T;rw[<-Y]at L;obtain⟨e,j,o⟩:=a;obtain⟨f,l,p⟩:=b;refine mQF fKE A Tryz.func303 ?_;cbv;rw[f1];cbv;intro Z D hn X;have S:Le h D:=by rw[X];exact Le.set hn
 have q:Sl 86 bq D (.slice (some ⟨Z,0,none⟩) 2 2) [⟨e,j,o⟩,⟨f,l,p⟩]:=by
  refine Sl.fresh (s:=bq) (h:=D) (n:=Z) (xs:=[⟨e,j,o⟩,⟨f,l,p⟩]) (cap:=2) (c:=[.int .i64 e,.int .i64 j,.string o,.int .i64 f,.int .i64 l,.string p]) (by rw[X];exact ae) ⟨mQD 6,λi x hx=>?_⟩ (by show 2<=_;omega) (mQD 2)
  match i,hx with
  |0,hx=>cases hx;rfl
  |1,hx=>cases hx;rfl
  |i+2,hx=>simp at hx
 cbv;refine aX.go (G:=Int) (λz=>[(16,.v (.int .i64 z))]) (λ_=>[(4,[.int .i64 e,.int .i64 j,.string o]),(5,[.int .i64 f,.int .i64 l,.string p]),(6,[.int .i64 0,.int .i64 0,.string ⟨#[]⟩])])
  (λm z h'=>∃i:Nat,aS z i/\m=2-i/\i<=2/\h'=D/\(0<i->re ⟨e,j,o⟩ T=false)/\(1<i->re ⟨f,l,p⟩ T=false)) 2 0 ⟨?_,?_,?_⟩ ⟨0,⟨rfl⟩,by omega,by omega,rfl,λg=>by omega,λg=>by omega⟩ ?_
 .cbv
 .cbv
 .cbv
 intro m z h' R;cbv;obtain⟨i,C,hm,hi,e',r,u⟩:=R;subst e';refine bh (λy=>?_) (λy=>?_)
 .have W:=C.lt (len:=2) y;rw[y];clear y;obtain⟨x,hx⟩:=aE (xs:=[(⟨e,j,o⟩:cO),⟨f,l,p⟩]) (i:=i) (show i<2 by omega);have K:=Q x;have V:re x T=true->k (.agg #[.int .i64 x.k,.int .i64 x.n,.string x.s]) h':=λg=>by
   refine B h' _ S ?_;have:oT op ⟨e,j,o⟩ ⟨f,l,p⟩=x:=by
    rw[L]
    match i,hx,r,u with
    |0,hx,r,u=>cases hx;rw[if_pos g]
    |1,hx,r,u=>cases hx;rw[r (by omega),if_neg (by simp),if_pos g]
    |i+2,hx,_,_=>simp at hx
   rw[this]
  have P:re x T=false->(0<i+1->re ⟨e,j,o⟩ T=false)/\(1<i+1->re ⟨f,l,p⟩ T=false):=λg=>by
   match i,hx,r,u with
   |0,hx,r,u=>cases hx;exact⟨λ_=>g,λg=>by omega⟩
   |1,hx,r,u=>cases hx;exact⟨λ_=>r (by omega),λ_=>g⟩
   |i+2,hx,_,_=>simp at hx
  have cZ:=C.succ (A:=A);have cJ:=C.ix W;have cN:=C.eq;have kX:2-(i+1)<m:=by omega
  clear B L r u;cbv;refine⟨⟨rfl,cJ⟩,?_⟩;cbv;refine q.load hx cN (λcs M=>?_);obtain⟨H,I,xs⟩:=x;have M:cs=[.int .i64 H,.int .i64 I,.string xs]:=M;subst M;cbv;refine tJ d (λv E=>?_);rw[<-Y]at E;obtain⟨tk,F,ts⟩:=T;subst E;cbv;have K:A .and (A .aI .eql H tk) (A .and (A .aI .eql I F) (A .and (A .iQ .eql xs ts) true))=re ⟨H,I,xs⟩ ⟨tk,F,ts⟩:=K;rw[K];clear Q K;generalize re ⟨H,I,xs⟩ ⟨tk,F,ts⟩=t at *;cases t with
  |true=>have w:=V rfl;clear V P;cbv;exact w
  |false=>
   have R:=P rfl;clear V P;cbv;refine⟨2-(i+1),A .bB .add .i64 z 1,kX,by constructor<;>cbv,i+1,cZ,rfl,W,rfl,R⟩
 have lN:=C.ge (len:=2) y;rw[y];clear y;have ab:i=2:=by omega
 have J:oT op ⟨e,j,o⟩ ⟨f,l,p⟩=if e=0\/f=0 then v0 else bD (!d):=by rw[L,r (by omega),u (by omega),if_neg (by simp),if_neg (by simp)]
 have nd:A .not d= !d:=by rw[hA.not]
 have U:(e=0\/f=0)->k (.agg #[.int .i64 0,.int .i64 0,.string ⟨#[]⟩]) h':=λg=>B h' _ S (by rw[J,if_pos g];rfl);have jV:¬(e=0\/f=0)->k (bD (!d)).v h':=λg=>B h' _ S (by rw[J,if_neg g]);clear B L r u J Q;cbv;refine OY ⟨e,j,o⟩ ?_;by_cases N:e=0
 .have w:=U (.inl N);have hd:decide ((⟨e,j,o⟩:cO).k=0)=true:=mQu N;rw[hd];cbv;exact w
 have hd:decide ((⟨e,j,o⟩:cO).k=0)=false:=mQv N;rw[hd];cbv;refine OY ⟨f,l,p⟩ ?_;by_cases O:f=0
 .have w:=U (.inr O);have hd:decide ((⟨f,l,p⟩:cO).k=0)=true:=mQu O;rw[hd];cbv;exact w
 have w:=jV (by rintro(g|g)<;>contradiction);have hd:decide ((⟨f,l,p⟩:cO).k=0)=false:=mQv O;rw[hd];cbv;rw[nd];refine tJ (!d) (λv E=>?_);generalize bD (!d)=tv at *;obtain⟨tk,F,ts⟩:=tv;subst E;cbv;exact w
theorem cJy(op:Int)(a b:cO)(ha:rr a.n=true)(hb:rr b.n=true)
 (r:∀h' w v,Le h h'->qK op a b=some w->v=w.v->R v h') (H:∀h',Le h h'->qK op a b=none->K Yn h'):
 dQB 274 [.int .i64 op,a.v,b.v] h R K:=by
 obtain⟨A,hA⟩:=Ar.ex;have P:qK op a b=if op=5 then some (bD (decide (a.k=0)))
  else if op=6\/op=7 then some (oT op a b)
  else if a.k=0\/b.k=0 then some v0
  else if op=3 then some (bD (decide (a.n=0)))
  else if op=8 then some (bD (decide (bC a b=0)))
  else if op=9 then some (bD (decide (bC a b≠0)))
  else if op=10 then some (bD (decide (bC a b<0)))
  else if op=11 then some (bD (decide (bC a b<=0)))
  else if op=12 then some (bD (decide (bC a b>0)))
  else if op=13 then some (bD (decide (bC a b>=0)))
  else eD op a.n b.n:=rfl
 have f5:A .aI .eql op 5=decide (op=5):=aA A ..;have f6:A .aI .eql op 6=decide (op=6):=aA A ..;have f7:A .aI .eql op 7=decide (op=7):=aA A ..;have f3:A .aI .eql op 3=decide (op=3):=aA A ..;have f8:A .aI .eql op 8=decide (op=8):=aA A ..;have f9:A .aI .eql op 9=decide (op=9):=aA A ..;have U:A .aI .eql op 10=decide (op=10):=aA A ..;have V:A .aI .eql op 11=decide (op=11):=aA A ..;have Y:A .aI .eql op 12=decide (op=12):=aA A ..;have ab:A .aI .eql op 13=decide (op=13):=aA A ..;have L:A .aI .eql a.n 0=decide (a.n=0):=aA A ..;obtain⟨k,n,s⟩:=a;obtain⟨m,j,p⟩:=b;generalize qK op ⟨k,n,s⟩ ⟨m,j,p⟩=D at *;refine mQ A (tK fKZ.aK fKZ.bF Mf [] (λc _ h=>K c h)) Tryz.func274 rfl (by kernel_rfl) (λ_ _ _ q=>q) ?_;cbv;rw[f5];by_cases J:op=5
 .rw[if_pos J]at P;rw[mQu J];cbv;refine OY ⟨k,n,s⟩ ?_;have r:=λv=>r h _ v (Le.refl _) P;clear H P;generalize decide ((⟨k,n,s⟩:cO).k=0)=t at *;cbv;refine tJ t (λv d=>?_);have i:=r v d;generalize bD t=l at *;obtain⟨tk,G,ts⟩:=l;subst d;cbv;exact i
 rw[if_neg J]at P;rw[mQv J];cbv;rw[f6];by_cases S:op=6
 .rw[mQu S];rw[if_pos (show op=6\/op=7 from .inl S)]at P;cbv;refine aJl op ⟨k,n,s⟩ ⟨m,j,p⟩ (λx v I d=>?_);have i:=r x _ v I P d;clear r H P;generalize oT op ⟨k,n,s⟩ ⟨m,j,p⟩=l at *;obtain⟨tk,G,ts⟩:=l;subst d;cbv;exact i
 rw[mQv S];cbv;rw[f7];by_cases T:op=7
 .rw[mQu T];rw[if_pos (show op=6\/op=7 from .inr T)]at P;cbv;refine aJl op ⟨k,n,s⟩ ⟨m,j,p⟩ (λx v I d=>?_);have i:=r x _ v I P d;clear r H P;generalize oT op ⟨k,n,s⟩ ⟨m,j,p⟩=l at *;obtain⟨tk,G,ts⟩:=l;subst d;cbv;exact i
 rw[mQv T];rw[if_neg (by rintro(g|g)<;>contradiction)]at P;have P:D=if k=0\/m=0 then some v0
  else if op=3 then some (bD (decide (n=0)))
  else if op=8 then some (bD (decide (bC ⟨k,n,s⟩ ⟨m,j,p⟩=0)))
  else if op=9 then some (bD (decide (bC ⟨k,n,s⟩ ⟨m,j,p⟩≠0)))
  else if op=10 then some (bD (decide (bC ⟨k,n,s⟩ ⟨m,j,p⟩<0)))
  else if op=11 then some (bD (decide (bC ⟨k,n,s⟩ ⟨m,j,p⟩<=0)))
  else if op=12 then some (bD (decide (bC ⟨k,n,s⟩ ⟨m,j,p⟩>0)))
  else if op=13 then some (bD (decide (bC ⟨k,n,s⟩ ⟨m,j,p⟩>=0)))
  else eD op n j:=P
 have M:k=0\/m=0->R (.agg #[.int .i64 0,.int .i64 0,.string ⟨#[]⟩]) h:=λg=>r h v0 _ (Le.refl _) (by rw[P,if_pos g]) rfl;cbv;refine OY ⟨k,n,s⟩ ?_;by_cases N:k=0
 .have i:=M (.inl N);have hd:decide ((⟨k,n,s⟩:cO).k=0)=true:=mQu N;rw[hd];clear r H P M;cbv;exact i
 have hd:decide ((⟨k,n,s⟩:cO).k=0)=false:=mQv N;rw[hd];clear hd;cbv;refine OY ⟨m,j,p⟩ ?_;by_cases Q:m=0
 .have i:=M (.inr Q);have hd:decide ((⟨m,j,p⟩:cO).k=0)=true:=mQu Q;rw[hd];clear r H P M;cbv;exact i
 have hd:decide ((⟨m,j,p⟩:cO).k=0)=false:=mQv Q;rw[hd];clear hd M;rw[if_neg (by rintro(g|g)<;>contradiction)]at P;cbv;refine(pg ⟨k,n,s⟩ ⟨m,j,p⟩ h).mono (λv x hR=>?_);obtain⟨I,z,d,hz⟩:=hR;subst d;rw[<-hz]at P;have f:∀t:Bool,∀v,D=some (bD t)->v=(bD t).v->R v x:=λt v e d=>r x _ v I e d;have W:D=eD op n j->∀v,eD op n j=some v->R v.v x:=λe v d=>r x v _ I (e.trans d) rfl;have Z:D=eD op n j->eD op n j=none->K Yn x:=λe d=>H x I (e.trans d);clear r H hz;have L:A .aI .eql n 0=decide (n=0):=L;cbv;rw[f3];by_cases X:op=3
 .rw[if_pos X]at P;rw[mQu X];obtain⟨t,u⟩:∃t,t=decide (n=0):=⟨_,rfl⟩;rw[<-u]at P L;have f:=f t;clear W Z;cbv;try rw[L]
  refine tJ t (λv d=>?_);have i:=f v P d;clear f P;generalize bD t=l at *;obtain⟨tk,G,ts⟩:=l;subst d;cbv;exact i
 rw[if_neg X]at P;rw[mQv X];have o:A .aI .eql z 0=decide (z=0):=aA A ..;cbv;rw[f8];by_cases F:op=8
 .rw[if_pos F]at P;rw[mQu F];obtain⟨t,u⟩:∃t,t=decide (z=0):=⟨_,rfl⟩;rw[<-u]at P o;have f:=f t;clear W Z;cbv;try rw[o]
  refine tJ t (λv d=>?_);have i:=f v P d;clear f P;generalize bD t=l at *;obtain⟨tk,G,ts⟩:=l;subst d;cbv;exact i
 rw[if_neg F]at P;rw[mQv F];have o:A .aI .neq z 0=decide (z≠0):=aC A ..;cbv;rw[f9];by_cases O:op=9
 .rw[if_pos O]at P;rw[mQu O];obtain⟨t,u⟩:∃t,t=decide (z≠0):=⟨_,rfl⟩;rw[<-u]at P o;have f:=f t;clear W Z;cbv;try rw[o]
  refine tJ t (λv d=>?_);have i:=f v P d;clear f P;generalize bD t=l at *;obtain⟨tk,G,ts⟩:=l;subst d;cbv;exact i
 rw[if_neg O]at P;rw[mQv O];have o:A .aI .lss z 0=decide (z<0):=bm A ..;cbv;rw[U];by_cases E:op=10
 .rw[if_pos E]at P;rw[mQu E];obtain⟨t,u⟩:∃t,t=decide (z<0):=⟨_,rfl⟩;rw[<-u]at P o;have f:=f t;clear W Z;cbv;try rw[o]
  refine tJ t (λv d=>?_);have i:=f v P d;clear f P;generalize bD t=l at *;obtain⟨tk,G,ts⟩:=l;subst d;cbv;exact i
 rw[if_neg E]at P;rw[mQv E];have o:A .aI .leq z 0=decide (z<=0):=vM A ..;cbv;rw[V];by_cases C:op=11
 .rw[if_pos C]at P;rw[mQu C];obtain⟨t,u⟩:∃t,t=decide (z<=0):=⟨_,rfl⟩;rw[<-u]at P o;have f:=f t;clear W Z;cbv;try rw[o]
  refine tJ t (λv d=>?_);have i:=f v P d;clear f P;generalize bD t=l at *;obtain⟨tk,G,ts⟩:=l;subst d;cbv;exact i
 rw[if_neg C]at P;rw[mQv C];have o:A .aI .gtr z 0=decide (z>0):=bO A ..;cbv;rw[Y];by_cases B:op=12
 .rw[if_pos B]at P;rw[mQu B];obtain⟨t,u⟩:∃t,t=decide (z>0):=⟨_,rfl⟩;rw[<-u]at P o;have f:=f t;clear W Z;cbv;try rw[o]
  refine tJ t (λv d=>?_);have i:=f v P d;clear f P;generalize bD t=l at *;obtain⟨tk,G,ts⟩:=l;subst d;cbv;exact i
 rw[if_neg B]at P;rw[mQv B];have o:A .aI .geq z 0=decide (z>=0):=cf A ..;cbv;rw[ab];by_cases y:op=13
 .rw[if_pos y]at P;rw[mQu y];obtain⟨t,u⟩:∃t,t=decide (z>=0):=⟨_,rfl⟩;rw[<-u]at P o;have f:=f t;clear W Z;cbv;try rw[o]
  refine tJ t (λv d=>?_);have i:=f v P d;clear f P;generalize bD t=l at *;obtain⟨tk,G,ts⟩:=l;subst d;cbv;exact i
 rw[if_neg y]at P;rw[mQv y];have W:=W P;have Z:=Z P;clear f P;cbv;refine bKz op n j ha hb (λv d=>?_) (λd=>?_)
 .have i:=W v d;obtain⟨vk,vn,vs⟩:=v;cbv;exact i
 have i:=Z d;cbv;exact i
abbrev Nd.vv(n:Nd):Value:=.agg #[.int .i64 n.op,.int .i64 n.a,.int .i64 n.b,.int .i64 n.v.k,.int .i64 n.v.n,.string n.v.s,.string n.name]
theorem BQ(op:Int):(ek op=0/\(op=1\/op=2))\/(ek op=1/\(op=3\/op=4\/op=5))\/(ek op=2/\6<=op/\op<=16)\/(ek op=-1/\op≠1/\op≠2):=by
 unfold ek;by_cases h:op=1\/op=2
 .left;rw[if_pos h];exact⟨rfl,h⟩
 rw[if_neg h];by_cases a:op=3\/op=4\/op=5
 .right;left;rw[if_pos a];exact⟨rfl,a⟩
 rw[if_neg a];by_cases b:6<=op/\op<=16
 .right;right;left;rw[if_pos b];exact⟨rfl,b⟩
 right;right;right;rw[if_neg b];exact⟨rfl,by omega,by omega⟩
theorem Mz{l:List Int}{a:Int}{i:Nat}(h:l[i]? =some x)(b:a=(i:Int)):VS l a=x:=by subst b;unfold VS;rw[mXH,h];rfl
theorem fQA{n:Nd}(X:Nm n.name){l:List Int}(hc:∀c∈cols,Nm c.name){Y:Option Addr}{Z:Nat}(t:Sl 3 dE h (.slice Y Z lc) l)
 {O:Option Addr} {Q:Nat} (F:Sl 155 bI h (.slice O Q cc) cols) {z:Int} (hz:aS z l.length) 
 (j:∀h' a e,Le h h'->(a,e)=Ag n l cols->k (.tuple #[.int .i64 a,.int .i64 e]) h'):
 Ct 271 [n.vv,.int .i64 z,.slice Y Z lc,.slice O Q cc] h k:=by
 obtain⟨A,hA⟩:=Ar.ex;have tG:=t.len;have S:=t.bound;have P:Ag n l cols=if ek n.op<0\/(ek n.op>0/\(n.a<0\/n.a>=l.length))\/(ek n.op>1/\(n.b<0\/n.b>=l.length))then(0,1)
  else if n.op=1 then(n.v.k,fv n.v)
  else if n.op=2 then
   match gS n.name cols with
   | (c,e)=>if e≠0 then(0,e)else(match cols[c.toNat]? with
    |some c=>(c.kind,0)
    |none=>(0,0))
  else if ek n.op=1 then ER n.op (VS l n.a) (VS l n.a)else ER n.op (VS l n.a) (VS l n.b):=rfl
 obtain⟨op,a,b,v,name⟩:=n;have gR:=BQ op;have X:Nm name:=X;generalize Ag ⟨op,a,b,v,name⟩ l cols=D at *;have P:D=if ek op<0\/(ek op>0/\(a<0\/a>=l.length))\/(ek op>1/\(b<0\/b>=l.length))then(0,1)
  else if op=1 then(v.k,fv v)
  else if op=2 then
   match gS name cols with
   | (c,e)=>if e≠0 then(0,e)else(match cols[c.toNat]? with
    |some c=>(c.kind,0)
    |none=>(0,0))
  else if ek op=1 then ER op (VS l a) (VS l a)else ER op (VS l a) (VS l b):=P
 have T:A .aI .eql op 1=decide (op=1):=aA A ..;have U:A .aI .eql op 2=decide (op=2):=aA A ..;have fa:A .aI .lss a 0=decide (a<0):=bm A ..;have fb:A .aI .lss b 0=decide (b<0):=bm A ..;obtain⟨N,W⟩:∃N:Int,N=l.length:=⟨_,rfl⟩;have uS:∀a:Int,¬a<0->¬a>=N->∃x,l[a.toNat]? =some x/\a=(a.toNat:Int)/\(Y.isSome=true/\0<=a/\a<(Z:Int)):=λa h0 h1=>by
  obtain⟨x,hx⟩:=mQA l a.toNat;exact⟨x,hx,by omega,t.aT,by omega,by omega⟩
 rw[<-W]at P;have ga:A .aI .geq a z=decide (a>=N):=by rw[cf A,hz.eq,W]
 have gb:A .aI .geq b z=decide (b>=N):=by rw[cf A,hz.eq,W]
 have V:(ek op<0\/(ek op>0/\(a<0\/a>=N))\/(ek op>1/\(b<0\/b>=N)))->k (.tuple #[.int .i64 0,.int .i64 1]) h:=λg=>j h 0 1 (Le.refl _) (by rw[P,if_pos g]);obtain⟨vk,vn,vs⟩:=v;clear S tG;refine mQF lZb A Tryz.func271 ?_;cbv;refine SE op (λp hp=>?_);rw[<-hp]at gR P V;rcases gR with⟨s,I⟩|⟨s,I⟩|⟨s,I⟩|⟨s,I⟩
 .subst s;rw[if_neg (by omega)]at P;cbv;rw[(show A .aI .lss 0 0=false from by rw[bm A];rfl)];cbv;rw[(show A .aI .gtr 0 0=false from by rw[bO A];rfl)];cbv;rw[(show A .aI .gtr 0 1=false from by rw[bO A];rfl)];cbv;rw[T];by_cases B:op=1
  .rw[if_pos B]at P;rw[mQu B];clear V;cbv;refine(QU ⟨vk,vn,vs⟩ h).mono (λv C hR=>?_);obtain⟨w,y,hv,q⟩:=hR;subst hv;have f:=j C vk y w (by rw[P,q]);clear j P q;cbv;exact f
  have d2:op=2:=by omega
  rw[if_neg B,if_pos d2]at P;rw[mQv B];cbv;rw[U,mQu d2];clear V;cbv;refine cKX X hc F (λC y e w q hb=>?_);rw[q]at P;have fe:A .aI .neq e 0=decide (e≠0):=aC A ..;have P:D=if e≠0 then(0,e)else(match cols[y.toNat]? with
   |some c=>(c.kind,0)
   |none=>(0,0)):=P
  clear q;by_cases E:e=0
  .have hb:=hb E;obtain⟨c,Ij⟩:=mQA cols y.toNat;rw[if_neg (λg=>g E),Ij]at P;have ab:=F.len;have cJ:O.isSome=true/\0<=y/\y<(Q:Int):=⟨F.aT,by omega,by omega⟩;have f:=j C c.kind 0 w P.symm;have J:y=(y.toNat:Int):=by omega
   clear j P;cbv;rw[fe,mQv (by omega:¬e≠0)];cbv;refine⟨cJ,?_⟩;cbv;refine(F.mono (w.t _)).cC Ij J (o:=1) (m:=1) (by decide) (λcs i=>?_);obtain⟨Bt,Ln,WT⟩:=c;have i:cs=[.string Bt,.int .i64 Ln,.bool WT]:=i;subst i;cbv;exact f
  rw[if_pos E]at P;have f:=j C 0 e w P.symm;clear j P;cbv;rw[fe,mQu E];cbv;exact f
 .subst s;cbv;rw[(show A .aI .lss 1 0=false from by rw[bm A];rfl)];cbv;rw[(show A .aI .gtr 1 0=true from by rw[bO A];rfl)];cbv;rw[fa];by_cases r:a<0
  .have f:=V (by omega);clear V j P;rw[mQu r];cbv;exact f
  rw[mQv r];cbv;rw[ga];by_cases a1:a>=N
  .have f:=V (by omega);clear V j P;rw[mQu a1];cbv;exact f
  rw[mQv a1];cbv;rw[(show A .aI .gtr 1 1=false from by rw[bO A];rfl)];have G:=uS a r a1;cbv;obtain⟨x,hx,u,M⟩:=G;rw[if_neg (by omega),if_neg (by omega),if_neg (by omega),if_pos rfl,Mz hx u]at P;clear V;rw[T,mQv (by omega:¬op=1)];cbv;rw[U,mQv (by omega:¬op=2)];cbv;rw[(show A .aI .eql 1 1=true from by rw[aA A];rfl)];cbv;refine⟨M,?_⟩;cbv;refine t.load hx u (λcs i=>?_);have i:cs=[.int .i64 x]:=i;subst i;cbv;refine⟨M,?_⟩;cbv;refine t.load hx u (λcs i=>?_);have i:cs=[.int .i64 x]:=i;subst i;cbv;refine cJI op x x (λd e hd=>?_);have f:=j h d e (Le.refl _) (hd.trans P.symm);clear j P hd;cbv;exact f
 .subst s;cbv;rw[(show A .aI .lss 2 0=false from by rw[bm A];rfl)];cbv;rw[(show A .aI .gtr 2 0=true from by rw[bO A];rfl)];cbv;rw[fa];by_cases r:a<0
  .have f:=V (by omega);clear V j P;rw[mQu r];cbv;exact f
  rw[mQv r];cbv;rw[ga];by_cases a1:a>=N
  .have f:=V (by omega);clear V j P;rw[mQu a1];cbv;exact f
  rw[mQv a1];cbv;rw[(show A .aI .gtr 2 1=true from by rw[bO A];rfl)];have G:=uS a r a1;cbv;obtain⟨x,hx,u,M⟩:=G;rw[fb];by_cases b0:b<0
  .have f:=V (by omega);clear V j P;rw[mQu b0];cbv;exact f
  rw[mQv b0];cbv;rw[gb];by_cases H:b>=N
  .have f:=V (by omega);clear V j P;rw[mQu H];cbv;exact f
  rw[mQv H];have L:=uS b b0 H;cbv;obtain⟨y,q,K,R⟩:=L;rw[if_neg (by omega),if_neg (by omega),if_neg (by omega),if_neg (by omega),Mz hx u,Mz q K]at P;clear V;rw[T,mQv (by omega:¬op=1)];cbv;rw[U,mQv (by omega:¬op=2)];cbv;rw[(show A .aI .eql 2 1=false from by rw[aA A];rfl)];cbv;refine⟨M,?_⟩;cbv;refine t.load hx u (λcs i=>?_);have i:cs=[.int .i64 x]:=i;subst i;cbv;refine⟨R,?_⟩;cbv;refine t.load q K (λcs i=>?_);have i:cs=[.int .i64 y]:=i;subst i;cbv;refine cJI op x y (λd e hd=>?_);have f:=j h d e (Le.refl _) (hd.trans P.symm);clear j P hd;cbv;exact f
 subst s;have f:=V (.inl (by omega));clear V j P;cbv;rw[(show A .aI .lss (-1) 0=true from by rw[bm A];rfl)];cbv;exact f
theorem aJi{j:Type}{s:Sh j}{l:Nat}{A:Ar}[bM A]{bytes:Nat}{z:List Value}(i:z.length=s.n)(m:l<=2^40)(f:bytes<=128)
 (g:∀n h',h n=none->Le h h'->fX e s h' n l []->k (.slice (some ⟨n,0,none⟩) 0 l) h'):
 Aw h e 0 (A .nat l) bytes z k:=by
 have I:(2:Nat)^40=1099511627776:=rfl;have b:(2:Int)^48=281474976710656:=rfl;rw[bM.nat (A:=A)];refine⟨by simp only[mQV];omega,⟨by rw[b];simp only[mQV];omega,?_⟩,λn h' c a=>?_⟩
 .rw[b];simp only[mQV];have:bytes*l<=128*l:=mXu _ f;have d:((bytes*l:Nat):Int)<=((128*l:Nat):Int):=nQe.2 this;simp only[mJN]at d;omega
 simp only[mQV,mXH]at a |-;refine g n h' c (by rw[a];exact Le.set c) ⟨⟨kx l z,by rw[a,ae],Hk,?_⟩,by simp,by simp⟩;rw[gG,i]
theorem gP(cols:List cK)(n:Nd)(r:List Nd)(l:List Int):eK cols (n::r) l=match Ag n l cols with
 | (k,e)=>if e≠0 then(l,e)else eK cols r (l++[k]):=rfl
theorem YD{l:List Int}{i:Nat}(h:l[i]? =some x)(a:l.length=i+1):Af l=x:=by unfold Af;rw[mJw,a];simp only[mXy];rw[h];rfl
theorem bZb{ex:List Nd}(hn:∀n∈ex,Nm n.name)(hc:∀c∈cols,Nm c.name){U:Option Addr}(qe:Sl 317 fx h (.slice U d ec) ex)
   (qc:Sl 155 bI h (.slice cb cn cc) cols) 
 (p:∀h' a e,Le h h'->(a,e)=jv ex cols->k (.tuple #[.int .i64 a,.int .i64 e]) h'):
 Ct 232 [.slice U d ec,.slice cb cn cc] h k:=by
 obtain⟨A,hA⟩:=Ar.ex;have Qh:=qe.len;have P:jv ex cols=if ex.length<1\/ex.length>60 then(0,1)else match eK cols ex []with
  | (l,f)=>if f≠0 then(0,f)else(Af l,0):=rfl
 rw[<-Qh]at P;have f1:A .aI .lss (A .nat d) 1=decide (d<1):=by rw[bm A,hA.nat,decide_eq_decide,mQV];omega
 have f2:A .aI .gtr (A .nat d) 60=decide (d>60):=by rw[bO A,hA.nat,decide_eq_decide,mQV];omega
 obtain⟨R,hR⟩:∃R,eK cols ex []=R:=⟨_,rfl⟩;rw[hR]at P;generalize jv ex cols=D at *;obtain⟨I,Y⟩:∃I:Nat->Int×(Option Addr×Nat×Nat)->ad->Prop,∀m g h',I m g h'=∃i l,aS g.1 i/\i<=d/\m=d-i/\Le h h'/\cF 3 dE h h' (.slice g.2.1 g.2.2.1 g.2.2.2) l/\l.length=i/\eK cols (ex.drop i) l=R:=⟨_,λ_ _ _=>rfl⟩;refine mQF gQA A Tryz.func232 ?_;cbv;rw[f1];by_cases N:d<1
 .have q:=p h 0 1 (Le.refl _) (by rw[P,if_pos (.inl N)]);clear p P;rw[mQu N];cbv;exact q
 rw[mQv N];cbv;rw[f2];by_cases O:d>60
 .have q:=p h 0 1 (Le.refl _) (by rw[P,if_pos (.inr O)]);clear p P;rw[mQu O];cbv;exact q
 rw[mQv O];rw[if_neg (by omega)]at P;cbv;refine aJi (s:=dE) rfl (by omega) (by decide) (λnb h0 gY W ho=>?_);have V:I d (0,some ⟨nb,0,none⟩,0,d) h0:=by rw[Y];exact⟨0,[],⟨rfl⟩,mQC _,rfl,W,ho.buf gY rfl,rfl,hR⟩
 clear ho hR;cbv;refine aX.go (G:=Int×(Option Addr×Nat×Nat)) (λg=>[(24,.v (.int .i64 g.1)),(6,.v (.slice g.2.1 g.2.2.1 g.2.2.2))]) (λ_=>[]) (λm g h'=>I m g h') d (0,some ⟨nb,0,none⟩,0,d) (by constructor<;>cbv) V ?_
 intro m g J hI;rw[Y]at hI;cbv;obtain⟨i,l,B,hi,hm,F,v,Z,j⟩:=hI;obtain⟨z,ab,r,ac⟩:=g;have B:aS z i:=B;have v:cF 3 dE h J (.slice ab r ac) l:=v;have RM:=v.sl.len;have f3:A .aI .lss z (A .nat d)=decide (i<d):=B.iJ (aS.nat d);rw[f3];by_cases H:i<d
 .obtain⟨n,qC⟩:=mQA ex i;have hd:ex.drop i=n::ex.drop (i+1):=by obtain⟨J,K⟩:=mQB.1 qC;rw[mQJ J,K]
  rw[hd,gP]at j;have Q:U.isSome=true/\0<=z/\z<(d:Int):=⟨qe.aT,B.ix H⟩;have S:=B.eq;have cZ:=B.succ (A:=A);have kX:d-(i+1)<m:=by omega
  have E:∀a u C w o,eK cols (ex.drop (i+1)) (l++[a])=R->cF 3 dE h o (.slice u C w) (l++[a])->Le h o->I (d-(i+1)) (A .bB .add .i64 z 1,u,C,w) o:=λa u C w o e3 M L=>by
   rw[Y];exact⟨i+1,_,cZ,H,rfl,L,M,by rw[mQy,mQG,Z],e3⟩
  have An:aS z l.length:=by rw[Z];exact B
  have wD:=hn n (mQz qC);have sM:r+1<=2^39:=by omega
  clear Y V hd cZ;rw[mQu H];cbv;refine⟨Q,?_⟩;cbv;refine(qe.mono (F.t _)).load qC S (λcs t=>?_);obtain⟨op,a,b,⟨vk,vn,vs⟩,name⟩:=n;have t:cs=[.int .i64 op,.int .i64 a,.int .i64 b,.int .i64 vk,.int .i64 vn,.string vs,.string name]:=t;subst t;cbv;refine fQA (n:=⟨op,a,b,⟨vk,vn,vs⟩,name⟩) wD hc v.sl (qc.mono (F.t _)) An (λK y e X hy=>?_);have fe:A .aI .neq e 0=decide (e≠0):=aC A ..;rw[<-hy]at j;have j:(if e≠0 then(l,e)else eK cols (ex.drop (i+1)) (l++[y]))=R:=j;clear hy;by_cases h0:e=0
  .rw[if_neg (λg=>g h0)]at j;have E:=λu C w o=>E y u C w o j;clear p P j;cbv;rw[fe,mQv (λg=>g h0)];cbv;intro n2 o g2 e2;have L:Le K o:=by rw[e2];exact Le.set g2
   have v2:Sl 3 dE o (.slice (some ⟨n2,0,none⟩) 1 1) [y]:=bA (s:=dE) ((congrFun e2 n2).trans ae) rfl;cbv;refine(v.mono ((X.trans L).t _)).append v2 (by decide) rfl (by decide) sM (F.trans (X.trans L)) (λC u w h4 ag l4 t3 k3 M=>?_);have jd:=E u C w h4 M l4;clear E t3 k3 M;cbv;refine⟨d-(i+1),(_,_,_,_),kX,by constructor<;>cbv,jd⟩
  rw[if_pos h0]at j;rw[<-j]at P;have P:D=if e≠0 then(0,e)else(Af l,0):=P
  rw[if_pos h0]at P;have q:=p K 0 e (F.trans X) P.symm;clear p P j E;cbv;rw[fe,mQu h0];cbv;exact q
 have lW:i=d:=by omega
 rw[mQT (by omega)]at j;have j:(l,0)=R:=j;rw[<-j]at P;have P:D=(Af l,0):=P;obtain⟨x,hx⟩:=mQA l (i-1);rw[YD hx (by omega)]at P;have q:=p J x 0 F P.symm;have T:=(aS.nat (A:=A) r).sub (A:=A) (⟨rfl⟩:aS 1 1) (by omega) (by omega);have S:=T.eq;have Q:ab.isSome=true/\0<=A .bB .sub .i64 (A .nat r) 1/\A .bB .sub .i64 (A .nat r) 1<(r:Int):=⟨v.sl.aT,T.ix (by omega)⟩;have hx:l[r-1]? =some x:=by rw[RM,Z];exact hx
 clear Y V p P j T;rw[mQv H];cbv;refine⟨Q,?_⟩;cbv;refine v.sl.load hx S (λcs t=>?_);have t:cs=[.int .i64 x]:=t;subst t;cbv;exact q
theorem lD{a:Int}{x:cO}{i:Nat}(h:l[i]? =some x)(b:a=(i:Int)):fT l a=x:=by subst b;unfold fT;rw[mXH,h];rfl
theorem eKP{n:Nd}(hn:Nm n.name)(hc:∀c∈cols,Nm c.name){lb:Option Addr}{ln:Nat}(E:Sl 86 bq h (.slice lb ln lc) l)
   (qc:Sl 155 bI h (.slice cb cn cc) cols)  {F:Nat} (qr:Sl 86 bq h (.slice rb F rc) r)
 (Q:ek n.op>=0) (I:ek n.op>0->0<=n.a/\n.a<l.length) (N:ek n.op>1->0<=n.b/\n.b<l.length) (s:n.op=2->(gS n.name cols).2=0)
 (hl:∀v∈l,rr v.n=true)  
 (i:∀h' w v,Le h h'->xM n l cols r=some w->v=w.v->R v h') (C:∀h',Le h h'->xM n l cols r=none->K Yn h'):
 dQB 234 [n.vv,.slice lb ln lc,.slice cb cn cc,.slice rb F rc] h R K:=by
 obtain⟨A,hA⟩:=Ar.ex;have tG:=E.len;have KH:=qr.len;have P:xM n l cols r=if n.op=1 then some n.v
  else if n.op=2 then(match gS n.name cols with
   | (c,_)=>some (fT r c))
  else if ek n.op=1 then qK n.op (fT l n.a) (fT l n.a)else qK n.op (fT l n.a) (fT l n.b):=rfl
 obtain⟨op,a,b,v,name⟩:=n;have gR:=BQ op;replace hn:Nm name:=hn;replace Q:ek op>=0:=Q;replace I:ek op>0->0<=a/\a<l.length:=I;replace N:ek op>1->0<=b/\b<l.length:=N;replace s:op=2->(gS name cols).2=0:=s;generalize xM ⟨op,a,b,v,name⟩ l cols r=D at *;replace P:D=if op=1 then some v
  else if op=2 then(match gS name cols with
   | (c,_)=>some (fT r c))
  else if ek op=1 then qK op (fT l a) (fT l a)else qK op (fT l a) (fT l b):=P
 have T:A .aI .eql op 1=decide (op=1):=aA A ..;have f2:A .aI .eql op 2=decide (op=2):=aA A ..;have S:∀a:Int,0<=a/\a<l.length->∃x,l[a.toNat]? =some x/\a=(a.toNat:Int)/\rr x.n=true/\(lb.isSome=true/\0<=a/\a<(ln:Int)):=λa h0=>by
  obtain⟨x,hx⟩:=mQA l a.toNat;exact⟨x,hx,by omega,hl x (mQz hx),E.aT,by omega,by omega⟩
 obtain⟨vk,vn,vs⟩:=v;refine mQ A (tK gQy.aK gQy.bF Mf [] (λc _ h=>K c h)) Tryz.func234 rfl (by kernel_rfl) (λ_ _ _ q=>q) ?_;rcases gR with⟨B,X⟩|⟨B,X⟩|⟨B,X⟩|⟨B,X⟩
 .by_cases O:op=1
  .rw[if_pos O]at P;have f:=i h ⟨vk,vn,vs⟩ _ (Le.refl _) P rfl;clear i C P S;cbv;rw[T,mQu O];cbv;exact f
  have Y:op=2:=by omega
  rw[if_neg O,if_pos Y]at P;have s:=s Y;clear C S I N;cbv;rw[T,mQv O];cbv;rw[f2,mQu Y];cbv;refine cKX hn hc qc (λj y e g W hb=>?_);rw[W]at P s;have P:D=some (fT r y):=P;have s:e=0:=s;have hb:=hb s;have U:A .aI .geq y (A .nat F)=decide (y>=(F:Int)):=by rw[cf A,hA.nat];rfl
  by_cases tD:y>=(F:Int)
  .have e0:fT r y=v0:=by unfold fT;rw[mXX (by omega)];rfl
   rw[e0]at P;have f:=i j v0 _ g P rfl;clear i P;rw[mQu tD]at U;cbv;rw[U];cbv;exact f
  obtain⟨x,hx⟩:=mQA r y.toNat;have J:y=(y.toNat:Int):=by omega
  rw[lD hx J]at P;have cJ:rb.isSome=true/\0<=y/\y<(F:Int):=⟨qr.aT,by omega,by omega⟩;have f:=i j x _ g P rfl;clear i P;rw[mQv tD]at U;cbv;rw[U];cbv;refine⟨cJ,?_⟩;cbv;refine(qr.mono (g.t _)).load hx J (λcs d=>?_);obtain⟨m,o,xs⟩:=x;have d:cs=[.int .i64 m,.int .i64 o,.string xs]:=d;subst d;cbv;exact f
 .skip;rw[if_neg (by omega),if_neg (by omega),if_pos B]at P;obtain⟨x,hx,G,V,M⟩:=S a (I (by omega));rw[lD hx G]at P;have u:∀h' w v,Le h h'->qK op x x=some w->v=w.v->R v h':=λh' w v l e k=>i h' w v l (P.trans e) k;have z:∀h',Le h h'->qK op x x=none->K Yn h':=λh' l e=>C h' l (P.trans e);clear i C P S;cbv;rw[T,mQv (by omega:¬op=1)];cbv;rw[f2,mQv (by omega:¬op=2)];cbv;refine SE op (λp L=>?_);rw[B]at L;subst L;cbv;rw[(show A .aI .eql 1 1=true from by rw[aA A];rfl)];cbv;refine⟨M,?_⟩;cbv;refine E.load hx G (λcs d=>?_);obtain⟨m,o,xs⟩:=x;have d:cs=[.int .i64 m,.int .i64 o,.string xs]:=d;subst d;cbv;refine⟨M,?_⟩;cbv;refine E.load hx G (λcs d=>?_);have d:cs=[.int .i64 m,.int .i64 o,.string xs]:=d;subst d;cbv;refine cJy op ⟨m,o,xs⟩ ⟨m,o,xs⟩ V V (λj w v g t k=>?_) (λj g t=>?_)
  .have f:=u j w v g t k;obtain⟨wk,wn,ws⟩:=w;subst k;clear u z;cbv;exact f
  have f:=z j g t;clear u z;cbv;exact f
 .skip;rw[if_neg (by omega),if_neg (by omega),if_neg (by omega)]at P;obtain⟨x,hx,G,V,M⟩:=S a (I (by omega));rw[lD hx G]at P;obtain⟨y,W,H,ab,Z⟩:=S b (N (by omega));rw[lD W H]at P;have u:∀h' w v,Le h h'->qK op x y=some w->v=w.v->R v h':=λh' w v l e k=>i h' w v l (P.trans e) k;have z:∀h',Le h h'->qK op x y=none->K Yn h':=λh' l e=>C h' l (P.trans e);clear i C P S;cbv;rw[T,mQv (by omega:¬op=1)];cbv;rw[f2,mQv (by omega:¬op=2)];cbv;refine SE op (λp L=>?_);rw[B]at L;subst L;cbv;rw[(show A .aI .eql 2 1=false from by rw[aA A];rfl)];cbv;refine⟨M,?_⟩;cbv;refine E.load hx G (λcs d=>?_);obtain⟨m,o,xs⟩:=x;have d:cs=[.int .i64 m,.int .i64 o,.string xs]:=d;subst d;cbv;refine⟨Z,?_⟩;cbv;refine E.load W H (λcs d=>?_);obtain⟨yk,yn,ys⟩:=y;have d:cs=[.int .i64 yk,.int .i64 yn,.string ys]:=d;subst d;cbv;refine cJy op ⟨m,o,xs⟩ ⟨yk,yn,ys⟩ V ab (λj w v g t k=>?_) (λj g t=>?_)
  .have f:=u j w v g t k;obtain⟨wk,wn,ws⟩:=w;subst k;clear u z;cbv;exact f
  have f:=z j g t;clear u z;cbv;exact f
 omega
section
variable {F:Fence}{n:Nat}{P:Program}{ops:Array Oper}{Q:Exit->Act->List Frame->World->Prop}{a:Act}{cs jJm:List Frame}{w:World}{i:Nat}{rest:List Nat}{o:Oper}
theorem aZH(b:ops[i]? =some o)(G:∀f,o.about P w a.eval=some f->F.fn f)(d:Region.wanted o (yielded ops a.tmps)=true)(r:(execOp a.eval o).run P w=.ok .recover w)(c:recoverD cs=none)
 (h:wpOpsSIn F n P ops Q rest (a.put o.dst .nilIface) cs w):wpOpsSIn F n P ops Q (i::rest) a cs w:=by
 simp only[wpOpsSIn,b,d,r,c,if_true];exact⟨G,h⟩
theorem aZG{v:Value}(b:ops[i]? =some o)(G:∀f,o.about P w a.eval=some f->F.fn f)(d:Region.wanted o (yielded ops a.tmps)=true)(r:(execOp a.eval o).run P w=.ok .recover w)(c:recoverD cs=some (v,jJm))
 (h:wpOpsSIn F n P ops Q rest (a.put o.dst v) jJm w):wpOpsSIn F n P ops Q (i::rest) a cs w:=by
 simp only[wpOpsSIn,b,d,r,c,if_true];exact⟨G,h⟩
theorem mh{v:Value}(b:ops[i]? =some o)(G:∀f,o.about P w a.eval=some f->F.fn f)(c:Region.wanted o (yielded ops a.tmps)=true)(r:(execOp a.eval o).run P w=.ok (.value v) w)
 (h:wpOpsSIn F n P ops Q rest (a.put o.dst v) cs w):wpOpsSIn F n P ops Q (i::rest) a cs w:=by
 simp only[wpOpsSIn,b,c,r,if_true];exact⟨G,h⟩
end
theorem Vq(A:Ar)[bM A]{P:Program}{T:bu}(g:gE P T){fn:Func}{rest:Code}(q:gu T rest=true){β:Nat->Nat}{env:Env}{a:Act}{w:World}{n:Nat}{c₀:Frame}{u':FrameMode}{cs:List Frame}
 (t:eO [] h w β env [] h a w) (C:∀c s h,¬T.kp c s h)
 (hx:sx A T (λ_=>P) rest (λe env L h'=>match e with
  | .exit _=>False
  |_=>uE T env L h' fn.results.toList (λl=>pJ l (λv=>R v h'))) env [] h):
 rest.wpSIn Fence.wide n P (bodyPostS P fn c₀ cs λe u w'=>u=u'/\∃v h',e=.returned v/\R v h'/\bW h w h' w') a ({ c₀ with mode:=u' }::cs) w:=by
 refine wpSIn_of_wpIn rfl ?_;refine lj (A:=A) (ro:=none) g rest q t hx (qN.none C) λe k j h' x d w' b f=>?_;have fin:uE T k j h' fn.results.toList (λl=>pJ l (λv=>R v h'))->d.defers=[]/\∃u,{ c₀ with mode:=u' }::cs={ c₀ with mode:=u }::cs/\∃v,(results fn d.tmps).run P w'=.ok v w'/\(u=u'/\∃i b,Ending.returned v=.returned i/\R i b/\bW h w b w'):=λr=>by
  obtain⟨v,m,o,p⟩:=yJ g f r;exact⟨f.defers,u',rfl,v,m,rfl,v,h',rfl,o,p⟩
 cases e with
 |normal=>exact fin b
 |ret=>exact fin b
 |exit id=>exact b.elim
theorem bJo(a e:Value)(h:ad):gZt 233 [a,e] h (λ_ h'=>h'=h):=by
 refine⟨λw b n=>?_⟩;refine callsDIn_of_wpSIn (show Tryz.prog.funcs[233]? =some Tryz.f233 from Tryz.func233) rfl trivial λc₀ cs m=>?_;refine wpSIn_seq ?_;refine wpSIn_region ?_;have C:recoverD (c₀::cs)=none:=by simp only[recoverD,m]
 show wpOpsSIn _ _ _ _ _ [0,1,2,3,4,5,6] _ _ _;refine aZH rfl (λ_ _=>trivial) rfl rfl C ?_;refine mh (v:=.tuple #[.int .i64 0,.bool false]) rfl (λ_ _=>trivial) rfl (by kernel_rfl) ?_;refine mh (v:=.tuple #[.int .i64 0,.bool false]) rfl (λ_ _=>trivial) rfl (by kernel_rfl) ?_;refine mh (v:=.int .i64 0) rfl (λ_ _=>trivial) rfl (by kernel_rfl) ?_;refine mh (v:=.bool false) rfl (λ_ _=>trivial) rfl (by kernel_rfl) ?_;refine mh (v:=.int .i64 0) rfl (λ_ _=>trivial) rfl (by kernel_rfl) ?_;refine mh (v:=.bool false) rfl (λ_ _=>trivial) rfl (by kernel_rfl) ?_;obtain⟨A,l⟩:=Ar.ex;have s:=mC (f:=233) (fn:=Tryz.f233) (args:=[a,e]) b;have s1:=s.put (d:=some 5) (x:=.v .nilIface) (v:=.nilIface) rfl;have s2:=s1.put (d:=some 6) (x:=.v (.tuple #[.int .i64 0,.bool false])) (v:=.tuple #[.int .i64 0,.bool false]) rfl;have c:=s2.put (d:=some 4) (x:=.v (.tuple #[.int .i64 0,.bool false])) (v:=.tuple #[.int .i64 0,.bool false]) rfl;have g:=c.put (d:=some 7) (x:=.v (.int .i64 0)) (v:=.int .i64 0) rfl;have i:=g.put (d:=some 8) (x:=.v (.bool false)) (v:=.bool false) rfl;have j:=i.put (d:=some 2) (x:=.v (.int .i64 0)) (v:=.int .i64 0) rfl;have k:=j.put (d:=some 3) (x:=.v (.bool false)) (v:=.bool false) rfl;have N:c₀={ c₀ with mode:=.returning }:=by rw[<-m]
 have key:=Vq (n:=n) (c₀:=c₀) (cs:=cs) (u':=.returning) (fn:=Tryz.f233) (R:=λ_ h'=>h'=h) A (ax gQz.aK gQz.bF) (rest:=?_) ?_ k (λ_ _ _ q=>q) ?_
 .rw[<-N]at key;exact key
 .kernel_rfl
 cbv
theorem bJn{b:Nat}{k l m c:Value}(g:h b=some (.cells #[k,l,m] 86 (0,0)))(i:h e=some (.cells #[c] 35 (0,0)))(o:b≠e){R:ad->Prop}
 (hR:R (bU (bU h b (.cells #[.int .i64 0,.int .i64 0,.string ⟨#[]⟩] 86 (0,0))) e (.cells #[.int .i64 11] 35 (0,0)))):
 gZs (λ_=>Tryz.prog) 233 [.pointer (some ⟨b,0,none⟩),.pointer (some ⟨e,0,none⟩)] (.iface 35 (.int .i64 11)) h R:=by
 refine⟨λw s n=>?_⟩;refine callsDIn_of_wpSIn (show Tryz.prog.funcs[233]? =some Tryz.f233 from Tryz.func233) rfl trivial λc₀ cs r=>?_;refine wpSIn_seq ?_;refine wpSIn_region ?_;have C:recoverD (c₀::cs)=some (.iface 35 (.int .i64 11),{ c₀ with mode:=.panicking [{ v:=.iface 35 (.int .i64 11),recovered:=true }] }::cs):=by simp only[recoverD,r]
 show wpOpsSIn _ _ _ _ _ [0,1,2,3,4,5,6] _ _ _;refine aZG rfl (λ_ _=>trivial) rfl rfl C ?_;refine mh (v:=.tuple #[.int .i64 11,.bool true]) rfl (λ_ _=>trivial) rfl (by kernel_rfl) ?_;refine mh (v:=.tuple #[.int .i64 11,.bool true]) rfl (λ_ _=>trivial) rfl (by kernel_rfl) ?_;refine mh (v:=.int .i64 11) rfl (λ_ _=>trivial) rfl (by kernel_rfl) ?_;refine mh (v:=.bool true) rfl (λ_ _=>trivial) rfl (by kernel_rfl) ?_;refine mh (v:=.int .i64 11) rfl (λ_ _=>trivial) rfl (by kernel_rfl) ?_;refine mh (v:=.bool true) rfl (λ_ _=>trivial) rfl (by kernel_rfl) ?_;obtain⟨A,G⟩:=Ar.ex;have t:=mC (f:=233) (fn:=Tryz.f233) (args:=[.pointer (some ⟨b,0,none⟩),.pointer (some ⟨e,0,none⟩)]) s;have s1:=t.put (d:=some 5) (x:=.v (.iface 35 (.int .i64 11))) (v:=.iface 35 (.int .i64 11)) rfl;have s2:=s1.put (d:=some 6) (x:=.v (.tuple #[.int .i64 11,.bool true])) (v:=.tuple #[.int .i64 11,.bool true]) rfl;have y:=s2.put (d:=some 4) (x:=.v (.tuple #[.int .i64 11,.bool true])) (v:=.tuple #[.int .i64 11,.bool true]) rfl;have z:=y.put (d:=some 7) (x:=.v (.int .i64 11)) (v:=.int .i64 11) rfl;have B:=z.put (d:=some 8) (x:=.v (.bool true)) (v:=.bool true) rfl;have D:=B.put (d:=some 2) (x:=.v (.int .i64 11)) (v:=.int .i64 11) rfl;have E:=D.put (d:=some 3) (x:=.v (.bool true)) (v:=.bool true) rfl;have key:=Vq (n:=n) (c₀:=c₀) (cs:=cs) (u':=.panicking [{ v:=.iface 35 (.int .i64 11),recovered:=true }]) (fn:=Tryz.f233) (R:=λ_ h'=>R h') A (ax gQz.aK gQz.bF) (rest:=?_) ?_ E (λ_ _ _ q=>q) ?_
 .exact key
 .kernel_rfl
 cbv;refine ja g (by simp) (λj a=>?_);have u:j e=some (.cells #[c] 35 (0,0)):=by rw[a,aO (Ne.symm o)];exact i
 have hR:R (bU j e (.cells #[.int .i64 11] 35 (0,0))):=by rw[a];exact hR
 clear g i a;cbv;refine ja u (by simp) (λF p=>?_);subst p;cbv;exact hR
def eXC(cols:List cK)(n:Nd)(i:Nat):Prop:=ek n.op>=0/\(ek n.op>0->0<=n.a/\n.a<i)/\(ek n.op>1->0<=n.b/\n.b<i)/\(n.op=2->(gS n.name cols).2=0)
theorem aJC{n:Nd}{l:List Int}{k:Int}(h:Ag n l cols=(k,0)):eXC cols n l.length:=by
 unfold Ag at h;by_cases c:ek n.op<0\/(ek n.op>0/\(n.a<0\/n.a>=l.length))\/(ek n.op>1/\(n.b<0\/n.b>=l.length))
 .rw[if_pos c]at h;cases h
 rw[if_neg c]at h;refine⟨by omega,λg=>by omega,λg=>by omega,λg=>?_⟩;rw[if_neg (by omega),if_pos g]at h;generalize gS n.name cols=r at *;obtain⟨c,e⟩:=r;have h:(if e≠0 then(0,e)else(match cols[c.toNat]? with
  |some c=>(c.kind,0)
  |none=>(0,0)))=(k,0):=h
 by_cases a:e=0
 .exact a
 rw[if_pos a]at h;cases h;exact rfl
theorem Kx:∀ {ex:List Nd} {l m:List Int},eK cols ex l=(m,0)->∀i n,ex[i]? =some n->eXC cols n (l.length+i)
 | [],_,_,_,i,n,a=>by simp at a
 |x::r,l,m,h,i,n,a=>by
  rw[gP]at h;cases c:Ag x l cols with
  |mk k e=>
   rw[c]at h;have h:(if e≠0 then(l,e)else eK cols r (l++[k]))=(m,0):=h;by_cases b:e=0
   .subst b;rw[if_neg (λg=>g rfl)]at h;cases i with
    |zero=>simp at a;subst a;exact aJC c
    |succ i=>have:=Kx h i n (by simpa using a);rw[mQy,mQG]at this;rw[show l.length+(i+1)=l.length+1+i by omega];exact this
   rw[if_pos b]at h;cases h;exact absurd rfl b
theorem bZa{ex:List Nd}{k:Int}(h:jv ex cols=(k,0)):ex.length>=1/\ex.length<=60/\∀i n,ex[i]? =some n->eXC cols n i:=by
 unfold jv at h;by_cases c:ex.length<1\/ex.length>60
 .rw[if_pos c]at h;cases h
 rw[if_neg c]at h;refine⟨by omega,by omega,?_⟩;cases b:eK cols ex []with
 |mk l f=>
  rw[b]at h;have h:(if f≠0 then((0:Int),f)else(Af l,0))=(k,0):=h;by_cases a:f=0
  .subst a;intro i n d;have:=Kx b i n d;simpa using this
  rw[if_pos a]at h;cases h;exact absurd rfl a
theorem xL(cols:List cK)(r:Row)(n:Nd)(e:List Nd)(l:List cO):gM cols r (n::e) l=match xM n l cols r with
 |some v=>gM cols r e (l++[v])
 |none=>none:=rfl
theorem YC{i:Nat}{x:cO}(h:l[i]? =some x)(a:l.length=i+1):xV l=x:=by unfold xV;rw[mJw,a];simp only[mXy];rw[h];rfl
def kM(v:cO):Prop:=rr v.n=true
theorem JT(b:Bool):kM (bD b):=by cases b<;>(show rr _=true;decide)
theorem kA:kM v0:=by show rr _=true;decide
theorem bKA{w:cO}(h:xK x=some w):kM w:=by
 unfold xK at h;split at h
 .rename_i g;cases h;exact g
 cases h
theorem aZB{op:Int}{a b w:cO}(c:kM a)(d:kM b)(h:qK op a b=some w):kM w:=by
 unfold qK at h;repeat' (split at h)
 all_goals first
  | (cases h;exact JT _)
  | (cases h;exact kA)
  | (
   cases h
   unfold oT;repeat' split
   all_goals first
    |exact c
    |exact d
    |exact JT _
    |exact kA)
  | (
   unfold eD at h
   repeat' (split at h)
   all_goals exact bKA h)
theorem RZ(b:∀v∈l,kM v)(a:Int):kM (fT l a):=by
 unfold fT;cases h:l[a.toNat]? with
 |none=>exact kA
 |some x=>exact b x (mQz h)
theorem OZ{n:Nd}{w:cO}(b:kM n.v)(a:∀v∈l,kM v)(c:∀v∈r,kM v)(h:xM n l cols r=some w):kM w:=by
 unfold xM at h;split at h
 .cases h;exact b
 split at h
 .cases h;exact RZ c _
 split at h<;>exact aZB (RZ a _) (RZ a _) h
theorem Gx{ex:List Nd}(hn:∀n∈ex,Nm n.name/\kM n.v)(hc:∀c∈cols,Nm c.name)(hr:∀v∈r,kM v){eb:Option Addr}(qe:Sl 317 fx h (.slice eb d ec) ex)
   (qc:Sl 155 bI h (.slice cb cn cc) cols)  {rn:Nat} (qr:Sl 86 bq h (.slice rb rn rc) r) 
 (u:∀h' v e w,Le h h'->(v,e)=eP ex cols r->w=v.v->k (.tuple #[w,.int .i64 e]) h'):
 Ct 149 [.slice eb d ec,.slice cb cn cc,.slice rb rn rc] h k:=by
 obtain⟨A,hA⟩:=Ar.ex;have Qh:=qe.len;have P:eP ex cols r=match jv ex cols with
  | (_,f)=>if f≠0 then(v0,f)else match gM cols r ex []with
   |some l=>(xV l,0)
   |none=>(v0,11):=rfl
 generalize eP ex cols r=D at *;refine Zj A (tK gXI.aK gXI.bF Mf [] (λ_ _ _=>False)) Tryz.func149 rfl (λ_ _=>by kernel_rfl) (by kernel_rfl) ?_;cbv;intro F h1 gv e1;have g1:h1 F=some (.cells #[.int .i64 0,.int .i64 0,.string ⟨#[]⟩] 86 (0,0)):=by rw[e1];exact ae
 have l1:Le h h1:=by rw[e1];exact Le.set gv
 cbv;intro U h2 ge e2;have Y:F≠U:=λe=>by rw[<-e,g1]at ge;cases ge
 have l2:Le h1 h2:=by rw[e2];exact Le.set ge
 have g2:h2 F=some (.cells #[.int .i64 0,.int .i64 0,.string ⟨#[]⟩] 86 (0,0)):=l2 _ _ g1;have g3:h2 U=some (.cells #[.int .i64 0] 35 (0,0)):=by rw[e2];exact ae
 have jZ:=l1.trans l2;have ag:h U=none:=by
  cases hh:h U with
  |none=>rfl
  |some o=>rw[l1 _ _ hh]at ge;cases ge
 have H:∀h' (v:cO) (e:Int),Le h2 h'->(v,e)=D->∀j,j=bU (bU h' F (.cells #[.int .i64 v.k,.int .i64 v.n,.string v.s] 86 (0,0))) U (.cells #[.int .i64 e] 35 (0,0))->
  Le h j:=λh' v e l _ j y b o hb=>by
  rw[y,aO (λe=>by rw[e,ag]at hb;cases hb),aO (λe=>by rw[e,gv]at hb;cases hb)];exact l _ _ (jZ _ _ hb)
 clear e1 e2 l1 l2 g1 ge;cbv;refine bZb (λn hh=>(hn n hh).1) hc (qe.mono (jZ.t _)) (qc.mono (jZ.t _)) (λC kd e l3 kC=>?_);have fe:A .aI .neq e 0=decide (e≠0):=aC A ..;rw[<-kC]at P;replace P:D=if e≠0 then(v0,e)else match gM cols r ex []with
  |some l=>(xV l,0)
  |none=>(v0,11):=P
 by_cases h0:e≠0
 .rw[if_pos h0]at P;have E:=l3 _ _ g2;have J:=l3 _ _ g3;have L:=H C v0 e l3 P.symm;have u:=λh' l=>u h' v0 e _ l P.symm rfl;clear P kC H g2 g3;cbv;rw[fe,mQu h0];cbv;refine ja E (by simp) (λh4 e4=>?_);have g4:h4 U=some (.cells #[.int .i64 0] 35 (0,0)):=by rw[e4,aO (Ne.symm Y)];exact J
  cbv;refine ja g4 (by simp) (λj y=>?_);have af:=u j (L j (by rw[y,e4];rfl));have g5:j F=some (.cells #[.int .i64 0,.int .i64 0,.string ⟨#[]⟩] 86 (0,0)):=by rw[y,aO Y,e4];exact ae
  have W:j U=some (.cells #[.int .i64 e] 35 (0,0)):=by rw[y];exact ae
  clear u L e4 y g4 E J;cbv;refine mQw g5 ?_;cbv;refine mQw W ?_;cbv;exact af
 rw[if_neg h0]at P;have e0:e=0:=mXc.1 h0;subst e0;obtain⟨MI,KC,KL⟩:=bZa kC.symm;clear kC;obtain⟨R,hR⟩:∃R,gM cols r ex []=R:=⟨_,rfl⟩;rw[hR]at P;obtain⟨I,aY⟩:∃I:Nat->Int×(Option Addr×Nat×Nat)->ad->Prop,∀m g h',I m g h'=∃i l,aS g.1 i/\i<=d/\m=d-i/\Le C h'/\cF 86 bq C h' (.slice g.2.1 g.2.2.1 g.2.2.2) l/\l.length=i/\(∀v∈l,kM v)/\gM cols r (ex.drop i) l=R:=⟨_,λ_ _ _=>rfl⟩;have hJ:I d (0,none,0,0) C:=by rw[aY];exact⟨0,[],⟨rfl⟩,mQC _,rfl,Le.refl _,cF.nil,rfl,(λ_ hh=>by cases hh),hR⟩
 clear hR;cbv;rw[fe,mQv h0];cbv;refine aX.go (G:=Int×(Option Addr×Nat×Nat)) (λg=>[(26,.v (.int .i64 g.1)),(10,.v (.slice g.2.1 g.2.2.1 g.2.2.2))]) (λ_=>[]) (λm g h'=>I m g h') d (0,none,0,0) (by constructor<;>cbv) hJ ?_
 intro m g h4 hI;rw[aY]at hI;cbv;obtain⟨i,l,hg,hi,hm,l4,T,S,tW,q⟩:=hI;obtain⟨z,ab,N,ac⟩:=g;have hg:aS z i:=hg;have T:cF 86 bq C h4 (.slice ab N ac) l:=T;have RM:=T.sl.len;have f3:A .aI .lss z (A .nat d)=decide (i<d):=hg.iJ (aS.nat d);have rY:=jZ.trans (l3.trans l4);have rK:=l3.trans l4;rw[f3];by_cases aP:i<d
 .obtain⟨n,qC⟩:=mQA ex i;have hd:ex.drop i=n::ex.drop (i+1):=by obtain⟨h1,h2⟩:=mQB.1 qC;rw[mQJ h1,h2]
  rw[hd,xL]at q;have cJ:eb.isSome=true/\0<=z/\z<(d:Int):=⟨qe.aT,hg.ix aP⟩;have cN:=hg.eq;have cZ:=hg.succ (A:=A);have kX:d-(i+1)<m:=by omega
  have cD:∀a Q X V K,kM a->gM cols r (ex.drop (i+1)) (l++[a])=R->cF 86 bq C K (.slice Q X V) (l++[a])->Le C K->I (d-(i+1)) (A .bB .add .i64 z 1,Q,X,V) K:=λa Q X V K ia e3 ry aj=>by
   rw[aY];exact⟨i+1,_,cZ,aP,rfl,aj,ry,by rw[mQy,mQG,S],(by
    intro v B;rcases mQE.1 B with B|B
    .exact tW v B
    rcases mQI.1 B with B|B
    .rw[B];exact ia
    cases B),e3⟩
  have wD:=hn n (mQz qC);have nR:=KL i n qC;rw[<-S]at nR;have sM:N+1<=2^39:=by omega
  have Z:R=none->(v0,11)=D:=λe=>by rw[P,e]
  clear aY hJ hd cZ P;rw[mQu aP];cbv;refine⟨cJ,?_⟩;cbv;refine(qe.mono (rY.t _)).load qC cN (λcs O=>?_);obtain⟨op,a,b,⟨vk,vn,vs⟩,name⟩:=n;have O:cs=[.int .i64 op,.int .i64 a,.int .i64 b,.int .i64 vk,.int .i64 vn,.string vs,.string name]:=O;subst O;cbv;refine eKP (n:=⟨op,a,b,⟨vk,vn,vs⟩,name⟩) wD.1 hc T.sl (qc.mono (rY.t _)) (qr.mono (rY.t _)) nR.1 nR.2.1 nR.2.2.1 nR.2.2.2 tW (λj w v l5 hw B=>?_) (λj l5 hw=>?_)
  .have iw:=OZ (n:=⟨op,a,b,⟨vk,vn,vs⟩,name⟩) wD.2 tW hr hw;rw[hw]at q;have q:gM cols r (ex.drop (i+1)) (l++[w])=R:=q;have cD:=λQ X V C=>cD w Q X V C iw q;obtain⟨wk,wn,ws⟩:=w;subst B;clear u q H Z;cbv;intro n2 p W t;have l6:Le j p:=by rw[t];exact Le.set W
   have v2:Sl 86 bq p (.slice (some ⟨n2,0,none⟩) 1 1) [⟨wk,wn,ws⟩]:=bA (s:=bq) ((congrFun t n2).trans ae) rfl;cbv;refine(T.mono ((l5.trans l6).t _)).append v2 (by decide) rfl (by decide) sM (l4.trans (l5.trans l6)) (λX Q V h7 ak l7 t3 k3 ry=>?_);have jd:=cD Q X V h7 ry l7;clear cD t3 k3 ry;cbv;refine⟨d-(i+1),(_,_,_,_),kX,by constructor<;>cbv,jd⟩
  rw[hw]at q;have hD:=Z q.symm;have M:=rK.trans l5;have L:=H j v0 11 M hD;have u:=λh' l=>u h' v0 11 _ l hD rfl;have E:=M _ _ g2;have J:=M _ _ g3;clear cD Z H q KL;refine⟨_,rfl,bJn E J Y ?_⟩;obtain⟨p,t⟩:∃p,p=bU (bU j F (.cells #[.int .i64 0,.int .i64 0,.string ⟨#[]⟩] 86 (0,0))) U (.cells #[.int .i64 11] 35 (0,0)):=⟨_,rfl⟩;have af:=u p (L p t);have g5:p F=some (.cells #[.int .i64 0,.int .i64 0,.string ⟨#[]⟩] 86 (0,0)):=by rw[t,aO Y];exact ae
  have W:p U=some (.cells #[.int .i64 11] 35 (0,0)):=by rw[t];exact ae
  rw[<-t];clear u L t E J;cbv;refine mQw g5 ?_;cbv;refine mQw W ?_;cbv;exact af
 have lW:i=d:=by omega
 rw[mQT (by omega)]at q;have q:some l=R:=q;rw[<-q]at P;have P:D=(xV l,0):=P;obtain⟨x,hx⟩:=mQA l (i-1);rw[YC hx (by omega)]at P;have L:=H h4 x 0 rK P.symm;have u:=λh' l=>u h' x 0 _ l P.symm rfl;have eM:=(aS.nat (A:=A) N).sub (A:=A) (⟨rfl⟩:aS 1 1) (by omega) (by omega);have cN:=eM.eq;have cJ:ab.isSome=true/\0<=A .bB .sub .i64 (A .nat N) 1/\A .bB .sub .i64 (A .nat N) 1<(N:Int):=⟨T.sl.aT,eM.ix (by omega)⟩;have hx:l[N-1]? =some x:=by rw[RM,S];exact hx
 have E:=rK _ _ g2;have J:=rK _ _ g3;clear aY hJ P q eM H KL;rw[mQv aP];cbv;refine⟨cJ,?_⟩;cbv;refine T.sl.load hx cN (λcs O=>?_);obtain⟨xk,xn,xs⟩:=x;have O:cs=[.int .i64 xk,.int .i64 xn,.string xs]:=O;subst O;cbv;refine ja E (by simp) (λj y=>?_);have g4:j U=some (.cells #[.int .i64 0] 35 (0,0)):=by rw[y,aO (Ne.symm Y)];exact J
 cbv;refine ja g4 (by simp) (λp t=>?_);have af:=u p (L p (by rw[t,y];rfl));have g5:p F=some (.cells #[.int .i64 xk,.int .i64 xn,.string xs] 86 (0,0)):=by rw[t,aO Y,y];exact ae
 have W:p U=some (.cells #[.int .i64 0] 35 (0,0)):=by rw[t];exact ae
 clear u L y t g4 E J;cbv;refine(bJo _ _ p).mono (λv h7 e7=>?_);subst e7;cbv;refine mQw g5 ?_;cbv;refine mQw W ?_;cbv;exact af
def aR(t:cW):List cK:=t.S.cols.map λc=>⟨t.S.name++aM [46]++c.name,c.kind,c.null⟩
def ku(e:List Nd)(cols:List cK)(want:Int):Int:=match jv e cols with
 | (k,f)=>if f=0/\k≠0/\k≠want then 3 else f
def aU(e:List Nd)(cols:List cK):Int:=if e.length=0 then 0 else ku e cols 1
def dt(e:List Nd)(cols:List cK)(r:Row):Bool×Int:=if e.length=0 then(true,0)else match eP e cols r with
 | (v,f)=>(decide (v.k=1)&&decide (v.n=1),f)
def ey{α:Type}(f:α->Int):List α->Int
 | []=>0
 |x::r=>if f x≠0 then f x else ey f r
def pF(cols:List cK)(r:Row):List (List Nd)->Row->Row×Int
 | [],l=>(l,0)
 |x::xs,l=>match eP x cols r with
  | (v,f)=>if f≠0 then([],f)else pF cols r xs (l++[v])
def bS(l:List (List Nd))(cols:List cK)(r:Row):Row×Int:=pF cols r l []
def cI(d:DB)(nm:ByteArray):cW:=(d.az.find? λt=>decide (t.S.name=nm)).getD ⟨⟨b0,[],0,false⟩,[]⟩
def eN(bV:List Nd)(cols:List cK)(f:Row->Row×Int):List Row->List Row×List Row->(List Row×List Row)×Int
 | [],p=>(p,0)
 |r::rs,p=>match dt bV cols r with
  | (is,e)=>if e≠0 then(p,e)else if is=false then eN bV cols f rs p else match f r with
   | (n,e)=>if e≠0 then((p.1++[r],p.2++[n]),e)else eN bV cols f rs (p.1++[r],p.2++[n])
def CV{α:Type}(f:DB->α->DB×Int):List α->DB->DB×Int
 | [],d=>(d,0)
 |x::r,d=>match f d x with
  | (d',e)=>if e≠0 then(d',e)else CV f r d'
def mD(d:DB)(nm:ByteArray)(r:Row):cO:=fT r (cI d nm).S.key
def iZ(s:Int)(nm:ByteArray):List Row->DB->DB×Int:=CV λd r=>iz d s nm (mD d nm r)
def uH(s:Int)(nm:ByteArray):List Row->DB->DB×Int:=CV λd r=>fF d s nm r
def cP(dQV:DB)(r:DB×Int):DB×List Row×Int:=if r.2≠0 then(dQV,[],r.2)else(r.1,[],0)
def nO(d:DB)(s:Int)(x:aJ):DB×List Row×Int:=match aL d ⟨s,x.table,true⟩with
 | (d,e)=>if e≠0 then(d,[],e)else cP d (match bS x.exprs [] []with
  | (r,e)=>if e≠0 then(d,e)else fF d s x.table r)
def pQ(cols:List cK)(nm:ByteArray):Int×Bool:=match jR cols nm 0 with
 |some k=>((k:Int),true)
 |none=>(0,false)
def mg(cols:List cK):List ByteArray->List Int->List Int×Int
 | [],l=>(l,0)
 |nm::r,l=>match pQ cols nm with
  | (k,is)=>if is=false then(l,2)else if k∈l then(l,7)else mg cols r (l++[k])
def zG(cols:List cK)(k:Int):Int:=match cols[k.toNat]? with
 |some c=>c.kind
 |none=>0
def mE(cols mI:List cK):List (List Nd×Int)->Int
 | []=>0
 | (x,k)::r=>if ku x cols (zG mI k)≠0 then ku x cols (zG mI k)else mE cols mI r
def mR(t:cW)(x:aJ):Int:=match mg t.S.cols x.names []with
 | (pl,e)=>if e≠0 then e else if mE (aR t) t.S.cols (x.exprs.zip pl)≠0 then mE (aR t) t.S.cols (x.exprs.zip pl)else aU x.bV (aR t)
def Aa(cols:List cK):List (cO×ByteArray)->Row->Row
 | [],r=>r
 | (v,nm)::l,r=>Aa cols l (r.set (pQ cols nm).1.toNat v)
def oY(t:cW)(x:aJ)(r:Row):Row×Int:=match bS x.exprs (aR t) r with
 | (l,e)=>(Aa t.S.cols (l.zip x.names) r,e)
def kj(d:DB)(s:Int)(x:aJ):DB×List Row×Int:=match aL d ⟨s,x.table,true⟩with
 | (d,e)=>if e≠0 then(d,[],e)else if(cI d x.table).S.only=true then(d,[],19)else cP d (
  if mR (cI d x.table) x≠0 then(d,mR (cI d x.table) x)else match eN x.bV (aR (cI d x.table)) (oY (cI d x.table) x) (cI d x.table).rows ([],[])with
   | (p,e)=>if e≠0 then(d,e)else match iZ s x.table p.1 d with
    | (d,e)=>if e≠0 then(d,e)else uH s x.table p.2 d)
def jt(d:DB)(s:Int)(x:aJ):DB×List Row×Int:=match aL d ⟨s,x.table,true⟩with
 | (d,e)=>if e≠0 then(d,[],e)else if(cI d x.table).S.only=true then(d,[],19)else cP d (
  if aU x.bV (aR (cI d x.table))≠0 then(d,aU x.bV (aR (cI d x.table)))else match eN x.bV (aR (cI d x.table)) (λ_=>([],0)) (cI d x.table).rows ([],[])with
   | (p,e)=>if e≠0 then(d,e)else iZ s x.table p.1 d)
def bN(nm:ByteArray)(cols:List cK):Int×Int:=if nm=b0 then(-1,0)else gS nm cols
def lT(cols:List cK)(i:dO):Int:=if i.fn=1 then 0 else if i.fn=2 then ku i.e cols 2 else(jv i.e cols).2
def cM(cols:List cK)(group:Int)(i:dO):Int:=if i.fn≠0 then 0 else if group<0 then 3 else match i.e with
 | [n]=>if n.op≠2 then 3 else match gS n.name cols with
  | (k,e)=>if e≠0\/k≠group then 3 else 0
 |_=>3
structure Qy where
 group:Int
 order:Int
 kK:Bool
def dp(x:aJ)(cols:List cK):Qy×Int:=
 if aU x.on cols≠0 then(⟨-1,-1,false⟩,aU x.on cols)
 else if aU x.bV cols≠0 then(⟨-1,-1,false⟩,aU x.bV cols)
 else if ey (lT cols) x.items≠0 then(⟨-1,-1,false⟩,ey (lT cols) x.items)
 else match bN x.group cols with
  | (g,e)=>if e≠0 then(⟨g,-1,false⟩,e)else match bN x.order cols with
   | (o,e)=>if e≠0 then(⟨g,o,false⟩,e)else
    if(decide (x.group≠b0)||x.items.any λi=>decide (i.fn≠0))=false then(⟨g,o,false⟩,0)
    else if x.items.length=0\/(o>=0/\o≠g)then(⟨g,o,true⟩,3)
    else(⟨g,o,true⟩,ey (cM cols g) x.items)
def gX(x:aJ)(cols:List cK)(a:Row):List Row->List Row->List Row×Int
 | [],out=>(out,0)
 |b::bs,out=>match dt x.on cols (a++b)with
  | (on,e)=>if e≠0 then(out,e)else if on=false then gX x cols a bs out else match dt x.bV cols (a++b)with
   | (is,e)=>if e≠0 then(out,e)else gX x cols a bs (if is=true then out++[a++b]else out)
def cT(x:aJ)(cols:List cK)(bs:List Row):List Row->List Row->List Row×Int
 | [],out=>(out,0)
 |a::l,out=>match gX x cols a bs out with
  | (out,e)=>if e≠0 then(out,e)else cT x cols bs l out
def bL{α:Type}(l:List α)(n:Int):List α:=if n<0 then l else l.take n.toNat
def Mg(desc:Bool)(a b:cO):Int:=if desc=true then bC b a else bC a b
def wP(k:Int)(desc:Bool)(a b:Row):Bool:=decide (Mg desc (fT a k) (fT b k)<0)
def eZ(x:aJ)(cols:List cK):List Row->List Row->List Row×Int
 | [],out=>(out,0)
 |r::rs,out=>if x.items.length=0 then eZ x cols rs (out++[r])else match bS (x.items.map (·.e)) cols r with
  | (v,e)=>if e≠0 then([],e)else eZ x cols rs (out++[v])
def eJ(x:aJ)(cols:List cK)(order:Int)(rows:List Row):List Row×Int:=eZ x cols (bL (if order>=0 then gL (wP order x.desc) rows else rows) x.eG) []
def cG(k:Int):List Row->List (List Row)->List (List Row)
 | [],out=>out
 |r::rs,out=>match out.getLast? with
  |none=>cG k rs [[r]]
  |some g=>match g.getLast? with
   |none=>cG k rs (out++[[r]])
   |some p=>if re (fT p k) (fT r k)=true then cG k rs (out.dropLast++[g++[r]])else cG k rs (out++[[r]])
def gV(k:Int)(desc:Bool)(rows:List Row):List (List Row):=if k<0 then [rows]else cG k (gL (wP k desc) rows) []
def iR(fn:Int)(v x:cO):cO×Int:=
 if v.k=0 then(x,0)
 else if fn=2 then eP [lit v,lit x,bin 14 0 1] [] []
 else if(fn=3/\bC x v<0)\/(fn=4/\bC x v>0)then(x,0)else(v,0)
def lO(fn:Int)(e:List Nd)(cols:List cK):List Row->cO->cO×Int
 | [],v=>(v,0)
 |r::rs,v=>match eP e cols r with
  | (x,f)=>if f≠0 then(v0,f)else if x.k=0 then lO fn e cols rs v else match iR fn v x with
   | (w,f)=>if f≠0 then(v0,f)else lO fn e cols rs w
def yA(cols:List cK)(group:Int)(i:dO)(g:List Row):cO×Int:=
 if i.fn=1 then(⟨2,g.length,b0⟩,0)else if i.fn=0 then(match g with
  |r::_=>(fT r group,0)
  | []=>(v0,0))else lO i.fn i.e cols g v0
def ki(cols:List cK)(group:Int)(g:List Row):List dO->Row->Row×Int
 | [],r=>(r,0)
 |i::is,r=>match yA cols group i g with
  | (v,e)=>if e≠0 then([],e)else ki cols group g is (r++[v])
def gJ(x:aJ)(cols:List cK)(group:Int):List (List Row)->List Row->List Row×Int
 | [],out=>(out,0)
 |g::gs,out=>match ki cols group g x.items []with
  | (r,e)=>if e≠0 then([],e)else gJ x cols group gs (out++[r])
def dw(x:aJ)(cols:List cK)(group:Int)(rows:List Row):List Row×Int:=gJ x cols group (bL (gV group x.desc rows) x.eG) []
def jI(x:aJ)(cols:List cK)(a b:List Row):List Row×Int:=match dp x cols with
 | (q,e)=>if e≠0 then([],e)else if a.length*b.length>4000 then([],4)else match cT x cols b a []with
  | (rows,e)=>if e≠0 then([],e)else if q.kK=true then dw x cols q.group rows else eJ x cols q.order rows
def gH(d:DB)(s:Int)(x:aJ):DB×List Row×Int:=
 if x.join=x.table then(d,[],7)else match aL d ⟨s,x.table,false⟩with
 | (d,e)=>if e≠0 then(d,[],e)else if x.join=b0 then(match jI x (aR (cI d x.table)) (cI d x.table).rows [[]]with
  | (l,e)=>(d,l,e))
  else match aL d ⟨s,x.join,false⟩with
   | (d,e)=>if e≠0 then(d,[],e)else match jI x (aR (cI d x.table)++aR (cI d x.join)) (cI d x.table).rows (cI d x.join).rows with
    | (l,e)=>(d,l,e)
def iD(d:DB)(s:Int)(x:aJ):DB×List Row×Int:=
 if x.kind=7 then((dy d s).1,[],(dy d s).2)
 else if x.kind=9 then((dC d s).1,[],(dC d s).2)
 else if x.kind=10 then((jT d s x.name).1,[],(jT d s x.name).2)
 else if x.kind=11 then((kg d s x.name).1,[],(kg d s x.name).2)
 else if x.kind=3 then nO d s x else if x.kind=4 then kj d s x else if x.kind=5 then jt d s x else if x.kind=6 then gH d s x
 else(d,[],1)
end Go.S
