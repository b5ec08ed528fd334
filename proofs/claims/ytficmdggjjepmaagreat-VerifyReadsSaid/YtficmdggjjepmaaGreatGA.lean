import Derived.Test.YtficmdggjjepmaaGreatEC
set_option linter.all false
set_option maxRecDepth 100000
set_option maxHeartbeats 8000000
namespace Go.S
open Go.Sx Go.Proofs
variable {only:Bool}{nm:ByteArray}{rows:List Row}{a:List gY}{k:Value->ab->Prop}{h:ab}
theorem Hk{xs:List bM}{b n cap:Nat}(o:cM 100 bu h b cap xs)(j:n=xs.length){z w:Int}{i:Nat}(l:aM z i)(a:aM w (i+1))(O:i<n)
 (s:∀h' m,m=n-1->Kp [b] h h'->(∀tys,100∉tys->cf tys h h')->cM 100 bu h' b cap (xs.eraseIdx i)->k (.slice (some ⟨b,0,none⟩) m cap) h'):
 Ct 151 [.slice (some ⟨b,0,none⟩) n cap,.int .i64 z,.int .i64 w] h k:=by
 obtain⟨A,d⟩:=Ar.ex;have t:=o.le;have P:=o.bd;have M:=l.eq;have Z:=a.eq;have x:A .nat n=(n:Int):=by rw[d.nat];rfl
 have e1:A .az .eql z w=false:=by rw[aq A];exact ag (by omega)
 have q:Sl 100 bu h (.slice (some ⟨b,0,none⟩) n cap) xs:=o.sl j;have y:0<=A .nat n/\A .nat n<=(cap:Int)/\0<=w/\w<=A .nat n/\0<=z/\z<=w:=by rw[x];omega
 have T:0<=z/\z<=(cap:Int):=by omega
 have B:0<=w/\w<=(n:Int):=by omega
 have E:∀m,m=n-1->0<=A .nat n/\A .nat n<=(cap:Int)/\0<=A .nat m/\A .nat m<=A .nat n:=λm g=>by
  have L:A .nat m=(m:Int):=by rw[d.nat];rfl
  rw[x,L];omega
 have F:=q.gT (A:=A) a (by omega) rfl rfl;have J:=cQ (A:=A) l;have U:=bZ (A:=A) (n:=n) a;have I:=bZ (A:=A) (n:=cap) a;refine dH cJX A Tryz.func151 ?_;cbv;refine⟨y,?_⟩;cbv;rw[e1];cbv;refine⟨T,?_⟩;cbv;refine⟨B,?_⟩;cbv;rw[rC (A:=A),J,U];refine o.Bn (by decide) (i:=i) (by omega) F (by omega) (by omega) rfl (λN m g u H o1=>?_);have c:m=n-1:=by omega
 have o2:=o1.shrink (n-1);have e:(xs.take i++xs.drop (i+1)++xs.drop (i+(n-(i+1)))).take (n-1)=xs.eraseIdx i:=by rw[j];exact erase_eq (by omega)
 rw[e]at o2;clear o1 e g;have Q:(xs.eraseIdx i).length=n-1:=by rw[iQu (by omega)];omega
 have E:=E m c;have G:A .mW (A .nat n) (A .nat m)=1:=by rw[bZ (A:=A) (aM.nat m)];omega
 cbv;refine⟨E,?_⟩;cbv;rw[sF (A:=A) (aM.nat m) (by omega),G];refine o2.Sq (by decide) rfl rfl (p:=m) (by omega) (by omega) (λr v K C=>?_);have D:=s r m c (u.trans v) (λtys f=>(H tys f).trans (K tys f)) C;cbv;exact D
theorem uG{c m wb b w:Nat}{T:List bM}{W:List (eG×Bool)}{H a:List bJ}{e:Int}(q:iL h c m wb b w T W H a e)(n:ByteArray)
 (i:∀h' z t,Le h h'->aM z (dE (aF T n))->t=gH (aF T n)->k (.tuple #[.int .i64 z,.bool t]) h'):Ct 141 [.pointer (some ⟨c,0,none⟩),.string n] h k:=
 (rS q n).mono (λv h' hR=>by
  obtain⟨l,z,t,j,g⟩:=hR;obtain⟨d,f⟩:=g.at_;rw[j];exact i h' z t l d f)
theorem PN{key:Int}{r:Row}{t p b:Option Addr}{w u o s n c:Nat}(B:Sl 58 bt h (.slice t w u) a)(A:Sl 88 aU h (.slice p o s) rows)(q:Sl 87 aZ h (.slice b n c) r)(y:o<=2^37)
 (x:∀h' d j g f m i T e,Le h h'->Sl 58 bt h' (.slice d j g) a->Sl 88 aU h' (.slice f m i) T->(⟨⟨⟨nm,a,key,only⟩,T⟩,e⟩:bM×Int)=bq ⟨⟨nm,a,key,only⟩,rows⟩ r->k (.tuple #[.agg #[.string nm,.slice d j g,.int .i64 key,.bool only,.slice f m i],.int .i64 e]) h'):
 Ct 81 [.agg #[.string nm,.slice t w u,.int .i64 key,.bool only,.slice p o s],.slice b n c] h k:=
 (YK (nm:=nm) (key:=key) (only:=only) B A q y).mono (λv h' hR=>by
  obtain⟨l,d,j,g,f,m,i,e,T,z,C,D,E⟩:=hR;rw[z];exact x h' d j g f m i T e l C D E)
theorem Ko{key:Int}{s p:Option Addr}{t r o q:Nat}(z:Sl 58 bt h (.slice s t r) a)(y:Sl 88 aU h (.slice p o q) rows)(w:o<=2^37)(kv:gI)
 (u:∀h' b n f c j g d m i T R e,Le h h'->Sl 58 bt h' (.slice b n f) a->Sl 88 aU h' (.slice c j g) T->Sl 87 aZ h' (.slice d m i) R->(⟨⟨⟨nm,a,key,only⟩,T⟩,R,e⟩:bM×Row×Int)=aS ⟨⟨nm,a,key,only⟩,rows⟩ kv->k (.tuple #[.agg #[.string nm,.slice b n f,.int .i64 key,.bool only,.slice c j g],.slice d m i,.int .i64 e]) h'):
 Ct 213 [.agg #[.string nm,.slice s t r,.int .i64 key,.bool only,.slice p o q],.agg #[.int .i64 kv.k,.int .i64 kv.n,.string kv.s]] h k:=
 (aQE (nm:=nm) (key:=key) (only:=only) z y w kv).mono (λv h' hR=>by
  obtain⟨l,b,n,f,c,j,g,d,m,i,e,T,R,x,A,B,C,D⟩:=hR;rw[x];exact u h' b n f c j g d m i T R e l A B C D)
structure aQj(z:Int)(i:Nat):Prop where
 eq:z=(i:Int)-1
def uB(r:Row)(key:Int):gI:=(r[key.toNat]?).getD ⟨0,0,je⟩
def eM(T:List bM)(x:cW):List bM:=
 if gH (aF T x.table)=true then
  match T[dE (aF T x.table)]? with
  |some t=>if decide (x.op=2)=true then T.set (dE (aF T x.table)) (bq t x.row).1
   else if(decide (t.S.key>=0)&&decide (t.S.key<(x.row.length:Int)))=true then T.set (dE (aF T x.table)) (aS t (uB x.row t.S.key)).1 else T
  |none=>T
 else T
def ic(T:List bM)(l:List cW):List bM:=l.foldr (λx T=>eM T x) T
def jW(T:List bM):Prop:=∀t∈T,t.rows.length<=2^36
def Wf(ws:List eG):List (eG×Bool):=ws.map λw=>(w,true)
def vJ(ws:List eG)(s:Int):List eG:=if gH (cG ws s)=true then ws.eraseIdx (dE (cG ws s))else ws
def rJ(T:List bM)(ws:List eG)(s:Int):List bM:=
 if gH (cG ws s)=true then match ws[dE (cG ws s)]? with
  |some w=>ic T w.log
  |none=>T
 else T
def iU(d:DB)(s:Int):DB:=⟨rJ d.al d.aj s,vJ d.aj s,bO d.holds s,bO d.waits s⟩
def kC:Nat->DB->bJ->DB×Int
 |0,d,_=>(d,16)
 |f+1,d,hd=>
  if bI d.holds hd=true then(⟨d.al,d.aj,cu d.holds hd,cV d.holds d.waits hd⟩,0)
  else if(dw (cH (cu d.holds hd) (cV d.holds d.waits hd)) hd.s).2=true then
   if decide ((dw (cH (cu d.holds hd) (cV d.holds d.waits hd)) hd.s).1=hd.s)=true then(iU ⟨d.al,d.aj,cu d.holds hd,cV d.holds d.waits hd⟩ (dw (cH (cu d.holds hd) (cV d.holds d.waits hd)) hd.s).1,17)
   else kC f (iU ⟨d.al,d.aj,cu d.holds hd,cV d.holds d.waits hd⟩ (dw (cH (cu d.holds hd) (cV d.holds d.waits hd)) hd.s).1) hd
  else(⟨d.al,d.aj,cu d.holds hd,cV d.holds d.waits hd⟩,16)
set_option maxHeartbeats 4000000
structure vW(n:Nat)(d:DB):Prop where
 al:d.al.length<=2^30
 jd:d.aj.Pairwise (λa b=>a.s<b.s)
 sa:∀w∈d.aj,0<=w.s/\w.s<8
 rows:jW d.al
 holds:d.holds.length<=n
 waits:d.waits.length<=n
 aZl:∀x∈d.holds,0<=x.s/\x.s<8
theorem ZY(l:List Int)(p:Nat)(c:p<l.length)(h0:l.getD p 0=0)(I:∀i,i<p->l.getD i 0<0)(b:∀i,p<i->i<l.length->l.getD i 0>0):dE l=p/\gH l=true:=by
 have h:dE l=p:=sK l p I 0 l.length (λk h d=>by
  rcases ss p k with a|a
  .have:=b k a d;omega
  have:k=p:=by omega
  rw[this,h0];omega) (qT _) (iQw c)
 exact⟨h,by unfold gH;rw[h];exact aH ⟨c,h0⟩⟩
structure TL(n:Nat)(d:DB)(hd:bJ)(D:DB×Int):Prop where
 S:D.1.al.map (·.S)=d.al.map (·.S)
 ok:vW (n+1) D.1
 own:D.2=0->∀w∈d.aj,w.s=hd.s->w∈D.1.aj
 sub:D.1.aj.Sublist d.aj
end Go.S
