import Derived.Test.YtekoaiendgjkdaaGreatSxB
import Derived.Laws.LoneSync
import Derived.Lib.Bytealg
import Derived.MapKept
import Derived.Maps.RangeRun
import Derived.Laws.RangeString
set_option linter.unusedVariables false
set_option linter.unusedSimpArgs false
set_option linter.unusedSectionVars false
namespace Go.Sx
def Le(h h':ad):Prop:=∀b o,h b=some o->h' b=some o
theorem Le.refl(h:ad):Le h h:=fun _ _ x=>x
theorem Le.trans{a b c:ad}(x:Le a b)(y:Le b c):Le a c:=fun k o q=>y k o (x k o q)
theorem Le.set{h:ad}{n:Nat}{o:Obj}(hn:h n=none):Le h (bU h n o):=fun b q hb=>by
 unfold bU;split
 ·rename_i e;rw[e,hn]at hb;cases hb
 ·exact hb
theorem ae{h:ad}{n:Nat}{o:Obj}:bU h n o n=some o:=by unfold bU;rw[if_pos rfl]
theorem aO{h:ad}{n b:Nat}{o:Obj}(hb:b≠n):bU h n o b=h b:=by unfold bU;rw[if_neg hb]
theorem oW{h:ad}{n:Nat}{o o':Obj}:bU (bU h n o) n o'=bU h n o':=by funext b;unfold bU;split<;>rfl
def bR(tys:List Nat)(h h':ad):Prop:=∀b c e fr,e∈tys->h b=some (.cells c e fr)->h' b=some (.cells c e fr)
theorem Le.t{h h':ad}(x:Le h h')(tys:List Nat):bR tys h h':=fun b c e fr _ q=>x b _ q
theorem bR.refl(tys:List Nat)(h:ad):bR tys h h:=fun _ _ _ _ _ x=>x
theorem bR.trans{tys:List Nat}{a b c:ad}(x:bR tys a b)(y:bR tys b c):bR tys a c:=fun k d e fr m q=>y k d e fr m (x k d e fr m q)
theorem bR.set{tys:List Nat}{h:ad}{n e:Nat}{c:Array Value}{fr:Nat×Nat}{o:Obj}(hn:h n=some (.cells c e fr))(he:e∉tys):bR tys h (bU h n o):=fun b d e' NQ hm hb=>by
 unfold bU;split
 ·rename_i q;rw[q,hn]at hb;cases hb;exact absurd hm he
 ·exact hb
theorem bR.sub{tys eJz:List Nat}{h h':ad}(x:bR tys h h')(hs:∀t∈eJz,t∈tys):bR eJz h h':=fun b c e fr m q=>x b c e fr (hs e m) q
structure Sh(α:Type)where
 n:Nat
 R:ad->List Value->α->Prop
 len:∀ {h cs x},R h cs x->cs.length=n
 one:∀ {h cs x},R h cs x->oS cs=true
 tys:List Nat
 mono:∀ {h h' cs x},bR tys h h'->R h cs x->R h' cs x
def Rows{α:Type}(s:Sh α)(h:ad)(c:List Value)(off:Nat)(xs:List α):Prop:=
 off+xs.length*s.n<=c.length/\∀i x,xs[i]? =some x->s.R h ((c.drop (off+i*s.n)).take s.n) x
theorem Rows.mono{α:Type}{s:Sh α}{h h':ad}{c:List Value}{off:Nat}{xs:List α}(hl:bR s.tys h h')(r:Rows s h c off xs):Rows s h' c off xs:=
 ⟨r.1,fun i x hx=>s.mono hl (r.2 i x hx)⟩
structure Sl{α:Type}(e:Nat)(s:Sh α)(h:ad)(v:Value)(xs:List α):Prop where
 out:∃b cap,v=.slice b xs.length cap/\xs.length<=cap/\xs.length<=2^40/\
  (xs=[]\/∃oB off c fr,b=some ⟨oB,off,none⟩/\h oB=some (.cells c e fr)/\Rows s h c.toList off xs)
theorem Sl.mono{α:Type}{e:Nat}{s:Sh α}{h h':ad}{v:Value}{xs:List α}(hl:bR (e::s.tys) h h')(q:Sl e s h v xs):Sl e s h' v xs:=by
 obtain⟨b,cap,h1,h2,h3,h4⟩:=q.out;refine⟨b,cap,h1,h2,h3,?_⟩;rcases h4 with h4| ⟨oB,off,c,fr,g1,g2,g3⟩
 ·exact .inl h4
 ·exact .inr ⟨oB,off,c,fr,g1,hl _ _ _ _ (by simp) g2,g3.mono (hl.sub fun t ht=>by simp[ht])⟩
def mW{α:Type}(e:Nat)(s:Sh α):Sh (List α)where
 n:=1
 R h cs xs:=∃v,cs=[v]/\Sl e s h v xs
 len:=by rintro h cs x ⟨v,rfl,-⟩;rfl
 one:=by rintro h cs x ⟨v,rfl,q⟩;obtain⟨b,cap,rfl,-⟩:=q.out;rfl
 tys:=e::s.tys
 mono:=by rintro h h' cs x hl ⟨v,rfl,q⟩;exact⟨v,rfl,q.mono hl⟩
theorem pI{α:Type}{s:Sh α}{h:ad}{c:Array Value}{e:Nat}{fr:Nat×Nat}{oB off:Nat}{xs:List α}(hb:h oB=some (.cells c e fr))(r:Rows s h c.toList off xs){i:Nat}{x:α}
 (hx:xs[i]? =some x):Sw h ⟨oB,off+i*s.n,none⟩ s.n ((c.toList.drop (off+i*s.n)).take s.n):=by
 refine⟨rfl,s.len (r.2 i x hx),c,e,fr,hb,fun j hj=>?_⟩;rw[mXa,if_pos hj,mXi];simp
theorem Sl.load{α:Type}{A:Ar}[bM A]{e:Nat}{s:Sh α}{h:ad}{b:Option Addr}{len cap:Nat}{xs:List α}(q:Sl e s h (.slice b len cap) xs){i:Nat}{x:α}(hx:xs[i]? =some x){n:Int}(hn:n=(i:Int))
 {k:List Value->Prop} (hk:∀cs,s.R h cs x->k cs):Bn h (A.mS b n s.n) s.n k:=by
 obtain⟨b',ju,h1,h2,h3,h4⟩:=q.out;cases h1;rcases h4 with rfl| ⟨oB,off,c,fr,rfl,g2,g3⟩
 ·simp at hx
 ·subst hn;refine⟨_,?_,hk _ (g3.2 i x hx)⟩;rw[A.yq];simp only[mS,mXI,mXD,dF];exact pI g2 g3 hx
theorem Sl.len{α:Type}{e:Nat}{s:Sh α}{h:ad}{b:Option Addr}{len cap:Nat}{xs:List α}(q:Sl e s h (.slice b len cap) xs):len=xs.length:=by obtain⟨b',ju,h1,-⟩:=q.out;cases h1;rfl
theorem Sl.aT{α:Type}{e:Nat}{s:Sh α}{h:ad}{b:Option Addr}{len cap:Nat}{xs:List α}(q:Sl e s h (.slice b len cap) xs)(hl:0<len):b.isSome=true:=by
 obtain⟨b',ju,h1,h2,h3,h4⟩:=q.out;cases h1;rcases h4 with rfl| ⟨oB,off,c,fr,rfl,-⟩
 ·simp at hl
 ·rfl
theorem Sl.bound{α:Type}{e:Nat}{s:Sh α}{h:ad}{b:Option Addr}{len cap:Nat}{xs:List α}(q:Sl e s h (.slice b len cap) xs):len<=2^40/\len<=cap:=by obtain⟨b',ju,h1,h2,h3,-⟩:=q.out;cases h1;exact⟨h3,h2⟩
theorem Sl.rX{α:Type}{e:Nat}{s:Sh α}{h:ad}{b:Option Addr}{len cap:Nat}{xs:List α}(q:Sl e s h (.slice b len cap) xs):
 ∃cs,dXU h b (len*s.n) cs/\cs.length=len*s.n/\oS cs=true/\∀h',bR s.tys h h'->∀pre rest,Rows s h' (pre++cs++rest) pre.length xs:=by
 obtain⟨b',ju,h1,h2,h3,h4⟩:=q.out;cases h1;rcases h4 with rfl| ⟨oB,off,c,fr,rfl,g2,g3⟩
 ·exact⟨[],.inl ⟨by simp,rfl⟩,by simp,rfl,fun h' _ pre rest=>⟨by simp,fun i x hx=>by simp at hx⟩⟩
 ·refine⟨(c.toList.drop off).take (xs.length*s.n),.inr ⟨_,rfl,rfl,?_,c,e,fr,g2,fun j hj=>?_⟩,?_,?_,fun h' hl pre rest=>⟨?_,fun i x hx=>?_⟩⟩
  ·have:=g3.1;simp at this |-;omega
  ·rw[mXa,if_pos hj,mXi];simp
  ·have:=g3.1;simp at this |-;omega
  ·-- oS
   have key:∀m,m<=xs.length->oS ((c.toList.drop off).take (m*s.n))=true:=fun m=>by
    induction m with
    |zero=>intro _;simp[oS]
    |succ m ih=>
     intro hm;have hx:xs[m]? =some xs[m]:=by simp[show m<xs.length by omega]
     have h5:=s.one (g3.2 m _ hx);have h6:(c.toList.drop off).take ((m+1)*s.n)=(c.toList.drop off).take (m*s.n)++(c.toList.drop (off+m*s.n)).take s.n:=by rw[mXu,List.take_add,mZn]
     rw[h6];exact EP (ih (by omega)) h5
   exact key _ (mQt _)
  ·have:=g3.1;simp at this |-;omega
  ·have h5:=g3.2 i x hx;have hi:i<xs.length:=(HH.1 hx).1;have hb:=g3.1;have e1:i*s.n+s.n<=xs.length*s.n:=by rw[<-mXu];exact mXg _ hi
   have:((pre++(c.toList.drop off).take (xs.length*s.n)++rest).drop (pre.length+i*s.n)).take s.n=(c.toList.drop (off+i*s.n)).take s.n:=by
    apply mXz;intro j;simp only[mXa];split
    ·rename_i hj;rw[mXi,mXd,mXM (by omega),mZz (by simp at hb |-;omega),mXa,if_pos (by omega),mXi,mXi];congr 1;omega
    ·rfl
   rw[this];exact s.mono hl h5
theorem Sl.fresh{α:Type}{e:Nat}{s:Sh α}{h:ad}{n:Nat}{c:List Value}{xs:List α}{cap:Nat}(hb:h n=some (.cells c.toArray e (0,0)))(r:Rows s h c 0 xs)(hl:xs.length<=2^40)(hc:xs.length<=cap):
 Sl e s h (.slice (some ⟨n,0,none⟩) xs.length cap) xs:=
 ⟨some ⟨n,0,none⟩,cap,rfl,hc,hl,.inr ⟨n,0,c.toArray,(0,0),rfl,hb,by simpa using r⟩⟩
theorem Sl.nil{α:Type}{e:Nat}{s:Sh α}{h:ad}{b:Option Addr}{cap:Nat}:Sl e s h (.slice b 0 cap) ([]:List α):=
 ⟨b,cap,rfl,by simp,by simp,.inl rfl⟩
theorem bh{t:Bool}{x y:Unit->Prop}(h1:t=true->x ())(h2:t=false->y ()):ZR t x y:=by
 cases t
 ·exact h2 rfl
 ·exact h1 rfl
structure fX{α:Type}(e:Nat)(s:Sh α)(h:ad)(nb cap:Nat)(xs:List α):Prop where
 out:∃c,h nb=some (.cells (List.toArray c) e (0,0))/\Rows s h c 0 xs/\c.length=cap*s.n
 le:xs.length<=cap
 bd:xs.length<=2^40
theorem fX.sl{α:Type}{e:Nat}{s:Sh α}{h:ad}{nb cap:Nat}{xs:List α}(o:fX e s h nb cap xs){n:Nat}(hn:n=xs.length):Sl e s h (.slice (some ⟨nb,0,none⟩) n cap) xs:=by obtain⟨c,h1,h2,-⟩:=o.out;subst hn;exact Sl.fresh h1 h2 o.bd o.le
theorem fX.mono{α:Type}{e:Nat}{s:Sh α}{h h':ad}{nb cap:Nat}{xs:List α}(hl:bR (e::s.tys) h h')(o:fX e s h nb cap xs):fX e s h' nb cap xs:=by obtain⟨c,h1,h2,h3⟩:=o.out;exact⟨⟨c,hl _ _ _ _ (by simp) h1,h2.mono (hl.sub fun t ht=>by simp[ht]),h3⟩,o.le,o.bd⟩
theorem dz{α:Type}{e:Nat}{s:Sh α}{h:ad}{x:Option Addr}{n cx:Nat}{xs:List α}(q:Sl e s h (.slice x n cx) xs)(he:e∉s.tys){b0:Option Addr}{size bytes:Nat}(mX:size=s.n)(rR:bytes<=128)
 {k:Value->ad->Prop} (Qe:n=0->k (.slice b0 0 0) h)
 (vm:∀nb cap h',h nb=none->0<n->Le h h'->fX e s h' nb cap xs->k (.slice (some ⟨nb,0,none⟩) n cap) h'):iU h b0 0 0 x n size bytes e k:=by
 subst mX;obtain⟨cs,h1,h2,h3,h4⟩:=q.rX;have hlen:=q.len;obtain⟨lY,jq⟩:=q.bound;refine⟨cs,h1,h3,fun hf=>?_,fun hg=>?_⟩
 ·have hn:n=0:=by omega
  have ay:cs=[]:=mQT (by rw[h2,hn];simp);subst hn;exact .inl ⟨ay,Qe rfl⟩
 ·refine⟨?_,?_,[],.inl ⟨by simp,rfl⟩,fun nb c h' rest e1 e2 e3 e4=>?_⟩
  ·have Im:(2:Nat)^40=1099511627776:=rfl;have bZV:(2:Nat)^48=281474976710656:=rfl;have:2*(0+n)*bytes<=2*(0+n)*128:=mKp _ rR;omega
  ·have Im:(2:Nat)^40=1099511627776:=rfl;have bZV:(2:Nat)^48=281474976710656:=rfl;omega
  ·have hle:Le h h':=by rw[e4];exact Le.set e1
   have:=vm nb c h' e1 (by omega) hle ⟨⟨cs++rest,?_,?_,?_⟩,by omega,by omega⟩
   ·simpa using this
   ·rw[e4,ae];simp
   ·have:=h4 h' (hle.t _) [] rest;simpa using this
   ·simp only[nX,h2,e3];rw[<-mXC];congr 1;omega
def xC:Env->List (Nat×SV)->Env
 |env,[]=>env
 |env,(t,x)::r=>xC (env.set t x) r
def aQt:Env->List Nat->Env
 |env,[]=>env
 |env,t::r=>aQt (env.set t .u) r
theorem aX.go{G:Type}{ws:List Nat}{body:(Ex->Env->Loc->ad->Prop)->Env->Loc->ad->Prop}{K:Ex->Env->Loc->ad->Prop}{env:Env}{L:Loc}{h:ad}
 (vs:G->List (Nat×SV)) (lv:G->Loc) (I:Nat->G->ad->Prop) (n0:Nat) (g0:G)
 (hw:Wk env L (xC (aQt env ws) (vs g0)) (lv g0)) (hI:I n0 g0 h)
 (step:∀n g h',I n g h'->body (fun e dh L' kY=>match e with
  | .normal=>∃m g',m<n/\Wk dh L' (xC (aQt env ws) (vs g')) (lv g')/\I m g' kY
  |e=>K e dh L' kY) (xC (aQt env ws) (vs g)) (lv g) h'):aX ws body K env L h:=
 ⟨fun n kU L1 h1=>∃g,kU=xC (aQt env ws) (vs g)/\L1=lv g/\I n g h1,n0,⟨_,_,hw,g0,rfl,rfl,hI⟩,fun n kU L1 h1 ⟨g,e1,e2,hI⟩=>by
  subst e1 e2;have:=step n g h1 hI;have key:(fun(e:Ex) (dh:Env) (L':Loc) (kY:ad)=>match e with
   | .normal=>∃m g',m<n/\Wk dh L' (xC (aQt env ws) (vs g')) (lv g')/\I m g' kY
   |e=>K e dh L' kY)=(fun e dh L' h'=>match e with
   | .normal=>∃m kU L1,m<n/\Wk dh L' kU L1/\∃g,kU=xC (aQt env ws) (vs g)/\L1=lv g/\I m g h'
   |e=>K e dh L' h'):=by
   funext e dh L' kY;cases e with
   |normal=>
    apply propext;constructor
    ·rintro⟨m,g',h1,h2,h3⟩;exact⟨m,_,_,h1,h2,g',rfl,rfl,h3⟩
    ·rintro⟨m,_,_,h1,h2,g',rfl,rfl,h3⟩;exact⟨m,g',h1,h2,h3⟩
   |exit j=>rfl
   |ret=>rfl
  rw[key]at this;exact this⟩
def Kp(bs:List Nat)(h h':ad):Prop:=∀b o,h b=some o->b∉bs->h' b=some o
theorem Kp.refl(bs:List Nat)(h:ad):Kp bs h h:=fun _ _ x _=>x
theorem Kp.trans{bs:List Nat}{a b c:ad}(x:Kp bs a b)(y:Kp bs b c):Kp bs a c:=fun k o q hk=>y k o (x k o q hk) hk
theorem Le.kp{h h':ad}(x:Le h h')(bs:List Nat):Kp bs h h':=fun b o q _=>x b o q
theorem Kp.set{bs:List Nat}{h:ad}{n:Nat}{o:Obj}(hn:n∈bs):Kp bs h (bU h n o):=fun b q hb hk=>by
 rw[aO (fun e=>hk (by rw[e];exact hn))];exact hb
theorem Kp.sub{bs jJB:List Nat}{h h':ad}(x:Kp bs h h')(hs:∀b∈bs,b∈jJB):Kp jJB h h':=fun b o q hk=>x b o q (fun e=>hk (hs b e))
theorem Le.dJ{h h1 h2:ad}{bs:List Nat}(x:Le h h1)(hn:∀b∈bs,h b=none)(y:Kp bs h1 h2):Le h h2:=fun b o q=>y b o (x b o q) (fun e=>by rw[hn b e]at q;cases q)
theorem Le.none{h h':ad}(x:Le h h'){b:Nat}(q:h' b=none):h b=none:=by
 cases hb:h b with
 |none=>rfl
 |some o=>rw[x b o hb]at q;cases q
theorem Hk{α:Type}{s:Sh α}{h:ad}{c:List Value}:Rows s h c 0 []:=⟨by simp,fun i x hx=>by simp at hx⟩
theorem nJ{α:Type}{e:Nat}{s:Sh α}{h:ad}{l:Nat}{A:Ar}[bM A]{bytes:Nat}{z:List Value}{k:Value->ad->Prop}(hz:z.length=s.n)(hl:l<=2^40)(hb:bytes<=128)
 (hk:∀nb h',h nb=none->Le h h'->fX e s h' nb l []->k (.slice (some ⟨nb,0,none⟩) l l) h'):
 Aw h e (A .nat l) (A .nat l) bytes z k:=by
 have Im:(2:Nat)^40=1099511627776:=rfl;have bZV:(2:Int)^48=281474976710656:=rfl;rw[bM.nat (A:=A)];refine⟨by simp only[mQJ];omega,⟨by rw[bZV];simp only[mQJ];omega,?_⟩,fun nb h' e1 e2=>?_⟩
 ·rw[bZV];simp only[mQJ];have:bytes*l<=128*l:=mXg _ hb;have h2:((bytes*l:Nat):Int)<=((128*l:Nat):Int):=mKo.2 this;simp only[mJo]at h2;omega
 ·simp only[mQJ,mXD]at e2 |-;refine hk nb h' e1 (by rw[e2];exact Le.set e1) ⟨⟨kx l z,by rw[e2,ae],Hk,?_⟩,by simp,by simp⟩;rw[gG,hz]
theorem rF:∀(vs:List Value) (c:List Value) (o j:Nat),o+vs.length<=c.length->(jS c o vs)[j]? =if o<=j/\j<o+vs.length then vs[j-o]? else c[j]?
 | [],c,o,j,_=>by simp[jS];omega
 |v::r,c,o,j,hl=>by
  simp only[mQx]at hl;unfold jS;rw[rF r (c.set o v) (o+1) j (by simp;omega)];by_cases h1:o+1<=j/\j<o+1+r.length
  ·rw[if_pos h1,if_pos ⟨by omega,by simp;omega⟩];rw[show j-o=(j-(o+1))+1 by omega];simp
  ·rw[if_neg h1];by_cases h2:o=j
   ·subst h2;rw[if_pos ⟨mQt _,by simp⟩];simp[mZj (show o<c.length by omega)]
   ·rw[mZP h2,if_neg (by simp;omega)]
theorem Ha{vs c:List Value}{o n:Nat}(hl:o+vs.length<=c.length)(hn:n=vs.length):((jS c o vs).drop o).take n=vs:=by
 subst hn;apply mXz;intro j;rw[mXa];split
 ·rename_i hj;rw[mXi,rF vs c o _ hl,if_pos ⟨by omega,by omega⟩];congr 1;omega
 ·rename_i hj;rw[mXL (by omega)]
theorem vy{vs c:List Value}{o p n:Nat}(hl:o+vs.length<=c.length)(hd:p+n<=o\/o+vs.length<=p):((jS c o vs).drop p).take n=(c.drop p).take n:=by
 apply mXz;intro j;rw[mXa,mXa];split
 ·rename_i hj;rw[mXi,mXi,rF vs c o _ hl,if_neg (by omega)]
 ·rfl
theorem fX.store{α:Type}{A:Ar}[bM A]{e:Nat}{s:Sh α}{h:ad}{nb cap:Nat}{xs:List α}(o:fX e s h nb cap xs)(he:e∉s.tys){i:Nat}(hi:i<=xs.length)(hc:i<cap)(Zb:cap<=2^40){n:Int}(hn:n=(i:Int)){sz:Nat}(mX:sz=s.n)
 {cs:List Value} {x:α} (hx:s.R h cs x) {k:ad->Prop}
 (hk:∀h',Kp [nb] h h'->(∀tys,e∉tys->bR tys h h')->fX e s h' nb cap (if i<xs.length then xs.set i x else xs++[x])->k h'):Rn h (A.mS (some ⟨nb,0,none⟩) n sz) cs k:=by
 subst hn mX;obtain⟨c,h1,h2,h3⟩:=o.out;have hlen:=s.len hx;have hle:=o.le;have lY:i*s.n+s.n<=c.length:=by rw[h3,<-mXu];exact mXg _ hc
 rw[A.yq];simp only[mS,mXI,mXD,dF,mQY];refine⟨c.toArray,e,(0,0),rfl,h1,by simp;omega,by simp,fun h' eh=>?_⟩;have ht:∀tys,e∉tys->bR tys h h':=fun tys ch=>by rw[eh];exact bR.set h1 ch
 refine hk h' (by rw[eh];exact Kp.set (by simp)) ht ⟨⟨jS c (i*s.n) cs,by rw[eh];simp[ae],?_,by rw[fD,h3]⟩,?_,?_⟩
 ·have hm:=ht s.tys he;have fZ:∀j y,(if i<xs.length then xs.set i x else xs++[x])[j]? =some y->(j=i/\y=x)\/(j≠i/\xs[j]? =some y):=fun j y hj=>by
   split at hj
   ·rename_i aP;by_cases nT:j=i
    ·subst nT;rw[mZj aP]at hj;exact .inl ⟨rfl,(Option.some.inj hj).symm⟩
    ·rw[mZP (Ne.symm nT)]at hj;exact .inr ⟨nT,hj⟩
   ·rename_i lN;have:i=xs.length:=by omega
    by_cases nT:j=i
    ·subst nT;rw[mXM (by omega),this]at hj;simp at hj;exact .inl ⟨rfl,hj.symm⟩
    ·rw[mXX]at hj;split at hj
     ·exact .inr ⟨nT,hj⟩
     ·rename_i tX;rw[mZi]at hj;split at hj
      ·omega
      ·cases hj
  refine⟨?_,fun j y hj=>?_⟩
  ·rw[fD,h3];simp only[mQY];refine mXg _ ?_;split
   ·simp;exact hle
   ·simp;omega
  ·simp only[mQY];rcases fZ j y hj with ⟨rfl,rfl⟩ | ⟨ch,jXN⟩
   ·rw[Ha (by omega) hlen.symm];exact s.mono hm hx
   ·have tX:j<xs.length:=(HH.1 jXN).1;rw[vy (by omega)]
    ·have:=h2.2 j y jXN;simp only[mQY]at this;exact s.mono hm this
    ·rcases mQS j i with aP|lN
     ·left;rw[<-mXu];exact mXg _ aP
     ·right;rw[hlen,<-mXu];exact mXg _ (by omega)
 ·split
  ·simp;exact hle
  ·simp;omega
 ·split
  ·simp;exact o.bd
  ·simp;omega
theorem Sl.form{α:Type}{e:Nat}{s:Sh α}{h:ad}{v:Value}{xs:List α}(q:Sl e s h v xs):∃b l c,v=.slice b l c:=by obtain⟨b,cap,h1,-⟩:=q.out;exact⟨b,_,cap,h1⟩
structure aS(z:Int)(i:Nat):Prop where
 eq:z=(i:Int)
theorem aS.ix{z:Int}{i len:Nat}(hz:aS z i)(h:i<len):0<=z/\z<(len:Int):=by have:=hz.eq;omega
theorem aS.lt{A:Ar}[hA:bM A]{z:Int}{i len:Nat}(hz:aS z i)(hc:A .aI .lss z (A .nat len)=true):i<len:=by have:=hz.eq;simp only[hA.nat,hA.aI,aI,mQD,mQJ]at hc;omega
theorem aS.ge{A:Ar}[hA:bM A]{z:Int}{i len:Nat}(hz:aS z i)(hc:A .aI .lss z (A .nat len)=false):len<=i:=by have:=hz.eq;simp only[hA.nat,hA.aI,aI,decide_eq_false_iff_not,mQJ]at hc;omega
theorem aS.succ{A:Ar}[hA:bM A]{z:Int}{i:Nat}(hz:aS z i)(hi:i<2^62):aS (A .bB .add .i64 z 1) (i+1):=by constructor;have:=hz.eq;rw[hA.bB];simp only[bB];rw[IntWalk.i64_in _ (by omega)];omega
theorem aE{α:Type}{xs:List α}{i:Nat}(h:i<xs.length):∃x,xs[i]? =some x:=⟨xs[i],by simp[h]⟩
variable {P:Program}
theorem fW.ext{f:FuncId}{args:List Value}{h:ad}{k:Value->ad->Prop}
 (hr:∀w,Fo h w->∃v w' h',(callFunc f args.toArray).run P w=.ok (.value v) w'/\k v h'/\bW h w h' w'):fW (fun _=>P) (fun _=>Iu f args) h k:=
 ⟨fun w hw=>by
  obtain⟨v,w',h',h1,h2,h3⟩:=hr w hw;refine⟨v,w',h',?_,h2,h3⟩;simp only[Iu];rw[mQL,h1];rfl⟩
structure pV(P:Program)(f:FuncId)(fn:Func):Prop where
 hf:P.funcs[f]? =some fn
 Cu:(fn.name== "runtime.NumGoroutine")=false
 hb:fn.body.isNone=true
 hn:Extern.findNext fn=none
structure vr(h:ad)(a:Addr)(v:Value):Prop where
 out:a.spot=none/\∃c e,h a.block=some (.cells c e (0,0))/\c[a.off]? =some v
theorem vr.cell{h:ad}{a:Addr}{v:Value}(c:vr h a v){w:World}(hw:Fo h w):w.cell? a=some v/\w.frozen? a=false:=by
 obtain⟨h1,c,e,h2,h3⟩:=c.out;have h2:=hw _ _ h2;constructor
 ·simp[World.cell?,h2,h1,h3]
 ·simp[World.frozen?,h2]
theorem vr.set{h:ad}{a:Addr}{v:Value}(q:vr h a v)(x:Value){k:ad->Prop}(hk:∀c e h',h a.block=some (.cells c e (0,0))->h'=bU h a.block (.cells (c.setIfInBounds a.off x) e (0,0))->k h'){w:World}(hw:Fo h w):
 ∃h',k h'/\bW h w h' (w.setCell a x):=by
 obtain⟨h1,c,e,h2,h3⟩:=q.out;refine⟨_,hk c e _ h2 rfl,?_⟩;refine bW.set hw h2 ?_ ?_ ?_ ?_
 ·simp[World.setCell,mJp,hw _ _ h2,h1]
 ·intro b hb;simp[World.setCell,mJp,Ne.symm hb]
 ·simp[World.setCell]
 ·exact⟨rfl,rfl,rfl⟩
theorem zE{f:FuncId}{fn:Func}(ok:pV P f fn)(m:Mark)(he:Extern.find fn=some (fun _=>do mark m;pure Extern.Race.none_)){h:ad}{k:Value->ad->Prop}(hk:k (.tuple #[]) h):
 fW (fun _=>P) (fun _=>Iu f []) h k:=
 fW.ext fun w hw=>⟨_,w,h,run_call_mark0 ok.hf ok.Cu ok.hb ok.hn m he w,hk,bW.refl hw⟩
theorem Is{f:FuncId}{fn:Func}(ok:pV P f fn)(m:Addr->Mark)(he:Extern.find fn=some (Extern.Race.marked m)){a:Addr}{h:ad}{k:Value->ad->Prop}(hk:k (.tuple #[]) h):
 fW (fun _=>P) (fun _=>Iu f [.pointer (some a)]) h k:=
 fW.ext fun w hw=>⟨_,w,h,run_call_marked ok.hf ok.Cu ok.hb ok.hn m he a w,hk,bW.refl hw⟩
theorem bQz{f:FuncId}{fn:Func}(ok:pV P f fn){j:IntKind}(he:Extern.find fn=some (Extern.Atomic.loadT (.int j))){a:Addr}{h:ad}{x:Int}(hc:vr h a (.int j x)){k:Value->ad->Prop}(hk:k (.int j x) h):
 fW (fun _=>P) (fun _=>Iu f [.pointer (some a)]) h k:=
 fW.ext fun w hw=>⟨_,w,h,run_call_load ok.hf ok.Cu ok.hb ok.hn j he (hc.cell hw).1,hk,bW.refl hw⟩
theorem cXI{f:FuncId}{fn:Func}(ok:pV P f fn){j:IntKind}(he:Extern.find fn=some (Extern.Atomic.casT (.int j))){a:Addr}{h:ad}{x y:Int}(hc:vr h a (.int j x)){k:Value->ad->Prop}
 (hk:∀c e h',h a.block=some (.cells c e (0,0))->h'=bU h a.block (.cells (c.setIfInBounds a.off (.int j y)) e (0,0))->k (.bool true) h'):
 fW (fun _=>P) (fun _=>Iu f [.pointer (some a),.int j x,.int j y]) h k:=
 fW.ext fun w hw=>by
  obtain⟨h',h1,h2⟩:=hc.set (.int j y) (k:=k (.bool true)) hk hw;exact⟨_,_,h',run_call_cas_hit ok.hf ok.Cu ok.hb ok.hn j he (hc.cell hw).1 (hc.cell hw).2,h1,h2⟩
theorem Zq{f:FuncId}{fn:Func}(ok:pV P f fn)(he:Extern.find fn=some Extern.Atomic.storeT){a:Addr}{h:ad}{v:Value}{j:IntKind}{y:Int}(hc:vr h a v){k:Value->ad->Prop}
 (hk:∀c e h',h a.block=some (.cells c e (0,0))->h'=bU h a.block (.cells (c.setIfInBounds a.off (.int j y)) e (0,0))->k (.tuple #[]) h'):
 fW (fun _=>P) (fun _=>Iu f [.pointer (some a),.int j y]) h k:=
 fW.ext fun w hw=>by
  obtain⟨h',h1,h2⟩:=hc.set (.int j y) (k:=k (.tuple #[])) hk hw;exact⟨_,_,h',run_call_store ok.hf ok.Cu ok.hb ok.hn he (hc.cell hw).1 (hc.cell hw).2,h1,h2⟩
theorem WG{f:FuncId}{fn:Func}(ok:pV P f fn){j:IntKind}(he:Extern.find fn=some (Extern.Atomic.update (Op.intArith .add) j true)){a:Addr}{h:ad}{x y:Int}(hc:vr h a (.int j x)){k:Value->ad->Prop}
 (hk:∀c e h',h a.block=some (.cells c e (0,0))->h'=bU h a.block (.cells (c.setIfInBounds a.off (.int j (j.wrap (x+y)))) e (0,0))->k (.int j (j.wrap (x+y))) h'):
 fW (fun _=>P) (fun _=>Iu f [.pointer (some a),.int j y]) h k:=
 fW.ext fun w hw=>by
  obtain⟨h',h1,h2⟩:=hc.set (.int j (j.wrap (x+y))) (k:=k (.int j (j.wrap (x+y)))) hk hw;exact⟨_,_,h',run_call_add ok.hf ok.Cu ok.hb ok.hn j he (hc.cell hw).1 (hc.cell hw).2 (by simp[Op.intArith]),h1,h2⟩
theorem cXH{f:FuncId}{fn:Func}(ok:pV P f fn)(he:Extern.find fn=some Extern.BytealgCompare.compare){a b:ByteArray}{h:ad}{k:Value->ad->Prop}
 (hk:k (.int .i64 (Lib.compareBytes a.data.toList b.data.toList)) h):fW (fun _=>P) (fun _=>Iu f [.string a,.string b]) h k:=
 fW.ext fun w hw=>by
  refine⟨_,w,h,?_,hk,bW.refl hw⟩;rw[run_callFunc_extern ok.hf ok.Cu ok.hb ok.hn he];rw[show [Value.string a,Value.string b].toArray= #[.string a,.string b]from rfl,Lib.run_compareString];rfl
theorem Hc{src dst t:TypeId}(hs:P.underlying src=some (.pointer t))(hd:P.underlying dst=some .unsafePointer)(mX:(P.info? t).map (fun i=>decide (i.size=0))=some false)
 {a:Addr} {v:Value} {h:ad} (hc:vr h a v) {k:Value->ad->Prop} (hk:k (.pointer (some a)) h):fW (fun _=>P) (fun _=>Go.convert src dst (.pointer (some a))) h k:=
 ⟨fun w hw=>⟨_,w,h,run_convert_to_unsafe hs hd mX (hc.cell hw).1,hk,bW.refl hw⟩⟩
theorem aS.bKH{A:Ar}[hA:bM A]{z w:Int}{i j:Nat}(hz:aS z i)(hw:aS w j)(hi:i<2^61)(hj:j<2^61):
 aS (A .conv .i64 (A .bB .shr .u64 (A .conv .u64 (A .bB .add .i64 z w)) 1)) ((i+j) / 2):=by
 constructor;have h1:=hz.eq;have h2:=hw.eq;simp only[hA.conv,hA.bB,bB];rw[IntWalk.i64_in (z+w) (by omega)];have e1:IntKind.u64.wrap (z+w)=((i+j:Nat):Int):=by
  have:z+w=((i+j:Nat):Int):=by omega
  rw[this];simp only[IntKind.wrap,IntKind.bits];simp;omega
 rw[e1];have e2:(2:Int)^(min (1:Int).toNat IntKind.u64.bits)=2:=by decide
 rw[e2,nQc _ (by omega)];rw[IntWalk.i64_in _ (by omega)];omega
theorem aS.iJ{A:Ar}[hA:bM A]{z w:Int}{i j:Nat}(hz:aS z i)(hw:aS w j):A .aI .lss z w=decide (i<j):=by have h1:=hz.eq;have h2:=hw.eq;simp only[hA.aI,aI];rw[decide_eq_decide];omega
def uc(l:List Int)(i j:Nat):Nat:=
 if i<j then
  if l.getD ((i+j) / 2) 0<0 then uc l ((i+j) / 2+1) j else uc l i ((i+j) / 2)
 else i
 termination_by j-i
 decreasing_by all_goals omega
theorem Nt(l:List Int)(i j:Nat)(h:i<=j):uc l i j<=j/\i<=uc l i j:=by
 fun_induction uc l i j with
 |case1 i j h1 h2 ih=>have:=ih (by omega);omega
 |case2 i j h1 h2 ih=>have:=ih (by omega);omega
 |case3 i j h1=>omega
theorem Dn(l:List Int)(p:Nat)(aP:∀k,k<p->l.getD k 0<0)(i j:Nat)(lN:∀k,p<=k->k<j->¬l.getD k 0<0)(hi:i<=p)(hj:p<=j):uc l i j=p:=by
 fun_induction uc l i j with
 |case1 i j h1 h2 ih=>
  refine ih lN ?_ hj;rcases mQS ((i+j) / 2) p with h|h
  ·omega
  ·exact absurd h2 (lN _ h (by omega))
 |case2 i j h1 h2 ih=>
  refine ih (fun k h3 h4=>lN k h3 (by omega)) hi ?_;rcases mQS ((i+j) / 2) p with h|h
  ·exact absurd (aP _ h) h2
  ·omega
 |case3 i j h1=>omega
theorem aB{h:ad}{b o n e:Nat}{c cs:List Value}{fr:Nat×Nat}{k:List Value->Prop}(g:h b=some (.cells (List.toArray c) e fr))(hc:(c.drop o).take n=cs)(hn:cs.length=n)(hk:k cs):Bn h ⟨b,o,none⟩ n k:=by refine⟨cs,⟨rfl,hn,_,_,_,g,fun i hi=>?_⟩,hk⟩;rw[<-hc,mXa,if_pos hi,mXi];simp
theorem ja{h:ad}{b o e:Nat}{c cs:List Value}{k:ad->Prop}(g:h b=some (.cells (List.toArray c) e (0,0)))(hn:o+cs.length<=c.length)(hk:∀h',h'=bU h b (.cells (List.toArray (jS c o cs)) e (0,0))->k h'):Rn h ⟨b,o,none⟩ cs k:=
 ⟨_,_,_,rfl,g,by simpa using hn,by simp,fun h' e=>hk h' (by simpa using e)⟩
open Go.MapKept
variable {P:Program}
structure Mp(h:ad)(m:Nat)(d:TypeDesc)(l:List (Value×Value)):Prop where
 out:∃es clock,h m=some (.map es clock)/\es.toList.map (fun e=>(e.key,e.val))=l/\Stamped es clock/\∀x∈es.toList,IsKey d x.key
theorem Mp.new{h:ad}{m:Nat}{d:TypeDesc}(g:h m=some (.map #[] 0)):Mp h m d []:=⟨#[],0,g,rfl,stamped_empty 0,by simp⟩
theorem Mp.kp{h h':ad}{m:Nat}{d:TypeDesc}{l:List (Value×Value)}{bs:List Nat}(q:Mp h m d l)(hk:Kp bs h h')(hm:m∉bs):Mp h' m d l:=by obtain⟨es,clock,g,h1,h2,h3⟩:=q.out;exact⟨es,clock,hk _ _ g hm,h1,h2,h3⟩
theorem bR.HB{tys:List Nat}{h:ad}{n:Nat}{es:Array MapEntry}{clock:Nat}{o:Obj}(hn:h n=some (.map es clock)):bR tys h (bU h n o):=fun b d e' NQ hm hb=>by
 unfold bU;split
 ·rename_i q;rw[q,hn]at hb;cases hb
 ·exact hb
theorem bW.HB{h:ad}{w:World}(hw:Fo h w){n:Nat}{es:Array MapEntry}{clock:Nat}{o:Obj}(hn:h n=some (.map es clock)):bW h w (bU h n o) { w with heap:=w.heap.setIfInBounds n o }:=by have h1:=heap_set (o':=o) (hw _ _ hn);exact bW.set hw hn h1.1 h1.2 (by simp) ⟨rfl,rfl,rfl⟩
theorem vz{mt kt et:TypeId}{d:TypeDesc}(hm:P.underlying mt=some (.map kt et))(hd:P.underlying kt=some d){h:ad}{m:Nat}{l:List (Value×Value)}(q:Mp h m d l){key v:Value}(hk:IsKey d key)(qF:∀p∈l,p.1≠key)
 {k:Value->ad->Prop} (hK:∀h',Mp h' m d (l++[(key,v)])->Kp [m] h h'->(∀tys,bR tys h h')->k undef h'):
 fW (fun _=>P) (fun _=>do Instr.mapUpdate mt (.map (some m)) key v;pure undef) h k:=
 ⟨fun w hw=>by
  obtain⟨es,clock,g,h1,h2,h3⟩:=q.out;have hb:=hw _ _ g;have ch:∀x∈es.toList,x.key≠key:=fun x hx=>by
   have:(x.key,x.val)∈l:=by rw[<-h1];exact mQO.2 ⟨x,hx,rfl⟩
   exact qF _ this
  rcases findNow_spec hk es.toList 0 h3 with ⟨f1,_⟩ | ⟨j,e,f1,f2,f3⟩
  ·refine⟨undef,_,_,?_,hK _ ⟨es.push { key:=key,val:=v,born:=clock },clock+1,ae,?_,stamped_push h2 ch,?_⟩ (Kp.set (by simp)) (fun tys=>bR.HB g),bW.HB hw g⟩
   ·simp[Instr.mapUpdate,run_underlying hm,Go.MapKept.run_getObj_map hb,run_checkKey hd hk,run_findKey hd f1,Go.MapKept.run_setObj_map _ hb,Result.andThen]
   ·simp[h1]
   ·intro x hx;simp only[Array.toList_push,mQv,mQA]at hx;rcases hx with hx|rfl
    ·exact h3 x hx
    ·exact hk
  ·exact absurd f3 (ch e (GD f2))⟩
theorem xD{mt kt et:TypeId}{d:TypeDesc}(hm:P.underlying mt=some (.map kt et))(hd:P.underlying kt=some d){z:Value}(hz:∀w,(zeroValue et).run P w=.ok z w){h:ad}{m:Nat}{l:List (Value×Value)}(q:Mp h m d l){key:Value}(hk:IsKey d key)(qF:∀p∈l,p.1≠key)
 {k:Value->ad->Prop} (hK:k z h):fW (fun _=>P) (fun _=>Instr.lookup mt (.map (some m)) key false) h k:=
 ⟨fun w hw=>by
  obtain⟨es,clock,g,h1,h2,h3⟩:=q.out;have hb:=hw _ _ g;have ch:∀x∈es.toList,x.key≠key:=fun x hx=>by
   have:(x.key,x.val)∈l:=by rw[<-h1];exact mQO.2 ⟨x,hx,rfl⟩
   exact qF _ this
  rcases findNow_spec hk es.toList 0 h3 with ⟨f1,_⟩ | ⟨j,e,f1,f2,f3⟩
  ·refine⟨z,w,h,?_,hK,bW.refl hw⟩;simp[Instr.lookup,run_underlying hm,Go.MapKept.run_getObj_map hb,run_checkKey hd hk,run_findKey hd f1,hz,Result.andThen]
  ·exact absurd f3 (ch e (GD f2))⟩
theorem BN{mt kt et:TypeId}{d:TypeDesc}(hm:P.underlying mt=some (.map kt et))(hd:P.underlying kt=some d){h:ad}{m:Nat}{l:List (Value×Value)}(q:Mp h m d l){key v:Value}(hk:IsKey d key)(fZ:(key,v)∈l)
 {k:Value->ad->Prop} (hK:k v h):fW (fun _=>P) (fun _=>Instr.lookup mt (.map (some m)) key false) h k:=
 ⟨fun w hw=>by
  obtain⟨es,clock,g,h1,h2,h3⟩:=q.out;have hb:=hw _ _ g;rw[<-h1]at fZ;obtain⟨x,hx,he⟩:=mQO.1 fZ;cases he;rcases findNow_spec hk es.toList 0 h3 with ⟨f1,f2⟩ | ⟨j,e,f1,f2,f3⟩
  ·exact absurd rfl (f2 x hx)
  ·have bZw:e=x:=by
    have hp:=((stamped_iff es clock).1 h2).2.2;obtain⟨i,hi⟩:=mQZ hx;rcases mZu i j with aP|rfl|aP
    ·exfalso;have hj:=(HH.1 f2);have Cz:=(HH.1 hi);have:=mQN.1 hp i j Cz.1 hj.1 aP;rw[Cz.2,hj.2]at this;exact this f3.symm
    ·rw[f2]at hi;exact Option.some.inj hi
    ·exfalso;have hj:=(HH.1 f2);have Cz:=(HH.1 hi);have:=mQN.1 hp j i hj.1 Cz.1 aP;rw[Cz.2,hj.2]at this;exact this f3
   subst bZw;refine⟨_,w,h,?_,hK,bW.refl hw⟩;simp[Instr.lookup,run_underlying hm,Go.MapKept.run_getObj_map hb,run_checkKey hd hk,run_findKey hd f1,Result.andThen]⟩
theorem ZO{a b:ByteArray}(h:a.toList=b.toList):a=b:=by rw[Go.ByteArray.toList_eq,Go.ByteArray.toList_eq]at h;cases a;cases b;simp only at h;congr;exact Array.toList_inj.1 h
theorem cS(A:Ar)[hA:bM A](a b:ByteArray):A .iQ .eql a b=decide (a=b):=by
 rw[hA.iQ];simp only[iQ];by_cases h:a=b
 ·simp[h]
 ·rw[nM h];simp only[beq_eq_false_iff_ne,ne_eq];exact fun e=>h (ZO e)
theorem aA(A:Ar)[hA:bM A](a b:Int):A .aI .eql a b=decide (a=b):=by
 rw[hA.aI];simp only[aI];by_cases h:a=b
 ·simp[h]
 ·simp[h]
theorem aC(A:Ar)[hA:bM A](a b:Int):A .aI .neq a b=decide (a≠b):=by
 rw[hA.aI];simp only[aI];by_cases h:a=b
 ·simp[h]
 ·simp[h]
theorem bm(A:Ar)[hA:bM A](a b:Int):A .aI .lss a b=decide (a<b):=by rw[hA.aI];rfl
theorem cf(A:Ar)[hA:bM A](a b:Int):A .aI .geq a b=decide (a>=b):=by rw[hA.aI];rfl
theorem bO(A:Ar)[hA:bM A](a b:Int):A .aI .gtr a b=decide (a>b):=by rw[hA.aI];rfl
theorem vM(A:Ar)[hA:bM A](a b:Int):A .aI .leq a b=decide (a<=b):=by rw[hA.aI];rfl
structure vg{α:Type}(xs:List α)(p:α->Bool)(z:Int):Prop where
 out:(z=-1/\∀x∈xs,p x=false)\/∃i x,aS z i/\xs[i]? =some x/\p x=true/\∀j,j<i->∀y,xs[j]? =some y->p y=false
theorem SX(A:Ar)[hA:bM A]{key:Int}{n:Nat}(e1:A .aI .lss key 0=false)(e2:A .aI .geq key (A .nat n)=false):aS key key.toNat/\key.toNat<n:=by rw[bm A]at e1;rw[cf A,hA.nat]at e2;have g1:=mQI e1;have g2:=mQI e2;simp only[mQJ]at g2;exact⟨⟨by omega⟩,by omega⟩
theorem Sl.cC{α:Type}{A:Ar}[bM A]{e:Nat}{s:Sh α}{h:ad}{b:Option Addr}{len cap:Nat}{xs:List α}(q:Sl e s h (.slice b len cap) xs){i:Nat}{x:α}(hx:xs[i]? =some x){n:Int}(hn:n=(i:Int)){o m:Nat}(ho:o+m<=s.n)
 {k:List Value->Prop} (hk:∀cs,s.R h cs x->k ((cs.drop o).take m)):Bn h (A .off (A .mS b n s.n) o) m k:=by
 obtain⟨b',ju,h1,h2,h3,h4⟩:=q.out;cases h1;rcases h4 with rfl| ⟨oB,off,c,fr,rfl,g2,g3⟩
 ·simp at hx
 ·subst hn;have hr:=pI g2 g3 hx;have hR:=g3.2 i x hx;refine⟨_,?_,hk _ hR⟩;rw[bM.mS (A:=A),bM.off (A:=A)];simp only[mS,mXI,mXD,dF];obtain⟨-,hl,c',e',NQ,g',wG⟩:=hr;refine⟨rfl,by rw[mQw,mQX,hl];omega,c',e',NQ,g',fun j hj=>?_⟩;have:=wG (o+j) (by omega);simp only at this |-;rw[mXa,if_pos hj,mXi,<-this];congr 1;omega
theorem Rows.at{α:Type}{s:Sh α}{h:ad}{cs:List Value}{ys:List α}(r:Rows s h cs 0 ys){j:Nat}{y:α}(hj:ys[j]? =some y):s.R h ((cs.drop (j*s.n)).take s.n) y:=by have:=r.2 j y hj;simpa using this
theorem fX.write{α:Type}{e:Nat}{s:Sh α}{h:ad}{nb cap:Nat}{xs ys:List α}(o:fX e s h nb cap xs)(he:e∉s.tys){i:Nat}(hi:i<=xs.length)(hc:i+ys.length<=cap)(hb:i+ys.length<=2^40)
 {cs:List Value} (hl:cs.length=ys.length*s.n) (hr:Rows s h cs 0 ys) {k:ad->Prop}
 (hk:∀h',Kp [nb] h h'->(∀tys,e∉tys->bR tys h h')->fX e s h' nb cap (xs.take i++ys++xs.drop (i+ys.length))->k h'):Rn h ⟨nb,i*s.n,none⟩ cs k:=by
 obtain⟨c,h1,h2,h3⟩:=o.out;have hle:=o.le;have sM:=o.bd;have lY:i*s.n+cs.length<=c.length:=by rw[h3,hl,<-mXC];exact mXg _ hc
 refine⟨c.toArray,e,(0,0),rfl,h1,by simpa using lY,by simp,fun h' eh=>?_⟩;have ht:∀tys,e∉tys->bR tys h h':=fun tys ch=>by rw[eh];exact bR.set h1 ch
 have hm:=ht s.tys he;have hlen:(xs.take i++ys++xs.drop (i+ys.length)).length=max xs.length (i+ys.length):=by simp only[nX,mQw,mQX];omega
 refine hk h' (by rw[eh];exact Kp.set (by simp)) ht ⟨⟨jS c (i*s.n) cs,by rw[eh];simp[ae],⟨?_,fun j y hj=>?_⟩,by rw[fD,h3]⟩,by rw[hlen];omega,by rw[hlen];omega⟩
 ·rw[fD,h3,hlen];simp only[mQY];exact mXg _ (by omega)
 ·simp only[mQY];have e1:∀a b:Nat,a<b->a*s.n+s.n<=b*s.n:=fun a b Gn=>by rw[<-mXu];exact mXg _ Gn
  have aZL:∀y,xs[j]? =some y->(j<i\/i+ys.length<=j)->s.R h' (((jS c (i*s.n) cs).drop (j*s.n)).take s.n) y:=fun y hy hd=>by
   rw[vy lY]
   ·have:=h2.2 j y hy;simp only[mQY]at this;exact s.mono hm this
   ·rcases hd with hd|hd
    ·exact .inl (e1 j i hd)
    ·right;rw[hl,<-mXC];exact mXg _ hd
  rw[mXX]at hj;split at hj
  ·rename_i tX;rw[mXX]at hj;split at hj
   ·rename_i nT;simp only[mQw]at nT;rw[mXa,if_pos (by omega)]at hj;exact aZL y hj (.inl (by omega))
   ·rename_i nT;simp only[mQw,nX]at nT tX;rw[mQw,mZh hi]at hj;have hR:=hr.at hj;have eZB:j-i<ys.length:=(HH.1 hj).1;have:((jS c (i*s.n) cs).drop (j*s.n)).take s.n=(cs.drop ((j-i)*s.n)).take s.n:=by
     apply mXz;intro m;rw[mXa,mXa];split
     ·rename_i kX;have e2:=e1 (j-i) ys.length eZB;have e3:j*s.n=i*s.n+(j-i)*s.n:=by rw[<-mXC];congr 1;omega
      rw[mXi,mXi,rF cs c _ _ lY,if_pos (by omega)];congr 1;omega
     ·rfl
    rw[this];exact s.mono hm hR
  ·rename_i tX;simp only[nX,mQw,mZh hi]at tX hj;rw[mXi]at hj;have:i+ys.length+(j-(i+ys.length))=j:=by omega
   rw[this]at hj;exact aZL y hj (.inr (by omega))
theorem fX.shrink{α:Type}{e:Nat}{s:Sh α}{h:ad}{nb cap:Nat}{xs:List α}(o:fX e s h nb cap xs)(k:Nat):fX e s h nb cap (xs.take k):=by
 obtain⟨c,h1,h2,h3⟩:=o.out;have hle:=o.le;have sM:=o.bd;refine⟨⟨c,h1,⟨?_,fun i x hx=>?_⟩,h3⟩,by rw[mQw];omega,by rw[mQw];omega⟩
 ·have:=h2.1;refine mXW ?_ this;exact mKm (mXg _ (by rw[mQw];omega)) _
 ·rw[mXa]at hx;split at hx
  ·exact h2.2 i x hx
  ·cases hx
theorem fX.bKg{α:Type}{e:Nat}{s:Sh α}{h:ad}{nb cap:Nat}{xs:List α}(o:fX e s h nb cap xs)(he:e∉s.tys){p:Nat}{cs:List Value}(hp:xs.length*s.n<=p)(hc:p+cs.length<=cap*s.n){k:ad->Prop}
 (hk:∀h',Kp [nb] h h'->(∀tys,e∉tys->bR tys h h')->fX e s h' nb cap xs->k h'):Rn h ⟨nb,p,none⟩ cs k:=by
 obtain⟨c,h1,h2,h3⟩:=o.out;refine⟨c.toArray,e,(0,0),rfl,h1,by simp;omega,by simp,fun h' eh=>?_⟩;have ht:∀tys,e∉tys->bR tys h h':=fun tys ch=>by rw[eh];exact bR.set h1 ch
 refine hk h' (by rw[eh];exact Kp.set (by simp)) ht ⟨⟨jS c p cs,by rw[eh];simp[ae],⟨by rw[fD];exact h2.1,fun j y hj=>?_⟩,by rw[fD,h3]⟩,o.le,o.bd⟩;have tX:j<xs.length:=(HH.1 hj).1;have:j*s.n+s.n<=xs.length*s.n:=by rw[<-mXu];exact mXg _ tX
 simp only[mQY];rw[vy (by omega) (.inl (by omega))];have:=h2.2 j y hj;simp only[mQY]at this;exact s.mono (ht s.tys he) this
theorem CJ{α:Type}{e:Nat}{s:Sh α}{h:ad}{b:Option Addr}{len cap n:Nat}{xs ys:List α}(q:Sl e s h (.slice b len cap) xs)(hg:cap<len+n){size bytes:Nat}(mX:size=s.n)(rR:bytes<=128)(hn:len+n<=2^39)
 {new:List Value} (h1:oS new=true) (hl:new.length=n*s.n) (aQk:ys.length<=n) (hr:∀h',Le h h'->Rows s h' new 0 ys)
 {k:Value->ad->Prop} (hk:∀nb c h',h nb=none->Le h h'->len+n<=c->fX e s h' nb c (xs++ys)->k (.slice (some ⟨nb,0,none⟩) (len+n) c) h'):
 Jc h b len cap n size bytes e new k:=by
 subst mX;obtain⟨cs,c1,c2,c3,c4⟩:=q.rX;have hlen:=q.len;have lQx:(2:Nat)^39=549755813888:=rfl;have Im:(2:Nat)^40=1099511627776:=rfl;have bZV:(2:Nat)^48=281474976710656:=rfl;refine⟨h1,fun hf=>by omega,fun _=>⟨?_,by omega,cs,c1,fun nb c h' rest e1 e2 e3 e4=>?_⟩⟩
 ·have:2*(len+n)*bytes<=2*(len+n)*128:=mKp _ rR;omega
 ·have hle:Le h h':=by rw[e4];exact Le.set e1
  refine hk nb c h' e1 hle e2 ⟨⟨cs++new++rest,by rw[e4,ae],?_,?_⟩,by rw[nX];omega,by rw[nX];omega⟩
  ·have hx:=c4 h' (hle.t _) [] (new++rest);have hy:=hr h' hle;refine⟨?_,fun j y hj=>?_⟩
   ·simp only[nX,c2,hl,hlen,mQY];rw[<-mXC];have:(xs.length+ys.length)*s.n<=(xs.length+n)*s.n:=mXg _ (by omega);omega
   ·rw[mXX]at hj;split at hj
    ·have:=hx.2 j y hj;simpa using this
    ·rename_i lN;have hR:=hy.at hj;have eZB:j-xs.length<ys.length:=(HH.1 hj).1;simp only[mQY];have e5:((cs++new++rest).drop (j*s.n)).take s.n=(new.drop ((j-xs.length)*s.n)).take s.n:=by
      apply mXz;intro m;rw[mXa,mXa];split
      ·rename_i hm;have e6:(j-xs.length)*s.n+s.n<=n*s.n:=by rw[<-mXu];exact mXg _ (by omega)
       have e7:j*s.n=xs.length*s.n+(j-xs.length)*s.n:=by rw[<-mXC];congr 1;omega
       rw[mXi,mXi,mXd,mXM (by rw[c2,hlen];omega),mZz (by rw[c2,hl,hlen];omega)];congr 1;rw[c2,hlen];omega
      ·rfl
     rw[e5];exact hR
  ·simp only[nX,c2,hl,e3];rw[<-mXC,<-mXC];congr 1;omega
theorem gA{A:Ar}[hA:bM A]{z:Int}{i n:Nat}(hz:aS z i):A .su (A .nat n) z=n-i:=by have:=hz.eq;simp only[hA.su,hA.nat,mQJ];omega
theorem fh{A:Ar}[hA:bM A]{z:Int}{i:Nat}(hz:aS z i):A .su z 0=i:=by have:=hz.eq;simp only[hA.su];omega
theorem CZ{A:Ar}[hA:bM A]{z:Int}{i c sz nb:Nat}(hz:aS z i)(hi:i<c):A .cut (some ⟨nb,0,none⟩) z (A .nat c) sz=some ⟨nb,i*sz,none⟩:=by have:=hz.eq;simp only[hA.cut,hA.nat,mQJ];rw[if_neg (by omega)];simp[dF,this]
theorem Rows.drop{α:Type}{s:Sh α}{h:ad}{c:List Value}{off:Nat}{xs:List α}(r:Rows s h c off xs){i:Nat}(hi:i<=xs.length):Rows s h c (off+i*s.n) (xs.drop i):=by
 refine⟨?_,fun j x hj=>?_⟩
 ·have:=r.1;rw[mQX];have:i*s.n+(xs.length-i)*s.n=xs.length*s.n:=by rw[<-mXC];congr 1;omega
  omega
 ·rw[mXi]at hj;have:=r.2 _ x hj;rw[mXC]at this;rw[mZR];exact this
theorem Rows.take{α:Type}{s:Sh α}{h:ad}{c:List Value}{off:Nat}{xs:List α}(r:Rows s h c off xs)(i:Nat):Rows s h c off (xs.take i):=by
 refine⟨?_,fun j x hj=>?_⟩
 ·have:=r.1;refine mXW (mKm (mXg _ ?_) _) this;rw[mQw];omega
 ·rw[mXa]at hj;split at hj
  ·exact r.2 _ x hj
  ·cases hj
theorem Sl.uW{α:Type}{A:Ar}[hA:bM A]{e:Nat}{s:Sh α}{h:ad}{b:Option Addr}{n c:Nat}{xs:List α}(q:Sl e s h (.slice b n c) xs){z:Int}{i:Nat}(hz:aS z i)(hi:i<=n){m:Nat}(hm:m=n-i){c':Nat}(hc:c'=c-i):
 Sl e s h (.slice (A .cut b z (A .nat c) s.n) m c') (xs.drop i):=by
 obtain⟨b',cap,h1,h2,h3,h4⟩:=q.out;cases h1;subst hm hc;have cN:=hz.eq;refine⟨_,_,by rw[mQX],by rw[mQX];omega,by rw[mQX];omega,?_⟩;rcases h4 with rfl| ⟨oB,off,cc,fr,rfl,g2,g3⟩
 ·simp
 ·simp only[hA.cut,hA.nat,mQJ];by_cases Ij:(c:Int)=z
  ·left;have:i=xs.length:=by omega
   rw[this];simp
  ·right;rw[if_neg Ij];exact⟨oB,off+i*s.n,cc,fr,by simp[dF,cN],g2,g3.drop hi⟩
theorem Sl.Om{α:Type}{A:Ar}[hA:bM A]{e:Nat}{s:Sh α}{h:ad}{b:Option Addr}{n c:Nat}{xs:List α}(q:Sl e s h (.slice b n c) xs){i:Nat}(hi:i<=n):
 Sl e s h (.slice (A .cut b 0 (A .nat c) s.n) i c) (xs.take i):=by
 obtain⟨b',cap,h1,h2,h3,h4⟩:=q.out;cases h1;have hl:(xs.take i).length=i:=by rw[mQw];omega
 refine⟨_,_,by rw[hl],by rw[hl];omega,by rw[hl];omega,?_⟩;rcases h4 with rfl| ⟨oB,off,cc,fr,rfl,g2,g3⟩
 ·simp
 ·right;refine⟨oB,off,cc,fr,?_,g2,g3.take i⟩;simp only[hA.cut];split
  ·rfl
  ·simp[dF]
theorem Db{α:Type}{e:Nat}{s:Sh α}{h:ad}{nb cap:Nat}{xs ys:List α}(o:fX e s h nb cap xs)(he:e∉s.tys){i:Nat}(hi:i<=xs.length){x:Option Addr}{n cx len:Nat}(q:Sl e s h (.slice x n cx) ys)(hn:n<=len)(hc:i+n<=cap)(hb:i+n<=2^40){size:Nat}(mX:size=s.n)
 {k:Value->ad->Prop} (hk:∀h',Kp [nb] h h'->(∀tys,e∉tys->bR tys h h')->fX e s h' nb cap (xs.take i++ys++xs.drop (i+n))->k (.int .i64 ((min n len:Nat):Int)) h'):
 Ja h (some ⟨nb,i*s.n,none⟩) len x n size k:=by
 subst mX;obtain⟨cs,c1,c2,c3,c4⟩:=q.rX;have hlen:=q.len;have YS:min n len=n:=by omega
 refine⟨cs,by rw[YS];exact c1,c3,.inr ⟨_,rfl,?_⟩⟩;refine o.write (ys:=ys) he hi (by omega) (by omega) (by rw[c2,hlen]) ?_ (fun h' k1 k2 o'=>hk h' k1 k2 (by rw[hlen];exact o'));have:=c4 h (bR.refl _ _) [] [];simpa using this
theorem lz{α:Type}{e:Nat}{s:Sh α}{h:ad}{b x:Option Addr}{len cap n cx:Nat}{xs ys:List α}(q:Sl e s h (.slice b len cap) xs)(qv:Sl e s h (.slice x n cx) ys)(hg:cap<len+n){size bytes:Nat}(mX:size=s.n)(rR:bytes<=128)(hn:len+n<=2^39)
 {k:Value->ad->Prop} (hk:∀nb c h',h nb=none->Le h h'->len+n<=c->fX e s h' nb c (xs++ys)->k (.slice (some ⟨nb,0,none⟩) (len+n) c) h'):
 iU h b len cap x n size bytes e k:=by
 subst mX;obtain⟨cs,c1,c2,c3,c4⟩:=qv.rX;refine⟨cs,c1,CJ q hg rfl rR hn c3 c2 (by rw[qv.len];exact mQt _) (fun h' hl=>?_) hk⟩;have:=c4 h' (hl.t _) [] [];simpa using this
theorem aS.add{A:Ar}[hA:bM A]{z w:Int}{i j:Nat}(hz:aS z i)(hw:aS w j)(hi:i+j<2^62):aS (A .bB .add .i64 z w) (i+j):=by constructor;have h1:=hz.eq;have h2:=hw.eq;rw[hA.bB];simp only[bB];rw[IntWalk.i64_in _ (by omega)];omega
theorem aS.sub{A:Ar}[hA:bM A]{z w:Int}{i j:Nat}(hz:aS z i)(hw:aS w j)(hi:i<2^62)(hj:j<=i):aS (A .bB .sub .i64 z w) (i-j):=by constructor;have h1:=hz.eq;have h2:=hw.eq;rw[hA.bB];simp only[bB];rw[IntWalk.i64_in _ (by omega)];omega
theorem yy{w:Int}{m bytes:Nat}(hw:aS w m)(hm:m<=2^39)(hb:bytes<=128):0<=w/\w<=2^48/\w*(bytes:Int)<=2^48:=by
 have h1:=hw.eq;have bZV:(2:Int)^48=281474976710656:=rfl;have lQx:(2:Nat)^39=549755813888:=rfl;have h2:m*bytes<=549755813888*128:=mZN (by omega) hb;have h3:w*(bytes:Int)=((m*bytes:Nat):Int):=by rw[h1];simp
 rw[bZV,h3];omega
theorem pU{α:Type}{e:Nat}{s:Sh α}{h:ad}{b:Option Addr}{len cap n:Nat}{xs:List α}(q:Sl e s h (.slice b len cap) xs)(hg:cap<len+n){size bytes:Nat}(mX:size=s.n)(rR:bytes<=128)(hn:len+n<=2^39){z:List Value}(jV:oS z=true)(Fz:z.length=s.n)
 {k:Value->ad->Prop} (hk:∀nb c h',h nb=none->Le h h'->len+n<=c->fX e s h' nb c xs->k (.slice (some ⟨nb,0,none⟩) (len+n) c) h'):
 dQC h b len cap n size bytes e z k:=
 ⟨CJ q hg mX rR hn (AU jV n) (by rw[gG,Fz]) (ys:=[]) (by simp) (fun h' _=>Hk) (by simpa using hk)⟩
structure cF{α:Type}(e:Nat)(s:Sh α)(h0 h:ad)(v:Value)(xs:List α):Prop where
 out:(∃b,v=.slice b 0 0/\xs=[])\/∃nb cap,v=.slice (some ⟨nb,0,none⟩) xs.length cap/\h0 nb=none/\fX e s h nb cap xs
theorem cF.nil{α:Type}{e:Nat}{s:Sh α}{h0 h:ad}{b:Option Addr}:cF e s h0 h (.slice b 0 0) ([]:List α):=⟨.inl ⟨b,rfl,rfl⟩⟩
theorem cF.sl{α:Type}{e:Nat}{s:Sh α}{h0 h:ad}{v:Value}{xs:List α}(q:cF e s h0 h v xs):Sl e s h v xs:=by
 rcases q.out with ⟨b,rfl,rfl⟩ | ⟨nb,cap,rfl,-,o⟩
 ·exact Sl.nil
 ·exact o.sl rfl
theorem cF.mono{α:Type}{e:Nat}{s:Sh α}{h0 h h':ad}{v:Value}{xs:List α}(q:cF e s h0 h v xs)(hl:bR (e::s.tys) h h'):cF e s h0 h' v xs:=by
 rcases q.out with h1| ⟨nb,cap,h1,h2,o⟩
 ·exact⟨.inl h1⟩
 ·exact⟨.inr ⟨nb,cap,h1,h2,o.mono hl⟩⟩
theorem cF.base{α:Type}{e:Nat}{s:Sh α}{h0 h1 h:ad}{v:Value}{xs:List α}(q:cF e s h1 h v xs)(hl:Le h0 h1):cF e s h0 h v xs:=by
 rcases q.out with g| ⟨nb,cap,g1,g2,o⟩
 ·exact⟨.inl g⟩
 ·exact⟨.inr ⟨nb,cap,g1,hl.none g2,o⟩⟩
theorem fX.buf{α:Type}{e:Nat}{s:Sh α}{h0 h:ad}{nb cap n:Nat}{xs:List α}(o:fX e s h nb cap xs)(iZC:h0 nb=none)(hn:n=xs.length):cF e s h0 h (.slice (some ⟨nb,0,none⟩) n cap) xs:=by subst hn;exact⟨.inr ⟨nb,cap,rfl,iZC,o⟩⟩
theorem cF.own{α:Type}{e:Nat}{s:Sh α}{h0 h:ad}{b:Option Addr}{l c:Nat}{xs:List α}(q:cF e s h0 h (.slice b l c) xs)(hl:0<l):∃nb,b=some ⟨nb,0,none⟩/\h0 nb=none/\l=xs.length/\fX e s h nb c xs:=by
 rcases q.out with ⟨b,g1,rfl⟩ | ⟨nb,cap,g1,g2,o⟩
 ·cases g1;omega
 ·cases g1;exact⟨nb,rfl,g2,rfl,o⟩
theorem cF.append{α:Type}{e:Nat}{s:Sh α}{h0 h:ad}{b x:Option Addr}{len cap n cx:Nat}{xs ys:List α}(q:cF e s h0 h (.slice b len cap) xs)(qv:Sl e s h (.slice x n cx) ys)(he:e∉s.tys){size bytes:Nat}(mX:size=s.n)(rR:bytes<=128)(hn:len+n<=2^39)
 {k:Value->ad->Prop} (vN:Le h0 h) (hk:∀m b' c' h',m=len+n->Le h0 h'->(∀tys,e∉tys->bR tys h h')->(∀j o,h j=some o->(∀c fr,o≠.cells c e fr)->h' j=some o)->cF e s h0 h' (.slice b' m c') (xs++ys)->k (.slice b' m c') h'):
 iU h b len cap x n size bytes e k:=by
 subst mX;obtain⟨cs,c1,c2,c3,c4⟩:=qv.rX;have hlen:=q.sl.len;have TE:=qv.len;have grow:cap<len+n->Jc h b len cap n s.n bytes e cs k:=fun hg=>by
  refine CJ q.sl hg rfl rR hn c3 c2 (ys:=ys) (by rw[TE];exact mQt _) (fun h' hl=>?_) (fun nb c h' e1 e2 e3 o=>?_)
  ·have:=c4 h' (hl.t _) [] [];simpa using this
  ·exact hk _ _ _ h' rfl (vN.trans e2) (fun tys _=>e2.t tys) (fun j o hj _=>e2 j o hj) (o.buf (vN.none e1) (by rw[nX,hlen,TE]))
 refine⟨cs,c1,?_⟩;by_cases Ie:len+n<=cap
 ·refine⟨c3,fun _=>?_,fun hg=>by omega⟩;by_cases nf:n=0
  ·have ay:cs=[]:=mQT (by rw[c2,nf];simp);have aQk:ys=[]:=mQT (by omega);refine .inl ⟨ay,hk _ _ _ h rfl vN (fun _ _=>bR.refl _ _) (fun _ _ hj _=>hj) ?_⟩;rw[aQk,mQF,nf];exact q
  ·rcases q.out with ⟨b',g1,g2⟩ | ⟨nb,ju,g1,g2,o⟩
   ·cases g1;omega
   ·cases g1;refine .inr ⟨⟨nb,xs.length*s.n,none⟩,by simp[dF],?_⟩;have hr:Rows s h cs 0 ys:=by have:=c4 h (bR.refl _ _) [] [];simpa using this
    refine o.write (ys:=ys) he (i:=xs.length) (by omega) (by omega) (by omega) (by rw[c2,TE]) hr (fun h' k1 k2 o'=>?_);rw[mXy,mXl (by omega),mQF]at o';refine hk _ _ _ h' rfl (vN.dJ (by simpa using g2) k1) k2 (fun j oo hj ch=>?_) (o'.buf g2 (by rw[nX,TE]));refine k1 j oo hj ?_;intro hm;simp at hm;obtain⟨c,hc,-⟩:=o.out;rw[hm,hc]at hj;cases hj;exact ch _ _ rfl
 ·exact grow (by omega)
theorem bA{α:Type}{e:Nat}{s:Sh α}{h:ad}{n:Nat}{cs:List Value}{x:α}(hb:h n=some (.cells (List.toArray cs) e (0,0)))(r:s.R h cs x):Sl e s h (.slice (some ⟨n,0,none⟩) 1 1) [x]:=by
 have hlen:=s.len r;refine Sl.fresh (xs:=[x]) hb ⟨by simp[hlen],fun j y hj=>?_⟩ (by simp) (by simp);have Cy:j=0:=by have:=(HH.1 hj).1;simp at this;exact this
 subst Cy;simp at hj;subst hj;simp;rw[mQM (by omega)];exact r
theorem Da{A:Ar}[hA:bM A]{m:Int}{sz nb:Nat}:A .cut (some ⟨nb,0,none⟩) 0 m sz=some ⟨nb,0,none⟩:=by
 simp only[hA.cut];split
 ·rfl
 ·simp[dF]
theorem aS.nat{A:Ar}[hA:bM A](n:Nat):aS (A .nat n) n:=⟨by rw[hA.nat];rfl⟩
theorem aS.Ed{A:Ar}[hA:bM A]{z:Int}{i:Nat}(hz:aS z i):A .aI .lss z 0=false:=by have:=hz.eq;rw[bm A];exact nM (by omega)
theorem LC{α:Type}{e:Nat}{s:Sh α}{h:ad}{n:Nat}{c1 c2:Value}{x y:α}(hs:s.n=1)(hb:h n=some (.cells (List.toArray [c1,c2]) e (0,0)))(r1:s.R h [c1] x)(r2:s.R h [c2] y):Sl e s h (.slice (some ⟨n,0,none⟩) 2 2) [x,y]:=by
 refine Sl.fresh (xs:=[x,y]) hb ⟨by simp[hs],fun j z hj=>?_⟩ (by simp) (by simp)
 match j,hj with
 |0,hj=>simp at hj;subst hj;simpa[hs]using r1
 |1,hj=>simp at hj;subst hj;simpa[hs]using r2
 |j+2,hj=>simp at hj
theorem GC{α:Type}{e:Nat}{s:Sh α}{h:ad}{n:Nat}{c1 c2 c3:Value}{x y w:α}(hs:s.n=1)(hb:h n=some (.cells (List.toArray [c1,c2,c3]) e (0,0)))(r1:s.R h [c1] x)(r2:s.R h [c2] y)(r3:s.R h [c3] w):Sl e s h (.slice (some ⟨n,0,none⟩) 3 3) [x,y,w]:=by
 refine Sl.fresh (xs:=[x,y,w]) hb ⟨by simp[hs],fun j z hj=>?_⟩ (by simp) (by simp)
 match j,hj with
 |0,hj=>simp at hj;subst hj;simpa[hs]using r1
 |1,hj=>simp at hj;subst hj;simpa[hs]using r2
 |2,hj=>simp at hj;subst hj;simpa[hs]using r3
 |j+3,hj=>simp at hj
theorem lH{α:Type}{L:List (List α)}{i:Nat}{x:List α}(h:L[i]? =some x):(L.take (i+1)).flatten=(L.take i).flatten++x:=by rw[mXc,h];simp
theorem zC{α:Type}(L:List (List α))(i:Nat):(L.take i).flatten.length<=L.flatten.length:=by have:=congrArg List.length (congrArg List.flatten (mXj i L));rw[List.flatten_append,nX]at this;omega
def di(l:List Int):Nat:=uc l 0 l.length
def jG(l:List Int):Bool:=decide (di l<l.length/\l.getD (di l) 0=0)
theorem eXk(l:List Int):di l<=l.length:=(Nt l 0 l.length (mQr _)).1
theorem lr{l:List Int}(h:jG l=true):di l<l.length:=(mQB h).1
theorem Sl.sU{α:Type}{A:Ar}[hA:bM A]{e:Nat}{s:Sh α}{h:ad}{b:Option Addr}{n c:Nat}{xs:List α}(q:Sl e s h (.slice b n c) xs){z:Int}{i:Nat}(hi:i<=n){m c':Nat}(hm:m=i)(hc:c'=i):
 Sl e s h (.slice (A .cut b 0 z s.n) m c') (xs.take i):=by
 obtain⟨b',cap,h1,h2,h3,h4⟩:=q.out;cases h1;subst hm hc;have hl:(xs.take c').length=c':=by rw[mQw];omega
 refine⟨_,_,by rw[hl],by rw[hl];exact mQt _,by rw[hl];omega,?_⟩;rcases h4 with rfl| ⟨oB,off,cc,fr,rfl,g2,g3⟩
 ·simp
 ·right;refine⟨oB,off,cc,fr,?_,g2,g3.take _⟩;simp only[hA.cut];split
  ·rfl
  ·simp[dF]
theorem Sw.le{h h':ad}{a:Addr}{n:Nat}{cs:List Value}(q:Sw h a n cs)(l:Le h h'):Sw h' a n cs:=by obtain⟨h1,h2,c,e,fr,h3,h4⟩:=q;exact⟨h1,h2,c,e,fr,l _ _ h3,h4⟩
theorem Sl.Ch{α:Type}{A:Ar}[bM A]{e:Nat}{s:Sh α}{h:ad}{b:Option Addr}{len cap:Nat}{xs:List α}(q:Sl e s h (.slice b len cap) xs){i:Nat}{x:α}(hx:xs[i]? =some x){n:Int}(hn:n=(i:Int))
 {k:List Value->Prop} (hk:∀cs,s.R h cs x->(∀h' k',Le h h'->k' cs->Bn h' (A.mS b n s.n) s.n k')->k cs):Bn h (A.mS b n s.n) s.n k:=by
 obtain⟨b',ju,h1,h2,h3,h4⟩:=q.out;cases h1;rcases h4 with rfl| ⟨oB,off,c,fr,rfl,g2,g3⟩
 ·simp at hx
 ·subst hn;have hr:Sw h (A.mS (some ⟨oB,off,none⟩) (i:Int) s.n) s.n ((c.toList.drop (off+i*s.n)).take s.n):=by rw[A.yq];simp only[mS,mXI,mXD,dF];exact pI g2 g3 hx
  exact⟨_,hr,hk _ (g3.2 i x hx) (fun h' k' l wT=>⟨_,hr.le l,wT⟩)⟩
theorem XS{α:Type}{xs:List α}{i:Nat}(x:α)(hi:i<xs.length):xs.take i++[x]++xs.drop (i+1)=xs.set i x:=by rw[nQb,if_pos hi];simp
theorem fX.setAt{α:Type}{A:Ar}[bM A]{e:Nat}{s:Sh α}{h:ad}{nb cap:Nat}{xs:List α}(o:fX e s h nb cap xs)(he:e∉s.tys){i:Nat}(hi:i<xs.length){n:Int}(hn:n=(i:Int)){sz:Nat}(mX:sz=s.n)
 {cs:List Value} {x:α} (hx:s.R h cs x) {k:ad->Prop}
 (hk:∀h',Kp [nb] h h'->(∀tys,e∉tys->bR tys h h')->fX e s h' nb cap (xs.set i x)->k h'):Rn h (A.mS (some ⟨nb,0,none⟩) n sz) cs k:=by
 subst hn mX;have hlen:=s.len hx;have hle:=o.le;have sM:=o.bd;rw[A.yq];simp only[mS,mXI,mXD,dF,mQY];refine o.write (ys:=[x]) he (i:=i) (by omega) (by simp;omega) (by simp;omega) (by simp[hlen]) ⟨by simp[hlen],fun j y hj=>?_⟩ (fun h' k1 k2 o'=>hk h' k1 k2 ?_)
 ·have Cy:j=0:=by have:=(HH.1 hj).1;simp at this;exact this
  subst Cy;simp at hj;subst hj;simp;rw[mQM (by omega)];exact hx
 ·rw[<-XS x hi];exact o'
theorem fX.kp{α:Type}{e:Nat}{s:Sh α}{h h':ad}{nb cap:Nat}{xs:List α}(o:fX e s h nb cap xs){bs:List Nat}(k:Kp bs h h')(hn:nb∉bs)(ht:bR s.tys h h'):fX e s h' nb cap xs:=by obtain⟨c,h1,h2,h3⟩:=o.out;exact⟨⟨c,k _ _ h1 hn,h2.mono ht,h3⟩,o.le,o.bd⟩
theorem fX.has{α:Type}{e:Nat}{s:Sh α}{h:ad}{nb cap:Nat}{xs:List α}(o:fX e s h nb cap xs):h nb≠none:=by obtain⟨c,h1,-⟩:=o.out;rw[h1];simp
theorem cF.kp{α:Type}{e:Nat}{s:Sh α}{h0 h h':ad}{v:Value}{xs:List α}(q:cF e s h0 h v xs){bs:List Nat}(k:Kp bs h h')(hn:∀n∈bs,h0 n≠none)(ht:bR s.tys h h'):cF e s h0 h' v xs:=by
 rcases q.out with g| ⟨nb,cap,g1,g2,o⟩
 ·exact⟨.inl g⟩
 ·exact⟨.inr ⟨nb,cap,g1,g2,o.kp k (fun hm=>hn nb hm g2) ht⟩⟩
theorem Vy{α:Type}{e:Nat}{s:Sh α}{h:ad}{n:Nat}{cs:List Value}{x:α}(hb:h n=some (.cells (List.toArray cs) e (0,0)))(r:s.R h cs x):fX e s h n 1 [x]:=by
 have hlen:=s.len r;refine⟨⟨cs,hb,⟨by simp[hlen],fun j y hj=>?_⟩,by simp[hlen]⟩,by simp,by simp⟩;have Cy:j=0:=by have:=(HH.1 hj).1;simp at this;exact this
 subst Cy;simp at hj;subst hj;simp;rw[mQM (by omega)];exact r
theorem Vm{c cs new:List Value}{p off n:Nat}(hp:p+n<=c.length)(ay:cs=(c.drop p).take n)(hl:off+new.length<=n):jS c (p+off) new=jS c p (jS cs off new):=by
 have RL:cs.length=n:=by rw[ay,mQw,mQX];omega
 have wC:(jS cs off new).length=n:=by rw[fD,RL]
 apply mXz;intro j;rw[rF new c _ _ (by omega),rF (jS cs off new) c _ _ (by rw[wC];exact hp),wC];by_cases h1:p<=j/\j<p+n
 ·rw[if_pos h1,rF new cs _ _ (by rw[RL];exact hl)];by_cases h2:p+off<=j/\j<p+off+new.length
  ·rw[if_pos h2,if_pos (by omega)];congr 1;omega
  ·rw[if_neg h2,if_neg (by omega),ay,mXa,if_pos (by omega),mXi];congr 1;omega
 ·rw[if_neg h1,if_neg (by omega)]
theorem fX.LS{α:Type}{A:Ar}[hA:bM A]{e:Nat}{s:Sh α}{h:ad}{nb cap:Nat}{xs:List α}(o:fX e s h nb cap xs)(he:e∉s.tys){i:Nat}{x:α}(hi:xs[i]? =some x){n:Int}(hn:n=(i:Int)){sz:Nat}(mX:sz=s.n)
 {off:Nat} {new:List Value} (hl:off+new.length<=s.n) {x':α} (hx:∀cs,s.R h cs x->s.R h (jS cs off new) x') {k:ad->Prop}
 (hk:∀h',Kp [nb] h h'->(∀tys,e∉tys->bR tys h h')->fX e s h' nb cap (xs.set i x')->k h'):Rn h (A .off (A .mS (some ⟨nb,0,none⟩) n sz) off) new k:=by
 have ke:=(HH.1 hi).1;obtain⟨c,h1,h2,h3⟩:=o.out;have hR:=h2.2 i x hi;rw[mQY]at hR;have hle:=o.le;have lY:i*s.n+s.n<=c.length:=by rw[h3,<-mXu];exact mXg _ (by omega)
 have key:=(o.setAt (A:=A) he ke hn mX (hx _ hR) (k:=k) hk).out;subst hn mX;rw[A.yq]at key;rw[bM.off (A:=A),bM.mS (A:=A)];simp only[mS,mXI,mXD,dF,mQY]at key |-;obtain⟨c',e',NQ,g1,g2,g3,g4,g5⟩:=key;rw[h1]at g2;cases g2;refine⟨c.toArray,e,(0,0),rfl,h1,by simp;omega,by simp,fun h' eh=>g5 h' ?_⟩;rw[eh];simp only;rw[Vm (c:=c) (n:=s.n) lY rfl hl]
theorem Sl.vD{α:Type}{A:Ar}[bM A]{e:Nat}{s:Sh α}{h:ad}{b:Option Addr}{len cap:Nat}{xs:List α}(q:Sl e s h (.slice b len cap) xs){i:Nat}{x:α}(hx:xs[i]? =some x){n:Int}(hn:n=(i:Int)){o m:Nat}(ho:o+m<=s.n)
 {k:List Value->Prop} (hk:∀cs,s.R h cs x->(∀h' k',Le h h'->k' ((cs.drop o).take m)->Bn h' (A .off (A .mS b n s.n) o) m k')->k ((cs.drop o).take m)):Bn h (A .off (A .mS b n s.n) o) m k:=by
 obtain⟨b',ju,h1,h2,h3,h4⟩:=q.out;cases h1;rcases h4 with rfl| ⟨oB,off,c,fr,rfl,g2,g3⟩
 ·simp at hx
 ·subst hn;have hr:=pI g2 g3 hx;have hR:=g3.2 i x hx;have aKo:Sw h (A .off (A .mS (some ⟨oB,off,none⟩) (i:Int) s.n) o) m ((((c.toList.drop (off+i*s.n)).take s.n).drop o).take m):=by rw[bM.mS (A:=A),bM.off (A:=A)];simp only[mS,mXI,mXD,dF];obtain⟨-,hl,c',e',NQ,g',wG⟩:=hr;refine⟨rfl,by rw[mQw,mQX,hl];omega,c',e',NQ,g',fun j hj=>?_⟩;have:=wG (o+j) (by omega);simp only at this |-;rw[mXa,if_pos hj,mXi,<-this];congr 1;omega
  exact⟨_,aKo,hk _ hR (fun h' k' l wT=>⟨_,aKo.le l,wT⟩)⟩
open Go.ChangeMaps (setBlock)
variable {P:Program}
theorem Mp.aJD{h:ad}{m:Nat}{d:TypeDesc}{l:List (Value×Value)}(q:Mp h m d l):(l.map (·.1)).Nodup:=by obtain⟨es,clock,g,h1,h2,h3⟩:=q.out;rw[<-h1,mXB];exact h2.2.2
theorem bKc{mt kt et:TypeId}{d:TypeDesc}(hm:P.underlying mt=some (.map kt et))(hd:P.underlying kt=some d){h:ad}{m:Nat}{l:List (Value×Value)}(q:Mp h m d l){key v v0:Value}(hk:IsKey d key){i:Nat}(fZ:l[i]? =some (key,v0))
 {k:Value->ad->Prop} (hK:∀h',Mp h' m d (l.set i (key,v))->Kp [m] h h'->(∀tys,bR tys h h')->k undef h'):
 fW (fun _=>P) (fun _=>do Instr.mapUpdate mt (.map (some m)) key v;pure undef) h k:=
 ⟨fun w hw=>by
  obtain⟨es,clock,g,h1,h2,h3⟩:=q.out;have hb:=hw _ _ g;have hi:es.toList[i]?.map (fun e=>(e.key,e.val))=some (key,v0):=by rw[<-mQU,h1];exact fZ
  obtain⟨x,hx,bZw⟩:∃x,es.toList[i]? =some x/\(x.key,x.val)=(key,v0):=by
   cases hx:es.toList[i]? with
   |none=>rw[hx]at hi;cases hi
   |some x=>rw[hx]at hi;exact⟨x,rfl,Option.some.inj hi⟩
  have VX:x.key=key:=(Prod.mk.inj bZw).1;rcases findNow_spec hk es.toList 0 h3 with ⟨f1,f2⟩ | ⟨j,e,f1,f2,f3⟩
  ·exact absurd VX (f2 x (GD hx))
  ·have hp:=((stamped_iff es clock).1 h2).2.2;have nT:j=i:=by
    have hj:=HH.1 f2;have Cz:=HH.1 hx;rcases mZu i j with aP|heq|aP
    ·exfalso;have:=mQN.1 hp i j Cz.1 hj.1 aP;rw[Cz.2,hj.2]at this;exact this (VX.trans f3.symm)
    ·exact heq.symm
    ·exfalso;have:=mQN.1 hp j i hj.1 Cz.1 aP;rw[Cz.2,hj.2]at this;exact this (f3.trans VX.symm)
   subst nT;rw[hx]at f2;cases f2;have vi:es[j]? =some x:=by rw[<-mXZ];exact hx
   let f:MapEntry->MapEntry:=fun e=>{ e with key:=key,val:=v };have cKw:∀e,es[j]? =some e->(f e).key=e.key:=fun e he=>by
    rw[vi]at he;cases he;exact VX.symm
   refine⟨undef,_,_,?_,hK _ ⟨es.modify j f,clock,ae,?_,stamped_modify h2 j f (fun _ _=>rfl) (fun e _ he=>cKw e he),isKey_modify h3 j f cKw⟩ (Kp.set (by simp)) (fun tys=>bR.HB g),bW.HB hw g⟩
   ·have HS:(Instr.keyThatStays (((es[j]?).map (·.key)).getD key) key).run P w=.ok key w:=by rw[vi];simp only[Option.map_some,mXI,VX];exact run_keyThatStays hk
    simp[Instr.mapUpdate,run_underlying hm,Go.MapKept.run_getObj_map hb,run_checkKey hd hk,run_findKey hd f1,HS,Go.MapKept.run_setObj_map _ hb,Result.andThen,f]
   ·rw[<-h1];apply mXz;intro n;rw[mQU,mXZ,mJp,mXF,mQU,mXZ,mQz];by_cases hn:j=n
    ·subst hn;have aP:j<es.toList.length:=(HH.1 hx).1;rw[if_pos rfl,if_pos rfl,if_pos aP,vi];rfl
    ·rw[if_neg hn,if_neg hn]⟩
structure It(h:ad)(r m:Nat)(left:List (Value×Value))(last:Option (Value×Value)):Prop where
 out:∃es clock since seen c0,h m=some (.map es clock)/\h r=some (.mapIter (some m) since seen c0)/\(∀x∈es.toList,x.born<since)/\since<=c0/\since<=clock/\(es.toList.map (·.born)).Nodup/\
  left=(leftOf es seen).toList.map (fun e=>(e.key,e.val))/\∀p,last=some p->∃e∈es.toList,(e.key,e.val)=p/\∃aZd:Array Nat,seen=aZd.push e.born/\c0=clock
theorem It.kp{h h':ad}{r m:Nat}{left:List (Value×Value)}{last:Option (Value×Value)}(q:It h r m left last){bs:List Nat}(k:Kp bs h h')(hr:r∉bs)(hm:m∉bs):It h' r m left last:=by obtain⟨es,clock,since,seen,c0,g1,g2,g⟩:=q.out;exact⟨es,clock,since,seen,c0,k _ _ g1 hm,k _ _ g2 hr,g⟩
theorem XT{mt kt et:TypeId}{d:TypeDesc}(hm:P.underlying mt=some (.map kt et)){h:ad}{m:Nat}{l:List (Value×Value)}(q:Mp h m d l)
 {k:Value->ad->Prop} (hK:∀r h',h r=none->Le h h'->It h' r m l none->k (.pointer (some ⟨r,0,none⟩)) h'):
 fW (fun _=>P) (fun _=>Instr.range mt (.map (some m))) h k:=
 ⟨fun w hw=>by
  obtain⟨es,clock,g,h1,h2,h3⟩:=q.out;have hb:=hw _ _ g;have hn:h w.heap.size=none:=by
   cases he:h w.heap.size with
   |none=>rfl
   |some o=>have:=hw _ _ he;simp at this
  refine⟨_,_,_,run_range_map w mt kt et m es clock hm hb,hK w.heap.size (bU h w.heap.size (.mapIter (some m) clock #[] clock)) hn (Le.set hn) ?_,?_⟩
  ·have ch:m≠w.heap.size:=fun e=>by rw[<-e,g]at hn;cases hn
   refine⟨es,clock,clock,#[],clock,by rw[aO ch];exact g,ae,h2.1,mQt _,mQt _,h2.2.1,?_,fun p hp=>(by cases hp)⟩;rw[<-h1];simp[leftOf];rw[List.filter_eq_self.2 (fun _ _=>rfl)]
  ·exact bW.new hw _⟩
theorem xT{es:Array MapEntry}{seen:Array Nat}{e:MapEntry}:(leftOf es (seen.push e.born)).toList=(leftOf es seen).toList.filter (fun x=>x.born !=e.born):=by
 simp only[leftOf,mJj,mZM];refine List.filter_congr (fun x _=>?_);simp only[nQa,Array.mem_push,mKl];by_cases hx:x.born=e.born
 ·simp[hx]
 ·by_cases hs:x.born∈seen<;>simp[hx,hs]
theorem aXW{ty:TypeId}{h:ad}{r m:Nat}{left:List (Value×Value)}{last:Option (Value×Value)}(q:It h r m left last)
 {k:Value->ad->Prop} (h0:left=[]->k (.tuple #[.bool false]) h)
 (hK:∀key val tA h',(key,val)∈left->(∀p∈left,p=(key,val)\/p∈tA)->(∀p∈tA,p∈left)->tA.length<left.length->It h' r m tA (some (key,val))->Kp [r] h h'->(∀tys,bR tys h h')->k (.tuple #[.bool true,key,val]) h'):
 fW (fun _=>P) (fun _=>Instr.next (.pointer (some ⟨r,0,none⟩)) false ty) h k:=
 ⟨fun w hw=>by
  obtain⟨es,clock,since,seen,c0,g1,g2,g3,g4,aKm,g5,g6,g7⟩:=q.out;rcases run_next_at (P:=P) w ty r m since c0 seen es clock (hw _ _ g2) (hw _ _ g1) g3 g4 with ⟨f1,f2⟩ | ⟨e,f1,w1,f2,f3⟩
  ·refine⟨_,_,_,f2,h0 ?_,bW.refl hw⟩;rw[g6];have:(leftOf es seen).toList=[]:=by apply mQT;simpa using f1
   rw[this];rfl
  ·have fV:e∈es.toList:=by have:e∈(leftOf es seen).toList:=f1;simp only[leftOf,mJj,mXt]at this;exact this.1
   have ch:m≠r:=fun e=>by rw[e,g2]at g1;cases g1
   refine⟨_,_,bU h r (.mapIter (some m) since (seen.push e.born) clock),f3,hK e.key e.val ((leftOf es (seen.push e.born)).toList.map (fun e=>(e.key,e.val))) _ ?_ ?_ ?_ ?_ ?_ (Kp.set (by simp)) ?_,?_⟩
   ·rw[g6];exact mQO.2 ⟨e,f1,rfl⟩
   ·intro p hp;rw[g6]at hp;obtain⟨x,hx,rfl⟩:=mQO.1 hp;by_cases hb:x.born=e.born
    ·left;have MH:x∈es.toList:=by simp only[leftOf,mJj,mXt]at hx;exact hx.1
     obtain⟨a,ha⟩:=mQZ MH;obtain⟨b,oz⟩:=mQZ fV;have:a=b:=by
      obtain⟨Wr,cKG⟩:=HH.1 ha;obtain⟨lY,jq⟩:=HH.1 oz;have hp:=mQN.1 g5;rcases mZu a b with aP|heq|aP
      ·exfalso;have:=hp a b (by simpa using Wr) (by simpa using lY) aP;rw[mZg,mZg,cKG,jq]at this;exact this hb
      ·exact heq
      ·exfalso;have:=hp b a (by simpa using lY) (by simpa using Wr) aP;rw[mZg,mZg,cKG,jq]at this;exact this hb.symm
     subst this;rw[ha]at oz;cases oz;rfl
    ·right;refine mQO.2 ⟨x,?_,rfl⟩;rw[xT,mXt];exact⟨hx,by simpa using hb⟩
   ·intro p hp;obtain⟨x,hx,rfl⟩:=mQO.1 hp;rw[xT,mXt]at hx;rw[g6];exact mQO.2 ⟨x,hx.1,rfl⟩
   ·rw[g6,mQz,mQz,xT];refine Nat.lt_of_le_of_ne (mXH _ _) (fun he=>?_);have:=mKk.1 he e f1;simp at this
   ·exact⟨es,clock,since,seen.push e.born,clock,by rw[aO ch];exact g1,ae,g3,aKm,aKm,g5,rfl,fun p hp=>by cases hp;exact⟨e,fV,rfl,seen,rfl,rfl⟩⟩
   ·intro tys b c e' fr _ hb;rw[aO (fun e=>by rw[e,g2]at hb;cases hb)];exact hb
   ·have EU:w1.heap=w.heap/\w1.os=w.os/\w1.tape=w.tape/\w1.output=w.output:=by
     rcases f2 with rfl|rfl
     ·exact⟨rfl,rfl,rfl,rfl⟩
     ·exact⟨rfl,rfl,rfl,rfl⟩
    have hb:w1.heap[r]? =some (.mapIter (some m) since seen c0):=by rw[EU.1];exact hw _ _ g2
    have h1:=heap_set (o':=Obj.mapIter (some m) since (seen.push e.born) clock) hb;exact bW.set hw g2 h1.1 (fun b kKT=>by rw[<-EU.1];exact h1.2 b kKT) (by simp[setBlock,EU.1]) ⟨EU.2.1,EU.2.2.1,EU.2.2.2⟩⟩
theorem XX{h:ad}{r m:Nat}{left:List (Value×Value)}{p:Value×Value}(q:It h r m left (some p)){k:Value->ad->Prop}(hK:k (.tuple #[p.1,p.2]) h):
 fW (fun _=>P) (fun _=>Instr.entry (.pointer (some ⟨r,0,none⟩))) h k:=
 ⟨fun w hw=>by
  obtain⟨es,clock,since,seen,c0,g1,g2,g3,g4,aKm,g5,g6,g7⟩:=q.out;obtain⟨e,f1,f2,aZd,rfl,rfl⟩:=g7 p rfl;refine⟨_,w,h,run_entry_at w r m since aZd es c0 e (hw _ _ g2) (hw _ _ g1) f1 g5,?_,bW.refl hw⟩;rw[<-f2]at hK;exact hK⟩
structure lQ{α:Type}(e:Nat)(s:Sh α)(h0 h:ad)(v:Value)(xs:List α)(p:Nat):Prop where
 out:(∃b,v=.slice b 0 0/\xs=[])\/∃nb cap pre,v=.slice (some ⟨nb,pre.length*s.n,none⟩) xs.length (cap-pre.length)/\h0 nb=none/\fX e s h nb cap (pre++xs)/\(pre++xs).length<=p
theorem cF.t{α:Type}{e:Nat}{s:Sh α}{h0 h:ad}{v:Value}{xs:List α}(q:cF e s h0 h v xs){p:Nat}(hp:xs.length<=p):lQ e s h0 h v xs p:=by
 rcases q.out with g| ⟨nb,cap,g1,g2,o⟩
 ·exact⟨.inl g⟩
 ·exact⟨.inr ⟨nb,cap,[],by simpa using g1,g2,by simpa using o,by simpa using hp⟩⟩
theorem lQ.sl{α:Type}{e:Nat}{s:Sh α}{h0 h:ad}{v:Value}{xs:List α}{p:Nat}(q:lQ e s h0 h v xs p):Sl e s h v xs:=by
 rcases q.out with ⟨b,rfl,rfl⟩ | ⟨nb,cap,pre,rfl,-,o,-⟩
 ·exact Sl.nil
 ·have hle:=o.le;have sM:=o.bd;rw[nX]at hle sM;obtain⟨c,h1,h2,h3⟩:=o.out;have:=h2.drop (i:=pre.length) (by simp);rw[mKj,mQY]at this;exact⟨_,_,rfl,by omega,by omega,.inr ⟨nb,_,_,_,rfl,h1,this⟩⟩
theorem lQ.mono{α:Type}{e:Nat}{s:Sh α}{h0 h h':ad}{v:Value}{xs:List α}{p:Nat}(q:lQ e s h0 h v xs p)(hl:bR (e::s.tys) h h'):lQ e s h0 h' v xs p:=by
 rcases q.out with h1| ⟨nb,cap,pre,h1,h2,o,hp⟩
 ·exact⟨.inl h1⟩
 ·exact⟨.inr ⟨nb,cap,pre,h1,h2,o.mono hl,hp⟩⟩
theorem lQ.tail{α:Type}{A:Ar}[hA:bM A]{e:Nat}{s:Sh α}{h0 h:ad}{b:Option Addr}{len cap:Nat}{x:α}{r:List α}{p:Nat}(q:lQ e s h0 h (.slice b len cap) (x::r) p){z:Int}(hz:aS z 1){m c':Nat}(hm:m=len-1)(hc:c'=cap-1):
 lQ e s h0 h (.slice (A .cut b z (A .nat cap) s.n) m c') r p:=by
 have cN:=hz.eq;rcases q.out with ⟨b,h1,h2⟩ | ⟨nb,cp,pre,h1,h2,o,hp⟩
 ·cases h2
 ·cases h1;subst hm hc;have hle:=o.le;rw[nX,mQx]at hle;simp only[hA.cut,hA.nat,mQJ];refine⟨?_⟩;by_cases Ij:((cp-pre.length:Nat):Int)=z
  ·left;rw[if_pos Ij];have hr:r=[]:=mQT (by omega);refine⟨some ⟨nb,pre.length*s.n,none⟩,?_,hr⟩;rw[hr];simp only[mQx,mQK];rw[show cp-pre.length-1=0 by omega]
  ·right;rw[if_neg Ij];refine⟨nb,cp,pre++[x],?_,h2,by simpa using o,by simpa using hp⟩;simp[dF,cN,mXC];omega
theorem lQ.append{α:Type}{e:Nat}{s:Sh α}{h0 h:ad}{b x:Option Addr}{len cap n cx:Nat}{xs ys:List α}{p:Nat}(q:lQ e s h0 h (.slice b len cap) xs p)(qv:Sl e s h (.slice x n cx) ys)(he:e∉s.tys){size bytes:Nat}(mX:size=s.n)(rR:bytes<=128)(hn:len+n<=2^39)(Zc:p+n<=2^40)(cKm:len<=p)
 {k:Value->ad->Prop} (vN:Le h0 h) (hk:∀m b' c' h',m=len+n->Le h0 h'->(∀tys,e∉tys->bR tys h h')->lQ e s h0 h' (.slice b' m c') (xs++ys) (p+n)->(∀j o,h j=some o->(∀c fr,o≠.cells c e fr)->h' j=some o)->k (.slice b' m c') h'):
 iU h b len cap x n size bytes e k:=by
 subst mX;obtain⟨cs,c1,c2,c3,c4⟩:=qv.rX;have hlen:=q.sl.len;have TE:=qv.len;refine⟨cs,c1,?_⟩;by_cases Ie:len+n<=cap
 ·refine⟨c3,fun _=>?_,fun hg=>by omega⟩;by_cases nf:n=0
  ·have ay:cs=[]:=mQT (by rw[c2,nf];simp);have aQk:ys=[]:=mQT (by omega);refine .inl ⟨ay,hk _ _ _ h rfl vN (fun _ _=>bR.refl _ _) ?_ (fun _ _ hj _=>hj)⟩;rw[aQk,mQF,nf];exact q
  ·rcases q.out with ⟨b',g1,g2⟩ | ⟨nb,cp,pre,g1,g2,o,hp⟩
   ·cases g1;omega
   ·cases g1;have hle:=o.le;have sM:=hp;rw[nX]at hle sM;refine .inr ⟨⟨nb,(pre++xs).length*s.n,none⟩,by simp[dF,mXC],?_⟩;have hr:Rows s h cs 0 ys:=by have:=c4 h (bR.refl _ _) [] [];simpa using this
    refine o.write (ys:=ys) he (i:=(pre++xs).length) (mQt _) (by rw[nX];omega) (by rw[nX];omega) (by rw[c2,TE]) hr (fun h' k1 k2 o'=>?_);rw[mXy,mXl (by omega),mQF,mXd]at o';refine hk _ _ _ h' rfl (vN.dJ (by simpa using g2) k1) k2 ⟨.inr ⟨nb,cp,pre,by rw[nX,TE],g2,o',by simp;omega⟩⟩ (fun j oo hj ch=>?_);refine k1 j oo hj ?_;intro hm;simp at hm;obtain⟨c,hc,-⟩:=o.out;rw[hm,hc]at hj;cases hj;exact ch _ _ rfl
 ·refine CJ q.sl (by omega) rfl rR hn c3 c2 (ys:=ys) (by rw[TE];exact mQt _) (fun h' hl=>?_) (fun nb c h' e1 e2 e3 o=>?_)
  ·have:=c4 h' (hl.t _) [] [];simpa using this
  ·refine hk _ _ _ h' rfl (vN.trans e2) (fun tys _=>e2.t tys) ⟨.inr ⟨nb,c,[],by simp[hlen,TE],vN.none e1,by simpa using o,by simp;omega⟩⟩ (fun j oo hj _=>e2 j oo hj)
structure zW{α:Type}(s:Sh α)(h:ad)(v:Value)(xs:List α):Prop where
 out:∃b cap,v=.slice b xs.length cap/\xs.length<=2^50/\(xs=[]\/∃oB off c e fr,b=some ⟨oB,off,none⟩/\h oB=some (.cells c e fr)/\Rows s h c.toList off xs)
theorem zW.mono{α:Type}{s:Sh α}{h h':ad}{v:Value}{xs:List α}(hl:Le h h')(q:zW s h v xs):zW s h' v xs:=by
 obtain⟨b,cap,h1,h3,h4⟩:=q.out;refine⟨b,cap,h1,h3,?_⟩;rcases h4 with h4| ⟨oB,off,c,e,fr,g1,g2,g3⟩
 ·exact .inl h4
 ·exact .inr ⟨oB,off,c,e,fr,g1,hl _ _ g2,g3.mono (hl.t _)⟩
theorem zW.load{α:Type}{A:Ar}[bM A]{s:Sh α}{h:ad}{b:Option Addr}{len cap:Nat}{xs:List α}(q:zW s h (.slice b len cap) xs){i:Nat}{x:α}(hx:xs[i]? =some x){n:Int}(hn:n=(i:Int))
 {k:List Value->Prop} (hk:∀cs,s.R h cs x->k cs):Bn h (A.mS b n s.n) s.n k:=by
 obtain⟨b',ju,h1,h3,h4⟩:=q.out;cases h1;rcases h4 with rfl| ⟨oB,off,c,e,fr,rfl,g2,g3⟩
 ·simp at hx
 ·subst hn;refine⟨_,?_,hk _ (g3.2 i x hx)⟩;rw[A.yq];simp only[mS,mXI,mXD,dF];exact pI g2 g3 hx
theorem zW.len{α:Type}{s:Sh α}{h:ad}{b:Option Addr}{len cap:Nat}{xs:List α}(q:zW s h (.slice b len cap) xs):len=xs.length:=by obtain⟨b',ju,h1,-⟩:=q.out;cases h1;rfl
theorem zW.bound{α:Type}{s:Sh α}{h:ad}{b:Option Addr}{len cap:Nat}{xs:List α}(q:zW s h (.slice b len cap) xs):len<=2^50:=by obtain⟨b',ju,h1,h3,-⟩:=q.out;cases h1;exact h3
theorem zW.aT{α:Type}{s:Sh α}{h:ad}{b:Option Addr}{len cap:Nat}{xs:List α}(q:zW s h (.slice b len cap) xs)(hl:0<len):b.isSome=true:=by
 obtain⟨b',ju,h1,h3,h4⟩:=q.out;cases h1;rcases h4 with rfl| ⟨oB,off,c,e,fr,rfl,-⟩
 ·simp at hl
 ·rfl
theorem zW.form{α:Type}{s:Sh α}{h:ad}{v:Value}{xs:List α}(q:zW s h v xs):∃b l c,v=.slice b l c:=by obtain⟨b,cap,h1,-⟩:=q.out;exact⟨b,_,cap,h1⟩
theorem Sl.Ee{α:Type}{A:Ar}[bM A]{e:Nat}{s:Sh α}{h:ad}{b:Option Addr}{len cap:Nat}{xs:List α}(q:Sl e s h (.slice b len cap) xs){i:Nat}{x:α}(hx:xs[i]? =some x){n:Int}(hn:n=(i:Int)){o1 o2 m:Nat}(ho:o1+o2+m<=s.n)
 {k:List Value->Prop} (hk:∀cs,s.R h cs x->k ((cs.drop (o1+o2)).take m)):Bn h (A .off (A .off (A .mS b n s.n) o1) o2) m k:=by
 have:=(q.cC (A:=A) hx hn (o:=o1+o2) (m:=m) ho hk).out;obtain⟨b',ju,h1,h2,h3,h4⟩:=q.out;cases h1;rcases h4 with rfl| ⟨oB,off,c,fr,rfl,g2,g3⟩
 ·simp at hx
 ·obtain⟨cs,g4,g5⟩:=this;refine⟨cs,?_,g5⟩;rw[bM.mS (A:=A),bM.off (A:=A)]at g4 |-;simp only[mS,mXI,dF]at g4 |-;simpa[mZR]using g4
theorem fX.Re{α:Type}{e:Nat}{s:Sh α}{h:ad}{nb cap:Nat}{xs ys:List α}(o:fX e s h nb cap xs)(he:e∉s.tys){i:Nat}(hi:i<=xs.length){x:Option Addr}{n cx:Nat}(qv:Sl e s h (.slice x n cx) ys)(hc:i+n<=cap)(hb:i+n<=2^40)
 {size bytes:Nat} (mX:size=s.n) {k:Value->ad->Prop}
 (hk:∀h' m,m=i+n->Kp [nb] h h'->(∀tys,e∉tys->bR tys h h')->fX e s h' nb cap (xs.take i++ys++xs.drop (i+n))->k (.slice (some ⟨nb,0,none⟩) m cap) h'):
 iU h (some ⟨nb,0,none⟩) i cap x n size bytes e k:=by
 subst mX;obtain⟨cs,c1,c2,c3,c4⟩:=qv.rX;have TE:=qv.len;refine⟨cs,c1,c3,fun _=>?_,fun hg=>by omega⟩;by_cases nf:n=0
 ·have ay:cs=[]:=mQT (by rw[c2,nf];simp);have aQk:ys=[]:=mQT (by omega);refine .inl ⟨ay,hk h _ rfl (Kp.refl _ _) (fun _ _=>bR.refl _ _) ?_⟩;rw[aQk,mQF,nf,mZT,mXj];exact o
 ·refine .inr ⟨⟨nb,i*s.n,none⟩,by simp[dF],?_⟩;have hr:Rows s h cs 0 ys:=by have:=c4 h (bR.refl _ _) [] [];simpa using this
  refine o.write (ys:=ys) he (i:=i) hi (by omega) (by omega) (by rw[c2,TE]) hr (fun h' k1 k2 o'=>?_);rw[<-TE]at o';exact hk h' _ rfl k1 k2 o'
theorem fX.eQY{α:Type}{e:Nat}{s:Sh α}{h:ad}{nb cap:Nat}{xs:List α}(o:fX e s h nb cap xs)(he:e∉s.tys){p n:Nat}{z:List Value}(h1:oS z=true)(hz:z.length=s.n)(hp:xs.length<=p)(hc:p+n<=cap){k:ad->Prop}
 (hk:∀h',Kp [nb] h h'->(∀tys,e∉tys->bR tys h h')->fX e s h' nb cap xs->k h'):Bo h (some ⟨nb,p*s.n,none⟩) n z k:=by
 refine⟨h1,.inr ⟨_,rfl,?_⟩⟩;refine o.bKg he (mXg _ hp) ?_ hk;rw[gG,hz,<-mXC];exact mXg _ hc
theorem erase_eq{α:Type}{xs:List α}{i:Nat}(hi:i<xs.length):(xs.take i++xs.drop (i+1)++xs.drop (i+(xs.length-(i+1)))).take (xs.length-1)=xs.eraseIdx i:=by rw[mKZ (by simp;omega),mZL,mQM (by simp;omega)]
theorem cXK{A:Ar}[hA:bM A]{nb i sz off:Nat}{n:Int}(hn:n=(i:Int)):A .off (A .mS (some ⟨nb,0,none⟩) n sz) off=⟨nb,i*sz+off,none⟩:=by subst hn;rw[hA.mS,hA.off];simp only[mS,mXI,mXD,dF,mQY]
theorem fX.eJT{α β:Type}{A:Ar}[hA:bM A]{e:Nat}{s1:Sh α}{s2:Sh β}(Wc:s1.n=s2.n)(f:α->β){h h6:ad}{nb cap:Nat}{xs:List α}(o:fX e s1 h nb cap xs)(lQw:h6 nb=h nb){i:Nat}{x:α}(hi:xs[i]? =some x){n:Int}(hn:n=(i:Int)){sz:Nat}(mX:sz=s1.n)
 {off:Nat} {new:List Value} (hl:off+new.length<=s1.n) {x':β} (hx:∀h7 cs,Kp [nb] h6 h7->(∀tys,e∉tys->bR tys h6 h7)->s1.R h cs x->s2.R h7 (jS cs off new) x')
 (ig:∀h7 cs j y,Kp [nb] h6 h7->(∀tys,e∉tys->bR tys h6 h7)->j≠i->xs[j]? =some y->s1.R h cs y->s2.R h7 cs (f y)) {k:ad->Prop}
 (hk:∀h7,Kp [nb] h6 h7->(∀tys,e∉tys->bR tys h6 h7)->fX e s2 h7 nb cap ((xs.map f).set i x')->k h7):Rn h6 (A .off (A .mS (some ⟨nb,0,none⟩) n sz) off) new k:=by
 have ke:=(HH.1 hi).1;obtain⟨c,h1,h2,h3⟩:=o.out;have hR:=h2.2 i x hi;rw[mQY]at hR;have hle:=o.le;have lY:i*s1.n+s1.n<=c.length:=by rw[h3,<-mXu];exact mXg _ (by omega)
 have g6:=lQw.trans h1;rw[cXK (A:=A) hn];subst mX;refine⟨c.toArray,e,(0,0),rfl,g6,by simp;omega,by simp,fun h7 eh=>?_⟩;simp only at eh;have Cx:Kp [nb] h6 h7:=by rw[eh];exact Kp.set (by simp)
 have aP:∀tys,e∉tys->bR tys h6 h7:=fun tys he=>by rw[eh];exact bR.set g6 he
 refine hk h7 Cx aP ⟨⟨jS c (i*s1.n+off) new,by rw[eh];simp[ae],⟨?_,fun j y hj=>?_⟩,?_⟩,by simp;exact hle,by simp;exact o.bd⟩
 ·rw[fD,h3,<-Wc];simp only[mQY,mXo,mQz];exact mXg _ hle
 ·simp only[mQY];rw[<-Wc];have fZ:jS c (i*s1.n+off) new=jS c (i*s1.n) (jS ((c.drop (i*s1.n)).take s1.n) off new):=Vm lY rfl hl;have RL:((c.drop (i*s1.n)).take s1.n).length=s1.n:=by rw[mQw,mQX];omega
  rw[mXF]at hj;split at hj
  ·rename_i e1;subst e1;split at hj
   ·cases hj;rw[fZ,Ha (by rw[fD,RL];exact lY) (by rw[fD,RL])];exact hx h7 _ Cx aP hR
   ·cases hj
  ·rename_i e1;rw[mQU]at hj;cases hy:xs[j]? with
   |none=>rw[hy]at hj;cases hj
   |some z=>
    rw[hy]at hj;simp at hj;subst hj;have tX:=(HH.1 hy).1;rw[fZ,vy (by rw[fD,RL];exact lY)]
    ·have:=h2.2 j z hy;rw[mQY]at this;exact ig h7 _ j z Cx aP (fun e=>e1 e.symm) hy this
    ·rw[fD,RL];rcases mQS j i with aP|lN
     ·left;rw[<-mXu];exact mXg _ aP
     ·right;rw[<-mXu];exact mXg _ (by omega)
 ·rw[fD,h3,Wc]
def eF(h:ad)(n:Nat):ad:=fun b=>if b=n then none else h b
theorem fY(h:ad)(n:Nat):Le (eF h n) h:=fun b o hb=>by
 unfold eF at hb;split at hb
 ·cases hb
 ·exact hb
theorem dP(h:ad)(n:Nat):eF h n n=none:=by unfold eF;rw[if_pos rfl]
theorem cY{h:ad}{n b:Nat}(hb:b≠n):eF h n b=h b:=by unfold eF;rw[if_neg hb]
theorem cF.Dr{α:Type}{e:Nat}{s:Sh α}{h0 h:ad}{b x:Option Addr}{len cap n cx:Nat}{xs ys:List α}(q:cF e s h0 h (.slice b len cap) xs)(qv:Sl e s h (.slice x n cx) ys)(he:e∉s.tys){size bytes:Nat}(mX:size=s.n)(rR:bytes<=128)(hn:len+n<=2^39)
 {k:Value->ad->Prop} (vN:Le h0 h) (hk:∀m b' c' h',m=len+n->Le h0 h'->(∀j o,h j=some o->b≠some ⟨j,0,none⟩->h' j=some o)->cF e s h0 h' (.slice b' m c') (xs++ys)->(∀j,b'=some ⟨j,0,none⟩->b=some ⟨j,0,none⟩\/h j=none\/m=0)->k (.slice b' m c') h'):
 iU h b len cap x n size bytes e k:=by
 rcases q.out with ⟨b0,g1,g2⟩ | ⟨nb,ju,g1,g2,o⟩
 ·cases g1;have q1:cF e s h h (.slice b 0 0) xs:=⟨.inl ⟨b,rfl,g2⟩⟩;refine q1.append qv he mX rR hn (Le.refl _) (fun m b' c' h' em l t kk hb=>?_);refine hk m b' c' h' em (vN.trans l) (fun j o hj _=>l j o hj) (hb.base vN) (fun j hj=>?_);rcases hb.out with ⟨b2,g3,g4⟩ | ⟨Dz,Nr,g3,g4,o2⟩
  ·right;right;cases g3;rfl
  ·cases g3;cases hj;right;left;exact g4
 ·cases g1;have q1:cF e s (eF h nb) h (.slice (some ⟨nb,0,none⟩) xs.length cap) xs:=⟨.inr ⟨nb,cap,rfl,dP h nb,o⟩⟩;refine q1.append qv he mX rR hn (fY h nb) (fun m b' c' h' em l t kk hb=>?_);have Fw:∀j o,h j=some o->j≠nb->h' j=some o:=fun j o hj ch=>l j o (by rw[cY ch];exact hj);have l0:Le h0 h':=fun j o hj=>by
   have ch:j≠nb:=fun e=>by rw[e,g2]at hj;cases hj
   exact Fw j o (vN j o hj) ch
  refine hk m b' c' h' em l0 (fun j o hj ch=>Fw j o hj (fun e=>ch (by rw[e]))) ?_ (fun j hj=>?_)
  ·rcases hb.out with ⟨b2,g3,g4⟩ | ⟨Dz,Nr,g3,g4,o2⟩
   ·exact⟨.inl ⟨b2,g3,g4⟩⟩
   ·refine⟨.inr ⟨Dz,Nr,g3,?_,o2⟩⟩;by_cases ch:Dz=nb
    ·rw[ch];exact g2
    ·rw[cY ch]at g4;exact vN.none g4
  ·rcases hb.out with ⟨b2,g3,g4⟩ | ⟨Dz,Nr,g3,g4,o2⟩
   ·right;right;cases g3;rfl
   ·cases g3;cases hj;by_cases ch:j=nb
    ·left;rw[ch]
    ·right;left;rw[cY ch]at g4;exact g4
variable {P:Program}
theorem Sp{t:TypeId}(ht:P.underlying t=some .string){h:ad}{s:ByteArray}{k:Value->ad->Prop}
 (hK:∀r h',h r=none->h'=bU h r (.stringIter s 0)->k (.pointer (some ⟨r,0,none⟩)) h'):
 fW (fun _=>P) (fun _=>Instr.range t (.string s)) h k:=
 ⟨fun w hw=>by
  have hn:h w.heap.size=none:=by
   cases he:h w.heap.size with
   |none=>rfl
   |some o=>have:=hw _ _ he;simp at this
  exact⟨_,_,_,run_range_string w t s ht,hK w.heap.size _ hn rfl,bW.new hw _⟩⟩
theorem Wz{s:ByteArray}{pos:Nat}(h:pos<s.size):(s[pos]'h).toNat=(s.data.getD pos 0).toNat:=by
 have h':pos<s.data.size:=h;have e:s.data.getD pos 0=s[pos]'h:=by simp only[Array.getD];rw[dif_pos h'];rfl
 rw[e]
theorem XV{ty:TypeId}{h:ad}{r pos:Nat}{s:ByteArray}(g:h r=some (.stringIter s pos))(ha:∀i,i<s.size->(s.data.getD i 0).toNat<128)
 {k:Value->ad->Prop} (h0:s.size<=pos->k (.tuple #[.bool false]) h)
 (hK:∀h',pos<s.size->h'=bU h r (.stringIter s (pos+1))->k (.tuple #[.bool true,.int .i64 pos,.int .i32 (s.data.getD pos 0).toNat]) h'):
 fW (fun _=>P) (fun _=>Instr.next (.pointer (some ⟨r,0,none⟩)) true ty) h k:=
 ⟨fun w hw=>by
  have hb:=hw _ _ g;have aP:r<w.heap.size:=by
   rcases mQS r w.heap.size with h1|h1
   ·exact h1
   ·rw[nQi h1]at hb;cases hb
  by_cases hp:pos<s.size
  ·have hd:=decode_ascii s pos hp (by rw[Wz hp];exact ha pos hp);have h1:=heap_set (o':=Obj.stringIter s (pos+1)) hb;refine⟨_,{ w with heap:=w.heap.setIfInBounds r (.stringIter s (pos+1)) },bU h r (.stringIter s (pos+1)),?_,hK _ hp rfl,bW.set hw g h1.1 h1.2 (by simp) ⟨rfl,rfl,rfl⟩⟩;rw[Wz hp]at hd;simp[Instr.next,getObj,setObj,mQL,Sem.run,hb,Result.andThen,hp,hd,goInt]
  ·refine⟨_,w,h,?_,h0 (by omega),bW.refl hw⟩;simp[Instr.next,getObj,Sem.run,hb,hp]⟩
variable {P:Program}
theorem XW{mt kt et:TypeId}{d:TypeDesc}(hm:P.underlying mt=some (.map kt et))(hd:P.underlying kt=some d){z:Value}(hz:∀w,(zeroValue et).run P w=.ok z w){h:ad}{m:Nat}{l:List (Value×Value)}(q:Mp h m d l){key:Value}(hk:IsKey d key)(qF:∀p∈l,p.1≠key)
 {k:Value->ad->Prop} (hK:k (.tuple #[z,.bool false]) h):fW (fun _=>P) (fun _=>Instr.lookup mt (.map (some m)) key true) h k:=
 ⟨fun w hw=>by
  obtain⟨es,clock,g,h1,h2,h3⟩:=q.out;have hb:=hw _ _ g;have ch:∀x∈es.toList,x.key≠key:=fun x hx=>by
   have:(x.key,x.val)∈l:=by rw[<-h1];exact mQO.2 ⟨x,hx,rfl⟩
   exact qF _ this
  rcases findNow_spec hk es.toList 0 h3 with ⟨f1,_⟩ | ⟨j,e,f1,f2,f3⟩
  ·refine⟨.tuple #[z,.bool false],w,h,?_,hK,bW.refl hw⟩;simp[Instr.lookup,run_underlying hm,Go.MapKept.run_getObj_map hb,run_checkKey hd hk,run_findKey hd f1,hz,Result.andThen]
  ·exact absurd f3 (ch e (GD f2))⟩
theorem BM{mt kt et:TypeId}{d:TypeDesc}(hm:P.underlying mt=some (.map kt et))(hd:P.underlying kt=some d){h:ad}{m:Nat}{l:List (Value×Value)}(q:Mp h m d l){key v:Value}(hk:IsKey d key)(fZ:(key,v)∈l)
 {k:Value->ad->Prop} (hK:k (.tuple #[v,.bool true]) h):fW (fun _=>P) (fun _=>Instr.lookup mt (.map (some m)) key true) h k:=
 ⟨fun w hw=>by
  obtain⟨es,clock,g,h1,h2,h3⟩:=q.out;have hb:=hw _ _ g;rw[<-h1]at fZ;obtain⟨x,hx,he⟩:=mQO.1 fZ;cases he;rcases findNow_spec hk es.toList 0 h3 with ⟨f1,f2⟩ | ⟨j,e,f1,f2,f3⟩
  ·exact absurd rfl (f2 x hx)
  ·have bZw:e=x:=by
    have hp:=((stamped_iff es clock).1 h2).2.2;obtain⟨i,hi⟩:=mQZ hx;rcases mZu i j with aP|rfl|aP
    ·exfalso;have hj:=(HH.1 f2);have Cz:=(HH.1 hi);have:=mQN.1 hp i j Cz.1 hj.1 aP;rw[Cz.2,hj.2]at this;exact this f3.symm
    ·rw[f2]at hi;exact Option.some.inj hi
    ·exfalso;have hj:=(HH.1 f2);have Cz:=(HH.1 hi);have:=mQN.1 hp j i hj.1 Cz.1 aP;rw[Cz.2,hj.2]at this;exact this f3
   subst bZw;refine⟨_,w,h,?_,hK,bW.refl hw⟩;simp[Instr.lookup,run_underlying hm,Go.MapKept.run_getObj_map hb,run_checkKey hd hk,run_findKey hd f1,Result.andThen]⟩
end Go.Sx
