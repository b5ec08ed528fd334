import Derived.Test.YtekoaiendgjkdaaGreatQA
import Derived.Test.YtekoaiendgjkdaaGreatVB
import Derived.Test.YtekoaiendgjkdaaGreatEB
import Derived.Test.YtekoaiendgjkdaaGreatGB
import Derived.Test.YtekoaiendgjkdaaGreatGC
set_option linter.unusedVariables false
set_option linter.unusedSimpArgs false
set_option linter.unusedSectionVars false
set_option maxRecDepth 100000
set_option maxHeartbeats 8000000
namespace Go.S
open Go.Sx Go.Proofs
theorem bZ{α:Type}{A:Ar}[bM A]{e e1:Nat}{s:Sh α}{h:ad}{b:Option Addr}{len cap:Nat}{xs:List (List α)}(q:Sl e (mW e1 s) h (.slice b len cap) xs){i:Nat}{x:List α}(hx:xs[i]? =some x){n:Int}(hn:n=(i:Int)){k:List Value->Prop}
 (hk:∀b1 n1 c1,Sl e1 s h (.slice b1 n1 c1) x->k [.slice b1 n1 c1]):Bn h (A .mS b n 1) 1 k:=by
 refine q.load hx hn (fun cs ay=>?_);obtain⟨v,rfl,hv⟩:=ay;obtain⟨b1,c1,rfl,-⟩:=hv.out;exact hk _ _ _ hv
theorem yQ{A:Ar}[bM A]{h:ad}{b:Option Addr}{len cap:Nat}{xs:List dO}(q:Sl 276 eI h (.slice b len cap) xs){i:Nat}{x:dO}(hx:xs[i]? =some x){n:Int}(hn:n=(i:Int)){k:List Value->Prop}
 (hk:∀b1 n1 c1,Sl 325 fx h (.slice b1 n1 c1) x.e->k [.int .i64 x.fn,.slice b1 n1 c1]):Bn h (A .mS b n 2) 2 k:=by
 refine q.load hx hn (fun cs ay=>?_);obtain⟨b1,n1,c1,rfl,hv⟩:=ay;exact hk _ _ _ hv
theorem Zn{xs:List (Row)}{p0 p1 p2:Value}{h:ad}{b:Option Addr}{n c:Nat}(hn:n=xs.length)(I:Nat->ad->Prop)(h0:I 0 h)(hq:∀i h',I i h'->Sl 59 aD h' (.slice b n c) xs){k:Value->ad->Prop}
 (step:∀i x h' b1 n1 c1,i<n->xs[i]? =some x->I i h'->Sl 61 bq h' (.slice b1 n1 c1) x->Ct 188 [.slice b1 n1 c1,p0,p1,p2] h' (fun r kY=>∃e,r=.int .i64 e/\(e=0->I (i+1) kY)/\(e≠0->k (.int .i64 e) kY)))
 (fin:∀h',I n h'->k (.int .i64 0) h'):
 Ct 92 [.slice b n c,.func (.func 188) #[] #[p0,p1,p2]] h k:=by
 obtain⟨A,hA⟩:=Ar.ex;have FM:=(hq 0 h h0).bound;obtain⟨J,dY⟩:∃J:Nat->Int->ad->Prop,∀m z h',J m z h'=∃i,aS z i/\i<=n/\m=n-i/\I i h':=⟨_,fun _ _ _=>rfl⟩;have hJ:J n 0 h:=by rw[dY];exact⟨0,⟨rfl⟩,mQr _,rfl,h0⟩
 refine ah A (ax aQF.aK aQF.bF) Tryz.func92 rfl (by kernel_rfl) ?_;cbv;refine aX.go (G:=Int) (fun z=>[(10,.v (.int .i64 z))]) (fun _=>[]) (fun m z h'=>J m z h') n 0 ⟨?_,?_,?_⟩ hJ ?_
 ·cbv
 ·cbv
 ·cbv
 ·intro m z h1 hI;rw[dY]at hI;cbv;obtain⟨i,hz,hi,hm,hI⟩:=hI;have f1:A .aI .lss z (A .nat n)=decide (i<n):=hz.iJ (aS.nat n);rw[f1];by_cases aP:i<n
  ·obtain⟨x,hx⟩:=aE (xs:=xs) (i:=i) (by omega);have qs:=hq i h1 hI;have cJ:b.isSome=true/\0<=z/\z<(n:Int):=⟨qs.aT (by omega),hz.ix aP⟩;have cN:=hz.eq;have cZ:=hz.succ (A:=A) (by omega);have kX:n-(i+1)<m:=by omega
   have jL:∀h',I (i+1) h'->J (n-(i+1)) (A .bB .add .i64 z 1) h':=fun h' hh=>by rw[dY];exact⟨i+1,cZ,aP,rfl,hh⟩
   have st:=step i x h1;clear dY hJ step fin hq;rw[kS aP];cbv;refine⟨cJ,?_⟩;cbv;refine bZ qs hx cN (fun b1 n1 c1 hv=>?_);replace st:=st b1 n1 c1;cbv;refine(st aP hx hI hv).mono (fun r h2 hR=>?_);obtain⟨e,hr,lK,qG⟩:=hR;subst hr;have fe:A .aI .neq e 0=decide (e≠0):=aC A ..;by_cases h0:e=0
   ·have cD:=jL h2 (lK h0);clear jL lK qG st;cbv;rw[fe,nM (fun g=>g h0)];cbv;refine⟨n-(i+1),A .bB .add .i64 z 1,kX,⟨?_,?_,?_⟩,cD⟩
    ·cbv
    ·cbv
    ·cbv
   ·have af:=qG h0;clear jL lK qG st;cbv;rw[fe,kS h0];cbv;exact af
  ·have lW:i=n:=by omega
   subst lW;have af:=fin h1 hI;clear dY hJ step fin hq;rw[nM aP];cbv;exact af
theorem Uo{xs:List (Row)}{p0 p1 p2:Value}{h:ad}{b:Option Addr}{n c:Nat}(hn:n=xs.length)(I:Nat->ad->Prop)(h0:I 0 h)(hq:∀i h',I i h'->Sl 59 aD h' (.slice b n c) xs){k:Value->ad->Prop}
 (step:∀i x h' b1 n1 c1,i<n->xs[i]? =some x->I i h'->Sl 61 bq h' (.slice b1 n1 c1) x->Ct 189 [.slice b1 n1 c1,p0,p1,p2] h' (fun r kY=>∃e,r=.int .i64 e/\(e=0->I (i+1) kY)/\(e≠0->k (.int .i64 e) kY)))
 (fin:∀h',I n h'->k (.int .i64 0) h'):
 Ct 92 [.slice b n c,.func (.func 189) #[] #[p0,p1,p2]] h k:=by
 obtain⟨A,hA⟩:=Ar.ex;have FM:=(hq 0 h h0).bound;obtain⟨J,dY⟩:∃J:Nat->Int->ad->Prop,∀m z h',J m z h'=∃i,aS z i/\i<=n/\m=n-i/\I i h':=⟨_,fun _ _ _=>rfl⟩;have hJ:J n 0 h:=by rw[dY];exact⟨0,⟨rfl⟩,mQr _,rfl,h0⟩
 refine ah A (ax aQF.aK aQF.bF) Tryz.func92 rfl (by kernel_rfl) ?_;cbv;refine aX.go (G:=Int) (fun z=>[(10,.v (.int .i64 z))]) (fun _=>[]) (fun m z h'=>J m z h') n 0 ⟨?_,?_,?_⟩ hJ ?_
 ·cbv
 ·cbv
 ·cbv
 ·intro m z h1 hI;rw[dY]at hI;cbv;obtain⟨i,hz,hi,hm,hI⟩:=hI;have f1:A .aI .lss z (A .nat n)=decide (i<n):=hz.iJ (aS.nat n);rw[f1];by_cases aP:i<n
  ·obtain⟨x,hx⟩:=aE (xs:=xs) (i:=i) (by omega);have qs:=hq i h1 hI;have cJ:b.isSome=true/\0<=z/\z<(n:Int):=⟨qs.aT (by omega),hz.ix aP⟩;have cN:=hz.eq;have cZ:=hz.succ (A:=A) (by omega);have kX:n-(i+1)<m:=by omega
   have jL:∀h',I (i+1) h'->J (n-(i+1)) (A .bB .add .i64 z 1) h':=fun h' hh=>by rw[dY];exact⟨i+1,cZ,aP,rfl,hh⟩
   have st:=step i x h1;clear dY hJ step fin hq;rw[kS aP];cbv;refine⟨cJ,?_⟩;cbv;refine bZ qs hx cN (fun b1 n1 c1 hv=>?_);replace st:=st b1 n1 c1;cbv;refine(st aP hx hI hv).mono (fun r h2 hR=>?_);obtain⟨e,hr,lK,qG⟩:=hR;subst hr;have fe:A .aI .neq e 0=decide (e≠0):=aC A ..;by_cases h0:e=0
   ·have cD:=jL h2 (lK h0);clear jL lK qG st;cbv;rw[fe,nM (fun g=>g h0)];cbv;refine⟨n-(i+1),A .bB .add .i64 z 1,kX,⟨?_,?_,?_⟩,cD⟩
    ·cbv
    ·cbv
    ·cbv
   ·have af:=qG h0;clear jL lK qG st;cbv;rw[fe,kS h0];cbv;exact af
  ·have lW:i=n:=by omega
   subst lW;have af:=fin h1 hI;clear dY hJ step fin hq;rw[nM aP];cbv;exact af
theorem bQv{xs:List (Row)}{p0 p1 p2:Value}{h:ad}{b:Option Addr}{n c:Nat}(hn:n=xs.length)(I:Nat->ad->Prop)(h0:I 0 h)(hq:∀i h',I i h'->Sl 59 aD h' (.slice b n c) xs){k:Value->ad->Prop}
 (step:∀i x h' b1 n1 c1,i<n->xs[i]? =some x->I i h'->Sl 61 bq h' (.slice b1 n1 c1) x->Ct 256 [.slice b1 n1 c1,p0,p1,p2] h' (fun r kY=>∃e,r=.int .i64 e/\(e=0->I (i+1) kY)/\(e≠0->k (.int .i64 e) kY)))
 (fin:∀h',I n h'->k (.int .i64 0) h'):
 Ct 92 [.slice b n c,.func (.func 256) #[] #[p0,p1,p2]] h k:=by
 obtain⟨A,hA⟩:=Ar.ex;have FM:=(hq 0 h h0).bound;obtain⟨J,dY⟩:∃J:Nat->Int->ad->Prop,∀m z h',J m z h'=∃i,aS z i/\i<=n/\m=n-i/\I i h':=⟨_,fun _ _ _=>rfl⟩;have hJ:J n 0 h:=by rw[dY];exact⟨0,⟨rfl⟩,mQr _,rfl,h0⟩
 refine ah A (ax aQF.aK aQF.bF) Tryz.func92 rfl (by kernel_rfl) ?_;cbv;refine aX.go (G:=Int) (fun z=>[(10,.v (.int .i64 z))]) (fun _=>[]) (fun m z h'=>J m z h') n 0 ⟨?_,?_,?_⟩ hJ ?_
 ·cbv
 ·cbv
 ·cbv
 ·intro m z h1 hI;rw[dY]at hI;cbv;obtain⟨i,hz,hi,hm,hI⟩:=hI;have f1:A .aI .lss z (A .nat n)=decide (i<n):=hz.iJ (aS.nat n);rw[f1];by_cases aP:i<n
  ·obtain⟨x,hx⟩:=aE (xs:=xs) (i:=i) (by omega);have qs:=hq i h1 hI;have cJ:b.isSome=true/\0<=z/\z<(n:Int):=⟨qs.aT (by omega),hz.ix aP⟩;have cN:=hz.eq;have cZ:=hz.succ (A:=A) (by omega);have kX:n-(i+1)<m:=by omega
   have jL:∀h',I (i+1) h'->J (n-(i+1)) (A .bB .add .i64 z 1) h':=fun h' hh=>by rw[dY];exact⟨i+1,cZ,aP,rfl,hh⟩
   have st:=step i x h1;clear dY hJ step fin hq;rw[kS aP];cbv;refine⟨cJ,?_⟩;cbv;refine bZ qs hx cN (fun b1 n1 c1 hv=>?_);replace st:=st b1 n1 c1;cbv;refine(st aP hx hI hv).mono (fun r h2 hR=>?_);obtain⟨e,hr,lK,qG⟩:=hR;subst hr;have fe:A .aI .neq e 0=decide (e≠0):=aC A ..;by_cases h0:e=0
   ·have cD:=jL h2 (lK h0);clear jL lK qG st;cbv;rw[fe,nM (fun g=>g h0)];cbv;refine⟨n-(i+1),A .bB .add .i64 z 1,kX,⟨?_,?_,?_⟩,cD⟩
    ·cbv
    ·cbv
    ·cbv
   ·have af:=qG h0;clear jL lK qG st;cbv;rw[fe,kS h0];cbv;exact af
  ·have lW:i=n:=by omega
   subst lW;have af:=fin h1 hI;clear dY hJ step fin hq;rw[nM aP];cbv;exact af
theorem QB{xs:List (List Nd)}{p0 p1 p2:Value}{h:ad}{b:Option Addr}{n c:Nat}(hn:n=xs.length)(I:Nat->ad->Prop)(h0:I 0 h)(hq:∀i h',I i h'->Sl 42 jM h' (.slice b n c) xs){k:Value->ad->Prop}
 (step:∀i x h' b1 n1 c1,i<n->xs[i]? =some x->I i h'->Sl 325 fx h' (.slice b1 n1 c1) x->Ct 162 [.slice b1 n1 c1,p0,p1,p2] h' (fun r kY=>∃e,r=.int .i64 e/\(e=0->I (i+1) kY)/\(e≠0->k (.int .i64 e) kY)))
 (fin:∀h',I n h'->k (.int .i64 0) h'):
 Ct 161 [.slice b n c,.func (.func 162) #[] #[p0,p1,p2]] h k:=by
 obtain⟨A,hA⟩:=Ar.ex;have FM:=(hq 0 h h0).bound;obtain⟨J,dY⟩:∃J:Nat->Int->ad->Prop,∀m z h',J m z h'=∃i,aS z i/\i<=n/\m=n-i/\I i h':=⟨_,fun _ _ _=>rfl⟩;have hJ:J n 0 h:=by rw[dY];exact⟨0,⟨rfl⟩,mQr _,rfl,h0⟩
 refine ah A (ax gXy.aK gXy.bF) Tryz.func161 rfl (by kernel_rfl) ?_;cbv;refine aX.go (G:=Int) (fun z=>[(10,.v (.int .i64 z))]) (fun _=>[]) (fun m z h'=>J m z h') n 0 ⟨?_,?_,?_⟩ hJ ?_
 ·cbv
 ·cbv
 ·cbv
 ·intro m z h1 hI;rw[dY]at hI;cbv;obtain⟨i,hz,hi,hm,hI⟩:=hI;have f1:A .aI .lss z (A .nat n)=decide (i<n):=hz.iJ (aS.nat n);rw[f1];by_cases aP:i<n
  ·obtain⟨x,hx⟩:=aE (xs:=xs) (i:=i) (by omega);have qs:=hq i h1 hI;have cJ:b.isSome=true/\0<=z/\z<(n:Int):=⟨qs.aT (by omega),hz.ix aP⟩;have cN:=hz.eq;have cZ:=hz.succ (A:=A) (by omega);have kX:n-(i+1)<m:=by omega
   have jL:∀h',I (i+1) h'->J (n-(i+1)) (A .bB .add .i64 z 1) h':=fun h' hh=>by rw[dY];exact⟨i+1,cZ,aP,rfl,hh⟩
   have st:=step i x h1;clear dY hJ step fin hq;rw[kS aP];cbv;refine⟨cJ,?_⟩;cbv;refine bZ qs hx cN (fun b1 n1 c1 hv=>?_);replace st:=st b1 n1 c1;cbv;refine(st aP hx hI hv).mono (fun r h2 hR=>?_);obtain⟨e,hr,lK,qG⟩:=hR;subst hr;have fe:A .aI .neq e 0=decide (e≠0):=aC A ..;by_cases h0:e=0
   ·have cD:=jL h2 (lK h0);clear jL lK qG st;cbv;rw[fe,nM (fun g=>g h0)];cbv;refine⟨n-(i+1),A .bB .add .i64 z 1,kX,⟨?_,?_,?_⟩,cD⟩
    ·cbv
    ·cbv
    ·cbv
   ·have af:=qG h0;clear jL lK qG st;cbv;rw[fe,kS h0];cbv;exact af
  ·have lW:i=n:=by omega
   subst lW;have af:=fin h1 hI;clear dY hJ step fin hq;rw[nM aP];cbv;exact af
theorem bQt{xs:List (ByteArray)}{p0:Value}{h:ad}{b:Option Addr}{n c:Nat}(hn:n=xs.length)(I:Nat->ad->Prop)(h0:I 0 h)(hq:∀i h',I i h'->Sl 9 dX h' (.slice b n c) xs){k:Value->ad->Prop}
 (step:∀i x h',i<n->xs[i]? =some x->I i h'->True->Ct 98 [.string x,p0] h' (fun r kY=>∃e,r=.int .i64 e/\(e=0->I (i+1) kY)/\(e≠0->k (.int .i64 e) kY)))
 (fin:∀h',I n h'->k (.int .i64 0) h'):
 Ct 99 [.slice b n c,.func (.func 98) #[] #[p0]] h k:=by
 obtain⟨A,hA⟩:=Ar.ex;have FM:=(hq 0 h h0).bound;obtain⟨J,dY⟩:∃J:Nat->Int->ad->Prop,∀m z h',J m z h'=∃i,aS z i/\i<=n/\m=n-i/\I i h':=⟨_,fun _ _ _=>rfl⟩;have hJ:J n 0 h:=by rw[dY];exact⟨0,⟨rfl⟩,mQr _,rfl,h0⟩
 refine ah A (ax gKX.aK gKX.bF) Tryz.func99 rfl (by kernel_rfl) ?_;cbv;refine aX.go (G:=Int) (fun z=>[(10,.v (.int .i64 z))]) (fun _=>[]) (fun m z h'=>J m z h') n 0 ⟨?_,?_,?_⟩ hJ ?_
 ·cbv
 ·cbv
 ·cbv
 ·intro m z h1 hI;rw[dY]at hI;cbv;obtain⟨i,hz,hi,hm,hI⟩:=hI;have f1:A .aI .lss z (A .nat n)=decide (i<n):=hz.iJ (aS.nat n);rw[f1];by_cases aP:i<n
  ·obtain⟨x,hx⟩:=aE (xs:=xs) (i:=i) (by omega);have qs:=hq i h1 hI;have cJ:b.isSome=true/\0<=z/\z<(n:Int):=⟨qs.aT (by omega),hz.ix aP⟩;have cN:=hz.eq;have cZ:=hz.succ (A:=A) (by omega);have kX:n-(i+1)<m:=by omega
   have jL:∀h',I (i+1) h'->J (n-(i+1)) (A .bB .add .i64 z 1) h':=fun h' hh=>by rw[dY];exact⟨i+1,cZ,aP,rfl,hh⟩
   have st:=step i x h1;clear dY hJ step fin hq;rw[kS aP];cbv;refine⟨cJ,?_⟩;cbv;refine qs.load hx cN (fun cs ay=>?_);have ay:cs=[.string x]:=ay;subst ay;have hv:=trivial;cbv;refine(st aP hx hI hv).mono (fun r h2 hR=>?_);obtain⟨e,hr,lK,qG⟩:=hR;subst hr;have fe:A .aI .neq e 0=decide (e≠0):=aC A ..;by_cases h0:e=0
   ·have cD:=jL h2 (lK h0);clear jL lK qG st;cbv;rw[fe,nM (fun g=>g h0)];cbv;refine⟨n-(i+1),A .bB .add .i64 z 1,kX,⟨?_,?_,?_⟩,cD⟩
    ·cbv
    ·cbv
    ·cbv
   ·have af:=qG h0;clear jL lK qG st;cbv;rw[fe,kS h0];cbv;exact af
  ·have lW:i=n:=by omega
   subst lW;have af:=fin h1 hI;clear dY hJ step fin hq;rw[nM aP];cbv;exact af
theorem Zo{xs:List (dO)}{f0:Value}{h:ad}{b:Option Addr}{n c:Nat}(hn:n=xs.length)(I:Nat->ad->Prop)(h0:I 0 h)(hq:∀i h',I i h'->Sl 276 eI h' (.slice b n c) xs){k:Value->ad->Prop}
 (step:∀i x h' b1 n1 c1,i<n->xs[i]? =some x->I i h'->Sl 325 fx h' (.slice b1 n1 c1) x.e->Ct 179 [f0,.agg #[.int .i64 x.fn,.slice b1 n1 c1]] h' (fun r kY=>∃e,r=.int .i64 e/\(e=0->I (i+1) kY)/\(e≠0->k (.int .i64 e) kY)))
 (fin:∀h',I n h'->k (.int .i64 0) h'):
 Ct 178 [.slice b n c,.func (.func 179) #[f0] #[]] h k:=by
 obtain⟨A,hA⟩:=Ar.ex;have FM:=(hq 0 h h0).bound;obtain⟨J,dY⟩:∃J:Nat->Int->ad->Prop,∀m z h',J m z h'=∃i,aS z i/\i<=n/\m=n-i/\I i h':=⟨_,fun _ _ _=>rfl⟩;have hJ:J n 0 h:=by rw[dY];exact⟨0,⟨rfl⟩,mQr _,rfl,h0⟩
 refine ah A (ax ZZ.aK ZZ.bF) Tryz.func178 rfl (by kernel_rfl) ?_;cbv;refine aX.go (G:=Int) (fun z=>[(10,.v (.int .i64 z))]) (fun _=>[]) (fun m z h'=>J m z h') n 0 ⟨?_,?_,?_⟩ hJ ?_
 ·cbv
 ·cbv
 ·cbv
 ·intro m z h1 hI;rw[dY]at hI;cbv;obtain⟨i,hz,hi,hm,hI⟩:=hI;have f1:A .aI .lss z (A .nat n)=decide (i<n):=hz.iJ (aS.nat n);rw[f1];by_cases aP:i<n
  ·obtain⟨x,hx⟩:=aE (xs:=xs) (i:=i) (by omega);have qs:=hq i h1 hI;have cJ:b.isSome=true/\0<=z/\z<(n:Int):=⟨qs.aT (by omega),hz.ix aP⟩;have cN:=hz.eq;have cZ:=hz.succ (A:=A) (by omega);have kX:n-(i+1)<m:=by omega
   have jL:∀h',I (i+1) h'->J (n-(i+1)) (A .bB .add .i64 z 1) h':=fun h' hh=>by rw[dY];exact⟨i+1,cZ,aP,rfl,hh⟩
   have st:=step i x h1;clear dY hJ step fin hq;rw[kS aP];cbv;refine⟨cJ,?_⟩;cbv;refine yQ qs hx cN (fun b1 n1 c1 hv=>?_);replace st:=st b1 n1 c1;obtain⟨xf,xe⟩:=x;cbv;refine(st aP hx hI hv).mono (fun r h2 hR=>?_);obtain⟨e,hr,lK,qG⟩:=hR;subst hr;have fe:A .aI .neq e 0=decide (e≠0):=aC A ..;by_cases h0:e=0
   ·have cD:=jL h2 (lK h0);clear jL lK qG st;cbv;rw[fe,nM (fun g=>g h0)];cbv;refine⟨n-(i+1),A .bB .add .i64 z 1,kX,⟨?_,?_,?_⟩,cD⟩
    ·cbv
    ·cbv
    ·cbv
   ·have af:=qG h0;clear jL lK qG st;cbv;rw[fe,kS h0];cbv;exact af
  ·have lW:i=n:=by omega
   subst lW;have af:=fin h1 hI;clear dY hJ step fin hq;rw[nM aP];cbv;exact af
theorem qZ{xs:List (dO)}{f0:Value}{h:ad}{b:Option Addr}{n c:Nat}(hn:n=xs.length)(I:Nat->ad->Prop)(h0:I 0 h)(hq:∀i h',I i h'->Sl 276 eI h' (.slice b n c) xs){k:Value->ad->Prop}
 (step:∀i x h' b1 n1 c1,i<n->xs[i]? =some x->I i h'->Sl 325 fx h' (.slice b1 n1 c1) x.e->Ct 187 [f0,.agg #[.int .i64 x.fn,.slice b1 n1 c1]] h' (fun r kY=>∃e,r=.int .i64 e/\(e=0->I (i+1) kY)/\(e≠0->k (.int .i64 e) kY)))
 (fin:∀h',I n h'->k (.int .i64 0) h'):
 Ct 178 [.slice b n c,.func (.func 187) #[f0] #[]] h k:=by
 obtain⟨A,hA⟩:=Ar.ex;have FM:=(hq 0 h h0).bound;obtain⟨J,dY⟩:∃J:Nat->Int->ad->Prop,∀m z h',J m z h'=∃i,aS z i/\i<=n/\m=n-i/\I i h':=⟨_,fun _ _ _=>rfl⟩;have hJ:J n 0 h:=by rw[dY];exact⟨0,⟨rfl⟩,mQr _,rfl,h0⟩
 refine ah A (ax ZZ.aK ZZ.bF) Tryz.func178 rfl (by kernel_rfl) ?_;cbv;refine aX.go (G:=Int) (fun z=>[(10,.v (.int .i64 z))]) (fun _=>[]) (fun m z h'=>J m z h') n 0 ⟨?_,?_,?_⟩ hJ ?_
 ·cbv
 ·cbv
 ·cbv
 ·intro m z h1 hI;rw[dY]at hI;cbv;obtain⟨i,hz,hi,hm,hI⟩:=hI;have f1:A .aI .lss z (A .nat n)=decide (i<n):=hz.iJ (aS.nat n);rw[f1];by_cases aP:i<n
  ·obtain⟨x,hx⟩:=aE (xs:=xs) (i:=i) (by omega);have qs:=hq i h1 hI;have cJ:b.isSome=true/\0<=z/\z<(n:Int):=⟨qs.aT (by omega),hz.ix aP⟩;have cN:=hz.eq;have cZ:=hz.succ (A:=A) (by omega);have kX:n-(i+1)<m:=by omega
   have jL:∀h',I (i+1) h'->J (n-(i+1)) (A .bB .add .i64 z 1) h':=fun h' hh=>by rw[dY];exact⟨i+1,cZ,aP,rfl,hh⟩
   have st:=step i x h1;clear dY hJ step fin hq;rw[kS aP];cbv;refine⟨cJ,?_⟩;cbv;refine yQ qs hx cN (fun b1 n1 c1 hv=>?_);replace st:=st b1 n1 c1;obtain⟨xf,xe⟩:=x;cbv;refine(st aP hx hI hv).mono (fun r h2 hR=>?_);obtain⟨e,hr,lK,qG⟩:=hR;subst hr;have fe:A .aI .neq e 0=decide (e≠0):=aC A ..;by_cases h0:e=0
   ·have cD:=jL h2 (lK h0);clear jL lK qG st;cbv;rw[fe,nM (fun g=>g h0)];cbv;refine⟨n-(i+1),A .bB .add .i64 z 1,kX,⟨?_,?_,?_⟩,cD⟩
    ·cbv
    ·cbv
    ·cbv
   ·have af:=qG h0;clear jL lK qG st;cbv;rw[fe,kS h0];cbv;exact af
  ·have lW:i=n:=by omega
   subst lW;have af:=fin h1 hI;clear dY hJ step fin hq;rw[nM aP];cbv;exact af
theorem Fe{xs:List (dO)}{p0 p1 p2:Value}{h:ad}{b:Option Addr}{n c:Nat}(hn:n=xs.length)(I:Nat->ad->Prop)(h0:I 0 h)(hq:∀i h',I i h'->Sl 276 eI h' (.slice b n c) xs){k:Value->ad->Prop}
 (step:∀i x h' b1 n1 c1,i<n->xs[i]? =some x->I i h'->Sl 325 fx h' (.slice b1 n1 c1) x.e->Ct 198 [.agg #[.int .i64 x.fn,.slice b1 n1 c1],p0,p1,p2] h' (fun r kY=>∃e,r=.int .i64 e/\(e=0->I (i+1) kY)/\(e≠0->k (.int .i64 e) kY)))
 (fin:∀h',I n h'->k (.int .i64 0) h'):
 Ct 178 [.slice b n c,.func (.func 198) #[] #[p0,p1,p2]] h k:=by
 obtain⟨A,hA⟩:=Ar.ex;have FM:=(hq 0 h h0).bound;obtain⟨J,dY⟩:∃J:Nat->Int->ad->Prop,∀m z h',J m z h'=∃i,aS z i/\i<=n/\m=n-i/\I i h':=⟨_,fun _ _ _=>rfl⟩;have hJ:J n 0 h:=by rw[dY];exact⟨0,⟨rfl⟩,mQr _,rfl,h0⟩
 refine ah A (ax ZZ.aK ZZ.bF) Tryz.func178 rfl (by kernel_rfl) ?_;cbv;refine aX.go (G:=Int) (fun z=>[(10,.v (.int .i64 z))]) (fun _=>[]) (fun m z h'=>J m z h') n 0 ⟨?_,?_,?_⟩ hJ ?_
 ·cbv
 ·cbv
 ·cbv
 ·intro m z h1 hI;rw[dY]at hI;cbv;obtain⟨i,hz,hi,hm,hI⟩:=hI;have f1:A .aI .lss z (A .nat n)=decide (i<n):=hz.iJ (aS.nat n);rw[f1];by_cases aP:i<n
  ·obtain⟨x,hx⟩:=aE (xs:=xs) (i:=i) (by omega);have qs:=hq i h1 hI;have cJ:b.isSome=true/\0<=z/\z<(n:Int):=⟨qs.aT (by omega),hz.ix aP⟩;have cN:=hz.eq;have cZ:=hz.succ (A:=A) (by omega);have kX:n-(i+1)<m:=by omega
   have jL:∀h',I (i+1) h'->J (n-(i+1)) (A .bB .add .i64 z 1) h':=fun h' hh=>by rw[dY];exact⟨i+1,cZ,aP,rfl,hh⟩
   have st:=step i x h1;clear dY hJ step fin hq;rw[kS aP];cbv;refine⟨cJ,?_⟩;cbv;refine yQ qs hx cN (fun b1 n1 c1 hv=>?_);replace st:=st b1 n1 c1;obtain⟨xf,xe⟩:=x;cbv;refine(st aP hx hI hv).mono (fun r h2 hR=>?_);obtain⟨e,hr,lK,qG⟩:=hR;subst hr;have fe:A .aI .neq e 0=decide (e≠0):=aC A ..;by_cases h0:e=0
   ·have cD:=jL h2 (lK h0);clear jL lK qG st;cbv;rw[fe,nM (fun g=>g h0)];cbv;refine⟨n-(i+1),A .bB .add .i64 z 1,kX,⟨?_,?_,?_⟩,cD⟩
    ·cbv
    ·cbv
    ·cbv
   ·have af:=qG h0;clear jL lK qG st;cbv;rw[fe,kS h0];cbv;exact af
  ·have lW:i=n:=by omega
   subst lW;have af:=fin h1 hI;clear dY hJ step fin hq;rw[nM aP];cbv;exact af
def aXU(p:Value):Sh Nat where
 n:=1
 R _ cs g:=cs=[.func (.func g) #[] #[p]]
 len:=by rintro h cs x rfl;rfl
 one:=by rintro h cs x rfl;rfl
 tys:=[]
 mono:=fun _ q=>q
theorem Uq{p:Value}{xs:List (Nat)}{h:ad}{b:Option Addr}{n c:Nat}(hn:n=xs.length)(I:Nat->ad->Prop)(h0:I 0 h)(hq:∀i h',I i h'->Sl 173 (aXU p) h' (.slice b n c) xs){k:Value->ad->Prop}
 (step:∀i x h',i<n->xs[i]? =some x->I i h'->True->Ct 184 [.func (.func x) #[] #[p]] h' (fun r kY=>∃e,r=.int .i64 e/\(e=0->I (i+1) kY)/\(e≠0->k (.int .i64 e) kY)))
 (fin:∀h',I n h'->k (.int .i64 0) h'):
 Ct 183 [.slice b n c,.func (.func 184) #[] #[]] h k:=by
 obtain⟨A,hA⟩:=Ar.ex;have FM:=(hq 0 h h0).bound;obtain⟨J,dY⟩:∃J:Nat->Int->ad->Prop,∀m z h',J m z h'=∃i,aS z i/\i<=n/\m=n-i/\I i h':=⟨_,fun _ _ _=>rfl⟩;have hJ:J n 0 h:=by rw[dY];exact⟨0,⟨rfl⟩,mQr _,rfl,h0⟩
 refine ah A (ax gXh.aK gXh.bF) Tryz.func183 rfl (by kernel_rfl) ?_;cbv;refine aX.go (G:=Int) (fun z=>[(10,.v (.int .i64 z))]) (fun _=>[]) (fun m z h'=>J m z h') n 0 ⟨?_,?_,?_⟩ hJ ?_
 ·cbv
 ·cbv
 ·cbv
 ·intro m z h1 hI;rw[dY]at hI;cbv;obtain⟨i,hz,hi,hm,hI⟩:=hI;have f1:A .aI .lss z (A .nat n)=decide (i<n):=hz.iJ (aS.nat n);rw[f1];by_cases aP:i<n
  ·obtain⟨x,hx⟩:=aE (xs:=xs) (i:=i) (by omega);have qs:=hq i h1 hI;have cJ:b.isSome=true/\0<=z/\z<(n:Int):=⟨qs.aT (by omega),hz.ix aP⟩;have cN:=hz.eq;have cZ:=hz.succ (A:=A) (by omega);have kX:n-(i+1)<m:=by omega
   have jL:∀h',I (i+1) h'->J (n-(i+1)) (A .bB .add .i64 z 1) h':=fun h' hh=>by rw[dY];exact⟨i+1,cZ,aP,rfl,hh⟩
   have st:=step i x h1;clear dY hJ step fin hq;rw[kS aP];cbv;refine⟨cJ,?_⟩;cbv;refine qs.load hx cN (fun cs ay=>?_);have ay:cs=[.func (.func x) #[] #[p]]:=ay;subst ay;have hv:=trivial;cbv;refine(st aP hx hI hv).mono (fun r h2 hR=>?_);obtain⟨e,hr,lK,qG⟩:=hR;subst hr;have fe:A .aI .neq e 0=decide (e≠0):=aC A ..;by_cases h0:e=0
   ·have cD:=jL h2 (lK h0);clear jL lK qG st;cbv;rw[fe,nM (fun g=>g h0)];cbv;refine⟨n-(i+1),A .bB .add .i64 z 1,kX,⟨?_,?_,?_⟩,cD⟩
    ·cbv
    ·cbv
    ·cbv
   ·have af:=qG h0;clear jL lK qG st;cbv;rw[fe,kS h0];cbv;exact af
  ·have lW:i=n:=by omega
   subst lW;have af:=fin h1 hI;clear dY hJ step fin hq;rw[nM aP];cbv;exact af
theorem My{ex:List Nd}(hn:∀n∈ex,Nm n.name/\kM n.v){cols:List cK}(hc:∀c∈cols,Nm c.name)(want:Int){h:ad}{eb:Option Addr}{en ec:Nat}(qe:Sl 325 fx h (.slice eb en ec) ex){cb:Option Addr}{cn cc:Nat}(qc:Sl 165 bI h (.slice cb cn cc) cols){k:Value->ad->Prop}
 (hk:∀h' e,Le h h'->e=ku ex cols want->k (.int .i64 e) h'):Ct 168 [.slice eb en ec,.slice cb cn cc,.int .i64 want] h k:=by
 obtain⟨A,hA⟩:=Ar.ex;have hP:ku ex cols want=match jv ex cols with
  | (k,f)=>if f=0/\k≠0/\k≠want then 3 else f:=rfl
 generalize ku ex cols want=D at *;refine ah A (ax gXs.aK gXs.bF) Tryz.func168 rfl (by kernel_rfl) ?_;cbv;refine bZb (fun n hh=>(hn n hh).1) hc qe qc (fun h1 kd e l1 kC=>?_);rw[<-kC]at hP;replace hP:D=if e=0/\kd≠0/\kd≠want then 3 else e:=hP
 have hk:=fun x hx=>hk h1 x l1 hx;clear kC;cbv;repeat' (refine bh (fun hc=>?_) (fun hc=>?_)<;>(try rw[hc])<;>cbv)
 all_goals
  refine hk _ ?_;simp only[aA A,aC A,mQD,decide_eq_false_iff_not]at *;rw[hP];first
   | (rw[if_pos ⟨by assumption,by assumption,by assumption⟩])
   | (rw[if_neg (by rintro⟨g1,g2,g3⟩;contradiction)])
theorem rW{ex:List Nd}(hn:∀n∈ex,Nm n.name/\kM n.v){cols:List cK}(hc:∀c∈cols,Nm c.name){h:ad}{eb:Option Addr}{en ec:Nat}(qe:Sl 325 fx h (.slice eb en ec) ex){cb:Option Addr}{cn cc:Nat}(qc:Sl 165 bI h (.slice cb cn cc) cols){k:Value->ad->Prop}
 (hk:∀h' e,Le h h'->e=aU ex cols->k (.int .i64 e) h'):Ct 96 [.slice eb en ec,.slice cb cn cc] h k:=by
 obtain⟨A,hA⟩:=Ar.ex;have Qh:=qe.len;have hP:aU ex cols=if ex.length=0 then 0 else ku ex cols 1:=rfl
 rw[<-Qh]at hP;have f1:A .aI .eql (A .nat en) 0=decide (en=0):=by rw[aA A,hA.nat,decide_eq_decide,mQJ];omega
 refine ah A (ax jJU.aK jJU.bF) Tryz.func96 rfl (by kernel_rfl) ?_;cbv;rw[f1];by_cases h0:en=0
 ·have af:=hk h 0 (Le.refl _) (by rw[hP,if_pos h0]);clear hk hP;rw[kS h0];cbv;exact af
 ·rw[if_neg h0]at hP;rw[nM h0];cbv;refine My hn hc 1 qe qc (fun h1 e l1 he=>?_);have af:=hk h1 e l1 (he.trans hP.symm);clear hk hP he;cbv;exact af
theorem MN{ex:List Nd}(hn:∀n∈ex,Nm n.name/\kM n.v){cols:List cK}(hc:∀c∈cols,Nm c.name){r:Row}(hr:∀v∈r,kM v){h:ad}{eb:Option Addr}{en ec:Nat}(qe:Sl 325 fx h (.slice eb en ec) ex){cb:Option Addr}{cn cc:Nat}(qc:Sl 165 bI h (.slice cb cn cc) cols){rb:Option Addr}{rn rc:Nat}(qr:Sl 61 bq h (.slice rb rn rc) r){k:Value->ad->Prop}
 (hk:∀h' t e,Le h h'->(t,e)=dt ex cols r->k (.tuple #[.bool t,.int .i64 e]) h'):Ct 171 [.slice eb en ec,.slice cb cn cc,.slice rb rn rc] h k:=by
 obtain⟨A,hA⟩:=Ar.ex;have Qh:=qe.len;have hP:dt ex cols r=if ex.length=0 then(true,0)else match eP ex cols r with
  | (v,f)=>(decide (v.k=1)&&decide (v.n=1),f):=rfl
 rw[<-Qh]at hP;generalize dt ex cols r=D at *;have f1:A .aI .eql (A .nat en) 0=decide (en=0):=by rw[aA A,hA.nat,decide_eq_decide,mQJ];omega
 refine ah A (ax gXr.aK gXr.bF) Tryz.func171 rfl (by kernel_rfl) ?_;cbv;rw[f1];by_cases h0:en=0
 ·have af:=hk h true 0 (Le.refl _) (by rw[hP,if_pos h0]);clear hk hP;rw[kS h0];cbv;exact af
 ·rw[if_neg h0]at hP;rw[nM h0];cbv;refine Gx hn hc hr qe qc qr (fun h1 v e w l1 hv hw=>?_);rw[<-hv]at hP;replace hP:D=(decide (v.k=1)&&decide (v.n=1),e):=hP;have hk:=fun t ht=>hk h1 t e l1 ht;obtain⟨vk,vn,vs⟩:=v;subst hw;clear hv;cbv;repeat' (refine bh (fun hc=>?_) (fun hc=>?_)<;>(try rw[hc])<;>cbv)
  all_goals
   refine hk _ ?_;simp only[aA A,mQD,decide_eq_false_iff_not]at *;rw[hP];simp[*]
theorem ik.cJJ{h h':ad}{v:Value}{d:DB}(q:ik h v d)(l:bR [51,165,59,61,55,148,161,205] h h'):ik h' v d:=by obtain⟨_,_,_,_,_,_,_,_,_,_,_,_,ws,rfl,q1,q2,q3,q4,q5⟩:=q.out;exact⟨_,_,_,_,_,_,_,_,_,_,_,_,ws,rfl,q1.mono (l.sub (by decide)),q2.mono (l.sub (by decide)),q3.mono (l.sub (by decide)),q4.mono (l.sub (by decide)),q5⟩
abbrev aXl:List Nat:=[51,165,59,61,55,148,161,205]
abbrev uB:List Nat:=[165,325,9,42,276]
structure fM(h:ad)(pb:Nat)(d:DB)(s:Int)(x:aJ):Prop where
 out:∃b1 n1 c1 b2 n2 c2 b3 n3 c3 b4 n4 c4 b5 n5 c5 b6 n6 c6 b7 n7 c7 b8 n8 c8 b9 n9 c9 gW jD gT,h pb=some (.cells #[.slice b1 n1 c1,.slice b2 n2 c2,.slice b3 n3 c3,.slice b4 n4 c4,.int .i64 s,.int .i64 x.kind,.string x.sE.name,.slice b5 n5 c5,.int .i64 x.sE.key,.bool x.sE.only,.string x.table,.string x.join,.slice b6 n6 c6,.slice b7 n7 c7,.slice b8 n8 c8,.slice b9 n9 c9,.slice gW jD gT,.string x.group,.string x.order,.bool x.desc,.int .i64 x.eG,.string x.name] 101 (0,0))/\ik h (.agg #[.slice b1 n1 c1,.slice b2 n2 c2,.slice b3 n3 c3,.slice b4 n4 c4]) d/\Sl 165 bI h (.slice b5 n5 c5) x.sE.cols/\Sl 325 fx h (.slice b6 n6 c6) x.on/\Sl 9 dX h (.slice b7 n7 c7) x.names/\Sl 42 jM h (.slice b8 n8 c8) x.exprs/\Sl 276 eI h (.slice b9 n9 c9) x.items/\Sl 325 fx h (.slice gW jD gT) x.bV
theorem fM.elim{h:ad}{pb:Nat}{d:DB}{s:Int}{x:aJ}(q:fM h pb d s x){p:Prop}(k:∀b1 n1 c1 b2 n2 c2 b3 n3 c3 b4 n4 c4 b5 n5 c5 b6 n6 c6 b7 n7 c7 b8 n8 c8 b9 n9 c9 gW jD gT,h pb=some (.cells #[.slice b1 n1 c1,.slice b2 n2 c2,.slice b3 n3 c3,.slice b4 n4 c4,.int .i64 s,.int .i64 x.kind,.string x.sE.name,.slice b5 n5 c5,.int .i64 x.sE.key,.bool x.sE.only,.string x.table,.string x.join,.slice b6 n6 c6,.slice b7 n7 c7,.slice b8 n8 c8,.slice b9 n9 c9,.slice gW jD gT,.string x.group,.string x.order,.bool x.desc,.int .i64 x.eG,.string x.name] 101 (0,0))->ik h (.agg #[.slice b1 n1 c1,.slice b2 n2 c2,.slice b3 n3 c3,.slice b4 n4 c4]) d->Sl 165 bI h (.slice b5 n5 c5) x.sE.cols->Sl 325 fx h (.slice b6 n6 c6) x.on->Sl 9 dX h (.slice b7 n7 c7) x.names->Sl 42 jM h (.slice b8 n8 c8) x.exprs->Sl 276 eI h (.slice b9 n9 c9) x.items->Sl 325 fx h (.slice gW jD gT) x.bV->p):p:=by obtain⟨b1,n1,c1,b2,n2,c2,b3,n3,c3,b4,n4,c4,b5,n5,c5,b6,n6,c6,b7,n7,c7,b8,n8,c8,b9,n9,c9,gW,jD,gT,g,qd,q1,q2,q3,q4,q5,q6⟩:=q.out;exact k b1 n1 c1 b2 n2 c2 b3 n3 c3 b4 n4 c4 b5 n5 c5 b6 n6 c6 b7 n7 c7 b8 n8 c8 b9 n9 c9 gW jD gT g qd q1 q2 q3 q4 q5 q6
theorem fM.lt{h h':ad}{pb:Nat}{d:DB}{s:Int}{x:aJ}(q:fM h pb d s x)(hb:h' pb=h pb)(l:bR (aXl++uB) h h'):fM h' pb d s x:=by obtain⟨b1,n1,c1,b2,n2,c2,b3,n3,c3,b4,n4,c4,b5,n5,c5,b6,n6,c6,b7,n7,c7,b8,n8,c8,b9,n9,c9,gW,jD,gT,g,qd,q1,q2,q3,q4,q5,q6⟩:=q.out;exact⟨b1,n1,c1,b2,n2,c2,b3,n3,c3,b4,n4,c4,b5,n5,c5,b6,n6,c6,b7,n7,c7,b8,n8,c8,b9,n9,c9,gW,jD,gT,hb.trans g,qd.cJJ (l.sub (by decide)),q1.mono (l.sub (by decide)),q2.mono (l.sub (by decide)),q3.mono (l.sub (by decide)),q4.mono (l.sub (by decide)),q5.mono (l.sub (by decide)),q6.mono (l.sub (by decide))⟩
theorem fM.mono{h h':ad}{pb:Nat}{d:DB}{s:Int}{x:aJ}(q:fM h pb d s x)(l:Le h h'):fM h' pb d s x:=by refine q.lt ?_ (l.t _);obtain⟨b1,n1,c1,b2,n2,c2,b3,n3,c3,b4,n4,c4,b5,n5,c5,b6,n6,c6,b7,n7,c7,b8,n8,c8,b9,n9,c9,gW,jD,gT,g,-⟩:=q.out;rw[g];exact l _ _ g
theorem fM.has{h:ad}{pb:Nat}{d:DB}{s:Int}{x:aJ}(q:fM h pb d s x):∃c,h pb=some (.cells c 101 (0,0)):=by obtain⟨b1,n1,c1,b2,n2,c2,b3,n3,c3,b4,n4,c4,b5,n5,c5,b6,n6,c6,b7,n7,c7,b8,n8,c8,b9,n9,c9,gW,jD,gT,g,-⟩:=q.out;exact⟨_,g⟩
theorem fM.kp{h h':ad}{pb:Nat}{d:DB}{s:Int}{x:aJ}(q:fM h pb d s x)(k:Kp [pb] h h'){tys:List Nat}(ht:101∉tys):bR tys h h':=by obtain⟨c,g⟩:=q.has;exact k.ES g ht
theorem fM.aXV{h h' h2:ad}{pb:Nat}{d d':DB}{s:Int}{x:aJ}(q:fM h pb d s x)(l:Le h h'){b1:Option Addr}{n1 c1:Nat}{b2:Option Addr}{n2 c2:Nat}{b3:Option Addr}{n3 c3:Nat}{b4:Option Addr}{n4 c4:Nat}{c:List Value}
 (g:h' pb=some (.cells (List.toArray c) 101 (0,0))) (qd:ik h' (.agg #[.slice b1 n1 c1,.slice b2 n2 c2,.slice b3 n3 c3,.slice b4 n4 c4]) d') (e2:h2=bU h' pb (.cells (List.toArray (jS c 0 [.slice b1 n1 c1,.slice b2 n2 c2,.slice b3 n3 c3,.slice b4 n4 c4])) 101 (0,0))):fM h2 pb d' s x/\Kp [pb] h h2:=by
 have lt:bR (aXl++uB) h' h2:=by rw[e2];exact bR.set g (by decide)
 have eZi:bR (aXl++uB) h h2:=(l.t _).trans lt;refine⟨?_,fun b o hb hn=>?_⟩
 ·obtain⟨bXI,aZZ,bXn,bXH,aZX,bXm,bXG,aZW,bXl,bXF,aZV,bXk,Xh,VD,WZ,Xg,VC,WY,Xf,Rv,WX,UC,Ny,NS,Xe,VB,WW,Dp,BX,Dm,g0,_,q1,q2,q3,q4,q5,q6⟩:=q.out;have hc:=l _ _ g0;rw[g]at hc;cases hc;refine⟨b1,n1,c1,b2,n2,c2,b3,n3,c3,b4,n4,c4,Xh,VD,WZ,Xg,VC,WY,Xf,Rv,WX,UC,Ny,NS,Xe,VB,WW,Dp,BX,Dm,?_,qd.cJJ (lt.sub (by decide)),q1.mono (eZi.sub (by decide)),q2.mono (eZi.sub (by decide)),q3.mono (eZi.sub (by decide)),q4.mono (eZi.sub (by decide)),q5.mono (eZi.sub (by decide)),q6.mono (eZi.sub (by decide))⟩;rw[e2,ae];rfl
 ·rw[e2,aO (by simpa using hn)];exact l _ _ hb
theorem UP{h:ad}{pb:Nat}{d:DB}{s:Int}{st:aJ}(q:fM h pb d s st){n:Nat}(ok:ue n d)(jm:n<2^18)(nm:ByteArray)(x:Bool){k:Value->ad->Prop}
 (hk:∀h',Kp [pb] h h'->fM h' pb (aL d ⟨s,nm,x⟩).1 s st->k (.int .i64 (aL d ⟨s,nm,x⟩).2) h'):Ct 79 [.pointer (some ⟨pb,0,none⟩),.string nm,.bool x] h k:=by
 obtain⟨A,hA⟩:=Ar.ex;refine q.elim (fun b1 n1 c1 b2 n2 c2 b3 n3 c3 b4 n4 c4 b5 n5 c5 b6 n6 c6 b7 n7 c7 b8 n8 c8 b9 n9 c9 gW jD gT g qd q1 q2 q3 q4 q5 q6=>?_);clear q1 q2 q3 q4 q5 q6;obtain⟨D,hD⟩:∃D,aL d ⟨s,nm,x⟩=D:=⟨_,rfl⟩;rw[hD]at hk;obtain⟨D1,De⟩:=D;replace hk:∀h',Kp [pb] h h'->fM h' pb D1 s st->k (.int .i64 De) h':=hk;have bU:∀ {h' h2:ad} {b1:Option Addr} {n1 c1:Nat} {b2:Option Addr} {n2 c2:Nat} {b3:Option Addr} {n3 c3:Nat} {b4:Option Addr} {n4 c4:Nat} {c:List Value},Le h h'->h' pb=some (.cells (List.toArray c) 101 (0,0))->ik h' (.agg #[.slice b1 n1 c1,.slice b2 n2 c2,.slice b3 n3 c3,.slice b4 n4 c4]) D1->h2=bU h' pb (.cells (List.toArray (jS c 0 [.slice b1 n1 c1,.slice b2 n2 c2,.slice b3 n3 c3,.slice b4 n4 c4])) 101 (0,0))->k (.int .i64 De) h2:=fun l g qd e2=>by
  have:=q.aXV l g qd e2;exact hk _ this.2 this.1
 clear hk;refine ah A (ax jKe.aK jKe.bF) Tryz.func79 rfl (by kernel_rfl) ?_;cbv;rw[ai A];refine aB g rfl rfl ?_;cbv;rw[ai A];refine aB g rfl rfl ?_;cbv;refine cQD qd ok jm s nm x hD ?_;intro h1 e1 m1 a1 e2 m2 a2 e3 m3 a3 e4 m4 a4 l1 Jq;have g1:=l1 _ _ g;cbv;rw[ai A];refine ja g1 (by simp) (fun h2 Jj=>?_);have af:=bU l1 g1 Jq Jj;clear bU g1 Jj;cbv;exact af
theorem ik.eJI{h:ad}{d:DB}{b1 b2 b3 b4:Option Addr}{n1 c1 n2 c2 n3 c3 n4 c4:Nat}(q:ik h (.agg #[.slice b1 n1 c1,.slice b2 n2 c2,.slice b3 n3 c3,.slice b4 n4 c4]) d):Sl 51 ef h (.slice b1 n1 c1) d.az:=by obtain⟨_,_,_,_,_,_,_,_,_,_,_,_,ws,he,q1,-⟩:=q.out;cases he;exact q1
theorem EZ{h:ad}{pb:Nat}{d:DB}{s:Int}{st:aJ}(q:fM h pb d s st)(nm:ByteArray){k:Value->ad->Prop}
 (hk:∀T b1 n1 c1 b2 n2 c2,T=cI d nm->Sl 165 bI h (.slice b1 n1 c1) T.S.cols->Sl 59 aD h (.slice b2 n2 c2) T.rows->k (.agg #[.string T.S.name,.slice b1 n1 c1,.int .i64 T.S.key,.bool T.S.only,.slice b2 n2 c2]) h):
 Ct 84 [.pointer (some ⟨pb,0,none⟩),.string nm] h k:=by
 obtain⟨A,hA⟩:=Ar.ex;refine q.elim (fun b1 n1 c1 b2 n2 c2 b3 n3 c3 b4 n4 c4 b5 n5 c5 b6 n6 c6 b7 n7 c7 b8 n8 c8 b9 n9 c9 gW jD gT g qd q1 q2 q3 q4 q5 q6=>?_);clear q1 q2 q3 q4 q5 q6;have qt:=qd.eJI;have tG:=qt.len;have hP:cI d nm=(d.az.find? fun t=>decide (t.S.name=nm)).getD ⟨⟨b0,[],0,false⟩,[]⟩:=rfl;generalize cI d nm=D at *;obtain⟨R,hR⟩:∃R,d.az.find? (fun t=>decide (t.S.name=nm))=R:=⟨_,rfl⟩;rw[hR]at hP;obtain⟨I,aY⟩:∃I:Nat->Int->ad->Prop,∀m z h',I m z h'=∃i,aS z i/\i<=n1/\m=n1-i/\h'=h/\(d.az.drop i).find? (fun t=>decide (t.S.name=nm))=R:=⟨_,fun _ _ _=>rfl⟩;have hJ:I n1 0 h:=by rw[aY];exact⟨0,⟨rfl⟩,mQr _,rfl,rfl,hR⟩
 refine ah A (ax jKb.aK jKb.bF) Tryz.func84 rfl (by kernel_rfl) ?_;cbv;rw[ai A,ai A];refine aB g rfl rfl ?_;cbv;refine aX.go (G:=Int) (fun z=>[(13,.v (.int .i64 z))]) (fun _=>[(4,[.string ⟨#[]⟩,.slice none 0 0,.int .i64 0,.bool false,.slice none 0 0])]) (fun m z h'=>I m z h') n1 0 ⟨?_,?_,?_⟩ hJ ?_
 ·cbv
 ·cbv
 ·cbv
 ·intro m z h1 hI;rw[aY]at hI;cbv;obtain⟨i,hz,hi,hm,e',he⟩:=hI;subst e';have f1:A .aI .lss z (A .nat n1)=decide (i<n1):=hz.iJ (aS.nat n1);rw[f1];by_cases aP:i<n1
  ·obtain⟨t,ht⟩:=aE (xs:=d.az) (i:=i) (by omega);have hd:d.az.drop i=t::d.az.drop (i+1):=by obtain⟨h1,h2⟩:=HH.1 ht;rw[mQy h1,h2]
   rw[hd,List.find?_cons]at he;have cJ:b1.isSome=true/\0<=z/\z<(n1:Int):=⟨qt.aT (by omega),hz.ix aP⟩;have cN:=hz.eq;have cZ:=hz.succ (A:=A) (by have:=qt.bound;omega);have kX:n1-(i+1)<m:=by omega
   have cD:(d.az.drop (i+1)).find? (fun t=>decide (t.S.name=nm))=R->I (n1-(i+1)) (A .bB .add .i64 z 1) h1:=fun e=>by rw[aY];exact⟨i+1,cZ,aP,rfl,rfl,e⟩
   clear aY hJ hR hd;rw[kS aP];cbv;refine⟨cJ,?_⟩;cbv;refine xU qt ht cN (fun t1 m1 k1 t2 m2 k2 r1 r2=>?_);have fn:A .iQ .eql t.S.name nm=decide (t.S.name=nm):=cS A ..;by_cases hn:t.S.name=nm
   ·rw[kS hn]at he;have he:some t=R:=he;rw[<-he]at hP;have hP:D=t:=hP;have af:=hk t t1 m1 k1 t2 m2 k2 hP.symm r1 r2;rw[kS hn]at fn;obtain⟨⟨tn,tc,tk,to⟩,tr⟩:=t;clear hk cD hP;cbv;rw[fn];cbv;exact af
   ·rw[nM hn]at he;have jd:=cD he;rw[nM hn]at fn;obtain⟨⟨tn,tc,tk,to⟩,tr⟩:=t;clear hk cD hP;cbv;rw[fn];cbv;refine⟨n1-(i+1),A .bB .add .i64 z 1,kX,⟨?_,?_,?_⟩,jd⟩
    ·cbv
    ·cbv
    ·cbv
  ·rw[mQR (by omega)]at he;have he:none=R:=he;rw[<-he]at hP;have hP:D=⟨⟨b0,[],0,false⟩,[]⟩:=hP;have af:=hk ⟨⟨b0,[],0,false⟩,[]⟩ none 0 0 none 0 0 hP.symm Sl.nil Sl.nil;clear hk hP aY hJ;rw[nM aP];cbv;exact af
theorem rB(cols:List cK)(r:Row)(x:List Nd)(xs:List (List Nd))(l:Row):pF cols r (x::xs) l=match eP x cols r with
 | (v,f)=>if f≠0 then([],f)else pF cols r xs (l++[v]):=rfl
theorem Kt{cols:List cK}{r:Row}(hr:∀v∈r,kM v):∀ {ex:List Nd} {l m:List cO},(∀n∈ex,kM n.v)->(∀v∈l,kM v)->gM cols r ex l=some m->∀v∈m,kM v
 | [],l,m,_,hl,h=>by cases h;exact hl
 |n::e,l,m,hn,hl,h=>by
  rw[xL]at h;cases hw:xM n l cols r with
  |none=>rw[hw]at h;cases h
  |some w=>
   rw[hw]at h;refine Kt hr (fun n hh=>hn n (mQQ _ hh)) (fun v hv=>?_) h;rcases mQv.1 hv with hv|hv
   ·exact hl v hv
   ·rcases mQs.1 hv with hv|hv
    ·rw[hv];exact OZ (hn n mQE) hl hr hw
    ·cases hv
theorem aJt{l:List cO}(hl:∀v∈l,kM v):kM (xV l):=by
 unfold xV;cases h:l.getLast? with
 |none=>exact kA
 |some x=>exact hl x (mZb h)
theorem zM{ex:List Nd}{cols:List cK}{r:Row}{v:cO}{e:Int}(hn:∀n∈ex,kM n.v)(hr:∀v∈r,kM v)(h:eP ex cols r=(v,e)):kM v:=by
 unfold eP at h;generalize jv ex cols=kd at h;obtain⟨k,f⟩:=kd;have h:(if f≠0 then(v0,f)else match gM cols r ex []with
  |some l=>(xV l,0)
  |none=>(v0,11))=(v,e):=h
 by_cases hf:f≠0
 ·rw[if_pos hf]at h;cases h;exact kA
 ·rw[if_neg hf]at h;cases hm:gM cols r ex []with
  |none=>rw[hm]at h;cases h;exact kA
  |some l=>rw[hm]at h;cases h;exact aJt (Kt hr hn (fun _ hv=>by cases hv) hm)
structure Nx(B h:ad)(ob:Nat)(l:Row):Prop where
 out:∃b n c,h ob=some (.cells #[.slice b n c] 59 (0,0))/\cF 61 bq B h (.slice b n c) l
 le:Le B h
 no:B ob=none
theorem aQU{ex:List Nd}(hn:∀n∈ex,Nm n.name/\kM n.v){cols:List cK}(hc:∀c∈cols,Nm c.name){r:Row}(hr:∀v∈r,kM v){B h:ad}{ob:Nat}{l:Row}(qo:Nx B h ob l)(hl:l.length<=2^30)
 {xb:Option Addr} {xn xc:Nat} (qe:Sl 325 fx h (.slice xb xn xc) ex)
 {cb cn cc} {cp:Nat} (gc:B cp=some (.cells #[.slice cb cn cc] 38 (0,0))) (qc:Sl 165 bI B (.slice cb cn cc) cols) {rb rn rc} {rp:Nat} (gr:B rp=some (.cells #[.slice rb rn rc] 59 (0,0))) (qr:Sl 61 bq B (.slice rb rn rc) r) {k:Value->ad->Prop}
 (hk:∀h' v e,Nx B h' ob (l++[v])->(v,e)=eP ex cols r->k (.int .i64 e) h'):
 Ct 162 [.slice xb xn xc,.pointer (some ⟨cp,0,none⟩),.pointer (some ⟨rp,0,none⟩),.pointer (some ⟨ob,0,none⟩)] h k:=by
 obtain⟨A,hA⟩:=Ar.ex;have l0:=qo.le;have gK:=qo.no;obtain⟨b,n,c,go,qb⟩:=qo.out;have JD:=qb.sl.len;have eQg:=l0 _ _ gc;have Wy:=l0 _ _ gr;refine ah A (ax gXx.aK gXx.bF) Tryz.func162 rfl (by kernel_rfl) ?_;cbv;refine aB eQg rfl rfl ?_;cbv;refine aB Wy rfl rfl ?_;cbv;refine Gx hn hc hr qe (qc.mono (l0.t _)) (qr.mono (l0.t _)) (fun h1 v e w l1 hv hw=>?_);obtain⟨vk,vn,vs⟩:=v;subst hw;have KV:=l1 _ _ go;cbv;refine aB KV rfl rfl ?_;cbv;intro n2 h2 g2 e2;have l2:Le h1 h2:=by rw[e2];exact Le.set g2
 have v2:Sl 61 bq h2 (.slice (some ⟨n2,0,none⟩) 1 1) [⟨vk,vn,vs⟩]:=bA (s:=bq) ((congrFun e2 n2).trans ae) rfl;have go2:=l2 _ _ KV;clear e2;cbv;refine(qb.mono ((l1.trans l2).t _)).append v2 (by decide) rfl (by decide) (by omega) (l0.trans (l1.trans l2)) (fun m3 b3 c3 h3 eQE l3 t3 k3 ry=>?_);have Uk:h3 ob=some (.cells #[.slice b n c] 59 (0,0)):=t3 [59] (by decide) _ _ _ _ (mQA.2 rfl) go2;clear t3 k3 v2;cbv;refine ja Uk (by simp) (fun h4 e4=>?_);have af:=hk h4 ⟨vk,vn,vs⟩ e ⟨⟨b3,m3,c3,by rw[e4];exact ae,ry.mono (by rw[e4];exact bR.set Uk (by decide))⟩,fun b' o' oz=>by rw[e4,aO (fun e=>by rw[e,gK]at oz;cases oz)];exact l3 _ _ oz,gK⟩ hv;clear hk e4;cbv;exact af
theorem FX{xs:List (List Nd)}(hn:∀ex∈xs,∀n∈ex,Nm n.name/\kM n.v){cols:List cK}(hc:∀c∈cols,Nm c.name){r:Row}(hr:∀v∈r,kM v)(Cp:xs.length<=2^20){h:ad}
 {xb:Option Addr} {xn xc:Nat} (qe:Sl 42 jM h (.slice xb xn xc) xs) {cb:Option Addr} {cn cc:Nat} (qc:Sl 165 bI h (.slice cb cn cc) cols) {rb:Option Addr} {rn rc:Nat} (qr:Sl 61 bq h (.slice rb rn rc) r) {k:Value->ad->Prop}
 (hk:∀h' b n c l e,Le h h'->(l,e)=bS xs cols r->cF 61 bq h h' (.slice b n c) l->(∀v∈l,kM v)->k (.tuple #[.slice b n c,.int .i64 e]) h'):
 Ct 82 [.slice xb xn xc,.slice cb cn cc,.slice rb rn rc] h k:=by
 obtain⟨A,hA⟩:=Ar.ex;have bZv:=qe.len;have hP:bS xs cols r=pF cols r xs []:=rfl;generalize bS xs cols r=D at *;refine ah A (ax jKc.aK jKc.bF) Tryz.func82 rfl (by kernel_rfl) ?_;cbv;intro cp h1 g1 e1;have l1:Le h h1:=by rw[e1];exact Le.set g1
 have lQQ:h1 cp=some (.cells #[.slice cb cn cc] 38 (0,0)):=by rw[e1];exact ae
 clear e1;cbv;intro rp h2 g2 e2;have l2:Le h1 h2:=by rw[e2];exact Le.set g2
 have fZQ:h2 rp=some (.cells #[.slice rb rn rc] 59 (0,0)):=by rw[e2];exact ae
 clear e2;cbv;intro ob h3 g3 e3;have l3:Le h2 h3:=by rw[e3];exact Le.set g3
 have Uk:h3 ob=some (.cells #[.slice none 0 0] 59 (0,0)):=by rw[e3];exact ae
 have jZ:=l1.trans l2;have lB:Le h2 (Sx.eF h3 ob):=fun b o hb=>by
  rw[Sx.cY (fun e=>by rw[e,g3]at hb;cases hb)];exact l3 _ _ hb
 clear e3;obtain⟨B,hB⟩:∃B,B=Sx.eF h3 ob:=⟨_,rfl⟩;rw[<-hB]at lB;have cKN:Le B h3:=by rw[hB];exact Sx.fY h3 ob
 have cXd:B ob=none:=by rw[hB];exact Sx.dP h3 ob
 have uM:Le h B:=jZ.trans lB;obtain⟨I,aY⟩:∃I:Nat->ad->Prop,∀i h',I i h'=∃l,Nx B h' ob l/\l.length=i/\(∀v∈l,kM v)/\pF cols r (xs.drop i) l=D:=⟨_,fun _ _=>rfl⟩;have hJ:I 0 h3:=by rw[aY];exact⟨[],⟨⟨none,0,0,Uk,cF.nil⟩,cKN,cXd⟩,rfl,(fun _ hv=>by cases hv),hP.symm⟩
 clear hB;cbv;refine QB bZv I hJ (fun i h' hI=>?_) (fun i x h' b1 n1 c1 hi hx hI hv=>?_) (fun h' hI=>?_)
 ·rw[aY]at hI;obtain⟨l,qo,-⟩:=hI;exact qe.mono ((uM.trans qo.le).t _)
 ·rw[aY]at hI;obtain⟨l,qo,bZJ,tW,he⟩:=hI;have hd:xs.drop i=x::xs.drop (i+1):=by obtain⟨h1,h2⟩:=HH.1 hx;rw[mQy h1,h2]
  rw[hd,rB]at he;have MH:=GD hx;refine aQU (hn x MH) hc hr qo (by omega) hv (lB _ _ (l2 _ _ lQQ)) (qc.mono (uM.t _)) (lB _ _ fZQ) (qr.mono (uM.t _)) (fun h4 v e SA Je=>⟨e,rfl,fun h0=>?_,fun h0=>?_⟩)
  ·rw[<-Je]at he;have he:(if e≠0 then([],e)else pF cols r (xs.drop (i+1)) (l++[v]))=D:=he;rw[if_neg (by simpa using h0)]at he;rw[aY];refine⟨l++[v],SA,by rw[nX,mQu,bZJ],fun y hy=>?_,he⟩;rcases mQv.1 hy with hy|hy
   ·exact tW y hy
   ·rcases mQs.1 hy with hy|hy
    ·rw[hy];exact zM (fun n hh=>(hn x MH n hh).2) hr Je.symm
    ·cases hy
  ·rw[<-Je]at he;have he:(if e≠0 then([],e)else pF cols r (xs.drop (i+1)) (l++[v]))=D:=he;rw[if_pos h0]at he;have af:=hk h4 none 0 0 [] e (uM.trans SA.le) he cF.nil (fun _ hv=>by cases hv);have fe:A .aI .neq e 0=true:=by rw[aC A];exact kS h0
   clear hk aY;cbv;rw[fe];cbv;exact af
 ·rw[aY]at hI;obtain⟨l,qo,bZJ,tW,he⟩:=hI;rw[mQR (by omega)]at he;have he:(l,0)=D:=he;have l0:=qo.le;obtain⟨b,n,c,go,qb⟩:=qo.out;have JD:=qb.sl.len;have f0:A .aI .neq 0 0=false:=by rw[aC A];rfl
  have hk:=fun h' b n c l1=>hk h' b n c l 0 l1 he;clear aY;cbv;rw[f0];cbv;refine aB go rfl rfl ?_;cbv;refine(mU qb.sl).mono (fun v h5 hR=>?_);obtain⟨l5,b',c',hv,oz⟩:=hR;subst hv;have af:=hk h5 b' n c' (uM.trans (l0.trans l5)) (oz.base (uM.trans l0)) tW;clear hk;cbv;exact af
def iY(ex:List Nd):Prop:=∀n∈ex,Nm n.name/\kM n.v
structure dr(x:aJ):Prop where
 on:iY x.on
 bV:iY x.bV
 exprs:∀e∈x.exprs,iY e
 items:∀i∈x.items,iY i.e
 len:x.exprs.length<=2^20
 names:x.kind=4->x.exprs.length=x.names.length
 group:Nm x.group
 order:Nm x.order
 aJU:x.items.length<=2^20
 dZG:x.names.length<=2^20
theorem Lx{h:ad}{pb:Nat}{d d0:DB}{s:Int}{st:aJ}(q:fM h pb d s st){eb db wb:Nat}{e:Int}(ge:h eb=some (.cells #[.int .i64 e] 35 (0,0))){b1 b2 b3 b4:Option Addr}{n1 c1 n2 c2 n3 c3 n4 c4:Nat}(gd:h db=some (.cells #[.slice b1 n1 c1,.slice b2 n2 c2,.slice b3 n3 c3,.slice b4 n4 c4] 32 (0,0)))(qd:ik h (.agg #[.slice b1 n1 c1,.slice b2 n2 c2,.slice b3 n3 c3,.slice b4 n4 c4]) d0)
 (gw:h wb=some (.cells #[.pointer (some ⟨pb,0,none⟩)] 99 (0,0))):gZt 160 [.pointer (some ⟨eb,0,none⟩),.pointer (some ⟨db,0,none⟩),.pointer (some ⟨wb,0,none⟩)] h (fun _ h'=>Kp [pb] h h'/\fM h' pb (if e≠0 then d0 else d) s st):=by
 obtain⟨A,hA⟩:=Ar.ex;have fe:A .aI .neq e 0=decide (e≠0):=aC A ..;refine zg A (ax gXz.aK gXz.bF) Tryz.func160 rfl (by kernel_rfl) ?_;cbv;refine aB ge rfl rfl ?_;cbv;rw[fe];by_cases h0:e≠0
 ·obtain⟨c,gp⟩:=q.has;rw[kS h0];cbv;refine aB gw rfl rfl ?_;cbv;refine aB gd rfl rfl ?_;cbv;rw[ai A];obtain⟨c⟩:=c;have hc:4<=c.length:=by refine q.elim (fun bXI aZZ bXn bXH aZX bXm bXG aZW bXl bXF aZV bXk Xh VD WZ Xg VC WY Xf Rv WX UC Ny NS Xe VB WW Dp BX Dm g qd q1 q2 q3 q4 q5 q6=>?_);rw[gp]at g;cases g;show 4<=22;omega
  refine ja gp (by simpa using hc) (fun h2 e2=>?_);have af:=q.aXV (Le.refl h) gp qd e2;clear e2;cbv;rw[if_pos h0];exact⟨af.2,af.1⟩
 ·rw[nM h0];cbv;rw[if_neg h0];exact⟨Kp.refl _ _,q⟩
theorem aQP{p0:Value}{h:ad}{pb:Nat}{d:DB}{s:Int}{st:aJ}(q:fM h pb d s st){D:DB×Int}
 (step:∀h1,Le h h1->fM h1 pb d s st->Ct 81 [p0] h1 (fun r h2=>r=.int .i64 D.2/\Kp [pb] h1 h2/\fM h2 pb D.1 s st)) {k:Value->ad->Prop}
 (hk:∀h',Kp [pb] h h'->fM h' pb (cP d D).1 s st->k (.tuple #[.slice none 0 0,.int .i64 (cP d D).2.2]) h'):Ct 80 [.pointer (some ⟨pb,0,none⟩),.func (.func 81) #[] #[p0]] h k:=by
 obtain⟨A,hA⟩:=Ar.ex;have EU:(cP d D).1=if D.2≠0 then d else D.1:=by unfold cP;by_cases c:D.2≠0<;>simp[c]
 have vj:(cP d D).2.2=D.2:=by unfold cP;by_cases c:D.2=0<;>simp[c]
 rw[EU,vj]at hk;obtain⟨D1,De⟩:=D;replace hk:∀h',Kp [pb] h h'->fM h' pb (if De≠0 then d else D1) s st->k (.tuple #[.slice none 0 0,.int .i64 De]) h':=hk;replace step:∀h1,Le h h1->fM h1 pb d s st->Ct 81 [p0] h1 (fun r h2=>r=.int .i64 De/\Kp [pb] h1 h2/\fM h2 pb D1 s st):=step;clear EU vj;obtain⟨cp,hp⟩:=q.has;refine oZ A (ax eJi.aK eJi.bF) Tryz.func80 rfl (by kernel_rfl) ?_;cbv;intro wb h1 g1 e1;have l1:Le h h1:=by rw[e1];exact Le.set g1
 have sq:h1 wb=some (.cells #[.pointer (some ⟨pb,0,none⟩)] 99 (0,0)):=by rw[e1];exact ae
 have nw:wb≠pb:=fun e=>by rw[e,hp]at g1;cases g1
 clear e1;cbv;intro eb h2 g2 e2;have l2:Le h1 h2:=by rw[e2];exact Le.set g2
 have cKS:h2 eb=some (.cells #[.int .i64 0] 35 (0,0)):=by rw[e2];exact ae
 have ne:eb≠pb:=fun e=>by rw[e,l1 _ _ hp]at g2;cases g2
 have new:eb≠wb:=fun e=>by rw[e,sq]at g2;cases g2
 have eQe:h eb=none:=by
  cases hh:h eb with
  |none=>rfl
  |some o=>rw[l1 _ _ hh]at g2;cases g2
 clear e2;refine(q.mono (l1.trans l2)).elim (fun b1 n1 c1 b2 n2 c2 b3 n3 c3 b4 n4 c4 b5 n5 c5 b6 n6 c6 b7 n7 c7 b8 n8 c8 b9 n9 c9 gW jD gT g qd q1 q2 q3 q4 q5 q6=>?_);clear q1 q2 q3 q4 q5 q6;have rz:=l2 _ _ sq;cbv;refine aB rz rfl rfl ?_;cbv;rw[ai A];refine aB g rfl rfl ?_;cbv;intro db h3 g3 e3;have l3:Le h2 h3:=by rw[e3];exact Le.set g3
 have cKT:h3 db=some (.cells #[.slice none 0 0,.slice none 0 0,.slice none 0 0,.slice none 0 0] 32 (0,0)):=by rw[e3];exact ae
 have eKW:db≠pb:=fun e=>by rw[e,g]at g3;cases g3
 have eKX:db≠eb:=fun e=>by rw[e,cKS]at g3;cases g3
 have jQB:db≠wb:=fun e=>by rw[e,rz]at g3;cases g3
 have ET:Le h h2:=l1.trans l2;have fZg:h db=none:=by
  cases hh:h db with
  |none=>rfl
  |some o=>rw[ET _ _ hh]at g3;cases g3
 clear e3;cbv;refine ja cKT (by simp) (fun h4 e4=>?_);have fJa:h4 db=some (.cells #[.slice b1 n1 c1,.slice b2 n2 c2,.slice b3 n3 c3,.slice b4 n4 c4] 32 (0,0)):=by rw[e4];exact ae
 have l4:Le h2 h4:=fun b o hb=>by rw[e4,aO (fun e=>by rw[e,g3]at hb;cases hb)];exact l3 _ _ hb
 have fZX:=l4 _ _ cKS;have Ji:=l4 _ _ rz;have rY:=ET.trans l4;have eXY:=qd.mono l4;clear e4 cKT l3;cbv;refine(step h4 rY (q.mono rY)).mono (fun r h5 hR=>?_);obtain⟨hr,Mw,q5⟩:=hR;subst hr;have Cf:∀tys,101∉tys->bR tys h4 h5:=fun tys ht=>(q.mono rY).kp Mw ht;have fZZ:=Mw _ _ fJa (by simpa using eKW);have cKR:=Mw _ _ fZX (by simpa using ne);have As:=Mw _ _ Ji (by simpa using nw);have dXZ:=eXY.cJJ (Cf _ (by decide));clear step;cbv;refine ja cKR (by simp) (fun h6 e6=>?_);have SN:∀tys,35∉tys->bR tys h5 h6:=fun tys ht=>by rw[e6];exact bR.set cKR ht
 have cKQ:h6 eb=some (.cells #[.int .i64 De] 35 (0,0)):=by rw[e6];exact ae
 have fZY:h6 db=some (.cells #[.slice b1 n1 c1,.slice b2 n2 c2,.slice b3 n3 c3,.slice b4 n4 c4] 32 (0,0)):=by rw[e6,aO eKX];exact fZZ
 have fZL:h6 wb=some (.cells #[.pointer (some ⟨pb,0,none⟩)] 99 (0,0)):=by rw[e6,aO (Ne.symm new)];exact As
 have q6:fM h6 pb D1 s st:=q5.lt (by rw[e6,aO (Ne.symm ne)]) (SN _ (by decide));have Mc:=dXZ.cJJ (SN _ (by decide));have bZs:Kp [pb] h h6:=fun b o hb hn=>by
  rw[e6,aO (fun e=>by rw[e,eQe]at hb;cases hb)];exact Mw _ _ (rY _ _ hb) hn
 clear e6;cbv;refine(Lx q6 cKQ fZY Mc fZL).mono (fun v h7 hR=>?_);obtain⟨DA,q7⟩:=hR;have af:=hk h7 (bZs.trans DA) q7;have fZW:=DA _ _ cKQ (by simpa using ne);clear hk;cbv;refine aB fZW rfl rfl ?_;cbv;exact af
theorem aJL{h:ad}{pb:Nat}{d:DB}{s:Int}{st:aJ}(q:fM h pb d s st)(hx:dr st){n:Nat}(ok:ue n d)(jm:n<2^18)(jx:-2^63<=s/\s<2^63){wb:Nat}(gw:h wb=some (.cells #[.pointer (some ⟨pb,0,none⟩)] 99 (0,0)))
 {D:DB×Int} (hD:D=match bS st.exprs [] []with
  | (r,e)=>if e≠0 then(d,e)else fF d s st.table r) {k:Value->ad->Prop} (hk:∀h',Kp [pb] h h'->fM h' pb D.1 s st->k (.int .i64 D.2) h'):
 Ct 81 [.pointer (some ⟨wb,0,none⟩)] h k:=by
 obtain⟨A,hA⟩:=Ar.ex;refine q.elim (fun b1 n1 c1 b2 n2 c2 b3 n3 c3 b4 n4 c4 b5 n5 c5 b6 n6 c6 b7 n7 c7 b8 n8 c8 b9 n9 c9 gW jD gT g qd q1 q2 q3 q4 q5 q6=>?_);clear q1 q2 q3 q5 q6;obtain⟨D1,De⟩:=D;replace hk:∀h',Kp [pb] h h'->fM h' pb D1 s st->k (.int .i64 De) h':=hk;refine ah A (ax jKd.aK jKd.bF) Tryz.func81 rfl (by kernel_rfl) ?_;cbv;refine aB gw rfl rfl ?_;cbv;rw[ai A,ai A];refine aB g rfl rfl ?_;cbv;refine FX hx.exprs (cols:=[]) (fun _ hc=>by cases hc) (r:=[]) (fun _ hv=>by cases hv) hx.len q4 Sl.nil Sl.nil (fun h1 b m c l e l1 hv qb il=>?_);rw[<-hv]at hD;replace hD:(D1,De)=if e≠0 then(d,e)else fF d s st.table l:=hD
 have fe:A .aI .eql e 0=decide (e=0):=aA A ..;have sq:=l1 _ _ gw;have g1:=l1 _ _ g;by_cases h0:e=0
 ·rw[if_neg (fun g=>g h0)]at hD;have bU:∀ {h' h2:ad} {b1:Option Addr} {n1 c1:Nat} {b2:Option Addr} {n2 c2:Nat} {b3:Option Addr} {n3 c3:Nat} {b4:Option Addr} {n4 c4:Nat} {c:List Value},Le h h'->h' pb=some (.cells (List.toArray c) 101 (0,0))->ik h' (.agg #[.slice b1 n1 c1,.slice b2 n2 c2,.slice b3 n3 c3,.slice b4 n4 c4]) D1->h2=bU h' pb (.cells (List.toArray (jS c 0 [.slice b1 n1 c1,.slice b2 n2 c2,.slice b3 n3 c3,.slice b4 n4 c4])) 101 (0,0))->k (.int .i64 De) h2:=fun l g qd e2=>by
   have:=q.aXV l g qd e2;exact hk _ this.2 this.1
  clear hk;cbv;rw[fe,kS h0];cbv;refine aB sq rfl rfl ?_;cbv;refine aB sq rfl rfl ?_;cbv;try rw[ai A]
  refine aB g1 rfl rfl ?_;cbv;refine aB sq rfl rfl ?_;cbv;try rw[ai A]
  refine aB g1 rfl rfl ?_;cbv;refine aB sq rfl rfl ?_;cbv;first|rw[ai A,ai A] |rw[ai A] |skip
  refine aB g1 rfl rfl ?_;cbv;refine aZs (qd.mono l1) ok jm s jx st.table qb.sl hD.symm ?_;intro h2 e1 m1 a1 e2 m2 a2 e3 m3 a3 e4 m4 a4 l2 Jq;have g2:=l2 _ _ g1;have rz:=l2 _ _ sq;cbv;refine aB rz rfl rfl ?_;cbv;refine⟨⟨_,rfl,rfl⟩,?_⟩;cbv;try rw[ai A]
  refine ja g2 (by simp) (fun h3 eZW=>?_);have af:=bU (l1.trans l2) g2 Jq eZW;clear bU g2 eZW;cbv;exact af
 ·rw[if_pos h0]at hD;cases hD;have af:=hk h1 (l1.kp _) (q.mono l1);clear hk;cbv;rw[fe,nM h0];cbv;exact af
theorem cQd{h:ad}{pb:Nat}{d:DB}{s:Int}{st:aJ}(q:fM h pb d s st)(hx:dr st){n:Nat}(ok:SJ n d)(jm:n+2<2^18)(jx:-2^63<=s/\s<2^63){k:Value->ad->Prop}
 (hk:∀h',Kp [pb] h h'->fM h' pb (nO d s st).1 s st->k (.tuple #[.slice none 0 0,.int .i64 (nO d s st).2.2]) h'):
 Ct 41 [.pointer (some ⟨pb,0,none⟩)] h k:=by
 obtain⟨A,hA⟩:=Ar.ex;have hP:nO d s st=match aL d ⟨s,st.table,true⟩with
  | (d,e)=>if e≠0 then(d,[],e)else cP d (match bS st.exprs [] []with
   | (r,e)=>if e≠0 then(d,e)else fF d s st.table r):=rfl
 generalize nO d s st=D at *;have sj:=yH ok ⟨s,st.table,true⟩ jx;obtain⟨c,hp⟩:=q.has;refine q.elim (fun b1 n1 c1 b2 n2 c2 b3 n3 c3 b4 n4 c4 b5 n5 c5 b6 n6 c6 b7 n7 c7 b8 n8 c8 b9 n9 c9 gW jD gT g qd q1 q2 q3 q4 q5 q6=>?_);clear q1 q2 q3 q4 q5 q6;refine ah A (ax jKH.aK jKH.bF) Tryz.func41 rfl (by kernel_rfl) ?_;cbv;intro wb h1 gn e1;have l1:Le h h1:=by rw[e1];exact Le.set gn
 have sq:h1 wb=some (.cells #[.pointer (some ⟨pb,0,none⟩)] 99 (0,0)):=by rw[e1];exact ae
 have nw:wb≠pb:=fun e=>by rw[e,hp]at gn;cases gn
 have g1:=l1 _ _ g;clear e1;cbv;refine aB sq rfl rfl ?_;cbv;refine aB sq rfl rfl ?_;cbv;first|rw[ai A,ai A] |rw[ai A] |skip
 refine aB g1 rfl rfl ?_;cbv;refine UP (q.mono l1) ok.Ko (by omega) st.table true (fun h2 k2 q2=>?_);generalize aL d ⟨s,st.table,true⟩=H at *;obtain⟨d1,e⟩:=H;replace q2:fM h2 pb d1 s st:=q2;replace sj:SJ (n+1) d1:=sj;replace hP:D=if e≠0 then(d1,[],e)else cP d1 (match bS st.exprs [] []with
  | (r,e)=>if e≠0 then(d1,e)else fF d1 s st.table r):=hP
 have fe:A .aI .neq e 0=decide (e≠0):=aC A ..;have bZt:Kp [pb] h h2:=(l1.kp _).trans k2;have rz:=k2 _ _ sq (by simpa using nw);by_cases h0:e≠0
 ·rw[if_pos h0]at hP;subst hP;have af:=hk h2 bZt q2;clear hk;cbv;rw[fe,kS h0];cbv;exact af
 ·rw[if_neg h0]at hP;have ig:∀h3,Le h2 h3->fM h3 pb d1 s st->Ct 81 [.pointer (some ⟨wb,0,none⟩)] h3 (fun r h4=>r=.int .i64 (match bS st.exprs [] []with
   | (r,e)=>if e≠0 then(d1,e)else fF d1 s st.table r).2/\Kp [pb] h3 h4/\fM h4 pb (match bS st.exprs [] []with
   | (r,e)=>if e≠0 then(d1,e)else fF d1 s st.table r).1 s st):=fun h3 l3 q3=>aJL q3 hx sj.Ko (by omega) jx (l3 _ _ rz) rfl (fun h4 k4 q4=>⟨rfl,k4,q4⟩)
  generalize (match bS st.exprs [] []with
   | (r,e)=>if e≠0 then(d1,e)else fF d1 s st.table r)=E at *
  cbv;rw[fe,nM h0];cbv;refine aB rz rfl rfl ?_;cbv;refine aQP q2 ig (fun h3 k3 q3=>?_);rw[<-hP]at q3 |-;have af:=hk h3 (bZt.trans k3) q3;clear hk ig;generalize D.2.2=De at *;cbv;exact af
def ph(nm:ByteArray)(c:cK):cK:=⟨nm++aM [46]++c.name,c.kind,c.null⟩
theorem VI{α:Type}{f:α->α}{xs:List α}{i:Nat}{x:α}(h:xs[i]? =some x):((xs.take i).map f++xs.drop i).set i (f x)=(xs.take (i+1)).map f++xs.drop (i+1):=by
 have hi:=(HH.1 h).1;have hd:xs.drop i=x::xs.drop (i+1):=by obtain⟨h1,h2⟩:=HH.1 h;rw[mQy h1,h2]
 have hl:((xs.take i).map f).length=i:=by simp;omega
 rw[hd,mZZ _ _ (by omega),hl,mXA,List.set_cons_zero];rw[mXc,h];simp
theorem VJ{α:Type}{f:α->α}{xs:List α}{i:Nat}{x:α}(h:xs[i]? =some x):((xs.take i).map f++xs.drop i)[i]? =some x:=by have hi:=(HH.1 h).1;rw[mXM (by simp;omega),mQz,mQw,mZh (by omega),mXA,mXi,mZT,h]
theorem me{nm:ByteArray}(wD:Nm nm){cols:List cK}(hc:∀c∈cols,Nm c.name){h:ad}{cb:Option Addr}{cn cc:Nat}(qc:Sl 165 bI h (.slice cb cn cc) cols)(key:Int)(only:Bool)(rb:Option Addr)(rn rc:Nat){k:Value->ad->Prop}
 (hk:∀h' b n c,Le h h'->cF 165 bI h h' (.slice b n c) (cols.map (ph nm))->k (.slice b n c) h'):
 Ct 87 [.agg #[.string nm,.slice cb cn cc,.int .i64 key,.bool only,.slice rb rn rc]] h k:=by
 obtain⟨A,hA⟩:=Ar.ex;obtain⟨X,hX⟩:∃X,A .cat nm ⟨#[46]⟩=X:=⟨_,rfl⟩;have aKW:X=nm++aM [46]:=by rw[<-hX,hA.cat];rfl
 have jE:((nm.size+(⟨#[46]⟩:ByteArray).size:Nat):Int)<=2^62:=by have:=wD.sz;have e:(⟨#[46]⟩:ByteArray).size=1:=rfl;rw[e];omega
 have FD:∀c∈cols,((X.size+c.name.size:Nat):Int)<=2^62:=fun c CG=>by
  have h1:=wD.sz;have h2:=(hc c CG).sz;have e:X.size=nm.size+1:=by rw[aKW,mZG];rfl
  rw[e];omega
 have Ik:∀c:cK,A .cat X c.name=(ph nm c).name:=fun c=>by rw[hA.cat,aKW];rfl
 refine ah A (ax jJZ.aK jJZ.bF) Tryz.func87 rfl (by kernel_rfl) ?_;cbv;refine(EC qc).mono (fun v h1 hR=>?_);obtain⟨l1,b',c',hv,qb⟩:=hR;subst hv;rcases qb.out with ⟨b0,g1,g2⟩ | ⟨nb,cap,g1,g2,o⟩
 ·have af:=hk h1 b' 0 0 l1 (by rw[g2];exact cF.nil);have f0:A .aI .lss 0 (A .nat 0)=false:=by rw[bm A,hA.nat];rfl
  cases g1;clear hk;cbv;refine aX.go (G:=Unit) (fun _=>[(11,.v (.int .i64 0))]) (fun _=>[(1,[.string nm,.slice cb 0 cc,.int .i64 key,.bool only,.slice rb rn rc])]) (fun m z h'=>h'=h1) 0 () ⟨?_,?_,?_⟩ rfl ?_
  ·cbv
  ·cbv
  ·cbv
  ·intro m z h' e;subst e;cbv;rw[f0];cbv;exact af
 ·have DF:=qc.len;cases g1;have kKP:cols.length=cols.length:=rfl;generalize hN:cols.length=N at *;obtain⟨I,aY⟩:∃I:Nat->Int->ad->Prop,∀m z h',I m z h'=∃i,aS z i/\i<=N/\m=N-i/\Kp [nb] h1 h'/\fX 165 bI h' nb c' ((cols.take i).map (ph nm)++cols.drop i):=⟨_,fun _ _ _=>rfl⟩;have hJ:I N 0 h1:=by rw[aY];exact⟨0,⟨rfl⟩,mQr _,rfl,Kp.refl _ _,o⟩
  have lKq:=qc.bound;clear o qb;cbv;refine aX.go (G:=Int) (fun z=>[(11,.v (.int .i64 z))]) (fun _=>[(1,[.string nm,.slice cb N cc,.int .i64 key,.bool only,.slice rb rn rc])]) (fun m z h'=>I m z h') N 0 ⟨?_,?_,?_⟩ hJ ?_
  ·cbv
  ·cbv
  ·cbv
  ·intro m z h2 hI;rw[aY]at hI;cbv;obtain⟨i,hz,hi,hm,k2,o⟩:=hI;have f1:A .aI .lss z (A .nat N)=decide (i<N):=hz.iJ (aS.nat N);rw[f1];by_cases aP:i<N
   ·obtain⟨c,eZF⟩:=aE (xs:=cols) (i:=i) (by omega);have CG:=GD eZF;have hg:=VJ (f:=ph nm) eZF;have mX:=VI (f:=ph nm) eZF;have hlen:((cols.take i).map (ph nm)++cols.drop i).length=N:=by simp;omega
    generalize (cols.take i).map (ph nm)++cols.drop i=L at *;have cJ:0<=z/\z<(N:Int):=hz.ix aP;have cN:=hz.eq;have cZ:=hz.succ (A:=A) (by omega);have kX:N-(i+1)<m:=by omega
    have FD:=FD c CG;have Ik:=Ik c;have cD:∀h3,Kp [nb] h2 h3->fX 165 bI h3 nb c' (L.set i (ph nm c))->I (N-(i+1)) (A .bB .add .i64 z 1) h3:=fun h3 k3 o3=>by
     rw[aY];exact⟨i+1,cZ,aP,rfl,k2.trans k3,by rw[<-mX];exact o3⟩
    have qs:=o.sl hlen.symm;clear aY hJ hk cZ;rw[kS aP];cbv;refine⟨jE,?_⟩;cbv;rw[hX];refine⟨⟨rfl,cJ⟩,?_⟩;cbv;refine qs.cC hg cN (o:=0) (m:=1) (by decide) (fun cs ay=>?_);obtain⟨Bt,Ln,WT⟩:=c;have ay:cs=[.string Bt,.int .i64 Ln,.bool WT]:=ay;subst ay;have Ik:A .cat X Bt=(ph nm ⟨Bt,Ln,WT⟩).name:=Ik;cbv;refine⟨FD,?_⟩;cbv;rw[Ik];generalize hy:(ph nm ⟨Bt,Ln,WT⟩).name=y at *;refine⟨⟨rfl,cJ⟩,?_⟩;cbv;refine o.LS (by decide) hg cN rfl (off:=0) (new:=[.string y]) (show 0+1<=3 by omega) (x':=ph nm ⟨Bt,Ln,WT⟩) (fun cs ay=>?_) (fun h3 k3 t3 o3=>?_)
    ·have ay:cs=[.string Bt,.int .i64 Ln,.bool WT]:=ay;subst ay;show [Value.string y,.int .i64 Ln,.bool WT]=[.string (ph nm ⟨Bt,Ln,WT⟩).name,.int .i64 Ln,.bool WT];rw[hy]
    ·have jd:=cD h3 k3 o3;clear cD;cbv;refine⟨N-(i+1),A .bB .add .i64 z 1,kX,⟨?_,?_,?_⟩,jd⟩
     ·cbv
     ·cbv
     ·cbv
   ·have lW:i=N:=by omega
    rw[lW,<-hN,mQM (mQt _),mQR (mQt _),mQF]at o;have pz:(cols.map (ph nm)).length=N:=by rw[mQz,hN]
    have af:=hk h2 (some ⟨nb,0,none⟩) N c' (l1.dJ (fun b hb=>by rw[mQA.1 hb];exact g2) k2) (o.buf g2 pz.symm);clear aY hJ hk;rw[nM aP];cbv;exact af
end Go.S
