import Derived.Test.YtekoaiendgjkdaaGreatQA
import Derived.Test.YtekoaiendgjkdaaGreatVB
import Derived.Test.YtekoaiendgjkdaaGreatEB
import Derived.Test.YtekoaiendgjkdaaGreatGB
import Derived.Test.YtekoaiendgjkdaaGreatGC
set_option linter.unusedVariables false
set_option linter.unusedSimpArgs false
set_option linter.unusedSectionVars false
set_option maxRecDepth 100000
set_option maxHeartbeats 8000000
namespace Go.S
open Go.Sx Go.Proofs
theorem nL{α:Type}{A:Ar}[aX A]{e e1:Nat}{s:Sh α}{h:ad}{b:Option Addr}{len cap:Nat}{xs:List (List α)}(q:Sl e (jH e1 s) h (.slice b len cap) xs){i:Nat}{x:List α}(hx:xs[i]? =some x){n:Int}(hn:n=(i:Int)){k:List Value->Prop}
 (hk:∀b1 n1 c1,Sl e1 s h (.slice b1 n1 c1) x->k [.slice b1 n1 c1]):ue h (A .jF b n 1) 1 k:=by
 refine q.load hx hn (fun cs aJ=>?_);obtain⟨v,rfl,hv⟩:=aJ;obtain⟨b1,c1,rfl,-⟩:=hv.out;exact hk _ _ _ hv
theorem qN{A:Ar}[aX A]{h:ad}{b:Option Addr}{len cap:Nat}{xs:List dp}(q:Sl 276 bW h (.slice b len cap) xs){i:Nat}{x:dp}(hx:xs[i]? =some x){n:Int}(hn:n=(i:Int)){k:List Value->Prop}
 (hk:∀b1 n1 c1,Sl 325 cT h (.slice b1 n1 c1) x.e->k [.int .i64 x.fn,.slice b1 n1 c1]):ue h (A .jF b n 2) 2 k:=by
 refine q.load hx hn (fun cs aJ=>?_);obtain⟨b1,n1,c1,rfl,hv⟩:=aJ;exact hk _ _ _ hv
theorem tg{xs:List (Row)}{p0 p1 p2 p3 p4:Value}{h:ad}{b:Option Addr}{n c:Nat}(hn:n=xs.length)(I:Nat->ad->Prop)(h0:I 0 h)(hq:∀i h',I i h'->Sl 59 az h' (.slice b n c) xs){k:Value->ad->Prop}
 (step:∀i x h' b1 n1 c1,i<n->xs[i]? =some x->I i h'->Sl 61 aQ h' (.slice b1 n1 c1) x->Ct 170 [.slice b1 n1 c1,p0,p1,p2,p3,p4] h' (fun r fX=>∃e,r=.int .i64 e/\(e=0->I (i+1) fX)/\(e≠0->k (.int .i64 e) fX)))
 (fin:∀h',I n h'->k (.int .i64 0) h'):
 Ct 92 [.slice b n c,.func (.func 170) #[] #[p0,p1,p2,p3,p4]] h k:=by
 obtain⟨A,hA⟩:=Ar.ex;have vt:=(hq 0 h h0).bound;obtain⟨J,dI⟩:∃J:Nat->Int->ad->Prop,∀m z h',J m z h'=∃i,aP z i/\i<=n/\m=n-i/\I i h':=⟨_,fun _ _ _=>rfl⟩;have hJ:J n 0 h:=by rw[dI];exact⟨0,⟨rfl⟩,Nat.zero_le _,rfl,h0⟩
 refine ah A (aq Lk.ax Lk.bm) Tryz.func92 rfl (by kernel_rfl) ?_;cbv;refine aZ.go (G:=Int) (fun z=>[(10,.v (.int .i64 z))]) (fun _=>[]) (fun m z h'=>J m z h') n 0 ⟨?_,?_,?_⟩ hJ ?_
 ·cbv
 ·cbv
 ·cbv
 ·intro m z h1 hI;rw[dI]at hI;cbv;obtain⟨i,hz,hi,hm,hI⟩:=hI;have f1:A .aF .lss z (A .nat n)=decide (i<n):=hz.gE (aP.nat n);rw[f1];by_cases aI:i<n
  ·obtain⟨x,hx⟩:=aD (xs:=xs) (i:=i) (by omega);have qs:=hq i h1 hI;have cy:b.isSome=true/\0<=z/\z<(n:Int):=⟨qs.bF (by omega),hz.ix aI⟩;have eX:=hz.eq;have dz:=hz.succ (A:=A) (by omega);have iD:n-(i+1)<m:=by omega
   have gH:∀h',I (i+1) h'->J (n-(i+1)) (A .bA .add .i64 z 1) h':=fun h' hh=>by rw[dI];exact⟨i+1,dz,aI,rfl,hh⟩
   have st:=step i x h1;clear dI hJ step fin hq;rw[decide_eq_true aI];cbv;refine⟨cy,?_⟩;cbv;refine nL qs hx eX (fun b1 n1 c1 hv=>?_);replace st:=st b1 n1 c1;cbv;refine(st aI hx hI hv).mono (fun r h2 hR=>?_);obtain⟨e,hr,gU,kE⟩:=hR;subst hr;have fe:A .aF .neq e 0=decide (e≠0):=ay A ..;by_cases h0:e=0
   ·have cU:=gH h2 (gU h0);clear gH gU kE st;cbv;rw[fe,decide_eq_false (fun g=>g h0)];cbv;refine⟨n-(i+1),A .bA .add .i64 z 1,iD,⟨?_,?_,?_⟩,cU⟩
    ·cbv
    ·cbv
    ·cbv
   ·have af:=kE h0;clear gH gU kE st;cbv;rw[fe,decide_eq_true h0];cbv;exact af
  ·have iE:i=n:=by omega
   subst iE;have af:=fin h1 hI;clear dI hJ step fin hq;rw[decide_eq_false aI];cbv;exact af
theorem Fw{xs:List (Row)}{f0:Value}{h:ad}{b:Option Addr}{n c:Nat}(hn:n=xs.length)(I:Nat->ad->Prop)(h0:I 0 h)(hq:∀i h',I i h'->Sl 59 az h' (.slice b n c) xs){k:Value->ad->Prop}
 (step:∀i x h' b1 n1 c1,i<n->xs[i]? =some x->I i h'->Sl 61 aQ h' (.slice b1 n1 c1) x->Ct 93 [f0,.slice b1 n1 c1] h' (fun r fX=>∃e,r=.int .i64 e/\(e=0->I (i+1) fX)/\(e≠0->k (.int .i64 e) fX)))
 (fin:∀h',I n h'->k (.int .i64 0) h'):
 Ct 92 [.slice b n c,.func (.func 93) #[f0] #[]] h k:=by
 obtain⟨A,hA⟩:=Ar.ex;have vt:=(hq 0 h h0).bound;obtain⟨J,dI⟩:∃J:Nat->Int->ad->Prop,∀m z h',J m z h'=∃i,aP z i/\i<=n/\m=n-i/\I i h':=⟨_,fun _ _ _=>rfl⟩;have hJ:J n 0 h:=by rw[dI];exact⟨0,⟨rfl⟩,Nat.zero_le _,rfl,h0⟩
 refine ah A (aq Lk.ax Lk.bm) Tryz.func92 rfl (by kernel_rfl) ?_;cbv;refine aZ.go (G:=Int) (fun z=>[(10,.v (.int .i64 z))]) (fun _=>[]) (fun m z h'=>J m z h') n 0 ⟨?_,?_,?_⟩ hJ ?_
 ·cbv
 ·cbv
 ·cbv
 ·intro m z h1 hI;rw[dI]at hI;cbv;obtain⟨i,hz,hi,hm,hI⟩:=hI;have f1:A .aF .lss z (A .nat n)=decide (i<n):=hz.gE (aP.nat n);rw[f1];by_cases aI:i<n
  ·obtain⟨x,hx⟩:=aD (xs:=xs) (i:=i) (by omega);have qs:=hq i h1 hI;have cy:b.isSome=true/\0<=z/\z<(n:Int):=⟨qs.bF (by omega),hz.ix aI⟩;have eX:=hz.eq;have dz:=hz.succ (A:=A) (by omega);have iD:n-(i+1)<m:=by omega
   have gH:∀h',I (i+1) h'->J (n-(i+1)) (A .bA .add .i64 z 1) h':=fun h' hh=>by rw[dI];exact⟨i+1,dz,aI,rfl,hh⟩
   have st:=step i x h1;clear dI hJ step fin hq;rw[decide_eq_true aI];cbv;refine⟨cy,?_⟩;cbv;refine nL qs hx eX (fun b1 n1 c1 hv=>?_);replace st:=st b1 n1 c1;cbv;refine(st aI hx hI hv).mono (fun r h2 hR=>?_);obtain⟨e,hr,gU,kE⟩:=hR;subst hr;have fe:A .aF .neq e 0=decide (e≠0):=ay A ..;by_cases h0:e=0
   ·have cU:=gH h2 (gU h0);clear gH gU kE st;cbv;rw[fe,decide_eq_false (fun g=>g h0)];cbv;refine⟨n-(i+1),A .bA .add .i64 z 1,iD,⟨?_,?_,?_⟩,cU⟩
    ·cbv
    ·cbv
    ·cbv
   ·have af:=kE h0;clear gH gU kE st;cbv;rw[fe,decide_eq_true h0];cbv;exact af
  ·have iE:i=n:=by omega
   subst iE;have af:=fin h1 hI;clear dI hJ step fin hq;rw[decide_eq_false aI];cbv;exact af
theorem JC{xs:List (Row)}{f0:Value}{h:ad}{b:Option Addr}{n c:Nat}(hn:n=xs.length)(I:Nat->ad->Prop)(h0:I 0 h)(hq:∀i h',I i h'->Sl 59 az h' (.slice b n c) xs){k:Value->ad->Prop}
 (step:∀i x h' b1 n1 c1,i<n->xs[i]? =some x->I i h'->Sl 61 aQ h' (.slice b1 n1 c1) x->Ct 94 [f0,.slice b1 n1 c1] h' (fun r fX=>∃e,r=.int .i64 e/\(e=0->I (i+1) fX)/\(e≠0->k (.int .i64 e) fX)))
 (fin:∀h',I n h'->k (.int .i64 0) h'):
 Ct 92 [.slice b n c,.func (.func 94) #[f0] #[]] h k:=by
 obtain⟨A,hA⟩:=Ar.ex;have vt:=(hq 0 h h0).bound;obtain⟨J,dI⟩:∃J:Nat->Int->ad->Prop,∀m z h',J m z h'=∃i,aP z i/\i<=n/\m=n-i/\I i h':=⟨_,fun _ _ _=>rfl⟩;have hJ:J n 0 h:=by rw[dI];exact⟨0,⟨rfl⟩,Nat.zero_le _,rfl,h0⟩
 refine ah A (aq Lk.ax Lk.bm) Tryz.func92 rfl (by kernel_rfl) ?_;cbv;refine aZ.go (G:=Int) (fun z=>[(10,.v (.int .i64 z))]) (fun _=>[]) (fun m z h'=>J m z h') n 0 ⟨?_,?_,?_⟩ hJ ?_
 ·cbv
 ·cbv
 ·cbv
 ·intro m z h1 hI;rw[dI]at hI;cbv;obtain⟨i,hz,hi,hm,hI⟩:=hI;have f1:A .aF .lss z (A .nat n)=decide (i<n):=hz.gE (aP.nat n);rw[f1];by_cases aI:i<n
  ·obtain⟨x,hx⟩:=aD (xs:=xs) (i:=i) (by omega);have qs:=hq i h1 hI;have cy:b.isSome=true/\0<=z/\z<(n:Int):=⟨qs.bF (by omega),hz.ix aI⟩;have eX:=hz.eq;have dz:=hz.succ (A:=A) (by omega);have iD:n-(i+1)<m:=by omega
   have gH:∀h',I (i+1) h'->J (n-(i+1)) (A .bA .add .i64 z 1) h':=fun h' hh=>by rw[dI];exact⟨i+1,dz,aI,rfl,hh⟩
   have st:=step i x h1;clear dI hJ step fin hq;rw[decide_eq_true aI];cbv;refine⟨cy,?_⟩;cbv;refine nL qs hx eX (fun b1 n1 c1 hv=>?_);replace st:=st b1 n1 c1;cbv;refine(st aI hx hI hv).mono (fun r h2 hR=>?_);obtain⟨e,hr,gU,kE⟩:=hR;subst hr;have fe:A .aF .neq e 0=decide (e≠0):=ay A ..;by_cases h0:e=0
   ·have cU:=gH h2 (gU h0);clear gH gU kE st;cbv;rw[fe,decide_eq_false (fun g=>g h0)];cbv;refine⟨n-(i+1),A .bA .add .i64 z 1,iD,⟨?_,?_,?_⟩,cU⟩
    ·cbv
    ·cbv
    ·cbv
   ·have af:=kE h0;clear gH gU kE st;cbv;rw[fe,decide_eq_true h0];cbv;exact af
  ·have iE:i=n:=by omega
   subst iE;have af:=fin h1 hI;clear dI hJ step fin hq;rw[decide_eq_false aI];cbv;exact af
theorem Fy{xs:List (Row)}{p0 p1 p2:Value}{h:ad}{b:Option Addr}{n c:Nat}(hn:n=xs.length)(I:Nat->ad->Prop)(h0:I 0 h)(hq:∀i h',I i h'->Sl 59 az h' (.slice b n c) xs){k:Value->ad->Prop}
 (step:∀i x h' b1 n1 c1,i<n->xs[i]? =some x->I i h'->Sl 61 aQ h' (.slice b1 n1 c1) x->Ct 188 [.slice b1 n1 c1,p0,p1,p2] h' (fun r fX=>∃e,r=.int .i64 e/\(e=0->I (i+1) fX)/\(e≠0->k (.int .i64 e) fX)))
 (fin:∀h',I n h'->k (.int .i64 0) h'):
 Ct 92 [.slice b n c,.func (.func 188) #[] #[p0,p1,p2]] h k:=by
 obtain⟨A,hA⟩:=Ar.ex;have vt:=(hq 0 h h0).bound;obtain⟨J,dI⟩:∃J:Nat->Int->ad->Prop,∀m z h',J m z h'=∃i,aP z i/\i<=n/\m=n-i/\I i h':=⟨_,fun _ _ _=>rfl⟩;have hJ:J n 0 h:=by rw[dI];exact⟨0,⟨rfl⟩,Nat.zero_le _,rfl,h0⟩
 refine ah A (aq Lk.ax Lk.bm) Tryz.func92 rfl (by kernel_rfl) ?_;cbv;refine aZ.go (G:=Int) (fun z=>[(10,.v (.int .i64 z))]) (fun _=>[]) (fun m z h'=>J m z h') n 0 ⟨?_,?_,?_⟩ hJ ?_
 ·cbv
 ·cbv
 ·cbv
 ·intro m z h1 hI;rw[dI]at hI;cbv;obtain⟨i,hz,hi,hm,hI⟩:=hI;have f1:A .aF .lss z (A .nat n)=decide (i<n):=hz.gE (aP.nat n);rw[f1];by_cases aI:i<n
  ·obtain⟨x,hx⟩:=aD (xs:=xs) (i:=i) (by omega);have qs:=hq i h1 hI;have cy:b.isSome=true/\0<=z/\z<(n:Int):=⟨qs.bF (by omega),hz.ix aI⟩;have eX:=hz.eq;have dz:=hz.succ (A:=A) (by omega);have iD:n-(i+1)<m:=by omega
   have gH:∀h',I (i+1) h'->J (n-(i+1)) (A .bA .add .i64 z 1) h':=fun h' hh=>by rw[dI];exact⟨i+1,dz,aI,rfl,hh⟩
   have st:=step i x h1;clear dI hJ step fin hq;rw[decide_eq_true aI];cbv;refine⟨cy,?_⟩;cbv;refine nL qs hx eX (fun b1 n1 c1 hv=>?_);replace st:=st b1 n1 c1;cbv;refine(st aI hx hI hv).mono (fun r h2 hR=>?_);obtain⟨e,hr,gU,kE⟩:=hR;subst hr;have fe:A .aF .neq e 0=decide (e≠0):=ay A ..;by_cases h0:e=0
   ·have cU:=gH h2 (gU h0);clear gH gU kE st;cbv;rw[fe,decide_eq_false (fun g=>g h0)];cbv;refine⟨n-(i+1),A .bA .add .i64 z 1,iD,⟨?_,?_,?_⟩,cU⟩
    ·cbv
    ·cbv
    ·cbv
   ·have af:=kE h0;clear gH gU kE st;cbv;rw[fe,decide_eq_true h0];cbv;exact af
  ·have iE:i=n:=by omega
   subst iE;have af:=fin h1 hI;clear dI hJ step fin hq;rw[decide_eq_false aI];cbv;exact af
theorem CK{xs:List (Row)}{p0 p1 p2:Value}{h:ad}{b:Option Addr}{n c:Nat}(hn:n=xs.length)(I:Nat->ad->Prop)(h0:I 0 h)(hq:∀i h',I i h'->Sl 59 az h' (.slice b n c) xs){k:Value->ad->Prop}
 (step:∀i x h' b1 n1 c1,i<n->xs[i]? =some x->I i h'->Sl 61 aQ h' (.slice b1 n1 c1) x->Ct 189 [.slice b1 n1 c1,p0,p1,p2] h' (fun r fX=>∃e,r=.int .i64 e/\(e=0->I (i+1) fX)/\(e≠0->k (.int .i64 e) fX)))
 (fin:∀h',I n h'->k (.int .i64 0) h'):
 Ct 92 [.slice b n c,.func (.func 189) #[] #[p0,p1,p2]] h k:=by
 obtain⟨A,hA⟩:=Ar.ex;have vt:=(hq 0 h h0).bound;obtain⟨J,dI⟩:∃J:Nat->Int->ad->Prop,∀m z h',J m z h'=∃i,aP z i/\i<=n/\m=n-i/\I i h':=⟨_,fun _ _ _=>rfl⟩;have hJ:J n 0 h:=by rw[dI];exact⟨0,⟨rfl⟩,Nat.zero_le _,rfl,h0⟩
 refine ah A (aq Lk.ax Lk.bm) Tryz.func92 rfl (by kernel_rfl) ?_;cbv;refine aZ.go (G:=Int) (fun z=>[(10,.v (.int .i64 z))]) (fun _=>[]) (fun m z h'=>J m z h') n 0 ⟨?_,?_,?_⟩ hJ ?_
 ·cbv
 ·cbv
 ·cbv
 ·intro m z h1 hI;rw[dI]at hI;cbv;obtain⟨i,hz,hi,hm,hI⟩:=hI;have f1:A .aF .lss z (A .nat n)=decide (i<n):=hz.gE (aP.nat n);rw[f1];by_cases aI:i<n
  ·obtain⟨x,hx⟩:=aD (xs:=xs) (i:=i) (by omega);have qs:=hq i h1 hI;have cy:b.isSome=true/\0<=z/\z<(n:Int):=⟨qs.bF (by omega),hz.ix aI⟩;have eX:=hz.eq;have dz:=hz.succ (A:=A) (by omega);have iD:n-(i+1)<m:=by omega
   have gH:∀h',I (i+1) h'->J (n-(i+1)) (A .bA .add .i64 z 1) h':=fun h' hh=>by rw[dI];exact⟨i+1,dz,aI,rfl,hh⟩
   have st:=step i x h1;clear dI hJ step fin hq;rw[decide_eq_true aI];cbv;refine⟨cy,?_⟩;cbv;refine nL qs hx eX (fun b1 n1 c1 hv=>?_);replace st:=st b1 n1 c1;cbv;refine(st aI hx hI hv).mono (fun r h2 hR=>?_);obtain⟨e,hr,gU,kE⟩:=hR;subst hr;have fe:A .aF .neq e 0=decide (e≠0):=ay A ..;by_cases h0:e=0
   ·have cU:=gH h2 (gU h0);clear gH gU kE st;cbv;rw[fe,decide_eq_false (fun g=>g h0)];cbv;refine⟨n-(i+1),A .bA .add .i64 z 1,iD,⟨?_,?_,?_⟩,cU⟩
    ·cbv
    ·cbv
    ·cbv
   ·have af:=kE h0;clear gH gU kE st;cbv;rw[fe,decide_eq_true h0];cbv;exact af
  ·have iE:i=n:=by omega
   subst iE;have af:=fin h1 hI;clear dI hJ step fin hq;rw[decide_eq_false aI];cbv;exact af
theorem AO{xs:List (List Nd)}{p0 p1 p2:Value}{h:ad}{b:Option Addr}{n c:Nat}(hn:n=xs.length)(I:Nat->ad->Prop)(h0:I 0 h)(hq:∀i h',I i h'->Sl 42 eR h' (.slice b n c) xs){k:Value->ad->Prop}
 (step:∀i x h' b1 n1 c1,i<n->xs[i]? =some x->I i h'->Sl 325 cT h' (.slice b1 n1 c1) x->Ct 162 [.slice b1 n1 c1,p0,p1,p2] h' (fun r fX=>∃e,r=.int .i64 e/\(e=0->I (i+1) fX)/\(e≠0->k (.int .i64 e) fX)))
 (fin:∀h',I n h'->k (.int .i64 0) h'):
 Ct 161 [.slice b n c,.func (.func 162) #[] #[p0,p1,p2]] h k:=by
 obtain⟨A,hA⟩:=Ar.ex;have vt:=(hq 0 h h0).bound;obtain⟨J,dI⟩:∃J:Nat->Int->ad->Prop,∀m z h',J m z h'=∃i,aP z i/\i<=n/\m=n-i/\I i h':=⟨_,fun _ _ _=>rfl⟩;have hJ:J n 0 h:=by rw[dI];exact⟨0,⟨rfl⟩,Nat.zero_le _,rfl,h0⟩
 refine ah A (aq ZG.ax ZG.bm) Tryz.func161 rfl (by kernel_rfl) ?_;cbv;refine aZ.go (G:=Int) (fun z=>[(10,.v (.int .i64 z))]) (fun _=>[]) (fun m z h'=>J m z h') n 0 ⟨?_,?_,?_⟩ hJ ?_
 ·cbv
 ·cbv
 ·cbv
 ·intro m z h1 hI;rw[dI]at hI;cbv;obtain⟨i,hz,hi,hm,hI⟩:=hI;have f1:A .aF .lss z (A .nat n)=decide (i<n):=hz.gE (aP.nat n);rw[f1];by_cases aI:i<n
  ·obtain⟨x,hx⟩:=aD (xs:=xs) (i:=i) (by omega);have qs:=hq i h1 hI;have cy:b.isSome=true/\0<=z/\z<(n:Int):=⟨qs.bF (by omega),hz.ix aI⟩;have eX:=hz.eq;have dz:=hz.succ (A:=A) (by omega);have iD:n-(i+1)<m:=by omega
   have gH:∀h',I (i+1) h'->J (n-(i+1)) (A .bA .add .i64 z 1) h':=fun h' hh=>by rw[dI];exact⟨i+1,dz,aI,rfl,hh⟩
   have st:=step i x h1;clear dI hJ step fin hq;rw[decide_eq_true aI];cbv;refine⟨cy,?_⟩;cbv;refine nL qs hx eX (fun b1 n1 c1 hv=>?_);replace st:=st b1 n1 c1;cbv;refine(st aI hx hI hv).mono (fun r h2 hR=>?_);obtain⟨e,hr,gU,kE⟩:=hR;subst hr;have fe:A .aF .neq e 0=decide (e≠0):=ay A ..;by_cases h0:e=0
   ·have cU:=gH h2 (gU h0);clear gH gU kE st;cbv;rw[fe,decide_eq_false (fun g=>g h0)];cbv;refine⟨n-(i+1),A .bA .add .i64 z 1,iD,⟨?_,?_,?_⟩,cU⟩
    ·cbv
    ·cbv
    ·cbv
   ·have af:=kE h0;clear gH gU kE st;cbv;rw[fe,decide_eq_true h0];cbv;exact af
  ·have iE:i=n:=by omega
   subst iE;have af:=fin h1 hI;clear dI hJ step fin hq;rw[decide_eq_false aI];cbv;exact af
theorem FA{xs:List (ByteArray)}{p0 p1:Value}{h:ad}{b:Option Addr}{n c:Nat}(hn:n=xs.length)(I:Nat->ad->Prop)(h0:I 0 h)(hq:∀i h',I i h'->Sl 9 cj h' (.slice b n c) xs){k:Value->ad->Prop}
 (step:∀i x h',i<n->xs[i]? =some x->I i h'->True->Ct 166 [.string x,p0,p1] h' (fun r fX=>∃e,r=.int .i64 e/\(e=0->I (i+1) fX)/\(e≠0->k (.int .i64 e) fX)))
 (fin:∀h',I n h'->k (.int .i64 0) h'):
 Ct 99 [.slice b n c,.func (.func 166) #[] #[p0,p1]] h k:=by
 obtain⟨A,hA⟩:=Ar.ex;have vt:=(hq 0 h h0).bound;obtain⟨J,dI⟩:∃J:Nat->Int->ad->Prop,∀m z h',J m z h'=∃i,aP z i/\i<=n/\m=n-i/\I i h':=⟨_,fun _ _ _=>rfl⟩;have hJ:J n 0 h:=by rw[dI];exact⟨0,⟨rfl⟩,Nat.zero_le _,rfl,h0⟩
 refine ah A (aq T99.ax T99.bm) Tryz.func99 rfl (by kernel_rfl) ?_;cbv;refine aZ.go (G:=Int) (fun z=>[(10,.v (.int .i64 z))]) (fun _=>[]) (fun m z h'=>J m z h') n 0 ⟨?_,?_,?_⟩ hJ ?_
 ·cbv
 ·cbv
 ·cbv
 ·intro m z h1 hI;rw[dI]at hI;cbv;obtain⟨i,hz,hi,hm,hI⟩:=hI;have f1:A .aF .lss z (A .nat n)=decide (i<n):=hz.gE (aP.nat n);rw[f1];by_cases aI:i<n
  ·obtain⟨x,hx⟩:=aD (xs:=xs) (i:=i) (by omega);have qs:=hq i h1 hI;have cy:b.isSome=true/\0<=z/\z<(n:Int):=⟨qs.bF (by omega),hz.ix aI⟩;have eX:=hz.eq;have dz:=hz.succ (A:=A) (by omega);have iD:n-(i+1)<m:=by omega
   have gH:∀h',I (i+1) h'->J (n-(i+1)) (A .bA .add .i64 z 1) h':=fun h' hh=>by rw[dI];exact⟨i+1,dz,aI,rfl,hh⟩
   have st:=step i x h1;clear dI hJ step fin hq;rw[decide_eq_true aI];cbv;refine⟨cy,?_⟩;cbv;refine qs.load hx eX (fun cs aJ=>?_);have aJ:cs=[.string x]:=aJ;subst aJ;have hv:=trivial;cbv;refine(st aI hx hI hv).mono (fun r h2 hR=>?_);obtain⟨e,hr,gU,kE⟩:=hR;subst hr;have fe:A .aF .neq e 0=decide (e≠0):=ay A ..;by_cases h0:e=0
   ·have cU:=gH h2 (gU h0);clear gH gU kE st;cbv;rw[fe,decide_eq_false (fun g=>g h0)];cbv;refine⟨n-(i+1),A .bA .add .i64 z 1,iD,⟨?_,?_,?_⟩,cU⟩
    ·cbv
    ·cbv
    ·cbv
   ·have af:=kE h0;clear gH gU kE st;cbv;rw[fe,decide_eq_true h0];cbv;exact af
  ·have iE:i=n:=by omega
   subst iE;have af:=fin h1 hI;clear dI hJ step fin hq;rw[decide_eq_false aI];cbv;exact af
theorem JB{xs:List (ByteArray)}{p0:Value}{h:ad}{b:Option Addr}{n c:Nat}(hn:n=xs.length)(I:Nat->ad->Prop)(h0:I 0 h)(hq:∀i h',I i h'->Sl 9 cj h' (.slice b n c) xs){k:Value->ad->Prop}
 (step:∀i x h',i<n->xs[i]? =some x->I i h'->True->Ct 98 [.string x,p0] h' (fun r fX=>∃e,r=.int .i64 e/\(e=0->I (i+1) fX)/\(e≠0->k (.int .i64 e) fX)))
 (fin:∀h',I n h'->k (.int .i64 0) h'):
 Ct 99 [.slice b n c,.func (.func 98) #[] #[p0]] h k:=by
 obtain⟨A,hA⟩:=Ar.ex;have vt:=(hq 0 h h0).bound;obtain⟨J,dI⟩:∃J:Nat->Int->ad->Prop,∀m z h',J m z h'=∃i,aP z i/\i<=n/\m=n-i/\I i h':=⟨_,fun _ _ _=>rfl⟩;have hJ:J n 0 h:=by rw[dI];exact⟨0,⟨rfl⟩,Nat.zero_le _,rfl,h0⟩
 refine ah A (aq T99.ax T99.bm) Tryz.func99 rfl (by kernel_rfl) ?_;cbv;refine aZ.go (G:=Int) (fun z=>[(10,.v (.int .i64 z))]) (fun _=>[]) (fun m z h'=>J m z h') n 0 ⟨?_,?_,?_⟩ hJ ?_
 ·cbv
 ·cbv
 ·cbv
 ·intro m z h1 hI;rw[dI]at hI;cbv;obtain⟨i,hz,hi,hm,hI⟩:=hI;have f1:A .aF .lss z (A .nat n)=decide (i<n):=hz.gE (aP.nat n);rw[f1];by_cases aI:i<n
  ·obtain⟨x,hx⟩:=aD (xs:=xs) (i:=i) (by omega);have qs:=hq i h1 hI;have cy:b.isSome=true/\0<=z/\z<(n:Int):=⟨qs.bF (by omega),hz.ix aI⟩;have eX:=hz.eq;have dz:=hz.succ (A:=A) (by omega);have iD:n-(i+1)<m:=by omega
   have gH:∀h',I (i+1) h'->J (n-(i+1)) (A .bA .add .i64 z 1) h':=fun h' hh=>by rw[dI];exact⟨i+1,dz,aI,rfl,hh⟩
   have st:=step i x h1;clear dI hJ step fin hq;rw[decide_eq_true aI];cbv;refine⟨cy,?_⟩;cbv;refine qs.load hx eX (fun cs aJ=>?_);have aJ:cs=[.string x]:=aJ;subst aJ;have hv:=trivial;cbv;refine(st aI hx hI hv).mono (fun r h2 hR=>?_);obtain⟨e,hr,gU,kE⟩:=hR;subst hr;have fe:A .aF .neq e 0=decide (e≠0):=ay A ..;by_cases h0:e=0
   ·have cU:=gH h2 (gU h0);clear gH gU kE st;cbv;rw[fe,decide_eq_false (fun g=>g h0)];cbv;refine⟨n-(i+1),A .bA .add .i64 z 1,iD,⟨?_,?_,?_⟩,cU⟩
    ·cbv
    ·cbv
    ·cbv
   ·have af:=kE h0;clear gH gU kE st;cbv;rw[fe,decide_eq_true h0];cbv;exact af
  ·have iE:i=n:=by omega
   subst iE;have af:=fin h1 hI;clear dI hJ step fin hq;rw[decide_eq_false aI];cbv;exact af
theorem Fz{xs:List (dp)}{f0:Value}{h:ad}{b:Option Addr}{n c:Nat}(hn:n=xs.length)(I:Nat->ad->Prop)(h0:I 0 h)(hq:∀i h',I i h'->Sl 276 bW h' (.slice b n c) xs){k:Value->ad->Prop}
 (step:∀i x h' b1 n1 c1,i<n->xs[i]? =some x->I i h'->Sl 325 cT h' (.slice b1 n1 c1) x.e->Ct 179 [f0,.agg #[.int .i64 x.fn,.slice b1 n1 c1]] h' (fun r fX=>∃e,r=.int .i64 e/\(e=0->I (i+1) fX)/\(e≠0->k (.int .i64 e) fX)))
 (fin:∀h',I n h'->k (.int .i64 0) h'):
 Ct 178 [.slice b n c,.func (.func 179) #[f0] #[]] h k:=by
 obtain⟨A,hA⟩:=Ar.ex;have vt:=(hq 0 h h0).bound;obtain⟨J,dI⟩:∃J:Nat->Int->ad->Prop,∀m z h',J m z h'=∃i,aP z i/\i<=n/\m=n-i/\I i h':=⟨_,fun _ _ _=>rfl⟩;have hJ:J n 0 h:=by rw[dI];exact⟨0,⟨rfl⟩,Nat.zero_le _,rfl,h0⟩
 refine ah A (aq Ge.ax Ge.bm) Tryz.func178 rfl (by kernel_rfl) ?_;cbv;refine aZ.go (G:=Int) (fun z=>[(10,.v (.int .i64 z))]) (fun _=>[]) (fun m z h'=>J m z h') n 0 ⟨?_,?_,?_⟩ hJ ?_
 ·cbv
 ·cbv
 ·cbv
 ·intro m z h1 hI;rw[dI]at hI;cbv;obtain⟨i,hz,hi,hm,hI⟩:=hI;have f1:A .aF .lss z (A .nat n)=decide (i<n):=hz.gE (aP.nat n);rw[f1];by_cases aI:i<n
  ·obtain⟨x,hx⟩:=aD (xs:=xs) (i:=i) (by omega);have qs:=hq i h1 hI;have cy:b.isSome=true/\0<=z/\z<(n:Int):=⟨qs.bF (by omega),hz.ix aI⟩;have eX:=hz.eq;have dz:=hz.succ (A:=A) (by omega);have iD:n-(i+1)<m:=by omega
   have gH:∀h',I (i+1) h'->J (n-(i+1)) (A .bA .add .i64 z 1) h':=fun h' hh=>by rw[dI];exact⟨i+1,dz,aI,rfl,hh⟩
   have st:=step i x h1;clear dI hJ step fin hq;rw[decide_eq_true aI];cbv;refine⟨cy,?_⟩;cbv;refine qN qs hx eX (fun b1 n1 c1 hv=>?_);replace st:=st b1 n1 c1;obtain⟨xf,xe⟩:=x;cbv;refine(st aI hx hI hv).mono (fun r h2 hR=>?_);obtain⟨e,hr,gU,kE⟩:=hR;subst hr;have fe:A .aF .neq e 0=decide (e≠0):=ay A ..;by_cases h0:e=0
   ·have cU:=gH h2 (gU h0);clear gH gU kE st;cbv;rw[fe,decide_eq_false (fun g=>g h0)];cbv;refine⟨n-(i+1),A .bA .add .i64 z 1,iD,⟨?_,?_,?_⟩,cU⟩
    ·cbv
    ·cbv
    ·cbv
   ·have af:=kE h0;clear gH gU kE st;cbv;rw[fe,decide_eq_true h0];cbv;exact af
  ·have iE:i=n:=by omega
   subst iE;have af:=fin h1 hI;clear dI hJ step fin hq;rw[decide_eq_false aI];cbv;exact af
theorem j8{xs:List (dp)}{f0:Value}{h:ad}{b:Option Addr}{n c:Nat}(hn:n=xs.length)(I:Nat->ad->Prop)(h0:I 0 h)(hq:∀i h',I i h'->Sl 276 bW h' (.slice b n c) xs){k:Value->ad->Prop}
 (step:∀i x h' b1 n1 c1,i<n->xs[i]? =some x->I i h'->Sl 325 cT h' (.slice b1 n1 c1) x.e->Ct 187 [f0,.agg #[.int .i64 x.fn,.slice b1 n1 c1]] h' (fun r fX=>∃e,r=.int .i64 e/\(e=0->I (i+1) fX)/\(e≠0->k (.int .i64 e) fX)))
 (fin:∀h',I n h'->k (.int .i64 0) h'):
 Ct 178 [.slice b n c,.func (.func 187) #[f0] #[]] h k:=by
 obtain⟨A,hA⟩:=Ar.ex;have vt:=(hq 0 h h0).bound;obtain⟨J,dI⟩:∃J:Nat->Int->ad->Prop,∀m z h',J m z h'=∃i,aP z i/\i<=n/\m=n-i/\I i h':=⟨_,fun _ _ _=>rfl⟩;have hJ:J n 0 h:=by rw[dI];exact⟨0,⟨rfl⟩,Nat.zero_le _,rfl,h0⟩
 refine ah A (aq Ge.ax Ge.bm) Tryz.func178 rfl (by kernel_rfl) ?_;cbv;refine aZ.go (G:=Int) (fun z=>[(10,.v (.int .i64 z))]) (fun _=>[]) (fun m z h'=>J m z h') n 0 ⟨?_,?_,?_⟩ hJ ?_
 ·cbv
 ·cbv
 ·cbv
 ·intro m z h1 hI;rw[dI]at hI;cbv;obtain⟨i,hz,hi,hm,hI⟩:=hI;have f1:A .aF .lss z (A .nat n)=decide (i<n):=hz.gE (aP.nat n);rw[f1];by_cases aI:i<n
  ·obtain⟨x,hx⟩:=aD (xs:=xs) (i:=i) (by omega);have qs:=hq i h1 hI;have cy:b.isSome=true/\0<=z/\z<(n:Int):=⟨qs.bF (by omega),hz.ix aI⟩;have eX:=hz.eq;have dz:=hz.succ (A:=A) (by omega);have iD:n-(i+1)<m:=by omega
   have gH:∀h',I (i+1) h'->J (n-(i+1)) (A .bA .add .i64 z 1) h':=fun h' hh=>by rw[dI];exact⟨i+1,dz,aI,rfl,hh⟩
   have st:=step i x h1;clear dI hJ step fin hq;rw[decide_eq_true aI];cbv;refine⟨cy,?_⟩;cbv;refine qN qs hx eX (fun b1 n1 c1 hv=>?_);replace st:=st b1 n1 c1;obtain⟨xf,xe⟩:=x;cbv;refine(st aI hx hI hv).mono (fun r h2 hR=>?_);obtain⟨e,hr,gU,kE⟩:=hR;subst hr;have fe:A .aF .neq e 0=decide (e≠0):=ay A ..;by_cases h0:e=0
   ·have cU:=gH h2 (gU h0);clear gH gU kE st;cbv;rw[fe,decide_eq_false (fun g=>g h0)];cbv;refine⟨n-(i+1),A .bA .add .i64 z 1,iD,⟨?_,?_,?_⟩,cU⟩
    ·cbv
    ·cbv
    ·cbv
   ·have af:=kE h0;clear gH gU kE st;cbv;rw[fe,decide_eq_true h0];cbv;exact af
  ·have iE:i=n:=by omega
   subst iE;have af:=fin h1 hI;clear dI hJ step fin hq;rw[decide_eq_false aI];cbv;exact af
theorem AP{xs:List (dp)}{p0 p1 p2:Value}{h:ad}{b:Option Addr}{n c:Nat}(hn:n=xs.length)(I:Nat->ad->Prop)(h0:I 0 h)(hq:∀i h',I i h'->Sl 276 bW h' (.slice b n c) xs){k:Value->ad->Prop}
 (step:∀i x h' b1 n1 c1,i<n->xs[i]? =some x->I i h'->Sl 325 cT h' (.slice b1 n1 c1) x.e->Ct 198 [.agg #[.int .i64 x.fn,.slice b1 n1 c1],p0,p1,p2] h' (fun r fX=>∃e,r=.int .i64 e/\(e=0->I (i+1) fX)/\(e≠0->k (.int .i64 e) fX)))
 (fin:∀h',I n h'->k (.int .i64 0) h'):
 Ct 178 [.slice b n c,.func (.func 198) #[] #[p0,p1,p2]] h k:=by
 obtain⟨A,hA⟩:=Ar.ex;have vt:=(hq 0 h h0).bound;obtain⟨J,dI⟩:∃J:Nat->Int->ad->Prop,∀m z h',J m z h'=∃i,aP z i/\i<=n/\m=n-i/\I i h':=⟨_,fun _ _ _=>rfl⟩;have hJ:J n 0 h:=by rw[dI];exact⟨0,⟨rfl⟩,Nat.zero_le _,rfl,h0⟩
 refine ah A (aq Ge.ax Ge.bm) Tryz.func178 rfl (by kernel_rfl) ?_;cbv;refine aZ.go (G:=Int) (fun z=>[(10,.v (.int .i64 z))]) (fun _=>[]) (fun m z h'=>J m z h') n 0 ⟨?_,?_,?_⟩ hJ ?_
 ·cbv
 ·cbv
 ·cbv
 ·intro m z h1 hI;rw[dI]at hI;cbv;obtain⟨i,hz,hi,hm,hI⟩:=hI;have f1:A .aF .lss z (A .nat n)=decide (i<n):=hz.gE (aP.nat n);rw[f1];by_cases aI:i<n
  ·obtain⟨x,hx⟩:=aD (xs:=xs) (i:=i) (by omega);have qs:=hq i h1 hI;have cy:b.isSome=true/\0<=z/\z<(n:Int):=⟨qs.bF (by omega),hz.ix aI⟩;have eX:=hz.eq;have dz:=hz.succ (A:=A) (by omega);have iD:n-(i+1)<m:=by omega
   have gH:∀h',I (i+1) h'->J (n-(i+1)) (A .bA .add .i64 z 1) h':=fun h' hh=>by rw[dI];exact⟨i+1,dz,aI,rfl,hh⟩
   have st:=step i x h1;clear dI hJ step fin hq;rw[decide_eq_true aI];cbv;refine⟨cy,?_⟩;cbv;refine qN qs hx eX (fun b1 n1 c1 hv=>?_);replace st:=st b1 n1 c1;obtain⟨xf,xe⟩:=x;cbv;refine(st aI hx hI hv).mono (fun r h2 hR=>?_);obtain⟨e,hr,gU,kE⟩:=hR;subst hr;have fe:A .aF .neq e 0=decide (e≠0):=ay A ..;by_cases h0:e=0
   ·have cU:=gH h2 (gU h0);clear gH gU kE st;cbv;rw[fe,decide_eq_false (fun g=>g h0)];cbv;refine⟨n-(i+1),A .bA .add .i64 z 1,iD,⟨?_,?_,?_⟩,cU⟩
    ·cbv
    ·cbv
    ·cbv
   ·have af:=kE h0;clear gH gU kE st;cbv;rw[fe,decide_eq_true h0];cbv;exact af
  ·have iE:i=n:=by omega
   subst iE;have af:=fin h1 hI;clear dI hJ step fin hq;rw[decide_eq_false aI];cbv;exact af
def Hx(p:Value):Sh Nat where
 n:=1
 R _ cs g:=cs=[.func (.func g) #[] #[p]]
 len:=by rintro h cs x rfl;rfl
 one:=by rintro h cs x rfl;rfl
 tys:=[]
 mono:=fun _ q=>q
theorem CL{p:Value}{xs:List (Nat)}{h:ad}{b:Option Addr}{n c:Nat}(hn:n=xs.length)(I:Nat->ad->Prop)(h0:I 0 h)(hq:∀i h',I i h'->Sl 173 (Hx p) h' (.slice b n c) xs){k:Value->ad->Prop}
 (step:∀i x h',i<n->xs[i]? =some x->I i h'->True->Ct 184 [.func (.func x) #[] #[p]] h' (fun r fX=>∃e,r=.int .i64 e/\(e=0->I (i+1) fX)/\(e≠0->k (.int .i64 e) fX)))
 (fin:∀h',I n h'->k (.int .i64 0) h'):
 Ct 183 [.slice b n c,.func (.func 184) #[] #[]] h k:=by
 obtain⟨A,hA⟩:=Ar.ex;have vt:=(hq 0 h h0).bound;obtain⟨J,dI⟩:∃J:Nat->Int->ad->Prop,∀m z h',J m z h'=∃i,aP z i/\i<=n/\m=n-i/\I i h':=⟨_,fun _ _ _=>rfl⟩;have hJ:J n 0 h:=by rw[dI];exact⟨0,⟨rfl⟩,Nat.zero_le _,rfl,h0⟩
 refine ah A (aq Zo.ax Zo.bm) Tryz.func183 rfl (by kernel_rfl) ?_;cbv;refine aZ.go (G:=Int) (fun z=>[(10,.v (.int .i64 z))]) (fun _=>[]) (fun m z h'=>J m z h') n 0 ⟨?_,?_,?_⟩ hJ ?_
 ·cbv
 ·cbv
 ·cbv
 ·intro m z h1 hI;rw[dI]at hI;cbv;obtain⟨i,hz,hi,hm,hI⟩:=hI;have f1:A .aF .lss z (A .nat n)=decide (i<n):=hz.gE (aP.nat n);rw[f1];by_cases aI:i<n
  ·obtain⟨x,hx⟩:=aD (xs:=xs) (i:=i) (by omega);have qs:=hq i h1 hI;have cy:b.isSome=true/\0<=z/\z<(n:Int):=⟨qs.bF (by omega),hz.ix aI⟩;have eX:=hz.eq;have dz:=hz.succ (A:=A) (by omega);have iD:n-(i+1)<m:=by omega
   have gH:∀h',I (i+1) h'->J (n-(i+1)) (A .bA .add .i64 z 1) h':=fun h' hh=>by rw[dI];exact⟨i+1,dz,aI,rfl,hh⟩
   have st:=step i x h1;clear dI hJ step fin hq;rw[decide_eq_true aI];cbv;refine⟨cy,?_⟩;cbv;refine qs.load hx eX (fun cs aJ=>?_);have aJ:cs=[.func (.func x) #[] #[p]]:=aJ;subst aJ;have hv:=trivial;cbv;refine(st aI hx hI hv).mono (fun r h2 hR=>?_);obtain⟨e,hr,gU,kE⟩:=hR;subst hr;have fe:A .aF .neq e 0=decide (e≠0):=ay A ..;by_cases h0:e=0
   ·have cU:=gH h2 (gU h0);clear gH gU kE st;cbv;rw[fe,decide_eq_false (fun g=>g h0)];cbv;refine⟨n-(i+1),A .bA .add .i64 z 1,iD,⟨?_,?_,?_⟩,cU⟩
    ·cbv
    ·cbv
    ·cbv
   ·have af:=kE h0;clear gH gU kE st;cbv;rw[fe,decide_eq_true h0];cbv;exact af
  ·have iE:i=n:=by omega
   subst iE;have af:=fin h1 hI;clear dI hJ step fin hq;rw[decide_eq_false aI];cbv;exact af
theorem yI{ex:List Nd}(hn:∀n∈ex,Nm n.name/\kO n.v){cols:List bM}(hc:∀c∈cols,Nm c.name)(want:Int){h:ad}{eb:Option Addr}{en ec:Nat}(qe:Sl 325 cT h (.slice eb en ec) ex){cb:Option Addr}{cn cc:Nat}(qc:Sl 165 aT h (.slice cb cn cc) cols){k:Value->ad->Prop}
 (hk:∀h' e,Le h h'->e=eW ex cols want->k (.int .i64 e) h'):Ct 168 [.slice eb en ec,.slice cb cn cc,.int .i64 want] h k:=by
 obtain⟨A,hA⟩:=Ar.ex;have hP:eW ex cols want=match jB ex cols with
  | (k,f)=>if f=0/\k≠0/\k≠want then 3 else f:=rfl
 generalize eW ex cols want=D at *;refine ah A (aq ZA.ax ZA.bm) Tryz.func168 rfl (by kernel_rfl) ?_;cbv;refine Kx (fun n hh=>(hn n hh).1) hc qe qc (fun h1 kd e l1 eN=>?_);rw[<-eN]at hP;replace hP:D=if e=0/\kd≠0/\kd≠want then 3 else e:=hP
 have hk:=fun x hx=>hk h1 x l1 hx;clear eN;cbv;repeat' (refine aN (fun hc=>?_) (fun hc=>?_)<;>(try rw[hc])<;>cbv)
 all_goals
  refine hk _ ?_;simp only[aw A,ay A,decide_eq_true_eq,decide_eq_false_iff_not]at *;rw[hP];first
   | (rw[if_pos ⟨by assumption,by assumption,by assumption⟩])
   | (rw[if_neg (by rintro⟨g1,g2,g3⟩;contradiction)])
theorem mL{ex:List Nd}(hn:∀n∈ex,Nm n.name/\kO n.v){cols:List bM}(hc:∀c∈cols,Nm c.name){h:ad}{eb:Option Addr}{en ec:Nat}(qe:Sl 325 cT h (.slice eb en ec) ex){cb:Option Addr}{cn cc:Nat}(qc:Sl 165 aT h (.slice cb cn cc) cols){k:Value->ad->Prop}
 (hk:∀h' e,Le h h'->e=aG ex cols->k (.int .i64 e) h'):Ct 96 [.slice eb en ec,.slice cb cn cc] h k:=by
 obtain⟨A,hA⟩:=Ar.ex;have MZ:=qe.len;have hP:aG ex cols=if ex.length=0 then 0 else eW ex cols 1:=rfl
 rw[<-MZ]at hP;have f1:A .aF .eql (A .nat en) 0=decide (en=0):=by rw[aw A,hA.nat,decide_eq_decide,Int.ofNat_eq_natCast];omega
 refine ah A (aq T96.ax T96.bm) Tryz.func96 rfl (by kernel_rfl) ?_;cbv;rw[f1];by_cases h0:en=0
 ·have af:=hk h 0 (Le.refl _) (by rw[hP,if_pos h0]);clear hk hP;rw[decide_eq_true h0];cbv;exact af
 ·rw[if_neg h0]at hP;rw[decide_eq_false h0];cbv;refine yI hn hc 1 qe qc (fun h1 e l1 he=>?_);have af:=hk h1 e l1 (he.trans hP.symm);clear hk hP he;cbv;exact af
theorem yP{ex:List Nd}(hn:∀n∈ex,Nm n.name/\kO n.v){cols:List bM}(hc:∀c∈cols,Nm c.name){r:Row}(hr:∀v∈r,kO v){h:ad}{eb:Option Addr}{en ec:Nat}(qe:Sl 325 cT h (.slice eb en ec) ex){cb:Option Addr}{cn cc:Nat}(qc:Sl 165 aT h (.slice cb cn cc) cols){rb:Option Addr}{rn rc:Nat}(qr:Sl 61 aQ h (.slice rb rn rc) r){k:Value->ad->Prop}
 (hk:∀h' t e,Le h h'->(t,e)=cW ex cols r->k (.tuple #[.bool t,.int .i64 e]) h'):Ct 171 [.slice eb en ec,.slice cb cn cc,.slice rb rn rc] h k:=by
 obtain⟨A,hA⟩:=Ar.ex;have MZ:=qe.len;have hP:cW ex cols r=if ex.length=0 then(true,0)else match fW ex cols r with
  | (v,f)=>(decide (v.k=1)&&decide (v.n=1),f):=rfl
 rw[<-MZ]at hP;generalize cW ex cols r=D at *;have f1:A .aF .eql (A .nat en) 0=decide (en=0):=by rw[aw A,hA.nat,decide_eq_decide,Int.ofNat_eq_natCast];omega
 refine ah A (aq Zz.ax Zz.bm) Tryz.func171 rfl (by kernel_rfl) ?_;cbv;rw[f1];by_cases h0:en=0
 ·have af:=hk h true 0 (Le.refl _) (by rw[hP,if_pos h0]);clear hk hP;rw[decide_eq_true h0];cbv;exact af
 ·rw[if_neg h0]at hP;rw[decide_eq_false h0];cbv;refine BB hn hc hr qe qc qr (fun h1 v e w l1 hv hw=>?_);rw[<-hv]at hP;replace hP:D=(decide (v.k=1)&&decide (v.n=1),e):=hP;have hk:=fun t ht=>hk h1 t e l1 ht;obtain⟨vk,vn,vs⟩:=v;subst hw;clear hv;cbv;repeat' (refine aN (fun hc=>?_) (fun hc=>?_)<;>(try rw[hc])<;>cbv)
  all_goals
   refine hk _ ?_;simp only[aw A,decide_eq_true_eq,decide_eq_false_iff_not]at *;rw[hP];simp[*]
theorem fP.OM{h h':ad}{v:Value}{d:DB}(q:fP h v d)(l:bE [51,165,59,61,55,148,161,205] h h'):fP h' v d:=by obtain⟨_,_,_,_,_,_,_,_,_,_,_,_,ws,rfl,q1,q2,q3,q4,q5⟩:=q.out;exact⟨_,_,_,_,_,_,_,_,_,_,_,_,ws,rfl,q1.mono (l.sub (by decide)),q2.mono (l.sub (by decide)),q3.mono (l.sub (by decide)),q4.mono (l.sub (by decide)),q5⟩
abbrev Hb:List Nat:=[51,165,59,61,55,148,161,205]
abbrev lO:List Nat:=[165,325,9,42,276]
structure di(h:ad)(pb:Nat)(d:DB)(s:Int)(x:aB):Prop where
 out:∃b1 n1 c1 b2 n2 c2 b3 n3 c3 b4 n4 c4 b5 n5 c5 b6 n6 c6 b7 n7 c7 b8 n8 c8 b9 n9 c9 eQ fJ eP,h pb=some (.cells #[.slice b1 n1 c1,.slice b2 n2 c2,.slice b3 n3 c3,.slice b4 n4 c4,.int .i64 s,.int .i64 x.kind,.string x.nf.name,.slice b5 n5 c5,.int .i64 x.nf.key,.bool x.nf.only,.string x.table,.string x.join,.slice b6 n6 c6,.slice b7 n7 c7,.slice b8 n8 c8,.slice b9 n9 c9,.slice eQ fJ eP,.string x.group,.string x.order,.bool x.desc,.int .i64 x.fE,.string x.name] 101 (0,0))/\fP h (.agg #[.slice b1 n1 c1,.slice b2 n2 c2,.slice b3 n3 c3,.slice b4 n4 c4]) d/\Sl 165 aT h (.slice b5 n5 c5) x.nf.cols/\Sl 325 cT h (.slice b6 n6 c6) x.on/\Sl 9 cj h (.slice b7 n7 c7) x.names/\Sl 42 eR h (.slice b8 n8 c8) x.exprs/\Sl 276 bW h (.slice b9 n9 c9) x.items/\Sl 325 cT h (.slice eQ fJ eP) x.bB
theorem di.elim{h:ad}{pb:Nat}{d:DB}{s:Int}{x:aB}(q:di h pb d s x){p:Prop}(k:∀b1 n1 c1 b2 n2 c2 b3 n3 c3 b4 n4 c4 b5 n5 c5 b6 n6 c6 b7 n7 c7 b8 n8 c8 b9 n9 c9 eQ fJ eP,h pb=some (.cells #[.slice b1 n1 c1,.slice b2 n2 c2,.slice b3 n3 c3,.slice b4 n4 c4,.int .i64 s,.int .i64 x.kind,.string x.nf.name,.slice b5 n5 c5,.int .i64 x.nf.key,.bool x.nf.only,.string x.table,.string x.join,.slice b6 n6 c6,.slice b7 n7 c7,.slice b8 n8 c8,.slice b9 n9 c9,.slice eQ fJ eP,.string x.group,.string x.order,.bool x.desc,.int .i64 x.fE,.string x.name] 101 (0,0))->fP h (.agg #[.slice b1 n1 c1,.slice b2 n2 c2,.slice b3 n3 c3,.slice b4 n4 c4]) d->Sl 165 aT h (.slice b5 n5 c5) x.nf.cols->Sl 325 cT h (.slice b6 n6 c6) x.on->Sl 9 cj h (.slice b7 n7 c7) x.names->Sl 42 eR h (.slice b8 n8 c8) x.exprs->Sl 276 bW h (.slice b9 n9 c9) x.items->Sl 325 cT h (.slice eQ fJ eP) x.bB->p):p:=by obtain⟨b1,n1,c1,b2,n2,c2,b3,n3,c3,b4,n4,c4,b5,n5,c5,b6,n6,c6,b7,n7,c7,b8,n8,c8,b9,n9,c9,eQ,fJ,eP,g,qd,q1,q2,q3,q4,q5,q6⟩:=q.out;exact k b1 n1 c1 b2 n2 c2 b3 n3 c3 b4 n4 c4 b5 n5 c5 b6 n6 c6 b7 n7 c7 b8 n8 c8 b9 n9 c9 eQ fJ eP g qd q1 q2 q3 q4 q5 q6
theorem di.lt{h h':ad}{pb:Nat}{d:DB}{s:Int}{x:aB}(q:di h pb d s x)(hb:h' pb=h pb)(l:bE (Hb++lO) h h'):di h' pb d s x:=by obtain⟨b1,n1,c1,b2,n2,c2,b3,n3,c3,b4,n4,c4,b5,n5,c5,b6,n6,c6,b7,n7,c7,b8,n8,c8,b9,n9,c9,eQ,fJ,eP,g,qd,q1,q2,q3,q4,q5,q6⟩:=q.out;exact⟨b1,n1,c1,b2,n2,c2,b3,n3,c3,b4,n4,c4,b5,n5,c5,b6,n6,c6,b7,n7,c7,b8,n8,c8,b9,n9,c9,eQ,fJ,eP,hb.trans g,qd.OM (l.sub (by decide)),q1.mono (l.sub (by decide)),q2.mono (l.sub (by decide)),q3.mono (l.sub (by decide)),q4.mono (l.sub (by decide)),q5.mono (l.sub (by decide)),q6.mono (l.sub (by decide))⟩
theorem di.mono{h h':ad}{pb:Nat}{d:DB}{s:Int}{x:aB}(q:di h pb d s x)(l:Le h h'):di h' pb d s x:=by refine q.lt ?_ (l.t _);obtain⟨b1,n1,c1,b2,n2,c2,b3,n3,c3,b4,n4,c4,b5,n5,c5,b6,n6,c6,b7,n7,c7,b8,n8,c8,b9,n9,c9,eQ,fJ,eP,g,-⟩:=q.out;rw[g];exact l _ _ g
theorem di.has{h:ad}{pb:Nat}{d:DB}{s:Int}{x:aB}(q:di h pb d s x):∃c,h pb=some (.cells c 101 (0,0)):=by obtain⟨b1,n1,c1,b2,n2,c2,b3,n3,c3,b4,n4,c4,b5,n5,c5,b6,n6,c6,b7,n7,c7,b8,n8,c8,b9,n9,c9,eQ,fJ,eP,g,-⟩:=q.out;exact⟨_,g⟩
theorem di.kp{h h':ad}{pb:Nat}{d:DB}{s:Int}{x:aB}(q:di h pb d s x)(k:Kp [pb] h h'){tys:List Nat}(ht:101∉tys):bE tys h h':=by obtain⟨c,g⟩:=q.has;exact k.uU g ht
theorem di.Hy{h h' h2:ad}{pb:Nat}{d d':DB}{s:Int}{x:aB}(q:di h pb d s x)(l:Le h h'){b1:Option Addr}{n1 c1:Nat}{b2:Option Addr}{n2 c2:Nat}{b3:Option Addr}{n3 c3:Nat}{b4:Option Addr}{n4 c4:Nat}{c:List Value}
 (g:h' pb=some (.cells (List.toArray c) 101 (0,0))) (qd:fP h' (.agg #[.slice b1 n1 c1,.slice b2 n2 c2,.slice b3 n3 c3,.slice b4 n4 c4]) d') (e2:h2=bl h' pb (.cells (List.toArray (eA c 0 [.slice b1 n1 c1,.slice b2 n2 c2,.slice b3 n3 c3,.slice b4 n4 c4])) 101 (0,0))):di h2 pb d' s x/\Kp [pb] h h2:=by
 have lt:bE (Hb++lO) h' h2:=by rw[e2];exact bE.set g (by decide)
 have TP:bE (Hb++lO) h h2:=(l.t _).trans lt;refine⟨?_,fun b o hb hn=>?_⟩
 ·obtain⟨Lj,KH,Lf,Li,KG,Ld,Lh,KF,Lb,Lg,KE,K9,Gd,EV,FU,Gc,EU,FT,Gb,B1,FR,Ef,Ae,A6,Ga,ET,FQ,sI,sf,sH,g0,_,q1,q2,q3,q4,q5,q6⟩:=q.out;have hc:=l _ _ g0;rw[g]at hc;cases hc;refine⟨b1,n1,c1,b2,n2,c2,b3,n3,c3,b4,n4,c4,Gd,EV,FU,Gc,EU,FT,Gb,B1,FR,Ef,Ae,A6,Ga,ET,FQ,sI,sf,sH,?_,qd.OM (lt.sub (by decide)),q1.mono (TP.sub (by decide)),q2.mono (TP.sub (by decide)),q3.mono (TP.sub (by decide)),q4.mono (TP.sub (by decide)),q5.mono (TP.sub (by decide)),q6.mono (TP.sub (by decide))⟩;rw[e2,ae];rfl
 ·rw[e2,av (by simpa using hn)];exact l _ _ hb
theorem C6{h:ad}{pb:Nat}{d:DB}{s:Int}{st:aB}(q:di h pb d s st){n:Nat}(ok:sK n d)(iq:n<2^18)(nm:ByteArray)(x:Bool){k:Value->ad->Prop}
 (hk:∀h',Kp [pb] h h'->di h' pb (aO d ⟨s,nm,x⟩).1 s st->k (.int .i64 (aO d ⟨s,nm,x⟩).2) h'):Ct 79 [.pointer (some ⟨pb,0,none⟩),.string nm,.bool x] h k:=by
 obtain⟨A,hA⟩:=Ar.ex;refine q.elim (fun b1 n1 c1 b2 n2 c2 b3 n3 c3 b4 n4 c4 b5 n5 c5 b6 n6 c6 b7 n7 c7 b8 n8 c8 b9 n9 c9 eQ fJ eP g qd q1 q2 q3 q4 q5 q6=>?_);clear q1 q2 q3 q4 q5 q6;obtain⟨D,hD⟩:∃D,aO d ⟨s,nm,x⟩=D:=⟨_,rfl⟩;rw[hD]at hk;obtain⟨D1,De⟩:=D;replace hk:∀h',Kp [pb] h h'->di h' pb D1 s st->k (.int .i64 De) h':=hk;have bl:∀ {h' h2:ad} {b1:Option Addr} {n1 c1:Nat} {b2:Option Addr} {n2 c2:Nat} {b3:Option Addr} {n3 c3:Nat} {b4:Option Addr} {n4 c4:Nat} {c:List Value},Le h h'->h' pb=some (.cells (List.toArray c) 101 (0,0))->fP h' (.agg #[.slice b1 n1 c1,.slice b2 n2 c2,.slice b3 n3 c3,.slice b4 n4 c4]) D1->h2=bl h' pb (.cells (List.toArray (eA c 0 [.slice b1 n1 c1,.slice b2 n2 c2,.slice b3 n3 c3,.slice b4 n4 c4])) 101 (0,0))->k (.int .i64 De) h2:=fun l g qd e2=>by
  have:=q.Hy l g qd e2;exact hk _ this.2 this.1
 clear hk;refine ah A (aq T79.ax T79.bm) Tryz.func79 rfl (by kernel_rfl) ?_;cbv;rw[ai A];refine ar g rfl rfl ?_;cbv;rw[ai A];refine ar g rfl rfl ?_;cbv;refine MP qd ok iq s nm x hD ?_;intro h1 e1 m1 a1 e2 m2 a2 e3 m3 a3 e4 m4 a4 l1 wC;have g1:=l1 _ _ g;cbv;rw[ai A];refine eH g1 (by simp) (fun h2 wz=>?_);have af:=bl l1 g1 wC wz;clear bl g1 wz;cbv;exact af
theorem fP.UM{h:ad}{d:DB}{b1 b2 b3 b4:Option Addr}{n1 c1 n2 c2 n3 c3 n4 c4:Nat}(q:fP h (.agg #[.slice b1 n1 c1,.slice b2 n2 c2,.slice b3 n3 c3,.slice b4 n4 c4]) d):Sl 51 cL h (.slice b1 n1 c1) d.aK:=by obtain⟨_,_,_,_,_,_,_,_,_,_,_,_,ws,he,q1,-⟩:=q.out;cases he;exact q1
theorem td{h:ad}{pb:Nat}{d:DB}{s:Int}{st:aB}(q:di h pb d s st)(nm:ByteArray){k:Value->ad->Prop}
 (hk:∀T b1 n1 c1 b2 n2 c2,T=bU d nm->Sl 165 aT h (.slice b1 n1 c1) T.S.cols->Sl 59 az h (.slice b2 n2 c2) T.rows->k (.agg #[.string T.S.name,.slice b1 n1 c1,.int .i64 T.S.key,.bool T.S.only,.slice b2 n2 c2]) h):
 Ct 84 [.pointer (some ⟨pb,0,none⟩),.string nm] h k:=by
 obtain⟨A,hA⟩:=Ar.ex;refine q.elim (fun b1 n1 c1 b2 n2 c2 b3 n3 c3 b4 n4 c4 b5 n5 c5 b6 n6 c6 b7 n7 c7 b8 n8 c8 b9 n9 c9 eQ fJ eP g qd q1 q2 q3 q4 q5 q6=>?_);clear q1 q2 q3 q4 q5 q6;have qt:=qd.UM;have xI:=qt.len;have hP:bU d nm=(d.aK.find? fun t=>decide (t.S.name=nm)).getD ⟨⟨b0,[],0,false⟩,[]⟩:=rfl;generalize bU d nm=D at *;obtain⟨R,hR⟩:∃R,d.aK.find? (fun t=>decide (t.S.name=nm))=R:=⟨_,rfl⟩;rw[hR]at hP;obtain⟨I,bh⟩:∃I:Nat->Int->ad->Prop,∀m z h',I m z h'=∃i,aP z i/\i<=n1/\m=n1-i/\h'=h/\(d.aK.drop i).find? (fun t=>decide (t.S.name=nm))=R:=⟨_,fun _ _ _=>rfl⟩;have hJ:I n1 0 h:=by rw[bh];exact⟨0,⟨rfl⟩,Nat.zero_le _,rfl,rfl,hR⟩
 refine ah A (aq T84.ax T84.bm) Tryz.func84 rfl (by kernel_rfl) ?_;cbv;rw[ai A,ai A];refine ar g rfl rfl ?_;cbv;refine aZ.go (G:=Int) (fun z=>[(13,.v (.int .i64 z))]) (fun _=>[(4,[.string ⟨#[]⟩,.slice none 0 0,.int .i64 0,.bool false,.slice none 0 0])]) (fun m z h'=>I m z h') n1 0 ⟨?_,?_,?_⟩ hJ ?_
 ·cbv
 ·cbv
 ·cbv
 ·intro m z h1 hI;rw[bh]at hI;cbv;obtain⟨i,hz,hi,hm,e',he⟩:=hI;subst e';have f1:A .aF .lss z (A .nat n1)=decide (i<n1):=hz.gE (aP.nat n1);rw[f1];by_cases aI:i<n1
  ·obtain⟨t,ht⟩:=aD (xs:=d.aK) (i:=i) (by omega);have hd:d.aK.drop i=t::d.aK.drop (i+1):=by obtain⟨h1,h2⟩:=List.getElem?_eq_some_iff.1 ht;rw[List.drop_eq_getElem_cons h1,h2]
   rw[hd,List.find?_cons]at he;have cy:b1.isSome=true/\0<=z/\z<(n1:Int):=⟨qt.bF (by omega),hz.ix aI⟩;have eX:=hz.eq;have dz:=hz.succ (A:=A) (by have:=qt.bound;omega);have iD:n1-(i+1)<m:=by omega
   have cU:(d.aK.drop (i+1)).find? (fun t=>decide (t.S.name=nm))=R->I (n1-(i+1)) (A .bA .add .i64 z 1) h1:=fun e=>by rw[bh];exact⟨i+1,dz,aI,rfl,rfl,e⟩
   clear bh hJ hR hd;rw[decide_eq_true aI];cbv;refine⟨cy,?_⟩;cbv;refine uV qt ht eX (fun t1 m1 k1 t2 m2 k2 r1 r2=>?_);have fn:A .je .eql t.S.name nm=decide (t.S.name=nm):=bN A ..;by_cases hn:t.S.name=nm
   ·rw[decide_eq_true hn]at he;have he:some t=R:=he;rw[<-he]at hP;have hP:D=t:=hP;have af:=hk t t1 m1 k1 t2 m2 k2 hP.symm r1 r2;rw[decide_eq_true hn]at fn;obtain⟨⟨tn,tc,tk,to⟩,tr⟩:=t;clear hk cU hP;cbv;rw[fn];cbv;exact af
   ·rw[decide_eq_false hn]at he;have xL:=cU he;rw[decide_eq_false hn]at fn;obtain⟨⟨tn,tc,tk,to⟩,tr⟩:=t;clear hk cU hP;cbv;rw[fn];cbv;refine⟨n1-(i+1),A .bA .add .i64 z 1,iD,⟨?_,?_,?_⟩,xL⟩
    ·cbv
    ·cbv
    ·cbv
  ·rw[List.drop_of_length_le (by omega)]at he;have he:none=R:=he;rw[<-he]at hP;have hP:D=⟨⟨b0,[],0,false⟩,[]⟩:=hP;have af:=hk ⟨⟨b0,[],0,false⟩,[]⟩ none 0 0 none 0 0 hP.symm Sl.nil Sl.nil;clear hk hP bh hJ;rw[decide_eq_false aI];cbv;exact af
theorem pq(cols:List bM)(r:Row)(x:List Nd)(xs:List (List Nd))(l:Row):mO cols r (x::xs) l=match fW x cols r with
 | (v,f)=>if f≠0 then([],f)else mO cols r xs (l++[v]):=rfl
theorem xC{cols:List bM}{r:Row}(hr:∀v∈r,kO v):∀ {ex:List Nd} {l m:List dc},(∀n∈ex,kO n.v)->(∀v∈l,kO v)->gZ cols r ex l=some m->∀v∈m,kO v
 | [],l,m,_,hl,h=>by cases h;exact hl
 |n::e,l,m,hn,hl,h=>by
  rw[nF]at h;cases hw:nG n l cols r with
  |none=>rw[hw]at h;cases h
  |some w=>
   rw[hw]at h;refine xC hr (fun n hh=>hn n (List.mem_cons_of_mem _ hh)) (fun v hv=>?_) h;rcases List.mem_append.1 hv with hv|hv
   ·exact hl v hv
   ·rcases List.mem_cons.1 hv with hv|hv
    ·rw[hv];exact z0 (hn n List.mem_cons_self) hl hr hw
    ·cases hv
theorem Io{l:List dc}(hl:∀v∈l,kO v):kO (pc l):=by
 unfold pc;cases h:l.getLast? with
 |none=>exact ui
 |some x=>exact hl x (List.mem_of_getLast? h)
theorem x8{ex:List Nd}{cols:List bM}{r:Row}{v:dc}{e:Int}(hn:∀n∈ex,kO n.v)(hr:∀v∈r,kO v)(h:fW ex cols r=(v,e)):kO v:=by
 unfold fW at h;generalize jB ex cols=kd at h;obtain⟨k,f⟩:=kd;have h:(if f≠0 then(v0,f)else match gZ cols r ex []with
  |some l=>(pc l,0)
  |none=>(v0,11))=(v,e):=h
 by_cases hf:f≠0
 ·rw[if_pos hf]at h;cases h;exact ui
 ·rw[if_neg hf]at h;cases hm:gZ cols r ex []with
  |none=>rw[hm]at h;cases h;exact ui
  |some l=>rw[hm]at h;cases h;exact Io (xC hr hn (fun _ hv=>by cases hv) hm)
structure Gf(B h:ad)(ob:Nat)(l:Row):Prop where
 out:∃b n c,h ob=some (.cells #[.slice b n c] 59 (0,0))/\cK 61 aQ B h (.slice b n c) l
 le:Le B h
 no:B ob=none
theorem GV{ex:List Nd}(hn:∀n∈ex,Nm n.name/\kO n.v){cols:List bM}(hc:∀c∈cols,Nm c.name){r:Row}(hr:∀v∈r,kO v){B h:ad}{ob:Nat}{l:Row}(qo:Gf B h ob l)(hl:l.length<=2^30)
 {xb:Option Addr} {xn xc:Nat} (qe:Sl 325 cT h (.slice xb xn xc) ex)
 {cb cn cc} {cp:Nat} (gc:B cp=some (.cells #[.slice cb cn cc] 38 (0,0))) (qc:Sl 165 aT B (.slice cb cn cc) cols) {rb rn rc} {rp:Nat} (gr:B rp=some (.cells #[.slice rb rn rc] 59 (0,0))) (qr:Sl 61 aQ B (.slice rb rn rc) r) {k:Value->ad->Prop}
 (hk:∀h' v e,Gf B h' ob (l++[v])->(v,e)=fW ex cols r->k (.int .i64 e) h'):
 Ct 162 [.slice xb xn xc,.pointer (some ⟨cp,0,none⟩),.pointer (some ⟨rp,0,none⟩),.pointer (some ⟨ob,0,none⟩)] h k:=by
 obtain⟨A,hA⟩:=Ar.ex;have l0:=qo.le;have fK:=qo.no;obtain⟨b,n,c,go,qb⟩:=qo.out;have AE:=qb.sl.len;have St:=l0 _ _ gc;have DQ:=l0 _ _ gr;refine ah A (aq ZF.ax ZF.bm) Tryz.func162 rfl (by kernel_rfl) ?_;cbv;refine ar St rfl rfl ?_;cbv;refine ar DQ rfl rfl ?_;cbv;refine BB hn hc hr qe (qc.mono (l0.t _)) (qr.mono (l0.t _)) (fun h1 v e w l1 hv hw=>?_);obtain⟨vk,vn,vs⟩:=v;subst hw;have CH:=l1 _ _ go;cbv;refine ar CH rfl rfl ?_;cbv;intro n2 h2 g2 e2;have l2:Le h1 h2:=by rw[e2];exact Le.set g2
 have v2:Sl 61 aQ h2 (.slice (some ⟨n2,0,none⟩) 1 1) [⟨vk,vn,vs⟩]:=bp (s:=aQ) ((congrFun e2 n2).trans ae) rfl;have go2:=l2 _ _ CH;clear e2;cbv;refine(qb.mono ((l1.trans l2).t _)).append v2 (by decide) rfl (by decide) (by omega) (l0.trans (l1.trans l2)) (fun m3 b3 c3 h3 Uu l3 t3 k3 mX=>?_);have GH:h3 ob=some (.cells #[.slice b n c] 59 (0,0)):=t3 [59] (by decide) _ _ _ _ (List.mem_singleton.2 rfl) go2;clear t3 k3 v2;cbv;refine eH GH (by simp) (fun h4 e4=>?_);have af:=hk h4 ⟨vk,vn,vs⟩ e ⟨⟨b3,m3,c3,by rw[e4];exact ae,mX.mono (by rw[e4];exact bE.set GH (by decide))⟩,fun b' o' nh=>by rw[e4,av (fun e=>by rw[e,fK]at nh;cases nh)];exact l3 _ _ nh,fK⟩ hv;clear hk e4;cbv;exact af
theorem ye{xs:List (List Nd)}(hn:∀ex∈xs,∀n∈ex,Nm n.name/\kO n.v){cols:List bM}(hc:∀c∈cols,Nm c.name){r:Row}(hr:∀v∈r,kO v)(yL:xs.length<=2^20){h:ad}
 {xb:Option Addr} {xn xc:Nat} (qe:Sl 42 eR h (.slice xb xn xc) xs) {cb:Option Addr} {cn cc:Nat} (qc:Sl 165 aT h (.slice cb cn cc) cols) {rb:Option Addr} {rn rc:Nat} (qr:Sl 61 aQ h (.slice rb rn rc) r) {k:Value->ad->Prop}
 (hk:∀h' b n c l e,Le h h'->(l,e)=ep xs cols r->cK 61 aQ h h' (.slice b n c) l->(∀v∈l,kO v)->k (.tuple #[.slice b n c,.int .i64 e]) h'):
 Ct 82 [.slice xb xn xc,.slice cb cn cc,.slice rb rn rc] h k:=by
 obtain⟨A,hA⟩:=Ar.ex;have MJ:=qe.len;have hP:ep xs cols r=mO cols r xs []:=rfl;generalize ep xs cols r=D at *;refine ah A (aq T82.ax T82.bm) Tryz.func82 rfl (by kernel_rfl) ?_;cbv;intro cp h1 g1 e1;have l1:Le h h1:=by rw[e1];exact Le.set g1
 have gc1:h1 cp=some (.cells #[.slice cb cn cc] 38 (0,0)):=by rw[e1];exact ae
 clear e1;cbv;intro rp h2 g2 e2;have l2:Le h1 h2:=by rw[e2];exact Le.set g2
 have Xg:h2 rp=some (.cells #[.slice rb rn rc] 59 (0,0)):=by rw[e2];exact ae
 clear e2;cbv;intro ob h3 g3 e3;have l3:Le h2 h3:=by rw[e3];exact Le.set g3
 have GH:h3 ob=some (.cells #[.slice none 0 0] 59 (0,0)):=by rw[e3];exact ae
 have iI:=l1.trans l2;have lB:Le h2 (Sx.cI h3 ob):=fun b o hb=>by
  rw[Sx.bV (fun e=>by rw[e,g3]at hb;cases hb)];exact l3 _ _ hb
 clear e3;obtain⟨B,hB⟩:∃B,B=Sx.cI h3 ob:=⟨_,rfl⟩;rw[<-hB]at lB;have Uo:Le B h3:=by rw[hB];exact Sx.dN h3 ob
 have Si:B ob=none:=by rw[hB];exact Sx.cO h3 ob
 have pI:Le h B:=iI.trans lB;obtain⟨I,bh⟩:∃I:Nat->ad->Prop,∀i h',I i h'=∃l,Gf B h' ob l/\l.length=i/\(∀v∈l,kO v)/\mO cols r (xs.drop i) l=D:=⟨_,fun _ _=>rfl⟩;have hJ:I 0 h3:=by rw[bh];exact⟨[],⟨⟨none,0,0,GH,cK.nil⟩,Uo,Si⟩,rfl,(fun _ hv=>by cases hv),hP.symm⟩
 clear hB;cbv;refine AO MJ I hJ (fun i h' hI=>?_) (fun i x h' b1 n1 c1 hi hx hI hv=>?_) (fun h' hI=>?_)
 ·rw[bh]at hI;obtain⟨l,qo,-⟩:=hI;exact qe.mono ((pI.trans qo.le).t _)
 ·rw[bh]at hI;obtain⟨l,qo,KT,ra,he⟩:=hI;have hd:xs.drop i=x::xs.drop (i+1):=by obtain⟨h1,h2⟩:=List.getElem?_eq_some_iff.1 hx;rw[List.drop_eq_getElem_cons h1,h2]
  rw[hd,pq]at he;have Ck:=List.mem_of_getElem? hx;refine GV (hn x Ck) hc hr qo (by omega) hv (lB _ _ (l2 _ _ gc1)) (qc.mono (pI.t _)) (lB _ _ Xg) (qr.mono (pI.t _)) (fun h4 v e BU KQ=>⟨e,rfl,fun h0=>?_,fun h0=>?_⟩)
  ·rw[<-KQ]at he;have he:(if e≠0 then([],e)else mO cols r (xs.drop (i+1)) (l++[v]))=D:=he;rw[if_neg (by simpa using h0)]at he;rw[bh];refine⟨l++[v],BU,by rw[List.length_append,List.length_singleton,KT],fun y hy=>?_,he⟩;rcases List.mem_append.1 hy with hy|hy
   ·exact ra y hy
   ·rcases List.mem_cons.1 hy with hy|hy
    ·rw[hy];exact x8 (fun n hh=>(hn x Ck n hh).2) hr KQ.symm
    ·cases hy
  ·rw[<-KQ]at he;have he:(if e≠0 then([],e)else mO cols r (xs.drop (i+1)) (l++[v]))=D:=he;rw[if_pos h0]at he;have af:=hk h4 none 0 0 [] e (pI.trans BU.le) he cK.nil (fun _ hv=>by cases hv);have fe:A .aF .neq e 0=true:=by rw[ay A];exact decide_eq_true h0
   clear hk bh;cbv;rw[fe];cbv;exact af
 ·rw[bh]at hI;obtain⟨l,qo,KT,ra,he⟩:=hI;rw[List.drop_of_length_le (by omega)]at he;have he:(l,0)=D:=he;have l0:=qo.le;obtain⟨b,n,c,go,qb⟩:=qo.out;have AE:=qb.sl.len;have f0:A .aF .neq 0 0=false:=by rw[ay A];rfl
  have hk:=fun h' b n c l1=>hk h' b n c l 0 l1 he;clear bh;cbv;rw[f0];cbv;refine ar go rfl rfl ?_;cbv;refine(ma qb.sl).mono (fun v h5 hR=>?_);obtain⟨l5,b',c',hv,nh⟩:=hR;subst hv;have af:=hk h5 b' n c' (pI.trans (l0.trans l5)) (nh.base (pI.trans l0)) ra;clear hk;cbv;exact af
def rK(ex:List Nd):Prop:=∀n∈ex,Nm n.name/\kO n.v
structure eO(x:aB):Prop where
 on:rK x.on
 bB:rK x.bB
 exprs:∀e∈x.exprs,rK e
 items:∀i∈x.items,rK i.e
 len:x.exprs.length<=2^20
 names:x.kind=4->x.exprs.length=x.names.length
 group:Nm x.group
 order:Nm x.order
 VV:x.items.length<=2^20
 Vu:x.names.length<=2^20
theorem putW{h:ad}{pb:Nat}{d:DB}{s:Int}{st:aB}(q:di h pb d s st){n:Nat}(ok:sK n d)(iq:n<2^18)(gu:-2^63<=s/\s<2^63){r:Row}{rb:Option Addr}{rn rc:Nat}(qr:Sl 61 aQ h (.slice rb rn rc) r){k:Value->ad->Prop}
 (hk:∀h',Kp [pb] h h'->di h' pb (jJ d s st.table r).1 s st->k (.int .i64 (jJ d s st.table r).2) h'):Ct 94 [.pointer (some ⟨pb,0,none⟩),.slice rb rn rc] h k:=by
 obtain⟨A,hA⟩:=Ar.ex;refine q.elim (fun b1 n1 c1 b2 n2 c2 b3 n3 c3 b4 n4 c4 b5 n5 c5 b6 n6 c6 b7 n7 c7 b8 n8 c8 b9 n9 c9 eQ fJ eP g qd q1 q2 q3 q4 q5 q6=>?_);clear q1 q2 q3 q4 q5 q6;obtain⟨D,hD⟩:∃D,jJ d s st.table r=D:=⟨_,rfl⟩;rw[hD]at hk;obtain⟨D1,De⟩:=D;replace hk:∀h',Kp [pb] h h'->di h' pb D1 s st->k (.int .i64 De) h':=hk;have bl:∀ {h' h2:ad} {b1:Option Addr} {n1 c1:Nat} {b2:Option Addr} {n2 c2:Nat} {b3:Option Addr} {n3 c3:Nat} {b4:Option Addr} {n4 c4:Nat} {c:List Value},Le h h'->h' pb=some (.cells (List.toArray c) 101 (0,0))->fP h' (.agg #[.slice b1 n1 c1,.slice b2 n2 c2,.slice b3 n3 c3,.slice b4 n4 c4]) D1->h2=bl h' pb (.cells (List.toArray (eA c 0 [.slice b1 n1 c1,.slice b2 n2 c2,.slice b3 n3 c3,.slice b4 n4 c4])) 101 (0,0))->k (.int .i64 De) h2:=fun l g qd e2=>by
  have:=q.Hy l g qd e2;exact hk _ this.2 this.1
 clear hk;refine ah A (aq T94.ax T94.bm) Tryz.func94 rfl (by kernel_rfl) ?_;cbv;rw[ai A];refine ar g rfl rfl ?_;cbv;rw[ai A];refine ar g rfl rfl ?_;cbv;rw[ai A,ai A];refine ar g rfl rfl ?_;cbv;refine HL qd ok iq s gu st.table qr hD ?_;intro h1 e1 m1 a1 e2 m2 a2 e3 m3 a3 e4 m4 a4 l1 wC;have g1:=l1 _ _ g;cbv;rw[ai A];refine eH g1 (by simp) (fun h2 wz=>?_);have af:=bl l1 g1 wC wz;clear bl g1 wz;cbv;exact af
theorem UL{h:ad}{pb:Nat}{d:DB}{s:Int}{st:aB}(q:di h pb d s st){n:Nat}(ok:sK n d)(iq:n<2^18)(gu:-2^63<=s/\s<2^63){r:Row}(hkey:0<=(bU d st.table).S.key/\(bU d st.table).S.key<r.length){rb:Option Addr}{rn rc:Nat}(qr:Sl 61 aQ h (.slice rb rn rc) r){k:Value->ad->Prop}
 (hk:∀h',Kp [pb] h h'->di h' pb (jq d s st.table (jI d st.table r)).1 s st->k (.int .i64 (jq d s st.table (jI d st.table r)).2) h'):Ct 93 [.pointer (some ⟨pb,0,none⟩),.slice rb rn rc] h k:=by
 obtain⟨A,hA⟩:=Ar.ex;have Bp:=qr.len;obtain⟨x,hx⟩:=aD (xs:=r) (i:=(bU d st.table).S.key.toNat) (by omega);have hkv:jI d st.table r=x:=oC hx (by omega);rw[hkv]at hk;have cy:rb.isSome=true/\0<=(bU d st.table).S.key/\(bU d st.table).S.key<(rn:Int):=⟨qr.bF (by omega),by omega,by omega⟩;have Fi:(bU d st.table).S.key=(((bU d st.table).S.key.toNat:Nat):Int):=by omega
 refine q.elim (fun b1 n1 c1 b2 n2 c2 b3 n3 c3 b4 n4 c4 b5 n5 c5 b6 n6 c6 b7 n7 c7 b8 n8 c8 b9 n9 c9 eQ fJ eP g qd q1 q2 q3 q4 q5 q6=>?_);clear q1 q2 q3 q4 q5 q6;obtain⟨D,hD⟩:∃D,jq d s st.table x=D:=⟨_,rfl⟩;rw[hD]at hk;obtain⟨D1,De⟩:=D;replace hk:∀h',Kp [pb] h h'->di h' pb D1 s st->k (.int .i64 De) h':=hk;have bl:∀ {h' h2:ad} {b1:Option Addr} {n1 c1:Nat} {b2:Option Addr} {n2 c2:Nat} {b3:Option Addr} {n3 c3:Nat} {b4:Option Addr} {n4 c4:Nat} {c:List Value},Le h h'->h' pb=some (.cells (List.toArray c) 101 (0,0))->fP h' (.agg #[.slice b1 n1 c1,.slice b2 n2 c2,.slice b3 n3 c3,.slice b4 n4 c4]) D1->h2=bl h' pb (.cells (List.toArray (eA c 0 [.slice b1 n1 c1,.slice b2 n2 c2,.slice b3 n3 c3,.slice b4 n4 c4])) 101 (0,0))->k (.int .i64 De) h2:=fun l g qd e2=>by
  have:=q.Hy l g qd e2;exact hk _ this.2 this.1
 clear hk hkv hkey;refine ah A (aq T93.ax T93.bm) Tryz.func93 rfl (by kernel_rfl) ?_;cbv;rw[ai A];refine ar g rfl rfl ?_;cbv;rw[ai A];refine ar g rfl rfl ?_;cbv;rw[ai A,ai A];refine ar g rfl rfl ?_;cbv;rw[ai A,ai A];refine ar g rfl rfl ?_;cbv;refine td q st.table (fun T t1 u1 w1 t2 u2 w2 hT r1 r2=>?_);rw[<-hT]at cy Fi hx;clear hT r1 r2;obtain⟨⟨tn,tc,tk,to⟩,tr⟩:=T;cbv;refine ar g rfl rfl ?_;cbv;refine⟨⟨_,rfl,rfl⟩,?_⟩;cbv;refine ar g rfl rfl ?_;cbv;refine⟨⟨_,rfl,rfl⟩,?_⟩;cbv;refine ar g rfl rfl ?_;cbv;refine⟨⟨_,rfl,rfl⟩,?_⟩;cbv;refine⟨cy,?_⟩;cbv;refine qr.load hx Fi (fun cs aJ=>?_);obtain⟨xk,xn,xs⟩:=x;have aJ:cs=[.int .i64 xk,.int .i64 xn,.string xs]:=aJ;subst aJ;cbv;refine LH qd ok iq s gu st.table ⟨xk,xn,xs⟩ hD ?_;intro h1 e1 m1 a1 e2 m2 a2 e3 m3 a3 e4 m4 a4 l1 wC;have g1:=l1 _ _ g;cbv;rw[ai A];refine eH g1 (by simp) (fun h2 wz=>?_);have af:=bl l1 g1 wC wz;clear bl g1 wz;cbv;exact af
theorem yd{h:ad}{pb:Nat}{d d0:DB}{s:Int}{st:aB}(q:di h pb d s st){eb db wb:Nat}{e:Int}(ge:h eb=some (.cells #[.int .i64 e] 35 (0,0))){b1 b2 b3 b4:Option Addr}{n1 c1 n2 c2 n3 c3 n4 c4:Nat}(gd:h db=some (.cells #[.slice b1 n1 c1,.slice b2 n2 c2,.slice b3 n3 c3,.slice b4 n4 c4] 32 (0,0)))(qd:fP h (.agg #[.slice b1 n1 c1,.slice b2 n2 c2,.slice b3 n3 c3,.slice b4 n4 c4]) d0)
 (gw:h wb=some (.cells #[.pointer (some ⟨pb,0,none⟩)] 99 (0,0))):CtD 160 [.pointer (some ⟨eb,0,none⟩),.pointer (some ⟨db,0,none⟩),.pointer (some ⟨wb,0,none⟩)] h (fun _ h'=>Kp [pb] h h'/\di h' pb (if e≠0 then d0 else d) s st):=by
 obtain⟨A,hA⟩:=Ar.ex;have fe:A .aF .neq e 0=decide (e≠0):=ay A ..;refine oM A (aq ZH.ax ZH.bm) Tryz.func160 rfl (by kernel_rfl) ?_;cbv;refine ar ge rfl rfl ?_;cbv;rw[fe];by_cases h0:e≠0
 ·obtain⟨c,gp⟩:=q.has;rw[decide_eq_true h0];cbv;refine ar gw rfl rfl ?_;cbv;refine ar gd rfl rfl ?_;cbv;rw[ai A];obtain⟨c⟩:=c;have hc:4<=c.length:=by refine q.elim (fun Lj KH Lf Li KG Ld Lh KF Lb Lg KE K9 Gd EV FU Gc EU FT Gb B1 FR Ef Ae A6 Ga ET FQ sI sf sH g qd q1 q2 q3 q4 q5 q6=>?_);rw[gp]at g;cases g;show 4<=22;omega
  refine eH gp (by simpa using hc) (fun h2 e2=>?_);have af:=q.Hy (Le.refl h) gp qd e2;clear e2;cbv;rw[if_pos h0];exact⟨af.2,af.1⟩
 ·rw[decide_eq_false h0];cbv;rw[if_neg h0];exact⟨Kp.refl _ _,q⟩
theorem GS{p0:Value}{h:ad}{pb:Nat}{d:DB}{s:Int}{st:aB}(q:di h pb d s st){D:DB×Int}
 (step:∀h1,Le h h1->di h1 pb d s st->Ct 81 [p0] h1 (fun r h2=>r=.int .i64 D.2/\Kp [pb] h1 h2/\di h2 pb D.1 s st)) {k:Value->ad->Prop}
 (hk:∀h',Kp [pb] h h'->di h' pb (cC d D).1 s st->k (.tuple #[.slice none 0 0,.int .i64 (cC d D).2.2]) h'):Ct 80 [.pointer (some ⟨pb,0,none⟩),.func (.func 81) #[] #[p0]] h k:=by
 obtain⟨A,hA⟩:=Ar.ex;have uZ:(cC d D).1=if D.2≠0 then d else D.1:=by unfold cC;by_cases c:D.2≠0<;>simp[c]
 have qT:(cC d D).2.2=D.2:=by unfold cC;by_cases c:D.2=0<;>simp[c]
 rw[uZ,qT]at hk;obtain⟨D1,De⟩:=D;replace hk:∀h',Kp [pb] h h'->di h' pb (if De≠0 then d else D1) s st->k (.tuple #[.slice none 0 0,.int .i64 De]) h':=hk;replace step:∀h1,Le h h1->di h1 pb d s st->Ct 81 [p0] h1 (fun r h2=>r=.int .i64 De/\Kp [pb] h1 h2/\di h2 pb D1 s st):=step;clear uZ qT;obtain⟨cp,hp⟩:=q.has;refine iY A (aq UC.ax UC.bm) Tryz.func80 rfl (by kernel_rfl) ?_;cbv;intro wb h1 g1 e1;have l1:Le h h1:=by rw[e1];exact Le.set g1
 have kT:h1 wb=some (.cells #[.pointer (some ⟨pb,0,none⟩)] 99 (0,0)):=by rw[e1];exact ae
 have nw:wb≠pb:=fun e=>by rw[e,hp]at g1;cases g1
 clear e1;cbv;intro eb h2 g2 e2;have l2:Le h1 h2:=by rw[e2];exact Le.set g2
 have Pt:h2 eb=some (.cells #[.int .i64 0] 35 (0,0)):=by rw[e2];exact ae
 have ne:eb≠pb:=fun e=>by rw[e,l1 _ _ hp]at g2;cases g2
 have new:eb≠wb:=fun e=>by rw[e,kT]at g2;cases g2
 have Ss:h eb=none:=by
  cases hh:h eb with
  |none=>rfl
  |some o=>rw[l1 _ _ hh]at g2;cases g2
 clear e2;refine(q.mono (l1.trans l2)).elim (fun b1 n1 c1 b2 n2 c2 b3 n3 c3 b4 n4 c4 b5 n5 c5 b6 n6 c6 b7 n7 c7 b8 n8 c8 b9 n9 c9 eQ fJ eP g qd q1 q2 q3 q4 q5 q6=>?_);clear q1 q2 q3 q4 q5 q6;have kR:=l2 _ _ kT;cbv;refine ar kR rfl rfl ?_;cbv;rw[ai A];refine ar g rfl rfl ?_;cbv;intro db h3 g3 e3;have l3:Le h2 h3:=by rw[e3];exact Le.set g3
 have Pu:h3 db=some (.cells #[.slice none 0 0,.slice none 0 0,.slice none 0 0,.slice none 0 0] 32 (0,0)):=by rw[e3];exact ae
 have Vv:db≠pb:=fun e=>by rw[e,g]at g3;cases g3
 have Vw:db≠eb:=fun e=>by rw[e,Pt]at g3;cases g3
 have ndw:db≠wb:=fun e=>by rw[e,kR]at g3;cases g3
 have zu:Le h h2:=l1.trans l2;have WQ:h db=none:=by
  cases hh:h db with
  |none=>rfl
  |some o=>rw[zu _ _ hh]at g3;cases g3
 clear e3;cbv;refine eH Pu (by simp) (fun h4 e4=>?_);have Xn:h4 db=some (.cells #[.slice b1 n1 c1,.slice b2 n2 c2,.slice b3 n3 c3,.slice b4 n4 c4] 32 (0,0)):=by rw[e4];exact ae
 have l4:Le h2 h4:=fun b o hb=>by rw[e4,av (fun e=>by rw[e,g3]at hb;cases hb)];exact l3 _ _ hb
 have Xk:=l4 _ _ Pt;have wy:=l4 _ _ kR;have mf:=zu.trans l4;have TF:=qd.mono l4;clear e4 Pu l3;cbv;refine(step h4 mf (q.mono mf)).mono (fun r h5 hR=>?_);obtain⟨hr,yH,q5⟩:=hR;subst hr;have qJ:∀tys,101∉tys->bE tys h4 h5:=fun tys ht=>(q.mono mf).kp yH ht;have Xm:=yH _ _ Xn (by simpa using Vv);have Ps:=yH _ _ Xk (by simpa using ne);have pj:=yH _ _ wy (by simpa using nw);have Vc:=TF.OM (qJ _ (by decide));clear step;cbv;refine eH Ps (by simp) (fun h6 e6=>?_);have B4:∀tys,35∉tys->bE tys h5 h6:=fun tys ht=>by rw[e6];exact bE.set Ps ht
 have Pr:h6 eb=some (.cells #[.int .i64 De] 35 (0,0)):=by rw[e6];exact ae
 have Xl:h6 db=some (.cells #[.slice b1 n1 c1,.slice b2 n2 c2,.slice b3 n3 c3,.slice b4 n4 c4] 32 (0,0)):=by rw[e6,av Vw];exact Xm
 have Xd:h6 wb=some (.cells #[.pointer (some ⟨pb,0,none⟩)] 99 (0,0)):=by rw[e6,av (Ne.symm new)];exact pj
 have q6:di h6 pb D1 s st:=q5.lt (by rw[e6,av (Ne.symm ne)]) (B4 _ (by decide));have TE:=Vc.OM (B4 _ (by decide));have KL:Kp [pb] h h6:=fun b o hb hn=>by
  rw[e6,av (fun e=>by rw[e,Ss]at hb;cases hb)];exact yH _ _ (mf _ _ hb) hn
 clear e6;cbv;refine(yd q6 Pr Xl TE Xd).mono (fun v h7 hR=>?_);obtain⟨rN,q7⟩:=hR;have af:=hk h7 (KL.trans rN) q7;have Xj:=rN _ _ Pr (by simpa using ne);clear hk;cbv;refine ar Xj rfl rfl ?_;cbv;exact af
theorem zC{p0 p1:Value}{h:ad}{pb:Nat}{d:DB}{s:Int}{st:aB}(q:di h pb d s st){D:DB×Int}
 (step:∀h1,Le h h1->di h1 pb d s st->Ct 85 [p0,p1] h1 (fun r h2=>r=.int .i64 D.2/\Kp [pb] h1 h2/\di h2 pb D.1 s st)) {k:Value->ad->Prop}
 (hk:∀h',Kp [pb] h h'->di h' pb (cC d D).1 s st->k (.tuple #[.slice none 0 0,.int .i64 (cC d D).2.2]) h'):Ct 80 [.pointer (some ⟨pb,0,none⟩),.func (.func 85) #[] #[p0,p1]] h k:=by
 obtain⟨A,hA⟩:=Ar.ex;have uZ:(cC d D).1=if D.2≠0 then d else D.1:=by unfold cC;by_cases c:D.2≠0<;>simp[c]
 have qT:(cC d D).2.2=D.2:=by unfold cC;by_cases c:D.2=0<;>simp[c]
 rw[uZ,qT]at hk;obtain⟨D1,De⟩:=D;replace hk:∀h',Kp [pb] h h'->di h' pb (if De≠0 then d else D1) s st->k (.tuple #[.slice none 0 0,.int .i64 De]) h':=hk;replace step:∀h1,Le h h1->di h1 pb d s st->Ct 85 [p0,p1] h1 (fun r h2=>r=.int .i64 De/\Kp [pb] h1 h2/\di h2 pb D1 s st):=step;clear uZ qT;obtain⟨cp,hp⟩:=q.has;refine iY A (aq UC.ax UC.bm) Tryz.func80 rfl (by kernel_rfl) ?_;cbv;intro wb h1 g1 e1;have l1:Le h h1:=by rw[e1];exact Le.set g1
 have kT:h1 wb=some (.cells #[.pointer (some ⟨pb,0,none⟩)] 99 (0,0)):=by rw[e1];exact ae
 have nw:wb≠pb:=fun e=>by rw[e,hp]at g1;cases g1
 clear e1;cbv;intro eb h2 g2 e2;have l2:Le h1 h2:=by rw[e2];exact Le.set g2
 have Pt:h2 eb=some (.cells #[.int .i64 0] 35 (0,0)):=by rw[e2];exact ae
 have ne:eb≠pb:=fun e=>by rw[e,l1 _ _ hp]at g2;cases g2
 have new:eb≠wb:=fun e=>by rw[e,kT]at g2;cases g2
 have Ss:h eb=none:=by
  cases hh:h eb with
  |none=>rfl
  |some o=>rw[l1 _ _ hh]at g2;cases g2
 clear e2;refine(q.mono (l1.trans l2)).elim (fun b1 n1 c1 b2 n2 c2 b3 n3 c3 b4 n4 c4 b5 n5 c5 b6 n6 c6 b7 n7 c7 b8 n8 c8 b9 n9 c9 eQ fJ eP g qd q1 q2 q3 q4 q5 q6=>?_);clear q1 q2 q3 q4 q5 q6;have kR:=l2 _ _ kT;cbv;refine ar kR rfl rfl ?_;cbv;rw[ai A];refine ar g rfl rfl ?_;cbv;intro db h3 g3 e3;have l3:Le h2 h3:=by rw[e3];exact Le.set g3
 have Pu:h3 db=some (.cells #[.slice none 0 0,.slice none 0 0,.slice none 0 0,.slice none 0 0] 32 (0,0)):=by rw[e3];exact ae
 have Vv:db≠pb:=fun e=>by rw[e,g]at g3;cases g3
 have Vw:db≠eb:=fun e=>by rw[e,Pt]at g3;cases g3
 have ndw:db≠wb:=fun e=>by rw[e,kR]at g3;cases g3
 have zu:Le h h2:=l1.trans l2;have WQ:h db=none:=by
  cases hh:h db with
  |none=>rfl
  |some o=>rw[zu _ _ hh]at g3;cases g3
 clear e3;cbv;refine eH Pu (by simp) (fun h4 e4=>?_);have Xn:h4 db=some (.cells #[.slice b1 n1 c1,.slice b2 n2 c2,.slice b3 n3 c3,.slice b4 n4 c4] 32 (0,0)):=by rw[e4];exact ae
 have l4:Le h2 h4:=fun b o hb=>by rw[e4,av (fun e=>by rw[e,g3]at hb;cases hb)];exact l3 _ _ hb
 have Xk:=l4 _ _ Pt;have wy:=l4 _ _ kR;have mf:=zu.trans l4;have TF:=qd.mono l4;clear e4 Pu l3;cbv;refine(step h4 mf (q.mono mf)).mono (fun r h5 hR=>?_);obtain⟨hr,yH,q5⟩:=hR;subst hr;have qJ:∀tys,101∉tys->bE tys h4 h5:=fun tys ht=>(q.mono mf).kp yH ht;have Xm:=yH _ _ Xn (by simpa using Vv);have Ps:=yH _ _ Xk (by simpa using ne);have pj:=yH _ _ wy (by simpa using nw);have Vc:=TF.OM (qJ _ (by decide));clear step;cbv;refine eH Ps (by simp) (fun h6 e6=>?_);have B4:∀tys,35∉tys->bE tys h5 h6:=fun tys ht=>by rw[e6];exact bE.set Ps ht
 have Pr:h6 eb=some (.cells #[.int .i64 De] 35 (0,0)):=by rw[e6];exact ae
 have Xl:h6 db=some (.cells #[.slice b1 n1 c1,.slice b2 n2 c2,.slice b3 n3 c3,.slice b4 n4 c4] 32 (0,0)):=by rw[e6,av Vw];exact Xm
 have Xd:h6 wb=some (.cells #[.pointer (some ⟨pb,0,none⟩)] 99 (0,0)):=by rw[e6,av (Ne.symm new)];exact pj
 have q6:di h6 pb D1 s st:=q5.lt (by rw[e6,av (Ne.symm ne)]) (B4 _ (by decide));have TE:=Vc.OM (B4 _ (by decide));have KL:Kp [pb] h h6:=fun b o hb hn=>by
  rw[e6,av (fun e=>by rw[e,Ss]at hb;cases hb)];exact yH _ _ (mf _ _ hb) hn
 clear e6;cbv;refine(yd q6 Pr Xl TE Xd).mono (fun v h7 hR=>?_);obtain⟨rN,q7⟩:=hR;have af:=hk h7 (KL.trans rN) q7;have Xj:=rN _ _ Pr (by simpa using ne);clear hk;cbv;refine ar Xj rfl rfl ?_;cbv;exact af
theorem zD{p0 p1:Value}{h:ad}{pb:Nat}{d:DB}{s:Int}{st:aB}(q:di h pb d s st){D:DB×Int}
 (step:∀h1,Le h h1->di h1 pb d s st->Ct 95 [p0,p1] h1 (fun r h2=>r=.int .i64 D.2/\Kp [pb] h1 h2/\di h2 pb D.1 s st)) {k:Value->ad->Prop}
 (hk:∀h',Kp [pb] h h'->di h' pb (cC d D).1 s st->k (.tuple #[.slice none 0 0,.int .i64 (cC d D).2.2]) h'):Ct 80 [.pointer (some ⟨pb,0,none⟩),.func (.func 95) #[] #[p0,p1]] h k:=by
 obtain⟨A,hA⟩:=Ar.ex;have uZ:(cC d D).1=if D.2≠0 then d else D.1:=by unfold cC;by_cases c:D.2≠0<;>simp[c]
 have qT:(cC d D).2.2=D.2:=by unfold cC;by_cases c:D.2=0<;>simp[c]
 rw[uZ,qT]at hk;obtain⟨D1,De⟩:=D;replace hk:∀h',Kp [pb] h h'->di h' pb (if De≠0 then d else D1) s st->k (.tuple #[.slice none 0 0,.int .i64 De]) h':=hk;replace step:∀h1,Le h h1->di h1 pb d s st->Ct 95 [p0,p1] h1 (fun r h2=>r=.int .i64 De/\Kp [pb] h1 h2/\di h2 pb D1 s st):=step;clear uZ qT;obtain⟨cp,hp⟩:=q.has;refine iY A (aq UC.ax UC.bm) Tryz.func80 rfl (by kernel_rfl) ?_;cbv;intro wb h1 g1 e1;have l1:Le h h1:=by rw[e1];exact Le.set g1
 have kT:h1 wb=some (.cells #[.pointer (some ⟨pb,0,none⟩)] 99 (0,0)):=by rw[e1];exact ae
 have nw:wb≠pb:=fun e=>by rw[e,hp]at g1;cases g1
 clear e1;cbv;intro eb h2 g2 e2;have l2:Le h1 h2:=by rw[e2];exact Le.set g2
 have Pt:h2 eb=some (.cells #[.int .i64 0] 35 (0,0)):=by rw[e2];exact ae
 have ne:eb≠pb:=fun e=>by rw[e,l1 _ _ hp]at g2;cases g2
 have new:eb≠wb:=fun e=>by rw[e,kT]at g2;cases g2
 have Ss:h eb=none:=by
  cases hh:h eb with
  |none=>rfl
  |some o=>rw[l1 _ _ hh]at g2;cases g2
 clear e2;refine(q.mono (l1.trans l2)).elim (fun b1 n1 c1 b2 n2 c2 b3 n3 c3 b4 n4 c4 b5 n5 c5 b6 n6 c6 b7 n7 c7 b8 n8 c8 b9 n9 c9 eQ fJ eP g qd q1 q2 q3 q4 q5 q6=>?_);clear q1 q2 q3 q4 q5 q6;have kR:=l2 _ _ kT;cbv;refine ar kR rfl rfl ?_;cbv;rw[ai A];refine ar g rfl rfl ?_;cbv;intro db h3 g3 e3;have l3:Le h2 h3:=by rw[e3];exact Le.set g3
 have Pu:h3 db=some (.cells #[.slice none 0 0,.slice none 0 0,.slice none 0 0,.slice none 0 0] 32 (0,0)):=by rw[e3];exact ae
 have Vv:db≠pb:=fun e=>by rw[e,g]at g3;cases g3
 have Vw:db≠eb:=fun e=>by rw[e,Pt]at g3;cases g3
 have ndw:db≠wb:=fun e=>by rw[e,kR]at g3;cases g3
 have zu:Le h h2:=l1.trans l2;have WQ:h db=none:=by
  cases hh:h db with
  |none=>rfl
  |some o=>rw[zu _ _ hh]at g3;cases g3
 clear e3;cbv;refine eH Pu (by simp) (fun h4 e4=>?_);have Xn:h4 db=some (.cells #[.slice b1 n1 c1,.slice b2 n2 c2,.slice b3 n3 c3,.slice b4 n4 c4] 32 (0,0)):=by rw[e4];exact ae
 have l4:Le h2 h4:=fun b o hb=>by rw[e4,av (fun e=>by rw[e,g3]at hb;cases hb)];exact l3 _ _ hb
 have Xk:=l4 _ _ Pt;have wy:=l4 _ _ kR;have mf:=zu.trans l4;have TF:=qd.mono l4;clear e4 Pu l3;cbv;refine(step h4 mf (q.mono mf)).mono (fun r h5 hR=>?_);obtain⟨hr,yH,q5⟩:=hR;subst hr;have qJ:∀tys,101∉tys->bE tys h4 h5:=fun tys ht=>(q.mono mf).kp yH ht;have Xm:=yH _ _ Xn (by simpa using Vv);have Ps:=yH _ _ Xk (by simpa using ne);have pj:=yH _ _ wy (by simpa using nw);have Vc:=TF.OM (qJ _ (by decide));clear step;cbv;refine eH Ps (by simp) (fun h6 e6=>?_);have B4:∀tys,35∉tys->bE tys h5 h6:=fun tys ht=>by rw[e6];exact bE.set Ps ht
 have Pr:h6 eb=some (.cells #[.int .i64 De] 35 (0,0)):=by rw[e6];exact ae
 have Xl:h6 db=some (.cells #[.slice b1 n1 c1,.slice b2 n2 c2,.slice b3 n3 c3,.slice b4 n4 c4] 32 (0,0)):=by rw[e6,av Vw];exact Xm
 have Xd:h6 wb=some (.cells #[.pointer (some ⟨pb,0,none⟩)] 99 (0,0)):=by rw[e6,av (Ne.symm new)];exact pj
 have q6:di h6 pb D1 s st:=q5.lt (by rw[e6,av (Ne.symm ne)]) (B4 _ (by decide));have TE:=Vc.OM (B4 _ (by decide));have KL:Kp [pb] h h6:=fun b o hb hn=>by
  rw[e6,av (fun e=>by rw[e,Ss]at hb;cases hb)];exact yH _ _ (mf _ _ hb) hn
 clear e6;cbv;refine(yd q6 Pr Xl TE Xd).mono (fun v h7 hR=>?_);obtain⟨rN,q7⟩:=hR;have af:=hk h7 (KL.trans rN) q7;have Xj:=rN _ _ Pr (by simpa using ne);clear hk;cbv;refine ar Xj rfl rfl ?_;cbv;exact af
theorem IK{h:ad}{pb:Nat}{d:DB}{s:Int}{st:aB}(q:di h pb d s st)(hx:eO st){n:Nat}(ok:sK n d)(iq:n<2^18)(gu:-2^63<=s/\s<2^63){wb:Nat}(gw:h wb=some (.cells #[.pointer (some ⟨pb,0,none⟩)] 99 (0,0)))
 {D:DB×Int} (hD:D=match ep st.exprs [] []with
  | (r,e)=>if e≠0 then(d,e)else jJ d s st.table r) {k:Value->ad->Prop} (hk:∀h',Kp [pb] h h'->di h' pb D.1 s st->k (.int .i64 D.2) h'):
 Ct 81 [.pointer (some ⟨wb,0,none⟩)] h k:=by
 obtain⟨A,hA⟩:=Ar.ex;refine q.elim (fun b1 n1 c1 b2 n2 c2 b3 n3 c3 b4 n4 c4 b5 n5 c5 b6 n6 c6 b7 n7 c7 b8 n8 c8 b9 n9 c9 eQ fJ eP g qd q1 q2 q3 q4 q5 q6=>?_);clear q1 q2 q3 q5 q6;obtain⟨D1,De⟩:=D;replace hk:∀h',Kp [pb] h h'->di h' pb D1 s st->k (.int .i64 De) h':=hk;refine ah A (aq T81.ax T81.bm) Tryz.func81 rfl (by kernel_rfl) ?_;cbv;refine ar gw rfl rfl ?_;cbv;rw[ai A,ai A];refine ar g rfl rfl ?_;cbv;refine ye hx.exprs (cols:=[]) (fun _ hc=>by cases hc) (r:=[]) (fun _ hv=>by cases hv) hx.len q4 Sl.nil Sl.nil (fun h1 b m c l e l1 hv qb il=>?_);rw[<-hv]at hD;replace hD:(D1,De)=if e≠0 then(d,e)else jJ d s st.table l:=hD
 have fe:A .aF .eql e 0=decide (e=0):=aw A ..;have kT:=l1 _ _ gw;have g1:=l1 _ _ g;by_cases h0:e=0
 ·rw[if_neg (fun g=>g h0)]at hD;have bl:∀ {h' h2:ad} {b1:Option Addr} {n1 c1:Nat} {b2:Option Addr} {n2 c2:Nat} {b3:Option Addr} {n3 c3:Nat} {b4:Option Addr} {n4 c4:Nat} {c:List Value},Le h h'->h' pb=some (.cells (List.toArray c) 101 (0,0))->fP h' (.agg #[.slice b1 n1 c1,.slice b2 n2 c2,.slice b3 n3 c3,.slice b4 n4 c4]) D1->h2=bl h' pb (.cells (List.toArray (eA c 0 [.slice b1 n1 c1,.slice b2 n2 c2,.slice b3 n3 c3,.slice b4 n4 c4])) 101 (0,0))->k (.int .i64 De) h2:=fun l g qd e2=>by
   have:=q.Hy l g qd e2;exact hk _ this.2 this.1
  clear hk;cbv;rw[fe,decide_eq_true h0];cbv;refine ar kT rfl rfl ?_;cbv;refine ar kT rfl rfl ?_;cbv;try rw[ai A]
  refine ar g1 rfl rfl ?_;cbv;refine ar kT rfl rfl ?_;cbv;try rw[ai A]
  refine ar g1 rfl rfl ?_;cbv;refine ar kT rfl rfl ?_;cbv;first|rw[ai A,ai A] |rw[ai A] |skip
  refine ar g1 rfl rfl ?_;cbv;refine HL (qd.mono l1) ok iq s gu st.table qb.sl hD.symm ?_;intro h2 e1 m1 a1 e2 m2 a2 e3 m3 a3 e4 m4 a4 l2 wC;have g2:=l2 _ _ g1;have kR:=l2 _ _ kT;cbv;refine ar kR rfl rfl ?_;cbv;refine⟨⟨_,rfl,rfl⟩,?_⟩;cbv;try rw[ai A]
  refine eH g2 (by simp) (fun h3 Uv=>?_);have af:=bl (l1.trans l2) g2 wC Uv;clear bl g2 Uv;cbv;exact af
 ·rw[if_pos h0]at hD;cases hD;have af:=hk h1 (l1.kp _) (q.mono l1);clear hk;cbv;rw[fe,decide_eq_false h0];cbv;exact af
theorem MA{h:ad}{pb:Nat}{d:DB}{s:Int}{st:aB}(q:di h pb d s st)(hx:eO st){n:Nat}(ok:SJ n d)(iq:n+2<2^18)(gu:-2^63<=s/\s<2^63){k:Value->ad->Prop}
 (hk:∀h',Kp [pb] h h'->di h' pb (jh d s st).1 s st->k (.tuple #[.slice none 0 0,.int .i64 (jh d s st).2.2]) h'):
 Ct 41 [.pointer (some ⟨pb,0,none⟩)] h k:=by
 obtain⟨A,hA⟩:=Ar.ex;have hP:jh d s st=match aO d ⟨s,st.table,true⟩with
  | (d,e)=>if e≠0 then(d,[],e)else cC d (match ep st.exprs [] []with
   | (r,e)=>if e≠0 then(d,e)else jJ d s st.table r):=rfl
 generalize jh d s st=D at *;have sj:=pZ ok ⟨s,st.table,true⟩ gu;obtain⟨c,hp⟩:=q.has;refine q.elim (fun b1 n1 c1 b2 n2 c2 b3 n3 c3 b4 n4 c4 b5 n5 c5 b6 n6 c6 b7 n7 c7 b8 n8 c8 b9 n9 c9 eQ fJ eP g qd q1 q2 q3 q4 q5 q6=>?_);clear q1 q2 q3 q4 q5 q6;refine ah A (aq T41.ax T41.bm) Tryz.func41 rfl (by kernel_rfl) ?_;cbv;intro wb h1 gn e1;have l1:Le h h1:=by rw[e1];exact Le.set gn
 have kT:h1 wb=some (.cells #[.pointer (some ⟨pb,0,none⟩)] 99 (0,0)):=by rw[e1];exact ae
 have nw:wb≠pb:=fun e=>by rw[e,hp]at gn;cases gn
 have g1:=l1 _ _ g;clear e1;cbv;refine ar kT rfl rfl ?_;cbv;refine ar kT rfl rfl ?_;cbv;first|rw[ai A,ai A] |rw[ai A] |skip
 refine ar g1 rfl rfl ?_;cbv;refine C6 (q.mono l1) ok.zs (by omega) st.table true (fun h2 k2 q2=>?_);generalize aO d ⟨s,st.table,true⟩=H at *;obtain⟨d1,e⟩:=H;replace q2:di h2 pb d1 s st:=q2;replace sj:SJ (n+1) d1:=sj;replace hP:D=if e≠0 then(d1,[],e)else cC d1 (match ep st.exprs [] []with
  | (r,e)=>if e≠0 then(d1,e)else jJ d1 s st.table r):=hP
 have fe:A .aF .neq e 0=decide (e≠0):=ay A ..;have KM:Kp [pb] h h2:=(l1.kp _).trans k2;have kR:=k2 _ _ kT (by simpa using nw);by_cases h0:e≠0
 ·rw[if_pos h0]at hP;subst hP;have af:=hk h2 KM q2;clear hk;cbv;rw[fe,decide_eq_true h0];cbv;exact af
 ·rw[if_neg h0]at hP;have jj:∀h3,Le h2 h3->di h3 pb d1 s st->Ct 81 [.pointer (some ⟨wb,0,none⟩)] h3 (fun r h4=>r=.int .i64 (match ep st.exprs [] []with
   | (r,e)=>if e≠0 then(d1,e)else jJ d1 s st.table r).2/\Kp [pb] h3 h4/\di h4 pb (match ep st.exprs [] []with
   | (r,e)=>if e≠0 then(d1,e)else jJ d1 s st.table r).1 s st):=fun h3 l3 q3=>IK q3 hx sj.zs (by omega) gu (l3 _ _ kR) rfl (fun h4 k4 q4=>⟨rfl,k4,q4⟩)
  generalize (match ep st.exprs [] []with
   | (r,e)=>if e≠0 then(d1,e)else jJ d1 s st.table r)=E at *
  cbv;rw[fe,decide_eq_false h0];cbv;refine ar kR rfl rfl ?_;cbv;refine GS q2 jj (fun h3 k3 q3=>?_);rw[<-hP]at q3 |-;have af:=hk h3 (KM.trans k3) q3;clear hk jj;generalize D.2.2=De at *;cbv;exact af
def ja(nm:ByteArray)(c:bM):bM:=⟨nm++aC [46]++c.name,c.kind,c.null⟩
theorem jy(t:cg):aE t=t.S.cols.map (ja t.S.name):=rfl
theorem Du{α:Type}{f:α->α}{xs:List α}{i:Nat}{x:α}(h:xs[i]? =some x):((xs.take i).map f++xs.drop i).set i (f x)=(xs.take (i+1)).map f++xs.drop (i+1):=by
 have hi:=(List.getElem?_eq_some_iff.1 h).1;have hd:xs.drop i=x::xs.drop (i+1):=by obtain⟨h1,h2⟩:=List.getElem?_eq_some_iff.1 h;rw[List.drop_eq_getElem_cons h1,h2]
 have hl:((xs.take i).map f).length=i:=by simp;omega
 rw[hd,List.set_append_right _ _ (by omega),hl,Nat.sub_self,List.set_cons_zero];rw[List.take_add_one,h];simp
theorem Dv{α:Type}{f:α->α}{xs:List α}{i:Nat}{x:α}(h:xs[i]? =some x):((xs.take i).map f++xs.drop i)[i]? =some x:=by have hi:=(List.getElem?_eq_some_iff.1 h).1;rw[List.getElem?_append_right (by simp;omega),List.length_map,List.length_take,Nat.min_eq_left (by omega),Nat.sub_self,List.getElem?_drop,Nat.add_zero,h]
theorem iz{nm:ByteArray}(vg:Nm nm){cols:List bM}(hc:∀c∈cols,Nm c.name){h:ad}{cb:Option Addr}{cn cc:Nat}(qc:Sl 165 aT h (.slice cb cn cc) cols)(key:Int)(only:Bool)(rb:Option Addr)(rn rc:Nat){k:Value->ad->Prop}
 (hk:∀h' b n c,Le h h'->cK 165 aT h h' (.slice b n c) (cols.map (ja nm))->k (.slice b n c) h'):
 Ct 87 [.agg #[.string nm,.slice cb cn cc,.int .i64 key,.bool only,.slice rb rn rc]] h k:=by
 obtain⟨A,hA⟩:=Ar.ex;obtain⟨X,hX⟩:∃X,A .cat nm ⟨#[46]⟩=X:=⟨_,rfl⟩;have hX2:X=nm++aC [46]:=by rw[<-hX,hA.cat];rfl
 have eE:((nm.size+(⟨#[46]⟩:ByteArray).size:Nat):Int)<=2^62:=by have:=vg.sz;have e:(⟨#[46]⟩:ByteArray).size=1:=rfl;rw[e];omega
 have DG:∀c∈cols,((X.size+c.name.size:Nat):Int)<=2^62:=fun c sC=>by
  have h1:=vg.sz;have h2:=(hc c sC).sz;have e:X.size=nm.size+1:=by rw[hX2,ByteArray.size_append];rfl
  rw[e];omega
 have CD:∀c:bM,A .cat X c.name=(ja nm c).name:=fun c=>by rw[hA.cat,hX2];rfl
 refine ah A (aq T87.ax T87.bm) Tryz.func87 rfl (by kernel_rfl) ?_;cbv;refine(sG qc).mono (fun v h1 hR=>?_);obtain⟨l1,b',c',hv,qb⟩:=hR;subst hv;rcases qb.out with ⟨b0,g1,g2⟩ | ⟨nb,cap,g1,g2,o⟩
 ·have af:=hk h1 b' 0 0 l1 (by rw[g2];exact cK.nil);have f0:A .aF .lss 0 (A .nat 0)=false:=by rw[bC A,hA.nat];rfl
  cases g1;clear hk;cbv;refine aZ.go (G:=Unit) (fun _=>[(11,.v (.int .i64 0))]) (fun _=>[(1,[.string nm,.slice cb 0 cc,.int .i64 key,.bool only,.slice rb rn rc])]) (fun m z h'=>h'=h1) 0 () ⟨?_,?_,?_⟩ rfl ?_
  ·cbv
  ·cbv
  ·cbv
  ·intro m z h' e;subst e;cbv;rw[f0];cbv;exact af
 ·have Uj:=qc.len;cases g1;have hcn':cols.length=cols.length:=rfl;generalize hN:cols.length=N at *;obtain⟨I,bh⟩:∃I:Nat->Int->ad->Prop,∀m z h',I m z h'=∃i,aP z i/\i<=N/\m=N-i/\Kp [nb] h1 h'/\dq 165 aT h' nb c' ((cols.take i).map (ja nm)++cols.drop i):=⟨_,fun _ _ _=>rfl⟩;have hJ:I N 0 h1:=by rw[bh];exact⟨0,⟨rfl⟩,Nat.zero_le _,rfl,Kp.refl _ _,o⟩
  have hNb:=qc.bound;clear o qb;cbv;refine aZ.go (G:=Int) (fun z=>[(11,.v (.int .i64 z))]) (fun _=>[(1,[.string nm,.slice cb N cc,.int .i64 key,.bool only,.slice rb rn rc])]) (fun m z h'=>I m z h') N 0 ⟨?_,?_,?_⟩ hJ ?_
  ·cbv
  ·cbv
  ·cbv
  ·intro m z h2 hI;rw[bh]at hI;cbv;obtain⟨i,hz,hi,hm,k2,o⟩:=hI;have f1:A .aF .lss z (A .nat N)=decide (i<N):=hz.gE (aP.nat N);rw[f1];by_cases aI:i<N
   ·obtain⟨c,Ui⟩:=aD (xs:=cols) (i:=i) (by omega);have sC:=List.mem_of_getElem? Ui;have hg:=Dv (f:=ja nm) Ui;have ll:=Du (f:=ja nm) Ui;have hlen:((cols.take i).map (ja nm)++cols.drop i).length=N:=by simp;omega
    generalize (cols.take i).map (ja nm)++cols.drop i=L at *;have cy:0<=z/\z<(N:Int):=hz.ix aI;have eX:=hz.eq;have dz:=hz.succ (A:=A) (by omega);have iD:N-(i+1)<m:=by omega
    have DG:=DG c sC;have CD:=CD c;have cU:∀h3,Kp [nb] h2 h3->dq 165 aT h3 nb c' (L.set i (ja nm c))->I (N-(i+1)) (A .bA .add .i64 z 1) h3:=fun h3 k3 o3=>by
     rw[bh];exact⟨i+1,dz,aI,rfl,k2.trans k3,by rw[<-ll];exact o3⟩
    have qs:=o.sl hlen.symm;clear bh hJ hk dz;rw[decide_eq_true aI];cbv;refine⟨eE,?_⟩;cbv;rw[hX];refine⟨⟨rfl,cy⟩,?_⟩;cbv;refine qs.js hg eX (o:=0) (m:=1) (by decide) (fun cs aJ=>?_);obtain⟨rS,A3,D6⟩:=c;have aJ:cs=[.string rS,.int .i64 A3,.bool D6]:=aJ;subst aJ;have CD:A .cat X rS=(ja nm ⟨rS,A3,D6⟩).name:=CD;cbv;refine⟨DG,?_⟩;cbv;rw[CD];generalize hy:(ja nm ⟨rS,A3,D6⟩).name=y at *;refine⟨⟨rfl,cy⟩,?_⟩;cbv;refine o.Ev (by decide) hg eX rfl (off:=0) (new:=[.string y]) (show 0+1<=3 by omega) (x':=ja nm ⟨rS,A3,D6⟩) (fun cs aJ=>?_) (fun h3 k3 t3 o3=>?_)
    ·have aJ:cs=[.string rS,.int .i64 A3,.bool D6]:=aJ;subst aJ;show [Value.string y,.int .i64 A3,.bool D6]=[.string (ja nm ⟨rS,A3,D6⟩).name,.int .i64 A3,.bool D6];rw[hy]
    ·have xL:=cU h3 k3 o3;clear cU;cbv;refine⟨N-(i+1),A .bA .add .i64 z 1,iD,⟨?_,?_,?_⟩,xL⟩
     ·cbv
     ·cbv
     ·cbv
   ·have iE:i=N:=by omega
    rw[iE,<-hN,List.take_of_length_le (Nat.le_refl _),List.drop_of_length_le (Nat.le_refl _),List.append_nil]at o;have vi:(cols.map (ja nm)).length=N:=by rw[List.length_map,hN]
    have af:=hk h2 (some ⟨nb,0,none⟩) N c' (l1.cm (fun b hb=>by rw[List.mem_singleton.1 hb];exact g2) k2) (o.buf g2 vi.symm);clear bh hJ hk;rw[decide_eq_false aI];cbv;exact af
end Go.S
