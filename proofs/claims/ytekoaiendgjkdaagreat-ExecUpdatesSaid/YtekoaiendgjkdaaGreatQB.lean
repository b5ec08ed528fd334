import Derived.Test.YtekoaiendgjkdaaGreatQA
import Derived.Test.YtekoaiendgjkdaaGreatVB
import Derived.Test.YtekoaiendgjkdaaGreatEB
import Derived.Test.YtekoaiendgjkdaaGreatGB
import Derived.Test.YtekoaiendgjkdaaGreatGC
set_option linter.unusedVariables false
set_option linter.unusedSimpArgs false
set_option linter.unusedSectionVars false
set_option maxRecDepth 100000
set_option maxHeartbeats 8000000
namespace Go.S
open Go.Sx Go.Proofs
theorem iO{α:Type}{A:Ar}[aV A]{e e1:Nat}{s:Sh α}{h:ad}{b:Option Addr}{len cap:Nat}{xs:List (List α)}(q:Sl e (jU e1 s) h (.slice b len cap) xs){i:Nat}{x:List α}(hx:xs[i]? =some x){n:Int}(hn:n=(i:Int)){k:List Value->Prop}
 (hk:∀b1 n1 c1,Sl e1 s h (.slice b1 n1 c1) x->k [.slice b1 n1 c1]):tq h (A .ja b n 1) 1 k:=by
 refine q.load hx hn (fun cs aC=>?_);obtain⟨v,rfl,hv⟩:=aC;obtain⟨b1,c1,rfl,-⟩:=hv.out;exact hk _ _ _ hv
theorem rl{A:Ar}[aV A]{h:ad}{b:Option Addr}{len cap:Nat}{xs:List dG}(q:Sl 276 cm h (.slice b len cap) xs){i:Nat}{x:dG}(hx:xs[i]? =some x){n:Int}(hn:n=(i:Int)){k:List Value->Prop}
 (hk:∀b1 n1 c1,Sl 325 dh h (.slice b1 n1 c1) x.e->k [.int .i64 x.fn,.slice b1 n1 c1]):tq h (A .ja b n 2) 2 k:=by
 refine q.load hx hn (fun cs aC=>?_);obtain⟨b1,n1,c1,rfl,hv⟩:=aC;exact hk _ _ _ hv
theorem firstChosen{xs:List (Row)}{p0 p1 p2 p3 p4:Value}{h:ad}{b:Option Addr}{n c:Nat}(hn:n=xs.length)(I:Nat->ad->Prop)(h0:I 0 h)(hq:∀i h',I i h'->Sl 59 aL h' (.slice b n c) xs){k:Value->ad->Prop}
 (step:∀i x h' b1 n1 c1,i<n->xs[i]? =some x->I i h'->Sl 61 bq h' (.slice b1 n1 c1) x->Ct 170 [.slice b1 n1 c1,p0,p1,p2,p3,p4] h' (fun r me=>∃e,r=.int .i64 e/\(e=0->I (i+1) me)/\(e≠0->k (.int .i64 e) me)))
 (fin:∀h',I n h'->k (.int .i64 0) h'):
 Ct 92 [.slice b n c,.func (.func 170) #[] #[p0,p1,p2,p3,p4]] h k:=by
 obtain⟨A,hA⟩:=Ar.ex;have BZ:=(hq 0 h h0).bound;obtain⟨J,eR⟩:∃J:Nat->Int->ad->Prop,∀m z h',J m z h'=∃i,aS z i/\i<=n/\m=n-i/\I i h':=⟨_,fun _ _ _=>rfl⟩;have hJ:J n 0 h:=by rw[eR];exact⟨0,⟨rfl⟩,Nat.zero_le _,rfl,h0⟩
 refine ah A (ar T92.aA T92.bm) Tryz.func92 rfl (by kernel_rfl) ?_;cbv;refine aX.go (G:=Int) (fun z=>[(10,.v (.int .i64 z))]) (fun _=>[]) (fun m z h'=>J m z h') n 0 ⟨?_,?_,?_⟩ hJ ?_
 ·cbv
 ·cbv
 ·cbv
 ·intro m z h1 hI;rw[eR]at hI;cbv;obtain⟨i,hz,hi,hm,hI⟩:=hI;have f1:A .aG .lss z (A .nat n)=decide (i<n):=hz.gy (aS.nat n);rw[f1];by_cases aK:i<n
  ·obtain⟨x,hx⟩:=aI (xs:=xs) (i:=i) (by omega);have qs:=hq i h1 hI;have cU:b.isSome=true/\0<=z/\z<(n:Int):=⟨qs.bu (by omega),hz.ix aK⟩;have fA:=hz.eq;have dD:=hz.succ (A:=A) (by omega);have j0:n-(i+1)<m:=by omega
   have jt:∀h',I (i+1) h'->J (n-(i+1)) (A .bA .add .i64 z 1) h':=fun h' hh=>by rw[eR];exact⟨i+1,dD,aK,rfl,hh⟩
   have st:=step i x h1;clear eR hJ step fin hq;rw[decide_eq_true aK];cbv;refine⟨cU,?_⟩;cbv;refine iO qs hx fA (fun b1 n1 c1 hv=>?_);replace st:=st b1 n1 c1;cbv;refine(st aK hx hI hv).mono (fun r h2 hR=>?_);obtain⟨e,hr,lk,oN⟩:=hR;subst hr;have fe:A .aG .neq e 0=decide (e≠0):=aB A ..;by_cases h0:e=0
   ·have di:=jt h2 (lk h0);clear jt lk oN st;cbv;rw[fe,decide_eq_false (fun g=>g h0)];cbv;refine⟨n-(i+1),A .bA .add .i64 z 1,j0,⟨?_,?_,?_⟩,di⟩
    ·cbv
    ·cbv
    ·cbv
   ·have ae:=oN h0;clear jt lk oN st;cbv;rw[fe,decide_eq_true h0];cbv;exact ae
  ·have jR:i=n:=by omega
   subst jR;have ae:=fin h1 hI;clear eR hJ step fin hq;rw[decide_eq_false aK];cbv;exact ae
theorem firstTake{xs:List (Row)}{f0:Value}{h:ad}{b:Option Addr}{n c:Nat}(hn:n=xs.length)(I:Nat->ad->Prop)(h0:I 0 h)(hq:∀i h',I i h'->Sl 59 aL h' (.slice b n c) xs){k:Value->ad->Prop}
 (step:∀i x h' b1 n1 c1,i<n->xs[i]? =some x->I i h'->Sl 61 bq h' (.slice b1 n1 c1) x->Ct 93 [f0,.slice b1 n1 c1] h' (fun r me=>∃e,r=.int .i64 e/\(e=0->I (i+1) me)/\(e≠0->k (.int .i64 e) me)))
 (fin:∀h',I n h'->k (.int .i64 0) h'):
 Ct 92 [.slice b n c,.func (.func 93) #[f0] #[]] h k:=by
 obtain⟨A,hA⟩:=Ar.ex;have BZ:=(hq 0 h h0).bound;obtain⟨J,eR⟩:∃J:Nat->Int->ad->Prop,∀m z h',J m z h'=∃i,aS z i/\i<=n/\m=n-i/\I i h':=⟨_,fun _ _ _=>rfl⟩;have hJ:J n 0 h:=by rw[eR];exact⟨0,⟨rfl⟩,Nat.zero_le _,rfl,h0⟩
 refine ah A (ar T92.aA T92.bm) Tryz.func92 rfl (by kernel_rfl) ?_;cbv;refine aX.go (G:=Int) (fun z=>[(10,.v (.int .i64 z))]) (fun _=>[]) (fun m z h'=>J m z h') n 0 ⟨?_,?_,?_⟩ hJ ?_
 ·cbv
 ·cbv
 ·cbv
 ·intro m z h1 hI;rw[eR]at hI;cbv;obtain⟨i,hz,hi,hm,hI⟩:=hI;have f1:A .aG .lss z (A .nat n)=decide (i<n):=hz.gy (aS.nat n);rw[f1];by_cases aK:i<n
  ·obtain⟨x,hx⟩:=aI (xs:=xs) (i:=i) (by omega);have qs:=hq i h1 hI;have cU:b.isSome=true/\0<=z/\z<(n:Int):=⟨qs.bu (by omega),hz.ix aK⟩;have fA:=hz.eq;have dD:=hz.succ (A:=A) (by omega);have j0:n-(i+1)<m:=by omega
   have jt:∀h',I (i+1) h'->J (n-(i+1)) (A .bA .add .i64 z 1) h':=fun h' hh=>by rw[eR];exact⟨i+1,dD,aK,rfl,hh⟩
   have st:=step i x h1;clear eR hJ step fin hq;rw[decide_eq_true aK];cbv;refine⟨cU,?_⟩;cbv;refine iO qs hx fA (fun b1 n1 c1 hv=>?_);replace st:=st b1 n1 c1;cbv;refine(st aK hx hI hv).mono (fun r h2 hR=>?_);obtain⟨e,hr,lk,oN⟩:=hR;subst hr;have fe:A .aG .neq e 0=decide (e≠0):=aB A ..;by_cases h0:e=0
   ·have di:=jt h2 (lk h0);clear jt lk oN st;cbv;rw[fe,decide_eq_false (fun g=>g h0)];cbv;refine⟨n-(i+1),A .bA .add .i64 z 1,j0,⟨?_,?_,?_⟩,di⟩
    ·cbv
    ·cbv
    ·cbv
   ·have ae:=oN h0;clear jt lk oN st;cbv;rw[fe,decide_eq_true h0];cbv;exact ae
  ·have jR:i=n:=by omega
   subst jR;have ae:=fin h1 hI;clear eR hJ step fin hq;rw[decide_eq_false aK];cbv;exact ae
theorem firstPut{xs:List (Row)}{f0:Value}{h:ad}{b:Option Addr}{n c:Nat}(hn:n=xs.length)(I:Nat->ad->Prop)(h0:I 0 h)(hq:∀i h',I i h'->Sl 59 aL h' (.slice b n c) xs){k:Value->ad->Prop}
 (step:∀i x h' b1 n1 c1,i<n->xs[i]? =some x->I i h'->Sl 61 bq h' (.slice b1 n1 c1) x->Ct 94 [f0,.slice b1 n1 c1] h' (fun r me=>∃e,r=.int .i64 e/\(e=0->I (i+1) me)/\(e≠0->k (.int .i64 e) me)))
 (fin:∀h',I n h'->k (.int .i64 0) h'):
 Ct 92 [.slice b n c,.func (.func 94) #[f0] #[]] h k:=by
 obtain⟨A,hA⟩:=Ar.ex;have BZ:=(hq 0 h h0).bound;obtain⟨J,eR⟩:∃J:Nat->Int->ad->Prop,∀m z h',J m z h'=∃i,aS z i/\i<=n/\m=n-i/\I i h':=⟨_,fun _ _ _=>rfl⟩;have hJ:J n 0 h:=by rw[eR];exact⟨0,⟨rfl⟩,Nat.zero_le _,rfl,h0⟩
 refine ah A (ar T92.aA T92.bm) Tryz.func92 rfl (by kernel_rfl) ?_;cbv;refine aX.go (G:=Int) (fun z=>[(10,.v (.int .i64 z))]) (fun _=>[]) (fun m z h'=>J m z h') n 0 ⟨?_,?_,?_⟩ hJ ?_
 ·cbv
 ·cbv
 ·cbv
 ·intro m z h1 hI;rw[eR]at hI;cbv;obtain⟨i,hz,hi,hm,hI⟩:=hI;have f1:A .aG .lss z (A .nat n)=decide (i<n):=hz.gy (aS.nat n);rw[f1];by_cases aK:i<n
  ·obtain⟨x,hx⟩:=aI (xs:=xs) (i:=i) (by omega);have qs:=hq i h1 hI;have cU:b.isSome=true/\0<=z/\z<(n:Int):=⟨qs.bu (by omega),hz.ix aK⟩;have fA:=hz.eq;have dD:=hz.succ (A:=A) (by omega);have j0:n-(i+1)<m:=by omega
   have jt:∀h',I (i+1) h'->J (n-(i+1)) (A .bA .add .i64 z 1) h':=fun h' hh=>by rw[eR];exact⟨i+1,dD,aK,rfl,hh⟩
   have st:=step i x h1;clear eR hJ step fin hq;rw[decide_eq_true aK];cbv;refine⟨cU,?_⟩;cbv;refine iO qs hx fA (fun b1 n1 c1 hv=>?_);replace st:=st b1 n1 c1;cbv;refine(st aK hx hI hv).mono (fun r h2 hR=>?_);obtain⟨e,hr,lk,oN⟩:=hR;subst hr;have fe:A .aG .neq e 0=decide (e≠0):=aB A ..;by_cases h0:e=0
   ·have di:=jt h2 (lk h0);clear jt lk oN st;cbv;rw[fe,decide_eq_false (fun g=>g h0)];cbv;refine⟨n-(i+1),A .bA .add .i64 z 1,j0,⟨?_,?_,?_⟩,di⟩
    ·cbv
    ·cbv
    ·cbv
   ·have ae:=oN h0;clear jt lk oN st;cbv;rw[fe,decide_eq_true h0];cbv;exact ae
  ·have jR:i=n:=by omega
   subst jR;have ae:=fin h1 hI;clear eR hJ step fin hq;rw[decide_eq_false aK];cbv;exact ae
theorem Hx{xs:List (Row)}{p0 p1 p2:Value}{h:ad}{b:Option Addr}{n c:Nat}(hn:n=xs.length)(I:Nat->ad->Prop)(h0:I 0 h)(hq:∀i h',I i h'->Sl 59 aL h' (.slice b n c) xs){k:Value->ad->Prop}
 (step:∀i x h' b1 n1 c1,i<n->xs[i]? =some x->I i h'->Sl 61 bq h' (.slice b1 n1 c1) x->Ct 188 [.slice b1 n1 c1,p0,p1,p2] h' (fun r me=>∃e,r=.int .i64 e/\(e=0->I (i+1) me)/\(e≠0->k (.int .i64 e) me)))
 (fin:∀h',I n h'->k (.int .i64 0) h'):
 Ct 92 [.slice b n c,.func (.func 188) #[] #[p0,p1,p2]] h k:=by
 obtain⟨A,hA⟩:=Ar.ex;have BZ:=(hq 0 h h0).bound;obtain⟨J,eR⟩:∃J:Nat->Int->ad->Prop,∀m z h',J m z h'=∃i,aS z i/\i<=n/\m=n-i/\I i h':=⟨_,fun _ _ _=>rfl⟩;have hJ:J n 0 h:=by rw[eR];exact⟨0,⟨rfl⟩,Nat.zero_le _,rfl,h0⟩
 refine ah A (ar T92.aA T92.bm) Tryz.func92 rfl (by kernel_rfl) ?_;cbv;refine aX.go (G:=Int) (fun z=>[(10,.v (.int .i64 z))]) (fun _=>[]) (fun m z h'=>J m z h') n 0 ⟨?_,?_,?_⟩ hJ ?_
 ·cbv
 ·cbv
 ·cbv
 ·intro m z h1 hI;rw[eR]at hI;cbv;obtain⟨i,hz,hi,hm,hI⟩:=hI;have f1:A .aG .lss z (A .nat n)=decide (i<n):=hz.gy (aS.nat n);rw[f1];by_cases aK:i<n
  ·obtain⟨x,hx⟩:=aI (xs:=xs) (i:=i) (by omega);have qs:=hq i h1 hI;have cU:b.isSome=true/\0<=z/\z<(n:Int):=⟨qs.bu (by omega),hz.ix aK⟩;have fA:=hz.eq;have dD:=hz.succ (A:=A) (by omega);have j0:n-(i+1)<m:=by omega
   have jt:∀h',I (i+1) h'->J (n-(i+1)) (A .bA .add .i64 z 1) h':=fun h' hh=>by rw[eR];exact⟨i+1,dD,aK,rfl,hh⟩
   have st:=step i x h1;clear eR hJ step fin hq;rw[decide_eq_true aK];cbv;refine⟨cU,?_⟩;cbv;refine iO qs hx fA (fun b1 n1 c1 hv=>?_);replace st:=st b1 n1 c1;cbv;refine(st aK hx hI hv).mono (fun r h2 hR=>?_);obtain⟨e,hr,lk,oN⟩:=hR;subst hr;have fe:A .aG .neq e 0=decide (e≠0):=aB A ..;by_cases h0:e=0
   ·have di:=jt h2 (lk h0);clear jt lk oN st;cbv;rw[fe,decide_eq_false (fun g=>g h0)];cbv;refine⟨n-(i+1),A .bA .add .i64 z 1,j0,⟨?_,?_,?_⟩,di⟩
    ·cbv
    ·cbv
    ·cbv
   ·have ae:=oN h0;clear jt lk oN st;cbv;rw[fe,decide_eq_true h0];cbv;exact ae
  ·have jR:i=n:=by omega
   subst jR;have ae:=fin h1 hI;clear eR hJ step fin hq;rw[decide_eq_false aK];cbv;exact ae
theorem Ej{xs:List (Row)}{p0 p1 p2:Value}{h:ad}{b:Option Addr}{n c:Nat}(hn:n=xs.length)(I:Nat->ad->Prop)(h0:I 0 h)(hq:∀i h',I i h'->Sl 59 aL h' (.slice b n c) xs){k:Value->ad->Prop}
 (step:∀i x h' b1 n1 c1,i<n->xs[i]? =some x->I i h'->Sl 61 bq h' (.slice b1 n1 c1) x->Ct 189 [.slice b1 n1 c1,p0,p1,p2] h' (fun r me=>∃e,r=.int .i64 e/\(e=0->I (i+1) me)/\(e≠0->k (.int .i64 e) me)))
 (fin:∀h',I n h'->k (.int .i64 0) h'):
 Ct 92 [.slice b n c,.func (.func 189) #[] #[p0,p1,p2]] h k:=by
 obtain⟨A,hA⟩:=Ar.ex;have BZ:=(hq 0 h h0).bound;obtain⟨J,eR⟩:∃J:Nat->Int->ad->Prop,∀m z h',J m z h'=∃i,aS z i/\i<=n/\m=n-i/\I i h':=⟨_,fun _ _ _=>rfl⟩;have hJ:J n 0 h:=by rw[eR];exact⟨0,⟨rfl⟩,Nat.zero_le _,rfl,h0⟩
 refine ah A (ar T92.aA T92.bm) Tryz.func92 rfl (by kernel_rfl) ?_;cbv;refine aX.go (G:=Int) (fun z=>[(10,.v (.int .i64 z))]) (fun _=>[]) (fun m z h'=>J m z h') n 0 ⟨?_,?_,?_⟩ hJ ?_
 ·cbv
 ·cbv
 ·cbv
 ·intro m z h1 hI;rw[eR]at hI;cbv;obtain⟨i,hz,hi,hm,hI⟩:=hI;have f1:A .aG .lss z (A .nat n)=decide (i<n):=hz.gy (aS.nat n);rw[f1];by_cases aK:i<n
  ·obtain⟨x,hx⟩:=aI (xs:=xs) (i:=i) (by omega);have qs:=hq i h1 hI;have cU:b.isSome=true/\0<=z/\z<(n:Int):=⟨qs.bu (by omega),hz.ix aK⟩;have fA:=hz.eq;have dD:=hz.succ (A:=A) (by omega);have j0:n-(i+1)<m:=by omega
   have jt:∀h',I (i+1) h'->J (n-(i+1)) (A .bA .add .i64 z 1) h':=fun h' hh=>by rw[eR];exact⟨i+1,dD,aK,rfl,hh⟩
   have st:=step i x h1;clear eR hJ step fin hq;rw[decide_eq_true aK];cbv;refine⟨cU,?_⟩;cbv;refine iO qs hx fA (fun b1 n1 c1 hv=>?_);replace st:=st b1 n1 c1;cbv;refine(st aK hx hI hv).mono (fun r h2 hR=>?_);obtain⟨e,hr,lk,oN⟩:=hR;subst hr;have fe:A .aG .neq e 0=decide (e≠0):=aB A ..;by_cases h0:e=0
   ·have di:=jt h2 (lk h0);clear jt lk oN st;cbv;rw[fe,decide_eq_false (fun g=>g h0)];cbv;refine⟨n-(i+1),A .bA .add .i64 z 1,j0,⟨?_,?_,?_⟩,di⟩
    ·cbv
    ·cbv
    ·cbv
   ·have ae:=oN h0;clear jt lk oN st;cbv;rw[fe,decide_eq_true h0];cbv;exact ae
  ·have jR:i=n:=by omega
   subst jR;have ae:=fin h1 hI;clear eR hJ step fin hq;rw[decide_eq_false aK];cbv;exact ae
theorem Cc{xs:List (List Nd)}{p0 p1 p2:Value}{h:ad}{b:Option Addr}{n c:Nat}(hn:n=xs.length)(I:Nat->ad->Prop)(h0:I 0 h)(hq:∀i h',I i h'->Sl 42 fB h' (.slice b n c) xs){k:Value->ad->Prop}
 (step:∀i x h' b1 n1 c1,i<n->xs[i]? =some x->I i h'->Sl 325 dh h' (.slice b1 n1 c1) x->Ct 162 [.slice b1 n1 c1,p0,p1,p2] h' (fun r me=>∃e,r=.int .i64 e/\(e=0->I (i+1) me)/\(e≠0->k (.int .i64 e) me)))
 (fin:∀h',I n h'->k (.int .i64 0) h'):
 Ct 161 [.slice b n c,.func (.func 162) #[] #[p0,p1,p2]] h k:=by
 obtain⟨A,hA⟩:=Ar.ex;have BZ:=(hq 0 h h0).bound;obtain⟨J,eR⟩:∃J:Nat->Int->ad->Prop,∀m z h',J m z h'=∃i,aS z i/\i<=n/\m=n-i/\I i h':=⟨_,fun _ _ _=>rfl⟩;have hJ:J n 0 h:=by rw[eR];exact⟨0,⟨rfl⟩,Nat.zero_le _,rfl,h0⟩
 refine ah A (ar T161.aA T161.bm) Tryz.func161 rfl (by kernel_rfl) ?_;cbv;refine aX.go (G:=Int) (fun z=>[(10,.v (.int .i64 z))]) (fun _=>[]) (fun m z h'=>J m z h') n 0 ⟨?_,?_,?_⟩ hJ ?_
 ·cbv
 ·cbv
 ·cbv
 ·intro m z h1 hI;rw[eR]at hI;cbv;obtain⟨i,hz,hi,hm,hI⟩:=hI;have f1:A .aG .lss z (A .nat n)=decide (i<n):=hz.gy (aS.nat n);rw[f1];by_cases aK:i<n
  ·obtain⟨x,hx⟩:=aI (xs:=xs) (i:=i) (by omega);have qs:=hq i h1 hI;have cU:b.isSome=true/\0<=z/\z<(n:Int):=⟨qs.bu (by omega),hz.ix aK⟩;have fA:=hz.eq;have dD:=hz.succ (A:=A) (by omega);have j0:n-(i+1)<m:=by omega
   have jt:∀h',I (i+1) h'->J (n-(i+1)) (A .bA .add .i64 z 1) h':=fun h' hh=>by rw[eR];exact⟨i+1,dD,aK,rfl,hh⟩
   have st:=step i x h1;clear eR hJ step fin hq;rw[decide_eq_true aK];cbv;refine⟨cU,?_⟩;cbv;refine iO qs hx fA (fun b1 n1 c1 hv=>?_);replace st:=st b1 n1 c1;cbv;refine(st aK hx hI hv).mono (fun r h2 hR=>?_);obtain⟨e,hr,lk,oN⟩:=hR;subst hr;have fe:A .aG .neq e 0=decide (e≠0):=aB A ..;by_cases h0:e=0
   ·have di:=jt h2 (lk h0);clear jt lk oN st;cbv;rw[fe,decide_eq_false (fun g=>g h0)];cbv;refine⟨n-(i+1),A .bA .add .i64 z 1,j0,⟨?_,?_,?_⟩,di⟩
    ·cbv
    ·cbv
    ·cbv
   ·have ae:=oN h0;clear jt lk oN st;cbv;rw[fe,decide_eq_true h0];cbv;exact ae
  ·have jR:i=n:=by omega
   subst jR;have ae:=fin h1 hI;clear eR hJ step fin hq;rw[decide_eq_false aK];cbv;exact ae
theorem Hz{xs:List (ByteArray)}{p0 p1:Value}{h:ad}{b:Option Addr}{n c:Nat}(hn:n=xs.length)(I:Nat->ad->Prop)(h0:I 0 h)(hq:∀i h',I i h'->Sl 9 cB h' (.slice b n c) xs){k:Value->ad->Prop}
 (step:∀i x h',i<n->xs[i]? =some x->I i h'->True->Ct 166 [.string x,p0,p1] h' (fun r me=>∃e,r=.int .i64 e/\(e=0->I (i+1) me)/\(e≠0->k (.int .i64 e) me)))
 (fin:∀h',I n h'->k (.int .i64 0) h'):
 Ct 99 [.slice b n c,.func (.func 166) #[] #[p0,p1]] h k:=by
 obtain⟨A,hA⟩:=Ar.ex;have BZ:=(hq 0 h h0).bound;obtain⟨J,eR⟩:∃J:Nat->Int->ad->Prop,∀m z h',J m z h'=∃i,aS z i/\i<=n/\m=n-i/\I i h':=⟨_,fun _ _ _=>rfl⟩;have hJ:J n 0 h:=by rw[eR];exact⟨0,⟨rfl⟩,Nat.zero_le _,rfl,h0⟩
 refine ah A (ar T99.aA T99.bm) Tryz.func99 rfl (by kernel_rfl) ?_;cbv;refine aX.go (G:=Int) (fun z=>[(10,.v (.int .i64 z))]) (fun _=>[]) (fun m z h'=>J m z h') n 0 ⟨?_,?_,?_⟩ hJ ?_
 ·cbv
 ·cbv
 ·cbv
 ·intro m z h1 hI;rw[eR]at hI;cbv;obtain⟨i,hz,hi,hm,hI⟩:=hI;have f1:A .aG .lss z (A .nat n)=decide (i<n):=hz.gy (aS.nat n);rw[f1];by_cases aK:i<n
  ·obtain⟨x,hx⟩:=aI (xs:=xs) (i:=i) (by omega);have qs:=hq i h1 hI;have cU:b.isSome=true/\0<=z/\z<(n:Int):=⟨qs.bu (by omega),hz.ix aK⟩;have fA:=hz.eq;have dD:=hz.succ (A:=A) (by omega);have j0:n-(i+1)<m:=by omega
   have jt:∀h',I (i+1) h'->J (n-(i+1)) (A .bA .add .i64 z 1) h':=fun h' hh=>by rw[eR];exact⟨i+1,dD,aK,rfl,hh⟩
   have st:=step i x h1;clear eR hJ step fin hq;rw[decide_eq_true aK];cbv;refine⟨cU,?_⟩;cbv;refine qs.load hx fA (fun cs aC=>?_);have aC:cs=[.string x]:=aC;subst aC;have hv:=trivial;cbv;refine(st aK hx hI hv).mono (fun r h2 hR=>?_);obtain⟨e,hr,lk,oN⟩:=hR;subst hr;have fe:A .aG .neq e 0=decide (e≠0):=aB A ..;by_cases h0:e=0
   ·have di:=jt h2 (lk h0);clear jt lk oN st;cbv;rw[fe,decide_eq_false (fun g=>g h0)];cbv;refine⟨n-(i+1),A .bA .add .i64 z 1,j0,⟨?_,?_,?_⟩,di⟩
    ·cbv
    ·cbv
    ·cbv
   ·have ae:=oN h0;clear jt lk oN st;cbv;rw[fe,decide_eq_true h0];cbv;exact ae
  ·have jR:i=n:=by omega
   subst jR;have ae:=fin h1 hI;clear eR hJ step fin hq;rw[decide_eq_false aK];cbv;exact ae
theorem Lr{xs:List (ByteArray)}{p0:Value}{h:ad}{b:Option Addr}{n c:Nat}(hn:n=xs.length)(I:Nat->ad->Prop)(h0:I 0 h)(hq:∀i h',I i h'->Sl 9 cB h' (.slice b n c) xs){k:Value->ad->Prop}
 (step:∀i x h',i<n->xs[i]? =some x->I i h'->True->Ct 98 [.string x,p0] h' (fun r me=>∃e,r=.int .i64 e/\(e=0->I (i+1) me)/\(e≠0->k (.int .i64 e) me)))
 (fin:∀h',I n h'->k (.int .i64 0) h'):
 Ct 99 [.slice b n c,.func (.func 98) #[] #[p0]] h k:=by
 obtain⟨A,hA⟩:=Ar.ex;have BZ:=(hq 0 h h0).bound;obtain⟨J,eR⟩:∃J:Nat->Int->ad->Prop,∀m z h',J m z h'=∃i,aS z i/\i<=n/\m=n-i/\I i h':=⟨_,fun _ _ _=>rfl⟩;have hJ:J n 0 h:=by rw[eR];exact⟨0,⟨rfl⟩,Nat.zero_le _,rfl,h0⟩
 refine ah A (ar T99.aA T99.bm) Tryz.func99 rfl (by kernel_rfl) ?_;cbv;refine aX.go (G:=Int) (fun z=>[(10,.v (.int .i64 z))]) (fun _=>[]) (fun m z h'=>J m z h') n 0 ⟨?_,?_,?_⟩ hJ ?_
 ·cbv
 ·cbv
 ·cbv
 ·intro m z h1 hI;rw[eR]at hI;cbv;obtain⟨i,hz,hi,hm,hI⟩:=hI;have f1:A .aG .lss z (A .nat n)=decide (i<n):=hz.gy (aS.nat n);rw[f1];by_cases aK:i<n
  ·obtain⟨x,hx⟩:=aI (xs:=xs) (i:=i) (by omega);have qs:=hq i h1 hI;have cU:b.isSome=true/\0<=z/\z<(n:Int):=⟨qs.bu (by omega),hz.ix aK⟩;have fA:=hz.eq;have dD:=hz.succ (A:=A) (by omega);have j0:n-(i+1)<m:=by omega
   have jt:∀h',I (i+1) h'->J (n-(i+1)) (A .bA .add .i64 z 1) h':=fun h' hh=>by rw[eR];exact⟨i+1,dD,aK,rfl,hh⟩
   have st:=step i x h1;clear eR hJ step fin hq;rw[decide_eq_true aK];cbv;refine⟨cU,?_⟩;cbv;refine qs.load hx fA (fun cs aC=>?_);have aC:cs=[.string x]:=aC;subst aC;have hv:=trivial;cbv;refine(st aK hx hI hv).mono (fun r h2 hR=>?_);obtain⟨e,hr,lk,oN⟩:=hR;subst hr;have fe:A .aG .neq e 0=decide (e≠0):=aB A ..;by_cases h0:e=0
   ·have di:=jt h2 (lk h0);clear jt lk oN st;cbv;rw[fe,decide_eq_false (fun g=>g h0)];cbv;refine⟨n-(i+1),A .bA .add .i64 z 1,j0,⟨?_,?_,?_⟩,di⟩
    ·cbv
    ·cbv
    ·cbv
   ·have ae:=oN h0;clear jt lk oN st;cbv;rw[fe,decide_eq_true h0];cbv;exact ae
  ·have jR:i=n:=by omega
   subst jR;have ae:=fin h1 hI;clear eR hJ step fin hq;rw[decide_eq_false aK];cbv;exact ae
theorem Hy{xs:List (dG)}{f0:Value}{h:ad}{b:Option Addr}{n c:Nat}(hn:n=xs.length)(I:Nat->ad->Prop)(h0:I 0 h)(hq:∀i h',I i h'->Sl 276 cm h' (.slice b n c) xs){k:Value->ad->Prop}
 (step:∀i x h' b1 n1 c1,i<n->xs[i]? =some x->I i h'->Sl 325 dh h' (.slice b1 n1 c1) x.e->Ct 179 [f0,.agg #[.int .i64 x.fn,.slice b1 n1 c1]] h' (fun r me=>∃e,r=.int .i64 e/\(e=0->I (i+1) me)/\(e≠0->k (.int .i64 e) me)))
 (fin:∀h',I n h'->k (.int .i64 0) h'):
 Ct 178 [.slice b n c,.func (.func 179) #[f0] #[]] h k:=by
 obtain⟨A,hA⟩:=Ar.ex;have BZ:=(hq 0 h h0).bound;obtain⟨J,eR⟩:∃J:Nat->Int->ad->Prop,∀m z h',J m z h'=∃i,aS z i/\i<=n/\m=n-i/\I i h':=⟨_,fun _ _ _=>rfl⟩;have hJ:J n 0 h:=by rw[eR];exact⟨0,⟨rfl⟩,Nat.zero_le _,rfl,h0⟩
 refine ah A (ar HZ.aA HZ.bm) Tryz.func178 rfl (by kernel_rfl) ?_;cbv;refine aX.go (G:=Int) (fun z=>[(10,.v (.int .i64 z))]) (fun _=>[]) (fun m z h'=>J m z h') n 0 ⟨?_,?_,?_⟩ hJ ?_
 ·cbv
 ·cbv
 ·cbv
 ·intro m z h1 hI;rw[eR]at hI;cbv;obtain⟨i,hz,hi,hm,hI⟩:=hI;have f1:A .aG .lss z (A .nat n)=decide (i<n):=hz.gy (aS.nat n);rw[f1];by_cases aK:i<n
  ·obtain⟨x,hx⟩:=aI (xs:=xs) (i:=i) (by omega);have qs:=hq i h1 hI;have cU:b.isSome=true/\0<=z/\z<(n:Int):=⟨qs.bu (by omega),hz.ix aK⟩;have fA:=hz.eq;have dD:=hz.succ (A:=A) (by omega);have j0:n-(i+1)<m:=by omega
   have jt:∀h',I (i+1) h'->J (n-(i+1)) (A .bA .add .i64 z 1) h':=fun h' hh=>by rw[eR];exact⟨i+1,dD,aK,rfl,hh⟩
   have st:=step i x h1;clear eR hJ step fin hq;rw[decide_eq_true aK];cbv;refine⟨cU,?_⟩;cbv;refine rl qs hx fA (fun b1 n1 c1 hv=>?_);replace st:=st b1 n1 c1;obtain⟨xf,xe⟩:=x;cbv;refine(st aK hx hI hv).mono (fun r h2 hR=>?_);obtain⟨e,hr,lk,oN⟩:=hR;subst hr;have fe:A .aG .neq e 0=decide (e≠0):=aB A ..;by_cases h0:e=0
   ·have di:=jt h2 (lk h0);clear jt lk oN st;cbv;rw[fe,decide_eq_false (fun g=>g h0)];cbv;refine⟨n-(i+1),A .bA .add .i64 z 1,j0,⟨?_,?_,?_⟩,di⟩
    ·cbv
    ·cbv
    ·cbv
   ·have ae:=oN h0;clear jt lk oN st;cbv;rw[fe,decide_eq_true h0];cbv;exact ae
  ·have jR:i=n:=by omega
   subst jR;have ae:=fin h1 hI;clear eR hJ step fin hq;rw[decide_eq_false aK];cbv;exact ae
theorem kB{xs:List (dG)}{f0:Value}{h:ad}{b:Option Addr}{n c:Nat}(hn:n=xs.length)(I:Nat->ad->Prop)(h0:I 0 h)(hq:∀i h',I i h'->Sl 276 cm h' (.slice b n c) xs){k:Value->ad->Prop}
 (step:∀i x h' b1 n1 c1,i<n->xs[i]? =some x->I i h'->Sl 325 dh h' (.slice b1 n1 c1) x.e->Ct 187 [f0,.agg #[.int .i64 x.fn,.slice b1 n1 c1]] h' (fun r me=>∃e,r=.int .i64 e/\(e=0->I (i+1) me)/\(e≠0->k (.int .i64 e) me)))
 (fin:∀h',I n h'->k (.int .i64 0) h'):
 Ct 178 [.slice b n c,.func (.func 187) #[f0] #[]] h k:=by
 obtain⟨A,hA⟩:=Ar.ex;have BZ:=(hq 0 h h0).bound;obtain⟨J,eR⟩:∃J:Nat->Int->ad->Prop,∀m z h',J m z h'=∃i,aS z i/\i<=n/\m=n-i/\I i h':=⟨_,fun _ _ _=>rfl⟩;have hJ:J n 0 h:=by rw[eR];exact⟨0,⟨rfl⟩,Nat.zero_le _,rfl,h0⟩
 refine ah A (ar HZ.aA HZ.bm) Tryz.func178 rfl (by kernel_rfl) ?_;cbv;refine aX.go (G:=Int) (fun z=>[(10,.v (.int .i64 z))]) (fun _=>[]) (fun m z h'=>J m z h') n 0 ⟨?_,?_,?_⟩ hJ ?_
 ·cbv
 ·cbv
 ·cbv
 ·intro m z h1 hI;rw[eR]at hI;cbv;obtain⟨i,hz,hi,hm,hI⟩:=hI;have f1:A .aG .lss z (A .nat n)=decide (i<n):=hz.gy (aS.nat n);rw[f1];by_cases aK:i<n
  ·obtain⟨x,hx⟩:=aI (xs:=xs) (i:=i) (by omega);have qs:=hq i h1 hI;have cU:b.isSome=true/\0<=z/\z<(n:Int):=⟨qs.bu (by omega),hz.ix aK⟩;have fA:=hz.eq;have dD:=hz.succ (A:=A) (by omega);have j0:n-(i+1)<m:=by omega
   have jt:∀h',I (i+1) h'->J (n-(i+1)) (A .bA .add .i64 z 1) h':=fun h' hh=>by rw[eR];exact⟨i+1,dD,aK,rfl,hh⟩
   have st:=step i x h1;clear eR hJ step fin hq;rw[decide_eq_true aK];cbv;refine⟨cU,?_⟩;cbv;refine rl qs hx fA (fun b1 n1 c1 hv=>?_);replace st:=st b1 n1 c1;obtain⟨xf,xe⟩:=x;cbv;refine(st aK hx hI hv).mono (fun r h2 hR=>?_);obtain⟨e,hr,lk,oN⟩:=hR;subst hr;have fe:A .aG .neq e 0=decide (e≠0):=aB A ..;by_cases h0:e=0
   ·have di:=jt h2 (lk h0);clear jt lk oN st;cbv;rw[fe,decide_eq_false (fun g=>g h0)];cbv;refine⟨n-(i+1),A .bA .add .i64 z 1,j0,⟨?_,?_,?_⟩,di⟩
    ·cbv
    ·cbv
    ·cbv
   ·have ae:=oN h0;clear jt lk oN st;cbv;rw[fe,decide_eq_true h0];cbv;exact ae
  ·have jR:i=n:=by omega
   subst jR;have ae:=fin h1 hI;clear eR hJ step fin hq;rw[decide_eq_false aK];cbv;exact ae
theorem Cd{xs:List (dG)}{p0 p1 p2:Value}{h:ad}{b:Option Addr}{n c:Nat}(hn:n=xs.length)(I:Nat->ad->Prop)(h0:I 0 h)(hq:∀i h',I i h'->Sl 276 cm h' (.slice b n c) xs){k:Value->ad->Prop}
 (step:∀i x h' b1 n1 c1,i<n->xs[i]? =some x->I i h'->Sl 325 dh h' (.slice b1 n1 c1) x.e->Ct 198 [.agg #[.int .i64 x.fn,.slice b1 n1 c1],p0,p1,p2] h' (fun r me=>∃e,r=.int .i64 e/\(e=0->I (i+1) me)/\(e≠0->k (.int .i64 e) me)))
 (fin:∀h',I n h'->k (.int .i64 0) h'):
 Ct 178 [.slice b n c,.func (.func 198) #[] #[p0,p1,p2]] h k:=by
 obtain⟨A,hA⟩:=Ar.ex;have BZ:=(hq 0 h h0).bound;obtain⟨J,eR⟩:∃J:Nat->Int->ad->Prop,∀m z h',J m z h'=∃i,aS z i/\i<=n/\m=n-i/\I i h':=⟨_,fun _ _ _=>rfl⟩;have hJ:J n 0 h:=by rw[eR];exact⟨0,⟨rfl⟩,Nat.zero_le _,rfl,h0⟩
 refine ah A (ar HZ.aA HZ.bm) Tryz.func178 rfl (by kernel_rfl) ?_;cbv;refine aX.go (G:=Int) (fun z=>[(10,.v (.int .i64 z))]) (fun _=>[]) (fun m z h'=>J m z h') n 0 ⟨?_,?_,?_⟩ hJ ?_
 ·cbv
 ·cbv
 ·cbv
 ·intro m z h1 hI;rw[eR]at hI;cbv;obtain⟨i,hz,hi,hm,hI⟩:=hI;have f1:A .aG .lss z (A .nat n)=decide (i<n):=hz.gy (aS.nat n);rw[f1];by_cases aK:i<n
  ·obtain⟨x,hx⟩:=aI (xs:=xs) (i:=i) (by omega);have qs:=hq i h1 hI;have cU:b.isSome=true/\0<=z/\z<(n:Int):=⟨qs.bu (by omega),hz.ix aK⟩;have fA:=hz.eq;have dD:=hz.succ (A:=A) (by omega);have j0:n-(i+1)<m:=by omega
   have jt:∀h',I (i+1) h'->J (n-(i+1)) (A .bA .add .i64 z 1) h':=fun h' hh=>by rw[eR];exact⟨i+1,dD,aK,rfl,hh⟩
   have st:=step i x h1;clear eR hJ step fin hq;rw[decide_eq_true aK];cbv;refine⟨cU,?_⟩;cbv;refine rl qs hx fA (fun b1 n1 c1 hv=>?_);replace st:=st b1 n1 c1;obtain⟨xf,xe⟩:=x;cbv;refine(st aK hx hI hv).mono (fun r h2 hR=>?_);obtain⟨e,hr,lk,oN⟩:=hR;subst hr;have fe:A .aG .neq e 0=decide (e≠0):=aB A ..;by_cases h0:e=0
   ·have di:=jt h2 (lk h0);clear jt lk oN st;cbv;rw[fe,decide_eq_false (fun g=>g h0)];cbv;refine⟨n-(i+1),A .bA .add .i64 z 1,j0,⟨?_,?_,?_⟩,di⟩
    ·cbv
    ·cbv
    ·cbv
   ·have ae:=oN h0;clear jt lk oN st;cbv;rw[fe,decide_eq_true h0];cbv;exact ae
  ·have jR:i=n:=by omega
   subst jR;have ae:=fin h1 hI;clear eR hJ step fin hq;rw[decide_eq_false aK];cbv;exact ae
def Jj(p:Value):Sh Nat where
 n:=1
 R _ cs g:=cs=[.func (.func g) #[] #[p]]
 len:=by rintro h cs x rfl;rfl
 one:=by rintro h cs x rfl;rfl
 tys:=[]
 mono:=fun _ q=>q
theorem Ek{p:Value}{xs:List (Nat)}{h:ad}{b:Option Addr}{n c:Nat}(hn:n=xs.length)(I:Nat->ad->Prop)(h0:I 0 h)(hq:∀i h',I i h'->Sl 173 (Jj p) h' (.slice b n c) xs){k:Value->ad->Prop}
 (step:∀i x h',i<n->xs[i]? =some x->I i h'->True->Ct 184 [.func (.func x) #[] #[p]] h' (fun r me=>∃e,r=.int .i64 e/\(e=0->I (i+1) me)/\(e≠0->k (.int .i64 e) me)))
 (fin:∀h',I n h'->k (.int .i64 0) h'):
 Ct 183 [.slice b n c,.func (.func 184) #[] #[]] h k:=by
 obtain⟨A,hA⟩:=Ar.ex;have BZ:=(hq 0 h h0).bound;obtain⟨J,eR⟩:∃J:Nat->Int->ad->Prop,∀m z h',J m z h'=∃i,aS z i/\i<=n/\m=n-i/\I i h':=⟨_,fun _ _ _=>rfl⟩;have hJ:J n 0 h:=by rw[eR];exact⟨0,⟨rfl⟩,Nat.zero_le _,rfl,h0⟩
 refine ah A (ar T183.aA T183.bm) Tryz.func183 rfl (by kernel_rfl) ?_;cbv;refine aX.go (G:=Int) (fun z=>[(10,.v (.int .i64 z))]) (fun _=>[]) (fun m z h'=>J m z h') n 0 ⟨?_,?_,?_⟩ hJ ?_
 ·cbv
 ·cbv
 ·cbv
 ·intro m z h1 hI;rw[eR]at hI;cbv;obtain⟨i,hz,hi,hm,hI⟩:=hI;have f1:A .aG .lss z (A .nat n)=decide (i<n):=hz.gy (aS.nat n);rw[f1];by_cases aK:i<n
  ·obtain⟨x,hx⟩:=aI (xs:=xs) (i:=i) (by omega);have qs:=hq i h1 hI;have cU:b.isSome=true/\0<=z/\z<(n:Int):=⟨qs.bu (by omega),hz.ix aK⟩;have fA:=hz.eq;have dD:=hz.succ (A:=A) (by omega);have j0:n-(i+1)<m:=by omega
   have jt:∀h',I (i+1) h'->J (n-(i+1)) (A .bA .add .i64 z 1) h':=fun h' hh=>by rw[eR];exact⟨i+1,dD,aK,rfl,hh⟩
   have st:=step i x h1;clear eR hJ step fin hq;rw[decide_eq_true aK];cbv;refine⟨cU,?_⟩;cbv;refine qs.load hx fA (fun cs aC=>?_);have aC:cs=[.func (.func x) #[] #[p]]:=aC;subst aC;have hv:=trivial;cbv;refine(st aK hx hI hv).mono (fun r h2 hR=>?_);obtain⟨e,hr,lk,oN⟩:=hR;subst hr;have fe:A .aG .neq e 0=decide (e≠0):=aB A ..;by_cases h0:e=0
   ·have di:=jt h2 (lk h0);clear jt lk oN st;cbv;rw[fe,decide_eq_false (fun g=>g h0)];cbv;refine⟨n-(i+1),A .bA .add .i64 z 1,j0,⟨?_,?_,?_⟩,di⟩
    ·cbv
    ·cbv
    ·cbv
   ·have ae:=oN h0;clear jt lk oN st;cbv;rw[fe,decide_eq_true h0];cbv;exact ae
  ·have jR:i=n:=by omega
   subst jR;have ae:=fin h1 hI;clear eR hJ step fin hq;rw[decide_eq_false aK];cbv;exact ae
theorem zW{ex:List Nd}(hn:∀n∈ex,Nm n.name/\lj n.v){cols:List bT}(hc:∀c∈cols,Nm c.name)(want:Int){h:ad}{eb:Option Addr}{en ec:Nat}(qe:Sl 325 dh h (.slice eb en ec) ex){cb:Option Addr}{cn cc:Nat}(qc:Sl 165 bt h (.slice cb cn cc) cols){k:Value->ad->Prop}
 (hk:∀h' e,Le h h'->e=fI ex cols want->k (.int .i64 e) h'):Ct 168 [.slice eb en ec,.slice cb cn cc,.int .i64 want] h k:=by
 obtain⟨A,hA⟩:=Ar.ex;have hP:fI ex cols want=match fZ ex cols with
  | (k,f)=>if f=0/\k≠0/\k≠want then 3 else f:=rfl
 generalize fI ex cols want=D at *;refine ah A (ar T168.aA T168.bm) Tryz.func168 rfl (by kernel_rfl) ?_;cbv;refine Mz (fun n hh=>(hn n hh).1) hc qe qc (fun h1 kd e l1 fx=>?_);rw[<-fx]at hP;replace hP:D=if e=0/\kd≠0/\kd≠want then 3 else e:=hP
 have hk:=fun x hx=>hk h1 x l1 hx;clear fx;cbv;repeat' (refine aQ (fun hc=>?_) (fun hc=>?_)<;>(try rw[hc])<;>cbv)
 all_goals
  refine hk _ ?_;simp only[aw A,aB A,decide_eq_true_eq,decide_eq_false_iff_not]at *;rw[hP];first
   | (rw[if_pos ⟨by assumption,by assumption,by assumption⟩])
   | (rw[if_neg (by rintro⟨g1,g2,g3⟩;contradiction)])
theorem ns{ex:List Nd}(hn:∀n∈ex,Nm n.name/\lj n.v){cols:List bT}(hc:∀c∈cols,Nm c.name){h:ad}{eb:Option Addr}{en ec:Nat}(qe:Sl 325 dh h (.slice eb en ec) ex){cb:Option Addr}{cn cc:Nat}(qc:Sl 165 bt h (.slice cb cn cc) cols){k:Value->ad->Prop}
 (hk:∀h' e,Le h h'->e=aF ex cols->k (.int .i64 e) h'):Ct 96 [.slice eb en ec,.slice cb cn cc] h k:=by
 obtain⟨A,hA⟩:=Ar.ex;have O3:=qe.len;have hP:aF ex cols=if ex.length=0 then 0 else fI ex cols 1:=rfl
 rw[<-O3]at hP;have f1:A .aG .eql (A .nat en) 0=decide (en=0):=by rw[aw A,hA.nat,decide_eq_decide,Int.ofNat_eq_natCast];omega
 refine ah A (ar T96.aA T96.bm) Tryz.func96 rfl (by kernel_rfl) ?_;cbv;rw[f1];by_cases h0:en=0
 ·have ae:=hk h 0 (Le.refl _) (by rw[hP,if_pos h0]);clear hk hP;rw[decide_eq_true h0];cbv;exact ae
 ·rw[if_neg h0]at hP;rw[decide_eq_false h0];cbv;refine zW hn hc 1 qe qc (fun h1 e l1 he=>?_);have ae:=hk h1 e l1 (he.trans hP.symm);clear hk hP he;cbv;exact ae
theorem KT{ex:List Nd}(hn:∀n∈ex,Nm n.name/\lj n.v){cols:List bT}(hc:∀c∈cols,Nm c.name){r:Row}(hr:∀v∈r,lj v){h:ad}{eb:Option Addr}{en ec:Nat}(qe:Sl 325 dh h (.slice eb en ec) ex){cb:Option Addr}{cn cc:Nat}(qc:Sl 165 bt h (.slice cb cn cc) cols){rb:Option Addr}{rn rc:Nat}(qr:Sl 61 bq h (.slice rb rn rc) r){k:Value->ad->Prop}
 (hk:∀h' t e,Le h h'->(t,e)=dL ex cols r->k (.tuple #[.bool t,.int .i64 e]) h'):Ct 171 [.slice eb en ec,.slice cb cn cc,.slice rb rn rc] h k:=by
 obtain⟨A,hA⟩:=Ar.ex;have O3:=qe.len;have hP:dL ex cols r=if ex.length=0 then(true,0)else match eA ex cols r with
  | (v,f)=>(decide (v.k=1)&&decide (v.n=1),f):=rfl
 rw[<-O3]at hP;generalize dL ex cols r=D at *;have f1:A .aG .eql (A .nat en) 0=decide (en=0):=by rw[aw A,hA.nat,decide_eq_decide,Int.ofNat_eq_natCast];omega
 refine ah A (ar T171.aA T171.bm) Tryz.func171 rfl (by kernel_rfl) ?_;cbv;rw[f1];by_cases h0:en=0
 ·have ae:=hk h true 0 (Le.refl _) (by rw[hP,if_pos h0]);clear hk hP;rw[decide_eq_true h0];cbv;exact ae
 ·rw[if_neg h0]at hP;rw[decide_eq_false h0];cbv;refine CX hn hc hr qe qc qr (fun h1 v e w l1 hv hw=>?_);rw[<-hv]at hP;replace hP:D=(decide (v.k=1)&&decide (v.n=1),e):=hP;have hk:=fun t ht=>hk h1 t e l1 ht;obtain⟨vk,vn,vs⟩:=v;subst hw;clear hv;cbv;repeat' (refine aQ (fun hc=>?_) (fun hc=>?_)<;>(try rw[hc])<;>cbv)
  all_goals
   refine hk _ ?_;simp only[aw A,decide_eq_true_eq,decide_eq_false_iff_not]at *;rw[hP];simp[*]
theorem gj.QP{h h':ad}{v:Value}{d:DB}(q:gj h v d)(l:cF [51,165,59,61,55,148,161,205] h h'):gj h' v d:=by obtain⟨_,_,_,_,_,_,_,_,_,_,_,_,ws,rfl,q1,q2,q3,q4,q5⟩:=q.out;exact⟨_,_,_,_,_,_,_,_,_,_,_,_,ws,rfl,q1.mono (l.sub (by decide)),q2.mono (l.sub (by decide)),q3.mono (l.sub (by decide)),q4.mono (l.sub (by decide)),q5⟩
abbrev I3:List Nat:=[51,165,59,61,55,148,161,205]
abbrev mq:List Nat:=[165,325,9,42,276]
structure dS(h:ad)(pb:Nat)(d:DB)(s:Int)(x:az):Prop where
 out:∃b1 n1 c1 b2 n2 c2 b3 n3 c3 b4 n4 c4 b5 n5 c5 b6 n6 c6 b7 n7 c7 b8 n8 c8 b9 n9 c9 fG gG fF,h pb=some (.cells #[.slice b1 n1 c1,.slice b2 n2 c2,.slice b3 n3 c3,.slice b4 n4 c4,.int .i64 s,.int .i64 x.kind,.string x.mS.name,.slice b5 n5 c5,.int .i64 x.mS.key,.bool x.mS.only,.string x.table,.string x.join,.slice b6 n6 c6,.slice b7 n7 c7,.slice b8 n8 c8,.slice b9 n9 c9,.slice fG gG fF,.string x.group,.string x.order,.bool x.desc,.int .i64 x.fw,.string x.name] 101 (0,0))/\gj h (.agg #[.slice b1 n1 c1,.slice b2 n2 c2,.slice b3 n3 c3,.slice b4 n4 c4]) d/\Sl 165 bt h (.slice b5 n5 c5) x.mS.cols/\Sl 325 dh h (.slice b6 n6 c6) x.on/\Sl 9 cB h (.slice b7 n7 c7) x.names/\Sl 42 fB h (.slice b8 n8 c8) x.exprs/\Sl 276 cm h (.slice b9 n9 c9) x.items/\Sl 325 dh h (.slice fG gG fF) x.bM
theorem dS.elim{h:ad}{pb:Nat}{d:DB}{s:Int}{x:az}(q:dS h pb d s x){p:Prop}(k:∀b1 n1 c1 b2 n2 c2 b3 n3 c3 b4 n4 c4 b5 n5 c5 b6 n6 c6 b7 n7 c7 b8 n8 c8 b9 n9 c9 fG gG fF,h pb=some (.cells #[.slice b1 n1 c1,.slice b2 n2 c2,.slice b3 n3 c3,.slice b4 n4 c4,.int .i64 s,.int .i64 x.kind,.string x.mS.name,.slice b5 n5 c5,.int .i64 x.mS.key,.bool x.mS.only,.string x.table,.string x.join,.slice b6 n6 c6,.slice b7 n7 c7,.slice b8 n8 c8,.slice b9 n9 c9,.slice fG gG fF,.string x.group,.string x.order,.bool x.desc,.int .i64 x.fw,.string x.name] 101 (0,0))->gj h (.agg #[.slice b1 n1 c1,.slice b2 n2 c2,.slice b3 n3 c3,.slice b4 n4 c4]) d->Sl 165 bt h (.slice b5 n5 c5) x.mS.cols->Sl 325 dh h (.slice b6 n6 c6) x.on->Sl 9 cB h (.slice b7 n7 c7) x.names->Sl 42 fB h (.slice b8 n8 c8) x.exprs->Sl 276 cm h (.slice b9 n9 c9) x.items->Sl 325 dh h (.slice fG gG fF) x.bM->p):p:=by obtain⟨b1,n1,c1,b2,n2,c2,b3,n3,c3,b4,n4,c4,b5,n5,c5,b6,n6,c6,b7,n7,c7,b8,n8,c8,b9,n9,c9,fG,gG,fF,g,qd,q1,q2,q3,q4,q5,q6⟩:=q.out;exact k b1 n1 c1 b2 n2 c2 b3 n3 c3 b4 n4 c4 b5 n5 c5 b6 n6 c6 b7 n7 c7 b8 n8 c8 b9 n9 c9 fG gG fF g qd q1 q2 q3 q4 q5 q6
theorem dS.lt{h h':ad}{pb:Nat}{d:DB}{s:Int}{x:az}(q:dS h pb d s x)(hb:h' pb=h pb)(l:cF (I3++mq) h h'):dS h' pb d s x:=by obtain⟨b1,n1,c1,b2,n2,c2,b3,n3,c3,b4,n4,c4,b5,n5,c5,b6,n6,c6,b7,n7,c7,b8,n8,c8,b9,n9,c9,fG,gG,fF,g,qd,q1,q2,q3,q4,q5,q6⟩:=q.out;exact⟨b1,n1,c1,b2,n2,c2,b3,n3,c3,b4,n4,c4,b5,n5,c5,b6,n6,c6,b7,n7,c7,b8,n8,c8,b9,n9,c9,fG,gG,fF,hb.trans g,qd.QP (l.sub (by decide)),q1.mono (l.sub (by decide)),q2.mono (l.sub (by decide)),q3.mono (l.sub (by decide)),q4.mono (l.sub (by decide)),q5.mono (l.sub (by decide)),q6.mono (l.sub (by decide))⟩
theorem dS.mono{h h':ad}{pb:Nat}{d:DB}{s:Int}{x:az}(q:dS h pb d s x)(l:Le h h'):dS h' pb d s x:=by refine q.lt ?_ (l.t _);obtain⟨b1,n1,c1,b2,n2,c2,b3,n3,c3,b4,n4,c4,b5,n5,c5,b6,n6,c6,b7,n7,c7,b8,n8,c8,b9,n9,c9,fG,gG,fF,g,-⟩:=q.out;rw[g];exact l _ _ g
theorem dS.has{h:ad}{pb:Nat}{d:DB}{s:Int}{x:az}(q:dS h pb d s x):∃c,h pb=some (.cells c 101 (0,0)):=by obtain⟨b1,n1,c1,b2,n2,c2,b3,n3,c3,b4,n4,c4,b5,n5,c5,b6,n6,c6,b7,n7,c7,b8,n8,c8,b9,n9,c9,fG,gG,fF,g,-⟩:=q.out;exact⟨_,g⟩
theorem dS.kp{h h':ad}{pb:Nat}{d:DB}{s:Int}{x:az}(q:dS h pb d s x)(k:Kp [pb] h h'){tys:List Nat}(ht:101∉tys):cF tys h h':=by obtain⟨c,g⟩:=q.has;exact k.vH g ht
theorem dS.Sz{h h' h2:ad}{pb:Nat}{d d':DB}{s:Int}{x:az}(q:dS h pb d s x)(l:Le h h'){b1:Option Addr}{n1 c1:Nat}{b2:Option Addr}{n2 c2:Nat}{b3:Option Addr}{n3 c3:Nat}{b4:Option Addr}{n4 c4:Nat}{c:List Value}
 (g:h' pb=some (.cells (List.toArray c) 101 (0,0))) (qd:gj h' (.agg #[.slice b1 n1 c1,.slice b2 n2 c2,.slice b3 n3 c3,.slice b4 n4 c4]) d') (e2:h2=bp h' pb (.cells (List.toArray (ff c 0 [.slice b1 n1 c1,.slice b2 n2 c2,.slice b3 n3 c3,.slice b4 n4 c4])) 101 (0,0))):dS h2 pb d' s x/\Kp [pb] h h2:=by
 have lt:cF (I3++mq) h' h2:=by rw[e2];exact cF.set g (by decide)
 have Xf:cF (I3++mq) h h2:=(l.t _).trans lt;refine⟨?_,fun b o hb hn=>?_⟩
 ·obtain⟨WM,Tp,WC,WJ,To,WA,WI,Tn,Wy,WH,Tm,Wx,Nr,MK,Nn,Nq,MJ,Nl,Np,MI,Nk,Ml,E2,FP,No,MH,Nj,xJ,xu,xI,g0,_,q1,q2,q3,q4,q5,q6⟩:=q.out;have hc:=l _ _ g0;rw[g]at hc;cases hc;refine⟨b1,n1,c1,b2,n2,c2,b3,n3,c3,b4,n4,c4,Nr,MK,Nn,Nq,MJ,Nl,Np,MI,Nk,Ml,E2,FP,No,MH,Nj,xJ,xu,xI,?_,qd.QP (lt.sub (by decide)),q1.mono (Xf.sub (by decide)),q2.mono (Xf.sub (by decide)),q3.mono (Xf.sub (by decide)),q4.mono (Xf.sub (by decide)),q5.mono (Xf.sub (by decide)),q6.mono (Xf.sub (by decide))⟩;rw[e2,af];rfl
 ·rw[e2,aP (by simpa using hn)];exact l _ _ hb
theorem EE{h:ad}{pb:Nat}{d:DB}{s:Int}{st:az}(q:dS h pb d s st){n:Nat}(ok:wX n d)(gP:n<2^18)(nm:ByteArray)(x:Bool){k:Value->ad->Prop}
 (hk:∀h',Kp [pb] h h'->dS h' pb (ay d ⟨s,nm,x⟩).1 s st->k (.int .i64 (ay d ⟨s,nm,x⟩).2) h'):Ct 79 [.pointer (some ⟨pb,0,none⟩),.string nm,.bool x] h k:=by
 obtain⟨A,hA⟩:=Ar.ex;refine q.elim (fun b1 n1 c1 b2 n2 c2 b3 n3 c3 b4 n4 c4 b5 n5 c5 b6 n6 c6 b7 n7 c7 b8 n8 c8 b9 n9 c9 fG gG fF g qd q1 q2 q3 q4 q5 q6=>?_);clear q1 q2 q3 q4 q5 q6;obtain⟨D,hD⟩:∃D,ay d ⟨s,nm,x⟩=D:=⟨_,rfl⟩;rw[hD]at hk;obtain⟨D1,De⟩:=D;replace hk:∀h',Kp [pb] h h'->dS h' pb D1 s st->k (.int .i64 De) h':=hk;have bp:∀ {h' h2:ad} {b1:Option Addr} {n1 c1:Nat} {b2:Option Addr} {n2 c2:Nat} {b3:Option Addr} {n3 c3:Nat} {b4:Option Addr} {n4 c4:Nat} {c:List Value},Le h h'->h' pb=some (.cells (List.toArray c) 101 (0,0))->gj h' (.agg #[.slice b1 n1 c1,.slice b2 n2 c2,.slice b3 n3 c3,.slice b4 n4 c4]) D1->h2=bp h' pb (.cells (List.toArray (ff c 0 [.slice b1 n1 c1,.slice b2 n2 c2,.slice b3 n3 c3,.slice b4 n4 c4])) 101 (0,0))->k (.int .i64 De) h2:=fun l g qd e2=>by
  have:=q.Sz l g qd e2;exact hk _ this.2 this.1
 clear hk;refine ah A (ar T79.aA T79.bm) Tryz.func79 rfl (by kernel_rfl) ?_;cbv;rw[ai A];refine av g rfl rfl ?_;cbv;rw[ai A];refine av g rfl rfl ?_;cbv;refine OV qd ok gP s nm x hD ?_;intro h1 e1 m1 a1 e2 m2 a2 e3 m3 a3 e4 m4 a4 l1 Bl;have g1:=l1 _ _ g;cbv;rw[ai A];refine jz g1 (by simp) (fun h2 CT=>?_);have ae:=bp l1 g1 Bl CT;clear bp g1 CT;cbv;exact ae
theorem gj.X3{h:ad}{d:DB}{b1 b2 b3 b4:Option Addr}{n1 c1 n2 c2 n3 c3 n4 c4:Nat}(q:gj h (.agg #[.slice b1 n1 c1,.slice b2 n2 c2,.slice b3 n3 c3,.slice b4 n4 c4]) d):Sl 51 cY h (.slice b1 n1 c1) d.aE:=by obtain⟨_,_,_,_,_,_,_,_,_,_,_,_,ws,he,q1,-⟩:=q.out;cases he;exact q1
theorem vW{h:ad}{pb:Nat}{d:DB}{s:Int}{st:az}(q:dS h pb d s st)(nm:ByteArray){k:Value->ad->Prop}
 (hk:∀T b1 n1 c1 b2 n2 c2,T=bO d nm->Sl 165 bt h (.slice b1 n1 c1) T.S.cols->Sl 59 aL h (.slice b2 n2 c2) T.rows->k (.agg #[.string T.S.name,.slice b1 n1 c1,.int .i64 T.S.key,.bool T.S.only,.slice b2 n2 c2]) h):
 Ct 84 [.pointer (some ⟨pb,0,none⟩),.string nm] h k:=by
 obtain⟨A,hA⟩:=Ar.ex;refine q.elim (fun b1 n1 c1 b2 n2 c2 b3 n3 c3 b4 n4 c4 b5 n5 c5 b6 n6 c6 b7 n7 c7 b8 n8 c8 b9 n9 c9 fG gG fF g qd q1 q2 q3 q4 q5 q6=>?_);clear q1 q2 q3 q4 q5 q6;have qt:=qd.X3;have Ag:=qt.len;have hP:bO d nm=(d.aE.find? fun t=>decide (t.S.name=nm)).getD ⟨⟨b0,[],0,false⟩,[]⟩:=rfl;generalize bO d nm=D at *;obtain⟨R,hR⟩:∃R,d.aE.find? (fun t=>decide (t.S.name=nm))=R:=⟨_,rfl⟩;rw[hR]at hP;obtain⟨I,bl⟩:∃I:Nat->Int->ad->Prop,∀m z h',I m z h'=∃i,aS z i/\i<=n1/\m=n1-i/\h'=h/\(d.aE.drop i).find? (fun t=>decide (t.S.name=nm))=R:=⟨_,fun _ _ _=>rfl⟩;have hJ:I n1 0 h:=by rw[bl];exact⟨0,⟨rfl⟩,Nat.zero_le _,rfl,rfl,hR⟩
 refine ah A (ar T84.aA T84.bm) Tryz.func84 rfl (by kernel_rfl) ?_;cbv;rw[ai A,ai A];refine av g rfl rfl ?_;cbv;refine aX.go (G:=Int) (fun z=>[(13,.v (.int .i64 z))]) (fun _=>[(4,[.string ⟨#[]⟩,.slice none 0 0,.int .i64 0,.bool false,.slice none 0 0])]) (fun m z h'=>I m z h') n1 0 ⟨?_,?_,?_⟩ hJ ?_
 ·cbv
 ·cbv
 ·cbv
 ·intro m z h1 hI;rw[bl]at hI;cbv;obtain⟨i,hz,hi,hm,e',he⟩:=hI;subst e';have f1:A .aG .lss z (A .nat n1)=decide (i<n1):=hz.gy (aS.nat n1);rw[f1];by_cases aK:i<n1
  ·obtain⟨t,ht⟩:=aI (xs:=d.aE) (i:=i) (by omega);have hd:d.aE.drop i=t::d.aE.drop (i+1):=by obtain⟨h1,h2⟩:=List.getElem?_eq_some_iff.1 ht;rw[List.drop_eq_getElem_cons h1,h2]
   rw[hd,List.find?_cons]at he;have cU:b1.isSome=true/\0<=z/\z<(n1:Int):=⟨qt.bu (by omega),hz.ix aK⟩;have fA:=hz.eq;have dD:=hz.succ (A:=A) (by have:=qt.bound;omega);have j0:n1-(i+1)<m:=by omega
   have di:(d.aE.drop (i+1)).find? (fun t=>decide (t.S.name=nm))=R->I (n1-(i+1)) (A .bA .add .i64 z 1) h1:=fun e=>by rw[bl];exact⟨i+1,dD,aK,rfl,rfl,e⟩
   clear bl hJ hR hd;rw[decide_eq_true aK];cbv;refine⟨cU,?_⟩;cbv;refine zQ qt ht fA (fun t1 m1 k1 t2 m2 k2 r1 r2=>?_);have fn:A .iY .eql t.S.name nm=decide (t.S.name=nm):=bR A ..;by_cases hn:t.S.name=nm
   ·rw[decide_eq_true hn]at he;have he:some t=R:=he;rw[<-he]at hP;have hP:D=t:=hP;have ae:=hk t t1 m1 k1 t2 m2 k2 hP.symm r1 r2;rw[decide_eq_true hn]at fn;obtain⟨⟨tn,tc,tk,to⟩,tr⟩:=t;clear hk di hP;cbv;rw[fn];cbv;exact ae
   ·rw[decide_eq_false hn]at he;have uL:=di he;rw[decide_eq_false hn]at fn;obtain⟨⟨tn,tc,tk,to⟩,tr⟩:=t;clear hk di hP;cbv;rw[fn];cbv;refine⟨n1-(i+1),A .bA .add .i64 z 1,j0,⟨?_,?_,?_⟩,uL⟩
    ·cbv
    ·cbv
    ·cbv
  ·rw[List.drop_of_length_le (by omega)]at he;have he:none=R:=he;rw[<-he]at hP;have hP:D=⟨⟨b0,[],0,false⟩,[]⟩:=hP;have ae:=hk ⟨⟨b0,[],0,false⟩,[]⟩ none 0 0 none 0 0 hP.symm Sl.nil Sl.nil;clear hk hP bl hJ;rw[decide_eq_false aK];cbv;exact ae
theorem uR(cols:List bT)(r:Row)(x:List Nd)(xs:List (List Nd))(l:Row):oa cols r (x::xs) l=match eA x cols r with
 | (v,f)=>if f≠0 then([],f)else oa cols r xs (l++[v]):=rfl
theorem yt{cols:List bT}{r:Row}(hr:∀v∈r,lj v):∀ {ex:List Nd} {l m:List dg},(∀n∈ex,lj n.v)->(∀v∈l,lj v)->gL cols r ex l=some m->∀v∈m,lj v
 | [],l,m,_,hl,h=>by cases h;exact hl
 |n::e,l,m,hn,hl,h=>by
  rw[oA]at h;cases hw:oB n l cols r with
  |none=>rw[hw]at h;cases h
  |some w=>
   rw[hw]at h;refine yt hr (fun n hh=>hn n (List.mem_cons_of_mem _ hh)) (fun v hv=>?_) h;rcases List.mem_append.1 hv with hv|hv
   ·exact hl v hv
   ·rcases List.mem_cons.1 hv with hv|hv
    ·rw[hv];exact Br (hn n List.mem_cons_self) hl hr hw
    ·cases hv
theorem J6{l:List dg}(hl:∀v∈l,lj v):lj (pL l):=by
 unfold pL;cases h:l.getLast? with
 |none=>exact lA
 |some x=>exact hl x (List.mem_of_getLast? h)
theorem HY{ex:List Nd}{cols:List bT}{r:Row}{v:dg}{e:Int}(hn:∀n∈ex,lj n.v)(hr:∀v∈r,lj v)(h:eA ex cols r=(v,e)):lj v:=by
 unfold eA at h;generalize fZ ex cols=kd at h;obtain⟨k,f⟩:=kd;have h:(if f≠0 then(v0,f)else match gL cols r ex []with
  |some l=>(pL l,0)
  |none=>(v0,11))=(v,e):=h
 by_cases hf:f≠0
 ·rw[if_pos hf]at h;cases h;exact lA
 ·rw[if_neg hf]at h;cases hm:gL cols r ex []with
  |none=>rw[hm]at h;cases h;exact lA
  |some l=>rw[hm]at h;cases h;exact J6 (yt hr hn (fun _ hv=>by cases hv) hm)
structure H0(B h:ad)(ob:Nat)(l:Row):Prop where
 out:∃b n c,h ob=some (.cells #[.slice b n c] 59 (0,0))/\cX 61 bq B h (.slice b n c) l
 le:Le B h
 no:B ob=none
theorem IL{ex:List Nd}(hn:∀n∈ex,Nm n.name/\lj n.v){cols:List bT}(hc:∀c∈cols,Nm c.name){r:Row}(hr:∀v∈r,lj v){B h:ad}{ob:Nat}{l:Row}(qo:H0 B h ob l)(hl:l.length<=2^30)
 {xb:Option Addr} {xn xc:Nat} (qe:Sl 325 dh h (.slice xb xn xc) ex)
 {cb cn cc} {cp:Nat} (gc:B cp=some (.cells #[.slice cb cn cc] 38 (0,0))) (qc:Sl 165 bt B (.slice cb cn cc) cols) {rb rn rc} {rp:Nat} (gr:B rp=some (.cells #[.slice rb rn rc] 59 (0,0))) (qr:Sl 61 bq B (.slice rb rn rc) r) {k:Value->ad->Prop}
 (hk:∀h' v e,H0 B h' ob (l++[v])->(v,e)=eA ex cols r->k (.int .i64 e) h'):
 Ct 162 [.slice xb xn xc,.pointer (some ⟨cp,0,none⟩),.pointer (some ⟨rp,0,none⟩),.pointer (some ⟨ob,0,none⟩)] h k:=by
 obtain⟨A,hA⟩:=Ar.ex;have l0:=qo.le;have gB:=qo.no;obtain⟨b,n,c,go,qb⟩:=qo.out;have BY:=qb.sl.len;have VN:=l0 _ _ gc;have Fw:=l0 _ _ gr;refine ah A (ar T162.aA T162.bm) Tryz.func162 rfl (by kernel_rfl) ?_;cbv;refine av VN rfl rfl ?_;cbv;refine av Fw rfl rfl ?_;cbv;refine CX hn hc hr qe (qc.mono (l0.t _)) (qr.mono (l0.t _)) (fun h1 v e w l1 hv hw=>?_);obtain⟨vk,vn,vs⟩:=v;subst hw;have Ee:=l1 _ _ go;cbv;refine av Ee rfl rfl ?_;cbv;intro n2 h2 g2 e2;have l2:Le h1 h2:=by rw[e2];exact Le.set g2
 have v2:Sl 61 bq h2 (.slice (some ⟨n2,0,none⟩) 1 1) [⟨vk,vn,vs⟩]:=bU (s:=bq) ((congrFun e2 n2).trans af) rfl;have go2:=l2 _ _ Ee;clear e2;cbv;refine(qb.mono ((l1.trans l2).t _)).append v2 (by decide) rfl (by decide) (by omega) (l0.trans (l1.trans l2)) (fun m3 b3 c3 h3 XK l3 t3 k3 nP=>?_);have Iw:h3 ob=some (.cells #[.slice b n c] 59 (0,0)):=t3 [59] (by decide) _ _ _ _ (List.mem_singleton.2 rfl) go2;clear t3 k3 v2;cbv;refine jz Iw (by simp) (fun h4 e4=>?_);have ae:=hk h4 ⟨vk,vn,vs⟩ e ⟨⟨b3,m3,c3,by rw[e4];exact af,nP.mono (by rw[e4];exact cF.set Iw (by decide))⟩,fun b' o' nj=>by rw[e4,aP (fun e=>by rw[e,gB]at nj;cases nj)];exact l3 _ _ nj,gB⟩ hv;clear hk e4;cbv;exact ae
theorem EF{xs:List (List Nd)}(hn:∀ex∈xs,∀n∈ex,Nm n.name/\lj n.v){cols:List bT}(hc:∀c∈cols,Nm c.name){r:Row}(hr:∀v∈r,lj v)(uK:xs.length<=2^20){h:ad}
 {xb:Option Addr} {xn xc:Nat} (qe:Sl 42 fB h (.slice xb xn xc) xs) {cb:Option Addr} {cn cc:Nat} (qc:Sl 165 bt h (.slice cb cn cc) cols) {rb:Option Addr} {rn rc:Nat} (qr:Sl 61 bq h (.slice rb rn rc) r) {k:Value->ad->Prop}
 (hk:∀h' b n c l e,Le h h'->(l,e)=bG xs cols r->cX 61 bq h h' (.slice b n c) l->(∀v∈l,lj v)->k (.tuple #[.slice b n c,.int .i64 e]) h'):
 Ct 82 [.slice xb xn xc,.slice cb cn cc,.slice rb rn rc] h k:=by
 obtain⟨A,hA⟩:=Ar.ex;have KF:=qe.len;have hP:bG xs cols r=oa cols r xs []:=rfl;generalize bG xs cols r=D at *;refine ah A (ar T82.aA T82.bm) Tryz.func82 rfl (by kernel_rfl) ?_;cbv;intro cp h1 g1 e1;have l1:Le h h1:=by rw[e1];exact Le.set g1
 have gc1:h1 cp=some (.cells #[.slice cb cn cc] 38 (0,0)):=by rw[e1];exact af
 clear e1;cbv;intro rp h2 g2 e2;have l2:Le h1 h2:=by rw[e2];exact Le.set g2
 have gr2:h2 rp=some (.cells #[.slice rb rn rc] 59 (0,0)):=by rw[e2];exact af
 clear e2;cbv;intro ob h3 g3 e3;have l3:Le h2 h3:=by rw[e3];exact Le.set g3
 have Iw:h3 ob=some (.cells #[.slice none 0 0] 59 (0,0)):=by rw[e3];exact af
 have ko:=l1.trans l2;have lB:Le h2 (Sx.de h3 ob):=fun b o hb=>by
  rw[Sx.eQ (fun e=>by rw[e,g3]at hb;cases hb)];exact l3 _ _ hb
 clear e3;obtain⟨B,hB⟩:∃B,B=Sx.de h3 ob:=⟨_,rfl⟩;rw[<-hB]at lB;have XC:Le B h3:=by rw[hB];exact Sx.fJ h3 ob
 have VB:B ob=none:=by rw[hB];exact Sx.dX h3 ob
 have zP:Le h B:=ko.trans lB;obtain⟨I,bl⟩:∃I:Nat->ad->Prop,∀i h',I i h'=∃l,H0 B h' ob l/\l.length=i/\(∀v∈l,lj v)/\oa cols r (xs.drop i) l=D:=⟨_,fun _ _=>rfl⟩;have hJ:I 0 h3:=by rw[bl];exact⟨[],⟨⟨none,0,0,Iw,cX.nil⟩,XC,VB⟩,rfl,(fun _ hv=>by cases hv),hP.symm⟩
 clear hB;cbv;refine Cc KF I hJ (fun i h' hI=>?_) (fun i x h' b1 n1 c1 hi hx hI hv=>?_) (fun h' hI=>?_)
 ·rw[bl]at hI;obtain⟨l,qo,-⟩:=hI;exact qe.mono ((zP.trans qo.le).t _)
 ·rw[bl]at hI;obtain⟨l,qo,MY,qJ,he⟩:=hI;have hd:xs.drop i=x::xs.drop (i+1):=by obtain⟨h1,h2⟩:=List.getElem?_eq_some_iff.1 hx;rw[List.drop_eq_getElem_cons h1,h2]
  rw[hd,uR]at he;have hxm:=List.mem_of_getElem? hx;refine IL (hn x hxm) hc hr qo (by omega) hv (lB _ _ (l2 _ _ gc1)) (qc.mono (zP.t _)) (lB _ _ gr2) (qr.mono (zP.t _)) (fun h4 v e Dp Xo=>⟨e,rfl,fun h0=>?_,fun h0=>?_⟩)
  ·rw[<-Xo]at he;have he:(if e≠0 then([],e)else oa cols r (xs.drop (i+1)) (l++[v]))=D:=he;rw[if_neg (by simpa using h0)]at he;rw[bl];refine⟨l++[v],Dp,by rw[List.length_append,List.length_singleton,MY],fun y hy=>?_,he⟩;rcases List.mem_append.1 hy with hy|hy
   ·exact qJ y hy
   ·rcases List.mem_cons.1 hy with hy|hy
    ·rw[hy];exact HY (fun n hh=>(hn x hxm n hh).2) hr Xo.symm
    ·cases hy
  ·rw[<-Xo]at he;have he:(if e≠0 then([],e)else oa cols r (xs.drop (i+1)) (l++[v]))=D:=he;rw[if_pos h0]at he;have ae:=hk h4 none 0 0 [] e (zP.trans Dp.le) he cX.nil (fun _ hv=>by cases hv);have fe:A .aG .neq e 0=true:=by rw[aB A];exact decide_eq_true h0
   clear hk bl;cbv;rw[fe];cbv;exact ae
 ·rw[bl]at hI;obtain⟨l,qo,MY,qJ,he⟩:=hI;rw[List.drop_of_length_le (by omega)]at he;have he:(l,0)=D:=he;have l0:=qo.le;obtain⟨b,n,c,go,qb⟩:=qo.out;have BY:=qb.sl.len;have f0:A .aG .neq 0 0=false:=by rw[aB A];rfl
  have hk:=fun h' b n c l1=>hk h' b n c l 0 l1 he;clear bl;cbv;rw[f0];cbv;refine av go rfl rfl ?_;cbv;refine(py qb.sl).mono (fun v h5 hR=>?_);obtain⟨l5,b',c',hv,nj⟩:=hR;subst hv;have ae:=hk h5 b' n c' (zP.trans (l0.trans l5)) (nj.base (zP.trans l0)) qJ;clear hk;cbv;exact ae
def mI(ex:List Nd):Prop:=∀n∈ex,Nm n.name/\lj n.v
structure eG(x:az):Prop where
 on:mI x.on
 bM:mI x.bM
 exprs:∀e∈x.exprs,mI e
 items:∀i∈x.items,mI i.e
 len:x.exprs.length<=2^20
 names:x.kind=4->x.exprs.length=x.names.length
 group:Nm x.group
 order:Nm x.order
 YZ:x.items.length<=2^20
 nlen:x.names.length<=2^20
theorem putW{h:ad}{pb:Nat}{d:DB}{s:Int}{st:az}(q:dS h pb d s st){n:Nat}(ok:wX n d)(gP:n<2^18)(iQ:-2^63<=s/\s<2^63){r:Row}{rb:Option Addr}{rn rc:Nat}(qr:Sl 61 bq h (.slice rb rn rc) r){k:Value->ad->Prop}
 (hk:∀h',Kp [pb] h h'->dS h' pb (fv d s st.table r).1 s st->k (.int .i64 (fv d s st.table r).2) h'):Ct 94 [.pointer (some ⟨pb,0,none⟩),.slice rb rn rc] h k:=by
 obtain⟨A,hA⟩:=Ar.ex;refine q.elim (fun b1 n1 c1 b2 n2 c2 b3 n3 c3 b4 n4 c4 b5 n5 c5 b6 n6 c6 b7 n7 c7 b8 n8 c8 b9 n9 c9 fG gG fF g qd q1 q2 q3 q4 q5 q6=>?_);clear q1 q2 q3 q4 q5 q6;obtain⟨D,hD⟩:∃D,fv d s st.table r=D:=⟨_,rfl⟩;rw[hD]at hk;obtain⟨D1,De⟩:=D;replace hk:∀h',Kp [pb] h h'->dS h' pb D1 s st->k (.int .i64 De) h':=hk;have bp:∀ {h' h2:ad} {b1:Option Addr} {n1 c1:Nat} {b2:Option Addr} {n2 c2:Nat} {b3:Option Addr} {n3 c3:Nat} {b4:Option Addr} {n4 c4:Nat} {c:List Value},Le h h'->h' pb=some (.cells (List.toArray c) 101 (0,0))->gj h' (.agg #[.slice b1 n1 c1,.slice b2 n2 c2,.slice b3 n3 c3,.slice b4 n4 c4]) D1->h2=bp h' pb (.cells (List.toArray (ff c 0 [.slice b1 n1 c1,.slice b2 n2 c2,.slice b3 n3 c3,.slice b4 n4 c4])) 101 (0,0))->k (.int .i64 De) h2:=fun l g qd e2=>by
  have:=q.Sz l g qd e2;exact hk _ this.2 this.1
 clear hk;refine ah A (ar T94.aA T94.bm) Tryz.func94 rfl (by kernel_rfl) ?_;cbv;rw[ai A];refine av g rfl rfl ?_;cbv;rw[ai A];refine av g rfl rfl ?_;cbv;rw[ai A,ai A];refine av g rfl rfl ?_;cbv;refine S3 qd ok gP s iQ st.table qr hD ?_;intro h1 e1 m1 a1 e2 m2 a2 e3 m3 a3 e4 m4 a4 l1 Bl;have g1:=l1 _ _ g;cbv;rw[ai A];refine jz g1 (by simp) (fun h2 CT=>?_);have ae:=bp l1 g1 Bl CT;clear bp g1 CT;cbv;exact ae
theorem takeW{h:ad}{pb:Nat}{d:DB}{s:Int}{st:az}(q:dS h pb d s st){n:Nat}(ok:wX n d)(gP:n<2^18)(iQ:-2^63<=s/\s<2^63){r:Row}(hkey:0<=(bO d st.table).S.key/\(bO d st.table).S.key<r.length){rb:Option Addr}{rn rc:Nat}(qr:Sl 61 bq h (.slice rb rn rc) r){k:Value->ad->Prop}
 (hk:∀h',Kp [pb] h h'->dS h' pb (X2 d s st.table (SL d st.table r)).1 s st->k (.int .i64 (X2 d s st.table (SL d st.table r)).2) h'):Ct 93 [.pointer (some ⟨pb,0,none⟩),.slice rb rn rc] h k:=by
 obtain⟨A,hA⟩:=Ar.ex;have Hd:=qr.len;obtain⟨x,hx⟩:=aI (xs:=r) (i:=(bO d st.table).S.key.toNat) (by omega);have hkv:SL d st.table r=x:=qO hx (by omega);rw[hkv]at hk;have cU:rb.isSome=true/\0<=(bO d st.table).S.key/\(bO d st.table).S.key<(rn:Int):=⟨qr.bu (by omega),by omega,by omega⟩;have KY:(bO d st.table).S.key=(((bO d st.table).S.key.toNat:Nat):Int):=by omega
 refine q.elim (fun b1 n1 c1 b2 n2 c2 b3 n3 c3 b4 n4 c4 b5 n5 c5 b6 n6 c6 b7 n7 c7 b8 n8 c8 b9 n9 c9 fG gG fF g qd q1 q2 q3 q4 q5 q6=>?_);clear q1 q2 q3 q4 q5 q6;obtain⟨D,hD⟩:∃D,X2 d s st.table x=D:=⟨_,rfl⟩;rw[hD]at hk;obtain⟨D1,De⟩:=D;replace hk:∀h',Kp [pb] h h'->dS h' pb D1 s st->k (.int .i64 De) h':=hk;have bp:∀ {h' h2:ad} {b1:Option Addr} {n1 c1:Nat} {b2:Option Addr} {n2 c2:Nat} {b3:Option Addr} {n3 c3:Nat} {b4:Option Addr} {n4 c4:Nat} {c:List Value},Le h h'->h' pb=some (.cells (List.toArray c) 101 (0,0))->gj h' (.agg #[.slice b1 n1 c1,.slice b2 n2 c2,.slice b3 n3 c3,.slice b4 n4 c4]) D1->h2=bp h' pb (.cells (List.toArray (ff c 0 [.slice b1 n1 c1,.slice b2 n2 c2,.slice b3 n3 c3,.slice b4 n4 c4])) 101 (0,0))->k (.int .i64 De) h2:=fun l g qd e2=>by
  have:=q.Sz l g qd e2;exact hk _ this.2 this.1
 clear hk hkv hkey;refine ah A (ar T93.aA T93.bm) Tryz.func93 rfl (by kernel_rfl) ?_;cbv;rw[ai A];refine av g rfl rfl ?_;cbv;rw[ai A];refine av g rfl rfl ?_;cbv;rw[ai A,ai A];refine av g rfl rfl ?_;cbv;rw[ai A,ai A];refine av g rfl rfl ?_;cbv;refine vW q st.table (fun T t1 u1 w1 t2 u2 w2 hT r1 r2=>?_);rw[<-hT]at cU KY hx;clear hT r1 r2;obtain⟨⟨tn,tc,tk,to⟩,tr⟩:=T;cbv;refine av g rfl rfl ?_;cbv;refine⟨⟨_,rfl,rfl⟩,?_⟩;cbv;refine av g rfl rfl ?_;cbv;refine⟨⟨_,rfl,rfl⟩,?_⟩;cbv;refine av g rfl rfl ?_;cbv;refine⟨⟨_,rfl,rfl⟩,?_⟩;cbv;refine⟨cU,?_⟩;cbv;refine qr.load hx KY (fun cs aC=>?_);obtain⟨xk,xn,xs⟩:=x;have aC:cs=[.int .i64 xk,.int .i64 xn,.string xs]:=aC;subst aC;cbv;refine take24F qd ok gP s iQ st.table ⟨xk,xn,xs⟩ hD ?_;intro h1 e1 m1 a1 e2 m2 a2 e3 m3 a3 e4 m4 a4 l1 Bl;have g1:=l1 _ _ g;cbv;rw[ai A];refine jz g1 (by simp) (fun h2 CT=>?_);have ae:=bp l1 g1 Bl CT;clear bp g1 CT;cbv;exact ae
theorem zb{h:ad}{pb:Nat}{d d0:DB}{s:Int}{st:az}(q:dS h pb d s st){eb db wb:Nat}{e:Int}(ge:h eb=some (.cells #[.int .i64 e] 35 (0,0))){b1 b2 b3 b4:Option Addr}{n1 c1 n2 c2 n3 c3 n4 c4:Nat}(gd:h db=some (.cells #[.slice b1 n1 c1,.slice b2 n2 c2,.slice b3 n3 c3,.slice b4 n4 c4] 32 (0,0)))(qd:gj h (.agg #[.slice b1 n1 c1,.slice b2 n2 c2,.slice b3 n3 c3,.slice b4 n4 c4]) d0)
 (gw:h wb=some (.cells #[.pointer (some ⟨pb,0,none⟩)] 99 (0,0))):CtD 160 [.pointer (some ⟨eb,0,none⟩),.pointer (some ⟨db,0,none⟩),.pointer (some ⟨wb,0,none⟩)] h (fun _ h'=>Kp [pb] h h'/\dS h' pb (if e≠0 then d0 else d) s st):=by
 obtain⟨A,hA⟩:=Ar.ex;have fe:A .aG .neq e 0=decide (e≠0):=aB A ..;refine pk A (ar T160.aA T160.bm) Tryz.func160 rfl (by kernel_rfl) ?_;cbv;refine av ge rfl rfl ?_;cbv;rw[fe];by_cases h0:e≠0
 ·obtain⟨c,gp⟩:=q.has;rw[decide_eq_true h0];cbv;refine av gw rfl rfl ?_;cbv;refine av gd rfl rfl ?_;cbv;rw[ai A];obtain⟨c⟩:=c;have hc:4<=c.length:=by refine q.elim (fun WM Tp WC WJ To WA WI Tn Wy WH Tm Wx Nr MK Nn Nq MJ Nl Np MI Nk Ml E2 FP No MH Nj xJ xu xI g qd q1 q2 q3 q4 q5 q6=>?_);rw[gp]at g;cases g;show 4<=22;omega
  refine jz gp (by simpa using hc) (fun h2 e2=>?_);have ae:=q.Sz (Le.refl h) gp qd e2;clear e2;cbv;rw[if_pos h0];exact⟨ae.2,ae.1⟩
 ·rw[decide_eq_false h0];cbv;rw[if_neg h0];exact⟨Kp.refl _ _,q⟩
theorem IJ{p0:Value}{h:ad}{pb:Nat}{d:DB}{s:Int}{st:az}(q:dS h pb d s st){D:DB×Int}
 (step:∀h1,Le h h1->dS h1 pb d s st->Ct 81 [p0] h1 (fun r h2=>r=.int .i64 D.2/\Kp [pb] h1 h2/\dS h2 pb D.1 s st)) {k:Value->ad->Prop}
 (hk:∀h',Kp [pb] h h'->dS h' pb (bK d D).1 s st->k (.tuple #[.slice none 0 0,.int .i64 (bK d D).2.2]) h'):Ct 80 [.pointer (some ⟨pb,0,none⟩),.func (.func 81) #[] #[p0]] h k:=by
 obtain⟨A,hA⟩:=Ar.ex;have tL:(bK d D).1=if D.2≠0 then d else D.1:=by unfold bK;by_cases c:D.2≠0<;>simp[c]
 have pN:(bK d D).2.2=D.2:=by unfold bK;by_cases c:D.2=0<;>simp[c]
 rw[tL,pN]at hk;obtain⟨D1,De⟩:=D;replace hk:∀h',Kp [pb] h h'->dS h' pb (if De≠0 then d else D1) s st->k (.tuple #[.slice none 0 0,.int .i64 De]) h':=hk;replace step:∀h1,Le h h1->dS h1 pb d s st->Ct 81 [p0] h1 (fun r h2=>r=.int .i64 De/\Kp [pb] h1 h2/\dS h2 pb D1 s st):=step;clear tL pN;obtain⟨cp,hp⟩:=q.has;refine ju A (ar XT.aA XT.bm) Tryz.func80 rfl (by kernel_rfl) ?_;cbv;intro wb h1 g1 e1;have l1:Le h h1:=by rw[e1];exact Le.set g1
 have lu:h1 wb=some (.cells #[.pointer (some ⟨pb,0,none⟩)] 99 (0,0)):=by rw[e1];exact af
 have nw:wb≠pb:=fun e=>by rw[e,hp]at g1;cases g1
 clear e1;cbv;intro eb h2 g2 e2;have l2:Le h1 h2:=by rw[e2];exact Le.set g2
 have RH:h2 eb=some (.cells #[.int .i64 0] 35 (0,0)):=by rw[e2];exact af
 have ne:eb≠pb:=fun e=>by rw[e,l1 _ _ hp]at g2;cases g2
 have new:eb≠wb:=fun e=>by rw[e,lu]at g2;cases g2
 have VM:h eb=none:=by
  cases hh:h eb with
  |none=>rfl
  |some o=>rw[l1 _ _ hh]at g2;cases g2
 clear e2;refine(q.mono (l1.trans l2)).elim (fun b1 n1 c1 b2 n2 c2 b3 n3 c3 b4 n4 c4 b5 n5 c5 b6 n6 c6 b7 n7 c7 b8 n8 c8 b9 n9 c9 fG gG fF g qd q1 q2 q3 q4 q5 q6=>?_);clear q1 q2 q3 q4 q5 q6;have lr:=l2 _ _ lu;cbv;refine av lr rfl rfl ?_;cbv;rw[ai A];refine av g rfl rfl ?_;cbv;intro db h3 g3 e3;have l3:Le h2 h3:=by rw[e3];exact Le.set g3
 have RI:h3 db=some (.cells #[.slice none 0 0,.slice none 0 0,.slice none 0 0,.slice none 0 0] 32 (0,0)):=by rw[e3];exact af
 have YB:db≠pb:=fun e=>by rw[e,g]at g3;cases g3
 have YC:db≠eb:=fun e=>by rw[e,RH]at g3;cases g3
 have ndw:db≠wb:=fun e=>by rw[e,lr]at g3;cases g3
 have AI:Le h h2:=l1.trans l2;have ZV:h db=none:=by
  cases hh:h db with
  |none=>rfl
  |some o=>rw[AI _ _ hh]at g3;cases g3
 clear e3;cbv;refine jz RI (by simp) (fun h4 e4=>?_);have gd4:h4 db=some (.cells #[.slice b1 n1 c1,.slice b2 n2 c2,.slice b3 n3 c3,.slice b4 n4 c4] 32 (0,0)):=by rw[e4];exact af
 have l4:Le h2 h4:=fun b o hb=>by rw[e4,aP (fun e=>by rw[e,g3]at hb;cases hb)];exact l3 _ _ hb
 have ge4:=l4 _ _ RH;have Ed:=l4 _ _ lr;have nT:=AI.trans l4;have W8:=qd.mono l4;clear e4 RI l3;cbv;refine(step h4 nT (q.mono nT)).mono (fun r h5 hR=>?_);obtain⟨hr,zU,q5⟩:=hR;subst hr;have ri:∀tys,101∉tys->cF tys h4 h5:=fun tys ht=>(q.mono nT).kp zU ht;have gd5:=zU _ _ gd4 (by simpa using YB);have RG:=zU _ _ ge4 (by simpa using ne);have sB:=zU _ _ Ed (by simpa using nw);have Yl:=W8.QP (ri _ (by decide));clear step;cbv;refine jz RG (by simp) (fun h6 e6=>?_);have DD:∀tys,35∉tys->cF tys h5 h6:=fun tys ht=>by rw[e6];exact cF.set RG ht
 have RF:h6 eb=some (.cells #[.int .i64 De] 35 (0,0)):=by rw[e6];exact af
 have gd6:h6 db=some (.cells #[.slice b1 n1 c1,.slice b2 n2 c2,.slice b3 n3 c3,.slice b4 n4 c4] 32 (0,0)):=by rw[e6,aP YC];exact gd5
 have gw6:h6 wb=some (.cells #[.pointer (some ⟨pb,0,none⟩)] 99 (0,0)):=by rw[e6,aP (Ne.symm new)];exact sB
 have q6:dS h6 pb D1 s st:=q5.lt (by rw[e6,aP (Ne.symm ne)]) (DD _ (by decide));have EW:=Yl.QP (DD _ (by decide));have MO:Kp [pb] h h6:=fun b o hb hn=>by
  rw[e6,aP (fun e=>by rw[e,VM]at hb;cases hb)];exact zU _ _ (nT _ _ hb) hn
 clear e6;cbv;refine(zb q6 RF gd6 EW gw6).mono (fun v h7 hR=>?_);obtain⟨MN,q7⟩:=hR;have ae:=hk h7 (MO.trans MN) q7;have ge7:=MN _ _ RF (by simpa using ne);clear hk;cbv;refine av ge7 rfl rfl ?_;cbv;exact ae
theorem AY{p0 p1:Value}{h:ad}{pb:Nat}{d:DB}{s:Int}{st:az}(q:dS h pb d s st){D:DB×Int}
 (step:∀h1,Le h h1->dS h1 pb d s st->Ct 85 [p0,p1] h1 (fun r h2=>r=.int .i64 D.2/\Kp [pb] h1 h2/\dS h2 pb D.1 s st)) {k:Value->ad->Prop}
 (hk:∀h',Kp [pb] h h'->dS h' pb (bK d D).1 s st->k (.tuple #[.slice none 0 0,.int .i64 (bK d D).2.2]) h'):Ct 80 [.pointer (some ⟨pb,0,none⟩),.func (.func 85) #[] #[p0,p1]] h k:=by
 obtain⟨A,hA⟩:=Ar.ex;have tL:(bK d D).1=if D.2≠0 then d else D.1:=by unfold bK;by_cases c:D.2≠0<;>simp[c]
 have pN:(bK d D).2.2=D.2:=by unfold bK;by_cases c:D.2=0<;>simp[c]
 rw[tL,pN]at hk;obtain⟨D1,De⟩:=D;replace hk:∀h',Kp [pb] h h'->dS h' pb (if De≠0 then d else D1) s st->k (.tuple #[.slice none 0 0,.int .i64 De]) h':=hk;replace step:∀h1,Le h h1->dS h1 pb d s st->Ct 85 [p0,p1] h1 (fun r h2=>r=.int .i64 De/\Kp [pb] h1 h2/\dS h2 pb D1 s st):=step;clear tL pN;obtain⟨cp,hp⟩:=q.has;refine ju A (ar XT.aA XT.bm) Tryz.func80 rfl (by kernel_rfl) ?_;cbv;intro wb h1 g1 e1;have l1:Le h h1:=by rw[e1];exact Le.set g1
 have lu:h1 wb=some (.cells #[.pointer (some ⟨pb,0,none⟩)] 99 (0,0)):=by rw[e1];exact af
 have nw:wb≠pb:=fun e=>by rw[e,hp]at g1;cases g1
 clear e1;cbv;intro eb h2 g2 e2;have l2:Le h1 h2:=by rw[e2];exact Le.set g2
 have RH:h2 eb=some (.cells #[.int .i64 0] 35 (0,0)):=by rw[e2];exact af
 have ne:eb≠pb:=fun e=>by rw[e,l1 _ _ hp]at g2;cases g2
 have new:eb≠wb:=fun e=>by rw[e,lu]at g2;cases g2
 have VM:h eb=none:=by
  cases hh:h eb with
  |none=>rfl
  |some o=>rw[l1 _ _ hh]at g2;cases g2
 clear e2;refine(q.mono (l1.trans l2)).elim (fun b1 n1 c1 b2 n2 c2 b3 n3 c3 b4 n4 c4 b5 n5 c5 b6 n6 c6 b7 n7 c7 b8 n8 c8 b9 n9 c9 fG gG fF g qd q1 q2 q3 q4 q5 q6=>?_);clear q1 q2 q3 q4 q5 q6;have lr:=l2 _ _ lu;cbv;refine av lr rfl rfl ?_;cbv;rw[ai A];refine av g rfl rfl ?_;cbv;intro db h3 g3 e3;have l3:Le h2 h3:=by rw[e3];exact Le.set g3
 have RI:h3 db=some (.cells #[.slice none 0 0,.slice none 0 0,.slice none 0 0,.slice none 0 0] 32 (0,0)):=by rw[e3];exact af
 have YB:db≠pb:=fun e=>by rw[e,g]at g3;cases g3
 have YC:db≠eb:=fun e=>by rw[e,RH]at g3;cases g3
 have ndw:db≠wb:=fun e=>by rw[e,lr]at g3;cases g3
 have AI:Le h h2:=l1.trans l2;have ZV:h db=none:=by
  cases hh:h db with
  |none=>rfl
  |some o=>rw[AI _ _ hh]at g3;cases g3
 clear e3;cbv;refine jz RI (by simp) (fun h4 e4=>?_);have gd4:h4 db=some (.cells #[.slice b1 n1 c1,.slice b2 n2 c2,.slice b3 n3 c3,.slice b4 n4 c4] 32 (0,0)):=by rw[e4];exact af
 have l4:Le h2 h4:=fun b o hb=>by rw[e4,aP (fun e=>by rw[e,g3]at hb;cases hb)];exact l3 _ _ hb
 have ge4:=l4 _ _ RH;have Ed:=l4 _ _ lr;have nT:=AI.trans l4;have W8:=qd.mono l4;clear e4 RI l3;cbv;refine(step h4 nT (q.mono nT)).mono (fun r h5 hR=>?_);obtain⟨hr,zU,q5⟩:=hR;subst hr;have ri:∀tys,101∉tys->cF tys h4 h5:=fun tys ht=>(q.mono nT).kp zU ht;have gd5:=zU _ _ gd4 (by simpa using YB);have RG:=zU _ _ ge4 (by simpa using ne);have sB:=zU _ _ Ed (by simpa using nw);have Yl:=W8.QP (ri _ (by decide));clear step;cbv;refine jz RG (by simp) (fun h6 e6=>?_);have DD:∀tys,35∉tys->cF tys h5 h6:=fun tys ht=>by rw[e6];exact cF.set RG ht
 have RF:h6 eb=some (.cells #[.int .i64 De] 35 (0,0)):=by rw[e6];exact af
 have gd6:h6 db=some (.cells #[.slice b1 n1 c1,.slice b2 n2 c2,.slice b3 n3 c3,.slice b4 n4 c4] 32 (0,0)):=by rw[e6,aP YC];exact gd5
 have gw6:h6 wb=some (.cells #[.pointer (some ⟨pb,0,none⟩)] 99 (0,0)):=by rw[e6,aP (Ne.symm new)];exact sB
 have q6:dS h6 pb D1 s st:=q5.lt (by rw[e6,aP (Ne.symm ne)]) (DD _ (by decide));have EW:=Yl.QP (DD _ (by decide));have MO:Kp [pb] h h6:=fun b o hb hn=>by
  rw[e6,aP (fun e=>by rw[e,VM]at hb;cases hb)];exact zU _ _ (nT _ _ hb) hn
 clear e6;cbv;refine(zb q6 RF gd6 EW gw6).mono (fun v h7 hR=>?_);obtain⟨MN,q7⟩:=hR;have ae:=hk h7 (MO.trans MN) q7;have ge7:=MN _ _ RF (by simpa using ne);clear hk;cbv;refine av ge7 rfl rfl ?_;cbv;exact ae
theorem Kt{h:ad}{pb:Nat}{d:DB}{s:Int}{st:az}(q:dS h pb d s st)(hx:eG st){n:Nat}(ok:wX n d)(gP:n<2^18)(iQ:-2^63<=s/\s<2^63){wb:Nat}(gw:h wb=some (.cells #[.pointer (some ⟨pb,0,none⟩)] 99 (0,0)))
 {D:DB×Int} (hD:D=match bG st.exprs [] []with
  | (r,e)=>if e≠0 then(d,e)else fv d s st.table r) {k:Value->ad->Prop} (hk:∀h',Kp [pb] h h'->dS h' pb D.1 s st->k (.int .i64 D.2) h'):
 Ct 81 [.pointer (some ⟨wb,0,none⟩)] h k:=by
 obtain⟨A,hA⟩:=Ar.ex;refine q.elim (fun b1 n1 c1 b2 n2 c2 b3 n3 c3 b4 n4 c4 b5 n5 c5 b6 n6 c6 b7 n7 c7 b8 n8 c8 b9 n9 c9 fG gG fF g qd q1 q2 q3 q4 q5 q6=>?_);clear q1 q2 q3 q5 q6;obtain⟨D1,De⟩:=D;replace hk:∀h',Kp [pb] h h'->dS h' pb D1 s st->k (.int .i64 De) h':=hk;refine ah A (ar T81.aA T81.bm) Tryz.func81 rfl (by kernel_rfl) ?_;cbv;refine av gw rfl rfl ?_;cbv;rw[ai A,ai A];refine av g rfl rfl ?_;cbv;refine EF hx.exprs (cols:=[]) (fun _ hc=>by cases hc) (r:=[]) (fun _ hv=>by cases hv) hx.len q4 Sl.nil Sl.nil (fun h1 b m c l e l1 hv qb il=>?_);rw[<-hv]at hD;replace hD:(D1,De)=if e≠0 then(d,e)else fv d s st.table l:=hD
 have fe:A .aG .eql e 0=decide (e=0):=aw A ..;have lu:=l1 _ _ gw;have g1:=l1 _ _ g;by_cases h0:e=0
 ·rw[if_neg (fun g=>g h0)]at hD;have bp:∀ {h' h2:ad} {b1:Option Addr} {n1 c1:Nat} {b2:Option Addr} {n2 c2:Nat} {b3:Option Addr} {n3 c3:Nat} {b4:Option Addr} {n4 c4:Nat} {c:List Value},Le h h'->h' pb=some (.cells (List.toArray c) 101 (0,0))->gj h' (.agg #[.slice b1 n1 c1,.slice b2 n2 c2,.slice b3 n3 c3,.slice b4 n4 c4]) D1->h2=bp h' pb (.cells (List.toArray (ff c 0 [.slice b1 n1 c1,.slice b2 n2 c2,.slice b3 n3 c3,.slice b4 n4 c4])) 101 (0,0))->k (.int .i64 De) h2:=fun l g qd e2=>by
   have:=q.Sz l g qd e2;exact hk _ this.2 this.1
  clear hk;cbv;rw[fe,decide_eq_true h0];cbv;refine av lu rfl rfl ?_;cbv;refine av lu rfl rfl ?_;cbv;try rw[ai A]
  refine av g1 rfl rfl ?_;cbv;refine av lu rfl rfl ?_;cbv;try rw[ai A]
  refine av g1 rfl rfl ?_;cbv;refine av lu rfl rfl ?_;cbv;first|rw[ai A,ai A] |rw[ai A] |skip
  refine av g1 rfl rfl ?_;cbv;refine S3 (qd.mono l1) ok gP s iQ st.table qb.sl hD.symm ?_;intro h2 e1 m1 a1 e2 m2 a2 e3 m3 a3 e4 m4 a4 l2 Bl;have g2:=l2 _ _ g1;have lr:=l2 _ _ lu;cbv;refine av lr rfl rfl ?_;cbv;refine⟨⟨_,rfl,rfl⟩,?_⟩;cbv;try rw[ai A]
  refine jz g2 (by simp) (fun h3 XM=>?_);have ae:=bp (l1.trans l2) g2 Bl XM;clear bp g2 XM;cbv;exact ae
 ·rw[if_pos h0]at hD;cases hD;have ae:=hk h1 (l1.kp _) (q.mono l1);clear hk;cbv;rw[fe,decide_eq_false h0];cbv;exact ae
theorem OB{h:ad}{pb:Nat}{d:DB}{s:Int}{st:az}(q:dS h pb d s st)(hx:eG st){n:Nat}(ok:SJ n d)(gP:n+2<2^18)(iQ:-2^63<=s/\s<2^63){k:Value->ad->Prop}
 (hk:∀h',Kp [pb] h h'->dS h' pb (jB d s st).1 s st->k (.tuple #[.slice none 0 0,.int .i64 (jB d s st).2.2]) h'):
 Ct 41 [.pointer (some ⟨pb,0,none⟩)] h k:=by
 obtain⟨A,hA⟩:=Ar.ex;have hP:jB d s st=match ay d ⟨s,st.table,true⟩with
  | (d,e)=>if e≠0 then(d,[],e)else bK d (match bG st.exprs [] []with
   | (r,e)=>if e≠0 then(d,e)else fv d s st.table r):=rfl
 generalize jB d s st=D at *;have sj:=uB ok ⟨s,st.table,true⟩ iQ;obtain⟨c,hp⟩:=q.has;refine q.elim (fun b1 n1 c1 b2 n2 c2 b3 n3 c3 b4 n4 c4 b5 n5 c5 b6 n6 c6 b7 n7 c7 b8 n8 c8 b9 n9 c9 fG gG fF g qd q1 q2 q3 q4 q5 q6=>?_);clear q1 q2 q3 q4 q5 q6;refine ah A (ar T41.aA T41.bm) Tryz.func41 rfl (by kernel_rfl) ?_;cbv;intro wb h1 gn e1;have l1:Le h h1:=by rw[e1];exact Le.set gn
 have lu:h1 wb=some (.cells #[.pointer (some ⟨pb,0,none⟩)] 99 (0,0)):=by rw[e1];exact af
 have nw:wb≠pb:=fun e=>by rw[e,hp]at gn;cases gn
 have g1:=l1 _ _ g;clear e1;cbv;refine av lu rfl rfl ?_;cbv;refine av lu rfl rfl ?_;cbv;first|rw[ai A,ai A] |rw[ai A] |skip
 refine av g1 rfl rfl ?_;cbv;refine EE (q.mono l1) ok.CM (by omega) st.table true (fun h2 k2 q2=>?_);generalize ay d ⟨s,st.table,true⟩=H at *;obtain⟨d1,e⟩:=H;replace q2:dS h2 pb d1 s st:=q2;replace sj:SJ (n+1) d1:=sj;replace hP:D=if e≠0 then(d1,[],e)else bK d1 (match bG st.exprs [] []with
  | (r,e)=>if e≠0 then(d1,e)else fv d1 s st.table r):=hP
 have fe:A .aG .neq e 0=decide (e≠0):=aB A ..;have MP:Kp [pb] h h2:=(l1.kp _).trans k2;have lr:=k2 _ _ lu (by simpa using nw);by_cases h0:e≠0
 ·rw[if_pos h0]at hP;subst hP;have ae:=hk h2 MP q2;clear hk;cbv;rw[fe,decide_eq_true h0];cbv;exact ae
 ·rw[if_neg h0]at hP;have fO:∀h3,Le h2 h3->dS h3 pb d1 s st->Ct 81 [.pointer (some ⟨wb,0,none⟩)] h3 (fun r h4=>r=.int .i64 (match bG st.exprs [] []with
   | (r,e)=>if e≠0 then(d1,e)else fv d1 s st.table r).2/\Kp [pb] h3 h4/\dS h4 pb (match bG st.exprs [] []with
   | (r,e)=>if e≠0 then(d1,e)else fv d1 s st.table r).1 s st):=fun h3 l3 q3=>Kt q3 hx sj.CM (by omega) iQ (l3 _ _ lr) rfl (fun h4 k4 q4=>⟨rfl,k4,q4⟩)
  generalize (match bG st.exprs [] []with
   | (r,e)=>if e≠0 then(d1,e)else fv d1 s st.table r)=E at *
  cbv;rw[fe,decide_eq_false h0];cbv;refine av lr rfl rfl ?_;cbv;refine IJ q2 fO (fun h3 k3 q3=>?_);rw[<-hP]at q3 |-;have ae:=hk h3 (MP.trans k3) q3;clear hk fO;generalize D.2.2=De at *;cbv;exact ae
def ny(nm:ByteArray)(c:bT):bT:=⟨nm++ax [46]++c.name,c.kind,c.null⟩
theorem tY(t:cE):aJ t=t.S.cols.map (ny t.S.name):=rfl
theorem E5{α:Type}{f:α->α}{xs:List α}{i:Nat}{x:α}(h:xs[i]? =some x):((xs.take i).map f++xs.drop i).set i (f x)=(xs.take (i+1)).map f++xs.drop (i+1):=by
 have hi:=(List.getElem?_eq_some_iff.1 h).1;have hd:xs.drop i=x::xs.drop (i+1):=by obtain⟨h1,h2⟩:=List.getElem?_eq_some_iff.1 h;rw[List.drop_eq_getElem_cons h1,h2]
 have hl:((xs.take i).map f).length=i:=by simp;omega
 rw[hd,List.set_append_right _ _ (by omega),hl,Nat.sub_self,List.set_cons_zero];rw[List.take_add_one,h];simp
theorem E6{α:Type}{f:α->α}{xs:List α}{i:Nat}{x:α}(h:xs[i]? =some x):((xs.take i).map f++xs.drop i)[i]? =some x:=by have hi:=(List.getElem?_eq_some_iff.1 h).1;rw[List.getElem?_append_right (by simp;omega),List.length_map,List.length_take,Nat.min_eq_left (by omega),Nat.sub_self,List.getElem?_drop,Nat.add_zero,h]
theorem mH{nm:ByteArray}(yE:Nm nm){cols:List bT}(hc:∀c∈cols,Nm c.name){h:ad}{cb:Option Addr}{cn cc:Nat}(qc:Sl 165 bt h (.slice cb cn cc) cols)(key:Int)(only:Bool)(rb:Option Addr)(rn rc:Nat){k:Value->ad->Prop}
 (hk:∀h' b n c,Le h h'->cX 165 bt h h' (.slice b n c) (cols.map (ny nm))->k (.slice b n c) h'):
 Ct 87 [.agg #[.string nm,.slice cb cn cc,.int .i64 key,.bool only,.slice rb rn rc]] h k:=by
 obtain⟨A,hA⟩:=Ar.ex;obtain⟨X,hX⟩:∃X,A .cat nm ⟨#[46]⟩=X:=⟨_,rfl⟩;have hX2:X=nm++ax [46]:=by rw[<-hX,hA.cat];rfl
 have fh:((nm.size+(⟨#[46]⟩:ByteArray).size:Nat):Int)<=2^62:=by have:=yE.sz;have e:(⟨#[46]⟩:ByteArray).size=1:=rfl;rw[e];omega
 have Ij:∀c∈cols,((X.size+c.name.size:Nat):Int)<=2^62:=fun c xF=>by
  have h1:=yE.sz;have h2:=(hc c xF).sz;have e:X.size=nm.size+1:=by rw[hX2,ByteArray.size_append];rfl
  rw[e];omega
 have vY:∀c:bT,A .cat X c.name=(ny nm c).name:=fun c=>by rw[hA.cat,hX2];rfl
 refine ah A (ar T87.aA T87.bm) Tryz.func87 rfl (by kernel_rfl) ?_;cbv;refine(tm qc).mono (fun v h1 hR=>?_);obtain⟨l1,b',c',hv,qb⟩:=hR;subst hv;rcases qb.out with ⟨b0,g1,g2⟩ | ⟨nb,cap,g1,g2,o⟩
 ·have ae:=hk h1 b' 0 0 l1 (by rw[g2];exact cX.nil);have f0:A .aG .lss 0 (A .nat 0)=false:=by rw[bE A,hA.nat];rfl
  cases g1;clear hk;cbv;refine aX.go (G:=Unit) (fun _=>[(11,.v (.int .i64 0))]) (fun _=>[(1,[.string nm,.slice cb 0 cc,.int .i64 key,.bool only,.slice rb rn rc])]) (fun m z h'=>h'=h1) 0 () ⟨?_,?_,?_⟩ rfl ?_
  ·cbv
  ·cbv
  ·cbv
  ·intro m z h' e;subst e;cbv;rw[f0];cbv;exact ae
 ·have Rs:=qc.len;cases g1;have hcn':cols.length=cols.length:=rfl;generalize hN:cols.length=N at *;obtain⟨I,bl⟩:∃I:Nat->Int->ad->Prop,∀m z h',I m z h'=∃i,aS z i/\i<=N/\m=N-i/\Kp [nb] h1 h'/\dI 165 bt h' nb c' ((cols.take i).map (ny nm)++cols.drop i):=⟨_,fun _ _ _=>rfl⟩;have hJ:I N 0 h1:=by rw[bl];exact⟨0,⟨rfl⟩,Nat.zero_le _,rfl,Kp.refl _ _,o⟩
  have hNb:=qc.bound;clear o qb;cbv;refine aX.go (G:=Int) (fun z=>[(11,.v (.int .i64 z))]) (fun _=>[(1,[.string nm,.slice cb N cc,.int .i64 key,.bool only,.slice rb rn rc])]) (fun m z h'=>I m z h') N 0 ⟨?_,?_,?_⟩ hJ ?_
  ·cbv
  ·cbv
  ·cbv
  ·intro m z h2 hI;rw[bl]at hI;cbv;obtain⟨i,hz,hi,hm,k2,o⟩:=hI;have f1:A .aG .lss z (A .nat N)=decide (i<N):=hz.gy (aS.nat N);rw[f1];by_cases aK:i<N
   ·obtain⟨c,Xx⟩:=aI (xs:=cols) (i:=i) (by omega);have xF:=List.mem_of_getElem? Xx;have hg:=E6 (f:=ny nm) Xx;have kf:=E5 (f:=ny nm) Xx;have hlen:((cols.take i).map (ny nm)++cols.drop i).length=N:=by simp;omega
    generalize (cols.take i).map (ny nm)++cols.drop i=L at *;have cU:0<=z/\z<(N:Int):=hz.ix aK;have fA:=hz.eq;have dD:=hz.succ (A:=A) (by omega);have j0:N-(i+1)<m:=by omega
    have Ij:=Ij c xF;have vY:=vY c;have di:∀h3,Kp [nb] h2 h3->dI 165 bt h3 nb c' (L.set i (ny nm c))->I (N-(i+1)) (A .bA .add .i64 z 1) h3:=fun h3 k3 o3=>by
     rw[bl];exact⟨i+1,dD,aK,rfl,k2.trans k3,by rw[<-kf];exact o3⟩
    have qs:=o.sl hlen.symm;clear bl hJ hk dD;rw[decide_eq_true aK];cbv;refine⟨fh,?_⟩;cbv;rw[hX];refine⟨⟨rfl,cU⟩,?_⟩;cbv;refine qs.eE hg fA (o:=0) (m:=1) (by decide) (fun cs aC=>?_);obtain⟨uN,Cr,FK⟩:=c;have aC:cs=[.string uN,.int .i64 Cr,.bool FK]:=aC;subst aC;have vY:A .cat X uN=(ny nm ⟨uN,Cr,FK⟩).name:=vY;cbv;refine⟨Ij,?_⟩;cbv;rw[vY];generalize hy:(ny nm ⟨uN,Cr,FK⟩).name=y at *;refine⟨⟨rfl,cU⟩,?_⟩;cbv;refine o.Jk (by decide) hg fA rfl (off:=0) (new:=[.string y]) (show 0+1<=3 by omega) (x':=ny nm ⟨uN,Cr,FK⟩) (fun cs aC=>?_) (fun h3 k3 t3 o3=>?_)
    ·have aC:cs=[.string uN,.int .i64 Cr,.bool FK]:=aC;subst aC;show [Value.string y,.int .i64 Cr,.bool FK]=[.string (ny nm ⟨uN,Cr,FK⟩).name,.int .i64 Cr,.bool FK];rw[hy]
    ·have uL:=di h3 k3 o3;clear di;cbv;refine⟨N-(i+1),A .bA .add .i64 z 1,j0,⟨?_,?_,?_⟩,uL⟩
     ·cbv
     ·cbv
     ·cbv
   ·have jR:i=N:=by omega
    rw[jR,<-hN,List.take_of_length_le (Nat.le_refl _),List.drop_of_length_le (Nat.le_refl _),List.append_nil]at o;have tO:(cols.map (ny nm)).length=N:=by rw[List.length_map,hN]
    have ae:=hk h2 (some ⟨nb,0,none⟩) N c' (l1.df (fun b hb=>by rw[List.mem_singleton.1 hb];exact g2) k2) (o.buf g2 tO.symm);clear bl hJ hk;rw[decide_eq_false aK];cbv;exact ae
end Go.S
