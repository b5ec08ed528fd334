import Derived.Test.YtekoaiendgjkdaaGreatQA
import Derived.Test.YtekoaiendgjkdaaGreatVB
import Derived.Test.YtekoaiendgjkdaaGreatEB
import Derived.Test.YtekoaiendgjkdaaGreatGB
import Derived.Test.YtekoaiendgjkdaaGreatGC
set_option linter.unusedVariables false
set_option linter.unusedSimpArgs false
set_option linter.unusedSectionVars false
set_option maxRecDepth 100000
set_option maxHeartbeats 8000000
namespace Go.S
open Go.Sx Go.Proofs
theorem rA{α:Type}{A:Ar}[aP A]{e e1:Nat}{s:Sh α}{h:ad}{b:Option Addr}{len cap:Nat}{xs:List (List α)}(q:Sl e (jl e1 s) h (.slice b len cap) xs){i:Nat}{x:List α}(hx:xs[i]? =some x){n:Int}(hn:n=(i:Int)){k:List Value->Prop}
 (hk:∀b1 n1 c1,Sl e1 s h (.slice b1 n1 c1) x->k [.slice b1 n1 c1]):sI h (A .jj b n 1) 1 k:=by
 refine q.load hx hn (fun cs aF=>?_);obtain⟨v,rfl,hv⟩:=aF;obtain⟨b1,c1,rfl,-⟩:=hv.out;exact hk _ _ _ hv
theorem sE{A:Ar}[aP A]{h:ad}{b:Option Addr}{len cap:Nat}{xs:List dq}(q:Sl 276 bV h (.slice b len cap) xs){i:Nat}{x:dq}(hx:xs[i]? =some x){n:Int}(hn:n=(i:Int)){k:List Value->Prop}
 (hk:∀b1 n1 c1,Sl 325 cP h (.slice b1 n1 c1) x.e->k [.int .i64 x.fn,.slice b1 n1 c1]):sI h (A .jj b n 2) 2 k:=by
 refine q.load hx hn (fun cs aF=>?_);obtain⟨b1,n1,c1,rfl,hv⟩:=aF;exact hk _ _ _ hv
theorem Ef{xs:List (Row)}{p0 p1 p2:Value}{h:ad}{b:Option Addr}{n c:Nat}(hn:n=xs.length)(I:Nat->ad->Prop)(h0:I 0 h)(hq:∀i h',I i h'->Sl 59 aN h' (.slice b n c) xs){k:Value->ad->Prop}
 (step:∀i x h' b1 n1 c1,i<n->xs[i]? =some x->I i h'->Sl 61 aY h' (.slice b1 n1 c1) x->Ct 188 [.slice b1 n1 c1,p0,p1,p2] h' (fun r lY=>∃e,r=.int .i64 e/\(e=0->I (i+1) lY)/\(e≠0->k (.int .i64 e) lY)))
 (fin:∀h',I n h'->k (.int .i64 0) h'):
 Ct 92 [.slice b n c,.func (.func 188) #[] #[p0,p1,p2]] h k:=by
 obtain⟨A,hA⟩:=Ar.ex;have Bt:=(hq 0 h h0).bound;obtain⟨J,fD⟩:∃J:Nat->Int->ad->Prop,∀m z h',J m z h'=∃i,aO z i/\i<=n/\m=n-i/\I i h':=⟨_,fun _ _ _=>rfl⟩;have hJ:J n 0 h:=by rw[fD];exact⟨0,⟨rfl⟩,Nat.zero_le _,rfl,h0⟩
 refine af A (ar Zi.aw Zi.aZ) Tryz.func92 rfl (by kernel_rfl) ?_;cbv;refine aX.go (G:=Int) (fun z=>[(10,.v (.int .i64 z))]) (fun _=>[]) (fun m z h'=>J m z h') n 0 ⟨?_,?_,?_⟩ hJ ?_
 ·cbv
 ·cbv
 ·cbv
 ·intro m z h1 hI;rw[fD]at hI;cbv;obtain⟨i,hz,hi,hm,hI⟩:=hI;have f1:A .aD .lss z (A .nat n)=decide (i<n):=hz.gK (aO.nat n);rw[f1];by_cases aG:i<n
  ·obtain⟨x,hx⟩:=aE (xs:=xs) (i:=i) (by omega);have qs:=hq i h1 hI;have cT:b.isSome=true/\0<=z/\z<(n:Int):=⟨qs.bF (by omega),hz.ix aG⟩;have ir:=hz.eq;have dS:=hz.succ (A:=A) (by omega);have kC:n-(i+1)<m:=by omega
   have kU:∀h',I (i+1) h'->J (n-(i+1)) (A .bu .add .i64 z 1) h':=fun h' hh=>by rw[fD];exact⟨i+1,dS,aG,rfl,hh⟩
   have st:=step i x h1;clear fD hJ step fin hq;rw[decide_eq_true aG];cbv;refine⟨cT,?_⟩;cbv;refine rA qs hx ir (fun b1 n1 c1 hv=>?_);replace st:=st b1 n1 c1;cbv;refine(st aG hx hI hv).mono (fun r h2 hR=>?_);obtain⟨e,hr,kZ,oU⟩:=hR;subst hr;have fe:A .aD .neq e 0=decide (e≠0):=aC A ..;by_cases h0:e=0
   ·have dc:=kU h2 (kZ h0);clear kU kZ oU st;cbv;rw[fe,decide_eq_false (fun g=>g h0)];cbv;refine⟨n-(i+1),A .bu .add .i64 z 1,kC,⟨?_,?_,?_⟩,dc⟩
    ·cbv
    ·cbv
    ·cbv
   ·have ae:=oU h0;clear kU kZ oU st;cbv;rw[fe,decide_eq_true h0];cbv;exact ae
  ·have jA:i=n:=by omega
   subst jA;have ae:=fin h1 hI;clear fD hJ step fin hq;rw[decide_eq_false aG];cbv;exact ae
theorem BA{xs:List (Row)}{p0 p1 p2:Value}{h:ad}{b:Option Addr}{n c:Nat}(hn:n=xs.length)(I:Nat->ad->Prop)(h0:I 0 h)(hq:∀i h',I i h'->Sl 59 aN h' (.slice b n c) xs){k:Value->ad->Prop}
 (step:∀i x h' b1 n1 c1,i<n->xs[i]? =some x->I i h'->Sl 61 aY h' (.slice b1 n1 c1) x->Ct 189 [.slice b1 n1 c1,p0,p1,p2] h' (fun r lY=>∃e,r=.int .i64 e/\(e=0->I (i+1) lY)/\(e≠0->k (.int .i64 e) lY)))
 (fin:∀h',I n h'->k (.int .i64 0) h'):
 Ct 92 [.slice b n c,.func (.func 189) #[] #[p0,p1,p2]] h k:=by
 obtain⟨A,hA⟩:=Ar.ex;have Bt:=(hq 0 h h0).bound;obtain⟨J,fD⟩:∃J:Nat->Int->ad->Prop,∀m z h',J m z h'=∃i,aO z i/\i<=n/\m=n-i/\I i h':=⟨_,fun _ _ _=>rfl⟩;have hJ:J n 0 h:=by rw[fD];exact⟨0,⟨rfl⟩,Nat.zero_le _,rfl,h0⟩
 refine af A (ar Zi.aw Zi.aZ) Tryz.func92 rfl (by kernel_rfl) ?_;cbv;refine aX.go (G:=Int) (fun z=>[(10,.v (.int .i64 z))]) (fun _=>[]) (fun m z h'=>J m z h') n 0 ⟨?_,?_,?_⟩ hJ ?_
 ·cbv
 ·cbv
 ·cbv
 ·intro m z h1 hI;rw[fD]at hI;cbv;obtain⟨i,hz,hi,hm,hI⟩:=hI;have f1:A .aD .lss z (A .nat n)=decide (i<n):=hz.gK (aO.nat n);rw[f1];by_cases aG:i<n
  ·obtain⟨x,hx⟩:=aE (xs:=xs) (i:=i) (by omega);have qs:=hq i h1 hI;have cT:b.isSome=true/\0<=z/\z<(n:Int):=⟨qs.bF (by omega),hz.ix aG⟩;have ir:=hz.eq;have dS:=hz.succ (A:=A) (by omega);have kC:n-(i+1)<m:=by omega
   have kU:∀h',I (i+1) h'->J (n-(i+1)) (A .bu .add .i64 z 1) h':=fun h' hh=>by rw[fD];exact⟨i+1,dS,aG,rfl,hh⟩
   have st:=step i x h1;clear fD hJ step fin hq;rw[decide_eq_true aG];cbv;refine⟨cT,?_⟩;cbv;refine rA qs hx ir (fun b1 n1 c1 hv=>?_);replace st:=st b1 n1 c1;cbv;refine(st aG hx hI hv).mono (fun r h2 hR=>?_);obtain⟨e,hr,kZ,oU⟩:=hR;subst hr;have fe:A .aD .neq e 0=decide (e≠0):=aC A ..;by_cases h0:e=0
   ·have dc:=kU h2 (kZ h0);clear kU kZ oU st;cbv;rw[fe,decide_eq_false (fun g=>g h0)];cbv;refine⟨n-(i+1),A .bu .add .i64 z 1,kC,⟨?_,?_,?_⟩,dc⟩
    ·cbv
    ·cbv
    ·cbv
   ·have ae:=oU h0;clear kU kZ oU st;cbv;rw[fe,decide_eq_true h0];cbv;exact ae
  ·have jA:i=n:=by omega
   subst jA;have ae:=fin h1 hI;clear fD hJ step fin hq;rw[decide_eq_false aG];cbv;exact ae
theorem zQ{xs:List (List Nd)}{p0 p1 p2:Value}{h:ad}{b:Option Addr}{n c:Nat}(hn:n=xs.length)(I:Nat->ad->Prop)(h0:I 0 h)(hq:∀i h',I i h'->Sl 42 fX h' (.slice b n c) xs){k:Value->ad->Prop}
 (step:∀i x h' b1 n1 c1,i<n->xs[i]? =some x->I i h'->Sl 325 cP h' (.slice b1 n1 c1) x->Ct 162 [.slice b1 n1 c1,p0,p1,p2] h' (fun r lY=>∃e,r=.int .i64 e/\(e=0->I (i+1) lY)/\(e≠0->k (.int .i64 e) lY)))
 (fin:∀h',I n h'->k (.int .i64 0) h'):
 Ct 161 [.slice b n c,.func (.func 162) #[] #[p0,p1,p2]] h k:=by
 obtain⟨A,hA⟩:=Ar.ex;have Bt:=(hq 0 h h0).bound;obtain⟨J,fD⟩:∃J:Nat->Int->ad->Prop,∀m z h',J m z h'=∃i,aO z i/\i<=n/\m=n-i/\I i h':=⟨_,fun _ _ _=>rfl⟩;have hJ:J n 0 h:=by rw[fD];exact⟨0,⟨rfl⟩,Nat.zero_le _,rfl,h0⟩
 refine af A (ar Xq.aw Xq.aZ) Tryz.func161 rfl (by kernel_rfl) ?_;cbv;refine aX.go (G:=Int) (fun z=>[(10,.v (.int .i64 z))]) (fun _=>[]) (fun m z h'=>J m z h') n 0 ⟨?_,?_,?_⟩ hJ ?_
 ·cbv
 ·cbv
 ·cbv
 ·intro m z h1 hI;rw[fD]at hI;cbv;obtain⟨i,hz,hi,hm,hI⟩:=hI;have f1:A .aD .lss z (A .nat n)=decide (i<n):=hz.gK (aO.nat n);rw[f1];by_cases aG:i<n
  ·obtain⟨x,hx⟩:=aE (xs:=xs) (i:=i) (by omega);have qs:=hq i h1 hI;have cT:b.isSome=true/\0<=z/\z<(n:Int):=⟨qs.bF (by omega),hz.ix aG⟩;have ir:=hz.eq;have dS:=hz.succ (A:=A) (by omega);have kC:n-(i+1)<m:=by omega
   have kU:∀h',I (i+1) h'->J (n-(i+1)) (A .bu .add .i64 z 1) h':=fun h' hh=>by rw[fD];exact⟨i+1,dS,aG,rfl,hh⟩
   have st:=step i x h1;clear fD hJ step fin hq;rw[decide_eq_true aG];cbv;refine⟨cT,?_⟩;cbv;refine rA qs hx ir (fun b1 n1 c1 hv=>?_);replace st:=st b1 n1 c1;cbv;refine(st aG hx hI hv).mono (fun r h2 hR=>?_);obtain⟨e,hr,kZ,oU⟩:=hR;subst hr;have fe:A .aD .neq e 0=decide (e≠0):=aC A ..;by_cases h0:e=0
   ·have dc:=kU h2 (kZ h0);clear kU kZ oU st;cbv;rw[fe,decide_eq_false (fun g=>g h0)];cbv;refine⟨n-(i+1),A .bu .add .i64 z 1,kC,⟨?_,?_,?_⟩,dc⟩
    ·cbv
    ·cbv
    ·cbv
   ·have ae:=oU h0;clear kU kZ oU st;cbv;rw[fe,decide_eq_true h0];cbv;exact ae
  ·have jA:i=n:=by omega
   subst jA;have ae:=fin h1 hI;clear fD hJ step fin hq;rw[decide_eq_false aG];cbv;exact ae
theorem HX{xs:List (ByteArray)}{p0:Value}{h:ad}{b:Option Addr}{n c:Nat}(hn:n=xs.length)(I:Nat->ad->Prop)(h0:I 0 h)(hq:∀i h',I i h'->Sl 9 cK h' (.slice b n c) xs){k:Value->ad->Prop}
 (step:∀i x h',i<n->xs[i]? =some x->I i h'->True->Ct 98 [.string x,p0] h' (fun r lY=>∃e,r=.int .i64 e/\(e=0->I (i+1) lY)/\(e≠0->k (.int .i64 e) lY)))
 (fin:∀h',I n h'->k (.int .i64 0) h'):
 Ct 99 [.slice b n c,.func (.func 98) #[] #[p0]] h k:=by
 obtain⟨A,hA⟩:=Ar.ex;have Bt:=(hq 0 h h0).bound;obtain⟨J,fD⟩:∃J:Nat->Int->ad->Prop,∀m z h',J m z h'=∃i,aO z i/\i<=n/\m=n-i/\I i h':=⟨_,fun _ _ _=>rfl⟩;have hJ:J n 0 h:=by rw[fD];exact⟨0,⟨rfl⟩,Nat.zero_le _,rfl,h0⟩
 refine af A (ar T99.aw T99.aZ) Tryz.func99 rfl (by kernel_rfl) ?_;cbv;refine aX.go (G:=Int) (fun z=>[(10,.v (.int .i64 z))]) (fun _=>[]) (fun m z h'=>J m z h') n 0 ⟨?_,?_,?_⟩ hJ ?_
 ·cbv
 ·cbv
 ·cbv
 ·intro m z h1 hI;rw[fD]at hI;cbv;obtain⟨i,hz,hi,hm,hI⟩:=hI;have f1:A .aD .lss z (A .nat n)=decide (i<n):=hz.gK (aO.nat n);rw[f1];by_cases aG:i<n
  ·obtain⟨x,hx⟩:=aE (xs:=xs) (i:=i) (by omega);have qs:=hq i h1 hI;have cT:b.isSome=true/\0<=z/\z<(n:Int):=⟨qs.bF (by omega),hz.ix aG⟩;have ir:=hz.eq;have dS:=hz.succ (A:=A) (by omega);have kC:n-(i+1)<m:=by omega
   have kU:∀h',I (i+1) h'->J (n-(i+1)) (A .bu .add .i64 z 1) h':=fun h' hh=>by rw[fD];exact⟨i+1,dS,aG,rfl,hh⟩
   have st:=step i x h1;clear fD hJ step fin hq;rw[decide_eq_true aG];cbv;refine⟨cT,?_⟩;cbv;refine qs.load hx ir (fun cs aF=>?_);have aF:cs=[.string x]:=aF;subst aF;have hv:=trivial;cbv;refine(st aG hx hI hv).mono (fun r h2 hR=>?_);obtain⟨e,hr,kZ,oU⟩:=hR;subst hr;have fe:A .aD .neq e 0=decide (e≠0):=aC A ..;by_cases h0:e=0
   ·have dc:=kU h2 (kZ h0);clear kU kZ oU st;cbv;rw[fe,decide_eq_false (fun g=>g h0)];cbv;refine⟨n-(i+1),A .bu .add .i64 z 1,kC,⟨?_,?_,?_⟩,dc⟩
    ·cbv
    ·cbv
    ·cbv
   ·have ae:=oU h0;clear kU kZ oU st;cbv;rw[fe,decide_eq_true h0];cbv;exact ae
  ·have jA:i=n:=by omega
   subst jA;have ae:=fin h1 hI;clear fD hJ step fin hq;rw[decide_eq_false aG];cbv;exact ae
theorem Eg{xs:List (dq)}{f0:Value}{h:ad}{b:Option Addr}{n c:Nat}(hn:n=xs.length)(I:Nat->ad->Prop)(h0:I 0 h)(hq:∀i h',I i h'->Sl 276 bV h' (.slice b n c) xs){k:Value->ad->Prop}
 (step:∀i x h' b1 n1 c1,i<n->xs[i]? =some x->I i h'->Sl 325 cP h' (.slice b1 n1 c1) x.e->Ct 179 [f0,.agg #[.int .i64 x.fn,.slice b1 n1 c1]] h' (fun r lY=>∃e,r=.int .i64 e/\(e=0->I (i+1) lY)/\(e≠0->k (.int .i64 e) lY)))
 (fin:∀h',I n h'->k (.int .i64 0) h'):
 Ct 178 [.slice b n c,.func (.func 179) #[f0] #[]] h k:=by
 obtain⟨A,hA⟩:=Ar.ex;have Bt:=(hq 0 h h0).bound;obtain⟨J,fD⟩:∃J:Nat->Int->ad->Prop,∀m z h',J m z h'=∃i,aO z i/\i<=n/\m=n-i/\I i h':=⟨_,fun _ _ _=>rfl⟩;have hJ:J n 0 h:=by rw[fD];exact⟨0,⟨rfl⟩,Nat.zero_le _,rfl,h0⟩
 refine af A (ar ED.aw ED.aZ) Tryz.func178 rfl (by kernel_rfl) ?_;cbv;refine aX.go (G:=Int) (fun z=>[(10,.v (.int .i64 z))]) (fun _=>[]) (fun m z h'=>J m z h') n 0 ⟨?_,?_,?_⟩ hJ ?_
 ·cbv
 ·cbv
 ·cbv
 ·intro m z h1 hI;rw[fD]at hI;cbv;obtain⟨i,hz,hi,hm,hI⟩:=hI;have f1:A .aD .lss z (A .nat n)=decide (i<n):=hz.gK (aO.nat n);rw[f1];by_cases aG:i<n
  ·obtain⟨x,hx⟩:=aE (xs:=xs) (i:=i) (by omega);have qs:=hq i h1 hI;have cT:b.isSome=true/\0<=z/\z<(n:Int):=⟨qs.bF (by omega),hz.ix aG⟩;have ir:=hz.eq;have dS:=hz.succ (A:=A) (by omega);have kC:n-(i+1)<m:=by omega
   have kU:∀h',I (i+1) h'->J (n-(i+1)) (A .bu .add .i64 z 1) h':=fun h' hh=>by rw[fD];exact⟨i+1,dS,aG,rfl,hh⟩
   have st:=step i x h1;clear fD hJ step fin hq;rw[decide_eq_true aG];cbv;refine⟨cT,?_⟩;cbv;refine sE qs hx ir (fun b1 n1 c1 hv=>?_);replace st:=st b1 n1 c1;obtain⟨xf,xe⟩:=x;cbv;refine(st aG hx hI hv).mono (fun r h2 hR=>?_);obtain⟨e,hr,kZ,oU⟩:=hR;subst hr;have fe:A .aD .neq e 0=decide (e≠0):=aC A ..;by_cases h0:e=0
   ·have dc:=kU h2 (kZ h0);clear kU kZ oU st;cbv;rw[fe,decide_eq_false (fun g=>g h0)];cbv;refine⟨n-(i+1),A .bu .add .i64 z 1,kC,⟨?_,?_,?_⟩,dc⟩
    ·cbv
    ·cbv
    ·cbv
   ·have ae:=oU h0;clear kU kZ oU st;cbv;rw[fe,decide_eq_true h0];cbv;exact ae
  ·have jA:i=n:=by omega
   subst jA;have ae:=fin h1 hI;clear fD hJ step fin hq;rw[decide_eq_false aG];cbv;exact ae
theorem jI{xs:List (dq)}{f0:Value}{h:ad}{b:Option Addr}{n c:Nat}(hn:n=xs.length)(I:Nat->ad->Prop)(h0:I 0 h)(hq:∀i h',I i h'->Sl 276 bV h' (.slice b n c) xs){k:Value->ad->Prop}
 (step:∀i x h' b1 n1 c1,i<n->xs[i]? =some x->I i h'->Sl 325 cP h' (.slice b1 n1 c1) x.e->Ct 187 [f0,.agg #[.int .i64 x.fn,.slice b1 n1 c1]] h' (fun r lY=>∃e,r=.int .i64 e/\(e=0->I (i+1) lY)/\(e≠0->k (.int .i64 e) lY)))
 (fin:∀h',I n h'->k (.int .i64 0) h'):
 Ct 178 [.slice b n c,.func (.func 187) #[f0] #[]] h k:=by
 obtain⟨A,hA⟩:=Ar.ex;have Bt:=(hq 0 h h0).bound;obtain⟨J,fD⟩:∃J:Nat->Int->ad->Prop,∀m z h',J m z h'=∃i,aO z i/\i<=n/\m=n-i/\I i h':=⟨_,fun _ _ _=>rfl⟩;have hJ:J n 0 h:=by rw[fD];exact⟨0,⟨rfl⟩,Nat.zero_le _,rfl,h0⟩
 refine af A (ar ED.aw ED.aZ) Tryz.func178 rfl (by kernel_rfl) ?_;cbv;refine aX.go (G:=Int) (fun z=>[(10,.v (.int .i64 z))]) (fun _=>[]) (fun m z h'=>J m z h') n 0 ⟨?_,?_,?_⟩ hJ ?_
 ·cbv
 ·cbv
 ·cbv
 ·intro m z h1 hI;rw[fD]at hI;cbv;obtain⟨i,hz,hi,hm,hI⟩:=hI;have f1:A .aD .lss z (A .nat n)=decide (i<n):=hz.gK (aO.nat n);rw[f1];by_cases aG:i<n
  ·obtain⟨x,hx⟩:=aE (xs:=xs) (i:=i) (by omega);have qs:=hq i h1 hI;have cT:b.isSome=true/\0<=z/\z<(n:Int):=⟨qs.bF (by omega),hz.ix aG⟩;have ir:=hz.eq;have dS:=hz.succ (A:=A) (by omega);have kC:n-(i+1)<m:=by omega
   have kU:∀h',I (i+1) h'->J (n-(i+1)) (A .bu .add .i64 z 1) h':=fun h' hh=>by rw[fD];exact⟨i+1,dS,aG,rfl,hh⟩
   have st:=step i x h1;clear fD hJ step fin hq;rw[decide_eq_true aG];cbv;refine⟨cT,?_⟩;cbv;refine sE qs hx ir (fun b1 n1 c1 hv=>?_);replace st:=st b1 n1 c1;obtain⟨xf,xe⟩:=x;cbv;refine(st aG hx hI hv).mono (fun r h2 hR=>?_);obtain⟨e,hr,kZ,oU⟩:=hR;subst hr;have fe:A .aD .neq e 0=decide (e≠0):=aC A ..;by_cases h0:e=0
   ·have dc:=kU h2 (kZ h0);clear kU kZ oU st;cbv;rw[fe,decide_eq_false (fun g=>g h0)];cbv;refine⟨n-(i+1),A .bu .add .i64 z 1,kC,⟨?_,?_,?_⟩,dc⟩
    ·cbv
    ·cbv
    ·cbv
   ·have ae:=oU h0;clear kU kZ oU st;cbv;rw[fe,decide_eq_true h0];cbv;exact ae
  ·have jA:i=n:=by omega
   subst jA;have ae:=fin h1 hI;clear fD hJ step fin hq;rw[decide_eq_false aG];cbv;exact ae
theorem zR{xs:List (dq)}{p0 p1 p2:Value}{h:ad}{b:Option Addr}{n c:Nat}(hn:n=xs.length)(I:Nat->ad->Prop)(h0:I 0 h)(hq:∀i h',I i h'->Sl 276 bV h' (.slice b n c) xs){k:Value->ad->Prop}
 (step:∀i x h' b1 n1 c1,i<n->xs[i]? =some x->I i h'->Sl 325 cP h' (.slice b1 n1 c1) x.e->Ct 198 [.agg #[.int .i64 x.fn,.slice b1 n1 c1],p0,p1,p2] h' (fun r lY=>∃e,r=.int .i64 e/\(e=0->I (i+1) lY)/\(e≠0->k (.int .i64 e) lY)))
 (fin:∀h',I n h'->k (.int .i64 0) h'):
 Ct 178 [.slice b n c,.func (.func 198) #[] #[p0,p1,p2]] h k:=by
 obtain⟨A,hA⟩:=Ar.ex;have Bt:=(hq 0 h h0).bound;obtain⟨J,fD⟩:∃J:Nat->Int->ad->Prop,∀m z h',J m z h'=∃i,aO z i/\i<=n/\m=n-i/\I i h':=⟨_,fun _ _ _=>rfl⟩;have hJ:J n 0 h:=by rw[fD];exact⟨0,⟨rfl⟩,Nat.zero_le _,rfl,h0⟩
 refine af A (ar ED.aw ED.aZ) Tryz.func178 rfl (by kernel_rfl) ?_;cbv;refine aX.go (G:=Int) (fun z=>[(10,.v (.int .i64 z))]) (fun _=>[]) (fun m z h'=>J m z h') n 0 ⟨?_,?_,?_⟩ hJ ?_
 ·cbv
 ·cbv
 ·cbv
 ·intro m z h1 hI;rw[fD]at hI;cbv;obtain⟨i,hz,hi,hm,hI⟩:=hI;have f1:A .aD .lss z (A .nat n)=decide (i<n):=hz.gK (aO.nat n);rw[f1];by_cases aG:i<n
  ·obtain⟨x,hx⟩:=aE (xs:=xs) (i:=i) (by omega);have qs:=hq i h1 hI;have cT:b.isSome=true/\0<=z/\z<(n:Int):=⟨qs.bF (by omega),hz.ix aG⟩;have ir:=hz.eq;have dS:=hz.succ (A:=A) (by omega);have kC:n-(i+1)<m:=by omega
   have kU:∀h',I (i+1) h'->J (n-(i+1)) (A .bu .add .i64 z 1) h':=fun h' hh=>by rw[fD];exact⟨i+1,dS,aG,rfl,hh⟩
   have st:=step i x h1;clear fD hJ step fin hq;rw[decide_eq_true aG];cbv;refine⟨cT,?_⟩;cbv;refine sE qs hx ir (fun b1 n1 c1 hv=>?_);replace st:=st b1 n1 c1;obtain⟨xf,xe⟩:=x;cbv;refine(st aG hx hI hv).mono (fun r h2 hR=>?_);obtain⟨e,hr,kZ,oU⟩:=hR;subst hr;have fe:A .aD .neq e 0=decide (e≠0):=aC A ..;by_cases h0:e=0
   ·have dc:=kU h2 (kZ h0);clear kU kZ oU st;cbv;rw[fe,decide_eq_false (fun g=>g h0)];cbv;refine⟨n-(i+1),A .bu .add .i64 z 1,kC,⟨?_,?_,?_⟩,dc⟩
    ·cbv
    ·cbv
    ·cbv
   ·have ae:=oU h0;clear kU kZ oU st;cbv;rw[fe,decide_eq_true h0];cbv;exact ae
  ·have jA:i=n:=by omega
   subst jA;have ae:=fin h1 hI;clear fD hJ step fin hq;rw[decide_eq_false aG];cbv;exact ae
def FL(p:Value):Sh Nat where
 n:=1
 R _ cs g:=cs=[.func (.func g) #[] #[p]]
 len:=by rintro h cs x rfl;rfl
 one:=by rintro h cs x rfl;rfl
 tys:=[]
 mono:=fun _ q=>q
theorem BB{p:Value}{xs:List (Nat)}{h:ad}{b:Option Addr}{n c:Nat}(hn:n=xs.length)(I:Nat->ad->Prop)(h0:I 0 h)(hq:∀i h',I i h'->Sl 173 (FL p) h' (.slice b n c) xs){k:Value->ad->Prop}
 (step:∀i x h',i<n->xs[i]? =some x->I i h'->True->Ct 184 [.func (.func x) #[] #[p]] h' (fun r lY=>∃e,r=.int .i64 e/\(e=0->I (i+1) lY)/\(e≠0->k (.int .i64 e) lY)))
 (fin:∀h',I n h'->k (.int .i64 0) h'):
 Ct 183 [.slice b n c,.func (.func 184) #[] #[]] h k:=by
 obtain⟨A,hA⟩:=Ar.ex;have Bt:=(hq 0 h h0).bound;obtain⟨J,fD⟩:∃J:Nat->Int->ad->Prop,∀m z h',J m z h'=∃i,aO z i/\i<=n/\m=n-i/\I i h':=⟨_,fun _ _ _=>rfl⟩;have hJ:J n 0 h:=by rw[fD];exact⟨0,⟨rfl⟩,Nat.zero_le _,rfl,h0⟩
 refine af A (ar Xa.aw Xa.aZ) Tryz.func183 rfl (by kernel_rfl) ?_;cbv;refine aX.go (G:=Int) (fun z=>[(10,.v (.int .i64 z))]) (fun _=>[]) (fun m z h'=>J m z h') n 0 ⟨?_,?_,?_⟩ hJ ?_
 ·cbv
 ·cbv
 ·cbv
 ·intro m z h1 hI;rw[fD]at hI;cbv;obtain⟨i,hz,hi,hm,hI⟩:=hI;have f1:A .aD .lss z (A .nat n)=decide (i<n):=hz.gK (aO.nat n);rw[f1];by_cases aG:i<n
  ·obtain⟨x,hx⟩:=aE (xs:=xs) (i:=i) (by omega);have qs:=hq i h1 hI;have cT:b.isSome=true/\0<=z/\z<(n:Int):=⟨qs.bF (by omega),hz.ix aG⟩;have ir:=hz.eq;have dS:=hz.succ (A:=A) (by omega);have kC:n-(i+1)<m:=by omega
   have kU:∀h',I (i+1) h'->J (n-(i+1)) (A .bu .add .i64 z 1) h':=fun h' hh=>by rw[fD];exact⟨i+1,dS,aG,rfl,hh⟩
   have st:=step i x h1;clear fD hJ step fin hq;rw[decide_eq_true aG];cbv;refine⟨cT,?_⟩;cbv;refine qs.load hx ir (fun cs aF=>?_);have aF:cs=[.func (.func x) #[] #[p]]:=aF;subst aF;have hv:=trivial;cbv;refine(st aG hx hI hv).mono (fun r h2 hR=>?_);obtain⟨e,hr,kZ,oU⟩:=hR;subst hr;have fe:A .aD .neq e 0=decide (e≠0):=aC A ..;by_cases h0:e=0
   ·have dc:=kU h2 (kZ h0);clear kU kZ oU st;cbv;rw[fe,decide_eq_false (fun g=>g h0)];cbv;refine⟨n-(i+1),A .bu .add .i64 z 1,kC,⟨?_,?_,?_⟩,dc⟩
    ·cbv
    ·cbv
    ·cbv
   ·have ae:=oU h0;clear kU kZ oU st;cbv;rw[fe,decide_eq_true h0];cbv;exact ae
  ·have jA:i=n:=by omega
   subst jA;have ae:=fin h1 hI;clear fD hJ step fin hq;rw[decide_eq_false aG];cbv;exact ae
theorem Ci{ex:List Nd}(hn:∀n∈ex,Nm n.name/\j8 n.v){cols:List bS}(hc:∀c∈cols,Nm c.name)(want:Int){h:ad}{eb:Option Addr}{en ec:Nat}(qe:Sl 325 cP h (.slice eb en ec) ex){cb:Option Addr}{cn cc:Nat}(qc:Sl 165 bp h (.slice cb cn cc) cols){k:Value->ad->Prop}
 (hk:∀h' e,Le h h'->e=iV ex cols want->k (.int .i64 e) h'):Ct 168 [.slice eb en ec,.slice cb cn cc,.int .i64 want] h k:=by
 obtain⟨A,hA⟩:=Ar.ex;have hP:iV ex cols want=match fK ex cols with
  | (k,f)=>if f=0/\k≠0/\k≠want then 3 else f:=rfl
 generalize iV ex cols want=D at *;refine af A (ar Xl.aw Xl.aZ) Tryz.func168 rfl (by kernel_rfl) ?_;cbv;refine I4 (fun n hh=>(hn n hh).1) hc qe qc (fun h1 kd e l1 eM=>?_);rw[<-eM]at hP;replace hP:D=if e=0/\kd≠0/\kd≠want then 3 else e:=hP
 have hk:=fun x hx=>hk h1 x l1 hx;clear eM;cbv;repeat' (refine aL (fun hc=>?_) (fun hc=>?_)<;>(try rw[hc])<;>cbv)
 all_goals
  refine hk _ ?_;simp only[av A,aC A,decide_eq_true_eq,decide_eq_false_iff_not]at *;rw[hP];first
   | (rw[if_pos ⟨by assumption,by assumption,by assumption⟩])
   | (rw[if_neg (by rintro⟨g1,g2,g3⟩;contradiction)])
theorem uC{ex:List Nd}(hn:∀n∈ex,Nm n.name/\j8 n.v){cols:List bS}(hc:∀c∈cols,Nm c.name){h:ad}{eb:Option Addr}{en ec:Nat}(qe:Sl 325 cP h (.slice eb en ec) ex){cb:Option Addr}{cn cc:Nat}(qc:Sl 165 bp h (.slice cb cn cc) cols){k:Value->ad->Prop}
 (hk:∀h' e,Le h h'->e=aK ex cols->k (.int .i64 e) h'):Ct 96 [.slice eb en ec,.slice cb cn cc] h k:=by
 obtain⟨A,hA⟩:=Ar.ex;have P8:=qe.len;have hP:aK ex cols=if ex.length=0 then 0 else iV ex cols 1:=rfl
 rw[<-P8]at hP;have f1:A .aD .eql (A .nat en) 0=decide (en=0):=by rw[av A,hA.nat,decide_eq_decide,Int.ofNat_eq_natCast];omega
 refine af A (ar T96.aw T96.aZ) Tryz.func96 rfl (by kernel_rfl) ?_;cbv;rw[f1];by_cases h0:en=0
 ·have ae:=hk h 0 (Le.refl _) (by rw[hP,if_pos h0]);clear hk hP;rw[decide_eq_true h0];cbv;exact ae
 ·rw[if_neg h0]at hP;rw[decide_eq_false h0];cbv;refine Ci hn hc 1 qe qc (fun h1 e l1 he=>?_);have ae:=hk h1 e l1 (he.trans hP.symm);clear hk hP he;cbv;exact ae
theorem Hx{ex:List Nd}(hn:∀n∈ex,Nm n.name/\j8 n.v){cols:List bS}(hc:∀c∈cols,Nm c.name){r:Row}(hr:∀v∈r,j8 v){h:ad}{eb:Option Addr}{en ec:Nat}(qe:Sl 325 cP h (.slice eb en ec) ex){cb:Option Addr}{cn cc:Nat}(qc:Sl 165 bp h (.slice cb cn cc) cols){rb:Option Addr}{rn rc:Nat}(qr:Sl 61 aY h (.slice rb rn rc) r){k:Value->ad->Prop}
 (hk:∀h' t e,Le h h'->(t,e)=eA ex cols r->k (.tuple #[.bool t,.int .i64 e]) h'):Ct 171 [.slice eb en ec,.slice cb cn cc,.slice rb rn rc] h k:=by
 obtain⟨A,hA⟩:=Ar.ex;have P8:=qe.len;have hP:eA ex cols r=if ex.length=0 then(true,0)else match eI ex cols r with
  | (v,f)=>(decide (v.k=1)&&decide (v.n=1),f):=rfl
 rw[<-P8]at hP;generalize eA ex cols r=D at *;have f1:A .aD .eql (A .nat en) 0=decide (en=0):=by rw[av A,hA.nat,decide_eq_decide,Int.ofNat_eq_natCast];omega
 refine af A (ar Xk.aw Xk.aZ) Tryz.func171 rfl (by kernel_rfl) ?_;cbv;rw[f1];by_cases h0:en=0
 ·have ae:=hk h true 0 (Le.refl _) (by rw[hP,if_pos h0]);clear hk hP;rw[decide_eq_true h0];cbv;exact ae
 ·rw[if_neg h0]at hP;rw[decide_eq_false h0];cbv;refine AD hn hc hr qe qc qr (fun h1 v e w l1 hv hw=>?_);rw[<-hv]at hP;replace hP:D=(decide (v.k=1)&&decide (v.n=1),e):=hP;have hk:=fun t ht=>hk h1 t e l1 ht;obtain⟨vk,vn,vs⟩:=v;subst hw;clear hv;cbv;repeat' (refine aL (fun hc=>?_) (fun hc=>?_)<;>(try rw[hc])<;>cbv)
  all_goals
   refine hk _ ?_;simp only[av A,decide_eq_true_eq,decide_eq_false_iff_not]at *;rw[hP];simp[*]
theorem gA.Yk{h h':ad}{v:Value}{d:DB}(q:gA h v d)(l:cG [51,165,59,61,55,148,161,205] h h'):gA h' v d:=by obtain⟨_,_,_,_,_,_,_,_,_,_,_,_,ws,rfl,q1,q2,q3,q4,q5⟩:=q.out;exact⟨_,_,_,_,_,_,_,_,_,_,_,_,ws,rfl,q1.mono (l.sub (by decide)),q2.mono (l.sub (by decide)),q3.mono (l.sub (by decide)),q4.mono (l.sub (by decide)),q5⟩
abbrev Fu:List Nat:=[51,165,59,61,55,148,161,205]
abbrev mh:List Nat:=[165,325,9,42,276]
structure iD(h:ad)(pb:Nat)(d:DB)(s:Int)(x:aA):Prop where
 out:∃b1 n1 c1 b2 n2 c2 b3 n3 c3 b4 n4 c4 b5 n5 c5 b6 n6 c6 b7 n7 c7 b8 n8 c8 b9 n9 c9 fJ iq fI,h pb=some (.cells #[.slice b1 n1 c1,.slice b2 n2 c2,.slice b3 n3 c3,.slice b4 n4 c4,.int .i64 s,.int .i64 x.kind,.string x.lM.name,.slice b5 n5 c5,.int .i64 x.lM.key,.bool x.lM.only,.string x.table,.string x.join,.slice b6 n6 c6,.slice b7 n7 c7,.slice b8 n8 c8,.slice b9 n9 c9,.slice fJ iq fI,.string x.group,.string x.order,.bool x.desc,.int .i64 x.gX,.string x.name] 101 (0,0))/\gA h (.agg #[.slice b1 n1 c1,.slice b2 n2 c2,.slice b3 n3 c3,.slice b4 n4 c4]) d/\Sl 165 bp h (.slice b5 n5 c5) x.lM.cols/\Sl 325 cP h (.slice b6 n6 c6) x.on/\Sl 9 cK h (.slice b7 n7 c7) x.names/\Sl 42 fX h (.slice b8 n8 c8) x.exprs/\Sl 276 bV h (.slice b9 n9 c9) x.items/\Sl 325 cP h (.slice fJ iq fI) x.bT
theorem iD.elim{h:ad}{pb:Nat}{d:DB}{s:Int}{x:aA}(q:iD h pb d s x){p:Prop}(k:∀b1 n1 c1 b2 n2 c2 b3 n3 c3 b4 n4 c4 b5 n5 c5 b6 n6 c6 b7 n7 c7 b8 n8 c8 b9 n9 c9 fJ iq fI,h pb=some (.cells #[.slice b1 n1 c1,.slice b2 n2 c2,.slice b3 n3 c3,.slice b4 n4 c4,.int .i64 s,.int .i64 x.kind,.string x.lM.name,.slice b5 n5 c5,.int .i64 x.lM.key,.bool x.lM.only,.string x.table,.string x.join,.slice b6 n6 c6,.slice b7 n7 c7,.slice b8 n8 c8,.slice b9 n9 c9,.slice fJ iq fI,.string x.group,.string x.order,.bool x.desc,.int .i64 x.gX,.string x.name] 101 (0,0))->gA h (.agg #[.slice b1 n1 c1,.slice b2 n2 c2,.slice b3 n3 c3,.slice b4 n4 c4]) d->Sl 165 bp h (.slice b5 n5 c5) x.lM.cols->Sl 325 cP h (.slice b6 n6 c6) x.on->Sl 9 cK h (.slice b7 n7 c7) x.names->Sl 42 fX h (.slice b8 n8 c8) x.exprs->Sl 276 bV h (.slice b9 n9 c9) x.items->Sl 325 cP h (.slice fJ iq fI) x.bT->p):p:=by obtain⟨b1,n1,c1,b2,n2,c2,b3,n3,c3,b4,n4,c4,b5,n5,c5,b6,n6,c6,b7,n7,c7,b8,n8,c8,b9,n9,c9,fJ,iq,fI,g,qd,q1,q2,q3,q4,q5,q6⟩:=q.out;exact k b1 n1 c1 b2 n2 c2 b3 n3 c3 b4 n4 c4 b5 n5 c5 b6 n6 c6 b7 n7 c7 b8 n8 c8 b9 n9 c9 fJ iq fI g qd q1 q2 q3 q4 q5 q6
theorem iD.lt{h h':ad}{pb:Nat}{d:DB}{s:Int}{x:aA}(q:iD h pb d s x)(hb:h' pb=h pb)(l:cG (Fu++mh) h h'):iD h' pb d s x:=by obtain⟨b1,n1,c1,b2,n2,c2,b3,n3,c3,b4,n4,c4,b5,n5,c5,b6,n6,c6,b7,n7,c7,b8,n8,c8,b9,n9,c9,fJ,iq,fI,g,qd,q1,q2,q3,q4,q5,q6⟩:=q.out;exact⟨b1,n1,c1,b2,n2,c2,b3,n3,c3,b4,n4,c4,b5,n5,c5,b6,n6,c6,b7,n7,c7,b8,n8,c8,b9,n9,c9,fJ,iq,fI,hb.trans g,qd.Yk (l.sub (by decide)),q1.mono (l.sub (by decide)),q2.mono (l.sub (by decide)),q3.mono (l.sub (by decide)),q4.mono (l.sub (by decide)),q5.mono (l.sub (by decide)),q6.mono (l.sub (by decide))⟩
theorem iD.mono{h h':ad}{pb:Nat}{d:DB}{s:Int}{x:aA}(q:iD h pb d s x)(l:Le h h'):iD h' pb d s x:=by refine q.lt ?_ (l.t _);obtain⟨b1,n1,c1,b2,n2,c2,b3,n3,c3,b4,n4,c4,b5,n5,c5,b6,n6,c6,b7,n7,c7,b8,n8,c8,b9,n9,c9,fJ,iq,fI,g,-⟩:=q.out;rw[g];exact l _ _ g
theorem iD.has{h:ad}{pb:Nat}{d:DB}{s:Int}{x:aA}(q:iD h pb d s x):∃c,h pb=some (.cells c 101 (0,0)):=by obtain⟨b1,n1,c1,b2,n2,c2,b3,n3,c3,b4,n4,c4,b5,n5,c5,b6,n6,c6,b7,n7,c7,b8,n8,c8,b9,n9,c9,fJ,iq,fI,g,-⟩:=q.out;exact⟨_,g⟩
theorem iD.kp{h h':ad}{pb:Nat}{d:DB}{s:Int}{x:aA}(q:iD h pb d s x)(k:Kp [pb] h h'){tys:List Nat}(ht:101∉tys):cG tys h h':=by obtain⟨c,g⟩:=q.has;exact k.y0 g ht
theorem iD.Oi{h h' h2:ad}{pb:Nat}{d d':DB}{s:Int}{x:aA}(q:iD h pb d s x)(l:Le h h'){b1:Option Addr}{n1 c1:Nat}{b2:Option Addr}{n2 c2:Nat}{b3:Option Addr}{n3 c3:Nat}{b4:Option Addr}{n4 c4:Nat}{c:List Value}
 (g:h' pb=some (.cells (List.toArray c) 101 (0,0))) (qd:gA h' (.agg #[.slice b1 n1 c1,.slice b2 n2 c2,.slice b3 n3 c3,.slice b4 n4 c4]) d') (e2:h2=aV h' pb (.cells (List.toArray (eE c 0 [.slice b1 n1 c1,.slice b2 n2 c2,.slice b3 n3 c3,.slice b4 n4 c4])) 101 (0,0))):iD h2 pb d' s x/\Kp [pb] h h2:=by
 have lt:cG (Fu++mh) h' h2:=by rw[e2];exact cG.set g (by decide)
 have RC:cG (Fu++mh) h h2:=(l.t _).trans lt;refine⟨?_,fun b o hb hn=>?_⟩
 ·obtain⟨b1x,n1x,c1x,b2x,n2x,c2x,b3x,n3x,c3x,b4x,n4x,c4x,Zh,Yi,Zc,Zg,Yh,Zb,Zf,Yg,Za,Ze,Yf,Y8,Zd,Ye,Y6,Mm,Km,Md,g0,_,q1,q2,q3,q4,q5,q6⟩:=q.out;have hc:=l _ _ g0;rw[g]at hc;cases hc;refine⟨b1,n1,c1,b2,n2,c2,b3,n3,c3,b4,n4,c4,Zh,Yi,Zc,Zg,Yh,Zb,Zf,Yg,Za,Ze,Yf,Y8,Zd,Ye,Y6,Mm,Km,Md,?_,qd.Yk (lt.sub (by decide)),q1.mono (RC.sub (by decide)),q2.mono (RC.sub (by decide)),q3.mono (RC.sub (by decide)),q4.mono (RC.sub (by decide)),q5.mono (RC.sub (by decide)),q6.mono (RC.sub (by decide))⟩;rw[e2,ah];rfl
 ·rw[e2,aU (by simpa using hn)];exact l _ _ hb
theorem MI{h:ad}{pb:Nat}{d:DB}{s:Int}{st:aA}(q:iD h pb d s st){n:Nat}(ok:uR n d)(kT:n<2^18)(nm:ByteArray)(x:Bool){k:Value->ad->Prop}
 (hk:∀h',Kp [pb] h h'->iD h' pb (ax d ⟨s,nm,x⟩).1 s st->k (.int .i64 (ax d ⟨s,nm,x⟩).2) h'):Ct 79 [.pointer (some ⟨pb,0,none⟩),.string nm,.bool x] h k:=by
 obtain⟨A,hA⟩:=Ar.ex;refine q.elim (fun b1 n1 c1 b2 n2 c2 b3 n3 c3 b4 n4 c4 b5 n5 c5 b6 n6 c6 b7 n7 c7 b8 n8 c8 b9 n9 c9 fJ iq fI g qd q1 q2 q3 q4 q5 q6=>?_);clear q1 q2 q3 q4 q5 q6;obtain⟨D,hD⟩:∃D,ax d ⟨s,nm,x⟩=D:=⟨_,rfl⟩;rw[hD]at hk;obtain⟨D1,De⟩:=D;replace hk:∀h',Kp [pb] h h'->iD h' pb D1 s st->k (.int .i64 De) h':=hk;have aV:∀ {h' h2:ad} {b1:Option Addr} {n1 c1:Nat} {b2:Option Addr} {n2 c2:Nat} {b3:Option Addr} {n3 c3:Nat} {b4:Option Addr} {n4 c4:Nat} {c:List Value},Le h h'->h' pb=some (.cells (List.toArray c) 101 (0,0))->gA h' (.agg #[.slice b1 n1 c1,.slice b2 n2 c2,.slice b3 n3 c3,.slice b4 n4 c4]) D1->h2=aV h' pb (.cells (List.toArray (eE c 0 [.slice b1 n1 c1,.slice b2 n2 c2,.slice b3 n3 c3,.slice b4 n4 c4])) 101 (0,0))->k (.int .i64 De) h2:=fun l g qd e2=>by
  have:=q.Oi l g qd e2;exact hk _ this.2 this.1
 clear hk;refine af A (ar T79.aw T79.aZ) Tryz.func79 rfl (by kernel_rfl) ?_;cbv;rw[aj A];refine ay g rfl rfl ?_;cbv;rw[aj A];refine ay g rfl rfl ?_;cbv;refine KZ qd ok kT s nm x hD ?_;intro h1 e1 m1 a1 e2 m2 a2 e3 m3 a3 e4 m4 a4 l1 yL;have g1:=l1 _ _ g;cbv;rw[aj A];refine kP g1 (by simp) (fun h2 Ay=>?_);have ae:=aV l1 g1 yL Ay;clear aV g1 Ay;cbv;exact ae
theorem gA.Sp{h:ad}{d:DB}{b1 b2 b3 b4:Option Addr}{n1 c1 n2 c2 n3 c3 n4 c4:Nat}(q:gA h (.agg #[.slice b1 n1 c1,.slice b2 n2 c2,.slice b3 n3 c3,.slice b4 n4 c4]) d):Sl 51 cJ h (.slice b1 n1 c1) d.aB:=by obtain⟨_,_,_,_,_,_,_,_,_,_,_,_,ws,he,q1,-⟩:=q.out;cases he;exact q1
theorem Uj{h:ad}{pb:Nat}{d:DB}{s:Int}{st:aA}(q:iD h pb d s st)(nm:ByteArray){k:Value->ad->Prop}
 (hk:∀T b1 n1 c1 b2 n2 c2,T=dG d nm->Sl 165 bp h (.slice b1 n1 c1) T.S.cols->Sl 59 aN h (.slice b2 n2 c2) T.rows->k (.agg #[.string T.S.name,.slice b1 n1 c1,.int .i64 T.S.key,.bool T.S.only,.slice b2 n2 c2]) h):
 Ct 84 [.pointer (some ⟨pb,0,none⟩),.string nm] h k:=by
 obtain⟨A,hA⟩:=Ar.ex;refine q.elim (fun b1 n1 c1 b2 n2 c2 b3 n3 c3 b4 n4 c4 b5 n5 c5 b6 n6 c6 b7 n7 c7 b8 n8 c8 b9 n9 c9 fJ iq fI g qd q1 q2 q3 q4 q5 q6=>?_);clear q1 q2 q3 q4 q5 q6;have qt:=qd.Sp;have ym:=qt.len;have hP:dG d nm=(d.aB.find? fun t=>decide (t.S.name=nm)).getD ⟨⟨b0,[],0,false⟩,[]⟩:=rfl;generalize dG d nm=D at *;obtain⟨R,hR⟩:∃R,d.aB.find? (fun t=>decide (t.S.name=nm))=R:=⟨_,rfl⟩;rw[hR]at hP;obtain⟨I,bm⟩:∃I:Nat->Int->ad->Prop,∀m z h',I m z h'=∃i,aO z i/\i<=n1/\m=n1-i/\h'=h/\(d.aB.drop i).find? (fun t=>decide (t.S.name=nm))=R:=⟨_,fun _ _ _=>rfl⟩;have hJ:I n1 0 h:=by rw[bm];exact⟨0,⟨rfl⟩,Nat.zero_le _,rfl,rfl,hR⟩
 refine af A (ar T84.aw T84.aZ) Tryz.func84 rfl (by kernel_rfl) ?_;cbv;rw[aj A,aj A];refine ay g rfl rfl ?_;cbv;refine aX.go (G:=Int) (fun z=>[(13,.v (.int .i64 z))]) (fun _=>[(4,[.string ⟨#[]⟩,.slice none 0 0,.int .i64 0,.bool false,.slice none 0 0])]) (fun m z h'=>I m z h') n1 0 ⟨?_,?_,?_⟩ hJ ?_
 ·cbv
 ·cbv
 ·cbv
 ·intro m z h1 hI;rw[bm]at hI;cbv;obtain⟨i,hz,hi,hm,e',he⟩:=hI;subst e';have f1:A .aD .lss z (A .nat n1)=decide (i<n1):=hz.gK (aO.nat n1);rw[f1];by_cases aG:i<n1
  ·obtain⟨t,ht⟩:=aE (xs:=d.aB) (i:=i) (by omega);have hd:d.aB.drop i=t::d.aB.drop (i+1):=by obtain⟨h1,h2⟩:=List.getElem?_eq_some_iff.1 ht;rw[List.drop_eq_getElem_cons h1,h2]
   rw[hd,List.find?_cons]at he;have cT:b1.isSome=true/\0<=z/\z<(n1:Int):=⟨qt.bF (by omega),hz.ix aG⟩;have ir:=hz.eq;have dS:=hz.succ (A:=A) (by have:=qt.bound;omega);have kC:n1-(i+1)<m:=by omega
   have dc:(d.aB.drop (i+1)).find? (fun t=>decide (t.S.name=nm))=R->I (n1-(i+1)) (A .bu .add .i64 z 1) h1:=fun e=>by rw[bm];exact⟨i+1,dS,aG,rfl,rfl,e⟩
   clear bm hJ hR hd;rw[decide_eq_true aG];cbv;refine⟨cT,?_⟩;cbv;refine xE qt ht ir (fun t1 m1 k1 t2 m2 k2 r1 r2=>?_);have fn:A .jm .eql t.S.name nm=decide (t.S.name=nm):=bL A ..;by_cases hn:t.S.name=nm
   ·rw[decide_eq_true hn]at he;have he:some t=R:=he;rw[<-he]at hP;have hP:D=t:=hP;have ae:=hk t t1 m1 k1 t2 m2 k2 hP.symm r1 r2;rw[decide_eq_true hn]at fn;obtain⟨⟨tn,tc,tk,to⟩,tr⟩:=t;clear hk dc hP;cbv;rw[fn];cbv;exact ae
   ·rw[decide_eq_false hn]at he;have Cx:=dc he;rw[decide_eq_false hn]at fn;obtain⟨⟨tn,tc,tk,to⟩,tr⟩:=t;clear hk dc hP;cbv;rw[fn];cbv;refine⟨n1-(i+1),A .bu .add .i64 z 1,kC,⟨?_,?_,?_⟩,Cx⟩
    ·cbv
    ·cbv
    ·cbv
  ·rw[List.drop_of_length_le (by omega)]at he;have he:none=R:=he;rw[<-he]at hP;have hP:D=⟨⟨b0,[],0,false⟩,[]⟩:=hP;have ae:=hk ⟨⟨b0,[],0,false⟩,[]⟩ none 0 0 none 0 0 hP.symm Sl.nil Sl.nil;clear hk hP bm hJ;rw[decide_eq_false aG];cbv;exact ae
theorem sN(cols:List bS)(r:Row)(x:List Nd)(xs:List (List Nd))(l:Row):mP cols r (x::xs) l=match eI x cols r with
 | (v,f)=>if f≠0 then([],f)else mP cols r xs (l++[v]):=rfl
theorem vW{cols:List bS}{r:Row}(hr:∀v∈r,j8 v):∀ {ex:List Nd} {l m:List cR},(∀n∈ex,j8 n.v)->(∀v∈l,j8 v)->fY cols r ex l=some m->∀v∈m,j8 v
 | [],l,m,_,hl,h=>by cases h;exact hl
 |n::e,l,m,hn,hl,h=>by
  rw[mV]at h;cases hw:mW n l cols r with
  |none=>rw[hw]at h;cases h
  |some w=>
   rw[hw]at h;refine vW hr (fun n hh=>hn n (List.mem_cons_of_mem _ hh)) (fun v hv=>?_) h;rcases List.mem_append.1 hv with hv|hv
   ·exact hl v hv
   ·rcases List.mem_cons.1 hv with hv|hv
    ·rw[hv];exact yR (hn n List.mem_cons_self) hl hr hw
    ·cases hv
theorem GJ{l:List cR}(hl:∀v∈l,j8 v):j8 (oA l):=by
 unfold oA;cases h:l.getLast? with
 |none=>exact mg
 |some x=>exact hl x (List.mem_of_getLast? h)
theorem EC{ex:List Nd}{cols:List bS}{r:Row}{v:cR}{e:Int}(hn:∀n∈ex,j8 n.v)(hr:∀v∈r,j8 v)(h:eI ex cols r=(v,e)):j8 v:=by
 unfold eI at h;generalize fK ex cols=kd at h;obtain⟨k,f⟩:=kd;have h:(if f≠0 then(v0,f)else match fY cols r ex []with
  |some l=>(oA l,0)
  |none=>(v0,11))=(v,e):=h
 by_cases hf:f≠0
 ·rw[if_pos hf]at h;cases h;exact mg
 ·rw[if_neg hf]at h;cases hm:fY cols r ex []with
  |none=>rw[hm]at h;cases h;exact mg
  |some l=>rw[hm]at h;cases h;exact GJ (vW hr hn (fun _ hv=>by cases hv) hm)
structure EE(B h:ad)(ob:Nat)(l:Row):Prop where
 out:∃b n c,h ob=some (.cells #[.slice b n c] 59 (0,0))/\cS 61 aY B h (.slice b n c) l
 le:Le B h
 no:B ob=none
theorem Ff{ex:List Nd}(hn:∀n∈ex,Nm n.name/\j8 n.v){cols:List bS}(hc:∀c∈cols,Nm c.name){r:Row}(hr:∀v∈r,j8 v){B h:ad}{ob:Nat}{l:Row}(qo:EE B h ob l)(hl:l.length<=2^30)
 {xb:Option Addr} {xn xc:Nat} (qe:Sl 325 cP h (.slice xb xn xc) ex)
 {cb cn cc} {cp:Nat} (gc:B cp=some (.cells #[.slice cb cn cc] 38 (0,0))) (qc:Sl 165 bp B (.slice cb cn cc) cols) {rb rn rc} {rp:Nat} (gr:B rp=some (.cells #[.slice rb rn rc] 59 (0,0))) (qr:Sl 61 aY B (.slice rb rn rc) r) {k:Value->ad->Prop}
 (hk:∀h' v e,EE B h' ob (l++[v])->(v,e)=eI ex cols r->k (.int .i64 e) h'):
 Ct 162 [.slice xb xn xc,.pointer (some ⟨cp,0,none⟩),.pointer (some ⟨rp,0,none⟩),.pointer (some ⟨ob,0,none⟩)] h k:=by
 obtain⟨A,hA⟩:=Ar.ex;have l0:=qo.le;have fQ:=qo.no;obtain⟨b,n,c,go,qb⟩:=qo.out;have Bs:=qb.sl.len;have Qt:=l0 _ _ gc;have Cz:=l0 _ _ gr;refine af A (ar Xp.aw Xp.aZ) Tryz.func162 rfl (by kernel_rfl) ?_;cbv;refine ay Qt rfl rfl ?_;cbv;refine ay Cz rfl rfl ?_;cbv;refine AD hn hc hr qe (qc.mono (l0.t _)) (qr.mono (l0.t _)) (fun h1 v e w l1 hv hw=>?_);obtain⟨vk,vn,vs⟩:=v;subst hw;have Qs:=l1 _ _ go;cbv;refine ay Qs rfl rfl ?_;cbv;intro n2 h2 g2 e2;have l2:Le h1 h2:=by rw[e2];exact Le.set g2
 have v2:Sl 61 aY h2 (.slice (some ⟨n2,0,none⟩) 1 1) [⟨vk,vn,vs⟩]:=bX (s:=aY) ((congrFun e2 n2).trans ah) rfl;have go2:=l2 _ _ Qs;clear e2;cbv;refine(qb.mono ((l1.trans l2).t _)).append v2 (by decide) rfl (by decide) (by omega) (l0.trans (l1.trans l2)) (fun m3 b3 c3 h3 Va l3 t3 k3 nk=>?_);have Qr:h3 ob=some (.cells #[.slice b n c] 59 (0,0)):=t3 [59] (by decide) _ _ _ _ (List.mem_singleton.2 rfl) go2;clear t3 k3 v2;cbv;refine kP Qr (by simp) (fun h4 e4=>?_);have ae:=hk h4 ⟨vk,vn,vs⟩ e ⟨⟨b3,m3,c3,by rw[e4];exact ah,nk.mono (by rw[e4];exact cG.set Qr (by decide))⟩,fun b' o' oC=>by rw[e4,aU (fun e=>by rw[e,fQ]at oC;cases oC)];exact l3 _ _ oC,fQ⟩ hv;clear hk e4;cbv;exact ae
theorem JI{xs:List (List Nd)}(hn:∀ex∈xs,∀n∈ex,Nm n.name/\j8 n.v){cols:List bS}(hc:∀c∈cols,Nm c.name){r:Row}(hr:∀v∈r,j8 v)(xJ:xs.length<=2^20){h:ad}
 {xb:Option Addr} {xn xc:Nat} (qe:Sl 42 fX h (.slice xb xn xc) xs) {cb:Option Addr} {cn cc:Nat} (qc:Sl 165 bp h (.slice cb cn cc) cols) {rb:Option Addr} {rn rc:Nat} (qr:Sl 61 aY h (.slice rb rn rc) r) {k:Value->ad->Prop}
 (hk:∀h' b n c l e,Le h h'->(l,e)=bE xs cols r->cS 61 aY h h' (.slice b n c) l->(∀v∈l,j8 v)->k (.tuple #[.slice b n c,.int .i64 e]) h'):
 Ct 82 [.slice xb xn xc,.slice cb cn cc,.slice rb rn rc] h k:=by
 obtain⟨A,hA⟩:=Ar.ex;have KT:=qe.len;have hP:bE xs cols r=mP cols r xs []:=rfl;generalize bE xs cols r=D at *;refine af A (ar T82.aw T82.aZ) Tryz.func82 rfl (by kernel_rfl) ?_;cbv;intro cp h1 g1 e1;have l1:Le h h1:=by rw[e1];exact Le.set g1
 have gc1:h1 cp=some (.cells #[.slice cb cn cc] 38 (0,0)):=by rw[e1];exact ah
 clear e1;cbv;intro rp h2 g2 e2;have l2:Le h1 h2:=by rw[e2];exact Le.set g2
 have UO:h2 rp=some (.cells #[.slice rb rn rc] 59 (0,0)):=by rw[e2];exact ah
 clear e2;cbv;intro ob h3 g3 e3;have l3:Le h2 h3:=by rw[e3];exact Le.set g3
 have Qr:h3 ob=some (.cells #[.slice none 0 0] 59 (0,0)):=by rw[e3];exact ah
 have lT:=l1.trans l2;have lB:Le h2 (Sx.cQ h3 ob):=fun b o hb=>by
  rw[Sx.eF (fun e=>by rw[e,g3]at hb;cases hb)];exact l3 _ _ hb
 clear e3;obtain⟨B,hB⟩:∃B,B=Sx.cQ h3 ob:=⟨_,rfl⟩;rw[<-hB]at lB;have hB3:Le B h3:=by rw[hB];exact Sx.fh h3 ob
 have UH:B ob=none:=by rw[hB];exact Sx.dP h3 ob
 have DJ:Le h B:=lT.trans lB;obtain⟨I,bm⟩:∃I:Nat->ad->Prop,∀i h',I i h'=∃l,EE B h' ob l/\l.length=i/\(∀v∈l,j8 v)/\mP cols r (xs.drop i) l=D:=⟨_,fun _ _=>rfl⟩;have hJ:I 0 h3:=by rw[bm];exact⟨[],⟨⟨none,0,0,Qr,cS.nil⟩,hB3,UH⟩,rfl,(fun _ hv=>by cases hv),hP.symm⟩
 clear hB;cbv;refine zQ KT I hJ (fun i h' hI=>?_) (fun i x h' b1 n1 c1 hi hx hI hv=>?_) (fun h' hI=>?_)
 ·rw[bm]at hI;obtain⟨l,qo,-⟩:=hI;exact qe.mono ((DJ.trans qo.le).t _)
 ·rw[bm]at hI;obtain⟨l,qo,Jg,rF,he⟩:=hI;have hd:xs.drop i=x::xs.drop (i+1):=by obtain⟨h1,h2⟩:=List.getElem?_eq_some_iff.1 hx;rw[List.drop_eq_getElem_cons h1,h2]
  rw[hd,sN]at he;have Yw:=List.mem_of_getElem? hx;refine Ff (hn x Yw) hc hr qo (by omega) hv (lB _ _ (l2 _ _ gc1)) (qc.mono (DJ.t _)) (lB _ _ UO) (qr.mono (DJ.t _)) (fun h4 v e EI hve=>⟨e,rfl,fun h0=>?_,fun h0=>?_⟩)
  ·rw[<-hve]at he;have he:(if e≠0 then([],e)else mP cols r (xs.drop (i+1)) (l++[v]))=D:=he;rw[if_neg (by simpa using h0)]at he;rw[bm];refine⟨l++[v],EI,by rw[List.length_append,List.length_singleton,Jg],fun y hy=>?_,he⟩;rcases List.mem_append.1 hy with hy|hy
   ·exact rF y hy
   ·rcases List.mem_cons.1 hy with hy|hy
    ·rw[hy];exact EC (fun n hh=>(hn x Yw n hh).2) hr hve.symm
    ·cases hy
  ·rw[<-hve]at he;have he:(if e≠0 then([],e)else mP cols r (xs.drop (i+1)) (l++[v]))=D:=he;rw[if_pos h0]at he;have ae:=hk h4 none 0 0 [] e (DJ.trans EI.le) he cS.nil (fun _ hv=>by cases hv);have fe:A .aD .neq e 0=true:=by rw[aC A];exact decide_eq_true h0
   clear hk bm;cbv;rw[fe];cbv;exact ae
 ·rw[bm]at hI;obtain⟨l,qo,Jg,rF,he⟩:=hI;rw[List.drop_of_length_le (by omega)]at he;have he:(l,0)=D:=he;have l0:=qo.le;obtain⟨b,n,c,go,qb⟩:=qo.out;have Bs:=qb.sl.len;have f0:A .aD .neq 0 0=false:=by rw[aC A];rfl
  have hk:=fun h' b n c l1=>hk h' b n c l 0 l1 he;clear bm;cbv;rw[f0];cbv;refine ay go rfl rfl ?_;cbv;refine(wG qb.sl).mono (fun v h5 hR=>?_);obtain⟨l5,b',c',hv,oC⟩:=hR;subst hv;have ae:=hk h5 b' n c' (DJ.trans (l0.trans l5)) (oC.base (DJ.trans l0)) rF;clear hk;cbv;exact ae
def nD(ex:List Nd):Prop:=∀n∈ex,Nm n.name/\j8 n.v
structure gy(x:aA):Prop where
 on:nD x.on
 bT:nD x.bT
 exprs:∀e∈x.exprs,nD e
 items:∀i∈x.items,nD i.e
 len:x.exprs.length<=2^20
 names:x.kind=4->x.exprs.length=x.names.length
 group:Nm x.group
 order:Nm x.order
 ilen:x.items.length<=2^20
 nlen:x.names.length<=2^20
theorem JH{h:ad}{pb:Nat}{d d0:DB}{s:Int}{st:aA}(q:iD h pb d s st){eb db wb:Nat}{e:Int}(ge:h eb=some (.cells #[.int .i64 e] 35 (0,0))){b1 b2 b3 b4:Option Addr}{n1 c1 n2 c2 n3 c3 n4 c4:Nat}(gd:h db=some (.cells #[.slice b1 n1 c1,.slice b2 n2 c2,.slice b3 n3 c3,.slice b4 n4 c4] 32 (0,0)))(qd:gA h (.agg #[.slice b1 n1 c1,.slice b2 n2 c2,.slice b3 n3 c3,.slice b4 n4 c4]) d0)
 (gw:h wb=some (.cells #[.pointer (some ⟨pb,0,none⟩)] 99 (0,0))):X2 160 [.pointer (some ⟨eb,0,none⟩),.pointer (some ⟨db,0,none⟩),.pointer (some ⟨wb,0,none⟩)] h (fun _ h'=>Kp [pb] h h'/\iD h' pb (if e≠0 then d0 else d) s st):=by
 obtain⟨A,hA⟩:=Ar.ex;have fe:A .aD .neq e 0=decide (e≠0):=aC A ..;refine nP A (ar Xr.aw Xr.aZ) Tryz.func160 rfl (by kernel_rfl) ?_;cbv;refine ay ge rfl rfl ?_;cbv;rw[fe];by_cases h0:e≠0
 ·obtain⟨c,gp⟩:=q.has;rw[decide_eq_true h0];cbv;refine ay gw rfl rfl ?_;cbv;refine ay gd rfl rfl ?_;cbv;rw[aj A];obtain⟨c⟩:=c;have hc:4<=c.length:=by refine q.elim (fun b1x n1x c1x b2x n2x c2x b3x n3x c3x b4x n4x c4x Zh Yi Zc Zg Yh Zb Zf Yg Za Ze Yf Y8 Zd Ye Y6 Mm Km Md g qd q1 q2 q3 q4 q5 q6=>?_);rw[gp]at g;cases g;show 4<=22;omega
  refine kP gp (by simpa using hc) (fun h2 e2=>?_);have ae:=q.Oi (Le.refl h) gp qd e2;clear e2;cbv;rw[if_pos h0];exact⟨ae.2,ae.1⟩
 ·rw[decide_eq_false h0];cbv;rw[if_neg h0];exact⟨Kp.refl _ _,q⟩
theorem Fc{p0:Value}{h:ad}{pb:Nat}{d:DB}{s:Int}{st:aA}(q:iD h pb d s st){D:DB×Int}
 (step:∀h1,Le h h1->iD h1 pb d s st->Ct 81 [p0] h1 (fun r h2=>r=.int .i64 D.2/\Kp [pb] h1 h2/\iD h2 pb D.1 s st)) {k:Value->ad->Prop}
 (hk:∀h',Kp [pb] h h'->iD h' pb (cY d D).1 s st->k (.tuple #[.slice none 0 0,.int .i64 (cY d D).2.2]) h'):Ct 80 [.pointer (some ⟨pb,0,none⟩),.func (.func 81) #[] #[p0]] h k:=by
 obtain⟨A,hA⟩:=Ar.ex;have zp:(cY d D).1=if D.2≠0 then d else D.1:=by unfold cY;by_cases c:D.2≠0<;>simp[c]
 have tR:(cY d D).2.2=D.2:=by unfold cY;by_cases c:D.2=0<;>simp[c]
 rw[zp,tR]at hk;obtain⟨D1,De⟩:=D;replace hk:∀h',Kp [pb] h h'->iD h' pb (if De≠0 then d else D1) s st->k (.tuple #[.slice none 0 0,.int .i64 De]) h':=hk;replace step:∀h1,Le h h1->iD h1 pb d s st->Ct 81 [p0] h1 (fun r h2=>r=.int .i64 De/\Kp [pb] h1 h2/\iD h2 pb D1 s st):=step;clear zp tR;obtain⟨cp,hp⟩:=q.has;refine lA A (ar T80.aw T80.aZ) Tryz.func80 rfl (by kernel_rfl) ?_;cbv;intro wb h1 g1 e1;have l1:Le h h1:=by rw[e1];exact Le.set g1
 have vr:h1 wb=some (.cells #[.pointer (some ⟨pb,0,none⟩)] 99 (0,0)):=by rw[e1];exact ah
 have nw:wb≠pb:=fun e=>by rw[e,hp]at g1;cases g1
 clear e1;cbv;intro eb h2 g2 e2;have l2:Le h1 h2:=by rw[e2];exact Le.set g2
 have ge2:h2 eb=some (.cells #[.int .i64 0] 35 (0,0)):=by rw[e2];exact ah
 have ne:eb≠pb:=fun e=>by rw[e,l1 _ _ hp]at g2;cases g2
 have new:eb≠wb:=fun e=>by rw[e,vr]at g2;cases g2
 have ge0:h eb=none:=by
  cases hh:h eb with
  |none=>rfl
  |some o=>rw[l1 _ _ hh]at g2;cases g2
 clear e2;refine(q.mono (l1.trans l2)).elim (fun b1 n1 c1 b2 n2 c2 b3 n3 c3 b4 n4 c4 b5 n5 c5 b6 n6 c6 b7 n7 c7 b8 n8 c8 b9 n9 c9 fJ iq fI g qd q1 q2 q3 q4 q5 q6=>?_);clear q1 q2 q3 q4 q5 q6;have Bv:=l2 _ _ vr;cbv;refine ay Bv rfl rfl ?_;cbv;rw[aj A];refine ay g rfl rfl ?_;cbv;intro db h3 g3 e3;have l3:Le h2 h3:=by rw[e3];exact Le.set g3
 have gd3:h3 db=some (.cells #[.slice none 0 0,.slice none 0 0,.slice none 0 0,.slice none 0 0] 32 (0,0)):=by rw[e3];exact ah
 have ndp:db≠pb:=fun e=>by rw[e,g]at g3;cases g3
 have nde:db≠eb:=fun e=>by rw[e,ge2]at g3;cases g3
 have ndw:db≠wb:=fun e=>by rw[e,Bv]at g3;cases g3
 have Yo:Le h h2:=l1.trans l2;have hd0:h db=none:=by
  cases hh:h db with
  |none=>rfl
  |some o=>rw[Yo _ _ hh]at g3;cases g3
 clear e3;cbv;refine kP gd3 (by simp) (fun h4 e4=>?_);have gd4:h4 db=some (.cells #[.slice b1 n1 c1,.slice b2 n2 c2,.slice b3 n3 c3,.slice b4 n4 c4] 32 (0,0)):=by rw[e4];exact ah
 have l4:Le h2 h4:=fun b o hb=>by rw[e4,aU (fun e=>by rw[e,g3]at hb;cases hb)];exact l3 _ _ hb
 have ge4:=l4 _ _ ge2;have R3:=l4 _ _ Bv;have rD:=Yo.trans l4;have qd4:=qd.mono l4;clear e4 gd3 l3;cbv;refine(step h4 rD (q.mono rD)).mono (fun r h5 hR=>?_);obtain⟨hr,O6,q5⟩:=hR;subst hr;have yX:∀tys,101∉tys->cG tys h4 h5:=fun tys ht=>(q.mono rD).kp O6 ht;have gd5:=O6 _ _ gd4 (by simpa using ndp);have ge5:=O6 _ _ ge4 (by simpa using ne);have UL:=O6 _ _ R3 (by simpa using nw);have qd5:=qd4.Yk (yX _ (by decide));clear step;cbv;refine kP ge5 (by simp) (fun h6 e6=>?_);have Kr:∀tys,35∉tys->cG tys h5 h6:=fun tys ht=>by rw[e6];exact cG.set ge5 ht
 have ge6:h6 eb=some (.cells #[.int .i64 De] 35 (0,0)):=by rw[e6];exact ah
 have gd6:h6 db=some (.cells #[.slice b1 n1 c1,.slice b2 n2 c2,.slice b3 n3 c3,.slice b4 n4 c4] 32 (0,0)):=by rw[e6,aU nde];exact gd5
 have gw6:h6 wb=some (.cells #[.pointer (some ⟨pb,0,none⟩)] 99 (0,0)):=by rw[e6,aU (Ne.symm new)];exact UL
 have q6:iD h6 pb D1 s st:=q5.lt (by rw[e6,aU (Ne.symm ne)]) (Kr _ (by decide));have qd6:=qd5.Yk (Kr _ (by decide));have RF:Kp [pb] h h6:=fun b o hb hn=>by
  rw[e6,aU (fun e=>by rw[e,ge0]at hb;cases hb)];exact O6 _ _ (rD _ _ hb) hn
 clear e6;cbv;refine(JH q6 ge6 gd6 qd6 gw6).mono (fun v h7 hR=>?_);obtain⟨Yr,q7⟩:=hR;have ae:=hk h7 (RF.trans Yr) q7;have ge7:=Yr _ _ ge6 (by simpa using ne);clear hk;cbv;refine ay ge7 rfl rfl ?_;cbv;exact ae
theorem G5{h:ad}{pb:Nat}{d:DB}{s:Int}{st:aA}(q:iD h pb d s st)(hx:gy st){n:Nat}(ok:uR n d)(kT:n<2^18)(nN:-2^63<=s/\s<2^63){wb:Nat}(gw:h wb=some (.cells #[.pointer (some ⟨pb,0,none⟩)] 99 (0,0)))
 {D:DB×Int} (hD:D=match bE st.exprs [] []with
  | (r,e)=>if e≠0 then(d,e)else ff d s st.table r) {k:Value->ad->Prop} (hk:∀h',Kp [pb] h h'->iD h' pb D.1 s st->k (.int .i64 D.2) h'):
 Ct 81 [.pointer (some ⟨wb,0,none⟩)] h k:=by
 obtain⟨A,hA⟩:=Ar.ex;refine q.elim (fun b1 n1 c1 b2 n2 c2 b3 n3 c3 b4 n4 c4 b5 n5 c5 b6 n6 c6 b7 n7 c7 b8 n8 c8 b9 n9 c9 fJ iq fI g qd q1 q2 q3 q4 q5 q6=>?_);clear q1 q2 q3 q5 q6;obtain⟨D1,De⟩:=D;replace hk:∀h',Kp [pb] h h'->iD h' pb D1 s st->k (.int .i64 De) h':=hk;refine af A (ar T81.aw T81.aZ) Tryz.func81 rfl (by kernel_rfl) ?_;cbv;refine ay gw rfl rfl ?_;cbv;rw[aj A,aj A];refine ay g rfl rfl ?_;cbv;refine JI hx.exprs (cols:=[]) (fun _ hc=>by cases hc) (r:=[]) (fun _ hv=>by cases hv) hx.len q4 Sl.nil Sl.nil (fun h1 b m c l e l1 hv qb il=>?_);rw[<-hv]at hD;replace hD:(D1,De)=if e≠0 then(d,e)else ff d s st.table l:=hD
 have fe:A .aD .eql e 0=decide (e=0):=av A ..;have vr:=l1 _ _ gw;have g1:=l1 _ _ g;by_cases h0:e=0
 ·rw[if_neg (fun g=>g h0)]at hD;have aV:∀ {h' h2:ad} {b1:Option Addr} {n1 c1:Nat} {b2:Option Addr} {n2 c2:Nat} {b3:Option Addr} {n3 c3:Nat} {b4:Option Addr} {n4 c4:Nat} {c:List Value},Le h h'->h' pb=some (.cells (List.toArray c) 101 (0,0))->gA h' (.agg #[.slice b1 n1 c1,.slice b2 n2 c2,.slice b3 n3 c3,.slice b4 n4 c4]) D1->h2=aV h' pb (.cells (List.toArray (eE c 0 [.slice b1 n1 c1,.slice b2 n2 c2,.slice b3 n3 c3,.slice b4 n4 c4])) 101 (0,0))->k (.int .i64 De) h2:=fun l g qd e2=>by
   have:=q.Oi l g qd e2;exact hk _ this.2 this.1
  clear hk;cbv;rw[fe,decide_eq_true h0];cbv;refine ay vr rfl rfl ?_;cbv;refine ay vr rfl rfl ?_;cbv;try rw[aj A]
  refine ay g1 rfl rfl ?_;cbv;refine ay vr rfl rfl ?_;cbv;try rw[aj A]
  refine ay g1 rfl rfl ?_;cbv;refine ay vr rfl rfl ?_;cbv;first|rw[aj A,aj A] |rw[aj A] |skip
  refine ay g1 rfl rfl ?_;cbv;refine OG (qd.mono l1) ok kT s nN st.table qb.sl hD.symm ?_;intro h2 e1 m1 a1 e2 m2 a2 e3 m3 a3 e4 m4 a4 l2 yL;have g2:=l2 _ _ g1;have Bv:=l2 _ _ vr;cbv;refine ay Bv rfl rfl ?_;cbv;refine⟨⟨_,rfl,rfl⟩,?_⟩;cbv;try rw[aj A]
  refine kP g2 (by simp) (fun h3 R9=>?_);have ae:=aV (l1.trans l2) g2 yL R9;clear aV g2 R9;cbv;exact ae
 ·rw[if_pos h0]at hD;cases hD;have ae:=hk h1 (l1.kp _) (q.mono l1);clear hk;cbv;rw[fe,decide_eq_false h0];cbv;exact ae
theorem KE{h:ad}{pb:Nat}{d:DB}{s:Int}{st:aA}(q:iD h pb d s st)(hx:gy st){n:Nat}(ok:SJ n d)(kT:n+2<2^18)(nN:-2^63<=s/\s<2^63){k:Value->ad->Prop}
 (hk:∀h',Kp [pb] h h'->iD h' pb (iW d s st).1 s st->k (.tuple #[.slice none 0 0,.int .i64 (iW d s st).2.2]) h'):
 Ct 41 [.pointer (some ⟨pb,0,none⟩)] h k:=by
 obtain⟨A,hA⟩:=Ar.ex;have hP:iW d s st=match ax d ⟨s,st.table,true⟩with
  | (d,e)=>if e≠0 then(d,[],e)else cY d (match bE st.exprs [] []with
   | (r,e)=>if e≠0 then(d,e)else ff d s st.table r):=rfl
 generalize iW d s st=D at *;have sj:=su ok ⟨s,st.table,true⟩ nN;obtain⟨c,hp⟩:=q.has;refine q.elim (fun b1 n1 c1 b2 n2 c2 b3 n3 c3 b4 n4 c4 b5 n5 c5 b6 n6 c6 b7 n7 c7 b8 n8 c8 b9 n9 c9 fJ iq fI g qd q1 q2 q3 q4 q5 q6=>?_);clear q1 q2 q3 q4 q5 q6;refine af A (ar T41.aw T41.aZ) Tryz.func41 rfl (by kernel_rfl) ?_;cbv;intro wb h1 gn e1;have l1:Le h h1:=by rw[e1];exact Le.set gn
 have vr:h1 wb=some (.cells #[.pointer (some ⟨pb,0,none⟩)] 99 (0,0)):=by rw[e1];exact ah
 have nw:wb≠pb:=fun e=>by rw[e,hp]at gn;cases gn
 have g1:=l1 _ _ g;clear e1;cbv;refine ay vr rfl rfl ?_;cbv;refine ay vr rfl rfl ?_;cbv;first|rw[aj A,aj A] |rw[aj A] |skip
 refine ay g1 rfl rfl ?_;cbv;refine MI (q.mono l1) ok.DE (by omega) st.table true (fun h2 k2 q2=>?_);generalize ax d ⟨s,st.table,true⟩=H at *;obtain⟨d1,e⟩:=H;replace q2:iD h2 pb d1 s st:=q2;replace sj:SJ (n+1) d1:=sj;replace hP:D=if e≠0 then(d1,[],e)else cY d1 (match bE st.exprs [] []with
  | (r,e)=>if e≠0 then(d1,e)else ff d1 s st.table r):=hP
 have fe:A .aD .neq e 0=decide (e≠0):=aC A ..;have k02:Kp [pb] h h2:=(l1.kp _).trans k2;have Bv:=k2 _ _ vr (by simpa using nw);by_cases h0:e≠0
 ·rw[if_pos h0]at hP;subst hP;have ae:=hk h2 k02 q2;clear hk;cbv;rw[fe,decide_eq_true h0];cbv;exact ae
 ·rw[if_neg h0]at hP;have j7:∀h3,Le h2 h3->iD h3 pb d1 s st->Ct 81 [.pointer (some ⟨wb,0,none⟩)] h3 (fun r h4=>r=.int .i64 (match bE st.exprs [] []with
   | (r,e)=>if e≠0 then(d1,e)else ff d1 s st.table r).2/\Kp [pb] h3 h4/\iD h4 pb (match bE st.exprs [] []with
   | (r,e)=>if e≠0 then(d1,e)else ff d1 s st.table r).1 s st):=fun h3 l3 q3=>G5 q3 hx sj.DE (by omega) nN (l3 _ _ Bv) rfl (fun h4 k4 q4=>⟨rfl,k4,q4⟩)
  generalize (match bE st.exprs [] []with
   | (r,e)=>if e≠0 then(d1,e)else ff d1 s st.table r)=E at *
  cbv;rw[fe,decide_eq_false h0];cbv;refine ay Bv rfl rfl ?_;cbv;refine Fc q2 j7 (fun h3 k3 q3=>?_);rw[<-hP]at q3 |-;have ae:=hk h3 (k02.trans k3) q3;clear hk j7;generalize D.2.2=De at *;cbv;exact ae
def og(nm:ByteArray)(c:bS):bS:=⟨nm++au [46]++c.name,c.kind,c.null⟩
theorem Cb{α:Type}{f:α->α}{xs:List α}{i:Nat}{x:α}(h:xs[i]? =some x):((xs.take i).map f++xs.drop i).set i (f x)=(xs.take (i+1)).map f++xs.drop (i+1):=by
 have hi:=(List.getElem?_eq_some_iff.1 h).1;have hd:xs.drop i=x::xs.drop (i+1):=by obtain⟨h1,h2⟩:=List.getElem?_eq_some_iff.1 h;rw[List.drop_eq_getElem_cons h1,h2]
 have hl:((xs.take i).map f).length=i:=by simp;omega
 rw[hd,List.set_append_right _ _ (by omega),hl,Nat.sub_self,List.set_cons_zero];rw[List.take_add_one,h];simp
theorem Cc{α:Type}{f:α->α}{xs:List α}{i:Nat}{x:α}(h:xs[i]? =some x):((xs.take i).map f++xs.drop i)[i]? =some x:=by have hi:=(List.getElem?_eq_some_iff.1 h).1;rw[List.getElem?_append_right (by simp;omega),List.length_map,List.length_take,Nat.min_eq_left (by omega),Nat.sub_self,List.getElem?_drop,Nat.add_zero,h]
theorem zY{nm:ByteArray}(Av:Nm nm){cols:List bS}(hc:∀c∈cols,Nm c.name){h:ad}{cb:Option Addr}{cn cc:Nat}(qc:Sl 165 bp h (.slice cb cn cc) cols)(key:Int)(only:Bool)(rb:Option Addr)(rn rc:Nat){k:Value->ad->Prop}
 (hk:∀h' b n c,Le h h'->cS 165 bp h h' (.slice b n c) (cols.map (og nm))->k (.slice b n c) h'):
 Ct 87 [.agg #[.string nm,.slice cb cn cc,.int .i64 key,.bool only,.slice rb rn rc]] h k:=by
 obtain⟨A,hA⟩:=Ar.ex;obtain⟨X,hX⟩:∃X,A .cat nm ⟨#[46]⟩=X:=⟨_,rfl⟩;have hX2:X=nm++au [46]:=by rw[<-hX,hA.cat];rfl
 have eL:((nm.size+(⟨#[46]⟩:ByteArray).size:Nat):Int)<=2^62:=by have:=Av.sz;have e:(⟨#[46]⟩:ByteArray).size=1:=rfl;rw[e];omega
 have Je:∀c∈cols,((X.size+c.name.size:Nat):Int)<=2^62:=fun c D9=>by
  have h1:=Av.sz;have h2:=(hc c D9).sz;have e:X.size=nm.size+1:=by rw[hX2,ByteArray.size_append];rfl
  rw[e];omega
 have ue:∀c:bS,A .cat X c.name=(og nm c).name:=fun c=>by rw[hA.cat,hX2];rfl
 refine af A (ar T87.aw T87.aZ) Tryz.func87 rfl (by kernel_rfl) ?_;cbv;refine(rk qc).mono (fun v h1 hR=>?_);obtain⟨l1,b',c',hv,qb⟩:=hR;subst hv;rcases qb.out with ⟨b0,g1,g2⟩ | ⟨nb,cap,g1,g2,o⟩
 ·have ae:=hk h1 b' 0 0 l1 (by rw[g2];exact cS.nil);have f0:A .aD .lss 0 (A .nat 0)=false:=by rw[bt A,hA.nat];rfl
  cases g1;clear hk;cbv;refine aX.go (G:=Unit) (fun _=>[(11,.v (.int .i64 0))]) (fun _=>[(1,[.string nm,.slice cb 0 cc,.int .i64 key,.bool only,.slice rb rn rc])]) (fun m z h'=>h'=h1) 0 () ⟨?_,?_,?_⟩ rfl ?_
  ·cbv
  ·cbv
  ·cbv
  ·intro m z h' e;subst e;cbv;rw[f0];cbv;exact ae
 ·have Nz:=qc.len;cases g1;have hcn':cols.length=cols.length:=rfl;generalize hN:cols.length=N at *;obtain⟨I,bm⟩:∃I:Nat->Int->ad->Prop,∀m z h',I m z h'=∃i,aO z i/\i<=N/\m=N-i/\Kp [nb] h1 h'/\dn 165 bp h' nb c' ((cols.take i).map (og nm)++cols.drop i):=⟨_,fun _ _ _=>rfl⟩;have hJ:I N 0 h1:=by rw[bm];exact⟨0,⟨rfl⟩,Nat.zero_le _,rfl,Kp.refl _ _,o⟩
  have hNb:=qc.bound;clear o qb;cbv;refine aX.go (G:=Int) (fun z=>[(11,.v (.int .i64 z))]) (fun _=>[(1,[.string nm,.slice cb N cc,.int .i64 key,.bool only,.slice rb rn rc])]) (fun m z h'=>I m z h') N 0 ⟨?_,?_,?_⟩ hJ ?_
  ·cbv
  ·cbv
  ·cbv
  ·intro m z h2 hI;rw[bm]at hI;cbv;obtain⟨i,hz,hi,hm,k2,o⟩:=hI;have f1:A .aD .lss z (A .nat N)=decide (i<N):=hz.gK (aO.nat N);rw[f1];by_cases aG:i<N
   ·obtain⟨c,RY⟩:=aE (xs:=cols) (i:=i) (by omega);have D9:=List.mem_of_getElem? RY;have hg:=Cc (f:=og nm) RY;have kB:=Cb (f:=og nm) RY;have hlen:((cols.take i).map (og nm)++cols.drop i).length=N:=by simp;omega
    generalize (cols.take i).map (og nm)++cols.drop i=L at *;have cT:0<=z/\z<(N:Int):=hz.ix aG;have ir:=hz.eq;have dS:=hz.succ (A:=A) (by omega);have kC:N-(i+1)<m:=by omega
    have Je:=Je c D9;have ue:=ue c;have dc:∀h3,Kp [nb] h2 h3->dn 165 bp h3 nb c' (L.set i (og nm c))->I (N-(i+1)) (A .bu .add .i64 z 1) h3:=fun h3 k3 o3=>by
     rw[bm];exact⟨i+1,dS,aG,rfl,k2.trans k3,by rw[<-kB];exact o3⟩
    have qs:=o.sl hlen.symm;clear bm hJ hk dS;rw[decide_eq_true aG];cbv;refine⟨eL,?_⟩;cbv;rw[hX];refine⟨⟨rfl,cT⟩,?_⟩;cbv;refine qs.fF hg ir (o:=0) (m:=1) (by decide) (fun cs aF=>?_);obtain⟨CQ,E4,E3⟩:=c;have aF:cs=[.string CQ,.int .i64 E4,.bool E3]:=aF;subst aF;have ue:A .cat X CQ=(og nm ⟨CQ,E4,E3⟩).name:=ue;cbv;refine⟨Je,?_⟩;cbv;rw[ue];generalize hy:(og nm ⟨CQ,E4,E3⟩).name=y at *;refine⟨⟨rfl,cT⟩,?_⟩;cbv;refine o.FM (by decide) hg ir rfl (off:=0) (new:=[.string y]) (show 0+1<=3 by omega) (x':=og nm ⟨CQ,E4,E3⟩) (fun cs aF=>?_) (fun h3 k3 t3 o3=>?_)
    ·have aF:cs=[.string CQ,.int .i64 E4,.bool E3]:=aF;subst aF;show [Value.string y,.int .i64 E4,.bool E3]=[.string (og nm ⟨CQ,E4,E3⟩).name,.int .i64 E4,.bool E3];rw[hy]
    ·have Cx:=dc h3 k3 o3;clear dc;cbv;refine⟨N-(i+1),A .bu .add .i64 z 1,kC,⟨?_,?_,?_⟩,Cx⟩
     ·cbv
     ·cbv
     ·cbv
   ·have jA:i=N:=by omega
    rw[jA,<-hN,List.take_of_length_le (Nat.le_refl _),List.drop_of_length_le (Nat.le_refl _),List.append_nil]at o;have tX:(cols.map (og nm)).length=N:=by rw[List.length_map,hN]
    have ae:=hk h2 (some ⟨nb,0,none⟩) N c' (l1.cO (fun b hb=>by rw[List.mem_singleton.1 hb];exact g2) k2) (o.buf g2 tX.symm);clear bm hJ hk;rw[decide_eq_false aG];cbv;exact ae
end Go.S
