import Derived.Test.YtifjeceolckgaaaGreatWN
import Derived.Test.YtifjeceolckgaaaGreatWO
set_option linter.all false
set_option maxRecDepth 100000
set_option maxHeartbeats 8000000
namespace Go.S
open Go.Sx Go.Proofs
theorem eW{xs:List wK}{h:ad}{b:Option Addr}{n c:Nat}(q:zW kn h (.slice b n c) xs)(j:wK):
 Ct 3 [.slice b n c,.agg #[.int .i64 j.s,.int .i64 j.n,.int .i64 j.a,.int .i64 j.b]] h (λv h'=>Le h h'/\v=.bool true):=by
 obtain⟨aw,se,cE,dc⟩:=j;obtain⟨A,hA⟩:=Ar.ex;have zd:A .not true=false:=by rw[hA.not];rfl
 refine mQF T3 A Tryz.func3 ?_;cbv;refine(qU h).mono (λv h1 hR=>?_);obtain⟨l1,hv⟩:=hR;subst hv;cbv;rw[zd];cbv;refine vR (q.mono l1) (λh2 b1 n1 c1 b2 n2 c2 b3 n3 c3 b4 n4 c4 R B d l2 vh al=>?_);have ig:=λh {k} hk=>kz (⟨aw,se,cE,dc⟩:wK) h (k:=k) hk;have ej:=al.ej;have T:=al.aj;have X:=T.az;have gD:=T.aq;clear al;cbv;refine ig h2 (λh3 w st l3 E hx=>?_);clear ig;have t:=E;obtain⟨b5,n5,c5,b6,n6,c6,b7,n7,c7,b8,n8,c8,b9,n9,c9,gW,jD,gT,hw,-⟩:=t.out;subst hw;replace E:aQG h3 _ st:=E;have Hq:=vh.mono l3;have Gm:=iE.all d 0 st;have V:=refused (st:=st) T;clear t T vh;cbv;refine iJL Hq hx ej (by decide) (by decide) Gm E (λu f p s Q ab L O l K N F r pb pn pc l6 M H=>?_);have W:=Hq.mono l6;have lt:Le h u:=((l1.trans l2).trans l3).trans l6;obtain⟨D,hD⟩:∃D,iD d 0 st=D:=⟨_,rfl⟩;rw[hD]at M H V |-;obtain⟨x,DR,De⟩:=D;have fe:A .aI .eql De 0=decide (De=0):=aA A ..;clear hD Gm hx E ej Hq q l1 l2 l3 l6;cbv;rw[fe];by_cases he:De=0
 .clear V M H W X gD;rw[mQu he];cbv;exact⟨lt,trivial⟩
 obtain⟨d1,e,e1,Z⟩:=V he;cases e1;replace M:ik u (.agg #[.slice f p s,.slice Q ab L,.slice O l K,.slice N F r]) x:=M;replace H:Sl 84 aD u (.slice pb pn pc) []:=H;have EV:pn=0:=H.len;subst EV;have J:=Z.az;obtain⟨mY,au,rv⟩:=W.eH gD;obtain⟨KC,yt,ra⟩:=M.eH Z.aq;have Ac:=W.xj;have S:=M.xj;have lG:n1=3:=by rw[Ac.len,X];rfl
 have MI:p=3:=by rw[S.len,J];rfl
 subst lG MI mY KC;have t0:∀i,i<3->d.az[i]? =some ⟨aF i,R i⟩:=λi hi=>by
  rw[X]
  match i,hi with
  |0,_=>rfl
  |1,_=>rfl
  |2,_=>rfl
 have t1:∀i,i<3->x.az[i]? =some ⟨aF i,R i⟩:=λi hi=>by
  rw[J]
  match i,hi with
  |0,_=>rfl
  |1,_=>rfl
  |2,_=>rfl
 have um:A .aI .neq (A .nat 0) 0=false:=by rw[aC A,hA.nat];rfl
 have ak:A .aI .neq (A .nat 3) (A .nat 3)=false:=by rw[aC A];simp
 have ag:A .aI .eql (A .nat 1) 1=true:=by rw[aA A,hA.nat];rfl
 have qM:b2.isSome=true/\(0:Int)<=0/\(0:Int)<((1:Nat):Int):=⟨rv.aT,by omega,by omega⟩;have qH:Q.isSome=true/\(0:Int)<=0/\(0:Int)<((1:Nat):Int):=⟨ra.aT,by omega,by omega⟩;clear V X J gD Z W M;obtain⟨I,Y⟩:∃I:Nat->Int->ad->Prop,∀m g h',I m g h'=∃i,aS g i/\m=3-i/\h'=u:=⟨_,λ_ _ _=>rfl⟩;have hJ:I 3 0 u:=by rw[Y];exact⟨0,⟨rfl⟩,rfl,rfl⟩
 rw[mQv he];cbv;rw[um];cbv;rw[ak];cbv;refine aX.go (G:=Int) (λg=>[(9,.v (.int .i64 g))]) (λ_=>[(3,[.int .i64 aw,.int .i64 se,.int .i64 cE,.int .i64 dc]),(5,[.slice b1 3 c1,.slice b2 1 c2,.slice b3 n3 c3,.slice b4 n4 c4]),(6,[.slice f 3 s,.slice Q 1 L,.slice O l K,.slice N F r])]) (λm g h'=>I m g h') 3 0 (by constructor<;>cbv) hJ ?_
 intro m z h7 hI;rw[Y]at hI;cbv;obtain⟨i,y,hm,rfl⟩:=hI;have f1:A .aI .lss z (A .nat 3)=decide (i<3):=y.iJ (aS.nat 3);rw[f1];by_cases P:i<3
 .have g0:=t0 i P;have g1:=t1 i P;have cN:=y.eq;have cZ:=y.succ (A:=A);obtain⟨z2,dL⟩:∃z2,A .bB .add .i64 z 1=z2:=⟨_,rfl⟩;rw[dL]at cZ;obtain⟨C,sf⟩:∃C,C=3-(i+1):=⟨_,rfl⟩;have cD:I C z2 h7:=by rw[Y];exact⟨i+1,cZ,sf,rfl⟩
  have sh:C<m:=by omega
  have Lp:b1.isSome=true/\0<=z/\z<((3:Nat):Int):=⟨Ac.aT,y.ix P⟩;have zU:f.isSome=true/\0<=z/\z<((3:Nat):Int):=⟨S.aT,y.ix P⟩;clear Y hJ t0 t1;generalize R i=dn at *;generalize aF i=dS at *;rw[mQu P];cbv;refine⟨zU,?_⟩;cbv;refine S.vD g1 cN (o:=4) (m:=1) (by decide) (λcs a an=>?_);obtain⟨_,_,_,u4,u5,u6,rfl,-,s1⟩:=a;cbv;refine⟨Lp,?_⟩;cbv;refine Ac.vD g0 cN (o:=4) (m:=1) (by decide) (λcs a af=>?_);obtain⟨_,_,_,v4,v5,v6,rfl,-,s0⟩:=a;cbv;refine DW s1 s0 ?_;cbv;repeat ((first|refine an _ _ (Le.refl _) ?_|refine af _ _ (Le.refl _) ?_);cbv;refine⟨⟨_,rfl,rfl⟩,?_⟩;cbv)
  rw[zd];cbv;rw[dL];refine⟨C,_,sh,by constructor<;>cbv,cD⟩
 clear Y hJ t0 t1;rw[mQv P];cbv;rw[ag];cbv;refine⟨qH,?_⟩;cbv;refine ra.cC (i:=0) rfl (n:=0) rfl (o:=1) (m:=1) (by decide) (λcs a=>?_);obtain⟨_,U,_,_,_,_,rfl,sC,-,-⟩:=a;have wM:U=B.length:=sC.len;cbv;refine⟨qM,?_⟩;cbv;refine rv.cC (i:=0) rfl (n:=0) rfl (o:=1) (m:=1) (by decide) (λcs a=>?_);obtain⟨_,l0,_,_,_,_,rfl,sD,-,-⟩:=a;have vN:l0=B.length:=sD.len;have tW:U=l0:=by omega
 subst tW;have ar:A .aI .eql (A .nat U) (A .nat U)=true:=by rw[aA A];simp
 cbv;rw[ar];exact⟨lt,rfl⟩
end Go.S
