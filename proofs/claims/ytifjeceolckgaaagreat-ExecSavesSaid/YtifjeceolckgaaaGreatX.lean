import Derived.Test.YtifjeceolckgaaaGreatQG
import Derived.Test.YtifjeceolckgaaaGreatQF
set_option linter.all false
set_option maxRecDepth 100000
set_option maxHeartbeats 8000000
namespace Go.S
open Go.Sx Go.Proofs
variable {s:ByteArray}{d:DB}{n:Nat}{k:Value->ad->Prop}{st:aJ}{h:ad}
def cZz(s:ByteArray):Bool:=s.data.toList.all λc=>decide (c.toNat<128)
def eKT(s:ByteArray):Bool:=cZz s&&decide (s.size<=2^40)
def eZf(n:Nd):Bool:=eKT n.name&&rr n.v.n
def gZQ(x:aJ):Bool:=x.on.all eZf&&x.bV.all eZf&&x.exprs.all (λe=>e.all eZf)&&x.items.all (λi=>i.e.all eZf)&&decide (x.exprs.length<=2^20)&&(!decide (x.kind=4)||decide (x.exprs.length=x.names.length))&&eKT x.group&&eKT x.order&&decide (x.items.length<=2^20)&&decide (x.names.length<=2^20)
theorem SF(h:eKT s=true):Nm s:=by unfold eKT cZz at h;rw[mQQ]at h;exact⟨oh.2 λc a=>mQL (mXq.1 h.1 c a),mQL h.2⟩
theorem Mj{l:List Nd}(h:l.all eZf=true):iY l:=λn a=>by
 have:=mXq.1 h n a;unfold eZf at this;rw[mQQ]at this;exact⟨SF this.1,this.2⟩
theorem oL{x:aJ}(h:gZQ x=true):dr x:=by
 unfold gZQ at h;simp only[mQQ]at h;obtain⟨⟨⟨⟨⟨⟨⟨⟨⟨b,c⟩,d⟩,g⟩,j⟩,a⟩,k⟩,l⟩,m⟩,f⟩:=h;refine⟨Mj b,Mj c,λe n=>Mj (mXq.1 d e n),λi o=>Mj (mXq.1 g i o),mQL j,λp=>?_,SF k,SF l,mQL m,mQL f⟩;rw[mJn]at a;rcases a with a|a
 .rw[mZx,decide_eq_false_iff_not]at a;exact absurd p a
 exact mQL a
theorem Lh{v:Value}(g:ik h v d){f:Nat}(s:EJ f d)(z:f+700<2^18){t:ByteArray}(C:bJ t=true){K:Int}(i:cL ao t=(st,K))(hx:dr st)(G:iE d 0 st)(a:bJf h (iD d 0 st) k):
 Ct 11 [v,.string t] h k:=by
 obtain⟨a1,i1,j1,a2,i2,j2,T,i3,j3,U,i4,j4,rfl⟩:=g.form;refine mQx kQf Tryz.func11 λA hA=>?_;cbv;refine UH C i (λu w l q=>?_);have e:=q;obtain⟨V,n5,c5,W,n6,c6,X,n7,c7,Y,n8,c8,Z,n9,c9,gW,jD,gT,y,-⟩:=e.out;subst y;replace q:aQG u _ st:=q;have J:=g.mono l;clear i;cbv;refine iJL J hx s z (by decide) G q (λx M E m N F o O H p P I r b n c B L s2=>?_);have j:=a x M E m N F o O H p P I r b n c (l.trans B) L s2;generalize iD d 0 st=D at *;obtain⟨Q,R,S⟩:=D;clear a;cbv;exact j
theorem dZF(h:cZz s=true)(l:s.size<=2^30):UI s:=⟨oh.2 λc a=>mQL (mXq.1 h c a),l⟩
def iJR(d:DB):Bool:=d.az.all (λt=>cZz t.S.name&&decide (t.S.name.size<=2^30)&&t.rows.all (λr=>r.all λv=>rr v.n))&&d.aq.all (λw=>w.log.all λc=>c.row.all λv=>rr v.n)
theorem bQS(h:iJR d=true):ij fS UI d:=by
 unfold iJR at h;rw[mQQ]at h;obtain⟨e,f⟩:=h;refine⟨λt a=>?_,λt a r i v b=>?_,λw j c g v b=>?_⟩
 .have:=mXq.1 e t a;simp only[mQQ]at this;exact dZF this.1.1 (mQL this.1.2)
 .have:=mXq.1 e t a;simp only[mQQ]at this;exact mXq.1 (mXq.1 this.2 r i) v b
 exact mXq.1 (mXq.1 (mXq.1 f w j) c g) v b
theorem aXH:SJ 0 eY:=by
 have X:eC (dZ 0).S.name (dZ 1).S.name=-1:=by kernel_rfl
 have l:eC (dZ 0).S.name (dZ 2).S.name=-1:=by kernel_rfl
 have Z:eC (dZ 1).S.name (dZ 2).S.name=-1:=by kernel_rfl
 have n:∀t,(dZ t).S.cols=bp/\(dZ t).S.key=0/\SO (dZ t).rows:=λt=>⟨rfl,rfl,SO.nil⟩;have f:(dZ 0).S.name.size=2:=by kernel_rfl
 have G:(dZ 1).S.name.size=2:=by kernel_rfl
 have m:(dZ 2).S.name.size=2:=by kernel_rfl
 have T:TW eY.az:=by
  refine⟨?_,λt a=>?_,by show(3:Nat)<=8;omega⟩
  .show [dZ 0,dZ 1,dZ 2].Pairwise _;simp only[mXA,mQI,mZY,or_false,forall_eq_or_imp,forall_eq,List.Pairwise.nil,and_true,X,l,Z,false_imp_iff,implies_true];decide
  have a:t∈[dZ 0,dZ 1,dZ 2]:=a;simp only[mQI,mZY,or_false]at a;rcases a with rfl|rfl|rfl
  .exact⟨(n 0).1,(n 0).2.1,(n 0).2.2,by omega⟩
  .exact⟨(n 1).1,(n 1).2.1,(n 1).2.2,by omega⟩
  exact⟨(n 2).1,(n 2).2.1,(n 2).2.2,by omega⟩
 refine⟨⟨T,List.Pairwise.nil,λw h=>(by cases h),λw h=>(by cases h),λw h=>(by cases h),λi j x y b=>?_,λx hx=>(by cases hx),λx hx=>(by cases hx),λw h=>(by cases h)⟩,λw h=>(by cases h),mQD _,mQD _⟩;have b:([]:List cg)[i]? =some x:=b;simp at b
theorem rE:EJ 0 eY:=⟨aXH,bQS (by kernel_rfl)⟩
theorem IP(h:EJ n d)(b:n<=2^17)(s:Int)(a:iJR (dy d s).1=true):EJ n (dy d s).1:=⟨aXT h.sj (by omega) s,bQS a⟩
def hKa:ByteArray:=(aM [115,101,108,101,99,116,32,99,111,117,110,116,40,42,41,32,102,114,111,109,32,116,97])
def Fu:aJ:=(cL ao hKa).1
theorem bKY:dr Fu:=oL (by kernel_rfl)
def eZk:DB:=(dy eY 1).1
theorem dJh:EJ 0 eZk:=IP rE (by decide) 1 (by kernel_rfl)
theorem bKX:dp Fu (gI (fH 1 (cQ Fu) eZk).1 Fu)=(⟨-1,-1,true⟩,0):=by kernel_rfl
theorem YF:Fu.kind=6:=by kernel_rfl
theorem aJz:∀i∈Fu.items,i.fn=1:=by
 have h:Fu.items.all (λi=>decide (i.fn=1))=true:=by kernel_rfl
 exact λi a=>mQL (mXq.1 h i a)
theorem YG:Fu.join=b0:=by kernel_rfl
theorem fQz:iE eZk 1 Fu:=iE.Kq YF (Hf YG (λy a=>by
 rw[bKX]at a;cases a;exact⟨λ_=>cKU (by decide) aJz,λh=>absurd h (by decide)⟩))
theorem dJg:(iD eZk 1 Fu).2=([[⟨2,0,b0⟩]],0):=by kernel_rfl
theorem aJy:cL ao hKa=(Fu,(cL ao hKa).2):=rfl
theorem aJA:dy eY 1=(eZk,(dy eY 1).2):=rfl
theorem dJf(h:ad){be:Int}(hd:dy eY 1=(d,be)){pe:Int}(C:bJ ⟨#[115,101,108,101,99,116,32,99,111,117,110,116,40,42,41,32,102,114,111,109,32,116,97]⟩=true)(L:cL ao ⟨#[115,101,108,101,99,116,32,99,111,117,110,116,40,42,41,32,102,114,111,109,32,116,97]⟩=(st,pe))(hx:dr st)(H:EJ 0 d)(G:iE d 1 st){S:DB}(j:iD d 1 st=(S,[[⟨2,0,b0⟩]],0)):Ct 6 [] h (λv h'=>Le h h'/\v=.bool true):=by
 obtain⟨D,g⟩:∃D:List Row,D=[[⟨2,0,b0⟩]]:=⟨_,rfl⟩;rw[<-g]at j;refine mQx T6 Tryz.func6 λA Y=>?_;cbv;refine FZ (λh1 l N t m O u o P z p Q B ab m1 e1 d2 m2 e2 d3 m3 e3 d4 m4 e4 l1 U _=>?_);cbv;refine uX U 1 (rE.sj.Ko.small (by decide)) hd (λV l N t m O u o P z p Q B l2 k=>?_);replace k:ik V (.agg #[.slice l N t,.slice m O u,.slice o P z,.slice p Q B]) d:=k;cbv;refine UH C L (λW w M q=>?_);have K:=q;obtain⟨b5,n5,c5,b6,n6,c6,b7,n7,c7,b8,n8,c8,r,e,E,gW,jD,gT,hw,-⟩:=K.out;subst hw;replace q:aQG W _ st:=q;have T:=k.mono M;clear L C hd;cbv;refine iJL T hx H (by decide) (by decide) G q (λI x1 m1 y1 x2 m2 y2 x3 m3 y3 x4 m4 y4 b n c l4 X s=>?_);rw[j]at s |-;replace s:Sl 84 aD I (.slice b n c) D:=s;have Z:n=1:=by rw[s.len,g];rfl
 subst Z;have J:D[0]? =some [⟨2,0,b0⟩]:=by rw[g];rfl
 have lt:Le h I:=((l1.trans l2).trans M).trans l4;have um:A .aI .eql 0 0=true:=by rw[aA A];rfl
 have f:A .aI .eql (A .nat 1) 1=true:=by rw[aA A,Y.nat];rfl
 have R:=s.aT (by omega:0<1);clear G hx H j g;cbv;rw[um];cbv;rw[f];cbv;refine⟨⟨R,by decide⟩,?_⟩;cbv;refine bZ s J rfl (λr e E a=>?_);have F:e=1:=a.len;subst F;cbv;rw[f];cbv;refine⟨⟨R,by decide⟩,?_⟩;cbv;refine bZ s J rfl (λr e E a=>?_);have F:e=1:=a.len;subst F;cbv;refine⟨⟨a.aT,by decide⟩,?_⟩;cbv;refine a.load (i:=0) (x:=⟨2,0,b0⟩) rfl rfl (λcs y=>?_);replace y:cs=[.int .i64 2,.int .i64 0,.string b0]:=y;subst y;cbv;refine⟨lt,?_⟩;exact congrArg Value.bool ((pA A ⟨2,0,aM []⟩ ⟨2,0,aM []⟩).trans (by kernel_rfl))
theorem qU(h:ad):Ct 6 [] h (λv h'=>Le h h'/\v=.bool true):=by
 have j:=dJg;obtain⟨D,a⟩:∃D,iD eZk 1 Fu=D:=⟨_,rfl⟩;rw[a]at j;obtain⟨b,R,e⟩:=D;obtain⟨rfl,rfl⟩:R=[[⟨2,0,b0⟩]]/\e=0:=by cases j;exact⟨rfl,rfl⟩
 exact dJf h aJA (by kernel_rfl) aJy bKY dJh fQz a
theorem nk(a:Int)(n:Nat)(o:0<n)(v:n<=2^40)(h:ad)(l:∀z i,aS z i->i=(a % (n:Int)).toNat->i<n->k (.int .i64 z) h):Ct 16 [.int .i64 a,.int .i64 (n:Int)] h k:=by
 obtain⟨A,c⟩:=Ar.ex;obtain⟨m,b⟩:∃m:Int,m=(n:Int):=⟨_,rfl⟩;rw[<-b];have R:m≠0:=by omega
 have T:A .bB .rem .i64 a m=a.tmod m:=by rw[c.bB];rfl
 have Y:a.tmod m<m:=by have:=mKe a (show 0<m by omega);omega
 have r:-m<a.tmod m:=by have:=mKd a (show 0<m by omega);omega
 have Q:a % m=if a.tmod m<0 then a.tmod m+m else a.tmod m:=by
  rw[mKc];have g:=mZX a R;have j:=mZW a (show 0<m by omega);by_cases d:0<=a\/m ∣ a
  .rw[if_pos d];rw[if_neg (by omega)];omega
  rw[if_neg d];have:(m.natAbs:Int)=m:=by omega
  rw[this,if_pos (by omega)];omega
 generalize p:a.tmod m=t at *;generalize e:A .aI .lss t 0=u;have f:=e;rw[bm A]at e;have key:∀z:Int,z=a % m->k (.int .i64 z) h:=λz q=>by
  have g:=mZX a R;have j:=mZW a (show 0<m by omega);refine l z (a % (n:Int)).toNat ⟨?_⟩ rfl ?_
  .rw[<-b];omega
  rw[<-b];omega
 have W:t<0->A .bB .add .i64 t m=t+m:=λh=>by
  rw[c.bB];simp only[bB];rw[IntWalk.i64_in _ (by omega)]
 refine mQF lKX A Tryz.func16 ?_;cbv;refine⟨R,?_⟩;cbv;rw[T];rw[f];cases u with
 |true=>have B:=mQL e;have s:=key (t+m) (by rw[Q,if_pos B]);cbv;rw[W B];exact s
 |false=>have B:=mQO e;have s:=key t (by rw[Q,if_neg B]);cbv;exact s
theorem sZ{e:Nat}{l:List ByteArray}(d:h n=some (.cells (List.toArray (l.map Value.string)) e (0,0)))(f:l.length<=2^40):Sl e dX h (.slice (some ⟨n,0,none⟩) l.length l.length) l:=by refine Sl.fresh (s:=dX) (h:=h) (n:=n) (xs:=l) (cap:=l.length) (c:=l.map Value.string) d ⟨by show 0+l.length*1<=_;simp,λi x hx=>?_⟩ f (mQD _);show((l.map Value.string).drop (0+i*1)).take 1=[.string x];obtain⟨a,b⟩:=mQB.1 hx;rw[mXj,mZM,mQJ (by simpa using a)];simp[b]
end Go.S
