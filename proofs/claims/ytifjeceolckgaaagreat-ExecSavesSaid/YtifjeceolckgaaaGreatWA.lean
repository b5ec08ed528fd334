import Derived.Laws.BytesArg
import Derived.Test.YtifjeceolckgaaaGreatX
set_option linter.all false
namespace Go.S
def Bd(f:UInt8->Bool):By->Bool
 | []=>true
 |c::_=> !f c
theorem xO{t:By}(a:Bd uN t=true):∀(n:By),n.all uN=true->eU (n++t)=n.length
 | [],_=>by
  cases t with
  |nil=>rfl
  |cons c t=>
   have:uN c=false:=by simpa[Bd]using a
   show eU (c::t)=0;unfold eU;rw[this]
 |c::n,h=>by
  rw[mXY,mQQ]at h;show eU (c::(n++t))=_;unfold eU;rw[h.1];show eU (n++t)+1=_;rw[xO a n h.2];rfl
def dv:Int->By->Int
 |n,[]=>n
 |n,c::t=>dv (10*n+((c.toNat:Int)-48)) t
theorem Nk{c:UInt8}(h:fq c=true):48<=c.toNat/\c.toNat<=57:=by unfold fq at h;simpa using h
theorem dQd:∀(t:By) (n:Int),0<=n->t.all fq=true->n<=dv n t
 | [],n,_,_=>mZa _
 |c::t,n,b,h=>by
  rw[mXY,mQQ]at h;have:=Nk h.1;have a:=dQd t (10*n+((c.toNat:Int)-48)) (by omega) h.2;show n<=dv (10*n+((c.toNat:Int)-48)) t;omega
theorem OX{t:By}(a:Bd fq t=true):∀(n:By) (v:Int),n.all fq=true->0<=v->dv v n<=9223372036854775807->nG (n++t) v=((dv v n,t),0)
 | [],v,_,_,_=>by
  cases t with
  |nil=>rfl
  |cons c t=>
   have:fq c=false:=by simpa[Bd]using a
   show nG (c::t) v=_;unfold nG;rw[this];rfl
 |c::n,v,h,d,m=>by
  rw[mXY,mQQ]at h;have b:=Nk h.1;have m:dv (10*v+((c.toNat:Int)-48)) n<=9223372036854775807:=m;have N:=dQd n (10*v+((c.toNat:Int)-48)) (by omega) h.2;show nG (c::(n++t)) v=_;unfold nG;rw[h.1];have l:¬v>(9223372036854775807-((c.toNat:Int)-48)) / 10:=by omega
  show(if v>(9223372036854775807-((c.toNat:Int)-48)) / 10 then _ else _)=_;rw[if_neg l,OX a n _ h.2 (by omega) m];rfl
def Dx:By->By
 | []=>[]
 |c::t=>if c.toNat=39 then 39::39::Dx t else c::Dx t
def cQb(c:UInt8):Bool:=decide (c.toNat=39)
theorem DN{t:By}(a:Bd cQb t=true):∀(x out:By),out.length+x.length<=60->iH (Dx x++39::t) out=((out++x,t),0)
 | [],out,o=>by
  have e:¬out.length>60:=by simp at o;omega
  rw[mXb];cases t with
  |nil=>show(if out.length>60 then _ else _)=_;rw[if_neg e]
  |cons d t=>
   have hd:decide (d.toNat=39)=false:=by simpa[Bd,cQb]using a
   show(match decide (d.toNat=39)with
    |true=>iH t (out++[39])
    |false=>if out.length>60 then(([],[]),5)else((out,d::t),0))=_
   rw[hd];show(if out.length>60 then _ else _)=_;rw[if_neg e]
 |c::x,out,o=>by
  by_cases h:c.toNat=39
  .have q:Dx (c::x)=39::39::Dx x:=by show(if c.toNat=39 then _ else _)=_;rw[if_pos h]
   rw[q];have I:c=39:=by rw[<-mZg];exact h
   show iH (Dx x++39::t) (out++[39])=_;rw[DN a x _ (by simp at o |-;omega),I];simp
  have q:Dx (c::x)=c::Dx x:=by show(if c.toNat=39 then _ else _)=_;rw[if_neg h]
  rw[q];show iH (c::(Dx x++39::t)) out=_;unfold iH;rw[mQv h];show iH (Dx x++39::t) (out++[c])=_;rw[DN a x _ (by simp at o |-;omega)];simp
def cH(t:By)(ws:List Wd):Prop:=∀(fuel:Nat) (l:List Wd),t.length<fuel->nK fuel t l=(l++(ws++[⟨0,0,aM []⟩]),0)
theorem cH.nil:cH [] []:=λf l h=>by
 match f,h with
 |k+1,_=>rfl
theorem cH.sp{t:By}{w:List Wd}(h:cH t w):cH (32::t) w:=λf l a=>by
 match f,a with
 |k+1,a=>exact h k l (by simp at a;omega)
theorem cH.step{c:UInt8}{r t:By}{w:Wd}{s:List Wd}(M:Ck c=false)(n:ll c r=((w,t),0))(b:t.length<=r.length)(h:cH t s):cH (c::r) (w::s):=λf l a=>by
 match f,a with
 |k+1,a=>
  show(match Ck c with
   |true=>nK k r l
   |false=>match ll c r with
    | (p,e)=>if e=0 then nK k p.2 (l++[p.1])else([],e))=_
  rw[M,n];show nK k t (l++[w])=_;rw[h k _ (by simp at a;omega)];simp
theorem aJr{c:UInt8}(h:isLet c=true):Ck c=false:=by unfold isLet at h;unfold Ck;simp at h |-;omega
theorem eQM{c:UInt8}(h:fq c=true):Ck c=false:=by unfold fq at h;unfold Ck;simp at h |-;omega
theorem cXS{c:UInt8}(h:fq c=true):isLet c=false:=by unfold fq at h;unfold isLet;simp at h |-;omega
theorem cH.name{c:UInt8}(n:By){t:By}{w:List Wd}(a:isLet c=true)(b:n.all uN=true)(d:Bd uN t=true)(h:cH t w):cH (c::(n++t)) (⟨1,0,aM (c::n)⟩::w):=by
 refine cH.step (aJr a) ?_ (by simp) h;have l:=xO d (c::n) (by
  rw[mXY,b,mZK];unfold uN;rw[a];rfl)
 rw[mJo]at l;unfold ll;rw[a,l];show((((⟨1,0,aM (((c::n)++t).take (c::n).length)⟩:Wd),((c::n)++t).drop (c::n).length),(0:Int)):(Wd×By)×Int)=_;rw[mKb,mJF]
theorem cH.num{c:UInt8}{n t:By}{w:List Wd}{v:Int}(a:fq c=true)(d:n.all fq=true)(b:dv 0 (c::n)=v)(m:v<=9223372036854775807)(f:Bd fq t=true)(h:cH t w):cH (c::(n++t)) (⟨2,v,aM []⟩::w):=by refine cH.step (eQM a) ?_ (by simp) h;have e:=OX f (c::n) 0 (by rw[mXY,d,a];rfl) (mZa _) (by rw[b];exact m);rw[b,mJo]at e;unfold ll;rw[cXS a,a,e]
theorem cH.kXw(x:By){t:By}{w:List Wd}(hx:x.length<=60)(b:Bd cQb t=true)(h:cH t w):cH (39::(Dx x++39::t)) (⟨3,0,aM x⟩::w):=by
 refine cH.step rfl ?_ (by simp;omega) h;have a:=DN b x [] (by simpa using hx);show(match iH (Dx x++39::t) []with
  | (p,e)=>((⟨3,0,aM p.1⟩,p.2),e):(Wd×By)×Int)=_
 rw[a];rfl
theorem cH.sign{c:UInt8}{t:By}{w:List Wd}(a:ns.contains c.toNat=true)(i:c.toNat≠60)(Z:c.toNat≠62)(h:cH t w):cH (c::t) (⟨4,0,aM [c]⟩::w):=by
 have o:=a;unfold ns at o;have b:isLet c=false:=by unfold isLet;simp at o |-;omega
 have f:fq c=false:=by unfold fq;simp at o |-;omega
 have g:decide (c.toNat=39)=false:=by simp at o |-;omega
 have e:Ck c=false:=by unfold Ck;simp at o |-;omega
 have s:mf (c::t)=1:=by
  cases t with
  |nil=>show(if ns.contains c.toNat then 1 else 0)=_;rw[if_pos a]
  |cons d t=>
   have:Jk c d=false:=by unfold Jk;rw[mQv i,mQv Z];rfl
   show(if Jk c d then 2 else if ns.contains c.toNat then 1 else 0)=_;rw[this,if_pos a];rfl
 refine cH.step e ?_ (mQD _) h;unfold ll;rw[b,f,g,s];rfl
theorem wW{s:ByteArray}{w:List Wd}(l:s.size<=600)(h:cH s.data.toList w):iq s=(w++[⟨0,0,aM []⟩],0):=by unfold iq;rw[if_neg (by omega)];exact h _ [] (by show s.data.toList.length<s.data.size+1;rw[mZJ];omega)
def rD(ok:ByteArray->Bool)(w:List Wd):aJ×Int:=
 let r:=PS.stmt ok ⟨w,0,[]⟩;let p:PS:=r.2;let p:PS:=match p.ws with
  |w::_=>if p.err=0/\w.k≠0 then p.fail 6 else p
  | []=>p
 if p.err=0/\r.1.1.kind=1 then
  match jR r.1.1.sE.cols r.1.2 0 with
  |some k=>({ r.1.1 with sE:={ r.1.1.sE with key:=(k:Int) } },(0:Int))
  |none=>({},(2:Int))
 else if p.err≠0 then({},p.err)else(r.1.1,0)
theorem xy{o:ByteArray->Bool}{s:ByteArray}{w:List Wd}(h:iq s=(w,0)):cL o s=rD o w:=by unfold cL;rw[h];rfl
def dk(n:Nat):By:=if 10<=n then dk (n / 10)++[UInt8.ofNat (48+n % 10)]else [UInt8.ofNat (48+n % 10)]
 termination_by n
 decreasing_by omega
theorem bQI:∀(a b:By) (n:Int),dv n (a++b)=dv (dv n a) b
 | [],b,n=>rfl
 |c::a,b,n=>by
  rw[mJo];exact bQI a b _
theorem QI{d:Nat}(h:d<10):(UInt8.ofNat (48+d)).toNat=48+d:=by rw[mZC];omega
theorem cXU(n:Nat):dv 0 (dk n)=n:=by
 induction n using Nat.strongRecOn with
 |ind n i=>
  unfold dk;have hd:=QI (mZV n (by decide:0<10));by_cases h:10<=n
  .rw[if_pos h,bQI,i (n / 10) (by omega)];show 10*_+(((UInt8.ofNat (48+n % 10)).toNat:Int)-48)=_;rw[hd];omega
  rw[if_neg h];show 10*0+(((UInt8.ofNat (48+n % 10)).toNat:Int)-48)=_;rw[hd];omega
theorem QK(n:Nat):(dk n).all fq=true:=by
 induction n using Nat.strongRecOn with
 |ind n i=>
  have hd:fq (UInt8.ofNat (48+n % 10))=true:=by unfold fq;rw[QI (mZV n (by decide:0<10))];have:=mZV n (by decide:0<10);simp;omega
  unfold dk;by_cases h:10<=n
  .rw[if_pos h,List.all_append,i (n / 10) (by omega),mXY,hd];rfl
  rw[if_neg h,mXY,hd];rfl
theorem cXT(n:Nat):dk n≠[]:=by unfold dk;split<;>simp
theorem cH.cXV(n:Nat){t:By}{w:List Wd}(f:n<2^62)(e:Bd fq t=true)(h:cH t w):cH (dk n++t) (⟨2,n,aM []⟩::w):=by
 obtain⟨c,m,d⟩:∃c m,dk n=c::m:=by
  cases b:dk n with
  |nil=>exact absurd b (cXT n)
  |cons c m=>exact⟨c,m,rfl⟩
 have a:=QK n;have v:=cXU n;rw[d]at a v |-;rw[mXY,mQQ]at a;exact cH.num a.1 a.2 v (by omega) e h
set_option maxRecDepth 100000
set_option maxHeartbeats 8000000
open Go.Sx
def Ea:By:=[105,110,115,101,114,116,32,105,110,116,111,32,116,97,32,118,97,108,117,101,115,32,40]
def wd(l:By):Wd:=⟨1,0,aM l⟩
def Ax(c:UInt8):Wd:=⟨4,0,aM [c]⟩
def ur(n:Int):Wd:=⟨2,n,aM []⟩
def dQR(x:By):Wd:=⟨3,0,aM x⟩
def eQW:List Wd:=[Ax 41]
theorem cH.close:cH [41] eQW:=cH.sign rfl (by decide) (by decide) cH.nil
theorem cH.comma{t:By}{w:List Wd}(h:cH t w):cH (44::32::t) (Ax 44::w):=cH.sign rfl (by decide) (by decide) (cH.sp h)
def mN(es:List (List Nd)):aJ:={ kind:=3,table:=aM [116,97],exprs:=es }
def iN(a:Int):cO:=⟨2,a,b0⟩
def iT(x:By):cO:=⟨3,0,aM x⟩
def oH:Wd:=⟨0,0,aM []⟩
def jB:ByteArray:=aM [116,97]
def Cn:DB:=(dy eY 0).1
def lU:DB:=(aL Cn ⟨0,jB,true⟩).1
def tB:DB:=(aL lU ⟨0,jB,true⟩).1
theorem np(a:Int):fv (iN a)=0:=by simp[fv,iN,vU,pT,aM];show((0:Nat):Int)<=60;omega
theorem xd{x:By}(hx:x.length<=60):fv (iT x)=0:=by
 have h:(aM x).size=x.length:=by simp[aM,ByteArray.size]
 have a:¬((aM x).size:Int)>60:=by omega
 simp[fv,iT,vU,pT,a]
theorem eQt(a:Int):dx ⟨nA,2,false⟩ (iN a)=0:=by unfold dx;rw[np];rfl
theorem Un{x:By}(hx:x.length<=60):dx ⟨⟨#[98]⟩,3,true⟩ (iT x)=0:=by unfold dx;rw[xd hx];rfl
theorem zD{a:Int}{w:cO}(b:dx ⟨⟨#[98]⟩,3,true⟩ w=0):dg bp [iN a,w]=0:=by have h:dg bp [iN a,w]=fP [dx ⟨nA,2,false⟩ (iN a),dx ⟨⟨#[98]⟩,3,true⟩ w]:=rfl;rw[h,eQt,b];rfl
def vY(r:Row):DB:=⟨tB.az.set 0 (AE (dZ 0) 0 r),tB.aq.set 0 ⟨0,[]++[⟨jB,1,r⟩],[]⟩,tB.holds,tB.waits⟩
open Go.Sx Go.Proofs
variable {w:List Wd}{n:Nat}{k:Value->ad->Prop}{h:ad}
theorem bKd{P:Program}{s d e:TypeId}(f:P.underlying s=some (.slice e))(b:P.underlying e=some (.int .u8))(hd:P.underlying d=some .string){z:Int}{t:Nat}(g:h n=some (.cells #[.int .u8 z] t (0,0)))
 (c:k (.string (aM [UInt8.ofNat z.toNat])) h):fW (λ_=>P) (λ_=>Go.convert s d (.slice (some ⟨n,0,none⟩) 1 1)) h k:=
 ⟨λw a=>⟨_,w,h,run_convert_bytes_arg w s e f b n 0 1 1 [z] rfl (λi j=>by
  have:i=0:=by omega
  subst this;exact((⟨rfl,_,t,g,rfl⟩:vr h ⟨n,0,none⟩ (.int .u8 z)).cell a).1) d hd,c,bW.refl a⟩⟩
theorem QJ(n:Nat):(dk n).length<=n+1:=by
 induction n using Nat.strongRecOn with
 |ind n i=>
  unfold dk;by_cases h:10<=n
  .rw[if_pos h,mQy];have:=i (n / 10) (by omega);simp only[mQM,mQS];omega
  rw[if_neg h];simp only[mQM,mQS];omega
theorem aXi:Tryz.prog.underlying 5=some (.int .u8):=by kernel_rfl
theorem ZP:Tryz.prog.underlying 325=some (.slice 5):=by kernel_rfl
theorem XK:Tryz.prog.underlying 9=some .string:=by kernel_rfl
theorem dXc(u:Nat):∀(z:Int),z=(u:Int)->u<2^60->∀(h:ad) {k:Value->ad->Prop},(∀h',Le h h'->k (.string (aM (dk u))) h')->Ct 140 [.int .u64 z] h k:=by
 induction u using Nat.strongRecOn with
 |ind u i=>
 intro z t G h k g;obtain⟨A,e⟩:=Ar.ex;have f:A .aI .geq z 10=decide (z>=10):=cf A ..;have T:A .bB .rem .u64 z 10=((u % 10:Nat):Int):=by rw[e.bB,t];show((u:Int)).tmod 10=_;rw[nQx (by omega)];omega
 have d:A .bB .quo .u64 z 10=((u / 10:Nat):Int):=by rw[e.bB,t];show IntKind.wrap .u64 ((u:Int).tdiv 10)=_;rw[mKx (by omega)];rw[IntWalk.u64_in _ (by omega)];omega
 have n:A .bB .add .u64 48 ((u % 10:Nat):Int)=((48+u % 10:Nat):Int):=by rw[e.bB];show IntKind.wrap .u64 (48+((u % 10:Nat):Int))=_;rw[IntWalk.u64_in _ (by omega)];omega
 have Z:A .conv .u8 ((48+u % 10:Nat):Int)=((48+u % 10:Nat):Int):=by rw[e.conv];show IntKind.wrap .u8 ((48+u % 10:Nat):Int)=_;exact IntWalk.u8_in _ (by omega)
 obtain⟨j,J⟩:∃j:Int,j=((u % 10:Nat):Int):=⟨_,rfl⟩;obtain⟨q,r⟩:∃q:Int,q=((u / 10:Nat):Int):=⟨_,rfl⟩;obtain⟨s,m⟩:∃s:Int,s=((48+u % 10:Nat):Int):=⟨_,rfl⟩;have H:s.toNat=48+u % 10:=by omega
 rw[<-J]at T n;rw[<-m]at n Z;rw[<-r]at d;by_cases N:10<=u
 .have f:A .aI .geq z 10=true:=by rw[f,mQR];omega
  have L:dk u=dk (u / 10)++dk (u % 10):=by rw[dk,if_pos N];congr 1;rw[dk,if_neg (by omega),Nat.mod_mod]
  have x:∀(h:ad) {k:Value->ad->Prop},(∀h',Le h h'->k (.string (aM (dk (u / 10)))) h')->Ct 140 [.int .u64 q] h k:=i (u / 10) (by omega) q r (by omega);have y:∀(h:ad) {k:Value->ad->Prop},(∀h',Le h h'->k (.string (aM (dk (u % 10)))) h')->Ct 140 [.int .u64 j] h k:=i (u % 10) (by omega) j J (by omega);have E:=QJ (u / 10);have F:=QJ (u % 10);rw[L]at g;generalize dk (u / 10)=a at *;generalize dk (u % 10)=b at *;have X:(((aM a).size+(aM b).size:Nat):Int)<=2^62:=by rw[ep,ep];omega
  have I:A .cat (aM a) (aM b)=aM (a++b):=by rw[e.cat];exact py ..
  clear L E F n Z i;generalize aM a=K at *;generalize aM b=M at *;generalize aM (a++b)=D at *;refine mQF lZy A Tryz.func140 ?_;cbv;rw[f];cbv;refine⟨by decide,?_⟩;cbv;rw[d];refine x h (λc p=>?_);cbv;refine⟨by decide,?_⟩;cbv;rw[T];refine y c (λw B=>?_);have l:=g w (p.trans B);cbv;refine⟨X,?_⟩;cbv;rw[I];exact l
 have f:A .aI .geq z 10=false:=by rw[f,decide_eq_false_iff_not];omega
 have L:dk u=[UInt8.ofNat s.toNat]:=by rw[dk,if_neg N,H]
 rw[L]at g;clear L i d;refine mQF lZy A Tryz.func140 ?_;cbv;rw[f];cbv;refine⟨by decide,?_⟩;cbv;rw[T,n,Z];intro C c f o;have p:Le h c:=by rw[o];exact Le.set f
 have v:c C=some (.cells #[.int .u8 s] 5 (0,0)):=by rw[o];exact ae
 have l:=g c p;clear o g;cbv;refine bKd ZP aXi XK v ?_;generalize aM [UInt8.ofNat s.toNat]=D at *;cbv;exact l
theorem yr(u:Nat)(z:Int)(b:z=(u:Int))(a:u<2^60)(h:ad)(j:∀h',Le h h'->k (.string (aM (dk u))) h'):Ct 60 [.int .i64 z] h k:=by
 obtain⟨A,g⟩:=Ar.ex;have d:A .aI .lss z 0=false:=by rw[bm A,decide_eq_false_iff_not];omega
 have f:A .conv .u64 z=z:=by rw[g.conv];exact IntWalk.u64_in _ (by omega)
 have i:= @dXc u z b a;clear b a;generalize aM (dk u)=s at *;refine mQF jKs A Tryz.func60 ?_;cbv;rw[d];cbv;rw[f];refine i h (λe l=>?_);have c:=j e l;cbv;exact c
theorem Mb:∀x:By,(Dx x).length<=2*x.length
 | []=>mQD _
 |c::x=>by
  have:=Mb x;unfold Dx;split<;>simp only[mQM]<;>omega
def DZ(x:By):By:=39::(Dx x++[39])
def cQl(i:Nat)(x:By):List By:=[dk i++([44,32]++DZ x),dk i,dk i++([44,32]++(DZ x++[44,32,49])),DZ x++([44,32]++DZ x),[110,117,108,108,44,32]++DZ x,dk i++[32,43,32,49,32,42,32,50,44,32,110,117,108,108],dk i++[44,32,97]]
def Js(k i:Nat)(x:By):Row:=if k=5 then [iN ((i:Int)+2),v0]else [iN i,iT x]
theorem DY{x t:By}(hx:x.length<=60)(a:Bd cQb t=true)(h:cH t w):cH (DZ x++t) (dQR x::w):=by
 have:DZ x++t=39::(Dx x++39::t):=by simp[DZ]
 rw[this];exact cH.kXw x hx a h
theorem Mh{t:By}(a:Bd uN t=true)(h:cH t w):cH ([110,117,108,108]++t) (wd [110,117,108,108]::w):=cH.name [117,108,108] rfl rfl a h
theorem iX:Nm b0:=⟨oh.2 (λc h=>by cases h),by decide⟩
theorem rJ{v:cO}(h:kM v):Nm (lit v).name/\kM (lit v).v:=⟨iX,h⟩
theorem xN(op a b:Int):Nm (bin op a b).name/\kM (bin op a b).v:=⟨iX,kA⟩
theorem vZ{a:Int}(h:-2^63<=a/\a<2^63):kM (iN a):=jP.2 (by show _<=a/\a<=_;omega)
theorem HQ(x:By):kM (iT x):=by show rr 0=true;decide
structure gZq(i:Nat)(x X:By)(k:Nat)(w:Int):Prop where
 all:∃es D1,cL ao (aM (Ea++(X++[41])))=(mN es,0)/\bJ (aM (Ea++(X++[41])))=true/\dr (mN es)/\iD Cn 0 (mN es)=(D1,[],w)/\(w≠0->D1=lU)/\(w=0->D1=vY (Js k i x)/\(iD D1 0 (mN es)).2.2=7)
theorem nL(n:Nat)(h:n<1000):(dk n).length<=3:=by
 rw[dk];split
 .rw[mQy,dk];split
  .rw[mQy,dk,if_neg (by omega)];simp only[mQM,mQS];omega
  simp only[mQM,mQS];omega
 simp only[mQM,mQS];omega
theorem pK(v:cO)(l:List Int)(cols:List cK):Ag (lit v) l cols=(v.k,fv v):=rfl
theorem bXZ{v:cO}(h:fv v=0)(cols:List cK):jv [lit v] cols=(v.k,0):=by
 have e:eK cols [lit v] []=([v.k],0):=by rw[gP,pK,h];rfl
 unfold jv;rw[if_neg (by simp),e];rfl
theorem lC{v:cO}(h:fv v=0)(cols:List cK)(r:Row):eP [lit v] cols r=(v,0):=by unfold eP;rw[bXZ h];rfl
theorem iG{x:List Nd}{v:cO}{cols:List cK}{r:Row}(h:eP x cols r=(v,0))(xs:List (List Nd))(l:Row):pF cols r (x::xs) l=pF cols r xs (l++[v]):=by rw[rB,h];rfl
theorem RY:fv v0=0:=by decide
theorem Bw{v w:cO}(h:fv v=0)(a:fv w=0):bS [[lit v],[lit w]] [] []=([v,w],0):=by unfold bS;rw[iG (lC h _ _),iG (lC a _ _)];rfl
theorem Iw(a:cO):re a a=true:=by simp[re]
theorem Hg{xs:Row}{c d:Option Addr}{f p r:Nat}(q:Sl 86 bq h (.slice c f p) xs)(l:Sl 86 bq h (.slice d n r) xs)(t:k (.bool true) h):
 Ct 30 [.slice c f p,.slice d n r] h k:=by
 obtain⟨A,v⟩:=Ar.ex;have B:=q.len;have C:=l.len;have E:=q.bound.1;have K:n=f:=by omega
 subst K;have y:A .not true=false:=by rw[v.not];rfl
 have i:A .aI .neq (A .nat n) (A .nat n)=false:=by rw[aC A];simp
 obtain⟨I,Y⟩:∃I:Nat->Int->ad->Prop,∀m g h',I m g h'=∃j,aS g j/\m=n-j/\j<=n/\h'=h:=⟨_,λ_ _ _=>rfl⟩;have J:I n 0 h:=by rw[Y];exact⟨0,⟨rfl⟩,rfl,mQC _,rfl⟩
 refine mQF jKR A Tryz.func30 ?_;cbv;rw[i];cbv;refine aX.go (G:=Int) (λg=>[(5,.v (.int .i64 g))]) (λ_=>[]) (λm g h'=>I m g h') n 0 (by constructor<;>cbv) J ?_
 intro m z h' s;rw[Y]at s;cbv;obtain⟨j,b,H,F,rfl⟩:=s;have u:A .aI .lss z (A .nat n)=decide (j<n):=b.iJ (aS.nat n);rw[u];by_cases P:j<n
 .obtain⟨x,hx⟩:=mQA xs j;have Q:c.isSome=true/\0<=z/\z<(n:Int):=⟨q.aT,b.ix P⟩;have w:d.isSome=true/\0<=z/\z<(n:Int):=⟨l.aT,b.ix P⟩;have N:=b.eq;have Z:=b.succ (A:=A);obtain⟨o,L⟩:∃o,A .bB .add .i64 z 1=o:=⟨_,rfl⟩;rw[L]at Z;have D:I (n-(j+1)) o h':=by rw[Y];exact⟨j+1,Z,rfl,P,rfl⟩
  have V:n-(j+1)<m:=by omega
  have e:=(pA A x x).trans (Iw x);clear Y J t;rw[mQu P];cbv;refine⟨Q,?_⟩;cbv;refine q.load hx N (λcs a=>?_);replace a:cs=[.int .i64 x.k,.int .i64 x.n,.string x.s]:=a;subst a;cbv;refine⟨w,?_⟩;cbv;refine l.load hx N (λcs a=>?_);replace a:cs=[.int .i64 x.k,.int .i64 x.n,.string x.s]:=a;subst a;cbv;rw[e,y];cbv;rw[L];refine⟨_,_,V,by constructor<;>cbv,D⟩
 rw[mQv P];clear Y J;cbv;exact t
theorem ME:EJ 0 Cn:=IP rE (by decide) 0 (by kernel_rfl)
theorem IK{A:Ar}[h:bM A](a b:ByteArray):(A .cat a b).size=a.size+b.size:=by rw[h.cat];exact GX a b
end Go.S
