import Derived.Test.YtekoaiendgjkdaaGreatUA
import Derived.Test.YtekoaiendgjkdaaGreatDB
import Derived.Test.YtekoaiendgjkdaaGreatQC
import Derived.Test.YtekoaiendgjkdaaGreatQA
import Derived.Test.YtekoaiendgjkdaaGreatEC
import Derived.Test.YtekoaiendgjkdaaGreatHA
import Derived.Test.YtekoaiendgjkdaaGreatRd
import Derived.Test.YtekoaiendgjkdaaGreatTab
import Derived.Test.YtekoaiendgjkdaaGreatDA
import Derived.Test.YtekoaiendgjkdaaGreatVB
import Derived.Laws.BytesArg
import Derived.Test.YtekoaiendgjkdaaGreatX
set_option linter.unusedVariables false
set_option linter.unusedSimpArgs false
set_option linter.unusedSectionVars false
namespace Go.S
def Bd(f:UInt8->Bool):By->Bool
 | []=>true
 |c::_=> !f c
theorem xO{t:By}(ht:Bd uN t=true):∀(n:By),n.all uN=true->eU (n++t)=n.length
 | [],_=>by
  cases t with
  |nil=>rfl
  |cons c t=>
   have:uN c=false:=by simpa[Bd]using ht
   show eU (c::t)=0;unfold eU;rw[this]
 |c::n,h=>by
  rw[mXS,mQG]at h;show eU (c::(n++t))=_;unfold eU;rw[h.1];show eU (n++t)+1=_;rw[xO ht n h.2];rfl
def dv:Int->By->Int
 |n,[]=>n
 |n,c::t=>dv (10*n+((c.toNat:Int)-48)) t
theorem Nk{c:UInt8}(h:fq c=true):48<=c.toNat/\c.toNat<=57:=by unfold fq at h;simpa using h
theorem dQd:∀(t:By) (n:Int),0<=n->t.all fq=true->n<=dv n t
 | [],n,_,_=>mXp _
 |c::t,n,hn,h=>by
  rw[mXS,mQG]at h;have:=Nk h.1;have h2:=dQd t (10*n+((c.toNat:Int)-48)) (by omega) h.2;show n<=dv (10*n+((c.toNat:Int)-48)) t;omega
theorem OX{t:By}(ht:Bd fq t=true):∀(n:By) (v:Int),n.all fq=true->0<=v->dv v n<=9223372036854775807->nG (n++t) v=((dv v n,t),0)
 | [],v,_,_,_=>by
  cases t with
  |nil=>rfl
  |cons c t=>
   have:fq c=false:=by simpa[Bd]using ht
   show nG (c::t) v=_;unfold nG;rw[this];rfl
 |c::n,v,hn,hv,hm=>by
  rw[mXS,mQG]at hn;have hc:=Nk hn.1;have hm:dv (10*v+((c.toNat:Int)-48)) n<=9223372036854775807:=hm;have lN:=dQd n (10*v+((c.toNat:Int)-48)) (by omega) hn.2;show nG (c::(n++t)) v=_;unfold nG;rw[hn.1];have hle:¬v>(9223372036854775807-((c.toNat:Int)-48)) / 10:=by omega
  show(if v>(9223372036854775807-((c.toNat:Int)-48)) / 10 then _ else _)=_;rw[if_neg hle,OX ht n _ hn.2 (by omega) hm];rfl
def Dx:By->By
 | []=>[]
 |c::t=>if c.toNat=39 then 39::39::Dx t else c::Dx t
def cQb(c:UInt8):Bool:=decide (c.toNat=39)
theorem DN{t:By}(ht:Bd cQb t=true):∀(x out:By),out.length+x.length<=60->iH (Dx x++39::t) out=((out++x,t),0)
 | [],out,ho=>by
  have e3:¬out.length>60:=by simp at ho;omega
  rw[mQF];cases t with
  |nil=>show(if out.length>60 then _ else _)=_;rw[if_neg e3]
  |cons d t=>
   have hd:decide (d.toNat=39)=false:=by simpa[Bd,cQb]using ht
   show(match decide (d.toNat=39)with
    |true=>iH t (out++[39])
    |false=>if out.length>60 then(([],[]),5)else((out,d::t),0))=_
   rw[hd];show(if out.length>60 then _ else _)=_;rw[if_neg e3]
 |c::x,out,ho=>by
  by_cases hc:c.toNat=39
  ·have hq:Dx (c::x)=39::39::Dx x:=by show(if c.toNat=39 then _ else _)=_;rw[if_pos hc]
   rw[hq];have Ij:c=39:=by rw[<-mXG];exact hc
   show iH (Dx x++39::t) (out++[39])=_;rw[DN ht x _ (by simp at ho |-;omega),Ij];simp
  ·have hq:Dx (c::x)=c::Dx x:=by show(if c.toNat=39 then _ else _)=_;rw[if_neg hc]
   rw[hq];show iH (c::(Dx x++39::t)) out=_;unfold iH;rw[nM hc];show iH (Dx x++39::t) (out++[c])=_;rw[DN ht x _ (by simp at ho |-;omega)];simp
def cH(t:By)(ws:List Wd):Prop:=∀(fuel:Nat) (l:List Wd),t.length<fuel->nK fuel t l=(l++(ws++[⟨0,0,aM []⟩]),0)
theorem cH.nil:cH [] []:=fun fuel l hf=>by
 match fuel,hf with
 |k+1,_=>rfl
theorem cH.sp{t:By}{ws:List Wd}(h:cH t ws):cH (32::t) ws:=fun fuel l hf=>by
 match fuel,hf with
 |k+1,hf=>exact h k l (by simp at hf;omega)
theorem cH.step{c:UInt8}{r t:By}{w:Wd}{ws:List Wd}(MK:Ck c=false)(hn:ll c r=((w,t),0))(hl:t.length<=r.length)(h:cH t ws):cH (c::r) (w::ws):=fun fuel l hf=>by
 match fuel,hf with
 |k+1,hf=>
  show(match Ck c with
   |true=>nK k r l
   |false=>match ll c r with
    | (p,e)=>if e=0 then nK k p.2 (l++[p.1])else([],e))=_
  rw[MK,hn];show nK k t (l++[w])=_;rw[h k _ (by simp at hf;omega)];simp
theorem aJr{c:UInt8}(h:isLet c=true):Ck c=false:=by unfold isLet at h;unfold Ck;simp at h |-;omega
theorem eQM{c:UInt8}(h:fq c=true):Ck c=false:=by unfold fq at h;unfold Ck;simp at h |-;omega
theorem cXS{c:UInt8}(h:fq c=true):isLet c=false:=by unfold fq at h;unfold isLet;simp at h |-;omega
theorem cH.name{c:UInt8}(n:By){t:By}{ws:List Wd}(hc:isLet c=true)(hn:n.all uN=true)(ht:Bd uN t=true)(h:cH t ws):cH (c::(n++t)) (⟨1,0,aM (c::n)⟩::ws):=by
 refine cH.step (aJr hc) ?_ (by simp) h;have hl:=xO ht (c::n) (by
  rw[mXS,hn,mZJ];unfold uN;rw[hc];rfl)
 rw[mJm]at hl;unfold ll;rw[hc,hl];show((((⟨1,0,aM (((c::n)++t).take (c::n).length)⟩:Wd),((c::n)++t).drop (c::n).length),(0:Int)):(Wd×By)×Int)=_;rw[mKH,mKj]
theorem cH.num{c:UInt8}{n t:By}{ws:List Wd}{v:Int}(hc:fq c=true)(hn:n.all fq=true)(hv:dv 0 (c::n)=v)(hm:v<=9223372036854775807)(ht:Bd fq t=true)(h:cH t ws):cH (c::(n++t)) (⟨2,v,aM []⟩::ws):=by refine cH.step (eQM hc) ?_ (by simp) h;have he:=OX ht (c::n) 0 (by rw[mXS,hn,hc];rfl) (mXp _) (by rw[hv];exact hm);rw[hv,mJm]at he;unfold ll;rw[cXS hc,hc,he]
theorem cH.kXw(x:By){t:By}{ws:List Wd}(hx:x.length<=60)(ht:Bd cQb t=true)(h:cH t ws):cH (39::(Dx x++39::t)) (⟨3,0,aM x⟩::ws):=by
 refine cH.step rfl ?_ (by simp;omega) h;have he:=DN ht x [] (by simpa using hx);show(match iH (Dx x++39::t) []with
  | (p,e)=>((⟨3,0,aM p.1⟩,p.2),e):(Wd×By)×Int)=_
 rw[he];rfl
theorem cH.sign{c:UInt8}{t:By}{ws:List Wd}(hc:ns.contains c.toNat=true)(so:c.toNat≠60)(Zf:c.toNat≠62)(h:cH t ws):cH (c::t) (⟨4,0,aM [c]⟩::ws):=by
 have oq:=hc;unfold ns at oq;have e1:isLet c=false:=by unfold isLet;simp at oq |-;omega
 have e2:fq c=false:=by unfold fq;simp at oq |-;omega
 have e3:decide (c.toNat=39)=false:=by simp at oq |-;omega
 have e0:Ck c=false:=by unfold Ck;simp at oq |-;omega
 have hs:mf (c::t)=1:=by
  cases t with
  |nil=>show(if ns.contains c.toNat then 1 else 0)=_;rw[if_pos hc]
  |cons d t=>
   have:Jk c d=false:=by unfold Jk;rw[nM so,nM Zf];rfl
   show(if Jk c d then 2 else if ns.contains c.toNat then 1 else 0)=_;rw[this,if_pos hc];rfl
 refine cH.step e0 ?_ (mQt _) h;unfold ll;rw[e1,e2,e3,hs];rfl
theorem wW{s:ByteArray}{ws:List Wd}(hl:s.size<=600)(h:cH s.data.toList ws):iq s=(ws++[⟨0,0,aM []⟩],0):=by unfold iq;rw[if_neg (by omega)];exact h _ [] (by show s.data.toList.length<s.data.size+1;rw[mXV];omega)
def rD(ok:ByteArray->Bool)(w:List Wd):aJ×Int:=
 let r:=PS.stmt ok ⟨w,0,[]⟩;let p:PS:=r.2;let p:PS:=match p.ws with
  |w::_=>if p.err=0/\w.k≠0 then p.fail 6 else p
  | []=>p
 if p.err=0/\r.1.1.kind=1 then
  match jR r.1.1.sE.cols r.1.2 0 with
  |some k=>({ r.1.1 with sE:={ r.1.1.sE with key:=(k:Int) } },(0:Int))
  |none=>({},(2:Int))
 else if p.err≠0 then({},p.err)else(r.1.1,0)
theorem xy{ok:ByteArray->Bool}{s:ByteArray}{w:List Wd}(h:iq s=(w,0)):cL ok s=rD ok w:=by unfold cL;rw[h];rfl
def dk(n:Nat):By:=if 10<=n then dk (n / 10)++[UInt8.ofNat (48+n % 10)]else [UInt8.ofNat (48+n % 10)]
 termination_by n
 decreasing_by omega
theorem bQI:∀(a b:By) (n:Int),dv n (a++b)=dv (dv n a) b
 | [],b,n=>rfl
 |c::a,b,n=>by
  rw[mJm];exact bQI a b _
theorem QI{d:Nat}(h:d<10):(UInt8.ofNat (48+d)).toNat=48+d:=by rw[mZo];omega
theorem cXU(n:Nat):dv 0 (dk n)=n:=by
 induction n using Nat.strongRecOn with
 |ind n ih=>
  unfold dk;have hd:=QI (mZy n (by decide:0<10));by_cases hn:10<=n
  ·rw[if_pos hn,bQI,ih (n / 10) (by omega)];show 10*_+(((UInt8.ofNat (48+n % 10)).toNat:Int)-48)=_;rw[hd];omega
  ·rw[if_neg hn];show 10*0+(((UInt8.ofNat (48+n % 10)).toNat:Int)-48)=_;rw[hd];omega
theorem QK(n:Nat):(dk n).all fq=true:=by
 induction n using Nat.strongRecOn with
 |ind n ih=>
  have hd:fq (UInt8.ofNat (48+n % 10))=true:=by unfold fq;rw[QI (mZy n (by decide:0<10))];have:=mZy n (by decide:0<10);simp;omega
  unfold dk;by_cases hn:10<=n
  ·rw[if_pos hn,List.all_append,ih (n / 10) (by omega),mXS,hd];rfl
  ·rw[if_neg hn,mXS,hd];rfl
theorem cXT(n:Nat):dk n≠[]:=by unfold dk;split<;>simp
theorem cH.cXV(n:Nat){t:By}{ws:List Wd}(hn:n<2^62)(ht:Bd fq t=true)(h:cH t ws):cH (dk n++t) (⟨2,n,aM []⟩::ws):=by
 obtain⟨c,m,hm⟩:∃c m,dk n=c::m:=by
  cases hh:dk n with
  |nil=>exact absurd hh (cXT n)
  |cons c m=>exact⟨c,m,rfl⟩
 have ha:=QK n;have hv:=cXU n;rw[hm]at ha hv |-;rw[mXS,mQG]at ha;exact cH.num ha.1 ha.2 hv (by omega) ht h
set_option maxRecDepth 100000
set_option maxHeartbeats 8000000
open Go.Sx
def Ea:By:=[105,110,115,101,114,116,32,105,110,116,111,32,116,97,32,118,97,108,117,101,115,32,40]
def wd(l:By):Wd:=⟨1,0,aM l⟩
def Ax(c:UInt8):Wd:=⟨4,0,aM [c]⟩
def ur(n:Int):Wd:=⟨2,n,aM []⟩
def dQR(x:By):Wd:=⟨3,0,aM x⟩
def eQW:List Wd:=[Ax 41]
theorem cH.close:cH [41] eQW:=cH.sign rfl (by decide) (by decide) cH.nil
theorem cH.comma{t:By}{ws:List Wd}(h:cH t ws):cH (44::32::t) (Ax 44::ws):=cH.sign rfl (by decide) (by decide) (cH.sp h)
def mN(es:List (List Nd)):aJ:={ kind:=3,table:=aM [116,97],exprs:=es }
def iN(a:Int):cO:=⟨2,a,b0⟩
def iT(x:By):cO:=⟨3,0,aM x⟩
def oH:Wd:=⟨0,0,aM []⟩
def jB:ByteArray:=aM [116,97]
def Cn:DB:=(dy eY 0).1
def lU:DB:=(aL Cn ⟨0,jB,true⟩).1
def tB:DB:=(aL lU ⟨0,jB,true⟩).1
theorem np(a:Int):fv (iN a)=0:=by simp[fv,iN,vU,pT,aM];show((0:Nat):Int)<=60;omega
theorem xd{x:By}(hx:x.length<=60):fv (iT x)=0:=by
 have h:(aM x).size=x.length:=by simp[aM,ByteArray.size]
 have h2:¬((aM x).size:Int)>60:=by omega
 simp[fv,iT,vU,pT,h2]
theorem eQt(a:Int):dx ⟨nA,2,false⟩ (iN a)=0:=by unfold dx;rw[np];rfl
theorem Un{x:By}(hx:x.length<=60):dx ⟨⟨#[98]⟩,3,true⟩ (iT x)=0:=by unfold dx;rw[xd hx];rfl
theorem zD{a:Int}{w:cO}(hw:dx ⟨⟨#[98]⟩,3,true⟩ w=0):dg bp [iN a,w]=0:=by have h:dg bp [iN a,w]=fP [dx ⟨nA,2,false⟩ (iN a),dx ⟨⟨#[98]⟩,3,true⟩ w]:=rfl;rw[h,eQt,hw];rfl
def vY(r:Row):DB:=⟨tB.az.set 0 (AE (dZ 0) 0 r),tB.aq.set 0 ⟨0,[]++[⟨jB,1,r⟩],[]⟩,tB.holds,tB.waits⟩
open Go.Sx Go.Proofs
theorem bKd{P:Program}{src dst e:TypeId}(hs:P.underlying src=some (.slice e))(he:P.underlying e=some (.int .u8))(hd:P.underlying dst=some .string){n:Nat}{z:Int}{t:Nat}{h:ad}(g:h n=some (.cells #[.int .u8 z] t (0,0))){k:Value->ad->Prop}
 (hk:k (.string (aM [UInt8.ofNat z.toNat])) h):fW (fun _=>P) (fun _=>Go.convert src dst (.slice (some ⟨n,0,none⟩) 1 1)) h k:=
 ⟨fun w hw=>⟨_,w,h,run_convert_bytes_arg w src e hs he n 0 1 1 [z] rfl (fun i hi=>by
  have:i=0:=by omega
  subst this;exact((⟨rfl,_,t,g,rfl⟩:vr h ⟨n,0,none⟩ (.int .u8 z)).cell hw).1) dst hd,hk,bW.refl hw⟩⟩
theorem QJ(n:Nat):(dk n).length<=n+1:=by
 induction n using Nat.strongRecOn with
 |ind n ih=>
  unfold dk;by_cases hn:10<=n
  ·rw[if_pos hn,nX];have:=ih (n / 10) (by omega);simp only[mQx,mQK];omega
  ·rw[if_neg hn];simp only[mQx,mQK];omega
theorem aXi:Tryz.prog.underlying 5=some (.int .u8):=by kernel_rfl
theorem ZP:Tryz.prog.underlying 208=some (.slice 5):=by kernel_rfl
theorem XK:Tryz.prog.underlying 9=some .string:=by kernel_rfl
theorem dXc(u:Nat):∀(z:Int),z=(u:Int)->u<2^60->∀(h:ad) {k:Value->ad->Prop},(∀h',Le h h'->k (.string (aM (dk u))) h')->Ct 52 [.int .u64 z] h k:=by
 induction u using Nat.strongRecOn with
 |ind u ih=>
 intro z hz hu h k hk;obtain⟨A,hA⟩:=Ar.ex;have f1:A .aI .geq z 10=decide (z>=10):=cf A ..;have Tq:A .bB .rem .u64 z 10=((u % 10:Nat):Int):=by rw[hA.bB,hz];show((u:Int)).tmod 10=_;rw[mKG (by omega)];omega
 have dJU:A .bB .quo .u64 z 10=((u / 10:Nat):Int):=by rw[hA.bB,hz];show IntKind.wrap .u64 ((u:Int).tdiv 10)=_;rw[mJN (by omega)];rw[IntWalk.u64_in _ (by omega)];omega
 have nW:A .bB .add .u64 48 ((u % 10:Nat):Int)=((48+u % 10:Nat):Int):=by rw[hA.bB];show IntKind.wrap .u64 (48+((u % 10:Nat):Int))=_;rw[IntWalk.u64_in _ (by omega)];omega
 have fZj:A .conv .u8 ((48+u % 10:Nat):Int)=((48+u % 10:Nat):Int):=by rw[hA.conv];show IntKind.wrap .u8 ((48+u % 10:Nat):Int)=_;exact IntWalk.u8_in _ (by omega)
 obtain⟨zr,aJY⟩:∃zr:Int,zr=((u % 10:Nat):Int):=⟨_,rfl⟩;obtain⟨zq,dJr⟩:∃zq:Int,zq=((u / 10:Nat):Int):=⟨_,rfl⟩;obtain⟨zs,dJq⟩:∃zs:Int,zs=((48+u % 10:Nat):Int):=⟨_,rfl⟩;have HR:zs.toNat=48+u % 10:=by omega
 rw[<-aJY]at Tq nW;rw[<-dJq]at nW fZj;rw[<-dJr]at dJU;by_cases lN:10<=u
 ·have f1:A .aI .geq z 10=true:=by rw[f1,mQD];omega
  have hL:dk u=dk (u / 10)++dk (u % 10):=by rw[dk,if_pos lN];congr 1;rw[dk,if_neg (by omega),Nat.mod_mod]
  have i1:∀(h:ad) {k:Value->ad->Prop},(∀h',Le h h'->k (.string (aM (dk (u / 10)))) h')->Ct 52 [.int .u64 zq] h k:=ih (u / 10) (by omega) zq dJr (by omega);have i2:∀(h:ad) {k:Value->ad->Prop},(∀h',Le h h'->k (.string (aM (dk (u % 10)))) h')->Ct 52 [.int .u64 zr] h k:=ih (u % 10) (by omega) zr aJY (by omega);have z1:=QJ (u / 10);have z2:=QJ (u % 10);rw[hL]at hk;generalize dk (u / 10)=a at *;generalize dk (u % 10)=b at *;have mX:(((aM a).size+(aM b).size:Nat):Int)<=2^62:=by rw[ep,ep];omega
  have Ik:A .cat (aM a) (aM b)=aM (a++b):=by rw[hA.cat];exact py ..
  clear hL z1 z2 nW fZj ih;generalize aM a=sa at *;generalize aM b=sb at *;generalize aM (a++b)=sc at *;refine ah A (ax hQe.aK hQe.bF) Tryz.func52 rfl (by kernel_rfl) ?_;cbv;rw[f1];cbv;refine⟨by decide,?_⟩;cbv;rw[dJU];refine i1 h (fun h1 l1=>?_);cbv;refine⟨by decide,?_⟩;cbv;rw[Tq];refine i2 h1 (fun h2 l2=>?_);have af:=hk h2 (l1.trans l2);cbv;refine⟨mX,?_⟩;cbv;rw[Ik];exact af
 ·have f1:A .aI .geq z 10=false:=by rw[f1,decide_eq_false_iff_not];omega
  have hL:dk u=[UInt8.ofNat zs.toNat]:=by rw[dk,if_neg lN,HR]
  rw[hL]at hk;clear hL ih dJU;refine ah A (ax hQe.aK hQe.bF) Tryz.func52 rfl (by kernel_rfl) ?_;cbv;rw[f1];cbv;refine⟨by decide,?_⟩;cbv;rw[Tq,nW,fZj];intro nb h1 f1 e1;have l1:Le h h1:=by rw[e1];exact Le.set f1
  have g1:h1 nb=some (.cells #[.int .u8 zs] 5 (0,0)):=by rw[e1];exact ae
  have af:=hk h1 l1;clear e1 hk;cbv;refine bKd ZP aXi XK g1 ?_;generalize aM [UInt8.ofNat zs.toNat]=sc at *;cbv;exact af
theorem yr(u:Nat)(z:Int)(hz:z=(u:Int))(hu:u<2^60)(h:ad){k:Value->ad->Prop}(hk:∀h',Le h h'->k (.string (aM (dk u))) h'):Ct 27 [.int .i64 z] h k:=by
 obtain⟨A,hA⟩:=Ar.ex;have f1:A .aI .lss z 0=false:=by rw[bm A,decide_eq_false_iff_not];omega
 have fZj:A .conv .u64 z=z:=by rw[hA.conv];exact IntWalk.u64_in _ (by omega)
 have hc:= @dXc u z hz hu;clear hz hu;generalize aM (dk u)=sc at *;refine ah A (ax jKS.aK jKS.bF) Tryz.func27 rfl (by kernel_rfl) ?_;cbv;rw[f1];cbv;rw[fZj];refine hc h (fun h1 l1=>?_);have af:=hk h1 l1;cbv;exact af
theorem Mb:∀x:By,(Dx x).length<=2*x.length
 | []=>mQt _
 |c::x=>by
  have:=Mb x;unfold Dx;split<;>simp only[mQx]<;>omega
def DZ(x:By):By:=39::(Dx x++[39])
def cQl(i:Nat)(x:By):List By:=[dk i++([44,32]++DZ x),dk i,dk i++([44,32]++(DZ x++[44,32,49])),DZ x++([44,32]++DZ x),[110,117,108,108,44,32]++DZ x,dk i++[32,43,32,49,32,42,32,50,44,32,110,117,108,108],dk i++[44,32,97]]
def Js(k i:Nat)(x:By):Row:=if k=5 then [iN ((i:Int)+2),v0]else [iN i,iT x]
theorem DY{x t:By}{ws:List Wd}(hx:x.length<=60)(ht:Bd cQb t=true)(h:cH t ws):cH (DZ x++t) (dQR x::ws):=by
 have:DZ x++t=39::(Dx x++39::t):=by simp[DZ]
 rw[this];exact cH.kXw x hx ht h
theorem Mh{t:By}{ws:List Wd}(ht:Bd uN t=true)(h:cH t ws):cH ([110,117,108,108]++t) (wd [110,117,108,108]::ws):=cH.name [117,108,108] rfl rfl ht h
theorem iX:Nm b0:=⟨oh.2 (fun c hc=>by cases hc),by decide⟩
theorem rJ{v:cO}(h:kM v):Nm (lit v).name/\kM (lit v).v:=⟨iX,h⟩
theorem xN(op a b:Int):Nm (bin op a b).name/\kM (bin op a b).v:=⟨iX,kA⟩
theorem vZ{a:Int}(h:-2^63<=a/\a<2^63):kM (iN a):=jP.2 (by show _<=a/\a<=_;omega)
theorem HQ(x:By):kM (iT x):=by show rr 0=true;decide
structure gZq(i:Nat)(x X:By)(k:Nat)(w:Int):Prop where
 all:∃es D1,cL ao (aM (Ea++(X++[41])))=(mN es,0)/\bJ (aM (Ea++(X++[41])))=true/\dr (mN es)/\iD Cn 0 (mN es)=(D1,[],w)/\(w≠0->D1=lU)/\(w=0->D1=vY (Js k i x)/\(iD D1 0 (mN es)).2.2=7)
theorem nL(n:Nat)(h:n<1000):(dk n).length<=3:=by
 rw[dk];split
 ·rw[nX,dk];split
  ·rw[nX,dk,if_neg (by omega)];simp only[mQx,mQK];omega
  ·simp only[mQx,mQK];omega
 ·simp only[mQx,mQK];omega
theorem pK(v:cO)(l:List Int)(cols:List cK):Ag (lit v) l cols=(v.k,fv v):=rfl
theorem bXZ{v:cO}(h:fv v=0)(cols:List cK):jv [lit v] cols=(v.k,0):=by
 have e:eK cols [lit v] []=([v.k],0):=by rw[gP,pK,h];rfl
 unfold jv;rw[if_neg (by simp),e];rfl
theorem lC{v:cO}(h:fv v=0)(cols:List cK)(r:Row):eP [lit v] cols r=(v,0):=by unfold eP;rw[bXZ h];rfl
theorem iG{x:List Nd}{v:cO}{cols:List cK}{r:Row}(h:eP x cols r=(v,0))(xs:List (List Nd))(l:Row):pF cols r (x::xs) l=pF cols r xs (l++[v]):=by rw[rB,h];rfl
theorem RY:fv v0=0:=by decide
theorem Bw{v w:cO}(h:fv v=0)(h2:fv w=0):bS [[lit v],[lit w]] [] []=([v,w],0):=by unfold bS;rw[iG (lC h _ _),iG (lC h2 _ _)];rfl
theorem Iw(a:cO):re a a=true:=by simp[re]
theorem Hg{xs:Row}{h:ad}{b1 b2:Option Addr}{n1 c1 n2 c2:Nat}(q1:Sl 61 bq h (.slice b1 n1 c1) xs)(q2:Sl 61 bq h (.slice b2 n2 c2) xs){k:Value->ad->Prop}(hk:k (.bool true) h):
 Ct 28 [.slice b1 n1 c1,.slice b2 n2 c2] h k:=by
 obtain⟨A,hA⟩:=Ar.ex;have e1:=q1.len;have e2:=q2.len;have hb:=q1.bound.1;have dKf:n2=n1:=by omega
 subst dKf;have zd:A .not true=false:=by rw[hA.not];rfl
 have iJh:A .aI .neq (A .nat n2) (A .nat n2)=false:=by rw[aC A];simp
 obtain⟨I,aY⟩:∃I:Nat->Int->ad->Prop,∀m g h',I m g h'=∃j,aS g j/\m=n2-j/\j<=n2/\h'=h:=⟨_,fun _ _ _=>rfl⟩;have hJ:I n2 0 h:=by rw[aY];exact⟨0,⟨rfl⟩,rfl,mQr _,rfl⟩
 refine ah A (ax hQj.aK hQj.bF) Tryz.func28 rfl (by kernel_rfl) ?_;cbv;rw[iJh];cbv;refine aX.go (G:=Int) (fun g=>[(5,.v (.int .i64 g))]) (fun _=>[]) (fun m g h'=>I m g h') n2 0 ⟨?_,?_,?_⟩ hJ ?_
 ·cbv
 ·cbv
 ·cbv
 ·intro m z h' hI;rw[aY]at hI;cbv;obtain⟨j,hz,hm,hj,rfl⟩:=hI;have f1:A .aI .lss z (A .nat n2)=decide (j<n2):=hz.iJ (aS.nat n2);rw[f1];by_cases aP:j<n2
  ·obtain⟨x,hx⟩:=aE (xs:=xs) (i:=j) (by omega);have rQ:b1.isSome=true/\0<=z/\z<(n2:Int):=⟨q1.aT (by omega),hz.ix aP⟩;have jo:b2.isSome=true/\0<=z/\z<(n2:Int):=⟨q2.aT (by omega),hz.ix aP⟩;have cN:=hz.eq;have cZ:=hz.succ (A:=A) (by omega);obtain⟨z2,dL⟩:∃z2,A .bB .add .i64 z 1=z2:=⟨_,rfl⟩;rw[dL]at cZ;have cD:I (n2-(j+1)) z2 h':=by rw[aY];exact⟨j+1,cZ,rfl,aP,rfl⟩
   have iV:n2-(j+1)<m:=by omega
   have heq:=(pA A x x).trans (Iw x);clear aY hJ hk;rw[kS aP];cbv;refine⟨rQ,?_⟩;cbv;refine q1.load hx cN (fun cs ay=>?_);replace ay:cs=[.int .i64 x.k,.int .i64 x.n,.string x.s]:=ay;subst ay;cbv;refine⟨jo,?_⟩;cbv;refine q2.load hx cN (fun cs ay=>?_);replace ay:cs=[.int .i64 x.k,.int .i64 x.n,.string x.s]:=ay;subst ay;cbv;rw[heq,zd];cbv;rw[dL];refine⟨_,_,iV,⟨?_,?_,?_⟩,cD⟩
   ·cbv
   ·cbv
   ·cbv
  ·rw[nM aP];clear aY hJ;cbv;exact hk
theorem ME:EJ 0 Cn:=IP rE (by decide) 0 (by kernel_rfl)
theorem IK{A:Ar}[hA:bM A](a b:ByteArray):(A .cat a b).size=a.size+b.size:=by rw[hA.cat];exact GX a b
end Go.S
