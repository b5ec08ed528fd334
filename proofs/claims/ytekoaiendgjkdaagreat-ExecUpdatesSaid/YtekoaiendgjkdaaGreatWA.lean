import Derived.Test.YtekoaiendgjkdaaGreatUA
import Derived.Test.YtekoaiendgjkdaaGreatDB
import Derived.Test.YtekoaiendgjkdaaGreatQC
import Derived.Test.YtekoaiendgjkdaaGreatQA
import Derived.Test.YtekoaiendgjkdaaGreatEC
import Derived.Test.YtekoaiendgjkdaaGreatHA
import Derived.Test.YtekoaiendgjkdaaGreatRd
import Derived.Test.YtekoaiendgjkdaaGreatTab
import Derived.Test.YtekoaiendgjkdaaGreatDA
import Derived.Test.YtekoaiendgjkdaaGreatVB
import Derived.Laws.BytesArg
import Derived.Test.YtekoaiendgjkdaaGreatX
set_option linter.unusedVariables false
set_option linter.unusedSimpArgs false
set_option linter.unusedSectionVars false
namespace Go.S
def rG(f:UInt8->Bool):By->Bool
 | []=>true
 |c::_=> !f c
theorem tH{t:By}(ht:rG oG t=true):∀(n:By),n.all oG=true->cG (n++t)=n.length
 | [],_=>by
  cases t with
  |nil=>rfl
  |cons c t=>
   have:oG c=false:=by simpa[rG]using ht
   show cG (c::t)=0;unfold cG;rw[this]
 |c::n,h=>by
  rw[List.all_cons,Bool.and_eq_true]at h;show cG (c::(n++t))=_;unfold cG;rw[h.1];show cG (n++t)+1=_;rw[tH ht n h.2];rfl
def dv:Int->By->Int
 |n,[]=>n
 |n,c::t=>dv (10*n+((c.toNat:Int)-48)) t
theorem Et{c:UInt8}(h:cT c=true):48<=c.toNat/\c.toNat<=57:=by unfold cT at h;simpa using h
theorem RR:∀(t:By) (n:Int),0<=n->t.all cT=true->n<=dv n t
 | [],n,_,_=>Int.le_refl _
 |c::t,n,hn,h=>by
  rw[List.all_cons,Bool.and_eq_true]at h;have:=Et h.1;have h2:=RR t (10*n+((c.toNat:Int)-48)) (by omega) h.2;show n<=dv (10*n+((c.toNat:Int)-48)) t;omega
theorem Bp{t:By}(ht:rG cT t=true):∀(n:By) (v:Int),n.all cT=true->0<=v->dv v n<=9223372036854775807->jW (n++t) v=((dv v n,t),0)
 | [],v,_,_,_=>by
  cases t with
  |nil=>rfl
  |cons c t=>
   have:cT c=false:=by simpa[rG]using ht
   show jW (c::t) v=_;unfold jW;rw[this];rfl
 |c::n,v,hn,hv,hm=>by
  rw[List.all_cons,Bool.and_eq_true]at hn;have hc:=Et hn.1;have hm:dv (10*v+((c.toNat:Int)-48)) n<=9223372036854775807:=hm;have iR:=RR n (10*v+((c.toNat:Int)-48)) (by omega) hn.2;show jW (c::(n++t)) v=_;unfold jW;rw[hn.1];have hle:¬v>(9223372036854775807-((c.toNat:Int)-48)) / 10:=by omega
  show(if v>(9223372036854775807-((c.toNat:Int)-48)) / 10 then _ else _)=_;rw[if_neg hle,Bp ht n _ hn.2 (by omega) hm];rfl
def sq:By->By
 | []=>[]
 |c::t=>if c.toNat=39 then 39::39::sq t else c::sq t
def Oz(c:UInt8):Bool:=decide (c.toNat=39)
theorem sG{t:By}(ht:rG Oz t=true):∀(x out:By),out.length+x.length<=60->eC (sq x++39::t) out=((out++x,t),0)
 | [],out,ho=>by
  have e3:¬out.length>60:=by simp at ho;omega
  rw[List.append_nil];cases t with
  |nil=>show(if out.length>60 then _ else _)=_;rw[if_neg e3]
  |cons d t=>
   have hd:decide (d.toNat=39)=false:=by simpa[rG,Oz]using ht
   show(match decide (d.toNat=39)with
    |true=>eC t (out++[39])
    |false=>if out.length>60 then(([],[]),5)else((out,d::t),0))=_
   rw[hd];show(if out.length>60 then _ else _)=_;rw[if_neg e3]
 |c::x,out,ho=>by
  by_cases hc:c.toNat=39
  ·have hq:sq (c::x)=39::39::sq x:=by show(if c.toNat=39 then _ else _)=_;rw[if_pos hc]
   rw[hq];have vX:c=39:=by rw[<-UInt8.toNat_inj];exact hc
   show eC (sq x++39::t) (out++[39])=_;rw[sG ht x _ (by simp at ho |-;omega),vX];simp
  ·have hq:sq (c::x)=c::sq x:=by show(if c.toNat=39 then _ else _)=_;rw[if_neg hc]
   rw[hq];show eC (c::(sq x++39::t)) out=_;unfold eC;rw[decide_eq_false hc];show eC (sq x++39::t) (out++[c])=_;rw[sG ht x _ (by simp at ho |-;omega)];simp
def cN(t:By)(ws:List Wd):Prop:=∀(fuel:Nat) (l:List Wd),t.length<fuel->qz fuel t l=(l++(ws++[⟨0,0,ax []⟩]),0)
theorem cN.nil:cN [] []:=fun fuel l hf=>by
 match fuel,hf with
 |k+1,_=>rfl
theorem cN.sp{t:By}{ws:List Wd}(h:cN t ws):cN (32::t) ws:=fun fuel l hf=>by
 match fuel,hf with
 |k+1,hf=>exact h k l (by simp at hf;omega)
theorem cN.step{c:UInt8}{r t:By}{w:Wd}{ws:List Wd}(MR:sS c=false)(hn:ke c r=((w,t),0))(hl:t.length<=r.length)(h:cN t ws):cN (c::r) (w::ws):=fun fuel l hf=>by
 match fuel,hf with
 |k+1,hf=>
  show(match sS c with
   |true=>qz k r l
   |false=>match ke c r with
    | (p,e)=>if e=0 then qz k p.2 (l++[p.1])else([],e))=_
  rw[MR,hn];show qz k t (l++[w])=_;rw[h k _ (by simp at hf;omega)];simp
theorem TA{c:UInt8}(h:isLet c=true):sS c=false:=by unfold isLet at h;unfold sS;simp at h |-;omega
theorem Wo{c:UInt8}(h:cT c=true):sS c=false:=by unfold cT at h;unfold sS;simp at h |-;omega
theorem PL{c:UInt8}(h:cT c=true):isLet c=false:=by unfold cT at h;unfold isLet;simp at h |-;omega
theorem cN.name{c:UInt8}(n:By){t:By}{ws:List Wd}(hc:isLet c=true)(hn:n.all oG=true)(ht:rG oG t=true)(h:cN t ws):cN (c::(n++t)) (⟨1,0,ax (c::n)⟩::ws):=by
 refine cN.step (TA hc) ?_ (by simp) h;have hl:=tH ht (c::n) (by
  rw[List.all_cons,hn,Bool.and_true];unfold oG;rw[hc];rfl)
 rw[List.cons_append]at hl;unfold ke;rw[hc,hl];show((((⟨1,0,ax (((c::n)++t).take (c::n).length)⟩:Wd),((c::n)++t).drop (c::n).length),(0:Int)):(Wd×By)×Int)=_;rw[List.take_left,List.drop_left]
theorem cN.num{c:UInt8}{n t:By}{ws:List Wd}{v:Int}(hc:cT c=true)(hn:n.all cT=true)(hv:dv 0 (c::n)=v)(hm:v<=9223372036854775807)(ht:rG cT t=true)(h:cN t ws):cN (c::(n++t)) (⟨2,v,ax []⟩::ws):=by refine cN.step (Wo hc) ?_ (by simp) h;have he:=Bp ht (c::n) 0 (by rw[List.all_cons,hn,hc];rfl) (Int.le_refl _) (by rw[hv];exact hm);rw[hv,List.cons_append]at he;unfold ke;rw[PL hc,hc,he]
theorem cN.txt(x:By){t:By}{ws:List Wd}(hx:x.length<=60)(ht:rG Oz t=true)(h:cN t ws):cN (39::(sq x++39::t)) (⟨3,0,ax x⟩::ws):=by
 refine cN.step rfl ?_ (by simp;omega) h;have he:=sG ht x [] (by simpa using hx);show(match eC (sq x++39::t) []with
  | (p,e)=>((⟨3,0,ax p.1⟩,p.2),e):(Wd×By)×Int)=_
 rw[he];rfl
theorem cN.sign{c:UInt8}{t:By}{ws:List Wd}(hc:iH.contains c.toNat=true)(qA:c.toNat≠60)(Hu:c.toNat≠62)(h:cN t ws):cN (c::t) (⟨4,0,ax [c]⟩::ws):=by
 have je:=hc;unfold iH at je;have e1:isLet c=false:=by unfold isLet;simp at je |-;omega
 have e2:cT c=false:=by unfold cT;simp at je |-;omega
 have e3:decide (c.toNat=39)=false:=by simp at je |-;omega
 have e0:sS c=false:=by unfold sS;simp at je |-;omega
 have hs:gR (c::t)=1:=by
  cases t with
  |nil=>show(if iH.contains c.toNat then 1 else 0)=_;rw[if_pos hc]
  |cons d t=>
   have:xj c d=false:=by unfold xj;rw[decide_eq_false qA,decide_eq_false Hu];rfl
   show(if xj c d then 2 else if iH.contains c.toNat then 1 else 0)=_;rw[this,if_pos hc];rfl
 refine cN.step e0 ?_ (Nat.le_refl _) h;unfold ke;rw[e1,e2,e3,hs];rfl
theorem AX{s:ByteArray}{ws:List Wd}(hl:s.size<=600)(h:cN s.data.toList ws):iE s=(ws++[⟨0,0,ax []⟩],0):=by unfold iE;rw[if_neg (by omega)];exact h _ [] (by show s.data.toList.length<s.data.size+1;rw[Array.length_toList];omega)
def nC(ok:ByteArray->Bool)(w:List Wd):az×Int:=
 let r:=PS.stmt ok ⟨w,0,[]⟩;let p:PS:=r.2;let p:PS:=match p.ws with
  |w::_=>if p.err=0/\w.k≠0 then p.fail 6 else p
  | []=>p
 if p.err=0/\r.1.1.kind=1 then
  match fK r.1.1.mS.cols r.1.2 0 with
  |some k=>({ r.1.1 with mS:={ r.1.1.mS with key:=(k:Int) } },(0:Int))
  |none=>({},(2:Int))
 else if p.err≠0 then({},p.err)else(r.1.1,0)
theorem Ba{ok:ByteArray->Bool}{s:ByteArray}{w:List Wd}(h:iE s=(w,0)):dk ok s=nC ok w:=by unfold dk;rw[h];rfl
def cj(n:Nat):By:=if 10<=n then cj (n / 10)++[UInt8.ofNat (48+n % 10)]else [UInt8.ofNat (48+n % 10)]
 termination_by n
 decreasing_by omega
theorem LD:∀(a b:By) (n:Int),dv n (a++b)=dv (dv n a) b
 | [],b,n=>rfl
 |c::a,b,n=>by
  rw[List.cons_append];exact LD a b _
theorem Cj{d:Nat}(h:d<10):(UInt8.ofNat (48+d)).toNat=48+d:=by rw[UInt8.toNat_ofNat'];omega
theorem PN(n:Nat):dv 0 (cj n)=n:=by
 induction n using Nat.strongRecOn with
 |ind n ih=>
  unfold cj;have hd:=Cj (Nat.mod_lt n (by decide:0<10));by_cases hn:10<=n
  ·rw[if_pos hn,LD,ih (n / 10) (by omega)];show 10*_+(((UInt8.ofNat (48+n % 10)).toNat:Int)-48)=_;rw[hd];omega
  ·rw[if_neg hn];show 10*0+(((UInt8.ofNat (48+n % 10)).toNat:Int)-48)=_;rw[hd];omega
theorem Cl(n:Nat):(cj n).all cT=true:=by
 induction n using Nat.strongRecOn with
 |ind n ih=>
  have hd:cT (UInt8.ofNat (48+n % 10))=true:=by unfold cT;rw[Cj (Nat.mod_lt n (by decide:0<10))];have:=Nat.mod_lt n (by decide:0<10);simp;omega
  unfold cj;by_cases hn:10<=n
  ·rw[if_pos hn,List.all_append,ih (n / 10) (by omega),List.all_cons,hd];rfl
  ·rw[if_neg hn,List.all_cons,hd];rfl
theorem PM(n:Nat):cj n≠[]:=by unfold cj;split<;>simp
theorem cN.RT(n:Nat){t:By}{ws:List Wd}(hn:n<2^62)(ht:rG cT t=true)(h:cN t ws):cN (cj n++t) (⟨2,n,ax []⟩::ws):=by
 obtain⟨c,m,hm⟩:∃c m,cj n=c::m:=by
  cases hh:cj n with
  |nil=>exact absurd hh (PM n)
  |cons c m=>exact⟨c,m,rfl⟩
 have ha:=Cl n;have hv:=PN n;rw[hm]at ha hv |-;rw[List.all_cons,Bool.and_eq_true]at ha;exact cN.num ha.1 ha.2 hv (by omega) ht h
set_option maxRecDepth 100000
set_option maxHeartbeats 8000000
open Go.Sx
def sN:By:=[105,110,115,101,114,116,32,105,110,116,111,32,116,97,32,118,97,108,117,101,115,32,40]
def wd(l:By):Wd:=⟨1,0,ax l⟩
def ud(c:UInt8):Wd:=⟨4,0,ax [c]⟩
def sE(n:Int):Wd:=⟨2,n,ax []⟩
def R9(x:By):Wd:=⟨3,0,ax x⟩
def oH(ws:List Wd):List Wd:=wd [105,110,115,101,114,116]::wd [105,110,116,111]::wd [116,97]::wd [118,97,108,117,101,115]::ud 40::ws
def Ws:List Wd:=[ud 41]
theorem cN.close:cN [41] Ws:=cN.sign rfl (by decide) (by decide) cN.nil
theorem cN.comma{t:By}{ws:List Wd}(h:cN t ws):cN (44::32::t) (ud 44::ws):=cN.sign rfl (by decide) (by decide) (cN.sp h)
def iy(es:List (List Nd)):az:={ kind:=3,table:=ax [116,97],exprs:=es }
def iN(a:Int):dg:=⟨2,a,b0⟩
def iT(x:By):dg:=⟨3,0,ax x⟩
def mG:Wd:=⟨0,0,ax []⟩
def eM:ByteArray:=ax [116,97]
def ru:DB:=(ey ed 0).1
def gO:DB:=(ay ru ⟨0,eM,true⟩).1
def lH:DB:=(ay gO ⟨0,eM,true⟩).1
theorem lO(a:Int):cQ (iN a)=0:=by simp[cQ,iN,nE,jN,ax];show((0:Nat):Int)<=60;omega
theorem oe{x:By}(hx:x.length<=60):cQ (iT x)=0:=by
 have h:(ax x).size=x.length:=by simp[ax,ByteArray.size]
 have h2:¬((ax x).size:Int)>60:=by omega
 simp[cQ,iT,nE,jN,h2]
theorem V1(a:Int):bP ⟨nA,2,false⟩ (iN a)=0:=by unfold bP;rw[lO];rfl
theorem Ei{x:By}(hx:x.length<=60):bP ⟨⟨#[98]⟩,3,true⟩ (iT x)=0:=by unfold bP;rw[oe hx];rfl
theorem pq{a:Int}{w:dg}(hw:bP ⟨⟨#[98]⟩,3,true⟩ w=0):bV bB [iN a,w]=0:=by have h:bV bB [iN a,w]=dC [bP ⟨nA,2,false⟩ (iN a),bP ⟨⟨#[98]⟩,3,true⟩ w]:=rfl;rw[h,V1,hw];rfl
def nG(r:Row):DB:=⟨lH.aE.set 0 (uW (cL 0) 0 r),lH.au.set 0 ⟨0,[]++[⟨eM,1,r⟩],[]⟩,lH.holds,lH.waits⟩
def eI(r:Row):DB:=(ay (nG r) ⟨0,eM,true⟩).1
open Go.Sx Go.Proofs
theorem NW{P:Program}{src dst e:TypeId}(hs:P.underlying src=some (.slice e))(he:P.underlying e=some (.int .u8))(hd:P.underlying dst=some .string){n:Nat}{z:Int}{t:Nat}{h:ad}(g:h n=some (.cells #[.int .u8 z] t (0,0))){k:Value->ad->Prop}
 (hk:k (.string (ax [UInt8.ofNat z.toNat])) h):dq (fun _=>P) (fun _=>Go.convert src dst (.slice (some ⟨n,0,none⟩) 1 1)) h k:=
 ⟨fun w hw=>⟨_,w,h,run_convert_bytes_arg w src e hs he n 0 1 1 [z] rfl (fun i hi=>by
  have:i=0:=by omega
  subst this;exact((⟨rfl,_,t,g,rfl⟩:mM h ⟨n,0,none⟩ (.int .u8 z)).cell hw).1) dst hd,hk,aY.refl hw⟩⟩
theorem Ck(n:Nat):(cj n).length<=n+1:=by
 induction n using Nat.strongRecOn with
 |ind n ih=>
  unfold cj;by_cases hn:10<=n
  ·rw[if_pos hn,List.length_append];have:=ih (n / 10) (by omega);simp only[List.length_cons,List.length_nil];omega
  ·rw[if_neg hn];simp only[List.length_cons,List.length_nil];omega
theorem I0:Tryz.prog.underlying 5=some (.int .u8):=by kernel_rfl
theorem HS:Tryz.prog.underlying 208=some (.slice 5):=by kernel_rfl
theorem Gn:Tryz.prog.underlying 9=some .string:=by kernel_rfl
theorem Sc(u:Nat):∀(z:Int),z=(u:Int)->u<2^60->∀(h:ad) {k:Value->ad->Prop},(∀h',Le h h'->k (.string (ax (cj u))) h')->Ct 52 [.int .u64 z] h k:=by
 induction u using Nat.strongRecOn with
 |ind u ih=>
 intro z hz hu h k hk;obtain⟨A,hA⟩:=Ar.ex;have f1:A .aG .geq z 10=decide (z>=10):=bS A ..;have DU:A .bA .rem .u64 z 10=((u % 10:Nat):Int):=by rw[hA.bA,hz];show((u:Int)).tmod 10=_;rw[Int.tmod_eq_emod_of_nonneg (by omega)];omega
 have UL:A .bA .quo .u64 z 10=((u / 10:Nat):Int):=by rw[hA.bA,hz];show IntKind.wrap .u64 ((u:Int).tdiv 10)=_;rw[Int.tdiv_eq_ediv_of_nonneg (by omega)];rw[IntWalk.u64_in _ (by omega)];omega
 have rJ:A .bA .add .u64 48 ((u % 10:Nat):Int)=((48+u % 10:Nat):Int):=by rw[hA.bA];show IntKind.wrap .u64 (48+((u % 10:Nat):Int))=_;rw[IntWalk.u64_in _ (by omega)];omega
 have ZY:A .conv .u8 ((48+u % 10:Nat):Int)=((48+u % 10:Nat):Int):=by rw[hA.conv];show IntKind.wrap .u8 ((48+u % 10:Nat):Int)=_;exact IntWalk.u8_in _ (by omega)
 obtain⟨zr,KD⟩:∃zr:Int,zr=((u % 10:Nat):Int):=⟨_,rfl⟩;obtain⟨zq,hzq⟩:∃zq:Int,zq=((u / 10:Nat):Int):=⟨_,rfl⟩;obtain⟨zs,Uo⟩:∃zs:Int,zs=((48+u % 10:Nat):Int):=⟨_,rfl⟩;have htn:zs.toNat=48+u % 10:=by omega
 rw[<-KD]at DU rJ;rw[<-Uo]at rJ ZY;rw[<-hzq]at UL;by_cases iR:10<=u
 ·have f1:A .aG .geq z 10=true:=by rw[f1,decide_eq_true_eq];omega
  have hL:cj u=cj (u / 10)++cj (u % 10):=by rw[cj,if_pos iR];congr 1;rw[cj,if_neg (by omega),Nat.mod_mod]
  have i1:∀(h:ad) {k:Value->ad->Prop},(∀h',Le h h'->k (.string (ax (cj (u / 10)))) h')->Ct 52 [.int .u64 zq] h k:=ih (u / 10) (by omega) zq hzq (by omega);have i2:∀(h:ad) {k:Value->ad->Prop},(∀h',Le h h'->k (.string (ax (cj (u % 10)))) h')->Ct 52 [.int .u64 zr] h k:=ih (u % 10) (by omega) zr KD (by omega);have z1:=Ck (u / 10);have z2:=Ck (u % 10);rw[hL]at hk;generalize cj (u / 10)=a at *;generalize cj (u % 10)=b at *;have kf:(((ax a).size+(ax b).size:Nat):Int)<=2^62:=by rw[dn,dn];omega
  have vY:A .cat (ax a) (ax b)=ax (a++b):=by rw[hA.cat];exact kn ..
  clear hL z1 z2 rJ ZY ih;generalize ax a=sa at *;generalize ax b=sb at *;generalize ax (a++b)=sc at *;refine ah A (ar T52.aA T52.bm) Tryz.func52 rfl (by kernel_rfl) ?_;cbv;rw[f1];cbv;refine⟨by decide,?_⟩;cbv;rw[UL];refine i1 h (fun h1 l1=>?_);cbv;refine⟨by decide,?_⟩;cbv;rw[DU];refine i2 h1 (fun h2 l2=>?_);have ae:=hk h2 (l1.trans l2);cbv;refine⟨kf,?_⟩;cbv;rw[vY];exact ae
 ·have f1:A .aG .geq z 10=false:=by rw[f1,decide_eq_false_iff_not];omega
  have hL:cj u=[UInt8.ofNat zs.toNat]:=by rw[cj,if_neg iR,htn]
  rw[hL]at hk;clear hL ih UL;refine ah A (ar T52.aA T52.bm) Tryz.func52 rfl (by kernel_rfl) ?_;cbv;rw[f1];cbv;refine⟨by decide,?_⟩;cbv;rw[DU,rJ,ZY];intro nb h1 f1 e1;have l1:Le h h1:=by rw[e1];exact Le.set f1
  have g1:h1 nb=some (.cells #[.int .u8 zs] 5 (0,0)):=by rw[e1];exact af
  have ae:=hk h1 l1;clear e1 hk;cbv;refine NW HS I0 Gn g1 ?_;generalize ax [UInt8.ofNat zs.toNat]=sc at *;cbv;exact ae
theorem wF(u:Nat)(z:Int)(hz:z=(u:Int))(hu:u<2^60)(h:ad){k:Value->ad->Prop}(hk:∀h',Le h h'->k (.string (ax (cj u))) h'):Ct 27 [.int .i64 z] h k:=by
 obtain⟨A,hA⟩:=Ar.ex;have f1:A .aG .lss z 0=false:=by rw[bE A,decide_eq_false_iff_not];omega
 have ZY:A .conv .u64 z=z:=by rw[hA.conv];exact IntWalk.u64_in _ (by omega)
 have hc:= @Sc u z hz hu;clear hz hu;generalize ax (cj u)=sc at *;refine ah A (ar T27.aA T27.bm) Tryz.func27 rfl (by kernel_rfl) ?_;cbv;rw[f1];cbv;rw[ZY];refine hc h (fun h1 l1=>?_);have ae:=hk h1 l1;cbv;exact ae
theorem zG:∀x:By,(sq x).length<=2*x.length
 | []=>Nat.le_refl _
 |c::x=>by
  have:=zG x;unfold sq;split<;>simp only[List.length_cons]<;>omega
def sM(x:By):By:=39::(sq x++[39])
def OH(i:Nat)(x:By):List By:=[cj i++([44,32]++sM x),cj i,cj i++([44,32]++(sM x++[44,32,49])),sM x++([44,32]++sM x),[110,117,108,108,44,32]++sM x,cj i++[32,43,32,49,32,42,32,50,44,32,110,117,108,108],cj i++[44,32,97]]
def YY:List Int:=[0,1,1,3,13,0,2]
def xz(k i:Nat)(x:By):Row:=if k=5 then [iN ((i:Int)+2),v0]else [iN i,iT x]
theorem sL{x t:By}{ws:List Wd}(hx:x.length<=60)(ht:rG Oz t=true)(h:cN t ws):cN (sM x++t) (R9 x::ws):=by
 have:sM x++t=39::(sq x++39::t):=by simp[sM]
 rw[this];exact cN.txt x hx ht h
theorem zJ{t:By}{ws:List Wd}(ht:rG oG t=true)(h:cN t ws):cN ([110,117,108,108]++t) (wd [110,117,108,108]::ws):=cN.name [117,108,108] rfl rfl ht h
theorem yu:Nm b0:=⟨pz.2 (fun c hc=>by cases hc),by decide⟩
theorem qq{v:dg}(h:lj v):Nm (lit v).name/\lj (lit v).v:=⟨yu,h⟩
theorem Dz(op a b:Int):Nm (bin op a b).name/\lj (bin op a b).v:=⟨yu,lA⟩
theorem Og:Nm (eJ (ax [97])).name/\lj (eJ (ax [97])).v:=⟨⟨pz.2 (by decide),by decide⟩,lA⟩
theorem oJ{a:Int}(h:-2^63<=a/\a<2^63):lj (iN a):=gA.2 (by show _<=a/\a<=_;omega)
theorem vL(x:By):lj (iT x):=by show m6 0=true;decide
structure InsOk(i:Nat)(x X:By)(k:Nat)(w:Int):Prop where
 all:∃es D1,dk ao (ax (sN++(X++[41])))=(iy es,0)/\ek (ax (sN++(X++[41])))=true/\eG (iy es)/\jD ru 0 (iy es)=(D1,[],w)/\(w≠0->D1=gO)/\(w=0->D1=nG (xz k i x)/\(jD D1 0 (iy es)).2.2=7)
theorem lF(n:Nat)(h:n<1000):(cj n).length<=3:=by
 rw[cj];split
 ·rw[List.length_append,cj];split
  ·rw[List.length_append,cj,if_neg (by omega)];simp only[List.length_cons,List.length_nil];omega
  ·simp only[List.length_cons,List.length_nil];omega
 ·simp only[List.length_cons,List.length_nil];omega
theorem rm(v:dg)(l:List Int)(cols:List bT):pM (lit v) l cols=(v.k,cQ v):=rfl
theorem Mw{v:dg}(h:cQ v=0)(cols:List bT):fZ [lit v] cols=(v.k,0):=by
 have e:eN cols [lit v] []=([v.k],0):=by rw[fV,rm,h];rfl
 unfold fZ;rw[if_neg (by simp),e];rfl
theorem gu{v:dg}(h:cQ v=0)(cols:List bT)(r:Row):eA [lit v] cols r=(v,0):=by unfold eA;rw[Mw h];rfl
theorem dZ{x:List Nd}{v:dg}{cols:List bT}{r:Row}(h:eA x cols r=(v,0))(xs:List (List Nd))(l:Row):oa cols r (x::xs) l=oa cols r xs (l++[v]):=by rw[uR,h];rfl
theorem CZ:cQ v0=0:=by decide
theorem qN{v w:dg}(h:cQ v=0)(h2:cQ w=0):bG [[lit v],[lit w]] [] []=([v,w],0):=by unfold bG;rw[dZ (gu h _ _),dZ (gu h2 _ _)];rfl
theorem Cg(a:dg):AT a a=true:=by simp[AT]
theorem Dl{xs:Row}{h:ad}{b1 b2:Option Addr}{n1 c1 n2 c2:Nat}(q1:Sl 61 bq h (.slice b1 n1 c1) xs)(q2:Sl 61 bq h (.slice b2 n2 c2) xs){k:Value->ad->Prop}(hk:k (.bool true) h):
 Ct 28 [.slice b1 n1 c1,.slice b2 n2 c2] h k:=by
 obtain⟨A,hA⟩:=Ar.ex;have e1:=q1.len;have e2:=q2.len;have hb:=q1.bound.1;have UY:n2=n1:=by omega
 subst UY;have AS:A .not true=false:=by rw[hA.not];rfl
 have fne:A .aG .neq (A .nat n2) (A .nat n2)=false:=by rw[aB A];simp
 obtain⟨I,bl⟩:∃I:Nat->Int->ad->Prop,∀m g h',I m g h'=∃j,aS g j/\m=n2-j/\j<=n2/\h'=h:=⟨_,fun _ _ _=>rfl⟩;have hJ:I n2 0 h:=by rw[bl];exact⟨0,⟨rfl⟩,rfl,Nat.zero_le _,rfl⟩
 refine ah A (ar T28.aA T28.bm) Tryz.func28 rfl (by kernel_rfl) ?_;cbv;rw[fne];cbv;refine aX.go (G:=Int) (fun g=>[(5,.v (.int .i64 g))]) (fun _=>[]) (fun m g h'=>I m g h') n2 0 ⟨?_,?_,?_⟩ hJ ?_
 ·cbv
 ·cbv
 ·cbv
 ·intro m z h' hI;rw[bl]at hI;cbv;obtain⟨j,hz,hm,hj,rfl⟩:=hI;have f1:A .aG .lss z (A .nat n2)=decide (j<n2):=hz.gy (aS.nat n2);rw[f1];by_cases aK:j<n2
  ·obtain⟨x,hx⟩:=aI (xs:=xs) (i:=j) (by omega);have rI:b1.isSome=true/\0<=z/\z<(n2:Int):=⟨q1.bu (by omega),hz.ix aK⟩;have kW:b2.isSome=true/\0<=z/\z<(n2:Int):=⟨q2.bu (by omega),hz.ix aK⟩;have fA:=hz.eq;have dD:=hz.succ (A:=A) (by omega);obtain⟨z2,fN⟩:∃z2,A .bA .add .i64 z 1=z2:=⟨_,rfl⟩;rw[fN]at dD;have di:I (n2-(j+1)) z2 h':=by rw[bl];exact⟨j+1,dD,rfl,aK,rfl⟩
   have gQ:n2-(j+1)<m:=by omega
   have heq:=(uM A x x).trans (Cg x);clear bl hJ hk;rw[decide_eq_true aK];cbv;refine⟨rI,?_⟩;cbv;refine q1.load hx fA (fun cs aC=>?_);replace aC:cs=[.int .i64 x.k,.int .i64 x.n,.string x.s]:=aC;subst aC;cbv;refine⟨kW,?_⟩;cbv;refine q2.load hx fA (fun cs aC=>?_);replace aC:cs=[.int .i64 x.k,.int .i64 x.n,.string x.s]:=aC;subst aC;cbv;rw[heq,AS];cbv;rw[fN];refine⟨_,_,gQ,⟨?_,?_,?_⟩,di⟩
   ·cbv
   ·cbv
   ·cbv
  ·rw[decide_eq_false aK];clear bl hJ;cbv;exact hk
theorem zZ:EJ 0 ru:=Cx og (by decide) 0 (by kernel_rfl)
theorem Cv{A:Ar}[hA:aV A](a b:ByteArray):(A .cat a b).size=a.size+b.size:=by rw[hA.cat];exact vf a b
def MA(d:DB):Prop:=∀i x k X w,i<1000->x.length<=40->(OH i x)[k]? =some X->YY[k]? =some w->∃st D1,dk ao (ax (sN++(X++[41])))=(st,0)/\ek (ax (sN++(X++[41])))=true/\eG st/\st.kind=3/\jD d 0 st=(D1,[],w)/\
 (w≠0->∃t T,D1.aE=t::T/\t.rows=[])/\(w=0->∃t T n,D1.aE=t::T/\t.rows=[xz k i x]/\EJ n D1/\n+700<2^18/\(jD D1 0 st).2.2=7)
end Go.S
