import Derived.Test.YtekoaiendgjkdaaGreatUA
import Derived.Test.YtekoaiendgjkdaaGreatDB
import Derived.Test.YtekoaiendgjkdaaGreatQC
import Derived.Test.YtekoaiendgjkdaaGreatQA
import Derived.Test.YtekoaiendgjkdaaGreatEC
import Derived.Test.YtekoaiendgjkdaaGreatHA
import Derived.Test.YtekoaiendgjkdaaGreatRd
import Derived.Test.YtekoaiendgjkdaaGreatTab
import Derived.Test.YtekoaiendgjkdaaGreatDA
import Derived.Test.YtekoaiendgjkdaaGreatVB
import Derived.Laws.BytesArg
import Derived.Test.YtekoaiendgjkdaaGreatX
set_option linter.unusedVariables false
set_option linter.unusedSimpArgs false
set_option linter.unusedSectionVars false
namespace Go.S
def rG(f:UInt8->Bool):By->Bool
 | []=>true
 |c::_=> !f c
theorem tH{t:By}(ht:rG oG t=true):∀(n:By),n.all oG=true->cG (n++t)=n.length
 | [],_=>by
  cases t with
  |nil=>rfl
  |cons c t=>
   have:oG c=false:=by simpa[rG]using ht
   show cG (c::t)=0;unfold cG;rw[this]
 |c::n,h=>by
  rw[List.all_cons,Bool.and_eq_true]at h;show cG (c::(n++t))=_;unfold cG;rw[h.1];show cG (n++t)+1=_;rw[tH ht n h.2];rfl
def dv:Int->By->Int
 |n,[]=>n
 |n,c::t=>dv (10*n+((c.toNat:Int)-48)) t
theorem Et{c:UInt8}(h:cT c=true):48<=c.toNat/\c.toNat<=57:=by unfold cT at h;simpa using h
theorem RR:∀(t:By) (n:Int),0<=n->t.all cT=true->n<=dv n t
 | [],n,_,_=>Int.le_refl _
 |c::t,n,hn,h=>by
  rw[List.all_cons,Bool.and_eq_true]at h;have:=Et h.1;have h2:=RR t (10*n+((c.toNat:Int)-48)) (by omega) h.2;show n<=dv (10*n+((c.toNat:Int)-48)) t;omega
theorem Bp{t:By}(ht:rG cT t=true):∀(n:By) (v:Int),n.all cT=true->0<=v->dv v n<=9223372036854775807->jW (n++t) v=((dv v n,t),0)
 | [],v,_,_,_=>by
  cases t with
  |nil=>rfl
  |cons c t=>
   have:cT c=false:=by simpa[rG]using ht
   show jW (c::t) v=_;unfold jW;rw[this];rfl
 |c::n,v,hn,hv,hm=>by
  rw[List.all_cons,Bool.and_eq_true]at hn;have hc:=Et hn.1;have hm:dv (10*v+((c.toNat:Int)-48)) n<=9223372036854775807:=hm;have iR:=RR n (10*v+((c.toNat:Int)-48)) (by omega) hn.2;show jW (c::(n++t)) v=_;unfold jW;rw[hn.1];have hle:¬v>(9223372036854775807-((c.toNat:Int)-48)) / 10:=by omega
  show(if v>(9223372036854775807-((c.toNat:Int)-48)) / 10 then _ else _)=_;rw[if_neg hle,Bp ht n _ hn.2 (by omega) hm];rfl
def sq:By->By
 | []=>[]
 |c::t=>if c.toNat=39 then 39::39::sq t else c::sq t
def Oz(c:UInt8):Bool:=decide (c.toNat=39)
theorem sG{t:By}(ht:rG Oz t=true):∀(x out:By),out.length+x.length<=60->eC (sq x++39::t) out=((out++x,t),0)
 | [],out,ho=>by
  have e3:¬out.length>60:=by simp at ho;omega
  rw[List.append_nil];cases t with
  |nil=>show(if out.length>60 then _ else _)=_;rw[if_neg e3]
  |cons d t=>
   have hd:decide (d.toNat=39)=false:=by simpa[rG,Oz]using ht
   show(match decide (d.toNat=39)with
    |true=>eC t (out++[39])
    |false=>if out.length>60 then(([],[]),5)else((out,d::t),0))=_
   rw[hd];show(if out.length>60 then _ else _)=_;rw[if_neg e3]
 |c::x,out,ho=>by
  by_cases hc:c.toNat=39
  ·have hq:sq (c::x)=39::39::sq x:=by show(if c.toNat=39 then _ else _)=_;rw[if_pos hc]
   rw[hq];have vX:c=39:=by rw[<-UInt8.toNat_inj];exact hc
   show eC (sq x++39::t) (out++[39])=_;rw[sG ht x _ (by simp at ho |-;omega),vX];simp
  ·have hq:sq (c::x)=c::sq x:=by show(if c.toNat=39 then _ else _)=_;rw[if_neg hc]
   rw[hq];show eC (c::(sq x++39::t)) out=_;unfold eC;rw[decide_eq_false hc];show eC (sq x++39::t) (out++[c])=_;rw[sG ht x _ (by simp at ho |-;omega)];simp
def cN(t:By)(ws:List Wd):Prop:=∀(fuel:Nat) (l:List Wd),t.length<fuel->qz fuel t l=(l++(ws++[⟨0,0,ax []⟩]),0)
theorem cN.nil:cN [] []:=fun fuel l hf=>by
 match fuel,hf with
 |k+1,_=>rfl
theorem cN.sp{t:By}{ws:List Wd}(h:cN t ws):cN (32::t) ws:=fun fuel l hf=>by
 match fuel,hf with
 |k+1,hf=>exact h k l (by simp at hf;omega)
theorem cN.step{c:UInt8}{r t:By}{w:Wd}{ws:List Wd}(MR:sS c=false)(hn:ke c r=((w,t),0))(hl:t.length<=r.length)(h:cN t ws):cN (c::r) (w::ws):=fun fuel l hf=>by
 match fuel,hf with
 |k+1,hf=>
  show(match sS c with
   |true=>qz k r l
   |false=>match ke c r with
    | (p,e)=>if e=0 then qz k p.2 (l++[p.1])else([],e))=_
  rw[MR,hn];show qz k t (l++[w])=_;rw[h k _ (by simp at hf;omega)];simp
theorem TA{c:UInt8}(h:isLet c=true):sS c=false:=by unfold isLet at h;unfold sS;simp at h |-;omega
theorem Wo{c:UInt8}(h:cT c=true):sS c=false:=by unfold cT at h;unfold sS;simp at h |-;omega
theorem PL{c:UInt8}(h:cT c=true):isLet c=false:=by unfold cT at h;unfold isLet;simp at h |-;omega
theorem cN.name{c:UInt8}(n:By){t:By}{ws:List Wd}(hc:isLet c=true)(hn:n.all oG=true)(ht:rG oG t=true)(h:cN t ws):cN (c::(n++t)) (⟨1,0,ax (c::n)⟩::ws):=by
 refine cN.step (TA hc) ?_ (by simp) h;have hl:=tH ht (c::n) (by
  rw[List.all_cons,hn,Bool.and_true];unfold oG;rw[hc];rfl)
 rw[List.cons_append]at hl;unfold ke;rw[hc,hl];show((((⟨1,0,ax (((c::n)++t).take (c::n).length)⟩:Wd),((c::n)++t).drop (c::n).length),(0:Int)):(Wd×By)×Int)=_;rw[List.take_left,List.drop_left]
theorem cN.num{c:UInt8}{n t:By}{ws:List Wd}{v:Int}(hc:cT c=true)(hn:n.all cT=true)(hv:dv 0 (c::n)=v)(hm:v<=9223372036854775807)(ht:rG cT t=true)(h:cN t ws):cN (c::(n++t)) (⟨2,v,ax []⟩::ws):=by refine cN.step (Wo hc) ?_ (by simp) h;have he:=Bp ht (c::n) 0 (by rw[List.all_cons,hn,hc];rfl) (Int.le_refl _) (by rw[hv];exact hm);rw[hv,List.cons_append]at he;unfold ke;rw[PL hc,hc,he]
theorem cN.txt(x:By){t:By}{ws:List Wd}(hx:x.length<=60)(ht:rG Oz t=true)(h:cN t ws):cN (39::(sq x++39::t)) (⟨3,0,ax x⟩::ws):=by
 refine cN.step rfl ?_ (by simp;omega) h;have he:=sG ht x [] (by simpa using hx);show(match eC (sq x++39::t) []with
  | (p,e)=>((⟨3,0,ax p.1⟩,p.2),e):(Wd×By)×Int)=_
 rw[he];rfl
theorem cN.sign{c:UInt8}{t:By}{ws:List Wd}(hc:iH.contains c.toNat=true)(qA:c.toNat≠60)(Hu:c.toNat≠62)(h:cN t ws):cN (c::t) (⟨4,0,ax [c]⟩::ws):=by
 have je:=hc;unfold iH at je;have e1:isLet c=false:=by unfold isLet;simp at je |-;omega
 have e2:cT c=false:=by unfold cT;simp at je |-;omega
 have e3:decide (c.toNat=39)=false:=by simp at je |-;omega
 have e0:sS c=false:=by unfold sS;simp at je |-;omega
 have hs:gR (c::t)=1:=by
  cases t with
  |nil=>show(if iH.contains c.toNat then 1 else 0)=_;rw[if_pos hc]
  |cons d t=>
   have:xj c d=false:=by unfold xj;rw[decide_eq_false qA,decide_eq_false Hu];rfl
   show(if xj c d then 2 else if iH.contains c.toNat then 1 else 0)=_;rw[this,if_pos hc];rfl
 refine cN.step e0 ?_ (Nat.le_refl _) h;unfold ke;rw[e1,e2,e3,hs];rfl
theorem AX{s:ByteArray}{ws:List Wd}(hl:s.size<=600)(h:cN s.data.toList ws):iE s=(ws++[⟨0,0,ax []⟩],0):=by unfold iE;rw[if_neg (by omega)];exact h _ [] (by show s.data.toList.length<s.data.size+1;rw[Array.length_toList];omega)
def nC(ok:ByteArray->Bool)(w:List Wd):az×Int:=
 let r:=PS.stmt ok ⟨w,0,[]⟩;let p:PS:=r.2;let p:PS:=match p.ws with
  |w::_=>if p.err=0/\w.k≠0 then p.fail 6 else p
  | []=>p
 if p.err=0/\r.1.1.kind=1 then
  match fK r.1.1.mS.cols r.1.2 0 with
  |some k=>({ r.1.1 with mS:={ r.1.1.mS with key:=(k:Int) } },(0:Int))
  |none=>({},(2:Int))
 else if p.err≠0 then({},p.err)else(r.1.1,0)
theorem Ba{ok:ByteArray->Bool}{s:ByteArray}{w:List Wd}(h:iE s=(w,0)):dk ok s=nC ok w:=by unfold dk;rw[h];rfl
def cj(n:Nat):By:=if 10<=n then cj (n / 10)++[UInt8.ofNat (48+n % 10)]else [UInt8.ofNat (48+n % 10)]
 termination_by n
 decreasing_by omega
theorem LD:∀(a b:By) (n:Int),dv n (a++b)=dv (dv n a) b
 | [],b,n=>rfl
 |c::a,b,n=>by
  rw[List.cons_append];exact LD a b _
theorem Cj{d:Nat}(h:d<10):(UInt8.ofNat (48+d)).toNat=48+d:=by rw[UInt8.toNat_ofNat'];omega
theorem PN(n:Nat):dv 0 (cj n)=n:=by
 induction n using Nat.strongRecOn with
 |ind n ih=>
  unfold cj;have hd:=Cj (Nat.mod_lt n (by decide:0<10));by_cases hn:10<=n
  ·rw[if_pos hn,LD,ih (n / 10) (by omega)];show 10*_+(((UInt8.ofNat (48+n % 10)).toNat:Int)-48)=_;rw[hd];omega
  ·rw[if_neg hn];show 10*0+(((UInt8.ofNat (48+n % 10)).toNat:Int)-48)=_;rw[hd];omega
theorem Cl(n:Nat):(cj n).all cT=true:=by
 induction n using Nat.strongRecOn with
 |ind n ih=>
  have hd:cT (UInt8.ofNat (48+n % 10))=true:=by unfold cT;rw[Cj (Nat.mod_lt n (by decide:0<10))];have:=Nat.mod_lt n (by decide:0<10);simp;omega
  unfold cj;by_cases hn:10<=n
  ·rw[if_pos hn,List.all_append,ih (n / 10) (by omega),List.all_cons,hd];rfl
  ·rw[if_neg hn,List.all_cons,hd];rfl
theorem PM(n:Nat):cj n≠[]:=by unfold cj;split<;>simp
theorem cN.RT(n:Nat){t:By}{ws:List Wd}(hn:n<2^62)(ht:rG cT t=true)(h:cN t ws):cN (cj n++t) (⟨2,n,ax []⟩::ws):=by
 obtain⟨c,m,hm⟩:∃c m,cj n=c::m:=by
  cases hh:cj n with
  |nil=>exact absurd hh (PM n)
  |cons c m=>exact⟨c,m,rfl⟩
 have ha:=Cl n;have hv:=PN n;rw[hm]at ha hv |-;rw[List.all_cons,Bool.and_eq_true]at ha;exact cN.num ha.1 ha.2 hv (by omega) ht h
set_option maxRecDepth 100000
set_option maxHeartbeats 8000000
open Go.Sx
def sN:By:=[105,110,115,101,114,116,32,105,110,116,111,32,116,97,32,118,97,108,117,101,115,32,40]
def wd(l:By):Wd:=⟨1,0,ax l⟩
def ud(c:UInt8):Wd:=⟨4,0,ax [c]⟩
def sE(n:Int):Wd:=⟨2,n,ax []⟩
def R9(x:By):Wd:=⟨3,0,ax x⟩
def oH(ws:List Wd):List Wd:=wd [105,110,115,101,114,116]::wd [105,110,116,111]::wd [116,97]::wd [118,97,108,117,101,115]::ud 40::ws
theorem cN.ins{t:By}{ws:List Wd}(h:cN t ws):cN (sN++t) (oH ws):=
 cN.name [110,115,101,114,116] rfl rfl rfl (cN.sp (cN.name [110,116,111] rfl rfl rfl (cN.sp (cN.name [97] rfl rfl rfl (cN.sp (cN.name [97,108,117,101,115] rfl rfl rfl (cN.sp (cN.sign rfl (by decide) (by decide) h))))))))
def Ws:List Wd:=[ud 41]
theorem cN.close:cN [41] Ws:=cN.sign rfl (by decide) (by decide) cN.nil
theorem cN.comma{t:By}{ws:List Wd}(h:cN t ws):cN (44::32::t) (ud 44::ws):=cN.sign rfl (by decide) (by decide) (cN.sp h)
def iy(es:List (List Nd)):az:={ kind:=3,table:=ax [116,97],exprs:=es }
def iN(a:Int):dg:=⟨2,a,b0⟩
def iT(x:By):dg:=⟨3,0,ax x⟩
def mG:Wd:=⟨0,0,ax []⟩
theorem st0(a:Int)(x:By):nC ao (oH [sE a,ud 44,R9 x,ud 41]++[mG])=(iy [[lit (iN a)],[lit (iT x)]],0):=by kernel_rfl
theorem st1(a:Int):nC ao (oH [sE a,ud 41]++[mG])=(iy [[lit (iN a)]],0):=by kernel_rfl
theorem st2(a:Int)(x:By):nC ao (oH [sE a,ud 44,R9 x,ud 44,sE 1,ud 41]++[mG])=(iy [[lit (iN a)],[lit (iT x)],[lit (iN 1)]],0):=by kernel_rfl
theorem st3(x y:By):nC ao (oH [R9 x,ud 44,R9 y,ud 41]++[mG])=(iy [[lit (iT x)],[lit (iT y)]],0):=by kernel_rfl
theorem st4(x:By):nC ao (oH [wd [110,117,108,108],ud 44,R9 x,ud 41]++[mG])=(iy [[lit v0],[lit (iT x)]],0):=by kernel_rfl
theorem st5(a:Int):nC ao (oH [sE a,ud 43,sE 1,ud 42,sE 2,ud 44,wd [110,117,108,108],ud 41]++[mG])=(iy [[lit (iN a),lit (iN 1),lit (iN 2),bin 16 1 2,bin 14 0 3],[lit v0]],0):=by kernel_rfl
theorem st6(a:Int):nC ao (oH [sE a,ud 44,wd [97],ud 41]++[mG])=(iy [[lit (iN a)],[eJ (ax [97])]],0):=by kernel_rfl
def eM:ByteArray:=ax [116,97]
def ru:DB:=(ey ed 0).1
def gO:DB:=(ay ru ⟨0,eM,true⟩).1
def lH:DB:=(ay gO ⟨0,eM,true⟩).1
theorem OG:ay ru ⟨0,eM,true⟩=(gO,0):=by kernel_rfl
theorem BH:ay gO ⟨0,eM,true⟩=(lH,0):=by kernel_rfl
theorem Kv(es:List (List Nd)):jD ru 0 (iy es)=bK gO (match bG es [] []with
 | (r,e)=>if e≠0 then(gO,e)else fv gO 0 eM r):=by
 have h:jD ru 0 (iy es)=match ay ru ⟨0,eM,true⟩with
  | (d,e)=>if e≠0 then(d,[],e)else bK d (match bG es [] []with
   | (r,e)=>if e≠0 then(d,e)else fv d 0 eM r):=rfl
 rw[h,OG];rfl
theorem lO(a:Int):cQ (iN a)=0:=by simp[cQ,iN,nE,jN,ax];show((0:Nat):Int)<=60;omega
theorem oe{x:By}(hx:x.length<=60):cQ (iT x)=0:=by
 have h:(ax x).size=x.length:=by simp[ax,ByteArray.size]
 have h2:¬((ax x).size:Int)>60:=by omega
 simp[cQ,iT,nE,jN,h2]
theorem V1(a:Int):bP ⟨nA,2,false⟩ (iN a)=0:=by unfold bP;rw[lO];rfl
theorem Ei{x:By}(hx:x.length<=60):bP ⟨⟨#[98]⟩,3,true⟩ (iT x)=0:=by unfold bP;rw[oe hx];rfl
theorem pq{a:Int}{w:dg}(hw:bP ⟨⟨#[98]⟩,3,true⟩ w=0):bV bB [iN a,w]=0:=by have h:bV bB [iN a,w]=dC [bP ⟨nA,2,false⟩ (iN a),bP ⟨⟨#[98]⟩,3,true⟩ w]:=rfl;rw[h,V1,hw];rfl
theorem N5{d:DB}(hd:ay d ⟨0,eM,true⟩=(lH,0)){r:Row}{e:Int}(hf:bV bB r=e)(h0:e≠0)(h19:e≠19):(fv d 0 eM r).2=e:=by
 have h1:fv d 0 eM r=(if decide ((ay d ⟨0,eM,true⟩).2≠0)=true then ay d ⟨0,eM,true⟩
  else match (ay d ⟨0,eM,true⟩).1.aE[dr (aR (ay d ⟨0,eM,true⟩).1.aE eM)]?,(ay d ⟨0,eM,true⟩).1.au[dr (cA (ay d ⟨0,eM,true⟩).1.au 0)]? with
  |some t,some w=>
   if decide ((cJ r t).2.2≠19)&&decide ((w.log.length:Int)>=60)then((ay d ⟨0,eM,true⟩).1,4)
   else if decide ((cJ r t).2.2=0)=true then
    (⟨(ay d ⟨0,eM,true⟩).1.aE.set (dr (aR (ay d ⟨0,eM,true⟩).1.aE eM)) (cJ r t).1,(ay d ⟨0,eM,true⟩).1.au.set (dr (cA (ay d ⟨0,eM,true⟩).1.au 0)) ⟨w.s,w.log++[⟨eM,(cJ r t).2.1.op,(cJ r t).2.1.row⟩],w.marks⟩,(ay d ⟨0,eM,true⟩).1.holds,(ay d ⟨0,eM,true⟩).1.waits⟩,0)
   else((ay d ⟨0,eM,true⟩).1,(cJ r t).2.2)
  |_,_=>ay d ⟨0,eM,true⟩):=rfl
 have ht:lH.aE[dr (aR lH.aE eM)]? =some (cL 0):=by kernel_rfl
 have hw:lH.au[dr (cA lH.au 0)]? =some ⟨0,[],[]⟩:=by kernel_rfl
 have hp:(cJ r (cL 0)).2.2=e:=by show(bI (cL 0) r).2=e;unfold bI;rw[show(cL 0).S.cols=bB from rfl,if_pos (by rw[hf];simpa using h0)];exact hf
 rw[h1,hd];simp only[ht,hw,hp];simp[h0,h19]
def nG(r:Row):DB:=⟨lH.aE.set 0 (uW (cL 0) 0 r),lH.au.set 0 ⟨0,[]++[⟨eM,1,r⟩],[]⟩,lH.holds,lH.waits⟩
theorem EY{r:Row}(hf:bV bB r=0):fv gO 0 eM r=(nG r,0):=by
 have h1:fv gO 0 eM r=(if decide ((ay gO ⟨0,eM,true⟩).2≠0)=true then ay gO ⟨0,eM,true⟩
  else match (ay gO ⟨0,eM,true⟩).1.aE[dr (aR (ay gO ⟨0,eM,true⟩).1.aE eM)]?,(ay gO ⟨0,eM,true⟩).1.au[dr (cA (ay gO ⟨0,eM,true⟩).1.au 0)]? with
  |some t,some w=>
   if decide ((cJ r t).2.2≠19)&&decide ((w.log.length:Int)>=60)then((ay gO ⟨0,eM,true⟩).1,4)
   else if decide ((cJ r t).2.2=0)=true then
    (⟨(ay gO ⟨0,eM,true⟩).1.aE.set (dr (aR (ay gO ⟨0,eM,true⟩).1.aE eM)) (cJ r t).1,(ay gO ⟨0,eM,true⟩).1.au.set (dr (cA (ay gO ⟨0,eM,true⟩).1.au 0)) ⟨w.s,w.log++[⟨eM,(cJ r t).2.1.op,(cJ r t).2.1.row⟩],w.marks⟩,(ay gO ⟨0,eM,true⟩).1.holds,(ay gO ⟨0,eM,true⟩).1.waits⟩,0)
   else((ay gO ⟨0,eM,true⟩).1,(cJ r t).2.2)
  |_,_=>ay gO ⟨0,eM,true⟩):=rfl
 have ht:lH.aE[0]? =some (cL 0):=by kernel_rfl
 have OS:dr (aR lH.aE eM)=0:=by kernel_rfl
 have hwi:dr (cA lH.au 0)=0:=by kernel_rfl
 have hw:lH.au[0]? =some ⟨0,[],[]⟩:=by kernel_rfl
 have hp:cJ r (cL 0)=(uW (cL 0) 0 r,⟨jX,1,r⟩,0):=by
  have e1:cM (cL 0) (keyOf (cL 0).S.key r)=[]:=rfl;unfold cJ bI;have eb:lK []=false:=by kernel_rfl
  have ei:dr []=0:=by kernel_rfl
  rw[show(cL 0).S.cols=bB from rfl,hf,e1,eb,ei];rfl
 rw[h1,BH];simp only[OS,hwi,ht,hw,hp];rfl
theorem Ku(r:Row):(nG r).aE=[⟨aT 0,[r]⟩,cL 1,cL 2]:=by kernel_rfl
def eI(r:Row):DB:=(ay (nG r) ⟨0,eM,true⟩).1
theorem Kx(r:Row):ay (nG r) ⟨0,eM,true⟩=(eI r,0):=by kernel_rfl
theorem Kw(r:Row):ay (eI r) ⟨0,eM,true⟩=(eI r,0):=by kernel_rfl
theorem GG{r:Row}(hf:bV bB r=0):(fv (eI r) 0 eM r).2=7:=by
 have h1:fv (eI r) 0 eM r=(if decide ((ay (eI r) ⟨0,eM,true⟩).2≠0)=true then ay (eI r) ⟨0,eM,true⟩
  else match (ay (eI r) ⟨0,eM,true⟩).1.aE[dr (aR (ay (eI r) ⟨0,eM,true⟩).1.aE eM)]?,(ay (eI r) ⟨0,eM,true⟩).1.au[dr (cA (ay (eI r) ⟨0,eM,true⟩).1.au 0)]? with
  |some t,some w=>
   if decide ((cJ r t).2.2≠19)&&decide ((w.log.length:Int)>=60)then((ay (eI r) ⟨0,eM,true⟩).1,4)
   else if decide ((cJ r t).2.2=0)=true then
    (⟨(ay (eI r) ⟨0,eM,true⟩).1.aE.set (dr (aR (ay (eI r) ⟨0,eM,true⟩).1.aE eM)) (cJ r t).1,(ay (eI r) ⟨0,eM,true⟩).1.au.set (dr (cA (ay (eI r) ⟨0,eM,true⟩).1.au 0)) ⟨w.s,w.log++[⟨eM,(cJ r t).2.1.op,(cJ r t).2.1.row⟩],w.marks⟩,(ay (eI r) ⟨0,eM,true⟩).1.holds,(ay (eI r) ⟨0,eM,true⟩).1.waits⟩,0)
   else((ay (eI r) ⟨0,eM,true⟩).1,(cJ r t).2.2)
  |_,_=>ay (eI r) ⟨0,eM,true⟩):=rfl
 have ht:(eI r).aE[dr (aR (eI r).aE eM)]? =some ⟨aT 0,[r]⟩:=by kernel_rfl
 have hw:(eI r).au[dr (cA (eI r).au 0)]? =some ⟨0,[⟨eM,1,r⟩],[]⟩:=by kernel_rfl
 have hp:(cJ r ⟨aT 0,[r]⟩).2.2=7:=by show(bI ⟨aT 0,[r]⟩ r).2=7;have e1:cM ⟨aT 0,[r]⟩ (keyOf (aT 0).key r)=[ch (keyOf (aT 0).key r) (keyOf (aT 0).key r)]:=rfl;unfold bI;rw[show(⟨aT 0,[r]⟩:cE).S.cols=bB from rfl,hf,show(⟨aT 0,[r]⟩:cE).S.key=(aT 0).key from rfl,e1,A0,show lK [0]=true by kernel_rfl];rfl
 rw[h1,Kw];simp only[ht,hw,hp];rfl
theorem OD(r:Row)(es:List (List Nd)):jD (nG r) 0 (iy es)=bK (eI r) (match bG es [] []with
 | (r',e)=>if e≠0 then(eI r,e)else fv (eI r) 0 eM r'):=by
 have h:jD (nG r) 0 (iy es)=match ay (nG r) ⟨0,eM,true⟩with
  | (d,e)=>if e≠0 then(d,[],e)else bK d (match bG es [] []with
   | (r,e)=>if e≠0 then(d,e)else fv d 0 eM r):=rfl
 rw[h,Kx];rfl
theorem rr{es:List (List Nd)}{r:Row}{f:Int}(hv:bG es [] []=(r,f)){e:Int}(h:(f=e/\e≠0)\/(f=0/\bV bB r=e/\e≠0/\e≠19)):jD ru 0 (iy es)=(gO,[],e):=by
 rw[Kv,hv];rcases h with ⟨h1,h2⟩ | ⟨h1,h2,h3,h4⟩
 ·subst h1;show bK gO (if f≠0 then(gO,f)else _)=_;rw[if_pos h2];unfold bK;rw[if_pos h2]
 ·subst h1;have hp:=N5 BH h2 h3 h4;show bK gO (fv gO 0 eM r)=_;unfold bK;rw[hp,if_pos h3]
theorem BG{es:List (List Nd)}{r:Row}(hv:bG es [] []=(r,0))(hf:bV bB r=0):jD ru 0 (iy es)=(nG r,[],0)/\(jD (nG r) 0 (iy es)).2.2=7:=by
 constructor
 ·rw[Kv,hv];show bK gO (fv gO 0 eM r)=_;rw[EY hf];rfl
 ·rw[OD,hv];show(bK (eI r) (fv (eI r) 0 eM r)).2.2=7;have hp:=GG hf;unfold bK;rw[hp];rfl
open Go.Sx Go.Proofs
theorem NW{P:Program}{src dst e:TypeId}(hs:P.underlying src=some (.slice e))(he:P.underlying e=some (.int .u8))(hd:P.underlying dst=some .string){n:Nat}{z:Int}{t:Nat}{h:ad}(g:h n=some (.cells #[.int .u8 z] t (0,0))){k:Value->ad->Prop}
 (hk:k (.string (ax [UInt8.ofNat z.toNat])) h):dq (fun _=>P) (fun _=>Go.convert src dst (.slice (some ⟨n,0,none⟩) 1 1)) h k:=
 ⟨fun w hw=>⟨_,w,h,run_convert_bytes_arg w src e hs he n 0 1 1 [z] rfl (fun i hi=>by
  have:i=0:=by omega
  subst this;exact((⟨rfl,_,t,g,rfl⟩:mM h ⟨n,0,none⟩ (.int .u8 z)).cell hw).1) dst hd,hk,aY.refl hw⟩⟩
theorem Ck(n:Nat):(cj n).length<=n+1:=by
 induction n using Nat.strongRecOn with
 |ind n ih=>
  unfold cj;by_cases hn:10<=n
  ·rw[if_pos hn,List.length_append];have:=ih (n / 10) (by omega);simp only[List.length_cons,List.length_nil];omega
  ·rw[if_neg hn];simp only[List.length_cons,List.length_nil];omega
theorem I0:Tryz.prog.underlying 5=some (.int .u8):=by kernel_rfl
theorem HS:Tryz.prog.underlying 208=some (.slice 5):=by kernel_rfl
theorem Gn:Tryz.prog.underlying 9=some .string:=by kernel_rfl
theorem Sc(u:Nat):∀(z:Int),z=(u:Int)->u<2^60->∀(h:ad) {k:Value->ad->Prop},(∀h',Le h h'->k (.string (ax (cj u))) h')->Ct 52 [.int .u64 z] h k:=by
 induction u using Nat.strongRecOn with
 |ind u ih=>
 intro z hz hu h k hk;obtain⟨A,hA⟩:=Ar.ex;have f1:A .aG .geq z 10=decide (z>=10):=bS A ..;have DU:A .bA .rem .u64 z 10=((u % 10:Nat):Int):=by rw[hA.bA,hz];show((u:Int)).tmod 10=_;rw[Int.tmod_eq_emod_of_nonneg (by omega)];omega
 have UL:A .bA .quo .u64 z 10=((u / 10:Nat):Int):=by rw[hA.bA,hz];show IntKind.wrap .u64 ((u:Int).tdiv 10)=_;rw[Int.tdiv_eq_ediv_of_nonneg (by omega)];rw[IntWalk.u64_in _ (by omega)];omega
 have rJ:A .bA .add .u64 48 ((u % 10:Nat):Int)=((48+u % 10:Nat):Int):=by rw[hA.bA];show IntKind.wrap .u64 (48+((u % 10:Nat):Int))=_;rw[IntWalk.u64_in _ (by omega)];omega
 have ZY:A .conv .u8 ((48+u % 10:Nat):Int)=((48+u % 10:Nat):Int):=by rw[hA.conv];show IntKind.wrap .u8 ((48+u % 10:Nat):Int)=_;exact IntWalk.u8_in _ (by omega)
 obtain⟨zr,KD⟩:∃zr:Int,zr=((u % 10:Nat):Int):=⟨_,rfl⟩;obtain⟨zq,hzq⟩:∃zq:Int,zq=((u / 10:Nat):Int):=⟨_,rfl⟩;obtain⟨zs,Uo⟩:∃zs:Int,zs=((48+u % 10:Nat):Int):=⟨_,rfl⟩;have htn:zs.toNat=48+u % 10:=by omega
 rw[<-KD]at DU rJ;rw[<-Uo]at rJ ZY;rw[<-hzq]at UL;by_cases iR:10<=u
 ·have f1:A .aG .geq z 10=true:=by rw[f1,decide_eq_true_eq];omega
  have hL:cj u=cj (u / 10)++cj (u % 10):=by rw[cj,if_pos iR];congr 1;rw[cj,if_neg (by omega),Nat.mod_mod]
  have i1:∀(h:ad) {k:Value->ad->Prop},(∀h',Le h h'->k (.string (ax (cj (u / 10)))) h')->Ct 52 [.int .u64 zq] h k:=ih (u / 10) (by omega) zq hzq (by omega);have i2:∀(h:ad) {k:Value->ad->Prop},(∀h',Le h h'->k (.string (ax (cj (u % 10)))) h')->Ct 52 [.int .u64 zr] h k:=ih (u % 10) (by omega) zr KD (by omega);have z1:=Ck (u / 10);have z2:=Ck (u % 10);rw[hL]at hk;generalize cj (u / 10)=a at *;generalize cj (u % 10)=b at *;have kf:(((ax a).size+(ax b).size:Nat):Int)<=2^62:=by rw[dn,dn];omega
  have vY:A .cat (ax a) (ax b)=ax (a++b):=by rw[hA.cat];exact kn ..
  clear hL z1 z2 rJ ZY ih;generalize ax a=sa at *;generalize ax b=sb at *;generalize ax (a++b)=sc at *;refine ah A (ar T52.aA T52.bm) Tryz.func52 rfl (by kernel_rfl) ?_;cbv;rw[f1];cbv;refine⟨by decide,?_⟩;cbv;rw[UL];refine i1 h (fun h1 l1=>?_);cbv;refine⟨by decide,?_⟩;cbv;rw[DU];refine i2 h1 (fun h2 l2=>?_);have ae:=hk h2 (l1.trans l2);cbv;refine⟨kf,?_⟩;cbv;rw[vY];exact ae
 ·have f1:A .aG .geq z 10=false:=by rw[f1,decide_eq_false_iff_not];omega
  have hL:cj u=[UInt8.ofNat zs.toNat]:=by rw[cj,if_neg iR,htn]
  rw[hL]at hk;clear hL ih UL;refine ah A (ar T52.aA T52.bm) Tryz.func52 rfl (by kernel_rfl) ?_;cbv;rw[f1];cbv;refine⟨by decide,?_⟩;cbv;rw[DU,rJ,ZY];intro nb h1 f1 e1;have l1:Le h h1:=by rw[e1];exact Le.set f1
  have g1:h1 nb=some (.cells #[.int .u8 zs] 5 (0,0)):=by rw[e1];exact af
  have ae:=hk h1 l1;clear e1 hk;cbv;refine NW HS I0 Gn g1 ?_;generalize ax [UInt8.ofNat zs.toNat]=sc at *;cbv;exact ae
theorem wF(u:Nat)(z:Int)(hz:z=(u:Int))(hu:u<2^60)(h:ad){k:Value->ad->Prop}(hk:∀h',Le h h'->k (.string (ax (cj u))) h'):Ct 27 [.int .i64 z] h k:=by
 obtain⟨A,hA⟩:=Ar.ex;have f1:A .aG .lss z 0=false:=by rw[bE A,decide_eq_false_iff_not];omega
 have ZY:A .conv .u64 z=z:=by rw[hA.conv];exact IntWalk.u64_in _ (by omega)
 have hc:= @Sc u z hz hu;clear hz hu;generalize ax (cj u)=sc at *;refine ah A (ar T27.aA T27.bm) Tryz.func27 rfl (by kernel_rfl) ?_;cbv;rw[f1];cbv;rw[ZY];refine hc h (fun h1 l1=>?_);have ae:=hk h1 l1;cbv;exact ae
theorem zG:∀x:By,(sq x).length<=2*x.length
 | []=>Nat.le_refl _
 |c::x=>by
  have:=zG x;unfold sq;split<;>simp only[List.length_cons]<;>omega
theorem Sj(s:ByteArray)(hs:s.size<=60)(h:ad){k:Value->ad->Prop}(hk:∀h',Le h h'->k (.string (ax (39::(sq s.data.toList++[39])))) h'):Ct 26 [.agg #[.int .i64 3,.int .i64 0,.string s]] h k:=by
 obtain⟨A,hA⟩:=Ar.ex;have rE:aS (A .iq s) s.size:=⟨by rw[hA.iq]⟩;have f30:A .aG .eql 3 0=false:=by rw[aw A];rfl
 have f31:A .aG .eql 3 1=false:=by rw[aw A];rfl
 have f32:A .aG .eql 3 2=false:=by rw[aw A];rfl
 obtain⟨I,bl⟩:∃I:Nat->Int×ByteArray->ad->Prop,∀m g h',I m g h'=∃j t' acc,aS g.1 j/\pO s j t'/\m=t'.length/\g.2=ax (39::acc)/\acc.length<=2*j/\acc++sq t'=sq s.data.toList/\h'=h:=⟨_,fun _ _ _=>rfl⟩;have hJ:I s.size (0,⟨#[39]⟩) h:=by rw[bl];exact⟨0,_,[],⟨rfl⟩,pO.start s,by have:=(pO.start s).len;omega,rfl,Nat.zero_le _,rfl,rfl⟩
 refine ah A (ar T26.aA T26.bm) Tryz.func26 rfl (by kernel_rfl) ?_;cbv;rw[f30];cbv;rw[f31];cbv;rw[f32];cbv;refine aX.go (G:=Int×ByteArray) (fun g=>[(4,.v (.int .i64 g.1)),(3,.v (.string g.2))]) (fun _=>[(1,[.int .i64 3,.int .i64 0,.string s])]) (fun m g h'=>I m g h') s.size (0,⟨#[39]⟩) ⟨?_,?_,?_⟩ hJ ?_
 ·cbv
 ·cbv
 ·cbv
 ·intro m g h' hI;rw[bl]at hI;cbv;obtain⟨j,t',acc,hg,q',hm,vS,hal,he,rfl⟩:=hI;obtain⟨z,out⟩:=g;replace hg:aS z j:=hg;replace vS:out=ax (39::acc):=vS;have Xu:out.size=acc.length+1:=by rw[vS,dn];rfl
  have hl:=q'.len;have f1:A .aG .lss z (A .iq s)=decide (j<s.size):=hg.gy rE;rw[f1];cases t' with
  |nil=>
   have aK:¬j<s.size:=by have:([]:By).length=0:=rfl;omega
   have cU:((out.size+(ax [39]).size:Nat):Int)<=2^62:=by rw[dn];show((out.size+1:Nat):Int)<=_;omega
   have vY:A .cat out ⟨#[39]⟩=ax (39::(sq s.data.toList++[39])):=by rw[hA.cat,vS,<-he];show ax _++ax [39]=_;rw[kn];simp[sq]
   have ae:=hk h' (fun _ _ e=>e);generalize ax (39::(sq s.data.toList++[39]))=sc at *;clear bl hJ hk he;rw[decide_eq_false aK];cbv;refine⟨cU,?_⟩;cbv;rw[vY];exact ae
  |cons c r=>
   have qJ:(c::r).length=r.length+1:=rfl;have aK:j<s.size:=by omega
   have cU:0<=z/\z<(s.size:Int):=hg.ix aK;obtain⟨b,hb⟩:∃b,A .byte s z=b:=⟨_,rfl⟩;have pj:b=(c.toNat:Int):=by rw[<-hb];exact q'.byte hg
   have f2:A .aG .eql b 39=decide (c.toNat=39):=by rw[aw A,decide_eq_decide,pj];omega
   have dD:=hg.succ (A:=A) (by omega);have gQ:r.length<m:=by rw[hm];exact Nat.lt_succ_self _
   have hq:=q'.next;have dp:A .sub s z (A .bA .add .i64 z 1)=ax [c]:=q'.sub hg (n:=1) dD;have D8:0<=A .bA .add .i64 z 1/\A .bA .add .i64 z 1<=(s.size:Int)/\0<=z/\z<=A .bA .add .i64 z 1:=by have h1:=dD.eq;have h2:=hg.eq;omega
   have D9:((out.size+(ax [c]).size:Nat):Int)<=2^62:=by rw[dn];show((out.size+1:Nat):Int)<=_;omega
   obtain⟨z2,fN⟩:∃z2,A .bA .add .i64 z 1=z2:=⟨_,rfl⟩;rw[fN]at dp D8 dD;obtain⟨sb,Aa⟩:∃sb,ax [c]=sb:=⟨_,rfl⟩;rw[Aa]at dp D9;obtain⟨o1,ZA⟩:∃o1,A .cat out sb=o1:=⟨_,rfl⟩;have UT:o1=ax (39::(acc++[c])):=by rw[<-ZA,<-Aa,hA.cat,vS];exact kn _ _
   have ur:((o1.size+(ax [39]).size:Nat):Int)<=2^62:=by rw[UT,dn,dn,List.length_cons,List.length_append,List.length_singleton,List.length_singleton];omega
   obtain⟨o2,ho2⟩:∃o2,A .cat o1 ⟨#[39]⟩=o2:=⟨_,rfl⟩;have ho2e:o2=ax (39::(acc++[c]++[39])):=by rw[<-ho2,UT,hA.cat];exact kn _ _
   have hI1:c.toNat≠39->I r.length (z2,o1) h':=fun hc=>by
    rw[bl];refine⟨j+1,r,acc++[c],dD,hq,rfl,UT,by rw[List.length_append,List.length_singleton];omega,?_,rfl⟩;rw[<-he,List.append_assoc];show acc++(c::sq r)=acc++(if c.toNat=39 then _ else _);rw[if_neg hc]
   have di:c.toNat=39->I r.length (z2,o2) h':=fun hc=>by
    rw[bl];have vX:c=39:=by rw[<-UInt8.toNat_inj];exact hc
    refine⟨j+1,r,acc++[c]++[39],dD,hq,rfl,ho2e,by rw[List.length_append,List.length_append,List.length_singleton,List.length_singleton];omega,?_,rfl⟩;rw[<-he,List.append_assoc,List.append_assoc,vX];rfl
   clear bl hJ hk he;rw[decide_eq_true aK];cbv;rw[fN];refine⟨D8,?_⟩;cbv;rw[dp];refine⟨D9,?_⟩;cbv;rw[ZA];refine⟨cU,?_⟩;cbv;rw[hb,f2];by_cases hc:c.toNat=39
   ·have di:=di hc;rw[decide_eq_true hc];cbv;refine⟨ur,?_⟩;cbv;rw[ho2,fN];refine⟨r.length,(_,_),gQ,⟨?_,?_,?_⟩,di⟩
    ·cbv
    ·cbv
    ·cbv
   ·have hI1:=hI1 hc;rw[decide_eq_false hc];cbv;rw[fN];refine⟨r.length,(_,_),gQ,⟨?_,?_,?_⟩,hI1⟩
    ·cbv
    ·cbv
    ·cbv
def sM(x:By):By:=39::(sq x++[39])
def OH(i:Nat)(x:By):List By:=[cj i++([44,32]++sM x),cj i,cj i++([44,32]++(sM x++[44,32,49])),sM x++([44,32]++sM x),[110,117,108,108,44,32]++sM x,cj i++[32,43,32,49,32,42,32,50,44,32,110,117,108,108],cj i++[44,32,97]]
def YY:List Int:=[0,1,1,3,13,0,2]
def xz(k i:Nat)(x:By):Row:=if k=5 then [iN ((i:Int)+2),v0]else [iN i,iT x]
theorem sL{x t:By}{ws:List Wd}(hx:x.length<=60)(ht:rG Oz t=true)(h:cN t ws):cN (sM x++t) (R9 x::ws):=by
 have:sM x++t=39::(sq x++39::t):=by simp[sM]
 rw[this];exact cN.txt x hx ht h
theorem JO{t:By}{ws:List Wd}(ht:rG cT t=true)(h:cN t ws):cN (49::t) (sE 1::ws):=cN.num (c:=49) (n:=[]) rfl rfl rfl (by decide) ht h
theorem Sg{t:By}{ws:List Wd}(ht:rG cT t=true)(h:cN t ws):cN (50::t) (sE 2::ws):=cN.num (c:=50) (n:=[]) rfl rfl rfl (by decide) ht h
theorem zJ{t:By}{ws:List Wd}(ht:rG oG t=true)(h:cN t ws):cN ([110,117,108,108]++t) (wd [110,117,108,108]::ws):=cN.name [117,108,108] rfl rfl ht h
theorem GW{X:By}{ws:List Wd}(hl:X.length<=500)(h:cN (X++[41]) ws):iE (ax (sN++(X++[41])))=(oH ws++[mG],0):=by
 refine AX ?_ ?_
 ·rw[dn];simp only[List.length_append,List.length_cons,List.length_nil];have:sN.length=23:=rfl;omega
 ·show cN (sN++(X++[41])) (oH ws);exact cN.ins h
theorem kT{X:By}{ws:List Wd}(hl:X.length<=500)(h:cN (X++[41]) ws){st:az}(hs:nC ao (oH ws++[mG])=(st,0)):dk ao (ax (sN++(X++[41])))=(st,0)/\ek (ax (sN++(X++[41])))=true:=by have hw:=GW hl h;refine⟨(Ba hw).trans hs,?_⟩;unfold ek;rw[hw];rfl
theorem yu:Nm b0:=⟨pz.2 (fun c hc=>by cases hc),by decide⟩
theorem qq{v:dg}(h:lj v):Nm (lit v).name/\lj (lit v).v:=⟨yu,h⟩
theorem Dz(op a b:Int):Nm (bin op a b).name/\lj (bin op a b).v:=⟨yu,lA⟩
theorem Og:Nm (eJ (ax [97])).name/\lj (eJ (ax [97])).v:=⟨⟨pz.2 (by decide),by decide⟩,lA⟩
theorem oJ{a:Int}(h:-2^63<=a/\a<2^63):lj (iN a):=gA.2 (by show _<=a/\a<=_;omega)
theorem vL(x:By):lj (iT x):=by show m6 0=true;decide
theorem kU{es:List (List Nd)}(h:∀e∈es,mI e)(hl:es.length<=6):eG (iy es):=
 ⟨fun n hn=>(by cases hn),fun n hn=>(by cases hn),h,fun i hi=>(by cases hi),by show es.length<=_;omega,fun hk=>absurd hk (by show ¬(3:Int)=4;decide),yu,yu,Nat.zero_le _,Nat.zero_le _⟩
structure InsOk(i:Nat)(x X:By)(k:Nat)(w:Int):Prop where
 all:∃es D1,dk ao (ax (sN++(X++[41])))=(iy es,0)/\ek (ax (sN++(X++[41])))=true/\eG (iy es)/\jD ru 0 (iy es)=(D1,[],w)/\(w≠0->D1=gO)/\(w=0->D1=nG (xz k i x)/\(jD D1 0 (iy es)).2.2=7)
theorem lF(n:Nat)(h:n<1000):(cj n).length<=3:=by
 rw[cj];split
 ·rw[List.length_append,cj];split
  ·rw[List.length_append,cj,if_neg (by omega)];simp only[List.length_cons,List.length_nil];omega
  ·simp only[List.length_cons,List.length_nil];omega
 ·simp only[List.length_cons,List.length_nil];omega
theorem E9(x:By)(h:x.length<=40):(sM x).length<=82:=by have:=zG x;simp only[sM,List.length_cons,List.length_append,List.length_nil];omega
theorem rm(v:dg)(l:List Int)(cols:List bT):pM (lit v) l cols=(v.k,cQ v):=rfl
theorem Mw{v:dg}(h:cQ v=0)(cols:List bT):fZ [lit v] cols=(v.k,0):=by
 have e:eN cols [lit v] []=([v.k],0):=by rw[fV,rm,h];rfl
 unfold fZ;rw[if_neg (by simp),e];rfl
theorem gu{v:dg}(h:cQ v=0)(cols:List bT)(r:Row):eA [lit v] cols r=(v,0):=by unfold eA;rw[Mw h];rfl
theorem dZ{x:List Nd}{v:dg}{cols:List bT}{r:Row}(h:eA x cols r=(v,0))(xs:List (List Nd))(l:Row):oa cols r (x::xs) l=oa cols r xs (l++[v]):=by rw[uR,h];rfl
theorem CZ:cQ v0=0:=by decide
theorem IP{v:dg}(h:cQ v=0):bG [[lit v]] [] []=([v],0):=by unfold bG;rw[dZ (gu h _ _)];rfl
theorem qN{v w:dg}(h:cQ v=0)(h2:cQ w=0):bG [[lit v],[lit w]] [] []=([v,w],0):=by unfold bG;rw[dZ (gu h _ _),dZ (gu h2 _ _)];rfl
theorem CY{v w u:dg}(h:cQ v=0)(h2:cQ w=0)(h3:cQ u=0):bG [[lit v],[lit w],[lit u]] [] []=([v,w,u],0):=by unfold bG;rw[dZ (gu h _ _),dZ (gu h2 _ _),dZ (gu h3 _ _)];rfl
theorem IQ{v:dg}(h:cQ v=0):bG [[lit v],[eJ (ax [97])]] [] []=([],2):=by unfold bG;rw[dZ (gu h _ _)];exact(by kernel_rfl:oa [] [] [[eJ (ax [97])]] [v]=([],2))
theorem IM{a b:Int}(hn:cO 14 a 2=some (iN b)):bG [[lit (iN a),lit (iN 1),lit (iN 2),bin 16 1 2,bin 14 0 3],[lit v0]] [] []=([iN b,v0],0):=by
 have hk:fZ [lit (iN a),lit (iN 1),lit (iN 2),bin 16 1 2,bin 14 0 3] []=(2,0):=by
  have e:eN [] [lit (iN a),lit (iN 1),lit (iN 2),bin 16 1 2,bin 14 0 3] []=eN [] [lit (iN 1),lit (iN 2),bin 16 1 2,bin 14 0 3] [2]:=by rw[fV,rm,lO];rfl
  unfold fZ;rw[if_neg (by simp),e];have e2:eN [] [lit (iN 1),lit (iN 2),bin 16 1 2,bin 14 0 3] [2]=([2,2,2,2,2],0):=by kernel_rfl
  rw[e2];rfl
 have e1:gL [] [] [lit (iN a),lit (iN 1),lit (iN 2),bin 16 1 2,bin 14 0 3] []=match cO 14 a 2 with
  |some v=>some [iN a,iN 1,iN 2,iN 2,v]
  |none=>none:=by kernel_rfl
 have hv:eA [lit (iN a),lit (iN 1),lit (iN 2),bin 16 1 2,bin 14 0 3] [] []=(iN b,0):=by unfold eA;rw[hk,e1,hn];rfl
 unfold bG;rw[dZ hv,dZ (gu CZ _ _)];rfl
theorem OE{i:Nat}(hi:i<1000){x:By}(hx:x.length<=40):∀k X w,(OH i x)[k]? =some X->YY[k]? =some w->InsOk i x X k w:=by
 have l1:=lF i hi;have l2:=E9 x hx;have Ie:x.length<=60:=by omega
 have K5:i<2^62:=by omega
 have ii:lj (iN i):=oJ (by omega);have nn:∀(v:dg),lj v->mI [lit v]:=fun v hv n hn=>by
  rcases List.mem_cons.1 hn with rfl|hn
  ·exact qq hv
  ·cases hn
 intro k X w hX hw
 match k with
 |0=>cases hX;cases hw;obtain⟨h1,h2⟩:=kT (X:=cj i++([44,32]++sM x)) (by simp only[List.length_append,List.length_cons,List.length_nil];omega) (by rw[List.append_assoc,List.append_assoc];exact cN.RT i K5 rfl (cN.comma (sL Ie rfl cN.close))) (st0 i x);have hf:bV bB [iN i,iT x]=0:=pq (Ei Ie);have hv:bG [[lit (iN i)],[lit (iT x)]] [] []=([iN i,iT x],0):=qN (lO i) (oe Ie);obtain⟨g1,g2⟩:=BG hv hf;exact⟨_,_,h1,h2,kU (by simpa using ⟨nn _ ii,nn _ (vL x)⟩) (by simp),g1,fun h=>absurd rfl h,fun _=>⟨rfl,g2⟩⟩
 |1=>cases hX;cases hw;obtain⟨h1,h2⟩:=kT (X:=cj i) (by omega) (cN.RT i K5 rfl cN.close) (st1 i);have hv:bG [[lit (iN i)]] [] []=([iN i],0):=IP (lO i);exact⟨_,_,h1,h2,kU (by simpa using nn _ ii) (by simp),rr hv (.inr ⟨rfl,rfl,by decide,by decide⟩),fun _=>rfl,fun h=>absurd h (by decide)⟩
 |2=>cases hX;cases hw;obtain⟨h1,h2⟩:=kT (X:=cj i++([44,32]++(sM x++[44,32,49]))) (by simp only[List.length_append,List.length_cons,List.length_nil];omega) (by rw[List.append_assoc,List.append_assoc,List.append_assoc];exact cN.RT i K5 rfl (cN.comma (sL Ie rfl (cN.comma (JO rfl cN.close))))) (st2 i x);have hv:bG [[lit (iN i)],[lit (iT x)],[lit (iN 1)]] [] []=([iN i,iT x,iN 1],0):=CY (lO i) (oe Ie) (lO 1);exact⟨_,_,h1,h2,kU (by simpa using ⟨nn _ ii,nn _ (vL x),nn _ (oJ (by decide))⟩) (by simp),rr hv (.inr ⟨rfl,rfl,by decide,by decide⟩),fun _=>rfl,fun h=>absurd h (by decide)⟩
 |3=>
  cases hX;cases hw;obtain⟨h1,h2⟩:=kT (X:=sM x++([44,32]++sM x)) (by simp only[List.length_append,List.length_cons,List.length_nil];omega) (by rw[List.append_assoc,List.append_assoc];exact sL Ie rfl (cN.comma (sL Ie rfl cN.close))) (st3 x x);have hv:bG [[lit (iT x)],[lit (iT x)]] [] []=([iT x,iT x],0):=qN (oe Ie) (oe Ie);have hf:bV bB [iT x,iT x]=3:=by
   have h:bV bB [iT x,iT x]=dC [bP ⟨nA,2,false⟩ (iT x),bP ⟨⟨#[98]⟩,3,true⟩ (iT x)]:=rfl;have h3:bP ⟨nA,2,false⟩ (iT x)=3:=by unfold bP;rw[oe Ie];rfl
   rw[h,h3];rfl
  exact⟨_,_,h1,h2,kU (by simpa using nn _ (vL x)) (by simp),rr hv (.inr ⟨rfl,hf,by decide,by decide⟩),fun _=>rfl,fun h=>absurd h (by decide)⟩
 |4=>cases hX;cases hw;obtain⟨h1,h2⟩:=kT (X:=[110,117,108,108,44,32]++sM x) (by simp only[List.length_append,List.length_cons,List.length_nil];omega) (by rw[List.append_assoc];exact zJ (t:=44::32::(sM x++[41])) rfl (cN.comma (sL Ie rfl cN.close))) (st4 x);have hv:bG [[lit v0],[lit (iT x)]] [] []=([v0,iT x],0):=qN CZ (oe Ie);have hf:bV bB [v0,iT x]=13:=rfl;exact⟨_,_,h1,h2,kU (by simpa using ⟨nn _ lA,nn _ (vL x)⟩) (by simp),rr hv (.inr ⟨rfl,hf,by decide,by decide⟩),fun _=>rfl,fun h=>absurd h (by decide)⟩
 |5=>
  cases hX;cases hw;obtain⟨h1,h2⟩:=kT (X:=cj i++[32,43,32,49,32,42,32,50,44,32,110,117,108,108]) (by simp only[List.length_append,List.length_cons,List.length_nil];omega) (by
   rw[List.append_assoc];exact cN.RT i K5 rfl (cN.sp (cN.sign rfl (by decide) (by decide) (cN.sp (JO rfl (cN.sp (cN.sign rfl (by decide) (by decide) (cN.sp (Sg rfl (cN.comma (zJ (t:=[41]) rfl cN.close))))))))))) (st5 i)
  have hf:bV bB [iN ((i:Int)+2),v0]=0:=pq rfl;have hn:cO 14 i 2=some (iN ((i:Int)+2)):=by unfold cO;rw[if_neg (by decide),if_pos rfl];unfold pB;rw[if_pos (gA.2 (by omega))];rfl
  have hv:bG [[lit (iN i),lit (iN 1),lit (iN 2),bin 16 1 2,bin 14 0 3],[lit v0]] [] []=([iN ((i:Int)+2),v0],0):=IM hn;obtain⟨g1,g2⟩:=BG hv hf;refine⟨_,_,h1,h2,kU ?_ (by simp),g1,fun h=>absurd rfl h,fun _=>⟨rfl,g2⟩⟩;intro e he;rcases List.mem_cons.1 he with rfl|he
  ·intro n hn;simp only[List.mem_cons,List.not_mem_nil,or_false]at hn;rcases hn with rfl|rfl|rfl|rfl|rfl
   ·exact qq ii
   ·exact qq (oJ (by decide))
   ·exact qq (oJ (by decide))
   ·exact Dz ..
   ·exact Dz ..
  ·rcases List.mem_cons.1 he with rfl|he
   ·exact nn _ lA
   ·cases he
 |6=>
  cases hX;cases hw;obtain⟨h1,h2⟩:=kT (X:=cj i++[44,32,97]) (by simp only[List.length_append,List.length_cons,List.length_nil];omega) (by rw[List.append_assoc];exact cN.RT i K5 rfl (cN.comma (cN.name (c:=97) [] rfl rfl rfl cN.close))) (st6 i);have hv:bG [[lit (iN i)],[eJ (ax [97])]] [] []=([],2):=IQ (lO i);refine⟨_,_,h1,h2,kU ?_ (by simp),rr hv (.inl ⟨rfl,by decide⟩),fun _=>rfl,fun h=>absurd h (by decide)⟩;intro e he;rcases List.mem_cons.1 he with rfl|he
  ·exact nn _ ii
  ·rcases List.mem_cons.1 he with rfl|he
   ·intro n hn;rcases List.mem_cons.1 hn with rfl|hn
    ·exact Og
    ·cases hn
   ·cases he
 |k+7=>cases hX
theorem Cg(a:dg):AT a a=true:=by simp[AT]
theorem Dl{xs:Row}{h:ad}{b1 b2:Option Addr}{n1 c1 n2 c2:Nat}(q1:Sl 61 bq h (.slice b1 n1 c1) xs)(q2:Sl 61 bq h (.slice b2 n2 c2) xs){k:Value->ad->Prop}(hk:k (.bool true) h):
 Ct 28 [.slice b1 n1 c1,.slice b2 n2 c2] h k:=by
 obtain⟨A,hA⟩:=Ar.ex;have e1:=q1.len;have e2:=q2.len;have hb:=q1.bound.1;have UY:n2=n1:=by omega
 subst UY;have AS:A .not true=false:=by rw[hA.not];rfl
 have fne:A .aG .neq (A .nat n2) (A .nat n2)=false:=by rw[aB A];simp
 obtain⟨I,bl⟩:∃I:Nat->Int->ad->Prop,∀m g h',I m g h'=∃j,aS g j/\m=n2-j/\j<=n2/\h'=h:=⟨_,fun _ _ _=>rfl⟩;have hJ:I n2 0 h:=by rw[bl];exact⟨0,⟨rfl⟩,rfl,Nat.zero_le _,rfl⟩
 refine ah A (ar T28.aA T28.bm) Tryz.func28 rfl (by kernel_rfl) ?_;cbv;rw[fne];cbv;refine aX.go (G:=Int) (fun g=>[(5,.v (.int .i64 g))]) (fun _=>[]) (fun m g h'=>I m g h') n2 0 ⟨?_,?_,?_⟩ hJ ?_
 ·cbv
 ·cbv
 ·cbv
 ·intro m z h' hI;rw[bl]at hI;cbv;obtain⟨j,hz,hm,hj,rfl⟩:=hI;have f1:A .aG .lss z (A .nat n2)=decide (j<n2):=hz.gy (aS.nat n2);rw[f1];by_cases aK:j<n2
  ·obtain⟨x,hx⟩:=aI (xs:=xs) (i:=j) (by omega);have rI:b1.isSome=true/\0<=z/\z<(n2:Int):=⟨q1.bu (by omega),hz.ix aK⟩;have kW:b2.isSome=true/\0<=z/\z<(n2:Int):=⟨q2.bu (by omega),hz.ix aK⟩;have fA:=hz.eq;have dD:=hz.succ (A:=A) (by omega);obtain⟨z2,fN⟩:∃z2,A .bA .add .i64 z 1=z2:=⟨_,rfl⟩;rw[fN]at dD;have di:I (n2-(j+1)) z2 h':=by rw[bl];exact⟨j+1,dD,rfl,aK,rfl⟩
   have gQ:n2-(j+1)<m:=by omega
   have heq:=(uM A x x).trans (Cg x);clear bl hJ hk;rw[decide_eq_true aK];cbv;refine⟨rI,?_⟩;cbv;refine q1.load hx fA (fun cs aC=>?_);replace aC:cs=[.int .i64 x.k,.int .i64 x.n,.string x.s]:=aC;subst aC;cbv;refine⟨kW,?_⟩;cbv;refine q2.load hx fA (fun cs aC=>?_);replace aC:cs=[.int .i64 x.k,.int .i64 x.n,.string x.s]:=aC;subst aC;cbv;rw[heq,AS];cbv;rw[fN];refine⟨_,_,gQ,⟨?_,?_,?_⟩,di⟩
   ·cbv
   ·cbv
   ·cbv
  ·rw[decide_eq_false aK];clear bl hJ;cbv;exact hk
theorem zZ:EJ 0 ru:=Cx og (by decide) 0 (by kernel_rfl)
theorem Ky{r:Row}(hf:bV bB r=0)(hr:fM r):EJ 2 (nG r):=by
 have h:=(zZ.hold ⟨0,eM,true⟩ (by decide)).put (s:=0) eM (by decide) hr;have e:(fv (ay ru ⟨0,eM,true⟩).1 0 eM r).1=nG r:=by show(fv gO 0 eM r).1=_;rw[EY hf]
 rw[e]at h;exact h
theorem Cv{A:Ar}[hA:aV A](a b:ByteArray):(A .cat a b).size=a.size+b.size:=by rw[hA.cat];exact vf a b
def MA(d:DB):Prop:=∀i x k X w,i<1000->x.length<=40->(OH i x)[k]? =some X->YY[k]? =some w->∃st D1,dk ao (ax (sN++(X++[41])))=(st,0)/\ek (ax (sN++(X++[41])))=true/\eG st/\st.kind=3/\jD d 0 st=(D1,[],w)/\
 (w≠0->∃t T,D1.aE=t::T/\t.rows=[])/\(w=0->∃t T n,D1.aE=t::T/\t.rows=[xz k i x]/\EJ n D1/\n+700<2^18/\(jD D1 0 st).2.2=7)
theorem OF:MA ru:=fun i x k X w hi hx hX hw=>by
 obtain⟨es,D1,h1,h2,h3,h4,h5,h6⟩:=(OE hi hx k X w hX hw).all;refine⟨iy es,D1,h1,h2,h3,rfl,h4,fun h=>?_,fun h=>?_⟩
 ·rw[h5 h];exact⟨cL 0,[cL 1,cL 2],by kernel_rfl,rfl⟩
 ·obtain⟨e,g⟩:=h6 h;subst e;have hf:bV bB (xz k i x)=0:=by
   unfold xz;split
   ·exact pq rfl
   ·exact pq (Ei (by omega))
  have hr:fM (xz k i x):=by
   unfold xz;split<;>intro v hv<;>rcases List.mem_cons.1 hv with rfl|hv
   ·exact oJ (by omega)
   ·rcases List.mem_cons.1 hv with rfl|hv
    ·exact lA
    ·cases hv
   ·exact oJ (by omega)
   ·rcases List.mem_cons.1 hv with rfl|hv
    ·exact vL x
    ·cases hv
  exact⟨⟨aT 0,[xz k i x]⟩,[cL 1,cL 2],2,Ku _,rfl,Ky hf hr,by decide,g⟩
theorem A3{e:Nat}{h:ad}{n:Nat}{v w:dg}(hb:h n=some (.cells #[.int .i64 v.k,.int .i64 v.n,.string v.s,.int .i64 w.k,.int .i64 w.n,.string w.s] e (0,0))):Sl e bq h (.slice (some ⟨n,0,none⟩) 2 2) [v,w]:=by
 refine Sl.fresh (s:=bq) (h:=h) (n:=n) (xs:=[v,w]) (cap:=2) (c:=[.int .i64 v.k,.int .i64 v.n,.string v.s,.int .i64 w.k,.int .i64 w.n,.string w.s]) hb ⟨Nat.le_refl 6,fun i x hx=>?_⟩ (by simp) (Nat.le_refl _)
 match i with
 |0=>cases hx;rfl
 |1=>cases hx;rfl
 |i+2=>cases hx
theorem insG(a:Int)(s:ByteArray)(w:Int)(h:ad){d1:DB}{be:Int}(hd:ey ed 0=(d1,be))(ej:EJ 0 d1)(aO:MA d1):Ct 8 [.int .i64 a,.string s,.int .i64 w] h (fun v h'=>Le h h'/\v=.bool true):=by
 obtain⟨A,hA⟩:=Ar.ex;have AS:A .not true=false:=by rw[hA.not];rfl
 have f40:A .aG .gtr (A .iq s) 40=decide (s.size>40):=by rw[bJ A,hA.iq];show decide ((s.size:Int)>40)=_;rw[decide_eq_decide];omega
 refine ah A (ar T8.aA T8.bm) Tryz.func8 rfl (by kernel_rfl) ?_;cbv;refine(zV h).mono (fun v h1 hR=>?_);obtain⟨l1,hv⟩:=hR;subst hv;cbv;rw[AS];cbv;rw[f40];by_cases hs:s.size>40
 ·rw[decide_eq_true hs];cbv;exact⟨l1,trivial⟩
 rw[decide_eq_false hs];cbv;refine qM a 1000 (by decide) (by decide) h1 (fun z i hz _ hi=>?_);cbv;refine zA (fun h2 b1 n1 c1 b2 n2 c2 b3 n3 c3 b4 n4 c4 d1' m1 e1 d2 m2 e2 d3 m3 e3 d4 m4 e4 l2 ME _=>?_);cbv;refine oV ME 0 (og.sj.CM.small (by decide)) hd (fun h3 b1 n1 c1 b2 n2 c2 b3 n3 c3 b4 n4 c4 l3 AH=>?_);replace AH:gj h3 (.agg #[.slice b1 n1 c1,.slice b2 n2 c2,.slice b3 n3 c3,.slice b4 n4 c4]) d1:=AH;clear hd;have hs40:s.size<=40:=by omega
 have nU:s.data.toList.length=s.size:=by rw[Array.length_toList];rfl
 have hmk:ax s.data.toList=s:=by cases s;simp[ax]
 have Ry:=fun k X w=>aO i s.data.toList k X w hi (by omega);have oK:z=(i:Int):=hz.eq;cbv;refine Sj s (by omega) h3 (fun h4 l4=>?_);obtain⟨tS,UH⟩:∃tS,ax (sM s.data.toList)=tS:=⟨_,rfl⟩;rw[show ax (39::(sq s.data.toList++[39]))=tS from UH];cbv;refine wF i z oK (by omega) h4 (fun h5 l5=>?_);obtain⟨nS,UX⟩:∃nS,ax (cj i)=nS:=⟨_,rfl⟩;rw[UX];cbv;refine qM w 7 (by decide) (by decide) h5 (fun kz kk Ri _ Ah=>?_);have hn3:nS.size<=3:=by rw[<-UX,dn];exact lF i hi
 have ht82:tS.size<=82:=by rw[<-UH,dn];exact E9 _ (by omega)
 obtain⟨k1,nO⟩:∃c,A .cat nS ⟨#[44,32]⟩=c:=⟨_,rfl⟩;obtain⟨k2,nh⟩:∃c,A .cat k1 tS=c:=⟨_,rfl⟩;obtain⟨k3,CQ⟩:∃c,A .cat k2 ⟨#[44,32,49]⟩=c:=⟨_,rfl⟩;obtain⟨k4,BS⟩:∃c,A .cat tS ⟨#[44,32]⟩=c:=⟨_,rfl⟩;obtain⟨k5,K2⟩:∃c,A .cat k4 tS=c:=⟨_,rfl⟩;obtain⟨k6,MZ⟩:∃c,A .cat ⟨#[110,117,108,108,44,32]⟩ tS=c:=⟨_,rfl⟩;obtain⟨k7,hk7⟩:∃c,A .cat nS ⟨#[32,43,32,49,32,42,32,50,44,32,110,117,108,108]⟩=c:=⟨_,rfl⟩;obtain⟨k8,hk8⟩:∃c,A .cat nS ⟨#[44,32,97]⟩=c:=⟨_,rfl⟩;have cs:∀a b:ByteArray,(A .cat a b).size=a.size+b.size:=fun a b=>Cv a b;have z1:k1.size<=5:=by rw[<-nO,cs];show nS.size+2<=5;omega
 have z2:k2.size<=87:=by rw[<-nh,cs];omega
 have z4:k4.size<=84:=by rw[<-BS,cs];show tS.size+2<=84;omega
 have y1:((nS.size+2:Nat):Int)<=2^62:=by omega
 have y2:((k1.size+tS.size:Nat):Int)<=2^62:=by omega
 have y3:((k2.size+3:Nat):Int)<=2^62:=by omega
 have y4:((tS.size+2:Nat):Int)<=2^62:=by omega
 have y5:((k4.size+tS.size:Nat):Int)<=2^62:=by omega
 have y6:((6+tS.size:Nat):Int)<=2^62:=by omega
 have y7:((nS.size+14:Nat):Int)<=2^62:=by omega
 have y8:((nS.size+3:Nat):Int)<=2^62:=by omega
 obtain⟨XL,hXL⟩:∃XL,XL=[k2,nS,k3,k5,k6,k7,k8]:=⟨_,rfl⟩;have hXe:XL=(OH i s.data.toList).map ax:=by
  have ap:∀x y:By,A .cat (ax x) (ax y)=ax (x++y):=fun x y=>by rw[hA.cat];exact kn x y
  have e1:k1=ax (cj i++[44,32]):=by rw[<-nO,<-UX];exact ap _ [44,32]
  have e2:k2=ax (cj i++([44,32]++sM s.data.toList)):=by rw[<-nh,e1,<-UH,ap,List.append_assoc]
  have e3:k3=ax (cj i++([44,32]++(sM s.data.toList++[44,32,49]))):=by rw[<-CQ,e2];refine(ap _ [44,32,49]).trans ?_;rw[List.append_assoc,List.append_assoc]
  have e4:k4=ax (sM s.data.toList++[44,32]):=by rw[<-BS,<-UH];exact ap _ [44,32]
  have e5:k5=ax (sM s.data.toList++([44,32]++sM s.data.toList)):=by rw[<-K2,e4,<-UH,ap,List.append_assoc]
  have e6:k6=ax ([110,117,108,108,44,32]++sM s.data.toList):=by rw[<-MZ,<-UH];exact ap [110,117,108,108,44,32] _
  have e7:k7=ax (cj i++[32,43,32,49,32,42,32,50,44,32,110,117,108,108]):=by rw[<-hk7,<-UX];exact ap _ [32,43,32,49,32,42,32,50,44,32,110,117,108,108]
  have e8:k8=ax (cj i++[44,32,97]):=by rw[<-hk8,<-UX];exact ap _ [44,32,97]
  rw[hXL,e2,e3,e5,e6,e7,e8,<-UX];rfl
 obtain⟨X,hX⟩:=aI (xs:=XL) (i:=kk) (by rw[hXL];exact Ah);obtain⟨X',hX',hXm⟩:∃X',(OH i s.data.toList)[kk]? =some X'/\X=ax X':=by
  rw[hXe,List.getElem?_map]at hX;cases hh:(OH i s.data.toList)[kk]? with
  |none=>rw[hh]at hX;cases hX
  |some X'=>rw[hh]at hX;exact⟨X',rfl,by cases hX;rfl⟩
 obtain⟨wt,hwt⟩:=aI (xs:=YY) (i:=kk) Ah;have hXs:X.size<=200:=by
  have:X∈XL:=List.mem_of_getElem? hX;have cn:∀(l:By) (n:Nat),l.length=n->(⟨l.toArray⟩:ByteArray).size=n:=fun l n h=>(dn l).trans h;rw[hXL]at this;simp only[List.mem_cons,List.not_mem_nil,or_false]at this;rcases this with e|e|e|e|e|e|e
  ·rw[e];omega
  ·rw[e];omega
  ·rw[e,<-CQ,cs];show k2.size+3<=200;omega
  ·rw[e,<-K2,cs];omega
  ·rw[e,<-MZ,cs];show 6+tS.size<=200;omega
  ·rw[e,<-hk7,cs];show nS.size+14<=200;omega
  ·rw[e,<-hk8,cs];show nS.size+3<=200;omega
 obtain⟨st,D1,fO,uo,hx,Vf,hD,iU,tQ⟩:=Ry kk X' wt hX' hwt;obtain⟨p1,UP⟩:∃c,A .cat ⟨#[105,110,115,101,114,116,32,105,110,116,111,32,116,97,32,118,97,108,117,101,115,32,40]⟩ X=c:=⟨_,rfl⟩;obtain⟨tx,Q0⟩:∃c,A .cat p1 ⟨#[41]⟩=c:=⟨_,rfl⟩;have Zg:tx=ax (sN++(X'++[41])):=by
  have ap:∀x y:By,A .cat (ax x) (ax y)=ax (x++y):=fun x y=>by rw[hA.cat];exact kn x y
  have e1:p1=ax (sN++X'):=by rw[<-UP,hXm];exact ap sN X'
  rw[<-Q0,e1];refine(ap _ [41]).trans ?_;rw[List.append_assoc]
 have y9:((23+X.size:Nat):Int)<=2^62:=by omega
 have y10:((p1.size+1:Nat):Int)<=2^62:=by
  have:p1.size=23+X.size:=by rw[<-UP,cs];rfl
  omega
 rw[<-Zg]at fO uo;have xg:∀d,j8 d 0 st:=fun d=>j8.no (by rw[Vf];decide) (by rw[Vf];decide) (by rw[Vf];decide);have O7:0<=kz/\kz<((7:Nat):Int):=Ri.ix Ah;have BQ:=Ri.eq;have fkk:A .aG .eql kz 5=decide (kk=5):=by rw[aw A,decide_eq_decide];omega
 replace oK:z=(i:Int):=hz.eq;have fN:A .bA .add .i64 z 2=(i:Int)+2:=by rw[hA.bA];show IntKind.wrap .i64 (z+2)=_;rw[IntWalk.i64_in _ (by omega)];omega
 obtain⟨zz,hzz⟩:∃zz,zz=(i:Int)+2:=⟨_,rfl⟩;have hRow:xz kk i s.data.toList=if kk=5 then [⟨2,zz,ax []⟩,⟨0,0,ax []⟩]else [⟨2,z,ax []⟩,⟨3,0,s⟩]:=by unfold xz iN iT v0;rw[hzz,oK,hmk]
 rw[<-hzz]at fN;generalize xz kk i s.data.toList=RW at *;clear aO Ry hXe hXm hX' Zg cs hn3 ht82 z1 z2 z4 UH UX hmk nU hzz oK hXs;cbv;refine⟨y1,?_⟩;cbv;rw[nO];refine⟨y2,?_⟩;cbv;rw[nh];refine⟨y1,?_⟩;cbv;rw[nO];refine⟨y2,?_⟩;cbv;rw[nh];refine⟨y3,?_⟩;cbv;rw[CQ];refine⟨y4,?_⟩;cbv;rw[BS];refine⟨y5,?_⟩;cbv;rw[K2];refine⟨y6,?_⟩;cbv;rw[MZ];refine⟨y7,?_⟩;cbv;rw[hk7];refine⟨y8,?_⟩;cbv;rw[hk8];intro nb h6 f6 e6;have l6:Le h5 h6:=by rw[e6];exact Le.set f6
 have s6:Sl 9 cB h6 (.slice (some ⟨nb,0,none⟩) 7 7) XL:=by rw[hXL];exact qS (l:=[k2,nS,k3,k5,k6,k7,k8]) ((congrFun e6 nb).trans af) (by simp)
 clear e6 hXL;cbv;refine⟨⟨rfl,O7⟩,?_⟩;cbv;refine s6.load hX BQ (fun cs aC=>?_);replace aC:cs=[.string X]:=aC;subst aC;cbv;intro eb h7 f7 e7;have l7:Le h6 h7:=by rw[e7];exact Le.set f7
 have s7:Sl 35 dR h7 (.slice (some ⟨eb,0,none⟩) 7 7) YY:=OA (l:=YY) ((congrFun e7 eb).trans af) (by decide);clear e7;cbv;refine⟨⟨rfl,O7⟩,?_⟩;cbv;refine s7.load hwt BQ (fun cs aC=>?_);replace aC:cs=[.int .i64 wt]:=aC;subst aC;cbv;refine⟨y9,?_⟩;cbv;rw[UP];refine⟨y10,?_⟩;cbv;rw[Q0];have l37:=(((l4.trans l5).trans l6).trans l7);refine doT (AH.mono l37) ej (by decide) uo fO hx (xg _) (fun h8 x1 m1 g1 x2 m2 g2 x3 m3 g3 x4 m4 g4 b n c l8 Dq s8=>?_);rw[hD]at Dq s8 |-;replace Dq:gj h8 (.agg #[.slice x1 m1 g1,.slice x2 m2 g2,.slice x3 m3 g3,.slice x4 m4 g4]) D1:=Dq;replace s8:Sl 59 aL h8 (.slice b n c) []:=s8;have hn:n=0:=s8.len;subst hn;have lt:Le h h8:=(((l1.trans l2).trans l3).trans l37).trans l8;have fww:A .aG .neq wt wt=false:=by rw[aB A];simp
 have HA:A .aG .neq (A .nat 0) 0=false:=by rw[aB A,hA.nat];rfl
 have fw0:A .aG .neq wt 0=decide (wt≠0):=aB A ..;clear s8 hD AH;cbv;rw[fww];cbv;rw[HA];cbv;rw[fw0];by_cases sV:wt≠0
 ·obtain⟨t0,T,hT,He⟩:=iU sV;have qt:=Dq.A7;have ma:0<m1:=by rw[qt.len,hT];simp
  have BW:x1.isSome=true/\(0:Int)<=0/\(0:Int)<(m1:Int):=⟨qt.bu ma,by omega,by omega⟩;have Xq:D1.aE[0]? =some t0:=by rw[hT];rfl
  have f0e:A .aG .eql (A .nat 0) 0=true:=by rw[aw A,hA.nat];rfl
  clear iU tQ;rw[decide_eq_true sV];cbv;refine⟨BW,?_⟩;cbv;refine qt.eE Xq (n:=0) rfl (o:=4) (m:=1) (by decide) (fun cs aC=>?_);obtain⟨_,_,_,x4,x5,x6,rfl,-,s2⟩:=aC;have hx5:x5=0:=by rw[s2.len,He];rfl
  subst hx5;cbv;rw[f0e];exact⟨lt,rfl⟩
 have hw00:wt=0:=Classical.byContradiction sV;obtain⟨t0,T,n9,hT,He,ej9,MW,h7⟩:=tQ hw00;have qt:=Dq.A7;have ma:0<m1:=by rw[qt.len,hT];simp
 have BW:x1.isSome=true/\(0:Int)<=0/\(0:Int)<(m1:Int):=⟨qt.bu ma,by omega,by omega⟩;have Xq:D1.aE[0]? =some t0:=by rw[hT];rfl
 have fin:∀h9 rb,Le h8 h9->Sl 61 bq h9 (.slice (some ⟨rb,0,none⟩) 2 2) RW->True:=fun _ _ _ _=>trivial;have f77:A .aG .eql 7 7=true:=by rw[aw A];rfl
 have f11:A .aG .eql (A .nat 1) 1=true:=by rw[aw A,hA.nat];rfl
 have h01:(0:Int)<=0/\(0:Int)<((1:Nat):Int):=by decide
 clear iU tQ fin;rw[decide_eq_false sV];cbv;intro rb h9 f9 e9;have l9:Le h8 h9:=by rw[e9];exact Le.set f9
 have s9:kk≠5->Sl 61 bq h9 (.slice (some ⟨rb,0,none⟩) 2 2) RW:=fun h5=>by
  rw[hRow,if_neg h5];exact A3 (v:=⟨2,z,ax []⟩) (w:=⟨3,0,s⟩) ((congrFun e9 rb).trans af)
 clear e9;cbv;rw[fkk];by_cases h5:kk=5
 ·rw[decide_eq_true h5];cbv;rw[fN];intro r2 kx f10 lW;have mZ:Le h9 kx:=by rw[lW];exact Le.set f10
  have vm:Sl 61 bq kx (.slice (some ⟨r2,0,none⟩) 2 2) RW:=by rw[hRow,if_pos h5];exact A3 (v:=⟨2,zz,ax []⟩) (w:=⟨0,0,ax []⟩) ((congrFun lW r2).trans af)
  clear lW s9;cbv;refine⟨y9,?_⟩;cbv;rw[UP];refine⟨y10,?_⟩;cbv;rw[Q0];have l89:=l9.trans mZ;refine doT (Dq.mono l89) ej9 MW uo fO hx (xg _) (fun B3 y1 o1 j1 y2 o2 j2 y3 o3 j3 y4 o4 j4 ba na ca uI _ _=>?_);rw[h7];have Yh:=qt.mono ((l89.trans uI).t _);have Gz:=vm.mono (uI.t _);have gy:Le h B3:=(lt.trans l89).trans uI;clear h7 uo fO hx ej9;cbv;rw[f77];cbv;refine⟨BW,?_⟩;cbv;refine Yh.eE Xq (n:=0) rfl (o:=4) (m:=1) (by decide) (fun cs aC=>?_);obtain⟨u1,u2,u3,u4,u5,u6,rfl,-,sr⟩:=aC;have Ig:u5=1:=by rw[sr.len,He];rfl
  subst Ig;rw[He]at sr;have Fj:=sr.bu (by omega:0<1);cbv;rw[f11];cbv;refine⟨BW,?_⟩;cbv;refine Yh.eE Xq (n:=0) rfl (o:=4) (m:=1) (by decide) (fun cs aC=>?_);obtain⟨u1,u2,u3,u4,u5,u6,rfl,-,sr⟩:=aC;have Ig:u5=1:=by rw[sr.len,He];rfl
  subst Ig;rw[He]at sr;have Fj:=sr.bu (by omega:0<1);cbv;refine⟨⟨Fj,h01⟩,?_⟩;cbv;refine iO sr (i:=0) rfl rfl (fun b9 n9 c9 s9=>?_);cbv;refine Dl s9 Gz ?_;cbv;exact⟨gy,trivial⟩
 rw[decide_eq_false h5];cbv;refine⟨y9,?_⟩;cbv;rw[UP];refine⟨y10,?_⟩;cbv;rw[Q0];refine doT (Dq.mono l9) ej9 MW uo fO hx (xg _) (fun B3 y1 o1 j1 y2 o2 j2 y3 o3 j3 y4 o4 j4 ba na ca uI _ _=>?_);rw[h7];have Yh:=qt.mono ((l9.trans uI).t _);have Gz:=(s9 h5).mono (uI.t _);have gy:Le h B3:=(lt.trans l9).trans uI;clear h7 uo fO hx ej9;cbv;rw[f77];cbv;refine⟨BW,?_⟩;cbv;refine Yh.eE Xq (n:=0) rfl (o:=4) (m:=1) (by decide) (fun cs aC=>?_);obtain⟨u1,u2,u3,u4,u5,u6,rfl,-,sr⟩:=aC;have Ig:u5=1:=by rw[sr.len,He];rfl
 subst Ig;rw[He]at sr;have Fj:=sr.bu (by omega:0<1);cbv;rw[f11];cbv;refine⟨BW,?_⟩;cbv;refine Yh.eE Xq (n:=0) rfl (o:=4) (m:=1) (by decide) (fun cs aC=>?_);obtain⟨u1,u2,u3,u4,u5,u6,rfl,-,sr⟩:=aC;have Ig:u5=1:=by rw[sr.len,He];rfl
 subst Ig;rw[He]at sr;have Fj:=sr.bu (by omega:0<1);cbv;refine⟨⟨Fj,h01⟩,?_⟩;cbv;refine iO sr (i:=0) rfl rfl (fun b9 n9 c9 s9=>?_);cbv;refine Dl s9 Gz ?_;cbv;exact⟨gy,trivial⟩
theorem Xk(a:Int)(s:ByteArray)(w:Int)(h:ad):Ct 8 [.int .i64 a,.string s,.int .i64 w] h (fun v h'=>Le h h'/\v=.bool true):=
 insG a s w h (d1:=ru) (be:=(ey ed 0).2) rfl zZ OF
end Go.S
