import Derived.Test.YtekoaiendgjkdaaGreatUA
import Derived.Test.YtekoaiendgjkdaaGreatDB
import Derived.Test.YtekoaiendgjkdaaGreatQC
import Derived.Test.YtekoaiendgjkdaaGreatQA
import Derived.Test.YtekoaiendgjkdaaGreatEC
import Derived.Test.YtekoaiendgjkdaaGreatH2a
import Derived.Test.YtekoaiendgjkdaaGreatRd
import Derived.Test.YtekoaiendgjkdaaGreatTab
import Derived.Test.YtekoaiendgjkdaaGreatDA
import Derived.Test.YtekoaiendgjkdaaGreatVB
import Derived.Laws.BytesArg
import Derived.Test.YtekoaiendgjkdaaGreatX
import Derived.Test.YtekoaiendgjkdaaGreatH2
set_option linter.unusedVariables false
set_option linter.unusedSimpArgs false
set_option linter.unusedSectionVars false
namespace Go.S
def pP(f:UInt8->Bool):By->Bool
 | []=>true
 |c::_=> !f c
theorem ry{t:By}(ht:pP m0 t=true):∀(n:By),n.all m0=true->cf (n++t)=n.length
 | [],_=>by
  cases t with
  |nil=>rfl
  |cons c t=>
   have:m0 c=false:=by simpa[pP]using ht
   show cf (c::t)=0;unfold cf;rw[this]
 |c::n,h=>by
  rw[List.all_cons,Bool.and_eq_true]at h;show cf (c::(n++t))=_;unfold cf;rw[h.1];show cf (n++t)+1=_;rw[ry ht n h.2];rfl
def dv:Int->By->Int
 |n,[]=>n
 |n,c::t=>dv (10*n+((c.toNat:Int)-48)) t
theorem Ig{c:UInt8}(h:cH c=true):48<=c.toNat/\c.toNat<=57:=by unfold cH at h;simpa using h
theorem NQ:∀(t:By) (n:Int),0<=n->t.all cH=true->n<=dv n t
 | [],n,_,_=>Int.le_refl _
 |c::t,n,hn,h=>by
  rw[List.all_cons,Bool.and_eq_true]at h;have:=Ig h.1;have h2:=NQ t (10*n+((c.toNat:Int)-48)) (by omega) h.2;show n<=dv (10*n+((c.toNat:Int)-48)) t;omega
theorem yP{t:By}(ht:pP cH t=true):∀(n:By) (v:Int),n.all cH=true->0<=v->dv v n<=9223372036854775807->jq (n++t) v=((dv v n,t),0)
 | [],v,_,_,_=>by
  cases t with
  |nil=>rfl
  |cons c t=>
   have:cH c=false:=by simpa[pP]using ht
   show jq (c::t) v=_;unfold jq;rw[this];rfl
 |c::n,v,hn,hv,hm=>by
  rw[List.all_cons,Bool.and_eq_true]at hn;have hc:=Ig hn.1;have hm:dv (10*v+((c.toNat:Int)-48)) n<=9223372036854775807:=hm;have iu:=NQ n (10*v+((c.toNat:Int)-48)) (by omega) hn.2;show jq (c::(n++t)) v=_;unfold jq;rw[hn.1];have hle:¬v>(9223372036854775807-((c.toNat:Int)-48)) / 10:=by omega
  show(if v>(9223372036854775807-((c.toNat:Int)-48)) / 10 then _ else _)=_;rw[if_neg hle,yP ht n _ hn.2 (by omega) hm];rfl
def sy:By->By
 | []=>[]
 |c::t=>if c.toNat=39 then 39::39::sy t else c::sy t
def KC(c:UInt8):Bool:=decide (c.toNat=39)
theorem qM{t:By}(ht:pP KC t=true):∀(x out:By),out.length+x.length<=60->dL (sy x++39::t) out=((out++x,t),0)
 | [],out,ho=>by
  have e3:¬out.length>60:=by simp at ho;omega
  rw[List.append_nil];cases t with
  |nil=>show(if out.length>60 then _ else _)=_;rw[if_neg e3]
  |cons d t=>
   have hd:decide (d.toNat=39)=false:=by simpa[pP,KC]using ht
   show(match decide (d.toNat=39)with
    |true=>dL t (out++[39])
    |false=>if out.length>60 then(([],[]),5)else((out,d::t),0))=_
   rw[hd];show(if out.length>60 then _ else _)=_;rw[if_neg e3]
 |c::x,out,ho=>by
  by_cases hc:c.toNat=39
  ·have hq:sy (c::x)=39::39::sy x:=by show(if c.toNat=39 then _ else _)=_;rw[if_pos hc]
   rw[hq];have vo:c=39:=by rw[<-UInt8.toNat_inj];exact hc
   show dL (sy x++39::t) (out++[39])=_;rw[qM ht x _ (by simp at ho |-;omega),vo];simp
  ·have hq:sy (c::x)=c::sy x:=by show(if c.toNat=39 then _ else _)=_;rw[if_neg hc]
   rw[hq];show dL (c::(sy x++39::t)) out=_;unfold dL;rw[decide_eq_false hc];show dL (sy x++39::t) (out++[c])=_;rw[qM ht x _ (by simp at ho |-;omega)];simp
def dN(t:By)(ws:List Wd):Prop:=∀(fuel:Nat) (l:List Wd),t.length<fuel->oT fuel t l=(l++(ws++[⟨0,0,au []⟩]),0)
theorem dN.nil:dN [] []:=fun fuel l hf=>by
 match fuel,hf with
 |k+1,_=>rfl
theorem dN.sp{t:By}{ws:List Wd}(h:dN t ws):dN (32::t) ws:=fun fuel l hf=>by
 match fuel,hf with
 |k+1,hf=>exact h k l (by simp at hf;omega)
theorem dN.step{c:UInt8}{r t:By}{w:Wd}{ws:List Wd}(Ng:qX c=false)(hn:jy c r=((w,t),0))(hl:t.length<=r.length)(h:dN t ws):dN (c::r) (w::ws):=fun fuel l hf=>by
 match fuel,hf with
 |k+1,hf=>
  show(match qX c with
   |true=>oT k r l
   |false=>match jy c r with
    | (p,e)=>if e=0 then oT k p.2 (l++[p.1])else([],e))=_
  rw[Ng,hn];show oT k t (l++[w])=_;rw[h k _ (by simp at hf;omega)];simp
theorem O4{c:UInt8}(h:isLet c=true):qX c=false:=by unfold isLet at h;unfold qX;simp at h |-;omega
theorem QZ{c:UInt8}(h:cH c=true):qX c=false:=by unfold cH at h;unfold qX;simp at h |-;omega
theorem LW{c:UInt8}(h:cH c=true):isLet c=false:=by unfold cH at h;unfold isLet;simp at h |-;omega
theorem dN.name{c:UInt8}(n:By){t:By}{ws:List Wd}(hc:isLet c=true)(hn:n.all m0=true)(ht:pP m0 t=true)(h:dN t ws):dN (c::(n++t)) (⟨1,0,au (c::n)⟩::ws):=by
 refine dN.step (O4 hc) ?_ (by simp) h;have hl:=ry ht (c::n) (by
  rw[List.all_cons,hn,Bool.and_true];unfold m0;rw[hc];rfl)
 rw[List.cons_append]at hl;unfold jy;rw[hc,hl];show((((⟨1,0,au (((c::n)++t).take (c::n).length)⟩:Wd),((c::n)++t).drop (c::n).length),(0:Int)):(Wd×By)×Int)=_;rw[List.take_left,List.drop_left]
theorem dN.num{c:UInt8}{n t:By}{ws:List Wd}{v:Int}(hc:cH c=true)(hn:n.all cH=true)(hv:dv 0 (c::n)=v)(hm:v<=9223372036854775807)(ht:pP cH t=true)(h:dN t ws):dN (c::(n++t)) (⟨2,v,au []⟩::ws):=by refine dN.step (QZ hc) ?_ (by simp) h;have he:=yP ht (c::n) 0 (by rw[List.all_cons,hn,hc];rfl) (Int.le_refl _) (by rw[hv];exact hm);rw[hv,List.cons_append]at he;unfold jy;rw[LW hc,hc,he]
theorem dN.txt(x:By){t:By}{ws:List Wd}(hx:x.length<=60)(ht:pP KC t=true)(h:dN t ws):dN (39::(sy x++39::t)) (⟨3,0,au x⟩::ws):=by
 refine dN.step rfl ?_ (by simp;omega) h;have he:=qM ht x [] (by simpa using hx);show(match dL (sy x++39::t) []with
  | (p,e)=>((⟨3,0,au p.1⟩,p.2),e):(Wd×By)×Int)=_
 rw[he];rfl
theorem dN.sign{c:UInt8}{t:By}{ws:List Wd}(hc:gP.contains c.toNat=true)(oW:c.toNat≠60)(Ec:c.toNat≠62)(h:dN t ws):dN (c::t) (⟨4,0,au [c]⟩::ws):=by
 have iC:=hc;unfold gP at iC;have e1:isLet c=false:=by unfold isLet;simp at iC |-;omega
 have e2:cH c=false:=by unfold cH;simp at iC |-;omega
 have e3:decide (c.toNat=39)=false:=by simp at iC |-;omega
 have e0:qX c=false:=by unfold qX;simp at iC |-;omega
 have hs:fL (c::t)=1:=by
  cases t with
  |nil=>show(if gP.contains c.toNat then 1 else 0)=_;rw[if_pos hc]
  |cons d t=>
   have:vd c d=false:=by unfold vd;rw[decide_eq_false oW,decide_eq_false Ec];rfl
   show(if vd c d then 2 else if gP.contains c.toNat then 1 else 0)=_;rw[this,if_pos hc];rfl
 refine dN.step e0 ?_ (Nat.le_refl _) h;unfold jy;rw[e1,e2,e3,hs];rfl
theorem Fa{s:ByteArray}{ws:List Wd}(hl:s.size<=600)(h:dN s.data.toList ws):iS s=(ws++[⟨0,0,au []⟩],0):=by unfold iS;rw[if_neg (by omega)];exact h _ [] (by show s.data.toList.length<s.data.size+1;rw[Array.length_toList];omega)
def pj(ok:ByteArray->Bool)(w:List Wd):aA×Int:=
 let r:=PS.stmt ok ⟨w,0,[]⟩;let p:PS:=r.2;let p:PS:=match p.ws with
  |w::_=>if p.err=0/\w.k≠0 then p.fail 6 else p
  | []=>p
 if p.err=0/\r.1.1.kind=1 then
  match sH r.1.1.lM.cols r.1.2 0 with
  |some k=>({ r.1.1 with lM:={ r.1.1.lM with key:=(k:Int) } },(0:Int))
  |none=>({},(2:Int))
 else if p.err≠0 then({},p.err)else(r.1.1,0)
theorem FD{ok:ByteArray->Bool}{s:ByteArray}{w:List Wd}(h:iS s=(w,0)):ki ok s=pj ok w:=by unfold ki;rw[h];rfl
def dK(n:Nat):By:=if 10<=n then dK (n / 10)++[UInt8.ofNat (48+n % 10)]else [UInt8.ofNat (48+n % 10)]
 termination_by n
 decreasing_by omega
theorem H9:∀(a b:By) (n:Int),dv n (a++b)=dv (dv n a) b
 | [],b,n=>rfl
 |c::a,b,n=>by
  rw[List.cons_append];exact H9 a b _
theorem zW{d:Nat}(h:d<10):(UInt8.ofNat (48+d)).toNat=48+d:=by rw[UInt8.toNat_ofNat'];omega
theorem LY(n:Nat):dv 0 (dK n)=n:=by
 induction n using Nat.strongRecOn with
 |ind n ih=>
  unfold dK;have hd:=zW (Nat.mod_lt n (by decide:0<10));by_cases hn:10<=n
  ·rw[if_pos hn,H9,ih (n / 10) (by omega)];show 10*_+(((UInt8.ofNat (48+n % 10)).toNat:Int)-48)=_;rw[hd];omega
  ·rw[if_neg hn];show 10*0+(((UInt8.ofNat (48+n % 10)).toNat:Int)-48)=_;rw[hd];omega
theorem Ih(n:Nat):(dK n).all cH=true:=by
 induction n using Nat.strongRecOn with
 |ind n ih=>
  have hd:cH (UInt8.ofNat (48+n % 10))=true:=by unfold cH;rw[zW (Nat.mod_lt n (by decide:0<10))];have:=Nat.mod_lt n (by decide:0<10);simp;omega
  unfold dK;by_cases hn:10<=n
  ·rw[if_pos hn,List.all_append,ih (n / 10) (by omega),List.all_cons,hd];rfl
  ·rw[if_neg hn,List.all_cons,hd];rfl
theorem LX(n:Nat):dK n≠[]:=by unfold dK;split<;>simp
theorem dN.Vh(n:Nat){t:By}{ws:List Wd}(hn:n<2^62)(ht:pP cH t=true)(h:dN t ws):dN (dK n++t) (⟨2,n,au []⟩::ws):=by
 obtain⟨c,m,hm⟩:∃c m,dK n=c::m:=by
  cases hh:dK n with
  |nil=>exact absurd hh (LX n)
  |cons c m=>exact⟨c,m,rfl⟩
 have ha:=Ih n;have hv:=LY n;rw[hm]at ha hv |-;rw[List.all_cons,Bool.and_eq_true]at ha;exact dN.num ha.1 ha.2 hv (by omega) ht h
set_option maxRecDepth 100000
set_option maxHeartbeats 8000000
open Go.Sx
def qQ:By:=[105,110,115,101,114,116,32,105,110,116,111,32,116,97,32,118,97,108,117,101,115,32,40]
def wd(l:By):Wd:=⟨1,0,au l⟩
def wP(c:UInt8):Wd:=⟨4,0,au [c]⟩
def uZ(n:Int):Wd:=⟨2,n,au []⟩
def Rs(x:By):Wd:=⟨3,0,au x⟩
def m6(ws:List Wd):List Wd:=wd [105,110,115,101,114,116]::wd [105,110,116,111]::wd [116,97]::wd [118,97,108,117,101,115]::wP 40::ws
theorem dN.ins{t:By}{ws:List Wd}(h:dN t ws):dN (qQ++t) (m6 ws):=
 dN.name [110,115,101,114,116] rfl rfl rfl (dN.sp (dN.name [110,116,111] rfl rfl rfl (dN.sp (dN.name [97] rfl rfl rfl (dN.sp (dN.name [97,108,117,101,115] rfl rfl rfl (dN.sp (dN.sign rfl (by decide) (by decide) h))))))))
def Q3:List Wd:=[wP 41]
theorem dN.close:dN [41] Q3:=dN.sign rfl (by decide) (by decide) dN.nil
theorem dN.comma{t:By}{ws:List Wd}(h:dN t ws):dN (44::32::t) (wP 44::ws):=dN.sign rfl (by decide) (by decide) (dN.sp h)
def gG(es:List (List Nd)):aA:={ kind:=3,table:=au [116,97],exprs:=es }
def iN(a:Int):cR:=⟨2,a,b0⟩
def iT(x:By):cR:=⟨3,0,au x⟩
def pX:Wd:=⟨0,0,au []⟩
theorem st0(a:Int)(x:By):pj ai (m6 [uZ a,wP 44,Rs x,wP 41]++[pX])=(gG [[lit (iN a)],[lit (iT x)]],0):=by kernel_rfl
theorem st1(a:Int):pj ai (m6 [uZ a,wP 41]++[pX])=(gG [[lit (iN a)]],0):=by kernel_rfl
theorem st2(a:Int)(x:By):pj ai (m6 [uZ a,wP 44,Rs x,wP 44,uZ 1,wP 41]++[pX])=(gG [[lit (iN a)],[lit (iT x)],[lit (iN 1)]],0):=by kernel_rfl
theorem st3(x y:By):pj ai (m6 [Rs x,wP 44,Rs y,wP 41]++[pX])=(gG [[lit (iT x)],[lit (iT y)]],0):=by kernel_rfl
theorem st4(x:By):pj ai (m6 [wd [110,117,108,108],wP 44,Rs x,wP 41]++[pX])=(gG [[lit v0],[lit (iT x)]],0):=by kernel_rfl
theorem st5(a:Int):pj ai (m6 [uZ a,wP 43,uZ 1,wP 42,uZ 2,wP 44,wd [110,117,108,108],wP 41]++[pX])=(gG [[lit (iN a),lit (iN 1),lit (iN 2),bin 16 1 2,bin 14 0 3],[lit v0]],0):=by kernel_rfl
theorem st6(a:Int):pj ai (m6 [uZ a,wP 44,wd [97],wP 41]++[pX])=(gG [[lit (iN a)],[ek (au [97])]],0):=by kernel_rfl
def dX:ByteArray:=au [116,97]
def rV:DB:=(ed dY 0).1
def fH:DB:=(ax rV ⟨0,dX,true⟩).1
def kx:DB:=(ax fH ⟨0,dX,true⟩).1
theorem KJ:ax rV ⟨0,dX,true⟩=(fH,0):=by kernel_rfl
theorem zh:ax fH ⟨0,dX,true⟩=(kx,0):=by kernel_rfl
theorem G9(es:List (List Nd)):ny rV 0 (gG es)=cY fH (match bE es [] []with
 | (r,e)=>if e≠0 then(fH,e)else ff fH 0 dX r):=by
 have h:ny rV 0 (gG es)=match ax rV ⟨0,dX,true⟩with
  | (d,e)=>if e≠0 then(d,[],e)else cY d (match bE es [] []with
   | (r,e)=>if e≠0 then(d,e)else ff d 0 dX r):=rfl
 rw[h,KJ];rfl
theorem oG(a:Int):cC (iN a)=0:=by simp[cC,iN,mj,jd,au];show((0:Nat):Int)<=60;omega
theorem oF{x:By}(hx:x.length<=60):cC (iT x)=0:=by
 have h:(au x).size=x.length:=by simp[au,ByteArray.size]
 have h2:¬((au x).size:Int)>60:=by omega
 simp[cC,iT,mj,jd,h2]
theorem QF(a:Int):bG ⟨nA,2,false⟩ (iN a)=0:=by unfold bG;rw[oG];rfl
theorem HW{x:By}(hx:x.length<=60):bG ⟨⟨#[98]⟩,3,true⟩ (iT x)=0:=by unfold bG;rw[oF hx];rfl
theorem sG{a:Int}{w:cR}(hw:bG ⟨⟨#[98]⟩,3,true⟩ w=0):bM bl [iN a,w]=0:=by have h:bM bl [iN a,w]=dh [bG ⟨nA,2,false⟩ (iN a),bG ⟨⟨#[98]⟩,3,true⟩ w]:=rfl;rw[h,QF,hw];rfl
theorem J9{d:DB}(hd:ax d ⟨0,dX,true⟩=(kx,0)){r:Row}{e:Int}(hf:bM bl r=e)(h0:e≠0)(h19:e≠19):(ff d 0 dX r).2=e:=by
 have h1:ff d 0 dX r=(if decide ((ax d ⟨0,dX,true⟩).2≠0)=true then ax d ⟨0,dX,true⟩
  else match (ax d ⟨0,dX,true⟩).1.aB[dm (aM (ax d ⟨0,dX,true⟩).1.aB dX)]?,(ax d ⟨0,dX,true⟩).1.aq[dm (cm (ax d ⟨0,dX,true⟩).1.aq 0)]? with
  |some t,some w=>
   if decide ((cU r t).2.2≠19)&&decide ((w.log.length:Int)>=60)then((ax d ⟨0,dX,true⟩).1,4)
   else if decide ((cU r t).2.2=0)=true then
    (⟨(ax d ⟨0,dX,true⟩).1.aB.set (dm (aM (ax d ⟨0,dX,true⟩).1.aB dX)) (cU r t).1,(ax d ⟨0,dX,true⟩).1.aq.set (dm (cm (ax d ⟨0,dX,true⟩).1.aq 0)) ⟨w.s,w.log++[⟨dX,(cU r t).2.1.op,(cU r t).2.1.row⟩],w.marks⟩,(ax d ⟨0,dX,true⟩).1.holds,(ax d ⟨0,dX,true⟩).1.waits⟩,0)
   else((ax d ⟨0,dX,true⟩).1,(cU r t).2.2)
  |_,_=>ax d ⟨0,dX,true⟩):=rfl
 have ht:kx.aB[dm (aM kx.aB dX)]? =some (cI 0):=by kernel_rfl
 have hw:kx.aq[dm (cm kx.aq 0)]? =some ⟨0,[],[]⟩:=by kernel_rfl
 have hp:(cU r (cI 0)).2.2=e:=by show(bI (cI 0) r).2=e;unfold bI;rw[show(cI 0).S.cols=bl from rfl,if_pos (by rw[hf];simpa using h0)];exact hf
 rw[h1,hd];simp only[ht,hw,hp];simp[h0,h19]
def mu(r:Row):DB:=⟨kx.aB.set 0 (sU (cI 0) 0 r),kx.aq.set 0 ⟨0,[]++[⟨dX,1,r⟩],[]⟩,kx.holds,kx.waits⟩
theorem B3{r:Row}(hf:bM bl r=0):ff fH 0 dX r=(mu r,0):=by
 have h1:ff fH 0 dX r=(if decide ((ax fH ⟨0,dX,true⟩).2≠0)=true then ax fH ⟨0,dX,true⟩
  else match (ax fH ⟨0,dX,true⟩).1.aB[dm (aM (ax fH ⟨0,dX,true⟩).1.aB dX)]?,(ax fH ⟨0,dX,true⟩).1.aq[dm (cm (ax fH ⟨0,dX,true⟩).1.aq 0)]? with
  |some t,some w=>
   if decide ((cU r t).2.2≠19)&&decide ((w.log.length:Int)>=60)then((ax fH ⟨0,dX,true⟩).1,4)
   else if decide ((cU r t).2.2=0)=true then
    (⟨(ax fH ⟨0,dX,true⟩).1.aB.set (dm (aM (ax fH ⟨0,dX,true⟩).1.aB dX)) (cU r t).1,(ax fH ⟨0,dX,true⟩).1.aq.set (dm (cm (ax fH ⟨0,dX,true⟩).1.aq 0)) ⟨w.s,w.log++[⟨dX,(cU r t).2.1.op,(cU r t).2.1.row⟩],w.marks⟩,(ax fH ⟨0,dX,true⟩).1.holds,(ax fH ⟨0,dX,true⟩).1.waits⟩,0)
   else((ax fH ⟨0,dX,true⟩).1,(cU r t).2.2)
  |_,_=>ax fH ⟨0,dX,true⟩):=rfl
 have ht:kx.aB[0]? =some (cI 0):=by kernel_rfl
 have KX:dm (aM kx.aB dX)=0:=by kernel_rfl
 have hwi:dm (cm kx.aq 0)=0:=by kernel_rfl
 have hw:kx.aq[0]? =some ⟨0,[],[]⟩:=by kernel_rfl
 have hp:cU r (cI 0)=(sU (cI 0) 0 r,⟨jS,1,r⟩,0):=by
  have e1:cy (cI 0) (keyOf (cI 0).S.key r)=[]:=rfl;unfold cU bI;have eb:kE []=false:=by kernel_rfl
  have ei:dm []=0:=by kernel_rfl
  rw[show(cI 0).S.cols=bl from rfl,hf,e1,eb,ei];rfl
 rw[h1,zh];simp only[KX,hwi,ht,hw,hp];rfl
theorem G8(r:Row):(mu r).aB=[⟨bN 0,[r]⟩,cI 1,cI 2]:=by kernel_rfl
def dR(r:Row):DB:=(ax (mu r) ⟨0,dX,true⟩).1
theorem Hb(r:Row):ax (mu r) ⟨0,dX,true⟩=(dR r,0):=by kernel_rfl
theorem Ha(r:Row):ax (dR r) ⟨0,dX,true⟩=(dR r,0):=by kernel_rfl
theorem Dx{r:Row}(hf:bM bl r=0):(ff (dR r) 0 dX r).2=7:=by
 have h1:ff (dR r) 0 dX r=(if decide ((ax (dR r) ⟨0,dX,true⟩).2≠0)=true then ax (dR r) ⟨0,dX,true⟩
  else match (ax (dR r) ⟨0,dX,true⟩).1.aB[dm (aM (ax (dR r) ⟨0,dX,true⟩).1.aB dX)]?,(ax (dR r) ⟨0,dX,true⟩).1.aq[dm (cm (ax (dR r) ⟨0,dX,true⟩).1.aq 0)]? with
  |some t,some w=>
   if decide ((cU r t).2.2≠19)&&decide ((w.log.length:Int)>=60)then((ax (dR r) ⟨0,dX,true⟩).1,4)
   else if decide ((cU r t).2.2=0)=true then
    (⟨(ax (dR r) ⟨0,dX,true⟩).1.aB.set (dm (aM (ax (dR r) ⟨0,dX,true⟩).1.aB dX)) (cU r t).1,(ax (dR r) ⟨0,dX,true⟩).1.aq.set (dm (cm (ax (dR r) ⟨0,dX,true⟩).1.aq 0)) ⟨w.s,w.log++[⟨dX,(cU r t).2.1.op,(cU r t).2.1.row⟩],w.marks⟩,(ax (dR r) ⟨0,dX,true⟩).1.holds,(ax (dR r) ⟨0,dX,true⟩).1.waits⟩,0)
   else((ax (dR r) ⟨0,dX,true⟩).1,(cU r t).2.2)
  |_,_=>ax (dR r) ⟨0,dX,true⟩):=rfl
 have ht:(dR r).aB[dm (aM (dR r).aB dX)]? =some ⟨bN 0,[r]⟩:=by kernel_rfl
 have hw:(dR r).aq[dm (cm (dR r).aq 0)]? =some ⟨0,[⟨dX,1,r⟩],[]⟩:=by kernel_rfl
 have hp:(cU r ⟨bN 0,[r]⟩).2.2=7:=by show(bI ⟨bN 0,[r]⟩ r).2=7;have e1:cy ⟨bN 0,[r]⟩ (keyOf (bN 0).key r)=[cg (keyOf (bN 0).key r) (keyOf (bN 0).key r)]:=rfl;unfold bI;rw[show(⟨bN 0,[r]⟩:cA).S.cols=bl from rfl,hf,show(⟨bN 0,[r]⟩:cA).S.key=(bN 0).key from rfl,e1,yv,show kE [0]=true by kernel_rfl];rfl
 rw[h1,Ha];simp only[ht,hw,hp];rfl
theorem KG(r:Row)(es:List (List Nd)):ny (mu r) 0 (gG es)=cY (dR r) (match bE es [] []with
 | (r',e)=>if e≠0 then(dR r,e)else ff (dR r) 0 dX r'):=by
 have h:ny (mu r) 0 (gG es)=match ax (mu r) ⟨0,dX,true⟩with
  | (d,e)=>if e≠0 then(d,[],e)else cY d (match bE es [] []with
   | (r,e)=>if e≠0 then(d,e)else ff d 0 dX r):=rfl
 rw[h,Hb];rfl
theorem pG{es:List (List Nd)}{r:Row}{f:Int}(hv:bE es [] []=(r,f)){e:Int}(h:(f=e/\e≠0)\/(f=0/\bM bl r=e/\e≠0/\e≠19)):ny rV 0 (gG es)=(fH,[],e):=by
 rw[G9,hv];rcases h with ⟨h1,h2⟩ | ⟨h1,h2,h3,h4⟩
 ·subst h1;show cY fH (if f≠0 then(fH,f)else _)=_;rw[if_pos h2];unfold cY;rw[if_pos h2]
 ·subst h1;have hp:=J9 zh h2 h3 h4;show cY fH (ff fH 0 dX r)=_;unfold cY;rw[hp,if_pos h3]
theorem zg{es:List (List Nd)}{r:Row}(hv:bE es [] []=(r,0))(hf:bM bl r=0):ny rV 0 (gG es)=(mu r,[],0)/\(ny (mu r) 0 (gG es)).2.2=7:=by
 constructor
 ·rw[G9,hv];show cY fH (ff fH 0 dX r)=_;rw[B3 hf];rfl
 ·rw[KG,hv];show(cY (dR r) (ff (dR r) 0 dX r)).2.2=7;have hp:=Dx hf;unfold cY;rw[hp];rfl
open Go.Sx Go.Proofs
theorem J3{P:Program}{src dst e:TypeId}(hs:P.underlying src=some (.slice e))(he:P.underlying e=some (.int .u8))(hd:P.underlying dst=some .string){n:Nat}{z:Int}{t:Nat}{h:ad}(g:h n=some (.cells #[.int .u8 z] t (0,0))){k:Value->ad->Prop}
 (hk:k (.string (au [UInt8.ofNat z.toNat])) h):cX (fun _=>P) (fun _=>Go.convert src dst (.slice (some ⟨n,0,none⟩) 1 1)) h k:=
 ⟨fun w hw=>⟨_,w,h,run_convert_bytes_arg w src e hs he n 0 1 1 [z] rfl (fun i hi=>by
  have:i=0:=by omega
  subst this;exact((⟨rfl,_,t,g,rfl⟩:lG h ⟨n,0,none⟩ (.int .u8 z)).cell hw).1) dst hd,hk,aR.refl hw⟩⟩
theorem zX(n:Nat):(dK n).length<=n+1:=by
 induction n using Nat.strongRecOn with
 |ind n ih=>
  unfold dK;by_cases hn:10<=n
  ·rw[if_pos hn,List.length_append];have:=ih (n / 10) (by omega);simp only[List.length_cons,List.length_nil];omega
  ·rw[if_neg hn];simp only[List.length_cons,List.length_nil];omega
theorem Fs:Tryz.prog.underlying 5=some (.int .u8):=by kernel_rfl
theorem Ey:Tryz.prog.underlying 208=some (.slice 5):=by kernel_rfl
theorem Dg:Tryz.prog.underlying 9=some .string:=by kernel_rfl
theorem N4(u:Nat):∀(z:Int),z=(u:Int)->u<2^60->∀(h:ad) {k:Value->ad->Prop},(∀h',Le h h'->k (.string (au (dK u))) h')->Ct 52 [.int .u64 z] h k:=by
 induction u using Nat.strongRecOn with
 |ind u ih=>
 intro z hz hu h k hk;obtain⟨A,hA⟩:=Ar.ex;have f1:A .aD .geq z 10=decide (z>=10):=bQ A ..;have Hv:A .bu .rem .u64 z 10=((u % 10:Nat):Int):=by rw[hA.bu,hz];show((u:Int)).tmod 10=_;rw[Int.tmod_eq_emod_of_nonneg (by omega)];omega
 have PE:A .bu .quo .u64 z 10=((u / 10:Nat):Int):=by rw[hA.bu,hz];show IntKind.wrap .u64 ((u:Int).tdiv 10)=_;rw[Int.tdiv_eq_ediv_of_nonneg (by omega)];rw[IntWalk.u64_in _ (by omega)];omega
 have se:A .bu .add .u64 48 ((u % 10:Nat):Int)=((48+u % 10:Nat):Int):=by rw[hA.bu];show IntKind.wrap .u64 (48+((u % 10:Nat):Int))=_;rw[IntWalk.u64_in _ (by omega)];omega
 have Ur:A .conv .u8 ((48+u % 10:Nat):Int)=((48+u % 10:Nat):Int):=by rw[hA.conv];show IntKind.wrap .u8 ((48+u % 10:Nat):Int)=_;exact IntWalk.u8_in _ (by omega)
 obtain⟨zr,Hf⟩:∃zr:Int,zr=((u % 10:Nat):Int):=⟨_,rfl⟩;obtain⟨zq,hzq⟩:∃zq:Int,zq=((u / 10:Nat):Int):=⟨_,rfl⟩;obtain⟨zs,Pl⟩:∃zs:Int,zs=((48+u % 10:Nat):Int):=⟨_,rfl⟩;have htn:zs.toNat=48+u % 10:=by omega
 rw[<-Hf]at Hv se;rw[<-Pl]at se Ur;rw[<-hzq]at PE;by_cases iu:10<=u
 ·have f1:A .aD .geq z 10=true:=by rw[f1,decide_eq_true_eq];omega
  have hL:dK u=dK (u / 10)++dK (u % 10):=by rw[dK,if_pos iu];congr 1;rw[dK,if_neg (by omega),Nat.mod_mod]
  have i1:∀(h:ad) {k:Value->ad->Prop},(∀h',Le h h'->k (.string (au (dK (u / 10)))) h')->Ct 52 [.int .u64 zq] h k:=ih (u / 10) (by omega) zq hzq (by omega);have i2:∀(h:ad) {k:Value->ad->Prop},(∀h',Le h h'->k (.string (au (dK (u % 10)))) h')->Ct 52 [.int .u64 zr] h k:=ih (u % 10) (by omega) zr Hf (by omega);have z1:=zX (u / 10);have z2:=zX (u % 10);rw[hL]at hk;generalize dK (u / 10)=a at *;generalize dK (u % 10)=b at *;have kB:(((au a).size+(au b).size:Nat):Int)<=2^62:=by rw[dD,dD];omega
  have ue:A .cat (au a) (au b)=au (a++b):=by rw[hA.cat];exact ko ..
  clear hL z1 z2 se Ur ih;generalize au a=sa at *;generalize au b=sb at *;generalize au (a++b)=sc at *;refine af A (ar Zk.aw Zk.aZ) Tryz.func52 rfl (by kernel_rfl) ?_;cbv;rw[f1];cbv;refine⟨by decide,?_⟩;cbv;rw[PE];refine i1 h (fun h1 l1=>?_);cbv;refine⟨by decide,?_⟩;cbv;rw[Hv];refine i2 h1 (fun h2 l2=>?_);have ae:=hk h2 (l1.trans l2);cbv;refine⟨kB,?_⟩;cbv;rw[ue];exact ae
 ·have f1:A .aD .geq z 10=false:=by rw[f1,decide_eq_false_iff_not];omega
  have hL:dK u=[UInt8.ofNat zs.toNat]:=by rw[dK,if_neg iu,htn]
  rw[hL]at hk;clear hL ih PE;refine af A (ar Zk.aw Zk.aZ) Tryz.func52 rfl (by kernel_rfl) ?_;cbv;rw[f1];cbv;refine⟨by decide,?_⟩;cbv;rw[Hv,se,Ur];intro nb h1 f1 e1;have l1:Le h h1:=by rw[e1];exact Le.set f1
  have g1:h1 nb=some (.cells #[.int .u8 zs] 5 (0,0)):=by rw[e1];exact ah
  have ae:=hk h1 l1;clear e1 hk;cbv;refine J3 Ey Fs Dg g1 ?_;generalize au [UInt8.ofNat zs.toNat]=sc at *;cbv;exact ae
theorem Ie(u:Nat)(z:Int)(hz:z=(u:Int))(hu:u<2^60)(h:ad){k:Value->ad->Prop}(hk:∀h',Le h h'->k (.string (au (dK u))) h'):Ct 27 [.int .i64 z] h k:=by
 obtain⟨A,hA⟩:=Ar.ex;have f1:A .aD .lss z 0=false:=by rw[bt A,decide_eq_false_iff_not];omega
 have Ur:A .conv .u64 z=z:=by rw[hA.conv];exact IntWalk.u64_in _ (by omega)
 have hc:= @N4 u z hz hu;clear hz hu;generalize au (dK u)=sc at *;refine af A (ar T27.aw T27.aZ) Tryz.func27 rfl (by kernel_rfl) ?_;cbv;rw[f1];cbv;rw[Ur];refine hc h (fun h1 l1=>?_);have ae:=hk h1 l1;cbv;exact ae
theorem B2:∀x:By,(sy x).length<=2*x.length
 | []=>Nat.le_refl _
 |c::x=>by
  have:=B2 x;unfold sy;split<;>simp only[List.length_cons]<;>omega
theorem N9(s:ByteArray)(hs:s.size<=60)(h:ad){k:Value->ad->Prop}(hk:∀h',Le h h'->k (.string (au (39::(sy s.data.toList++[39])))) h'):Ct 26 [.agg #[.int .i64 3,.int .i64 0,.string s]] h k:=by
 obtain⟨A,hA⟩:=Ar.ex;have pN:aO (A .gD s) s.size:=⟨by rw[hA.gD]⟩;have f30:A .aD .eql 3 0=false:=by rw[av A];rfl
 have f31:A .aD .eql 3 1=false:=by rw[av A];rfl
 have f32:A .aD .eql 3 2=false:=by rw[av A];rfl
 obtain⟨I,bm⟩:∃I:Nat->Int×ByteArray->ad->Prop,∀m g h',I m g h'=∃j t' acc,aO g.1 j/\oD s j t'/\m=t'.length/\g.2=au (39::acc)/\acc.length<=2*j/\acc++sy t'=sy s.data.toList/\h'=h:=⟨_,fun _ _ _=>rfl⟩;have hJ:I s.size (0,⟨#[39]⟩) h:=by rw[bm];exact⟨0,_,[],⟨rfl⟩,oD.start s,by have:=(oD.start s).len;omega,rfl,Nat.zero_le _,rfl,rfl⟩
 refine af A (ar T26.aw T26.aZ) Tryz.func26 rfl (by kernel_rfl) ?_;cbv;rw[f30];cbv;rw[f31];cbv;rw[f32];cbv;refine aX.go (G:=Int×ByteArray) (fun g=>[(4,.v (.int .i64 g.1)),(3,.v (.string g.2))]) (fun _=>[(1,[.int .i64 3,.int .i64 0,.string s])]) (fun m g h'=>I m g h') s.size (0,⟨#[39]⟩) ⟨?_,?_,?_⟩ hJ ?_
 ·cbv
 ·cbv
 ·cbv
 ·intro m g h' hI;rw[bm]at hI;cbv;obtain⟨j,t',acc,hg,q',hm,tZ,hal,he,rfl⟩:=hI;obtain⟨z,out⟩:=g;replace hg:aO z j:=hg;replace tZ:out=au (39::acc):=tZ;have RS:out.size=acc.length+1:=by rw[tZ,dD];rfl
  have hl:=q'.len;have f1:A .aD .lss z (A .gD s)=decide (j<s.size):=hg.gK pN;rw[f1];cases t' with
  |nil=>
   have aG:¬j<s.size:=by have:([]:By).length=0:=rfl;omega
   have cT:((out.size+(au [39]).size:Nat):Int)<=2^62:=by rw[dD];show((out.size+1:Nat):Int)<=_;omega
   have ue:A .cat out ⟨#[39]⟩=au (39::(sy s.data.toList++[39])):=by rw[hA.cat,tZ,<-he];show au _++au [39]=_;rw[ko];simp[sy]
   have ae:=hk h' (fun _ _ e=>e);generalize au (39::(sy s.data.toList++[39]))=sc at *;clear bm hJ hk he;rw[decide_eq_false aG];cbv;refine⟨cT,?_⟩;cbv;rw[ue];exact ae
  |cons c r=>
   have rF:(c::r).length=r.length+1:=rfl;have aG:j<s.size:=by omega
   have cT:0<=z/\z<(s.size:Int):=hg.ix aG;obtain⟨b,hb⟩:∃b,A .byte s z=b:=⟨_,rfl⟩;have nO:b=(c.toNat:Int):=by rw[<-hb];exact q'.byte hg
   have f2:A .aD .eql b 39=decide (c.toNat=39):=by rw[av A,decide_eq_decide,nO];omega
   have dS:=hg.succ (A:=A) (by omega);have gM:r.length<m:=by rw[hm];exact Nat.lt_succ_self _
   have hq:=q'.next;have cW:A .sub s z (A .bu .add .i64 z 1)=au [c]:=q'.sub hg (n:=1) dS;have Bq:0<=A .bu .add .i64 z 1/\A .bu .add .i64 z 1<=(s.size:Int)/\0<=z/\z<=A .bu .add .i64 z 1:=by have h1:=dS.eq;have h2:=hg.eq;omega
   have Br:((out.size+(au [c]).size:Nat):Int)<=2^62:=by rw[dD];show((out.size+1:Nat):Int)<=_;omega
   obtain⟨z2,gL⟩:∃z2,A .bu .add .i64 z 1=z2:=⟨_,rfl⟩;rw[gL]at cW Bq dS;obtain⟨sb,zu⟩:∃sb,au [c]=sb:=⟨_,rfl⟩;rw[zu]at cW Br;obtain⟨o1,TS⟩:∃o1,A .cat out sb=o1:=⟨_,rfl⟩;have PL:o1=au (39::(acc++[c])):=by rw[<-TS,<-zu,hA.cat,tZ];exact ko _ _
   have zE:((o1.size+(au [39]).size:Nat):Int)<=2^62:=by rw[PL,dD,dD,List.length_cons,List.length_append,List.length_singleton,List.length_singleton];omega
   obtain⟨o2,YC⟩:∃o2,A .cat o1 ⟨#[39]⟩=o2:=⟨_,rfl⟩;have ho2e:o2=au (39::(acc++[c]++[39])):=by rw[<-YC,PL,hA.cat];exact ko _ _
   have hI1:c.toNat≠39->I r.length (z2,o1) h':=fun hc=>by
    rw[bm];refine⟨j+1,r,acc++[c],dS,hq,rfl,PL,by rw[List.length_append,List.length_singleton];omega,?_,rfl⟩;rw[<-he,List.append_assoc];show acc++(c::sy r)=acc++(if c.toNat=39 then _ else _);rw[if_neg hc]
   have dc:c.toNat=39->I r.length (z2,o2) h':=fun hc=>by
    rw[bm];have vo:c=39:=by rw[<-UInt8.toNat_inj];exact hc
    refine⟨j+1,r,acc++[c]++[39],dS,hq,rfl,ho2e,by rw[List.length_append,List.length_append,List.length_singleton,List.length_singleton];omega,?_,rfl⟩;rw[<-he,List.append_assoc,List.append_assoc,vo];rfl
   clear bm hJ hk he;rw[decide_eq_true aG];cbv;rw[gL];refine⟨Bq,?_⟩;cbv;rw[cW];refine⟨Br,?_⟩;cbv;rw[TS];refine⟨cT,?_⟩;cbv;rw[hb,f2];by_cases hc:c.toNat=39
   ·have dc:=dc hc;rw[decide_eq_true hc];cbv;refine⟨zE,?_⟩;cbv;rw[YC,gL];refine⟨r.length,(_,_),gM,⟨?_,?_,?_⟩,dc⟩
    ·cbv
    ·cbv
    ·cbv
   ·have hI1:=hI1 hc;rw[decide_eq_false hc];cbv;rw[gL];refine⟨r.length,(_,_),gM,⟨?_,?_,?_⟩,hI1⟩
    ·cbv
    ·cbv
    ·cbv
def tB(x:By):By:=39::(sy x++[39])
def KK(i:Nat)(x:By):List By:=[dK i++([44,32]++tB x),dK i,dK i++([44,32]++(tB x++[44,32,49])),tB x++([44,32]++tB x),[110,117,108,108,44,32]++tB x,dK i++[32,43,32,49,32,42,32,50,44,32,110,117,108,108],dK i++[44,32,97]]
def Tm:List Int:=[0,1,1,3,13,0,2]
def vg(k i:Nat)(x:By):Row:=if k=5 then [iN ((i:Int)+2),v0]else [iN i,iT x]
theorem tA{x t:By}{ws:List Wd}(hx:x.length<=60)(ht:pP KC t=true)(h:dN t ws):dN (tB x++t) (Rs x::ws):=by
 have:tB x++t=39::(sy x++39::t):=by simp[tB]
 rw[this];exact dN.txt x hx ht h
theorem Gp{t:By}{ws:List Wd}(ht:pP cH t=true)(h:dN t ws):dN (49::t) (uZ 1::ws):=dN.num (c:=49) (n:=[]) rfl rfl rfl (by decide) ht h
theorem N8{t:By}{ws:List Wd}(ht:pP cH t=true)(h:dN t ws):dN (50::t) (uZ 2::ws):=dN.num (c:=50) (n:=[]) rfl rfl rfl (by decide) ht h
theorem B8{t:By}{ws:List Wd}(ht:pP m0 t=true)(h:dN t ws):dN ([110,117,108,108]++t) (wd [110,117,108,108]::ws):=dN.name [117,108,108] rfl rfl ht h
theorem DU{X:By}{ws:List Wd}(hl:X.length<=500)(h:dN (X++[41]) ws):iS (au (qQ++(X++[41])))=(m6 ws++[pX],0):=by
 refine Fa ?_ ?_
 ·rw[dD];simp only[List.length_append,List.length_cons,List.length_nil];have:qQ.length=23:=rfl;omega
 ·show dN (qQ++(X++[41])) (m6 ws);exact dN.ins h
theorem jW{X:By}{ws:List Wd}(hl:X.length<=500)(h:dN (X++[41]) ws){st:aA}(hs:pj ai (m6 ws++[pX])=(st,0)):ki ai (au (qQ++(X++[41])))=(st,0)/\gT (au (qQ++(X++[41])))=true:=by have hw:=DU hl h;refine⟨(FD hw).trans hs,?_⟩;unfold gT;rw[hw];rfl
theorem B9:Nm b0:=⟨nV.2 (fun c hc=>by cases hc),by decide⟩
theorem xv{v:cR}(h:j8 v):Nm (lit v).name/\j8 (lit v).v:=⟨B9,h⟩
theorem Gv(op a b:Int):Nm (bin op a b).name/\j8 (bin op a b).v:=⟨B9,mg⟩
theorem Kk:Nm (ek (au [97])).name/\j8 (ek (au [97])).v:=⟨⟨nV.2 (by decide),by decide⟩,mg⟩
theorem wq{a:Int}(h:-2^63<=a/\a<2^63):j8 (iN a):=fP.2 (by show _<=a/\a<=_;omega)
theorem zl(x:By):j8 (iT x):=by show lV 0=true;decide
theorem jX{es:List (List Nd)}(h:∀e∈es,nD e)(hl:es.length<=6):gy (gG es):=
 ⟨fun n hn=>(by cases hn),fun n hn=>(by cases hn),h,fun i hi=>(by cases hi),by show es.length<=_;omega,fun hk=>absurd hk (by show ¬(3:Int)=4;decide),B9,B9,Nat.zero_le _,Nat.zero_le _⟩
structure XZ(i:Nat)(x X:By)(k:Nat)(w:Int):Prop where
 all:∃es D1,ki ai (au (qQ++(X++[41])))=(gG es,0)/\gT (au (qQ++(X++[41])))=true/\gy (gG es)/\ny rV 0 (gG es)=(D1,[],w)/\(w≠0->D1=fH)/\(w=0->D1=mu (vg k i x)/\(ny D1 0 (gG es)).2.2=7)
theorem Cg(n:Nat)(h:n<1000):(dK n).length<=3:=by
 rw[dK];split
 ·rw[List.length_append,dK];split
  ·rw[List.length_append,dK,if_neg (by omega)];simp only[List.length_cons,List.length_nil];omega
  ·simp only[List.length_cons,List.length_nil];omega
 ·simp only[List.length_cons,List.length_nil];omega
theorem Cf(x:By)(h:x.length<=40):(tB x).length<=82:=by have:=B2 x;simp only[tB,List.length_cons,List.length_append,List.length_nil];omega
theorem zc(v:cR)(l:List Int)(cols:List bS):oB (lit v) l cols=(v.k,cC v):=rfl
theorem I1{v:cR}(h:cC v=0)(cols:List bS):fK [lit v] cols=(v.k,0):=by
 have e:eY cols [lit v] []=([v.k],0):=by rw[ja,zc,h];rfl
 unfold fK;rw[if_neg (by simp),e];rfl
theorem gB{v:cR}(h:cC v=0)(cols:List bS)(r:Row):eI [lit v] cols r=(v,0):=by unfold eI;rw[I1 h];rfl
theorem eD{x:List Nd}{v:cR}{cols:List bS}{r:Row}(h:eI x cols r=(v,0))(xs:List (List Nd))(l:Row):mP cols r (x::xs) l=mP cols r xs (l++[v]):=by rw[sN,h];rfl
theorem Fj:cC v0=0:=by decide
theorem Fh{v:cR}(h:cC v=0):bE [[lit v]] [] []=([v],0):=by unfold bE;rw[eD (gB h _ _)];rfl
theorem sM{v w:cR}(h:cC v=0)(h2:cC w=0):bE [[lit v],[lit w]] [] []=([v,w],0):=by unfold bE;rw[eD (gB h _ _),eD (gB h2 _ _)];rfl
theorem AE{v w u:cR}(h:cC v=0)(h2:cC w=0)(h3:cC u=0):bE [[lit v],[lit w],[lit u]] [] []=([v,w,u],0):=by unfold bE;rw[eD (gB h _ _),eD (gB h2 _ _),eD (gB h3 _ _)];rfl
theorem Fi{v:cR}(h:cC v=0):bE [[lit v],[ek (au [97])]] [] []=([],2):=by unfold bE;rw[eD (gB h _ _)];exact(by kernel_rfl:mP [] [] [[ek (au [97])]] [v]=([],2))
theorem Fg{a b:Int}(hn:cV 14 a 2=some (iN b)):bE [[lit (iN a),lit (iN 1),lit (iN 2),bin 16 1 2,bin 14 0 3],[lit v0]] [] []=([iN b,v0],0):=by
 have hk:fK [lit (iN a),lit (iN 1),lit (iN 2),bin 16 1 2,bin 14 0 3] []=(2,0):=by
  have e:eY [] [lit (iN a),lit (iN 1),lit (iN 2),bin 16 1 2,bin 14 0 3] []=eY [] [lit (iN 1),lit (iN 2),bin 16 1 2,bin 14 0 3] [2]:=by rw[ja,zc,oG];rfl
  unfold fK;rw[if_neg (by simp),e];have e2:eY [] [lit (iN 1),lit (iN 2),bin 16 1 2,bin 14 0 3] [2]=([2,2,2,2,2],0):=by kernel_rfl
  rw[e2];rfl
 have e1:fY [] [] [lit (iN a),lit (iN 1),lit (iN 2),bin 16 1 2,bin 14 0 3] []=match cV 14 a 2 with
  |some v=>some [iN a,iN 1,iN 2,iN 2,v]
  |none=>none:=by kernel_rfl
 have hv:eI [lit (iN a),lit (iN 1),lit (iN 2),bin 16 1 2,bin 14 0 3] [] []=(iN b,0):=by unfold eI;rw[hk,e1,hn];rfl
 unfold bE;rw[eD hv,eD (gB Fj _ _)];rfl
theorem KH{i:Nat}(hi:i<1000){x:By}(hx:x.length<=40):∀k X w,(KK i x)[k]? =some X->Tm[k]? =some w->XZ i x X k w:=by
 have l1:=Cg i hi;have l2:=Cf x hx;have EM:x.length<=60:=by omega
 have HE:i<2^62:=by omega
 have ii:j8 (iN i):=wq (by omega);have nn:∀(v:cR),j8 v->nD [lit v]:=fun v hv n hn=>by
  rcases List.mem_cons.1 hn with rfl|hn
  ·exact xv hv
  ·cases hn
 intro k X w hX hw
 match k with
 |0=>cases hX;cases hw;obtain⟨h1,h2⟩:=jW (X:=dK i++([44,32]++tB x)) (by simp only[List.length_append,List.length_cons,List.length_nil];omega) (by rw[List.append_assoc,List.append_assoc];exact dN.Vh i HE rfl (dN.comma (tA EM rfl dN.close))) (st0 i x);have hf:bM bl [iN i,iT x]=0:=sG (HW EM);have hv:bE [[lit (iN i)],[lit (iT x)]] [] []=([iN i,iT x],0):=sM (oG i) (oF EM);obtain⟨g1,g2⟩:=zg hv hf;exact⟨_,_,h1,h2,jX (by simpa using ⟨nn _ ii,nn _ (zl x)⟩) (by simp),g1,fun h=>absurd rfl h,fun _=>⟨rfl,g2⟩⟩
 |1=>cases hX;cases hw;obtain⟨h1,h2⟩:=jW (X:=dK i) (by omega) (dN.Vh i HE rfl dN.close) (st1 i);have hv:bE [[lit (iN i)]] [] []=([iN i],0):=Fh (oG i);exact⟨_,_,h1,h2,jX (by simpa using nn _ ii) (by simp),pG hv (.inr ⟨rfl,rfl,by decide,by decide⟩),fun _=>rfl,fun h=>absurd h (by decide)⟩
 |2=>cases hX;cases hw;obtain⟨h1,h2⟩:=jW (X:=dK i++([44,32]++(tB x++[44,32,49]))) (by simp only[List.length_append,List.length_cons,List.length_nil];omega) (by rw[List.append_assoc,List.append_assoc,List.append_assoc];exact dN.Vh i HE rfl (dN.comma (tA EM rfl (dN.comma (Gp rfl dN.close))))) (st2 i x);have hv:bE [[lit (iN i)],[lit (iT x)],[lit (iN 1)]] [] []=([iN i,iT x,iN 1],0):=AE (oG i) (oF EM) (oG 1);exact⟨_,_,h1,h2,jX (by simpa using ⟨nn _ ii,nn _ (zl x),nn _ (wq (by decide))⟩) (by simp),pG hv (.inr ⟨rfl,rfl,by decide,by decide⟩),fun _=>rfl,fun h=>absurd h (by decide)⟩
 |3=>
  cases hX;cases hw;obtain⟨h1,h2⟩:=jW (X:=tB x++([44,32]++tB x)) (by simp only[List.length_append,List.length_cons,List.length_nil];omega) (by rw[List.append_assoc,List.append_assoc];exact tA EM rfl (dN.comma (tA EM rfl dN.close))) (st3 x x);have hv:bE [[lit (iT x)],[lit (iT x)]] [] []=([iT x,iT x],0):=sM (oF EM) (oF EM);have hf:bM bl [iT x,iT x]=3:=by
   have h:bM bl [iT x,iT x]=dh [bG ⟨nA,2,false⟩ (iT x),bG ⟨⟨#[98]⟩,3,true⟩ (iT x)]:=rfl;have h3:bG ⟨nA,2,false⟩ (iT x)=3:=by unfold bG;rw[oF EM];rfl
   rw[h,h3];rfl
  exact⟨_,_,h1,h2,jX (by simpa using nn _ (zl x)) (by simp),pG hv (.inr ⟨rfl,hf,by decide,by decide⟩),fun _=>rfl,fun h=>absurd h (by decide)⟩
 |4=>cases hX;cases hw;obtain⟨h1,h2⟩:=jW (X:=[110,117,108,108,44,32]++tB x) (by simp only[List.length_append,List.length_cons,List.length_nil];omega) (by rw[List.append_assoc];exact B8 (t:=44::32::(tB x++[41])) rfl (dN.comma (tA EM rfl dN.close))) (st4 x);have hv:bE [[lit v0],[lit (iT x)]] [] []=([v0,iT x],0):=sM Fj (oF EM);have hf:bM bl [v0,iT x]=13:=rfl;exact⟨_,_,h1,h2,jX (by simpa using ⟨nn _ mg,nn _ (zl x)⟩) (by simp),pG hv (.inr ⟨rfl,hf,by decide,by decide⟩),fun _=>rfl,fun h=>absurd h (by decide)⟩
 |5=>
  cases hX;cases hw;obtain⟨h1,h2⟩:=jW (X:=dK i++[32,43,32,49,32,42,32,50,44,32,110,117,108,108]) (by simp only[List.length_append,List.length_cons,List.length_nil];omega) (by
   rw[List.append_assoc];exact dN.Vh i HE rfl (dN.sp (dN.sign rfl (by decide) (by decide) (dN.sp (Gp rfl (dN.sp (dN.sign rfl (by decide) (by decide) (dN.sp (N8 rfl (dN.comma (B8 (t:=[41]) rfl dN.close))))))))))) (st5 i)
  have hf:bM bl [iN ((i:Int)+2),v0]=0:=sG rfl;have hn:cV 14 i 2=some (iN ((i:Int)+2)):=by unfold cV;rw[if_neg (by decide),if_pos rfl];unfold oP;rw[if_pos (fP.2 (by omega))];rfl
  have hv:bE [[lit (iN i),lit (iN 1),lit (iN 2),bin 16 1 2,bin 14 0 3],[lit v0]] [] []=([iN ((i:Int)+2),v0],0):=Fg hn;obtain⟨g1,g2⟩:=zg hv hf;refine⟨_,_,h1,h2,jX ?_ (by simp),g1,fun h=>absurd rfl h,fun _=>⟨rfl,g2⟩⟩;intro e he;rcases List.mem_cons.1 he with rfl|he
  ·intro n hn;simp only[List.mem_cons,List.not_mem_nil,or_false]at hn;rcases hn with rfl|rfl|rfl|rfl|rfl
   ·exact xv ii
   ·exact xv (wq (by decide))
   ·exact xv (wq (by decide))
   ·exact Gv ..
   ·exact Gv ..
  ·rcases List.mem_cons.1 he with rfl|he
   ·exact nn _ mg
   ·cases he
 |6=>
  cases hX;cases hw;obtain⟨h1,h2⟩:=jW (X:=dK i++[44,32,97]) (by simp only[List.length_append,List.length_cons,List.length_nil];omega) (by rw[List.append_assoc];exact dN.Vh i HE rfl (dN.comma (dN.name (c:=97) [] rfl rfl rfl dN.close))) (st6 i);have hv:bE [[lit (iN i)],[ek (au [97])]] [] []=([],2):=Fi (oG i);refine⟨_,_,h1,h2,jX ?_ (by simp),pG hv (.inl ⟨rfl,by decide⟩),fun _=>rfl,fun h=>absurd h (by decide)⟩;intro e he;rcases List.mem_cons.1 he with rfl|he
  ·exact nn _ ii
  ·rcases List.mem_cons.1 he with rfl|he
   ·intro n hn;rcases List.mem_cons.1 hn with rfl|hn
    ·exact Kk
    ·cases hn
   ·cases he
 |k+7=>cases hX
theorem H3(a:cR):yq a a=true:=by simp[yq]
theorem FQ{xs:Row}{h:ad}{b1 b2:Option Addr}{n1 c1 n2 c2:Nat}(q1:Sl 61 aY h (.slice b1 n1 c1) xs)(q2:Sl 61 aY h (.slice b2 n2 c2) xs){k:Value->ad->Prop}(hk:k (.bool true) h):
 Ct 28 [.slice b1 n1 c1,.slice b2 n2 c2] h k:=by
 obtain⟨A,hA⟩:=Ar.ex;have e1:=q1.len;have e2:=q2.len;have hb:=q1.bound.1;have hn12:n2=n1:=by omega
 subst hn12;have HV:A .not true=false:=by rw[hA.not];rfl
 have fne:A .aD .neq (A .nat n2) (A .nat n2)=false:=by rw[aC A];simp
 obtain⟨I,bm⟩:∃I:Nat->Int->ad->Prop,∀m g h',I m g h'=∃j,aO g j/\m=n2-j/\j<=n2/\h'=h:=⟨_,fun _ _ _=>rfl⟩;have hJ:I n2 0 h:=by rw[bm];exact⟨0,⟨rfl⟩,rfl,Nat.zero_le _,rfl⟩
 refine af A (ar T28.aw T28.aZ) Tryz.func28 rfl (by kernel_rfl) ?_;cbv;rw[fne];cbv;refine aX.go (G:=Int) (fun g=>[(5,.v (.int .i64 g))]) (fun _=>[]) (fun m g h'=>I m g h') n2 0 ⟨?_,?_,?_⟩ hJ ?_
 ·cbv
 ·cbv
 ·cbv
 ·intro m z h' hI;rw[bm]at hI;cbv;obtain⟨j,hz,hm,hj,rfl⟩:=hI;have f1:A .aD .lss z (A .nat n2)=decide (j<n2):=hz.gK (aO.nat n2);rw[f1];by_cases aG:j<n2
  ·obtain⟨x,hx⟩:=aE (xs:=xs) (i:=j) (by omega);have vm:b1.isSome=true/\0<=z/\z<(n2:Int):=⟨q1.bF (by omega),hz.ix aG⟩;have oV:b2.isSome=true/\0<=z/\z<(n2:Int):=⟨q2.bF (by omega),hz.ix aG⟩;have ir:=hz.eq;have dS:=hz.succ (A:=A) (by omega);obtain⟨z2,gL⟩:∃z2,A .bu .add .i64 z 1=z2:=⟨_,rfl⟩;rw[gL]at dS;have dc:I (n2-(j+1)) z2 h':=by rw[bm];exact⟨j+1,dS,rfl,aG,rfl⟩
   have gM:n2-(j+1)<m:=by omega
   have heq:=(xW A x x).trans (H3 x);clear bm hJ hk;rw[decide_eq_true aG];cbv;refine⟨vm,?_⟩;cbv;refine q1.load hx ir (fun cs aF=>?_);replace aF:cs=[.int .i64 x.k,.int .i64 x.n,.string x.s]:=aF;subst aF;cbv;refine⟨oV,?_⟩;cbv;refine q2.load hx ir (fun cs aF=>?_);replace aF:cs=[.int .i64 x.k,.int .i64 x.n,.string x.s]:=aF;subst aF;cbv;rw[heq,HV];cbv;rw[gL];refine⟨_,_,gM,⟨?_,?_,?_⟩,dc⟩
   ·cbv
   ·cbv
   ·cbv
  ·rw[decide_eq_false aG];clear bm hJ;cbv;exact hk
theorem Cl:EJ 0 rV:=Af pk (by decide) 0 (by kernel_rfl)
theorem Hc{r:Row}(hf:bM bl r=0)(hr:iF r):EJ 2 (mu r):=by
 have h:=(Cl.hold ⟨0,dX,true⟩ (by decide)).put (s:=0) dX (by decide) hr;have e:(ff (ax rV ⟨0,dX,true⟩).1 0 dX r).1=mu r:=by show(ff fH 0 dX r).1=_;rw[B3 hf]
 rw[e]at h;exact h
theorem Iy{A:Ar}[hA:aP A](a b:ByteArray):(A .cat a b).size=a.size+b.size:=by rw[hA.cat];exact ta a b
def I5(d:DB):Prop:=∀i x k X w,i<1000->x.length<=40->(KK i x)[k]? =some X->Tm[k]? =some w->∃st D1,ki ai (au (qQ++(X++[41])))=(st,0)/\gT (au (qQ++(X++[41])))=true/\gy st/\st.kind=3/\ny d 0 st=(D1,[],w)/\
 (w≠0->∃t T,D1.aB=t::T/\t.rows=[])/\(w=0->∃t T n,D1.aB=t::T/\t.rows=[vg k i x]/\EJ n D1/\n+700<2^18/\(ny D1 0 st).2.2=7)
theorem KI:I5 rV:=fun i x k X w hi hx hX hw=>by
 obtain⟨es,D1,h1,h2,h3,h4,h5,h6⟩:=(KH hi hx k X w hX hw).all;refine⟨gG es,D1,h1,h2,h3,rfl,h4,fun h=>?_,fun h=>?_⟩
 ·rw[h5 h];exact⟨cI 0,[cI 1,cI 2],by kernel_rfl,rfl⟩
 ·obtain⟨e,g⟩:=h6 h;subst e;have hf:bM bl (vg k i x)=0:=by
   unfold vg;split
   ·exact sG rfl
   ·exact sG (HW (by omega))
  have hr:iF (vg k i x):=by
   unfold vg;split<;>intro v hv<;>rcases List.mem_cons.1 hv with rfl|hv
   ·exact wq (by omega)
   ·rcases List.mem_cons.1 hv with rfl|hv
    ·exact mg
    ·cases hv
   ·exact wq (by omega)
   ·rcases List.mem_cons.1 hv with rfl|hv
    ·exact zl x
    ·cases hv
  exact⟨⟨bN 0,[vg k i x]⟩,[cI 1,cI 2],2,G8 _,rfl,Hc hf hr,by decide,g⟩
theorem yy{e:Nat}{h:ad}{n:Nat}{v w:cR}(hb:h n=some (.cells #[.int .i64 v.k,.int .i64 v.n,.string v.s,.int .i64 w.k,.int .i64 w.n,.string w.s] e (0,0))):Sl e aY h (.slice (some ⟨n,0,none⟩) 2 2) [v,w]:=by
 refine Sl.fresh (s:=aY) (h:=h) (n:=n) (xs:=[v,w]) (cap:=2) (c:=[.int .i64 v.k,.int .i64 v.n,.string v.s,.int .i64 w.k,.int .i64 w.n,.string w.s]) hb ⟨Nat.le_refl 6,fun i x hx=>?_⟩ (by simp) (Nat.le_refl _)
 match i with
 |0=>cases hx;rfl
 |1=>cases hx;rfl
 |i+2=>cases hx
theorem insG(a:Int)(s:ByteArray)(w:Int)(h:ad){d1:DB}{be:Int}(hd:ed dY 0=(d1,be))(ej:EJ 0 d1)(aJ:I5 d1):Ct 8 [.int .i64 a,.string s,.int .i64 w] h (fun v h'=>Le h h'/\v=.bool true):=by
 obtain⟨A,hA⟩:=Ar.ex;have HV:A .not true=false:=by rw[hA.not];rfl
 have f40:A .aD .gtr (A .gD s) 40=decide (s.size>40):=by rw[bB A,hA.gD];show decide ((s.size:Int)>40)=_;rw[decide_eq_decide];omega
 refine af A (ar T8.aw T8.aZ) Tryz.func8 rfl (by kernel_rfl) ?_;cbv;refine(Ky h).mono (fun v h1 hR=>?_);obtain⟨l1,hv⟩:=hR;subst hv;cbv;rw[HV];cbv;rw[f40];by_cases hs:s.size>40
 ·rw[decide_eq_true hs];cbv;exact⟨l1,trivial⟩
 rw[decide_eq_false hs];cbv;refine yu a 1000 (by decide) (by decide) h1 (fun z i hz _ hi=>?_);cbv;refine BX (fun h2 b1 n1 c1 b2 n2 c2 b3 n3 c3 b4 n4 c4 d1' m1 e1 d2 m2 e2 d3 m3 e3 d4 m4 e4 l2 Oy _=>?_);cbv;refine qC Oy 0 (pk.sj.DE.small (by decide)) hd (fun h3 b1 n1 c1 b2 n2 c2 b3 n3 c3 b4 n4 c4 l3 Rv=>?_);replace Rv:gA h3 (.agg #[.slice b1 n1 c1,.slice b2 n2 c2,.slice b3 n3 c3,.slice b4 n4 c4]) d1:=Rv;clear hd;have hs40:s.size<=40:=by omega
 have mJ:s.data.toList.length=s.size:=by rw[Array.length_toList];rfl
 have YD:au s.data.toList=s:=by cases s;simp[au]
 have NG:=fun k X w=>aJ i s.data.toList k X w hi (by omega);have nf:z=(i:Int):=hz.eq;cbv;refine N9 s (by omega) h3 (fun h4 l4=>?_);obtain⟨tS,PA⟩:∃tS,au (tB s.data.toList)=tS:=⟨_,rfl⟩;rw[show au (39::(sy s.data.toList++[39]))=tS from PA];cbv;refine Ie i z nf (by omega) h4 (fun h5 l5=>?_);obtain⟨nS,PN⟩:∃nS,au (dK i)=nS:=⟨_,rfl⟩;rw[PN];cbv;refine yu w 7 (by decide) (by decide) h5 (fun kz kk hkz _ Bp=>?_);have hn3:nS.size<=3:=by rw[<-PN,dD];exact Cg i hi
 have ht82:tS.size<=82:=by rw[<-PA,dD];exact Cf _ (by omega)
 obtain⟨k1,mD⟩:∃c,A .cat nS ⟨#[44,32]⟩=c:=⟨_,rfl⟩;obtain⟨k2,ni⟩:∃c,A .cat k1 tS=c:=⟨_,rfl⟩;obtain⟨k3,Aw⟩:∃c,A .cat k2 ⟨#[44,32,49]⟩=c:=⟨_,rfl⟩;obtain⟨k4,Nr⟩:∃c,A .cat tS ⟨#[44,32]⟩=c:=⟨_,rfl⟩;obtain⟨k5,K9⟩:∃c,A .cat k4 tS=c:=⟨_,rfl⟩;obtain⟨k6,Jj⟩:∃c,A .cat ⟨#[110,117,108,108,44,32]⟩ tS=c:=⟨_,rfl⟩;obtain⟨k7,hk7⟩:∃c,A .cat nS ⟨#[32,43,32,49,32,42,32,50,44,32,110,117,108,108]⟩=c:=⟨_,rfl⟩;obtain⟨k8,hk8⟩:∃c,A .cat nS ⟨#[44,32,97]⟩=c:=⟨_,rfl⟩;have cs:∀a b:ByteArray,(A .cat a b).size=a.size+b.size:=fun a b=>Iy a b;have z1:k1.size<=5:=by rw[<-mD,cs];show nS.size+2<=5;omega
 have z2:k2.size<=87:=by rw[<-ni,cs];omega
 have z4:k4.size<=84:=by rw[<-Nr,cs];show tS.size+2<=84;omega
 have y1:((nS.size+2:Nat):Int)<=2^62:=by omega
 have y2:((k1.size+tS.size:Nat):Int)<=2^62:=by omega
 have y3:((k2.size+3:Nat):Int)<=2^62:=by omega
 have y4:((tS.size+2:Nat):Int)<=2^62:=by omega
 have y5:((k4.size+tS.size:Nat):Int)<=2^62:=by omega
 have y6:((6+tS.size:Nat):Int)<=2^62:=by omega
 have y7:((nS.size+14:Nat):Int)<=2^62:=by omega
 have y8:((nS.size+3:Nat):Int)<=2^62:=by omega
 obtain⟨XL,UD⟩:∃XL,XL=[k2,nS,k3,k5,k6,k7,k8]:=⟨_,rfl⟩;have hXe:XL=(KK i s.data.toList).map au:=by
  have ap:∀x y:By,A .cat (au x) (au y)=au (x++y):=fun x y=>by rw[hA.cat];exact ko x y
  have e1:k1=au (dK i++[44,32]):=by rw[<-mD,<-PN];exact ap _ [44,32]
  have e2:k2=au (dK i++([44,32]++tB s.data.toList)):=by rw[<-ni,e1,<-PA,ap,List.append_assoc]
  have e3:k3=au (dK i++([44,32]++(tB s.data.toList++[44,32,49]))):=by rw[<-Aw,e2];refine(ap _ [44,32,49]).trans ?_;rw[List.append_assoc,List.append_assoc]
  have e4:k4=au (tB s.data.toList++[44,32]):=by rw[<-Nr,<-PA];exact ap _ [44,32]
  have e5:k5=au (tB s.data.toList++([44,32]++tB s.data.toList)):=by rw[<-K9,e4,<-PA,ap,List.append_assoc]
  have e6:k6=au ([110,117,108,108,44,32]++tB s.data.toList):=by rw[<-Jj,<-PA];exact ap [110,117,108,108,44,32] _
  have e7:k7=au (dK i++[32,43,32,49,32,42,32,50,44,32,110,117,108,108]):=by rw[<-hk7,<-PN];exact ap _ [32,43,32,49,32,42,32,50,44,32,110,117,108,108]
  have e8:k8=au (dK i++[44,32,97]):=by rw[<-hk8,<-PN];exact ap _ [44,32,97]
  rw[UD,e2,e3,e5,e6,e7,e8,<-PN];rfl
 obtain⟨X,hX⟩:=aE (xs:=XL) (i:=kk) (by rw[UD];exact Bp);obtain⟨X',hX',hXm⟩:∃X',(KK i s.data.toList)[kk]? =some X'/\X=au X':=by
  rw[hXe,List.getElem?_map]at hX;cases hh:(KK i s.data.toList)[kk]? with
  |none=>rw[hh]at hX;cases hX
  |some X'=>rw[hh]at hX;exact⟨X',rfl,by cases hX;rfl⟩
 obtain⟨wt,hwt⟩:=aE (xs:=Tm) (i:=kk) Bp;have hXs:X.size<=200:=by
  have:X∈XL:=List.mem_of_getElem? hX;have cn:∀(l:By) (n:Nat),l.length=n->(⟨l.toArray⟩:ByteArray).size=n:=fun l n h=>(dD l).trans h;rw[UD]at this;simp only[List.mem_cons,List.not_mem_nil,or_false]at this;rcases this with e|e|e|e|e|e|e
  ·rw[e];omega
  ·rw[e];omega
  ·rw[e,<-Aw,cs];show k2.size+3<=200;omega
  ·rw[e,<-K9,cs];omega
  ·rw[e,<-Jj,cs];show 6+tS.size<=200;omega
  ·rw[e,<-hk7,cs];show nS.size+14<=200;omega
  ·rw[e,<-hk8,cs];show nS.size+3<=200;omega
 obtain⟨st,D1,j7,yl,hx,P0,hD,hG,rH⟩:=NG kk X' wt hX' hwt;obtain⟨p1,PH⟩:∃c,A .cat ⟨#[105,110,115,101,114,116,32,105,110,116,111,32,116,97,32,118,97,108,117,101,115,32,40]⟩ X=c:=⟨_,rfl⟩;obtain⟨tx,Yx⟩:∃c,A .cat p1 ⟨#[41]⟩=c:=⟨_,rfl⟩;have Ty:tx=au (qQ++(X'++[41])):=by
  have ap:∀x y:By,A .cat (au x) (au y)=au (x++y):=fun x y=>by rw[hA.cat];exact ko x y
  have e1:p1=au (qQ++X'):=by rw[<-PH,hXm];exact ap qQ X'
  rw[<-Yx,e1];refine(ap _ [41]).trans ?_;rw[List.append_assoc]
 have y9:((23+X.size:Nat):Int)<=2^62:=by omega
 have y10:((p1.size+1:Nat):Int)<=2^62:=by
  have:p1.size=23+X.size:=by rw[<-PH,cs];rfl
  omega
 rw[<-Ty]at j7 yl;have ET:∀d,uS d 0 st:=fun d=>uS.no (by rw[P0];decide) (by rw[P0];decide) (by rw[P0];decide);have Li:0<=kz/\kz<((7:Nat):Int):=hkz.ix Bp;have Uc:=hkz.eq;have fkk:A .aD .eql kz 5=decide (kk=5):=by rw[av A,decide_eq_decide];omega
 replace nf:z=(i:Int):=hz.eq;have gL:A .bu .add .i64 z 2=(i:Int)+2:=by rw[hA.bu];show IntKind.wrap .i64 (z+2)=_;rw[IntWalk.i64_in _ (by omega)];omega
 obtain⟨zz,hzz⟩:∃zz,zz=(i:Int)+2:=⟨_,rfl⟩;have UF:vg kk i s.data.toList=if kk=5 then [⟨2,zz,au []⟩,⟨0,0,au []⟩]else [⟨2,z,au []⟩,⟨3,0,s⟩]:=by unfold vg iN iT v0;rw[hzz,nf,YD]
 rw[<-hzz]at gL;generalize vg kk i s.data.toList=RW at *;clear aJ NG hXe hXm hX' Ty cs hn3 ht82 z1 z2 z4 PA PN YD mJ hzz nf hXs;cbv;refine⟨y1,?_⟩;cbv;rw[mD];refine⟨y2,?_⟩;cbv;rw[ni];refine⟨y1,?_⟩;cbv;rw[mD];refine⟨y2,?_⟩;cbv;rw[ni];refine⟨y3,?_⟩;cbv;rw[Aw];refine⟨y4,?_⟩;cbv;rw[Nr];refine⟨y5,?_⟩;cbv;rw[K9];refine⟨y6,?_⟩;cbv;rw[Jj];refine⟨y7,?_⟩;cbv;rw[hk7];refine⟨y8,?_⟩;cbv;rw[hk8];intro nb h6 f6 e6;have l6:Le h5 h6:=by rw[e6];exact Le.set f6
 have s6:Sl 9 cK h6 (.slice (some ⟨nb,0,none⟩) 7 7) XL:=by rw[UD];exact JS (l:=[k2,nS,k3,k5,k6,k7,k8]) ((congrFun e6 nb).trans ah) (by simp)
 clear e6 UD;cbv;refine⟨⟨rfl,Li⟩,?_⟩;cbv;refine s6.load hX Uc (fun cs aF=>?_);replace aF:cs=[.string X]:=aF;subst aF;cbv;intro eb h7 f7 e7;have l7:Le h6 h7:=by rw[e7];exact Le.set f7
 have s7:Sl 35 ef h7 (.slice (some ⟨eb,0,none⟩) 7 7) Tm:=KD (l:=Tm) ((congrFun e7 eb).trans ah) (by decide);clear e7;cbv;refine⟨⟨rfl,Li⟩,?_⟩;cbv;refine s7.load hwt Uc (fun cs aF=>?_);replace aF:cs=[.int .i64 wt]:=aF;subst aF;cbv;refine⟨y9,?_⟩;cbv;rw[PH];refine⟨y10,?_⟩;cbv;rw[Yx];have l37:=(((l4.trans l5).trans l6).trans l7);refine doT (Rv.mono l37) ej (by decide) yl j7 hx (ET _) (fun h8 x1 m1 g1 x2 m2 g2 x3 m3 g3 x4 m4 g4 b n c l8 AW s8=>?_);rw[hD]at AW s8 |-;replace AW:gA h8 (.agg #[.slice x1 m1 g1,.slice x2 m2 g2,.slice x3 m3 g3,.slice x4 m4 g4]) D1:=AW;replace s8:Sl 59 aN h8 (.slice b n c) []:=s8;have hn:n=0:=s8.len;subst hn;have lt:Le h h8:=(((l1.trans l2).trans l3).trans l37).trans l8;have fww:A .aD .neq wt wt=false:=by rw[aC A];simp
 have R8:A .aD .neq (A .nat 0) 0=false:=by rw[aC A,hA.nat];rfl
 have fw0:A .aD .neq wt 0=decide (wt≠0):=aC A ..;clear s8 hD Rv;cbv;rw[fww];cbv;rw[R8];cbv;rw[fw0];by_cases qY:wt≠0
 ·obtain⟨t0,T,hT,D2⟩:=hG qY;have qt:=AW.MK;have nh:0<m1:=by rw[qt.len,hT];simp
  have zF:x1.isSome=true/\(0:Int)<=0/\(0:Int)<(m1:Int):=⟨qt.bF nh,by omega,by omega⟩;have RN:D1.aB[0]? =some t0:=by rw[hT];rfl
  have f0e:A .aD .eql (A .nat 0) 0=true:=by rw[av A,hA.nat];rfl
  clear hG rH;rw[decide_eq_true qY];cbv;refine⟨zF,?_⟩;cbv;refine qt.fF RN (n:=0) rfl (o:=4) (m:=1) (by decide) (fun cs aF=>?_);obtain⟨_,_,_,x4,x5,x6,rfl,-,s2⟩:=aF;have hx5:x5=0:=by rw[s2.len,D2];rfl
  subst hx5;cbv;rw[f0e];exact⟨lt,rfl⟩
 have hw00:wt=0:=Classical.byContradiction qY;obtain⟨t0,T,n9,hT,D2,YY,K4,h7⟩:=rH hw00;have qt:=AW.MK;have nh:0<m1:=by rw[qt.len,hT];simp
 have zF:x1.isSome=true/\(0:Int)<=0/\(0:Int)<(m1:Int):=⟨qt.bF nh,by omega,by omega⟩;have RN:D1.aB[0]? =some t0:=by rw[hT];rfl
 have fin:∀h9 rb,Le h8 h9->Sl 61 aY h9 (.slice (some ⟨rb,0,none⟩) 2 2) RW->True:=fun _ _ _ _=>trivial;have f77:A .aD .eql 7 7=true:=by rw[av A];rfl
 have f11:A .aD .eql (A .nat 1) 1=true:=by rw[av A,hA.nat];rfl
 have h01:(0:Int)<=0/\(0:Int)<((1:Nat):Int):=by decide
 clear hG rH fin;rw[decide_eq_false qY];cbv;intro rb h9 f9 e9;have l9:Le h8 h9:=by rw[e9];exact Le.set f9
 have s9:kk≠5->Sl 61 aY h9 (.slice (some ⟨rb,0,none⟩) 2 2) RW:=fun h5=>by
  rw[UF,if_neg h5];exact yy (v:=⟨2,z,au []⟩) (w:=⟨3,0,s⟩) ((congrFun e9 rb).trans ah)
 clear e9;cbv;rw[fkk];by_cases h5:kk=5
 ·rw[decide_eq_true h5];cbv;rw[gL];intro r2 lz f10 kW;have lS:Le h9 lz:=by rw[kW];exact Le.set f10
  have th:Sl 61 aY lz (.slice (some ⟨r2,0,none⟩) 2 2) RW:=by rw[UF,if_pos h5];exact yy (v:=⟨2,zz,au []⟩) (w:=⟨0,0,au []⟩) ((congrFun kW r2).trans ah)
  clear kW s9;cbv;refine⟨y9,?_⟩;cbv;rw[PH];refine⟨y10,?_⟩;cbv;rw[Yx];have l89:=l9.trans lS;refine doT (AW.mono l89) YY K4 yl j7 hx (ET _) (fun Ed y1 o1 j1 y2 o2 j2 y3 o3 j3 y4 o4 j4 ba na ca wj _ _=>?_);rw[h7];have SB:=qt.mono ((l89.trans wj).t _);have Dt:=th.mono (wj.t _);have gK:Le h Ed:=(lt.trans l89).trans wj;clear h7 yl j7 hx YY;cbv;rw[f77];cbv;refine⟨zF,?_⟩;cbv;refine SB.fF RN (n:=0) rfl (o:=4) (m:=1) (by decide) (fun cs aF=>?_);obtain⟨u1,u2,u3,u4,u5,u6,rfl,-,sr⟩:=aF;have Pw:u5=1:=by rw[sr.len,D2];rfl
  subst Pw;rw[D2]at sr;have EO:=sr.bF (by omega:0<1);cbv;rw[f11];cbv;refine⟨zF,?_⟩;cbv;refine SB.fF RN (n:=0) rfl (o:=4) (m:=1) (by decide) (fun cs aF=>?_);obtain⟨u1,u2,u3,u4,u5,u6,rfl,-,sr⟩:=aF;have Pw:u5=1:=by rw[sr.len,D2];rfl
  subst Pw;rw[D2]at sr;have EO:=sr.bF (by omega:0<1);cbv;refine⟨⟨EO,h01⟩,?_⟩;cbv;refine rA sr (i:=0) rfl rfl (fun b9 n9 c9 s9=>?_);cbv;refine FQ s9 Dt ?_;cbv;exact⟨gK,trivial⟩
 rw[decide_eq_false h5];cbv;refine⟨y9,?_⟩;cbv;rw[PH];refine⟨y10,?_⟩;cbv;rw[Yx];refine doT (AW.mono l9) YY K4 yl j7 hx (ET _) (fun Ed y1 o1 j1 y2 o2 j2 y3 o3 j3 y4 o4 j4 ba na ca wj _ _=>?_);rw[h7];have SB:=qt.mono ((l9.trans wj).t _);have Dt:=(s9 h5).mono (wj.t _);have gK:Le h Ed:=(lt.trans l9).trans wj;clear h7 yl j7 hx YY;cbv;rw[f77];cbv;refine⟨zF,?_⟩;cbv;refine SB.fF RN (n:=0) rfl (o:=4) (m:=1) (by decide) (fun cs aF=>?_);obtain⟨u1,u2,u3,u4,u5,u6,rfl,-,sr⟩:=aF;have Pw:u5=1:=by rw[sr.len,D2];rfl
 subst Pw;rw[D2]at sr;have EO:=sr.bF (by omega:0<1);cbv;rw[f11];cbv;refine⟨zF,?_⟩;cbv;refine SB.fF RN (n:=0) rfl (o:=4) (m:=1) (by decide) (fun cs aF=>?_);obtain⟨u1,u2,u3,u4,u5,u6,rfl,-,sr⟩:=aF;have Pw:u5=1:=by rw[sr.len,D2];rfl
 subst Pw;rw[D2]at sr;have EO:=sr.bF (by omega:0<1);cbv;refine⟨⟨EO,h01⟩,?_⟩;cbv;refine rA sr (i:=0) rfl rfl (fun b9 n9 c9 s9=>?_);cbv;refine FQ s9 Dt ?_;cbv;exact⟨gK,trivial⟩
theorem DT(a:Int)(s:ByteArray)(w:Int)(h:ad):Ct 8 [.int .i64 a,.string s,.int .i64 w] h (fun v h'=>Le h h'/\v=.bool true):=
 insG a s w h (d1:=rV) (be:=(ed dY 0).2) rfl Cl KI
end Go.S
