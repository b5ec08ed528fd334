import Derived.Test.YtekoaiendgjkdaaGreatWD
set_option linter.unusedVariables false
set_option linter.unusedSimpArgs false
set_option linter.unusedSectionVars false
set_option maxRecDepth 100000
set_option maxHeartbeats 8000000
namespace Go.S
open Go.Sx
def bJH:ByteArray:=⟨#[115,101,108,101,99,116,32,42,32,102,114,111,109,32,116,97]⟩
def gZI:ByteArray:=⟨#[115,101,108,101,99,116,32,97,32,102,114,111,109,32,116,97,32,111,114,100,101,114,32,98,121,32,97,32,100,101,115,99]⟩
def aJo:List ByteArray:=[⟨#[48]⟩,⟨#[49]⟩,⟨#[50]⟩,⟨#[51]⟩,⟨#[52]⟩,⟨#[53]⟩,⟨#[54]⟩,⟨#[55]⟩,⟨#[56]⟩,⟨#[57]⟩,⟨#[49,48]⟩,⟨#[49,49]⟩]
def aXD(s:ByteArray):ByteArray:=aM [115,101,108,101,99,116,32,42,32,102,114,111,109,32,116,97,32,108,105,109,105,116,32]++s
def XN(n:Int):aJ:={ kind:=6,table:=gN 0,eG:=n }
def Jo:aJ:={ kind:=6,table:=gN 0,items:=[⟨0,[cA]⟩],order:=aM [97],desc:=true,eG:=-1 }
theorem dXL:cL ao bJH=(XN (-1),0)/\bJ bJH=true:=⟨by kernel_rfl,by kernel_rfl⟩
theorem eJV:cL ao gZI=(Jo,0)/\bJ gZI=true:=⟨by kernel_rfl,by kernel_rfl⟩
theorem aJn{i:Nat}{s:ByteArray}(h:aJo[i]? =some s):cL ao (aXD s)=(XN i,0)/\bJ (aXD s)=true/\s.size<=2:=by
 match i with
 |0=>cases h;exact⟨by kernel_rfl,by kernel_rfl,by decide⟩
 |1=>cases h;exact⟨by kernel_rfl,by kernel_rfl,by decide⟩
 |2=>cases h;exact⟨by kernel_rfl,by kernel_rfl,by decide⟩
 |3=>cases h;exact⟨by kernel_rfl,by kernel_rfl,by decide⟩
 |4=>cases h;exact⟨by kernel_rfl,by kernel_rfl,by decide⟩
 |5=>cases h;exact⟨by kernel_rfl,by kernel_rfl,by decide⟩
 |6=>cases h;exact⟨by kernel_rfl,by kernel_rfl,by decide⟩
 |7=>cases h;exact⟨by kernel_rfl,by kernel_rfl,by decide⟩
 |8=>cases h;exact⟨by kernel_rfl,by kernel_rfl,by decide⟩
 |9=>cases h;exact⟨by kernel_rfl,by kernel_rfl,by decide⟩
 |10=>cases h;exact⟨by kernel_rfl,by kernel_rfl,by decide⟩
 |11=>cases h;exact⟨by kernel_rfl,by kernel_rfl,by decide⟩
 |i+12=>cases h
theorem cJn(n:Int):Du (XN n):=⟨rfl,rfl,rfl,rfl,rfl⟩
theorem LN(n:Int):dr (XN n):=
 ⟨fun n hn=>(by cases hn),fun n hn=>(by cases hn),fun e he=>(by cases he),fun i hi=>(by cases hi),Nat.zero_le _,fun hk=>absurd hk (by show ¬(6:Int)=4;decide),iX,iX,Nat.zero_le _,Nat.zero_le _⟩
theorem Ow(n:Int):dp (XN n) aZ=(⟨-1,-1,false⟩,0):=by kernel_rfl
theorem bKu(n:Int)(R0:List Row):eJ (XN n) aZ (-1) R0=(bL R0 n,0):=by unfold eJ;rw[if_neg (by decide),AP rfl];rfl
theorem cXQ(n:Int){R:Nat->List Row}{log:List dV}{d:DB}(al:AL 25 R log d):∃d1,AJ R log d1/\iD d 0 (XN n)=(d1,bL (R 0) n,0):=
 (cJn n).iD (Ow n) al (by decide) (bKu n (R 0))
theorem WK(n:Int){R:Nat->List Row}{log:List dV}{d:DB}(q:AJ R log d):iE d 0 (XN n):=(cJn n).aQB (Ow n) (fun h=>(by cases h)) q
theorem bKP(l:List Row):bL l (-1)=l:=rfl
theorem Pr(l:List Row)(n:Nat):bL l (n:Int)=l.take n:=by unfold bL;rw[if_neg (by omega)];rfl
theorem aXI:Du Jo:=⟨rfl,rfl,rfl,rfl,rfl⟩
theorem bJR:dr Jo:=oL (by kernel_rfl)
theorem Ka:dp Jo aZ=(⟨-1,0,false⟩,0):=by kernel_rfl
theorem aJk{u w:Row}(hu:kL u)(hw:kL w):wP 0 true u w=decide (aN w<aN u):=by obtain⟨a,v,rfl,-⟩:=hu;obtain⟨b,x,rfl,-⟩:=hw;rw[tP];show decide (bC (iN b) (iN a)<0)=decide (b<a);rw[ux,decide_eq_decide];exact Dh b a
theorem bJU{R0:List Row}(h:∀r∈R0,kL r)(hs:SR R0):gL (wP 0 true) R0=R0.reverse:=by
 have hk:∀r∈R0,kN r=aN r:=fun r hr=>by
  obtain⟨a,v,rfl,-⟩:=h r hr;rfl
 have hp:=LP (Ce 0 true) hs.jC;have hm:∀r∈gL (wP 0 true) R0,r∈R0:=fun r hr=>oM hr;refine Md (P:=fun u w=>aN w<aN u) (fun x y h1 h2=>by omega) ((gh _ R0).trans (List.reverse_perm R0).symm) ?_ ?_
 ·refine hp.imp_of_mem (fun{u w} hu hw hr=>?_);have mu:=hm u hu;have mw:=hm w hw;rw[aJk (h u mu) (h w mw),aJk (h w mw) (h u mu),decide_eq_true_eq,decide_eq_false_iff_not,hk u mu,hk w mw]at hr;omega
 ·rw[List.pairwise_reverse];refine hs.jC.imp_of_mem (fun{u w} hu hw hr=>?_);rw[hk u hu,hk w hw]at hr;exact hr
theorem aZx{R0:List Row}(h:∀r∈R0,kL r)(hs:SR R0):eJ Jo aZ 0 R0=(R0.reverse.map (·.take 1),0):=by
 unfold eJ;rw[if_pos (by decide)];have e:bL (gL (wP 0 Jo.desc) R0) Jo.eG=R0.reverse:=by unfold bL;rw[if_pos (by show(-1:Int)<0;decide)];exact bJU h hs
 rw[e,AO (x:=Jo) (by show ¬(1:Nat)=0;decide) aZ (·.take 1) _ _ (fun r hr=>by
  obtain⟨a,v,rfl,-⟩:=h r (List.mem_reverse.1 hr);exact QO a v)]
 rfl
theorem fJw{R:Nat->List Row}{log:List dV}{d:DB}(al:AL 25 R log d):∃d1,AJ R log d1/\iD d 0 Jo=(d1,(R 0).reverse.map (·.take 1),0):=
 aXI.iD Ka al (by decide) (aZx (al.rp 0 (by decide)) (al.sr (by decide)))
theorem eQI{R:Nat->List Row}{log:List dV}{d:DB}(q:AJ R log d):iE d 0 Jo:=aXI.aQB Ka (fun h=>(by cases h)) q
theorem eQL{R0:List Row}(h:∀r∈R0,kL r){i:Nat}(hi:i<R0.length):∃a v,R0[R0.length-1-i]? =some [iN a,v]/\(R0.reverse.map (·.take 1))[i]? =some [iN a]:=by obtain⟨r,hr⟩:=aE (xs:=R0) (i:=R0.length-1-i) (by omega);obtain⟨a,v,rfl,-⟩:=h r (List.mem_of_getElem? hr);refine⟨a,v,hr,?_⟩;rw[List.getElem?_map,List.getElem?_reverse hi,hr];rfl
end Go.S
