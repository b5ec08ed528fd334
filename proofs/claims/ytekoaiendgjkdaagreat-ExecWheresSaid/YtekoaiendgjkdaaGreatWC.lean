import Derived.Test.YtekoaiendgjkdaaGreatWB
import Derived.Test.YtekoaiendgjkdaaGreatQC
set_option linter.unusedVariables false
set_option linter.unusedSimpArgs false
set_option linter.unusedSectionVars false
set_option maxRecDepth 100000
set_option maxHeartbeats 8000000
namespace Go.S
open Go.Sx
theorem cN.cmp{c:UInt8}{t:By}{ws:List Wd}(hc:c=60\/c=62)(h:cN t ws):cN (c::32::t) (⟨4,0,ax [c]⟩::ws):=by
 have h2:cN (32::t) ws:=cN.sp h;rcases hc with rfl|rfl
 ·exact cN.step rfl rfl (Nat.le_refl _) h2
 ·exact cN.step rfl rfl (Nat.le_refl _) h2
def whT(k n:Nat):By:=match k with
 |0=>[97,32,60,32]++cj n
 |1=>[97,32,61,32]++cj n
 |2=>[98,32,105,115,32,110,117,108,108]
 |3=>[110,111,116,32,98,32,105,115,32,110,117,108,108,32,97,110,100,32,97,32,62,32]++cj n
 |_=>[98,32,61,32,110,117,108,108]
def whW(k n:Nat):List Wd:=match k with
 |0=>[wd [97],ud 60,sE n]
 |1=>[wd [97],ud 61,sE n]
 |2=>[wd [98],wd [105,115],wd [110,117,108,108]]
 |3=>[wd [110,111,116],wd [98],wd [105,115],wd [110,117,108,108],wd [97,110,100],wd [97],ud 62,sE n]
 |_=>[wd [98],ud 61,wd [110,117,108,108]]
def mj:Nd:=eJ (ax [97])
def qy:Nd:=eJ (ax [98])
def whE(k n:Nat):List Nd:=match k with
 |0=>[mj,lit (iN n),bin 10 0 1]
 |1=>[mj,lit (iN n),bin 8 0 1]
 |2=>[qy,un 5 0]
 |3=>[qy,un 5 0,un 3 1,mj,lit (iN n),bin 12 3 4,bin 7 2 5]
 |_=>[qy,lit v0,bin 8 0 1]
theorem cN.digE(n:Nat)(hn:n<2^62):cN (cj n) [sE n]:=by have:=cN.RT n hn (t:=[]) rfl cN.nil;rw[List.append_nil]at this;exact this
theorem cN.wh(k n:Nat)(hk:k<5)(hn:n<2^62):cN (whT k n) (whW k n):=by
 have hd:=cN.digE n hn
 match k,hk with
 |0,_=>exact cN.name (c:=97) [] rfl rfl rfl (cN.sp (cN.cmp (.inl rfl) hd))
 |1,_=>exact cN.name (c:=97) [] rfl rfl rfl (cN.sp (cN.sign rfl (by decide) (by decide) (cN.sp hd)))
 |2,_=>exact cN.name (c:=98) [] rfl rfl rfl (cN.sp (cN.name (c:=105) [115] rfl rfl rfl (cN.sp (cN.name (c:=110) [117,108,108] (t:=[]) rfl rfl rfl cN.nil))))
 |3,_=>exact cN.name (c:=110) [111,116] rfl rfl rfl (cN.sp (cN.name (c:=98) [] rfl rfl rfl (cN.sp (cN.name (c:=105) [115] rfl rfl rfl (cN.sp (cN.name (c:=110) [117,108,108] rfl rfl rfl (cN.sp (cN.name (c:=97) [110,100] rfl rfl rfl (cN.sp (cN.name (c:=97) [] rfl rfl rfl (cN.sp (cN.cmp (.inr rfl) hd))))))))))))
 |4,_=>exact cN.name (c:=98) [] rfl rfl rfl (cN.sp (cN.sign rfl (by decide) (by decide) (cN.sp (cN.name (c:=110) [117,108,108] (t:=[]) rfl rfl rfl cN.nil))))
def selPre:By:=[115,101,108,101,99,116,32,97,32,102,114,111,109,32,116,97,32,119,104,101,114,101,32]
def delPre:By:=[100,101,108,101,116,101,32,102,114,111,109,32,116,97,32,119,104,101,114,101,32]
def selWs(ws:List Wd):List Wd:=wd [115,101,108,101,99,116]::wd [97]::wd [102,114,111,109]::wd [116,97]::wd [119,104,101,114,101]::ws
def delWs(ws:List Wd):List Wd:=wd [100,101,108,101,116,101]::wd [102,114,111,109]::wd [116,97]::wd [119,104,101,114,101]::ws
theorem cN.selP{t:By}{ws:List Wd}(h:cN t ws):cN (selPre++t) (selWs ws):=
 cN.name (c:=115) [101,108,101,99,116] rfl rfl rfl (cN.sp (cN.name (c:=97) [] rfl rfl rfl (cN.sp (cN.name (c:=102) [114,111,109] rfl rfl rfl (cN.sp (cN.name (c:=116) [97] rfl rfl rfl (cN.sp (cN.name (c:=119) [104,101,114,101] rfl rfl rfl (cN.sp h)))))))))
theorem cN.delP{t:By}{ws:List Wd}(h:cN t ws):cN (delPre++t) (delWs ws):=
 cN.name (c:=100) [101,108,101,116,101] rfl rfl rfl (cN.sp (cN.name (c:=102) [114,111,109] rfl rfl rfl (cN.sp (cN.name (c:=116) [97] rfl rfl rfl (cN.sp (cN.name (c:=119) [104,101,114,101] rfl rfl rfl (cN.sp h)))))))
def selSt(k n:Nat):az:={ kind:=6,table:=iB 0,items:=[⟨0,[mj]⟩],bM:=whE k n,fw:=-1 }
def delSt(k n:Nat):az:={ kind:=5,table:=iB 0,bM:=whE k n }
theorem selSt_w{k:Nat}(hk:k<5)(n:Nat):nC ao (selWs (whW k n)++[mG])=(selSt k n,0):=by
 match k,hk with
 |0,_=>show _=_;kernel_rfl
 |1,_=>show _=_;kernel_rfl
 |2,_=>show _=_;kernel_rfl
 |3,_=>show _=_;kernel_rfl
 |4,_=>show _=_;kernel_rfl
theorem delSt_w{k:Nat}(hk:k<5)(n:Nat):nC ao (delWs (whW k n)++[mG])=(delSt k n,0):=by
 match k,hk with
 |0,_=>show _=_;kernel_rfl
 |1,_=>show _=_;kernel_rfl
 |2,_=>show _=_;kernel_rfl
 |3,_=>show _=_;kernel_rfl
 |4,_=>show _=_;kernel_rfl
theorem whT_len{k n:Nat}(hn:n<1000):(whT k n).length<=40:=by have:=lF n hn;unfold whT;split<;>simp only[List.length_append,List.length_cons,List.length_nil]<;>omega
theorem sel_stmt{k n:Nat}(hk:k<5)(hn:n<1000):dk ao (ax (selPre++whT k n))=(selSt k n,0)/\ek (ax (selPre++whT k n))=true:=by
 have hw:iE (ax (selPre++whT k n))=(selWs (whW k n)++[mG],0):=AX (by
  have:=whT_len (k:=k) hn;have h2:selPre.length=23:=rfl;rw[dn,List.length_append];omega) (show cN (selPre++whT k n) _ from cN.selP (cN.wh k n hk (by omega)))
 refine⟨(Ba hw).trans (selSt_w hk n),?_⟩;unfold ek;rw[hw];rfl
theorem del_stmt{k n:Nat}(hk:k<5)(hn:n<1000):dk ao (ax (delPre++whT k n))=(delSt k n,0)/\ek (ax (delPre++whT k n))=true:=by
 have hw:iE (ax (delPre++whT k n))=(delWs (whW k n)++[mG],0):=AX (by
  have:=whT_len (k:=k) hn;have h2:delPre.length=21:=rfl;rw[dn,List.length_append];omega) (show cN (delPre++whT k n) _ from cN.delP (cN.wh k n hk (by omega)))
 refine⟨(Ba hw).trans (delSt_w hk n),?_⟩;unfold ek;rw[hw];rfl
def whB(k n:Nat)(a:Int)(v:dg):Bool:=match k with
 |0=>decide (a<n)
 |1=>decide (a=n)
 |2=>decide (v.k=0)
 |3=>decide (v.k≠0)&&decide (a>n)
 |_=>false
theorem wh_kind{k:Nat}(hk:k<5)(n:Nat):fZ (whE k n) dN=(1,0):=by
 have key:∀ {e:List Nd} {l:List Int},e.length<60->e.length>=1->eN dN e []=(l,0)->tJ l=1->fZ e dN=(1,0):=fun h1 h2 h3 h4=>by
  unfold fZ;rw[if_neg (by omega),h3];show(tJ _,(0:Int))=_;rw[h4]
 have two:∀op,op=10\/op=8->eN dN [mj,lit (iN n),bin op 0 1] []=([2,2,1],0):=fun op Rd=>by
  have e:eN dN [mj,lit (iN n),bin op 0 1] []=eN dN [lit (iN n),bin op 0 1] [2]:=by kernel_rfl
  rw[e,fV,rm,lO];rcases Rd with rfl|rfl
  ·exact(by kernel_rfl:eN dN [bin 10 0 1] [2,2]=([2,2,1],0))
  ·exact(by kernel_rfl:eN dN [bin 8 0 1] [2,2]=([2,2,1],0))
 match k,hk with
 |0,_=>exact key (by show 3<60;decide) (by show 3>=1;decide) (two 10 (.inl rfl)) rfl
 |1,_=>exact key (by show 3<60;decide) (by show 3>=1;decide) (two 8 (.inr rfl)) rfl
 |2,_=>exact key (by show 2<60;decide) (by show 2>=1;decide) (by kernel_rfl:eN dN [qy,un 5 0] []=([3,1],0)) rfl
 |3,_=>
  refine key (l:=[3,1,1,2,2,1,1]) (by show 7<60;decide) (by show 7>=1;decide) ?_ rfl;have e:eN dN [qy,un 5 0,un 3 1,mj,lit (iN n),bin 12 3 4,bin 7 2 5] []=eN dN [lit (iN n),bin 12 3 4,bin 7 2 5] [3,1,1,2]:=by kernel_rfl
  show eN dN [qy,un 5 0,un 3 1,mj,lit (iN n),bin 12 3 4,bin 7 2 5] []=_;rw[e,fV,rm,lO];exact(by kernel_rfl:eN dN [bin 12 3 4,bin 7 2 5] [3,1,1,2,2]=([3,1,1,2,2,1,1],0))
 |4,_=>exact key (by show 3<60;decide) (by show 3>=1;decide) (by kernel_rfl:eN dN [qy,lit v0,bin 8 0 1] []=([3,0,1],0)) rfl
theorem wh_cond{k:Nat}(hk:k<5)(n:Nat):aF (whE k n) dN=0:=by
 unfold aF fI;rw[wh_kind hk n]
 match k,hk with
 |0,_=>rfl
 |1,_=>rfl
 |2,_=>rfl
 |3,_=>rfl
 |4,_=>rfl
theorem cmpI_sgn(x y:Int):decide (iC x y<0)=decide (x<y)/\decide (iC x y=0)=decide (x=y)/\decide (iC x y>0)=decide (x>y):=by
 have h1:=Cp x y;have h2:=yP x y;have h3:iC x y>0↔x>y:=by
  unfold iC;by_cases h:x<y
  ·simp[h];omega
  ·by_cases h2:x>y
   ·simp[h,h2]
   ·simp[h,h2]
 exact⟨decide_eq_decide.2 h1,decide_eq_decide.2 h2,decide_eq_decide.2 h3⟩
theorem logic_and(c:Bool):mW 7 (bH true) (bH c)=bH c:=by cases c<;>kernel_rfl
theorem Value_of{e:List Nd}{r:Row}{l:List dg}(hk:fZ e dN=(1,0))(hn:gL dN r e []=some l):eA e dN r=(pL l,0):=by unfold eA;rw[hk,hn];rfl
theorem holds_of{e:List Nd}(he:e.length≠0){r:Row}{v:dg}(h:eA e dN r=(v,0)):dL e dN r=(decide (v.k=1)&&decide (v.n=1),0):=by unfold dL;rw[if_neg he,h]
theorem wh_holds{k:Nat}(hk:k<5)(n:Nat)(a:Int){v:dg}(hv:v=v0\/∃x,v=iT x):dL (whE k n) dN [iN a,v]=(whB k n a v,0):=by
 have hK:=wh_kind hk n;obtain⟨c1,c2,c3⟩:=cmpI_sgn a n;rw[<-Gd]at c1 c2 c3;have tr:∀c:Bool,(decide ((bH c).k=1)&&decide ((bH c).n=1))=c:=A4
 match k,hk with
 |0,_=>
  have hn:gL dN [iN a,v] (whE 0 n) []=some [iN a,iN n,bH (decide (ch (iN a) (iN n)<0))]:=by kernel_rfl
  rw[holds_of (by show(3:Nat)≠0;decide) (Value_of hK hn)];show(decide ((bH (decide (ch (iN a) (iN n)<0))).k=1)&&decide ((bH (decide (ch (iN a) (iN n)<0))).n=1),(0:Int))=_;rw[tr,c1];rfl
 |1,_=>
  have hn:gL dN [iN a,v] (whE 1 n) []=some [iN a,iN n,bH (decide (ch (iN a) (iN n)=0))]:=by kernel_rfl
  rw[holds_of (by show(3:Nat)≠0;decide) (Value_of hK hn)];show(decide ((bH (decide (ch (iN a) (iN n)=0))).k=1)&&decide ((bH (decide (ch (iN a) (iN n)=0))).n=1),(0:Int))=_;rw[tr,c2];rfl
 |2,_=>
  have hn:gL dN [iN a,v] (whE 2 n) []=some [v,bH (decide (v.k=0))]:=by kernel_rfl
  rw[holds_of (by show(2:Nat)≠0;decide) (Value_of hK hn)];show(decide ((bH (decide (v.k=0))).k=1)&&decide ((bH (decide (v.k=0))).n=1),(0:Int))=_;rw[tr];rfl
 |3,_=>
  rcases hv with rfl| ⟨x,rfl⟩
  ·have hn:gL dN [iN a,v0] (whE 3 n) []=some [v0,bH true,bH false,iN a,iN n,bH (decide (ch (iN a) (iN n)>0)),bH false]:=by
    have h1:gL dN [iN a,v0] (whE 3 n) []=some [v0,bH true,bH false,iN a,iN n,bH (decide (ch (iN a) (iN n)>0)),mW 7 (bH false) (bH (decide (ch (iN a) (iN n)>0)))]:=by kernel_rfl
    have h2:∀c:Bool,mW 7 (bH false) (bH c)=bH false:=fun c=>by cases c<;>kernel_rfl
    rw[h1,h2]
   rw[holds_of (by show(7:Nat)≠0;decide) (Value_of hK hn)];rfl
  ·have hn:gL dN [iN a,iT x] (whE 3 n) []=some [iT x,bH false,bH true,iN a,iN n,bH (decide (ch (iN a) (iN n)>0)),bH (decide (ch (iN a) (iN n)>0))]:=by
    have h1:gL dN [iN a,iT x] (whE 3 n) []=some [iT x,bH false,bH true,iN a,iN n,bH (decide (ch (iN a) (iN n)>0)),mW 7 (bH true) (bH (decide (ch (iN a) (iN n)>0)))]:=by kernel_rfl
    rw[h1,logic_and]
   rw[holds_of (by show(7:Nat)≠0;decide) (Value_of hK hn)];show(decide ((bH (decide (ch (iN a) (iN n)>0))).k=1)&&decide ((bH (decide (ch (iN a) (iN n)>0))).n=1),(0:Int))=(decide ((3:Int)≠0)&&decide (a>n),0);rw[tr,c3];rfl
 |4,_=>
  have hn:gL dN [iN a,v] (whE 4 n) []=some [v,v0,v0]:=by
   rcases hv with rfl| ⟨x,rfl⟩
   ·kernel_rfl
   ·kernel_rfl
  rw[holds_of (by show(3:Nat)≠0;decide) (Value_of hK hn)];rfl
def sndV(r:Row):dg:=(r[1]?).getD v0
def whR(k n:Nat)(r:Row):Bool:=whB k n (aN r) (sndV r)
theorem whR_eq(k n:Nat)(a:Int)(v:dg):whR k n [iN a,v]=whB k n a v:=rfl
theorem CJ.wh{r:Row}(h:CJ r){k:Nat}(hk:k<5)(n:Nat):dL (whE k n) dN r=(whR k n r,0):=by obtain⟨a,v,rfl,-,-,hv⟩:=h;rw[whR_eq];exact wh_holds hk n a (hv.imp id fun⟨x,h,_⟩=>⟨x,h⟩)
theorem pairs_wh{k:Nat}(hk:k<5)(n:Nat):∀(l out:List Row),(∀r∈l,CJ r)->cy (selSt k n) dN [[]] l out=(out++l.filter (whR k n),0)
 | [],out,_=>by show(out,(0:Int))=_;simp
 |a::l,out,h=>by
  have ha:=(h a List.mem_cons_self).wh hk n;have e:cy (selSt k n) dN [[]] (a::l) out=match dL (whE k n) dN (a++[])with
   | (is,e)=>if e≠0 then(if e≠0 then(out,e)else cy (selSt k n) dN [[]] l out)else cy (selSt k n) dN [[]] l (if is=true then out++[a++[]]else out):=by
   show(match (match dL (whE k n) dN (a++[])with
    | (is,e)=>if e≠0 then(out,e)else((if is=true then out++[a++[]]else out),(0:Int)):List Row×Int)with
    | (out,e)=>if e≠0 then(out,e)else cy (selSt k n) dN [[]] l out)=_
   generalize dL (whE k n) dN (a++[])=H;obtain⟨is,e⟩:=H;by_cases he:e≠0
   ·simp[he]
   ·simp[he]
  rw[e,List.append_nil,ha];show cy (selSt k n) dN [[]] l (if whR k n a=true then out++[a]else out)=_;rw[pairs_wh hk n l _ (fun r hr=>h r (List.mem_cons_of_mem _ hr)),List.filter_cons];cases whR k n a with
  |true=>simp
  |false=>simp
theorem colA_val(a:Int)(v:dg):bG [[mj]] dN [iN a,v]=([iN a],0):=by kernel_rfl
theorem plain_wh(k n:Nat):∀(l out:List Row),(∀r∈l,CJ r)->jm (selSt k n) dN l out=(out++l.map (·.take 1),0)
 | [],out,_=>by simp[jm]
 |r::l,out,h=>by
  obtain⟨a,v,rfl,-⟩:=h r List.mem_cons_self;unfold jm;rw[if_neg (by show ¬(1:Nat)=0;decide)];show(match bG [[mj]] dN [iN a,v]with
   | (v,e)=>if e≠0 then([],e)else jm (selSt k n) dN l (out++[v]))=_
  rw[colA_val];show jm (selSt k n) dN l (out++[[iN a]])=_;rw[plain_wh k n l _ (fun r hr=>h r (List.mem_cons_of_mem _ hr))];simp
theorem sel_fits{k:Nat}(hk:k<5)(n:Nat):dm (selSt k n) dN=(⟨-1,-1,false⟩,0):=by
 have hc:=wh_cond hk n;have h1:dm (selSt k n) dN=if aF (whE k n) dN≠0 then(⟨-1,-1,false⟩,aF (whE k n) dN)else(⟨-1,-1,false⟩,0):=by kernel_rfl
 rw[h1,hc];rfl
theorem tell_wh{k:Nat}(hk:k<5)(n:Nat){l:List Row}(h:∀r∈l,CJ r)(hl:l.length<=200):iF (selSt k n) dN l [[]]=((l.filter (whR k n)).map (·.take 1),0):=by
 unfold iF;rw[sel_fits hk n];show(if l.length*1>4000 then([],4)else match cy (selSt k n) dN [[]] l []with
  | (rows,e)=>if e≠0 then([],e)else if false=true then eS (selSt k n) dN (-1) rows else fC (selSt k n) dN (-1) rows)=_
 rw[if_neg (by omega),pairs_wh hk n l [] h];show fC (selSt k n) dN (-1) ([]++l.filter (whR k n))=_;unfold fC;rw[if_neg (by decide)];have:cH ([]++l.filter (whR k n)) (selSt k n).fw=l.filter (whR k n):=by unfold cH;rw[if_pos (by show(-1:Int)<0;decide)];rfl
 rw[this,plain_wh k n _ _ (fun r hr=>h r (List.mem_filter.1 hr).1)];rfl
theorem chosen_wh{k:Nat}(hk:k<5)(n:Nat)(f:Row->Row×Int)(hf:∀r,(f r).2=0):∀(l:List Row) (p:List Row×List Row),(∀r∈l,CJ r)->∃q,lJ (whE k n) dN f l p=((p.1++l.filter (whR k n),q),0)
 | [],p,_=>⟨p.2,by simp[lJ]⟩
 |r::l,p,h=>by
  have ha:=(h r List.mem_cons_self).wh hk n;have hr:=fun r hr=>h r (List.mem_cons_of_mem _ hr);unfold lJ;rw[ha,List.filter_cons];cases whR k n r with
  |false=>obtain⟨q,hq⟩:=chosen_wh hk n f hf l p hr;exact⟨q,by simpa using hq⟩
  |true=>have h0:=hf r;generalize f r=F at *;obtain⟨m,e⟩:=F;have h0:e=0:=h0;subst h0;obtain⟨q,hq⟩:=chosen_wh hk n f hf l (p.1++[r],p.2++[m]) hr;exact⟨q,by simpa using hq⟩
theorem AL.sr{m:Nat}{R:Nat->List Row}{log:List iX}{d:DB}(q:AL m R log d){t:Nat}(ht:t<3):SR (R t):=by have hg:=(q.aj.tab ht).2;have:=(q.ej.sj.sc.tw.ok _ (List.mem_of_getElem? hg)).2.2.1;exact this.sr
theorem at_mid{pre rest:List Row}{r:Row}(h:SR (pre++r::rest)):At (pre++r::rest) (kN r) pre.length/\B0 (pre++r::rest) (kN r) pre.length=true:=by
 have hg:(pre++r::rest)[pre.length]? =some r:=by simp
 have hp:=List.pairwise_append.1 h.pH;refine⟨⟨by simp,fun i row hi hr=>?_,fun i row hi hr=>?_⟩,?_⟩
 ·rw[List.getElem?_append_left hi]at hr;exact hp.2.2 row (List.mem_of_getElem? hr) r List.mem_cons_self
 ·rcases Nat.eq_or_lt_of_le hi with e|aK
  ·subst e;rw[hg]at hr;cases hr;exact Int.le_refl _
  ·rw[List.getElem?_append_right hi]at hr;obtain⟨j,hj⟩:∃j,i-pre.length=j+1:=⟨i-pre.length-1,by omega⟩;rw[hj]at hr;have:=List.rel_of_pairwise_cons hp.2.1 (List.mem_of_getElem? (show rest[j]? =some row from hr));omega
 ·unfold B0;rw[hg];exact decide_eq_true rfl
theorem AJ.take{R:Nat->List Row}{log:List iX}{d:DB}(q:AJ R log d){t:Nat}(ht:t<2)(hs:SR (R t)){pre rest:List Row}{a:Int}{v:dg}(hR:R t=pre++[iN a,v]::rest)(hl:log.length<60):
 ∃d',X2 d 0 (iB t) (iN a)=(d',0)/\AJ (Sw R t (pre++rest)) (log++[⟨iB t,2,[iN a,v]⟩]) d':=by
 have ht3:t<3:=by omega
 obtain⟨d1,hd,q1⟩:=q.hold ht3 true;obtain⟨ti,tg⟩:=q1.tab ht3;have hw:cA d1.au 0=cA [⟨0,log,[]⟩] 0:=by rw[q1.au]
 have hwi:dr (cA d1.au 0)=0:=by rw[hw];kernel_rfl
 have hwg:d1.au[0]? =some ⟨0,log,[]⟩:=by rw[q1.au];rfl
 have h1:X2 d 0 (iB t) (iN a)=(if decide ((ay d ⟨0,iB t,true⟩).2≠0)=true then ay d ⟨0,iB t,true⟩
  else match (ay d ⟨0,iB t,true⟩).1.aE[dr (aR (ay d ⟨0,iB t,true⟩).1.aE (iB t))]?,(ay d ⟨0,iB t,true⟩).1.au[dr (cA (ay d ⟨0,iB t,true⟩).1.au 0)]? with
  |some x,some w=>
   if decide ((LG (iN a) x).2.2≠19)&&decide ((w.log.length:Int)>=60)then((ay d ⟨0,iB t,true⟩).1,4)
   else if decide ((LG (iN a) x).2.2=0)=true then
    (⟨(ay d ⟨0,iB t,true⟩).1.aE.set (dr (aR (ay d ⟨0,iB t,true⟩).1.aE (iB t))) (LG (iN a) x).1,(ay d ⟨0,iB t,true⟩).1.au.set (dr (cA (ay d ⟨0,iB t,true⟩).1.au 0)) ⟨w.s,w.log++[⟨iB t,(LG (iN a) x).2.1.op,(LG (iN a) x).2.1.row⟩],w.marks⟩,(ay d ⟨0,iB t,true⟩).1.holds,(ay d ⟨0,iB t,true⟩).1.waits⟩,0)
   else((ay d ⟨0,iB t,true⟩).1,(LG (iN a) x).2.2)
  |_,_=>ay d ⟨0,iB t,true⟩):=rfl
 have hS:(aT t).key=0/\(aT t).only=false:=by
  match t,ht with
  |0,_=>exact⟨rfl,rfl⟩
  |1,_=>exact⟨rfl,rfl⟩
 obtain⟨qE,sy⟩:=at_mid (hR ▸ hs);have hT:cK ⟨aT t,R t⟩ (iN a)=(⟨aT t,pre++rest⟩,[iN a,v],0):=by
  rw[hR]at hs |-;have h:=Da hS.1 hs qE;rw[if_pos sy]at h;refine Eq.trans (show _=cK ⟨aT t,pre++[iN a,v]::rest⟩ ⟨2,kN [iN a,v],pJ⟩from rfl) (h.trans ?_);have e1:(pre++[iN a,v]::rest).take pre.length=pre:=List.take_left;have e2:(pre++[iN a,v]::rest).drop (pre.length+1)=rest:=by rw[<-List.drop_drop,List.drop_left];rfl
  have e3:(pre++[iN a,v]::rest)[pre.length]? =some [iN a,v]:=by simp
  rw[e1,e2,e3];rfl
 have xg:LG (iN a) ⟨aT t,R t⟩=(⟨aT t,pre++rest⟩,⟨jX,2,[iN a,v]⟩,0):=by unfold LG;rw[show(⟨aT t,R t⟩:cE).S.only=false from hS.2,hT];rfl
 have qA:¬(log.length:Int)>=60:=by omega
 rw[hd]at h1;simp only[ti,tg,hwi,hwg,xg,ne_eq,not_true_eq_false,decide_false,Bool.false_eq_true,if_false,decide_eq_false qA,Bool.and_false,decide_true,if_true]at h1;refine⟨_,h1,?_,?_,q1.holds,q1.waits⟩
 ·rw[q1.aE]
  match t,ht with
  |0,_=>rfl
  |1,_=>rfl
 ·rw[q1.au];rfl
theorem takes_all{t:Nat}(ht:t<2)(p:Row->Bool):∀(rest pre:List Row) (R:Nat->List Row) (log:List iX) (d:DB),AJ R log d->R t=pre++rest->SR (R t)->(∀r∈rest,CJ r)->log.length+(rest.filter p).length<=60->
 ∃R' DE d',sH 0 (iB t) (rest.filter p) d=(d',0)/\AJ R' DE d'/\R' t=pre++rest.filter (fun r=> !p r)/\(∀j,j≠t->R' j=R j)/\DE.length=log.length+(rest.filter p).length
 | [],pre,R,log,d,q,hR,_,_,_=>⟨R,log,d,rfl,q,hR,fun _ _=>rfl,rfl⟩
 |r::rest,pre,R,log,d,q,hR,hs,hrp,hl=>by
  have KP:=fun x hx=>hrp x (List.mem_cons_of_mem r hx);cases hp:p r with
  |false=>
   have e1:(r::rest).filter p=rest.filter p:=by rw[List.filter_cons,hp];rfl
   have e2:(r::rest).filter (fun r=> !p r)=r::rest.filter (fun r=> !p r):=by rw[List.filter_cons,hp];rfl
   rw[e1]at hl |-;obtain⟨R',DE,d',h1,h2,h3,h4,h5⟩:=takes_all ht p rest (pre++[r]) R log d q (by rw[hR];simp) hs KP hl;exact⟨R',DE,d',h1,h2,by rw[h3,e2];simp,h4,h5⟩
  |true=>
   have e1:(r::rest).filter p=r::rest.filter p:=by rw[List.filter_cons,hp];rfl
   have e2:(r::rest).filter (fun r=> !p r)=rest.filter (fun r=> !p r):=by rw[List.filter_cons,hp];rfl
   rw[e1]at hl |-;rw[e2];obtain⟨a,v,rfl,-⟩:=hrp r List.mem_cons_self;simp only[List.length_cons]at hl;obtain⟨d1,g1,g2⟩:=q.take ht hs hR (by omega);have hk:SL d (iB t) [iN a,v]=iN a:=by
    unfold SL;rw[q.held (by omega)]
    match t,ht with
    |0,_=>rfl
    |1,_=>rfl
   have fO:Sw R t (pre++rest) t=pre++rest:=by unfold Sw;rw[if_pos rfl]
   have dp:SR (pre++rest):=by rw[hR]at hs;refine hs.sub ?_;exact List.Sublist.append (List.Sublist.refl _) (List.sublist_cons_self _ _)
   obtain⟨R',DE,d',h1,h2,h3,h4,h5⟩:=takes_all ht p rest pre (Sw R t (pre++rest)) _ d1 g2 fO (by rw[fO];exact dp) KP (by simp only[List.length_append,List.length_cons,List.length_nil];omega);refine⟨R',DE,d',?_,h2,h3,fun j hj=>?_,?_⟩
   ·show(match X2 d 0 (iB t) (SL d (iB t) [iN a,v])with
     | (d',e)=>if e≠0 then(d',e)else sH 0 (iB t) (rest.filter p) d')=_
    rw[hk,g1];exact h1
   ·rw[h4 j hj];unfold Sw;rw[if_neg hj]
   ·rw[h5];simp only[List.length_append,List.length_cons,List.length_nil];omega
theorem del_wh{k:Nat}(hk:k<5)(n:Nat){R:Nat->List Row}{log:List iX}{d:DB}(al:AL 25 R log d):∃R' DE d1,AJ R' DE d1/\jD d 0 (delSt k n)=(d1,[],0)/\R' 0=(R 0).filter (fun r=> !whR k n r):=by
 obtain⟨d1,hd,q1⟩:=al.aj.hold (t:=0) (by decide) true;obtain⟨q,hq⟩:=chosen_wh hk n (fun _=>([],0)) (fun _=>rfl) (R 0) ([],[]) (al.rp 0 (by decide));obtain⟨R',DE,d',h1,h2,h3,-,-⟩:=takes_all (t:=0) (by decide) (whR k n) (R 0) [] R log d1 q1 rfl (al.sr (by decide)) (al.rp 0 (by decide)) (by
  have:=al.ln;have:=al.le;have:=List.length_filter_le (whR k n) (R 0);omega)
 refine⟨R',DE,d',h2,?_,h3⟩;have e1:jD d 0 (delSt k n)=fL d 0 (delSt k n):=rfl;rw[e1];unfold fL;rw[show(delSt k n).table=iB 0 from rfl,hd];have hh:=q1.held (t:=0) (by decide);have hc:aJ ⟨aT 0,R 0⟩=dN:=rfl;have ho:(aT 0).only=false:=rfl;have hw:(delSt k n).bM=whE k n:=rfl;simp only[hh,hc,ho,hw,wh_cond hk n,hq];show bK d1 (sH 0 (iB 0) ([]++(R 0).filter (whR k n)) d1)=_;rw[List.nil_append,h1];rfl
theorem sel_wh{k:Nat}(hk:k<5)(n:Nat){R:Nat->List Row}{log:List iX}{d:DB}(al:AL 25 R log d):∃d1,AJ R log d1/\jD d 0 (selSt k n)=(d1,((R 0).filter (whR k n)).map (·.take 1),0):=by obtain⟨d1,q1,hd⟩:=NX al.aj (st:=selSt k n) rfl rfl rfl;rw[tell_wh hk n (al.rp 0 (by decide)) (by have:=al.ln;have:=al.le;omega)]at hd;exact⟨d1,q1,hd⟩
theorem wh_nds{k n:Nat}(hn:n<1000):mI (whE k n):=by
 have ii:lj (iN n):=oJ (by omega);have tS:∀op a,Nm (un op a).name/\lj (un op a).v:=fun op a=>⟨yu,lA⟩;have cb:Nm qy.name/\lj qy.v:=⟨⟨pz.2 (by decide),by decide⟩,lA⟩;unfold whE;split;all_goals
  intro nd MV;simp only[List.mem_cons,List.not_mem_nil,or_false]at MV
 ·rcases MV with rfl|rfl|rfl
  ·exact Og
  ·exact qq ii
  ·exact Dz ..
 ·rcases MV with rfl|rfl|rfl
  ·exact Og
  ·exact qq ii
  ·exact Dz ..
 ·rcases MV with rfl|rfl
  ·exact cb
  ·exact tS ..
 ·rcases MV with rfl|rfl|rfl|rfl|rfl|rfl|rfl
  ·exact cb
  ·exact tS ..
  ·exact tS ..
  ·exact Og
  ·exact qq ii
  ·exact Dz ..
  ·exact Dz ..
 ·rcases MV with rfl|rfl|rfl
  ·exact cb
  ·exact qq lA
  ·exact Dz ..
theorem selSt_ok{k n:Nat}(hn:n<1000):eG (selSt k n):=
 ⟨fun n hn=>(by cases hn),wh_nds hn,fun e he=>(by cases he),fun i hi=>(by
  rcases List.mem_cons.1 hi with rfl|hi
  ·intro nd MV;rcases List.mem_cons.1 MV with rfl|MV
   ·exact Og
   ·cases MV
  ·cases hi),Nat.zero_le _,fun hk=>absurd hk (by show ¬(6:Int)=4;decide),yu,yu,by show 1<=2^20;decide,Nat.zero_le _⟩
theorem delSt_ok{k n:Nat}(hn:n<1000):eG (delSt k n):=
 ⟨fun n hn=>(by cases hn),wh_nds hn,fun e he=>(by cases he),fun i hi=>(by cases hi),Nat.zero_le _,fun hk=>absurd hk (by show ¬(5:Int)=4;decide),yu,yu,Nat.zero_le _,Nat.zero_le _⟩
theorem selSt_do{k:Nat}(hk:k<5)(n:Nat){R:Nat->List Row}{log:List iX}{d:DB}(q:AJ R log d):j8 d 0 (selSt k n):=j8.E1 rfl (Jn rfl (fun y hy=>by
 rw[Gx q rfl rfl,sel_fits hk n]at hy;cases hy;exact⟨fun h=>(by cases h),fun _=>plOk (by decide)⟩))
theorem delSt_do(k n:Nat)(d:DB):j8 d 0 (delSt k n):=j8.Yx rfl delOk
open Go.Sx Go.Proofs
def whL(n:Nat):List By:=[whT 0 n,whT 1 n,whT 2 n,whT 3 n,whT 4 n]
theorem whL_get{n k:Nat}{x:By}(h:(whL n)[k]? =some x):k<5/\x=whT k n:=by
 match k with
 |0=>cases h;exact⟨by decide,rfl⟩
 |1=>cases h;exact⟨by decide,rfl⟩
 |2=>cases h;exact⟨by decide,rfl⟩
 |3=>cases h;exact⟨by decide,rfl⟩
 |4=>cases h;exact⟨by decide,rfl⟩
 |k+5=>cases h
def shBl:Sh Bool where
 n:=1
 R _ cs v:=cs=[.bool v]
 len:=by rintro h cs x rfl;rfl
 one:=by rintro h cs x rfl;rfl
 tys:=[]
 mono:=fun _ q=>q
theorem bools_sl{e:Nat}{h:ad}{n:Nat}{l:List Bool}(hb:h n=some (.cells (List.toArray (l.map Value.bool)) e (0,0)))(hl:l.length<=2^40):Sl e shBl h (.slice (some ⟨n,0,none⟩) l.length l.length) l:=by refine Sl.fresh (s:=shBl) (h:=h) (n:=n) (xs:=l) (cap:=l.length) (c:=l.map Value.bool) hb ⟨by show 0+l.length*1<=_;simp,fun i x hx=>?_⟩ hl (Nat.le_refl _);show((l.map Value.bool).drop (0+i*1)).take 1=[.bool x];obtain⟨h1,h2⟩:=List.getElem?_eq_some_iff.1 hx;rw[Nat.zero_add,Nat.mul_one,List.drop_eq_getElem_cons (by simpa using h1)];simp[h2]
def whBs(n:Nat)(a:Int)(v:dg):List Bool:=[decide (a<n),decide (a=n),decide (v.k=0),decide (v.k≠0)&&decide (a>n),false]
theorem whBs_get{k:Nat}(hk:k<5)(n:Nat)(a:Int)(v:dg):(whBs n a v)[k]? =some (whB k n a v):=by
 match k,hk with
 |0,_=>rfl
 |1,_=>rfl
 |2,_=>rfl
 |3,_=>rfl
 |4,_=>rfl
theorem sl_take{α:Type}{A:Ar}[hA:aV A]{e:Nat}{s:Sh α}{h:ad}{b:Option Addr}{n c:Nat}{xs:List α}(q:Sl e s h (.slice b n c) xs){z:Int}{i:Nat}(hi:i<=n){m c':Nat}(hm:m=i)(hc:i<=c'):
 Sl e s h (.slice (A .cut b 0 z s.n) m c') (xs.take i):=by
 obtain⟨b',cap,h1,h2,h3,h4⟩:=q.out;cases h1;subst hm;have hl:(xs.take m).length=m:=by rw[List.length_take];omega
 refine⟨_,_,by rw[hl],by rw[hl];exact hc,by rw[hl];omega,?_⟩;rcases h4 with rfl| ⟨kY,off,cc,fr,rfl,g2,g3⟩
 ·simp
 ·right;refine⟨kY,off,cc,fr,?_,g2,g3.take _⟩;simp only[hA.cut];split
  ·rfl
  ·simp[bY]
theorem take_succ_filter{R0:List Row}{i:Nat}{r:Row}(h:R0[i]? =some r)(p:Row->Bool):(R0.take (i+1)).filter p=if p r=true then(R0.take i).filter p++[r]else(R0.take i).filter p:=by
 rw[List.take_add_one,h,List.filter_append,Option.toList_some,List.filter_cons];cases p r with
 |true=>simp
 |false=>simp
theorem wheresG{xs:List AG}{h:ad}{b:Option Addr}{n c:Nat}(q:xL lR h (.slice b n c) xs)(nv w:Int):Ct 9 [.slice b n c,.int .i64 nv,.int .i64 w] h (fun v h'=>Le h h'/\v=.bool true):=by
 obtain⟨A,hA⟩:=Ar.ex;have AS:A .not true=false:=by rw[hA.not];rfl
 refine ah A (ar T9.aA T9.bm) Tryz.func9 rfl (by kernel_rfl) ?_;cbv;refine(zV h).mono (fun v h1 hR=>?_);obtain⟨l1,hv⟩:=hR;subst hv;cbv;rw[AS];cbv;refine FX (q.mono l1) (fun h2 b1 n1 c1 b2 n2 c2 b3 n3 c3 b4 n4 c4 R log d l2 ME al=>?_);cbv;refine qM nv 30 (by decide) (by decide) h2 (fun zn nn Ff _ um=>?_);have hzne:zn=(nn:Int):=Ff.eq;cbv;refine wF nn zn hzne (by omega) h2 (fun h3 l3=>?_);obtain⟨nS,UX⟩:∃nS,ax (cj nn)=nS:=⟨_,rfl⟩;rw[UX];cbv;refine qM w 5 (by decide) (by decide) h3 (fun zk k hzk _ K2=>?_);have hns:nS.size<=3:=by rw[<-UX,dn];exact lF nn (by omega)
 have cs:∀a b:ByteArray,(A .cat a b).size=a.size+b.size:=fun a b=>Cv a b;have ap:∀x y:By,A .cat (ax x) (ax y)=ax (x++y):=fun x y=>by rw[hA.cat];exact kn x y
 obtain⟨k1,nO⟩:∃c,A .cat ⟨#[97,32,60,32]⟩ nS=c:=⟨_,rfl⟩;obtain⟨k2,nh⟩:∃c,A .cat ⟨#[97,32,61,32]⟩ nS=c:=⟨_,rfl⟩;obtain⟨k3,CQ⟩:∃c,A .cat ⟨#[110,111,116,32,98,32,105,115,32,110,117,108,108,32,97,110,100,32,97,32,62,32]⟩ nS=c:=⟨_,rfl⟩;have y1:((4+nS.size:Nat):Int)<=2^62:=by omega
 have y3:((22+nS.size:Nat):Int)<=2^62:=by omega
 obtain⟨WL,hWL⟩:∃WL:List ByteArray,WL=[k1,k2,⟨#[98,32,105,115,32,110,117,108,108]⟩,k3,⟨#[98,32,61,32,110,117,108,108]⟩]:=⟨_,rfl⟩;have hWe:WL=(whL nn).map ax:=by
  have e1:k1=ax (whT 0 nn):=by rw[<-nO,<-UX];exact ap [97,32,60,32] _
  have e2:k2=ax (whT 1 nn):=by rw[<-nh,<-UX];exact ap [97,32,61,32] _
  have e3:k3=ax (whT 3 nn):=by rw[<-CQ,<-UX];exact ap [110,111,116,32,98,32,105,115,32,110,117,108,108,32,97,110,100,32,97,32,62,32] _
  rw[hWL,e1,e2,e3];rfl
 have hWl:WL.length=5:=by rw[hWL];rfl
 obtain⟨wt,hwt⟩:=aI (xs:=WL) (i:=k) (by rw[hWl];exact K2);have hwe:wt=ax (whT k nn):=by
  rw[hWe,List.getElem?_map]at hwt;cases hh:(whL nn)[k]? with
  |none=>rw[hh]at hwt;cases hwt
  |some x=>rw[hh]at hwt;cases hwt;rw[(whL_get hh).2]
 have QX:wt.size<=40:=by rw[hwe,dn];exact whT_len (by omega)
 obtain⟨ts,hts⟩:∃c,A .cat ⟨#[115,101,108,101,99,116,32,97,32,102,114,111,109,32,116,97,32,119,104,101,114,101,32]⟩ wt=c:=⟨_,rfl⟩;obtain⟨xv,htd⟩:∃c,A .cat ⟨#[100,101,108,101,116,101,32,102,114,111,109,32,116,97,32,119,104,101,114,101,32]⟩ wt=c:=⟨_,rfl⟩;have y5:((23+wt.size:Nat):Int)<=2^62:=by omega
 have y6:((21+wt.size:Nat):Int)<=2^62:=by omega
 have tse:ts=ax (selPre++whT k nn):=by rw[<-hts,hwe];exact ap selPre _
 have tde:xv=ax (delPre++whT k nn):=by rw[<-htd,hwe];exact ap delPre _
 obtain⟨sst,snc⟩:=sel_stmt (k:=k) (n:=nn) K2 (by omega);obtain⟨dst,dnc⟩:=del_stmt (k:=k) (n:=nn) K2 (by omega);rw[<-tse]at sst snc;rw[<-tde]at dst dnc;have sok:=selSt_ok (k:=k) (n:=nn) (by omega);have dok:=delSt_ok (k:=k) (n:=nn) (by omega);have sdo:=selSt_do K2 nn al.aj;have ddo:=delSt_do k nn d;obtain⟨x6,ajS,hdS⟩:=sel_wh K2 nn al;obtain⟨R',DE,yb,ajD,hdD,hR'⟩:=del_wh K2 nn al;have ej:=al.ej;have Dc:=al.aj.aE;have tabD:=ajD.aE;have rp0:=al.rp 0 (by decide);have vQ:(R 0).length<=25:=by have:=al.ln;have:=al.le;omega
 have O7:0<=zk/\zk<((5:Nat):Int):=hzk.ix K2;have hzke:=hzk.eq;rw[hR']at tabD;generalize selSt k nn=yc at *;generalize delSt k nn=yv at *;generalize R 0=R0 at *;clear tse tde hwe hWe ap cs ajS ajD hR' al;cbv;refine⟨y1,?_⟩;cbv;rw[nO];refine⟨y1,?_⟩;cbv;rw[nh];refine⟨y3,?_⟩;cbv;rw[CQ];intro nb h4 f4 e4;have l4:Le h3 h4:=by rw[e4];exact Le.set f4
 have s4:Sl 9 cB h4 (.slice (some ⟨nb,0,none⟩) 5 5) WL:=by rw[hWL];exact qS (l:=[k1,k2,⟨#[98,32,105,115,32,110,117,108,108]⟩,k3,⟨#[98,32,61,32,110,117,108,108]⟩]) ((congrFun e4 nb).trans af) (by simp)
 clear e4 hWL;cbv;refine⟨⟨rfl,O7⟩,?_⟩;cbv;refine s4.load hwt hzke (fun cs aC=>?_);replace aC:cs=[.string wt]:=aC;subst aC;cbv;refine⟨y5,?_⟩;cbv;rw[hts];have tK:=l3.trans l4;refine doT (ME.mono tK) ej (by decide) snc sst sok sdo (fun h5 x1 m1 g1 x2 m2 g2 x3 m3 g3 x4 m4 g4 pb pn pc l5 Yl s5=>?_);rw[hdS]at s5 |-;clear Yl;replace s5:Sl 59 aL h5 (.slice pb pn pc) ((R0.filter (whR k nn)).map (·.take 1)):=s5;cbv;refine⟨y6,?_⟩;cbv;rw[htd];refine doT (ME.mono (tK.trans l5)) ej (by decide) dnc dst dok ddo (fun h6 z1 o1 j1 z2 o2 j2 z3 o3 j3 z4 o4 j4 _ _ _ l6 EW _=>?_);rw[hdD]at EW |-;replace EW:gj h6 (.agg #[.slice z1 o1 j1,.slice z2 o2 j2,.slice z3 o3 j3,.slice z4 o4 j4]) yb:=EW;have Jw:=((ME.mono (tK.trans l5)).mono l6).A7;have qtD:=EW.A7;replace s5:=s5.mono (l6.t [59,61]);have lt:=((l1.trans l2).trans ((tK.trans l5).trans l6));clear EW ME sdo ddo sst dst snc dnc sok dok hdS hdD ej s4;have ma:n1=3:=by rw[Jw.len,Dc];rfl
 have ZA:o1=3:=by rw[qtD.len,tabD];rfl
 subst ma ZA;have g0:d.aE[0]? =some ⟨aT 0,R0⟩:=by rw[Dc];rfl
 have y7:yb.aE[0]? =some ⟨aT 0,R0.filter (fun r=> !whR k nn r)⟩:=by rw[tabD];rfl
 have ck0:b1.isSome=true/\(0:Int)<=0/\(0:Int)<((3:Nat):Int):=⟨Jw.bu (by omega),by omega,by omega⟩;have ckD:z1.isSome=true/\(0:Int)<=0/\(0:Int)<((3:Nat):Int):=⟨qtD.bu (by omega),by omega,by omega⟩;clear Dc tabD;have HA:A .aG .eql 0 0=true:=by rw[aw A];rfl
 cbv;refine⟨ck0,?_⟩;cbv;refine Jw.eE g0 (n:=0) rfl (o:=4) (m:=1) (by decide) (fun cs aC=>?_);obtain⟨_,_,_,u4,u5,u6,rfl,-,sr⟩:=aC;replace sr:Sl 59 aL h6 (.slice u4 u5 u6) R0:=sr;have Ig:u5=R0.length:=sr.len;obtain⟨I,bl⟩:∃I:Nat->Int×(Option Addr×Nat×Nat)×(Option Addr×Nat×Nat)->ad->Prop,∀m g h',I m g h'=∃i X Y,aS g.1 i/\i<=R0.length/\m=R0.length-i/\Le h6 h'/\TwoB 59 aL h6 h' (.slice g.2.1.1 g.2.1.2.1 g.2.1.2.2) X (.slice g.2.2.1 g.2.2.2.1 g.2.2.2.2) Y/\X=((R0.take i).filter (whR k nn)).map (·.take 1)/\Y=(R0.take i).filter (fun r=> !whR k nn r):=⟨_,fun _ _ _=>rfl⟩;have hJ:I R0.length (0,(none,0,0),(none,0,0)) h6:=by rw[bl];exact⟨0,[],[],⟨rfl⟩,Nat.zero_le _,rfl,Le.refl _,⟨none,none,.inl ⟨rfl,rfl,rfl⟩,.inl ⟨rfl,rfl,rfl⟩,fun _ h _=>by cases h⟩,rfl,rfl⟩
 cbv;refine aX.go (G:=Int×(Option Addr×Nat×Nat)×(Option Addr×Nat×Nat)) (fun g=>[(20,.v (.int .i64 g.1)),(17,.v (.slice g.2.1.1 g.2.1.2.1 g.2.1.2.2)),(18,.v (.slice g.2.2.1 g.2.2.2.1 g.2.2.2.2))]) (fun _=>[(7,[.slice b1 3 c1,.slice b2 n2 c2,.slice b3 n3 c3,.slice b4 n4 c4]),(11,[.slice x1 m1 g1,.slice x2 m2 g2,.slice x3 m3 g3,.slice x4 m4 g4]),(14,[.slice z1 3 j1,.slice z2 o2 j2,.slice z3 o3 j3,.slice z4 o4 j4])]) (fun m g h'=>I m g h') R0.length (0,(none,0,0),(none,0,0)) ⟨?_,?_,?_⟩ hJ ?_
 ·cbv
 ·cbv
 ·cbv
 ·intro m g h7 hI;rw[bl]at hI;cbv;obtain⟨i,X,Y,hz,hi,hm,hl7,tw,hX,hY⟩:=hI;obtain⟨z,⟨wb,wn,wc⟩,⟨lb,ln,lc⟩⟩:=g;replace hz:aS z i:=hz;replace tw:TwoB 59 aL h6 h7 (.slice wb wn wc) X (.slice lb ln lc) Y:=tw;have f1:A .aG .lss z (A .nat u5)=decide (i<R0.length):=by rw[Ig];exact hz.gy (aS.nat R0.length)
  rw[f1];by_cases aK:i<R0.length
  ·obtain⟨r,hr⟩:=aI (xs:=R0) (i:=i) aK;have fA:=hz.eq;obtain⟨a,v,hre,-⟩:=rp0 r (List.mem_of_getElem? hr);have hzu:0<=z/\z<(u5:Int):=by omega
   have cU:u4.isSome=true/\0<=z/\z<(u5:Int):=⟨sr.bu (by omega),hzu⟩;have dD:=hz.succ (A:=A) (by omega);obtain⟨z2,fN⟩:∃z2,A .bA .add .i64 z 1=z2:=⟨_,rfl⟩;rw[fN]at dD;have hw:whR k nn r=whB k nn a v:=by rw[hre];rfl
   have hX1:=take_succ_filter hr (whR k nn);have hY1:=take_succ_filter hr (fun r=> !whR k nn r);have OR:wn<=25:=by obtain⟨o1,o2,ll,jS,-⟩:=tw.out;have h1:=ll.sl.len;have h2:=List.length_filter_le (whR k nn) (R0.take i);rw[hX,List.length_map]at h1;rw[List.length_take]at h2;omega
   have Ag:ln<=25:=by
    obtain⟨o1,o2,ll,jS,-⟩:=tw.out;have h1:=jS.sl.len;have h2:((R0.take i).filter (fun r=> !whR k nn r)).length<=(R0.take i).length:=List.length_filter_le _ _;replace h1:ln=((R0.take i).filter (fun r=> !whR k nn r)).length:=by rw[<-hY];exact h1
    rw[List.length_take]at h2;omega
   have di:∀wb' wn' wc' lb' ln' lc' h8 X' Y',Le h6 h8->TwoB 59 aL h6 h8 (.slice wb' wn' wc') X' (.slice lb' ln' lc') Y'->X'=((R0.take (i+1)).filter (whR k nn)).map (·.take 1)->Y'=(R0.take (i+1)).filter (fun r=> !whR k nn r)->I (R0.length-(i+1)) (z2,(wb',wn',wc'),(lb',ln',lc')) h8:=fun wb' wn' wc' lb' ln' lc' h8 X' Y' e1 e2 e3 e4=>by
    rw[bl];exact⟨i+1,X',Y',dD,aK,rfl,e1,e2,e3,e4⟩
   have hlm:R0.length-(i+1)<m:=by omega
   obtain⟨mm,D4⟩:∃mm,mm=R0.length-(i+1):=⟨_,rfl⟩;rw[<-D4]at di hlm;have sr7:=sr.mono (hl7.t [59,61]);have He:r[0]? =some (iN a):=by rw[hre];rfl
   have hr1:r[1]? =some v:=by rw[hre];rfl
   have Hd:r.length=2:=by rw[hre];rfl
   have hrt:r.take 1=[iN a]:=by rw[hre];rfl
   have c20:(0:Int)<=0/\(0:Int)<((2:Nat):Int):=by decide
   have c21:(0:Int)<=1/\(1:Int)<((2:Nat):Int):=by decide
   have EB:A .aG .eql v.k 0=decide (v.k=0):=aw A ..;have fl:A .aG .lss a zn=decide (a<nn):=by rw[bE A,Ff.eq]
   have fe:A .aG .eql a zn=decide (a=nn):=by rw[aw A,Ff.eq]
   have fg:A .aG .gtr a zn=decide (a>nn):=by rw[bJ A,Ff.eq]
   have fnn:A .not (decide (v.k=0))=decide (v.k≠0):=by rw[hA.not];simp
   obtain⟨P1,xh⟩:∃P1,P1=whBs nn a v:=⟨_,rfl⟩;have hbg:=whBs_get K2 nn a v;rw[<-hw,<-xh]at hbg;unfold whBs at xh;generalize whR k nn r=wr at *;obtain⟨p1,UP⟩:∃p,p=decide (a<nn):=⟨_,rfl⟩;obtain⟨p2,DW⟩:∃p,p=decide (a=nn):=⟨_,rfl⟩;obtain⟨p3,UO⟩:∃p,p=decide (v.k=0):=⟨_,rfl⟩;obtain⟨p4,Zx⟩:∃p,p=decide (v.k≠0):=⟨_,rfl⟩;obtain⟨p5,hp5⟩:∃p,p=decide (a>nn):=⟨_,rfl⟩;rw[<-UP]at fl xh;rw[<-DW]at fe xh;rw[<-UO]at EB fnn xh;rw[<-Zx]at fnn xh;rw[<-hp5]at fg xh;clear bl hJ f1 UP DW UO Zx hp5 hw;rw[decide_eq_true aK];cbv;refine⟨cU,?_⟩;cbv;refine iO sr7 hr fA (fun rb rn rc qr=>?_);have hrn:rn=2:=by rw[qr.len,Hd]
   subst hrn;have rsm:=qr.bu (by omega);cbv;refine⟨⟨rsm,c21⟩,?_⟩;cbv;refine qr.eE hr1 (n:=1) rfl (o:=0) (m:=1) (by decide) (fun cs aC=>?_);replace aC:cs=[.int .i64 v.k,.int .i64 v.n,.string v.s]:=aC;subst aC;cbv;rw[EB];cbv;refine⟨cU,?_⟩;cbv;refine iO sr7 hr fA (fun rb rn rc qr=>?_);have hrn:rn=2:=by rw[qr.len,Hd]
   subst hrn;have rsm:=qr.bu (by omega);cbv;refine⟨⟨rsm,c20⟩,?_⟩;cbv;refine qr.eE He (n:=0) rfl (o:=1) (m:=1) (by decide) (fun cs aC=>?_);replace aC:cs=[.int .i64 2,.int .i64 a,.string b0]:=aC;subst aC;cbv;rw[fl];cbv;refine⟨cU,?_⟩;cbv;refine iO sr7 hr fA (fun rb rn rc qr=>?_);have hrn:rn=2:=by rw[qr.len,Hd]
   subst hrn;have rsm:=qr.bu (by omega);cbv;refine⟨⟨rsm,c20⟩,?_⟩;cbv;refine qr.eE He (n:=0) rfl (o:=1) (m:=1) (by decide) (fun cs aC=>?_);replace aC:cs=[.int .i64 2,.int .i64 a,.string b0]:=aC;subst aC;cbv;rw[fe];cbv;rw[fnn];have key:∀h8 bb (e8:h8=bp h7 bb (.cells #[.bool p1,.bool p2,.bool p3,.bool (p4&&p5),.bool false] 4 (0,0))),h7 bb=none->True:=fun _ _ _ _=>trivial;cases p4 with
   |true=>
    cbv;refine⟨cU,?_⟩;cbv;refine iO sr7 hr fA (fun rb rn rc qr=>?_);have hrn:rn=2:=by rw[qr.len,Hd]
    subst hrn;have rsm:=qr.bu (by omega);cbv;refine⟨⟨rsm,c20⟩,?_⟩;cbv;refine qr.eE He (n:=0) rfl (o:=1) (m:=1) (by decide) (fun cs aC=>?_);replace aC:cs=[.int .i64 2,.int .i64 a,.string b0]:=aC;subst aC;cbv;rw[fg];intro bb h8 f8 e8;have l8:Le h7 h8:=by rw[e8];exact Le.set f8
    have sb:Sl 4 shBl h8 (.slice (some ⟨bb,0,none⟩) 5 5) P1:=by rw[xh];exact bools_sl (l:=[p1,p2,p3,p5,false]) ((congrFun e8 bb).trans af) (by simp)
    clear e8;have tw8:=tw.mono (l8.t _);have Xh:=hl7.trans l8;have sr8:=sr7.mono (l8.t [59,61]);cbv;refine⟨⟨rfl,O7⟩,?_⟩;cbv;refine sb.load hbg hzke (fun cs aC=>?_);replace aC:cs=[.bool wr]:=aC;subst aC;cbv;cases wr with
    |true=>
     cbv;refine⟨cU,?_⟩;cbv;refine iO sr8 hr fA (fun rb rn rc qr=>?_);have hrn:rn=2:=by rw[qr.len,Hd]
     subst hrn;have rbc:=qr.bound.2;have hrc:(0:Int)<=1/\(1:Int)<=(rc:Int):=by omega
     cbv;refine⟨hrc,?_⟩;cbv;intro t2 ha f2 e2;have lha:Le h8 ha:=by rw[e2];exact Le.set f2
     have qs:Sl 61 bq ha (.slice (A .cut rb 0 (A .nat rc) 3) (A .sC 1 0) rc) [iN a]:=by have h1:=sl_take (A:=A) (z:=A .nat rc) (i:=1) (qr.mono (lha.t _)) (by omega) (m:=A .sC 1 0) (c':=rc) (dM (A:=A) (z:=1) (i:=1) ⟨rfl⟩) (by omega);rw[hrt]at h1;exact h1
     have v2:Sl 59 aL ha (.slice (some ⟨t2,0,none⟩) 1 1) [[iN a]]:=bU (s:=aL) ((congrFun e2 t2).trans af) ⟨_,rfl,qs⟩;have twa:=tw8.mono (lha.t _);have l6a:=Xh.trans lha;clear e2 qs qr;cbv;refine twa.app1 v2 (by decide) rfl (by decide) (by omega) l6a (fun j' m' k' hb lB kp ltt tw'=>?_);have uL:=di (some ⟨j',0,none⟩) m' k' lb ln lc hb _ _ lB tw' (by rw[hX1,if_pos rfl,hX,List.map_append,List.map_singleton,hrt]) (by rw[hY1];exact hY);clear di tw' twa tw8 tw;cbv;rw[fN];refine⟨mm,(_,(_,_,_),(_,_,_)),hlm,⟨?_,?_,?_⟩,uL⟩
     ·cbv
     ·cbv
     ·cbv
    |false=>
     cbv;refine⟨cU,?_⟩;cbv;refine iO sr8 hr fA (fun rb rn rc qr=>?_);cbv;intro t2 ha f2 e2;have lha:Le h8 ha:=by rw[e2];exact Le.set f2
     have v2:Sl 59 aL ha (.slice (some ⟨t2,0,none⟩) 1 1) [r]:=bU (s:=aL) ((congrFun e2 t2).trans af) ⟨_,rfl,qr.mono (lha.t _)⟩;have twa:=(tw8.mono (lha.t _)).symm;have l6a:=Xh.trans lha;clear e2 qr;cbv;refine twa.app1 v2 (by decide) rfl (by decide) (by omega) l6a (fun j' m' k' hb lB kp ltt tw'=>?_);have uL:=di wb wn wc (some ⟨j',0,none⟩) m' k' hb _ _ lB tw'.symm (by rw[hX1];exact hX) (by rw[hY1,hY];rfl);clear di tw' twa tw8 tw;cbv;rw[fN];refine⟨mm,(_,(_,_,_),(_,_,_)),hlm,⟨?_,?_,?_⟩,uL⟩
     ·cbv
     ·cbv
     ·cbv
   |false=>
    cbv;intro bb h8 f8 e8;have l8:Le h7 h8:=by rw[e8];exact Le.set f8
    have sb:Sl 4 shBl h8 (.slice (some ⟨bb,0,none⟩) 5 5) P1:=by rw[xh];exact bools_sl (l:=[p1,p2,p3,false,false]) ((congrFun e8 bb).trans af) (by simp)
    clear e8;have tw8:=tw.mono (l8.t _);have Xh:=hl7.trans l8;have sr8:=sr7.mono (l8.t [59,61]);cbv;refine⟨⟨rfl,O7⟩,?_⟩;cbv;refine sb.load hbg hzke (fun cs aC=>?_);replace aC:cs=[.bool wr]:=aC;subst aC;cbv;cases wr with
    |true=>
     cbv;refine⟨cU,?_⟩;cbv;refine iO sr8 hr fA (fun rb rn rc qr=>?_);have hrn:rn=2:=by rw[qr.len,Hd]
     subst hrn;have rbc:=qr.bound.2;have hrc:(0:Int)<=1/\(1:Int)<=(rc:Int):=by omega
     cbv;refine⟨hrc,?_⟩;cbv;intro t2 ha f2 e2;have lha:Le h8 ha:=by rw[e2];exact Le.set f2
     have qs:Sl 61 bq ha (.slice (A .cut rb 0 (A .nat rc) 3) (A .sC 1 0) rc) [iN a]:=by have h1:=sl_take (A:=A) (z:=A .nat rc) (i:=1) (qr.mono (lha.t _)) (by omega) (m:=A .sC 1 0) (c':=rc) (dM (A:=A) (z:=1) (i:=1) ⟨rfl⟩) (by omega);rw[hrt]at h1;exact h1
     have v2:Sl 59 aL ha (.slice (some ⟨t2,0,none⟩) 1 1) [[iN a]]:=bU (s:=aL) ((congrFun e2 t2).trans af) ⟨_,rfl,qs⟩;have twa:=tw8.mono (lha.t _);have l6a:=Xh.trans lha;clear e2 qs qr;cbv;refine twa.app1 v2 (by decide) rfl (by decide) (by omega) l6a (fun j' m' k' hb lB kp ltt tw'=>?_);have uL:=di (some ⟨j',0,none⟩) m' k' lb ln lc hb _ _ lB tw' (by rw[hX1,if_pos rfl,hX,List.map_append,List.map_singleton,hrt]) (by rw[hY1];exact hY);clear di tw' twa tw8 tw;cbv;rw[fN];refine⟨mm,(_,(_,_,_),(_,_,_)),hlm,⟨?_,?_,?_⟩,uL⟩
     ·cbv
     ·cbv
     ·cbv
    |false=>
     cbv;refine⟨cU,?_⟩;cbv;refine iO sr8 hr fA (fun rb rn rc qr=>?_);cbv;intro t2 ha f2 e2;have lha:Le h8 ha:=by rw[e2];exact Le.set f2
     have v2:Sl 59 aL ha (.slice (some ⟨t2,0,none⟩) 1 1) [r]:=bU (s:=aL) ((congrFun e2 t2).trans af) ⟨_,rfl,qr.mono (lha.t _)⟩;have twa:=(tw8.mono (lha.t _)).symm;have l6a:=Xh.trans lha;clear e2 qr;cbv;refine twa.app1 v2 (by decide) rfl (by decide) (by omega) l6a (fun j' m' k' hb lB kp ltt tw'=>?_);have uL:=di wb wn wc (some ⟨j',0,none⟩) m' k' hb _ _ lB tw'.symm (by rw[hX1];exact hX) (by rw[hY1,hY];rfl);clear di tw' twa tw8 tw;cbv;rw[fN];refine⟨mm,(_,(_,_,_),(_,_,_)),hlm,⟨?_,?_,?_⟩,uL⟩
     ·cbv
     ·cbv
     ·cbv
  ·have jR:i=R0.length:=by omega
   subst jR;rw[List.take_length]at hX hY;obtain⟨o1,o2,ll,jS,-⟩:=tw.out;have P2:=ll.sl;have RW:=jS.sl;rw[hX]at P2;rw[hY]at RW;have s5':=s5.mono (hl7.t [59,61]);have qtD':=qtD.mono (hl7.t _);have ltt:=lt.trans hl7;generalize (R0.filter (whR k nn)).map (·.take 1)=R1 at *;generalize R0.filter (fun r=> !whR k nn r)=TB at *;clear bl hJ tw ll jS f1;rw[decide_eq_false aK];cbv;rw[HA];cbv;rw[HA];cbv;refine SH s5' P2 ?_;cbv;refine⟨ckD,?_⟩;cbv;refine qtD'.eE y7 (n:=0) rfl (o:=4) (m:=1) (by decide) (fun cs aC=>?_);obtain⟨_,_,_,v4,v5,v6,rfl,-,XL⟩:=aC;cbv;refine SH XL RW ?_;cbv;exact⟨ltt,trivial⟩
end Go.S
