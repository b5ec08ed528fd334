import Derived.Test.YtekoaiendgjkdaaGreatVA
import Derived.Test.YtekoaiendgjkdaaGreatSxB
import Derived.RecoverIn
import Derived.Test.YtekoaiendgjkdaaGreatNA
import Derived.Test.YtekoaiendgjkdaaGreatSA
set_option linter.unusedVariables false
set_option linter.unusedSimpArgs false
set_option linter.unusedSectionVars false
namespace Go.S
def rS:By->Option By
 | []=>none
 |c::r=>match decide (c.toNat=46)with
  |true=>some r
  |false=>rS r
def jF(s:ByteArray):Option ByteArray:=match rS s.data.toList with
 |some r=>some (ax r)
 |none=>none
def kJ(name iw:ByteArray):Bool:=decide (name=iw)||((jF name).isNone&&decide (jF iw=some name))
def iA(name:ByteArray):List bT->Int->Option Int->Int×Int
 | [],_,none=>(0,2)
 | [],_,some a=>(a,0)
 |c::r,i,at_=>match kJ name c.name with
  |false=>iA name r (i+1) at_
  |true=>match at_ with
   |some _=>(0,12)
   |none=>iA name r (i+1) (some i)
def dK(name:ByteArray)(a2:List bT):Int×Int:=iA name a2 0 none
def cu(op:Int):Int:=
 if op=1\/op=2 then 0 else if op=3\/op=4\/op=5 then 1 else if 6<=op/\op<=16 then 2 else -1
def Cb(k want:Int):Bool:=decide (k=0)||decide (k=want)
def ia(op a b:Int):Int:=if op=8\/op=9\/op=10\/op=11\/op=12\/op=13 then(if a=0 then b else a)else if op=4\/op=14\/op=15\/op=16 then 2 else 1
def Yt(op:Int):Int:=if op=4\/op=14\/op=15\/op=16 then 2 else 1
def tI(op a b:Int):Int×Int:=
 if op=5 then(1,0)else if(!Cb a (ia op a b)|| !Cb b (ia op a b))=true then(0,3)else(Yt op,0)
def Fb(l:List Int)(a:Int):Int:=(l[a.toNat]?).getD 0
def pM(n:Nd)(l:List Int)(a2:List bT):Int×Int:=
 if cu n.op<0\/(cu n.op>0/\(n.a<0\/n.a>=l.length))\/(cu n.op>1/\(n.b<0\/n.b>=l.length))then(0,1)
 else if n.op=1 then(n.v.k,cQ n.v)
 else if n.op=2 then
  match dK n.name a2 with
  | (c,e)=>if e≠0 then(0,e)else(match a2[c.toNat]? with
   |some c=>(c.kind,0)
   |none=>(0,0))
 else if cu n.op=1 then tI n.op (Fb l n.a) (Fb l n.a)else tI n.op (Fb l n.a) (Fb l n.b)
def eN(a2:List bT):List Nd->List Int->List Int×Int
 | [],l=>(l,0)
 |n::r,l=>match pM n l a2 with
  | (k,e)=>if e≠0 then(l,e)else eN a2 r (l++[k])
def tJ(l:List Int):Int:=(l.getLast?).getD 0
def fZ(e:List Nd)(a2:List bT):Int×Int:=
 if e.length<1\/e.length>60 then(0,1)else match eN a2 e []with
  | (l,f)=>if f≠0 then(0,f)else(tJ l,0)
def bH(b:Bool):dg:=match b with
 |true=>⟨1,1,b0⟩
 |false=>⟨1,0,b0⟩
def m6(x:Int):Bool:=decide (-9223372036854775808<=x)&&decide (x<=9223372036854775807)
def pB(x:Int):Option dg:=if m6 x=true then some ⟨2,x,b0⟩else none
def cO(op a b:Int):Option dg:=if op=4 then pB (-a)else if op=14 then pB (a+b)else if op=15 then pB (a-b)else pB (a*b)
def AT(a b:dg):Bool:=decide (a.k=b.k)&&decide (a.n=b.n)&&decide (a.s=b.s)
def mW(op:Int)(a b:dg):dg:=
 if AT a (bH (decide (op=6)))=true then a else if AT b (bH (decide (op=6)))=true then b
 else if a.k=0\/b.k=0 then v0 else bH (!decide (op=6))
def j9(op:Int)(a b:dg):Option dg:=
 if op=5 then some (bH (decide (a.k=0)))
 else if op=6\/op=7 then some (mW op a b)
 else if a.k=0\/b.k=0 then some v0
 else if op=3 then some (bH (decide (a.n=0)))
 else if op=8 then some (bH (decide (ch a b=0)))
 else if op=9 then some (bH (decide (ch a b≠0)))
 else if op=10 then some (bH (decide (ch a b<0)))
 else if op=11 then some (bH (decide (ch a b<=0)))
 else if op=12 then some (bH (decide (ch a b>0)))
 else if op=13 then some (bH (decide (ch a b>=0)))
 else cO op a.n b.n
def pQ(l:List dg)(a:Int):dg:=(l[a.toNat]?).getD v0
def oB(n:Nd)(l:List dg)(a2:List bT)(r:Row):Option dg:=
 if n.op=1 then some n.v
 else if n.op=2 then(match dK n.name a2 with
  | (c,_)=>some (pQ r c))
 else if cu n.op=1 then j9 n.op (pQ l n.a) (pQ l n.a)else j9 n.op (pQ l n.a) (pQ l n.b)
def gL(a2:List bT)(r:Row):List Nd->List dg->Option (List dg)
 | [],l=>some l
 |n::e,l=>match oB n l a2 r with
  |some v=>gL a2 r e (l++[v])
  |none=>none
def pL(l:List dg):dg:=(l.getLast?).getD v0
def eA(e:List Nd)(a2:List bT)(r:Row):dg×Int:=match fZ e a2 with
 | (_,f)=>if f≠0 then(v0,f)else match gL a2 r e []with
  |some l=>(pL l,0)
  |none=>(v0,11)
set_option maxRecDepth 100000
set_option maxHeartbeats 8000000
open Go.Sx Go.Proofs
def W5(s:ByteArray):Prop:=∀i,i<s.size->(s.data.getD i 0).toNat<128
structure Nm(s:ByteArray):Prop where
 XS:W5 s
 sz:s.size<=2^40
abbrev GJ:List PanicEntry:=[{ v:=.iface 35 (.int .i64 11),recovered:=false }]
abbrev R7(f:FuncId)(args:List Value)(h:ad)(R:Value->ad->Prop)(K:List PanicEntry->ad->Prop):Prop:=CK (fun _=>Tryz.prog) f args h R K
def zI(n:Nat):Bool:=[345,331,333,330,332,316,286,247].contains n
abbrev Nd.vv(n:Nd):Value:=.agg #[.int .i64 n.op,.int .i64 n.a,.int .i64 n.b,.int .i64 n.v.k,.int .i64 n.v.n,.string n.v.s,.string n.name]
section
variable {F:Fence}{n:Nat}{P:Program}{ops:Array Oper}{Q:Exit->Act->List Frame->World->Prop}{a:Act}{cs qR:List Frame}{w:World}{i:Nat}{rest:List Nat}{o:Oper}
end
def W0(a2:List bT)(n:Nd)(i:Nat):Prop:=cu n.op>=0/\(cu n.op>0->0<=n.a/\n.a<i)/\(cu n.op>1->0<=n.b/\n.b<i)/\(n.op=2->(dK n.name a2).2=0)
def lj(v:dg):Prop:=m6 v.n=true
def aJ(t:cE):List bT:=t.S.a2.map fun c=>⟨t.S.name++ax [46]++c.name,c.kind,c.null⟩
def fI(e:List Nd)(a2:List bT)(want:Int):Int:=match fZ e a2 with
 | (k,f)=>if f=0/\k≠0/\k≠want then 3 else f
def aF(e:List Nd)(a2:List bT):Int:=if e.length=0 then 0 else fI e a2 1
def dL(e:List Nd)(a2:List bT)(r:Row):Bool×Int:=if e.length=0 then(true,0)else match eA e a2 r with
 | (v,f)=>(decide (v.k=1)&&decide (v.n=1),f)
def cD{α:Type}(f:α->Int):List α->Int
 | []=>0
 |x::r=>if f x≠0 then f x else cD f r
def oa(a2:List bT)(r:Row):List (List Nd)->Row->Row×Int
 | [],l=>(l,0)
 |x::xs,l=>match eA x a2 r with
  | (v,f)=>if f≠0 then([],f)else oa a2 r xs (l++[v])
def bG(l:List (List Nd))(a2:List bT)(r:Row):Row×Int:=oa a2 r l []
def bO(d:DB)(nm:ByteArray):cE:=(d.aE.find? fun t=>decide (t.S.name=nm)).getD ⟨⟨b0,[],0,false⟩,[]⟩
def lJ(bM:List Nd)(a2:List bT)(f:Row->Row×Int):List Row->List Row×List Row->(List Row×List Row)×Int
 | [],p=>(p,0)
 |r::rs,p=>match dL bM a2 r with
  | (is,e)=>if e≠0 then(p,e)else if is=false then lJ bM a2 f rs p else match f r with
   | (n,e)=>if e≠0 then((p.1++[r],p.2++[n]),e)else lJ bM a2 f rs (p.1++[r],p.2++[n])
def wE{α:Type}(f:DB->α->DB×Int):List α->DB->DB×Int
 | [],d=>(d,0)
 |x::r,d=>match f d x with
  | (d',e)=>if e≠0 then(d',e)else wE f r d'
def SL(d:DB)(nm:ByteArray)(r:Row):dg:=pQ r (bO d nm).S.key
def sH(s:Int)(nm:ByteArray):List Row->DB->DB×Int:=wE fun d r=>X2 d s nm (SL d nm r)
def Jz(s:Int)(nm:ByteArray):List Row->DB->DB×Int:=wE fun d r=>fv d s nm r
def bK(ml:DB)(r:DB×Int):DB×List Row×Int:=if r.2≠0 then(ml,[],r.2)else(r.1,[],0)
def jB(d:DB)(s:Int)(x:az):DB×List Row×Int:=match ay d ⟨s,x.table,true⟩with
 | (d,e)=>if e≠0 then(d,[],e)else bK d (match bG x.exprs [] []with
  | (r,e)=>if e≠0 then(d,e)else fv d s x.table r)
def nJ(a2:List bT)(nm:ByteArray):Int×Bool:=match fK a2 nm 0 with
 |some k=>((k:Int),true)
 |none=>(0,false)
def gS(a2:List bT):List ByteArray->List Int->List Int×Int
 | [],l=>(l,0)
 |nm::r,l=>match nJ a2 nm with
  | (k,is)=>if is=false then(l,2)else if k∈l then(l,7)else gS a2 r (l++[k])
def px(a2:List bT)(k:Int):Int:=match a2[k.toNat]? with
 |some c=>c.kind
 |none=>0
def gZ(a2 tz:List bT):List (List Nd×Int)->Int
 | []=>0
 | (x,k)::r=>if fI x a2 (px tz k)≠0 then fI x a2 (px tz k)else gZ a2 tz r
def jL(t:cE)(x:az):Int:=match gS t.S.a2 x.names []with
 | (pl,e)=>if e≠0 then e else if gZ (aJ t) t.S.a2 (x.exprs.zip pl)≠0 then gZ (aJ t) t.S.a2 (x.exprs.zip pl)else aF x.bM (aJ t)
def QB(a2:List bT):List (dg×ByteArray)->Row->Row
 | [],r=>r
 | (v,nm)::l,r=>QB a2 l (r.set (nJ a2 nm).1.toNat v)
def Ef(t:cE)(x:az)(r:Row):Row×Int:=match bG x.exprs (aJ t) r with
 | (l,e)=>(QB t.S.a2 (l.zip x.names) r,e)
def fH(d:DB)(s:Int)(x:az):DB×List Row×Int:=match ay d ⟨s,x.table,true⟩with
 | (d,e)=>if e≠0 then(d,[],e)else if(bO d x.table).S.only=true then(d,[],19)else bK d (
  if jL (bO d x.table) x≠0 then(d,jL (bO d x.table) x)else match lJ x.bM (aJ (bO d x.table)) (Ef (bO d x.table) x) (bO d x.table).rows ([],[])with
   | (p,e)=>if e≠0 then(d,e)else match sH s x.table p.1 d with
    | (d,e)=>if e≠0 then(d,e)else Jz s x.table p.2 d)
def fL(d:DB)(s:Int)(x:az):DB×List Row×Int:=match ay d ⟨s,x.table,true⟩with
 | (d,e)=>if e≠0 then(d,[],e)else if(bO d x.table).S.only=true then(d,[],19)else bK d (
  if aF x.bM (aJ (bO d x.table))≠0 then(d,aF x.bM (aJ (bO d x.table)))else match lJ x.bM (aJ (bO d x.table)) (fun _=>([],0)) (bO d x.table).rows ([],[])with
   | (p,e)=>if e≠0 then(d,e)else sH s x.table p.1 d)
def bh(nm:ByteArray)(a2:List bT):Int×Int:=if nm=b0 then(-1,0)else dK nm a2
def gN(a2:List bT)(i:dG):Int:=if i.fn=1 then 0 else if i.fn=2 then fI i.e a2 2 else(fZ i.e a2).2
def bD(a2:List bT)(group:Int)(i:dG):Int:=if i.fn≠0 then 0 else if group<0 then 3 else match i.e with
 | [n]=>if n.op≠2 then 3 else match dK n.name a2 with
  | (k,e)=>if e≠0\/k≠group then 3 else 0
 |_=>3
structure Qy where
 group:Int
 order:Int
 jK:Bool
def dm(x:az)(a2:List bT):Qy×Int:=
 if aF x.on a2≠0 then(⟨-1,-1,false⟩,aF x.on a2)
 else if aF x.bM a2≠0 then(⟨-1,-1,false⟩,aF x.bM a2)
 else if cD (gN a2) x.items≠0 then(⟨-1,-1,false⟩,cD (gN a2) x.items)
 else match bh x.group a2 with
  | (g,e)=>if e≠0 then(⟨g,-1,false⟩,e)else match bh x.order a2 with
   | (o,e)=>if e≠0 then(⟨g,o,false⟩,e)else
    if(decide (x.group≠b0)||x.items.any fun i=>decide (i.fn≠0))=false then(⟨g,o,false⟩,0)
    else if x.items.length=0\/(o>=0/\o≠g)then(⟨g,o,true⟩,3)
    else(⟨g,o,true⟩,cD (bD a2 g) x.items)
def ef(x:az)(a2:List bT)(a:Row):List Row->List Row->List Row×Int
 | [],out=>(out,0)
 |b::bs,out=>match dL x.on a2 (a++b)with
  | (on,e)=>if e≠0 then(out,e)else if on=false then ef x a2 a bs out else match dL x.bM a2 (a++b)with
   | (is,e)=>if e≠0 then(out,e)else ef x a2 a bs (if is=true then out++[a++b]else out)
def cy(x:az)(a2:List bT)(bs:List Row):List Row->List Row->List Row×Int
 | [],out=>(out,0)
 |a::l,out=>match ef x a2 a bs out with
  | (out,e)=>if e≠0 then(out,e)else cy x a2 bs l out
def cH{α:Type}(l:List α)(n:Int):List α:=if n<0 then l else l.take n.toNat
def hE(desc:Bool)(a b:dg):Int:=if desc=true then ch b a else ch a b
def h9(k:Int)(desc:Bool)(a b:Row):Bool:=decide (hE desc (pQ a k) (pQ b k)<0)
def jm(x:az)(a2:List bT):List Row->List Row->List Row×Int
 | [],out=>(out,0)
 |r::rs,out=>if x.items.length=0 then jm x a2 rs (out++[r])else match bG (x.items.map (·.e)) a2 r with
  | (v,e)=>if e≠0 then([],e)else jm x a2 rs (out++[v])
def fC(x:az)(a2:List bT)(order:Int)(rows:List Row):List Row×Int:=jm x a2 (cH (if order>=0 then Je (h9 order x.desc) rows else rows) x.fw) []
def rL(k:Int):List Row->List (List Row)->List (List Row)
 | [],out=>out
 |r::rs,out=>match out.getLast? with
  |none=>rL k rs [[r]]
  |some g=>match g.getLast? with
   |none=>rL k rs (out++[[r]])
   |some p=>if AT (pQ p k) (pQ r k)=true then rL k rs (out.dropLast++[g++[r]])else rL k rs (out++[[r]])
def Fv(k:Int)(desc:Bool)(rows:List Row):List (List Row):=if k<0 then [rows]else rL k (Je (h9 k desc) rows) []
def Ow(fn:Int)(v x:dg):dg×Int:=
 if v.k=0 then(x,0)
 else if fn=2 then eA [lit v,lit x,bin 14 0 1] [] []
 else if(fn=3/\ch x v<0)\/(fn=4/\ch x v>0)then(x,0)else(v,0)
def WT(fn:Int)(e:List Nd)(a2:List bT):List Row->dg->dg×Int
 | [],v=>(v,0)
 |r::rs,v=>match eA e a2 r with
  | (x,f)=>if f≠0 then(v0,f)else if x.k=0 then WT fn e a2 rs v else match Ow fn v x with
   | (w,f)=>if f≠0 then(v0,f)else WT fn e a2 rs w
def Qi(a2:List bT)(group:Int)(i:dG)(g:List Row):dg×Int:=
 if i.fn=1 then(⟨2,g.length,b0⟩,0)else if i.fn=0 then(match g with
  |r::_=>(pQ r group,0)
  | []=>(v0,0))else WT i.fn i.e a2 g v0
def yX(a2:List bT)(group:Int)(g:List Row):List dG->Row->Row×Int
 | [],r=>(r,0)
 |i::is,r=>match Qi a2 group i g with
  | (v,e)=>if e≠0 then([],e)else yX a2 group g is (r++[v])
def np(x:az)(a2:List bT)(group:Int):List (List Row)->List Row->List Row×Int
 | [],out=>(out,0)
 |g::gs,out=>match yX a2 group g x.items []with
  | (r,e)=>if e≠0 then([],e)else np x a2 group gs (out++[r])
def eS(x:az)(a2:List bT)(group:Int)(rows:List Row):List Row×Int:=np x a2 group (cH (Fv group x.desc rows) x.fw) []
def iF(x:az)(a2:List bT)(a b:List Row):List Row×Int:=match dm x a2 with
 | (q,e)=>if e≠0 then([],e)else if a.length*b.length>4000 then([],4)else match cy x a2 b a []with
  | (rows,e)=>if e≠0 then([],e)else if q.jK=true then eS x a2 q.group rows else fC x a2 q.order rows
def dJ(d:DB)(s:Int)(x:az):DB×List Row×Int:=
 if x.join=x.table then(d,[],7)else match ay d ⟨s,x.table,false⟩with
 | (d,e)=>if e≠0 then(d,[],e)else if x.join=b0 then(match iF x (aJ (bO d x.table)) (bO d x.table).rows [[]]with
  | (l,e)=>(d,l,e))
  else match ay d ⟨s,x.join,false⟩with
   | (d,e)=>if e≠0 then(d,[],e)else match iF x (aJ (bO d x.table)++aJ (bO d x.join)) (bO d x.table).rows (bO d x.join).rows with
    | (l,e)=>(d,l,e)
def jD(d:DB)(s:Int)(x:az):DB×List Row×Int:=
 if x.kind=7 then((ey d s).1,[],(ey d s).2)
 else if x.kind=9 then((ir d s).1,[],(ir d s).2)
 else if x.kind=10 then((tC d s x.name).1,[],(tC d s x.name).2)
 else if x.kind=11 then((tZ d s x.name).1,[],(tZ d s x.name).2)
 else if x.kind=3 then jB d s x else if x.kind=4 then fH d s x else if x.kind=5 then fL d s x else if x.kind=6 then dJ d s x
 else(d,[],1)
end Go.S
