import Derived.Test.YtekoaiendgjkdaaGreatDA
set_option linter.unusedVariables false
set_option linter.unusedSimpArgs false
set_option linter.unusedSectionVars false
namespace Go.S
structure Wd where
 k:Int
 n:Int
 s:ByteArray
structure Nd where
 op:Int
 a:Int
 b:Int
 v:cR
 name:ByteArray
abbrev By:=List UInt8
def au(l:By):ByteArray:=⟨l.toArray⟩
def isLet(c:UInt8):Bool:=decide (97<=c.toNat)&&decide (c.toNat<=122)
def cH(c:UInt8):Bool:=decide (48<=c.toNat)&&decide (c.toNat<=57)
def m0(c:UInt8):Bool:=isLet c||cH c||decide (c.toNat=95)
def cf:By->Nat
 | []=>0
 |c::r=>match m0 c with
  |true=>cf r+1
  |false=>0
def jq:By->Int->(Int×By)×Int
 | [],n=>((n,[]),0)
 |c::r,n=>match cH c with
  |true=>if n>(9223372036854775807-((c.toNat:Int)-48)) / 10 then((0,[]),11)else jq r (10*n+((c.toNat:Int)-48))
  |false=>((n,c::r),0)
def dL:By->By->(By×By)×Int
 | [],_=>(([],[]),6)
 |c::r,acc=>match decide (c.toNat=39)with
  |false=>dL r (acc++[c])
  |true=>match r with
   | []=>if acc.length>60 then(([],[]),5)else((acc,[]),0)
   |d::r'=>match decide (d.toNat=39)with
    |true=>dL r' (acc++[39])
    |false=>if acc.length>60 then(([],[]),5)else((acc,d::r'),0)
def gP:List Nat:=[40,41,44,46,42,61,60,62,43,45]
def vd(c d:UInt8):Bool:=(decide (c.toNat=60)&&decide (d.toNat=62))||(decide (c.toNat=60)&&decide (d.toNat=61))||(decide (c.toNat=62)&&decide (d.toNat=61))
def fL:By->Nat
 | []=>0
 |c::r=>match r with
  | []=>if gP.contains c.toNat then 1 else 0
  |d::_=>if vd c d then 2 else if gP.contains c.toNat then 1 else 0
def sL(l:By):Wd:=⟨4,0,au l⟩
def jy(c:UInt8)(r:By):(Wd×By)×Int:=
 match isLet c with
 |true=>((⟨1,0,au ((c::r).take (cf (c::r)))⟩,(c::r).drop (cf (c::r))),0)
 |false=>match cH c with
  |true=>match jq (c::r) 0 with
   | (p,e)=>((⟨2,p.1,au []⟩,p.2),e)
  |false=>match decide (c.toNat=39)with
   |true=>match dL r []with
    | (p,e)=>((⟨3,0,au p.1⟩,p.2),e)
   |false=>match fL (c::r)with
    |0=>((⟨0,0,au []⟩,[]),6)
    |n+1=>((sL ((c::r).take (n+1)),(c::r).drop (n+1)),0)
def qX(c:UInt8):Bool:=decide (c.toNat=32)||decide (c.toNat=9)||decide (c.toNat=10)
def oT:Nat->By->List Wd->List Wd×Int
 |0,_,l=>(l,0)
 |k+1,t,l=>match t with
  | []=>(l++[⟨0,0,au []⟩],0)
  |c::r=>match qX c with
   |true=>oT k r l
   |false=>match jy c r with
    | (p,e)=>if e=0 then oT k p.2 (l++[p.1])else([],e)
def iS(s:ByteArray):List Wd×Int:=if s.size>600 then([],5)else oT (s.size+1) s.data.toList []
structure PS where
 ws:List Wd
 err:Int
 e:List Nd
def PS.fail(p:PS)(e:Int):PS:=if p.err=0 then{ p with err:=e }else p
def PS.is(p:PS)(s:ByteArray):Bool×PS:=match p.ws with
 | []=>(false,p)
 |w::r=>if p.err=0/\(w.k=1\/w.k=4)/\w.s=s then(true,{ p with ws:=r })else(false,p)
def PS.bP(p:PS):List ByteArray->PS
 | []=>p
 |s::r=>match p.is s with
  | (true,p)=>p.bP r
  | (false,p)=>(p.fail 6).bP r
abbrev b0:ByteArray:=au []
def v0:cR:=⟨0,0,b0⟩
def PS.node(p:PS)(n:Nd):Int×PS:=
 if p.err≠0 then(0,p)else if p.e.length>=60 then(0,p.fail 4)else((p.e.length:Int),{ p with e:=p.e++[n] })
def PS.name(ok:ByteArray->Bool)(p:PS):ByteArray×PS:=match p.ws with
 | []=>(b0,p)
 |w::r=>if p.err=0/\w.k=1/\ok w.s=true then(w.s,{ p with ws:=r })else(b0,p.fail 6)
def PS.column(ok:ByteArray->Bool)(p:PS):ByteArray×PS:=
 let r:=p.name ok
 match r.2.is ((au [46]))with
 | (true,q)=>let t:=q.name ok;(r.1++(au [46])++t.1,t.2)
 | (false,q)=>(r.1,q)
def ju:List (ByteArray×Int):=[((au [61]),8),((au [60,62]),9),((au [60]),10),((au [60,61]),11),((au [62]),12),((au [62,61]),13)]
def PS.cM(p:PS):List (ByteArray×Int)->Option Int×PS
 | []=>(none,p)
 | (s,op)::r=>match p.is s with
  | (true,q)=>(some op,q)
  | (false,q)=>q.cM r
def un(op a:Int):Nd:=⟨op,a,0,v0,b0⟩
def bin(op a b:Int):Nd:=⟨op,a,b,v0,b0⟩
def lit(v:cR):Nd:=⟨1,0,0,v,b0⟩
def ek(s:ByteArray):Nd:=⟨2,0,0,v0,s⟩
def dM(sub:PS->Int×PS)(ops:List (ByteArray×Int)):Nat->Int->PS->Int×PS
 |0,a,p=>(a,p)
 |n+1,a,p=>match p.cM ops with
  | (some op,p)=>let b:=sub p;let r:=b.2.node (bin op a b.1);dM sub ops n r.1 r.2
  | (none,p)=>(a,p)
mutual
def Gj(ok:ByteArray->Bool):Nat->PS->Int×PS
 |0,p=>(0,p)
 |n+1,p=>let a:=ye ok n p;dM (ye ok n) [((au [111,114]),6)] a.2.ws.length a.1 a.2
def ye(ok:ByteArray->Bool):Nat->PS->Int×PS
 |0,p=>(0,p)
 |n+1,p=>let a:=oQ ok n p;dM (oQ ok n) [((au [97,110,100]),7)] a.2.ws.length a.1 a.2
def oQ(ok:ByteArray->Bool):Nat->PS->Int×PS
 |0,p=>(0,p)
 |n+1,p=>match p.is ((au [110,111,116]))with
  | (true,p)=>let a:=oQ ok n p;a.2.node (un 3 a.1)
  | (false,p)=>sg ok n p
def sg(ok:ByteArray->Bool):Nat->PS->Int×PS
 |0,p=>(0,p)
 |n+1,p=>let a:=xd ok n p
  match a.2.is ((au [105,115]))with
  | (true,q)=>let q:=q.bP [(au [110,117,108,108])];q.node (un 5 a.1)
  | (false,q)=>match q.cM ju with
   | (some op,q)=>let b:=xd ok n q;b.2.node (bin op a.1 b.1)
   | (none,q)=>(a.1,q)
def xd(ok:ByteArray->Bool):Nat->PS->Int×PS
 |0,p=>(0,p)
 |n+1,p=>let a:=xA ok n p;dM (xA ok n) [((au [43]),14),((au [45]),15)] a.2.ws.length a.1 a.2
def xA(ok:ByteArray->Bool):Nat->PS->Int×PS
 |0,p=>(0,p)
 |n+1,p=>let a:=oR ok n p;dM (oR ok n) [((au [42]),16)] a.2.ws.length a.1 a.2
def oR(ok:ByteArray->Bool):Nat->PS->Int×PS
 |0,p=>(0,p)
 |n+1,p=>match p.is ((au [45]))with
  | (true,p)=>let a:=oR ok n p;a.2.node (un 4 a.1)
  | (false,p)=>qT ok n p
def qT(ok:ByteArray->Bool):Nat->PS->Int×PS
 |0,p=>(0,p)
 |n+1,p=>match p.ws with
  | []=>(0,p)
  |w::r=>if p.err≠0 then(0,p)
   else if w.k=2 then({ p with ws:=r }:PS).node (lit ⟨2,w.n,b0⟩)
   else if w.k=3 then({ p with ws:=r }:PS).node (lit ⟨3,0,w.s⟩)
   else match p.is ((au [116,114,117,101]))with
    | (true,q)=>q.node (lit ⟨1,1,b0⟩)
    | (false,q)=>match q.is ((au [102,97,108,115,101]))with
     | (true,q)=>q.node (lit ⟨1,0,b0⟩)
     | (false,q)=>match q.is ((au [110,117,108,108]))with
      | (true,q)=>q.node (lit v0)
      | (false,q)=>match q.is ((au [40]))with
       | (true,q)=>let a:=Gj ok n q;(a.1,a.2.bP [(au [41])])
       | (false,q)=>let s:=q.column ok;s.2.node (ek s.1)
end
def PS.expr(ok:ByteArray->Bool)(p:PS):List Nd×PS:=
 let r:=Gj ok (9*p.ws.length+9) { p with e:=[] }
 (r.2.e,r.2)
structure dq where
 fn:Int
 e:List Nd
structure aA where
 kind:Int:=0
 lM:Ao:=⟨b0,[],0,false⟩
 table:ByteArray:=b0
 join:ByteArray:=b0
 on:List Nd:=[]
 names:List ByteArray:=[]
 exprs:List (List Nd):=[]
 items:List dq:=[]
 bT:List Nd:=[]
 group:ByteArray:=b0
 order:ByteArray:=b0
 desc:Bool:=false
 gX:Int:=0
 name:ByteArray:=b0
def PS.more(p:PS)(n:Nat):Bool×PS:=match p.is ((au [44]))with
 | (false,p)=>(false,p)
 | (true,p)=>if n>=6 then(false,p.fail 4)else(true,p)
def PS.kind(p:PS):Int×PS:=match p.cM [((au [98,111,111,108]),1),((au [105,110,116]),2),((au [116,101,120,116]),3)]with
 | (some k,p)=>(k,p)
 | (none,p)=>(0,p.fail 6)
def NS(ok:ByteArray->Bool):Nat->List bS->PS->List bS×PS
 |0,l,p=>(l,p)
 |k+1,l,p=>if p.err≠0 then(l,p)else
  let n:=p.name ok;let kd:=n.2.kind;let nu:=kd.2.is ((au [110,117,108,108]));let l:=l++[⟨n.1,kd.1,nu.1⟩];let p:=nu.2.bP [(au [44])]
  match p.is ((au [112,114,105,109,97,114,121]))with
  | (true,p)=>(l,p)
  | (false,p)=>NS ok k l (if l.length>=6 then p.fail 4 else p)
def PS.create(ok:ByteArray->Bool)(p:PS):(aA×ByteArray)×PS:=
 let o:=p.is ((au [111,110,108,121]));let p:=o.2.bP [(au [116,97,98,108,101])];let n:=p.name ok;let p:=n.2.bP [(au [40])];let c:=NS ok (p.ws.length+1) [] p;let p:=c.2.bP [(au [107,101,121]),(au [40])];let k:=p.name ok;let p:=k.2.bP [(au [41]),(au [41])]
 (({ kind:=1,lM:=⟨n.1,c.1,0,o.1⟩ },k.1),p)
def PS.bT(ok:ByteArray->Bool)(p:PS):List Nd×PS:=match p.is ((au [119,104,101,114,101]))with
 | (true,p)=>p.expr ok
 | (false,p)=>([],p)
def kV(ok:ByteArray->Bool):Nat->List (List Nd)->PS->List (List Nd)×PS
 |0,l,p=>(l,p)
 |k+1,l,p=>match p.more l.length with
  | (true,p)=>let e:=p.expr ok;kV ok k (l++[e.1]) e.2
  | (false,p)=>(l,p)
def PS.insert(ok:ByteArray->Bool)(p:PS):aA×PS:=
 let p:=p.bP [(au [105,110,116,111])];let n:=p.name ok;let p:=n.2.bP [(au [118,97,108,117,101,115]),(au [40])];let e:=p.expr ok;let r:=kV ok (e.2.ws.length+1) [e.1] e.2
 ({ kind:=3,table:=n.1,exprs:=r.1 },r.2.bP [(au [41])])
def mi(ok:ByteArray->Bool):Nat->List ByteArray->List (List Nd)->PS->(List ByteArray×List (List Nd))×PS
 |0,a,b,p=>((a,b),p)
 |k+1,a,b,p=>
  let n:=p.name ok;let p:=n.2.bP [(au [61])];let e:=p.expr ok;let a:=a++[n.1];let b:=b++[e.1]
  match e.2.more a.length with
  | (true,p)=>mi ok k a b p
  | (false,p)=>((a,b),p)
def PS.update(ok:ByteArray->Bool)(p:PS):aA×PS:=
 let n:=p.name ok;let p:=n.2.bP [(au [115,101,116])];let r:=mi ok (p.ws.length+1) [] [] p;let w:=r.2.bT ok
 ({ kind:=4,table:=n.1,names:=r.1.1,exprs:=r.1.2,bT:=w.1 },w.2)
def PS.item(ok:ByteArray->Bool)(p:PS):dq×PS:=match p.is ((au [99,111,117,110,116]))with
 | (true,p)=>(⟨1,[]⟩,p.bP [(au [40]),(au [42]),(au [41])])
 | (false,p)=>match p.cM [((au [115,117,109]),2),((au [109,105,110]),3),((au [109,97,120]),4)]with
  | (none,p)=>let e:=p.expr ok;(⟨0,e.1⟩,e.2)
  | (some fn,p)=>
   let p:=p.bP [(au [40])];let c:=({ p with e:=[] }:PS).column ok;let q:=(c.2.node (ek c.1)).2
   (⟨fn,q.e⟩,q.bP [(au [41])])
def fZ(ok:ByteArray->Bool):Nat->List dq->PS->List dq×PS
 |0,l,p=>(l,p)
 |k+1,l,p=>
  let i:=p.item ok;let l:=l++[i.1]
  match i.2.more l.length with
  | (true,p)=>fZ ok k l p
  | (false,p)=>(l,p)
def PS.choose(ok:ByteArray->Bool)(p:PS):aA×PS:=
 let st:=p.is ((au [42]));let it:=if st.1 then([],st.2)else fZ ok (st.2.ws.length+1) [] st.2
 let p:=it.2.bP [(au [102,114,111,109])];let t:=p.name ok;let j:=t.2.is ((au [106,111,105,110]));let jn:=if j.1 then(let a:=j.2.name ok;let p:=a.2.bP [(au [111,110])];let e:=p.expr ok;((a.1,e.1),e.2))else((b0,[]),j.2)
 let w:=jn.2.bT ok;let g:=w.2.is ((au [103,114,111,117,112]));let gr:=if g.1 then(g.2.bP [(au [98,121])]).column ok else(b0,g.2)
 let o:=gr.2.is ((au [111,114,100,101,114]));let od:=if o.1 then(let c:=(o.2.bP [(au [98,121])]).column ok;let d:=c.2.is ((au [100,101,115,99]));((c.1,d.1),d.2))else((b0,false),o.2)
 let li:=od.2.is ((au [108,105,109,105,116]));let lm:=if li.1 then(match li.2.ws with
  |w::r=>if w.k=2 then(w.n,({ li.2 with ws:=r }:PS))else((-1:Int),li.2.fail 6)
  | []=>(-1,li.2))else(-1,li.2)
 ({ kind:=6,table:=t.1,join:=jn.1.1,on:=jn.1.2,items:=it.1,bT:=w.1,group:=gr.1,order:=od.1.1,desc:=od.1.2,gX:=lm.1 },lm.2)
def PS.stmt(ok:ByteArray->Bool)(p:PS):(aA×ByteArray)×PS:=
 match p.cM [((au [99,114,101,97,116,101]),1),((au [100,114,111,112]),2),((au [105,110,115,101,114,116]),3),((au [117,112,100,97,116,101]),4),((au [100,101,108,101,116,101]),5),((au [115,101,108,101,99,116]),6),((au [98,101,103,105,110]),7),((au [99,111,109,109,105,116]),8),((au [115,97,118,101,112,111,105,110,116]),10),((au [114,111,108,108,98,97,99,107]),9)]with
 | (none,p)=>(({},b0),p.fail 6)
 | (some k,p)=>
  if k=1 then p.create ok
  else if k=2 then let n:=(p.bP [(au [116,97,98,108,101])]).name ok;(({ kind:=2,table:=n.1 },b0),n.2)
  else if k=3 then let r:=p.insert ok;((r.1,b0),r.2)
  else if k=4 then let r:=p.update ok;((r.1,b0),r.2)
  else if k=5 then let n:=(p.bP [(au [102,114,111,109])]).name ok;let w:=n.2.bT ok;(({ kind:=5,table:=n.1,bT:=w.1 },b0),w.2)
  else if k=6 then let r:=p.choose ok;((r.1,b0),r.2)
  else if k=10 then let n:=p.name ok;(({ kind:=10,name:=n.1 },b0),n.2)
  else if k=9 then match p.is ((au [116,111]))with
   | (true,p)=>let n:=p.name ok;(({ kind:=11,name:=n.1 },b0),n.2)
   | (false,p)=>(({ kind:=9 },b0),p)
  else(({ kind:=k },b0),p)
def sH(cols:List bS)(name:ByteArray):Nat->Option Nat
 |k=>match cols with
  | []=>none
  |c::r=>if c.name=name then some k else sH r name (k+1)
def ki(ok:ByteArray->Bool)(text:ByteArray):aA×Int:=
 let w:=iS text
 if w.2≠0 then({},w.2)else
  let r:=PS.stmt ok ⟨w.1,0,[]⟩;let p:PS:=r.2;let p:PS:=match p.ws with
   |w::_=>if p.err=0/\w.k≠0 then p.fail 6 else p
   | []=>p
  if p.err=0/\r.1.1.kind=1 then
   match sH r.1.1.lM.cols r.1.2 0 with
   |some k=>({ r.1.1 with lM:={ r.1.1.lM with key:=(k:Int) } },(0:Int))
   |none=>({},(2:Int))
  else if p.err≠0 then({},p.err)else(r.1.1,0)
end Go.S
