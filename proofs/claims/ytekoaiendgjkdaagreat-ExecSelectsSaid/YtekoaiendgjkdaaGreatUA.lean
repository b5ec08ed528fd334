import Derived.Test.YtekoaiendgjkdaaGreatDA
set_option linter.unusedVariables false
set_option linter.unusedSimpArgs false
set_option linter.unusedSectionVars false
namespace Go.S
structure Wd where
 k:Int
 n:Int
 s:ByteArray
structure Nd where
 op:Int
 a:Int
 b:Int
 v:dg
 name:ByteArray
abbrev By:=List UInt8
def ax(l:By):ByteArray:=⟨l.toArray⟩
def isLet(c:UInt8):Bool:=decide (97<=c.toNat)&&decide (c.toNat<=122)
def cT(c:UInt8):Bool:=decide (48<=c.toNat)&&decide (c.toNat<=57)
def oG(c:UInt8):Bool:=isLet c||cT c||decide (c.toNat=95)
def cG:By->Nat
 | []=>0
 |c::r=>match oG c with
  |true=>cG r+1
  |false=>0
def jW:By->Int->(Int×By)×Int
 | [],n=>((n,[]),0)
 |c::r,n=>match cT c with
  |true=>if n>(9223372036854775807-((c.toNat:Int)-48)) / 10 then((0,[]),11)else jW r (10*n+((c.toNat:Int)-48))
  |false=>((n,c::r),0)
def eC:By->By->(By×By)×Int
 | [],_=>(([],[]),6)
 |c::r,acc=>match decide (c.toNat=39)with
  |false=>eC r (acc++[c])
  |true=>match r with
   | []=>if acc.length>60 then(([],[]),5)else((acc,[]),0)
   |d::r'=>match decide (d.toNat=39)with
    |true=>eC r' (acc++[39])
    |false=>if acc.length>60 then(([],[]),5)else((acc,d::r'),0)
def iH:List Nat:=[40,41,44,46,42,61,60,62,43,45]
def xj(c d:UInt8):Bool:=(decide (c.toNat=60)&&decide (d.toNat=62))||(decide (c.toNat=60)&&decide (d.toNat=61))||(decide (c.toNat=62)&&decide (d.toNat=61))
def gR:By->Nat
 | []=>0
 |c::r=>match r with
  | []=>if iH.contains c.toNat then 1 else 0
  |d::_=>if xj c d then 2 else if iH.contains c.toNat then 1 else 0
def uQ(l:By):Wd:=⟨4,0,ax l⟩
def ke(c:UInt8)(r:By):(Wd×By)×Int:=
 match isLet c with
 |true=>((⟨1,0,ax ((c::r).take (cG (c::r)))⟩,(c::r).drop (cG (c::r))),0)
 |false=>match cT c with
  |true=>match jW (c::r) 0 with
   | (p,e)=>((⟨2,p.1,ax []⟩,p.2),e)
  |false=>match decide (c.toNat=39)with
   |true=>match eC r []with
    | (p,e)=>((⟨3,0,ax p.1⟩,p.2),e)
   |false=>match gR (c::r)with
    |0=>((⟨0,0,ax []⟩,[]),6)
    |n+1=>((uQ ((c::r).take (n+1)),(c::r).drop (n+1)),0)
def sS(c:UInt8):Bool:=decide (c.toNat=32)||decide (c.toNat=9)||decide (c.toNat=10)
def qz:Nat->By->List Wd->List Wd×Int
 |0,_,l=>(l,0)
 |k+1,t,l=>match t with
  | []=>(l++[⟨0,0,ax []⟩],0)
  |c::r=>match sS c with
   |true=>qz k r l
   |false=>match ke c r with
    | (p,e)=>if e=0 then qz k p.2 (l++[p.1])else([],e)
def iE(s:ByteArray):List Wd×Int:=if s.size>600 then([],5)else qz (s.size+1) s.data.toList []
structure PS where
 ws:List Wd
 err:Int
 e:List Nd
def PS.fail(p:PS)(e:Int):PS:=if p.err=0 then{ p with err:=e }else p
def PS.is(p:PS)(s:ByteArray):Bool×PS:=match p.ws with
 | []=>(false,p)
 |w::r=>if p.err=0/\(w.k=1\/w.k=4)/\w.s=s then(true,{ p with ws:=r })else(false,p)
def PS.cg(p:PS):List ByteArray->PS
 | []=>p
 |s::r=>match p.is s with
  | (true,p)=>p.cg r
  | (false,p)=>(p.fail 6).cg r
abbrev b0:ByteArray:=ax []
def v0:dg:=⟨0,0,b0⟩
def PS.node(p:PS)(n:Nd):Int×PS:=
 if p.err≠0 then(0,p)else if p.e.length>=60 then(0,p.fail 4)else((p.e.length:Int),{ p with e:=p.e++[n] })
def PS.name(ok:ByteArray->Bool)(p:PS):ByteArray×PS:=match p.ws with
 | []=>(b0,p)
 |w::r=>if p.err=0/\w.k=1/\ok w.s=true then(w.s,{ p with ws:=r })else(b0,p.fail 6)
def PS.column(ok:ByteArray->Bool)(p:PS):ByteArray×PS:=
 let r:=p.name ok
 match r.2.is ((ax [46]))with
 | (true,q)=>let t:=q.name ok;(r.1++(ax [46])++t.1,t.2)
 | (false,q)=>(r.1,q)
def j6:List (ByteArray×Int):=[((ax [61]),8),((ax [60,62]),9),((ax [60]),10),((ax [60,61]),11),((ax [62]),12),((ax [62,61]),13)]
def PS.da(p:PS):List (ByteArray×Int)->Option Int×PS
 | []=>(none,p)
 | (s,op)::r=>match p.is s with
  | (true,q)=>(some op,q)
  | (false,q)=>q.da r
def un(op a:Int):Nd:=⟨op,a,0,v0,b0⟩
def bin(op a b:Int):Nd:=⟨op,a,b,v0,b0⟩
def lit(v:dg):Nd:=⟨1,0,0,v,b0⟩
def eJ(s:ByteArray):Nd:=⟨2,0,0,v0,s⟩
def eD(sub:PS->Int×PS)(ops:List (ByteArray×Int)):Nat->Int->PS->Int×PS
 |0,a,p=>(a,p)
 |n+1,a,p=>match p.da ops with
  | (some op,p)=>let b:=sub p;let r:=b.2.node (bin op a b.1);eD sub ops n r.1 r.2
  | (none,p)=>(a,p)
mutual
def JJ(ok:ByteArray->Bool):Nat->PS->Int×PS
 |0,p=>(0,p)
 |n+1,p=>let a:=AB ok n p;eD (AB ok n) [((ax [111,114]),6)] a.2.ws.length a.1 a.2
def AB(ok:ByteArray->Bool):Nat->PS->Int×PS
 |0,p=>(0,p)
 |n+1,p=>let a:=qj ok n p;eD (qj ok n) [((ax [97,110,100]),7)] a.2.ws.length a.1 a.2
def qj(ok:ByteArray->Bool):Nat->PS->Int×PS
 |0,p=>(0,p)
 |n+1,p=>match p.is ((ax [110,111,116]))with
  | (true,p)=>let a:=qj ok n p;a.2.node (un 3 a.1)
  | (false,p)=>ux ok n p
def ux(ok:ByteArray->Bool):Nat->PS->Int×PS
 |0,p=>(0,p)
 |n+1,p=>let a:=zp ok n p
  match a.2.is ((ax [105,115]))with
  | (true,q)=>let q:=q.cg [(ax [110,117,108,108])];q.node (un 5 a.1)
  | (false,q)=>match q.da j6 with
   | (some op,q)=>let b:=zp ok n q;b.2.node (bin op a.1 b.1)
   | (none,q)=>(a.1,q)
def zp(ok:ByteArray->Bool):Nat->PS->Int×PS
 |0,p=>(0,p)
 |n+1,p=>let a:=zM ok n p;eD (zM ok n) [((ax [43]),14),((ax [45]),15)] a.2.ws.length a.1 a.2
def zM(ok:ByteArray->Bool):Nat->PS->Int×PS
 |0,p=>(0,p)
 |n+1,p=>let a:=qk ok n p;eD (qk ok n) [((ax [42]),16)] a.2.ws.length a.1 a.2
def qk(ok:ByteArray->Bool):Nat->PS->Int×PS
 |0,p=>(0,p)
 |n+1,p=>match p.is ((ax [45]))with
  | (true,p)=>let a:=qk ok n p;a.2.node (un 4 a.1)
  | (false,p)=>sP ok n p
def sP(ok:ByteArray->Bool):Nat->PS->Int×PS
 |0,p=>(0,p)
 |n+1,p=>match p.ws with
  | []=>(0,p)
  |w::r=>if p.err≠0 then(0,p)
   else if w.k=2 then({ p with ws:=r }:PS).node (lit ⟨2,w.n,b0⟩)
   else if w.k=3 then({ p with ws:=r }:PS).node (lit ⟨3,0,w.s⟩)
   else match p.is ((ax [116,114,117,101]))with
    | (true,q)=>q.node (lit ⟨1,1,b0⟩)
    | (false,q)=>match q.is ((ax [102,97,108,115,101]))with
     | (true,q)=>q.node (lit ⟨1,0,b0⟩)
     | (false,q)=>match q.is ((ax [110,117,108,108]))with
      | (true,q)=>q.node (lit v0)
      | (false,q)=>match q.is ((ax [40]))with
       | (true,q)=>let a:=JJ ok n q;(a.1,a.2.cg [(ax [41])])
       | (false,q)=>let s:=q.column ok;s.2.node (eJ s.1)
end
def PS.expr(ok:ByteArray->Bool)(p:PS):List Nd×PS:=
 let r:=JJ ok (9*p.ws.length+9) { p with e:=[] }
 (r.2.e,r.2)
structure dG where
 fn:Int
 e:List Nd
structure az where
 kind:Int:=0
 mS:AU:=⟨b0,[],0,false⟩
 table:ByteArray:=b0
 join:ByteArray:=b0
 on:List Nd:=[]
 names:List ByteArray:=[]
 exprs:List (List Nd):=[]
 items:List dG:=[]
 bM:List Nd:=[]
 group:ByteArray:=b0
 order:ByteArray:=b0
 desc:Bool:=false
 fw:Int:=0
 name:ByteArray:=b0
def PS.more(p:PS)(n:Nat):Bool×PS:=match p.is ((ax [44]))with
 | (false,p)=>(false,p)
 | (true,p)=>if n>=6 then(false,p.fail 4)else(true,p)
def PS.kind(p:PS):Int×PS:=match p.da [((ax [98,111,111,108]),1),((ax [105,110,116]),2),((ax [116,101,120,116]),3)]with
 | (some k,p)=>(k,p)
 | (none,p)=>(0,p.fail 6)
def RU(ok:ByteArray->Bool):Nat->List bT->PS->List bT×PS
 |0,l,p=>(l,p)
 |k+1,l,p=>if p.err≠0 then(l,p)else
  let n:=p.name ok;let kd:=n.2.kind;let nu:=kd.2.is ((ax [110,117,108,108]));let l:=l++[⟨n.1,kd.1,nu.1⟩];let p:=nu.2.cg [(ax [44])]
  match p.is ((ax [112,114,105,109,97,114,121]))with
  | (true,p)=>(l,p)
  | (false,p)=>RU ok k l (if l.length>=6 then p.fail 4 else p)
def PS.create(ok:ByteArray->Bool)(p:PS):(az×ByteArray)×PS:=
 let o:=p.is ((ax [111,110,108,121]));let p:=o.2.cg [(ax [116,97,98,108,101])];let n:=p.name ok;let p:=n.2.cg [(ax [40])];let c:=RU ok (p.ws.length+1) [] p;let p:=c.2.cg [(ax [107,101,121]),(ax [40])];let k:=p.name ok;let p:=k.2.cg [(ax [41]),(ax [41])]
 (({ kind:=1,mS:=⟨n.1,c.1,0,o.1⟩ },k.1),p)
def PS.bM(ok:ByteArray->Bool)(p:PS):List Nd×PS:=match p.is ((ax [119,104,101,114,101]))with
 | (true,p)=>p.expr ok
 | (false,p)=>([],p)
def lV(ok:ByteArray->Bool):Nat->List (List Nd)->PS->List (List Nd)×PS
 |0,l,p=>(l,p)
 |k+1,l,p=>match p.more l.length with
  | (true,p)=>let e:=p.expr ok;lV ok k (l++[e.1]) e.2
  | (false,p)=>(l,p)
def PS.insert(ok:ByteArray->Bool)(p:PS):az×PS:=
 let p:=p.cg [(ax [105,110,116,111])];let n:=p.name ok;let p:=n.2.cg [(ax [118,97,108,117,101,115]),(ax [40])];let e:=p.expr ok;let r:=lV ok (e.2.ws.length+1) [e.1] e.2
 ({ kind:=3,table:=n.1,exprs:=r.1 },r.2.cg [(ax [41])])
def nD(ok:ByteArray->Bool):Nat->List ByteArray->List (List Nd)->PS->(List ByteArray×List (List Nd))×PS
 |0,a,b,p=>((a,b),p)
 |k+1,a,b,p=>
  let n:=p.name ok;let p:=n.2.cg [(ax [61])];let e:=p.expr ok;let a:=a++[n.1];let b:=b++[e.1]
  match e.2.more a.length with
  | (true,p)=>nD ok k a b p
  | (false,p)=>((a,b),p)
def PS.update(ok:ByteArray->Bool)(p:PS):az×PS:=
 let n:=p.name ok;let p:=n.2.cg [(ax [115,101,116])];let r:=nD ok (p.ws.length+1) [] [] p;let w:=r.2.bM ok
 ({ kind:=4,table:=n.1,names:=r.1.1,exprs:=r.1.2,bM:=w.1 },w.2)
def PS.item(ok:ByteArray->Bool)(p:PS):dG×PS:=match p.is ((ax [99,111,117,110,116]))with
 | (true,p)=>(⟨1,[]⟩,p.cg [(ax [40]),(ax [42]),(ax [41])])
 | (false,p)=>match p.da [((ax [115,117,109]),2),((ax [109,105,110]),3),((ax [109,97,120]),4)]with
  | (none,p)=>let e:=p.expr ok;(⟨0,e.1⟩,e.2)
  | (some fn,p)=>
   let p:=p.cg [(ax [40])];let c:=({ p with e:=[] }:PS).column ok;let q:=(c.2.node (eJ c.1)).2
   (⟨fn,q.e⟩,q.cg [(ax [41])])
def hG(ok:ByteArray->Bool):Nat->List dG->PS->List dG×PS
 |0,l,p=>(l,p)
 |k+1,l,p=>
  let i:=p.item ok;let l:=l++[i.1]
  match i.2.more l.length with
  | (true,p)=>hG ok k l p
  | (false,p)=>(l,p)
def PS.choose(ok:ByteArray->Bool)(p:PS):az×PS:=
 let st:=p.is ((ax [42]));let it:=if st.1 then([],st.2)else hG ok (st.2.ws.length+1) [] st.2
 let p:=it.2.cg [(ax [102,114,111,109])];let t:=p.name ok;let j:=t.2.is ((ax [106,111,105,110]));let jn:=if j.1 then(let a:=j.2.name ok;let p:=a.2.cg [(ax [111,110])];let e:=p.expr ok;((a.1,e.1),e.2))else((b0,[]),j.2)
 let w:=jn.2.bM ok;let g:=w.2.is ((ax [103,114,111,117,112]));let gr:=if g.1 then(g.2.cg [(ax [98,121])]).column ok else(b0,g.2)
 let o:=gr.2.is ((ax [111,114,100,101,114]));let od:=if o.1 then(let c:=(o.2.cg [(ax [98,121])]).column ok;let d:=c.2.is ((ax [100,101,115,99]));((c.1,d.1),d.2))else((b0,false),o.2)
 let li:=od.2.is ((ax [108,105,109,105,116]));let lm:=if li.1 then(match li.2.ws with
  |w::r=>if w.k=2 then(w.n,({ li.2 with ws:=r }:PS))else((-1:Int),li.2.fail 6)
  | []=>(-1,li.2))else(-1,li.2)
 ({ kind:=6,table:=t.1,join:=jn.1.1,on:=jn.1.2,items:=it.1,bM:=w.1,group:=gr.1,order:=od.1.1,desc:=od.1.2,fw:=lm.1 },lm.2)
def PS.stmt(ok:ByteArray->Bool)(p:PS):(az×ByteArray)×PS:=
 match p.da [((ax [99,114,101,97,116,101]),1),((ax [100,114,111,112]),2),((ax [105,110,115,101,114,116]),3),((ax [117,112,100,97,116,101]),4),((ax [100,101,108,101,116,101]),5),((ax [115,101,108,101,99,116]),6),((ax [98,101,103,105,110]),7),((ax [99,111,109,109,105,116]),8),((ax [115,97,118,101,112,111,105,110,116]),10),((ax [114,111,108,108,98,97,99,107]),9)]with
 | (none,p)=>(({},b0),p.fail 6)
 | (some k,p)=>
  if k=1 then p.create ok
  else if k=2 then let n:=(p.cg [(ax [116,97,98,108,101])]).name ok;(({ kind:=2,table:=n.1 },b0),n.2)
  else if k=3 then let r:=p.insert ok;((r.1,b0),r.2)
  else if k=4 then let r:=p.update ok;((r.1,b0),r.2)
  else if k=5 then let n:=(p.cg [(ax [102,114,111,109])]).name ok;let w:=n.2.bM ok;(({ kind:=5,table:=n.1,bM:=w.1 },b0),w.2)
  else if k=6 then let r:=p.choose ok;((r.1,b0),r.2)
  else if k=10 then let n:=p.name ok;(({ kind:=10,name:=n.1 },b0),n.2)
  else if k=9 then match p.is ((ax [116,111]))with
   | (true,p)=>let n:=p.name ok;(({ kind:=11,name:=n.1 },b0),n.2)
   | (false,p)=>(({ kind:=9 },b0),p)
  else(({ kind:=k },b0),p)
def fK(a2:List bT)(name:ByteArray):Nat->Option Nat
 |k=>match a2 with
  | []=>none
  |c::r=>if c.name=name then some k else fK r name (k+1)
def dk(ok:ByteArray->Bool)(text:ByteArray):az×Int:=
 let w:=iE text
 if w.2≠0 then({},w.2)else
  let r:=PS.stmt ok ⟨w.1,0,[]⟩;let p:PS:=r.2;let p:PS:=match p.ws with
   |w::_=>if p.err=0/\w.k≠0 then p.fail 6 else p
   | []=>p
  if p.err=0/\r.1.1.kind=1 then
   match fK r.1.1.mS.a2 r.1.2 0 with
   |some k=>({ r.1.1 with mS:={ r.1.1.mS with key:=(k:Int) } },(0:Int))
   |none=>({},(2:Int))
  else if p.err≠0 then({},p.err)else(r.1.1,0)
end Go.S
