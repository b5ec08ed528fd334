import Derived.Test.YtifjeceolckgaaaGreatDA
set_option linter.all false
namespace Go.S
structure Wd where
 k:Int
 n:Int
 s:ByteArray
structure Nd where
 op:Int
 a:Int
 b:Int
 v:cO
 name:ByteArray
abbrev By:=List UInt8
def aM(l:By):ByteArray:=⟨l.toArray⟩
def isLet(c:UInt8):Bool:=decide (97<=c.toNat)&&decide (c.toNat<=122)
def fq(c:UInt8):Bool:=decide (48<=c.toNat)&&decide (c.toNat<=57)
def uN(c:UInt8):Bool:=isLet c||fq c||decide (c.toNat=95)
def eU:By->Nat
 | []=>0
 |c::r=>match uN c with
  |true=>eU r+1
  |false=>0
def nG:By->Int->(Int×By)×Int
 | [],n=>((n,[]),0)
 |c::r,n=>match fq c with
  |true=>if n>(9223372036854775807-((c.toNat:Int)-48)) / 10 then((0,[]),11)else nG r (10*n+((c.toNat:Int)-48))
  |false=>((n,c::r),0)
def iH:By->By->(By×By)×Int
 | [],_=>(([],[]),6)
 |c::r,acc=>match decide (c.toNat=39)with
  |false=>iH r (acc++[c])
  |true=>match r with
   | []=>if acc.length>60 then(([],[]),5)else((acc,[]),0)
   |d::r'=>match decide (d.toNat=39)with
    |true=>iH r' (acc++[39])
    |false=>if acc.length>60 then(([],[]),5)else((acc,d::r'),0)
def ns:List Nat:=[40,41,44,46,42,61,60,62,43,45]
def Jk(c d:UInt8):Bool:=(decide (c.toNat=60)&&decide (d.toNat=62))||(decide (c.toNat=60)&&decide (d.toNat=61))||(decide (c.toNat=62)&&decide (d.toNat=61))
def mf:By->Nat
 | []=>0
 |c::r=>match r with
  | []=>if ns.contains c.toNat then 1 else 0
  |d::_=>if Jk c d then 2 else if ns.contains c.toNat then 1 else 0
def Gw(l:By):Wd:=⟨4,0,aM l⟩
def ll(c:UInt8)(r:By):(Wd×By)×Int:=
 match isLet c with
 |true=>((⟨1,0,aM ((c::r).take (eU (c::r)))⟩,(c::r).drop (eU (c::r))),0)
 |false=>match fq c with
  |true=>match nG (c::r) 0 with
   | (p,e)=>((⟨2,p.1,aM []⟩,p.2),e)
  |false=>match decide (c.toNat=39)with
   |true=>match iH r []with
    | (p,e)=>((⟨3,0,aM p.1⟩,p.2),e)
   |false=>match mf (c::r)with
    |0=>((⟨0,0,aM []⟩,[]),6)
    |n+1=>((Gw ((c::r).take (n+1)),(c::r).drop (n+1)),0)
def Ck(c:UInt8):Bool:=decide (c.toNat=32)||decide (c.toNat=9)||decide (c.toNat=10)
def nK:Nat->By->List Wd->List Wd×Int
 |0,_,l=>(l,0)
 |k+1,t,l=>match t with
  | []=>(l++[⟨0,0,aM []⟩],0)
  |c::r=>match Ck c with
   |true=>nK k r l
   |false=>match ll c r with
    | (p,e)=>if e=0 then nK k p.2 (l++[p.1])else([],e)
def iq(s:ByteArray):List Wd×Int:=if s.size>600 then([],5)else nK (s.size+1) s.data.toList []
structure PS where
 ws:List Wd
 err:Int
 e:List Nd
def PS.fail(p:PS)(e:Int):PS:=if p.err=0 then{ p with err:=e }else p
def PS.is(p:PS)(s:ByteArray):Bool×PS:=match p.ws with
 | []=>(false,p)
 |w::r=>if p.err=0/\(w.k=1\/w.k=4)/\w.s=s then(true,{ p with ws:=r })else(false,p)
def PS.cd(p:PS):List ByteArray->PS
 | []=>p
 |s::r=>match p.is s with
  | (true,p)=>p.cd r
  | (false,p)=>(p.fail 6).cd r
abbrev b0:ByteArray:=aM []
def v0:cO:=⟨0,0,b0⟩
def PS.node(p:PS)(n:Nd):Int×PS:=
 if p.err≠0 then(0,p)else if p.e.length>=60 then(0,p.fail 4)else((p.e.length:Int),{ p with e:=p.e++[n] })
def PS.name(ok:ByteArray->Bool)(p:PS):ByteArray×PS:=match p.ws with
 | []=>(b0,p)
 |w::r=>if p.err=0/\w.k=1/\ok w.s=true then(w.s,{ p with ws:=r })else(b0,p.fail 6)
def PS.column(ok:ByteArray->Bool)(p:PS):ByteArray×PS:=
 let r:=p.name ok
 match r.2.is ((aM [46]))with
 | (true,q)=>let t:=q.name ok;(r.1++(aM [46])++t.1,t.2)
 | (false,q)=>(r.1,q)
def pj:List (ByteArray×Int):=[((aM [61]),8),((aM [60,62]),9),((aM [60]),10),((aM [60,61]),11),((aM [62]),12),((aM [62,61]),13)]
def PS.eQ(p:PS):List (ByteArray×Int)->Option Int×PS
 | []=>(none,p)
 | (s,op)::r=>match p.is s with
  | (true,q)=>(some op,q)
  | (false,q)=>q.eQ r
def un(op a:Int):Nd:=⟨op,a,0,v0,b0⟩
def bin(op a b:Int):Nd:=⟨op,a,b,v0,b0⟩
def lit(v:cO):Nd:=⟨1,0,0,v,b0⟩
def iP(s:ByteArray):Nd:=⟨2,0,0,v0,s⟩
def iA(sub:PS->Int×PS)(ops:List (ByteArray×Int)):Nat->Int->PS->Int×PS
 |0,a,p=>(a,p)
 |n+1,a,p=>match p.eQ ops with
  | (some op,p)=>let b:=sub p;let r:=b.2.node (bin op a b.1);iA sub ops n r.1 r.2
  | (none,p)=>(a,p)
mutual
def Vx(ok:ByteArray->Bool):Nat->PS->Int×PS
 |0,p=>(0,p)
 |n+1,p=>let a:=FP ok n p;iA (FP ok n) [((aM [111,114]),6)] a.2.ws.length a.1 a.2
def FP(ok:ByteArray->Bool):Nat->PS->Int×PS
 |0,p=>(0,p)
 |n+1,p=>let a:=wv ok n p;iA (wv ok n) [((aM [97,110,100]),7)] a.2.ws.length a.1 a.2
def wv(ok:ByteArray->Bool):Nat->PS->Int×PS
 |0,p=>(0,p)
 |n+1,p=>match p.is ((aM [110,111,116]))with
  | (true,p)=>let a:=wv ok n p;a.2.node (un 3 a.1)
  | (false,p)=>Bj ok n p
def Bj(ok:ByteArray->Bool):Nat->PS->Int×PS
 |0,p=>(0,p)
 |n+1,p=>let a:=wu ok n p
  match a.2.is ((aM [105,115]))with
  | (true,q)=>let q:=q.cd [(aM [110,117,108,108])];q.node (un 5 a.1)
  | (false,q)=>match q.eQ pj with
   | (some op,q)=>let b:=wu ok n q;b.2.node (bin op a.1 b.1)
   | (none,q)=>(a.1,q)
def wu(ok:ByteArray->Bool):Nat->PS->Int×PS
 |0,p=>(0,p)
 |n+1,p=>let a:=Fq ok n p;iA (Fq ok n) [((aM [43]),14),((aM [45]),15)] a.2.ws.length a.1 a.2
def Fq(ok:ByteArray->Bool):Nat->PS->Int×PS
 |0,p=>(0,p)
 |n+1,p=>let a:=wz ok n p;iA (wz ok n) [((aM [42]),16)] a.2.ws.length a.1 a.2
def wz(ok:ByteArray->Bool):Nat->PS->Int×PS
 |0,p=>(0,p)
 |n+1,p=>match p.is ((aM [45]))with
  | (true,p)=>let a:=wz ok n p;a.2.node (un 4 a.1)
  | (false,p)=>zO ok n p
def zO(ok:ByteArray->Bool):Nat->PS->Int×PS
 |0,p=>(0,p)
 |n+1,p=>match p.ws with
  | []=>(0,p)
  |w::r=>if p.err≠0 then(0,p)
   else if w.k=2 then({ p with ws:=r }:PS).node (lit ⟨2,w.n,b0⟩)
   else if w.k=3 then({ p with ws:=r }:PS).node (lit ⟨3,0,w.s⟩)
   else match p.is ((aM [116,114,117,101]))with
    | (true,q)=>q.node (lit ⟨1,1,b0⟩)
    | (false,q)=>match q.is ((aM [102,97,108,115,101]))with
     | (true,q)=>q.node (lit ⟨1,0,b0⟩)
     | (false,q)=>match q.is ((aM [110,117,108,108]))with
      | (true,q)=>q.node (lit v0)
      | (false,q)=>match q.is ((aM [40]))with
       | (true,q)=>let a:=Vx ok n q;(a.1,a.2.cd [(aM [41])])
       | (false,q)=>let s:=q.column ok;s.2.node (iP s.1)
end
def PS.expr(ok:ByteArray->Bool)(p:PS):List Nd×PS:=
 let r:=Vx ok (9*p.ws.length+9) { p with e:=[] }
 (r.2.e,r.2)
structure dO where
 fn:Int
 e:List Nd
structure aJ where
 kind:Int:=0
 sE:FR:=⟨b0,[],0,false⟩
 table:ByteArray:=b0
 join:ByteArray:=b0
 on:List Nd:=[]
 names:List ByteArray:=[]
 exprs:List (List Nd):=[]
 items:List dO:=[]
 bV:List Nd:=[]
 group:ByteArray:=b0
 order:ByteArray:=b0
 desc:Bool:=false
 eG:Int:=0
 name:ByteArray:=b0
def PS.more(p:PS)(n:Nat):Bool×PS:=match p.is ((aM [44]))with
 | (false,p)=>(false,p)
 | (true,p)=>if n>=6 then(false,p.fail 4)else(true,p)
def PS.kind(p:PS):Int×PS:=match p.eQ [((aM [98,111,111,108]),1),((aM [105,110,116]),2),((aM [116,101,120,116]),3)]with
 | (some k,p)=>(k,p)
 | (none,p)=>(0,p.fail 6)
def dQi(ok:ByteArray->Bool):Nat->List cK->PS->List cK×PS
 |0,l,p=>(l,p)
 |k+1,l,p=>if p.err≠0 then(l,p)else
  let n:=p.name ok;let kd:=n.2.kind;let nu:=kd.2.is ((aM [110,117,108,108]));let l:=l++[⟨n.1,kd.1,nu.1⟩];let p:=nu.2.cd [(aM [44])]
  match p.is ((aM [112,114,105,109,97,114,121]))with
  | (true,p)=>(l,p)
  | (false,p)=>dQi ok k l (if l.length>=6 then p.fail 4 else p)
def PS.create(ok:ByteArray->Bool)(p:PS):(aJ×ByteArray)×PS:=
 let o:=p.is ((aM [111,110,108,121]));let p:=o.2.cd [(aM [116,97,98,108,101])];let n:=p.name ok;let p:=n.2.cd [(aM [40])];let c:=dQi ok (p.ws.length+1) [] p;let p:=c.2.cd [(aM [107,101,121]),(aM [40])];let k:=p.name ok;let p:=k.2.cd [(aM [41]),(aM [41])]
 (({ kind:=1,sE:=⟨n.1,c.1,0,o.1⟩ },k.1),p)
def PS.bV(ok:ByteArray->Bool)(p:PS):List Nd×PS:=match p.is ((aM [119,104,101,114,101]))with
 | (true,p)=>p.expr ok
 | (false,p)=>([],p)
def nY(ok:ByteArray->Bool):Nat->List (List Nd)->PS->List (List Nd)×PS
 |0,l,p=>(l,p)
 |k+1,l,p=>match p.more l.length with
  | (true,p)=>let e:=p.expr ok;nY ok k (l++[e.1]) e.2
  | (false,p)=>(l,p)
def PS.insert(ok:ByteArray->Bool)(p:PS):aJ×PS:=
 let p:=p.cd [(aM [105,110,116,111])];let n:=p.name ok;let p:=n.2.cd [(aM [118,97,108,117,101,115]),(aM [40])];let e:=p.expr ok;let r:=nY ok (e.2.ws.length+1) [e.1] e.2
 ({ kind:=3,table:=n.1,exprs:=r.1 },r.2.cd [(aM [41])])
def nC(ok:ByteArray->Bool):Nat->List ByteArray->List (List Nd)->PS->(List ByteArray×List (List Nd))×PS
 |0,a,b,p=>((a,b),p)
 |k+1,a,b,p=>
  let n:=p.name ok;let p:=n.2.cd [(aM [61])];let e:=p.expr ok;let a:=a++[n.1];let b:=b++[e.1]
  match e.2.more a.length with
  | (true,p)=>nC ok k a b p
  | (false,p)=>((a,b),p)
def PS.update(ok:ByteArray->Bool)(p:PS):aJ×PS:=
 let n:=p.name ok;let p:=n.2.cd [(aM [115,101,116])];let r:=nC ok (p.ws.length+1) [] [] p;let w:=r.2.bV ok
 ({ kind:=4,table:=n.1,names:=r.1.1,exprs:=r.1.2,bV:=w.1 },w.2)
def PS.item(ok:ByteArray->Bool)(p:PS):dO×PS:=match p.is ((aM [99,111,117,110,116]))with
 | (true,p)=>(⟨1,[]⟩,p.cd [(aM [40]),(aM [42]),(aM [41])])
 | (false,p)=>match p.eQ [((aM [115,117,109]),2),((aM [109,105,110]),3),((aM [109,97,120]),4)]with
  | (none,p)=>let e:=p.expr ok;(⟨0,e.1⟩,e.2)
  | (some fn,p)=>
   let p:=p.cd [(aM [40])];let c:=({ p with e:=[] }:PS).column ok;let q:=(c.2.node (iP c.1)).2
   (⟨fn,q.e⟩,q.cd [(aM [41])])
def iK(ok:ByteArray->Bool):Nat->List dO->PS->List dO×PS
 |0,l,p=>(l,p)
 |k+1,l,p=>
  let i:=p.item ok;let l:=l++[i.1]
  match i.2.more l.length with
  | (true,p)=>iK ok k l p
  | (false,p)=>(l,p)
def PS.choose(ok:ByteArray->Bool)(p:PS):aJ×PS:=
 let st:=p.is ((aM [42]));let it:=if st.1 then([],st.2)else iK ok (st.2.ws.length+1) [] st.2
 let p:=it.2.cd [(aM [102,114,111,109])];let t:=p.name ok;let j:=t.2.is ((aM [106,111,105,110]));let jn:=if j.1 then(let a:=j.2.name ok;let p:=a.2.cd [(aM [111,110])];let e:=p.expr ok;((a.1,e.1),e.2))else((b0,[]),j.2)
 let w:=jn.2.bV ok;let g:=w.2.is ((aM [103,114,111,117,112]));let gr:=if g.1 then(g.2.cd [(aM [98,121])]).column ok else(b0,g.2)
 let o:=gr.2.is ((aM [111,114,100,101,114]));let od:=if o.1 then(let c:=(o.2.cd [(aM [98,121])]).column ok;let d:=c.2.is ((aM [100,101,115,99]));((c.1,d.1),d.2))else((b0,false),o.2)
 let li:=od.2.is ((aM [108,105,109,105,116]));let lm:=if li.1 then(match li.2.ws with
  |w::r=>if w.k=2 then(w.n,({ li.2 with ws:=r }:PS))else((-1:Int),li.2.fail 6)
  | []=>(-1,li.2))else(-1,li.2)
 ({ kind:=6,table:=t.1,join:=jn.1.1,on:=jn.1.2,items:=it.1,bV:=w.1,group:=gr.1,order:=od.1.1,desc:=od.1.2,eG:=lm.1 },lm.2)
def PS.stmt(ok:ByteArray->Bool)(p:PS):(aJ×ByteArray)×PS:=
 match p.eQ [((aM [99,114,101,97,116,101]),1),((aM [100,114,111,112]),2),((aM [105,110,115,101,114,116]),3),((aM [117,112,100,97,116,101]),4),((aM [100,101,108,101,116,101]),5),((aM [115,101,108,101,99,116]),6),((aM [98,101,103,105,110]),7),((aM [99,111,109,109,105,116]),8),((aM [115,97,118,101,112,111,105,110,116]),10),((aM [114,111,108,108,98,97,99,107]),9)]with
 | (none,p)=>(({},b0),p.fail 6)
 | (some k,p)=>
  if k=1 then p.create ok
  else if k=2 then let n:=(p.cd [(aM [116,97,98,108,101])]).name ok;(({ kind:=2,table:=n.1 },b0),n.2)
  else if k=3 then let r:=p.insert ok;((r.1,b0),r.2)
  else if k=4 then let r:=p.update ok;((r.1,b0),r.2)
  else if k=5 then let n:=(p.cd [(aM [102,114,111,109])]).name ok;let w:=n.2.bV ok;(({ kind:=5,table:=n.1,bV:=w.1 },b0),w.2)
  else if k=6 then let r:=p.choose ok;((r.1,b0),r.2)
  else if k=10 then let n:=p.name ok;(({ kind:=10,name:=n.1 },b0),n.2)
  else if k=9 then match p.is ((aM [116,111]))with
   | (true,p)=>let n:=p.name ok;(({ kind:=11,name:=n.1 },b0),n.2)
   | (false,p)=>(({ kind:=9 },b0),p)
  else(({ kind:=k },b0),p)
def jR(cols:List cK)(name:ByteArray):Nat->Option Nat
 |k=>match cols with
  | []=>none
  |c::r=>if c.name=name then some k else jR r name (k+1)
def cL(ok:ByteArray->Bool)(text:ByteArray):aJ×Int:=
 let w:=iq text
 if w.2≠0 then({},w.2)else
  let r:=PS.stmt ok ⟨w.1,0,[]⟩;let p:PS:=r.2;let p:PS:=match p.ws with
   |w::_=>if p.err=0/\w.k≠0 then p.fail 6 else p
   | []=>p
  if p.err=0/\r.1.1.kind=1 then
   match jR r.1.1.sE.cols r.1.2 0 with
   |some k=>({ r.1.1 with sE:={ r.1.1.sE with key:=(k:Int) } },(0:Int))
   |none=>({},(2:Int))
  else if p.err≠0 then({},p.err)else(r.1.1,0)
end Go.S
