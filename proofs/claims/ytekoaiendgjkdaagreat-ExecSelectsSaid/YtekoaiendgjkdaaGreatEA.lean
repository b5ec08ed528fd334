import Derived.Test.YtekoaiendgjkdaaGreatDB
import Derived.Test.YtekoaiendgjkdaaGreatRd
set_option linter.unusedVariables false
set_option linter.unusedSimpArgs false
set_option linter.unusedSectionVars false
set_option maxRecDepth 100000
namespace Go.S
open Go.Sx Go.Proofs
abbrev bZ.v(h:bZ):Value:=.agg #[.int .i64 h.s,.string h.table,.bool h.x]
def fY(a b:bZ):Bool:=decide (a.s≠b.s)&&(decide (a.table=b.table)&&(a.x||b.x))
def bQ(l:List bZ)(s:Int):List bZ:=l.filter fun h=>decide (h.s≠s)
def kP(h o:bZ):Bool:=decide (o.s=h.s)&&decide (o.table=h.table)
def dR:Sh Int where
 n:=1
 R _ cs v:=cs=[.int .i64 v]
 len:=by rintro h cs x rfl;rfl
 one:=by rintro h cs x rfl;rfl
 a5:=[]
 mono:=fun _ q=>q
def iC(a b:Int):Int:=if decide (a<b)=true then -1 else if decide (a>b)=true then 1 else 0
def dC:List Int->Int
 | []=>0
 |x::r=>if decide (x≠0)=true then x else dC r
def ch(a b:dg):Int:=dC [iC a.k b.k,iC a.n b.n,eX a.s b.s]
def keyOf(key:Int)(r:Row):dg:=if(decide (key<0)||decide (key>=(r.length:Int)))=true then⟨0,0,⟨#[]⟩⟩else(r[key.toNat]?).getD ⟨0,0,⟨#[]⟩⟩
abbrev dg.v(x:dg):Value:=.agg #[.int .i64 x.k,.int .i64 x.n,.string x.s]
def jN(v:dg):dg:=if decide (v.k=3)=true then⟨v.k,0,v.s⟩else if decide (v.k=1)=true then⟨v.k,v.n,⟨#[]⟩⟩else if decide (v.k=2)=true then⟨v.k,v.n,⟨#[]⟩⟩else⟨v.k,0,⟨#[]⟩⟩
def nE(a b:dg):Bool:=decide (a.k=b.k)&&(decide (a.n=b.n)&&decide (a.s=b.s))
def cQ(v:dg):Int:=
 if(decide (v.k<0)||decide (v.k>3))=true then 3
 else if(!nE v (jN v)||(decide (v.k=1)&&decide (v.n≠0)&&decide (v.n≠1)))=true then 1
 else if decide ((v.s.size:Int)>60)=true then 5 else 0
def bP(c:bT)(v:dg):Int:=if decide (cQ v≠0)=true then cQ v else if(decide (v.k=0)&& !c.null)=true then 13 else if(decide (v.k≠0)&&decide (v.k≠c.kind))=true then 3 else 0
def bV(a2:List bT)(r:Row):Int:=if decide ((r.length:Int)≠(a2.length:Int))=true then 1 else dC (List.zipWith bP a2 r)
def cM(t:cE)(k:dg):List Int:=t.rows.map fun r=>ch (keyOf t.S.key r) k
def uW(t:cE)(i:Nat)(r:Row):cE:=⟨t.S,t.rows.take i++[r]++t.rows.drop i⟩
def Db(t:cE)(i:Nat):cE:=⟨t.S,t.rows.take i++t.rows.drop (i+1)⟩
def bI(t:cE)(r:Row):cE×Int:=
 if decide (bV t.S.a2 r≠0)=true then(t,bV t.S.a2 r)
 else if lK (cM t (keyOf t.S.key r))=true then(t,7)
 else if decide ((t.rows.length:Int)>=200)=true then(t,4)
 else(uW t (dr (cM t (keyOf t.S.key r))) r,0)
def cK(t:cE)(k:dg):cE×Row×Int:=
 if lK (cM t k)=true then(Db t (dr (cM t k)),(t.rows[dr (cM t k)]?).getD [],0)else(t,[],2)
def ES(a b:bZ):Bool:=decide (a.s=b.s)&&(decide (a.table=b.table)&&decide (a.x=b.x))
def mA(H:List bZ)(hd:bZ):Option Nat:=H.findIdx? (kP hd)
def j7(H:List bZ)(hd:bZ):Bool:=match mA H hd with
 |some i=>(H[i]?).any fun o=>o.x||ES o hd
 |none=>false
def bF(H:List bZ)(hd:bZ):Bool:=j7 H hd|| !(H.any (fY hd))
def cd(H:List bZ)(hd:bZ):List bZ:=
 if bF H hd=true then if j7 H hd=true then H else match mA H hd with
  |some i=>H.set i hd
  |none=>H++[hd]
 else H
def cV(H W:List bZ)(hd:bZ):List bZ:=if bF H hd=true then bQ W hd.s else bQ W hd.s++[hd]
end Go.S
