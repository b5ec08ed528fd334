import Derived.Test.YtekoaiendgjkdaaGreatEC
import Derived.Test.YtekoaiendgjkdaaGreatRd
set_option linter.unusedVariables false
set_option linter.unusedSimpArgs false
set_option linter.unusedSectionVars false
set_option maxRecDepth 100000
set_option maxHeartbeats 8000000
namespace Go.S
open Go.Sx Go.Proofs
def wA(W:List (dO×Bool))(s:Int):List (dO×Bool):=if lK (dz W s)=true then W.eraseIdx (dr (dz W s))else W
structure Nu(z:Int)(i:Nat):Prop where
 eq:z=(i:Int)-1
abbrev Yd(l:Nat)(args:List Value)(h:ad)(R:Value->ad->Prop):Prop:=Qj (fun _=>Tryz.prog) l args h R
def xR(r:Row)(key:Int):dg:=(r[key.toNat]?).getD ⟨0,0,jX⟩
def jc(T:List cE)(x:iX):List cE:=
 if lK (aR T x.table)=true then
  match T[dr (aR T x.table)]? with
  |some t=>if decide (x.op=2)=true then T.set (dr (aR T x.table)) (bI t x.row).1
   else if(decide (t.S.key>=0)&&decide (t.S.key<(x.row.length:Int)))=true then T.set (dr (aR T x.table)) (cK t (xR x.row t.S.key)).1 else T
  |none=>T
 else T
def fS(T:List cE)(l:List iX):List cE:=l.foldr (fun x T=>jc T x) T
def eY(n:Int)(len:Nat):Nat:=min n.toNat len
def jg(T:List cE):Prop:=∀t∈T,t.rows.length<=2^36
def yS(T:List cE)(W:List (dO×Bool))(s:Int):List cE:=
 if lK (dz W s)=true then match W[dr (dz W s)]? with
  |some w=>fS T w.1.log
  |none=>T
 else T
def Wf(ws:List dO):List (dO×Bool):=ws.map fun w=>(w,true)
def wC(ws:List dO)(s:Int):List dO:=if lK (cA ws s)=true then ws.eraseIdx (dr (cA ws s))else ws
def oW(T:List cE)(ws:List dO)(s:Int):List cE:=
 if lK (cA ws s)=true then match ws[dr (cA ws s)]? with
  |some w=>fS T w.log
  |none=>T
 else T
def kZ(d:DB)(s:Int):DB:=⟨oW d.aE d.au s,wC d.au s,bQ d.holds s,bQ d.waits s⟩
def gH:Nat->DB->bZ->DB×Int
 |0,d,_=>(d,16)
 |f+1,d,hd=>
  if bF d.holds hd=true then(⟨d.aE,d.au,cd d.holds hd,cV d.holds d.waits hd⟩,0)
  else if(dt (cI (cd d.holds hd) (cV d.holds d.waits hd)) hd.s).2=true then
   if decide ((dt (cI (cd d.holds hd) (cV d.holds d.waits hd)) hd.s).1=hd.s)=true then(kZ ⟨d.aE,d.au,cd d.holds hd,cV d.holds d.waits hd⟩ (dt (cI (cd d.holds hd) (cV d.holds d.waits hd)) hd.s).1,17)
   else gH f (kZ ⟨d.aE,d.au,cd d.holds hd,cV d.holds d.waits hd⟩ (dt (cI (cd d.holds hd) (cV d.holds d.waits hd)) hd.s).1) hd
  else(⟨d.aE,d.au,cd d.holds hd,cV d.holds d.waits hd⟩,16)
def ay(d:DB)(hd:bZ):DB×Int:=if Dv d hd=true then gH (d.holds.length+1) d hd else(d,2)
set_option maxHeartbeats 4000000
structure wX(n:Nat)(d:DB):Prop where
 aE:d.aE.length<=2^30
 pH:d.au.Pairwise (fun a b=>a.s<b.s)
 so:∀w∈d.au,0<=w.s/\w.s<8
 rows:jg d.aE
 holds:d.holds.length<=n
 waits:d.waits.length<=n
 Zq:∀x∈d.holds,0<=x.s/\x.s<8
structure MB(n:Nat)(d:DB)(hd:bZ)(D:DB×Int):Prop where
 S:D.1.aE.map (·.S)=d.aE.map (·.S)
 ok:wX (n+1) D.1
 own:D.2=0->∀w∈d.au,w.s=hd.s->w∈D.1.au
 sub:D.1.au.Sublist d.au
def W2(d:DB):Prop:=∀x∈d.holds,0<=x.s/\x.s<8
end Go.S
