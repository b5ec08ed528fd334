import Derived.Test.YtekoaiendgjkdaaGreatGA
set_option linter.unusedVariables false
set_option linter.unusedSimpArgs false
set_option linter.unusedSectionVars false
set_option maxRecDepth 100000
set_option maxHeartbeats 8000000
namespace Go.S
open Go.Sx Go.Proofs
def eT(d:DB)(hd:bZ)(act:cE->cE×iX×Int):DB×Int:=
 if decide ((ay d hd).2≠0)=true then ay d hd
 else match (ay d hd).1.aE[dr (aR (ay d hd).1.aE hd.table)]?,(ay d hd).1.au[dr (cA (ay d hd).1.au hd.s)]? with
  |some t,some w=>
   if decide ((act t).2.2≠19)&&decide ((w.log.length:Int)>=60)then((ay d hd).1,4)
   else if decide ((act t).2.2=0)=true then
    (⟨(ay d hd).1.aE.set (dr (aR (ay d hd).1.aE hd.table)) (act t).1,(ay d hd).1.au.set (dr (cA (ay d hd).1.au hd.s)) ⟨w.s,w.log++[⟨hd.table,(act t).2.1.op,(act t).2.1.row⟩],w.marks⟩,(ay d hd).1.holds,(ay d hd).1.waits⟩,0)
   else((ay d hd).1,(act t).2.2)
  |_,_=>ay d hd
def fv(d:DB)(s:Int)(name:ByteArray)(r:Row):DB×Int:=eT d ⟨s,name,true⟩ (cJ r)
def X2(d:DB)(s:Int)(name:ByteArray)(k:dg):DB×Int:=eT d ⟨s,name,true⟩ (LG k)
def ir(d:DB)(s:Int):DB×Int:=if lK (cA d.au s)=true then(kZ d s,0)else(d,2)
def bf(d:DB)(s:Int):DB×List iX×Int:=
 if lK (cA d.au s)=true then(⟨d.aE,wC d.au s,bQ d.holds s,bQ d.waits s⟩,match d.au[dr (cA d.au s)]? with
  |some w=>w.log
  |none=>[],0)
 else(d,[],2)
def il(d:DB)(name:ByteArray):DB×Int:=
 if lK (aR d.aE name)=true then if decide ((d.au.length:Int)>0)=true then(d,18)else(⟨d.aE.eraseIdx (dr (aR d.aE name)),d.au,d.holds,d.waits⟩,0)
 else(d,2)
def h3(d:DB)(s:Int)(name:ByteArray):DB×List Row×Int:=
 if decide ((ay d ⟨s,name,false⟩).2≠0)=true then((ay d ⟨s,name,false⟩).1,[],(ay d ⟨s,name,false⟩).2)
 else((ay d ⟨s,name,false⟩).1,match (ay d ⟨s,name,false⟩).1.aE[dr (aR (ay d ⟨s,name,false⟩).1.aE name)]? with
  |some t=>t.rows
  |none=>[],0)
def DC(l:List Ns)(nm:ByteArray):Nat->Option Nat
 |0=>none
 |i+1=>match l[i]? with
  |some m=>if decide (m.name=nm)=true then some i else DC l nm i
  |none=>DC l nm i
def tZ(d:DB)(s:Int)(nm:ByteArray):DB×Int:=
 if lK (cA d.au s)=true then match d.au[dr (cA d.au s)]? with
  |some w=>match DC w.marks nm w.marks.length with
   |some k=>(⟨fS d.aE (w.log.drop (eY (((w.marks[k]?).map (·.at_)).getD 0) w.log.length)),d.au.set (dr (cA d.au s)) ⟨w.s,w.log.take (eY (((w.marks[k]?).map (·.at_)).getD 0) w.log.length),w.marks.take (k+1)⟩,d.holds,d.waits⟩,0)
   |none=>(d,2)
  |none=>(d,2)
 else(d,2)
end Go.S
