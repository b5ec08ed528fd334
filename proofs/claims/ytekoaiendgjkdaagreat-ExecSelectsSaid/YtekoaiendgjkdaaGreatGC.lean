import Derived.Test.YtekoaiendgjkdaaGreatGB
import Derived.Test.YtekoaiendgjkdaaGreatEC
import Derived.Test.YtekoaiendgjkdaaGreatRd
set_option linter.unusedVariables false
set_option linter.unusedSimpArgs false
set_option linter.unusedSectionVars false
set_option maxRecDepth 100000
set_option maxHeartbeats 8000000
namespace Go.S
open Go.Sx Go.Proofs
def fU:Sh (dO×Option Nat)where
 n:=3
 R h cs t:=∃b1 n1 b2 n2 c2,cs=[.int .i64 t.1.s,.slice b1 n1 n1,.slice b2 n2 c2]/\Sl 148 gM h (.slice b1 n1 n1) t.1.log/\
  ((t.2=none/\n2=0/\c2=0/\t.1.marks=[])\/∃nb,t.2=some nb/\b2=some ⟨nb,0,none⟩/\n2=t.1.marks.length/\dI 161 gF h nb c2 t.1.marks)
 len:=by rintro h cs x ⟨_,_,_,_,_,rfl,-⟩;rfl
 one:=by rintro h cs x ⟨_,_,_,_,_,rfl,-⟩;rfl
 a5:=[148,61,161]
 mono:=by
  rintro h h' cs x hl ⟨b1,n1,b2,n2,c2,rfl,q1,q2⟩;refine⟨b1,n1,b2,n2,c2,rfl,q1.mono (hl.sub (by decide)),?_⟩;rcases q2 with q2| ⟨nb,e1,e2,e3,o⟩
  ·exact .inl q2
  ·exact .inr ⟨nb,e1,e2,e3,o.mono (hl.sub (by decide))⟩
def EC(gs:List (Option Nat)):Prop:=∀(i j nb:Nat),gs[i]? =some (some nb)->gs[j]? =some (some nb)->i=j
def uG(nm:ByteArray):Bool:=decide (gJ ⟨nm,[⟨nA,2,false⟩],0,false⟩≠0)
def tC(d:DB)(s:Int)(nm:ByteArray):DB×Int:=
 if lK (cA d.au s)=true then if uG nm=true then(d,12)else match d.au[dr (cA d.au s)]? with
  |some w=>if decide ((w.marks.length:Int)>=10)=true then(d,4)else(⟨d.aE,d.au.set (dr (cA d.au s)) ⟨w.s,w.log,w.marks++[⟨nm,(w.log.length:Int)⟩]⟩,d.holds,d.waits⟩,0)
  |none=>(d,2)
 else(d,2)
end Go.S
