import Derived.Test.YtekoaiendgjkdaaGreatWC
import Derived.Test.YtekoaiendgjkdaaGreatYB
set_option linter.unusedVariables false
set_option linter.unusedSimpArgs false
set_option linter.unusedSectionVars false
set_option maxRecDepth 100000
set_option maxHeartbeats 8000000
namespace Go.S
open Go.Sx
structure ow(st:az):Prop where
 kd:st.kind=6
 tb:st.table=iB 0
 jn:st.join=b0
 on:st.on=[]
 wh:st.bM=[]
def mr:ByteArray:=⟨#[115,101,108,101,99,116,32,98,44,32,97,32,102,114,111,109,32,116,97,32,111,114,100,101,114,32,98,121,32,98]⟩
def mn:ByteArray:=⟨#[115,101,108,101,99,116,32,98,44,32,97,32,102,114,111,109,32,116,97,32,111,114,100,101,114,32,98,121,32,98,32,100,101,115,99]⟩
def m9(a1:Bool):az:={ kind:=6,table:=iB 0,items:=[⟨0,[qy]⟩,⟨0,[mj]⟩],order:=ax [98],desc:=a1,fw:=-1 }
def pv(r:Row):Row:=[ba r,iN (aN r)]
structure q6(a1:Bool)(r s:Row):Prop where
 ex:∃a v b w,r=[v,iN a]/\s=[w,iN b]/\kc v/\kc w/\(a1=false->¬ch v w>0)/\(a1=true->¬ch v w<0)/\(ch v w=0->a<b)
def mv:ByteArray:=⟨#[115,101,108,101,99,116,32,42,32,102,114,111,109,32,116,97]⟩
def pt:ByteArray:=⟨#[115,101,108,101,99,116,32,97,32,102,114,111,109,32,116,97,32,111,114,100,101,114,32,98,121,32,97,32,100,101,115,99]⟩
def nr:List ByteArray:=[⟨#[48]⟩,⟨#[49]⟩,⟨#[50]⟩,⟨#[51]⟩,⟨#[52]⟩,⟨#[53]⟩,⟨#[54]⟩,⟨#[55]⟩,⟨#[56]⟩,⟨#[57]⟩,⟨#[49,48]⟩,⟨#[49,49]⟩]
def mm(s:ByteArray):ByteArray:=ax [115,101,108,101,99,116,32,42,32,102,114,111,109,32,116,97,32,108,105,109,105,116,32]++s
def qd(n:Int):az:={ kind:=6,table:=iB 0,fw:=n }
def m7:az:={ kind:=6,table:=iB 0,items:=[⟨0,[mj]⟩],order:=ax [97],desc:=true,fw:=-1 }
open Go.Sx Go.Proofs
end Go.S
