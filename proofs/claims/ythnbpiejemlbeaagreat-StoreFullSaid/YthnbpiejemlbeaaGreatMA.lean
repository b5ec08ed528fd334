import Derived.Test.YthnbpiejemlbeaaGreatLB
set_option linter.all false
set_option maxRecDepth 100000
set_option maxHeartbeats 8000000
namespace Go.S
open Go.Sx Go.Proofs
structure Q2(h0 h:ab)(sb:Option Addr)(sl sc:Nat)(tb:Option Addr)(tl tc:Nat)(seen todo:List Int)(p:Nat):Prop where
 le:Le h0 h
 seen:aU 3 cN h0 h (.slice sb sl sc) seen
 todo:jK 3 cN h0 h (.slice tb tl tc) todo p
 dKP:∀a,sb=some a->h a.block≠none
 dKE:∀a,tb=some a->h a.block≠none
 dj:∀a a',sb=some a->tb=some a'->a.block≠a'.block
structure Fx(E:List (Int×Int))(M:Nat)(st:List Int×List Int)(p:Nat):Prop where
 fm:wI E st.1+st.2.length<=M
 fp:p+wI E st.1<=E.length+1
 ft:st.2.length<=p
 fs:st.1.length+wI E st.1<=E.length
end Go.S
