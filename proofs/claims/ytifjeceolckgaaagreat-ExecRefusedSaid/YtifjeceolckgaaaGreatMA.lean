import Derived.Test.YtifjeceolckgaaaGreatLB
set_option linter.all false
set_option maxRecDepth 100000
set_option maxHeartbeats 8000000
namespace Go.S
open Go.Sx Go.Proofs
structure Q2(h0 h:ad)(sb:Option Addr)(sl sc:Nat)(tb:Option Addr)(tl tc:Nat)(seen todo:List Int)(p:Nat):Prop where
 le:Le h0 h
 seen:cF 3 dE h0 h (.slice sb sl sc) seen
 todo:lQ 3 dE h0 h (.slice tb tl tc) todo p
 gZX:∀a,sb=some a->h a.block≠none
 gZC:∀a,tb=some a->h a.block≠none
 dj:∀a a',sb=some a->tb=some a'->a.block≠a'.block
structure Fx(E:List (Int×Int))(M:Nat)(st:List Int×List Int)(p:Nat):Prop where
 fm:BP E st.1+st.2.length<=M
 fp:p+BP E st.1<=E.length+1
 ft:st.2.length<=p
 fs:st.1.length+BP E st.1<=E.length
end Go.S
