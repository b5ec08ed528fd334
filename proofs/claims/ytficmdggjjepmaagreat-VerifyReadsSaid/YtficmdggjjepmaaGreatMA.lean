import Derived.Test.YtficmdggjjepmaaGreatLB
set_option linter.all false
set_option maxRecDepth 100000
set_option maxHeartbeats 8000000
namespace Go.S
open Go.Sx Go.Proofs
structure Q2(h0 h:ab)(sb:Option Addr)(sl sc:Nat)(tb:Option Addr)(tl tc:Nat)(seen todo:List Int)(p:Nat):Prop where
 le:Le h0 h
 seen:aT 3 dm h0 h (.slice sb sl sc) seen
 todo:iV 3 dm h0 h (.slice tb tl tc) todo p
 dQG:∀a,sb=some a->h a.block≠none
 dQv:∀a,tb=some a->h a.block≠none
 dj:∀a a',sb=some a->tb=some a'->a.block≠a'.block
structure Fx(E:List (Int×Int))(M:Nat)(st:List Int×List Int)(p:Nat):Prop where
 fm:CE E st.1+st.2.length<=M
 fp:p+CE E st.1<=E.length+1
 ft:st.2.length<=p
 fs:st.1.length+CE E st.1<=E.length
end Go.S
