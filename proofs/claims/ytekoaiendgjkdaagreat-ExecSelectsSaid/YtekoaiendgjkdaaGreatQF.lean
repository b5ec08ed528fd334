import Derived.Test.YtekoaiendgjkdaaGreatQE
import Derived.Test.YtekoaiendgjkdaaGreatDB
import Derived.Test.YtekoaiendgjkdaaGreatEB
import Derived.Test.YtekoaiendgjkdaaGreatQD
import Derived.Test.YtekoaiendgjkdaaGreatQC
set_option linter.unusedVariables false
set_option linter.unusedSimpArgs false
set_option linter.unusedSectionVars false
set_option maxRecDepth 100000
set_option maxHeartbeats 8000000
namespace Go.S
open Go.Sx Go.Proofs
structure Qv(B h:ad)(ob:Nat)(l:List Int):Prop where
 out:∃b n c,h ob=some (.cells #[.slice b n c] 240 (0,0))/\cX 3 dR B h (.slice b n c) l
 le:Le B h
 no:B ob=none
def qP(d:DB)(s:Int)(x:az)(T:cE):DB×Int:=
 if jL T x≠0 then(d,jL T x)else match lJ x.bM (aJ T) (Ef T x) T.rows ([],[])with
  | (p,e)=>if e≠0 then(d,e)else match sH s x.table p.1 d with
   | (d,e)=>if e≠0 then(d,e)else Jz s x.table p.2 d
def Qk(d:DB)(s:Int)(st:az)(T:cE):Prop:=∀ {h:ad} {pb:Nat} (q:dS h pb d s st) (hx:eG st) (BS:st.kind=4) {n:Nat} (ej:EJ n d) (um:n+600<2^18) (iQ:-2^63<=s/\s<2^63) {wb tb:Nat} (gw:h wb=some (.cells #[.pointer (some ⟨pb,0,none⟩)] 99 (0,0)))
 (hT:R4 T) {b1:Option Addr} {n1 c1:Nat} {b2:Option Addr} {n2 c2:Nat} (gt:h tb=some (.cells #[.string T.S.name,.slice b1 n1 c1,.int .i64 T.S.key,.bool T.S.only,.slice b2 n2 c2] 51 (0,0))) (EX:Sl 165 bt h (.slice b1 n1 c1) T.S.a2) (SQ:Sl 59 aL h (.slice b2 n2 c2) T.rows)
 {k:Value->ad->Prop} (hk:∀h',Kp [pb] h h'->dS h' pb (qP d s st T).1 s st->k (.int .i64 (qP d s st T).2) h'),
 Ct 85 [.pointer (some ⟨wb,0,none⟩),.pointer (some ⟨tb,0,none⟩)] h k
end Go.S
