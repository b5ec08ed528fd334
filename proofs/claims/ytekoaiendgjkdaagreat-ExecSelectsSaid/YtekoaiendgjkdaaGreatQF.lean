import Derived.Test.YtekoaiendgjkdaaGreatQE
import Derived.Test.YtekoaiendgjkdaaGreatDB
import Derived.Test.YtekoaiendgjkdaaGreatEB
import Derived.Test.YtekoaiendgjkdaaGreatQD
import Derived.Test.YtekoaiendgjkdaaGreatQC
set_option linter.unusedVariables false
set_option linter.unusedSimpArgs false
set_option linter.unusedSectionVars false
set_option maxRecDepth 100000
set_option maxHeartbeats 8000000
namespace Go.S
open Go.Sx Go.Proofs
structure cJh(B h:ad)(ob:Nat)(l:List Int):Prop where
 out:∃b n c,h ob=some (.cells #[.slice b n c] 240 (0,0))/\cF 3 dE B h (.slice b n c) l
 le:Le B h
 no:B ob=none
def wq(d:DB)(s:Int)(x:aJ)(T:cW):DB×Int:=
 if mR T x≠0 then(d,mR T x)else match eN x.bV (aR T) (oY T x) T.rows ([],[])with
  | (p,e)=>if e≠0 then(d,e)else match iZ s x.table p.1 d with
   | (d,e)=>if e≠0 then(d,e)else uH s x.table p.2 d
def bXT(d:DB)(s:Int)(st:aJ)(T:cW):Prop:=∀ {h:ad} {pb:Nat} (q:fM h pb d s st) (hx:dr st) (FJ:st.kind=4) {n:Nat} (ej:EJ n d) (qC:n+600<2^18) (jx:-2^63<=s/\s<2^63) {wb tb:Nat} (gw:h wb=some (.cells #[.pointer (some ⟨pb,0,none⟩)] 99 (0,0)))
 (hT:bXU T) {b1:Option Addr} {n1 c1:Nat} {b2:Option Addr} {n2 c2:Nat} (gt:h tb=some (.cells #[.string T.S.name,.slice b1 n1 c1,.int .i64 T.S.key,.bool T.S.only,.slice b2 n2 c2] 51 (0,0))) (wO:Sl 165 bI h (.slice b1 n1 c1) T.S.cols) (Jp:Sl 59 aD h (.slice b2 n2 c2) T.rows)
 {k:Value->ad->Prop} (hk:∀h',Kp [pb] h h'->fM h' pb (wq d s st T).1 s st->k (.int .i64 (wq d s st T).2) h'),
 Ct 85 [.pointer (some ⟨wb,0,none⟩),.pointer (some ⟨tb,0,none⟩)] h k
theorem cKU{x:aJ}{y:Qy}(hg:y.group<0)(DF:∀i∈x.items,i.fn=1):Rp x y:=fun{h0 h qp cols} q hx hc {rows} hr mF hf hw {rb rn rc} l0 qr {k} hk=>cXy q hx hg DF qr.sl (fun h' b n c l s=>hk h' b n c (l0.trans l) s)
theorem Hf{d:DB}{s:Int}{st:aJ}(hj:st.join=b0)(h:cJf d s st):cJg d s st:=fun{h2 pb} q hx {n} ej jm jx {k} hk=>hZE q hx hj ej jm jx h hk
end Go.S
