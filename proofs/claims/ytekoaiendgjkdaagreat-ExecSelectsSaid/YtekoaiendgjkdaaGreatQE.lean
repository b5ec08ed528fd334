import Derived.Test.YtekoaiendgjkdaaGreatQD
import Derived.Test.YtekoaiendgjkdaaGreatQC
set_option linter.unusedVariables false
set_option linter.unusedSimpArgs false
set_option linter.unusedSectionVars false
set_option maxRecDepth 100000
set_option maxHeartbeats 8000000
namespace Go.S
open Go.Sx Go.Proofs
def dc(s:Int):List ByteArray->DB->DB×Int:=wE fun d nm=>ay d ⟨s,nm,false⟩
def bC(st:az):List ByteArray:=if st.join=b0 then [st.table]else [st.table,st.join]
def dA(d:DB)(st:az):List bT:=aJ (bO d st.table)++(if st.join=b0 then []else aJ (bO d st.join))
def zC(d:DB)(st:az):List Row:=if st.join=b0 then [[]]else(bO d st.join).rows
def XV(x:az)(y:Qy):Prop:=∀ {h0 h:ad} {qp:Nat} {a2:List bT} (q:lf h qp x a2 y) (hx:eG x) (hc:∀c∈a2,Nm c.name) {rows:List Row} (hr:∀r∈rows,fM r) (Hd:rows.length<=2^20) (hf:dm x a2=(y,0)) (hw:∀r∈rows,a2.length<=r.length) {rb:Option Addr} {rn rc:Nat} (l0:Le h0 h) (qr:cX 59 aL h0 h (.slice rb rn rc) rows)
 {k:Value->ad->Prop} (hk:∀h' b n c,Le h0 h'->Sl 59 aL h' (.slice b n c) (fC x a2 y.order rows).1->k (.tuple #[.slice b n c,.int .i64 (fC x a2 y.order rows).2]) h'),Ct 102 [.pointer (some ⟨qp,0,none⟩),.slice rb rn rc] h k
def H3(x:az)(y:Qy):Prop:=∀ {h0 h:ad} {qp:Nat} {a2:List bT} (q:lf h qp x a2 y) (hx:eG x) (hc:∀c∈a2,Nm c.name) {rows:List Row} (hr:∀r∈rows,fM r) (Hd:rows.length<=2^20) (hf:dm x a2=(y,0)) (hw:∀r∈rows,a2.length<=r.length) {rb:Option Addr} {rn rc:Nat} (l0:Le h0 h) (qr:cX 59 aL h0 h (.slice rb rn rc) rows)
 {k:Value->ad->Prop} (hk:∀h' b n c,Le h0 h'->Sl 59 aL h' (.slice b n c) (eS x a2 y.group rows).1->k (.tuple #[.slice b n c,.int .i64 (eS x a2 y.group rows).2]) h'),Ct 103 [.pointer (some ⟨qp,0,none⟩),.slice rb rn rc] h k
def Qt(d:DB)(s:Int)(st:az):Prop:=∀ {h:ad} {pb:Nat} (q:dS h pb d s st) (hx:eG st) {n:Nat} (ej:EJ n d) (gP:n+700<2^18) (iQ:-2^63<=s/\s<2^63) {k:Value->ad->Prop}
 (hk:∀h' b n c,Kp [pb] h h'->dS h' pb (dJ d s st).1 s st->Sl 59 aL h' (.slice b n c) (dJ d s st).2.1->k (.tuple #[.slice b n c,.int .i64 (dJ d s st).2.2]) h'),Ct 44 [.pointer (some ⟨pb,0,none⟩)] h k
def WX(d:DB)(s:Int)(st:az):Prop:=∀ {h:ad} {pb:Nat} (q:dS h pb d s st) (hx:eG st) {n:Nat} (ej:EJ n d) (gP:n+700<2^18) (iQ:-2^63<=s/\s<2^63) {k:Value->ad->Prop}
 (hk:∀h',Kp [pb] h h'->dS h' pb (fH d s st).1 s st->k (.tuple #[.slice none 0 0,.int .i64 (fH d s st).2.2]) h'),Ct 42 [.pointer (some ⟨pb,0,none⟩)] h k
def W3(d:DB)(s:Int)(st:az):Prop:=∀ {h:ad} {pb:Nat} (q:dS h pb d s st) (hx:eG st) {n:Nat} (ej:EJ n d) (gP:n+700<2^18) (iQ:-2^63<=s/\s<2^63) {k:Value->ad->Prop}
 (hk:∀h',Kp [pb] h h'->dS h' pb (fL d s st).1 s st->k (.tuple #[.slice none 0 0,.int .i64 (fL d s st).2.2]) h'),Ct 43 [.pointer (some ⟨pb,0,none⟩)] h k
structure j8(d:DB)(s:Int)(st:az):Prop where
 qe:st.kind=6->Qt d s st
 Gf:st.kind=4->WX d s st
 del:st.kind=5->W3 d s st
def WY(d:DB)(s:Int)(st:az):Prop:=∀y,dm st (dA (dc s (bC st) d).1 st)=(y,0)->(y.jK=true->H3 st y)/\(y.jK=false->XV st y)
end Go.S
