import Derived.Test.YtekoaiendgjkdaaGreatQB
import Derived.Test.YtekoaiendgjkdaaGreatRd
import Derived.Test.YtekoaiendgjkdaaGreatSxC
set_option linter.unusedVariables false
set_option linter.unusedSimpArgs false
set_option linter.unusedSectionVars false
set_option maxRecDepth 100000
set_option maxHeartbeats 8000000
namespace Go.S
open Go.Sx Go.Proofs
def Bx{α:Type}(e:Nat)(s:Sh α)(B h:ad)(nb:Option Nat)(v:Value)(xs:List α):Prop:=
 (nb=none/\v=.slice none 0 0/\xs=[])\/∃j cap,nb=some j/\v=.slice (some ⟨j,0,none⟩) xs.length cap/\B j=none/\dI e s h j cap xs
def ov:Value->List Nat
 | .slice (some a) _ _=>[a.block]
 |_=>[]
structure hJ{α:Type}(e:Nat)(s:Sh α)(B h:ad)(v1:Value)(xs:List α)(v2:Value)(ys:List α):Prop where
 out:∃o1 o2,Bx e s B h o1 v1 xs/\Bx e s B h o2 v2 ys/\∀j,o1=some j->o2≠some j
def hI(w:List Nd)(a2:List bT)(f:Row->Row×Int)(r:Row)(xs ys:List Row):(List Row×List Row)×Int:=match dL w a2 r with
 | (is,e)=>if e≠0 then((xs,ys),e)else if is=false then((xs,ys),0)else((xs++[r],ys++[(f r).1]),(f r).2)
structure r5(B h:ad)(rp fp:Nat)(xs ys:List Row):Prop where
 out:∃b1 n1 c1 b2 n2 c2,h rp=some (.cells #[.slice b1 n1 c1] 34 (0,0))/\h fp=some (.cells #[.slice b2 n2 c2] 34 (0,0))/\hJ 59 aL B h (.slice b1 n1 c1) xs (.slice b2 n2 c2) ys
 le:Le B h
 n1:B rp=none
 n2:B fp=none
 ne:rp≠fp
structure Mv(s:ByteArray):Prop where
 XS:W5 s
 sz:s.size<=2^30
open Go.Sx
structure gE(P:Row->Prop)(Pn:ByteArray->Prop)(d:DB):Prop where
 nm:∀t∈d.aE,Pn t.S.name
 rows:∀t∈d.aE,∀r∈t.rows,P r
 log:∀w∈d.au,∀c∈w.log,P c.row
section
variable {P:Row->Prop}{Pn:ByteArray->Prop}
def wW(P:Row->Prop)(Pn:ByteArray->Prop)(T:List cE):Prop:=∀t∈T,Pn t.S.name/\∀r∈t.rows,P r
end
def fM(r:Row):Prop:=∀v∈r,lj v
structure EJ(n:Nat)(d:DB):Prop where
 sj:SJ n d
 al:gE fM Mv d
structure R4(T:cE):Prop where
 nm:Mv T.S.name
 a2:T.S.a2=bB\/(T.S.a2=[]/\T.rows=[])
 key:T.S.key=0
 row:∀r∈T.rows,lN r/\fM r
 len:T.rows.length<=200
def td(d:DB)(s:Int)(x:az)(T:cE):DB×Int:=
 if aF x.bM (aJ T)≠0 then(d,aF x.bM (aJ T))else match lJ x.bM (aJ T) (fun _=>([],0)) T.rows ([],[])with
  | (p,e)=>if e≠0 then(d,e)else sH s x.table p.1 d
def Qw(d:DB)(s:Int)(st:az)(T:cE):Prop:=∀ {h:ad} {pb:Nat} (q:dS h pb d s st) (hx:eG st) {n:Nat} (ej:EJ n d) (um:n+300<2^18) (iQ:-2^63<=s/\s<2^63) {wb tb:Nat} (gw:h wb=some (.cells #[.pointer (some ⟨pb,0,none⟩)] 99 (0,0)))
 (hT:R4 T) {b1:Option Addr} {n1 c1:Nat} {b2:Option Addr} {n2 c2:Nat} (gt:h tb=some (.cells #[.string T.S.name,.slice b1 n1 c1,.int .i64 T.S.key,.bool T.S.only,.slice b2 n2 c2] 51 (0,0))) (EX:Sl 165 bt h (.slice b1 n1 c1) T.S.a2) (SQ:Sl 59 aL h (.slice b2 n2 c2) T.rows)
 {k:Value->ad->Prop} (hk:∀h',Kp [pb] h h'->dS h' pb (td d s st T).1 s st->k (.int .i64 (td d s st T).2) h'),
 Ct 95 [.pointer (some ⟨wb,0,none⟩),.pointer (some ⟨tb,0,none⟩)] h k
def kI(c:bT):bT:=⟨c.name,2,c.null⟩
def lT:Nat->Nat->Row
 |_,0=>[]
 |i,n+1=>⟨2,(i:Int),b0⟩::lT (i+1) n
structure lf(h:ad)(qp:Nat)(x:az)(a2:List bT)(y:Qy):Prop where
 out:∃b5 n5 c5 b6 n6 c6 b7 n7 c7 b8 n8 c8 b9 n9 c9 fG gG fF cb cn cc,h qp=some (.cells #[.int .i64 x.kind,.string x.mS.name,.slice b5 n5 c5,.int .i64 x.mS.key,.bool x.mS.only,.string x.table,.string x.join,.slice b6 n6 c6,.slice b7 n7 c7,.slice b8 n8 c8,.slice b9 n9 c9,.slice fG gG fF,.string x.group,.string x.order,.bool x.desc,.int .i64 x.fw,.string x.name,.slice cb cn cc,.int .i64 y.group,.int .i64 y.order,.bool y.jK] 188 (0,0))/\Sl 165 bt h (.slice b5 n5 c5) x.mS.a2/\Sl 325 dh h (.slice b6 n6 c6) x.on/\Sl 9 cB h (.slice b7 n7 c7) x.names/\Sl 42 fB h (.slice b8 n8 c8) x.exprs/\Sl 276 cm h (.slice b9 n9 c9) x.items/\Sl 325 dh h (.slice fG gG fF) x.bM/\Sl 165 bt h (.slice cb cn cc) a2
end Go.S
