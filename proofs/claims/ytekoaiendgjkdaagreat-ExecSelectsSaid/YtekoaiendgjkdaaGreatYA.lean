import Derived.Test.YtekoaiendgjkdaaGreatSA
import Derived.Test.YtekoaiendgjkdaaGreatQC
import Derived.Test.YtekoaiendgjkdaaGreatSxC
set_option linter.unusedVariables false
set_option linter.unusedSimpArgs false
set_option linter.unusedSectionVars false
set_option maxRecDepth 100000
set_option maxHeartbeats 8000000
namespace Go.S
open Go.Sx Go.Proofs
def mz{α:Type}(l:List α)(i j:Nat):List α:=match l[i]?,l[j]? with
 |some x,some y=>(l.set i y).set j x
 |_,_=>l
def hz{α:Type}:Nat->List α->Nat->Nat->List α
 |0,l,_,_=>l
 |n+1,l,i,j=>hz n (mz l i j) (i+1) (j+1)
abbrev a8(h:ad)(nb cap:Nat)(xs:List Row):Prop:=dI 59 aL h nb cap xs
abbrev q9:=334
structure hO(lt:Row->Row->Bool)(f:FuncId)(p0 p1:Value)(nb:Nat)(h0:ad)(a7:Row->Prop):Prop where
 ap:∀ {h':ad} {x y:Row} {bx:Option Addr} {nx cx:Nat} {jw:Option Addr} {ab ag:Nat},Kp [nb] h0 h'->cF [61] h0 h'->a7 x->a7 y->Sl 61 bq h' (.slice bx nx cx) x->Sl 61 bq h' (.slice jw ab ag) y->
 ∀ {k:Value->ad->Prop},(∀me z,Le h' me->(z<0↔lt x y=true)->k (.int .i64 z) me)->Ct f [.slice bx nx cx,.slice jw ab ag,p0,p1] h' k
def bb(c:List (Tg Row)):List Row:=c.map Prod.fst
structure j2(lt:Row->Row->Bool)(f:FuncId)(p0 p1:Value)(nb cap len:Nat)(a7:Row->Prop)(N:Nat):Prop where
 ap:∀ {P ak B Q:List (Tg Row)} {h:ad} (o:a8 h nb cap (bb (P++ak++B++Q))) (hN:ak.length+B.length<=N) (XD:ak.Pairwise (lx lt)) (hB:B.Pairwise (lx lt)) (ht:∀x∈ak,∀y∈B,x.2<y.2) (aO:∀x∈ak++B,a7 x.1) (cmp:hO lt f p0 p1 nb h a7) (hlen:len=(P++ak++B++Q).length) {an zm aH:Int} {a m b:Nat} (ha:aS an a) (hm:aS zm m) (hb:aS aH b) (ea:a=P.length) (em:m=P.length+ak.length) (eb:b=P.length+ak.length+B.length) (nA:0<ak.length) (aW:0<B.length) {k:Value->ad->Prop}
  (hk:∀h' C,Kp [nb] h h'->cF [61] h h'->C.Perm (ak++B)->C.Pairwise (lx lt)->a8 h' nb cap (bb (P++C++Q))->k (.tuple #[]) h'),
  Ct 289 [.slice (some ⟨nb,0,none⟩) len cap,.int .i64 an,.int .i64 zm,.int .i64 aH,.func (.func f) #[] #[p0,p1]] h k
inductive hM(lt:Row->Row->Bool)(bs:Nat):List (Tg Row)->List (Tg Row)->Prop
 |nil:hM lt bs [] []
 |cons {a0 C1 X C:List (Tg Row)}:a0.length=bs->C1.Perm a0->C1.Pairwise (lx lt)->hM lt bs X C->hM lt bs (a0++X) (C1++C)
inductive hP(lt:Row->Row->Bool)(bs:Nat):List (Tg Row)->List (Tg Row)->Prop
 |last {X C:List (Tg Row)}:X.length<=bs->C.Perm X->C.Pairwise (lx lt)->hP lt bs X C
 |cons {a0 C1 X C:List (Tg Row)}:a0.length=bs->C1.Perm a0->C1.Pairwise (lx lt)->hP lt bs X C->hP lt bs (a0++X) (C1++C)
end Go.S
