import Derived.Test.YtekoaiendgjkdaaGreatGC
import Derived.Test.YtekoaiendgjkdaaGreatEC
set_option linter.unusedVariables false
set_option linter.unusedSimpArgs false
set_option linter.unusedSectionVars false
set_option maxRecDepth 100000
set_option maxHeartbeats 16000000
namespace Go.S
open Go.Sx Go.Proofs
def MG:ByteArray:=⟨#[116,97]⟩
def nM:ByteArray:=⟨#[109]⟩
def dbW(s:Int):DB:=⟨ed.aE,[⟨s,[],[]⟩],[],[]⟩
set_option maxHeartbeats 4000000
def lN(r:Row):Prop:=∃a v,r=[⟨2,a,pJ⟩,v]/\(v=⟨0,0,pJ⟩\/∃s,v=⟨3,0,s⟩/\s.size<=60)
theorem th(s:ByteArray):eX s s=0:=by
 unfold eX;have h:∀l:List UInt8,Lib.compareBytes l l=0:=fun l=>by
  induction l with
  |nil=>rfl
  |cons x r ih=>unfold Lib.compareBytes;simp[ih]
 exact h _
theorem yQ(a:Int):iC a a=0:=by unfold iC;simp
theorem lN.fits{r:Row}(h:lN r):bV bB r=0:=by
 obtain⟨a,v,rfl,hv⟩:=h;have e0:¬((pJ.size:Int)>60):=by decide
 have e1:cQ ⟨2,a,pJ⟩=0:=by have:(⟨#[]⟩:ByteArray)=pJ:=rfl;simp[cQ,nE,jN,this,e0]
 have e2:cQ v=0/\(v.k=0\/v.k=3):=by
  rcases hv with rfl| ⟨s,rfl,hs⟩
  ·refine⟨?_,.inl rfl⟩;have:(⟨#[]⟩:ByteArray)=pJ:=rfl;simp[cQ,nE,jN,this,e0]
  ·refine⟨?_,.inr rfl⟩;have:¬((s.size:Int)>60):=by omega
   simp[cQ,nE,jN,this]
 have f1:bP ⟨nA,2,false⟩ ⟨2,a,pJ⟩=0:=by simp[bP,e1]
 have f2:bP ⟨⟨#[98]⟩,3,true⟩ v=0:=by unfold bP;rw[e2.1];rcases e2.2 with h|h<;>simp[h]
 unfold bV;simp[bB,f1,f2,dC]
def Xb:ByteArray:=⟨#[116,99]⟩
def only1(r:Row):DB:=⟨[cL 0,cL 1,⟨aT 2,[r]⟩],[⟨0,[⟨Xb,1,r⟩],[]⟩],[⟨0,Xb,true⟩],[]⟩
def only2(r:Row):DB:=⟨[⟨aT 0,[r]⟩,cL 1,⟨aT 2,[r]⟩],[⟨0,[⟨Xb,1,r⟩,⟨MG,1,r⟩],[]⟩],[⟨0,Xb,true⟩,⟨0,MG,true⟩],[]⟩
def only4(r:Row):DB:=⟨[⟨aT 0,[]⟩,cL 1,⟨aT 2,[r]⟩],[⟨0,[⟨Xb,1,r⟩,⟨MG,1,r⟩,⟨MG,2,r⟩],[]⟩],[⟨0,Xb,true⟩,⟨0,MG,true⟩],[]⟩
def hX(s:Int):bZ:=⟨s,MG,true⟩
def mnD(s:Int)(R:List Row)(L:List iX)(M:List Ns)(H:List bZ):DB:=⟨[⟨aT 0,R⟩,cL 1,cL 2],[⟨s,L,M⟩],H,[]⟩
def QJ{α:Type}(e:Int)(n:Nat)(a b c:α):α:=if(decide (e≠19)&&decide ((n:Int)>=60))=true then a else if decide (e=0)=true then b else c
def putR(R:List Row)(L:List iX)(r:Row):List Row×List iX×Int:=
 QJ (bI ⟨aT 0,R⟩ r).2 L.length (R,L,4) ((bI ⟨aT 0,R⟩ r).1.rows,L++[⟨MG,1,r⟩],0) (R,L,(bI ⟨aT 0,R⟩ r).2)
def takeR(R:List Row)(L:List iX)(k:dg):List Row×List iX×Int:=
 QJ (cK ⟨aT 0,R⟩ k).2.2 L.length (R,L,4) ((cK ⟨aT 0,R⟩ k).1.rows,L++[⟨MG,2,(cK ⟨aT 0,R⟩ k).2.1⟩],0) (R,L,(cK ⟨aT 0,R⟩ k).2.2)
theorem qQ(t:cE)(r:Row):(bI t r).1.S=t.S:=by
 unfold bI;repeat' split
 all_goals rfl
theorem xX(t:cE)(k:dg):(cK t k).1.S=t.S:=by unfold cK;split<;>rfl
end Go.S
namespace Go.Sx
end Go.Sx
namespace Go.S
open Go.Sx Go.Proofs
theorem gj.A7{h:ad}{d:DB}{b1 b2 b3 b4:Option Addr}{n1 c1 n2 c2 n3 c3 n4 c4:Nat}(q:gj h (.agg #[.slice b1 n1 c1,.slice b2 n2 c2,.slice b3 n3 c3,.slice b4 n4 c4]) d):Sl 51 cY h (.slice b1 n1 c1) d.aE:=by obtain⟨_,_,_,_,_,_,_,_,_,_,_,_,ws,he,qt,_⟩:=q.out;cases he;exact qt
abbrev R3.cells(v:R3):List Value:=[.slice v.b1 v.n1 v.c1,.slice v.b2 v.n2 v.c2,.slice v.b3 v.n3 v.c3,.slice v.b4 v.n4 v.c4]
abbrev R3.val(v:R3):Value:=.agg #[.slice v.b1 v.n1 v.c1,.slice v.b2 v.n2 v.c2,.slice v.b3 v.n3 v.c3,.slice v.b4 v.n4 v.c4]
def w0:R3:=⟨none,0,0,none,0,0,none,0,0,none,0,0⟩
def cmD(R:List Row):DB:=⟨[⟨aT 0,R⟩,cL 1,cL 2],[],[],[]⟩
def drD:DB:=⟨[cL 1,cL 2],[],[],[]⟩
def Ye(j:Int):Row:=[⟨2,j,pJ⟩,⟨0,0,pJ⟩]
def QD(m:Nat):List Row:=(List.range m).map fun j:Nat=>Ye (j:Int)
def YK(m:Nat):List iX:=(List.range m).map fun j:Nat=>⟨MG,1,Ye (j:Int)⟩
def mkH(i:Nat):List bZ:=if i=0 then []else [hX 0]
def mkD(i:Nat):DB:=mnD 0 (QD (min i 60)) (YK (min i 60)) [] (mkH i)
def svD(p j:Nat):DB:=mnD 0 (QD p) (YK p) (List.replicate (min j 10) ⟨nM,(p:Int)⟩) [hX 0]
end Go.S
