import Derived.Test.YthnbpiejemlbeaaGreatI2a
set_option linter.all false
set_option maxRecDepth 100000
set_option maxHeartbeats 4000000
namespace Go.Sx
def Fr(hA h AZ h':ab):Prop:=∀b o,hA b=none->h b=some o->h' b=some o/\AZ b=none
theorem Fr.le{A h Z h':ab}(fr:Fr A h Z h')(l:Le A h)(d:Le A Z)(e:Le Z h'):Le h h':=λb o c=>by
 cases a:A b with
 |none=>exact(fr b o a c).1
 |some o'=>have:=l b o' a;rw[c]at this;cases this;exact e b o (d b o a)
theorem Dr.cJT{p:Unit->Program}{f:FuncId}{args:List Value}{i h:ab}{R:Value->ab->Prop}(hl:Le i h)(c:Dr p f args i R){k:Value->ab->Prop}(q:∀v A h',R v A->Le A h'->Fr i h A h'->k v h'):Dr p f args h k:=by
 refine⟨λw m=>?_⟩;refine(c.out w (λb o a=>m b o (hl b o a))).mono λe r ⟨v,A,he,hR,j⟩=>?_;obtain⟨h',K⟩:∃h':ab,∀b,h' b=match A b with
  |some o=>some o
  |none=>match i b with
   |some _=>none
   |none=>h b:=⟨λb=>match A b with
  |some o=>some o
  |none=>match i b with
   |some _=>none
   |none=>h b,λ_=>rfl⟩
 have P:∀b o,i b=none->h b=some o->r.heap[b]? =some o/\A b=none:=λb o d g=>by
  have l:=m b o g;have:=j.frame b (Array.getElem?_eq_some_iff.1 l).1 d;exact⟨this.1.trans l,this.2⟩
 refine⟨v,h',he,q v A h' hR (λb o a=>by rw[K,a]) (λb o d g=>?_),⟨j.os,j.tape,j.output,j.size,λb o a=>?_,λb a n=>?_⟩⟩
 .have:=P b o d g;exact⟨by rw[K,this.2,d];exact g,this.2⟩
 .rw[K]at a;cases d:A b with
  |some o'=>rw[d]at a;cases a;exact j.Bf b o d
  |none=>
   rw[d]at a;cases g:i b with
   |some o'=>rw[g]at a;cases a
   |none=>rw[g]at a;exact(P b o g a).1
 have d:i b=none:=by
  cases g:i b with
  |none=>rfl
  |some o=>rw[hl b o g]at n;cases n
 have:=j.frame b a d;refine⟨this.1,?_⟩;rw[K,this.2,d];exact n
structure Dh{α:Type}(e:Nat)(s:Sh α)(hD h0 h:ab)(v:Value)(xs:List α):Prop where
 out:(∃b,v=.slice b 0 0/\xs=[])\/∃nb cap,v=.slice (some ⟨nb,0,none⟩) xs.length cap/\h0 nb=none/\hD nb=none/\cA e s h nb cap xs
end Go.Sx
namespace Go.S
open Go.Sx Go.Proofs
end Go.S
