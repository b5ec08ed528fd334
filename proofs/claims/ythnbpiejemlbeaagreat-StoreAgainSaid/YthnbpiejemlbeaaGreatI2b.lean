import Derived.Test.YthnbpiejemlbeaaGreatI2a
set_option linter.all false
set_option maxRecDepth 100000
set_option maxHeartbeats 4000000
namespace Go.Sx
def Fr(hA h yM h':ad):Prop:=∀b o,hA b=none->h b=some o->h' b=some o/\yM b=none
theorem Fr.le{A h y h':ad}(fr:Fr A h y h')(l:Le A h)(d:Le A y)(e:Le y h'):Le h h':=λb o c=>by
 cases a:A b with
 |none=>exact(fr b o a c).1
 |some o'=>have:=l b o' a;rw[c]at this;cases this;exact e b o (d b o a)
theorem Hl.cJc{p:Unit->Program}{f:FuncId}{args:List Value}{A h:ad}{R:Value->ad->Prop}(hl:Le A h)(c:Hl p f args A R){k:Value->ad->Prop}(m:∀v y h',R v y->Le y h'->Fr A h y h'->k v h'):Hl p f args h k:=by
 refine⟨λw j=>?_⟩;refine(c.out w (λb o a=>j b o (hl b o a))).mono λe w' ⟨v,y,he,hR,g⟩=>?_;obtain⟨h',Q⟩:∃h':ad,∀b,h' b=match y b with
  |some o=>some o
  |none=>match A b with
   |some _=>none
   |none=>h b:=⟨λb=>match y b with
  |some o=>some o
  |none=>match A b with
   |some _=>none
   |none=>h b,λ_=>rfl⟩
 have V:∀b o,A b=none->h b=some o->w'.heap[b]? =some o/\y b=none:=λb o d i=>by
  have l:=j b o i;have:=g.frame b (kJh.1 l).1 d
  grind
 refine⟨v,h',he,m v y h' hR (λb o a=>by rw[Q,a]) (λb o d i=>?_),⟨g.os,g.tape,g.output,g.size,λb o a=>?_,λb a n=>?_⟩⟩
 .grind
 .rw[Q]at a;cases d:y b with
  |some o'=>rw[d]at a;cases a;exact g.EP b o d
  |none=>
   grind
 have d:A b=none:=by
  cases i:A b with
  |none=>rfl
  |some o=>rw[hl b o i]at n;cases n
 have:=g.frame b a d
 grind
end Go.Sx
namespace Go.S
open Go.Sx Go.Proofs
end Go.S
