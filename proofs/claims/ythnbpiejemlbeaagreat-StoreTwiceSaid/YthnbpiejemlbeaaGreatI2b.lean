import Derived.Test.YthnbpiejemlbeaaGreatI2a
set_option linter.all false
set_option maxRecDepth 100000
set_option maxHeartbeats 4000000
namespace Go.Sx
def Fr(hA h xV h':ad):Prop:=∀b o,hA b=none->h b=some o->h' b=some o/\xV b=none
theorem Fr.le{A h x h':ad}(fr:Fr A h x h')(l:Le A h)(d:Le A x)(e:Le x h'):Le h h':=λb o c=>by
 cases a:A b with
 |none=>exact(fr b o a c).1
 |some o'=>have:=l b o' a;rw[c]at this;cases this;exact e b o (d b o a)
theorem Gt.cXw{p:Unit->Program}{f:FuncId}{args:List Value}{A h:ad}{R:Value->ad->Prop}(hl:Le A h)(c:Gt p f args A R){k:Value->ad->Prop}(m:∀v x h',R v x->Le x h'->Fr A h x h'->k v h'):Gt p f args h k:=by
 refine⟨λw l=>?_⟩;refine(c.out w (λb o a=>l b o (hl b o a))).mono λe w' ⟨v,x,he,hR,i⟩=>?_;obtain⟨h',J⟩:∃h':ad,∀b,h' b=match x b with
  |some o=>some o
  |none=>match A b with
   |some _=>none
   |none=>h b:=⟨λb=>match x b with
  |some o=>some o
  |none=>match A b with
   |some _=>none
   |none=>h b,λ_=>rfl⟩
 have T:∀b o,A b=none->h b=some o->w'.heap[b]? =some o/\x b=none:=λb o d g=>by
  have j:=l b o g;have:=i.frame b (jKc.1 j).1 d;exact⟨this.1.trans j,this.2⟩
 refine⟨v,h',he,m v x h' hR (λb o a=>by rw[J,a]) (λb o d g=>?_),⟨i.os,i.tape,i.output,i.size,λb o a=>?_,λb a n=>?_⟩⟩
 .have:=T b o d g;exact⟨by rw[J,this.2,d];exact g,this.2⟩
 .rw[J]at a;cases d:x b with
  |some o'=>rw[d]at a;cases a;exact i.Ee b o d
  |none=>
   rw[d]at a;cases g:A b with
   |some o'=>rw[g]at a;cases a
   |none=>rw[g]at a;exact(T b o g a).1
 have d:A b=none:=by
  cases g:A b with
  |none=>rfl
  |some o=>rw[hl b o g]at n;cases n
 have:=i.frame b a d;refine⟨this.1,?_⟩;rw[J,this.2,d];exact n
end Go.Sx
namespace Go.S
open Go.Sx Go.Proofs
end Go.S
