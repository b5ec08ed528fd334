import Derived.Test.YtficmdggjjepmaaGreatI2a
set_option linter.all false
set_option maxRecDepth 100000
set_option maxHeartbeats 4000000
namespace Go.Sx
def Fr(hA h sU h':ab):Prop:=∀b o,hA b=none->h b=some o->h' b=some o/\sU b=none
theorem Fr.le{A h s h':ab}(fr:Fr A h s h')(l:Le A h)(d:Le A s)(e:Le s h'):Le h h':=λb o c=>by
 cases a:A b with
 |none=>exact(fr b o a c).1
 |some o'=>have:=l b o' a;rw[c]at this;cases this;exact e b o (d b o a)
theorem Ca.WN{p:Unit->Program}{f:FuncId}{args:List Value}{A h:ab}{R:Value->ab->Prop}(hl:Le A h)(c:Ca p f args A R){k:Value->ab->Prop}(m:∀v s h',R v s->Le s h'->Fr A h s h'->k v h'):Ca p f args h k:=by
 refine⟨λw l=>?_⟩;refine(c.out w (λb o a=>l b o (hl b o a))).mono λe q ⟨v,s,he,hR,i⟩=>?_;obtain⟨h',Q⟩:∃h':ab,∀b,h' b=match s b with
  |some o=>some o
  |none=>match A b with
   |some _=>none
   |none=>h b:=⟨λb=>match s b with
  |some o=>some o
  |none=>match A b with
   |some _=>none
   |none=>h b,λ_=>rfl⟩
 have N:∀b o,A b=none->h b=some o->q.heap[b]? =some o/\s b=none:=λb o d g=>by
  have j:=l b o g;have:=i.frame b (zj.1 j).1 d;exact⟨this.1.trans j,this.2⟩
 refine⟨v,h',he,m v s h' hR (λb o a=>by rw[Q,a]) (λb o d g=>?_),⟨i.os,i.tape,i.output,i.size,λb o a=>?_,λb a n=>?_⟩⟩
 .have:=N b o d g;exact⟨by rw[Q,this.2,d];exact g,this.2⟩
 .rw[Q]at a;cases d:s b with
  |some o'=>rw[d]at a;cases a;exact i.zc b o d
  |none=>
   rw[d]at a;cases g:A b with
   |some o'=>rw[g]at a;cases a
   |none=>rw[g]at a;exact(N b o g a).1
 have d:A b=none:=by
  cases g:A b with
  |none=>rfl
  |some o=>rw[hl b o g]at n;cases n
 have:=i.frame b a d;refine⟨this.1,?_⟩;rw[Q,this.2,d];exact n
structure Bq{α:Type}(e:Nat)(s:Sh α)(hD h0 h:ab)(v:Value)(xs:List α):Prop where
 out:(∃b,v=.slice b 0 0/\xs=[])\/∃nb cap,v=.slice (some ⟨nb,0,none⟩) xs.length cap/\h0 nb=none/\hD nb=none/\cM e s h nb cap xs
end Go.Sx
namespace Go.S
open Go.Sx Go.Proofs
end Go.S
