import Derived.Test.YtifjeceolckgaaaGreatFX
import Derived.Test.YtifjeceolckgaaaGreatWB
import Derived.Deep.Slices
set_option linter.all false
set_option maxRecDepth 100000
set_option maxHeartbeats 8000000
namespace Go.S
open Go.Sx Go.Proofs Go.ChangeShapes Go.WideShapes Go.ChangeAt Go.RowKit
variable {H:Type}{enc:TypeId×Value->H}{W:World}
theorem four{e:Type}{xs:List e}(h:xs.length=4):∃a b c d,xs=[a,b,c,d]:=by
 match xs,h with
 | [a,b,c,d],_=>exact⟨a,b,c,d,rfl⟩
theorem UG{n:Nat}{cs:List Value}{x:DataW H×List MemPlace}(h:DataW.trod enc Tryz.prog W 0 (λ_=>true) true n 24 cs=some x):
 ∃a:wK,kn.R (full W) cs a:=by
 obtain⟨xs,m,-,-,o,hx,l⟩:=DataW.trod_struct Tryz.underlying24 h;have o:cs.length=4:=o.trans (by kernel_rfl);obtain⟨c,b,d,e,rfl⟩:=four o;obtain⟨y,y1,y2,y3,rfl⟩:=four (hx.trans (by rfl));have f:Tryz.prog.cellsOf 3=1:=by kernel_rfl
 have g:=l 0 _ rfl;have i:=l 1 _ rfl;have j:=l 2 _ rfl;have k:=l 3 _ rfl;change DataW.trod enc Tryz.prog W 0 (λ_=>true) true m 3 (([c,b,d,e].drop 0).take (Tryz.prog.cellsOf 3))=some y at g;rw[f]at g;change DataW.trod enc Tryz.prog W 0 (λ_=>true) true m 3 [c]=some y at g;change DataW.trod enc Tryz.prog W 0 (λ_=>true) true m 3 (([c,b,d,e].drop 1).take (Tryz.prog.cellsOf 3))=some y1 at i;rw[f]at i;change DataW.trod enc Tryz.prog W 0 (λ_=>true) true m 3 [b]=some y1 at i;change DataW.trod enc Tryz.prog W 0 (λ_=>true) true m 3 (([c,b,d,e].drop 2).take (Tryz.prog.cellsOf 3))=some y2 at j;rw[f]at j;change DataW.trod enc Tryz.prog W 0 (λ_=>true) true m 3 [d]=some y2 at j;change DataW.trod enc Tryz.prog W 0 (λ_=>true) true m 3 (([c,b,d,e].drop 3).take (Tryz.prog.cellsOf 3))=some y3 at k;rw[f]at k;change DataW.trod enc Tryz.prog W 0 (λ_=>true) true m 3 [e]=some y3 at k;obtain⟨s,h0,-,-⟩:=DataW.trod_int Tryz.underlying3 g;obtain⟨t,p,-,-⟩:=DataW.trod_int Tryz.underlying3 i;obtain⟨u,q,-,-⟩:=DataW.trod_int Tryz.underlying3 j;obtain⟨v,r,-,-⟩:=DataW.trod_int Tryz.underlying3 k;simp only[List.cons.injEq,and_true]at h0 p q r;subst h0 p q r;exact⟨⟨s,t,u,v⟩,rfl⟩
theorem KY{w:World}{oB i:Nat}{v:Value}(h:w.cell? ⟨oB,i,none⟩=some v):∃c e fr,full w oB=some (.cells c e fr)/\c[i]? =some v:=by
 simp only[World.cell?]at h;split at h
 .rename_i a e fr b;exact⟨a,e,fr,b,by simpa using h⟩
 cases h
instance :Inhabited wK:=⟨⟨0,0,0,0⟩⟩
theorem ZV{v:Value}{d:DataW H}{p:List MemPlace}(h:DataW.Trod enc Tryz.prog W 0 (λ_=>true) true 22 v d p)
 (Y:∃a l c,v=.slice a l c) (T:∀elems spare,d=.slice elems spare->(elems.length+spare.length)*32<=2^47):∃xs,zW kn (full W) v xs:=by
 obtain⟨n,S⟩:=h;obtain⟨a,l,c,rfl⟩:=Y;have L:Tryz.prog.cellsOf 24=4:=by kernel_rfl
 rcases Go.Deep.open_slice Tryz.underlying22 S with⟨u,N⟩|⟨t,len,cap,m,k,D,Pl,u,N,h3,h4,O,P,C⟩
 .cases u;exact⟨[],⟨_,_,rfl,by simp,.inl rfl⟩⟩
 cases u;have R:m=c:=O;subst R;cases P;have X:=T _ _ rfl;have tW:l<=2^50:=by simp only[mQN,mJs]at X;omega
 rw[L]at C;have g:∀i,i<l->∃a:wK,∃cs,kn.R (full W) cs a/\cs.length=4/\∀j,j<4->W.cell? ((t.add (i*4)).add j)=cs[j]? :=by intro i b;obtain⟨cs,I,y⟩:=C i (by omega);obtain⟨-,z,Z⟩:=World.cells?_some I;obtain⟨a,qa⟩:=UG y;exact⟨a,cs,qa,z,Z⟩
 obtain⟨F,w⟩:=Go.Deep.choose_lt g;have Q:∀ {i x},((List.range l).map F)[i]? =some x->i<l/\x=F i:=by intro i x hx;have b:=(mQB.1 hx).1;simp only[mQN,mJs]at b;rw[mXe,List.getElem?_range b]at hx;exact⟨b,by cases hx;rfl⟩
 refine⟨(List.range l).map F,⟨some t,m,?_,?_,?_⟩⟩
 .simp
 .simpa using tW
 rcases mXI l with h0|h0
 .left;rw[h0];rfl
 right;obtain⟨U,I,y,z⟩:=w 0 h0;obtain⟨oB,off,s⟩:=t;have q:=z 0 (by omega);have M:s=none:=by
  cases s with
  |none=>rfl
  |some x=>
   simp only[World.cell?]at q;split at q
   .simp[Addr.add,y]at q
   rw[mXP (by omega)]at q;cases q
 subst M;simp only[cZG]at w q;rw[mXP (by omega)]at q;obtain⟨B,e,fr,E,-⟩:=KY q;have K:∀i,i<l->∀j,j<4->∃cs,kn.R (full W) cs (F i)/\cs.length=4/\B[off+i*4+j]? =cs[j]? :=by intro i b j f;obtain⟨cs,o,A,r⟩:=w i b;have:=r j f;rw[mXP (by omega)]at this;obtain⟨V,e',NQ,G,J⟩:=KY this;rw[E]at G;cases G;exact⟨cs,o,A,by rw[J,mXP (by omega)]⟩
 refine⟨oB,off,B,e,fr,rfl,E,?_,λi x hx=>?_⟩
 .obtain⟨cs,o,A,r⟩:=K (l-1) (by omega) 3 (by omega);rw[mXP (by omega)]at r;have:=(mXD.1 r).1;simp only[mQN,mJs,kn,mZJ];omega
 obtain⟨b,rfl⟩:=Q hx;show _=_;apply mXM;intro j;rw[mXl];split
 .rename_i f;obtain⟨cs,o,A,r⟩:=K i b j f;have:cs=[.int .i64 (F i).s,.int .i64 (F i).n,.int .i64 (F i).a,.int .i64 (F i).b]:=o;rw[<-this,<-r,mXr,mZj];rfl
 rename_i f;have f:¬j<4:=f;rw[mXX (by simp;omega)]
end Go.S
