import Derived.Test.YthnbpiejemlbeaaGreatFX
import Derived.Test.YthnbpiejemlbeaaGreatI2a
import Derived.Deep.Slices
set_option linter.all false
set_option maxRecDepth 100000
set_option maxHeartbeats 8000000
namespace Go.S
open Go.Sx Go.Proofs Go.ChangeShapes Go.WideShapes Go.ChangeAt Go.RowKit
variable {H:Type}{cs:List Value}{n:Nat}{enc:TypeId×Value->H}
structure DR where
 k:Int
 n:Int
 a1:Int
 a2:Int
 a3:Int
 a4:Int
 ax:Bool
 pn:Nat
def AM:Sh DR where
 n:=8
 R _ cs a:=∃pb pc,cs=[.int .i64 a.k,.int .i64 a.n,.int .i64 a.a1,.int .i64 a.a2,.int .i64 a.a3,.int .i64 a.a4,.bool a.ax,.slice pb a.pn pc]
 len:=by rintro h cs x ⟨_,_,rfl⟩;rfl
 one:=by rintro h cs x ⟨_,_,rfl⟩;rfl
 tys:=[]
 mono:=λ_ q=>q
structure Ou(a:DR):Prop where
 s:-2^63<=a.a2/\a.a2<2^63
 n:-2^63<=a.a4/\a.a4<2^63
theorem dKY{f:Type}{xs:List f}(h:xs.length=5):∃a b c d e,xs=[a,b,c,d,e]:=by
 match xs,h with
 | [a,b,c,d,e],_=>exact⟨a,b,c,d,e,rfl⟩
theorem eight{j:Type}{xs:List j}(h:xs.length=8):∃a b c d e f g i,xs=[a,b,c,d,e,f,g,i]:=by
 match xs,h with
 | [a,b,c,d,e,f,g,i],_=>exact⟨a,b,c,d,e,f,g,i,rfl⟩
theorem four{e:Type}{xs:List e}(h:xs.length=4):∃a b c d,xs=[a,b,c,d]:=by
 match xs,h with
 | [a,b,c,d],_=>exact⟨a,b,c,d,rfl⟩
theorem Oh{W:World}{x:DataW H×List MemPlace}(h:DataW.trod enc Tryz.prog W 0 (λ_=>true) true n 71 cs=some x):
 ∃a1 a2 A q B,cs=[.int .i64 a1,.int .i64 a2,.int .i64 A,.int .i64 q,.bool B]/\(-2^63<=a2/\a2<2^63)/\(-2^63<=q/\q<2^63):=by
 obtain⟨xs,m,-,-,hl,hx,g⟩:=DataW.trod_struct Tryz.underlying71 h;have hl:cs.length=5:=hl.trans (by kernel_rfl);obtain⟨c,a,d,e,f,rfl⟩:=dKY hl;obtain⟨z,y1,y2,y3,y4,rfl⟩:=dKY (hx.trans (by rfl));have e1:Tryz.prog.cellsOf 3=1:=by kernel_rfl
 have C:Tryz.prog.cellsOf 4=1:=by kernel_rfl
 have i:=g 0 _ rfl;have j:=g 1 _ rfl;have l:=g 2 _ rfl;have o:=g 3 _ rfl;have p:=g 4 _ rfl;change DataW.trod enc Tryz.prog W 0 (λ_=>true) true m 3 (([c,a,d,e,f].drop 0).take (Tryz.prog.cellsOf 3))=some z at i;rw[e1]at i;change DataW.trod enc Tryz.prog W 0 (λ_=>true) true m 3 [c]=some z at i;change DataW.trod enc Tryz.prog W 0 (λ_=>true) true m 3 (([c,a,d,e,f].drop 1).take (Tryz.prog.cellsOf 3))=some y1 at j;rw[e1]at j;change DataW.trod enc Tryz.prog W 0 (λ_=>true) true m 3 [a]=some y1 at j;change DataW.trod enc Tryz.prog W 0 (λ_=>true) true m 3 (([c,a,d,e,f].drop 2).take (Tryz.prog.cellsOf 3))=some y2 at l;rw[e1]at l;change DataW.trod enc Tryz.prog W 0 (λ_=>true) true m 3 [d]=some y2 at l;change DataW.trod enc Tryz.prog W 0 (λ_=>true) true m 3 (([c,a,d,e,f].drop 3).take (Tryz.prog.cellsOf 3))=some y3 at o;rw[e1]at o;change DataW.trod enc Tryz.prog W 0 (λ_=>true) true m 3 [e]=some y3 at o;change DataW.trod enc Tryz.prog W 0 (λ_=>true) true m 4 (([c,a,d,e,f].drop 4).take (Tryz.prog.cellsOf 4))=some y4 at p;rw[C]at p;change DataW.trod enc Tryz.prog W 0 (λ_=>true) true m 4 [f]=some y4 at p;obtain⟨k,h0,-,w0⟩:=DataW.trod_int Tryz.underlying3 i;obtain⟨s,r,-,D⟩:=DataW.trod_int Tryz.underlying3 j;obtain⟨t,v,-,F⟩:=DataW.trod_int Tryz.underlying3 l;obtain⟨u,w,-,E⟩:=DataW.trod_int Tryz.underlying3 o;obtain⟨b,y,-⟩:=DataW.trod_bool Tryz.underlying4 p;simp only[List.cons.injEq,and_true]at h0 r v w y;subst h0 r v w y;exact⟨k,s,t,u,b,rfl,CJ D,CJ E⟩
theorem Og{W:World}{x:DataW H×List MemPlace}(h:DataW.trod enc Tryz.prog W 0 (λ_=>true) true n 73 cs=some x):
 ∃a:DR,AM.R (full W) cs a/\Ou a:=by
 obtain⟨xs,m,-,-,hl,hx,w⟩:=DataW.trod_struct Tryz.underlying73 h;have hl:cs.length=8:=hl.trans (by kernel_rfl);obtain⟨e,f,g,i,j,o,p,d,rfl⟩:=eight hl;obtain⟨z,y1,y2,y3,rfl⟩:=four (hx.trans (by rfl));have e1:Tryz.prog.cellsOf 3=1:=by kernel_rfl
 have E:Tryz.prog.cellsOf 71=5:=by kernel_rfl
 have F:Tryz.prog.cellsOf 68=1:=by kernel_rfl
 have q:=w 0 _ rfl;have r:=w 1 _ rfl;have t:=w 2 _ rfl;have u:=w 3 _ rfl;change DataW.trod enc Tryz.prog W 0 (λ_=>true) true m 3 (([e,f,g,i,j,o,p,d].drop 0).take (Tryz.prog.cellsOf 3))=some z at q;rw[e1]at q;change DataW.trod enc Tryz.prog W 0 (λ_=>true) true m 3 [e]=some z at q;change DataW.trod enc Tryz.prog W 0 (λ_=>true) true m 3 (([e,f,g,i,j,o,p,d].drop 1).take (Tryz.prog.cellsOf 3))=some y1 at r;rw[e1]at r;change DataW.trod enc Tryz.prog W 0 (λ_=>true) true m 3 [f]=some y1 at r;change DataW.trod enc Tryz.prog W 0 (λ_=>true) true m 71 (([e,f,g,i,j,o,p,d].drop 2).take (Tryz.prog.cellsOf 71))=some y2 at t;rw[E]at t;change DataW.trod enc Tryz.prog W 0 (λ_=>true) true m 71 [g,i,j,o,p]=some y2 at t;change DataW.trod enc Tryz.prog W 0 (λ_=>true) true m 68 (([e,f,g,i,j,o,p,d].drop 7).take (Tryz.prog.cellsOf 68))=some y3 at u;rw[F]at u;change DataW.trod enc Tryz.prog W 0 (λ_=>true) true m 68 [d]=some y3 at u;obtain⟨k,h0,-,w0⟩:=DataW.trod_int Tryz.underlying3 q;obtain⟨s,v,-,P⟩:=DataW.trod_int Tryz.underlying3 r;obtain⟨a1,a2,A,B,C,y,L,M⟩:=Oh t;obtain⟨I,K,J,G⟩:∃b l c,d=.slice b l c:=by
  rcases Go.Deep.open_slice Tryz.underlying68 u with⟨v,y⟩|⟨N,l,c,m',O,D,Pl,v,-⟩
  .grind
  grind
 simp only[List.cons.injEq,and_true]at h0 v y;obtain⟨rfl,rfl,rfl,rfl,rfl⟩:=y;subst h0 v G;exact⟨⟨k,s,a1,a2,A,B,C,K⟩,⟨I,J,rfl⟩,L,M⟩
theorem CX{w:World}{l i:Nat}{v:Value}(h:w.cell? ⟨l,i,none⟩=some v):∃c e fr,full w l=some (.cells c e fr)/\c[i]? =some v:=by
 simp only[World.cell?]at h;split at h
 .rename_i cc e fr b;exact⟨cc,e,fr,b,iu h⟩
 cases h
instance :Inhabited DR:=⟨⟨0,0,0,0,0,0,false,0⟩⟩
theorem QQ{W:World}{v:Value}{d:DataW H}{p:List MemPlace}(h:DataW.Trod enc Tryz.prog W 0 (λ_=>true) true 66 v d p)
 (S:∃a l c,v=.slice a l c) (R:∀elems spare,d=.slice elems spare->(elems.length+spare.length)*80<=2^47):∃xs,Hz AM (full W) v xs/\∀x∈xs,Ou x:=by
 obtain⟨n,Q⟩:=h;obtain⟨a,l,c,rfl⟩:=S;have E:Tryz.prog.cellsOf 73=8:=by kernel_rfl
 rcases Go.Deep.open_slice Tryz.underlying66 Q with⟨r,G⟩|⟨o,len,cap,m,k,D,Pl,r,G,X,Y,J,L,u⟩
 .cases r;exact⟨[],⟨_,_,rfl,io,.inl rfl⟩,io⟩
 cases r;have P:m=c:=J;subst P;cases L;have Z:=R _ _ rfl;have I:l<=2^50:=by
  grind
 rw[E]at u;have b:∀i,i<l->∃a:DR,Ou a/\∃cs,AM.R (full W) cs a/\cs.length=8/\∀j,j<8->W.cell? ((o.add (i*8)).add j)=cs[j]? :=by
  intro i g;obtain⟨cs,y,z⟩:=u i ip;obtain⟨-,A,q4⟩:=World.cells?_some y
  grind [Og]
 obtain⟨F,f⟩:=Go.Deep.choose_lt b;have O:∀ {i x},((List.range l).map F)[i]? =some x->i<l/\x=F i:=by
  grind
 refine⟨(List.range l).map F,⟨some o,m,?_,?_,?_⟩,λx hx=>?_⟩
 .simp
 .simpa using I
 .rcases kZE l with h0|h0
  .grind
  right;obtain⟨T,y,z,A⟩:=(f 0 h0).2;obtain⟨U,off,s⟩:=o;have q:=A 0 ip;have M:s=none:=by
   cases s with
   |none=>rfl
   |some x=>
    simp only[World.cell?]at q;split at q
    .simp[Addr.add,z]at q
    grind
  subst M;simp only[bQW]at f q;rw[kZG ip]at q;obtain⟨cc,e,fr,N,-⟩:=CX q;have K:∀i,i<l->∀j,j<8->∃cs,AM.R (full W) cs (F i)/\cs.length=8/\cc[off+i*8+j]? =cs[j]? :=by
   intro i g j w;obtain⟨cs,B,C,t⟩:=(f i g).2
   grind [CX]
  refine⟨U,off,cc,e,fr,rfl,N,?_,λi x hx=>?_⟩
  .obtain⟨cs,B,C,t⟩:=K (l-1) ip 7 ip
   grind [AM]
  obtain⟨g,rfl⟩:=O hx;obtain⟨cs,B,C,t⟩:=(f i g).2;have:(cc.toList.drop (off+i*8)).take 8=cs:=by
   apply kZq;intro j;rw[kZo];split
   .rename_i w;have V:=t j w;rw[kZG ip]at V
    grind [CX]
   grind
  show AM.R _ ((cc.toList.drop (off+i*8)).take 8) _
  grind
 grind
end Go.S
