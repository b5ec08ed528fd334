import Derived.Test.YthnbpiejemlbeaaGreatFX
import Derived.Test.YthnbpiejemlbeaaGreatI2a
import Derived.Deep.Slices
set_option linter.all false
set_option maxRecDepth 100000
set_option maxHeartbeats 8000000
namespace Go.S
open Go.Sx Go.Proofs Go.ChangeShapes Go.WideShapes Go.ChangeAt Go.RowKit
variable {H:Type}{cs:List Value}{n:Nat}{enc:TypeId×Value->H}
structure Gv where
 k:Int
 n:Int
 a1:Int
 a2:Int
 a3:Int
 a4:Int
 ax:Bool
 pn:Nat
def CI:Sh Gv where
 n:=8
 R _ cs a:=∃pb pc,cs=[.int .i64 a.k,.int .i64 a.n,.int .i64 a.a1,.int .i64 a.a2,.int .i64 a.a3,.int .i64 a.a4,.bool a.ax,.slice pb a.pn pc]
 len:=by rintro h cs x ⟨_,_,rfl⟩;rfl
 one:=by rintro h cs x ⟨_,_,rfl⟩;rfl
 tys:=[]
 mono:=λ_ q=>q
structure RQ(a:Gv):Prop where
 s:-2^63<=a.a2/\a.a2<2^63
 n:-2^63<=a.a4/\a.a4<2^63
theorem dJB{f:Type}{xs:List f}(h:xs.length=5):∃a b c d e,xs=[a,b,c,d,e]:=by
 match xs,h with
 | [a,b,c,d,e],_=>exact⟨a,b,c,d,e,rfl⟩
theorem eight{j:Type}{xs:List j}(h:xs.length=8):∃a b c d e f g i,xs=[a,b,c,d,e,f,g,i]:=by
 match xs,h with
 | [a,b,c,d,e,f,g,i],_=>exact⟨a,b,c,d,e,f,g,i,rfl⟩
theorem four{e:Type}{xs:List e}(h:xs.length=4):∃a b c d,xs=[a,b,c,d]:=by
 match xs,h with
 | [a,b,c,d],_=>exact⟨a,b,c,d,rfl⟩
theorem MU{W:World}{x:DataW H×List MemPlace}(h:DataW.trod enc Tryz.prog W 0 (λ_=>true) true n 71 cs=some x):
 ∃a1 a2 A q B,cs=[.int .i64 a1,.int .i64 a2,.int .i64 A,.int .i64 q,.bool B]/\(-2^63<=a2/\a2<2^63)/\(-2^63<=q/\q<2^63):=by
 obtain⟨xs,m,-,-,hl,hx,g⟩:=DataW.trod_struct Tryz.underlying71 h;have hl:cs.length=5:=hl.trans (by kernel_rfl);obtain⟨c,a,d,e,f,rfl⟩:=dJB hl;obtain⟨z,y1,y2,y3,y4,rfl⟩:=dJB (hx.trans (by rfl));have e1:Tryz.prog.cellsOf 3=1:=by kernel_rfl
 have C:Tryz.prog.cellsOf 4=1:=by kernel_rfl
 have i:=g 0 _ rfl;have j:=g 1 _ rfl;have l:=g 2 _ rfl;have o:=g 3 _ rfl;have p:=g 4 _ rfl;change DataW.trod enc Tryz.prog W 0 (λ_=>true) true m 3 (([c,a,d,e,f].drop 0).take (Tryz.prog.cellsOf 3))=some z at i;rw[e1]at i;change DataW.trod enc Tryz.prog W 0 (λ_=>true) true m 3 [c]=some z at i;change DataW.trod enc Tryz.prog W 0 (λ_=>true) true m 3 (([c,a,d,e,f].drop 1).take (Tryz.prog.cellsOf 3))=some y1 at j;rw[e1]at j;change DataW.trod enc Tryz.prog W 0 (λ_=>true) true m 3 [a]=some y1 at j;change DataW.trod enc Tryz.prog W 0 (λ_=>true) true m 3 (([c,a,d,e,f].drop 2).take (Tryz.prog.cellsOf 3))=some y2 at l;rw[e1]at l;change DataW.trod enc Tryz.prog W 0 (λ_=>true) true m 3 [d]=some y2 at l;change DataW.trod enc Tryz.prog W 0 (λ_=>true) true m 3 (([c,a,d,e,f].drop 3).take (Tryz.prog.cellsOf 3))=some y3 at o;rw[e1]at o;change DataW.trod enc Tryz.prog W 0 (λ_=>true) true m 3 [e]=some y3 at o;change DataW.trod enc Tryz.prog W 0 (λ_=>true) true m 4 (([c,a,d,e,f].drop 4).take (Tryz.prog.cellsOf 4))=some y4 at p;rw[C]at p;change DataW.trod enc Tryz.prog W 0 (λ_=>true) true m 4 [f]=some y4 at p;obtain⟨k,h0,-,w0⟩:=DataW.trod_int Tryz.underlying3 i;obtain⟨s,r,-,D⟩:=DataW.trod_int Tryz.underlying3 j;obtain⟨t,v,-,F⟩:=DataW.trod_int Tryz.underlying3 l;obtain⟨u,w,-,E⟩:=DataW.trod_int Tryz.underlying3 o;obtain⟨b,y,-⟩:=DataW.trod_bool Tryz.underlying4 p;simp only[List.cons.injEq,and_true]at h0 r v w y;subst h0 r v w y;exact⟨k,s,t,u,b,rfl,Cd D,Cd E⟩
theorem MT{W:World}{x:DataW H×List MemPlace}(h:DataW.trod enc Tryz.prog W 0 (λ_=>true) true n 73 cs=some x):
 ∃a:Gv,CI.R (full W) cs a/\RQ a:=by
 obtain⟨xs,m,-,-,hl,hx,w⟩:=DataW.trod_struct Tryz.underlying73 h;have hl:cs.length=8:=hl.trans (by kernel_rfl);obtain⟨f,g,i,j,o,p,q,e,rfl⟩:=eight hl;obtain⟨z,y1,y2,y3,rfl⟩:=four (hx.trans (by rfl));have e1:Tryz.prog.cellsOf 3=1:=by kernel_rfl
 have E:Tryz.prog.cellsOf 71=5:=by kernel_rfl
 have F:Tryz.prog.cellsOf 68=1:=by kernel_rfl
 have r:=w 0 _ rfl;have t:=w 1 _ rfl;have u:=w 2 _ rfl;have v:=w 3 _ rfl;change DataW.trod enc Tryz.prog W 0 (λ_=>true) true m 3 (([f,g,i,j,o,p,q,e].drop 0).take (Tryz.prog.cellsOf 3))=some z at r;rw[e1]at r;change DataW.trod enc Tryz.prog W 0 (λ_=>true) true m 3 [f]=some z at r;change DataW.trod enc Tryz.prog W 0 (λ_=>true) true m 3 (([f,g,i,j,o,p,q,e].drop 1).take (Tryz.prog.cellsOf 3))=some y1 at t;rw[e1]at t;change DataW.trod enc Tryz.prog W 0 (λ_=>true) true m 3 [g]=some y1 at t;change DataW.trod enc Tryz.prog W 0 (λ_=>true) true m 71 (([f,g,i,j,o,p,q,e].drop 2).take (Tryz.prog.cellsOf 71))=some y2 at u;rw[E]at u;change DataW.trod enc Tryz.prog W 0 (λ_=>true) true m 71 [i,j,o,p,q]=some y2 at u;change DataW.trod enc Tryz.prog W 0 (λ_=>true) true m 68 (([f,g,i,j,o,p,q,e].drop 7).take (Tryz.prog.cellsOf 68))=some y3 at v;rw[F]at v;change DataW.trod enc Tryz.prog W 0 (λ_=>true) true m 68 [e]=some y3 at v;obtain⟨k,h0,-,w0⟩:=DataW.trod_int Tryz.underlying3 r;obtain⟨s,d,-,Q⟩:=DataW.trod_int Tryz.underlying3 t;obtain⟨a1,a2,A,B,C,y,L,M⟩:=MU u;obtain⟨I,K,J,G⟩:∃b l c,e=.slice b l c:=by
  rcases Go.Deep.open_slice Tryz.underlying68 v with⟨d,y⟩|⟨N,l,c,m',O,D,P,d,-⟩
  .simp only[List.cons.injEq,and_true]at d;exact⟨_,_,_,d⟩
  simp only[List.cons.injEq,and_true]at d;exact⟨_,_,_,d⟩
 simp only[List.cons.injEq,and_true]at h0 d y;obtain⟨rfl,rfl,rfl,rfl,rfl⟩:=y;subst h0 d G;exact⟨⟨k,s,a1,a2,A,B,C,K⟩,⟨I,J,rfl⟩,L,M⟩
theorem Cp{w:World}{l i:Nat}{v:Value}(h:w.cell? ⟨l,i,none⟩=some v):∃c e fr,full w l=some (.cells c e fr)/\c[i]? =some v:=by
 simp only[World.cell?]at h;split at h
 .rename_i cc e fr b;exact⟨cc,e,fr,b,by simpa using h⟩
 cases h
instance :Inhabited Gv:=⟨⟨0,0,0,0,0,0,false,0⟩⟩
theorem Pw{W:World}{v:Value}{d:DataW H}{p:List MemPlace}(h:DataW.Trod enc Tryz.prog W 0 (λ_=>true) true 66 v d p)
 (lD:∃a l c,v=.slice a l c) (V:∀elems spare,d=.slice elems spare->(elems.length+spare.length)*80<=2^47):∃xs,Hb CI (full W) v xs/\∀x∈xs,RQ x:=by
 obtain⟨n,U⟩:=h;obtain⟨a,l,c,rfl⟩:=lD;have N:Tryz.prog.cellsOf 73=8:=by kernel_rfl
 rcases Go.Deep.open_slice Tryz.underlying66 U with⟨w,P⟩|⟨u,len,cap,m,k,D,Pl,w,P,h3,h4,Q,R,C⟩
 .cases w;exact⟨[],⟨_,_,rfl,by simp,.inl rfl⟩,by simp⟩
 cases w;have S:m=c:=Q;subst S;cases R;have Y:=V _ _ rfl;have T:l<=2^50:=by simp only[vi,kQw]at Y;omega
 rw[N]at C;have f:∀i,i<l->∃a:Gv,RQ a/\∃cs,CI.R (full W) cs a/\cs.length=8/\∀j,j<8->W.cell? ((u.add (i*8)).add j)=cs[j]? :=by intro i b;obtain⟨cs,I,z⟩:=C i (by omega);obtain⟨-,A,q4⟩:=World.cells?_some I;obtain⟨a,qa,qo⟩:=MT z;exact⟨a,qo,cs,qa,A,q4⟩
 obtain⟨F,g⟩:=Go.Deep.choose_lt f;have E:∀ {i x},((List.range l).map F)[i]? =some x->i<l/\x=F i:=by intro i x hx;have b:=(ff.1 hx).1;simp only[vi,kQw]at b;rw[kS,List.getElem?_range b]at hx;exact⟨b,by cases hx;rfl⟩
 refine⟨(List.range l).map F,⟨some u,m,?_,?_,?_⟩,λx hx=>?_⟩
 .simp
 .simpa using T
 .rcases jKj l with h0|h0
  .left;rw[h0];rfl
  right;obtain⟨ab,I,z,A⟩:=(g 0 h0).2;obtain⟨lE,off,s⟩:=u;have q:=A 0 (by omega);have L:s=none:=by
   cases s with
   |none=>rfl
   |some x=>
    simp only[World.cell?]at q;split at q
    .simp[Addr.add,z]at q
    rw[zG (by omega)]at q;cases q
  subst L;simp only[aKC]at g q;rw[zG (by omega)]at q;obtain⟨cc,e,fr,y,-⟩:=Cp q;have Z:∀i,i<l->∀j,j<8->∃cs,CI.R (full W) cs (F i)/\cs.length=8/\cc[off+i*8+j]? =cs[j]? :=by intro i b j o;obtain⟨cs,t,B,r⟩:=(g i b).2;have:=r j o;rw[zG (by omega)]at this;obtain⟨X,M,K,O,G⟩:=Cp this;rw[y]at O;cases O;exact⟨cs,t,B,by rw[G,zG (by omega)]⟩
  refine⟨lE,off,cc,e,fr,rfl,y,?_,λi x hx=>?_⟩
  .obtain⟨cs,t,B,r⟩:=Z (l-1) (by omega) 7 (by omega);rw[zG (by omega)]at r;have:=(jKc.1 r).1;simp only[vi,kQw,CI,jKo];omega
  obtain⟨b,rfl⟩:=E hx;obtain⟨cs,t,B,r⟩:=(g i b).2;have:(cc.toList.drop (off+i*8)).take 8=cs:=by
   apply yr;intro j;rw[qH];split
   .rename_i o;have J:=r j o;rw[zG (by omega)]at J;obtain⟨X,M,K,O,G⟩:=Cp J;rw[y]at O;cases O;rw[rB,kQb,G,zG (by omega)]
   rw[yo (by omega)]
  show CI.R _ ((cc.toList.drop (off+i*8)).take 8) _;rw[this];exact t
 obtain⟨i,b⟩:=rK hx;obtain⟨o,rfl⟩:=E b;exact(g i o).1
end Go.S
