import Derived.Test.YtekoaiendgjkdaaGreatFX
import Derived.Test.YtekoaiendgjkdaaGreatWB
import Derived.Deep.Slices
set_option linter.unusedVariables false
set_option linter.unusedSimpArgs false
set_option linter.unusedSectionVars false
set_option maxRecDepth 100000
set_option maxHeartbeats 8000000
namespace Go.S
open Go.Sx Go.Proofs Go.ChangeShapes Go.WideShapes Go.ChangeAt Go.RowKit
theorem four{α:Type}{xs:List α}(h:xs.length=4):∃a b c d,xs=[a,b,c,d]:=by
 match xs,h with
 | [a,b,c,d],_=>exact⟨a,b,c,d,rfl⟩
theorem UG{H:Type}{enc:TypeId×Value->H}{W:World}{n:Nat}{cs:List Value}{x:DataW H×List MemPlace}(h:DataW.trod enc Tryz.prog W 0 (fun _=>true) true n 24 cs=some x):
 ∃a:wK,kn.R (full W) cs a:=by
 obtain⟨xs,m,-,-,hl,hx,hf⟩:=DataW.trod_struct Tryz.underlying24 h;have hl:cs.length=4:=hl.trans (by kernel_rfl);obtain⟨c0,c1,c2,c3,rfl⟩:=four hl;obtain⟨y0,y1,y2,y3,rfl⟩:=four (hx.trans (by rfl));have e1:Tryz.prog.cellsOf 3=1:=by kernel_rfl
 have f0:=hf 0 _ rfl;have f1:=hf 1 _ rfl;have f2:=hf 2 _ rfl;have f3:=hf 3 _ rfl;change DataW.trod enc Tryz.prog W 0 (fun _=>true) true m 3 (([c0,c1,c2,c3].drop 0).take (Tryz.prog.cellsOf 3))=some y0 at f0;rw[e1]at f0;change DataW.trod enc Tryz.prog W 0 (fun _=>true) true m 3 [c0]=some y0 at f0;change DataW.trod enc Tryz.prog W 0 (fun _=>true) true m 3 (([c0,c1,c2,c3].drop 1).take (Tryz.prog.cellsOf 3))=some y1 at f1;rw[e1]at f1;change DataW.trod enc Tryz.prog W 0 (fun _=>true) true m 3 [c1]=some y1 at f1;change DataW.trod enc Tryz.prog W 0 (fun _=>true) true m 3 (([c0,c1,c2,c3].drop 2).take (Tryz.prog.cellsOf 3))=some y2 at f2;rw[e1]at f2;change DataW.trod enc Tryz.prog W 0 (fun _=>true) true m 3 [c2]=some y2 at f2;change DataW.trod enc Tryz.prog W 0 (fun _=>true) true m 3 (([c0,c1,c2,c3].drop 3).take (Tryz.prog.cellsOf 3))=some y3 at f3;rw[e1]at f3;change DataW.trod enc Tryz.prog W 0 (fun _=>true) true m 3 [c3]=some y3 at f3;obtain⟨k0,h0,-,-⟩:=DataW.trod_int Tryz.underlying3 f0;obtain⟨k1,h1,-,-⟩:=DataW.trod_int Tryz.underlying3 f1;obtain⟨k2,h2,-,-⟩:=DataW.trod_int Tryz.underlying3 f2;obtain⟨k3,h3,-,-⟩:=DataW.trod_int Tryz.underlying3 f3;simp only[List.cons.injEq,and_true]at h0 h1 h2 h3;subst h0 h1 h2 h3;exact⟨⟨k0,k1,k2,k3⟩,rfl⟩
theorem KY{w:World}{oB i:Nat}{v:Value}(h:w.cell? ⟨oB,i,none⟩=some v):∃c e fr,full w oB=some (.cells c e fr)/\c[i]? =some v:=by
 simp only[World.cell?]at h;split at h
 ·rename_i cc e fr hb;exact⟨cc,e,fr,hb,by simpa using h⟩
 ·cases h
instance:Inhabited wK:=⟨⟨0,0,0,0⟩⟩
theorem ZV{H:Type}{enc:TypeId×Value->H}{W:World}{v:Value}{d:DataW H}{p:List MemPlace}(h:DataW.Trod enc Tryz.prog W 0 (fun _=>true) true 22 v d p)
 (nR:∃a l c,v=.slice a l c) (hs:∀elems spare,d=.slice elems spare->(elems.length+spare.length)*32<=2^47):∃xs,zW kn (full W) v xs:=by
 obtain⟨n,hn⟩:=h;obtain⟨a,l,c,rfl⟩:=nR;have e5:Tryz.prog.cellsOf 24=4:=by kernel_rfl
 rcases Go.Deep.open_slice Tryz.underlying22 hn with ⟨h1,h2⟩ | ⟨a',len,cap,m,k,D,Pl,h1,h2,h3,h4,h5,h6,h7⟩
 ·cases h1;exact⟨[],⟨_,_,rfl,by simp,.inl rfl⟩⟩
 ·cases h1;have hm:m=c:=h5;subst hm;cases h6;have mX:=hs _ _ rfl;have tW:l<=2^50:=by simp only[mQz,mZU]at mX;omega
  rw[e5]at h7;have each:∀i,i<l->∃a:wK,∃cs,kn.R (full W) cs a/\cs.length=4/\∀j,j<4->W.cell? ((a'.add (i*4)).add j)=cs[j]? :=by intro i hi;obtain⟨cs,q1,q2⟩:=h7 i (by omega);obtain⟨-,q3,q4⟩:=World.cells?_some q1;obtain⟨a,qa⟩:=UG q2;exact⟨a,cs,qa,q3,q4⟩
  obtain⟨F,hF⟩:=Go.Deep.choose_lt each;have hg:∀ {i x},((List.range l).map F)[i]? =some x->i<l/\x=F i:=by intro i x hx;have hi:=(HH.1 hx).1;simp only[mQz,mZU]at hi;rw[mQU,List.getElem?_range hi]at hx;exact⟨hi,by cases hx;rfl⟩
  refine⟨(List.range l).map F,⟨some a',m,?_,?_,?_⟩⟩
  ·simp
  ·simpa using tW
  ·rcases mXw l with h0|h0
   ·left;rw[h0];rfl
   ·right;obtain⟨lKP,q1,q2,q3⟩:=hF 0 h0;obtain⟨oB,off,spot⟩:=a';have qc:=q3 0 (by omega);have MK:spot=none:=by
     cases spot with
     |none=>rfl
     |some x=>
      simp only[World.cell?]at qc;split at qc
      ·simp[Addr.add,q2]at qc
      ·rw[mXJ (by omega)]at qc;cases qc
    subst MK;simp only[cZG]at hF qc;rw[mXJ (by omega)]at qc;obtain⟨cc,e,fr,hb,-⟩:=KY qc;have cKC:∀i,i<l->∀j,j<4->∃cs,kn.R (full W) cs (F i)/\cs.length=4/\cc[off+i*4+j]? =cs[j]? :=by intro i hi j hj;obtain⟨cs,r1,r2,r3⟩:=hF i hi;have:=r3 j hj;rw[mXJ (by omega)]at this;obtain⟨lKR,e',NQ,oz,Ij⟩:=KY this;rw[hb]at oz;cases oz;exact⟨cs,r1,r2,by rw[Ij,mXJ (by omega)]⟩
    refine⟨oB,off,cc,e,fr,rfl,hb,?_,fun i x hx=>?_⟩
    ·obtain⟨cs,r1,r2,r3⟩:=cKC (l-1) (by omega) 3 (by omega);rw[mXJ (by omega)]at r3;have:=(mXr.1 r3).1;simp only[mQz,mZU,kn,mXV];omega
    ·obtain⟨hi,rfl⟩:=hg hx;show _=_;apply mXz;intro j;rw[mXa];split
     ·rename_i hj;obtain⟨cs,r1,r2,r3⟩:=cKC i hi j hj;have:cs=[.int .i64 (F i).s,.int .i64 (F i).n,.int .i64 (F i).a,.int .i64 (F i).b]:=r1;rw[<-this,<-r3,mXi,mXZ];rfl
     ·rename_i hj;have hj:¬j<4:=hj;rw[mXL (by simp;omega)]
end Go.S
