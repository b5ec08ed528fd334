import Derived.Test.YtekoaiendgjkdaaGreatSxA
set_option linter.unusedVariables false
set_option linter.unusedSimpArgs false
set_option linter.unusedSectionVars false
namespace Go.S
def Cm{α:Type}(lt:α->α->Bool)(x:α):List α->List α
 | []=>[x]
 |y::r=>if lt y x=true then y::Cm lt x r else x::y::r
def gL{α:Type}(lt:α->α->Bool):List α->List α
 | []=>[]
 |x::r=>Cm lt x (gL lt r)
structure FQ{α:Type}(lt:α->α->Bool):Prop where
 kJb:∀x,lt x x=false
 tr:∀x y z,lt x y=true->lt y z=true->lt x z=true
 hJx:∀x y z,lt x y=false->lt y z=false->lt x z=false
abbrev Tg(α:Type):=α×Nat
def lx{α:Type}(lt:α->α->Bool)(x y:Tg α):Prop:=lt x.1 y.1=true\/(lt y.1 x.1=false/\x.2<y.2)
theorem FQ.eXq{α:Type}{lt:α->α->Bool}(o:FQ lt){x y:α}(h:lt x y=true):lt y x=false:=by
 cases h2:lt y x with
 |false=>rfl
 |true=>have:=o.tr _ _ _ h h2;rw[o.kJb]at this;cases this
theorem aJj{α:Type}{lt:α->α->Bool}(o:FQ lt){x y z:Tg α}(h1:lx lt x y)(h2:lx lt y z):lx lt x z:=by
 rcases h1 with h1| ⟨h1,g1⟩
 ·rcases h2 with h2| ⟨h2,g2⟩
  ·exact .inl (o.tr _ _ _ h1 h2)
  ·left;cases h3:lt x.1 z.1 with
   |true=>rfl
   |false=>have:=o.hJx _ _ _ h3 h2;rw[h1]at this;cases this
 ·rcases h2 with h2| ⟨h2,g2⟩
  ·left;cases h3:lt x.1 z.1 with
   |true=>rfl
   |false=>have:=o.hJx _ _ _ h1 h3;rw[h2]at this;cases this
  ·exact .inr ⟨o.hJx _ _ _ h2 h1,by omega⟩
theorem bKI{α:Type}{lt:α->α->Bool}(o:FQ lt){x y:Tg α}(h1:lx lt x y)(h2:lx lt y x):False:=by
 rcases h1 with h1| ⟨h1,g1⟩
 ·rcases h2 with h2| ⟨h2,g2⟩
  ·rw[o.eXq h1]at h2;cases h2
  ·rw[h1]at h2;cases h2
 ·rcases h2 with h2| ⟨h2,g2⟩
  ·rw[h2]at h1;cases h1
  ·omega
theorem VK{α:Type}{lt:α->α->Bool}(o:FQ lt):∀ {a b:List (Tg α)},a.Perm b->a.Pairwise (lx lt)->b.Pairwise (lx lt)->a=b
 | [],b,p,_,_=>by rw[mJQ.1 p]
 |x::a,[],p,_,_=>by have:=p.length_eq;simp at this
 |x::a,y::b,p,ha,hb=>by
  rw[mXb]at ha hb;have uP:x=y:=by
   have h1:x∈y::b:=p.subset (mQE);have h2:y∈x::a:=p.symm.subset (mQE);rcases mQs.1 h1 with h1|h1
   ·exact h1
   ·rcases mQs.1 h2 with h2|h2
    ·exact h2.symm
    ·exact(bKI o (ha.1 _ h2) (hb.1 _ h1)).elim
  subst uP;rw[VK o (List.Perm.cons_inv p) ha.2 hb.2]
def Ro{α:Type}(l:List (Tg α)):Prop:=l.Pairwise fun x y=>x.2<y.2
def SM{α:Type}(lt:α->α->Bool)(x y:Tg α):Bool:=lt x.1 y.1||(!lt y.1 x.1&&decide (x.2<y.2))
theorem VL{α:Type}{lt:α->α->Bool}{x y:Tg α}:SM lt x y=true↔lx lt x y:=by unfold SM lx;cases lt x.1 y.1<;>cases lt y.1 x.1<;>simp
theorem Ej{α:Type}(lt:α->α->Bool)(x:α):∀l,(Cm lt x l).Perm (x::l)
 | []=>.refl _
 |y::r=>by
  unfold Cm;split
  ·exact((Ej lt x r).cons y).trans (.swap x y r)
  ·exact .refl _
theorem gh{α:Type}(lt:α->α->Bool):∀l,(gL lt l).Perm l
 | []=>.refl _
 |x::r=>(Ej lt x _).trans ((gh lt r).cons x)
theorem dZS{α:Type}{lt:α->α->Bool}(o:FQ lt){x y:Tg α}(h:x.2≠y.2):lx lt x y\/lx lt y x:=by
 unfold lx;cases h1:lt x.1 y.1 with
 |true=>exact .inl (.inl rfl)
 |false=>cases h2:lt y.1 x.1 with
  |true=>exact .inr (.inl rfl)
  |false=>
   rcases mJf h with h|h
   ·exact .inl (.inr ⟨rfl,h⟩)
   ·exact .inr (.inr ⟨rfl,h⟩)
theorem VW{α:Type}{lt:α->α->Bool}(o:FQ lt){x:Tg α}:∀ {l:List (Tg α)},l.Pairwise (lx lt)->(∀y∈l,x.2<y.2)->(Cm (SM lt) x l).Pairwise (lx lt)
 | [],_,_=>by unfold Cm;exact mZp _ _
 |y::r,h,hx=>by
  unfold Cm;rw[mXb]at h;split
  ·rename_i Nz;rw[VL]at Nz;rw[mXb];refine⟨fun z hz=>?_,VW o h.2 fun z hz=>hx z (mQQ _ hz)⟩;rcases mQs.1 ((Ej _ x r).subset hz)with hz|hz
   ·rw[hz];exact Nz
   ·exact h.1 z hz
  ·rename_i Nz;have ch:x.2≠y.2:=Nat.ne_of_lt (hx y mQE);have uP:lx lt x y:=(dZS o ch).resolve_right fun g=>Nz (VL.2 g);rw[mXb];refine⟨fun z hz=>?_,mXb.2 h⟩;rcases mQs.1 hz with hz|hz
   ·rw[hz];exact uP
   ·exact aJj o uP (h.1 z hz)
theorem PB{α:Type}{lt:α->α->Bool}(o:FQ lt){x:Tg α}:∀ {l:List (Tg α)},(∀y∈l,x.2<y.2)->(Cm (SM lt) x l).map Prod.fst=Cm lt x.1 (l.map Prod.fst)
 | [],_=>rfl
 |y::r,hx=>by
  have h1:x.2<y.2:=hx y mQE;have h2:SM lt y x=lt y.1 x.1:=by unfold SM;rw[nM (by omega:¬y.2<x.2)];simp
  show(Cm (SM lt) x (y::r)).map Prod.fst=Cm lt x.1 (y.1::r.map Prod.fst);unfold Cm;rw[h2];split
  ·rw[mZr,PB o fun z hz=>hx z (mQQ _ hz)]
  ·rfl
theorem GQ{α:Type}{lt:α->α->Bool}(o:FQ lt):∀ {l:List (Tg α)},Ro l->(gL (SM lt) l).Pairwise (lx lt)/\(gL (SM lt) l).map Prod.fst=gL lt (l.map Prod.fst)
 | [],_=>⟨List.Pairwise.nil,rfl⟩
 |x::r,h=>by
  unfold Ro at h;rw[mXb]at h;have ih:=GQ o (l:=r) h.2;have hx:∀y∈gL (SM lt) r,x.2<y.2:=fun y hy=>h.1 y ((gh _ r).subset hy);refine⟨VW o ih.1 hx,?_⟩;show(Cm (SM lt) x (gL (SM lt) r)).map Prod.fst=Cm lt x.1 (gL lt (r.map Prod.fst));rw[PB o hx,ih.2]
theorem bJT{α:Type}{lt:α->α->Bool}(o:FQ lt){l c:List (Tg α)}(h:Ro l)(p:c.Perm l)(hc:c.Pairwise (lx lt)):c.map Prod.fst=gL lt (l.map Prod.fst):=by have h1:=GQ o h;rw[<-h1.2,VK o (p.trans (gh (SM lt) l).symm) hc h1.1]
def GL{α:Type}:Nat->List α->List (Tg α)
 |_,[]=>[]
 |n,x::r=>(x,n)::GL (n+1) r
theorem LG{α:Type}:∀(n:Nat) (l:List α),∀x∈GL n l,n<=x.2
 |_,[],x,h=>by cases h
 |n,y::r,x,h=>by
  rcases mQs.1 h with h|h
  ·rw[h];exact mQt _
  ·have:=LG (n+1) r x h;omega
theorem GK{α:Type}:∀(n:Nat) (l:List α),Ro (GL n l)
 |_,[]=>List.Pairwise.nil
 |n,y::r=>mXb.2 ⟨fun x hx=>LG (n+1) r x hx,GK (n+1) r⟩
theorem BE{α:Type}:∀(n:Nat) (l:List α),(GL n l).map Prod.fst=l
 |_,[]=>rfl
 |n,y::r=>by show y::(GL (n+1) r).map Prod.fst=_;rw[BE (n+1) r]
theorem Gc{α:Type}{R:α->α->Prop}:∀ {l:List α} {p x:α},l.Pairwise R->l.getLast?=some p->x∈l->x=p\/R x p
 | [],_,_,_,h,_=>by cases h
 | [a],p,x,_,h,hx=>by
  cases h;rcases mQs.1 hx with hx|hx
  ·exact .inl hx
  ·cases hx
 |a::b::l,p,x,hp,h,hx=>by
  rw[mXb]at hp;have h2:(b::l).getLast?=some p:=by rw[<-h];simp[mJc]
  rcases mQs.1 hx with hx|hx
  ·subst hx;exact .inr (hp.1 p (mZb h2))
  ·exact Gc hp.2 h2 hx
theorem Gd{α:Type}{R:α->α->Prop}{l:List α}{p x:α}(hp:l.Pairwise R)(h:l.head?=some p)(hx:x∈l):p=x\/R p x:=by
 cases l with
 |nil=>cases h
 |cons a l=>
  cases h;rw[mXb]at hp;rcases mQs.1 hx with hx|hx
  ·exact .inl hx.symm
  ·exact .inr (hp.1 x hx)
theorem Mt{α:Type}{l:List α}{x:α}(h:x∈l):∃p,l.getLast?=some p:=by
 cases l with
 |nil=>cases h
 |cons a l=>exact⟨_,mKO (by simp)⟩
theorem Gl{α:Type}{l:List α}{x:α}(h:x∈l):∃p,l.head?=some p:=by
 cases l with
 |nil=>cases h
 |cons a l=>exact⟨a,rfl⟩
theorem HC{α:Type}{lt:α->α->Bool}(o:FQ lt){x p q y:Tg α}(h1:x=p\/lx lt x p)(h2:lx lt p q)(h3:q=y\/lx lt q y):lx lt x y:=by
 have h4:lx lt x q:=by
  rcases h1 with h1|h1
  ·rw[h1];exact h2
  ·exact aJj o h1 h2
 rcases h3 with h3|h3
 ·rw[<-h3];exact h4
 ·exact aJj o h4 h3
theorem Oz{α:Type}{lt:α->α->Bool}(o:FQ lt){A1 A2 B1 B2:List (Tg α)}(hA:(A1++A2).Pairwise (lx lt))(hB:(B1++B2).Pairwise (lx lt))(ht:∀x∈A1++A2,∀y∈B1++B2,x.2<y.2)
 (h1:∀p q,A1.getLast?=some p->B2.head?=some q->lt q.1 p.1=false) (h2:∀q p,B1.getLast?=some q->A2.head?=some p->lt q.1 p.1=true):
 ∀x∈A1++B1,∀y∈A2++B2,lx lt x y:=by
 rw[mXe]at hA hB;intro x hx y hy;rcases mQv.1 hx with hx|hx
 ·rcases mQv.1 hy with hy|hy
  ·exact hA.2.2 x hx y hy
  ·obtain⟨p,hp⟩:=Mt hx;obtain⟨q,hq⟩:=Gl hy;have kJR:=mZb hp;have fXp:=mJO hq;exact HC o (Gc hA.1 hp hx) (.inr ⟨h1 p q hp hq,ht p (mXK _ kJR) q (mZw _ fXp)⟩) (Gd hB.2.1 hq hy)
 ·rcases mQv.1 hy with hy|hy
  ·obtain⟨q,hq⟩:=Mt hx;obtain⟨p,hp⟩:=Gl hy;exact HC o (Gc hB.1 hq hx) (.inl (h2 q p hq hp)) (Gd hA.2.1 hp hy)
  ·exact hB.2.2 x hx y hy
theorem dZg{α:Type}{R:α->α->Prop}{C D C' D':List α}(hc:C.Pairwise R)(hd:D.Pairwise R)(pc:C.Perm C')(pd:D.Perm D')(h:∀x∈C',∀y∈D',R x y):(C++D).Pairwise R:=
 mXe.2 ⟨hc,hd,fun x hx y hy=>h x (pc.subset hx) y (pd.subset hy)⟩
theorem eKA{α:Type}{A1 A2 B1 B2 C1 C2:List α}(h1:C1.Perm (A1++B1))(h2:C2.Perm (A2++B2)):(C1++C2).Perm ((A1++A2)++(B1++B2)):=by refine(h1.append h2).trans ?_;rw[mXd,mXd];refine List.Perm.append_left A1 ?_;rw[<-mXd,<-mXd];exact(mJb).append_right B2
theorem cQg{α:Type}{lt:α->α->Bool}(o:FQ lt){x:Tg α}{B1 B2:List (Tg α)}(hB:(B1++B2).Pairwise (lx lt))(ht:∀y∈B1++B2,x.2<y.2)
 (h1:∀q,B1.getLast?=some q->lt q.1 x.1=true) (h2:∀q,B2.head?=some q->lt q.1 x.1=false):(B1++x::B2).Pairwise (lx lt):=by
 have hs:=Oz o (A1:=[]) (A2:=[x]) (B1:=B1) (B2:=B2) (mZp _ _) hB (by intro a ha y hy;rcases mQs.1 ha with rfl|ha;exact ht y hy;cases ha) (by intro p q hp;cases hp) (by intro q p hq hp;cases hp;exact h1 q hq);rw[mXe]at hB |-;refine⟨hB.1,mXb.2 ⟨fun y hy=>?_,hB.2.1⟩,fun a ha y hy=>hs a ha y hy⟩;obtain⟨q,hq⟩:=Gl hy;exact HC o (.inl rfl) (.inr ⟨h2 q hq,ht q (mZw _ (mJO hq))⟩) (Gd hB.2.1 hq hy)
theorem MD{α:Type}{lt:α->α->Bool}(o:FQ lt){x:Tg α}{A1 A2:List (Tg α)}(hA:(A1++A2).Pairwise (lx lt))(ht:∀y∈A1++A2,y.2<x.2)
 (h1:∀p,A1.getLast?=some p->lt x.1 p.1=false) (h2:∀p,A2.head?=some p->lt x.1 p.1=true):(A1++x::A2).Pairwise (lx lt):=by
 rw[mXe]at hA |-;have hx:∀y∈A2,lx lt x y:=fun y hy=>by
  obtain⟨q,hq⟩:=Gl hy;exact HC o (.inl rfl) (.inl (h2 q hq)) (Gd hA.2.1 hq hy)
 have hl:∀y∈A1,lx lt y x:=fun y hy=>by
  obtain⟨p,hp⟩:=Mt hy;exact HC o (Gc hA.1 hp hy) (.inr ⟨h1 p hp,ht p (mXK _ (mZb hp))⟩) (.inl rfl)
 refine⟨hA.1,mXb.2 ⟨hx,hA.2.1⟩,fun a ha y hy=>?_⟩;rcases mQs.1 hy with rfl|hy
 ·exact hl a ha
 ·exact hA.2.2 a ha y hy
end Go.S
