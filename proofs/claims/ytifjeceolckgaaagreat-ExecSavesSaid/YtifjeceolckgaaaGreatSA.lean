import Derived.Test.YtifjeceolckgaaaGreatSxA
set_option linter.all false
namespace Go.S
variable {a b c:Type}{l:List b}{x:b}
def Cm{α:Type}(lt:α->α->Bool)(x:α):List α->List α
 | []=>[x]
 |y::r=>if lt y x=true then y::Cm lt x r else x::y::r
def gL{α:Type}(lt:α->α->Bool):List α->List α
 | []=>[]
 |x::r=>Cm lt x (gL lt r)
structure FQ{α:Type}(lt:α->α->Bool):Prop where
 kJb:∀x,lt x x=false
 tr:∀x y z,lt x y=true->lt y z=true->lt x z=true
 hJx:∀x y z,lt x y=false->lt y z=false->lt x z=false
abbrev Tg(α:Type):=α×Nat
def lx{α:Type}(lt:α->α->Bool)(x y:Tg α):Prop:=lt x.1 y.1=true\/(lt y.1 x.1=false/\x.2<y.2)
theorem FQ.eXq{lt:a->a->Bool}(o:FQ lt){x y:a}(h:lt x y=true):lt y x=false:=by
 cases b:lt y x with
 |false=>rfl
 |true=>have:=o.tr _ _ _ h b;rw[o.kJb]at this;cases this
theorem aJj{lt:c->c->Bool}(o:FQ lt){x y z:Tg c}(a:lx lt x y)(h:lx lt y z):lx lt x z:=by
 rcases a with a| ⟨a,d⟩
 .rcases h with h| ⟨h,g⟩
  .exact .inl (o.tr _ _ _ a h)
  left;cases b:lt x.1 z.1 with
  |true=>rfl
  |false=>have:=o.hJx _ _ _ b h;rw[a]at this;cases this
 rcases h with h| ⟨h,g⟩
 .left;cases b:lt x.1 z.1 with
  |true=>rfl
  |false=>have:=o.hJx _ _ _ a b;rw[h]at this;cases this
 exact .inr ⟨o.hJx _ _ _ h a,by omega⟩
theorem bKI{lt:b->b->Bool}(o:FQ lt){x y:Tg b}(a:lx lt x y)(h:lx lt y x):False:=by
 rcases a with a| ⟨a,c⟩
 .rcases h with h| ⟨h,g⟩
  .rw[o.eXq a]at h;cases h
  rw[a]at h;cases h
 rcases h with h| ⟨h,g⟩
 .rw[h]at a;cases a
 omega
theorem VK{f:Type}{lt:f->f->Bool}(o:FQ lt):∀ {a b:List (Tg f)},a.Perm b->a.Pairwise (lx lt)->b.Pairwise (lx lt)->a=b
 | [],b,p,_,_=>by rw[nQD.1 p]
 |x::a,[],p,_,_=>by have:=p.length_eq;simp at this
 |x::a,y::b,p,d,e=>by
  rw[mXA]at d e;have u:x=y:=by
   have h:x∈y::b:=p.subset (mXn);have c:y∈x::a:=p.symm.subset (mXn);rcases mQI.1 h with h|h
   .exact h
   rcases mQI.1 c with c|c
   .exact c.symm
   exact(bKI o (d.1 _ c) (e.1 _ h)).elim
  subst u;rw[VK o (List.Perm.cons_inv p) d.2 e.2]
def Ro{α:Type}(l:List (Tg α)):Prop:=l.Pairwise λx y=>x.2<y.2
def SM{α:Type}(lt:α->α->Bool)(x y:Tg α):Bool:=lt x.1 y.1||(!lt y.1 x.1&&decide (x.2<y.2))
theorem VL{lt:a->a->Bool}{x y:Tg a}:SM lt x y=true↔lx lt x y:=by unfold SM lx;cases lt x.1 y.1<;>cases lt y.1 x.1<;>simp
theorem Ej(lt:a->a->Bool)(x:a):∀l,(Cm lt x l).Perm (x::l)
 | []=>.refl _
 |y::r=>by
  unfold Cm;split
  .exact((Ej lt x r).cons y).trans (.swap x y r)
  exact .refl _
theorem gh(lt:a->a->Bool):∀l,(gL lt l).Perm l
 | []=>.refl _
 |x::r=>(Ej lt x _).trans ((gh lt r).cons x)
theorem dZS{lt:a->a->Bool}(o:FQ lt){x y:Tg a}(h:x.2≠y.2):lx lt x y\/lx lt y x:=by
 unfold lx;cases b:lt x.1 y.1 with
 |true=>exact .inl (.inl rfl)
 |false=>cases c:lt y.1 x.1 with
  |true=>exact .inr (.inl rfl)
  |false=>
   rcases mJA h with h|h
   .exact .inl (.inr ⟨rfl,h⟩)
   exact .inr (.inr ⟨rfl,h⟩)
theorem VW{lt:b->b->Bool}(o:FQ lt){x:Tg b}:∀ {l:List (Tg b)},l.Pairwise (lx lt)->(∀y∈l,x.2<y.2)->(Cm (SM lt) x l).Pairwise (lx lt)
 | [],_,_=>by unfold Cm;exact mJb _ _
 |y::r,h,hx=>by
  unfold Cm;rw[mXA]at h;split
  .rename_i N;rw[VL]at N;rw[mXA];refine⟨λz a=>?_,VW o h.2 λz a=>hx z (mXm _ a)⟩;rcases mQI.1 ((Ej _ x r).subset a)with a|a
   .rw[a];exact N
   exact h.1 z a
  rename_i N;have c:x.2≠y.2:=Nat.ne_of_lt (hx y mXn);have u:lx lt x y:=(dZS o c).resolve_right λg=>N (VL.2 g);rw[mXA];refine⟨λz a=>?_,mXA.2 h⟩;rcases mQI.1 a with a|a
  .rw[a];exact u
  exact aJj o u (h.1 z a)
theorem PB{lt:a->a->Bool}(o:FQ lt){x:Tg a}:∀ {l:List (Tg a)},(∀y∈l,x.2<y.2)->(Cm (SM lt) x l).map Prod.fst=Cm lt x.1 (l.map Prod.fst)
 | [],_=>rfl
 |y::r,hx=>by
  have c:x.2<y.2:=hx y mXn;have h:SM lt y x=lt y.1 x.1:=by unfold SM;rw[mQv (by omega:¬y.2<x.2)];simp
  show(Cm (SM lt) x (y::r)).map Prod.fst=Cm lt x.1 (y.1::r.map Prod.fst);unfold Cm;rw[h];split
  .rw[mZG,PB o λz b=>hx z (mXm _ b)]
  rfl
theorem GQ{lt:a->a->Bool}(o:FQ lt):∀ {l:List (Tg a)},Ro l->(gL (SM lt) l).Pairwise (lx lt)/\(gL (SM lt) l).map Prod.fst=gL lt (l.map Prod.fst)
 | [],_=>⟨List.Pairwise.nil,rfl⟩
 |x::r,h=>by
  unfold Ro at h;rw[mXA]at h;have i:=GQ o (l:=r) h.2;have hx:∀y∈gL (SM lt) r,x.2<y.2:=λy b=>h.1 y ((gh _ r).subset b);refine⟨VW o i.1 hx,?_⟩;show(Cm (SM lt) x (gL (SM lt) r)).map Prod.fst=Cm lt x.1 (gL lt (r.map Prod.fst));rw[PB o hx,i.2]
theorem bJT{lt:a->a->Bool}(o:FQ lt){l c:List (Tg a)}(h:Ro l)(p:c.Perm l)(d:c.Pairwise (lx lt)):c.map Prod.fst=gL lt (l.map Prod.fst):=by have b:=GQ o h;rw[<-b.2,VK o (p.trans (gh (SM lt) l).symm) d b.1]
def GL{α:Type}:Nat->List α->List (Tg α)
 |_,[]=>[]
 |n,x::r=>(x,n)::GL (n+1) r
theorem LG:∀(n:Nat) (l:List a),∀x∈GL n l,n<=x.2
 |_,[],x,h=>by cases h
 |n,y::r,x,h=>by
  rcases mQI.1 h with h|h
  .rw[h];exact mQD _
  have:=LG (n+1) r x h;omega
theorem GK:∀(n:Nat) (l:List a),Ro (GL n l)
 |_,[]=>List.Pairwise.nil
 |n,y::r=>mXA.2 ⟨λx hx=>LG (n+1) r x hx,GK (n+1) r⟩
theorem BE:∀(n:Nat) (l:List a),(GL n l).map Prod.fst=l
 |_,[]=>rfl
 |n,y::r=>by show y::(GL (n+1) r).map Prod.fst=_;rw[BE (n+1) r]
theorem Gc{R:c->c->Prop}:∀ {l:List c} {p x:c},l.Pairwise R->l.getLast?=some p->x∈l->x=p\/R x p
 | [],_,_,_,h,_=>by cases h
 | [a],p,x,_,h,hx=>by
  cases h;rcases mQI.1 hx with hx|hx
  .exact .inl hx
  cases hx
 |a::b::l,p,x,d,h,hx=>by
  rw[mXA]at d;have e:(b::l).getLast?=some p:=by rw[<-h];simp[nQC]
  rcases mQI.1 hx with hx|hx
  .subst hx;exact .inr (d.1 p (mZE e))
  exact Gc d.2 e hx
theorem Gd{R:b->b->Prop}{p:b}(c:l.Pairwise R)(h:l.head?=some p)(hx:x∈l):p=x\/R p x:=by
 cases l with
 |nil=>cases h
 |cons a l=>
  cases h;rw[mXA]at c;rcases mQI.1 hx with hx|hx
  .exact .inl hx.symm
  exact .inr (c.1 x hx)
theorem Mt(h:x∈l):∃p,l.getLast?=some p:=by
 cases l with
 |nil=>cases h
 |cons a l=>exact⟨_,nQB (by simp)⟩
theorem Gl(h:x∈l):∃p,l.head?=some p:=by
 cases l with
 |nil=>cases h
 |cons a l=>exact⟨a,rfl⟩
theorem HC{lt:b->b->Bool}(o:FQ lt){x p q y:Tg b}(h:x=p\/lx lt x p)(c:lx lt p q)(a:q=y\/lx lt q y):lx lt x y:=by
 have d:lx lt x q:=by
  rcases h with h|h
  .rw[h];exact c
  exact aJj o h c
 rcases a with a|a
 .rw[<-a];exact d
 exact aJj o d a
theorem Oz{lt:c->c->Bool}(o:FQ lt){A1 A2 B1 B2:List (Tg c)}(A:(A1++A2).Pairwise (lx lt))(B:(B1++B2).Pairwise (lx lt))(t:∀x∈A1++A2,∀y∈B1++B2,x.2<y.2)
 (d:∀p q,A1.getLast?=some p->B2.head?=some q->lt q.1 p.1=false) (e:∀q p,B1.getLast?=some q->A2.head?=some p->lt q.1 p.1=true):
 ∀x∈A1++B1,∀y∈A2++B2,lx lt x y:=by
 rw[mXw]at A B;intro x hx y h;rcases mQE.1 hx with hx|hx
 .rcases mQE.1 h with h|h
  .exact A.2.2 x hx y h
  obtain⟨p,a⟩:=Mt hx;obtain⟨q,b⟩:=Gl h;have k:=mZE a;have f:=mKm b;exact HC o (Gc A.1 a hx) (.inr ⟨d p q a b,t p (mZf _ k) q (mZT _ f)⟩) (Gd B.2.1 b h)
 rcases mQE.1 h with h|h
 .obtain⟨q,b⟩:=Mt hx;obtain⟨p,a⟩:=Gl h;exact HC o (Gc B.1 b hx) (.inl (e q p b a)) (Gd A.2.1 a h)
 exact B.2.2 x hx y h
theorem dZg{R:a->a->Prop}{C D b c:List a}(d:C.Pairwise R)(hd:D.Pairwise R)(p:C.Perm b)(f:D.Perm c)(h:∀x∈b,∀y∈c,R x y):(C++D).Pairwise R:=
 mXw.2 ⟨d,hd,λx hx y e=>h x (p.subset hx) y (f.subset e)⟩
theorem eKA{A1 A2 B1 B2 C a:List c}(h:C.Perm (A1++B1))(b:a.Perm (A2++B2)):(C++a).Perm ((A1++A2)++(B1++B2)):=by refine(h.append b).trans ?_;rw[mXk,mXk];refine List.Perm.append_left A1 ?_;rw[<-mXk,<-mXk];exact(mJx).append_right B2
theorem cQg{d:Type}{lt:d->d->Bool}(o:FQ lt){x:Tg d}{B1 B2:List (Tg d)}(B:(B1++B2).Pairwise (lx lt))(t:∀y∈B1++B2,x.2<y.2)
 (f:∀q,B1.getLast?=some q->lt q.1 x.1=true) (g:∀q,B2.head?=some q->lt q.1 x.1=false):(B1++x::B2).Pairwise (lx lt):=by
 have s:=Oz o (A1:=[]) (A2:=[x]) (B1:=B1) (B2:=B2) (mJb _ _) B (by intro a b y h;rcases mQI.1 b with rfl|b;exact t y h;cases b) (by intro p q e;cases e) (by intro q p c e;cases e;exact f q c);rw[mXw]at B |-;refine⟨B.1,mXA.2 ⟨λy h=>?_,B.2.1⟩,λa b y h=>s a b y h⟩;obtain⟨q,c⟩:=Gl h;exact HC o (.inl rfl) (.inr ⟨g q c,t q (mZT _ (mKm c))⟩) (Gd B.2.1 c h)
theorem MD{lt:b->b->Bool}(o:FQ lt){x:Tg b}{A1 A2:List (Tg b)}(A:(A1++A2).Pairwise (lx lt))(t:∀y∈A1++A2,y.2<x.2)
 (f:∀p,A1.getLast?=some p->lt x.1 p.1=false) (g:∀p,A2.head?=some p->lt x.1 p.1=true):(A1++x::A2).Pairwise (lx lt):=by
 rw[mXw]at A |-;have hx:∀y∈A2,lx lt x y:=λy h=>by
  obtain⟨q,e⟩:=Gl h;exact HC o (.inl rfl) (.inl (g q e)) (Gd A.2.1 e h)
 have l:∀y∈A1,lx lt y x:=λy h=>by
  obtain⟨p,c⟩:=Mt h;exact HC o (Gc A.1 c h) (.inr ⟨f p c,t p (mZf _ (mZE c))⟩) (.inl rfl)
 refine⟨A.1,mXA.2 ⟨hx,A.2.1⟩,λa d y h=>?_⟩;rcases mQI.1 h with rfl|h
 .exact l a d
 exact A.2.2 a d y h
end Go.S
