import Derived.Test.YtekoaiendgjkdaaGreatSxA
import Derived.Tactics
import Derived.Deep.LoopGhost
import Derived.Defers
import Derived.RangeFuncRecord
import Derived.RecoverIn
set_option linter.unusedVariables false
set_option linter.unusedSimpArgs false
set_option linter.unusedSectionVars false
namespace Go.Sx
variable {ro:Option Nat}{n:Nat}
variable {P:Program}{T:aQ}{A:Ar}[aP A]
variable {ds:List Deferred}{h0:ad}{w0:World}{β:Nat->Nat}{env:Env}{L:Loc}{h:ad}{a:Act}{w:World}
theorem LG{ops:List Oper}{env:Env}{o:Oper}{y n y' n':Unit->Prop}(hg:gd ops env o y n)(hy:y ()->y' ())(hn:n ()->n' ()):gd ops env o y' n':=by
 unfold gd at *;repeat' split at hg
 all_goals first
  |exact hy hg
  |exact hn hg
  |exact hg.elim
  | (rcases iR hg with ⟨rfl,hg⟩ | ⟨rfl,hg⟩<;>first|exact hy hg|exact hn hg)
theorem np(hs:bZ ds h0 w0 β env L h a w){ops:Array Oper}{o:Oper}{y n:Unit->Prop}(hg:gd ops.toList env o y n):
 (Region.wanted o (yielded ops a.tmps)=true/\y ())\/(Region.wanted o (yielded ops a.tmps)=false/\n ()):=by
 unfold gd at hg;split at hg
 ·rename_i Cu;exact .inl ⟨by simp[Region.wanted,Cu],hg⟩
 ·rename_i j want Jm;split at hg
  ·rename_i oj Bj;have Bi:ops[j]? =some oj:=by simpa using Bj
   split at hg
   ·rename_i d hd;split at hg
    ·rename_i b hb;have he:=getD_some hb (by simp);have mJ:=hs.slot d _ he;have aG:d<a.tmps.size:=by rw[hs.size];exact(List.getElem?_eq_some_iff.1 he).1
     have mJ:a.tmps.getD d undef=.bool b:=mJ;have hv:a.tmps[d]? =some (.bool b):=by rw[Array.getD_eq_getD_getElem?]at mJ;rw[Array.getElem?_eq_getElem aG]at mJ |-;simpa using mJ
     have hw:Region.wanted o (yielded ops a.tmps)=(b==want):=by simp[Region.wanted,Jm,yielded,Bi,hd,hv]
     rw[hw];split at hg
     ·rcases iR hg with ⟨rfl,hg⟩ | ⟨rfl,hg⟩
      ·exact .inl ⟨rfl,hg⟩
      ·exact .inr ⟨rfl,hg⟩
     ·rcases iR hg with ⟨rfl,hg⟩ | ⟨rfl,hg⟩
      ·exact .inr ⟨rfl,hg⟩
      ·exact .inl ⟨rfl,hg⟩
    ·rename_i vs hb;have he:=getD_some hb (by simp);have mJ:=hs.slot d _ he;have aG:d<a.tmps.size:=by rw[hs.size];exact(List.getElem?_eq_some_iff.1 he).1
     have mJ:a.tmps.getD d undef=.tuple vs:=mJ;have hv:a.tmps[d]? =some (.tuple vs):=by rw[Array.getD_eq_getD_getElem?]at mJ;rw[Array.getElem?_eq_getElem aG]at mJ |-;simpa using mJ
     exact .inr ⟨by simp[Region.wanted,Jm,yielded,Bi,hd,hv],hg⟩
    ·exact hg.elim
   ·rename_i hd;exact .inr ⟨by simp[Region.wanted,Jm,yielded,Bi,hd],hg⟩
  ·rename_i Bj;have Bi:ops[j]? =none:=by simpa using Bj
   exact .inr ⟨by simp[Region.wanted,Jm,yielded,Bi],hg⟩
theorem kh(hT:dx P T){ops:Array Oper}{K:Env->Loc->ad->Prop}{Q:Exit->Act->World->Prop}
 (gN:jB T ds h0 w0 Q) (hK:∀bJ L' h' kY a' w',K bJ L' h'->bZ ds h0 w0 kY bJ L' h' a' w'->Q .normal a' w'):
 ∀(l:List Oper) (env:Env) (L:Loc) (h:ad) (β:Nat->Nat) (a:Act) (w:World),bZ ds h0 w0 β env L h a w->
  vL A T (fun _=>P) ops.toList K l env L h->wpListIn (FW ro) n P ops Q l a w
 | [],env,L,h,β,a,w,hs,hx=>hK _ _ _ _ _ _ hx hs
 |o::r,env,L,h,β,a,w,hs,hx=>by
  unfold vL at hx;unfold wpListIn;rcases np hs hx with ⟨hw,hx⟩ | ⟨hw,hx⟩
  ·rw[if_pos hw];split at hx
   ·obtain⟨sv,nb,h1,h2⟩:=lR hx;obtain⟨v,w',kY,h3,h4⟩:=qU hT hs (h2 (fun x y=>x=sv/\y=nb) ⟨rfl,rfl⟩);refine mL h3 ?_;exact kh hT gN hK r _ _ _ _ _ _ h4 h1
   ·refine Bd hT hs (Lc:=L) (fun _ _ q=>q) hx gN fun sv v so L' h' w' h1 h2 h3=>?_;have:so=L':=by
     rcases h3 with ⟨e1,e2⟩ | ⟨s,c,x,y,-,-,e1,e2⟩
     ·rw[e1,e2]
     ·rw[e1,e2]
    subst this;exact kh hT gN hK r _ _ _ _ _ _ h2 h1
  ·rw[if_neg (by simp[hw])];refine⟨fun _ _=>trivial,?_⟩;exact kh hT gN hK r _ _ _ _ _ _ (hs.put (x:=.v undef) (v:=undef) rfl) hx
def iL(o:Oper):Bool:=match o.op with
 | .load .. =>true
 |_=>false
def jb(o:Oper):Bool:=match o.op with
 | .alloc _| .box .. =>true
 |_=>false
def di(o:Oper):Bool:=match o.op with
 | .assign _=>true
 |_=>false
theorem jr{p:Unit->Program}{o:Oper}{ρ CZ:Operand->SV}{L L':Loc}{h h':ad}{k:SV->Option (List Value)->Prop}(hk:eN A T p o ρ L h k)
 (dz:∀x∈o.op.operands.toList,CZ x=ρ x) (hL:iL o=true->∀x∈o.op.operands.toList,∀s off,ρ x=.loc s off->∀c,gW L s=some c->gW L' s=some c)
 (hb:jb o=true->∀d,o.dst=some d->gW L' d=none) (hh:iL o=true->h'=h):eN A T p o CZ L' h' k:=by
 unfold eN at hk |-;split at hk;case h_1 x ho=>simp only[ho]at dz |-;rw[dz x (by simp[Op.operands])];exact hk
 case h_2 c x y ho=>simp only[ho]at dz |-;rw[dz c (by simp[Op.operands]),dz x (by simp[Op.operands]),dz y (by simp[Op.operands])];exact hk
 case h_3 e ho=>
  have oC:=hb (by simp[jb,ho]);simp only[ho]at dz |-;split at hk
  ·exact hk.elim
  ·split at hk
   ·exact hk.elim
   ·rename_i d hd;split at hk
    ·simp only[oC d hd];exact hk
    ·exact hk.elim
 case h_4 e x ho=>
  have oC:=hb (by simp[jb,ho]);simp only[ho]at dz |-;rw[dz x (by simp[Op.operands])];split at hk
  ·exact hk.elim
  ·rename_i d hd;split at hk
   ·split at hk
    ·simp only[oC d hd];exact hk
    ·exact hk.elim
   ·exact hk.elim
 case h_5 t x ho=>
  have hL':=hL (by simp[iL,ho]);have hh':=hh (by simp[iL,ho]);subst hh';simp only[ho]at dz hL' |-;rw[dz x (by simp[Op.operands])];split at hk
  ·exact hk.elim
  ·split at hk
   ·rename_i s off hx;split at hk
    ·rename_i c hc;simp only[hL' x (by simp[Op.operands]) s off hx c hc];exact hk
    ·exact hk.elim
   ·exact hk
   ·exact hk.elim
 case h_6 x ho=>simp only[ho]at dz |-;rw[dz x (by simp[Op.operands])];exact hk
 case h_7 t x f ho=>simp only[ho]at dz |-;rw[dz x (by simp[Op.operands])];exact hk
 case h_8 t x i ho=>simp only[ho]at dz |-;rw[dz x (by simp[Op.operands]),dz i (by simp[Op.operands])];exact hk
 case h_9 t x i ho=>simp only[ho]at dz |-;rw[dz x (by simp[Op.operands]),dz i (by simp[Op.operands])];exact hk
 case h_10 t x f ho=>simp only[ho]at dz |-;rw[dz x (by simp[Op.operands])];exact hk
 case h_11 x i ho=>simp only[ho]at dz |-;rw[dz x (by simp[Op.operands])];exact hk
 case h_12 t parts ho=>
  simp only[ho]at dz |-;have:∀l:List (Nat×Operand),(∀q∈l,CZ q.2=ρ q.2)->jo CZ l=jo ρ l:=fun l=>by
   induction l with
   |nil=>intro _;rfl
   |cons q r ih=>intro hq;obtain⟨i,x⟩:=q;unfold jo;rw[hq (i,x) (by simp),ih (fun q hq'=>hq q (by simp[hq']))]
  rw[this parts.toList (fun q hq=>dz q.2 (by simp only[Op.operands,List.mem_map];exact⟨q,hq,rfl⟩))];exact hk
 case h_13 op t x y ty ho=>simp only[ho]at dz |-;rw[dz x (by simp[Op.operands]),dz y (by simp[Op.operands])];exact hk
 case h_14 op t x ho=>simp only[ho]at dz |-;rw[dz x (by simp[Op.operands])];exact hk
 case h_15 s d x ho=>simp only[ho]at dz |-;rw[dz x (by simp[Op.operands])];exact hk
 case h_16 t x ho=>simp only[ho]at dz |-;rw[dz x (by simp[Op.operands])];exact hk
 case h_17 fn f c ho=>
  simp only[ho]at dz |-;rw[List.map_congr_left (g:=ρ) (fun x hx=>dz x (by simp only[Op.operands,Array.toList_append,List.mem_append];exact .inl hx)),
   List.map_congr_left (l:=c.toList) (g:=ρ) (fun x hx=>dz x (by simp only[Op.operands,Array.toList_append,List.mem_append];exact .inr hx))]
  exact hk
 case h_18 t x lo hi mx ho=>
  simp only[ho]at dz |-;have hs:∀y:Option Operand,(∀z,y=some z->CZ z=ρ z)->JX CZ y=JX ρ y:=fun y hy=>by
   cases y with
   |none=>rfl
   |some z=>simp only[JX,hy z rfl]
  rw[hs lo (fun z hz=>dz z (by simp[Op.operands,hz])),hs hi (fun z hz=>dz z (by simp[Op.operands,hz])),hs mx (fun z hz=>dz z (by simp[Op.operands,hz])),
   dz x (by simp[Op.operands])]
  exact hk
 case h_19 b args argTypes ho=>simp only[ho]at dz |-;rw[List.map_congr_left (g:=ρ) (fun x hx=>dz x (by simp[Op.operands,Call.operands];simpa using hx))];exact hk
 case h_20 x q as ok ho=>simp only[ho]at dz |-;rw[dz x (by simp[Op.operands])];exact hk
 case h_21=>exact hk.elim
theorem Hm{p:Unit->Program}{o:Oper}{ρ CZ:Operand->SV}{L:Loc}{h:ad}{k:SV->Loc->ad->Prop}(hk:hx A T p o ρ L h k)
 (dz:∀x∈o.op.operands.toList,CZ x=ρ x) (hρr:∀t∈T.rs,CZ (.tmp t)=ρ (.tmp t)):hx A T p o CZ L h k:=by
 have hrs:(T.rs.map fun t=>CZ (.tmp t))=(T.rs.map fun t=>ρ (.tmp t)):=List.map_congr_left hρr;unfold hx at hk |-;split at hk;case h_1 x ho=>simp only[ho]at dz |-;rw[dz x (by simp[Op.operands])];exact hk
 case h_2 t x y ho=>simp only[ho]at dz |-;rw[dz x (by simp[Op.operands]),dz y (by simp[Op.operands])];exact hk
 case h_3 e ho=>simp only[ho]at dz |-;exact hk
 case h_4 e x ho=>simp only[ho]at dz |-;rw[dz x (by simp[Op.operands])];exact hk
 case h_5 t len parts ho=>
  simp only[ho]at dz |-;have:∀l:List (Nat×Operand),(∀q∈l,CZ q.2=ρ q.2)->jo CZ l=jo ρ l:=fun l=>by
   induction l with
   |nil=>intro _;rfl
   |cons q r ih=>intro hq;obtain⟨i,x⟩:=q;unfold jo;rw[hq (i,x) (by simp),ih (fun q hq'=>hq q (by simp[hq']))]
  rw[this parts.toList (fun q hq=>dz q.2 (by simp only[Op.operands,List.mem_map];exact⟨q,hq,rfl⟩))];exact hk
 case h_6 t x y ho=>simp only[ho]at dz |-;rw[dz x (by simp[Op.operands]),dz y (by simp[Op.operands])];exact hk
 case h_7 t r ho=>simp only[ho]at dz |-;exact hk
 case h_8 f args argTypes ho=>simp only[ho]at dz |-;rw[dz f (by simp[Op.operands,Call.operands]),List.map_congr_left (g:=ρ) (fun x hx=>dz x (by simp[Op.operands,Call.operands];right;simpa using hx)),hrs];exact hk
 case h_9 b args argTypes ho=>simp only[ho]at dz |-;rw[List.map_congr_left (g:=ρ) (fun x hx=>dz x (by simp[Op.operands,Call.operands];simpa using hx))];exact hk
 case h_10 src dst x ho=>simp only[ho]at dz |-;rw[dz x (by simp[Op.operands])];exact hk
 case h_11 t x i b ho=>simp only[ho]at dz |-;rw[dz x (by simp[Op.operands]),dz i (by simp[Op.operands])];exact hk
 case h_12 t m i x ho=>simp only[ho]at dz |-;rw[dz m (by simp[Op.operands]),dz i (by simp[Op.operands]),dz x (by simp[Op.operands])];exact hk
 case h_13 t m i ho=>simp only[ho]at dz |-;rw[dz m (by simp[Op.operands]),dz i (by simp[Op.operands])];exact hk
 case h_14 t m i x ho=>simp only[ho]at dz |-;rw[dz m (by simp[Op.operands]),dz i (by simp[Op.operands]),dz x (by simp[Op.operands])];exact hk
 case h_15 t x ho=>simp only[ho]at dz |-;rw[dz x (by simp[Op.operands])];exact hk
 case h_16 it str ho=>simp only[ho]at dz |-;rw[dz it (by simp[Op.operands])];exact hk
 case h_17 it ho=>simp only[ho]at dz |-;rw[dz it (by simp[Op.operands])];exact hk
 case h_18 t m i x ho=>simp only[ho]at dz |-;rw[dz m (by simp[Op.operands]),dz i (by simp[Op.operands]),dz x (by simp[Op.operands])];exact hk
 case h_19 x ho=>simp only[ho]at dz |-;rw[dz x (by simp[Op.operands]),hrs];exact hk
 case h_20=>exact hk.elim
variable {P:Program}{T:aQ}{A:Ar}[aP A]
variable {ds:List Deferred}{h0:ad}{w0:World}
def gF(o:Oper):List Nat:=(o.after.toList.filter fun e=>Region.binds .any e).map (·.on)
def ou(T:aQ)(ops:Array Oper):Bool:=
 (List.range ops.size).all fun i=>match ops[i]? with
  |none=>false
  |some oi=>(gF oi).all (fun e=>decide (e<i))&&
   (match oi.dst with|none=>true|some d=> !gY T oi|| !(oi.looksAt ops).contains d)&&
   (List.range ops.size).all fun j=>i==j||match ops[j]? with
    |none=>false
    |some oj=>match oi.dst with
     |none=>true
     |some d=>oj.dst !=some d&&(!(oj.looksAt ops).contains d||(gF oj).contains i||(!gY T oi&&(gF oi).contains j))
def FT(T:aQ)(ops:Array Oper):Bool:=ops.toList.all fun o=>match o.dst with
 |some d=> !T.rs.contains d
 |none=>true
theorem Dv{T:aQ}{ops:Array Oper}(h:FT T ops=true){i:Nat}{o:Oper}(hi:ops[i]? =some o){t:Nat}(ht:t∈T.rs):o.dst≠some t:=fun hd=>by
 unfold FT at h;rw[List.all_eq_true]at h;have h1:=h o (by
  obtain⟨hl,rfl⟩:=Array.getElem?_eq_some_iff.1 hi;simp)
 rw[hd]at h1;simp[ht]at h1
def fU(ops:Array Oper):Nat->List Nat->List Nat
 |0,s=>s
 |i+1,s=>fU ops i (if s.contains i then(match ops[i]? with|some o=>gF o|none=>[])++s else s)
def my:oh->List Nat
 | .ao i _ _=>[i]
 | .fork l r=>my l++my r
 |_=>[]
def xY(ops:Array Oper)(p:oh)(listed:List Nat):Bool:=
 (List.range ops.size).all fun j=>listed.contains j||(my p).contains j||match ops[j]? with
  |some o=> !(gF o).all listed.contains
  |none=>true
def sA(T:aQ)(ops:Array Oper):oh->Bool->List Nat->List Nat->List Nat->Bool
 | .done,br,listed,_,_=> !br&&(List.range ops.size).all listed.contains
 | .aa i rest,br,listed,pend,known=> !br&& !listed.contains i&&(match ops[i]? with
  |some o=>gY T o&&(gF o).all listed.contains
  |none=>false)&&sA T ops rest false (i::listed) (i::pend) known
 | .ao i pn rest,br,listed,pend,known=>(br||xY ops (.ao i pn rest) listed)&& !listed.contains i&&(match ops[i]? with
  |some o=> !gY T o&&(di o||pend.all fun j=>(fU ops ops.size (i::known)).contains j||pn.contains j||(match ops[j]? with
   |some oj=> !iL oj
   |none=>true))
  |none=>false)&&
  sA T ops rest false (i::listed) (pend.filter fun j=> !(fU ops ops.size (i::known)).contains j) (fU ops ops.size (i::known))
 | .fork l r,br,listed,pend,known=>(br||xY ops (.fork l r) listed)&&sA T ops l true listed pend known&&sA T ops r true listed pend known
theorem jR{ops:Array Oper}(hr:ou T ops=true){i:Nat}{oi:Oper}(hi:ops[i]? =some oi):
 (∀e∈gF oi,e<i)/\(gY T oi=true->∀d,oi.dst=some d->d∉oi.looksAt ops)/\∀j oj,i≠j->ops[j]? =some oj->∀d,oi.dst=some d->oj.dst≠some d/\
  (d∈oj.looksAt ops->i∈gF oj\/(gY T oi=false/\j∈gF oi)):=by
 unfold ou at hr;rw[List.all_eq_true]at hr;have aG:i<ops.size:=(Array.getElem?_eq_some_iff.1 hi).1;have h1:=hr i (by simpa using aG);simp only[hi,Bool.and_eq_true,List.all_eq_true,decide_eq_true_eq]at h1;refine⟨h1.1.1,fun hl d hd=>?_,fun j oj bU hj d hd=>?_⟩
 ·have:=h1.1.2;simp only[hd,hl,Bool.not_true,Bool.false_or,Bool.not_eq_true',List.contains_eq_mem,decide_eq_false_iff_not]at this;exact this
 have h2:=h1.2 j (by simpa using (Array.getElem?_eq_some_iff.1 hj).1);simp only[hj,hd,Bool.or_eq_true,beq_iff_eq,Bool.and_eq_true,bne_iff_ne,Bool.not_eq_true',List.contains_eq_mem,decide_eq_true_eq,decide_eq_false_iff_not]at h2;rcases h2 with h2| ⟨h2,h3⟩
 ·exact absurd h2 bU
 ·refine⟨h2,fun hm=>?_⟩;rcases h3 with (h3|h3) | ⟨h3,h4⟩
  ·exact absurd hm h3
  ·exact .inl h3
  ·exact .inr ⟨h3,h4⟩
def In(X:Array Bool)(i:Nat):Prop:=X.getD i false=true
theorem In.set{X:Array Bool}{i j:Nat}(hi:i<X.size):In (X.setIfInBounds i true) j↔i=j\/In X j:=by
 unfold In;simp only[Array.getD_eq_getD_getElem?,Array.getElem?_setIfInBounds];by_cases h:i=j
 ·subst h;simp[hi]
 ·simp[h]
theorem vX{o:Oper}{i:Nat}:i∈gF o↔∃e∈o.after,Region.binds .any e=true/\e.on=i:=by simp[gF,and_assoc]
theorem qP{ops:Array Oper}{X:Array Bool}(hX:X.size=ops.size){j:Nat}:
 j∈Region.ready .any ops X↔¬In X j/\∃o,ops[j]? =some o/\∀e∈gF o,In X e:=by
 rw[mem_ready];constructor
 ·rintro⟨h1,o,ho,h2⟩;have aG:j<X.size:=by rw[hX];exact(Array.getElem?_eq_some_iff.1 ho).1
  refine⟨?_,o,ho,fun e he=>?_⟩
  ·unfold In;rw[Array.getD_eq_getD_getElem?,Array.getElem?_eq_getElem aG]at h1 |-;simp at h1 |-;exact h1
  ·obtain⟨e',h3,h4,rfl⟩:=vX.1 he;exact h2 e' h3 h4
 ·rintro⟨h1,o,ho,h2⟩;have aG:j<X.size:=by rw[hX];exact(Array.getElem?_eq_some_iff.1 ho).1
  refine⟨?_,o,ho,fun e he hb=>h2 e.on (vX.2 ⟨e,he,hb,rfl⟩)⟩;unfold In at h1;rw[Array.getD_eq_getD_getElem?,Array.getElem?_eq_getElem aG]at h1 |-;simp at h1 |-;exact h1
theorem uG{ops:Array Oper}{X:Array Bool}(hd:∀i o,In X i->ops[i]? =some o->∀e∈gF o,In X e):
 ∀(n:Nat) (s:List Nat),(∀i∈s,In X i)->∀i∈fU ops n s,In X i
 |0,s,hs=>hs
 |n+1,s,hs=>by
  unfold fU;refine uG hd n _ fun i hi=>?_;split at hi
  ·rename_i hc;rcases List.mem_append.1 hi with hi|hi
   ·cases ho:ops[n]? with
    |none=>rw[ho]at hi;cases hi
    |some o=>rw[ho]at hi;exact hd n o (hs n (by simpa using hc)) ho i hi
   ·exact hs i hi
  ·exact hs i hi
structure kf where
 i:Nat
 o:Oper
 sv:SV
 nb:Option (List Value)
def kf.fact(A:Ar)(T:aQ)(P:Program)(ops:Array Oper)(env:Env)(L:Loc)(h:ad)(x:kf):Prop:=
 gd ops.toList env x.o (fun _=>eN A T (fun _=>P) x.o (jL env) (if jb x.o then []else L) h (fun a b=>a=x.sv/\b=x.nb)) (fun _=>x.sv=.v undef/\x.nb=none)
structure ee(A:Ar)(T:aQ)(P:Program)(ops:Array Oper)(X:Array Bool)(D:List kf)(listed pend known:List Nat)(envc:Env)(Lc:Loc)(eR:Env)(La:Loc)(h:ad):Prop where
 size:X.size=ops.size
 O1:∀j,j∈listed↔In X j\/∃x∈D,x.i=j
 apart:∀x∈D,¬In X x.i
 down:∀i o,In X i->ops[i]? =some o->∀e∈gF o,In X e
 known:∀i∈known,In X i
 pend:∀x∈D,x.i∈pend
 len:eR.length=envc.length
 env:∀t,(∀x∈D,x.o.dst≠some t)->eR[t]? =envc[t]?
 dst:∀x∈D,∀t,x.o.dst=some t->t<envc.length->envc[t]? =some x.sv
 loc:∀s,(∀x∈D,x.nb.isSome=true->x.o.dst≠some s)->gW La s=gW Lc s
 box:∀x∈D,∀s c,x.nb=some c->x.o.dst=some s->gW La s=none/\gW Lc s=some c
 op:∀x∈D,ops[x.i]? =some x.o/\gY T x.o=true
 SH:∀x∈D,∀e∈gF x.o,e∈listed
 uniq:∀x∈D,∀y∈D,x.i=y.i->x=y
 fact:∀x∈D,x.fact A T P ops envc Lc h
theorem pU{ops:List Oper}{env:Env}{o:Oper}{y n:Unit->Prop}(hg:gd ops env o y n):
 (y ()/\∀y' n':Unit->Prop,gd ops env o y' n'↔y' ())\/(n ()/\∀y' n':Unit->Prop,gd ops env o y' n'↔n' ()):=by
 unfold gd at *;repeat' split at hg
 all_goals first
  |exact hg.elim
  |exact .inl ⟨hg,fun _ _=>Iff.rfl⟩
  |exact .inr ⟨hg,fun _ _=>Iff.rfl⟩
  | (rcases iR hg with ⟨rfl,hg⟩ | ⟨rfl,hg⟩<;>first
   |exact .inl ⟨hg,fun _ _=>Iff.rfl⟩
   |exact .inr ⟨hg,fun _ _=>Iff.rfl⟩)
theorem ui{ops:Array Oper}{env bJ:Env}{o:Oper}{y n:Unit->Prop}(hg:gd ops.toList env o y n)(he:∀t∈o.looksAt ops,bJ[t]? =env[t]?):
 gd ops.toList bJ o y n:=by
 have key:∀(j:Nat) (want:Bool),o.guard=some (j,want)->∀oj,ops.toList[j]? =some oj->∀d,oj.dst=some d->bJ.getD d .u=env.getD d .u:=fun j want Jm oj Bj d hd=>by
  rw[List.getD_eq_getElem?_getD,List.getD_eq_getElem?_getD,he d ?_];unfold Oper.looksAt;refine List.mem_append_right _ ?_;have Bi:ops[j]? =some oj:=by simpa using Bj
  simp[Jm,Bi,hd]
 unfold gd at hg |-;cases Jm:o.guard with
 |none=>simp only[Jm]at hg;exact hg
 |some jw=>
  obtain⟨j,want⟩:=jw;simp only[Jm]at hg |-;cases Bj:ops.toList[j]? with
  |none=>simp only[Bj]at hg;exact hg
  |some oj=>
   simp only[Bj]at hg |-;cases hd:oj.dst with
   |none=>simp only[hd]at hg;exact hg
   |some d=>simp only[hd]at hg |-;rw[key j want Jm oj Bj d hd];exact hg
theorem pq{ops:Array Oper}{env bJ:Env}{o:Oper}(he:∀t∈o.looksAt ops,bJ[t]? =env[t]?):∀x∈o.op.operands.toList,jL bJ x=jL env x:=fun x hx=>by
 cases x with
 |tmp t=>show bJ.getD t .u=env.getD t .u;rw[List.getD_eq_getElem?_getD,List.getD_eq_getElem?_getD,he t ?_];unfold Oper.looksAt;exact List.mem_append_left _ (List.mem_filterMap.2 ⟨.tmp t,hx,rfl⟩)
 |const v=>rfl
 |global g=>rfl
 |func f=>rfl
theorem gS{env:Env}{d:Option Nat}{x:SV}{t:Nat}(h:d≠some t):(put env d x)[t]? =env[t]? :=by
 cases d with
 |none=>rfl
 |some u=>simp only[put];rw[List.getElem?_set_ne (fun e=>h (by rw[e]))]
theorem px{env:Env}{t:Nat}{x:SV}(h:t<env.length):(put env (some t) x)[t]? =some x:=by simp only[put];rw[List.getElem?_set_self h]
theorem iU{env:Env}{d:Option Nat}{x:SV}:(put env d x).length=env.length:=by cases d<;>simp[put]
theorem FY{g:Bool}{cs:List Value}{q:Prop}(h:mA g cs (fun _=>q)):q:=(gR h).elim fun _ h=>h.2
theorem S7{h:ad}{x:Addr}{n:Nat}{g:Bool}{q:Prop}(hk:sI h x n (fun cs=>mA g cs (fun _=>q))):q:=hk.out.elim fun _ h=>FY h.2
theorem Om{p:Unit->Program}{s:Unit->Sem Value}{q:Prop}(h:rl p s (fun _=>q)):q:=h.out.elim fun _ h=>h.2
theorem Vk{p:Unit->Prop}{q:Prop}(h:mH p (fun _=>q)):q:=h.out
theorem FI{b:Option Addr}{len cap size:Nat}{l hh m:Option Int}{q:Prop}(h:sY A b len cap size l hh m (fun _=>q)):q:=(oK h).elim fun _ h=>h.1
theorem FJ{s:ByteArray}{l hh:Option Int}{q:Prop}(h:sZ A s l hh (fun _=>q)):q:=(oL h).elim fun _ h=>h.1
theorem Rd{op:BinOp}{a b:Value}{e:(Value->Prop)->Unit->Prop}(he:∀k,e k ()->∃v,k v/\∀k':Value->Prop,k' v->e k' ()){q:Prop}(hk:Ae A op a b (fun _=>q) (e (fun _=>q))):q:=(uJ he hk).elim fun _ h=>h.1
theorem Rc{op:BinOp}{a b:Value}{p:Unit->Program}{s:Unit->Sem Value}{q:Prop}(hk:Ae A op a b (fun _=>q) (fun _=>rl p s (fun _=>q))):q:=
 Rd (e:=fun k _=>rl p s k) (fun k h=>by
  obtain⟨v,g1,g2⟩:=h.out;exact⟨v,g2,fun k' h'=>⟨v,g1,h'⟩⟩) hk
theorem oS{p:Unit->Program}{o:Oper}{ρ:Operand->SV}{L:Loc}{h:ad}{sv:SV}{nb:Option (List Value)}(hk:eN A T p o ρ L h (fun a b=>a=sv/\b=nb)):
 (jb o=true->nb.isSome=true/\∃d,o.dst=some d/\gW L d=none)/\(jb o=false->nb=none):=by
 obtain⟨sv',lO,⟨rfl,rfl⟩,aJ⟩:=lR hk;clear hk;have h1:=aJ (fun a b=>b=lO) rfl;clear aJ;unfold eN at h1;split at h1;case h_3 e ho=>
  refine⟨fun _=>?_,fun hb=>by simp[jb,ho]at hb⟩;split at h1
  ·exact h1.elim
  ·split at h1
   ·exact h1.elim
   ·rename_i d hd;split at h1
    ·rename_i hl;subst h1;exact⟨rfl,d,hd,hl⟩
    ·exact h1.elim
 case h_4 e x ho=>
  refine⟨fun _=>?_,fun hb=>by simp[jb,ho]at hb⟩;split at h1
  ·exact h1.elim
  ·rename_i d hd;split at h1
   ·split at h1
    ·rename_i hl;subst h1;exact⟨rfl,d,hd,hl⟩
    ·exact h1.elim
   ·exact h1.elim
 case h_21=>exact h1.elim
 all_goals
  rename_i ho;refine⟨fun hb=>by simp[jb,ho]at hb,fun _=>?_⟩;clear ho;repeat' split at h1
  all_goals first
   |exact h1.elim
   |exact Eq.symm h1
   |exact Eq.symm (S7 h1)
   |exact Eq.symm (FY h1)
   |exact Eq.symm (Om h1)
   |exact Eq.symm (Vk h1)
   |exact Eq.symm (Rc h1)
   |exact Eq.symm (FI h1)
   |exact Eq.symm (FJ h1)
variable {ro:Option Nat}{n:Nat}
variable {P:Program}{T:aQ}{A:Ar}[aP A]
variable {ds:List Deferred}{h0:ad}{w0:World}{β:Nat->Nat}{h:ad}{a:Act}{w:World}
variable {ops:Array Oper}{X:Array Bool}{D:List kf}{listed pend known:List Nat}{envc eR:Env}{Lc La:Loc}
theorem nC{L:Loc}{d:Option Nat}{nb:Option (List Value)}{s:Nat}:gW (mf L d nb) s=if d=some s/\nb.isSome=true then nb else gW L s:=by
 cases d with
 |none=>simp[mf]
 |some t=>
  cases nb with
  |none=>simp[mf]
  |some c=>simp only[mf,gW];by_cases h:t=s<;>simp[h]
theorem kf.ns{x:kf}{env bJ:Env}{L L':Loc}{h h':ad}(hf:x.fact A T P ops env L h)(he:∀t∈x.o.looksAt ops,bJ[t]? =env[t]?)
 (hL:iL x.o=true->∀s c,gW L s=some c->gW L' s=some c) (hh:iL x.o=true->h'=h):x.fact A T P ops bJ L' h':=by
 unfold kf.fact at *;refine LG (ui hf he) (fun q=>?_) id;refine jr q (pq he) (fun hl y hy s off hs c hc=>?_) (fun hb d hd=>?_) hh
 ·split at hc
  ·cases hc
  ·rename_i hb;rw[if_neg hb];exact hL hl s c hc
 ·rw[if_pos hb];rfl
theorem ee.look(hB:ee A T P ops X D listed pend known envc Lc eR La h)(hr:ou T ops=true){k:Nat}{ok:Oper}(hk:ops[k]? =some ok)(hp:∀e∈gF ok,In X e):
 ∀t∈ok.looksAt ops,eR[t]? =envc[t]? :=fun t ht=>hB.env t fun x hx hd=>by
 obtain⟨ho,hl⟩:=hB.op x hx;obtain⟨-,h1,h2⟩:=jR hr ho;by_cases he:x.i=k
 ·rw[he,hk]at ho;cases ho;exact h1 hl t hd ht
 ·rcases(h2 k ok he hk t hd).2 ht with h3| ⟨h3,-⟩
  ·exact hB.apart x hx (hp _ h3)
  ·rw[hl]at h3;cases h3
theorem ee.sub(hB:ee A T P ops X D listed pend known envc Lc eR La h){s:Nat}{c:List Value}(hl:gW La s=some c):gW Lc s=some c:=by
 rw[<-hB.loc s (fun x hx hn hd=>?_)]
 ·exact hl
 ·obtain⟨c',oa⟩:=Option.isSome_iff_exists.1 hn;rw[(hB.box x hx s c' oa hd).1]at hl;cases hl
theorem ee.KK(hB:ee A T P ops X D listed pend known envc Lc eR La h){j:Nat}(h:In X j):j∈listed:=(hB.O1 j).2 (.inl h)
theorem ee.take(hB:ee A T P ops X D listed pend known envc Lc eR La h)(hr:ou T ops=true){i:Nat}{o:Oper}(hi:ops[i]? =some o)(Nn:i∉listed)(aG:gY T o=true)
 (hp:∀e∈gF o,e∈listed) {K:SV->Option (List Value)->Prop} {N:Prop}
 (hx:gd ops.toList envc o (fun _=>eN A T (fun _=>P) o (jL envc) Lc h K) (fun _=>N)):
 ∃sv nb,(K sv nb\/(N/\sv=.v undef/\nb=none))/\ee A T P ops X (⟨i,o,sv,nb⟩::D) (i::listed) (i::pend) known (put envc o.dst sv) (mf Lc o.dst nb) eR La h:=by
 obtain⟨-,TE,Bf⟩:=jR hr hi;have bU:∀x∈D,i≠x.i:=fun x hx e=>Nn ((hB.O1 i).2 (.inr ⟨x,hx,e.symm⟩));have TY:∃sv nb,(K sv nb\/(N/\sv=.v undef/\nb=none))/\kf.fact A T P ops envc Lc h ⟨i,o,sv,nb⟩/\(∀d c,o.dst=some d->nb=some c->gW Lc d=none):=by
  rcases pU hx with ⟨h1,h2⟩ | ⟨h1,h2⟩
  ·obtain⟨sv,nb,h3,h4⟩:=lR h1;have h5:=h4 (fun a b=>a=sv/\b=nb) ⟨rfl,rfl⟩;refine⟨sv,nb,.inl h3,(h2 _ _).2 ?_,fun d c hd hc=>?_⟩
   ·exact jr h5 (fun _ _=>rfl) (fun hl y _ s off _ c hc=>by
     have:jb o=false:=by cases hq:o.op<;>simp[iL,jb,hq]at hl |-
     simp[this,hc]) (fun hb d hd=>by simp[hb,gW]) (fun _=>rfl)
   ·have hb:=oS h5;cases Lk:jb o with
    |true=>obtain⟨-,d',Uo,hn⟩:=hb.1 Lk;rw[hd]at Uo;cases Uo;exact hn
    |false=>rw[hb.2 Lk]at hc;cases hc
  ·exact⟨.v undef,none,.inr ⟨h1,rfl,rfl⟩,(h2 _ _).2 ⟨rfl,rfl⟩,fun d c _ hc=>by cases hc⟩
 obtain⟨sv,nb,hK,hf,ua⟩:=TY;have Pv:∀x∈D,∀t,o.dst=some t->x.o.dst≠some t:=fun x hx t ht=>(Bf x.i x.o (bU x hx) (hB.op x hx).1 t ht).1;have HO:∀s c,gW Lc s=some c->gW (mf Lc o.dst nb) s=some c:=fun s c hc=>by
  rw[nC];split
  ·rename_i Ny;obtain⟨c',oa⟩:=Option.isSome_iff_exists.1 Ny.2;rw[ua s c' Ny.1 oa]at hc;cases hc
  ·exact hc
 refine⟨sv,nb,hK,⟨hB.size,fun j=>?_,fun x hx=>?_,hB.down,hB.known,fun x hx=>?_,by rw[iU];exact hB.len,fun t ht=>?_,fun x hx t hd hlen=>?_,fun s hs=>?_,fun x hx s c hn hd=>?_,
  fun x hx=>?_,fun x hx e he=>?_,fun x hx y hy M8=>?_,fun x hx=>?_⟩⟩
 ·simp only[List.mem_cons,hB.O1 j];constructor
  ·rintro(rfl|h1| ⟨x,hx,e⟩)
   ·exact .inr ⟨_,.inl rfl,rfl⟩
   ·exact .inl h1
   ·exact .inr ⟨x,.inr hx,e⟩
  ·rintro(h1| ⟨x,rfl|hx,e⟩)
   ·exact .inr (.inl h1)
   ·exact .inl e.symm
   ·exact .inr (.inr ⟨x,hx,e⟩)
 ·rcases List.mem_cons.1 hx with rfl|hx
  ·exact fun fR=>Nn (hB.KK fR)
  ·exact hB.apart x hx
 ·rcases List.mem_cons.1 hx with rfl|hx
  ·exact List.mem_cons_self
  ·exact List.mem_cons_of_mem _ (hB.pend x hx)
 ·rw[gS (ht ⟨i,o,sv,nb⟩ (by simp))];exact hB.env t fun x hx=>ht x (by simp[hx])
 ·rw[iU]at hlen;rcases List.mem_cons.1 hx with rfl|hx
  ·simp only at hd;rw[hd,px hlen]
  ·rw[gS (fun e=>Pv x hx t e hd)];exact hB.dst x hx t hd hlen
 ·rw[nC,if_neg (fun hc=>hs ⟨i,o,sv,nb⟩ (by simp) hc.2 hc.1)];exact hB.loc s fun x hx=>hs x (by simp[hx])
 ·rcases List.mem_cons.1 hx with rfl|hx
  ·simp only at hn hd;refine⟨?_,by rw[nC,if_pos ⟨hd,by simp[hn]⟩];exact hn⟩;rw[hB.loc s (fun y hy _ Lg=>Pv y hy s hd Lg)];exact ua s c hd hn
  ·obtain⟨h1,h2⟩:=hB.box x hx s c hn hd;exact⟨h1,HO s c h2⟩
 ·rcases List.mem_cons.1 hx with rfl|hx
  ·exact⟨hi,aG⟩
  ·exact hB.op x hx
 ·rcases List.mem_cons.1 hx with rfl|hx
  ·exact List.mem_cons_of_mem _ (hp e he)
  ·exact List.mem_cons_of_mem _ (hB.SH x hx e he)
 ·rcases List.mem_cons.1 hx with rfl|hx<;>rcases List.mem_cons.1 hy with rfl|hy
  ·rfl
  ·exact absurd M8 (bU y hy)
  ·exact absurd M8.symm (bU x hx)
  ·exact hB.uniq x hx y hy M8
 ·rcases List.mem_cons.1 hx with rfl|hx
  ·exact kf.ns hf (fun t ht=>gS (fun e=>TE aG t e ht)) (fun _=>HO) (fun _=>rfl)
  ·refine kf.ns (hB.fact x hx) (fun t ht=>gS (fun e=>?_)) (fun _=>HO) (fun _=>rfl);rcases(Bf x.i x.o (bU x hx) (hB.op x hx).1 t e).2 ht with h3| ⟨h3,-⟩
   ·exact Nn (hB.SH x hx i h3)
   ·rw[aG]at h3;cases h3
theorem ee.catch(hT:dx P T)(hB:ee A T P ops X D listed pend known envc Lc eR La h)(hr:ou T ops=true)(hs:bZ ds h0 w0 β eR La h a w){x:kf}(hx:x∈D)
 (hp:∀e∈gF x.o,In X e) {Q:Exit->Act->World->Prop} {K:Act->World->Prop}
 (hK:∀kY a' w' wB JA,bZ ds h0 w0 kY wB JA h a' w'->ee A T P ops (X.setIfInBounds x.i true) (D.filter fun y=>y.i !=x.i) listed pend known envc Lc wB JA h->K a' w'):
 wpOpIn (FW ro) n P ops Q x.i K a w:=by
 obtain⟨ho,aG⟩:=hB.op x hx;have tW:=hB.look hr ho hp;have Hl:x.i<X.size:=by rw[hB.size];exact(Array.getElem?_eq_some_iff.1 ho).1
 have jE:∀y,(y∈D.filter fun y=>y.i !=x.i)↔y∈D/\y.i≠x.i:=fun y=>by simp
 have tY:∀kY v,bZ ds h0 w0 kY (put eR x.o.dst x.sv) (mf La x.o.dst x.nb) h (a.put x.o.dst v) w->True:=fun _ _ _=>trivial;have fin:ee A T P ops (X.setIfInBounds x.i true) (D.filter fun y=>y.i !=x.i) listed pend known envc Lc (put eR x.o.dst x.sv) (mf La x.o.dst x.nb) h:=by
  obtain⟨-,-,Bf⟩:=jR hr ho;have Pv:∀y∈D,y.i≠x.i->∀t,x.o.dst=some t->y.o.dst≠some t:=fun y hy bU t ht=>(Bf y.i y.o (Ne.symm bU) (hB.op y hy).1 t ht).1;refine⟨by simp[hB.size],fun j=>?_,fun y hy=>?_,fun i o fR P3 e he=>?_,fun i hi=>?_,fun y hy=>hB.pend y ((jE y).1 hy).1,by rw[iU];exact hB.len,fun t ht=>?_,
   fun y hy=>hB.dst y ((jE y).1 hy).1,fun s Ht=>?_,fun y hy s c hn hd=>?_,fun y hy=>hB.op y ((jE y).1 hy).1,fun y hy=>hB.SH y ((jE y).1 hy).1,
   fun y hy z hz=>hB.uniq y ((jE y).1 hy).1 z ((jE z).1 hz).1,fun y hy=>hB.fact y ((jE y).1 hy).1⟩
  ·rw[hB.O1 j,In.set Hl];constructor
   ·rintro(h1| ⟨y,hy,e⟩)
    ·exact .inl (.inr h1)
    ·by_cases M6:y.i=x.i
     ·exact .inl (.inl (by rw[<-M6,e]))
     ·exact .inr ⟨y,(jE y).2 ⟨hy,M6⟩,e⟩
   ·rintro((h1|h1) | ⟨y,hy,e⟩)
    ·exact .inr ⟨x,hx,h1⟩
    ·exact .inl h1
    ·exact .inr ⟨y,((jE y).1 hy).1,e⟩
  ·rw[In.set Hl];obtain⟨h1,h2⟩:=(jE y).1 hy;rintro(e|e)
   ·exact h2 e.symm
   ·exact hB.apart y h1 e
  ·rw[In.set Hl]at fR |-;rcases fR with e'|fR
   ·subst e';rw[ho]at P3;cases P3;exact .inr (hp e he)
   ·exact .inr (hB.down i o fR P3 e he)
  ·rw[In.set Hl];exact .inr (hB.known i hi)
  ·by_cases hd:x.o.dst=some t
   ·by_cases hlen:t<envc.length
    ·rw[hd,px (by rw[hB.len];exact hlen),hB.dst x hx t hd hlen]
    ·have e1:(put eR x.o.dst x.sv).length<=t:=by rw[iU,hB.len];exact Nat.le_of_not_lt hlen
     rw[List.getElem?_eq_none e1,List.getElem?_eq_none (Nat.le_of_not_lt hlen)]
   ·rw[gS hd];refine hB.env t fun y hy Lg=>?_;by_cases M6:y.i=x.i
    ·rw[hB.uniq y hy x hx M6]at Lg;exact hd Lg
    ·exact ht y ((jE y).2 ⟨hy,M6⟩) Lg
  ·rw[nC];split
   ·rename_i hc;obtain⟨c,oa⟩:=Option.isSome_iff_exists.1 hc.2;rw[(hB.box x hx s c oa hc.1).2,oa]
   ·rename_i hc;refine hB.loc s fun y hy hn Lg=>?_;by_cases M6:y.i=x.i
    ·rw[hB.uniq y hy x hx M6]at Lg hn;exact hc ⟨Lg,hn⟩
    ·exact Ht y ((jE y).2 ⟨hy,M6⟩) hn Lg
  ·obtain⟨h1,h2⟩:=(jE y).1 hy;obtain⟨h3,h4⟩:=hB.box y h1 s c hn hd;refine⟨?_,h4⟩;rw[nC,if_neg (fun hc=>Pv y h1 h2 s hc.1 hd)];exact h3
 have hf:=hB.fact x hx;unfold kf.fact at hf;have Ui:=ui hf tW;unfold wpOpIn;simp only[ho];rcases np hs Ui with ⟨hw,hl⟩ | ⟨hw,hl⟩
 ·rw[if_pos hw];have Ji:eN A T (fun _=>P) x.o (jL eR) La h (fun a b=>a=x.sv/\b=x.nb):=by
   refine jr hl (pq tW) (fun PW y hy s off PB c hc=>?_) (fun hb d hd=>?_) (fun _=>rfl)
   ·have:jb x.o=false:=by cases hq:x.o.op<;>simp[iL,jb,hq]at PW |-
    rw[this]at hc;simp only[Bool.false_eq_true,if_false]at hc;have hse:jL eR y=.loc s off:=by rw[pq tW y hy];exact PB
    obtain⟨⟨c',oa⟩,-⟩:=hs.lC hse;have:=hB.sub oa;rw[hc]at this;cases this;exact oa
   ·obtain⟨h1,d',Uo,-⟩:=(oS hl).1 hb;obtain⟨c,hc⟩:=Option.isSome_iff_exists.1 h1;exact(hB.box x hx d c hc hd).1
  obtain⟨v,w',kY,h3,h4⟩:=qU hT hs Ji;refine mL h3 ?_;exact hK _ _ _ _ _ h4 fin
 ·rw[if_neg (by simp[hw])];obtain⟨e1,e2⟩:=hl;have se:mf La x.o.dst x.nb=La:=by rw[e2];unfold mf;cases x.o.dst<;>rfl
  rw[se,e1]at fin;refine⟨fun _ _=>trivial,?_⟩;exact hK _ _ _ _ _ (hs.put (x:=.v undef) (v:=undef) rfl) fin
variable {ro:Option Nat}{n:Nat}
variable {P:Program}{T:aQ}{A:Ar}[aP A]
variable {ds:List Deferred}{h0:ad}{w0:World}{β:Nat->Nat}{h:ad}{a:Act}{w:World}
variable {ops:Array Oper}{X:Array Bool}{D:List kf}{listed pend known:List Nat}{envc eR:Env}{Lc La:Loc}
theorem An.mono{h:ad}{y:Addr}{cs:List Value}{k k':ad->Prop}(x:An h y cs k)(hk:∀h',k h'->k' h'):An h y cs k':=by obtain⟨c,e,fr,g1,g2,g3,g4,g5⟩:=x.out;exact⟨c,e,fr,g1,g2,g3,g4,fun h' e=>hk _ (g5 h' e)⟩
theorem NY.mono{h:ad}{y:Option Addr}{cs:List Value}{k k':ad->Prop}(x:NY h y cs k)(hk:∀h',k h'->k' h'):NY h y cs k':=by
 rcases x with ⟨h1,h2⟩ | ⟨q,h1,h2⟩
 ·exact .inl ⟨h1,hk _ h2⟩
 ·exact .inr ⟨q,h1,h2.mono hk⟩
theorem uU.mono{h:ad}{b:Option Addr}{len cap n size bytes e:Nat}{new:List Value}{k k':Value->ad->Prop}(x:uU h b len cap n size bytes e new k)(hk:∀v h',k v h'->k' v h'):
 uU h b len cap n size bytes e new k':=
 ⟨x.one,fun hc=>(x.fits hc).mono (fun _ q=>hk _ _ q),fun hc=>by
  obtain⟨h1,h2,Gq,h3,h4⟩:=x.NK hc;exact⟨h1,h2,Gq,h3,fun nb c h' rest e1 e2 e3 e4=>hk _ _ (h4 nb c h' rest e1 e2 e3 e4)⟩⟩
theorem oE.mono{h:ad}{e:Nat}{l c:Int}{bytes:Nat}{z:List Value}{k k':Value->ad->Prop}(x:oE h e l c bytes z k)(hk:∀v h',k v h'->k' v h'):oE h e l c bytes z k':=
 ⟨x.len,x.room,fun nb h' e1 e2=>hk _ _ (x.out nb h' e1 e2)⟩
theorem fk.mono{h:ad}{b:Option Addr}{len cap:Nat}{x:Option Addr}{n size bytes e:Nat}{k k':Value->ad->Prop}(q:fk h b len cap x n size bytes e k)(hk:∀v h',k v h'->k' v h'):
 fk h b len cap x n size bytes e k':=by
 obtain⟨new,h1,h2⟩:=q.out;exact⟨new,h1,h2.mono hk⟩
theorem uT.mono{h:ad}{b:Option Addr}{len:Nat}{x:Option Addr}{n size:Nat}{k k':Value->ad->Prop}(q:uT h b len x n size k)(hk:∀v h',k v h'->k' v h'):
 uT h b len x n size k':=by
 obtain⟨cs,h1,h2,h3⟩:=q.out;exact⟨cs,h1,h2,h3.mono fun h'=>hk _ h'⟩
theorem pc.mono{h:ad}{b:Option Addr}{len:Nat}{z:List Value}{k k':ad->Prop}(q:pc h b len z k)(hk:∀h',k h'->k' h'):pc h b len z k':=
 ⟨q.one,q.out.mono hk⟩
theorem cX.mono{p:Unit->Program}{s:Unit->Sem Value}{h:ad}{k k':Value->ad->Prop}(q:cX p s h k)(hk:∀v h',k v h'->k' v h'):cX p s h k':=
 ⟨fun w hw=>by
  obtain⟨v,w',h',h1,h2,h3⟩:=q.out w hw;exact⟨v,w',h',h1,hk _ _ h2,h3⟩⟩
theorem mH.mono{p k k':Unit->Prop}(q:mH p k)(hk:k ()->k' ()):mH p k':=⟨q.h,hk q.out⟩
theorem Mw.mono{p:Unit->Program}{l:Nat}{args:List Value}{h:ad}{R R':Value->ad->Prop}(x:Mw p l args h R)(hr:∀v h',R v h'->R' v h'):Mw p l args h R':=
 ⟨fun w hw=>by
  obtain⟨fn,tmps,rN,body,h1,h2⟩:=x.out w hw;exact⟨fn,tmps,rN,body,h1,fun n=>(h2 n).mono fun e w' ⟨v,h',e1,e2,e3⟩=>⟨v,h',e1,hr _ _ e2,e3⟩⟩⟩
theorem Pq{p:Unit->Program}{o:Oper}{ρ:Operand->SV}{L:Loc}{h:ad}{k:SV->Loc->ad->Prop}(hk:hx A T p o ρ L h k)(F:Loc->ad->Prop)
 (hA:di o=true->F L h) (hN:di o=false->dt o=false->∀h',F L h') (hS:dt o=true->∀L' h',F L' h'):
 hx A T p o ρ L h (fun x L' h'=>k x L' h'/\F L' h'):=by
 unfold hx at hk |-;split at hk
 case h_1 x ho=>try simp only[ho]
                exact⟨hk,hA (by simp[di,ho])⟩
 case h_2 t q x ho=>
  have hS':=hS (by simp[dt,ho]);try simp only[ho]
  repeat' split at hk
  all_goals first
   |exact hk.elim
   |exact⟨hk,hS' _ _⟩
   |exact An.mono hk (fun h' q=>⟨q,hS' _ _⟩)
 case h_3 e ho=>
  have uY:=hN (by simp[di,ho]) (by simp[dt,ho]);try simp only[ho]
  split at hk
  ·exact hk.elim
  ·exact fun n h' e1 e2=>⟨hk n h' e1 e2,uY _⟩
 case h_4 e x ho=>
  have uY:=hN (by simp[di,ho]) (by simp[dt,ho]);try simp only[ho]
  split at hk
  ·exact fun n h' e1 e2=>⟨hk n h' e1 e2,uY _⟩
  ·exact hk.elim
 case h_5 t len parts ho=>
  have uY:=hN (by simp[di,ho]) (by simp[dt,ho]);try simp only[ho]
  repeat' split at hk
  all_goals first
   |exact hk.elim
   |exact fun n h' e1 e2=>⟨hk n h' e1 e2,uY _⟩
 case h_6 t l c ho=>
  have uY:=hN (by simp[di,ho]) (by simp[dt,ho]);try simp only[ho]
  repeat' split at hk
  all_goals first
   |exact hk.elim
   |exact oE.mono hk (fun v h' q=>⟨q,uY _⟩)
 case h_7 t r ho=>
  have uY:=hN (by simp[di,ho]) (by simp[dt,ho]);try simp only[ho]
  split at hk
  ·exact fun n h' e1 e2=>⟨hk n h' e1 e2,uY _⟩
  ·exact hk.elim
 case h_8 f args argTypes ho=>
  have uY:=hN (by simp[di,ho]) (by simp[dt,ho]);try simp only[ho]
  repeat' split at hk
  all_goals first
   |exact hk.elim
   |exact Ap.mono hk (fun v h' q=>⟨q,uY _⟩) (fun _ _ q=>q)
   |exact E5.mono hk (fun v h' q=>⟨q,uY _⟩)
   |exact Mw.mono hk (fun v h' q=>⟨q,uY _⟩)
   |exact cX.mono hk (fun v h' q=>⟨q,uY _⟩)
 case h_9 b args argTypes ho=>
  have uY:=hN (by simp[di,ho]) (by simp[dt,ho]);try simp only[ho]
  repeat' split at hk
  all_goals first
   |exact hk.elim
   |exact fk.mono hk (fun v h' q=>⟨q,uY _⟩)
   |exact mH.mono hk (fun hq=>⟨uU.mono hq.out fun v h' q=>⟨q,uY _⟩⟩)
   |exact uT.mono hk (fun v h' q=>⟨q,uY _⟩)
   |exact pc.mono hk (fun h' q=>⟨q,uY _⟩)
   |exact cX.mono hk (fun v h' q=>⟨q,uY _⟩)
 case h_19 x ho=>try simp only[ho]
                 exact hk
 case h_20=>exact hk.elim
 all_goals
  rename_i ho;have uY:=hN (by simp[di,ho]) (by simp[dt,ho]);try simp only[ho]
  repeat' split at hk
  all_goals first
   |exact hk.elim
   |exact cX.mono hk (fun v h' q=>⟨q,uY _⟩)
theorem Pp{p:Unit->Program}{o:Oper}{ρ:Operand->SV}{L:Loc}{h:ad}{k:SV->Loc->ad->Prop}(hk:hx A T p o ρ L h k):
 hx A T p o ρ L h (fun x L' h'=>k x L' h'/\(dt o=false->L'=L)/\(di o=true->h'=h)):=
 Pq hk (fun L' h'=>(dt o=false->L'=L)/\(di o=true->h'=h)) (fun _=>⟨fun _=>rfl,fun _=>rfl⟩) (fun h1 h2 h'=>⟨fun _=>rfl,fun h3=>by rw[h1]at h3;cases h3⟩)
  (fun h1 L' h'=>⟨fun h2=>(by rw[h1]at h2;cases h2),fun h2=>(by
   cases hq:o.op<;>simp[di,dt,hq]at h1 h2)⟩)
theorem qS{T:aQ}{strict:Bool}{all:List Oper}{h:ad}{L:Loc}{env:Env}:∀ {l:List Nat} {k:Unit->Prop},pins T strict all h L env l k->
 (∀j∈l,∃o,all[j]? =some o/\gd all env o (fun _=>vR T strict h L env o (fun _=>True)) (fun _=>True))/\k ()
 | [],k,hp=>⟨fun _ h=>(by cases h),hp⟩
 |i::r,k,hp=>by
  unfold pins at hp;split at hp
  ·rename_i o ho;have Kc:∀ {R:Unit->Prop},vR T strict h L env o R->vR T strict h L env o (fun _=>True)/\R ():=fun{R} hq=>by
    unfold vR at hq |-;split at hq
    ·rename_i t y Nl;try simp only[Nl]at hq |-
     split at hq
     ·rename_i x hx;try simp only[hx]
      obtain⟨cs,h1,h2⟩:=hq.out;obtain⟨v,h3,h4⟩:=gR h2;exact⟨⟨cs,h1,iJ h3 fun v' e=>by subst e;exact⟨h4.h,trivial⟩⟩,h4.out⟩
     ·rename_i s off hx;try simp only[hx]
      split at hq
      ·exact⟨trivial,hq⟩
      ·split at hq
       ·rename_i c hc;try simp only[hc]
        split at hq
        ·rename_i cs aF;try simp only[aF]
         obtain⟨v,h3,h4⟩:=gR hq;exact⟨iJ h3 fun v' e=>by subst e;exact⟨h4.h,trivial⟩,h4.out⟩
        ·exact hq.elim
       ·exact hq.elim
     ·exact hq.elim
    ·exact⟨trivial,hq⟩
   rcases pU hp with ⟨h1,h2⟩ | ⟨h1,h2⟩
   ·obtain⟨h3,h4⟩:=Kc h1;obtain⟨h5,h6⟩:=qS h4;refine⟨fun j hj=>?_,h6⟩;rcases List.mem_cons.1 hj with rfl|hj
    ·exact⟨o,ho,(h2 _ _).2 h3⟩
    ·exact h5 j hj
   ·obtain⟨h5,h6⟩:=qS h1;refine⟨fun j hj=>?_,h6⟩;rcases List.mem_cons.1 hj with rfl|hj
    ·exact⟨o,ho,(h2 _ _).2 trivial⟩
    ·exact h5 j hj
  ·exact hp.elim
theorem ee.ao(hT:dx P T)(hB:ee A T P ops X D listed pend known envc Lc eR La h)(hr:ou T ops=true)(TI:FT T ops=true)(hs:bZ ds h0 w0 β eR La h a w){k:Nat}{ok:Oper}
 (hk:ops[k]? =some ok) (Hz:k∉listed) (hhv:gY T ok=false) (hp:∀e∈gF ok,In X e) {pn:List Nat} {R:Env->Loc->ad->Prop}
 (Nk:di ok=true\/∀j∈pend,j∈fU ops ops.size (k::known)\/j∈pn\/(∀oj,ops[j]? =some oj->iL oj=false))
 (hx:gd ops.toList envc ok (fun _=>hx A T (fun _=>P) ok (jL envc) Lc h (fun x L' h'=>pins T (dt ok) ops.toList h' L' (put envc ok.dst x) pn (fun _=>R (put envc ok.dst x) L' h')))
  (fun _=>R (put envc ok.dst (.v undef)) Lc h)) {Q:Exit->Act->World->Prop} {K:Act->World->Prop} (gN:jB T ds h0 w0 Q)
 (hK:∀a' w' rJ wB so JA h',R rJ so h'->bZ ds h0 w0 β wB JA h' a' w'->
  ee A T P ops (X.setIfInBounds k true) D (k::listed) (pend.filter fun j=> !(fU ops ops.size (k::known)).contains j) (fU ops ops.size (k::known)) rJ so wB JA h'->K a' w'):
 wpOpIn (FW ro) n P ops Q k K a w:=by
 obtain⟨-,-,Bf⟩:=jR hr hk;have tW:=hB.look hr hk hp;have Nq:k<X.size:=by rw[hB.size];exact(Array.getElem?_eq_some_iff.1 hk).1
 have bU:∀x∈D,k≠x.i:=fun x hx e=>Hz ((hB.O1 k).2 (.inr ⟨x,hx,e.symm⟩));have Pv:∀x∈D,∀t,ok.dst=some t->x.o.dst≠some t:=fun x hx t ht=>(Bf x.i x.o (bU x hx) (hB.op x hx).1 t ht).1;have hlk:∀x∈D,∀t∈x.o.looksAt ops,ok.dst≠some t:=fun x hx t ht hd=>by
  rcases(Bf x.i x.o (bU x hx) (hB.op x hx).1 t hd).2 ht with h3| ⟨-,h3⟩
  ·exact Hz (hB.SH x hx k h3)
  ·exact hB.apart x hx (hp _ h3)
 have Nx:∀i o,In (X.setIfInBounds k true) i->ops[i]? =some o->∀e∈gF o,In (X.setIfInBounds k true) e:=fun i o fR P3 e he=>by
  rw[In.set Nq]at fR |-;rcases fR with e'|fR
  ·subst e';rw[hk]at P3;cases P3;exact .inr (hp e he)
  ·exact .inr (hB.down i o fR P3 e he)
 have Qb:∀i∈fU ops ops.size (k::known),In (X.setIfInBounds k true) i:=uG Nx _ _ fun i hi=>by
  rw[In.set Nq];rcases List.mem_cons.1 hi with rfl|hi
  ·exact .inl rfl
  ·exact .inr (hB.known i hi)
 have PM:∀x∈D,¬In (X.setIfInBounds k true) x.i:=fun x hx fR=>by
  rw[In.set Nq]at fR;rcases fR with e|e
  ·exact bU x hx e
  ·exact hB.apart x hx e
 have fin:∀(sv:SV) (so JA:Loc) (h':ad),XY Lc La so JA->(∀x∈D,x.fact A T P ops (put envc ok.dst sv) so h')->
  ee A T P ops (X.setIfInBounds k true) D (k::listed) (pend.filter fun j=> !(fU ops ops.size (k::known)).contains j) (fU ops ops.size (k::known)) (put envc ok.dst sv) so (put eR ok.dst sv) JA h':=fun sv so JA h' hL hf=>by
  refine⟨by simp[hB.size],fun j=>?_,PM,Nx,Qb,fun x hx=>?_,by rw[iU,iU];exact hB.len,fun t ht=>?_,fun x hx t hd hlen=>?_,fun s Ht=>?_,fun x hx s c hn hd=>?_,hB.op,
   fun x hx e he=>List.mem_cons_of_mem _ (hB.SH x hx e he),hB.uniq,hf⟩
  ·rw[List.mem_cons,hB.O1 j,In.set Nq];constructor
   ·rintro(rfl|h1|h1)
    ·exact .inl (.inl rfl)
    ·exact .inl (.inr h1)
    ·exact .inr h1
   ·rintro((rfl|h1) |h1)
    ·exact .inl rfl
    ·exact .inr (.inl h1)
    ·exact .inr (.inr h1)
  ·simp only[List.mem_filter,Bool.not_eq_true',List.contains_eq_mem,decide_eq_false_iff_not];exact⟨hB.pend x hx,fun hc=>PM x hx (Qb _ hc)⟩
  ·by_cases hd:ok.dst=some t
   ·by_cases hlen:t<envc.length
    ·rw[hd,px (by rw[hB.len];exact hlen),px hlen]
    ·have e1:(put eR ok.dst sv).length<=t:=by rw[iU,hB.len];exact Nat.le_of_not_lt hlen
     have e2:(put envc ok.dst sv).length<=t:=by rw[iU];exact Nat.le_of_not_lt hlen
     rw[List.getElem?_eq_none e1,List.getElem?_eq_none e2]
   ·rw[gS hd,gS hd];exact hB.env t ht
  ·rw[iU]at hlen;rw[gS (fun e=>Pv x hx t e hd)];exact hB.dst x hx t hd hlen
  ·rcases hL with ⟨e1,e2⟩ | ⟨s0,c,q1,q2,g1,g2,e1,e2⟩
   ·rw[e1,e2];exact hB.loc s Ht
   ·rw[e1,e2,lQ g1,lQ g2,hB.loc s Ht]
  ·obtain⟨h1,h2⟩:=hB.box x hx s c hn hd;rcases hL with ⟨e1,e2⟩ | ⟨s0,c',q1,q2,g1,g2,e1,e2⟩
   ·rw[e1,e2];exact⟨h1,h2⟩
   ·have hs0:s0≠s:=fun e=>by rw[e,h1]at g2;cases g2
    rw[e1,e2,lQ g1,lQ g2,if_neg hs0,if_neg hs0];exact⟨h1,h2⟩
 unfold wpOpIn;simp only[hk];rcases pU hx with ⟨h1,h2⟩ | ⟨h1,h2⟩
 ·have hw:Region.wanted ok (yielded ops a.tmps)=true:=by
   have hg:=ui ((h2 (fun _=>True) (fun _=>False)).2 trivial) tW;rcases np hs hg with ⟨hw,-⟩ | ⟨-,hf⟩
   ·exact hw
   ·exact hf.elim
  rw[if_pos hw];have h3:=Hm (Pp h1) (pq tW) (fun t ht=>by
   have:=hB.env t (fun x hx=>Dv TI (hB.op x hx).1 ht);simp only[jL,List.getD_eq_getElem?_getD,this])
  refine Bd hT hs (fun s c hc=>hB.sub hc) h3 gN fun sv v so L' h' w' ⟨g1,g2,g3⟩ Ht hL=>?_;obtain⟨TN,hR⟩:=qS g1;refine hK _ _ _ _ _ _ _ hR Ht (fin sv so L' h' hL fun x hx=>?_);have Jd:∀t∈x.o.looksAt ops,(put envc ok.dst sv)[t]? =envc[t]? :=fun t ht=>gS (hlk x hx t ht);have YH:=hB.fact x hx;cases PW:iL x.o with
  |false=>exact kf.ns YH Jd (fun e=>by rw[PW]at e;cases e) (fun e=>by rw[PW]at e;cases e)
  |true=>
   rcases Nk with Nk|Nk
   ·have j7:dt ok=false:=by cases hq:ok.op<;>simp[di,dt,hq]at Nk |-
    exact kf.ns YH Jd (fun _ s c hc=>by rw[g2 j7];exact hc) (fun _=>g3 Nk)
   ·rcases Nk x.i (hB.pend x hx)with h5|h5|h5
    ·exact absurd (Qb _ h5) (PM x hx)
    ·obtain⟨o',nZ,HF⟩:=TN x.i h5;have TU:ops[x.i]? =some o':=by simpa using nZ
     rw[(hB.op x hx).1]at TU;cases TU;have hfx':gd ops.toList (put envc ok.dst sv) x.o (fun _=>eN A T (fun _=>P) x.o (jL envc) (if jb x.o then []else Lc) h (fun a b=>a=x.sv/\b=x.nb)) (fun _=>x.sv=.v undef/\x.nb=none):=
      ui (by unfold kf.fact at YH;exact YH) Jd
     unfold kf.fact;rcases pU hfx' with ⟨f1,f2⟩ | ⟨f1,f2⟩
     ·refine(f2 _ _).2 ?_;have rX:=(f2 _ _).1 HF;have Lk:jb x.o=false:=by cases hq:x.o.op<;>simp[iL,jb,hq]at PW |-
      rw[Lk]at f1 |-;simp only[Bool.false_eq_true,if_false]at f1 |-;have eJ:x.nb=none:=(oS f1).2 Lk;cases Nl:x.o.op with
      |load t y=>
       have hyl:y∈x.o.op.operands.toList:=by rw[Nl];simp[Op.operands]
       have hsy:jL (put envc ok.dst sv) y=jL envc y:=pq Jd y hyl;unfold eN at f1 |-;unfold vR at rX;simp only[Nl]at f1 rX |-;rw[hsy]at rX |-;have Uk:∀v:Value,(∃d,x.o.dst=some d/\(put envc ok.dst sv)[d]? =some (.v v))->(SV.v v=x.sv/\(none:Option (List Value))=x.nb):=fun v ⟨d,hd,hv⟩=>by
        have hlen:d<envc.length:=by have:=(List.getElem?_eq_some_iff.1 hv).1;rwa[iU]at this
        have:=hB.dst x hx d hd hlen;rw[gS (fun e=>Pv x hx d e hd),this]at hv;exact⟨(Option.some.inj hv).symm,eJ.symm⟩
       split at f1
       ·exact f1.elim
       ·split at f1
        ·rename_i s off PB;simp only[PB]at rX;split at rX
         ·rename_i j7;have hst':dt ok=false:=by simpa using j7
          rw[g2 hst'];exact f1
         ·split at f1
          ·rename_i c hc;split at rX
           ·rename_i c' oa;try simp only[oa]
            split at rX
            ·rename_i cs aF;exact iJ rX fun v hq=>Uk v hq.h
            ·exact rX.elim
           ·exact rX.elim
          ·exact f1.elim
        ·rename_i z PB;simp only[PB]at rX;obtain⟨cs,q1,q2⟩:=rX.out;exact⟨cs,q1,iJ q2 fun v hq=>Uk v hq.h⟩
        ·exact f1.elim
      |_=>simp[iL,Nl]at PW
     ·exact(f2 _ _).2 f1
    ·have:=h5 x.o (hB.op x hx).1;rw[PW]at this;cases this
 ·have hw:Region.wanted ok (yielded ops a.tmps)=false:=by
   have hg:=ui ((h2 (fun _=>False) (fun _=>True)).2 trivial) tW;rcases np hs hg with ⟨-,hf⟩ | ⟨hw,-⟩
   ·exact hf.elim
   ·exact hw
  rw[if_neg (by simp[hw])];refine⟨fun _ _=>trivial,?_⟩;refine hK _ _ _ _ _ _ _ h1 (hs.put (x:=.v undef) (v:=undef) rfl) (fin (.v undef) Lc La h (.inl ⟨rfl,rfl⟩) fun x hx=>?_);exact kf.ns (hB.fact x hx) (fun t ht=>gS (hlk x hx t ht)) (fun _ _ _ hc=>hc) (fun _=>rfl)
variable {ro:Option Nat}{n:Nat}
variable {P:Program}{T:aQ}{A:Ar}[aP A]
variable {ds:List Deferred}{h0:ad}{w0:World}{β:Nat->Nat}{h:ad}{a:Act}{w:World}
variable {ops:Array Oper}{X:Array Bool}{D:List kf}{listed pend known:List Nat}{envc eR:Env}{Lc La:Loc}
theorem bZ.locs(hs:bZ ds h0 w0 β eR La h a w)(hl:∀s,gW La s=gW Lc s):bZ ds h0 w0 β eR Lc h a w:=
 ⟨hs.after,fun s c hc=>hs.loc s c (by rw[hl];exact hc),fun s s' c c' h1 h2=>hs.inj s s' c c' (by rw[hl];exact h1) (by rw[hl];exact h2),hs.size,fun t x hx=>by
  have:=hs.slot t x hx;cases x with
  |v y=>exact this
  |u=>trivial
  |loc s off=>exact⟨by rw[<-hl];exact this.1,this.2⟩,hs.defers⟩
def Rt(X:Array Bool):Nat:=X.toList.countP (!·)
theorem BP{i:Nat}(hi:i<X.size)(hn:¬In X i):Rt (X.setIfInBounds i true)+1=Rt X:=by
 unfold Rt;have hl:i<X.toList.length:=by simpa using hi
 have hx:X.toList[i]=false:=by unfold In at hn;rw[Array.getD_eq_getD_getElem?,Array.getElem?_eq_getElem hi]at hn;simpa using hn
 rw[Array.toList_setIfInBounds];have Hw:0<X.toList.countP (!·):=List.countP_pos_iff.2 ⟨X.toList[i],List.getElem_mem hl,by simp[hx]⟩;rw[List.countP_set (h:=hl)];simp[hx];simp only[Array.countP_toList]at Hw;omega
theorem vt(hX:X.size=ops.size)(hr:ou T ops=true)(he:Region.ready .any ops X=[]):∀j,j<ops.size->In X j:=by
 intro j;induction j using Nat.strongRecOn with
 |_ j ih=>
  intro hj;by_cases fR:In X j
  ·exact fR
  ·exfalso;have:j∈Region.ready .any ops X:=by rw[qP hX];refine⟨fR,ops[j],by simp[hj],fun e hee=>?_⟩;have aG:=(jR hr (show ops[j]? =some ops[j]by simp[hj])).1 e hee;exact ih e aG (by omega)
   rw[he]at this;cases this
theorem OO{p:oh}(ho:sA T ops p true listed pend known=true):∃k∈my p,k∉listed/\k<ops.size:=by
 induction p with
 |done=>simp[sA]at ho
 |aa i r _=>simp[sA]at ho
 |ao i pn r _=>
  simp only[sA,Bool.true_or,Bool.and_eq_true]at ho;refine⟨i,by simp[my],by simpa using ho.1.1.2,?_⟩;have h2:=ho.1.2;split at h2
  ·rename_i o hi;exact(Array.getElem?_eq_some_iff.1 hi).1
  ·cases h2
 |fork l r ihl _=>simp only[sA,Bool.true_or,Bool.and_eq_true,true_and]at ho;obtain⟨k,h1,h2⟩:=ihl ho.1;exact⟨k,by simp[my,h1],h2⟩
theorem Gr{K:Env->Loc->ad->Prop}{p:oh}(ho:sA T ops p true listed pend known=true)(hx:fw A T (fun _=>P) ops.toList K p envc Lc h){k:Nat}(hk:k∈my p):
 ∃pn r,sA T ops (.ao k pn r) true listed pend known=true/\fw A T (fun _=>P) ops.toList K (.ao k pn r) envc Lc h:=by
 induction p with
 |done=>simp[my]at hk
 |aa i r _=>simp[my]at hk
 |ao i pn r _=>simp[my]at hk;subst hk;exact⟨pn,r,ho,hx⟩
 |fork l r ihl ihr=>
  simp only[sA,Bool.true_or,Bool.and_eq_true,true_and]at ho;simp only[my,List.mem_append]at hk;rcases hk with hk|hk
  ·exact ihl ho.1 hx.1 hk
  ·exact ihr ho.2 hx.2 hk
theorem yN{p:oh}(ho:sA T ops p false listed pend known=true)(hp:(∃i pn r,p=.ao i pn r)\/∃l r,p=.fork l r):
 sA T ops p true listed pend known=true/\xY ops p listed=true:=by
 rcases hp with ⟨i,pn,r,rfl⟩ | ⟨l,r,rfl⟩
 ·simp only[sA,Bool.false_or,Bool.true_or,Bool.and_eq_true]at ho |-;simp_all
 ·simp only[sA,Bool.false_or,Bool.true_or,Bool.and_eq_true]at ho |-;simp_all
theorem advance{K:Env->Loc->ad->Prop}(hr:ou T ops=true):∀(p:oh) {D:List kf} {listed pend:List Nat} {envc:Env} {Lc:Loc},ee A T P ops X D listed pend known envc Lc eR La h->
 fw A T (fun _=>P) ops.toList K p envc Lc h->sA T ops p false listed pend known=true->
 ∃D' nL B5 rJ so p',ee A T P ops X D' nL B5 known rJ so eR La h/\fw A T (fun _=>P) ops.toList K p' rJ so h/\sA T ops p' false nL B5 known=true/\
  (p'=.done\/(∃i pn r,p'=.ao i pn r)\/∃l r,p'=.fork l r)
 | .done,D,listed,pend,envc,Lc,hB,hx,ho=>⟨_,_,_,_,_,_,hB,hx,ho,.inl rfl⟩
 | .ao i pn r,D,listed,pend,envc,Lc,hB,hx,ho=>⟨_,_,_,_,_,_,hB,hx,ho,.inr (.inl ⟨_,_,_,rfl⟩)⟩
 | .fork l r,D,listed,pend,envc,Lc,hB,hx,ho=>⟨_,_,_,_,_,_,hB,hx,ho,.inr (.inr ⟨_,_,rfl⟩)⟩
 | .aa i r,D,listed,pend,envc,Lc,hB,hx,ho=>by
  simp only[sA,Bool.not_false,Bool.true_and,Bool.and_eq_true]at ho;obtain⟨⟨h1,h2⟩,h3⟩:=ho;split at h2
  ·rename_i o hi;simp only[Bool.and_eq_true,List.all_eq_true,List.contains_eq_mem,decide_eq_true_eq]at h2;unfold fw at hx;simp only[Array.getElem?_toList,hi]at hx;obtain⟨sv,nb,hK,Eb⟩:=hB.take hr hi (by simpa using h1) h2.1 h2.2 hx;refine advance hr r Eb ?_ h3;rcases hK with hK| ⟨hK,e1,e2⟩
   ·exact hK
   ·rw[e1,e2];have:mf Lc o.dst none=Lc:=by unfold mf;cases o.dst<;>rfl
    rw[this];exact hK
  ·cases h2
theorem AX(hT:dx P T)(hr:ou T ops=true)(TI:FT T ops=true){K:Env->Loc->ad->Prop}{Q:Exit->Act->World->Prop}
 (gN:jB T ds h0 w0 Q) (hK:∀bJ L' h' kY a' w',K bJ L' h'->bZ ds h0 w0 kY bJ L' h' a' w'->Q .normal a' w'):
 ∀(fuel:Nat) {X:Array Bool} {D:List kf} {listed pend known:List Nat} {envc eR:Env} {Lc La:Loc} {h:ad} {β:Nat->Nat} {a:Act} {w:World} {p:oh},
  Rt X<=fuel->ee A T P ops X D listed pend known envc Lc eR La h->bZ ds h0 w0 β eR La h a w->fw A T (fun _=>P) ops.toList K p envc Lc h->sA T ops p false listed pend known=true->
  wpAnyIn (FW ro) n P .any ops Q fuel X a w:=by
 intro fuel;have done:∀ {X:Array Bool} {D:List kf} {listed pend known:List Nat} {envc eR:Env} {Lc La:Loc} {h:ad} {β:Nat->Nat} {a:Act} {w:World} {p:oh},
  ee A T P ops X D listed pend known envc Lc eR La h->bZ ds h0 w0 β eR La h a w->fw A T (fun _=>P) ops.toList K p envc Lc h->sA T ops p false listed pend known=true->
  Region.ready .any ops X=[]->Q .normal a w:=fun{X D listed pend known envc eR Lc La h β a w p} hB hs hx ho he=>by
  have Nv:=vt hB.size hr he;obtain⟨D',nL,B5,rJ,so,p',Eb,pH,nZ,PI⟩:=advance hr p hB hx ho;have hD:D'=[]:=by
   cases D' with
   |nil=>rfl
   |cons x r=>exfalso;exact Eb.apart x (by simp) (Nv x.i (Array.getElem?_eq_some_iff.1 (Eb.op x (by simp)).1).1)
  subst hD;have fQ:∀k,k∉nL->k<ops.size->False:=fun k h1 h2=>h1 (Eb.KK (Nv k h2));rcases PI with rfl|PI
  ·unfold fw at pH;refine hK _ _ _ β _ _ pH ?_;have e1:eR=rJ:=List.ext_getElem? fun t=>Eb.env t (fun x hx=>by cases hx);have e2:∀s,gW La s=gW so s:=fun s=>Eb.loc s (fun x hx=>by cases hx);rw[e1]at hs;exact hs.locs e2
  ·obtain⟨h1,-⟩:=yN nZ PI;obtain⟨k,-,h2,h3⟩:=OO h1;exact(fQ k h2 h3).elim
 induction fuel with
 |zero=>
  intro X D listed pend known envc eR Lc La h β a w p hf hB hs hx ho;have he:Region.ready .any ops X=[]:=by
   apply List.eq_nil_iff_forall_not_mem.2;intro j hj;rw[qP hB.size]at hj;obtain⟨h1,o,h2,-⟩:=hj;have hj':j<X.size:=by rw[hB.size];exact(Array.getElem?_eq_some_iff.1 h2).1
   have:=BP hj' h1;omega
  exact⟨he,done hB hs hx ho he⟩
 |succ fuel ih=>
  intro X D listed pend known envc eR Lc La h β a w p hf hB hs hx ho;refine⟨fun he=>done hB hs hx ho he,fun k hk=>?_⟩;obtain⟨D',nL,B5,rJ,so,p',Eb,pH,nZ,PI⟩:=advance hr p hB hx ho;have ER:=hk;rw[qP hB.size]at ER;obtain⟨PY,ok,jh,pO⟩:=ER;have Nq:k<X.size:=by rw[hB.size];exact(Array.getElem?_eq_some_iff.1 jh).1
  have hunl:=BP Nq PY;by_cases hD:∃x∈D',x.i=k
  ·obtain⟨x,hxD,rfl⟩:=hD;have:ops[x.i]? =some x.o:=(Eb.op x hxD).1;rw[jh]at this;cases this;exact Eb.catch hT hr hs hxD pO fun kY a' w' wB JA h1 h2=>ih (by omega) h2 h1 pH nZ
  ·have hkl:k∉nL:=fun hm=>by
    rcases(Eb.O1 k).1 hm with h1|h1
    ·exact PY h1
    ·exact hD h1
   rcases PI with rfl|PI
   ·simp only[sA,Bool.not_false,Bool.true_and,List.all_eq_true,List.mem_range,List.contains_eq_mem,decide_eq_true_eq]at nZ;exact absurd (nZ k (by rw[<-hB.size];exact Nq)) hkl
   ·obtain⟨h1,h2⟩:=yN nZ PI;have hkh:k∈my p':=by
     unfold xY at h2;rw[List.all_eq_true]at h2;have:=h2 k (by simp only[List.mem_range];rw[<-hB.size];exact Nq);simp only[jh,Bool.or_eq_true,List.contains_eq_mem,decide_eq_true_eq,Bool.not_eq_true',List.all_eq_false]at this;rcases this with (h3|h3) | ⟨e,h3,h4⟩
     ·exact absurd h3 hkl
     ·exact h3
     ·exact absurd (Eb.KK (pO e h3)) (by simpa using h4)
    obtain⟨pn,r,h3,h4⟩:=Gr h1 pH hkh;unfold fw at h4;simp only[Array.getElem?_toList,jh]at h4;simp only[sA,Bool.true_or,Bool.true_and,Bool.and_eq_true,jh]at h3;obtain⟨⟨-,h5,h6⟩,h7⟩:=h3;refine Eb.ao hT hr TI hs jh hkl (by simpa using h5) pO ?_ h4 gN (fun a' w' envc2 enva2 Lc2 La2 h' hR Je hB2=>ih (by omega) hB2 Je hR h7);simp only[Bool.or_eq_true,List.all_eq_true,List.contains_eq_mem,decide_eq_true_eq]at h6;rcases h6 with h6|h6
    ·exact .inl h6
    ·refine .inr fun j hj=>?_;rcases h6 j hj with (h8|h8) |h8
     ·exact .inl h8
     ·exact .inr (.inl h8)
     ·refine .inr (.inr fun oj Bj=>?_);simp only[Bj,Bool.not_eq_true']at h8;exact h8
variable {ro:Option Nat}{n:Nat}
variable {P:Program}{T:aQ}{A:Ar}[aP A]
variable {ds:List Deferred}{h0:ad}{w0:World}{β:Nat->Nat}{h:ad}{a:Act}{w:World}{env:Env}{L:Loc}
def da(T:aQ):Code->Bool
 | .region id ops true=>(ou T ops&&FT T ops)&&sA T ops (T.aw id) false [] [] []
 | .seq a b| .cond _ a b=>da T a&&da T b
 | .block _ c| .loop c=>da T c
 | .rangeFunc _ _ a c=>da T a&&da T c
 |_=>true
def Ik:Ex->Exit
 | .normal=>.normal
 | .exit id=>.exit id
 | .ret=>.ret
theorem Da(n:Nat):Rt (Array.replicate n false)<=n:=by unfold Rt;have:=List.countP_le_length (p:=fun b:Bool=> !b) (l:=(Array.replicate n false).toList);simpa using this
theorem wQ:∀ {e e1:Env},wk e e1->e.length=e1.length
 | [],[],_=>rfl
 |x::r,y::q,hw=>by
  unfold wk at hw;simp only[List.length_cons];cases y with
  |u=>rw[wQ hw]
  |v b=>rw[wQ hw.2]
  |loc s o=>rw[wQ hw.2]
theorem wR:∀ {e e1:Env},Sx.wk e e1->∀(t:Nat) (x:SV),e1[t]? =some x->x=SV.u\/e[t]? =some x
 | [],[],_,t,x,hx=>by simp at hx
 |y::r,z::q,hw,t,x,hx=>by
  unfold wk at hw;cases t with
  |zero=>
   simp at hx |-;subst hx;cases z with
   |u=>exact .inl rfl
   |v b=>exact .inr hw.1
   |loc s o=>exact .inr hw.1
  |succ t=>
   simp at hx |-;cases z with
   |u=>exact wR hw t x hx
   |v b=>exact wR hw.2 t x hx
   |loc s o=>exact wR hw.2 t x hx
theorem pD{L:Loc}:∀ {L1:Loc},Ks L L1->∀(s:Nat) (c:List Value),gW L1 s=some c->gW L s=some c
 | [],_,s,c,hc=>by cases hc
 | (k,d)::r,hl,s,c,hc=>by
  unfold Ks at hl;simp only[gW]at hc;split at hc
  ·rename_i e;subst e;cases hc;exact hl.1
  ·exact pD hl.2 s c hc
theorem sD{L:Loc}:∀ {e:Env},S2 L e->∀(t s o:Nat),e[t]? =some (SV.loc s o)->∃c,gW L s=some c
 | [],_,t,s,o,hx=>by simp at hx
 |x::r,hl,t,s,o,hx=>by
  unfold S2 at hl;cases t with
  |zero=>simp at hx;subst hx;exact Option.isSome_iff_exists.1 hl.1
  |succ t=>
   simp at hx;cases x with
   |u=>exact sD hl t s o hx
   |v b=>exact sD hl t s o hx
   |loc s' o'=>exact sD hl.2 t s o hx
theorem bZ.wk(hs:bZ ds h0 w0 β env L h a w){gh:Env}{L1:Loc}(hw:Wk env L gh L1):bZ ds h0 w0 β gh L1 h a w:=
 ⟨hs.after,fun s c hc=>hs.loc s c (pD hw.loc s c hc),fun s s' c c' h1 h2=>hs.inj s s' c c' (pD hw.loc s c h1) (pD hw.loc s' c' h2),by rw[hs.size,wQ hw.env],fun t x hx=>by
  rcases wR hw.env t x hx with rfl|he
  ·trivial
  ·have:=hs.slot t x he;cases x with
   |u=>trivial
   |v b=>exact this
   |loc s o=>exact⟨sD hw.ok t s o hx,this.2⟩,hs.defers⟩
theorem eV(hT:dx P T):∀(c:Code),da T c=true->∀ {K:Ex->Env->Loc->ad->Prop} {Q:Exit->Act->World->Prop} {env:Env} {L:Loc} {h:ad} {β:Nat->Nat} {a:Act} {w:World},
 bZ ds h0 w0 β env L h a w->sx A T (fun _=>P) c K env L h->
 jB T ds h0 w0 Q->(∀e bJ L' h' kY a' w',K e bJ L' h'->bZ ds h0 w0 kY bJ L' h' a' w'->Q (Ik e) a' w')->c.wpIn (FW ro) n P Q a w:=by
 intro c;induction c with
 |skip=>exact fun _ {K Q env L h β a w} hs hx gN hK=>wpIn_skip (hK .normal _ _ _ _ _ _ hx hs)
 |region id ops draw=>
  intro ho K Q env L h β a w hs hx gN hK;cases draw with
  |false=>exact wpIn_region_list (kh hT gN (fun bJ L' h' kY a' w' h1 h2=>hK .normal _ _ _ _ _ _ h1 h2) ops.toList _ _ _ _ _ _ hs hx)
  |true=>
   simp only[da,Bool.and_eq_true]at ho;refine wpIn_region_any hT.mixed ?_;have Ht:bZ ds h0 w0 β env L h a { w with drawn:=w.drawn+1 }:=
    ⟨⟨hs.after.os,hs.after.tape,hs.after.output,hs.after.size,hs.after.uO,hs.after.frame⟩,hs.loc,hs.inj,hs.size,hs.slot,hs.defers⟩
   refine AX hT ho.1.1 ho.1.2 (K:=fun env L h=>K .normal env L h) gN (fun bJ L' h' kY a' w' h1 h2=>hK .normal _ _ _ _ _ _ h1 h2) ops.size (D:=[]) (listed:=[]) (pend:=[]) (known:=[]) (envc:=env) (Lc:=L)
    (by exact Da ops.size) ?_ Ht hx ho.2
   have hn:∀j,¬In (Array.replicate ops.size false) j:=fun j hj=>by
    unfold In at hj;rw[Array.getD_eq_getD_getElem?,Array.getElem?_replicate]at hj;split at hj<;>simp at hj
   exact⟨by simp,fun j=>by simp[hn j],fun x hx=>(by cases hx),fun i o hi=>absurd hi (hn i),fun i hi=>(by cases hi),fun x hx=>(by cases hx),rfl,fun _ _=>rfl,fun x hx=>(by cases hx),fun _ _=>rfl,
    fun x hx=>(by cases hx),fun x hx=>(by cases hx),fun x hx=>(by cases hx),fun x hx=>(by cases hx),fun x hx=>(by cases hx)⟩
 |seq c d Pg Pf=>
  intro ho K Q env L h β a w hs hx gN hK;simp only[da,Bool.and_eq_true]at ho;unfold sx at hx;refine wpIn_seq (Pg ho.1 hs hx (fun c β env L h a w q1 q2=>gN c β env L h a w q1 q2) fun e bJ L' h' kY a' w' h1 h2=>?_);cases e with
  |normal=>exact Pf ho.2 h2 h1 gN hK
  |exit id=>exact hK (.exit id) _ _ _ _ _ _ h1 h2
  |ret=>exact hK .ret _ _ _ _ _ _ h1 h2
 |cond x c d Pg Pf=>
  intro ho K Q env L h β a w hs hx gN hK;simp only[da,Bool.and_eq_true]at ho;unfold sx at hx;split at hx
  ·rename_i t ht;refine wpIn_cond (hs.aS ht) ?_;rcases iR hx with ⟨rfl,hx⟩ | ⟨rfl,hx⟩
   ·exact Pg ho.1 hs hx gN hK
   ·exact Pf ho.2 hs hx gN hK
  ·exact hx.elim
 |block id c ih=>
  intro ho K Q env L h β a w hs hx gN hK;unfold sx at hx;refine wpIn_block (ih ho hs hx (fun c β env L h a w q1 q2=>gN c β env L h a w q1 q2) fun e bJ L' h' kY a' w' h1 h2=>?_);cases e with
  |normal=>exact hK .normal _ _ _ _ _ _ h1 h2
  |exit j=>
   simp only[Ik,Exit.inBlock]at h1 |-;split at h1
   ·rename_i e;rw[if_pos e];exact hK .normal _ _ _ _ _ _ h1 h2
   ·rename_i e;rw[if_neg e];exact hK (.exit j) _ _ _ _ _ _ h1 h2
  |ret=>exact hK .ret _ _ _ _ _ _ h1 h2
 |loop c ih=>
  intro ho K Q env L h β a w hs hx gN hK;unfold sx at hx;obtain⟨I,n,⟨gh,L1,Ts,hI⟩,PD⟩:=hx.out;refine wpIn_loop_ghost (fun n a w=>∃env L h β,I n env L h/\bZ ds h0 w0 β env L h a w) n ⟨_,_,_,_,hI,hs.wk Ts⟩ fun n a w ⟨env,L,h,β,h1,h2⟩=>?_;refine ih ho h2 (PD n env L h h1) (fun c β env L h a w q1 q2=>gN c β env L h a w q1 q2) fun e bJ L' h' kY a' w' h3 h4=>?_;cases e with
  |normal=>obtain⟨m,gh,L1,hm,Ts,h5⟩:=h3;exact⟨m,hm,_,_,_,_,h5,h4.wk Ts⟩
  |exit j=>exact hK (.exit j) _ _ _ _ _ _ h3 h4
  |ret=>exact hK .ret _ _ _ _ _ _ h3 h4
 |rangeFunc=>intro ho K Q env L h β a w hs hx gN hK;exact hx.elim
 |exit id=>exact fun _ {K Q env L h β a w} hs hx gN hK=>wpIn_exit (hK (.exit id) _ _ _ _ _ _ hx hs)
 |scope=>intro ho K Q env L h β a w hs hx gN hK;exact hx.elim
 |label=>intro ho K Q env L h β a w hs hx gN hK;exact hx.elim
 |goto=>intro ho K Q env L h β a w hs hx gN hK;exact hx.elim
 |ret=>exact fun _ {K Q env L h β a w} hs hx gN hK=>wpIn_ret (hK .ret _ _ _ _ _ _ hx hs)
 |refuse=>intro ho K Q env L h β a w hs hx gN hK;exact hx.elim
def xm(tmps:Array Value):ResultVar->Sem Value
 | .tmp t=>pure (tmps.getD t undef)
 | .cell q t=>do loadVar t (<-asAddr (tmps.getD q undef))
theorem tq(fn:Func)(tmps:Array Value):results fn tmps=(do
 let vs <-fn.results.mapM (xm tmps)
 pure (if h:vs.size=1 then vs[0]else .tuple vs)):=by
 have:(fun(x:ResultVar)=>(match x with| .tmp t=>pure (tmps.getD t undef) | .cell a t=>do loadVar t (<-asAddr (tmps.getD a undef)):Sem Value))=xm tmps:=by funext x;cases x<;>rfl
 unfold results;rw[<-this];rfl
theorem FX(hT:dx P T)(hs:bZ ds h0 w0 β env L h a w){r:ResultVar}{k:Value->Prop}(hr:J6 T env L h r k):
 ∃v,(xm a.tmps r).run P w=.ok v w/\k v:=by
 unfold J6 at hr;split at hr
 ·rename_i t;split at hr
  ·rename_i x hx;have:=hs.slot t _ (getD_some hx (by simp));exact⟨_,rfl,by rw[show a.tmps.getD t undef=x from this];exact hr⟩
  ·exact hr.elim
 ·rename_i q t;split at hr
  ·exact hr.elim
  ·rename_i hx hk;have hi:=dV hT (t:=t) (fun e=>hk e);have mJ:=hs.slot q _ (getD_some hx (by simp));split at hr
   ·rename_i c hc;split at hr
    ·rename_i cs aF;obtain⟨h1,h2⟩:=yZ hs hc aF;obtain⟨v,h3,h4⟩:=km hi w _ _ cs h1 h2 hr;refine⟨v,?_,h4⟩;show(do loadVar t (<-asAddr (a.tmps.getD q undef)):Sem Value).run P w=_;rw[show a.tmps.getD q undef=_ from mJ.2];simp[asAddr,h3]
    ·exact hr.elim
   ·exact hr.elim
  ·rename_i hx hk;have hi:=dV hT (t:=t) (fun e=>hk e);have mJ:=hs.slot q _ (getD_some hx (by simp));obtain⟨cs,h1,hl⟩:=(show sI _ _ _ _ from hr).out;obtain⟨g1,g2,g3⟩:=h1.cell hs.after.uO;obtain⟨v,h3,h4⟩:=km hi w _ _ cs g2 g3 hl;refine⟨v,?_,h4⟩;rename_i y;have:y=⟨y.block,y.off,none⟩:=by cases y;simp at g1;rw[g1]
   show(do loadVar t (<-asAddr (a.tmps.getD q undef)):Sem Value).run P w=_;rw[show a.tmps.getD q undef=.pointer (some y)from mJ];simp only[asAddr,Sem.run_bind,Sem.run_pure,Result.andThen_ok];rw[this];exact h3
  ·exact hr.elim
theorem tu(hT:dx P T)(hs:bZ ds h0 w0 β env L h a w):∀ {rs:List ResultVar} {k:List Value->Prop},ll T env L h rs k->
 ∃l,(rs.mapM (xm a.tmps)).run P w=.ok l w/\k l
 | [],k,hr=>⟨[],rfl,hr⟩
 |r::rs,k,hr=>by
  unfold ll at hr;obtain⟨v,h1,h2⟩:=FX hT hs hr;obtain⟨l,h3,h4⟩:=tu hT hs h2;refine⟨v::l,?_,h4⟩;rw[List.mapM_cons];simp only[Sem.run_bind,h1,Result.andThen_ok,h3,Sem.run_pure]
theorem jB.none{Q:Exit->Act->World->Prop}(pO:∀c s h,¬T.kp c s h):jB T ds h0 w0 Q:=fun c β env L h a w q _=>(pO _ _ _ q).elim
theorem af(A:Ar)[aP A](hT:dx P T){f:FuncId}{fn:Func}{c:Code}(hf:P.funcs[f]? =some fn)(hb:fn.body=some c)(ho:da T c=true){args:List Value}{h:ad}{R:Value->ad->Prop}
 (hx:Od A T (fun _=>P) c fn.ntmps fn.results.toList args h R) (pO:∀c s h,¬T.kp c s h:=by exact fun _ _ _ hc=>hc):E5 (fun _=>P) f args h R:=by
 refine⟨fun w hw=>?_⟩;refine calls_of_wp hf hb (wpIn_wide (n:=0).1 ?_);have hs:bZ [] h w (fun _=>0) (args.map SV.v++List.replicate (fn.ntmps-args.length) (.v undef)) [] h { tmps:=args.toArray++Array.replicate (fn.ntmps-args.toArray.size) undef,defers:=[] } w:=by
  refine⟨aR.refl hw,fun s c hc=>(by cases hc),fun s s' c c' hc=>(by cases hc),by simp,fun t x hx=>?_,rfl⟩;rw[List.getElem?_append]at hx;split at hx
  ·rename_i aG;have xN:t<args.length:=by simpa using aG
   rw[List.getElem?_map,List.getElem?_eq_getElem xN]at hx;simp at hx;subst hx;show _=_;rw[Array.getD_eq_getD_getElem?,Array.getElem?_append_left (by simpa using xN)];simp[xN]
  ·rename_i iu;have P6:args.length<=t:=by simpa using iu
   rw[List.getElem?_replicate]at hx;split at hx
   ·rename_i aG;cases hx;show _=_;rw[Array.getD_eq_getD_getElem?,Array.getElem?_append_right (by simpa using P6),Array.getElem?_replicate];simp at aG |-;rw[if_pos aG];rfl
   ·cases hx
 refine eV (A:=A) (ro:=none) (n:=0) hT c ho hs hx (jB.none pO) fun e bJ L' h' kY a' w' h1 h2=>?_;have fin:ll T bJ L' h' fn.results.toList (fun l=>iZ l (fun v=>R v h'))->a'.defers=[]/\∃v,(results fn a'.tmps).run P w'=.ok v w'/\∃v1 h1,Ending.returned v=.returned v1/\R v1 h1/\aR h w h1 w':=fun hr=>by
  obtain⟨l,h3,h4⟩:=tu hT h2 hr;refine⟨h2.defers,?_⟩;have h5:(results fn a'.tmps).run P w'=.ok (if h:l.toArray.size=1 then l.toArray[0]else .tuple l.toArray) w':=by rw[tq,Array.mapM_eq_mapM_toList];rw[Sem.run_bind,Sem.run_map];rw[h3];rfl
  refine⟨_,h5,_,h',rfl,?_,h2.after⟩;unfold iZ at h4;split at h4
  ·exact h4
  ·rename_i bU;have:¬l.toArray.size=1:=fun hl=>by
    match l,hl with
    | [x],_=>exact bU x rfl
   rw[dif_neg this];exact h4
 cases e with
 |normal=>exact fin h1
 |ret=>exact fin h1
 |exit id=>exact h1.elim
variable {ro:Option Nat}{n:Nat}
variable {P:Program}{T:aQ}{A:Ar}[aP A]
inductive Df where
 |call (g:FuncId) (args cap:List Value)
 |mark (m:Nat)
def Df.at:Df->Deferred
 | .call g args cap=>{ target:=.fn (.func g) cap.toArray,args:=args.toArray }
 | .mark m=>{ target:=.collected m,args:= #[] }
def iz:Env->Env
 | []=>[]
 |x::r=>match x with
  | .loc _ _=>.u::iz r
  |x=>x::iz r
def rq:Env->List Nat->List Value->Env
 |env,p::ps,v::vs=>rq (env.set p (.v v)) ps vs
 |env,_,_=>env
def AV(A:Ar)(T:aQ)(p:Unit->Program)(rN body:Code)(env:Env)(ps:List Nat)(l:Nat)(o1 o2:Obj)(vs:List Value)(k:ad->Prop)(hh:ad):Prop:=
 sx A T p rN (fun e gh L1 h1=>match e with
  | .normal=>h1 l=some o1/\sx A T p body (fun e _ _ h2=>match e with
   | .normal=>h2 l=some o2/\k (aV h2 l o1)
   |_=>False) gh L1 (aV h1 l o2)
  |_=>False) (rq env ps vs) [] hh
structure RgX(p:Unit->Program)(gf:FuncId)(lb:List Value)(n:Nat)(round:Nat->Obj->Obj->List Value->(ad->Prop)->ad->Prop)(h:ad)(K:Nat->ad->Prop):Prop where
 out:∀(m l:Nat) (o1 o2:Obj),h m=none->h l=none->m≠l->(∀c e fr,o1≠.cells c e fr)->(∀c e fr,o2≠.cells c e fr)->
  (∀vs hh (k:ad->Prop),vs.length=n->hh l=some o1->round l o1 o2 vs k hh->Mw p l vs hh (fun v h'=>v=.bool true/\k h'))->
  E5 p gf (.func (.yield l) #[] #[]::lb) (aV (aV h m (.deferred (some []))) l o1) (fun _ h'=>h' l=some o1/\∀o3,(∀c e fr,o3≠.cells c e fr)->K m (aV h' l o3))
def FnD(P:Program)(f:FuncId)(args:List Value)(h:ad)(R:Value->ad->Prop):Prop:=
 ∀w,rP h w->∀n,CallsDIn Fence.wide n P f args.toArray .returning w fun e u' w'=>u'=.returning/\∃v h',e=.returned v/\R v h'/\aR h w h' w'
structure EF(p:Unit->Program)(f:FuncId)(args:List Value)(h:ad)(R:Value->ad->Prop):Prop where
 out:FnD (p ()) f args h R
theorem EF.mono{p:Unit->Program}{f:FuncId}{args:List Value}{h:ad}{R R':Value->ad->Prop}(x:EF p f args h R)(hr:∀v h',R v h'->R' v h'):EF p f args h R':=
 ⟨fun w hw n=>(x.out w hw n).mono fun e u' w' ⟨hu,v,h',he,hR,ha⟩=>⟨hu,v,h',he,hr _ _ hR,ha⟩⟩
def oJ(A:Ar)(T:List Df->aQ)(p:Unit->Program)(all:List Oper)(K:List Df->Env->Loc->ad->Prop):List Oper->List Df->Env->Loc->ad->Prop
 | [],ds,env,L,h=>K ds env L h
 |o::rest,ds,env,L,h=>
  gd all env o
   (fun _=>match o.op with
    | .defer c=>match c.callee with
     | .value f=>match jL env f with
      | .v (.func (.func g) first cap)=>match jM (c.args.toList.map (jL env))with
       |some as=>oJ A T p all K rest (.call g (first.toList++as) cap.toList::ds) (put env o.dst (.v undef)) L h
       |none=>False
      |_=>False
     |_=>False
    |_=>match gY (T ds) o with
     |true=>eN A (T ds) p o (jL env) L h (fun x nb=>oJ A T p all K rest ds (put env o.dst x) (mf L o.dst nb) h)
     |false=>hx A (T ds) p o (jL env) L h (fun x L' h'=>oJ A T p all K rest ds (put env o.dst x) L' h'))
   (fun _=>oJ A T p all K rest ds (put env o.dst (.v undef)) L h)
def EH(A:Ar)(T:List Df->aQ)(p:Unit->Program):Code->(Ex->List Df->Env->Loc->ad->Prop)->List Df->Env->Loc->ad->Prop
 | .region id ops false,K,ds,env,L,h=>oJ A T p ops.toList (fun ds env L h=>K .normal ds env L h) ops.toList ds env L h
 | .seq a b,K,ds,env,L,h=>EH A T p a (fun e ds env L h=>match e with
  | .normal=>EH A T p b K ds env L h
  |e=>K e ds env L h) ds env L h
 | .cond c a b,K,ds,env,L,h=>match jL env c with
  | .v (.bool t)=>Ez t (fun _=>EH A T p a K ds env L h) (fun _=>EH A T p b K ds env L h)
  |_=>False
 | .block id c,K,ds,env,L,h=>EH A T p c (fun e ds env L h=>match e with
  | .exit j=>if j=id then K .normal ds env L h else K (.exit j) ds env L h
  |e=>K e ds env L h) ds env L h
 | .rangeFunc g ps rN body,K,ds,env,L,h=>match jL env g with
  | .v (.func (.func gf) first lb)=>match first.isEmpty,(T ds).fn gf with
   |true,true=>RgX p gf lb.toList ps.size (AV A (T ds) p rN body (iz env) ps.toList) h (fun m h'=>K .normal (.mark m::ds) env L h')
   |_,_=>False
  |_=>False
 |c,K,ds,env,L,h=>sx A (T ds) p c (fun e env L h=>K e ds env L h) env L h
def xj(T:aQ)(p:Unit->Program):List Df->(ad->Prop)->ad->Prop
 | [],k,h=>k h
 | .call g args cap::r,k,h=>match T.fn g with
  |true=>EF p g (args++cap) h (fun _ h'=>xj T p r k h')
  |false=>False
 | .mark m::r,k,h=>h m=some (.deferred (some []))/\xj T p r k (aV h m (.deferred none))
def Ss(A:Ar)(T:aQ)(p:Unit->Program)(c:Code)(ntmps:Nat)(rs:List ResultVar)(args:List Value)(h:ad)(R:Value->ad->Prop):Prop:=
 EH A (fun _=>T) p c (fun e ds env L h=>match e with
  | .exit _=>False
  |_=>xj T p ds (fun h=>ll T env L h rs (fun l=>iZ l (fun v=>R v h))) h) [] (args.map SV.v++List.replicate (ntmps-args.length) (.v undef)) [] h
variable {h0:ad}{w0:World}{β:Nat->Nat}{h:ad}{a:Act}{w:World}{env:Env}{L:Loc}
theorem bZ.Al{ds:List Deferred}(hs:bZ ds h0 w0 β env L h a w)(d:Deferred):bZ (d::ds) h0 w0 β env L h { a with defers:=d::a.defers } w:=
 ⟨hs.after,hs.loc,hs.inj,hs.size,hs.slot,by rw[hs.defers]⟩
def IZ(T:List Df->aQ)(h0:ad)(w0:World)(Q:Exit->Act->World->Prop):Prop:=∀ds:List Df,jB (T ds) (ds.map Df.at) h0 w0 Q
variable {TT:List Df->aQ}
theorem gO(hT:∀ds,dx P (TT ds)){ops:Array Oper}{K:List Df->Env->Loc->ad->Prop}{Q:Exit->Act->World->Prop}
 (gN:IZ TT h0 w0 Q) (hK:∀CL bJ L' h' kY a' w',K CL bJ L' h'->bZ (CL.map Df.at) h0 w0 kY bJ L' h' a' w'->Q .normal a' w'):
 ∀(l:List Oper) (ds:List Df) (env:Env) (L:Loc) (h:ad) (β:Nat->Nat) (a:Act) (w:World),bZ (ds.map Df.at) h0 w0 β env L h a w->
  oJ A TT (fun _=>P) ops.toList K l ds env L h->wpListIn (FW none) n P ops Q l a w
 | [],ds,env,L,h,β,a,w,hs,hx=>hK _ _ _ _ _ _ _ hx hs
 |o::r,ds,env,L,h,β,a,w,hs,hx=>by
  unfold oJ at hx;unfold wpListIn;rcases np hs hx with ⟨hw,hx⟩ | ⟨hw,hx⟩
  ·rw[if_pos hw];split at hx
   ·rename_i c ho;split at hx
    ·rename_i f hc;split at hx
     ·rename_i g first cap hf
      split at hx
      ·rename_i as has;have hr:(execOp a.eval o).run P w=.ok (.defer (Df.at (.call g (first.toList++as) cap.toList))) w:=by
        have e1:first++as.toArray=(first.toList++as).toArray:=by apply Array.ext';simp
        simp only[execOp,ho,resolve,hc,hs.aS hf,eT hs has,Deferred.ofValue,Sem.run_bind,Sem.run_pure,Result.andThen_ok,Df.at,e1]
       unfold Oper.wpIn;refine⟨fun _ _=>trivial,?_⟩;rw[show(FW none).round=none from rfl,Oper.semAt_none,hr,Oper.uponIn_defer];exact gO hT gN hK r (.call g (first.toList++as) cap.toList::ds) _ _ _ _ _ _ ((hs.Al (Df.at (.call g (first.toList++as) cap.toList))).put (d:=o.dst) (x:=.v undef) (v:=undef) rfl) hx
      ·exact hx.elim
     ·exact hx.elim
    ·exact hx.elim
   ·split at hx
    ·obtain⟨sv,nb,h1,h2⟩:=lR hx;obtain⟨v,w',kY,h3,h4⟩:=qU (hT ds) hs (h2 (fun x y=>x=sv/\y=nb) ⟨rfl,rfl⟩);refine mL h3 ?_;exact gO hT gN hK r _ _ _ _ _ _ _ h4 h1
    ·refine Bd (hT ds) hs (Lc:=L) (fun _ _ q=>q) hx (gN ds) fun sv v so L' h' w' h1 h2 h3=>?_;have:so=L':=by
      rcases h3 with ⟨e1,e2⟩ | ⟨s,c,x,y,-,-,e1,e2⟩
      ·rw[e1,e2]
      ·rw[e1,e2]
     subst this;exact gO hT gN hK r _ _ _ _ _ _ _ h2 h1
  ·rw[if_neg (by simp[hw])];refine⟨fun _ _=>trivial,?_⟩;exact gO hT gN hK r _ _ _ _ _ _ _ (hs.put (x:=.v undef) (v:=undef) rfl) hx
theorem vF:∀ {env:Env} {t:Nat} {x:SV},(iz env)[t]? =some x->x=.u\/(env[t]? =some x/\∀s o,x≠.loc s o)
 | [],t,x,h=>by simp[iz]at h
 |y::r,0,x,h=>by
  cases y with
  |loc s o=>simp[iz]at h;exact .inl h.symm
  |v z=>simp[iz]at h;subst h;exact .inr ⟨by simp,fun _ _ e=>by cases e⟩
  |u=>simp[iz]at h;exact .inl h.symm
 |y::r,t+1,x,h=>by
  have h':(iz r)[t]? =some x:=by cases y<;>simpa[iz]using h
  rcases vF h' with h1| ⟨h1,h2⟩
  ·exact .inl h1
  ·exact .inr ⟨by simpa using h1,h2⟩
theorem vE:∀(env:Env),(iz env).length=env.length
 | []=>rfl
 |y::r=>by cases y<;>simp[iz,vE r]
theorem yG{β:Nat->Nat}:∀(ps:List Nat) (vs:List Value) (env:Env) (tmps:Array Value),tmps.size=env.length->(∀t x,env[t]? =some x->lJ β [] x (tmps.getD t undef))->
 ((ps.zip vs).foldl (fun t (p,v)=>t.setIfInBounds p v) tmps).size=(rq env ps vs).length/\∀t x,(rq env ps vs)[t]? =some x->lJ β [] x (((ps.zip vs).foldl (fun t (p,v)=>t.setIfInBounds p v) tmps).getD t undef)
 | [],vs,env,tmps,h1,h2=>by simp[rq,h1];simpa using h2
 |p::ps,[],env,tmps,h1,h2=>by simp[rq,h1];simpa using h2
 |p::ps,v::vs,env,tmps,h1,h2=>by
  simp only[List.zip_cons_cons,List.foldl_cons,rq];refine yG ps vs _ _ (by simp[h1]) (fun t x hx=>?_);rw[List.getElem?_set]at hx;split at hx
  ·rename_i e;subst e;split at hx
   ·rename_i aG;cases hx;show _=_;have xN:p<tmps.size:=by rw[h1];exact aG
    rw[Array.getD_eq_getD_getElem?,Array.getElem?_setIfInBounds_self_of_lt xN];rfl
   ·cases hx
  ·rename_i e;have:=h2 t x hx;rw[Array.getD_eq_getD_getElem?,Array.getElem?_setIfInBounds_ne (by omega),<-Array.getD_eq_getD_getElem?];exact this
theorem aR.put{h:ad}{w:World}(ha:rP h w){l:Nat}{o o':Obj}(hl:h l=some o):aR h w (aV h l o') (w.putObj l o'):=by have hw:=ha _ _ hl;have aG:l<w.heap.size:=(Array.getElem?_eq_some_iff.1 hw).1;exact aR.set ha hl (World.putObj_heap_same aG) (fun b hb=>World.putObj_heap_other hb) World.putObj_size ⟨rfl,rfl,rfl⟩
theorem FU(hT:dx P T)(pO:∀c s h,¬T.kp c s h){l:Nat}{r:Loop}{rN body:Code}(hoa:da T rN=true)(TR:da T body=true)(hra:r.assign=rN)(Cn:r.body=body)(j7:r.state=.ready)(hpe:r.pending=none)
 (mJ:(iz env).length=r.tmps.size) (PB:∀t x,(iz env)[t]? =some x->lJ (fun _=>0) [] x (r.tmps.getD t undef))
 {vs:List Value} {hh:ad} {k:ad->Prop} (hv:vs.length=r.params.size) (hl:hh l=some (.loop r))
 (hx:AV A T (fun _=>P) rN body (iz env) r.params.toList l (.loop r) (.loop { r with state:=.busy }) vs k hh):Mw (fun _=>P) l vs hh (fun v h'=>v=.bool true/\k h'):=by
 refine⟨fun w hw=>⟨_,_,_,_,run_yield (hw _ _ hl) (by simpa using hv),fun n=>?_⟩⟩;refine roundIn_of_wpIn trivial ?_;have hz:(r.params.zip vs.toArray).foldl (fun tmps (t,a)=>tmps.setIfInBounds t a) r.tmps=(r.params.toList.zip vs).foldl (fun t (p,v)=>t.setIfInBounds p v) r.tmps:=by rw[<-Array.foldl_toList];simp
 rw[hz,hra,Cn];obtain⟨eL,Je⟩:=yG (β:=fun _=>0) r.params.toList vs (iz env) r.tmps mJ.symm PB;have hs:bZ [] hh w (fun _=>0) (rq (iz env) r.params.toList vs) [] hh { tmps:=(r.params.toList.zip vs).foldl (fun t (p,v)=>t.setIfInBounds p v) r.tmps,defers:=[] } w:=
  ⟨aR.refl hw,fun s c hc=>(by cases hc),fun s s' c c' hc=>(by cases hc),eL,Je,rfl⟩
 refine eV (A:=A) (ro:=some l) hT rN hoa hs hx (jB.none pO) fun e gh L1 h1 β1 a1 w1 g1 g2=>?_;cases e with
 |normal=>
  obtain⟨k1,k2⟩:=g1;have zp:=g2.after.uO _ _ k1;refine⟨_,run_beginRound zp j7,?_⟩;have g3:=g2.step (aR.put g2.after.uO (o':=.loop { r with state:=.busy }) k1);refine eV (A:=A) (ro:=some l) hT body TR g3 k2 (jB.none pO) fun e env2 L2 h2 β2 a2 w2 q1 q2=>?_;cases e with
  |normal=>
   obtain⟨k3,k4⟩:=q1;have tR:=q2.after.uO _ _ k3;refine⟨_,_,run_endRound none tR,?_⟩;have g4:=q2.step (aR.put q2.after.uO (o':=.loop r) k3);have er:({ r with state:=if(none:Option Code).isNone=true then LoopState.ready else LoopState.done,pending:=none }:Loop)=r:=by obtain⟨s,p,f,t,ps,a,b,d⟩:=r;simp only at j7 hpe;subst j7 hpe;rfl
   refine⟨_,aV h2 l (.loop r),rfl,⟨rfl,k4⟩,?_⟩;have e2:({ ({ r with state:=.busy }:Loop)with state:=if(none:Option Code).isNone=true then LoopState.ready else LoopState.done,pending:=none }:Loop)=r:=er;have:=g4.after;rw[e2];exact this
  |exit id=>exact q1.elim
  |ret=>exact q1.elim
 |exit id=>exact g1.elim
 |ret=>exact g1.elim
theorem rR(hT:dx P T)(pO:∀c s h,¬T.kp c s h){ds:List Df}{g:Operand}{ps:Array Nat}{rN body:Code}{gf:FuncId}{lb:Array Value}{Q:Exit->Act->World->Prop}{K:Nat->ad->Prop}
 (hs:bZ (ds.map Df.at) h0 w0 β env L h a w) (hoa:da T rN=true) (TR:da T body=true) (hg:jL env g=.v (.func (.func gf) #[] lb)) (hgf:T.fn gf=true)
 (hx:RgX (fun _=>P) gf lb.toList ps.size (AV A T (fun _=>P) rN body (iz env) ps.toList) h K)
 (hK:∀m h' a' w',K m h'->bZ ((Df.mark m::ds).map Df.at) h0 w0 β env L h' a' w'->Q .normal a' w'):(Code.rangeFunc g ps rN body).wp P Q a w:=by
 refine(wpIn_wide (n:=0)).1 (wpIn_rangeFunc fun fn _=>?_);refine⟨w.heap.size+1,_,(w.alloc (.deferred (some []))).alloc (.loop { state:=.ready,pending:=none,fn,tmps:=a.tmps,params:=ps,assign:=rN,body,defers:=w.heap.size }),{ target:=.fn (.func gf) lb,args:= #[.func (.yield (w.heap.size+1)) #[] #[]] },(w.alloc (.deferred (some []))).alloc (.loop { state:=.ready,pending:=none,fn,tmps:=a.tmps,params:=ps,assign:=rN,body,defers:=w.heap.size }),gf,#[.func (.yield (w.heap.size+1)) #[] #[]]++lb,(w.alloc (.deferred (some []))).alloc (.loop { state:=.ready,pending:=none,fn,tmps:=a.tmps,params:=ps,assign:=rN,body,defers:=w.heap.size }),run_enterLoop_outer fn a.tmps ps rN body,?_,fun _ _=>trivial,?_,fun hd=>by simp[Fence.wide]at hd,?_⟩
 ·simp only[resolve,hs.aS hg,Deferred.ofValue,Sem.run_pure];simp[Act.eval]
 ·simp only[invoke,jJ hT hgf]
 ·generalize pJ:({ state:=.ready,pending:=none,fn,tmps:=a.tmps,params:=ps,assign:=rN,body,defers:=w.heap.size }:Loop)=r;have sd:=hs.after.uO;have a1:aR h w (aV h w.heap.size (.deferred (some []))) (w.alloc (.deferred (some []))):=aR.new sd _;have kB:(w.alloc (.deferred (some []))).heap.size=w.heap.size+1:=World.size_alloc w _;have a2:=aR.new a1.uO (.loop r);rw[kB]at a2;have a12:=a1.trans a2;have nh:h w.heap.size=none:=sd.jD (Nat.le_refl _);have mK:h (w.heap.size+1)=none:=sd.jD (by omega);have hc:=(hx.out w.heap.size (w.heap.size+1) (.loop r) (.loop { r with state:=.busy }) nh mK (by omega) (fun _ _ _ e=>by cases e) (fun _ _ _ e=>by cases e) (fun vs hh k hv hl hr=>by
   refine FU (A:=A) (env:=env) hT pO hoa TR (r:=r) (by rw[<-pJ]) (by rw[<-pJ]) (by rw[<-pJ]) (by rw[<-pJ]) ?_ ?_ (by rw[hv,<-pJ]) hl ?_
   ·rw[vE,<-hs.size,<-pJ]
   ·intro t x hx;rcases vF hx with rfl| ⟨h1,h2⟩
    ·trivial
    ·have:=hs.slot t x h1;rw[<-pJ];cases x with
     |v z=>exact this
     |loc s o=>exact absurd rfl (h2 s o)
     |u=>trivial
   ·have hp:ps=r.params:=by rw[<-pJ]
    rw[hp]at hr;exact hr)).out _ a12.uO
  have oa:=callsIn_wide (n:=0-1).2 hc;have e1:(Value.func (.yield (w.heap.size+1)) #[] #[]::lb.toList).toArray= #[.func (.yield (w.heap.size+1)) #[] #[]]++lb:=by apply Array.ext';simp
  rw[e1]at oa;refine CallsIn.mono oa fun e w3 ⟨v,h3,g1,⟨g2,g3⟩,g4⟩=>?_;subst g1;have Tv:=g4.uO _ _ g2;refine⟨none,w3.putObj (w.heap.size+1) (.loop { r with state:=.exhausted }),?_,?_⟩
  ·have:=run_endLoop (P:=P) Tv (by rw[<-pJ];simp);rw[this,<-pJ]
  ·refine hK w.heap.size _ _ _ (g3 (.loop { r with state:=.exhausted }) (fun _ _ _ e=>by cases e)) ?_;have s1:=hs.step ((a12.trans g4).trans (aR.put g4.uO (o':=.loop { r with state:=.exhausted }) g2));exact s1.Al (Df.at (.mark w.heap.size))
def yS:Code->Bool
 | .rangeFunc .. =>false
 | .seq a b| .cond _ a b=>yS a&&yS b
 | .block _ c=>yS c
 |_=>true
theorem vM(hT:∀ds,dx P (TT ds)):∀(c:Code),(∀ds,da (TT ds) c=true)->(yS c=true\/∀ds c s h,¬(TT ds).kp c s h)->∀ {K:Ex->List Df->Env->Loc->ad->Prop} {Q:Exit->Act->World->Prop} {ds:List Df} {env:Env} {L:Loc} {h:ad} {β:Nat->Nat} {a:Act} {w:World},
 bZ (ds.map Df.at) h0 w0 β env L h a w->EH A TT (fun _=>P) c K ds env L h->IZ TT h0 w0 Q->
 (∀e CL bJ L' h' kY a' w',K e CL bJ L' h'->bZ (CL.map Df.at) h0 w0 kY bJ L' h' a' w'->Q (Ik e) a' w')->c.wp P Q a w:=by
 intro c;induction c with
 |region id ops draw=>
  intro ho Bm K Q ds env L h β a w hs hx gN hK;cases draw with
  |false=>exact wpIn_wide (n:=0).1 (wpIn_region_list (gO hT gN (fun CL bJ L' h' kY a' w' h1 h2=>hK .normal _ _ _ _ _ _ _ h1 h2) ops.toList _ _ _ _ _ _ _ hs hx))
  |true=>exact wpIn_wide (n:=0).1 (eV (A:=A) (ro:=none) (n:=0) (hT ds) _ (ho ds) hs hx (gN ds) (fun e bJ L' h' kY a' w' h1 h2=>hK e _ _ _ _ _ _ _ h1 h2))
 |seq c d Pg Pf=>
  intro ho Bm K Q ds env L h β a w hs hx gN hK;simp only[da,Bool.and_eq_true]at ho;simp only[yS,Bool.and_eq_true]at Bm;unfold EH at hx;refine wp_seq (Pg (fun ds=>(ho ds).1) (Bm.imp And.left id) hs hx (fun ds c β env L h a w q1 q2=>gN ds c β env L h a w q1 q2) fun e CL bJ L' h' kY a' w' h1 h2=>?_);cases e with
  |normal=>exact Pf (fun ds=>(ho ds).2) (Bm.imp And.right id) h2 h1 gN hK
  |exit id=>exact hK (.exit id) _ _ _ _ _ _ _ h1 h2
  |ret=>exact hK .ret _ _ _ _ _ _ _ h1 h2
 |cond x c d Pg Pf=>
  intro ho Bm K Q ds env L h β a w hs hx gN hK;simp only[da,Bool.and_eq_true]at ho;simp only[yS,Bool.and_eq_true]at Bm;unfold EH at hx;split at hx
  ·rename_i t ht;refine wp_cond (hs.aS ht) ?_;rcases iR hx with ⟨rfl,hx⟩ | ⟨rfl,hx⟩
   ·exact Pg (fun ds=>(ho ds).1) (Bm.imp And.left id) hs hx gN hK
   ·exact Pf (fun ds=>(ho ds).2) (Bm.imp And.right id) hs hx gN hK
  ·exact hx.elim
 |block id c ih=>
  intro ho Bm K Q ds env L h β a w hs hx gN hK;unfold EH at hx;refine wp_block (ih ho Bm hs hx (fun ds c β env L h a w q1 q2=>gN ds c β env L h a w q1 q2) fun e CL bJ L' h' kY a' w' h1 h2=>?_);cases e with
  |normal=>exact hK .normal _ _ _ _ _ _ _ h1 h2
  |exit j=>
   simp only[Ik,Exit.inBlock]at h1 |-;split at h1
   ·rename_i e;rw[if_pos e];exact hK .normal _ _ _ _ _ _ _ h1 h2
   ·rename_i e;rw[if_neg e];exact hK (.exit j) _ _ _ _ _ _ _ h1 h2
  |ret=>exact hK .ret _ _ _ _ _ _ _ h1 h2
 |rangeFunc g ps rN body=>
  intro ho Bm K Q ds env L h β a w hs hx gN hK;simp only[da,Bool.and_eq_true]at ho;have pO:∀ds c s h,¬(TT ds).kp c s h:=Bm.resolve_left (by simp[yS]);unfold EH at hx;split at hx
  ·rename_i gf first lb hg
   split at hx
   ·rename_i Jo hgf;have Jo:first= #[]:=by have:first.isEmpty=true:=Jo;simpa using this
    subst Jo;exact rR (hT ds) (pO ds) hs (ho ds).1 (ho ds).2 hg hgf hx (fun m h' a' w' h1 h2=>hK .normal _ _ _ _ _ _ _ h1 h2)
   ·exact hx.elim
  ·exact hx.elim
 |_=>exact fun ho Bm {K Q ds env L h β a w} hs hx gN hK=>wpIn_wide (n:=0).1 (eV (A:=A) (ro:=none) (n:=0) (hT ds) _ (ho ds) hs hx (gN ds) (fun e bJ L' h' kY a' w' h1 h2=>hK e _ _ _ _ _ _ _ h1 h2))
theorem fW{f:FuncId}{fn:Func}{args:List Value}{h:ad}{w:World}(hw:rP h w):
 bZ [] h w (fun _=>0) (args.map SV.v++List.replicate (fn.ntmps-args.length) (.v undef)) [] h { tmps:=args.toArray++Array.replicate (fn.ntmps-args.toArray.size) undef,defers:=[] } w:=by
 refine⟨aR.refl hw,fun s c hc=>(by cases hc),fun s s' c c' hc=>(by cases hc),by simp,fun t x hx=>?_,rfl⟩;rw[List.getElem?_append]at hx;split at hx
 ·rename_i aG;have xN:t<args.length:=by simpa using aG
  rw[List.getElem?_map,List.getElem?_eq_getElem xN]at hx;simp at hx;subst hx;show _=_;rw[Array.getD_eq_getD_getElem?,Array.getElem?_append_left (by simpa using xN)];simp[xN]
 ·rename_i iu;have P6:args.length<=t:=by simpa using iu
  rw[List.getElem?_replicate]at hx;split at hx
  ·rename_i aG;cases hx;show _=_;rw[Array.getD_eq_getD_getElem?,Array.getElem?_append_right (by simpa using P6),Array.getElem?_replicate];simp at aG |-;rw[if_pos aG];rfl
  ·cases hx
theorem nI(hT:dx P T){ds:List Deferred}(hs:bZ ds h0 w0 β env L h a w){fn:Func}{R:Value->ad->Prop}(hr:ll T env L h fn.results.toList (fun l=>iZ l (fun v=>R v h))):
 ∃v,(results fn a.tmps).run P w=.ok v w/\R v h/\aR h0 w0 h w:=by
 obtain⟨l,h3,h4⟩:=tu hT hs hr;have h5:(results fn a.tmps).run P w=.ok (if h:l.toArray.size=1 then l.toArray[0]else .tuple l.toArray) w:=by rw[tq,Array.mapM_eq_mapM_toList];rw[Sem.run_bind,Sem.run_map];rw[h3];rfl
 refine⟨_,h5,?_,hs.after⟩;unfold iZ at h4;split at h4
 ·exact h4
 ·rename_i bU;have:¬l.toArray.size=1:=fun hl=>by
   match l,hl with
   | [x],_=>exact bU x rfl
  rw[dif_neg this];exact h4
theorem nP(A:Ar)[aP A](hT:dx P T){f:FuncId}{fn:Func}{c:Code}(hf:P.funcs[f]? =some fn)(hb:fn.body=some c)(ho:da T c=true){args:List Value}{h:ad}{R:Value->ad->Prop}
 (hx:Od A T (fun _=>P) c fn.ntmps fn.results.toList args h R) (pO:∀c s h,¬T.kp c s h:=by exact fun _ _ _ hc=>hc):EF (fun _=>P) f args h R:=by
 refine⟨fun w hw n=>?_⟩;refine(callsDIn_of_wp (R:=fun e w'=>∃v h',e=.returned v/\R v h'/\aR h w h' w') hf hb trivial ?_).mono (fun e u' w' x=>x);refine eV (A:=A) (ro:=none) hT c ho (fW (f:=f) (fn:=fn) hw) hx (jB.none pO) fun e bJ L' h' kY a' w' h1 h2=>?_;have fin:ll T bJ L' h' fn.results.toList (fun l=>iZ l (fun v=>R v h'))->a'.defers=[]/\∃v,(results fn a'.tmps).run P w'=.ok v w'/\∃v1 h1,Ending.returned v=.returned v1/\R v1 h1/\aR h w h1 w':=fun hr=>by
  obtain⟨v,h3,h4,h5⟩:=nI hT h2 hr;exact⟨h2.defers,v,h3,v,h',rfl,h4,h5⟩
 cases e with
 |normal=>exact fin h1
 |ret=>exact fin h1
 |exit id=>exact h1.elim
theorem lN(hT:dx P T){fn:Func}{R:Value->ad->Prop}(Y4:List Deferred):∀(ds:List Df) {h:ad} {a:Act} {w:World},bZ Y4 h0 w0 β env L h a w->
 xj T (fun _=>P) ds (fun h=>ll T env L h fn.results.toList (fun l=>iZ l (fun v=>R v h))) h->
 LeavesInM Fence.wide 0 P fn a.tmps (fun e w'=>∃v h',e=.returned v/\R v h'/\aR h0 w0 h' w') (ds.map Df.at) .returning w
 | [],h,a,w,hs,hx=>by
  obtain⟨v,h3,h4,h5⟩:=nI hT hs hx;exact⟨v,h3,v,h,rfl,h4,h5⟩
 | .call g args cap::r,h,a,w,hs,hx=>by
  unfold xj at hx;split at hx
  ·rename_i hg;have hi:(invoke (.fn (.func g) cap.toArray) args.toArray).run P w=.ok (.enter g (args++cap).toArray) w:=by
    have e1:args.toArray++cap.toArray=(args++cap).toArray:=by simp
    simp only[invoke,e1,jJ hT hg]
   refine⟨by simp,.inr ⟨fun hd=>by simp[Fence.wide]at hd,_,_,_,_,rfl,hi,fun _ _=>trivial,(hx.out w hs.after.uO _).mono fun e u' w' ⟨hu,v,h',he,hR,ha⟩=>?_⟩⟩;subst hu;subst he;have:=lN hT Y4 r (hs.step ha) hR;exact this
  ·exact hx.elim
 | .mark m::r,h,a,w,hs,hx=>by
  unfold xj at hx;obtain⟨h1,h2⟩:=hx;have hw:=hs.after.uO _ _ h1;refine⟨by simp,.inl ⟨m,_,rfl,run_takeDeferred hw,?_⟩⟩;exact lN hT Y4 r (hs.step (aR.put hs.after.uO h1)) h2
theorem lA(A:Ar)[aP A](hT:dx P T){f:FuncId}{fn:Func}{c:Code}(hf:P.funcs[f]? =some fn)(hb:fn.body=some c)(ho:da T c=true){args:List Value}{h:ad}{R:Value->ad->Prop}
 (hx:Ss A T (fun _=>P) c fn.ntmps fn.results.toList args h R) (pO:∀c s h,¬T.kp c s h:=by exact fun _ _ _ hc=>hc):E5 (fun _=>P) f args h R:=by
 refine⟨fun w hw=>?_⟩;refine callsIn_wide.1 (callsIn_of_wp_marks (F:=Fence.wide) (n:=0) hf hb trivial ((wpIn_wide (n:=0)).2 ?_));refine vM (A:=A) (TT:=fun _=>T) (fun _=>hT) c (fun _=>ho) (.inr fun _=>pO) (ds:=[]) (fW (f:=f) (fn:=fn) hw) hx (fun _=>jB.none pO) fun e CL bJ L' h' kY a' w' h1 h2=>?_;have fin:xj T (fun _=>P) CL (fun h=>ll T bJ L' h fn.results.toList (fun l=>iZ l (fun v=>R v h))) h'->LeavesInM Fence.wide 0 P fn a'.tmps (fun e w'=>∃v h',e=.returned v/\R v h'/\aR h w h' w') a'.defers .returning w':=fun hr=>by
  have:=lN hT _ CL h2 hr;rw[h2.defers];exact this
 cases e with
 |normal=>exact fin h1
 |ret=>exact fin h1
 |exit id=>exact h1.elim
variable {ro:Option Nat}{n:Nat}
variable {P:Program}{T:aQ}{A:Ar}[aP A]
variable {h0:ad}{w0:World}{β:Nat->Nat}{h:ad}{a:Act}{w:World}{env:Env}{L:Loc}{ds:List Deferred}
theorem gI(A:Ar)[aP A](hT:dx P T){f:FuncId}{fn:Func}{c:Code}(hf:P.funcs[f]? =some fn)(hb:fn.body=some c)(ho:da T c=true){args:List Value}{h:ad}{R:Value->ad->Prop}{K:List PanicEntry->ad->Prop}
 (pO:∀c s h',T.kp c s h'->K c h') (hx:Od A T (fun _=>P) c fn.ntmps fn.results.toList args h R):Ap (fun _=>P) f args h R K:=by
 refine⟨fun w hw=>?_⟩;refine calls_of_wp hf hb (wpIn_wide (n:=0).1 ?_);refine eV (A:=A) (ro:=none) (n:=0) hT c ho (fW (f:=f) (fn:=fn) hw) hx (fun c β env L h1 a1 w1 q1 q2=>⟨q2.defers,.inr ⟨c,h1,rfl,pO _ _ _ q1,q2.after⟩⟩) fun e bJ L' h' kY a' w' h1 h2=>?_;have fin:ll T bJ L' h' fn.results.toList (fun l=>iZ l (fun v=>R v h'))->a'.defers=[]/\∃v,(results fn a'.tmps).run P w'=.ok v w'/\
  ((∃v1 h1,Ending.returned v=.returned v1/\R v1 h1/\aR h w h1 w')\/(∃c h1,Ending.returned v=.panicked c/\K c h1/\aR h w h1 w')):=fun hr=>by
  obtain⟨v,h3,h4,h5⟩:=nI hT h2 hr;exact⟨h2.defers,v,h3,.inl ⟨v,h',rfl,h4,h5⟩⟩
 cases e with
 |normal=>exact fin h1
 |ret=>exact fin h1
 |exit id=>exact h1.elim
structure X1(p:Unit->Program)(f:FuncId)(args:List Value)(v:Value)(h:ad)(R:ad->Prop):Prop where
 out:∀w,rP h w->∀n,CallsDIn Fence.wide n (p ()) f args.toArray (.panicking [{ v,recovered:=false }]) w fun e u' w'=>u'=.panicking [{ v,recovered:=true }]/\∃x h',e=.returned x/\R h'/\aR h w h' w'
def yK(T:aQ)(h:ad):List ResultVar->List SV->(List Value->Prop)->Prop
 | [],_,k=>k []
 |r::rs,ss,k=>match r with
  | .cell _ t=>match ss with
   |s::ss=>match s with
    | .v (.pointer (some x))=>match (T.ty t).kd.isNone with
     |true=>False
     |false=>sI h x (T.ty t).size (fun cs=>mA (T.ty t).agg cs (fun v=>yK T h rs ss (fun l=>k (v::l))))
    |_=>False
   | []=>False
  | .tmp _=>False
def Du:List ResultVar->List Nat
 | []=>[]
 | .cell a _::r=>a::Du r
 | .tmp t::r=>t::Du r
theorem tz:∀ {rs:List ResultVar} {k:List Value->Prop},yK T h rs ((Du rs).map fun t=>jL env (.tmp t)) k->ll T env L h rs k
 | [],k,hr=>hr
 | .tmp _::rs,k,hr=>by unfold yK at hr;exact hr.elim
 | .cell q t::rs,k,hr=>by
  unfold yK at hr;simp only[Du,List.map_cons,jL]at hr;split at hr
  ·rename_i x hx;split at hr
   ·exact hr.elim
   ·rename_i hn;obtain⟨cs,h1,h2⟩:=(show sI _ _ _ _ from hr).out;have h3:sI h x (T.ty t).size fun cs=>mA (T.ty t).agg cs fun x=>ll T env L h rs fun xs=>k (x::xs):=⟨cs,h1,iJ h2 fun v hv=>tz hv⟩;unfold ll J6;cases hk:(T.ty t).kd with
    |none=>rw[hk]at hn;cases hn
    |_=>simp only[hk,hx];exact h3
  ·exact hr.elim
def On(T:aQ)(p:Unit->Program)(rs:List ResultVar)(R:Value->ad->Prop)(ds:List Df)(c:List PanicEntry)(s:List SV)(h:ad):Prop:=
 match ds with
 | [.call g args cap]=>match T.fn g with
  |true=>∃x,c=[{ v:=x,recovered:=false }]/\X1 p g (args++cap) x h (fun h'=>yK T h' rs s (fun l=>iZ l (fun v=>R v h')))
  |false=>False
 |_=>False
def aQ.MJ(T:aQ)(p:Unit->Program)(rs:List ResultVar)(R:Value->ad->Prop)(ds:List Df):aQ:={ T with rs:=Du rs,kp:=On T p rs R ds }
def Sr(A:Ar)(T:aQ)(p:Unit->Program)(c:Code)(ntmps:Nat)(rs:List ResultVar)(args:List Value)(h:ad)(R:Value->ad->Prop):Prop:=
 EH A (T.MJ p rs R) p c (fun e ds env L h=>match e with
  | .exit _=>False
  |_=>xj T p ds (fun h=>ll T env L h rs (fun l=>iZ l (fun v=>R v h))) h) [] (args.map SV.v++List.replicate (ntmps-args.length) (.v undef)) [] h
theorem Ee(A:Ar)[aP A](hT:dx P T){f:FuncId}{fn:Func}{c:Code}(hf:P.funcs[f]? =some fn)(hb:fn.body=some c)(ho:∀q k,da { T with rs:=q,kp:=k } c=true)(Bm:yS c=true){args:List Value}{h:ad}{R:Value->ad->Prop}
 (hx:Sr A T (fun _=>P) c fn.ntmps fn.results.toList args h R):E5 (fun _=>P) f args h R:=by
 refine⟨fun w hw=>?_⟩;refine callsIn_wide.1 (callsIn_of_wp_marks (F:=Fence.wide) (n:=0) hf hb trivial ((wpIn_wide (n:=0)).2 ?_));refine vM (A:=A) (TT:=T.MJ (fun _=>P) fn.results.toList R) (fun _=>⟨hT.ty,hT.fn,hT.mixed⟩) c (fun ds=>ho _ _) (.inl Bm) (ds:=[]) (fW (f:=f) (fn:=fn) hw) hx ?_ fun e CL bJ L' h' kY a' w' h1 h2=>?_
 ·intro ds c' β env L h1 a1 w1 q1 q2;change On T (fun _=>P) fn.results.toList R ds c' ((Du fn.results.toList).map fun t=>jL env (.tmp t)) h1 at q1;unfold On at q1;split at q1
  ·rename_i g args cap;split at q1
   ·rename_i hg;obtain⟨x,rfl,hr⟩:=q1;have hi:(invoke (.fn (.func g) cap.toArray) args.toArray).run P w1=.ok (.enter g (args++cap).toArray) w1:=by
     have e1:args.toArray++cap.toArray=(args++cap).toArray:=by simp
     simp only[invoke,e1,jJ hT hg]
    show LeavesInM Fence.wide 0 P fn a1.tmps _ a1.defers (.panicking _) w1;rw[q2.defers];refine⟨by simp,.inr ⟨fun hd=>by simp[Fence.wide]at hd,_,_,_,_,rfl,hi,fun _ _=>trivial,(hr.out w1 q2.after.uO _).mono fun e u' w' ⟨hu,v,h',he,hR,ha⟩=>?_⟩⟩;subst hu;subst he;obtain⟨v,h3,h4,h5⟩:=nI hT (q2.step ha) (tz hR);exact⟨v,h3,v,h',rfl,h4,h5⟩
   ·exact q1.elim
  ·exact q1.elim
 ·have fin:xj T (fun _=>P) CL (fun h=>ll T bJ L' h fn.results.toList (fun l=>iZ l (fun v=>R v h))) h'->LeavesInM Fence.wide 0 P fn a'.tmps (fun e w'=>∃v h',e=.returned v/\R v h'/\aR h w h' w') a'.defers .returning w':=fun hr=>by
   have:=lN hT _ CL h2 hr;rw[h2.defers];exact this
  cases e with
  |normal=>exact fin h1
  |ret=>exact fin h1
  |exit id=>exact h1.elim
end Go.Sx
