import Derived.Test.YtekoaiendgjkdaaGreatSxA
import Derived.Tactics
import Derived.Deep.LoopGhost
import Derived.Defers
import Derived.RangeFuncRecord
import Derived.RecoverIn
set_option linter.unusedVariables false
set_option linter.unusedSimpArgs false
set_option linter.unusedSectionVars false
namespace Go.Sx
variable {ro:Option Nat}{n:Nat}
variable {P:Program}{T:aU}{A:Ar}[aV A]
variable {ds:List Deferred}{h0:ad}{w0:World}{β:Nat->Nat}{env:Env}{L:Loc}{h:ad}{a:Act}{w:World}
theorem Pv{ops:List Oper}{env:Env}{o:Oper}{y n y' n':Unit->Prop}(hg:gd ops env o y n)(hy:y ()->y' ())(hn:n ()->n' ()):gd ops env o y' n':=by
 unfold gd at *;repeat' split at hg
 all_goals first
  |exact hy hg
  |exact hn hg
  |exact hg.elim
  | (rcases jy hg with ⟨rfl,hg⟩ | ⟨rfl,hg⟩<;>first|exact hy hg|exact hn hg)
theorem oQ(hs:cC ds h0 w0 β env L h a w){ops:Array Oper}{o:Oper}{y n:Unit->Prop}(hg:gd ops.toList env o y n):
 (Region.wanted o (yielded ops a.tmps)=true/\y ())\/(Region.wanted o (yielded ops a.tmps)=false/\n ()):=by
 unfold gd at hg;split at hg
 ·rename_i Ft;exact .inl ⟨by simp[Region.wanted,Ft],hg⟩
 ·rename_i j want M1;split at hg
  ·rename_i oj DZ;have DY:ops[j]? =some oj:=by simpa using DZ
   split at hg
   ·rename_i d hd;split at hg
    ·rename_i b hb;have he:=getD_some hb (by simp);have nU:=hs.slot d _ he;have aK:d<a.tmps.size:=by rw[hs.size];exact(List.getElem?_eq_some_iff.1 he).1
     have nU:a.tmps.getD d undef=.bool b:=nU;have hv:a.tmps[d]? =some (.bool b):=by rw[Array.getD_eq_getD_getElem?]at nU;rw[Array.getElem?_eq_getElem aK]at nU |-;simpa using nU
     have hw:Region.wanted o (yielded ops a.tmps)=(b==want):=by simp[Region.wanted,M1,yielded,DY,hd,hv]
     rw[hw];split at hg
     ·rcases jy hg with ⟨rfl,hg⟩ | ⟨rfl,hg⟩
      ·exact .inl ⟨rfl,hg⟩
      ·exact .inr ⟨rfl,hg⟩
     ·rcases jy hg with ⟨rfl,hg⟩ | ⟨rfl,hg⟩
      ·exact .inr ⟨rfl,hg⟩
      ·exact .inl ⟨rfl,hg⟩
    ·rename_i vs hb;have he:=getD_some hb (by simp);have nU:=hs.slot d _ he;have aK:d<a.tmps.size:=by rw[hs.size];exact(List.getElem?_eq_some_iff.1 he).1
     have nU:a.tmps.getD d undef=.tuple vs:=nU;have hv:a.tmps[d]? =some (.tuple vs):=by rw[Array.getD_eq_getD_getElem?]at nU;rw[Array.getElem?_eq_getElem aK]at nU |-;simpa using nU
     exact .inr ⟨by simp[Region.wanted,M1,yielded,DY,hd,hv],hg⟩
    ·exact hg.elim
   ·rename_i hd;exact .inr ⟨by simp[Region.wanted,M1,yielded,DY,hd],hg⟩
  ·rename_i DZ;have DY:ops[j]? =none:=by simpa using DZ
   exact .inr ⟨by simp[Region.wanted,M1,yielded,DY],hg⟩
theorem lC(hT:dU P T){ops:Array Oper}{K:Env->Loc->ad->Prop}{Q:Exit->Act->World->Prop}
 (iD:ki T ds h0 w0 Q) (hK:∀bX L' h' lZ a' w',K bX L' h'->cC ds h0 w0 lZ bX L' h' a' w'->Q .normal a' w'):
 ∀(l:List Oper) (env:Env) (L:Loc) (h:ad) (β:Nat->Nat) (a:Act) (w:World),cC ds h0 w0 β env L h a w->
  xZ A T (fun _=>P) ops.toList K l env L h->wpListIn (FW ro) n P ops Q l a w
 | [],env,L,h,β,a,w,hs,hx=>hK _ _ _ _ _ _ hx hs
 |o::r,env,L,h,β,a,w,hs,hx=>by
  unfold xZ at hx;unfold wpListIn;rcases oQ hs hx with ⟨hw,hx⟩ | ⟨hw,hx⟩
  ·rw[if_pos hw];split at hx
   ·obtain⟨sv,nb,h1,h2⟩:=mY hx;obtain⟨v,w',lZ,h3,h4⟩:=sQ hT hs (h2 (fun x y=>x=sv/\y=nb) ⟨rfl,rfl⟩);refine nV h3 ?_;exact lC hT iD hK r _ _ _ _ _ _ h4 h1
   ·refine DQ hT hs (Lc:=L) (fun _ _ q=>q) hx iD fun sv v uz L' h' w' h1 h2 h3=>?_;have:uz=L':=by
     rcases h3 with ⟨e1,e2⟩ | ⟨s,c,x,y,-,-,e1,e2⟩
     ·rw[e1,e2]
     ·rw[e1,e2]
    subst this;exact lC hT iD hK r _ _ _ _ _ _ h2 h1
  ·rw[if_neg (by simp[hw])];refine⟨fun _ _=>trivial,?_⟩;exact lC hT iD hK r _ _ _ _ _ _ (hs.put (x:=.v undef) (v:=undef) rfl) hx
def jq(o:Oper):Bool:=match o.op with
 | .load .. =>true
 |_=>false
def jI(o:Oper):Bool:=match o.op with
 | .alloc _| .box .. =>true
 |_=>false
def dE(o:Oper):Bool:=match o.op with
 | .assign _=>true
 |_=>false
theorem jY{p:Unit->Program}{o:Oper}{ρ FY:Operand->SV}{L L':Loc}{h h':ad}{k:SV->Option (List Value)->Prop}(hk:fD A T p o ρ L h k)
 (dY:∀x∈o.op.operands.toList,FY x=ρ x) (hL:jq o=true->∀x∈o.op.operands.toList,∀s off,ρ x=.loc s off->∀c,iM L s=some c->iM L' s=some c)
 (hb:jI o=true->∀d,o.dst=some d->iM L' d=none) (hh:jq o=true->h'=h):fD A T p o FY L' h' k:=by
 unfold fD at hk |-;split at hk;case h_1 x ho=>simp only[ho]at dY |-;rw[dY x (by simp[Op.operands])];exact hk
 case h_2 c x y ho=>simp only[ho]at dY |-;rw[dY c (by simp[Op.operands]),dY x (by simp[Op.operands]),dY y (by simp[Op.operands])];exact hk
 case h_3 e ho=>
  have nj:=hb (by simp[jI,ho]);simp only[ho]at dY |-;split at hk
  ·exact hk.elim
  ·split at hk
   ·exact hk.elim
   ·rename_i d hd;split at hk
    ·simp only[nj d hd];exact hk
    ·exact hk.elim
 case h_4 e x ho=>
  have nj:=hb (by simp[jI,ho]);simp only[ho]at dY |-;rw[dY x (by simp[Op.operands])];split at hk
  ·exact hk.elim
  ·rename_i d hd;split at hk
   ·split at hk
    ·simp only[nj d hd];exact hk
    ·exact hk.elim
   ·exact hk.elim
 case h_5 t x ho=>
  have hL':=hL (by simp[jq,ho]);have hh':=hh (by simp[jq,ho]);subst hh';simp only[ho]at dY hL' |-;rw[dY x (by simp[Op.operands])];split at hk
  ·exact hk.elim
  ·split at hk
   ·rename_i s off hx;split at hk
    ·rename_i c hc;simp only[hL' x (by simp[Op.operands]) s off hx c hc];exact hk
    ·exact hk.elim
   ·exact hk
   ·exact hk.elim
 case h_6 x ho=>simp only[ho]at dY |-;rw[dY x (by simp[Op.operands])];exact hk
 case h_7 t x f ho=>simp only[ho]at dY |-;rw[dY x (by simp[Op.operands])];exact hk
 case h_8 t x i ho=>simp only[ho]at dY |-;rw[dY x (by simp[Op.operands]),dY i (by simp[Op.operands])];exact hk
 case h_9 t x i ho=>simp only[ho]at dY |-;rw[dY x (by simp[Op.operands]),dY i (by simp[Op.operands])];exact hk
 case h_10 t x f ho=>simp only[ho]at dY |-;rw[dY x (by simp[Op.operands])];exact hk
 case h_11 x i ho=>simp only[ho]at dY |-;rw[dY x (by simp[Op.operands])];exact hk
 case h_12 t parts ho=>
  simp only[ho]at dY |-;have:∀l:List (Nat×Operand),(∀q∈l,FY q.2=ρ q.2)->jV FY l=jV ρ l:=fun l=>by
   induction l with
   |nil=>intro _;rfl
   |cons q r ih=>intro hq;obtain⟨i,x⟩:=q;unfold jV;rw[hq (i,x) (by simp),ih (fun q hq'=>hq q (by simp[hq']))]
  rw[this parts.toList (fun q hq=>dY q.2 (by simp only[Op.operands,List.mem_map];exact⟨q,hq,rfl⟩))];exact hk
 case h_13 op t x y ty ho=>simp only[ho]at dY |-;rw[dY x (by simp[Op.operands]),dY y (by simp[Op.operands])];exact hk
 case h_14 op t x ho=>simp only[ho]at dY |-;rw[dY x (by simp[Op.operands])];exact hk
 case h_15 s d x ho=>simp only[ho]at dY |-;rw[dY x (by simp[Op.operands])];exact hk
 case h_16 t x ho=>simp only[ho]at dY |-;rw[dY x (by simp[Op.operands])];exact hk
 case h_17 fn f c ho=>
  simp only[ho]at dY |-;rw[List.map_congr_left (g:=ρ) (fun x hx=>dY x (by simp only[Op.operands,Array.toList_append,List.mem_append];exact .inl hx)),
   List.map_congr_left (l:=c.toList) (g:=ρ) (fun x hx=>dY x (by simp only[Op.operands,Array.toList_append,List.mem_append];exact .inr hx))]
  exact hk
 case h_18 t x lo hi mx ho=>
  simp only[ho]at dY |-;have hs:∀y:Option Operand,(∀z,y=some z->FY z=ρ z)->NQ FY y=NQ ρ y:=fun y hy=>by
   cases y with
   |none=>rfl
   |some z=>simp only[NQ,hy z rfl]
  rw[hs lo (fun z hz=>dY z (by simp[Op.operands,hz])),hs hi (fun z hz=>dY z (by simp[Op.operands,hz])),hs mx (fun z hz=>dY z (by simp[Op.operands,hz])),
   dY x (by simp[Op.operands])]
  exact hk
 case h_19 b args argTypes ho=>simp only[ho]at dY |-;rw[List.map_congr_left (g:=ρ) (fun x hx=>dY x (by simp[Op.operands,Call.operands];simpa using hx))];exact hk
 case h_20 x q as ok ho=>simp only[ho]at dY |-;rw[dY x (by simp[Op.operands])];exact hk
 case h_21=>exact hk.elim
theorem KH{p:Unit->Program}{o:Oper}{ρ FY:Operand->SV}{L:Loc}{h:ad}{k:SV->Loc->ad->Prop}(hk:hx A T p o ρ L h k)
 (dY:∀x∈o.op.operands.toList,FY x=ρ x) (hρr:∀t∈T.rs,FY (.tmp t)=ρ (.tmp t)):hx A T p o FY L h k:=by
 have hrs:(T.rs.map fun t=>FY (.tmp t))=(T.rs.map fun t=>ρ (.tmp t)):=List.map_congr_left hρr;unfold hx at hk |-;split at hk;case h_1 x ho=>simp only[ho]at dY |-;rw[dY x (by simp[Op.operands])];exact hk
 case h_2 t x y ho=>simp only[ho]at dY |-;rw[dY x (by simp[Op.operands]),dY y (by simp[Op.operands])];exact hk
 case h_3 e ho=>simp only[ho]at dY |-;exact hk
 case h_4 e x ho=>simp only[ho]at dY |-;rw[dY x (by simp[Op.operands])];exact hk
 case h_5 t len parts ho=>
  simp only[ho]at dY |-;have:∀l:List (Nat×Operand),(∀q∈l,FY q.2=ρ q.2)->jV FY l=jV ρ l:=fun l=>by
   induction l with
   |nil=>intro _;rfl
   |cons q r ih=>intro hq;obtain⟨i,x⟩:=q;unfold jV;rw[hq (i,x) (by simp),ih (fun q hq'=>hq q (by simp[hq']))]
  rw[this parts.toList (fun q hq=>dY q.2 (by simp only[Op.operands,List.mem_map];exact⟨q,hq,rfl⟩))];exact hk
 case h_6 t x y ho=>simp only[ho]at dY |-;rw[dY x (by simp[Op.operands]),dY y (by simp[Op.operands])];exact hk
 case h_7 t r ho=>simp only[ho]at dY |-;exact hk
 case h_8 f args argTypes ho=>simp only[ho]at dY |-;rw[dY f (by simp[Op.operands,Call.operands]),List.map_congr_left (g:=ρ) (fun x hx=>dY x (by simp[Op.operands,Call.operands];right;simpa using hx)),hrs];exact hk
 case h_9 b args argTypes ho=>simp only[ho]at dY |-;rw[List.map_congr_left (g:=ρ) (fun x hx=>dY x (by simp[Op.operands,Call.operands];simpa using hx))];exact hk
 case h_10 src dst x ho=>simp only[ho]at dY |-;rw[dY x (by simp[Op.operands])];exact hk
 case h_11 t x i b ho=>simp only[ho]at dY |-;rw[dY x (by simp[Op.operands]),dY i (by simp[Op.operands])];exact hk
 case h_12 t m i x ho=>simp only[ho]at dY |-;rw[dY m (by simp[Op.operands]),dY i (by simp[Op.operands]),dY x (by simp[Op.operands])];exact hk
 case h_13 t m i ho=>simp only[ho]at dY |-;rw[dY m (by simp[Op.operands]),dY i (by simp[Op.operands])];exact hk
 case h_14 t m i x ho=>simp only[ho]at dY |-;rw[dY m (by simp[Op.operands]),dY i (by simp[Op.operands]),dY x (by simp[Op.operands])];exact hk
 case h_15 t x ho=>simp only[ho]at dY |-;rw[dY x (by simp[Op.operands])];exact hk
 case h_16 it str ho=>simp only[ho]at dY |-;rw[dY it (by simp[Op.operands])];exact hk
 case h_17 it ho=>simp only[ho]at dY |-;rw[dY it (by simp[Op.operands])];exact hk
 case h_18 t m i x ho=>simp only[ho]at dY |-;rw[dY m (by simp[Op.operands]),dY i (by simp[Op.operands]),dY x (by simp[Op.operands])];exact hk
 case h_19 x ho=>simp only[ho]at dY |-;rw[dY x (by simp[Op.operands]),hrs];exact hk
 case h_20=>exact hk.elim
variable {P:Program}{T:aU}{A:Ar}[aV A]
variable {ds:List Deferred}{h0:ad}{w0:World}
def iu(o:Oper):List Nat:=(o.after.toList.filter fun e=>Region.binds .any e).map (·.on)
def pI(T:aU)(ops:Array Oper):Bool:=
 (List.range ops.size).all fun i=>match ops[i]? with
  |none=>false
  |some oi=>(iu oi).all (fun e=>decide (e<i))&&
   (match oi.dst with|none=>true|some d=> !iP T oi|| !(oi.looksAt ops).contains d)&&
   (List.range ops.size).all fun j=>i==j||match ops[j]? with
    |none=>false
    |some oj=>match oi.dst with
     |none=>true
     |some d=>oj.dst !=some d&&(!(oj.looksAt ops).contains d||(iu oj).contains i||(!iP T oi&&(iu oi).contains j))
def Jr(T:aU)(ops:Array Oper):Bool:=ops.toList.all fun o=>match o.dst with
 |some d=> !T.rs.contains d
 |none=>true
theorem GB{T:aU}{ops:Array Oper}(h:Jr T ops=true){i:Nat}{o:Oper}(hi:ops[i]? =some o){t:Nat}(ht:t∈T.rs):o.dst≠some t:=fun hd=>by
 unfold Jr at h;rw[List.all_eq_true]at h;have h1:=h o (by
  obtain⟨hl,rfl⟩:=Array.getElem?_eq_some_iff.1 hi;simp)
 rw[hd]at h1;simp[ht]at h1
def gW(ops:Array Oper):Nat->List Nat->List Nat
 |0,s=>s
 |i+1,s=>gW ops i (if s.contains i then(match ops[i]? with|some o=>iu o|none=>[])++s else s)
def nI:pF->List Nat
 | .aq i _ _=>[i]
 | .fork l r=>nI l++nI r
 |_=>[]
def As(ops:Array Oper)(p:pF)(listed:List Nat):Bool:=
 (List.range ops.size).all fun j=>listed.contains j||(nI p).contains j||match ops[j]? with
  |some o=> !(iu o).all listed.contains
  |none=>true
def uE(T:aU)(ops:Array Oper):pF->Bool->List Nat->List Nat->List Nat->Bool
 | .done,br,listed,_,_=> !br&&(List.range ops.size).all listed.contains
 | .aa i rest,br,listed,pend,known=> !br&& !listed.contains i&&(match ops[i]? with
  |some o=>iP T o&&(iu o).all listed.contains
  |none=>false)&&uE T ops rest false (i::listed) (i::pend) known
 | .aq i pn rest,br,listed,pend,known=>(br||As ops (.aq i pn rest) listed)&& !listed.contains i&&(match ops[i]? with
  |some o=> !iP T o&&(dE o||pend.all fun j=>(gW ops ops.size (i::known)).contains j||pn.contains j||(match ops[j]? with
   |some oj=> !jq oj
   |none=>true))
  |none=>false)&&
  uE T ops rest false (i::listed) (pend.filter fun j=> !(gW ops ops.size (i::known)).contains j) (gW ops ops.size (i::known))
 | .fork l r,br,listed,pend,known=>(br||As ops (.fork l r) listed)&&uE T ops l true listed pend known&&uE T ops r true listed pend known
theorem kO{ops:Array Oper}(hr:pI T ops=true){i:Nat}{oi:Oper}(hi:ops[i]? =some oi):
 (∀e∈iu oi,e<i)/\(iP T oi=true->∀d,oi.dst=some d->d∉oi.looksAt ops)/\∀j oj,i≠j->ops[j]? =some oj->∀d,oi.dst=some d->oj.dst≠some d/\
  (d∈oj.looksAt ops->i∈iu oj\/(iP T oi=false/\j∈iu oi)):=by
 unfold pI at hr;rw[List.all_eq_true]at hr;have aK:i<ops.size:=(Array.getElem?_eq_some_iff.1 hi).1;have h1:=hr i (by simpa using aK);simp only[hi,Bool.and_eq_true,List.all_eq_true,decide_eq_true_eq]at h1;refine⟨h1.1.1,fun hl d hd=>?_,fun j oj bW hj d hd=>?_⟩
 ·have:=h1.1.2;simp only[hd,hl,Bool.not_true,Bool.false_or,Bool.not_eq_true',List.contains_eq_mem,decide_eq_false_iff_not]at this;exact this
 have h2:=h1.2 j (by simpa using (Array.getElem?_eq_some_iff.1 hj).1);simp only[hj,hd,Bool.or_eq_true,beq_iff_eq,Bool.and_eq_true,bne_iff_ne,Bool.not_eq_true',List.contains_eq_mem,decide_eq_true_eq,decide_eq_false_iff_not]at h2;rcases h2 with h2| ⟨h2,h3⟩
 ·exact absurd h2 bW
 ·refine⟨h2,fun hm=>?_⟩;rcases h3 with (h3|h3) | ⟨h3,h4⟩
  ·exact absurd hm h3
  ·exact .inl h3
  ·exact .inr ⟨h3,h4⟩
def In(X:Array Bool)(i:Nat):Prop:=X.getD i false=true
theorem In.set{X:Array Bool}{i j:Nat}(hi:i<X.size):In (X.setIfInBounds i true) j↔i=j\/In X j:=by
 unfold In;simp only[Array.getD_eq_getD_getElem?,Array.getElem?_setIfInBounds];by_cases h:i=j
 ·subst h;simp[hi]
 ·simp[h]
theorem yx{o:Oper}{i:Nat}:i∈iu o↔∃e∈o.after,Region.binds .any e=true/\e.on=i:=by simp[iu,and_assoc]
theorem sK{ops:Array Oper}{X:Array Bool}(hX:X.size=ops.size){j:Nat}:
 j∈Region.ready .any ops X↔¬In X j/\∃o,ops[j]? =some o/\∀e∈iu o,In X e:=by
 rw[mem_ready];constructor
 ·rintro⟨h1,o,ho,h2⟩;have aK:j<X.size:=by rw[hX];exact(Array.getElem?_eq_some_iff.1 ho).1
  refine⟨?_,o,ho,fun e he=>?_⟩
  ·unfold In;rw[Array.getD_eq_getD_getElem?,Array.getElem?_eq_getElem aK]at h1 |-;simp at h1 |-;exact h1
  ·obtain⟨e',h3,h4,rfl⟩:=yx.1 he;exact h2 e' h3 h4
 ·rintro⟨h1,o,ho,h2⟩;have aK:j<X.size:=by rw[hX];exact(Array.getElem?_eq_some_iff.1 ho).1
  refine⟨?_,o,ho,fun e he hb=>h2 e.on (yx.2 ⟨e,he,hb,rfl⟩)⟩;unfold In at h1;rw[Array.getD_eq_getD_getElem?,Array.getElem?_eq_getElem aK]at h1 |-;simp at h1 |-;exact h1
theorem wK{ops:Array Oper}{X:Array Bool}(hd:∀i o,In X i->ops[i]? =some o->∀e∈iu o,In X e):
 ∀(n:Nat) (s:List Nat),(∀i∈s,In X i)->∀i∈gW ops n s,In X i
 |0,s,hs=>hs
 |n+1,s,hs=>by
  unfold gW;refine wK hd n _ fun i hi=>?_;split at hi
  ·rename_i hc;rcases List.mem_append.1 hi with hi|hi
   ·cases ho:ops[n]? with
    |none=>rw[ho]at hi;cases hi
    |some o=>rw[ho]at hi;exact hd n o (hs n (by simpa using hc)) ho i hi
   ·exact hs i hi
  ·exact hs i hi
structure lz where
 i:Nat
 o:Oper
 sv:SV
 nb:Option (List Value)
def lz.fact(A:Ar)(T:aU)(P:Program)(ops:Array Oper)(env:Env)(L:Loc)(h:ad)(x:lz):Prop:=
 gd ops.toList env x.o (fun _=>fD A T (fun _=>P) x.o (kE env) (if jI x.o then []else L) h (fun a b=>a=x.sv/\b=x.nb)) (fun _=>x.sv=.v undef/\x.nb=none)
structure eP(A:Ar)(T:aU)(P:Program)(ops:Array Oper)(X:Array Bool)(D:List lz)(listed pend known:List Nat)(envc:Env)(Lc:Loc)(fP:Env)(La:Loc)(h:ad):Prop where
 size:X.size=ops.size
 Tw:∀j,j∈listed↔In X j\/∃x∈D,x.i=j
 apart:∀x∈D,¬In X x.i
 down:∀i o,In X i->ops[i]? =some o->∀e∈iu o,In X e
 known:∀i∈known,In X i
 pend:∀x∈D,x.i∈pend
 len:fP.length=envc.length
 env:∀t,(∀x∈D,x.o.dst≠some t)->fP[t]? =envc[t]?
 dst:∀x∈D,∀t,x.o.dst=some t->t<envc.length->envc[t]? =some x.sv
 loc:∀s,(∀x∈D,x.nb.isSome=true->x.o.dst≠some s)->iM La s=iM Lc s
 box:∀x∈D,∀s c,x.nb=some c->x.o.dst=some s->iM La s=none/\iM Lc s=some c
 op:∀x∈D,ops[x.i]? =some x.o/\iP T x.o=true
 Yq:∀x∈D,∀e∈iu x.o,e∈listed
 uniq:∀x∈D,∀y∈D,x.i=y.i->x=y
 fact:∀x∈D,x.fact A T P ops envc Lc h
theorem rN{ops:List Oper}{env:Env}{o:Oper}{y n:Unit->Prop}(hg:gd ops env o y n):
 (y ()/\∀y' n':Unit->Prop,gd ops env o y' n'↔y' ())\/(n ()/\∀y' n':Unit->Prop,gd ops env o y' n'↔n' ()):=by
 unfold gd at *;repeat' split at hg
 all_goals first
  |exact hg.elim
  |exact .inl ⟨hg,fun _ _=>Iff.rfl⟩
  |exact .inr ⟨hg,fun _ _=>Iff.rfl⟩
  | (rcases jy hg with ⟨rfl,hg⟩ | ⟨rfl,hg⟩<;>first
   |exact .inl ⟨hg,fun _ _=>Iff.rfl⟩
   |exact .inr ⟨hg,fun _ _=>Iff.rfl⟩)
theorem wj{ops:Array Oper}{env bX:Env}{o:Oper}{y n:Unit->Prop}(hg:gd ops.toList env o y n)(he:∀t∈o.looksAt ops,bX[t]? =env[t]?):
 gd ops.toList bX o y n:=by
 have key:∀(j:Nat) (want:Bool),o.guard=some (j,want)->∀oj,ops.toList[j]? =some oj->∀d,oj.dst=some d->bX.getD d .u=env.getD d .u:=fun j want M1 oj DZ d hd=>by
  rw[List.getD_eq_getElem?_getD,List.getD_eq_getElem?_getD,he d ?_];unfold Oper.looksAt;refine List.mem_append_right _ ?_;have DY:ops[j]? =some oj:=by simpa using DZ
  simp[M1,DY,hd]
 unfold gd at hg |-;cases M1:o.guard with
 |none=>simp only[M1]at hg;exact hg
 |some jw=>
  obtain⟨j,want⟩:=jw;simp only[M1]at hg |-;cases DZ:ops.toList[j]? with
  |none=>simp only[DZ]at hg;exact hg
  |some oj=>
   simp only[DZ]at hg |-;cases hd:oj.dst with
   |none=>simp only[hd]at hg;exact hg
   |some d=>simp only[hd]at hg |-;rw[key j want M1 oj DZ d hd];exact hg
theorem qU{ops:Array Oper}{env bX:Env}{o:Oper}(he:∀t∈o.looksAt ops,bX[t]? =env[t]?):∀x∈o.op.operands.toList,kE bX x=kE env x:=fun x hx=>by
 cases x with
 |tmp t=>show bX.getD t .u=env.getD t .u;rw[List.getD_eq_getElem?_getD,List.getD_eq_getElem?_getD,he t ?_];unfold Oper.looksAt;exact List.mem_append_left _ (List.mem_filterMap.2 ⟨.tmp t,hx,rfl⟩)
 |const v=>rfl
 |global g=>rfl
 |func f=>rfl
theorem iJ{env:Env}{d:Option Nat}{x:SV}{t:Nat}(h:d≠some t):(put env d x)[t]? =env[t]? :=by
 cases d with
 |none=>rfl
 |some u=>simp only[put];rw[List.getElem?_set_ne (fun e=>h (by rw[e]))]
theorem qY{env:Env}{t:Nat}{x:SV}(h:t<env.length):(put env (some t) x)[t]? =some x:=by simp only[put];rw[List.getElem?_set_self h]
theorem jA{env:Env}{d:Option Nat}{x:SV}:(put env d x).length=env.length:=by cases d<;>simp[put]
theorem Jv{g:Bool}{cs:List Value}{q:Prop}(h:nK g cs (fun _=>q)):q:=(iI h).elim fun _ h=>h.2
theorem YO{h:ad}{x:Addr}{n:Nat}{g:Bool}{q:Prop}(hk:tq h x n (fun cs=>nK g cs (fun _=>q))):q:=hk.out.elim fun _ h=>Jv h.2
theorem SD{p:Unit->Program}{s:Unit->Sem Value}{q:Prop}(h:tp p s (fun _=>q)):q:=h.out.elim fun _ h=>h.2
theorem chk_c{p:Unit->Prop}{q:Prop}(h:nQ p (fun _=>q)):q:=h.out
theorem Jg{b:Option Addr}{len cap size:Nat}{l hh m:Option Int}{q:Prop}(h:vd A b len cap size l hh m (fun _=>q)):q:=(pU h).elim fun _ h=>h.1
theorem Jh{s:ByteArray}{l hh:Option Int}{q:Prop}(h:ve A s l hh (fun _=>q)):q:=(pV h).elim fun _ h=>h.1
theorem WG{op:BinOp}{a b:Value}{e:(Value->Prop)->Unit->Prop}(he:∀k,e k ()->∃v,k v/\∀k':Value->Prop,k' v->e k' ()){q:Prop}(hk:Cw A op a b (fun _=>q) (e (fun _=>q))):q:=(wO he hk).elim fun _ h=>h.1
theorem WE{op:BinOp}{a b:Value}{p:Unit->Program}{s:Unit->Sem Value}{q:Prop}(hk:Cw A op a b (fun _=>q) (fun _=>tp p s (fun _=>q))):q:=
 WG (e:=fun k _=>tp p s k) (fun k h=>by
  obtain⟨v,g1,g2⟩:=h.out;exact⟨v,g2,fun k' h'=>⟨v,g1,h'⟩⟩) hk
theorem qu{p:Unit->Program}{o:Oper}{ρ:Operand->SV}{L:Loc}{h:ad}{sv:SV}{nb:Option (List Value)}(hk:fD A T p o ρ L h (fun a b=>a=sv/\b=nb)):
 (jI o=true->nb.isSome=true/\∃d,o.dst=some d/\iM L d=none)/\(jI o=false->nb=none):=by
 obtain⟨sv',mV,⟨rfl,rfl⟩,aO⟩:=mY hk;clear hk;have h1:=aO (fun a b=>b=mV) rfl;clear aO;unfold fD at h1;split at h1;case h_3 e ho=>
  refine⟨fun _=>?_,fun hb=>by simp[jI,ho]at hb⟩;split at h1
  ·exact h1.elim
  ·split at h1
   ·exact h1.elim
   ·rename_i d hd;split at h1
    ·rename_i hl;subst h1;exact⟨rfl,d,hd,hl⟩
    ·exact h1.elim
 case h_4 e x ho=>
  refine⟨fun _=>?_,fun hb=>by simp[jI,ho]at hb⟩;split at h1
  ·exact h1.elim
  ·rename_i d hd;split at h1
   ·split at h1
    ·rename_i hl;subst h1;exact⟨rfl,d,hd,hl⟩
    ·exact h1.elim
   ·exact h1.elim
 case h_21=>exact h1.elim
 all_goals
  rename_i ho;refine⟨fun hb=>by simp[jI,ho]at hb,fun _=>?_⟩;clear ho;repeat' split at h1
  all_goals first
   |exact h1.elim
   |exact Eq.symm h1
   |exact Eq.symm (YO h1)
   |exact Eq.symm (Jv h1)
   |exact Eq.symm (SD h1)
   |exact Eq.symm (chk_c h1)
   |exact Eq.symm (WE h1)
   |exact Eq.symm (Jg h1)
   |exact Eq.symm (Jh h1)
variable {ro:Option Nat}{n:Nat}
variable {P:Program}{T:aU}{A:Ar}[aV A]
variable {ds:List Deferred}{h0:ad}{w0:World}{β:Nat->Nat}{h:ad}{a:Act}{w:World}
variable {ops:Array Oper}{X:Array Bool}{D:List lz}{listed pend known:List Nat}{envc fP:Env}{Lc La:Loc}
theorem oX{L:Loc}{d:Option Nat}{nb:Option (List Value)}{s:Nat}:iM (nB L d nb) s=if d=some s/\nb.isSome=true then nb else iM L s:=by
 cases d with
 |none=>simp[nB]
 |some t=>
  cases nb with
  |none=>simp[nB]
  |some c=>simp only[nB,iM];by_cases h:t=s<;>simp[h]
theorem lz.oS{x:lz}{env bX:Env}{L L':Loc}{h h':ad}(hf:x.fact A T P ops env L h)(he:∀t∈x.o.looksAt ops,bX[t]? =env[t]?)
 (hL:jq x.o=true->∀s c,iM L s=some c->iM L' s=some c) (hh:jq x.o=true->h'=h):x.fact A T P ops bX L' h':=by
 unfold lz.fact at *;refine Pv (wj hf he) (fun q=>?_) id;refine jY q (qU he) (fun hl y hy s off hs c hc=>?_) (fun hb d hd=>?_) hh
 ·split at hc
  ·cases hc
  ·rename_i hb;rw[if_neg hb];exact hL hl s c hc
 ·rw[if_pos hb];rfl
theorem eP.look(hB:eP A T P ops X D listed pend known envc Lc fP La h)(hr:pI T ops=true){k:Nat}{ok:Oper}(hk:ops[k]? =some ok)(hp:∀e∈iu ok,In X e):
 ∀t∈ok.looksAt ops,fP[t]? =envc[t]? :=fun t ht=>hB.env t fun x hx hd=>by
 obtain⟨ho,hl⟩:=hB.op x hx;obtain⟨-,h1,h2⟩:=kO hr ho;by_cases he:x.i=k
 ·rw[he,hk]at ho;cases ho;exact h1 hl t hd ht
 ·rcases(h2 k ok he hk t hd).2 ht with h3| ⟨h3,-⟩
  ·exact hB.apart x hx (hp _ h3)
  ·rw[hl]at h3;cases h3
theorem eP.sub(hB:eP A T P ops X D listed pend known envc Lc fP La h){s:Nat}{c:List Value}(hl:iM La s=some c):iM Lc s=some c:=by
 rw[<-hB.loc s (fun x hx hn hd=>?_)]
 ·exact hl
 ·obtain⟨c',oP⟩:=Option.isSome_iff_exists.1 hn;rw[(hB.box x hx s c' oP hd).1]at hl;cases hl
theorem eP.OH(hB:eP A T P ops X D listed pend known envc Lc fP La h){j:Nat}(h:In X j):j∈listed:=(hB.Tw j).2 (.inl h)
theorem eP.take(hB:eP A T P ops X D listed pend known envc Lc fP La h)(hr:pI T ops=true){i:Nat}{o:Oper}(hi:ops[i]? =some o)(Ik:i∉listed)(aK:iP T o=true)
 (hp:∀e∈iu o,e∈listed) {K:SV->Option (List Value)->Prop} {N:Prop}
 (hx:gd ops.toList envc o (fun _=>fD A T (fun _=>P) o (kE envc) Lc h K) (fun _=>N)):
 ∃sv nb,(K sv nb\/(N/\sv=.v undef/\nb=none))/\eP A T P ops X (⟨i,o,sv,nb⟩::D) (i::listed) (i::pend) known (put envc o.dst sv) (nB Lc o.dst nb) fP La h:=by
 obtain⟨-,Zm,DV⟩:=kO hr hi;have bW:∀x∈D,i≠x.i:=fun x hx e=>Ik ((hB.Tw i).2 (.inr ⟨x,hx,e.symm⟩));have ZG:∃sv nb,(K sv nb\/(N/\sv=.v undef/\nb=none))/\lz.fact A T P ops envc Lc h ⟨i,o,sv,nb⟩/\(∀d c,o.dst=some d->nb=some c->iM Lc d=none):=by
  rcases rN hx with ⟨h1,h2⟩ | ⟨h1,h2⟩
  ·obtain⟨sv,nb,h3,h4⟩:=mY h1;have h5:=h4 (fun a b=>a=sv/\b=nb) ⟨rfl,rfl⟩;refine⟨sv,nb,.inl h3,(h2 _ _).2 ?_,fun d c hd hc=>?_⟩
   ·exact jY h5 (fun _ _=>rfl) (fun hl y _ s off _ c hc=>by
     have:jI o=false:=by cases hq:o.op<;>simp[jq,jI,hq]at hl |-
     simp[this,hc]) (fun hb d hd=>by simp[hb,iM]) (fun _=>rfl)
   ·have hb:=qu h5;cases O9:jI o with
    |true=>obtain⟨-,d',ZW,hn⟩:=hb.1 O9;rw[hd]at ZW;cases ZW;exact hn
    |false=>rw[hb.2 O9]at hc;cases hc
  ·exact⟨.v undef,none,.inr ⟨h1,rfl,rfl⟩,(h2 _ _).2 ⟨rfl,rfl⟩,fun d c _ hc=>by cases hc⟩
 obtain⟨sv,nb,hK,hf,vT⟩:=ZG;have UD:∀x∈D,∀t,o.dst=some t->x.o.dst≠some t:=fun x hx t ht=>(DV x.i x.o (bW x hx) (hB.op x hx).1 t ht).1;have Lk:∀s c,iM Lc s=some c->iM (nB Lc o.dst nb) s=some c:=fun s c hc=>by
  rw[oX];split
  ·rename_i Rr;obtain⟨c',oP⟩:=Option.isSome_iff_exists.1 Rr.2;rw[vT s c' Rr.1 oP]at hc;cases hc
  ·exact hc
 refine⟨sv,nb,hK,⟨hB.size,fun j=>?_,fun x hx=>?_,hB.down,hB.known,fun x hx=>?_,by rw[jA];exact hB.len,fun t ht=>?_,fun x hx t hd hlen=>?_,fun s hs=>?_,fun x hx s c hn hd=>?_,
  fun x hx=>?_,fun x hx e he=>?_,fun x hx y hy Ic=>?_,fun x hx=>?_⟩⟩
 ·simp only[List.mem_cons,hB.Tw j];constructor
  ·rintro(rfl|h1| ⟨x,hx,e⟩)
   ·exact .inr ⟨_,.inl rfl,rfl⟩
   ·exact .inl h1
   ·exact .inr ⟨x,.inr hx,e⟩
  ·rintro(h1| ⟨x,rfl|hx,e⟩)
   ·exact .inr (.inl h1)
   ·exact .inl e.symm
   ·exact .inr (.inr ⟨x,hx,e⟩)
 ·rcases List.mem_cons.1 hx with rfl|hx
  ·exact fun eW=>Ik (hB.OH eW)
  ·exact hB.apart x hx
 ·rcases List.mem_cons.1 hx with rfl|hx
  ·exact List.mem_cons_self
  ·exact List.mem_cons_of_mem _ (hB.pend x hx)
 ·rw[iJ (ht ⟨i,o,sv,nb⟩ (by simp))];exact hB.env t fun x hx=>ht x (by simp[hx])
 ·rw[jA]at hlen;rcases List.mem_cons.1 hx with rfl|hx
  ·simp only at hd;rw[hd,qY hlen]
  ·rw[iJ (fun e=>UD x hx t e hd)];exact hB.dst x hx t hd hlen
 ·rw[oX,if_neg (fun hc=>hs ⟨i,o,sv,nb⟩ (by simp) hc.2 hc.1)];exact hB.loc s fun x hx=>hs x (by simp[hx])
 ·rcases List.mem_cons.1 hx with rfl|hx
  ·simp only at hn hd;refine⟨?_,by rw[oX,if_pos ⟨hd,by simp[hn]⟩];exact hn⟩;rw[hB.loc s (fun y hy _ O5=>UD y hy s hd O5)];exact vT s c hd hn
  ·obtain⟨h1,h2⟩:=hB.box x hx s c hn hd;exact⟨h1,Lk s c h2⟩
 ·rcases List.mem_cons.1 hx with rfl|hx
  ·exact⟨hi,aK⟩
  ·exact hB.op x hx
 ·rcases List.mem_cons.1 hx with rfl|hx
  ·exact List.mem_cons_of_mem _ (hp e he)
  ·exact List.mem_cons_of_mem _ (hB.Yq x hx e he)
 ·rcases List.mem_cons.1 hx with rfl|hx<;>rcases List.mem_cons.1 hy with rfl|hy
  ·rfl
  ·exact absurd Ic (bW y hy)
  ·exact absurd Ic.symm (bW x hx)
  ·exact hB.uniq x hx y hy Ic
 ·rcases List.mem_cons.1 hx with rfl|hx
  ·exact lz.oS hf (fun t ht=>iJ (fun e=>Zm aK t e ht)) (fun _=>Lk) (fun _=>rfl)
  ·refine lz.oS (hB.fact x hx) (fun t ht=>iJ (fun e=>?_)) (fun _=>Lk) (fun _=>rfl);rcases(DV x.i x.o (bW x hx) (hB.op x hx).1 t e).2 ht with h3| ⟨h3,-⟩
   ·exact Ik (hB.Yq x hx i h3)
   ·rw[aK]at h3;cases h3
theorem eP.catch(hT:dU P T)(hB:eP A T P ops X D listed pend known envc Lc fP La h)(hr:pI T ops=true)(hs:cC ds h0 w0 β fP La h a w){x:lz}(hx:x∈D)
 (hp:∀e∈iu x.o,In X e) {Q:Exit->Act->World->Prop} {K:Act->World->Prop}
 (hK:∀lZ a' w' yM Nt,cC ds h0 w0 lZ yM Nt h a' w'->eP A T P ops (X.setIfInBounds x.i true) (D.filter fun y=>y.i !=x.i) listed pend known envc Lc yM Nt h->K a' w'):
 wpOpIn (FW ro) n P ops Q x.i K a w:=by
 obtain⟨ho,aK⟩:=hB.op x hx;have vP:=hB.look hr ho hp;have KG:x.i<X.size:=by rw[hB.size];exact(Array.getElem?_eq_some_iff.1 ho).1
 have jJ:∀y,(y∈D.filter fun y=>y.i !=x.i)↔y∈D/\y.i≠x.i:=fun y=>by simp
 have vR:∀lZ v,cC ds h0 w0 lZ (put fP x.o.dst x.sv) (nB La x.o.dst x.nb) h (a.put x.o.dst v) w->True:=fun _ _ _=>trivial;have fin:eP A T P ops (X.setIfInBounds x.i true) (D.filter fun y=>y.i !=x.i) listed pend known envc Lc (put fP x.o.dst x.sv) (nB La x.o.dst x.nb) h:=by
  obtain⟨-,-,DV⟩:=kO hr ho;have UD:∀y∈D,y.i≠x.i->∀t,x.o.dst=some t->y.o.dst≠some t:=fun y hy bW t ht=>(DV y.i y.o (Ne.symm bW) (hB.op y hy).1 t ht).1;refine⟨by simp[hB.size],fun j=>?_,fun y hy=>?_,fun i o eW Vi e he=>?_,fun i hi=>?_,fun y hy=>hB.pend y ((jJ y).1 hy).1,by rw[jA];exact hB.len,fun t ht=>?_,
   fun y hy=>hB.dst y ((jJ y).1 hy).1,fun s KO=>?_,fun y hy s c hn hd=>?_,fun y hy=>hB.op y ((jJ y).1 hy).1,fun y hy=>hB.Yq y ((jJ y).1 hy).1,
   fun y hy z hz=>hB.uniq y ((jJ y).1 hy).1 z ((jJ z).1 hz).1,fun y hy=>hB.fact y ((jJ y).1 hy).1⟩
  ·rw[hB.Tw j,In.set KG];constructor
   ·rintro(h1| ⟨y,hy,e⟩)
    ·exact .inl (.inr h1)
    ·by_cases QV:y.i=x.i
     ·exact .inl (.inl (by rw[<-QV,e]))
     ·exact .inr ⟨y,(jJ y).2 ⟨hy,QV⟩,e⟩
   ·rintro((h1|h1) | ⟨y,hy,e⟩)
    ·exact .inr ⟨x,hx,h1⟩
    ·exact .inl h1
    ·exact .inr ⟨y,((jJ y).1 hy).1,e⟩
  ·rw[In.set KG];obtain⟨h1,h2⟩:=(jJ y).1 hy;rintro(e|e)
   ·exact h2 e.symm
   ·exact hB.apart y h1 e
  ·rw[In.set KG]at eW |-;rcases eW with e'|eW
   ·subst e';rw[ho]at Vi;cases Vi;exact .inr (hp e he)
   ·exact .inr (hB.down i o eW Vi e he)
  ·rw[In.set KG];exact .inr (hB.known i hi)
  ·by_cases hd:x.o.dst=some t
   ·by_cases hlen:t<envc.length
    ·rw[hd,qY (by rw[hB.len];exact hlen),hB.dst x hx t hd hlen]
    ·have e1:(put fP x.o.dst x.sv).length<=t:=by rw[jA,hB.len];exact Nat.le_of_not_lt hlen
     rw[List.getElem?_eq_none e1,List.getElem?_eq_none (Nat.le_of_not_lt hlen)]
   ·rw[iJ hd];refine hB.env t fun y hy O5=>?_;by_cases QV:y.i=x.i
    ·rw[hB.uniq y hy x hx QV]at O5;exact hd O5
    ·exact ht y ((jJ y).2 ⟨hy,QV⟩) O5
  ·rw[oX];split
   ·rename_i hc;obtain⟨c,oP⟩:=Option.isSome_iff_exists.1 hc.2;rw[(hB.box x hx s c oP hc.1).2,oP]
   ·rename_i hc;refine hB.loc s fun y hy hn O5=>?_;by_cases QV:y.i=x.i
    ·rw[hB.uniq y hy x hx QV]at O5 hn;exact hc ⟨O5,hn⟩
    ·exact KO y ((jJ y).2 ⟨hy,QV⟩) hn O5
  ·obtain⟨h1,h2⟩:=(jJ y).1 hy;obtain⟨h3,h4⟩:=hB.box y h1 s c hn hd;refine⟨?_,h4⟩;rw[oX,if_neg (fun hc=>UD y h1 h2 s hc.1 hd)];exact h3
 have hf:=hB.fact x hx;unfold lz.fact at hf;have ZP:=wj hf vP;unfold wpOpIn;simp only[ho];rcases oQ hs ZP with ⟨hw,hl⟩ | ⟨hw,hl⟩
 ·rw[if_pos hw];have D6:fD A T (fun _=>P) x.o (kE fP) La h (fun a b=>a=x.sv/\b=x.nb):=by
   refine jY hl (qU vP) (fun Vd y hy s off UI c hc=>?_) (fun hb d hd=>?_) (fun _=>rfl)
   ·have:jI x.o=false:=by cases hq:x.o.op<;>simp[jq,jI,hq]at Vd |-
    rw[this]at hc;simp only[Bool.false_eq_true,if_false]at hc;have hse:kE fP y=.loc s off:=by rw[qU vP y hy];exact UI
    obtain⟨⟨c',oP⟩,-⟩:=hs.mF hse;have:=hB.sub oP;rw[hc]at this;cases this;exact oP
   ·obtain⟨h1,d',ZW,-⟩:=(qu hl).1 hb;obtain⟨c,hc⟩:=Option.isSome_iff_exists.1 h1;exact(hB.box x hx d c hc hd).1
  obtain⟨v,w',lZ,h3,h4⟩:=sQ hT hs D6;refine nV h3 ?_;exact hK _ _ _ _ _ h4 fin
 ·rw[if_neg (by simp[hw])];obtain⟨e1,e2⟩:=hl;have rJ:nB La x.o.dst x.nb=La:=by rw[e2];unfold nB;cases x.o.dst<;>rfl
  rw[rJ,e1]at fin;refine⟨fun _ _=>trivial,?_⟩;exact hK _ _ _ _ _ (hs.put (x:=.v undef) (v:=undef) rfl) fin
variable {ro:Option Nat}{n:Nat}
variable {P:Program}{T:aU}{A:Ar}[aV A]
variable {ds:List Deferred}{h0:ad}{w0:World}{β:Nat->Nat}{h:ad}{a:Act}{w:World}
variable {ops:Array Oper}{X:Array Bool}{D:List lz}{listed pend known:List Nat}{envc fP:Env}{Lc La:Loc}
theorem CI.mono{h:ad}{y:Addr}{cs:List Value}{k k':ad->Prop}(x:CI h y cs k)(hk:∀h',k h'->k' h'):CI h y cs k':=by obtain⟨c,e,fr,g1,g2,g3,g4,g5⟩:=x.out;exact⟨c,e,fr,g1,g2,g3,g4,fun h' e=>hk _ (g5 h' e)⟩
theorem R5.mono{h:ad}{y:Option Addr}{cs:List Value}{k k':ad->Prop}(x:R5 h y cs k)(hk:∀h',k h'->k' h'):R5 h y cs k':=by
 rcases x with ⟨h1,h2⟩ | ⟨q,h1,h2⟩
 ·exact .inl ⟨h1,hk _ h2⟩
 ·exact .inr ⟨q,h1,h2.mono hk⟩
theorem wZ.mono{h:ad}{b:Option Addr}{len cap n size bytes e:Nat}{new:List Value}{k k':Value->ad->Prop}(x:wZ h b len cap n size bytes e new k)(hk:∀v h',k v h'->k' v h'):
 wZ h b len cap n size bytes e new k':=
 ⟨x.one,fun hc=>(x.fits hc).mono (fun _ q=>hk _ _ q),fun hc=>by
  obtain⟨h1,h2,JP,h3,h4⟩:=x.RE hc;exact⟨h1,h2,JP,h3,fun nb c h' rest e1 e2 e3 e4=>hk _ _ (h4 nb c h' rest e1 e2 e3 e4)⟩⟩
theorem pP.mono{h:ad}{e:Nat}{l c:Int}{bytes:Nat}{z:List Value}{k k':Value->ad->Prop}(x:pP h e l c bytes z k)(hk:∀v h',k v h'->k' v h'):pP h e l c bytes z k':=
 ⟨x.len,x.room,fun nb h' e1 e2=>hk _ _ (x.out nb h' e1 e2)⟩
theorem gD.mono{h:ad}{b:Option Addr}{len cap:Nat}{x:Option Addr}{n size bytes e:Nat}{k k':Value->ad->Prop}(q:gD h b len cap x n size bytes e k)(hk:∀v h',k v h'->k' v h'):
 gD h b len cap x n size bytes e k':=by
 obtain⟨new,h1,h2⟩:=q.out;exact⟨new,h1,h2.mono hk⟩
theorem wY.mono{h:ad}{b:Option Addr}{len:Nat}{x:Option Addr}{n size:Nat}{k k':Value->ad->Prop}(q:wY h b len x n size k)(hk:∀v h',k v h'->k' v h'):
 wY h b len x n size k':=by
 obtain⟨cs,h1,h2,h3⟩:=q.out;exact⟨cs,h1,h2,h3.mono fun h'=>hk _ h'⟩
theorem qG.mono{h:ad}{b:Option Addr}{len:Nat}{z:List Value}{k k':ad->Prop}(q:qG h b len z k)(hk:∀h',k h'->k' h'):qG h b len z k':=
 ⟨q.one,q.out.mono hk⟩
theorem dq.mono{p:Unit->Program}{s:Unit->Sem Value}{h:ad}{k k':Value->ad->Prop}(q:dq p s h k)(hk:∀v h',k v h'->k' v h'):dq p s h k':=
 ⟨fun w hw=>by
  obtain⟨v,w',h',h1,h2,h3⟩:=q.out w hw;exact⟨v,w',h',h1,hk _ _ h2,h3⟩⟩
theorem nQ.mono{p k k':Unit->Prop}(q:nQ p k)(hk:k ()->k' ()):nQ p k':=⟨q.h,hk q.out⟩
theorem Qj.mono{p:Unit->Program}{l:Nat}{args:List Value}{h:ad}{R R':Value->ad->Prop}(x:Qj p l args h R)(hr:∀v h',R v h'->R' v h'):Qj p l args h R':=
 ⟨fun w hw=>by
  obtain⟨fn,tmps,ua,body,h1,h2⟩:=x.out w hw;exact⟨fn,tmps,ua,body,h1,fun n=>(h2 n).mono fun e w' ⟨v,h',e1,e2,e3⟩=>⟨v,h',e1,hr _ _ e2,e3⟩⟩⟩
theorem Uv{p:Unit->Program}{o:Oper}{ρ:Operand->SV}{L:Loc}{h:ad}{k:SV->Loc->ad->Prop}(hk:hx A T p o ρ L h k)(F:Loc->ad->Prop)
 (hA:dE o=true->F L h) (hN:dE o=false->dP o=false->∀h',F L h') (hS:dP o=true->∀L' h',F L' h'):
 hx A T p o ρ L h (fun x L' h'=>k x L' h'/\F L' h'):=by
 unfold hx at hk |-;split at hk
 case h_1 x ho=>try simp only[ho]
                exact⟨hk,hA (by simp[dE,ho])⟩
 case h_2 t q x ho=>
  have hS':=hS (by simp[dP,ho]);try simp only[ho]
  repeat' split at hk
  all_goals first
   |exact hk.elim
   |exact⟨hk,hS' _ _⟩
   |exact CI.mono hk (fun h' q=>⟨q,hS' _ _⟩)
 case h_3 e ho=>
  have xi:=hN (by simp[dE,ho]) (by simp[dP,ho]);try simp only[ho]
  split at hk
  ·exact hk.elim
  ·exact fun n h' e1 e2=>⟨hk n h' e1 e2,xi _⟩
 case h_4 e x ho=>
  have xi:=hN (by simp[dE,ho]) (by simp[dP,ho]);try simp only[ho]
  split at hk
  ·exact fun n h' e1 e2=>⟨hk n h' e1 e2,xi _⟩
  ·exact hk.elim
 case h_5 t len parts ho=>
  have xi:=hN (by simp[dE,ho]) (by simp[dP,ho]);try simp only[ho]
  repeat' split at hk
  all_goals first
   |exact hk.elim
   |exact fun n h' e1 e2=>⟨hk n h' e1 e2,xi _⟩
 case h_6 t l c ho=>
  have xi:=hN (by simp[dE,ho]) (by simp[dP,ho]);try simp only[ho]
  repeat' split at hk
  all_goals first
   |exact hk.elim
   |exact pP.mono hk (fun v h' q=>⟨q,xi _⟩)
 case h_7 t r ho=>
  have xi:=hN (by simp[dE,ho]) (by simp[dP,ho]);try simp only[ho]
  split at hk
  ·exact fun n h' e1 e2=>⟨hk n h' e1 e2,xi _⟩
  ·exact hk.elim
 case h_8 f args argTypes ho=>
  have xi:=hN (by simp[dE,ho]) (by simp[dP,ho]);try simp only[ho]
  repeat' split at hk
  all_goals first
   |exact hk.elim
   |exact CK.mono hk (fun v h' q=>⟨q,xi _⟩) (fun _ _ q=>q)
   |exact IC.mono hk (fun v h' q=>⟨q,xi _⟩)
   |exact Qj.mono hk (fun v h' q=>⟨q,xi _⟩)
   |exact dq.mono hk (fun v h' q=>⟨q,xi _⟩)
 case h_9 b args argTypes ho=>
  have xi:=hN (by simp[dE,ho]) (by simp[dP,ho]);try simp only[ho]
  repeat' split at hk
  all_goals first
   |exact hk.elim
   |exact gD.mono hk (fun v h' q=>⟨q,xi _⟩)
   |exact nQ.mono hk (fun hq=>⟨wZ.mono hq.out fun v h' q=>⟨q,xi _⟩⟩)
   |exact wY.mono hk (fun v h' q=>⟨q,xi _⟩)
   |exact qG.mono hk (fun h' q=>⟨q,xi _⟩)
   |exact dq.mono hk (fun v h' q=>⟨q,xi _⟩)
 case h_19 x ho=>try simp only[ho]
                 exact hk
 case h_20=>exact hk.elim
 all_goals
  rename_i ho;have xi:=hN (by simp[dE,ho]) (by simp[dP,ho]);try simp only[ho]
  repeat' split at hk
  all_goals first
   |exact hk.elim
   |exact dq.mono hk (fun v h' q=>⟨q,xi _⟩)
theorem Uu{p:Unit->Program}{o:Oper}{ρ:Operand->SV}{L:Loc}{h:ad}{k:SV->Loc->ad->Prop}(hk:hx A T p o ρ L h k):
 hx A T p o ρ L h (fun x L' h'=>k x L' h'/\(dP o=false->L'=L)/\(dE o=true->h'=h)):=
 Uv hk (fun L' h'=>(dP o=false->L'=L)/\(dE o=true->h'=h)) (fun _=>⟨fun _=>rfl,fun _=>rfl⟩) (fun h1 h2 h'=>⟨fun _=>rfl,fun h3=>by rw[h1]at h3;cases h3⟩)
  (fun h1 L' h'=>⟨fun h2=>(by rw[h1]at h2;cases h2),fun h2=>(by
   cases hq:o.op<;>simp[dE,dP,hq]at h1 h2)⟩)
theorem sO{T:aU}{strict:Bool}{all:List Oper}{h:ad}{L:Loc}{env:Env}:∀ {l:List Nat} {k:Unit->Prop},pins T strict all h L env l k->
 (∀j∈l,∃o,all[j]? =some o/\gd all env o (fun _=>yj T strict h L env o (fun _=>True)) (fun _=>True))/\k ()
 | [],k,hp=>⟨fun _ h=>(by cases h),hp⟩
 |i::r,k,hp=>by
  unfold pins at hp;split at hp
  ·rename_i o ho;have N8:∀ {R:Unit->Prop},yj T strict h L env o R->yj T strict h L env o (fun _=>True)/\R ():=fun{R} hq=>by
    unfold yj at hq |-;split at hq
    ·rename_i t y Rd;try simp only[Rd]at hq |-
     split at hq
     ·rename_i x hx;try simp only[hx]
      obtain⟨cs,h1,h2⟩:=hq.out;obtain⟨v,h3,h4⟩:=iI h2;exact⟨⟨cs,h1,jl h3 fun v' e=>by subst e;exact⟨h4.h,trivial⟩⟩,h4.out⟩
     ·rename_i s off hx;try simp only[hx]
      split at hq
      ·exact⟨trivial,hq⟩
      ·split at hq
       ·rename_i c hc;try simp only[hc]
        split at hq
        ·rename_i cs aC;try simp only[aC]
         obtain⟨v,h3,h4⟩:=iI hq;exact⟨jl h3 fun v' e=>by subst e;exact⟨h4.h,trivial⟩,h4.out⟩
        ·exact hq.elim
       ·exact hq.elim
     ·exact hq.elim
    ·exact⟨trivial,hq⟩
   rcases rN hp with ⟨h1,h2⟩ | ⟨h1,h2⟩
   ·obtain⟨h3,h4⟩:=N8 h1;obtain⟨h5,h6⟩:=sO h4;refine⟨fun j hj=>?_,h6⟩;rcases List.mem_cons.1 hj with rfl|hj
    ·exact⟨o,ho,(h2 _ _).2 h3⟩
    ·exact h5 j hj
   ·obtain⟨h5,h6⟩:=sO h1;refine⟨fun j hj=>?_,h6⟩;rcases List.mem_cons.1 hj with rfl|hj
    ·exact⟨o,ho,(h2 _ _).2 trivial⟩
    ·exact h5 j hj
  ·exact hp.elim
theorem eP.aq(hT:dU P T)(hB:eP A T P ops X D listed pend known envc Lc fP La h)(hr:pI T ops=true)(Zp:Jr T ops=true)(hs:cC ds h0 w0 β fP La h a w){k:Nat}{ok:Oper}
 (hk:ops[k]? =some ok) (Fp:k∉listed) (hhv:iP T ok=false) (hp:∀e∈iu ok,In X e) {pn:List Nat} {R:Env->Loc->ad->Prop}
 (Rc:dE ok=true\/∀j∈pend,j∈gW ops ops.size (k::known)\/j∈pn\/(∀oj,ops[j]? =some oj->jq oj=false))
 (hx:gd ops.toList envc ok (fun _=>hx A T (fun _=>P) ok (kE envc) Lc h (fun x L' h'=>pins T (dP ok) ops.toList h' L' (put envc ok.dst x) pn (fun _=>R (put envc ok.dst x) L' h')))
  (fun _=>R (put envc ok.dst (.v undef)) Lc h)) {Q:Exit->Act->World->Prop} {K:Act->World->Prop} (iD:ki T ds h0 w0 Q)
 (hK:∀a' w' tV yM uz Nt h',R tV uz h'->cC ds h0 w0 β yM Nt h' a' w'->
  eP A T P ops (X.setIfInBounds k true) D (k::listed) (pend.filter fun j=> !(gW ops ops.size (k::known)).contains j) (gW ops ops.size (k::known)) tV uz yM Nt h'->K a' w'):
 wpOpIn (FW ro) n P ops Q k K a w:=by
 obtain⟨-,-,DV⟩:=kO hr hk;have vP:=hB.look hr hk hp;have Rj:k<X.size:=by rw[hB.size];exact(Array.getElem?_eq_some_iff.1 hk).1
 have bW:∀x∈D,k≠x.i:=fun x hx e=>Fp ((hB.Tw k).2 (.inr ⟨x,hx,e.symm⟩));have UD:∀x∈D,∀t,ok.dst=some t->x.o.dst≠some t:=fun x hx t ht=>(DV x.i x.o (bW x hx) (hB.op x hx).1 t ht).1;have hlk:∀x∈D,∀t∈x.o.looksAt ops,ok.dst≠some t:=fun x hx t ht hd=>by
  rcases(DV x.i x.o (bW x hx) (hB.op x hx).1 t hd).2 ht with h3| ⟨-,h3⟩
  ·exact Fp (hB.Yq x hx k h3)
  ·exact hB.apart x hx (hp _ h3)
 have Rq:∀i o,In (X.setIfInBounds k true) i->ops[i]? =some o->∀e∈iu o,In (X.setIfInBounds k true) e:=fun i o eW Vi e he=>by
  rw[In.set Rj]at eW |-;rcases eW with e'|eW
  ·subst e';rw[hk]at Vi;cases Vi;exact .inr (hp e he)
  ·exact .inr (hB.down i o eW Vi e he)
 have Vo:∀i∈gW ops ops.size (k::known),In (X.setIfInBounds k true) i:=wK Rq _ _ fun i hi=>by
  rw[In.set Rj];rcases List.mem_cons.1 hi with rfl|hi
  ·exact .inl rfl
  ·exact .inr (hB.known i hi)
 have UW:∀x∈D,¬In (X.setIfInBounds k true) x.i:=fun x hx eW=>by
  rw[In.set Rj]at eW;rcases eW with e|e
  ·exact bW x hx e
  ·exact hB.apart x hx e
 have fin:∀(sv:SV) (uz Nt:Loc) (h':ad),LRel Lc La uz Nt->(∀x∈D,x.fact A T P ops (put envc ok.dst sv) uz h')->
  eP A T P ops (X.setIfInBounds k true) D (k::listed) (pend.filter fun j=> !(gW ops ops.size (k::known)).contains j) (gW ops ops.size (k::known)) (put envc ok.dst sv) uz (put fP ok.dst sv) Nt h':=fun sv uz Nt h' hL hf=>by
  refine⟨by simp[hB.size],fun j=>?_,UW,Rq,Vo,fun x hx=>?_,by rw[jA,jA];exact hB.len,fun t ht=>?_,fun x hx t hd hlen=>?_,fun s KO=>?_,fun x hx s c hn hd=>?_,hB.op,
   fun x hx e he=>List.mem_cons_of_mem _ (hB.Yq x hx e he),hB.uniq,hf⟩
  ·rw[List.mem_cons,hB.Tw j,In.set Rj];constructor
   ·rintro(rfl|h1|h1)
    ·exact .inl (.inl rfl)
    ·exact .inl (.inr h1)
    ·exact .inr h1
   ·rintro((rfl|h1) |h1)
    ·exact .inl rfl
    ·exact .inr (.inl h1)
    ·exact .inr (.inr h1)
  ·simp only[List.mem_filter,Bool.not_eq_true',List.contains_eq_mem,decide_eq_false_iff_not];exact⟨hB.pend x hx,fun hc=>UW x hx (Vo _ hc)⟩
  ·by_cases hd:ok.dst=some t
   ·by_cases hlen:t<envc.length
    ·rw[hd,qY (by rw[hB.len];exact hlen),qY hlen]
    ·have e1:(put fP ok.dst sv).length<=t:=by rw[jA,hB.len];exact Nat.le_of_not_lt hlen
     have e2:(put envc ok.dst sv).length<=t:=by rw[jA];exact Nat.le_of_not_lt hlen
     rw[List.getElem?_eq_none e1,List.getElem?_eq_none e2]
   ·rw[iJ hd,iJ hd];exact hB.env t ht
  ·rw[jA]at hlen;rw[iJ (fun e=>UD x hx t e hd)];exact hB.dst x hx t hd hlen
  ·rcases hL with ⟨e1,e2⟩ | ⟨s0,c,q1,q2,g1,g2,e1,e2⟩
   ·rw[e1,e2];exact hB.loc s KO
   ·rw[e1,e2,mX g1,mX g2,hB.loc s KO]
  ·obtain⟨h1,h2⟩:=hB.box x hx s c hn hd;rcases hL with ⟨e1,e2⟩ | ⟨s0,c',q1,q2,g1,g2,e1,e2⟩
   ·rw[e1,e2];exact⟨h1,h2⟩
   ·have hs0:s0≠s:=fun e=>by rw[e,h1]at g2;cases g2
    rw[e1,e2,mX g1,mX g2,if_neg hs0,if_neg hs0];exact⟨h1,h2⟩
 unfold wpOpIn;simp only[hk];rcases rN hx with ⟨h1,h2⟩ | ⟨h1,h2⟩
 ·have hw:Region.wanted ok (yielded ops a.tmps)=true:=by
   have hg:=wj ((h2 (fun _=>True) (fun _=>False)).2 trivial) vP;rcases oQ hs hg with ⟨hw,-⟩ | ⟨-,hf⟩
   ·exact hw
   ·exact hf.elim
  rw[if_pos hw];have h3:=KH (Uu h1) (qU vP) (fun t ht=>by
   have:=hB.env t (fun x hx=>GB Zp (hB.op x hx).1 ht);simp only[kE,List.getD_eq_getElem?_getD,this])
  refine DQ hT hs (fun s c hc=>hB.sub hc) h3 iD fun sv v uz L' h' w' ⟨g1,g2,g3⟩ KO hL=>?_;obtain⟨Zv,hR⟩:=sO g1;refine hK _ _ _ _ _ _ _ hR KO (fin sv uz L' h' hL fun x hx=>?_);have CP:∀t∈x.o.looksAt ops,(put envc ok.dst sv)[t]? =envc[t]? :=fun t ht=>iJ (hlk x hx t ht);have hfx:=hB.fact x hx;cases Vd:jq x.o with
  |false=>exact lz.oS hfx CP (fun e=>by rw[Vd]at e;cases e) (fun e=>by rw[Vd]at e;cases e)
  |true=>
   rcases Rc with Rc|Rc
   ·have fO:dP ok=false:=by cases hq:ok.op<;>simp[dE,dP,hq]at Rc |-
    exact lz.oS hfx CP (fun _ s c hc=>by rw[g2 fO];exact hc) (fun _=>g3 Rc)
   ·rcases Rc x.i (hB.pend x hx)with h5|h5|h5
    ·exact absurd (Vo _ h5) (UW x hx)
    ·obtain⟨o',pD,K6⟩:=Zv x.i h5;have ZB:ops[x.i]? =some o':=by simpa using pD
     rw[(hB.op x hx).1]at ZB;cases ZB;have hfx':gd ops.toList (put envc ok.dst sv) x.o (fun _=>fD A T (fun _=>P) x.o (kE envc) (if jI x.o then []else Lc) h (fun a b=>a=x.sv/\b=x.nb)) (fun _=>x.sv=.v undef/\x.nb=none):=
      wj (by unfold lz.fact at hfx;exact hfx) CP
     unfold lz.fact;rcases rN hfx' with ⟨f1,f2⟩ | ⟨f1,f2⟩
     ·refine(f2 _ _).2 ?_;have mC:=(f2 _ _).1 K6;have O9:jI x.o=false:=by cases hq:x.o.op<;>simp[jq,jI,hq]at Vd |-
      rw[O9]at f1 |-;simp only[Bool.false_eq_true,if_false]at f1 |-;have fk:x.nb=none:=(qu f1).2 O9;cases Rd:x.o.op with
      |load t y=>
       have hyl:y∈x.o.op.operands.toList:=by rw[Rd];simp[Op.operands]
       have hsy:kE (put envc ok.dst sv) y=kE envc y:=qU CP y hyl;unfold fD at f1 |-;unfold yj at mC;simp only[Rd]at f1 mC |-;rw[hsy]at mC |-;have ZQ:∀v:Value,(∃d,x.o.dst=some d/\(put envc ok.dst sv)[d]? =some (.v v))->(SV.v v=x.sv/\(none:Option (List Value))=x.nb):=fun v ⟨d,hd,hv⟩=>by
        have hlen:d<envc.length:=by have:=(List.getElem?_eq_some_iff.1 hv).1;rwa[jA]at this
        have:=hB.dst x hx d hd hlen;rw[iJ (fun e=>UD x hx d e hd),this]at hv;exact⟨(Option.some.inj hv).symm,fk.symm⟩
       split at f1
       ·exact f1.elim
       ·split at f1
        ·rename_i s off UI;simp only[UI]at mC;split at mC
         ·rename_i fO;have hst':dP ok=false:=by simpa using fO
          rw[g2 hst'];exact f1
         ·split at f1
          ·rename_i c hc;split at mC
           ·rename_i c' oP;try simp only[oP]
            split at mC
            ·rename_i cs aC;exact jl mC fun v hq=>ZQ v hq.h
            ·exact mC.elim
           ·exact mC.elim
          ·exact f1.elim
        ·rename_i z UI;simp only[UI]at mC;obtain⟨cs,q1,q2⟩:=mC.out;exact⟨cs,q1,jl q2 fun v hq=>ZQ v hq.h⟩
        ·exact f1.elim
      |_=>simp[jq,Rd]at Vd
     ·exact(f2 _ _).2 f1
    ·have:=h5 x.o (hB.op x hx).1;rw[Vd]at this;cases this
 ·have hw:Region.wanted ok (yielded ops a.tmps)=false:=by
   have hg:=wj ((h2 (fun _=>False) (fun _=>True)).2 trivial) vP;rcases oQ hs hg with ⟨-,hf⟩ | ⟨hw,-⟩
   ·exact hf.elim
   ·exact hw
  rw[if_neg (by simp[hw])];refine⟨fun _ _=>trivial,?_⟩;refine hK _ _ _ _ _ _ _ h1 (hs.put (x:=.v undef) (v:=undef) rfl) (fin (.v undef) Lc La h (.inl ⟨rfl,rfl⟩) fun x hx=>?_);exact lz.oS (hB.fact x hx) (fun t ht=>iJ (hlk x hx t ht)) (fun _ _ _ hc=>hc) (fun _=>rfl)
variable {ro:Option Nat}{n:Nat}
variable {P:Program}{T:aU}{A:Ar}[aV A]
variable {ds:List Deferred}{h0:ad}{w0:World}{β:Nat->Nat}{h:ad}{a:Act}{w:World}
variable {ops:Array Oper}{X:Array Bool}{D:List lz}{listed pend known:List Nat}{envc fP:Env}{Lc La:Loc}
theorem cC.locs(hs:cC ds h0 w0 β fP La h a w)(hl:∀s,iM La s=iM Lc s):cC ds h0 w0 β fP Lc h a w:=
 ⟨hs.after,fun s c hc=>hs.loc s c (by rw[hl];exact hc),fun s s' c c' h1 h2=>hs.inj s s' c c' (by rw[hl];exact h1) (by rw[hl];exact h2),hs.size,fun t x hx=>by
  have:=hs.slot t x hx;cases x with
  |v y=>exact this
  |u=>trivial
  |loc s off=>exact⟨by rw[<-hl];exact this.1,this.2⟩,hs.defers⟩
def W6(X:Array Bool):Nat:=X.toList.countP (!·)
theorem EG{i:Nat}(hi:i<X.size)(hn:¬In X i):W6 (X.setIfInBounds i true)+1=W6 X:=by
 unfold W6;have hl:i<X.toList.length:=by simpa using hi
 have hx:X.toList[i]=false:=by unfold In at hn;rw[Array.getD_eq_getD_getElem?,Array.getElem?_eq_getElem hi]at hn;simpa using hn
 rw[Array.toList_setIfInBounds];have KQ:0<X.toList.countP (!·):=List.countP_pos_iff.2 ⟨X.toList[i],List.getElem_mem hl,by simp[hx]⟩;rw[List.countP_set (h:=hl)];simp[hx];simp only[Array.countP_toList]at KQ;omega
theorem xG(hX:X.size=ops.size)(hr:pI T ops=true)(he:Region.ready .any ops X=[]):∀j,j<ops.size->In X j:=by
 intro j;induction j using Nat.strongRecOn with
 |_ j ih=>
  intro hj;by_cases eW:In X j
  ·exact eW
  ·exfalso;have:j∈Region.ready .any ops X:=by rw[sK hX];refine⟨eW,ops[j],by simp[hj],fun e hee=>?_⟩;have aK:=(kO hr (show ops[j]? =some ops[j]by simp[hj])).1 e hee;exact ih e aK (by omega)
   rw[he]at this;cases this
theorem Tc{p:pF}(ho:uE T ops p true listed pend known=true):∃k∈nI p,k∉listed/\k<ops.size:=by
 induction p with
 |done=>simp[uE]at ho
 |aa i r _=>simp[uE]at ho
 |aq i pn r _=>
  simp only[uE,Bool.true_or,Bool.and_eq_true]at ho;refine⟨i,by simp[nI],by simpa using ho.1.1.2,?_⟩;have h2:=ho.1.2;split at h2
  ·rename_i o hi;exact(Array.getElem?_eq_some_iff.1 hi).1
  ·cases h2
 |fork l r ihl _=>simp only[uE,Bool.true_or,Bool.and_eq_true,true_and]at ho;obtain⟨k,h1,h2⟩:=ihl ho.1;exact⟨k,by simp[nI,h1],h2⟩
theorem JQ{K:Env->Loc->ad->Prop}{p:pF}(ho:uE T ops p true listed pend known=true)(hx:gI A T (fun _=>P) ops.toList K p envc Lc h){k:Nat}(hk:k∈nI p):
 ∃pn r,uE T ops (.aq k pn r) true listed pend known=true/\gI A T (fun _=>P) ops.toList K (.aq k pn r) envc Lc h:=by
 induction p with
 |done=>simp[nI]at hk
 |aa i r _=>simp[nI]at hk
 |aq i pn r _=>simp[nI]at hk;subst hk;exact⟨pn,r,ho,hx⟩
 |fork l r ihl ihr=>
  simp only[uE,Bool.true_or,Bool.and_eq_true,true_and]at ho;simp only[nI,List.mem_append]at hk;rcases hk with hk|hk
  ·exact ihl ho.1 hx.1 hk
  ·exact ihr ho.2 hx.2 hk
theorem Bn{p:pF}(ho:uE T ops p false listed pend known=true)(hp:(∃i pn r,p=.aq i pn r)\/∃l r,p=.fork l r):
 uE T ops p true listed pend known=true/\As ops p listed=true:=by
 rcases hp with ⟨i,pn,r,rfl⟩ | ⟨l,r,rfl⟩
 ·simp only[uE,Bool.false_or,Bool.true_or,Bool.and_eq_true]at ho |-;simp_all
 ·simp only[uE,Bool.false_or,Bool.true_or,Bool.and_eq_true]at ho |-;simp_all
theorem advance{K:Env->Loc->ad->Prop}(hr:pI T ops=true):∀(p:pF) {D:List lz} {listed pend:List Nat} {envc:Env} {Lc:Loc},eP A T P ops X D listed pend known envc Lc fP La h->
 gI A T (fun _=>P) ops.toList K p envc Lc h->uE T ops p false listed pend known=true->
 ∃D' ph EZ tV uz p',eP A T P ops X D' ph EZ known tV uz fP La h/\gI A T (fun _=>P) ops.toList K p' tV uz h/\uE T ops p' false ph EZ known=true/\
  (p'=.done\/(∃i pn r,p'=.aq i pn r)\/∃l r,p'=.fork l r)
 | .done,D,listed,pend,envc,Lc,hB,hx,ho=>⟨_,_,_,_,_,_,hB,hx,ho,.inl rfl⟩
 | .aq i pn r,D,listed,pend,envc,Lc,hB,hx,ho=>⟨_,_,_,_,_,_,hB,hx,ho,.inr (.inl ⟨_,_,_,rfl⟩)⟩
 | .fork l r,D,listed,pend,envc,Lc,hB,hx,ho=>⟨_,_,_,_,_,_,hB,hx,ho,.inr (.inr ⟨_,_,rfl⟩)⟩
 | .aa i r,D,listed,pend,envc,Lc,hB,hx,ho=>by
  simp only[uE,Bool.not_false,Bool.true_and,Bool.and_eq_true]at ho;obtain⟨⟨h1,h2⟩,h3⟩:=ho;split at h2
  ·rename_i o hi;simp only[Bool.and_eq_true,List.all_eq_true,List.contains_eq_mem,decide_eq_true_eq]at h2;unfold gI at hx;simp only[Array.getElem?_toList,hi]at hx;obtain⟨sv,nb,hK,Ht⟩:=hB.take hr hi (by simpa using h1) h2.1 h2.2 hx;refine advance hr r Ht ?_ h3;rcases hK with hK| ⟨hK,e1,e2⟩
   ·exact hK
   ·rw[e1,e2];have:nB Lc o.dst none=Lc:=by unfold nB;cases o.dst<;>rfl
    rw[this];exact hK
  ·cases h2
theorem Dt(hT:dU P T)(hr:pI T ops=true)(Zp:Jr T ops=true){K:Env->Loc->ad->Prop}{Q:Exit->Act->World->Prop}
 (iD:ki T ds h0 w0 Q) (hK:∀bX L' h' lZ a' w',K bX L' h'->cC ds h0 w0 lZ bX L' h' a' w'->Q .normal a' w'):
 ∀(fuel:Nat) {X:Array Bool} {D:List lz} {listed pend known:List Nat} {envc fP:Env} {Lc La:Loc} {h:ad} {β:Nat->Nat} {a:Act} {w:World} {p:pF},
  W6 X<=fuel->eP A T P ops X D listed pend known envc Lc fP La h->cC ds h0 w0 β fP La h a w->gI A T (fun _=>P) ops.toList K p envc Lc h->uE T ops p false listed pend known=true->
  wpAnyIn (FW ro) n P .any ops Q fuel X a w:=by
 intro fuel;have done:∀ {X:Array Bool} {D:List lz} {listed pend known:List Nat} {envc fP:Env} {Lc La:Loc} {h:ad} {β:Nat->Nat} {a:Act} {w:World} {p:pF},
  eP A T P ops X D listed pend known envc Lc fP La h->cC ds h0 w0 β fP La h a w->gI A T (fun _=>P) ops.toList K p envc Lc h->uE T ops p false listed pend known=true->
  Region.ready .any ops X=[]->Q .normal a w:=fun{X D listed pend known envc fP Lc La h β a w p} hB hs hx ho he=>by
  have Rn:=xG hB.size hr he;obtain⟨D',ph,EZ,tV,uz,p',Ht,rv,pD,UQ⟩:=advance hr p hB hx ho;have hD:D'=[]:=by
   cases D' with
   |nil=>rfl
   |cons x r=>exfalso;exact Ht.apart x (by simp) (Rn x.i (Array.getElem?_eq_some_iff.1 (Ht.op x (by simp)).1).1)
  subst hD;have gB:∀k,k∉ph->k<ops.size->False:=fun k h1 h2=>h1 (Ht.OH (Rn k h2));rcases UQ with rfl|UQ
  ·unfold gI at rv;refine hK _ _ _ β _ _ rv ?_;have e1:fP=tV:=List.ext_getElem? fun t=>Ht.env t (fun x hx=>by cases hx);have e2:∀s,iM La s=iM uz s:=fun s=>Ht.loc s (fun x hx=>by cases hx);rw[e1]at hs;exact hs.locs e2
  ·obtain⟨h1,-⟩:=Bn pD UQ;obtain⟨k,-,h2,h3⟩:=Tc h1;exact(gB k h2 h3).elim
 induction fuel with
 |zero=>
  intro X D listed pend known envc fP Lc La h β a w p hf hB hs hx ho;have he:Region.ready .any ops X=[]:=by
   apply List.eq_nil_iff_forall_not_mem.2;intro j hj;rw[sK hB.size]at hj;obtain⟨h1,o,h2,-⟩:=hj;have hj':j<X.size:=by rw[hB.size];exact(Array.getElem?_eq_some_iff.1 h2).1
   have:=EG hj' h1;omega
  exact⟨he,done hB hs hx ho he⟩
 |succ fuel ih=>
  intro X D listed pend known envc fP Lc La h β a w p hf hB hs hx ho;refine⟨fun he=>done hB hs hx ho he,fun k hk=>?_⟩;obtain⟨D',ph,EZ,tV,uz,p',Ht,rv,pD,UQ⟩:=advance hr p hB hx ho;have Fq:=hk;rw[sK hB.size]at Fq;obtain⟨KY,ok,jC,rF⟩:=Fq;have Rj:k<X.size:=by rw[hB.size];exact(Array.getElem?_eq_some_iff.1 jC).1
  have hunl:=EG Rj KY;by_cases hD:∃x∈D',x.i=k
  ·obtain⟨x,hxD,rfl⟩:=hD;have:ops[x.i]? =some x.o:=(Ht.op x hxD).1;rw[jC]at this;cases this;exact Ht.catch hT hr hs hxD rF fun lZ a' w' yM Nt h1 h2=>ih (by omega) h2 h1 rv pD
  ·have ZK:k∉ph:=fun hm=>by
    rcases(Ht.Tw k).1 hm with h1|h1
    ·exact KY h1
    ·exact hD h1
   rcases UQ with rfl|UQ
   ·simp only[uE,Bool.not_false,Bool.true_and,List.all_eq_true,List.mem_range,List.contains_eq_mem,decide_eq_true_eq]at pD;exact absurd (pD k (by rw[<-hB.size];exact Rj)) ZK
   ·obtain⟨h1,h2⟩:=Bn pD UQ;have hkh:k∈nI p':=by
     unfold As at h2;rw[List.all_eq_true]at h2;have:=h2 k (by simp only[List.mem_range];rw[<-hB.size];exact Rj);simp only[jC,Bool.or_eq_true,List.contains_eq_mem,decide_eq_true_eq,Bool.not_eq_true',List.all_eq_false]at this;rcases this with (h3|h3) | ⟨e,h3,h4⟩
     ·exact absurd h3 ZK
     ·exact h3
     ·exact absurd (Ht.OH (rF e h3)) (by simpa using h4)
    obtain⟨pn,r,h3,h4⟩:=JQ h1 rv hkh;unfold gI at h4;simp only[Array.getElem?_toList,jC]at h4;simp only[uE,Bool.true_or,Bool.true_and,Bool.and_eq_true,jC]at h3;obtain⟨⟨-,h5,h6⟩,h7⟩:=h3;refine Ht.aq hT hr Zp hs jC ZK (by simpa using h5) rF ?_ h4 iD (fun a' w' envc2 enva2 Lc2 La2 h' hR Ij hB2=>ih (by omega) hB2 Ij hR h7);simp only[Bool.or_eq_true,List.all_eq_true,List.contains_eq_mem,decide_eq_true_eq]at h6;rcases h6 with h6|h6
    ·exact .inl h6
    ·refine .inr fun j hj=>?_;rcases h6 j hj with (h8|h8) |h8
     ·exact .inl h8
     ·exact .inr (.inl h8)
     ·refine .inr (.inr fun oj DZ=>?_);simp only[DZ,Bool.not_eq_true']at h8;exact h8
variable {ro:Option Nat}{n:Nat}
variable {P:Program}{T:aU}{A:Ar}[aV A]
variable {ds:List Deferred}{h0:ad}{w0:World}{β:Nat->Nat}{h:ad}{a:Act}{w:World}{env:Env}{L:Loc}
def dw(T:aU):Code->Bool
 | .region id ops true=>(pI T ops&&Jr T ops)&&uE T ops (T.aA id) false [] [] []
 | .seq a b| .cond _ a b=>dw T a&&dw T b
 | .block _ c| .loop c=>dw T c
 | .rangeFunc _ _ a c=>dw T a&&dw T c
 |_=>true
def LL:Ex->Exit
 | .normal=>.normal
 | .exit id=>.exit id
 | .ret=>.ret
theorem Gh(n:Nat):W6 (Array.replicate n false)<=n:=by unfold W6;have:=List.countP_le_length (p:=fun b:Bool=> !b) (l:=(Array.replicate n false).toList);simpa using this
theorem yZ:∀ {e e1:Env},wk e e1->e.length=e1.length
 | [],[],_=>rfl
 |x::r,y::q,hw=>by
  unfold wk at hw;simp only[List.length_cons];cases y with
  |u=>rw[yZ hw]
  |v b=>rw[yZ hw.2]
  |loc s o=>rw[yZ hw.2]
theorem za:∀ {e e1:Env},Sx.wk e e1->∀(t:Nat) (x:SV),e1[t]? =some x->x=SV.u\/e[t]? =some x
 | [],[],_,t,x,hx=>by simp at hx
 |y::r,z::q,hw,t,x,hx=>by
  unfold wk at hw;cases t with
  |zero=>
   simp at hx |-;subst hx;cases z with
   |u=>exact .inl rfl
   |v b=>exact .inr hw.1
   |loc s o=>exact .inr hw.1
  |succ t=>
   simp at hx |-;cases z with
   |u=>exact za hw t x hx
   |v b=>exact za hw.2 t x hx
   |loc s o=>exact za hw.2 t x hx
theorem rj{L:Loc}:∀ {L1:Loc},Ok L L1->∀(s:Nat) (c:List Value),iM L1 s=some c->iM L s=some c
 | [],_,s,c,hc=>by cases hc
 | (k,d)::r,hl,s,c,hc=>by
  unfold Ok at hl;simp only[iM]at hc;split at hc
  ·rename_i e;subst e;cases hc;exact hl.1
  ·exact rj hl.2 s c hc
theorem uH{L:Loc}:∀ {e:Env},YJ L e->∀(t s o:Nat),e[t]? =some (SV.loc s o)->∃c,iM L s=some c
 | [],_,t,s,o,hx=>by simp at hx
 |x::r,hl,t,s,o,hx=>by
  unfold YJ at hl;cases t with
  |zero=>simp at hx;subst hx;exact Option.isSome_iff_exists.1 hl.1
  |succ t=>
   simp at hx;cases x with
   |u=>exact uH hl t s o hx
   |v b=>exact uH hl t s o hx
   |loc s' o'=>exact uH hl.2 t s o hx
theorem cC.wk(hs:cC ds h0 w0 β env L h a w){ig:Env}{L1:Loc}(hw:Wk env L ig L1):cC ds h0 w0 β ig L1 h a w:=
 ⟨hs.after,fun s c hc=>hs.loc s c (rj hw.loc s c hc),fun s s' c c' h1 h2=>hs.inj s s' c c' (rj hw.loc s c h1) (rj hw.loc s' c' h2),by rw[hs.size,yZ hw.env],fun t x hx=>by
  rcases za hw.env t x hx with rfl|he
  ·trivial
  ·have:=hs.slot t x he;cases x with
   |u=>trivial
   |v b=>exact this
   |loc s o=>exact⟨uH hw.ok t s o hx,this.2⟩,hs.defers⟩
theorem fT(hT:dU P T):∀(c:Code),dw T c=true->∀ {K:Ex->Env->Loc->ad->Prop} {Q:Exit->Act->World->Prop} {env:Env} {L:Loc} {h:ad} {β:Nat->Nat} {a:Act} {w:World},
 cC ds h0 w0 β env L h a w->sx A T (fun _=>P) c K env L h->
 ki T ds h0 w0 Q->(∀e bX L' h' lZ a' w',K e bX L' h'->cC ds h0 w0 lZ bX L' h' a' w'->Q (LL e) a' w')->c.wpIn (FW ro) n P Q a w:=by
 intro c;induction c with
 |skip=>exact fun _ {K Q env L h β a w} hs hx iD hK=>wpIn_skip (hK .normal _ _ _ _ _ _ hx hs)
 |region id ops draw=>
  intro ho K Q env L h β a w hs hx iD hK;cases draw with
  |false=>exact wpIn_region_list (lC hT iD (fun bX L' h' lZ a' w' h1 h2=>hK .normal _ _ _ _ _ _ h1 h2) ops.toList _ _ _ _ _ _ hs hx)
  |true=>
   simp only[dw,Bool.and_eq_true]at ho;refine wpIn_region_any hT.mixed ?_;have KO:cC ds h0 w0 β env L h a { w with drawn:=w.drawn+1 }:=
    ⟨⟨hs.after.os,hs.after.tape,hs.after.output,hs.after.size,hs.after.wU,hs.after.frame⟩,hs.loc,hs.inj,hs.size,hs.slot,hs.defers⟩
   refine Dt hT ho.1.1 ho.1.2 (K:=fun env L h=>K .normal env L h) iD (fun bX L' h' lZ a' w' h1 h2=>hK .normal _ _ _ _ _ _ h1 h2) ops.size (D:=[]) (listed:=[]) (pend:=[]) (known:=[]) (envc:=env) (Lc:=L)
    (by exact Gh ops.size) ?_ KO hx ho.2
   have hn:∀j,¬In (Array.replicate ops.size false) j:=fun j hj=>by
    unfold In at hj;rw[Array.getD_eq_getD_getElem?,Array.getElem?_replicate]at hj;split at hj<;>simp at hj
   exact⟨by simp,fun j=>by simp[hn j],fun x hx=>(by cases hx),fun i o hi=>absurd hi (hn i),fun i hi=>(by cases hi),fun x hx=>(by cases hx),rfl,fun _ _=>rfl,fun x hx=>(by cases hx),fun _ _=>rfl,
    fun x hx=>(by cases hx),fun x hx=>(by cases hx),fun x hx=>(by cases hx),fun x hx=>(by cases hx),fun x hx=>(by cases hx)⟩
 |seq c d Ul Uk=>
  intro ho K Q env L h β a w hs hx iD hK;simp only[dw,Bool.and_eq_true]at ho;unfold sx at hx;refine wpIn_seq (Ul ho.1 hs hx (fun c β env L h a w q1 q2=>iD c β env L h a w q1 q2) fun e bX L' h' lZ a' w' h1 h2=>?_);cases e with
  |normal=>exact Uk ho.2 h2 h1 iD hK
  |exit id=>exact hK (.exit id) _ _ _ _ _ _ h1 h2
  |ret=>exact hK .ret _ _ _ _ _ _ h1 h2
 |cond x c d Ul Uk=>
  intro ho K Q env L h β a w hs hx iD hK;simp only[dw,Bool.and_eq_true]at ho;unfold sx at hx;split at hx
  ·rename_i t ht;refine wpIn_cond (hs.aZ ht) ?_;rcases jy hx with ⟨rfl,hx⟩ | ⟨rfl,hx⟩
   ·exact Ul ho.1 hs hx iD hK
   ·exact Uk ho.2 hs hx iD hK
  ·exact hx.elim
 |block id c ih=>
  intro ho K Q env L h β a w hs hx iD hK;unfold sx at hx;refine wpIn_block (ih ho hs hx (fun c β env L h a w q1 q2=>iD c β env L h a w q1 q2) fun e bX L' h' lZ a' w' h1 h2=>?_);cases e with
  |normal=>exact hK .normal _ _ _ _ _ _ h1 h2
  |exit j=>
   simp only[LL,Exit.inBlock]at h1 |-;split at h1
   ·rename_i e;rw[if_pos e];exact hK .normal _ _ _ _ _ _ h1 h2
   ·rename_i e;rw[if_neg e];exact hK (.exit j) _ _ _ _ _ _ h1 h2
  |ret=>exact hK .ret _ _ _ _ _ _ h1 h2
 |loop c ih=>
  intro ho K Q env L h β a w hs hx iD hK;unfold sx at hx;obtain⟨I,n,⟨ig,L1,Zd,hI⟩,UK⟩:=hx.out;refine wpIn_loop_ghost (fun n a w=>∃env L h β,I n env L h/\cC ds h0 w0 β env L h a w) n ⟨_,_,_,_,hI,hs.wk Zd⟩ fun n a w ⟨env,L,h,β,h1,h2⟩=>?_;refine ih ho h2 (UK n env L h h1) (fun c β env L h a w q1 q2=>iD c β env L h a w q1 q2) fun e bX L' h' lZ a' w' h3 h4=>?_;cases e with
  |normal=>obtain⟨m,ig,L1,hm,Zd,h5⟩:=h3;exact⟨m,hm,_,_,_,_,h5,h4.wk Zd⟩
  |exit j=>exact hK (.exit j) _ _ _ _ _ _ h3 h4
  |ret=>exact hK .ret _ _ _ _ _ _ h3 h4
 |rangeFunc=>intro ho K Q env L h β a w hs hx iD hK;exact hx.elim
 |exit id=>exact fun _ {K Q env L h β a w} hs hx iD hK=>wpIn_exit (hK (.exit id) _ _ _ _ _ _ hx hs)
 |scope=>intro ho K Q env L h β a w hs hx iD hK;exact hx.elim
 |label=>intro ho K Q env L h β a w hs hx iD hK;exact hx.elim
 |goto=>intro ho K Q env L h β a w hs hx iD hK;exact hx.elim
 |ret=>exact fun _ {K Q env L h β a w} hs hx iD hK=>wpIn_ret (hK .ret _ _ _ _ _ _ hx hs)
 |refuse=>intro ho K Q env L h β a w hs hx iD hK;exact hx.elim
def zE(tmps:Array Value):ResultVar->Sem Value
 | .tmp t=>pure (tmps.getD t undef)
 | .cell q t=>do loadVar t (<-asAddr (tmps.getD q undef))
theorem vq(fn:Func)(tmps:Array Value):results fn tmps=(do
 let vs <-fn.results.mapM (zE tmps)
 pure (if h:vs.size=1 then vs[0]else .tuple vs)):=by
 have:(fun(x:ResultVar)=>(match x with| .tmp t=>pure (tmps.getD t undef) | .cell a t=>do loadVar t (<-asAddr (tmps.getD a undef)):Sem Value))=zE tmps:=by funext x;cases x<;>rfl
 unfold results;rw[<-this];rfl
theorem Ju(hT:dU P T)(hs:cC ds h0 w0 β env L h a w){r:ResultVar}{k:Value->Prop}(hr:N0 T env L h r k):
 ∃v,(zE a.tmps r).run P w=.ok v w/\k v:=by
 unfold N0 at hr;split at hr
 ·rename_i t;split at hr
  ·rename_i x hx;have:=hs.slot t _ (getD_some hx (by simp));exact⟨_,rfl,by rw[show a.tmps.getD t undef=x from this];exact hr⟩
  ·exact hr.elim
 ·rename_i q t;split at hr
  ·exact hr.elim
  ·rename_i hx hk;have hi:=eL hT (t:=t) (fun e=>hk e);have nU:=hs.slot q _ (getD_some hx (by simp));split at hr
   ·rename_i c hc;split at hr
    ·rename_i cs aC;obtain⟨h1,h2⟩:=BB hs hc aC;obtain⟨v,h3,h4⟩:=lE hi w _ _ cs h1 h2 hr;refine⟨v,?_,h4⟩;show(do loadVar t (<-asAddr (a.tmps.getD q undef)):Sem Value).run P w=_;rw[show a.tmps.getD q undef=_ from nU.2];simp[asAddr,h3]
    ·exact hr.elim
   ·exact hr.elim
  ·rename_i hx hk;have hi:=eL hT (t:=t) (fun e=>hk e);have nU:=hs.slot q _ (getD_some hx (by simp));obtain⟨cs,h1,hl⟩:=(show tq _ _ _ _ from hr).out;obtain⟨g1,g2,g3⟩:=h1.cell hs.after.wU;obtain⟨v,h3,h4⟩:=lE hi w _ _ cs g2 g3 hl;refine⟨v,?_,h4⟩;rename_i y;have:y=⟨y.block,y.off,none⟩:=by cases y;simp at g1;rw[g1]
   show(do loadVar t (<-asAddr (a.tmps.getD q undef)):Sem Value).run P w=_;rw[show a.tmps.getD q undef=.pointer (some y)from nU];simp only[asAddr,Sem.run_bind,Sem.run_pure,Result.andThen_ok];rw[this];exact h3
  ·exact hr.elim
theorem vr(hT:dU P T)(hs:cC ds h0 w0 β env L h a w):∀ {rs:List ResultVar} {k:List Value->Prop},mw T env L h rs k->
 ∃l,(rs.mapM (zE a.tmps)).run P w=.ok l w/\k l
 | [],k,hr=>⟨[],rfl,hr⟩
 |r::rs,k,hr=>by
  unfold mw at hr;obtain⟨v,h1,h2⟩:=Ju hT hs hr;obtain⟨l,h3,h4⟩:=vr hT hs h2;refine⟨v::l,?_,h4⟩;rw[List.mapM_cons];simp only[Sem.run_bind,h1,Result.andThen_ok,h3,Sem.run_pure]
theorem ki.none{Q:Exit->Act->World->Prop}(rF:∀c s h,¬T.kp c s h):ki T ds h0 w0 Q:=fun c β env L h a w q _=>(rF _ _ _ q).elim
theorem ah(A:Ar)[aV A](hT:dU P T){f:FuncId}{fn:Func}{c:Code}(hf:P.funcs[f]? =some fn)(hb:fn.body=some c)(ho:dw T c=true){args:List Value}{h:ad}{R:Value->ad->Prop}
 (hx:Sp A T (fun _=>P) c fn.ntmps fn.results.toList args h R) (rF:∀c s h,¬T.kp c s h:=by exact fun _ _ _ hc=>hc):IC (fun _=>P) f args h R:=by
 refine⟨fun w hw=>?_⟩;refine calls_of_wp hf hb (wpIn_wide (n:=0).1 ?_);have hs:cC [] h w (fun _=>0) (args.map SV.v++List.replicate (fn.ntmps-args.length) (.v undef)) [] h { tmps:=args.toArray++Array.replicate (fn.ntmps-args.toArray.size) undef,defers:=[] } w:=by
  refine⟨aY.refl hw,fun s c hc=>(by cases hc),fun s s' c c' hc=>(by cases hc),by simp,fun t x hx=>?_,rfl⟩;rw[List.getElem?_append]at hx;split at hx
  ·rename_i aK;have Af:t<args.length:=by simpa using aK
   rw[List.getElem?_map,List.getElem?_eq_getElem Af]at hx;simp at hx;subst hx;show _=_;rw[Array.getD_eq_getD_getElem?,Array.getElem?_append_left (by simpa using Af)];simp[Af]
  ·rename_i iR;have Vk:args.length<=t:=by simpa using iR
   rw[List.getElem?_replicate]at hx;split at hx
   ·rename_i aK;cases hx;show _=_;rw[Array.getD_eq_getD_getElem?,Array.getElem?_append_right (by simpa using Vk),Array.getElem?_replicate];simp at aK |-;rw[if_pos aK];rfl
   ·cases hx
 refine fT (A:=A) (ro:=none) (n:=0) hT c ho hs hx (ki.none rF) fun e bX L' h' lZ a' w' h1 h2=>?_;have fin:mw T bX L' h' fn.results.toList (fun l=>jH l (fun v=>R v h'))->a'.defers=[]/\∃v,(results fn a'.tmps).run P w'=.ok v w'/\∃v1 h1,Ending.returned v=.returned v1/\R v1 h1/\aY h w h1 w':=fun hr=>by
  obtain⟨l,h3,h4⟩:=vr hT h2 hr;refine⟨h2.defers,?_⟩;have h5:(results fn a'.tmps).run P w'=.ok (if h:l.toArray.size=1 then l.toArray[0]else .tuple l.toArray) w':=by rw[vq,Array.mapM_eq_mapM_toList];rw[Sem.run_bind,Sem.run_map];rw[h3];rfl
  refine⟨_,h5,_,h',rfl,?_,h2.after⟩;unfold jH at h4;split at h4
  ·exact h4
  ·rename_i bW;have:¬l.toArray.size=1:=fun hl=>by
    match l,hl with
    | [x],_=>exact bW x rfl
   rw[dif_neg this];exact h4
 cases e with
 |normal=>exact fin h1
 |ret=>exact fin h1
 |exit id=>exact h1.elim
variable {ro:Option Nat}{n:Nat}
variable {P:Program}{T:aU}{A:Ar}[aV A]
inductive Df where
 |call (g:FuncId) (args cap:List Value)
 |mark (m:Nat)
def Df.at:Df->Deferred
 | .call g args cap=>{ target:=.fn (.func g) cap.toArray,args:=args.toArray }
 | .mark m=>{ target:=.collected m,args:= #[] }
def jb:Env->Env
 | []=>[]
 |x::r=>match x with
  | .loc _ _=>.u::jb r
  |x=>x::jb r
def tB:Env->List Nat->List Value->Env
 |env,p::ps,v::vs=>tB (env.set p (.v v)) ps vs
 |env,_,_=>env
def Dn(A:Ar)(T:aU)(p:Unit->Program)(ua body:Code)(env:Env)(ps:List Nat)(l:Nat)(o1 o2:Obj)(vs:List Value)(k:ad->Prop)(hh:ad):Prop:=
 sx A T p ua (fun e ig L1 h1=>match e with
  | .normal=>h1 l=some o1/\sx A T p body (fun e _ _ h2=>match e with
   | .normal=>h2 l=some o2/\k (bp h2 l o1)
   |_=>False) ig L1 (bp h1 l o2)
  |_=>False) (tB env ps vs) [] hh
structure RgX(p:Unit->Program)(gf:FuncId)(lb:List Value)(n:Nat)(round:Nat->Obj->Obj->List Value->(ad->Prop)->ad->Prop)(h:ad)(K:Nat->ad->Prop):Prop where
 out:∀(m l:Nat) (o1 o2:Obj),h m=none->h l=none->m≠l->(∀c e fr,o1≠.cells c e fr)->(∀c e fr,o2≠.cells c e fr)->
  (∀vs hh (k:ad->Prop),vs.length=n->hh l=some o1->round l o1 o2 vs k hh->Qj p l vs hh (fun v h'=>v=.bool true/\k h'))->
  IC p gf (.func (.yield l) #[] #[]::lb) (bp (bp h m (.deferred (some []))) l o1) (fun _ h'=>h' l=some o1/\∀o3,(∀c e fr,o3≠.cells c e fr)->K m (bp h' l o3))
def FnD(P:Program)(f:FuncId)(args:List Value)(h:ad)(R:Value->ad->Prop):Prop:=
 ∀w,uc h w->∀n,CallsDIn Fence.wide n P f args.toArray .returning w fun e u' w'=>u'=.returning/\∃v h',e=.returned v/\R v h'/\aY h w h' w'
structure H4(p:Unit->Program)(f:FuncId)(args:List Value)(h:ad)(R:Value->ad->Prop):Prop where
 out:FnD (p ()) f args h R
theorem H4.mono{p:Unit->Program}{f:FuncId}{args:List Value}{h:ad}{R R':Value->ad->Prop}(x:H4 p f args h R)(hr:∀v h',R v h'->R' v h'):H4 p f args h R':=
 ⟨fun w hw n=>(x.out w hw n).mono fun e u' w' ⟨hu,v,h',he,hR,ha⟩=>⟨hu,v,h',he,hr _ _ hR,ha⟩⟩
def pS(A:Ar)(T:List Df->aU)(p:Unit->Program)(all:List Oper)(K:List Df->Env->Loc->ad->Prop):List Oper->List Df->Env->Loc->ad->Prop
 | [],ds,env,L,h=>K ds env L h
 |o::rest,ds,env,L,h=>
  gd all env o
   (fun _=>match o.op with
    | .defer c=>match c.callee with
     | .value f=>match kE env f with
      | .v (.func (.func g) first cap)=>match kG (c.args.toList.map (kE env))with
       |some as=>pS A T p all K rest (.call g (first.toList++as) cap.toList::ds) (put env o.dst (.v undef)) L h
       |none=>False
      |_=>False
     |_=>False
    |_=>match iP (T ds) o with
     |true=>fD A (T ds) p o (kE env) L h (fun x nb=>pS A T p all K rest ds (put env o.dst x) (nB L o.dst nb) h)
     |false=>hx A (T ds) p o (kE env) L h (fun x L' h'=>pS A T p all K rest ds (put env o.dst x) L' h'))
   (fun _=>pS A T p all K rest ds (put env o.dst (.v undef)) L h)
def H6(A:Ar)(T:List Df->aU)(p:Unit->Program):Code->(Ex->List Df->Env->Loc->ad->Prop)->List Df->Env->Loc->ad->Prop
 | .region id ops false,K,ds,env,L,h=>pS A T p ops.toList (fun ds env L h=>K .normal ds env L h) ops.toList ds env L h
 | .seq a b,K,ds,env,L,h=>H6 A T p a (fun e ds env L h=>match e with
  | .normal=>H6 A T p b K ds env L h
  |e=>K e ds env L h) ds env L h
 | .cond c a b,K,ds,env,L,h=>match kE env c with
  | .v (.bool t)=>HT t (fun _=>H6 A T p a K ds env L h) (fun _=>H6 A T p b K ds env L h)
  |_=>False
 | .block id c,K,ds,env,L,h=>H6 A T p c (fun e ds env L h=>match e with
  | .exit j=>if j=id then K .normal ds env L h else K (.exit j) ds env L h
  |e=>K e ds env L h) ds env L h
 | .rangeFunc g ps ua body,K,ds,env,L,h=>match kE env g with
  | .v (.func (.func gf) first lb)=>match first.isEmpty,(T ds).fn gf with
   |true,true=>RgX p gf lb.toList ps.size (Dn A (T ds) p ua body (jb env) ps.toList) h (fun m h'=>K .normal (.mark m::ds) env L h')
   |_,_=>False
  |_=>False
 |c,K,ds,env,L,h=>sx A (T ds) p c (fun e env L h=>K e ds env L h) env L h
def zD(T:aU)(p:Unit->Program):List Df->(ad->Prop)->ad->Prop
 | [],k,h=>k h
 | .call g args cap::r,k,h=>match T.fn g with
  |true=>H4 p g (args++cap) h (fun _ h'=>zD T p r k h')
  |false=>False
 | .mark m::r,k,h=>h m=some (.deferred (some []))/\zD T p r k (bp h m (.deferred none))
def X7(A:Ar)(T:aU)(p:Unit->Program)(c:Code)(ntmps:Nat)(rs:List ResultVar)(args:List Value)(h:ad)(R:Value->ad->Prop):Prop:=
 H6 A (fun _=>T) p c (fun e ds env L h=>match e with
  | .exit _=>False
  |_=>zD T p ds (fun h=>mw T env L h rs (fun l=>jH l (fun v=>R v h))) h) [] (args.map SV.v++List.replicate (ntmps-args.length) (.v undef)) [] h
variable {h0:ad}{w0:World}{β:Nat->Nat}{h:ad}{a:Act}{w:World}{env:Env}{L:Loc}
theorem cC.CG{ds:List Deferred}(hs:cC ds h0 w0 β env L h a w)(d:Deferred):cC (d::ds) h0 w0 β env L h { a with defers:=d::a.defers } w:=
 ⟨hs.after,hs.loc,hs.inj,hs.size,hs.slot,by rw[hs.defers]⟩
def Mu(T:List Df->aU)(h0:ad)(w0:World)(Q:Exit->Act->World->Prop):Prop:=∀ds:List Df,ki (T ds) (ds.map Df.at) h0 w0 Q
variable {TT:List Df->aU}
theorem iG(hT:∀ds,dU P (TT ds)){ops:Array Oper}{K:List Df->Env->Loc->ad->Prop}{Q:Exit->Act->World->Prop}
 (iD:Mu TT h0 w0 Q) (hK:∀FG bX L' h' lZ a' w',K FG bX L' h'->cC (FG.map Df.at) h0 w0 lZ bX L' h' a' w'->Q .normal a' w'):
 ∀(l:List Oper) (ds:List Df) (env:Env) (L:Loc) (h:ad) (β:Nat->Nat) (a:Act) (w:World),cC (ds.map Df.at) h0 w0 β env L h a w->
  pS A TT (fun _=>P) ops.toList K l ds env L h->wpListIn (FW none) n P ops Q l a w
 | [],ds,env,L,h,β,a,w,hs,hx=>hK _ _ _ _ _ _ _ hx hs
 |o::r,ds,env,L,h,β,a,w,hs,hx=>by
  unfold pS at hx;unfold wpListIn;rcases oQ hs hx with ⟨hw,hx⟩ | ⟨hw,hx⟩
  ·rw[if_pos hw];split at hx
   ·rename_i c ho;split at hx
    ·rename_i f hc;split at hx
     ·rename_i g first cap hf
      split at hx
      ·rename_i as has;have hr:(execOp a.eval o).run P w=.ok (.defer (Df.at (.call g (first.toList++as) cap.toList))) w:=by
        have e1:first++as.toArray=(first.toList++as).toArray:=by apply Array.ext';simp
        simp only[execOp,ho,resolve,hc,hs.aZ hf,fR hs has,Deferred.ofValue,Sem.run_bind,Sem.run_pure,Result.andThen_ok,Df.at,e1]
       unfold Oper.wpIn;refine⟨fun _ _=>trivial,?_⟩;rw[show(FW none).round=none from rfl,Oper.semAt_none,hr,Oper.uponIn_defer];exact iG hT iD hK r (.call g (first.toList++as) cap.toList::ds) _ _ _ _ _ _ ((hs.CG (Df.at (.call g (first.toList++as) cap.toList))).put (d:=o.dst) (x:=.v undef) (v:=undef) rfl) hx
      ·exact hx.elim
     ·exact hx.elim
    ·exact hx.elim
   ·split at hx
    ·obtain⟨sv,nb,h1,h2⟩:=mY hx;obtain⟨v,w',lZ,h3,h4⟩:=sQ (hT ds) hs (h2 (fun x y=>x=sv/\y=nb) ⟨rfl,rfl⟩);refine nV h3 ?_;exact iG hT iD hK r _ _ _ _ _ _ _ h4 h1
    ·refine DQ (hT ds) hs (Lc:=L) (fun _ _ q=>q) hx (iD ds) fun sv v uz L' h' w' h1 h2 h3=>?_;have:uz=L':=by
      rcases h3 with ⟨e1,e2⟩ | ⟨s,c,x,y,-,-,e1,e2⟩
      ·rw[e1,e2]
      ·rw[e1,e2]
     subst this;exact iG hT iD hK r _ _ _ _ _ _ _ h2 h1
  ·rw[if_neg (by simp[hw])];refine⟨fun _ _=>trivial,?_⟩;exact iG hT iD hK r _ _ _ _ _ _ _ (hs.put (x:=.v undef) (v:=undef) rfl) hx
theorem xT:∀ {env:Env} {t:Nat} {x:SV},(jb env)[t]? =some x->x=.u\/(env[t]? =some x/\∀s o,x≠.loc s o)
 | [],t,x,h=>by simp[jb]at h
 |y::r,0,x,h=>by
  cases y with
  |loc s o=>simp[jb]at h;exact .inl h.symm
  |v z=>simp[jb]at h;subst h;exact .inr ⟨by simp,fun _ _ e=>by cases e⟩
  |u=>simp[jb]at h;exact .inl h.symm
 |y::r,t+1,x,h=>by
  have h':(jb r)[t]? =some x:=by cases y<;>simpa[jb]using h
  rcases xT h' with h1| ⟨h1,h2⟩
  ·exact .inl h1
  ·exact .inr ⟨by simpa using h1,h2⟩
theorem xS:∀(env:Env),(jb env).length=env.length
 | []=>rfl
 |y::r=>by cases y<;>simp[jb,xS r]
theorem Bf{β:Nat->Nat}:∀(ps:List Nat) (vs:List Value) (env:Env) (tmps:Array Value),tmps.size=env.length->(∀t x,env[t]? =some x->mP β [] x (tmps.getD t undef))->
 ((ps.zip vs).foldl (fun t (p,v)=>t.setIfInBounds p v) tmps).size=(tB env ps vs).length/\∀t x,(tB env ps vs)[t]? =some x->mP β [] x (((ps.zip vs).foldl (fun t (p,v)=>t.setIfInBounds p v) tmps).getD t undef)
 | [],vs,env,tmps,h1,h2=>by simp[tB,h1];simpa using h2
 |p::ps,[],env,tmps,h1,h2=>by simp[tB,h1];simpa using h2
 |p::ps,v::vs,env,tmps,h1,h2=>by
  simp only[List.zip_cons_cons,List.foldl_cons,tB];refine Bf ps vs _ _ (by simp[h1]) (fun t x hx=>?_);rw[List.getElem?_set]at hx;split at hx
  ·rename_i e;subst e;split at hx
   ·rename_i aK;cases hx;show _=_;have Af:p<tmps.size:=by rw[h1];exact aK
    rw[Array.getD_eq_getD_getElem?,Array.getElem?_setIfInBounds_self_of_lt Af];rfl
   ·cases hx
  ·rename_i e;have:=h2 t x hx;rw[Array.getD_eq_getD_getElem?,Array.getElem?_setIfInBounds_ne (by omega),<-Array.getD_eq_getD_getElem?];exact this
theorem aY.put{h:ad}{w:World}(ha:uc h w){l:Nat}{o o':Obj}(hl:h l=some o):aY h w (bp h l o') (w.putObj l o'):=by have hw:=ha _ _ hl;have aK:l<w.heap.size:=(Array.getElem?_eq_some_iff.1 hw).1;exact aY.set ha hl (World.putObj_heap_same aK) (fun b hb=>World.putObj_heap_other hb) World.putObj_size ⟨rfl,rfl,rfl⟩
theorem Js(hT:dU P T)(rF:∀c s h,¬T.kp c s h){l:Nat}{r:Loop}{ua body:Code}(hoa:dw T ua=true)(Zz:dw T body=true)(hra:r.assign=ua)(Fk:r.body=body)(fO:r.state=.ready)(hpe:r.pending=none)
 (nU:(jb env).length=r.tmps.size) (UI:∀t x,(jb env)[t]? =some x->mP (fun _=>0) [] x (r.tmps.getD t undef))
 {vs:List Value} {hh:ad} {k:ad->Prop} (hv:vs.length=r.params.size) (hl:hh l=some (.loop r))
 (hx:Dn A T (fun _=>P) ua body (jb env) r.params.toList l (.loop r) (.loop { r with state:=.busy }) vs k hh):Qj (fun _=>P) l vs hh (fun v h'=>v=.bool true/\k h'):=by
 refine⟨fun w hw=>⟨_,_,_,_,run_yield (hw _ _ hl) (by simpa using hv),fun n=>?_⟩⟩;refine roundIn_of_wpIn trivial ?_;have hz:(r.params.zip vs.toArray).foldl (fun tmps (t,a)=>tmps.setIfInBounds t a) r.tmps=(r.params.toList.zip vs).foldl (fun t (p,v)=>t.setIfInBounds p v) r.tmps:=by rw[<-Array.foldl_toList];simp
 rw[hz,hra,Fk];obtain⟨fh,Ij⟩:=Bf (β:=fun _=>0) r.params.toList vs (jb env) r.tmps nU.symm UI;have hs:cC [] hh w (fun _=>0) (tB (jb env) r.params.toList vs) [] hh { tmps:=(r.params.toList.zip vs).foldl (fun t (p,v)=>t.setIfInBounds p v) r.tmps,defers:=[] } w:=
  ⟨aY.refl hw,fun s c hc=>(by cases hc),fun s s' c c' hc=>(by cases hc),fh,Ij,rfl⟩
 refine fT (A:=A) (ro:=some l) hT ua hoa hs hx (ki.none rF) fun e ig L1 h1 β1 a1 w1 g1 g2=>?_;cases e with
 |normal=>
  obtain⟨k1,k2⟩:=g1;have tL:=g2.after.wU _ _ k1;refine⟨_,run_beginRound tL fO,?_⟩;have g3:=g2.step (aY.put g2.after.wU (o':=.loop { r with state:=.busy }) k1);refine fT (A:=A) (ro:=some l) hT body Zz g3 k2 (ki.none rF) fun e env2 L2 h2 β2 a2 w2 q1 q2=>?_;cases e with
  |normal=>
   obtain⟨k3,k4⟩:=q1;have pN:=q2.after.wU _ _ k3;refine⟨_,_,run_endRound none pN,?_⟩;have g4:=q2.step (aY.put q2.after.wU (o':=.loop r) k3);have er:({ r with state:=if(none:Option Code).isNone=true then LoopState.ready else LoopState.done,pending:=none }:Loop)=r:=by obtain⟨s,p,f,t,ps,a,b,d⟩:=r;simp only at fO hpe;subst fO hpe;rfl
   refine⟨_,bp h2 l (.loop r),rfl,⟨rfl,k4⟩,?_⟩;have e2:({ ({ r with state:=.busy }:Loop)with state:=if(none:Option Code).isNone=true then LoopState.ready else LoopState.done,pending:=none }:Loop)=r:=er;have:=g4.after;rw[e2];exact this
  |exit id=>exact q1.elim
  |ret=>exact q1.elim
 |exit id=>exact g1.elim
 |ret=>exact g1.elim
theorem uf(hT:dU P T)(rF:∀c s h,¬T.kp c s h){ds:List Df}{g:Operand}{ps:Array Nat}{ua body:Code}{gf:FuncId}{lb:Array Value}{Q:Exit->Act->World->Prop}{K:Nat->ad->Prop}
 (hs:cC (ds.map Df.at) h0 w0 β env L h a w) (hoa:dw T ua=true) (Zz:dw T body=true) (hg:kE env g=.v (.func (.func gf) #[] lb)) (hgf:T.fn gf=true)
 (hx:RgX (fun _=>P) gf lb.toList ps.size (Dn A T (fun _=>P) ua body (jb env) ps.toList) h K)
 (hK:∀m h' a' w',K m h'->cC ((Df.mark m::ds).map Df.at) h0 w0 β env L h' a' w'->Q .normal a' w'):(Code.rangeFunc g ps ua body).wp P Q a w:=by
 refine(wpIn_wide (n:=0)).1 (wpIn_rangeFunc fun fn _=>?_);refine⟨w.heap.size+1,_,(w.alloc (.deferred (some []))).alloc (.loop { state:=.ready,pending:=none,fn,tmps:=a.tmps,params:=ps,assign:=ua,body,defers:=w.heap.size }),{ target:=.fn (.func gf) lb,args:= #[.func (.yield (w.heap.size+1)) #[] #[]] },(w.alloc (.deferred (some []))).alloc (.loop { state:=.ready,pending:=none,fn,tmps:=a.tmps,params:=ps,assign:=ua,body,defers:=w.heap.size }),gf,#[.func (.yield (w.heap.size+1)) #[] #[]]++lb,(w.alloc (.deferred (some []))).alloc (.loop { state:=.ready,pending:=none,fn,tmps:=a.tmps,params:=ps,assign:=ua,body,defers:=w.heap.size }),run_enterLoop_outer fn a.tmps ps ua body,?_,fun _ _=>trivial,?_,fun hd=>by simp[Fence.wide]at hd,?_⟩
 ·simp only[resolve,hs.aZ hg,Deferred.ofValue,Sem.run_pure];simp[Act.eval]
 ·simp only[invoke,kC hT hgf]
 ·generalize rz:({ state:=.ready,pending:=none,fn,tmps:=a.tmps,params:=ps,assign:=ua,body,defers:=w.heap.size }:Loop)=r;have sY:=hs.after.wU;have a1:aY h w (bp h w.heap.size (.deferred (some []))) (w.alloc (.deferred (some []))):=aY.new sY _;have kf:(w.alloc (.deferred (some []))).heap.size=w.heap.size+1:=World.size_alloc w _;have a2:=aY.new a1.wU (.loop r);rw[kf]at a2;have a12:=a1.trans a2;have ma:h w.heap.size=none:=sY.km (Nat.le_refl _);have nN:h (w.heap.size+1)=none:=sY.km (by omega);have hc:=(hx.out w.heap.size (w.heap.size+1) (.loop r) (.loop { r with state:=.busy }) ma nN (by omega) (fun _ _ _ e=>by cases e) (fun _ _ _ e=>by cases e) (fun vs hh k hv hl hr=>by
   refine Js (A:=A) (env:=env) hT rF hoa Zz (r:=r) (by rw[<-rz]) (by rw[<-rz]) (by rw[<-rz]) (by rw[<-rz]) ?_ ?_ (by rw[hv,<-rz]) hl ?_
   ·rw[xS,<-hs.size,<-rz]
   ·intro t x hx;rcases xT hx with rfl| ⟨h1,h2⟩
    ·trivial
    ·have:=hs.slot t x h1;rw[<-rz];cases x with
     |v z=>exact this
     |loc s o=>exact absurd rfl (h2 s o)
     |u=>trivial
   ·have hp:ps=r.params:=by rw[<-rz]
    rw[hp]at hr;exact hr)).out _ a12.wU
  have oP:=callsIn_wide (n:=0-1).2 hc;have e1:(Value.func (.yield (w.heap.size+1)) #[] #[]::lb.toList).toArray= #[.func (.yield (w.heap.size+1)) #[] #[]]++lb:=by apply Array.ext';simp
  rw[e1]at oP;refine CallsIn.mono oP fun e w3 ⟨v,h3,g1,⟨g2,g3⟩,g4⟩=>?_;subst g1;have UA:=g4.wU _ _ g2;refine⟨none,w3.putObj (w.heap.size+1) (.loop { r with state:=.exhausted }),?_,?_⟩
  ·have:=run_endLoop (P:=P) UA (by rw[<-rz];simp);rw[this,<-rz]
  ·refine hK w.heap.size _ _ _ (g3 (.loop { r with state:=.exhausted }) (fun _ _ _ e=>by cases e)) ?_;have s1:=hs.step ((a12.trans g4).trans (aY.put g4.wU (o':=.loop { r with state:=.exhausted }) g2));exact s1.CG (Df.at (.mark w.heap.size))
def Bs:Code->Bool
 | .rangeFunc .. =>false
 | .seq a b| .cond _ a b=>Bs a&&Bs b
 | .block _ c=>Bs c
 |_=>true
theorem x7(hT:∀ds,dU P (TT ds)):∀(c:Code),(∀ds,dw (TT ds) c=true)->(Bs c=true\/∀ds c s h,¬(TT ds).kp c s h)->∀ {K:Ex->List Df->Env->Loc->ad->Prop} {Q:Exit->Act->World->Prop} {ds:List Df} {env:Env} {L:Loc} {h:ad} {β:Nat->Nat} {a:Act} {w:World},
 cC (ds.map Df.at) h0 w0 β env L h a w->H6 A TT (fun _=>P) c K ds env L h->Mu TT h0 w0 Q->
 (∀e FG bX L' h' lZ a' w',K e FG bX L' h'->cC (FG.map Df.at) h0 w0 lZ bX L' h' a' w'->Q (LL e) a' w')->c.wp P Q a w:=by
 intro c;induction c with
 |region id ops draw=>
  intro ho D2 K Q ds env L h β a w hs hx iD hK;cases draw with
  |false=>exact wpIn_wide (n:=0).1 (wpIn_region_list (iG hT iD (fun FG bX L' h' lZ a' w' h1 h2=>hK .normal _ _ _ _ _ _ _ h1 h2) ops.toList _ _ _ _ _ _ _ hs hx))
  |true=>exact wpIn_wide (n:=0).1 (fT (A:=A) (ro:=none) (n:=0) (hT ds) _ (ho ds) hs hx (iD ds) (fun e bX L' h' lZ a' w' h1 h2=>hK e _ _ _ _ _ _ _ h1 h2))
 |seq c d Ul Uk=>
  intro ho D2 K Q ds env L h β a w hs hx iD hK;simp only[dw,Bool.and_eq_true]at ho;simp only[Bs,Bool.and_eq_true]at D2;unfold H6 at hx;refine wp_seq (Ul (fun ds=>(ho ds).1) (D2.imp And.left id) hs hx (fun ds c β env L h a w q1 q2=>iD ds c β env L h a w q1 q2) fun e FG bX L' h' lZ a' w' h1 h2=>?_);cases e with
  |normal=>exact Uk (fun ds=>(ho ds).2) (D2.imp And.right id) h2 h1 iD hK
  |exit id=>exact hK (.exit id) _ _ _ _ _ _ _ h1 h2
  |ret=>exact hK .ret _ _ _ _ _ _ _ h1 h2
 |cond x c d Ul Uk=>
  intro ho D2 K Q ds env L h β a w hs hx iD hK;simp only[dw,Bool.and_eq_true]at ho;simp only[Bs,Bool.and_eq_true]at D2;unfold H6 at hx;split at hx
  ·rename_i t ht;refine wp_cond (hs.aZ ht) ?_;rcases jy hx with ⟨rfl,hx⟩ | ⟨rfl,hx⟩
   ·exact Ul (fun ds=>(ho ds).1) (D2.imp And.left id) hs hx iD hK
   ·exact Uk (fun ds=>(ho ds).2) (D2.imp And.right id) hs hx iD hK
  ·exact hx.elim
 |block id c ih=>
  intro ho D2 K Q ds env L h β a w hs hx iD hK;unfold H6 at hx;refine wp_block (ih ho D2 hs hx (fun ds c β env L h a w q1 q2=>iD ds c β env L h a w q1 q2) fun e FG bX L' h' lZ a' w' h1 h2=>?_);cases e with
  |normal=>exact hK .normal _ _ _ _ _ _ _ h1 h2
  |exit j=>
   simp only[LL,Exit.inBlock]at h1 |-;split at h1
   ·rename_i e;rw[if_pos e];exact hK .normal _ _ _ _ _ _ _ h1 h2
   ·rename_i e;rw[if_neg e];exact hK (.exit j) _ _ _ _ _ _ _ h1 h2
  |ret=>exact hK .ret _ _ _ _ _ _ _ h1 h2
 |rangeFunc g ps ua body=>
  intro ho D2 K Q ds env L h β a w hs hx iD hK;simp only[dw,Bool.and_eq_true]at ho;have rF:∀ds c s h,¬(TT ds).kp c s h:=D2.resolve_left (by simp[Bs]);unfold H6 at hx;split at hx
  ·rename_i gf first lb hg
   split at hx
   ·rename_i Io hgf;have Io:first= #[]:=by have:first.isEmpty=true:=Io;simpa using this
    subst Io;exact uf (hT ds) (rF ds) hs (ho ds).1 (ho ds).2 hg hgf hx (fun m h' a' w' h1 h2=>hK .normal _ _ _ _ _ _ _ h1 h2)
   ·exact hx.elim
  ·exact hx.elim
 |_=>exact fun ho D2 {K Q ds env L h β a w} hs hx iD hK=>wpIn_wide (n:=0).1 (fT (A:=A) (ro:=none) (n:=0) (hT ds) _ (ho ds) hs hx (iD ds) (fun e bX L' h' lZ a' w' h1 h2=>hK e _ _ _ _ _ _ _ h1 h2))
theorem gY{f:FuncId}{fn:Func}{args:List Value}{h:ad}{w:World}(hw:uc h w):
 cC [] h w (fun _=>0) (args.map SV.v++List.replicate (fn.ntmps-args.length) (.v undef)) [] h { tmps:=args.toArray++Array.replicate (fn.ntmps-args.toArray.size) undef,defers:=[] } w:=by
 refine⟨aY.refl hw,fun s c hc=>(by cases hc),fun s s' c c' hc=>(by cases hc),by simp,fun t x hx=>?_,rfl⟩;rw[List.getElem?_append]at hx;split at hx
 ·rename_i aK;have Af:t<args.length:=by simpa using aK
  rw[List.getElem?_map,List.getElem?_eq_getElem Af]at hx;simp at hx;subst hx;show _=_;rw[Array.getD_eq_getD_getElem?,Array.getElem?_append_left (by simpa using Af)];simp[Af]
 ·rename_i iR;have Vk:args.length<=t:=by simpa using iR
  rw[List.getElem?_replicate]at hx;split at hx
  ·rename_i aK;cases hx;show _=_;rw[Array.getD_eq_getD_getElem?,Array.getElem?_append_right (by simpa using Vk),Array.getElem?_replicate];simp at aK |-;rw[if_pos aK];rfl
  ·cases hx
theorem pd(hT:dU P T){ds:List Deferred}(hs:cC ds h0 w0 β env L h a w){fn:Func}{R:Value->ad->Prop}(hr:mw T env L h fn.results.toList (fun l=>jH l (fun v=>R v h))):
 ∃v,(results fn a.tmps).run P w=.ok v w/\R v h/\aY h0 w0 h w:=by
 obtain⟨l,h3,h4⟩:=vr hT hs hr;have h5:(results fn a.tmps).run P w=.ok (if h:l.toArray.size=1 then l.toArray[0]else .tuple l.toArray) w:=by rw[vq,Array.mapM_eq_mapM_toList];rw[Sem.run_bind,Sem.run_map];rw[h3];rfl
 refine⟨_,h5,?_,hs.after⟩;unfold jH at h4;split at h4
 ·exact h4
 ·rename_i bW;have:¬l.toArray.size=1:=fun hl=>by
   match l,hl with
   | [x],_=>exact bW x rfl
  rw[dif_neg this];exact h4
theorem pk(A:Ar)[aV A](hT:dU P T){f:FuncId}{fn:Func}{c:Code}(hf:P.funcs[f]? =some fn)(hb:fn.body=some c)(ho:dw T c=true){args:List Value}{h:ad}{R:Value->ad->Prop}
 (hx:Sp A T (fun _=>P) c fn.ntmps fn.results.toList args h R) (rF:∀c s h,¬T.kp c s h:=by exact fun _ _ _ hc=>hc):H4 (fun _=>P) f args h R:=by
 refine⟨fun w hw n=>?_⟩;refine(callsDIn_of_wp (R:=fun e w'=>∃v h',e=.returned v/\R v h'/\aY h w h' w') hf hb trivial ?_).mono (fun e u' w' x=>x);refine fT (A:=A) (ro:=none) hT c ho (gY (f:=f) (fn:=fn) hw) hx (ki.none rF) fun e bX L' h' lZ a' w' h1 h2=>?_;have fin:mw T bX L' h' fn.results.toList (fun l=>jH l (fun v=>R v h'))->a'.defers=[]/\∃v,(results fn a'.tmps).run P w'=.ok v w'/\∃v1 h1,Ending.returned v=.returned v1/\R v1 h1/\aY h w h1 w':=fun hr=>by
  obtain⟨v,h3,h4,h5⟩:=pd hT h2 hr;exact⟨h2.defers,v,h3,v,h',rfl,h4,h5⟩
 cases e with
 |normal=>exact fin h1
 |ret=>exact fin h1
 |exit id=>exact h1.elim
theorem mT(hT:dU P T){fn:Func}{R:Value->ad->Prop}(ds0:List Deferred):∀(ds:List Df) {h:ad} {a:Act} {w:World},cC ds0 h0 w0 β env L h a w->
 zD T (fun _=>P) ds (fun h=>mw T env L h fn.results.toList (fun l=>jH l (fun v=>R v h))) h->
 LeavesInM Fence.wide 0 P fn a.tmps (fun e w'=>∃v h',e=.returned v/\R v h'/\aY h0 w0 h' w') (ds.map Df.at) .returning w
 | [],h,a,w,hs,hx=>by
  obtain⟨v,h3,h4,h5⟩:=pd hT hs hx;exact⟨v,h3,v,h,rfl,h4,h5⟩
 | .call g args cap::r,h,a,w,hs,hx=>by
  unfold zD at hx;split at hx
  ·rename_i hg;have hi:(invoke (.fn (.func g) cap.toArray) args.toArray).run P w=.ok (.enter g (args++cap).toArray) w:=by
    have e1:args.toArray++cap.toArray=(args++cap).toArray:=by simp
    simp only[invoke,e1,kC hT hg]
   refine⟨by simp,.inr ⟨fun hd=>by simp[Fence.wide]at hd,_,_,_,_,rfl,hi,fun _ _=>trivial,(hx.out w hs.after.wU _).mono fun e u' w' ⟨hu,v,h',he,hR,ha⟩=>?_⟩⟩;subst hu;subst he;have:=mT hT ds0 r (hs.step ha) hR;exact this
  ·exact hx.elim
 | .mark m::r,h,a,w,hs,hx=>by
  unfold zD at hx;obtain⟨h1,h2⟩:=hx;have hw:=hs.after.wU _ _ h1;refine⟨by simp,.inl ⟨m,_,rfl,run_takeDeferred hw,?_⟩⟩;exact mT hT ds0 r (hs.step (aY.put hs.after.wU h1)) h2
theorem ju(A:Ar)[aV A](hT:dU P T){f:FuncId}{fn:Func}{c:Code}(hf:P.funcs[f]? =some fn)(hb:fn.body=some c)(ho:dw T c=true){args:List Value}{h:ad}{R:Value->ad->Prop}
 (hx:X7 A T (fun _=>P) c fn.ntmps fn.results.toList args h R) (rF:∀c s h,¬T.kp c s h:=by exact fun _ _ _ hc=>hc):IC (fun _=>P) f args h R:=by
 refine⟨fun w hw=>?_⟩;refine callsIn_wide.1 (callsIn_of_wp_marks (F:=Fence.wide) (n:=0) hf hb trivial ((wpIn_wide (n:=0)).2 ?_));refine x7 (A:=A) (TT:=fun _=>T) (fun _=>hT) c (fun _=>ho) (.inr fun _=>rF) (ds:=[]) (gY (f:=f) (fn:=fn) hw) hx (fun _=>ki.none rF) fun e FG bX L' h' lZ a' w' h1 h2=>?_;have fin:zD T (fun _=>P) FG (fun h=>mw T bX L' h fn.results.toList (fun l=>jH l (fun v=>R v h))) h'->LeavesInM Fence.wide 0 P fn a'.tmps (fun e w'=>∃v h',e=.returned v/\R v h'/\aY h w h' w') a'.defers .returning w':=fun hr=>by
  have:=mT hT _ FG h2 hr;rw[h2.defers];exact this
 cases e with
 |normal=>exact fin h1
 |ret=>exact fin h1
 |exit id=>exact h1.elim
variable {ro:Option Nat}{n:Nat}
variable {P:Program}{T:aU}{A:Ar}[aV A]
variable {h0:ad}{w0:World}{β:Nat->Nat}{h:ad}{a:Act}{w:World}{env:Env}{L:Loc}{ds:List Deferred}
theorem iz(A:Ar)[aV A](hT:dU P T){f:FuncId}{fn:Func}{c:Code}(hf:P.funcs[f]? =some fn)(hb:fn.body=some c)(ho:dw T c=true){args:List Value}{h:ad}{R:Value->ad->Prop}{K:List PanicEntry->ad->Prop}
 (rF:∀c s h',T.kp c s h'->K c h') (hx:Sp A T (fun _=>P) c fn.ntmps fn.results.toList args h R):CK (fun _=>P) f args h R K:=by
 refine⟨fun w hw=>?_⟩;refine calls_of_wp hf hb (wpIn_wide (n:=0).1 ?_);refine fT (A:=A) (ro:=none) (n:=0) hT c ho (gY (f:=f) (fn:=fn) hw) hx (fun c β env L h1 a1 w1 q1 q2=>⟨q2.defers,.inr ⟨c,h1,rfl,rF _ _ _ q1,q2.after⟩⟩) fun e bX L' h' lZ a' w' h1 h2=>?_;have fin:mw T bX L' h' fn.results.toList (fun l=>jH l (fun v=>R v h'))->a'.defers=[]/\∃v,(results fn a'.tmps).run P w'=.ok v w'/\
  ((∃v1 h1,Ending.returned v=.returned v1/\R v1 h1/\aY h w h1 w')\/(∃c h1,Ending.returned v=.panicked c/\K c h1/\aY h w h1 w')):=fun hr=>by
  obtain⟨v,h3,h4,h5⟩:=pd hT h2 hr;exact⟨h2.defers,v,h3,.inl ⟨v,h',rfl,h4,h5⟩⟩
 cases e with
 |normal=>exact fin h1
 |ret=>exact fin h1
 |exit id=>exact h1.elim
structure FnRX(p:Unit->Program)(f:FuncId)(args:List Value)(v:Value)(h:ad)(R:ad->Prop):Prop where
 out:∀w,uc h w->∀n,CallsDIn Fence.wide n (p ()) f args.toArray (.panicking [{ v,recovered:=false }]) w fun e u' w'=>u'=.panicking [{ v,recovered:=true }]/\∃x h',e=.returned x/\R h'/\aY h w h' w'
def Bj(T:aU)(h:ad):List ResultVar->List SV->(List Value->Prop)->Prop
 | [],_,k=>k []
 |r::rs,ss,k=>match r with
  | .cell _ t=>match ss with
   |s::ss=>match s with
    | .v (.pointer (some x))=>match (T.ty t).kd.isNone with
     |true=>False
     |false=>tq h x (T.ty t).size (fun cs=>nK (T.ty t).agg cs (fun v=>Bj T h rs ss (fun l=>k (v::l))))
    |_=>False
   | []=>False
  | .tmp _=>False
def GA:List ResultVar->List Nat
 | []=>[]
 | .cell a _::r=>a::GA r
 | .tmp t::r=>t::GA r
theorem vt:∀ {rs:List ResultVar} {k:List Value->Prop},Bj T h rs ((GA rs).map fun t=>kE env (.tmp t)) k->mw T env L h rs k
 | [],k,hr=>hr
 | .tmp _::rs,k,hr=>by unfold Bj at hr;exact hr.elim
 | .cell q t::rs,k,hr=>by
  unfold Bj at hr;simp only[GA,List.map_cons,kE]at hr;split at hr
  ·rename_i x hx;split at hr
   ·exact hr.elim
   ·rename_i hn;obtain⟨cs,h1,h2⟩:=(show tq _ _ _ _ from hr).out;have h3:tq h x (T.ty t).size fun cs=>nK (T.ty t).agg cs fun x=>mw T env L h rs fun xs=>k (x::xs):=⟨cs,h1,jl h2 fun v hv=>vt hv⟩;unfold mw N0;cases hk:(T.ty t).kd with
    |none=>rw[hk]at hn;cases hn
    |_=>simp only[hk,hx];exact h3
  ·exact hr.elim
def SE(T:aU)(p:Unit->Program)(rs:List ResultVar)(R:Value->ad->Prop)(ds:List Df)(c:List PanicEntry)(s:List SV)(h:ad):Prop:=
 match ds with
 | [.call g args cap]=>match T.fn g with
  |true=>∃x,c=[{ v:=x,recovered:=false }]/\FnRX p g (args++cap) x h (fun h'=>Bj T h' rs s (fun l=>jH l (fun v=>R v h')))
  |false=>False
 |_=>False
def aU.Qz(T:aU)(p:Unit->Program)(rs:List ResultVar)(R:Value->ad->Prop)(ds:List Df):aU:={ T with rs:=GA rs,kp:=SE T p rs R ds }
def X6(A:Ar)(T:aU)(p:Unit->Program)(c:Code)(ntmps:Nat)(rs:List ResultVar)(args:List Value)(h:ad)(R:Value->ad->Prop):Prop:=
 H6 A (T.Qz p rs R) p c (fun e ds env L h=>match e with
  | .exit _=>False
  |_=>zD T p ds (fun h=>mw T env L h rs (fun l=>jH l (fun v=>R v h))) h) [] (args.map SV.v++List.replicate (ntmps-args.length) (.v undef)) [] h
theorem Hw(A:Ar)[aV A](hT:dU P T){f:FuncId}{fn:Func}{c:Code}(hf:P.funcs[f]? =some fn)(hb:fn.body=some c)(ho:∀q k,dw { T with rs:=q,kp:=k } c=true)(D2:Bs c=true){args:List Value}{h:ad}{R:Value->ad->Prop}
 (hx:X6 A T (fun _=>P) c fn.ntmps fn.results.toList args h R):IC (fun _=>P) f args h R:=by
 refine⟨fun w hw=>?_⟩;refine callsIn_wide.1 (callsIn_of_wp_marks (F:=Fence.wide) (n:=0) hf hb trivial ((wpIn_wide (n:=0)).2 ?_));refine x7 (A:=A) (TT:=T.Qz (fun _=>P) fn.results.toList R) (fun _=>⟨hT.ty,hT.fn,hT.mixed⟩) c (fun ds=>ho _ _) (.inl D2) (ds:=[]) (gY (f:=f) (fn:=fn) hw) hx ?_ fun e FG bX L' h' lZ a' w' h1 h2=>?_
 ·intro ds c' β env L h1 a1 w1 q1 q2;change SE T (fun _=>P) fn.results.toList R ds c' ((GA fn.results.toList).map fun t=>kE env (.tmp t)) h1 at q1;unfold SE at q1;split at q1
  ·rename_i g args cap;split at q1
   ·rename_i hg;obtain⟨x,rfl,hr⟩:=q1;have hi:(invoke (.fn (.func g) cap.toArray) args.toArray).run P w1=.ok (.enter g (args++cap).toArray) w1:=by
     have e1:args.toArray++cap.toArray=(args++cap).toArray:=by simp
     simp only[invoke,e1,kC hT hg]
    show LeavesInM Fence.wide 0 P fn a1.tmps _ a1.defers (.panicking _) w1;rw[q2.defers];refine⟨by simp,.inr ⟨fun hd=>by simp[Fence.wide]at hd,_,_,_,_,rfl,hi,fun _ _=>trivial,(hr.out w1 q2.after.wU _).mono fun e u' w' ⟨hu,v,h',he,hR,ha⟩=>?_⟩⟩;subst hu;subst he;obtain⟨v,h3,h4,h5⟩:=pd hT (q2.step ha) (vt hR);exact⟨v,h3,v,h',rfl,h4,h5⟩
   ·exact q1.elim
  ·exact q1.elim
 ·have fin:zD T (fun _=>P) FG (fun h=>mw T bX L' h fn.results.toList (fun l=>jH l (fun v=>R v h))) h'->LeavesInM Fence.wide 0 P fn a'.tmps (fun e w'=>∃v h',e=.returned v/\R v h'/\aY h w h' w') a'.defers .returning w':=fun hr=>by
   have:=mT hT _ FG h2 hr;rw[h2.defers];exact this
  cases e with
  |normal=>exact fin h1
  |ret=>exact fin h1
  |exit id=>exact h1.elim
end Go.Sx
