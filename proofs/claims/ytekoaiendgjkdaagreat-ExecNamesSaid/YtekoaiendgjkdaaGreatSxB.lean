import Derived.Test.YtekoaiendgjkdaaGreatSxA
import Derived.Tactics
import Derived.Deep.LoopGhost
import Derived.Defers
import Derived.RangeFuncRecord
import Derived.RecoverIn
set_option linter.unusedVariables false
set_option linter.unusedSimpArgs false
set_option linter.unusedSectionVars false
namespace Go.Sx
variable {ro:Option Nat}{n:Nat}
variable {P:Program}{T:aS}{A:Ar}[aX A]
variable {ds:List Deferred}{h0:ad}{w0:World}{β:Nat->Nat}{env:Env}{L:Loc}{h:ad}{a:Act}{w:World}
theorem Nu{ops:List Oper}{env:Env}{o:Oper}{y n y' n':Unit->Prop}(hg:gd ops env o y n)(hy:y ()->y' ())(hn:n ()->n' ()):gd ops env o y' n':=by
 unfold gd at *;repeat' split at hg
 all_goals first
  |exact hy hg
  |exact hn hg
  |exact hg.elim
  | (rcases jc hg with ⟨rfl,hg⟩ | ⟨rfl,hg⟩<;>first|exact hy hg|exact hn hg)
theorem nV(hs:bZ ds h0 w0 β env L h a w){ops:Array Oper}{o:Oper}{y n:Unit->Prop}(hg:gd ops.toList env o y n):
 (Region.wanted o (yielded ops a.tmps)=true/\y ())\/(Region.wanted o (yielded ops a.tmps)=false/\n ()):=by
 unfold gd at hg;split at hg
 ·rename_i DN;exact .inl ⟨by simp[Region.wanted,DN],hg⟩
 ·rename_i j want KU;split at hg
  ·rename_i oj Cs;have Cr:ops[j]? =some oj:=by simpa using Cs
   split at hg
   ·rename_i d hd;split at hg
    ·rename_i b hb;have he:=getD_some hb (by simp);have oK:=hs.slot d _ he;have aI:d<a.tmps.size:=by rw[hs.size];exact(List.getElem?_eq_some_iff.1 he).1
     have oK:a.tmps.getD d undef=.bool b:=oK;have hv:a.tmps[d]? =some (.bool b):=by rw[Array.getD_eq_getD_getElem?]at oK;rw[Array.getElem?_eq_getElem aI]at oK |-;simpa using oK
     have hw:Region.wanted o (yielded ops a.tmps)=(b==want):=by simp[Region.wanted,KU,yielded,Cr,hd,hv]
     rw[hw];split at hg
     ·rcases jc hg with ⟨rfl,hg⟩ | ⟨rfl,hg⟩
      ·exact .inl ⟨rfl,hg⟩
      ·exact .inr ⟨rfl,hg⟩
     ·rcases jc hg with ⟨rfl,hg⟩ | ⟨rfl,hg⟩
      ·exact .inr ⟨rfl,hg⟩
      ·exact .inl ⟨rfl,hg⟩
    ·rename_i vs hb;have he:=getD_some hb (by simp);have oK:=hs.slot d _ he;have aI:d<a.tmps.size:=by rw[hs.size];exact(List.getElem?_eq_some_iff.1 he).1
     have oK:a.tmps.getD d undef=.tuple vs:=oK;have hv:a.tmps[d]? =some (.tuple vs):=by rw[Array.getD_eq_getD_getElem?]at oK;rw[Array.getElem?_eq_getElem aI]at oK |-;simpa using oK
     exact .inr ⟨by simp[Region.wanted,KU,yielded,Cr,hd,hv],hg⟩
    ·exact hg.elim
   ·rename_i hd;exact .inr ⟨by simp[Region.wanted,KU,yielded,Cr,hd],hg⟩
  ·rename_i Cs;have Cr:ops[j]? =none:=by simpa using Cs
   exact .inr ⟨by simp[Region.wanted,KU,yielded,Cr],hg⟩
theorem kY(hT:dE P T){ops:Array Oper}{K:Env->Loc->ad->Prop}{Q:Exit->Act->World->Prop}
 (gT:jY T ds h0 w0 Q) (hK:∀bR L' h' lH a' w',K bR L' h'->bZ ds h0 w0 lH bR L' h' a' w'->Q .normal a' w'):
 ∀(l:List Oper) (env:Env) (L:Loc) (h:ad) (β:Nat->Nat) (a:Act) (w:World),bZ ds h0 w0 β env L h a w->
  xi A T (fun _=>P) ops.toList K l env L h->wpListIn (FW ro) n P ops Q l a w
 | [],env,L,h,β,a,w,hs,hx=>hK _ _ _ _ _ _ hx hs
 |o::r,env,L,h,β,a,w,hs,hx=>by
  unfold xi at hx;unfold wpListIn;rcases nV hs hx with ⟨hw,hx⟩ | ⟨hw,hx⟩
  ·rw[if_pos hw];split at hx
   ·obtain⟨sv,nb,h1,h2⟩:=mD hx;obtain⟨v,w',lH,h3,h4⟩:=sg hT hs (h2 (fun x y=>x=sv/\y=nb) ⟨rfl,rfl⟩);refine nj h3 ?_;exact kY hT gT hK r _ _ _ _ _ _ h4 h1
   ·refine Cl hT hs (Lc:=L) (fun _ _ q=>q) hx gT fun sv v tQ L' h' w' h1 h2 h3=>?_;have:tQ=L':=by
     rcases h3 with ⟨e1,e2⟩ | ⟨s,c,x,y,-,-,e1,e2⟩
     ·rw[e1,e2]
     ·rw[e1,e2]
    subst this;exact kY hT gT hK r _ _ _ _ _ _ h2 h1
  ·rw[if_neg (by simp[hw])];refine⟨fun _ _=>trivial,?_⟩;exact kY hT gT hK r _ _ _ _ _ _ (hs.put (x:=.v undef) (v:=undef) rfl) hx
def iU(o:Oper):Bool:=match o.op with
 | .load .. =>true
 |_=>false
def jt(o:Oper):Bool:=match o.op with
 | .alloc _| .box .. =>true
 |_=>false
def dk(o:Oper):Bool:=match o.op with
 | .assign _=>true
 |_=>false
theorem jL{p:Unit->Program}{o:Oper}{ρ Eh:Operand->SV}{L L':Loc}{h h':ad}{k:SV->Option (List Value)->Prop}(hk:eS A T p o ρ L h k)
 (dG:∀x∈o.op.operands.toList,Eh x=ρ x) (hL:iU o=true->∀x∈o.op.operands.toList,∀s off,ρ x=.loc s off->∀c,ij L s=some c->ij L' s=some c)
 (hb:jt o=true->∀d,o.dst=some d->ij L' d=none) (hh:iU o=true->h'=h):eS A T p o Eh L' h' k:=by
 unfold eS at hk |-;split at hk;case h_1 x ho=>simp only[ho]at dG |-;rw[dG x (by simp[Op.operands])];exact hk
 case h_2 c x y ho=>simp only[ho]at dG |-;rw[dG c (by simp[Op.operands]),dG x (by simp[Op.operands]),dG y (by simp[Op.operands])];exact hk
 case h_3 e ho=>
  have nh:=hb (by simp[jt,ho]);simp only[ho]at dG |-;split at hk
  ·exact hk.elim
  ·split at hk
   ·exact hk.elim
   ·rename_i d hd;split at hk
    ·simp only[nh d hd];exact hk
    ·exact hk.elim
 case h_4 e x ho=>
  have nh:=hb (by simp[jt,ho]);simp only[ho]at dG |-;rw[dG x (by simp[Op.operands])];split at hk
  ·exact hk.elim
  ·rename_i d hd;split at hk
   ·split at hk
    ·simp only[nh d hd];exact hk
    ·exact hk.elim
   ·exact hk.elim
 case h_5 t x ho=>
  have hL':=hL (by simp[iU,ho]);have hh':=hh (by simp[iU,ho]);subst hh';simp only[ho]at dG hL' |-;rw[dG x (by simp[Op.operands])];split at hk
  ·exact hk.elim
  ·split at hk
   ·rename_i s off hx;split at hk
    ·rename_i c hc;simp only[hL' x (by simp[Op.operands]) s off hx c hc];exact hk
    ·exact hk.elim
   ·exact hk
   ·exact hk.elim
 case h_6 x ho=>simp only[ho]at dG |-;rw[dG x (by simp[Op.operands])];exact hk
 case h_7 t x f ho=>simp only[ho]at dG |-;rw[dG x (by simp[Op.operands])];exact hk
 case h_8 t x i ho=>simp only[ho]at dG |-;rw[dG x (by simp[Op.operands]),dG i (by simp[Op.operands])];exact hk
 case h_9 t x i ho=>simp only[ho]at dG |-;rw[dG x (by simp[Op.operands]),dG i (by simp[Op.operands])];exact hk
 case h_10 t x f ho=>simp only[ho]at dG |-;rw[dG x (by simp[Op.operands])];exact hk
 case h_11 x i ho=>simp only[ho]at dG |-;rw[dG x (by simp[Op.operands])];exact hk
 case h_12 t parts ho=>
  simp only[ho]at dG |-;have:∀l:List (Nat×Operand),(∀q∈l,Eh q.2=ρ q.2)->jK Eh l=jK ρ l:=fun l=>by
   induction l with
   |nil=>intro _;rfl
   |cons q r ih=>intro hq;obtain⟨i,x⟩:=q;unfold jK;rw[hq (i,x) (by simp),ih (fun q hq'=>hq q (by simp[hq']))]
  rw[this parts.toList (fun q hq=>dG q.2 (by simp only[Op.operands,List.mem_map];exact⟨q,hq,rfl⟩))];exact hk
 case h_13 op t x y ty ho=>simp only[ho]at dG |-;rw[dG x (by simp[Op.operands]),dG y (by simp[Op.operands])];exact hk
 case h_14 op t x ho=>simp only[ho]at dG |-;rw[dG x (by simp[Op.operands])];exact hk
 case h_15 s d x ho=>simp only[ho]at dG |-;rw[dG x (by simp[Op.operands])];exact hk
 case h_16 t x ho=>simp only[ho]at dG |-;rw[dG x (by simp[Op.operands])];exact hk
 case h_17 fn f c ho=>
  simp only[ho]at dG |-;rw[List.map_congr_left (g:=ρ) (fun x hx=>dG x (by simp only[Op.operands,Array.toList_append,List.mem_append];exact .inl hx)),
   List.map_congr_left (l:=c.toList) (g:=ρ) (fun x hx=>dG x (by simp only[Op.operands,Array.toList_append,List.mem_append];exact .inr hx))]
  exact hk
 case h_18 t x lo hi mx ho=>
  simp only[ho]at dG |-;have hs:∀y:Option Operand,(∀z,y=some z->Eh z=ρ z)->LN Eh y=LN ρ y:=fun y hy=>by
   cases y with
   |none=>rfl
   |some z=>simp only[LN,hy z rfl]
  rw[hs lo (fun z hz=>dG z (by simp[Op.operands,hz])),hs hi (fun z hz=>dG z (by simp[Op.operands,hz])),hs mx (fun z hz=>dG z (by simp[Op.operands,hz])),
   dG x (by simp[Op.operands])]
  exact hk
 case h_19 b args argTypes ho=>simp only[ho]at dG |-;rw[List.map_congr_left (g:=ρ) (fun x hx=>dG x (by simp[Op.operands,Call.operands];simpa using hx))];exact hk
 case h_20 x q as ok ho=>simp only[ho]at dG |-;rw[dG x (by simp[Op.operands])];exact hk
 case h_21=>exact hk.elim
theorem IV{p:Unit->Program}{o:Oper}{ρ Eh:Operand->SV}{L:Loc}{h:ad}{k:SV->Loc->ad->Prop}(hk:hx A T p o ρ L h k)
 (dG:∀x∈o.op.operands.toList,Eh x=ρ x) (hρr:∀t∈T.rs,Eh (.tmp t)=ρ (.tmp t)):hx A T p o Eh L h k:=by
 have hrs:(T.rs.map fun t=>Eh (.tmp t))=(T.rs.map fun t=>ρ (.tmp t)):=List.map_congr_left hρr;unfold hx at hk |-;split at hk;case h_1 x ho=>simp only[ho]at dG |-;rw[dG x (by simp[Op.operands])];exact hk
 case h_2 t x y ho=>simp only[ho]at dG |-;rw[dG x (by simp[Op.operands]),dG y (by simp[Op.operands])];exact hk
 case h_3 e ho=>simp only[ho]at dG |-;exact hk
 case h_4 e x ho=>simp only[ho]at dG |-;rw[dG x (by simp[Op.operands])];exact hk
 case h_5 t len parts ho=>
  simp only[ho]at dG |-;have:∀l:List (Nat×Operand),(∀q∈l,Eh q.2=ρ q.2)->jK Eh l=jK ρ l:=fun l=>by
   induction l with
   |nil=>intro _;rfl
   |cons q r ih=>intro hq;obtain⟨i,x⟩:=q;unfold jK;rw[hq (i,x) (by simp),ih (fun q hq'=>hq q (by simp[hq']))]
  rw[this parts.toList (fun q hq=>dG q.2 (by simp only[Op.operands,List.mem_map];exact⟨q,hq,rfl⟩))];exact hk
 case h_6 t x y ho=>simp only[ho]at dG |-;rw[dG x (by simp[Op.operands]),dG y (by simp[Op.operands])];exact hk
 case h_7 t r ho=>simp only[ho]at dG |-;exact hk
 case h_8 f args argTypes ho=>simp only[ho]at dG |-;rw[dG f (by simp[Op.operands,Call.operands]),List.map_congr_left (g:=ρ) (fun x hx=>dG x (by simp[Op.operands,Call.operands];right;simpa using hx)),hrs];exact hk
 case h_9 b args argTypes ho=>simp only[ho]at dG |-;rw[List.map_congr_left (g:=ρ) (fun x hx=>dG x (by simp[Op.operands,Call.operands];simpa using hx))];exact hk
 case h_10 src dst x ho=>simp only[ho]at dG |-;rw[dG x (by simp[Op.operands])];exact hk
 case h_11 t x i b ho=>simp only[ho]at dG |-;rw[dG x (by simp[Op.operands]),dG i (by simp[Op.operands])];exact hk
 case h_12 t m i x ho=>simp only[ho]at dG |-;rw[dG m (by simp[Op.operands]),dG i (by simp[Op.operands]),dG x (by simp[Op.operands])];exact hk
 case h_13 t m i ho=>simp only[ho]at dG |-;rw[dG m (by simp[Op.operands]),dG i (by simp[Op.operands])];exact hk
 case h_14 t m i x ho=>simp only[ho]at dG |-;rw[dG m (by simp[Op.operands]),dG i (by simp[Op.operands]),dG x (by simp[Op.operands])];exact hk
 case h_15 t x ho=>simp only[ho]at dG |-;rw[dG x (by simp[Op.operands])];exact hk
 case h_16 it str ho=>simp only[ho]at dG |-;rw[dG it (by simp[Op.operands])];exact hk
 case h_17 it ho=>simp only[ho]at dG |-;rw[dG it (by simp[Op.operands])];exact hk
 case h_18 t m i x ho=>simp only[ho]at dG |-;rw[dG m (by simp[Op.operands]),dG i (by simp[Op.operands]),dG x (by simp[Op.operands])];exact hk
 case h_19 x ho=>simp only[ho]at dG |-;rw[dG x (by simp[Op.operands]),hrs];exact hk
 case h_20=>exact hk.elim
variable {P:Program}{T:aS}{A:Ar}[aX A]
variable {ds:List Deferred}{h0:ad}{w0:World}
def gP(o:Oper):List Nat:=(o.after.toList.filter fun e=>Region.binds .any e).map (·.on)
def oZ(T:aS)(ops:Array Oper):Bool:=
 (List.range ops.size).all fun i=>match ops[i]? with
  |none=>false
  |some oi=>(gP oi).all (fun e=>decide (e<i))&&
   (match oi.dst with|none=>true|some d=> !ik T oi|| !(oi.looksAt ops).contains d)&&
   (List.range ops.size).all fun j=>i==j||match ops[j]? with
    |none=>false
    |some oj=>match oi.dst with
     |none=>true
     |some d=>oj.dst !=some d&&(!(oj.looksAt ops).contains d||(gP oj).contains i||(!ik T oi&&(gP oi).contains j))
def HC(T:aS)(ops:Array Oper):Bool:=ops.toList.all fun o=>match o.dst with
 |some d=> !T.rs.contains d
 |none=>true
theorem EH{T:aS}{ops:Array Oper}(h:HC T ops=true){i:Nat}{o:Oper}(hi:ops[i]? =some o){t:Nat}(ht:t∈T.rs):o.dst≠some t:=fun hd=>by
 unfold HC at h;rw[List.all_eq_true]at h;have h1:=h o (by
  obtain⟨hl,rfl⟩:=Array.getElem?_eq_some_iff.1 hi;simp)
 rw[hd]at h1;simp[ht]at h1
def gB(ops:Array Oper):Nat->List Nat->List Nat
 |0,s=>s
 |i+1,s=>gB ops i (if s.contains i then(match ops[i]? with|some o=>gP o|none=>[])++s else s)
def mT:oU->List Nat
 | .ao i _ _=>[i]
 | .fork l r=>mT l++mT r
 |_=>[]
def za(ops:Array Oper)(p:oU)(listed:List Nat):Bool:=
 (List.range ops.size).all fun j=>listed.contains j||(mT p).contains j||match ops[j]? with
  |some o=> !(gP o).all listed.contains
  |none=>true
def tX(T:aS)(ops:Array Oper):oU->Bool->List Nat->List Nat->List Nat->Bool
 | .done,br,listed,_,_=> !br&&(List.range ops.size).all listed.contains
 | .aa i rest,br,listed,pend,known=> !br&& !listed.contains i&&(match ops[i]? with
  |some o=>ik T o&&(gP o).all listed.contains
  |none=>false)&&tX T ops rest false (i::listed) (i::pend) known
 | .ao i pn rest,br,listed,pend,known=>(br||za ops (.ao i pn rest) listed)&& !listed.contains i&&(match ops[i]? with
  |some o=> !ik T o&&(dk o||pend.all fun j=>(gB ops ops.size (i::known)).contains j||pn.contains j||(match ops[j]? with
   |some oj=> !iU oj
   |none=>true))
  |none=>false)&&
  tX T ops rest false (i::listed) (pend.filter fun j=> !(gB ops ops.size (i::known)).contains j) (gB ops ops.size (i::known))
 | .fork l r,br,listed,pend,known=>(br||za ops (.fork l r) listed)&&tX T ops l true listed pend known&&tX T ops r true listed pend known
theorem kz{ops:Array Oper}(hr:oZ T ops=true){i:Nat}{oi:Oper}(hi:ops[i]? =some oi):
 (∀e∈gP oi,e<i)/\(ik T oi=true->∀d,oi.dst=some d->d∉oi.looksAt ops)/\∀j oj,i≠j->ops[j]? =some oj->∀d,oi.dst=some d->oj.dst≠some d/\
  (d∈oj.looksAt ops->i∈gP oj\/(ik T oi=false/\j∈gP oi)):=by
 unfold oZ at hr;rw[List.all_eq_true]at hr;have aI:i<ops.size:=(Array.getElem?_eq_some_iff.1 hi).1;have h1:=hr i (by simpa using aI);simp only[hi,Bool.and_eq_true,List.all_eq_true,decide_eq_true_eq]at h1;refine⟨h1.1.1,fun hl d hd=>?_,fun j oj bG hj d hd=>?_⟩
 ·have:=h1.1.2;simp only[hd,hl,Bool.not_true,Bool.false_or,Bool.not_eq_true',List.contains_eq_mem,decide_eq_false_iff_not]at this;exact this
 have h2:=h1.2 j (by simpa using (Array.getElem?_eq_some_iff.1 hj).1);simp only[hj,hd,Bool.or_eq_true,beq_iff_eq,Bool.and_eq_true,bne_iff_ne,Bool.not_eq_true',List.contains_eq_mem,decide_eq_true_eq,decide_eq_false_iff_not]at h2;rcases h2 with h2| ⟨h2,h3⟩
 ·exact absurd h2 bG
 ·refine⟨h2,fun hm=>?_⟩;rcases h3 with (h3|h3) | ⟨h3,h4⟩
  ·exact absurd hm h3
  ·exact .inl h3
  ·exact .inr ⟨h3,h4⟩
def In(X:Array Bool)(i:Nat):Prop:=X.getD i false=true
theorem In.set{X:Array Bool}{i j:Nat}(hi:i<X.size):In (X.setIfInBounds i true) j↔i=j\/In X j:=by
 unfold In;simp only[Array.getD_eq_getD_getElem?,Array.getElem?_setIfInBounds];by_cases h:i=j
 ·subst h;simp[hi]
 ·simp[h]
theorem xE{o:Oper}{i:Nat}:i∈gP o↔∃e∈o.after,Region.binds .any e=true/\e.on=i:=by simp[gP,and_assoc]
theorem rZ{ops:Array Oper}{X:Array Bool}(hX:X.size=ops.size){j:Nat}:
 j∈Region.ready .any ops X↔¬In X j/\∃o,ops[j]? =some o/\∀e∈gP o,In X e:=by
 rw[mem_ready];constructor
 ·rintro⟨h1,o,ho,h2⟩;have aI:j<X.size:=by rw[hX];exact(Array.getElem?_eq_some_iff.1 ho).1
  refine⟨?_,o,ho,fun e he=>?_⟩
  ·unfold In;rw[Array.getD_eq_getD_getElem?,Array.getElem?_eq_getElem aI]at h1 |-;simp at h1 |-;exact h1
  ·obtain⟨e',h3,h4,rfl⟩:=xE.1 he;exact h2 e' h3 h4
 ·rintro⟨h1,o,ho,h2⟩;have aI:j<X.size:=by rw[hX];exact(Array.getElem?_eq_some_iff.1 ho).1
  refine⟨?_,o,ho,fun e he hb=>h2 e.on (xE.2 ⟨e,he,hb,rfl⟩)⟩;unfold In at h1;rw[Array.getD_eq_getD_getElem?,Array.getElem?_eq_getElem aI]at h1 |-;simp at h1 |-;exact h1
theorem vO{ops:Array Oper}{X:Array Bool}(hd:∀i o,In X i->ops[i]? =some o->∀e∈gP o,In X e):
 ∀(n:Nat) (s:List Nat),(∀i∈s,In X i)->∀i∈gB ops n s,In X i
 |0,s,hs=>hs
 |n+1,s,hs=>by
  unfold gB;refine vO hd n _ fun i hi=>?_;split at hi
  ·rename_i hc;rcases List.mem_append.1 hi with hi|hi
   ·cases ho:ops[n]? with
    |none=>rw[ho]at hi;cases hi
    |some o=>rw[ho]at hi;exact hd n o (hs n (by simpa using hc)) ho i hi
   ·exact hs i hi
  ·exact hs i hi
structure kW where
 i:Nat
 o:Oper
 sv:SV
 nb:Option (List Value)
def kW.fact(A:Ar)(T:aS)(P:Program)(ops:Array Oper)(env:Env)(L:Loc)(h:ad)(x:kW):Prop:=
 gd ops.toList env x.o (fun _=>eS A T (fun _=>P) x.o (kg env) (if jt x.o then []else L) h (fun a b=>a=x.sv/\b=x.nb)) (fun _=>x.sv=.v undef/\x.nb=none)
structure ek(A:Ar)(T:aS)(P:Program)(ops:Array Oper)(X:Array Bool)(D:List kW)(listed pend known:List Nat)(envc:Env)(Lc:Loc)(fi:Env)(La:Loc)(h:ad):Prop where
 size:X.size=ops.size
 QR:∀j,j∈listed↔In X j\/∃x∈D,x.i=j
 apart:∀x∈D,¬In X x.i
 down:∀i o,In X i->ops[i]? =some o->∀e∈gP o,In X e
 known:∀i∈known,In X i
 pend:∀x∈D,x.i∈pend
 len:fi.length=envc.length
 env:∀t,(∀x∈D,x.o.dst≠some t)->fi[t]? =envc[t]?
 dst:∀x∈D,∀t,x.o.dst=some t->t<envc.length->envc[t]? =some x.sv
 loc:∀s,(∀x∈D,x.nb.isSome=true->x.o.dst≠some s)->ij La s=ij Lc s
 box:∀x∈D,∀s c,x.nb=some c->x.o.dst=some s->ij La s=none/\ij Lc s=some c
 op:∀x∈D,ops[x.i]? =some x.o/\ik T x.o=true
 Vl:∀x∈D,∀e∈gP x.o,e∈listed
 uniq:∀x∈D,∀y∈D,x.i=y.i->x=y
 fact:∀x∈D,x.fact A T P ops envc Lc h
theorem rk{ops:List Oper}{env:Env}{o:Oper}{y n:Unit->Prop}(hg:gd ops env o y n):
 (y ()/\∀y' n':Unit->Prop,gd ops env o y' n'↔y' ())\/(n ()/\∀y' n':Unit->Prop,gd ops env o y' n'↔n' ()):=by
 unfold gd at *;repeat' split at hg
 all_goals first
  |exact hg.elim
  |exact .inl ⟨hg,fun _ _=>Iff.rfl⟩
  |exact .inr ⟨hg,fun _ _=>Iff.rfl⟩
  | (rcases jc hg with ⟨rfl,hg⟩ | ⟨rfl,hg⟩<;>first
   |exact .inl ⟨hg,fun _ _=>Iff.rfl⟩
   |exact .inr ⟨hg,fun _ _=>Iff.rfl⟩)
theorem vu{ops:Array Oper}{env bR:Env}{o:Oper}{y n:Unit->Prop}(hg:gd ops.toList env o y n)(he:∀t∈o.looksAt ops,bR[t]? =env[t]?):
 gd ops.toList bR o y n:=by
 have key:∀(j:Nat) (want:Bool),o.guard=some (j,want)->∀oj,ops.toList[j]? =some oj->∀d,oj.dst=some d->bR.getD d .u=env.getD d .u:=fun j want KU oj Cs d hd=>by
  rw[List.getD_eq_getElem?_getD,List.getD_eq_getElem?_getD,he d ?_];unfold Oper.looksAt;refine List.mem_append_right _ ?_;have Cr:ops[j]? =some oj:=by simpa using Cs
  simp[KU,Cr,hd]
 unfold gd at hg |-;cases KU:o.guard with
 |none=>simp only[KU]at hg;exact hg
 |some jw=>
  obtain⟨j,want⟩:=jw;simp only[KU]at hg |-;cases Cs:ops.toList[j]? with
  |none=>simp only[Cs]at hg;exact hg
  |some oj=>
   simp only[Cs]at hg |-;cases hd:oj.dst with
   |none=>simp only[hd]at hg;exact hg
   |some d=>simp only[hd]at hg |-;rw[key j want KU oj Cs d hd];exact hg
theorem qj{ops:Array Oper}{env bR:Env}{o:Oper}(he:∀t∈o.looksAt ops,bR[t]? =env[t]?):∀x∈o.op.operands.toList,kg bR x=kg env x:=fun x hx=>by
 cases x with
 |tmp t=>show bR.getD t .u=env.getD t .u;rw[List.getD_eq_getElem?_getD,List.getD_eq_getElem?_getD,he t ?_];unfold Oper.looksAt;exact List.mem_append_left _ (List.mem_filterMap.2 ⟨.tmp t,hx,rfl⟩)
 |const v=>rfl
 |global g=>rfl
 |func f=>rfl
theorem gY{env:Env}{d:Option Nat}{x:SV}{t:Nat}(h:d≠some t):(put env d x)[t]? =env[t]? :=by
 cases d with
 |none=>rfl
 |some u=>simp only[put];rw[List.getElem?_set_ne (fun e=>h (by rw[e]))]
theorem qy{env:Env}{t:Nat}{x:SV}(h:t<env.length):(put env (some t) x)[t]? =some x:=by simp only[put];rw[List.getElem?_set_self h]
theorem jg{env:Env}{d:Option Nat}{x:SV}:(put env d x).length=env.length:=by cases d<;>simp[put]
theorem HG{g:Bool}{cs:List Value}{q:Prop}(h:mU g cs (fun _=>q)):q:=(gX h).elim fun _ h=>h.2
theorem VJ{h:ad}{x:Addr}{n:Nat}{g:Bool}{q:Prop}(hk:ue h x n (fun cs=>mU g cs (fun _=>q))):q:=hk.out.elim fun _ h=>HG h.2
theorem P8{p:Unit->Program}{s:Unit->Sem Value}{q:Prop}(h:sJ p s (fun _=>q)):q:=h.out.elim fun _ h=>h.2
theorem XC{p:Unit->Prop}{q:Prop}(h:m0 p (fun _=>q)):q:=h.out
theorem Hu{b:Option Addr}{len cap size:Nat}{l hh m:Option Int}{q:Prop}(h:ux A b len cap size l hh m (fun _=>q)):q:=(py h).elim fun _ h=>h.1
theorem Hv{s:ByteArray}{l hh:Option Int}{q:Prop}(h:uy A s l hh (fun _=>q)):q:=(pz h).elim fun _ h=>h.1
theorem Tn{op:BinOp}{a b:Value}{e:(Value->Prop)->Unit->Prop}(he:∀k,e k ()->∃v,k v/\∀k':Value->Prop,k' v->e k' ()){q:Prop}(hk:A7 A op a b (fun _=>q) (e (fun _=>q))):q:=(vP he hk).elim fun _ h=>h.1
theorem Tm{op:BinOp}{a b:Value}{p:Unit->Program}{s:Unit->Sem Value}{q:Prop}(hk:A7 A op a b (fun _=>q) (fun _=>sJ p s (fun _=>q))):q:=
 Tn (e:=fun k _=>sJ p s k) (fun k h=>by
  obtain⟨v,g1,g2⟩:=h.out;exact⟨v,g2,fun k' h'=>⟨v,g1,h'⟩⟩) hk
theorem pH{p:Unit->Program}{o:Oper}{ρ:Operand->SV}{L:Loc}{h:ad}{sv:SV}{nb:Option (List Value)}(hk:eS A T p o ρ L h (fun a b=>a=sv/\b=nb)):
 (jt o=true->nb.isSome=true/\∃d,o.dst=some d/\ij L d=none)/\(jt o=false->nb=none):=by
 obtain⟨sv',mA,⟨rfl,rfl⟩,aM⟩:=mD hk;clear hk;have h1:=aM (fun a b=>b=mA) rfl;clear aM;unfold eS at h1;split at h1;case h_3 e ho=>
  refine⟨fun _=>?_,fun hb=>by simp[jt,ho]at hb⟩;split at h1
  ·exact h1.elim
  ·split at h1
   ·exact h1.elim
   ·rename_i d hd;split at h1
    ·rename_i hl;subst h1;exact⟨rfl,d,hd,hl⟩
    ·exact h1.elim
 case h_4 e x ho=>
  refine⟨fun _=>?_,fun hb=>by simp[jt,ho]at hb⟩;split at h1
  ·exact h1.elim
  ·rename_i d hd;split at h1
   ·split at h1
    ·rename_i hl;subst h1;exact⟨rfl,d,hd,hl⟩
    ·exact h1.elim
   ·exact h1.elim
 case h_21=>exact h1.elim
 all_goals
  rename_i ho;refine⟨fun hb=>by simp[jt,ho]at hb,fun _=>?_⟩;clear ho;repeat' split at h1
  all_goals first
   |exact h1.elim
   |exact Eq.symm h1
   |exact Eq.symm (VJ h1)
   |exact Eq.symm (HG h1)
   |exact Eq.symm (P8 h1)
   |exact Eq.symm (XC h1)
   |exact Eq.symm (Tm h1)
   |exact Eq.symm (Hu h1)
   |exact Eq.symm (Hv h1)
variable {ro:Option Nat}{n:Nat}
variable {P:Program}{T:aS}{A:Ar}[aX A]
variable {ds:List Deferred}{h0:ad}{w0:World}{β:Nat->Nat}{h:ad}{a:Act}{w:World}
variable {ops:Array Oper}{X:Array Bool}{D:List kW}{listed pend known:List Nat}{envc fi:Env}{Lc La:Loc}
theorem oy{L:Loc}{d:Option Nat}{nb:Option (List Value)}{s:Nat}:ij (mM L d nb) s=if d=some s/\nb.isSome=true then nb else ij L s:=by
 cases d with
 |none=>simp[mM]
 |some t=>
  cases nb with
  |none=>simp[mM]
  |some c=>simp only[mM,ij];by_cases h:t=s<;>simp[h]
theorem kW.nY{x:kW}{env bR:Env}{L L':Loc}{h h':ad}(hf:x.fact A T P ops env L h)(he:∀t∈x.o.looksAt ops,bR[t]? =env[t]?)
 (hL:iU x.o=true->∀s c,ij L s=some c->ij L' s=some c) (hh:iU x.o=true->h'=h):x.fact A T P ops bR L' h':=by
 unfold kW.fact at *;refine Nu (vu hf he) (fun q=>?_) id;refine jL q (qj he) (fun hl y hy s off hs c hc=>?_) (fun hb d hd=>?_) hh
 ·split at hc
  ·cases hc
  ·rename_i hb;rw[if_neg hb];exact hL hl s c hc
 ·rw[if_pos hb];rfl
theorem ek.look(hB:ek A T P ops X D listed pend known envc Lc fi La h)(hr:oZ T ops=true){k:Nat}{ok:Oper}(hk:ops[k]? =some ok)(hp:∀e∈gP ok,In X e):
 ∀t∈ok.looksAt ops,fi[t]? =envc[t]? :=fun t ht=>hB.env t fun x hx hd=>by
 obtain⟨ho,hl⟩:=hB.op x hx;obtain⟨-,h1,h2⟩:=kz hr ho;by_cases he:x.i=k
 ·rw[he,hk]at ho;cases ho;exact h1 hl t hd ht
 ·rcases(h2 k ok he hk t hd).2 ht with h3| ⟨h3,-⟩
  ·exact hB.apart x hx (hp _ h3)
  ·rw[hl]at h3;cases h3
theorem ek.sub(hB:ek A T P ops X D listed pend known envc Lc fi La h){s:Nat}{c:List Value}(hl:ij La s=some c):ij Lc s=some c:=by
 rw[<-hB.loc s (fun x hx hn hd=>?_)]
 ·exact hl
 ·obtain⟨c',nT⟩:=Option.isSome_iff_exists.1 hn;rw[(hB.box x hx s c' nT hd).1]at hl;cases hl
theorem ek.inX(hB:ek A T P ops X D listed pend known envc Lc fi La h){j:Nat}(h:In X j):j∈listed:=(hB.QR j).2 (.inl h)
theorem ek.take(hB:ek A T P ops X D listed pend known envc Lc fi La h)(hr:oZ T ops=true){i:Nat}{o:Oper}(hi:ops[i]? =some o)(Gr:i∉listed)(aI:ik T o=true)
 (hp:∀e∈gP o,e∈listed) {K:SV->Option (List Value)->Prop} {N:Prop}
 (hx:gd ops.toList envc o (fun _=>eS A T (fun _=>P) o (kg envc) Lc h K) (fun _=>N)):
 ∃sv nb,(K sv nb\/(N/\sv=.v undef/\nb=none))/\ek A T P ops X (⟨i,o,sv,nb⟩::D) (i::listed) (i::pend) known (put envc o.dst sv) (mM Lc o.dst nb) fi La h:=by
 obtain⟨-,Wj,Co⟩:=kz hr hi;have bG:∀x∈D,i≠x.i:=fun x hx e=>Gr ((hB.QR i).2 (.inr ⟨x,hx,e.symm⟩));have WA:∃sv nb,(K sv nb\/(N/\sv=.v undef/\nb=none))/\kW.fact A T P ops envc Lc h ⟨i,o,sv,nb⟩/\(∀d c,o.dst=some d->nb=some c->ij Lc d=none):=by
  rcases rk hx with ⟨h1,h2⟩ | ⟨h1,h2⟩
  ·obtain⟨sv,nb,h3,h4⟩:=mD h1;have h5:=h4 (fun a b=>a=sv/\b=nb) ⟨rfl,rfl⟩;refine⟨sv,nb,.inl h3,(h2 _ _).2 ?_,fun d c hd hc=>?_⟩
   ·exact jL h5 (fun _ _=>rfl) (fun hl y _ s off _ c hc=>by
     have:jt o=false:=by cases hq:o.op<;>simp[iU,jt,hq]at hl |-
     simp[this,hc]) (fun hb d hd=>by simp[hb,ij]) (fun _=>rfl)
   ·have hb:=pH h5;cases M7:jt o with
    |true=>obtain⟨-,d',WR,hn⟩:=hb.1 M7;rw[hd]at WR;cases WR;exact hn
    |false=>rw[hb.2 M7]at hc;cases hc
  ·exact⟨.v undef,none,.inr ⟨h1,rfl,rfl⟩,(h2 _ _).2 ⟨rfl,rfl⟩,fun d c _ hc=>by cases hc⟩
 obtain⟨sv,nb,hK,hf,vm⟩:=WA;have Rn:∀x∈D,∀t,o.dst=some t->x.o.dst≠some t:=fun x hx t ht=>(Co x.i x.o (bG x hx) (hB.op x hx).1 t ht).1;have Jt:∀s c,ij Lc s=some c->ij (mM Lc o.dst nb) s=some c:=fun s c hc=>by
  rw[oy];split
  ·rename_i Pf;obtain⟨c',nT⟩:=Option.isSome_iff_exists.1 Pf.2;rw[vm s c' Pf.1 nT]at hc;cases hc
  ·exact hc
 refine⟨sv,nb,hK,⟨hB.size,fun j=>?_,fun x hx=>?_,hB.down,hB.known,fun x hx=>?_,by rw[jg];exact hB.len,fun t ht=>?_,fun x hx t hd hlen=>?_,fun s hs=>?_,fun x hx s c hn hd=>?_,
  fun x hx=>?_,fun x hx e he=>?_,fun x hx y hy KN=>?_,fun x hx=>?_⟩⟩
 ·simp only[List.mem_cons,hB.QR j];constructor
  ·rintro(rfl|h1| ⟨x,hx,e⟩)
   ·exact .inr ⟨_,.inl rfl,rfl⟩
   ·exact .inl h1
   ·exact .inr ⟨x,.inr hx,e⟩
  ·rintro(h1| ⟨x,rfl|hx,e⟩)
   ·exact .inr (.inl h1)
   ·exact .inl e.symm
   ·exact .inr (.inr ⟨x,hx,e⟩)
 ·rcases List.mem_cons.1 hx with rfl|hx
  ·exact fun fI=>Gr (hB.inX fI)
  ·exact hB.apart x hx
 ·rcases List.mem_cons.1 hx with rfl|hx
  ·exact List.mem_cons_self
  ·exact List.mem_cons_of_mem _ (hB.pend x hx)
 ·rw[gY (ht ⟨i,o,sv,nb⟩ (by simp))];exact hB.env t fun x hx=>ht x (by simp[hx])
 ·rw[jg]at hlen;rcases List.mem_cons.1 hx with rfl|hx
  ·simp only at hd;rw[hd,qy hlen]
  ·rw[gY (fun e=>Rn x hx t e hd)];exact hB.dst x hx t hd hlen
 ·rw[oy,if_neg (fun hc=>hs ⟨i,o,sv,nb⟩ (by simp) hc.2 hc.1)];exact hB.loc s fun x hx=>hs x (by simp[hx])
 ·rcases List.mem_cons.1 hx with rfl|hx
  ·simp only at hn hd;refine⟨?_,by rw[oy,if_pos ⟨hd,by simp[hn]⟩];exact hn⟩;rw[hB.loc s (fun y hy _ M1=>Rn y hy s hd M1)];exact vm s c hd hn
  ·obtain⟨h1,h2⟩:=hB.box x hx s c hn hd;exact⟨h1,Jt s c h2⟩
 ·rcases List.mem_cons.1 hx with rfl|hx
  ·exact⟨hi,aI⟩
  ·exact hB.op x hx
 ·rcases List.mem_cons.1 hx with rfl|hx
  ·exact List.mem_cons_of_mem _ (hp e he)
  ·exact List.mem_cons_of_mem _ (hB.Vl x hx e he)
 ·rcases List.mem_cons.1 hx with rfl|hx<;>rcases List.mem_cons.1 hy with rfl|hy
  ·rfl
  ·exact absurd KN (bG y hy)
  ·exact absurd KN.symm (bG x hx)
  ·exact hB.uniq x hx y hy KN
 ·rcases List.mem_cons.1 hx with rfl|hx
  ·exact kW.nY hf (fun t ht=>gY (fun e=>Wj aI t e ht)) (fun _=>Jt) (fun _=>rfl)
  ·refine kW.nY (hB.fact x hx) (fun t ht=>gY (fun e=>?_)) (fun _=>Jt) (fun _=>rfl);rcases(Co x.i x.o (bG x hx) (hB.op x hx).1 t e).2 ht with h3| ⟨h3,-⟩
   ·exact Gr (hB.Vl x hx i h3)
   ·rw[aI]at h3;cases h3
theorem ek.catch(hT:dE P T)(hB:ek A T P ops X D listed pend known envc Lc fi La h)(hr:oZ T ops=true)(hs:bZ ds h0 w0 β fi La h a w){x:kW}(hx:x∈D)
 (hp:∀e∈gP x.o,In X e) {Q:Exit->Act->World->Prop} {K:Act->World->Prop}
 (hK:∀lH a' w' xP Lm,bZ ds h0 w0 lH xP Lm h a' w'->ek A T P ops (X.setIfInBounds x.i true) (D.filter fun y=>y.i !=x.i) listed pend known envc Lc xP Lm h->K a' w'):
 wpOpIn (FW ro) n P ops Q x.i K a w:=by
 obtain⟨ho,aI⟩:=hB.op x hx;have vh:=hB.look hr ho hp;have IU:x.i<X.size:=by rw[hB.size];exact(Array.getElem?_eq_some_iff.1 ho).1
 have fU:∀y,(y∈D.filter fun y=>y.i !=x.i)↔y∈D/\y.i≠x.i:=fun y=>by simp
 have vj:∀lH v,bZ ds h0 w0 lH (put fi x.o.dst x.sv) (mM La x.o.dst x.nb) h (a.put x.o.dst v) w->True:=fun _ _ _=>trivial;have fin:ek A T P ops (X.setIfInBounds x.i true) (D.filter fun y=>y.i !=x.i) listed pend known envc Lc (put fi x.o.dst x.sv) (mM La x.o.dst x.nb) h:=by
  obtain⟨-,-,Co⟩:=kz hr ho;have Rn:∀y∈D,y.i≠x.i->∀t,x.o.dst=some t->y.o.dst≠some t:=fun y hy bG t ht=>(Co y.i y.o (Ne.symm bG) (hB.op y hy).1 t ht).1;refine⟨by simp[hB.size],fun j=>?_,fun y hy=>?_,fun i o fI RR e he=>?_,fun i hi=>?_,fun y hy=>hB.pend y ((fU y).1 hy).1,by rw[jg];exact hB.len,fun t ht=>?_,
   fun y hy=>hB.dst y ((fU y).1 hy).1,fun s I3=>?_,fun y hy s c hn hd=>?_,fun y hy=>hB.op y ((fU y).1 hy).1,fun y hy=>hB.Vl y ((fU y).1 hy).1,
   fun y hy z hz=>hB.uniq y ((fU y).1 hy).1 z ((fU z).1 hz).1,fun y hy=>hB.fact y ((fU y).1 hy).1⟩
  ·rw[hB.QR j,In.set IU];constructor
   ·rintro(h1| ⟨y,hy,e⟩)
    ·exact .inl (.inr h1)
    ·by_cases OT:y.i=x.i
     ·exact .inl (.inl (by rw[<-OT,e]))
     ·exact .inr ⟨y,(fU y).2 ⟨hy,OT⟩,e⟩
   ·rintro((h1|h1) | ⟨y,hy,e⟩)
    ·exact .inr ⟨x,hx,h1⟩
    ·exact .inl h1
    ·exact .inr ⟨y,((fU y).1 hy).1,e⟩
  ·rw[In.set IU];obtain⟨h1,h2⟩:=(fU y).1 hy;rintro(e|e)
   ·exact h2 e.symm
   ·exact hB.apart y h1 e
  ·rw[In.set IU]at fI |-;rcases fI with e'|fI
   ·subst e';rw[ho]at RR;cases RR;exact .inr (hp e he)
   ·exact .inr (hB.down i o fI RR e he)
  ·rw[In.set IU];exact .inr (hB.known i hi)
  ·by_cases hd:x.o.dst=some t
   ·by_cases hlen:t<envc.length
    ·rw[hd,qy (by rw[hB.len];exact hlen),hB.dst x hx t hd hlen]
    ·have e1:(put fi x.o.dst x.sv).length<=t:=by rw[jg,hB.len];exact Nat.le_of_not_lt hlen
     rw[List.getElem?_eq_none e1,List.getElem?_eq_none (Nat.le_of_not_lt hlen)]
   ·rw[gY hd];refine hB.env t fun y hy M1=>?_;by_cases OT:y.i=x.i
    ·rw[hB.uniq y hy x hx OT]at M1;exact hd M1
    ·exact ht y ((fU y).2 ⟨hy,OT⟩) M1
  ·rw[oy];split
   ·rename_i hc;obtain⟨c,nT⟩:=Option.isSome_iff_exists.1 hc.2;rw[(hB.box x hx s c nT hc.1).2,nT]
   ·rename_i hc;refine hB.loc s fun y hy hn M1=>?_;by_cases OT:y.i=x.i
    ·rw[hB.uniq y hy x hx OT]at M1 hn;exact hc ⟨M1,hn⟩
    ·exact I3 y ((fU y).2 ⟨hy,OT⟩) hn M1
  ·obtain⟨h1,h2⟩:=(fU y).1 hy;obtain⟨h3,h4⟩:=hB.box y h1 s c hn hd;refine⟨?_,h4⟩;rw[oy,if_neg (fun hc=>Rn y h1 h2 s hc.1 hd)];exact h3
 have hf:=hB.fact x hx;unfold kW.fact at hf;have WJ:=vu hf vh;unfold wpOpIn;simp only[ho];rcases nV hs WJ with ⟨hw,hl⟩ | ⟨hw,hl⟩
 ·rw[if_pos hw];have Cx:eS A T (fun _=>P) x.o (kg fi) La h (fun a b=>a=x.sv/\b=x.nb):=by
   refine jL hl (qj vh) (fun RL y hy s off Rs c hc=>?_) (fun hb d hd=>?_) (fun _=>rfl)
   ·have:jt x.o=false:=by cases hq:x.o.op<;>simp[iU,jt,hq]at RL |-
    rw[this]at hc;simp only[Bool.false_eq_true,if_false]at hc;have hse:kg fi y=.loc s off:=by rw[qj vh y hy];exact Rs
    obtain⟨⟨c',nT⟩,-⟩:=hs.lZ hse;have:=hB.sub nT;rw[hc]at this;cases this;exact nT
   ·obtain⟨h1,d',WR,-⟩:=(pH hl).1 hb;obtain⟨c,hc⟩:=Option.isSome_iff_exists.1 h1;exact(hB.box x hx d c hc hd).1
  obtain⟨v,w',lH,h3,h4⟩:=sg hT hs Cx;refine nj h3 ?_;exact hK _ _ _ _ _ h4 fin
 ·rw[if_neg (by simp[hw])];obtain⟨e1,e2⟩:=hl;have CF:mM La x.o.dst x.nb=La:=by rw[e2];unfold mM;cases x.o.dst<;>rfl
  rw[CF,e1]at fin;refine⟨fun _ _=>trivial,?_⟩;exact hK _ _ _ _ _ (hs.put (x:=.v undef) (v:=undef) rfl) fin
variable {ro:Option Nat}{n:Nat}
variable {P:Program}{T:aS}{A:Ar}[aX A]
variable {ds:List Deferred}{h0:ad}{w0:World}{β:Nat->Nat}{h:ad}{a:Act}{w:World}
variable {ops:Array Oper}{X:Array Bool}{D:List kW}{listed pend known:List Nat}{envc fi:Env}{Lc La:Loc}
theorem Bg.mono{h:ad}{y:Addr}{cs:List Value}{k k':ad->Prop}(x:Bg h y cs k)(hk:∀h',k h'->k' h'):Bg h y cs k':=by obtain⟨c,e,fr,g1,g2,g3,g4,g5⟩:=x.out;exact⟨c,e,fr,g1,g2,g3,g4,fun h' e=>hk _ (g5 h' e)⟩
theorem PJ.mono{h:ad}{y:Option Addr}{cs:List Value}{k k':ad->Prop}(x:PJ h y cs k)(hk:∀h',k h'->k' h'):PJ h y cs k':=by
 rcases x with ⟨h1,h2⟩ | ⟨q,h1,h2⟩
 ·exact .inl ⟨h1,hk _ h2⟩
 ·exact .inr ⟨q,h1,h2.mono hk⟩
theorem vY.mono{h:ad}{b:Option Addr}{len cap n size bytes e:Nat}{new:List Value}{k k':Value->ad->Prop}(x:vY h b len cap n size bytes e new k)(hk:∀v h',k v h'->k' v h'):
 vY h b len cap n size bytes e new k':=
 ⟨x.one,fun hc=>(x.fits hc).mono (fun _ q=>hk _ _ q),fun hc=>by
  obtain⟨h1,h2,H3,h3,h4⟩:=x.Pp hc;exact⟨h1,h2,H3,h3,fun nb c h' rest e1 e2 e3 e4=>hk _ _ (h4 nb c h' rest e1 e2 e3 e4)⟩⟩
theorem po.mono{h:ad}{e:Nat}{l c:Int}{bytes:Nat}{z:List Value}{k k':Value->ad->Prop}(x:po h e l c bytes z k)(hk:∀v h',k v h'->k' v h'):po h e l c bytes z k':=
 ⟨x.len,x.room,fun nb h' e1 e2=>hk _ _ (x.out nb h' e1 e2)⟩
theorem ff.mono{h:ad}{b:Option Addr}{len cap:Nat}{x:Option Addr}{n size bytes e:Nat}{k k':Value->ad->Prop}(q:ff h b len cap x n size bytes e k)(hk:∀v h',k v h'->k' v h'):
 ff h b len cap x n size bytes e k':=by
 obtain⟨new,h1,h2⟩:=q.out;exact⟨new,h1,h2.mono hk⟩
theorem vX.mono{h:ad}{b:Option Addr}{len:Nat}{x:Option Addr}{n size:Nat}{k k':Value->ad->Prop}(q:vX h b len x n size k)(hk:∀v h',k v h'->k' v h'):
 vX h b len x n size k':=by
 obtain⟨cs,h1,h2,h3⟩:=q.out;exact⟨cs,h1,h2,h3.mono fun h'=>hk _ h'⟩
theorem pP.mono{h:ad}{b:Option Addr}{len:Nat}{z:List Value}{k k':ad->Prop}(q:pP h b len z k)(hk:∀h',k h'->k' h'):pP h b len z k':=
 ⟨q.one,q.out.mono hk⟩
theorem de.mono{p:Unit->Program}{s:Unit->Sem Value}{h:ad}{k k':Value->ad->Prop}(q:de p s h k)(hk:∀v h',k v h'->k' v h'):de p s h k':=
 ⟨fun w hw=>by
  obtain⟨v,w',h',h1,h2,h3⟩:=q.out w hw;exact⟨v,w',h',h1,hk _ _ h2,h3⟩⟩
theorem m0.mono{p k k':Unit->Prop}(q:m0 p k)(hk:k ()->k' ()):m0 p k':=⟨q.h,hk q.out⟩
theorem Of.mono{p:Unit->Program}{l:Nat}{args:List Value}{h:ad}{R R':Value->ad->Prop}(x:Of p l args h R)(hr:∀v h',R v h'->R' v h'):Of p l args h R':=
 ⟨fun w hw=>by
  obtain⟨fn,tmps,tA,body,h1,h2⟩:=x.out w hw;exact⟨fn,tmps,tA,body,h1,fun n=>(h2 n).mono fun e w' ⟨v,h',e1,e2,e3⟩=>⟨v,h',e1,hr _ _ e2,e3⟩⟩⟩
theorem Rh{p:Unit->Program}{o:Oper}{ρ:Operand->SV}{L:Loc}{h:ad}{k:SV->Loc->ad->Prop}(hk:hx A T p o ρ L h k)(F:Loc->ad->Prop)
 (hA:dk o=true->F L h) (hN:dk o=false->dy o=false->∀h',F L h') (hS:dy o=true->∀L' h',F L' h'):
 hx A T p o ρ L h (fun x L' h'=>k x L' h'/\F L' h'):=by
 unfold hx at hk |-;split at hk
 case h_1 x ho=>try simp only[ho]
                exact⟨hk,hA (by simp[dk,ho])⟩
 case h_2 t q x ho=>
  have hS':=hS (by simp[dy,ho]);try simp only[ho]
  repeat' split at hk
  all_goals first
   |exact hk.elim
   |exact⟨hk,hS' _ _⟩
   |exact Bg.mono hk (fun h' q=>⟨q,hS' _ _⟩)
 case h_3 e ho=>
  have wx:=hN (by simp[dk,ho]) (by simp[dy,ho]);try simp only[ho]
  split at hk
  ·exact hk.elim
  ·exact fun n h' e1 e2=>⟨hk n h' e1 e2,wx _⟩
 case h_4 e x ho=>
  have wx:=hN (by simp[dk,ho]) (by simp[dy,ho]);try simp only[ho]
  split at hk
  ·exact fun n h' e1 e2=>⟨hk n h' e1 e2,wx _⟩
  ·exact hk.elim
 case h_5 t len parts ho=>
  have wx:=hN (by simp[dk,ho]) (by simp[dy,ho]);try simp only[ho]
  repeat' split at hk
  all_goals first
   |exact hk.elim
   |exact fun n h' e1 e2=>⟨hk n h' e1 e2,wx _⟩
 case h_6 t l c ho=>
  have wx:=hN (by simp[dk,ho]) (by simp[dy,ho]);try simp only[ho]
  repeat' split at hk
  all_goals first
   |exact hk.elim
   |exact po.mono hk (fun v h' q=>⟨q,wx _⟩)
 case h_7 t r ho=>
  have wx:=hN (by simp[dk,ho]) (by simp[dy,ho]);try simp only[ho]
  split at hk
  ·exact fun n h' e1 e2=>⟨hk n h' e1 e2,wx _⟩
  ·exact hk.elim
 case h_8 f args argTypes ho=>
  have wx:=hN (by simp[dk,ho]) (by simp[dy,ho]);try simp only[ho]
  repeat' split at hk
  all_goals first
   |exact hk.elim
   |exact Bi.mono hk (fun v h' q=>⟨q,wx _⟩) (fun _ _ q=>q)
   |exact GK.mono hk (fun v h' q=>⟨q,wx _⟩)
   |exact Of.mono hk (fun v h' q=>⟨q,wx _⟩)
   |exact de.mono hk (fun v h' q=>⟨q,wx _⟩)
 case h_9 b args argTypes ho=>
  have wx:=hN (by simp[dk,ho]) (by simp[dy,ho]);try simp only[ho]
  repeat' split at hk
  all_goals first
   |exact hk.elim
   |exact ff.mono hk (fun v h' q=>⟨q,wx _⟩)
   |exact m0.mono hk (fun hq=>⟨vY.mono hq.out fun v h' q=>⟨q,wx _⟩⟩)
   |exact vX.mono hk (fun v h' q=>⟨q,wx _⟩)
   |exact pP.mono hk (fun h' q=>⟨q,wx _⟩)
   |exact de.mono hk (fun v h' q=>⟨q,wx _⟩)
 case h_19 x ho=>try simp only[ho]
                 exact hk
 case h_20=>exact hk.elim
 all_goals
  rename_i ho;have wx:=hN (by simp[dk,ho]) (by simp[dy,ho]);try simp only[ho]
  repeat' split at hk
  all_goals first
   |exact hk.elim
   |exact de.mono hk (fun v h' q=>⟨q,wx _⟩)
theorem Rf{p:Unit->Program}{o:Oper}{ρ:Operand->SV}{L:Loc}{h:ad}{k:SV->Loc->ad->Prop}(hk:hx A T p o ρ L h k):
 hx A T p o ρ L h (fun x L' h'=>k x L' h'/\(dy o=false->L'=L)/\(dk o=true->h'=h)):=
 Rh hk (fun L' h'=>(dy o=false->L'=L)/\(dk o=true->h'=h)) (fun _=>⟨fun _=>rfl,fun _=>rfl⟩) (fun h1 h2 h'=>⟨fun _=>rfl,fun h3=>by rw[h1]at h3;cases h3⟩)
  (fun h1 L' h'=>⟨fun h2=>(by rw[h1]at h2;cases h2),fun h2=>(by
   cases hq:o.op<;>simp[dk,dy,hq]at h1 h2)⟩)
theorem sd{T:aS}{strict:Bool}{all:List Oper}{h:ad}{L:Loc}{env:Env}:∀ {l:List Nat} {k:Unit->Prop},pins T strict all h L env l k->
 (∀j∈l,∃o,all[j]? =some o/\gd all env o (fun _=>xw T strict h L env o (fun _=>True)) (fun _=>True))/\k ()
 | [],k,hp=>⟨fun _ h=>(by cases h),hp⟩
 |i::r,k,hp=>by
  unfold pins at hp;split at hp
  ·rename_i o ho;have Mb:∀ {R:Unit->Prop},xw T strict h L env o R->xw T strict h L env o (fun _=>True)/\R ():=fun{R} hq=>by
    unfold xw at hq |-;split at hq
    ·rename_i t y O4;try simp only[O4]at hq |-
     split at hq
     ·rename_i x hx;try simp only[hx]
      obtain⟨cs,h1,h2⟩:=hq.out;obtain⟨v,h3,h4⟩:=gX h2;exact⟨⟨cs,h1,iQ h3 fun v' e=>by subst e;exact⟨h4.h,trivial⟩⟩,h4.out⟩
     ·rename_i s off hx;try simp only[hx]
      split at hq
      ·exact⟨trivial,hq⟩
      ·split at hq
       ·rename_i c hc;try simp only[hc]
        split at hq
        ·rename_i cs aJ;try simp only[aJ]
         obtain⟨v,h3,h4⟩:=gX hq;exact⟨iQ h3 fun v' e=>by subst e;exact⟨h4.h,trivial⟩,h4.out⟩
        ·exact hq.elim
       ·exact hq.elim
     ·exact hq.elim
    ·exact⟨trivial,hq⟩
   rcases rk hp with ⟨h1,h2⟩ | ⟨h1,h2⟩
   ·obtain⟨h3,h4⟩:=Mb h1;obtain⟨h5,h6⟩:=sd h4;refine⟨fun j hj=>?_,h6⟩;rcases List.mem_cons.1 hj with rfl|hj
    ·exact⟨o,ho,(h2 _ _).2 h3⟩
    ·exact h5 j hj
   ·obtain⟨h5,h6⟩:=sd h1;refine⟨fun j hj=>?_,h6⟩;rcases List.mem_cons.1 hj with rfl|hj
    ·exact⟨o,ho,(h2 _ _).2 trivial⟩
    ·exact h5 j hj
  ·exact hp.elim
theorem ek.ao(hT:dE P T)(hB:ek A T P ops X D listed pend known envc Lc fi La h)(hr:oZ T ops=true)(Rw:HC T ops=true)(hs:bZ ds h0 w0 β fi La h a w){k:Nat}{ok:Oper}
 (hk:ops[k]? =some ok) (I6:k∉listed) (hhv:ik T ok=false) (hp:∀e∈gP ok,In X e) {pn:List Nat} {R:Env->Loc->ad->Prop}
 (O3:dk ok=true\/∀j∈pend,j∈gB ops ops.size (k::known)\/j∈pn\/(∀oj,ops[j]? =some oj->iU oj=false))
 (hx:gd ops.toList envc ok (fun _=>hx A T (fun _=>P) ok (kg envc) Lc h (fun x L' h'=>pins T (dy ok) ops.toList h' L' (put envc ok.dst x) pn (fun _=>R (put envc ok.dst x) L' h')))
  (fun _=>R (put envc ok.dst (.v undef)) Lc h)) {Q:Exit->Act->World->Prop} {K:Act->World->Prop} (gT:jY T ds h0 w0 Q)
 (hK:∀a' w' tm xP tQ Lm h',R tm tQ h'->bZ ds h0 w0 β xP Lm h' a' w'->
  ek A T P ops (X.setIfInBounds k true) D (k::listed) (pend.filter fun j=> !(gB ops ops.size (k::known)).contains j) (gB ops ops.size (k::known)) tm tQ xP Lm h'->K a' w'):
 wpOpIn (FW ro) n P ops Q k K a w:=by
 obtain⟨-,-,Co⟩:=kz hr hk;have vh:=hB.look hr hk hp;have O8:k<X.size:=by rw[hB.size];exact(Array.getElem?_eq_some_iff.1 hk).1
 have bG:∀x∈D,k≠x.i:=fun x hx e=>I6 ((hB.QR k).2 (.inr ⟨x,hx,e.symm⟩));have Rn:∀x∈D,∀t,ok.dst=some t->x.o.dst≠some t:=fun x hx t ht=>(Co x.i x.o (bG x hx) (hB.op x hx).1 t ht).1;have hlk:∀x∈D,∀t∈x.o.looksAt ops,ok.dst≠some t:=fun x hx t ht hd=>by
  rcases(Co x.i x.o (bG x hx) (hB.op x hx).1 t hd).2 ht with h3| ⟨-,h3⟩
  ·exact I6 (hB.Vl x hx k h3)
  ·exact hB.apart x hx (hp _ h3)
 have Pe:∀i o,In (X.setIfInBounds k true) i->ops[i]? =some o->∀e∈gP o,In (X.setIfInBounds k true) e:=fun i o fI RR e he=>by
  rw[In.set O8]at fI |-;rcases fI with e'|fI
  ·subst e';rw[hk]at RR;cases RR;exact .inr (hp e he)
  ·exact .inr (hB.down i o fI RR e he)
 have R2:∀i∈gB ops ops.size (k::known),In (X.setIfInBounds k true) i:=vO Pe _ _ fun i hi=>by
  rw[In.set O8];rcases List.mem_cons.1 hi with rfl|hi
  ·exact .inl rfl
  ·exact .inr (hB.known i hi)
 have RD:∀x∈D,¬In (X.setIfInBounds k true) x.i:=fun x hx fI=>by
  rw[In.set O8]at fI;rcases fI with e|e
  ·exact bG x hx e
  ·exact hB.apart x hx e
 have fin:∀(sv:SV) (tQ Lm:Loc) (h':ad),LRel Lc La tQ Lm->(∀x∈D,x.fact A T P ops (put envc ok.dst sv) tQ h')->
  ek A T P ops (X.setIfInBounds k true) D (k::listed) (pend.filter fun j=> !(gB ops ops.size (k::known)).contains j) (gB ops ops.size (k::known)) (put envc ok.dst sv) tQ (put fi ok.dst sv) Lm h':=fun sv tQ Lm h' hL hf=>by
  refine⟨by simp[hB.size],fun j=>?_,RD,Pe,R2,fun x hx=>?_,by rw[jg,jg];exact hB.len,fun t ht=>?_,fun x hx t hd hlen=>?_,fun s I3=>?_,fun x hx s c hn hd=>?_,hB.op,
   fun x hx e he=>List.mem_cons_of_mem _ (hB.Vl x hx e he),hB.uniq,hf⟩
  ·rw[List.mem_cons,hB.QR j,In.set O8];constructor
   ·rintro(rfl|h1|h1)
    ·exact .inl (.inl rfl)
    ·exact .inl (.inr h1)
    ·exact .inr h1
   ·rintro((rfl|h1) |h1)
    ·exact .inl rfl
    ·exact .inr (.inl h1)
    ·exact .inr (.inr h1)
  ·simp only[List.mem_filter,Bool.not_eq_true',List.contains_eq_mem,decide_eq_false_iff_not];exact⟨hB.pend x hx,fun hc=>RD x hx (R2 _ hc)⟩
  ·by_cases hd:ok.dst=some t
   ·by_cases hlen:t<envc.length
    ·rw[hd,qy (by rw[hB.len];exact hlen),qy hlen]
    ·have e1:(put fi ok.dst sv).length<=t:=by rw[jg,hB.len];exact Nat.le_of_not_lt hlen
     have e2:(put envc ok.dst sv).length<=t:=by rw[jg];exact Nat.le_of_not_lt hlen
     rw[List.getElem?_eq_none e1,List.getElem?_eq_none e2]
   ·rw[gY hd,gY hd];exact hB.env t ht
  ·rw[jg]at hlen;rw[gY (fun e=>Rn x hx t e hd)];exact hB.dst x hx t hd hlen
  ·rcases hL with ⟨e1,e2⟩ | ⟨s0,c,q1,q2,g1,g2,e1,e2⟩
   ·rw[e1,e2];exact hB.loc s I3
   ·rw[e1,e2,mC g1,mC g2,hB.loc s I3]
  ·obtain⟨h1,h2⟩:=hB.box x hx s c hn hd;rcases hL with ⟨e1,e2⟩ | ⟨s0,c',q1,q2,g1,g2,e1,e2⟩
   ·rw[e1,e2];exact⟨h1,h2⟩
   ·have hs0:s0≠s:=fun e=>by rw[e,h1]at g2;cases g2
    rw[e1,e2,mC g1,mC g2,if_neg hs0,if_neg hs0];exact⟨h1,h2⟩
 unfold wpOpIn;simp only[hk];rcases rk hx with ⟨h1,h2⟩ | ⟨h1,h2⟩
 ·have hw:Region.wanted ok (yielded ops a.tmps)=true:=by
   have hg:=vu ((h2 (fun _=>True) (fun _=>False)).2 trivial) vh;rcases nV hs hg with ⟨hw,-⟩ | ⟨-,hf⟩
   ·exact hw
   ·exact hf.elim
  rw[if_pos hw];have h3:=IV (Rf h1) (qj vh) (fun t ht=>by
   have:=hB.env t (fun x hx=>EH Rw (hB.op x hx).1 ht);simp only[kg,List.getD_eq_getElem?_getD,this])
  refine Cl hT hs (fun s c hc=>hB.sub hc) h3 gT fun sv v tQ L' h' w' ⟨g1,g2,g3⟩ I3 hL=>?_;obtain⟨Wp,hR⟩:=sd g1;refine hK _ _ _ _ _ _ _ hR I3 (fin sv tQ L' h' hL fun x hx=>?_);have KO:∀t∈x.o.looksAt ops,(put envc ok.dst sv)[t]? =envc[t]? :=fun t ht=>gY (hlk x hx t ht);have hfx:=hB.fact x hx;cases RL:iU x.o with
  |false=>exact kW.nY hfx KO (fun e=>by rw[RL]at e;cases e) (fun e=>by rw[RL]at e;cases e)
  |true=>
   rcases O3 with O3|O3
   ·have jj:dy ok=false:=by cases hq:ok.op<;>simp[dk,dy,hq]at O3 |-
    exact kW.nY hfx KO (fun _ s c hc=>by rw[g2 jj];exact hc) (fun _=>g3 O3)
   ·rcases O3 x.i (hB.pend x hx)with h5|h5|h5
    ·exact absurd (R2 _ h5) (RD x hx)
    ·obtain⟨o',oT,Jg⟩:=Wp x.i h5;have Ww:ops[x.i]? =some o':=by simpa using oT
     rw[(hB.op x hx).1]at Ww;cases Ww;have hfx':gd ops.toList (put envc ok.dst sv) x.o (fun _=>eS A T (fun _=>P) x.o (kg envc) (if jt x.o then []else Lc) h (fun a b=>a=x.sv/\b=x.nb)) (fun _=>x.sv=.v undef/\x.nb=none):=
      vu (by unfold kW.fact at hfx;exact hfx) KO
     unfold kW.fact;rcases rk hfx' with ⟨f1,f2⟩ | ⟨f1,f2⟩
     ·refine(f2 _ _).2 ?_;have lW:=(f2 _ _).1 Jg;have M7:jt x.o=false:=by cases hq:x.o.op<;>simp[iU,jt,hq]at RL |-
      rw[M7]at f1 |-;simp only[Bool.false_eq_true,if_false]at f1 |-;have eK:x.nb=none:=(pH f1).2 M7;cases O4:x.o.op with
      |load t y=>
       have Cj:y∈x.o.op.operands.toList:=by rw[O4];simp[Op.operands]
       have hsy:kg (put envc ok.dst sv) y=kg envc y:=qj KO y Cj;unfold eS at f1 |-;unfold xw at lW;simp only[O4]at f1 lW |-;rw[hsy]at lW |-;have WK:∀v:Value,(∃d,x.o.dst=some d/\(put envc ok.dst sv)[d]? =some (.v v))->(SV.v v=x.sv/\(none:Option (List Value))=x.nb):=fun v ⟨d,hd,hv⟩=>by
        have hlen:d<envc.length:=by have:=(List.getElem?_eq_some_iff.1 hv).1;rwa[jg]at this
        have:=hB.dst x hx d hd hlen;rw[gY (fun e=>Rn x hx d e hd),this]at hv;exact⟨(Option.some.inj hv).symm,eK.symm⟩
       split at f1
       ·exact f1.elim
       ·split at f1
        ·rename_i s off Rs;simp only[Rs]at lW;split at lW
         ·rename_i jj;have hst':dy ok=false:=by simpa using jj
          rw[g2 hst'];exact f1
         ·split at f1
          ·rename_i c hc;split at lW
           ·rename_i c' nT;try simp only[nT]
            split at lW
            ·rename_i cs aJ;exact iQ lW fun v hq=>WK v hq.h
            ·exact lW.elim
           ·exact lW.elim
          ·exact f1.elim
        ·rename_i z Rs;simp only[Rs]at lW;obtain⟨cs,q1,q2⟩:=lW.out;exact⟨cs,q1,iQ q2 fun v hq=>WK v hq.h⟩
        ·exact f1.elim
      |_=>simp[iU,O4]at RL
     ·exact(f2 _ _).2 f1
    ·have:=h5 x.o (hB.op x hx).1;rw[RL]at this;cases this
 ·have hw:Region.wanted ok (yielded ops a.tmps)=false:=by
   have hg:=vu ((h2 (fun _=>False) (fun _=>True)).2 trivial) vh;rcases nV hs hg with ⟨-,hf⟩ | ⟨hw,-⟩
   ·exact hf.elim
   ·exact hw
  rw[if_neg (by simp[hw])];refine⟨fun _ _=>trivial,?_⟩;refine hK _ _ _ _ _ _ _ h1 (hs.put (x:=.v undef) (v:=undef) rfl) (fin (.v undef) Lc La h (.inl ⟨rfl,rfl⟩) fun x hx=>?_);exact kW.nY (hB.fact x hx) (fun t ht=>gY (hlk x hx t ht)) (fun _ _ _ hc=>hc) (fun _=>rfl)
variable {ro:Option Nat}{n:Nat}
variable {P:Program}{T:aS}{A:Ar}[aX A]
variable {ds:List Deferred}{h0:ad}{w0:World}{β:Nat->Nat}{h:ad}{a:Act}{w:World}
variable {ops:Array Oper}{X:Array Bool}{D:List kW}{listed pend known:List Nat}{envc fi:Env}{Lc La:Loc}
theorem bZ.locs(hs:bZ ds h0 w0 β fi La h a w)(hl:∀s,ij La s=ij Lc s):bZ ds h0 w0 β fi Lc h a w:=
 ⟨hs.after,fun s c hc=>hs.loc s c (by rw[hl];exact hc),fun s s' c c' h1 h2=>hs.inj s s' c c' (by rw[hl];exact h1) (by rw[hl];exact h2),hs.size,fun t x hx=>by
  have:=hs.slot t x hx;cases x with
  |v y=>exact this
  |u=>trivial
  |loc s off=>exact⟨by rw[<-hl];exact this.1,this.2⟩,hs.defers⟩
def TC(X:Array Bool):Nat:=X.toList.countP (!·)
theorem C7{i:Nat}(hi:i<X.size)(hn:¬In X i):TC (X.setIfInBounds i true)+1=TC X:=by
 unfold TC;have hl:i<X.toList.length:=by simpa using hi
 have hx:X.toList[i]=false:=by unfold In at hn;rw[Array.getD_eq_getD_getElem?,Array.getElem?_eq_getElem hi]at hn;simpa using hn
 rw[Array.toList_setIfInBounds];have I5:0<X.toList.countP (!·):=List.countP_pos_iff.2 ⟨X.toList[i],List.getElem_mem hl,by simp[hx]⟩;rw[List.countP_set (h:=hl)];simp[hx];simp only[Array.countP_toList]at I5;omega
theorem wO(hX:X.size=ops.size)(hr:oZ T ops=true)(he:Region.ready .any ops X=[]):∀j,j<ops.size->In X j:=by
 intro j;induction j using Nat.strongRecOn with
 |_ j ih=>
  intro hj;by_cases fI:In X j
  ·exact fI
  ·exfalso;have:j∈Region.ready .any ops X:=by rw[rZ hX];refine⟨fI,ops[j],by simp[hj],fun e hee=>?_⟩;have aI:=(kz hr (show ops[j]? =some ops[j]by simp[hj])).1 e hee;exact ih e aI (by omega)
   rw[he]at this;cases this
theorem QB{p:oU}(ho:tX T ops p true listed pend known=true):∃k∈mT p,k∉listed/\k<ops.size:=by
 induction p with
 |done=>simp[tX]at ho
 |aa i r _=>simp[tX]at ho
 |ao i pn r _=>
  simp only[tX,Bool.true_or,Bool.and_eq_true]at ho;refine⟨i,by simp[mT],by simpa using ho.1.1.2,?_⟩;have h2:=ho.1.2;split at h2
  ·rename_i o hi;exact(Array.getElem?_eq_some_iff.1 hi).1
  ·cases h2
 |fork l r ihl _=>simp only[tX,Bool.true_or,Bool.and_eq_true,true_and]at ho;obtain⟨k,h1,h2⟩:=ihl ho.1;exact⟨k,by simp[mT,h1],h2⟩
theorem H4{K:Env->Loc->ad->Prop}{p:oU}(ho:tX T ops p true listed pend known=true)(hx:fQ A T (fun _=>P) ops.toList K p envc Lc h){k:Nat}(hk:k∈mT p):
 ∃pn r,tX T ops (.ao k pn r) true listed pend known=true/\fQ A T (fun _=>P) ops.toList K (.ao k pn r) envc Lc h:=by
 induction p with
 |done=>simp[mT]at hk
 |aa i r _=>simp[mT]at hk
 |ao i pn r _=>simp[mT]at hk;subst hk;exact⟨pn,r,ho,hx⟩
 |fork l r ihl ihr=>
  simp only[tX,Bool.true_or,Bool.and_eq_true,true_and]at ho;simp only[mT,List.mem_append]at hk;rcases hk with hk|hk
  ·exact ihl ho.1 hx.1 hk
  ·exact ihr ho.2 hx.2 hk
theorem zX{p:oU}(ho:tX T ops p false listed pend known=true)(hp:(∃i pn r,p=.ao i pn r)\/∃l r,p=.fork l r):
 tX T ops p true listed pend known=true/\za ops p listed=true:=by
 rcases hp with ⟨i,pn,r,rfl⟩ | ⟨l,r,rfl⟩
 ·simp only[tX,Bool.false_or,Bool.true_or,Bool.and_eq_true]at ho |-;simp_all
 ·simp only[tX,Bool.false_or,Bool.true_or,Bool.and_eq_true]at ho |-;simp_all
theorem advance{K:Env->Loc->ad->Prop}(hr:oZ T ops=true):∀(p:oU) {D:List kW} {listed pend:List Nat} {envc:Env} {Lc:Loc},ek A T P ops X D listed pend known envc Lc fi La h->
 fQ A T (fun _=>P) ops.toList K p envc Lc h->tX T ops p false listed pend known=true->
 ∃D' oJ Dn tm tQ p',ek A T P ops X D' oJ Dn known tm tQ fi La h/\fQ A T (fun _=>P) ops.toList K p' tm tQ h/\tX T ops p' false oJ Dn known=true/\
  (p'=.done\/(∃i pn r,p'=.ao i pn r)\/∃l r,p'=.fork l r)
 | .done,D,listed,pend,envc,Lc,hB,hx,ho=>⟨_,_,_,_,_,_,hB,hx,ho,.inl rfl⟩
 | .ao i pn r,D,listed,pend,envc,Lc,hB,hx,ho=>⟨_,_,_,_,_,_,hB,hx,ho,.inr (.inl ⟨_,_,_,rfl⟩)⟩
 | .fork l r,D,listed,pend,envc,Lc,hB,hx,ho=>⟨_,_,_,_,_,_,hB,hx,ho,.inr (.inr ⟨_,_,rfl⟩)⟩
 | .aa i r,D,listed,pend,envc,Lc,hB,hx,ho=>by
  simp only[tX,Bool.not_false,Bool.true_and,Bool.and_eq_true]at ho;obtain⟨⟨h1,h2⟩,h3⟩:=ho;split at h2
  ·rename_i o hi;simp only[Bool.and_eq_true,List.all_eq_true,List.contains_eq_mem,decide_eq_true_eq]at h2;unfold fQ at hx;simp only[Array.getElem?_toList,hi]at hx;obtain⟨sv,nb,hK,Fq⟩:=hB.take hr hi (by simpa using h1) h2.1 h2.2 hx;refine advance hr r Fq ?_ h3;rcases hK with hK| ⟨hK,e1,e2⟩
   ·exact hK
   ·rw[e1,e2];have:mM Lc o.dst none=Lc:=by unfold mM;cases o.dst<;>rfl
    rw[this];exact hK
  ·cases h2
theorem BX(hT:dE P T)(hr:oZ T ops=true)(Rw:HC T ops=true){K:Env->Loc->ad->Prop}{Q:Exit->Act->World->Prop}
 (gT:jY T ds h0 w0 Q) (hK:∀bR L' h' lH a' w',K bR L' h'->bZ ds h0 w0 lH bR L' h' a' w'->Q .normal a' w'):
 ∀(fuel:Nat) {X:Array Bool} {D:List kW} {listed pend known:List Nat} {envc fi:Env} {Lc La:Loc} {h:ad} {β:Nat->Nat} {a:Act} {w:World} {p:oU},
  TC X<=fuel->ek A T P ops X D listed pend known envc Lc fi La h->bZ ds h0 w0 β fi La h a w->fQ A T (fun _=>P) ops.toList K p envc Lc h->tX T ops p false listed pend known=true->
  wpAnyIn (FW ro) n P .any ops Q fuel X a w:=by
 intro fuel;have done:∀ {X:Array Bool} {D:List kW} {listed pend known:List Nat} {envc fi:Env} {Lc La:Loc} {h:ad} {β:Nat->Nat} {a:Act} {w:World} {p:oU},
  ek A T P ops X D listed pend known envc Lc fi La h->bZ ds h0 w0 β fi La h a w->fQ A T (fun _=>P) ops.toList K p envc Lc h->tX T ops p false listed pend known=true->
  Region.ready .any ops X=[]->Q .normal a w:=fun{X D listed pend known envc fi Lc La h β a w p} hB hs hx ho he=>by
  have Pc:=wO hB.size hr he;obtain⟨D',oJ,Dn,tm,tQ,p',Fq,nP,oT,RA⟩:=advance hr p hB hx ho;have hD:D'=[]:=by
   cases D' with
   |nil=>rfl
   |cons x r=>exfalso;exact Fq.apart x (by simp) (Pc x.i (Array.getElem?_eq_some_iff.1 (Fq.op x (by simp)).1).1)
  subst hD;have fK:∀k,k∉oJ->k<ops.size->False:=fun k h1 h2=>h1 (Fq.inX (Pc k h2));rcases RA with rfl|RA
  ·unfold fQ at nP;refine hK _ _ _ β _ _ nP ?_;have e1:fi=tm:=List.ext_getElem? fun t=>Fq.env t (fun x hx=>by cases hx);have e2:∀s,ij La s=ij tQ s:=fun s=>Fq.loc s (fun x hx=>by cases hx);rw[e1]at hs;exact hs.locs e2
  ·obtain⟨h1,-⟩:=zX oT RA;obtain⟨k,-,h2,h3⟩:=QB h1;exact(fK k h2 h3).elim
 induction fuel with
 |zero=>
  intro X D listed pend known envc fi Lc La h β a w p hf hB hs hx ho;have he:Region.ready .any ops X=[]:=by
   apply List.eq_nil_iff_forall_not_mem.2;intro j hj;rw[rZ hB.size]at hj;obtain⟨h1,o,h2,-⟩:=hj;have hj':j<X.size:=by rw[hB.size];exact(Array.getElem?_eq_some_iff.1 h2).1
   have:=C7 hj' h1;omega
  exact⟨he,done hB hs hx ho he⟩
 |succ fuel ih=>
  intro X D listed pend known envc fi Lc La h β a w p hf hB hs hx ho;refine⟨fun he=>done hB hs hx ho he,fun k hk=>?_⟩;obtain⟨D',oJ,Dn,tm,tQ,p',Fq,nP,oT,RA⟩:=advance hr p hB hx ho;have Gu:=hk;rw[rZ hB.size]at Gu;obtain⟨Fi,ok,jD,re⟩:=Gu;have O8:k<X.size:=by rw[hB.size];exact(Array.getElem?_eq_some_iff.1 jD).1
  have hunl:=C7 O8 Fi;by_cases hD:∃x∈D',x.i=k
  ·obtain⟨x,hxD,rfl⟩:=hD;have:ops[x.i]? =some x.o:=(Fq.op x hxD).1;rw[jD]at this;cases this;exact Fq.catch hT hr hs hxD re fun lH a' w' xP Lm h1 h2=>ih (by omega) h2 h1 nP oT
  ·have hkl:k∉oJ:=fun hm=>by
    rcases(Fq.QR k).1 hm with h1|h1
    ·exact Fi h1
    ·exact hD h1
   rcases RA with rfl|RA
   ·simp only[tX,Bool.not_false,Bool.true_and,List.all_eq_true,List.mem_range,List.contains_eq_mem,decide_eq_true_eq]at oT;exact absurd (oT k (by rw[<-hB.size];exact O8)) hkl
   ·obtain⟨h1,h2⟩:=zX oT RA;have hkh:k∈mT p':=by
     unfold za at h2;rw[List.all_eq_true]at h2;have:=h2 k (by simp only[List.mem_range];rw[<-hB.size];exact O8);simp only[jD,Bool.or_eq_true,List.contains_eq_mem,decide_eq_true_eq,Bool.not_eq_true',List.all_eq_false]at this;rcases this with (h3|h3) | ⟨e,h3,h4⟩
     ·exact absurd h3 hkl
     ·exact h3
     ·exact absurd (Fq.inX (re e h3)) (by simpa using h4)
    obtain⟨pn,r,h3,h4⟩:=H4 h1 nP hkh;unfold fQ at h4;simp only[Array.getElem?_toList,jD]at h4;simp only[tX,Bool.true_or,Bool.true_and,Bool.and_eq_true,jD]at h3;obtain⟨⟨-,h5,h6⟩,h7⟩:=h3;refine Fq.ao hT hr Rw hs jD hkl (by simpa using h5) re ?_ h4 gT (fun a' w' envc2 enva2 Lc2 La2 h' hR DG hB2=>ih (by omega) hB2 DG hR h7);simp only[Bool.or_eq_true,List.all_eq_true,List.contains_eq_mem,decide_eq_true_eq]at h6;rcases h6 with h6|h6
    ·exact .inl h6
    ·refine .inr fun j hj=>?_;rcases h6 j hj with (h8|h8) |h8
     ·exact .inl h8
     ·exact .inr (.inl h8)
     ·refine .inr (.inr fun oj Cs=>?_);simp only[Cs,Bool.not_eq_true']at h8;exact h8
variable {ro:Option Nat}{n:Nat}
variable {P:Program}{T:aS}{A:Ar}[aX A]
variable {ds:List Deferred}{h0:ad}{w0:World}{β:Nat->Nat}{h:ad}{a:Act}{w:World}{env:Env}{L:Loc}
def da(T:aS):Code->Bool
 | .region id ops true=>(oZ T ops&&HC T ops)&&tX T ops (T.ax id) false [] [] []
 | .seq a b| .cond _ a b=>da T a&&da T b
 | .block _ c| .loop c=>da T c
 | .rangeFunc _ _ a c=>da T a&&da T c
 |_=>true
def JU:Ex->Exit
 | .normal=>.normal
 | .exit id=>.exit id
 | .ret=>.ret
theorem En(n:Nat):TC (Array.replicate n false)<=n:=by unfold TC;have:=List.countP_le_length (p:=fun b:Bool=> !b) (l:=(Array.replicate n false).toList);simpa using this
theorem yb:∀ {e e1:Env},wk e e1->e.length=e1.length
 | [],[],_=>rfl
 |x::r,y::q,hw=>by
  unfold wk at hw;simp only[List.length_cons];cases y with
  |u=>rw[yb hw]
  |v b=>rw[yb hw.2]
  |loc s o=>rw[yb hw.2]
theorem yc:∀ {e e1:Env},Sx.wk e e1->∀(t:Nat) (x:SV),e1[t]? =some x->x=SV.u\/e[t]? =some x
 | [],[],_,t,x,hx=>by simp at hx
 |y::r,z::q,hw,t,x,hx=>by
  unfold wk at hw;cases t with
  |zero=>
   simp at hx |-;subst hx;cases z with
   |u=>exact .inl rfl
   |v b=>exact .inr hw.1
   |loc s o=>exact .inr hw.1
  |succ t=>
   simp at hx |-;cases z with
   |u=>exact yc hw t x hx
   |v b=>exact yc hw.2 t x hx
   |loc s o=>exact yc hw.2 t x hx
theorem qK{L:Loc}:∀ {L1:Loc},Mm L L1->∀(s:Nat) (c:List Value),ij L1 s=some c->ij L s=some c
 | [],_,s,c,hc=>by cases hc
 | (k,d)::r,hl,s,c,hc=>by
  unfold Mm at hl;simp only[ij]at hc;split at hc
  ·rename_i e;subst e;cases hc;exact hl.1
  ·exact qK hl.2 s c hc
theorem ua{L:Loc}:∀ {e:Env},VD L e->∀(t s o:Nat),e[t]? =some (SV.loc s o)->∃c,ij L s=some c
 | [],_,t,s,o,hx=>by simp at hx
 |x::r,hl,t,s,o,hx=>by
  unfold VD at hl;cases t with
  |zero=>simp at hx;subst hx;exact Option.isSome_iff_exists.1 hl.1
  |succ t=>
   simp at hx;cases x with
   |u=>exact ua hl t s o hx
   |v b=>exact ua hl t s o hx
   |loc s' o'=>exact ua hl.2 t s o hx
theorem bZ.wk(hs:bZ ds h0 w0 β env L h a w){gI:Env}{L1:Loc}(hw:Wk env L gI L1):bZ ds h0 w0 β gI L1 h a w:=
 ⟨hs.after,fun s c hc=>hs.loc s c (qK hw.loc s c hc),fun s s' c c' h1 h2=>hs.inj s s' c c' (qK hw.loc s c h1) (qK hw.loc s' c' h2),by rw[hs.size,yb hw.env],fun t x hx=>by
  rcases yc hw.env t x hx with rfl|he
  ·trivial
  ·have:=hs.slot t x he;cases x with
   |u=>trivial
   |v b=>exact this
   |loc s o=>exact⟨ua hw.ok t s o hx,this.2⟩,hs.defers⟩
theorem fC(hT:dE P T):∀(c:Code),da T c=true->∀ {K:Ex->Env->Loc->ad->Prop} {Q:Exit->Act->World->Prop} {env:Env} {L:Loc} {h:ad} {β:Nat->Nat} {a:Act} {w:World},
 bZ ds h0 w0 β env L h a w->sx A T (fun _=>P) c K env L h->
 jY T ds h0 w0 Q->(∀e bR L' h' lH a' w',K e bR L' h'->bZ ds h0 w0 lH bR L' h' a' w'->Q (JU e) a' w')->c.wpIn (FW ro) n P Q a w:=by
 intro c;induction c with
 |skip=>exact fun _ {K Q env L h β a w} hs hx gT hK=>wpIn_skip (hK .normal _ _ _ _ _ _ hx hs)
 |region id ops draw=>
  intro ho K Q env L h β a w hs hx gT hK;cases draw with
  |false=>exact wpIn_region_list (kY hT gT (fun bR L' h' lH a' w' h1 h2=>hK .normal _ _ _ _ _ _ h1 h2) ops.toList _ _ _ _ _ _ hs hx)
  |true=>
   simp only[da,Bool.and_eq_true]at ho;refine wpIn_region_any hT.mixed ?_;have I3:bZ ds h0 w0 β env L h a { w with drawn:=w.drawn+1 }:=
    ⟨⟨hs.after.os,hs.after.tape,hs.after.output,hs.after.size,hs.after.vU,hs.after.frame⟩,hs.loc,hs.inj,hs.size,hs.slot,hs.defers⟩
   refine BX hT ho.1.1 ho.1.2 (K:=fun env L h=>K .normal env L h) gT (fun bR L' h' lH a' w' h1 h2=>hK .normal _ _ _ _ _ _ h1 h2) ops.size (D:=[]) (listed:=[]) (pend:=[]) (known:=[]) (envc:=env) (Lc:=L)
    (by exact En ops.size) ?_ I3 hx ho.2
   have hn:∀j,¬In (Array.replicate ops.size false) j:=fun j hj=>by
    unfold In at hj;rw[Array.getD_eq_getD_getElem?,Array.getElem?_replicate]at hj;split at hj<;>simp at hj
   exact⟨by simp,fun j=>by simp[hn j],fun x hx=>(by cases hx),fun i o hi=>absurd hi (hn i),fun i hi=>(by cases hi),fun x hx=>(by cases hx),rfl,fun _ _=>rfl,fun x hx=>(by cases hx),fun _ _=>rfl,
    fun x hx=>(by cases hx),fun x hx=>(by cases hx),fun x hx=>(by cases hx),fun x hx=>(by cases hx),fun x hx=>(by cases hx)⟩
 |seq c d Q5 Q4=>
  intro ho K Q env L h β a w hs hx gT hK;simp only[da,Bool.and_eq_true]at ho;unfold sx at hx;refine wpIn_seq (Q5 ho.1 hs hx (fun c β env L h a w q1 q2=>gT c β env L h a w q1 q2) fun e bR L' h' lH a' w' h1 h2=>?_);cases e with
  |normal=>exact Q4 ho.2 h2 h1 gT hK
  |exit id=>exact hK (.exit id) _ _ _ _ _ _ h1 h2
  |ret=>exact hK .ret _ _ _ _ _ _ h1 h2
 |cond x c d Q5 Q4=>
  intro ho K Q env L h β a w hs hx gT hK;simp only[da,Bool.and_eq_true]at ho;unfold sx at hx;split at hx
  ·rename_i t ht;refine wpIn_cond (hs.aU ht) ?_;rcases jc hx with ⟨rfl,hx⟩ | ⟨rfl,hx⟩
   ·exact Q5 ho.1 hs hx gT hK
   ·exact Q4 ho.2 hs hx gT hK
  ·exact hx.elim
 |block id c ih=>
  intro ho K Q env L h β a w hs hx gT hK;unfold sx at hx;refine wpIn_block (ih ho hs hx (fun c β env L h a w q1 q2=>gT c β env L h a w q1 q2) fun e bR L' h' lH a' w' h1 h2=>?_);cases e with
  |normal=>exact hK .normal _ _ _ _ _ _ h1 h2
  |exit j=>
   simp only[JU,Exit.inBlock]at h1 |-;split at h1
   ·rename_i e;rw[if_pos e];exact hK .normal _ _ _ _ _ _ h1 h2
   ·rename_i e;rw[if_neg e];exact hK (.exit j) _ _ _ _ _ _ h1 h2
  |ret=>exact hK .ret _ _ _ _ _ _ h1 h2
 |loop c ih=>
  intro ho K Q env L h β a w hs hx gT hK;unfold sx at hx;obtain⟨I,n,⟨gI,L1,V3,hI⟩,Rv⟩:=hx.out;refine wpIn_loop_ghost (fun n a w=>∃env L h β,I n env L h/\bZ ds h0 w0 β env L h a w) n ⟨_,_,_,_,hI,hs.wk V3⟩ fun n a w ⟨env,L,h,β,h1,h2⟩=>?_;refine ih ho h2 (Rv n env L h h1) (fun c β env L h a w q1 q2=>gT c β env L h a w q1 q2) fun e bR L' h' lH a' w' h3 h4=>?_;cases e with
  |normal=>obtain⟨m,gI,L1,hm,V3,h5⟩:=h3;exact⟨m,hm,_,_,_,_,h5,h4.wk V3⟩
  |exit j=>exact hK (.exit j) _ _ _ _ _ _ h3 h4
  |ret=>exact hK .ret _ _ _ _ _ _ h3 h4
 |rangeFunc=>intro ho K Q env L h β a w hs hx gT hK;exact hx.elim
 |exit id=>exact fun _ {K Q env L h β a w} hs hx gT hK=>wpIn_exit (hK (.exit id) _ _ _ _ _ _ hx hs)
 |scope=>intro ho K Q env L h β a w hs hx gT hK;exact hx.elim
 |label=>intro ho K Q env L h β a w hs hx gT hK;exact hx.elim
 |goto=>intro ho K Q env L h β a w hs hx gT hK;exact hx.elim
 |ret=>exact fun _ {K Q env L h β a w} hs hx gT hK=>wpIn_ret (hK .ret _ _ _ _ _ _ hx hs)
 |refuse=>intro ho K Q env L h β a w hs hx gT hK;exact hx.elim
def yu(tmps:Array Value):ResultVar->Sem Value
 | .tmp t=>pure (tmps.getD t undef)
 | .cell q t=>do loadVar t (<-asAddr (tmps.getD q undef))
theorem uG(fn:Func)(tmps:Array Value):results fn tmps=(do
 let vs <-fn.results.mapM (yu tmps)
 pure (if h:vs.size=1 then vs[0]else .tuple vs)):=by
 have:(fun(x:ResultVar)=>(match x with| .tmp t=>pure (tmps.getD t undef) | .cell a t=>do loadVar t (<-asAddr (tmps.getD a undef)):Sem Value))=yu tmps:=by funext x;cases x<;>rfl
 unfold results;rw[<-this];rfl
theorem HF(hT:dE P T)(hs:bZ ds h0 w0 β env L h a w){r:ResultVar}{k:Value->Prop}(hr:LZ T env L h r k):
 ∃v,(yu a.tmps r).run P w=.ok v w/\k v:=by
 unfold LZ at hr;split at hr
 ·rename_i t;split at hr
  ·rename_i x hx;have:=hs.slot t _ (getD_some hx (by simp));exact⟨_,rfl,by rw[show a.tmps.getD t undef=x from this];exact hr⟩
  ·exact hr.elim
 ·rename_i q t;split at hr
  ·exact hr.elim
  ·rename_i hx hk;have hi:=ee hT (t:=t) (fun e=>hk e);have oK:=hs.slot q _ (getD_some hx (by simp));split at hr
   ·rename_i c hc;split at hr
    ·rename_i cs aJ;obtain⟨h1,h2⟩:=Ah hs hc aJ;obtain⟨v,h3,h4⟩:=ld hi w _ _ cs h1 h2 hr;refine⟨v,?_,h4⟩;show(do loadVar t (<-asAddr (a.tmps.getD q undef)):Sem Value).run P w=_;rw[show a.tmps.getD q undef=_ from oK.2];simp[asAddr,h3]
    ·exact hr.elim
   ·exact hr.elim
  ·rename_i hx hk;have hi:=ee hT (t:=t) (fun e=>hk e);have oK:=hs.slot q _ (getD_some hx (by simp));obtain⟨cs,h1,hl⟩:=(show ue _ _ _ _ from hr).out;obtain⟨g1,g2,g3⟩:=h1.cell hs.after.vU;obtain⟨v,h3,h4⟩:=ld hi w _ _ cs g2 g3 hl;refine⟨v,?_,h4⟩;rename_i y;have:y=⟨y.block,y.off,none⟩:=by cases y;simp at g1;rw[g1]
   show(do loadVar t (<-asAddr (a.tmps.getD q undef)):Sem Value).run P w=_;rw[show a.tmps.getD q undef=.pointer (some y)from oK];simp only[asAddr,Sem.run_bind,Sem.run_pure,Result.andThen_ok];rw[this];exact h3
  ·exact hr.elim
theorem uH(hT:dE P T)(hs:bZ ds h0 w0 β env L h a w):∀ {rs:List ResultVar} {k:List Value->Prop},lQ T env L h rs k->
 ∃l,(rs.mapM (yu a.tmps)).run P w=.ok l w/\k l
 | [],k,hr=>⟨[],rfl,hr⟩
 |r::rs,k,hr=>by
  unfold lQ at hr;obtain⟨v,h1,h2⟩:=HF hT hs hr;obtain⟨l,h3,h4⟩:=uH hT hs h2;refine⟨v::l,?_,h4⟩;rw[List.mapM_cons];simp only[Sem.run_bind,h1,Result.andThen_ok,h3,Sem.run_pure]
theorem jY.none{Q:Exit->Act->World->Prop}(re:∀c s h,¬T.kp c s h):jY T ds h0 w0 Q:=fun c β env L h a w q _=>(re _ _ _ q).elim
theorem ah(A:Ar)[aX A](hT:dE P T){f:FuncId}{fn:Func}{c:Code}(hf:P.funcs[f]? =some fn)(hb:fn.body=some c)(ho:da T c=true){args:List Value}{h:ad}{R:Value->ad->Prop}
 (hx:P2 A T (fun _=>P) c fn.ntmps fn.results.toList args h R) (re:∀c s h,¬T.kp c s h:=by exact fun _ _ _ hc=>hc):GK (fun _=>P) f args h R:=by
 refine⟨fun w hw=>?_⟩;refine calls_of_wp hf hb (wpIn_wide (n:=0).1 ?_);have hs:bZ [] h w (fun _=>0) (args.map SV.v++List.replicate (fn.ntmps-args.length) (.v undef)) [] h { tmps:=args.toArray++Array.replicate (fn.ntmps-args.toArray.size) undef,defers:=[] } w:=by
  refine⟨aY.refl hw,fun s c hc=>(by cases hc),fun s s' c c' hc=>(by cases hc),by simp,fun t x hx=>?_,rfl⟩;rw[List.getElem?_append]at hx;split at hx
  ·rename_i aI;have yR:t<args.length:=by simpa using aI
   rw[List.getElem?_map,List.getElem?_eq_getElem yR]at hx;simp at hx;subst hx;show _=_;rw[Array.getD_eq_getD_getElem?,Array.getElem?_append_left (by simpa using yR)];simp[yR]
  ·rename_i iW;have RT:args.length<=t:=by simpa using iW
   rw[List.getElem?_replicate]at hx;split at hx
   ·rename_i aI;cases hx;show _=_;rw[Array.getD_eq_getD_getElem?,Array.getElem?_append_right (by simpa using RT),Array.getElem?_replicate];simp at aI |-;rw[if_pos aI];rfl
   ·cases hx
 refine fC (A:=A) (ro:=none) (n:=0) hT c ho hs hx (jY.none re) fun e bR L' h' lH a' w' h1 h2=>?_;have fin:lQ T bR L' h' fn.results.toList (fun l=>jr l (fun v=>R v h'))->a'.defers=[]/\∃v,(results fn a'.tmps).run P w'=.ok v w'/\∃v1 h1,Ending.returned v=.returned v1/\R v1 h1/\aY h w h1 w':=fun hr=>by
  obtain⟨l,h3,h4⟩:=uH hT h2 hr;refine⟨h2.defers,?_⟩;have h5:(results fn a'.tmps).run P w'=.ok (if h:l.toArray.size=1 then l.toArray[0]else .tuple l.toArray) w':=by rw[uG,Array.mapM_eq_mapM_toList];rw[Sem.run_bind,Sem.run_map];rw[h3];rfl
  refine⟨_,h5,_,h',rfl,?_,h2.after⟩;unfold jr at h4;split at h4
  ·exact h4
  ·rename_i bG;have:¬l.toArray.size=1:=fun hl=>by
    match l,hl with
    | [x],_=>exact bG x rfl
   rw[dif_neg this];exact h4
 cases e with
 |normal=>exact fin h1
 |ret=>exact fin h1
 |exit id=>exact h1.elim
variable {ro:Option Nat}{n:Nat}
variable {P:Program}{T:aS}{A:Ar}[aX A]
inductive Df where
 |call (g:FuncId) (args cap:List Value)
 |mark (m:Nat)
def Df.at:Df->Deferred
 | .call g args cap=>{ target:=.fn (.func g) cap.toArray,args:=args.toArray }
 | .mark m=>{ target:=.collected m,args:= #[] }
def iL:Env->Env
 | []=>[]
 |x::r=>match x with
  | .loc _ _=>.u::iL r
  |x=>x::iL r
def sO:Env->List Nat->List Value->Env
 |env,p::ps,v::vs=>sO (env.set p (.v v)) ps vs
 |env,_,_=>env
def BT(A:Ar)(T:aS)(p:Unit->Program)(tA body:Code)(env:Env)(ps:List Nat)(l:Nat)(o1 o2:Obj)(vs:List Value)(k:ad->Prop)(hh:ad):Prop:=
 sx A T p tA (fun e gI L1 h1=>match e with
  | .normal=>h1 l=some o1/\sx A T p body (fun e _ _ h2=>match e with
   | .normal=>h2 l=some o2/\k (bl h2 l o1)
   |_=>False) gI L1 (bl h1 l o2)
  |_=>False) (sO env ps vs) [] hh
structure RgX(p:Unit->Program)(gf:FuncId)(lb:List Value)(n:Nat)(round:Nat->Obj->Obj->List Value->(ad->Prop)->ad->Prop)(h:ad)(K:Nat->ad->Prop):Prop where
 out:∀(m l:Nat) (o1 o2:Obj),h m=none->h l=none->m≠l->(∀c e fr,o1≠.cells c e fr)->(∀c e fr,o2≠.cells c e fr)->
  (∀vs hh (k:ad->Prop),vs.length=n->hh l=some o1->round l o1 o2 vs k hh->Of p l vs hh (fun v h'=>v=.bool true/\k h'))->
  GK p gf (.func (.yield l) #[] #[]::lb) (bl (bl h m (.deferred (some []))) l o1) (fun _ h'=>h' l=some o1/\∀o3,(∀c e fr,o3≠.cells c e fr)->K m (bl h' l o3))
def FnD(P:Program)(f:FuncId)(args:List Value)(h:ad)(R:Value->ad->Prop):Prop:=
 ∀w,tC h w->∀n,CallsDIn Fence.wide n P f args.toArray .returning w fun e u' w'=>u'=.returning/\∃v h',e=.returned v/\R v h'/\aY h w h' w'
structure Gg(p:Unit->Program)(f:FuncId)(args:List Value)(h:ad)(R:Value->ad->Prop):Prop where
 out:FnD (p ()) f args h R
theorem Gg.mono{p:Unit->Program}{f:FuncId}{args:List Value}{h:ad}{R R':Value->ad->Prop}(x:Gg p f args h R)(hr:∀v h',R v h'->R' v h'):Gg p f args h R':=
 ⟨fun w hw n=>(x.out w hw n).mono fun e u' w' ⟨hu,v,h',he,hR,ha⟩=>⟨hu,v,h',he,hr _ _ hR,ha⟩⟩
def px(A:Ar)(T:List Df->aS)(p:Unit->Program)(all:List Oper)(K:List Df->Env->Loc->ad->Prop):List Oper->List Df->Env->Loc->ad->Prop
 | [],ds,env,L,h=>K ds env L h
 |o::rest,ds,env,L,h=>
  gd all env o
   (fun _=>match o.op with
    | .defer c=>match c.callee with
     | .value f=>match kg env f with
      | .v (.func (.func g) first cap)=>match ki (c.args.toList.map (kg env))with
       |some as=>px A T p all K rest (.call g (first.toList++as) cap.toList::ds) (put env o.dst (.v undef)) L h
       |none=>False
      |_=>False
     |_=>False
    |_=>match ik (T ds) o with
     |true=>eS A (T ds) p o (kg env) L h (fun x nb=>px A T p all K rest ds (put env o.dst x) (mM L o.dst nb) h)
     |false=>hx A (T ds) p o (kg env) L h (fun x L' h'=>px A T p all K rest ds (put env o.dst x) L' h'))
   (fun _=>px A T p all K rest ds (put env o.dst (.v undef)) L h)
def Gj(A:Ar)(T:List Df->aS)(p:Unit->Program):Code->(Ex->List Df->Env->Loc->ad->Prop)->List Df->Env->Loc->ad->Prop
 | .region id ops false,K,ds,env,L,h=>px A T p ops.toList (fun ds env L h=>K .normal ds env L h) ops.toList ds env L h
 | .seq a b,K,ds,env,L,h=>Gj A T p a (fun e ds env L h=>match e with
  | .normal=>Gj A T p b K ds env L h
  |e=>K e ds env L h) ds env L h
 | .cond c a b,K,ds,env,L,h=>match kg env c with
  | .v (.bool t)=>FX t (fun _=>Gj A T p a K ds env L h) (fun _=>Gj A T p b K ds env L h)
  |_=>False
 | .block id c,K,ds,env,L,h=>Gj A T p c (fun e ds env L h=>match e with
  | .exit j=>if j=id then K .normal ds env L h else K (.exit j) ds env L h
  |e=>K e ds env L h) ds env L h
 | .rangeFunc g ps tA body,K,ds,env,L,h=>match kg env g with
  | .v (.func (.func gf) first lb)=>match first.isEmpty,(T ds).fn gf with
   |true,true=>RgX p gf lb.toList ps.size (BT A (T ds) p tA body (iL env) ps.toList) h (fun m h'=>K .normal (.mark m::ds) env L h')
   |_,_=>False
  |_=>False
 |c,K,ds,env,L,h=>sx A (T ds) p c (fun e env L h=>K e ds env L h) env L h
def yt(T:aS)(p:Unit->Program):List Df->(ad->Prop)->ad->Prop
 | [],k,h=>k h
 | .call g args cap::r,k,h=>match T.fn g with
  |true=>Gg p g (args++cap) h (fun _ h'=>yt T p r k h')
  |false=>False
 | .mark m::r,k,h=>h m=some (.deferred (some []))/\yt T p r k (bl h m (.deferred none))
def UP(A:Ar)(T:aS)(p:Unit->Program)(c:Code)(ntmps:Nat)(rs:List ResultVar)(args:List Value)(h:ad)(R:Value->ad->Prop):Prop:=
 Gj A (fun _=>T) p c (fun e ds env L h=>match e with
  | .exit _=>False
  |_=>yt T p ds (fun h=>lQ T env L h rs (fun l=>jr l (fun v=>R v h))) h) [] (args.map SV.v++List.replicate (ntmps-args.length) (.v undef)) [] h
variable {h0:ad}{w0:World}{β:Nat->Nat}{h:ad}{a:Act}{w:World}{env:Env}{L:Loc}
theorem bZ.Be{ds:List Deferred}(hs:bZ ds h0 w0 β env L h a w)(d:Deferred):bZ (d::ds) h0 w0 β env L h { a with defers:=d::a.defers } w:=
 ⟨hs.after,hs.loc,hs.inj,hs.size,hs.slot,by rw[hs.defers]⟩
def Kv(T:List Df->aS)(h0:ad)(w0:World)(Q:Exit->Act->World->Prop):Prop:=∀ds:List Df,jY (T ds) (ds.map Df.at) h0 w0 Q
variable {TT:List Df->aS}
theorem gV(hT:∀ds,dE P (TT ds)){ops:Array Oper}{K:List Df->Env->Loc->ad->Prop}{Q:Exit->Act->World->Prop}
 (gT:Kv TT h0 w0 Q) (hK:∀D3 bR L' h' lH a' w',K D3 bR L' h'->bZ (D3.map Df.at) h0 w0 lH bR L' h' a' w'->Q .normal a' w'):
 ∀(l:List Oper) (ds:List Df) (env:Env) (L:Loc) (h:ad) (β:Nat->Nat) (a:Act) (w:World),bZ (ds.map Df.at) h0 w0 β env L h a w->
  px A TT (fun _=>P) ops.toList K l ds env L h->wpListIn (FW none) n P ops Q l a w
 | [],ds,env,L,h,β,a,w,hs,hx=>hK _ _ _ _ _ _ _ hx hs
 |o::r,ds,env,L,h,β,a,w,hs,hx=>by
  unfold px at hx;unfold wpListIn;rcases nV hs hx with ⟨hw,hx⟩ | ⟨hw,hx⟩
  ·rw[if_pos hw];split at hx
   ·rename_i c ho;split at hx
    ·rename_i f hc;split at hx
     ·rename_i g first cap hf
      split at hx
      ·rename_i as has;have hr:(execOp a.eval o).run P w=.ok (.defer (Df.at (.call g (first.toList++as) cap.toList))) w:=by
        have e1:first++as.toArray=(first.toList++as).toArray:=by apply Array.ext';simp
        simp only[execOp,ho,resolve,hc,hs.aU hf,fv hs has,Deferred.ofValue,Sem.run_bind,Sem.run_pure,Result.andThen_ok,Df.at,e1]
       unfold Oper.wpIn;refine⟨fun _ _=>trivial,?_⟩;rw[show(FW none).round=none from rfl,Oper.semAt_none,hr,Oper.uponIn_defer];exact gV hT gT hK r (.call g (first.toList++as) cap.toList::ds) _ _ _ _ _ _ ((hs.Be (Df.at (.call g (first.toList++as) cap.toList))).put (d:=o.dst) (x:=.v undef) (v:=undef) rfl) hx
      ·exact hx.elim
     ·exact hx.elim
    ·exact hx.elim
   ·split at hx
    ·obtain⟨sv,nb,h1,h2⟩:=mD hx;obtain⟨v,w',lH,h3,h4⟩:=sg (hT ds) hs (h2 (fun x y=>x=sv/\y=nb) ⟨rfl,rfl⟩);refine nj h3 ?_;exact gV hT gT hK r _ _ _ _ _ _ _ h4 h1
    ·refine Cl (hT ds) hs (Lc:=L) (fun _ _ q=>q) hx (gT ds) fun sv v tQ L' h' w' h1 h2 h3=>?_;have:tQ=L':=by
      rcases h3 with ⟨e1,e2⟩ | ⟨s,c,x,y,-,-,e1,e2⟩
      ·rw[e1,e2]
      ·rw[e1,e2]
     subst this;exact gV hT gT hK r _ _ _ _ _ _ _ h2 h1
  ·rw[if_neg (by simp[hw])];refine⟨fun _ _=>trivial,?_⟩;exact gV hT gT hK r _ _ _ _ _ _ _ (hs.put (x:=.v undef) (v:=undef) rfl) hx
theorem wZ:∀ {env:Env} {t:Nat} {x:SV},(iL env)[t]? =some x->x=.u\/(env[t]? =some x/\∀s o,x≠.loc s o)
 | [],t,x,h=>by simp[iL]at h
 |y::r,0,x,h=>by
  cases y with
  |loc s o=>simp[iL]at h;exact .inl h.symm
  |v z=>simp[iL]at h;subst h;exact .inr ⟨by simp,fun _ _ e=>by cases e⟩
  |u=>simp[iL]at h;exact .inl h.symm
 |y::r,t+1,x,h=>by
  have h':(iL r)[t]? =some x:=by cases y<;>simpa[iL]using h
  rcases wZ h' with h1| ⟨h1,h2⟩
  ·exact .inl h1
  ·exact .inr ⟨by simpa using h1,h2⟩
theorem wY:∀(env:Env),(iL env).length=env.length
 | []=>rfl
 |y::r=>by cases y<;>simp[iL,wY r]
theorem zR{β:Nat->Nat}:∀(ps:List Nat) (vs:List Value) (env:Env) (tmps:Array Value),tmps.size=env.length->(∀t x,env[t]? =some x->mj β [] x (tmps.getD t undef))->
 ((ps.zip vs).foldl (fun t (p,v)=>t.setIfInBounds p v) tmps).size=(sO env ps vs).length/\∀t x,(sO env ps vs)[t]? =some x->mj β [] x (((ps.zip vs).foldl (fun t (p,v)=>t.setIfInBounds p v) tmps).getD t undef)
 | [],vs,env,tmps,h1,h2=>by simp[sO,h1];simpa using h2
 |p::ps,[],env,tmps,h1,h2=>by simp[sO,h1];simpa using h2
 |p::ps,v::vs,env,tmps,h1,h2=>by
  simp only[List.zip_cons_cons,List.foldl_cons,sO];refine zR ps vs _ _ (by simp[h1]) (fun t x hx=>?_);rw[List.getElem?_set]at hx;split at hx
  ·rename_i e;subst e;split at hx
   ·rename_i aI;cases hx;show _=_;have yR:p<tmps.size:=by rw[h1];exact aI
    rw[Array.getD_eq_getD_getElem?,Array.getElem?_setIfInBounds_self_of_lt yR];rfl
   ·cases hx
  ·rename_i e;have:=h2 t x hx;rw[Array.getD_eq_getD_getElem?,Array.getElem?_setIfInBounds_ne (by omega),<-Array.getD_eq_getD_getElem?];exact this
theorem aY.put{h:ad}{w:World}(ha:tC h w){l:Nat}{o o':Obj}(hl:h l=some o):aY h w (bl h l o') (w.putObj l o'):=by have hw:=ha _ _ hl;have aI:l<w.heap.size:=(Array.getElem?_eq_some_iff.1 hw).1;exact aY.set ha hl (World.putObj_heap_same aI) (fun b hb=>World.putObj_heap_other hb) World.putObj_size ⟨rfl,rfl,rfl⟩
theorem HD(hT:dE P T)(re:∀c s h,¬T.kp c s h){l:Nat}{r:Loop}{tA body:Code}(hoa:da T tA=true)(Wv:da T body=true)(hra:r.assign=tA)(Bq:r.body=body)(jj:r.state=.ready)(hpe:r.pending=none)
 (oK:(iL env).length=r.tmps.size) (Rs:∀t x,(iL env)[t]? =some x->mj (fun _=>0) [] x (r.tmps.getD t undef))
 {vs:List Value} {hh:ad} {k:ad->Prop} (hv:vs.length=r.params.size) (hl:hh l=some (.loop r))
 (hx:BT A T (fun _=>P) tA body (iL env) r.params.toList l (.loop r) (.loop { r with state:=.busy }) vs k hh):Of (fun _=>P) l vs hh (fun v h'=>v=.bool true/\k h'):=by
 refine⟨fun w hw=>⟨_,_,_,_,run_yield (hw _ _ hl) (by simpa using hv),fun n=>?_⟩⟩;refine roundIn_of_wpIn trivial ?_;have hz:(r.params.zip vs.toArray).foldl (fun tmps (t,a)=>tmps.setIfInBounds t a) r.tmps=(r.params.toList.zip vs).foldl (fun t (p,v)=>t.setIfInBounds p v) r.tmps:=by rw[<-Array.foldl_toList];simp
 rw[hz,hra,Bq];obtain⟨eE,DG⟩:=zR (β:=fun _=>0) r.params.toList vs (iL env) r.tmps oK.symm Rs;have hs:bZ [] hh w (fun _=>0) (sO (iL env) r.params.toList vs) [] hh { tmps:=(r.params.toList.zip vs).foldl (fun t (p,v)=>t.setIfInBounds p v) r.tmps,defers:=[] } w:=
  ⟨aY.refl hw,fun s c hc=>(by cases hc),fun s s' c c' hc=>(by cases hc),eE,DG,rfl⟩
 refine fC (A:=A) (ro:=some l) hT tA hoa hs hx (jY.none re) fun e gI L1 h1 β1 a1 w1 g1 g2=>?_;cases e with
 |normal=>
  obtain⟨k1,k2⟩:=g1;have uZ:=g2.after.vU _ _ k1;refine⟨_,run_beginRound uZ jj,?_⟩;have g3:=g2.step (aY.put g2.after.vU (o':=.loop { r with state:=.busy }) k1);refine fC (A:=A) (ro:=some l) hT body Wv g3 k2 (jY.none re) fun e env2 L2 h2 β2 a2 w2 q1 q2=>?_;cases e with
  |normal=>
   obtain⟨k3,k4⟩:=q1;have qT:=q2.after.vU _ _ k3;refine⟨_,_,run_endRound none qT,?_⟩;have g4:=q2.step (aY.put q2.after.vU (o':=.loop r) k3);have er:({ r with state:=if(none:Option Code).isNone=true then LoopState.ready else LoopState.done,pending:=none }:Loop)=r:=by obtain⟨s,p,f,t,ps,a,b,d⟩:=r;simp only at jj hpe;subst jj hpe;rfl
   refine⟨_,bl h2 l (.loop r),rfl,⟨rfl,k4⟩,?_⟩;have e2:({ ({ r with state:=.busy }:Loop)with state:=if(none:Option Code).isNone=true then LoopState.ready else LoopState.done,pending:=none }:Loop)=r:=er;have:=g4.after;rw[e2];exact this
  |exit id=>exact q1.elim
  |ret=>exact q1.elim
 |exit id=>exact g1.elim
 |ret=>exact g1.elim
theorem tF(hT:dE P T)(re:∀c s h,¬T.kp c s h){ds:List Df}{g:Operand}{ps:Array Nat}{tA body:Code}{gf:FuncId}{lb:Array Value}{Q:Exit->Act->World->Prop}{K:Nat->ad->Prop}
 (hs:bZ (ds.map Df.at) h0 w0 β env L h a w) (hoa:da T tA=true) (Wv:da T body=true) (hg:kg env g=.v (.func (.func gf) #[] lb)) (hgf:T.fn gf=true)
 (hx:RgX (fun _=>P) gf lb.toList ps.size (BT A T (fun _=>P) tA body (iL env) ps.toList) h K)
 (hK:∀m h' a' w',K m h'->bZ ((Df.mark m::ds).map Df.at) h0 w0 β env L h' a' w'->Q .normal a' w'):(Code.rangeFunc g ps tA body).wp P Q a w:=by
 refine(wpIn_wide (n:=0)).1 (wpIn_rangeFunc fun fn _=>?_);refine⟨w.heap.size+1,_,(w.alloc (.deferred (some []))).alloc (.loop { state:=.ready,pending:=none,fn,tmps:=a.tmps,params:=ps,assign:=tA,body,defers:=w.heap.size }),{ target:=.fn (.func gf) lb,args:= #[.func (.yield (w.heap.size+1)) #[] #[]] },(w.alloc (.deferred (some []))).alloc (.loop { state:=.ready,pending:=none,fn,tmps:=a.tmps,params:=ps,assign:=tA,body,defers:=w.heap.size }),gf,#[.func (.yield (w.heap.size+1)) #[] #[]]++lb,(w.alloc (.deferred (some []))).alloc (.loop { state:=.ready,pending:=none,fn,tmps:=a.tmps,params:=ps,assign:=tA,body,defers:=w.heap.size }),run_enterLoop_outer fn a.tmps ps tA body,?_,fun _ _=>trivial,?_,fun hd=>by simp[Fence.wide]at hd,?_⟩
 ·simp only[resolve,hs.aU hg,Deferred.ofValue,Sem.run_pure];simp[Act.eval]
 ·simp only[invoke,ke hT hgf]
 ·generalize qV:({ state:=.ready,pending:=none,fn,tmps:=a.tmps,params:=ps,assign:=tA,body,defers:=w.heap.size }:Loop)=r;have tL:=hs.after.vU;have a1:aY h w (bl h w.heap.size (.deferred (some []))) (w.alloc (.deferred (some []))):=aY.new tL _;have ll:(w.alloc (.deferred (some []))).heap.size=w.heap.size+1:=World.size_alloc w _;have a2:=aY.new a1.vU (.loop r);rw[ll]at a2;have a12:=a1.trans a2;have oL:h w.heap.size=none:=tL.j0 (Nat.le_refl _);have ng:h (w.heap.size+1)=none:=tL.j0 (by omega);have hc:=(hx.out w.heap.size (w.heap.size+1) (.loop r) (.loop { r with state:=.busy }) oL ng (by omega) (fun _ _ _ e=>by cases e) (fun _ _ _ e=>by cases e) (fun vs hh k hv hl hr=>by
   refine HD (A:=A) (env:=env) hT re hoa Wv (r:=r) (by rw[<-qV]) (by rw[<-qV]) (by rw[<-qV]) (by rw[<-qV]) ?_ ?_ (by rw[hv,<-qV]) hl ?_
   ·rw[wY,<-hs.size,<-qV]
   ·intro t x hx;rcases wZ hx with rfl| ⟨h1,h2⟩
    ·trivial
    ·have:=hs.slot t x h1;rw[<-qV];cases x with
     |v z=>exact this
     |loc s o=>exact absurd rfl (h2 s o)
     |u=>trivial
   ·have hp:ps=r.params:=by rw[<-qV]
    rw[hp]at hr;exact hr)).out _ a12.vU
  have nT:=callsIn_wide (n:=0-1).2 hc;have e1:(Value.func (.yield (w.heap.size+1)) #[] #[]::lb.toList).toArray= #[.func (.yield (w.heap.size+1)) #[] #[]]++lb:=by apply Array.ext';simp
  rw[e1]at nT;refine CallsIn.mono nT fun e w3 ⟨v,h3,g1,⟨g2,g3⟩,g4⟩=>?_;subst g1;have V6:=g4.vU _ _ g2;refine⟨none,w3.putObj (w.heap.size+1) (.loop { r with state:=.exhausted }),?_,?_⟩
  ·have:=run_endLoop (P:=P) V6 (by rw[<-qV];simp);rw[this,<-qV]
  ·refine hK w.heap.size _ _ _ (g3 (.loop { r with state:=.exhausted }) (fun _ _ _ e=>by cases e)) ?_;have s1:=hs.step ((a12.trans g4).trans (aY.put g4.vU (o':=.loop { r with state:=.exhausted }) g2));exact s1.Be (Df.at (.mark w.heap.size))
def Aa:Code->Bool
 | .rangeFunc .. =>false
 | .seq a b| .cond _ a b=>Aa a&&Aa b
 | .block _ c=>Aa c
 |_=>true
theorem xj(hT:∀ds,dE P (TT ds)):∀(c:Code),(∀ds,da (TT ds) c=true)->(Aa c=true\/∀ds c s h,¬(TT ds).kp c s h)->∀ {K:Ex->List Df->Env->Loc->ad->Prop} {Q:Exit->Act->World->Prop} {ds:List Df} {env:Env} {L:Loc} {h:ad} {β:Nat->Nat} {a:Act} {w:World},
 bZ (ds.map Df.at) h0 w0 β env L h a w->Gj A TT (fun _=>P) c K ds env L h->Kv TT h0 w0 Q->
 (∀e D3 bR L' h' lH a' w',K e D3 bR L' h'->bZ (D3.map Df.at) h0 w0 lH bR L' h' a' w'->Q (JU e) a' w')->c.wp P Q a w:=by
 intro c;induction c with
 |region id ops draw=>
  intro ho Cu K Q ds env L h β a w hs hx gT hK;cases draw with
  |false=>exact wpIn_wide (n:=0).1 (wpIn_region_list (gV hT gT (fun D3 bR L' h' lH a' w' h1 h2=>hK .normal _ _ _ _ _ _ _ h1 h2) ops.toList _ _ _ _ _ _ _ hs hx))
  |true=>exact wpIn_wide (n:=0).1 (fC (A:=A) (ro:=none) (n:=0) (hT ds) _ (ho ds) hs hx (gT ds) (fun e bR L' h' lH a' w' h1 h2=>hK e _ _ _ _ _ _ _ h1 h2))
 |seq c d Q5 Q4=>
  intro ho Cu K Q ds env L h β a w hs hx gT hK;simp only[da,Bool.and_eq_true]at ho;simp only[Aa,Bool.and_eq_true]at Cu;unfold Gj at hx;refine wp_seq (Q5 (fun ds=>(ho ds).1) (Cu.imp And.left id) hs hx (fun ds c β env L h a w q1 q2=>gT ds c β env L h a w q1 q2) fun e D3 bR L' h' lH a' w' h1 h2=>?_);cases e with
  |normal=>exact Q4 (fun ds=>(ho ds).2) (Cu.imp And.right id) h2 h1 gT hK
  |exit id=>exact hK (.exit id) _ _ _ _ _ _ _ h1 h2
  |ret=>exact hK .ret _ _ _ _ _ _ _ h1 h2
 |cond x c d Q5 Q4=>
  intro ho Cu K Q ds env L h β a w hs hx gT hK;simp only[da,Bool.and_eq_true]at ho;simp only[Aa,Bool.and_eq_true]at Cu;unfold Gj at hx;split at hx
  ·rename_i t ht;refine wp_cond (hs.aU ht) ?_;rcases jc hx with ⟨rfl,hx⟩ | ⟨rfl,hx⟩
   ·exact Q5 (fun ds=>(ho ds).1) (Cu.imp And.left id) hs hx gT hK
   ·exact Q4 (fun ds=>(ho ds).2) (Cu.imp And.right id) hs hx gT hK
  ·exact hx.elim
 |block id c ih=>
  intro ho Cu K Q ds env L h β a w hs hx gT hK;unfold Gj at hx;refine wp_block (ih ho Cu hs hx (fun ds c β env L h a w q1 q2=>gT ds c β env L h a w q1 q2) fun e D3 bR L' h' lH a' w' h1 h2=>?_);cases e with
  |normal=>exact hK .normal _ _ _ _ _ _ _ h1 h2
  |exit j=>
   simp only[JU,Exit.inBlock]at h1 |-;split at h1
   ·rename_i e;rw[if_pos e];exact hK .normal _ _ _ _ _ _ _ h1 h2
   ·rename_i e;rw[if_neg e];exact hK (.exit j) _ _ _ _ _ _ _ h1 h2
  |ret=>exact hK .ret _ _ _ _ _ _ _ h1 h2
 |rangeFunc g ps tA body=>
  intro ho Cu K Q ds env L h β a w hs hx gT hK;simp only[da,Bool.and_eq_true]at ho;have re:∀ds c s h,¬(TT ds).kp c s h:=Cu.resolve_left (by simp[Aa]);unfold Gj at hx;split at hx
  ·rename_i gf first lb hg
   split at hx
   ·rename_i Gx hgf;have Gx:first= #[]:=by have:first.isEmpty=true:=Gx;simpa using this
    subst Gx;exact tF (hT ds) (re ds) hs (ho ds).1 (ho ds).2 hg hgf hx (fun m h' a' w' h1 h2=>hK .normal _ _ _ _ _ _ _ h1 h2)
   ·exact hx.elim
  ·exact hx.elim
 |_=>exact fun ho Cu {K Q ds env L h β a w} hs hx gT hK=>wpIn_wide (n:=0).1 (fC (A:=A) (ro:=none) (n:=0) (hT ds) _ (ho ds) hs hx (gT ds) (fun e bR L' h' lH a' w' h1 h2=>hK e _ _ _ _ _ _ _ h1 h2))
theorem gD{f:FuncId}{fn:Func}{args:List Value}{h:ad}{w:World}(hw:tC h w):
 bZ [] h w (fun _=>0) (args.map SV.v++List.replicate (fn.ntmps-args.length) (.v undef)) [] h { tmps:=args.toArray++Array.replicate (fn.ntmps-args.toArray.size) undef,defers:=[] } w:=by
 refine⟨aY.refl hw,fun s c hc=>(by cases hc),fun s s' c c' hc=>(by cases hc),by simp,fun t x hx=>?_,rfl⟩;rw[List.getElem?_append]at hx;split at hx
 ·rename_i aI;have yR:t<args.length:=by simpa using aI
  rw[List.getElem?_map,List.getElem?_eq_getElem yR]at hx;simp at hx;subst hx;show _=_;rw[Array.getD_eq_getD_getElem?,Array.getElem?_append_left (by simpa using yR)];simp[yR]
 ·rename_i iW;have RT:args.length<=t:=by simpa using iW
  rw[List.getElem?_replicate]at hx;split at hx
  ·rename_i aI;cases hx;show _=_;rw[Array.getD_eq_getD_getElem?,Array.getElem?_append_right (by simpa using RT),Array.getElem?_replicate];simp at aI |-;rw[if_pos aI];rfl
  ·cases hx
theorem oG(hT:dE P T){ds:List Deferred}(hs:bZ ds h0 w0 β env L h a w){fn:Func}{R:Value->ad->Prop}(hr:lQ T env L h fn.results.toList (fun l=>jr l (fun v=>R v h))):
 ∃v,(results fn a.tmps).run P w=.ok v w/\R v h/\aY h0 w0 h w:=by
 obtain⟨l,h3,h4⟩:=uH hT hs hr;have h5:(results fn a.tmps).run P w=.ok (if h:l.toArray.size=1 then l.toArray[0]else .tuple l.toArray) w:=by rw[uG,Array.mapM_eq_mapM_toList];rw[Sem.run_bind,Sem.run_map];rw[h3];rfl
 refine⟨_,h5,?_,hs.after⟩;unfold jr at h4;split at h4
 ·exact h4
 ·rename_i bG;have:¬l.toArray.size=1:=fun hl=>by
   match l,hl with
   | [x],_=>exact bG x rfl
  rw[dif_neg this];exact h4
theorem oM(A:Ar)[aX A](hT:dE P T){f:FuncId}{fn:Func}{c:Code}(hf:P.funcs[f]? =some fn)(hb:fn.body=some c)(ho:da T c=true){args:List Value}{h:ad}{R:Value->ad->Prop}
 (hx:P2 A T (fun _=>P) c fn.ntmps fn.results.toList args h R) (re:∀c s h,¬T.kp c s h:=by exact fun _ _ _ hc=>hc):Gg (fun _=>P) f args h R:=by
 refine⟨fun w hw n=>?_⟩;refine(callsDIn_of_wp (R:=fun e w'=>∃v h',e=.returned v/\R v h'/\aY h w h' w') hf hb trivial ?_).mono (fun e u' w' x=>x);refine fC (A:=A) (ro:=none) hT c ho (gD (f:=f) (fn:=fn) hw) hx (jY.none re) fun e bR L' h' lH a' w' h1 h2=>?_;have fin:lQ T bR L' h' fn.results.toList (fun l=>jr l (fun v=>R v h'))->a'.defers=[]/\∃v,(results fn a'.tmps).run P w'=.ok v w'/\∃v1 h1,Ending.returned v=.returned v1/\R v1 h1/\aY h w h1 w':=fun hr=>by
  obtain⟨v,h3,h4,h5⟩:=oG hT h2 hr;exact⟨h2.defers,v,h3,v,h',rfl,h4,h5⟩
 cases e with
 |normal=>exact fin h1
 |ret=>exact fin h1
 |exit id=>exact h1.elim
theorem mw(hT:dE P T){fn:Func}{R:Value->ad->Prop}(ds0:List Deferred):∀(ds:List Df) {h:ad} {a:Act} {w:World},bZ ds0 h0 w0 β env L h a w->
 yt T (fun _=>P) ds (fun h=>lQ T env L h fn.results.toList (fun l=>jr l (fun v=>R v h))) h->
 LeavesInM Fence.wide 0 P fn a.tmps (fun e w'=>∃v h',e=.returned v/\R v h'/\aY h0 w0 h' w') (ds.map Df.at) .returning w
 | [],h,a,w,hs,hx=>by
  obtain⟨v,h3,h4,h5⟩:=oG hT hs hx;exact⟨v,h3,v,h,rfl,h4,h5⟩
 | .call g args cap::r,h,a,w,hs,hx=>by
  unfold yt at hx;split at hx
  ·rename_i hg;have hi:(invoke (.fn (.func g) cap.toArray) args.toArray).run P w=.ok (.enter g (args++cap).toArray) w:=by
    have e1:args.toArray++cap.toArray=(args++cap).toArray:=by simp
    simp only[invoke,e1,ke hT hg]
   refine⟨by simp,.inr ⟨fun hd=>by simp[Fence.wide]at hd,_,_,_,_,rfl,hi,fun _ _=>trivial,(hx.out w hs.after.vU _).mono fun e u' w' ⟨hu,v,h',he,hR,ha⟩=>?_⟩⟩;subst hu;subst he;have:=mw hT ds0 r (hs.step ha) hR;exact this
  ·exact hx.elim
 | .mark m::r,h,a,w,hs,hx=>by
  unfold yt at hx;obtain⟨h1,h2⟩:=hx;have hw:=hs.after.vU _ _ h1;refine⟨by simp,.inl ⟨m,_,rfl,run_takeDeferred hw,?_⟩⟩;exact mw hT ds0 r (hs.step (aY.put hs.after.vU h1)) h2
theorem iY(A:Ar)[aX A](hT:dE P T){f:FuncId}{fn:Func}{c:Code}(hf:P.funcs[f]? =some fn)(hb:fn.body=some c)(ho:da T c=true){args:List Value}{h:ad}{R:Value->ad->Prop}
 (hx:UP A T (fun _=>P) c fn.ntmps fn.results.toList args h R) (re:∀c s h,¬T.kp c s h:=by exact fun _ _ _ hc=>hc):GK (fun _=>P) f args h R:=by
 refine⟨fun w hw=>?_⟩;refine callsIn_wide.1 (callsIn_of_wp_marks (F:=Fence.wide) (n:=0) hf hb trivial ((wpIn_wide (n:=0)).2 ?_));refine xj (A:=A) (TT:=fun _=>T) (fun _=>hT) c (fun _=>ho) (.inr fun _=>re) (ds:=[]) (gD (f:=f) (fn:=fn) hw) hx (fun _=>jY.none re) fun e D3 bR L' h' lH a' w' h1 h2=>?_;have fin:yt T (fun _=>P) D3 (fun h=>lQ T bR L' h fn.results.toList (fun l=>jr l (fun v=>R v h))) h'->LeavesInM Fence.wide 0 P fn a'.tmps (fun e w'=>∃v h',e=.returned v/\R v h'/\aY h w h' w') a'.defers .returning w':=fun hr=>by
  have:=mw hT _ D3 h2 hr;rw[h2.defers];exact this
 cases e with
 |normal=>exact fin h1
 |ret=>exact fin h1
 |exit id=>exact h1.elim
variable {ro:Option Nat}{n:Nat}
variable {P:Program}{T:aS}{A:Ar}[aX A]
variable {h0:ad}{w0:World}{β:Nat->Nat}{h:ad}{a:Act}{w:World}{env:Env}{L:Loc}{ds:List Deferred}
theorem gR(A:Ar)[aX A](hT:dE P T){f:FuncId}{fn:Func}{c:Code}(hf:P.funcs[f]? =some fn)(hb:fn.body=some c)(ho:da T c=true){args:List Value}{h:ad}{R:Value->ad->Prop}{K:List PanicEntry->ad->Prop}
 (re:∀c s h',T.kp c s h'->K c h') (hx:P2 A T (fun _=>P) c fn.ntmps fn.results.toList args h R):Bi (fun _=>P) f args h R K:=by
 refine⟨fun w hw=>?_⟩;refine calls_of_wp hf hb (wpIn_wide (n:=0).1 ?_);refine fC (A:=A) (ro:=none) (n:=0) hT c ho (gD (f:=f) (fn:=fn) hw) hx (fun c β env L h1 a1 w1 q1 q2=>⟨q2.defers,.inr ⟨c,h1,rfl,re _ _ _ q1,q2.after⟩⟩) fun e bR L' h' lH a' w' h1 h2=>?_;have fin:lQ T bR L' h' fn.results.toList (fun l=>jr l (fun v=>R v h'))->a'.defers=[]/\∃v,(results fn a'.tmps).run P w'=.ok v w'/\
  ((∃v1 h1,Ending.returned v=.returned v1/\R v1 h1/\aY h w h1 w')\/(∃c h1,Ending.returned v=.panicked c/\K c h1/\aY h w h1 w')):=fun hr=>by
  obtain⟨v,h3,h4,h5⟩:=oG hT h2 hr;exact⟨h2.defers,v,h3,.inl ⟨v,h',rfl,h4,h5⟩⟩
 cases e with
 |normal=>exact fin h1
 |ret=>exact fin h1
 |exit id=>exact h1.elim
structure FnRX(p:Unit->Program)(f:FuncId)(args:List Value)(v:Value)(h:ad)(R:ad->Prop):Prop where
 out:∀w,tC h w->∀n,CallsDIn Fence.wide n (p ()) f args.toArray (.panicking [{ v,recovered:=false }]) w fun e u' w'=>u'=.panicking [{ v,recovered:=true }]/\∃x h',e=.returned x/\R h'/\aY h w h' w'
def zV(T:aS)(h:ad):List ResultVar->List SV->(List Value->Prop)->Prop
 | [],_,k=>k []
 |r::rs,ss,k=>match r with
  | .cell _ t=>match ss with
   |s::ss=>match s with
    | .v (.pointer (some x))=>match (T.ty t).kd.isNone with
     |true=>False
     |false=>ue h x (T.ty t).size (fun cs=>mU (T.ty t).agg cs (fun v=>zV T h rs ss (fun l=>k (v::l))))
    |_=>False
   | []=>False
  | .tmp _=>False
def EG:List ResultVar->List Nat
 | []=>[]
 | .cell a _::r=>a::EG r
 | .tmp t::r=>t::EG r
theorem uI:∀ {rs:List ResultVar} {k:List Value->Prop},zV T h rs ((EG rs).map fun t=>kg env (.tmp t)) k->lQ T env L h rs k
 | [],k,hr=>hr
 | .tmp _::rs,k,hr=>by unfold zV at hr;exact hr.elim
 | .cell q t::rs,k,hr=>by
  unfold zV at hr;simp only[EG,List.map_cons,kg]at hr;split at hr
  ·rename_i x hx;split at hr
   ·exact hr.elim
   ·rename_i hn;obtain⟨cs,h1,h2⟩:=(show ue _ _ _ _ from hr).out;have h3:ue h x (T.ty t).size fun cs=>mU (T.ty t).agg cs fun x=>lQ T env L h rs fun xs=>k (x::xs):=⟨cs,h1,iQ h2 fun v hv=>uI hv⟩;unfold lQ LZ;cases hk:(T.ty t).kd with
    |none=>rw[hk]at hn;cases hn
    |_=>simp only[hk,hx];exact h3
  ·exact hr.elim
def P9(T:aS)(p:Unit->Program)(rs:List ResultVar)(R:Value->ad->Prop)(ds:List Df)(c:List PanicEntry)(s:List SV)(h:ad):Prop:=
 match ds with
 | [.call g args cap]=>match T.fn g with
  |true=>∃x,c=[{ v:=x,recovered:=false }]/\FnRX p g (args++cap) x h (fun h'=>zV T h' rs s (fun l=>jr l (fun v=>R v h')))
  |false=>False
 |_=>False
def aS.Ow(T:aS)(p:Unit->Program)(rs:List ResultVar)(R:Value->ad->Prop)(ds:List Df):aS:={ T with rs:=EG rs,kp:=P9 T p rs R ds }
def UO(A:Ar)(T:aS)(p:Unit->Program)(c:Code)(ntmps:Nat)(rs:List ResultVar)(args:List Value)(h:ad)(R:Value->ad->Prop):Prop:=
 Gj A (T.Ow p rs R) p c (fun e ds env L h=>match e with
  | .exit _=>False
  |_=>yt T p ds (fun h=>lQ T env L h rs (fun l=>jr l (fun v=>R v h))) h) [] (args.map SV.v++List.replicate (ntmps-args.length) (.v undef)) [] h
theorem Fv(A:Ar)[aX A](hT:dE P T){f:FuncId}{fn:Func}{c:Code}(hf:P.funcs[f]? =some fn)(hb:fn.body=some c)(ho:∀q k,da { T with rs:=q,kp:=k } c=true)(Cu:Aa c=true){args:List Value}{h:ad}{R:Value->ad->Prop}
 (hx:UO A T (fun _=>P) c fn.ntmps fn.results.toList args h R):GK (fun _=>P) f args h R:=by
 refine⟨fun w hw=>?_⟩;refine callsIn_wide.1 (callsIn_of_wp_marks (F:=Fence.wide) (n:=0) hf hb trivial ((wpIn_wide (n:=0)).2 ?_));refine xj (A:=A) (TT:=T.Ow (fun _=>P) fn.results.toList R) (fun _=>⟨hT.ty,hT.fn,hT.mixed⟩) c (fun ds=>ho _ _) (.inl Cu) (ds:=[]) (gD (f:=f) (fn:=fn) hw) hx ?_ fun e D3 bR L' h' lH a' w' h1 h2=>?_
 ·intro ds c' β env L h1 a1 w1 q1 q2;change P9 T (fun _=>P) fn.results.toList R ds c' ((EG fn.results.toList).map fun t=>kg env (.tmp t)) h1 at q1;unfold P9 at q1;split at q1
  ·rename_i g args cap;split at q1
   ·rename_i hg;obtain⟨x,rfl,hr⟩:=q1;have hi:(invoke (.fn (.func g) cap.toArray) args.toArray).run P w1=.ok (.enter g (args++cap).toArray) w1:=by
     have e1:args.toArray++cap.toArray=(args++cap).toArray:=by simp
     simp only[invoke,e1,ke hT hg]
    show LeavesInM Fence.wide 0 P fn a1.tmps _ a1.defers (.panicking _) w1;rw[q2.defers];refine⟨by simp,.inr ⟨fun hd=>by simp[Fence.wide]at hd,_,_,_,_,rfl,hi,fun _ _=>trivial,(hr.out w1 q2.after.vU _).mono fun e u' w' ⟨hu,v,h',he,hR,ha⟩=>?_⟩⟩;subst hu;subst he;obtain⟨v,h3,h4,h5⟩:=oG hT (q2.step ha) (uI hR);exact⟨v,h3,v,h',rfl,h4,h5⟩
   ·exact q1.elim
  ·exact q1.elim
 ·have fin:yt T (fun _=>P) D3 (fun h=>lQ T bR L' h fn.results.toList (fun l=>jr l (fun v=>R v h))) h'->LeavesInM Fence.wide 0 P fn a'.tmps (fun e w'=>∃v h',e=.returned v/\R v h'/\aY h w h' w') a'.defers .returning w':=fun hr=>by
   have:=mw hT _ D3 h2 hr;rw[h2.defers];exact this
  cases e with
  |normal=>exact fin h1
  |ret=>exact fin h1
  |exit id=>exact h1.elim
end Go.Sx
