import Derived.Test.YtekoaiendgjkdaaGreatSxA
import Derived.Tactics
import Derived.Deep.LoopGhost
import Derived.Defers
import Derived.RangeFuncRecord
import Derived.RecoverIn
set_option linter.unusedVariables false
set_option linter.unusedSimpArgs false
set_option linter.unusedSectionVars false
namespace Go.Sx
variable {ro:Option Nat}{n:Nat}
variable {P:Program}{T:bu}{A:Ar}[bM A]
variable {ds:List Deferred}{h0:ad}{w0:World}{β:Nat->Nat}{env:Env}{L:Loc}{h:ad}{a:Act}{w:World}
theorem cXt{ops:List Oper}{env:Env}{o:Oper}{y n y' n':Unit->Prop}(hg:gd ops env o y n)(hy:y ()->y' ())(hn:n ()->n' ()):gd ops env o y' n':=by
 unfold gd at *;repeat' split at hg
 all_goals first
  |exact hy hg
  |exact hn hg
  |exact hg.elim
  | (rcases pq hg with ⟨rfl,hg⟩ | ⟨rfl,hg⟩<;>first|exact hy hg|exact hn hg)
theorem yl(hs:eO ds h0 w0 β env L h a w){ops:Array Oper}{o:Oper}{y n:Unit->Prop}(hg:gd ops.toList env o y n):
 (Region.wanted o (yielded ops a.tmps)=true/\y ())\/(Region.wanted o (yielded ops a.tmps)=false/\n ()):=by
 unfold gd at hg;split at hg
 ·rename_i CE;exact .inl ⟨by simp[Region.wanted,CE],hg⟩
 ·rename_i j want bZM;split at hg
  ·rename_i oj Ty;have Tx:ops[j]? =some oj:=by simpa using Ty
   split at hg
   ·rename_i d hd;split at hg
    ·rename_i b hb;have he:=getD_some hb (by simp);have wC:=hs.slot d _ he;have aP:d<a.tmps.size:=by rw[hs.size];exact(HH.1 he).1
     have wC:a.tmps.getD d undef=.bool b:=wC;have hv:a.tmps[d]? =some (.bool b):=by rw[mXm]at wC;rw[mXR aP]at wC |-;simpa using wC
     have hw:Region.wanted o (yielded ops a.tmps)=(b==want):=by simp[Region.wanted,bZM,yielded,Tx,hd,hv]
     rw[hw];split at hg
     ·rcases pq hg with ⟨rfl,hg⟩ | ⟨rfl,hg⟩
      ·exact .inl ⟨rfl,hg⟩
      ·exact .inr ⟨rfl,hg⟩
     ·rcases pq hg with ⟨rfl,hg⟩ | ⟨rfl,hg⟩
      ·exact .inr ⟨rfl,hg⟩
      ·exact .inl ⟨rfl,hg⟩
    ·rename_i vs hb;have he:=getD_some hb (by simp);have wC:=hs.slot d _ he;have aP:d<a.tmps.size:=by rw[hs.size];exact(HH.1 he).1
     have wC:a.tmps.getD d undef=.tuple vs:=wC;have hv:a.tmps[d]? =some (.tuple vs):=by rw[mXm]at wC;rw[mXR aP]at wC |-;simpa using wC
     exact .inr ⟨by simp[Region.wanted,bZM,yielded,Tx,hd,hv],hg⟩
    ·exact hg.elim
   ·rename_i hd;exact .inr ⟨by simp[Region.wanted,bZM,yielded,Tx,hd],hg⟩
  ·rename_i Ty;have Tx:ops[j]? =none:=by simpa using Ty
   exact .inr ⟨by simp[Region.wanted,bZM,yielded,Tx],hg⟩
theorem sV(hT:gE P T){ops:Array Oper}{K:Env->Loc->ad->Prop}{Q:Exit->Act->World->Prop}
 (mZ:qN T ds h0 w0 Q) (hK:∀dh L' h' uh a' w',K dh L' h'->eO ds h0 w0 uh dh L' h' a' w'->Q .normal a' w'):
 ∀(l:List Oper) (env:Env) (L:Loc) (h:ad) (β:Nat->Nat) (a:Act) (w:World),eO ds h0 w0 β env L h a w->
  JW A T (fun _=>P) ops.toList K l env L h->wpListIn (FW ro) n P ops Q l a w
 | [],env,L,h,β,a,w,hs,hx=>hK _ _ _ _ _ _ hx hs
 |o::r,env,L,h,β,a,w,hs,hx=>by
  unfold JW at hx;unfold wpListIn;rcases yl hs hx with ⟨hw,hx⟩ | ⟨hw,hx⟩
  ·rw[if_pos hw];split at hx
   ·obtain⟨sv,nb,h1,h2⟩:=vH hx;obtain⟨v,w',uh,h3,h4⟩:=Ef hT hs (h2 (fun x y=>x=sv/\y=nb) ⟨rfl,rfl⟩);refine wV h3 ?_;exact sV hT mZ hK r _ _ _ _ _ _ h4 h1
   ·refine Tf hT hs (Lc:=L) (fun _ _ q=>q) hx mZ fun sv v FU L' h' w' h1 h2 h3=>?_;have:FU=L':=by
     rcases h3 with ⟨e1,e2⟩ | ⟨s,c,x,y,-,-,e1,e2⟩
     ·rw[e1,e2]
     ·rw[e1,e2]
    subst this;exact sV hT mZ hK r _ _ _ _ _ _ h2 h1
  ·rw[if_neg (by simp[hw])];refine⟨fun _ _=>trivial,?_⟩;exact sV hT mZ hK r _ _ _ _ _ _ (hs.put (x:=.v undef) (v:=undef) rfl) hx
def oV(o:Oper):Bool:=match o.op with
 | .load .. =>true
 |_=>false
def pL(o:Oper):Bool:=match o.op with
 | .alloc _| .box .. =>true
 |_=>false
def gQ(o:Oper):Bool:=match o.op with
 | .assign _=>true
 |_=>false
theorem pZ{p:Unit->Program}{o:Oper}{ρ Xm:Operand->SV}{L L':Loc}{h h':ad}{k:SV->Option (List Value)->Prop}(hk:kG A T p o ρ L h k)
 (iF:∀x∈o.op.operands.toList,Xm x=ρ x) (hL:oV o=true->∀x∈o.op.operands.toList,∀s off,ρ x=.loc s off->∀c,mM L s=some c->mM L' s=some c)
 (hb:pL o=true->∀d,o.dst=some d->mM L' d=none) (hh:oV o=true->h'=h):kG A T p o Xm L' h' k:=by
 unfold kG at hk |-;split at hk;case h_1 x ho=>simp only[ho]at iF |-;rw[iF x (by simp[Op.operands])];exact hk
 case h_2 c x y ho=>simp only[ho]at iF |-;rw[iF c (by simp[Op.operands]),iF x (by simp[Op.operands]),iF y (by simp[Op.operands])];exact hk
 case h_3 e ho=>
  have oz:=hb (by simp[pL,ho]);simp only[ho]at iF |-;split at hk
  ·exact hk.elim
  ·split at hk
   ·exact hk.elim
   ·rename_i d hd;split at hk
    ·simp only[oz d hd];exact hk
    ·exact hk.elim
 case h_4 e x ho=>
  have oz:=hb (by simp[pL,ho]);simp only[ho]at iF |-;rw[iF x (by simp[Op.operands])];split at hk
  ·exact hk.elim
  ·rename_i d hd;split at hk
   ·split at hk
    ·simp only[oz d hd];exact hk
    ·exact hk.elim
   ·exact hk.elim
 case h_5 t x ho=>
  have gKh:=hL (by simp[oV,ho]);have kKA:=hh (by simp[oV,ho]);subst kKA;simp only[ho]at iF gKh |-;rw[iF x (by simp[Op.operands])];split at hk
  ·exact hk.elim
  ·split at hk
   ·rename_i s off hx;split at hk
    ·rename_i c hc;simp only[gKh x (by simp[Op.operands]) s off hx c hc];exact hk
    ·exact hk.elim
   ·exact hk
   ·exact hk.elim
 case h_6 x ho=>simp only[ho]at iF |-;rw[iF x (by simp[Op.operands])];exact hk
 case h_7 t x f ho=>simp only[ho]at iF |-;rw[iF x (by simp[Op.operands])];exact hk
 case h_8 t x i ho=>simp only[ho]at iF |-;rw[iF x (by simp[Op.operands]),iF i (by simp[Op.operands])];exact hk
 case h_9 t x i ho=>simp only[ho]at iF |-;rw[iF x (by simp[Op.operands]),iF i (by simp[Op.operands])];exact hk
 case h_10 t x f ho=>simp only[ho]at iF |-;rw[iF x (by simp[Op.operands])];exact hk
 case h_11 x i ho=>simp only[ho]at iF |-;rw[iF x (by simp[Op.operands])];exact hk
 case h_12 t parts ho=>
  simp only[ho]at iF |-;have:∀l:List (Nat×Operand),(∀q∈l,Xm q.2=ρ q.2)->pY Xm l=pY ρ l:=fun l=>by
   induction l with
   |nil=>intro _;rfl
   |cons q r ih=>intro hq;obtain⟨i,x⟩:=q;unfold pY;rw[hq (i,x) (by simp),ih (fun q iQB=>hq q (by simp[iQB]))]
  rw[this parts.toList (fun q hq=>iF q.2 (by simp only[Op.operands,mQO];exact⟨q,hq,rfl⟩))];exact hk
 case h_13 op t x y ty ho=>simp only[ho]at iF |-;rw[iF x (by simp[Op.operands]),iF y (by simp[Op.operands])];exact hk
 case h_14 op t x ho=>simp only[ho]at iF |-;rw[iF x (by simp[Op.operands])];exact hk
 case h_15 s d x ho=>simp only[ho]at iF |-;rw[iF x (by simp[Op.operands])];exact hk
 case h_16 t x ho=>simp only[ho]at iF |-;rw[iF x (by simp[Op.operands])];exact hk
 case h_17 fn f c ho=>
  simp only[ho]at iF |-;rw[mXE (g:=ρ) (fun x hx=>iF x (by simp only[Op.operands,mJs,mQv];exact .inl hx)),
   mXE (l:=c.toList) (g:=ρ) (fun x hx=>iF x (by simp only[Op.operands,mJs,mQv];exact .inr hx))]
  exact hk
 case h_18 t x lo hi mx ho=>
  simp only[ho]at iF |-;have hs:∀y:Option Operand,(∀z,y=some z->Xm z=ρ z)->bJV Xm y=bJV ρ y:=fun y hy=>by
   cases y with
   |none=>rfl
   |some z=>simp only[bJV,hy z rfl]
  rw[hs lo (fun z hz=>iF z (by simp[Op.operands,hz])),hs hi (fun z hz=>iF z (by simp[Op.operands,hz])),hs mx (fun z hz=>iF z (by simp[Op.operands,hz])),
   iF x (by simp[Op.operands])]
  exact hk
 case h_19 b args argTypes ho=>simp only[ho]at iF |-;rw[mXE (g:=ρ) (fun x hx=>iF x (by simp[Op.operands,Call.operands];simpa using hx))];exact hk
 case h_20 x q as ok ho=>simp only[ho]at iF |-;rw[iF x (by simp[Op.operands])];exact hk
 case h_21=>exact hk.elim
theorem aKe{p:Unit->Program}{o:Oper}{ρ Xm:Operand->SV}{L:Loc}{h:ad}{k:SV->Loc->ad->Prop}(hk:hx A T p o ρ L h k)
 (iF:∀x∈o.op.operands.toList,Xm x=ρ x) (hKQ:∀t∈T.rs,Xm (.tmp t)=ρ (.tmp t)):hx A T p o Xm L h k:=by
 have PK:(T.rs.map fun t=>Xm (.tmp t))=(T.rs.map fun t=>ρ (.tmp t)):=mXE hKQ;unfold hx at hk |-;split at hk;case h_1 x ho=>simp only[ho]at iF |-;rw[iF x (by simp[Op.operands])];exact hk
 case h_2 t x y ho=>simp only[ho]at iF |-;rw[iF x (by simp[Op.operands]),iF y (by simp[Op.operands])];exact hk
 case h_3 e ho=>simp only[ho]at iF |-;exact hk
 case h_4 e x ho=>simp only[ho]at iF |-;rw[iF x (by simp[Op.operands])];exact hk
 case h_5 t len parts ho=>
  simp only[ho]at iF |-;have:∀l:List (Nat×Operand),(∀q∈l,Xm q.2=ρ q.2)->pY Xm l=pY ρ l:=fun l=>by
   induction l with
   |nil=>intro _;rfl
   |cons q r ih=>intro hq;obtain⟨i,x⟩:=q;unfold pY;rw[hq (i,x) (by simp),ih (fun q iQB=>hq q (by simp[iQB]))]
  rw[this parts.toList (fun q hq=>iF q.2 (by simp only[Op.operands,mQO];exact⟨q,hq,rfl⟩))];exact hk
 case h_6 t x y ho=>simp only[ho]at iF |-;rw[iF x (by simp[Op.operands]),iF y (by simp[Op.operands])];exact hk
 case h_7 t r ho=>simp only[ho]at iF |-;exact hk
 case h_8 f args argTypes ho=>simp only[ho]at iF |-;rw[iF f (by simp[Op.operands,Call.operands]),mXE (g:=ρ) (fun x hx=>iF x (by simp[Op.operands,Call.operands];right;simpa using hx)),PK];exact hk
 case h_9 b args argTypes ho=>simp only[ho]at iF |-;rw[mXE (g:=ρ) (fun x hx=>iF x (by simp[Op.operands,Call.operands];simpa using hx))];exact hk
 case h_10 src dst x ho=>simp only[ho]at iF |-;rw[iF x (by simp[Op.operands])];exact hk
 case h_11 t x i b ho=>simp only[ho]at iF |-;rw[iF x (by simp[Op.operands]),iF i (by simp[Op.operands])];exact hk
 case h_12 t m i x ho=>simp only[ho]at iF |-;rw[iF m (by simp[Op.operands]),iF i (by simp[Op.operands]),iF x (by simp[Op.operands])];exact hk
 case h_13 t m i ho=>simp only[ho]at iF |-;rw[iF m (by simp[Op.operands]),iF i (by simp[Op.operands])];exact hk
 case h_14 t m i x ho=>simp only[ho]at iF |-;rw[iF m (by simp[Op.operands]),iF i (by simp[Op.operands]),iF x (by simp[Op.operands])];exact hk
 case h_15 t x ho=>simp only[ho]at iF |-;rw[iF x (by simp[Op.operands])];exact hk
 case h_16 it str ho=>simp only[ho]at iF |-;rw[iF it (by simp[Op.operands])];exact hk
 case h_17 it ho=>simp only[ho]at iF |-;rw[iF it (by simp[Op.operands])];exact hk
 case h_18 t m i x ho=>simp only[ho]at iF |-;rw[iF m (by simp[Op.operands]),iF i (by simp[Op.operands]),iF x (by simp[Op.operands])];exact hk
 case h_19 x ho=>simp only[ho]at iF |-;rw[iF x (by simp[Op.operands]),PK];exact hk
 case h_20=>exact hk.elim
variable {P:Program}{T:bu}{A:Ar}[bM A]
variable {ds:List Deferred}{h0:ad}{w0:World}
def mL(o:Oper):List Nat:=(o.after.toList.filter fun e=>Region.binds .any e).map (·.on)
def Ab(T:bu)(ops:Array Oper):Bool:=
 (List.range ops.size).all fun i=>match ops[i]? with
  |none=>false
  |some oi=>(mL oi).all (fun e=>decide (e<i))&&
   (match oi.dst with|none=>true|some d=> !nN T oi|| !(oi.looksAt ops).contains d)&&
   (List.range ops.size).all fun j=>i==j||match ops[j]? with
    |none=>false
    |some oj=>match oi.dst with
     |none=>true
     |some d=>oj.dst !=some d&&(!(oj.looksAt ops).contains d||(mL oj).contains i||(!nN T oi&&(mL oi).contains j))
def aZh(T:bu)(ops:Array Oper):Bool:=ops.toList.all fun o=>match o.dst with
 |some d=> !T.rs.contains d
 |none=>true
theorem Yg{T:bu}{ops:Array Oper}(h:aZh T ops=true){i:Nat}{o:Oper}(hi:ops[i]? =some o){t:Nat}(ht:t∈T.rs):o.dst≠some t:=fun hd=>by
 unfold aZh at h;rw[mXf]at h;have h1:=h o (by
  obtain⟨hl,rfl⟩:=mXr.1 hi;simp)
 rw[hd]at h1;simp[ht]at h1
def mB(ops:Array Oper):Nat->List Nat->List Nat
 |0,s=>s
 |i+1,s=>mB ops i (if s.contains i then(match ops[i]? with|some o=>mL o|none=>[])++s else s)
def wo:zX->List Nat
 | .av i _ _=>[i]
 | .fork l r=>wo l++wo r
 |_=>[]
def Nn(ops:Array Oper)(p:zX)(listed:List Nat):Bool:=
 (List.range ops.size).all fun j=>listed.contains j||(wo p).contains j||match ops[j]? with
  |some o=> !(mL o).all listed.contains
  |none=>true
def Ge(T:bu)(ops:Array Oper):zX->Bool->List Nat->List Nat->List Nat->Bool
 | .done,br,listed,_,_=> !br&&(List.range ops.size).all listed.contains
 | .aa i rest,br,listed,pend,known=> !br&& !listed.contains i&&(match ops[i]? with
  |some o=>nN T o&&(mL o).all listed.contains
  |none=>false)&&Ge T ops rest false (i::listed) (i::pend) known
 | .av i pn rest,br,listed,pend,known=>(br||Nn ops (.av i pn rest) listed)&& !listed.contains i&&(match ops[i]? with
  |some o=> !nN T o&&(gQ o||pend.all fun j=>(mB ops ops.size (i::known)).contains j||pn.contains j||(match ops[j]? with
   |some oj=> !oV oj
   |none=>true))
  |none=>false)&&
  Ge T ops rest false (i::listed) (pend.filter fun j=> !(mB ops ops.size (i::known)).contains j) (mB ops ops.size (i::known))
 | .fork l r,br,listed,pend,known=>(br||Nn ops (.fork l r) listed)&&Ge T ops l true listed pend known&&Ge T ops r true listed pend known
theorem rI{ops:Array Oper}(hr:Ab T ops=true){i:Nat}{oi:Oper}(hi:ops[i]? =some oi):
 (∀e∈mL oi,e<i)/\(nN T oi=true->∀d,oi.dst=some d->d∉oi.looksAt ops)/\∀j oj,i≠j->ops[j]? =some oj->∀d,oi.dst=some d->oj.dst≠some d/\
  (d∈oj.looksAt ops->i∈mL oj\/(nN T oi=false/\j∈mL oi)):=by
 unfold Ab at hr;rw[mXf]at hr;have aP:i<ops.size:=(mXr.1 hi).1;have h1:=hr i (by simpa using aP);simp only[hi,mQG,mXf,mQD]at h1;refine⟨h1.1.1,fun hl d hd=>?_,fun j oj ch hj d hd=>?_⟩
 ·have:=h1.1.2;simp only[hd,hl,mKu,mZx,mZm,mZk,decide_eq_false_iff_not]at this;exact this
 have h2:=h1.2 j (by simpa using (mXr.1 hj).1);simp only[hj,hd,mZQ,beq_iff_eq,mQG,bne_iff_ne,mZm,mZk,mQD,decide_eq_false_iff_not]at h2;rcases h2 with h2| ⟨h2,h3⟩
 ·exact absurd h2 ch
 ·refine⟨h2,fun hm=>?_⟩;rcases h3 with (h3|h3) | ⟨h3,h4⟩
  ·exact absurd hm h3
  ·exact .inl h3
  ·exact .inr ⟨h3,h4⟩
def In(X:Array Bool)(i:Nat):Prop:=X.getD i false=true
theorem In.set{X:Array Bool}{i j:Nat}(hi:i<X.size):In (X.setIfInBounds i true) j↔i=j\/In X j:=by
 unfold In;simp only[mXm,nQf];by_cases h:i=j
 ·subst h;simp[hi]
 ·simp[h]
theorem Kw{o:Oper}{i:Nat}:i∈mL o↔∃e∈o.after,Region.binds .any e=true/\e.on=i:=by simp[mL,and_assoc]
theorem DX{ops:Array Oper}{X:Array Bool}(hX:X.size=ops.size){j:Nat}:
 j∈Region.ready .any ops X↔¬In X j/\∃o,ops[j]? =some o/\∀e∈mL o,In X e:=by
 rw[mem_ready];constructor
 ·rintro⟨h1,o,ho,h2⟩;have aP:j<X.size:=by rw[hX];exact(mXr.1 ho).1
  refine⟨?_,o,ho,fun e he=>?_⟩
  ·unfold In;rw[mXm,mXR aP]at h1 |-;simp at h1 |-;exact h1
  ·obtain⟨e',h3,h4,rfl⟩:=Kw.1 he;exact h2 e' h3 h4
 ·rintro⟨h1,o,ho,h2⟩;have aP:j<X.size:=by rw[hX];exact(mXr.1 ho).1
  refine⟨?_,o,ho,fun e he hb=>h2 e.on (Kw.2 ⟨e,he,hb,rfl⟩)⟩;unfold In at h1;rw[mXm,mXR aP]at h1 |-;simp at h1 |-;exact h1
theorem IJ{ops:Array Oper}{X:Array Bool}(hd:∀i o,In X i->ops[i]? =some o->∀e∈mL o,In X e):
 ∀(n:Nat) (s:List Nat),(∀i∈s,In X i)->∀i∈mB ops n s,In X i
 |0,s,hs=>hs
 |n+1,s,hs=>by
  unfold mB;refine IJ hd n _ fun i hi=>?_;split at hi
  ·rename_i hc;rcases mQv.1 hi with hi|hi
   ·cases ho:ops[n]? with
    |none=>rw[ho]at hi;cases hi
    |some o=>rw[ho]at hi;exact hd n o (hs n (by simpa using hc)) ho i hi
   ·exact hs i hi
  ·exact hs i hi
structure sN where
 i:Nat
 o:Oper
 sv:SV
 nb:Option (List Value)
def sN.fact(A:Ar)(T:bu)(P:Program)(ops:Array Oper)(env:Env)(L:Loc)(h:ad)(x:sN):Prop:=
 gd ops.toList env x.o (fun _=>kG A T (fun _=>P) x.o (rq env) (if pL x.o then []else L) h (fun a b=>a=x.sv/\b=x.nb)) (fun _=>x.sv=.v undef/\x.nb=none)
structure jH(A:Ar)(T:bu)(P:Program)(ops:Array Oper)(X:Array Bool)(D:List sN)(listed pend known:List Nat)(envc:Env)(Lc:Loc)(kT:Env)(La:Loc)(h:ad):Prop where
 size:X.size=ops.size
 dZU:∀j,j∈listed↔In X j\/∃x∈D,x.i=j
 apart:∀x∈D,¬In X x.i
 down:∀i o,In X i->ops[i]? =some o->∀e∈mL o,In X e
 known:∀i∈known,In X i
 pend:∀x∈D,x.i∈pend
 len:kT.length=envc.length
 env:∀t,(∀x∈D,x.o.dst≠some t)->kT[t]? =envc[t]?
 dst:∀x∈D,∀t,x.o.dst=some t->t<envc.length->envc[t]? =some x.sv
 loc:∀s,(∀x∈D,x.nb.isSome=true->x.o.dst≠some s)->mM La s=mM Lc s
 box:∀x∈D,∀s c,x.nb=some c->x.o.dst=some s->mM La s=none/\mM Lc s=some c
 op:∀x∈D,ops[x.i]? =some x.o/\nN T x.o=true
 eKy:∀x∈D,∀e∈mL x.o,e∈listed
 uniq:∀x∈D,∀y∈D,x.i=y.i->x=y
 fact:∀x∈D,x.fact A T P ops envc Lc h
theorem CL{ops:List Oper}{env:Env}{o:Oper}{y n:Unit->Prop}(hg:gd ops env o y n):
 (y ()/\∀y' n':Unit->Prop,gd ops env o y' n'↔y' ())\/(n ()/\∀y' n':Unit->Prop,gd ops env o y' n'↔n' ()):=by
 unfold gd at *;repeat' split at hg
 all_goals first
  |exact hg.elim
  |exact .inl ⟨hg,fun _ _=>Iff.rfl⟩
  |exact .inr ⟨hg,fun _ _=>Iff.rfl⟩
  | (rcases pq hg with ⟨rfl,hg⟩ | ⟨rfl,hg⟩<;>first
   |exact .inl ⟨hg,fun _ _=>Iff.rfl⟩
   |exact .inr ⟨hg,fun _ _=>Iff.rfl⟩)
theorem Io{ops:Array Oper}{env dh:Env}{o:Oper}{y n:Unit->Prop}(hg:gd ops.toList env o y n)(he:∀t∈o.looksAt ops,dh[t]? =env[t]?):
 gd ops.toList dh o y n:=by
 have key:∀(j:Nat) (want:Bool),o.guard=some (j,want)->∀oj,ops.toList[j]? =some oj->∀d,oj.dst=some d->dh.getD d .u=env.getD d .u:=fun j want bZM oj Ty d hd=>by
  rw[mXv,mXv,he d ?_];unfold Oper.looksAt;refine mZw _ ?_;have Tx:ops[j]? =some oj:=by simpa using Ty
  simp[bZM,Tx,hd]
 unfold gd at hg |-;cases bZM:o.guard with
 |none=>simp only[bZM]at hg;exact hg
 |some jw=>
  obtain⟨j,want⟩:=jw;simp only[bZM]at hg |-;cases Ty:ops.toList[j]? with
  |none=>simp only[Ty]at hg;exact hg
  |some oj=>
   simp only[Ty]at hg |-;cases hd:oj.dst with
   |none=>simp only[hd]at hg;exact hg
   |some d=>simp only[hd]at hg |-;rw[key j want bZM oj Ty d hd];exact hg
theorem BL{ops:Array Oper}{env dh:Env}{o:Oper}(he:∀t∈o.looksAt ops,dh[t]? =env[t]?):∀x∈o.op.operands.toList,rq dh x=rq env x:=fun x hx=>by
 cases x with
 |tmp t=>show dh.getD t .u=env.getD t .u;rw[mXv,mXv,he t ?_];unfold Oper.looksAt;exact mXK _ (List.mem_filterMap.2 ⟨.tmp t,hx,rfl⟩)
 |const v=>rfl
 |global g=>rfl
 |func f=>rfl
theorem nE{env:Env}{d:Option Nat}{x:SV}{t:Nat}(h:d≠some t):(put env d x)[t]? =env[t]? :=by
 cases d with
 |none=>rfl
 |some u=>simp only[put];rw[mZP (fun e=>h (by rw[e]))]
theorem BO{env:Env}{t:Nat}{x:SV}(h:t<env.length):(put env (some t) x)[t]? =some x:=by simp only[put];rw[mZj h]
theorem pw{env:Env}{d:Option Nat}{x:SV}:(put env d x).length=env.length:=by cases d<;>simp[put]
theorem aZl{g:Bool}{cs:List Value}{q:Prop}(h:uF g cs (fun _=>q)):q:=(nD h).elim fun _ h=>h.2
theorem fQs{h:ad}{x:Addr}{n:Nat}{g:Bool}{q:Prop}(hk:Bn h x n (fun cs=>uF g cs (fun _=>q))):q:=hk.out.elim fun _ h=>aZl h.2
theorem dXM{p:Unit->Program}{s:Unit->Sem Value}{q:Prop}(h:EG p s (fun _=>q)):q:=h.out.elim fun _ h=>h.2
theorem fJH{p:Unit->Prop}{q:Prop}(h:wI p (fun _=>q)):q:=h.out
theorem aXR{b:Option Addr}{len cap size:Nat}{l hh m:Option Int}{q:Prop}(h:GV A b len cap size l hh m (fun _=>q)):q:=(AK h).elim fun _ h=>h.1
theorem aXS{s:ByteArray}{l hh:Option Int}{q:Prop}(h:GW A s l hh (fun _=>q)):q:=(AM h).elim fun _ h=>h.1
theorem eXm{op:BinOp}{a b:Value}{e:(Value->Prop)->Unit->Prop}(he:∀k,e k ()->∃v,k v/\∀k':Value->Prop,k' v->e k' ()){q:Prop}(hk:QZ A op a b (fun _=>q) (e (fun _=>q))):q:=(IM he hk).elim fun _ h=>h.1
theorem eXl{op:BinOp}{a b:Value}{p:Unit->Program}{s:Unit->Sem Value}{q:Prop}(hk:QZ A op a b (fun _=>q) (fun _=>EG p s (fun _=>q))):q:=
 eXm (e:=fun k _=>EG p s k) (fun k h=>by
  obtain⟨v,g1,g2⟩:=h.out;exact⟨v,g2,fun k' h'=>⟨v,g1,h'⟩⟩) hk
theorem AX{p:Unit->Program}{o:Oper}{ρ:Operand->SV}{L:Loc}{h:ad}{sv:SV}{nb:Option (List Value)}(hk:kG A T p o ρ L h (fun a b=>a=sv/\b=nb)):
 (pL o=true->nb.isSome=true/\∃d,o.dst=some d/\mM L d=none)/\(pL o=false->nb=none):=by
 obtain⟨lJj,px,⟨rfl,rfl⟩,aV⟩:=vH hk;clear hk;have h1:=aV (fun a b=>b=px) rfl;clear aV;unfold kG at h1;split at h1;case h_3 e ho=>
  refine⟨fun _=>?_,fun hb=>by simp[pL,ho]at hb⟩;split at h1
  ·exact h1.elim
  ·split at h1
   ·exact h1.elim
   ·rename_i d hd;split at h1
    ·rename_i hl;subst h1;exact⟨rfl,d,hd,hl⟩
    ·exact h1.elim
 case h_4 e x ho=>
  refine⟨fun _=>?_,fun hb=>by simp[pL,ho]at hb⟩;split at h1
  ·exact h1.elim
  ·rename_i d hd;split at h1
   ·split at h1
    ·rename_i hl;subst h1;exact⟨rfl,d,hd,hl⟩
    ·exact h1.elim
   ·exact h1.elim
 case h_21=>exact h1.elim
 all_goals
  rename_i ho;refine⟨fun hb=>by simp[pL,ho]at hb,fun _=>?_⟩;clear ho;repeat' split at h1
  all_goals first
   |exact h1.elim
   |exact Eq.symm h1
   |exact Eq.symm (fQs h1)
   |exact Eq.symm (aZl h1)
   |exact Eq.symm (dXM h1)
   |exact Eq.symm (fJH h1)
   |exact Eq.symm (eXl h1)
   |exact Eq.symm (aXR h1)
   |exact Eq.symm (aXS h1)
variable {ro:Option Nat}{n:Nat}
variable {P:Program}{T:bu}{A:Ar}[bM A]
variable {ds:List Deferred}{h0:ad}{w0:World}{β:Nat->Nat}{h:ad}{a:Act}{w:World}
variable {ops:Array Oper}{X:Array Bool}{D:List sN}{listed pend known:List Nat}{envc kT:Env}{Lc La:Loc}
theorem yB{L:Loc}{d:Option Nat}{nb:Option (List Value)}{s:Nat}:mM (vT L d nb) s=if d=some s/\nb.isSome=true then nb else mM L s:=by
 cases d with
 |none=>simp[vT]
 |some t=>
  cases nb with
  |none=>simp[vT]
  |some c=>simp only[vT,mM];by_cases h:t=s<;>simp[h]
theorem sN.yp{x:sN}{env dh:Env}{L L':Loc}{h h':ad}(hf:x.fact A T P ops env L h)(he:∀t∈x.o.looksAt ops,dh[t]? =env[t]?)
 (hL:oV x.o=true->∀s c,mM L s=some c->mM L' s=some c) (hh:oV x.o=true->h'=h):x.fact A T P ops dh L' h':=by
 unfold sN.fact at *;refine cXt (Io hf he) (fun q=>?_) id;refine pZ q (BL he) (fun hl y hy s off hs c hc=>?_) (fun hb d hd=>?_) hh
 ·split at hc
  ·cases hc
  ·rename_i hb;rw[if_neg hb];exact hL hl s c hc
 ·rw[if_pos hb];rfl
theorem jH.look(hB:jH A T P ops X D listed pend known envc Lc kT La h)(hr:Ab T ops=true){k:Nat}{ok:Oper}(hk:ops[k]? =some ok)(hp:∀e∈mL ok,In X e):
 ∀t∈ok.looksAt ops,kT[t]? =envc[t]? :=fun t ht=>hB.env t fun x hx hd=>by
 obtain⟨ho,hl⟩:=hB.op x hx;obtain⟨-,h1,h2⟩:=rI hr ho;by_cases he:x.i=k
 ·rw[he,hk]at ho;cases ho;exact h1 hl t hd ht
 ·rcases(h2 k ok he hk t hd).2 ht with h3| ⟨h3,-⟩
  ·exact hB.apart x hx (hp _ h3)
  ·rw[hl]at h3;cases h3
theorem jH.sub(hB:jH A T P ops X D listed pend known envc Lc kT La h){s:Nat}{c:List Value}(hl:mM La s=some c):mM Lc s=some c:=by
 rw[<-hB.loc s (fun x hx hn hd=>?_)]
 ·exact hl
 ·obtain⟨c',wG⟩:=mZl.1 hn;rw[(hB.box x hx s c' wG hd).1]at hl;cases hl
theorem jH.cQl(hB:jH A T P ops X D listed pend known envc Lc kT La h){j:Nat}(h:In X j):j∈listed:=(hB.dZU j).2 (.inl h)
theorem jH.take(hB:jH A T P ops X D listed pend known envc Lc kT La h)(hr:Ab T ops=true){i:Nat}{o:Oper}(hi:ops[i]? =some o)(PZ:i∉listed)(aP:nN T o=true)
 (hp:∀e∈mL o,e∈listed) {K:SV->Option (List Value)->Prop} {N:Prop}
 (hx:gd ops.toList envc o (fun _=>kG A T (fun _=>P) o (rq envc) Lc h K) (fun _=>N)):
 ∃sv nb,(K sv nb\/(N/\sv=.v undef/\nb=none))/\jH A T P ops X (⟨i,o,sv,nb⟩::D) (i::listed) (i::pend) known (put envc o.dst sv) (vT Lc o.dst nb) kT La h:=by
 obtain⟨-,fXm,Tr⟩:=rI hr hi;have ch:∀x∈D,i≠x.i:=fun x hx e=>PZ ((hB.dZU i).2 (.inr ⟨x,hx,e.symm⟩));have fXJ:∃sv nb,(K sv nb\/(N/\sv=.v undef/\nb=none))/\sN.fact A T P ops envc Lc h ⟨i,o,sv,nb⟩/\(∀d c,o.dst=some d->nb=some c->mM Lc d=none):=by
  rcases CL hx with ⟨h1,h2⟩ | ⟨h1,h2⟩
  ·obtain⟨sv,nb,h3,h4⟩:=vH h1;have h5:=h4 (fun a b=>a=sv/\b=nb) ⟨rfl,rfl⟩;refine⟨sv,nb,.inl h3,(h2 _ _).2 ?_,fun d c hd hc=>?_⟩
   ·exact pZ h5 (fun _ _=>rfl) (fun hl y _ s off _ c hc=>by
     have:pL o=false:=by cases hq:o.op<;>simp[oV,pL,hq]at hl |-
     simp[this,hc]) (fun hb d hd=>by simp[hb,mM]) (fun _=>rfl)
   ·have hb:=AX h5;cases cQN:pL o with
    |true=>obtain⟨-,d',fZh,hn⟩:=hb.1 cQN;rw[hd]at fZh;cases fZh;exact hn
    |false=>rw[hb.2 cQN]at hc;cases hc
  ·exact⟨.v undef,none,.inr ⟨h1,rfl,rfl⟩,(h2 _ _).2 ⟨rfl,rfl⟩,fun d c _ hc=>by cases hc⟩
 obtain⟨sv,nb,hK,hf,Ib⟩:=fXJ;have dJK:∀x∈D,∀t,o.dst=some t->x.o.dst≠some t:=fun x hx t ht=>(Tr x.i x.o (ch x hx) (hB.op x hx).1 t ht).1;have aKY:∀s c,mM Lc s=some c->mM (vT Lc o.dst nb) s=some c:=fun s c hc=>by
  rw[yB];split
  ·rename_i cKB;obtain⟨c',wG⟩:=mZl.1 cKB.2;rw[Ib s c' cKB.1 wG]at hc;cases hc
  ·exact hc
 refine⟨sv,nb,hK,⟨hB.size,fun j=>?_,fun x hx=>?_,hB.down,hB.known,fun x hx=>?_,by rw[pw];exact hB.len,fun t ht=>?_,fun x hx t hd hlen=>?_,fun s hs=>?_,fun x hx s c hn hd=>?_,
  fun x hx=>?_,fun x hx e he=>?_,fun x hx y hy uP=>?_,fun x hx=>?_⟩⟩
 ·simp only[mQs,hB.dZU j];constructor
  ·rintro(rfl|h1| ⟨x,hx,e⟩)
   ·exact .inr ⟨_,.inl rfl,rfl⟩
   ·exact .inl h1
   ·exact .inr ⟨x,.inr hx,e⟩
  ·rintro(h1| ⟨x,rfl|hx,e⟩)
   ·exact .inr (.inl h1)
   ·exact .inl e.symm
   ·exact .inr (.inr ⟨x,hx,e⟩)
 ·rcases mQs.1 hx with rfl|hx
  ·exact fun fZ=>PZ (hB.cQl fZ)
  ·exact hB.apart x hx
 ·rcases mQs.1 hx with rfl|hx
  ·exact mQE
  ·exact mQQ _ (hB.pend x hx)
 ·rw[nE (ht ⟨i,o,sv,nb⟩ (by simp))];exact hB.env t fun x hx=>ht x (by simp[hx])
 ·rw[pw]at hlen;rcases mQs.1 hx with rfl|hx
  ·simp only at hd;rw[hd,BO hlen]
  ·rw[nE (fun e=>dJK x hx t e hd)];exact hB.dst x hx t hd hlen
 ·rw[yB,if_neg (fun hc=>hs ⟨i,o,sv,nb⟩ (by simp) hc.2 hc.1)];exact hB.loc s fun x hx=>hs x (by simp[hx])
 ·rcases mQs.1 hx with rfl|hx
  ·simp only at hn hd;refine⟨?_,by rw[yB,if_pos ⟨hd,by simp[hn]⟩];exact hn⟩;rw[hB.loc s (fun y hy _ cQL=>dJK y hy s hd cQL)];exact Ib s c hd hn
  ·obtain⟨h1,h2⟩:=hB.box x hx s c hn hd;exact⟨h1,aKY s c h2⟩
 ·rcases mQs.1 hx with rfl|hx
  ·exact⟨hi,aP⟩
  ·exact hB.op x hx
 ·rcases mQs.1 hx with rfl|hx
  ·exact mQQ _ (hp e he)
  ·exact mQQ _ (hB.eKy x hx e he)
 ·rcases mQs.1 hx with rfl|hx<;>rcases mQs.1 hy with rfl|hy
  ·rfl
  ·exact absurd uP (ch y hy)
  ·exact absurd uP.symm (ch x hx)
  ·exact hB.uniq x hx y hy uP
 ·rcases mQs.1 hx with rfl|hx
  ·exact sN.yp hf (fun t ht=>nE (fun e=>fXm aP t e ht)) (fun _=>aKY) (fun _=>rfl)
  ·refine sN.yp (hB.fact x hx) (fun t ht=>nE (fun e=>?_)) (fun _=>aKY) (fun _=>rfl);rcases(Tr x.i x.o (ch x hx) (hB.op x hx).1 t e).2 ht with h3| ⟨h3,-⟩
   ·exact PZ (hB.eKy x hx i h3)
   ·rw[aP]at h3;cases h3
theorem jH.catch(hT:gE P T)(hB:jH A T P ops X D listed pend known envc Lc kT La h)(hr:Ab T ops=true)(hs:eO ds h0 w0 β kT La h a w){x:sN}(hx:x∈D)
 (hp:∀e∈mL x.o,In X e) {Q:Exit->Act->World->Prop} {K:Act->World->Prop}
 (hK:∀uh a' w' Lg bJe,eO ds h0 w0 uh Lg bJe h a' w'->jH A T P ops (X.setIfInBounds x.i true) (D.filter fun y=>y.i !=x.i) listed pend known envc Lc Lg bJe h->K a' w'):
 wpOpIn (FW ro) n P ops Q x.i K a w:=by
 obtain⟨ho,aP⟩:=hB.op x hx;have HZ:=hB.look hr ho hp;have VY:x.i<X.size:=by rw[hB.size];exact(mXr.1 ho).1
 have fV:∀y,(y∈D.filter fun y=>y.i !=x.i)↔y∈D/\y.i≠x.i:=fun y=>by simp
 have tY:∀uh v,eO ds h0 w0 uh (put kT x.o.dst x.sv) (vT La x.o.dst x.nb) h (a.put x.o.dst v) w->True:=fun _ _ _=>trivial;have fin:jH A T P ops (X.setIfInBounds x.i true) (D.filter fun y=>y.i !=x.i) listed pend known envc Lc (put kT x.o.dst x.sv) (vT La x.o.dst x.nb) h:=by
  obtain⟨-,-,Tr⟩:=rI hr ho;have dJK:∀y∈D,y.i≠x.i->∀t,x.o.dst=some t->y.o.dst≠some t:=fun y hy ch t ht=>(Tr y.i y.o (Ne.symm ch) (hB.op y hy).1 t ht).1;refine⟨by simp[hB.size],fun j=>?_,fun y hy=>?_,fun i o fZ dKu e he=>?_,fun i hi=>?_,fun y hy=>hB.pend y ((fV y).1 hy).1,by rw[pw];exact hB.len,fun t ht=>?_,
   fun y hy=>hB.dst y ((fV y).1 hy).1,fun s KG=>?_,fun y hy s c hn hd=>?_,fun y hy=>hB.op y ((fV y).1 hy).1,fun y hy=>hB.eKy y ((fV y).1 hy).1,
   fun y hy z hz=>hB.uniq y ((fV y).1 hy).1 z ((fV z).1 hz).1,fun y hy=>hB.fact y ((fV y).1 hy).1⟩
  ·rw[hB.dZU j,In.set VY];constructor
   ·rintro(h1| ⟨y,hy,e⟩)
    ·exact .inl (.inr h1)
    ·by_cases Nz:y.i=x.i
     ·exact .inl (.inl (by rw[<-Nz,e]))
     ·exact .inr ⟨y,(fV y).2 ⟨hy,Nz⟩,e⟩
   ·rintro((h1|h1) | ⟨y,hy,e⟩)
    ·exact .inr ⟨x,hx,h1⟩
    ·exact .inl h1
    ·exact .inr ⟨y,((fV y).1 hy).1,e⟩
  ·rw[In.set VY];obtain⟨h1,h2⟩:=(fV y).1 hy;rintro(e|e)
   ·exact h2 e.symm
   ·exact hB.apart y h1 e
  ·rw[In.set VY]at fZ |-;rcases fZ with e'|fZ
   ·subst e';rw[ho]at dKu;cases dKu;exact .inr (hp e he)
   ·exact .inr (hB.down i o fZ dKu e he)
  ·rw[In.set VY];exact .inr (hB.known i hi)
  ·by_cases hd:x.o.dst=some t
   ·by_cases hlen:t<envc.length
    ·rw[hd,BO (by rw[hB.len];exact hlen),hB.dst x hx t hd hlen]
    ·have e1:(put kT x.o.dst x.sv).length<=t:=by rw[pw,hB.len];exact mJl hlen
     rw[mXL e1,mXL (mJl hlen)]
   ·rw[nE hd];refine hB.env t fun y hy cQL=>?_;by_cases Nz:y.i=x.i
    ·rw[hB.uniq y hy x hx Nz]at cQL;exact hd cQL
    ·exact ht y ((fV y).2 ⟨hy,Nz⟩) cQL
  ·rw[yB];split
   ·rename_i hc;obtain⟨c,wG⟩:=mZl.1 hc.2;rw[(hB.box x hx s c wG hc.1).2,wG]
   ·rename_i hc;refine hB.loc s fun y hy hn cQL=>?_;by_cases Nz:y.i=x.i
    ·rw[hB.uniq y hy x hx Nz]at cQL hn;exact hc ⟨cQL,hn⟩
    ·exact KG y ((fV y).2 ⟨hy,Nz⟩) hn cQL
  ·obtain⟨h1,h2⟩:=(fV y).1 hy;obtain⟨h3,h4⟩:=hB.box y h1 s c hn hd;refine⟨?_,h4⟩;rw[yB,if_neg (fun hc=>dJK y h1 h2 s hc.1 hd)];exact h3
 have hf:=hB.fact x hx;unfold sN.fact at hf;have Wp:=Io hf HZ;unfold wpOpIn;simp only[ho];rcases yl hs Wp with ⟨hw,hl⟩ | ⟨hw,hl⟩
 ·rw[if_pos hw];have TI:kG A T (fun _=>P) x.o (rq kT) La h (fun a b=>a=x.sv/\b=x.nb):=by
   refine pZ hl (BL HZ) (fun cQG y hy s off dJP c hc=>?_) (fun hb d hd=>?_) (fun _=>rfl)
   ·have:pL x.o=false:=by cases hq:x.o.op<;>simp[oV,pL,hq]at cQG |-
    rw[this]at hc;simp only[mXY,if_false]at hc;have kJJ:rq kT y=.loc s off:=by rw[BL HZ y hy];exact dJP
    obtain⟨⟨c',wG⟩,-⟩:=hs.uV kJJ;have:=hB.sub wG;rw[hc]at this;cases this;exact wG
   ·obtain⟨h1,d',fZh,-⟩:=(AX hl).1 hb;obtain⟨c,hc⟩:=mZl.1 h1;exact(hB.box x hx d c hc hd).1
  obtain⟨v,w',uh,h3,h4⟩:=Ef hT hs TI;refine wV h3 ?_;exact hK _ _ _ _ _ h4 fin
 ·rw[if_neg (by simp[hw])];obtain⟨e1,e2⟩:=hl;have nW:vT La x.o.dst x.nb=La:=by rw[e2];unfold vT;cases x.o.dst<;>rfl
  rw[nW,e1]at fin;refine⟨fun _ _=>trivial,?_⟩;exact hK _ _ _ _ _ (hs.put (x:=.v undef) (v:=undef) rfl) fin
variable {ro:Option Nat}{n:Nat}
variable {P:Program}{T:bu}{A:Ar}[bM A]
variable {ds:List Deferred}{h0:ad}{w0:World}{β:Nat->Nat}{h:ad}{a:Act}{w:World}
variable {ops:Array Oper}{X:Array Bool}{D:List sN}{listed pend known:List Nat}{envc kT:Env}{Lc La:Loc}
theorem Rn.mono{h:ad}{y:Addr}{cs:List Value}{k k':ad->Prop}(x:Rn h y cs k)(hk:∀h',k h'->k' h'):Rn h y cs k':=by obtain⟨c,e,fr,g1,g2,g3,g4,g5⟩:=x.out;exact⟨c,e,fr,g1,g2,g3,g4,fun h' e=>hk _ (g5 h' e)⟩
theorem dQA.mono{h:ad}{y:Option Addr}{cs:List Value}{k k':ad->Prop}(x:dQA h y cs k)(hk:∀h',k h'->k' h'):dQA h y cs k':=by
 rcases x with ⟨h1,h2⟩ | ⟨q,h1,h2⟩
 ·exact .inl ⟨h1,hk _ h2⟩
 ·exact .inr ⟨q,h1,h2.mono hk⟩
theorem Jc.mono{h:ad}{b:Option Addr}{len cap n size bytes e:Nat}{new:List Value}{k k':Value->ad->Prop}(x:Jc h b len cap n size bytes e new k)(hk:∀v h',k v h'->k' v h'):
 Jc h b len cap n size bytes e new k':=
 ⟨x.one,fun hc=>(x.fits hc).mono (fun _ q=>hk _ _ q),fun hc=>by
  obtain⟨h1,h2,aZL,h3,h4⟩:=x.cKO hc;exact⟨h1,h2,aZL,h3,fun nb c h' rest e1 e2 e3 e4=>hk _ _ (h4 nb c h' rest e1 e2 e3 e4)⟩⟩
theorem Aw.mono{h:ad}{e:Nat}{l c:Int}{bytes:Nat}{z:List Value}{k k':Value->ad->Prop}(x:Aw h e l c bytes z k)(hk:∀v h',k v h'->k' v h'):Aw h e l c bytes z k':=
 ⟨x.len,x.room,fun nb h' e1 e2=>hk _ _ (x.out nb h' e1 e2)⟩
theorem iU.mono{h:ad}{b:Option Addr}{len cap:Nat}{x:Option Addr}{n size bytes e:Nat}{k k':Value->ad->Prop}(q:iU h b len cap x n size bytes e k)(hk:∀v h',k v h'->k' v h'):
 iU h b len cap x n size bytes e k':=by
 obtain⟨new,h1,h2⟩:=q.out;exact⟨new,h1,h2.mono hk⟩
theorem Ja.mono{h:ad}{b:Option Addr}{len:Nat}{x:Option Addr}{n size:Nat}{k k':Value->ad->Prop}(q:Ja h b len x n size k)(hk:∀v h',k v h'->k' v h'):
 Ja h b len x n size k':=by
 obtain⟨cs,h1,h2,h3⟩:=q.out;exact⟨cs,h1,h2,h3.mono fun h'=>hk _ h'⟩
theorem Bo.mono{h:ad}{b:Option Addr}{len:Nat}{z:List Value}{k k':ad->Prop}(q:Bo h b len z k)(hk:∀h',k h'->k' h'):Bo h b len z k':=
 ⟨q.one,q.out.mono hk⟩
theorem fW.mono{p:Unit->Program}{s:Unit->Sem Value}{h:ad}{k k':Value->ad->Prop}(q:fW p s h k)(hk:∀v h',k v h'->k' v h'):fW p s h k':=
 ⟨fun w hw=>by
  obtain⟨v,w',h',h1,h2,h3⟩:=q.out w hw;exact⟨v,w',h',h1,hk _ _ h2,h3⟩⟩
theorem wI.mono{p k k':Unit->Prop}(q:wI p k)(hk:k ()->k' ()):wI p k':=⟨q.h,hk q.out⟩
theorem cZH.mono{p:Unit->Program}{l:Nat}{args:List Value}{h:ad}{R R':Value->ad->Prop}(x:cZH p l args h R)(hr:∀v h',R v h'->R' v h'):cZH p l args h R':=
 ⟨fun w hw=>by
  obtain⟨fn,tmps,Fk,body,h1,h2⟩:=x.out w hw;exact⟨fn,tmps,Fk,body,h1,fun n=>(h2 n).mono fun e w' ⟨v,h',e1,e2,e3⟩=>⟨v,h',e1,hr _ _ e2,e3⟩⟩⟩
theorem dJC{p:Unit->Program}{o:Oper}{ρ:Operand->SV}{L:Loc}{h:ad}{k:SV->Loc->ad->Prop}(hk:hx A T p o ρ L h k)(F:Loc->ad->Prop)
 (hA:gQ o=true->F L h) (hN:gQ o=false->iu o=false->∀h',F L h') (hS:iu o=true->∀L' h',F L' h'):
 hx A T p o ρ L h (fun x L' h'=>k x L' h'/\F L' h'):=by
 unfold hx at hk |-;split at hk
 case h_1 x ho=>try simp only[ho]
                exact⟨hk,hA (by simp[gQ,ho])⟩
 case h_2 t q x ho=>
  have jZr:=hS (by simp[iu,ho]);try simp only[ho]
  repeat' split at hk
  all_goals first
   |exact hk.elim
   |exact⟨hk,jZr _ _⟩
   |exact Rn.mono hk (fun h' q=>⟨q,jZr _ _⟩)
 case h_3 e ho=>
  have Jh:=hN (by simp[gQ,ho]) (by simp[iu,ho]);try simp only[ho]
  split at hk
  ·exact hk.elim
  ·exact fun n h' e1 e2=>⟨hk n h' e1 e2,Jh _⟩
 case h_4 e x ho=>
  have Jh:=hN (by simp[gQ,ho]) (by simp[iu,ho]);try simp only[ho]
  split at hk
  ·exact fun n h' e1 e2=>⟨hk n h' e1 e2,Jh _⟩
  ·exact hk.elim
 case h_5 t len parts ho=>
  have Jh:=hN (by simp[gQ,ho]) (by simp[iu,ho]);try simp only[ho]
  repeat' split at hk
  all_goals first
   |exact hk.elim
   |exact fun n h' e1 e2=>⟨hk n h' e1 e2,Jh _⟩
 case h_6 t l c ho=>
  have Jh:=hN (by simp[gQ,ho]) (by simp[iu,ho]);try simp only[ho]
  repeat' split at hk
  all_goals first
   |exact hk.elim
   |exact Aw.mono hk (fun v h' q=>⟨q,Jh _⟩)
 case h_7 t r ho=>
  have Jh:=hN (by simp[gQ,ho]) (by simp[iu,ho]);try simp only[ho]
  split at hk
  ·exact fun n h' e1 e2=>⟨hk n h' e1 e2,Jh _⟩
  ·exact hk.elim
 case h_8 f args argTypes ho=>
  have Jh:=hN (by simp[gQ,ho]) (by simp[iu,ho]);try simp only[ho]
  repeat' split at hk
  all_goals first
   |exact hk.elim
   |exact Rr.mono hk (fun v h' q=>⟨q,Jh _⟩) (fun _ _ q=>q)
   |exact aQI.mono hk (fun v h' q=>⟨q,Jh _⟩)
   |exact cZH.mono hk (fun v h' q=>⟨q,Jh _⟩)
   |exact fW.mono hk (fun v h' q=>⟨q,Jh _⟩)
 case h_9 b args argTypes ho=>
  have Jh:=hN (by simp[gQ,ho]) (by simp[iu,ho]);try simp only[ho]
  repeat' split at hk
  all_goals first
   |exact hk.elim
   |exact iU.mono hk (fun v h' q=>⟨q,Jh _⟩)
   |exact wI.mono hk (fun hq=>⟨Jc.mono hq.out fun v h' q=>⟨q,Jh _⟩⟩)
   |exact Ja.mono hk (fun v h' q=>⟨q,Jh _⟩)
   |exact Bo.mono hk (fun h' q=>⟨q,Jh _⟩)
   |exact fW.mono hk (fun v h' q=>⟨q,Jh _⟩)
 case h_19 x ho=>try simp only[ho]
                 exact hk
 case h_20=>exact hk.elim
 all_goals
  rename_i ho;have Jh:=hN (by simp[gQ,ho]) (by simp[iu,ho]);try simp only[ho]
  repeat' split at hk
  all_goals first
   |exact hk.elim
   |exact fW.mono hk (fun v h' q=>⟨q,Jh _⟩)
theorem dJB{p:Unit->Program}{o:Oper}{ρ:Operand->SV}{L:Loc}{h:ad}{k:SV->Loc->ad->Prop}(hk:hx A T p o ρ L h k):
 hx A T p o ρ L h (fun x L' h'=>k x L' h'/\(iu o=false->L'=L)/\(gQ o=true->h'=h)):=
 dJC hk (fun L' h'=>(iu o=false->L'=L)/\(gQ o=true->h'=h)) (fun _=>⟨fun _=>rfl,fun _=>rfl⟩) (fun h1 h2 h'=>⟨fun _=>rfl,fun h3=>by rw[h1]at h3;cases h3⟩)
  (fun h1 L' h'=>⟨fun h2=>(by rw[h1]at h2;cases h2),fun h2=>(by
   cases hq:o.op<;>simp[gQ,iu,hq]at h1 h2)⟩)
theorem Eb{T:bu}{strict:Bool}{all:List Oper}{h:ad}{L:Loc}{env:Env}:∀ {l:List Nat} {k:Unit->Prop},pins T strict all h L env l k->
 (∀j∈l,∃o,all[j]? =some o/\gd all env o (fun _=>Kj T strict h L env o (fun _=>True)) (fun _=>True))/\k ()
 | [],k,hp=>⟨fun _ h=>(by cases h),hp⟩
 |i::r,k,hp=>by
  unfold pins at hp;split at hp
  ·rename_i o ho;have bKv:∀ {R:Unit->Prop},Kj T strict h L env o R->Kj T strict h L env o (fun _=>True)/\R ():=fun{R} hq=>by
    unfold Kj at hq |-;split at hq
    ·rename_i t y Wg;try simp only[Wg]at hq |-
     split at hq
     ·rename_i x hx;try simp only[hx]
      obtain⟨cs,h1,h2⟩:=hq.out;obtain⟨v,h3,h4⟩:=nD h2;exact⟨⟨cs,h1,oN h3 fun v' e=>by subst e;exact⟨h4.h,trivial⟩⟩,h4.out⟩
     ·rename_i s off hx;try simp only[hx]
      split at hq
      ·exact⟨trivial,hq⟩
      ·split at hq
       ·rename_i c hc;try simp only[hc]
        split at hq
        ·rename_i cs ay;try simp only[ay]
         obtain⟨v,h3,h4⟩:=nD hq;exact⟨oN h3 fun v' e=>by subst e;exact⟨h4.h,trivial⟩,h4.out⟩
        ·exact hq.elim
       ·exact hq.elim
     ·exact hq.elim
    ·exact⟨trivial,hq⟩
   rcases CL hp with ⟨h1,h2⟩ | ⟨h1,h2⟩
   ·obtain⟨h3,h4⟩:=bKv h1;obtain⟨h5,h6⟩:=Eb h4;refine⟨fun j hj=>?_,h6⟩;rcases mQs.1 hj with rfl|hj
    ·exact⟨o,ho,(h2 _ _).2 h3⟩
    ·exact h5 j hj
   ·obtain⟨h5,h6⟩:=Eb h1;refine⟨fun j hj=>?_,h6⟩;rcases mQs.1 hj with rfl|hj
    ·exact⟨o,ho,(h2 _ _).2 trivial⟩
    ·exact h5 j hj
  ·exact hp.elim
theorem jH.av(hT:gE P T)(hB:jH A T P ops X D listed pend known envc Lc kT La h)(hr:Ab T ops=true)(PL:aZh T ops=true)(hs:eO ds h0 w0 β kT La h a w){k:Nat}{ok:Oper}
 (hk:ops[k]? =some ok) (aKv:k∉listed) (lKf:nN T ok=false) (hp:∀e∈mL ok,In X e) {pn:List Nat} {R:Env->Loc->ad->Prop}
 (EV:gQ ok=true\/∀j∈pend,j∈mB ops ops.size (k::known)\/j∈pn\/(∀oj,ops[j]? =some oj->oV oj=false))
 (hx:gd ops.toList envc ok (fun _=>hx A T (fun _=>P) ok (rq envc) Lc h (fun x L' h'=>pins T (iu ok) ops.toList h' L' (put envc ok.dst x) pn (fun _=>R (put envc ok.dst x) L' h')))
  (fun _=>R (put envc ok.dst (.v undef)) Lc h)) {Q:Exit->Act->World->Prop} {K:Act->World->Prop} (mZ:qN T ds h0 w0 Q)
 (hK:∀a' w' Fg Lg FU bJe h',R Fg FU h'->eO ds h0 w0 β Lg bJe h' a' w'->
  jH A T P ops (X.setIfInBounds k true) D (k::listed) (pend.filter fun j=> !(mB ops ops.size (k::known)).contains j) (mB ops ops.size (k::known)) Fg FU Lg bJe h'->K a' w'):
 wpOpIn (FW ro) n P ops Q k K a w:=by
 obtain⟨-,-,Tr⟩:=rI hr hk;have HZ:=hB.look hr hk hp;have cKs:k<X.size:=by rw[hB.size];exact(mXr.1 hk).1
 have ch:∀x∈D,k≠x.i:=fun x hx e=>aKv ((hB.dZU k).2 (.inr ⟨x,hx,e.symm⟩));have dJK:∀x∈D,∀t,ok.dst=some t->x.o.dst≠some t:=fun x hx t ht=>(Tr x.i x.o (ch x hx) (hB.op x hx).1 t ht).1;have aQo:∀x∈D,∀t∈x.o.looksAt ops,ok.dst≠some t:=fun x hx t ht hd=>by
  rcases(Tr x.i x.o (ch x hx) (hB.op x hx).1 t hd).2 ht with h3| ⟨-,h3⟩
  ·exact aKv (hB.eKy x hx k h3)
  ·exact hB.apart x hx (hp _ h3)
 have cKA:∀i o,In (X.setIfInBounds k true) i->ops[i]? =some o->∀e∈mL o,In (X.setIfInBounds k true) e:=fun i o fZ dKu e he=>by
  rw[In.set cKs]at fZ |-;rcases fZ with e'|fZ
  ·subst e';rw[hk]at dKu;cases dKu;exact .inr (hp e he)
  ·exact .inr (hB.down i o fZ dKu e he)
 have dKA:∀i∈mB ops ops.size (k::known),In (X.setIfInBounds k true) i:=IJ cKA _ _ fun i hi=>by
  rw[In.set cKs];rcases mQs.1 hi with rfl|hi
  ·exact .inl rfl
  ·exact .inr (hB.known i hi)
 have dKc:∀x∈D,¬In (X.setIfInBounds k true) x.i:=fun x hx fZ=>by
  rw[In.set cKs]at fZ;rcases fZ with e|e
  ·exact ch x hx e
  ·exact hB.apart x hx e
 have fin:∀(sv:SV) (FU bJe:Loc) (h':ad),gZp Lc La FU bJe->(∀x∈D,x.fact A T P ops (put envc ok.dst sv) FU h')->
  jH A T P ops (X.setIfInBounds k true) D (k::listed) (pend.filter fun j=> !(mB ops ops.size (k::known)).contains j) (mB ops ops.size (k::known)) (put envc ok.dst sv) FU (put kT ok.dst sv) bJe h':=fun sv FU bJe h' hL hf=>by
  refine⟨by simp[hB.size],fun j=>?_,dKc,cKA,dKA,fun x hx=>?_,by rw[pw,pw];exact hB.len,fun t ht=>?_,fun x hx t hd hlen=>?_,fun s KG=>?_,fun x hx s c hn hd=>?_,hB.op,
   fun x hx e he=>mQQ _ (hB.eKy x hx e he),hB.uniq,hf⟩
  ·rw[mQs,hB.dZU j,In.set cKs];constructor
   ·rintro(rfl|h1|h1)
    ·exact .inl (.inl rfl)
    ·exact .inl (.inr h1)
    ·exact .inr h1
   ·rintro((rfl|h1) |h1)
    ·exact .inl rfl
    ·exact .inr (.inl h1)
    ·exact .inr (.inr h1)
  ·simp only[mXt,mZm,mZk,decide_eq_false_iff_not];exact⟨hB.pend x hx,fun hc=>dKc x hx (dKA _ hc)⟩
  ·by_cases hd:ok.dst=some t
   ·by_cases hlen:t<envc.length
    ·rw[hd,BO (by rw[hB.len];exact hlen),BO hlen]
    ·have e1:(put kT ok.dst sv).length<=t:=by rw[pw,hB.len];exact mJl hlen
     have e2:(put envc ok.dst sv).length<=t:=by rw[pw];exact mJl hlen
     rw[mXL e1,mXL e2]
   ·rw[nE hd,nE hd];exact hB.env t ht
  ·rw[pw]at hlen;rw[nE (fun e=>dJK x hx t e hd)];exact hB.dst x hx t hd hlen
  ·rcases hL with ⟨e1,e2⟩ | ⟨s0,c,q1,q2,g1,g2,e1,e2⟩
   ·rw[e1,e2];exact hB.loc s KG
   ·rw[e1,e2,tz g1,tz g2,hB.loc s KG]
  ·obtain⟨h1,h2⟩:=hB.box x hx s c hn hd;rcases hL with ⟨e1,e2⟩ | ⟨s0,c',q1,q2,g1,g2,e1,e2⟩
   ·rw[e1,e2];exact⟨h1,h2⟩
   ·have bZB:s0≠s:=fun e=>by rw[e,h1]at g2;cases g2
    rw[e1,e2,tz g1,tz g2,if_neg bZB,if_neg bZB];exact⟨h1,h2⟩
 unfold wpOpIn;simp only[hk];rcases CL hx with ⟨h1,h2⟩ | ⟨h1,h2⟩
 ·have hw:Region.wanted ok (yielded ops a.tmps)=true:=by
   have hg:=Io ((h2 (fun _=>True) (fun _=>False)).2 trivial) HZ;rcases yl hs hg with ⟨hw,-⟩ | ⟨-,hf⟩
   ·exact hw
   ·exact hf.elim
  rw[if_pos hw];have h3:=aKe (dJB h1) (BL HZ) (fun t ht=>by
   have:=hB.env t (fun x hx=>Yg PL (hB.op x hx).1 ht);simp only[rq,mXv,this])
  refine Tf hT hs (fun s c hc=>hB.sub hc) h3 mZ fun sv v FU L' h' w' ⟨g1,g2,g3⟩ KG hL=>?_;obtain⟨fXs,hR⟩:=Eb g1;refine hK _ _ _ _ _ _ _ hR KG (fin sv FU L' h' hL fun x hx=>?_);have bZw:∀t∈x.o.looksAt ops,(put envc ok.dst sv)[t]? =envc[t]? :=fun t ht=>nE (aQo x hx t ht);have KQ:=hB.fact x hx;cases cQG:oV x.o with
  |false=>exact sN.yp KQ bZw (fun e=>by rw[cQG]at e;cases e) (fun e=>by rw[cQG]at e;cases e)
  |true=>
   rcases EV with EV|EV
   ·have ig:iu ok=false:=by cases hq:ok.op<;>simp[gQ,iu,hq]at EV |-
    exact sN.yp KQ bZw (fun _ s c hc=>by rw[g2 ig];exact hc) (fun _=>g3 EV)
   ·rcases EV x.i (hB.pend x hx)with h5|h5|h5
    ·exact absurd (dKA _ h5) (dKc x hx)
    ·obtain⟨o',wR,aKK⟩:=fXs x.i h5;have fXw:ops[x.i]? =some o':=by simpa using wR
     rw[(hB.op x hx).1]at fXw;cases fXw;have iXu:gd ops.toList (put envc ok.dst sv) x.o (fun _=>kG A T (fun _=>P) x.o (rq envc) (if pL x.o then []else Lc) h (fun a b=>a=x.sv/\b=x.nb)) (fun _=>x.sv=.v undef/\x.nb=none):=
      Io (by unfold sN.fact at KQ;exact KQ) bZw
     unfold sN.fact;rcases CL iXu with ⟨f1,f2⟩ | ⟨f1,f2⟩
     ·refine(f2 _ _).2 ?_;have uR:=(f2 _ _).1 aKK;have cQN:pL x.o=false:=by cases hq:x.o.op<;>simp[oV,pL,hq]at cQG |-
      rw[cQN]at f1 |-;simp only[mXY,if_false]at f1 |-;have gY:x.nb=none:=(AX f1).2 cQN;cases Wg:x.o.op with
      |load t y=>
       have KB:y∈x.o.op.operands.toList:=by rw[Wg];simp[Op.operands]
       have kJI:rq (put envc ok.dst sv) y=rq envc y:=BL bZw y KB;unfold kG at f1 |-;unfold Kj at uR;simp only[Wg]at f1 uR |-;rw[kJI]at uR |-;have fXY:∀v:Value,(∃d,x.o.dst=some d/\(put envc ok.dst sv)[d]? =some (.v v))->(SV.v v=x.sv/\(none:Option (List Value))=x.nb):=fun v ⟨d,hd,hv⟩=>by
        have hlen:d<envc.length:=by have:=(HH.1 hv).1;rwa[pw]at this
        have:=hB.dst x hx d hd hlen;rw[nE (fun e=>dJK x hx d e hd),this]at hv;exact⟨(Option.some.inj hv).symm,gY.symm⟩
       split at f1
       ·exact f1.elim
       ·split at f1
        ·rename_i s off dJP;simp only[dJP]at uR;split at uR
         ·rename_i ig;have iQq:iu ok=false:=by simpa using ig
          rw[g2 iQq];exact f1
         ·split at f1
          ·rename_i c hc;split at uR
           ·rename_i c' wG;try simp only[wG]
            split at uR
            ·rename_i cs ay;exact oN uR fun v hq=>fXY v hq.h
            ·exact uR.elim
           ·exact uR.elim
          ·exact f1.elim
        ·rename_i z dJP;simp only[dJP]at uR;obtain⟨cs,q1,q2⟩:=uR.out;exact⟨cs,q1,oN q2 fun v hq=>fXY v hq.h⟩
        ·exact f1.elim
      |_=>simp[oV,Wg]at cQG
     ·exact(f2 _ _).2 f1
    ·have:=h5 x.o (hB.op x hx).1;rw[cQG]at this;cases this
 ·have hw:Region.wanted ok (yielded ops a.tmps)=false:=by
   have hg:=Io ((h2 (fun _=>False) (fun _=>True)).2 trivial) HZ;rcases yl hs hg with ⟨-,hf⟩ | ⟨hw,-⟩
   ·exact hf.elim
   ·exact hw
  rw[if_neg (by simp[hw])];refine⟨fun _ _=>trivial,?_⟩;refine hK _ _ _ _ _ _ _ h1 (hs.put (x:=.v undef) (v:=undef) rfl) (fin (.v undef) Lc La h (.inl ⟨rfl,rfl⟩) fun x hx=>?_);exact sN.yp (hB.fact x hx) (fun t ht=>nE (aQo x hx t ht)) (fun _ _ _ hc=>hc) (fun _=>rfl)
variable {ro:Option Nat}{n:Nat}
variable {P:Program}{T:bu}{A:Ar}[bM A]
variable {ds:List Deferred}{h0:ad}{w0:World}{β:Nat->Nat}{h:ad}{a:Act}{w:World}
variable {ops:Array Oper}{X:Array Bool}{D:List sN}{listed pend known:List Nat}{envc kT:Env}{Lc La:Loc}
theorem eO.hJQ(hs:eO ds h0 w0 β kT La h a w)(hl:∀s,mM La s=mM Lc s):eO ds h0 w0 β kT Lc h a w:=
 ⟨hs.after,fun s c hc=>hs.loc s c (by rw[hl];exact hc),fun s s' c c' h1 h2=>hs.inj s s' c c' (by rw[hl];exact h1) (by rw[hl];exact h2),hs.size,fun t x hx=>by
  have:=hs.slot t x hx;cases x with
  |v y=>exact this
  |u=>trivial
  |loc s off=>exact⟨by rw[<-hl];exact this.1,this.2⟩,hs.defers⟩
def eXJ(X:Array Bool):Nat:=X.toList.countP (!·)
theorem UR{i:Nat}(hi:i<X.size)(hn:¬In X i):eXJ (X.setIfInBounds i true)+1=eXJ X:=by
 unfold eXJ;have hl:i<X.toList.length:=by simpa using hi
 have hx:X.toList[i]=false:=by unfold In at hn;rw[mXm,mXR hi]at hn;simpa using hn
 rw[mKn];have PM:0<X.toList.countP (!·):=List.countP_pos_iff.2 ⟨X.toList[i],List.getElem_mem hl,by simp[hx]⟩;rw[List.countP_set (h:=hl)];simp[hx];simp only[Array.countP_toList]at PM;omega
theorem JF(hX:X.size=ops.size)(hr:Ab T ops=true)(he:Region.ready .any ops X=[]):∀j,j<ops.size->In X j:=by
 intro j;induction j using Nat.strongRecOn with
 |_ j ih=>
  intro hj;by_cases fZ:In X j
  ·exact fZ
  ·exfalso;have:j∈Region.ready .any ops X:=by rw[DX hX];refine⟨fZ,ops[j],by simp[hj],fun e kKH=>?_⟩;have aP:=(rI hr (show ops[j]? =some ops[j]by simp[hj])).1 e kKH;exact ih e aP (by omega)
   rw[he]at this;cases this
theorem dZy{p:zX}(ho:Ge T ops p true listed pend known=true):∃k∈wo p,k∉listed/\k<ops.size:=by
 induction p with
 |done=>simp[Ge]at ho
 |aa i r _=>simp[Ge]at ho
 |av i pn r _=>
  simp only[Ge,mZv,mQG]at ho;refine⟨i,by simp[wo],by simpa using ho.1.1.2,?_⟩;have h2:=ho.1.2;split at h2
  ·rename_i o hi;exact(mXr.1 hi).1
  ·cases h2
 |fork l r hKO _=>simp only[Ge,mZv,mQG,true_and]at ho;obtain⟨k,h1,h2⟩:=hKO ho.1;exact⟨k,by simp[wo,h1],h2⟩
theorem aZM{K:Env->Loc->ad->Prop}{p:zX}(ho:Ge T ops p true listed pend known=true)(hx:lL A T (fun _=>P) ops.toList K p envc Lc h){k:Nat}(hk:k∈wo p):
 ∃pn r,Ge T ops (.av k pn r) true listed pend known=true/\lL A T (fun _=>P) ops.toList K (.av k pn r) envc Lc h:=by
 induction p with
 |done=>simp[wo]at hk
 |aa i r _=>simp[wo]at hk
 |av i pn r _=>simp[wo]at hk;subst hk;exact⟨pn,r,ho,hx⟩
 |fork l r hKO kJc=>
  simp only[Ge,mZv,mQG,true_and]at ho;simp only[wo,mQv]at hk;rcases hk with hk|hk
  ·exact hKO ho.1 hx.1 hk
  ·exact kJc ho.2 hx.2 hk
theorem OV{p:zX}(ho:Ge T ops p false listed pend known=true)(hp:(∃i pn r,p=.av i pn r)\/∃l r,p=.fork l r):
 Ge T ops p true listed pend known=true/\Nn ops p listed=true:=by
 rcases hp with ⟨i,pn,r,rfl⟩ | ⟨l,r,rfl⟩
 ·simp only[Ge,mZx,mZv,mQG]at ho |-;simp_all
 ·simp only[Ge,mZx,mZv,mQG]at ho |-;simp_all
theorem advance{K:Env->Loc->ad->Prop}(hr:Ab T ops=true):∀(p:zX) {D:List sN} {listed pend:List Nat} {envc:Env} {Lc:Loc},jH A T P ops X D listed pend known envc Lc kT La h->
 lL A T (fun _=>P) ops.toList K p envc Lc h->Ge T ops p false listed pend known=true->
 ∃D' yP Vv Fg FU p',jH A T P ops X D' yP Vv known Fg FU kT La h/\lL A T (fun _=>P) ops.toList K p' Fg FU h/\Ge T ops p' false yP Vv known=true/\
  (p'=.done\/(∃i pn r,p'=.av i pn r)\/∃l r,p'=.fork l r)
 | .done,D,listed,pend,envc,Lc,hB,hx,ho=>⟨_,_,_,_,_,_,hB,hx,ho,.inl rfl⟩
 | .av i pn r,D,listed,pend,envc,Lc,hB,hx,ho=>⟨_,_,_,_,_,_,hB,hx,ho,.inr (.inl ⟨_,_,_,rfl⟩)⟩
 | .fork l r,D,listed,pend,envc,Lc,hB,hx,ho=>⟨_,_,_,_,_,_,hB,hx,ho,.inr (.inr ⟨_,_,rfl⟩)⟩
 | .aa i r,D,listed,pend,envc,Lc,hB,hx,ho=>by
  simp only[Ge,mKt,mZO,mQG]at ho;obtain⟨⟨h1,h2⟩,h3⟩:=ho;split at h2
  ·rename_i o hi;simp only[mQG,mXf,mZk,mQD]at h2;unfold lL at hx;simp only[mXZ,hi]at hx;obtain⟨sv,nb,hK,Ze⟩:=hB.take hr hi (by simpa using h1) h2.1 h2.2 hx;refine advance hr r Ze ?_ h3;rcases hK with hK| ⟨hK,e1,e2⟩
   ·exact hK
   ·rw[e1,e2];have:vT Lc o.dst none=Lc:=by unfold vT;cases o.dst<;>rfl
    rw[this];exact hK
  ·cases h2
theorem SD(hT:gE P T)(hr:Ab T ops=true)(PL:aZh T ops=true){K:Env->Loc->ad->Prop}{Q:Exit->Act->World->Prop}
 (mZ:qN T ds h0 w0 Q) (hK:∀dh L' h' uh a' w',K dh L' h'->eO ds h0 w0 uh dh L' h' a' w'->Q .normal a' w'):
 ∀(fuel:Nat) {X:Array Bool} {D:List sN} {listed pend known:List Nat} {envc kT:Env} {Lc La:Loc} {h:ad} {β:Nat->Nat} {a:Act} {w:World} {p:zX},
  eXJ X<=fuel->jH A T P ops X D listed pend known envc Lc kT La h->eO ds h0 w0 β kT La h a w->lL A T (fun _=>P) ops.toList K p envc Lc h->Ge T ops p false listed pend known=true->
  wpAnyIn (FW ro) n P .any ops Q fuel X a w:=by
 intro fuel;have done:∀ {X:Array Bool} {D:List sN} {listed pend known:List Nat} {envc kT:Env} {Lc La:Loc} {h:ad} {β:Nat->Nat} {a:Act} {w:World} {p:zX},
  jH A T P ops X D listed pend known envc Lc kT La h->eO ds h0 w0 β kT La h a w->lL A T (fun _=>P) ops.toList K p envc Lc h->Ge T ops p false listed pend known=true->
  Region.ready .any ops X=[]->Q .normal a w:=fun{X D listed pend known envc kT Lc La h β a w p} hB hs hx ho he=>by
  have cKv:=JF hB.size hr he;obtain⟨D',yP,Vv,Fg,FU,p',Ze,uQ,wR,Tt⟩:=advance hr p hB hx ho;have hD:D'=[]:=by
   cases D' with
   |nil=>rfl
   |cons x r=>exfalso;exact Ze.apart x (by simp) (cKv x.i (mXr.1 (Ze.op x (by simp)).1).1)
  subst hD;have gK:∀k,k∉yP->k<ops.size->False:=fun k h1 h2=>h1 (Ze.cQl (cKv k h2));rcases Tt with rfl|Tt
  ·unfold lL at uQ;refine hK _ _ _ β _ _ uQ ?_;have e1:kT=Fg:=mXz fun t=>Ze.env t (fun x hx=>by cases hx);have e2:∀s,mM La s=mM FU s:=fun s=>Ze.loc s (fun x hx=>by cases hx);rw[e1]at hs;exact hs.hJQ e2
  ·obtain⟨h1,-⟩:=OV wR Tt;obtain⟨k,-,h2,h3⟩:=dZy h1;exact(gK k h2 h3).elim
 induction fuel with
 |zero=>
  intro X D listed pend known envc kT Lc La h β a w p hf hB hs hx ho;have he:Region.ready .any ops X=[]:=by
   apply nQe.2;intro j hj;rw[DX hB.size]at hj;obtain⟨h1,o,h2,-⟩:=hj;have iXj:j<X.size:=by rw[hB.size];exact(mXr.1 h2).1
   have:=UR iXj h1;omega
  exact⟨he,done hB hs hx ho he⟩
 |succ fuel ih=>
  intro X D listed pend known envc kT Lc La h β a w p hf hB hs hx ho;refine⟨fun he=>done hB hs hx ho he,fun k hk=>?_⟩;obtain⟨D',yP,Vv,Fg,FU,p',Ze,uQ,wR,Tt⟩:=advance hr p hB hx ho;have wT:=hk;rw[DX hB.size]at wT;obtain⟨MP,ok,nR,Cx⟩:=wT;have cKs:k<X.size:=by rw[hB.size];exact(mXr.1 nR).1
  have kJA:=UR cKs MP;by_cases hD:∃x∈D',x.i=k
  ·obtain⟨x,jXi,rfl⟩:=hD;have:ops[x.i]? =some x.o:=(Ze.op x jXi).1;rw[nR]at this;cases this;exact Ze.catch hT hr hs jXi Cx fun uh a' w' Lg bJe h1 h2=>ih (by omega) h2 h1 uQ wR
  ·have eZA:k∉yP:=fun hm=>by
    rcases(Ze.dZU k).1 hm with h1|h1
    ·exact MP h1
    ·exact hD h1
   rcases Tt with rfl|Tt
   ·simp only[Ge,mKt,mZO,mXf,mJk,mZk,mQD]at wR;exact absurd (wR k (by rw[<-hB.size];exact cKs)) eZA
   ·obtain⟨h1,h2⟩:=OV wR Tt;have kKn:k∈wo p':=by
     unfold Nn at h2;rw[mXf]at h2;have:=h2 k (by simp only[mJk];rw[<-hB.size];exact cKs);simp only[nR,mZQ,mZk,mQD,mZm,mJr]at this;rcases this with (h3|h3) | ⟨e,h3,h4⟩
     ·exact absurd h3 eZA
     ·exact h3
     ·exact absurd (Ze.cQl (Cx e h3)) (by simpa using h4)
    obtain⟨pn,r,h3,h4⟩:=aZM h1 uQ kKn;unfold lL at h4;simp only[mXZ,nR]at h4;simp only[Ge,mZv,mZO,mQG,nR]at h3;obtain⟨⟨-,h5,h6⟩,h7⟩:=h3;refine Ze.av hT hr PL hs nR eZA (by simpa using h5) Cx ?_ h4 mZ (fun a' w' jJa jJb mQa mQb h' hR FD lQv=>ih (by omega) lQv FD hR h7);simp only[mZQ,mXf,mZk,mQD]at h6;rcases h6 with h6|h6
    ·exact .inl h6
    ·refine .inr fun j hj=>?_;rcases h6 j hj with (h8|h8) |h8
     ·exact .inl h8
     ·exact .inr (.inl h8)
     ·refine .inr (.inr fun oj Ty=>?_);simp only[Ty,mZm]at h8;exact h8
variable {ro:Option Nat}{n:Nat}
variable {P:Program}{T:bu}{A:Ar}[bM A]
variable {ds:List Deferred}{h0:ad}{w0:World}{β:Nat->Nat}{h:ad}{a:Act}{w:World}{env:Env}{L:Loc}
def gu(T:bu):Code->Bool
 | .region id ops true=>(Ab T ops&&aZh T ops)&&Ge T ops (T.aK id) false [] [] []
 | .seq a b| .cond _ a b=>gu T a&&gu T b
 | .block _ c| .loop c=>gu T c
 | .rangeFunc _ _ a c=>gu T a&&gu T c
 |_=>true
def bQT:Ex->Exit
 | .normal=>.normal
 | .exit id=>.exit id
 | .ret=>.ret
theorem Xz(n:Nat):eXJ (Array.replicate n false)<=n:=by unfold eXJ;have:=nQd (p:=fun b:Bool=> !b) (l:=(Array.replicate n false).toList);simpa using this
theorem Lv:∀ {e e1:Env},wk e e1->e.length=e1.length
 | [],[],_=>rfl
 |x::r,y::q,hw=>by
  unfold wk at hw;simp only[mQx];cases y with
  |u=>rw[Lv hw]
  |v b=>rw[Lv hw.2]
  |loc s o=>rw[Lv hw.2]
theorem Lw:∀ {e e1:Env},Sx.wk e e1->∀(t:Nat) (x:SV),e1[t]? =some x->x=SV.u\/e[t]? =some x
 | [],[],_,t,x,hx=>by simp at hx
 |y::r,z::q,hw,t,x,hx=>by
  unfold wk at hw;cases t with
  |zero=>
   simp at hx |-;subst hx;cases z with
   |u=>exact .inl rfl
   |v b=>exact .inr hw.1
   |loc s o=>exact .inr hw.1
  |succ t=>
   simp at hx |-;cases z with
   |u=>exact Lw hw t x hx
   |v b=>exact Lw hw.2 t x hx
   |loc s o=>exact Lw hw.2 t x hx
theorem Cg{L:Loc}:∀ {L1:Loc},bKK L L1->∀(s:Nat) (c:List Value),mM L1 s=some c->mM L s=some c
 | [],_,s,c,hc=>by cases hc
 | (k,d)::r,hl,s,c,hc=>by
  unfold bKK at hl;simp only[mM]at hc;split at hc
  ·rename_i e;subst e;cases hc;exact hl.1
  ·exact Cg hl.2 s c hc
theorem Gj{L:Loc}:∀ {e:Env},fQp L e->∀(t s o:Nat),e[t]? =some (SV.loc s o)->∃c,mM L s=some c
 | [],_,t,s,o,hx=>by simp at hx
 |x::r,hl,t,s,o,hx=>by
  unfold fQp at hl;cases t with
  |zero=>simp at hx;subst hx;exact mZl.1 hl.1
  |succ t=>
   simp at hx;cases x with
   |u=>exact Gj hl t s o hx
   |v b=>exact Gj hl t s o hx
   |loc s' o'=>exact Gj hl.2 t s o hx
theorem eO.wk(hs:eO ds h0 w0 β env L h a w){kU:Env}{L1:Loc}(hw:Wk env L kU L1):eO ds h0 w0 β kU L1 h a w:=
 ⟨hs.after,fun s c hc=>hs.loc s c (Cg hw.loc s c hc),fun s s' c c' h1 h2=>hs.inj s s' c c' (Cg hw.loc s c h1) (Cg hw.loc s' c' h2),by rw[hs.size,Lv hw.env],fun t x hx=>by
  rcases Lw hw.env t x hx with rfl|he
  ·trivial
  ·have:=hs.slot t x he;cases x with
   |u=>trivial
   |v b=>exact this
   |loc s o=>exact⟨Gj hw.ok t s o hx,this.2⟩,hs.defers⟩
theorem lj(hT:gE P T):∀(c:Code),gu T c=true->∀ {K:Ex->Env->Loc->ad->Prop} {Q:Exit->Act->World->Prop} {env:Env} {L:Loc} {h:ad} {β:Nat->Nat} {a:Act} {w:World},
 eO ds h0 w0 β env L h a w->sx A T (fun _=>P) c K env L h->
 qN T ds h0 w0 Q->(∀e dh L' h' uh a' w',K e dh L' h'->eO ds h0 w0 uh dh L' h' a' w'->Q (bQT e) a' w')->c.wpIn (FW ro) n P Q a w:=by
 intro c;induction c with
 |skip=>exact fun _ {K Q env L h β a w} hs hx mZ hK=>wpIn_skip (hK .normal _ _ _ _ _ _ hx hs)
 |region id ops draw=>
  intro ho K Q env L h β a w hs hx mZ hK;cases draw with
  |false=>exact wpIn_region_list (sV hT mZ (fun dh L' h' uh a' w' h1 h2=>hK .normal _ _ _ _ _ _ h1 h2) ops.toList _ _ _ _ _ _ hs hx)
  |true=>
   simp only[gu,mQG]at ho;refine wpIn_region_any hT.mixed ?_;have KG:eO ds h0 w0 β env L h a { w with drawn:=w.drawn+1 }:=
    ⟨⟨hs.after.os,hs.after.tape,hs.after.output,hs.after.size,hs.after.IV,hs.after.frame⟩,hs.loc,hs.inj,hs.size,hs.slot,hs.defers⟩
   refine SD hT ho.1.1 ho.1.2 (K:=fun env L h=>K .normal env L h) mZ (fun dh L' h' uh a' w' h1 h2=>hK .normal _ _ _ _ _ _ h1 h2) ops.size (D:=[]) (listed:=[]) (pend:=[]) (known:=[]) (envc:=env) (Lc:=L)
    (by exact Xz ops.size) ?_ KG hx ho.2
   have hn:∀j,¬In (Array.replicate ops.size false) j:=fun j hj=>by
    unfold In at hj;rw[mXm,mJq]at hj;split at hj<;>simp at hj
   exact⟨by simp,fun j=>by simp[hn j],fun x hx=>(by cases hx),fun i o hi=>absurd hi (hn i),fun i hi=>(by cases hi),fun x hx=>(by cases hx),rfl,fun _ _=>rfl,fun x hx=>(by cases hx),fun _ _=>rfl,
    fun x hx=>(by cases hx),fun x hx=>(by cases hx),fun x hx=>(by cases hx),fun x hx=>(by cases hx),fun x hx=>(by cases hx)⟩
 |seq c d dJn dJm=>
  intro ho K Q env L h β a w hs hx mZ hK;simp only[gu,mQG]at ho;unfold sx at hx;refine wpIn_seq (dJn ho.1 hs hx (fun c β env L h a w q1 q2=>mZ c β env L h a w q1 q2) fun e dh L' h' uh a' w' h1 h2=>?_);cases e with
  |normal=>exact dJm ho.2 h2 h1 mZ hK
  |exit id=>exact hK (.exit id) _ _ _ _ _ _ h1 h2
  |ret=>exact hK .ret _ _ _ _ _ _ h1 h2
 |cond x c d dJn dJm=>
  intro ho K Q env L h β a w hs hx mZ hK;simp only[gu,mQG]at ho;unfold sx at hx;split at hx
  ·rename_i t ht;refine wpIn_cond (hs.bY ht) ?_;rcases pq hx with ⟨rfl,hx⟩ | ⟨rfl,hx⟩
   ·exact dJn ho.1 hs hx mZ hK
   ·exact dJm ho.2 hs hx mZ hK
  ·exact hx.elim
 |block id c ih=>
  intro ho K Q env L h β a w hs hx mZ hK;unfold sx at hx;refine wpIn_block (ih ho hs hx (fun c β env L h a w q1 q2=>mZ c β env L h a w q1 q2) fun e dh L' h' uh a' w' h1 h2=>?_);cases e with
  |normal=>exact hK .normal _ _ _ _ _ _ h1 h2
  |exit j=>
   simp only[bQT,Exit.inBlock]at h1 |-;split at h1
   ·rename_i e;rw[if_pos e];exact hK .normal _ _ _ _ _ _ h1 h2
   ·rename_i e;rw[if_neg e];exact hK (.exit j) _ _ _ _ _ _ h1 h2
  |ret=>exact hK .ret _ _ _ _ _ _ h1 h2
 |loop c ih=>
  intro ho K Q env L h β a w hs hx mZ hK;unfold sx at hx;obtain⟨I,n,⟨kU,L1,fQZ,hI⟩,dJS⟩:=hx.out;refine wpIn_loop_ghost (fun n a w=>∃env L h β,I n env L h/\eO ds h0 w0 β env L h a w) n ⟨_,_,_,_,hI,hs.wk fQZ⟩ fun n a w ⟨env,L,h,β,h1,h2⟩=>?_;refine ih ho h2 (dJS n env L h h1) (fun c β env L h a w q1 q2=>mZ c β env L h a w q1 q2) fun e dh L' h' uh a' w' h3 h4=>?_;cases e with
  |normal=>obtain⟨m,kU,L1,hm,fQZ,h5⟩:=h3;exact⟨m,hm,_,_,_,_,h5,h4.wk fQZ⟩
  |exit j=>exact hK (.exit j) _ _ _ _ _ _ h3 h4
  |ret=>exact hK .ret _ _ _ _ _ _ h3 h4
 |rangeFunc=>intro ho K Q env L h β a w hs hx mZ hK;exact hx.elim
 |exit id=>exact fun _ {K Q env L h β a w} hs hx mZ hK=>wpIn_exit (hK (.exit id) _ _ _ _ _ _ hx hs)
 |scope=>intro ho K Q env L h β a w hs hx mZ hK;exact hx.elim
 |label=>intro ho K Q env L h β a w hs hx mZ hK;exact hx.elim
 |goto=>intro ho K Q env L h β a w hs hx mZ hK;exact hx.elim
 |ret=>exact fun _ {K Q env L h β a w} hs hx mZ hK=>wpIn_ret (hK .ret _ _ _ _ _ _ hx hs)
 |refuse=>intro ho K Q env L h β a w hs hx mZ hK;exact hx.elim
def LZ(tmps:Array Value):ResultVar->Sem Value
 | .tmp t=>pure (tmps.getD t undef)
 | .cell q t=>do loadVar t (<-asAddr (tmps.getD q undef))
theorem Hm(fn:Func)(tmps:Array Value):results fn tmps=(do
 let vs <-fn.results.mapM (LZ tmps)
 pure (if h:vs.size=1 then vs[0]else .tuple vs)):=by
 have:(fun(x:ResultVar)=>(match x with| .tmp t=>pure (tmps.getD t undef) | .cell a t=>do loadVar t (<-asAddr (tmps.getD a undef)):Sem Value))=LZ tmps:=by funext x;cases x<;>rfl
 unfold results;rw[<-this];rfl
theorem aZk(hT:gE P T)(hs:eO ds h0 w0 β env L h a w){r:ResultVar}{k:Value->Prop}(hr:bKm T env L h r k):
 ∃v,(LZ a.tmps r).run P w=.ok v w/\k v:=by
 unfold bKm at hr;split at hr
 ·rename_i t;split at hr
  ·rename_i x hx;have:=hs.slot t _ (getD_some hx (by simp));exact⟨_,rfl,by rw[show a.tmps.getD t undef=x from this];exact hr⟩
  ·exact hr.elim
 ·rename_i q t;split at hr
  ·exact hr.elim
  ·rename_i hx hk;have hi:=jA hT (t:=t) (fun e=>hk e);have wC:=hs.slot q _ (getD_some hx (by simp));split at hr
   ·rename_i c hc;split at hr
    ·rename_i cs ay;obtain⟨h1,h2⟩:=Po hs hc ay;obtain⟨v,h3,h4⟩:=tq hi w _ _ cs h1 h2 hr;refine⟨v,?_,h4⟩;show(do loadVar t (<-asAddr (a.tmps.getD q undef)):Sem Value).run P w=_;rw[show a.tmps.getD q undef=_ from wC.2];simp[asAddr,h3]
    ·exact hr.elim
   ·exact hr.elim
  ·rename_i hx hk;have hi:=jA hT (t:=t) (fun e=>hk e);have wC:=hs.slot q _ (getD_some hx (by simp));obtain⟨cs,h1,hl⟩:=(show Bn _ _ _ _ from hr).out;obtain⟨g1,g2,g3⟩:=h1.cell hs.after.IV;obtain⟨v,h3,h4⟩:=tq hi w _ _ cs g2 g3 hl;refine⟨v,?_,h4⟩;rename_i y;have:y=⟨y.block,y.off,none⟩:=by cases y;simp at g1;rw[g1]
   show(do loadVar t (<-asAddr (a.tmps.getD q undef)):Sem Value).run P w=_;rw[show a.tmps.getD q undef=.pointer (some y)from wC];simp only[asAddr,mQL,mQV,mQH];rw[this];exact h3
  ·exact hr.elim
theorem Hn(hT:gE P T)(hs:eO ds h0 w0 β env L h a w):∀ {rs:List ResultVar} {k:List Value->Prop},uE T env L h rs k->
 ∃l,(rs.mapM (LZ a.tmps)).run P w=.ok l w/\k l
 | [],k,hr=>⟨[],rfl,hr⟩
 |r::rs,k,hr=>by
  unfold uE at hr;obtain⟨v,h1,h2⟩:=aZk hT hs hr;obtain⟨l,h3,h4⟩:=Hn hT hs h2;refine⟨v::l,?_,h4⟩;rw[mKA];simp only[mQL,h1,mQH,h3,mQV]
theorem qN.none{Q:Exit->Act->World->Prop}(Cx:∀c s h,¬T.kp c s h):qN T ds h0 w0 Q:=fun c β env L h a w q _=>(Cx _ _ _ q).elim
theorem ah(A:Ar)[bM A](hT:gE P T){f:FuncId}{fn:Func}{c:Code}(hf:P.funcs[f]? =some fn)(hb:fn.body=some c)(ho:gu T c=true){args:List Value}{h:ad}{R:Value->ad->Prop}
 (hx:dXx A T (fun _=>P) c fn.ntmps fn.results.toList args h R) (Cx:∀c s h,¬T.kp c s h:=by exact fun _ _ _ hc=>hc):aQI (fun _=>P) f args h R:=by
 refine⟨fun w hw=>?_⟩;refine calls_of_wp hf hb (wpIn_wide (n:=0).1 ?_);have hs:eO [] h w (fun _=>0) (args.map SV.v++List.replicate (fn.ntmps-args.length) (.v undef)) [] h { tmps:=args.toArray++Array.replicate (fn.ntmps-args.toArray.size) undef,defers:=[] } w:=by
  refine⟨bW.refl hw,fun s c hc=>(by cases hc),fun s s' c c' hc=>(by cases hc),by simp,fun t x hx=>?_,rfl⟩;rw[mXX]at hx;split at hx
  ·rename_i aP;have En:t<args.length:=by simpa using aP
   rw[mQU,mXJ En]at hx;simp at hx;subst hx;show _=_;rw[mXm,mKs (by simpa using En)];simp[En]
  ·rename_i lN;have dKw:args.length<=t:=by simpa using lN
   rw[mKr]at hx;split at hx
   ·rename_i aP;cases hx;show _=_;rw[mXm,mKq (by simpa using dKw),mJq];simp at aP |-;rw[if_pos aP];rfl
   ·cases hx
 refine lj (A:=A) (ro:=none) (n:=0) hT c ho hs hx (qN.none Cx) fun e dh L' h' uh a' w' h1 h2=>?_;have fin:uE T dh L' h' fn.results.toList (fun l=>pJ l (fun v=>R v h'))->a'.defers=[]/\∃v,(results fn a'.tmps).run P w'=.ok v w'/\∃v1 h1,Ending.returned v=.returned v1/\R v1 h1/\bW h w h1 w':=fun hr=>by
  obtain⟨l,h3,h4⟩:=Hn hT h2 hr;refine⟨h2.defers,?_⟩;have h5:(results fn a'.tmps).run P w'=.ok (if h:l.toArray.size=1 then l.toArray[0]else .tuple l.toArray) w':=by rw[Hm,mJv];rw[mQL,mJu];rw[h3];rfl
  refine⟨_,h5,_,h',rfl,?_,h2.after⟩;unfold pJ at h4;split at h4
  ·exact h4
  ·rename_i ch;have:¬l.toArray.size=1:=fun hl=>by
    match l,hl with
    | [x],_=>exact ch x rfl
   rw[dif_neg this];exact h4
 cases e with
 |normal=>exact fin h1
 |ret=>exact fin h1
 |exit id=>exact h1.elim
variable {ro:Option Nat}{n:Nat}
variable {P:Program}{T:bu}{A:Ar}[bM A]
inductive Df where
 |call (g:FuncId) (args cap:List Value)
 |mark (m:Nat)
def Df.at:Df->Deferred
 | .call g args cap=>{ target:=.fn (.func g) cap.toArray,args:=args.toArray }
 | .mark m=>{ target:=.collected m,args:= #[] }
def oD:Env->Env
 | []=>[]
 |x::r=>match x with
  | .loc _ _=>.u::oD r
  |x=>x::oD r
def EM:Env->List Nat->List Value->Env
 |env,p::ps,v::vs=>EM (env.set p (.v v)) ps vs
 |env,_,_=>env
def St(A:Ar)(T:bu)(p:Unit->Program)(Fk body:Code)(env:Env)(ps:List Nat)(l:Nat)(o1 o2:Obj)(vs:List Value)(k:ad->Prop)(hh:ad):Prop:=
 sx A T p Fk (fun e kU L1 h1=>match e with
  | .normal=>h1 l=some o1/\sx A T p body (fun e _ _ h2=>match e with
   | .normal=>h2 l=some o2/\k (bU h2 l o1)
   |_=>False) kU L1 (bU h1 l o2)
  |_=>False) (EM env ps vs) [] hh
structure kQh(p:Unit->Program)(gf:FuncId)(lb:List Value)(n:Nat)(round:Nat->Obj->Obj->List Value->(ad->Prop)->ad->Prop)(h:ad)(K:Nat->ad->Prop):Prop where
 out:∀(m l:Nat) (o1 o2:Obj),h m=none->h l=none->m≠l->(∀c e fr,o1≠.cells c e fr)->(∀c e fr,o2≠.cells c e fr)->
  (∀vs hh (k:ad->Prop),vs.length=n->hh l=some o1->round l o1 o2 vs k hh->cZH p l vs hh (fun v h'=>v=.bool true/\k h'))->
  aQI p gf (.func (.yield l) #[] #[]::lb) (bU (bU h m (.deferred (some []))) l o1) (fun _ h'=>h' l=some o1/\∀o3,(∀c e fr,o3≠.cells c e fr)->K m (bU h' l o3))
def lZF(P:Program)(f:FuncId)(args:List Value)(h:ad)(R:Value->ad->Prop):Prop:=
 ∀w,Fo h w->∀n,CallsDIn Fence.wide n P f args.toArray .returning w fun e u' w'=>u'=.returning/\∃v h',e=.returned v/\R v h'/\bW h w h' w'
structure aQa(p:Unit->Program)(f:FuncId)(args:List Value)(h:ad)(R:Value->ad->Prop):Prop where
 out:lZF (p ()) f args h R
theorem aQa.mono{p:Unit->Program}{f:FuncId}{args:List Value}{h:ad}{R R':Value->ad->Prop}(x:aQa p f args h R)(hr:∀v h',R v h'->R' v h'):aQa p f args h R':=
 ⟨fun w hw n=>(x.out w hw n).mono fun e u' w' ⟨hu,v,h',he,hR,ha⟩=>⟨hu,v,h',he,hr _ _ hR,ha⟩⟩
def AF(A:Ar)(T:List Df->bu)(p:Unit->Program)(all:List Oper)(K:List Df->Env->Loc->ad->Prop):List Oper->List Df->Env->Loc->ad->Prop
 | [],ds,env,L,h=>K ds env L h
 |o::rest,ds,env,L,h=>
  gd all env o
   (fun _=>match o.op with
    | .defer c=>match c.callee with
     | .value f=>match rq env f with
      | .v (.func (.func g) first cap)=>match bl (c.args.toList.map (rq env))with
       |some as=>AF A T p all K rest (.call g (first.toList++as) cap.toList::ds) (put env o.dst (.v undef)) L h
       |none=>False
      |_=>False
     |_=>False
    |_=>match nN (T ds) o with
     |true=>kG A (T ds) p o (rq env) L h (fun x nb=>AF A T p all K rest ds (put env o.dst x) (vT L o.dst nb) h)
     |false=>hx A (T ds) p o (rq env) L h (fun x L' h'=>AF A T p all K rest ds (put env o.dst x) L' h'))
   (fun _=>AF A T p all K rest ds (put env o.dst (.v undef)) L h)
def aQd(A:Ar)(T:List Df->bu)(p:Unit->Program):Code->(Ex->List Df->Env->Loc->ad->Prop)->List Df->Env->Loc->ad->Prop
 | .region id ops false,K,ds,env,L,h=>AF A T p ops.toList (fun ds env L h=>K .normal ds env L h) ops.toList ds env L h
 | .seq a b,K,ds,env,L,h=>aQd A T p a (fun e ds env L h=>match e with
  | .normal=>aQd A T p b K ds env L h
  |e=>K e ds env L h) ds env L h
 | .cond c a b,K,ds,env,L,h=>match rq env c with
  | .v (.bool t)=>ZR t (fun _=>aQd A T p a K ds env L h) (fun _=>aQd A T p b K ds env L h)
  |_=>False
 | .block id c,K,ds,env,L,h=>aQd A T p c (fun e ds env L h=>match e with
  | .exit j=>if j=id then K .normal ds env L h else K (.exit j) ds env L h
  |e=>K e ds env L h) ds env L h
 | .rangeFunc g ps Fk body,K,ds,env,L,h=>match rq env g with
  | .v (.func (.func gf) first lb)=>match first.isEmpty,(T ds).fn gf with
   |true,true=>kQh p gf lb.toList ps.size (St A (T ds) p Fk body (oD env) ps.toList) h (fun m h'=>K .normal (.mark m::ds) env L h')
   |_,_=>False
  |_=>False
 |c,K,ds,env,L,h=>sx A (T ds) p c (fun e env L h=>K e ds env L h) env L h
def LY(T:bu)(p:Unit->Program):List Df->(ad->Prop)->ad->Prop
 | [],k,h=>k h
 | .call g args cap::r,k,h=>match T.fn g with
  |true=>aQa p g (args++cap) h (fun _ h'=>LY T p r k h')
  |false=>False
 | .mark m::r,k,h=>h m=some (.deferred (some []))/\LY T p r k (bU h m (.deferred none))
def eJN(A:Ar)(T:bu)(p:Unit->Program)(c:Code)(ntmps:Nat)(rs:List ResultVar)(args:List Value)(h:ad)(R:Value->ad->Prop):Prop:=
 aQd A (fun _=>T) p c (fun e ds env L h=>match e with
  | .exit _=>False
  |_=>LY T p ds (fun h=>uE T env L h rs (fun l=>pJ l (fun v=>R v h))) h) [] (args.map SV.v++List.replicate (ntmps-args.length) (.v undef)) [] h
variable {h0:ad}{w0:World}{β:Nat->Nat}{h:ad}{a:Act}{w:World}{env:Env}{L:Loc}
theorem eO.Rk{ds:List Deferred}(hs:eO ds h0 w0 β env L h a w)(d:Deferred):eO (d::ds) h0 w0 β env L h { a with defers:=d::a.defers } w:=
 ⟨hs.after,hs.loc,hs.inj,hs.size,hs.slot,by rw[hs.defers]⟩
def bXY(T:List Df->bu)(h0:ad)(w0:World)(Q:Exit->Act->World->Prop):Prop:=∀ds:List Df,qN (T ds) (ds.map Df.at) h0 w0 Q
variable {TT:List Df->bu}
theorem nq(hT:∀ds,gE P (TT ds)){ops:Array Oper}{K:List Df->Env->Loc->ad->Prop}{Q:Exit->Act->World->Prop}
 (mZ:bXY TT h0 w0 Q) (hK:∀WJ dh L' h' uh a' w',K WJ dh L' h'->eO (WJ.map Df.at) h0 w0 uh dh L' h' a' w'->Q .normal a' w'):
 ∀(l:List Oper) (ds:List Df) (env:Env) (L:Loc) (h:ad) (β:Nat->Nat) (a:Act) (w:World),eO (ds.map Df.at) h0 w0 β env L h a w->
  AF A TT (fun _=>P) ops.toList K l ds env L h->wpListIn (FW none) n P ops Q l a w
 | [],ds,env,L,h,β,a,w,hs,hx=>hK _ _ _ _ _ _ _ hx hs
 |o::r,ds,env,L,h,β,a,w,hs,hx=>by
  unfold AF at hx;unfold wpListIn;rcases yl hs hx with ⟨hw,hx⟩ | ⟨hw,hx⟩
  ·rw[if_pos hw];split at hx
   ·rename_i c ho;split at hx
    ·rename_i f hc;split at hx
     ·rename_i g first cap hf
      split at hx
      ·rename_i as has;have hr:(execOp a.eval o).run P w=.ok (.defer (Df.at (.call g (first.toList++as) cap.toList))) w:=by
        have e1:first++as.toArray=(first.toList++as).toArray:=by apply Array.ext';simp
        simp only[execOp,ho,resolve,hc,hs.bY hf,ld hs has,Deferred.ofValue,mQL,mQV,mQH,Df.at,e1]
       unfold Oper.wpIn;refine⟨fun _ _=>trivial,?_⟩;rw[show(FW none).round=none from rfl,Oper.semAt_none,hr,Oper.uponIn_defer];exact nq hT mZ hK r (.call g (first.toList++as) cap.toList::ds) _ _ _ _ _ _ ((hs.Rk (Df.at (.call g (first.toList++as) cap.toList))).put (d:=o.dst) (x:=.v undef) (v:=undef) rfl) hx
      ·exact hx.elim
     ·exact hx.elim
    ·exact hx.elim
   ·split at hx
    ·obtain⟨sv,nb,h1,h2⟩:=vH hx;obtain⟨v,w',uh,h3,h4⟩:=Ef (hT ds) hs (h2 (fun x y=>x=sv/\y=nb) ⟨rfl,rfl⟩);refine wV h3 ?_;exact nq hT mZ hK r _ _ _ _ _ _ _ h4 h1
    ·refine Tf (hT ds) hs (Lc:=L) (fun _ _ q=>q) hx (mZ ds) fun sv v FU L' h' w' h1 h2 h3=>?_;have:FU=L':=by
      rcases h3 with ⟨e1,e2⟩ | ⟨s,c,x,y,-,-,e1,e2⟩
      ·rw[e1,e2]
      ·rw[e1,e2]
     subst this;exact nq hT mZ hK r _ _ _ _ _ _ _ h2 h1
  ·rw[if_neg (by simp[hw])];refine⟨fun _ _=>trivial,?_⟩;exact nq hT mZ hK r _ _ _ _ _ _ _ (hs.put (x:=.v undef) (v:=undef) rfl) hx
theorem JS:∀ {env:Env} {t:Nat} {x:SV},(oD env)[t]? =some x->x=.u\/(env[t]? =some x/\∀s o,x≠.loc s o)
 | [],t,x,h=>by simp[oD]at h
 |y::r,0,x,h=>by
  cases y with
  |loc s o=>simp[oD]at h;exact .inl h.symm
  |v z=>simp[oD]at h;subst h;exact .inr ⟨by simp,fun _ _ e=>by cases e⟩
  |u=>simp[oD]at h;exact .inl h.symm
 |y::r,t+1,x,h=>by
  have h':(oD r)[t]? =some x:=by cases y<;>simpa[oD]using h
  rcases JS h' with h1| ⟨h1,h2⟩
  ·exact .inl h1
  ·exact .inr ⟨by simpa using h1,h2⟩
theorem JR:∀(env:Env),(oD env).length=env.length
 | []=>rfl
 |y::r=>by cases y<;>simp[oD,JR r]
theorem OH{β:Nat->Nat}:∀(ps:List Nat) (vs:List Value) (env:Env) (tmps:Array Value),tmps.size=env.length->(∀t x,env[t]? =some x->vw β [] x (tmps.getD t undef))->
 ((ps.zip vs).foldl (fun t (p,v)=>t.setIfInBounds p v) tmps).size=(EM env ps vs).length/\∀t x,(EM env ps vs)[t]? =some x->vw β [] x (((ps.zip vs).foldl (fun t (p,v)=>t.setIfInBounds p v) tmps).getD t undef)
 | [],vs,env,tmps,h1,h2=>by simp[EM,h1];simpa using h2
 |p::ps,[],env,tmps,h1,h2=>by simp[EM,h1];simpa using h2
 |p::ps,v::vs,env,tmps,h1,h2=>by
  simp only[List.zip_cons_cons,mJP,EM];refine OH ps vs _ _ (by simp[h1]) (fun t x hx=>?_);rw[mXF]at hx;split at hx
  ·rename_i e;subst e;split at hx
   ·rename_i aP;cases hx;show _=_;have En:p<tmps.size:=by rw[h1];exact aP
    rw[mXm,mKb En];rfl
   ·cases hx
  ·rename_i e;have:=h2 t x hx;rw[mXm,mJZ (by omega),<-mXm];exact this
theorem bW.put{h:ad}{w:World}(ha:Fo h w){l:Nat}{o o':Obj}(hl:h l=some o):bW h w (bU h l o') (w.putObj l o'):=by have hw:=ha _ _ hl;have aP:l<w.heap.size:=(mXr.1 hw).1;exact bW.set ha hl (World.putObj_heap_same aP) (fun b hb=>World.putObj_heap_other hb) World.putObj_size ⟨rfl,rfl,rfl⟩
theorem aZi(hT:gE P T)(Cx:∀c s h,¬T.kp c s h){l:Nat}{r:Loop}{Fk body:Code}(iQI:gu T Fk=true)(cKj:gu T body=true)(bZC:r.assign=Fk)(KJ:r.body=body)(ig:r.state=.ready)(cKh:r.pending=none)
 (wC:(oD env).length=r.tmps.size) (dJP:∀t x,(oD env)[t]? =some x->vw (fun _=>0) [] x (r.tmps.getD t undef))
 {vs:List Value} {hh:ad} {k:ad->Prop} (hv:vs.length=r.params.size) (hl:hh l=some (.loop r))
 (hx:St A T (fun _=>P) Fk body (oD env) r.params.toList l (.loop r) (.loop { r with state:=.busy }) vs k hh):cZH (fun _=>P) l vs hh (fun v h'=>v=.bool true/\k h'):=by
 refine⟨fun w hw=>⟨_,_,_,_,run_yield (hw _ _ hl) (by simpa using hv),fun n=>?_⟩⟩;refine roundIn_of_wpIn trivial ?_;have hz:(r.params.zip vs.toArray).foldl (fun tmps (t,a)=>tmps.setIfInBounds t a) r.tmps=(r.params.toList.zip vs).foldl (fun t (p,v)=>t.setIfInBounds p v) r.tmps:=by rw[<-mKB];simp
 rw[hz,bZC,KJ];obtain⟨jE,FD⟩:=OH (β:=fun _=>0) r.params.toList vs (oD env) r.tmps wC.symm dJP;have hs:eO [] hh w (fun _=>0) (EM (oD env) r.params.toList vs) [] hh { tmps:=(r.params.toList.zip vs).foldl (fun t (p,v)=>t.setIfInBounds p v) r.tmps,defers:=[] } w:=
  ⟨bW.refl hw,fun s c hc=>(by cases hc),fun s s' c c' hc=>(by cases hc),jE,FD,rfl⟩
 refine lj (A:=A) (ro:=some l) hT Fk iQI hs hx (qN.none Cx) fun e kU L1 h1 lZK a1 w1 g1 g2=>?_;cases e with
 |normal=>
  obtain⟨k1,k2⟩:=g1;have EU:=g2.after.IV _ _ k1;refine⟨_,run_beginRound EU ig,?_⟩;have g3:=g2.step (bW.put g2.after.IV (o':=.loop { r with state:=.busy }) k1);refine lj (A:=A) (ro:=some l) hT body cKj g3 k2 (qN.none Cx) fun e lXk L2 h2 lZJ a2 w2 q1 q2=>?_;cases e with
  |normal=>
   obtain⟨k3,k4⟩:=q1;have vj:=q2.after.IV _ _ k3;refine⟨_,_,run_endRound none vj,?_⟩;have g4:=q2.step (bW.put q2.after.IV (o':=.loop r) k3);have er:({ r with state:=if(none:Option Code).isNone=true then LoopState.ready else LoopState.done,pending:=none }:Loop)=r:=by obtain⟨s,p,f,t,ps,a,b,d⟩:=r;simp only at ig cKh;subst ig cKh;rfl
   refine⟨_,bU h2 l (.loop r),rfl,⟨rfl,k4⟩,?_⟩;have e2:({ ({ r with state:=.busy }:Loop)with state:=if(none:Option Code).isNone=true then LoopState.ready else LoopState.done,pending:=none }:Loop)=r:=er;have:=g4.after;rw[e2];exact this
  |exit id=>exact q1.elim
  |ret=>exact q1.elim
 |exit id=>exact g1.elim
 |ret=>exact g1.elim
theorem Fp(hT:gE P T)(Cx:∀c s h,¬T.kp c s h){ds:List Df}{g:Operand}{ps:Array Nat}{Fk body:Code}{gf:FuncId}{lb:Array Value}{Q:Exit->Act->World->Prop}{K:Nat->ad->Prop}
 (hs:eO (ds.map Df.at) h0 w0 β env L h a w) (iQI:gu T Fk=true) (cKj:gu T body=true) (hg:rq env g=.v (.func (.func gf) #[] lb)) (YU:T.fn gf=true)
 (hx:kQh (fun _=>P) gf lb.toList ps.size (St A T (fun _=>P) Fk body (oD env) ps.toList) h K)
 (hK:∀m h' a' w',K m h'->eO ((Df.mark m::ds).map Df.at) h0 w0 β env L h' a' w'->Q .normal a' w'):(Code.rangeFunc g ps Fk body).wp P Q a w:=by
 refine(wpIn_wide (n:=0)).1 (wpIn_rangeFunc fun fn _=>?_);refine⟨w.heap.size+1,_,(w.alloc (.deferred (some []))).alloc (.loop { state:=.ready,pending:=none,fn,tmps:=a.tmps,params:=ps,assign:=Fk,body,defers:=w.heap.size }),{ target:=.fn (.func gf) lb,args:= #[.func (.yield (w.heap.size+1)) #[] #[]] },(w.alloc (.deferred (some []))).alloc (.loop { state:=.ready,pending:=none,fn,tmps:=a.tmps,params:=ps,assign:=Fk,body,defers:=w.heap.size }),gf,#[.func (.yield (w.heap.size+1)) #[] #[]]++lb,(w.alloc (.deferred (some []))).alloc (.loop { state:=.ready,pending:=none,fn,tmps:=a.tmps,params:=ps,assign:=Fk,body,defers:=w.heap.size }),run_enterLoop_outer fn a.tmps ps Fk body,?_,fun _ _=>trivial,?_,fun hd=>by simp[Fence.wide]at hd,?_⟩
 ·simp only[resolve,hs.bY hg,Deferred.ofValue,mQV];simp[Act.eval]
 ·simp only[invoke,rj hT YU]
 ·generalize Cs:({ state:=.ready,pending:=none,fn,tmps:=a.tmps,params:=ps,assign:=Fk,body,defers:=w.heap.size }:Loop)=r;have CH:=hs.after.IV;have a1:bW h w (bU h w.heap.size (.deferred (some []))) (w.alloc (.deferred (some []))):=bW.new CH _;have mX:(w.alloc (.deferred (some []))).heap.size=w.heap.size+1:=World.size_alloc w _;have a2:=bW.new a1.IV (.loop r);rw[mX]at a2;have jJQ:=a1.trans a2;have lG:h w.heap.size=none:=CH.qQ (mQt _);have mY:h (w.heap.size+1)=none:=CH.qQ (by omega);have hc:=(hx.out w.heap.size (w.heap.size+1) (.loop r) (.loop { r with state:=.busy }) lG mY (by omega) (fun _ _ _ e=>by cases e) (fun _ _ _ e=>by cases e) (fun vs hh k hv hl hr=>by
   refine aZi (A:=A) (env:=env) hT Cx iQI cKj (r:=r) (by rw[<-Cs]) (by rw[<-Cs]) (by rw[<-Cs]) (by rw[<-Cs]) ?_ ?_ (by rw[hv,<-Cs]) hl ?_
   ·rw[JR,<-hs.size,<-Cs]
   ·intro t x hx;rcases JS hx with rfl| ⟨h1,h2⟩
    ·trivial
    ·have:=hs.slot t x h1;rw[<-Cs];cases x with
     |v z=>exact this
     |loc s o=>exact absurd rfl (h2 s o)
     |u=>trivial
   ·have hp:ps=r.params:=by rw[<-Cs]
    rw[hp]at hr;exact hr)).out _ jJQ.IV
  have wG:=callsIn_wide (n:=0-1).2 hc;have e1:(Value.func (.yield (w.heap.size+1)) #[] #[]::lb.toList).toArray= #[.func (.yield (w.heap.size+1)) #[] #[]]++lb:=by apply Array.ext';simp
  rw[e1]at wG;refine CallsIn.mono wG fun e w3 ⟨v,h3,g1,⟨g2,g3⟩,g4⟩=>?_;subst g1;have dJI:=g4.IV _ _ g2;refine⟨none,w3.putObj (w.heap.size+1) (.loop { r with state:=.exhausted }),?_,?_⟩
  ·have:=run_endLoop (P:=P) dJI (by rw[<-Cs];simp);rw[this,<-Cs]
  ·refine hK w.heap.size _ _ _ (g3 (.loop { r with state:=.exhausted }) (fun _ _ _ e=>by cases e)) ?_;have s1:=hs.step ((jJQ.trans g4).trans (bW.put g4.IV (o':=.loop { r with state:=.exhausted }) g2));exact s1.Rk (Df.at (.mark w.heap.size))
def Pa:Code->Bool
 | .rangeFunc .. =>false
 | .seq a b| .cond _ a b=>Pa a&&Pa b
 | .block _ c=>Pa c
 |_=>true
theorem JX(hT:∀ds,gE P (TT ds)):∀(c:Code),(∀ds,gu (TT ds) c=true)->(Pa c=true\/∀ds c s h,¬(TT ds).kp c s h)->∀ {K:Ex->List Df->Env->Loc->ad->Prop} {Q:Exit->Act->World->Prop} {ds:List Df} {env:Env} {L:Loc} {h:ad} {β:Nat->Nat} {a:Act} {w:World},
 eO (ds.map Df.at) h0 w0 β env L h a w->aQd A TT (fun _=>P) c K ds env L h->bXY TT h0 w0 Q->
 (∀e WJ dh L' h' uh a' w',K e WJ dh L' h'->eO (WJ.map Df.at) h0 w0 uh dh L' h' a' w'->Q (bQT e) a' w')->c.wp P Q a w:=by
 intro c;induction c with
 |region id ops draw=>
  intro ho Tz K Q ds env L h β a w hs hx mZ hK;cases draw with
  |false=>exact wpIn_wide (n:=0).1 (wpIn_region_list (nq hT mZ (fun WJ dh L' h' uh a' w' h1 h2=>hK .normal _ _ _ _ _ _ _ h1 h2) ops.toList _ _ _ _ _ _ _ hs hx))
  |true=>exact wpIn_wide (n:=0).1 (lj (A:=A) (ro:=none) (n:=0) (hT ds) _ (ho ds) hs hx (mZ ds) (fun e dh L' h' uh a' w' h1 h2=>hK e _ _ _ _ _ _ _ h1 h2))
 |seq c d dJn dJm=>
  intro ho Tz K Q ds env L h β a w hs hx mZ hK;simp only[gu,mQG]at ho;simp only[Pa,mQG]at Tz;unfold aQd at hx;refine wp_seq (dJn (fun ds=>(ho ds).1) (Tz.imp And.left id) hs hx (fun ds c β env L h a w q1 q2=>mZ ds c β env L h a w q1 q2) fun e WJ dh L' h' uh a' w' h1 h2=>?_);cases e with
  |normal=>exact dJm (fun ds=>(ho ds).2) (Tz.imp And.right id) h2 h1 mZ hK
  |exit id=>exact hK (.exit id) _ _ _ _ _ _ _ h1 h2
  |ret=>exact hK .ret _ _ _ _ _ _ _ h1 h2
 |cond x c d dJn dJm=>
  intro ho Tz K Q ds env L h β a w hs hx mZ hK;simp only[gu,mQG]at ho;simp only[Pa,mQG]at Tz;unfold aQd at hx;split at hx
  ·rename_i t ht;refine wp_cond (hs.bY ht) ?_;rcases pq hx with ⟨rfl,hx⟩ | ⟨rfl,hx⟩
   ·exact dJn (fun ds=>(ho ds).1) (Tz.imp And.left id) hs hx mZ hK
   ·exact dJm (fun ds=>(ho ds).2) (Tz.imp And.right id) hs hx mZ hK
  ·exact hx.elim
 |block id c ih=>
  intro ho Tz K Q ds env L h β a w hs hx mZ hK;unfold aQd at hx;refine wp_block (ih ho Tz hs hx (fun ds c β env L h a w q1 q2=>mZ ds c β env L h a w q1 q2) fun e WJ dh L' h' uh a' w' h1 h2=>?_);cases e with
  |normal=>exact hK .normal _ _ _ _ _ _ _ h1 h2
  |exit j=>
   simp only[bQT,Exit.inBlock]at h1 |-;split at h1
   ·rename_i e;rw[if_pos e];exact hK .normal _ _ _ _ _ _ _ h1 h2
   ·rename_i e;rw[if_neg e];exact hK (.exit j) _ _ _ _ _ _ _ h1 h2
  |ret=>exact hK .ret _ _ _ _ _ _ _ h1 h2
 |rangeFunc g ps Fk body=>
  intro ho Tz K Q ds env L h β a w hs hx mZ hK;simp only[gu,mQG]at ho;have Cx:∀ds c s h,¬(TT ds).kp c s h:=Tz.resolve_left (by simp[Pa]);unfold aQd at hx;split at hx
  ·rename_i gf first lb hg
   split at hx
   ·rename_i aQq YU;have aQq:first= #[]:=by have:first.isEmpty=true:=aQq;simpa using this
    subst aQq;exact Fp (hT ds) (Cx ds) hs (ho ds).1 (ho ds).2 hg YU hx (fun m h' a' w' h1 h2=>hK .normal _ _ _ _ _ _ _ h1 h2)
   ·exact hx.elim
  ·exact hx.elim
 |_=>exact fun ho Tz {K Q ds env L h β a w} hs hx mZ hK=>wpIn_wide (n:=0).1 (lj (A:=A) (ro:=none) (n:=0) (hT ds) _ (ho ds) hs hx (mZ ds) (fun e dh L' h' uh a' w' h1 h2=>hK e _ _ _ _ _ _ _ h1 h2))
theorem mC{f:FuncId}{fn:Func}{args:List Value}{h:ad}{w:World}(hw:Fo h w):
 eO [] h w (fun _=>0) (args.map SV.v++List.replicate (fn.ntmps-args.length) (.v undef)) [] h { tmps:=args.toArray++Array.replicate (fn.ntmps-args.toArray.size) undef,defers:=[] } w:=by
 refine⟨bW.refl hw,fun s c hc=>(by cases hc),fun s s' c c' hc=>(by cases hc),by simp,fun t x hx=>?_,rfl⟩;rw[mXX]at hx;split at hx
 ·rename_i aP;have En:t<args.length:=by simpa using aP
  rw[mQU,mXJ En]at hx;simp at hx;subst hx;show _=_;rw[mXm,mKs (by simpa using En)];simp[En]
 ·rename_i lN;have dKw:args.length<=t:=by simpa using lN
  rw[mKr]at hx;split at hx
  ·rename_i aP;cases hx;show _=_;rw[mXm,mKq (by simpa using dKw),mJq];simp at aP |-;rw[if_pos aP];rfl
  ·cases hx
theorem yJ(hT:gE P T){ds:List Deferred}(hs:eO ds h0 w0 β env L h a w){fn:Func}{R:Value->ad->Prop}(hr:uE T env L h fn.results.toList (fun l=>pJ l (fun v=>R v h))):
 ∃v,(results fn a.tmps).run P w=.ok v w/\R v h/\bW h0 w0 h w:=by
 obtain⟨l,h3,h4⟩:=Hn hT hs hr;have h5:(results fn a.tmps).run P w=.ok (if h:l.toArray.size=1 then l.toArray[0]else .tuple l.toArray) w:=by rw[Hm,mJv];rw[mQL,mJu];rw[h3];rfl
 refine⟨_,h5,?_,hs.after⟩;unfold pJ at h4;split at h4
 ·exact h4
 ·rename_i ch;have:¬l.toArray.size=1:=fun hl=>by
   match l,hl with
   | [x],_=>exact ch x rfl
  rw[dif_neg this];exact h4
theorem zg(A:Ar)[bM A](hT:gE P T){f:FuncId}{fn:Func}{c:Code}(hf:P.funcs[f]? =some fn)(hb:fn.body=some c)(ho:gu T c=true){args:List Value}{h:ad}{R:Value->ad->Prop}
 (hx:dXx A T (fun _=>P) c fn.ntmps fn.results.toList args h R) (Cx:∀c s h,¬T.kp c s h:=by exact fun _ _ _ hc=>hc):aQa (fun _=>P) f args h R:=by
 refine⟨fun w hw n=>?_⟩;refine(callsDIn_of_wp (R:=fun e w'=>∃v h',e=.returned v/\R v h'/\bW h w h' w') hf hb trivial ?_).mono (fun e u' w' x=>x);refine lj (A:=A) (ro:=none) hT c ho (mC (f:=f) (fn:=fn) hw) hx (qN.none Cx) fun e dh L' h' uh a' w' h1 h2=>?_;have fin:uE T dh L' h' fn.results.toList (fun l=>pJ l (fun v=>R v h'))->a'.defers=[]/\∃v,(results fn a'.tmps).run P w'=.ok v w'/\∃v1 h1,Ending.returned v=.returned v1/\R v1 h1/\bW h w h1 w':=fun hr=>by
  obtain⟨v,h3,h4,h5⟩:=yJ hT h2 hr;exact⟨h2.defers,v,h3,v,h',rfl,h4,h5⟩
 cases e with
 |normal=>exact fin h1
 |ret=>exact fin h1
 |exit id=>exact h1.elim
theorem vA(hT:gE P T){fn:Func}{R:Value->ad->Prop}(gKI:List Deferred):∀(ds:List Df) {h:ad} {a:Act} {w:World},eO gKI h0 w0 β env L h a w->
 LY T (fun _=>P) ds (fun h=>uE T env L h fn.results.toList (fun l=>pJ l (fun v=>R v h))) h->
 LeavesInM Fence.wide 0 P fn a.tmps (fun e w'=>∃v h',e=.returned v/\R v h'/\bW h0 w0 h' w') (ds.map Df.at) .returning w
 | [],h,a,w,hs,hx=>by
  obtain⟨v,h3,h4,h5⟩:=yJ hT hs hx;exact⟨v,h3,v,h,rfl,h4,h5⟩
 | .call g args cap::r,h,a,w,hs,hx=>by
  unfold LY at hx;split at hx
  ·rename_i hg;have hi:(invoke (.fn (.func g) cap.toArray) args.toArray).run P w=.ok (.enter g (args++cap).toArray) w:=by
    have e1:args.toArray++cap.toArray=(args++cap).toArray:=by simp
    simp only[invoke,e1,rj hT hg]
   refine⟨by simp,.inr ⟨fun hd=>by simp[Fence.wide]at hd,_,_,_,_,rfl,hi,fun _ _=>trivial,(hx.out w hs.after.IV _).mono fun e u' w' ⟨hu,v,h',he,hR,ha⟩=>?_⟩⟩;subst hu;subst he;have:=vA hT gKI r (hs.step ha) hR;exact this
  ·exact hx.elim
 | .mark m::r,h,a,w,hs,hx=>by
  unfold LY at hx;obtain⟨h1,h2⟩:=hx;have hw:=hs.after.IV _ _ h1;refine⟨by simp,.inl ⟨m,_,rfl,run_takeDeferred hw,?_⟩⟩;exact vA hT gKI r (hs.step (bW.put hs.after.IV h1)) h2
theorem oZ(A:Ar)[bM A](hT:gE P T){f:FuncId}{fn:Func}{c:Code}(hf:P.funcs[f]? =some fn)(hb:fn.body=some c)(ho:gu T c=true){args:List Value}{h:ad}{R:Value->ad->Prop}
 (hx:eJN A T (fun _=>P) c fn.ntmps fn.results.toList args h R) (Cx:∀c s h,¬T.kp c s h:=by exact fun _ _ _ hc=>hc):aQI (fun _=>P) f args h R:=by
 refine⟨fun w hw=>?_⟩;refine callsIn_wide.1 (callsIn_of_wp_marks (F:=Fence.wide) (n:=0) hf hb trivial ((wpIn_wide (n:=0)).2 ?_));refine JX (A:=A) (TT:=fun _=>T) (fun _=>hT) c (fun _=>ho) (.inr fun _=>Cx) (ds:=[]) (mC (f:=f) (fn:=fn) hw) hx (fun _=>qN.none Cx) fun e WJ dh L' h' uh a' w' h1 h2=>?_;have fin:LY T (fun _=>P) WJ (fun h=>uE T dh L' h fn.results.toList (fun l=>pJ l (fun v=>R v h))) h'->LeavesInM Fence.wide 0 P fn a'.tmps (fun e w'=>∃v h',e=.returned v/\R v h'/\bW h w h' w') a'.defers .returning w':=fun hr=>by
  have:=vA hT _ WJ h2 hr;rw[h2.defers];exact this
 cases e with
 |normal=>exact fin h1
 |ret=>exact fin h1
 |exit id=>exact h1.elim
variable {ro:Option Nat}{n:Nat}
variable {P:Program}{T:bu}{A:Ar}[bM A]
variable {h0:ad}{w0:World}{β:Nat->Nat}{h:ad}{a:Act}{w:World}{env:Env}{L:Loc}{ds:List Deferred}
theorem mQ(A:Ar)[bM A](hT:gE P T){f:FuncId}{fn:Func}{c:Code}(hf:P.funcs[f]? =some fn)(hb:fn.body=some c)(ho:gu T c=true){args:List Value}{h:ad}{R:Value->ad->Prop}{K:List PanicEntry->ad->Prop}
 (Cx:∀c s h',T.kp c s h'->K c h') (hx:dXx A T (fun _=>P) c fn.ntmps fn.results.toList args h R):Rr (fun _=>P) f args h R K:=by
 refine⟨fun w hw=>?_⟩;refine calls_of_wp hf hb (wpIn_wide (n:=0).1 ?_);refine lj (A:=A) (ro:=none) (n:=0) hT c ho (mC (f:=f) (fn:=fn) hw) hx (fun c β env L h1 a1 w1 q1 q2=>⟨q2.defers,.inr ⟨c,h1,rfl,Cx _ _ _ q1,q2.after⟩⟩) fun e dh L' h' uh a' w' h1 h2=>?_;have fin:uE T dh L' h' fn.results.toList (fun l=>pJ l (fun v=>R v h'))->a'.defers=[]/\∃v,(results fn a'.tmps).run P w'=.ok v w'/\
  ((∃v1 h1,Ending.returned v=.returned v1/\R v1 h1/\bW h w h1 w')\/(∃c h1,Ending.returned v=.panicked c/\K c h1/\bW h w h1 w')):=fun hr=>by
  obtain⟨v,h3,h4,h5⟩:=yJ hT h2 hr;exact⟨h2.defers,v,h3,.inl ⟨v,h',rfl,h4,h5⟩⟩
 cases e with
 |normal=>exact fin h1
 |ret=>exact fin h1
 |exit id=>exact h1.elim
structure gZs(p:Unit->Program)(f:FuncId)(args:List Value)(v:Value)(h:ad)(R:ad->Prop):Prop where
 out:∀w,Fo h w->∀n,CallsDIn Fence.wide n (p ()) f args.toArray (.panicking [{ v,recovered:=false }]) w fun e u' w'=>u'=.panicking [{ v,recovered:=true }]/\∃x h',e=.returned x/\R h'/\bW h w h' w'
def OP(T:bu)(h:ad):List ResultVar->List SV->(List Value->Prop)->Prop
 | [],_,k=>k []
 |r::rs,ss,k=>match r with
  | .cell _ t=>match ss with
   |s::ss=>match s with
    | .v (.pointer (some x))=>match (T.ty t).kd.isNone with
     |true=>False
     |false=>Bn h x (T.ty t).size (fun cs=>uF (T.ty t).agg cs (fun v=>OP T h rs ss (fun l=>k (v::l))))
    |_=>False
   | []=>False
  | .tmp _=>False
def Yf:List ResultVar->List Nat
 | []=>[]
 | .cell a _::r=>a::Yf r
 | .tmp t::r=>t::Yf r
theorem Hp:∀ {rs:List ResultVar} {k:List Value->Prop},OP T h rs ((Yf rs).map fun t=>rq env (.tmp t)) k->uE T env L h rs k
 | [],k,hr=>hr
 | .tmp _::rs,k,hr=>by unfold OP at hr;exact hr.elim
 | .cell q t::rs,k,hr=>by
  unfold OP at hr;simp only[Yf,mZr,rq]at hr;split at hr
  ·rename_i x hx;split at hr
   ·exact hr.elim
   ·rename_i hn;obtain⟨cs,h1,h2⟩:=(show Bn _ _ _ _ from hr).out;have h3:Bn h x (T.ty t).size fun cs=>uF (T.ty t).agg cs fun x=>uE T env L h rs fun xs=>k (x::xs):=⟨cs,h1,oN h2 fun v hv=>Hp hv⟩;unfold uE bKm;cases hk:(T.ty t).kd with
    |none=>rw[hk]at hn;cases hn
    |_=>simp only[hk,hx];exact h3
  ·exact hr.elim
def dXN(T:bu)(p:Unit->Program)(rs:List ResultVar)(R:Value->ad->Prop)(ds:List Df)(c:List PanicEntry)(s:List SV)(h:ad):Prop:=
 match ds with
 | [.call g args cap]=>match T.fn g with
  |true=>∃x,c=[{ v:=x,recovered:=false }]/\gZs p g (args++cap) x h (fun h'=>OP T h' rs s (fun l=>pJ l (fun v=>R v h')))
  |false=>False
 |_=>False
def bu.cJk(T:bu)(p:Unit->Program)(rs:List ResultVar)(R:Value->ad->Prop)(ds:List Df):bu:={ T with rs:=Yf rs,kp:=dXN T p rs R ds }
def eJM(A:Ar)(T:bu)(p:Unit->Program)(c:Code)(ntmps:Nat)(rs:List ResultVar)(args:List Value)(h:ad)(R:Value->ad->Prop):Prop:=
 aQd A (T.cJk p rs R) p c (fun e ds env L h=>match e with
  | .exit _=>False
  |_=>LY T p ds (fun h=>uE T env L h rs (fun l=>pJ l (fun v=>R v h))) h) [] (args.map SV.v++List.replicate (ntmps-args.length) (.v undef)) [] h
theorem Zj(A:Ar)[bM A](hT:gE P T){f:FuncId}{fn:Func}{c:Code}(hf:P.funcs[f]? =some fn)(hb:fn.body=some c)(ho:∀q k,gu { T with rs:=q,kp:=k } c=true)(Tz:Pa c=true){args:List Value}{h:ad}{R:Value->ad->Prop}
 (hx:eJM A T (fun _=>P) c fn.ntmps fn.results.toList args h R):aQI (fun _=>P) f args h R:=by
 refine⟨fun w hw=>?_⟩;refine callsIn_wide.1 (callsIn_of_wp_marks (F:=Fence.wide) (n:=0) hf hb trivial ((wpIn_wide (n:=0)).2 ?_));refine JX (A:=A) (TT:=T.cJk (fun _=>P) fn.results.toList R) (fun _=>⟨hT.ty,hT.fn,hT.mixed⟩) c (fun ds=>ho _ _) (.inl Tz) (ds:=[]) (mC (f:=f) (fn:=fn) hw) hx ?_ fun e WJ dh L' h' uh a' w' h1 h2=>?_
 ·intro ds c' β env L h1 a1 w1 q1 q2;change dXN T (fun _=>P) fn.results.toList R ds c' ((Yf fn.results.toList).map fun t=>rq env (.tmp t)) h1 at q1;unfold dXN at q1;split at q1
  ·rename_i g args cap;split at q1
   ·rename_i hg;obtain⟨x,rfl,hr⟩:=q1;have hi:(invoke (.fn (.func g) cap.toArray) args.toArray).run P w1=.ok (.enter g (args++cap).toArray) w1:=by
     have e1:args.toArray++cap.toArray=(args++cap).toArray:=by simp
     simp only[invoke,e1,rj hT hg]
    show LeavesInM Fence.wide 0 P fn a1.tmps _ a1.defers (.panicking _) w1;rw[q2.defers];refine⟨by simp,.inr ⟨fun hd=>by simp[Fence.wide]at hd,_,_,_,_,rfl,hi,fun _ _=>trivial,(hr.out w1 q2.after.IV _).mono fun e u' w' ⟨hu,v,h',he,hR,ha⟩=>?_⟩⟩;subst hu;subst he;obtain⟨v,h3,h4,h5⟩:=yJ hT (q2.step ha) (Hp hR);exact⟨v,h3,v,h',rfl,h4,h5⟩
   ·exact q1.elim
  ·exact q1.elim
 ·have fin:LY T (fun _=>P) WJ (fun h=>uE T dh L' h fn.results.toList (fun l=>pJ l (fun v=>R v h))) h'->LeavesInM Fence.wide 0 P fn a'.tmps (fun e w'=>∃v h',e=.returned v/\R v h'/\bW h w h' w') a'.defers .returning w':=fun hr=>by
   have:=vA hT _ WJ h2 hr;rw[h2.defers];exact this
  cases e with
  |normal=>exact fin h1
  |ret=>exact fin h1
  |exit id=>exact h1.elim
end Go.Sx
