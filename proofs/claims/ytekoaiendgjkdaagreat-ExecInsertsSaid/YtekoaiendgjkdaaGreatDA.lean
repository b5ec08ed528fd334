import Derived.Test.YtekoaiendgjkdaaGreatTab
import Derived.Test.YtekoaiendgjkdaaGreatRd
set_option linter.unusedVariables false
set_option linter.unusedSimpArgs false
set_option linter.unusedSectionVars false
set_option maxRecDepth 100000
namespace Go.S
open Go.Sx Go.Proofs
abbrev Ct(f:FuncId)(args:List Value)(h:ad)(R:Value->ad->Prop):Prop:=E5 (fun _=>Tryz.prog) f args h R
abbrev X2(f:FuncId)(args:List Value)(h:ad)(R:Value->ad->Prop):Prop:=EF (fun _=>Tryz.prog) f args h R
structure cR where
 k:Int
 n:Int
 s:ByteArray
def aY:Sh cR where
 n:=3
 R _ cs v:=cs=[.int .i64 v.k,.int .i64 v.n,.string v.s]
 len:=by rintro h cs x rfl;rfl
 one:=by rintro h cs x rfl;rfl
 tys:=[]
 mono:=fun _ q=>q
structure bS where
 name:ByteArray
 kind:Int
 null:Bool
def bp:Sh bS where
 n:=3
 R _ cs v:=cs=[.string v.name,.int .i64 v.kind,.bool v.null]
 len:=by rintro h cs x rfl;rfl
 one:=by rintro h cs x rfl;rfl
 tys:=[]
 mono:=fun _ q=>q
structure Jz where
 name:ByteArray
 at_:Int
def fv:Sh Jz where
 n:=2
 R _ cs v:=cs=[.string v.name,.int .i64 v.at_]
 len:=by rintro h cs x rfl;rfl
 one:=by rintro h cs x rfl;rfl
 tys:=[]
 mono:=fun _ q=>q
structure bK where
 s:Int
 table:ByteArray
 x:Bool
def bA:Sh bK where
 n:=3
 R _ cs v:=cs=[.int .i64 v.s,.string v.table,.bool v.x]
 len:=by rintro h cs x rfl;rfl
 one:=by rintro h cs x rfl;rfl
 tys:=[]
 mono:=fun _ q=>q
abbrev Row:=List cR
abbrev aN:Sh Row:=jl 61 aY
structure Ao where
 name:ByteArray
 cols:List bS
 key:Int
 only:Bool
structure cA where
 S:Ao
 rows:List Row
def cJ:Sh cA where
 n:=5
 R h cs t:=∃b1 n1 c1 b2 n2 c2,cs=[.string t.S.name,.slice b1 n1 c1,.int .i64 t.S.key,.bool t.S.only,.slice b2 n2 c2]/\Sl 165 bp h (.slice b1 n1 c1) t.S.cols/\Sl 59 aN h (.slice b2 n2 c2) t.rows
 len:=by rintro h cs x ⟨_,_,_,_,_,_,rfl,-⟩;rfl
 one:=by rintro h cs x ⟨_,_,_,_,_,_,rfl,-⟩;rfl
 tys:=[165,59,61]
 mono:=by rintro h h' cs x hl ⟨b1,n1,c1,b2,n2,c2,rfl,q1,q2⟩;exact⟨b1,n1,c1,b2,n2,c2,rfl,q1.mono (hl.sub (by decide)),q2.mono (hl.sub (by decide))⟩
structure lD where
 table:ByteArray
 op:Int
 row:Row
def fE:Sh lD where
 n:=3
 R h cs t:=∃b n c,cs=[.string t.table,.int .i64 t.op,.slice b n c]/\Sl 61 aY h (.slice b n c) t.row
 len:=by rintro h cs x ⟨_,_,_,rfl,-⟩;rfl
 one:=by rintro h cs x ⟨_,_,_,rfl,-⟩;rfl
 tys:=[61]
 mono:=by rintro h h' cs x hl ⟨b,n,c,rfl,q⟩;exact⟨b,n,c,rfl,q.mono (hl.sub (by decide))⟩
structure dr where
 s:Int
 log:List lD
 marks:List Jz
def shWrk:Sh dr where
 n:=3
 R h cs t:=∃b1 n1 c1 b2 n2 c2,cs=[.int .i64 t.s,.slice b1 n1 c1,.slice b2 n2 c2]/\Sl 148 fE h (.slice b1 n1 c1) t.log/\Sl 161 fv h (.slice b2 n2 c2) t.marks
 len:=by rintro h cs x ⟨_,_,_,_,_,_,rfl,-⟩;rfl
 one:=by rintro h cs x ⟨_,_,_,_,_,_,rfl,-⟩;rfl
 tys:=[148,61,161]
 mono:=by rintro h h' cs x hl ⟨b1,n1,c1,b2,n2,c2,rfl,q1,q2⟩;exact⟨b1,n1,c1,b2,n2,c2,rfl,q1.mono (hl.sub (by decide)),q2.mono (hl.sub (by decide))⟩
def bO:Sh (dr×Bool)where
 n:=3
 R h cs t:=∃b1 n1 c1 b2 n2 c2,cs=[.int .i64 t.1.s,.slice b1 n1 c1,.slice b2 n2 c2]/\Sl 148 fE h (.slice b1 n1 c1) t.1.log/\Sl 161 fv h (.slice b2 n2 c2) t.1.marks/\(t.2=true->c1=n1)
 len:=by rintro h cs x ⟨_,_,_,_,_,_,rfl,-⟩;rfl
 one:=by rintro h cs x ⟨_,_,_,_,_,_,rfl,-⟩;rfl
 tys:=[148,61,161]
 mono:=by rintro h h' cs x hl ⟨b1,n1,c1,b2,n2,c2,rfl,q1,q2,q3⟩;exact⟨b1,n1,c1,b2,n2,c2,rfl,q1.mono (hl.sub (by decide)),q2.mono (hl.sub (by decide)),q3⟩
structure DB where
 aB:List cA
 aq:List dr
 holds:List bK
 waits:List bK
structure gA(h:ad)(v:Value)(d:DB):Prop where
 out:∃b1 n1 c1 b2 n2 c2 b3 n3 c3 b4 n4 c4 ws,v=.agg #[.slice b1 n1 c1,.slice b2 n2 c2,.slice b3 n3 c3,.slice b4 n4 c4]/\
  Sl 51 cJ h (.slice b1 n1 c1) d.aB/\Sl 55 bO h (.slice b2 n2 c2) ws/\Sl 205 bA h (.slice b3 n3 c3) d.holds/\Sl 205 bA h (.slice b4 n4 c4) d.waits/\ws.map (·.1)=d.aq
theorem qz{xs:List bK}{h:ad}{b:Option Addr}{len cap:Nat}(q:Sl 205 bA h (.slice b len cap) xs):
 Ct 116 [.slice b len cap] h (fun v h'=>Le h h'/\∃b' eP,v=.slice b' len eP/\Sl 205 bA h' v xs/\∀mG o s,b'=some ⟨mG,o,s⟩->h mG=none):=by
 obtain⟨A,hA⟩:=Ar.ex;refine af A (ar MD.aw MD.aZ) Tryz.func116 rfl (by kernel_rfl) ?_;cbv;refine aL (fun hc=>?_) (fun hc=>?_)
 ·rw[hA.vf]at hc;cbv;have hb:b=none:=by cases b<;>simp at hc |-
  subst hb;have hl:len=0:=by
   rcases Nat.eq_zero_or_pos len with e|e
   ·exact e
   ·have:=q.bF e;cases this
  have:=q.len;have hx:xs=[]:=List.eq_nil_of_length_eq_zero (by omega);subst hx hl;exact⟨Le.refl _,none,0,rfl,Sl.nil,fun _ _ _ e=>(by cases e)⟩
 ·cbv;intro n0 h1 jz dO;have hle:Le h h1:=by rw[dO];exact Le.set jz
  cbv;refine eH (q.mono (hle.t _)) (by simp[bA]) rfl (by decide) (fun hn=>?_) (fun nb c h2 e1 e2 e3 e4=>?_)
  ·cbv;have:=q.len;have hx:xs=[]:=List.eq_nil_of_length_eq_zero (by omega);subst hx hn;exact⟨hle,_,_,rfl,Sl.nil,fun _ _ _ e=>(by cases e;exact jz)⟩
  ·cbv;exact⟨hle.trans e3,_,_,rfl,e4.sl q.len,fun _ _ _ e=>(by cases e;exact hle.none e1)⟩
theorem Ab{xs:List bS}{h:ad}{b:Option Addr}{len cap:Nat}(q:Sl 165 bp h (.slice b len cap) xs):
 Ct 169 [.slice b len cap] h (fun v h'=>Le h h'/\∃b' eP,v=.slice b' len eP/\Sl 165 bp h' v xs/\∀mG o s,b'=some ⟨mG,o,s⟩->h mG=none):=by
 obtain⟨A,hA⟩:=Ar.ex;refine af A (ar MC.aw MC.aZ) Tryz.func169 rfl (by kernel_rfl) ?_;cbv;refine aL (fun hc=>?_) (fun hc=>?_)
 ·rw[hA.vf]at hc;cbv;have hb:b=none:=by cases b<;>simp at hc |-
  subst hb;have hl:len=0:=by
   rcases Nat.eq_zero_or_pos len with e|e
   ·exact e
   ·have:=q.bF e;cases this
  have:=q.len;have hx:xs=[]:=List.eq_nil_of_length_eq_zero (by omega);subst hx hl;exact⟨Le.refl _,none,0,rfl,Sl.nil,fun _ _ _ e=>(by cases e)⟩
 ·cbv;intro n0 h1 jz dO;have hle:Le h h1:=by rw[dO];exact Le.set jz
  cbv;refine eH (q.mono (hle.t _)) (by simp[bp]) rfl (by decide) (fun hn=>?_) (fun nb c h2 e1 e2 e3 e4=>?_)
  ·cbv;have:=q.len;have hx:xs=[]:=List.eq_nil_of_length_eq_zero (by omega);subst hx hn;exact⟨hle,_,_,rfl,Sl.nil,fun _ _ _ e=>(by cases e;exact jz)⟩
  ·cbv;exact⟨hle.trans e3,_,_,rfl,e4.sl q.len,fun _ _ _ e=>(by cases e;exact hle.none e1)⟩
theorem uF{xs:List cR}{h:ad}{b:Option Addr}{len cap:Nat}(q:Sl 61 aY h (.slice b len cap) xs):
 Ct 90 [.slice b len cap] h (fun v h'=>Le h h'/\∃b' eP,v=.slice b' len eP/\Sl 61 aY h' v xs/\∀mG o s,b'=some ⟨mG,o,s⟩->h mG=none):=by
 obtain⟨A,hA⟩:=Ar.ex;refine af A (ar Zj.aw Zj.aZ) Tryz.func90 rfl (by kernel_rfl) ?_;cbv;refine aL (fun hc=>?_) (fun hc=>?_)
 ·rw[hA.vf]at hc;cbv;have hb:b=none:=by cases b<;>simp at hc |-
  subst hb;have hl:len=0:=by
   rcases Nat.eq_zero_or_pos len with e|e
   ·exact e
   ·have:=q.bF e;cases this
  have:=q.len;have hx:xs=[]:=List.eq_nil_of_length_eq_zero (by omega);subst hx hl;exact⟨Le.refl _,none,0,rfl,Sl.nil,fun _ _ _ e=>(by cases e)⟩
 ·cbv;intro n0 h1 jz dO;have hle:Le h h1:=by rw[dO];exact Le.set jz
  cbv;refine eH (q.mono (hle.t _)) (by simp[aY]) rfl (by decide) (fun hn=>?_) (fun nb c h2 e1 e2 e3 e4=>?_)
  ·cbv;have:=q.len;have hx:xs=[]:=List.eq_nil_of_length_eq_zero (by omega);subst hx hn;exact⟨hle,_,_,rfl,Sl.nil,fun _ _ _ e=>(by cases e;exact jz)⟩
  ·cbv;exact⟨hle.trans e3,_,_,rfl,e4.sl q.len,fun _ _ _ e=>(by cases e;exact hle.none e1)⟩
theorem Iw{xs:List Jz}{h:ad}{b:Option Addr}{len cap:Nat}(q:Sl 161 fv h (.slice b len cap) xs):
 Ct 208 [.slice b len cap] h (fun v h'=>Le h h'/\∃b' eP,v=.slice b' len eP/\Sl 161 fv h' v xs/\∀mG o s,b'=some ⟨mG,o,s⟩->h mG=none):=by
 obtain⟨A,hA⟩:=Ar.ex;refine af A (ar MB.aw MB.aZ) Tryz.func208 rfl (by kernel_rfl) ?_;cbv;refine aL (fun hc=>?_) (fun hc=>?_)
 ·rw[hA.vf]at hc;cbv;have hb:b=none:=by cases b<;>simp at hc |-
  subst hb;have hl:len=0:=by
   rcases Nat.eq_zero_or_pos len with e|e
   ·exact e
   ·have:=q.bF e;cases this
  have:=q.len;have hx:xs=[]:=List.eq_nil_of_length_eq_zero (by omega);subst hx hl;exact⟨Le.refl _,none,0,rfl,Sl.nil,fun _ _ _ e=>(by cases e)⟩
 ·cbv;intro n0 h1 jz dO;have hle:Le h h1:=by rw[dO];exact Le.set jz
  cbv;refine eH (q.mono (hle.t _)) (by simp[fv]) rfl (by decide) (fun hn=>?_) (fun nb c h2 e1 e2 e3 e4=>?_)
  ·cbv;have:=q.len;have hx:xs=[]:=List.eq_nil_of_length_eq_zero (by omega);subst hx hn;exact⟨hle,_,_,rfl,Sl.nil,fun _ _ _ e=>(by cases e;exact jz)⟩
  ·cbv;exact⟨hle.trans e3,_,_,rfl,e4.sl q.len,fun _ _ _ e=>(by cases e;exact hle.none e1)⟩
theorem Gi{r:Row}{h:ad}{b:Option Addr}{len cap:Nat}(q:Sl 61 aY h (.slice b len cap) r):
 Ct 128 [.slice b len cap] h (fun v h'=>Le h h'/\∃b' eP,v=.slice b' len eP/\Sl 61 aY h' v r):=by
 obtain⟨A,hA⟩:=Ar.ex;refine af A (ar XA.aw XA.aZ) Tryz.func128 rfl (by kernel_rfl) ?_;cbv;refine(uF q).mono (fun v h'=>?_);rintro⟨hle,b',eP,rfl,q',-⟩;cbv;exact⟨hle,_,_,rfl,q'⟩
theorem LS{xs:List Row}{h:ad}{b:Option Addr}{len cap:Nat}(q:Sl 59 aN h (.slice b len cap) xs):
 Ct 207 [.slice b len cap,.func (.func 128) #[] #[]] h (fun v h'=>Le h h'/\∃nb,h nb=none/\v=.slice (some ⟨nb,0,none⟩) len len/\dn 59 aN h' nb len xs):=by
 obtain⟨A,hA⟩:=Ar.ex;have hlen:=q.len;obtain⟨ke,jt⟩:=q.bound;refine af A (ar WT.aw WT.aZ) Tryz.func207 rfl (by kernel_rfl) ?_;cbv;refine gV (s:=aN) rfl (by omega) (by decide) (fun nb h1 eJ hle ho=>?_);cbv;refine aX.go (G:=Int) (fun z=>[(13,.v (.int .i64 z))]) (fun _=>[]) (fun n z h'=>∃i:Nat,aO z i/\n=len-i/\i<=len/\Le h h'/\dn 59 aN h' nb len (xs.take i)) len 0 ⟨?_,?_,?_⟩ ⟨0,⟨rfl⟩,by omega,by omega,hle,ho⟩ ?_
 ·cbv
 ·cbv
 ·cbv
 ·intro n z h' hI;cbv;obtain⟨i,hz,hn,hi,jF,nZ⟩:=hI;refine aL (fun hc=>?_) (fun hc=>?_)
  ·have aG:=hz.lt hc;clear hc;cbv;obtain⟨x,hx⟩:=aE (xs:=xs) (i:=i) (by omega);refine⟨⟨q.bF (by omega),hz.ix aG⟩,?_⟩;cbv;refine(q.mono (jF.t _)).load hx hz.eq (fun cs aF=>?_);obtain⟨v,rfl,hv⟩:=aF;obtain⟨b1,l1,c1,rfl⟩:=hv.form;cbv;refine(Gi hv).mono (fun v2 h2 hR=>?_);obtain⟨cB,b2,Iz,rfl,Hn⟩:=hR;cbv;refine⟨⟨rfl,hz.ix aG⟩,?_⟩;cbv;refine(nZ.mono (cB.t _)).store (by decide) (i:=i) (by simp;omega) (by omega) (by omega) hz.eq rfl (x:=x) ⟨_,rfl,Hn⟩ (fun h3 hk ht yj=>?_);cbv;refine⟨len-(i+1),_,by omega,⟨?_,?_,?_⟩,i+1,hz.succ (A:=A) (by omega),rfl,by omega,?_,?_⟩
   ·cbv
   ·cbv
   ·cbv
   ·exact(jF.trans cB).cO (by simpa using eJ) hk
   ·rw[if_neg (by simp;omega)]at yj;rw[List.take_add_one,hx];exact yj
  ·have iu:=hz.ge hc;cbv;have:i=len:=by omega
   subst this;refine⟨jF,nb,eJ,rfl,?_⟩;rw[hlen,List.take_length]at nZ;rw[hlen];exact nZ
theorem MX{t:cA}{h:ad}{c0 c1 c2 c3 c4:Value}(q:cJ.R h [c0,c1,c2,c3,c4] t):
 Ct 107 [.agg #[c0,c1,c2,c3,c4]] h (fun v h'=>Le h h'/\∃d0 d1 d2 d3 d4,v=.agg #[d0,d1,d2,d3,d4]/\cJ.R h' [d0,d1,d2,d3,d4] t):=by
 obtain⟨A,hA⟩:=Ar.ex;obtain⟨b1,n1,k1,b2,n2,k2,he,q1,q2⟩:=q;cases he;refine af A (ar XQ.aw XQ.aZ) Tryz.func107 rfl (by kernel_rfl) ?_;cbv;refine(Ab q1).mono (fun v h1 hR=>?_);obtain⟨hle,b',eP,rfl,q1',-⟩:=hR;cbv;refine(LS (q2.mono (hle.t _))).mono (fun v h2 hR=>?_);obtain⟨cB,nb,eJ,rfl,ho⟩:=hR;cbv;exact⟨hle.trans cB,_,_,_,_,_,rfl,_,_,_,_,_,_,rfl,q1'.mono (cB.t _),ho.sl q2.len⟩
theorem CK{xs:List cA}{h:ad}{b:Option Addr}{len cap:Nat}(q:Sl 51 cJ h (.slice b len cap) xs):
 Ct 113 [.slice b len cap,.func (.func 107) #[] #[]] h (fun v h'=>Le h h'/\∃nb,h nb=none/\v=.slice (some ⟨nb,0,none⟩) len len/\dn 51 cJ h' nb len xs):=by
 obtain⟨A,hA⟩:=Ar.ex;have hlen:=q.len;obtain⟨ke,jt⟩:=q.bound;refine af A (ar XJ.aw XJ.aZ) Tryz.func113 rfl (by kernel_rfl) ?_;cbv;refine gV (s:=cJ) rfl (by omega) (by decide) (fun nb h1 eJ hle ho=>?_);cbv;refine aX.go (G:=Int) (fun z=>[(13,.v (.int .i64 z))]) (fun _=>[]) (fun n z h'=>∃i:Nat,aO z i/\n=len-i/\i<=len/\Le h h'/\dn 51 cJ h' nb len (xs.take i)) len 0 ⟨?_,?_,?_⟩ ⟨0,⟨rfl⟩,by omega,by omega,hle,ho⟩ ?_
 ·cbv
 ·cbv
 ·cbv
 ·intro n z h' hI;cbv;obtain⟨i,hz,hn,hi,jF,nZ⟩:=hI;refine aL (fun hc=>?_) (fun hc=>?_)
  ·have aG:=hz.lt hc;clear hc;cbv;obtain⟨x,hx⟩:=aE (xs:=xs) (i:=i) (by omega);refine⟨⟨q.bF (by omega),hz.ix aG⟩,?_⟩;cbv;refine(q.mono (jF.t _)).load hx hz.eq (fun cs aF=>?_);obtain⟨b1,n1,k1,b2,n2,k2,rfl,q1,q2⟩:=aF;have hv:cJ.R h' _ x:=⟨b1,n1,k1,b2,n2,k2,rfl,q1,q2⟩;cbv;refine(MX hv).mono (fun v2 h2 hR=>?_);obtain⟨cB,d0,d1,d2,d3,d4,rfl,Hn⟩:=hR;obtain⟨b1,n1,k1,b2,n2,k2,he,q1,q2⟩:=Hn;cases he;cbv;refine⟨⟨rfl,hz.ix aG⟩,?_⟩;cbv;refine(nZ.mono (cB.t _)).store (by decide) (i:=i) (by simp;omega) (by omega) (by omega) hz.eq rfl (x:=x) ⟨b1,n1,k1,b2,n2,k2,rfl,q1,q2⟩ (fun h3 hk ht yj=>?_);cbv;refine⟨len-(i+1),_,by omega,⟨?_,?_,?_⟩,i+1,hz.succ (A:=A) (by omega),rfl,by omega,?_,?_⟩
   ·cbv
   ·cbv
   ·cbv
   ·exact(jF.trans cB).cO (by simpa using eJ) hk
   ·rw[if_neg (by simp;omega)]at yj;rw[List.take_add_one,hx];exact yj
  ·have iu:=hz.ge hc;cbv;have:i=len:=by omega
   subst this;refine⟨jF,nb,eJ,rfl,?_⟩;rw[hlen,List.take_length]at nZ;rw[hlen];exact nZ
theorem SL{t:lD}{h:ad}{c0 c1 c2:Value}(q:fE.R h [c0,c1,c2] t):
 Ct 60 [.agg #[c0,c1,c2]] h (fun v h'=>Le h h'/\∃d0 d1 d2,v=.agg #[d0,d1,d2]/\fE.R h' [d0,d1,d2] t):=by
 obtain⟨A,hA⟩:=Ar.ex;obtain⟨b1,n1,k1,he,q1⟩:=q;cases he;refine af A (ar T60.aw T60.aZ) Tryz.func60 rfl (by kernel_rfl) ?_;cbv;refine(Gi q1).mono (fun v h1 hR=>?_);obtain⟨hle,b',eP,rfl,q1'⟩:=hR;cbv;exact⟨hle,_,_,_,rfl,_,_,_,rfl,q1'⟩
theorem H6{xs:List lD}{h:ad}{b:Option Addr}{len cap:Nat}(q:Sl 148 fE h (.slice b len cap) xs):
 Ct 59 [.slice b len cap,.func (.func 60) #[] #[]] h (fun v h'=>Le h h'/\∃nb,h nb=none/\v=.slice (some ⟨nb,0,none⟩) len len/\dn 148 fE h' nb len xs):=by
 obtain⟨A,hA⟩:=Ar.ex;have hlen:=q.len;obtain⟨ke,jt⟩:=q.bound;refine af A (ar T59.aw T59.aZ) Tryz.func59 rfl (by kernel_rfl) ?_;cbv;refine gV (s:=fE) rfl (by omega) (by decide) (fun nb h1 eJ hle ho=>?_);cbv;refine aX.go (G:=Int) (fun z=>[(13,.v (.int .i64 z))]) (fun _=>[]) (fun n z h'=>∃i:Nat,aO z i/\n=len-i/\i<=len/\Le h h'/\dn 148 fE h' nb len (xs.take i)) len 0 ⟨?_,?_,?_⟩ ⟨0,⟨rfl⟩,by omega,by omega,hle,ho⟩ ?_
 ·cbv
 ·cbv
 ·cbv
 ·intro n z h' hI;cbv;obtain⟨i,hz,hn,hi,jF,nZ⟩:=hI;refine aL (fun hc=>?_) (fun hc=>?_)
  ·have aG:=hz.lt hc;clear hc;cbv;obtain⟨x,hx⟩:=aE (xs:=xs) (i:=i) (by omega);refine⟨⟨q.bF (by omega),hz.ix aG⟩,?_⟩;cbv;refine(q.mono (jF.t _)).load hx hz.eq (fun cs aF=>?_);obtain⟨b1,n1,k1,rfl,q1⟩:=aF;have hv:fE.R h' _ x:=⟨b1,n1,k1,rfl,q1⟩;cbv;refine(SL hv).mono (fun v2 h2 hR=>?_);obtain⟨cB,d0,d1,d2,rfl,Hn⟩:=hR;obtain⟨b1,n1,k1,he,q1⟩:=Hn;cases he;cbv;refine⟨⟨rfl,hz.ix aG⟩,?_⟩;cbv;refine(nZ.mono (cB.t _)).store (by decide) (i:=i) (by simp;omega) (by omega) (by omega) hz.eq rfl (x:=x) ⟨b1,n1,k1,rfl,q1⟩ (fun h3 hk ht yj=>?_);cbv;refine⟨len-(i+1),_,by omega,⟨?_,?_,?_⟩,i+1,hz.succ (A:=A) (by omega),rfl,by omega,?_,?_⟩
   ·cbv
   ·cbv
   ·cbv
   ·exact(jF.trans cB).cO (by simpa using eJ) hk
   ·rw[if_neg (by simp;omega)]at yj;rw[List.take_add_one,hx];exact yj
  ·have iu:=hz.ge hc;cbv;have:i=len:=by omega
   subst this;refine⟨jF,nb,eJ,rfl,?_⟩;rw[hlen,List.take_length]at nZ;rw[hlen];exact nZ
theorem OM{t:dr×Bool}{h:ad}{c0 c1 c2:Value}(q:bO.R h [c0,c1,c2] t):
 Ct 115 [.agg #[c0,c1,c2]] h (fun v h'=>Le h h'/\∃d0 d1 d2,v=.agg #[d0,d1,d2]/\bO.R h' [d0,d1,d2] (t.1,true)):=by
 obtain⟨A,hA⟩:=Ar.ex;obtain⟨b1,n1,k1,b2,n2,k2,he,q1,q2,-⟩:=q;cases he;refine af A (ar ME.aw ME.aZ) Tryz.func115 rfl (by kernel_rfl) ?_;cbv;refine(H6 q1).mono (fun v h1 hR=>?_);obtain⟨hle,nb,eJ,rfl,ho⟩:=hR;cbv;refine(Iw (q2.mono (hle.t _))).mono (fun v h2 hR=>?_);obtain⟨cB,b',eP,rfl,q2',-⟩:=hR;cbv;exact⟨hle.trans cB,_,_,_,rfl,_,_,_,_,_,_,rfl,(ho.sl q1.len).mono (cB.t _),q2',fun _=>rfl⟩
theorem LU{xs:List (dr×Bool)}{h:ad}{b:Option Addr}{len cap:Nat}(q:Sl 55 bO h (.slice b len cap) xs):
 Ct 114 [.slice b len cap,.func (.func 115) #[] #[]] h (fun v h'=>Le h h'/\∃nb,h nb=none/\v=.slice (some ⟨nb,0,none⟩) len len/\dn 55 bO h' nb len (xs.map fun p=>(p.1,true))):=by
 obtain⟨A,hA⟩:=Ar.ex;have hlen:=q.len;obtain⟨ke,jt⟩:=q.bound;refine af A (ar MF.aw MF.aZ) Tryz.func114 rfl (by kernel_rfl) ?_;cbv;refine gV (s:=bO) rfl (by omega) (by decide) (fun nb h1 eJ hle ho=>?_);cbv;refine aX.go (G:=Int) (fun z=>[(13,.v (.int .i64 z))]) (fun _=>[]) (fun n z h'=>∃i:Nat,aO z i/\n=len-i/\i<=len/\Le h h'/\dn 55 bO h' nb len ((xs.take i).map fun p=>(p.1,true))) len 0 ⟨?_,?_,?_⟩ ⟨0,⟨rfl⟩,by omega,by omega,hle,ho⟩ ?_
 ·cbv
 ·cbv
 ·cbv
 ·intro n z h' hI;cbv;obtain⟨i,hz,hn,hi,jF,nZ⟩:=hI;refine aL (fun hc=>?_) (fun hc=>?_)
  ·have aG:=hz.lt hc;clear hc;cbv;obtain⟨x,hx⟩:=aE (xs:=xs) (i:=i) (by omega);refine⟨⟨q.bF (by omega),hz.ix aG⟩,?_⟩;cbv;refine(q.mono (jF.t _)).load hx hz.eq (fun cs aF=>?_);obtain⟨b1,n1,k1,b2,n2,k2,rfl,q1,q2,q3⟩:=aF;have hv:bO.R h' _ x:=⟨b1,n1,k1,b2,n2,k2,rfl,q1,q2,q3⟩;cbv;refine(OM hv).mono (fun v2 h2 hR=>?_);obtain⟨cB,d0,d1,d2,rfl,Hn⟩:=hR;obtain⟨b1,n1,k1,b2,n2,k2,he,q1,q2,q3⟩:=Hn;cases he;cbv;refine⟨⟨rfl,hz.ix aG⟩,?_⟩;cbv;refine(nZ.mono (cB.t _)).store (by decide) (i:=i) (by simp;omega) (by omega) (by omega) hz.eq rfl (x:=(x.1,true)) ⟨b1,n1,k1,b2,n2,k2,rfl,q1,q2,q3⟩ (fun h3 hk ht yj=>?_);cbv;refine⟨len-(i+1),_,by omega,⟨?_,?_,?_⟩,i+1,hz.succ (A:=A) (by omega),rfl,by omega,?_,?_⟩
   ·cbv
   ·cbv
   ·cbv
   ·exact(jF.trans cB).cO (by simpa using eJ) hk
   ·rw[if_neg (by simp;omega)]at yj;rw[List.take_add_one,hx];simpa using yj
  ·have iu:=hz.ge hc;cbv;have:i=len:=by omega
   subst this;refine⟨jF,nb,eJ,rfl,?_⟩;rw[hlen,List.take_length]at nZ;rw[hlen];exact nZ
theorem QR:jg Tryz.prog 296 Tryz.f296:=⟨Tryz.func296,by kernel_rfl,by kernel_rfl,by kernel_rfl⟩
def eG(a b:ByteArray):Int:=Lib.compareBytes a.data.toList b.data.toList
structure EG(l:List Int)(z:Int)(t:Bool):Prop where
 out:∃i,aO z i/\i=kX l 0 l.length/\t=decide (i<l.length/\l.getD i 0=0)
theorem Q1(a b:ByteArray)(h:ad):Ct 260 [.string a,.string b] h (fun v h'=>Le h h'/\∃z,v=.int .i64 z/\z=eG a b):=by obtain⟨A,hA⟩:=Ar.ex;refine af A (ar Wp.aw Wp.aZ) Tryz.func260 rfl (by kernel_rfl) ?_;cbv;refine LO QR (by kernel_rfl) ?_;generalize hz:Lib.compareBytes a.data.toList b.data.toList=z;cbv;exact⟨Le.refl _,z,rfl,hz.symm⟩
theorem Iv(a b:ByteArray)(h:ad):Ct 204 [.string a,.string b] h (fun v h'=>Le h h'/\∃z,v=.int .i64 z/\z=eG a b):=by obtain⟨A,hA⟩:=Ar.ex;refine af A (ar WU.aw WU.aZ) Tryz.func204 rfl (by kernel_rfl) ?_;cbv;refine(Q1 a b h).mono (fun v h1 hR=>?_);obtain⟨hle,z,rfl,hz⟩:=hR;cbv;exact⟨hle,z,rfl,hz⟩
theorem NT(a b:ByteArray)(h:ad)(c1 c2 c3 c4:Value):Ct 203 [.agg #[.string a,c1,c2,c3,c4],.string b] h (fun v h'=>Le h h'/\∃z,v=.int .i64 z/\z=eG a b):=by obtain⟨A,hA⟩:=Ar.ex;refine af A (ar WV.aw WV.aZ) Tryz.func203 rfl (by kernel_rfl) ?_;cbv;refine(Iv a b h).mono (fun v h1 hR=>?_);obtain⟨hle,z,rfl,hz⟩:=hR;cbv;exact⟨hle,z,rfl,hz⟩
theorem bs98{xs:List cA}{h:ad}{b:Option Addr}{len cap:Nat}(q:Sl 51 cJ h (.slice b len cap) xs)(name:ByteArray):
 Ct 202 [.slice b len cap,.string name,.func (.func 203) #[] #[]] h (fun v h'=>Le h h'/\∃(z:Int) (t:Bool),v=.tuple #[.int .i64 z,.bool t]/\EG (xs.map (fun x=>eG x.S.name name)) z t):=by
 obtain⟨A,hA⟩:=Ar.ex;have hlen:=q.len;obtain⟨ke,jt⟩:=q.bound;have rZ:(xs.map (fun x=>eG x.S.name name)).length=len:=by simp[hlen]
 generalize hl:xs.map (fun x=>eG x.S.name name)=l at rZ;have lu:∀(i:Nat) x,xs[i]? =some x->l[i]? =some ((fun x=>eG x.S.name name) x):=fun i x hx=>by rw[<-hl];simp[hx]
 refine af A (ar WW.aw WW.aZ) Tryz.func202 rfl (by kernel_rfl) ?_;cbv;refine aX.go (G:=Int×Int) (fun g=>[(9,.v (.int .i64 g.1)),(10,.v (.int .i64 g.2))]) (fun _=>[])
  (fun n g h'=>∃i j:Nat,aO g.1 i/\aO g.2 j/\n=j-i/\i<=j/\j<=len/\Le h h'/\kX l 0 len=kX l i j) len (0,A .nat len) ⟨?_,?_,?_⟩ ⟨0,len,⟨rfl⟩,⟨by rw[hA.nat];rfl⟩,by omega,by omega,by omega,Le.refl _,rfl⟩ ?_
 ·cbv
 ·cbv
 ·cbv
 ·intro n g h' hI;cbv;obtain⟨i,j,hi,hj,hn,Ns,re,hle,NC⟩:=hI;refine aL (fun hc=>?_) (fun hc=>?_)
  ·rw[hi.gK (A:=A) hj,decide_eq_true_eq]at hc;cbv;refine⟨by decide,?_⟩;cbv;have hm:=hi.mid (A:=A) hj (by omega) (by omega);obtain⟨x,hx⟩:=aE (xs:=xs) (i:=(i+j) / 2) (by omega);refine⟨⟨q.bF (by omega),hm.ix (by omega)⟩,?_⟩;cbv;refine(q.mono (hle.t _)).load hx hm.eq (fun cs aF=>?_);obtain⟨b1,n1,k1,b2,n2,k2,rfl,q1,q2⟩:=aF;cbv;refine(NT x.S.name name _ _ _ _ _).mono (fun v h2 hR=>?_);obtain⟨cB,z,rfl,hz⟩:=hR;cbv;have hg:l.getD ((i+j) / 2) 0=z:=by rw[List.getD_eq_getElem?_getD,lu _ _ hx,hz];rfl
   have gZ:=NC;rw[kX.eq_1 l i j,if_pos hc,hg]at gZ;refine aL (fun iC=>?_) (fun iC=>?_)
   ·rw[hA.aD]at iC;have zG:z<0:=of_decide_eq_true iC;rw[if_pos zG]at gZ;clear iC zG;cbv;refine⟨j-((i+j) / 2+1),(_,g.2),by omega,⟨?_,?_,?_⟩,(i+j) / 2+1,j,hm.succ (A:=A) (by omega),hj,rfl,by omega,re,hle.trans cB,gZ⟩
    ·cbv
    ·cbv
    ·cbv
   ·rw[hA.aD]at iC;have zG:¬z<0:=of_decide_eq_false iC;rw[if_neg zG]at gZ;clear iC zG;cbv;refine⟨(i+j) / 2-i,(g.1,A .conv .i64 (A .bu .shr .u64 (A .conv .u64 (A .bu .add .i64 g.1 g.2)) 1)),by omega,⟨?_,?_,?_⟩,i,(i+j) / 2,hi,hm,rfl,by omega,by omega,hle.trans cB,gZ⟩
    ·cbv
    ·cbv
    ·cbv
  ·rw[hi.gK (A:=A) hj,decide_eq_false_iff_not]at hc;cbv;have gZ:=NC;rw[kX.eq_1 l i j,if_neg hc]at gZ;have gM:=hi.gK (A:=A) (w:=A .nat len) (j:=len) ⟨by rw[hA.nat];rfl⟩;refine aL (fun iC=>?_) (fun iC=>?_)
   ·rw[iC];rw[gM,decide_eq_true_eq]at iC;cbv;obtain⟨x,hx⟩:=aE (xs:=xs) (i:=i) (by omega);refine⟨⟨q.bF (by omega),hi.ix (by omega)⟩,?_⟩;cbv;refine(q.mono (hle.t _)).load hx hi.eq (fun cs aF=>?_);obtain⟨b1,n1,k1,b2,n2,k2,rfl,q1,q2⟩:=aF;cbv;refine(NT x.S.name name _ _ _ _ _).mono (fun v h2 hR=>?_);obtain⟨cB,z,rfl,hz⟩:=hR;cbv;refine⟨hle.trans cB,_,_,rfl,⟨i,hi,?_,?_⟩⟩
    ·rw[rZ];exact gZ.symm
    ·rw[hA.aD];have hg:l.getD i 0=z:=by rw[List.getD_eq_getElem?_getD,lu _ _ hx,hz];rfl
     rw[hg,rZ];simp[aD,iC];rfl
   ·rw[iC];rw[gM,decide_eq_false_iff_not]at iC;cbv;refine⟨hle,_,_,rfl,⟨i,hi,?_,?_⟩⟩
    ·rw[rZ];exact gZ.symm
    ·rw[rZ];simp[iC]
theorem MY{d:DB}{h:ad}{v:Value}(q:gA h v d):
 Ct 50 [v] h (fun v' h'=>Le h h'/\∃tb wb n1 n2 b3 n3 c3 b4 n4 c4 ws,h tb=none/\h wb=none/\
  v'=.agg #[.slice (some ⟨tb,0,none⟩) n1 n1,.slice (some ⟨wb,0,none⟩) n2 n2,.slice b3 n3 c3,.slice b4 n4 c4]/\
  n1=d.aB.length/\dn 51 cJ h' tb n1 d.aB/\n2=ws.length/\dn 55 bO h' wb n2 ws/\Sl 205 bA h' (.slice b3 n3 c3) d.holds/\Sl 205 bA h' (.slice b4 n4 c4) d.waits/\ws=d.aq.map fun w=>(w,true)):=by
 obtain⟨A,hA⟩:=Ar.ex;obtain⟨b1,n1,c1,b2,n2,c2,b3,n3,c3,b4,n4,c4,ws,rfl,q1,q2,q3,q4,qw⟩:=q.out;refine af A (ar Zl.aw Zl.aZ) Tryz.func50 rfl (by kernel_rfl) ?_;cbv;refine(CK q1).mono (fun v h1 hR=>?_);obtain⟨l1,tb,qG,rfl,o1⟩:=hR;cbv;refine(LU (q2.mono (l1.t _))).mono (fun v h2 hR=>?_);obtain⟨l2,wb,tQ,rfl,o2⟩:=hR;cbv;refine(qz (q3.mono ((l1.trans l2).t _))).mono (fun v h3 hR=>?_);obtain⟨l3,b3',Q9,rfl,o3,-⟩:=hR;cbv;refine(qz (q4.mono (((l1.trans l2).trans l3).t _))).mono (fun v h4 hR=>?_);obtain⟨l4,b4',c4',rfl,o4,-⟩:=hR;cbv;refine⟨((l1.trans l2).trans l3).trans l4,tb,wb,n1,n2,_,_,_,_,_,_,_,qG,l1.none tQ,rfl,q1.len,o1.mono (((l2.trans l3).trans l4).t _),?_,o2.mono ((l3.trans l4).t _),o3.mono (l4.t _),o4,?_⟩
 ·rw[List.length_map];exact q2.len
 ·rw[<-qw,List.map_map];rfl
structure iG(h:ad)(c tb wb ct cw:Nat)(T:List cA)(W:List (dr×Bool))(H Wt:List bK)(e:Int):Prop where
 out:∃n1 n2 b3 n3 c3 b4 n4 c4 o,h c=some (.cells #[.slice (some ⟨tb,0,none⟩) n1 ct,.slice (some ⟨wb,0,none⟩) n2 cw,.slice b3 n3 c3,.slice b4 n4 c4,.int .u32 o,.int .i32 0,.int .u32 0,.int .i64 e] 128 (0,0))/\
  ((o=0/\e=0)\/(o=1/\e≠0))/\
  n1=T.length/\dn 51 cJ h tb ct T/\n2=W.length/\dn 55 bO h wb cw W/\Sl 205 bA h (.slice b3 n3 c3) H/\Sl 205 bA h (.slice b4 n4 c4) Wt
theorem iG.mono{h h':ad}{c tb wb ct cw:Nat}{T:List cA}{W:List (dr×Bool)}{H Wt:List bK}{e:Int}(q:iG h c tb wb ct cw T W H Wt e)(hl:Le h h'):iG h' c tb wb ct cw T W H Wt e:=by obtain⟨n1,n2,b3,n3,c3,b4,n4,c4,o,g0,g1,g2,g3,g4,g5,g6,g7⟩:=q.out;exact⟨n1,n2,b3,n3,c3,b4,n4,c4,o,hl _ _ g0,g1,g2,g3.mono (hl.t _),g4,g5.mono (hl.t _),g6.mono (hl.t _),g7.mono (hl.t _)⟩
theorem yc{d:DB}{h:ad}{v:Value}(q:gA h v d):
 Ct 48 [v] h (fun v' h'=>Le h h'/\∃c tb wb ct cw W,v'=.pointer (some ⟨c,0,none⟩)/\h c=none/\h tb=none/\h wb=none/\c≠tb/\c≠wb/\W=(d.aq.map fun w=>(w,true))/\ct=d.aB.length/\cw=W.length/\iG h' c tb wb ct cw d.aB W d.holds d.waits 0):=by
 obtain⟨A,hA⟩:=Ar.ex;have q':=q;obtain⟨b1,n1,c1,b2,n2,c2,b3,n3,c3,b4,n4,c4,ws,rfl,-⟩:=q'.out;refine af A (ar Zm.aw Zm.aZ) Tryz.func48 rfl (by kernel_rfl) ?_;cbv;refine(MY q).mono (fun v h1 hR=>?_);obtain⟨l1,tb,wb,n1,n2,b3,n3,c3,b4,n4,c4,W,qG,tQ,rfl,g1,g2,g3,g4,g5,g6,g7⟩:=hR;cbv;intro n h2 hn hh;have l2:Le h1 h2:=by rw[hh];exact Le.set hn
 have ht:n≠tb:=fun e=>by
  obtain⟨c,h3,-⟩:=g2.out;rw[<-e,hn]at h3;cases h3
 have hw:n≠wb:=fun e=>by
  obtain⟨c,h3,-⟩:=g4.out;rw[<-e,hn]at h3;cases h3
 have gc:=(congrFun hh n).trans ah;have hc:iG h2 n tb wb n1 n2 d.aB W d.holds d.waits 0:=
  ⟨n1,n2,b3,n3,c3,b4,n4,c4,0,gc,.inl ⟨rfl,rfl⟩,g1,g2.mono (l2.t _),g3,g4.mono (l2.t _),g5.mono (l2.t _),g6.mono (l2.t _)⟩
 cbv;exact⟨l1.trans l2,n,tb,wb,n1,n2,W,rfl,l1.none hn,qG,tQ,ht,hw,g7,g1,g3,hc⟩
theorem aj(A:Ar)[hA:aP A](b o n:Nat):A .off ⟨b,o,none⟩ n=⟨b,o+n,none⟩:=by rw[hA.off];exact bY b o n
theorem QS:jg Tryz.prog 292 Tryz.f292:=⟨Tryz.func292,by kernel_rfl,by kernel_rfl,by kernel_rfl⟩
theorem QQ:jg Tryz.prog 321 Tryz.f321:=⟨Tryz.func321,by kernel_rfl,by kernel_rfl,by kernel_rfl⟩
theorem H0:jg Tryz.prog 335 Tryz.f335:=⟨Tryz.func335,by kernel_rfl,by kernel_rfl,by kernel_rfl⟩
theorem QO:jg Tryz.prog 336 Tryz.f336:=⟨Tryz.func336,by kernel_rfl,by kernel_rfl,by kernel_rfl⟩
theorem HZ:jg Tryz.prog 337 Tryz.f337:=⟨Tryz.func337,by kernel_rfl,by kernel_rfl,by kernel_rfl⟩
theorem QN:jg Tryz.prog 338 Tryz.f338:=⟨Tryz.func338,by kernel_rfl,by kernel_rfl,by kernel_rfl⟩
theorem QM:jg Tryz.prog 340 Tryz.f340:=⟨Tryz.func340,by kernel_rfl,by kernel_rfl,by kernel_rfl⟩
theorem QL:jg Tryz.prog 341 Tryz.f341:=⟨Tryz.func341,by kernel_rfl,by kernel_rfl,by kernel_rfl⟩
structure Up(h:ad)(b o:Nat)(x:Value)(h':ad):Prop where
 out:∃c e,h b=some (.cells c e (0,0))/\h'=aV h b (.cells (c.setIfInBounds o x) e (0,0))
theorem Up.cel{h h':ad}{b o:Nat}{x v:Value}(u:Up h b o x h')(q:lG h ⟨b,o,none⟩ v):lG h' ⟨b,o,none⟩ x:=by obtain⟨c,e,h1,rfl⟩:=u.out;obtain⟨-,c',e',h2,h3⟩:=q.out;simp only at h2;rw[h1]at h2;cases h2;refine⟨rfl,_,e,ah,?_⟩;have:=(Array.getElem?_eq_some_iff.1 h3).1;simp only at this |-;rw[Array.getElem?_setIfInBounds_self_of_lt this]
theorem Up.other{h h':ad}{b o p:Nat}{x v:Value}(u:Up h b o x h')(hp:p≠o)(q:lG h ⟨b,p,none⟩ v):lG h' ⟨b,p,none⟩ v:=by obtain⟨c,e,h1,rfl⟩:=u.out;obtain⟨-,c',e',h2,h3⟩:=q.out;simp only at h2;rw[h1]at h2;cases h2;refine⟨rfl,_,e,ah,?_⟩;simp only at h3 |-;rw[Array.getElem?_setIfInBounds_ne (Ne.symm hp)];exact h3
theorem Kt{h:ad}{b o:Nat}(q:lG h ⟨b,o,none⟩ (.int .i32 0)):Ct 319 [.pointer (some ⟨b,o,none⟩)] h (fun v h'=>v=.tuple #[]/\Up h b o (.int .i32 1) h'):=by obtain⟨A,hA⟩:=Ar.ex;refine af A (ar VK.aw VK.aZ) Tryz.func319 rfl (by kernel_rfl) ?_;cbv;refine nR H0 .disable (by kernel_rfl) ?_;cbv;rw[aj A];refine LP QO (by kernel_rfl) q (fun c e h1 e1 e2=>?_);have hu:Up h b o (.int .i32 1) h1:=⟨c,e,e1,e2⟩;cbv;refine nR HZ .enable (by kernel_rfl) ?_;cbv;refine tg (t:=122) (by kernel_rfl) (by kernel_rfl) (by kernel_rfl) (hu.cel q) ?_;cbv;refine uq QN .acquire (by kernel_rfl) ?_;cbv;exact⟨rfl,hu⟩
theorem Cd{h:ad}{b o:Nat}(q:lG h ⟨b,o,none⟩ (.int .i32 0)):Ct 293 [.pointer (some ⟨b,o,none⟩)] h (fun v h'=>v=.tuple #[]/\Up h b o (.int .i32 1) h'):=by obtain⟨A,hA⟩:=Ar.ex;refine af A (ar V3.aw V3.aZ) Tryz.func293 rfl (by kernel_rfl) ?_;cbv;rw[aj A];refine(Kt q).mono (fun v h1 hR=>?_);obtain⟨rfl,hu⟩:=hR;cbv;exact⟨rfl,hu⟩
theorem C9{h:ad}{b o:Nat}(q:lG h ⟨b,o,none⟩ (.int .i32 1)):Ct 320 [.pointer (some ⟨b,o,none⟩)] h (fun v h'=>v=.tuple #[]/\Up h b o (.int .i32 0) h'):=by
 obtain⟨A,hA⟩:=Ar.ex;refine af A (ar VJ.aw VJ.aZ) Tryz.func320 rfl (by kernel_rfl) ?_;cbv;rw[aj A];obtain⟨-,c0,e0,g1,g2⟩:=q.out;refine⟨[.int .i32 1],⟨rfl,rfl,c0,e0,(0,0),g1,fun i hi=>?_⟩,?_⟩
 ·have:i=0:=by omega
  subst this;exact g2
 cbv;refine tg (t:=122) (by kernel_rfl) (by kernel_rfl) (by kernel_rfl) q ?_;cbv;refine uq QM .releaseMerge (by kernel_rfl) ?_;cbv;refine nR H0 .disable (by kernel_rfl) ?_;cbv;rw[aj A];refine CI QL (by kernel_rfl) q (fun c e h1 e1 e2=>?_);have hu:Up h b o (.int .i32 0) h1:=⟨c,e,e1,e2⟩;cbv;refine aL (fun hc=>?_) (fun hc=>?_)
 ·rw[hA.aD]at hc;cases hc
 cbv;refine nR HZ .enable (by kernel_rfl) ?_;cbv;exact⟨rfl,hu⟩
theorem sO{h:ad}{b o:Nat}(q:lG h ⟨b,o,none⟩ (.int .i32 1)):X2 294 [.pointer (some ⟨b,o,none⟩)] h (fun v h'=>v=.tuple #[]/\Up h b o (.int .i32 0) h'):=by obtain⟨A,hA⟩:=Ar.ex;refine nP A (ar V2.aw V2.aZ) Tryz.func294 rfl (by kernel_rfl) ?_;cbv;rw[aj A];refine(C9 q).mono (fun v h1 hR=>?_);obtain⟨rfl,hu⟩:=hR;cbv;exact⟨rfl,hu⟩
theorem nK{h:ad}{b o:Nat}{x:Int}(q:lG h ⟨b,o,none⟩ (.int .u32 x)):Ct 258 [.pointer (some ⟨b,o,none⟩)] h (fun v h'=>∃t,v=.bool t/\t=decide (x≠0)/\h'=h):=by obtain⟨A,hA⟩:=Ar.ex;refine af A (ar Wq.aw Wq.aZ) Tryz.func258 rfl (by kernel_rfl) ?_;cbv;rw[aj A];refine HY QS (by kernel_rfl) q ?_;cbv;refine⟨_,rfl,?_,rfl⟩;rw[hA.aD];simp[aD];rfl
theorem b32(h:ad):Ct 322 [.bool true] h (fun v h'=>v=.int .u32 1/\h'=h):=by obtain⟨A,hA⟩:=Ar.ex;refine af A (ar VI.aw VI.aZ) Tryz.func322 rfl (by kernel_rfl) ?_;cbv
theorem vN{h:ad}{b o:Nat}{x:Value}(q:lG h ⟨b,o,none⟩ x):X2 295 [.pointer (some ⟨b,o,none⟩),.bool true] h (fun v h'=>v=.tuple #[]/\Up h b o (.int .u32 1) h'):=by obtain⟨A,hA⟩:=Ar.ex;refine nP A (ar V1.aw V1.aZ) Tryz.func295 rfl (by kernel_rfl) ?_;cbv;refine(b32 h).mono (fun v h1 hR=>?_);obtain⟨rfl,rfl⟩:=hR;cbv;rw[aj A];refine Eh QQ (by kernel_rfl) q (fun c e h1 e1 e2=>?_);have hu:Up _ b o (.int .u32 1) h1:=⟨c,e,e1,e2⟩;cbv;exact⟨rfl,hu⟩
theorem AN{h:ad}{b o:Nat}{a1 a2:Addr}{Q:ad->Prop}(q0:lG h ⟨b,o,none⟩ (.int .u32 0))(q1:lG h ⟨b,o+1,none⟩ (.int .i32 0))
 (Q4:∀h1,Up h b (o+1) (.int .i32 1) h1->Ct 201 [.pointer (some a1),.pointer (some a2)] h1 (fun v h2=>v=.tuple #[]/\lG h2 ⟨b,o,none⟩ (.int .u32 0)/\lG h2 ⟨b,o+1,none⟩ (.int .i32 1)/\Q h2)):
 Ct 259 [.pointer (some ⟨b,o,none⟩),.func (.func 201) #[] #[.pointer (some a1),.pointer (some a2)]] h (fun v h'=>v=.tuple #[]/\∃h2 h3,Q h2/\Up h2 b o (.int .u32 1) h3/\Up h3 b (o+1) (.int .i32 0) h'):=by
 obtain⟨A,hA⟩:=Ar.ex;refine lA A (ar Mz.aw Mz.aZ) Tryz.func259 rfl (by kernel_rfl) ?_;cbv;rw[aj A];refine(Cd q1).mono (fun v h1 hR=>?_);obtain⟨rfl,hu⟩:=hR;have q0':=hu.other (by omega) q0;cbv;rw[aj A];rw[aj A];refine(nK q0').mono (fun v h2 hR=>?_);obtain⟨t,rfl,ht,rfl⟩:=hR;have ht:t=false:=by rw[ht];rfl
 subst ht;cbv;rw[hA.not];cbv;rw[aj A];refine(Q4 _ hu).mono (fun v h2 hR=>?_);obtain⟨rfl,c0,c1,hQ⟩:=hR;cbv;refine(vN c0).mono (fun v h3 hR=>?_);obtain⟨-,Px⟩:=hR;have NV:=Px.other (by omega) c1;cbv;refine(sO NV).mono (fun v h4 hR=>?_);obtain⟨-,hu4⟩:=hR;cbv;exact⟨rfl,h2,h3,hQ,Px,hu4⟩
theorem LV{h:ad}{b o:Nat}{a1 a2:Addr}{Q:ad->Prop}(q0:lG h ⟨b,o,none⟩ (.int .u32 0))(q1:lG h ⟨b,o+1,none⟩ (.int .i32 0))
 (Q4:∀h1,Up h b (o+1) (.int .i32 1) h1->Ct 201 [.pointer (some a1),.pointer (some a2)] h1 (fun v h2=>v=.tuple #[]/\lG h2 ⟨b,o,none⟩ (.int .u32 0)/\lG h2 ⟨b,o+1,none⟩ (.int .i32 1)/\Q h2)):
 Ct 200 [.pointer (some ⟨b,o,none⟩),.func (.func 201) #[] #[.pointer (some a1),.pointer (some a2)]] h (fun v h'=>v=.tuple #[]/\∃h2 h3,Q h2/\Up h2 b o (.int .u32 1) h3/\Up h3 b (o+1) (.int .i32 0) h'):=by
 obtain⟨A,hA⟩:=Ar.ex;refine af A (ar Am.aw Am.aZ) Tryz.func200 rfl (by kernel_rfl) ?_;cbv;rw[aj A];refine(nK q0).mono (fun v h2 hR=>?_);obtain⟨t,rfl,ht,rfl⟩:=hR;have ht:t=false:=by rw[ht];rfl
 subst ht;cbv;rw[hA.not];cbv;refine(AN q0 q1 Q4).mono (fun v h2 hR=>?_);obtain⟨rfl,hR⟩:=hR;cbv;exact⟨rfl,hR⟩
theorem Ii{h:ad}{b o:Nat}{a1 a2:Addr}(q0:lG h ⟨b,o,none⟩ (.int .u32 1)):
 Ct 200 [.pointer (some ⟨b,o,none⟩),.func (.func 201) #[] #[.pointer (some a1),.pointer (some a2)]] h (fun v h'=>v=.tuple #[]/\h'=h):=by
 obtain⟨A,hA⟩:=Ar.ex;refine af A (ar Am.aw Am.aZ) Tryz.func200 rfl (by kernel_rfl) ?_;cbv;rw[aj A];refine(nK q0).mono (fun v h2 hR=>?_);obtain⟨t,rfl,ht,rfl⟩:=hR;have ht:t=true:=by rw[ht];rfl
 subst ht;cbv;rw[hA.not];cbv;exact⟨rfl,True.intro⟩
theorem yF{h:ad}{b o:Nat}{a1:Addr}{Q:ad->Prop}(q0:lG h ⟨b,o,none⟩ (.int .u32 0))(q1:lG h ⟨b,o+1,none⟩ (.int .i32 0))
 (Q4:∀h1,Up h b (o+1) (.int .i32 1) h1->Ct 238 [.pointer (some a1)] h1 (fun v h2=>v=.tuple #[]/\lG h2 ⟨b,o,none⟩ (.int .u32 0)/\lG h2 ⟨b,o+1,none⟩ (.int .i32 1)/\Q h2)):
 Ct 259 [.pointer (some ⟨b,o,none⟩),.func (.func 238) #[.pointer (some a1)] #[]] h (fun v h'=>v=.tuple #[]/\∃h2 h3,Q h2/\Up h2 b o (.int .u32 1) h3/\Up h3 b (o+1) (.int .i32 0) h'):=by
 obtain⟨A,hA⟩:=Ar.ex;refine lA A (ar Mz.aw Mz.aZ) Tryz.func259 rfl (by kernel_rfl) ?_;cbv;rw[aj A];refine(Cd q1).mono (fun v h1 hR=>?_);obtain⟨rfl,hu⟩:=hR;have q0':=hu.other (by omega) q0;cbv;rw[aj A];rw[aj A];refine(nK q0').mono (fun v h2 hR=>?_);obtain⟨t,rfl,ht,rfl⟩:=hR;have ht:t=false:=by rw[ht];rfl
 subst ht;cbv;rw[hA.not];cbv;rw[aj A];refine(Q4 _ hu).mono (fun v h2 hR=>?_);obtain⟨rfl,c0,c1,hQ⟩:=hR;cbv;refine(vN c0).mono (fun v h3 hR=>?_);obtain⟨-,Px⟩:=hR;have NV:=Px.other (by omega) c1;cbv;refine(sO NV).mono (fun v h4 hR=>?_);obtain⟨-,hu4⟩:=hR;cbv;exact⟨rfl,h2,h3,hQ,Px,hu4⟩
theorem Ic{h:ad}{b o:Nat}{a1:Addr}{Q:ad->Prop}(q0:lG h ⟨b,o,none⟩ (.int .u32 0))(q1:lG h ⟨b,o+1,none⟩ (.int .i32 0))
 (Q4:∀h1,Up h b (o+1) (.int .i32 1) h1->Ct 238 [.pointer (some a1)] h1 (fun v h2=>v=.tuple #[]/\lG h2 ⟨b,o,none⟩ (.int .u32 0)/\lG h2 ⟨b,o+1,none⟩ (.int .i32 1)/\Q h2)):
 Ct 200 [.pointer (some ⟨b,o,none⟩),.func (.func 238) #[.pointer (some a1)] #[]] h (fun v h'=>v=.tuple #[]/\∃h2 h3,Q h2/\Up h2 b o (.int .u32 1) h3/\Up h3 b (o+1) (.int .i32 0) h'):=by
 obtain⟨A,hA⟩:=Ar.ex;refine af A (ar Am.aw Am.aZ) Tryz.func200 rfl (by kernel_rfl) ?_;cbv;rw[aj A];refine(nK q0).mono (fun v h2 hR=>?_);obtain⟨t,rfl,ht,rfl⟩:=hR;have ht:t=false:=by rw[ht];rfl
 subst ht;cbv;rw[hA.not];cbv;refine(yF q0 q1 Q4).mono (fun v h2 hR=>?_);obtain⟨rfl,hR⟩:=hR;cbv;exact⟨rfl,hR⟩
theorem El{h:ad}{b o:Nat}{a1:Addr}(q0:lG h ⟨b,o,none⟩ (.int .u32 1)):
 Ct 200 [.pointer (some ⟨b,o,none⟩),.func (.func 238) #[.pointer (some a1)] #[]] h (fun v h'=>v=.tuple #[]/\h'=h):=by
 obtain⟨A,hA⟩:=Ar.ex;refine af A (ar Am.aw Am.aZ) Tryz.func200 rfl (by kernel_rfl) ?_;cbv;rw[aj A];refine(nK q0).mono (fun v h2 hR=>?_);obtain⟨t,rfl,ht,rfl⟩:=hR;have ht:t=true:=by rw[ht];rfl
 subst ht;cbv;rw[hA.not];cbv;exact⟨rfl,True.intro⟩
theorem QK{h:ad}{b3 b2 c:Nat}{x:Int}{t1 t2 e1 e2:Nat}{s1 s2 s3 s4 o1 o2 o3 y:Value}(g3:h b3=some (.cells #[.int .i64 x] t1 (e1,e2)))(g2:h b2=some (.cells #[.pointer (some ⟨c,0,none⟩)] t2 (0,0)))
 (gc:h c=some (.cells #[s1,s2,s3,s4,o1,o2,o3,y] 128 (0,0))):
 Ct 201 [.pointer (some ⟨b3,0,none⟩),.pointer (some ⟨b2,0,none⟩)] h (fun v h'=>v=.tuple #[]/\h'=aV h c (.cells #[s1,s2,s3,s4,o1,o2,o3,.int .i64 x] 128 (0,0))):=by
 obtain⟨A,hA⟩:=Ar.ex;refine af A (ar WX.aw WX.aZ) Tryz.func201 rfl (by kernel_rfl) ?_;cbv;refine ay g2 rfl rfl ?_;cbv;refine ay g3 rfl rfl ?_;cbv;rw[aj A];refine kP gc (by simp) (fun h' hh=>?_);cbv;exact⟨rfl,hh⟩
theorem Up.exp{h h':ad}{b o e:Nat}{x:Value}{c:List Value}(u:Up h b o x h')(g:h b=some (.cells (List.toArray c) e (0,0))):h'=aV h b (.cells (List.toArray (c.set o x)) e (0,0)):=by obtain⟨c',e',g',rfl⟩:=u.out;rw[g]at g';cases g';simp
theorem ik{h:ad}{b o e:Nat}{c:List Value}{x:Value}(g:h b=some (.cells (List.toArray c) e (0,0)))(hx:c[o]? =some x):lG h ⟨b,o,none⟩ x:=⟨rfl,_,e,g,by simpa using hx⟩
theorem xV{h:ad}{c tb wb ct cw:Nat}{T:List cA}{W:List (dr×Bool)}{H Wt:List bK}{e x:Int}(q:iG h c tb wb ct cw T W H Wt e)(ht:c≠tb)(hw:c≠wb):
 Ct 104 [.pointer (some ⟨c,0,none⟩),.int .i64 x] h (fun v h'=>v=.tuple #[]/\Kp [c] h h'/\iG h' c tb wb ct cw T W H Wt (if e=0 then x else e)):=by
 obtain⟨A,hA⟩:=Ar.ex;obtain⟨n1,n2,b3,n3,c3,b4,n4,c4,o,gc,ho,q1,q2,q3,q4,q5,q6⟩:=q.out;refine af A (ar XT.aw XT.aZ) Tryz.func104 rfl (by kernel_rfl) ?_;cbv;intro p2 h1 Bg e1;cbv;intro p3 h2 PG e2;have l1:Le h h1:=by rw[e1];exact Le.set Bg
 have l2:Le h1 h2:=by rw[e2];exact Le.set PG
 have g3:h2 p3=some (.cells #[.int .i64 x] 35 (0,0)):=by rw[e2];exact ah
 have g2:h2 p2=some (.cells #[.pointer (some ⟨c,0,none⟩)] 109 (0,0)):=l2 _ _ (by rw[e1];exact ah);have q':=q.mono (l1.trans l2);have Qt:=(l1.trans l2) _ _ gc;have n2c:p2≠c:=fun e=>by rw[e,gc]at Bg;cases Bg
 have n3c:p3≠c:=fun e=>by rw[e,l1 _ _ gc]at PG;cases PG
 cbv;refine ay g3 rfl rfl ?_;cbv;refine aL (fun hc=>?_) (fun hc=>?_)
 ·have hx:x≠0:=by intro e;rw[hA.aD,e]at hc;cases hc
  clear hc;cbv;refine ay g2 rfl rfl ?_;cbv;rw[aj A];rcases ho with ⟨rfl,rfl⟩ | ⟨rfl,he⟩
  ·refine(LV (a1:=⟨p3,0,none⟩) (a2:=⟨p2,0,none⟩) (Q:=fun hq=>hq=aV h2 c (.cells (List.toArray [.slice (some ⟨tb,0,none⟩) n1 ct,.slice (some ⟨wb,0,none⟩) n2 cw,.slice b3 n3 c3,.slice b4 n4 c4,.int .u32 0,.int .i32 1,.int .u32 0,.int .i64 x]) 128 (0,0)))
    (ik Qt rfl) (ik Qt rfl) (fun h3 hu=>?_)).mono (fun v h4 hR=>?_)
   ·have e3:=hu.exp Qt;have Jw:h3 p3=some (.cells #[.int .i64 x] 35 (0,0)):=by rw[e3,aU n3c];exact g3
    have E0:h3 p2=some (.cells #[.pointer (some ⟨c,0,none⟩)] 109 (0,0)):=by rw[e3,aU n2c];exact g2
    have gc3:h3 c=some (.cells (List.toArray [.slice (some ⟨tb,0,none⟩) n1 ct,.slice (some ⟨wb,0,none⟩) n2 cw,.slice b3 n3 c3,.slice b4 n4 c4,.int .u32 0,.int .i32 1,.int .u32 0,.int .i64 0]) 128 (0,0)):=by rw[e3];exact ah
    refine(QK Jw E0 gc3).mono (fun v h4 hR=>?_);obtain⟨rfl,rfl⟩:=hR;exact⟨rfl,ik ah rfl,ik ah rfl,by rw[e3,iM]⟩
   ·obtain⟨rfl,h5,h6,rfl,u5,u6⟩:=hR;have e6:=u5.exp ah;rw[iM]at e6;have g6:=(congrFun e6 c).trans ah;have e4:=u6.exp g6;rw[e6,iM]at e4;cbv;have kp:Kp [c] h2 h4:=by rw[e4];exact Kp.set (by simp)
    have lt:∀tys,128∉tys->cG tys h2 h4:=fun tys hn=>by rw[e4];exact cG.set Qt hn
    refine⟨rfl,((l1.trans l2).kp _).trans kp,n1,n2,b3,n3,c3,b4,n4,c4,1,?_,.inr ⟨rfl,?_⟩,q1,?_,q3,?_,?_,?_⟩
    ·rw[e4];exact ah
    ·exact hx
    ·exact q2.mono (((l1.trans l2).t _).trans (lt _ (by decide)))
    ·exact q4.mono (((l1.trans l2).t _).trans (lt _ (by decide)))
    ·exact q5.mono (((l1.trans l2).t _).trans (lt _ (by decide)))
    ·exact q6.mono (((l1.trans l2).t _).trans (lt _ (by decide)))
  ·refine(Ii (a1:=⟨p3,0,none⟩) (a2:=⟨p2,0,none⟩) (ik Qt rfl)).mono (fun v h4 hR=>?_);obtain⟨rfl,rfl⟩:=hR;cbv;refine⟨rfl,(l1.trans l2).kp _,?_⟩;rw[if_neg he];exact q'
 ·have hx:x=0:=by rw[hA.aD]at hc;simpa[aD]using hc
  cbv;refine⟨rfl,(l1.trans l2).kp _,?_⟩;subst hx;have:(if e=0 then 0 else e)=e:=by split<;>simp_all
  rw[this];exact q'
def cK:Sh ByteArray where
 n:=1
 R _ cs v:=cs=[.string v]
 len:=by rintro h cs x rfl;rfl
 one:=by rintro h cs x rfl;rfl
 tys:=[]
 mono:=fun _ q=>q
def eC:List ByteArray:=[⟨#[97,110,100]⟩,⟨#[98,101,103,105,110]⟩,⟨#[98,111,111,108]⟩,⟨#[98,121]⟩,⟨#[99,111,109,109,105,116]⟩,⟨#[99,111,117,110,116]⟩,⟨#[99,114,101,97,116,101]⟩,⟨#[100,101,108,101,116,101]⟩,⟨#[100,101,115,99]⟩,⟨#[100,114,111,112]⟩,⟨#[102,97,108,115,101]⟩,⟨#[102,114,111,109]⟩,⟨#[103,114,111,117,112]⟩,⟨#[105,110,115,101,114,116]⟩,⟨#[105,110,116]⟩,⟨#[105,110,116,111]⟩,⟨#[105,115]⟩,⟨#[106,111,105,110]⟩,⟨#[107,101,121]⟩,⟨#[108,105,109,105,116]⟩,⟨#[109,97,120]⟩,⟨#[109,105,110]⟩,⟨#[110,111,116]⟩,⟨#[110,117,108,108]⟩,⟨#[111,110]⟩,⟨#[111,110,108,121]⟩,⟨#[111,114]⟩,⟨#[111,114,100,101,114]⟩,⟨#[112,114,105,109,97,114,121]⟩,⟨#[114,111,108,108,98,97,99,107]⟩,⟨#[115,97,118,101,112,111,105,110,116]⟩,⟨#[115,101,108,101,99,116]⟩,⟨#[115,101,116]⟩,⟨#[115,117,109]⟩,⟨#[116,97,98,108,101]⟩,⟨#[116,101,120,116]⟩,⟨#[116,111]⟩,⟨#[116,114,117,101]⟩,⟨#[117,112,100,97,116,101]⟩,⟨#[118,97,108,117,101,115]⟩,⟨#[119,104,101,114,101]⟩]
theorem zb:eC.Nodup:=by decide
theorem Kw(h:ad):Ct 274 [] h (fun v h'=>Le h h'/\∃nb,v=.slice (some ⟨nb,0,none⟩) 41 41/\Sl 9 cK h' v eC):=by
 obtain⟨A,hA⟩:=Ar.ex;refine af A (ar Wm.aw Wm.aZ) Tryz.func274 rfl (by kernel_rfl) ?_;cbv;intro n h1 hn e1;have g:h1 n=some (.cells (List.toArray (eC.map Value.string)) 9 (0,0)):=by rw[e1];exact ah
 have hr:Sx.Rows cK h1 (eC.map Value.string) 0 eC:=by refine⟨by decide,fun i x hx=>?_⟩;have aG:=(List.getElem?_eq_some_iff.1 hx).1;show List.take 1 (List.drop (0+i*1) _)=_;rw[Nat.zero_add,Nat.mul_one,List.drop_eq_getElem_cons (by simpa using aG)];rw[List.getElem?_eq_some_iff]at hx;simp[hx.2]
 have hs:Sl 9 cK h1 (.slice (some ⟨n,0,none⟩) 41 41) eC:=Sl.fresh (xs:=eC) g hr (by decide) (by decide);have hl:Le h h1:=by rw[e1];exact Le.set hn
 clear g hr e1;cbv;exact⟨hl,n,rfl,hs⟩
theorem N5:Tryz.prog.underlying 248=some (.map 9 4):=by kernel_rfl
theorem u9:Tryz.prog.underlying 9=some .string:=by kernel_rfl
def qJ(l:List ByteArray):List (Value×Value):=l.map fun w=>(.string w,.bool true)
theorem Kp.new{bs:List Nat}{h h1 h2:ad}{m:Nat}(x:Kp bs h h1)(hm:h m=none)(y:Kp (m::bs) h1 h2):Kp bs h h2:=fun b o q hb=>
 y b o (x b o q hb) (by
  intro hc;rcases List.mem_cons.1 hc with e|e
  ·rw[e,hm]at q;cases q
  ·exact hb e)
theorem J7{h:ad}{sp:Nat}{o1 o2 o3 mv:Value}(R4:h sp=some (.cells #[o1,o2,o3,mv] 250 (0,0))):
 Ct 238 [.pointer (some ⟨sp,0,none⟩)] h (fun v h'=>v=.tuple #[]/\Kp [sp] h h'/\∃m,h m=none/\h' sp=some (.cells #[o1,o2,o3,.map (some m)] 250 (0,0))/\Mp h' m .string (qJ eC)):=by
 obtain⟨A,hA⟩:=Ar.ex;refine af A (ar WE.aw WE.aZ) Tryz.func238 rfl (by kernel_rfl) ?_;cbv;intro m h1 hm e1;have l1:Le h h1:=by rw[e1];exact Le.set hm
 have bU:m≠sp:=fun e=>by rw[e,R4]at hm;cases hm
 have mp1:Mp h1 m .string []:=Mp.new (by rw[e1];exact ah);cbv;rw[aj A];refine kP (l1 _ _ R4) (by simp) (fun h2 e2=>?_);have k2:Kp [sp] h1 h2:=by rw[e2];exact Kp.set (by simp)
 have g2:h2 sp=some (.cells #[o1,o2,o3,.map (some m)] 250 (0,0)):=by rw[e2];exact ah
 have A2:=mp1.kp k2 (by simpa using bU);cbv;refine(Kw h2).mono (fun v h3 hR=>?_);obtain⟨l3,nb,rfl,hs⟩:=hR;have OW:=A2.kp (l3.kp []) (by simp);have k3:Kp [sp] h h3:=((l1.kp _).trans k2).trans (l3.kp _);have g3:=l3 _ _ g2;have hlen:eC.length=41:=rfl;cbv;refine aX.go (G:=Int) (fun z=>[(10,.v (.int .i64 z))]) (fun _=>[]) (fun n z h'=>∃i:Nat,aO z i/\n=41-i/\i<=41/\Kp [sp] h h'/\h' sp=some (.cells #[o1,o2,o3,.map (some m)] 250 (0,0))/\Mp h' m .string (qJ (eC.take i))/\Sl 9 cK h' (.slice (some ⟨nb,0,none⟩) 41 41) eC) 41 0 ⟨?_,?_,?_⟩ ⟨0,⟨rfl⟩,rfl,by decide,k3,g3,OW,hs⟩ ?_
 ·cbv
 ·cbv
 ·cbv
 ·intro n z h' hI;cbv;obtain⟨i,hz,hn,hi,k',g',mp',Ht⟩:=hI;refine aL (fun hc=>?_) (fun hc=>?_)
  ·have aG:=hz.lt (A:=A) (len:=41) hc;clear hc;cbv;obtain⟨x,hx⟩:=aE (xs:=eC) (i:=i) (by rw[hlen];exact aG);refine⟨⟨rfl,hz.ix aG⟩,?_⟩;cbv;refine Ht.load hx hz.eq (fun cs aF=>?_);have aF:cs=[.string x]:=aF;subst aF;cbv;rw[aj A];refine ay g' rfl rfl ?_;cbv;refine lL N5 u9 mp' (key:=.string x) True.intro ?_ (fun h4 DH k4 t4=>?_)
   ·intro p hp e;obtain⟨w,hw,rfl⟩:=List.mem_map.1 hp;cases e;obtain⟨j,hj⟩:=List.getElem?_of_mem hw;rw[List.getElem?_take]at hj;split at hj
    ·rename_i ji;have h5:=List.getElem?_eq_some_iff.1 hj;have h6:=List.getElem?_eq_some_iff.1 hx;have:=List.pairwise_iff_getElem.1 zb j i h5.1 h6.1 ji;rw[h5.2,h6.2]at this;exact this rfl
    ·cases hj
   cbv;refine⟨41-(i+1),_,by omega,⟨?_,?_,?_⟩,i+1,hz.succ (A:=A) (by omega),rfl,by omega,Kp.new k' hm (k4.sub (by simp)),k4 _ _ g' (by simpa using fun e=>bU (Eq.symm e)),?_,Ht.mono (t4 _)⟩
   ·cbv
   ·cbv
   ·cbv
   ·rw[List.take_add_one,hx];simpa[qJ]using DH
  ·have iu:=hz.ge (A:=A) (len:=41) hc;cbv;have:i=41:=by omega
   subst this;exact⟨rfl,k',m,hm,g',mp'⟩
end Go.S
