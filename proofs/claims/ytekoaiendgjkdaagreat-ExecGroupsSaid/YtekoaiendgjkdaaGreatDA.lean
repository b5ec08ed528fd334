import Derived.Test.YtekoaiendgjkdaaGreatTab
import Derived.Test.YtekoaiendgjkdaaGreatRd
set_option linter.unusedVariables false
set_option linter.unusedSimpArgs false
set_option linter.unusedSectionVars false
set_option maxRecDepth 100000
namespace Go.S
open Go.Sx Go.Proofs
abbrev Ct(f:FuncId)(args:List Value)(h:ad)(R:Value->ad->Prop):Prop:=aQI (fun _=>Tryz.prog) f args h R
abbrev gZt(f:FuncId)(args:List Value)(h:ad)(R:Value->ad->Prop):Prop:=aQa (fun _=>Tryz.prog) f args h R
structure cO where
 k:Int
 n:Int
 s:ByteArray
def bq:Sh cO where
 n:=3
 R _ cs v:=cs=[.int .i64 v.k,.int .i64 v.n,.string v.s]
 len:=by rintro h cs x rfl;rfl
 one:=by rintro h cs x rfl;rfl
 tys:=[]
 mono:=fun _ q=>q
structure cK where
 name:ByteArray
 kind:Int
 null:Bool
def bI:Sh cK where
 n:=3
 R _ cs v:=cs=[.string v.name,.int .i64 v.kind,.bool v.null]
 len:=by rintro h cs x rfl;rfl
 one:=by rintro h cs x rfl;rfl
 tys:=[]
 mono:=fun _ q=>q
structure oy where
 name:ByteArray
 at_:Int
def dN:Sh oy where
 n:=2
 R _ cs v:=cs=[.string v.name,.int .i64 v.at_]
 len:=by rintro h cs x rfl;rfl
 one:=by rintro h cs x rfl;rfl
 tys:=[]
 mono:=fun _ q=>q
structure cg where
 s:Int
 table:ByteArray
 x:Bool
def bG:Sh cg where
 n:=3
 R _ cs v:=cs=[.int .i64 v.s,.string v.table,.bool v.x]
 len:=by rintro h cs x rfl;rfl
 one:=by rintro h cs x rfl;rfl
 tys:=[]
 mono:=fun _ q=>q
abbrev Row:=List cO
abbrev aD:Sh Row:=mW 61 bq
structure FR where
 name:ByteArray
 cols:List cK
 key:Int
 only:Bool
structure cW where
 S:FR
 rows:List Row
def ef:Sh cW where
 n:=5
 R h cs t:=∃b1 n1 c1 b2 n2 c2,cs=[.string t.S.name,.slice b1 n1 c1,.int .i64 t.S.key,.bool t.S.only,.slice b2 n2 c2]/\Sl 165 bI h (.slice b1 n1 c1) t.S.cols/\Sl 59 aD h (.slice b2 n2 c2) t.rows
 len:=by rintro h cs x ⟨_,_,_,_,_,_,rfl,-⟩;rfl
 one:=by rintro h cs x ⟨_,_,_,_,_,_,rfl,-⟩;rfl
 tys:=[165,59,61]
 mono:=by rintro h h' cs x hl ⟨b1,n1,c1,b2,n2,c2,rfl,q1,q2⟩;exact⟨b1,n1,c1,b2,n2,c2,rfl,q1.mono (hl.sub (by decide)),q2.mono (hl.sub (by decide))⟩
structure dV where
 table:ByteArray
 op:Int
 row:Row
def dI:Sh dV where
 n:=3
 R h cs t:=∃b n c,cs=[.string t.table,.int .i64 t.op,.slice b n c]/\Sl 61 bq h (.slice b n c) t.row
 len:=by rintro h cs x ⟨_,_,_,rfl,-⟩;rfl
 one:=by rintro h cs x ⟨_,_,_,rfl,-⟩;rfl
 tys:=[61]
 mono:=by rintro h h' cs x hl ⟨b,n,c,rfl,q⟩;exact⟨b,n,c,rfl,q.mono (hl.sub (by decide))⟩
structure fJ where
 s:Int
 log:List dV
 marks:List oy
def cX:Sh (fJ×Bool)where
 n:=3
 R h cs t:=∃b1 n1 c1 b2 n2 c2,cs=[.int .i64 t.1.s,.slice b1 n1 c1,.slice b2 n2 c2]/\Sl 148 dI h (.slice b1 n1 c1) t.1.log/\Sl 161 dN h (.slice b2 n2 c2) t.1.marks/\(t.2=true->c1=n1)
 len:=by rintro h cs x ⟨_,_,_,_,_,_,rfl,-⟩;rfl
 one:=by rintro h cs x ⟨_,_,_,_,_,_,rfl,-⟩;rfl
 tys:=[148,61,161]
 mono:=by rintro h h' cs x hl ⟨b1,n1,c1,b2,n2,c2,rfl,q1,q2,q3⟩;exact⟨b1,n1,c1,b2,n2,c2,rfl,q1.mono (hl.sub (by decide)),q2.mono (hl.sub (by decide)),q3⟩
structure DB where
 az:List cW
 aq:List fJ
 holds:List cg
 waits:List cg
structure ik(h:ad)(v:Value)(d:DB):Prop where
 out:∃b1 n1 c1 b2 n2 c2 b3 n3 c3 b4 n4 c4 ws,v=.agg #[.slice b1 n1 c1,.slice b2 n2 c2,.slice b3 n3 c3,.slice b4 n4 c4]/\
  Sl 51 ef h (.slice b1 n1 c1) d.az/\Sl 55 cX h (.slice b2 n2 c2) ws/\Sl 205 bG h (.slice b3 n3 c3) d.holds/\Sl 205 bG h (.slice b4 n4 c4) d.waits/\ws.map (·.1)=d.aq
theorem Dj{xs:List cg}{h:ad}{b:Option Addr}{len cap:Nat}(q:Sl 205 bG h (.slice b len cap) xs):
 Ct 116 [.slice b len cap] h (fun v h'=>Le h h'/\∃b' ju,v=.slice b' len ju/\Sl 205 bG h' v xs/\∀oB o s,b'=some ⟨oB,o,s⟩->h oB=none):=by
 obtain⟨A,hA⟩:=Ar.ex;refine ah A (ax cZZ.aK cZZ.bF) Tryz.func116 rfl (by kernel_rfl) ?_;cbv;refine bh (fun hc=>?_) (fun hc=>?_)
 ·rw[hA.HO]at hc;cbv;have hb:b=none:=by cases b<;>simp at hc |-
  subst hb;have hl:len=0:=by
   rcases mXw len with e|e
   ·exact e
   ·have:=q.aT e;cases this
  have:=q.len;have hx:xs=[]:=mQT (by omega);subst hx hl;exact⟨Le.refl _,none,0,rfl,Sl.nil,fun _ _ _ e=>(by cases e)⟩
 ·cbv;intro n0 h1 nf iW;have hle:Le h h1:=by rw[iW];exact Le.set nf
  cbv;refine dz (q.mono (hle.t _)) (by simp[bG]) rfl (by decide) (fun hn=>?_) (fun nb c h2 e1 e2 e3 e4=>?_)
  ·cbv;have:=q.len;have hx:xs=[]:=mQT (by omega);subst hx hn;exact⟨hle,_,_,rfl,Sl.nil,fun _ _ _ e=>(by cases e;exact nf)⟩
  ·cbv;exact⟨hle.trans e3,_,_,rfl,e4.sl q.len,fun _ _ _ e=>(by cases e;exact hle.none e1)⟩
theorem QT{xs:List cK}{h:ad}{b:Option Addr}{len cap:Nat}(q:Sl 165 bI h (.slice b len cap) xs):
 Ct 169 [.slice b len cap] h (fun v h'=>Le h h'/\∃b' ju,v=.slice b' len ju/\Sl 165 bI h' v xs/\∀oB o s,b'=some ⟨oB,o,s⟩->h oB=none):=by
 obtain⟨A,hA⟩:=Ar.ex;refine ah A (ax cZY.aK cZY.bF) Tryz.func169 rfl (by kernel_rfl) ?_;cbv;refine bh (fun hc=>?_) (fun hc=>?_)
 ·rw[hA.HO]at hc;cbv;have hb:b=none:=by cases b<;>simp at hc |-
  subst hb;have hl:len=0:=by
   rcases mXw len with e|e
   ·exact e
   ·have:=q.aT e;cases this
  have:=q.len;have hx:xs=[]:=mQT (by omega);subst hx hl;exact⟨Le.refl _,none,0,rfl,Sl.nil,fun _ _ _ e=>(by cases e)⟩
 ·cbv;intro n0 h1 nf iW;have hle:Le h h1:=by rw[iW];exact Le.set nf
  cbv;refine dz (q.mono (hle.t _)) (by simp[bI]) rfl (by decide) (fun hn=>?_) (fun nb c h2 e1 e2 e3 e4=>?_)
  ·cbv;have:=q.len;have hx:xs=[]:=mQT (by omega);subst hx hn;exact⟨hle,_,_,rfl,Sl.nil,fun _ _ _ e=>(by cases e;exact nf)⟩
  ·cbv;exact⟨hle.trans e3,_,_,rfl,e4.sl q.len,fun _ _ _ e=>(by cases e;exact hle.none e1)⟩
theorem II{xs:List cO}{h:ad}{b:Option Addr}{len cap:Nat}(q:Sl 61 bq h (.slice b len cap) xs):
 Ct 90 [.slice b len cap] h (fun v h'=>Le h h'/\∃b' ju,v=.slice b' len ju/\Sl 61 bq h' v xs/\∀oB o s,b'=some ⟨oB,o,s⟩->h oB=none):=by
 obtain⟨A,hA⟩:=Ar.ex;refine ah A (ax gKZ.aK gKZ.bF) Tryz.func90 rfl (by kernel_rfl) ?_;cbv;refine bh (fun hc=>?_) (fun hc=>?_)
 ·rw[hA.HO]at hc;cbv;have hb:b=none:=by cases b<;>simp at hc |-
  subst hb;have hl:len=0:=by
   rcases mXw len with e|e
   ·exact e
   ·have:=q.aT e;cases this
  have:=q.len;have hx:xs=[]:=mQT (by omega);subst hx hl;exact⟨Le.refl _,none,0,rfl,Sl.nil,fun _ _ _ e=>(by cases e)⟩
 ·cbv;intro n0 h1 nf iW;have hle:Le h h1:=by rw[iW];exact Le.set nf
  cbv;refine dz (q.mono (hle.t _)) (by simp[bq]) rfl (by decide) (fun hn=>?_) (fun nb c h2 e1 e2 e3 e4=>?_)
  ·cbv;have:=q.len;have hx:xs=[]:=mQT (by omega);subst hx hn;exact⟨hle,_,_,rfl,Sl.nil,fun _ _ _ e=>(by cases e;exact nf)⟩
  ·cbv;exact⟨hle.trans e3,_,_,rfl,e4.sl q.len,fun _ _ _ e=>(by cases e;exact hle.none e1)⟩
theorem bXg{xs:List oy}{h:ad}{b:Option Addr}{len cap:Nat}(q:Sl 161 dN h (.slice b len cap) xs):
 Ct 208 [.slice b len cap] h (fun v h'=>Le h h'/\∃b' ju,v=.slice b' len ju/\Sl 161 dN h' v xs/\∀oB o s,b'=some ⟨oB,o,s⟩->h oB=none):=by
 obtain⟨A,hA⟩:=Ar.ex;refine ah A (ax ZY.aK ZY.bF) Tryz.func208 rfl (by kernel_rfl) ?_;cbv;refine bh (fun hc=>?_) (fun hc=>?_)
 ·rw[hA.HO]at hc;cbv;have hb:b=none:=by cases b<;>simp at hc |-
  subst hb;have hl:len=0:=by
   rcases mXw len with e|e
   ·exact e
   ·have:=q.aT e;cases this
  have:=q.len;have hx:xs=[]:=mQT (by omega);subst hx hl;exact⟨Le.refl _,none,0,rfl,Sl.nil,fun _ _ _ e=>(by cases e)⟩
 ·cbv;intro n0 h1 nf iW;have hle:Le h h1:=by rw[iW];exact Le.set nf
  cbv;refine dz (q.mono (hle.t _)) (by simp[dN]) rfl (by decide) (fun hn=>?_) (fun nb c h2 e1 e2 e3 e4=>?_)
  ·cbv;have:=q.len;have hx:xs=[]:=mQT (by omega);subst hx hn;exact⟨hle,_,_,rfl,Sl.nil,fun _ _ _ e=>(by cases e;exact nf)⟩
  ·cbv;exact⟨hle.trans e3,_,_,rfl,e4.sl q.len,fun _ _ _ e=>(by cases e;exact hle.none e1)⟩
theorem aZF{r:Row}{h:ad}{b:Option Addr}{len cap:Nat}(q:Sl 61 bq h (.slice b len cap) r):
 Ct 128 [.slice b len cap] h (fun v h'=>Le h h'/\∃b' ju,v=.slice b' len ju/\Sl 61 bq h' v r):=by
 obtain⟨A,hA⟩:=Ar.ex;refine ah A (ax gXS.aK gXS.bF) Tryz.func128 rfl (by kernel_rfl) ?_;cbv;refine(II q).mono (fun v h'=>?_);rintro⟨hle,b',ju,rfl,q',-⟩;cbv;exact⟨hle,_,_,rfl,q'⟩
theorem cXM{xs:List Row}{h:ad}{b:Option Addr}{len cap:Nat}(q:Sl 59 aD h (.slice b len cap) xs):
 Ct 207 [.slice b len cap,.func (.func 128) #[] #[]] h (fun v h'=>Le h h'/\∃nb,h nb=none/\v=.slice (some ⟨nb,0,none⟩) len len/\fX 59 aD h' nb len xs):=by
 obtain⟨A,hA⟩:=Ar.ex;have hlen:=q.len;obtain⟨lY,jq⟩:=q.bound;refine ah A (ax gQR.aK gQR.bF) Tryz.func207 rfl (by kernel_rfl) ?_;cbv;refine nJ (s:=aD) rfl (by omega) (by decide) (fun nb h1 gY hle ho=>?_);cbv;refine aX.go (G:=Int) (fun z=>[(13,.v (.int .i64 z))]) (fun _=>[]) (fun n z h'=>∃i:Nat,aS z i/\n=len-i/\i<=len/\Le h h'/\fX 59 aD h' nb len (xs.take i)) len 0 ⟨?_,?_,?_⟩ ⟨0,⟨rfl⟩,by omega,by omega,hle,ho⟩ ?_
 ·cbv
 ·cbv
 ·cbv
 ·intro n z h' hI;cbv;obtain⟨i,hz,hn,hi,qV,wR⟩:=hI;refine bh (fun hc=>?_) (fun hc=>?_)
  ·have aP:=hz.lt hc;clear hc;cbv;obtain⟨x,hx⟩:=aE (xs:=xs) (i:=i) (by omega);refine⟨⟨q.aT (by omega),hz.ix aP⟩,?_⟩;cbv;refine(q.mono (qV.t _)).load hx hz.eq (fun cs ay=>?_);obtain⟨v,rfl,hv⟩:=ay;obtain⟨b1,l1,c1,rfl⟩:=hv.form;cbv;refine(aZF hv).mono (fun v2 h2 hR=>?_);obtain⟨eE,b2,Nr,rfl,NC⟩:=hR;cbv;refine⟨⟨rfl,hz.ix aP⟩,?_⟩;cbv;refine(wR.mono (eE.t _)).store (by decide) (i:=i) (by simp;omega) (by omega) (by omega) hz.eq rfl (x:=x) ⟨_,rfl,NC⟩ (fun h3 hk ht NI=>?_);cbv;refine⟨len-(i+1),_,by omega,⟨?_,?_,?_⟩,i+1,hz.succ (A:=A) (by omega),rfl,by omega,?_,?_⟩
   ·cbv
   ·cbv
   ·cbv
   ·exact(qV.trans eE).dJ (by simpa using gY) hk
   ·rw[if_neg (by simp;omega)]at NI;rw[mXc,hx];exact NI
  ·have lN:=hz.ge hc;cbv;have:i=len:=by omega
   subst this;refine⟨qV,nb,gY,rfl,?_⟩;rw[hlen,mXy]at wR;rw[hlen];exact wR
theorem cJz{t:cW}{h:ad}{c0 c1 c2 c3 c4:Value}(q:ef.R h [c0,c1,c2,c3,c4] t):
 Ct 107 [.agg #[c0,c1,c2,c3,c4]] h (fun v h'=>Le h h'/\∃d0 d1 d2 d3 d4,v=.agg #[d0,d1,d2,d3,d4]/\ef.R h' [d0,d1,d2,d3,d4] t):=by
 obtain⟨A,hA⟩:=Ar.ex;obtain⟨b1,n1,k1,b2,n2,k2,he,q1,q2⟩:=q;cases he;refine ah A (ax gZh.aK gZh.bF) Tryz.func107 rfl (by kernel_rfl) ?_;cbv;refine(QT q1).mono (fun v h1 hR=>?_);obtain⟨hle,b',ju,rfl,dZf,-⟩:=hR;cbv;refine(cXM (q2.mono (hle.t _))).mono (fun v h2 hR=>?_);obtain⟨eE,nb,gY,rfl,ho⟩:=hR;cbv;exact⟨hle.trans eE,_,_,_,_,_,rfl,_,_,_,_,_,_,rfl,dZf.mono (eE.t _),ho.sl q2.len⟩
theorem WI{xs:List cW}{h:ad}{b:Option Addr}{len cap:Nat}(q:Sl 51 ef h (.slice b len cap) xs):
 Ct 113 [.slice b len cap,.func (.func 107) #[] #[]] h (fun v h'=>Le h h'/\∃nb,h nb=none/\v=.slice (some ⟨nb,0,none⟩) len len/\fX 51 ef h' nb len xs):=by
 obtain⟨A,hA⟩:=Ar.ex;have hlen:=q.len;obtain⟨lY,jq⟩:=q.bound;refine ah A (ax gZb.aK gZb.bF) Tryz.func113 rfl (by kernel_rfl) ?_;cbv;refine nJ (s:=ef) rfl (by omega) (by decide) (fun nb h1 gY hle ho=>?_);cbv;refine aX.go (G:=Int) (fun z=>[(13,.v (.int .i64 z))]) (fun _=>[]) (fun n z h'=>∃i:Nat,aS z i/\n=len-i/\i<=len/\Le h h'/\fX 51 ef h' nb len (xs.take i)) len 0 ⟨?_,?_,?_⟩ ⟨0,⟨rfl⟩,by omega,by omega,hle,ho⟩ ?_
 ·cbv
 ·cbv
 ·cbv
 ·intro n z h' hI;cbv;obtain⟨i,hz,hn,hi,qV,wR⟩:=hI;refine bh (fun hc=>?_) (fun hc=>?_)
  ·have aP:=hz.lt hc;clear hc;cbv;obtain⟨x,hx⟩:=aE (xs:=xs) (i:=i) (by omega);refine⟨⟨q.aT (by omega),hz.ix aP⟩,?_⟩;cbv;refine(q.mono (qV.t _)).load hx hz.eq (fun cs ay=>?_);obtain⟨b1,n1,k1,b2,n2,k2,rfl,q1,q2⟩:=ay;have hv:ef.R h' _ x:=⟨b1,n1,k1,b2,n2,k2,rfl,q1,q2⟩;cbv;refine(cJz hv).mono (fun v2 h2 hR=>?_);obtain⟨eE,d0,d1,d2,d3,d4,rfl,NC⟩:=hR;obtain⟨b1,n1,k1,b2,n2,k2,he,q1,q2⟩:=NC;cases he;cbv;refine⟨⟨rfl,hz.ix aP⟩,?_⟩;cbv;refine(wR.mono (eE.t _)).store (by decide) (i:=i) (by simp;omega) (by omega) (by omega) hz.eq rfl (x:=x) ⟨b1,n1,k1,b2,n2,k2,rfl,q1,q2⟩ (fun h3 hk ht NI=>?_);cbv;refine⟨len-(i+1),_,by omega,⟨?_,?_,?_⟩,i+1,hz.succ (A:=A) (by omega),rfl,by omega,?_,?_⟩
   ·cbv
   ·cbv
   ·cbv
   ·exact(qV.trans eE).dJ (by simpa using gY) hk
   ·rw[if_neg (by simp;omega)]at NI;rw[mXc,hx];exact NI
  ·have lN:=hz.ge hc;cbv;have:i=len:=by omega
   subst this;refine⟨qV,nb,gY,rfl,?_⟩;rw[hlen,mXy]at wR;rw[hlen];exact wR
theorem eKC{t:dV}{h:ad}{c0 c1 c2:Value}(q:dI.R h [c0,c1,c2] t):
 Ct 60 [.agg #[c0,c1,c2]] h (fun v h'=>Le h h'/\∃d0 d1 d2,v=.agg #[d0,d1,d2]/\dI.R h' [d0,d1,d2] t):=by
 obtain⟨A,hA⟩:=Ar.ex;obtain⟨b1,n1,k1,he,q1⟩:=q;cases he;refine ah A (ax jKs.aK jKs.bF) Tryz.func60 rfl (by kernel_rfl) ?_;cbv;refine(aZF q1).mono (fun v h1 hR=>?_);obtain⟨hle,b',ju,rfl,dZf⟩:=hR;cbv;exact⟨hle,_,_,_,rfl,_,_,_,rfl,dZf⟩
theorem Uy{xs:List dV}{h:ad}{b:Option Addr}{len cap:Nat}(q:Sl 148 dI h (.slice b len cap) xs):
 Ct 59 [.slice b len cap,.func (.func 60) #[] #[]] h (fun v h'=>Le h h'/\∃nb,h nb=none/\v=.slice (some ⟨nb,0,none⟩) len len/\fX 148 dI h' nb len xs):=by
 obtain⟨A,hA⟩:=Ar.ex;have hlen:=q.len;obtain⟨lY,jq⟩:=q.bound;refine ah A (ax jKt.aK jKt.bF) Tryz.func59 rfl (by kernel_rfl) ?_;cbv;refine nJ (s:=dI) rfl (by omega) (by decide) (fun nb h1 gY hle ho=>?_);cbv;refine aX.go (G:=Int) (fun z=>[(13,.v (.int .i64 z))]) (fun _=>[]) (fun n z h'=>∃i:Nat,aS z i/\n=len-i/\i<=len/\Le h h'/\fX 148 dI h' nb len (xs.take i)) len 0 ⟨?_,?_,?_⟩ ⟨0,⟨rfl⟩,by omega,by omega,hle,ho⟩ ?_
 ·cbv
 ·cbv
 ·cbv
 ·intro n z h' hI;cbv;obtain⟨i,hz,hn,hi,qV,wR⟩:=hI;refine bh (fun hc=>?_) (fun hc=>?_)
  ·have aP:=hz.lt hc;clear hc;cbv;obtain⟨x,hx⟩:=aE (xs:=xs) (i:=i) (by omega);refine⟨⟨q.aT (by omega),hz.ix aP⟩,?_⟩;cbv;refine(q.mono (qV.t _)).load hx hz.eq (fun cs ay=>?_);obtain⟨b1,n1,k1,rfl,q1⟩:=ay;have hv:dI.R h' _ x:=⟨b1,n1,k1,rfl,q1⟩;cbv;refine(eKC hv).mono (fun v2 h2 hR=>?_);obtain⟨eE,d0,d1,d2,rfl,NC⟩:=hR;obtain⟨b1,n1,k1,he,q1⟩:=NC;cases he;cbv;refine⟨⟨rfl,hz.ix aP⟩,?_⟩;cbv;refine(wR.mono (eE.t _)).store (by decide) (i:=i) (by simp;omega) (by omega) (by omega) hz.eq rfl (x:=x) ⟨b1,n1,k1,rfl,q1⟩ (fun h3 hk ht NI=>?_);cbv;refine⟨len-(i+1),_,by omega,⟨?_,?_,?_⟩,i+1,hz.succ (A:=A) (by omega),rfl,by omega,?_,?_⟩
   ·cbv
   ·cbv
   ·cbv
   ·exact(qV.trans eE).dJ (by simpa using gY) hk
   ·rw[if_neg (by simp;omega)]at NI;rw[mXc,hx];exact NI
  ·have lN:=hz.ge hc;cbv;have:i=len:=by omega
   subst this;refine⟨qV,nb,gY,rfl,?_⟩;rw[hlen,mXy]at wR;rw[hlen];exact wR
theorem dZu{t:fJ×Bool}{h:ad}{c0 c1 c2:Value}(q:cX.R h [c0,c1,c2] t):
 Ct 115 [.agg #[c0,c1,c2]] h (fun v h'=>Le h h'/\∃d0 d1 d2,v=.agg #[d0,d1,d2]/\cX.R h' [d0,d1,d2] (t.1,true)):=by
 obtain⟨A,hA⟩:=Ar.ex;obtain⟨b1,n1,k1,b2,n2,k2,he,q1,q2,-⟩:=q;cases he;refine ah A (ax cJa.aK cJa.bF) Tryz.func115 rfl (by kernel_rfl) ?_;cbv;refine(Uy q1).mono (fun v h1 hR=>?_);obtain⟨hle,nb,gY,rfl,ho⟩:=hR;cbv;refine(bXg (q2.mono (hle.t _))).mono (fun v h2 hR=>?_);obtain⟨eE,b',ju,rfl,kZk,-⟩:=hR;cbv;exact⟨hle.trans eE,_,_,_,rfl,_,_,_,_,_,_,rfl,(ho.sl q1.len).mono (eE.t _),kZk,fun _=>rfl⟩
theorem cXN{xs:List (fJ×Bool)}{h:ad}{b:Option Addr}{len cap:Nat}(q:Sl 55 cX h (.slice b len cap) xs):
 Ct 114 [.slice b len cap,.func (.func 115) #[] #[]] h (fun v h'=>Le h h'/\∃nb,h nb=none/\v=.slice (some ⟨nb,0,none⟩) len len/\fX 55 cX h' nb len (xs.map fun p=>(p.1,true))):=by
 obtain⟨A,hA⟩:=Ar.ex;have hlen:=q.len;obtain⟨lY,jq⟩:=q.bound;refine ah A (ax cJb.aK cJb.bF) Tryz.func114 rfl (by kernel_rfl) ?_;cbv;refine nJ (s:=cX) rfl (by omega) (by decide) (fun nb h1 gY hle ho=>?_);cbv;refine aX.go (G:=Int) (fun z=>[(13,.v (.int .i64 z))]) (fun _=>[]) (fun n z h'=>∃i:Nat,aS z i/\n=len-i/\i<=len/\Le h h'/\fX 55 cX h' nb len ((xs.take i).map fun p=>(p.1,true))) len 0 ⟨?_,?_,?_⟩ ⟨0,⟨rfl⟩,by omega,by omega,hle,ho⟩ ?_
 ·cbv
 ·cbv
 ·cbv
 ·intro n z h' hI;cbv;obtain⟨i,hz,hn,hi,qV,wR⟩:=hI;refine bh (fun hc=>?_) (fun hc=>?_)
  ·have aP:=hz.lt hc;clear hc;cbv;obtain⟨x,hx⟩:=aE (xs:=xs) (i:=i) (by omega);refine⟨⟨q.aT (by omega),hz.ix aP⟩,?_⟩;cbv;refine(q.mono (qV.t _)).load hx hz.eq (fun cs ay=>?_);obtain⟨b1,n1,k1,b2,n2,k2,rfl,q1,q2,q3⟩:=ay;have hv:cX.R h' _ x:=⟨b1,n1,k1,b2,n2,k2,rfl,q1,q2,q3⟩;cbv;refine(dZu hv).mono (fun v2 h2 hR=>?_);obtain⟨eE,d0,d1,d2,rfl,NC⟩:=hR;obtain⟨b1,n1,k1,b2,n2,k2,he,q1,q2,q3⟩:=NC;cases he;cbv;refine⟨⟨rfl,hz.ix aP⟩,?_⟩;cbv;refine(wR.mono (eE.t _)).store (by decide) (i:=i) (by simp;omega) (by omega) (by omega) hz.eq rfl (x:=(x.1,true)) ⟨b1,n1,k1,b2,n2,k2,rfl,q1,q2,q3⟩ (fun h3 hk ht NI=>?_);cbv;refine⟨len-(i+1),_,by omega,⟨?_,?_,?_⟩,i+1,hz.succ (A:=A) (by omega),rfl,by omega,?_,?_⟩
   ·cbv
   ·cbv
   ·cbv
   ·exact(qV.trans eE).dJ (by simpa using gY) hk
   ·rw[if_neg (by simp;omega)]at NI;rw[mXc,hx];simpa using NI
  ·have lN:=hz.ge hc;cbv;have:i=len:=by omega
   subst this;refine⟨qV,nb,gY,rfl,?_⟩;rw[hlen,mXy]at wR;rw[hlen];exact wR
theorem eQC:pV Tryz.prog 296 Tryz.f296:=⟨Tryz.func296,by kernel_rfl,by kernel_rfl,by kernel_rfl⟩
def eC(a b:ByteArray):Int:=Lib.compareBytes a.data.toList b.data.toList
structure aQc(l:List Int)(z:Int)(t:Bool):Prop where
 out:∃i,aS z i/\i=uc l 0 l.length/\t=decide (i<l.length/\l.getD i 0=0)
theorem eQV(a b:ByteArray)(h:ad):Ct 260 [.string a,.string b] h (fun v h'=>Le h h'/\∃z,v=.int .i64 z/\z=eC a b):=by obtain⟨A,hA⟩:=Ar.ex;refine ah A (ax gQe.aK gQe.bF) Tryz.func260 rfl (by kernel_rfl) ?_;cbv;refine cXH eQC (by kernel_rfl) ?_;generalize hz:Lib.compareBytes a.data.toList b.data.toList=z;cbv;exact⟨Le.refl _,z,rfl,hz.symm⟩
theorem bXf(a b:ByteArray)(h:ad):Ct 204 [.string a,.string b] h (fun v h'=>Le h h'/\∃z,v=.int .i64 z/\z=eC a b):=by obtain⟨A,hA⟩:=Ar.ex;refine ah A (ax gQS.aK gQS.bF) Tryz.func204 rfl (by kernel_rfl) ?_;cbv;refine(eQV a b h).mono (fun v h1 hR=>?_);obtain⟨hle,z,rfl,hz⟩:=hR;cbv;exact⟨hle,z,rfl,hz⟩
theorem dQj(a b:ByteArray)(h:ad)(c1 c2 c3 c4:Value):Ct 203 [.agg #[.string a,c1,c2,c3,c4],.string b] h (fun v h'=>Le h h'/\∃z,v=.int .i64 z/\z=eC a b):=by obtain⟨A,hA⟩:=Ar.ex;refine ah A (ax gQT.aK gQT.bF) Tryz.func203 rfl (by kernel_rfl) ?_;cbv;refine(bXf a b h).mono (fun v h1 hR=>?_);obtain⟨hle,z,rfl,hz⟩:=hR;cbv;exact⟨hle,z,rfl,hz⟩
theorem iKd{xs:List cW}{h:ad}{b:Option Addr}{len cap:Nat}(q:Sl 51 ef h (.slice b len cap) xs)(name:ByteArray):
 Ct 202 [.slice b len cap,.string name,.func (.func 203) #[] #[]] h (fun v h'=>Le h h'/\∃(z:Int) (t:Bool),v=.tuple #[.int .i64 z,.bool t]/\aQc (xs.map (fun x=>eC x.S.name name)) z t):=by
 obtain⟨A,hA⟩:=Ar.ex;have hlen:=q.len;obtain⟨lY,jq⟩:=q.bound;have Am:(xs.map (fun x=>eC x.S.name name)).length=len:=by simp[hlen]
 generalize hl:xs.map (fun x=>eC x.S.name name)=l at Am;have uS:∀(i:Nat) x,xs[i]? =some x->l[i]? =some ((fun x=>eC x.S.name name) x):=fun i x hx=>by rw[<-hl];simp[hx]
 refine ah A (ax gQU.aK gQU.bF) Tryz.func202 rfl (by kernel_rfl) ?_;cbv;refine aX.go (G:=Int×Int) (fun g=>[(9,.v (.int .i64 g.1)),(10,.v (.int .i64 g.2))]) (fun _=>[])
  (fun n g h'=>∃i j:Nat,aS g.1 i/\aS g.2 j/\n=j-i/\i<=j/\j<=len/\Le h h'/\uc l 0 len=uc l i j) len (0,A .nat len) ⟨?_,?_,?_⟩ ⟨0,len,⟨rfl⟩,⟨by rw[hA.nat];rfl⟩,by omega,by omega,by omega,Le.refl _,rfl⟩ ?_
 ·cbv
 ·cbv
 ·cbv
 ·intro n g h' hI;cbv;obtain⟨i,j,hi,hj,hn,aKH,tX,hle,aKR⟩:=hI;refine bh (fun hc=>?_) (fun hc=>?_)
  ·rw[hi.iJ (A:=A) hj,mQD]at hc;cbv;refine⟨by decide,?_⟩;cbv;have hm:=hi.bKH (A:=A) hj (by omega) (by omega);obtain⟨x,hx⟩:=aE (xs:=xs) (i:=(i+j) / 2) (by omega);refine⟨⟨q.aT (by omega),hm.ix (by omega)⟩,?_⟩;cbv;refine(q.mono (hle.t _)).load hx hm.eq (fun cs ay=>?_);obtain⟨b1,n1,k1,b2,n2,k2,rfl,q1,q2⟩:=ay;cbv;refine(dQj x.S.name name _ _ _ _ _).mono (fun v h2 hR=>?_);obtain⟨eE,z,rfl,hz⟩:=hR;cbv;have hg:l.getD ((i+j) / 2) 0=z:=by rw[mXv,uS _ _ hx,hz];rfl
   have nU:=aKR;rw[uc.eq_1 l i j,if_pos hc,hg]at nU;refine bh (fun oq=>?_) (fun oq=>?_)
   ·rw[hA.aI]at oq;have Qn:z<0:=mQB oq;rw[if_pos Qn]at nU;clear oq Qn;cbv;refine⟨j-((i+j) / 2+1),(_,g.2),by omega,⟨?_,?_,?_⟩,(i+j) / 2+1,j,hm.succ (A:=A) (by omega),hj,rfl,by omega,tX,hle.trans eE,nU⟩
    ·cbv
    ·cbv
    ·cbv
   ·rw[hA.aI]at oq;have Qn:¬z<0:=mQI oq;rw[if_neg Qn]at nU;clear oq Qn;cbv;refine⟨(i+j) / 2-i,(g.1,A .conv .i64 (A .bB .shr .u64 (A .conv .u64 (A .bB .add .i64 g.1 g.2)) 1)),by omega,⟨?_,?_,?_⟩,i,(i+j) / 2,hi,hm,rfl,by omega,by omega,hle.trans eE,nU⟩
    ·cbv
    ·cbv
    ·cbv
  ·rw[hi.iJ (A:=A) hj,decide_eq_false_iff_not]at hc;cbv;have nU:=aKR;rw[uc.eq_1 l i j,if_neg hc]at nU;have iV:=hi.iJ (A:=A) (w:=A .nat len) (j:=len) ⟨by rw[hA.nat];rfl⟩;refine bh (fun oq=>?_) (fun oq=>?_)
   ·rw[oq];rw[iV,mQD]at oq;cbv;obtain⟨x,hx⟩:=aE (xs:=xs) (i:=i) (by omega);refine⟨⟨q.aT (by omega),hi.ix (by omega)⟩,?_⟩;cbv;refine(q.mono (hle.t _)).load hx hi.eq (fun cs ay=>?_);obtain⟨b1,n1,k1,b2,n2,k2,rfl,q1,q2⟩:=ay;cbv;refine(dQj x.S.name name _ _ _ _ _).mono (fun v h2 hR=>?_);obtain⟨eE,z,rfl,hz⟩:=hR;cbv;refine⟨hle.trans eE,_,_,rfl,⟨i,hi,?_,?_⟩⟩
    ·rw[Am];exact nU.symm
    ·rw[hA.aI];have hg:l.getD i 0=z:=by rw[mXv,uS _ _ hx,hz];rfl
     rw[hg,Am];simp[aI,oq];rfl
   ·rw[oq];rw[iV,decide_eq_false_iff_not]at oq;cbv;refine⟨hle,_,_,rfl,⟨i,hi,?_,?_⟩⟩
    ·rw[Am];exact nU.symm
    ·rw[Am];simp[oq]
theorem cJA{d:DB}{h:ad}{v:Value}(q:ik h v d):
 Ct 50 [v] h (fun v' h'=>Le h h'/\∃tb wb n1 n2 b3 n3 c3 b4 n4 c4 ws,h tb=none/\h wb=none/\
  v'=.agg #[.slice (some ⟨tb,0,none⟩) n1 n1,.slice (some ⟨wb,0,none⟩) n2 n2,.slice b3 n3 c3,.slice b4 n4 c4]/\
  n1=d.az.length/\fX 51 ef h' tb n1 d.az/\n2=ws.length/\fX 55 cX h' wb n2 ws/\Sl 205 bG h' (.slice b3 n3 c3) d.holds/\Sl 205 bG h' (.slice b4 n4 c4) d.waits/\ws=d.aq.map fun w=>(w,true)):=by
 obtain⟨A,hA⟩:=Ar.ex;obtain⟨b1,n1,c1,b2,n2,c2,b3,n3,c3,b4,n4,c4,ws,rfl,q1,q2,q3,q4,qw⟩:=q.out;refine ah A (ax hQf.aK hQf.bF) Tryz.func50 rfl (by kernel_rfl) ?_;cbv;refine(WI q1).mono (fun v h1 hR=>?_);obtain⟨l1,tb,wB,rfl,o1⟩:=hR;cbv;refine(cXN (q2.mono (l1.t _))).mono (fun v h2 hR=>?_);obtain⟨l2,wb,Ai,rfl,o2⟩:=hR;cbv;refine(Dj (q3.mono ((l1.trans l2).t _))).mono (fun v h3 hR=>?_);obtain⟨l3,jJJ,eXf,rfl,o3,-⟩:=hR;cbv;refine(Dj (q4.mono (((l1.trans l2).trans l3).t _))).mono (fun v h4 hR=>?_);obtain⟨l4,jJI,jJA,rfl,o4,-⟩:=hR;cbv;refine⟨((l1.trans l2).trans l3).trans l4,tb,wb,n1,n2,_,_,_,_,_,_,_,wB,l1.none Ai,rfl,q1.len,o1.mono (((l2.trans l3).trans l4).t _),?_,o2.mono ((l3.trans l4).t _),o3.mono (l4.t _),o4,?_⟩
 ·rw[mQz];exact q2.len
 ·rw[<-qw,mXB];rfl
structure lA(h:ad)(c tb wb ct cw:Nat)(T:List cW)(W:List (fJ×Bool))(H Wt:List cg)(e:Int):Prop where
 out:∃n1 n2 b3 n3 c3 b4 n4 c4 o,h c=some (.cells #[.slice (some ⟨tb,0,none⟩) n1 ct,.slice (some ⟨wb,0,none⟩) n2 cw,.slice b3 n3 c3,.slice b4 n4 c4,.int .u32 o,.int .i32 0,.int .u32 0,.int .i64 e] 128 (0,0))/\
  ((o=0/\e=0)\/(o=1/\e≠0))/\
  n1=T.length/\fX 51 ef h tb ct T/\n2=W.length/\fX 55 cX h wb cw W/\Sl 205 bG h (.slice b3 n3 c3) H/\Sl 205 bG h (.slice b4 n4 c4) Wt
theorem lA.mono{h h':ad}{c tb wb ct cw:Nat}{T:List cW}{W:List (fJ×Bool)}{H Wt:List cg}{e:Int}(q:lA h c tb wb ct cw T W H Wt e)(hl:Le h h'):lA h' c tb wb ct cw T W H Wt e:=by obtain⟨n1,n2,b3,n3,c3,b4,n4,c4,o,g0,g1,g2,g3,g4,g5,g6,g7⟩:=q.out;exact⟨n1,n2,b3,n3,c3,b4,n4,c4,o,hl _ _ g0,g1,g2,g3.mono (hl.t _),g4,g5.mono (hl.t _),g6.mono (hl.t _),g7.mono (hl.t _)⟩
theorem Nv{d:DB}{h:ad}{v:Value}(q:ik h v d):
 Ct 48 [v] h (fun v' h'=>Le h h'/\∃c tb wb ct cw W,v'=.pointer (some ⟨c,0,none⟩)/\h c=none/\h tb=none/\h wb=none/\c≠tb/\c≠wb/\W=(d.aq.map fun w=>(w,true))/\ct=d.az.length/\cw=W.length/\lA h' c tb wb ct cw d.az W d.holds d.waits 0):=by
 obtain⟨A,hA⟩:=Ar.ex;have q':=q;obtain⟨b1,n1,c1,b2,n2,c2,b3,n3,c3,b4,n4,c4,ws,rfl,-⟩:=q'.out;refine ah A (ax hQg.aK hQg.bF) Tryz.func48 rfl (by kernel_rfl) ?_;cbv;refine(cJA q).mono (fun v h1 hR=>?_);obtain⟨l1,tb,wb,n1,n2,b3,n3,c3,b4,n4,c4,W,wB,Ai,rfl,g1,g2,g3,g4,g5,g6,g7⟩:=hR;cbv;intro n h2 hn hh;have l2:Le h1 h2:=by rw[hh];exact Le.set hn
 have ht:n≠tb:=fun e=>by
  obtain⟨c,h3,-⟩:=g2.out;rw[<-e,hn]at h3;cases h3
 have hw:n≠wb:=fun e=>by
  obtain⟨c,h3,-⟩:=g4.out;rw[<-e,hn]at h3;cases h3
 have gc:=(congrFun hh n).trans ae;have hc:lA h2 n tb wb n1 n2 d.az W d.holds d.waits 0:=
  ⟨n1,n2,b3,n3,c3,b4,n4,c4,0,gc,.inl ⟨rfl,rfl⟩,g1,g2.mono (l2.t _),g3,g4.mono (l2.t _),g5.mono (l2.t _),g6.mono (l2.t _)⟩
 cbv;exact⟨l1.trans l2,n,tb,wb,n1,n2,W,rfl,l1.none hn,wB,Ai,ht,hw,g7,g1,g3,hc⟩
theorem ai(A:Ar)[hA:bM A](b o n:Nat):A .off ⟨b,o,none⟩ n=⟨b,o+n,none⟩:=by rw[hA.off];exact dF b o n
theorem eQD:pV Tryz.prog 292 Tryz.f292:=⟨Tryz.func292,by kernel_rfl,by kernel_rfl,by kernel_rfl⟩
theorem eQB:pV Tryz.prog 321 Tryz.f321:=⟨Tryz.func321,by kernel_rfl,by kernel_rfl,by kernel_rfl⟩
theorem bQB:pV Tryz.prog 335 Tryz.f335:=⟨Tryz.func335,by kernel_rfl,by kernel_rfl,by kernel_rfl⟩
theorem eQz:pV Tryz.prog 336 Tryz.f336:=⟨Tryz.func336,by kernel_rfl,by kernel_rfl,by kernel_rfl⟩
theorem bQA:pV Tryz.prog 337 Tryz.f337:=⟨Tryz.func337,by kernel_rfl,by kernel_rfl,by kernel_rfl⟩
theorem eQy:pV Tryz.prog 338 Tryz.f338:=⟨Tryz.func338,by kernel_rfl,by kernel_rfl,by kernel_rfl⟩
theorem eQx:pV Tryz.prog 340 Tryz.f340:=⟨Tryz.func340,by kernel_rfl,by kernel_rfl,by kernel_rfl⟩
theorem eQw:pV Tryz.prog 341 Tryz.f341:=⟨Tryz.func341,by kernel_rfl,by kernel_rfl,by kernel_rfl⟩
structure Up(h:ad)(b o:Nat)(x:Value)(h':ad):Prop where
 out:∃c e,h b=some (.cells c e (0,0))/\h'=bU h b (.cells (c.setIfInBounds o x) e (0,0))
theorem Up.lXE{h h':ad}{b o:Nat}{x v:Value}(u:Up h b o x h')(q:vr h ⟨b,o,none⟩ v):vr h' ⟨b,o,none⟩ x:=by obtain⟨c,e,h1,rfl⟩:=u.out;obtain⟨-,c',e',h2,h3⟩:=q.out;simp only at h2;rw[h1]at h2;cases h2;refine⟨rfl,_,e,ae,?_⟩;have:=(mXr.1 h3).1;simp only at this |-;rw[mKb this]
theorem Up.other{h h':ad}{b o p:Nat}{x v:Value}(u:Up h b o x h')(hp:p≠o)(q:vr h ⟨b,p,none⟩ v):vr h' ⟨b,p,none⟩ v:=by obtain⟨c,e,h1,rfl⟩:=u.out;obtain⟨-,c',e',h2,h3⟩:=q.out;simp only at h2;rw[h1]at h2;cases h2;refine⟨rfl,_,e,ae,?_⟩;simp only at h3 |-;rw[mJZ (Ne.symm hp)];exact h3
theorem bKL{h:ad}{b o:Nat}(q:vr h ⟨b,o,none⟩ (.int .i32 0)):Ct 319 [.pointer (some ⟨b,o,none⟩)] h (fun v h'=>v=.tuple #[]/\Up h b o (.int .i32 1) h'):=by obtain⟨A,hA⟩:=Ar.ex;refine ah A (ax fKo.aK fKo.bF) Tryz.func319 rfl (by kernel_rfl) ?_;cbv;refine zE bQB .disable (by kernel_rfl) ?_;cbv;rw[ai A];refine cXI eQz (by kernel_rfl) q (fun c e h1 e1 e2=>?_);have hu:Up h b o (.int .i32 1) h1:=⟨c,e,e1,e2⟩;cbv;refine zE bQA .enable (by kernel_rfl) ?_;cbv;refine Hc (t:=122) (by kernel_rfl) (by kernel_rfl) (by kernel_rfl) (hu.lXE q) ?_;cbv;refine Is eQy .acquire (by kernel_rfl) ?_;cbv;exact⟨rfl,hu⟩
theorem VN{h:ad}{b o:Nat}(q:vr h ⟨b,o,none⟩ (.int .i32 0)):Ct 293 [.pointer (some ⟨b,o,none⟩)] h (fun v h'=>v=.tuple #[]/\Up h b o (.int .i32 1) h'):=by obtain⟨A,hA⟩:=Ar.ex;refine ah A (ax fKI.aK fKI.bF) Tryz.func293 rfl (by kernel_rfl) ?_;cbv;rw[ai A];refine(bKL q).mono (fun v h1 hR=>?_);obtain⟨rfl,hu⟩:=hR;cbv;exact⟨rfl,hu⟩
theorem Xy{h:ad}{b o:Nat}(q:vr h ⟨b,o,none⟩ (.int .i32 1)):Ct 320 [.pointer (some ⟨b,o,none⟩)] h (fun v h'=>v=.tuple #[]/\Up h b o (.int .i32 0) h'):=by
 obtain⟨A,hA⟩:=Ar.ex;refine ah A (ax fKn.aK fKn.bF) Tryz.func320 rfl (by kernel_rfl) ?_;cbv;rw[ai A];obtain⟨-,c0,e0,g1,g2⟩:=q.out;refine⟨[.int .i32 1],⟨rfl,rfl,c0,e0,(0,0),g1,fun i hi=>?_⟩,?_⟩
 ·have:i=0:=by omega
  subst this;exact g2
 cbv;refine Hc (t:=122) (by kernel_rfl) (by kernel_rfl) (by kernel_rfl) q ?_;cbv;refine Is eQx .releaseMerge (by kernel_rfl) ?_;cbv;refine zE bQB .disable (by kernel_rfl) ?_;cbv;rw[ai A];refine WG eQw (by kernel_rfl) q (fun c e h1 e1 e2=>?_);have hu:Up h b o (.int .i32 0) h1:=⟨c,e,e1,e2⟩;cbv;refine bh (fun hc=>?_) (fun hc=>?_)
 ·rw[hA.aI]at hc;cases hc
 cbv;refine zE bQA .enable (by kernel_rfl) ?_;cbv;exact⟨rfl,hu⟩
theorem GA{h:ad}{b o:Nat}(q:vr h ⟨b,o,none⟩ (.int .i32 1)):gZt 294 [.pointer (some ⟨b,o,none⟩)] h (fun v h'=>v=.tuple #[]/\Up h b o (.int .i32 0) h'):=by obtain⟨A,hA⟩:=Ar.ex;refine zg A (ax fKH.aK fKH.bF) Tryz.func294 rfl (by kernel_rfl) ?_;cbv;rw[ai A];refine(Xy q).mono (fun v h1 hR=>?_);obtain⟨rfl,hu⟩:=hR;cbv;exact⟨rfl,hu⟩
theorem yO{h:ad}{b o:Nat}{x:Int}(q:vr h ⟨b,o,none⟩ (.int .u32 x)):Ct 258 [.pointer (some ⟨b,o,none⟩)] h (fun v h'=>∃t,v=.bool t/\t=decide (x≠0)/\h'=h):=by obtain⟨A,hA⟩:=Ar.ex;refine ah A (ax gQf.aK gQf.bF) Tryz.func258 rfl (by kernel_rfl) ?_;cbv;rw[ai A];refine bQz eQD (by kernel_rfl) q ?_;cbv;refine⟨_,rfl,?_,rfl⟩;rw[hA.aI];simp[aI];rfl
theorem lXK(h:ad):Ct 322 [.bool true] h (fun v h'=>v=.int .u32 1/\h'=h):=by obtain⟨A,hA⟩:=Ar.ex;refine ah A (ax fKm.aK fKm.bF) Tryz.func322 rfl (by kernel_rfl) ?_;cbv
theorem JY{h:ad}{b o:Nat}{x:Value}(q:vr h ⟨b,o,none⟩ x):gZt 295 [.pointer (some ⟨b,o,none⟩),.bool true] h (fun v h'=>v=.tuple #[]/\Up h b o (.int .u32 1) h'):=by obtain⟨A,hA⟩:=Ar.ex;refine zg A (ax fKG.aK fKG.bF) Tryz.func295 rfl (by kernel_rfl) ?_;cbv;refine(lXK h).mono (fun v h1 hR=>?_);obtain⟨rfl,rfl⟩:=hR;cbv;rw[ai A];refine Zq eQB (by kernel_rfl) q (fun c e h1 e1 e2=>?_);have hu:Up _ b o (.int .u32 1) h1:=⟨c,e,e1,e2⟩;cbv;exact⟨rfl,hu⟩
theorem Sk{h:ad}{b o:Nat}{a1 a2:Addr}{Q:ad->Prop}(q0:vr h ⟨b,o,none⟩ (.int .u32 0))(q1:vr h ⟨b,o+1,none⟩ (.int .i32 0))
 (eQX:∀h1,Up h b (o+1) (.int .i32 1) h1->Ct 201 [.pointer (some a1),.pointer (some a2)] h1 (fun v h2=>v=.tuple #[]/\vr h2 ⟨b,o,none⟩ (.int .u32 0)/\vr h2 ⟨b,o+1,none⟩ (.int .i32 1)/\Q h2)):
 Ct 259 [.pointer (some ⟨b,o,none⟩),.func (.func 201) #[] #[.pointer (some a1),.pointer (some a2)]] h (fun v h'=>v=.tuple #[]/\∃h2 h3,Q h2/\Up h2 b o (.int .u32 1) h3/\Up h3 b (o+1) (.int .i32 0) h'):=by
 obtain⟨A,hA⟩:=Ar.ex;refine oZ A (ax cZN.aK cZN.bF) Tryz.func259 rfl (by kernel_rfl) ?_;cbv;rw[ai A];refine(VN q1).mono (fun v h1 hR=>?_);obtain⟨rfl,hu⟩:=hR;have hJl:=hu.other (by omega) q0;cbv;rw[ai A];rw[ai A];refine(yO hJl).mono (fun v h2 hR=>?_);obtain⟨t,rfl,ht,rfl⟩:=hR;have ht:t=false:=by rw[ht];rfl
 subst ht;cbv;rw[hA.not];cbv;rw[ai A];refine(eQX _ hu).mono (fun v h2 hR=>?_);obtain⟨rfl,c0,c1,hQ⟩:=hR;cbv;refine(JY c0).mono (fun v h3 hR=>?_);obtain⟨-,dJL⟩:=hR;have aQE:=dJL.other (by omega) c1;cbv;refine(GA aQE).mono (fun v h4 hR=>?_);obtain⟨-,iQk⟩:=hR;cbv;exact⟨rfl,h2,h3,hQ,dJL,iQk⟩
theorem cXR{h:ad}{b o:Nat}{a1 a2:Addr}{Q:ad->Prop}(q0:vr h ⟨b,o,none⟩ (.int .u32 0))(q1:vr h ⟨b,o+1,none⟩ (.int .i32 0))
 (eQX:∀h1,Up h b (o+1) (.int .i32 1) h1->Ct 201 [.pointer (some a1),.pointer (some a2)] h1 (fun v h2=>v=.tuple #[]/\vr h2 ⟨b,o,none⟩ (.int .u32 0)/\vr h2 ⟨b,o+1,none⟩ (.int .i32 1)/\Q h2)):
 Ct 200 [.pointer (some ⟨b,o,none⟩),.func (.func 201) #[] #[.pointer (some a1),.pointer (some a2)]] h (fun v h'=>v=.tuple #[]/\∃h2 h3,Q h2/\Up h2 b o (.int .u32 1) h3/\Up h3 b (o+1) (.int .i32 0) h'):=by
 obtain⟨A,hA⟩:=Ar.ex;refine ah A (ax Rl.aK Rl.bF) Tryz.func200 rfl (by kernel_rfl) ?_;cbv;rw[ai A];refine(yO q0).mono (fun v h2 hR=>?_);obtain⟨t,rfl,ht,rfl⟩:=hR;have ht:t=false:=by rw[ht];rfl
 subst ht;cbv;rw[hA.not];cbv;refine(Sk q0 q1 eQX).mono (fun v h2 hR=>?_);obtain⟨rfl,hR⟩:=hR;cbv;exact⟨rfl,hR⟩
theorem bQM{h:ad}{b o:Nat}{a1 a2:Addr}(q0:vr h ⟨b,o,none⟩ (.int .u32 1)):
 Ct 200 [.pointer (some ⟨b,o,none⟩),.func (.func 201) #[] #[.pointer (some a1),.pointer (some a2)]] h (fun v h'=>v=.tuple #[]/\h'=h):=by
 obtain⟨A,hA⟩:=Ar.ex;refine ah A (ax Rl.aK Rl.bF) Tryz.func200 rfl (by kernel_rfl) ?_;cbv;rw[ai A];refine(yO q0).mono (fun v h2 hR=>?_);obtain⟨t,rfl,ht,rfl⟩:=hR;have ht:t=true:=by rw[ht];rfl
 subst ht;cbv;rw[hA.not];cbv;exact⟨rfl,True.intro⟩
theorem OC{h:ad}{b o:Nat}{a1:Addr}{Q:ad->Prop}(q0:vr h ⟨b,o,none⟩ (.int .u32 0))(q1:vr h ⟨b,o+1,none⟩ (.int .i32 0))
 (eQX:∀h1,Up h b (o+1) (.int .i32 1) h1->Ct 238 [.pointer (some a1)] h1 (fun v h2=>v=.tuple #[]/\vr h2 ⟨b,o,none⟩ (.int .u32 0)/\vr h2 ⟨b,o+1,none⟩ (.int .i32 1)/\Q h2)):
 Ct 259 [.pointer (some ⟨b,o,none⟩),.func (.func 238) #[.pointer (some a1)] #[]] h (fun v h'=>v=.tuple #[]/\∃h2 h3,Q h2/\Up h2 b o (.int .u32 1) h3/\Up h3 b (o+1) (.int .i32 0) h'):=by
 obtain⟨A,hA⟩:=Ar.ex;refine oZ A (ax cZN.aK cZN.bF) Tryz.func259 rfl (by kernel_rfl) ?_;cbv;rw[ai A];refine(VN q1).mono (fun v h1 hR=>?_);obtain⟨rfl,hu⟩:=hR;have hJl:=hu.other (by omega) q0;cbv;rw[ai A];rw[ai A];refine(yO hJl).mono (fun v h2 hR=>?_);obtain⟨t,rfl,ht,rfl⟩:=hR;have ht:t=false:=by rw[ht];rfl
 subst ht;cbv;rw[hA.not];cbv;rw[ai A];refine(eQX _ hu).mono (fun v h2 hR=>?_);obtain⟨rfl,c0,c1,hQ⟩:=hR;cbv;refine(JY c0).mono (fun v h3 hR=>?_);obtain⟨-,dJL⟩:=hR;have aQE:=dJL.other (by omega) c1;cbv;refine(GA aQE).mono (fun v h4 hR=>?_);obtain⟨-,iQk⟩:=hR;cbv;exact⟨rfl,h2,h3,hQ,dJL,iQk⟩
theorem bQL{h:ad}{b o:Nat}{a1:Addr}{Q:ad->Prop}(q0:vr h ⟨b,o,none⟩ (.int .u32 0))(q1:vr h ⟨b,o+1,none⟩ (.int .i32 0))
 (eQX:∀h1,Up h b (o+1) (.int .i32 1) h1->Ct 238 [.pointer (some a1)] h1 (fun v h2=>v=.tuple #[]/\vr h2 ⟨b,o,none⟩ (.int .u32 0)/\vr h2 ⟨b,o+1,none⟩ (.int .i32 1)/\Q h2)):
 Ct 200 [.pointer (some ⟨b,o,none⟩),.func (.func 238) #[.pointer (some a1)] #[]] h (fun v h'=>v=.tuple #[]/\∃h2 h3,Q h2/\Up h2 b o (.int .u32 1) h3/\Up h3 b (o+1) (.int .i32 0) h'):=by
 obtain⟨A,hA⟩:=Ar.ex;refine ah A (ax Rl.aK Rl.bF) Tryz.func200 rfl (by kernel_rfl) ?_;cbv;rw[ai A];refine(yO q0).mono (fun v h2 hR=>?_);obtain⟨t,rfl,ht,rfl⟩:=hR;have ht:t=false:=by rw[ht];rfl
 subst ht;cbv;rw[hA.not];cbv;refine(OC q0 q1 eQX).mono (fun v h2 hR=>?_);obtain⟨rfl,hR⟩:=hR;cbv;exact⟨rfl,hR⟩
theorem Zu{h:ad}{b o:Nat}{a1:Addr}(q0:vr h ⟨b,o,none⟩ (.int .u32 1)):
 Ct 200 [.pointer (some ⟨b,o,none⟩),.func (.func 238) #[.pointer (some a1)] #[]] h (fun v h'=>v=.tuple #[]/\h'=h):=by
 obtain⟨A,hA⟩:=Ar.ex;refine ah A (ax Rl.aK Rl.bF) Tryz.func200 rfl (by kernel_rfl) ?_;cbv;rw[ai A];refine(yO q0).mono (fun v h2 hR=>?_);obtain⟨t,rfl,ht,rfl⟩:=hR;have ht:t=true:=by rw[ht];rfl
 subst ht;cbv;rw[hA.not];cbv;exact⟨rfl,True.intro⟩
theorem eQv{h:ad}{b3 b2 c:Nat}{x:Int}{t1 t2 e1 e2:Nat}{s1 s2 s3 s4 o1 o2 o3 y:Value}(g3:h b3=some (.cells #[.int .i64 x] t1 (e1,e2)))(g2:h b2=some (.cells #[.pointer (some ⟨c,0,none⟩)] t2 (0,0)))
 (gc:h c=some (.cells #[s1,s2,s3,s4,o1,o2,o3,y] 128 (0,0))):
 Ct 201 [.pointer (some ⟨b3,0,none⟩),.pointer (some ⟨b2,0,none⟩)] h (fun v h'=>v=.tuple #[]/\h'=bU h c (.cells #[s1,s2,s3,s4,o1,o2,o3,.int .i64 x] 128 (0,0))):=by
 obtain⟨A,hA⟩:=Ar.ex;refine ah A (ax gQV.aK gQV.bF) Tryz.func201 rfl (by kernel_rfl) ?_;cbv;refine aB g2 rfl rfl ?_;cbv;refine aB g3 rfl rfl ?_;cbv;rw[ai A];refine ja gc (by simp) (fun h' hh=>?_);cbv;exact⟨rfl,hh⟩
theorem Up.exp{h h':ad}{b o e:Nat}{x:Value}{c:List Value}(u:Up h b o x h')(g:h b=some (.cells (List.toArray c) e (0,0))):h'=bU h b (.cells (List.toArray (c.set o x)) e (0,0)):=by obtain⟨c',e',g',rfl⟩:=u.out;rw[g]at g';cases g';simp
theorem og{h:ad}{b o e:Nat}{c:List Value}{x:Value}(g:h b=some (.cells (List.toArray c) e (0,0)))(hx:c[o]? =some x):vr h ⟨b,o,none⟩ x:=⟨rfl,_,e,g,by simpa using hx⟩
theorem Nh{h:ad}{c tb wb ct cw:Nat}{T:List cW}{W:List (fJ×Bool)}{H Wt:List cg}{e x:Int}(q:lA h c tb wb ct cw T W H Wt e)(ht:c≠tb)(hw:c≠wb):
 Ct 104 [.pointer (some ⟨c,0,none⟩),.int .i64 x] h (fun v h'=>v=.tuple #[]/\Kp [c] h h'/\lA h' c tb wb ct cw T W H Wt (if e=0 then x else e)):=by
 obtain⟨A,hA⟩:=Ar.ex;obtain⟨n1,n2,b3,n3,c3,b4,n4,c4,o,gc,ho,q1,q2,q3,q4,q5,q6⟩:=q.out;refine ah A (ax gZk.aK gZk.bF) Tryz.func104 rfl (by kernel_rfl) ?_;cbv;intro p2 h1 Gk e1;cbv;intro p3 h2 bZE e2;have l1:Le h h1:=by rw[e1];exact Le.set Gk
 have l2:Le h1 h2:=by rw[e2];exact Le.set bZE
 have g3:h2 p3=some (.cells #[.int .i64 x] 35 (0,0)):=by rw[e2];exact ae
 have g2:h2 p2=some (.cells #[.pointer (some ⟨c,0,none⟩)] 109 (0,0)):=l2 _ _ (by rw[e1];exact ae);have q':=q.mono (l1.trans l2);have eQg:=(l1.trans l2) _ _ gc;have kZE:p2≠c:=fun e=>by rw[e,gc]at Gk;cases Gk
 have kZC:p3≠c:=fun e=>by rw[e,l1 _ _ gc]at bZE;cases bZE
 cbv;refine aB g3 rfl rfl ?_;cbv;refine bh (fun hc=>?_) (fun hc=>?_)
 ·have hx:x≠0:=by intro e;rw[hA.aI,e]at hc;cases hc
  clear hc;cbv;refine aB g2 rfl rfl ?_;cbv;rw[ai A];rcases ho with ⟨rfl,rfl⟩ | ⟨rfl,he⟩
  ·refine(cXR (a1:=⟨p3,0,none⟩) (a2:=⟨p2,0,none⟩) (Q:=fun hq=>hq=bU h2 c (.cells (List.toArray [.slice (some ⟨tb,0,none⟩) n1 ct,.slice (some ⟨wb,0,none⟩) n2 cw,.slice b3 n3 c3,.slice b4 n4 c4,.int .u32 0,.int .i32 1,.int .u32 0,.int .i64 x]) 128 (0,0)))
    (og eQg rfl) (og eQg rfl) (fun h3 hu=>?_)).mono (fun v h4 hR=>?_)
   ·have e3:=hu.exp eQg;have bJa:h3 p3=some (.cells #[.int .i64 x] 35 (0,0)):=by rw[e3,aO kZC];exact g3
    have ou:h3 p2=some (.cells #[.pointer (some ⟨c,0,none⟩)] 109 (0,0)):=by rw[e3,aO kZE];exact g2
    have lQP:h3 c=some (.cells (List.toArray [.slice (some ⟨tb,0,none⟩) n1 ct,.slice (some ⟨wb,0,none⟩) n2 cw,.slice b3 n3 c3,.slice b4 n4 c4,.int .u32 0,.int .i32 1,.int .u32 0,.int .i64 0]) 128 (0,0)):=by rw[e3];exact ae
    refine(eQv bJa ou lQP).mono (fun v h4 hR=>?_);obtain⟨rfl,rfl⟩:=hR;exact⟨rfl,og ae rfl,og ae rfl,by rw[e3,oW]⟩
   ·obtain⟨rfl,h5,h6,rfl,u5,u6⟩:=hR;have e6:=u5.exp ae;rw[oW]at e6;have g6:=(congrFun e6 c).trans ae;have e4:=u6.exp g6;rw[e6,oW]at e4;cbv;have kp:Kp [c] h2 h4:=by rw[e4];exact Kp.set (by simp)
    have lt:∀tys,128∉tys->bR tys h2 h4:=fun tys hn=>by rw[e4];exact bR.set eQg hn
    refine⟨rfl,((l1.trans l2).kp _).trans kp,n1,n2,b3,n3,c3,b4,n4,c4,1,?_,.inr ⟨rfl,?_⟩,q1,?_,q3,?_,?_,?_⟩
    ·rw[e4];exact ae
    ·exact hx
    ·exact q2.mono (((l1.trans l2).t _).trans (lt _ (by decide)))
    ·exact q4.mono (((l1.trans l2).t _).trans (lt _ (by decide)))
    ·exact q5.mono (((l1.trans l2).t _).trans (lt _ (by decide)))
    ·exact q6.mono (((l1.trans l2).t _).trans (lt _ (by decide)))
  ·refine(bQM (a1:=⟨p3,0,none⟩) (a2:=⟨p2,0,none⟩) (og eQg rfl)).mono (fun v h4 hR=>?_);obtain⟨rfl,rfl⟩:=hR;cbv;refine⟨rfl,(l1.trans l2).kp _,?_⟩;rw[if_neg he];exact q'
 ·have hx:x=0:=by rw[hA.aI]at hc;simpa[aI]using hc
  cbv;refine⟨rfl,(l1.trans l2).kp _,?_⟩;subst hx;have:(if e=0 then 0 else e)=e:=by split<;>simp_all
  rw[this];exact q'
def dX:Sh ByteArray where
 n:=1
 R _ cs v:=cs=[.string v]
 len:=by rintro h cs x rfl;rfl
 one:=by rintro h cs x rfl;rfl
 tys:=[]
 mono:=fun _ q=>q
def jY:List ByteArray:=[⟨#[97,110,100]⟩,⟨#[98,101,103,105,110]⟩,⟨#[98,111,111,108]⟩,⟨#[98,121]⟩,⟨#[99,111,109,109,105,116]⟩,⟨#[99,111,117,110,116]⟩,⟨#[99,114,101,97,116,101]⟩,⟨#[100,101,108,101,116,101]⟩,⟨#[100,101,115,99]⟩,⟨#[100,114,111,112]⟩,⟨#[102,97,108,115,101]⟩,⟨#[102,114,111,109]⟩,⟨#[103,114,111,117,112]⟩,⟨#[105,110,115,101,114,116]⟩,⟨#[105,110,116]⟩,⟨#[105,110,116,111]⟩,⟨#[105,115]⟩,⟨#[106,111,105,110]⟩,⟨#[107,101,121]⟩,⟨#[108,105,109,105,116]⟩,⟨#[109,97,120]⟩,⟨#[109,105,110]⟩,⟨#[110,111,116]⟩,⟨#[110,117,108,108]⟩,⟨#[111,110]⟩,⟨#[111,110,108,121]⟩,⟨#[111,114]⟩,⟨#[111,114,100,101,114]⟩,⟨#[112,114,105,109,97,114,121]⟩,⟨#[114,111,108,108,98,97,99,107]⟩,⟨#[115,97,118,101,112,111,105,110,116]⟩,⟨#[115,101,108,101,99,116]⟩,⟨#[115,101,116]⟩,⟨#[115,117,109]⟩,⟨#[116,97,98,108,101]⟩,⟨#[116,101,120,116]⟩,⟨#[116,111]⟩,⟨#[116,114,117,101]⟩,⟨#[117,112,100,97,116,101]⟩,⟨#[118,97,108,117,101,115]⟩,⟨#[119,104,101,114,101]⟩]
theorem Pu:jY.Nodup:=by decide
theorem bKS(h:ad):Ct 274 [] h (fun v h'=>Le h h'/\∃nb,v=.slice (some ⟨nb,0,none⟩) 41 41/\Sl 9 dX h' v jY):=by
 obtain⟨A,hA⟩:=Ar.ex;refine ah A (ax fKZ.aK fKZ.bF) Tryz.func274 rfl (by kernel_rfl) ?_;cbv;intro n h1 hn e1;have g:h1 n=some (.cells (List.toArray (jY.map Value.string)) 9 (0,0)):=by rw[e1];exact ae
 have hr:Sx.Rows dX h1 (jY.map Value.string) 0 jY:=by refine⟨by decide,fun i x hx=>?_⟩;have aP:=(HH.1 hx).1;show List.take 1 (List.drop (0+i*1) _)=_;rw[mQY,mZt,mQy (by simpa using aP)];rw[HH]at hx;simp[hx.2]
 have hs:Sl 9 dX h1 (.slice (some ⟨n,0,none⟩) 41 41) jY:=Sl.fresh (xs:=jY) g hr (by decide) (by decide);have hl:Le h h1:=by rw[e1];exact Le.set hn
 clear g hr e1;cbv;exact⟨hl,n,rfl,hs⟩
theorem dXm:Tryz.prog.underlying 248=some (.map 9 4):=by kernel_rfl
theorem u9:Tryz.prog.underlying 9=some .string:=by kernel_rfl
def DL(l:List ByteArray):List (Value×Value):=l.map fun w=>(.string w,.bool true)
theorem Kp.new{bs:List Nat}{h h1 h2:ad}{m:Nat}(x:Kp bs h h1)(hm:h m=none)(y:Kp (m::bs) h1 h2):Kp bs h h2:=fun b o q hb=>
 y b o (x b o q hb) (by
  intro hc;rcases mQs.1 hc with e|e
  ·rw[e,hm]at q;cases q
  ·exact hb e)
theorem bKn{h:ad}{sp:Nat}{o1 o2 o3 mv:Value}(eZQ:h sp=some (.cells #[o1,o2,o3,mv] 250 (0,0))):
 Ct 238 [.pointer (some ⟨sp,0,none⟩)] h (fun v h'=>v=.tuple #[]/\Kp [sp] h h'/\∃m,h m=none/\h' sp=some (.cells #[o1,o2,o3,.map (some m)] 250 (0,0))/\Mp h' m .string (DL jY)):=by
 obtain⟨A,hA⟩:=Ar.ex;refine ah A (ax gQw.aK gQw.bF) Tryz.func238 rfl (by kernel_rfl) ?_;cbv;intro m h1 hm e1;have l1:Le h h1:=by rw[e1];exact Le.set hm
 have ch:m≠sp:=fun e=>by rw[e,eZQ]at hm;cases hm
 have hJG:Mp h1 m .string []:=Mp.new (by rw[e1];exact ae);cbv;rw[ai A];refine ja (l1 _ _ eZQ) (by simp) (fun h2 e2=>?_);have k2:Kp [sp] h1 h2:=by rw[e2];exact Kp.set (by simp)
 have g2:h2 sp=some (.cells #[o1,o2,o3,.map (some m)] 250 (0,0)):=by rw[e2];exact ae
 have SK:=hJG.kp k2 (by simpa using ch);cbv;refine(bKS h2).mono (fun v h3 hR=>?_);obtain⟨l3,nb,rfl,hs⟩:=hR;have dZL:=SK.kp (l3.kp []) (by simp);have k3:Kp [sp] h h3:=((l1.kp _).trans k2).trans (l3.kp _);have g3:=l3 _ _ g2;have hlen:jY.length=41:=rfl;cbv;refine aX.go (G:=Int) (fun z=>[(10,.v (.int .i64 z))]) (fun _=>[]) (fun n z h'=>∃i:Nat,aS z i/\n=41-i/\i<=41/\Kp [sp] h h'/\h' sp=some (.cells #[o1,o2,o3,.map (some m)] 250 (0,0))/\Mp h' m .string (DL (jY.take i))/\Sl 9 dX h' (.slice (some ⟨nb,0,none⟩) 41 41) jY) 41 0 ⟨?_,?_,?_⟩ ⟨0,⟨rfl⟩,rfl,by decide,k3,g3,dZL,hs⟩ ?_
 ·cbv
 ·cbv
 ·cbv
 ·intro n z h' hI;cbv;obtain⟨i,hz,hn,hi,k',g',jQL,KG⟩:=hI;refine bh (fun hc=>?_) (fun hc=>?_)
  ·have aP:=hz.lt (A:=A) (len:=41) hc;clear hc;cbv;obtain⟨x,hx⟩:=aE (xs:=jY) (i:=i) (by rw[hlen];exact aP);refine⟨⟨rfl,hz.ix aP⟩,?_⟩;cbv;refine KG.load hx hz.eq (fun cs ay=>?_);have ay:cs=[.string x]:=ay;subst ay;cbv;rw[ai A];refine aB g' rfl rfl ?_;cbv;refine vz dXm u9 jQL (key:=.string x) True.intro ?_ (fun h4 Yu k4 t4=>?_)
   ·intro p hp e;obtain⟨w,hw,rfl⟩:=mQO.1 hp;cases e;obtain⟨j,hj⟩:=mQZ hw;rw[mXa]at hj;split at hj
    ·rename_i nT;have h5:=HH.1 hj;have h6:=HH.1 hx;have:=mQN.1 Pu j i h5.1 h6.1 nT;rw[h5.2,h6.2]at this;exact this rfl
    ·cases hj
   cbv;refine⟨41-(i+1),_,by omega,⟨?_,?_,?_⟩,i+1,hz.succ (A:=A) (by omega),rfl,by omega,Kp.new k' hm (k4.sub (by simp)),k4 _ _ g' (by simpa using fun e=>ch (Eq.symm e)),?_,KG.mono (t4 _)⟩
   ·cbv
   ·cbv
   ·cbv
   ·rw[mXc,hx];simpa[DL]using Yu
  ·have lN:=hz.ge (A:=A) (len:=41) hc;cbv;have:i=41:=by omega
   subst this;exact⟨rfl,k',m,hm,g',jQL⟩
end Go.S
