import Derived.Test.YtekoaiendgjkdaaGreatTab
import Derived.Test.YtekoaiendgjkdaaGreatRd
set_option linter.unusedVariables false
set_option linter.unusedSimpArgs false
set_option linter.unusedSectionVars false
set_option maxRecDepth 100000
namespace Go.S
open Go.Sx Go.Proofs
abbrev Ct(f:FuncId)(args:List Value)(h:ad)(R:Value->ad->Prop):Prop:=IC (fun _=>Tryz.prog) f args h R
abbrev CtD(f:FuncId)(args:List Value)(h:ad)(R:Value->ad->Prop):Prop:=H4 (fun _=>Tryz.prog) f args h R
structure dg where
 k:Int
 n:Int
 s:ByteArray
def bq:Sh dg where
 n:=3
 R _ cs v:=cs=[.int .i64 v.k,.int .i64 v.n,.string v.s]
 len:=by rintro h cs x rfl;rfl
 one:=by rintro h cs x rfl;rfl
 tys:=[]
 mono:=fun _ q=>q
structure bT where
 name:ByteArray
 kind:Int
 null:Bool
def bt:Sh bT where
 n:=3
 R _ cs v:=cs=[.string v.name,.int .i64 v.kind,.bool v.null]
 len:=by rintro h cs x rfl;rfl
 one:=by rintro h cs x rfl;rfl
 tys:=[]
 mono:=fun _ q=>q
structure Ns where
 name:ByteArray
 at_:Int
def gF:Sh Ns where
 n:=2
 R _ cs v:=cs=[.string v.name,.int .i64 v.at_]
 len:=by rintro h cs x rfl;rfl
 one:=by rintro h cs x rfl;rfl
 tys:=[]
 mono:=fun _ q=>q
structure bZ where
 s:Int
 table:ByteArray
 x:Bool
def bL:Sh bZ where
 n:=3
 R _ cs v:=cs=[.int .i64 v.s,.string v.table,.bool v.x]
 len:=by rintro h cs x rfl;rfl
 one:=by rintro h cs x rfl;rfl
 tys:=[]
 mono:=fun _ q=>q
abbrev Row:=List dg
abbrev aL:Sh Row:=jU 61 bq
structure AU where
 name:ByteArray
 cols:List bT
 key:Int
 only:Bool
structure cE where
 S:AU
 rows:List Row
def cY:Sh cE where
 n:=5
 R h cs t:=∃b1 n1 c1 b2 n2 c2,cs=[.string t.S.name,.slice b1 n1 c1,.int .i64 t.S.key,.bool t.S.only,.slice b2 n2 c2]/\Sl 165 bt h (.slice b1 n1 c1) t.S.cols/\Sl 59 aL h (.slice b2 n2 c2) t.rows
 len:=by rintro h cs x ⟨_,_,_,_,_,_,rfl,-⟩;rfl
 one:=by rintro h cs x ⟨_,_,_,_,_,_,rfl,-⟩;rfl
 tys:=[165,59,61]
 mono:=by rintro h h' cs x hl ⟨b1,n1,c1,b2,n2,c2,rfl,q1,q2⟩;exact⟨b1,n1,c1,b2,n2,c2,rfl,q1.mono (hl.sub (by decide)),q2.mono (hl.sub (by decide))⟩
structure iX where
 table:ByteArray
 op:Int
 row:Row
def gM:Sh iX where
 n:=3
 R h cs t:=∃b n c,cs=[.string t.table,.int .i64 t.op,.slice b n c]/\Sl 61 bq h (.slice b n c) t.row
 len:=by rintro h cs x ⟨_,_,_,rfl,-⟩;rfl
 one:=by rintro h cs x ⟨_,_,_,rfl,-⟩;rfl
 tys:=[61]
 mono:=by rintro h h' cs x hl ⟨b,n,c,rfl,q⟩;exact⟨b,n,c,rfl,q.mono (hl.sub (by decide))⟩
structure dO where
 s:Int
 log:List iX
 marks:List Ns
def shWrk:Sh dO where
 n:=3
 R h cs t:=∃b1 n1 c1 b2 n2 c2,cs=[.int .i64 t.s,.slice b1 n1 c1,.slice b2 n2 c2]/\Sl 148 gM h (.slice b1 n1 c1) t.log/\Sl 161 gF h (.slice b2 n2 c2) t.marks
 len:=by rintro h cs x ⟨_,_,_,_,_,_,rfl,-⟩;rfl
 one:=by rintro h cs x ⟨_,_,_,_,_,_,rfl,-⟩;rfl
 tys:=[148,61,161]
 mono:=by rintro h h' cs x hl ⟨b1,n1,c1,b2,n2,c2,rfl,q1,q2⟩;exact⟨b1,n1,c1,b2,n2,c2,rfl,q1.mono (hl.sub (by decide)),q2.mono (hl.sub (by decide))⟩
def cf:Sh (dO×Bool)where
 n:=3
 R h cs t:=∃b1 n1 c1 b2 n2 c2,cs=[.int .i64 t.1.s,.slice b1 n1 c1,.slice b2 n2 c2]/\Sl 148 gM h (.slice b1 n1 c1) t.1.log/\Sl 161 gF h (.slice b2 n2 c2) t.1.marks/\(t.2=true->c1=n1)
 len:=by rintro h cs x ⟨_,_,_,_,_,_,rfl,-⟩;rfl
 one:=by rintro h cs x ⟨_,_,_,_,_,_,rfl,-⟩;rfl
 tys:=[148,61,161]
 mono:=by rintro h h' cs x hl ⟨b1,n1,c1,b2,n2,c2,rfl,q1,q2,q3⟩;exact⟨b1,n1,c1,b2,n2,c2,rfl,q1.mono (hl.sub (by decide)),q2.mono (hl.sub (by decide)),q3⟩
structure DB where
 aE:List cE
 au:List dO
 holds:List bZ
 waits:List bZ
structure gj(h:ad)(v:Value)(d:DB):Prop where
 out:∃b1 n1 c1 b2 n2 c2 b3 n3 c3 b4 n4 c4 ws,v=.agg #[.slice b1 n1 c1,.slice b2 n2 c2,.slice b3 n3 c3,.slice b4 n4 c4]/\
  Sl 51 cY h (.slice b1 n1 c1) d.aE/\Sl 55 cf h (.slice b2 n2 c2) ws/\Sl 205 bL h (.slice b3 n3 c3) d.holds/\Sl 205 bL h (.slice b4 n4 c4) d.waits/\ws.map (·.1)=d.au
theorem se{xs:List bZ}{h:ad}{b:Option Addr}{len cap:Nat}(q:Sl 205 bL h (.slice b len cap) xs):
 Ct 116 [.slice b len cap] h (fun v h'=>Le h h'/\∃b' eV,v=.slice b' len eV/\Sl 205 bL h' v xs/\∀kY o s,b'=some ⟨kY,o,s⟩->h kY=none):=by
 obtain⟨A,hA⟩:=Ar.ex;refine ah A (ar Qq.aA Qq.bm) Tryz.func116 rfl (by kernel_rfl) ?_;cbv;refine aQ (fun hc=>?_) (fun hc=>?_)
 ·rw[hA.xy]at hc;cbv;have hb:b=none:=by cases b<;>simp at hc |-
  subst hb;have hl:len=0:=by
   rcases Nat.eq_zero_or_pos len with e|e
   ·exact e
   ·have:=q.bu e;cases this
  have:=q.len;have hx:xs=[]:=List.eq_nil_of_length_eq_zero (by omega);subst hx hl;exact⟨Le.refl _,none,0,rfl,Sl.nil,fun _ _ _ e=>(by cases e)⟩
 ·cbv;intro n0 h1 kg eF;have hle:Le h h1:=by rw[eF];exact Le.set kg
  cbv;refine fi (q.mono (hle.t _)) (by simp[bL]) rfl (by decide) (fun hn=>?_) (fun nb c h2 e1 e2 e3 e4=>?_)
  ·cbv;have:=q.len;have hx:xs=[]:=List.eq_nil_of_length_eq_zero (by omega);subst hx hn;exact⟨hle,_,_,rfl,Sl.nil,fun _ _ _ e=>(by cases e;exact kg)⟩
  ·cbv;exact⟨hle.trans e3,_,_,rfl,e4.sl q.len,fun _ _ _ e=>(by cases e;exact hle.none e1)⟩
theorem Cq{xs:List bT}{h:ad}{b:Option Addr}{len cap:Nat}(q:Sl 165 bt h (.slice b len cap) xs):
 Ct 169 [.slice b len cap] h (fun v h'=>Le h h'/\∃b' eV,v=.slice b' len eV/\Sl 165 bt h' v xs/\∀kY o s,b'=some ⟨kY,o,s⟩->h kY=none):=by
 obtain⟨A,hA⟩:=Ar.ex;refine ah A (ar Qp.aA Qp.bm) Tryz.func169 rfl (by kernel_rfl) ?_;cbv;refine aQ (fun hc=>?_) (fun hc=>?_)
 ·rw[hA.xy]at hc;cbv;have hb:b=none:=by cases b<;>simp at hc |-
  subst hb;have hl:len=0:=by
   rcases Nat.eq_zero_or_pos len with e|e
   ·exact e
   ·have:=q.bu e;cases this
  have:=q.len;have hx:xs=[]:=List.eq_nil_of_length_eq_zero (by omega);subst hx hl;exact⟨Le.refl _,none,0,rfl,Sl.nil,fun _ _ _ e=>(by cases e)⟩
 ·cbv;intro n0 h1 kg eF;have hle:Le h h1:=by rw[eF];exact Le.set kg
  cbv;refine fi (q.mono (hle.t _)) (by simp[bt]) rfl (by decide) (fun hn=>?_) (fun nb c h2 e1 e2 e3 e4=>?_)
  ·cbv;have:=q.len;have hx:xs=[]:=List.eq_nil_of_length_eq_zero (by omega);subst hx hn;exact⟨hle,_,_,rfl,Sl.nil,fun _ _ _ e=>(by cases e;exact kg)⟩
  ·cbv;exact⟨hle.trans e3,_,_,rfl,e4.sl q.len,fun _ _ _ e=>(by cases e;exact hle.none e1)⟩
theorem wJ{xs:List dg}{h:ad}{b:Option Addr}{len cap:Nat}(q:Sl 61 bq h (.slice b len cap) xs):
 Ct 90 [.slice b len cap] h (fun v h'=>Le h h'/\∃b' eV,v=.slice b' len eV/\Sl 61 bq h' v xs/\∀kY o s,b'=some ⟨kY,o,s⟩->h kY=none):=by
 obtain⟨A,hA⟩:=Ar.ex;refine ah A (ar T90.aA T90.bm) Tryz.func90 rfl (by kernel_rfl) ?_;cbv;refine aQ (fun hc=>?_) (fun hc=>?_)
 ·rw[hA.xy]at hc;cbv;have hb:b=none:=by cases b<;>simp at hc |-
  subst hb;have hl:len=0:=by
   rcases Nat.eq_zero_or_pos len with e|e
   ·exact e
   ·have:=q.bu e;cases this
  have:=q.len;have hx:xs=[]:=List.eq_nil_of_length_eq_zero (by omega);subst hx hl;exact⟨Le.refl _,none,0,rfl,Sl.nil,fun _ _ _ e=>(by cases e)⟩
 ·cbv;intro n0 h1 kg eF;have hle:Le h h1:=by rw[eF];exact Le.set kg
  cbv;refine fi (q.mono (hle.t _)) (by simp[bq]) rfl (by decide) (fun hn=>?_) (fun nb c h2 e1 e2 e3 e4=>?_)
  ·cbv;have:=q.len;have hx:xs=[]:=List.eq_nil_of_length_eq_zero (by omega);subst hx hn;exact⟨hle,_,_,rfl,Sl.nil,fun _ _ _ e=>(by cases e;exact kg)⟩
  ·cbv;exact⟨hle.trans e3,_,_,rfl,e4.sl q.len,fun _ _ _ e=>(by cases e;exact hle.none e1)⟩
theorem LY{xs:List Ns}{h:ad}{b:Option Addr}{len cap:Nat}(q:Sl 161 gF h (.slice b len cap) xs):
 Ct 208 [.slice b len cap] h (fun v h'=>Le h h'/\∃b' eV,v=.slice b' len eV/\Sl 161 gF h' v xs/\∀kY o s,b'=some ⟨kY,o,s⟩->h kY=none):=by
 obtain⟨A,hA⟩:=Ar.ex;refine ah A (ar Qo.aA Qo.bm) Tryz.func208 rfl (by kernel_rfl) ?_;cbv;refine aQ (fun hc=>?_) (fun hc=>?_)
 ·rw[hA.xy]at hc;cbv;have hb:b=none:=by cases b<;>simp at hc |-
  subst hb;have hl:len=0:=by
   rcases Nat.eq_zero_or_pos len with e|e
   ·exact e
   ·have:=q.bu e;cases this
  have:=q.len;have hx:xs=[]:=List.eq_nil_of_length_eq_zero (by omega);subst hx hl;exact⟨Le.refl _,none,0,rfl,Sl.nil,fun _ _ _ e=>(by cases e)⟩
 ·cbv;intro n0 h1 kg eF;have hle:Le h h1:=by rw[eF];exact Le.set kg
  cbv;refine fi (q.mono (hle.t _)) (by simp[gF]) rfl (by decide) (fun hn=>?_) (fun nb c h2 e1 e2 e3 e4=>?_)
  ·cbv;have:=q.len;have hx:xs=[]:=List.eq_nil_of_length_eq_zero (by omega);subst hx hn;exact⟨hle,_,_,rfl,Sl.nil,fun _ _ _ e=>(by cases e;exact kg)⟩
  ·cbv;exact⟨hle.trans e3,_,_,rfl,e4.sl q.len,fun _ _ _ e=>(by cases e;exact hle.none e1)⟩
theorem JI{r:Row}{h:ad}{b:Option Addr}{len cap:Nat}(q:Sl 61 bq h (.slice b len cap) r):
 Ct 128 [.slice b len cap] h (fun v h'=>Le h h'/\∃b' eV,v=.slice b' len eV/\Sl 61 bq h' v r):=by
 obtain⟨A,hA⟩:=Ar.ex;refine ah A (ar T128.aA T128.bm) Tryz.func128 rfl (by kernel_rfl) ?_;cbv;refine(wJ q).mono (fun v h'=>?_);rintro⟨hle,b',eV,rfl,q',-⟩;cbv;exact⟨hle,_,_,rfl,q'⟩
theorem PI{xs:List Row}{h:ad}{b:Option Addr}{len cap:Nat}(q:Sl 59 aL h (.slice b len cap) xs):
 Ct 207 [.slice b len cap,.func (.func 128) #[] #[]] h (fun v h'=>Le h h'/\∃nb,h nb=none/\v=.slice (some ⟨nb,0,none⟩) len len/\dI 59 aL h' nb len xs):=by
 obtain⟨A,hA⟩:=Ar.ex;have hlen:=q.len;obtain⟨ll,jS⟩:=q.bound;refine ah A (ar T207.aA T207.bm) Tryz.func207 rfl (by kernel_rfl) ?_;cbv;refine iL (s:=aL) rfl (by omega) (by decide) (fun nb h1 fk hle ho=>?_);cbv;refine aX.go (G:=Int) (fun z=>[(13,.v (.int .i64 z))]) (fun _=>[]) (fun n z h'=>∃i:Nat,aS z i/\n=len-i/\i<=len/\Le h h'/\dI 59 aL h' nb len (xs.take i)) len 0 ⟨?_,?_,?_⟩ ⟨0,⟨rfl⟩,by omega,by omega,hle,ho⟩ ?_
 ·cbv
 ·cbv
 ·cbv
 ·intro n z h' hI;cbv;obtain⟨i,hz,hn,hi,ku,pD⟩:=hI;refine aQ (fun hc=>?_) (fun hc=>?_)
  ·have aK:=hz.lt hc;clear hc;cbv;obtain⟨x,hx⟩:=aI (xs:=xs) (i:=i) (by omega);refine⟨⟨q.bu (by omega),hz.ix aK⟩,?_⟩;cbv;refine(q.mono (ku.t _)).load hx hz.eq (fun cs aC=>?_);obtain⟨v,rfl,hv⟩:=aC;obtain⟨b1,l1,c1,rfl⟩:=hv.form;cbv;refine(JI hv).mono (fun v2 h2 hR=>?_);obtain⟨cP,b2,L3,rfl,Hb⟩:=hR;cbv;refine⟨⟨rfl,hz.ix aK⟩,?_⟩;cbv;refine(pD.mono (cP.t _)).store (by decide) (i:=i) (by simp;omega) (by omega) (by omega) hz.eq rfl (x:=x) ⟨_,rfl,Hb⟩ (fun h3 hk ht AN=>?_);cbv;refine⟨len-(i+1),_,by omega,⟨?_,?_,?_⟩,i+1,hz.succ (A:=A) (by omega),rfl,by omega,?_,?_⟩
   ·cbv
   ·cbv
   ·cbv
   ·exact(ku.trans cP).df (by simpa using fk) hk
   ·rw[if_neg (by simp;omega)]at AN;rw[List.take_add_one,hx];exact AN
  ·have iR:=hz.ge hc;cbv;have:i=len:=by omega
   subst this;refine⟨ku,nb,fk,rfl,?_⟩;rw[hlen,List.take_length]at pD;rw[hlen];exact pD
theorem QL{t:cE}{h:ad}{c0 c1 c2 c3 c4:Value}(q:cY.R h [c0,c1,c2,c3,c4] t):
 Ct 107 [.agg #[c0,c1,c2,c3,c4]] h (fun v h'=>Le h h'/\∃d0 d1 d2 d3 d4,v=.agg #[d0,d1,d2,d3,d4]/\cY.R h' [d0,d1,d2,d3,d4] t):=by
 obtain⟨A,hA⟩:=Ar.ex;obtain⟨b1,n1,k1,b2,n2,k2,he,q1,q2⟩:=q;cases he;refine ah A (ar T107.aA T107.bm) Tryz.func107 rfl (by kernel_rfl) ?_;cbv;refine(Cq q1).mono (fun v h1 hR=>?_);obtain⟨hle,b',eV,rfl,Yn,-⟩:=hR;cbv;refine(PI (q2.mono (hle.t _))).mono (fun v h2 hR=>?_);obtain⟨cP,nb,fk,rfl,ho⟩:=hR;cbv;exact⟨hle.trans cP,_,_,_,_,_,rfl,_,_,_,_,_,_,rfl,Yn.mono (cP.t _),ho.sl q2.len⟩
theorem FF{xs:List cE}{h:ad}{b:Option Addr}{len cap:Nat}(q:Sl 51 cY h (.slice b len cap) xs):
 Ct 113 [.slice b len cap,.func (.func 107) #[] #[]] h (fun v h'=>Le h h'/\∃nb,h nb=none/\v=.slice (some ⟨nb,0,none⟩) len len/\dI 51 cY h' nb len xs):=by
 obtain⟨A,hA⟩:=Ar.ex;have hlen:=q.len;obtain⟨ll,jS⟩:=q.bound;refine ah A (ar T113.aA T113.bm) Tryz.func113 rfl (by kernel_rfl) ?_;cbv;refine iL (s:=cY) rfl (by omega) (by decide) (fun nb h1 fk hle ho=>?_);cbv;refine aX.go (G:=Int) (fun z=>[(13,.v (.int .i64 z))]) (fun _=>[]) (fun n z h'=>∃i:Nat,aS z i/\n=len-i/\i<=len/\Le h h'/\dI 51 cY h' nb len (xs.take i)) len 0 ⟨?_,?_,?_⟩ ⟨0,⟨rfl⟩,by omega,by omega,hle,ho⟩ ?_
 ·cbv
 ·cbv
 ·cbv
 ·intro n z h' hI;cbv;obtain⟨i,hz,hn,hi,ku,pD⟩:=hI;refine aQ (fun hc=>?_) (fun hc=>?_)
  ·have aK:=hz.lt hc;clear hc;cbv;obtain⟨x,hx⟩:=aI (xs:=xs) (i:=i) (by omega);refine⟨⟨q.bu (by omega),hz.ix aK⟩,?_⟩;cbv;refine(q.mono (ku.t _)).load hx hz.eq (fun cs aC=>?_);obtain⟨b1,n1,k1,b2,n2,k2,rfl,q1,q2⟩:=aC;have hv:cY.R h' _ x:=⟨b1,n1,k1,b2,n2,k2,rfl,q1,q2⟩;cbv;refine(QL hv).mono (fun v2 h2 hR=>?_);obtain⟨cP,d0,d1,d2,d3,d4,rfl,Hb⟩:=hR;obtain⟨b1,n1,k1,b2,n2,k2,he,q1,q2⟩:=Hb;cases he;cbv;refine⟨⟨rfl,hz.ix aK⟩,?_⟩;cbv;refine(pD.mono (cP.t _)).store (by decide) (i:=i) (by simp;omega) (by omega) (by omega) hz.eq rfl (x:=x) ⟨b1,n1,k1,b2,n2,k2,rfl,q1,q2⟩ (fun h3 hk ht AN=>?_);cbv;refine⟨len-(i+1),_,by omega,⟨?_,?_,?_⟩,i+1,hz.succ (A:=A) (by omega),rfl,by omega,?_,?_⟩
   ·cbv
   ·cbv
   ·cbv
   ·exact(ku.trans cP).df (by simpa using fk) hk
   ·rw[if_neg (by simp;omega)]at AN;rw[List.take_add_one,hx];exact AN
  ·have iR:=hz.ge hc;cbv;have:i=len:=by omega
   subst this;refine⟨ku,nb,fk,rfl,?_⟩;rw[hlen,List.take_length]at pD;rw[hlen];exact pD
theorem Ys{t:iX}{h:ad}{c0 c1 c2:Value}(q:gM.R h [c0,c1,c2] t):
 Ct 60 [.agg #[c0,c1,c2]] h (fun v h'=>Le h h'/\∃d0 d1 d2,v=.agg #[d0,d1,d2]/\gM.R h' [d0,d1,d2] t):=by
 obtain⟨A,hA⟩:=Ar.ex;obtain⟨b1,n1,k1,he,q1⟩:=q;cases he;refine ah A (ar T60.aA T60.bm) Tryz.func60 rfl (by kernel_rfl) ?_;cbv;refine(JI q1).mono (fun v h1 hR=>?_);obtain⟨hle,b',eV,rfl,Yn⟩:=hR;cbv;exact⟨hle,_,_,_,rfl,_,_,_,rfl,Yn⟩
theorem LA{xs:List iX}{h:ad}{b:Option Addr}{len cap:Nat}(q:Sl 148 gM h (.slice b len cap) xs):
 Ct 59 [.slice b len cap,.func (.func 60) #[] #[]] h (fun v h'=>Le h h'/\∃nb,h nb=none/\v=.slice (some ⟨nb,0,none⟩) len len/\dI 148 gM h' nb len xs):=by
 obtain⟨A,hA⟩:=Ar.ex;have hlen:=q.len;obtain⟨ll,jS⟩:=q.bound;refine ah A (ar T59.aA T59.bm) Tryz.func59 rfl (by kernel_rfl) ?_;cbv;refine iL (s:=gM) rfl (by omega) (by decide) (fun nb h1 fk hle ho=>?_);cbv;refine aX.go (G:=Int) (fun z=>[(13,.v (.int .i64 z))]) (fun _=>[]) (fun n z h'=>∃i:Nat,aS z i/\n=len-i/\i<=len/\Le h h'/\dI 148 gM h' nb len (xs.take i)) len 0 ⟨?_,?_,?_⟩ ⟨0,⟨rfl⟩,by omega,by omega,hle,ho⟩ ?_
 ·cbv
 ·cbv
 ·cbv
 ·intro n z h' hI;cbv;obtain⟨i,hz,hn,hi,ku,pD⟩:=hI;refine aQ (fun hc=>?_) (fun hc=>?_)
  ·have aK:=hz.lt hc;clear hc;cbv;obtain⟨x,hx⟩:=aI (xs:=xs) (i:=i) (by omega);refine⟨⟨q.bu (by omega),hz.ix aK⟩,?_⟩;cbv;refine(q.mono (ku.t _)).load hx hz.eq (fun cs aC=>?_);obtain⟨b1,n1,k1,rfl,q1⟩:=aC;have hv:gM.R h' _ x:=⟨b1,n1,k1,rfl,q1⟩;cbv;refine(Ys hv).mono (fun v2 h2 hR=>?_);obtain⟨cP,d0,d1,d2,rfl,Hb⟩:=hR;obtain⟨b1,n1,k1,he,q1⟩:=Hb;cases he;cbv;refine⟨⟨rfl,hz.ix aK⟩,?_⟩;cbv;refine(pD.mono (cP.t _)).store (by decide) (i:=i) (by simp;omega) (by omega) (by omega) hz.eq rfl (x:=x) ⟨b1,n1,k1,rfl,q1⟩ (fun h3 hk ht AN=>?_);cbv;refine⟨len-(i+1),_,by omega,⟨?_,?_,?_⟩,i+1,hz.succ (A:=A) (by omega),rfl,by omega,?_,?_⟩
   ·cbv
   ·cbv
   ·cbv
   ·exact(ku.trans cP).df (by simpa using fk) hk
   ·rw[if_neg (by simp;omega)]at AN;rw[List.take_add_one,hx];exact AN
  ·have iR:=hz.ge hc;cbv;have:i=len:=by omega
   subst this;refine⟨ku,nb,fk,rfl,?_⟩;rw[hlen,List.take_length]at pD;rw[hlen];exact pD
theorem Ta{t:dO×Bool}{h:ad}{c0 c1 c2:Value}(q:cf.R h [c0,c1,c2] t):
 Ct 115 [.agg #[c0,c1,c2]] h (fun v h'=>Le h h'/\∃d0 d1 d2,v=.agg #[d0,d1,d2]/\cf.R h' [d0,d1,d2] (t.1,true)):=by
 obtain⟨A,hA⟩:=Ar.ex;obtain⟨b1,n1,k1,b2,n2,k2,he,q1,q2,-⟩:=q;cases he;refine ah A (ar Qr.aA Qr.bm) Tryz.func115 rfl (by kernel_rfl) ?_;cbv;refine(LA q1).mono (fun v h1 hR=>?_);obtain⟨hle,nb,fk,rfl,ho⟩:=hR;cbv;refine(LY (q2.mono (hle.t _))).mono (fun v h2 hR=>?_);obtain⟨cP,b',eV,rfl,q2',-⟩:=hR;cbv;exact⟨hle.trans cP,_,_,_,rfl,_,_,_,_,_,_,rfl,(ho.sl q1.len).mono (cP.t _),q2',fun _=>rfl⟩
theorem PJ{xs:List (dO×Bool)}{h:ad}{b:Option Addr}{len cap:Nat}(q:Sl 55 cf h (.slice b len cap) xs):
 Ct 114 [.slice b len cap,.func (.func 115) #[] #[]] h (fun v h'=>Le h h'/\∃nb,h nb=none/\v=.slice (some ⟨nb,0,none⟩) len len/\dI 55 cf h' nb len (xs.map fun p=>(p.1,true))):=by
 obtain⟨A,hA⟩:=Ar.ex;have hlen:=q.len;obtain⟨ll,jS⟩:=q.bound;refine ah A (ar Qs.aA Qs.bm) Tryz.func114 rfl (by kernel_rfl) ?_;cbv;refine iL (s:=cf) rfl (by omega) (by decide) (fun nb h1 fk hle ho=>?_);cbv;refine aX.go (G:=Int) (fun z=>[(13,.v (.int .i64 z))]) (fun _=>[]) (fun n z h'=>∃i:Nat,aS z i/\n=len-i/\i<=len/\Le h h'/\dI 55 cf h' nb len ((xs.take i).map fun p=>(p.1,true))) len 0 ⟨?_,?_,?_⟩ ⟨0,⟨rfl⟩,by omega,by omega,hle,ho⟩ ?_
 ·cbv
 ·cbv
 ·cbv
 ·intro n z h' hI;cbv;obtain⟨i,hz,hn,hi,ku,pD⟩:=hI;refine aQ (fun hc=>?_) (fun hc=>?_)
  ·have aK:=hz.lt hc;clear hc;cbv;obtain⟨x,hx⟩:=aI (xs:=xs) (i:=i) (by omega);refine⟨⟨q.bu (by omega),hz.ix aK⟩,?_⟩;cbv;refine(q.mono (ku.t _)).load hx hz.eq (fun cs aC=>?_);obtain⟨b1,n1,k1,b2,n2,k2,rfl,q1,q2,q3⟩:=aC;have hv:cf.R h' _ x:=⟨b1,n1,k1,b2,n2,k2,rfl,q1,q2,q3⟩;cbv;refine(Ta hv).mono (fun v2 h2 hR=>?_);obtain⟨cP,d0,d1,d2,rfl,Hb⟩:=hR;obtain⟨b1,n1,k1,b2,n2,k2,he,q1,q2,q3⟩:=Hb;cases he;cbv;refine⟨⟨rfl,hz.ix aK⟩,?_⟩;cbv;refine(pD.mono (cP.t _)).store (by decide) (i:=i) (by simp;omega) (by omega) (by omega) hz.eq rfl (x:=(x.1,true)) ⟨b1,n1,k1,b2,n2,k2,rfl,q1,q2,q3⟩ (fun h3 hk ht AN=>?_);cbv;refine⟨len-(i+1),_,by omega,⟨?_,?_,?_⟩,i+1,hz.succ (A:=A) (by omega),rfl,by omega,?_,?_⟩
   ·cbv
   ·cbv
   ·cbv
   ·exact(ku.trans cP).df (by simpa using fk) hk
   ·rw[if_neg (by simp;omega)]at AN;rw[List.take_add_one,hx];simpa using AN
  ·have iR:=hz.ge hc;cbv;have:i=len:=by omega
   subst this;refine⟨ku,nb,fk,rfl,?_⟩;rw[hlen,List.take_length]at pD;rw[hlen];exact pD
theorem Wc:jP Tryz.prog 296 Tryz.f296:=⟨Tryz.func296,by kernel_rfl,by kernel_rfl,by kernel_rfl⟩
def eX(a b:ByteArray):Int:=Lib.compareBytes a.data.toList b.data.toList
structure H5(l:List Int)(z:Int)(t:Bool):Prop where
 out:∃i,aS z i/\i=lX l 0 l.length/\t=decide (i<l.length/\l.getD i 0=0)
theorem Wr(a b:ByteArray)(h:ad):Ct 260 [.string a,.string b] h (fun v h'=>Le h h'/\∃z,v=.int .i64 z/\z=eX a b):=by obtain⟨A,hA⟩:=Ar.ex;refine ah A (ar T260.aA T260.bm) Tryz.func260 rfl (by kernel_rfl) ?_;cbv;refine PE Wc (by kernel_rfl) ?_;generalize hz:Lib.compareBytes a.data.toList b.data.toList=z;cbv;exact⟨Le.refl _,z,rfl,hz.symm⟩
theorem LW(a b:ByteArray)(h:ad):Ct 204 [.string a,.string b] h (fun v h'=>Le h h'/\∃z,v=.int .i64 z/\z=eX a b):=by obtain⟨A,hA⟩:=Ar.ex;refine ah A (ar T204.aA T204.bm) Tryz.func204 rfl (by kernel_rfl) ?_;cbv;refine(Wr a b h).mono (fun v h1 hR=>?_);obtain⟨hle,z,rfl,hz⟩:=hR;cbv;exact⟨hle,z,rfl,hz⟩
theorem RX(a b:ByteArray)(h:ad)(c1 c2 c3 c4:Value):Ct 203 [.agg #[.string a,c1,c2,c3,c4],.string b] h (fun v h'=>Le h h'/\∃z,v=.int .i64 z/\z=eX a b):=by obtain⟨A,hA⟩:=Ar.ex;refine ah A (ar T203.aA T203.bm) Tryz.func203 rfl (by kernel_rfl) ?_;cbv;refine(LW a b h).mono (fun v h1 hR=>?_);obtain⟨hle,z,rfl,hz⟩:=hR;cbv;exact⟨hle,z,rfl,hz⟩
theorem bs98{xs:List cE}{h:ad}{b:Option Addr}{len cap:Nat}(q:Sl 51 cY h (.slice b len cap) xs)(name:ByteArray):
 Ct 202 [.slice b len cap,.string name,.func (.func 203) #[] #[]] h (fun v h'=>Le h h'/\∃(z:Int) (t:Bool),v=.tuple #[.int .i64 z,.bool t]/\H5 (xs.map (fun x=>eX x.S.name name)) z t):=by
 obtain⟨A,hA⟩:=Ar.ex;have hlen:=q.len;obtain⟨ll,jS⟩:=q.bound;have uq:(xs.map (fun x=>eX x.S.name name)).length=len:=by simp[hlen]
 generalize hl:xs.map (fun x=>eX x.S.name name)=l at uq;have mD:∀(i:Nat) x,xs[i]? =some x->l[i]? =some ((fun x=>eX x.S.name name) x):=fun i x hx=>by rw[<-hl];simp[hx]
 refine ah A (ar T202.aA T202.bm) Tryz.func202 rfl (by kernel_rfl) ?_;cbv;refine aX.go (G:=Int×Int) (fun g=>[(9,.v (.int .i64 g.1)),(10,.v (.int .i64 g.2))]) (fun _=>[])
  (fun n g h'=>∃i j:Nat,aS g.1 i/\aS g.2 j/\n=j-i/\i<=j/\j<=len/\Le h h'/\lX l 0 len=lX l i j) len (0,A .nat len) ⟨?_,?_,?_⟩ ⟨0,len,⟨rfl⟩,⟨by rw[hA.nat];rfl⟩,by omega,by omega,by omega,Le.refl _,rfl⟩ ?_
 ·cbv
 ·cbv
 ·cbv
 ·intro n g h' hI;cbv;obtain⟨i,j,hi,hj,hn,Rk,sw,hle,Rv⟩:=hI;refine aQ (fun hc=>?_) (fun hc=>?_)
  ·rw[hi.gy (A:=A) hj,decide_eq_true_eq]at hc;cbv;refine⟨by decide,?_⟩;cbv;have hm:=hi.mid (A:=A) hj (by omega) (by omega);obtain⟨x,hx⟩:=aI (xs:=xs) (i:=(i+j) / 2) (by omega);refine⟨⟨q.bu (by omega),hm.ix (by omega)⟩,?_⟩;cbv;refine(q.mono (hle.t _)).load hx hm.eq (fun cs aC=>?_);obtain⟨b1,n1,k1,b2,n2,k2,rfl,q1,q2⟩:=aC;cbv;refine(RX x.S.name name _ _ _ _ _).mono (fun v h2 hR=>?_);obtain⟨cP,z,rfl,hz⟩:=hR;cbv;have hg:l.getD ((i+j) / 2) 0=z:=by rw[List.getD_eq_getElem?_getD,mD _ _ hx,hz];rfl
   have iS:=Rv;rw[lX.eq_1 l i j,if_pos hc,hg]at iS;refine aQ (fun je=>?_) (fun je=>?_)
   ·rw[hA.aG]at je;have BX:z<0:=of_decide_eq_true je;rw[if_pos BX]at iS;clear je BX;cbv;refine⟨j-((i+j) / 2+1),(_,g.2),by omega,⟨?_,?_,?_⟩,(i+j) / 2+1,j,hm.succ (A:=A) (by omega),hj,rfl,by omega,sw,hle.trans cP,iS⟩
    ·cbv
    ·cbv
    ·cbv
   ·rw[hA.aG]at je;have BX:¬z<0:=of_decide_eq_false je;rw[if_neg BX]at iS;clear je BX;cbv;refine⟨(i+j) / 2-i,(g.1,A .conv .i64 (A .bA .shr .u64 (A .conv .u64 (A .bA .add .i64 g.1 g.2)) 1)),by omega,⟨?_,?_,?_⟩,i,(i+j) / 2,hi,hm,rfl,by omega,by omega,hle.trans cP,iS⟩
    ·cbv
    ·cbv
    ·cbv
  ·rw[hi.gy (A:=A) hj,decide_eq_false_iff_not]at hc;cbv;have iS:=Rv;rw[lX.eq_1 l i j,if_neg hc]at iS;have gQ:=hi.gy (A:=A) (w:=A .nat len) (j:=len) ⟨by rw[hA.nat];rfl⟩;refine aQ (fun je=>?_) (fun je=>?_)
   ·rw[je];rw[gQ,decide_eq_true_eq]at je;cbv;obtain⟨x,hx⟩:=aI (xs:=xs) (i:=i) (by omega);refine⟨⟨q.bu (by omega),hi.ix (by omega)⟩,?_⟩;cbv;refine(q.mono (hle.t _)).load hx hi.eq (fun cs aC=>?_);obtain⟨b1,n1,k1,b2,n2,k2,rfl,q1,q2⟩:=aC;cbv;refine(RX x.S.name name _ _ _ _ _).mono (fun v h2 hR=>?_);obtain⟨cP,z,rfl,hz⟩:=hR;cbv;refine⟨hle.trans cP,_,_,rfl,⟨i,hi,?_,?_⟩⟩
    ·rw[uq];exact iS.symm
    ·rw[hA.aG];have hg:l.getD i 0=z:=by rw[List.getD_eq_getElem?_getD,mD _ _ hx,hz];rfl
     rw[hg,uq];simp[aG,je];rfl
   ·rw[je];rw[gQ,decide_eq_false_iff_not]at je;cbv;refine⟨hle,_,_,rfl,⟨i,hi,?_,?_⟩⟩
    ·rw[uq];exact iS.symm
    ·rw[uq];simp[je]
theorem QM{d:DB}{h:ad}{v:Value}(q:gj h v d):
 Ct 50 [v] h (fun v' h'=>Le h h'/\∃tb wb n1 n2 b3 n3 c3 b4 n4 c4 ws,h tb=none/\h wb=none/\
  v'=.agg #[.slice (some ⟨tb,0,none⟩) n1 n1,.slice (some ⟨wb,0,none⟩) n2 n2,.slice b3 n3 c3,.slice b4 n4 c4]/\
  n1=d.aE.length/\dI 51 cY h' tb n1 d.aE/\n2=ws.length/\dI 55 cf h' wb n2 ws/\Sl 205 bL h' (.slice b3 n3 c3) d.holds/\Sl 205 bL h' (.slice b4 n4 c4) d.waits/\ws=d.au.map fun w=>(w,true)):=by
 obtain⟨A,hA⟩:=Ar.ex;obtain⟨b1,n1,c1,b2,n2,c2,b3,n3,c3,b4,n4,c4,ws,rfl,q1,q2,q3,q4,qw⟩:=q.out;refine ah A (ar T50.aA T50.bm) Tryz.func50 rfl (by kernel_rfl) ?_;cbv;refine(FF q1).mono (fun v h1 hR=>?_);obtain⟨l1,tb,su,rfl,o1⟩:=hR;cbv;refine(PJ (q2.mono (l1.t _))).mono (fun v h2 hR=>?_);obtain⟨l2,wb,vM,rfl,o2⟩:=hR;cbv;refine(se (q3.mono ((l1.trans l2).t _))).mono (fun v h3 hR=>?_);obtain⟨l3,b3',Wz,rfl,o3,-⟩:=hR;cbv;refine(se (q4.mono (((l1.trans l2).trans l3).t _))).mono (fun v h4 hR=>?_);obtain⟨l4,b4',c4',rfl,o4,-⟩:=hR;cbv;refine⟨((l1.trans l2).trans l3).trans l4,tb,wb,n1,n2,_,_,_,_,_,_,_,su,l1.none vM,rfl,q1.len,o1.mono (((l2.trans l3).trans l4).t _),?_,o2.mono ((l3.trans l4).t _),o3.mono (l4.t _),o4,?_⟩
 ·rw[List.length_map];exact q2.len
 ·rw[<-qw,List.map_map];rfl
structure jh(h:ad)(c tb wb ct cw:Nat)(T:List cE)(W:List (dO×Bool))(H Wt:List bZ)(e:Int):Prop where
 out:∃n1 n2 b3 n3 c3 b4 n4 c4 o,h c=some (.cells #[.slice (some ⟨tb,0,none⟩) n1 ct,.slice (some ⟨wb,0,none⟩) n2 cw,.slice b3 n3 c3,.slice b4 n4 c4,.int .u32 o,.int .i32 0,.int .u32 0,.int .i64 e] 128 (0,0))/\
  ((o=0/\e=0)\/(o=1/\e≠0))/\
  n1=T.length/\dI 51 cY h tb ct T/\n2=W.length/\dI 55 cf h wb cw W/\Sl 205 bL h (.slice b3 n3 c3) H/\Sl 205 bL h (.slice b4 n4 c4) Wt
theorem jh.mono{h h':ad}{c tb wb ct cw:Nat}{T:List cE}{W:List (dO×Bool)}{H Wt:List bZ}{e:Int}(q:jh h c tb wb ct cw T W H Wt e)(hl:Le h h'):jh h' c tb wb ct cw T W H Wt e:=by obtain⟨n1,n2,b3,n3,c3,b4,n4,c4,o,g0,g1,g2,g3,g4,g5,g6,g7⟩:=q.out;exact⟨n1,n2,b3,n3,c3,b4,n4,c4,o,hl _ _ g0,g1,g2,g3.mono (hl.t _),g4,g5.mono (hl.t _),g6.mono (hl.t _),g7.mono (hl.t _)⟩
theorem Az{d:DB}{h:ad}{v:Value}(q:gj h v d):
 Ct 48 [v] h (fun v' h'=>Le h h'/\∃c tb wb ct cw W,v'=.pointer (some ⟨c,0,none⟩)/\h c=none/\h tb=none/\h wb=none/\c≠tb/\c≠wb/\W=(d.au.map fun w=>(w,true))/\ct=d.aE.length/\cw=W.length/\jh h' c tb wb ct cw d.aE W d.holds d.waits 0):=by
 obtain⟨A,hA⟩:=Ar.ex;have q':=q;obtain⟨b1,n1,c1,b2,n2,c2,b3,n3,c3,b4,n4,c4,ws,rfl,-⟩:=q'.out;refine ah A (ar T48.aA T48.bm) Tryz.func48 rfl (by kernel_rfl) ?_;cbv;refine(QM q).mono (fun v h1 hR=>?_);obtain⟨l1,tb,wb,n1,n2,b3,n3,c3,b4,n4,c4,W,su,vM,rfl,g1,g2,g3,g4,g5,g6,g7⟩:=hR;cbv;intro n h2 hn hh;have l2:Le h1 h2:=by rw[hh];exact Le.set hn
 have ht:n≠tb:=fun e=>by
  obtain⟨c,h3,-⟩:=g2.out;rw[<-e,hn]at h3;cases h3
 have hw:n≠wb:=fun e=>by
  obtain⟨c,h3,-⟩:=g4.out;rw[<-e,hn]at h3;cases h3
 have gc:=(congrFun hh n).trans af;have hc:jh h2 n tb wb n1 n2 d.aE W d.holds d.waits 0:=
  ⟨n1,n2,b3,n3,c3,b4,n4,c4,0,gc,.inl ⟨rfl,rfl⟩,g1,g2.mono (l2.t _),g3,g4.mono (l2.t _),g5.mono (l2.t _),g6.mono (l2.t _)⟩
 cbv;exact⟨l1.trans l2,n,tb,wb,n1,n2,W,rfl,l1.none hn,su,vM,ht,hw,g7,g1,g3,hc⟩
theorem ai(A:Ar)[hA:aV A](b o n:Nat):A .off ⟨b,o,none⟩ n=⟨b,o+n,none⟩:=by rw[hA.off];exact bY b o n
theorem We:jP Tryz.prog 292 Tryz.f292:=⟨Tryz.func292,by kernel_rfl,by kernel_rfl,by kernel_rfl⟩
theorem Wb:jP Tryz.prog 321 Tryz.f321:=⟨Tryz.func321,by kernel_rfl,by kernel_rfl,by kernel_rfl⟩
theorem Lx:jP Tryz.prog 335 Tryz.f335:=⟨Tryz.func335,by kernel_rfl,by kernel_rfl,by kernel_rfl⟩
theorem V9:jP Tryz.prog 336 Tryz.f336:=⟨Tryz.func336,by kernel_rfl,by kernel_rfl,by kernel_rfl⟩
theorem Lw:jP Tryz.prog 337 Tryz.f337:=⟨Tryz.func337,by kernel_rfl,by kernel_rfl,by kernel_rfl⟩
theorem V8:jP Tryz.prog 338 Tryz.f338:=⟨Tryz.func338,by kernel_rfl,by kernel_rfl,by kernel_rfl⟩
theorem V7:jP Tryz.prog 340 Tryz.f340:=⟨Tryz.func340,by kernel_rfl,by kernel_rfl,by kernel_rfl⟩
theorem V6:jP Tryz.prog 341 Tryz.f341:=⟨Tryz.func341,by kernel_rfl,by kernel_rfl,by kernel_rfl⟩
structure Up(h:ad)(b o:Nat)(x:Value)(h':ad):Prop where
 out:∃c e,h b=some (.cells c e (0,0))/\h'=bp h b (.cells (c.setIfInBounds o x) e (0,0))
theorem Up.cel{h h':ad}{b o:Nat}{x v:Value}(u:Up h b o x h')(q:mM h ⟨b,o,none⟩ v):mM h' ⟨b,o,none⟩ x:=by obtain⟨c,e,h1,rfl⟩:=u.out;obtain⟨-,c',e',h2,h3⟩:=q.out;simp only at h2;rw[h1]at h2;cases h2;refine⟨rfl,_,e,af,?_⟩;have:=(Array.getElem?_eq_some_iff.1 h3).1;simp only at this |-;rw[Array.getElem?_setIfInBounds_self_of_lt this]
theorem Up.other{h h':ad}{b o p:Nat}{x v:Value}(u:Up h b o x h')(hp:p≠o)(q:mM h ⟨b,p,none⟩ v):mM h' ⟨b,p,none⟩ v:=by obtain⟨c,e,h1,rfl⟩:=u.out;obtain⟨-,c',e',h2,h3⟩:=q.out;simp only at h2;rw[h1]at h2;cases h2;refine⟨rfl,_,e,af,?_⟩;simp only at h3 |-;rw[Array.getElem?_setIfInBounds_ne (Ne.symm hp)];exact h3
theorem Ol{h:ad}{b o:Nat}(q:mM h ⟨b,o,none⟩ (.int .i32 0)):Ct 319 [.pointer (some ⟨b,o,none⟩)] h (fun v h'=>v=.tuple #[]/\Up h b o (.int .i32 1) h'):=by obtain⟨A,hA⟩:=Ar.ex;refine ah A (ar T319.aA T319.bm) Tryz.func319 rfl (by kernel_rfl) ?_;cbv;refine pr Lx .disable (by kernel_rfl) ?_;cbv;rw[ai A];refine PF V9 (by kernel_rfl) q (fun c e h1 e1 e2=>?_);have hu:Up h b o (.int .i32 1) h1:=⟨c,e,e1,e2⟩;cbv;refine pr Lw .enable (by kernel_rfl) ?_;cbv;refine vi (t:=122) (by kernel_rfl) (by kernel_rfl) (by kernel_rfl) (hu.cel q) ?_;cbv;refine wx V8 .acquire (by kernel_rfl) ?_;cbv;exact⟨rfl,hu⟩
theorem E7{h:ad}{b o:Nat}(q:mM h ⟨b,o,none⟩ (.int .i32 0)):Ct 293 [.pointer (some ⟨b,o,none⟩)] h (fun v h'=>v=.tuple #[]/\Up h b o (.int .i32 1) h'):=by obtain⟨A,hA⟩:=Ar.ex;refine ah A (ar T293.aA T293.bm) Tryz.func293 rfl (by kernel_rfl) ?_;cbv;rw[ai A];refine(Ol q).mono (fun v h1 hR=>?_);obtain⟨rfl,hu⟩:=hR;cbv;exact⟨rfl,hu⟩
theorem Gg{h:ad}{b o:Nat}(q:mM h ⟨b,o,none⟩ (.int .i32 1)):Ct 320 [.pointer (some ⟨b,o,none⟩)] h (fun v h'=>v=.tuple #[]/\Up h b o (.int .i32 0) h'):=by
 obtain⟨A,hA⟩:=Ar.ex;refine ah A (ar T320.aA T320.bm) Tryz.func320 rfl (by kernel_rfl) ?_;cbv;rw[ai A];obtain⟨-,c0,e0,g1,g2⟩:=q.out;refine⟨[.int .i32 1],⟨rfl,rfl,c0,e0,(0,0),g1,fun i hi=>?_⟩,?_⟩
 ·have:i=0:=by omega
  subst this;exact g2
 cbv;refine vi (t:=122) (by kernel_rfl) (by kernel_rfl) (by kernel_rfl) q ?_;cbv;refine wx V7 .releaseMerge (by kernel_rfl) ?_;cbv;refine pr Lx .disable (by kernel_rfl) ?_;cbv;rw[ai A];refine FC V6 (by kernel_rfl) q (fun c e h1 e1 e2=>?_);have hu:Up h b o (.int .i32 0) h1:=⟨c,e,e1,e2⟩;cbv;refine aQ (fun hc=>?_) (fun hc=>?_)
 ·rw[hA.aG]at hc;cases hc
 cbv;refine pr Lw .enable (by kernel_rfl) ?_;cbv;exact⟨rfl,hu⟩
theorem uS{h:ad}{b o:Nat}(q:mM h ⟨b,o,none⟩ (.int .i32 1)):CtD 294 [.pointer (some ⟨b,o,none⟩)] h (fun v h'=>v=.tuple #[]/\Up h b o (.int .i32 0) h'):=by obtain⟨A,hA⟩:=Ar.ex;refine pk A (ar T294.aA T294.bm) Tryz.func294 rfl (by kernel_rfl) ?_;cbv;rw[ai A];refine(Gg q).mono (fun v h1 hR=>?_);obtain⟨rfl,hu⟩:=hR;cbv;exact⟨rfl,hu⟩
theorem pg{h:ad}{b o:Nat}{x:Int}(q:mM h ⟨b,o,none⟩ (.int .u32 x)):Ct 258 [.pointer (some ⟨b,o,none⟩)] h (fun v h'=>∃t,v=.bool t/\t=decide (x≠0)/\h'=h):=by obtain⟨A,hA⟩:=Ar.ex;refine ah A (ar T258.aA T258.bm) Tryz.func258 rfl (by kernel_rfl) ?_;cbv;rw[ai A];refine Lv We (by kernel_rfl) q ?_;cbv;refine⟨_,rfl,?_,rfl⟩;rw[hA.aG];simp[aG];rfl
theorem b32(h:ad):Ct 322 [.bool true] h (fun v h'=>v=.int .u32 1/\h'=h):=by obtain⟨A,hA⟩:=Ar.ex;refine ah A (ar T322.aA T322.bm) Tryz.func322 rfl (by kernel_rfl) ?_;cbv
theorem x8{h:ad}{b o:Nat}{x:Value}(q:mM h ⟨b,o,none⟩ x):CtD 295 [.pointer (some ⟨b,o,none⟩),.bool true] h (fun v h'=>v=.tuple #[]/\Up h b o (.int .u32 1) h'):=by obtain⟨A,hA⟩:=Ar.ex;refine pk A (ar T295.aA T295.bm) Tryz.func295 rfl (by kernel_rfl) ?_;cbv;refine(b32 h).mono (fun v h1 hR=>?_);obtain⟨rfl,rfl⟩:=hR;cbv;rw[ai A];refine HB Wb (by kernel_rfl) q (fun c e h1 e1 e2=>?_);have hu:Up _ b o (.int .u32 1) h1:=⟨c,e,e1,e2⟩;cbv;exact⟨rfl,hu⟩
theorem Dg{h:ad}{b o:Nat}{a1 a2:Addr}{Q:ad->Prop}(q0:mM h ⟨b,o,none⟩ (.int .u32 0))(q1:mM h ⟨b,o+1,none⟩ (.int .i32 0))
 (Wu:∀h1,Up h b (o+1) (.int .i32 1) h1->Ct 201 [.pointer (some a1),.pointer (some a2)] h1 (fun v h2=>v=.tuple #[]/\mM h2 ⟨b,o,none⟩ (.int .u32 0)/\mM h2 ⟨b,o+1,none⟩ (.int .i32 1)/\Q h2)):
 Ct 259 [.pointer (some ⟨b,o,none⟩),.func (.func 201) #[] #[.pointer (some a1),.pointer (some a2)]] h (fun v h'=>v=.tuple #[]/\∃h2 h3,Q h2/\Up h2 b o (.int .u32 1) h3/\Up h3 b (o+1) (.int .i32 0) h'):=by
 obtain⟨A,hA⟩:=Ar.ex;refine ju A (ar Qm.aA Qm.bm) Tryz.func259 rfl (by kernel_rfl) ?_;cbv;rw[ai A];refine(E7 q1).mono (fun v h1 hR=>?_);obtain⟨rfl,hu⟩:=hR;have q0':=hu.other (by omega) q0;cbv;rw[ai A];rw[ai A];refine(pg q0').mono (fun v h2 hR=>?_);obtain⟨t,rfl,ht,rfl⟩:=hR;have ht:t=false:=by rw[ht];rfl
 subst ht;cbv;rw[hA.not];cbv;rw[ai A];refine(Wu _ hu).mono (fun v h2 hR=>?_);obtain⟨rfl,c0,c1,hQ⟩:=hR;cbv;refine(x8 c0).mono (fun v h3 hR=>?_);obtain⟨-,UE⟩:=hR;have RZ:=UE.other (by omega) c1;cbv;refine(uS RZ).mono (fun v h4 hR=>?_);obtain⟨-,hu4⟩:=hR;cbv;exact⟨rfl,h2,h3,hQ,UE,hu4⟩
theorem PK{h:ad}{b o:Nat}{a1 a2:Addr}{Q:ad->Prop}(q0:mM h ⟨b,o,none⟩ (.int .u32 0))(q1:mM h ⟨b,o+1,none⟩ (.int .i32 0))
 (Wu:∀h1,Up h b (o+1) (.int .i32 1) h1->Ct 201 [.pointer (some a1),.pointer (some a2)] h1 (fun v h2=>v=.tuple #[]/\mM h2 ⟨b,o,none⟩ (.int .u32 0)/\mM h2 ⟨b,o+1,none⟩ (.int .i32 1)/\Q h2)):
 Ct 200 [.pointer (some ⟨b,o,none⟩),.func (.func 201) #[] #[.pointer (some a1),.pointer (some a2)]] h (fun v h'=>v=.tuple #[]/\∃h2 h3,Q h2/\Up h2 b o (.int .u32 1) h3/\Up h3 b (o+1) (.int .i32 0) h'):=by
 obtain⟨A,hA⟩:=Ar.ex;refine ah A (ar CH.aA CH.bm) Tryz.func200 rfl (by kernel_rfl) ?_;cbv;rw[ai A];refine(pg q0).mono (fun v h2 hR=>?_);obtain⟨t,rfl,ht,rfl⟩:=hR;have ht:t=false:=by rw[ht];rfl
 subst ht;cbv;rw[hA.not];cbv;refine(Dg q0 q1 Wu).mono (fun v h2 hR=>?_);obtain⟨rfl,hR⟩:=hR;cbv;exact⟨rfl,hR⟩
theorem LI{h:ad}{b o:Nat}{a1 a2:Addr}(q0:mM h ⟨b,o,none⟩ (.int .u32 1)):
 Ct 200 [.pointer (some ⟨b,o,none⟩),.func (.func 201) #[] #[.pointer (some a1),.pointer (some a2)]] h (fun v h'=>v=.tuple #[]/\h'=h):=by
 obtain⟨A,hA⟩:=Ar.ex;refine ah A (ar CH.aA CH.bm) Tryz.func200 rfl (by kernel_rfl) ?_;cbv;rw[ai A];refine(pg q0).mono (fun v h2 hR=>?_);obtain⟨t,rfl,ht,rfl⟩:=hR;have ht:t=true:=by rw[ht];rfl
 subst ht;cbv;rw[hA.not];cbv;exact⟨rfl,True.intro⟩
theorem Be{h:ad}{b o:Nat}{a1:Addr}{Q:ad->Prop}(q0:mM h ⟨b,o,none⟩ (.int .u32 0))(q1:mM h ⟨b,o+1,none⟩ (.int .i32 0))
 (Wu:∀h1,Up h b (o+1) (.int .i32 1) h1->Ct 238 [.pointer (some a1)] h1 (fun v h2=>v=.tuple #[]/\mM h2 ⟨b,o,none⟩ (.int .u32 0)/\mM h2 ⟨b,o+1,none⟩ (.int .i32 1)/\Q h2)):
 Ct 259 [.pointer (some ⟨b,o,none⟩),.func (.func 238) #[.pointer (some a1)] #[]] h (fun v h'=>v=.tuple #[]/\∃h2 h3,Q h2/\Up h2 b o (.int .u32 1) h3/\Up h3 b (o+1) (.int .i32 0) h'):=by
 obtain⟨A,hA⟩:=Ar.ex;refine ju A (ar Qm.aA Qm.bm) Tryz.func259 rfl (by kernel_rfl) ?_;cbv;rw[ai A];refine(E7 q1).mono (fun v h1 hR=>?_);obtain⟨rfl,hu⟩:=hR;have q0':=hu.other (by omega) q0;cbv;rw[ai A];rw[ai A];refine(pg q0').mono (fun v h2 hR=>?_);obtain⟨t,rfl,ht,rfl⟩:=hR;have ht:t=false:=by rw[ht];rfl
 subst ht;cbv;rw[hA.not];cbv;rw[ai A];refine(Wu _ hu).mono (fun v h2 hR=>?_);obtain⟨rfl,c0,c1,hQ⟩:=hR;cbv;refine(x8 c0).mono (fun v h3 hR=>?_);obtain⟨-,UE⟩:=hR;have RZ:=UE.other (by omega) c1;cbv;refine(uS RZ).mono (fun v h4 hR=>?_);obtain⟨-,hu4⟩:=hR;cbv;exact⟨rfl,h2,h3,hQ,UE,hu4⟩
theorem LH{h:ad}{b o:Nat}{a1:Addr}{Q:ad->Prop}(q0:mM h ⟨b,o,none⟩ (.int .u32 0))(q1:mM h ⟨b,o+1,none⟩ (.int .i32 0))
 (Wu:∀h1,Up h b (o+1) (.int .i32 1) h1->Ct 238 [.pointer (some a1)] h1 (fun v h2=>v=.tuple #[]/\mM h2 ⟨b,o,none⟩ (.int .u32 0)/\mM h2 ⟨b,o+1,none⟩ (.int .i32 1)/\Q h2)):
 Ct 200 [.pointer (some ⟨b,o,none⟩),.func (.func 238) #[.pointer (some a1)] #[]] h (fun v h'=>v=.tuple #[]/\∃h2 h3,Q h2/\Up h2 b o (.int .u32 1) h3/\Up h3 b (o+1) (.int .i32 0) h'):=by
 obtain⟨A,hA⟩:=Ar.ex;refine ah A (ar CH.aA CH.bm) Tryz.func200 rfl (by kernel_rfl) ?_;cbv;rw[ai A];refine(pg q0).mono (fun v h2 hR=>?_);obtain⟨t,rfl,ht,rfl⟩:=hR;have ht:t=false:=by rw[ht];rfl
 subst ht;cbv;rw[hA.not];cbv;refine(Be q0 q1 Wu).mono (fun v h2 hR=>?_);obtain⟨rfl,hR⟩:=hR;cbv;exact⟨rfl,hR⟩
theorem HF{h:ad}{b o:Nat}{a1:Addr}(q0:mM h ⟨b,o,none⟩ (.int .u32 1)):
 Ct 200 [.pointer (some ⟨b,o,none⟩),.func (.func 238) #[.pointer (some a1)] #[]] h (fun v h'=>v=.tuple #[]/\h'=h):=by
 obtain⟨A,hA⟩:=Ar.ex;refine ah A (ar CH.aA CH.bm) Tryz.func200 rfl (by kernel_rfl) ?_;cbv;rw[ai A];refine(pg q0).mono (fun v h2 hR=>?_);obtain⟨t,rfl,ht,rfl⟩:=hR;have ht:t=true:=by rw[ht];rfl
 subst ht;cbv;rw[hA.not];cbv;exact⟨rfl,True.intro⟩
theorem V5{h:ad}{b3 b2 c:Nat}{x:Int}{t1 t2 e1 e2:Nat}{s1 s2 s3 s4 o1 o2 o3 y:Value}(g3:h b3=some (.cells #[.int .i64 x] t1 (e1,e2)))(g2:h b2=some (.cells #[.pointer (some ⟨c,0,none⟩)] t2 (0,0)))
 (gc:h c=some (.cells #[s1,s2,s3,s4,o1,o2,o3,y] 128 (0,0))):
 Ct 201 [.pointer (some ⟨b3,0,none⟩),.pointer (some ⟨b2,0,none⟩)] h (fun v h'=>v=.tuple #[]/\h'=bp h c (.cells #[s1,s2,s3,s4,o1,o2,o3,.int .i64 x] 128 (0,0))):=by
 obtain⟨A,hA⟩:=Ar.ex;refine ah A (ar T201.aA T201.bm) Tryz.func201 rfl (by kernel_rfl) ?_;cbv;refine av g2 rfl rfl ?_;cbv;refine av g3 rfl rfl ?_;cbv;rw[ai A];refine jz gc (by simp) (fun h' hh=>?_);cbv;exact⟨rfl,hh⟩
theorem Up.exp{h h':ad}{b o e:Nat}{x:Value}{c:List Value}(u:Up h b o x h')(g:h b=some (.cells (List.toArray c) e (0,0))):h'=bp h b (.cells (List.toArray (c.set o x)) e (0,0)):=by obtain⟨c',e',g',rfl⟩:=u.out;rw[g]at g';cases g';simp
theorem iW{h:ad}{b o e:Nat}{c:List Value}{x:Value}(g:h b=some (.cells (List.toArray c) e (0,0)))(hx:c[o]? =some x):mM h ⟨b,o,none⟩ x:=⟨rfl,_,e,g,by simpa using hx⟩
theorem Ap{h:ad}{c tb wb ct cw:Nat}{T:List cE}{W:List (dO×Bool)}{H Wt:List bZ}{e x:Int}(q:jh h c tb wb ct cw T W H Wt e)(ht:c≠tb)(hw:c≠wb):
 Ct 104 [.pointer (some ⟨c,0,none⟩),.int .i64 x] h (fun v h'=>v=.tuple #[]/\Kp [c] h h'/\jh h' c tb wb ct cw T W H Wt (if e=0 then x else e)):=by
 obtain⟨A,hA⟩:=Ar.ex;obtain⟨n1,n2,b3,n3,c3,b4,n4,c4,o,gc,ho,q1,q2,q3,q4,q5,q6⟩:=q.out;refine ah A (ar T104.aA T104.bm) Tryz.func104 rfl (by kernel_rfl) ?_;cbv;intro p2 h1 DW e1;cbv;intro p3 h2 UO e2;have l1:Le h h1:=by rw[e1];exact Le.set DW
 have l2:Le h1 h2:=by rw[e2];exact Le.set UO
 have g3:h2 p3=some (.cells #[.int .i64 x] 35 (0,0)):=by rw[e2];exact af
 have g2:h2 p2=some (.cells #[.pointer (some ⟨c,0,none⟩)] 109 (0,0)):=l2 _ _ (by rw[e1];exact af);have q':=q.mono (l1.trans l2);have VN:=(l1.trans l2) _ _ gc;have n2c:p2≠c:=fun e=>by rw[e,gc]at DW;cases DW
 have n3c:p3≠c:=fun e=>by rw[e,l1 _ _ gc]at UO;cases UO
 cbv;refine av g3 rfl rfl ?_;cbv;refine aQ (fun hc=>?_) (fun hc=>?_)
 ·have hx:x≠0:=by intro e;rw[hA.aG,e]at hc;cases hc
  clear hc;cbv;refine av g2 rfl rfl ?_;cbv;rw[ai A];rcases ho with ⟨rfl,rfl⟩ | ⟨rfl,he⟩
  ·refine(PK (a1:=⟨p3,0,none⟩) (a2:=⟨p2,0,none⟩) (Q:=fun hq=>hq=bp h2 c (.cells (List.toArray [.slice (some ⟨tb,0,none⟩) n1 ct,.slice (some ⟨wb,0,none⟩) n2 cw,.slice b3 n3 c3,.slice b4 n4 c4,.int .u32 0,.int .i32 1,.int .u32 0,.int .i64 x]) 128 (0,0)))
    (iW VN rfl) (iW VN rfl) (fun h3 hu=>?_)).mono (fun v h4 hR=>?_)
   ·have e3:=hu.exp VN;have Nf:h3 p3=some (.cells #[.int .i64 x] 35 (0,0)):=by rw[e3,aP n3c];exact g3
    have Ix:h3 p2=some (.cells #[.pointer (some ⟨c,0,none⟩)] 109 (0,0)):=by rw[e3,aP n2c];exact g2
    have gc3:h3 c=some (.cells (List.toArray [.slice (some ⟨tb,0,none⟩) n1 ct,.slice (some ⟨wb,0,none⟩) n2 cw,.slice b3 n3 c3,.slice b4 n4 c4,.int .u32 0,.int .i32 1,.int .u32 0,.int .i64 0]) 128 (0,0)):=by rw[e3];exact af
    refine(V5 Nf Ix gc3).mono (fun v h4 hR=>?_);obtain⟨rfl,rfl⟩:=hR;exact⟨rfl,iW af rfl,iW af rfl,by rw[e3,jr]⟩
   ·obtain⟨rfl,h5,h6,rfl,u5,u6⟩:=hR;have e6:=u5.exp af;rw[jr]at e6;have g6:=(congrFun e6 c).trans af;have e4:=u6.exp g6;rw[e6,jr]at e4;cbv;have kp:Kp [c] h2 h4:=by rw[e4];exact Kp.set (by simp)
    have lt:∀tys,128∉tys->cF tys h2 h4:=fun tys hn=>by rw[e4];exact cF.set VN hn
    refine⟨rfl,((l1.trans l2).kp _).trans kp,n1,n2,b3,n3,c3,b4,n4,c4,1,?_,.inr ⟨rfl,?_⟩,q1,?_,q3,?_,?_,?_⟩
    ·rw[e4];exact af
    ·exact hx
    ·exact q2.mono (((l1.trans l2).t _).trans (lt _ (by decide)))
    ·exact q4.mono (((l1.trans l2).t _).trans (lt _ (by decide)))
    ·exact q5.mono (((l1.trans l2).t _).trans (lt _ (by decide)))
    ·exact q6.mono (((l1.trans l2).t _).trans (lt _ (by decide)))
  ·refine(LI (a1:=⟨p3,0,none⟩) (a2:=⟨p2,0,none⟩) (iW VN rfl)).mono (fun v h4 hR=>?_);obtain⟨rfl,rfl⟩:=hR;cbv;refine⟨rfl,(l1.trans l2).kp _,?_⟩;rw[if_neg he];exact q'
 ·have hx:x=0:=by rw[hA.aG]at hc;simpa[aG]using hc
  cbv;refine⟨rfl,(l1.trans l2).kp _,?_⟩;subst hx;have:(if e=0 then 0 else e)=e:=by split<;>simp_all
  rw[this];exact q'
def cB:Sh ByteArray where
 n:=1
 R _ cs v:=cs=[.string v]
 len:=by rintro h cs x rfl;rfl
 one:=by rintro h cs x rfl;rfl
 tys:=[]
 mono:=fun _ q=>q
def eZ:List ByteArray:=[⟨#[97,110,100]⟩,⟨#[98,101,103,105,110]⟩,⟨#[98,111,111,108]⟩,⟨#[98,121]⟩,⟨#[99,111,109,109,105,116]⟩,⟨#[99,111,117,110,116]⟩,⟨#[99,114,101,97,116,101]⟩,⟨#[100,101,108,101,116,101]⟩,⟨#[100,101,115,99]⟩,⟨#[100,114,111,112]⟩,⟨#[102,97,108,115,101]⟩,⟨#[102,114,111,109]⟩,⟨#[103,114,111,117,112]⟩,⟨#[105,110,115,101,114,116]⟩,⟨#[105,110,116]⟩,⟨#[105,110,116,111]⟩,⟨#[105,115]⟩,⟨#[106,111,105,110]⟩,⟨#[107,101,121]⟩,⟨#[108,105,109,105,116]⟩,⟨#[109,97,120]⟩,⟨#[109,105,110]⟩,⟨#[110,111,116]⟩,⟨#[110,117,108,108]⟩,⟨#[111,110]⟩,⟨#[111,110,108,121]⟩,⟨#[111,114]⟩,⟨#[111,114,100,101,114]⟩,⟨#[112,114,105,109,97,114,121]⟩,⟨#[114,111,108,108,98,97,99,107]⟩,⟨#[115,97,118,101,112,111,105,110,116]⟩,⟨#[115,101,108,101,99,116]⟩,⟨#[115,101,116]⟩,⟨#[115,117,109]⟩,⟨#[116,97,98,108,101]⟩,⟨#[116,101,120,116]⟩,⟨#[116,111]⟩,⟨#[116,114,117,101]⟩,⟨#[117,112,100,97,116,101]⟩,⟨#[118,97,108,117,101,115]⟩,⟨#[119,104,101,114,101]⟩]
theorem BD:eZ.Nodup:=by decide
theorem Oo(h:ad):Ct 274 [] h (fun v h'=>Le h h'/\∃nb,v=.slice (some ⟨nb,0,none⟩) 41 41/\Sl 9 cB h' v eZ):=by
 obtain⟨A,hA⟩:=Ar.ex;refine ah A (ar T274.aA T274.bm) Tryz.func274 rfl (by kernel_rfl) ?_;cbv;intro n h1 hn e1;have g:h1 n=some (.cells (List.toArray (eZ.map Value.string)) 9 (0,0)):=by rw[e1];exact af
 have hr:Sx.Rows cB h1 (eZ.map Value.string) 0 eZ:=by refine⟨by decide,fun i x hx=>?_⟩;have aK:=(List.getElem?_eq_some_iff.1 hx).1;show List.take 1 (List.drop (0+i*1) _)=_;rw[Nat.zero_add,Nat.mul_one,List.drop_eq_getElem_cons (by simpa using aK)];rw[List.getElem?_eq_some_iff]at hx;simp[hx.2]
 have hs:Sl 9 cB h1 (.slice (some ⟨n,0,none⟩) 41 41) eZ:=Sl.fresh (xs:=eZ) g hr (by decide) (by decide);have hl:Le h h1:=by rw[e1];exact Le.set hn
 clear g hr e1;cbv;exact⟨hl,n,rfl,hs⟩
theorem Sd:Tryz.prog.underlying 248=some (.map 9 4):=by kernel_rfl
theorem u9:Tryz.prog.underlying 9=some .string:=by kernel_rfl
def sD(l:List ByteArray):List (Value×Value):=l.map fun w=>(.string w,.bool true)
theorem Kp.new{bs:List Nat}{h h1 h2:ad}{m:Nat}(x:Kp bs h h1)(hm:h m=none)(y:Kp (m::bs) h1 h2):Kp bs h h2:=fun b o q hb=>
 y b o (x b o q hb) (by
  intro hc;rcases List.mem_cons.1 hc with e|e
  ·rw[e,hm]at q;cases q
  ·exact hb e)
theorem N1{h:ad}{sp:Nat}{o1 o2 o3 mv:Value}(XE:h sp=some (.cells #[o1,o2,o3,mv] 250 (0,0))):
 Ct 238 [.pointer (some ⟨sp,0,none⟩)] h (fun v h'=>v=.tuple #[]/\Kp [sp] h h'/\∃m,h m=none/\h' sp=some (.cells #[o1,o2,o3,.map (some m)] 250 (0,0))/\Mp h' m .string (sD eZ)):=by
 obtain⟨A,hA⟩:=Ar.ex;refine ah A (ar T238.aA T238.bm) Tryz.func238 rfl (by kernel_rfl) ?_;cbv;intro m h1 hm e1;have l1:Le h h1:=by rw[e1];exact Le.set hm
 have bW:m≠sp:=fun e=>by rw[e,XE]at hm;cases hm
 have mp1:Mp h1 m .string []:=Mp.new (by rw[e1];exact af);cbv;rw[ai A];refine jz (l1 _ _ XE) (by simp) (fun h2 e2=>?_);have k2:Kp [sp] h1 h2:=by rw[e2];exact Kp.set (by simp)
 have g2:h2 sp=some (.cells #[o1,o2,o3,.map (some m)] 250 (0,0)):=by rw[e2];exact af
 have DA:=mp1.kp k2 (by simpa using bW);cbv;refine(Oo h2).mono (fun v h3 hR=>?_);obtain⟨l3,nb,rfl,hs⟩:=hR;have Tr:=DA.kp (l3.kp []) (by simp);have k3:Kp [sp] h h3:=((l1.kp _).trans k2).trans (l3.kp _);have g3:=l3 _ _ g2;have hlen:eZ.length=41:=rfl;cbv;refine aX.go (G:=Int) (fun z=>[(10,.v (.int .i64 z))]) (fun _=>[]) (fun n z h'=>∃i:Nat,aS z i/\n=41-i/\i<=41/\Kp [sp] h h'/\h' sp=some (.cells #[o1,o2,o3,.map (some m)] 250 (0,0))/\Mp h' m .string (sD (eZ.take i))/\Sl 9 cB h' (.slice (some ⟨nb,0,none⟩) 41 41) eZ) 41 0 ⟨?_,?_,?_⟩ ⟨0,⟨rfl⟩,rfl,by decide,k3,g3,Tr,hs⟩ ?_
 ·cbv
 ·cbv
 ·cbv
 ·intro n z h' hI;cbv;obtain⟨i,hz,hn,hi,k',g',mp',KO⟩:=hI;refine aQ (fun hc=>?_) (fun hc=>?_)
  ·have aK:=hz.lt (A:=A) (len:=41) hc;clear hc;cbv;obtain⟨x,hx⟩:=aI (xs:=eZ) (i:=i) (by rw[hlen];exact aK);refine⟨⟨rfl,hz.ix aK⟩,?_⟩;cbv;refine KO.load hx hz.eq (fun cs aC=>?_);have aC:cs=[.string x]:=aC;subst aC;cbv;rw[ai A];refine av g' rfl rfl ?_;cbv;refine mR Sd u9 mp' (key:=.string x) True.intro ?_ (fun h4 GN k4 t4=>?_)
   ·intro p hp e;obtain⟨w,hw,rfl⟩:=List.mem_map.1 hp;cases e;obtain⟨j,hj⟩:=List.getElem?_of_mem hw;rw[List.getElem?_take]at hj;split at hj
    ·rename_i jQ;have h5:=List.getElem?_eq_some_iff.1 hj;have h6:=List.getElem?_eq_some_iff.1 hx;have:=List.pairwise_iff_getElem.1 BD j i h5.1 h6.1 jQ;rw[h5.2,h6.2]at this;exact this rfl
    ·cases hj
   cbv;refine⟨41-(i+1),_,by omega,⟨?_,?_,?_⟩,i+1,hz.succ (A:=A) (by omega),rfl,by omega,Kp.new k' hm (k4.sub (by simp)),k4 _ _ g' (by simpa using fun e=>bW (Eq.symm e)),?_,KO.mono (t4 _)⟩
   ·cbv
   ·cbv
   ·cbv
   ·rw[List.take_add_one,hx];simpa[sD]using GN
  ·have iR:=hz.ge (A:=A) (len:=41) hc;cbv;have:i=41:=by omega
   subst this;exact⟨rfl,k',m,hm,g',mp'⟩
end Go.S
