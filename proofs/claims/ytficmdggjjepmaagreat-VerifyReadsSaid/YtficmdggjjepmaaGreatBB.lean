import Derived.Test.YtficmdggjjepmaaGreatBA
import Derived.Test.YtficmdggjjepmaaGreatSxC
set_option linter.all false
set_option maxRecDepth 100000
set_option maxHeartbeats 8000000
namespace Go.S
open Go.Sx Go.Proofs
variable {a:Type}{c:Array Value}{D:Dk}{z:Int}{xs:List a}{i m n p:Nat}{fr:Nat×Nat}{b:Option Addr}{s:Sh a}{k:Value->ab->Prop}{h:ab}
theorem xR(h:ab):iC.R h (List.replicate 64 (.int .u8 0)) yL:=⟨rfl,rfl⟩
def wh(n:Nat):Dk:=⟨0,false,List.replicate n yL,List.replicate n yL,[]⟩
theorem aKN(r:aM z n)(b:2<=n)(y:n<=4096)
 (w:∀h' p,h p=none->Le h h'->kf h' p (wh n)->k (.tuple #[.pointer (some ⟨p,0,none⟩),.int .i64 0]) h'):
 Ct 7 [.int .i64 z] h k:=by
 obtain⟨A,v⟩:=Ar.ex;have t:A .az .lss z 2=false:=by rw[aJ A,r.eq];exact ag (by omega)
 have u:A .az .gtr z 4096=false:=by rw[aO A,r.eq];exact ag (by omega)
 have G:z=A .nat n:=by rw[v.nat];exact r.eq
 have fin:∀(c b:ab) (d q:Nat) (a:ab) (p:Nat),h d=none\/c d=none->Le h c->Le c b->cM 135 iC b d n (List.replicate n yL)->cM 135 iC b q n (List.replicate n yL)->d≠q->b p=none->a=bH b p (.cells (List.toArray [.int .i64 0,.int .u32 0,.slice (some ⟨d,0,none⟩) n n,.slice (some ⟨q,0,none⟩) n n,.slice none 0 0]) 120 (0,0))->
  k (.tuple #[.pointer (some ⟨p,0,none⟩),.int .i64 0]) a:=λc b d q a p _ i l o1 o2 m g f=>by
  have s:Le b a:=by rw[f];exact Le.set g
  refine w a p ((i.trans l).none g) ((i.trans l).trans s) ⟨d,q,none,0,0,0,?_,?_,?_,?_,m,rfl,aT.nil,?_⟩
  .rw[f,ae];simp only[wh,hJD]
  .simp only[wh,hJD];exact o1.mono (s.t _)
  .simp only[wh,hJD];exact o2.mono (s.t _)
  .simp only[wh]
  simp only[wh,hJD];exact y
 refine dH T7 A Tryz.func7 ?_;cbv;rw[t];cbv;rw[u];cbv;rw[G];refine⟨?_,?_⟩
 .refine jM (x:=yL) xR (by omega) (by decide) (λj c L i o1=>?_);cbv;refine jM (x:=yL) xR (by omega) (by decide) (λo b E l o2=>?_);have m:j≠o:=λe=>by rw[<-e]at E;exact o1.has E
  have fin:=λa p=>fin c b j o a p (.inl L) i l (o1.mono (l.t _)) o2 m;cbv;intro p a g f;cbv;exact fin a p g f
 refine jM (x:=yL) xR (by omega) (by decide) (λj c L i o1=>?_);cbv;refine jM (x:=yL) xR (by omega) (by decide) (λo b E l o2=>?_);have m:o≠j:=λe=>by rw[e]at E;exact o1.has E
 have fin:=λa p=>fin c b o j a p (.inr E) i l o2 (o1.mono (l.t _)) m;cbv;intro p a g f;cbv;exact fin a p g f
theorem cQU{h':ab}{l:Nat}{e:Nat}(g:h l=some (.cells c e fr))(q:Le (Sx.eS h l) h'){ex:List Nat}(d:e∈ex):cY ex h h':=λb o a m=>by
 have F:b≠l:=λe1=>by rw[e1,g]at a;cases a;exact m _ _ _ rfl d
 exact q b o (by rw[Sx.jS F];exact a)
def bN(D:Dk):Bs:=(D.now.drop 1).flatten
theorem kf.pg(q:kf h p D){b:Bs}(e:D.now[i]? =some b):b.length=64:=by obtain⟨n,o,wb,r,wc,d,g,o1,o2,e1,f,j,w,k⟩:=q.out;obtain⟨c,l,a,m⟩:=o2.out;exact(a.2 i b e).2
theorem mV{L:List Bs}(h:∀b∈L,b.length=64):L.flatten.length=64*L.length:=by
 induction L with
 |nil=>rfl
 |cons x r i=>rw[hKm,dr,h x (by simp),i (λb a=>h b (by simp[a])),hJB];omega
theorem kf.max(q:kf h p D):D.now.length<=4096:=by obtain⟨k,n,wb,c,wc,d,g,o1,o2,e1,a,b,w,e⟩:=q.out;exact e
theorem aXI{l:Nat}(q:kf h p D)(hd:D.dead=false)(g:h l=some (.cells (List.toArray [.pointer (some ⟨p,0,none⟩),.int .u32 0,.int .i32 1,.int .u32 0,.slice none 0 0,.int .i64 0]) 265 (0,0)))(hP:1<=D.now.length)
 (hk:∀h' b m c,cY [265] h h'->h' l=some (.cells (List.toArray [.pointer (some ⟨p,0,none⟩),.int .u32 0,.int .i32 1,.int .u32 0,.slice b m c,.int .i64 0]) 265 (0,0))->Sl 5 bS h' (.slice b m c) (bN D)->k (.tuple #[]) h'):
 Ct 197 [.pointer (some ⟨l,0,none⟩)] h k:=by
 have QS:=q.max;have s:∀b∈D.now,b.length=64:=λb hb=>by
  obtain⟨i,V⟩:=hJR.1 hb;exact q.pg V
 obtain⟨P,C⟩:∃P,P=D.now.length:=⟨_,rfl⟩;obtain⟨J,X⟩:∃J:Nat->Int->ab->Prop,∀w z h',J w z h'=(∃i b m c,aM z (i+1)/\i+1<=P/\w=P-i/\(m=0->b=none)/\Le (Sx.eS h l) h'/\h' l=some (.cells (List.toArray [.pointer (some ⟨p,0,none⟩),.int .u32 0,.int .i32 1,.int .u32 0,.slice b m c,.int .i64 0]) 265 (0,0))/\
  aT 5 bS (Sx.eS h l) h' (.slice b m c) (((D.now.drop 1).take i).flatten)):=⟨_,λ_ _ _=>rfl⟩
 have y:J P 1 h:=by rw[X];exact⟨0,none,0,0,⟨rfl⟩,by omega,by omega,λ_=>rfl,Sx.nC _ _,g,aT.nil⟩
 refine cp cJt Tryz.func197 λA hA=>?_;cbv;refine aK.go (G:=Int) (λz=>[(2,.v (.int .i64 z))]) (λ_=>[]) (λw z h'=>J w z h') P 1 (by constructor<;>cbv) y ?_
 intro w z h1 U;rw[X]at U;cbv;obtain⟨i,b,m,c,n,V,hw,K,Y,f,L⟩:=U;have Q:=cQU g Y (ex:=[265]) (by decide);have S:=q.lt (Q.t (by decide));have sQ:=L.sl.len;have O:(((D.now.drop 1).take i).flatten).length=64*i:=by rw[mV (λx hx=>s x (hJC (hKf hx))),dW,ec];congr 1;omega
 rw[O]at sQ;rw[ao A];refine bc f ?_;cbv;refine TE S (λzP r=>?_);have f1:A .az .lss z zP=decide (i+1<P):=by rw[C];exact n.pL r
 have t:i+1<P->dL D z 0=0:=λB=>by
  unfold dL;rw[hd];show(if _ then(1:Int)else 0)=0;rw[if_neg];have:=n.eq;rintro(ri|ri|ri)<;>omega
 have W:=n.succ (A:=A);have M:i+1<P->((D.now.drop 1).take (i+1)).flatten=((D.now.drop 1).take i).flatten++bQ D z:=λB=>by
  obtain⟨x,hx⟩:=di D.now (i+1);have e1:bQ D z=x:=by unfold bQ;rw[show z.toNat=i+1 by have:=n.eq;omega,hx];rfl
  rw[e1];exact eX (by rw[nM,hKe];exact hx)
 have F:∀h' a m' c',i+1<P->m'=m+64->Le (Sx.eS h l) h'->h' l=some (.cells (List.toArray [.pointer (some ⟨p,0,none⟩),.int .u32 0,.int .i32 1,.int .u32 0,.slice a m' c',.int .i64 0]) 265 (0,0))->aT 5 bS (Sx.eS h l) h' (.slice a m' c') (((D.now.drop 1).take i).flatten++bQ D z)->
  J (P-(i+1)) (A .aC .add .i64 z 1) h':=λh' a m' c' B R l' g' q'=>by
  rw[X];exact⟨i+1,a,m',c',W,by omega,rfl,λe=>absurd e (by omega),l',g',by rw[M B];exact q'⟩
 cbv;rw[f1];by_cases I:i+1<P
 .have t:=t I;rw[aH I];clear X y W M O;cbv;rw[ao A];refine bc f ?_;cbv;refine LH S z (λbm=>absurd t bm) (λ_ h2 b2 c2 H jt q2=>?_);have u:=H _ _ f;have Z:=L.mono (H.t _);have fe:A .az .neq 0 0=false:=by rw[av A];rfl
  generalize bQ D z=pg at *;cbv;rw[fe];cbv;rw[ao A];refine bc u ?_;cbv;refine Z.app q2.sl (by decide) rfl (by decide) (by omega) (Y.trans H) (λm' a c' h3 R l3 t3 k3 q3=>?_);have Fk:b≠some ⟨l,0,none⟩:=λe=>by
   rcases Z.out with⟨b0,e1,-⟩|⟨nb,cap,e1,e2,o⟩
   .injection e1 with e3 d e5
    rw[K d]at e;cases e
   cases e1;cases e;obtain⟨cc,N,-⟩:=o.out;rw[u]at N;cases N
  have T:=k3 _ _ u (.inr (.inl Fk));cbv;rw[ao A];refine iB T (by simp) (λv d=>?_);have l4:Le (Sx.eS h l) v:=λj o E=>by
   have pO:j≠l:=λe=>by rw[e,Sx.ju]at E;cases E
   rw[d,bU pO];exact l3 j o E
  have t4:cf [5] h3 v:=by rw[d];exact cf.set T (by decide)
  have g4:=(congrFun d l).trans ae;have dt:=F v a m' c' I R l4 g4 (q3.mono t4);clear F d;cbv;refine⟨P-(i+1),_,by omega,by constructor<;>cbv,dt⟩
 rw[ag I];have aD:((D.now.drop 1).take i).flatten=bN D:=by unfold bN;rw[hO (by rw[ec];omega)]
 have:=hk h1 b m c Q f (aD ▸ L.sl);clear X y W M O F;cbv;exact this
theorem _root_.Go.Sx.Sl.short{e:Nat}{c:Nat}(q:Sl e s h (.slice b n c) xs)(o:m<=n):Sl e s h (.slice b m c) (xs.take m):=by
 have hl:(xs.take m).length=m:=by rw[dW,<-q.len];omega
 obtain⟨j,cap,e1,k,l,d⟩:=q.out;cases e1;refine⟨b,c,by rw[hl],by rw[hl];omega,by rw[hl];omega,?_⟩;rcases d with rfl| ⟨dM,off,cc,fr,f,g,i⟩
 .exact .inl (by simp)
 exact .inr ⟨dM,off,cc,fr,f,g,i.take m⟩
theorem _root_.Go.Sx.Sl.aXF{A:Ar}[g:aV A]{e:Nat}{c:Nat}(q:Sl e s h (.slice b n c) xs)(f:aM z i)(j:i+m<=n){c':Nat}(d:c'=c-i):
 Sl e s h (.slice (A .cut b z (A .nat c) s.n) m c') ((xs.drop i).take m):=
 (q.gT (A:=A) f (by omega) rfl d).short (by omega)
theorem Sw{l:Nat}(q:kf h p D)(v:D.dead=false)(g:h l=some (.cells (List.toArray [.pointer (some ⟨p,0,none⟩),.int .u32 0,.int .i32 0,.int .u32 0,.slice none 0 0,.int .i64 0]) 265 (0,0)))(P:1<=D.now.length)
 (n:∀h' b m c,cY [265] h h'->Sl 5 bS h' (.slice b m c) (bN D)->k (.tuple #[.slice b m c,.int .i64 0]) h'):
 Ct 105 [.pointer (some ⟨l,0,none⟩)] h k:=by
 refine cp cKL Tryz.func105 λA z=>?_;cbv;rw[ao A];refine cQS (f:=197) (fl:=[.pointer (some ⟨l,0,none⟩)]) (cl:=[]) g rfl rfl (λu e1=>?_);have x:cY [265] h u:=by rw[e1];exact(Kp.set (bs:=[l]) (by simp)).x (λb a o d=>by simp at a;rw[a,g]at d;cases d;exact⟨_,_,_,rfl,by decide⟩)
 refine aXI (q.lt (x.t (by decide))) v ((congrFun e1 l).trans ae) P (λs b m c y r w=>?_);refine⟨rfl,_,r,rfl,rfl,?_⟩;generalize e:bH s l _=j;have e:=e.symm;have t:cY [265] s j:=by rw[e];exact(Kp.set (bs:=[l]) (by simp)).x (λb a o d=>by simp at a;rw[a,r]at d;cases d;exact⟨_,_,_,rfl,by decide⟩)
 have i:=(congrFun e l).trans ae;have i:j l=some (.cells (List.toArray [.pointer (some ⟨p,0,none⟩),.int .u32 1,.int .i32 0,.int .u32 0,.slice b m c,.int .i64 0]) 265 (0,0)):=i;have n:=n j b m c ((x.trans y).trans t) (w.mono (t.t (by decide)));clear e;cbv;rw[ao A];refine bc i ?_;cbv;rw[ao A];refine bc i ?_;cbv;exact n
def dv(b:Bs):Int:=IntKind.i64.wrap (mD (b.take 8):Int)
def dh(b:Bs):Nat->List Bs×Bs
 |0=>([],b)
 |m+1=>if 8<=b.length then if 0<=dv b/\dv b<=(b.length-8:Nat)then((b.drop 8).take (dv b).toNat::(dh (b.drop (8+(dv b).toNat)) m).1,(dh (b.drop (8+(dv b).toNat)) m).2)else([],b)else([],b)
abbrev me:Sh Bs:=sM 5 bS
theorem yX{xs:List Bs}{len cap:Nat}(q:Sl 35 me h (.slice b len cap) xs)
 (d:∀h' f c',Le h h'->aT 35 me h h' (.slice f len c') xs->k (.slice f len c') h'):
 Ct 199 [.slice b len cap] h k:=by
 refine cp cJr Tryz.func199 λA m=>?_;cbv;refine aL (λa=>?_) (λa=>?_)
 .rw[m.yw]at a;cbv;have n:b=none:=by cases b<;>simp at a |-
  subst n;have hl:len=0:=by
   rcases hJL len with e|e
   .exact e
   have:=q.aR e;cases this
  have:=q.len;have hx:xs=[]:=ee (by omega);subst hx hl;exact d _ _ _ (Le.refl _) aT.nil
 cbv;intro t j R r;have l:Le h j:=by rw[r];exact Le.set R
 cbv;refine jx (q.mono (l.t _)) rfl (by decide) (λo=>?_) (λu c s e1 p g i=>?_)
 .cbv;have:=q.len;have hx:xs=[]:=ee (by omega);subst hx o;exact d _ _ _ l aT.nil
 cbv;exact d _ _ _ (l.trans g) (i.buf (l.none e1) q.len)
theorem bZs(l:Bs)(hl:l.length=8):ar 8 (some l)=(mD l,some []):=by simp only[ar,dO];rw[if_pos (by omega),hO (by omega),wM (by omega)]
theorem cQW{bs:Bs}{c:Nat}(q:Sl 5 bS h (.slice b m c) bs)(hm:m<=2^30)(a:Int)
 (hk:∀h' y m1 f,Le h h'->Sl 35 me h' (.slice y m1 f) (dh bs a.toNat).1->k (.tuple #[.slice y m1 f,.bool (decide ((dh bs a.toNat).2=[]))]) h'):
 Ct 108 [.slice b m c,.int .i64 a] h k:=by
 have ai:=q.len;obtain⟨J,X⟩:∃J:Nat->((Option Addr×Nat×Nat)×Option Addr×Nat×Nat)->ab->Prop,∀w g h',J w g h'=(∃u L,w=g.1.2.1/\(L.length:Int)<=max a 0/\u.length+8*L.length<=bs.length/\Le h h'/\Sl 5 bS h' (.slice g.1.1 g.1.2.1 g.1.2.2) u/\
  aT 35 me h h' (.slice g.2.1 g.2.2.1 g.2.2.2) L/\dh bs a.toNat=(L++(dh u (a.toNat-L.length)).1,(dh u (a.toNat-L.length)).2)):=⟨_,λ_ _ _=>rfl⟩
 have hJ:J m ((b,m,c),none,0,0) h:=by rw[X];exact⟨bs,[],rfl,by simp only[hJE];omega,by simp,Le.refl _,q,aT.nil,rfl⟩
 refine cp cKI Tryz.func108 λA Q=>?_;cbv;refine aK.go (G:=(Option Addr×Nat×Nat)×Option Addr×Nat×Nat) (λg=>[(0,.v (.slice g.1.1 g.1.2.1 g.1.2.2)),(6,.v (.slice g.2.1 g.2.2.1 g.2.2.2))]) (λ_=>[]) (λw g h'=>J w g h') m ((b,m,c),none,0,0) (by constructor<;>cbv) hJ ?_
 intro w g O hI;rw[X]at hI;cbv;obtain⟨⟨gb,d,o⟩,ob,x,oc⟩:=g;obtain⟨u,L,hw,hr,an,l1,H,I,P⟩:=hI;have hw:w=d:=hw;have H:Sl 5 bS O (.slice gb d o) u:=H;have I:aT 35 me h O (.slice ob x oc) L:=I;have pW:=H.len;have iD:=H.bound;have ak:=I.sl.len;have f1:A .az .geq (A .nat d) 8=decide (8<=d):=by rw[cZ A,Q.nat];exact decide_eq_decide.2 (by rw[kH];omega)
 have f2:A .az .lss (A .nat x) a=decide ((x:Int)<a):=by rw[aJ A,Q.nat];rfl
 have fin:∀F,Le O F->(dh u (a.toNat-L.length))=([],u)->∀y f,aT 35 me O F (.slice y x f) L->∀t,t=decide (d=0)->k (.tuple #[.slice y x f,.bool t]) F:=λF W r y f q3 t ht=>by
  rw[r]at P;simp only[wS]at P;rw[P]at hk;have:=hk F y x f (l1.trans W) q3.sl;have e1:decide (u=[])=decide (d=0):=decide_eq_decide.2 (by rw[pW];exact iQY.symm);rw[ht,<-e1];exact this
 have U:A .az .eql (A .nat d) 0=decide (d=0):=by rw[aq A,Q.nat];exact decide_eq_decide.2 (by rw[kH];omega)
 rw[f1];by_cases f:8<=d
 .rw[aH f];cbv;rw[f2];by_cases c2:(x:Int)<a
  .rw[aH c2];obtain⟨j,hj⟩:∃j,a.toNat-L.length=j+1:=⟨a.toNat-L.length-1,by omega⟩;have R:dh u (a.toNat-L.length)=if 0<=dv u/\dv u<=(u.length-8:Nat)then((u.drop 8).take (dv u).toNat::(dh (u.drop (8+(dv u).toNat)) j).1,(dh (u.drop (8+(dv u).toNat)) j).2)else([],u):=by rw[hj];show(if 8<=u.length then _ else _)=_;rw[if_pos (by omega)]
   have Eo:ar 8 (some (u.take 8))=(mD (u.take 8),some []):=bZs _ (by rw[dW];omega);have kQ:(0:Int)<=8/\(8:Int)<=(o:Int):=by omega
   have d8:A .mW 8 0=8:=cQ ⟨rfl⟩;have t8:=H.pw (A:=A) (z:=A .nat o) (i:=8) f rfl;have RA:dv u<0->dh u (a.toNat-L.length)=([],u):=λhh=>by rw[R,if_neg (by omega)]
   have ZL:dv u>(d:Int)-8->dh u (a.toNat-L.length)=([],u):=λhh=>by rw[R,if_neg (by omega)]
   have K:¬dv u<0->¬dv u>(d:Int)-8->aM (dv u) (dv u).toNat/\8+(dv u).toNat<=d/\dh bs a.toNat=((L++[(u.drop 8).take (dv u).toNat])++(dh (u.drop (8+(dv u).toNat)) (a.toNat-(L.length+1))).1,(dh (u.drop (8+(dv u).toNat)) (a.toNat-(L.length+1))).2)/\((L.length+1:Nat):Int)<=max a 0/\u.length-(8+(dv u).toNat)+8*(L.length+1)<=bs.length:=λri aj=>by
    rw[if_pos (by omega)]at R;refine⟨⟨by omega⟩,by omega,?_,by omega,by omega⟩;rw[P,R,show a.toNat-(L.length+1)=j by omega,ym];rfl
   have hB:x+1<=2^39:=by omega
   clear hJ R P;cbv;refine⟨kQ,?_⟩;cbv;rw[d8];refine JZ t8 (λF p hp W r2=>?_);cbv;refine TK r2 (λh3 k3 r3=>?_);rw[Eo];have D:Le O h3:=W.aE (by simpa using hp) k3;have hz:IntKind.i64.wrap ((mD (u.take 8):Nat):Int)=dv u:=rfl;have Vd:=H.mono (D.t [5]);have Z:=I.mono (D.t [35,5]);clear Eo r3 r2 k3 t8 d8 kQ hp W;rw[show IntKind.i64.wrap (((mD (u.take 8),(some []:St)).1:Nat):Int)=dv u from rfl];generalize dv u=z at *;have f3:A .az .lss z 0=decide (z<0):=aJ A ..;have jg:A .aC .sub .i64 (A .nat d) 8=(d:Int)-8:=by rw[Q.aC,Q.nat];show IntKind.i64.wrap ((d:Int)-8)=_;rw[IntWalk.i64_in _ (by omega)]
   have T:A .az .gtr z (A .aC .sub .i64 (A .nat d) 8)=decide (z>(d:Int)-8):=by rw[jg];exact aO A ..
   by_cases M:z<0
   .have r:dh u (a.toNat-L.length)=([],u):=RA M;have fin:=λe l=>fin e (D.trans l) r;cbv;rw[f3,aH M];cbv;refine yX Z.sl (λe B C l v=>?_);cbv;rw[U];exact fin e l B C (v.base D) _ rfl
   by_cases S:z>(d:Int)-8
   .have r:dh u (a.toNat-L.length)=([],u):=ZL S;have fin:=λe l=>fin e (D.trans l) r;rw[aH S]at T;cbv;rw[f3,ag M];cbv;rw[T];cbv;refine yX Z.sl (λe B C l v=>?_);cbv;rw[U];exact fin e l B C (v.base D) _ rfl
   rw[ag S]at T;obtain⟨lG,Jk,P,Ji,jt⟩:=K M S;generalize z.toNat=n at *;have V:aM 8 8:=⟨rfl⟩;have N:aM (A .aC .add .i64 8 z) (8+n):=V.add (A:=A) lG (by omega);have jT:0<=A .aC .add .i64 8 z/\A .aC .add .i64 8 z<=(o:Int)/\0<=(8:Int)/\(8:Int)<=A .aC .add .i64 8 z:=by have:=N.eq;omega
   have BU:0<=A .aC .add .i64 8 z/\A .aC .add .i64 8 z<=(d:Int):=by have:=N.eq;omega
   have Ns:A .mW (A .aC .add .i64 8 z) 8=n:=by rw[EK (A:=A) N V];omega
   have Fm:A .mW (A .nat o) 8=o-8:=bZ (A:=A) V;have Ly:=bZ (A:=A) (n:=d) N;have Y:=bZ (A:=A) (n:=o) N;have tm:=Vd.aXF (A:=A) V (m:=n) (by omega) rfl;have td:=Vd.gT (A:=A) N (by omega) rfl rfl;have bF:∀h' m' E c',Le h h'->Sl 5 bS h' (.slice (A .cut gb (A .aC .add .i64 8 z) (A .nat o) 1) (d-(8+n)) (o-(8+n))) (u.drop (8+n))->aT 35 me h h' (.slice E m' c') (L++[(u.drop 8).take n])->
    J (d-(8+n)) ((A .cut gb (A .aC .add .i64 8 z) (A .nat o) 1,d-(8+n),o-(8+n)),E,m',c') h':=λh' m' E c' l' s' q'=>by
    rw[X];exact⟨_,_,rfl,by rw[dr];exact Ji,by rw[dr,ec];exact jt,l',s',q',by rw[dr];exact P⟩
   clear fin P hk X RA ZL K;cbv;rw[f3,ag M];cbv;rw[T];cbv;refine⟨jT,?_⟩;cbv;rw[Ns,Fm];refine Be tm (λh4 b4 pR l4 q4=>?_);cbv;intro n5 e yB e5;have l:Le h4 e:=by rw[e5];exact Le.set yB
   have v:Sl 35 me e (.slice (some ⟨n5,0,none⟩) 1 1) [(u.drop 8).take n]:=bC (s:=me) ((congrFun e5 n5).trans ae) ⟨_,rfl,q4.sl.mono (l.t _)⟩;clear e5;cbv;refine(Z.mono ((l4.trans l).t _)).app v (by decide) rfl (by decide) hB ((l1.trans D).trans (l4.trans l)) (λm' E c' h6 GR l6 t6 k6 q6=>?_);have dt:=bF h6 m' E c' l6 ((td.mono ((l4.trans l).t _)).mono (t6 _ (by decide))) q6;clear bF;cbv;refine⟨BU,?_⟩;cbv;rw[Ly,Y];refine⟨d-(8+n),((_,_,_),E,m',c'),by omega,by constructor<;>cbv,dt⟩
  rw[ag c2];have r:dh u (a.toNat-L.length)=([],u):=by rw[show a.toNat-L.length=0 by omega];rfl
  have fin:=λe l=>fin e l r;clear P;cbv;refine yX I.sl (λe B C l v=>?_);cbv;rw[U];exact fin e l B C v _ rfl
 rw[ag f];have r:dh u (a.toNat-L.length)=([],u):=by
  cases a.toNat-L.length with
  |zero=>rfl
  |succ j=>show(if 8<=u.length then _ else _)=_;rw[if_neg (by omega)]
 have fin:=λe l=>fin e l r;clear P;cbv;refine yX I.sl (λe B C l v=>?_);cbv;rw[U];exact fin e l B C v _ rfl
structure gQu where
 size:Int
 count:Int
 cL:List Bs
 bad:Bool
def mU(p:Bs):Int:=IntKind.i64.wrap (mD (p.take 8):Int)
def qS(D:Dk)(size count:Int):gQu:=
 if size<0\/count<0\/size>(bN D).length then⟨size,count,[],true⟩
 else⟨size,count,(dh ((bN D).take size.toNat) count.toNat).1,!decide ((dh ((bN D).take size.toNat) count.toNat).2=[])||decide (((dh ((bN D).take size.toNat) count.toNat).1.length:Int)≠count)⟩
def fU(D:Dk):gQu×Int:=if D.dead then(⟨0,0,[],true⟩,15)else(qS D (mU (bQ D 0)) (mU ((bQ D 0).drop 8)),0)
abbrev An:List Nat:=[265]
theorem Gf(q:kf h p D):(bN D).length<=2^18:=by
 unfold bN;rw[mV (λb a=>by
  obtain⟨i,c⟩:=hJR.1 (hJC a);exact q.pg c),ec]
 have:=q.max;omega
theorem YR(q:kf h p D)(hP:1<=D.now.length)
 (o:∀h' b m c F e,(F,e)=fU D->cY An h h'->Sl 35 me h' (.slice b m c) F.cL->k (.tuple #[.agg #[.int .i64 F.size,.int .i64 F.count,.slice b m c,.bool F.bad],.int .i64 e]) h'):
 Ct 103 [.pointer (some ⟨p,0,none⟩)] h k:=by
 obtain⟨A,P⟩:=Ar.ex;have N:A .az .neq 15 0=true:=by rw[av A];rfl
 have x:A .az .neq 0 0=false:=by rw[av A];rfl
 have J:dL D 0 0=if D.dead then 15 else 0:=by
  unfold dL;split
  .rfl
  rw[if_neg];rintro(hh|hh|hh)<;>omega
 have tV:=Gf q;have U:fU D=if D.dead then(⟨0,0,[],true⟩,15)else(qS D (mU (bQ D 0)) (mU ((bQ D 0).drop 8)),0):=rfl
 refine dH cKN A Tryz.func103 ?_;cbv;refine LH q 0 (λbm=>?_) (λH h1 b1 v l1 GM q1=>?_)
 .have O:D.dead=true:=by
   cases Q:D.dead with
   |true=>rfl
   |false=>rw[J,Q]at bm;exact absurd rfl bm
  have H:dL D 0 0=15:=by rw[J,O];rfl
  rw[O]at U;have:=o h none 0 0 _ _ U.symm (cY.refl _ _) Sl.nil;rw[H];clear U;cbv;rw[N];cbv;exact this
 have O:D.dead=false:=by
  cases Q:D.dead with
  |false=>rfl
  |true=>rw[J,Q]at H;cases H
 rw[O]at U;have U:fU D=(qS D (mU (bQ D 0)) (mU ((bQ D 0).drop 8)),0):=U;have M:ar 8 (some (bQ D 0))=(mD ((bQ D 0).take 8),some ((bQ D 0).drop 8)):=by simp only[ar,dO];rw[if_pos (by omega)]
 have eE:ar 8 (some ((bQ D 0).drop 8))=(mD (((bQ D 0).drop 8).take 8),some (((bQ D 0).drop 8).drop 8)):=by simp only[ar,dO];rw[if_pos (by rw[ec];omega)]
 have X:IntKind.i64.wrap ((ar 8 (some (bQ D 0))).1:Int)=mU (bQ D 0):=by rw[M];rfl
 have Oc:IntKind.i64.wrap ((ar 8 (some ((bQ D 0).drop 8))).1:Int)=mU ((bQ D 0).drop 8):=by rw[eE];rfl
 have W:(ar 8 (some (bQ D 0))).2=some ((bQ D 0).drop 8):=by rw[M]
 clear M eE;cbv;rw[x];cbv;refine JZ q1.sl (λh2 pr I l2 r2=>?_);cbv;refine TK r2 (λh3 k3 S=>?_);rw[W]at S;rw[X];clear X W;generalize mU (bQ D 0)=s at *;cbv;refine TK S (λh4 k4 r4=>?_);rw[Oc];have l4:Le h h4:=l1.trans (l2.aE (by simpa using I) (k3.trans k4));clear Oc r2 S r4;generalize mU ((bQ D 0).drop 8)=n at *;rw[U]at o;have d4:=q.le l4;cbv;intro l h5 hl L;have l5:Le h4 h5:=by rw[L];exact Le.set hl
 have g5:=(congrFun L l).trans ae;have d5:=d4.le l5;clear L;cbv;refine Sw d5 O g5 hP (λG b m c x6 T=>?_);have d:cY An h G:=((l4.trans l5).x _).trans x6;have hm:=T.len;have iD:=T.bound;have j:qS D s n=if s<0\/n<0\/s>(bN D).length then⟨s,n,[],true⟩
  else⟨s,n,(dh ((bN D).take s.toNat) n.toNat).1,!decide ((dh ((bN D).take s.toNat) n.toNat).2=[])||decide (((dh ((bN D).take s.toNat) n.toNat).1.length:Int)≠n)⟩:=rfl
 generalize bN D=r at *;have u:A .az .lss s 0=decide (s<0):=aJ A ..;have w:A .az .lss n 0=decide (n<0):=aJ A ..;have E:A .az .gtr s (A .nat m)=decide (s>(r.length:Int)):=by rw[aO A,P.nat,hm];rfl
 have a:s<0\/n<0\/s>(r.length:Int)->∀h',cY An h h'->k (.tuple #[.agg #[.int .i64 s,.int .i64 n,.slice none 0 0,.bool true],.int .i64 0]) h':=λhb h' V=>by
  rw[if_pos hb]at j;exact o h' none 0 0 ⟨s,n,[],true⟩ 0 (by rw[j]) V Sl.nil
 by_cases v:s<0
 .have a:=a (.inl v) G d;rw[aH v]at u;clear j o;cbv;rw[x];cbv;rw[u];cbv;exact a
 rw[ag v]at u;by_cases B:n<0
 .have a:=a (.inr (.inl B)) G d;rw[aH B]at w;clear j o;cbv;rw[x];cbv;rw[u];cbv;rw[w];cbv;exact a
 rw[ag B]at w;by_cases C:s>(r.length:Int)
 .have a:=a (.inr (.inr C)) G d;rw[aH C]at E;clear j o;cbv;rw[x];cbv;rw[u];cbv;rw[w];cbv;rw[E];cbv;exact a
 rw[ag C]at E;rw[if_neg (λg=>g.elim v (λg=>g.elim B C))]at j;have fP:aM s s.toNat:=⟨by omega⟩;have ea:0<=s/\s<=(c:Int):=by omega
 have dd:=cQ (A:=A) fP;have ts:=T.pw (A:=A) (z:=A .nat c) (i:=s.toNat) (by omega) rfl;have Y:s.toNat<=2^30:=by omega
 have f:∀h' y m' c' t,cY An h h'->Sl 35 me h' (.slice y m' c') (dh (r.take s.toNat) n.toNat).1->t=(!decide ((dh (r.take s.toNat) n.toNat).2=[])||decide (((dh (r.take s.toNat) n.toNat).1.length:Int)≠n))->k (.tuple #[.agg #[.int .i64 s,.int .i64 n,.slice y m' c',.bool t],.int .i64 0]) h':=λh' y m' c' t V s' ht=>by
  subst ht;exact o h' y m' c' _ 0 (by rw[j]) V s'
 clear j o a;cbv;rw[x];cbv;rw[u];cbv;rw[w];cbv;rw[E];cbv;refine⟨ea,?_⟩;cbv;rw[dd];refine cQW ts Y n (λh7 b7 m7 c7 l7 s7=>?_);have K:=s7.len;have f:=λt=>f h7 b7 m7 c7 t (d.trans (l7.x _)) s7;generalize dh (r.take s.toNat) n.toNat=R at *;have f7:A .az .neq (A .nat m7) n=decide ((R.1.length:Int)≠n):=by rw[av A,P.nat,K];rfl
 generalize decide ((R.1.length:Int)≠n)=t2 at *;generalize decide (R.2=[])=t1 at *;have Z:A .not t1= !t1:=by rw[P.not]
 cases t1 with
 |true=>have f:=f _ rfl;cbv;rw[Z];cbv;rw[f7];cbv;exact f
 |false=>have f:=f _ rfl;cbv;rw[Z];cbv;exact f
structure Ie(h:ab)(g p:Nat)(size count:Int):Prop where
 out:h g=some (.cells (List.toArray [.pointer (some ⟨p,0,none⟩),.int .i64 size,.int .i64 count]) 295 (0,0))
def dG(D:Dk):Bool×Dk:=if D.left>0 then if IntKind.i64.wrap (D.left+ -1)=0 then(true,{ D with left:=0,dead:=true })else(false,{ D with left:=IntKind.i64.wrap (D.left+ -1) })else(false,D)
theorem gi{e:Nat}{o:Obj}(g:h p=some (.cells c e fr)){ex:List Nat}(d:e∈ex):cY ex h (bH h p o):=λb o' a m=>by
 have Z:b≠p:=λe1=>by rw[e1,g]at a;cases a;exact m _ _ _ rfl d
 rw[bU Z];exact a
def KG(g:Nat->Int):List Value:=[.int .u8 (g 0),.int .u8 (g 1),.int .u8 (g 2),.int .u8 (g 3),.int .u8 (g 4),.int .u8 (g 5),.int .u8 (g 6),.int .u8 (g 7),.int .u8 (g 8),.int .u8 (g 9),.int .u8 (g 10),.int .u8 (g 11),.int .u8 (g 12),.int .u8 (g 13),.int .u8 (g 14),.int .u8 (g 15),.int .u8 (g 16),.int .u8 (g 17),.int .u8 (g 18),.int .u8 (g 19),.int .u8 (g 20),.int .u8 (g 21),.int .u8 (g 22),.int .u8 (g 23),.int .u8 (g 24),.int .u8 (g 25),.int .u8 (g 26),.int .u8 (g 27),.int .u8 (g 28),.int .u8 (g 29),.int .u8 (g 30),.int .u8 (g 31),.int .u8 (g 32),.int .u8 (g 33),.int .u8 (g 34),.int .u8 (g 35),.int .u8 (g 36),.int .u8 (g 37),.int .u8 (g 38),.int .u8 (g 39),.int .u8 (g 40),.int .u8 (g 41),.int .u8 (g 42),.int .u8 (g 43),.int .u8 (g 44),.int .u8 (g 45),.int .u8 (g 46),.int .u8 (g 47),.int .u8 (g 48),.int .u8 (g 49),.int .u8 (g 50),.int .u8 (g 51),.int .u8 (g 52),.int .u8 (g 53),.int .u8 (g 54),.int .u8 (g 55),.int .u8 (g 56),.int .u8 (g 57),.int .u8 (g 58),.int .u8 (g 59),.int .u8 (g 60),.int .u8 (g 61),.int .u8 (g 62),.int .u8 (g 63)]
def dQ(l:Bs):Bs:=l++List.replicate (64-l.length) 0
theorem oh{l:Bs}(h:l.length<=64):(dQ l).length=64:=by unfold dQ;rw[dr,hJD];omega
theorem Pu{e:Nat}{c:Nat}{l:Bs}(q:Sl e bS h (.slice b m c) l):YF h b m (aA l):=by
 have n:=q.len;subst n;obtain⟨j,cap,e1,k,o,f⟩:=q.out;cases e1;rcases f with rfl| ⟨dM,off,cc,fr,rfl,g,d⟩
 .exact .inl ⟨rfl,rfl⟩
 refine .inr ⟨_,rfl,rfl,by simp[aA],cc,_,fr,g,λi a=>?_⟩;have hx:=d.2 i l[i] (by simp[a]);have hx:((cc.toList.drop (off+i*1)).take 1)=[.int .u8 (l[i].toNat:Int)]:=hx;have:=congrArg (λz=>z[0]?) hx;simp only[hU,nM]at this;unfold aA;rw[qy,zs a];simpa using this
def aY(D:Dk)(n:Int)(l:Bs):Int×Dk:=
 if dL D n l.length≠0 then(dL D n l.length,D)
 else(if(dG { D with now:=D.now.set n.toNat (dQ l),ws:=D.ws++[(n,dQ l)] }).1 then 15 else 0,(dG { D with now:=D.now.set n.toNat (dQ l),ws:=D.ws++[(n,dQ l)] }).2)
def cJ(D:Dk):Int×Dk:=if D.dead then(15,D)else if(dG D).1 then(15,(dG D).2)else(0,{ (dG D).2 with kept:=(dG D).2.now,ws:=[] })
def cO(D:Dk)(pg:Nat)(b:Bs):Int×Dk:=
 if h:b=[]then cJ D
 else if(aY D pg (b.take 64)).1≠0 then aY D pg (b.take 64)
 else cO (aY D pg (b.take 64)).2 (pg+1) (b.drop 64)
 termination_by b.length
 decreasing_by
 have:=hJS.2 h;simp only[ec];omega
def bR(D:Dk)(at_:Nat)(b:Bs):Int×Dk:=
 if at_ % 64=0 then cO D (1+at_ / 64) b
 else if dL D ((1+at_ / 64:Nat):Int) 0≠0 then(dL D ((1+at_ / 64:Nat):Int) 0,D)
 else cO D (1+at_ / 64) ((bQ D ((1+at_ / 64:Nat):Int)).take (at_ % 64)++b)
theorem zI(D:Dk):(dG D).2.ws=D.ws:=by
 unfold dG;split
 .split<;>rfl
 rfl
theorem wq(D:Dk)(n:Int)(l:Bs):(aY D n l).2.ws.length<=D.ws.length+1:=by
 unfold aY;split
 .exact iQX _
 rw[zI];simp
end Go.S
