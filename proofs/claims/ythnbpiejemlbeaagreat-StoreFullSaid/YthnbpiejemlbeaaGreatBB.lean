import Derived.Test.YthnbpiejemlbeaaGreatBA
import Derived.Test.YthnbpiejemlbeaaGreatSxC
set_option linter.all false
set_option maxRecDepth 100000
set_option maxHeartbeats 8000000
namespace Go.S
open Go.Sx Go.Proofs
variable {a:Type}{D:Dk}{z:Int}{c:List Value}{xs:List a}{e e1 i m n o p:Nat}{fr:Nat×Nat}{b:Option Addr}{s:Sh a}{k:Value->ab->Prop}{h h':ab}
theorem zM(h:ab):nf.R h (List.replicate 64 (.int .u8 0)) Di:=⟨rfl,rfl⟩
def Gn(n:Nat):Dk:=⟨0,false,List.replicate n Di,List.replicate n Di,[]⟩
theorem dKl(q:aK z n)(b:2<=n)(y:n<=4096)
 (w:∀h' p,h p=none->Le h h'->lY h' p (Gn n)->k (.tuple #[.pointer (some ⟨p,0,none⟩),.int .i64 0]) h'):
 Ct 32 [.int .i64 z] h k:=by
 obtain⟨A,v⟩:=Ar.ex;have t:A .ay .lss z 2=false:=by rw[aD A,q.eq];exact decide_eq_false (by omega)
 have u:A .ay .gtr z 4096=false:=by rw[aX A,q.eq];exact decide_eq_false (by omega)
 have G:z=A .nat n:=by rw[v.nat];exact q.eq
 have fin:∀(c b:ab) (d o:Nat) (a:ab) (p:Nat),h d=none\/c d=none->Le h c->Le c b->cA 211 nf b d n (List.replicate n Di)->cA 211 nf b o n (List.replicate n Di)->d≠o->b p=none->a=bu b p (.cells (List.toArray [.int .i64 0,.int .u32 0,.slice (some ⟨d,0,none⟩) n n,.slice (some ⟨o,0,none⟩) n n,.slice none 0 0]) 94 (0,0))->
  k (.tuple #[.pointer (some ⟨p,0,none⟩),.int .i64 0]) a:=λc b d o a p _ i l o1 o2 F g f=>by
  have r:Le b a:=by rw[f];exact Le.set g
  refine w a p ((i.trans l).none g) ((i.trans l).trans r) ⟨d,o,none,0,0,0,?_,?_,?_,?_,F,rfl,aU.nil,?_⟩
  .rw[f,ae];simp only[Gn,List.length_replicate]
  .simp only[Gn,List.length_replicate];exact o1.mono (r.t _)
  .simp only[Gn,List.length_replicate];exact o2.mono (r.t _)
  .simp only[Gn]
  simp only[Gn,List.length_replicate];exact y
 refine bB gKo A Tryz.func32 ?_;cbv;rw[t];cbv;rw[u];cbv;rw[G];refine⟨?_,?_⟩
 .refine iB (x:=Di) zM (by omega) (by decide) (λj c s i o1=>?_);cbv;refine iB (x:=Di) zM (by omega) (by decide) (λm b Z l o2=>?_);have F:j≠m:=λe=>by rw[<-e]at Z;exact o1.has Z
  have fin:=λa p=>fin c b j m a p (.inl s) i l (o1.mono (l.t _)) o2 F;cbv;intro p a g f;cbv;exact fin a p g f
 refine iB (x:=Di) zM (by omega) (by decide) (λj c s i o1=>?_);cbv;refine iB (x:=Di) zM (by omega) (by decide) (λm b Z l o2=>?_);have F:m≠j:=λe=>by rw[e]at Z;exact o1.has Z
 have fin:=λa p=>fin c b m j a p (.inr Z) i l o2 (o1.mono (l.t _)) F;cbv;intro p a g f;cbv;exact fin a p g f
theorem cKo{l:Nat}{c:Array Value}(g:h l=some (.cells c e fr))(q:Le (Sx.iP h l) h'){ex:List Nat}(d:e∈ex):dI ex h h':=λb o a F=>by
 have D:b≠l:=λe1=>by rw[e1,g]at a;cases a;exact F _ _ _ rfl d
 exact q b o (by rw[Sx.nt D];exact a)
def cO(D:Dk):Bs:=(D.now.drop 1).flatten
theorem lY.pg(q:lY h p D){b:Bs}(e:D.now[i]? =some b):b.length=64:=by obtain⟨n,o,wb,r,wc,d,g,o1,o2,e1,f,j,w,k⟩:=q.out;obtain⟨c,l,a,m⟩:=o2.out;exact(a.2 i b e).2
theorem pM{L:List Bs}(h:∀b∈L,b.length=64):L.flatten.length=64*L.length:=by
 induction L with
 |nil=>rfl
 |cons x r i=>rw[List.flatten_cons,List.length_append,h x (by simp),i (λb a=>h b (by simp[a])),List.length_cons];omega
theorem lY.max(q:lY h p D):D.now.length<=4096:=by obtain⟨k,n,wb,c,wc,d,g,o1,o2,e1,a,b,w,e⟩:=q.out;exact e
theorem aKB{l:Nat}(q:lY h p D)(hd:D.dead=false)(g:h l=some (.cells (List.toArray [.pointer (some ⟨p,0,none⟩),.int .u32 0,.int .i32 1,.int .u32 0,.slice none 0 0,.int .i64 0]) 407 (0,0)))(hP:1<=D.now.length)
 (hk:∀h' b m c,dI [407] h h'->h' l=some (.cells (List.toArray [.pointer (some ⟨p,0,none⟩),.int .u32 0,.int .i32 1,.int .u32 0,.slice b m c,.int .i64 0]) 407 (0,0))->Sl 5 bL h' (.slice b m c) (cO D)->k (.tuple #[]) h'):
 Ct 333 [.pointer (some ⟨l,0,none⟩)] h k:=by
 have Ur:=q.max;have s:∀b∈D.now,b.length=64:=λb hb=>by
  obtain⟨i,W⟩:=List.mem_iff_getElem?.1 hb;exact q.pg W
 obtain⟨P,S⟩:∃P,P=D.now.length:=⟨_,rfl⟩;obtain⟨J,Z⟩:∃J:Nat->Int->ab->Prop,∀w z h',J w z h'=(∃i b m c,aK z (i+1)/\i+1<=P/\w=P-i/\(m=0->b=none)/\Le (Sx.iP h l) h'/\h' l=some (.cells (List.toArray [.pointer (some ⟨p,0,none⟩),.int .u32 0,.int .i32 1,.int .u32 0,.slice b m c,.int .i64 0]) 407 (0,0))/\
  aU 5 bL (Sx.iP h l) h' (.slice b m c) (((D.now.drop 1).take i).flatten)):=⟨_,λ_ _ _=>rfl⟩
 have B:J P 1 h:=by rw[Z];exact⟨0,none,0,0,⟨rfl⟩,by omega,by omega,λ_=>rfl,Sx.qK _ _,g,aU.nil⟩
 refine an dQq Tryz.func333 λA hA=>?_;cbv;refine aG.go (G:=Int) (λz=>[(2,.v (.int .i64 z))]) (λ_=>[]) (λw z h'=>J w z h') P 1 (by constructor<;>cbv) B ?_
 intro w z h1 V;rw[Z]at V;cbv;obtain⟨i,b,m,c,n,W,hw,K,Y,f,L⟩:=V;have Q:=cKo g Y (ex:=[407]) (by decide);have R:=q.lt (Q.t (by decide));have pG:=L.sl.len;have I:(((D.now.drop 1).take i).flatten).length=64*i:=by rw[pM (λx hx=>s x (List.mem_of_mem_drop (List.mem_of_mem_take hx))),List.length_take,List.length_drop];congr 1;omega
 rw[I]at pG;rw[al A];refine ak f ?_;cbv;refine Wu R (λzP X=>?_);have f1:A .ay .lss z zP=decide (i+1<P):=by rw[S];exact n.vh X
 have v:i+1<P->dV D z 0=0:=λC=>by
  unfold dV;rw[hd];show(if _ then(1:Int)else 0)=0;rw[if_neg];have:=n.eq;rintro(sS|sS|sS)<;>omega
 have t:=n.succ (A:=A);have U:i+1<P->((D.now.drop 1).take (i+1)).flatten=((D.now.drop 1).take i).flatten++cH D z:=λC=>by
  obtain⟨x,hx⟩:=bn D.now (i+1);have e1:cH D z=x:=by unfold cH;rw[show z.toNat=i+1 by have:=n.eq;omega,hx];rfl
  rw[e1];exact fI (by rw[List.getElem?_drop,Nat.add_comm];exact hx)
 have r:∀h' a m' c',i+1<P->m'=m+64->Le (Sx.iP h l) h'->h' l=some (.cells (List.toArray [.pointer (some ⟨p,0,none⟩),.int .u32 0,.int .i32 1,.int .u32 0,.slice a m' c',.int .i64 0]) 407 (0,0))->aU 5 bL (Sx.iP h l) h' (.slice a m' c') (((D.now.drop 1).take i).flatten++cH D z)->
  J (P-(i+1)) (A .aC .add .i64 z 1) h':=λh' a m' c' C M l' g' q'=>by
  rw[Z];exact⟨i+1,a,m',c',t,by omega,rfl,λe=>absurd e (by omega),l',g',by rw[U C];exact q'⟩
 cbv;rw[f1];by_cases F:i+1<P
 .have v:=v F;rw[decide_eq_true F];clear Z B t U I;cbv;rw[al A];refine ak f ?_;cbv;refine Wd R z (λbF=>absurd v bF) (λ_ h2 b2 c2 H jG q2=>?_);have u:=H _ _ f;have N:=L.mono (H.t _);have fe:A .ay .neq 0 0=false:=by rw[av A];rfl
  generalize cH D z=pg at *;cbv;rw[fe];cbv;rw[al A];refine ak u ?_;cbv;refine N.app q2.sl (by decide) rfl (by decide) (by omega) (Y.trans H) (λm' a c' h3 M l3 t3 k3 q3=>?_);have DK:b≠some ⟨l,0,none⟩:=λe=>by
   rcases N.out with⟨b0,e1,-⟩|⟨nb,cap,e1,e2,o⟩
   .injection e1 with e3 d e5
    rw[K d]at e;cases e
   cases e1;cases e;obtain⟨cc,O,-⟩:=o.out;rw[u]at O;cases O
  have T:=k3 _ _ u (.inr (.inl DK));cbv;rw[al A];refine jr T (by simp) (λy d=>?_);have l4:Le (Sx.iP h l) y:=λj o E=>by
   have oT:j≠l:=λe=>by rw[e,Sx.lR]at E;cases E
   rw[d,bN oT];exact l3 j o E
  have t4:bV [5] h3 y:=by rw[d];exact bV.set T (by decide)
  have g4:=(congrFun d l).trans ae;have gU:=r y a m' c' F M l4 g4 (q3.mono t4);clear r d;cbv;refine⟨P-(i+1),_,by omega,by constructor<;>cbv,gU⟩
 rw[decide_eq_false F];have ar:((D.now.drop 1).take i).flatten=cO D:=by unfold cO;rw[List.take_of_length_le (by rw[List.length_drop];omega)]
 have:=hk h1 b m c Q f (ar ▸ L.sl);clear Z B t U I r;cbv;exact this
theorem _root_.Go.Sx.Sl.short{c:Nat}(q:Sl e s h (.slice b n c) xs)(o:m<=n):Sl e s h (.slice b m c) (xs.take m):=by
 have hl:(xs.take m).length=m:=by rw[List.length_take,<-q.len];omega
 obtain⟨j,cap,e1,k,l,d⟩:=q.out;cases e1;refine⟨b,c,by rw[hl],by rw[hl];omega,by rw[hl];omega,?_⟩;rcases d with rfl| ⟨kE,off,cc,fr,f,g,i⟩
 .exact .inl (by simp)
 exact .inr ⟨kE,off,cc,fr,f,g,i.take m⟩
theorem _root_.Go.Sx.Sl.aKw{A:Ar}[g:bf A]{c:Nat}(q:Sl e s h (.slice b n c) xs)(f:aK z i)(j:i+m<=n){c':Nat}(d:c'=c-i):
 Sl e s h (.slice (A .cut b z (A .nat c) s.n) m c') ((xs.drop i).take m):=
 (q.iH (A:=A) f (by omega) rfl d).short (by omega)
theorem bZw{l:Nat}(q:lY h p D)(hd:D.dead=false)(g:h l=some (.cells (List.toArray [.pointer (some ⟨p,0,none⟩),.int .u32 0,.int .i32 0,.int .u32 0,.slice none 0 0,.int .i64 0]) 407 (0,0)))(P:1<=D.now.length)
 (n:∀h' b m c,dI [407] h h'->Sl 5 bL h' (.slice b m c) (cO D)->k (.tuple #[.slice b m c,.int .i64 0]) h'):
 Ct 259 [.pointer (some ⟨l,0,none⟩)] h k:=by
 refine an dXE Tryz.func259 λA w=>?_;cbv;rw[al A];refine bKD (f:=333) (fl:=[.pointer (some ⟨l,0,none⟩)]) (cl:=[]) g rfl rfl (λu e1=>?_);have x:dI [407] h u:=by rw[e1];exact(Kp.set (bs:=[l]) (by simp)).x (λb a o d=>by simp at a;rw[a,g]at d;cases d;exact⟨_,_,_,rfl,by decide⟩)
 refine aKB (q.lt (x.t (by decide))) hd ((congrFun e1 l).trans ae) P (λs b m c v r s2=>?_);refine⟨rfl,_,r,rfl,rfl,?_⟩;generalize e:bu s l _=j;have e:=e.symm;have t:dI [407] s j:=by rw[e];exact(Kp.set (bs:=[l]) (by simp)).x (λb a o d=>by simp at a;rw[a,r]at d;cases d;exact⟨_,_,_,rfl,by decide⟩)
 have i:=(congrFun e l).trans ae;have i:j l=some (.cells (List.toArray [.pointer (some ⟨p,0,none⟩),.int .u32 1,.int .i32 0,.int .u32 0,.slice b m c,.int .i64 0]) 407 (0,0)):=i;have n:=n j b m c ((x.trans v).trans t) (s2.mono (t.t (by decide)));clear e;cbv;rw[al A];refine ak i ?_;cbv;rw[al A];refine ak i ?_;cbv;exact n
def dq(b:Bs):Int:=IntKind.i64.wrap (lq (b.take 8):Int)
def dy(b:Bs):Nat->List Bs×Bs
 |0=>([],b)
 |m+1=>if 8<=b.length then if 0<=dq b/\dq b<=(b.length-8:Nat)then((b.drop 8).take (dq b).toNat::(dy (b.drop (8+(dq b).toNat)) m).1,(dy (b.drop (8+(dq b).toNat)) m).2)else([],b)else([],b)
abbrev pv:Sh Bs:=sA 5 bL
theorem Bb{xs:List Bs}{len cap:Nat}(q:Sl 176 pv h (.slice b len cap) xs)
 (d:∀h' f c',Le h h'->aU 176 pv h h' (.slice f len c') xs->k (.slice f len c') h'):
 Ct 334 [.slice b len cap] h k:=by
 refine an dQp Tryz.func334 λA m=>?_;cbv;refine aJ (λa=>?_) (λa=>?_)
 .rw[m.yP]at a;cbv;have n:b=none:=by cases b<;>simp at a |-
  subst n;have hl:len=0:=by
   rcases Nat.eq_zero_or_pos len with e|e
   .exact e
   have:=q.aQ e;cases this
  have:=q.len;have hx:xs=[]:=List.eq_nil_of_length_eq_zero (by omega);subst hx hl;exact d _ _ _ (Le.refl _) aU.nil
 cbv;intro t j C s;have l:Le h j:=by rw[s];exact Le.set C
 cbv;refine mG (q.mono (l.t _)) rfl (by decide) (λo=>?_) (λu c r e1 p g i=>?_)
 .cbv;have:=q.len;have hx:xs=[]:=List.eq_nil_of_length_eq_zero (by omega);subst hx o;exact d _ _ _ l aU.nil
 cbv;exact d _ _ _ (l.trans g) (i.buf (l.none e1) q.len)
theorem cXf(l:Bs)(hl:l.length=8):az 8 (some l)=(lq l,some []):=by simp only[az,dO];rw[if_pos (by omega),List.take_of_length_le (by omega),List.drop_of_length_le (by omega)]
theorem fKz{bs:Bs}{c:Nat}(q:Sl 5 bL h (.slice b m c) bs)(hm:m<=2^30)(l:Int)
 (hk:∀h' B m1 o,Le h h'->Sl 176 pv h' (.slice B m1 o) (dy bs l.toNat).1->k (.tuple #[.slice B m1 o,.bool (decide ((dy bs l.toNat).2=[]))]) h'):
 Ct 260 [.slice b m c,.int .i64 l] h k:=by
 have aj:=q.len;obtain⟨J,Z⟩:∃J:Nat->((Option Addr×Nat×Nat)×Option Addr×Nat×Nat)->ab->Prop,∀w g h',J w g h'=(∃u d,w=g.1.2.1/\(d.length:Int)<=max l 0/\u.length+8*d.length<=bs.length/\Le h h'/\Sl 5 bL h' (.slice g.1.1 g.1.2.1 g.1.2.2) u/\
  aU 176 pv h h' (.slice g.2.1 g.2.2.1 g.2.2.2) d/\dy bs l.toNat=(d++(dy u (l.toNat-d.length)).1,(dy u (l.toNat-d.length)).2)):=⟨_,λ_ _ _=>rfl⟩
 have hJ:J m ((b,m,c),none,0,0) h:=by rw[Z];exact⟨bs,[],rfl,by simp only[List.length_nil];omega,by simp,Le.refl _,q,aU.nil,rfl⟩
 refine an dXD Tryz.func260 λA S=>?_;cbv;refine aG.go (G:=(Option Addr×Nat×Nat)×Option Addr×Nat×Nat) (λg=>[(0,.v (.slice g.1.1 g.1.2.1 g.1.2.2)),(6,.v (.slice g.2.1 g.2.2.1 g.2.2.2))]) (λ_=>[]) (λw g h'=>J w g h') m ((b,m,c),none,0,0) (by constructor<;>cbv) hJ ?_
 intro w g R hI;rw[Z]at hI;cbv;obtain⟨⟨gb,a,r⟩,ob,y,oc⟩:=g;obtain⟨u,d,hw,hr,au,l1,I,K,U⟩:=hI;have hw:w=a:=hw;have I:Sl 5 bL R (.slice gb a r) u:=I;have K:aU 176 pv h R (.slice ob y oc) d:=K;have nj:=I.len;have iW:=I.bound;have ar:=K.sl.len;have f1:A .ay .geq (A .nat a) 8=decide (8<=a):=by rw[bX A,S.nat];exact decide_eq_decide.2 (by rw[Int.ofNat_eq_natCast];omega)
 have f2:A .ay .lss (A .nat y) l=decide ((y:Int)<l):=by rw[aD A,S.nat];rfl
 have fin:∀H,Le R H->(dy u (l.toNat-d.length))=([],u)->∀B o,aU 176 pv R H (.slice B y o) d->∀t,t=decide (a=0)->k (.tuple #[.slice B y o,.bool t]) H:=λH l2 v B o q3 t ht=>by
  rw[v]at U;simp only[List.append_nil]at U;rw[U]at hk;have:=hk H B y o (l1.trans l2) q3.sl;have e1:decide (u=[])=decide (a=0):=decide_eq_decide.2 (by rw[nj];exact List.length_eq_zero_iff.symm);rw[ht,<-e1];exact this
 have W:A .ay .eql (A .nat a) 0=decide (a=0):=by rw[aq A,S.nat];exact decide_eq_decide.2 (by rw[Int.ofNat_eq_natCast];omega)
 rw[f1];by_cases o:8<=a
 .rw[decide_eq_true o];cbv;rw[f2];by_cases c2:(y:Int)<l
  .rw[decide_eq_true c2];obtain⟨j,hj⟩:∃j,l.toNat-d.length=j+1:=⟨l.toNat-d.length-1,by omega⟩;have N:dy u (l.toNat-d.length)=if 0<=dq u/\dq u<=(u.length-8:Nat)then((u.drop 8).take (dq u).toNat::(dy (u.drop (8+(dq u).toNat)) j).1,(dy (u.drop (8+(dq u).toNat)) j).2)else([],u):=by rw[hj];show(if 8<=u.length then _ else _)=_;rw[if_pos (by omega)]
   have zW:az 8 (some (u.take 8))=(lq (u.take 8),some []):=cXf _ (by rw[List.length_take];omega);have lr:(0:Int)<=8/\(8:Int)<=(r:Int):=by omega
   have d8:A .mg 8 0=8:=cM ⟨rfl⟩;have t8:=I.sg (A:=A) (z:=A .nat r) (i:=8) o rfl;have M:dq u<0->dy u (l.toNat-d.length)=([],u):=λhh=>by rw[N,if_neg (by omega)]
   have L:dq u>(a:Int)-8->dy u (l.toNat-d.length)=([],u):=λhh=>by rw[N,if_neg (by omega)]
   have X:¬dq u<0->¬dq u>(a:Int)-8->aK (dq u) (dq u).toNat/\8+(dq u).toNat<=a/\dy bs l.toNat=((d++[(u.drop 8).take (dq u).toNat])++(dy (u.drop (8+(dq u).toNat)) (l.toNat-(d.length+1))).1,(dy (u.drop (8+(dq u).toNat)) (l.toNat-(d.length+1))).2)/\((d.length+1:Nat):Int)<=max l 0/\u.length-(8+(dq u).toNat)+8*(d.length+1)<=bs.length:=λsS ao=>by
    rw[if_pos (by omega)]at N;refine⟨⟨by omega⟩,by omega,?_,by omega,by omega⟩;rw[U,N,show l.toNat-(d.length+1)=j by omega,List.append_assoc];rfl
   have hB:y+1<=2^39:=by omega
   clear hJ N U;cbv;refine⟨lr,?_⟩;cbv;rw[d8];refine Qh t8 (λH p hp l2 r2=>?_);cbv;refine aQV r2 (λh3 k3 r3=>?_);rw[zW];have E:Le R h3:=l2.aE (by simpa using hp) k3;have hz:IntKind.i64.wrap ((lq (u.take 8):Nat):Int)=dq u:=rfl;have FB:=I.mono (E.t [5]);have Q:=K.mono (E.t [176,5]);clear zW r3 r2 k3 t8 d8 lr hp l2;rw[show IntKind.i64.wrap (((lq (u.take 8),(some []:St)).1:Nat):Int)=dq u from rfl];generalize dq u=z at *;have f3:A .ay .lss z 0=decide (z<0):=aD A ..;have jh:A .aC .sub .i64 (A .nat a) 8=(a:Int)-8:=by rw[S.aC,S.nat];show IntKind.i64.wrap ((a:Int)-8)=_;rw[IntWalk.i64_in _ (by omega)]
   have V:A .ay .gtr z (A .aC .sub .i64 (A .nat a) 8)=decide (z>(a:Int)-8):=by rw[jh];exact aX A ..
   by_cases O:z<0
   .have v:dy u (l.toNat-d.length)=([],u):=M O;have fin:=λf e=>fin f (E.trans e) v;cbv;rw[f3,decide_eq_true O];cbv;refine Bb Q.sl (λf C D e x=>?_);cbv;rw[W];exact fin f e C D (x.base E) _ rfl
   by_cases T:z>(a:Int)-8
   .have v:dy u (l.toNat-d.length)=([],u):=L T;have fin:=λf e=>fin f (E.trans e) v;rw[decide_eq_true T]at V;cbv;rw[f3,decide_eq_false O];cbv;rw[V];cbv;refine Bb Q.sl (λf C D e x=>?_);cbv;rw[W];exact fin f e C D (x.base E) _ rfl
   rw[decide_eq_false T]at V;obtain⟨kG,KN,U,Ua,jG⟩:=X O T;generalize z.toNat=n at *;have Y:aK 8 8:=⟨rfl⟩;have P:aK (A .aC .add .i64 8 z) (8+n):=Y.add (A:=A) kG (by omega);have iG:0<=A .aC .add .i64 8 z/\A .aC .add .i64 8 z<=(r:Int)/\0<=(8:Int)/\(8:Int)<=A .aC .add .i64 8 z:=by have:=P.eq;omega
   have vr:0<=A .aC .add .i64 8 z/\A .aC .add .i64 8 z<=(a:Int):=by have:=P.eq;omega
   have PG:A .mg (A .aC .add .i64 8 z) 8=n:=by rw[Gp (A:=A) P Y];omega
   have GW:A .mg (A .nat r) 8=r-8:=bQ (A:=A) Y;have Nq:=bQ (A:=A) (n:=a) P;have ag:=bQ (A:=A) (n:=r) P;have tm:=FB.aKw (A:=A) Y (m:=n) (by omega) rfl;have td:=FB.iH (A:=A) P (by omega) rfl rfl;have bI:∀h' m' F c',Le h h'->Sl 5 bL h' (.slice (A .cut gb (A .aC .add .i64 8 z) (A .nat r) 1) (a-(8+n)) (r-(8+n))) (u.drop (8+n))->aU 176 pv h h' (.slice F m' c') (d++[(u.drop 8).take n])->
    J (a-(8+n)) ((A .cut gb (A .aC .add .i64 8 z) (A .nat r) 1,a-(8+n),r-(8+n)),F,m',c') h':=λh' m' F c' l' s' q'=>by
    rw[Z];exact⟨_,_,rfl,by rw[List.length_append];exact Ua,by rw[List.length_append,List.length_drop];exact jG,l',s',q',by rw[List.length_append];exact U⟩
   clear fin U hk Z M L X;cbv;rw[f3,decide_eq_false O];cbv;rw[V];cbv;refine⟨iG,?_⟩;cbv;rw[PG,GW];refine CR tm (λh4 b4 uf l4 q4=>?_);cbv;intro n5 f JF e5;have e:Le h4 f:=by rw[e5];exact Le.set JF
   have x:Sl 176 pv f (.slice (some ⟨n5,0,none⟩) 1 1) [(u.drop 8).take n]:=aR (s:=pv) ((congrFun e5 n5).trans ae) ⟨_,rfl,q4.sl.mono (e.t _)⟩;clear e5;cbv;refine(Q.mono ((l4.trans e).t _)).app x (by decide) rfl (by decide) hB ((l1.trans E).trans (l4.trans e)) (λm' F c' h6 DI l6 t6 k6 q6=>?_);have gU:=bI h6 m' F c' l6 ((td.mono ((l4.trans e).t _)).mono (t6 _ (by decide))) q6;clear bI;cbv;refine⟨vr,?_⟩;cbv;rw[Nq,ag];refine⟨a-(8+n),((_,_,_),F,m',c'),by omega,by constructor<;>cbv,gU⟩
  rw[decide_eq_false c2];have v:dy u (l.toNat-d.length)=([],u):=by rw[show l.toNat-d.length=0 by omega];rfl
  have fin:=λf e=>fin f e v;clear U;cbv;refine Bb K.sl (λf C D e x=>?_);cbv;rw[W];exact fin f e C D x _ rfl
 rw[decide_eq_false o];have v:dy u (l.toNat-d.length)=([],u):=by
  cases l.toNat-d.length with
  |zero=>rfl
  |succ j=>show(if 8<=u.length then _ else _)=_;rw[if_neg (by omega)]
 have fin:=λf e=>fin f e v;clear U;cbv;refine Bb K.sl (λf C D e x=>?_);cbv;rw[W];exact fin f e C D x _ rfl
structure gKz where
 size:Int
 count:Int
 dL:List Bs
 bad:Bool
def rS(p:Bs):Int:=IntKind.i64.wrap (lq (p.take 8):Int)
def wQ(D:Dk)(size count:Int):gKz:=
 if size<0\/count<0\/size>(cO D).length then⟨size,count,[],true⟩
 else⟨size,count,(dy ((cO D).take size.toNat) count.toNat).1,!decide ((dy ((cO D).take size.toNat) count.toNat).2=[])||decide (((dy ((cO D).take size.toNat) count.toNat).1.length:Int)≠count)⟩
def eV(D:Dk):gKz×Int:=if D.dead then(⟨0,0,[],true⟩,15)else(wQ D (rS (cH D 0)) (rS ((cH D 0).drop 8)),0)
abbrev OH:List Nat:=[407]
theorem Sy(q:lY h p D):(cO D).length<=2^18:=by
 unfold cO;rw[pM (λb a=>by
  obtain⟨i,c⟩:=List.mem_iff_getElem?.1 (List.mem_of_mem_drop a);exact q.pg c),List.length_drop]
 have:=q.max;omega
theorem cXr(q:lY h p D)(hP:1<=D.now.length)
 (j:∀h' b m c F e,(F,e)=eV D->dI OH h h'->Sl 176 pv h' (.slice b m c) F.dL->k (.tuple #[.agg #[.int .i64 F.size,.int .i64 F.count,.slice b m c,.bool F.bad],.int .i64 e]) h'):
 Ct 140 [.pointer (some ⟨p,0,none⟩)] h k:=by
 obtain⟨A,O⟩:=Ar.ex;have M:A .ay .neq 15 0=true:=by rw[av A];rfl
 have I:A .ay .neq 0 0=false:=by rw[av A];rfl
 have o:dV D 0 0=if D.dead then 15 else 0:=by
  unfold dV;split
  .rfl
  rw[if_neg];rintro(hh|hh|hh)<;>omega
 have rL:=Sy q;have X:eV D=if D.dead then(⟨0,0,[],true⟩,15)else(wQ D (rS (cH D 0)) (rS ((cH D 0).drop 8)),0):=rfl
 refine bB dJy A Tryz.func140 ?_;cbv;refine Wd q 0 (λY=>?_) (λH h1 b1 w l1 KI q1=>?_)
 .have W:D.dead=true:=by
   cases hd:D.dead with
   |true=>rfl
   |false=>rw[o,hd]at Y;exact absurd rfl Y
  have H:dV D 0 0=15:=by rw[o,W];rfl
  rw[W]at X;have:=j h none 0 0 _ _ X.symm (dI.refl _ _) Sl.nil;rw[H];clear X;cbv;rw[M];cbv;exact this
 have W:D.dead=false:=by
  cases hd:D.dead with
  |false=>rfl
  |true=>rw[o,hd]at H;cases H
 rw[W]at X;have X:eV D=(wQ D (rS (cH D 0)) (rS ((cH D 0).drop 8)),0):=X;have L:az 8 (some (cH D 0))=(lq ((cH D 0).take 8),some ((cH D 0).drop 8)):=by simp only[az,dO];rw[if_pos (by omega)]
 have dZ:az 8 (some ((cH D 0).drop 8))=(lq (((cH D 0).drop 8).take 8),some (((cH D 0).drop 8).drop 8)):=by simp only[az,dO];rw[if_pos (by rw[List.length_drop];omega)]
 have V:IntKind.i64.wrap ((az 8 (some (cH D 0))).1:Int)=rS (cH D 0):=by rw[L];rfl
 have U:IntKind.i64.wrap ((az 8 (some ((cH D 0).drop 8))).1:Int)=rS ((cH D 0).drop 8):=by rw[dZ];rfl
 have T:(az 8 (some (cH D 0))).2=some ((cH D 0).drop 8):=by rw[L]
 clear L dZ;cbv;rw[I];cbv;refine Qh q1.sl (λh2 pr Z l2 r2=>?_);cbv;refine aQV r2 (λh3 k3 Q=>?_);rw[T]at Q;rw[V];clear V T;generalize rS (cH D 0)=s at *;cbv;refine aQV Q (λh4 k4 r4=>?_);rw[U];have l4:Le h h4:=l1.trans (l2.aE (by simpa using Z) (k3.trans k4));clear U r2 Q r4;generalize rS ((cH D 0).drop 8)=n at *;rw[X]at j;have d4:=q.le l4;cbv;intro l h5 hl J;have l5:Le h4 h5:=by rw[J];exact Le.set hl
 have g5:=(congrFun J l).trans ae;have d5:=d4.le l5;clear J;cbv;refine bZw d5 W g5 hP (λG b m c x6 S=>?_);have d:dI OH h G:=((l4.trans l5).x _).trans x6;have hm:=S.len;have iW:=S.bound;have f:wQ D s n=if s<0\/n<0\/s>(cO D).length then⟨s,n,[],true⟩
  else⟨s,n,(dy ((cO D).take s.toNat) n.toNat).1,!decide ((dy ((cO D).take s.toNat) n.toNat).2=[])||decide (((dy ((cO D).take s.toNat) n.toNat).1.length:Int)≠n)⟩:=rfl
 generalize cO D=u at *;have v:A .ay .lss s 0=decide (s<0):=aD A ..;have x:A .ay .lss n 0=decide (n<0):=aD A ..;have E:A .ay .gtr s (A .nat m)=decide (s>(u.length:Int)):=by rw[aX A,O.nat,hm];rfl
 have a:s<0\/n<0\/s>(u.length:Int)->∀h',dI OH h h'->k (.tuple #[.agg #[.int .i64 s,.int .i64 n,.slice none 0 0,.bool true],.int .i64 0]) h':=λhb h' x'=>by
  rw[if_pos hb]at f;exact j h' none 0 0 ⟨s,n,[],true⟩ 0 (by rw[f]) x' Sl.nil
 by_cases w:s<0
 .have a:=a (.inl w) G d;rw[decide_eq_true w]at v;clear f j;cbv;rw[I];cbv;rw[v];cbv;exact a
 rw[decide_eq_false w]at v;by_cases B:n<0
 .have a:=a (.inr (.inl B)) G d;rw[decide_eq_true B]at x;clear f j;cbv;rw[I];cbv;rw[v];cbv;rw[x];cbv;exact a
 rw[decide_eq_false B]at x;by_cases C:s>(u.length:Int)
 .have a:=a (.inr (.inr C)) G d;rw[decide_eq_true C]at E;clear f j;cbv;rw[I];cbv;rw[v];cbv;rw[x];cbv;rw[E];cbv;exact a
 rw[decide_eq_false C]at E;rw[if_neg (λg=>g.elim w (λg=>g.elim B C))]at f;have gE:aK s s.toNat:=⟨by omega⟩;have dv:0<=s/\s<=(c:Int):=by omega
 have dd:=cM (A:=A) gE;have ts:=S.sg (A:=A) (z:=A .nat c) (i:=s.toNat) (by omega) rfl;have N:s.toNat<=2^30:=by omega
 have r:∀h' y m' c' t,dI OH h h'->Sl 176 pv h' (.slice y m' c') (dy (u.take s.toNat) n.toNat).1->t=(!decide ((dy (u.take s.toNat) n.toNat).2=[])||decide (((dy (u.take s.toNat) n.toNat).1.length:Int)≠n))->k (.tuple #[.agg #[.int .i64 s,.int .i64 n,.slice y m' c',.bool t],.int .i64 0]) h':=λh' y m' c' t x' s' ht=>by
  subst ht;exact j h' y m' c' _ 0 (by rw[f]) x' s'
 clear f j a;cbv;rw[I];cbv;rw[v];cbv;rw[x];cbv;rw[E];cbv;refine⟨dv,?_⟩;cbv;rw[dd];refine fKz ts N n (λh7 b7 m7 c7 l7 s7=>?_);have P:=s7.len;have r:=λt=>r h7 b7 m7 c7 t (d.trans (l7.x _)) s7;generalize dy (u.take s.toNat) n.toNat=R at *;have f7:A .ay .neq (A .nat m7) n=decide ((R.1.length:Int)≠n):=by rw[av A,O.nat,P];rfl
 generalize decide ((R.1.length:Int)≠n)=t2 at *;generalize decide (R.2=[])=t1 at *;have K:A .not t1= !t1:=by rw[O.not]
 cases t1 with
 |true=>have r:=r _ rfl;cbv;rw[K];cbv;rw[f7];cbv;exact r
 |false=>have r:=r _ rfl;cbv;rw[K];cbv;exact r
theorem bZf:iv Tryz.prog 329 Tryz.f329:=⟨Tryz.func329,by kernel_rfl,by kernel_rfl,by kernel_rfl⟩
theorem bZe:iv Tryz.prog 182 Tryz.f182:=⟨Tryz.func182,by kernel_rfl,by kernel_rfl,by kernel_rfl⟩
theorem bZg:iv Tryz.prog 332 Tryz.f332:=⟨Tryz.func332,by kernel_rfl,by kernel_rfl,by kernel_rfl⟩
theorem FL{b:Nat}{x:Int}(q:mj h ⟨b,o,none⟩ (.int .i64 x))(a:k (.int .i64 x) h):Ct 247 [.pointer (some ⟨b,o,none⟩)] h k:=by refine an dXP Tryz.func247 λA c=>?_;cbv;rw[al A];refine IP bZf (by kernel_rfl) q ?_;cbv;exact a
theorem Fj{b ty:Nat}{x:Value}(g:h b=some (.cells (List.toArray c) ty (0,0)))(hx:c[o]? =some x)(y:Int)(f:∀h',h'=bu h b (.cells (List.toArray (c.set o (.int .i64 y))) ty (0,0))->k (.tuple #[]) h'):Ct 76 [.pointer (some ⟨b,o,none⟩),.int .i64 y] h k:=by refine an gJK Tryz.func76 λA i=>?_;cbv;rw[al A];refine zh bZe (by kernel_rfl) (bY g hx) (λc' e a e1 d=>?_);have u:Up h b o (.int .i64 y) a:=⟨c',e,e1,d⟩;have:=f a (u.exp g);cbv;exact this
theorem aZO{b ty:Nat}{x:Int}(g:h b=some (.cells (List.toArray c) ty (0,0)))(hx:c[o]? =some (.int .i64 x))(y:Int)(f:∀h',h'=bu h b (.cells (List.toArray (c.set o (.int .i64 (IntKind.i64.wrap (x+y))))) ty (0,0))->k (.int .i64 (IntKind.i64.wrap (x+y))) h'):Ct 253 [.pointer (some ⟨b,o,none⟩),.int .i64 y] h k:=by refine an aQq Tryz.func253 λA i=>?_;cbv;rw[al A];refine Gi bZg (by kernel_rfl) (bY g hx) (λc' e a e1 d=>?_);have u:Up h b o (.int .i64 (IntKind.i64.wrap (x+y))) a:=⟨c',e,e1,d⟩;have:=f a (u.exp g);generalize IntKind.i64.wrap (x+y)=z at *;cbv;exact this
structure EX(h:ab)(g p:Nat)(size count:Int):Prop where
 out:h g=some (.cells (List.toArray [.pointer (some ⟨p,0,none⟩),.int .i64 size,.int .i64 count]) 294 (0,0))
theorem EX.lt{g:Nat}{s c:Int}(q:EX h g p s c)(l:bV [294] h h'):EX h' g p s c:=⟨l _ _ _ _ (by decide) q.out⟩
theorem aZV(q:lY h p D)(P:1<=D.now.length)
 (M:∀h' e,dI OH h h'->e=(if(eV D).2≠0 then(eV D).2 else 10)->((eV D).2≠0\/(eV D).1.bad=true)->k (.tuple #[.pointer none,.slice none 0 0,.int .i64 e]) h')
 (B:∀h' g b m c,(eV D).2=0->(eV D).1.bad=false->dI OH h h'->EX h' g p (eV D).1.size (eV D).1.count->Sl 176 pv h' (.slice b m c) (eV D).1.dL->k (.tuple #[.pointer (some ⟨g,0,none⟩),.slice b m c,.int .i64 0]) h'):
 Ct 63 [.pointer (some ⟨p,0,none⟩)] h k:=by
 obtain⟨A,K⟩:=Ar.ex;have l:A .ay .neq 10 0=true:=by rw[av A];rfl
 have I:A .ay .neq 0 0=false:=by rw[av A];rfl
 have Z:A .ay .eql 0 0=true:=by rw[aq A];rfl
 refine bB gJP A Tryz.func63 ?_;cbv;refine cXr q P (λd b m c F e f x s1=>?_);rw[<-f]at M B;obtain⟨H,w,N,i⟩:=F;have r:A .ay .eql e 0=decide (e=0):=aq A ..;have s:A .ay .neq e 0=decide (e≠0):=av A ..;by_cases a:e=0
 .subst a;cases i with
  |true=>have:=M d 10 x (by rw[if_neg (λg=>g rfl)]) (.inr rfl);clear M B f;cbv;rw[Z];cbv;rw[l];cbv;exact this
  |false=>
   have B:=λh' g=>B h' g b m c rfl rfl;clear M f;cbv;rw[Z];cbv;rw[I];cbv;intro g E u j;have L:Le d E:=by rw[j];exact Le.set u
   have y:=(congrFun j g).trans ae;cbv;rw[al A];refine Fj y rfl H (λJ n=>?_);have z:=(congrFun n g).trans ae;cbv;rw[al A];refine Fj z rfl w (λt o=>?_);have C:=(congrFun o g).trans ae;have v:Le d t:=by rw[o,n,dD,j,dD];exact Le.set u
   have:=B t g (x.trans (v.x _)) ⟨C⟩ (s1.mono (v.t _));cbv;exact this
 have:=M d e x (by rw[if_pos a]) (.inl a);rw[decide_eq_false a]at r;have G:e≠0:=a;rw[decide_eq_true G]at s;clear M B f;cbv;rw[r];cbv;rw[s];cbv;exact this
theorem storeT{b ty:Nat}{x:Value}(g:h b=some (.cells (List.toArray c) ty (0,0)))(hx:c[o]? =some x)(f:∀h',h'=bu h b (.cells (List.toArray (c.set o (.int .u32 1))) ty (0,0))->k (.tuple #[]) h'):Ct 77 [.pointer (some ⟨b,o,none⟩),.bool true] h k:=by refine an eXB Tryz.func77 λA i=>?_;cbv;refine(gJr h).mono (λv a hR=>?_);obtain⟨rfl,rfl⟩:=hR;cbv;rw[al A];refine zh Vb (by kernel_rfl) (bY g hx) (λc' e a e1 d=>?_);have u:Up _ b o (.int .u32 1) a:=⟨c',e,e1,d⟩;have:=f a (u.exp g);cbv;exact this
def dJ(D:Dk):Bool×Dk:=if D.left>0 then if IntKind.i64.wrap (D.left+ -1)=0 then(true,{ D with left:=0,dead:=true })else(false,{ D with left:=IntKind.i64.wrap (D.left+ -1) })else(false,D)
theorem lY.rZ(q:lY h p D){G:Prop}{left:Int}{dead:Bool}
 (i:∀k n wb a wc d,h p=some (.cells (List.toArray [.int .i64 D.left,.int .u32 d,.slice (some ⟨k,0,none⟩) D.now.length D.now.length,.slice (some ⟨n,0,none⟩) D.now.length D.now.length,.slice wb a wc]) 94 (0,0))->(d=0\/d=1)->
  (∀h',h'=bu h p (.cells (List.toArray [.int .i64 left,.int .u32 (if dead then 1 else 0),.slice (some ⟨k,0,none⟩) D.now.length D.now.length,.slice (some ⟨n,0,none⟩) D.now.length D.now.length,.slice wb a wc]) 94 (0,0))->lY h' p { D with left:=left,dead:=dead })->(d=if D.dead then 1 else 0)->G):G:=by
 obtain⟨k,n,wb,a,wc,d,g,o1,o2,e1,c,b,w,f⟩:=q.out;refine i k n wb a wc d g (by rw[b];cases D.dead<;>simp) (λh' e=>?_) b;have lt:∀tys,94∉tys->bV tys h h':=λtys j=>by rw[e];exact bV.set g j
 exact⟨k,n,wb,a,wc,_,(congrFun e p).trans ae,o1.mono (lt _ (by decide)),o2.mono (lt _ (by decide)),e1,c,rfl,w.mono (lt _ (by decide)),f⟩
theorem fE{c:Array Value}{o:Obj}(g:h p=some (.cells c e fr)){ex:List Nat}(d:e∈ex):dI ex h (bu h p o):=λb o' a F=>by
 have K:b≠p:=λe1=>by rw[e1,g]at a;cases a;exact F _ _ _ rfl d
 rw[bN K];exact a
theorem aXk(q:lY h p D)(a:∀h',dI dT h h'->lY h' p (dJ D).2->k (.bool (dJ D).1) h'):Ct 331 [.pointer (some ⟨p,0,none⟩)] h k:=by
 obtain⟨A,u⟩:=Ar.ex;refine q.rZ (left:=if IntKind.i64.wrap (D.left+ -1)=0 then 0 else IntKind.i64.wrap (D.left+ -1)) (dead:=if IntKind.i64.wrap (D.left+ -1)=0 then true else D.dead) (λv w wb x wc d g hd up r=>?_);have s:A .ay .gtr D.left 0=decide (D.left>0):=aX A ..;have b:A .ay .eql (IntKind.i64.wrap (D.left+ -1)) 0=decide (IntKind.i64.wrap (D.left+ -1)=0):=aq A ..;have P:dJ D=if D.left>0 then if IntKind.i64.wrap (D.left+ -1)=0 then(true,{ D with left:=0,dead:=true })else(false,{ D with left:=IntKind.i64.wrap (D.left+ -1) })else(false,D):=rfl
 generalize Z:D.left=m at *;obtain⟨f,Y⟩:∃f,f=IntKind.i64.wrap (m+ -1):=⟨_,rfl⟩;rw[<-Y]at b P up;refine bB dQr A Tryz.func331 ?_;cbv;rw[al A];refine FL (bY g rfl) ?_;cbv;rw[s];by_cases e:m>0
 .rw[if_pos e]at P;rw[decide_eq_true e];cbv;rw[al A];refine aZO g rfl (-1) (λj e1=>?_);rw[<-Y]at e1 |-;have t:=(congrFun e1 p).trans ae;by_cases c:f=0
  .rw[if_pos c]at P;rw[if_pos c,if_pos c]at up;rw[decide_eq_true c]at b;clear Y;subst c;cbv;rw[b];cbv;rw[al A];refine storeT t rfl (λl i=>?_);rw[e1,dD]at i;have o:=up l i;rw[P]at a;have:=a l (by rw[i];exact fE g (by decide)) o;clear a P up;cbv;exact this
  rw[if_neg c]at P;rw[if_neg c,if_neg c,<-r]at up;rw[decide_eq_false c]at b;have n:=up j e1;rw[P]at a;have:=a j (by rw[e1];exact fE g (by decide)) n;clear a P up Y;cbv;rw[b];cbv;exact this
 rw[if_neg e]at P;rw[decide_eq_false e];rw[P]at a;have:=a h (dI.refl _ _) q;clear a P;cbv;exact this
def Mz(g:Nat->Int):List Value:=[.int .u8 (g 0),.int .u8 (g 1),.int .u8 (g 2),.int .u8 (g 3),.int .u8 (g 4),.int .u8 (g 5),.int .u8 (g 6),.int .u8 (g 7),.int .u8 (g 8),.int .u8 (g 9),.int .u8 (g 10),.int .u8 (g 11),.int .u8 (g 12),.int .u8 (g 13),.int .u8 (g 14),.int .u8 (g 15),.int .u8 (g 16),.int .u8 (g 17),.int .u8 (g 18),.int .u8 (g 19),.int .u8 (g 20),.int .u8 (g 21),.int .u8 (g 22),.int .u8 (g 23),.int .u8 (g 24),.int .u8 (g 25),.int .u8 (g 26),.int .u8 (g 27),.int .u8 (g 28),.int .u8 (g 29),.int .u8 (g 30),.int .u8 (g 31),.int .u8 (g 32),.int .u8 (g 33),.int .u8 (g 34),.int .u8 (g 35),.int .u8 (g 36),.int .u8 (g 37),.int .u8 (g 38),.int .u8 (g 39),.int .u8 (g 40),.int .u8 (g 41),.int .u8 (g 42),.int .u8 (g 43),.int .u8 (g 44),.int .u8 (g 45),.int .u8 (g 46),.int .u8 (g 47),.int .u8 (g 48),.int .u8 (g 49),.int .u8 (g 50),.int .u8 (g 51),.int .u8 (g 52),.int .u8 (g 53),.int .u8 (g 54),.int .u8 (g 55),.int .u8 (g 56),.int .u8 (g 57),.int .u8 (g 58),.int .u8 (g 59),.int .u8 (g 60),.int .u8 (g 61),.int .u8 (g 62),.int .u8 (g 63)]
theorem aKa{b:Bs}(c:b.length=64):∃g,Mz g=aI b:=by
 refine⟨λi=>((b.getD i 0).toNat:Int),?_⟩;have h:Mz (λi=>((b.getD i 0).toNat:Int))=(List.range 64).map λi=>Value.int .u8 ((b.getD i 0).toNat:Int):=rfl;rw[h];apply List.ext_getElem?;intro i;unfold aI;rw[List.getElem?_map,List.getElem?_map];by_cases a:i<64
 .rw[List.getElem?_range a,List.getElem?_eq_getElem (by omega:i<b.length)];simp[List.getElem?_eq_getElem (by omega:i<b.length)]
 rw[List.getElem?_eq_none (by simp;omega),List.getElem?_eq_none (by omega)];rfl
def dC(l:Bs):Bs:=l++List.replicate (64-l.length) 0
theorem py{l:Bs}(h:l.length<=64):(dC l).length=64:=by unfold dC;rw[List.length_append,List.length_replicate];omega
theorem RY{c:Nat}{l:Bs}(q:Sl e bL h (.slice b m c) l):aXs h b m (aI l):=by
 have n:=q.len;subst n;obtain⟨j,cap,e1,k,o,f⟩:=q.out;cases e1;rcases f with rfl| ⟨kE,off,cc,fr,rfl,g,d⟩
 .exact .inl ⟨rfl,rfl⟩
 refine .inr ⟨_,rfl,rfl,by simp[aI],cc,_,fr,g,λi a=>?_⟩;have hx:=d.2 i l[i] (by simp[a]);have hx:((cc.toList.drop (off+i*1)).take 1)=[.int .u8 (l[i].toNat:Int)]:=hx;have:=congrArg (λz=>z[0]?) hx;simp only[List.getElem?_take,List.getElem?_drop]at this;unfold aI;rw[List.getElem?_map,List.getElem?_eq_getElem a];simpa using this
theorem OY{o:Obj}(g:h n=some o):bu h n o=h:=by
 funext b;unfold bu;split
 .rename_i e;rw[e,g]
 rfl
theorem cQw(cs:List Value):∀c:List Value,cs.length<=c.length->fK c 0 cs=cs++c.drop cs.length:=λc hl=>by
 apply List.ext_getElem?;intro j;rw[kM _ _ _ _ (by omega)];by_cases h:j<cs.length
 .rw[if_pos (by omega),List.getElem?_append_left h,Nat.sub_zero]
 rw[if_neg (by omega),List.getElem?_append_right (by omega),List.getElem?_drop];congr 1;omega
theorem ZW{ty:Nat}{c:Nat}{l:Bs}(d:h n=some (.cells (List.toArray (List.replicate 64 (.int .u8 0))) ty (0,0)))(q:Sl e1 bL h (.slice b m c) l)(o:m<=64)
 (f:∀h' g z,h'=bu h n (.cells (List.toArray (Mz g)) ty (0,0))->Mz g=aI (dC l)->k (.int .i64 z) h'):uQ h (some ⟨n,0,none⟩) 64 b m 1 k:=by
 have i:=q.len;obtain⟨g,a⟩:=aKa (py (l:=l) (by omega));have r:(aI l).length=l.length:=by simp[aI]
 have bu:fK (List.replicate 64 (.int .u8 0)) 0 (aI l)=Mz g:=by rw[a,cQw _ _ (by rw[r,List.length_replicate];omega),r,List.drop_replicate];unfold dC aI;rw[List.map_append,List.map_replicate];rfl
 refine⟨aI l,?_,gD l,?_⟩
 .rw[Nat.min_eq_left o,Nat.mul_one];exact RY q
 by_cases j:aI l=[]
 .refine .inl ⟨j,f _ g _ ?_ a⟩;rw[j]at bu;rw[<-bu];exact(OY d).symm
 refine .inr ⟨_,rfl,jr d (by rw[r,List.length_replicate];omega) (λh' e=>f h' g _ ?_ a)⟩;rw[e,bu]
def bg(D:Dk)(n:Int)(l:Bs):Int×Dk:=
 if dV D n l.length≠0 then(dV D n l.length,D)
 else(if(dJ { D with now:=D.now.set n.toNat (dC l),ws:=D.ws++[(n,dC l)] }).1 then 15 else 0,(dJ { D with now:=D.now.set n.toNat (dC l),ws:=D.ws++[(n,dC l)] }).2)
theorem VY(q:lY h p D)(n:Int){c:Nat}{l:Bs}(qb:Sl e1 bL h (.slice b m c) l)(hw:D.ws.length<=2^38)
 (a:∀h',dI dT h h'->lY h' p (bg D n l).2->k (.int .i64 (bg D n l).1) h'):
 Ct 250 [.pointer (some ⟨p,0,none⟩),.int .i64 n,.slice b m c] h k:=by
 obtain⟨A,hA⟩:=Ar.ex;have y:=qb.len;have pG:A .nat m=((l.length:Nat):Int):=by rw[hA.nat,y];rfl
 have w:A .ay .neq (dV D n l.length) 0=decide (dV D n l.length≠0):=av A ..;have u:bg D n l=if dV D n l.length≠0 then(dV D n l.length,D)else(if(dJ { D with now:=D.now.set n.toNat (dC l),ws:=D.ws++[(n,dC l)] }).1 then 15 else 0,(dJ { D with now:=D.now.set n.toNat (dC l),ws:=D.ws++[(n,dC l)] }).2):=rfl
 have M:dV D n l.length=0->aK n n.toNat/\n.toNat<D.now.length/\m<=64:=λx=>by
  unfold dV at x;split at x
  .cases x
  split at x
  .cases x
  rename_i v;have h1:¬n<0:=λg=>v (.inl g);have H:¬n>=(D.now.length:Int):=λg=>v (.inr (.inl g));have I:¬(l.length:Int)>64:=λg=>v (.inr (.inr g));exact⟨⟨by omega⟩,by omega,by omega⟩
 refine bB dXM A Tryz.func250 ?_;cbv;rw[pG];refine Jc q n _ ?_;by_cases z:dV D n l.length≠0
 .rw[if_pos z]at u;rw[u]at a;have:=a h (dI.refl _ _) q;rw[decide_eq_true z]at w;clear a u M;generalize dV D n l.length=r at *;cbv;rw[w];cbv;exact this
 rw[if_neg z]at u;rw[u]at a;have sK:dV D n l.length=0:=by omega
 obtain⟨v,Ui,N⟩:=M sK;rw[decide_eq_false z]at w;rw[sK]at w |-;clear u M z;cbv;rw[w];cbv;intro C h1 zW e1;have l1:Le h h1:=by rw[e1];exact Le.set zW
 have g8:=(congrFun e1 C).trans ae;have q1:=q.le l1;clear e1;cbv;refine ZW g8 (qb.mono (l1.t _)) N (λH g zz K hg=>?_);have l2:Le h H:=l1.aE (bs:=[C]) (by simpa using zW) (by rw[K];exact Kp.set (by simp));have Z:=(congrFun K C).trans ae;have q2:=q.le l2;obtain⟨kb,J,wb,wn,wc,d,F,o1,o2,x1,x2,x3,w2,x4⟩:=q2.out;have UO:=py (l:=l) (by omega);have dv:(some (⟨J,0,none⟩:Addr)).isSome=true/\0<=n/\n<(D.now.length:Int):=⟨rfl,v.ix Ui⟩;obtain⟨P,G⟩:∃P,P=D.now.length:=⟨_,rfl⟩;rw[<-G]at F o1 o2 dv x1 x4;have T:C≠J:=λe=>by
  obtain⟨aj,ao,aF,ar,au,d',g',aH,f,_,_,_,_,_⟩:=q.out;have:=l2 _ _ g';rw[<-G]at this f;rw[F]at this;cases this;rw[<-e]at f;exact f.has zW
 clear K q1;cbv;rw[al A];refine ak F ?_;cbv;refine ak Z ?_;cbv;refine⟨dv,?_⟩;cbv;have hR:nf.R H (Mz g) (dC l):=⟨hg,UO⟩;refine o2.setAt (by decide) (i:=n.toNat) (by omega) v.eq rfl hR (λI k3 t3 o3=>?_);have Pc:C∉[J]:=by simpa using T
 have ag:=k3 _ _ Z Pc;have g3:=t3 [94] (by decide) _ _ _ _ (by simp) F;have Y:=o1.kp k3 (by simpa using x2) (λ_ _ _ _ hm=>by cases hm);have w3:=w2.mono (t3 [213] (by decide));have W:dI dT H I:=k3.x (λb hb o ho=>by
  simp at hb;subst hb;obtain⟨c',vt,-⟩:=o2.out;rw[vt]at ho;cases ho;exact⟨_,_,_,rfl,by decide⟩)
 have Q:wn+1<=2^39:=by have:=w2.sl.len;omega
 cbv;rw[al A];refine ak g3 ?_;cbv;refine ak ag ?_;cbv;intro n9 h4 vq L;have B:Le I h4:=by rw[L];exact Le.set vq
 have q9:Sl 213 Oo h4 (.slice (some ⟨n9,0,none⟩) 1 1) [(n,dC l)]:=aR (s:=Oo) ((congrFun L n9).trans ae) ⟨by
  show .int .i64 n::Mz g=_;rw[hg],UO⟩
 have g4:=B _ _ g3;clear L;cbv;refine ak g4 ?_;cbv;refine⟨⟨_,rfl,rfl⟩,?_⟩;cbv;refine(w3.mono (B.t _)).app q9 (by decide) rfl (by decide) Q (λ_ _ hh=>by cases hh) (λm' b' c' h5 DI _ t5 k5 w5=>?_);have O:=t5 [94] (by decide) _ _ _ _ (by simp) g4;have o5:=(o3.mono (B.t _)).mono (t5 [211] (by decide));have X:=(Y.mono (B.t _)).mono (t5 [211] (by decide));have U:dI dT I h5:=λj o hj bF=>k5 j o (B j o hj) (.inr (.inr (λc fr e=>bF _ _ _ e (by decide))));cbv;rw[al A];refine jr O (by simp) (λS E=>?_);have g6:=(congrFun E p).trans ae;have t6:∀tys,94∉tys->bV tys h5 S:=λtys hh=>by rw[E];exact bV.set O hh
 have V:dI dT h S:=(l2.x _).trans (W.trans (U.trans (by rw[E];exact fE O (by decide))));have q6:lY S p { D with now:=D.now.set n.toNat (dC l),ws:=D.ws++[(n,dC l)] }:=⟨kb,J,b',m',c',d,by
  rw[show(D.now.set n.toNat (dC l)).length=P by rw[List.length_set,G]];exact g6,by
  rw[show(D.now.set n.toNat (dC l)).length=P by rw[List.length_set,G]];exact X.mono (t6 _ (by decide)),by
  rw[show(D.now.set n.toNat (dC l)).length=P by rw[List.length_set,G]];exact o5.mono (t6 _ (by decide)),by
  rw[show(D.now.set n.toNat (dC l)).length=P by rw[List.length_set,G]];exact x1,x2,x3,w5.mono (t6 _ (by decide)),by
  rw[show(D.now.set n.toNat (dC l)).length=P by rw[List.length_set,G]];exact x4⟩
 generalize ({ D with now:=D.now.set n.toNat (dC l),ws:=D.ws++[(n,dC l)] }:Dk)=D1 at *;clear E;cbv;rw[al A];refine aXk q6 (λh7 x7 q7=>?_);have a:=a h7 (V.trans x7) q7;generalize dJ D1=R at *;obtain⟨t,D2⟩:=R;cases t with
 |true=>cbv;exact a
 |false=>cbv;exact a
def cJ(D:Dk):Int×Dk:=if D.dead then(15,D)else if(dJ D).1 then(15,(dJ D).2)else(0,{ (dJ D).2 with kept:=(dJ D).2.now,ws:=[] })
theorem Vq{b:Type}{s:Sh b}{W D P:Nat}{xs ys:List b}(o1:cA e s h W P xs)(o2:cA e s h D P ys)(hx:xs.length=P)(y:ys.length=P)(l:e∉s.tys){a:Nat}(g:a=s.n)
 (m:∀h' z,Kp [W] h h'->(∀tys,e∉tys->bV tys h h')->cA e s h' W P ys->k (.int .i64 z) h'):uQ h (some ⟨W,0,none⟩) P (some ⟨D,0,none⟩) P a k:=by
 subst g;obtain⟨cs,c,d,f,j⟩:=(o2.sl (n:=P) y.symm).jq;have r:Sx.Rows s h cs 0 ys:=by have:=j h (bV.refl _ _) [] [];simpa using this
 refine⟨cs,by rw[Nat.min_self];exact c,f,.inr ⟨⟨W,0,none⟩,rfl,?_⟩⟩;have:=o1.write (ys:=ys) l (i:=0) (by omega) (by omega) (by have:=o2.bd;omega) (cs:=cs) (by rw[d,y]) r (k:=λh'=>k (.int .i64 ((min P P:Nat):Int)) h') (λh' o t o'=>m h' _ o t (by
  have e1:xs.take 0++ys++xs.drop (0+ys.length)=ys:=by rw[List.take_zero,List.nil_append,List.drop_of_length_le (by omega),List.append_nil]
  rw[e1]at o';exact o'))
 rw[Nat.zero_mul]at this;exact this
theorem aZR(q:lY h p D)(c:∀h',dI dT h h'->lY h' p (cJ D).2->k (.int .i64 (cJ D).1) h'):
 Ct 252 [.pointer (some ⟨p,0,none⟩)] h k:=by
 have a:cJ D=if D.dead then(15,D)else if(dJ D).1 then(15,(dJ D).2)else(0,{ (dJ D).2 with kept:=(dJ D).2.now,ws:=[] }):=rfl
 refine an dXK Tryz.func252 λA L=>?_;cbv;rw[al A];refine aJb q ?_;cases hd:D.dead with
 |true=>rw[hd]at a;have a:cJ D=(15,D):=a;rw[a]at c;have:=c h (dI.refl _ _) q;clear c a;cbv;exact this
 |false=>
  rw[hd]at a;have a:cJ D=if(dJ D).1 then(15,(dJ D).2)else(0,{ (dJ D).2 with kept:=(dJ D).2.now,ws:=[] }):=a
  rw[a]at c;clear a;cbv;rw[al A];refine aXk q (λl x i=>?_);generalize dJ D=R at *;obtain⟨t,D1⟩:=R;cases t with
  |true=>have:=c l x i;clear c;cbv;exact this
  |false=>
   have c:∀h',dI dT h h'->lY h' p { D1 with kept:=D1.now,ws:=[] }->k (.int .i64 0) h':=c;have i:lY l p D1:=i;obtain⟨C,E,wb,M,wc,d,g,o1,o2,y1,y2,y3,w,y4⟩:=i.out;obtain⟨P,G⟩:∃P,P=D1.now.length:=⟨_,rfl⟩;rw[<-G]at g o1 o2 y1 y4;cbv;rw[al A];refine ak g ?_;cbv;rw[al A];refine ak g ?_;cbv;refine Vq o1 o2 y1 G.symm (by decide) rfl (λm z s I X=>?_);have j:=I [94] (by decide) _ _ _ _ (by simp) g;have H:=o2.kp s (by simpa using Ne.symm y2) (λ_ _ _ _ B=>by cases B);have K:dI dT l m:=s.x (λb n o r=>by
    simp at n;subst n;obtain⟨c',J,-⟩:=o1.out;rw[J]at r;cases r;exact⟨_,_,_,rfl,by decide⟩)
   cbv;rw[al A];refine jr j (by simp) (λf e=>?_);have v:=(congrFun e p).trans ae;have u:∀tys,94∉tys->bV tys m f:=λtys y=>by rw[e];exact bV.set j y
   have F:lY f p { D1 with kept:=D1.now,ws:=[] }:=⟨C,E,none,0,0,d,by
    show f p=some (.cells (List.toArray [_,_,.slice _ D1.now.length _,.slice _ D1.now.length D1.now.length,_]) _ _);rw[<-G];exact v,by
    show cA _ _ _ _ D1.now.length _;rw[<-G];exact X.mono (u _ (by decide)),by
    show cA _ _ _ _ D1.now.length _;rw[<-G];exact H.mono (u _ (by decide)),rfl,y2,y3,aU.nil,by
    show D1.now.length<=4096;rw[<-G];exact y4⟩
   have:=c f (x.trans (K.trans (by rw[e];exact fE j (by decide)))) F;clear e c;cbv;exact this
def cS(D:Dk)(pg:Nat)(b:Bs):Int×Dk:=
 if h:b=[]then cJ D
 else if(bg D pg (b.take 64)).1≠0 then bg D pg (b.take 64)
 else cS (bg D pg (b.take 64)).2 (pg+1) (b.drop 64)
 termination_by b.length
 decreasing_by
 have:=List.length_pos_iff.2 h;simp only[List.length_drop];omega
def bO(D:Dk)(at_:Nat)(b:Bs):Int×Dk:=
 if at_ % 64=0 then cS D (1+at_ / 64) b
 else if dV D ((1+at_ / 64:Nat):Int) 0≠0 then(dV D ((1+at_ / 64:Nat):Int) 0,D)
 else cS D (1+at_ / 64) ((cH D ((1+at_ / 64:Nat):Int)).take (at_ % 64)++b)
theorem BB(D:Dk):(dJ D).2.ws=D.ws:=by
 unfold dJ;split
 .split<;>rfl
 rfl
theorem xZ(D:Dk)(n:Int)(l:Bs):(bg D n l).2.ws.length<=D.ws.length+1:=by
 unfold bg;split
 .exact Nat.le_succ _
 rw[BB];simp
theorem aKc{lg:Nat}{cn:Int}(q:lY h p D){s:Nat}(hz:aK z s)(ql:EX h lg p z cn){c:Nat}{l:Bs}(qb:Sl 5 bL h (.slice b m c) l)(hs:s<=2^30)(hm:m<=2^30)(hw:D.ws.length<=2^30)
 (o:∀h',dI dT h h'->lY h' p (bO D s l).2->k (.int .i64 (bO D s l).1) h'):
 Ct 248 [.pointer (some ⟨lg,0,none⟩),.slice b m c] h k:=by
 obtain⟨A,H⟩:=Ar.ex;have aN:=qb.len;have kI:A .ay .neq 0 0=false:=by rw[av A];rfl
 have P:bO D s l=if s % 64=0 then cS D (1+s / 64) l
  else if dV D ((1+s / 64:Nat):Int) 0≠0 then(dV D ((1+s / 64:Nat):Int) 0,D)
  else cS D (1+s / 64) ((cH D ((1+s / 64:Nat):Int)).take (s % 64)++l):=rfl
 have wX:A .aC .rem .i64 z 64=((s % 64:Nat):Int):=by rw[H.aC,hz.eq];show((s:Int)).tmod 64=_;rw[Int.tmod_eq_emod_of_nonneg (by omega)];omega
 have yU:A .aC .add .i64 1 (A .aC .quo .i64 z 64)=((1+s / 64:Nat):Int):=by
  have t:A .aC .quo .i64 z 64=((s / 64:Nat):Int):=by rw[H.aC,hz.eq];show IntKind.i64.wrap (((s:Int)).tdiv 64)=_;rw[Int.tdiv_eq_ediv_of_nonneg (by omega),IntWalk.i64_in _ (by omega)];omega
  rw[t,H.aC];show IntKind.i64.wrap (1+((s / 64:Nat):Int))=_;rw[IntWalk.i64_in _ (by omega)];omega
 have f1:A .ay .gtr (A .aC .rem .i64 z 64) 0=decide (¬s % 64=0):=by rw[wX,aX A];exact decide_eq_decide.2 (by omega)
 obtain⟨pg,ag⟩:∃pg,pg=1+s / 64:=⟨_,rfl⟩;obtain⟨v,S⟩:∃v:Int,v=((pg:Nat):Int):=⟨_,rfl⟩;rw[<-ag]at P yU;rw[<-S]at P yU;have ar:aK v pg:=⟨S⟩;have aW:pg<=2^31:=by omega
 obtain⟨C,V⟩:∃C:(Option Addr×Nat×Nat)->ab->Prop,∀g t,C g t=(Le h t/\∃B,Sl 5 bL t (.slice g.1 g.2.1 g.2.2) B/\bO D s l=cS D pg B/\B.length<=2^30+64):=⟨_,λ_ _=>rfl⟩;obtain⟨J,Z⟩:∃J:Nat->((Option Addr×Nat×Nat)×Int)->ab->Prop,∀w g h',J w g h'=(∃f d u,aK g.2 d/\w=g.1.2.1/\lY h' p f/\dI dT h h'/\Sl 5 bL h' (.slice g.1.1 g.1.2.1 g.1.2.2) u/\bO D s l=cS f d u/\d+u.length<=2^33/\f.ws.length+u.length<=2^33):=⟨_,λ_ _ _=>rfl⟩;have N:∀g t,C g t->J g.2.1 (g,v) t:=λg t x=>by
  rw[V]at x;obtain⟨B,Y,s1,E,hl⟩:=x;rw[Z];exact⟨D,pg,Y,ar,rfl,q.le B,B.x _,s1,E,by omega,by omega⟩
 refine EN A [false,false,false,true] (ai dXO.au dXO.aN) Tryz.func248 rfl (by kernel_rfl) ?_;cbv;rw[al A];refine FL (bY ql.out rfl) ?_;cbv;refine⟨by decide,?_⟩;cbv;rw[yU];refine ny.go (G:=Option Addr×Nat×Nat) (λg=>[(1,.v (.slice g.1 g.2.1 g.2.2))]) (λ_=>[]) C ?_ ?_
 .cbv;refine⟨by decide,?_⟩;cbv;rw[f1];by_cases c1:s % 64=0
  .rw[if_pos c1]at P;have hC:C (b,m,c) h:=by rw[V];exact⟨Le.refl _,l,qb,P,by omega⟩
   rw[decide_eq_false (λg=>g c1)];clear V N Z o P;cbv;refine⟨(b,m,c),by constructor<;>cbv,hC⟩
  rw[if_neg c1]at P;rw[decide_eq_true c1];have iU:s % 64<64:=Nat.mod_lt _ (by decide);generalize s % 64=r at *;cbv;rw[al A];refine ak ql.out ?_;cbv;refine Wd q v (λbF=>?_) (λE t b1 eY B KI q1=>?_)
  .rw[if_pos bF]at P;rw[P]at o;have:=o h (dI.refl _ _) q;have f2:A .ay .neq (dV D v 0) 0=true:=by rw[av A];exact decide_eq_true bF
   clear V N Z o P;generalize dV D v 0=e at *;cbv;rw[f2];cbv;exact this
  rw[if_neg (λg=>g E)]at P;have Q:aK (A .aC .rem .i64 z 64) r:=⟨wX⟩;have dv:0<=A .aC .rem .i64 z 64/\A .aC .rem .i64 z 64<=(eY:Int):=by have:=q1.sl.bound;have h9:=Q.eq;omega
  have dd:=cM (A:=A) Q;have tk:=q1.sl.sg (A:=A) (z:=A .nat eY) (i:=r) (by omega) rfl;have U:∀h',Le h h'->∀b2 n2 c2,Sl 5 bL h' (.slice b2 n2 c2) ((cH D v).take r++l)->C (b2,n2,c2) h':=λh' l' b2 n2 c2 s'=>by
   rw[V];exact⟨l',_,s',P,by rw[List.length_append,List.length_take];omega⟩
  have ha:([(cH D v).take r,l]:List Bs).flatten=(cH D v).take r++l:=by simp
  have Zl:((cH D v).take r++l).length<=2^38:=by rw[List.length_append,List.length_take];omega
  clear V N Z o P;generalize cH D v=pb at *;cbv;rw[kI];cbv;refine⟨by decide,?_⟩;cbv;refine⟨dv,?_⟩;cbv;rw[dd];intro n2 h2 dZ e2;have Y:Le t h2:=by rw[e2];exact Le.set dZ
  have g2:=(congrFun e2 n2).trans ae;clear e2;cbv;refine xH (L:=[pb.take r,l]) (mM (s:=Ah) rfl g2 (dE (tk.mono (Y.t _))) (dE (qb.mono ((B.trans Y).t _)))) (by rw[ha];exact Zl) (λF b' n' c' l3 q3=>?_);rw[ha]at q3;have hC:=U F ((B.trans Y).trans l3) b' n' c' q3.sl;clear U;cbv;refine⟨(b',n',c'),by constructor<;>cbv,hC⟩
 intro g t x;have hJ:=N g t x;clear N V x;cbv;obtain⟨X,j,y⟩:=g;refine aG.go (G:=(Option Addr×Nat×Nat)×Int) (λg=>[(1,.v (.slice g.1.1 g.1.2.1 g.1.2.2)),(6,.v (.int .i64 g.2))]) (λ_=>[]) (λw g h'=>J w g h') j ((X,j,y),v) (by constructor<;>cbv) hJ ?_
 intro w g h2 hI;rw[Z]at hI;cbv;obtain⟨⟨X,j,y⟩,zp⟩:=g;obtain⟨f,d,u,Qv,hw,d2,x2,s2,E,jH,fN⟩:=hI;have Qv:aK zp d:=Qv;have hw:w=j:=hw;have s2:Sl 5 bL h2 (.slice X j y) u:=s2;have nj:=s2.len;have iW:=s2.bound;have O:=ql.lt (x2.t (by decide));have f2:A .ay .gtr (A .nat j) 0=decide (u≠[]):=by
  rw[aX A,H.nat];refine decide_eq_decide.2 ?_;rw[Int.ofNat_eq_natCast,nj];constructor
  .intro h e;rw[e]at h;simp at h
  intro h;have:=List.length_pos_iff.2 h;omega
 have I:cS f d u=if h:u=[]then cJ f
  else if(bg f d (u.take 64)).1≠0 then bg f d (u.take 64)
  else cS (bg f d (u.take 64)).2 (d+1) (u.drop 64):=by rw[cS]
 have sI:=xZ f d (u.take 64);rw[f2];by_cases x:u=[]
 .rw[dif_pos x]at I;rw[E,I]at o;rw[decide_eq_false (λg=>g x)];clear Z hJ I sI;cbv;rw[al A];refine ak O.out ?_;cbv;refine aZR d2 (λF x3 T=>?_);have:=o F (x2.trans x3) T;clear o;generalize cJ f=R at *;obtain⟨e,K⟩:=R;cbv;exact this
 rw[dif_neg x]at I;rw[decide_eq_true x];have kY:=List.length_pos_iff.2 x;obtain⟨a,qJ⟩:∃a,a=min j 64:=⟨_,rfl⟩;have DH:A .ku (A .nat j) 64=A .nat a:=by rw[H.ku,H.nat,qJ];show min (j:Int) 64=((min j 64:Nat):Int);omega
 have W:aK (A .nat a) a:=aK.nat a;have lr:0<=A .nat a/\A .nat a<=(y:Int):=by have:=W.eq;omega
 have iG:0<=A .nat a/\A .nat a<=(j:Int):=by have:=W.eq;omega
 have PG:=cM (A:=A) W;have GW:=bQ (A:=A) (n:=j) W;have Nq:=bQ (A:=A) (n:=y) W;have tk:=s2.sg (A:=A) (z:=A .nat y) (i:=a) (by omega) rfl;have td:=s2.iH (A:=A) W (by omega) rfl rfl;have ao:u.take a=u.take 64:=by rw[qJ,nj,Nat.min_comm,<-List.take_eq_take_min]
 have aH:u.drop a=u.drop 64:=by
  rw[qJ,nj];by_cases hh:u.length<=64
  .rw[Nat.min_eq_left hh,List.drop_of_length_le (Nat.le_refl _),List.drop_of_length_le hh]
  rw[Nat.min_eq_right (by omega)]
 rw[ao]at tk;rw[aH]at td;have fa:=Qv.succ (A:=A);have aj:f.ws.length<=2^38:=by omega
 have M:∀h',(bg f d (u.take 64)).1=0->dI dT h h'->lY h' p (bg f d (u.take 64)).2->Sl 5 bL h' (.slice (A .cut X (A .nat a) (A .nat y) 1) (j-a) (y-a)) (u.drop 64)->
  J (j-a) ((A .cut X (A .nat a) (A .nat y) 1,j-a,y-a),A .aC .add .i64 zp 1) h':=λh' h0 x' d' s'=>by
  rw[Z];rw[if_neg (λg=>g h0)]at I;refine⟨_,d+1,_,fa,rfl,d',x',s',by rw[E,I],?_,?_⟩
  .rw[List.length_drop];omega
  rw[List.length_drop];omega
 have aF:j-a<w:=by omega
 have ez:bg f zp (u.take 64)=bg f d (u.take 64):=by rw[Qv.eq]
 clear Z hJ fa;cbv;rw[DH,al A];refine ak O.out ?_;cbv;refine⟨lr,?_⟩;cbv;rw[PG];refine VY d2 zp tk aj (λF x3 T=>?_);rw[ez]at T |-;clear ez;have M:=M F;have au:=td.mono (x3.t (by decide));have hx:=x2.trans x3;rw[E,I]at o;clear I E sI;generalize Cj:bg f d (u.take 64)=R at *;obtain⟨e,K⟩:=R;have f3:A .ay .neq e 0=decide (e≠0):=av A ..;by_cases xi:e≠0
 .have o:∀h',dI dT h h'->lY h' p (if e≠0 then(e,K)else cS K (d+1) (u.drop 64)).2->k (.int .i64 (if e≠0 then(e,K)else cS K (d+1) (u.drop 64)).1) h':=o;rw[if_pos xi]at o;have:=o F hx T;rw[decide_eq_true xi]at f3;clear o M;cbv;rw[f3];cbv;exact this
 have gU:=M (by show e=0;omega) hx T au;rw[decide_eq_false xi]at f3;clear o M;cbv;rw[f3];cbv;refine⟨iG,?_⟩;cbv;rw[GW,Nq];refine⟨j-a,((_,_,_),A .aC .add .i64 zp 1),aF,by constructor<;>cbv,gU⟩
end Go.S
