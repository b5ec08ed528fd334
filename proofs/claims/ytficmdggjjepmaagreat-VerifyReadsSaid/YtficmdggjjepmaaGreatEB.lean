import Derived.Test.YtficmdggjjepmaaGreatEA
set_option linter.all false
set_option maxRecDepth 100000
namespace Go.S
open Go.Sx Go.Proofs
def fQ(w:bJ)(H:List bJ):List (Int×Int):=(H.filter (fS w)).map λh=>(w.s,h.s)
def cH(H W:List bJ):List (Int×Int):=W.flatMap λw=>fQ w H
def cN(E:List (Int×Int))(a:Int):List Int:=(E.filter λp=>decide (p.1=a)).map (·.2)
structure bXo where
 a:Int
 nb:Nat
 cap:Nat
structure Rg(h0 h:ab)(m:Nat)(E:List (Int×Int)):Prop where
 out:∃G:List bXo,Mp h m (.int .i64) (G.map λg=>(.int .i64 g.a,.slice (some ⟨g.nb,0,none⟩) (cN E g.a).length g.cap))/\(G.map (·.nb)).Nodup/\(∀g∈G,h0 g.nb=none/\cM 3 dm h g.nb g.cap (cN E g.a))/\∀a,cN E a≠[]->∃g∈G,g.a=a
def eS(h:ab)(n:Nat):ab:=λb=>if b=n then none else h b
structure Tk(h0 h:ab)(m:Nat)(E:List (Int×Int))(a:Int)(v:Value):Prop where
 out:∃hb,Le h0 hb/\Le hb h/\aT 3 dm hb h v (cN E a)/\
  ∀h' v' x,Le hb h'->aT 3 dm hb h' v' (cN E a++[x])->∀k:Value->ab->Prop,(∀ux,Rg h0 ux m (E++[(a,x)])->Kp [m] h' ux->(∀tys,cf tys h' ux)->k undef ux)->
   dF (λ_=>Tryz.prog) (λ_=>do Instr.mapUpdate 499 (.map (some m)) (.int .i64 a) v';pure undef) h' k
def ei(st:List Int×List Int)(k:Int):List Int×List Int:=if decide (k∈st.1)=true then st else(st.1++[k],st.2++[k])
def aKo(E:List (Int×Int)):Nat->List Int×List Int->List Int
 |0,st=>st.1
 |n+1,st=>match st.2 with
  | []=>st.1
  |a::r=>aKo E n ((cN E a).foldl ei (st.1,r))
def over(E:List (Int×Int))(s:Int):List Int:=aKo E (E.length+2) ([],[s])
def CE(E:List (Int×Int))(seen:List Int):Nat:=(E.filter λp=> !decide (p.2∈seen)).length
structure aKw(E:List (Int×Int))(s v:Int)(t:Bool):Prop where
 out:(t=false/\v=0/\s∉over E s)\/(t=true/\s∈over E s/\s<=v/\(v=s\/(v∈over E s/\s∈over E v))/\∀k∈over E s,s∈over E k->k<=v)
def lK(E:List (Int×Int))(s:Int)(l:List Int)(m:Int):Int:=l.foldl (λm k=>if decide (k>m)&&decide (s∈over E k)then k else m) m
def dw(E:List (Int×Int))(s:Int):Int×Bool:=if decide (s∈over E s)=true then(lK E s (over E s) s,true)else(0,false)
theorem iL.elim{h:ab}{c l wb t w:Nat}{T:List bM}{W:List (eG×Bool)}{H m:List bJ}{e:Int}(q:iL h c l wb t w T W H m e){p:Prop}
 (k:∀(n g:Nat) (b:Option Addr) (i d:Nat) (a:Option Addr) (j f:Nat) (o:Int),h c=some (.cells #[.slice (some ⟨l,0,none⟩) n t,.slice (some ⟨wb,0,none⟩) g w,.slice b i d,.slice a j f,.int .u32 o,.int .i32 0,.int .u32 0,.int .i64 e] 226 (0,0))->
  ((o=0/\e=0)\/(o=1/\e≠0))->n=T.length->cM 100 bu h l t T->g=W.length->cM 211 bP h wb w W->Sl 316 bf h (.slice b i d) H->Sl 316 bf h (.slice a j f) m->
  gv h (.agg #[.slice (some ⟨l,0,none⟩) n t,.slice (some ⟨wb,0,none⟩) g w,.slice b i d,.slice a j f]) ⟨T,W.map (·.1),H,m⟩->p):p:=by
 obtain⟨n,g,b,i,d,a,j,f,o,z,A,r,s,u,v,x,y⟩:=q.out;exact k n g b i d a j f o z A r s u v x y ⟨_,_,_,_,_,_,_,_,_,_,_,_,W,rfl,s.sl r,v.sl u,x,y,rfl⟩
theorem oE{d:DB}{h:ab}{v:Value}(q:gv h v d){k:Value->ab->Prop}
 (i:∀h' c t wb a b W,Le h h'->h c=none->h t=none->h wb=none->c≠t->c≠wb->W=(d.aj.map λw=>(w,true))->a=d.al.length->b=W.length->iL h' c t wb a b d.al W d.holds d.waits 0->k (.pointer (some ⟨c,0,none⟩)) h'):Ct 76 [v] h k:=
 (zb q).mono (λv h' hR=>by
  obtain⟨l,c,t,wb,a,b,W,j,g,n,y,p,o,f,e,O,cs⟩:=hR;rw[j];exact i h' c t wb a b W l g n y p o f e O cs)
def aF(T:List bM)(name:ByteArray):List Int:=T.map λx=>cU x.S.name name
def je:ByteArray:=⟨#[]⟩
end Go.S
