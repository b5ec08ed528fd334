import Derived.Test.YtekoaiendgjkdaaGreatEA
import Derived.Test.YtekoaiendgjkdaaGreatRd
set_option linter.unusedVariables false
set_option linter.unusedSimpArgs false
set_option linter.unusedSectionVars false
set_option maxRecDepth 100000
namespace Go.S
open Go.Sx Go.Proofs
def fE(w:bZ)(H:List bZ):List (Int×Int):=(H.filter (fY w)).map fun h=>(w.s,h.s)
def cI(H W:List bZ):List (Int×Int):=W.flatMap fun w=>fE w H
def cR(E:List (Int×Int))(a:Int):List Int:=(E.filter fun p=>decide (p.1=a)).map (·.2)
structure XU where
 a:Int
 nb:Nat
 cap:Nat
structure Rg(h0 h:ad)(m:Nat)(E:List (Int×Int)):Prop where
 out:∃G:List XU,Mp h m (.int .i64) (G.map fun g=>(.int .i64 g.a,.slice (some ⟨g.nb,0,none⟩) (cR E g.a).length g.cap))/\(G.map (·.nb)).Nodup/\(∀g∈G,h0 g.nb=none/\dI 3 dR h g.nb g.cap (cR E g.a))/\∀a,cR E a≠[]->∃g∈G,g.a=a
def de(h:ad)(n:Nat):ad:=fun b=>if b=n then none else h b
structure Tk(h0 h:ad)(m:Nat)(E:List (Int×Int))(a:Int)(v:Value):Prop where
 out:∃hb,Le h0 hb/\Le hb h/\cX 3 dR hb h v (cR E a)/\
  ∀h' v' x,Le hb h'->cX 3 dR hb h' v' (cR E a++[x])->∀k:Value->ad->Prop,(∀me,Rg h0 me m (E++[(a,x)])->Kp [m] h' me->(∀a5,cF a5 h' me)->k undef me)->
   dq (fun _=>Tryz.prog) (fun _=>do Instr.mapUpdate 402 (.map (some m)) (.int .i64 a) v';pure undef) h' k
def fX(st:List Int×List Int)(k:Int):List Int×List Int:=if decide (k∈st.1)=true then st else(st.1++[k],st.2++[k])
def XR(E:List (Int×Int)):Nat->List Int×List Int->List Int
 |0,st=>st.1
 |n+1,st=>match st.2 with
  | []=>st.1
  |a::r=>XR E n ((cR E a).foldl fX (st.1,r))
def over(E:List (Int×Int))(s:Int):List Int:=XR E (E.length+2) ([],[s])
def yi(E:List (Int×Int))(seen:List Int):Nat:=(E.filter fun p=> !decide (p.2∈seen)).length
abbrev sJ(l:List Int):List (Value×Value):=l.map fun k=>(.int .i64 k,.bool true)
structure WW(E:List (Int×Int))(s v:Int)(t:Bool):Prop where
 out:(t=false/\v=0/\s∉over E s)\/(t=true/\s∈over E s/\s<=v/\(v=s\/(v∈over E s/\s∈over E v))/\∀k∈over E s,s∈over E k->k<=v)
def nZ(E:List (Int×Int))(s:Int)(l:List Int)(m:Int):Int:=l.foldl (fun m k=>if decide (k>m)&&decide (s∈over E k)then k else m) m
def dt(E:List (Int×Int))(s:Int):Int×Bool:=if decide (s∈over E s)=true then(nZ E s (over E s) s,true)else(0,false)
def dz(W:List (dO×Bool))(s:Int):List Int:=W.map fun x=>IntKind.i64.wrap (x.1.s-s)
def aR(T:List cE)(name:ByteArray):List Int:=T.map fun x=>eX x.S.name name
def DX(T:List cE)(W:List (dO×Bool))(s:Int)(name:ByteArray):Bool:=lK (dz W s)&&lK (aR T name)
def ie(T:List cE)(W:List (dO×Bool))(H:List bZ)(hd:bZ):List bZ:=if DX T W hd.s hd.table=true then cd H hd else H
def ic(T:List cE)(W:List (dO×Bool))(H Wt:List bZ)(hd:bZ):List bZ:=if DX T W hd.s hd.table=true then cV H Wt hd else Wt
def ih(T:List cE)(W:List (dO×Bool))(H:List bZ)(hd:bZ):Int:=if DX T W hd.s hd.table=true then if bF H hd=true then 0 else 16 else 2
def jX:ByteArray:=⟨#[]⟩
def cJ(r:Row)(t:cE):cE×iX×Int:=((bI t r).1,⟨jX,1,r⟩,(bI t r).2)
def LG(k:dg)(t:cE):cE×iX×Int:=if t.S.only=true then(t,⟨jX,0,[]⟩,19)else((cK t k).1,⟨jX,2,(cK t k).2.1⟩,(cK t k).2.2)
end Go.S
