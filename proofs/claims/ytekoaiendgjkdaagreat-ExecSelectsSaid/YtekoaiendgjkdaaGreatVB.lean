import Derived.Test.YtekoaiendgjkdaaGreatVA
import Derived.Test.YtekoaiendgjkdaaGreatSxC
set_option linter.unusedVariables false
set_option linter.unusedSimpArgs false
set_option linter.unusedSectionVars false
set_option maxRecDepth 100000
set_option maxHeartbeats 8000000
namespace Go.S
open Go.Sx Go.Proofs
structure PT(h:ad)(pb:Nat)(s:PS):Prop where
 out:gX false (Sx.de h pb) h pb s
def mL(pb:Nat)(h h':ad):Prop:=Le (Sx.de h pb) h'
abbrev q8(h:ad)(v:Value)(l:List Nd):Prop:=Sl 325 dh h v l
def cm:Sh dG where
 n:=2
 R h cs t:=∃b n c,cs=[.int .i64 t.fn,.slice b n c]/\Sl 325 dh h (.slice b n c) t.e
 len:=by rintro h cs x ⟨_,_,_,rfl,-⟩;rfl
 one:=by rintro h cs x ⟨_,_,_,rfl,-⟩;rfl
 a5:=[325]
 mono:=by rintro h h' cs x hl ⟨b,n,c,rfl,q⟩;exact⟨b,n,c,rfl,q.mono (hl.sub (by decide))⟩
abbrev fB:Sh (List Nd):=jU 325 dh
structure Qu(h:ad)(v:Value)(st:az):Prop where
 out:∃b1 n1 c1 b2 n2 c2 b3 n3 c3 b4 n4 c4 b5 n5 c5 b6 n6 c6,v=.agg #[.int .i64 st.kind,.string st.mS.name,.slice b1 n1 c1,.int .i64 st.mS.key,.bool st.mS.only,.string st.table,.string st.join,.slice b2 n2 c2,.slice b3 n3 c3,.slice b4 n4 c4,.slice b5 n5 c5,.slice b6 n6 c6,.string st.group,.string st.order,.bool st.desc,.int .i64 st.fw,.string st.name]/\
  Sl 165 bt h (.slice b1 n1 c1) st.mS.a2/\Sl 325 dh h (.slice b2 n2 c2) st.on/\Sl 9 cB h (.slice b3 n3 c3) st.names/\Sl 42 fB h (.slice b4 n4 c4) st.exprs/\Sl 276 cm h (.slice b5 n5 c5) st.items/\Sl 325 dh h (.slice b6 n6 c6) st.bM
abbrev qc(k:Int)(sn:ByteArray)(b1:Option Addr)(n1 c1:Nat)(ky:Int)(on:Bool)(tb jn:ByteArray)(b2:Option Addr)(n2 c2:Nat)(b3:Option Addr)(n3 c3:Nat)(b4:Option Addr)(n4 c4:Nat)(b5:Option Addr)(n5 c5:Nat)(b6:Option Addr)(n6 c6:Nat)(gr od:ByteArray)(ds:Bool)(lm:Int)(nm:ByteArray):Value:=
 .agg #[.int .i64 k,.string sn,.slice b1 n1 c1,.int .i64 ky,.bool on,.string tb,.string jn,.slice b2 n2 c2,.slice b3 n3 c3,.slice b4 n4 c4,.slice b5 n5 c5,.slice b6 n6 c6,.string gr,.string od,.bool ds,.int .i64 lm,.string nm]
set_option maxHeartbeats 16000000
def PX(p:PS):List dG×PS:=match p.is (ax [42])with
 | (true,p)=>([],p)
 | (false,p)=>hG ao (p.ws.length+1) [] p
def PW(p:PS):ByteArray×PS:=(p.cg [(ax [102,114,111,109])]).name ao
def Ni(p:PS):(ByteArray×List Nd)×PS:=match p.is (ax [106,111,105,110])with
 | (true,p)=>let a:=p.name ao;let e:=(a.2.cg [(ax [111,110])]).expr ao;((a.1,e.1),e.2)
 | (false,p)=>((b0,[]),p)
def RY(p:PS):ByteArray×PS:=match p.is (ax [103,114,111,117,112])with
 | (true,p)=>(p.cg [(ax [98,121])]).column ao
 | (false,p)=>(b0,p)
def XQ(p:PS):(ByteArray×Bool)×PS:=match p.is (ax [111,114,100,101,114])with
 | (true,p)=>let c:=(p.cg [(ax [98,121])]).column ao;let d:=c.2.is (ax [100,101,115,99]);((c.1,d.1),d.2)
 | (false,p)=>((b0,false),p)
def XP(p:PS):Int×PS:=match p.is (ax [108,105,109,105,116])with
 | (true,p)=>(match p.ws with
  |w::r=>if w.k=2 then(w.n,({ p with ws:=r }:PS))else((-1:Int),p.fail 6)
  | []=>(-1,p))
 | (false,p)=>(-1,p)
def r9(s:PS)(pb:Nat)(h:ad)(g:Option Addr×Nat×Nat)(h':ad):Prop:=∃l s1,PX s=(l,s1)/\Sl 276 cm h' (.slice g.1 g.2.1 g.2.2) l/\PT h' pb s1/\mL pb h h'/\s1.ws.length<=s.ws.length
abbrev j5:=(Option Addr×Nat×Nat)×ByteArray×ByteArray×Option Addr×Nat×Nat
def r8(s:PS)(pb:Nat)(h:ad)(g:j5)(h':ad):Prop:=∃l s1 s2 on s3,PX s=(l,s1)/\PW s1=(g.2.1,s2)/\Ni s2=((g.2.2.1,on),s3)/\Sl 276 cm h' (.slice g.1.1 g.1.2.1 g.1.2.2) l/\Sl 325 dh h' (.slice g.2.2.2.1 g.2.2.2.2.1 g.2.2.2.2.2) on/\PT h' pb s3/\mL pb h h'/\s3.ws.length<=s.ws.length
abbrev j4:=j5×(Option Addr×Nat×Nat)×ByteArray
def r7(s:PS)(pb:Nat)(h:ad)(g:j4)(h':ad):Prop:=∃l s1 s2 on s3 wh s4 s5,PX s=(l,s1)/\PW s1=(g.1.2.1,s2)/\Ni s2=((g.1.2.2.1,on),s3)/\s3.bM ao=(wh,s4)/\RY s4=(g.2.2,s5)/\Sl 276 cm h' (.slice g.1.1.1 g.1.1.2.1 g.1.1.2.2) l/\Sl 325 dh h' (.slice g.1.2.2.2.1 g.1.2.2.2.2.1 g.1.2.2.2.2.2) on/\Sl 325 dh h' (.slice g.2.1.1 g.2.1.2.1 g.2.1.2.2) wh/\PT h' pb s5/\mL pb h h'/\s5.ws.length<=s.ws.length
abbrev o5:=j4×ByteArray×Bool
def r6(s:PS)(pb:Nat)(h:ad)(g:o5)(h':ad):Prop:=∃l s1 s2 on s3 wh s4 s5 s6,PX s=(l,s1)/\PW s1=(g.1.1.2.1,s2)/\Ni s2=((g.1.1.2.2.1,on),s3)/\s3.bM ao=(wh,s4)/\RY s4=(g.1.2.2,s5)/\XQ s5=((g.2.1,g.2.2),s6)/\Sl 276 cm h' (.slice g.1.1.1.1 g.1.1.1.2.1 g.1.1.1.2.2) l/\Sl 325 dh h' (.slice g.1.1.2.2.2.1 g.1.1.2.2.2.2.1 g.1.1.2.2.2.2.2) on/\Sl 325 dh h' (.slice g.1.2.1.1 g.1.2.1.2.1 g.1.2.1.2.2) wh/\PT h' pb s6/\mL pb h h'/\s6.ws.length<=s.ws.length
def ek(t:ByteArray):Bool:=match (iE t).1 with
 |w::_=> !(decide (w.s=ax [99,114,101,97,116,101]))
 | []=>true
end Go.S
