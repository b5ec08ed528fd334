import Derived.Test.YtekoaiendgjkdaaGreatSxA
set_option linter.unusedVariables false
set_option linter.unusedSimpArgs false
set_option linter.unusedSectionVars false
namespace Go.S
def YX{α:Type}(lt:α->α->Bool)(x:α):List α->List α
 | []=>[x]
 |y::r=>if lt y x=true then y::YX lt x r else x::y::r
def Je{α:Type}(lt:α->α->Bool):List α->List α
 | []=>[]
 |x::r=>YX lt x (Je lt r)
structure q4{α:Type}(lt:α->α->Bool):Prop where
 qv:∀x,lt x x=false
 tr:∀x y z,lt x y=true->lt y z=true->lt x z=true
 qg:∀x y z,lt x y=false->lt y z=false->lt x z=false
abbrev Tg(α:Type):=α×Nat
def lx{α:Type}(lt:α->α->Bool)(x y:Tg α):Prop:=lt x.1 y.1=true\/(lt y.1 x.1=false/\x.2<y.2)
def r0{α:Type}(l:List (Tg α)):Prop:=l.Pairwise fun x y=>x.2<y.2
def ql{α:Type}(lt:α->α->Bool)(x y:Tg α):Bool:=lt x.1 y.1||(!lt y.1 x.1&&decide (x.2<y.2))
def hy{α:Type}:Nat->List α->List (Tg α)
 |_,[]=>[]
 |n,x::r=>(x,n)::hy (n+1) r
end Go.S
