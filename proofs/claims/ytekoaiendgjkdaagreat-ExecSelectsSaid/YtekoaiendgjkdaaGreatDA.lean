import Derived.Test.YtekoaiendgjkdaaGreatTab
import Derived.Test.YtekoaiendgjkdaaGreatRd
set_option linter.unusedVariables false
set_option linter.unusedSimpArgs false
set_option linter.unusedSectionVars false
set_option maxRecDepth 100000
namespace Go.S
open Go.Sx Go.Proofs
abbrev Ct(f:FuncId)(args:List Value)(h:ad)(R:Value->ad->Prop):Prop:=IC (fun _=>Tryz.prog) f args h R
abbrev r4(f:FuncId)(args:List Value)(h:ad)(R:Value->ad->Prop):Prop:=H4 (fun _=>Tryz.prog) f args h R
structure dg where
 k:Int
 n:Int
 s:ByteArray
def bq:Sh dg where
 n:=3
 R _ cs v:=cs=[.int .i64 v.k,.int .i64 v.n,.string v.s]
 len:=by rintro h cs x rfl;rfl
 one:=by rintro h cs x rfl;rfl
 a5:=[]
 mono:=fun _ q=>q
structure bT where
 name:ByteArray
 kind:Int
 null:Bool
def bt:Sh bT where
 n:=3
 R _ cs v:=cs=[.string v.name,.int .i64 v.kind,.bool v.null]
 len:=by rintro h cs x rfl;rfl
 one:=by rintro h cs x rfl;rfl
 a5:=[]
 mono:=fun _ q=>q
structure Ns where
 name:ByteArray
 at_:Int
def gF:Sh Ns where
 n:=2
 R _ cs v:=cs=[.string v.name,.int .i64 v.at_]
 len:=by rintro h cs x rfl;rfl
 one:=by rintro h cs x rfl;rfl
 a5:=[]
 mono:=fun _ q=>q
structure bZ where
 s:Int
 table:ByteArray
 x:Bool
def bL:Sh bZ where
 n:=3
 R _ cs v:=cs=[.int .i64 v.s,.string v.table,.bool v.x]
 len:=by rintro h cs x rfl;rfl
 one:=by rintro h cs x rfl;rfl
 a5:=[]
 mono:=fun _ q=>q
abbrev Row:=List dg
abbrev aL:Sh Row:=jU 61 bq
structure AU where
 name:ByteArray
 a2:List bT
 key:Int
 only:Bool
structure cE where
 S:AU
 rows:List Row
def cY:Sh cE where
 n:=5
 R h cs t:=∃b1 n1 c1 b2 n2 c2,cs=[.string t.S.name,.slice b1 n1 c1,.int .i64 t.S.key,.bool t.S.only,.slice b2 n2 c2]/\Sl 165 bt h (.slice b1 n1 c1) t.S.a2/\Sl 59 aL h (.slice b2 n2 c2) t.rows
 len:=by rintro h cs x ⟨_,_,_,_,_,_,rfl,-⟩;rfl
 one:=by rintro h cs x ⟨_,_,_,_,_,_,rfl,-⟩;rfl
 a5:=[165,59,61]
 mono:=by rintro h h' cs x hl ⟨b1,n1,c1,b2,n2,c2,rfl,q1,q2⟩;exact⟨b1,n1,c1,b2,n2,c2,rfl,q1.mono (hl.sub (by decide)),q2.mono (hl.sub (by decide))⟩
structure iX where
 table:ByteArray
 op:Int
 row:Row
def gM:Sh iX where
 n:=3
 R h cs t:=∃b n c,cs=[.string t.table,.int .i64 t.op,.slice b n c]/\Sl 61 bq h (.slice b n c) t.row
 len:=by rintro h cs x ⟨_,_,_,rfl,-⟩;rfl
 one:=by rintro h cs x ⟨_,_,_,rfl,-⟩;rfl
 a5:=[61]
 mono:=by rintro h h' cs x hl ⟨b,n,c,rfl,q⟩;exact⟨b,n,c,rfl,q.mono (hl.sub (by decide))⟩
structure dO where
 s:Int
 log:List iX
 marks:List Ns
def hV:Sh dO where
 n:=3
 R h cs t:=∃b1 n1 c1 b2 n2 c2,cs=[.int .i64 t.s,.slice b1 n1 c1,.slice b2 n2 c2]/\Sl 148 gM h (.slice b1 n1 c1) t.log/\Sl 161 gF h (.slice b2 n2 c2) t.marks
 len:=by rintro h cs x ⟨_,_,_,_,_,_,rfl,-⟩;rfl
 one:=by rintro h cs x ⟨_,_,_,_,_,_,rfl,-⟩;rfl
 a5:=[148,61,161]
 mono:=by rintro h h' cs x hl ⟨b1,n1,c1,b2,n2,c2,rfl,q1,q2⟩;exact⟨b1,n1,c1,b2,n2,c2,rfl,q1.mono (hl.sub (by decide)),q2.mono (hl.sub (by decide))⟩
def cf:Sh (dO×Bool)where
 n:=3
 R h cs t:=∃b1 n1 c1 b2 n2 c2,cs=[.int .i64 t.1.s,.slice b1 n1 c1,.slice b2 n2 c2]/\Sl 148 gM h (.slice b1 n1 c1) t.1.log/\Sl 161 gF h (.slice b2 n2 c2) t.1.marks/\(t.2=true->c1=n1)
 len:=by rintro h cs x ⟨_,_,_,_,_,_,rfl,-⟩;rfl
 one:=by rintro h cs x ⟨_,_,_,_,_,_,rfl,-⟩;rfl
 a5:=[148,61,161]
 mono:=by rintro h h' cs x hl ⟨b1,n1,c1,b2,n2,c2,rfl,q1,q2,q3⟩;exact⟨b1,n1,c1,b2,n2,c2,rfl,q1.mono (hl.sub (by decide)),q2.mono (hl.sub (by decide)),q3⟩
structure DB where
 aE:List cE
 au:List dO
 holds:List bZ
 waits:List bZ
structure gj(h:ad)(v:Value)(d:DB):Prop where
 out:∃b1 n1 c1 b2 n2 c2 b3 n3 c3 b4 n4 c4 ws,v=.agg #[.slice b1 n1 c1,.slice b2 n2 c2,.slice b3 n3 c3,.slice b4 n4 c4]/\
  Sl 51 cY h (.slice b1 n1 c1) d.aE/\Sl 55 cf h (.slice b2 n2 c2) ws/\Sl 205 bL h (.slice b3 n3 c3) d.holds/\Sl 205 bL h (.slice b4 n4 c4) d.waits/\ws.map (·.1)=d.au
def eX(a b:ByteArray):Int:=Lib.compareBytes a.data.toList b.data.toList
structure H5(l:List Int)(z:Int)(t:Bool):Prop where
 out:∃i,aS z i/\i=lX l 0 l.length/\t=decide (i<l.length/\l.getD i 0=0)
structure jh(h:ad)(c tb wb ct cw:Nat)(T:List cE)(W:List (dO×Bool))(H Wt:List bZ)(e:Int):Prop where
 out:∃n1 n2 b3 n3 c3 b4 n4 c4 o,h c=some (.cells #[.slice (some ⟨tb,0,none⟩) n1 ct,.slice (some ⟨wb,0,none⟩) n2 cw,.slice b3 n3 c3,.slice b4 n4 c4,.int .u32 o,.int .i32 0,.int .u32 0,.int .i64 e] 128 (0,0))/\
  ((o=0/\e=0)\/(o=1/\e≠0))/\
  n1=T.length/\dI 51 cY h tb ct T/\n2=W.length/\dI 55 cf h wb cw W/\Sl 205 bL h (.slice b3 n3 c3) H/\Sl 205 bL h (.slice b4 n4 c4) Wt
structure Up(h:ad)(b o:Nat)(x:Value)(h':ad):Prop where
 out:∃c e,h b=some (.cells c e (0,0))/\h'=bp h b (.cells (c.setIfInBounds o x) e (0,0))
def cB:Sh ByteArray where
 n:=1
 R _ cs v:=cs=[.string v]
 len:=by rintro h cs x rfl;rfl
 one:=by rintro h cs x rfl;rfl
 a5:=[]
 mono:=fun _ q=>q
def eZ:List ByteArray:=[⟨#[97,110,100]⟩,⟨#[98,101,103,105,110]⟩,⟨#[98,111,111,108]⟩,⟨#[98,121]⟩,⟨#[99,111,109,109,105,116]⟩,⟨#[99,111,117,110,116]⟩,⟨#[99,114,101,97,116,101]⟩,⟨#[100,101,108,101,116,101]⟩,⟨#[100,101,115,99]⟩,⟨#[100,114,111,112]⟩,⟨#[102,97,108,115,101]⟩,⟨#[102,114,111,109]⟩,⟨#[103,114,111,117,112]⟩,⟨#[105,110,115,101,114,116]⟩,⟨#[105,110,116]⟩,⟨#[105,110,116,111]⟩,⟨#[105,115]⟩,⟨#[106,111,105,110]⟩,⟨#[107,101,121]⟩,⟨#[108,105,109,105,116]⟩,⟨#[109,97,120]⟩,⟨#[109,105,110]⟩,⟨#[110,111,116]⟩,⟨#[110,117,108,108]⟩,⟨#[111,110]⟩,⟨#[111,110,108,121]⟩,⟨#[111,114]⟩,⟨#[111,114,100,101,114]⟩,⟨#[112,114,105,109,97,114,121]⟩,⟨#[114,111,108,108,98,97,99,107]⟩,⟨#[115,97,118,101,112,111,105,110,116]⟩,⟨#[115,101,108,101,99,116]⟩,⟨#[115,101,116]⟩,⟨#[115,117,109]⟩,⟨#[116,97,98,108,101]⟩,⟨#[116,101,120,116]⟩,⟨#[116,111]⟩,⟨#[116,114,117,101]⟩,⟨#[117,112,100,97,116,101]⟩,⟨#[118,97,108,117,101,115]⟩,⟨#[119,104,101,114,101]⟩]
def sD(l:List ByteArray):List (Value×Value):=l.map fun w=>(.string w,.bool true)
end Go.S
