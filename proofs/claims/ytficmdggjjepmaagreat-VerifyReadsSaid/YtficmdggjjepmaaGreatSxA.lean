import Derived.OrdersIn
import Derived.RangeFuncRecord
import Derived.Sort.LoopGhostIn
import Derived.Laws.Cells
import Derived.Laws.StructEq
import Derived.IntWalk
set_option linter.all false
namespace Go
def mr:= @Nat.le_refl
def hJX:= @Nat.le_trans
def iXr:= @Array.getElem?_eq_none
def mc:= @Sem.run_bind
def dB:= @List.getElem?_eq_some_iff
def hKz:= @Nat.add_zero
def iXn:= @List.getElem?_cons_zero
def iXq:= @Bool.and_eq_false_iff
def hJB:= @List.length_cons
def iQC:= @Array.getElem?_modify
def iQB:= @Array.toList_setIfInBounds
def hKi:= @Nat.add_assoc
def xa:= @List.getD_eq_getElem?_getD
def zj:= @Array.getElem?_eq_some_iff
def hJN:= @List.getElem?_set
def zt:= @Array.getD_eq_getD_getElem?
def iQt:= @Array.getElem?_setIfInBounds_self_of_lt
def iQp:= @Array.getElem?_setIfInBounds_ne
def hKx:= @List.map_cons
def iQP:= @List.zipIdx_cons
def iQc:= @List.foldl_cons
def iQO:= @Array.foldl_toList
def iQN:= @List.mapM_cons
def hM:= @Result.andThen_ok
def ox:= @Sem.run_pure
def iQb:= @Array.mapM_eq_mapM_toList
def iQa:= @Sem.run_map
def iXp:= @List.getElem?_toArray
def hU:= @List.getElem?_take
def nM:= @List.getElem?_drop
def qH:= @of_decide_eq_true
def iXo:= @List.all_cons
def wL:= @Bool.and_eq_true
def yr:= @decide_eq_true_eq
def hKa:= @List.drop_drop
def hKe:= @Nat.add_comm
def hKn:= @Bool.not_eq_true'
def qy:= @List.getElem?_map
def hKd:= @Option.isSome_iff_exists
def hJZ:= @Array.getElem?_eq_getElem
def hKZ:= @Array.toList_extract
def hKw:= @Array.getElem?_toList
def iQM:= @List.foldlM_cons
def iQL:= @List.foldlM_nil
def iQK:= @List.replicate_succ
def hKm:= @List.flatten_cons
def hJQ:= @List.getElem?_append_left
def hJP:= @List.getElem?_append_right
def hJI:= @Nat.succ_mul
def rv:= @List.ext_getElem?
def hJL:= @Nat.eq_zero_or_pos
def hKv:= @Nat.mod_lt
def qk:= @List.getElem?_eq_none
def hKY:= @ByteArray.data_extract
def ee:= @List.eq_nil_of_length_eq_zero
def xt:= @Nat.mul_le_mul_right
def ym:= @List.append_assoc
def iQJ:= @List.cons_append
def hJK:= @List.mem_map
def hKl:= @List.map_congr_left
def hKS:= @Array.toList_append
def hJJ:= @List.mem_append
def GD:= @List.all_eq_true
def iXm:= @Bool.not_true
def hKX:= @Bool.false_or
def hKc:= @List.contains_eq_mem
def hKR:= @Bool.or_eq_true
def iXl:= @Array.getElem?_setIfInBounds
def iXk:= @List.mem_append_right
def iQI:= @List.mem_append_left
def hKQ:= @List.getElem?_set_ne
def hKb:= @List.getElem?_set_self
def xu:= @List.mem_cons
def iXj:= @List.mem_cons_self
def hKP:= @List.mem_cons_of_mem
def hKO:= @Nat.le_of_not_lt
def hKN:= @Bool.false_eq_true
def iXi:= @List.mem_filter
def hKk:= @Bool.true_or
def iQH:= @Bool.not_false
def hKu:= @Bool.true_and
def iXh:= @List.eq_nil_iff_forall_not_mem
def hKM:= @List.mem_range
def hKW:= @List.all_eq_false
def iXg:= @List.countP_le_length
def hKV:= @Array.getElem?_replicate
def hKj:= @List.getElem?_append
def zs:= @List.getElem?_eq_getElem
def iQG:= @Array.getElem?_append_left
def hKL:= @List.getElem?_replicate
def iQF:= @Array.getElem?_append_right
def hJY:= @Option.getD_some
def zw:= @Int.toNat_natCast
def hKU:= @Nat.mul_le_mul_left
def dr:= @List.length_append
def hJH:= @Nat.add_mul
def kH:= @Int.ofNat_eq_natCast
def iQE:= @Int.ofNat_le
def iQD:= @Int.natCast_mul
def qp:= @Nat.zero_add
def iXf:= @List.getElem?_singleton
def ss:= @Nat.lt_or_ge
def hJU:= @Int.fdiv_eq_ediv_of_nonneg
def hKt:= @List.mem_singleton
def kF:= @List.mem_of_getElem?
def yl:= @List.getElem?_of_mem
def hKK:= @Nat.lt_trichotomy
def hJA:= @List.pairwise_iff_getElem
def ag:= @decide_eq_false
def ra:= @of_decide_eq_false
def dW:= @List.length_take
def ec:= @List.length_drop
def zv:= @Nat.min_eq_left
def iQA:= @Nat.add_le_add_left
def hKJ:= @Nat.mul_le_mul
def wS:= @List.append_nil
def hJz:= @List.take_length
def Yd:= @List.drop_eq_nil_of_le
def hO:= @List.take_of_length_le
def xx:= @List.take_add_one
def hJO:= @List.take_append_drop
def qT:= @Nat.zero_le
def iXe:= @List.set_eq_take_append_cons_drop
def hKs:= @List.take_append_of_le_length
def hKI:= @List.eraseIdx_eq_take_drop_succ
def hJT:= @List.length_map
def hKH:= @List.map_map
def TG:= @Nat.mul_one
def qM:= @List.drop_eq_getElem_cons
def hKh:= @List.any_eq_true
def iXd:= @List.find?_eq_some_iff_getElem
def iXc:= @List.mem_zipIdx_iff_getElem?
def aH:= @decide_eq_true
def iQz:= @List.any_eq_false
def iQy:= @List.drop_length
def hKg:= @List.take_take
def iXb:= @Nat.min_self
def hKr:= @Nat.sub_zero
def hJW:= @Nat.sub_self
def hKG:= @List.drop_succ_cons
def se:= @Decidable.not_not
def iQx:= @Bool.and_true
def hKF:= @List.getElem?_zipWith
def iQw:= @Nat.le_of_lt
def HH:= @Array.length_toList
def hJV:= @UInt8.toNat_inj
def iQv:= @Int.ofNat_inj
def hJM:= @UInt8.lt_iff_toNat_lt
def hKE:= @List.takeWhile_cons_of_pos
def hJG:= @List.nil_append
def iQu:= @List.length_eraseIdx_of_lt
def hJS:= @List.length_pos_iff
def iXa:= @UInt8.toNat_ofNat'
def hJF:= @List.length_singleton
def hKD:= @List.drop_zero
def hJE:= @List.length_nil
def iQZ:= @List.drop_left
def hJD:= @List.length_replicate
def hJR:= @List.mem_iff_getElem?
def hJC:= @List.mem_of_mem_drop
def hKf:= @List.mem_of_mem_take
def wM:= @List.drop_of_length_le
def iQY:= @List.length_eq_zero_iff
def iQX:= @Nat.le_succ
def iQs:= @List.set_append_right
def hKC:= @List.length_range
def hKq:= @List.map_append
def hKp:= @Int.tmod_eq_emod_of_nonneg
def iQr:= @Int.tdiv_eq_ediv_of_nonneg
def iQq:= @List.map_drop
def iQo:= @List.map_take
def ml:= @List.length_set
def iQW:= @List.map_set
def iQn:= @List.getLast?_eq_getElem?
def iQm:= @List.mem_of_getLast?
def hKB:= @List.eraseIdx_sublist
def iQl:= @UInt8.lt_irrefl
def iQk:= @List.takeWhile_cons_of_neg
def iQj:= @List.takeWhile_sublist
def iQi:= @List.prefix_iff_eq_take
def iQh:= @List.takeWhile_prefix
def iQg:= @List.mem_or_eq_of_mem_set
def iQV:= @List.getElem?_eq_none_iff
def hKo:= @List.pairwise_append
def hKA:= @List.singleton_append
def iQf:= @List.pairwise_cons
def iQU:= @List.getElem_set
def iQT:= @Int.le_refl
def iQS:= @Int.tmod_lt_of_pos
def iQR:= @Int.lt_tmod_of_pos
def iQQ:= @Int.tmod_eq_emod
def iQe:= @Int.emod_nonneg
def iQd:= @Int.emod_lt_of_pos
end Go
namespace Go.Sx
variable {next:Act->World->Prop}{g:Bool}{Q:Exit->Act->World->Prop}{f:FuncId}{s:List (Nat×Nat)}{args c cs z:List Value}{bytes cap size:Nat}{fr:Nat×Nat}{o:Oper}{y:Operand}{b:Option Addr}{d:TypeDesc}{p:Unit->Program}{r u:Value}{k:Value->Prop}
abbrev ab:=Nat->Option Obj
def yH(h:ab)(w:World):Prop:=∀b o,h b=some o->w.heap[b]? =some o
structure bD(h:ab)(w:World)(h':ab)(w':World):Prop where
 os:w'.os=w.os
 tape:w'.tape=w.tape
 output:w'.output=w.output
 size:w.heap.size<=w'.heap.size
 zc:yH h' w'
 frame:∀b,b<w.heap.size->h b=none->w'.heap[b]? =w.heap[b]? /\h' b=none
def Fn(P:Program)(f:FuncId)(args:List Value)(h:ab)(R:Value->ab->Prop):Prop:=
 ∀w,yH h w->Calls P f args.toArray w λe w'=>∃v h',e=.returned v/\R v h'/\bD h w h' w'
structure Ca(p:Unit->Program)(f:FuncId)(args:List Value)(h:ab)(R:Value->ab->Prop):Prop where
 out:Fn (p ()) f args h R
structure NT(p:Unit->Program)(f:FuncId)(args:List Value)(h:ab)(R:Value->ab->Prop)(K:List PanicEntry->ab->Prop):Prop where
 out:∀w,yH h w->Calls (p ()) f args.toArray w λe w'=>(∃v h',e=.returned v/\R v h'/\bD h w h' w')\/(∃c h',e=.panicked c/\K c h'/\bD h w h' w')
structure XA(p:Unit->Program)(l:Nat)(args:List Value)(h:ab)(R:Value->ab->Prop):Prop where
 out:∀w,yH h w->∃fn tmps yi body,(Instr.yield l args.toArray).run (p ()) w=.ok (.round l fn tmps yi body) w/\∀n,RoundIn Fence.wide n (p ()) l fn tmps yi body w λe w'=>∃v h',e=.returned v/\R v h'/\bD h w h' w'
def bH(h:ab)(n:Nat)(o:Obj):ab:=λb=>if b=n then some o else h b
def fM(a:Option Addr)(i:Int)(size:Nat):Addr:=((a.getD ⟨0,0,none⟩).add (i.toNat*size))
def aC(op:BinOp)(k:IntKind)(a b:Int):Int:=
 match op with
 | .add=>k.wrap (a+b)
 | .sub=>k.wrap (a-b)
 | .mul=>k.wrap (a*b)
 | .quo=>k.wrap (a.tdiv b)
 | .rem=>a.tmod b
 | .and=>k.wrap ((BitVec.ofInt k.bits a&&& BitVec.ofInt k.bits b).toNat)
 | .or=>k.wrap ((BitVec.ofInt k.bits a|||BitVec.ofInt k.bits b).toNat)
 | .xor=>k.wrap ((BitVec.ofInt k.bits a^^^BitVec.ofInt k.bits b).toNat)
 | .andNot=>k.wrap ((BitVec.ofInt k.bits a&&& ~~~ BitVec.ofInt k.bits b).toNat)
 | .shl=>k.wrap (a*2^(min b.toNat k.bits))
 | .shr=>a.fdiv (2^(min b.toNat k.bits))
 |_=>0
def az(op:BinOp)(a b:Int):Bool:=
 match op with
 | .eql=>a==b
 | .neq=>a !=b
 | .lss=>decide (a<b)
 | .leq=>decide (a<=b)
 | .gtr=>decide (a>b)
 | .geq=>decide (a>=b)
 |_=>false
def jX(op:BinOp)(a b:ByteArray):Bool:=
 match op with
 | .eql=>a.toList==b.toList
 | .neq=> !(a.toList==b.toList)
 | .lss=>Op.bytesLess a.toList b.toList
 | .leq=>Op.bytesLess a.toList b.toList||a.toList==b.toList
 | .gtr=> !(Op.bytesLess a.toList b.toList||a.toList==b.toList)
 | .geq=> !(Op.bytesLess a.toList b.toList)
 |_=>false
def nR(op:BinOp)(a b:Bool):Bool:=
 match op with
 | .eql=>a==b
 | .neq=> !(a==b)
 |_=>false
inductive Tg where
 |fM|ix|off|aC|az|jX|nR|not|and|cat|byte|sub|conv|nat|yw|cut|mW|iT|imax|iQ
abbrev Tg.T:Tg->Type
 | .fM=>Option Addr->Int->Nat->Addr
 | .ix=>Nat->Int->Nat->Nat
 | .off=>Addr->Nat->Addr
 | .aC=>BinOp->IntKind->Int->Int->Int
 | .az=>BinOp->Int->Int->Bool
 | .jX=>BinOp->ByteArray->ByteArray->Bool
 | .nR=>BinOp->Bool->Bool->Bool
 | .not=>Bool->Bool
 | .and=>Bool->Bool->Bool
 | .cat=>ByteArray->ByteArray->ByteArray
 | .byte=>ByteArray->Int->Int
 | .sub=>ByteArray->Int->Int->ByteArray
 | .conv=>IntKind->Int->Int
 | .nat=>Nat->Int
 | .yw=>Option Addr->Bool
 | .cut=>Option Addr->Int->Int->Nat->Option Addr
 | .mW=>Int->Int->Nat
 | .iT=>Int->Int->Int
 | .imax=>Int->Int->Int
 | .iQ=>ByteArray->Int
abbrev Ar:=(t:Tg)->t.T
def Ar.fM(A:Ar):Option Addr->Int->Nat->Addr:=A .fM
def Ar.ix(A:Ar):Nat->Int->Nat->Nat:=A .ix
def Ar.off(A:Ar):Addr->Nat->Addr:=A .off
def Ar.aC(A:Ar):BinOp->IntKind->Int->Int->Int:=A .aC
def Ar.az(A:Ar):BinOp->Int->Int->Bool:=A .az
def Ar.jX(A:Ar):BinOp->ByteArray->ByteArray->Bool:=A .jX
def Ar.nR(A:Ar):BinOp->Bool->Bool->Bool:=A .nR
def Ar.not(A:Ar):Bool->Bool:=A .not
def Ar.and(A:Ar):Bool->Bool->Bool:=A .and
def Ar.cat(A:Ar):ByteArray->ByteArray->ByteArray:=A .cat
def Ar.byte(A:Ar):ByteArray->Int->Int:=A .byte
def Ar.sub(A:Ar):ByteArray->Int->Int->ByteArray:=A .sub
def Ar.conv(A:Ar):IntKind->Int->Int:=A .conv
def Ar.nat(A:Ar):Nat->Int:=A .nat
def Ar.yw(A:Ar):Option Addr->Bool:=A .yw
def Ar.cut(A:Ar):Option Addr->Int->Int->Nat->Option Addr:=A .cut
def Ar.mW(A:Ar):Int->Int->Nat:=A .mW
def Ar.iT(A:Ar):Int->Int->Int:=A .iT
def Ar.imax(A:Ar):Int->Int->Int:=A .imax
def Ar.iQ(A:Ar):ByteArray->Int:=A .iQ
class aV (A:Ar):Prop where
 fM:A .fM=Sx.fM
 ix:A .ix=λo i n=>o+i.toNat*n
 off:A .off=λa n=>a.add n
 aC:A .aC=Sx.aC
 az:A .az=Sx.az
 jX:A .jX=Sx.jX
 nR:A .nR=Sx.nR
 not:A .not=λb=> !b
 and:A .and=λa b=>a&&b
 cat:A .cat=λa b=>a++b
 byte:A .byte=λs i=>((s.data.getD i.toNat 0).toNat:Int)
 sub:A .sub=λs l h=>s.extract l.toNat h.toNat
 conv:A .conv=λk n=>k.wrap n
 nat:A .nat=Int.ofNat
 yw:A .yw=λa=>a.isNone
 cut:A .cut=λa l m size=>if m=l then a else a.map (·.add (l.toNat*size))
 mW:A .mW=λh l=>(h-l).toNat
 iT:A .iT=λa b=>min a b
 imax:A .imax=λa b=>max a b
 iQ:A .iQ=λs=>(s.size:Int)
theorem Ar.pd(A:Ar)[aV A]:A.fM=Sx.fM:=aV.fM
theorem Ar.bJb(A:Ar)[aV A]:A.ix=λo i n=>o+i.toNat*n:=aV.ix
theorem Ar.aXy(A:Ar)[aV A]:A.off=λa n=>a.add n:=aV.off
theorem Ar.rK(A:Ar)[aV A]:A.aC=Sx.aC:=aV.aC
theorem Ar.Qv(A:Ar)[aV A]:A.az=Sx.az:=aV.az
theorem Ar.PB(A:Ar)[aV A]:A.jX=Sx.jX:=aV.jX
theorem Ar.JS(A:Ar)[aV A]:A.nR=Sx.nR:=aV.nR
theorem Ar.not_eq(A:Ar)[aV A]:A.not=λb=> !b:=aV.not
theorem Ar.and_eq(A:Ar)[aV A]:A.and=λa b=>a&&b:=aV.and
theorem Ar.aKf(A:Ar)[aV A]:A.cat=λa b=>a++b:=aV.cat
theorem Ar.Xr(A:Ar)[aV A]:A.byte=λs i=>((s.data.getD i.toNat 0).toNat:Int):=aV.byte
theorem Ar.sub_eq(A:Ar)[aV A]:A.sub=λs l h=>s.extract l.toNat h.toNat:=aV.sub
theorem Ar.Xm(A:Ar)[aV A]:A.conv=λk n=>k.wrap n:=aV.conv
theorem Ar.nat_eq(A:Ar)[aV A]:A.nat=Int.ofNat:=aV.nat
theorem Ar.Qs(A:Ar)[aV A]:A.yw=λa=>a.isNone:=aV.yw
theorem Ar.AX(A:Ar)[aV A]:A.cut=λa l m size=>if m=l then a else a.map (·.add (l.toNat*size)):=aV.cut
theorem Ar.xB(A:Ar)[aV A]:A.mW=λh l=>(h-l).toNat:=aV.mW
theorem Ar.VC(A:Ar)[aV A]:A.iT=λa b=>min a b:=aV.iT
theorem Ar.VD(A:Ar)[aV A]:A.imax=λa b=>max a b:=aV.imax
theorem Ar.Pr(A:Ar)[aV A]:A.iQ=λs=>(s.size:Int):=aV.iQ
def Ar.gXD:Ar
 | .fM=>Sx.fM
 | .ix=>λo i n=>o+i.toNat*n
 | .off=>λa n=>a.add n
 | .aC=>Sx.aC
 | .az=>Sx.az
 | .jX=>Sx.jX
 | .nR=>Sx.nR
 | .not=>λb=> !b
 | .and=>λa b=>a&&b
 | .cat=>λa b=>a++b
 | .byte=>λs i=>((s.data.getD i.toNat 0).toNat:Int)
 | .sub=>λs l h=>s.extract l.toNat h.toNat
 | .conv=>λk n=>k.wrap n
 | .nat=>Int.ofNat
 | .yw=>λa=>a.isNone
 | .cut=>λa l m size=>if m=l then a else a.map (·.add (l.toNat*size))
 | .mW=>λh l=>(h-l).toNat
 | .iT=>λa b=>min a b
 | .imax=>λa b=>max a b
 | .iQ=>λs=>(s.size:Int)
theorem Ar.ex:∃A:Ar,aV A:=⟨Ar.gXD,⟨rfl,rfl,rfl,rfl,rfl,rfl,rfl,rfl,rfl,rfl,rfl,rfl,rfl,rfl,rfl,rfl,rfl,rfl,rfl,rfl⟩⟩
inductive Kd where
 |none
 |eQV
 |bool
 |int (k:IntKind)
 |str
 |bV (fs:List (Nat×Nat))
 |arr (n e:Nat)
 |nd (e:Nat)
 |mp (k e:Nat)
 |ptr (e:Nat)
 |fn
 |fXS
 deriving Inhabited
structure Ti where
 flat:Bool
 agg:Bool
 size:Nat
 bytes:Nat
 zero:List Value
 kd:Kd
def Ti.none:Ti:=⟨false,false,0,0,[],.none⟩
def mS:TypeDesc->Kd
 | .bool=>.bool
 | .int k=>.int k
 | .string=>.str
 | .struct fs=>.bV (fs.toList.map λf=>(f.type,f.offset))
 | .array n e=>.arr n e
 | .slice e=>.nd e
 | .map k e=>.mp k e
 | .pointer e=>.ptr e
 | .func .. =>.fn
 | .interface _=>.fXS
 |_=>.eQV
def JC(P:Program)(t:TypeId):TypeDesc->Bool
 | .struct fs=> !P.eqGuardType P.depth t&& !P.stoodInHeld t&&(fs.toList.zipIdx.all λ(f,i)=>f.offset==i&&decide (f.name≠ "_")&&(match P.info? f.type,P.underlying f.type with
  |some i,some .bool|some i,some (.int _) |some i,some .string=>i.size==1
  |_,_=>false))
 |_=>false
def aXD(P:Program)(t:TypeId):Ti:=
 match P.info? t,P.underlying t with
 |some i,some d=>
  match i.zero with
  |some z=>⟨JC P t d,match d with| .struct _| .array _ _=>true|_=>false,i.size,i.bytes,z.cells.toList,mS d⟩
  |none=>.none
 |_,_=>.none
inductive sX where
 |done
 |aa (i:Nat) (rest:sX)
 |ad (i:Nat) (pins:List Nat) (rest:sX)
 |fork (l r:sX)
 deriving Inhabited
inductive SV where
 |v (x:Value)
 |loc (s off:Nat)
 |u
 deriving Inhabited
structure aN where
 ty:Nat->Ti
 fn:Nat->Bool
 aw:Nat->sX
 aP:Nat->Bool
 gZb:Nat->Bool:=λ_=>false
 rs:List Nat:=[]
 kp:List PanicEntry->List SV->ab->Prop:=λ_ _ _=>False
structure eU(P:Program)(T:aN):Prop where
 ty:∀t,T.ty t=aXD P t\/T.ty t=.none
 fn:∀f,T.fn f=true->∃fn,P.funcs[f]? =some fn/\fn.body.isSome=true/\fn.name≠ "runtime.NumGoroutine"
 mixed:P.follows .mixedOrders=true
abbrev Env:=List SV
abbrev Loc:=List (Nat×List Value)
def js:Loc->Nat->Option (List Value)
 | [],_=>none
 | (s,c)::r,t=>if s=t then some c else js r t
def tJ:Loc->Nat->List Value->Loc
 | [],_,_=>[]
 | (s,c)::r,t,d=>if s=t then(s,d)::r else(s,c)::tJ r t d
def mY(env:Env):Operand->SV
 | .tmp t=>env.getD t .u
 | .const v=>.v v
 | .global g=>.v (.pointer (some ⟨g,0,none⟩))
 | .func f=>.v (.func (.func f) #[] #[])
def mK:List SV->Option (List Value)
 | []=>some []
 | .v x::r=>match mK r with
  |some l=>some (x::l)
  |none=>none
 |_::_=>none
structure pS(p:Unit->Prop)(k:Unit->Prop):Prop where
 h:p ()
 out:k ()
def IH(h:ab)(a:Addr)(n:Nat)(cs:List Value):Prop:=
 a.spot=none/\cs.length=n/\∃c e fr,h a.block=some (.cells c e fr)/\∀i,i<n->c[a.off+i]? =cs[i]?
structure vX(h:ab)(a:Addr)(n:Nat)(k:List Value->Prop):Prop where
 out:∃cs,IH h a n cs/\k cs
def JR:Bool->(Unit->Prop)->(Unit->Prop)->Prop
 |true,a,_=>a ()
 |false,_,b=>b ()
def takeN(c:List Value)(off n:Nat):Option (List Value):=
 if off+n<=c.length then some ((c.drop off).take n)else none
def fa(c:List Value)(off:Nat):List Value->List Value
 | []=>c
 |x::r=>fa (c.set off x) (off+1) r
structure rO(p:Unit->Program)(s:Unit->Sem Value)(k:Value->Prop):Prop where
 out:∃v,(∀w,(s ()).run (p ()) w=.ok v w)/\k v
structure dF(p:Unit->Program)(s:Unit->Sem Value)(h:ab)(k:Value->ab->Prop):Prop where
 out:∀w,yH h w->∃v w' h',(s ()).run (p ()) w=.ok v w'/\k v h'/\bD h w h' w'
def xA(g:FuncId)(args:List Value):Sem Value:=do
 match <-callFunc g args.toArray with
 | .value v=>pure v
 |_=>stuck ""
def Xu(A:Ar)(op:BinOp):Value->Value->Option Value
 | .int k a,.int k' b=>
  match op with
  | .add| .sub| .mul| .and| .or| .xor| .andNot=>if k=k' then some (.int k (A.aC op k a b))else none
  | .eql| .neq| .lss| .leq| .gtr| .geq=>if k=k' then some (.bool (A.az op a b))else none
  |_=>none
 | .string a,.string b=>
  match op with
  | .eql| .neq| .lss| .leq| .gtr| .geq=>some (.bool (A.jX op a b))
  |_=>none
 |_,_=>none
def Hw(A:Ar)(op:BinOp)(a b:Value)(k:Value->Prop)(WY:Unit->Prop):Prop:=
 match a with
 | .int ka x=>match b with
  | .int kb y=>match op with
   | .quo| .rem=>match decide (ka=kb)with
    |true=>pS (λ_=>y≠0) (λ_=>k (.int ka (A.aC op ka x y)))
    |false=>WY ()
   | .shl| .shr=>pS (λ_=>0<=y) (λ_=>k (.int ka (A.aC op ka x y)))
   |_=>WY ()
  |_=>WY ()
 | .string x=>match b with
  | .string y=>match op with
   | .add=>pS (λ_=>((x.size+y.size:Nat):Int)<=2^62) (λ_=>k (.string (A.cat x y)))
   |_=>WY ()
  |_=>WY ()
 |_=>WY ()
def one:Value->Bool
 | .agg _| .tuple _=>false
 |_=>true
def gE:List Value->Bool
 | []=>true
 |x::r=>match one x with
  |true=>gE r
  |false=>false
def AT(place:Nat->Option (Nat×Nat))(cells:List Value):List (Nat×Value)->Option (List Value)
 | []=>some cells
 | (i,v)::rest=>
  match place i with
  |none=>none
  |some (off,size)=>
   if v.cells.toList.length≠size||off+v.cells.toList.length>cells.length then none
   else AT place (fa cells off v.cells.toList) rest
def iZ(A:Ar)(ty:Nat->Ti):List (Nat×Nat)->List Value->List Value->Option Bool
 | [],[],[]=>some true
 | (t,_)::fs,x::r,y::q=>match (ty t).kd with
  | .int _=>match x with
   | .int k a=>match y with
    | .int k' b=>match decide (k=k')with
     |true=>match iZ A ty fs r q with
      |some t=>some (A.and (A.az .eql a b) t)
      |none=>none
     |false=>none
    |_=>none
   |_=>none
  | .str=>match x with
   | .string a=>match y with
    | .string b=>match iZ A ty fs r q with
     |some t=>some (A.and (A.jX .eql a b) t)
     |none=>none
    |_=>none
   |_=>none
  | .bool=>match x with
   | .bool a=>match y with
    | .bool b=>match iZ A ty fs r q with
     |some t=>some (A.and (A.nR .eql a b) t)
     |none=>none
    |_=>none
   |_=>none
  |_=>none
 |_,_,_=>none
def neg(A:Ar)(op:BinOp)(b:Bool):Option Value:=
 match op with
 | .eql=>some (.bool b)
 | .neq=>some (.bool (A.not b))
 |_=>none
def aKc(A:Ar)(ty:Nat->Ti)(i:Ti)(op:BinOp)(x y:Value):Option Value:=
 match i.kd with
 | .nd _=>match x with
  | .slice b _ _=>match y with
   | .slice none _ _=>neg A op (A.yw b)
   |_=>none
  |_=>none
 | .bool=>match x with
  | .bool a=>match y with
   | .bool b=>neg A op (A.nR .eql a b)
   |_=>none
  |_=>none
 | .bV fs=>match i.flat with
  |true=>match x with
   | .agg a=>match y with
    | .agg b=>match iZ A ty fs a.toList b.toList with
     |some t=>neg A op t
     |none=>none
    |_=>none
   |_=>none
  |false=>none
 |_=>none
def lP(ρ:Operand->SV):List (Nat×Operand)->Option (List (Nat×Value))
 | []=>some []
 | (i,x)::r=>match ρ x,lP ρ r with
  | .v y,some l=>some ((i,y)::l)
  |_,_=>none
def Kd.isNone:Kd->Bool
 | .none=>true
 |_=>false
def placesOf(T:aN):List (Nat×Nat)->Option (List (Nat×Nat))
 | []=>some []
 | (t,off)::r=>match (T.ty t).kd.isNone,placesOf T r with
  |false,some l=>some ((off,(T.ty t).size)::l)
  |_,_=>none
def JP(T:aN)(zero:List Value)(ps:List (Nat×Value)):Kd->Option (List Value)
 | .bV fs=>match placesOf T fs with
  |some l=>AT (λi=>l[i]?) zero ps
  |none=>none
 | .arr _ e=>match (T.ty e).kd.isNone with
  |false=>AT (λi=>some (i*(T.ty e).size,(T.ty e).size)) zero ps
  |true=>none
 |_=>none
def UH(ρ:Operand->SV):Option Operand->Option (Option Int)
 |none=>some none
 |some x=>match ρ x with
  | .v (.int _ n)=>some (some n)
  |_=>none
def wG(A:Ar)(b:Option Addr)(len cap size:Nat)(l hh m:Option Int)(k:Value->Prop):Prop:=
 match m with
 |none=>match hh with
  |none=>match l with
   |none=>k (.slice b len cap)
   |some l=>pS (λ_=>0<=l/\l<=(len:Int)) (λ_=>k (.slice (A.cut b l (A.nat cap) size) (A.mW (A.nat len) l) (A.mW (A.nat cap) l)))
  |some q=>match l with
   |none=>pS (λ_=>0<=q/\q<=(cap:Int)) (λ_=>k (.slice (A.cut b 0 (A.nat cap) size) (A.mW q 0) cap))
   |some l=>pS (λ_=>0<=q/\q<=(cap:Int)/\0<=l/\l<=q) (λ_=>k (.slice (A.cut b l (A.nat cap) size) (A.mW q l) (A.mW (A.nat cap) l)))
 |some m=>match hh with
  |none=>False
  |some q=>match l with
   |none=>pS (λ_=>0<=m/\m<=(cap:Int)/\0<=q/\q<=m) (λ_=>k (.slice (A.cut b 0 m size) (A.mW q 0) (A.mW m 0)))
   |some l=>pS (λ_=>0<=m/\m<=(cap:Int)/\0<=q/\q<=m/\0<=l/\l<=q) (λ_=>k (.slice (A.cut b l m size) (A.mW q l) (A.mW m l)))
def zM(A:Ar)(s:ByteArray)(l hh:Option Int)(k:Value->Prop):Prop:=
 match hh with
 |none=>match l with
  |none=>k (.string s)
  |some l=>pS (λ_=>0<=l/\l<=(s.size:Int)) (λ_=>k (.string (A.sub s l (A.iQ s))))
 |some q=>match l with
  |none=>pS (λ_=>0<=q/\q<=(s.size:Int)) (λ_=>k (.string (A.sub s 0 q)))
  |some l=>pS (λ_=>0<=q/\q<=(s.size:Int)/\0<=l/\l<=q) (λ_=>k (.string (A.sub s l q)))
def jP(T:aN)(o:Oper):Bool:=
 match o.op with
 | .convert s d _=>match (T.ty s).kd with
  | .nd _=>false
  | .ptr _=>false
  | .eQV=>false
  |_=>match (T.ty d).kd with
   | .nd _=>false
   |_=>true
 | .move _| .pick .. | .build .. | .load .. | .nilCheck _| .binOp .. | .unOp .. | .makeInterface .. | .makeFunc .. | .slice .. | .fieldAddr .. | .field .. | .indexAddr .. | .index .. | .extract .. | .typeAssert .. =>true
 | .alloc _| .box .. =>match o.dst with
  |some d=> !T.aP d
  |none=>false
 | .call { callee:=.builtin b, .. }=>match b with
  | .len| .cap| .min| .max=>true
  |_=>false
 |_=>false
def pJ(agg:Bool)(cs:List Value)(k:Value->Prop):Prop:=
 match agg with
 |true=>k (.agg cs.toArray)
 |false=>match cs with
  |x::_=>k x
  | []=>False
def YQ(k:IntKind):Int:=if k.signed then -1 else k.max
def gO(A:Ar)(T:aN)(p:Unit->Program)(o:Oper)(ρ:Operand->SV)(L:Loc)(h:ab)(k:SV->Option (List Value)->Prop):Prop:=
 match o.op with
 | .move x=>k (ρ x) none
 | .pick c a b=>match ρ c with
  | .v (.bool true)=>k (ρ a) none
  | .v (.bool false)=>k (ρ b) none
  |_=>False
 | .alloc e=>match (T.ty e).kd.isNone with
  |true=>False
  |false=>match o.dst with
   |none=>False
   |some d=>match js L d with
    |none=>k (.loc d 0) (some (T.ty e).zero)
    |some _=>False
 | .box _ x=>match o.dst with
  |none=>False
  |some d=>match ρ x with
   | .v v=>match js L d with
    |none=>k (.loc d 0) (some v.cells.toList)
    |some _=>False
   |_=>False
 | .load t a=>match (T.ty t).kd.isNone with
  |true=>False
  |false=>match ρ a with
   | .loc s off=>match js L s with
    |some c=>match takeN c off (T.ty t).size with
     |some cs=>pJ (T.ty t).agg cs (λx=>k (.v x) none)
     |none=>False
    |none=>False
   | .v (.pointer (some x))=>vX h x (T.ty t).size (λcs=>pJ (T.ty t).agg cs (λx=>k (.v x) none))
   |_=>False
 | .nilCheck x=>match ρ x with
  | .loc s off=>k (.loc s off) none
  | .v (.pointer (some a))=>k (.v (.pointer (some a))) none
  |_=>False
 | .fieldAddr t x f=>match (T.ty t).kd with
  | .bV fs=>match fs[f]? with
   |some (ft,off)=>match (T.ty ft).kd.isNone with
    |true=>False
    |false=>match (T.ty ft).size with
     |0=>False
     |_+1=>match ρ x with
      | .loc s o=>k (.loc s (o+off)) none
      | .v (.pointer (some a))=>k (.v (.pointer (some (A.off a off)))) none
      |_=>False
   |none=>False
  |_=>False
 | .indexAddr t x i=>match ρ i with
  | .v (.int _ n)=>match (T.ty t).kd with
   | .nd e=>match (T.ty e).kd.isNone with
    |true=>False
    |false=>match ρ x with
     | .v (.slice b len _)=>pS (λ_=>b.isSome=true/\0<=n/\n<(len:Int)) (λ_=>k (.v (.pointer (some (A.fM b n (T.ty e).size)))) none)
     |_=>False
   | .arr m e=>match (T.ty e).kd.isNone with
    |true=>False
    |false=>match ρ x with
     | .loc s off=>pS (λ_=>0<=n/\n<(m:Int)) (λ_=>k (.loc s (A.ix off n (T.ty e).size)) none)
     | .v (.pointer (some a))=>pS (λ_=>0<=n/\n<(m:Int)) (λ_=>k (.v (.pointer (some (A.fM (some a) n (T.ty e).size)))) none)
     |_=>False
   |_=>False
  |_=>False
 | .index t x i=>match ρ i with
  | .v (.int _ n)=>match (T.ty t).kd with
   | .str=>match ρ x with
    | .v (.string s)=>pS (λ_=>0<=n/\n<(s.size:Int)) (λ_=>k (.v (.int .u8 (A.byte s n))) none)
    |_=>False
   |_=>False
  |_=>False
 | .field t x f=>match (T.ty t).kd with
  | .bV fs=>match fs[f]? with
   |some (ft,off)=>match (T.ty ft).kd.isNone with
    |true=>False
    |false=>match ρ x with
     | .v (.agg cs)=>match takeN cs.toList off (T.ty ft).size with
      |some ds=>pJ (T.ty ft).agg ds (λx=>k (.v x) none)
      |none=>False
     |_=>False
   |none=>False
  |_=>False
 | .extract x i=>match ρ x with
  | .v (.tuple vs)=>match vs.toList[i]? with
   |some v=>k (.v v) none
   |none=>False
  |_=>False
 | .build t parts=>match (T.ty t).kd.isNone with
  |true=>False
  |false=>match lP ρ parts.toList with
   |some ps=>match JP T (T.ty t).zero ps (T.ty t).kd with
    |some cs=>k (.v (.agg cs.toArray)) none
    |none=>False
   |none=>False
 | .binOp op t x y _=>match ρ x with
  | .v a=>match ρ y with
   | .v b=>match Xu A op a b with
    |some r=>k (.v r) none
    |none=>match aKc A T.ty (T.ty t) op a b with
     |some r=>k (.v r) none
     |none=>Hw A op a b (λr=>k (.v r) none) (λ_=>rO p (λ_=>do eqGuard op t x y a b;binOp op t a b) (λr=>k (.v r) none))
   |_=>False
  |_=>False
 | .unOp op _ x=>match ρ x with
  | .v (.bool b)=>match op with
   | .not=>k (.v (.bool (A.not b))) none
   |_=>False
  | .v (.int kd n)=>match op with
   | .neg=>k (.v (.int kd (A.aC .sub kd 0 n))) none
   | .xor=>k (.v (.int kd (A.aC .xor kd (YQ kd) n))) none
   |_=>False
  |_=>False
 | .convert src dst x=>match ρ x with
  | .v (.int j n)=>match (T.ty dst).kd with
   | .int kd=>match (T.ty src).kd with
    | .int _=>k (.v (.int kd (A.conv kd n))) none
    |_=>False
   |_=>rO p (λ_=>Go.convert src dst (.int j n)) (λr=>k (.v r) none)
  | .v a=>rO p (λ_=>Go.convert src dst a) (λr=>k (.v r) none)
  |_=>False
 | .makeInterface t x=>match (T.ty t).kd with
  | .fXS=>False
  | .none=>False
  |_=>match ρ x with
   | .v v=>k (.v (.iface t v)) none
   |_=>False
 | .makeFunc fn f c=>match mK (f.toList.map ρ)with
  |some fs=>match mK (c.toList.map ρ)with
   |some cs=>k (.v (.func fn fs.toArray cs.toArray)) none
   |none=>False
  |none=>False
 | .slice t x lo hi mx=>match UH ρ lo,UH ρ hi,UH ρ mx with
  |some l,some hh,some m=>match (T.ty t).kd with
   | .nd e=>match (T.ty e).kd.isNone with
    |true=>False
    |false=>match ρ x with
     | .v (.slice b len cap)=>wG A b len cap (T.ty e).size l hh m (λr=>k (.v r) none)
     |_=>False
   | .arr q e=>match (T.ty e).kd.isNone with
    |true=>False
    |false=>match ρ x with
     | .v (.pointer (some a))=>wG A (some a) q q (T.ty e).size l hh m (λr=>k (.v r) none)
     |_=>False
   | .str=>match ρ x with
    | .v (.string s)=>match m with
     |none=>zM A s l hh (λr=>k (.v r) none)
     |some _=>False
    |_=>False
   |_=>False
  |_,_,_=>False
 | .call { callee:=.builtin b,args,argTypes }=>match b with
  | .len=>match argTypes[0]? with
   |some t=>match mK (args.toList.map ρ)with
    |some [.slice _ n _]=>match (T.ty t).kd with
     | .nd _=>k (.v (.int .i64 (A.nat n))) none
     |_=>False
    |some [.string s]=>match (T.ty t).kd with
     | .str=>k (.v (.int .i64 (A.iQ s))) none
     |_=>False
    |_=>False
   |none=>False
  | .cap=>match argTypes[0]? with
   |some t=>match mK (args.toList.map ρ)with
    |some [.slice _ _ n]=>match (T.ty t).kd with
     | .nd _=>k (.v (.int .i64 (A.nat n))) none
     |_=>False
    |_=>False
   |none=>False
  | .min=>match mK (args.toList.map ρ)with
   |some [.int kd a,.int _ b]=>k (.v (.int kd (A.iT a b))) none
   |_=>False
  | .max=>match mK (args.toList.map ρ)with
   |some [.int kd a,.int _ b]=>k (.v (.int kd (A.imax a b))) none
   |_=>False
  |_=>False
 | .typeAssert x q as ok=>match ρ x with
  | .v a=>rO p (λ_=>Instr.typeAssert a q as ok) (λr=>k (.v r) none)
  |_=>False
 |_=>False
structure HG(h:ab)(a:Addr)(cs:List Value)(k:ab->Prop):Prop where
 out:∃c e fr,a.spot=none/\h a.block=some (.cells c e fr)/\a.off+cs.length<=c.size/\(∀i,i<cs.length->¬(fr.1<=a.off+i/\a.off+i<fr.2))/\
  ∀h',h'=bH h a.block (.cells (fa c.toList a.off cs).toArray e fr)->k h'
def YF(h:ab)(b:Option Addr)(n:Nat)(cs:List Value):Prop:=
 (n=0/\cs=[])\/∃a,b=some a/\IH h a n cs
def wo(h:ab)(b:Option Addr)(cs:List Value)(k:ab->Prop):Prop:=
 (cs=[]/\k h)\/∃a,b=some a/\HG h a cs k
def fI(n:Nat)(z:List Value):List Value:=(List.replicate n z).flatten
def qF(s:ByteArray):List Value:=s.data.toList.map λb=>.int .u8 b.toNat
structure pq(h:ab)(b:Option Addr)(len cap n size bytes e:Nat)(new:List Value)(k:Value->ab->Prop):Prop where
 one:gE new=true
 fits:len+n<=cap->wo h (b.map (·.add (len*size))) new (λh'=>k (.slice b (len+n) cap) h')
 ZM:cap<len+n->2*(len+n)*bytes<=2^48/\len+n<=2^48/\∃PX,YF h b (len*size) PX/\
  ∀nb c h' rest,h nb=none->len+n<=c->rest.length=(c-(len+n))*size->h'=bH h nb (.cells (PX++new++rest).toArray e (0,0))->k (.slice (some ⟨nb,0,none⟩) (len+n) c) h'
structure aQm(h:ab)(b:Option Addr)(len cap n size bytes e:Nat)(z:List Value)(k:Value->ab->Prop):Prop where
 out:pq h b len cap n size bytes e (fI n z) k
structure fq(h:ab)(b:Option Addr)(len cap:Nat)(x:Option Addr)(n size bytes e:Nat)(k:Value->ab->Prop):Prop where
 out:∃new,YF h x (n*size) new/\pq h b len cap n size bytes e new k
structure tF(h:ab)(e:Nat)(l c:Int)(bytes:Nat)(z:List Value)(k:Value->ab->Prop):Prop where
 len:0<=l/\l<=c
 room:c<=2^48/\(bytes:Int)*c<=2^48
 out:∀nb h',h nb=none->h'=bH h nb (.cells (fI c.toNat z).toArray e (0,0))->k (.slice (some ⟨nb,0,none⟩) l.toNat c.toNat) h'
structure tG(h:ab)(b:Option Addr)(len:Nat)(x:Option Addr)(n size:Nat)(k:Value->ab->Prop):Prop where
 out:∃cs,YF h x (min n len*size) cs/\gE cs=true/\wo h b cs (λh'=>k (.int .i64 ((min n len:Nat):Int)) h')
structure uq(h:ab)(b:Option Addr)(len:Nat)(z:List Value)(k:ab->Prop):Prop where
 one:gE z=true
 out:wo h b (fI len z) k
def hx(A:Ar)(T:aN)(p:Unit->Program)(o:Oper)(ρ:Operand->SV)(L:Loc)(h:ab)(k:SV->Loc->ab->Prop):Prop:=
 match o.op with
 | .assign x=>k (ρ x) L h
 | .store t a x=>match (T.ty t).kd.isNone with
  |true=>False
  |false=>match ρ x with
   | .v v=>match v.cells.toList.length==(T.ty t).size with
    |false=>False
    |true=>match gE v.cells.toList with
     |false=>False
     |true=>match ρ a with
      | .loc s off=>match js L s with
       |some c=>match decide (off+v.cells.toList.length<=c.length)with
        |true=>k (.v undef) (tJ L s (fa c off v.cells.toList)) h
        |false=>False
       |none=>False
      | .v (.pointer (some y))=>HG h y v.cells.toList (λh'=>k (.v undef) L h')
      |_=>False
   |_=>False
 | .alloc e=>match (T.ty e).kd.isNone with
  |true=>False
  |false=>∀n h',h n=none->h'=bH h n (.cells (T.ty e).zero.toArray e (0,0))->k (.v (.pointer (some ⟨n,0,none⟩))) L h'
 | .box e x=>match ρ x with
  | .v v=>∀n h',h n=none->h'=bH h n (.cells v.cells e (0,0))->k (.v (.pointer (some ⟨n,0,none⟩))) L h'
  |_=>False
 | .buildSlice t len parts=>match (T.ty t).kd with
  | .nd e=>match (T.ty e).kd.isNone with
   |true=>False
   |false=>match lP ρ parts.toList with
    |some ps=>match decide (len*(T.ty e).size<=2^24),(T.ty e).zero.length==(T.ty e).size with
     |true,true=>match AT (λi=>some (i*(T.ty e).size,(T.ty e).size)) (fI len (T.ty e).zero) ps with
      |some cs=>∀n h',h n=none->h'=bH h n (.cells cs.toArray e (0,0))->k (.v (.slice (some ⟨n,0,none⟩) len len)) L h'
      |none=>False
     |_,_=>False
    |none=>False
  |_=>False
 | .makeSlice t l c=>match (T.ty t).kd with
  | .nd e=>match (T.ty e).kd.isNone with
   |true=>False
   |false=>match ρ l with
    | .v (.int _ l)=>match ρ c with
     | .v (.int _ c)=>match (T.ty e).zero.length==(T.ty e).size with
      |true=>tF h e l c (T.ty e).bytes (T.ty e).zero (λx h'=>k (.v x) L h')
      |false=>False
     |_=>False
    |_=>False
  |_=>False
 | .makeMap t r=>match r with
  |none=>∀n h',h n=none->h'=bH h n (.map #[] 0)->k (.v (.map (some n))) L h'
  |some _=>False
 | .call { callee:=.value f,args, .. }=>match ρ f with
  | .v (.func (.func g) first cap)=>match mK (args.toList.map ρ)with
   |some as=>match T.fn g with
    |true=>match T.gZb g with
     |true=>NT p g (first.toList++as++cap.toList) h (λr h'=>k (.v r) L h') (λc h'=>T.kp c (T.rs.map λt=>ρ (.tmp t)) h')
     |false=>Ca p g (first.toList++as++cap.toList) h (λr h'=>k (.v r) L h')
    |false=>dF p (λ_=>xA g (first.toList++as++cap.toList)) h (λr h'=>k (.v r) L h')
   |none=>False
  | .v (.func (.yield l) first _)=>match mK (args.toList.map ρ)with
   |some as=>XA p l (first.toList++as) h (λr h'=>k (.v r) L h')
   |none=>False
  |_=>False
 | .call { callee:=.builtin b,args,argTypes }=>match b with
  | .append=>match argTypes[0]?,argTypes[1]? with
   |some t,some u=>match (T.ty t).kd with
    | .nd e=>match (T.ty e).kd.isNone with
     |true=>False
     |false=>match (T.ty e).zero.length==(T.ty e).size with
      |false=>False
      |true=>match mK (args.toList.map ρ)with
       |some [.slice b len cap,.slice x n _]=>match (T.ty u).kd with
        | .nd _=>fq h b len cap x n (T.ty e).size (T.ty e).bytes e (λv h'=>k (.v v) L h')
        |_=>False
       |some [.slice b len cap,.string s]=>match (T.ty u).kd with
        | .str=>pq h b len cap s.size (T.ty e).size (T.ty e).bytes e (qF s) (λv h'=>k (.v v) L h')
        |_=>False
       |some [.slice b len cap,.int _ n]=>match (T.ty u).kd with
        | .int _=>pS (λ_=>0<=n/\n<=2^48/\n*(T.ty e).bytes<=2^48) (λ_=>aQm h b len cap (A.mW n 0) (T.ty e).size (T.ty e).bytes e (T.ty e).zero (λv h'=>k (.v v) L h'))
        |_=>False
       |_=>False
    |_=>False
   |_,_=>False
  | .copy=>match argTypes[0]? with
   |some t=>match (T.ty t).kd with
    | .nd e=>match (T.ty e).kd.isNone with
     |true=>False
     |false=>match mK (args.toList.map ρ)with
      |some [.slice b len _,.slice x n _]=>tG h b len x n (T.ty e).size (λv h'=>k (.v v) L h')
      |_=>False
    |_=>False
   |none=>False
  | .clear=>match argTypes[0]? with
   |some t=>match (T.ty t).kd with
    | .nd e=>match (T.ty e).kd.isNone with
     |true=>False
     |false=>match (T.ty e).zero.length==(T.ty e).size with
      |false=>False
      |true=>match mK (args.toList.map ρ)with
       |some [.slice b len _]=>uq h b len (T.ty e).zero (λh'=>k (.v (.tuple #[])) L h')
       |_=>False
    |_=>False
   |none=>False
  | .delete=>match mK (args.toList.map ρ)with
   |some as=>dF p (λ_=>Builtin.delete_ argTypes o.type as.toArray) h (λr h'=>k (.v r) L h')
   |none=>False
  |_=>False
 | .convert src dst x=>match ρ x with
  | .v a=>dF p (λ_=>Go.convert src dst a) h (λr h'=>k (.v r) L h')
  |_=>False
 | .lookup t x i ok=>match ρ x with
  | .v a=>match ρ i with
   | .v b=>dF p (λ_=>Instr.lookup t a b ok) h (λr h'=>k (.v r) L h')
   |_=>False
  |_=>False
 | .mapUpdate t m i x=>match ρ m with
  | .v a=>match ρ i with
   | .v b=>match ρ x with
    | .v c=>dF p (λ_=>do Instr.mapUpdate t a b c;pure undef) h (λ_ h'=>k (.v undef) L h')
    |_=>False
   |_=>False
  |_=>False
 | .mapEntry t m i=>match ρ m with
  | .v a=>match ρ i with
   | .v b=>dF p (λ_=>Instr.mapEntry t a b) h (λr h'=>k (.v r) L h')
   |_=>False
  |_=>False
 | .entryStore t m i x=>match ρ m with
  | .v a=>match ρ i with
   | .v b=>match ρ x with
    | .v c=>dF p (λ_=>do Instr.entryStore t a b c;pure undef) h (λ_ h'=>k (.v undef) L h')
    |_=>False
   |_=>False
  |_=>False
 | .range t x=>match ρ x with
  | .v a=>dF p (λ_=>Instr.range t a) h (λr h'=>k (.v r) L h')
  |_=>False
 | .next it str=>match ρ it with
  | .v a=>dF p (λ_=>Instr.next a str o.type) h (λr h'=>k (.v r) L h')
  |_=>False
 | .entry it=>match ρ it with
  | .v a=>dF p (λ_=>Instr.entry a) h (λr h'=>k (.v r) L h')
  |_=>False
 | .insert t m i x=>match ρ m with
  | .v a=>match ρ i with
   | .v b=>match ρ x with
    | .v c=>dF p (λ_=>do Instr.mapUpdate t a b c;pure undef) h (λ_ h'=>k (.v undef) L h')
    |_=>False
   |_=>False
  |_=>False
 | .panic x=>match ρ x with
  | .v (.iface t v)=>T.kp [{ v:=.iface t v,recovered:=false }] (T.rs.map λt=>ρ (.tmp t)) h
  |_=>False
 |_=>False
def put(env:Env)(d:Option Nat)(x:SV):Env:=
 match d with
 |some t=>env.set t x
 |none=>env
def pk(L:Loc)(d:Option Nat)(nb:Option (List Value)):Loc:=
 match d,nb with
 |some t,some c=>(t,c)::L
 |_,_=>L
def gd(ops:List Oper)(env:Env)(o:Oper)(yes no:Unit->Prop):Prop:=
 match o.guard with
 |none=>yes ()
 |some (j,want)=>match ops[j]? with
  |some oj=>match oj.dst with
   |some d=>match env.getD d .u with
    | .v (.bool b)=>match want with
     |true=>JR b yes no
     |false=>JR b no yes
    | .v (.tuple _)=>no ()
    |_=>False
   |none=>no ()
  |none=>no ()
def zH(A:Ar)(T:aN)(p:Unit->Program)(all:List Oper)(K:Env->Loc->ab->Prop):List Oper->Env->Loc->ab->Prop
 | [],env,L,h=>K env L h
 |o::rest,env,L,h=>
  gd all env o
   (λ_=>match jP T o with
    |true=>gO A T p o (mY env) L h (λx nb=>zH A T p all K rest (put env o.dst x) (pk L o.dst nb) h)
    |false=>hx A T p o (mY env) L h (λx L' h'=>zH A T p all K rest (put env o.dst x) L' h'))
   (λ_=>zH A T p all K rest (put env o.dst (.v undef)) L h)
def CG(T:aN)(strict:Bool)(h:ab)(L:Loc)(env:Env)(o:Oper)(rest:Unit->Prop):Prop:=
 match o.op with
 | .load t a=>match mY env a with
  | .v (.pointer (some x))=>vX h x (T.ty t).size (λcs=>pJ (T.ty t).agg cs (λx=>pS (λ_=>∃d,o.dst=some d/\env[d]? =some (.v x)) rest))
  | .loc s off=>match strict with
   |false=>rest ()
   |true=>match js L s with
    |some c=>match takeN c off (T.ty t).size with
     |some cs=>pJ (T.ty t).agg cs (λx=>pS (λ_=>∃d,o.dst=some d/\env[d]? =some (.v x)) rest)
     |none=>False
    |none=>False
  |_=>False
 |_=>rest ()
def pins(T:aN)(strict:Bool)(all:List Oper)(h:ab)(L:Loc)(env:Env):List Nat->(Unit->Prop)->Prop
 | [],k=>k ()
 |i::r,k=>match all[i]? with
  |some o=>gd all env o (λ_=>CG T strict h L env o (λ_=>pins T strict all h L env r k)) (λ_=>pins T strict all h L env r k)
  |none=>False
def eR(o:Oper):Bool:=match o.op with
 | .store .. =>true
 |_=>false
def ik(A:Ar)(T:aN)(p:Unit->Program)(all:List Oper)(K:Env->Loc->ab->Prop):sX->Env->Loc->ab->Prop
 | .done,env,L,h=>K env L h
 | .aa i rest,env,L,h=>match all[i]? with
  |some o=>gd all env o
   (λ_=>gO A T p o (mY env) L h (λx nb=>ik A T p all K rest (put env o.dst x) (pk L o.dst nb) h))
   (λ_=>ik A T p all K rest (put env o.dst (.v undef)) L h)
  |none=>False
 | .ad i pn rest,env,L,h=>match all[i]? with
  |some o=>gd all env o
   (λ_=>hx A T p o (mY env) L h (λx L' h'=>pins T (eR o) all h' L' (put env o.dst x) pn (λ_=>ik A T p all K rest (put env o.dst x) L' h')))
   (λ_=>ik A T p all K rest (put env o.dst (.v undef)) L h)
  |none=>False
 | .fork l r,env,L,h=>ik A T p all K l env L h/\ik A T p all K r env L h
inductive Ex where
 |normal
 |exit (id:Nat)
 |ret
def wk:Env->Env->Prop
 | [],[]=>True
 |x::r,y::q=>match y with
  | .u=>wk r q
  | .v b=>x=.v b/\wk r q
  | .loc s o=>x=.loc s o/\wk r q
 |_,_=>False
def Vp(L:Loc):Loc->Prop
 | []=>True
 | (s,c)::r=>js L s=some c/\Vp L r
def bZH(L:Loc):Env->Prop
 | []=>True
 |x::r=>match x with
  | .loc s _=>(js L s).isSome=true/\bZH L r
  |_=>bZH L r
structure Wk(env:Env)(L:Loc)(gF:Env)(L1:Loc):Prop where
 env:wk env gF
 loc:Vp L L1
 ok:bZH L1 gF
def OE:List Oper->List Nat
 | []=>[]
 |o::r=>match o.dst with
  |some d=>d::OE r
  |none=>OE r
def wr:Code->List Nat
 | .region _ ops _=>OE ops.toList
 | .seq a b| .cond _ a b=>wr a++wr b
 | .block _ c| .loop c| .scope c=>wr c
 |_=>[]
structure aK(ws:List Nat)(body:(Ex->Env->Loc->ab->Prop)->Env->Loc->ab->Prop)(K:Ex->Env->Loc->ab->Prop)(env:Env)(L:Loc)(h:ab):Prop where
 out:∃(I:Nat->Env->Loc->ab->Prop) (n:Nat),(∃gF L1,Wk env L gF L1/\I n gF L1 h)/\
  ∀n env L h,I n env L h->body (λe ca L' h'=>match e with
   | .normal=>∃m gF L1,m<n/\Wk ca L' gF L1/\I m gF L1 h'
   |e=>K e ca L' h') env L h
def sx(A:Ar)(T:aN)(p:Unit->Program):Code->(Ex->Env->Loc->ab->Prop)->Env->Loc->ab->Prop
 | .skip,K,env,L,h=>K .normal env L h
 | .region id ops draw,K,env,L,h=>match draw with
  |false=>zH A T p ops.toList (λenv L h=>K .normal env L h) ops.toList env L h
  |true=>ik A T p ops.toList (λenv L h=>K .normal env L h) (T.aw id) env L h
 | .seq a b,K,env,L,h=>sx A T p a (λe env L h=>match e with
  | .normal=>sx A T p b K env L h
  |e=>K e env L h) env L h
 | .cond c a b,K,env,L,h=>match mY env c with
  | .v (.bool t)=>JR t (λ_=>sx A T p a K env L h) (λ_=>sx A T p b K env L h)
  |_=>False
 | .block id c,K,env,L,h=>sx A T p c (λe env L h=>match e with
  | .exit j=>if j=id then K .normal env L h else K (.exit j) env L h
  |e=>K e env L h) env L h
 | .loop c,K,env,L,h=>aK (wr c) (λK' env L h=>sx A T p c K' env L h) K env L h
 | .exit id,K,env,L,h=>K (.exit id) env L h
 | .ret,K,env,L,h=>K .ret env L h
 | .scope c,K,env,L,h=>sx A T p c K env L h
 | .label _,K,env,L,h=>K .normal env L h
 |_,_,_,_,_=>False
def aXc(T:aN)(env:Env)(L:Loc)(h:ab):ResultVar->(Value->Prop)->Prop
 | .tmp t,k=>match env.getD t .u with
  | .v x=>k x
  |_=>False
 | .cell a t,k=>match (T.ty t).kd,env.getD a .u with
  | .none,_=>False
  |_,.loc s off=>match js L s with
   |some c=>match takeN c off (T.ty t).size with
    |some cs=>pJ (T.ty t).agg cs k
    |none=>False
   |none=>False
  |_,.v (.pointer (some x))=>vX h x (T.ty t).size (λcs=>pJ (T.ty t).agg cs k)
  |_,_=>False
def uV(T:aN)(env:Env)(L:Loc)(h:ab):List ResultVar->(List Value->Prop)->Prop
 | [],k=>k []
 |r::rs,k=>aXc T env L h r (λx=>uV T env L h rs (λxs=>k (x::xs)))
def ou(l:List Value)(k:Value->Prop):Prop:=match l with
 | [x]=>k x
 |l=>k (.tuple l.toArray)
def bXN(A:Ar)(T:aN)(p:Unit->Program)(c:Code)(ntmps:Nat)(rs:List ResultVar)(args:List Value)(h:ab)(R:Value->ab->Prop):Prop:=
 sx A T p c (λe env L h=>match e with
  | .exit _=>False
  |_=>uV T env L h rs (λl=>ou l (λv=>R v h))) (args.map SV.v++List.replicate (ntmps-args.length) (.v undef)) [] h
variable {P:Program}{T:aN}{A:Ar}[aV A]
structure aKA(w w':World):Prop where
 os:w'.os=w.os
 tape:w'.tape=w.tape
 output:w'.output=w.output
theorem bD.refl{h:ab}{w:World}(a:yH h w):bD h w h w:=
 ⟨rfl,rfl,rfl,mr _,a,λ_ _ b=>⟨rfl,b⟩⟩
theorem bD.trans{h c d:ab}{w f g:World}(a:bD h w c f)(b:bD c f d g):bD h w d g:=
 ⟨b.os.trans a.os,b.tape.trans a.tape,b.output.trans a.output,hJX a.size b.size,b.zc,λk e n=>
  have x:=a.frame k e n;have y:=b.frame k (Nat.lt_of_lt_of_le e a.size) x.2
  ⟨y.1.trans x.1,y.2⟩⟩
theorem yH.kX{h:ab}{w:World}(a:yH h w){b:Nat}(c:w.heap.size<=b):h b=none:=by
 cases d:h b with
 |none=>rfl
 |some o=>have:=a b o d;rw[iXr c]at this;cases this
theorem Fn.mono{h:ab}{R a:Value->ab->Prop}(x:Fn P f args h R)(r:∀v h',R v h'->a v h'):Fn P f args h a:=
 λw c=>(x w c).mono λe d ⟨v,h',he,hR,b⟩=>⟨v,h',he,r _ _ hR,b⟩
theorem NT.mono{h:ab}{R i:Value->ab->Prop}{K g:List PanicEntry->ab->Prop}(x:NT p f args h R K)(r:∀v h',R v h'->i v h')(k:∀c h',K c h'->g c h'):NT p f args h i g:=
 ⟨λw j=>(x.out w j).mono λe l q=>by
  rcases q with⟨v,h',a,b,d⟩|⟨c,h',a,b,d⟩
  .exact .inl ⟨v,h',a,r _ _ b,d⟩
  exact .inr ⟨c,h',a,k _ _ b,d⟩⟩
theorem Ca.mono{h:ab}{R a:Value->ab->Prop}(x:Ca p f args h R)(r:∀v h',R v h'->a v h'):Ca p f args h a:=
 ⟨x.out.mono r⟩
structure vT(P:Program)(t:TypeId)(i:Ti):Prop where
 ex:∃ti d z,P.info? t=some ti/\P.underlying t=some d/\ti.zero=some z/\
  i.agg=(match d with| .struct _| .array _ _=>true|_=>false)/\i.size=ti.size/\i.bytes=ti.bytes/\i.zero=z.cells.toList/\i.kd=mS d/\i.flat=JC P t d
theorem fv(c:eU P T){t:TypeId}(h:(T.ty t).kd≠.none):vT P t (T.ty t):=by
 rcases c.ty t with e|e
 .rw[e]at h |-;unfold aXD at h |-;cases i:P.info? t with
  |none=>simp[i,Ti.none]at h
  |some b=>
   cases hu:P.underlying t with
   |none=>simp[i,hu,Ti.none]at h
   |some d=>
    cases a:b.zero with
    |none=>simp[i,hu,a,Ti.none]at h
    |some z=>refine⟨b,d,z,?_⟩;simp only[a,i,hu,true_and];all_goals (cases d<;>simp)
 rw[e]at h;exact absurd rfl h
theorem vT.Ga{t:TypeId}{i:Ti}(h:vT P t i)(w:World):∃a,(typeInfo t).run P w=.ok a w/\i.size=a.size/\i.bytes=a.bytes:=by obtain⟨a,d,z,b,-,-,-,c,e,-,-,-⟩:=h.ex;exact⟨a,by simp[typeInfo,b],c,e⟩
theorem vT.eN{t:TypeId}{i:Ti}(h:vT P t i)(w:World):(sizeOf t).run P w=.ok i.size w:=by obtain⟨c,a,b,-⟩:=h.Ga w;simp[sizeOf,a,b]
theorem vT.cj{t:TypeId}{i:Ti}(h:vT P t i)(w:World):∃d,(underlying t).run P w=.ok d w/\P.underlying t=some d/\i.kd=mS d/\
 i.agg=(match d with| .struct _| .array _ _=>true|_=>false):=by
 obtain⟨e,d,z,-,a,-,b,-,-,-,c,-⟩:=h.ex;exact⟨d,by simp[underlying,a],a,c,b⟩
theorem vT.Cx{t:TypeId}{i:Ti}(h:vT P t i)(w:World):(isAgg t).run P w=.ok i.agg w:=by obtain⟨d,a,-,-,b⟩:=h.cj w;unfold isAgg;rw[mc,a,b];cases d<;>rfl
theorem vT.mN{t:TypeId}{i:Ti}(h:vT P t i)(w:World):∃z,(zeroValue t).run P w=.ok z w/\z.cells.toList=i.zero:=by obtain⟨e,d,z,a,-,b,-,-,-,c,-,-⟩:=h.ex;exact⟨z,by simp[zeroValue,typeInfo,a,b],c.symm⟩
theorem bL(b o n:Nat):(⟨b,o,none⟩:Addr).add n=⟨b,o+n,none⟩:=by
 unfold Addr.add;split
 .rename_i h;simp[h]
 rfl
theorem LF{w:World}{b o:Nat}{c:Array Value}{e:TypeId}(h:w.heap[b]? =some (.cells c e fr)):w.cell? ⟨b,o,none⟩=c[o]? :=by simp[World.cell?,h]
theorem nr{t:TypeId}{i:Ti}(e:vT P t i)(w:World)(b o:Nat)(cs:List Value)(hl:cs.length=i.size)
 (d:∀j,j<cs.length->w.cell? ⟨b,o+j,none⟩=cs[j]?)  (h:pJ i.agg cs k):
 ∃v,(loadVar t ⟨b,o,none⟩).run P w=.ok v w/\k v:=by
 unfold loadVar;rw[mc,e.Cx];unfold pJ at h;cases c:i.agg with
 |true=>
  simp only[c]at h;refine⟨_,?_,h⟩;have:=run_loadCells_list (P:=P) w ⟨b,o,none⟩ cs (λj v a=>by
   rw[bL,d j (by rw[dB]at a;exact a.1),a])
  simp[e.eN,<-hl,this]
 |false=>
  simp only[c]at h;cases cs with
  |nil=>exact h.elim
  |cons x r=>refine⟨x,?_,h⟩;have:=d 0 (by simp);simp only[hKz,iXn]at this;simp[this]
theorem IH.cell{h:ab}{w:World}(i:yH h w){a:Addr}{n:Nat}(r:IH h a n cs):
 a.spot=none/\cs.length=n/\∀j,j<cs.length->w.cell? ⟨a.block,a.off+j,none⟩=cs[j]? :=by
 obtain⟨d,b,c,e,fr,f,g⟩:=r;refine⟨d,b,λj k=>?_⟩;rw[LF (i _ _ f)];exact g j (b ▸ k)
theorem aXw{v:Value}(h:one v=true)(a:Addr)(m:Mode)(w:World){c:Array Value}{e:TypeId}(s:a.spot=none)
 (b:w.heap[a.block]? =some (.cells c e fr)) (o:a.off<c.size) (f:¬(fr.1<=a.off/\a.off<fr.2)):
 (store a v m).run P w=.ok () (w.setCell a v):=by
 have d:w.cell? a=some c[a.off]:=by simp[World.cell?,b,s,o]
 have z:w.frozen? a=false:=by obtain⟨l,i⟩:=fr;simp only[World.frozen?,b];simp only[iXq,decide_eq_false_iff_not];simp only at f;omega
 cases v<;>first
  | (simp[one]at h;done)
  | (simp only[store,Sem.run,d,z];rfl)
theorem dP(c:List Value)(o:Nat)(s:List Value):(fa c o s).length=c.length:=by
 induction s generalizing c o with
 |nil=>rfl
 |cons v r i=>simp[fa,i]
theorem mO{b o:Nat}{e:TypeId}:∀(s:List Value) (i:Nat) (c:Array Value) (w:World),
 w.heap[b]? =some (.cells c e fr)->o+i+s.length<=c.size->(∀j,j<s.length->¬(fr.1<=o+i+j/\o+i+j<fr.2))->gE s=true->
 ∃a,(storeCells ⟨b,o,none⟩ s i).run P w=.ok () a/\a.heap[b]? =some (.cells (fa c.toList (o+i) s).toArray e fr)/\
  (∀d,d≠b->a.heap[d]? =w.heap[d]?)/\a.heap.size=w.heap.size/\aKA w a
 | [],i,c,w,f,_,_,_=>⟨w,rfl,by simp[fa,f],λ_ _=>rfl,rfl,rfl,rfl,rfl⟩
 |v::r,i,c,w,f,hl,k,h=>by
  simp only[hJB]at hl k;have t:one v=true:=by
   unfold gE at h;split at h
   .assumption
   cases h
  have u:gE r=true:=by
   unfold gE at h;split at h
   .assumption
   cases h
  have E:=aXw (P:=P) t ⟨b,o+i,none⟩ .plain w rfl f (by show o+i<c.size;omega) (by simpa using k 0 (by omega));have C:(w.setCell ⟨b,o+i,none⟩ v).heap[b]? =some (.cells (c.setIfInBounds (o+i) v) e fr):=by simp[World.setCell,iQC,f]
  obtain⟨a,l,n,p,q,g⟩:=mO (o:=o) r (i+1) (c.setIfInBounds (o+i) v) _ C (by simp;omega)
   (λj x=>by have:=k (j+1) (by omega);rw[show o+(i+1)+j=o+i+(j+1)by omega];exact this) u
  refine⟨a,?_,?_,?_,?_,?_⟩
  .unfold storeCells;rw[mc,bL,E];exact l
  .rw[n];simp[fa,iQB,hKi]
  .intro d m;rw[p d m];simp[World.setCell,iQC,Ne.symm m]
  .rw[q];simp[World.setCell]
  exact⟨g.os,g.tape,g.output⟩
def nY(β:Nat->Nat)(L:Loc):SV->Value->Prop
 | .v x,y=>y=x
 | .loc s off,y=>(∃c,js L s=some c)/\y=.pointer (some ⟨β s,off,none⟩)
 | .u,_=>True
structure da(ds:List Deferred)(h0:ab)(w0:World)(β:Nat->Nat)(env:Env)(L:Loc)(h:ab)(a:Act)(w:World):Prop where
 after:bD h0 w0 h w
 loc:∀s c,js L s=some c->w0.heap.size<=β s/\h (β s)=none/\∃e,w.heap[β s]? =some (.cells c.toArray e (0,0))
 inj:∀s s' c c',js L s=some c->js L s'=some c'->β s=β s'->s=s'
 size:a.tmps.size=env.length
 slot:∀t x,env[t]? =some x->nY β L x (a.tmps.getD t undef)
 defers:a.defers=ds
variable {ds:List Deferred}{h0:ab}{w0:World}{β:Nat->Nat}{env:Env}{L:Loc}{h:ab}{a:Act}{w:World}
theorem getD_some{env:Env}{t:Nat}{x:SV}(h:env.getD t .u=x)(hx:x≠.u):env[t]? =some x:=by
 rw[xa]at h;cases a:env[t]? with
 |none=>rw[a]at h;exact absurd h.symm hx
 |some y=>rw[a]at h;simp at h;rw[h]
theorem da.mY(s:da ds h0 w0 β env L h a w)(o:Operand):nY β L (mY env o) (a.eval o):=by
 cases o with
 |tmp t=>
  show nY β L (env.getD t .u) _;by_cases u:env.getD t .u=.u
  .rw[u];trivial
  exact s.slot t _ (getD_some rfl u)
 |const v=>rfl
 |global g=>rfl
 |func f=>rfl
theorem da.bo(s:da ds h0 w0 β env L h a w){o:Operand}{x:Value}(hx:Sx.mY env o=.v x):a.eval o=x:=by have:=s.mY o;rw[hx]at this;exact this
theorem da.oC(b:da ds h0 w0 β env L h a w){o:Operand}{s off:Nat}(hx:Sx.mY env o=.loc s off):
 (∃c,js L s=some c)/\a.eval o=.pointer (some ⟨β s,off,none⟩):=by
 have:=b.mY o;rw[hx]at this;exact this
theorem da.lt(d:da ds h0 w0 β env L h a w){s:Nat}(hl:js L s=some c):β s<w.heap.size:=by obtain⟨-,-,e,b⟩:=d.loc s c hl;exact(zj.1 b).1
theorem da.put(s:da ds h0 w0 β env L h a w){d:Option Nat}{x:SV}{v:Value}(c:nY β L x v):da ds h0 w0 β (put env d x) L h (a.put d v) w:=by
 cases d with
 |none=>exact s
 |some t=>
  refine⟨s.after,s.loc,s.inj,by simp[Act.put,Sx.put,s.size],λu y b=>?_,s.defers⟩;simp only[Sx.put,Act.put]at b |-;rw[hJN]at b;split at b
  .rename_i e;subst e;split at b
   .rename_i I;cases b;have:t<a.tmps.size:=by rw[s.size];exact I
    simpa[zt,iQt this]using c
   cases b
  rename_i m;have:=s.slot u y b;simpa[zt,iQp m]using this
theorem vl{s:Nat}{L:Loc}{t:Nat}:js ((s,c)::L) t=if s=t then some c else js L t:=rfl
theorem oA{w:World}{o:Obj}{b:Nat}(h:b<w.heap.size):(w.heap.push o)[b]? =w.heap[b]? :=by rw[Array.getElem?_push,if_neg (by omega)]
theorem bD.push{h0:ab}{w0:World}{h:ab}{w:World}(x:bD h0 w0 h w)(o:Obj):bD h0 w0 h { w with heap:=w.heap.push o }:=by refine x.trans ⟨rfl,rfl,rfl,by simp,λb o' a=>?_,λb a n=>⟨oA a,n⟩⟩;have:=x.zc b o' a;rw[oA ((zj.1 this).1)];exact this
theorem da.box(b:da ds h0 w0 β env L h a w){d:Nat}(n:js L d=none)(c:List Value)(e:TypeId):
 da ds h0 w0 (λs=>if s=d then w.heap.size else β s) (Sx.put env (some d) (.loc d 0)) ((d,c)::L) h (a.put (some d) (.pointer (some ⟨w.heap.size,0,none⟩)))
  { w with heap:=w.heap.push (.cells c.toArray e) }:=by
 have base:da ds h0 w0 (λs=>if s=d then w.heap.size else β s) env ((d,c)::L) h a { w with heap:=w.heap.push (.cells c.toArray e) }:=by
  refine⟨b.after.push _,λs c' hl=>?_,λs p q r hl U i=>?_,b.size,λt x hx=>?_,b.defers⟩
  .rw[vl]at hl;by_cases X:s=d
   .rw[if_pos X.symm]at hl;cases hl;simp only[X,if_true];exact⟨b.after.size,b.after.zc.kX (mr _),e,by simp⟩
   rw[if_neg (Ne.symm X)]at hl;simp only[if_neg X];obtain⟨f,g,k,l⟩:=b.loc s c' hl;exact⟨f,g,k,by rw[oA (b.lt hl)];exact l⟩
  .rw[vl]at hl U;by_cases f:s=d<;>by_cases g:p=d
   .rw[f,g]
   .rw[if_neg (Ne.symm g)]at U;simp only[f,if_true,if_neg g]at i;have:=b.lt U;omega
   .rw[if_neg (Ne.symm f)]at hl;simp only[g,if_true,if_neg f]at i;have:=b.lt hl;omega
   rw[if_neg (Ne.symm f)]at hl;rw[if_neg (Ne.symm g)]at U;simp only[if_neg f,if_neg g]at i;exact b.inj _ _ _ _ hl U i
  have:=b.slot t x hx;cases x with
  |v y=>exact this
  |u=>trivial
  |loc s off=>
   obtain⟨⟨c',j⟩,o⟩:=this;have m:s≠d:=λe=>by rw[e,n]at j;cases j
   refine⟨⟨c',by rw[vl,if_neg (Ne.symm m)];exact j⟩,?_⟩;simp only[if_neg m];exact o
 refine base.put ?_;refine⟨⟨c,by rw[vl,if_pos rfl]⟩,by simp⟩
theorem ny{L:Loc}{s:Nat}{d:List Value}(hl:js L s=some c)(t:Nat):js (tJ L s d) t=if s=t then some d else js L t:=by
 induction L with
 |nil=>cases hl
 |cons x r i=>
  obtain⟨k,y⟩:=x;by_cases h:k=s
  .subst h;simp only[tJ,if_true,js];by_cases a:k=t<;>simp[a]
  simp only[js,if_neg h]at hl;simp only[tJ,if_neg h,js,i hl];by_cases a:k=t
  .subst a;simp[Ne.symm h]
  simp[a]
theorem da.aQM(f:da ds h0 w0 β env L h a w){s:Nat}{c':List Value}(hl:js L s=some c){i:World}
 (E:∀e,w.heap[β s]? =some (.cells c.toArray e (0,0))->i.heap[β s]? =some (.cells c'.toArray e (0,0))) (j:∀b,b≠β s->i.heap[b]? =w.heap[b]?)
 (J:i.heap.size=w.heap.size) (B:aKA w i):da ds h0 w0 β env (tJ L s c') h a i:=by
 obtain⟨z,p,e,A⟩:=f.loc s c hl;refine⟨⟨B.os.trans f.after.os,B.tape.trans f.after.tape,B.output.trans f.after.output,by rw[J];exact f.after.size,λb o n=>?_,λb F H=>?_⟩,
  λt d g=>?_,λt S Q R C D G=>?_,f.size,λt x hx=>?_,f.defers⟩
 .rw[j b (λe=>by rw[e,p]at n;cases n)];exact f.after.zc b o n
 .have:=f.after.frame b F H;exact⟨by rw[j b (by omega)];exact this.1,this.2⟩
 .rw[ny hl]at g;by_cases m:s=t
  .subst m;rw[if_pos rfl]at g;cases g;exact⟨z,p,e,E e A⟩
  rw[if_neg m]at g;obtain⟨K,M,r,N⟩:=f.loc t d g;exact⟨K,M,r,by rw[j _ (λq=>m (f.inj _ _ _ _ hl g q.symm))];exact N⟩
 .have q:∀t c,js (tJ L s c') t=some c->∃c,js L t=some c:=λt c l=>by
   rw[ny hl]at l;by_cases m:s=t
   .subst m;exact⟨_,hl⟩
   rw[if_neg m]at l;exact⟨_,l⟩
  obtain⟨_,O⟩:=q _ _ C;obtain⟨_,P⟩:=q _ _ D;exact f.inj _ _ _ _ O P G
 have:=f.slot t x hx;cases x with
 |v y=>exact this
 |u=>trivial
 |loc k off=>
  obtain⟨⟨d,g⟩,I⟩:=this;refine⟨?_,I⟩;rw[ny hl];by_cases m:s=k
  .exact⟨c',by rw[if_pos m]⟩
  exact⟨d,by rw[if_neg m];exact g⟩
theorem da.step(b:da ds h0 w0 β env L h a w){h':ab}{f:World}(d:bD h w h' f):da ds h0 w0 β env L h' a f:=
 ⟨b.after.trans d,λs c hl=>by
  obtain⟨g,i,e,j⟩:=b.loc s c hl;have:=d.frame (β s) (b.lt hl) i;exact⟨g,this.2,e,by rw[this.1];exact j⟩,b.inj,b.size,b.slot,b.defers⟩
theorem bD.new{h:ab}{w:World}(c:yH h w)(o:Obj):bD h w (bH h w.heap.size o) { w with heap:=w.heap.push o }:=by
 refine⟨rfl,rfl,rfl,by simp,λb o' a=>?_,λb a n=>⟨oA a,?_⟩⟩
 .simp only[bH]at a;split at a
  .rename_i e;subst e;cases a;simp
  have:=c b o' a;show(w.heap.push o)[b]? =_;rw[oA ((zj.1 this).1)];exact this
 simp only[bH];rw[if_neg (by omega)];exact n
theorem bD.set{h:ab}{w c:World}(j:yH h w){n:Nat}{o o':Obj}(k:h n=some o)(i:c.heap[n]? =some o')(g:∀b,b≠n->c.heap[b]? =w.heap[b]?)
 (l:c.heap.size=w.heap.size) (d:aKA w c):bD h w (bH h n o') c:=by
 refine⟨d.os,d.tape,d.output,by omega,λb q a=>?_,λb a f=>?_⟩
 .simp only[bH]at a;split at a
  .rename_i e;subst e;cases a;exact i
  rename_i e;rw[g b e];exact j b q a
 have:b≠n:=λe=>by rw[e,k]at f;cases f
 exact⟨g b this,by simp only[bH];rw[if_neg this];exact f⟩
variable {P:Program}{T:aN}{A:Ar}[aV A]
theorem jk{t:Bool}{x y:Unit->Prop}(h:JR t x y):(t=true/\x ())\/(t=false/\y ()):=by
 cases t
 .exact .inr ⟨rfl,h⟩
 exact .inl ⟨rfl,h⟩
theorem jH(h:pJ g cs k):∃v,pJ g cs (λx=>x=v)/\k v:=by
 cases g with
 |true=>exact⟨_,rfl,h⟩
 |false=>
  cases cs with
  |nil=>exact h.elim
  |cons x r=>exact⟨x,rfl,h⟩
theorem mC{b:Value->Prop}(h:pJ g cs k)(a:∀v,k v->b v):pJ g cs b:=by
 obtain⟨v,c,d⟩:=jH h;cases g with
 |true=>exact a _ h
 |false=>
  cases cs with
  |nil=>exact h.elim
  |cons x r=>exact a _ h
theorem oN{len:Nat}{l c m:Option Int}(a:wG A b len cap size l c m k):
 ∃v,k v/\∀d:Value->Prop,d v->wG A b len cap size l c m d:=by
 cases m<;>cases c<;>cases l<;>first
  |exact a.elim
  |exact⟨_,a,λ_ h=>h⟩
  |exact⟨_,a.out,λ_ h=>⟨a.h,h⟩⟩
theorem tP{s:ByteArray}{l a:Option Int}(b:zM A s l a k):
 ∃v,k v/\∀c:Value->Prop,c v->zM A s l a c:=by
 cases a<;>cases l<;>first
  |exact⟨_,b,λ_ h=>h⟩
  |exact⟨_,b.out,λ_ h=>⟨b.h,h⟩⟩
theorem Bj{o:BinOp}{a b:Value}{e:(Value->Prop)->Unit->Prop}(f:∀k,e k ()->∃v,k v/\∀c:Value->Prop,c v->e c ())(d:Hw A o a b k (e k)):
 ∃v,k v/\∀c:Value->Prop,c v->Hw A o a b c (e c):=by
 unfold Hw at d |-;repeat' split at d
 all_goals first
  |exact f _ d
  |exact⟨_,d.out,λ_ h=>⟨d.h,h⟩⟩
set_option maxHeartbeats 1000000 in
theorem oT{j:Operand->SV}{L:Loc}{h:ab}{k:SV->Option (List Value)->Prop}(d:gO A T p o j L h k):
 ∃s n,k s n/\∀a:SV->Option (List Value)->Prop,a s n->gO A T p o j L h a:=by
 unfold gO at d |-;repeat' split at d
 all_goals first
  |exact d.elim
  |exact⟨_,_,d,λa h'=>h'⟩
  | (
   obtain⟨cs,b,c⟩:=(show vX _ _ _ _ from d).out
   obtain⟨v,f,g⟩:=jH c;exact⟨_,_,g,λa h'=>⟨cs,b,mC f (λv i=>by subst i;exact h')⟩⟩)
  | (
   obtain⟨v,f,g⟩:=jH d
   exact⟨_,_,g,λa h'=>mC f (λv i=>by subst i;exact h')⟩)
  | (
   obtain⟨v,b,c⟩:=(show rO _ _ _ from d).out
   exact⟨_,_,c,λa h'=>⟨v,b,h'⟩⟩)
  | (
   obtain⟨b,c⟩:=(show pS _ _ from d)
   exact⟨_,_,c,λa h'=>⟨b,h'⟩⟩)
  | (
   obtain⟨v,b,c⟩:=Bj (e:=λk _=>rO p _ k) (λk h=>by
    obtain⟨v,l,m⟩:=h.out;exact⟨v,m,λa h'=>⟨v,l,h'⟩⟩) d
   exact⟨_,_,b,λa h'=>c (λv=>a (.v v) none) h'⟩)
  | (
   obtain⟨v,b,c⟩:=oN d
   exact⟨_,_,b,λa h'=>c _ h'⟩)
  | (
   obtain⟨v,b,c⟩:=tP d
   exact⟨_,_,b,λa h'=>c _ h'⟩)
  |skip
variable {P:Program}{T:aN}{A:Ar}[aV A]
variable {ds:List Deferred}{h0:ab}{w0:World}{β:Nat->Nat}{env:Env}{L:Loc}{h:ab}{a:Act}{w:World}
theorem Ck(e:da ds h0 w0 β env L h a w):∀ {l:List Operand} {c:List Value},mK (l.map (mY env))=some c->l.map a.eval=c
 | [],c,b=>by simp[mK]at b;simp[b]
 |x::r,c,b=>by
  simp only[hKx]at b;cases hx:mY env x with
  |v y=>
   rw[hx]at b;simp only[mK]at b;cases d:mK (r.map (mY env))with
   |none=>rw[d]at b;cases b
   |some l=>rw[d]at b;simp at b;rw[<-b,hKx,e.bo hx,Ck e d]
  |loc s o=>rw[hx]at b;simp[mK]at b
  |u=>rw[hx]at b;simp[mK]at b
theorem ia(s:da ds h0 w0 β env L h a w){l:Array Operand}{v:List Value}(b:mK (l.toList.map (mY env))=some v):l.map a.eval=v.toArray:=by rw[<-Ck s b];apply Array.ext';simp
theorem qP(b:da ds h0 w0 β env L h a w):∀ {l:List (Nat×Operand)} {s:List (Nat×Value)},lP (mY env) l=some s->l.map (λ(i,x)=>(i,a.eval x))=s
 | [],s,v=>by simp[lP]at v;simp[v]
 | (i,x)::r,s,v=>by
  unfold lP at v;split at v
  .rename_i y l hx c;cases v;simp only[hKx];rw[b.bo hx,qP b c]
  cases v
theorem zT(off:Nat):∀(s:List Value) (k:Nat) (cells:Array Value),
 (s.zipIdx k).foldl (λcs (c,j)=>cs.setIfInBounds (off+j) c) cells=(fa cells.toList (off+k) s).toArray
 | [],k,cells=>by simp[fa]
 |v::r,k,cells=>by
  simp only[iQP,iQc];rw[zT off r (k+1)];simp[fa,iQB,hKi]
theorem fill_eq(p:Nat->Option (Nat×Nat)):∀(s:List (Nat×Value)) (cells:Array Value) (cs:List Value),AT p cells.toList s=some cs->Instr.fill p cells s=some cs.toArray
 | [],cells,cs,h=>by
  simp[AT]at h;simp[Instr.fill,<-h]
 | (i,v)::r,cells,cs,h=>by
  unfold AT at h;unfold Instr.fill;cases a:p i with
  |none=>simp[a]at h
  |some x=>
   obtain⟨off,size⟩:=x;simp only[a]at h |-;have l:v.cells.toList.length=v.cells.size:=by simp
   have b:cells.toList.length=cells.size:=by simp
   rw[l,b]at h;split at h
   .cases h
   rename_i c;rw[if_neg c];have:=fill_eq p r (fa cells.toList off v.cells.toList).toArray cs (by simpa using h);rw[<-this];congr 1;rw[<-iQO];have e:=zT off v.cells.toList 0 cells;simp only[hKz]at e;rw[<-e];congr 1;simp[Array.toList_zipIdx]
theorem fk{k:Kd}(h:k.isNone=false):k≠.none:=λe=>by rw[e]at h;cases h
theorem Ae(a:eU P T)(w:World):∀(s:List Field) (l:List (Nat×Nat)),placesOf T (s.map λf=>(f.type,f.offset))=some l->
 (s.mapM λf=>do pure (f.offset,<-sizeOf f.type):Sem (List (Nat×Nat))).run P w=.ok l w
 | [],l,h=>by simp[placesOf]at h;simp[h]
 |f::r,l,h=>by
  simp only[hKx]at h;unfold placesOf at h;split at h
  .rename_i d k b;cases h;have i:=fv a (fk k);have c:=Ae a w r d b;rw[iQN];simp only[mc,i.eN,hM,ox,c]
  cases h
theorem oV{f:List (Nat×Nat)}{k:Kd}(h:k=.bV f):k≠.none:=by rw[h];simp
theorem Ax{n e:Nat}{k:Kd}(h:k=.arr n e):k≠.none:=by rw[h];simp
theorem fh{e:Nat}{k:Kd}(h:k=.nd e):k≠.none:=by rw[h];simp
theorem vu(h:mS d=.bV s):∃F,d=.struct F/\s=F.toList.map λf=>(f.type,f.offset):=by cases d<;>simp[mS]at h;exact⟨_,rfl,h.symm⟩
theorem IY{n e:Nat}(h:mS d=.arr n e):d=.array n e:=by cases d<;>simp[mS]at h;rw[h.1,h.2]
theorem mR{e:Nat}(h:mS d=.nd e):d=.slice e:=by cases d<;>simp[mS]at h;rw[h]
theorem IX(h:mS d=.str):d=.string:=by cases d<;>simp[mS]at h;rfl
theorem run_build(a:eU P T)(w:World){t:TypeId}{p:List (Nat×Value)}(k:(T.ty t).kd.isNone=false)
 (h:JP T (T.ty t).zero p (T.ty t).kd=some cs):(Instr.build t p.toArray).run P w=.ok (.agg cs.toArray) w:=by
 have b:=fv a (fk k);obtain⟨z,q,G⟩:=b.mN w;obtain⟨d,g,-,j,-⟩:=b.cj w;unfold Instr.build;simp only[mc,q,hM,g];unfold JP at h;split at h
 .rename_i s v;split at h
  .rename_i l hl;obtain⟨F,rfl,c⟩:=vu (j ▸ v);have o:=Ae a w F.toList l (c ▸ hl);have Z:(F.mapM λf=>do pure (f.offset,<-sizeOf f.type):Sem (Array (Nat×Nat))).run P w=.ok l.toArray w:=by rw[iQb];simp only[iQa,o,hM]
   simp only[Z,hM,mc];have:=fill_eq (λi=>l[i]?) p z.cells cs (by rw[G];exact h);simp only[iXp];rw[this];rfl
  cases h
 .rename_i n e m;split at h
  .rename_i Q;have r:=fv a (fk Q);obtain rfl:=IY (j ▸ m);simp only[mc,r.eN,hM];have:=fill_eq (λi=>some (i*(T.ty e).size,(T.ty e).size)) p z.cells cs (by rw[G];exact h);rw[this];rfl
  cases h
 cases h
theorem zF{off n:Nat}(h:takeN c off n=some cs):cs.length=n/\∀j,j<cs.length->c[off+j]? =cs[j]? :=by
 unfold takeN at h;split at h
 .rename_i hl;cases h;have:((c.drop off).take n).length=n:=by simp;omega
  refine⟨this,λj a=>?_⟩;rw[hU,if_pos (by omega),nM]
 cases h
variable {P:Program}{T:aN}{A:Ar}[aV A]
variable {ds:List Deferred}{h0:ab}{w0:World}{β:Nat->Nat}{env:Env}{L:Loc}{h:ab}{a:Act}{w:World}
theorem eV{x:Int}{y:Nat}{code:BoundsCode}{k:IntKind}(h:0<=x/\x<=(y:Int))(w:World):(Instr.sliceBound (.int k x) y code).run P w=.ok x.toNat w:=by simp[Instr.sliceBound,asIntOf,h]
theorem zK(s:da ds h0 w0 β env L h a w){x:Option Operand}{l:Option Int}(hl:UH (mY env) x=some l):
 (l=none/\x.map a.eval=none)\/(∃n k,l=some n/\x.map a.eval=some (.int k n)):=by
 cases x with
 |none=>simp[UH]at hl;exact .inl ⟨hl.symm,rfl⟩
 |some y=>
  unfold UH at hl;simp only at hl;split at hl
  .rename_i k n e;cases hl;exact .inr ⟨n,k,rfl,by simp[s.bo e]⟩
  cases hl
theorem zL{len:Nat}{l o m:Option Int}{q p s:Option Value}
 (u:(l=none/\q=none)\/(∃n k,l=some n/\q=some (.int k n)))
 (v:(o=none/\p=none)\/(∃n k,o=some n/\p=some (.int k n)))
 (y:(m=none/\s=none)\/(∃n k,m=some n/\s=some (.int k n)))
 (h:wG A b len cap size l o m (λx=>x=r)) (w:World):
 ∃L H M:Nat,(Instr.sliceBounds g len cap q p s).run P w=.ok (L,H,M) w/\
  r=.slice (if M=L then b else b.map (·.add (L*size))) (H-L) (M-L):=by
 rcases u with⟨rfl,rfl⟩|⟨a,z,rfl,rfl⟩<;>rcases v with⟨rfl,rfl⟩|⟨d,B,rfl,rfl⟩<;>rcases y with⟨rfl,rfl⟩|⟨f,C,rfl,rfl⟩
 .refine⟨0,len,cap,by simp[Instr.sliceBounds],?_⟩;have:Value.slice b len cap=r:=h;rw[<-this];simp[Addr.add]
 .exact h.elim
 .obtain⟨c,h⟩:=(show pS _ _ from h);refine⟨0,d.toNat,cap,by simp[Instr.sliceBounds,eV c],?_⟩;have:=h;simp only[A.AX,A.nat_eq,A.xB]at this;rw[<-this];simp
 .obtain⟨c,h⟩:=(show pS _ _ from h);refine⟨0,d.toNat,f.toNat,?_,?_⟩
  .have i:0<=f/\f<=(cap:Int):=⟨c.1,c.2.1⟩;have j:0<=d/\d<=(f.toNat:Int):=⟨c.2.2.1,by omega⟩;simp[Instr.sliceBounds,eV i,eV j]
  have:=h;simp only[A.AX,A.nat_eq,A.xB]at this;rw[<-this];have:(f=0)↔(f.toNat=0):=by omega
  simp[this]
 .obtain⟨c,h⟩:=(show pS _ _ from h);refine⟨a.toNat,len,cap,by simp[Instr.sliceBounds,eV c],?_⟩;have:=h;simp only[A.AX,A.nat_eq,A.xB]at this;rw[<-this];have e:(Int.ofNat cap=a)↔(cap=a.toNat):=by have:=c.1;simp;omega
  simp only[e];congr 1<;>(try simp)<;>omega
 .exact h.elim
 .obtain⟨c,h⟩:=(show pS _ _ from h);refine⟨a.toNat,d.toNat,cap,?_,?_⟩
  .have i:0<=d/\d<=(cap:Int):=⟨c.1,c.2.1⟩;have j:0<=a/\a<=(d.toNat:Int):=⟨c.2.2.1,by omega⟩;simp[Instr.sliceBounds,eV i,eV j]
  have:=h;simp only[A.AX,A.nat_eq,A.xB]at this;rw[<-this];have e:(Int.ofNat cap=a)↔(cap=a.toNat):=by have:=c.2.2.1;simp;omega
  simp only[e];congr 1<;>(try simp)<;>omega
 obtain⟨c,h⟩:=(show pS _ _ from h);refine⟨a.toNat,d.toNat,f.toNat,?_,?_⟩
 .have i:0<=f/\f<=(cap:Int):=⟨c.1,c.2.1⟩;have j:0<=d/\d<=(f.toNat:Int):=⟨c.2.2.1,by omega⟩;have t:0<=a/\a<=(d.toNat:Int):=⟨c.2.2.2.2.1,by omega⟩;simp[Instr.sliceBounds,eV i,eV j,eV t]
 have:=h;simp only[A.AX,A.nat_eq,A.xB]at this;rw[<-this];have e:(f=a)↔(f.toNat=a.toNat):=by omega
 simp only[e];congr 1<;>omega
theorem Iy{s:ByteArray}{l d:Option Int}{o i:Option Value}
 (g:(l=none/\o=none)\/(∃n k,l=some n/\o=some (.int k n)))
 (j:(d=none/\i=none)\/(∃n k,d=some n/\i=some (.int k n)))
 (h:zM A s l d (λx=>x=r)) (w:World):
 ∃L H M:Nat,(Instr.sliceBounds false s.size s.size o i none).run P w=.ok (L,H,M) w/\r=.string (s.extract L H):=by
 rcases g with⟨rfl,rfl⟩|⟨b,m,rfl,rfl⟩<;>rcases j with⟨rfl,rfl⟩|⟨a,p,rfl,rfl⟩
 .refine⟨0,s.size,s.size,by simp[Instr.sliceBounds],?_⟩;have:Value.string s=r:=h;rw[<-this];simp
 .obtain⟨c,h⟩:=(show pS _ _ from h);refine⟨0,a.toNat,s.size,by simp[Instr.sliceBounds,eV c],?_⟩;have:=h;simp only[A.sub_eq]at this;rw[<-this];rfl
 .obtain⟨c,h⟩:=(show pS _ _ from h);refine⟨b.toNat,s.size,s.size,by simp[Instr.sliceBounds,eV c],?_⟩;have:=h;simp only[A.sub_eq,A.Pr]at this;rw[<-this];rfl
 obtain⟨c,h⟩:=(show pS _ _ from h);refine⟨b.toNat,a.toNat,s.size,?_,?_⟩
 .have e:0<=a/\a<=(s.size:Int):=⟨c.1,c.2.1⟩;have f:0<=b/\b<=(a.toNat:Int):=⟨c.2.2.1,by omega⟩;simp[Instr.sliceBounds,eV e,eV f]
 have:=h;simp only[A.sub_eq]at this;rw[<-this]
theorem SE{o:BinOp}{t:TypeId}{x:Operand}{v:Value}(h:Xu A o u v=some r)(w:World):
 (do eqGuard o t x y u v;Go.binOp o t u v:Sem Value).run P w=.ok r w:=by
 have g:(eqGuard o t x y u v).run P w=.ok () w:=by
  unfold Xu at h;cases u<;>first
   | (simp at h;done)
   | (cases v<;>first
    | (simp at h;done)
    | (unfold eqGuard;split<;>rfl))
 rw[mc,g,hM];unfold Xu at h;split at h
 .rename_i k c a d;split at h<;>first
   |cases h
   | (
    split at h
    .rename_i H;subst H;cases h;first
      | (simp[Go.binOp,Op.intArith,A.rK,aC];done)
      | (simp[Go.binOp,Op.intBits,A.rK,aC];done)
      | (simp[Go.binOp,Op.intCmp,A.Qv,az];done)
    cases h)
 .split at h<;>first
   | (cases h;rw[A.PB];rfl)
   | (cases h;done)
 cases h
theorem SG{o:BinOp}{t:TypeId}{x:Operand}{v:Value}{W:Unit->Prop}(h:Hw A o u v (λz=>z=r) W)
 (e:W ()->∀w,(do eqGuard o t x y u v;Go.binOp o t u v:Sem Value).run P w=.ok r w) (w:World):
 (do eqGuard o t x y u v;Go.binOp o t u v:Sem Value).run P w=.ok r w:=by
 unfold Hw at h;split at h
 .rename_i f c;split at h
  .rename_i g d;split at h
   .split at h
    .rename_i k;have k:=qH k;subst k;obtain⟨b,a⟩:=h;subst a;simp[eqGuard,Go.binOp,Op.intDiv,A.rK,aC,b]
    exact e h w
   .split at h
    .rename_i k;have k:=qH k;subst k;obtain⟨b,a⟩:=h;subst a;simp[eqGuard,Go.binOp,Op.intDiv,A.rK,aC,b]
    exact e h w
   .obtain⟨b,a⟩:=h;subst a;have:¬d<0:=by omega
    simp[eqGuard,Go.binOp,Op.shift,A.rK,aC,this]
   .obtain⟨b,a⟩:=h;subst a;have:¬d<0:=by omega
    simp[eqGuard,Go.binOp,Op.shift,A.rK,aC,this]
   exact e h w
  exact e h w
 .rename_i c;split at h
  .rename_i d;split at h
   .obtain⟨b,a⟩:=h;subst a;have m:IntKind.i64.max=9223372036854775807:=by decide
    have Q:(2:Int)^62=4611686018427387904:=by decide
    have:¬(9223372036854775807<(c.size:Int)+(d.size:Int)):=by rw[Q]at b;omega
    have J:A.cat c d=c++d:=by rw[A.aKf]
    rw[J];simp[eqGuard,Go.binOp,Op.stringOp,this]
   exact e h w
  exact e h w
 exact e h w
theorem vH(m:eU P T)(d:Nat)(xs ys:Array Value)(w:World):∀(s:List Field) (i:Nat) (t:Bool),
 ((
  s.zipIdx i).all λ(f,i)=>f.offset==i&&decide (f.name≠ "_")&&(match P.info? f.type,P.underlying f.type with
  |some i,some .bool|some i,some (.int _) |some i,some .string=>i.size==1
  |_,_=>false))=true->
 iZ A T.ty (s.map λf=>(f.type,f.offset)) (xs.toList.drop i) (ys.toList.drop i)=some t->(Op.eqFields (d+1) xs ys s).run P w=.ok t w
 | [],i,t,_,he=>by
  simp only[List.map_nil]at he;cases hx:xs.toList.drop i with
  |cons x r=>rw[hx]at he;simp[iZ]at he
  |nil=>
   cases e:ys.toList.drop i with
   |nil=>rw[hx,e]at he;simp[iZ]at he;subst he;rfl
   |cons y r=>rw[hx,e]at he;simp[iZ]at he
 |f::s,i,t,l,he=>by
  simp only[iQP,iXo,wL,beq_iff_eq,yr]at l;obtain⟨⟨⟨v,Y⟩,z⟩,o⟩:=l;simp only[hKx]at he;cases hx:xs.toList.drop i with
  |nil=>rw[hx]at he;simp[iZ]at he
  |cons x r=>
   have p:xs[i]? =some x:=by have:=congrArg (·[0]?) hx;simpa using this
   have I:xs.toList.drop (i+1)=r:=by have:=congrArg (List.drop 1) hx;simpa[hKa,hKe]using this
   cases e:ys.toList.drop i with
   |nil=>rw[hx,e]at he;simp[iZ]at he
   |cons y q=>
    have g:ys[i]? =some y:=by have:=congrArg (·[0]?) e;simpa using this
    have G:ys.toList.drop (i+1)=q:=by have:=congrArg (List.drop 1) e;simpa[hKa,hKe]using this
    rw[hx,e]at he;have M:=λc Q=>vH m d xs ys w s (i+1) c o (by rw[I,G];exact Q);have u:f.name≠ "_" :=Y;have R:∀k,(T.ty f.type).kd=k->k≠.none->∃a,P.underlying f.type=some a/\k=mS a:=λk h C=>by
     obtain⟨a,-,B,D,-⟩:=(fv m (t:=f.type) (by rw[h];exact C)).cj w;exact⟨a,B,by rw[<-h,D]⟩
    have fin:∀(a:TypeDesc) (b:Bool) (c:Bool),P.underlying f.type=some a->(isAgg f.type).run P w=.ok false w->(Op.equalIn (d+1) f.type x y).run P w=.ok b w->
     iZ A T.ty (s.map λf=>(f.type,f.offset)) r q=some c->t=(b&&c)->(Op.eqFields (d+1) xs ys (f::s)).run P w=.ok t w:=λa b c n K F Q L=>by
     have E:(part f.type xs f.offset).run P w=.ok x w:=by unfold part;rw[mc,K];simp[v,p]
     have Z:(part f.type ys f.offset).run P w=.ok y w:=by unfold part;rw[mc,K];simp[v,g]
     unfold Op.eqFields;rw[if_pos u];simp only[mc,E,Z,hM,F,L];cases b with
     |false=>rfl
     |true=>simp[M c Q]
    unfold iZ at he;split at he
    .rename_i h;obtain⟨a,n,j⟩:=R _ h (by simp);obtain⟨k,rfl⟩:∃k,a=.int k:=by cases a<;>simp[mS]at j;exact⟨_,rfl⟩
     split at he
     .split at he
      .split at he
       .rename_i H;split at he
        .rename_i N a1 O a2 c Q;cases he;have J:=qH H;subst J;refine fin _ _ _ n ?_ (run_equalIn_int w d _ _ _ _ _ n) Q (by rw[A.and_eq,A.Qv];rfl);unfold isAgg;rw[mc,run_underlying n w];rfl
        cases he
       cases he
      cases he
     cases he
    .rename_i h;obtain⟨a,n,j⟩:=R _ h (by simp);obtain rfl:a=.string:=by cases a<;>simp[mS]at j;rfl
     split at he
     .split at he
      .split at he
       .rename_i a1 a2 c Q;cases he;refine fin _ _ _ n ?_ (run_equalIn_string w d _ _ _ n) Q (by rw[A.and_eq,A.PB];rfl);unfold isAgg;rw[mc,run_underlying n w];rfl
       cases he
      cases he
     cases he
    .rename_i h;obtain⟨a,n,j⟩:=R _ h (by simp);obtain rfl:a=.bool:=by cases a<;>simp[mS]at j;rfl
     split at he
     .split at he
      .split at he
       .rename_i a1 a2 c Q;cases he;refine fin _ _ _ n ?_ (run_equalIn_bool' w d _ _ _ n) Q (by rw[A.and_eq,A.JS];rfl);unfold isAgg;rw[mc,run_underlying n w];rfl
       cases he
      cases he
     cases he
    cases he
theorem Aj{o:BinOp}{b:Bool}(h:neg A o b=some r):(o=.eql/\r=.bool b)\/(o=.neq/\r=.bool (!b)):=by
 unfold neg at h;split at h
 .cases h;exact .inl ⟨rfl,rfl⟩
 .cases h;exact .inr ⟨rfl,by rw[A.not_eq]⟩
 cases h
theorem Si(f:eU P T){o:BinOp}{t:TypeId}{x:Operand}{v:Value}(h:aKc A T.ty (T.ty t) o u v=some r)(w:World):
 (do eqGuard o t x y u v;Go.binOp o t u v:Sem Value).run P w=.ok r w:=by
 unfold aKc at h;split at h
 .rename_i e a;have i:=fv f (fh a);obtain⟨d,m,K,j,-⟩:=i.cj w;obtain rfl:=mR (j ▸ a);split at h
  .rename_i b l c;split at h
   .rename_i n k;have g:(eqGuard o t x y (.slice b l c) (.slice none n k)).run P w=.ok () w:=by unfold eqGuard;split<;>rfl
    have q:(Op.equal t (.slice b l c) (.slice none n k)).run P w=.ok b.isNone w:=by unfold Op.equal Op.maxDepth Op.equalIn;rw[mc,m,hM];cases b<;>rfl
    rw[mc,g,hM];rcases Aj h with⟨rfl,rfl⟩|⟨rfl,rfl⟩
    .simp[Go.binOp,q,A.Qs]
    simp[Go.binOp,q,A.Qs]
   cases h
  cases h
 .rename_i a;have i:=fv f (show(T.ty t).kd≠.none by rw[a];simp);obtain⟨d,m,K,j,-⟩:=i.cj w;obtain rfl:d=.bool:=by rw[j]at a;cases d<;>simp[mS]at a;rfl
  split at h
  .rename_i b;split at h
   .rename_i c;have g:(eqGuard o t x y (.bool b) (.bool c)).run P w=.ok () w:=by unfold eqGuard;split<;>rfl
    have q:(Op.equal t (.bool b) (.bool c)).run P w=.ok (b==c) w:=run_equalIn_bool' w 9999 t b c K;rw[mc,g,hM];rcases Aj h with⟨rfl,rfl⟩|⟨rfl,rfl⟩
    .simp[Go.binOp,q,A.JS,nR]
    simp[Go.binOp,q,A.JS,nR]
   cases h
  cases h
 .rename_i H a;have i:=fv f (oV a);obtain⟨I,d,z,-,K,-,-,-,-,-,j,C⟩:=i.ex;obtain⟨F,rfl,E⟩:=vu (j ▸ a);split at h
  .rename_i O;rw[C]at O;simp only[JC,wL,hKn]at O;obtain⟨⟨s,B⟩,D⟩:=O;split at h
   .rename_i xs;split at h
    .rename_i ys;split at h
     .rename_i p Z;have g:(eqGuard o t x y (.agg xs) (.agg ys)).run P w=.ok () w:=run_eqGuard_agg w o t x y xs ys s;have J:P.fieldsOf t=F:=by simp[Program.fieldsOf,K]
      have G:P.underlying t=some (.struct (P.fieldsOf t)):=by rw[J];exact K
      have q:(Op.equalIn 10000 t (.agg xs) (.agg ys)).run P w=.ok p w:=by rw[run_equalIn_agg w 9999 t xs ys G B,J];exact vH f 9998 xs ys w F.toList 0 p D (by simpa[E]using Z)
      rw[mc,g,hM];rcases Aj h with⟨rfl,rfl⟩|⟨rfl,rfl⟩
      .rw[run_eql_struct,q];rfl
      rw[run_neq_struct,q];rfl
     cases h
    cases h
   cases h
  cases h
 cases h
variable {P:Program}{T:aN}{A:Ar}[aV A]
variable {ds:List Deferred}{h0:ab}{w0:World}{β:Nat->Nat}{env:Env}{L:Loc}{h:ab}{a:Act}{w:World}
theorem Im{a:Type}{P:Program}{w:World}{x:Sem a}{f:a->Sem Next}{r:a}(hx:x.run P w=.ok r w):(x >>= f).run P w=(f r).run P w:=by rw[mc,hx];rfl
def ed(P:Program)(β:Nat->Nat)(L:Loc)(a:Act)(w:World)(o:Oper)(sv:SV):Prop:=
 ∃v,(execOp a.eval o).run P w=.ok (.value v) w/\nY β L sv v
theorem ed.fin(c:da ds h0 w0 β env L h a w){s:SV}(q:ed P β L a w o s):
 ∃v b e,(execOp a.eval o).run P w=.ok (.value v) b/\da ds h0 w0 e (put env o.dst s) (pk L o.dst none) h (a.put o.dst v) b:=by
 obtain⟨v,d,m⟩:=q;refine⟨v,w,β,d,?_⟩;have:pk L o.dst none=L:=by unfold pk;cases o.dst<;>rfl
 rw[this];exact c.put m
theorem zW(h:eU P T){f:Field}{n:Nat}(k:(T.ty f.type).kd.isNone=false)(a:(T.ty f.type).size=n+1)(x:Addr)(w:World):
 (fieldPlace x f).run P w=.ok (x.add f.offset) w:=by
 have i:=fv h (fk k);simp[fieldPlace,i.eN,a]
theorem Hc{F:Array Field}{i t off:Nat}(b:s=F.toList.map λf=>(f.type,f.offset))(h:s[i]? =some (t,off)):
 ∃f,F[i]? =some f/\f.type=t/\f.offset=off:=by
 subst b;rw[qy]at h;cases a:F.toList[i]? with
 |none=>simp[a]at h
 |some f=>simp[a]at h;exact⟨f,by simpa using a,h.1,h.2⟩
theorem Gu(i:da ds h0 w0 β env L h a w){s off n:Nat}(hl:js L s=some c)(t:takeN c off n=some cs):
 cs.length=n/\∀j,j<cs.length->w.cell? ⟨β s,off+j,none⟩=cs[j]? :=by
 obtain⟨b,d⟩:=zF t;obtain⟨-,-,e,f⟩:=i.loc s c hl;refine⟨b,λj g=>?_⟩;rw[LF f,<-d j g];simp
set_option maxHeartbeats 1000000 in
theorem wV(G:eU P T)(j:da ds h0 w0 β env L h a w){sv:SV}{nb:Option (List Value)}
 (hl:gO A T (λ_=>P) o (Sx.mY env) L h (λx y=>x=sv/\y=nb)):
 ∃v w' mq,(execOp a.eval o).run P w=.ok (.value v) w'/\da ds h0 w0 mq (put env o.dst sv) (pk L o.dst nb) h (a.put o.dst v) w':=by
 unfold gO at hl;split at hl;case h_1 x p=>-- move
  obtain⟨rfl,rfl⟩:=hl;exact ed.fin j ⟨_,by simp only[execOp,p];rfl,j.mY x⟩
 case h_2 c x y p=>-- pick
  split at hl
  .rename_i hc;obtain⟨rfl,rfl⟩:=hl;exact ed.fin j ⟨_,by simp only[execOp,p,j.bo hc];rfl,j.mY x⟩
  .rename_i hc;obtain⟨rfl,rfl⟩:=hl;exact ed.fin j ⟨_,by simp only[execOp,p,j.bo hc];rfl,j.mY y⟩
  exact hl.elim
 case h_3 e p=>-- alloc
  split at hl
  .exact hl.elim
  rename_i H;split at hl
  .exact hl.elim
  rename_i d B;split at hl
  .rename_i lq;obtain⟨rfl,rfl⟩:=hl;obtain⟨z,hz,GC⟩:=(fv G (fk H)).mN w;have hb:=j.box lq (T.ty e).zero e;rw[B];refine⟨_,_,_,?_,hb⟩;simp only[execOp,p,Instr.alloc,mc,hz,hM,newVar,newRow,run_newObj,ox];rw[<-GC]
  exact hl.elim
 case h_4 e x p=>-- box
  split at hl
  .exact hl.elim
  rename_i d B;split at hl
  .rename_i v D;split at hl
   .rename_i lq;obtain⟨rfl,rfl⟩:=hl;have hb:=j.box lq v.cells.toList e;rw[B];refine⟨_,_,_,?_,hb⟩;simp only[execOp,p,Instr.box,mc,hM,newVar,newRow,run_newObj,ox,j.bo D]
   exact hl.elim
  exact hl.elim
 case h_5 t x p=>-- load
  split at hl
  .exact hl.elim
  rename_i H;have I:=fv G (fk H);split at hl
  .rename_i s off hx;split at hl
   .rename_i c hc;split at hl
    .rename_i cs au;obtain⟨J,S⟩:=Gu j hc au;obtain⟨v,K,h4⟩:=jH hl;obtain⟨rfl,rfl⟩:=h4;obtain⟨v',h5,h6⟩:=nr I w (β s) off cs J S K;subst h6;exact ed.fin j ⟨_,by simp only[execOp,p,(j.oC hx).2,Instr.loadAt,Instr.sureAddr,mc,ox,hM,h5],rfl⟩
    exact hl.elim
   exact hl.elim
  .rename_i y hx;obtain⟨cs,J,hl⟩:=hl.out;obtain⟨U,O,V⟩:=J.cell j.after.zc;obtain⟨v,K,h4⟩:=jH hl;obtain⟨rfl,rfl⟩:=h4;obtain⟨v',h5,h6⟩:=nr I w y.block y.off cs O V K;subst h6;have:y=⟨y.block,y.off,none⟩:=by cases y;simp at U;rw[U]
   exact ed.fin j ⟨_,by simp only[execOp,p,j.bo hx,Instr.loadAt,Instr.sureAddr,mc,ox,hM];rw[this,h5];rfl,rfl⟩
  exact hl.elim
 case h_6 x p=>-- nilCheck
  split at hl
  .rename_i s off hx;obtain⟨rfl,rfl⟩:=hl;have:=j.oC hx;exact ed.fin j ⟨_,by simp only[execOp,p,this.2];rfl,this.1,rfl⟩
  .rename_i y hx;obtain⟨rfl,rfl⟩:=hl;exact ed.fin j ⟨_,by simp only[execOp,p,j.bo hx];rfl,rfl⟩
  exact hl.elim
 case h_7 t x f p=>-- fieldAddr
  split at hl
  .rename_i fs Z;have I:=fv G (oV Z);obtain⟨d,B,-,E,-⟩:=I.cj w;obtain⟨F,rfl,hF⟩:=vu (E ▸ Z);split at hl
   .rename_i ft off hf;obtain⟨fd,X,rfl,rfl⟩:=Hc hF hf;split at hl
    .exact hl.elim
    rename_i H;split at hl
    .exact hl.elim
    rename_i n hn;have hp:=λy=>zW G H hn y w;split at hl
    .rename_i s off hx;obtain⟨rfl,rfl⟩:=hl;have:=j.oC hx;exact ed.fin j ⟨_,by simp only[execOp,p,this.2,Instr.fieldAt,Instr.sureAddr,mc,B,hM,X,ox,hp,bL],this.1,rfl⟩
    .rename_i y hx;obtain⟨rfl,rfl⟩:=hl;exact ed.fin j ⟨_,by simp only[execOp,p,j.bo hx,Instr.fieldAt,Instr.sureAddr,mc,B,hM,X,ox,hp];rfl,by simp[nY,A.aXy]⟩
    exact hl.elim
   exact hl.elim
  exact hl.elim
 case h_8 t x ix p=>-- indexAddr
  split at hl
  .rename_i kk n Og;split at hl
   .rename_i e C;have I:=fv G (fh C);obtain⟨d,B,-,E,-⟩:=I.cj w;obtain rfl:=mR (E ▸ C);split at hl
    .exact hl.elim
    rename_i H;have W:=fv G (fk H);split at hl
    .rename_i b len cap hx;obtain⟨⟨U,O,V⟩,rfl,rfl⟩:=(show pS _ _ from hl);obtain⟨y,rfl⟩:=hKd.1 U;refine ed.fin j ⟨.pointer (some (y.add (n.toNat*(T.ty e).size))),?_,by simp[nY,A.pd,fM]⟩;simp[execOp,p,j.bo hx,j.bo Og,Instr.indexAt,asIntOf,B,W.eN,O,V]
    exact hl.elim
   .rename_i m e C;have I:=fv G (Ax C);obtain⟨d,B,-,E,-⟩:=I.cj w;obtain rfl:=IY (E ▸ C);split at hl
    .exact hl.elim
    rename_i H;have W:=fv G (fk H);split at hl
    .rename_i s off hx;obtain⟨⟨O,V⟩,rfl,rfl⟩:=(show pS _ _ from hl);have:=j.oC hx;refine ed.fin j ⟨.pointer (some ⟨β s,off+n.toNat*(T.ty e).size,none⟩),?_,this.1,by simp[A.bJb]⟩;simp[execOp,p,this.2,j.bo Og,Instr.indexAt,asIntOf,B,W.eN,O,V,Instr.sureAddr,bL]
    .rename_i y hx;obtain⟨⟨O,V⟩,rfl,rfl⟩:=(show pS _ _ from hl);refine ed.fin j ⟨.pointer (some (y.add (n.toNat*(T.ty e).size))),?_,by simp[nY,A.pd,fM]⟩;simp[execOp,p,j.bo hx,j.bo Og,Instr.indexAt,asIntOf,B,W.eN,O,V,Instr.sureAddr]
    exact hl.elim
   exact hl.elim
  exact hl.elim
 case h_9 t x ix p=>-- index
  split at hl
  .rename_i kk n Og;split at hl
   .rename_i C;have I:=fv G (show(T.ty t).kd≠.none by rw[C];simp);obtain⟨d,B,-,E,-⟩:=I.cj w;obtain rfl:=IX (E ▸ C);split at hl
    .rename_i s hx;obtain⟨⟨O,V⟩,rfl,rfl⟩:=(show pS _ _ from hl);have aI:n.toNat<s.size:=by omega
     refine ed.fin j ⟨.int .u8 (s[n.toNat].toNat:Int),?_,?_⟩
     .simp[execOp,p,j.bo hx,j.bo Og,Instr.index,asIntOf,B,O,aI]
     have:n.toNat<s.data.size:=aI;simp only[nY,A.Xr,zt,hJZ this];rfl
    exact hl.elim
   exact hl.elim
  exact hl.elim
 case h_10 t x f p=>-- field
  split at hl
  .rename_i fs Z;have I:=fv G (oV Z);obtain⟨d,B,-,E,-⟩:=I.cj w;obtain⟨F,rfl,hF⟩:=vu (E ▸ Z);split at hl
   .rename_i ft off hf;obtain⟨fd,X,rfl,rfl⟩:=Hc hF hf;split at hl
    .exact hl.elim
    rename_i H;have aj:=fv G (fk H);split at hl
    .rename_i cs hx;split at hl
     .rename_i ds N;obtain⟨J,S⟩:=zF N;obtain⟨v,K,h4⟩:=jH hl;obtain⟨rfl,rfl⟩:=h4;refine ed.fin j ⟨v,?_,rfl⟩;have an:(part fd.type cs fd.offset).run P w=.ok v w:=by
       unfold part;rw[mc,aj.Cx];unfold pJ at K;cases hg:(T.ty fd.type).agg with
       |true=>
        simp only[hg]at K;subst K;unfold takeN at N;split at N
        .cases N;simp only[hM,if_true,mc,aj.eN,ox];congr 2;apply Array.ext';simp[hKZ,List.extract]
        cases N
       |false=>
        simp only[hg]at K;cases ds with
        |nil=>exact K.elim
        |cons y r=>simp only at K;subst K;have:=S 0 (by simp);simp only[hKz,hKw,iXn]at this;simp[this]
      simp only[execOp,p,j.bo hx,Instr.field,mc,B,hM,X,asAgg,ox,an]
     exact hl.elim
    exact hl.elim
   exact hl.elim
  exact hl.elim
 case h_11 x i p=>-- extract
  split at hl
  .rename_i vs hx;split at hl
   .rename_i v D;obtain⟨rfl,rfl⟩:=hl;simp only[hKw]at D;exact ed.fin j ⟨v,by simp[execOp,p,j.bo hx,Instr.extract,D],rfl⟩
   exact hl.elim
  exact hl.elim
 case h_12 t parts p=>-- build
  split at hl
  .exact hl.elim
  rename_i H;split at hl
  .rename_i ps Zm;split at hl
   .rename_i cs au;obtain⟨rfl,rfl⟩:=hl;have J:=run_build G w H au;have S:(parts.map λ(i,x)=>(i,a.eval x))=ps.toArray:=by rw[<-qP j Zm];apply Array.ext';simp
    exact ed.fin j ⟨_,by simp only[execOp,p,S,mc,J,hM,ox],rfl⟩
   exact hl.elim
  exact hl.elim
 case h_13 op t x y ty p=>-- binOp
  split at hl
  .rename_i u hu;split at hl
   .rename_i v D;split at hl
    .rename_i r Q;obtain⟨rfl,rfl⟩:=hl;have:=SE (P:=P) (A:=A) (t:=t) (x:=x) (y:=y) Q w;exact ed.fin j ⟨_,by simp only[execOp,p,j.bo hu,j.bo D];rw[Im this];rfl,rfl⟩
    split at hl
    .rename_i r Q;obtain⟨rfl,rfl⟩:=hl;have:=Si (A:=A) G (x:=x) (y:=y) Q w;exact ed.fin j ⟨_,by simp only[execOp,p,j.bo hu,j.bo D];rw[Im this];rfl,rfl⟩
    obtain⟨r,⟨rfl,rfl⟩,S⟩:=Bj (e:=λk _=>rO _ _ k) (λk h=>by
     obtain⟨v,U,O⟩:=h.out;exact⟨v,O,λk' h'=>⟨v,U,h'⟩⟩) hl
    have:=SG (P:=P) (A:=A) (t:=t) (x:=x) (y:=y) (S (λz=>z=r) rfl) (λh w=>by
     obtain⟨v,U,rfl⟩:=h.out;exact U w) w
    exact ed.fin j ⟨_,by simp only[execOp,p,j.bo hu,j.bo D];rw[Im this];rfl,rfl⟩
   exact hl.elim
  exact hl.elim
 case h_14 op t x p=>-- unOp
  split at hl
  .rename_i b hx;split at hl
   .obtain⟨rfl,rfl⟩:=hl;exact ed.fin j ⟨.bool (!b),by simp only[execOp,p,j.bo hx];rfl,by simp[nY,A.not_eq]⟩
   exact hl.elim
  .rename_i M n hx;split at hl
   .obtain⟨rfl,rfl⟩:=hl;exact ed.fin j ⟨.int M (M.wrap (0-n)),by simp only[execOp,p,j.bo hx];rfl,by simp[nY,A.rK,aC]⟩
   .obtain⟨rfl,rfl⟩:=hl;exact ed.fin j ⟨.int M (aC .xor M (YQ M) n),by simp only[execOp,p,j.bo hx];rfl,by simp[nY,A.rK]⟩
   exact hl.elim
  exact hl.elim
 case h_15 src dst x p=>-- convert
  split at hl
  .rename_i q n hx;split at hl
   .rename_i M E;split at hl
    .rename_i ks ai;obtain⟨rfl,rfl⟩:=hl;obtain⟨d1,ak,-,de,-⟩:=(fv G (t:=dst) (by rw[E];simp)).cj w;obtain⟨d2,Ue,-,jY,-⟩:=(fv G (t:=src) (by rw[ai];simp)).cj w;have e1:d1=.int M:=by rw[E]at de;cases d1<;>simp[mS]at de;rw[de]
     have e2:d2=.int ks:=by rw[ai]at jY;cases d2<;>simp[mS]at jY;rw[jY]
     subst e1 e2;have Q:(Go.convert src dst (.int q n)).run P w=.ok (.int M (A.conv M n)) w:=by rw[A.Xm];simp[Go.convert,ak,Ue,Conv.intToInt]
     exact ed.fin j ⟨_,by simp only[execOp,p,j.bo hx];rw[Im Q];rfl,rfl⟩
    exact hl.elim
   obtain⟨r,J,rfl,rfl⟩:=(show rO _ _ _ from hl).out;exact ed.fin j ⟨r,by simp only[execOp,p,j.bo hx];rw[Im (J w)];rfl,rfl⟩
  .rename_i u hu hx;obtain⟨r,J,rfl,rfl⟩:=(show rO _ _ _ from hl).out;exact ed.fin j ⟨r,by simp only[execOp,p,j.bo hx];rw[Im (J w)];rfl,rfl⟩
  exact hl.elim
 case h_16 t x p=>-- makeInterface
  split at hl
  .exact hl.elim
  .exact hl.elim
  rename_i de jY;split at hl
  .rename_i v hx;obtain⟨rfl,rfl⟩:=hl;have I:=fv G (t:=t) (λe=>jY e);obtain⟨d,B,-,E,-⟩:=I.cj w;refine ed.fin j ⟨.iface t v,?_,rfl⟩;simp only[execOp,p,j.bo hx,Instr.makeInterface,mc,B,hM];cases d<;>first
    |rfl
    | (exact absurd E (by simpa[mS]using de))
  exact hl.elim
 case h_17 fn f c p=>-- makeFunc
  split at hl
  .rename_i fs Z;split at hl
   .rename_i cs au;obtain⟨rfl,rfl⟩:=hl;refine ed.fin j ⟨.func fn fs.toArray cs.toArray,?_,rfl⟩;simp only[execOp,p,ia j Z,ia j au];rfl
   exact hl.elim
  exact hl.elim
 case h_18 t x lo I mx p=>-- slice
  split at hl
  .rename_i l hh m J S K;have e1:=zK j J;have e2:=zK j S;have Y:=zK j K;split at hl
   .rename_i e C;have R:=fv G (fh C);obtain⟨d,B,-,E,-⟩:=R.cj w;obtain rfl:=mR (E ▸ C);split at hl
    .exact hl.elim
    rename_i H;have W:=fv G (fk H);split at hl
    .rename_i b len cap hx;obtain⟨v,D,bg⟩:=oN hl;obtain⟨rfl,rfl⟩:=D;obtain⟨Lo,Hi,Mx,Q,rfl⟩:=zL (P:=P) (A:=A) (g:=true) e1 e2 Y (bg (λx=>x=v) rfl) w;refine ed.fin j ⟨_,?_,rfl⟩;simp only[execOp,p,j.bo hx,Instr.sliceAt,Instr.slice,mc,B,hM,Q,W.eN,ox]
    exact hl.elim
   .rename_i n e C;have R:=fv G (Ax C);obtain⟨d,B,-,E,-⟩:=R.cj w;obtain rfl:=IY (E ▸ C);split at hl
    .exact hl.elim
    rename_i H;have W:=fv G (fk H);split at hl
    .rename_i b hx;obtain⟨v,D,bg⟩:=oN hl;obtain⟨rfl,rfl⟩:=D;obtain⟨Lo,Hi,Mx,Q,rfl⟩:=zL (P:=P) (A:=A) (g:=false) e1 e2 Y (bg (λx=>x=v) rfl) w;refine ed.fin j ⟨_,?_,rfl⟩;simp only[execOp,p,j.bo hx,Instr.sliceAt,Instr.sureAddr,asAddr,mc,B,hM,Q,W.eN,ox,Option.map_some];split<;>simp_all
    exact hl.elim
   .rename_i C;have R:=fv G (show(T.ty t).kd≠.none by rw[C];simp);obtain⟨d,B,-,E,-⟩:=R.cj w;obtain rfl:=IX (E ▸ C);split at hl
    .rename_i s hx;split at hl
     .obtain⟨v,D,bg⟩:=tP hl;obtain⟨rfl,rfl⟩:=D;obtain⟨Lo,Hi,Mx,Q,rfl⟩:=Iy (P:=P) (A:=A) e1 e2 (bg (λx=>x=v) rfl) w;have aD:mx.map a.eval=none:=by
       rcases Y with Y| ⟨n,k,Y,-⟩
       .exact Y.2
       cases Y
      refine ed.fin j ⟨_,?_,rfl⟩;simp[execOp,p,j.bo hx,Instr.sliceAt,Instr.slice,B,Q,aD]
     exact hl.elim
    exact hl.elim
   exact hl.elim
  exact hl.elim
 case h_19 b args argTypes p=>-- Sy
  have pD:∀(vs:List Value),mK (args.toList.map (Sx.mY env))=some vs->
   (execOp a.eval o)=builtin b argTypes o.type (args.map λ| .const _=>true|_=>false) vs.toArray:=λvs D=>by
   simp only[execOp,p,resolve];rw[ia j D];rfl
  split at hl
  .split at hl
   .rename_i t ht;split at hl
    .rename_i q n r D;split at hl
     .rename_i e C;obtain⟨rfl,rfl⟩:=hl;have R:=fv G (fh C);obtain⟨d,B,-,E,-⟩:=R.cj w;obtain rfl:=mR (E ▸ C);refine ed.fin j ⟨.int .i64 (Int.ofNat n),?_,by simp[nY,A.nat_eq]⟩;rw[pD _ D];simp[builtin,Builtin.len_,ht,B,goInt]
     exact hl.elim
    .rename_i s D;split at hl
     .rename_i C;obtain⟨rfl,rfl⟩:=hl;have R:=fv G (show(T.ty t).kd≠.none by rw[C];simp);obtain⟨d,B,-,E,-⟩:=R.cj w;obtain rfl:=IX (E ▸ C);refine ed.fin j ⟨.int .i64 (Int.ofNat s.size),?_,by simp[nY,A.Pr]⟩;rw[pD _ D];simp[builtin,Builtin.len_,ht,B,goInt]
     exact hl.elim
    exact hl.elim
   exact hl.elim
  .split at hl
   .rename_i t ht;split at hl
    .rename_i q r n D;split at hl
     .rename_i e C;obtain⟨rfl,rfl⟩:=hl;have R:=fv G (fh C);obtain⟨d,B,-,E,-⟩:=R.cj w;obtain rfl:=mR (E ▸ C);refine ed.fin j ⟨.int .i64 (Int.ofNat n),?_,by simp[nY,A.nat_eq]⟩;rw[pD _ D];simp[builtin,Builtin.cap_,ht,B,goInt]
     exact hl.elim
    exact hl.elim
   exact hl.elim
  .split at hl
   .rename_i M x aw y D;obtain⟨rfl,rfl⟩:=hl;refine ed.fin j ⟨.int M (min x y),?_,by simp[nY,A.VC]⟩;rw[pD _ D];simp only[builtin,Builtin.min_,iQM,iQL,Builtin.min2,mc,ox,hM];congr 3;simp only[Int.min_def];split<;>split<;>omega
   exact hl.elim
  .split at hl
   .rename_i M x aw y D;obtain⟨rfl,rfl⟩:=hl;refine ed.fin j ⟨.int M (max x y),?_,by simp[nY,A.VD]⟩;rw[pD _ D];simp only[builtin,Builtin.max_,iQM,iQL,Builtin.max2,mc,ox,hM];congr 3;simp only[Int.max_def];split<;>split<;>omega
   exact hl.elim
  exact hl.elim
 case h_20 x q as ok p=>-- typeAssert
  split at hl
  .rename_i u hu;obtain⟨r,J,rfl,rfl⟩:=(show rO _ _ _ from hl).out;exact ed.fin j ⟨r,by simp only[execOp,p,j.bo hu];rw[Im (J w)];rfl,rfl⟩
  exact hl.elim
 case h_21=>exact hl.elim
variable {P:Program}{T:aN}{A:Ar}[aV A]
variable {ds:List Deferred}{h0:ab}{w0:World}{β:Nat->Nat}{env:Env}{L:Loc}{h:ab}{a:Act}{w:World}
theorem Cc(z:List Value):∀(n i:Nat),i<n*z.length->(fI n z)[i]? =z[i % z.length]?
 |0,i,h=>by simp at h
 |n+1,i,h=>by
  unfold fI;rw[iQK,hKm];by_cases hl:i<z.length
  .rw[hJQ hl,Nat.mod_eq_of_lt hl]
  rw[hJP (by omega)];have:=Cc z n (i-z.length) (by rw[hJI]at h;generalize n*z.length=q at *;omega);unfold fI at this;rw[this,<-Nat.mod_eq_sub_mod (by omega)]
theorem eB(z:List Value)(n:Nat):(fI n z).length=n*z.length:=by simp[fI,List.length_flatten]
theorem range_zero(z:Array Value)(n:Nat):(Array.range (n*z.size)).map (λi=>z[i % z.size]!)=(fI n z.toList).toArray:=by
 apply Array.ext';apply rv;intro i;by_cases h:i<n*z.size
 .have:=Cc z.toList n i (by simpa using h);simp only[Array.toList_map,qy,List.toList_toArray]at this |-;rw[this];have a:0<z.size:=by
   rcases hJL z.size with e|e
   .rw[e]at h;simp at h
   exact e
  have m:i % z.size<z.size:=hKv _ a;simp[Array.toList_range,h,m]
 rw[qk (by simp;omega),qk (by simp[eB];omega)]
theorem rZ(s:yH h w){n:Nat}(r:YF h b (n*size) cs)(x y:Nat):
 (Builtin.firstCells size n (.slice b x y)).run P w=.ok cs.toArray w:=by
 rcases r with⟨e,rfl⟩|⟨q,rfl,r⟩
 .cases b with
  |none=>rfl
  |some q=>simp[Builtin.firstCells,e,loadCells,loadCellsFrom]
 obtain⟨g,c,d⟩:=r.cell s;simp only[Builtin.firstCells];rw[<-c];have:q=⟨q.block,q.off,none⟩:=by cases q;simp at g;rw[g]
 rw[this];exact run_loadCells_list (P:=P) w _ cs (λj v a=>by
  have f:j<cs.length:=by rw[dB]at a;exact a.1
  rw[bL,d j f,a])
theorem HG.run(s:yH h w){q:Addr}{k:ab->Prop}(j:gE cs=true)(hx:HG h q cs k):
 ∃a h',(storeCells q cs).run P w=.ok () a/\k h'/\bD h w h' a:=by
 obtain⟨c,e,fr,g,d,u,f,i⟩:=hx.out;have l:q=⟨q.block,q.off,none⟩:=by cases q;simp at g;rw[g]
 obtain⟨a,m,n,p,r,t⟩:=mO (P:=P) (b:=q.block) (o:=q.off) (e:=e) (fr:=fr) cs 0 c w (s _ _ d) (by omega) (by simpa using f) j;refine⟨a,_,?_,i _ rfl,?_⟩
 .rw[l];exact m
 exact bD.set s d (by simpa using n) p r t
theorem wo.run(s:yH h w){k:ab->Prop}(c:gE cs=true)(hx:wo h b cs k):
 ∃a h',((match b with|some q=>storeCells q cs|none=>pure ()):Sem Unit).run P w=.ok () a/\k h'/\bD h w h' a:=by
 rcases hx with⟨rfl,d⟩|⟨q,rfl,hx⟩
 .refine⟨w,h,?_,d,bD.refl s⟩;cases b<;>rfl
 exact hx.run s c
theorem CY(n:Nat)(a:256<=n):∀(r c:Nat),c<=2*n->Builtin.growBy n r c<=2*n
 |0,c,h=>h
 |r+1,c,h=>by
  unfold Builtin.growBy;split
  .exact h
  exact CY n a r _ (by omega)
theorem IQ(n c:Nat)(h:c<n):Builtin.nextslicecap n c<=2*n:=by
 unfold Builtin.nextslicecap;split
 .omega
 split
 .omega
 exact CY n (by omega) 4 c (by omega)
theorem Ea:(2:Int)^48=281474976710656:=rfl
theorem PQ:(2:Nat)^48=281474976710656:=rfl
theorem ta(size:Nat)(s:ByteArray)(w:World):(Builtin.firstCells size s.size (.string s)).run P w=.ok (qF s).toArray w:=by
 have h:s.extract 0 s.size=s:=by
  ext1
  rw[hKY];show s.data.extract 0 s.data.size=_;simp
 simp only[Builtin.firstCells,h,ox];congr 1;unfold qF;rw[<-Array.toList_map]
theorem pq.run(hs:yH h w){len n e:Nat}{new:List Value}{k:Value->ab->Prop}(hx:pq h b len cap n size bytes e new k)
 {t u:TypeId} {r:Array TypeId} (h0:r[0]? =some t) (l:r[1]? =some u) {g:TypeDesc} (hu:P.underlying t=some (.slice e)) (aj:P.underlying u=some g)
 {i:Ti} (hi:vT P e i) (fP:i.size=size) (lT:i.bytes=bytes) (hz:i.zero.length=size) {x:Value}
 (Ay:(∃q m,x=.slice q n m/\(∀D,g≠.int D)/\YF h q (n*size) new)\/(∃D k' j,x=.int D j/\g=.int k'/\j.toNat=n/\0<=j/\j<=2^48/\j*bytes<=2^48/\new=fI n i.zero)\/(∃s,x=.string s/\g=.string/\s.size=n/\new=qF s)) (ty:TypeId):
 ∃v U h',(Builtin.append_ r ty #[.slice b len cap,x]).run P w=.ok v U/\k v h'/\bD h w h' U:=by
 obtain⟨z,YZ,GC⟩:=hi.mN w;have an:z.cells.size=size:=by rw[<-hz,<-GC];simp
 have A:∀W,(underlying t).run P W=.ok (.slice e) W:=λW=>by simp[underlying,hu]
 have C:∀W,(underlying u).run P W=.ok g W:=λW=>by simp[underlying,aj]
 have Y:∀W,(zeroValue e).run P W=.ok z W:=λW=>by
  obtain⟨O,d',z',e1,-,e3,-⟩:=hi.ex;simp[zeroValue,typeInfo,e1,e3]at YZ |-;exact YZ
 obtain⟨B,V,iY,fX⟩:∃B,(∀W,(typeInfo e).run P W=.ok B W)/\i.size=B.size/\i.bytes=B.bytes:=by obtain⟨O,d',z',e1,-,e3,-,e4,e5,-⟩:=hi.ex;exact⟨O,λW=>by simp[typeInfo,e1],e4,e5⟩
 have p:∀W,(sizeOf e).run P W=.ok size W:=λW=>by rw[hi.eN,fP]
 have hm:(∃q m,x=.slice q n m/\(∀D,g≠.int D)/\YF h q (n*size) new)->(match g with| .int _=>true|_=>false)=false:=λ⟨_,_,_,M,_⟩=>by
  cases g<;>first
   |rfl
   |exact absurd rfl (M _)
 have L:∀m,Builtin.zeroCells z.cells m=(fI m i.zero).toArray:=λm=>by
  unfold Builtin.zeroCells;rw[range_zero,GC]
 by_cases f:len+n<=cap
 .obtain⟨U,h',k1,k2,k3⟩:=(hx.fits f).run (P:=P) hs hx.one;refine⟨_,U,h',?_,k2,k3⟩;have fin:Sem.run P (match b with
   |some a=>Functor.map (λa=>Value.slice b (len+n) cap) (storeCells (a.add (len*size)) new)
   |x=>pure (Value.slice b (len+n) cap)) w=Result.ok (Value.slice b (len+n) cap) U:=by
   cases b with
   |none=>simp at k1;simp[k1]
   |some q=>simp at k1;simp[k1]
  rcases Ay with⟨q,m,rfl,M,T⟩|⟨D,kq,j,rfl,rfl,X,MX,Z,ak,rfl⟩|⟨s,rfl,rfl,rfl,rfl⟩
  .have GR:=hm ⟨q,m,rfl,M,T⟩;simp[Builtin.append_,h0,l,A,C,p,GR,Builtin.lenOf,f,rZ hs T];exact fin
  rotate_left
  .have vD:=ta (P:=P) size s w;simp[Builtin.append_,h0,l,A,C,p,Builtin.lenOf,f,vD];exact fin
  have I:IntKind.i64.wrap j=j:=IntWalk.i64_in j (by omega);have G:¬j<0:=by omega
  have K:¬(281474976710656:Int)<j*B.bytes:=by rw[<-fX,lT,<-Ea];omega
  by_cases R:n*size=0
  .have bm:fI n i.zero=[]:=ee (by rw[eB,hz,R]);rw[bm]at fin;simp[Builtin.append_,h0,l,A,C,p,asInt,asIntOf,I,G,V,K,X,f,R];exact fin
  simp[Builtin.append_,h0,l,A,C,p,asInt,asIntOf,I,G,V,K,X,f,R,Y,L];exact fin
 obtain⟨b1,b2,PX,ho,ai⟩:=hx.ZM (by omega);have GY:¬(281474976710656<Builtin.nextslicecap (len+n) cap*B.bytes):=by
  have:=IQ (len+n) cap (by omega);have:=xt B.bytes this;rw[<-fX,lT]at this |-;have e:(2:Nat)^48=281474976710656:=by rfl
  omega
 have y:¬((9223372036854775807:Int)<(len:Int)+n):=by rw[PQ]at b2;omega
 have Q:yH h w.drew:=hs;have J:(Question.appendCap (len+n) cap e).forced=false:=rfl;obtain⟨c,H⟩:∃c,(Question.appendCap (len+n) cap e).cut (w.tape w.drawn (Question.appendCap (len+n) cap e))=c:=⟨_,rfl⟩;have hc:len+n<=c:=by rw[<-H];simp[Question.cut]
 have o:(Builtin.firstCells size len (.slice b len cap)).run P w.drew=.ok PX.toArray w.drew:=rZ Q ho len cap;obtain⟨d,F⟩:∃d,d=fI (c-(len+n)) i.zero:=⟨_,rfl⟩;have QJ:d.length=(c-(len+n))*size:=by rw[F,eB,hz]
 have E:=bD.new Q (.cells (PX++new++d).toArray e (0,0));have au:w.drew.heap.size=w.heap.size:=rfl;refine⟨.slice (some ⟨w.heap.size,0,none⟩) (len+n) c,w.drew.alloc (.cells (PX++(new++d)).toArray e),_,?_,ai w.heap.size c _ d (hs.kX (mr _)) hc QJ rfl,?_⟩;rotate_left
 .rw[<-ym];exact⟨E.os,E.tape,E.output,E.size,E.zc,E.frame⟩
 rcases Ay with⟨q,m,rfl,M,T⟩|⟨D,kq,j,rfl,rfl,X,MX,Z,ak,S⟩|⟨s,rfl,rfl,rfl,rfl⟩
 .have GR:=hm ⟨q,m,rfl,M,T⟩;have Zl:(Builtin.firstCells size n (.slice q n m)).run P w.drew=.ok new.toArray w.drew:=rZ Q T n m;simp[Builtin.append_,h0,l,A,C,p,GR,Builtin.lenOf,f,V,GY,y,J,o,Zl,Y,L,newRow,H,<-F]
 rotate_left
 .have vD:=ta (P:=P) size s w.drew;simp[Builtin.append_,h0,l,A,C,p,Builtin.lenOf,f,V,GY,y,J,o,vD,Y,L,newRow,H,<-F]
 have I:IntKind.i64.wrap j=j:=IntWalk.i64_in j (by rw[Ea]at Z;omega);have G:¬j<0:=by omega
 have K:¬(281474976710656:Int)<j*B.bytes:=by rw[<-fX,lT,<-Ea];omega
 subst X;have N:¬((9223372036854775807:Int)<(len:Int)+max j 0):=by rw[PQ]at b2;omega
 by_cases R:j.toNat*size=0
 .have bm:new=[]:=by rw[S];exact ee (by rw[eB,hz,R])
  simp[Builtin.append_,h0,l,A,C,p,asInt,asIntOf,I,G,V,K,f,GY,y,J,o,R,Y,L,newRow,H,<-F,bm,N]
 simp[Builtin.append_,h0,l,A,C,p,asInt,asIntOf,I,G,V,K,f,GY,y,J,o,R,Y,L,newRow,H,<-F,<-S,N]
variable {P:Program}{T:aN}{A:Ar}[aV A]
variable {ds:List Deferred}{h0:ab}{w0:World}{β:Nat->Nat}{env:Env}{L:Loc}{h:ab}{a:Act}{w:World}
def dQf(Lc L yG L':Loc):Prop:=(yG=Lc/\L'=L)\/∃s c x y,js Lc s=some x/\js L s=some y/\yG=tJ Lc s c/\L'=tJ L s c
theorem tF.run(s:yH h w){e:Nat}{l c:Int}{kl kc:IntKind}{k:Value->ab->Prop}(hx:tF h e l c bytes z k)
 {t:TypeId} (y:P.underlying t=some (.slice e)) {i:Ti} (a:vT P e i) (T:i.bytes=bytes) (n:i.zero=z) (C:z.length=i.size):
 ∃v o h',(Instr.makeSlice t (.int kl l) (.int kc c)).run P w=.ok v o/\k v h'/\bD h w h' o:=by
 obtain⟨I,K⟩:=hx.len;obtain⟨B,D⟩:=hx.room;rw[Ea]at B D;obtain⟨p,Y,G⟩:=a.mN w;obtain⟨E,V,H,X⟩:=a.Ga w;have q:=a.eN w;have A:(underlying t).run P w=.ok (.slice e) w:=by simp[underlying,y]
 have x:IntKind.i64.wrap l=l:=IntWalk.i64_in l (by omega);have f:IntKind.i64.wrap c=c:=IntWalk.i64_in c (by omega);have u:=bD.new s (.cells (fI c.toNat z).toArray e (0,0));refine⟨_,_,_,?_,hx.out w.heap.size _ (s.kX (mr _)) rfl,u⟩;have d:¬c<0:=by omega
 have g:¬((281474976710656:Int)<(E.bytes:Int)*c):=by rw[<-X,T];omega
 have j:¬l<0:=by omega
 have m:¬c<l:=by omega
 have J:p.cells.size=i.size:=by rw[<-C,<-n,<-G];simp
 have b:=range_zero p.cells c.toNat;rw[J,G,n]at b;by_cases R:c.toNat*i.size=0
 .have r:fI c.toNat z=[]:=ee (by rw[eB,C,R]);have F:(Array.map (λ(_:Nat)=>(default:Value)) (Array.range 0))= #[]:=by simp
  simp[Instr.makeSlice,A,asInt,asIntOf,V,x,f,d,g,j,m,q,R,newRow,r,F]
 simp[Instr.makeSlice,A,asInt,asIntOf,V,x,f,d,g,j,m,q,R,newRow,Y,J,b]
theorem LO{n:Nat}(h:n*z.length=0):fI n z=[]:=ee (by rw[eB,h])
theorem xS{a b:List Value}(h:gE a=true)(d:gE b=true):gE (a++b)=true:=by
 induction a with
 |nil=>exact d
 |cons x r i=>
  simp only[iQJ,gE]at h |-;cases c:one x with
  |true=>simp only[c]at h |-;exact i h
  |false=>simp only[c]at h;cases h
theorem tR(h:gE z=true):∀n,gE (fI n z)=true
 |0=>rfl
 |n+1=>by
  unfold fI;rw[iQK,hKm];exact xS h (tR h n)
theorem ph(d:eU P T){g:FuncId}(f:T.fn g=true)(args:Array Value)(w:World):(callFunc g args).run P w=.ok (.enter g args) w:=by obtain⟨fn,h,a,b⟩:=d.fn g f;obtain⟨c,e⟩:=hKd.1 a;simp[callFunc,h,b,e]
abbrev FW(ro:Option Nat):Fence:={ Fence.wide with round:=ro }
variable {ro:Option Nat}{n:Nat}
def lD(T:aN)(ds:List Deferred)(h0:ab)(w0:World)(Q:Exit->Act->World->Prop):Prop:=
 ∀c β env L h a w,T.kp c (T.rs.map λt=>Sx.mY env (.tmp t)) h->da ds h0 w0 β env L h a w->Q (.panic c) a w
theorem nT(f:∀c,o.op≠.defer c){r:Result Next}(b:(execOp a.eval o).run P w=r)(h:o.uponIn (FW ro) n P a next Q r):o.wpIn (FW ro) n P a w next Q:=by unfold Oper.wpIn;refine⟨λ_ _=>trivial,?_⟩;rw[Oper.semAt_eq _ _ _ f,b];exact h
theorem ve{r:Next}{e:World}(h:(execOp a.eval o).run P w=.ok r e)(n:∀d,r≠.defer d):∀c,o.op≠.defer c:=λc b=>by
 simp only[execOp,b,mc]at h;cases hx:(resolve a.eval c o.type).run P w with
 |ok d f=>rw[hx]at h;simp only[hM,ox]at h;cases h;exact n _ rfl
 |halt=>rw[hx]at h;cases h
theorem qe{v:Value}{b:World}(r:(execOp a.eval o).run P w=.ok (.value v) b)(h:next (a.put o.dst v) b):o.wpIn (FW ro) n P a w next Q:=
 nT (ve r (λ_ e=>by cases e)) r h
theorem Fv{b:World}(r:(execOp a.eval o).run P w=.ok .skip b)(h:next (a.put o.dst undef) b):o.wpIn (FW ro) n P a w next Q:=
 nT (ve r (λ_ e=>by cases e)) r h
set_option maxHeartbeats 2000000 in
theorem Ja(M:eU P T)(p:da ds h0 w0 β env L h a w){Lc:Loc}(bk:∀s c,js L s=some c->js Lc s=some c){k:SV->Loc->ab->Prop}
 (j:hx A T (λ_=>P) o (Sx.mY env) Lc h k)  
 (fV:lD T ds h0 w0 Q) (hn:∀sv v yG L' h' D,k sv yG h'->da ds h0 w0 β (put env o.dst sv) L' h' (a.put o.dst v) D->dQf Lc L yG L'->next (a.put o.dst v) D):o.wpIn (FW ro) n P a w next Q:=by
 have val:∀ {v:Value} {D:World} {h':ab},(execOp a.eval o).run P w=.ok (.value v) D->k (.v v) Lc h'->bD h w h' D->o.wpIn (FW ro) n P a w next Q:=λ{v D h'} H HT ha=>
  qe H (hn _ _ _ _ _ _ HT ((p.step ha).put rfl) (.inl ⟨rfl,rfl⟩))
 have aI:∀ {D:World} {h':ab},(execOp a.eval o).run P w=.ok .skip D->k (.v undef) Lc h'->bD h w h' D->o.wpIn (FW ro) n P a w next Q:=λ{D h'} H HT ha=>
  Fv H (hn _ _ _ _ _ _ HT ((p.step ha).put rfl) (.inl ⟨rfl,rfl⟩))
 have Z:=p.after.zc;have O:∀ {s:Sem Value},dF (λ_=>P) (λ_=>s) h (λr h'=>k (.v r) Lc h')->execOp a.eval o=(do pure (.value (<-s)))->o.wpIn (FW ro) n P a w next Q:=λ{s} hx E=>by
  obtain⟨v,D,h',C,J,K⟩:=hx.out w Z;exact val (by rw[E,mc,C];rfl) J K
 have ak:∀ {s:Sem Unit},dF (λ_=>P) (λ_=>do s;pure undef) h (λ_ h'=>k (.v undef) Lc h')->execOp a.eval o=(do s;pure .skip)->o.wpIn (FW ro) n P a w next Q:=λ{s} hx E=>by
  obtain⟨v,D,h',C,J,K⟩:=hx.out w Z;rw[mc]at C;cases H:s.run P w with
  |ok u w1=>rw[H]at C;simp only[hM,ox]at C;cases C;exact aI (by rw[E,mc,H];rfl) J K
  |halt=>rw[H]at C;cases C
 unfold hx at j;split at j;case h_1 x B=>-- assign
  have H:(execOp a.eval o).run P w=.ok (.value (a.eval x)) w:=by simp only[execOp,B];rfl
  refine qe H ?_;exact hn _ _ _ _ _ _ j (p.put (p.mY x)) (.inl ⟨rfl,rfl⟩)
 case h_2 t q x B=>-- store
  split at j
  .exact j.elim
  rename_i R;have hi:=fv M (fk R);split at j
  .rename_i v G;split at j
   .exact j.elim
   rename_i fP;have aW:v.cells.size=(T.ty t).size:=by simpa using fP
   split at j
   .exact j.elim
   rename_i W;have mE:∀ {y:Addr} {D:World},(storeCells y v.cells.toList).run P w=.ok () D->(Instr.storeAt t (.pointer (some y)) v).run P w=.ok () D:=λ{y D} H=>by
    simp only[Instr.storeAt,Instr.sureAddr,mc,ox,hM,storeVar,hi.eN,aW];simp[H]
   split at j
   .rename_i s off hq;split at j
    .rename_i c hc;obtain⟨⟨c',ue⟩,bg⟩:=p.oC hq;have:c'=c:=by have:=bk _ _ ue;rw[hc]at this;cases this;rfl
     subst this;split at j
     .rename_i N;have aX:=qH N;obtain⟨-,-,e,E⟩:=p.loc s c' ue;obtain⟨D,C,J,K,k4,k5⟩:=mO (P:=P) (b:=β s) (o:=off) (e:=e) (fr:=(0,0)) v.cells.toList 0 c'.toArray w E (by simpa using aX) (by simp) W;have H:(execOp a.eval o).run P w=.ok .skip D:=by simp only[execOp,B,bg,p.bo G,mc,mE C,hM,ox]
      refine Fv H ?_;refine hn _ _ _ (tJ L s (fa c' off v.cells.toList)) _ _ j (da.put ?_ rfl) (.inr ⟨s,_,c',c',hc,ue,rfl,rfl⟩);refine p.aQM ue (λe' aP=>?_) K k4 k5;rw[E]at aP;cases aP;simpa using J
     exact j.elim
    exact j.elim
   .rename_i y hq;obtain⟨D,h',C,J,K⟩:=(show HG h y v.cells.toList _ from j).run (P:=P) Z W;exact aI (by simp only[execOp,B,p.bo hq,p.bo G,mc,mE C,hM,ox]) J K
   exact j.elim
  exact j.elim
 case h_3 e B=>-- alloc
  split at j
  .exact j.elim
  rename_i R;obtain⟨z,hz,GC⟩:=(fv M (fk R)).mN w;refine val ?_ (j w.heap.size _ (Z.kX (mr _)) rfl) (bD.new Z _);simp only[execOp,B,Instr.alloc,mc,hz,hM,newVar,newRow,run_newObj,ox];rw[<-GC]
 case h_4 e x B=>-- box
  split at j
  .rename_i v G;refine val ?_ (j w.heap.size _ (Z.kX (mr _)) rfl) (bD.new Z _);simp only[execOp,B,Instr.box,mc,hM,newVar,newRow,run_newObj,ox,p.bo G]
  exact j.elim
 case h_5 t len parts B=>-- buildSlice
  split at j
  .rename_i e E;have rf:=fv M (fh E);obtain⟨d,N,KZ,R,-⟩:=rf.cj w;obtain rfl:=mR (R ▸ E);split at j
   .exact j.elim
   rename_i Y;have S:=fv M (fk Y);split at j
   .rename_i ps Zm;split at j
    .rename_i aD CN;have aD:len*(T.ty e).size<=2^24:=qH aD;have IZ:(T.ty e).zero.length=(T.ty e).size:=by simpa using CN
     split at j
     .rename_i cs au;refine val ?_ (j w.heap.size _ (Z.kX (mr _)) rfl) (bD.new Z _);obtain⟨zz,YZ,GC⟩:=S.mN w;have aw:zz.cells.size=(T.ty e).size:=by rw[<-IZ,<-GC];simp
      have an:=range_zero zz.cells len;rw[aw,GC]at an;have vZ:(parts.map λ(i,x)=>(i,a.eval x))=ps.toArray:=by rw[<-qP p Zm];apply Array.ext';simp
      have ZA:=fill_eq (λi=>some (i*(T.ty e).size,(T.ty e).size)) ps (fI len (T.ty e).zero).toArray cs (by simpa using au);have bh:¬(2^24<len*(T.ty e).size):=by omega
      by_cases iR:len*(T.ty e).size=0
      .have bm:fI len (T.ty e).zero=[]:=LO (by rw[IZ,iR]);rw[bm]at ZA;have xj:(Array.map (λ(_:Nat)=>(default:Value)) (Array.range 0))= #[]:=by simp
       simp only[List.toArray]at ZA;simp[execOp,B,Instr.buildSlice,N,S.eN,iR,vZ,ZA,newRow,xj]
      have bd:¬(16777216<len*(T.ty e).size):=bh;simp[execOp,B,Instr.buildSlice,N,S.eN,bd,iR,vZ,ZA,newRow,YZ,aw,an]
     exact j.elim
    exact j.elim
   exact j.elim
  exact j.elim
 case h_6 t l c B=>-- makeSlice
  split at j
  .rename_i e E;have rf:=fv M (fh E);obtain⟨d,N,KZ,R,-⟩:=rf.cj w;obtain rfl:=mR (R ▸ E);split at j
   .exact j.elim
   rename_i Y;have S:=fv M (fk Y);split at j
   .rename_i kl l' hl;split at j
    .rename_i kc c' hc;split at j
     .rename_i CN;obtain⟨v,D,h',C,J,K⟩:=tF.run (P:=P) (kl:=kl) (kc:=kc) Z j KZ S rfl rfl (by simpa using CN);exact val (by simp only[execOp,B,p.bo hl,p.bo hc,mc,C,hM,ox]) J K
     exact j.elim
    exact j.elim
   exact j.elim
  exact j.elim
 case h_7 t r B=>-- makeMap
  split at j
  .exact val (by simp[execOp,B,Instr.makeMap]) (j w.heap.size _ (Z.kX (mr _)) rfl) (bD.new Z _)
  exact j.elim
 case h_8 f args argTypes B=>-- call
  split at j
  .rename_i g first cap hf
   split at j
   .rename_i V has;split at j
    .rename_i hg;have H:(execOp a.eval o).run P w=.ok (.enter g (first++V.toArray++cap)) w:=by simp only[execOp,B,resolve,p.bo hf,ia p has,Deferred.ofValue,mc,ox,hM,invoke,ph M hg]
     refine nT (ve H (λ_ e=>by cases e)) H ?_;refine⟨λN=>by simp[FW,Fence.wide]at N,?_⟩;have E:(first.toList++V++cap.toList).toArray=first++V.toArray++cap:=by apply Array.ext';simp
     split at j
     .have:=callsIn_wide (n:=n-1).2 ((show NT _ _ _ _ _ _ from j).out w Z);rw[E]at this;refine CallsIn.mono (F:=FW ro) (show CallsIn (FW ro) (n-1) P g _ w _ from this) λe D hq=>?_;rcases hq with⟨v,h',W,h2,h3⟩|⟨c,h',W,h2,h3⟩
      .subst W;exact hn _ _ _ _ _ _ h2 ((p.step h3).put rfl) (.inl ⟨rfl,rfl⟩)
      subst W;exact fV c _ _ _ _ _ _ h2 (p.step h3)
     have:=callsIn_wide (n:=n-1).2 ((show Ca _ _ _ _ _ from j).out w Z);rw[E]at this;refine CallsIn.mono (F:=FW ro) (show CallsIn (FW ro) (n-1) P g _ w _ from this) λe D ⟨v,h',W,h2,h3⟩=>?_;subst W;exact hn _ _ _ _ _ _ h2 ((p.step h3).put rfl) (.inl ⟨rfl,rfl⟩)
    obtain⟨v,D,h',C,J,K⟩:=(show dF _ _ _ _ from j).out w Z;refine val ?_ J K;have E:(first.toList++V++cap.toList).toArray=first++V.toArray++cap:=by apply Array.ext';simp
    simp only[xA]at C;rw[E,mc]at C;simp only[execOp,B,resolve,p.bo hf,ia p has,Deferred.ofValue,mc,ox,hM,invoke];cases H:(callFunc g (first++V.toArray++cap)).run P w with
    |ok n w1=>
     rw[H]at C;simp only[hM]at C;cases n with
     |value z=>simp only[ox]at C;cases C;rfl
     |_=>simp at C
    |halt=>rw[H]at C;cases C
   exact j.elim
  .rename_i l first cap hf
   split at j
   .rename_i V has;obtain⟨fn,aj,yi,ai,g1,U⟩:=(show XA _ _ _ _ _ from j).out w Z;have E:(first.toList++V).toArray=first++V.toArray:=by apply Array.ext';simp
    have H:(execOp a.eval o).run P w=.ok (.round l fn aj yi ai) w:=by rw[E]at g1;simp only[execOp,B,resolve,p.bo hf,ia p has,Deferred.ofValue,mc,ox,hM,invoke,g1]
    refine nT (ve H (λ_ e=>by cases e)) H ?_;refine⟨λN=>by simp[FW,Fence.wide]at N,?_⟩;refine RoundIn.mono (F:=FW ro) (show RoundIn (FW ro) (n-1) P l fn aj yi ai w _ from U (n-1)) λe D ⟨v,h',W,h2,h3⟩=>?_;subst W;exact hn _ _ _ _ _ _ h2 ((p.step h3).put rfl) (.inl ⟨rfl,rfl⟩)
   exact j.elim
  exact j.elim
 case h_9 b args argTypes B=>-- Sy
  have pD:∀(vs:List Value),mK (args.toList.map (Sx.mY env))=some vs->
   (execOp a.eval o)=builtin b argTypes o.type (args.map λ| .const _=>true|_=>false) vs.toArray:=λvs G=>by
   simp only[execOp,B,resolve];rw[ia p G];rfl
  split at j
  .split at j -- append
   .rename_i t u ht I;split at j
    .rename_i e E;have rf:=fv M (fh E);obtain⟨d,N,KZ,R,-⟩:=rf.cj w;obtain rfl:=mR (R ▸ E);split at j
     .exact j.elim
     rename_i Y;have S:=fv M (fk Y);split at j
     .exact j.elim
     rename_i CN;have IZ:(T.ty e).zero.length=(T.ty e).size:=by simpa using CN
     split at j
     .rename_i b' len cap x n q G;split at j
      .rename_i e2 X;obtain⟨d2,-,Rh,Ra,-⟩:=(fv M (fh X)).cj w;obtain rfl:=mR (Ra ▸ X);obtain⟨new,g1,U⟩:=(show fq _ _ _ _ _ _ _ _ _ _ from j).out;obtain⟨v,D,h',C,J,K⟩:=U.run (P:=P) Z ht I KZ Rh S rfl rfl IZ (.inl ⟨x,q,rfl,λ_=>by simp,g1⟩) o.type;exact val (by rw[pD _ G];simp only[builtin,mc,C,hM,ox]) J K
      exact j.elim
     .rename_i b' len cap s G;split at j
      .rename_i X;obtain⟨d2,-,Rh,Ra,-⟩:=(fv M (show(T.ty u).kd≠.none by rw[X];simp)).cj w;obtain rfl:d2=.string:=by rw[Ra]at X;cases d2<;>simp[mS]at X;rfl
       obtain⟨v,D,h',C,J,K⟩:=pq.run (P:=P) Z j ht I KZ Rh S rfl rfl IZ (x:=.string s) (.inr (.inr ⟨s,rfl,rfl,rfl,rfl⟩)) o.type;exact val (by rw[pD _ G];simp only[builtin,mc,C,hM,ox]) J K
      exact j.elim
     .rename_i b' len cap kk n G;split at j
      .rename_i X;obtain⟨d2,-,Rh,Ra,-⟩:=(fv M (show(T.ty u).kd≠.none by rw[X];simp)).cj w;obtain⟨k',rfl⟩:∃k',d2=.int k':=by rw[Ra]at X;cases d2<;>simp[mS]at X;exact⟨_,rfl⟩
       obtain⟨⟨c1,c2,c3⟩,U⟩:=(show pS _ _ from j);have U:=U.out;rw[show A.mW n 0=n.toNat by rw[A.xB];simp]at U;obtain⟨v,D,h',C,J,K⟩:=pq.run (P:=P) Z U ht I KZ Rh S rfl rfl IZ (x:=.int kk n) (.inr (.inl ⟨kk,k',n,rfl,rfl,rfl,c1,c2,c3,rfl⟩)) o.type;exact val (by rw[pD _ G];simp only[builtin,mc,C,hM,ox]) J K
      exact j.elim
     exact j.elim
    exact j.elim
   exact j.elim
  .split at j -- copy
   .rename_i t ht;split at j
    .rename_i e E;have rf:=fv M (fh E);obtain⟨d,N,KZ,R,-⟩:=rf.cj w;obtain rfl:=mR (R ▸ E);split at j
     .exact j.elim
     rename_i Y;have S:=fv M (fk Y);split at j
     .rename_i b' len q x n q' G;obtain⟨cs,g1,U,g3⟩:=(show tG _ _ _ _ _ _ _ from j).out;obtain⟨D,h',C,J,K⟩:=g3.run (P:=P) Z U;refine val ?_ J K;rw[pD _ G];have hf:=rZ (P:=P) Z g1 n q';have BS:Nat.min n len=min n len:=rfl;simp[builtin,Builtin.copy_,ht,N,Builtin.lenOf,S.eN,BS,hf,goInt];cases b' with
      |none=>simp at C;simp[C]
      |some y=>simp at C;simp[C]
     exact j.elim
    exact j.elim
   exact j.elim
  .split at j -- clear
   .rename_i t ht;split at j
    .rename_i e E;have rf:=fv M (fh E);obtain⟨d,N,KZ,R,-⟩:=rf.cj w;obtain rfl:=mR (R ▸ E);split at j
     .exact j.elim
     rename_i Y;have S:=fv M (fk Y);split at j
     .exact j.elim
     rename_i CN;have IZ:(T.ty e).zero.length=(T.ty e).size:=by simpa using CN
     split at j
     .rename_i b' len q G;obtain⟨U,g3⟩:=(show uq _ _ _ _ _ from j);obtain⟨D,h',C,J,K⟩:=g3.run (P:=P) Z (tR U len);refine val ?_ J K;rw[pD _ G];obtain⟨zz,YZ,GC⟩:=S.mN w;have bj:Builtin.zeroCells zz.cells len=(fI len (T.ty e).zero).toArray:=by unfold Builtin.zeroCells;rw[range_zero,GC]
      cases b' with
      |none=>simp at C;subst C;simp[builtin,Builtin.clear_,ht,N]
      |some y=>
       simp at C;cases len with
       |zero=>have:fI 0 (T.ty e).zero=[]:=rfl;rw[this]at C;simp[storeCells]at C;subst C;simp[builtin,Builtin.clear_,ht,N]
       |succ m=>simp[builtin,Builtin.clear_,ht,N,YZ,bj,C]
     exact j.elim
    exact j.elim
   exact j.elim
  .split at j -- delete
   .rename_i V has;exact O j (by rw[pD _ has];rfl)
   exact j.elim
  exact j.elim
 case h_10 src dst x B=>-- convert
  split at j
  .rename_i u I;exact O j (by simp only[execOp,B,p.bo I])
  exact j.elim
 case h_11 t x i b B=>-- lookup
  split at j
  .rename_i u I;split at j
   .rename_i v G;exact O j (by simp only[execOp,B,p.bo I,p.bo G])
   exact j.elim
  exact j.elim
 case h_12 t m i x B=>-- mapUpdate
  split at j
  .rename_i u I;split at j
   .rename_i v G;split at j
    .rename_i z hz;exact ak j (by simp only[execOp,B,p.bo I,p.bo G,p.bo hz])
    exact j.elim
   exact j.elim
  exact j.elim
 case h_13 t m i B=>-- mapEntry
  split at j
  .rename_i u I;split at j
   .rename_i v G;exact O j (by simp only[execOp,B,p.bo I,p.bo G])
   exact j.elim
  exact j.elim
 case h_14 t m i x B=>-- entryStore
  split at j
  .rename_i u I;split at j
   .rename_i v G;split at j
    .rename_i z hz;exact ak j (by simp only[execOp,B,p.bo I,p.bo G,p.bo hz])
    exact j.elim
   exact j.elim
  exact j.elim
 case h_15 t x B=>-- range
  split at j
  .rename_i u I;exact O j (by simp only[execOp,B,p.bo I])
  exact j.elim
 case h_16 it str B=>-- next
  split at j
  .rename_i u I;exact O j (by simp only[execOp,B,p.bo I])
  exact j.elim
 case h_17 it B=>-- entry
  split at j
  .rename_i u I;exact O j (by simp only[execOp,B,p.bo I])
  exact j.elim
 case h_18 t m i x B=>-- insert
  split at j
  .rename_i u I;split at j
   .rename_i v G;split at j
    .rename_i z hz;exact ak j (by simp only[execOp,B,p.bo I,p.bo G,p.bo hz])
    exact j.elim
   exact j.elim
  exact j.elim
 case h_19 x B=>-- panic
  split at j
  .rename_i t v G;have H:(execOp a.eval o).run P w=.halt (.panic (.iface t v)) w:=by simp only[execOp,B,p.bo G,mc,show(Instr.panic (.iface t v)).run P w=.halt (.panic (.iface t v)) w from rfl];rfl
   refine nT (λc hc=>by rw[hc]at B;cases B) H ?_;rw[Oper.uponIn_panic];exact fV _ _ _ _ _ _ _ j p
  exact j.elim
 case h_20=>exact j.elim
end Go.Sx
