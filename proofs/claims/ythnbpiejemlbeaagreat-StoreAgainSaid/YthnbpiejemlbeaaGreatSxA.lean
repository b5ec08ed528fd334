import Derived.OrdersIn
import Derived.RangeFuncRecord
import Derived.Sort.LoopGhostIn
import Derived.Laws.Cells
import Derived.Laws.StructEq
import Derived.IntWalk
set_option linter.all false
namespace Go
abbrev zcL t l:=some (Obj.cells (List.toArray l) t (0,0))
abbrev Value.zP b:=Value.pointer (some ⟨b,0,none⟩)
abbrev zsA b:=some (⟨b,0,none⟩:Addr)
def zuR n l:=List.replicate n (Value.int .u8 0)++l
abbrev Value.zI n:=Value.int .i64 n
abbrev Value.zU n:=Value.int .u32 n
abbrev Value.zN:=Value.slice none 0 0
theorem ip{p:Prop}(h:p:=by omega):p:=h
theorem dl{p:Prop}(h:p:=by decide):p:=h
theorem io{p:Prop}(h:p:=by simp):p:=h
theorem gg{p:Prop}(h:p:=by grind):p:=h
theorem iu{q p:Prop}(h:q)(a:q->p:=by intro h;simpa using h):p:=a h
end Go
namespace Go
def qA:= @Nat.le_refl
def kXj:= @Nat.le_trans
def kKm:= @Sem.run_bind
def vy:= @Nat.add_zero
def iz:= @List.getElem?_cons_zero
def kZs:= @List.length_cons
def kKi:= @Array.getElem?_modify
def kKl:= @List.getElem?_set
def SW:= @List.map_cons
def kJc:= @List.zipIdx_cons
def kJF:= @List.foldl_cons
def kZe:= @Array.foldl_toList
def kQL:= @List.mapM_cons
def kXb:= @Result.andThen_ok
def kXa:= @Sem.run_pure
def kXf:= @Array.mapM_eq_mapM_toList
def kJB:= @Sem.run_map
def kJA:= @List.getElem?_toArray
def kZr:= @of_decide_eq_true
def kJQ:= @List.all_cons
def kZj:= @Bool.and_eq_true
def kJP:= @decide_eq_true_eq
def kJO:= @List.drop_drop
def rK:= @Nat.add_comm
def Rs:= @Bool.not_eq_true'
def kJm:= @Option.isSome_iff_exists
def kJl:= @Array.getD_eq_getD_getElem?
def kKk:= @Array.getElem?_eq_getElem
def vv:= @Array.getElem?_toList
def ya:= @List.foldlM_cons
def mB:= @List.foldlM_nil
def kKj:= @List.replicate_succ
def kQG:= @List.flatten_cons
def kQU:= @List.getElem?_append_left
def kXV:= @List.getElem?_append_right
def kZi:= @Nat.succ_mul
def kZq:= @List.ext_getElem?
def qM:= @ByteArray.data_extract
def kZh:= @List.eq_nil_of_length_eq_zero
def kZg:= @Nat.mul_le_mul_right
def kJk:= @List.append_assoc
def kZd:= @List.mem_map
def kJN:= @List.map_congr_left
def kJM:= @Array.toList_append
def kJj:= @List.mem_append
def kXI:= @Array.getElem?_setIfInBounds
def kXC:= @List.getD_eq_getElem?_getD
def kXB:= @List.mem_cons
def kXi:= @List.mem_cons_self
def kQH:= @List.mem_cons_of_mem
def kXk:= @Bool.false_eq_true
def kZp:= @List.mem_filter
def kQJ:= @List.contains_eq_mem
def kJi:= @Bool.true_or
def mz:= @Bool.not_false
def kQN:= @Bool.true_and
def zG:= @List.all_eq_true
def kJh:= @Array.getElem?_eq_some_iff
def kQI:= @List.eq_nil_iff_forall_not_mem
def kZc:= @List.mem_range
def kJa:= @Bool.or_eq_true
def yz:= @List.all_eq_false
def kXp:= @List.countP_le_length
def kJg:= @Array.getElem?_replicate
def kZZ:= @List.getElem?_append
def kZf:= @List.getElem?_map
def kZG:= @List.getElem?_eq_getElem
def kKh:= @Array.getElem?_append_left
def kKg:= @List.getElem?_replicate
def kJf:= @Array.getElem?_append_right
def kXA:= @Array.getElem?_setIfInBounds_self_of_lt
def kQZ:= @Array.getElem?_setIfInBounds_ne
def HH:= @List.getElem?_eq_some_iff
def kZo:= @List.getElem?_take
def kXz:= @List.getElem?_drop
def kZF:= @Nat.mul_le_mul_left
def kXy:= @List.length_append
def kXh:= @Nat.add_mul
def kZn:= @Int.ofNat_eq_natCast
def kJL:= @Int.toNat_natCast
def kXU:= @List.getElem?_set_self
def kJK:= @List.getElem?_set_ne
def kZY:= @Option.getD_some
def kJe:= @Nat.zero_add
def kKf:= @Nat.lt_or_ge
def kJd:= @Int.fdiv_eq_ediv_of_nonneg
def kXT:= @List.getElem?_of_mem
def kQM:= @Nat.lt_trichotomy
def kJJ:= @List.pairwise_iff_getElem
def kZX:= @of_decide_eq_false
def kJI:= @List.length_take
def kXx:= @Nat.min_eq_left
def kQX:= @Nat.add_le_add_left
def kJb:= @List.length_drop
def eA:= @Nat.mul_le_mul
def kXo:= @List.take_length
def wy:= @List.drop_eq_nil_of_le
def kJH:= @List.append_nil
def kJG:= @List.take_add_one
def GD:= @List.take_append_drop
def kXH:= @Nat.zero_le
def VS:= @List.set_eq_take_append_cons_drop
def kXS:= @List.map_map
def kQR:= @List.mem_of_getElem?
def fz:= @Array.toList_filter
def wS:= @List.filter_filter
def kZl:= @List.length_map
def Dg:= @List.length_filter_le
def cg:= @List.length_filter_eq_length_iff
def nX:= @List.drop_left
def kB:= @List.take_append_of_le_length
def nM:= @List.eraseIdx_eq_take_drop_succ
def kXe:= @List.take_of_length_le
def kJE:= @List.length_set
def kZE:= @Nat.eq_zero_or_pos
def vi:= @Nat.mul_one
def kQP:= @List.drop_eq_getElem_cons
def kQT:= @List.find?_eq_some_iff_getElem
def kS:= @decide_eq_true
def wM:= @List.any_eq_true
def kQW:= @decide_eq_false
def rB:= @List.any_eq_false
def kKe:= @List.take_take
def kXn:= @Nat.min_self
def wL:= @List.map_take
def kZV:= @List.map_drop
def kZD:= @Nat.sub_zero
def kKd:= @Nat.sub_self
def kKc:= @Nat.le_of_lt
def kZb:= @List.findIdx?_eq_none_iff
def kXd:= @List.findIdx?_eq_some_iff_getElem
def kJD:= @List.map_set
def kXR:= @List.getElem_set
def kQF:= @List.getElem_map
def kXQ:= @List.map_append
def kXP:= @List.filter_append
def tB:= @Int.le_refl
def kXs:= @Int.tmod_lt_of_pos
def kQO:= @Int.lt_tmod_of_pos
def kXG:= @Int.tmod_eq_emod
def kKb:= @Int.emod_nonneg
def kKa:= @Int.emod_lt_of_pos
def bB:= @List.drop_succ_cons
def kZU:= @Array.length_toList
def kZC:= @UInt8.toNat_inj
def kXO:= @Int.ofNat_inj
def kZT:= @UInt8.lt_iff_toNat_lt
def kZB:= @List.takeWhile_cons_of_pos
def kZA:= @List.nil_append
def kQY:= @Int.tdiv_eq_ediv_of_nonneg
def kZa:= @List.mem_or_eq_of_mem_set
def kQQ:= @List.drop_zero
def kZS:= @List.rel_of_pairwise_cons
def kXF:= @List.getElem_of_mem
def kZR:= @List.mem_eraseIdx_iff_getElem
def kJC:= @List.cons_append
def kZz:= @List.length_pos_iff
def kZQ:= @UInt8.toNat_ofNat'
def kZP:= @Array.toList_extract
def tT:= @List.length_replicate
def kZO:= @List.mem_iff_getElem?
def kXN:= @List.mem_of_mem_drop
def kZy:= @Nat.mod_lt
def kXM:= @Decidable.not_not
def kXm:= @List.length_singleton
def kXw:= @List.length_nil
def kXr:= @List.set_append_right
def kZN:= @List.length_range
def kZM:= @List.getElem?_eq_none
def kZL:= @Int.tmod_eq_emod_of_nonneg
def kXc:= @List.drop_of_length_le
def kXE:= @Nat.add_assoc
def kXq:= @List.drop_length
def kZx:= @List.mem_of_mem_take
def kJZ:= @List.getElem?_singleton
def kZk:= @List.pairwise_append
def kZK:= @Nat.min_le_right
def rz:= @List.mem_eraseIdx_iff_getElem?
def kZw:= @List.filter_cons_of_pos
def kXL:= @List.takeWhile_cons_of_neg
def kXv:= @List.takeWhile_sublist
def kXZ:= @List.prefix_iff_eq_take
def kJz:= @List.takeWhile_prefix
def kXY:= @List.eraseIdx_sublist
def kZJ:= @List.pairwise_singleton
def kJY:= @Bool.and_true
def kXK:= @List.mem_singleton
def kJy:= @List.getLast?_eq_getElem?
def kQK:= @List.not_mem_nil
def kXu:= @List.pairwise_cons
def kQV:= @List.length_eq_zero_iff
def kXl:= @Bool.not_true
def kXg:= @Nat.le_succ
def kJx:= @Nat.lt_or_gt_of_ne
def kXt:= @List.eq_nil_or_concat
def kXX:= @List.filter_cons_of_neg
def kJX:= @List.mem_append_left
def kXD:= @List.getElem?_zipWith
def kZI:= @List.getLast?_concat
end Go
namespace Go.Sx
variable {g:Bool}{Q:Exit->Act->World->Prop}{f:FuncId}{fs:List (Nat×Nat)}{args c cs z:List Value}{bytes cap e s size:Nat}{fr:Nat×Nat}{o:Oper}{y:Operand}{b:Option Addr}{d:TypeDesc}{p:Unit->Program}{r u:Value}{k:Value->Prop}{w':World}
abbrev ad:=Nat->Option Obj
def Eo(h:ad)(w:World):Prop:=∀b o,h b=some o->w.heap[b]? =some o
structure cj(h:ad)(w:World)(h':ad)(w':World):Prop where
 os:w'.os=w.os
 tape:w'.tape=w.tape
 output:w'.output=w.output
 size:w.heap.size<=w'.heap.size
 EP:Eo h' w'
 frame:∀b,b<w.heap.size->h b=none->w'.heap[b]? =w.heap[b]? /\h' b=none
def Fn(P:Program)(f:FuncId)(args:List Value)(h:ad)(R:Value->ad->Prop):Prop:=
 ∀w,Eo h w->Calls P f args.toArray w λe w'=>∃v h',e=.returned v/\R v h'/\cj h w h' w'
structure Hl(p:Unit->Program)(f:FuncId)(args:List Value)(h:ad)(R:Value->ad->Prop):Prop where
 out:Fn (p ()) f args h R
structure Wg(p:Unit->Program)(f:FuncId)(args:List Value)(h:ad)(R:Value->ad->Prop)(K:List PanicEntry->ad->Prop):Prop where
 out:∀w,Eo h w->Calls (p ()) f args.toArray w λe w'=>(∃v h',e=.returned v/\R v h'/\cj h w h' w')\/(∃c h',e=.panicked c/\K c h'/\cj h w h' w')
structure bQX(p:Unit->Program)(l:Nat)(args:List Value)(h:ad)(R:Value->ad->Prop):Prop where
 out:∀w,Eo h w->∃fn tmps DM body,(Instr.yield l args.toArray).run (p ()) w=.ok (.round l fn tmps DM body) w/\∀n,RoundIn Fence.wide n (p ()) l fn tmps DM body w λe w'=>∃v h',e=.returned v/\R v h'/\cj h w h' w'
def bO(h:ad)(n:Nat)(o:Obj):ad:=λb=>if b=n then some o else h b
def jt(a:Option Addr)(i:Int)(size:Nat):Addr:=((a.getD ⟨0,0,none⟩).add (i.toNat*size))
def aX(op:BinOp)(k:IntKind)(a b:Int):Int:=
 match op with
 | .add=>k.wrap (a+b)
 | .sub=>k.wrap (a-b)
 | .mul=>k.wrap (a*b)
 | .quo=>k.wrap (a.tdiv b)
 | .rem=>a.tmod b
 | .and=>k.wrap ((BitVec.ofInt k.bits a&&& BitVec.ofInt k.bits b).toNat)
 | .or=>k.wrap ((BitVec.ofInt k.bits a|||BitVec.ofInt k.bits b).toNat)
 | .xor=>k.wrap ((BitVec.ofInt k.bits a^^^BitVec.ofInt k.bits b).toNat)
 | .andNot=>k.wrap ((BitVec.ofInt k.bits a&&& ~~~ BitVec.ofInt k.bits b).toNat)
 | .shl=>k.wrap (a*2^(min b.toNat k.bits))
 | .shr=>a.fdiv (2^(min b.toNat k.bits))
 |_=>0
def aQ(op:BinOp)(a b:Int):Bool:=
 match op with
 | .eql=>a==b
 | .neq=>a !=b
 | .lss=>decide (a<b)
 | .leq=>decide (a<=b)
 | .gtr=>decide (a>b)
 | .geq=>decide (a>=b)
 |_=>false
def lu(op:BinOp)(a b:ByteArray):Bool:=
 match op with
 | .eql=>a.toList==b.toList
 | .neq=> !(a.toList==b.toList)
 | .lss=>Op.bytesLess a.toList b.toList
 | .leq=>Op.bytesLess a.toList b.toList||a.toList==b.toList
 | .gtr=> !(Op.bytesLess a.toList b.toList||a.toList==b.toList)
 | .geq=> !(Op.bytesLess a.toList b.toList)
 |_=>false
def uP(op:BinOp)(a b:Bool):Bool:=
 match op with
 | .eql=>a==b
 | .neq=> !(a==b)
 |_=>false
inductive Tg where
 |jt|ix|off|aX|aQ|lu|uP|not|and|cat|byte|sub|conv|nat|CI|cut|nR|mT|imax|lW
abbrev Tg.T:Tg->Type
 | .jt=>Option Addr->Int->Nat->Addr
 | .ix=>Nat->Int->Nat->Nat
 | .off=>Addr->Nat->Addr
 | .aX=>BinOp->IntKind->Int->Int->Int
 | .aQ=>BinOp->Int->Int->Bool
 | .lu=>BinOp->ByteArray->ByteArray->Bool
 | .uP=>BinOp->Bool->Bool->Bool
 | .not=>Bool->Bool
 | .and=>Bool->Bool->Bool
 | .cat=>ByteArray->ByteArray->ByteArray
 | .byte=>ByteArray->Int->Int
 | .sub=>ByteArray->Int->Int->ByteArray
 | .conv=>IntKind->Int->Int
 | .nat=>Nat->Int
 | .CI=>Option Addr->Bool
 | .cut=>Option Addr->Int->Int->Nat->Option Addr
 | .nR=>Int->Int->Nat
 | .mT=>Int->Int->Int
 | .imax=>Int->Int->Int
 | .lW=>ByteArray->Int
abbrev Ar:=(t:Tg)->t.T
def Ar.jt(A:Ar):Option Addr->Int->Nat->Addr:=A .jt
def Ar.ix(A:Ar):Nat->Int->Nat->Nat:=A .ix
def Ar.off(A:Ar):Addr->Nat->Addr:=A .off
def Ar.aX(A:Ar):BinOp->IntKind->Int->Int->Int:=A .aX
def Ar.aQ(A:Ar):BinOp->Int->Int->Bool:=A .aQ
def Ar.lu(A:Ar):BinOp->ByteArray->ByteArray->Bool:=A .lu
def Ar.uP(A:Ar):BinOp->Bool->Bool->Bool:=A .uP
def Ar.not(A:Ar):Bool->Bool:=A .not
def Ar.and(A:Ar):Bool->Bool->Bool:=A .and
def Ar.cat(A:Ar):ByteArray->ByteArray->ByteArray:=A .cat
def Ar.byte(A:Ar):ByteArray->Int->Int:=A .byte
def Ar.sub(A:Ar):ByteArray->Int->Int->ByteArray:=A .sub
def Ar.conv(A:Ar):IntKind->Int->Int:=A .conv
def Ar.nat(A:Ar):Nat->Int:=A .nat
def Ar.CI(A:Ar):Option Addr->Bool:=A .CI
def Ar.cut(A:Ar):Option Addr->Int->Int->Nat->Option Addr:=A .cut
def Ar.nR(A:Ar):Int->Int->Nat:=A .nR
def Ar.mT(A:Ar):Int->Int->Int:=A .mT
def Ar.imax(A:Ar):Int->Int->Int:=A .imax
def Ar.lW(A:Ar):ByteArray->Int:=A .lW
class bM (A:Ar):Prop where
 jt:A .jt=Sx.jt
 ix:A .ix=λo i n=>o+i.toNat*n
 off:A .off=λa n=>a.add n
 aX:A .aX=Sx.aX
 aQ:A .aQ=Sx.aQ
 lu:A .lu=Sx.lu
 uP:A .uP=Sx.uP
 not:A .not=λb=> !b
 and:A .and=λa b=>a&&b
 cat:A .cat=λa b=>a++b
 byte:A .byte=λs i=>((s.data.getD i.toNat 0).toNat:Int)
 sub:A .sub=λs l h=>s.extract l.toNat h.toNat
 conv:A .conv=λk n=>k.wrap n
 nat:A .nat=Int.ofNat
 CI:A .CI=λa=>a.isNone
 cut:A .cut=λa l m size=>if m=l then a else a.map (·.add (l.toNat*size))
 nR:A .nR=λh l=>(h-l).toNat
 mT:A .mT=λa b=>min a b
 imax:A .imax=λa b=>max a b
 lW:A .lW=λs=>(s.size:Int)
theorem Ar.xA(A:Ar)[bM A]:A.jt=Sx.jt:=bM.jt
theorem Ar.dZM(A:Ar)[bM A]:A.ix=λo i n=>o+i.toNat*n:=bM.ix
theorem Ar.cQq(A:Ar)[bM A]:A.off=λa n=>a.add n:=bM.off
theorem Ar.xG(A:Ar)[bM A]:A.aX=Sx.aX:=bM.aX
theorem Ar.Zg(A:Ar)[bM A]:A.aQ=Sx.aQ:=bM.aQ
theorem Ar.XW(A:Ar)[bM A]:A.lu=Sx.lu:=bM.lu
theorem Ar.QN(A:Ar)[bM A]:A.uP=Sx.uP:=bM.uP
theorem Ar.not_eq(A:Ar)[bM A]:A.not=λb=> !b:=bM.not
theorem Ar.and_eq(A:Ar)[bM A]:A.and=λa b=>a&&b:=bM.and
theorem Ar.cJz(A:Ar)[bM A]:A.cat=λa b=>a++b:=bM.cat
theorem Ar.bQH(A:Ar)[bM A]:A.byte=λs i=>((s.data.getD i.toNat 0).toNat:Int):=bM.byte
theorem Ar.sub_eq(A:Ar)[bM A]:A.sub=λs l h=>s.extract l.toNat h.toNat:=bM.sub
theorem Ar.bQF(A:Ar)[bM A]:A.conv=λk n=>k.wrap n:=bM.conv
theorem Ar.nat_eq(A:Ar)[bM A]:A.nat=Int.ofNat:=bM.nat
theorem Ar.Zc(A:Ar)[bM A]:A.CI=λa=>a.isNone:=bM.CI
theorem Ar.GP(A:Ar)[bM A]:A.cut=λa l m size=>if m=l then a else a.map (·.add (l.toNat*size)):=bM.cut
theorem Ar.Dd(A:Ar)[bM A]:A.nR=λh l=>(h-l).toNat:=bM.nR
theorem Ar.aJY(A:Ar)[bM A]:A.mT=λa b=>min a b:=bM.mT
theorem Ar.aJZ(A:Ar)[bM A]:A.imax=λa b=>max a b:=bM.imax
theorem Ar.XJ(A:Ar)[bM A]:A.lW=λs=>(s.size:Int):=bM.lW
def Ar.iZF:Ar
 | .jt=>Sx.jt
 | .ix=>λo i n=>o+i.toNat*n
 | .off=>λa n=>a.add n
 | .aX=>Sx.aX
 | .aQ=>Sx.aQ
 | .lu=>Sx.lu
 | .uP=>Sx.uP
 | .not=>λb=> !b
 | .and=>λa b=>a&&b
 | .cat=>λa b=>a++b
 | .byte=>λs i=>((s.data.getD i.toNat 0).toNat:Int)
 | .sub=>λs l h=>s.extract l.toNat h.toNat
 | .conv=>λk n=>k.wrap n
 | .nat=>Int.ofNat
 | .CI=>λa=>a.isNone
 | .cut=>λa l m size=>if m=l then a else a.map (·.add (l.toNat*size))
 | .nR=>λh l=>(h-l).toNat
 | .mT=>λa b=>min a b
 | .imax=>λa b=>max a b
 | .lW=>λs=>(s.size:Int)
theorem Ar.ex:∃A:Ar,bM A:=⟨Ar.iZF,⟨rfl,rfl,rfl,rfl,rfl,rfl,rfl,rfl,rfl,rfl,rfl,rfl,rfl,rfl,rfl,rfl,rfl,rfl,rfl,rfl⟩⟩
inductive Kd where
 |none
 |gXe
 |bool
 |int (k:IntKind)
 |str
 |da (fs:List (Nat×Nat))
 |arr (n e:Nat)
 |rF (e:Nat)
 |mp (k e:Nat)
 |ptr (e:Nat)
 |fn
 |hZP
 deriving Inhabited
structure Ti where
 flat:Bool
 agg:Bool
 size:Nat
 bytes:Nat
 zero:List Value
 kd:Kd
def Ti.none:Ti:=⟨false,false,0,0,[],.none⟩
def qQ:TypeDesc->Kd
 | .bool=>.bool
 | .int k=>.int k
 | .string=>.str
 | .struct fs=>.da (fs.toList.map λf=>(f.type,f.offset))
 | .array n e=>.arr n e
 | .slice e=>.rF e
 | .map k e=>.mp k e
 | .pointer e=>.ptr e
 | .func .. =>.fn
 | .interface _=>.hZP
 |_=>.gXe
def Qy(P:Program)(t:TypeId):TypeDesc->Bool
 | .struct fs=> !P.eqGuardType P.depth t&& !P.stoodInHeld t&&(fs.toList.zipIdx.all λ(f,i)=>f.offset==i&&decide (f.name≠ "_")&&(match P.info? f.type,P.underlying f.type with
  |some i,some .bool|some i,some (.int _) |some i,some .string=>i.size==1
  |_,_=>false))
 |_=>false
def cQv(P:Program)(t:TypeId):Ti:=
 match P.info? t,P.underlying t with
 |some i,some d=>
  match i.zero with
  |some z=>⟨Qy P t d,match d with| .struct _| .array _ _=>true|_=>false,i.size,i.bytes,z.cells.toList,qQ d⟩
  |none=>.none
 |_,_=>.none
inductive yS where
 |done
 |aa (i:Nat) (rest:yS)
 |af (i:Nat) (pins:List Nat) (rest:yS)
 |fork (l r:yS)
 deriving Inhabited
inductive SV where
 |v (x:Value)
 |loc (s off:Nat)
 |u
 deriving Inhabited
structure bt where
 ty:Nat->Ti
 fn:Nat->Bool
 aw:Nat->yS
 bz:Nat->Bool
 iJz:Nat->Bool:=λ_=>false
 rs:List Nat:=[]
 kp:List PanicEntry->List SV->ad->Prop:=λ_ _ _=>False
structure il(P:Program)(T:bt):Prop where
 ty:∀t,T.ty t=cQv P t\/T.ty t=.none
 fn:∀f,T.fn f=true->∃fn,P.funcs[f]? =some fn/\fn.body.isSome=true/\fn.name≠ "runtime.NumGoroutine"
 mixed:P.follows .mixedOrders=true
abbrev Env:=List SV
abbrev Loc:=List (Nat×List Value)
def mM:Loc->Nat->Option (List Value)
 | [],_=>none
 | (s,c)::r,t=>if s=t then some c else mM r t
def vS:Loc->Nat->List Value->Loc
 | [],_,_=>[]
 | (s,c)::r,t,d=>if s=t then(s,d)::r else(s,c)::vS r t d
def rl(env:Env):Operand->SV
 | .tmp t=>env.getD t .u
 | .const v=>.v v
 | .global g=>.v (.zP g)
 | .func f=>.v (.func (.func f) #[] #[])
def qB:List SV->Option (List Value)
 | []=>some []
 | .v x::r=>match qB r with
  |some l=>some (x::l)
  |none=>none
 |_::_=>none
structure vI(p:Unit->Prop)(k:Unit->Prop):Prop where
 h:p ()
 out:k ()
def Pm(h:ad)(a:Addr)(n:Nat)(cs:List Value):Prop:=
 a.spot=none/\cs.length=n/\∃c e fr,h a.block=some (.cells c e fr)/\∀i,i<n->c[a.off+i]? =cs[i]?
structure Ai(h:ad)(a:Addr)(n:Nat)(k:List Value->Prop):Prop where
 out:∃cs,Pm h a n cs/\k cs
def QL:Bool->(Unit->Prop)->(Unit->Prop)->Prop
 |true,a,_=>a ()
 |false,_,b=>b ()
def takeN(c:List Value)(off n:Nat):Option (List Value):=
 if off+n<=c.length then some ((c.drop off).take n)else none
def iv(c:List Value)(off:Nat):List Value->List Value
 | []=>c
 |x::r=>iv (c.set off x) (off+1) r
structure uS(p:Unit->Program)(s:Unit->Sem Value)(k:Value->Prop):Prop where
 out:∃v,(∀w,(s ()).run (p ()) w=.ok v w)/\k v
structure fL(p:Unit->Program)(s:Unit->Sem Value)(h:ad)(k:Value->ad->Prop):Prop where
 out:∀w,Eo h w->∃v w' h',(s ()).run (p ()) w=.ok v w'/\k v h'/\cj h w h' w'
def Da(g:FuncId)(args:List Value):Sem Value:=do
 match <-callFunc g args.toArray with
 | .value v=>pure v
 |_=>stuck ""
def bQJ(A:Ar)(op:BinOp):Value->Value->Option Value
 | .int k a,.int k' b=>
  match op with
  | .add| .sub| .mul| .and| .or| .xor| .andNot=>if k=k' then some (.int k (A.aX op k a b))else none
  | .eql| .neq| .lss| .leq| .gtr| .geq=>if k=k' then some (.bool (A.aQ op a b))else none
  |_=>none
 | .string a,.string b=>
  match op with
  | .eql| .neq| .lss| .leq| .gtr| .geq=>some (.bool (A.lu op a b))
  |_=>none
 |_,_=>none
def NU(A:Ar)(op:BinOp)(a b:Value)(k:Value->Prop)(bQt:Unit->Prop):Prop:=
 match a with
 | .int ka x=>match b with
  | .int kb y=>match op with
   | .quo| .rem=>match decide (ka=kb)with
    |true=>vI (λ_=>y≠0) (λ_=>k (.int ka (A.aX op ka x y)))
    |false=>bQt ()
   | .shl| .shr=>vI (λ_=>0<=y) (λ_=>k (.int ka (A.aX op ka x y)))
   |_=>bQt ()
  |_=>bQt ()
 | .string x=>match b with
  | .string y=>match op with
   | .add=>vI (λ_=>((x.size+y.size:Nat):Int)<=2^62) (λ_=>k (.string (A.cat x y)))
   |_=>bQt ()
  |_=>bQt ()
 |_=>bQt ()
def one:Value->Bool
 | .agg _| .tuple _=>false
 |_=>true
def jL:List Value->Bool
 | []=>true
 |x::r=>match one x with
  |true=>jL r
  |false=>false
def GL(place:Nat->Option (Nat×Nat))(cells:List Value):List (Nat×Value)->Option (List Value)
 | []=>some cells
 | (i,v)::rest=>
  match place i with
  |none=>none
  |some (off,size)=>
   if v.cells.toList.length≠size||off+v.cells.toList.length>cells.length then none
   else GL place (iv cells off v.cells.toList) rest
def my(A:Ar)(ty:Nat->Ti):List (Nat×Nat)->List Value->List Value->Option Bool
 | [],[],[]=>some true
 | (t,_)::fs,x::r,y::q=>match (ty t).kd with
  | .int _=>match x with
   | .int k a=>match y with
    | .int k' b=>match decide (k=k')with
     |true=>match my A ty fs r q with
      |some t=>some (A.and (A.aQ .eql a b) t)
      |none=>none
     |false=>none
    |_=>none
   |_=>none
  | .str=>match x with
   | .string a=>match y with
    | .string b=>match my A ty fs r q with
     |some t=>some (A.and (A.lu .eql a b) t)
     |none=>none
    |_=>none
   |_=>none
  | .bool=>match x with
   | .bool a=>match y with
    | .bool b=>match my A ty fs r q with
     |some t=>some (A.and (A.uP .eql a b) t)
     |none=>none
    |_=>none
   |_=>none
  |_=>none
 |_,_,_=>none
def neg(A:Ar)(op:BinOp)(b:Bool):Option Value:=
 match op with
 | .eql=>some (.bool b)
 | .neq=>some (.bool (A.not b))
 |_=>none
def cJx(A:Ar)(ty:Nat->Ti)(i:Ti)(op:BinOp)(x y:Value):Option Value:=
 match i.kd with
 | .rF _=>match x with
  | .slice b _ _=>match y with
   | .slice none _ _=>neg A op (A.CI b)
   |_=>none
  |_=>none
 | .bool=>match x with
  | .bool a=>match y with
   | .bool b=>neg A op (A.uP .eql a b)
   |_=>none
  |_=>none
 | .da fs=>match i.flat with
  |true=>match x with
   | .agg a=>match y with
    | .agg b=>match my A ty fs a.toList b.toList with
     |some t=>neg A op t
     |none=>none
    |_=>none
   |_=>none
  |false=>none
 |_=>none
def po(ρ:Operand->SV):List (Nat×Operand)->Option (List (Nat×Value))
 | []=>some []
 | (i,x)::r=>match ρ x,po ρ r with
  | .v y,some l=>some ((i,y)::l)
  |_,_=>none
def Kd.isNone:Kd->Bool
 | .none=>true
 |_=>false
def placesOf(T:bt):List (Nat×Nat)->Option (List (Nat×Nat))
 | []=>some []
 | (t,off)::r=>match (T.ty t).kd.isNone,placesOf T r with
  |false,some l=>some ((off,(T.ty t).size)::l)
  |_,_=>none
def QK(T:bt)(zero:List Value)(ps:List (Nat×Value)):Kd->Option (List Value)
 | .da fs=>match placesOf T fs with
  |some l=>GL (λi=>l[i]?) zero ps
  |none=>none
 | .arr _ e=>match (T.ty e).kd.isNone with
  |false=>GL (λi=>some (i*(T.ty e).size,(T.ty e).size)) zero ps
  |true=>none
 |_=>none
def aZT(ρ:Operand->SV):Option Operand->Option (Option Int)
 |none=>some none
 |some x=>match ρ x with
  | .v (.int _ n)=>some (some n)
  |_=>none
def Cq(A:Ar)(b:Option Addr)(len cap size:Nat)(l hh m:Option Int)(k:Value->Prop):Prop:=
 match m with
 |none=>match hh with
  |none=>match l with
   |none=>k (.slice b len cap)
   |some l=>vI (λ_=>0<=l/\l<=(len:Int)) (λ_=>k (.slice (A.cut b l (A.nat cap) size) (A.nR (A.nat len) l) (A.nR (A.nat cap) l)))
  |some q=>match l with
   |none=>vI (λ_=>0<=q/\q<=(cap:Int)) (λ_=>k (.slice (A.cut b 0 (A.nat cap) size) (A.nR q 0) cap))
   |some l=>vI (λ_=>0<=q/\q<=(cap:Int)/\0<=l/\l<=q) (λ_=>k (.slice (A.cut b l (A.nat cap) size) (A.nR q l) (A.nR (A.nat cap) l)))
 |some m=>match hh with
  |none=>False
  |some q=>match l with
   |none=>vI (λ_=>0<=m/\m<=(cap:Int)/\0<=q/\q<=m) (λ_=>k (.slice (A.cut b 0 m size) (A.nR q 0) (A.nR m 0)))
   |some l=>vI (λ_=>0<=m/\m<=(cap:Int)/\0<=q/\q<=m/\0<=l/\l<=q) (λ_=>k (.slice (A.cut b l m size) (A.nR q l) (A.nR m l)))
def Fw(A:Ar)(s:ByteArray)(l hh:Option Int)(k:Value->Prop):Prop:=
 match hh with
 |none=>match l with
  |none=>k (.string s)
  |some l=>vI (λ_=>0<=l/\l<=(s.size:Int)) (λ_=>k (.string (A.sub s l (A.lW s))))
 |some q=>match l with
  |none=>vI (λ_=>0<=q/\q<=(s.size:Int)) (λ_=>k (.string (A.sub s 0 q)))
  |some l=>vI (λ_=>0<=q/\q<=(s.size:Int)/\0<=l/\l<=q) (λ_=>k (.string (A.sub s l q)))
def nv(T:bt)(o:Oper):Bool:=
 match o.op with
 | .convert s d _=>match (T.ty s).kd with
  | .rF _=>false
  | .ptr _=>false
  | .gXe=>false
  |_=>match (T.ty d).kd with
   | .rF _=>false
   |_=>true
 | .move _| .pick .. | .build .. | .load .. | .nilCheck _| .binOp .. | .unOp .. | .makeInterface .. | .makeFunc .. | .slice .. | .fieldAddr .. | .field .. | .indexAddr .. | .index .. | .extract .. | .typeAssert .. =>true
 | .alloc _| .box .. =>match o.dst with
  |some d=> !T.bz d
  |none=>false
 | .call { callee:=.builtin b, .. }=>match b with
  | .len| .cap| .min| .max=>true
  |_=>false
 |_=>false
def vA(agg:Bool)(cs:List Value)(k:Value->Prop):Prop:=
 match agg with
 |true=>k (.agg cs.toArray)
 |false=>match cs with
  |x::_=>k x
  | []=>False
def bZr(k:IntKind):Int:=if k.signed then -1 else k.max
def ki(A:Ar)(T:bt)(p:Unit->Program)(o:Oper)(ρ:Operand->SV)(L:Loc)(h:ad)(k:SV->Option (List Value)->Prop):Prop:=
 match o.op with
 | .move x=>k (ρ x) none
 | .pick c a b=>match ρ c with
  | .v (.bool true)=>k (ρ a) none
  | .v (.bool false)=>k (ρ b) none
  |_=>False
 | .alloc e=>match (T.ty e).kd.isNone with
  |true=>False
  |false=>match o.dst with
   |none=>False
   |some d=>match mM L d with
    |none=>k (.loc d 0) (some (T.ty e).zero)
    |some _=>False
 | .box _ x=>match o.dst with
  |none=>False
  |some d=>match ρ x with
   | .v v=>match mM L d with
    |none=>k (.loc d 0) (some v.cells.toList)
    |some _=>False
   |_=>False
 | .load t a=>match (T.ty t).kd.isNone with
  |true=>False
  |false=>match ρ a with
   | .loc s off=>match mM L s with
    |some c=>match takeN c off (T.ty t).size with
     |some cs=>vA (T.ty t).agg cs (λx=>k (.v x) none)
     |none=>False
    |none=>False
   | .v (.pointer (some x))=>Ai h x (T.ty t).size (λcs=>vA (T.ty t).agg cs (λx=>k (.v x) none))
   |_=>False
 | .nilCheck x=>match ρ x with
  | .loc s off=>k (.loc s off) none
  | .v (.pointer (some a))=>k (.v (.pointer (some a))) none
  |_=>False
 | .fieldAddr t x f=>match (T.ty t).kd with
  | .da fs=>match fs[f]? with
   |some (ft,off)=>match (T.ty ft).kd.isNone with
    |true=>False
    |false=>match (T.ty ft).size with
     |0=>False
     |_+1=>match ρ x with
      | .loc s o=>k (.loc s (o+off)) none
      | .v (.pointer (some a))=>k (.v (.pointer (some (A.off a off)))) none
      |_=>False
   |none=>False
  |_=>False
 | .indexAddr t x i=>match ρ i with
  | .v (.int _ n)=>match (T.ty t).kd with
   | .rF e=>match (T.ty e).kd.isNone with
    |true=>False
    |false=>match ρ x with
     | .v (.slice b len _)=>vI (λ_=>b.isSome=true/\0<=n/\n<(len:Int)) (λ_=>k (.v (.pointer (some (A.jt b n (T.ty e).size)))) none)
     |_=>False
   | .arr m e=>match (T.ty e).kd.isNone with
    |true=>False
    |false=>match ρ x with
     | .loc s off=>vI (λ_=>0<=n/\n<(m:Int)) (λ_=>k (.loc s (A.ix off n (T.ty e).size)) none)
     | .v (.pointer (some a))=>vI (λ_=>0<=n/\n<(m:Int)) (λ_=>k (.v (.pointer (some (A.jt (some a) n (T.ty e).size)))) none)
     |_=>False
   |_=>False
  |_=>False
 | .index t x i=>match ρ i with
  | .v (.int _ n)=>match (T.ty t).kd with
   | .str=>match ρ x with
    | .v (.string s)=>vI (λ_=>0<=n/\n<(s.size:Int)) (λ_=>k (.v (.int .u8 (A.byte s n))) none)
    |_=>False
   |_=>False
  |_=>False
 | .field t x f=>match (T.ty t).kd with
  | .da fs=>match fs[f]? with
   |some (ft,off)=>match (T.ty ft).kd.isNone with
    |true=>False
    |false=>match ρ x with
     | .v (.agg cs)=>match takeN cs.toList off (T.ty ft).size with
      |some ds=>vA (T.ty ft).agg ds (λx=>k (.v x) none)
      |none=>False
     |_=>False
   |none=>False
  |_=>False
 | .extract x i=>match ρ x with
  | .v (.tuple vs)=>match vs.toList[i]? with
   |some v=>k (.v v) none
   |none=>False
  |_=>False
 | .build t parts=>match (T.ty t).kd.isNone with
  |true=>False
  |false=>match po ρ parts.toList with
   |some ps=>match QK T (T.ty t).zero ps (T.ty t).kd with
    |some cs=>k (.v (.agg cs.toArray)) none
    |none=>False
   |none=>False
 | .binOp op t x y _=>match ρ x with
  | .v a=>match ρ y with
   | .v b=>match bQJ A op a b with
    |some r=>k (.v r) none
    |none=>match cJx A T.ty (T.ty t) op a b with
     |some r=>k (.v r) none
     |none=>NU A op a b (λr=>k (.v r) none) (λ_=>uS p (λ_=>do eqGuard op t x y a b;binOp op t a b) (λr=>k (.v r) none))
   |_=>False
  |_=>False
 | .unOp op _ x=>match ρ x with
  | .v (.bool b)=>match op with
   | .not=>k (.v (.bool (A.not b))) none
   |_=>False
  | .v (.int kd n)=>match op with
   | .neg=>k (.v (.int kd (A.aX .sub kd 0 n))) none
   | .xor=>k (.v (.int kd (A.aX .xor kd (bZr kd) n))) none
   |_=>False
  |_=>False
 | .convert src dst x=>match ρ x with
  | .v (.int j n)=>match (T.ty dst).kd with
   | .int kd=>match (T.ty src).kd with
    | .int _=>k (.v (.int kd (A.conv kd n))) none
    |_=>False
   |_=>uS p (λ_=>Go.convert src dst (.int j n)) (λr=>k (.v r) none)
  | .v a=>uS p (λ_=>Go.convert src dst a) (λr=>k (.v r) none)
  |_=>False
 | .makeInterface t x=>match (T.ty t).kd with
  | .hZP=>False
  | .none=>False
  |_=>match ρ x with
   | .v v=>k (.v (.iface t v)) none
   |_=>False
 | .makeFunc fn f c=>match qB (f.toList.map ρ)with
  |some fs=>match qB (c.toList.map ρ)with
   |some cs=>k (.v (.func fn fs.toArray cs.toArray)) none
   |none=>False
  |none=>False
 | .slice t x lo hi mx=>match aZT ρ lo,aZT ρ hi,aZT ρ mx with
  |some l,some hh,some m=>match (T.ty t).kd with
   | .rF e=>match (T.ty e).kd.isNone with
    |true=>False
    |false=>match ρ x with
     | .v (.slice b len cap)=>Cq A b len cap (T.ty e).size l hh m (λr=>k (.v r) none)
     |_=>False
   | .arr q e=>match (T.ty e).kd.isNone with
    |true=>False
    |false=>match ρ x with
     | .v (.pointer (some a))=>Cq A (some a) q q (T.ty e).size l hh m (λr=>k (.v r) none)
     |_=>False
   | .str=>match ρ x with
    | .v (.string s)=>match m with
     |none=>Fw A s l hh (λr=>k (.v r) none)
     |some _=>False
    |_=>False
   |_=>False
  |_,_,_=>False
 | .call { callee:=.builtin b,args,argTypes }=>match b with
  | .len=>match argTypes[0]? with
   |some t=>match qB (args.toList.map ρ)with
    |some [.slice _ n _]=>match (T.ty t).kd with
     | .rF _=>k (.v (.zI (A.nat n))) none
     |_=>False
    |some [.string s]=>match (T.ty t).kd with
     | .str=>k (.v (.zI (A.lW s))) none
     |_=>False
    |_=>False
   |none=>False
  | .cap=>match argTypes[0]? with
   |some t=>match qB (args.toList.map ρ)with
    |some [.slice _ _ n]=>match (T.ty t).kd with
     | .rF _=>k (.v (.zI (A.nat n))) none
     |_=>False
    |_=>False
   |none=>False
  | .min=>match qB (args.toList.map ρ)with
   |some [.int kd a,.int _ b]=>k (.v (.int kd (A.mT a b))) none
   |_=>False
  | .max=>match qB (args.toList.map ρ)with
   |some [.int kd a,.int _ b]=>k (.v (.int kd (A.imax a b))) none
   |_=>False
  |_=>False
 | .typeAssert x q as ok=>match ρ x with
  | .v a=>uS p (λ_=>Instr.typeAssert a q as ok) (λr=>k (.v r) none)
  |_=>False
 |_=>False
structure Hy(h:ad)(a:Addr)(cs:List Value)(k:ad->Prop):Prop where
 out:∃c e fr,a.spot=none/\h a.block=some (.cells c e fr)/\a.off+cs.length<=c.size/\(∀i,i<cs.length->¬(fr.1<=a.off+i/\a.off+i<fr.2))/\
  ∀h',h'=bO h a.block (.cells (iv c.toList a.off cs).toArray e fr)->k h'
def bZg(h:ad)(b:Option Addr)(n:Nat)(cs:List Value):Prop:=
 (n=0/\cs=[])\/∃a,b=some a/\Pm h a n cs
def yQ(h:ad)(b:Option Addr)(cs:List Value)(k:ad->Prop):Prop:=
 (cs=[]/\k h)\/∃a,b=some a/\Hy h a cs k
def iT(n:Nat)(z:List Value):List Value:=(List.replicate n z).flatten
def vZ(s:ByteArray):List Value:=s.data.toList.map λb=>.int .u8 b.toNat
structure uW(h:ad)(b:Option Addr)(len cap n size bytes e:Nat)(new:List Value)(k:Value->ad->Prop):Prop where
 one:jL new=true
 fits:len+n<=cap->yQ h (b.map (·.add (len*size))) new (λh'=>k (.slice b (len+n) cap) h')
 bJg:cap<len+n->2*(len+n)*bytes<=2^48/\len+n<=2^48/\∃YH,bZg h b (len*size) YH/\
  ∀nb c h' rest,h nb=none->len+n<=c->rest.length=(c-(len+n))*size->h'=bO h nb (.cells (YH++new++rest).toArray e (0,0))->k (.slice (zsA nb) (len+n) c) h'
structure bJT(h:ad)(b:Option Addr)(len cap n size bytes e:Nat)(z:List Value)(k:Value->ad->Prop):Prop where
 out:uW h b len cap n size bytes e (iT n z) k
structure iF(h:ad)(b:Option Addr)(len cap:Nat)(x:Option Addr)(n size bytes e:Nat)(k:Value->ad->Prop):Prop where
 out:∃new,bZg h x (n*size) new/\uW h b len cap n size bytes e new k
structure rk(h:ad)(e:Nat)(l c:Int)(bytes:Nat)(z:List Value)(k:Value->ad->Prop):Prop where
 len:0<=l/\l<=c
 room:c<=2^48/\(bytes:Int)*c<=2^48
 out:∀nb h',h nb=none->h'=bO h nb (.cells (iT c.toNat z).toArray e (0,0))->k (.slice (zsA nb) l.toNat c.toNat) h'
structure zy(h:ad)(b:Option Addr)(len:Nat)(x:Option Addr)(n size:Nat)(k:Value->ad->Prop):Prop where
 out:∃cs,bZg h x (min n len*size) cs/\jL cs=true/\yQ h b cs (λh'=>k (.zI ((min n len:Nat):Int)) h')
structure Aj(h:ad)(b:Option Addr)(len:Nat)(z:List Value)(k:ad->Prop):Prop where
 one:jL z=true
 out:yQ h b (iT len z) k
def hx(A:Ar)(T:bt)(p:Unit->Program)(o:Oper)(ρ:Operand->SV)(L:Loc)(h:ad)(k:SV->Loc->ad->Prop):Prop:=
 match o.op with
 | .assign x=>k (ρ x) L h
 | .store t a x=>match (T.ty t).kd.isNone with
  |true=>False
  |false=>match ρ x with
   | .v v=>match v.cells.toList.length==(T.ty t).size with
    |false=>False
    |true=>match jL v.cells.toList with
     |false=>False
     |true=>match ρ a with
      | .loc s off=>match mM L s with
       |some c=>match decide (off+v.cells.toList.length<=c.length)with
        |true=>k (.v undef) (vS L s (iv c off v.cells.toList)) h
        |false=>False
       |none=>False
      | .v (.pointer (some y))=>Hy h y v.cells.toList (λh'=>k (.v undef) L h')
      |_=>False
   |_=>False
 | .alloc e=>match (T.ty e).kd.isNone with
  |true=>False
  |false=>∀n h',h n=none->h'=bO h n (.cells (T.ty e).zero.toArray e (0,0))->k (.v (.zP n)) L h'
 | .box e x=>match ρ x with
  | .v v=>∀n h',h n=none->h'=bO h n (.cells v.cells e (0,0))->k (.v (.zP n)) L h'
  |_=>False
 | .buildSlice t len parts=>match (T.ty t).kd with
  | .rF e=>match (T.ty e).kd.isNone with
   |true=>False
   |false=>match po ρ parts.toList with
    |some ps=>match decide (len*(T.ty e).size<=2^24),(T.ty e).zero.length==(T.ty e).size with
     |true,true=>match GL (λi=>some (i*(T.ty e).size,(T.ty e).size)) (iT len (T.ty e).zero) ps with
      |some cs=>∀n h',h n=none->h'=bO h n (.cells cs.toArray e (0,0))->k (.v (.slice (zsA n) len len)) L h'
      |none=>False
     |_,_=>False
    |none=>False
  |_=>False
 | .makeSlice t l c=>match (T.ty t).kd with
  | .rF e=>match (T.ty e).kd.isNone with
   |true=>False
   |false=>match ρ l with
    | .v (.int _ l)=>match ρ c with
     | .v (.int _ c)=>match (T.ty e).zero.length==(T.ty e).size with
      |true=>rk h e l c (T.ty e).bytes (T.ty e).zero (λx h'=>k (.v x) L h')
      |false=>False
     |_=>False
    |_=>False
  |_=>False
 | .makeMap t r=>match r with
  |none=>∀n h',h n=none->h'=bO h n (.map #[] 0)->k (.v (.map (some n))) L h'
  |some _=>False
 | .call { callee:=.value f,args, .. }=>match ρ f with
  | .v (.func (.func g) first cap)=>match qB (args.toList.map ρ)with
   |some as=>match T.fn g with
    |true=>match T.iJz g with
     |true=>Wg p g (first.toList++as++cap.toList) h (λr h'=>k (.v r) L h') (λc h'=>T.kp c (T.rs.map λt=>ρ (.tmp t)) h')
     |false=>Hl p g (first.toList++as++cap.toList) h (λr h'=>k (.v r) L h')
    |false=>fL p (λ_=>Da g (first.toList++as++cap.toList)) h (λr h'=>k (.v r) L h')
   |none=>False
  | .v (.func (.yield l) first _)=>match qB (args.toList.map ρ)with
   |some as=>bQX p l (first.toList++as) h (λr h'=>k (.v r) L h')
   |none=>False
  |_=>False
 | .call { callee:=.builtin b,args,argTypes }=>match b with
  | .append=>match argTypes[0]?,argTypes[1]? with
   |some t,some u=>match (T.ty t).kd with
    | .rF e=>match (T.ty e).kd.isNone with
     |true=>False
     |false=>match (T.ty e).zero.length==(T.ty e).size with
      |false=>False
      |true=>match qB (args.toList.map ρ)with
       |some [.slice b len cap,.slice x n _]=>match (T.ty u).kd with
        | .rF _=>iF h b len cap x n (T.ty e).size (T.ty e).bytes e (λv h'=>k (.v v) L h')
        |_=>False
       |some [.slice b len cap,.string s]=>match (T.ty u).kd with
        | .str=>uW h b len cap s.size (T.ty e).size (T.ty e).bytes e (vZ s) (λv h'=>k (.v v) L h')
        |_=>False
       |some [.slice b len cap,.int _ n]=>match (T.ty u).kd with
        | .int _=>vI (λ_=>0<=n/\n<=2^48/\n*(T.ty e).bytes<=2^48) (λ_=>bJT h b len cap (A.nR n 0) (T.ty e).size (T.ty e).bytes e (T.ty e).zero (λv h'=>k (.v v) L h'))
        |_=>False
       |_=>False
    |_=>False
   |_,_=>False
  | .copy=>match argTypes[0]? with
   |some t=>match (T.ty t).kd with
    | .rF e=>match (T.ty e).kd.isNone with
     |true=>False
     |false=>match qB (args.toList.map ρ)with
      |some [.slice b len _,.slice x n _]=>zy h b len x n (T.ty e).size (λv h'=>k (.v v) L h')
      |_=>False
    |_=>False
   |none=>False
  | .clear=>match argTypes[0]? with
   |some t=>match (T.ty t).kd with
    | .rF e=>match (T.ty e).kd.isNone with
     |true=>False
     |false=>match (T.ty e).zero.length==(T.ty e).size with
      |false=>False
      |true=>match qB (args.toList.map ρ)with
       |some [.slice b len _]=>Aj h b len (T.ty e).zero (λh'=>k (.v (.tuple #[])) L h')
       |_=>False
    |_=>False
   |none=>False
  | .delete=>match qB (args.toList.map ρ)with
   |some as=>fL p (λ_=>Builtin.delete_ argTypes o.type as.toArray) h (λr h'=>k (.v r) L h')
   |none=>False
  |_=>False
 | .convert src dst x=>match ρ x with
  | .v a=>fL p (λ_=>Go.convert src dst a) h (λr h'=>k (.v r) L h')
  |_=>False
 | .lookup t x i ok=>match ρ x with
  | .v a=>match ρ i with
   | .v b=>fL p (λ_=>Instr.lookup t a b ok) h (λr h'=>k (.v r) L h')
   |_=>False
  |_=>False
 | .mapUpdate t m i x=>match ρ m with
  | .v a=>match ρ i with
   | .v b=>match ρ x with
    | .v c=>fL p (λ_=>do Instr.mapUpdate t a b c;pure undef) h (λ_ h'=>k (.v undef) L h')
    |_=>False
   |_=>False
  |_=>False
 | .mapEntry t m i=>match ρ m with
  | .v a=>match ρ i with
   | .v b=>fL p (λ_=>Instr.mapEntry t a b) h (λr h'=>k (.v r) L h')
   |_=>False
  |_=>False
 | .entryStore t m i x=>match ρ m with
  | .v a=>match ρ i with
   | .v b=>match ρ x with
    | .v c=>fL p (λ_=>do Instr.entryStore t a b c;pure undef) h (λ_ h'=>k (.v undef) L h')
    |_=>False
   |_=>False
  |_=>False
 | .range t x=>match ρ x with
  | .v a=>fL p (λ_=>Instr.range t a) h (λr h'=>k (.v r) L h')
  |_=>False
 | .next it str=>match ρ it with
  | .v a=>fL p (λ_=>Instr.next a str o.type) h (λr h'=>k (.v r) L h')
  |_=>False
 | .entry it=>match ρ it with
  | .v a=>fL p (λ_=>Instr.entry a) h (λr h'=>k (.v r) L h')
  |_=>False
 | .insert t m i x=>match ρ m with
  | .v a=>match ρ i with
   | .v b=>match ρ x with
    | .v c=>fL p (λ_=>do Instr.mapUpdate t a b c;pure undef) h (λ_ h'=>k (.v undef) L h')
    |_=>False
   |_=>False
  |_=>False
 | .panic x=>match ρ x with
  | .v (.iface t v)=>T.kp [{ v:=.iface t v,recovered:=false }] (T.rs.map λt=>ρ (.tmp t)) h
  |_=>False
 |_=>False
def put(env:Env)(d:Option Nat)(x:SV):Env:=
 match d with
 |some t=>env.set t x
 |none=>env
def eZ(L:Loc)(d:Option Nat)(nb:Option (List Value)):Loc:=
 match d,nb with
 |some t,some c=>(t,c)::L
 |_,_=>L
def gd(ops:List Oper)(env:Env)(o:Oper)(yes no:Unit->Prop):Prop:=
 match o.guard with
 |none=>yes ()
 |some (j,want)=>match ops[j]? with
  |some oj=>match oj.dst with
   |some d=>match env.getD d .u with
    | .v (.bool b)=>match want with
     |true=>QL b yes no
     |false=>QL b no yes
    | .v (.tuple _)=>no ()
    |_=>False
   |none=>no ()
  |none=>no ()
def Fq(A:Ar)(T:bt)(p:Unit->Program)(all:List Oper)(K:Env->Loc->ad->Prop):List Oper->Env->Loc->ad->Prop
 | [],env,L,h=>K env L h
 |o::rest,env,L,h=>
  gd all env o
   (λ_=>match nv T o with
    |true=>ki A T p o (rl env) L h (λx nb=>Fq A T p all K rest (put env o.dst x) (eZ L o.dst nb) h)
    |false=>hx A T p o (rl env) L h (λx L' h'=>Fq A T p all K rest (put env o.dst x) L' h'))
   (λ_=>Fq A T p all K rest (put env o.dst (.v undef)) L h)
def IC(T:bt)(strict:Bool)(h:ad)(L:Loc)(env:Env)(o:Oper)(rest:Unit->Prop):Prop:=
 match o.op with
 | .load t a=>match rl env a with
  | .v (.pointer (some x))=>Ai h x (T.ty t).size (λcs=>vA (T.ty t).agg cs (λx=>vI (λ_=>∃d,o.dst=some d/\env[d]? =some (.v x)) rest))
  | .loc s off=>match strict with
   |false=>rest ()
   |true=>match mM L s with
    |some c=>match takeN c off (T.ty t).size with
     |some cs=>vA (T.ty t).agg cs (λx=>vI (λ_=>∃d,o.dst=some d/\env[d]? =some (.v x)) rest)
     |none=>False
    |none=>False
  |_=>False
 |_=>rest ()
def pins(T:bt)(strict:Bool)(all:List Oper)(h:ad)(L:Loc)(env:Env):List Nat->(Unit->Prop)->Prop
 | [],k=>k ()
 |i::r,k=>match all[i]? with
  |some o=>gd all env o (λ_=>IC T strict h L env o (λ_=>pins T strict all h L env r k)) (λ_=>pins T strict all h L env r k)
  |none=>False
def ia(o:Oper):Bool:=match o.op with
 | .store .. =>true
 |_=>false
def kV(A:Ar)(T:bt)(p:Unit->Program)(all:List Oper)(K:Env->Loc->ad->Prop):yS->Env->Loc->ad->Prop
 | .done,env,L,h=>K env L h
 | .aa i rest,env,L,h=>match all[i]? with
  |some o=>gd all env o
   (λ_=>ki A T p o (rl env) L h (λx nb=>kV A T p all K rest (put env o.dst x) (eZ L o.dst nb) h))
   (λ_=>kV A T p all K rest (put env o.dst (.v undef)) L h)
  |none=>False
 | .af i pn rest,env,L,h=>match all[i]? with
  |some o=>gd all env o
   (λ_=>hx A T p o (rl env) L h (λx L' h'=>pins T (ia o) all h' L' (put env o.dst x) pn (λ_=>kV A T p all K rest (put env o.dst x) L' h')))
   (λ_=>kV A T p all K rest (put env o.dst (.v undef)) L h)
  |none=>False
 | .fork l r,env,L,h=>kV A T p all K l env L h/\kV A T p all K r env L h
inductive Ex where
 |normal
 |exit (id:Nat)
 |ret
def wk:Env->Env->Prop
 | [],[]=>True
 |x::r,y::q=>match y with
  | .u=>wk r q
  | .v b=>x=.v b/\wk r q
  | .loc s o=>x=.loc s o/\wk r q
 |_,_=>False
def aJO(L:Loc):Loc->Prop
 | []=>True
 | (s,c)::r=>mM L s=some c/\aJO L r
def dZu(L:Loc):Env->Prop
 | []=>True
 |x::r=>match x with
  | .loc s _=>(mM L s).isSome=true/\dZu L r
  |_=>dZu L r
structure Wk(env:Env)(L:Loc)(jP:Env)(L1:Loc):Prop where
 env:wk env jP
 loc:aJO L L1
 ok:dZu L1 jP
def WU:List Oper->List Nat
 | []=>[]
 |o::r=>match o.dst with
  |some d=>d::WU r
  |none=>WU r
def wr:Code->List Nat
 | .region _ ops _=>WU ops.toList
 | .seq a b| .cond _ a b=>wr a++wr b
 | .block _ c| .loop c| .scope c=>wr c
 |_=>[]
structure ba(ws:List Nat)(body:(Ex->Env->Loc->ad->Prop)->Env->Loc->ad->Prop)(K:Ex->Env->Loc->ad->Prop)(env:Env)(L:Loc)(h:ad):Prop where
 out:∃(I:Nat->Env->Loc->ad->Prop) (n:Nat),(∃jP L1,Wk env L jP L1/\I n jP L1 h)/\
  ∀n env L h,I n env L h->body (λe cY L' h'=>match e with
   | .normal=>∃m jP L1,m<n/\Wk cY L' jP L1/\I m jP L1 h'
   |e=>K e cY L' h') env L h
def sx(A:Ar)(T:bt)(p:Unit->Program):Code->(Ex->Env->Loc->ad->Prop)->Env->Loc->ad->Prop
 | .skip,K,env,L,h=>K .normal env L h
 | .region id ops draw,K,env,L,h=>match draw with
  |false=>Fq A T p ops.toList (λenv L h=>K .normal env L h) ops.toList env L h
  |true=>kV A T p ops.toList (λenv L h=>K .normal env L h) (T.aw id) env L h
 | .seq a b,K,env,L,h=>sx A T p a (λe env L h=>match e with
  | .normal=>sx A T p b K env L h
  |e=>K e env L h) env L h
 | .cond c a b,K,env,L,h=>match rl env c with
  | .v (.bool t)=>QL t (λ_=>sx A T p a K env L h) (λ_=>sx A T p b K env L h)
  |_=>False
 | .block id c,K,env,L,h=>sx A T p c (λe env L h=>match e with
  | .exit j=>if j=id then K .normal env L h else K (.exit j) env L h
  |e=>K e env L h) env L h
 | .loop c,K,env,L,h=>ba (wr c) (λK' env L h=>sx A T p c K' env L h) K env L h
 | .exit id,K,env,L,h=>K (.exit id) env L h
 | .ret,K,env,L,h=>K .ret env L h
 | .scope c,K,env,L,h=>sx A T p c K env L h
 | .label _,K,env,L,h=>K .normal env L h
 |_,_,_,_,_=>False
def bKH(T:bt)(env:Env)(L:Loc)(h:ad):ResultVar->(Value->Prop)->Prop
 | .tmp t,k=>match env.getD t .u with
  | .v x=>k x
  |_=>False
 | .cell a t,k=>match (T.ty t).kd,env.getD a .u with
  | .none,_=>False
  |_,.loc s off=>match mM L s with
   |some c=>match takeN c off (T.ty t).size with
    |some cs=>vA (T.ty t).agg cs k
    |none=>False
   |none=>False
  |_,.v (.pointer (some x))=>Ai h x (T.ty t).size (λcs=>vA (T.ty t).agg cs k)
  |_,_=>False
def AS(T:bt)(env:Env)(L:Loc)(h:ad):List ResultVar->(List Value->Prop)->Prop
 | [],k=>k []
 |r::rs,k=>bKH T env L h r (λx=>AS T env L h rs (λxs=>k (x::xs)))
def tF(l:List Value)(k:Value->Prop):Prop:=match l with
 | [x]=>k x
 |l=>k (.tuple l.toArray)
def dXq(A:Ar)(T:bt)(p:Unit->Program)(c:Code)(ntmps:Nat)(rs:List ResultVar)(args:List Value)(h:ad)(R:Value->ad->Prop):Prop:=
 sx A T p c (λe env L h=>match e with
  | .exit _=>False
  |_=>AS T env L h rs (λl=>tF l (λv=>R v h))) (args.map SV.v++List.replicate (ntmps-args.length) (.v undef)) [] h
variable {P:Program}{T:bt}{A:Ar}[bM A]
structure cJX(w w':World):Prop where
 os:w'.os=w.os
 tape:w'.tape=w.tape
 output:w'.output=w.output
theorem cj.refl{h:ad}{w:World}(a:Eo h w):cj h w h w:=
 ⟨rfl,rfl,rfl,qA _,a,λ_ _ b=>⟨rfl,b⟩⟩
theorem cj.trans{h c d:ad}{w f g:World}(a:cj h w c f)(b:cj c f d g):cj h w d g:=
 ⟨b.os.trans a.os,b.tape.trans a.tape,b.output.trans a.output,kXj a.size b.size,b.EP,λk e n=>
  have x:=a.frame k e n;have y:=b.frame k (Nat.lt_of_lt_of_le e a.size) x.2
  ⟨y.1.trans x.1,y.2⟩⟩
theorem Eo.oG{h:ad}{w:World}(a:Eo h w){b:Nat}(d:w.heap.size<=b):h b=none:=by
 cases c:h b with
 |none=>rfl
 |some o=>have:=a b o c;simp_all
theorem Fn.mono{h:ad}{R a:Value->ad->Prop}(x:Fn P f args h R)(r:∀v h',R v h'->a v h'):Fn P f args h a:=
 λw c=>(x w c).mono λe w' ⟨v,h',he,hR,b⟩=>⟨v,h',he,r _ _ hR,b⟩
theorem Wg.mono{h:ad}{R b:Value->ad->Prop}{K a:List PanicEntry->ad->Prop}(x:Wg p f args h R K)(r:∀v h',R v h'->b v h')(k:∀c h',K c h'->a c h'):Wg p f args h b a:=
 ⟨λw d=>(x.out w d).mono λe w' q=>by
  grind⟩
theorem Hl.mono{h:ad}{R a:Value->ad->Prop}(x:Hl p f args h R)(r:∀v h',R v h'->a v h'):Hl p f args h a:=
 ⟨x.out.mono r⟩
structure BQ(P:Program)(t:TypeId)(i:Ti):Prop where
 ex:∃ti d z,P.info? t=some ti/\P.underlying t=some d/\ti.zero=some z/\
  i.agg=(match d with| .struct _| .array _ _=>true|_=>false)/\i.size=ti.size/\i.bytes=ti.bytes/\i.zero=z.cells.toList/\i.kd=qQ d/\i.flat=Qy P t d
theorem iG(b:il P T){t:TypeId}(h:(T.ty t).kd≠.none):BQ P t (T.ty t):=by
 rcases b.ty t with e|e
 .rw[e]at h |-;unfold cQv at h |-;cases i:P.info? t with
  |none=>simp[i,Ti.none]at h
  |some a=>
   cases hu:P.underlying t with
   |none=>simp[i,hu,Ti.none]at h
   |some d=>
    cases c:a.zero with
    |none=>simp[i,hu,c,Ti.none]at h
    |some z=>
     refine⟨a,d,z,?_⟩
     grind
 rw[e]at h;exact absurd rfl h
theorem BQ.Mb{t:TypeId}{i:Ti}(h:BQ P t i)(w:World):∃a,(typeInfo t).run P w=.ok a w/\i.size=a.size/\i.bytes=a.bytes:=by obtain⟨a,d,z,b,-,-,-,c,e,-,-,-⟩:=h.ex;exact⟨a,by simp[typeInfo,b],c,e⟩
theorem BQ.gV{t:TypeId}{i:Ti}(h:BQ P t i)(w:World):(sizeOf t).run P w=.ok i.size w:=by obtain⟨c,a,b,-⟩:=h.Mb w;simp[sizeOf,a,b]
theorem BQ.cZ{t:TypeId}{i:Ti}(h:BQ P t i)(w:World):∃d,(underlying t).run P w=.ok d w/\P.underlying t=some d/\i.kd=qQ d/\
 i.agg=(match d with| .struct _| .array _ _=>true|_=>false):=by
 obtain⟨e,d,z,-,a,-,b,-,-,-,c,-⟩:=h.ex;exact⟨d,by simp[underlying,a],a,c,b⟩
theorem BQ.Ix{t:TypeId}{i:Ti}(h:BQ P t i)(w:World):(isAgg t).run P w=.ok i.agg w:=by obtain⟨d,a,-,-,b⟩:=h.cZ w;unfold isAgg;rw[kKm,a,b];cases d<;>rfl
theorem BQ.qF{t:TypeId}{i:Ti}(h:BQ P t i)(w:World):∃z,(zeroValue t).run P w=.ok z w/\z.cells.toList=i.zero:=by obtain⟨e,d,z,a,-,b,-,-,-,c,-,-⟩:=h.ex;exact⟨z,by simp[zeroValue,typeInfo,a,b],c.symm⟩
theorem cQ(b o n:Nat):(⟨b,o,none⟩:Addr).add n=⟨b,o+n,none⟩:=by unfold Addr.add;simp_all
theorem Te{w:World}{b o:Nat}{c:Array Value}{e:TypeId}(h:w.heap[b]? =some (.cells c e fr)):w.cell? ⟨b,o,none⟩=c[o]? :=by simp[World.cell?,h]
theorem rV{t:TypeId}{i:Ti}(d:BQ P t i)(w:World)(b o:Nat)(cs:List Value)(hl:cs.length=i.size)
 (c:∀j,j<cs.length->w.cell? ⟨b,o+j,none⟩=cs[j]?)  (h:vA i.agg cs k):
 ∃v,(loadVar t ⟨b,o,none⟩).run P w=.ok v w/\k v:=by
 unfold loadVar;rw[kKm,d.Ix];unfold vA at h;cases a:i.agg with
 |true=>
  simp only[a]at h;refine⟨_,?_,h⟩;have:=run_loadCells_list (P:=P) w ⟨b,o,none⟩ cs (λj v e=>by
   rw[cQ,c j gg,e])
  simp[d.gV,<-hl,this]
 |false=>
  simp only[a]at h;cases cs with
  |nil=>exact h.elim
  |cons x r=>refine⟨x,?_,h⟩;have:=c 0 io;simp only[vy,iz]at this;simp[this]
theorem Pm.cell{h:ad}{w:World}(g:Eo h w){a:Addr}{n:Nat}(r:Pm h a n cs):
 a.spot=none/\cs.length=n/\∀j,j<cs.length->w.cell? ⟨a.block,a.off+j,none⟩=cs[j]? :=by
 obtain⟨b,d,c,e,fr,f,i⟩:=r;refine⟨b,d,λj k=>?_⟩;rw[Te (g _ _ f)];simp_all
theorem cQo{v:Value}(h:one v=true)(a:Addr)(m:Mode)(w:World){c:Array Value}{e:TypeId}(s:a.spot=none)
 (b:w.heap[a.block]? =some (.cells c e fr)) (o:a.off<c.size) (f:¬(fr.1<=a.off/\a.off<fr.2)):
 (store a v m).run P w=.ok () (w.setCell a v):=by
 have d:w.cell? a=some c[a.off]:=by simp[World.cell?,b,s,o]
 have z:w.frozen? a=false:=by obtain⟨l,i⟩:=fr;simp only[World.frozen?,b];simp_all
 cases v<;>first
  | (simp[one]at h;done)
  | (simp only[store,Sem.run,d,z];rfl)
theorem fE(c:List Value)(o:Nat)(s:List Value):(iv c o s).length=c.length:=by
 induction s generalizing c o with
 |nil=>rfl
 |cons v r i=>simp[iv,i]
theorem qG{b o:Nat}{e:TypeId}:∀(s:List Value) (i:Nat) (c:Array Value) (w:World),
 w.heap[b]? =some (.cells c e fr)->o+i+s.length<=c.size->(∀j,j<s.length->¬(fr.1<=o+i+j/\o+i+j<fr.2))->jL s=true->
 ∃w',(storeCells ⟨b,o,none⟩ s i).run P w=.ok () w'/\w'.heap[b]? =some (.cells (iv c.toList (o+i) s).toArray e fr)/\
  (∀a,a≠b->w'.heap[a]? =w.heap[a]?)/\w'.heap.size=w.heap.size/\cJX w w'
 | [],i,c,w,h,_,_,_=>⟨w,rfl,by simp[iv,h],λ_ _=>rfl,rfl,rfl,rfl,rfl⟩
 |v::r,i,c,w,h,hl,f,p=>by
  simp only[kZs]at hl f;have m:one v=true:=by
   grind [jL]
  have n:jL r=true:=by
   grind [jL]
  have g:=cQo (P:=P) m ⟨b,o+i,none⟩ .plain w rfl h gg (by simpa using f 0 ip);have B:(w.setCell ⟨b,o+i,none⟩ v).heap[b]? =some (.cells (c.setIfInBounds (o+i) v) e fr):=by simp[World.setCell,kKi,h]
  obtain⟨w',k,q,l,t,d⟩:=qG (o:=o) r (i+1) (c.setIfInBounds (o+i) v) _ B (by simp;omega)
   (λj u=>gg) n
  refine⟨w',?_,?_,?_,?_,?_⟩
  .unfold storeCells;rw[kKm,cQ,g];exact k
  .grind [iv]
  .intro a V;rw[l a V];simp[World.setCell,kKi,Ne.symm V]
  .simp_all
  exact⟨d.os,d.tape,d.output⟩
def tq(β:Nat->Nat)(L:Loc):SV->Value->Prop
 | .v x,y=>y=x
 | .loc s off,y=>(∃c,mM L s=some c)/\y=.pointer (some ⟨β s,off,none⟩)
 | .u,_=>True
structure ef(ds:List Deferred)(h0:ad)(w0:World)(β:Nat->Nat)(env:Env)(L:Loc)(h:ad)(a:Act)(w:World):Prop where
 after:cj h0 w0 h w
 loc:∀s c,mM L s=some c->w0.heap.size<=β s/\h (β s)=none/\∃e,w.heap[β s]? =some (.cells c.toArray e (0,0))
 inj:∀s s' c c',mM L s=some c->mM L s'=some c'->β s=β s'->s=s'
 size:a.tmps.size=env.length
 slot:∀t x,env[t]? =some x->tq β L x (a.tmps.getD t undef)
 defers:a.defers=ds
variable {ds:List Deferred}{h0:ad}{w0:World}{β:Nat->Nat}{env:Env}{L:Loc}{h:ad}{a:Act}{w:World}
theorem getD_some{env:Env}{t:Nat}{x:SV}(h:env.getD t .u=x)(hx:x≠.u):env[t]? =some x:=by
 grind
theorem ef.rl(s:ef ds h0 w0 β env L h a w)(o:Operand):tq β L (rl env o) (a.eval o):=by
 cases o with
 |tmp t=>
  show tq β L (env.getD t .u) _;by_cases u:env.getD t .u=.u
  .rw[u];trivial
  exact s.slot t _ (getD_some rfl u)
 |const v=>rfl
 |global g=>rfl
 |func f=>rfl
theorem ef.bU(s:ef ds h0 w0 β env L h a w){o:Operand}{x:Value}(hx:Sx.rl env o=.v x):a.eval o=x:=by have:=s.rl o;rw[hx]at this;exact this
theorem ef.tQ(b:ef ds h0 w0 β env L h a w){o:Operand}{off:Nat}(hx:Sx.rl env o=.loc s off):
 (∃c,mM L s=some c)/\a.eval o=.pointer (some ⟨β s,off,none⟩):=by
 have:=b.rl o;rw[hx]at this;exact this
theorem ef.lt(b:ef ds h0 w0 β env L h a w)(hl:mM L s=some c):β s<w.heap.size:=by
 obtain⟨-,-,e,d⟩:=b.loc s c hl
 grind
theorem ef.put(s:ef ds h0 w0 β env L h a w){d:Option Nat}{x:SV}{v:Value}(c:tq β L x v):ef ds h0 w0 β (put env d x) L h (a.put d v) w:=by
 cases d with
 |none=>exact s
 |some t=>
  refine⟨s.after,s.loc,s.inj,by simp[Act.put,Sx.put,s.size],λu y b=>?_,s.defers⟩;simp only[Sx.put,Act.put]at b |-;rw[kKl]at b;split at b
  .rename_i e;subst e;split at b
   .rename_i Z;cases b;have:t<a.tmps.size:=by rw[s.size];exact Z
    simp_all
   cases b
  rename_i V;have:=s.slot u y b;simp_all
theorem Bb{L:Loc}{t:Nat}:mM ((s,c)::L) t=if s=t then some c else mM L t:=rfl
theorem tK{w:World}{o:Obj}{b:Nat}(h:b<w.heap.size):(w.heap.push o)[b]? =w.heap[b]? :=by rw[Array.getElem?_push,if_neg ip]
theorem cj.push{h0:ad}{w0:World}{h:ad}{w:World}(x:cj h0 w0 h w)(o:Obj):cj h0 w0 h { w with heap:=w.heap.push o }:=by
 refine x.trans ⟨rfl,rfl,rfl,io,λb o' a=>?_,λb a n=>⟨tK a,n⟩⟩;have:=x.EP b o' a
 grind
theorem ef.box(b:ef ds h0 w0 β env L h a w){d:Nat}(hd:mM L d=none)(c:List Value)(e:TypeId):
 ef ds h0 w0 (λs=>if s=d then w.heap.size else β s) (Sx.put env (some d) (.loc d 0)) ((d,c)::L) h (a.put (some d) (.pointer (some ⟨w.heap.size,0,none⟩)))
  { w with heap:=w.heap.push (.cells c.toArray e) }:=by
 have base:ef ds h0 w0 (λs=>if s=d then w.heap.size else β s) env ((d,c)::L) h a { w with heap:=w.heap.push (.cells c.toArray e) }:=by
  refine⟨b.after.push _,λs c' hl=>?_,λs k l m hl Z j=>?_,b.size,λt x hx=>?_,b.defers⟩
  .rw[Bb]at hl;by_cases f:s=d
   .rw[if_pos f.symm]at hl;cases hl;simp only[f,if_true];exact⟨b.after.size,b.after.EP.oG (qA _),e,io⟩
   rw[if_neg (Ne.symm f)]at hl;simp only[if_neg f];obtain⟨g,i,n,o⟩:=b.loc s c' hl
   grind
  .rw[Bb]at hl Z;by_cases g:s=d<;>by_cases i:k=d
   .rw[g,i]
   .rw[if_neg (Ne.symm i)]at Z;simp only[g,if_true,if_neg i]at j;have:=b.lt Z;omega
   .rw[if_neg (Ne.symm g)]at hl;simp only[i,if_true,if_neg g]at j;have:=b.lt hl;omega
   rw[if_neg (Ne.symm g)]at hl;rw[if_neg (Ne.symm i)]at Z;simp only[if_neg g,if_neg i]at j;exact b.inj _ _ _ _ hl Z j
  have:=b.slot t x hx;cases x with
  |v y=>exact this
  |u=>trivial
  |loc s off=>
   obtain⟨⟨c',K⟩,p⟩:=this;have V:s≠d:=λe=>by simp_all
   refine⟨⟨c',by grind [Bb]⟩,?_⟩;simp_all
 refine base.put ?_;refine⟨⟨c,by rw[Bb,if_pos rfl]⟩,io⟩
theorem sk{L:Loc}{d:List Value}(hl:mM L s=some c)(t:Nat):mM (vS L s d) t=if s=t then some d else mM L t:=by
 induction L with
 |nil=>cases hl
 |cons x r i=>
  grind [vS,mM]
theorem ef.bKo(f:ef ds h0 w0 β env L h a w){c':List Value}(hl:mM L s=some c)
 (K:∀e,w.heap[β s]? =some (.cells c.toArray e (0,0))->w'.heap[β s]? =some (.cells c'.toArray e (0,0))) (g:∀b,b≠β s->w'.heap[b]? =w.heap[b]?)
 (N:w'.heap.size=w.heap.size) (i:cJX w w'):ef ds h0 w0 β env (vS L s c') h a w':=by
 obtain⟨H,I,e,J⟩:=f.loc s c hl;refine⟨⟨i.os.trans f.after.os,i.tape.trans f.after.tape,i.output.trans f.after.output,gg,λb o Z=>?_,λb E p=>?_⟩,
  λt d hd=>?_,λt t' F G l m n=>?_,f.size,λt x hx=>?_,f.defers⟩
 .rw[g b (λe=>by simp_all)];exact f.after.EP b o Z
 .have:=f.after.frame b E p
  grind
 .rw[sk hl]at hd;by_cases V:s=t
  .simp_all
  rw[if_neg V]at hd;obtain⟨z,A,j,B⟩:=f.loc t d hd;exact⟨z,A,j,by rw[g _ (λq=>V (f.inj _ _ _ _ hl hd q.symm))];exact B⟩
 .have q:∀t c,mM (vS L s c') t=some c->∃c,mM L t=some c:=λt c M=>by
   grind [sk]
  obtain⟨_,C⟩:=q _ _ l;obtain⟨_,D⟩:=q _ _ m;exact f.inj _ _ _ _ C D n
 have:=f.slot t x hx;cases x with
 |v y=>exact this
 |u=>trivial
 |loc k off=>
  obtain⟨⟨d,hd⟩,r⟩:=this;refine⟨?_,r⟩
  grind [sk]
theorem ef.step(b:ef ds h0 w0 β env L h a w){h':ad}(d:cj h w h' w'):ef ds h0 w0 β env L h' a w':=
 ⟨b.after.trans d,λs c hl=>by
  obtain⟨f,g,e,i⟩:=b.loc s c hl;have:=d.frame (β s) (b.lt hl) g;simp_all,b.inj,b.size,b.slot,b.defers⟩
theorem cj.new{h:ad}{w:World}(c:Eo h w)(o:Obj):cj h w (bO h w.heap.size o) { w with heap:=w.heap.push o }:=by
 refine⟨rfl,rfl,rfl,io,λb o' a=>?_,λb a n=>⟨tK a,?_⟩⟩
 .simp only[bO]at a;split at a
  .simp_all
  have:=c b o' a
  grind
 grind [bO]
theorem cj.set{h:ad}{w:World}(f:Eo h w){n:Nat}{o o':Obj}(k:h n=some o)(g:w'.heap[n]? =some o')(d:∀b,b≠n->w'.heap[b]? =w.heap[b]?)
 (i:w'.heap.size=w.heap.size) (c:cJX w w'):cj h w (bO h n o') w':=by
 refine⟨c.os,c.tape,c.output,ip,λb q a=>?_,λb a j=>?_⟩
 .simp only[bO]at a;split at a
  .simp_all
  rename_i e;rw[d b e];exact f b q a
 grind [bO]
variable {P:Program}{T:bt}{A:Ar}[bM A]
theorem mD{t:Bool}{x y:Unit->Prop}(h:QL t x y):(t=true/\x ())\/(t=false/\y ()):=by
 cases t
 .exact .inr ⟨rfl,h⟩
 exact .inl ⟨rfl,h⟩
theorem ng(h:vA g cs k):∃v,vA g cs (λx=>x=v)/\k v:=by
 cases g with
 |true=>exact⟨_,rfl,h⟩
 |false=>
  cases cs with
  |nil=>exact h.elim
  |cons x r=>exact⟨x,rfl,h⟩
theorem qi{b:Value->Prop}(h:vA g cs k)(a:∀v,k v->b v):vA g cs b:=by
 obtain⟨v,c,d⟩:=ng h;cases g with
 |true=>exact a _ h
 |false=>
  cases cs with
  |nil=>exact h.elim
  |cons x r=>exact a _ h
theorem uy{len:Nat}{l c m:Option Int}(a:Cq A b len cap size l c m k):
 ∃v,k v/\∀d:Value->Prop,d v->Cq A b len cap size l c m d:=by
 cases m<;>cases c<;>cases l<;>first
  |exact a.elim
  |exact⟨_,a,λ_ h=>h⟩
  |exact⟨_,a.out,λ_ h=>⟨a.h,h⟩⟩
theorem zI{s:ByteArray}{l a:Option Int}(b:Fw A s l a k):
 ∃v,k v/\∀c:Value->Prop,c v->Fw A s l a c:=by
 cases a<;>cases l<;>first
  |exact⟨_,b,λ_ h=>h⟩
  |exact⟨_,b.out,λ_ h=>⟨b.h,h⟩⟩
theorem Hf{o:BinOp}{a b:Value}{e:(Value->Prop)->Unit->Prop}(f:∀k,e k ()->∃v,k v/\∀c:Value->Prop,c v->e c ())(d:NU A o a b k (e k)):
 ∃v,k v/\∀c:Value->Prop,c v->NU A o a b c (e c):=by
 unfold NU at d |-;repeat' split at d
 all_goals first
  |exact f _ d
  |exact⟨_,d.out,λ_ h=>⟨d.h,h⟩⟩
set_option maxHeartbeats 1000000 in
theorem uG{j:Operand->SV}{L:Loc}{h:ad}{k:SV->Option (List Value)->Prop}(b:ki A T p o j L h k):
 ∃s n,k s n/\∀a:SV->Option (List Value)->Prop,a s n->ki A T p o j L h a:=by
 unfold ki at b |-;repeat' split at b
 all_goals first
  |exact b.elim
  |exact⟨_,_,b,λa h'=>h'⟩
  | (
   obtain⟨cs,c,d⟩:=(show Ai _ _ _ _ from b).out
   obtain⟨v,f,g⟩:=ng d;exact⟨_,_,g,λa h'=>⟨cs,c,qi f (λv i=>by simp_all)⟩⟩)
  | (
   obtain⟨v,f,g⟩:=ng b
   exact⟨_,_,g,λa h'=>qi f (λv i=>by subst i;exact h')⟩)
  | (
   obtain⟨v,c,d⟩:=(show uS _ _ _ from b).out
   exact⟨_,_,d,λa h'=>⟨v,c,h'⟩⟩)
  | (
   obtain⟨c,d⟩:=(show vI _ _ from b)
   exact⟨_,_,d,λa h'=>⟨c,h'⟩⟩)
  | (
   obtain⟨v,c,d⟩:=Hf (e:=λk _=>uS p _ k) (λk h=>by
    obtain⟨v,l,m⟩:=h.out;exact⟨v,m,λa h'=>⟨v,l,h'⟩⟩) b
   exact⟨_,_,c,λa h'=>d (λv=>a (.v v) none) h'⟩)
  | (
   obtain⟨v,c,d⟩:=uy b
   exact⟨_,_,c,λa h'=>d _ h'⟩)
  | (grind [zI])
  |skip
variable {P:Program}{T:bt}{A:Ar}[bM A]
variable {ds:List Deferred}{h0:ad}{w0:World}{β:Nat->Nat}{env:Env}{L:Loc}{h:ad}{a:Act}{w:World}
theorem Ih(e:ef ds h0 w0 β env L h a w):∀ {l:List Operand} {c:List Value},qB (l.map (rl env))=some c->l.map a.eval=c
 | [],c,b=>by simp[qB]at b;simp[b]
 |x::r,c,b=>by
  simp only[SW]at b;cases hx:rl env x with
  |v y=>
   rw[hx]at b;simp only[qB]at b;cases d:qB (r.map (rl env))with
   |none=>grind
   |some l=>rw[d]at b;simp at b;rw[<-b,SW,e.bU hx,Ih e d]
  |loc s o=>rw[hx]at b;simp[qB]at b
  |u=>rw[hx]at b;simp[qB]at b
theorem kR(s:ef ds h0 w0 β env L h a w){l:Array Operand}{v:List Value}(b:qB (l.toList.map (rl env))=some v):l.map a.eval=v.toArray:=by
 rw[<-Ih s b]
 grind
theorem wO(b:ef ds h0 w0 β env L h a w):∀ {l:List (Nat×Operand)} {s:List (Nat×Value)},po (rl env) l=some s->l.map (λ(i,x)=>(i,a.eval x))=s
 | [],s,v=>by simp[po]at v;simp[v]
 | (i,x)::r,s,v=>by
  unfold po at v;split at v
  .rename_i y l hx c;cases v;simp only[SW];rw[b.bU hx,wO b c]
  cases v
theorem FD(off:Nat):∀(s:List Value) (k:Nat) (cells:Array Value),
 (s.zipIdx k).foldl (λcs (c,j)=>cs.setIfInBounds (off+j) c) cells=(iv cells.toList (off+k) s).toArray
 | [],k,cells=>by simp[iv]
 |v::r,k,cells=>by
  simp only[kJc,kJF];rw[FD off r (k+1)]
  grind [iv]
theorem fill_eq(p:Nat->Option (Nat×Nat)):∀(s:List (Nat×Value)) (cells:Array Value) (cs:List Value),GL p cells.toList s=some cs->Instr.fill p cells s=some cs.toArray
 | [],cells,cs,h=>by
  simp[GL]at h;simp[Instr.fill,<-h]
 | (i,v)::r,cells,cs,h=>by
  unfold GL at h;unfold Instr.fill;cases a:p i with
  |none=>simp[a]at h
  |some x=>
   obtain⟨off,size⟩:=x;simp only[a]at h |-;have l:v.cells.toList.length=v.cells.size:=io
   have g:cells.toList.length=cells.size:=io
   rw[l,g]at h;split at h
   .cases h
   rename_i c;rw[if_neg c];have:=fill_eq p r (iv cells.toList off v.cells.toList).toArray cs (iu h);rw[<-this];congr 1;rw[<-kZe];have e:=FD off v.cells.toList 0 cells
   grind
theorem iD{k:Kd}(h:k.isNone=false):k≠.none:=λe=>by rw[e]at h;cases h
theorem FM(a:il P T)(w:World):∀(fs:List Field) (l:List (Nat×Nat)),placesOf T (fs.map λf=>(f.type,f.offset))=some l->
 (fs.mapM λf=>do pure (f.offset,<-sizeOf f.type):Sem (List (Nat×Nat))).run P w=.ok l w
 | [],l,h=>by simp[placesOf]at h;simp[h]
 |f::r,l,h=>by
  simp only[SW]at h;unfold placesOf at h;split at h
  .rename_i d k b;cases h;have i:=iG a (iD k);have c:=FM a w r d b;rw[kQL];simp only[kKm,i.gV,kXb,kXa,c]
  cases h
theorem uH{k:Kd}(h:k=.da fs):k≠.none:=by rw[h];simp
theorem Gf{n:Nat}{k:Kd}(h:k=.arr n e):k≠.none:=by rw[h];simp
theorem iw{k:Kd}(h:k=.rF e):k≠.none:=by rw[h];simp
theorem Bd(h:qQ d=.da fs):∃F,d=.struct F/\fs=F.toList.map λf=>(f.type,f.offset):=by
 cases d<;>simp[qQ]at h
 grind
theorem PI{n:Nat}(h:qQ d=.arr n e):d=.array n e:=by cases d<;>simp[qQ]at h;rw[h.1,h.2]
theorem qO(h:qQ d=.rF e):d=.slice e:=by cases d<;>simp[qQ]at h;rw[h]
theorem PH(h:qQ d=.str):d=.string:=by cases d<;>simp[qQ]at h;rfl
theorem run_build(a:il P T)(w:World){t:TypeId}{p:List (Nat×Value)}(k:(T.ty t).kd.isNone=false)
 (h:QK T (T.ty t).zero p (T.ty t).kd=some cs):(Instr.build t p.toArray).run P w=.ok (.agg cs.toArray) w:=by
 have b:=iG a (iD k);obtain⟨z,m,G⟩:=b.qF w;obtain⟨d,hd,-,J,-⟩:=b.cZ w;unfold Instr.build;simp only[kKm,m,kXb,hd];unfold QK at h;split at h
 .rename_i fs A;split at h
  .rename_i l hl;obtain⟨F,rfl,c⟩:=Bd (J ▸ A);have j:=FM a w F.toList l (c ▸ hl);have g:(F.mapM λf=>do pure (f.offset,<-sizeOf f.type):Sem (Array (Nat×Nat))).run P w=.ok l.toArray w:=by rw[kXf];simp only[kJB,j,kXb]
   simp only[g,kXb,kKm];have:=fill_eq (λi=>l[i]?) p z.cells cs gg;simp only[kJA];rw[this];rfl
  cases h
 .rename_i n e V;split at h
  .rename_i Z;have v:=iG a (iD Z);obtain rfl:=PI (J ▸ V);simp only[kKm,v.gV,kXb];have:=fill_eq (λi=>some (i*(T.ty e).size,(T.ty e).size)) p z.cells cs gg;rw[this];rfl
  cases h
 cases h
theorem Fp{off n:Nat}(h:takeN c off n=some cs):cs.length=n/\∀j,j<cs.length->c[off+j]? =cs[j]? :=by
 grind [takeN]
variable {P:Program}{T:bt}{A:Ar}[bM A]
variable {ds:List Deferred}{h0:ad}{w0:World}{β:Nat->Nat}{env:Env}{L:Loc}{h:ad}{a:Act}{w:World}
theorem iq{x:Int}{y:Nat}{code:BoundsCode}{k:IntKind}(h:0<=x/\x<=(y:Int))(w:World):(Instr.sliceBound (.int k x) y code).run P w=.ok x.toNat w:=by simp[Instr.sliceBound,asIntOf,h]
theorem Fu(s:ef ds h0 w0 β env L h a w){x:Option Operand}{l:Option Int}(hl:aZT (rl env) x=some l):
 (l=none/\x.map a.eval=none)\/(∃n k,l=some n/\x.map a.eval=some (.int k n)):=by
 cases x with
 |none=>grind [aZT]
 |some y=>
  unfold aZT at hl;simp only at hl;split at hl
  .rename_i k n e;cases hl;exact .inr ⟨n,k,rfl,by simp[s.bU e]⟩
  cases hl
theorem Fv{len:Nat}{l j m:Option Int}{p o q:Option Value}
 (t:(l=none/\p=none)\/(∃n k,l=some n/\p=some (.int k n)))
 (u:(j=none/\o=none)\/(∃n k,j=some n/\o=some (.int k n)))
 (v:(m=none/\q=none)\/(∃n k,m=some n/\q=some (.int k n)))
 (h:Cq A b len cap size l j m (λx=>x=r)) (w:World):
 ∃L H M:Nat,(Instr.sliceBounds g len cap p o q).run P w=.ok (L,H,M) w/\
  r=.slice (if M=L then b else b.map (·.add (L*size))) (H-L) (M-L):=by
 rcases t with⟨rfl,rfl⟩|⟨e,y,rfl,rfl⟩<;>rcases u with⟨rfl,rfl⟩|⟨a,z,rfl,rfl⟩<;>rcases v with⟨rfl,rfl⟩|⟨d,B,rfl,rfl⟩
 .refine⟨0,len,cap,by simp[Instr.sliceBounds],?_⟩;have:Value.slice b len cap=r:=h;rw[<-this];simp[Addr.add]
 .exact h.elim
 .obtain⟨c,h⟩:=(show vI _ _ from h);refine⟨0,a.toNat,cap,by simp[Instr.sliceBounds,iq c],?_⟩;have:=h;simp only[A.GP,A.nat_eq,A.Dd]at this
  grind
 .obtain⟨c,h⟩:=(show vI _ _ from h);refine⟨0,a.toNat,d.toNat,?_,?_⟩
  .have f:0<=d/\d<=(cap:Int):=⟨c.1,c.2.1⟩;have i:0<=a/\a<=(d.toNat:Int):=⟨c.2.2.1,ip⟩;simp[Instr.sliceBounds,iq f,iq i]
  have:=h;simp only[A.GP,A.nat_eq,A.Dd]at this
  grind
 .obtain⟨c,h⟩:=(show vI _ _ from h);refine⟨e.toNat,len,cap,by simp[Instr.sliceBounds,iq c],?_⟩;have:=h;simp only[A.GP,A.nat_eq,A.Dd]at this
  grind
 .exact h.elim
 .obtain⟨c,h⟩:=(show vI _ _ from h);refine⟨e.toNat,a.toNat,cap,?_,?_⟩
  .have f:0<=a/\a<=(cap:Int):=⟨c.1,c.2.1⟩;have i:0<=e/\e<=(a.toNat:Int):=⟨c.2.2.1,ip⟩;simp[Instr.sliceBounds,iq f,iq i]
  have:=h;simp only[A.GP,A.nat_eq,A.Dd]at this
  grind
 obtain⟨c,h⟩:=(show vI _ _ from h);refine⟨e.toNat,a.toNat,d.toNat,?_,?_⟩
 .have f:0<=d/\d<=(cap:Int):=⟨c.1,c.2.1⟩;have i:0<=a/\a<=(d.toNat:Int):=⟨c.2.2.1,ip⟩;have s:0<=e/\e<=(a.toNat:Int):=⟨c.2.2.2.2.1,ip⟩;simp[Instr.sliceBounds,iq f,iq i,iq s]
 have:=h;simp only[A.GP,A.nat_eq,A.Dd]at this
 grind
theorem Pc{s:ByteArray}{l d:Option Int}{o i:Option Value}
 (g:(l=none/\o=none)\/(∃n k,l=some n/\o=some (.int k n)))
 (j:(d=none/\i=none)\/(∃n k,d=some n/\i=some (.int k n)))
 (h:Fw A s l d (λx=>x=r)) (w:World):
 ∃L H M:Nat,(Instr.sliceBounds false s.size s.size o i none).run P w=.ok (L,H,M) w/\r=.string (s.extract L H):=by
 rcases g with⟨rfl,rfl⟩|⟨b,m,rfl,rfl⟩<;>rcases j with⟨rfl,rfl⟩|⟨a,p,rfl,rfl⟩
 .refine⟨0,s.size,s.size,by simp[Instr.sliceBounds],?_⟩;have:Value.string s=r:=h;rw[<-this];simp
 .obtain⟨c,h⟩:=(show vI _ _ from h);refine⟨0,a.toNat,s.size,by simp[Instr.sliceBounds,iq c],?_⟩;have:=h;simp only[A.sub_eq]at this
  grind
 .obtain⟨c,h⟩:=(show vI _ _ from h);refine⟨b.toNat,s.size,s.size,by simp[Instr.sliceBounds,iq c],?_⟩;have:=h;simp only[A.sub_eq,A.XJ]at this
  grind
 obtain⟨c,h⟩:=(show vI _ _ from h);refine⟨b.toNat,a.toNat,s.size,?_,?_⟩
 .have e:0<=a/\a<=(s.size:Int):=⟨c.1,c.2.1⟩;have f:0<=b/\b<=(a.toNat:Int):=⟨c.2.2.1,ip⟩;simp[Instr.sliceBounds,iq e,iq f]
 have:=h;simp only[A.sub_eq]at this;rw[<-this]
theorem aXd{o:BinOp}{t:TypeId}{x:Operand}{v:Value}(h:bQJ A o u v=some r)(w:World):
 (do eqGuard o t x y u v;Go.binOp o t u v:Sem Value).run P w=.ok r w:=by
 have g:(eqGuard o t x y u v).run P w=.ok () w:=by
  unfold bQJ at h;cases u<;>first
   | (simp at h;done)
   | (cases v<;>first
    | (simp at h;done)
    | (unfold eqGuard;split<;>rfl))
 rw[kKm,g,kXb];unfold bQJ at h;split at h
 .rename_i k c a d;split at h<;>first
   |cases h
   | (
    split at h
    .rename_i C;subst C;cases h;first
      | (simp[Go.binOp,Op.intArith,A.xG,aX];done)
      | (simp[Go.binOp,Op.intBits,A.xG,aX];done)
      | (simp[Go.binOp,Op.intCmp,A.Zg,aQ];done)
    cases h)
 .split at h<;>first
   | (cases h;rw[A.XW];rfl)
   | (cases h;done)
 cases h
theorem aXe{o:BinOp}{t:TypeId}{x:Operand}{v:Value}{Q:Unit->Prop}(h:NU A o u v (λz=>z=r) Q)
 (e:Q ()->∀w,(do eqGuard o t x y u v;Go.binOp o t u v:Sem Value).run P w=.ok r w) (w:World):
 (do eqGuard o t x y u v;Go.binOp o t u v:Sem Value).run P w=.ok r w:=by
 unfold NU at h;split at h
 .rename_i f c;split at h
  .rename_i i d;split at h
   .split at h
    .rename_i k;have k:=kZr k;subst k;obtain⟨b,a⟩:=h;subst a;simp[eqGuard,Go.binOp,Op.intDiv,A.xG,aX,b]
    grind
   .split at h
    .rename_i k;have k:=kZr k;subst k;obtain⟨b,a⟩:=h;subst a;simp[eqGuard,Go.binOp,Op.intDiv,A.xG,aX,b]
    grind
   .obtain⟨b,a⟩:=h;subst a;have:¬d<0:=ip
    simp[eqGuard,Go.binOp,Op.shift,A.xG,aX,this]
   .obtain⟨b,a⟩:=h;subst a;have:¬d<0:=ip
    simp[eqGuard,Go.binOp,Op.shift,A.xG,aX,this]
   grind
  grind
 .rename_i c;split at h
  .rename_i d;split at h
   .obtain⟨b,a⟩:=h;subst a;have m:IntKind.i64.max=9223372036854775807:=dl
    have j:(2:Int)^62=4611686018427387904:=dl
    have:¬(9223372036854775807<(c.size:Int)+(d.size:Int)):=gg
    have g:A.cat c d=c++d:=by rw[A.cJz]
    rw[g];simp[eqGuard,Go.binOp,Op.stringOp,this]
   grind
  grind
 grind
theorem BC(e:il P T)(d:Nat)(xs ys:Array Value)(w:World):∀(fs:List Field) (i:Nat) (t:Bool),
 ((
  fs.zipIdx i).all λ(f,i)=>f.offset==i&&decide (f.name≠ "_")&&(match P.info? f.type,P.underlying f.type with
  |some i,some .bool|some i,some (.int _) |some i,some .string=>i.size==1
  |_,_=>false))=true->
 my A T.ty (fs.map λf=>(f.type,f.offset)) (xs.toList.drop i) (ys.toList.drop i)=some t->(Op.eqFields (d+1) xs ys fs).run P w=.ok t w
 | [],i,t,_,he=>by
  simp only[List.map_nil]at he;cases hx:xs.toList.drop i with
  |cons x r=>rw[hx]at he;simp[my]at he
  |nil=>
   cases h:ys.toList.drop i with
   |nil=>rw[hx,h]at he;simp[my]at he;subst he;rfl
   |cons y r=>rw[hx,h]at he;simp[my]at he
 |f::fs,i,t,R,he=>by
  simp only[kJc,kJQ,kZj,beq_iff_eq,kJP]at R;obtain⟨⟨⟨G,z⟩,v⟩,j⟩:=R;simp only[SW]at he;cases hx:xs.toList.drop i with
  |nil=>rw[hx]at he;simp[my]at he
  |cons x r=>
   have Z:xs[i]? =some x:=by
    have:=congrArg (·[0]?) hx
    grind
   have o:xs.toList.drop (i+1)=r:=by have:=congrArg (List.drop 1) hx;simpa[kJO,rK]using this
   cases h:ys.toList.drop i with
   |nil=>rw[hx,h]at he;simp[my]at he
   |cons y q=>
    have M:ys[i]? =some y:=by
     have:=congrArg (·[0]?) h
     grind
    have m:ys.toList.drop (i+1)=q:=by have:=congrArg (List.drop 1) h;simpa[kJO,rK]using this
    rw[hx,h]at he;have u:=λt' B=>BC e d xs ys w fs (i+1) t' j (by rw[o,m];exact B);have V:f.name≠ "_" :=z;have Q:∀k,(T.ty f.type).kd=k->k≠.none->∃a,P.underlying f.type=some a/\k=qQ a:=λk c D=>by
     obtain⟨a,-,E,F,-⟩:=(iG e (t:=f.type) gg).cZ w
     grind
    have fin:∀(a:TypeDesc) (b:Bool) (t':Bool),P.underlying f.type=some a->(isAgg f.type).run P w=.ok false w->(Op.equalIn (d+1) f.type x y).run P w=.ok b w->
     my A T.ty (fs.map λf=>(f.type,f.offset)) r q=some t'->t=(b&&t')->(Op.eqFields (d+1) xs ys (f::fs)).run P w=.ok t w:=λa b t' X K l B p=>by
     have s:(part f.type xs f.offset).run P w=.ok x w:=by unfold part;rw[kKm,K];simp[G,Z]
     have J:(part f.type ys f.offset).run P w=.ok y w:=by unfold part;rw[kKm,K];simp[G,M]
     unfold Op.eqFields;rw[if_pos V];simp only[kKm,s,J,kXb,l,p];cases b with
     |false=>rfl
     |true=>simp[u t' B]
    unfold my at he;split at he
    .rename_i c;obtain⟨a,X,n⟩:=Q _ c io;obtain⟨k,rfl⟩:∃k,a=.int k:=by grind [qQ]
     split at he
     .split at he
      .split at he
       .rename_i C;split at he
        .rename_i H a1 I a2 t' B;cases he;have g:=kZr C;subst g;refine fin _ _ _ X ?_ (run_equalIn_int w d _ _ _ _ _ X) B (by rw[A.and_eq,A.Zg];rfl);unfold isAgg;rw[kKm,run_underlying X w];rfl
        cases he
       cases he
      cases he
     cases he
    .rename_i c;obtain⟨a,X,n⟩:=Q _ c io;obtain rfl:a=.string:=by cases a<;>simp[qQ]at n;rfl
     split at he
     .split at he
      .split at he
       .rename_i a1 a2 t' B;cases he;refine fin _ _ _ X ?_ (run_equalIn_string w d _ _ _ X) B (by rw[A.and_eq,A.XW];rfl);unfold isAgg;rw[kKm,run_underlying X w];rfl
       cases he
      cases he
     cases he
    .rename_i c;obtain⟨a,X,n⟩:=Q _ c io;obtain rfl:a=.bool:=by cases a<;>simp[qQ]at n;rfl
     split at he
     .split at he
      .split at he
       .rename_i a1 a2 t' B;cases he;refine fin _ _ _ X ?_ (run_equalIn_bool' w d _ _ _ X) B (by rw[A.and_eq,A.QN];rfl);unfold isAgg;rw[kKm,run_underlying X w];rfl
       cases he
      cases he
     cases he
    cases he
theorem FR{o:BinOp}{b:Bool}(h:neg A o b=some r):(o=.eql/\r=.bool b)\/(o=.neq/\r=.bool (!b)):=by
 unfold neg at h;split at h
 .grind
 .cases h;exact .inr ⟨rfl,by rw[A.not_eq]⟩
 cases h
theorem aQO(f:il P T){o:BinOp}{t:TypeId}{x:Operand}{v:Value}(h:cJx A T.ty (T.ty t) o u v=some r)(w:World):
 (do eqGuard o t x y u v;Go.binOp o t u v:Sem Value).run P w=.ok r w:=by
 unfold cJx at h;split at h
 .rename_i e a;have i:=iG f (iw a);obtain⟨d,hd,S,n,-⟩:=i.cZ w;obtain rfl:=qO (n ▸ a);split at h
  .rename_i b l c;split at h
   .rename_i k j;have g:(eqGuard o t x y (.slice b l c) (.slice none k j)).run P w=.ok () w:=by unfold eqGuard;split<;>rfl
    have q:(Op.equal t (.slice b l c) (.slice none k j)).run P w=.ok b.isNone w:=by unfold Op.equal Op.maxDepth Op.equalIn;rw[kKm,hd,kXb];cases b<;>rfl
    rw[kKm,g,kXb];rcases FR h with⟨rfl,rfl⟩|⟨rfl,rfl⟩
    .simp[Go.binOp,q,A.Zc]
    simp[Go.binOp,q,A.Zc]
   cases h
  cases h
 .rename_i a;have i:=iG f (show(T.ty t).kd≠.none by rw[a];simp);obtain⟨d,hd,S,n,-⟩:=i.cZ w;obtain rfl:d=.bool:=by rw[n]at a;cases d<;>simp[qQ]at a;rfl
  split at h
  .rename_i b;split at h
   .rename_i c;have g:(eqGuard o t x y (.bool b) (.bool c)).run P w=.ok () w:=by unfold eqGuard;split<;>rfl
    have q:(Op.equal t (.bool b) (.bool c)).run P w=.ok (b==c) w:=run_equalIn_bool' w 9999 t b c S;rw[kKm,g,kXb];rcases FR h with⟨rfl,rfl⟩|⟨rfl,rfl⟩
    .simp[Go.binOp,q,A.QN,uP]
    simp[Go.binOp,q,A.QN,uP]
   cases h
  cases h
 .rename_i fs a;have i:=iG f (uH a);obtain⟨E,d,z,-,S,-,-,-,-,-,n,K⟩:=i.ex;obtain⟨F,rfl,D⟩:=Bd (n ▸ a);split at h
  .rename_i I;rw[K]at I;simp only[Qy,kZj,Rs]at I;obtain⟨⟨p,B⟩,C⟩:=I;split at h
   .rename_i xs;split at h
    .rename_i ys;split at h
     .rename_i tt m;have g:(eqGuard o t x y (.agg xs) (.agg ys)).run P w=.ok () w:=run_eqGuard_agg w o t x y xs ys p;have Z:P.fieldsOf t=F:=by simp[Program.fieldsOf,S]
      have s:P.underlying t=some (.struct (P.fieldsOf t)):=gg
      have q:(Op.equalIn 10000 t (.agg xs) (.agg ys)).run P w=.ok tt w:=by
       rw[run_equalIn_agg w 9999 t xs ys s B,Z]
       grind [BC]
      rw[kKm,g,kXb];rcases FR h with⟨rfl,rfl⟩|⟨rfl,rfl⟩
      .rw[run_eql_struct,q];rfl
      rw[run_neq_struct,q];rfl
     cases h
    cases h
   cases h
  cases h
 cases h
variable {P:Program}{T:bt}{A:Ar}[bM A]
variable {ds:List Deferred}{h0:ad}{w0:World}{β:Nat->Nat}{env:Env}{L:Loc}{h:ad}{a:Act}{w:World}
theorem OV{a:Type}{P:Program}{w:World}{x:Sem a}{f:a->Sem Next}{r:a}(hx:x.run P w=.ok r w):(x >>= f).run P w=(f r).run P w:=by simp_all
def fZ(P:Program)(β:Nat->Nat)(L:Loc)(a:Act)(w:World)(o:Oper)(sv:SV):Prop:=
 ∃v,(execOp a.eval o).run P w=.ok (.value v) w/\tq β L sv v
theorem fZ.fin(b:ef ds h0 w0 β env L h a w){s:SV}(q:fZ P β L a w o s):
 ∃v w' p,(execOp a.eval o).run P w=.ok (.value v) w'/\ef ds h0 w0 p (put env o.dst s) (eZ L o.dst none) h (a.put o.dst v) w':=by
 obtain⟨v,c,j⟩:=q;refine⟨v,w,β,c,?_⟩;have:eZ L o.dst none=L:=by unfold eZ;simp_all
 rw[this];exact b.put j
theorem FG(h:il P T){f:Field}{n:Nat}(k:(T.ty f.type).kd.isNone=false)(a:(T.ty f.type).size=n+1)(x:Addr)(w:World):
 (fieldPlace x f).run P w=.ok (x.add f.offset) w:=by
 have i:=iG h (iD k);simp[fieldPlace,i.gV,a]
theorem Nv{F:Array Field}{i t off:Nat}(h:fs=F.toList.map λf=>(f.type,f.offset))(a:fs[i]? =some (t,off)):
 ∃f,F[i]? =some f/\f.type=t/\f.offset=off:=by
 simp_all
theorem MA(i:ef ds h0 w0 β env L h a w){off n:Nat}(hl:mM L s=some c)(t:takeN c off n=some cs):
 cs.length=n/\∀j,j<cs.length->w.cell? ⟨β s,off+j,none⟩=cs[j]? :=by
 obtain⟨b,d⟩:=Fp t;obtain⟨-,-,e,f⟩:=i.loc s c hl;refine⟨b,λj g=>?_⟩;rw[Te f,<-d j g];simp
set_option maxHeartbeats 1000000 in
theorem CF(D:il P T)(j:ef ds h0 w0 β env L h a w){sv:SV}{nb:Option (List Value)}
 (hl:ki A T (λ_=>P) o (Sx.rl env) L h (λx y=>x=sv/\y=nb)):
 ∃v w' pX,(execOp a.eval o).run P w=.ok (.value v) w'/\ef ds h0 w0 pX (put env o.dst sv) (eZ L o.dst nb) h (a.put o.dst v) w':=by
 unfold ki at hl;split at hl;case h_1 x p=>-- move
  obtain⟨rfl,rfl⟩:=hl;exact fZ.fin j ⟨_,by simp only[execOp,p];rfl,j.rl x⟩
 case h_2 c x y p=>-- pick
  split at hl
  .rename_i hc;obtain⟨rfl,rfl⟩:=hl;exact fZ.fin j ⟨_,by simp only[execOp,p,j.bU hc];rfl,j.rl x⟩
  .rename_i hc;obtain⟨rfl,rfl⟩:=hl;exact fZ.fin j ⟨_,by simp only[execOp,p,j.bU hc];rfl,j.rl y⟩
  grind
 case h_3 e p=>-- alloc
  split at hl
  .exact hl.elim
  rename_i E;split at hl
  .exact hl.elim
  rename_i d hd;split at hl
  .rename_i lO;obtain⟨rfl,rfl⟩:=hl;obtain⟨z,hz,Gh⟩:=(iG D (iD E)).qF w;have hb:=j.box lO (T.ty e).zero e;rw[hd];refine⟨_,_,_,?_,hb⟩;simp only[execOp,p,Instr.alloc,kKm,hz,kXb,newVar,newRow,run_newObj,kXa];rw[<-Gh]
  grind
 case h_4 e x p=>-- box
  split at hl
  .exact hl.elim
  rename_i d hd;split at hl
  .rename_i v C;split at hl
   .rename_i lO;obtain⟨rfl,rfl⟩:=hl;have hb:=j.box lO v.cells.toList e;rw[hd];refine⟨_,_,_,?_,hb⟩;simp only[execOp,p,Instr.box,kKm,kXb,newVar,newRow,run_newObj,kXa,j.bU C]
   grind
  grind
 case h_5 t x p=>-- load
  split at hl
  .exact hl.elim
  rename_i E;have G:=iG D (iD E);split at hl
  .rename_i s off hx;split at hl
   .rename_i c hc;split at hl
    .rename_i cs ar;obtain⟨N,Q⟩:=MA j hc ar;obtain⟨v,H,h4⟩:=ng hl;obtain⟨rfl,rfl⟩:=h4;obtain⟨v',h5,h6⟩:=rV G w (β s) off cs N Q H;subst h6;exact fZ.fin j ⟨_,by simp only[execOp,p,(j.tQ hx).2,Instr.loadAt,Instr.sureAddr,kKm,kXa,kXb,h5],rfl⟩
    grind
   grind
  .rename_i y hx;obtain⟨cs,N,hl⟩:=hl.out;obtain⟨W,M,R⟩:=N.cell j.after.EP;obtain⟨v,H,h4⟩:=ng hl;obtain⟨rfl,rfl⟩:=h4;obtain⟨v',h5,h6⟩:=rV G w y.block y.off cs M R H;subst h6;have:y=⟨y.block,y.off,none⟩:=by cases y;simp_all
   exact fZ.fin j ⟨_,by simp only[execOp,p,j.bU hx,Instr.loadAt,Instr.sureAddr,kKm,kXa,kXb];rw[this,h5];rfl,rfl⟩
  grind
 case h_6 x p=>-- nilCheck
  split at hl
  .rename_i s off hx;obtain⟨rfl,rfl⟩:=hl;have:=j.tQ hx;exact fZ.fin j ⟨_,by simp only[execOp,p,this.2];rfl,this.1,rfl⟩
  .rename_i y hx;obtain⟨rfl,rfl⟩:=hl;exact fZ.fin j ⟨_,by simp only[execOp,p,j.bU hx];rfl,rfl⟩
  grind
 case h_7 t x f p=>-- fieldAddr
  split at hl
  .rename_i fs U;have G:=iG D (uH U);obtain⟨d,hd,-,J,-⟩:=G.cZ w;obtain⟨F,rfl,hF⟩:=Bd (J ▸ U);split at hl
   .rename_i ft off hf;obtain⟨fd,X,rfl,rfl⟩:=Nv hF hf;split at hl
    .exact hl.elim
    rename_i E;split at hl
    .exact hl.elim
    rename_i n hn;have hp:=λy=>FG D E hn y w;split at hl
    .rename_i s off hx;obtain⟨rfl,rfl⟩:=hl;have:=j.tQ hx;exact fZ.fin j ⟨_,by simp only[execOp,p,this.2,Instr.fieldAt,Instr.sureAddr,kKm,hd,kXb,X,kXa,hp,cQ],this.1,rfl⟩
    .rename_i y hx;obtain⟨rfl,rfl⟩:=hl;exact fZ.fin j ⟨_,by simp only[execOp,p,j.bU hx,Instr.fieldAt,Instr.sureAddr,kKm,hd,kXb,X,kXa,hp];rfl,by simp[tq,A.cQq]⟩
    grind
   grind
  grind
 case h_8 t x ix p=>-- indexAddr
  split at hl
  .rename_i kk n Z;split at hl
   .rename_i e B;have G:=iG D (iw B);obtain⟨d,hd,-,J,-⟩:=G.cZ w;obtain rfl:=qO (J ▸ B);split at hl
    .exact hl.elim
    rename_i E;have S:=iG D (iD E);split at hl
    .rename_i b len cap hx;obtain⟨⟨W,M,R⟩,rfl,rfl⟩:=(show vI _ _ from hl);obtain⟨y,rfl⟩:=kJm.1 W;refine fZ.fin j ⟨.pointer (some (y.add (n.toNat*(T.ty e).size))),?_,by simp[tq,A.xA,jt]⟩;simp[execOp,p,j.bU hx,j.bU Z,Instr.indexAt,asIntOf,hd,S.gV,M,R]
    grind
   .rename_i m e B;have G:=iG D (Gf B);obtain⟨d,hd,-,J,-⟩:=G.cZ w;obtain rfl:=PI (J ▸ B);split at hl
    .exact hl.elim
    rename_i E;have S:=iG D (iD E);split at hl
    .rename_i s off hx;obtain⟨⟨M,R⟩,rfl,rfl⟩:=(show vI _ _ from hl);have:=j.tQ hx;refine fZ.fin j ⟨.pointer (some ⟨β s,off+n.toNat*(T.ty e).size,none⟩),?_,this.1,by simp[A.dZM]⟩;simp[execOp,p,this.2,j.bU Z,Instr.indexAt,asIntOf,hd,S.gV,M,R,Instr.sureAddr,cQ]
    .rename_i y hx;obtain⟨⟨M,R⟩,rfl,rfl⟩:=(show vI _ _ from hl);refine fZ.fin j ⟨.pointer (some (y.add (n.toNat*(T.ty e).size))),?_,by simp[tq,A.xA,jt]⟩;simp[execOp,p,j.bU hx,j.bU Z,Instr.indexAt,asIntOf,hd,S.gV,M,R,Instr.sureAddr]
    grind
   grind
  grind
 case h_9 t x ix p=>-- index
  split at hl
  .rename_i kk n Z;split at hl
   .rename_i B;have G:=iG D (show(T.ty t).kd≠.none by rw[B];simp);obtain⟨d,hd,-,J,-⟩:=G.cZ w;obtain rfl:=PH (J ▸ B);split at hl
    .rename_i s hx;obtain⟨⟨M,R⟩,rfl,rfl⟩:=(show vI _ _ from hl);have aZ:n.toNat<s.size:=ip
     refine fZ.fin j ⟨.int .u8 (s[n.toNat].toNat:Int),?_,?_⟩
     .simp[execOp,p,j.bU hx,j.bU Z,Instr.index,asIntOf,hd,M,aZ]
     have:n.toNat<s.data.size:=aZ;simp only[tq,A.bQH,kJl,kKk this];rfl
    grind
   grind
  grind
 case h_10 t x f p=>-- field
  split at hl
  .rename_i fs U;have G:=iG D (uH U);obtain⟨d,hd,-,J,-⟩:=G.cZ w;obtain⟨F,rfl,hF⟩:=Bd (J ▸ U);split at hl
   .rename_i ft off hf;obtain⟨fd,X,rfl,rfl⟩:=Nv hF hf;split at hl
    .exact hl.elim
    rename_i E;have ab:=iG D (iD E);split at hl
    .rename_i cs hx;split at hl
     .rename_i ds K;obtain⟨N,Q⟩:=Fp K;obtain⟨v,H,h4⟩:=ng hl;obtain⟨rfl,rfl⟩:=h4;refine fZ.fin j ⟨v,?_,rfl⟩;have al:(part fd.type cs fd.offset).run P w=.ok v w:=by
       unfold part;rw[kKm,ab.Ix];unfold vA at H;cases hg:(T.ty fd.type).agg with
       |true=>
        simp only[hg]at H;subst H;unfold takeN at K;split at K
        .cases K;simp only[kXb,if_true,kKm,ab.gV,kXa];congr 2
         grind
        cases K
       |false=>
        simp only[hg]at H;cases ds with
        |nil=>exact H.elim
        |cons y r=>simp only at H;subst H;have:=Q 0 io;simp only[vy,vv,iz]at this;simp[this]
      simp only[execOp,p,j.bU hx,Instr.field,kKm,hd,kXb,X,asAgg,kXa,al]
     grind
    grind
   grind
  grind
 case h_11 x i p=>-- extract
  split at hl
  .rename_i vs hx;split at hl
   .rename_i v C;obtain⟨rfl,rfl⟩:=hl;simp only[vv]at C;exact fZ.fin j ⟨v,by simp[execOp,p,j.bU hx,Instr.extract,C],rfl⟩
   grind
  grind
 case h_12 t parts p=>-- build
  split at hl
  .exact hl.elim
  rename_i E;split at hl
  .rename_i ps Zy;split at hl
   .rename_i cs ar;obtain⟨rfl,rfl⟩:=hl;have N:=run_build D w E ar;have Q:(parts.map λ(i,x)=>(i,a.eval x))=ps.toArray:=by
     rw[<-wO j Zy]
     grind
    exact fZ.fin j ⟨_,by simp only[execOp,p,Q,kKm,N,kXb,kXa],rfl⟩
   grind
  grind
 case h_13 op t x y ty p=>-- binOp
  split at hl
  .rename_i u Y;split at hl
   .rename_i v C;split at hl
    .rename_i r O;obtain⟨rfl,rfl⟩:=hl;have:=aXd (P:=P) (A:=A) (t:=t) (x:=x) (y:=y) O w;exact fZ.fin j ⟨_,by simp only[execOp,p,j.bU Y,j.bU C];rw[OV this];rfl,rfl⟩
    split at hl
    .rename_i r O;obtain⟨rfl,rfl⟩:=hl;have:=aQO (A:=A) D (x:=x) (y:=y) O w;exact fZ.fin j ⟨_,by simp only[execOp,p,j.bU Y,j.bU C];rw[OV this];rfl,rfl⟩
    obtain⟨r,⟨rfl,rfl⟩,Q⟩:=Hf (e:=λk _=>uS _ _ k) (λk h=>by
     obtain⟨v,W,M⟩:=h.out;exact⟨v,M,λk' h'=>⟨v,W,h'⟩⟩) hl
    have:=aXe (P:=P) (A:=A) (t:=t) (x:=x) (y:=y) (Q (λz=>z=r) rfl) (λh w=>by
     obtain⟨v,W,rfl⟩:=h.out;exact W w) w
    exact fZ.fin j ⟨_,by simp only[execOp,p,j.bU Y,j.bU C];rw[OV this];rfl,rfl⟩
   grind
  grind
 case h_14 op t x p=>-- unOp
  split at hl
  .rename_i b hx;split at hl
   .obtain⟨rfl,rfl⟩:=hl;exact fZ.fin j ⟨.bool (!b),by simp only[execOp,p,j.bU hx];rfl,by simp[tq,A.not_eq]⟩
   grind
  .rename_i I n hx;split at hl
   .obtain⟨rfl,rfl⟩:=hl;exact fZ.fin j ⟨.int I (I.wrap (0-n)),by simp only[execOp,p,j.bU hx];rfl,by simp[tq,A.xG,aX]⟩
   .obtain⟨rfl,rfl⟩:=hl;exact fZ.fin j ⟨.int I (aX .xor I (bZr I) n),by simp only[execOp,p,j.bU hx];rfl,by simp[tq,A.xG]⟩
   grind
  grind
 case h_15 src dst x p=>-- convert
  split at hl
  .rename_i q n hx;split at hl
   .rename_i I J;split at hl
    .rename_i ks ag;obtain⟨rfl,rfl⟩:=hl;obtain⟨d1,Vb,-,fS,-⟩:=(iG D (t:=dst) (by rw[J];simp)).cZ w;obtain⟨d2,ak,-,sU,-⟩:=(iG D (t:=src) (by rw[ag];simp)).cZ w;have e1:d1=.int I:=by rw[J]at fS;cases d1<;>simp[qQ]at fS;rw[fS]
     have e2:d2=.int ks:=by rw[ag]at sU;cases d2<;>simp[qQ]at sU;rw[sU]
     subst e1 e2;have O:(Go.convert src dst (.int q n)).run P w=.ok (.int I (A.conv I n)) w:=by rw[A.bQF];simp[Go.convert,Vb,ak,Conv.intToInt]
     exact fZ.fin j ⟨_,by simp only[execOp,p,j.bU hx];simp_all,rfl⟩
    grind
   obtain⟨r,N,rfl,rfl⟩:=(show uS _ _ _ from hl).out;exact fZ.fin j ⟨r,by simp only[execOp,p,j.bU hx];simp_all,rfl⟩
  .rename_i u Y hx;obtain⟨r,N,rfl,rfl⟩:=(show uS _ _ _ from hl).out;exact fZ.fin j ⟨r,by simp only[execOp,p,j.bU hx];simp_all,rfl⟩
  grind
 case h_16 t x p=>-- makeInterface
  split at hl
  .exact hl.elim
  .exact hl.elim
  rename_i fS sU;split at hl
  .rename_i v hx;obtain⟨rfl,rfl⟩:=hl;have G:=iG D (t:=t) (λe=>sU e);obtain⟨d,hd,-,J,-⟩:=G.cZ w;refine fZ.fin j ⟨.iface t v,?_,rfl⟩;simp only[execOp,p,j.bU hx,Instr.makeInterface,kKm,hd,kXb];cases d<;>first
    |rfl
    | (exact absurd J (by simpa[qQ]using fS))
  grind
 case h_17 fn f c p=>-- makeFunc
  split at hl
  .rename_i fs U;split at hl
   .rename_i cs ar;obtain⟨rfl,rfl⟩:=hl;refine fZ.fin j ⟨.func fn fs.toArray cs.toArray,?_,rfl⟩;simp only[execOp,p,kR j U,kR j ar];rfl
   grind
  grind
 case h_18 t x lo G mx p=>-- slice
  split at hl
  .rename_i l hh m N Q H;have e1:=Fu j N;have e2:=Fu j Q;have e3:=Fu j H;split at hl
   .rename_i e B;have V:=iG D (iw B);obtain⟨d,hd,-,J,-⟩:=V.cZ w;obtain rfl:=qO (J ▸ B);split at hl
    .exact hl.elim
    rename_i E;have S:=iG D (iD E);split at hl
    .rename_i b len cap hx;obtain⟨v,C,bR⟩:=uy hl;obtain⟨rfl,rfl⟩:=C;obtain⟨Lo,Hi,Mx,O,rfl⟩:=Fv (P:=P) (A:=A) (g:=true) e1 e2 e3 (bR (λx=>x=v) rfl) w;refine fZ.fin j ⟨_,?_,rfl⟩;simp only[execOp,p,j.bU hx,Instr.sliceAt,Instr.slice,kKm,hd,kXb,O,S.gV,kXa]
    grind
   .rename_i n e B;have V:=iG D (Gf B);obtain⟨d,hd,-,J,-⟩:=V.cZ w;obtain rfl:=PI (J ▸ B);split at hl
    .exact hl.elim
    rename_i E;have S:=iG D (iD E);split at hl
    .rename_i b hx;obtain⟨v,C,bR⟩:=uy hl;obtain⟨rfl,rfl⟩:=C;obtain⟨Lo,Hi,Mx,O,rfl⟩:=Fv (P:=P) (A:=A) (g:=false) e1 e2 e3 (bR (λx=>x=v) rfl) w;refine fZ.fin j ⟨_,?_,rfl⟩;simp only[execOp,p,j.bU hx,Instr.sliceAt,Instr.sureAddr,asAddr,kKm,hd,kXb,O,S.gV,kXa,Option.map_some]
     grind
    grind
   .rename_i B;have V:=iG D (show(T.ty t).kd≠.none by rw[B];simp);obtain⟨d,hd,-,J,-⟩:=V.cZ w;obtain rfl:=PH (J ▸ B);split at hl
    .rename_i s hx;split at hl
     .obtain⟨v,C,bR⟩:=zI hl;obtain⟨rfl,rfl⟩:=C;obtain⟨Lo,Hi,Mx,O,rfl⟩:=Pc (P:=P) (A:=A) e1 e2 (bR (λx=>x=v) rfl) w;have ao:mx.map a.eval=none:=by simp_all
      refine fZ.fin j ⟨_,?_,rfl⟩;simp[execOp,p,j.bU hx,Instr.sliceAt,Instr.slice,hd,O,ao]
     grind
    grind
   grind
  grind
 case h_19 b args argTypes p=>-- aq
  have vj:∀(vs:List Value),qB (args.toList.map (Sx.rl env))=some vs->
   (execOp a.eval o)=builtin b argTypes o.type (args.map λ| .const _=>true|_=>false) vs.toArray:=λvs C=>by
   simp only[execOp,p,resolve];rw[kR j C];rfl
  split at hl
  .split at hl
   .rename_i t ht;split at hl
    .rename_i q n r C;split at hl
     .rename_i e B;obtain⟨rfl,rfl⟩:=hl;have V:=iG D (iw B);obtain⟨d,hd,-,J,-⟩:=V.cZ w;obtain rfl:=qO (J ▸ B);refine fZ.fin j ⟨.zI (Int.ofNat n),?_,by simp[tq,A.nat_eq]⟩;rw[vj _ C];simp[builtin,Builtin.len_,ht,hd,goInt]
     grind
    .rename_i s C;split at hl
     .rename_i B;obtain⟨rfl,rfl⟩:=hl;have V:=iG D (show(T.ty t).kd≠.none by rw[B];simp);obtain⟨d,hd,-,J,-⟩:=V.cZ w;obtain rfl:=PH (J ▸ B);refine fZ.fin j ⟨.zI (Int.ofNat s.size),?_,by simp[tq,A.XJ]⟩;rw[vj _ C];simp[builtin,Builtin.len_,ht,hd,goInt]
     grind
    grind
   grind
  .split at hl
   .rename_i t ht;split at hl
    .rename_i q r n C;split at hl
     .rename_i e B;obtain⟨rfl,rfl⟩:=hl;have V:=iG D (iw B);obtain⟨d,hd,-,J,-⟩:=V.cZ w;obtain rfl:=qO (J ▸ B);refine fZ.fin j ⟨.zI (Int.ofNat n),?_,by simp[tq,A.nat_eq]⟩;rw[vj _ C];simp[builtin,Builtin.cap_,ht,hd,goInt]
     grind
    grind
   grind
  .split at hl
   .rename_i I x an y C;obtain⟨rfl,rfl⟩:=hl;refine fZ.fin j ⟨.int I (min x y),?_,by simp[tq,A.aJY]⟩;rw[vj _ C];simp only[builtin,Builtin.min_,ya,mB,Builtin.min2,kKm,kXa,kXb]
    grind
   grind
  .split at hl
   .rename_i I x an y C;obtain⟨rfl,rfl⟩:=hl;refine fZ.fin j ⟨.int I (max x y),?_,by simp[tq,A.aJZ]⟩;rw[vj _ C];simp only[builtin,Builtin.max_,ya,mB,Builtin.max2,kKm,kXa,kXb]
    grind
   grind
  grind
 case h_20 x q as ok p=>-- typeAssert
  split at hl
  .rename_i u Y;obtain⟨r,N,rfl,rfl⟩:=(show uS _ _ _ from hl).out;exact fZ.fin j ⟨r,by simp only[execOp,p,j.bU Y];simp_all,rfl⟩
  grind
 simp_all
variable {P:Program}{T:bt}{A:Ar}[bM A]
variable {ds:List Deferred}{h0:ad}{w0:World}{β:Nat->Nat}{env:Env}{L:Loc}{h:ad}{a:Act}{w:World}
theorem HY(z:List Value):∀(n i:Nat),i<n*z.length->(iT n z)[i]? =z[i % z.length]?
 |0,i,h=>by simp at h
 |n+1,i,h=>by
  unfold iT;rw[kKj,kQG];by_cases hl:i<z.length
  .rw[kQU hl,Nat.mod_eq_of_lt hl]
  rw[kXV ip];have:=HY z n (i-z.length) (by rw[kZi]at h;generalize n*z.length=q at *;omega);unfold iT at this;rw[this,<-Nat.mod_eq_sub_mod ip]
theorem gF(z:List Value)(n:Nat):(iT n z).length=n*z.length:=by simp[iT,List.length_flatten]
theorem range_zero(z:Array Value)(n:Nat):(Array.range (n*z.size)).map (λi=>z[i % z.size]!)=(iT n z.toList).toArray:=by
 apply Array.ext';apply kZq;intro i
 grind [HY,gF]
theorem xS(s:Eo h w){n:Nat}(r:bZg h b (n*size) cs)(x y:Nat):
 (Builtin.firstCells size n (.slice b x y)).run P w=.ok cs.toArray w:=by
 rcases r with⟨a,rfl⟩|⟨q,rfl,r⟩
 .cases b with
  |none=>rfl
  |some q=>simp[Builtin.firstCells,a,loadCells,loadCellsFrom]
 obtain⟨c,g,d⟩:=r.cell s;simp only[Builtin.firstCells];rw[<-g];have:q=⟨q.block,q.off,none⟩:=by cases q;grind
 rw[this];exact run_loadCells_list (P:=P) w _ cs (λj v e=>by
  grind [cQ])
theorem Hy.run(s:Eo h w){q:Addr}{k:ad->Prop}(d:jL cs=true)(hx:Hy h q cs k):
 ∃w' h',(storeCells q cs).run P w=.ok () w'/\k h'/\cj h w h' w':=by
 obtain⟨c,e,fr,f,g,i,a,j⟩:=hx.out;have l:q=⟨q.block,q.off,none⟩:=by cases q;grind
 obtain⟨w',m,n,p,r,t⟩:=qG (P:=P) (b:=q.block) (o:=q.off) (e:=e) (fr:=fr) cs 0 c w (s _ _ g) ip (iu a) d
 grind [cj.set]
theorem yQ.run(s:Eo h w){k:ad->Prop}(a:jL cs=true)(hx:yQ h b cs k):
 ∃w' h',((match b with|some q=>storeCells q cs|none=>pure ()):Sem Unit).run P w=.ok () w'/\k h'/\cj h w h' w':=by
 rcases hx with⟨rfl,c⟩|⟨q,rfl,hx⟩
 .refine⟨w,h,?_,c,cj.refl s⟩;cases b<;>rfl
 exact hx.run s a
theorem Je(n:Nat)(a:256<=n):∀(r c:Nat),c<=2*n->Builtin.growBy n r c<=2*n
 |0,c,h=>h
 |r+1,c,h=>by
  unfold Builtin.growBy;split
  .exact h
  exact Je n a r _ ip
theorem Px(n c:Nat)(h:c<n):Builtin.nextslicecap n c<=2*n:=by
 unfold Builtin.nextslicecap
 grind [Je]
theorem JW:(2:Int)^48=281474976710656:=rfl
theorem Yz:(2:Nat)^48=281474976710656:=rfl
theorem yW(size:Nat)(s:ByteArray)(w:World):(Builtin.firstCells size s.size (.string s)).run P w=.ok (vZ s).toArray w:=by
 have h:s.extract 0 s.size=s:=by
  ext1
  rw[qM];show s.data.extract 0 s.data.size=_;simp
 simp only[Builtin.firstCells,h,kXa];congr 1
 grind [vZ]
theorem uW.run(Y:Eo h w){len n:Nat}{new:List Value}{k:Value->ad->Prop}(hx:uW h b len cap n size bytes e new k)
 {t u:TypeId} {r:Array TypeId} (h0:r[0]? =some t) (l:r[1]? =some u) {g:TypeDesc} (hu:P.underlying t=some (.slice e)) (an:P.underlying u=some g)
 {i:Ti} (V:BQ P e i) (iA:i.size=size) (py:i.bytes=bytes) (hz:i.zero.length=size) {x:Value}
 (vN:(∃q m,x=.slice q n m/\(∀y,g≠.int y)/\bZg h q (n*size) new)\/(∃y k' j,x=.int y j/\g=.int k'/\j.toNat=n/\0<=j/\j<=2^48/\j*bytes<=2^48/\new=iT n i.zero)\/(∃s,x=.string s/\g=.string/\s.size=n/\new=vZ s)) (ty:TypeId):
 ∃v w' h',(Builtin.append_ r ty #[.slice b len cap,x]).run P w=.ok v w'/\k v h'/\cj h w h' w':=by
 obtain⟨z,L,Gh⟩:=V.qF w;have aq:z.cells.size=size:=gg
 have G:∀W,(underlying t).run P W=.ok (.slice e) W:=λW=>by simp[underlying,hu]
 have D:∀W,(underlying u).run P W=.ok g W:=λW=>by simp[underlying,an]
 have F:∀W,(zeroValue e).run P W=.ok z W:=λW=>by
  obtain⟨X,d',z',e1,-,e3,-⟩:=V.ex;simp[zeroValue,typeInfo,e1,e3]at L |-;exact L
 obtain⟨o,K,lG,gQ⟩:∃o,(∀W,(typeInfo e).run P W=.ok o W)/\i.size=o.size/\i.bytes=o.bytes:=by obtain⟨X,d',z',e1,-,e3,-,e4,e5,-⟩:=V.ex;exact⟨X,λW=>by simp[typeInfo,e1],e4,e5⟩
 have T:∀W,(sizeOf e).run P W=.ok size W:=λW=>by rw[V.gV,iA]
 have hm:(∃q m,x=.slice q n m/\(∀y,g≠.int y)/\bZg h q (n*size) new)->(match g with| .int _=>true|_=>false)=false:=λ⟨_,_,_,U,_⟩=>by
  cases g<;>first
   |rfl
   |exact absurd rfl (U _)
 have I:∀m,Builtin.zeroCells z.cells m=(iT m i.zero).toArray:=λm=>by
  unfold Builtin.zeroCells;rw[range_zero,Gh]
 by_cases f:len+n<=cap
 .obtain⟨w',h',k1,k2,k3⟩:=(hx.fits f).run (P:=P) Y hx.one;refine⟨_,w',h',?_,k2,k3⟩;have fin:Sem.run P (match b with
   |some a=>Functor.map (λa=>Value.slice b (len+n) cap) (storeCells (a.add (len*size)) new)
   |x=>pure (Value.slice b (len+n) cap)) w=Result.ok (Value.slice b (len+n) cap) w':=by
   cases b with
   |none=>simp at k1;simp[k1]
   |some q=>simp at k1;simp[k1]
  rcases vN with⟨q,m,rfl,U,O⟩|⟨y,kq,j,rfl,rfl,Q,Nc,ag,ao,rfl⟩|⟨s,rfl,rfl,rfl,rfl⟩
  .have HL:=hm ⟨q,m,rfl,U,O⟩;simp[Builtin.append_,h0,l,G,D,T,HL,Builtin.lenOf,f,xS Y O];exact fin
  rotate_left
  .have As:=yW (P:=P) size s w;simp[Builtin.append_,h0,l,G,D,T,Builtin.lenOf,f,As];exact fin
  have B:IntKind.i64.wrap j=j:=IntWalk.i64_in j ip;have E:¬j<0:=ip
  have J:¬(281474976710656:Int)<j*o.bytes:=gg
  by_cases N:n*size=0
  .have bV:iT n i.zero=[]:=kZh (by rw[gF,hz,N]);rw[bV]at fin;simp[Builtin.append_,h0,l,G,D,T,asInt,asIntOf,B,E,K,J,Q,f,N];exact fin
  simp[Builtin.append_,h0,l,G,D,T,asInt,asIntOf,B,E,K,J,Q,f,N,F,I];exact fin
 obtain⟨b1,b2,YH,ho,ak⟩:=hx.bJg ip;have R:¬(281474976710656<Builtin.nextslicecap (len+n) cap*o.bytes):=by
  have:=Px (len+n) cap ip;have:=kZg o.bytes this;rw[<-gQ,py]at this |-;have e:(2:Nat)^48=281474976710656:=by rfl
  omega
 have S:¬((9223372036854775807:Int)<(len:Int)+n):=by rw[Yz]at b2;omega
 have p:Eo h w.drew:=Y;have Z:(Question.appendCap (len+n) cap e).forced=false:=rfl;obtain⟨c,H⟩:∃c,(Question.appendCap (len+n) cap e).cut (w.tape w.drawn (Question.appendCap (len+n) cap e))=c:=⟨_,rfl⟩;have hc:len+n<=c:=by rw[<-H];simp[Question.cut]
 have hold:(Builtin.firstCells size len (.slice b len cap)).run P w.drew=.ok YH.toArray w.drew:=xS p ho len cap;obtain⟨d,C⟩:∃d,d=iT (c-(len+n)) i.zero:=⟨_,rfl⟩;have Zw:d.length=(c-(len+n))*size:=by rw[C,gF,hz]
 have A:=cj.new p (.cells (YH++new++d).toArray e (0,0));have ar:w.drew.heap.size=w.heap.size:=rfl;refine⟨.slice (some ⟨w.heap.size,0,none⟩) (len+n) c,w.drew.alloc (.cells (YH++(new++d)).toArray e),_,?_,ak w.heap.size c _ d (Y.oG (qA _)) hc Zw rfl,?_⟩;rotate_left
 .rw[<-kJk];exact⟨A.os,A.tape,A.output,A.size,A.EP,A.frame⟩
 rcases vN with⟨q,m,rfl,U,O⟩|⟨y,kq,j,rfl,rfl,Q,Nc,ag,ao,al⟩|⟨s,rfl,rfl,rfl,rfl⟩
 .have HL:=hm ⟨q,m,rfl,U,O⟩;have ab:(Builtin.firstCells size n (.slice q n m)).run P w.drew=.ok new.toArray w.drew:=xS p O n m;simp[Builtin.append_,h0,l,G,D,T,HL,Builtin.lenOf,f,K,R,S,Z,hold,ab,F,I,newRow,H,<-C]
 rotate_left
 .have As:=yW (P:=P) size s w.drew;simp[Builtin.append_,h0,l,G,D,T,Builtin.lenOf,f,K,R,S,Z,hold,As,F,I,newRow,H,<-C]
 have B:IntKind.i64.wrap j=j:=IntWalk.i64_in j gg;have E:¬j<0:=ip
 have J:¬(281474976710656:Int)<j*o.bytes:=gg
 subst Q;have M:¬((9223372036854775807:Int)<(len:Int)+max j 0):=gg
 by_cases N:j.toNat*size=0
 .have bV:new=[]:=by grind [gF]
  simp[Builtin.append_,h0,l,G,D,T,asInt,asIntOf,B,E,K,J,f,R,S,Z,hold,N,F,I,newRow,H,<-C,bV,M]
 simp[Builtin.append_,h0,l,G,D,T,asInt,asIntOf,B,E,K,J,f,R,S,Z,hold,N,F,I,newRow,H,<-C,<-al,M]
variable {P:Program}{T:bt}{A:Ar}[bM A]
variable {ds:List Deferred}{h0:ad}{w0:World}{β:Nat->Nat}{env:Env}{L:Loc}{h:ad}{a:Act}{w:World}
def fQr(Lc L En L':Loc):Prop:=(En=Lc/\L'=L)\/∃s c x y,mM Lc s=some x/\mM L s=some y/\En=vS Lc s c/\L'=vS L s c
theorem rk.run(s:Eo h w){l c:Int}{kl kc:IntKind}{k:Value->ad->Prop}(hx:rk h e l c bytes z k)
 {t:TypeId} (u:P.underlying t=some (.slice e)) {i:Ti} (f:BQ P e i) (H:i.bytes=bytes) (x:i.zero=z) (M:z.length=i.size):
 ∃v w' h',(Instr.makeSlice t (.int kl l) (.int kc c)).run P w=.ok v w'/\k v h'/\cj h w h' w':=by
 obtain⟨D,E⟩:=hx.len;obtain⟨A,B⟩:=hx.room;rw[JW]at A B;obtain⟨q,b,r⟩:=f.qF w;obtain⟨C,a,F,Q⟩:=f.Mb w;have T:=f.gV w;have G:(underlying t).run P w=.ok (.slice e) w:=by simp[underlying,u]
 have p:IntKind.i64.wrap l=l:=IntWalk.i64_in l ip;have J:IntKind.i64.wrap c=c:=IntWalk.i64_in c ip;have y:=cj.new s (.cells (iT c.toNat z).toArray e (0,0));refine⟨_,_,_,?_,hx.out w.heap.size _ (s.oG (qA _)) rfl,y⟩;have g:¬c<0:=ip
 have j:¬((281474976710656:Int)<(C.bytes:Int)*c):=gg
 have n:¬l<0:=ip
 have o:¬c<l:=ip
 have Z:q.cells.size=i.size:=gg
 have d:=range_zero q.cells c.toNat;rw[Z,r,x]at d;by_cases m:c.toNat*i.size=0
 .have V:iT c.toNat z=[]:=kZh (by rw[gF,M,m]);have I:(Array.map (λ(_:Nat)=>(default:Value)) (Array.range 0))= #[]:=io
  simp[Instr.makeSlice,G,asInt,asIntOf,a,p,J,g,j,n,o,T,m,newRow,V,I]
 simp[Instr.makeSlice,G,asInt,asIntOf,a,p,J,g,j,n,o,T,m,newRow,b,Z,d]
theorem TH{n:Nat}(h:n*z.length=0):iT n z=[]:=kZh (by rw[gF,h])
theorem Dz{a b:List Value}(c:jL a=true)(h:jL b=true):jL (a++b)=true:=by
 induction a with
 |nil=>exact h
 |cons x r i=>
  grind [jL,one]
theorem zN(h:jL z=true):∀n,jL (iT n z)=true
 |0=>rfl
 |n+1=>by
  unfold iT;rw[kKj,kQG];exact Dz h (zN h n)
theorem uO(d:il P T){g:FuncId}(f:T.fn g=true)(args:Array Value)(w:World):(callFunc g args).run P w=.ok (.enter g args) w:=by obtain⟨fn,h,a,b⟩:=d.fn g f;obtain⟨c,e⟩:=kJm.1 a;simp[callFunc,h,b,e]
abbrev FW(ro:Option Nat):Fence:={ Fence.wide with round:=ro }
variable {ro:Option Nat}{n:Nat}
def pd(T:bt)(ds:List Deferred)(h0:ad)(w0:World)(Q:Exit->Act->World->Prop):Prop:=
 ∀c β env L h a w,T.kp c (T.rs.map λt=>Sx.rl env (.tmp t)) h->ef ds h0 w0 β env L h a w->Q (.panic c) a w
theorem sX{next:Act->World->Prop}(C:∀c,o.op≠.defer c){r:Result Next}(b:(execOp a.eval o).run P w=r)(h:o.uponIn (FW ro) n P a next Q r):o.wpIn (FW ro) n P a w next Q:=by unfold Oper.wpIn;refine⟨λ_ _=>trivial,?_⟩;rw[Oper.semAt_eq _ _ _ C,b];exact h
theorem AX{r:Next}(h:(execOp a.eval o).run P w=.ok r w')(n:∀d,r≠.defer d):∀c,o.op≠.defer c:=λc b=>by
 simp only[execOp,b,kKm]at h;cases hx:(resolve a.eval c o.type).run P w with
 |ok d e=>rw[hx]at h;simp only[kXb,kXa]at h;grind
 |halt=>rw[hx]at h;cases h
theorem vP{next:Act->World->Prop}{v:Value}(r:(execOp a.eval o).run P w=.ok (.value v) w')(h:next (a.put o.dst v) w'):o.wpIn (FW ro) n P a w next Q:=
 sX (AX r (λ_ e=>by cases e)) r h
theorem Ls{next:Act->World->Prop}(r:(execOp a.eval o).run P w=.ok .skip w')(h:next (a.put o.dst undef) w'):o.wpIn (FW ro) n P a w next Q:=
 sX (AX r (λ_ e=>by cases e)) r h
set_option maxHeartbeats 2000000 in
theorem PN(M:il P T)(p:ef ds h0 w0 β env L h a w){Lc:Loc}(aF:∀s c,mM L s=some c->mM Lc s=some c){k:SV->Loc->ad->Prop}
 (j:hx A T (λ_=>P) o (Sx.rl env) Lc h k) {next:Act->World->Prop} 
 (iZ:pd T ds h0 w0 Q) (hn:∀sv v En L' h' w',k sv En h'->ef ds h0 w0 β (put env o.dst sv) L' h' (a.put o.dst v) w'->fQr Lc L En L'->next (a.put o.dst v) w'):o.wpIn (FW ro) n P a w next Q:=by
 have val:∀ {v:Value} {w':World} {h':ad},(execOp a.eval o).run P w=.ok (.value v) w'->k (.v v) Lc h'->cj h w h' w'->o.wpIn (FW ro) n P a w next Q:=λ{v w' h'} G Ca ha=>
  vP G (hn _ _ _ _ _ _ Ca ((p.step ha).put rfl) (.inl ⟨rfl,rfl⟩))
 have aq:∀ {w':World} {h':ad},(execOp a.eval o).run P w=.ok .skip w'->k (.v undef) Lc h'->cj h w h' w'->o.wpIn (FW ro) n P a w next Q:=λ{w' h'} G Ca ha=>
  Ls G (hn _ _ _ _ _ _ Ca ((p.step ha).put rfl) (.inl ⟨rfl,rfl⟩))
 have I:=p.after.EP;have N:∀ {s:Sem Value},fL (λ_=>P) (λ_=>s) h (λr h'=>k (.v r) Lc h')->execOp a.eval o=(do pure (.value (<-s)))->o.wpIn (FW ro) n P a w next Q:=λ{s} hx E=>by
  obtain⟨v,w',h',B,K,J⟩:=hx.out w I;exact val (by rw[E,kKm,B];rfl) K J
 have ak:∀ {s:Sem Unit},fL (λ_=>P) (λ_=>do s;pure undef) h (λ_ h'=>k (.v undef) Lc h')->execOp a.eval o=(do s;pure .skip)->o.wpIn (FW ro) n P a w next Q:=λ{s} hx E=>by
  obtain⟨v,w',h',B,K,J⟩:=hx.out w I;rw[kKm]at B;cases G:s.run P w with
  |ok u w1=>rw[G]at B;simp only[kXb,kXa]at B;cases B;exact aq (by rw[E,kKm,G];rfl) K J
  |halt=>rw[G]at B;cases B
 unfold hx at j;split at j;case h_1 x C=>-- assign
  have G:(execOp a.eval o).run P w=.ok (.value (a.eval x)) w:=by simp only[execOp,C];rfl
  refine vP G ?_;exact hn _ _ _ _ _ _ j (p.put (p.rl x)) (.inl ⟨rfl,rfl⟩)
 case h_2 t q x C=>-- store
  split at j
  .exact j.elim
  rename_i O;have hi:=iG M (iD O);split at j
  .rename_i v D;split at j
   .exact j.elim
   rename_i iA;have aw:v.cells.size=(T.ty t).size:=gg
   split at j
   .exact j.elim
   rename_i W;have fV:∀ {y:Addr} {w':World},(storeCells y v.cells.toList).run P w=.ok () w'->(Instr.storeAt t (.pointer (some y)) v).run P w=.ok () w':=λ{y w'} G=>by
    simp only[Instr.storeAt,Instr.sureAddr,kKm,kXa,kXb,storeVar,hi.gV,aw];simp[G]
   split at j
   .rename_i s off hq;split at j
    .rename_i c hc;obtain⟨⟨c',yK⟩,aA⟩:=p.tQ hq;have:c'=c:=gg
     subst this;split at j
     .rename_i hd;have az:=kZr hd;obtain⟨-,-,e,E⟩:=p.loc s c' yK;obtain⟨w',B,K,J,k4,k5⟩:=qG (P:=P) (b:=β s) (o:=off) (e:=e) (fr:=(0,0)) v.cells.toList 0 c'.toArray w E (iu az) io W;have G:(execOp a.eval o).run P w=.ok .skip w':=by simp only[execOp,C,aA,p.bU D,kKm,fV B,kXb,kXa]
      refine Ls G ?_;refine hn _ _ _ (vS L s (iv c' off v.cells.toList)) _ _ j (ef.put ?_ rfl) (.inr ⟨s,_,c',c',hc,yK,rfl,rfl⟩);refine p.bKo yK (λe' aE=>?_) J k4 k5
      grind
     grind
    grind
   .rename_i y hq;obtain⟨w',h',B,K,J⟩:=(show Hy h y v.cells.toList _ from j).run (P:=P) I W;exact aq (by simp only[execOp,C,p.bU hq,p.bU D,kKm,fV B,kXb,kXa]) K J
   grind
  grind
 case h_3 e C=>-- alloc
  split at j
  .exact j.elim
  rename_i O;obtain⟨z,hz,Gh⟩:=(iG M (iD O)).qF w;refine val ?_ (j w.heap.size _ (I.oG (qA _)) rfl) (cj.new I _);simp only[execOp,C,Instr.alloc,kKm,hz,kXb,newVar,newRow,run_newObj,kXa];rw[<-Gh]
 case h_4 e x C=>-- box
  split at j
  .rename_i v D;refine val ?_ (j w.heap.size _ (I.oG (qA _)) rfl) (cj.new I _);simp only[execOp,C,Instr.box,kKm,kXb,newVar,newRow,run_newObj,kXa,p.bU D]
  grind
 case h_5 t len parts C=>-- buildSlice
  split at j
  .rename_i e E;have jV:=iG M (iw E);obtain⟨d,hd,Sw,O,-⟩:=jV.cZ w;obtain rfl:=qO (O ▸ E);split at j
   .exact j.elim
   rename_i Z;have R:=iG M (iD Z);split at j
   .rename_i ps Zy;split at j
    .rename_i ao MM;have ao:len*(T.ty e).size<=2^24:=kZr ao;have PJ:(T.ty e).zero.length=(T.ty e).size:=gg
     split at j
     .rename_i cs ar;refine val ?_ (j w.heap.size _ (I.oG (qA _)) rfl) (cj.new I _);obtain⟨zz,al,Gh⟩:=R.qF w;have Zi:zz.cells.size=(T.ty e).size:=gg
      have an:=range_zero zz.cells len;rw[Zi,Gh]at an;have zT:(parts.map λ(i,x)=>(i,a.eval x))=ps.toArray:=by
       rw[<-wO p Zy]
       grind
      have Y:=fill_eq (λi=>some (i*(T.ty e).size,(T.ty e).size)) ps (iT len (T.ty e).zero).toArray cs (iu ar);have aC:¬(2^24<len*(T.ty e).size):=ip
      by_cases mN:len*(T.ty e).size=0
      .have bV:iT len (T.ty e).zero=[]:=TH (by rw[PJ,mN]);rw[bV]at Y;have yI:(Array.map (λ(_:Nat)=>(default:Value)) (Array.range 0))= #[]:=io
       simp only[List.toArray]at Y;simp[execOp,C,Instr.buildSlice,hd,R.gV,mN,zT,Y,newRow,yI]
      have ax:¬(16777216<len*(T.ty e).size):=aC;simp[execOp,C,Instr.buildSlice,hd,R.gV,ax,mN,zT,Y,newRow,al,Zi,an]
     grind
    grind
   grind
  grind
 case h_6 t l c C=>-- makeSlice
  split at j
  .rename_i e E;have jV:=iG M (iw E);obtain⟨d,hd,Sw,O,-⟩:=jV.cZ w;obtain rfl:=qO (O ▸ E);split at j
   .exact j.elim
   rename_i Z;have R:=iG M (iD Z);split at j
   .rename_i kl l' hl;split at j
    .rename_i kc c' hc;split at j
     .rename_i MM;obtain⟨v,w',h',B,K,J⟩:=rk.run (P:=P) (kl:=kl) (kc:=kc) I j Sw R rfl rfl (iu MM);exact val (by simp only[execOp,C,p.bU hl,p.bU hc,kKm,B,kXb,kXa]) K J
     grind
    grind
   grind
  grind
 case h_7 t r C=>-- makeMap
  split at j
  .exact val (by simp[execOp,C,Instr.makeMap]) (j w.heap.size _ (I.oG (qA _)) rfl) (cj.new I _)
  grind
 case h_8 f args argTypes C=>-- call
  split at j
  .rename_i g first cap hf
   split at j
   .rename_i V has;split at j
    .rename_i hg;have G:(execOp a.eval o).run P w=.ok (.enter g (first++V.toArray++cap)) w:=by simp only[execOp,C,resolve,p.bU hf,kR p has,Deferred.ofValue,kKm,kXa,kXb,invoke,uO M hg]
     refine sX (AX G (λ_ e=>by cases e)) G ?_;refine⟨λhd=>by simp[FW,Fence.wide]at hd,?_⟩;have E:(first.toList++V++cap.toList).toArray=first++V.toArray++cap:=by apply Array.ext';simp
     split at j
     .have:=callsIn_wide (n:=n-1).2 ((show Wg _ _ _ _ _ _ from j).out w I);rw[E]at this;refine CallsIn.mono (F:=FW ro) (show CallsIn (FW ro) (n-1) P g _ w _ from this) λe w' hq=>?_;rcases hq with⟨v,h',W,h2,h3⟩|⟨c,h',W,h2,h3⟩
      .subst W;exact hn _ _ _ _ _ _ h2 ((p.step h3).put rfl) (.inl ⟨rfl,rfl⟩)
      subst W;exact iZ c _ _ _ _ _ _ h2 (p.step h3)
     have:=callsIn_wide (n:=n-1).2 ((show Hl _ _ _ _ _ from j).out w I);rw[E]at this;refine CallsIn.mono (F:=FW ro) (show CallsIn (FW ro) (n-1) P g _ w _ from this) λe w' ⟨v,h',W,h2,h3⟩=>?_;subst W;exact hn _ _ _ _ _ _ h2 ((p.step h3).put rfl) (.inl ⟨rfl,rfl⟩)
    obtain⟨v,w',h',B,K,J⟩:=(show fL _ _ _ _ from j).out w I;refine val ?_ K J;have E:(first.toList++V++cap.toList).toArray=first++V.toArray++cap:=by
     grind
    simp only[Da]at B;rw[E,kKm]at B;simp only[execOp,C,resolve,p.bU hf,kR p has,Deferred.ofValue,kKm,kXa,kXb,invoke];cases G:(callFunc g (first++V.toArray++cap)).run P w with
    |ok n w1=>
     rw[G]at B;simp only[kXb]at B;cases n with
     |value z=>simp only[kXa]at B;cases B;rfl
     |_=>simp at B
    |halt=>rw[G]at B;cases B
   grind
  .rename_i l first cap hf
   split at j
   .rename_i V has;obtain⟨fn,ag,DM,ab,g1,S⟩:=(show bQX _ _ _ _ _ from j).out w I;have E:(first.toList++V).toArray=first++V.toArray:=by
     grind
    have G:(execOp a.eval o).run P w=.ok (.round l fn ag DM ab) w:=by rw[E]at g1;simp only[execOp,C,resolve,p.bU hf,kR p has,Deferred.ofValue,kKm,kXa,kXb,invoke,g1]
    refine sX (AX G (λ_ e=>by cases e)) G ?_;refine⟨λhd=>by simp[FW,Fence.wide]at hd,?_⟩;refine RoundIn.mono (F:=FW ro) (show RoundIn (FW ro) (n-1) P l fn ag DM ab w _ from S (n-1)) λe w' ⟨v,h',W,h2,h3⟩=>?_;subst W;exact hn _ _ _ _ _ _ h2 ((p.step h3).put rfl) (.inl ⟨rfl,rfl⟩)
   grind
  grind
 case h_9 b args argTypes C=>-- aD
  have vj:∀(vs:List Value),qB (args.toList.map (Sx.rl env))=some vs->
   (execOp a.eval o)=builtin b argTypes o.type (args.map λ| .const _=>true|_=>false) vs.toArray:=λvs D=>by
   simp only[execOp,C,resolve];rw[kR p D];rfl
  split at j
  .split at j -- append
   .rename_i t u ht H;split at j
    .rename_i e E;have jV:=iG M (iw E);obtain⟨d,hd,Sw,O,-⟩:=jV.cZ w;obtain rfl:=qO (O ▸ E);split at j
     .exact j.elim
     rename_i Z;have R:=iG M (iD Z);split at j
     .exact j.elim
     rename_i MM;have PJ:(T.ty e).zero.length=(T.ty e).size:=gg
     split at j
     .rename_i b' len cap x n q D;split at j
      .rename_i e2 X;obtain⟨d2,-,U,ZU,-⟩:=(iG M (iw X)).cZ w;obtain rfl:=qO (ZU ▸ X);obtain⟨new,g1,S⟩:=(show iF _ _ _ _ _ _ _ _ _ _ from j).out;obtain⟨v,w',h',B,K,J⟩:=S.run (P:=P) I ht H Sw U R rfl rfl PJ (.inl ⟨x,q,rfl,λ_=>io,g1⟩) o.type;exact val (by rw[vj _ D];simp only[builtin,kKm,B,kXb,kXa]) K J
      grind
     .rename_i b' len cap s D;split at j
      .rename_i X;obtain⟨d2,-,U,ZU,-⟩:=(iG M (show(T.ty u).kd≠.none by rw[X];simp)).cZ w;obtain rfl:d2=.string:=by rw[ZU]at X;cases d2<;>simp[qQ]at X;rfl
       obtain⟨v,w',h',B,K,J⟩:=uW.run (P:=P) I j ht H Sw U R rfl rfl PJ (x:=.string s) (.inr (.inr ⟨s,rfl,rfl,rfl,rfl⟩)) o.type;exact val (by rw[vj _ D];simp only[builtin,kKm,B,kXb,kXa]) K J
      grind
     .rename_i b' len cap kk n D;split at j
      .rename_i X;obtain⟨d2,-,U,ZU,-⟩:=(iG M (show(T.ty u).kd≠.none by rw[X];simp)).cZ w;obtain⟨k',rfl⟩:∃k',d2=.int k':=by
        rw[ZU]at X;cases d2<;>simp[qQ]at X
        grind
       obtain⟨⟨c1,c2,c3⟩,S⟩:=(show vI _ _ from j);have S:=S.out;rw[show A.nR n 0=n.toNat by rw[A.Dd];simp]at S;obtain⟨v,w',h',B,K,J⟩:=uW.run (P:=P) I S ht H Sw U R rfl rfl PJ (x:=.int kk n) (.inr (.inl ⟨kk,k',n,rfl,rfl,rfl,c1,c2,c3,rfl⟩)) o.type;exact val (by rw[vj _ D];simp only[builtin,kKm,B,kXb,kXa]) K J
      grind
     grind
    grind
   grind
  .split at j -- copy
   .rename_i t ht;split at j
    .rename_i e E;have jV:=iG M (iw E);obtain⟨d,hd,Sw,O,-⟩:=jV.cZ w;obtain rfl:=qO (O ▸ E);split at j
     .exact j.elim
     rename_i Z;have R:=iG M (iD Z);split at j
     .rename_i b' len q x n q' D;obtain⟨cs,g1,S,g3⟩:=(show zy _ _ _ _ _ _ _ from j).out;obtain⟨w',h',B,K,J⟩:=g3.run (P:=P) I S;refine val ?_ K J;rw[vj _ D];have hf:=xS (P:=P) I g1 n q';have HK:Nat.min n len=min n len:=rfl;simp[builtin,Builtin.copy_,ht,hd,Builtin.lenOf,R.gV,HK,hf,goInt];cases b' with
      |none=>simp at B;simp[B]
      |some y=>simp at B;simp[B]
     grind
    grind
   grind
  .split at j -- clear
   .rename_i t ht;split at j
    .rename_i e E;have jV:=iG M (iw E);obtain⟨d,hd,Sw,O,-⟩:=jV.cZ w;obtain rfl:=qO (O ▸ E);split at j
     .exact j.elim
     rename_i Z;have R:=iG M (iD Z);split at j
     .exact j.elim
     rename_i MM;have PJ:(T.ty e).zero.length=(T.ty e).size:=gg
     split at j
     .rename_i b' len q D;obtain⟨S,g3⟩:=(show Aj _ _ _ _ _ from j);obtain⟨w',h',B,K,J⟩:=g3.run (P:=P) I (zN S len);refine val ?_ K J;rw[vj _ D];obtain⟨zz,al,Gh⟩:=R.qF w;have aB:Builtin.zeroCells zz.cells len=(iT len (T.ty e).zero).toArray:=by unfold Builtin.zeroCells;rw[range_zero,Gh]
      cases b' with
      |none=>simp at B;subst B;simp[builtin,Builtin.clear_,ht,hd]
      |some y=>
       simp at B;cases len with
       |zero=>have:iT 0 (T.ty e).zero=[]:=rfl;rw[this]at B;simp[storeCells]at B;subst B;simp[builtin,Builtin.clear_,ht,hd]
       |succ m=>simp[builtin,Builtin.clear_,ht,hd,al,aB,B]
     grind
    grind
   grind
  .split at j -- delete
   .rename_i V has;exact N j (by rw[vj _ has];rfl)
   grind
  grind
 case h_10 src dst x C=>-- convert
  split at j
  .rename_i u H;exact N j (by simp only[execOp,C,p.bU H])
  grind
 case h_11 t x i b C=>-- lookup
  split at j
  .rename_i u H;split at j
   .rename_i v D;exact N j (by simp only[execOp,C,p.bU H,p.bU D])
   grind
  grind
 case h_12 t m i x C=>-- mapUpdate
  split at j
  .rename_i u H;split at j
   .rename_i v D;split at j
    .rename_i z hz;exact ak j (by simp only[execOp,C,p.bU H,p.bU D,p.bU hz])
    grind
   grind
  grind
 case h_13 t m i C=>-- mapEntry
  split at j
  .rename_i u H;split at j
   .rename_i v D;exact N j (by simp only[execOp,C,p.bU H,p.bU D])
   grind
  grind
 case h_14 t m i x C=>-- entryStore
  split at j
  .rename_i u H;split at j
   .rename_i v D;split at j
    .rename_i z hz;exact ak j (by simp only[execOp,C,p.bU H,p.bU D,p.bU hz])
    grind
   grind
  grind
 case h_15 t x C=>-- range
  split at j
  .rename_i u H;exact N j (by simp only[execOp,C,p.bU H])
  grind
 case h_16 it str C=>-- next
  split at j
  .rename_i u H;exact N j (by simp only[execOp,C,p.bU H])
  grind
 case h_17 it C=>-- entry
  split at j
  .rename_i u H;exact N j (by simp only[execOp,C,p.bU H])
  grind
 case h_18 t m i x C=>-- insert
  split at j
  .rename_i u H;split at j
   .rename_i v D;split at j
    .rename_i z hz;exact ak j (by simp only[execOp,C,p.bU H,p.bU D,p.bU hz])
    grind
   grind
  grind
 case h_19 x C=>-- panic
  split at j
  .rename_i t v D;have G:(execOp a.eval o).run P w=.halt (.panic (.iface t v)) w:=by simp only[execOp,C,p.bU D,kKm,show(Instr.panic (.iface t v)).run P w=.halt (.panic (.iface t v)) w from rfl];rfl
   refine sX (λc hc=>gg) G ?_;rw[Oper.uponIn_panic];exact iZ _ _ _ _ _ _ _ j p
  grind
 grind
end Go.Sx
