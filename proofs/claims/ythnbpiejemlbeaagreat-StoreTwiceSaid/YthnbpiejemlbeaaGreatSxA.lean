import Derived.OrdersIn
import Derived.RangeFuncRecord
import Derived.Sort.LoopGhostIn
import Derived.Laws.Cells
import Derived.Laws.StructEq
import Derived.IntWalk
set_option linter.all false
namespace Go
abbrev zcL t l:=some (Obj.cells (List.toArray l) t (0,0))
abbrev Value.zP b:=Value.pointer (some ⟨b,0,none⟩)
abbrev zsA b:=some (⟨b,0,none⟩:Addr)
def zuR n l:=List.replicate n (Value.int .u8 0)++l
end Go
namespace Go
def kB:= @Nat.le_refl
def jKl:= @Nat.le_trans
def kZn:= @Array.getElem?_eq_none
def nX:= @Sem.run_bind
def ff:= @List.getElem?_eq_some_iff
def kQt:= @Nat.add_zero
def kZj:= @List.getElem?_cons_zero
def kZm:= @Bool.and_eq_false_iff
def wS:= @List.length_cons
def kXf:= @Array.getElem?_modify
def kXG:= @Array.toList_setIfInBounds
def kQc:= @Nat.add_assoc
def yz:= @List.getD_eq_getElem?_getD
def jKc:= @Array.getElem?_eq_some_iff
def VS:= @List.getElem?_set
def jKg:= @Array.getD_eq_getD_getElem?
def kXC:= @Array.getElem?_setIfInBounds_self_of_lt
def kXB:= @Array.getElem?_setIfInBounds_ne
def kQs:= @List.map_cons
def kXR:= @List.zipIdx_cons
def kQr:= @List.foldl_cons
def kXQ:= @Array.foldl_toList
def kXP:= @List.mapM_cons
def mB:= @Result.andThen_ok
def va:= @Sem.run_pure
def kXo:= @Array.mapM_eq_mapM_toList
def kXn:= @Sem.run_map
def kZl:= @List.getElem?_toArray
def qH:= @List.getElem?_take
def rB:= @List.getElem?_drop
def lA:= @of_decide_eq_true
def kZk:= @List.all_cons
def ya:= @Bool.and_eq_true
def NB:= @decide_eq_true_eq
def jKS:= @List.drop_drop
def kQh:= @Nat.add_comm
def kQq:= @Bool.not_eq_true'
def kS:= @List.getElem?_map
def kQg:= @Option.isSome_iff_exists
def kQf:= @Array.getElem?_eq_getElem
def kXm:= @Array.toList_extract
def kQb:= @Array.getElem?_toList
def kXO:= @List.foldlM_cons
def kXN:= @List.foldlM_nil
def kXl:= @List.replicate_succ
def jKR:= @List.flatten_cons
def kQa:= @List.getElem?_append_left
def kQe:= @List.getElem?_append_right
def jKi:= @Nat.succ_mul
def yr:= @List.ext_getElem?
def jKj:= @Nat.eq_zero_or_pos
def kQp:= @Nat.mod_lt
def yo:= @List.getElem?_eq_none
def kXk:= @ByteArray.data_extract
def kh:= @List.eq_nil_of_length_eq_zero
def za:= @Nat.mul_le_mul_right
def ym:= @List.append_assoc
def kXj:= @List.cons_append
def xz:= @List.mem_map
def jKZ:= @List.map_congr_left
def kXd:= @Array.toList_append
def wy:= @List.mem_append
def jKy:= @List.all_eq_true
def kXi:= @Bool.not_true
def kXc:= @Bool.false_or
def kQd:= @List.contains_eq_mem
def kQL:= @Bool.or_eq_true
def kZi:= @Array.getElem?_setIfInBounds
def kZh:= @List.mem_append_right
def kXM:= @List.mem_append_left
def kQK:= @List.getElem?_set_ne
def jKx:= @List.getElem?_set_self
def xl:= @List.mem_cons
def kQJ:= @List.mem_cons_self
def jKQ:= @List.mem_cons_of_mem
def kQI:= @Nat.le_of_not_lt
def jKw:= @Bool.false_eq_true
def jKn:= @List.mem_filter
def kQo:= @Bool.true_or
def kXL:= @Bool.not_false
def jKP:= @Bool.true_and
def kZg:= @List.eq_nil_iff_forall_not_mem
def kXb:= @List.mem_range
def kXh:= @List.all_eq_false
def kZf:= @List.countP_le_length
def kXg:= @Array.getElem?_replicate
def jKO:= @List.getElem?_append
def zG:= @List.getElem?_eq_getElem
def kXK:= @Array.getElem?_append_left
def kXa:= @List.getElem?_replicate
def kXJ:= @Array.getElem?_append_right
def jKv:= @Option.getD_some
def HH:= @Int.toNat_natCast
def kXe:= @Nat.mul_le_mul_left
def cy:= @List.length_append
def jKm:= @Nat.add_mul
def rz:= @Int.ofNat_eq_natCast
def kXI:= @Int.ofNat_le
def kXH:= @Int.natCast_mul
def tT:= @Nat.zero_add
def jKD:= @List.getElem?_singleton
def wM:= @Nat.lt_or_ge
def jKN:= @Int.fdiv_eq_ediv_of_nonneg
def SW:= @List.mem_singleton
def cK:= @List.mem_of_getElem?
def rK:= @List.getElem?_of_mem
def kQm:= @Nat.lt_trichotomy
def wL:= @List.pairwise_iff_getElem
def bn:= @decide_eq_false
def kz:= @of_decide_eq_false
def eA:= @List.length_take
def iz:= @List.length_drop
def jKf:= @Nat.min_eq_left
def kXF:= @Nat.add_le_add_left
def kQH:= @Nat.mul_le_mul
def vv:= @List.append_nil
def Bk:= @List.take_length
def RR:= @List.drop_eq_nil_of_le
def ie:= @List.take_of_length_le
def qM:= @List.take_add_one
def jKu:= @List.take_append_drop
def nr:= @Nat.zero_le
def kZe:= @List.set_eq_take_append_cons_drop
def jKq:= @List.map_map
def vi:= @List.length_map
def kQZ:= @Array.toList_filter
def kQG:= @List.filter_filter
def kZd:= @Array.contains_eq_mem
def kZc:= @Bool.not_eq_eq_eq_not
def jKY:= @List.getElem_map
def jKe:= @List.length_filter_le
def kXE:= @List.length_filter_eq_length_iff
def jKX:= @List.drop_left
def yk:= @List.length_nil
def kQl:= @List.take_append_of_le_length
def jKM:= @List.eraseIdx_eq_take_drop_succ
def nM:= @List.length_set
def jKp:= @Nat.mul_one
def Rs:= @List.drop_eq_getElem_cons
def jKL:= @List.any_eq_true
def kZb:= @List.find?_eq_some_iff_getElem
def kZa:= @List.mem_zipIdx_iff_getElem?
def ak:= @decide_eq_true
def kQY:= @List.any_eq_false
def kQF:= @List.drop_length
def jKK:= @List.take_take
def kQX:= @Nat.min_self
def kQE:= @List.map_take
def kQD:= @List.map_drop
def jKC:= @List.filter_append
def jKW:= @Nat.sub_zero
def GD:= @Nat.sub_self
def kQW:= @List.drop_succ_cons
def jKJ:= @Decidable.not_not
def kXD:= @Bool.and_true
def kXZ:= @List.getElem?_zipWith
def kQC:= @Nat.le_of_lt
def kQV:= @List.findIdx?_eq_none_iff
def kQU:= @List.findIdx?_eq_some_iff_getElem
def qA:= @List.length_singleton
def kQT:= @Nat.lt_or_gt_of_ne
def jKI:= @List.map_set
def kQB:= @List.getElem_set
def jKH:= @List.map_append
def jKB:= @List.filter_cons_of_neg
def jKV:= @List.filter_cons_of_pos
def jKt:= @Int.le_refl
def kQS:= @Int.tmod_lt_of_pos
def kQR:= @Int.lt_tmod_of_pos
def kQQ:= @Int.tmod_eq_emod
def jKh:= @Int.emod_nonneg
def jKG:= @Int.emod_lt_of_pos
def jKo:= @Array.length_toList
def kQA:= @UInt8.toNat_inj
def kXY:= @Int.ofNat_inj
def kQk:= @UInt8.lt_iff_toNat_lt
def kQP:= @List.takeWhile_cons_of_pos
def np:= @List.nil_append
def kQz:= @Int.tdiv_eq_ediv_of_nonneg
def kQj:= @List.length_eraseIdx_of_lt
def jKs:= @List.mem_or_eq_of_mem_set
def kQi:= @List.drop_zero
def kXA:= @List.rel_of_pairwise_cons
def kQy:= @List.getElem_of_mem
def kQO:= @List.eraseIdx_sublist
def kXX:= @List.mem_eraseIdx_iff_getElem
def jKF:= @List.length_pos_iff
def kXz:= @UInt8.toNat_ofNat'
def yl:= @List.length_replicate
def jKA:= @List.mem_iff_getElem?
def jKd:= @List.mem_of_mem_drop
def jKk:= @List.mem_of_mem_take
def jKz:= @List.drop_of_length_le
def kXy:= @List.length_eq_zero_iff
def jKr:= @Nat.le_succ
def jKU:= @Int.tmod_eq_emod_of_nonneg
def kXW:= @Nat.min_eq_right
def kQx:= @List.not_mem_nil
def kQN:= @List.set_append_right
def kQw:= @List.length_range
def kXV:= @List.length_zip
def kXx:= @List.getElem?_zip_eq_some
def kXU:= @List.getElem?_eq_none_iff
def jKE:= @List.pairwise_append
def kXw:= @UInt8.lt_irrefl
def kXv:= @List.mem_map_of_mem
def kXT:= @Nat.min_le_right
def kXu:= @List.mem_eraseIdx_iff_getElem?
def kXt:= @List.takeWhile_cons_of_neg
def kXs:= @List.takeWhile_sublist
def kXr:= @List.prefix_iff_eq_take
def kXq:= @List.takeWhile_prefix
def kXp:= @List.singleton_append
def jKT:= @List.pairwise_cons
def kQv:= @List.pairwise_singleton
def kXS:= @List.take_left
def kQu:= @List.getLast?_eq_getElem?
end Go
namespace Go.Sx
variable {next:Act->World->Prop}{g:Bool}{Q:Exit->Act->World->Prop}{f:FuncId}{fs:List (Nat×Nat)}{args c cs z:List Value}{bytes cap e s size:Nat}{fr:Nat×Nat}{o:Oper}{y:Operand}{b:Option Addr}{d:TypeDesc}{p:Unit->Program}{r u:Value}{k:Value->Prop}{w':World}
abbrev ad:=Nat->Option Obj
def DC(h:ad)(w:World):Prop:=∀b o,h b=some o->w.heap[b]? =some o
structure bT(h:ad)(w:World)(h':ad)(w':World):Prop where
 os:w'.os=w.os
 tape:w'.tape=w.tape
 output:w'.output=w.output
 size:w.heap.size<=w'.heap.size
 Ee:DC h' w'
 frame:∀b,b<w.heap.size->h b=none->w'.heap[b]? =w.heap[b]? /\h' b=none
def Fn(P:Program)(f:FuncId)(args:List Value)(h:ad)(R:Value->ad->Prop):Prop:=
 ∀w,DC h w->Calls P f args.toArray w λe w'=>∃v h',e=.returned v/\R v h'/\bT h w h' w'
structure Gt(p:Unit->Program)(f:FuncId)(args:List Value)(h:ad)(R:Value->ad->Prop):Prop where
 out:Fn (p ()) f args h R
structure UG(p:Unit->Program)(f:FuncId)(args:List Value)(h:ad)(R:Value->ad->Prop)(K:List PanicEntry->ad->Prop):Prop where
 out:∀w,DC h w->Calls (p ()) f args.toArray w λe w'=>(∃v h',e=.returned v/\R v h'/\bT h w h' w')\/(∃c h',e=.panicked c/\K c h'/\bT h w h' w')
structure aKD(p:Unit->Program)(l:Nat)(args:List Value)(h:ad)(R:Value->ad->Prop):Prop where
 out:∀w,DC h w->∃fn tmps CY body,(Instr.yield l args.toArray).run (p ()) w=.ok (.round l fn tmps CY body) w/\∀n,RoundIn Fence.wide n (p ()) l fn tmps CY body w λe w'=>∃v h',e=.returned v/\R v h'/\bT h w h' w'
def bL(h:ad)(n:Nat)(o:Obj):ad:=λb=>if b=n then some o else h b
def je(a:Option Addr)(i:Int)(size:Nat):Addr:=((a.getD ⟨0,0,none⟩).add (i.toNat*size))
def aT(op:BinOp)(k:IntKind)(a b:Int):Int:=
 match op with
 | .add=>k.wrap (a+b)
 | .sub=>k.wrap (a-b)
 | .mul=>k.wrap (a*b)
 | .quo=>k.wrap (a.tdiv b)
 | .rem=>a.tmod b
 | .and=>k.wrap ((BitVec.ofInt k.bits a&&& BitVec.ofInt k.bits b).toNat)
 | .or=>k.wrap ((BitVec.ofInt k.bits a|||BitVec.ofInt k.bits b).toNat)
 | .xor=>k.wrap ((BitVec.ofInt k.bits a^^^BitVec.ofInt k.bits b).toNat)
 | .andNot=>k.wrap ((BitVec.ofInt k.bits a&&& ~~~ BitVec.ofInt k.bits b).toNat)
 | .shl=>k.wrap (a*2^(min b.toNat k.bits))
 | .shr=>a.fdiv (2^(min b.toNat k.bits))
 |_=>0
def aN(op:BinOp)(a b:Int):Bool:=
 match op with
 | .eql=>a==b
 | .neq=>a !=b
 | .lss=>decide (a<b)
 | .leq=>decide (a<=b)
 | .gtr=>decide (a>b)
 | .geq=>decide (a>=b)
 |_=>false
def kM(op:BinOp)(a b:ByteArray):Bool:=
 match op with
 | .eql=>a.toList==b.toList
 | .neq=> !(a.toList==b.toList)
 | .lss=>Op.bytesLess a.toList b.toList
 | .leq=>Op.bytesLess a.toList b.toList||a.toList==b.toList
 | .gtr=> !(Op.bytesLess a.toList b.toList||a.toList==b.toList)
 | .geq=> !(Op.bytesLess a.toList b.toList)
 |_=>false
def uf(op:BinOp)(a b:Bool):Bool:=
 match op with
 | .eql=>a==b
 | .neq=> !(a==b)
 |_=>false
inductive Tg where
 |je|ix|off|aT|aN|kM|uf|not|and|cat|byte|sub|conv|nat|Cc|cut|nt|my|imax|lC
abbrev Tg.T:Tg->Type
 | .je=>Option Addr->Int->Nat->Addr
 | .ix=>Nat->Int->Nat->Nat
 | .off=>Addr->Nat->Addr
 | .aT=>BinOp->IntKind->Int->Int->Int
 | .aN=>BinOp->Int->Int->Bool
 | .kM=>BinOp->ByteArray->ByteArray->Bool
 | .uf=>BinOp->Bool->Bool->Bool
 | .not=>Bool->Bool
 | .and=>Bool->Bool->Bool
 | .cat=>ByteArray->ByteArray->ByteArray
 | .byte=>ByteArray->Int->Int
 | .sub=>ByteArray->Int->Int->ByteArray
 | .conv=>IntKind->Int->Int
 | .nat=>Nat->Int
 | .Cc=>Option Addr->Bool
 | .cut=>Option Addr->Int->Int->Nat->Option Addr
 | .nt=>Int->Int->Nat
 | .my=>Int->Int->Int
 | .imax=>Int->Int->Int
 | .lC=>ByteArray->Int
abbrev Ar:=(t:Tg)->t.T
def Ar.je(A:Ar):Option Addr->Int->Nat->Addr:=A .je
def Ar.ix(A:Ar):Nat->Int->Nat->Nat:=A .ix
def Ar.off(A:Ar):Addr->Nat->Addr:=A .off
def Ar.aT(A:Ar):BinOp->IntKind->Int->Int->Int:=A .aT
def Ar.aN(A:Ar):BinOp->Int->Int->Bool:=A .aN
def Ar.kM(A:Ar):BinOp->ByteArray->ByteArray->Bool:=A .kM
def Ar.uf(A:Ar):BinOp->Bool->Bool->Bool:=A .uf
def Ar.not(A:Ar):Bool->Bool:=A .not
def Ar.and(A:Ar):Bool->Bool->Bool:=A .and
def Ar.cat(A:Ar):ByteArray->ByteArray->ByteArray:=A .cat
def Ar.byte(A:Ar):ByteArray->Int->Int:=A .byte
def Ar.sub(A:Ar):ByteArray->Int->Int->ByteArray:=A .sub
def Ar.conv(A:Ar):IntKind->Int->Int:=A .conv
def Ar.nat(A:Ar):Nat->Int:=A .nat
def Ar.Cc(A:Ar):Option Addr->Bool:=A .Cc
def Ar.cut(A:Ar):Option Addr->Int->Int->Nat->Option Addr:=A .cut
def Ar.nt(A:Ar):Int->Int->Nat:=A .nt
def Ar.my(A:Ar):Int->Int->Int:=A .my
def Ar.imax(A:Ar):Int->Int->Int:=A .imax
def Ar.lC(A:Ar):ByteArray->Int:=A .lC
class bI (A:Ar):Prop where
 je:A .je=Sx.je
 ix:A .ix=λo i n=>o+i.toNat*n
 off:A .off=λa n=>a.add n
 aT:A .aT=Sx.aT
 aN:A .aN=Sx.aN
 kM:A .kM=Sx.kM
 uf:A .uf=Sx.uf
 not:A .not=λb=> !b
 and:A .and=λa b=>a&&b
 cat:A .cat=λa b=>a++b
 byte:A .byte=λs i=>((s.data.getD i.toNat 0).toNat:Int)
 sub:A .sub=λs l h=>s.extract l.toNat h.toNat
 conv:A .conv=λk n=>k.wrap n
 nat:A .nat=Int.ofNat
 Cc:A .Cc=λa=>a.isNone
 cut:A .cut=λa l m size=>if m=l then a else a.map (·.add (l.toNat*size))
 nt:A .nt=λh l=>(h-l).toNat
 my:A .my=λa b=>min a b
 imax:A .imax=λa b=>max a b
 lC:A .lC=λs=>(s.size:Int)
theorem Ar.wG(A:Ar)[bI A]:A.je=Sx.je:=bI.je
theorem Ar.dXo(A:Ar)[bI A]:A.ix=λo i n=>o+i.toNat*n:=bI.ix
theorem Ar.bJP(A:Ar)[bI A]:A.off=λa n=>a.add n:=bI.off
theorem Ar.wO(A:Ar)[bI A]:A.aT=Sx.aT:=bI.aT
theorem Ar.XG(A:Ar)[bI A]:A.aN=Sx.aN:=bI.aN
theorem Ar.Wv(A:Ar)[bI A]:A.kM=Sx.kM:=bI.kM
theorem Ar.Pu(A:Ar)[bI A]:A.uf=Sx.uf:=bI.uf
theorem Ar.not_eq(A:Ar)[bI A]:A.not=λb=> !b:=bI.not
theorem Ar.and_eq(A:Ar)[bI A]:A.and=λa b=>a&&b:=bI.and
theorem Ar.cXU(A:Ar)[bI A]:A.cat=λa b=>a++b:=bI.cat
theorem Ar.aKn(A:Ar)[bI A]:A.byte=λs i=>((s.data.getD i.toNat 0).toNat:Int):=bI.byte
theorem Ar.sub_eq(A:Ar)[bI A]:A.sub=λs l h=>s.extract l.toNat h.toNat:=bI.sub
theorem Ar.aKm(A:Ar)[bI A]:A.conv=λk n=>k.wrap n:=bI.conv
theorem Ar.nat_eq(A:Ar)[bI A]:A.nat=Int.ofNat:=bI.nat
theorem Ar.XC(A:Ar)[bI A]:A.Cc=λa=>a.isNone:=bI.Cc
theorem Ar.Ga(A:Ar)[bI A]:A.cut=λa l m size=>if m=l then a else a.map (·.add (l.toNat*size)):=bI.cut
theorem Ar.Cv(A:Ar)[bI A]:A.nt=λh l=>(h-l).toNat:=bI.nt
theorem Ar.aZE(A:Ar)[bI A]:A.my=λa b=>min a b:=bI.my
theorem Ar.aZF(A:Ar)[bI A]:A.imax=λa b=>max a b:=bI.imax
theorem Ar.Wc(A:Ar)[bI A]:A.lC=λs=>(s.size:Int):=bI.lC
def Ar.iQW:Ar
 | .je=>Sx.je
 | .ix=>λo i n=>o+i.toNat*n
 | .off=>λa n=>a.add n
 | .aT=>Sx.aT
 | .aN=>Sx.aN
 | .kM=>Sx.kM
 | .uf=>Sx.uf
 | .not=>λb=> !b
 | .and=>λa b=>a&&b
 | .cat=>λa b=>a++b
 | .byte=>λs i=>((s.data.getD i.toNat 0).toNat:Int)
 | .sub=>λs l h=>s.extract l.toNat h.toNat
 | .conv=>λk n=>k.wrap n
 | .nat=>Int.ofNat
 | .Cc=>λa=>a.isNone
 | .cut=>λa l m size=>if m=l then a else a.map (·.add (l.toNat*size))
 | .nt=>λh l=>(h-l).toNat
 | .my=>λa b=>min a b
 | .imax=>λa b=>max a b
 | .lC=>λs=>(s.size:Int)
theorem Ar.ex:∃A:Ar,bI A:=⟨Ar.iQW,⟨rfl,rfl,rfl,rfl,rfl,rfl,rfl,rfl,rfl,rfl,rfl,rfl,rfl,rfl,rfl,rfl,rfl,rfl,rfl,rfl⟩⟩
inductive Kd where
 |none
 |fKw
 |bool
 |int (k:IntKind)
 |str
 |cT (fs:List (Nat×Nat))
 |arr (n e:Nat)
 |qG (e:Nat)
 |mp (k e:Nat)
 |ptr (e:Nat)
 |fn
 |hXb
 deriving Inhabited
structure Ti where
 flat:Bool
 agg:Bool
 size:Nat
 bytes:Nat
 zero:List Value
 kd:Kd
def Ti.none:Ti:=⟨false,false,0,0,[],.none⟩
def pU:TypeDesc->Kd
 | .bool=>.bool
 | .int k=>.int k
 | .string=>.str
 | .struct fs=>.cT (fs.toList.map λf=>(f.type,f.offset))
 | .array n e=>.arr n e
 | .slice e=>.qG e
 | .map k e=>.mp k e
 | .pointer e=>.ptr e
 | .func .. =>.fn
 | .interface _=>.hXb
 |_=>.fKw
def Pe(P:Program)(t:TypeId):TypeDesc->Bool
 | .struct fs=> !P.eqGuardType P.depth t&& !P.stoodInHeld t&&(fs.toList.zipIdx.all λ(f,i)=>f.offset==i&&decide (f.name≠ "_")&&(match P.info? f.type,P.underlying f.type with
  |some i,some .bool|some i,some (.int _) |some i,some .string=>i.size==1
  |_,_=>false))
 |_=>false
def bJU(P:Program)(t:TypeId):Ti:=
 match P.info? t,P.underlying t with
 |some i,some d=>
  match i.zero with
  |some z=>⟨Pe P t d,match d with| .struct _| .array _ _=>true|_=>false,i.size,i.bytes,z.cells.toList,pU d⟩
  |none=>.none
 |_,_=>.none
inductive ye where
 |done
 |aa (i:Nat) (rest:ye)
 |af (i:Nat) (pins:List Nat) (rest:ye)
 |fork (l r:ye)
 deriving Inhabited
inductive SV where
 |v (x:Value)
 |loc (s off:Nat)
 |u
 deriving Inhabited
structure bg where
 ty:Nat->Ti
 fn:Nat->Bool
 aw:Nat->ye
 bq:Nat->Bool
 iXR:Nat->Bool:=λ_=>false
 rs:List Nat:=[]
 kp:List PanicEntry->List SV->ad->Prop:=λ_ _ _=>False
structure gV(P:Program)(T:bg):Prop where
 ty:∀t,T.ty t=bJU P t\/T.ty t=.none
 fn:∀f,T.fn f=true->∃fn,P.funcs[f]? =some fn/\fn.body.isSome=true/\fn.name≠ "runtime.NumGoroutine"
 mixed:P.follows .mixedOrders=true
abbrev Env:=List SV
abbrev Loc:=List (Nat×List Value)
def mg:Loc->Nat->Option (List Value)
 | [],_=>none
 | (s,c)::r,t=>if s=t then some c else mg r t
def vh:Loc->Nat->List Value->Loc
 | [],_,_=>[]
 | (s,c)::r,t,d=>if s=t then(s,d)::r else(s,c)::vh r t d
def qi(env:Env):Operand->SV
 | .tmp t=>env.getD t .u
 | .const v=>.v v
 | .global g=>.v (.zP g)
 | .func f=>.v (.func (.func f) #[] #[])
def pK:List SV->Option (List Value)
 | []=>some []
 | .v x::r=>match pK r with
  |some l=>some (x::l)
  |none=>none
 |_::_=>none
structure uW(p:Unit->Prop)(k:Unit->Prop):Prop where
 h:p ()
 out:k ()
def NQ(h:ad)(a:Addr)(n:Nat)(cs:List Value):Prop:=
 a.spot=none/\cs.length=n/\∃c e fr,h a.block=some (.cells c e fr)/\∀i,i<n->c[a.off+i]? =cs[i]?
structure zF(h:ad)(a:Addr)(n:Nat)(k:List Value->Prop):Prop where
 out:∃cs,NQ h a n cs/\k cs
def Ps:Bool->(Unit->Prop)->(Unit->Prop)->Prop
 |true,a,_=>a ()
 |false,_,b=>b ()
def takeN(c:List Value)(off n:Nat):Option (List Value):=
 if off+n<=c.length then some ((c.drop off).take n)else none
def ia(c:List Value)(off:Nat):List Value->List Value
 | []=>c
 |x::r=>ia (c.set off x) (off+1) r
structure uj(p:Unit->Program)(s:Unit->Sem Value)(k:Value->Prop):Prop where
 out:∃v,(∀w,(s ()).run (p ()) w=.ok v w)/\k v
structure fw(p:Unit->Program)(s:Unit->Sem Value)(h:ad)(k:Value->ad->Prop):Prop where
 out:∀w,DC h w->∃v w' h',(s ()).run (p ()) w=.ok v w'/\k v h'/\bT h w h' w'
def Cs(g:FuncId)(args:List Value):Sem Value:=do
 match <-callFunc g args.toArray with
 | .value v=>pure v
 |_=>stuck ""
def aKp(A:Ar)(op:BinOp):Value->Value->Option Value
 | .int k a,.int k' b=>
  match op with
  | .add| .sub| .mul| .and| .or| .xor| .andNot=>if k=k' then some (.int k (A.aT op k a b))else none
  | .eql| .neq| .lss| .leq| .gtr| .geq=>if k=k' then some (.bool (A.aN op a b))else none
  |_=>none
 | .string a,.string b=>
  match op with
  | .eql| .neq| .lss| .leq| .gtr| .geq=>some (.bool (A.kM op a b))
  |_=>none
 |_,_=>none
def MI(A:Ar)(op:BinOp)(a b:Value)(k:Value->Prop)(aJZ:Unit->Prop):Prop:=
 match a with
 | .int ka x=>match b with
  | .int kb y=>match op with
   | .quo| .rem=>match decide (ka=kb)with
    |true=>uW (λ_=>y≠0) (λ_=>k (.int ka (A.aT op ka x y)))
    |false=>aJZ ()
   | .shl| .shr=>uW (λ_=>0<=y) (λ_=>k (.int ka (A.aT op ka x y)))
   |_=>aJZ ()
  |_=>aJZ ()
 | .string x=>match b with
  | .string y=>match op with
   | .add=>uW (λ_=>((x.size+y.size:Nat):Int)<=2^62) (λ_=>k (.string (A.cat x y)))
   |_=>aJZ ()
  |_=>aJZ ()
 |_=>aJZ ()
def one:Value->Bool
 | .agg _| .tuple _=>false
 |_=>true
def jv:List Value->Bool
 | []=>true
 |x::r=>match one x with
  |true=>jv r
  |false=>false
def FU(place:Nat->Option (Nat×Nat))(cells:List Value):List (Nat×Value)->Option (List Value)
 | []=>some cells
 | (i,v)::rest=>
  match place i with
  |none=>none
  |some (off,size)=>
   if v.cells.toList.length≠size||off+v.cells.toList.length>cells.length then none
   else FU place (ia cells off v.cells.toList) rest
def lK(A:Ar)(ty:Nat->Ti):List (Nat×Nat)->List Value->List Value->Option Bool
 | [],[],[]=>some true
 | (t,_)::fs,x::r,y::q=>match (ty t).kd with
  | .int _=>match x with
   | .int k a=>match y with
    | .int k' b=>match decide (k=k')with
     |true=>match lK A ty fs r q with
      |some t=>some (A.and (A.aN .eql a b) t)
      |none=>none
     |false=>none
    |_=>none
   |_=>none
  | .str=>match x with
   | .string a=>match y with
    | .string b=>match lK A ty fs r q with
     |some t=>some (A.and (A.kM .eql a b) t)
     |none=>none
    |_=>none
   |_=>none
  | .bool=>match x with
   | .bool a=>match y with
    | .bool b=>match lK A ty fs r q with
     |some t=>some (A.and (A.uf .eql a b) t)
     |none=>none
    |_=>none
   |_=>none
  |_=>none
 |_,_,_=>none
def neg(A:Ar)(op:BinOp)(b:Bool):Option Value:=
 match op with
 | .eql=>some (.bool b)
 | .neq=>some (.bool (A.not b))
 |_=>none
def cXS(A:Ar)(ty:Nat->Ti)(i:Ti)(op:BinOp)(x y:Value):Option Value:=
 match i.kd with
 | .qG _=>match x with
  | .slice b _ _=>match y with
   | .slice none _ _=>neg A op (A.Cc b)
   |_=>none
  |_=>none
 | .bool=>match x with
  | .bool a=>match y with
   | .bool b=>neg A op (A.uf .eql a b)
   |_=>none
  |_=>none
 | .cT fs=>match i.flat with
  |true=>match x with
   | .agg a=>match y with
    | .agg b=>match lK A ty fs a.toList b.toList with
     |some t=>neg A op t
     |none=>none
    |_=>none
   |_=>none
  |false=>none
 |_=>none
def oQ(ρ:Operand->SV):List (Nat×Operand)->Option (List (Nat×Value))
 | []=>some []
 | (i,x)::r=>match ρ x,oQ ρ r with
  | .v y,some l=>some ((i,y)::l)
  |_,_=>none
def Kd.isNone:Kd->Bool
 | .none=>true
 |_=>false
def placesOf(T:bg):List (Nat×Nat)->Option (List (Nat×Nat))
 | []=>some []
 | (t,off)::r=>match (T.ty t).kd.isNone,placesOf T r with
  |false,some l=>some ((off,(T.ty t).size)::l)
  |_,_=>none
def Pr(T:bg)(zero:List Value)(ps:List (Nat×Value)):Kd->Option (List Value)
 | .cT fs=>match placesOf T fs with
  |some l=>FU (λi=>l[i]?) zero ps
  |none=>none
 | .arr _ e=>match (T.ty e).kd.isNone with
  |false=>FU (λi=>some (i*(T.ty e).size,(T.ty e).size)) zero ps
  |true=>none
 |_=>none
def aXx(ρ:Operand->SV):Option Operand->Option (Option Int)
 |none=>some none
 |some x=>match ρ x with
  | .v (.int _ n)=>some (some n)
  |_=>none
def BM(A:Ar)(b:Option Addr)(len cap size:Nat)(l hh m:Option Int)(k:Value->Prop):Prop:=
 match m with
 |none=>match hh with
  |none=>match l with
   |none=>k (.slice b len cap)
   |some l=>uW (λ_=>0<=l/\l<=(len:Int)) (λ_=>k (.slice (A.cut b l (A.nat cap) size) (A.nt (A.nat len) l) (A.nt (A.nat cap) l)))
  |some q=>match l with
   |none=>uW (λ_=>0<=q/\q<=(cap:Int)) (λ_=>k (.slice (A.cut b 0 (A.nat cap) size) (A.nt q 0) cap))
   |some l=>uW (λ_=>0<=q/\q<=(cap:Int)/\0<=l/\l<=q) (λ_=>k (.slice (A.cut b l (A.nat cap) size) (A.nt q l) (A.nt (A.nat cap) l)))
 |some m=>match hh with
  |none=>False
  |some q=>match l with
   |none=>uW (λ_=>0<=m/\m<=(cap:Int)/\0<=q/\q<=m) (λ_=>k (.slice (A.cut b 0 m size) (A.nt q 0) (A.nt m 0)))
   |some l=>uW (λ_=>0<=m/\m<=(cap:Int)/\0<=q/\q<=m/\0<=l/\l<=q) (λ_=>k (.slice (A.cut b l m size) (A.nt q l) (A.nt m l)))
def EH(A:Ar)(s:ByteArray)(l hh:Option Int)(k:Value->Prop):Prop:=
 match hh with
 |none=>match l with
  |none=>k (.string s)
  |some l=>uW (λ_=>0<=l/\l<=(s.size:Int)) (λ_=>k (.string (A.sub s l (A.lC s))))
 |some q=>match l with
  |none=>uW (λ_=>0<=q/\q<=(s.size:Int)) (λ_=>k (.string (A.sub s 0 q)))
  |some l=>uW (λ_=>0<=q/\q<=(s.size:Int)/\0<=l/\l<=q) (λ_=>k (.string (A.sub s l q)))
def mO(T:bg)(o:Oper):Bool:=
 match o.op with
 | .convert s d _=>match (T.ty s).kd with
  | .qG _=>false
  | .ptr _=>false
  | .fKw=>false
  |_=>match (T.ty d).kd with
   | .qG _=>false
   |_=>true
 | .move _| .pick .. | .build .. | .load .. | .nilCheck _| .binOp .. | .unOp .. | .makeInterface .. | .makeFunc .. | .slice .. | .fieldAddr .. | .field .. | .indexAddr .. | .index .. | .extract .. | .typeAssert .. =>true
 | .alloc _| .box .. =>match o.dst with
  |some d=> !T.bq d
  |none=>false
 | .call { callee:=.builtin b, .. }=>match b with
  | .len| .cap| .min| .max=>true
  |_=>false
 |_=>false
def uO(agg:Bool)(cs:List Value)(k:Value->Prop):Prop:=
 match agg with
 |true=>k (.agg cs.toArray)
 |false=>match cs with
  |x::_=>k x
  | []=>False
def bQS(k:IntKind):Int:=if k.signed then -1 else k.max
def jK(A:Ar)(T:bg)(p:Unit->Program)(o:Oper)(ρ:Operand->SV)(L:Loc)(h:ad)(k:SV->Option (List Value)->Prop):Prop:=
 match o.op with
 | .move x=>k (ρ x) none
 | .pick c a b=>match ρ c with
  | .v (.bool true)=>k (ρ a) none
  | .v (.bool false)=>k (ρ b) none
  |_=>False
 | .alloc e=>match (T.ty e).kd.isNone with
  |true=>False
  |false=>match o.dst with
   |none=>False
   |some d=>match mg L d with
    |none=>k (.loc d 0) (some (T.ty e).zero)
    |some _=>False
 | .box _ x=>match o.dst with
  |none=>False
  |some d=>match ρ x with
   | .v v=>match mg L d with
    |none=>k (.loc d 0) (some v.cells.toList)
    |some _=>False
   |_=>False
 | .load t a=>match (T.ty t).kd.isNone with
  |true=>False
  |false=>match ρ a with
   | .loc s off=>match mg L s with
    |some c=>match takeN c off (T.ty t).size with
     |some cs=>uO (T.ty t).agg cs (λx=>k (.v x) none)
     |none=>False
    |none=>False
   | .v (.pointer (some x))=>zF h x (T.ty t).size (λcs=>uO (T.ty t).agg cs (λx=>k (.v x) none))
   |_=>False
 | .nilCheck x=>match ρ x with
  | .loc s off=>k (.loc s off) none
  | .v (.pointer (some a))=>k (.v (.pointer (some a))) none
  |_=>False
 | .fieldAddr t x f=>match (T.ty t).kd with
  | .cT fs=>match fs[f]? with
   |some (ft,off)=>match (T.ty ft).kd.isNone with
    |true=>False
    |false=>match (T.ty ft).size with
     |0=>False
     |_+1=>match ρ x with
      | .loc s o=>k (.loc s (o+off)) none
      | .v (.pointer (some a))=>k (.v (.pointer (some (A.off a off)))) none
      |_=>False
   |none=>False
  |_=>False
 | .indexAddr t x i=>match ρ i with
  | .v (.int _ n)=>match (T.ty t).kd with
   | .qG e=>match (T.ty e).kd.isNone with
    |true=>False
    |false=>match ρ x with
     | .v (.slice b len _)=>uW (λ_=>b.isSome=true/\0<=n/\n<(len:Int)) (λ_=>k (.v (.pointer (some (A.je b n (T.ty e).size)))) none)
     |_=>False
   | .arr m e=>match (T.ty e).kd.isNone with
    |true=>False
    |false=>match ρ x with
     | .loc s off=>uW (λ_=>0<=n/\n<(m:Int)) (λ_=>k (.loc s (A.ix off n (T.ty e).size)) none)
     | .v (.pointer (some a))=>uW (λ_=>0<=n/\n<(m:Int)) (λ_=>k (.v (.pointer (some (A.je (some a) n (T.ty e).size)))) none)
     |_=>False
   |_=>False
  |_=>False
 | .index t x i=>match ρ i with
  | .v (.int _ n)=>match (T.ty t).kd with
   | .str=>match ρ x with
    | .v (.string s)=>uW (λ_=>0<=n/\n<(s.size:Int)) (λ_=>k (.v (.int .u8 (A.byte s n))) none)
    |_=>False
   |_=>False
  |_=>False
 | .field t x f=>match (T.ty t).kd with
  | .cT fs=>match fs[f]? with
   |some (ft,off)=>match (T.ty ft).kd.isNone with
    |true=>False
    |false=>match ρ x with
     | .v (.agg cs)=>match takeN cs.toList off (T.ty ft).size with
      |some ds=>uO (T.ty ft).agg ds (λx=>k (.v x) none)
      |none=>False
     |_=>False
   |none=>False
  |_=>False
 | .extract x i=>match ρ x with
  | .v (.tuple vs)=>match vs.toList[i]? with
   |some v=>k (.v v) none
   |none=>False
  |_=>False
 | .build t parts=>match (T.ty t).kd.isNone with
  |true=>False
  |false=>match oQ ρ parts.toList with
   |some ps=>match Pr T (T.ty t).zero ps (T.ty t).kd with
    |some cs=>k (.v (.agg cs.toArray)) none
    |none=>False
   |none=>False
 | .binOp op t x y _=>match ρ x with
  | .v a=>match ρ y with
   | .v b=>match aKp A op a b with
    |some r=>k (.v r) none
    |none=>match cXS A T.ty (T.ty t) op a b with
     |some r=>k (.v r) none
     |none=>MI A op a b (λr=>k (.v r) none) (λ_=>uj p (λ_=>do eqGuard op t x y a b;binOp op t a b) (λr=>k (.v r) none))
   |_=>False
  |_=>False
 | .unOp op _ x=>match ρ x with
  | .v (.bool b)=>match op with
   | .not=>k (.v (.bool (A.not b))) none
   |_=>False
  | .v (.int kd n)=>match op with
   | .neg=>k (.v (.int kd (A.aT .sub kd 0 n))) none
   | .xor=>k (.v (.int kd (A.aT .xor kd (bQS kd) n))) none
   |_=>False
  |_=>False
 | .convert src dst x=>match ρ x with
  | .v (.int j n)=>match (T.ty dst).kd with
   | .int kd=>match (T.ty src).kd with
    | .int _=>k (.v (.int kd (A.conv kd n))) none
    |_=>False
   |_=>uj p (λ_=>Go.convert src dst (.int j n)) (λr=>k (.v r) none)
  | .v a=>uj p (λ_=>Go.convert src dst a) (λr=>k (.v r) none)
  |_=>False
 | .makeInterface t x=>match (T.ty t).kd with
  | .hXb=>False
  | .none=>False
  |_=>match ρ x with
   | .v v=>k (.v (.iface t v)) none
   |_=>False
 | .makeFunc fn f c=>match pK (f.toList.map ρ)with
  |some fs=>match pK (c.toList.map ρ)with
   |some cs=>k (.v (.func fn fs.toArray cs.toArray)) none
   |none=>False
  |none=>False
 | .slice t x lo hi mx=>match aXx ρ lo,aXx ρ hi,aXx ρ mx with
  |some l,some hh,some m=>match (T.ty t).kd with
   | .qG e=>match (T.ty e).kd.isNone with
    |true=>False
    |false=>match ρ x with
     | .v (.slice b len cap)=>BM A b len cap (T.ty e).size l hh m (λr=>k (.v r) none)
     |_=>False
   | .arr q e=>match (T.ty e).kd.isNone with
    |true=>False
    |false=>match ρ x with
     | .v (.pointer (some a))=>BM A (some a) q q (T.ty e).size l hh m (λr=>k (.v r) none)
     |_=>False
   | .str=>match ρ x with
    | .v (.string s)=>match m with
     |none=>EH A s l hh (λr=>k (.v r) none)
     |some _=>False
    |_=>False
   |_=>False
  |_,_,_=>False
 | .call { callee:=.builtin b,args,argTypes }=>match b with
  | .len=>match argTypes[0]? with
   |some t=>match pK (args.toList.map ρ)with
    |some [.slice _ n _]=>match (T.ty t).kd with
     | .qG _=>k (.v (.int .i64 (A.nat n))) none
     |_=>False
    |some [.string s]=>match (T.ty t).kd with
     | .str=>k (.v (.int .i64 (A.lC s))) none
     |_=>False
    |_=>False
   |none=>False
  | .cap=>match argTypes[0]? with
   |some t=>match pK (args.toList.map ρ)with
    |some [.slice _ _ n]=>match (T.ty t).kd with
     | .qG _=>k (.v (.int .i64 (A.nat n))) none
     |_=>False
    |_=>False
   |none=>False
  | .min=>match pK (args.toList.map ρ)with
   |some [.int kd a,.int _ b]=>k (.v (.int kd (A.my a b))) none
   |_=>False
  | .max=>match pK (args.toList.map ρ)with
   |some [.int kd a,.int _ b]=>k (.v (.int kd (A.imax a b))) none
   |_=>False
  |_=>False
 | .typeAssert x q as ok=>match ρ x with
  | .v a=>uj p (λ_=>Instr.typeAssert a q as ok) (λr=>k (.v r) none)
  |_=>False
 |_=>False
structure GG(h:ad)(a:Addr)(cs:List Value)(k:ad->Prop):Prop where
 out:∃c e fr,a.spot=none/\h a.block=some (.cells c e fr)/\a.off+cs.length<=c.size/\(∀i,i<cs.length->¬(fr.1<=a.off+i/\a.off+i<fr.2))/\
  ∀h',h'=bL h a.block (.cells (ia c.toList a.off cs).toArray e fr)->k h'
def bQH(h:ad)(b:Option Addr)(n:Nat)(cs:List Value):Prop:=
 (n=0/\cs=[])\/∃a,b=some a/\NQ h a n cs
def xZ(h:ad)(b:Option Addr)(cs:List Value)(k:ad->Prop):Prop:=
 (cs=[]/\k h)\/∃a,b=some a/\GG h a cs k
def iJ(n:Nat)(z:List Value):List Value:=(List.replicate n z).flatten
def vu(s:ByteArray):List Value:=s.data.toList.map λb=>.int .u8 b.toNat
structure uv(h:ad)(b:Option Addr)(len cap n size bytes e:Nat)(new:List Value)(k:Value->ad->Prop):Prop where
 one:jv new=true
 fits:len+n<=cap->xZ h (b.map (·.add (len*size))) new (λh'=>k (.slice b (len+n) cap) h')
 bXL:cap<len+n->2*(len+n)*bytes<=2^48/\len+n<=2^48/\∃Xj,bQH h b (len*size) Xj/\
  ∀nb c h' rest,h nb=none->len+n<=c->rest.length=(c-(len+n))*size->h'=bL h nb (.cells (Xj++new++rest).toArray e (0,0))->k (.slice (zsA nb) (len+n) c) h'
structure bZv(h:ad)(b:Option Addr)(len cap n size bytes e:Nat)(z:List Value)(k:Value->ad->Prop):Prop where
 out:uv h b len cap n size bytes e (iJ n z) k
structure iq(h:ad)(b:Option Addr)(len cap:Nat)(x:Option Addr)(n size bytes e:Nat)(k:Value->ad->Prop):Prop where
 out:∃new,bQH h x (n*size) new/\uv h b len cap n size bytes e new k
structure qf(h:ad)(e:Nat)(l c:Int)(bytes:Nat)(z:List Value)(k:Value->ad->Prop):Prop where
 len:0<=l/\l<=c
 room:c<=2^48/\(bytes:Int)*c<=2^48
 out:∀nb h',h nb=none->h'=bL h nb (.cells (iJ c.toNat z).toArray e (0,0))->k (.slice (zsA nb) l.toNat c.toNat) h'
structure yK(h:ad)(b:Option Addr)(len:Nat)(x:Option Addr)(n size:Nat)(k:Value->ad->Prop):Prop where
 out:∃cs,bQH h x (min n len*size) cs/\jv cs=true/\xZ h b cs (λh'=>k (.int .i64 ((min n len:Nat):Int)) h')
structure zH(h:ad)(b:Option Addr)(len:Nat)(z:List Value)(k:ad->Prop):Prop where
 one:jv z=true
 out:xZ h b (iJ len z) k
def hx(A:Ar)(T:bg)(p:Unit->Program)(o:Oper)(ρ:Operand->SV)(L:Loc)(h:ad)(k:SV->Loc->ad->Prop):Prop:=
 match o.op with
 | .assign x=>k (ρ x) L h
 | .store t a x=>match (T.ty t).kd.isNone with
  |true=>False
  |false=>match ρ x with
   | .v v=>match v.cells.toList.length==(T.ty t).size with
    |false=>False
    |true=>match jv v.cells.toList with
     |false=>False
     |true=>match ρ a with
      | .loc s off=>match mg L s with
       |some c=>match decide (off+v.cells.toList.length<=c.length)with
        |true=>k (.v undef) (vh L s (ia c off v.cells.toList)) h
        |false=>False
       |none=>False
      | .v (.pointer (some y))=>GG h y v.cells.toList (λh'=>k (.v undef) L h')
      |_=>False
   |_=>False
 | .alloc e=>match (T.ty e).kd.isNone with
  |true=>False
  |false=>∀n h',h n=none->h'=bL h n (.cells (T.ty e).zero.toArray e (0,0))->k (.v (.zP n)) L h'
 | .box e x=>match ρ x with
  | .v v=>∀n h',h n=none->h'=bL h n (.cells v.cells e (0,0))->k (.v (.zP n)) L h'
  |_=>False
 | .buildSlice t len parts=>match (T.ty t).kd with
  | .qG e=>match (T.ty e).kd.isNone with
   |true=>False
   |false=>match oQ ρ parts.toList with
    |some ps=>match decide (len*(T.ty e).size<=2^24),(T.ty e).zero.length==(T.ty e).size with
     |true,true=>match FU (λi=>some (i*(T.ty e).size,(T.ty e).size)) (iJ len (T.ty e).zero) ps with
      |some cs=>∀n h',h n=none->h'=bL h n (.cells cs.toArray e (0,0))->k (.v (.slice (zsA n) len len)) L h'
      |none=>False
     |_,_=>False
    |none=>False
  |_=>False
 | .makeSlice t l c=>match (T.ty t).kd with
  | .qG e=>match (T.ty e).kd.isNone with
   |true=>False
   |false=>match ρ l with
    | .v (.int _ l)=>match ρ c with
     | .v (.int _ c)=>match (T.ty e).zero.length==(T.ty e).size with
      |true=>qf h e l c (T.ty e).bytes (T.ty e).zero (λx h'=>k (.v x) L h')
      |false=>False
     |_=>False
    |_=>False
  |_=>False
 | .makeMap t r=>match r with
  |none=>∀n h',h n=none->h'=bL h n (.map #[] 0)->k (.v (.map (some n))) L h'
  |some _=>False
 | .call { callee:=.value f,args, .. }=>match ρ f with
  | .v (.func (.func g) first cap)=>match pK (args.toList.map ρ)with
   |some as=>match T.fn g with
    |true=>match T.iXR g with
     |true=>UG p g (first.toList++as++cap.toList) h (λr h'=>k (.v r) L h') (λc h'=>T.kp c (T.rs.map λt=>ρ (.tmp t)) h')
     |false=>Gt p g (first.toList++as++cap.toList) h (λr h'=>k (.v r) L h')
    |false=>fw p (λ_=>Cs g (first.toList++as++cap.toList)) h (λr h'=>k (.v r) L h')
   |none=>False
  | .v (.func (.yield l) first _)=>match pK (args.toList.map ρ)with
   |some as=>aKD p l (first.toList++as) h (λr h'=>k (.v r) L h')
   |none=>False
  |_=>False
 | .call { callee:=.builtin b,args,argTypes }=>match b with
  | .append=>match argTypes[0]?,argTypes[1]? with
   |some t,some u=>match (T.ty t).kd with
    | .qG e=>match (T.ty e).kd.isNone with
     |true=>False
     |false=>match (T.ty e).zero.length==(T.ty e).size with
      |false=>False
      |true=>match pK (args.toList.map ρ)with
       |some [.slice b len cap,.slice x n _]=>match (T.ty u).kd with
        | .qG _=>iq h b len cap x n (T.ty e).size (T.ty e).bytes e (λv h'=>k (.v v) L h')
        |_=>False
       |some [.slice b len cap,.string s]=>match (T.ty u).kd with
        | .str=>uv h b len cap s.size (T.ty e).size (T.ty e).bytes e (vu s) (λv h'=>k (.v v) L h')
        |_=>False
       |some [.slice b len cap,.int _ n]=>match (T.ty u).kd with
        | .int _=>uW (λ_=>0<=n/\n<=2^48/\n*(T.ty e).bytes<=2^48) (λ_=>bZv h b len cap (A.nt n 0) (T.ty e).size (T.ty e).bytes e (T.ty e).zero (λv h'=>k (.v v) L h'))
        |_=>False
       |_=>False
    |_=>False
   |_,_=>False
  | .copy=>match argTypes[0]? with
   |some t=>match (T.ty t).kd with
    | .qG e=>match (T.ty e).kd.isNone with
     |true=>False
     |false=>match pK (args.toList.map ρ)with
      |some [.slice b len _,.slice x n _]=>yK h b len x n (T.ty e).size (λv h'=>k (.v v) L h')
      |_=>False
    |_=>False
   |none=>False
  | .clear=>match argTypes[0]? with
   |some t=>match (T.ty t).kd with
    | .qG e=>match (T.ty e).kd.isNone with
     |true=>False
     |false=>match (T.ty e).zero.length==(T.ty e).size with
      |false=>False
      |true=>match pK (args.toList.map ρ)with
       |some [.slice b len _]=>zH h b len (T.ty e).zero (λh'=>k (.v (.tuple #[])) L h')
       |_=>False
    |_=>False
   |none=>False
  | .delete=>match pK (args.toList.map ρ)with
   |some as=>fw p (λ_=>Builtin.delete_ argTypes o.type as.toArray) h (λr h'=>k (.v r) L h')
   |none=>False
  |_=>False
 | .convert src dst x=>match ρ x with
  | .v a=>fw p (λ_=>Go.convert src dst a) h (λr h'=>k (.v r) L h')
  |_=>False
 | .lookup t x i ok=>match ρ x with
  | .v a=>match ρ i with
   | .v b=>fw p (λ_=>Instr.lookup t a b ok) h (λr h'=>k (.v r) L h')
   |_=>False
  |_=>False
 | .mapUpdate t m i x=>match ρ m with
  | .v a=>match ρ i with
   | .v b=>match ρ x with
    | .v c=>fw p (λ_=>do Instr.mapUpdate t a b c;pure undef) h (λ_ h'=>k (.v undef) L h')
    |_=>False
   |_=>False
  |_=>False
 | .mapEntry t m i=>match ρ m with
  | .v a=>match ρ i with
   | .v b=>fw p (λ_=>Instr.mapEntry t a b) h (λr h'=>k (.v r) L h')
   |_=>False
  |_=>False
 | .entryStore t m i x=>match ρ m with
  | .v a=>match ρ i with
   | .v b=>match ρ x with
    | .v c=>fw p (λ_=>do Instr.entryStore t a b c;pure undef) h (λ_ h'=>k (.v undef) L h')
    |_=>False
   |_=>False
  |_=>False
 | .range t x=>match ρ x with
  | .v a=>fw p (λ_=>Instr.range t a) h (λr h'=>k (.v r) L h')
  |_=>False
 | .next it str=>match ρ it with
  | .v a=>fw p (λ_=>Instr.next a str o.type) h (λr h'=>k (.v r) L h')
  |_=>False
 | .entry it=>match ρ it with
  | .v a=>fw p (λ_=>Instr.entry a) h (λr h'=>k (.v r) L h')
  |_=>False
 | .insert t m i x=>match ρ m with
  | .v a=>match ρ i with
   | .v b=>match ρ x with
    | .v c=>fw p (λ_=>do Instr.mapUpdate t a b c;pure undef) h (λ_ h'=>k (.v undef) L h')
    |_=>False
   |_=>False
  |_=>False
 | .panic x=>match ρ x with
  | .v (.iface t v)=>T.kp [{ v:=.iface t v,recovered:=false }] (T.rs.map λt=>ρ (.tmp t)) h
  |_=>False
 |_=>False
def put(env:Env)(d:Option Nat)(x:SV):Env:=
 match d with
 |some t=>env.set t x
 |none=>env
def eX(L:Loc)(d:Option Nat)(nb:Option (List Value)):Loc:=
 match d,nb with
 |some t,some c=>(t,c)::L
 |_,_=>L
def gd(ops:List Oper)(env:Env)(o:Oper)(yes no:Unit->Prop):Prop:=
 match o.guard with
 |none=>yes ()
 |some (j,want)=>match ops[j]? with
  |some oj=>match oj.dst with
   |some d=>match env.getD d .u with
    | .v (.bool b)=>match want with
     |true=>Ps b yes no
     |false=>Ps b no yes
    | .v (.tuple _)=>no ()
    |_=>False
   |none=>no ()
  |none=>no ()
def EC(A:Ar)(T:bg)(p:Unit->Program)(all:List Oper)(K:Env->Loc->ad->Prop):List Oper->Env->Loc->ad->Prop
 | [],env,L,h=>K env L h
 |o::rest,env,L,h=>
  gd all env o
   (λ_=>match mO T o with
    |true=>jK A T p o (qi env) L h (λx nb=>EC A T p all K rest (put env o.dst x) (eX L o.dst nb) h)
    |false=>hx A T p o (qi env) L h (λx L' h'=>EC A T p all K rest (put env o.dst x) L' h'))
   (λ_=>EC A T p all K rest (put env o.dst (.v undef)) L h)
def HE(T:bg)(strict:Bool)(h:ad)(L:Loc)(env:Env)(o:Oper)(rest:Unit->Prop):Prop:=
 match o.op with
 | .load t a=>match qi env a with
  | .v (.pointer (some x))=>zF h x (T.ty t).size (λcs=>uO (T.ty t).agg cs (λx=>uW (λ_=>∃d,o.dst=some d/\env[d]? =some (.v x)) rest))
  | .loc s off=>match strict with
   |false=>rest ()
   |true=>match mg L s with
    |some c=>match takeN c off (T.ty t).size with
     |some cs=>uO (T.ty t).agg cs (λx=>uW (λ_=>∃d,o.dst=some d/\env[d]? =some (.v x)) rest)
     |none=>False
    |none=>False
  |_=>False
 |_=>rest ()
def pins(T:bg)(strict:Bool)(all:List Oper)(h:ad)(L:Loc)(env:Env):List Nat->(Unit->Prop)->Prop
 | [],k=>k ()
 |i::r,k=>match all[i]? with
  |some o=>gd all env o (λ_=>HE T strict h L env o (λ_=>pins T strict all h L env r k)) (λ_=>pins T strict all h L env r k)
  |none=>False
def gT(o:Oper):Bool:=match o.op with
 | .store .. =>true
 |_=>false
def ki(A:Ar)(T:bg)(p:Unit->Program)(all:List Oper)(K:Env->Loc->ad->Prop):ye->Env->Loc->ad->Prop
 | .done,env,L,h=>K env L h
 | .aa i rest,env,L,h=>match all[i]? with
  |some o=>gd all env o
   (λ_=>jK A T p o (qi env) L h (λx nb=>ki A T p all K rest (put env o.dst x) (eX L o.dst nb) h))
   (λ_=>ki A T p all K rest (put env o.dst (.v undef)) L h)
  |none=>False
 | .af i pn rest,env,L,h=>match all[i]? with
  |some o=>gd all env o
   (λ_=>hx A T p o (qi env) L h (λx L' h'=>pins T (gT o) all h' L' (put env o.dst x) pn (λ_=>ki A T p all K rest (put env o.dst x) L' h')))
   (λ_=>ki A T p all K rest (put env o.dst (.v undef)) L h)
  |none=>False
 | .fork l r,env,L,h=>ki A T p all K l env L h/\ki A T p all K r env L h
inductive Ex where
 |normal
 |exit (id:Nat)
 |ret
def wk:Env->Env->Prop
 | [],[]=>True
 |x::r,y::q=>match y with
  | .u=>wk r q
  | .v b=>x=.v b/\wk r q
  | .loc s o=>x=.loc s o/\wk r q
 |_,_=>False
def aZt(L:Loc):Loc->Prop
 | []=>True
 | (s,c)::r=>mg L s=some c/\aZt L r
def dQW(L:Loc):Env->Prop
 | []=>True
 |x::r=>match x with
  | .loc s _=>(mg L s).isSome=true/\dQW L r
  |_=>dQW L r
structure Wk(env:Env)(L:Loc)(jz:Env)(L1:Loc):Prop where
 env:wk env jz
 loc:aZt L L1
 ok:dQW L1 jz
def Vn:List Oper->List Nat
 | []=>[]
 |o::r=>match o.dst with
  |some d=>d::Vn r
  |none=>Vn r
def wr:Code->List Nat
 | .region _ ops _=>Vn ops.toList
 | .seq a b| .cond _ a b=>wr a++wr b
 | .block _ c| .loop c| .scope c=>wr c
 |_=>[]
structure aX(ws:List Nat)(body:(Ex->Env->Loc->ad->Prop)->Env->Loc->ad->Prop)(K:Ex->Env->Loc->ad->Prop)(env:Env)(L:Loc)(h:ad):Prop where
 out:∃(I:Nat->Env->Loc->ad->Prop) (n:Nat),(∃jz L1,Wk env L jz L1/\I n jz L1 h)/\
  ∀n env L h,I n env L h->body (λe cP L' h'=>match e with
   | .normal=>∃m jz L1,m<n/\Wk cP L' jz L1/\I m jz L1 h'
   |e=>K e cP L' h') env L h
def sx(A:Ar)(T:bg)(p:Unit->Program):Code->(Ex->Env->Loc->ad->Prop)->Env->Loc->ad->Prop
 | .skip,K,env,L,h=>K .normal env L h
 | .region id ops draw,K,env,L,h=>match draw with
  |false=>EC A T p ops.toList (λenv L h=>K .normal env L h) ops.toList env L h
  |true=>ki A T p ops.toList (λenv L h=>K .normal env L h) (T.aw id) env L h
 | .seq a b,K,env,L,h=>sx A T p a (λe env L h=>match e with
  | .normal=>sx A T p b K env L h
  |e=>K e env L h) env L h
 | .cond c a b,K,env,L,h=>match qi env c with
  | .v (.bool t)=>Ps t (λ_=>sx A T p a K env L h) (λ_=>sx A T p b K env L h)
  |_=>False
 | .block id c,K,env,L,h=>sx A T p c (λe env L h=>match e with
  | .exit j=>if j=id then K .normal env L h else K (.exit j) env L h
  |e=>K e env L h) env L h
 | .loop c,K,env,L,h=>aX (wr c) (λK' env L h=>sx A T p c K' env L h) K env L h
 | .exit id,K,env,L,h=>K (.exit id) env L h
 | .ret,K,env,L,h=>K .ret env L h
 | .scope c,K,env,L,h=>sx A T p c K env L h
 | .label _,K,env,L,h=>K .normal env L h
 |_,_,_,_,_=>False
def bJh(T:bg)(env:Env)(L:Loc)(h:ad):ResultVar->(Value->Prop)->Prop
 | .tmp t,k=>match env.getD t .u with
  | .v x=>k x
  |_=>False
 | .cell a t,k=>match (T.ty t).kd,env.getD a .u with
  | .none,_=>False
  |_,.loc s off=>match mg L s with
   |some c=>match takeN c off (T.ty t).size with
    |some cs=>uO (T.ty t).agg cs k
    |none=>False
   |none=>False
  |_,.v (.pointer (some x))=>zF h x (T.ty t).size (λcs=>uO (T.ty t).agg cs k)
  |_,_=>False
def Ao(T:bg)(env:Env)(L:Loc)(h:ad):List ResultVar->(List Value->Prop)->Prop
 | [],k=>k []
 |r::rs,k=>bJh T env L h r (λx=>Ao T env L h rs (λxs=>k (x::xs)))
def sH(l:List Value)(k:Value->Prop):Prop:=match l with
 | [x]=>k x
 |l=>k (.tuple l.toArray)
def cKU(A:Ar)(T:bg)(p:Unit->Program)(c:Code)(ntmps:Nat)(rs:List ResultVar)(args:List Value)(h:ad)(R:Value->ad->Prop):Prop:=
 sx A T p c (λe env L h=>match e with
  | .exit _=>False
  |_=>Ao T env L h rs (λl=>sH l (λv=>R v h))) (args.map SV.v++List.replicate (ntmps-args.length) (.v undef)) [] h
variable {P:Program}{T:bg}{A:Ar}[bI A]
structure cZs(w w':World):Prop where
 os:w'.os=w.os
 tape:w'.tape=w.tape
 output:w'.output=w.output
theorem bT.refl{h:ad}{w:World}(a:DC h w):bT h w h w:=
 ⟨rfl,rfl,rfl,kB _,a,λ_ _ b=>⟨rfl,b⟩⟩
theorem bT.trans{h c d:ad}{w f g:World}(a:bT h w c f)(b:bT c f d g):bT h w d g:=
 ⟨b.os.trans a.os,b.tape.trans a.tape,b.output.trans a.output,jKl a.size b.size,b.Ee,λk e n=>
  have x:=a.frame k e n;have y:=b.frame k (Nat.lt_of_lt_of_le e a.size) x.2
  ⟨y.1.trans x.1,y.2⟩⟩
theorem DC.oa{h:ad}{w:World}(a:DC h w){b:Nat}(c:w.heap.size<=b):h b=none:=by
 cases d:h b with
 |none=>rfl
 |some o=>have:=a b o d;rw[kZn c]at this;cases this
theorem Fn.mono{h:ad}{R a:Value->ad->Prop}(x:Fn P f args h R)(r:∀v h',R v h'->a v h'):Fn P f args h a:=
 λw c=>(x w c).mono λe w' ⟨v,h',he,hR,b⟩=>⟨v,h',he,r _ _ hR,b⟩
theorem UG.mono{h:ad}{R i:Value->ad->Prop}{K g:List PanicEntry->ad->Prop}(x:UG p f args h R K)(r:∀v h',R v h'->i v h')(k:∀c h',K c h'->g c h'):UG p f args h i g:=
 ⟨λw j=>(x.out w j).mono λe w' q=>by
  rcases q with⟨v,h',a,b,d⟩|⟨c,h',a,b,d⟩
  .exact .inl ⟨v,h',a,r _ _ b,d⟩
  exact .inr ⟨c,h',a,k _ _ b,d⟩⟩
theorem Gt.mono{h:ad}{R a:Value->ad->Prop}(x:Gt p f args h R)(r:∀v h',R v h'->a v h'):Gt p f args h a:=
 ⟨x.out.mono r⟩
structure Bh(P:Program)(t:TypeId)(i:Ti):Prop where
 ex:∃ti d z,P.info? t=some ti/\P.underlying t=some d/\ti.zero=some z/\
  i.agg=(match d with| .struct _| .array _ _=>true|_=>false)/\i.size=ti.size/\i.bytes=ti.bytes/\i.zero=z.cells.toList/\i.kd=pU d/\i.flat=Pe P t d
theorem ir(c:gV P T){t:TypeId}(h:(T.ty t).kd≠.none):Bh P t (T.ty t):=by
 rcases c.ty t with e|e
 .rw[e]at h |-;unfold bJU at h |-;cases i:P.info? t with
  |none=>simp[i,Ti.none]at h
  |some b=>
   cases hu:P.underlying t with
   |none=>simp[i,hu,Ti.none]at h
   |some d=>
    cases a:b.zero with
    |none=>simp[i,hu,a,Ti.none]at h
    |some z=>refine⟨b,d,z,?_⟩;simp only[a,i,hu,true_and];all_goals (cases d<;>simp)
 rw[e]at h;exact absurd rfl h
theorem Bh.KW{t:TypeId}{i:Ti}(h:Bh P t i)(w:World):∃a,(typeInfo t).run P w=.ok a w/\i.size=a.size/\i.bytes=a.bytes:=by obtain⟨a,d,z,b,-,-,-,c,e,-,-,-⟩:=h.ex;exact⟨a,by simp[typeInfo,b],c,e⟩
theorem Bh.gO{t:TypeId}{i:Ti}(h:Bh P t i)(w:World):(sizeOf t).run P w=.ok i.size w:=by obtain⟨c,a,b,-⟩:=h.KW w;simp[sizeOf,a,b]
theorem Bh.cR{t:TypeId}{i:Ti}(h:Bh P t i)(w:World):∃d,(underlying t).run P w=.ok d w/\P.underlying t=some d/\i.kd=pU d/\
 i.agg=(match d with| .struct _| .array _ _=>true|_=>false):=by
 obtain⟨e,d,z,-,a,-,b,-,-,-,c,-⟩:=h.ex;exact⟨d,by simp[underlying,a],a,c,b⟩
theorem Bh.Hy{t:TypeId}{i:Ti}(h:Bh P t i)(w:World):(isAgg t).run P w=.ok i.agg w:=by obtain⟨d,a,-,-,b⟩:=h.cR w;unfold isAgg;rw[nX,a,b];cases d<;>rfl
theorem Bh.pN{t:TypeId}{i:Ti}(h:Bh P t i)(w:World):∃z,(zeroValue t).run P w=.ok z w/\z.cells.toList=i.zero:=by obtain⟨e,d,z,a,-,b,-,-,-,c,-,-⟩:=h.ex;exact⟨z,by simp[zeroValue,typeInfo,a,b],c.symm⟩
theorem cI(b o n:Nat):(⟨b,o,none⟩:Addr).add n=⟨b,o+n,none⟩:=by
 unfold Addr.add;split
 .rename_i h;simp[h]
 rfl
theorem Rm{w:World}{b o:Nat}{c:Array Value}{e:TypeId}(h:w.heap[b]? =some (.cells c e fr)):w.cell? ⟨b,o,none⟩=c[o]? :=by simp[World.cell?,h]
theorem ri{t:TypeId}{i:Ti}(e:Bh P t i)(w:World)(b o:Nat)(cs:List Value)(hl:cs.length=i.size)
 (d:∀j,j<cs.length->w.cell? ⟨b,o+j,none⟩=cs[j]?)  (h:uO i.agg cs k):
 ∃v,(loadVar t ⟨b,o,none⟩).run P w=.ok v w/\k v:=by
 unfold loadVar;rw[nX,e.Hy];unfold uO at h;cases c:i.agg with
 |true=>
  simp only[c]at h;refine⟨_,?_,h⟩;have:=run_loadCells_list (P:=P) w ⟨b,o,none⟩ cs (λj v a=>by
   rw[cI,d j (by rw[ff]at a;exact a.1),a])
  simp[e.gO,<-hl,this]
 |false=>
  simp only[c]at h;cases cs with
  |nil=>exact h.elim
  |cons x r=>refine⟨x,?_,h⟩;have:=d 0 (by simp);simp only[kQt,kZj]at this;simp[this]
theorem NQ.cell{h:ad}{w:World}(i:DC h w){a:Addr}{n:Nat}(r:NQ h a n cs):
 a.spot=none/\cs.length=n/\∀j,j<cs.length->w.cell? ⟨a.block,a.off+j,none⟩=cs[j]? :=by
 obtain⟨d,b,c,e,fr,f,g⟩:=r;refine⟨d,b,λj k=>?_⟩;rw[Rm (i _ _ f)];exact g j (b ▸ k)
theorem bJN{v:Value}(h:one v=true)(a:Addr)(m:Mode)(w:World){c:Array Value}{e:TypeId}(s:a.spot=none)
 (b:w.heap[a.block]? =some (.cells c e fr)) (o:a.off<c.size) (f:¬(fr.1<=a.off/\a.off<fr.2)):
 (store a v m).run P w=.ok () (w.setCell a v):=by
 have d:w.cell? a=some c[a.off]:=by simp[World.cell?,b,s,o]
 have z:w.frozen? a=false:=by obtain⟨l,i⟩:=fr;simp only[World.frozen?,b];simp only[kZm,decide_eq_false_iff_not];simp only at f;omega
 cases v<;>first
  | (simp[one]at h;done)
  | (simp only[store,Sem.run,d,z];rfl)
theorem eZ(c:List Value)(o:Nat)(s:List Value):(ia c o s).length=c.length:=by
 induction s generalizing c o with
 |nil=>rfl
 |cons v r i=>simp[ia,i]
theorem pO{b o:Nat}{e:TypeId}:∀(s:List Value) (i:Nat) (c:Array Value) (w:World),
 w.heap[b]? =some (.cells c e fr)->o+i+s.length<=c.size->(∀j,j<s.length->¬(fr.1<=o+i+j/\o+i+j<fr.2))->jv s=true->
 ∃w',(storeCells ⟨b,o,none⟩ s i).run P w=.ok () w'/\w'.heap[b]? =some (.cells (ia c.toList (o+i) s).toArray e fr)/\
  (∀a,a≠b->w'.heap[a]? =w.heap[a]?)/\w'.heap.size=w.heap.size/\cZs w w'
 | [],i,c,w,d,_,_,_=>⟨w,rfl,by simp[ia,d],λ_ _=>rfl,rfl,rfl,rfl,rfl⟩
 |v::r,i,c,w,d,hl,g,h=>by
  simp only[wS]at hl g;have p:one v=true:=by
   unfold jv at h;split at h
   .assumption
   cases h
  have q:jv r=true:=by
   unfold jv at h;split at h
   .assumption
   cases h
  have T:=bJN (P:=P) p ⟨b,o+i,none⟩ .plain w rfl d (by show o+i<c.size;omega) (by simpa using g 0 (by omega));have F:(w.setCell ⟨b,o+i,none⟩ v).heap[b]? =some (.cells (c.setIfInBounds (o+i) v) e fr):=by simp[World.setCell,kXf,d]
  obtain⟨w',k,l,m,n,f⟩:=pO (o:=o) r (i+1) (c.setIfInBounds (o+i) v) _ F (by simp;omega)
   (λj t=>by have:=g (j+1) (by omega);rw[show o+(i+1)+j=o+i+(j+1)by omega];exact this) q
  refine⟨w',?_,?_,?_,?_,?_⟩
  .unfold storeCells;rw[nX,cI,T];exact k
  .rw[l];simp[ia,kXG,kQc]
  .intro a S;rw[m a S];simp[World.setCell,kXf,Ne.symm S]
  .rw[n];simp[World.setCell]
  exact⟨f.os,f.tape,f.output⟩
def sB(β:Nat->Nat)(L:Loc):SV->Value->Prop
 | .v x,y=>y=x
 | .loc s off,y=>(∃c,mg L s=some c)/\y=.pointer (some ⟨β s,off,none⟩)
 | .u,_=>True
structure dQ(ds:List Deferred)(h0:ad)(w0:World)(β:Nat->Nat)(env:Env)(L:Loc)(h:ad)(a:Act)(w:World):Prop where
 after:bT h0 w0 h w
 loc:∀s c,mg L s=some c->w0.heap.size<=β s/\h (β s)=none/\∃e,w.heap[β s]? =some (.cells c.toArray e (0,0))
 inj:∀s s' c c',mg L s=some c->mg L s'=some c'->β s=β s'->s=s'
 size:a.tmps.size=env.length
 slot:∀t x,env[t]? =some x->sB β L x (a.tmps.getD t undef)
 defers:a.defers=ds
variable {ds:List Deferred}{h0:ad}{w0:World}{β:Nat->Nat}{env:Env}{L:Loc}{h:ad}{a:Act}{w:World}
theorem getD_some{env:Env}{t:Nat}{x:SV}(h:env.getD t .u=x)(hx:x≠.u):env[t]? =some x:=by
 rw[yz]at h;cases a:env[t]? with
 |none=>rw[a]at h;exact absurd h.symm hx
 |some y=>rw[a]at h;simp at h;rw[h]
theorem dQ.qi(s:dQ ds h0 w0 β env L h a w)(o:Operand):sB β L (qi env o) (a.eval o):=by
 cases o with
 |tmp t=>
  show sB β L (env.getD t .u) _;by_cases u:env.getD t .u=.u
  .rw[u];trivial
  exact s.slot t _ (getD_some rfl u)
 |const v=>rfl
 |global g=>rfl
 |func f=>rfl
theorem dQ.bO(s:dQ ds h0 w0 β env L h a w){o:Operand}{x:Value}(hx:Sx.qi env o=.v x):a.eval o=x:=by have:=s.qi o;rw[hx]at this;exact this
theorem dQ.sU(b:dQ ds h0 w0 β env L h a w){o:Operand}{off:Nat}(hx:Sx.qi env o=.loc s off):
 (∃c,mg L s=some c)/\a.eval o=.pointer (some ⟨β s,off,none⟩):=by
 have:=b.qi o;rw[hx]at this;exact this
theorem dQ.lt(d:dQ ds h0 w0 β env L h a w)(hl:mg L s=some c):β s<w.heap.size:=by obtain⟨-,-,e,b⟩:=d.loc s c hl;exact(jKc.1 b).1
theorem dQ.put(s:dQ ds h0 w0 β env L h a w){d:Option Nat}{x:SV}{v:Value}(c:sB β L x v):dQ ds h0 w0 β (put env d x) L h (a.put d v) w:=by
 cases d with
 |none=>exact s
 |some t=>
  refine⟨s.after,s.loc,s.inj,by simp[Act.put,Sx.put,s.size],λu y b=>?_,s.defers⟩;simp only[Sx.put,Act.put]at b |-;rw[VS]at b;split at b
  .rename_i e;subst e;split at b
   .rename_i U;cases b;have:t<a.tmps.size:=by rw[s.size];exact U
    simpa[jKg,kXC this]using c
   cases b
  rename_i S;have:=s.slot u y b;simpa[jKg,kXB S]using this
theorem Az{L:Loc}{t:Nat}:mg ((s,c)::L) t=if s=t then some c else mg L t:=rfl
theorem sL{w:World}{o:Obj}{b:Nat}(h:b<w.heap.size):(w.heap.push o)[b]? =w.heap[b]? :=by rw[Array.getElem?_push,if_neg (by omega)]
theorem bT.push{h0:ad}{w0:World}{h:ad}{w:World}(x:bT h0 w0 h w)(o:Obj):bT h0 w0 h { w with heap:=w.heap.push o }:=by refine x.trans ⟨rfl,rfl,rfl,by simp,λb o' a=>?_,λb a n=>⟨sL a,n⟩⟩;have:=x.Ee b o' a;rw[sL ((jKc.1 this).1)];exact this
theorem dQ.box(b:dQ ds h0 w0 β env L h a w){d:Nat}(hd:mg L d=none)(c:List Value)(e:TypeId):
 dQ ds h0 w0 (λs=>if s=d then w.heap.size else β s) (Sx.put env (some d) (.loc d 0)) ((d,c)::L) h (a.put (some d) (.pointer (some ⟨w.heap.size,0,none⟩)))
  { w with heap:=w.heap.push (.cells c.toArray e) }:=by
 have base:dQ ds h0 w0 (λs=>if s=d then w.heap.size else β s) env ((d,c)::L) h a { w with heap:=w.heap.push (.cells c.toArray e) }:=by
  refine⟨b.after.push _,λs c' hl=>?_,λs n o p hl Q j=>?_,b.size,λt x hx=>?_,b.defers⟩
  .rw[Az]at hl;by_cases f:s=d
   .rw[if_pos f.symm]at hl;cases hl;simp only[f,if_true];exact⟨b.after.size,b.after.Ee.oa (kB _),e,by simp⟩
   rw[if_neg (Ne.symm f)]at hl;simp only[if_neg f];obtain⟨g,i,k,l⟩:=b.loc s c' hl;exact⟨g,i,k,by rw[sL (b.lt hl)];exact l⟩
  .rw[Az]at hl Q;by_cases g:s=d<;>by_cases i:n=d
   .rw[g,i]
   .rw[if_neg (Ne.symm i)]at Q;simp only[g,if_true,if_neg i]at j;have:=b.lt Q;omega
   .rw[if_neg (Ne.symm g)]at hl;simp only[i,if_true,if_neg g]at j;have:=b.lt hl;omega
   rw[if_neg (Ne.symm g)]at hl;rw[if_neg (Ne.symm i)]at Q;simp only[if_neg g,if_neg i]at j;exact b.inj _ _ _ _ hl Q j
  have:=b.slot t x hx;cases x with
  |v y=>exact this
  |u=>trivial
  |loc s off=>
   obtain⟨⟨c',z⟩,m⟩:=this;have S:s≠d:=λe=>by rw[e,hd]at z;cases z
   refine⟨⟨c',by rw[Az,if_neg (Ne.symm S)];exact z⟩,?_⟩;simp only[if_neg S];exact m
 refine base.put ?_;refine⟨⟨c,by rw[Az,if_pos rfl]⟩,by simp⟩
theorem rA{L:Loc}{d:List Value}(hl:mg L s=some c)(t:Nat):mg (vh L s d) t=if s=t then some d else mg L t:=by
 induction L with
 |nil=>cases hl
 |cons x r i=>
  obtain⟨k,y⟩:=x;by_cases h:k=s
  .subst h;simp only[vh,if_true,mg];by_cases a:k=t<;>simp[a]
  simp only[mg,if_neg h]at hl;simp only[vh,if_neg h,mg,i hl];by_cases a:k=t
  .subst a;simp[Ne.symm h]
  simp[a]
theorem dQ.bZP(f:dQ ds h0 w0 β env L h a w){c':List Value}(hl:mg L s=some c)
 (z:∀e,w.heap[β s]? =some (.cells c.toArray e (0,0))->w'.heap[β s]? =some (.cells c'.toArray e (0,0))) (g:∀b,b≠β s->w'.heap[b]? =w.heap[b]?)
 (F:w'.heap.size=w.heap.size) (V:cZs w w'):dQ ds h0 w0 β env (vh L s c') h a w':=by
 obtain⟨m,j,e,n⟩:=f.loc s c hl;refine⟨⟨V.os.trans f.after.os,V.tape.trans f.after.tape,V.output.trans f.after.output,by rw[F];exact f.after.size,λb o C=>?_,λb D B=>?_⟩,
  λt d hd=>?_,λt O M N p r A=>?_,f.size,λt x hx=>?_,f.defers⟩
 .rw[g b (λe=>by rw[e,j]at C;cases C)];exact f.after.Ee b o C
 .have:=f.after.frame b D B;exact⟨by rw[g b (by omega)];exact this.1,this.2⟩
 .rw[rA hl]at hd;by_cases T:s=t
  .subst T;rw[if_pos rfl]at hd;cases hd;exact⟨m,j,e,z e n⟩
  rw[if_neg T]at hd;obtain⟨G,H,l,I⟩:=f.loc t d hd;exact⟨G,H,l,by rw[g _ (λq=>T (f.inj _ _ _ _ hl hd q.symm))];exact I⟩
 .have q:∀t c,mg (vh L s c') t=some c->∃c,mg L t=some c:=λt c i=>by
   rw[rA hl]at i;by_cases T:s=t
   .subst T;exact⟨_,hl⟩
   rw[if_neg T]at i;exact⟨_,i⟩
  obtain⟨_,J⟩:=q _ _ p;obtain⟨_,K⟩:=q _ _ r;exact f.inj _ _ _ _ J K A
 have:=f.slot t x hx;cases x with
 |v y=>exact this
 |u=>trivial
 |loc k off=>
  obtain⟨⟨d,hd⟩,E⟩:=this;refine⟨?_,E⟩;rw[rA hl];by_cases T:s=k
  .exact⟨c',by rw[if_pos T]⟩
  exact⟨d,by rw[if_neg T];exact hd⟩
theorem dQ.step(b:dQ ds h0 w0 β env L h a w){h':ad}(d:bT h w h' w'):dQ ds h0 w0 β env L h' a w':=
 ⟨b.after.trans d,λs c hl=>by
  obtain⟨g,f,e,i⟩:=b.loc s c hl;have:=d.frame (β s) (b.lt hl) f;exact⟨g,this.2,e,by rw[this.1];exact i⟩,b.inj,b.size,b.slot,b.defers⟩
theorem bT.new{h:ad}{w:World}(c:DC h w)(o:Obj):bT h w (bL h w.heap.size o) { w with heap:=w.heap.push o }:=by
 refine⟨rfl,rfl,rfl,by simp,λb o' a=>?_,λb a n=>⟨sL a,?_⟩⟩
 .simp only[bL]at a;split at a
  .rename_i e;subst e;cases a;simp
  have:=c b o' a;show(w.heap.push o)[b]? =_;rw[sL ((jKc.1 this).1)];exact this
 simp only[bL];rw[if_neg (by omega)];exact n
theorem bT.set{h:ad}{w:World}(i:DC h w){n:Nat}{o o':Obj}(j:h n=some o)(g:w'.heap[n]? =some o')(f:∀b,b≠n->w'.heap[b]? =w.heap[b]?)
 (k:w'.heap.size=w.heap.size) (c:cZs w w'):bT h w (bL h n o') w':=by
 refine⟨c.os,c.tape,c.output,by omega,λb q a=>?_,λb a d=>?_⟩
 .simp only[bL]at a;split at a
  .rename_i e;subst e;cases a;exact g
  rename_i e;rw[f b e];exact i b q a
 have:b≠n:=λe=>by rw[e,j]at d;cases d
 exact⟨f b this,by simp only[bL];rw[if_neg this];exact d⟩
variable {P:Program}{T:bg}{A:Ar}[bI A]
theorem lQ{t:Bool}{x y:Unit->Prop}(h:Ps t x y):(t=true/\x ())\/(t=false/\y ()):=by
 cases t
 .exact .inr ⟨rfl,h⟩
 exact .inl ⟨rfl,h⟩
theorem mI(h:uO g cs k):∃v,uO g cs (λx=>x=v)/\k v:=by
 cases g with
 |true=>exact⟨_,rfl,h⟩
 |false=>
  cases cs with
  |nil=>exact h.elim
  |cons x r=>exact⟨x,rfl,h⟩
theorem pG{b:Value->Prop}(h:uO g cs k)(a:∀v,k v->b v):uO g cs b:=by
 obtain⟨v,c,d⟩:=mI h;cases g with
 |true=>exact a _ h
 |false=>
  cases cs with
  |nil=>exact h.elim
  |cons x r=>exact a _ h
theorem tK{len:Nat}{l c m:Option Int}(a:BM A b len cap size l c m k):
 ∃v,k v/\∀d:Value->Prop,d v->BM A b len cap size l c m d:=by
 cases m<;>cases c<;>cases l<;>first
  |exact a.elim
  |exact⟨_,a,λ_ h=>h⟩
  |exact⟨_,a.out,λ_ h=>⟨a.h,h⟩⟩
theorem yR{s:ByteArray}{l a:Option Int}(b:EH A s l a k):
 ∃v,k v/\∀c:Value->Prop,c v->EH A s l a c:=by
 cases a<;>cases l<;>first
  |exact⟨_,b,λ_ h=>h⟩
  |exact⟨_,b.out,λ_ h=>⟨b.h,h⟩⟩
theorem Gp{o:BinOp}{a b:Value}{e:(Value->Prop)->Unit->Prop}(f:∀k,e k ()->∃v,k v/\∀c:Value->Prop,c v->e c ())(d:MI A o a b k (e k)):
 ∃v,k v/\∀c:Value->Prop,c v->MI A o a b c (e c):=by
 unfold MI at d |-;repeat' split at d
 all_goals first
  |exact f _ d
  |exact⟨_,d.out,λ_ h=>⟨d.h,h⟩⟩
set_option maxHeartbeats 1000000 in
theorem tS{j:Operand->SV}{L:Loc}{h:ad}{k:SV->Option (List Value)->Prop}(d:jK A T p o j L h k):
 ∃s n,k s n/\∀a:SV->Option (List Value)->Prop,a s n->jK A T p o j L h a:=by
 unfold jK at d |-;repeat' split at d
 all_goals first
  |exact d.elim
  |exact⟨_,_,d,λa h'=>h'⟩
  | (
   obtain⟨cs,b,c⟩:=(show zF _ _ _ _ from d).out
   obtain⟨v,f,g⟩:=mI c;exact⟨_,_,g,λa h'=>⟨cs,b,pG f (λv i=>by subst i;exact h')⟩⟩)
  | (
   obtain⟨v,f,g⟩:=mI d
   exact⟨_,_,g,λa h'=>pG f (λv i=>by subst i;exact h')⟩)
  | (
   obtain⟨v,b,c⟩:=(show uj _ _ _ from d).out
   exact⟨_,_,c,λa h'=>⟨v,b,h'⟩⟩)
  | (
   obtain⟨b,c⟩:=(show uW _ _ from d)
   exact⟨_,_,c,λa h'=>⟨b,h'⟩⟩)
  | (
   obtain⟨v,b,c⟩:=Gp (e:=λk _=>uj p _ k) (λk h=>by
    obtain⟨v,l,m⟩:=h.out;exact⟨v,m,λa h'=>⟨v,l,h'⟩⟩) d
   exact⟨_,_,b,λa h'=>c (λv=>a (.v v) none) h'⟩)
  | (
   obtain⟨v,b,c⟩:=tK d
   exact⟨_,_,b,λa h'=>c _ h'⟩)
  | (
   obtain⟨v,b,c⟩:=yR d
   exact⟨_,_,b,λa h'=>c _ h'⟩)
  |skip
variable {P:Program}{T:bg}{A:Ar}[bI A]
variable {ds:List Deferred}{h0:ad}{w0:World}{β:Nat->Nat}{env:Env}{L:Loc}{h:ad}{a:Act}{w:World}
theorem Hl(e:dQ ds h0 w0 β env L h a w):∀ {l:List Operand} {c:List Value},pK (l.map (qi env))=some c->l.map a.eval=c
 | [],c,b=>by simp[pK]at b;simp[b]
 |x::r,c,b=>by
  simp only[kQs]at b;cases hx:qi env x with
  |v y=>
   rw[hx]at b;simp only[pK]at b;cases d:pK (r.map (qi env))with
   |none=>rw[d]at b;cases b
   |some l=>rw[d]at b;simp at b;rw[<-b,kQs,e.bO hx,Hl e d]
  |loc s o=>rw[hx]at b;simp[pK]at b
  |u=>rw[hx]at b;simp[pK]at b
theorem jY(s:dQ ds h0 w0 β env L h a w){l:Array Operand}{v:List Value}(b:pK (l.toList.map (qi env))=some v):l.map a.eval=v.toArray:=by rw[<-Hl s b];apply Array.ext';simp
theorem vP(b:dQ ds h0 w0 β env L h a w):∀ {l:List (Nat×Operand)} {s:List (Nat×Value)},oQ (qi env) l=some s->l.map (λ(i,x)=>(i,a.eval x))=s
 | [],s,v=>by simp[oQ]at v;simp[v]
 | (i,x)::r,s,v=>by
  unfold oQ at v;split at v
  .rename_i y l hx c;cases v;simp only[kQs];rw[b.bO hx,vP b c]
  cases v
theorem EL(off:Nat):∀(s:List Value) (k:Nat) (cells:Array Value),
 (s.zipIdx k).foldl (λcs (c,j)=>cs.setIfInBounds (off+j) c) cells=(ia cells.toList (off+k) s).toArray
 | [],k,cells=>by simp[ia]
 |v::r,k,cells=>by
  simp only[kXR,kQr];rw[EL off r (k+1)];simp[ia,kXG,kQc]
theorem fill_eq(p:Nat->Option (Nat×Nat)):∀(s:List (Nat×Value)) (cells:Array Value) (cs:List Value),FU p cells.toList s=some cs->Instr.fill p cells s=some cs.toArray
 | [],cells,cs,h=>by
  simp[FU]at h;simp[Instr.fill,<-h]
 | (i,v)::r,cells,cs,h=>by
  unfold FU at h;unfold Instr.fill;cases a:p i with
  |none=>simp[a]at h
  |some x=>
   obtain⟨off,size⟩:=x;simp only[a]at h |-;have l:v.cells.toList.length=v.cells.size:=by simp
   have g:cells.toList.length=cells.size:=by simp
   rw[l,g]at h;split at h
   .cases h
   rename_i c;rw[if_neg c];have:=fill_eq p r (ia cells.toList off v.cells.toList).toArray cs (by simpa using h);rw[<-this];congr 1;rw[<-kXQ];have e:=EL off v.cells.toList 0 cells;simp only[kQt]at e;rw[<-e];congr 1;simp[Array.toList_zipIdx]
theorem il{k:Kd}(h:k.isNone=false):k≠.none:=λe=>by rw[e]at h;cases h
theorem EW(a:gV P T)(w:World):∀(fs:List Field) (l:List (Nat×Nat)),placesOf T (fs.map λf=>(f.type,f.offset))=some l->
 (fs.mapM λf=>do pure (f.offset,<-sizeOf f.type):Sem (List (Nat×Nat))).run P w=.ok l w
 | [],l,h=>by simp[placesOf]at h;simp[h]
 |f::r,l,h=>by
  simp only[kQs]at h;unfold placesOf at h;split at h
  .rename_i d k b;cases h;have i:=ir a (il k);have c:=EW a w r d b;rw[kXP];simp only[nX,i.gO,mB,va,c]
  cases h
theorem tU{k:Kd}(h:k=.cT fs):k≠.none:=by rw[h];simp
theorem Fo{n:Nat}{k:Kd}(h:k=.arr n e):k≠.none:=by rw[h];simp
theorem ic{k:Kd}(h:k=.qG e):k≠.none:=by rw[h];simp
theorem AB(h:pU d=.cT fs):∃F,d=.struct F/\fs=F.toList.map λf=>(f.type,f.offset):=by cases d<;>simp[pU]at h;exact⟨_,rfl,h.symm⟩
theorem On{n:Nat}(h:pU d=.arr n e):d=.array n e:=by cases d<;>simp[pU]at h;rw[h.1,h.2]
theorem pT(h:pU d=.qG e):d=.slice e:=by cases d<;>simp[pU]at h;rw[h]
theorem Om(h:pU d=.str):d=.string:=by cases d<;>simp[pU]at h;rfl
theorem run_build(a:gV P T)(w:World){t:TypeId}{p:List (Nat×Value)}(k:(T.ty t).kd.isNone=false)
 (h:Pr T (T.ty t).zero p (T.ty t).kd=some cs):(Instr.build t p.toArray).run P w=.ok (.agg cs.toArray) w:=by
 have b:=ir a (il k);obtain⟨z,o,H⟩:=b.pN w;obtain⟨d,hd,-,m,-⟩:=b.cR w;unfold Instr.build;simp only[nX,o,mB,hd];unfold Pr at h;split at h
 .rename_i fs Q;split at h
  .rename_i l hl;obtain⟨F,rfl,c⟩:=AB (m ▸ Q);have j:=EW a w F.toList l (c ▸ hl);have g:(F.mapM λf=>do pure (f.offset,<-sizeOf f.type):Sem (Array (Nat×Nat))).run P w=.ok l.toArray w:=by rw[kXo];simp only[kXn,j,mB]
   simp only[g,mB,nX];have:=fill_eq (λi=>l[i]?) p z.cells cs (by rw[H];exact h);simp only[kZl];rw[this];rfl
  cases h
 .rename_i n e S;split at h
  .rename_i Y;have v:=ir a (il Y);obtain rfl:=On (m ▸ S);simp only[nX,v.gO,mB];have:=fill_eq (λi=>some (i*(T.ty e).size,(T.ty e).size)) p z.cells cs (by rw[H];exact h);rw[this];rfl
  cases h
 cases h
theorem EB{off n:Nat}(h:takeN c off n=some cs):cs.length=n/\∀j,j<cs.length->c[off+j]? =cs[j]? :=by
 unfold takeN at h;split at h
 .rename_i hl;cases h;have:((c.drop off).take n).length=n:=by simp;omega
  refine⟨this,λj a=>?_⟩;rw[qH,if_pos (by omega),rB]
 cases h
variable {P:Program}{T:bg}{A:Ar}[bI A]
variable {ds:List Deferred}{h0:ad}{w0:World}{β:Nat->Nat}{env:Env}{L:Loc}{h:ad}{a:Act}{w:World}
theorem gW{x:Int}{y:Nat}{code:BoundsCode}{k:IntKind}(h:0<=x/\x<=(y:Int))(w:World):(Instr.sliceBound (.int k x) y code).run P w=.ok x.toNat w:=by simp[Instr.sliceBound,asIntOf,h]
theorem EF(s:dQ ds h0 w0 β env L h a w){x:Option Operand}{l:Option Int}(hl:aXx (qi env) x=some l):
 (l=none/\x.map a.eval=none)\/(∃n k,l=some n/\x.map a.eval=some (.int k n)):=by
 cases x with
 |none=>simp[aXx]at hl;exact .inl ⟨hl.symm,rfl⟩
 |some y=>
  unfold aXx at hl;simp only at hl;split at hl
  .rename_i k n e;cases hl;exact .inr ⟨n,k,rfl,by simp[s.bO e]⟩
  cases hl
theorem EG{len:Nat}{l o m:Option Int}{q p s:Option Value}
 (u:(l=none/\q=none)\/(∃n k,l=some n/\q=some (.int k n)))
 (v:(o=none/\p=none)\/(∃n k,o=some n/\p=some (.int k n)))
 (y:(m=none/\s=none)\/(∃n k,m=some n/\s=some (.int k n)))
 (h:BM A b len cap size l o m (λx=>x=r)) (w:World):
 ∃L H M:Nat,(Instr.sliceBounds g len cap q p s).run P w=.ok (L,H,M) w/\
  r=.slice (if M=L then b else b.map (·.add (L*size))) (H-L) (M-L):=by
 rcases u with⟨rfl,rfl⟩|⟨a,z,rfl,rfl⟩<;>rcases v with⟨rfl,rfl⟩|⟨d,B,rfl,rfl⟩<;>rcases y with⟨rfl,rfl⟩|⟨f,C,rfl,rfl⟩
 .refine⟨0,len,cap,by simp[Instr.sliceBounds],?_⟩;have:Value.slice b len cap=r:=h;rw[<-this];simp[Addr.add]
 .exact h.elim
 .obtain⟨c,h⟩:=(show uW _ _ from h);refine⟨0,d.toNat,cap,by simp[Instr.sliceBounds,gW c],?_⟩;have:=h;simp only[A.Ga,A.nat_eq,A.Cv]at this;rw[<-this];simp
 .obtain⟨c,h⟩:=(show uW _ _ from h);refine⟨0,d.toNat,f.toNat,?_,?_⟩
  .have i:0<=f/\f<=(cap:Int):=⟨c.1,c.2.1⟩;have j:0<=d/\d<=(f.toNat:Int):=⟨c.2.2.1,by omega⟩;simp[Instr.sliceBounds,gW i,gW j]
  have:=h;simp only[A.Ga,A.nat_eq,A.Cv]at this;rw[<-this];have:(f=0)↔(f.toNat=0):=by omega
  simp[this]
 .obtain⟨c,h⟩:=(show uW _ _ from h);refine⟨a.toNat,len,cap,by simp[Instr.sliceBounds,gW c],?_⟩;have:=h;simp only[A.Ga,A.nat_eq,A.Cv]at this;rw[<-this];have e:(Int.ofNat cap=a)↔(cap=a.toNat):=by have:=c.1;simp;omega
  simp only[e];congr 1<;>(try simp)<;>omega
 .exact h.elim
 .obtain⟨c,h⟩:=(show uW _ _ from h);refine⟨a.toNat,d.toNat,cap,?_,?_⟩
  .have i:0<=d/\d<=(cap:Int):=⟨c.1,c.2.1⟩;have j:0<=a/\a<=(d.toNat:Int):=⟨c.2.2.1,by omega⟩;simp[Instr.sliceBounds,gW i,gW j]
  have:=h;simp only[A.Ga,A.nat_eq,A.Cv]at this;rw[<-this];have e:(Int.ofNat cap=a)↔(cap=a.toNat):=by have:=c.2.2.1;simp;omega
  simp only[e];congr 1<;>(try simp)<;>omega
 obtain⟨c,h⟩:=(show uW _ _ from h);refine⟨a.toNat,d.toNat,f.toNat,?_,?_⟩
 .have i:0<=f/\f<=(cap:Int):=⟨c.1,c.2.1⟩;have j:0<=d/\d<=(f.toNat:Int):=⟨c.2.2.1,by omega⟩;have t:0<=a/\a<=(d.toNat:Int):=⟨c.2.2.2.2.1,by omega⟩;simp[Instr.sliceBounds,gW i,gW j,gW t]
 have:=h;simp only[A.Ga,A.nat_eq,A.Cv]at this;rw[<-this];have e:(f=a)↔(f.toNat=a.toNat):=by omega
 simp only[e];congr 1<;>omega
theorem NJ{s:ByteArray}{l d:Option Int}{o i:Option Value}
 (g:(l=none/\o=none)\/(∃n k,l=some n/\o=some (.int k n)))
 (j:(d=none/\i=none)\/(∃n k,d=some n/\i=some (.int k n)))
 (h:EH A s l d (λx=>x=r)) (w:World):
 ∃L H M:Nat,(Instr.sliceBounds false s.size s.size o i none).run P w=.ok (L,H,M) w/\r=.string (s.extract L H):=by
 rcases g with⟨rfl,rfl⟩|⟨b,m,rfl,rfl⟩<;>rcases j with⟨rfl,rfl⟩|⟨a,p,rfl,rfl⟩
 .refine⟨0,s.size,s.size,by simp[Instr.sliceBounds],?_⟩;have:Value.string s=r:=h;rw[<-this];simp
 .obtain⟨c,h⟩:=(show uW _ _ from h);refine⟨0,a.toNat,s.size,by simp[Instr.sliceBounds,gW c],?_⟩;have:=h;simp only[A.sub_eq]at this;rw[<-this];rfl
 .obtain⟨c,h⟩:=(show uW _ _ from h);refine⟨b.toNat,s.size,s.size,by simp[Instr.sliceBounds,gW c],?_⟩;have:=h;simp only[A.sub_eq,A.Wc]at this;rw[<-this];rfl
 obtain⟨c,h⟩:=(show uW _ _ from h);refine⟨b.toNat,a.toNat,s.size,?_,?_⟩
 .have e:0<=a/\a<=(s.size:Int):=⟨c.1,c.2.1⟩;have f:0<=b/\b<=(a.toNat:Int):=⟨c.2.2.1,by omega⟩;simp[Instr.sliceBounds,gW e,gW f]
 have:=h;simp only[A.sub_eq]at this;rw[<-this]
theorem ZD{o:BinOp}{t:TypeId}{x:Operand}{v:Value}(h:aKp A o u v=some r)(w:World):
 (do eqGuard o t x y u v;Go.binOp o t u v:Sem Value).run P w=.ok r w:=by
 have g:(eqGuard o t x y u v).run P w=.ok () w:=by
  unfold aKp at h;cases u<;>first
   | (simp at h;done)
   | (cases v<;>first
    | (simp at h;done)
    | (unfold eqGuard;split<;>rfl))
 rw[nX,g,mB];unfold aKp at h;split at h
 .rename_i k c a d;split at h<;>first
   |cases h
   | (
    split at h
    .rename_i B;subst B;cases h;first
      | (simp[Go.binOp,Op.intArith,A.wO,aT];done)
      | (simp[Go.binOp,Op.intBits,A.wO,aT];done)
      | (simp[Go.binOp,Op.intCmp,A.XG,aN];done)
    cases h)
 .split at h<;>first
   | (cases h;rw[A.Wv];rfl)
   | (cases h;done)
 cases h
theorem ZE{o:BinOp}{t:TypeId}{x:Operand}{v:Value}{J:Unit->Prop}(h:MI A o u v (λz=>z=r) J)
 (e:J ()->∀w,(do eqGuard o t x y u v;Go.binOp o t u v:Sem Value).run P w=.ok r w) (w:World):
 (do eqGuard o t x y u v;Go.binOp o t u v:Sem Value).run P w=.ok r w:=by
 unfold MI at h;split at h
 .rename_i f c;split at h
  .rename_i i d;split at h
   .split at h
    .rename_i k;have k:=lA k;subst k;obtain⟨b,a⟩:=h;subst a;simp[eqGuard,Go.binOp,Op.intDiv,A.wO,aT,b]
    exact e h w
   .split at h
    .rename_i k;have k:=lA k;subst k;obtain⟨b,a⟩:=h;subst a;simp[eqGuard,Go.binOp,Op.intDiv,A.wO,aT,b]
    exact e h w
   .obtain⟨b,a⟩:=h;subst a;have:¬d<0:=by omega
    simp[eqGuard,Go.binOp,Op.shift,A.wO,aT,this]
   .obtain⟨b,a⟩:=h;subst a;have:¬d<0:=by omega
    simp[eqGuard,Go.binOp,Op.shift,A.wO,aT,this]
   exact e h w
  exact e h w
 .rename_i c;split at h
  .rename_i d;split at h
   .obtain⟨b,a⟩:=h;subst a;have m:IntKind.i64.max=9223372036854775807:=by decide
    have j:(2:Int)^62=4611686018427387904:=by decide
    have:¬(9223372036854775807<(c.size:Int)+(d.size:Int)):=by rw[j]at b;omega
    have g:A.cat c d=c++d:=by rw[A.cXU]
    rw[g];simp[eqGuard,Go.binOp,Op.stringOp,this]
   exact e h w
  exact e h w
 exact e h w
theorem AV(n:gV P T)(d:Nat)(xs ys:Array Value)(w:World):∀(fs:List Field) (i:Nat) (t:Bool),
 ((
  fs.zipIdx i).all λ(f,i)=>f.offset==i&&decide (f.name≠ "_")&&(match P.info? f.type,P.underlying f.type with
  |some i,some .bool|some i,some (.int _) |some i,some .string=>i.size==1
  |_,_=>false))=true->
 lK A T.ty (fs.map λf=>(f.type,f.offset)) (xs.toList.drop i) (ys.toList.drop i)=some t->(Op.eqFields (d+1) xs ys fs).run P w=.ok t w
 | [],i,t,_,he=>by
  simp only[List.map_nil]at he;cases hx:xs.toList.drop i with
  |cons x r=>rw[hx]at he;simp[lK]at he
  |nil=>
   cases e:ys.toList.drop i with
   |nil=>rw[hx,e]at he;simp[lK]at he;subst he;rfl
   |cons y r=>rw[hx,e]at he;simp[lK]at he
 |f::fs,i,t,M,he=>by
  simp only[kXR,kZk,ya,beq_iff_eq,NB]at M;obtain⟨⟨⟨Q,I⟩,G⟩,o⟩:=M;simp only[kQs]at he;cases hx:xs.toList.drop i with
  |nil=>rw[hx]at he;simp[lK]at he
  |cons x r=>
   have X:xs[i]? =some x:=by have:=congrArg (·[0]?) hx;simpa using this
   have E:xs.toList.drop (i+1)=r:=by have:=congrArg (List.drop 1) hx;simpa[jKS,kQh]using this
   cases e:ys.toList.drop i with
   |nil=>rw[hx,e]at he;simp[lK]at he
   |cons y q=>
    have l:ys[i]? =some y:=by have:=congrArg (·[0]?) e;simpa using this
    have D:ys.toList.drop (i+1)=q:=by have:=congrArg (List.drop 1) e;simpa[jKS,kQh]using this
    rw[hx,e]at he;have H:=λc C=>AV n d xs ys w fs (i+1) c o (by rw[E,D];exact C);have S:f.name≠ "_" :=I;have Y:∀k,(T.ty f.type).kd=k->k≠.none->∃a,P.underlying f.type=some a/\k=pU a:=λk h v=>by
     obtain⟨a,-,s,u,-⟩:=(ir n (t:=f.type) (by rw[h];exact v)).cR w;exact⟨a,s,by rw[<-h,u]⟩
    have fin:∀(a:TypeDesc) (b:Bool) (c:Bool),P.underlying f.type=some a->(isAgg f.type).run P w=.ok false w->(Op.equalIn (d+1) f.type x y).run P w=.ok b w->
     lK A T.ty (fs.map λf=>(f.type,f.offset)) r q=some c->t=(b&&c)->(Op.eqFields (d+1) xs ys (f::fs)).run P w=.ok t w:=λa b c p J z C F=>by
     have Z:(part f.type xs f.offset).run P w=.ok x w:=by unfold part;rw[nX,J];simp[Q,X]
     have g:(part f.type ys f.offset).run P w=.ok y w:=by unfold part;rw[nX,J];simp[Q,l]
     unfold Op.eqFields;rw[if_pos S];simp only[nX,Z,g,mB,z,F];cases b with
     |false=>rfl
     |true=>simp[H c C]
    unfold lK at he;split at he
    .rename_i h;obtain⟨a,p,m⟩:=Y _ h (by simp);obtain⟨k,rfl⟩:∃k,a=.int k:=by cases a<;>simp[pU]at m;exact⟨_,rfl⟩
     split at he
     .split at he
      .split at he
       .rename_i B;split at he
        .rename_i K a1 L a2 c C;cases he;have j:=lA B;subst j;refine fin _ _ _ p ?_ (run_equalIn_int w d _ _ _ _ _ p) C (by rw[A.and_eq,A.XG];rfl);unfold isAgg;rw[nX,run_underlying p w];rfl
        cases he
       cases he
      cases he
     cases he
    .rename_i h;obtain⟨a,p,m⟩:=Y _ h (by simp);obtain rfl:a=.string:=by cases a<;>simp[pU]at m;rfl
     split at he
     .split at he
      .split at he
       .rename_i a1 a2 c C;cases he;refine fin _ _ _ p ?_ (run_equalIn_string w d _ _ _ p) C (by rw[A.and_eq,A.Wv];rfl);unfold isAgg;rw[nX,run_underlying p w];rfl
       cases he
      cases he
     cases he
    .rename_i h;obtain⟨a,p,m⟩:=Y _ h (by simp);obtain rfl:a=.bool:=by cases a<;>simp[pU]at m;rfl
     split at he
     .split at he
      .split at he
       .rename_i a1 a2 c C;cases he;refine fin _ _ _ p ?_ (run_equalIn_bool' w d _ _ _ p) C (by rw[A.and_eq,A.Pu];rfl);unfold isAgg;rw[nX,run_underlying p w];rfl
       cases he
      cases he
     cases he
    cases he
theorem Fa{o:BinOp}{b:Bool}(h:neg A o b=some r):(o=.eql/\r=.bool b)\/(o=.neq/\r=.bool (!b)):=by
 unfold neg at h;split at h
 .cases h;exact .inl ⟨rfl,rfl⟩
 .cases h;exact .inr ⟨rfl,by rw[A.not_eq]⟩
 cases h
theorem Zo(f:gV P T){o:BinOp}{t:TypeId}{x:Operand}{v:Value}(h:cXS A T.ty (T.ty t) o u v=some r)(w:World):
 (do eqGuard o t x y u v;Go.binOp o t u v:Sem Value).run P w=.ok r w:=by
 unfold cXS at h;split at h
 .rename_i e a;have i:=ir f (ic a);obtain⟨d,hd,Q,m,-⟩:=i.cR w;obtain rfl:=pT (m ▸ a);split at h
  .rename_i b l c;split at h
   .rename_i k j;have g:(eqGuard o t x y (.slice b l c) (.slice none k j)).run P w=.ok () w:=by unfold eqGuard;split<;>rfl
    have q:(Op.equal t (.slice b l c) (.slice none k j)).run P w=.ok b.isNone w:=by unfold Op.equal Op.maxDepth Op.equalIn;rw[nX,hd,mB];cases b<;>rfl
    rw[nX,g,mB];rcases Fa h with⟨rfl,rfl⟩|⟨rfl,rfl⟩
    .simp[Go.binOp,q,A.XC]
    simp[Go.binOp,q,A.XC]
   cases h
  cases h
 .rename_i a;have i:=ir f (show(T.ty t).kd≠.none by rw[a];simp);obtain⟨d,hd,Q,m,-⟩:=i.cR w;obtain rfl:d=.bool:=by rw[m]at a;cases d<;>simp[pU]at a;rfl
  split at h
  .rename_i b;split at h
   .rename_i c;have g:(eqGuard o t x y (.bool b) (.bool c)).run P w=.ok () w:=by unfold eqGuard;split<;>rfl
    have q:(Op.equal t (.bool b) (.bool c)).run P w=.ok (b==c) w:=run_equalIn_bool' w 9999 t b c Q;rw[nX,g,mB];rcases Fa h with⟨rfl,rfl⟩|⟨rfl,rfl⟩
    .simp[Go.binOp,q,A.Pu,uf]
    simp[Go.binOp,q,A.Pu,uf]
   cases h
  cases h
 .rename_i fs a;have i:=ir f (tU a);obtain⟨E,d,z,-,Q,-,-,-,-,-,m,M⟩:=i.ex;obtain⟨F,rfl,C⟩:=AB (m ▸ a);split at h
  .rename_i N;rw[M]at N;simp only[Pe,ya,kQq]at N;obtain⟨⟨p,s⟩,B⟩:=N;split at h
   .rename_i xs;split at h
    .rename_i ys;split at h
     .rename_i n Z;have g:(eqGuard o t x y (.agg xs) (.agg ys)).run P w=.ok () w:=run_eqGuard_agg w o t x y xs ys p;have H:P.fieldsOf t=F:=by simp[Program.fieldsOf,Q]
      have D:P.underlying t=some (.struct (P.fieldsOf t)):=by rw[H];exact Q
      have q:(Op.equalIn 10000 t (.agg xs) (.agg ys)).run P w=.ok n w:=by rw[run_equalIn_agg w 9999 t xs ys D s,H];exact AV f 9998 xs ys w F.toList 0 n B (by simpa[C]using Z)
      rw[nX,g,mB];rcases Fa h with⟨rfl,rfl⟩|⟨rfl,rfl⟩
      .rw[run_eql_struct,q];rfl
      rw[run_neq_struct,q];rfl
     cases h
    cases h
   cases h
  cases h
 cases h
variable {P:Program}{T:bg}{A:Ar}[bI A]
variable {ds:List Deferred}{h0:ad}{w0:World}{β:Nat->Nat}{env:Env}{L:Loc}{h:ad}{a:Act}{w:World}
theorem NA{a:Type}{P:Program}{w:World}{x:Sem a}{f:a->Sem Next}{r:a}(hx:x.run P w=.ok r w):(x >>= f).run P w=(f r).run P w:=by rw[nX,hx];rfl
def fJ(P:Program)(β:Nat->Nat)(L:Loc)(a:Act)(w:World)(o:Oper)(sv:SV):Prop:=
 ∃v,(execOp a.eval o).run P w=.ok (.value v) w/\sB β L sv v
theorem fJ.fin(b:dQ ds h0 w0 β env L h a w){s:SV}(q:fJ P β L a w o s):
 ∃v w' p,(execOp a.eval o).run P w=.ok (.value v) w'/\dQ ds h0 w0 p (put env o.dst s) (eX L o.dst none) h (a.put o.dst v) w':=by
 obtain⟨v,c,l⟩:=q;refine⟨v,w,β,c,?_⟩;have:eX L o.dst none=L:=by unfold eX;cases o.dst<;>rfl
 rw[this];exact b.put l
theorem EO(h:gV P T){f:Field}{n:Nat}(k:(T.ty f.type).kd.isNone=false)(a:(T.ty f.type).size=n+1)(x:Addr)(w:World):
 (fieldPlace x f).run P w=.ok (x.add f.offset) w:=by
 have i:=ir h (il k);simp[fieldPlace,i.gO,a]
theorem Mm{F:Array Field}{i t off:Nat}(b:fs=F.toList.map λf=>(f.type,f.offset))(h:fs[i]? =some (t,off)):
 ∃f,F[i]? =some f/\f.type=t/\f.offset=off:=by
 subst b;rw[kS]at h;cases a:F.toList[i]? with
 |none=>simp[a]at h
 |some f=>simp[a]at h;exact⟨f,by simpa using a,h.1,h.2⟩
theorem Lu(i:dQ ds h0 w0 β env L h a w){off n:Nat}(hl:mg L s=some c)(t:takeN c off n=some cs):
 cs.length=n/\∀j,j<cs.length->w.cell? ⟨β s,off+j,none⟩=cs[j]? :=by
 obtain⟨b,d⟩:=EB t;obtain⟨-,-,e,f⟩:=i.loc s c hl;refine⟨b,λj g=>?_⟩;rw[Rm f,<-d j g];simp
set_option maxHeartbeats 1000000 in
theorem BZ(D:gV P T)(j:dQ ds h0 w0 β env L h a w){sv:SV}{nb:Option (List Value)}
 (hl:jK A T (λ_=>P) o (Sx.qi env) L h (λx y=>x=sv/\y=nb)):
 ∃v w' pD,(execOp a.eval o).run P w=.ok (.value v) w'/\dQ ds h0 w0 pD (put env o.dst sv) (eX L o.dst nb) h (a.put o.dst v) w':=by
 unfold jK at hl;split at hl;case h_1 x p=>-- move
  obtain⟨rfl,rfl⟩:=hl;exact fJ.fin j ⟨_,by simp only[execOp,p];rfl,j.qi x⟩
 case h_2 c x y p=>-- pick
  split at hl
  .rename_i hc;obtain⟨rfl,rfl⟩:=hl;exact fJ.fin j ⟨_,by simp only[execOp,p,j.bO hc];rfl,j.qi x⟩
  .rename_i hc;obtain⟨rfl,rfl⟩:=hl;exact fJ.fin j ⟨_,by simp only[execOp,p,j.bO hc];rfl,j.qi y⟩
  exact hl.elim
 case h_3 e p=>-- alloc
  split at hl
  .exact hl.elim
  rename_i E;split at hl
  .exact hl.elim
  rename_i d hd;split at hl
  .rename_i lr;obtain⟨rfl,rfl⟩:=hl;obtain⟨z,hz,HM⟩:=(ir D (il E)).pN w;have hb:=j.box lr (T.ty e).zero e;rw[hd];refine⟨_,_,_,?_,hb⟩;simp only[execOp,p,Instr.alloc,nX,hz,mB,newVar,newRow,run_newObj,va];rw[<-HM]
  exact hl.elim
 case h_4 e x p=>-- box
  split at hl
  .exact hl.elim
  rename_i d hd;split at hl
  .rename_i v C;split at hl
   .rename_i lr;obtain⟨rfl,rfl⟩:=hl;have hb:=j.box lr v.cells.toList e;rw[hd];refine⟨_,_,_,?_,hb⟩;simp only[execOp,p,Instr.box,nX,mB,newVar,newRow,run_newObj,va,j.bO C]
   exact hl.elim
  exact hl.elim
 case h_5 t x p=>-- load
  split at hl
  .exact hl.elim
  rename_i E;have G:=ir D (il E);split at hl
  .rename_i s off hx;split at hl
   .rename_i c hc;split at hl
    .rename_i cs ar;obtain⟨H,O⟩:=Lu j hc ar;obtain⟨v,I,h4⟩:=mI hl;obtain⟨rfl,rfl⟩:=h4;obtain⟨v',h5,h6⟩:=ri G w (β s) off cs H O I;subst h6;exact fJ.fin j ⟨_,by simp only[execOp,p,(j.sU hx).2,Instr.loadAt,Instr.sureAddr,nX,va,mB,h5],rfl⟩
    exact hl.elim
   exact hl.elim
  .rename_i y hx;obtain⟨cs,H,hl⟩:=hl.out;obtain⟨R,K,S⟩:=H.cell j.after.Ee;obtain⟨v,I,h4⟩:=mI hl;obtain⟨rfl,rfl⟩:=h4;obtain⟨v',h5,h6⟩:=ri G w y.block y.off cs K S I;subst h6;have:y=⟨y.block,y.off,none⟩:=by cases y;simp at R;rw[R]
   exact fJ.fin j ⟨_,by simp only[execOp,p,j.bO hx,Instr.loadAt,Instr.sureAddr,nX,va,mB];rw[this,h5];rfl,rfl⟩
  exact hl.elim
 case h_6 x p=>-- nilCheck
  split at hl
  .rename_i s off hx;obtain⟨rfl,rfl⟩:=hl;have:=j.sU hx;exact fJ.fin j ⟨_,by simp only[execOp,p,this.2];rfl,this.1,rfl⟩
  .rename_i y hx;obtain⟨rfl,rfl⟩:=hl;exact fJ.fin j ⟨_,by simp only[execOp,p,j.bO hx];rfl,rfl⟩
  exact hl.elim
 case h_7 t x f p=>-- fieldAddr
  split at hl
  .rename_i fs W;have G:=ir D (tU W);obtain⟨d,hd,-,X,-⟩:=G.cR w;obtain⟨F,rfl,hF⟩:=AB (X ▸ W);split at hl
   .rename_i ft off hf;obtain⟨fd,Q,rfl,rfl⟩:=Mm hF hf;split at hl
    .exact hl.elim
    rename_i E;split at hl
    .exact hl.elim
    rename_i n hn;have hp:=λy=>EO D E hn y w;split at hl
    .rename_i s off hx;obtain⟨rfl,rfl⟩:=hl;have:=j.sU hx;exact fJ.fin j ⟨_,by simp only[execOp,p,this.2,Instr.fieldAt,Instr.sureAddr,nX,hd,mB,Q,va,hp,cI],this.1,rfl⟩
    .rename_i y hx;obtain⟨rfl,rfl⟩:=hl;exact fJ.fin j ⟨_,by simp only[execOp,p,j.bO hx,Instr.fieldAt,Instr.sureAddr,nX,hd,mB,Q,va,hp];rfl,by simp[sB,A.bJP]⟩
    exact hl.elim
   exact hl.elim
  exact hl.elim
 case h_8 t x ix p=>-- indexAddr
  split at hl
  .rename_i kk n ON;split at hl
   .rename_i e B;have G:=ir D (ic B);obtain⟨d,hd,-,X,-⟩:=G.cR w;obtain rfl:=pT (X ▸ B);split at hl
    .exact hl.elim
    rename_i E;have U:=ir D (il E);split at hl
    .rename_i b len cap hx;obtain⟨⟨R,K,S⟩,rfl,rfl⟩:=(show uW _ _ from hl);obtain⟨y,rfl⟩:=kQg.1 R;refine fJ.fin j ⟨.pointer (some (y.add (n.toNat*(T.ty e).size))),?_,by simp[sB,A.wG,je]⟩;simp[execOp,p,j.bO hx,j.bO ON,Instr.indexAt,asIntOf,hd,U.gO,K,S]
    exact hl.elim
   .rename_i m e B;have G:=ir D (Fo B);obtain⟨d,hd,-,X,-⟩:=G.cR w;obtain rfl:=On (X ▸ B);split at hl
    .exact hl.elim
    rename_i E;have U:=ir D (il E);split at hl
    .rename_i s off hx;obtain⟨⟨K,S⟩,rfl,rfl⟩:=(show uW _ _ from hl);have:=j.sU hx;refine fJ.fin j ⟨.pointer (some ⟨β s,off+n.toNat*(T.ty e).size,none⟩),?_,this.1,by simp[A.dXo]⟩;simp[execOp,p,this.2,j.bO ON,Instr.indexAt,asIntOf,hd,U.gO,K,S,Instr.sureAddr,cI]
    .rename_i y hx;obtain⟨⟨K,S⟩,rfl,rfl⟩:=(show uW _ _ from hl);refine fJ.fin j ⟨.pointer (some (y.add (n.toNat*(T.ty e).size))),?_,by simp[sB,A.wG,je]⟩;simp[execOp,p,j.bO hx,j.bO ON,Instr.indexAt,asIntOf,hd,U.gO,K,S,Instr.sureAddr]
    exact hl.elim
   exact hl.elim
  exact hl.elim
 case h_9 t x ix p=>-- index
  split at hl
  .rename_i kk n ON;split at hl
   .rename_i B;have G:=ir D (show(T.ty t).kd≠.none by rw[B];simp);obtain⟨d,hd,-,X,-⟩:=G.cR w;obtain rfl:=Om (X ▸ B);split at hl
    .rename_i s hx;obtain⟨⟨K,S⟩,rfl,rfl⟩:=(show uW _ _ from hl);have aU:n.toNat<s.size:=by omega
     refine fJ.fin j ⟨.int .u8 (s[n.toNat].toNat:Int),?_,?_⟩
     .simp[execOp,p,j.bO hx,j.bO ON,Instr.index,asIntOf,hd,K,aU]
     have:n.toNat<s.data.size:=aU;simp only[sB,A.aKn,jKg,kQf this];rfl
    exact hl.elim
   exact hl.elim
  exact hl.elim
 case h_10 t x f p=>-- field
  split at hl
  .rename_i fs W;have G:=ir D (tU W);obtain⟨d,hd,-,X,-⟩:=G.cR w;obtain⟨F,rfl,hF⟩:=AB (X ▸ W);split at hl
   .rename_i ft off hf;obtain⟨fd,Q,rfl,rfl⟩:=Mm hF hf;split at hl
    .exact hl.elim
    rename_i E;have ag:=ir D (il E);split at hl
    .rename_i cs hx;split at hl
     .rename_i ds Z;obtain⟨H,O⟩:=EB Z;obtain⟨v,I,h4⟩:=mI hl;obtain⟨rfl,rfl⟩:=h4;refine fJ.fin j ⟨v,?_,rfl⟩;have an:(part fd.type cs fd.offset).run P w=.ok v w:=by
       unfold part;rw[nX,ag.Hy];unfold uO at I;cases hg:(T.ty fd.type).agg with
       |true=>
        simp only[hg]at I;subst I;unfold takeN at Z;split at Z
        .cases Z;simp only[mB,if_true,nX,ag.gO,va];congr 2;apply Array.ext';simp[kXm,List.extract]
        cases Z
       |false=>
        simp only[hg]at I;cases ds with
        |nil=>exact I.elim
        |cons y r=>simp only at I;subst I;have:=O 0 (by simp);simp only[kQt,kQb,kZj]at this;simp[this]
      simp only[execOp,p,j.bO hx,Instr.field,nX,hd,mB,Q,asAgg,va,an]
     exact hl.elim
    exact hl.elim
   exact hl.elim
  exact hl.elim
 case h_11 x i p=>-- extract
  split at hl
  .rename_i vs hx;split at hl
   .rename_i v C;obtain⟨rfl,rfl⟩:=hl;simp only[kQb]at C;exact fJ.fin j ⟨v,by simp[execOp,p,j.bO hx,Instr.extract,C],rfl⟩
   exact hl.elim
  exact hl.elim
 case h_12 t parts p=>-- build
  split at hl
  .exact hl.elim
  rename_i E;split at hl
  .rename_i ps XZ;split at hl
   .rename_i cs ar;obtain⟨rfl,rfl⟩:=hl;have H:=run_build D w E ar;have O:(parts.map λ(i,x)=>(i,a.eval x))=ps.toArray:=by rw[<-vP j XZ];apply Array.ext';simp
    exact fJ.fin j ⟨_,by simp only[execOp,p,O,nX,H,mB,va],rfl⟩
   exact hl.elim
  exact hl.elim
 case h_13 op t x y ty p=>-- binOp
  split at hl
  .rename_i u Y;split at hl
   .rename_i v C;split at hl
    .rename_i r M;obtain⟨rfl,rfl⟩:=hl;have:=ZD (P:=P) (A:=A) (t:=t) (x:=x) (y:=y) M w;exact fJ.fin j ⟨_,by simp only[execOp,p,j.bO Y,j.bO C];rw[NA this];rfl,rfl⟩
    split at hl
    .rename_i r M;obtain⟨rfl,rfl⟩:=hl;have:=Zo (A:=A) D (x:=x) (y:=y) M w;exact fJ.fin j ⟨_,by simp only[execOp,p,j.bO Y,j.bO C];rw[NA this];rfl,rfl⟩
    obtain⟨r,⟨rfl,rfl⟩,O⟩:=Gp (e:=λk _=>uj _ _ k) (λk h=>by
     obtain⟨v,R,K⟩:=h.out;exact⟨v,K,λk' h'=>⟨v,R,h'⟩⟩) hl
    have:=ZE (P:=P) (A:=A) (t:=t) (x:=x) (y:=y) (O (λz=>z=r) rfl) (λh w=>by
     obtain⟨v,R,rfl⟩:=h.out;exact R w) w
    exact fJ.fin j ⟨_,by simp only[execOp,p,j.bO Y,j.bO C];rw[NA this];rfl,rfl⟩
   exact hl.elim
  exact hl.elim
 case h_14 op t x p=>-- unOp
  split at hl
  .rename_i b hx;split at hl
   .obtain⟨rfl,rfl⟩:=hl;exact fJ.fin j ⟨.bool (!b),by simp only[execOp,p,j.bO hx];rfl,by simp[sB,A.not_eq]⟩
   exact hl.elim
  .rename_i J n hx;split at hl
   .obtain⟨rfl,rfl⟩:=hl;exact fJ.fin j ⟨.int J (J.wrap (0-n)),by simp only[execOp,p,j.bO hx];rfl,by simp[sB,A.wO,aT]⟩
   .obtain⟨rfl,rfl⟩:=hl;exact fJ.fin j ⟨.int J (aT .xor J (bQS J) n),by simp only[execOp,p,j.bO hx];rfl,by simp[sB,A.wO]⟩
   exact hl.elim
  exact hl.elim
 case h_15 src dst x p=>-- convert
  split at hl
  .rename_i q n hx;split at hl
   .rename_i J X;split at hl
    .rename_i ks ab;obtain⟨rfl,rfl⟩:=hl;obtain⟨d1,Ts,-,fG,-⟩:=(ir D (t:=dst) (by rw[X];simp)).cR w;obtain⟨d2,al,-,rY,-⟩:=(ir D (t:=src) (by rw[ab];simp)).cR w;have e1:d1=.int J:=by rw[X]at fG;cases d1<;>simp[pU]at fG;rw[fG]
     have e2:d2=.int ks:=by rw[ab]at rY;cases d2<;>simp[pU]at rY;rw[rY]
     subst e1 e2;have M:(Go.convert src dst (.int q n)).run P w=.ok (.int J (A.conv J n)) w:=by rw[A.aKm];simp[Go.convert,Ts,al,Conv.intToInt]
     exact fJ.fin j ⟨_,by simp only[execOp,p,j.bO hx];rw[NA M];rfl,rfl⟩
    exact hl.elim
   obtain⟨r,H,rfl,rfl⟩:=(show uj _ _ _ from hl).out;exact fJ.fin j ⟨r,by simp only[execOp,p,j.bO hx];rw[NA (H w)];rfl,rfl⟩
  .rename_i u Y hx;obtain⟨r,H,rfl,rfl⟩:=(show uj _ _ _ from hl).out;exact fJ.fin j ⟨r,by simp only[execOp,p,j.bO hx];rw[NA (H w)];rfl,rfl⟩
  exact hl.elim
 case h_16 t x p=>-- makeInterface
  split at hl
  .exact hl.elim
  .exact hl.elim
  rename_i fG rY;split at hl
  .rename_i v hx;obtain⟨rfl,rfl⟩:=hl;have G:=ir D (t:=t) (λe=>rY e);obtain⟨d,hd,-,X,-⟩:=G.cR w;refine fJ.fin j ⟨.iface t v,?_,rfl⟩;simp only[execOp,p,j.bO hx,Instr.makeInterface,nX,hd,mB];cases d<;>first
    |rfl
    | (exact absurd X (by simpa[pU]using fG))
  exact hl.elim
 case h_17 fn f c p=>-- makeFunc
  split at hl
  .rename_i fs W;split at hl
   .rename_i cs ar;obtain⟨rfl,rfl⟩:=hl;refine fJ.fin j ⟨.func fn fs.toArray cs.toArray,?_,rfl⟩;simp only[execOp,p,jY j W,jY j ar];rfl
   exact hl.elim
  exact hl.elim
 case h_18 t x lo G mx p=>-- slice
  split at hl
  .rename_i l hh m H O I;have e1:=EF j H;have e2:=EF j O;have V:=EF j I;split at hl
   .rename_i e B;have N:=ir D (ic B);obtain⟨d,hd,-,X,-⟩:=N.cR w;obtain rfl:=pT (X ▸ B);split at hl
    .exact hl.elim
    rename_i E;have U:=ir D (il E);split at hl
    .rename_i b len cap hx;obtain⟨v,C,bM⟩:=tK hl;obtain⟨rfl,rfl⟩:=C;obtain⟨Lo,Hi,Mx,M,rfl⟩:=EG (P:=P) (A:=A) (g:=true) e1 e2 V (bM (λx=>x=v) rfl) w;refine fJ.fin j ⟨_,?_,rfl⟩;simp only[execOp,p,j.bO hx,Instr.sliceAt,Instr.slice,nX,hd,mB,M,U.gO,va]
    exact hl.elim
   .rename_i n e B;have N:=ir D (Fo B);obtain⟨d,hd,-,X,-⟩:=N.cR w;obtain rfl:=On (X ▸ B);split at hl
    .exact hl.elim
    rename_i E;have U:=ir D (il E);split at hl
    .rename_i b hx;obtain⟨v,C,bM⟩:=tK hl;obtain⟨rfl,rfl⟩:=C;obtain⟨Lo,Hi,Mx,M,rfl⟩:=EG (P:=P) (A:=A) (g:=false) e1 e2 V (bM (λx=>x=v) rfl) w;refine fJ.fin j ⟨_,?_,rfl⟩;simp only[execOp,p,j.bO hx,Instr.sliceAt,Instr.sureAddr,asAddr,nX,hd,mB,M,U.gO,va,Option.map_some];split<;>simp_all
    exact hl.elim
   .rename_i B;have N:=ir D (show(T.ty t).kd≠.none by rw[B];simp);obtain⟨d,hd,-,X,-⟩:=N.cR w;obtain rfl:=Om (X ▸ B);split at hl
    .rename_i s hx;split at hl
     .obtain⟨v,C,bM⟩:=yR hl;obtain⟨rfl,rfl⟩:=C;obtain⟨Lo,Hi,Mx,M,rfl⟩:=NJ (P:=P) (A:=A) e1 e2 (bM (λx=>x=v) rfl) w;have aq:mx.map a.eval=none:=by
       rcases V with V| ⟨n,k,V,-⟩
       .exact V.2
       cases V
      refine fJ.fin j ⟨_,?_,rfl⟩;simp[execOp,p,j.bO hx,Instr.sliceAt,Instr.slice,hd,M,aq]
     exact hl.elim
    exact hl.elim
   exact hl.elim
  exact hl.elim
 case h_19 b args argTypes p=>-- Zy
  have uH:∀(vs:List Value),pK (args.toList.map (Sx.qi env))=some vs->
   (execOp a.eval o)=builtin b argTypes o.type (args.map λ| .const _=>true|_=>false) vs.toArray:=λvs C=>by
   simp only[execOp,p,resolve];rw[jY j C];rfl
  split at hl
  .split at hl
   .rename_i t ht;split at hl
    .rename_i q n r C;split at hl
     .rename_i e B;obtain⟨rfl,rfl⟩:=hl;have N:=ir D (ic B);obtain⟨d,hd,-,X,-⟩:=N.cR w;obtain rfl:=pT (X ▸ B);refine fJ.fin j ⟨.int .i64 (Int.ofNat n),?_,by simp[sB,A.nat_eq]⟩;rw[uH _ C];simp[builtin,Builtin.len_,ht,hd,goInt]
     exact hl.elim
    .rename_i s C;split at hl
     .rename_i B;obtain⟨rfl,rfl⟩:=hl;have N:=ir D (show(T.ty t).kd≠.none by rw[B];simp);obtain⟨d,hd,-,X,-⟩:=N.cR w;obtain rfl:=Om (X ▸ B);refine fJ.fin j ⟨.int .i64 (Int.ofNat s.size),?_,by simp[sB,A.Wc]⟩;rw[uH _ C];simp[builtin,Builtin.len_,ht,hd,goInt]
     exact hl.elim
    exact hl.elim
   exact hl.elim
  .split at hl
   .rename_i t ht;split at hl
    .rename_i q r n C;split at hl
     .rename_i e B;obtain⟨rfl,rfl⟩:=hl;have N:=ir D (ic B);obtain⟨d,hd,-,X,-⟩:=N.cR w;obtain rfl:=pT (X ▸ B);refine fJ.fin j ⟨.int .i64 (Int.ofNat n),?_,by simp[sB,A.nat_eq]⟩;rw[uH _ C];simp[builtin,Builtin.cap_,ht,hd,goInt]
     exact hl.elim
    exact hl.elim
   exact hl.elim
  .split at hl
   .rename_i J x ao y C;obtain⟨rfl,rfl⟩:=hl;refine fJ.fin j ⟨.int J (min x y),?_,by simp[sB,A.aZE]⟩;rw[uH _ C];simp only[builtin,Builtin.min_,kXO,kXN,Builtin.min2,nX,va,mB];congr 3;simp only[Int.min_def];split<;>split<;>omega
   exact hl.elim
  .split at hl
   .rename_i J x ao y C;obtain⟨rfl,rfl⟩:=hl;refine fJ.fin j ⟨.int J (max x y),?_,by simp[sB,A.aZF]⟩;rw[uH _ C];simp only[builtin,Builtin.max_,kXO,kXN,Builtin.max2,nX,va,mB];congr 3;simp only[Int.max_def];split<;>split<;>omega
   exact hl.elim
  exact hl.elim
 case h_20 x q as ok p=>-- typeAssert
  split at hl
  .rename_i u Y;obtain⟨r,H,rfl,rfl⟩:=(show uj _ _ _ from hl).out;exact fJ.fin j ⟨r,by simp only[execOp,p,j.bO Y];rw[NA (H w)];rfl,rfl⟩
  exact hl.elim
 case h_21=>exact hl.elim
variable {P:Program}{T:bg}{A:Ar}[bI A]
variable {ds:List Deferred}{h0:ad}{w0:World}{β:Nat->Nat}{env:Env}{L:Loc}{h:ad}{a:Act}{w:World}
theorem Hd(z:List Value):∀(n i:Nat),i<n*z.length->(iJ n z)[i]? =z[i % z.length]?
 |0,i,h=>by simp at h
 |n+1,i,h=>by
  unfold iJ;rw[kXl,jKR];by_cases hl:i<z.length
  .rw[kQa hl,Nat.mod_eq_of_lt hl]
  rw[kQe (by omega)];have:=Hd z n (i-z.length) (by rw[jKi]at h;generalize n*z.length=q at *;omega);unfold iJ at this;rw[this,<-Nat.mod_eq_sub_mod (by omega)]
theorem fZ(z:List Value)(n:Nat):(iJ n z).length=n*z.length:=by simp[iJ,List.length_flatten]
theorem range_zero(z:Array Value)(n:Nat):(Array.range (n*z.size)).map (λi=>z[i % z.size]!)=(iJ n z.toList).toArray:=by
 apply Array.ext';apply yr;intro i;by_cases h:i<n*z.size
 .have:=Hd z.toList n i (by simpa using h);simp only[Array.toList_map,kS,List.toList_toArray]at this |-;rw[this];have a:0<z.size:=by
   rcases jKj z.size with e|e
   .rw[e]at h;simp at h
   exact e
  have m:i % z.size<z.size:=kQp _ a;simp[Array.toList_range,h,m]
 rw[yo (by simp;omega),yo (by simp[fZ];omega)]
theorem xd(s:DC h w){n:Nat}(r:bQH h b (n*size) cs)(x y:Nat):
 (Builtin.firstCells size n (.slice b x y)).run P w=.ok cs.toArray w:=by
 rcases r with⟨e,rfl⟩|⟨q,rfl,r⟩
 .cases b with
  |none=>rfl
  |some q=>simp[Builtin.firstCells,e,loadCells,loadCellsFrom]
 obtain⟨g,c,d⟩:=r.cell s;simp only[Builtin.firstCells];rw[<-c];have:q=⟨q.block,q.off,none⟩:=by cases q;simp at g;rw[g]
 rw[this];exact run_loadCells_list (P:=P) w _ cs (λj v a=>by
  have f:j<cs.length:=by rw[ff]at a;exact a.1
  rw[cI,d j f,a])
theorem GG.run(s:DC h w){q:Addr}{k:ad->Prop}(i:jv cs=true)(hx:GG h q cs k):
 ∃w' h',(storeCells q cs).run P w=.ok () w'/\k h'/\bT h w h' w':=by
 obtain⟨c,e,fr,g,a,t,d,f⟩:=hx.out;have j:q=⟨q.block,q.off,none⟩:=by cases q;simp at g;rw[g]
 obtain⟨w',l,m,n,p,r⟩:=pO (P:=P) (b:=q.block) (o:=q.off) (e:=e) (fr:=fr) cs 0 c w (s _ _ a) (by omega) (by simpa using d) i;refine⟨w',_,?_,f _ rfl,?_⟩
 .rw[j];exact l
 exact bT.set s a (by simpa using m) n p r
theorem xZ.run(s:DC h w){k:ad->Prop}(a:jv cs=true)(hx:xZ h b cs k):
 ∃w' h',((match b with|some q=>storeCells q cs|none=>pure ()):Sem Unit).run P w=.ok () w'/\k h'/\bT h w h' w':=by
 rcases hx with⟨rfl,c⟩|⟨q,rfl,hx⟩
 .refine⟨w,h,?_,c,bT.refl s⟩;cases b<;>rfl
 exact hx.run s a
theorem Ij(n:Nat)(a:256<=n):∀(r c:Nat),c<=2*n->Builtin.growBy n r c<=2*n
 |0,c,h=>h
 |r+1,c,h=>by
  unfold Builtin.growBy;split
  .exact h
  exact Ij n a r _ (by omega)
theorem NY(n c:Nat)(h:c<n):Builtin.nextslicecap n c<=2*n:=by
 unfold Builtin.nextslicecap;split
 .omega
 split
 .omega
 exact Ij n (by omega) 4 c (by omega)
theorem Je:(2:Int)^48=281474976710656:=rfl
theorem Xb:(2:Nat)^48=281474976710656:=rfl
theorem yp(size:Nat)(s:ByteArray)(w:World):(Builtin.firstCells size s.size (.string s)).run P w=.ok (vu s).toArray w:=by
 have h:s.extract 0 s.size=s:=by
  ext1
  rw[kXk];show s.data.extract 0 s.data.size=_;simp
 simp only[Builtin.firstCells,h,va];congr 1;unfold vu;rw[<-Array.toList_map]
theorem uv.run(hs:DC h w){len n:Nat}{new:List Value}{k:Value->ad->Prop}(hx:uv h b len cap n size bytes e new k)
 {t u:TypeId} {r:Array TypeId} (h0:r[0]? =some t) (l:r[1]? =some u) {g:TypeDesc} (hu:P.underlying t=some (.slice e)) (al:P.underlying u=some g)
 {i:Ti} (hi:Bh P e i) (ig:i.size=size) (oW:i.bytes=bytes) (hz:i.zero.length=size) {x:Value}
 (uY:(∃q m,x=.slice q n m/\(∀A,g≠.int A)/\bQH h q (n*size) new)\/(∃A k' j,x=.int A j/\g=.int k'/\j.toNat=n/\0<=j/\j<=2^48/\j*bytes<=2^48/\new=iJ n i.zero)\/(∃s,x=.string s/\g=.string/\s.size=n/\new=vu s)) (ty:TypeId):
 ∃v w' h',(Builtin.append_ r ty #[.slice b len cap,x]).run P w=.ok v w'/\k v h'/\bT h w h' w':=by
 obtain⟨z,M,HM⟩:=hi.pN w;have ao:z.cells.size=size:=by rw[<-hz,<-HM];simp
 have F:∀W,(underlying t).run P W=.ok (.slice e) W:=λW=>by simp[underlying,hu]
 have C:∀W,(underlying u).run P W=.ok g W:=λW=>by simp[underlying,al]
 have X:∀W,(zeroValue e).run P W=.ok z W:=λW=>by
  obtain⟨R,d',z',e1,-,e3,-⟩:=hi.ex;simp[zeroValue,typeInfo,e1,e3]at M |-;exact M
 obtain⟨p,Z,kW,gZ⟩:∃p,(∀W,(typeInfo e).run P W=.ok p W)/\i.size=p.size/\i.bytes=p.bytes:=by obtain⟨R,d',z',e1,-,e3,-,e4,e5,-⟩:=hi.ex;exact⟨R,λW=>by simp[typeInfo,e1],e4,e5⟩
 have U:∀W,(sizeOf e).run P W=.ok size W:=λW=>by rw[hi.gO,ig]
 have hm:(∃q m,x=.slice q n m/\(∀A,g≠.int A)/\bQH h q (n*size) new)->(match g with| .int _=>true|_=>false)=false:=λ⟨_,_,_,T,_⟩=>by
  cases g<;>first
   |rfl
   |exact absurd rfl (T _)
 have L:∀m,Builtin.zeroCells z.cells m=(iJ m i.zero).toArray:=λm=>by
  unfold Builtin.zeroCells;rw[range_zero,HM]
 by_cases f:len+n<=cap
 .obtain⟨w',h',k1,k2,k3⟩:=(hx.fits f).run (P:=P) hs hx.one;refine⟨_,w',h',?_,k2,k3⟩;have fin:Sem.run P (match b with
   |some a=>Functor.map (λa=>Value.slice b (len+n) cap) (storeCells (a.add (len*size)) new)
   |x=>pure (Value.slice b (len+n) cap)) w=Result.ok (Value.slice b (len+n) cap) w':=by
   cases b with
   |none=>simp at k1;simp[k1]
   |some q=>simp at k1;simp[k1]
  rcases uY with⟨q,m,rfl,T,Y⟩|⟨A,kq,j,rfl,rfl,N,LW,V,an,rfl⟩|⟨s,rfl,rfl,rfl,rfl⟩
  .have GS:=hm ⟨q,m,rfl,T,Y⟩;simp[Builtin.append_,h0,l,F,C,U,GS,Builtin.lenOf,f,xd hs Y];exact fin
  rotate_left
  .have zQ:=yp (P:=P) size s w;simp[Builtin.append_,h0,l,F,C,U,Builtin.lenOf,f,zQ];exact fin
  have G:IntKind.i64.wrap j=j:=IntWalk.i64_in j (by omega);have H:¬j<0:=by omega
  have D:¬(281474976710656:Int)<j*p.bytes:=by rw[<-gZ,oW,<-Je];omega
  by_cases B:n*size=0
  .have bS:iJ n i.zero=[]:=kh (by rw[fZ,hz,B]);rw[bS]at fin;simp[Builtin.append_,h0,l,F,C,U,asInt,asIntOf,G,H,Z,D,N,f,B];exact fin
  simp[Builtin.append_,h0,l,F,C,U,asInt,asIntOf,G,H,Z,D,N,f,B,X,L];exact fin
 obtain⟨b1,b2,Xj,ho,ag⟩:=hx.bXL (by omega);have Mc:¬(281474976710656<Builtin.nextslicecap (len+n) cap*p.bytes):=by
  have:=NY (len+n) cap (by omega);have:=za p.bytes this;rw[<-gZ,oW]at this |-;have e:(2:Nat)^48=281474976710656:=by rfl
  omega
 have J:¬((9223372036854775807:Int)<(len:Int)+n):=by rw[Xb]at b2;omega
 have y:DC h w.drew:=hs;have Q:(Question.appendCap (len+n) cap e).forced=false:=rfl;obtain⟨c,K⟩:∃c,(Question.appendCap (len+n) cap e).cut (w.tape w.drawn (Question.appendCap (len+n) cap e))=c:=⟨_,rfl⟩;have hc:len+n<=c:=by rw[<-K];simp[Question.cut]
 have o:(Builtin.firstCells size len (.slice b len cap)).run P w.drew=.ok Xj.toArray w.drew:=xd y ho len cap;obtain⟨d,I⟩:∃d,d=iJ (c-(len+n)) i.zero:=⟨_,rfl⟩;have XX:d.length=(c-(len+n))*size:=by rw[I,fZ,hz]
 have E:=bT.new y (.cells (Xj++new++d).toArray e (0,0));have aq:w.drew.heap.size=w.heap.size:=rfl;refine⟨.slice (some ⟨w.heap.size,0,none⟩) (len+n) c,w.drew.alloc (.cells (Xj++(new++d)).toArray e),_,?_,ag w.heap.size c _ d (hs.oa (kB _)) hc XX rfl,?_⟩;rotate_left
 .rw[<-ym];exact⟨E.os,E.tape,E.output,E.size,E.Ee,E.frame⟩
 rcases uY with⟨q,m,rfl,T,Y⟩|⟨A,kq,j,rfl,rfl,N,LW,V,an,S⟩|⟨s,rfl,rfl,rfl,rfl⟩
 .have GS:=hm ⟨q,m,rfl,T,Y⟩;have ab:(Builtin.firstCells size n (.slice q n m)).run P w.drew=.ok new.toArray w.drew:=xd y Y n m;simp[Builtin.append_,h0,l,F,C,U,GS,Builtin.lenOf,f,Z,Mc,J,Q,o,ab,X,L,newRow,K,<-I]
 rotate_left
 .have zQ:=yp (P:=P) size s w.drew;simp[Builtin.append_,h0,l,F,C,U,Builtin.lenOf,f,Z,Mc,J,Q,o,zQ,X,L,newRow,K,<-I]
 have G:IntKind.i64.wrap j=j:=IntWalk.i64_in j (by rw[Je]at V;omega);have H:¬j<0:=by omega
 have D:¬(281474976710656:Int)<j*p.bytes:=by rw[<-gZ,oW,<-Je];omega
 subst N;have O:¬((9223372036854775807:Int)<(len:Int)+max j 0):=by rw[Xb]at b2;omega
 by_cases B:j.toNat*size=0
 .have bS:new=[]:=by rw[S];exact kh (by rw[fZ,hz,B])
  simp[Builtin.append_,h0,l,F,C,U,asInt,asIntOf,G,H,Z,D,f,Mc,J,Q,o,B,X,L,newRow,K,<-I,bS,O]
 simp[Builtin.append_,h0,l,F,C,U,asInt,asIntOf,G,H,Z,D,f,Mc,J,Q,o,B,X,L,newRow,K,<-I,<-S,O]
variable {P:Program}{T:bg}{A:Ar}[bI A]
variable {ds:List Deferred}{h0:ad}{w0:World}{β:Nat->Nat}{env:Env}{L:Loc}{h:ad}{a:Act}{w:World}
def eJV(Lc L DA L':Loc):Prop:=(DA=Lc/\L'=L)\/∃s c x y,mg Lc s=some x/\mg L s=some y/\DA=vh Lc s c/\L'=vh L s c
theorem qf.run(s:DC h w){l c:Int}{kl kc:IntKind}{k:Value->ad->Prop}(hx:qf h e l c bytes z k)
 {t:TypeId} (r:P.underlying t=some (.slice e)) {i:Ti} (f:Bh P e i) (W:i.bytes=bytes) (p:i.zero=z) (L:z.length=i.size):
 ∃v w' h',(Instr.makeSlice t (.int kl l) (.int kc c)).run P w=.ok v w'/\k v h'/\bT h w h' w':=by
 obtain⟨E,G⟩:=hx.len;obtain⟨x,y⟩:=hx.room;rw[Je]at x y;obtain⟨q,Q,H⟩:=f.pN w;obtain⟨A,a,C,Z⟩:=f.KW w;have U:=f.gO w;have F:(underlying t).run P w=.ok (.slice e) w:=by simp[underlying,r]
 have u:IntKind.i64.wrap l=l:=IntWalk.i64_in l (by omega);have X:IntKind.i64.wrap c=c:=IntWalk.i64_in c (by omega);have D:=bT.new s (.cells (iJ c.toNat z).toArray e (0,0));refine⟨_,_,_,?_,hx.out w.heap.size _ (s.oa (kB _)) rfl,D⟩;have g:¬c<0:=by omega
 have j:¬((281474976710656:Int)<(A.bytes:Int)*c):=by rw[<-Z,W];omega
 have n:¬l<0:=by omega
 have o:¬c<l:=by omega
 have b:q.cells.size=i.size:=by rw[<-L,<-p,<-H];simp
 have d:=range_zero q.cells c.toNat;rw[b,H,p]at d;by_cases m:c.toNat*i.size=0
 .have S:iJ c.toNat z=[]:=kh (by rw[fZ,L,m]);have B:(Array.map (λ(_:Nat)=>(default:Value)) (Array.range 0))= #[]:=by simp
  simp[Instr.makeSlice,F,asInt,asIntOf,a,u,X,g,j,n,o,U,m,newRow,S,B]
 simp[Instr.makeSlice,F,asInt,asIntOf,a,u,X,g,j,n,o,U,m,newRow,Q,b,d]
theorem RU{n:Nat}(h:n*z.length=0):iJ n z=[]:=kh (by rw[fZ,h])
theorem CN{a b:List Value}(h:jv a=true)(d:jv b=true):jv (a++b)=true:=by
 induction a with
 |nil=>exact d
 |cons x r i=>
  simp only[kXj,jv]at h |-;cases c:one x with
  |true=>simp only[c]at h |-;exact i h
  |false=>simp only[c]at h;cases h
theorem yV(h:jv z=true):∀n,jv (iJ n z)=true
 |0=>rfl
 |n+1=>by
  unfold iJ;rw[kXl,jKR];exact CN h (yV h n)
theorem ue(d:gV P T){g:FuncId}(f:T.fn g=true)(args:Array Value)(w:World):(callFunc g args).run P w=.ok (.enter g args) w:=by obtain⟨fn,h,a,b⟩:=d.fn g f;obtain⟨c,e⟩:=kQg.1 a;simp[callFunc,h,b,e]
abbrev FW(ro:Option Nat):Fence:={ Fence.wide with round:=ro }
variable {ro:Option Nat}{n:Nat}
def oK(T:bg)(ds:List Deferred)(h0:ad)(w0:World)(Q:Exit->Act->World->Prop):Prop:=
 ∀c β env L h a w,T.kp c (T.rs.map λt=>Sx.qi env (.tmp t)) h->dQ ds h0 w0 β env L h a w->Q (.panic c) a w
theorem sg(t:∀c,o.op≠.defer c){r:Result Next}(b:(execOp a.eval o).run P w=r)(h:o.uponIn (FW ro) n P a next Q r):o.wpIn (FW ro) n P a w next Q:=by unfold Oper.wpIn;refine⟨λ_ _=>trivial,?_⟩;rw[Oper.semAt_eq _ _ _ t,b];exact h
theorem Av{r:Next}(h:(execOp a.eval o).run P w=.ok r w')(n:∀d,r≠.defer d):∀c,o.op≠.defer c:=λc b=>by
 simp only[execOp,b,nX]at h;cases hx:(resolve a.eval c o.type).run P w with
 |ok d e=>rw[hx]at h;simp only[mB,va]at h;cases h;exact n _ rfl
 |halt=>rw[hx]at h;cases h
theorem ve{v:Value}(r:(execOp a.eval o).run P w=.ok (.value v) w')(h:next (a.put o.dst v) w'):o.wpIn (FW ro) n P a w next Q:=
 sg (Av r (λ_ e=>by cases e)) r h
theorem Ks(r:(execOp a.eval o).run P w=.ok .skip w')(h:next (a.put o.dst undef) w'):o.wpIn (FW ro) n P a w next Q:=
 sg (Av r (λ_ e=>by cases e)) r h
set_option maxHeartbeats 2000000 in
theorem Ow(K:gV P T)(p:dQ ds h0 w0 β env L h a w){Lc:Loc}(aG:∀s c,mg L s=some c->mg Lc s=some c){k:SV->Loc->ad->Prop}
 (j:hx A T (λ_=>P) o (Sx.qi env) Lc h k)  
 (iO:oK T ds h0 w0 Q) (hn:∀sv v DA L' h' w',k sv DA h'->dQ ds h0 w0 β (put env o.dst sv) L' h' (a.put o.dst v) w'->eJV Lc L DA L'->next (a.put o.dst v) w'):o.wpIn (FW ro) n P a w next Q:=by
 have val:∀ {v:Value} {w':World} {h':ad},(execOp a.eval o).run P w=.ok (.value v) w'->k (.v v) Lc h'->bT h w h' w'->o.wpIn (FW ro) n P a w next Q:=λ{v w' h'} G Bv ha=>
  ve G (hn _ _ _ _ _ _ Bv ((p.step ha).put rfl) (.inl ⟨rfl,rfl⟩))
 have aw:∀ {w':World} {h':ad},(execOp a.eval o).run P w=.ok .skip w'->k (.v undef) Lc h'->bT h w h' w'->o.wpIn (FW ro) n P a w next Q:=λ{w' h'} G Bv ha=>
  Ks G (hn _ _ _ _ _ _ Bv ((p.step ha).put rfl) (.inl ⟨rfl,rfl⟩))
 have U:=p.after.Ee;have Z:∀ {s:Sem Value},fw (λ_=>P) (λ_=>s) h (λr h'=>k (.v r) Lc h')->execOp a.eval o=(do pure (.value (<-s)))->o.wpIn (FW ro) n P a w next Q:=λ{s} hx D=>by
  obtain⟨v,w',h',C,I,J⟩:=hx.out w U;exact val (by rw[D,nX,C];rfl) I J
 have an:∀ {s:Sem Unit},fw (λ_=>P) (λ_=>do s;pure undef) h (λ_ h'=>k (.v undef) Lc h')->execOp a.eval o=(do s;pure .skip)->o.wpIn (FW ro) n P a w next Q:=λ{s} hx D=>by
  obtain⟨v,w',h',C,I,J⟩:=hx.out w U;rw[nX]at C;cases G:s.run P w with
  |ok u w1=>rw[G]at C;simp only[mB,va]at C;cases C;exact aw (by rw[D,nX,G];rfl) I J
  |halt=>rw[G]at C;cases C
 unfold hx at j;split at j;case h_1 x B=>-- assign
  have G:(execOp a.eval o).run P w=.ok (.value (a.eval x)) w:=by simp only[execOp,B];rfl
  refine ve G ?_;exact hn _ _ _ _ _ _ j (p.put (p.qi x)) (.inl ⟨rfl,rfl⟩)
 case h_2 t q x B=>-- store
  split at j
  .exact j.elim
  rename_i X;have hi:=ir K (il X);split at j
  .rename_i v E;split at j
   .exact j.elim
   rename_i ig;have aB:v.cells.size=(T.ty t).size:=by simpa using ig
   split at j
   .exact j.elim
   rename_i R;have fT:∀ {y:Addr} {w':World},(storeCells y v.cells.toList).run P w=.ok () w'->(Instr.storeAt t (.pointer (some y)) v).run P w=.ok () w':=λ{y w'} G=>by
    simp only[Instr.storeAt,Instr.sureAddr,nX,va,mB,storeVar,hi.gO,aB];simp[G]
   split at j
   .rename_i s off hq;split at j
    .rename_i c hc;obtain⟨⟨c',zl⟩,aF⟩:=p.sU hq;have:c'=c:=by have:=aG _ _ zl;rw[hc]at this;cases this;rfl
     subst this;split at j
     .rename_i hd;have aC:=lA hd;obtain⟨-,-,e,D⟩:=p.loc s c' zl;obtain⟨w',C,I,J,k4,k5⟩:=pO (P:=P) (b:=β s) (o:=off) (e:=e) (fr:=(0,0)) v.cells.toList 0 c'.toArray w D (by simpa using aC) (by simp) R;have G:(execOp a.eval o).run P w=.ok .skip w':=by simp only[execOp,B,aF,p.bO E,nX,fT C,mB,va]
      refine Ks G ?_;refine hn _ _ _ (vh L s (ia c' off v.cells.toList)) _ _ j (dQ.put ?_ rfl) (.inr ⟨s,_,c',c',hc,zl,rfl,rfl⟩);refine p.bZP zl (λe' ay=>?_) J k4 k5;rw[D]at ay;cases ay;simpa using I
     exact j.elim
    exact j.elim
   .rename_i y hq;obtain⟨w',h',C,I,J⟩:=(show GG h y v.cells.toList _ from j).run (P:=P) U R;exact aw (by simp only[execOp,B,p.bO hq,p.bO E,nX,fT C,mB,va]) I J
   exact j.elim
  exact j.elim
 case h_3 e B=>-- alloc
  split at j
  .exact j.elim
  rename_i X;obtain⟨z,hz,HM⟩:=(ir K (il X)).pN w;refine val ?_ (j w.heap.size _ (U.oa (kB _)) rfl) (bT.new U _);simp only[execOp,B,Instr.alloc,nX,hz,mB,newVar,newRow,run_newObj,va];rw[<-HM]
 case h_4 e x B=>-- box
  split at j
  .rename_i v E;refine val ?_ (j w.heap.size _ (U.oa (kB _)) rfl) (bT.new U _);simp only[execOp,B,Instr.box,nX,mB,newVar,newRow,run_newObj,va,p.bO E]
  exact j.elim
 case h_5 t len parts B=>-- buildSlice
  split at j
  .rename_i e D;have nF:=ir K (ic D);obtain⟨d,hd,QM,X,-⟩:=nF.cR w;obtain rfl:=pT (X ▸ D);split at j
   .exact j.elim
   rename_i Y;have M:=ir K (il Y);split at j
   .rename_i ps XZ;split at j
    .rename_i ax LG;have ax:len*(T.ty e).size<=2^24:=lA ax;have Oo:(T.ty e).zero.length=(T.ty e).size:=by simpa using LG
     split at j
     .rename_i cs ar;refine val ?_ (j w.heap.size _ (U.oa (kB _)) rfl) (bT.new U _);obtain⟨zz,al,HM⟩:=M.pN w;have ao:zz.cells.size=(T.ty e).size:=by rw[<-Oo,<-HM];simp
      have aq:=range_zero zz.cells len;rw[ao,HM]at aq;have zd:(parts.map λ(i,x)=>(i,a.eval x))=ps.toArray:=by rw[<-vP p XZ];apply Array.ext';simp
      have V:=fill_eq (λi=>some (i*(T.ty e).size,(T.ty e).size)) ps (iJ len (T.ty e).zero).toArray cs (by simpa using ar);have aD:¬(2^24<len*(T.ty e).size):=by omega
      by_cases mh:len*(T.ty e).size=0
      .have bS:iJ len (T.ty e).zero=[]:=RU (by rw[Oo,mh]);rw[bS]at V;have xS:(Array.map (λ(_:Nat)=>(default:Value)) (Array.range 0))= #[]:=by simp
       simp only[List.toArray]at V;simp[execOp,B,Instr.buildSlice,hd,M.gO,mh,zd,V,newRow,xS]
      have aA:¬(16777216<len*(T.ty e).size):=aD;simp[execOp,B,Instr.buildSlice,hd,M.gO,aA,mh,zd,V,newRow,al,ao,aq]
     exact j.elim
    exact j.elim
   exact j.elim
  exact j.elim
 case h_6 t l c B=>-- makeSlice
  split at j
  .rename_i e D;have nF:=ir K (ic D);obtain⟨d,hd,QM,X,-⟩:=nF.cR w;obtain rfl:=pT (X ▸ D);split at j
   .exact j.elim
   rename_i Y;have M:=ir K (il Y);split at j
   .rename_i kl l' hl;split at j
    .rename_i kc c' hc;split at j
     .rename_i LG;obtain⟨v,w',h',C,I,J⟩:=qf.run (P:=P) (kl:=kl) (kc:=kc) U j QM M rfl rfl (by simpa using LG);exact val (by simp only[execOp,B,p.bO hl,p.bO hc,nX,C,mB,va]) I J
     exact j.elim
    exact j.elim
   exact j.elim
  exact j.elim
 case h_7 t r B=>-- makeMap
  split at j
  .exact val (by simp[execOp,B,Instr.makeMap]) (j w.heap.size _ (U.oa (kB _)) rfl) (bT.new U _)
  exact j.elim
 case h_8 f args argTypes B=>-- call
  split at j
  .rename_i g first cap hf
   split at j
   .rename_i O has;split at j
    .rename_i hg;have G:(execOp a.eval o).run P w=.ok (.enter g (first++O.toArray++cap)) w:=by simp only[execOp,B,resolve,p.bO hf,jY p has,Deferred.ofValue,nX,va,mB,invoke,ue K hg]
     refine sg (Av G (λ_ e=>by cases e)) G ?_;refine⟨λhd=>by simp[FW,Fence.wide]at hd,?_⟩;have D:(first.toList++O++cap.toList).toArray=first++O.toArray++cap:=by apply Array.ext';simp
     split at j
     .have:=callsIn_wide (n:=n-1).2 ((show UG _ _ _ _ _ _ from j).out w U);rw[D]at this;refine CallsIn.mono (F:=FW ro) (show CallsIn (FW ro) (n-1) P g _ w _ from this) λe w' hq=>?_;rcases hq with⟨v,h',R,h2,h3⟩|⟨c,h',R,h2,h3⟩
      .subst R;exact hn _ _ _ _ _ _ h2 ((p.step h3).put rfl) (.inl ⟨rfl,rfl⟩)
      subst R;exact iO c _ _ _ _ _ _ h2 (p.step h3)
     have:=callsIn_wide (n:=n-1).2 ((show Gt _ _ _ _ _ from j).out w U);rw[D]at this;refine CallsIn.mono (F:=FW ro) (show CallsIn (FW ro) (n-1) P g _ w _ from this) λe w' ⟨v,h',R,h2,h3⟩=>?_;subst R;exact hn _ _ _ _ _ _ h2 ((p.step h3).put rfl) (.inl ⟨rfl,rfl⟩)
    obtain⟨v,w',h',C,I,J⟩:=(show fw _ _ _ _ from j).out w U;refine val ?_ I J;have D:(first.toList++O++cap.toList).toArray=first++O.toArray++cap:=by apply Array.ext';simp
    simp only[Cs]at C;rw[D,nX]at C;simp only[execOp,B,resolve,p.bO hf,jY p has,Deferred.ofValue,nX,va,mB,invoke];cases G:(callFunc g (first++O.toArray++cap)).run P w with
    |ok n w1=>
     rw[G]at C;simp only[mB]at C;cases n with
     |value z=>simp only[va]at C;cases C;rfl
     |_=>simp at C
    |halt=>rw[G]at C;cases C
   exact j.elim
  .rename_i l first cap hf
   split at j
   .rename_i O has;obtain⟨fn,ag,CY,ab,g1,N⟩:=(show aKD _ _ _ _ _ from j).out w U;have D:(first.toList++O).toArray=first++O.toArray:=by apply Array.ext';simp
    have G:(execOp a.eval o).run P w=.ok (.round l fn ag CY ab) w:=by rw[D]at g1;simp only[execOp,B,resolve,p.bO hf,jY p has,Deferred.ofValue,nX,va,mB,invoke,g1]
    refine sg (Av G (λ_ e=>by cases e)) G ?_;refine⟨λhd=>by simp[FW,Fence.wide]at hd,?_⟩;refine RoundIn.mono (F:=FW ro) (show RoundIn (FW ro) (n-1) P l fn ag CY ab w _ from N (n-1)) λe w' ⟨v,h',R,h2,h3⟩=>?_;subst R;exact hn _ _ _ _ _ _ h2 ((p.step h3).put rfl) (.inl ⟨rfl,rfl⟩)
   exact j.elim
  exact j.elim
 case h_9 b args argTypes B=>-- Zy
  have uH:∀(vs:List Value),pK (args.toList.map (Sx.qi env))=some vs->
   (execOp a.eval o)=builtin b argTypes o.type (args.map λ| .const _=>true|_=>false) vs.toArray:=λvs E=>by
   simp only[execOp,B,resolve];rw[jY p E];rfl
  split at j
  .split at j -- append
   .rename_i t u W H;split at j
    .rename_i e D;have nF:=ir K (ic D);obtain⟨d,hd,QM,X,-⟩:=nF.cR w;obtain rfl:=pT (X ▸ D);split at j
     .exact j.elim
     rename_i Y;have M:=ir K (il Y);split at j
     .exact j.elim
     rename_i LG;have Oo:(T.ty e).zero.length=(T.ty e).size:=by simpa using LG
     split at j
     .rename_i b' len cap x n q E;split at j
      .rename_i e2 S;obtain⟨d2,-,YD,Yx,-⟩:=(ir K (ic S)).cR w;obtain rfl:=pT (Yx ▸ S);obtain⟨new,g1,N⟩:=(show iq _ _ _ _ _ _ _ _ _ _ from j).out;obtain⟨v,w',h',C,I,J⟩:=N.run (P:=P) U W H QM YD M rfl rfl Oo (.inl ⟨x,q,rfl,λ_=>by simp,g1⟩) o.type;exact val (by rw[uH _ E];simp only[builtin,nX,C,mB,va]) I J
      exact j.elim
     .rename_i b' len cap s E;split at j
      .rename_i S;obtain⟨d2,-,YD,Yx,-⟩:=(ir K (show(T.ty u).kd≠.none by rw[S];simp)).cR w;obtain rfl:d2=.string:=by rw[Yx]at S;cases d2<;>simp[pU]at S;rfl
       obtain⟨v,w',h',C,I,J⟩:=uv.run (P:=P) U j W H QM YD M rfl rfl Oo (x:=.string s) (.inr (.inr ⟨s,rfl,rfl,rfl,rfl⟩)) o.type;exact val (by rw[uH _ E];simp only[builtin,nX,C,mB,va]) I J
      exact j.elim
     .rename_i b' len cap kk n E;split at j
      .rename_i S;obtain⟨d2,-,YD,Yx,-⟩:=(ir K (show(T.ty u).kd≠.none by rw[S];simp)).cR w;obtain⟨k',rfl⟩:∃k',d2=.int k':=by rw[Yx]at S;cases d2<;>simp[pU]at S;exact⟨_,rfl⟩
       obtain⟨⟨c1,c2,c3⟩,N⟩:=(show uW _ _ from j);have N:=N.out;rw[show A.nt n 0=n.toNat by rw[A.Cv];simp]at N;obtain⟨v,w',h',C,I,J⟩:=uv.run (P:=P) U N W H QM YD M rfl rfl Oo (x:=.int kk n) (.inr (.inl ⟨kk,k',n,rfl,rfl,rfl,c1,c2,c3,rfl⟩)) o.type;exact val (by rw[uH _ E];simp only[builtin,nX,C,mB,va]) I J
      exact j.elim
     exact j.elim
    exact j.elim
   exact j.elim
  .split at j -- copy
   .rename_i t W;split at j
    .rename_i e D;have nF:=ir K (ic D);obtain⟨d,hd,QM,X,-⟩:=nF.cR w;obtain rfl:=pT (X ▸ D);split at j
     .exact j.elim
     rename_i Y;have M:=ir K (il Y);split at j
     .rename_i b' len q x n q' E;obtain⟨cs,g1,N,g3⟩:=(show yK _ _ _ _ _ _ _ from j).out;obtain⟨w',h',C,I,J⟩:=g3.run (P:=P) U N;refine val ?_ I J;rw[uH _ E];have hf:=xd (P:=P) U g1 n q';have GR:Nat.min n len=min n len:=rfl;simp[builtin,Builtin.copy_,W,hd,Builtin.lenOf,M.gO,GR,hf,goInt];cases b' with
      |none=>simp at C;simp[C]
      |some y=>simp at C;simp[C]
     exact j.elim
    exact j.elim
   exact j.elim
  .split at j -- clear
   .rename_i t W;split at j
    .rename_i e D;have nF:=ir K (ic D);obtain⟨d,hd,QM,X,-⟩:=nF.cR w;obtain rfl:=pT (X ▸ D);split at j
     .exact j.elim
     rename_i Y;have M:=ir K (il Y);split at j
     .exact j.elim
     rename_i LG;have Oo:(T.ty e).zero.length=(T.ty e).size:=by simpa using LG
     split at j
     .rename_i b' len q E;obtain⟨N,g3⟩:=(show zH _ _ _ _ _ from j);obtain⟨w',h',C,I,J⟩:=g3.run (P:=P) U (yV N len);refine val ?_ I J;rw[uH _ E];obtain⟨zz,al,HM⟩:=M.pN w;have aE:Builtin.zeroCells zz.cells len=(iJ len (T.ty e).zero).toArray:=by unfold Builtin.zeroCells;rw[range_zero,HM]
      cases b' with
      |none=>simp at C;subst C;simp[builtin,Builtin.clear_,W,hd]
      |some y=>
       simp at C;cases len with
       |zero=>have:iJ 0 (T.ty e).zero=[]:=rfl;rw[this]at C;simp[storeCells]at C;subst C;simp[builtin,Builtin.clear_,W,hd]
       |succ m=>simp[builtin,Builtin.clear_,W,hd,al,aE,C]
     exact j.elim
    exact j.elim
   exact j.elim
  .split at j -- delete
   .rename_i O has;exact Z j (by rw[uH _ has];rfl)
   exact j.elim
  exact j.elim
 case h_10 src dst x B=>-- convert
  split at j
  .rename_i u H;exact Z j (by simp only[execOp,B,p.bO H])
  exact j.elim
 case h_11 t x i b B=>-- lookup
  split at j
  .rename_i u H;split at j
   .rename_i v E;exact Z j (by simp only[execOp,B,p.bO H,p.bO E])
   exact j.elim
  exact j.elim
 case h_12 t m i x B=>-- mapUpdate
  split at j
  .rename_i u H;split at j
   .rename_i v E;split at j
    .rename_i z hz;exact an j (by simp only[execOp,B,p.bO H,p.bO E,p.bO hz])
    exact j.elim
   exact j.elim
  exact j.elim
 case h_13 t m i B=>-- mapEntry
  split at j
  .rename_i u H;split at j
   .rename_i v E;exact Z j (by simp only[execOp,B,p.bO H,p.bO E])
   exact j.elim
  exact j.elim
 case h_14 t m i x B=>-- entryStore
  split at j
  .rename_i u H;split at j
   .rename_i v E;split at j
    .rename_i z hz;exact an j (by simp only[execOp,B,p.bO H,p.bO E,p.bO hz])
    exact j.elim
   exact j.elim
  exact j.elim
 case h_15 t x B=>-- range
  split at j
  .rename_i u H;exact Z j (by simp only[execOp,B,p.bO H])
  exact j.elim
 case h_16 it str B=>-- next
  split at j
  .rename_i u H;exact Z j (by simp only[execOp,B,p.bO H])
  exact j.elim
 case h_17 it B=>-- entry
  split at j
  .rename_i u H;exact Z j (by simp only[execOp,B,p.bO H])
  exact j.elim
 case h_18 t m i x B=>-- insert
  split at j
  .rename_i u H;split at j
   .rename_i v E;split at j
    .rename_i z hz;exact an j (by simp only[execOp,B,p.bO H,p.bO E,p.bO hz])
    exact j.elim
   exact j.elim
  exact j.elim
 case h_19 x B=>-- panic
  split at j
  .rename_i t v E;have G:(execOp a.eval o).run P w=.halt (.panic (.iface t v)) w:=by simp only[execOp,B,p.bO E,nX,show(Instr.panic (.iface t v)).run P w=.halt (.panic (.iface t v)) w from rfl];rfl
   refine sg (λc hc=>by rw[hc]at B;cases B) G ?_;rw[Oper.uponIn_panic];exact iO _ _ _ _ _ _ _ j p
  exact j.elim
 case h_20=>exact j.elim
end Go.Sx
