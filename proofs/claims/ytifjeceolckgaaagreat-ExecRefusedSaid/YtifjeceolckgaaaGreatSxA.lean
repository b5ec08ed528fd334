import Derived.OrdersIn
import Derived.RangeFuncRecord
import Derived.Sort.LoopGhostIn
import Derived.Laws.Cells
import Derived.Laws.StructEq
import Derived.IntWalk
set_option linter.all false
namespace Go
def mQD:= @Nat.le_refl
def mXT:= @Nat.le_trans
def nXc:= @Array.getElem?_eq_none
def mQY:= @Sem.run_bind
def mQB:= @List.getElem?_eq_some_iff
def mJr:= @Nat.add_zero
def nXa:= @List.getElem?_cons_zero
def nXo:= @Bool.and_eq_false_iff
def mQM:= @List.length_cons
def mJO:= @Array.getElem?_modify
def mKK:= @Array.toList_setIfInBounds
def mJp:= @Nat.add_assoc
def mXE:= @List.getD_eq_getElem?_getD
def mXD:= @Array.getElem?_eq_some_iff
def mXR:= @List.getElem?_set
def mXx:= @Array.getD_eq_getD_getElem?
def mKA:= @Array.getElem?_setIfInBounds_self_of_lt
def mKy:= @Array.getElem?_setIfInBounds_ne
def mZG:= @List.map_cons
def nQs:= @List.zipIdx_cons
def mKn:= @List.foldl_cons
def nQr:= @Array.foldl_toList
def nQq:= @List.mapM_cons
def mQU:= @Result.andThen_ok
def mXf:= @Sem.run_pure
def mJU:= @Array.mapM_eq_mapM_toList
def mJT:= @Sem.run_map
def nXb:= @List.getElem?_toArray
def mXl:= @List.getElem?_take
def mXr:= @List.getElem?_drop
def mQL:= @of_decide_eq_true
def mXY:= @List.all_cons
def mQQ:= @Bool.and_eq_true
def mQR:= @decide_eq_true_eq
def mZB:= @List.drop_drop
def nQp:= @Nat.add_comm
def mZx:= @Bool.not_eq_true'
def mXe:= @List.getElem?_map
def mZA:= @Option.isSome_iff_exists
def mZk:= @Array.getElem?_eq_getElem
def nQo:= @Array.toList_extract
def mZj:= @Array.getElem?_toList
def nQn:= @List.foldlM_cons
def nQm:= @List.foldlM_nil
def mJS:= @List.replicate_succ
def nQl:= @List.flatten_cons
def mZw:= @List.getElem?_append_left
def mXJ:= @List.getElem?_append_right
def mXG:= @Nat.succ_mul
def mXM:= @List.ext_getElem?
def mXI:= @Nat.eq_zero_or_pos
def mZV:= @Nat.mod_lt
def mXX:= @List.getElem?_eq_none
def mXd:= @List.eq_nil_of_length_eq_zero
def mXu:= @Nat.mul_le_mul_right
def mXk:= @List.append_assoc
def mJo:= @List.cons_append
def mQW:= @List.mem_map
def mZv:= @List.map_congr_left
def mJR:= @Array.toList_append
def mQE:= @List.mem_append
def mXq:= @List.all_eq_true
def nQk:= @Bool.not_true
def mZU:= @Bool.false_or
def mZz:= @List.contains_eq_mem
def mJn:= @Bool.or_eq_true
def nQZ:= @Array.getElem?_setIfInBounds
def mZT:= @List.mem_append_right
def mZf:= @List.mem_append_left
def mJm:= @List.getElem?_set_ne
def mZi:= @List.getElem?_set_self
def mQI:= @List.mem_cons
def mXn:= @List.mem_cons_self
def mXm:= @List.mem_cons_of_mem
def mJH:= @Nat.le_of_not_lt
def mZe:= @Bool.false_eq_true
def mXQ:= @List.mem_filter
def mZS:= @Bool.true_or
def nQj:= @Bool.not_false
def mZR:= @Bool.true_and
def nQY:= @List.eq_nil_iff_forall_not_mem
def mJl:= @List.mem_range
def mJQ:= @List.all_eq_false
def nQX:= @List.countP_le_length
def mJP:= @Array.getElem?_replicate
def mZh:= @List.getElem?_append
def mXP:= @List.getElem?_eq_getElem
def nQi:= @Array.getElem?_append_left
def nQh:= @List.getElem?_replicate
def nQg:= @Array.getElem?_append_right
def mXW:= @Option.getD_some
def mXH:= @Int.toNat_natCast
def nQf:= @Nat.mul_le_mul_left
def mQy:= @List.length_append
def mXO:= @Nat.add_mul
def mQV:= @Int.ofNat_eq_natCast
def nQe:= @Int.ofNat_le
def mJN:= @Int.natCast_mul
def mXj:= @Nat.zero_add
def mZu:= @List.getElem?_singleton
def mXi:= @Nat.lt_or_ge
def nQS:= @Int.fdiv_eq_ediv_of_nonneg
def mQH:= @List.mem_singleton
def mQz:= @List.mem_of_getElem?
def mXh:= @List.getElem?_of_mem
def mZN:= @Nat.lt_trichotomy
def mQZ:= @List.pairwise_iff_getElem
def mQv:= @decide_eq_false
def mQO:= @of_decide_eq_false
def mQK:= @List.length_take
def mXg:= @List.length_drop
def mZs:= @Nat.min_eq_left
def mKJ:= @Nat.add_le_add_left
def mJi:= @Nat.mul_le_mul
def mXb:= @List.append_nil
def mXL:= @List.take_length
def mXB:= @List.drop_eq_nil_of_le
def mXa:= @List.take_of_length_le
def mXt:= @List.take_add_one
def mXo:= @List.take_append_drop
def mQC:= @Nat.zero_le
def nQR:= @List.set_eq_take_append_cons_drop
def mXS:= @List.map_map
def mQN:= @List.length_map
def mJG:= @Array.toList_filter
def mJh:= @List.filter_filter
def nQQ:= @Array.contains_eq_mem
def mKI:= @Bool.not_eq_eq_eq_not
def mZr:= @List.getElem_map
def mZd:= @List.length_filter_le
def mKH:= @List.length_filter_eq_length_iff
def mJF:= @List.drop_left
def mQS:= @List.length_nil
def mJE:= @List.take_append_of_le_length
def mJg:= @List.eraseIdx_eq_take_drop_succ
def mXv:= @List.length_set
def mZM:= @Nat.mul_one
def mQJ:= @List.drop_eq_getElem_cons
def mJf:= @List.any_eq_true
def nQP:= @List.find?_eq_some_iff_getElem
def nQO:= @List.mem_zipIdx_iff_getElem?
def mQu:= @decide_eq_true
def mZL:= @List.any_eq_false
def mJD:= @List.drop_length
def mKG:= @List.take_take
def mKF:= @Nat.min_self
def mKE:= @List.map_take
def mKD:= @List.map_drop
def mZq:= @List.filter_append
def mJC:= @Nat.sub_zero
def mXK:= @Nat.sub_self
def mJB:= @List.drop_succ_cons
def mXc:= @Decidable.not_not
def mZK:= @Bool.and_true
def nQN:= @List.getElem?_zipWith
def mZp:= @Nat.le_of_lt
def mKC:= @List.findIdx?_eq_none_iff
def mKB:= @List.findIdx?_eq_some_iff_getElem
def mQG:= @List.length_singleton
def mJA:= @Nat.lt_or_gt_of_ne
def mZc:= @List.map_set
def mJe:= @List.getElem_set
def mKz:= @List.map_append
def mZb:= @List.filter_cons_of_neg
def mZo:= @List.filter_cons_of_pos
def mZa:= @Int.le_refl
def mZJ:= @Array.length_toList
def mZg:= @UInt8.toNat_inj
def nQM:= @Int.ofNat_inj
def mZI:= @UInt8.lt_iff_toNat_lt
def mJz:= @List.takeWhile_cons_of_pos
def mZn:= @List.nil_append
def nQL:= @ByteArray.data_extract
def mZH:= @Nat.lt_succ_self
def mKx:= @Int.tdiv_eq_ediv_of_nonneg
def mJd:= @Bool.or_eq_false_iff
def mKw:= @Nat.le_succ
def mZm:= @ByteArray.size_append
def mKv:= @List.length_eraseIdx_of_lt
def mXz:= @List.mem_or_eq_of_mem_set
def mKu:= @List.drop_zero
def mKt:= @List.rel_of_pairwise_cons
def mZl:= @List.getElem_of_mem
def mKs:= @List.eraseIdx_sublist
def nQK:= @List.mem_eraseIdx_iff_getElem
def mJy:= @List.length_zip
def mJc:= @List.getElem?_zip_eq_some
def nQJ:= @List.getElem?_eq_none_iff
def mXF:= @List.mem_of_mem_take
def mXZ:= @List.mem_of_mem_drop
def mXw:= @List.pairwise_append
def nQI:= @List.filter_cons
def mQT:= @List.drop_of_length_le
def mKr:= @UInt8.lt_irrefl
def mKq:= @List.mem_map_of_mem
def mZF:= @List.mem_iff_getElem?
def mKp:= @List.mem_eraseIdx_iff_getElem?
def mKo:= @List.takeWhile_cons_of_neg
def nQH:= @List.takeWhile_sublist
def nQG:= @List.prefix_iff_eq_take
def nQF:= @List.takeWhile_prefix
def nQE:= @List.singleton_append
def mXA:= @List.pairwise_cons
def mJb:= @List.pairwise_singleton
def nQD:= @List.nil_perm
def nQC:= @List.getLast?_cons_cons
def mZE:= @List.mem_of_getLast?
def nQB:= @List.getLast?_eq_some_getLast
def mKm:= @List.mem_of_head?
def mJx:= @List.perm_append_comm
def mZD:= @Bool.true_eq_false
def mJa:= @Bool.not_eq_true
def nQA:= @Int.tmod_add_tdiv_mul
def mKl:= @Int.natAbs_tmod
def mJw:= @List.getLast?_eq_getElem?
def mXy:= @Nat.add_sub_cancel
def mKk:= @ByteArray.data_append
def mZC:= @UInt8.toNat_ofNat'
def mKj:= @List.contains_cons
def mKi:= @List.contains_nil
def mKh:= @Bool.or_false
def mJv:= @List.set_append_right
def mJu:= @List.mem_of_find?_eq_some
def nQz:= @Nat.lt_of_succ_lt_succ
def mXN:= @List.length_eq_zero_iff
def mKg:= @Nat.le_total
def mKf:= @Nat.min_eq_right
def mZZ:= @Nat.min_le_right
def nQy:= @List.length_replicate
def mZY:= @List.not_mem_nil
def mKe:= @Int.tmod_lt_of_pos
def mKd:= @Int.lt_tmod_of_pos
def mKc:= @Int.tmod_eq_emod
def mZX:= @Int.emod_nonneg
def mZW:= @Int.emod_lt_of_pos
def mKb:= @List.take_left
def nQx:= @Int.tmod_eq_emod_of_nonneg
def mKa:= @List.length_pos_iff
def mJt:= @List.perm_middle
def nQw:= @List.eq_nil_or_concat
def nQv:= @List.concat_eq_append
def mJZ:= @List.set_comm
def nQu:= @Nat.add_sub_cancel_left
def mJY:= @Nat.lt_irrefl
def mJX:= @Int.lt_trichotomy
def mJW:= @List.getLast?_concat
def nQt:= @List.dropLast_concat
def mJV:= @List.dropLast_sublist
def mJs:= @List.length_range
end Go
namespace Go.Sx
variable {op:BinOp}{g:Bool}{Q:Exit->Act->World->Prop}{f:FuncId}{args c cs z:List Value}{bytes cap e s:Nat}{fr:Nat×Nat}{o:Oper}{x y:Operand}{b:Option Addr}{l:Option Int}{d:TypeDesc}{p:Unit->Program}{r u:Value}{k:Value->Prop}{w':World}
abbrev ad:=Nat->Option Obj
def Fo(h:ad)(w:World):Prop:=∀b o,h b=some o->w.heap[b]? =some o
structure bW(h:ad)(w:World)(h':ad)(w':World):Prop where
 os:w'.os=w.os
 tape:w'.tape=w.tape
 output:w'.output=w.output
 size:w.heap.size<=w'.heap.size
 IV:Fo h' w'
 frame:∀b,b<w.heap.size->h b=none->w'.heap[b]? =w.heap[b]? /\h' b=none
def Fn(P:Program)(f:FuncId)(args:List Value)(h:ad)(R:Value->ad->Prop):Prop:=
 ∀w,Fo h w->Calls P f args.toArray w λe w'=>∃v h',e=.returned v/\R v h'/\bW h w h' w'
structure aQI(p:Unit->Program)(f:FuncId)(args:List Value)(h:ad)(R:Value->ad->Prop):Prop where
 out:Fn (p ()) f args h R
structure Rr(p:Unit->Program)(f:FuncId)(args:List Value)(h:ad)(R:Value->ad->Prop)(K:List PanicEntry->ad->Prop):Prop where
 out:∀w,Fo h w->Calls (p ()) f args.toArray w λe w'=>(∃v h',e=.returned v/\R v h'/\bW h w h' w')\/(∃c h',e=.panicked c/\K c h'/\bW h w h' w')
structure cZH(p:Unit->Program)(l:Nat)(args:List Value)(h:ad)(R:Value->ad->Prop):Prop where
 out:∀w,Fo h w->∃fn tmps Fk body,(Instr.yield l args.toArray).run (p ()) w=.ok (.round l fn tmps Fk body) w/\∀n,RoundIn Fence.wide n (p ()) l fn tmps Fk body w λe w'=>∃v h',e=.returned v/\R v h'/\bW h w h' w'
def bU(h:ad)(n:Nat)(o:Obj):ad:=λb=>if b=n then some o else h b
def mS(a:Option Addr)(i:Int)(size:Nat):Addr:=((a.getD ⟨0,0,none⟩).add (i.toNat*size))
def bB(op:BinOp)(k:IntKind)(a b:Int):Int:=
 match op with
 | .add=>k.wrap (a+b)
 | .sub=>k.wrap (a-b)
 | .mul=>k.wrap (a*b)
 | .quo=>k.wrap (a.tdiv b)
 | .rem=>a.tmod b
 | .and=>k.wrap ((BitVec.ofInt k.bits a&&& BitVec.ofInt k.bits b).toNat)
 | .or=>k.wrap ((BitVec.ofInt k.bits a|||BitVec.ofInt k.bits b).toNat)
 | .xor=>k.wrap ((BitVec.ofInt k.bits a^^^BitVec.ofInt k.bits b).toNat)
 | .andNot=>k.wrap ((BitVec.ofInt k.bits a&&& ~~~ BitVec.ofInt k.bits b).toNat)
 | .shl=>k.wrap (a*2^(min b.toNat k.bits))
 | .shr=>a.fdiv (2^(min b.toNat k.bits))
 |_=>0
def aI(op:BinOp)(a b:Int):Bool:=
 match op with
 | .eql=>a==b
 | .neq=>a !=b
 | .lss=>decide (a<b)
 | .leq=>decide (a<=b)
 | .gtr=>decide (a>b)
 | .geq=>decide (a>=b)
 |_=>false
def iQ(op:BinOp)(a b:ByteArray):Bool:=
 match op with
 | .eql=>a.toList==b.toList
 | .neq=> !(a.toList==b.toList)
 | .lss=>Op.bytesLess a.toList b.toList
 | .leq=>Op.bytesLess a.toList b.toList||a.toList==b.toList
 | .gtr=> !(Op.bytesLess a.toList b.toList||a.toList==b.toList)
 | .geq=> !(Op.bytesLess a.toList b.toList)
 |_=>false
def EE(op:BinOp)(a b:Bool):Bool:=
 match op with
 | .eql=>a==b
 | .neq=> !(a==b)
 |_=>false
inductive Tg where
 |mS|ix|off|bB|aI|iQ|EE|not|and|cat|byte|sub|conv|nat|HO|cut|su|pM|imax|jO
abbrev Tg.T:Tg->Type
 | .mS=>Option Addr->Int->Nat->Addr
 | .ix=>Nat->Int->Nat->Nat
 | .off=>Addr->Nat->Addr
 | .bB=>BinOp->IntKind->Int->Int->Int
 | .aI=>BinOp->Int->Int->Bool
 | .iQ=>BinOp->ByteArray->ByteArray->Bool
 | .EE=>BinOp->Bool->Bool->Bool
 | .not=>Bool->Bool
 | .and=>Bool->Bool->Bool
 | .cat=>ByteArray->ByteArray->ByteArray
 | .byte=>ByteArray->Int->Int
 | .sub=>ByteArray->Int->Int->ByteArray
 | .conv=>IntKind->Int->Int
 | .nat=>Nat->Int
 | .HO=>Option Addr->Bool
 | .cut=>Option Addr->Int->Int->Nat->Option Addr
 | .su=>Int->Int->Nat
 | .pM=>Int->Int->Int
 | .imax=>Int->Int->Int
 | .jO=>ByteArray->Int
abbrev Ar:=(t:Tg)->t.T
def Ar.mS(A:Ar):Option Addr->Int->Nat->Addr:=A .mS
def Ar.ix(A:Ar):Nat->Int->Nat->Nat:=A .ix
def Ar.off(A:Ar):Addr->Nat->Addr:=A .off
def Ar.bB(A:Ar):BinOp->IntKind->Int->Int->Int:=A .bB
def Ar.aI(A:Ar):BinOp->Int->Int->Bool:=A .aI
def Ar.iQ(A:Ar):BinOp->ByteArray->ByteArray->Bool:=A .iQ
def Ar.EE(A:Ar):BinOp->Bool->Bool->Bool:=A .EE
def Ar.not(A:Ar):Bool->Bool:=A .not
def Ar.and(A:Ar):Bool->Bool->Bool:=A .and
def Ar.cat(A:Ar):ByteArray->ByteArray->ByteArray:=A .cat
def Ar.byte(A:Ar):ByteArray->Int->Int:=A .byte
def Ar.sub(A:Ar):ByteArray->Int->Int->ByteArray:=A .sub
def Ar.conv(A:Ar):IntKind->Int->Int:=A .conv
def Ar.nat(A:Ar):Nat->Int:=A .nat
def Ar.HO(A:Ar):Option Addr->Bool:=A .HO
def Ar.cut(A:Ar):Option Addr->Int->Int->Nat->Option Addr:=A .cut
def Ar.su(A:Ar):Int->Int->Nat:=A .su
def Ar.pM(A:Ar):Int->Int->Int:=A .pM
def Ar.imax(A:Ar):Int->Int->Int:=A .imax
def Ar.jO(A:Ar):ByteArray->Int:=A .jO
class bM (A:Ar):Prop where
 mS:A .mS=Sx.mS
 ix:A .ix=λo i n=>o+i.toNat*n
 off:A .off=λa n=>a.add n
 bB:A .bB=Sx.bB
 aI:A .aI=Sx.aI
 iQ:A .iQ=Sx.iQ
 EE:A .EE=Sx.EE
 not:A .not=λb=> !b
 and:A .and=λa b=>a&&b
 cat:A .cat=λa b=>a++b
 byte:A .byte=λs i=>((s.data.getD i.toNat 0).toNat:Int)
 sub:A .sub=λs l h=>s.extract l.toNat h.toNat
 conv:A .conv=λk n=>k.wrap n
 nat:A .nat=Int.ofNat
 HO:A .HO=λa=>a.isNone
 cut:A .cut=λa l m size=>if m=l then a else a.map (·.add (l.toNat*size))
 su:A .su=λh l=>(h-l).toNat
 pM:A .pM=λa b=>min a b
 imax:A .imax=λa b=>max a b
 jO:A .jO=λs=>(s.size:Int)
theorem Ar.yq(A:Ar)[bM A]:A.mS=Sx.mS:=bM.mS
theorem Ar.fQG(A:Ar)[bM A]:A.ix=λo i n=>o+i.toNat*n:=bM.ix
theorem Ar.dZz(A:Ar)[bM A]:A.off=λa n=>a.add n:=bM.off
theorem Ar.Bm(A:Ar)[bM A]:A.bB=Sx.bB:=bM.bB
theorem Ar.aJW(A:Ar)[bM A]:A.aI=Sx.aI:=bM.aI
theorem Ar.aZe(A:Ar)[bM A]:A.iQ=Sx.iQ:=bM.iQ
theorem Ar.UB(A:Ar)[bM A]:A.EE=Sx.EE:=bM.EE
theorem Ar.not_eq(A:Ar)[bM A]:A.not=λb=> !b:=bM.not
theorem Ar.and_eq(A:Ar)[bM A]:A.and=λa b=>a&&b:=bM.and
theorem Ar.eXd(A:Ar)[bM A]:A.cat=λa b=>a++b:=bM.cat
theorem Ar.cZn(A:Ar)[bM A]:A.byte=λs i=>((s.data.getD i.toNat 0).toNat:Int):=bM.byte
theorem Ar.sub_eq(A:Ar)[bM A]:A.sub=λs l h=>s.extract l.toNat h.toNat:=bM.sub
theorem Ar.cXZ(A:Ar)[bM A]:A.conv=λk n=>k.wrap n:=bM.conv
theorem Ar.nat_eq(A:Ar)[bM A]:A.nat=Int.ofNat:=bM.nat
theorem Ar.aJH(A:Ar)[bM A]:A.HO=λa=>a.isNone:=bM.HO
theorem Ar.Iz(A:Ar)[bM A]:A.cut=λa l m size=>if m=l then a else a.map (·.add (l.toNat*size)):=bM.cut
theorem Ar.Ey(A:Ar)[bM A]:A.su=λh l=>(h-l).toNat:=bM.su
theorem Ar.cQm(A:Ar)[bM A]:A.pM=λa b=>min a b:=bM.pM
theorem Ar.cQn(A:Ar)[bM A]:A.imax=λa b=>max a b:=bM.imax
theorem Ar.aXQ(A:Ar)[bM A]:A.jO=λs=>(s.size:Int):=bM.jO
def Ar.gZP:Ar
 | .mS=>Sx.mS
 | .ix=>λo i n=>o+i.toNat*n
 | .off=>λa n=>a.add n
 | .bB=>Sx.bB
 | .aI=>Sx.aI
 | .iQ=>Sx.iQ
 | .EE=>Sx.EE
 | .not=>λb=> !b
 | .and=>λa b=>a&&b
 | .cat=>λa b=>a++b
 | .byte=>λs i=>((s.data.getD i.toNat 0).toNat:Int)
 | .sub=>λs l h=>s.extract l.toNat h.toNat
 | .conv=>λk n=>k.wrap n
 | .nat=>Int.ofNat
 | .HO=>λa=>a.isNone
 | .cut=>λa l m size=>if m=l then a else a.map (·.add (l.toNat*size))
 | .su=>λh l=>(h-l).toNat
 | .pM=>λa b=>min a b
 | .imax=>λa b=>max a b
 | .jO=>λs=>(s.size:Int)
theorem Ar.ex:∃A:Ar,bM A:=⟨Ar.gZP,⟨rfl,rfl,rfl,rfl,rfl,rfl,rfl,rfl,rfl,rfl,rfl,rfl,rfl,rfl,rfl,rfl,rfl,rfl,rfl,rfl⟩⟩
inductive Kd where
 |none
 |jQr
 |bool
 |int (k:IntKind)
 |str
 |fw (fs:List (Nat×Nat))
 |arr (n e:Nat)
 |uD (e:Nat)
 |mp (k e:Nat)
 |ptr (e:Nat)
 |fn
 |jXb
 deriving Inhabited
structure Ti where
 flat:Bool
 agg:Bool
 size:Nat
 bytes:Nat
 zero:List Value
 kd:Kd
def Ti.none:Ti:=⟨false,false,0,0,[],.none⟩
def sF:TypeDesc->Kd
 | .bool=>.bool
 | .int k=>.int k
 | .string=>.str
 | .struct fs=>.fw (fs.toList.map λf=>(f.type,f.offset))
 | .array n e=>.arr n e
 | .slice e=>.uD e
 | .map k e=>.mp k e
 | .pointer e=>.ptr e
 | .func .. =>.fn
 | .interface _=>.jXb
 |_=>.jQr
def Ul(P:Program)(t:TypeId):TypeDesc->Bool
 | .struct fs=> !P.eqGuardType P.depth t&& !P.stoodInHeld t&&(fs.toList.zipIdx.all λ(f,i)=>f.offset==i&&decide (f.name≠ "_")&&(match P.info? f.type,P.underlying f.type with
  |some i,some .bool|some i,some (.int _) |some i,some .string=>i.size==1
  |_,_=>false))
 |_=>false
def dZN(P:Program)(t:TypeId):Ti:=
 match P.info? t,P.underlying t with
 |some i,some d=>
  match i.zero with
  |some z=>⟨Ul P t d,match d with| .struct _| .array _ _=>true|_=>false,i.size,i.bytes,z.cells.toList,sF d⟩
  |none=>.none
 |_,_=>.none
inductive zX where
 |done
 |aa (i:Nat) (rest:zX)
 |av (i:Nat) (pins:List Nat) (rest:zX)
 |fork (l r:zX)
 deriving Inhabited
inductive SV where
 |v (x:Value)
 |loc (s off:Nat)
 |u
 deriving Inhabited
structure bu where
 ty:Nat->Ti
 fn:Nat->Bool
 aK:Nat->zX
 bF:Nat->Bool
 kZm:Nat->Bool:=λ_=>false
 rs:List Nat:=[]
 kp:List PanicEntry->List SV->ad->Prop:=λ_ _ _=>False
structure gE(P:Program)(T:bu):Prop where
 ty:∀t,T.ty t=dZN P t\/T.ty t=.none
 fn:∀f,T.fn f=true->∃fn,P.funcs[f]? =some fn/\fn.body.isSome=true/\fn.name≠ "runtime.NumGoroutine"
 mixed:P.follows .mixedOrders=true
abbrev Env:=List SV
abbrev Loc:=List (Nat×List Value)
def mM:Loc->Nat->Option (List Value)
 | [],_=>none
 | (s,c)::r,t=>if s=t then some c else mM r t
def Bz:Loc->Nat->List Value->Loc
 | [],_,_=>[]
 | (s,c)::r,t,d=>if s=t then(s,d)::r else(s,c)::Bz r t d
def rq(env:Env):Operand->SV
 | .tmp t=>env.getD t .u
 | .const v=>.v v
 | .global g=>.v (.pointer (some ⟨g,0,none⟩))
 | .func f=>.v (.func (.func f) #[] #[])
def bl:List SV->Option (List Value)
 | []=>some []
 | .v x::r=>match bl r with
  |some l=>some (x::l)
  |none=>none
 |_::_=>none
structure wI(p:Unit->Prop)(k:Unit->Prop):Prop where
 h:p ()
 out:k ()
def Sw(h:ad)(a:Addr)(n:Nat)(cs:List Value):Prop:=
 a.spot=none/\cs.length=n/\∃c e fr,h a.block=some (.cells c e fr)/\∀i,i<n->c[a.off+i]? =cs[i]?
structure Bn(h:ad)(a:Addr)(n:Nat)(k:List Value->Prop):Prop where
 out:∃cs,Sw h a n cs/\k cs
def ZR:Bool->(Unit->Prop)->(Unit->Prop)->Prop
 |true,a,_=>a ()
 |false,_,b=>b ()
def takeN(c:List Value)(off n:Nat):Option (List Value):=
 if off+n<=c.length then some ((c.drop off).take n)else none
def jS(c:List Value)(off:Nat):List Value->List Value
 | []=>c
 |x::r=>jS (c.set off x) (off+1) r
structure EG(p:Unit->Program)(s:Unit->Sem Value)(k:Value->Prop):Prop where
 out:∃v,(∀w,(s ()).run (p ()) w=.ok v w)/\k v
structure fW(p:Unit->Program)(s:Unit->Sem Value)(h:ad)(k:Value->ad->Prop):Prop where
 out:∀w,Fo h w->∃v w' h',(s ()).run (p ()) w=.ok v w'/\k v h'/\bW h w h' w'
def Iu(g:FuncId)(args:List Value):Sem Value:=do
 match <-callFunc g args.toArray with
 | .value v=>pure v
 |_=>stuck ""
def cZp(A:Ar)(op:BinOp):Value->Value->Option Value
 | .int k a,.int k' b=>
  match op with
  | .add| .sub| .mul| .and| .or| .xor| .andNot=>if k=k' then some (.int k (A.bB op k a b))else none
  | .eql| .neq| .lss| .leq| .gtr| .geq=>if k=k' then some (.bool (A.aI op a b))else none
  |_=>none
 | .string a,.string b=>
  match op with
  | .eql| .neq| .lss| .leq| .gtr| .geq=>some (.bool (A.iQ op a b))
  |_=>none
 |_,_=>none
def QZ(A:Ar)(op:BinOp)(a b:Value)(k:Value->Prop)(cXL:Unit->Prop):Prop:=
 match a with
 | .int ka x=>match b with
  | .int kb y=>match op with
   | .quo| .rem=>match decide (ka=kb)with
    |true=>wI (λ_=>y≠0) (λ_=>k (.int ka (A.bB op ka x y)))
    |false=>cXL ()
   | .shl| .shr=>wI (λ_=>0<=y) (λ_=>k (.int ka (A.bB op ka x y)))
   |_=>cXL ()
  |_=>cXL ()
 | .string x=>match b with
  | .string y=>match op with
   | .add=>wI (λ_=>((x.size+y.size:Nat):Int)<=2^62) (λ_=>k (.string (A.cat x y)))
   |_=>cXL ()
  |_=>cXL ()
 |_=>cXL ()
def one:Value->Bool
 | .agg _| .tuple _=>false
 |_=>true
def oS:List Value->Bool
 | []=>true
 |x::r=>match one x with
  |true=>oS r
  |false=>false
def Ir(place:Nat->Option (Nat×Nat))(cells:List Value):List (Nat×Value)->Option (List Value)
 | []=>some cells
 | (i,v)::rest=>
  match place i with
  |none=>none
  |some (off,size)=>
   if v.cells.toList.length≠size||off+v.cells.toList.length>cells.length then none
   else Ir place (jS cells off v.cells.toList) rest
def mi(A:Ar)(ty:Nat->Ti):List (Nat×Nat)->List Value->List Value->Option Bool
 | [],[],[]=>some true
 | (t,_)::fs,x::r,y::q=>match (ty t).kd with
  | .int _=>match x with
   | .int k a=>match y with
    | .int k' b=>match decide (k=k')with
     |true=>match mi A ty fs r q with
      |some t=>some (A.and (A.aI .eql a b) t)
      |none=>none
     |false=>none
    |_=>none
   |_=>none
  | .str=>match x with
   | .string a=>match y with
    | .string b=>match mi A ty fs r q with
     |some t=>some (A.and (A.iQ .eql a b) t)
     |none=>none
    |_=>none
   |_=>none
  | .bool=>match x with
   | .bool a=>match y with
    | .bool b=>match mi A ty fs r q with
     |some t=>some (A.and (A.EE .eql a b) t)
     |none=>none
    |_=>none
   |_=>none
  |_=>none
 |_,_,_=>none
def neg(A:Ar)(op:BinOp)(b:Bool):Option Value:=
 match op with
 | .eql=>some (.bool b)
 | .neq=>some (.bool (A.not b))
 |_=>none
def eQU(A:Ar)(ty:Nat->Ti)(i:Ti)(op:BinOp)(x y:Value):Option Value:=
 match i.kd with
 | .uD _=>match x with
  | .slice b _ _=>match y with
   | .slice none _ _=>neg A op (A.HO b)
   |_=>none
  |_=>none
 | .bool=>match x with
  | .bool a=>match y with
   | .bool b=>neg A op (A.EE .eql a b)
   |_=>none
  |_=>none
 | .fw fs=>match i.flat with
  |true=>match x with
   | .agg a=>match y with
    | .agg b=>match mi A ty fs a.toList b.toList with
     |some t=>neg A op t
     |none=>none
    |_=>none
   |_=>none
  |false=>none
 |_=>none
def pY(ρ:Operand->SV):List (Nat×Operand)->Option (List (Nat×Value))
 | []=>some []
 | (i,x)::r=>match ρ x,pY ρ r with
  | .v y,some l=>some ((i,y)::l)
  |_,_=>none
def Kd.isNone:Kd->Bool
 | .none=>true
 |_=>false
def placesOf(T:bu):List (Nat×Nat)->Option (List (Nat×Nat))
 | []=>some []
 | (t,off)::r=>match (T.ty t).kd.isNone,placesOf T r with
  |false,some l=>some ((off,(T.ty t).size)::l)
  |_,_=>none
def UA(T:bu)(zero:List Value)(ps:List (Nat×Value)):Kd->Option (List Value)
 | .fw fs=>match placesOf T fs with
  |some l=>Ir (λi=>l[i]?) zero ps
  |none=>none
 | .arr _ e=>match (T.ty e).kd.isNone with
  |false=>Ir (λi=>some (i*(T.ty e).size,(T.ty e).size)) zero ps
  |true=>none
 |_=>none
def bJV(ρ:Operand->SV):Option Operand->Option (Option Int)
 |none=>some none
 |some x=>match ρ x with
  | .v (.int _ n)=>some (some n)
  |_=>none
def GV(A:Ar)(b:Option Addr)(len cap size:Nat)(l hh m:Option Int)(k:Value->Prop):Prop:=
 match m with
 |none=>match hh with
  |none=>match l with
   |none=>k (.slice b len cap)
   |some l=>wI (λ_=>0<=l/\l<=(len:Int)) (λ_=>k (.slice (A.cut b l (A.nat cap) size) (A.su (A.nat len) l) (A.su (A.nat cap) l)))
  |some q=>match l with
   |none=>wI (λ_=>0<=q/\q<=(cap:Int)) (λ_=>k (.slice (A.cut b 0 (A.nat cap) size) (A.su q 0) cap))
   |some l=>wI (λ_=>0<=q/\q<=(cap:Int)/\0<=l/\l<=q) (λ_=>k (.slice (A.cut b l (A.nat cap) size) (A.su q l) (A.su (A.nat cap) l)))
 |some m=>match hh with
  |none=>False
  |some q=>match l with
   |none=>wI (λ_=>0<=m/\m<=(cap:Int)/\0<=q/\q<=m) (λ_=>k (.slice (A.cut b 0 m size) (A.su q 0) (A.su m 0)))
   |some l=>wI (λ_=>0<=m/\m<=(cap:Int)/\0<=q/\q<=m/\0<=l/\l<=q) (λ_=>k (.slice (A.cut b l m size) (A.su q l) (A.su m l)))
def GW(A:Ar)(s:ByteArray)(l hh:Option Int)(k:Value->Prop):Prop:=
 match hh with
 |none=>match l with
  |none=>k (.string s)
  |some l=>wI (λ_=>0<=l/\l<=(s.size:Int)) (λ_=>k (.string (A.sub s l (A.jO s))))
 |some q=>match l with
  |none=>wI (λ_=>0<=q/\q<=(s.size:Int)) (λ_=>k (.string (A.sub s 0 q)))
  |some l=>wI (λ_=>0<=q/\q<=(s.size:Int)/\0<=l/\l<=q) (λ_=>k (.string (A.sub s l q)))
def nN(T:bu)(o:Oper):Bool:=
 match o.op with
 | .convert s d _=>match (T.ty s).kd with
  | .uD _=>false
  | .ptr _=>false
  |_=>match (T.ty d).kd with
   | .uD _=>false
   |_=>true
 | .move _| .pick .. | .build .. | .load .. | .nilCheck _| .binOp .. | .unOp .. | .makeInterface .. | .makeFunc .. | .slice .. | .fieldAddr .. | .field .. | .indexAddr .. | .index .. | .extract .. | .typeAssert .. =>true
 | .alloc _| .box .. =>match o.dst with
  |some d=> !T.bF d
  |none=>false
 | .call { callee:=.builtin b, .. }=>match b with
  | .len| .cap| .min| .max=>true
  |_=>false
 |_=>false
def uF(agg:Bool)(cs:List Value)(k:Value->Prop):Prop:=
 match agg with
 |true=>k (.agg cs.toArray)
 |false=>match cs with
  |x::_=>k x
  | []=>False
def kG(A:Ar)(T:bu)(p:Unit->Program)(o:Oper)(ρ:Operand->SV)(L:Loc)(h:ad)(k:SV->Option (List Value)->Prop):Prop:=
 match o.op with
 | .move x=>k (ρ x) none
 | .pick c a b=>match ρ c with
  | .v (.bool true)=>k (ρ a) none
  | .v (.bool false)=>k (ρ b) none
  |_=>False
 | .alloc e=>match (T.ty e).kd.isNone with
  |true=>False
  |false=>match o.dst with
   |none=>False
   |some d=>match mM L d with
    |none=>k (.loc d 0) (some (T.ty e).zero)
    |some _=>False
 | .box _ x=>match o.dst with
  |none=>False
  |some d=>match ρ x with
   | .v v=>match mM L d with
    |none=>k (.loc d 0) (some v.cells.toList)
    |some _=>False
   |_=>False
 | .load t a=>match (T.ty t).kd.isNone with
  |true=>False
  |false=>match ρ a with
   | .loc s off=>match mM L s with
    |some c=>match takeN c off (T.ty t).size with
     |some cs=>uF (T.ty t).agg cs (λx=>k (.v x) none)
     |none=>False
    |none=>False
   | .v (.pointer (some x))=>Bn h x (T.ty t).size (λcs=>uF (T.ty t).agg cs (λx=>k (.v x) none))
   |_=>False
 | .nilCheck x=>match ρ x with
  | .loc s off=>k (.loc s off) none
  | .v (.pointer (some a))=>k (.v (.pointer (some a))) none
  |_=>False
 | .fieldAddr t x f=>match (T.ty t).kd with
  | .fw fs=>match fs[f]? with
   |some (ft,off)=>match (T.ty ft).kd.isNone with
    |true=>False
    |false=>match (T.ty ft).size with
     |0=>False
     |_+1=>match ρ x with
      | .loc s o=>k (.loc s (o+off)) none
      | .v (.pointer (some a))=>k (.v (.pointer (some (A.off a off)))) none
      |_=>False
   |none=>False
  |_=>False
 | .indexAddr t x i=>match ρ i with
  | .v (.int _ n)=>match (T.ty t).kd with
   | .uD e=>match (T.ty e).kd.isNone with
    |true=>False
    |false=>match ρ x with
     | .v (.slice b len _)=>wI (λ_=>b.isSome=true/\0<=n/\n<(len:Int)) (λ_=>k (.v (.pointer (some (A.mS b n (T.ty e).size)))) none)
     |_=>False
   | .arr m e=>match (T.ty e).kd.isNone with
    |true=>False
    |false=>match ρ x with
     | .loc s off=>wI (λ_=>0<=n/\n<(m:Int)) (λ_=>k (.loc s (A.ix off n (T.ty e).size)) none)
     | .v (.pointer (some a))=>wI (λ_=>0<=n/\n<(m:Int)) (λ_=>k (.v (.pointer (some (A.mS (some a) n (T.ty e).size)))) none)
     |_=>False
   |_=>False
  |_=>False
 | .index t x i=>match ρ i with
  | .v (.int _ n)=>match (T.ty t).kd with
   | .str=>match ρ x with
    | .v (.string s)=>wI (λ_=>0<=n/\n<(s.size:Int)) (λ_=>k (.v (.int .u8 (A.byte s n))) none)
    |_=>False
   |_=>False
  |_=>False
 | .field t x f=>match (T.ty t).kd with
  | .fw fs=>match fs[f]? with
   |some (ft,off)=>match (T.ty ft).kd.isNone with
    |true=>False
    |false=>match ρ x with
     | .v (.agg cs)=>match takeN cs.toList off (T.ty ft).size with
      |some ds=>uF (T.ty ft).agg ds (λx=>k (.v x) none)
      |none=>False
     |_=>False
   |none=>False
  |_=>False
 | .extract x i=>match ρ x with
  | .v (.tuple vs)=>match vs.toList[i]? with
   |some v=>k (.v v) none
   |none=>False
  |_=>False
 | .build t parts=>match (T.ty t).kd.isNone with
  |true=>False
  |false=>match pY ρ parts.toList with
   |some ps=>match UA T (T.ty t).zero ps (T.ty t).kd with
    |some cs=>k (.v (.agg cs.toArray)) none
    |none=>False
   |none=>False
 | .binOp op t x y _=>match ρ x with
  | .v a=>match ρ y with
   | .v b=>match cZp A op a b with
    |some r=>k (.v r) none
    |none=>match eQU A T.ty (T.ty t) op a b with
     |some r=>k (.v r) none
     |none=>QZ A op a b (λr=>k (.v r) none) (λ_=>EG p (λ_=>do eqGuard op t x y a b;binOp op t a b) (λr=>k (.v r) none))
   |_=>False
  |_=>False
 | .unOp op _ x=>match ρ x with
  | .v (.bool b)=>match op with
   | .not=>k (.v (.bool (A.not b))) none
   |_=>False
  | .v (.int kd n)=>match op with
   | .neg=>k (.v (.int kd (A.bB .sub kd 0 n))) none
   |_=>False
  |_=>False
 | .convert src dst x=>match ρ x with
  | .v (.int j n)=>match (T.ty dst).kd with
   | .int kd=>match (T.ty src).kd with
    | .int _=>k (.v (.int kd (A.conv kd n))) none
    |_=>False
   |_=>EG p (λ_=>Go.convert src dst (.int j n)) (λr=>k (.v r) none)
  | .v a=>EG p (λ_=>Go.convert src dst a) (λr=>k (.v r) none)
  |_=>False
 | .makeInterface t x=>match (T.ty t).kd with
  | .jXb=>False
  | .none=>False
  |_=>match ρ x with
   | .v v=>k (.v (.iface t v)) none
   |_=>False
 | .makeFunc fn f c=>match bl (f.toList.map ρ)with
  |some fs=>match bl (c.toList.map ρ)with
   |some cs=>k (.v (.func fn fs.toArray cs.toArray)) none
   |none=>False
  |none=>False
 | .slice t x lo hi mx=>match bJV ρ lo,bJV ρ hi,bJV ρ mx with
  |some l,some hh,some m=>match (T.ty t).kd with
   | .uD e=>match (T.ty e).kd.isNone with
    |true=>False
    |false=>match ρ x with
     | .v (.slice b len cap)=>GV A b len cap (T.ty e).size l hh m (λr=>k (.v r) none)
     |_=>False
   | .str=>match ρ x with
    | .v (.string s)=>match m with
     |none=>GW A s l hh (λr=>k (.v r) none)
     |some _=>False
    |_=>False
   |_=>False
  |_,_,_=>False
 | .call { callee:=.builtin b,args,argTypes }=>match b with
  | .len=>match argTypes[0]? with
   |some t=>match bl (args.toList.map ρ)with
    |some [.slice _ n _]=>match (T.ty t).kd with
     | .uD _=>k (.v (.int .i64 (A.nat n))) none
     |_=>False
    |some [.string s]=>match (T.ty t).kd with
     | .str=>k (.v (.int .i64 (A.jO s))) none
     |_=>False
    |_=>False
   |none=>False
  | .cap=>match argTypes[0]? with
   |some t=>match bl (args.toList.map ρ)with
    |some [.slice _ _ n]=>match (T.ty t).kd with
     | .uD _=>k (.v (.int .i64 (A.nat n))) none
     |_=>False
    |_=>False
   |none=>False
  | .min=>match bl (args.toList.map ρ)with
   |some [.int kd a,.int _ b]=>k (.v (.int kd (A.pM a b))) none
   |_=>False
  | .max=>match bl (args.toList.map ρ)with
   |some [.int kd a,.int _ b]=>k (.v (.int kd (A.imax a b))) none
   |_=>False
  |_=>False
 | .typeAssert x q as ok=>match ρ x with
  | .v a=>EG p (λ_=>Instr.typeAssert a q as ok) (λr=>k (.v r) none)
  |_=>False
 |_=>False
structure Rn(h:ad)(a:Addr)(cs:List Value)(k:ad->Prop):Prop where
 out:∃c e fr,a.spot=none/\h a.block=some (.cells c e fr)/\a.off+cs.length<=c.size/\(∀i,i<cs.length->¬(fr.1<=a.off+i/\a.off+i<fr.2))/\
  ∀h',h'=bU h a.block (.cells (jS c.toList a.off cs).toArray e fr)->k h'
def dXU(h:ad)(b:Option Addr)(n:Nat)(cs:List Value):Prop:=
 (n=0/\cs=[])\/∃a,b=some a/\Sw h a n cs
def dQA(h:ad)(b:Option Addr)(cs:List Value)(k:ad->Prop):Prop:=
 (cs=[]/\k h)\/∃a,b=some a/\Rn h a cs k
def kx(n:Nat)(z:List Value):List Value:=(List.replicate n z).flatten
structure Jc(h:ad)(b:Option Addr)(len cap n size bytes e:Nat)(new:List Value)(k:Value->ad->Prop):Prop where
 one:oS new=true
 fits:len+n<=cap->dQA h (b.map (·.add (len*size))) new (λh'=>k (.slice b (len+n) cap) h')
 cKO:cap<len+n->2*(len+n)*bytes<=2^48/\len+n<=2^48/\∃aZL,dXU h b (len*size) aZL/\
  ∀nb c h' rest,h nb=none->len+n<=c->rest.length=(c-(len+n))*size->h'=bU h nb (.cells (aZL++new++rest).toArray e (0,0))->k (.slice (some ⟨nb,0,none⟩) (len+n) c) h'
structure dQC(h:ad)(b:Option Addr)(len cap n size bytes e:Nat)(z:List Value)(k:Value->ad->Prop):Prop where
 out:Jc h b len cap n size bytes e (kx n z) k
structure iU(h:ad)(b:Option Addr)(len cap:Nat)(x:Option Addr)(n size bytes e:Nat)(k:Value->ad->Prop):Prop where
 out:∃new,dXU h x (n*size) new/\Jc h b len cap n size bytes e new k
structure Aw(h:ad)(e:Nat)(l c:Int)(bytes:Nat)(z:List Value)(k:Value->ad->Prop):Prop where
 len:0<=l/\l<=c
 room:c<=2^48/\(bytes:Int)*c<=2^48
 out:∀nb h',h nb=none->h'=bU h nb (.cells (kx c.toNat z).toArray e (0,0))->k (.slice (some ⟨nb,0,none⟩) l.toNat c.toNat) h'
structure Ja(h:ad)(b:Option Addr)(len:Nat)(x:Option Addr)(n size:Nat)(k:Value->ad->Prop):Prop where
 out:∃cs,dXU h x (min n len*size) cs/\oS cs=true/\dQA h b cs (λh'=>k (.int .i64 ((min n len:Nat):Int)) h')
structure Bo(h:ad)(b:Option Addr)(len:Nat)(z:List Value)(k:ad->Prop):Prop where
 one:oS z=true
 out:dQA h b (kx len z) k
def hx(A:Ar)(T:bu)(p:Unit->Program)(o:Oper)(ρ:Operand->SV)(L:Loc)(h:ad)(k:SV->Loc->ad->Prop):Prop:=
 match o.op with
 | .assign x=>k (ρ x) L h
 | .store t a x=>match (T.ty t).kd.isNone with
  |true=>False
  |false=>match ρ x with
   | .v v=>match v.cells.toList.length==(T.ty t).size with
    |false=>False
    |true=>match oS v.cells.toList with
     |false=>False
     |true=>match ρ a with
      | .loc s off=>match mM L s with
       |some c=>match decide (off+v.cells.toList.length<=c.length)with
        |true=>k (.v undef) (Bz L s (jS c off v.cells.toList)) h
        |false=>False
       |none=>False
      | .v (.pointer (some y))=>Rn h y v.cells.toList (λh'=>k (.v undef) L h')
      |_=>False
   |_=>False
 | .alloc e=>match (T.ty e).kd.isNone with
  |true=>False
  |false=>∀n h',h n=none->h'=bU h n (.cells (T.ty e).zero.toArray e (0,0))->k (.v (.pointer (some ⟨n,0,none⟩))) L h'
 | .box e x=>match ρ x with
  | .v v=>∀n h',h n=none->h'=bU h n (.cells v.cells e (0,0))->k (.v (.pointer (some ⟨n,0,none⟩))) L h'
  |_=>False
 | .buildSlice t len parts=>match (T.ty t).kd with
  | .uD e=>match (T.ty e).kd.isNone with
   |true=>False
   |false=>match pY ρ parts.toList with
    |some ps=>match decide (len*(T.ty e).size<=2^24),(T.ty e).zero.length==(T.ty e).size with
     |true,true=>match Ir (λi=>some (i*(T.ty e).size,(T.ty e).size)) (kx len (T.ty e).zero) ps with
      |some cs=>∀n h',h n=none->h'=bU h n (.cells cs.toArray e (0,0))->k (.v (.slice (some ⟨n,0,none⟩) len len)) L h'
      |none=>False
     |_,_=>False
    |none=>False
  |_=>False
 | .makeSlice t l c=>match (T.ty t).kd with
  | .uD e=>match (T.ty e).kd.isNone with
   |true=>False
   |false=>match ρ l with
    | .v (.int _ l)=>match ρ c with
     | .v (.int _ c)=>match (T.ty e).zero.length==(T.ty e).size with
      |true=>Aw h e l c (T.ty e).bytes (T.ty e).zero (λx h'=>k (.v x) L h')
      |false=>False
     |_=>False
    |_=>False
  |_=>False
 | .makeMap t r=>match r with
  |none=>∀n h',h n=none->h'=bU h n (.map #[] 0)->k (.v (.map (some n))) L h'
  |some _=>False
 | .call { callee:=.value f,args, .. }=>match ρ f with
  | .v (.func (.func g) first cap)=>match bl (args.toList.map ρ)with
   |some as=>match T.fn g with
    |true=>match T.kZm g with
     |true=>Rr p g (first.toList++as++cap.toList) h (λr h'=>k (.v r) L h') (λc h'=>T.kp c (T.rs.map λt=>ρ (.tmp t)) h')
     |false=>aQI p g (first.toList++as++cap.toList) h (λr h'=>k (.v r) L h')
    |false=>fW p (λ_=>Iu g (first.toList++as++cap.toList)) h (λr h'=>k (.v r) L h')
   |none=>False
  | .v (.func (.yield l) first _)=>match bl (args.toList.map ρ)with
   |some as=>cZH p l (first.toList++as) h (λr h'=>k (.v r) L h')
   |none=>False
  |_=>False
 | .call { callee:=.builtin b,args,argTypes }=>match b with
  | .append=>match argTypes[0]?,argTypes[1]? with
   |some t,some u=>match (T.ty t).kd with
    | .uD e=>match (T.ty e).kd.isNone with
     |true=>False
     |false=>match (T.ty e).zero.length==(T.ty e).size with
      |false=>False
      |true=>match bl (args.toList.map ρ)with
       |some [.slice b len cap,.slice x n _]=>match (T.ty u).kd with
        | .uD _=>iU h b len cap x n (T.ty e).size (T.ty e).bytes e (λv h'=>k (.v v) L h')
        |_=>False
       |some [.slice b len cap,.int _ n]=>match (T.ty u).kd with
        | .int _=>wI (λ_=>0<=n/\n<=2^48/\n*(T.ty e).bytes<=2^48) (λ_=>dQC h b len cap (A.su n 0) (T.ty e).size (T.ty e).bytes e (T.ty e).zero (λv h'=>k (.v v) L h'))
        |_=>False
       |_=>False
    |_=>False
   |_,_=>False
  | .copy=>match argTypes[0]? with
   |some t=>match (T.ty t).kd with
    | .uD e=>match (T.ty e).kd.isNone with
     |true=>False
     |false=>match bl (args.toList.map ρ)with
      |some [.slice b len _,.slice x n _]=>Ja h b len x n (T.ty e).size (λv h'=>k (.v v) L h')
      |_=>False
    |_=>False
   |none=>False
  | .clear=>match argTypes[0]? with
   |some t=>match (T.ty t).kd with
    | .uD e=>match (T.ty e).kd.isNone with
     |true=>False
     |false=>match (T.ty e).zero.length==(T.ty e).size with
      |false=>False
      |true=>match bl (args.toList.map ρ)with
       |some [.slice b len _]=>Bo h b len (T.ty e).zero (λh'=>k (.v (.tuple #[])) L h')
       |_=>False
    |_=>False
   |none=>False
  | .delete=>match bl (args.toList.map ρ)with
   |some as=>fW p (λ_=>Builtin.delete_ argTypes o.type as.toArray) h (λr h'=>k (.v r) L h')
   |none=>False
  |_=>False
 | .convert src dst x=>match ρ x with
  | .v a=>fW p (λ_=>Go.convert src dst a) h (λr h'=>k (.v r) L h')
  |_=>False
 | .lookup t x i ok=>match ρ x with
  | .v a=>match ρ i with
   | .v b=>fW p (λ_=>Instr.lookup t a b ok) h (λr h'=>k (.v r) L h')
   |_=>False
  |_=>False
 | .mapUpdate t m i x=>match ρ m with
  | .v a=>match ρ i with
   | .v b=>match ρ x with
    | .v c=>fW p (λ_=>do Instr.mapUpdate t a b c;pure undef) h (λ_ h'=>k (.v undef) L h')
    |_=>False
   |_=>False
  |_=>False
 | .mapEntry t m i=>match ρ m with
  | .v a=>match ρ i with
   | .v b=>fW p (λ_=>Instr.mapEntry t a b) h (λr h'=>k (.v r) L h')
   |_=>False
  |_=>False
 | .entryStore t m i x=>match ρ m with
  | .v a=>match ρ i with
   | .v b=>match ρ x with
    | .v c=>fW p (λ_=>do Instr.entryStore t a b c;pure undef) h (λ_ h'=>k (.v undef) L h')
    |_=>False
   |_=>False
  |_=>False
 | .range t x=>match ρ x with
  | .v a=>fW p (λ_=>Instr.range t a) h (λr h'=>k (.v r) L h')
  |_=>False
 | .next it str=>match ρ it with
  | .v a=>fW p (λ_=>Instr.next a str o.type) h (λr h'=>k (.v r) L h')
  |_=>False
 | .entry it=>match ρ it with
  | .v a=>fW p (λ_=>Instr.entry a) h (λr h'=>k (.v r) L h')
  |_=>False
 | .insert t m i x=>match ρ m with
  | .v a=>match ρ i with
   | .v b=>match ρ x with
    | .v c=>fW p (λ_=>do Instr.mapUpdate t a b c;pure undef) h (λ_ h'=>k (.v undef) L h')
    |_=>False
   |_=>False
  |_=>False
 | .panic x=>match ρ x with
  | .v (.iface t v)=>T.kp [{ v:=.iface t v,recovered:=false }] (T.rs.map λt=>ρ (.tmp t)) h
  |_=>False
 |_=>False
def put(env:Env)(d:Option Nat)(x:SV):Env:=
 match d with
 |some t=>env.set t x
 |none=>env
def vT(L:Loc)(d:Option Nat)(nb:Option (List Value)):Loc:=
 match d,nb with
 |some t,some c=>(t,c)::L
 |_,_=>L
def gd(ops:List Oper)(env:Env)(o:Oper)(yes no:Unit->Prop):Prop:=
 match o.guard with
 |none=>yes ()
 |some (j,want)=>match ops[j]? with
  |some oj=>match oj.dst with
   |some d=>match env.getD d .u with
    | .v (.bool b)=>match want with
     |true=>ZR b yes no
     |false=>ZR b no yes
    | .v (.tuple _)=>no ()
    |_=>False
   |none=>no ()
  |none=>no ()
def JW(A:Ar)(T:bu)(p:Unit->Program)(all:List Oper)(K:Env->Loc->ad->Prop):List Oper->Env->Loc->ad->Prop
 | [],env,L,h=>K env L h
 |o::rest,env,L,h=>
  gd all env o
   (λ_=>match nN T o with
    |true=>kG A T p o (rq env) L h (λx nb=>JW A T p all K rest (put env o.dst x) (vT L o.dst nb) h)
    |false=>hx A T p o (rq env) L h (λx L' h'=>JW A T p all K rest (put env o.dst x) L' h'))
   (λ_=>JW A T p all K rest (put env o.dst (.v undef)) L h)
def Kj(T:bu)(strict:Bool)(h:ad)(L:Loc)(env:Env)(o:Oper)(rest:Unit->Prop):Prop:=
 match o.op with
 | .load t a=>match rq env a with
  | .v (.pointer (some x))=>Bn h x (T.ty t).size (λcs=>uF (T.ty t).agg cs (λx=>wI (λ_=>∃d,o.dst=some d/\env[d]? =some (.v x)) rest))
  | .loc s off=>match strict with
   |false=>rest ()
   |true=>match mM L s with
    |some c=>match takeN c off (T.ty t).size with
     |some cs=>uF (T.ty t).agg cs (λx=>wI (λ_=>∃d,o.dst=some d/\env[d]? =some (.v x)) rest)
     |none=>False
    |none=>False
  |_=>False
 |_=>rest ()
def pins(T:bu)(strict:Bool)(all:List Oper)(h:ad)(L:Loc)(env:Env):List Nat->(Unit->Prop)->Prop
 | [],k=>k ()
 |i::r,k=>match all[i]? with
  |some o=>gd all env o (λ_=>Kj T strict h L env o (λ_=>pins T strict all h L env r k)) (λ_=>pins T strict all h L env r k)
  |none=>False
def iu(o:Oper):Bool:=match o.op with
 | .store .. =>true
 |_=>false
def lL(A:Ar)(T:bu)(p:Unit->Program)(all:List Oper)(K:Env->Loc->ad->Prop):zX->Env->Loc->ad->Prop
 | .done,env,L,h=>K env L h
 | .aa i rest,env,L,h=>match all[i]? with
  |some o=>gd all env o
   (λ_=>kG A T p o (rq env) L h (λx nb=>lL A T p all K rest (put env o.dst x) (vT L o.dst nb) h))
   (λ_=>lL A T p all K rest (put env o.dst (.v undef)) L h)
  |none=>False
 | .av i pn rest,env,L,h=>match all[i]? with
  |some o=>gd all env o
   (λ_=>hx A T p o (rq env) L h (λx L' h'=>pins T (iu o) all h' L' (put env o.dst x) pn (λ_=>lL A T p all K rest (put env o.dst x) L' h')))
   (λ_=>lL A T p all K rest (put env o.dst (.v undef)) L h)
  |none=>False
 | .fork l r,env,L,h=>lL A T p all K l env L h/\lL A T p all K r env L h
inductive Ex where
 |normal
 |exit (id:Nat)
 |ret
def wk:Env->Env->Prop
 | [],[]=>True
 |x::r,y::q=>match y with
  | .u=>wk r q
  | .v b=>x=.v b/\wk r q
  | .loc s o=>x=.loc s o/\wk r q
 |_,_=>False
def bKK(L:Loc):Loc->Prop
 | []=>True
 | (s,c)::r=>mM L s=some c/\bKK L r
def fQp(L:Loc):Env->Prop
 | []=>True
 |x::r=>match x with
  | .loc s _=>(mM L s).isSome=true/\fQp L r
  |_=>fQp L r
structure Wk(env:Env)(L:Loc)(kU:Env)(L1:Loc):Prop where
 env:wk env kU
 loc:bKK L L1
 ok:fQp L1 kU
def aQL:List Oper->List Nat
 | []=>[]
 |o::r=>match o.dst with
  |some d=>d::aQL r
  |none=>aQL r
def wr:Code->List Nat
 | .region _ ops _=>aQL ops.toList
 | .seq a b| .cond _ a b=>wr a++wr b
 | .block _ c| .loop c=>wr c
 |_=>[]
structure aX(ws:List Nat)(body:(Ex->Env->Loc->ad->Prop)->Env->Loc->ad->Prop)(K:Ex->Env->Loc->ad->Prop)(env:Env)(L:Loc)(h:ad):Prop where
 out:∃(I:Nat->Env->Loc->ad->Prop) (n:Nat),(∃kU L1,Wk env L kU L1/\I n kU L1 h)/\
  ∀n env L h,I n env L h->body (λe dh L' h'=>match e with
   | .normal=>∃m kU L1,m<n/\Wk dh L' kU L1/\I m kU L1 h'
   |e=>K e dh L' h') env L h
def sx(A:Ar)(T:bu)(p:Unit->Program):Code->(Ex->Env->Loc->ad->Prop)->Env->Loc->ad->Prop
 | .skip,K,env,L,h=>K .normal env L h
 | .region id ops draw,K,env,L,h=>match draw with
  |false=>JW A T p ops.toList (λenv L h=>K .normal env L h) ops.toList env L h
  |true=>lL A T p ops.toList (λenv L h=>K .normal env L h) (T.aK id) env L h
 | .seq a b,K,env,L,h=>sx A T p a (λe env L h=>match e with
  | .normal=>sx A T p b K env L h
  |e=>K e env L h) env L h
 | .cond c a b,K,env,L,h=>match rq env c with
  | .v (.bool t)=>ZR t (λ_=>sx A T p a K env L h) (λ_=>sx A T p b K env L h)
  |_=>False
 | .block id c,K,env,L,h=>sx A T p c (λe env L h=>match e with
  | .exit j=>if j=id then K .normal env L h else K (.exit j) env L h
  |e=>K e env L h) env L h
 | .loop c,K,env,L,h=>aX (wr c) (λK' env L h=>sx A T p c K' env L h) K env L h
 | .exit id,K,env,L,h=>K (.exit id) env L h
 | .ret,K,env,L,h=>K .ret env L h
 |_,_,_,_,_=>False
def bKm(T:bu)(env:Env)(L:Loc)(h:ad):ResultVar->(Value->Prop)->Prop
 | .tmp t,k=>match env.getD t .u with
  | .v x=>k x
  |_=>False
 | .cell a t,k=>match (T.ty t).kd,env.getD a .u with
  | .none,_=>False
  |_,.loc s off=>match mM L s with
   |some c=>match takeN c off (T.ty t).size with
    |some cs=>uF (T.ty t).agg cs k
    |none=>False
   |none=>False
  |_,.v (.pointer (some x))=>Bn h x (T.ty t).size (λcs=>uF (T.ty t).agg cs k)
  |_,_=>False
def uE(T:bu)(env:Env)(L:Loc)(h:ad):List ResultVar->(List Value->Prop)->Prop
 | [],k=>k []
 |r::rs,k=>bKm T env L h r (λx=>uE T env L h rs (λxs=>k (x::xs)))
def pJ(l:List Value)(k:Value->Prop):Prop:=match l with
 | [x]=>k x
 |l=>k (.tuple l.toArray)
def dXx(A:Ar)(T:bu)(p:Unit->Program)(c:Code)(ntmps:Nat)(rs:List ResultVar)(args:List Value)(h:ad)(R:Value->ad->Prop):Prop:=
 sx A T p c (λe env L h=>match e with
  | .exit _=>False
  |_=>uE T env L h rs (λl=>pJ l (λv=>R v h))) (args.map SV.v++List.replicate (ntmps-args.length) (.v undef)) [] h
variable {P:Program}{T:bu}{A:Ar}[bM A]
structure eXA(w w':World):Prop where
 os:w'.os=w.os
 tape:w'.tape=w.tape
 output:w'.output=w.output
theorem bW.refl{h:ad}{w:World}(a:Fo h w):bW h w h w:=
 ⟨rfl,rfl,rfl,mQD _,a,λ_ _ b=>⟨rfl,b⟩⟩
theorem bW.trans{h c d:ad}{w f g:World}(a:bW h w c f)(b:bW c f d g):bW h w d g:=
 ⟨b.os.trans a.os,b.tape.trans a.tape,b.output.trans a.output,mXT a.size b.size,b.IV,λk e n=>
  have x:=a.frame k e n;have y:=b.frame k (Nat.lt_of_lt_of_le e a.size) x.2
  ⟨y.1.trans x.1,y.2⟩⟩
theorem Fo.qQ{h:ad}{w:World}(a:Fo h w){b:Nat}(c:w.heap.size<=b):h b=none:=by
 cases d:h b with
 |none=>rfl
 |some o=>have:=a b o d;rw[nXc c]at this;cases this
theorem Fn.mono{h:ad}{R a:Value->ad->Prop}(x:Fn P f args h R)(r:∀v h',R v h'->a v h'):Fn P f args h a:=
 λw c=>(x w c).mono λe w' ⟨v,h',he,hR,b⟩=>⟨v,h',he,r _ _ hR,b⟩
theorem Rr.mono{h:ad}{R i:Value->ad->Prop}{K g:List PanicEntry->ad->Prop}(x:Rr p f args h R K)(r:∀v h',R v h'->i v h')(k:∀c h',K c h'->g c h'):Rr p f args h i g:=
 ⟨λw j=>(x.out w j).mono λe w' q=>by
  rcases q with⟨v,h',a,b,d⟩|⟨c,h',a,b,d⟩
  .exact .inl ⟨v,h',a,r _ _ b,d⟩
  exact .inr ⟨c,h',a,k _ _ b,d⟩⟩
theorem aQI.mono{h:ad}{R a:Value->ad->Prop}(x:aQI p f args h R)(r:∀v h',R v h'->a v h'):aQI p f args h a:=
 ⟨x.out.mono r⟩
structure Dt(P:Program)(t:TypeId)(i:Ti):Prop where
 ex:∃ti d z,P.info? t=some ti/\P.underlying t=some d/\ti.zero=some z/\
  i.agg=(match d with| .struct _| .array _ _=>true|_=>false)/\i.size=ti.size/\i.bytes=ti.bytes/\i.zero=z.cells.toList/\i.kd=sF d/\i.flat=Ul P t d
theorem jA(c:gE P T){t:TypeId}(h:(T.ty t).kd≠.none):Dt P t (T.ty t):=by
 rcases c.ty t with e|e
 .rw[e]at h |-;unfold dZN at h |-;cases i:P.info? t with
  |none=>simp[i,Ti.none]at h
  |some b=>
   cases hu:P.underlying t with
   |none=>simp[i,hu,Ti.none]at h
   |some d=>
    cases a:b.zero with
    |none=>simp[i,hu,a,Ti.none]at h
    |some z=>refine⟨b,d,z,?_⟩;simp only[a,i,hu,true_and];all_goals (cases d<;>simp)
 rw[e]at h;exact absurd rfl h
theorem Dt.OK{t:TypeId}{i:Ti}(h:Dt P t i)(w:World):∃a,(typeInfo t).run P w=.ok a w/\i.size=a.size/\i.bytes=a.bytes:=by obtain⟨a,d,z,b,-,-,-,c,e,-,-,-⟩:=h.ex;exact⟨a,by simp[typeInfo,b],c,e⟩
theorem Dt.iI{t:TypeId}{i:Ti}(h:Dt P t i)(w:World):(sizeOf t).run P w=.ok i.size w:=by obtain⟨c,a,b,-⟩:=h.OK w;simp[sizeOf,a,b]
theorem Dt.dq{t:TypeId}{i:Ti}(h:Dt P t i)(w:World):∃d,(underlying t).run P w=.ok d w/\P.underlying t=some d/\i.kd=sF d/\
 i.agg=(match d with| .struct _| .array _ _=>true|_=>false):=by
 obtain⟨e,d,z,-,a,-,b,-,-,-,c,-⟩:=h.ex;exact⟨d,by simp[underlying,a],a,c,b⟩
theorem Dt.Kh{t:TypeId}{i:Ti}(h:Dt P t i)(w:World):(isAgg t).run P w=.ok i.agg w:=by obtain⟨d,a,-,-,b⟩:=h.dq w;unfold isAgg;rw[mQY,a,b];cases d<;>rfl
theorem Dt.rG{t:TypeId}{i:Ti}(h:Dt P t i)(w:World):∃z,(zeroValue t).run P w=.ok z w/\z.cells.toList=i.zero:=by obtain⟨e,d,z,a,-,b,-,-,-,c,-,-⟩:=h.ex;exact⟨z,by simp[zeroValue,typeInfo,a,b],c.symm⟩
theorem dF(b o n:Nat):(⟨b,o,none⟩:Addr).add n=⟨b,o+n,none⟩:=by
 unfold Addr.add;split
 .rename_i h;simp[h]
 rfl
theorem WV{w:World}{b o:Nat}{c:Array Value}{e:TypeId}(h:w.heap[b]? =some (.cells c e fr)):w.cell? ⟨b,o,none⟩=c[o]? :=by simp[World.cell?,h]
theorem tq{t:TypeId}{i:Ti}(e:Dt P t i)(w:World)(b o:Nat)(cs:List Value)(l:cs.length=i.size)
 (d:∀j,j<cs.length->w.cell? ⟨b,o+j,none⟩=cs[j]?)  (h:uF i.agg cs k):
 ∃v,(loadVar t ⟨b,o,none⟩).run P w=.ok v w/\k v:=by
 unfold loadVar;rw[mQY,e.Kh];unfold uF at h;cases c:i.agg with
 |true=>
  simp only[c]at h;refine⟨_,?_,h⟩;have:=run_loadCells_list (P:=P) w ⟨b,o,none⟩ cs (λj v a=>by
   rw[dF,d j (by rw[mQB]at a;exact a.1),a])
  simp[e.iI,<-l,this]
 |false=>
  simp only[c]at h;cases cs with
  |nil=>exact h.elim
  |cons x r=>refine⟨x,?_,h⟩;have:=d 0 (by simp);simp only[mJr,nXa]at this;simp[this]
theorem Sw.cell{h:ad}{w:World}(i:Fo h w){a:Addr}{n:Nat}(r:Sw h a n cs):
 a.spot=none/\cs.length=n/\∀j,j<cs.length->w.cell? ⟨a.block,a.off+j,none⟩=cs[j]? :=by
 obtain⟨d,b,c,e,fr,f,g⟩:=r;refine⟨d,b,λj k=>?_⟩;rw[WV (i _ _ f)];exact g j (b ▸ k)
theorem dZx{v:Value}(h:one v=true)(a:Addr)(m:Mode)(w:World){c:Array Value}{e:TypeId}(s:a.spot=none)
 (b:w.heap[a.block]? =some (.cells c e fr)) (o:a.off<c.size) (f:¬(fr.1<=a.off/\a.off<fr.2)):
 (store a v m).run P w=.ok () (w.setCell a v):=by
 have d:w.cell? a=some c[a.off]:=by simp[World.cell?,b,s,o]
 have z:w.frozen? a=false:=by obtain⟨l,i⟩:=fr;simp only[World.frozen?,b];simp only[nXo,decide_eq_false_iff_not];simp only at f;omega
 cases v<;>first
  | (simp[one]at h;done)
  | (simp only[store,Sem.run,d,z];rfl)
theorem fD(c:List Value)(o:Nat)(s:List Value):(jS c o s).length=c.length:=by
 induction s generalizing c o with
 |nil=>rfl
 |cons v r i=>simp[jS,i]
theorem rH{b o:Nat}{e:TypeId}:∀(s:List Value) (i:Nat) (c:Array Value) (w:World),
 w.heap[b]? =some (.cells c e fr)->o+i+s.length<=c.size->(∀j,j<s.length->¬(fr.1<=o+i+j/\o+i+j<fr.2))->oS s=true->
 ∃w',(storeCells ⟨b,o,none⟩ s i).run P w=.ok () w'/\w'.heap[b]? =some (.cells (jS c.toList (o+i) s).toArray e fr)/\
  (∀a,a≠b->w'.heap[a]? =w.heap[a]?)/\w'.heap.size=w.heap.size/\eXA w w'
 | [],i,c,w,d,_,_,_=>⟨w,rfl,by simp[jS,d],λ_ _=>rfl,rfl,rfl,rfl,rfl⟩
 |v::r,i,c,w,d,q,g,h=>by
  simp only[mQM]at q g;have t:one v=true:=by
   unfold oS at h;split at h
   .assumption
   cases h
  have u:oS r=true:=by
   unfold oS at h;split at h
   .assumption
   cases h
  have x:=dZx (P:=P) t ⟨b,o+i,none⟩ .plain w rfl d (by show o+i<c.size;omega) (by simpa using g 0 (by omega));have z:(w.setCell ⟨b,o+i,none⟩ v).heap[b]? =some (.cells (c.setIfInBounds (o+i) v) e fr):=by simp[World.setCell,mJO,d]
  obtain⟨w',l,m,n,p,f⟩:=rH (o:=o) r (i+1) (c.setIfInBounds (o+i) v) _ z (by simp;omega)
   (λj y=>by have:=g (j+1) (by omega);rw[show o+(i+1)+j=o+i+(j+1)by omega];exact this) u
  refine⟨w',?_,?_,?_,?_,?_⟩
  .unfold storeCells;rw[mQY,dF,x];exact l
  .rw[m];simp[jS,mKK,mJp]
  .intro a k;rw[n a k];simp[World.setCell,mJO,Ne.symm k]
  .rw[p];simp[World.setCell]
  exact⟨f.os,f.tape,f.output⟩
def vw(β:Nat->Nat)(L:Loc):SV->Value->Prop
 | .v x,y=>y=x
 | .loc s off,y=>(∃c,mM L s=some c)/\y=.pointer (some ⟨β s,off,none⟩)
 | .u,_=>True
structure eO(ds:List Deferred)(h0:ad)(w0:World)(β:Nat->Nat)(env:Env)(L:Loc)(h:ad)(a:Act)(w:World):Prop where
 after:bW h0 w0 h w
 loc:∀s c,mM L s=some c->w0.heap.size<=β s/\h (β s)=none/\∃e,w.heap[β s]? =some (.cells c.toArray e (0,0))
 inj:∀s s' c c',mM L s=some c->mM L s'=some c'->β s=β s'->s=s'
 size:a.tmps.size=env.length
 slot:∀t x,env[t]? =some x->vw β L x (a.tmps.getD t undef)
 defers:a.defers=ds
variable {ds:List Deferred}{h0:ad}{w0:World}{β:Nat->Nat}{env:Env}{L:Loc}{h:ad}{a:Act}{w:World}
theorem getD_some{env:Env}{t:Nat}{x:SV}(h:env.getD t .u=x)(hx:x≠.u):env[t]? =some x:=by
 rw[mXE]at h;cases a:env[t]? with
 |none=>rw[a]at h;exact absurd h.symm hx
 |some y=>rw[a]at h;simp at h;rw[h]
theorem eO.rq(s:eO ds h0 w0 β env L h a w)(o:Operand):vw β L (rq env o) (a.eval o):=by
 cases o with
 |tmp t=>
  show vw β L (env.getD t .u) _;by_cases u:env.getD t .u=.u
  .rw[u];trivial
  exact s.slot t _ (getD_some rfl u)
 |const v=>rfl
 |global g=>rfl
 |func f=>rfl
theorem eO.bY(s:eO ds h0 w0 β env L h a w){o:Operand}{x:Value}(hx:Sx.rq env o=.v x):a.eval o=x:=by have:=s.rq o;rw[hx]at this;exact this
theorem eO.uV(b:eO ds h0 w0 β env L h a w){o:Operand}{off:Nat}(hx:Sx.rq env o=.loc s off):
 (∃c,mM L s=some c)/\a.eval o=.pointer (some ⟨β s,off,none⟩):=by
 have:=b.rq o;rw[hx]at this;exact this
theorem eO.lt(d:eO ds h0 w0 β env L h a w)(l:mM L s=some c):β s<w.heap.size:=by obtain⟨-,-,e,b⟩:=d.loc s c l;exact(mXD.1 b).1
theorem eO.put(s:eO ds h0 w0 β env L h a w){d:Option Nat}{x:SV}{v:Value}(f:vw β L x v):eO ds h0 w0 β (put env d x) L h (a.put d v) w:=by
 cases d with
 |none=>exact s
 |some t=>
  refine⟨s.after,s.loc,s.inj,by simp[Act.put,Sx.put,s.size],λu y b=>?_,s.defers⟩;simp only[Sx.put,Act.put]at b |-;rw[mXR]at b;split at b
  .rename_i e;subst e;split at b
   .rename_i P;cases b;have:t<a.tmps.size:=by rw[s.size];exact P
    simpa[mXx,mKA this]using f
   cases b
  rename_i c;have:=s.slot u y b;simpa[mXx,mKy c]using this
theorem Ci{L:Loc}{t:Nat}:mM ((s,c)::L) t=if s=t then some c else mM L t:=rfl
theorem uT{w:World}{o:Obj}{b:Nat}(h:b<w.heap.size):(w.heap.push o)[b]? =w.heap[b]? :=by rw[Array.getElem?_push,if_neg (by omega)]
theorem bW.push{h0:ad}{w0:World}{h:ad}{w:World}(x:bW h0 w0 h w)(o:Obj):bW h0 w0 h { w with heap:=w.heap.push o }:=by refine x.trans ⟨rfl,rfl,rfl,by simp,λb o' a=>?_,λb a n=>⟨uT a,n⟩⟩;have:=x.IV b o' a;rw[uT ((mXD.1 this).1)];exact this
theorem eO.box(b:eO ds h0 w0 β env L h a w){d:Nat}(hd:mM L d=none)(c:List Value)(e:TypeId):
 eO ds h0 w0 (λs=>if s=d then w.heap.size else β s) (Sx.put env (some d) (.loc d 0)) ((d,c)::L) h (a.put (some d) (.pointer (some ⟨w.heap.size,0,none⟩)))
  { w with heap:=w.heap.push (.cells c.toArray e) }:=by
 have base:eO ds h0 w0 (λs=>if s=d then w.heap.size else β s) env ((d,c)::L) h a { w with heap:=w.heap.push (.cells c.toArray e) }:=by
  refine⟨b.after.push _,λs c' l=>?_,λs n o p l T i=>?_,b.size,λt x hx=>?_,b.defers⟩
  .rw[Ci]at l;by_cases K:s=d
   .rw[if_pos K.symm]at l;cases l;simp only[K,if_true];exact⟨b.after.size,b.after.IV.qQ (mQD _),e,by simp⟩
   rw[if_neg (Ne.symm K)]at l;simp only[if_neg K];obtain⟨f,g,e',k⟩:=b.loc s c' l;exact⟨f,g,e',by rw[uT (b.lt l)];exact k⟩
  .rw[Ci]at l T;by_cases f:s=d<;>by_cases g:n=d
   .rw[f,g]
   .rw[if_neg (Ne.symm g)]at T;simp only[f,if_true,if_neg g]at i;have:=b.lt T;omega
   .rw[if_neg (Ne.symm f)]at l;simp only[g,if_true,if_neg f]at i;have:=b.lt l;omega
   rw[if_neg (Ne.symm f)]at l;rw[if_neg (Ne.symm g)]at T;simp only[if_neg f,if_neg g]at i;exact b.inj _ _ _ _ l T i
  have:=b.slot t x hx;cases x with
  |v y=>exact this
  |u=>trivial
  |loc s off=>
   obtain⟨⟨c',G⟩,m⟩:=this;have j:s≠d:=λe=>by rw[e,hd]at G;cases G
   refine⟨⟨c',by rw[Ci,if_neg (Ne.symm j)];exact G⟩,?_⟩;simp only[if_neg j];exact m
 refine base.put ?_;refine⟨⟨c,by rw[Ci,if_pos rfl]⟩,by simp⟩
theorem tz{L:Loc}{d:List Value}(l:mM L s=some c)(t:Nat):mM (Bz L s d) t=if s=t then some d else mM L t:=by
 induction L with
 |nil=>cases l
 |cons x r i=>
  obtain⟨k,y⟩:=x;by_cases h:k=s
  .subst h;simp only[Bz,if_true,mM];by_cases a:k=t<;>simp[a]
  simp only[mM,if_neg h]at l;simp only[Bz,if_neg h,mM,i l];by_cases a:k=t
  .subst a;simp[Ne.symm h]
  simp[a]
theorem eO.dXB(f:eO ds h0 w0 β env L h a w){c':List Value}(l:mM L s=some c)
 (B:∀e,w.heap[β s]? =some (.cells c.toArray e (0,0))->w'.heap[β s]? =some (.cells c'.toArray e (0,0))) (g:∀b,b≠β s->w'.heap[b]? =w.heap[b]?)
 (F:w'.heap.size=w.heap.size) (R:eXA w w'):eO ds h0 w0 β env (Bz L s c') h a w':=by
 obtain⟨n,m,e,p⟩:=f.loc s c l;refine⟨⟨R.os.trans f.after.os,R.tape.trans f.after.tape,R.output.trans f.after.output,by rw[F];exact f.after.size,λb o V=>?_,λb A D=>?_⟩,
  λt d hd=>?_,λt O M N r z C=>?_,f.size,λt x hx=>?_,f.defers⟩
 .rw[g b (λe=>by rw[e,m]at V;cases V)];exact f.after.IV b o V
 .have:=f.after.frame b A D;exact⟨by rw[g b (by omega)];exact this.1,this.2⟩
 .rw[tz l]at hd;by_cases i:s=t
  .subst i;rw[if_pos rfl]at hd;cases hd;exact⟨n,m,e,B e p⟩
  rw[if_neg i]at hd;obtain⟨G,H,e',I⟩:=f.loc t d hd;exact⟨G,H,e',by rw[g _ (λq=>i (f.inj _ _ _ _ l hd q.symm))];exact I⟩
 .have q:∀t c,mM (Bz L s c') t=some c->∃c,mM L t=some c:=λt c j=>by
   rw[tz l]at j;by_cases i:s=t
   .subst i;exact⟨_,l⟩
   rw[if_neg i]at j;exact⟨_,j⟩
  obtain⟨_,J⟩:=q _ _ r;obtain⟨_,K⟩:=q _ _ z;exact f.inj _ _ _ _ J K C
 have:=f.slot t x hx;cases x with
 |v y=>exact this
 |u=>trivial
 |loc k off=>
  obtain⟨⟨d,hd⟩,E⟩:=this;refine⟨?_,E⟩;rw[tz l];by_cases i:s=k
  .exact⟨c',by rw[if_pos i]⟩
  exact⟨d,by rw[if_neg i];exact hd⟩
theorem eO.step(b:eO ds h0 w0 β env L h a w){h':ad}(d:bW h w h' w'):eO ds h0 w0 β env L h' a w':=
 ⟨b.after.trans d,λs c l=>by
  obtain⟨g,f,e,i⟩:=b.loc s c l;have:=d.frame (β s) (b.lt l) f;exact⟨g,this.2,e,by rw[this.1];exact i⟩,b.inj,b.size,b.slot,b.defers⟩
theorem bW.new{h:ad}{w:World}(c:Fo h w)(o:Obj):bW h w (bU h w.heap.size o) { w with heap:=w.heap.push o }:=by
 refine⟨rfl,rfl,rfl,by simp,λb o' a=>?_,λb a n=>⟨uT a,?_⟩⟩
 .simp only[bU]at a;split at a
  .rename_i e;subst e;cases a;simp
  have:=c b o' a;show(w.heap.push o)[b]? =_;rw[uT ((mXD.1 this).1)];exact this
 simp only[bU];rw[if_neg (by omega)];exact n
theorem bW.set{h:ad}{w:World}(i:Fo h w){n:Nat}{o o':Obj}(j:h n=some o)(g:w'.heap[n]? =some o')(f:∀b,b≠n->w'.heap[b]? =w.heap[b]?)
 (k:w'.heap.size=w.heap.size) (c:eXA w w'):bW h w (bU h n o') w':=by
 refine⟨c.os,c.tape,c.output,by omega,λb q a=>?_,λb a d=>?_⟩
 .simp only[bU]at a;split at a
  .rename_i e;subst e;cases a;exact g
  rename_i e;rw[f b e];exact i b q a
 have:b≠n:=λe=>by rw[e,j]at d;cases d
 exact⟨f b this,by simp only[bU];rw[if_neg this];exact d⟩
variable {P:Program}{T:bu}{A:Ar}[bM A]
theorem pq{t:Bool}{x y:Unit->Prop}(h:ZR t x y):(t=true/\x ())\/(t=false/\y ()):=by
 cases t
 .exact .inr ⟨rfl,h⟩
 exact .inl ⟨rfl,h⟩
theorem nD(h:uF g cs k):∃v,uF g cs (λx=>x=v)/\k v:=by
 cases g with
 |true=>exact⟨_,rfl,h⟩
 |false=>
  cases cs with
  |nil=>exact h.elim
  |cons x r=>exact⟨x,rfl,h⟩
theorem oN{b:Value->Prop}(h:uF g cs k)(a:∀v,k v->b v):uF g cs b:=by
 obtain⟨v,c,d⟩:=nD h;cases g with
 |true=>exact a _ h
 |false=>
  cases cs with
  |nil=>exact h.elim
  |cons x r=>exact a _ h
theorem AK{len:Nat}{c m:Option Int}(a:GV A b len cap s l c m k):
 ∃v,k v/\∀d:Value->Prop,d v->GV A b len cap s l c m d:=by
 cases m<;>cases c<;>cases l<;>first
  |exact a.elim
  |exact⟨_,a,λ_ h=>h⟩
  |exact⟨_,a.out,λ_ h=>⟨a.h,h⟩⟩
theorem AM{s:ByteArray}{a:Option Int}(b:GW A s l a k):
 ∃v,k v/\∀c:Value->Prop,c v->GW A s l a c:=by
 cases a<;>cases l<;>first
  |exact⟨_,b,λ_ h=>h⟩
  |exact⟨_,b.out,λ_ h=>⟨b.h,h⟩⟩
theorem IM{a b:Value}{e:(Value->Prop)->Unit->Prop}(f:∀k,e k ()->∃v,k v/\∀c:Value->Prop,c v->e c ())(d:QZ A op a b k (e k)):
 ∃v,k v/\∀c:Value->Prop,c v->QZ A op a b c (e c):=by
 unfold QZ at d |-;repeat' split at d
 all_goals first
  |exact f _ d
  |exact⟨_,d.out,λ_ h=>⟨d.h,h⟩⟩
set_option maxHeartbeats 1000000 in
theorem vH{j:Operand->SV}{L:Loc}{h:ad}{k:SV->Option (List Value)->Prop}(d:kG A T p o j L h k):
 ∃s n,k s n/\∀a:SV->Option (List Value)->Prop,a s n->kG A T p o j L h a:=by
 unfold kG at d |-;repeat' split at d
 all_goals first
  |exact d.elim
  |exact⟨_,_,d,λa h'=>h'⟩
  | (
   obtain⟨cs,b,c⟩:=(show Bn _ _ _ _ from d).out
   obtain⟨v,f,g⟩:=nD c;exact⟨_,_,g,λa h'=>⟨cs,b,oN f (λv i=>by subst i;exact h')⟩⟩)
  | (
   obtain⟨v,f,g⟩:=nD d
   exact⟨_,_,g,λa h'=>oN f (λv i=>by subst i;exact h')⟩)
  | (
   obtain⟨v,b,c⟩:=(show EG _ _ _ from d).out
   exact⟨_,_,c,λa h'=>⟨v,b,h'⟩⟩)
  | (
   obtain⟨b,c⟩:=(show wI _ _ from d)
   exact⟨_,_,c,λa h'=>⟨b,h'⟩⟩)
  | (
   obtain⟨v,b,c⟩:=IM (e:=λk _=>EG p _ k) (λk h=>by
    obtain⟨v,l,m⟩:=h.out;exact⟨v,m,λa h'=>⟨v,l,h'⟩⟩) d
   exact⟨_,_,b,λa h'=>c (λv=>a (.v v) none) h'⟩)
  | (
   obtain⟨v,b,c⟩:=AK d
   exact⟨_,_,b,λa h'=>c _ h'⟩)
  | (
   obtain⟨v,b,c⟩:=AM d
   exact⟨_,_,b,λa h'=>c _ h'⟩)
  |skip
variable {P:Program}{T:bu}{A:Ar}[bM A]
variable {ds:List Deferred}{h0:ad}{w0:World}{β:Nat->Nat}{env:Env}{L:Loc}{h:ad}{a:Act}{w:World}
theorem JP(e:eO ds h0 w0 β env L h a w):∀ {l:List Operand} {c:List Value},bl (l.map (rq env))=some c->l.map a.eval=c
 | [],c,b=>by simp[bl]at b;simp[b]
 |x::r,c,b=>by
  simp only[mZG]at b;cases hx:rq env x with
  |v y=>
   rw[hx]at b;simp only[bl]at b;cases d:bl (r.map (rq env))with
   |none=>rw[d]at b;cases b
   |some l=>rw[d]at b;simp at b;rw[<-b,mZG,e.bY hx,JP e d]
  |loc s o=>rw[hx]at b;simp[bl]at b
  |u=>rw[hx]at b;simp[bl]at b
theorem ld(s:eO ds h0 w0 β env L h a w){l:Array Operand}{v:List Value}(b:bl (l.toList.map (rq env))=some v):l.map a.eval=v.toArray:=by rw[<-JP s b];apply Array.ext';simp
theorem xG(b:eO ds h0 w0 β env L h a w):∀ {l:List (Nat×Operand)} {s:List (Nat×Value)},pY (rq env) l=some s->l.map (λ(i,x)=>(i,a.eval x))=s
 | [],s,v=>by simp[pY]at v;simp[v]
 | (i,x)::r,s,v=>by
  unfold pY at v;split at v
  .rename_i y l hx c;cases v;simp only[mZG];rw[b.bY hx,xG b c]
  cases v
theorem Hb(off:Nat):∀(s:List Value) (k:Nat) (cells:Array Value),
 (s.zipIdx k).foldl (λcs (c,j)=>cs.setIfInBounds (off+j) c) cells=(jS cells.toList (off+k) s).toArray
 | [],k,cells=>by simp[jS]
 |v::r,k,cells=>by
  simp only[nQs,mKn];rw[Hb off r (k+1)];simp[jS,mKK,mJp]
theorem fill_eq(p:Nat->Option (Nat×Nat)):∀(s:List (Nat×Value)) (cells:Array Value) (cs:List Value),Ir p cells.toList s=some cs->Instr.fill p cells s=some cs.toArray
 | [],cells,cs,h=>by
  simp[Ir]at h;simp[Instr.fill,<-h]
 | (i,v)::r,cells,cs,h=>by
  unfold Ir at h;unfold Instr.fill;cases a:p i with
  |none=>simp[a]at h
  |some x=>
   obtain⟨off,size⟩:=x;simp only[a]at h |-;have l:v.cells.toList.length=v.cells.size:=by simp
   have X:cells.toList.length=cells.size:=by simp
   rw[l,X]at h;split at h
   .cases h
   rename_i c;rw[if_neg c];have:=fill_eq p r (jS cells.toList off v.cells.toList).toArray cs (by simpa using h);rw[<-this];congr 1;rw[<-nQr];have e:=Hb off v.cells.toList 0 cells;simp only[mJr]at e;rw[<-e];congr 1;simp[Array.toList_zipIdx]
theorem jj{k:Kd}(h:k.isNone=false):k≠.none:=λe=>by rw[e]at h;cases h
theorem Ht(a:gE P T)(w:World):∀(s:List Field) (l:List (Nat×Nat)),placesOf T (s.map λf=>(f.type,f.offset))=some l->
 (s.mapM λf=>do pure (f.offset,<-sizeOf f.type):Sem (List (Nat×Nat))).run P w=.ok l w
 | [],l,h=>by simp[placesOf]at h;simp[h]
 |f::r,l,h=>by
  simp only[mZG]at h;unfold placesOf at h;split at h
  .rename_i d k b;cases h;have i:=jA a (jj k);have c:=Ht a w r d b;rw[nQq];simp only[mQY,i.iI,mQU,mXf,c]
  cases h
theorem vI{f:List (Nat×Nat)}{k:Kd}(h:k=.fw f):k≠.none:=by rw[h];simp
theorem Tb{n:Nat}{k:Kd}(h:k=.arr n e):k≠.none:=by rw[h];simp
theorem iL{k:Kd}(h:k=.uD e):k≠.none:=by rw[h];simp
theorem Cj{s:List (Nat×Nat)}(h:sF d=.fw s):∃F,d=.struct F/\s=F.toList.map λf=>(f.type,f.offset):=by cases d<;>simp[sF]at h;exact⟨_,rfl,h.symm⟩
theorem aJG{n:Nat}(h:sF d=.arr n e):d=.array n e:=by cases d<;>simp[sF]at h;rw[h.1,h.2]
theorem rN(h:sF d=.uD e):d=.slice e:=by cases d<;>simp[sF]at h;rw[h]
theorem SY(h:sF d=.str):d=.string:=by cases d<;>simp[sF]at h;rfl
theorem run_build(b:gE P T)(w:World){t:TypeId}{p:List (Nat×Value)}(o:(T.ty t).kd.isNone=false)
 (h:UA T (T.ty t).zero p (T.ty t).kd=some cs):(Instr.build t p.toArray).run P w=.ok (.agg cs.toArray) w:=by
 have g:=jA b (jj o);obtain⟨z,s,C⟩:=g.rG w;obtain⟨d,hd,-,k,-⟩:=g.dq w;unfold Instr.build;simp only[mQY,s,mQU,hd];unfold UA at h;split at h
 .rename_i u A;split at h
  .rename_i l q;obtain⟨F,rfl,m⟩:=Cj (k ▸ A);have r:=Ht b w F.toList l (m ▸ q);have c:(F.mapM λf=>do pure (f.offset,<-sizeOf f.type):Sem (Array (Nat×Nat))).run P w=.ok l.toArray w:=by rw[mJU];simp only[mJT,r,mQU]
   simp only[c,mQU,mQY];have:=fill_eq (λi=>l[i]?) p z.cells cs (by rw[C];exact h);simp only[nXb];rw[this];rfl
  cases h
 .rename_i n e j;split at h
  .rename_i a;have W:=jA b (jj a);obtain rfl:=aJG (k ▸ j);simp only[mQY,W.iI,mQU];have:=fill_eq (λi=>some (i*(T.ty e).size,(T.ty e).size)) p z.cells cs (by rw[C];exact h);rw[this];rfl
  cases h
 cases h
theorem GJ{off n:Nat}(h:takeN c off n=some cs):cs.length=n/\∀j,j<cs.length->c[off+j]? =cs[j]? :=by
 unfold takeN at h;split at h
 .rename_i l;cases h;have:((c.drop off).take n).length=n:=by simp;omega
  refine⟨this,λj a=>?_⟩;rw[mXl,if_pos (by omega),mXr]
 cases h
variable {P:Program}{T:bu}{A:Ar}[bM A]
variable {ds:List Deferred}{h0:ad}{w0:World}{β:Nat->Nat}{env:Env}{L:Loc}{h:ad}{a:Act}{w:World}
theorem iB{x:Int}{y:Nat}{code:BoundsCode}{k:IntKind}(h:0<=x/\x<=(y:Int))(w:World):(Instr.sliceBound (.int k x) y code).run P w=.ok x.toNat w:=by simp[Instr.sliceBound,asIntOf,h]
theorem GU(s:eO ds h0 w0 β env L h a w){x:Option Operand}(b:bJV (rq env) x=some l):
 (l=none/\x.map a.eval=none)\/(∃n k,l=some n/\x.map a.eval=some (.int k n)):=by
 cases x with
 |none=>simp[bJV]at b;exact .inl ⟨b.symm,rfl⟩
 |some y=>
  unfold bJV at b;simp only at b;split at b
  .rename_i k n e;cases b;exact .inr ⟨n,k,rfl,by simp[s.bY e]⟩
  cases b
theorem Sm{len:Nat}{j m:Option Int}{p o q:Option Value}
 (u:(l=none/\p=none)\/(∃n k,l=some n/\p=some (.int k n)))
 (v:(j=none/\o=none)\/(∃n k,j=some n/\o=some (.int k n)))
 (y:(m=none/\q=none)\/(∃n k,m=some n/\q=some (.int k n)))
 (h:GV A b len cap s l j m (λx=>x=r)) (w:World):
 ∃L H M:Nat,(Instr.sliceBounds true len cap p o q).run P w=.ok (L,H,M) w/\
  r=.slice (if M=L then b else b.map (·.add (L*s))) (H-L) (M-L):=by
 rcases u with⟨rfl,rfl⟩|⟨a,z,rfl,rfl⟩<;>rcases v with⟨rfl,rfl⟩|⟨d,B,rfl,rfl⟩<;>rcases y with⟨rfl,rfl⟩|⟨f,C,rfl,rfl⟩
 .refine⟨0,len,cap,by simp[Instr.sliceBounds],?_⟩;have:Value.slice b len cap=r:=h;rw[<-this];simp[Addr.add]
 .exact h.elim
 .obtain⟨c,h⟩:=(show wI _ _ from h);refine⟨0,d.toNat,cap,by simp[Instr.sliceBounds,iB c],?_⟩;have:=h;simp only[A.Iz,A.nat_eq,A.Ey]at this;rw[<-this];simp
 .obtain⟨c,h⟩:=(show wI _ _ from h);refine⟨0,d.toNat,f.toNat,?_,?_⟩
  .have g:0<=f/\f<=(cap:Int):=⟨c.1,c.2.1⟩;have i:0<=d/\d<=(f.toNat:Int):=⟨c.2.2.1,by omega⟩;simp[Instr.sliceBounds,iB g,iB i]
  have:=h;simp only[A.Iz,A.nat_eq,A.Ey]at this;rw[<-this];have:(f=0)↔(f.toNat=0):=by omega
  simp[this]
 .obtain⟨c,h⟩:=(show wI _ _ from h);refine⟨a.toNat,len,cap,by simp[Instr.sliceBounds,iB c],?_⟩;have:=h;simp only[A.Iz,A.nat_eq,A.Ey]at this;rw[<-this];have e:(Int.ofNat cap=a)↔(cap=a.toNat):=by have:=c.1;simp;omega
  simp only[e];congr 1<;>(try simp)<;>omega
 .exact h.elim
 .obtain⟨c,h⟩:=(show wI _ _ from h);refine⟨a.toNat,d.toNat,cap,?_,?_⟩
  .have g:0<=d/\d<=(cap:Int):=⟨c.1,c.2.1⟩;have i:0<=a/\a<=(d.toNat:Int):=⟨c.2.2.1,by omega⟩;simp[Instr.sliceBounds,iB g,iB i]
  have:=h;simp only[A.Iz,A.nat_eq,A.Ey]at this;rw[<-this];have e:(Int.ofNat cap=a)↔(cap=a.toNat):=by have:=c.2.2.1;simp;omega
  simp only[e];congr 1<;>(try simp)<;>omega
 obtain⟨c,h⟩:=(show wI _ _ from h);refine⟨a.toNat,d.toNat,f.toNat,?_,?_⟩
 .have g:0<=f/\f<=(cap:Int):=⟨c.1,c.2.1⟩;have i:0<=d/\d<=(f.toNat:Int):=⟨c.2.2.1,by omega⟩;have t:0<=a/\a<=(d.toNat:Int):=⟨c.2.2.2.2.1,by omega⟩;simp[Instr.sliceBounds,iB g,iB i,iB t]
 have:=h;simp only[A.Iz,A.nat_eq,A.Ey]at this;rw[<-this];have e:(f=a)↔(f.toNat=a.toNat):=by omega
 simp only[e];congr 1<;>omega
theorem Sn{s:ByteArray}{d:Option Int}{o i:Option Value}
 (g:(l=none/\o=none)\/(∃n k,l=some n/\o=some (.int k n)))
 (j:(d=none/\i=none)\/(∃n k,d=some n/\i=some (.int k n)))
 (h:GW A s l d (λx=>x=r)) (w:World):
 ∃L H M:Nat,(Instr.sliceBounds false s.size s.size o i none).run P w=.ok (L,H,M) w/\r=.string (s.extract L H):=by
 rcases g with⟨rfl,rfl⟩|⟨b,m,rfl,rfl⟩<;>rcases j with⟨rfl,rfl⟩|⟨a,p,rfl,rfl⟩
 .refine⟨0,s.size,s.size,by simp[Instr.sliceBounds],?_⟩;have:Value.string s=r:=h;rw[<-this];simp
 .obtain⟨c,h⟩:=(show wI _ _ from h);refine⟨0,a.toNat,s.size,by simp[Instr.sliceBounds,iB c],?_⟩;have:=h;simp only[A.sub_eq]at this;rw[<-this];rfl
 .obtain⟨c,h⟩:=(show wI _ _ from h);refine⟨b.toNat,s.size,s.size,by simp[Instr.sliceBounds,iB c],?_⟩;have:=h;simp only[A.sub_eq,A.aXQ]at this;rw[<-this];rfl
 obtain⟨c,h⟩:=(show wI _ _ from h);refine⟨b.toNat,a.toNat,s.size,?_,?_⟩
 .have e:0<=a/\a<=(s.size:Int):=⟨c.1,c.2.1⟩;have f:0<=b/\b<=(a.toNat:Int):=⟨c.2.2.1,by omega⟩;simp[Instr.sliceBounds,iB e,iB f]
 have:=h;simp only[A.sub_eq]at this;rw[<-this]
theorem bXq{t:TypeId}{v:Value}(h:cZp A op u v=some r)(w:World):
 (do eqGuard op t x y u v;Go.binOp op t u v:Sem Value).run P w=.ok r w:=by
 have g:(eqGuard op t x y u v).run P w=.ok () w:=by
  unfold cZp at h;cases u<;>first
   | (simp at h;done)
   | (cases v<;>first
    | (simp at h;done)
    | (unfold eqGuard;split<;>rfl))
 rw[mQY,g,mQU];unfold cZp at h;split at h
 .rename_i k c a d;split at h<;>first
   |cases h
   | (
    split at h
    .rename_i J;subst J;cases h;first
      | (simp[Go.binOp,Op.intArith,A.Bm,bB];done)
      | (simp[Go.binOp,Op.intBits,A.Bm,bB];done)
      | (simp[Go.binOp,Op.intCmp,A.aJW,aI];done)
    cases h)
 .split at h<;>first
   | (cases h;rw[A.aZe];rfl)
   | (cases h;done)
 cases h
theorem bXr{t:TypeId}{v:Value}{X:Unit->Prop}(h:QZ A op u v (λz=>z=r) X)
 (e:X ()->∀w,(do eqGuard op t x y u v;Go.binOp op t u v:Sem Value).run P w=.ok r w) (w:World):
 (do eqGuard op t x y u v;Go.binOp op t u v:Sem Value).run P w=.ok r w:=by
 unfold QZ at h;split at h
 .rename_i f c;split at h
  .rename_i g d;split at h
   .split at h
    .rename_i k;have k:=mQL k;subst k;obtain⟨b,a⟩:=h;subst a;simp[eqGuard,Go.binOp,Op.intDiv,A.Bm,bB,b]
    exact e h w
   .split at h
    .rename_i k;have k:=mQL k;subst k;obtain⟨b,a⟩:=h;subst a;simp[eqGuard,Go.binOp,Op.intDiv,A.Bm,bB,b]
    exact e h w
   .obtain⟨b,a⟩:=h;subst a;have:¬d<0:=by omega
    simp[eqGuard,Go.binOp,Op.shift,A.Bm,bB,this]
   .obtain⟨b,a⟩:=h;subst a;have:¬d<0:=by omega
    simp[eqGuard,Go.binOp,Op.shift,A.Bm,bB,this]
   exact e h w
  exact e h w
 .rename_i c;split at h
  .rename_i d;split at h
   .obtain⟨b,a⟩:=h;subst a;have m:IntKind.i64.max=9223372036854775807:=by decide
    have Z:(2:Int)^62=4611686018427387904:=by decide
    have:¬(9223372036854775807<(c.size:Int)+(d.size:Int)):=by rw[Z]at b;omega
    have I:A.cat c d=c++d:=by rw[A.eXd]
    rw[I];simp[eqGuard,Go.binOp,Op.stringOp,this]
   exact e h w
  exact e h w
 exact e h w
theorem CU(j:gE P T)(d:Nat)(xs ys:Array Value)(w:World):∀(s:List Field) (i:Nat) (t:Bool),
 ((
  s.zipIdx i).all λ(f,i)=>f.offset==i&&decide (f.name≠ "_")&&(match P.info? f.type,P.underlying f.type with
  |some i,some .bool|some i,some (.int _) |some i,some .string=>i.size==1
  |_,_=>false))=true->
 mi A T.ty (s.map λf=>(f.type,f.offset)) (xs.toList.drop i) (ys.toList.drop i)=some t->(Op.eqFields (d+1) xs ys s).run P w=.ok t w
 | [],i,t,_,he=>by
  simp only[List.map_nil]at he;cases hx:xs.toList.drop i with
  |cons x r=>rw[hx]at he;simp[mi]at he
  |nil=>
   cases e:ys.toList.drop i with
   |nil=>rw[hx,e]at he;simp[mi]at he;subst he;rfl
   |cons y r=>rw[hx,e]at he;simp[mi]at he
 |f::s,i,t,V,he=>by
  simp only[nQs,mXY,mQQ,beq_iff_eq,mQR]at V;obtain⟨⟨⟨z,u⟩,G⟩,m⟩:=V;simp only[mZG]at he;cases hx:xs.toList.drop i with
  |nil=>rw[hx]at he;simp[mi]at he
  |cons x r=>
   have Y:xs[i]? =some x:=by have:=congrArg (·[0]?) hx;simpa using this
   have D:xs.toList.drop (i+1)=r:=by have:=congrArg (List.drop 1) hx;simpa[mZB,nQp]using this
   cases e:ys.toList.drop i with
   |nil=>rw[hx,e]at he;simp[mi]at he
   |cons y q=>
    have g:ys[i]? =some y:=by have:=congrArg (·[0]?) e;simpa using this
    have B:ys.toList.drop (i+1)=q:=by have:=congrArg (List.drop 1) e;simpa[mZB,nQp]using this
    rw[hx,e]at he;have F:=λc I=>CU j d xs ys w s (i+1) c m (by rw[D,B];exact I);have n:f.name≠ "_" :=u;have K:∀k,(T.ty f.type).kd=k->k≠.none->∃a,P.underlying f.type=some a/\k=sF a:=λk h M=>by
     obtain⟨a,-,o,p,-⟩:=(jA j (t:=f.type) (by rw[h];exact M)).dq w;exact⟨a,o,by rw[<-h,p]⟩
    have fin:∀(a:TypeDesc) (b:Bool) (c:Bool),P.underlying f.type=some a->(isAgg f.type).run P w=.ok false w->(Op.equalIn (d+1) f.type x y).run P w=.ok b w->
     mi A T.ty (s.map λf=>(f.type,f.offset)) r q=some c->t=(b&&c)->(Op.eqFields (d+1) xs ys (f::s)).run P w=.ok t w:=λa b c W Z v I E=>by
     have J:(part f.type xs f.offset).run P w=.ok x w:=by unfold part;rw[mQY,Z];simp[z,Y]
     have Q:(part f.type ys f.offset).run P w=.ok y w:=by unfold part;rw[mQY,Z];simp[z,g]
     unfold Op.eqFields;rw[if_pos n];simp only[mQY,J,Q,mQU,v,E];cases b with
     |false=>rfl
     |true=>simp[F c I]
    unfold mi at he;split at he
    .rename_i h;obtain⟨a,W,C⟩:=K _ h (by simp);obtain⟨k,rfl⟩:∃k,a=.int k:=by cases a<;>simp[sF]at C;exact⟨_,rfl⟩
     split at he
     .split at he
      .split at he
       .rename_i l;split at he
        .rename_i H a1 L a2 c I;cases he;have X:=mQL l;subst X;refine fin _ _ _ W ?_ (run_equalIn_int w d _ _ _ _ _ W) I (by rw[A.and_eq,A.aJW];rfl);unfold isAgg;rw[mQY,run_underlying W w];rfl
        cases he
       cases he
      cases he
     cases he
    .rename_i h;obtain⟨a,W,C⟩:=K _ h (by simp);obtain rfl:a=.string:=by cases a<;>simp[sF]at C;rfl
     split at he
     .split at he
      .split at he
       .rename_i a1 a2 c I;cases he;refine fin _ _ _ W ?_ (run_equalIn_string w d _ _ _ W) I (by rw[A.and_eq,A.aZe];rfl);unfold isAgg;rw[mQY,run_underlying W w];rfl
       cases he
      cases he
     cases he
    .rename_i h;obtain⟨a,W,C⟩:=K _ h (by simp);obtain rfl:a=.bool:=by cases a<;>simp[sF]at C;rfl
     split at he
     .split at he
      .split at he
       .rename_i a1 a2 c I;cases he;refine fin _ _ _ W ?_ (run_equalIn_bool' w d _ _ _ W) I (by rw[A.and_eq,A.UB];rfl);unfold isAgg;rw[mQY,run_underlying W w];rfl
       cases he
      cases he
     cases he
    cases he
theorem Hz{b:Bool}(h:neg A op b=some r):(op=.eql/\r=.bool b)\/(op=.neq/\r=.bool (!b)):=by
 unfold neg at h;split at h
 .cases h;exact .inl ⟨rfl,rfl⟩
 .cases h;exact .inr ⟨rfl,by rw[A.not_eq]⟩
 cases h
theorem bQZ(f:gE P T){t:TypeId}{v:Value}(h:eQU A T.ty (T.ty t) op u v=some r)(w:World):
 (do eqGuard op t x y u v;Go.binOp op t u v:Sem Value).run P w=.ok r w:=by
 unfold eQU at h;split at h
 .rename_i e a;have i:=jA f (iL a);obtain⟨d,hd,Y,k,-⟩:=i.dq w;obtain rfl:=rN (k ▸ a);split at h
  .rename_i b l c;split at h
   .rename_i n m;have g:(eqGuard op t x y (.slice b l c) (.slice none n m)).run P w=.ok () w:=by unfold eqGuard;split<;>rfl
    have q:(Op.equal t (.slice b l c) (.slice none n m)).run P w=.ok b.isNone w:=by unfold Op.equal Op.maxDepth Op.equalIn;rw[mQY,hd,mQU];cases b<;>rfl
    rw[mQY,g,mQU];rcases Hz h with⟨rfl,rfl⟩|⟨rfl,rfl⟩
    .simp[Go.binOp,q,A.aJH]
    simp[Go.binOp,q,A.aJH]
   cases h
  cases h
 .rename_i a;have i:=jA f (show(T.ty t).kd≠.none by rw[a];simp);obtain⟨d,hd,Y,k,-⟩:=i.dq w;obtain rfl:d=.bool:=by rw[k]at a;cases d<;>simp[sF]at a;rfl
  split at h
  .rename_i b;split at h
   .rename_i c;have g:(eqGuard op t x y (.bool b) (.bool c)).run P w=.ok () w:=by unfold eqGuard;split<;>rfl
    have q:(Op.equal t (.bool b) (.bool c)).run P w=.ok (b==c) w:=run_equalIn_bool' w 9999 t b c Y;rw[mQY,g,mQU];rcases Hz h with⟨rfl,rfl⟩|⟨rfl,rfl⟩
    .simp[Go.binOp,q,A.UB,EE]
    simp[Go.binOp,q,A.UB,EE]
   cases h
  cases h
 .rename_i E a;have i:=jA f (vI a);obtain⟨G,d,z,-,Y,-,-,-,-,-,k,X⟩:=i.ex;obtain⟨F,rfl,D⟩:=Cj (k ▸ a);split at h
  .rename_i J;rw[X]at J;simp only[Ul,mQQ,mZx]at J;obtain⟨⟨s,B⟩,C⟩:=J;split at h
   .rename_i xs;split at h
    .rename_i ys;split at h
     .rename_i o j;have g:(eqGuard op t x y (.agg xs) (.agg ys)).run P w=.ok () w:=run_eqGuard_agg w op t x y xs ys s;have Z:P.fieldsOf t=F:=by simp[Program.fieldsOf,Y]
      have p:P.underlying t=some (.struct (P.fieldsOf t)):=by rw[Z];exact Y
      have q:(Op.equalIn 10000 t (.agg xs) (.agg ys)).run P w=.ok o w:=by rw[run_equalIn_agg w 9999 t xs ys p B,Z];exact CU f 9998 xs ys w F.toList 0 o C (by simpa[D]using j)
      rw[mQY,g,mQU];rcases Hz h with⟨rfl,rfl⟩|⟨rfl,rfl⟩
      .rw[run_eql_struct,q];rfl
      rw[run_neq_struct,q];rfl
     cases h
    cases h
   cases h
  cases h
 cases h
variable {P:Program}{T:bu}{A:Ar}[bM A]
variable {ds:List Deferred}{h0:ad}{w0:World}{β:Nat->Nat}{env:Env}{L:Loc}{h:ad}{a:Act}{w:World}
theorem Se{a:Type}{P:Program}{w:World}{x:Sem a}{f:a->Sem Next}{r:a}(hx:x.run P w=.ok r w):(x >>= f).run P w=(f r).run P w:=by rw[mQY,hx];rfl
def gF(P:Program)(β:Nat->Nat)(L:Loc)(a:Act)(w:World)(o:Oper)(sv:SV):Prop:=
 ∃v,(execOp a.eval o).run P w=.ok (.value v) w/\vw β L sv v
theorem gF.fin(b:eO ds h0 w0 β env L h a w){s:SV}(q:gF P β L a w o s):
 ∃v w' u,(execOp a.eval o).run P w=.ok (.value v) w'/\eO ds h0 w0 u (put env o.dst s) (vT L o.dst none) h (a.put o.dst v) w':=by
 obtain⟨v,c,n⟩:=q;refine⟨v,w,β,c,?_⟩;have:vT L o.dst none=L:=by unfold vT;cases o.dst<;>rfl
 rw[this];exact b.put n
theorem Hj(h:gE P T){f:Field}{n:Nat}(k:(T.ty f.type).kd.isNone=false)(a:(T.ty f.type).size=n+1)(x:Addr)(w:World):
 (fieldPlace x f).run P w=.ok (x.add f.offset) w:=by
 have i:=jA h (jj k);simp[fieldPlace,i.iI,a]
theorem QG{F:Array Field}{i t off:Nat}{s:List (Nat×Nat)}(b:s=F.toList.map λf=>(f.type,f.offset))(h:s[i]? =some (t,off)):
 ∃f,F[i]? =some f/\f.type=t/\f.offset=off:=by
 subst b;rw[mXe]at h;cases a:F.toList[i]? with
 |none=>simp[a]at h
 |some f=>simp[a]at h;exact⟨f,by simpa using a,h.1,h.2⟩
theorem Po(i:eO ds h0 w0 β env L h a w){off n:Nat}(l:mM L s=some c)(t:takeN c off n=some cs):
 cs.length=n/\∀j,j<cs.length->w.cell? ⟨β s,off+j,none⟩=cs[j]? :=by
 obtain⟨b,d⟩:=GJ t;obtain⟨-,-,e,f⟩:=i.loc s c l;refine⟨b,λj g=>?_⟩;rw[WV f,<-d j g];simp
set_option maxHeartbeats 1000000 in
theorem Ef(E:gE P T)(j:eO ds h0 w0 β env L h a w){sv:SV}{nb:Option (List Value)}
 (g:kG A T (λ_=>P) o (Sx.rq env) L h (λx y=>x=sv/\y=nb)):
 ∃v w' uh,(execOp a.eval o).run P w=.ok (.value v) w'/\eO ds h0 w0 uh (put env o.dst sv) (vT L o.dst nb) h (a.put o.dst v) w':=by
 unfold kG at g;split at g;case h_1 x p=>-- move
  obtain⟨rfl,rfl⟩:=g;exact gF.fin j ⟨_,by simp only[execOp,p];rfl,j.rq x⟩
 case h_2 c x y p=>-- pick
  split at g
  .rename_i hc;obtain⟨rfl,rfl⟩:=g;exact gF.fin j ⟨_,by simp only[execOp,p,j.bY hc];rfl,j.rq x⟩
  .rename_i hc;obtain⟨rfl,rfl⟩:=g;exact gF.fin j ⟨_,by simp only[execOp,p,j.bY hc];rfl,j.rq y⟩
  exact g.elim
 case h_3 e p=>-- alloc
  split at g
  .exact g.elim
  rename_i H;split at g
  .exact g.elim
  rename_i d hd;split at g
  .rename_i vN;obtain⟨rfl,rfl⟩:=g;obtain⟨z,hz,Co⟩:=(jA E (jj H)).rG w;have hb:=j.box vN (T.ty e).zero e;rw[hd];refine⟨_,_,_,?_,hb⟩;simp only[execOp,p,Instr.alloc,mQY,hz,mQU,newVar,newRow,run_newObj,mXf];rw[<-Co]
  exact g.elim
 case h_4 e x p=>-- box
  split at g
  .exact g.elim
  rename_i d hd;split at g
  .rename_i v B;split at g
   .rename_i vN;obtain⟨rfl,rfl⟩:=g;have hb:=j.box vN v.cells.toList e;rw[hd];refine⟨_,_,_,?_,hb⟩;simp only[execOp,p,Instr.box,mQY,mQU,newVar,newRow,run_newObj,mXf,j.bY B]
   exact g.elim
  exact g.elim
 case h_5 t x p=>-- load
  split at g
  .exact g.elim
  rename_i H;have G:=jA E (jj H);split at g
  .rename_i s off hx;split at g
   .rename_i c hc;split at g
    .rename_i cs ay;obtain⟨I,O⟩:=Po j hc ay;obtain⟨v,J,h4⟩:=nD g;obtain⟨rfl,rfl⟩:=h4;obtain⟨v',h5,h6⟩:=tq G w (β s) off cs I O J;subst h6;exact gF.fin j ⟨_,by simp only[execOp,p,(j.uV hx).2,Instr.loadAt,Instr.sureAddr,mQY,mXf,mQU,h5],rfl⟩
    exact g.elim
   exact g.elim
  .rename_i y hx;obtain⟨cs,I,g⟩:=g.out;obtain⟨S,K,U⟩:=I.cell j.after.IV;obtain⟨v,J,h4⟩:=nD g;obtain⟨rfl,rfl⟩:=h4;obtain⟨v',h5,h6⟩:=tq G w y.block y.off cs K U J;subst h6;have:y=⟨y.block,y.off,none⟩:=by cases y;simp at S;rw[S]
   exact gF.fin j ⟨_,by simp only[execOp,p,j.bY hx,Instr.loadAt,Instr.sureAddr,mQY,mXf,mQU];rw[this,h5];rfl,rfl⟩
  exact g.elim
 case h_6 x p=>-- nilCheck
  split at g
  .rename_i s off hx;obtain⟨rfl,rfl⟩:=g;have:=j.uV hx;exact gF.fin j ⟨_,by simp only[execOp,p,this.2];rfl,this.1,rfl⟩
  .rename_i y hx;obtain⟨rfl,rfl⟩:=g;exact gF.fin j ⟨_,by simp only[execOp,p,j.bY hx];rfl,rfl⟩
  exact g.elim
 case h_7 t x f p=>-- fieldAddr
  split at g
  .rename_i fs V;have G:=jA E (vI V);obtain⟨d,hd,-,C,-⟩:=G.dq w;obtain⟨F,rfl,hF⟩:=Cj (C ▸ V);split at g
   .rename_i ft off hf;obtain⟨fd,N,rfl,rfl⟩:=QG hF hf;split at g
    .exact g.elim
    rename_i H;split at g
    .exact g.elim
    rename_i n hn;have hp:=λy=>Hj E H hn y w;split at g
    .rename_i s off hx;obtain⟨rfl,rfl⟩:=g;have:=j.uV hx;exact gF.fin j ⟨_,by simp only[execOp,p,this.2,Instr.fieldAt,Instr.sureAddr,mQY,hd,mQU,N,mXf,hp,dF],this.1,rfl⟩
    .rename_i y hx;obtain⟨rfl,rfl⟩:=g;exact gF.fin j ⟨_,by simp only[execOp,p,j.bY hx,Instr.fieldAt,Instr.sureAddr,mQY,hd,mQU,N,mXf,hp];rfl,by simp[vw,A.dZz]⟩
    exact g.elim
   exact g.elim
  exact g.elim
 case h_8 t x ix p=>-- indexAddr
  split at g
  .rename_i kk n JA;split at g
   .rename_i e D;have G:=jA E (iL D);obtain⟨d,hd,-,C,-⟩:=G.dq w;obtain rfl:=rN (C ▸ D);split at g
    .exact g.elim
    rename_i H;have Z:=jA E (jj H);split at g
    .rename_i b len cap hx;obtain⟨⟨S,K,U⟩,rfl,rfl⟩:=(show wI _ _ from g);obtain⟨y,rfl⟩:=mZA.1 S;refine gF.fin j ⟨.pointer (some (y.add (n.toNat*(T.ty e).size))),?_,by simp[vw,A.yq,mS]⟩;simp[execOp,p,j.bY hx,j.bY JA,Instr.indexAt,asIntOf,hd,Z.iI,K,U]
    exact g.elim
   .rename_i m e D;have G:=jA E (Tb D);obtain⟨d,hd,-,C,-⟩:=G.dq w;obtain rfl:=aJG (C ▸ D);split at g
    .exact g.elim
    rename_i H;have Z:=jA E (jj H);split at g
    .rename_i s off hx;obtain⟨⟨K,U⟩,rfl,rfl⟩:=(show wI _ _ from g);have:=j.uV hx;refine gF.fin j ⟨.pointer (some ⟨β s,off+n.toNat*(T.ty e).size,none⟩),?_,this.1,by simp[A.fQG]⟩;simp[execOp,p,this.2,j.bY JA,Instr.indexAt,asIntOf,hd,Z.iI,K,U,Instr.sureAddr,dF]
    .rename_i y hx;obtain⟨⟨K,U⟩,rfl,rfl⟩:=(show wI _ _ from g);refine gF.fin j ⟨.pointer (some (y.add (n.toNat*(T.ty e).size))),?_,by simp[vw,A.yq,mS]⟩;simp[execOp,p,j.bY hx,j.bY JA,Instr.indexAt,asIntOf,hd,Z.iI,K,U,Instr.sureAddr]
    exact g.elim
   exact g.elim
  exact g.elim
 case h_9 t x ix p=>-- index
  split at g
  .rename_i kk n JA;split at g
   .rename_i D;have G:=jA E (show(T.ty t).kd≠.none by rw[D];simp);obtain⟨d,hd,-,C,-⟩:=G.dq w;obtain rfl:=SY (C ▸ D);split at g
    .rename_i s hx;obtain⟨⟨K,U⟩,rfl,rfl⟩:=(show wI _ _ from g);have aP:n.toNat<s.size:=by omega
     refine gF.fin j ⟨.int .u8 (s[n.toNat].toNat:Int),?_,?_⟩
     .simp[execOp,p,j.bY hx,j.bY JA,Instr.index,asIntOf,hd,K,aP]
     have:n.toNat<s.data.size:=aP;simp only[vw,A.cZn,mXx,mZk this];rfl
    exact g.elim
   exact g.elim
  exact g.elim
 case h_10 t x f p=>-- field
  split at g
  .rename_i fs V;have G:=jA E (vI V);obtain⟨d,hd,-,C,-⟩:=G.dq w;obtain⟨F,rfl,hF⟩:=Cj (C ▸ V);split at g
   .rename_i ft off hf;obtain⟨fd,N,rfl,rfl⟩:=QG hF hf;split at g
    .exact g.elim
    rename_i H;have af:=jA E (jj H);split at g
    .rename_i cs hx;split at g
     .rename_i ds X;obtain⟨I,O⟩:=GJ X;obtain⟨v,J,h4⟩:=nD g;obtain⟨rfl,rfl⟩:=h4;refine gF.fin j ⟨v,?_,rfl⟩;have ak:(part fd.type cs fd.offset).run P w=.ok v w:=by
       unfold part;rw[mQY,af.Kh];unfold uF at J;cases hg:(T.ty fd.type).agg with
       |true=>
        simp only[hg]at J;subst J;unfold takeN at X;split at X
        .cases X;simp only[mQU,if_true,mQY,af.iI,mXf];congr 2;apply Array.ext';simp[nQo,List.extract]
        cases X
       |false=>
        simp only[hg]at J;cases ds with
        |nil=>exact J.elim
        |cons y r=>simp only at J;subst J;have:=O 0 (by simp);simp only[mJr,mZj,nXa]at this;simp[this]
      simp only[execOp,p,j.bY hx,Instr.field,mQY,hd,mQU,N,asAgg,mXf,ak]
     exact g.elim
    exact g.elim
   exact g.elim
  exact g.elim
 case h_11 x i p=>-- extract
  split at g
  .rename_i vs hx;split at g
   .rename_i v B;obtain⟨rfl,rfl⟩:=g;simp only[mZj]at B;exact gF.fin j ⟨v,by simp[execOp,p,j.bY hx,Instr.extract,B],rfl⟩
   exact g.elim
  exact g.elim
 case h_12 t parts p=>-- build
  split at g
  .exact g.elim
  rename_i H;split at g
  .rename_i ps al;split at g
   .rename_i cs ay;obtain⟨rfl,rfl⟩:=g;have I:=run_build E w H ay;have O:(parts.map λ(i,x)=>(i,a.eval x))=ps.toArray:=by rw[<-xG j al];apply Array.ext';simp
    exact gF.fin j ⟨_,by simp only[execOp,p,O,mQY,I,mQU,mXf],rfl⟩
   exact g.elim
  exact g.elim
 case h_13 op t x y ty p=>-- binOp
  split at g
  .rename_i u Y;split at g
   .rename_i v B;split at g
    .rename_i r Q;obtain⟨rfl,rfl⟩:=g;have:=bXq (P:=P) (A:=A) (t:=t) (x:=x) (y:=y) Q w;exact gF.fin j ⟨_,by simp only[execOp,p,j.bY Y,j.bY B];rw[Se this];rfl,rfl⟩
    split at g
    .rename_i r Q;obtain⟨rfl,rfl⟩:=g;have:=bQZ (A:=A) E (x:=x) (y:=y) Q w;exact gF.fin j ⟨_,by simp only[execOp,p,j.bY Y,j.bY B];rw[Se this];rfl,rfl⟩
    obtain⟨r,⟨rfl,rfl⟩,O⟩:=IM (e:=λk _=>EG _ _ k) (λk h=>by
     obtain⟨v,S,K⟩:=h.out;exact⟨v,K,λk' h'=>⟨v,S,h'⟩⟩) g
    have:=bXr (P:=P) (A:=A) (t:=t) (x:=x) (y:=y) (O (λz=>z=r) rfl) (λh w=>by
     obtain⟨v,S,rfl⟩:=h.out;exact S w) w
    exact gF.fin j ⟨_,by simp only[execOp,p,j.bY Y,j.bY B];rw[Se this];rfl,rfl⟩
   exact g.elim
  exact g.elim
 case h_14 op t x p=>-- unOp
  split at g
  .rename_i b hx;split at g
   .obtain⟨rfl,rfl⟩:=g;exact gF.fin j ⟨.bool (!b),by simp only[execOp,p,j.bY hx];rfl,by simp[vw,A.not_eq]⟩
   exact g.elim
  .rename_i M n hx;split at g
   .obtain⟨rfl,rfl⟩:=g;exact gF.fin j ⟨.int M (M.wrap (0-n)),by simp only[execOp,p,j.bY hx];rfl,by simp[vw,A.Bm,bB]⟩
   exact g.elim
  exact g.elim
 case h_15 src dst x p=>-- convert
  split at g
  .rename_i q n hx;split at g
   .rename_i M C;split at g
    .rename_i ks ab;obtain⟨rfl,rfl⟩:=g;obtain⟨d1,YZ,-,vm,-⟩:=(jA E (t:=dst) (by rw[C];simp)).dq w;obtain⟨d2,ag,-,sJ,-⟩:=(jA E (t:=src) (by rw[ab];simp)).dq w;have e1:d1=.int M:=by rw[C]at vm;cases d1<;>simp[sF]at vm;rw[vm]
     have e2:d2=.int ks:=by rw[ab]at sJ;cases d2<;>simp[sF]at sJ;rw[sJ]
     subst e1 e2;have Q:(Go.convert src dst (.int q n)).run P w=.ok (.int M (A.conv M n)) w:=by rw[A.cXZ];simp[Go.convert,YZ,ag,Conv.intToInt]
     exact gF.fin j ⟨_,by simp only[execOp,p,j.bY hx];rw[Se Q];rfl,rfl⟩
    exact g.elim
   obtain⟨r,I,rfl,rfl⟩:=(show EG _ _ _ from g).out;exact gF.fin j ⟨r,by simp only[execOp,p,j.bY hx];rw[Se (I w)];rfl,rfl⟩
  .rename_i u Y hx;obtain⟨r,I,rfl,rfl⟩:=(show EG _ _ _ from g).out;exact gF.fin j ⟨r,by simp only[execOp,p,j.bY hx];rw[Se (I w)];rfl,rfl⟩
  exact g.elim
 case h_16 t x p=>-- makeInterface
  split at g
  .exact g.elim
  .exact g.elim
  rename_i vm sJ;split at g
  .rename_i v hx;obtain⟨rfl,rfl⟩:=g;have G:=jA E (t:=t) (λe=>sJ e);obtain⟨d,hd,-,C,-⟩:=G.dq w;refine gF.fin j ⟨.iface t v,?_,rfl⟩;simp only[execOp,p,j.bY hx,Instr.makeInterface,mQY,hd,mQU];cases d<;>first
    |rfl
    | (exact absurd C (by simpa[sF]using vm))
  exact g.elim
 case h_17 fn f c p=>-- makeFunc
  split at g
  .rename_i fs V;split at g
   .rename_i cs ay;obtain⟨rfl,rfl⟩:=g;refine gF.fin j ⟨.func fn fs.toArray cs.toArray,?_,rfl⟩;simp only[execOp,p,ld j V,ld j ay];rfl
   exact g.elim
  exact g.elim
 case h_18 t x lo G mx p=>-- slice
  split at g
  .rename_i l hh m I O J;have e1:=GU j I;have e2:=GU j O;have W:=GU j J;split at g
   .rename_i e D;have R:=jA E (iL D);obtain⟨d,hd,-,C,-⟩:=R.dq w;obtain rfl:=rN (C ▸ D);split at g
    .exact g.elim
    rename_i H;have Z:=jA E (jj H);split at g
    .rename_i b len cap hx;obtain⟨v,B,aV⟩:=AK g;obtain⟨rfl,rfl⟩:=B;obtain⟨Lo,Hi,Mx,Q,rfl⟩:=Sm (P:=P) (A:=A) e1 e2 W (aV (λx=>x=v) rfl) w;refine gF.fin j ⟨_,?_,rfl⟩;simp only[execOp,p,j.bY hx,Instr.sliceAt,Instr.slice,mQY,hd,mQU,Q,Z.iI,mXf]
    exact g.elim
   .rename_i D;have R:=jA E (show(T.ty t).kd≠.none by rw[D];simp);obtain⟨d,hd,-,C,-⟩:=R.dq w;obtain rfl:=SY (C ▸ D);split at g
    .rename_i s hx;split at g
     .obtain⟨v,B,aV⟩:=AM g;obtain⟨rfl,rfl⟩:=B;obtain⟨Lo,Hi,Mx,Q,rfl⟩:=Sn (P:=P) (A:=A) e1 e2 (aV (λx=>x=v) rfl) w;have aj:mx.map a.eval=none:=by
       rcases W with W| ⟨n,k,W,-⟩
       .exact W.2
       cases W
      refine gF.fin j ⟨_,?_,rfl⟩;simp[execOp,p,j.bY hx,Instr.sliceAt,Instr.slice,hd,Q,aj]
     exact g.elim
    exact g.elim
   exact g.elim
  exact g.elim
 case h_19 b args argTypes p=>-- ar
  have yj:∀(vs:List Value),bl (args.toList.map (Sx.rq env))=some vs->
   (execOp a.eval o)=builtin b argTypes o.type (args.map λ| .const _=>true|_=>false) vs.toArray:=λvs B=>by
   simp only[execOp,p,resolve];rw[ld j B];rfl
  split at g
  .split at g
   .rename_i t ht;split at g
    .rename_i q n r B;split at g
     .rename_i e D;obtain⟨rfl,rfl⟩:=g;have R:=jA E (iL D);obtain⟨d,hd,-,C,-⟩:=R.dq w;obtain rfl:=rN (C ▸ D);refine gF.fin j ⟨.int .i64 (Int.ofNat n),?_,by simp[vw,A.nat_eq]⟩;rw[yj _ B];simp[builtin,Builtin.len_,ht,hd,goInt]
     exact g.elim
    .rename_i s B;split at g
     .rename_i D;obtain⟨rfl,rfl⟩:=g;have R:=jA E (show(T.ty t).kd≠.none by rw[D];simp);obtain⟨d,hd,-,C,-⟩:=R.dq w;obtain rfl:=SY (C ▸ D);refine gF.fin j ⟨.int .i64 (Int.ofNat s.size),?_,by simp[vw,A.aXQ]⟩;rw[yj _ B];simp[builtin,Builtin.len_,ht,hd,goInt]
     exact g.elim
    exact g.elim
   exact g.elim
  .split at g
   .rename_i t ht;split at g
    .rename_i q r n B;split at g
     .rename_i e D;obtain⟨rfl,rfl⟩:=g;have R:=jA E (iL D);obtain⟨d,hd,-,C,-⟩:=R.dq w;obtain rfl:=rN (C ▸ D);refine gF.fin j ⟨.int .i64 (Int.ofNat n),?_,by simp[vw,A.nat_eq]⟩;rw[yj _ B];simp[builtin,Builtin.cap_,ht,hd,goInt]
     exact g.elim
    exact g.elim
   exact g.elim
  .split at g
   .rename_i M x an y B;obtain⟨rfl,rfl⟩:=g;refine gF.fin j ⟨.int M (min x y),?_,by simp[vw,A.cQm]⟩;rw[yj _ B];simp only[builtin,Builtin.min_,nQn,nQm,Builtin.min2,mQY,mXf,mQU];congr 3;simp only[Int.min_def];split<;>split<;>omega
   exact g.elim
  .split at g
   .rename_i M x an y B;obtain⟨rfl,rfl⟩:=g;refine gF.fin j ⟨.int M (max x y),?_,by simp[vw,A.cQn]⟩;rw[yj _ B];simp only[builtin,Builtin.max_,nQn,nQm,Builtin.max2,mQY,mXf,mQU];congr 3;simp only[Int.max_def];split<;>split<;>omega
   exact g.elim
  exact g.elim
 case h_20 x q as ok p=>-- typeAssert
  split at g
  .rename_i u Y;obtain⟨r,I,rfl,rfl⟩:=(show EG _ _ _ from g).out;exact gF.fin j ⟨r,by simp only[execOp,p,j.bY Y];rw[Se (I w)];rfl,rfl⟩
  exact g.elim
 case h_21=>exact g.elim
variable {P:Program}{T:bu}{A:Ar}[bM A]
variable {ds:List Deferred}{h0:ad}{w0:World}{β:Nat->Nat}{env:Env}{L:Loc}{h:ad}{a:Act}{w:World}
theorem JM(z:List Value):∀(n i:Nat),i<n*z.length->(kx n z)[i]? =z[i % z.length]?
 |0,i,h=>by simp at h
 |n+1,i,h=>by
  unfold kx;rw[mJS,nQl];by_cases l:i<z.length
  .rw[mZw l,Nat.mod_eq_of_lt l]
  rw[mXJ (by omega)];have:=JM z n (i-z.length) (by rw[mXG]at h;generalize n*z.length=q at *;omega);unfold kx at this;rw[this,<-Nat.mod_eq_sub_mod (by omega)]
theorem gG(z:List Value)(n:Nat):(kx n z).length=n*z.length:=by simp[kx,List.length_flatten]
theorem range_zero(z:Array Value)(n:Nat):(Array.range (n*z.size)).map (λi=>z[i % z.size]!)=(kx n z.toList).toArray:=by
 apply Array.ext';apply mXM;intro i;by_cases h:i<n*z.size
 .have:=JM z.toList n i (by simpa using h);simp only[Array.toList_map,mXe,List.toList_toArray]at this |-;rw[this];have a:0<z.size:=by
   rcases mXI z.size with e|e
   .rw[e]at h;simp at h
   exact e
  have m:i % z.size<z.size:=mZV _ a;simp[Array.toList_range,h,m]
 rw[mXX (by simp;omega),mXX (by simp[gG];omega)]
theorem yI(i:Fo h w){n:Nat}(r:dXU h b (n*s) cs)(x y:Nat):
 (Builtin.firstCells s n (.slice b x y)).run P w=.ok cs.toArray w:=by
 rcases r with⟨e,rfl⟩|⟨q,rfl,r⟩
 .cases b with
  |none=>rfl
  |some q=>simp[Builtin.firstCells,e,loadCells,loadCellsFrom]
 obtain⟨g,c,d⟩:=r.cell i;simp only[Builtin.firstCells];rw[<-c];have:q=⟨q.block,q.off,none⟩:=by cases q;simp at g;rw[g]
 rw[this];exact run_loadCells_list (P:=P) w _ cs (λj v a=>by
  have f:j<cs.length:=by rw[mQB]at a;exact a.1
  rw[dF,d j f,a])
theorem Rn.run(s:Fo h w){q:Addr}{k:ad->Prop}(i:oS cs=true)(hx:Rn h q cs k):
 ∃w' h',(storeCells q cs).run P w=.ok () w'/\k h'/\bW h w h' w':=by
 obtain⟨c,e,fr,g,a,t,d,f⟩:=hx.out;have j:q=⟨q.block,q.off,none⟩:=by cases q;simp at g;rw[g]
 obtain⟨w',l,m,n,p,r⟩:=rH (P:=P) (b:=q.block) (o:=q.off) (e:=e) (fr:=fr) cs 0 c w (s _ _ a) (by omega) (by simpa using d) i;refine⟨w',_,?_,f _ rfl,?_⟩
 .rw[j];exact l
 exact bW.set s a (by simpa using m) n p r
theorem dQA.run(s:Fo h w){k:ad->Prop}(a:oS cs=true)(hx:dQA h b cs k):
 ∃w' h',((match b with|some q=>storeCells q cs|none=>pure ()):Sem Unit).run P w=.ok () w'/\k h'/\bW h w h' w':=by
 rcases hx with⟨rfl,c⟩|⟨q,rfl,hx⟩
 .refine⟨w,h,?_,c,bW.refl s⟩;cases b<;>rfl
 exact hx.run s a
theorem KT(n:Nat)(a:256<=n):∀(r c:Nat),c<=2*n->Builtin.growBy n r c<=2*n
 |0,c,h=>h
 |r+1,c,h=>by
  unfold Builtin.growBy;split
  .exact h
  exact KT n a r _ (by omega)
theorem SG(n c:Nat)(h:c<n):Builtin.nextslicecap n c<=2*n:=by
 unfold Builtin.nextslicecap;split
 .omega
 split
 .omega
 exact KT n (by omega) 4 c (by omega)
theorem Me:(2:Int)^48=281474976710656:=rfl
theorem aZv:(2:Nat)^48=281474976710656:=rfl
theorem Jc.run(V:Fo h w){len n:Nat}{new:List Value}{k:Value->ad->Prop}(hx:Jc h b len cap n s bytes e new k)
 {t u:TypeId} {r:Array TypeId} (h0:r[0]? =some t) (p:r[1]? =some u) {g:TypeDesc} (hu:P.underlying t=some (.slice e)) (ab:P.underlying u=some g)
 {i:Ti} (U:Dt P e i) (mX:i.size=s) (rR:i.bytes=bytes) (hz:i.zero.length=s) {x:Value}
 (B:(∃q m,x=.slice q n m/\(∀l,g≠.int l)/\dXU h q (n*s) new)\/(∃l k' j,x=.int l j/\g=.int k'/\j.toNat=n/\0<=j/\j<=2^48/\j*bytes<=2^48/\new=kx n i.zero)) (ty:TypeId):
 ∃v w' h',(Builtin.append_ r ty #[.slice b len cap,x]).run P w=.ok v w'/\k v h'/\bW h w h' w':=by
 obtain⟨z,Y,Co⟩:=U.rG w;have aj:z.cells.size=s:=by rw[<-hz,<-Co];simp
 have M:∀W,(underlying t).run P W=.ok (.slice e) W:=λW=>by simp[underlying,hu]
 have E:∀W,(underlying u).run P W=.ok g W:=λW=>by simp[underlying,ab]
 have X:∀W,(zeroValue e).run P W=.ok z W:=λW=>by
  obtain⟨H,d',z',e1,-,e3,-⟩:=U.ex;simp[zeroValue,typeInfo,e1,e3]at Y |-;exact Y
 obtain⟨d,J,lY,jq⟩:∃d,(∀W,(typeInfo e).run P W=.ok d W)/\i.size=d.size/\i.bytes=d.bytes:=by obtain⟨H,d',z',e1,-,e3,-,e4,e5,-⟩:=U.ex;exact⟨H,λW=>by simp[typeInfo,e1],e4,e5⟩
 have C:∀W,(sizeOf e).run P W=.ok s W:=λW=>by rw[U.iI,mX]
 have hm:(∃q m,x=.slice q n m/\(∀l,g≠.int l)/\dXU h q (n*s) new)->(match g with| .int _=>true|_=>false)=false:=λ⟨_,_,_,K,_⟩=>by
  cases g<;>first
   |rfl
   |exact absurd rfl (K _)
 have Q:∀m,Builtin.zeroCells z.cells m=(kx m i.zero).toArray:=λm=>by
  unfold Builtin.zeroCells;rw[range_zero,Co]
 by_cases I:len+n<=cap
 .obtain⟨w',h',k1,k2,k3⟩:=(hx.fits I).run (P:=P) V hx.one;refine⟨_,w',h',?_,k2,k3⟩;have fin:Sem.run P (match b with
   |some a=>Functor.map (λa=>Value.slice b (len+n) cap) (storeCells (a.add (len*s)) new)
   |x=>pure (Value.slice b (len+n) cap)) w=Result.ok (Value.slice b (len+n) cap) w':=by
   cases b with
   |none=>simp at k1;simp[k1]
   |some q=>simp at k1;simp[k1]
  rcases B with⟨q,m,rfl,K,G⟩|⟨l,kq,j,rfl,rfl,T,KP,O,ag,rfl⟩
  .have kX:=hm ⟨q,m,rfl,K,G⟩;simp[Builtin.append_,h0,p,M,E,C,kX,Builtin.lenOf,I,yI V G];exact fin
  have Z:IntKind.i64.wrap j=j:=IntWalk.i64_in j (by omega);have y:¬j<0:=by omega
  have f:¬(281474976710656:Int)<j*d.bytes:=by rw[<-jq,rR,<-Me];omega
  by_cases o:n*s=0
  .have ch:kx n i.zero=[]:=mXd (by rw[gG,hz,o]);rw[ch]at fin;simp[Builtin.append_,h0,p,M,E,C,asInt,asIntOf,Z,y,J,f,T,I,o];exact fin
  simp[Builtin.append_,h0,p,M,E,C,asInt,asIntOf,Z,y,J,f,T,I,o,X,Q];exact fin
 obtain⟨b1,b2,L,ho,tY⟩:=hx.cKO (by omega);have Zb:¬(281474976710656<Builtin.nextslicecap (len+n) cap*d.bytes):=by
  have:=SG (len+n) cap (by omega);have:=mXu d.bytes this;rw[<-jq,rR]at this |-;have e:(2:Nat)^48=281474976710656:=by rfl
  omega
 have CG:¬((9223372036854775807:Int)<(len:Int)+n):=by rw[aZv]at b2;omega
 have Wr:Fo h w.drew:=V;have D:(Question.appendCap (len+n) cap e).forced=false:=rfl;obtain⟨c,R⟩:∃c,(Question.appendCap (len+n) cap e).cut (w.tape w.drawn (Question.appendCap (len+n) cap e))=c:=⟨_,rfl⟩;have hc:len+n<=c:=by rw[<-R];simp[Question.cut]
 have hold:(Builtin.firstCells s len (.slice b len cap)).run P w.drew=.ok L.toArray w.drew:=yI Wr ho len cap;obtain⟨rest,S⟩:∃rest,rest=kx (c-(len+n)) i.zero:=⟨_,rfl⟩;have KI:rest.length=(c-(len+n))*s:=by rw[S,gG,hz]
 have F:=bW.new Wr (.cells (L++new++rest).toArray e (0,0));have ak:w.drew.heap.size=w.heap.size:=rfl;refine⟨.slice (some ⟨w.heap.size,0,none⟩) (len+n) c,w.drew.alloc (.cells (L++(new++rest)).toArray e),_,?_,tY w.heap.size c _ rest (V.qQ (mQD _)) hc KI rfl,?_⟩;rotate_left
 .rw[<-mXk];exact⟨F.os,F.tape,F.output,F.size,F.IV,F.frame⟩
 rcases B with⟨q,m,rfl,K,G⟩|⟨l,kq,j,rfl,rfl,T,KP,O,ag,N⟩
 .have kX:=hm ⟨q,m,rfl,K,G⟩;have af:(Builtin.firstCells s n (.slice q n m)).run P w.drew=.ok new.toArray w.drew:=yI Wr G n m;simp[Builtin.append_,h0,p,M,E,C,kX,Builtin.lenOf,I,J,Zb,CG,D,hold,af,X,Q,newRow,R,<-S]
 have Z:IntKind.i64.wrap j=j:=IntWalk.i64_in j (by rw[Me]at O;omega);have y:¬j<0:=by omega
 have f:¬(281474976710656:Int)<j*d.bytes:=by rw[<-jq,rR,<-Me];omega
 subst T;have A:¬((9223372036854775807:Int)<(len:Int)+max j 0):=by rw[aZv]at b2;omega
 by_cases o:j.toNat*s=0
 .have ch:new=[]:=by rw[N];exact mXd (by rw[gG,hz,o])
  simp[Builtin.append_,h0,p,M,E,C,asInt,asIntOf,Z,y,J,f,I,Zb,CG,D,hold,o,X,Q,newRow,R,<-S,ch,A]
 simp[Builtin.append_,h0,p,M,E,C,asInt,asIntOf,Z,y,J,f,I,Zb,CG,D,hold,o,X,Q,newRow,R,<-S,<-N,A]
variable {P:Program}{T:bu}{A:Ar}[bM A]
variable {ds:List Deferred}{h0:ad}{w0:World}{β:Nat->Nat}{env:Env}{L:Loc}{h:ad}{a:Act}{w:World}
def gZp(Lc L FU L':Loc):Prop:=(FU=Lc/\L'=L)\/∃s c x y,mM Lc s=some x/\mM L s=some y/\FU=Bz Lc s c/\L'=Bz L s c
theorem Aw.run(s:Fo h w){l c:Int}{kl kc:IntKind}{k:Value->ad->Prop}(hx:Aw h e l c bytes z k)
 {t:TypeId} (A:P.underlying t=some (.slice e)) {i:Ti} (b:Dt P e i) (R:i.bytes=bytes) (u:i.zero=z) (F:z.length=i.size):
 ∃v w' h',(Instr.makeSlice t (.int kl l) (.int kc c)).run P w=.ok v w'/\k v h'/\bW h w h' w':=by
 obtain⟨I,L⟩:=hx.len;obtain⟨E,G⟩:=hx.room;rw[Me]at E G;obtain⟨x,a,C⟩:=b.rG w;obtain⟨H,J,Y,B⟩:=b.OK w;have q:=b.iI w;have M:(underlying t).run P w=.ok (.slice e) w:=by simp[underlying,A]
 have g:IntKind.i64.wrap l=l:=IntWalk.i64_in l (by omega);have j:IntKind.i64.wrap c=c:=IntWalk.i64_in c (by omega);have D:=bW.new s (.cells (kx c.toNat z).toArray e (0,0));refine⟨_,_,_,?_,hx.out w.heap.size _ (s.qQ (mQD _)) rfl,D⟩;have m:¬c<0:=by omega
 have o:¬((281474976710656:Int)<(H.bytes:Int)*c):=by rw[<-B,R];omega
 have p:¬l<0:=by omega
 have r:¬c<l:=by omega
 have d:x.cells.size=i.size:=by rw[<-F,<-u,<-C];simp
 have f:=range_zero x.cells c.toNat;rw[d,C,u]at f;by_cases n:c.toNat*i.size=0
 .have y:kx c.toNat z=[]:=mXd (by rw[gG,F,n]);have K:(Array.map (λ(_:Nat)=>(default:Value)) (Array.range 0))= #[]:=by simp
  simp[Instr.makeSlice,M,asInt,asIntOf,J,g,j,m,o,p,r,q,n,newRow,y,K]
 simp[Instr.makeSlice,M,asInt,asIntOf,J,g,j,m,o,p,r,q,n,newRow,a,d,f]
theorem Xn{n:Nat}(h:n*z.length=0):kx n z=[]:=mXd (by rw[gG,h])
theorem EP{a b:List Value}(h:oS a=true)(d:oS b=true):oS (a++b)=true:=by
 induction a with
 |nil=>exact d
 |cons x r i=>
  simp only[mJo,oS]at h |-;cases c:one x with
  |true=>simp only[c]at h |-;exact i h
  |false=>simp only[c]at h;cases h
theorem AU(h:oS z=true):∀n,oS (kx n z)=true
 |0=>rfl
 |n+1=>by
  unfold kx;rw[mJS,nQl];exact EP h (AU h n)
theorem rj(d:gE P T){g:FuncId}(f:T.fn g=true)(args:Array Value)(w:World):(callFunc g args).run P w=.ok (.enter g args) w:=by obtain⟨fn,h,a,b⟩:=d.fn g f;obtain⟨c,e⟩:=mZA.1 a;simp[callFunc,h,b,e]
abbrev FW(ro:Option Nat):Fence:={ Fence.wide with round:=ro }
variable {ro:Option Nat}{n:Nat}
def qN(T:bu)(ds:List Deferred)(h0:ad)(w0:World)(Q:Exit->Act->World->Prop):Prop:=
 ∀c β env L h a w,T.kp c (T.rs.map λt=>Sx.rq env (.tmp t)) h->eO ds h0 w0 β env L h a w->Q (.panic c) a w
theorem uo{next:Act->World->Prop}(K:∀c,o.op≠.defer c){r:Result Next}(b:(execOp a.eval o).run P w=r)(h:o.uponIn (FW ro) n P a next Q r):o.wpIn (FW ro) n P a w next Q:=by unfold Oper.wpIn;refine⟨λ_ _=>trivial,?_⟩;rw[Oper.semAt_eq _ _ _ K,b];exact h
theorem BV{r:Next}(h:(execOp a.eval o).run P w=.ok r w')(n:∀d,r≠.defer d):∀c,o.op≠.defer c:=λc b=>by
 simp only[execOp,b,mQY]at h;cases hx:(resolve a.eval c o.type).run P w with
 |ok d e=>rw[hx]at h;simp only[mQU,mXf]at h;cases h;exact n _ rfl
 |halt=>rw[hx]at h;cases h
theorem wV{next:Act->World->Prop}{v:Value}(r:(execOp a.eval o).run P w=.ok (.value v) w')(h:next (a.put o.dst v) w'):o.wpIn (FW ro) n P a w next Q:=
 uo (BV r (λ_ e=>by cases e)) r h
theorem NV{next:Act->World->Prop}(r:(execOp a.eval o).run P w=.ok .skip w')(h:next (a.put o.dst undef) w'):o.wpIn (FW ro) n P a w next Q:=
 uo (BV r (λ_ e=>by cases e)) r h
set_option maxHeartbeats 2000000 in
theorem Tf(N:gE P T)(p:eO ds h0 w0 β env L h a w){Lc:Loc}(aZ:∀s c,mM L s=some c->mM Lc s=some c){k:SV->Loc->ad->Prop}
 (j:hx A T (λ_=>P) o (Sx.rq env) Lc h k) {next:Act->World->Prop} 
 (mZ:qN T ds h0 w0 Q) (hn:∀sv v FU L' h' w',k sv FU h'->eO ds h0 w0 β (put env o.dst sv) L' h' (a.put o.dst v) w'->gZp Lc L FU L'->next (a.put o.dst v) w'):o.wpIn (FW ro) n P a w next Q:=by
 have val:∀ {v:Value} {w':World} {h':ad},(execOp a.eval o).run P w=.ok (.value v) w'->k (.v v) Lc h'->bW h w h' w'->o.wpIn (FW ro) n P a w next Q:=λ{v w' h'} G Jz ha=>
  wV G (hn _ _ _ _ _ _ Jz ((p.step ha).put rfl) (.inl ⟨rfl,rfl⟩))
 have au:∀ {w':World} {h':ad},(execOp a.eval o).run P w=.ok .skip w'->k (.v undef) Lc h'->bW h w h' w'->o.wpIn (FW ro) n P a w next Q:=λ{w' h'} G Jz ha=>
  NV G (hn _ _ _ _ _ _ Jz ((p.step ha).put rfl) (.inl ⟨rfl,rfl⟩))
 have H:=p.after.IV;have X:∀ {s:Sem Value},fW (λ_=>P) (λ_=>s) h (λr h'=>k (.v r) Lc h')->execOp a.eval o=(do pure (.value (<-s)))->o.wpIn (FW ro) n P a w next Q:=λ{s} hx D=>by
  obtain⟨v,w',h',C,J,M⟩:=hx.out w H;exact val (by rw[D,mQY,C];rfl) J M
 have ak:∀ {s:Sem Unit},fW (λ_=>P) (λ_=>do s;pure undef) h (λ_ h'=>k (.v undef) Lc h')->execOp a.eval o=(do s;pure .skip)->o.wpIn (FW ro) n P a w next Q:=λ{s} hx D=>by
  obtain⟨v,w',h',C,J,M⟩:=hx.out w H;rw[mQY]at C;cases G:s.run P w with
  |ok u w1=>rw[G]at C;simp only[mQU,mXf]at C;cases C;exact au (by rw[D,mQY,G];rfl) J M
  |halt=>rw[G]at C;cases C
 unfold hx at j;split at j;case h_1 x B=>-- assign
  have G:(execOp a.eval o).run P w=.ok (.value (a.eval x)) w:=by simp only[execOp,B];rfl
  refine wV G ?_;exact hn _ _ _ _ _ _ j (p.put (p.rq x)) (.inl ⟨rfl,rfl⟩)
 case h_2 t q x B=>-- store
  split at j
  .exact j.elim
  rename_i O;have hi:=jA N (jj O);split at j
  .rename_i v E;split at j
   .exact j.elim
   rename_i mX;have aH:v.cells.size=(T.ty t).size:=by simpa using mX
   split at j
   .exact j.elim
   rename_i U;have ig:∀ {y:Addr} {w':World},(storeCells y v.cells.toList).run P w=.ok () w'->(Instr.storeAt t (.pointer (some y)) v).run P w=.ok () w':=λ{y w'} G=>by
    simp only[Instr.storeAt,Instr.sureAddr,mQY,mXf,mQU,storeVar,hi.iI,aH];simp[G]
   split at j
   .rename_i s off hq;split at j
    .rename_i c hc;obtain⟨⟨c',wG⟩,az⟩:=p.uV hq;have:c'=c:=by have:=aZ _ _ wG;rw[hc]at this;cases this;rfl
     subst this;split at j
     .rename_i hd;have aP:=mQL hd;obtain⟨-,-,e,D⟩:=p.loc s c' wG;obtain⟨w',C,J,M,k4,k5⟩:=rH (P:=P) (b:=β s) (o:=off) (e:=e) (fr:=(0,0)) v.cells.toList 0 c'.toArray w D (by simpa using aP) (by simp) U;have G:(execOp a.eval o).run P w=.ok .skip w':=by simp only[execOp,B,az,p.bY E,mQY,ig C,mQU,mXf]
      refine NV G ?_;refine hn _ _ _ (Bz L s (jS c' off v.cells.toList)) _ _ j (eO.put ?_ rfl) (.inr ⟨s,_,c',c',hc,wG,rfl,rfl⟩);refine p.dXB wG (λe' aw=>?_) M k4 k5;rw[D]at aw;cases aw;simpa using J
     exact j.elim
    exact j.elim
   .rename_i y hq;obtain⟨w',h',C,J,M⟩:=(show Rn h y v.cells.toList _ from j).run (P:=P) H U;exact au (by simp only[execOp,B,p.bY hq,p.bY E,mQY,ig C,mQU,mXf]) J M
   exact j.elim
  exact j.elim
 case h_3 e B=>-- alloc
  split at j
  .exact j.elim
  rename_i O;obtain⟨z,hz,Co⟩:=(jA N (jj O)).rG w;refine val ?_ (j w.heap.size _ (H.qQ (mQD _)) rfl) (bW.new H _);simp only[execOp,B,Instr.alloc,mQY,hz,mQU,newVar,newRow,run_newObj,mXf];rw[<-Co]
 case h_4 e x B=>-- box
  split at j
  .rename_i v E;refine val ?_ (j w.heap.size _ (H.qQ (mQD _)) rfl) (bW.new H _);simp only[execOp,B,Instr.box,mQY,mQU,newVar,newRow,run_newObj,mXf,p.bY E]
  exact j.elim
 case h_5 t len parts B=>-- buildSlice
  split at j
  .rename_i e D;have V:=jA N (iL D);obtain⟨d,hd,YW,O,-⟩:=V.dq w;obtain rfl:=rN (O ▸ D);split at j
   .exact j.elim
   rename_i K;have W:=jA N (jj K);split at j
   .rename_i ps aW;split at j
    .rename_i ar Fz;have ar:len*(T.ty e).size<=2^24:=mQL ar;have YK:(T.ty e).zero.length=(T.ty e).size:=by simpa using Fz
     split at j
     .rename_i cs ay;refine val ?_ (j w.heap.size _ (H.qQ (mQD _)) rfl) (bW.new H _);obtain⟨zz,af,Co⟩:=W.rG w;have al:zz.cells.size=(T.ty e).size:=by rw[<-YK,<-Co];simp
      have an:=range_zero zz.cells len;rw[al,Co]at an;have Gk:(parts.map λ(i,x)=>(i,a.eval x))=ps.toArray:=by rw[<-xG p aW];apply Array.ext';simp
      have Y:=fill_eq (λi=>some (i*(T.ty e).size,(T.ty e).size)) ps (kx len (T.ty e).zero).toArray cs (by simpa using ay);have aY:¬(2^24<len*(T.ty e).size):=by omega
      by_cases nf:len*(T.ty e).size=0
      .have ch:kx len (T.ty e).zero=[]:=Xn (by rw[YK,nf]);rw[ch]at Y;have lK:(Array.map (λ(_:Nat)=>(default:Value)) (Array.range 0))= #[]:=by simp
       simp only[List.toArray]at Y;simp[execOp,B,Instr.buildSlice,hd,W.iI,nf,Gk,Y,newRow,lK]
      have aK:¬(16777216<len*(T.ty e).size):=aY;simp[execOp,B,Instr.buildSlice,hd,W.iI,aK,nf,Gk,Y,newRow,af,al,an]
     exact j.elim
    exact j.elim
   exact j.elim
  exact j.elim
 case h_6 t l c B=>-- makeSlice
  split at j
  .rename_i e D;have V:=jA N (iL D);obtain⟨d,hd,YW,O,-⟩:=V.dq w;obtain rfl:=rN (O ▸ D);split at j
   .exact j.elim
   rename_i K;have W:=jA N (jj K);split at j
   .rename_i kl l' hl;split at j
    .rename_i kc c' hc;split at j
     .rename_i Fz;obtain⟨v,w',h',C,J,M⟩:=Aw.run (P:=P) (kl:=kl) (kc:=kc) H j YW W rfl rfl (by simpa using Fz);exact val (by simp only[execOp,B,p.bY hl,p.bY hc,mQY,C,mQU,mXf]) J M
     exact j.elim
    exact j.elim
   exact j.elim
  exact j.elim
 case h_7 t r B=>-- makeMap
  split at j
  .exact val (by simp[execOp,B,Instr.makeMap]) (j w.heap.size _ (H.qQ (mQD _)) rfl) (bW.new H _)
  exact j.elim
 case h_8 f args argTypes B=>-- call
  split at j
  .rename_i g first cap hf
   split at j
   .rename_i S has;split at j
    .rename_i hg;have G:(execOp a.eval o).run P w=.ok (.enter g (first++S.toArray++cap)) w:=by simp only[execOp,B,resolve,p.bY hf,ld p has,Deferred.ofValue,mQY,mXf,mQU,invoke,rj N hg]
     refine uo (BV G (λ_ e=>by cases e)) G ?_;refine⟨λhd=>by simp[FW,Fence.wide]at hd,?_⟩;have D:(first.toList++S++cap.toList).toArray=first++S.toArray++cap:=by apply Array.ext';simp
     split at j
     .have:=callsIn_wide (n:=n-1).2 ((show Rr _ _ _ _ _ _ from j).out w H);rw[D]at this;refine CallsIn.mono (F:=FW ro) (show CallsIn (FW ro) (n-1) P g _ w _ from this) λe w' hq=>?_;rcases hq with⟨v,h',U,h2,h3⟩|⟨c,h',U,h2,h3⟩
      .subst U;exact hn _ _ _ _ _ _ h2 ((p.step h3).put rfl) (.inl ⟨rfl,rfl⟩)
      subst U;exact mZ c _ _ _ _ _ _ h2 (p.step h3)
     have:=callsIn_wide (n:=n-1).2 ((show aQI _ _ _ _ _ from j).out w H);rw[D]at this;refine CallsIn.mono (F:=FW ro) (show CallsIn (FW ro) (n-1) P g _ w _ from this) λe w' ⟨v,h',U,h2,h3⟩=>?_;subst U;exact hn _ _ _ _ _ _ h2 ((p.step h3).put rfl) (.inl ⟨rfl,rfl⟩)
    obtain⟨v,w',h',C,J,M⟩:=(show fW _ _ _ _ from j).out w H;refine val ?_ J M;have D:(first.toList++S++cap.toList).toArray=first++S.toArray++cap:=by apply Array.ext';simp
    simp only[Iu]at C;rw[D,mQY]at C;simp only[execOp,B,resolve,p.bY hf,ld p has,Deferred.ofValue,mQY,mXf,mQU,invoke];cases G:(callFunc g (first++S.toArray++cap)).run P w with
    |ok n w1=>
     rw[G]at C;simp only[mQU]at C;cases n with
     |value z=>simp only[mXf]at C;cases C;rfl
     |_=>simp at C
    |halt=>rw[G]at C;cases C
   exact j.elim
  .rename_i l first cap hf
   split at j
   .rename_i S has;obtain⟨fn,ab,Fk,Z,g1,R⟩:=(show cZH _ _ _ _ _ from j).out w H;have D:(first.toList++S).toArray=first++S.toArray:=by apply Array.ext';simp
    have G:(execOp a.eval o).run P w=.ok (.round l fn ab Fk Z) w:=by rw[D]at g1;simp only[execOp,B,resolve,p.bY hf,ld p has,Deferred.ofValue,mQY,mXf,mQU,invoke,g1]
    refine uo (BV G (λ_ e=>by cases e)) G ?_;refine⟨λhd=>by simp[FW,Fence.wide]at hd,?_⟩;refine RoundIn.mono (F:=FW ro) (show RoundIn (FW ro) (n-1) P l fn ab Fk Z w _ from R (n-1)) λe w' ⟨v,h',U,h2,h3⟩=>?_;subst U;exact hn _ _ _ _ _ _ h2 ((p.step h3).put rfl) (.inl ⟨rfl,rfl⟩)
   exact j.elim
  exact j.elim
 case h_9 b args argTypes B=>-- ba
  have yj:∀(vs:List Value),bl (args.toList.map (Sx.rq env))=some vs->
   (execOp a.eval o)=builtin b argTypes o.type (args.map λ| .const _=>true|_=>false) vs.toArray:=λvs E=>by
   simp only[execOp,B,resolve];rw[ld p E];rfl
  split at j
  .split at j -- append
   .rename_i t u ht I;split at j
    .rename_i e D;have V:=jA N (iL D);obtain⟨d,hd,YW,O,-⟩:=V.dq w;obtain rfl:=rN (O ▸ D);split at j
     .exact j.elim
     rename_i K;have W:=jA N (jj K);split at j
     .exact j.elim
     rename_i Fz;have YK:(T.ty e).zero.length=(T.ty e).size:=by simpa using Fz
     split at j
     .rename_i b' len cap x n q E;split at j
      .rename_i e2 Ep;obtain⟨d2,-,aj,ag,-⟩:=(jA N (iL Ep)).dq w;obtain rfl:=rN (ag ▸ Ep);obtain⟨new,g1,R⟩:=(show iU _ _ _ _ _ _ _ _ _ _ from j).out;obtain⟨v,w',h',C,J,M⟩:=R.run (P:=P) H ht I YW aj W rfl rfl YK (.inl ⟨x,q,rfl,λ_=>by simp,g1⟩) o.type;exact val (by rw[yj _ E];simp only[builtin,mQY,C,mQU,mXf]) J M
      exact j.elim
     .rename_i b' len cap kk n E;split at j
      .rename_i Ep;obtain⟨d2,-,aj,ag,-⟩:=(jA N (show(T.ty u).kd≠.none by rw[Ep];simp)).dq w;obtain⟨k',rfl⟩:∃k',d2=.int k':=by rw[ag]at Ep;cases d2<;>simp[sF]at Ep;exact⟨_,rfl⟩
       obtain⟨⟨c1,c2,c3⟩,R⟩:=(show wI _ _ from j);have R:=R.out;rw[show A.su n 0=n.toNat by rw[A.Ey];simp]at R;obtain⟨v,w',h',C,J,M⟩:=Jc.run (P:=P) H R ht I YW aj W rfl rfl YK (x:=.int kk n) (.inr ⟨kk,k',n,rfl,rfl,rfl,c1,c2,c3,rfl⟩) o.type;exact val (by rw[yj _ E];simp only[builtin,mQY,C,mQU,mXf]) J M
      exact j.elim
     exact j.elim
    exact j.elim
   exact j.elim
  .split at j -- copy
   .rename_i t ht;split at j
    .rename_i e D;have V:=jA N (iL D);obtain⟨d,hd,YW,O,-⟩:=V.dq w;obtain rfl:=rN (O ▸ D);split at j
     .exact j.elim
     rename_i K;have W:=jA N (jj K);split at j
     .rename_i b' len q x n q' E;obtain⟨cs,g1,R,g3⟩:=(show Ja _ _ _ _ _ _ _ from j).out;obtain⟨w',h',C,J,M⟩:=g3.run (P:=P) H R;refine val ?_ J M;rw[yj _ E];have hf:=yI (P:=P) H g1 n q';have YS:Nat.min n len=min n len:=rfl;simp[builtin,Builtin.copy_,ht,hd,Builtin.lenOf,W.iI,YS,hf,goInt];cases b' with
      |none=>simp at C;simp[C]
      |some y=>simp at C;simp[C]
     exact j.elim
    exact j.elim
   exact j.elim
  .split at j -- clear
   .rename_i t ht;split at j
    .rename_i e D;have V:=jA N (iL D);obtain⟨d,hd,YW,O,-⟩:=V.dq w;obtain rfl:=rN (O ▸ D);split at j
     .exact j.elim
     rename_i K;have W:=jA N (jj K);split at j
     .exact j.elim
     rename_i Fz;have YK:(T.ty e).zero.length=(T.ty e).size:=by simpa using Fz
     split at j
     .rename_i b' len q E;obtain⟨R,g3⟩:=(show Bo _ _ _ _ _ from j);obtain⟨w',h',C,J,M⟩:=g3.run (P:=P) H (AU R len);refine val ?_ J M;rw[yj _ E];obtain⟨zz,af,Co⟩:=W.rG w;have aV:Builtin.zeroCells zz.cells len=(kx len (T.ty e).zero).toArray:=by unfold Builtin.zeroCells;rw[range_zero,Co]
      cases b' with
      |none=>simp at C;subst C;simp[builtin,Builtin.clear_,ht,hd]
      |some y=>
       simp at C;cases len with
       |zero=>have:kx 0 (T.ty e).zero=[]:=rfl;rw[this]at C;simp[storeCells]at C;subst C;simp[builtin,Builtin.clear_,ht,hd]
       |succ m=>simp[builtin,Builtin.clear_,ht,hd,af,aV,C]
     exact j.elim
    exact j.elim
   exact j.elim
  .split at j -- delete
   .rename_i S has;exact X j (by rw[yj _ has];rfl)
   exact j.elim
  exact j.elim
 case h_10 src dst x B=>-- convert
  split at j
  .rename_i u I;exact X j (by simp only[execOp,B,p.bY I])
  exact j.elim
 case h_11 t x i b B=>-- lookup
  split at j
  .rename_i u I;split at j
   .rename_i v E;exact X j (by simp only[execOp,B,p.bY I,p.bY E])
   exact j.elim
  exact j.elim
 case h_12 t m i x B=>-- mapUpdate
  split at j
  .rename_i u I;split at j
   .rename_i v E;split at j
    .rename_i z hz;exact ak j (by simp only[execOp,B,p.bY I,p.bY E,p.bY hz])
    exact j.elim
   exact j.elim
  exact j.elim
 case h_13 t m i B=>-- mapEntry
  split at j
  .rename_i u I;split at j
   .rename_i v E;exact X j (by simp only[execOp,B,p.bY I,p.bY E])
   exact j.elim
  exact j.elim
 case h_14 t m i x B=>-- entryStore
  split at j
  .rename_i u I;split at j
   .rename_i v E;split at j
    .rename_i z hz;exact ak j (by simp only[execOp,B,p.bY I,p.bY E,p.bY hz])
    exact j.elim
   exact j.elim
  exact j.elim
 case h_15 t x B=>-- range
  split at j
  .rename_i u I;exact X j (by simp only[execOp,B,p.bY I])
  exact j.elim
 case h_16 it str B=>-- next
  split at j
  .rename_i u I;exact X j (by simp only[execOp,B,p.bY I])
  exact j.elim
 case h_17 it B=>-- entry
  split at j
  .rename_i u I;exact X j (by simp only[execOp,B,p.bY I])
  exact j.elim
 case h_18 t m i x B=>-- insert
  split at j
  .rename_i u I;split at j
   .rename_i v E;split at j
    .rename_i z hz;exact ak j (by simp only[execOp,B,p.bY I,p.bY E,p.bY hz])
    exact j.elim
   exact j.elim
  exact j.elim
 case h_19 x B=>-- panic
  split at j
  .rename_i t v E;have G:(execOp a.eval o).run P w=.halt (.panic (.iface t v)) w:=by simp only[execOp,B,p.bY E,mQY,show(Instr.panic (.iface t v)).run P w=.halt (.panic (.iface t v)) w from rfl];rfl
   refine uo (λc hc=>by rw[hc]at B;cases B) G ?_;rw[Oper.uponIn_panic];exact mZ _ _ _ _ _ _ _ j p
  exact j.elim
 case h_20=>exact j.elim
end Go.Sx
